/-
  The program, one part of its walk: Ut3, Ut4, Cm1, Cm2. Conditions: none.
-/
import Derived.Test.YtakkmiomhackiaaGreatDoorPc10
import Derived.Test.YtakkmiomhackiaaGreatDoorPc03
import Derived.Test.YtakkmiomhackiaaGreatDoorPc09
import Derived.Test.YtakkmiomhackiaaGreatDoorPc11
set_option linter.all false
set_option maxRecDepth 100000
set_option maxHeartbeats 16000000
namespace Go.Proofs.YtakkmiomhackiaaGreatDoor
open Go.RowKit
def FeedsBad (w : World) (b pl : Nat) : Prop := ∃ a0 a1 a2 a3 : UInt8, w.heap[b]? = some (.cells #[.int .i64 pl, .int .u8 ((a0.toNat : Nat) : Int), .int .u8 ((a1.toNat : Nat) : Int), .int .u8 ((a2.toNat : Nat) : Int), .int .u8 ((a3.toNat : Nat) : Int), .int .i64 0, .bool true] 305 (0, 0))
theorem fault_good (w : World) (b pl : Nat) (held : List UInt8) (h : Feeds w b pl held) : Calls Tryz.prog 191 #[.pointer (some ⟨b, 0, none⟩)] w fun e w' => e = .returned .nilIface ∧ w' = w :=
 Dr.fault_good w b pl held h
theorem fault_bad (w : World) (b pl : Nat) (h : FeedsBad w b pl) : Calls Tryz.prog 191 #[.pointer (some ⟨b, 0, none⟩)] w fun e w' => e = .returned (.iface 151 (.agg #[.int .i64 30, .int .i64 pl])) ∧ w' = w :=
 Dr.fault_bad w b pl h
theorem feedAll_none (l : List UInt8) : l.foldl (fun a c => a.bind fun h => feedOne h c) (none : Option (List UInt8)) = none := by
 induction l with
 | nil => rfl
 | cons x l ih => exact ih
theorem feedAll_take {held l : List UInt8} {k : Nat} (h : k < l.length) : feedAll held (l.take (k + 1)) = (feedAll held (l.take k)).bind fun h => feedOne h l[k] := by
 unfold feedAll;rw [List.take_add_one, List.getElem?_eq_getElem h, List.foldl_append]; rfl
theorem feedAll_stop {held l : List UInt8} {k : Nat} (h : feedAll held (l.take k) = none) : feedAll held l = none := by
 unfold feedAll at *
 conv => lhs; rw [← List.take_append_drop k l, List.foldl_append, h]
 exact feedAll_none _
def BytesAt (w : World) (b : Nat) (a : Option Addr) (l : List UInt8) : Prop := l = [] ∨ ∃ g off, a = some ⟨g, off, none⟩ ∧ g ≠ b ∧ g < w.heap.size ∧ ∀ i x, l[i]? = some x → w.cell? ⟨g, off + i, none⟩ = some (.int .u8 ((x.toNat : Nat) : Int))
def feedRet (w' : World) (b pl n : Nat) (o : Option (List UInt8)) (e : Ending) : Prop := match o with
 | some h => e = .returned .nilIface ∧ Feeds w' b (pl + n) h
 | none => ∃ p, e = .returned (.iface 151 (.agg #[.int .i64 30, .int .i64 (p : Nat)])) ∧ FeedsBad w' b p
def feedInv (w0 : World) (b pl : Nat) (held l : List UInt8) (k : Nat) (w : World) : Prop := Keeps (fun k => k = b) w0 w ∧ ((∃ h, feedAll held (l.take k) = some h ∧ Feeds w b (pl + k) h) ∨ (feedAll held l = none ∧ ∃ p, FeedsBad w b p))
theorem feed_any (w : World) (b pl : Nat) (held l : List UInt8) (a : Option Addr) (cap : Nat) (h : Feeds w b pl held) (hb : BytesAt w b a l) (hl : l.length ≤ 1073741824) (hpl : pl ≤ 1073741824) :
 Calls Tryz.prog 169 #[.pointer (some ⟨b, 0, none⟩), .slice a l.length cap] w fun e w' => feedRet w' b pl l.length (feedAll held l) e ∧ Keeps (fun k => k = b) w w' :=
 (Dr.feed_any w b pl held l a cap h hb hl hpl).mono fun _ _ h => ⟨h.1, h.2.plain⟩
def errIf (ok : Bool) (e : Ending) : Prop := match ok with
 | true => e = .returned .nilIface
 | false => ∃ T v, e = .returned (.iface T v)
theorem end_good (w : World) (b pl : Nat) (held : List UInt8) (h : Feeds w b pl held) : Calls Tryz.prog 258 #[.pointer (some ⟨b, 0, none⟩)] w fun e w' => errIf (held == []) e ∧ w' = w :=
 Dr.end_good w b pl held h
theorem end_bad (w : World) (b pl : Nat) (h : FeedsBad w b pl) : Calls Tryz.prog 258 #[.pointer (some ⟨b, 0, none⟩)] w fun e w' => errIf false e ∧ w' = w :=
 Dr.end_bad w b pl h
theorem BytesAt.below {w w' : World} {b b' : Nat} {a : Option Addr} {l : List UInt8} (h : BytesAt w b a l) (hb : Below w.heap.size w w') (hne : w.heap.size ≤ b') : BytesAt w' b' a l := by
 rcases h with h | ⟨g, off, ha, _, hg, hc⟩
 ·exact .inl h
 ·exact .inr ⟨g, off, ha, by omega, Nat.lt_of_lt_of_le hg hb.size, fun i x hx => (hb.cell (p := ⟨g, off + i, none⟩) hg).trans (hc i x hx)⟩
theorem check_any (w : World) (b0 : Nat) (l : List UInt8) (a : Option Addr) (cap : Nat) (hb : BytesAt w b0 a l) (hl : l.length ≤ 1073741824) : Calls Tryz.prog 237 #[.slice a l.length cap] w fun e w' => errIf (rightOf l) e ∧ Below w.heap.size w w' :=
 (Dr.check_any w b0 l a cap hb hl).mono fun _ _ h => ⟨h.1, h.2.plain⟩
theorem cell_any {w : World} {b o : Nat} {c : Array Value} {T : TypeId} {fr : Nat × Nat} (h : w.heap[b]? = some (.cells c T fr)) : w.cell? ⟨b, o, none⟩ = c[o]? := by simp [World.cell?, h]
theorem right_any (s : ByteArray) (w : World) (hl : s.size ≤ 1073741824) : Calls Tryz.prog 218 #[.string s] w fun e w' => e = .returned (.bool (rightOf s.data.toList)) ∧ Below w.heap.size w w' :=
 (Dr.right_any s w hl).mono fun _ _ h => ⟨h.1, h.2.plain⟩
theorem high_any (x : UInt8) (w : World) : Calls Tryz.prog 263 #[.int .u8 ((x.toNat : Nat) : Int)] w fun e w' => e = .returned (.bool (decide (240 ≤ x.toNat))) ∧ w' = w := by
 obtain ⟨n, hn⟩ : ∃ n, x.toNat = n := ⟨_, rfl⟩;rw [hn]
 by_cases h : 240 ≤ n
 ·have h1 : (240 : Int) ≤ (n : Int) := by omega
  rw [decide_eq_true h];go_enter Tryz.func263, Tryz.ntmps263;go_wp2;go_ret;exact ⟨rfl, rfl⟩
 ·have h1 : ¬ (240 : Int) ≤ (n : Int) := by omega
  rw [decide_eq_false h];go_enter Tryz.func263, Tryz.ntmps263;go_wp2;go_ret;exact ⟨rfl, rfl⟩
def cmpZ (x y : Int) : Int := if x < y then -1 else if y < x then 1 else 0
theorem cmpInt_any (x y : Int) (w : World) : Calls Tryz.prog 262 #[.int .i64 x, .int .i64 y] w fun e w' => e = .returned (.int .i64 (cmpZ x y)) ∧ w' = w := by
 have h0 : (x == x) = true := by simp
 have h9 : (y == y) = true := by simp
 unfold cmpZ
 by_cases h : x < y
 ·rw [if_pos h];go_enter Tryz.func262, Tryz.ntmps262;go_wp2;go_ret;exact ⟨rfl, rfl⟩
 ·rw [if_neg h]
  by_cases h2 : y < x
  ·rw [if_pos h2];go_enter Tryz.func262, Tryz.ntmps262;go_wp2;go_ret;exact ⟨rfl, rfl⟩
  ·rw [if_neg h2];go_enter Tryz.func262, Tryz.ntmps262;go_wp2;go_ret;exact ⟨rfl, rfl⟩
theorem cmpByte_any (x y : Int) (w : World) : Calls Tryz.prog 264 #[.int .u8 x, .int .u8 y] w fun e w' => e = .returned (.int .i64 (cmpZ x y)) ∧ w' = w := by
 have h0 : (x == x) = true := by simp
 have h9 : (y == y) = true := by simp
 unfold cmpZ
 by_cases h : x < y
 ·rw [if_pos h];go_enter Tryz.func264, Tryz.ntmps264;go_wp2;go_ret;exact ⟨rfl, rfl⟩
 ·rw [if_neg h]
  by_cases h2 : y < x
  ·rw [if_pos h2];go_enter Tryz.func264, Tryz.ntmps264;go_wp2;go_ret;exact ⟨rfl, rfl⟩
  ·rw [if_neg h2];go_enter Tryz.func264, Tryz.ntmps264;go_wp2;go_ret;exact ⟨rfl, rfl⟩
theorem cmpT_behind {s t : ByteArray} {k : Nat} (h1 : k < s.size) (h2 : k < t.size) : cmpT (s.data.toList.drop k) (t.data.toList.drop k) = if s[k] = t[k] then cmpT (s.data.toList.drop (k + 1)) (t.data.toList.drop (k + 1)) else if rankU s[k] < rankU t[k] then -1 else 1 := by
 rw [drop_at h1, drop_at h2];rfl
theorem cmpT_short {s t : ByteArray} {k : Nat} (hk1 : k ≤ s.size) (hk2 : k ≤ t.size) (h : k = s.size ∨ k = t.size) : cmpT (s.data.toList.drop k) (t.data.toList.drop k) = cmpZ s.size t.size := by
 have e1 : (s.data.toList.drop k).length = s.size - k := by rw [List.length_drop, Array.length_toList]; rfl
 have e2 : (t.data.toList.drop k).length = t.size - k := by rw [List.length_drop, Array.length_toList]; rfl
 unfold cmpZ;cases hl : s.data.toList.drop k with
 | nil =>
  rw [hl] at e1;simp at e1;cases hr : t.data.toList.drop k with
  | nil =>
   rw [hr] at e2;simp at e2;rw [if_neg (by omega), if_neg (by omega)];rfl
  | cons y ys =>
   rw [hr] at e2;simp at e2;rw [if_pos (by omega)];rfl
 | cons x xs =>
  rw [hl] at e1;simp at e1;cases hr : t.data.toList.drop k with
  | nil =>
   rw [hr] at e2;simp at e2;rw [if_neg (by omega), if_pos (by omega)];rfl
  | cons y ys =>
   rw [hr] at e2;simp at e2;omega
theorem unit_last {x y : UInt8} (hne : x ≠ y) : (if rankU x < rankU y then (-1 : Int) else 1) = if 240 ≤ x.toNat ∧ ¬ 240 ≤ y.toNat ∧ 238 ≤ y.toNat then -1 else if 240 ≤ y.toNat ∧ ¬ 240 ≤ x.toNat ∧ 238 ≤ x.toNat then 1 else cmpZ x.toNat y.toNat := by
 have hn : x.toNat ≠ y.toNat := fun h => hne (UInt8.toNat.inj h)
 have hx := x.toNat_lt;have hy := y.toNat_lt;unfold rankU cmpZ
 repeat' split
 all_goals (first | rfl | omega)
theorem compare_any (s t : ByteArray) (hs : rightOf s.data.toList = true) (ht : rightOf t.data.toList = true) (hls : s.size ≤ 2097152) (hlt : t.size ≤ 2097152) (w : World) :
 Calls Tryz.prog 240 #[.string s, .string t] w fun e w' => e = .returned (.int .i64 (cmpT s.data.toList t.data.toList)) ∧ Dr.Below w.heap.size w w' := by
 have HS := Lib.hid (fun w => Dr.right_any s w (by omega));have HT := Lib.hid (fun w => Dr.right_any t w (by omega));rw [hs] at HS;rw [ht] at HT;clear hs ht;obtain ⟨S, hS⟩ : ∃ S, cmpT s.data.toList t.data.toList = S := ⟨_, rfl⟩;rw [hS];have HSS := Lib.hid hS;clear hS;go_enter Tryz.func240, Tryz.ntmps240;go_wp2_with fail;refine (HS.out _).mono ?_;rintro e w1 ⟨rfl, hb1⟩;have HB1 := Lib.hid hb1;clear hb1;go_wp2_with fail;refine (HT.out _).mono ?_;rintro e w2 ⟨rfl, hb2⟩;have HB2 := Lib.hid (Dr.chain HB1.out hb2);clear hb2;go_wp2_with fail
 go_loopw [7] (fun v wr => ∃ k : Nat, k ≤ s.size ∧ k ≤ t.size ∧ v = .int .i64 k ∧ Hid (S = cmpT (s.data.toList.drop k) (t.data.toList.drop k) ∧ Dr.Below w.heap.size w wr)) (fun v _ => s.size - (intOf v).toNat)
 case atStart => exact ⟨0, by omega, by omega, by go_num, Lib.hid ⟨by rw [List.drop_zero, List.drop_zero]; exact HSS.out.symm, HB2.out⟩⟩
 case round =>
  obtain ⟨k, hk1, hk2, rfl, hall⟩ := hrel;clear HSS HB2 HB1
  by_cases h1 : k < s.size
  ·by_cases h2 : k < t.size
   ·by_cases he : s[k] = t[k]
    ·have he2 : ((s[k].toNat : Nat) : Int) = ((t[k].toNat : Nat) : Int) := by rw [he]
     have HE := Lib.hid he;clear he;go_wp2_with fail;go_region
     all_goals go_wp2_with fail
     all_goals refine ⟨⟨k + 1, by omega, by omega, by go_num, Lib.hid ⟨hall.out.1.trans (by rw [cmpT_behind h1 h2, if_pos HE.out]), hall.out.2.drew⟩⟩, by simp [intOf]; omega⟩
    ·have hne : s[k].toNat ≠ t[k].toNat := fun h => he (UInt8.toNat.inj h)
     have HV := Lib.hid (hall.out.1.trans (by rw [cmpT_behind h1 h2, if_neg he, unit_last he]));have HX := Lib.hid (high_any s[k]);have HY := Lib.hid (high_any t[k]);have e1 : ¬ (k : Int) = (s.size : Int) := by omega
     have e2 : ¬ (k : Int) = (t.size : Int) := by omega
     have e1b : ((k : Int) == (s.size : Int)) = false := by simpa using e1
     have e2b : ((k : Int) == (t.size : Int)) = false := by simpa using e2
     obtain ⟨a, ha⟩ : ∃ a, s[k].toNat = a := ⟨_, rfl⟩;obtain ⟨b, hb⟩ : ∃ b, t[k].toNat = b := ⟨_, rfl⟩;have he3 : ¬ ((s[k].toNat : Nat) : Int) = ((t[k].toNat : Nat) : Int) := by omega
     have he4 : (((s[k].toNat : Nat) : Int) == ((t[k].toNat : Nat) : Int)) = false := by simpa using he3
     have ha2 : ((s[k].toNat : Nat) : Int) = (a : Int) := by rw [ha]
     have hb2 : ((t[k].toNat : Nat) : Int) = (b : Int) := by rw [hb]
     rw [ha] at HV HX;rw [hb] at HV HY;clear he ha hb hne
     by_cases px : 240 ≤ a
     ·rw [decide_eq_true px] at HX
      by_cases qy : 240 ≤ b
      ·rw [decide_eq_true qy] at HY;go_wp2_with fail;go_region
       all_goals go_wp2_with fail
       all_goals go_region
       all_goals go_wp2_with (first | (go_at_call 263; (first | refine (HX.out _).mono ?_ | refine (HY.out _).mono ?_); rintro e wx ⟨rfl, rfl⟩) | (go_at_call 264; refine (cmpByte_any _ _ _).mono ?_; rintro e wx ⟨rfl, rfl⟩))
       all_goals go_ret
       all_goals exact ⟨by rw [HV.out]; rw [if_neg (by omega), if_neg (by omega)]; rfl, hall.out.2.drew.drew⟩
      ·rw [decide_eq_false qy] at HY
       by_cases rz : 238 ≤ b
       ·have rz2 : (238 : Int) ≤ (b : Int) := by omega
        go_wp2_with fail;go_region
        all_goals go_wp2_with fail
        all_goals go_region
        all_goals go_wp2_with (first | (go_at_call 263; (first | refine (HX.out _).mono ?_ | refine (HY.out _).mono ?_); rintro e wx ⟨rfl, rfl⟩) | (go_at_call 264; refine (cmpByte_any _ _ _).mono ?_; rintro e wx ⟨rfl, rfl⟩))
        all_goals go_ret
        all_goals exact ⟨by rw [HV.out]; rw [if_pos (by omega)]; rfl, hall.out.2.drew.drew⟩
       ·have rz2 : ¬ (238 : Int) ≤ (b : Int) := by omega
        go_wp2_with fail;go_region
        all_goals go_wp2_with fail
        all_goals go_region
        all_goals go_wp2_with (first | (go_at_call 263; (first | refine (HX.out _).mono ?_ | refine (HY.out _).mono ?_); rintro e wx ⟨rfl, rfl⟩) | (go_at_call 264; refine (cmpByte_any _ _ _).mono ?_; rintro e wx ⟨rfl, rfl⟩))
        all_goals go_ret
        all_goals exact ⟨by rw [HV.out]; rw [if_neg (by omega), if_neg (by omega)]; rfl, hall.out.2.drew.drew⟩
     ·rw [decide_eq_false px] at HX
      by_cases qy : 240 ≤ b
      ·rw [decide_eq_true qy] at HY
       by_cases rz : 238 ≤ a
       ·have rz2 : (238 : Int) ≤ (a : Int) := by omega
        go_wp2_with fail;go_region
        all_goals go_wp2_with fail
        all_goals go_region
        all_goals go_wp2_with (first | (go_at_call 263; (first | refine (HX.out _).mono ?_ | refine (HY.out _).mono ?_); rintro e wx ⟨rfl, rfl⟩) | (go_at_call 264; refine (cmpByte_any _ _ _).mono ?_; rintro e wx ⟨rfl, rfl⟩))
        all_goals go_ret
        all_goals exact ⟨by rw [HV.out]; rw [if_neg (by omega), if_pos (by omega)]; rfl, hall.out.2.drew.drew⟩
       ·have rz2 : ¬ (238 : Int) ≤ (a : Int) := by omega
        go_wp2_with fail;go_region
        all_goals go_wp2_with fail
        all_goals go_region
        all_goals go_wp2_with (first | (go_at_call 263; (first | refine (HX.out _).mono ?_ | refine (HY.out _).mono ?_); rintro e wx ⟨rfl, rfl⟩) | (go_at_call 264; refine (cmpByte_any _ _ _).mono ?_; rintro e wx ⟨rfl, rfl⟩))
        all_goals go_ret
        all_goals exact ⟨by rw [HV.out]; rw [if_neg (by omega), if_neg (by omega)]; rfl, hall.out.2.drew.drew⟩
      ·rw [decide_eq_false qy] at HY;go_wp2_with fail;go_region
       all_goals go_wp2_with fail
       all_goals go_region
       all_goals go_wp2_with (first | (go_at_call 263; (first | refine (HX.out _).mono ?_ | refine (HY.out _).mono ?_); rintro e wx ⟨rfl, rfl⟩) | (go_at_call 264; refine (cmpByte_any _ _ _).mono ?_; rintro e wx ⟨rfl, rfl⟩))
       all_goals go_ret
       all_goals exact ⟨by rw [HV.out]; rw [if_neg (by omega), if_neg (by omega)]; rfl, hall.out.2.drew.drew⟩
   ·have hkt : k = t.size := by omega
    have HV := Lib.hid (hall.out.1.trans (cmpT_short hk1 hk2 (.inr hkt)));have g3 : t.size < s.size := by omega
    have g4 : ¬ (t.size : Int) = (s.size : Int) := by omega
    have g6 : ((t.size : Int) == (s.size : Int)) = false := by simpa using g4
    have g5 : (t.size : Int) < (s.size : Int) := by omega
    subst hkt;go_wp2_with fail;go_region
    all_goals go_wp2_with fail
    all_goals refine (cmpInt_any _ _ _).mono ?_
    all_goals rintro e wx ⟨rfl, rfl⟩
    all_goals go_wp2_with fail
    all_goals go_ret
    all_goals exact ⟨by rw [HV.out]; rfl, hall.out.2.drew⟩
  ·have hks : k = s.size := by omega
   have HV := Lib.hid (hall.out.1.trans (cmpT_short hk1 hk2 (.inl hks)));have e1 : (k : Int) = (s.size : Int) := by omega
   go_wp2_with fail;go_region
   all_goals go_wp2_with fail
   all_goals refine (cmpInt_any _ _ _).mono ?_
   all_goals rintro e wx ⟨rfl, rfl⟩
   all_goals go_wp2_with fail
   all_goals go_ret
   all_goals exact ⟨by rw [HV.out]; rfl, hall.out.2.drew⟩
end Go.Proofs.YtakkmiomhackiaaGreatDoor
