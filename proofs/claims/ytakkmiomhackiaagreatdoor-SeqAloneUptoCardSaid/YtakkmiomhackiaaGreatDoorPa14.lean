/-
  The program, one part of its walk: Ut3, Ut4, Cm1, Shelf3, Cc2. Conditions: none.
-/
import Derived.Test.YtakkmiomhackiaaGreatDoorPa08
import Derived.Test.YtakkmiomhackiaaGreatDoorPa03
import Derived.Shelf.Bytes.SlCountOne
import Derived.Shelf.Bytes.SlIndexAt
import Derived.Test.YtakkmiomhackiaaGreatDoorPa10
import Derived.Lib.SlBuf
import Derived.Deep.RegionLaw
import Derived.Test.YtakkmiomhackiaaGreatDoorPa00
set_option linter.all false
set_option maxRecDepth 100000
set_option maxHeartbeats 16000000
open Go.Proofs.Tryz
namespace Go.Proofs.YtakkmiomhackiaaGreatDoor
open Go.RowKit
def FeedsBad (w : World) (b pl : Nat) : Prop := ∃ a0 a1 a2 a3 : UInt8, w.heap[b]? = some (.cells #[.int .i64 pl, .int .u8 ((a0.toNat : Nat) : Int), .int .u8 ((a1.toNat : Nat) : Int), .int .u8 ((a2.toNat : Nat) : Int), .int .u8 ((a3.toNat : Nat) : Int), .int .i64 0, .bool true] 305 (0, 0))
theorem fault_good (w : World) (b pl : Nat) (held : List UInt8) (h : Feeds w b pl held) : Calls prog 191 #[.pointer (some ⟨b, 0, none⟩)] w fun e w' => e = .returned .nilIface ∧ w' = w :=
 Dr.fault_good w b pl held h
theorem fault_bad (w : World) (b pl : Nat) (h : FeedsBad w b pl) : Calls prog 191 #[.pointer (some ⟨b, 0, none⟩)] w fun e w' => e = .returned (.iface 151 (.agg #[.int .i64 30, .int .i64 pl])) ∧ w' = w :=
 Dr.fault_bad w b pl h
theorem feedAll_none (l : List UInt8) : l.foldl (fun a c => a.bind fun h => feedOne h c) (none : Option (List UInt8)) = none := by
 induction l with
 | nil => rfl
 | cons x l ih => exact ih
theorem feedAll_take {held l : List UInt8} {k : Nat} (h : k < l.length) : feedAll held (l.take (k + 1)) = (feedAll held (l.take k)).bind fun h => feedOne h l[k] := by
 unfold feedAll;rw [List.take_add_one, List.getElem?_eq_getElem h, List.foldl_append]; rfl
theorem feedAll_stop {held l : List UInt8} {k : Nat} (h : feedAll held (l.take k) = none) : feedAll held l = none := by
 unfold feedAll at *
 conv => lhs; rw [← List.take_append_drop k l, List.foldl_append, h]
 exact feedAll_none _
def BytesAt (w : World) (b : Nat) (a : Option Addr) (l : List UInt8) : Prop := l = [] ∨ ∃ g off, a = some ⟨g, off, none⟩ ∧ g ≠ b ∧ g < w.heap.size ∧ ∀ i x, l[i]? = some x → w.cell? ⟨g, off + i, none⟩ = some (.int .u8 ((x.toNat : Nat) : Int))
def feedRet (w' : World) (b pl n : Nat) (o : Option (List UInt8)) (e : Ending) : Prop := match o with
 | some h => e = .returned .nilIface ∧ Feeds w' b (pl + n) h
 | none => ∃ p, e = .returned (.iface 151 (.agg #[.int .i64 30, .int .i64 (p : Nat)])) ∧ FeedsBad w' b p
def feedInv (w0 : World) (b pl : Nat) (held l : List UInt8) (k : Nat) (w : World) : Prop := Keeps (fun k => k = b) w0 w ∧ ((∃ h, feedAll held (l.take k) = some h ∧ Feeds w b (pl + k) h) ∨ (feedAll held l = none ∧ ∃ p, FeedsBad w b p))
theorem feed_any (w : World) (b pl : Nat) (held l : List UInt8) (a : Option Addr) (cap : Nat) (h : Feeds w b pl held) (hb : BytesAt w b a l) (hl : l.length ≤ 1073741824) (hpl : pl ≤ 1073741824) :
 Calls prog 169 #[.pointer (some ⟨b, 0, none⟩), .slice a l.length cap] w fun e w' => feedRet w' b pl l.length (feedAll held l) e ∧ Keeps (fun k => k = b) w w' :=
 (Dr.feed_any w b pl held l a cap h hb hl hpl).mono fun _ _ h => ⟨h.1, h.2.plain⟩
def errIf (ok : Bool) (e : Ending) : Prop := match ok with
 | true => e = .returned .nilIface
 | false => ∃ T v, e = .returned (.iface T v)
theorem end_good (w : World) (b pl : Nat) (held : List UInt8) (h : Feeds w b pl held) : Calls prog 258 #[.pointer (some ⟨b, 0, none⟩)] w fun e w' => errIf (held == []) e ∧ w' = w :=
 Dr.end_good w b pl held h
theorem end_bad (w : World) (b pl : Nat) (h : FeedsBad w b pl) : Calls prog 258 #[.pointer (some ⟨b, 0, none⟩)] w fun e w' => errIf false e ∧ w' = w :=
 Dr.end_bad w b pl h
theorem BytesAt.below {w w' : World} {b b' : Nat} {a : Option Addr} {l : List UInt8} (h : BytesAt w b a l) (hb : Below w.heap.size w w') (hne : w.heap.size ≤ b') : BytesAt w' b' a l := by
 rcases h with h | ⟨g, off, ha, _, hg, hc⟩
 ·exact .inl h
 ·exact .inr ⟨g, off, ha, by omega, Nat.lt_of_lt_of_le hg hb.size, fun i x hx => (hb.cell (p := ⟨g, off + i, none⟩) hg).trans (hc i x hx)⟩
theorem check_any (w : World) (b0 : Nat) (l : List UInt8) (a : Option Addr) (cap : Nat) (hb : BytesAt w b0 a l) (hl : l.length ≤ 1073741824) : Calls prog 237 #[.slice a l.length cap] w fun e w' => errIf (rightOf l) e ∧ Below w.heap.size w w' :=
 (Dr.check_any w b0 l a cap hb hl).mono fun _ _ h => ⟨h.1, h.2.plain⟩
theorem cell_any {w : World} {b o : Nat} {c : Array Value} {T : TypeId} {fr : Nat × Nat} (h : w.heap[b]? = some (.cells c T fr)) : w.cell? ⟨b, o, none⟩ = c[o]? := by simp [World.cell?, h]
theorem right_any (s : ByteArray) (w : World) (hl : s.size ≤ 1073741824) : Calls prog 218 #[.string s] w fun e w' => e = .returned (.bool (rightOf s.data.toList)) ∧ Below w.heap.size w w' :=
 (Dr.right_any s w hl).mono fun _ _ h => ⟨h.1, h.2.plain⟩
theorem high_any (x : UInt8) (w : World) : Calls prog 263 #[.int .u8 ((x.toNat : Nat) : Int)] w fun e w' => e = .returned (.bool (decide (240 ≤ x.toNat))) ∧ w' = w := by
 obtain ⟨n, hn⟩ : ∃ n, x.toNat = n := ⟨_, rfl⟩;rw [hn]
 by_cases h : 240 ≤ n
 ·have h1 : (240 : Int) ≤ (n : Int) := by omega
  rw [decide_eq_true h];go_enter func263, ntmps263;go_wp2;go_ret;exact ⟨rfl, rfl⟩
 ·have h1 : ¬ (240 : Int) ≤ (n : Int) := by omega
  rw [decide_eq_false h];go_enter func263, ntmps263;go_wp2;go_ret;exact ⟨rfl, rfl⟩
def cmpZ (x y : Int) : Int := if x < y then -1 else if y < x then 1 else 0
theorem cmpInt_any (x y : Int) (w : World) : Calls prog 262 #[.int .i64 x, .int .i64 y] w fun e w' => e = .returned (.int .i64 (cmpZ x y)) ∧ w' = w := by
 have h0 : (x == x) = true := by simp
 have h9 : (y == y) = true := by simp
 unfold cmpZ
 by_cases h : x < y
 ·rw [if_pos h];go_enter func262, ntmps262;go_wp2;go_ret;exact ⟨rfl, rfl⟩
 ·rw [if_neg h]
  by_cases h2 : y < x
  ·rw [if_pos h2];go_enter func262, ntmps262;go_wp2;go_ret;exact ⟨rfl, rfl⟩
  ·rw [if_neg h2];go_enter func262, ntmps262;go_wp2;go_ret;exact ⟨rfl, rfl⟩
theorem cmpByte_any (x y : Int) (w : World) : Calls prog 264 #[.int .u8 x, .int .u8 y] w fun e w' => e = .returned (.int .i64 (cmpZ x y)) ∧ w' = w := by
 have h0 : (x == x) = true := by simp
 have h9 : (y == y) = true := by simp
 unfold cmpZ
 by_cases h : x < y
 ·rw [if_pos h];go_enter func264, ntmps264;go_wp2;go_ret;exact ⟨rfl, rfl⟩
 ·rw [if_neg h]
  by_cases h2 : y < x
  ·rw [if_pos h2];go_enter func264, ntmps264;go_wp2;go_ret;exact ⟨rfl, rfl⟩
  ·rw [if_neg h2];go_enter func264, ntmps264;go_wp2;go_ret;exact ⟨rfl, rfl⟩
section
open Go.Shelf
def Tryz.lays185_ren : Go.Shelf.Ren := ⟨fun | 185 => 102 | 187 => 63 | 115 => 34 | 253 => 130 | 224 => 131 | 254 => 132 | 255 => 95 | 291 => 166 | n => n, fun | 37 => 22 | 3 => 3 | 4 => 4 | 0 => 0 | 5 => 5 | 46 => 153 | 9 => 9 | 146 => 209 | 51 => 208 | n => n, fun | 1 => 1 | n => n⟩
theorem Tryz.lays185 : Go.Proofs.Lays.n185 prog Tryz.lays185_ren := {
 mixed := by kernel_rfl
 f115 := func34.trans (congrArg some (by kernel_rfl))
 f185 := func102.trans (congrArg some (by kernel_rfl))
 f187 := func63.trans (congrArg some (by kernel_rfl))
 f224 := func131.trans (congrArg some (by kernel_rfl))
 f253 := func130.trans (congrArg some (by kernel_rfl))
 f254 := func132.trans (congrArg some (by kernel_rfl))
 f255 := func95.trans (congrArg some (by kernel_rfl))
 f291 := func166.trans (congrArg some (by kernel_rfl))
 t0 := underlying0
 a0 := isAgg0
 z0 := sizeOf0
 v0 := zeroValue0
 t3 := underlying3
 a3 := isAgg3
 z3 := sizeOf3
 v3 := zeroValue3
 t4 := underlying4
 a4 := isAgg4
 z4 := sizeOf4
 v4 := zeroValue4
 t5 := underlying5
 a5 := isAgg5
 z5 := sizeOf5
 v5 := zeroValue5
 t9 := underlying9
 a9 := isAgg9
 z9 := sizeOf9
 v9 := zeroValue9
 t37 := underlying22
 a37 := isAgg22
 z37 := sizeOf22
 v37 := zeroValue22
 t46 := underlying153
 a46 := isAgg153
 z46 := sizeOf153
 v46 := zeroValue153
 t51 := underlying208
 a51 := isAgg208
 z51 := sizeOf208
 v51 := zeroValue208
 t146 := underlying209
 a146 := isAgg209
 z146 := sizeOf209
 v146 := zeroValue209
 g1 := by kernel_rfl }
open Go.RowKit Go.Lib in
theorem Tryz.bytes_Index_one_at (a : Addr) (n c b2 o2 d : Nat) (xs : List Int) (cv : Int) (w : World) (hx : xs.length = n) (hc : ∀ i, i < n → w.cell? (a.add i) = some (.int .u8 (xs.getD i 0))) (hc2 : w.cell? ⟨b2, o2, none⟩ = some (.int .u8 cv)) :
 Calls prog 102 #[.slice (some a) n c, .slice (some ⟨b2, o2, none⟩) 1 d] w fun e w' => e = .returned (.int .i64 (Lib.indexByte (Lib.bytesOf xs) cv.toNat.toUInt8)) ∧ w' = w := Any.bytes_Index_one_at Tryz.lays185 a n c b2 o2 d xs cv w hx hc hc2
def Tryz.laysSlB13_ren : Go.Shelf.Ren := ⟨fun | 13 => 101 | 24 => 128 | 25 => 129 | 12 => 102 | 31 => 165 | 19 => 63 | 20 => 34 | 21 => 130 | 22 => 131 | 23 => 132 | 29 => 95 | 30 => 166 | n => n, fun | 22 => 22 | 3 => 3 | 4 => 4 | 0 => 0 | 5 => 5 | 9 => 9 | 33 => 153 | 40 => 209 | 39 => 208 | n => n, fun | 0 => 1 | n => n⟩
theorem Tryz.laysSlB13 : Go.Proofs.SlLaysB.n13 prog Tryz.laysSlB13_ren := {
 mixed := by kernel_rfl
 f13 := func101.trans (congrArg some (by kernel_rfl))
 f25 := func129.trans (congrArg some (by kernel_rfl))
 t0 := underlying0
 a0 := isAgg0
 z0 := sizeOf0
 v0 := zeroValue0
 t3 := underlying3
 a3 := isAgg3
 z3 := sizeOf3
 v3 := zeroValue3
 t4 := underlying4
 a4 := isAgg4
 z4 := sizeOf4
 v4 := zeroValue4
 t5 := underlying5
 a5 := isAgg5
 z5 := sizeOf5
 v5 := zeroValue5
 t22 := underlying22
 a22 := isAgg22
 z22 := sizeOf22
 v22 := zeroValue22 }
open Go.RowKit Go.Lib in
theorem Tryz.bytes_Count_one_at (a : Addr) (n c b2 o2 d : Nat) (xs : List Int) (cv : Int) (w : World) (hx : xs.length = n) (hc : ∀ i, i < n → w.cell? (a.add i) = some (.int .u8 (xs.getD i 0))) (hc2 : w.cell? ⟨b2, o2, none⟩ = some (.int .u8 cv)) :
 Calls prog 101 #[.slice (some a) n c, .slice (some ⟨b2, o2, none⟩) 1 d] w fun e w' => e = .returned (.int .i64 (Lib.countByte (Lib.bytesOf xs) cv.toNat.toUInt8)) ∧ w' = w := Any.bytes_Count_one_at Tryz.laysSlB13 a n c b2 o2 d xs cv w hx hc hc2
open Go.RowKit Go.Lib in
theorem Tryz.bytes_Count_one_nil (b2 o2 d : Nat) (cv : Int) (w : World) (hc2 : w.cell? ⟨b2, o2, none⟩ = some (.int .u8 cv)) :
 Calls prog 101 #[.slice none 0 0, .slice (some ⟨b2, o2, none⟩) 1 d] w fun e w' => e = .returned (.int .i64 0) ∧ w' = w := Any.bytes_Count_one_nil Tryz.laysSlB13 b2 o2 d cv w hc2
end
def cleanOf (l : List UInt8) : List UInt8 := l.filter fun c => c != 30
theorem clean_split {l a rest : List UInt8} (h : l = a ++ 30 :: rest) (ha : ∀ c ∈ a, c ≠ 30) : cleanOf l = a ++ cleanOf rest := by
 unfold cleanOf;rw [h, List.filter_append, List.filter_cons];have : a.filter (fun c => c != 30) = a := List.filter_eq_self.2 (fun c hc => by simpa using ha c hc);rw [this];simp
theorem clean_none {l : List UInt8} (h : ∀ c ∈ l, c ≠ 30) : cleanOf l = l := List.filter_eq_self.2 (fun c hc => by simpa using h c hc)
theorem clean_ne (l : List UInt8) : ∀ c ∈ cleanOf l, c ≠ 30 := fun c hc => by
 unfold cleanOf at hc;have := (List.mem_filter.1 hc).2
 simpa using this
theorem clean_length (l : List UInt8) : (cleanOf l).length + l.count 30 = l.length := by
 unfold cleanOf
 induction l with
 | nil => rfl
 | cons c l ih =>
  rw [List.filter_cons, List.count_cons]
  by_cases h : c = 30
  ·subst h; simp; omega
  ·simp [h]; omega
theorem index_at (l : List UInt8) (s : UInt8) (h : 0 < l.count s) : ∃ a rest, l = a ++ s :: rest ∧ (∀ c ∈ a, c ≠ s) ∧ Lib.indexByte l s = (a.length : Int) := by
 induction l with
 | nil => simp at h
 | cons b l ih =>
  by_cases hb : b = s
  ·subst hb;exact ⟨[], l, rfl, fun c h => by simp at h, by simp [Lib.indexByte]⟩
  ·rw [List.count_cons, if_neg (by simpa using hb), Nat.add_zero] at h;obtain ⟨a, rest, h1, h2, h3⟩ := ih h;refine ⟨b :: a, rest, by rw [h1]; rfl, fun c hc => ?_, ?_⟩
   ·rcases List.mem_cons.1 hc with rfl | hc
    ·exact hb
    ·exact h2 c hc
   ·have hbs : (b == s) = false := by simpa using hb
    have hne : (Lib.indexByte l s == -1) = false := by rw [h3]; simp
    simp [Lib.indexByte, hbs, hne, h3]
theorem step_copy_run {P : Program} {ops : Array Oper} (w : World) {o : Oper} {a : Act} {K : Act → World → Prop} {Q : Exit → Act → World → Prop} {D : Prop} (hgd : o.guard = none) (d s : Operand) (t t' : TypeId)
 (ho : o.op = .call { callee := .builtin .copy, args := #[d, s], argTypes := #[t, t'] }) (v u : Value) (hd : a.eval d = v) (hs : a.eval s = u) {v' : Value} {w' : World}
 (hr : (Builtin.copy_ #[t, t'] o.type #[v, u]).run P w = .ok v' w') (h : K (a.put o.dst v') w') : if Region.wanted o (yielded ops a.tmps) = true then Oper.wp P o a w K Q else D := by
 have hw : Region.wanted o (yielded ops a.tmps) = true := by simp [Region.wanted, hgd]
 rw [if_pos hw];exact Lib.wp_copy_run w d s t t' ho v u hd hs hr h
theorem Bs.cells {w : World} {v : Value} {l : List UInt8} (h : Bs w v l) (hl : l ≠ []) : ∃ g off cap, v = .slice (some ⟨g, off, none⟩) l.length cap ∧ l.length ≤ cap ∧ cap ≤ maxLen ∧ ∀ i x, l[i]? = some x → w.cell? ⟨g, off + i, none⟩ = some (encB x) := by
 obtain ⟨a, cap, rfl, h1, h2, h3⟩ := h;rcases h3 with h3 | ⟨g, off, rfl, h3⟩
 ·exact absurd h3 hl
 ·exact ⟨g, off, cap, rfl, h1, h2, h3⟩
structure RepAt (w0 : World) (l : List UInt8) (m N r p q : Nat) (wr : World) : Prop where
 hr : r ≤ m
 hp : p ≤ l.length
 cnt : (l.drop p).count 30 = m - r
 hq : q = (cleanOf (l.take p)).length
 buf : Lib.Buf w0 wr w0.heap.size N (cleanOf (l.take p))
theorem count_any (w : World) (v : Value) (l : List UInt8) (h : Bs w v l) (hv : v = .slice none 0 0 ∨ ∃ g off n c, v = .slice (some ⟨g, off, none⟩) n c) (b2 o2 d : Nat) (hc : w.cell? ⟨b2, o2, none⟩ = some (.int .u8 30)) :
 Calls prog 101 #[v, .slice (some ⟨b2, o2, none⟩) 1 d] w fun e w' => e = .returned (.int .i64 ((l.count 30 : Nat) : Int)) ∧ w' = w := by
 obtain ⟨a, cap, rfl, h1, h2, h3⟩ := h;rcases hv with hv | ⟨g, off, n, c, hv⟩
 ·injection hv with e1 e2 e3
  have h0 : l = [] := List.eq_nil_of_length_eq_zero e2;subst h0; subst e1; subst e3;exact Tryz.bytes_Count_one_nil b2 o2 d 30 w hc
 ·injection hv with e1 e2 e3
  subst e1
  have hx := Tryz.bytes_Count_one_at ⟨g, off, none⟩ l.length cap b2 o2 d (Lib.numsL l) 30 w (by simp [Lib.numsL]) (fun i hi => by
   rcases h3 with h3 | ⟨g', off', e, h3⟩
   ·rw [h3] at hi; simp at hi
   ·cases e;have hl := List.getElem?_eq_getElem hi;have := h3 i _ hl;rw [show (⟨g, off, none⟩ : Addr).add i = ⟨g, off + i, none⟩ by unfold Addr.add; split <;> simp_all, this];simp [Lib.numsL, List.getD, List.getElem?_map, hl, encB]) hc
  rw [Lib.bytesOf_numsL] at hx;exact hx
theorem index_one (w : World) (g off n c : Nat) (l : List UInt8) (hn : n = l.length) (h : ∀ i x, l[i]? = some x → w.cell? ⟨g, off + i, none⟩ = some (encB x)) (b2 o2 d : Nat) (hc : w.cell? ⟨b2, o2, none⟩ = some (.int .u8 30)) :
 Calls prog 102 #[.slice (some ⟨g, off, none⟩) n c, .slice (some ⟨b2, o2, none⟩) 1 d] w fun e w' => e = .returned (.int .i64 (Lib.indexByte l 30)) ∧ w' = w := by
 subst hn
 have hx := Tryz.bytes_Index_one_at ⟨g, off, none⟩ l.length c b2 o2 d (Lib.numsL l) 30 w (by simp [Lib.numsL]) (fun i hi => by
  have hl := List.getElem?_eq_getElem hi;have := h i _ hl;rw [show (⟨g, off, none⟩ : Addr).add i = ⟨g, off + i, none⟩ by unfold Addr.add; split <;> simp_all, this];simp [Lib.numsL, List.getD, List.getElem?_map, hl, encB]) hc
 rw [Lib.bytesOf_numsL] at hx;exact hx
end Go.Proofs.YtakkmiomhackiaaGreatDoor
