/-
  The program, one part of its walk: Shelf, Row. Conditions: none.
-/
import Derived.Shelf.Strings.Trim
import Derived.Shelf.Small.Bits
import Derived.Shelf.Strconv.Itoa0
import Derived.Shelf.Bits.Mul64
import Derived.Shelf.Bytes.IndexByte
import Derived.WalkKit
import Derived.WalkSpells
import Derived.WalkLawsBesides
import Derived.Lib.Hide
import Derived.Deep.QuietTactic
import Derived.BigQuiet
import Derived.Test.YtakkmiomhackiaaGreatDoorPa00
set_option linter.all false
set_option maxRecDepth 100000
set_option maxHeartbeats 16000000
open Go.Proofs.Tryz
namespace Go.Proofs.YtakkmiomhackiaaGreatDoor
open Go.RowKit
section
open Go.Shelf
open Go.RowKit in
def Tryz.lays161_ren : Go.Shelf.Ren := ⟨fun | 161 => 245 | 231 => 265 | 227 => 266 | 233 => 267 | 235 => 268 | 228 => 292 | 197 => 293 | 151 => 294 | 260 => 302 | 152 => 303 | 137 => 306 | 119 => 307 | 224 => 131 | 225 => 308 | 217 => 309 | 266 => 310 | n => n, fun | 9 => 9 | 4 => 4 | 3 => 3 | 5 => 5 | 117 => 415 | 116 => 414 | 0 => 0 | 124 => 418 | 105 => 218 | 21 => 21 | 119 => 299 | 46 => 153 | 139 => 302 | 138 => 301 | n => n, fun | 3 => 2 | 4 => 3 | n => n⟩
theorem Tryz.lays161 : Go.Proofs.Lays.n161 prog Tryz.lays161_ren := {
 mixed := by kernel_rfl
 f119 := func307.trans (congrArg some (by kernel_rfl))
 f137 := func306.trans (congrArg some (by kernel_rfl))
 f151 := func294.trans (congrArg some (by kernel_rfl))
 f152 := func303.trans (congrArg some (by kernel_rfl))
 f161 := func245.trans (congrArg some (by kernel_rfl))
 f197 := func293.trans (congrArg some (by kernel_rfl))
 f217 := func309.trans (congrArg some (by kernel_rfl))
 f224 := func131.trans (congrArg some (by kernel_rfl))
 f225 := func308.trans (congrArg some (by kernel_rfl))
 f227 := func266.trans (congrArg some (by kernel_rfl))
 f228 := func292.trans (congrArg some (by kernel_rfl))
 f231 := func265.trans (congrArg some (by kernel_rfl))
 f233 := func267.trans (congrArg some (by kernel_rfl))
 f235 := func268.trans (congrArg some (by kernel_rfl))
 f260 := func302.trans (congrArg some (by kernel_rfl))
 f266 := func310.trans (congrArg some (by kernel_rfl))
 t0 := underlying0
 a0 := isAgg0
 z0 := sizeOf0
 v0 := zeroValue0
 t3 := underlying3
 a3 := isAgg3
 z3 := sizeOf3
 v3 := zeroValue3
 t4 := underlying4
 a4 := isAgg4
 z4 := sizeOf4
 v4 := zeroValue4
 t5 := underlying5
 a5 := isAgg5
 z5 := sizeOf5
 v5 := zeroValue5
 t9 := underlying9
 a9 := isAgg9
 z9 := sizeOf9
 v9 := zeroValue9
 t21 := underlying21
 a21 := isAgg21
 z21 := sizeOf21
 v21 := zeroValue21
 t46 := underlying153
 a46 := isAgg153
 z46 := sizeOf153
 v46 := zeroValue153
 t105 := underlying218
 a105 := isAgg218
 z105 := sizeOf218
 v105 := zeroValue218
 t116 := underlying414
 a116 := isAgg414
 z116 := sizeOf414
 t117 := underlying415
 a117 := isAgg415
 z117 := sizeOf415
 v117 := zeroValue415
 t119 := underlying299
 a119 := isAgg299
 z119 := sizeOf299
 t124 := underlying418
 a124 := isAgg418
 z124 := sizeOf418
 v124 := zeroValue418
 t138 := underlying301
 a138 := isAgg301
 z138 := sizeOf301
 v138 := zeroValue301
 t139 := underlying302
 a139 := isAgg302
 z139 := sizeOf302
 v139 := zeroValue302
 g3 := by kernel_rfl
 g4 := by kernel_rfl }
open Go.RowKit in
theorem Tryz.strings_TrimLeft_one (s : ByteArray) (c : UInt8) (hc : c.toNat < 128) (w : World) :
 Calls prog 245 #[.string s, .string ⟨#[c]⟩] w fun e w' => e = .returned (.string ⟨(Lib.trimLeftB s.data.toList c).toArray⟩) ∧ w' = w := Any.strings_TrimLeft_one Tryz.lays161 s c hc w
def Tryz.lays162_ren : Go.Shelf.Ren := ⟨fun | 162 => 246 | 232 => 269 | 227 => 266 | 234 => 270 | 236 => 271 | 228 => 292 | 271 => 295 | 151 => 294 | 120 => 304 | 197 => 293 | 152 => 303 | 260 => 302 | 137 => 306 | 119 => 307 | 224 => 131 | 225 => 308 | 217 => 309 | 266 => 310 | n => n, fun | 9 => 9 | 4 => 4 | 3 => 3 | 5 => 5 | 117 => 415 | 116 => 414 | 0 => 0 | 124 => 418 | 21 => 21 | 105 => 218 | 46 => 153 | 119 => 299 | 139 => 302 | 138 => 301 | n => n, fun | 3 => 2 | 4 => 3 | n => n⟩
theorem Tryz.lays162 : Go.Proofs.Lays.n162 prog Tryz.lays162_ren := {
 mixed := by kernel_rfl
 f119 := func307.trans (congrArg some (by kernel_rfl))
 f120 := func304.trans (congrArg some (by kernel_rfl))
 f137 := func306.trans (congrArg some (by kernel_rfl))
 f151 := func294.trans (congrArg some (by kernel_rfl))
 f152 := func303.trans (congrArg some (by kernel_rfl))
 f162 := func246.trans (congrArg some (by kernel_rfl))
 f197 := func293.trans (congrArg some (by kernel_rfl))
 f217 := func309.trans (congrArg some (by kernel_rfl))
 f224 := func131.trans (congrArg some (by kernel_rfl))
 f225 := func308.trans (congrArg some (by kernel_rfl))
 f227 := func266.trans (congrArg some (by kernel_rfl))
 f228 := func292.trans (congrArg some (by kernel_rfl))
 f232 := func269.trans (congrArg some (by kernel_rfl))
 f234 := func270.trans (congrArg some (by kernel_rfl))
 f236 := func271.trans (congrArg some (by kernel_rfl))
 f260 := func302.trans (congrArg some (by kernel_rfl))
 f266 := func310.trans (congrArg some (by kernel_rfl))
 f271 := func295.trans (congrArg some (by kernel_rfl))
 t0 := underlying0
 a0 := isAgg0
 z0 := sizeOf0
 v0 := zeroValue0
 t3 := underlying3
 a3 := isAgg3
 z3 := sizeOf3
 v3 := zeroValue3
 t4 := underlying4
 a4 := isAgg4
 z4 := sizeOf4
 v4 := zeroValue4
 t5 := underlying5
 a5 := isAgg5
 z5 := sizeOf5
 v5 := zeroValue5
 t9 := underlying9
 a9 := isAgg9
 z9 := sizeOf9
 v9 := zeroValue9
 t21 := underlying21
 a21 := isAgg21
 z21 := sizeOf21
 v21 := zeroValue21
 t46 := underlying153
 a46 := isAgg153
 z46 := sizeOf153
 v46 := zeroValue153
 t105 := underlying218
 a105 := isAgg218
 z105 := sizeOf218
 v105 := zeroValue218
 t116 := underlying414
 a116 := isAgg414
 z116 := sizeOf414
 t117 := underlying415
 a117 := isAgg415
 z117 := sizeOf415
 v117 := zeroValue415
 t119 := underlying299
 a119 := isAgg299
 z119 := sizeOf299
 t124 := underlying418
 a124 := isAgg418
 z124 := sizeOf418
 v124 := zeroValue418
 t138 := underlying301
 a138 := isAgg301
 z138 := sizeOf301
 v138 := zeroValue301
 t139 := underlying302
 a139 := isAgg302
 z139 := sizeOf302
 v139 := zeroValue302
 g3 := by kernel_rfl
 g4 := by kernel_rfl }
open Go.RowKit in
theorem Tryz.strings_TrimRight_one (s : ByteArray) (c : UInt8) (hc : c.toNat < 128) (w : World) (hs : s.size ≤ 9223372036854775807) :
 Calls prog 246 #[.string s, .string ⟨#[c]⟩] w fun e w' => e = .returned (.string ⟨(Lib.trimRightB s.data.toList c).toArray⟩) ∧ w' = w := Any.strings_TrimRight_one Tryz.lays162 s c hc w hs
def Tryz.lays125_ren : Go.Shelf.Ren := ⟨fun | 125 => 260 | 128 => 288 | 129 => 273 | n => n, fun | 46 => 153 | 3 => 3 | 51 => 208 | 53 => 30 | 4 => 4 | 5 => 5 | 9 => 9 | n => n, fun | n => n⟩
theorem Tryz.lays125 : Go.Proofs.Lays.n125 prog Tryz.lays125_ren := {
 mixed := by kernel_rfl
 f125 := func260.trans (congrArg some (by kernel_rfl))
 f128 := func288.trans (congrArg some (by kernel_rfl))
 f129 := func273.trans (congrArg some (by kernel_rfl))
 t3 := underlying3
 a3 := isAgg3
 z3 := sizeOf3
 v3 := zeroValue3
 t4 := underlying4
 a4 := isAgg4
 z4 := sizeOf4
 v4 := zeroValue4
 t5 := underlying5
 a5 := isAgg5
 z5 := sizeOf5
 v5 := zeroValue5
 t9 := underlying9
 a9 := isAgg9
 z9 := sizeOf9
 v9 := zeroValue9
 t46 := underlying153
 a46 := isAgg153
 z46 := sizeOf153
 v46 := zeroValue153
 t51 := underlying208
 a51 := isAgg208
 z51 := sizeOf208
 v51 := zeroValue208
 t53 := underlying30
 a53 := isAgg30
 z53 := sizeOf30
 v53 := zeroValue30 }
theorem Tryz.bits_Len (x : Int) (w : World) (h0 : 0 ≤ x) (h1 : x ≤ 18446744073709551615) :
 Calls prog 260 #[.int .u64 x] w fun e w' => e = .returned (.int .i64 (Lib.bitLen x.toNat)) ∧ w' = w := Any.bits_Len Tryz.lays125 x w h0 h1
open Go.RowKit in
def Tryz.lays129_ren : Go.Shelf.Ren := ⟨fun | 129 => 273 | n => n, fun | 53 => 30 | 3 => 3 | 4 => 4 | 46 => 153 | 5 => 5 | 9 => 9 | n => n, fun | n => n⟩
theorem Tryz.lays129 : Go.Proofs.Lays.n129 prog Tryz.lays129_ren := {
 mixed := by kernel_rfl
 f129 := func273.trans (congrArg some (by kernel_rfl))
 t3 := underlying3
 a3 := isAgg3
 z3 := sizeOf3
 v3 := zeroValue3
 t4 := underlying4
 a4 := isAgg4
 z4 := sizeOf4
 v4 := zeroValue4
 t5 := underlying5
 a5 := isAgg5
 z5 := sizeOf5
 v5 := zeroValue5
 t9 := underlying9
 a9 := isAgg9
 z9 := sizeOf9
 v9 := zeroValue9
 t46 := underlying153
 a46 := isAgg153
 z46 := sizeOf153
 v46 := zeroValue153
 t53 := underlying30
 a53 := isAgg30
 z53 := sizeOf30
 v53 := zeroValue30 }
theorem Tryz.bits_Len64 (x : Int) (w : World) (h0 : 0 ≤ x) (h1 : x ≤ 18446744073709551615) :
 Calls prog 273 #[.int .u64 x] w fun e w' => e = .returned (.int .i64 (Lib.bitLen x.toNat)) ∧ w' = w := Any.bits_Len64 Tryz.lays129 x w h0 h1
open Go.RowKit Go.Lib in
open Go.RowKit Go.Lib in
open Go.RowKit Go.Lib in
open Go.RowKit Go.Lib in
open Go.RowKit Go.Lib in
open Go.RowKit Go.Lib in
open Go.RowKit Go.Lib in
open Go.RowKit Go.Lib in
def Tryz.lays264_ren : Go.Shelf.Ren := ⟨fun | 264 => 94 | n => n, fun | 53 => 30 | 46 => 153 | n => n, fun | n => n⟩
theorem Tryz.lays264 : Go.Proofs.Lays.n264 prog Tryz.lays264_ren := {
 mixed := by kernel_rfl
 f264 := func94.trans (congrArg some (by kernel_rfl))
 t46 := underlying153
 a46 := isAgg153
 z46 := sizeOf153
 v46 := zeroValue153
 t53 := underlying30
 a53 := isAgg30
 z53 := sizeOf30
 v53 := zeroValue30 }
open Go.RowKit Go.Lib in
theorem Tryz.bits_Mul64 (x y : Nat) (hx : x < 18446744073709551616) (hy : y < 18446744073709551616) (w : World) :
 Calls prog 94 #[.int .u64 x, .int .u64 y] w fun e w' => e = .returned (.tuple #[.int .u64 ((x * y / 18446744073709551616 : Nat) : Int), .int .u64 ((x * y % 18446744073709551616 : Nat) : Int)]) ∧ w' = w := Any.bits_Mul64 Tryz.lays264 x y hx hy w
open Go.RowKit Go.Lib in
open Go.RowKit Go.Lib in
open Go.RowKit Go.Lib in
open Go.RowKit Go.Lib in
open Go.RowKit Go.Lib in
open Go.RowKit Go.Lib in
open Go.RowKit Go.Lib in
open Go.RowKit Go.Lib in
open Go.RowKit Go.Lib in
open Go.RowKit Go.Lib in
open Go.RowKit Go.Lib in
open Go.RowKit Go.Lib in
open Go.RowKit Go.Lib in
open Go.RowKit Go.Lib in
open Go.RowKit Go.Lib in
def Tryz.lays187_ren : Go.Shelf.Ren := ⟨fun | 187 => 63 | 255 => 95 | n => n, fun | 37 => 22 | 5 => 5 | 3 => 3 | n => n, fun | n => n⟩
theorem Tryz.lays187 : Go.Proofs.Lays.n187 prog Tryz.lays187_ren := {
 mixed := by kernel_rfl
 f187 := func63.trans (congrArg some (by kernel_rfl))
 f255 := func95.trans (congrArg some (by kernel_rfl))
 t3 := underlying3
 a3 := isAgg3
 z3 := sizeOf3
 v3 := zeroValue3
 t5 := underlying5
 a5 := isAgg5
 z5 := sizeOf5
 v5 := zeroValue5
 t37 := underlying22
 a37 := isAgg22
 z37 := sizeOf22
 v37 := zeroValue22 }
open Go.RowKit Go.Lib in
open Go.RowKit Go.Lib in
open Go.RowKit Go.Lib in
open Go.RowKit Go.Lib in
open Go.RowKit Go.Lib in
open Go.RowKit Go.Lib in
open Go.RowKit Go.Lib in
theorem Tryz.bytes_IndexByte (b o n c : Nat) (xs : List Int) (cv : Int) (w : World) (hx : xs.length = n) (hc : ∀ i, i < n → w.cell? ⟨b, o + i, none⟩ = some (.int .u8 (xs.getD i 0))) :
 Calls prog 63 #[.slice (some ⟨b, o, none⟩) n c, .int .u8 cv] w fun e w' => e = .returned (.int .i64 (Lib.indexByte (Lib.bytesOf xs) cv.toNat.toUInt8)) ∧ w' = w := Any.bytes_IndexByte Tryz.lays187 b o n c xs cv w hx hc
theorem Tryz.bytes_IndexByte_nil (cv : Int) (w : World) :
 Calls prog 63 #[.slice none 0 0, .int .u8 cv] w fun e w' => e = .returned (.int .i64 (-1)) ∧ w' = w := Any.bytes_IndexByte_nil Tryz.lays187 cv w
end
section
def Row {α : Type} (B e : Nat) (enc : α → Value) (w : World) (v : Value) (l : List α) : Prop := w.ownsRow B e 1 v l.length (l.map enc)
def Elem (t e bytes : Nat) : Prop := prog.underlying t = some (.slice e) ∧ ∃ i z, prog.info? e = some i ∧ i.zero = some z ∧ i.size = 1 ∧ i.bytes = bytes ∧ z.cells.size = 1
theorem ownsRow_below {w w' : World} {base e size n : Nat} {v : Value} {xs : List Value} (h : w.ownsRow base e size v n xs) (hb : Below w.heap.size w w') : w'.ownsRow base e size v n xs := by
 refine ⟨h.1, ?_⟩;rcases h.2 with hn | ⟨g, cap, cur, rfl, hg, hgg, rest⟩
 ·exact .inl hn
 ·exact .inr ⟨g, cap, cur, rfl, hg, (hb.block g (Array.getElem?_eq_some_iff.1 hgg).1).trans hgg, rest⟩
theorem ownsRow_set {w : World} {base e size n : Nat} {v : Value} {xs : List Value} (h : w.ownsRow base e size v n xs) {b : Nat} {c : Array Value} {T : TypeId} (hb : w.heap[b]? = some (.cells c T (0, 0))) (hT : T ≠ e) (o : Nat) (u : Value) :
 (w.setCell ⟨b, o, none⟩ u).ownsRow base e size v n xs := by
 refine ownsRow_setCell_other h (fun hc => ?_) u;rcases h.2 with ⟨rfl, _⟩ | ⟨g, cap, cur, rfl, _, hg, _⟩
 ·simp [Value.ownBlock] at hc
 ·simp [Value.ownBlock] at hc;subst hc;rw [hb] at hg;simp at hg;exact hT hg.2
theorem free_at0 {w : World} {b : Nat} {c : Array Value} {T : TypeId} (h : w.heap[b]? = some (.cells c T (0, 0))) (o : Nat) : w.frozen? ⟨b, o, none⟩ = false := by simp [World.frozen?, h]
theorem set_at0 {w : World} {b o : Nat} {c : Array Value} {T : TypeId} (h : w.heap[b]? = some (.cells c T (0, 0))) (u : Value) : (w.setCell ⟨b, o, none⟩ u).heap[b]? = some (.cells (c.setIfInBounds o u) T (0, 0)) := by
 have hlt := lt_of_block h;have h' : w.heap[b] = .cells c T (0, 0) := by simpa [Array.getElem?_eq_getElem hlt] using h
 show (w.heap.modify b _)[b]? = _
 rw [Array.getElem?_eq_getElem (by simpa using hlt), Array.getElem_modify_self, h'];rfl
section
variable {α : Type} {B e : Nat} {enc : α → Value} {w : World} {v : Value} {l : List α}
theorem Row.below {w' : World} (h : Row B e enc w v l) (hb : Below w.heap.size w w') : Row B e enc w' v l := ownsRow_below h hb
theorem Row.set (h : Row B e enc w v l) {b : Nat} {c : Array Value} {T : TypeId} (hb : w.heap[b]? = some (.cells c T (0, 0))) (hT : T ≠ e) (o : Nat) (u : Value) : Row B e enc (w.setCell ⟨b, o, none⟩ u) v l := ownsRow_set h hb hT o u
theorem Row.nil (B e : Nat) (enc : α → Value) (w : World) : Row B e enc w (.slice none 0 0) [] := World.ownsRow_nil w B e 1
theorem Row.base {B' : Nat} (h : Row B e enc w v l) (hB : B' ≤ B) : Row B' e enc w v l := by
 refine ⟨h.1, ?_⟩;rcases h.2 with hn | ⟨g, cap, cur, rfl, hg, rest⟩
 ·exact .inl hn
 ·exact .inr ⟨g, cap, cur, rfl, Nat.le_trans hB hg, rest⟩
theorem Row.cases (h : Row B e enc w v l) : (v = .slice none 0 0 ∧ l = []) ∨
 ∃ g cap, v = .slice (some ⟨g, 0, none⟩) l.length cap ∧ B ≤ g ∧ g < w.heap.size ∧ l.length ≤ cap ∧ cap ≤ maxLen ∧ (∃ cur, w.heap[g]? = some (.cells cur e (0, 0)) ∧ cur.size = cap ∧ cur.toList.take l.length = l.map enc) ∧
  ∀ i x, l[i]? = some x → w.cell? ⟨g, i, none⟩ = some (enc x) := by
 rcases h.2 with ⟨hv, hn⟩ | ⟨g, cap, cur, hv, hB, hg, hc, hm, hs, ht⟩
 ·exact .inl ⟨hv, List.eq_nil_of_length_eq_zero hn⟩
 ·simp only [Nat.mul_one] at hs ht;refine .inr ⟨g, cap, hv, hB, lt_of_block hg, hc, hm, ⟨cur, hg, hs, ht⟩, fun i x hi => ?_⟩;rw [cell_of_row w g i cur e (0, 0) hg];have := congrArg (fun x => x[i]?) ht;have hlt : i < l.length := (List.getElem?_eq_some_iff.1 hi).1;simp only [List.getElem?_take, List.getElem?_map, if_pos hlt, Array.getElem?_toList, hi] at this;exact this
theorem Row.shape (h : Row B e enc w v l) : ∃ a c, v = .slice a l.length c := by
 rcases h.cases with ⟨rfl, rfl⟩ | ⟨g, cap, rfl, _⟩
 ·exact ⟨none, 0, rfl⟩
 ·exact ⟨_, _, rfl⟩
theorem Row.lt (h : Row B e enc w v l) : ∀ k, v.ownBlock = some k → B ≤ k ∧ k < w.heap.size := World.ownsRow.lt h
theorem Row.take {g n cap : Nat} (h : Row B e enc w (.slice (some ⟨g, 0, none⟩) n cap) l) {k : Nat} (hk : k ≤ l.length) : Row B e enc w (.slice (some ⟨g, 0, none⟩) k cap) (l.take k) := by
 rcases h.2 with ⟨hv, _⟩ | ⟨g', cap', cur, hv, h0, hg, hc, hm, hs, ht⟩
 ·cases hv
 ·cases hv;refine ⟨by simp, .inr ⟨g, cap, cur, by simp [Nat.min_eq_left hk], h0, hg, by simp; omega, hm, hs, ?_⟩⟩;have := congrArg (List.take k) ht;rw [List.take_take] at this;simp only [Nat.mul_one, List.length_take, List.map_take] at this ⊢;rw [← this]
theorem Row.free {g n cap : Nat} (h : Row B e enc w (.slice (some ⟨g, 0, none⟩) n cap) l) (o : Nat) : w.frozen? ⟨g, o, none⟩ = false := by
 rcases h.2 with ⟨hv, _⟩ | ⟨g', cap', cur, hv, _, hg, _⟩
 ·cases hv
 ·cases hv; exact free_at0 hg o
theorem Row.cell {g n cap : Nat} (h : Row B e enc w (.slice (some ⟨g, 0, none⟩) n cap) l) {i : Nat} {x : α} (hx : l[i]? = some x) : w.cell? ⟨g, i, none⟩ = some (enc x) := by
 rcases h.cases with ⟨hv, _⟩ | ⟨g', cap', hv, _, _, _, _, _, hc⟩
 ·cases hv
 ·cases hv; exact hc i x hx
theorem Row.stored {g n cap : Nat} (h : Row B e enc w (.slice (some ⟨g, 0, none⟩) n cap) l) {i : Nat} (hi : i < l.length) (x : α) : Row B e enc (w.setCell ⟨g, i, none⟩ (enc x)) (.slice (some ⟨g, 0, none⟩) n cap) (l.set i x) := by
 rcases h.2 with ⟨hv, _⟩ | ⟨g', cap', cur, hv, h0, hg, hc, hm, hs, ht⟩
 ·cases hv
 ·cases hv;refine ⟨by simp, .inr ⟨g, cap, cur.setIfInBounds i (enc x), by simp, h0, set_at0 hg _, by simpa using hc, hm, by simpa using hs, ?_⟩⟩;simp only [Nat.mul_one, List.length_set, Array.toList_setIfInBounds] at ht ⊢;rw [List.take_set, ht, List.map_set]
theorem Row.new (B e : Nat) (enc : α → Value) (w : World) (l : List α) (hB : B ≤ w.heap.size) (hl : l.length ≤ maxLen) : Row B e enc (w.alloc (.cells (l.map enc).toArray e)) (.slice (some ⟨w.heap.size, 0, none⟩) l.length l.length) l := by
 refine ⟨by simp, .inr ⟨w.heap.size, l.length, _, rfl, hB, heap_alloc_new w _, Nat.le_refl _, hl, by simp, ?_⟩⟩;simp [List.take_of_length_le]
theorem Row.alloc (h : Row B e enc w v l) (o : Obj) : Row B e enc (w.alloc o) v l := World.ownsRow.alloc h o
theorem Row.drew (h : Row B e enc w v l) : Row B e enc w.drew v l := h
end
theorem after1 {w w1 : World} {o1 : Obj} (h : Below (w.alloc o1).heap.size (w.alloc o1) w1) : w1.heap[w.heap.size]? = some o1 ∧ Below w.heap.size w w1 ∧ w.heap.size + 1 ≤ w1.heap.size := by
 refine ⟨(h.block _ (by simp)).trans (heap_alloc_new w o1), ((Below.refl _ _).alloc (Nat.le_refl _) _).trans (h.mono (by simp)), by simpa using h.size⟩
theorem after2 {w w1 : World} {o1 o2 : Obj} (h : Below ((w.alloc o1).alloc o2).heap.size ((w.alloc o1).alloc o2) w1) : w1.heap[w.heap.size]? = some o1 ∧ w1.heap[w.heap.size + 1]? = some o2 ∧ Below w.heap.size w w1 ∧ w.heap.size + 2 ≤ w1.heap.size := by
 have h1 := after1 h;have h3 := after1 h1.2.1;exact ⟨h3.1, by simpa using h1.1, h3.2.1, by simpa using h1.2.2⟩
theorem after3 {w w1 : World} {o1 o2 o3 : Obj} (h : Below (((w.alloc o1).alloc o2).alloc o3).heap.size (((w.alloc o1).alloc o2).alloc o3) w1) : w1.heap[w.heap.size]? = some o1 ∧ w1.heap[w.heap.size + 1]? = some o2 ∧ w1.heap[w.heap.size + 2]? = some o3 ∧ Below w.heap.size w w1 ∧ w.heap.size + 3 ≤ w1.heap.size := by
 have h1 := after1 h;have h2 := after2 h1.2.1;exact ⟨h2.1, h2.2.1, by simpa using h1.1, h2.2.2.1, by simpa using h1.2.2⟩
theorem keep {w1 w2 : World} {b : Nat} {o : Obj} (h : w1.heap[b]? = some o) (hb : Below w1.heap.size w1 w2) : w2.heap[b]? = some o := (hb.block b (lt_of_block h)).trans h
theorem chain {w w1 w2 : World} (h : Below w.heap.size w w1) (hb : Below w1.heap.size w1 w2) : Below w.heap.size w w2 := h.trans (hb.mono h.size)
theorem set_at {w : World} {b o : Nat} {c : Array Value} {T : TypeId} (h : w.heap[b]? = some (.cells c T (0, 0))) (u : Value) : (w.setCell ⟨b, o, none⟩ u).heap[b]? = some (.cells (c.setIfInBounds o u) T (0, 0)) := by
 have hlt := lt_of_block h;have h' : w.heap[b] = .cells c T (0, 0) := by simpa [Array.getElem?_eq_getElem hlt] using h
 show (w.heap.modify b _)[b]? = _
 rw [Array.getElem?_eq_getElem (by simpa using hlt), Array.getElem_modify_self, h'];rfl
theorem set_else {w : World} {b o k : Nat} (u : Value) (h : k ≠ b) : (w.setCell ⟨b, o, none⟩ u).heap[k]? = w.heap[k]? := Below.heap_setCell w ⟨b, o, none⟩ u k h
theorem cell_at {w : World} {b o : Nat} {c : Array Value} {T : TypeId} (h : w.heap[b]? = some (.cells c T (0, 0))) : w.cell? ⟨b, o, none⟩ = c[o]? := by simp [World.cell?, h]
theorem free_at {w : World} {b : Nat} {c : Array Value} {T : TypeId} (h : w.heap[b]? = some (.cells c T (0, 0))) (o : Nat) : w.frozen? ⟨b, o, none⟩ = false := by simp [World.frozen?, h]
section
variable {α : Type} {B e t bytes : Nat} {enc : α → Value} {w : World} {v : Value} {l : List α}
theorem append_one {ops : Array Oper} {rest : List Oper} {o : Oper} {a : Act} {Q : Exit → Act → World → Prop} (E : Elem t e bytes) (hgd : o.guard = none) (s x : Operand)
 (ho : o.op = .call { callee := .builtin .append, args := #[s, x], argTypes := #[t, t] }) (hs : a.eval s = v) (hown : Row B e enc w v l) (ad : Addr) (c : Nat) (y : α) (hx : a.eval x = .slice (some ad) 1 c)
 (hy : w.cell? ad = some (enc y)) (h1 : (enc y).oneCell' = true) (hb : (l.length + 1) * bytes ≤ 140737488355328) (hm : l.length + 1 ≤ maxLen) (hbase : B ≤ w.heap.size)
 (h : ∀ b cap w', Row B e enc w' (.slice (some ⟨b, 0, none⟩) (l.length + 1) cap) (l ++ [y]) → w.grownBy w' v.ownBlock → wpList prog ops Q rest (a.put o.dst (.slice (some ⟨b, 0, none⟩) (l.length + 1) cap)) w') :
 wpList prog ops Q (o :: rest) a w := by
 obtain ⟨ht, i, z, hi, hz, hsz, hby, hzs⟩ := E;refine wpList_append_own w hgd s x t ho B e i z 1 bytes ht hi hz hsz hby hzs (by decide) v l.length (l.map enc) hs hown ad 1 c [enc y] hx rfl ?_ ?_ hm hb hbase ?_
 ·intro j u hj
  match j, hj with
  | 0, hj =>
   simp at hj; subst hj;have : ad.add 0 = ad := by obtain ⟨b, o, s⟩ := ad; cases s <;> simp [Addr.add]
   rw [this]; exact hy
  | j + 1, hj => simp at hj
 ·intro u hu; simp at hu; subst hu; exact h1
 ·intro v' w' hown' hg hiff;rcases hown'.2 with ⟨_, hn⟩ | ⟨g, cap, cur, rfl, rest'⟩
  ·omega
  ·refine h g cap w' ?_ hg;unfold Row;rw [List.length_append, List.map_append];exact ⟨by simp, .inr ⟨g, cap, cur, rfl, by simpa using rest'⟩⟩
end
def ElemZ (t e bytes : Nat) (z : Value) : Prop := prog.underlying t = some (.slice e) ∧ ∃ i, prog.info? e = some i ∧ i.zero = some z ∧ i.size = 1 ∧ i.bytes = bytes ∧ z.cells = #[z]
theorem make_row {α : Type} {B e t bytes : Nat} {enc : α → Value} {w : World} (z0 : α) {ops : Array Oper} {rest : List Oper} {o : Oper} {a : Act} {Q : Exit → Act → World → Prop} (E : ElemZ t e bytes (enc z0)) (hgd : o.guard = none) (l c : Operand)
 (hop : o.op = Op.makeSlice t l c) (kl kc : IntKind) (L C : Int) (m n : Nat) (hl : a.eval l = .int kl L) (hc : a.eval c = .int kc C) (hL : L = (m : Int)) (hC : C = (n : Int)) (hmn : m ≤ n) (hb : bytes * n ≤ 281474976710656) (hm : n ≤ maxLen) (hbase : B ≤ w.heap.size)
 (h : ∀ w', Row B e enc w' (.slice (some ⟨w.heap.size, 0, none⟩) m n) (List.replicate m z0) → Below w.heap.size w w' → wpList prog ops Q rest (a.put o.dst (.slice (some ⟨w.heap.size, 0, none⟩) m n)) w') :
 wpList prog ops Q (o :: rest) a w := by
 obtain ⟨ht, i, hi, hz, hsz, hby, hzc⟩ := E;have hrun := run_make (P := prog) w t e i (enc z0) ht hi hz kl kc (m : Int) (n : Int) (by omega) (by omega) (by rw [hby]; omega) (by simp only [maxLen] at hm; omega);subst hL;subst hC;refine wpList_plain hgd fun K hK => ?_
 unfold Oper.wp;simp only [execOp, hop, hl, hc, Sem.run_bind, hrun, Result.andThen_ok, Int.toNat_natCast, Sem.run_pure];refine hK _ _ (h _ ⟨by simp, .inr ⟨w.heap.size, n, madeCells (enc z0).cells (n * i.size), by simp, hbase, heap_alloc_new w _, by simpa using hmn, hm, by rw [size_madeCells, hsz], ?_⟩⟩ ((Below.refl _ _).alloc (Nat.le_refl _) _));rw [hzc, toList_madeCells_one, hsz];simp [List.take_replicate, Nat.min_eq_left hmn]
end
end Go.Proofs.YtakkmiomhackiaaGreatDoor
