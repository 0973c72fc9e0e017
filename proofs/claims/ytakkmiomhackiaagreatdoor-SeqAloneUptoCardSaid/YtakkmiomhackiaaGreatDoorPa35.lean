/-
  The program, one part of its walk: Sq4, Sq5, Sq6, Sq7, Sq8, Al1. Conditions: none.
-/
import Derived.Test.YtakkmiomhackiaaGreatDoorPa34
import Derived.Test.YtakkmiomhackiaaGreatDoorPa00
set_option linter.all false
set_option maxRecDepth 100000
set_option maxHeartbeats 16000000
open Go.Proofs.Tryz
namespace Go.Proofs.YtakkmiomhackiaaGreatDoor
open Go.RowKit
structure Rd where
 depth : Nat
 place : Nat
 begun : Bool
 open_ : List UInt8
 frm : Nat
 size : Nat
 recs : List (Except (Nat × Nat) Tr)
def Rd.part (x : Rd) (b : List UInt8) : Rd := { x with open_ := x.open_ ++ b.take (16777217 - x.open_.length), size := x.size + b.length, place := x.place + b.length }
def Rd.recOf (x : Rd) : Except (Nat × Nat) Tr := match wrongOf x.begun x.frm x.size x.open_ with
 | some e => .error e
 | none => shiftOf x.frm (readTree x.open_ x.depth)
def Rd.whole (x : Rd) : Rd := if x.size = 0 then x else { x with recs := x.recs ++ [x.recOf] }
def Rd.sign (x : Rd) : Rd := { x with place := x.place + 1, begun := true, open_ := [], frm := x.place + 1, size := 0 }
def Rd.byte (x : Rd) (c : UInt8) : Rd := if c = 30 then (x.whole).sign else x.part [c]
def Rd.feed (x : Rd) (b : List UInt8) : Rd := b.foldl (fun y c => y.byte c) x
def Rd.new (d : Nat) : Rd := ⟨d, 0, false, [], 0, 0, []⟩
theorem Rd.part_nil (x : Rd) : x.part [] = x := by simp [Rd.part]
theorem Rd.part_cons (x : Rd) (c : UInt8) (b : List UInt8) : (x.part [c]).part b = x.part (c :: b) := by
 unfold Rd.part
 by_cases h : 16777217 - x.open_.length = 0
 ·simp [h]; omega
 ·obtain ⟨n, hn⟩ : ∃ n, 16777217 - x.open_.length = n + 1 := ⟨16777217 - x.open_.length - 1, by omega⟩;have h1 : 16777217 - (x.open_ ++ [c]).length = n := by simp; omega
  simp only [hn, List.take_succ_cons, List.take_nil, List.length_cons, List.length_nil];rw [h1];simp;omega
theorem Rd.feed_plain {b : List UInt8} : ∀ (x : Rd), (∀ c ∈ b, c ≠ 30) → x.feed b = x.part b := by
 induction b with
 | nil => intro x _; rw [Rd.part_nil]; rfl
 | cons c b ih =>
  intro x h;have hc : x.byte c = x.part [c] := by unfold Rd.byte; rw [if_neg (h c (List.mem_cons_self ..))]
  show Rd.feed (x.byte c) b = _
  rw [hc, ih _ (fun c h' => h c (List.mem_cons_of_mem _ h')), Rd.part_cons]
theorem Rd.feed_append (x : Rd) (a b : List UInt8) : x.feed (a ++ b) = (x.feed a).feed b := by unfold Rd.feed; rw [List.foldl_append]
theorem Rd.feed_sign (x : Rd) (a b : List UInt8) (h : ∀ c ∈ a, c ≠ 30) : x.feed (a ++ 30 :: b) = (((x.part a).whole).sign).feed b := by
 rw [Rd.feed_append, Rd.feed_plain x h]
 show Rd.feed ((x.part a).byte 30) b = _
 unfold Rd.byte;rw [if_pos rfl]
def TT5 (T : TypeId) : Prop := T = 176 ∨ T = 186 ∨ T = 189 ∨ T = 97 ∨ T = 9
instance (T : TypeId) : Decidable (TT5 T) := by unfold TT5; infer_instance
def Recs (w : World) (cs : List Value) (recs : List (Except (Nat × Nat) Tr)) : Prop := ∀ (i : Nat) (rec : Except (Nat × Nat) Tr), recs[i]? = some rec → ∃ a b, cs[2 * i]? = some a ∧ cs[2 * i + 1]? = some b ∧ RecAt w a b rec
def RdAt (F : Nat → Prop) (w : World) (r : Nat) (x : Rd) (ended : Bool) : Prop :=
 F r ∧ (∀ k, F k → k < w.heap.size) ∧ ∃ openV recV cs, w.heap[r]? = some (.cells #[.int .i64 x.depth, .int .i64 x.place, .bool x.begun, .bool ended, openV, .int .i64 x.frm, .int .i64 x.size, recV] 159 (0, 0)) ∧
  WinN 1 5 w openV x.open_.length (x.open_.map encB) ∧ (∀ k, openV.ownBlock = some k → F k) ∧ WinN 2 162 w recV x.recs.length cs ∧ (∀ k, recV.ownBlock = some k → F k) ∧ Recs w cs x.recs
structure RdOk (x : Rd) : Prop where
 d1 : 1 ≤ x.depth
 d2 : x.depth ≤ 512
 len : x.open_.length = min x.size 16777217
 size : x.size ≤ x.place
 frm : x.frm ≤ x.place
 recs : x.recs.length + x.size ≤ x.place
theorem RecAt.keeps {w w' : World} {a b : Value} {rec : Except (Nat × Nat) Tr} {F : Nat → Prop} (h : RecAt w a b rec) (hk : Keeps F w w') (hF : ∀ k c T, TT5 T → w.heap[k]? = some (.cells c T (0, 0)) → ¬ F k) : RecAt w' a b rec := by
 cases rec with
 | error e => exact h
 | ok t =>
  obtain ⟨h1, T, v, h2, h3, h4⟩ := h;refine ⟨h1, T, v, h2, hk.blk h3 (hF T _ _ (.inl rfl) h3), (h4.typed.keeps hk ?_).mono (fun _ _ => trivial)⟩;rintro k ⟨_, c, T', hc, hT⟩;exact hF k c T' (by unfold TT5; exact .inr hT) hc
theorem Recs.keeps {w w' : World} {cs : List Value} {recs : List (Except (Nat × Nat) Tr)} {F : Nat → Prop} (h : Recs w cs recs) (hk : Keeps F w w') (hF : ∀ k c T, TT5 T → w.heap[k]? = some (.cells c T (0, 0)) → ¬ F k) : Recs w' cs recs := by
 intro i rec hr;obtain ⟨a, b, h1, h2, h3⟩ := h i rec hr;exact ⟨a, b, h1, h2, h3.keeps hk hF⟩
theorem no_tree {w : World} {r : Nat} {c0 : Array Value} {openV recV : Value} {n m : Nat} {cs cs' : List Value} (hb : w.heap[r]? = some (.cells c0 159 (0, 0))) (ho : WinN 1 5 w openV n cs) (hr : WinN 2 162 w recV m cs') : ∀ k c T, TT5 T → w.heap[k]? = some (.cells c T (0, 0)) → ¬ (k = r ∨ openV.ownBlock = some k ∨ recV.ownBlock = some k) := by
 rintro k c T hT hk (rfl | h | h)
 ·rw [hb] at hk;cases hk;exact absurd hT (by decide)
 ·exact ho.ne hk (fun e => by subst e; exact absurd hT (by decide)) h
 ·exact hr.ne hk (fun e => by subst e; exact absurd hT (by decide)) h
theorem no_reader {w : World} {r : Nat} {c0 : Array Value} (hb : w.heap[r]? = some (.cells c0 159 (0, 0))) : ∀ k c T, TT5 T → w.heap[k]? = some (.cells c T (0, 0)) → ¬ k = r := by
 rintro k c T hT hk rfl;rw [hb] at hk;cases hk;exact absurd hT (by decide)
theorem winN_apart {s e s' e' : Nat} {w : World} {v v' : Value} {n n' : Nat} {cs cs' : List Value} (h : WinN s e w v n cs) (h' : WinN s' e' w v' n' cs') (hT : e ≠ e') {k : Nat} (hk : v.ownBlock = some k) : v'.ownBlock ≠ some k := by
 rcases h.2 with ⟨rfl, _⟩ | ⟨g, off, cap, cur, rfl, hg, _⟩
 ·cases hk
 ·cases hk; exact h'.ne hg hT
theorem part_at (F : Nat → Prop) (w : World) (r : Nat) (x : Rd) (b : List UInt8) (bV : Value) (h : RdAt F w r x false) (hok : RdOk x) (hp : x.place ≤ 4611686018427387904) (hb : BytesIn F w bV b) (hbl : b.length ≤ 4294967296) :
 Calls prog 64 #[.pointer (some ⟨r, 0, none⟩), bV] w fun e w' => e = .returned (.tuple #[]) ∧ Keeps F w w' ∧ RdAt (Since F w w') w' r (x.part b) false := by
 obtain ⟨hF, hlt, openV, recV, cs, hbk, hw, hwF, hr, hrF, hrecs⟩ := h
 have hbi : BytesIn (fun k => k = r ∨ openV.ownBlock = some k) w bV b := by
  obtain ⟨a, cap, e1, e2, e3, e4⟩ := hb;exact ⟨a, cap, e1, e2, e3, e4.imp id (fun ⟨g, off, f1, f2, f3⟩ => ⟨g, off, f1, fun h => f2 (h.elim (fun e => e ▸ hF) (fun e => hwF g e)), f3⟩)⟩
 refine (part_any w r x.place x.size _ _ _ _ _ openV bV x.open_ b hbk hw (by rw [hok.len]; omega) hbi hbl hp (Nat.le_trans hok.size hp)).mono ?_;rintro e w' ⟨rfl, openV', hb2, hw2, hown, hk⟩;have hkF : Keeps F w w' := hk.mono fun k h => h.elim (fun e => e ▸ hF) (fun e => hwF k e)
 have hnt := no_tree hbk hw hr;refine ⟨rfl, hkF, .inl hF, since_lt hlt hk.size, openV', recV, cs, hb2, hw2, fun k hk' => (hown k hk').elim (fun e => .inl (hwF k e)) .inr, hr.keeps hk ?_, fun k hk' => .inl (hrF k hk'), hrecs.keeps hk (fun k c T hT hc h => hnt k c T hT hc (h.imp id .inl))⟩;intro k hk' h;rcases h with rfl | h
 ·exact hr.ne hbk (by decide) hk'
 ·exact winN_apart hr hw (by decide) hk' h
theorem Rd.part_ok {x : Rd} (h : RdOk x) (b : List UInt8) : RdOk (x.part b) := by
 refine ⟨h.d1, h.d2, ?_, ?_, ?_, ?_⟩
 ·show (x.open_ ++ b.take (16777217 - x.open_.length)).length = min (x.size + b.length) 16777217
  rw [List.length_append, List.length_take, h.len];omega
 ·show x.size + b.length ≤ x.place + b.length
  have := h.size; omega
 ·show x.frm ≤ x.place + b.length
  have := h.frm; omega
 ·show x.recs.length + (x.size + b.length) ≤ x.place + b.length
  have := h.recs; omega
theorem whole_of {F : Nat → Prop} {w w' : World} {r : Nat} {x : Rd} {openV recV : Value} {cs : List Value} {rec : Except (Nat × Nat) Tr} {e : Ending} (hF : F r) (hlt : ∀ k, F k → k < w.heap.size) (hbk : w.heap[r]? = some (.cells #[.int .i64 x.depth, .int .i64 x.place, .bool x.begun, .bool false, openV, .int .i64 x.frm, .int .i64 x.size, recV] 159 (0, 0)))
 (hw : WinN 1 5 w openV x.open_.length (x.open_.map encB)) (hwF : ∀ k, openV.ownBlock = some k → F k) (hr : WinN 2 162 w recV x.recs.length cs) (hrF : ∀ k, recV.ownBlock = some k → F k) (hrecs : Recs w cs x.recs)
 (h : WholeRet w r x.recs.length recV cs rec (fun u => #[.int .i64 x.depth, .int .i64 x.place, .bool x.begun, .bool false, openV, .int .i64 x.frm, .int .i64 x.size, u]) e w') :
 e = .returned (.tuple #[]) ∧ Keeps F w w' ∧ RdAt (Since F w w') w' r { x with recs := x.recs ++ [rec] } false := by
 obtain ⟨he, recV', a, b, hb2, hr2, hra, hown, hk⟩ := h;have hkF : Keeps F w w' := hk.mono fun k h => h.elim (fun e => e ▸ hF) (fun e => hrF k e)
 have hnt := no_tree hbk hw hr;refine ⟨he, hkF, .inl hF, since_lt hlt hk.size, openV, recV', cs ++ [a, b], hb2, hw.keeps hk ?_, fun k hk' => .inl (hwF k hk'), by simpa using hr2, fun k hk' => (hown k hk').elim (fun e => .inl (hrF k e)) .inr, ?_⟩
 ·intro k hk' h;rcases h with rfl | h
  ·exact hw.ne hbk (by decide) hk'
  ·exact winN_apart hw hr (by decide) hk' h
 ·intro i rc hi;have hlen := hr.1
  by_cases hil : i < x.recs.length
  ·rw [List.getElem?_append_left hil] at hi;obtain ⟨a', b', h1, h2, h3⟩ := hrecs i rc hi;exact ⟨a', b', by rw [List.getElem?_append_left (by omega)]; exact h1, by rw [List.getElem?_append_left (by omega)]; exact h2, h3.keeps hk (fun k c T hT hc h => hnt k c T hT hc (h.imp id .inr))⟩
  ·rw [List.getElem?_append_right (by omega)] at hi
   have hi0 : i = x.recs.length := by
    have := (List.getElem?_eq_some_iff.1 hi).1;simp at this; omega
   subst hi0;simp at hi;subst hi;refine ⟨a, b, ?_, ?_, hra⟩
   ·rw [List.getElem?_append_right (by omega), show 2 * x.recs.length - cs.length = 0 by omega]; rfl
   ·rw [List.getElem?_append_right (by omega), show 2 * x.recs.length + 1 - cs.length = 1 by omega]; rfl
theorem whole_at (F : Nat → Prop) (w : World) (r : Nat) (x : Rd) (h : RdAt F w r x false) (hok : RdOk x) (hp : x.place ≤ 1073741824) :
 Calls prog 65 #[.pointer (some ⟨r, 0, none⟩)] w fun e w' => e = .returned (.tuple #[]) ∧ Keeps F w w' ∧ RdAt (Since F w w') w' r (x.whole) false := by
 have h0 := h;obtain ⟨hF, hlt, openV, recV, cs, hbk, hw, hwF, hr, hrF, hrecs⟩ := h
 by_cases hs : x.size = 0
 ·have hwh : x.whole = x := by unfold Rd.whole; rw [if_pos hs]
  rw [hwh];have hbk2 := hbk;rw [hs] at hbk2;refine (whole_none w r _ _ _ _ _ _ _ hbk2).mono ?_;rintro e w' ⟨rfl, rfl⟩;exact ⟨rfl, Keeps.refl _ _, .inl hF, since_lt hlt (Nat.le_refl _), openV, recV, cs, hbk, hw, fun k h => .inl (hwF k h), hr, fun k h => .inl (hrF k h), hrecs⟩
 ·have hwh : x.whole = { x with recs := x.recs ++ [x.recOf] } := by unfold Rd.whole; rw [if_neg hs]
  rw [hwh];have h1 := hok.size;have h2 := hok.frm;have h3 := hok.recs;cases hwo : wrongOf x.begun x.frm x.size x.open_ with
  | some er =>
   obtain ⟨no, at_⟩ := er;have hro : x.recOf = .error (no, at_) := by unfold Rd.recOf; rw [hwo]
   rw [hro];exact (whole_wrong w r x.frm x.size x.recs.length no at_ x.begun _ _ _ recV openV x.open_ cs hbk hw (by omega) hok.len (by omega) (by omega) hr (by omega) hwo).mono fun e w' ht => whole_of hF hlt hbk hw hwF hr hrF hrecs ht
  | none =>
   have hro : x.recOf = shiftOf x.frm (readTree x.open_ x.depth) := by unfold Rd.recOf; rw [hwo]
   have hbg : x.begun = true := by
    cases hb : x.begun with
    | true => rfl
    | false => rw [hb] at hwo; simp [wrongOf] at hwo
   rw [hro];have hbk2 := hbk;rw [hbg] at hbk2 hwo
   exact (whole_read w r x.frm x.size x.recs.length x.depth _ _ recV openV x.open_ cs hbk2 hw (by omega) hok.len (by omega) (by omega) hr (by omega) hwo hok.d1 hok.d2).mono fun e w' ht => by
    have ht2 : WholeRet w r x.recs.length recV cs (shiftOf x.frm (readTree x.open_ x.depth)) (fun u => #[.int .i64 x.depth, .int .i64 x.place, .bool x.begun, .bool false, openV, .int .i64 x.frm, .int .i64 x.size, u]) e w' := by rw [hbg]; exact ht
    exact whole_of hF hlt hbk hw hwF hr hrF hrecs ht2
theorem Rd.whole_ok {x : Rd} (h : RdOk x) : RdOk (x.whole).sign := by
 unfold Rd.whole;split
 ·exact ⟨h.d1, h.d2, by simp [Rd.sign], by simp [Rd.sign], by simp [Rd.sign], by have := h.recs; simp [Rd.sign]; omega⟩
 ·exact ⟨h.d1, h.d2, by simp [Rd.sign], by simp [Rd.sign], by simp [Rd.sign], by have := h.recs; simp [Rd.sign]; omega⟩
theorem index_cases (l : List UInt8) (s : UInt8) : (Lib.indexByte l s = -1 ∧ ∀ c ∈ l, c ≠ s) ∨ ∃ a rest, l = a ++ s :: rest ∧ (∀ c ∈ a, c ≠ s) ∧ Lib.indexByte l s = (a.length : Int) := by
 induction l with
 | nil => exact .inl ⟨rfl, fun c h => by simp at h⟩
 | cons b l ih =>
  by_cases hb : b = s
  ·subst hb;exact .inr ⟨[], l, rfl, fun c h => by simp at h, by simp [Lib.indexByte]⟩
  ·have hbs : (b == s) = false := by simpa using hb
   rcases ih with ⟨h1, h2⟩ | ⟨a, rest, h1, h2, h3⟩
   ·refine .inl ⟨by simp [Lib.indexByte, hbs, h1], fun c h => ?_⟩;rcases List.mem_cons.1 h with rfl | h
    ·exact hb
    ·exact h2 c h
   ·refine .inr ⟨b :: a, rest, by rw [h1]; rfl, fun c h => ?_, ?_⟩
    ·rcases List.mem_cons.1 h with rfl | h
     ·exact hb
     ·exact h2 c h
    ·have hne : (Lib.indexByte l s == -1) = false := by rw [h3]; simp
     simp [Lib.indexByte, hbs, hne, h3]
def BytesOf (F : Nat → Prop) (w : World) (v : Value) (l : List UInt8) : Prop := BytesIn F w v l ∧ (v = .slice none 0 0 ∨ ∃ g off n c, v = .slice (some ⟨g, off, none⟩) n c)
theorem BytesOf.keeps {F G : Nat → Prop} {w w' : World} {v : Value} {l : List UInt8} (h : BytesOf F w v l) (hk : Keeps F w w') (hs : ∀ k, k < w.heap.size → G k → F k) : BytesOf G w' v l := by
 obtain ⟨⟨a, cap, e1, e2, e3, e4⟩, h2⟩ := h;refine ⟨⟨a, cap, e1, e2, e3, ?_⟩, h2⟩
 by_cases hl : l = []
 ·exact .inl hl
 ·obtain ⟨g, off, f1, f2, f3⟩ := e4.resolve_left hl;obtain ⟨c, t, rfl⟩ := List.exists_cons_of_ne_nil hl;have hg : g < w.heap.size := World.block_lt_of_cell? w _ (f3 0 c rfl);exact .inr ⟨g, off, f1, fun h => f2 (hs g hg h), fun i x hx => hk.cell (f3 i x hx) f2⟩
theorem idx_any (F : Nat → Prop) (w : World) (v : Value) (l : List UInt8) (h : BytesOf F w v l) : Calls prog 63 #[v, .int .u8 30] w fun e w' => e = .returned (.int .i64 (Lib.indexByte l 30)) ∧ w' = w := by
 obtain ⟨⟨a, cap, rfl, e2, e3, e4⟩, h2⟩ := h;rcases h2 with h2 | ⟨g, off, n, c, h2⟩
 ·injection h2 with h3 h4 h5
  have hl : l = [] := List.eq_nil_of_length_eq_zero h4;subst hl;subst h3; subst h5;exact Tryz.bytes_IndexByte_nil 30 w
 ·injection h2 with h3 h4 h5
  subst h3
  have hx := Tryz.bytes_IndexByte g off l.length cap (l.map fun c => (c.toNat : Int)) 30 w (by simp) (fun i hi => by
   rcases e4 with h0 | ⟨g', off', f1, f2, f3⟩
   ·subst h0; simp at hi
   ·injection f1 with f1
    injection f1 with f1 f4 _
    subst f1; subst f4;rw [f3 i l[i] (List.getElem?_eq_getElem hi)];simp [List.getD, List.getElem?_map, List.getElem?_eq_getElem hi])
  have hb : Lib.bytesOf (l.map fun c => (c.toNat : Int)) = l := by
   have he : ((fun n : Int => UInt8.ofNat n.toNat) ∘ fun c : UInt8 => (c.toNat : Int)) = id := by funext c; simp
   unfold Lib.bytesOf;rw [List.map_map, he, List.map_id]
  rw [hb] at hx;exact hx
def SeqInv (F : Nat → Prop) (w : World) (r : Nat) (x : Rd) (b : List UInt8) (v : Value) (wr : World) : Prop :=
 Keeps F w wr ∧ ∃ done rest, b = done ++ rest ∧ RdAt (Since F w wr) wr r (x.feed done) false ∧ RdOk (x.feed done) ∧ (x.feed done).place + rest.length = x.place + b.length ∧ BytesOf (Since F w wr) wr v rest
theorem RdAt.mono {F G : Nat → Prop} {w : World} {r : Nat} {x : Rd} {d : Bool} (h : RdAt F w r x d) (hs : ∀ k, F k → G k) (hlt : ∀ k, G k → k < w.heap.size) : RdAt G w r x d := by
 obtain ⟨hF, _, openV, recV, cs, hbk, hw, hwF, hr, hrF, hrecs⟩ := h;exact ⟨hs _ hF, hlt, openV, recV, cs, hbk, hw, fun k h => hs k (hwF k h), hr, fun k h => hs k (hrF k h), hrecs⟩
theorem BytesOf.since {F : Nat → Prop} {w wr : World} {v : Value} {l : List UInt8} (h : BytesOf F w v l) (hk : Keeps F w wr) : BytesOf (Since F w wr) wr v l := h.keeps hk (fun k hk h => h.elim id (fun h => absurd hk (Nat.not_lt.2 h.1)))
theorem sign_at {G : Nat → Prop} {w : World} {r : Nat} {x : Rd} (h : RdAt G w r x false) : RdAt G (((((w.setCell ⟨r, 1, none⟩ (.int .i64 ((x.place : Int) + 1))).setCell ⟨r, 2, none⟩ (.bool true)).setCell ⟨r, 4, none⟩ (.slice none 0 0)).setCell ⟨r, 5, none⟩ (.int .i64 ((x.place : Int) + 1))).setCell ⟨r, 6, none⟩ (.int .i64 0)) r x.sign false := by
 obtain ⟨hF, hlt, openV, recV, cs, hbk, hw, hwF, hr, hrF, hrecs⟩ := h
 have hk : Keeps (fun k => k = r) w (((((w.setCell ⟨r, 1, none⟩ (.int .i64 ((x.place : Int) + 1))).setCell ⟨r, 2, none⟩ (.bool true)).setCell ⟨r, 4, none⟩ (.slice none 0 0)).setCell ⟨r, 5, none⟩ (.int .i64 ((x.place : Int) + 1))).setCell ⟨r, 6, none⟩ (.int .i64 0)) :=
  (((((Keeps.refl (fun k => k = r) w).setCell (p := ⟨r, 1, none⟩) (.inl rfl) _).setCell (p := ⟨r, 2, none⟩) (.inl rfl) _).setCell (p := ⟨r, 4, none⟩) (.inl rfl) _).setCell (p := ⟨r, 5, none⟩) (.inl rfl) _).setCell (p := ⟨r, 6, none⟩) (.inl rfl) _
 exact ⟨hF, fun k h => Nat.lt_of_lt_of_le (hlt k h) hk.size, .slice none 0 0, recV, cs, set_at (set_at (set_at (set_at (set_at hbk _) _) _) _) _, .nil _ _ _, fun k h => (by cases h), hr.keeps hk (fun k e hk => hr.ne hbk (by decide) (e.trans (congrArg some hk))), hrF, hrecs.keeps hk (no_reader hbk)⟩
theorem seqFeed_any (F : Nat → Prop) (w : World) (r : Nat) (x : Rd) (b : List UInt8) (bV : Value) (h : RdAt F w r x false) (hok : RdOk x) (hp : x.place + b.length ≤ 1073741824) (hb : BytesOf F w bV b) :
 Calls prog 27 #[.pointer (some ⟨r, 0, none⟩), bV] w fun e w' => e = .returned .nilIface ∧ Keeps F w w' ∧ RdAt (Since F w w') w' r (x.feed b) false := by
 have HLT := hZ h.2.1;have HFR := hZ h.1
 have c3 : w.cell? ⟨r, 3, none⟩ = some (.bool false) := by
  obtain ⟨_, _, openV, recV, cs, hbk, _⟩ := h;rw [cell_at hbk]; rfl
 have HINV := hZ (show SeqInv F w r x b bV w from ⟨Keeps.refl _ _, [], b, rfl, h.mono (fun k h => .inl h) (since_lt h.2.1 (Nat.le_refl _)), hok, rfl, hb.since (Keeps.refl _ _)⟩);have hbl : b.length ≤ 1073741824 := by omega
 obtain ⟨out, hout⟩ : ∃ out, x.feed b = out := ⟨_, rfl⟩;rw [hout];have HOUT := hZ hout;obtain ⟨ba, bc, hbe, _⟩ := hb.1;subst hbe;clear h hok hb hout;go_enter func27, ntmps27;go_wp2_with fail
 go_loopw [1] (fun v wr => Hid (SeqInv F w r x b v wr)) (fun v _ => match v with | .slice _ n _ => n | _ => 0)
 case atStart => exact HINV
 case round =>
  obtain ⟨hkr, done, rest, hb, hrd, hyo, hpl, hbo⟩ := hrel.out;clear hrel HINV;obtain ⟨y, hy⟩ : ∃ y, x.feed done = y := ⟨_, rfl⟩;rw [hy] at hrd hyo hpl;have HIX := hZ (idx_any _ wr _ rest hbo);rcases index_cases rest 30 with ⟨hi, hno⟩ | ⟨a, rest', hre, hno, hi⟩
  ·rw [hi] at HIX;have hpart := part_at _ wr r y rest _ hrd hyo (by omega) hbo.1 (by omega);have hfe : out = y.part rest := by rw [← HOUT.out, hb, Rd.feed_append, hy, Rd.feed_plain y hno]
   have HPA := hZ hpart;have HFE := hZ hfe;have HKR := hZ hkr;clear hkr hrd hyo hpl hbo hpart hfe hi hno hb c3;go_wp2_with fail;refine (HIX.out).mono ?_;rintro e w1 ⟨rfl, rfl⟩;go_wp2_with fail;refine (HPA.out).mono ?_;rintro e w2 ⟨rfl, hk2, hr2⟩;have HK2 := hZ hk2;have HR2 := hZ hr2;clear hk2 hr2;go_wp2_with fail;go_ret;rw [HFE.out];have hk := HKR.out.andThen HK2.out;exact ⟨rfl, hk, HR2.out.mono (fun k h => h.trans HKR.out.size HK2.out.size) (since_lt HLT.out hk.size)⟩
  ·obtain ⟨⟨sa, sc, hse, hsle, hscm, hsc⟩, hshape⟩ := hbo;have hrl : rest.length = a.length + 1 + rest'.length := by rw [hre]; simp; omega
   obtain ⟨g, off, hga, hgF, hcell⟩ := hsc.resolve_left (fun e => by rw [e] at hrl; simp at hrl; omega);subst hga;subst hse;rw [hi] at HIX;have hbb : b.length = done.length + rest.length := by rw [hb]; simp
   have hpb : BytesIn (Since F w wr) wr (.slice (some ⟨g, off, none⟩) a.length sc) a := ⟨_, sc, rfl, by omega, hscm, .inr ⟨g, off, rfl, hgF, fun i x hx => hcell i x (by rw [hre, List.getElem?_append_left (List.getElem?_eq_some_iff.1 hx).1]; exact hx)⟩⟩;have hpart := part_at _ wr r y a _ hrd hyo (by omega) hpb (by omega);have hfy : (x.feed (done ++ a)) = y.part a := by rw [Rd.feed_append, hy, Rd.feed_plain y hno]
   have hyo1 : RdOk (y.part a) := Rd.part_ok hyo a;have hpp : (y.part a).place = y.place + a.length := rfl;have HWH := hZ (fun (G : Nat → Prop) (w2 : World) (h2 : RdAt G w2 r (y.part a) false) => whole_at G w2 r (y.part a) h2 hyo1 (by omega));have hYo := Rd.whole_ok hyo1
   have hfs : x.feed (done ++ a ++ [30]) = ((y.part a).whole).sign := by
    rw [Rd.feed_append, hfy]
    show Rd.byte _ 30 = _
    unfold Rd.byte;rw [if_pos rfl]
   have hYp : ((y.part a).whole).place = y.place + a.length := by
    unfold Rd.whole;split <;> rfl
   obtain ⟨Y, hY⟩ : ∃ Y, (y.part a).whole = Y := ⟨_, rfl⟩;rw [hY] at HWH hYo hfs hYp;have hYb : Y.place ≤ 1073741824 := by omega
   have HP := hZ (show Y.sign.place + rest'.length = x.place + b.length by show Y.place + 1 + rest'.length = _; omega);have HPA := hZ hpart;have HKR := hZ hkr;have HYO := hZ hYo;have HFS := hZ hfs;have HB := hZ (show b = (done ++ a ++ [30]) ++ rest' by rw [hb, hre]; simp);have hal : a.length ≤ 1073741824 := by omega
   have hn0 : (0 : Int) ≤ (a.length : Int) := by omega
   have hnc : (a.length : Int) ≤ (sc : Int) := by omega
   have hn1 : (0 : Int) ≤ (a.length : Int) + 1 := by omega
   have hnl : (a.length : Int) + 1 ≤ (rest.length : Int) := by omega
   have hscm2 : sc ≤ 9223372036854775807 := by unfold maxLen at hscm; omega
   have hsub : rest.length - (a.length + 1) = rest'.length := by omega
   have HSUB := hZ hsub;have hw1 : IntKind.i64.wrap ((Y.place : Int) + 1) = (Y.place : Int) + 1 := by rw [IntKind.wrap_i64]; omega
   have hw2 : IntKind.i64.wrap ((a.length : Int) + 1) = (a.length : Int) + 1 := by rw [IntKind.wrap_i64]; omega
   have hcell' : ∀ i x, rest'[i]? = some x → wr.cell? ⟨g, off + (a.length + 1) + i, none⟩ = some (.int .u8 ((x.toNat : Nat) : Int)) := by
    intro i x hx;have := hcell (a.length + 1 + i) x (by rw [hre, List.getElem?_append_right (by omega), show a.length + 1 + i - a.length = i + 1 by omega]; simpa using hx);rw [show off + (a.length + 1) + i = off + (a.length + 1 + i) by omega]; exact this
   have HCELL := hZ hcell';have HGL := hZ (World.block_lt_of_cell? wr _ (hcell a.length 30 (by rw [hre]; simp)));have HGF := hZ hgF;have HSCM := hZ hscm;have HRL := hZ (And.intro hsle hrl);clear hkr hrd hyo hpl hpb hpart hfy hyo1 hYo hfs hYp hY hi hno hb hre hshape hsc hcell hcell' hgF hscm hsub hrl hbb hsle
   by_cases hcc : sc = a.length + 1
   ·subst hcc;go_wp2_with fail;refine (HIX.out).mono ?_;rintro e w1 ⟨rfl, rfl⟩;go_wp2_with fail;refine (HPA.out).mono ?_;rintro e w2 ⟨rfl, hk2, hr2⟩;have HWW := hZ (HWH.out _ w2 hr2);have HK2 := hZ hk2;clear hk2 hr2;go_wp2_with fail;refine (HWW.out).mono ?_;rintro e w3 ⟨rfl, hk3, hr3⟩;have HK3 := hZ hk3;have HS3 := hZ (sign_at hr3);have hr3' := hr3;obtain ⟨hF3, hlt3, openV3, recV3, cs3, hbk3, _⟩ := hr3';obtain ⟨d0, d1, d2, d3, d4, d5, d6, d7, df⟩ := cells8 hbk3;clear hk3 hr3 hF3 hlt3 hbk3 c3;go_wp2_with fail;have hk1 : Keeps (Since F w w1) w1 w3 := HK2.out.andThen HK3.out;have hkf := hk1.same (((((((Keeps.refl (Since F w w1) w3).setCell (p := ⟨r, 1, none⟩) (.inl (.inl HFR.out)) (.int .i64 ((Y.place : Int) + 1))).setCell (p := ⟨r, 2, none⟩) (.inl (.inl HFR.out)) (.bool true)).setCell (p := ⟨r, 4, none⟩) (.inl (.inl HFR.out)) (.slice none 0 0)).setCell (p := ⟨r, 5, none⟩) (.inl (.inl HFR.out)) (.int .i64 ((Y.place : Int) + 1))).setCell (p := ⟨r, 6, none⟩) (.inl (.inl HFR.out)) (.int .i64 0)));have hsz : w3.heap.size = (((((w3.setCell ⟨r, 1, none⟩ (.int .i64 ((Y.place : Int) + 1))).setCell ⟨r, 2, none⟩ (.bool true)).setCell ⟨r, 4, none⟩ (.slice none 0 0)).setCell ⟨r, 5, none⟩ (.int .i64 ((Y.place : Int) + 1))).setCell ⟨r, 6, none⟩ (.int .i64 0)).heap.size := by simp [World.setCell]
    obtain ⟨wf, hwf⟩ : ∃ wf, (((((w3.setCell ⟨r, 1, none⟩ (.int .i64 ((Y.place : Int) + 1))).setCell ⟨r, 2, none⟩ (.bool true)).setCell ⟨r, 4, none⟩ (.slice none 0 0)).setCell ⟨r, 5, none⟩ (.int .i64 ((Y.place : Int) + 1))).setCell ⟨r, 6, none⟩ (.int .i64 0)) = wf := ⟨_, rfl⟩;have hs3 := HS3.out;rw [hwf] at hkf hsz hs3 ⊢;have hkw : Keeps F w wf := HKR.out.andThen hkf
    have hrd' : RdAt (Since F w wf) wf r Y.sign false := hs3.mono (fun k h => by
     rcases h with h | h
     ·rcases h with h | h
      ·rcases h with h | h
       ·exact .inl h
       ·exact .inr ⟨h.1, Nat.lt_of_lt_of_le h.2 hkf.size⟩
      ·exact .inr ⟨Nat.le_trans HKR.out.size h.1, by rw [← hsz]; exact Nat.lt_of_lt_of_le h.2 HK3.out.size⟩
     ·exact .inr ⟨Nat.le_trans HKR.out.size (Nat.le_trans HK2.out.size h.1), by rw [← hsz]; exact h.2⟩) (since_lt HLT.out hkw.size)
    rw [← HFS.out] at hrd';have hyo' := HYO.out;rw [← HFS.out] at hyo';have hpl' := HP.out;rw [← HFS.out] at hpl';have hr0 : rest' = [] := List.eq_nil_of_length_eq_zero (by have := HRL.out; omega);refine ⟨hZ ⟨hkw, done ++ a ++ [30], rest', HB.out, hrd', hyo', hpl', ⟨⟨_, _, by rw [HSUB.out], by rw [hr0]; exact Nat.zero_le _, by unfold maxLen; omega, .inl hr0⟩, .inr ⟨_, _, _, _, rfl⟩⟩⟩, ?_⟩
    show rest.length - (a.length + 1) < rest.length
    have := HRL.out; omega
   ·go_wp2_with fail;refine (HIX.out).mono ?_;rintro e w1 ⟨rfl, rfl⟩;go_wp2_with fail;refine (HPA.out).mono ?_;rintro e w2 ⟨rfl, hk2, hr2⟩;have HWW := hZ (HWH.out _ w2 hr2);have HK2 := hZ hk2;clear hk2 hr2;go_wp2_with fail;refine (HWW.out).mono ?_;rintro e w3 ⟨rfl, hk3, hr3⟩;have HK3 := hZ hk3;have HS3 := hZ (sign_at hr3);have hr3' := hr3;obtain ⟨hF3, hlt3, openV3, recV3, cs3, hbk3, _⟩ := hr3';obtain ⟨d0, d1, d2, d3, d4, d5, d6, d7, df⟩ := cells8 hbk3;clear hk3 hr3 hF3 hlt3 hbk3 c3;go_wp2_with fail;have hk1 : Keeps (Since F w w1) w1 w3 := HK2.out.andThen HK3.out;have hkf := hk1.same (((((((Keeps.refl (Since F w w1) w3).setCell (p := ⟨r, 1, none⟩) (.inl (.inl HFR.out)) (.int .i64 ((Y.place : Int) + 1))).setCell (p := ⟨r, 2, none⟩) (.inl (.inl HFR.out)) (.bool true)).setCell (p := ⟨r, 4, none⟩) (.inl (.inl HFR.out)) (.slice none 0 0)).setCell (p := ⟨r, 5, none⟩) (.inl (.inl HFR.out)) (.int .i64 ((Y.place : Int) + 1))).setCell (p := ⟨r, 6, none⟩) (.inl (.inl HFR.out)) (.int .i64 0)));have hsz : w3.heap.size = (((((w3.setCell ⟨r, 1, none⟩ (.int .i64 ((Y.place : Int) + 1))).setCell ⟨r, 2, none⟩ (.bool true)).setCell ⟨r, 4, none⟩ (.slice none 0 0)).setCell ⟨r, 5, none⟩ (.int .i64 ((Y.place : Int) + 1))).setCell ⟨r, 6, none⟩ (.int .i64 0)).heap.size := by simp [World.setCell]
    obtain ⟨wf, hwf⟩ : ∃ wf, (((((w3.setCell ⟨r, 1, none⟩ (.int .i64 ((Y.place : Int) + 1))).setCell ⟨r, 2, none⟩ (.bool true)).setCell ⟨r, 4, none⟩ (.slice none 0 0)).setCell ⟨r, 5, none⟩ (.int .i64 ((Y.place : Int) + 1))).setCell ⟨r, 6, none⟩ (.int .i64 0)) = wf := ⟨_, rfl⟩;have hs3 := HS3.out;rw [hwf] at hkf hsz hs3 ⊢;have hkw : Keeps F w wf := HKR.out.andThen hkf
    have hrd' : RdAt (Since F w wf) wf r Y.sign false := hs3.mono (fun k h => by
     rcases h with h | h
     ·rcases h with h | h
      ·rcases h with h | h
       ·exact .inl h
       ·exact .inr ⟨h.1, Nat.lt_of_lt_of_le h.2 hkf.size⟩
      ·exact .inr ⟨Nat.le_trans HKR.out.size h.1, by rw [← hsz]; exact Nat.lt_of_lt_of_le h.2 HK3.out.size⟩
     ·exact .inr ⟨Nat.le_trans HKR.out.size (Nat.le_trans HK2.out.size h.1), by rw [← hsz]; exact h.2⟩) (since_lt HLT.out hkw.size)
    rw [← HFS.out] at hrd';have hyo' := HYO.out;rw [← HFS.out] at hyo';have hpl' := HP.out;rw [← HFS.out] at hpl';have hgS : ¬ Since F w wf g := fun h => h.elim (fun h => HGF.out (.inl h)) (fun h => HGF.out (.inr ⟨h.1, HGL.out⟩))
    refine ⟨hZ ⟨hkw, done ++ a ++ [30], rest', HB.out, hrd', hyo', hpl', ⟨⟨_, sc - (a.length + 1), by rw [HSUB.out], by have := HRL.out; omega, Nat.le_trans (Nat.sub_le _ _) HSCM.out, .inr ⟨g, off + (a.length + 1), rfl, hgS, fun i x hx => hkf.cell (HCELL.out i x hx) HGF.out⟩⟩, .inr ⟨_, _, _, _, rfl⟩⟩⟩, ?_⟩
    show rest.length - (a.length + 1) < rest.length
    have := HRL.out; omega
theorem waiting_any (F : Nat → Prop) (w : World) (r : Nat) (x : Rd) (d : Bool) (h : RdAt F w r x d) : Calls prog 39 #[.pointer (some ⟨r, 0, none⟩)] w fun e w' => e = .returned (.int .i64 x.recs.length) ∧ w' = w := by
 obtain ⟨hF, hlt, openV, recV, cs, hbk, hw, hwF, hr, hrF, hrecs⟩ := h;obtain ⟨a, c, rfl⟩ := hr.shape;obtain ⟨c0, c1, c2, c3, c4, c5, c6, c7, cf⟩ := cells8 hbk;clear hbk hw hr hrecs;go_enter func39, ntmps39;go_wp2_with fail;go_ret;exact ⟨rfl, rfl⟩
def Rd.done (x : Rd) : Rd := { x.whole with open_ := [], size := 0 }
theorem seqEnd_any (F : Nat → Prop) (w : World) (r : Nat) (x : Rd) (h : RdAt F w r x false) (hok : RdOk x) (hp : x.place ≤ 1073741824) :
 Calls prog 28 #[.pointer (some ⟨r, 0, none⟩)] w fun e w' => e = .returned .nilIface ∧ Keeps F w w' ∧ RdAt (Since F w w') w' r (x.done) true := by
 have HWH := hZ (whole_at F w r x h hok hp);have HLT := hZ h.2.1;have HFR := hZ h.1
 have c3 : w.cell? ⟨r, 3, none⟩ = some (.bool false) := by
  obtain ⟨_, _, openV, recV, cs, hbk, _⟩ := h;rw [cell_at hbk]; rfl
 have hd : x.done = { x.whole with open_ := [], size := 0 } := rfl;rw [hd];obtain ⟨Y, hY⟩ : ∃ Y, x.whole = Y := ⟨_, rfl⟩;rw [hY] at HWH ⊢;clear h hok hp hd hY;go_enter func28, ntmps28;go_wp2_with fail;refine (HWH.out).mono ?_;rintro e w1 ⟨rfl, hk1, hr1⟩;obtain ⟨hF1, hlt1, openV, recV, cs, hbk, hw, hwF, hr, hrF, hrecs⟩ := hr1;obtain ⟨d0, d1, d2, d3, d4, d5, d6, d7, df⟩ := cells8 hbk;have HB := hZ hbk;have HR := hZ (And.intro hr (And.intro hrF hrecs));have HK := hZ hk1;clear hk1 hF1 hlt1 hbk hw hwF hr hrF hrecs c3;go_wp2_with fail;go_ret;have hks : Keeps (fun k => k = r) w1 (((w1.setCell ⟨r, 3, none⟩ (.bool true)).setCell ⟨r, 4, none⟩ (.slice none 0 0)).setCell ⟨r, 6, none⟩ (.int .i64 0)) := (((Keeps.refl (fun k => k = r) w1).setCell (p := ⟨r, 3, none⟩) (.inl rfl) _).setCell (p := ⟨r, 4, none⟩) (.inl rfl) _).setCell (p := ⟨r, 6, none⟩) (.inl rfl) _;have hkw := HK.out.same (hks.mono fun k e => e ▸ HFR.out);obtain ⟨hr, hrF, hrecs⟩ := HR.out;exact ⟨rfl, hkw, .inl HFR.out, since_lt HLT.out hkw.size, .slice none 0 0, recV, cs, set_at (set_at (set_at HB.out _) _) _, .nil _ _ _, fun k h => (by cases h), hr.keeps hks (fun k e hk => hr.ne HB.out (by decide) (e.trans (congrArg some hk))), fun k h => (hrF k h).mono_r hks.size, hrecs.keeps hks (no_reader HB.out)⟩
theorem RdAt.drew {F : Nat → Prop} {w : World} {r : Nat} {x : Rd} {d : Bool} (h : RdAt F w r x d) : RdAt F w.drew r x d := by
 obtain ⟨hF, hlt, openV, recV, cs, hbk, hw, hwF, hr, hrF, hrecs⟩ := h;exact ⟨hF, hlt, openV, recV, cs, hbk, hw, hwF, hr, hrF, hrecs.keeps ((Keeps.refl (fun _ => False) w).drew) (fun _ _ _ _ _ h => h)⟩
theorem RecAt.drew {w : World} {a b : Value} {rec : Except (Nat × Nat) Tr} (h : RecAt w a b rec) : RecAt w.drew a b rec := h.keeps ((Keeps.refl (fun _ => False) w).drew) (fun _ _ _ _ _ h => h)
def NextRet (F : Nat → Prop) (w : World) (r : Nat) (x : Rd) (rec : Except (Nat × Nat) Tr) (rest : List (Except (Nat × Nat) Tr)) (d : Bool) (e : Ending) (w' : World) : Prop :=
 ∃ a b, e = .returned (.tuple #[a, b, .bool true]) ∧ RecAt w' a b rec ∧ Keeps F w w' ∧ RdAt (Since F w w') w' r { x with recs := rest } d
theorem seqNext_some (F : Nat → Prop) (w : World) (r : Nat) (x : Rd) (rec : Except (Nat × Nat) Tr) (rest : List (Except (Nat × Nat) Tr)) (d : Bool) (h : RdAt F w r x d) (hr0 : x.recs = rec :: rest) (hl : x.recs.length ≤ 1073741824) :
 Calls prog 29 #[.pointer (some ⟨r, 0, none⟩)] w fun e w' => NextRet F w r x rec rest d e w' := by
 have HWT := hZ (waiting_any F w r x d h);obtain ⟨hF, hlt, openV, recV, cs, hbk, hw, hwF, hr, hrF, hrecs⟩ := h;obtain ⟨n, hn⟩ : ∃ n, rest.length = n := ⟨_, rfl⟩;have hlen : x.recs.length = n + 1 := by rw [hr0, List.length_cons, hn]
 rw [hlen] at HWT hr hl;obtain ⟨a, b, ha, hb, hra⟩ := hrecs 0 rec (by rw [hr0]; rfl);have hr2 := hr;rcases hr2.2 with ⟨_, h0⟩ | ⟨g, off, cap, cur, rfl, hg, hcp, ho, hm, hi⟩
 ·omega
 obtain ⟨c0, c1, c2, c3, c4, c5, c6, c7, cf⟩ := cells8 hbk;have ca : w.cell? ⟨g, off, none⟩ = some a := by have := hr.cell ha; simpa using this
 have cb : w.cell? ⟨g, off + 1, none⟩ = some b := by have := hr.cell hb; simpa using this
 obtain ⟨q, hq, hbb⟩ : ∃ q, a = .pointer q ∧ (b = .nilIface ∨ ∃ T v, b = .iface T v) := by
  cases rec with
  | error er => obtain ⟨h1, h2⟩ := hra; exact ⟨_, h1, .inr ⟨_, _, h2⟩⟩
  | ok t => obtain ⟨h1, T, v, h2, _⟩ := hra; exact ⟨_, h2, .inl h1⟩
 subst hq;have H := hZ hbk;have hlt1 := lt_of_block hbk;have HOPEN := hZ (And.intro hw hwF);have HREC := hZ (And.intro hr (And.intro hrF hrecs));have HRA := hZ hra;have HLT := hZ hlt;have HF := hZ hF;have HR0 := hZ hr0;have HN := hZ hn;have hcap : (n : Int) + 1 ≤ (cap : Int) := by omega
 have hcm : cap ≤ 9223372036854775807 := by unfold maxLen at hm; omega
 have hn1 : (1 : Int) ≤ (n : Int) + 1 := by omega
 have hn2 : (0 : Int) ≤ (n : Int) + 1 := by omega
 have HWN := hZ (show WinN 2 162 w (if n = 0 then .slice (some ⟨g, off, none⟩) 0 0 else .slice (some ⟨g, off + 2, none⟩) n n) n (cs.drop 2) from by
  have hlen2 := hr.1;refine ⟨by rw [List.length_drop, hlen2]; omega, ?_⟩
  by_cases h0 : n = 0
  ·rw [if_pos h0, h0]
   exact .inr ⟨g, off, 0, cur, rfl, hg, Nat.le_refl _, by omega, Nat.zero_le _, fun j u hj => by
    have := (List.getElem?_eq_some_iff.1 hj).1;rw [List.length_drop, hlen2] at this; omega⟩
  ·rw [if_neg h0]
   exact .inr ⟨g, off + 2, n, cur, rfl, hg, Nat.le_refl _, by omega, by omega, fun j u hj => by
    rw [List.getElem?_drop] at hj;have := hi (2 + j) u hj;rw [show off + 2 + j = off + (2 + j) by omega]; exact this⟩)
 have hrg : g ≠ r := fun e => by subst e; rw [hbk] at hg; simp at hg
 have HRG := hZ hrg;have HGG := hZ hg;clear hbk hw hwF hr hr2 hrF hrecs hra ha hb hg hcp ho hm hi hlt hF hr0 hn hlen hrg
 have FIN : ∀ (b : Value) (nv : Value), (∃ u, nv = u ∧ nv = (if n = 0 then Value.slice (some ⟨g, off, none⟩) 0 0 else .slice (some ⟨g, off + 2, none⟩) n n)) → RecAt w (.pointer q) b rec → Keeps (fun k => k = r) w ((w.setCell ⟨r, 7, none⟩ nv).alloc (.cells #[.pointer q, b] 162)) ∧ RecAt ((w.setCell ⟨r, 7, none⟩ nv).alloc (.cells #[.pointer q, b] 162)) (.pointer q) b rec ∧ RdAt (Since F w ((w.setCell ⟨r, 7, none⟩ nv).alloc (.cells #[.pointer q, b] 162))) ((w.setCell ⟨r, 7, none⟩ nv).alloc (.cells #[.pointer q, b] 162)) r { x with recs := rest } d := by
  rintro b nv ⟨_, _, hnv⟩ hra;have hk : Keeps (fun k => k = r) w ((w.setCell ⟨r, 7, none⟩ nv).alloc (.cells #[.pointer q, b] 162)) := ((Keeps.refl (fun k => k = r) w).setCell (p := ⟨r, 7, none⟩) (.inl rfl) _).alloc _;have hnr := no_reader H.out;obtain ⟨hw, hwF⟩ := HOPEN.out;obtain ⟨hr, hrF, hrecs⟩ := HREC.out;refine ⟨hk, hra.keeps hk hnr, .inl HF.out, since_lt HLT.out hk.size, openV, nv, cs.drop 2, ?_, hw.keeps hk (fun k e hk => hw.ne H.out (by decide) (e.trans (congrArg some hk))), fun k h => .inl (hwF k h), ?_, ?_, ?_⟩
  ·exact (Below.heap_alloc _ _ _ (by simpa [World.setCell] using hlt1)).trans (set_at H.out _)
  ·have := HWN.out.keeps hk (fun k e hk => by
    subst hk
    by_cases h0 : n = 0
    ·rw [if_pos h0] at e; cases e; exact HRG.out rfl
    ·rw [if_neg h0] at e; cases e; exact HRG.out rfl)
   rw [hnv]
   show WinN 2 162 _ _ rest.length _
   rw [HN.out]; rw [hnv] at this; exact this
  ·intro k hk';rw [hnv] at hk'
   have : k = g := by
    by_cases h0 : n = 0
    ·rw [if_pos h0] at hk'; cases hk'; rfl
    ·rw [if_neg h0] at hk'; cases hk'; rfl
   subst this;exact .inl (hrF k rfl)
  ·intro i rc hi;obtain ⟨a', b', h1, h2, h3⟩ := hrecs (i + 1) rc (by rw [HR0.out]; simpa using hi);exact ⟨a', b', by rw [List.getElem?_drop, show 2 + 2 * i = 2 * (i + 1) by omega]; exact h1, by rw [List.getElem?_drop, show 2 + (2 * i + 1) = 2 * (i + 1) + 1 by omega]; exact h2, h3.keeps hk hnr⟩
 have HFIN := hZ FIN;clear FIN;rcases hbb with rfl | ⟨T, v, rfl⟩
 ·rcases Nat.eq_zero_or_pos n with h0 | h0
  ·skip;subst h0;have hnew := heap_alloc_new w (.cells #[.pointer q, .nilIface] 162);have hold := (Below.heap_alloc w (.cells #[.pointer q, .nilIface] 162) _ hlt1).trans H.out;obtain ⟨d0, d1, d2, d3, d4, d5, d6, d7, df⟩ := cells8 hold;have x0 : (w.alloc (.cells #[.pointer q, .nilIface] 162)).cell? ⟨w.heap.size, 0, none⟩ = some (.pointer q) := cell_at hnew;have x1 : (w.alloc (.cells #[.pointer q, .nilIface] 162)).cell? ⟨w.heap.size, 1, none⟩ = some (.nilIface) := cell_at hnew;clear hnew hold;go_enter func29, ntmps29;go_wp2_with fail;refine (HWT.out).mono ?_;rintro e w1 ⟨rfl, rfl⟩;go_wp2_with fail;go_region;have hne : ¬ r = w1.heap.size := by omega
   go_wp2_with fail;go_region;go_wp2_with fail;obtain ⟨f1, f2, f3⟩ := HFIN.out (.nilIface) (.slice (some ⟨g, off, none⟩) 0 0) ⟨_, rfl, by simp⟩ HRA.out;exact bodyPost_ret (v := .tuple #[.pointer q, .nilIface, .bool true]) (by simp [results, results29, go_sem]) rfl ⟨_, _, rfl, f2.drew.drew, (f1.mono (fun k e => e ▸ HF.out)).drew.drew, f3.drew.drew⟩
  ·skip;have hnz : ¬ n = 0 := by omega
   have HNZ := hZ hnz;clear hnz;have hnew := heap_alloc_new w (.cells #[.pointer q, .nilIface] 162);have hold := (Below.heap_alloc w (.cells #[.pointer q, .nilIface] 162) _ hlt1).trans H.out;obtain ⟨d0, d1, d2, d3, d4, d5, d6, d7, df⟩ := cells8 hold;have x0 : (w.alloc (.cells #[.pointer q, .nilIface] 162)).cell? ⟨w.heap.size, 0, none⟩ = some (.pointer q) := cell_at hnew;have x1 : (w.alloc (.cells #[.pointer q, .nilIface] 162)).cell? ⟨w.heap.size, 1, none⟩ = some (.nilIface) := cell_at hnew;clear hnew hold;go_enter func29, ntmps29;go_wp2_with fail;refine (HWT.out).mono ?_;rintro e w1 ⟨rfl, rfl⟩;go_wp2_with fail;go_region;have hne : ¬ r = w1.heap.size := by omega
   go_wp2_with fail;go_region;go_wp2_with fail;obtain ⟨f1, f2, f3⟩ := HFIN.out (.nilIface) (.slice (some ⟨g, off + 2, none⟩) n n) ⟨_, rfl, (if_neg HNZ.out).symm⟩ HRA.out;exact bodyPost_ret (v := .tuple #[.pointer q, .nilIface, .bool true]) (by simp [results, results29, go_sem]) rfl ⟨_, _, rfl, f2.drew.drew, (f1.mono (fun k e => e ▸ HF.out)).drew.drew, f3.drew.drew⟩
 ·rcases Nat.eq_zero_or_pos n with h0 | h0
  ·skip;subst h0;have hnew := heap_alloc_new w (.cells #[.pointer q, .iface T v] 162);have hold := (Below.heap_alloc w (.cells #[.pointer q, .iface T v] 162) _ hlt1).trans H.out;obtain ⟨d0, d1, d2, d3, d4, d5, d6, d7, df⟩ := cells8 hold;have x0 : (w.alloc (.cells #[.pointer q, .iface T v] 162)).cell? ⟨w.heap.size, 0, none⟩ = some (.pointer q) := cell_at hnew;have x1 : (w.alloc (.cells #[.pointer q, .iface T v] 162)).cell? ⟨w.heap.size, 1, none⟩ = some (.iface T v) := cell_at hnew;clear hnew hold;go_enter func29, ntmps29;go_wp2_with fail;refine (HWT.out).mono ?_;rintro e w1 ⟨rfl, rfl⟩;go_wp2_with fail;go_region;have hne : ¬ r = w1.heap.size := by omega
   go_wp2_with fail;go_region;go_wp2_with fail;obtain ⟨f1, f2, f3⟩ := HFIN.out (.iface T v) (.slice (some ⟨g, off, none⟩) 0 0) ⟨_, rfl, by simp⟩ HRA.out;exact bodyPost_ret (v := .tuple #[.pointer q, .iface T v, .bool true]) (by simp [results, results29, go_sem]) rfl ⟨_, _, rfl, f2.drew.drew, (f1.mono (fun k e => e ▸ HF.out)).drew.drew, f3.drew.drew⟩
  ·skip;have hnz : ¬ n = 0 := by omega
   have HNZ := hZ hnz;clear hnz;have hnew := heap_alloc_new w (.cells #[.pointer q, .iface T v] 162);have hold := (Below.heap_alloc w (.cells #[.pointer q, .iface T v] 162) _ hlt1).trans H.out;obtain ⟨d0, d1, d2, d3, d4, d5, d6, d7, df⟩ := cells8 hold;have x0 : (w.alloc (.cells #[.pointer q, .iface T v] 162)).cell? ⟨w.heap.size, 0, none⟩ = some (.pointer q) := cell_at hnew;have x1 : (w.alloc (.cells #[.pointer q, .iface T v] 162)).cell? ⟨w.heap.size, 1, none⟩ = some (.iface T v) := cell_at hnew;clear hnew hold;go_enter func29, ntmps29;go_wp2_with fail;refine (HWT.out).mono ?_;rintro e w1 ⟨rfl, rfl⟩;go_wp2_with fail;go_region;have hne : ¬ r = w1.heap.size := by omega
   go_wp2_with fail;go_region;go_wp2_with fail;obtain ⟨f1, f2, f3⟩ := HFIN.out (.iface T v) (.slice (some ⟨g, off + 2, none⟩) n n) ⟨_, rfl, (if_neg HNZ.out).symm⟩ HRA.out;exact bodyPost_ret (v := .tuple #[.pointer q, .iface T v, .bool true]) (by simp [results, results29, go_sem]) rfl ⟨_, _, rfl, f2.drew.drew, (f1.mono (fun k e => e ▸ HF.out)).drew.drew, f3.drew.drew⟩
theorem seqNext_none (F : Nat → Prop) (w : World) (r : Nat) (x : Rd) (d : Bool) (h : RdAt F w r x d) (hr0 : x.recs = []) :
 Calls prog 29 #[.pointer (some ⟨r, 0, none⟩)] w fun e w' => e = .returned (.tuple #[.pointer none, .nilIface, .bool false]) ∧ w' = w := by
 have HWT := hZ (waiting_any F w r x d h);rw [hr0] at HWT;clear h hr0;go_enter func29, ntmps29;go_wp2_with fail;refine (HWT.out).mono ?_;rintro e w1 ⟨rfl, rfl⟩;go_wp2_with fail;exact bodyPost_ret (v := .tuple #[.pointer none, .nilIface, .bool false]) (by simp [results, results29, go_sem]) rfl ⟨rfl, rfl⟩
def CloneRet (w : World) (l : List UInt8) (e : Ending) (w' : World) : Prop :=
 ∃ v, e = .returned v ∧ WinN 1 5 w' v l.length (l.map encB) ∧ (∀ k, v.ownBlock = some k → w.heap.size ≤ k ∧ k < w'.heap.size) ∧ Below w.heap.size w w'
theorem clone_nil (w : World) : Calls prog 31 #[.slice none 0 0] w fun e w' => CloneRet w [] e w' := by
 have q22 : ∀ (w : World) (a : Option Addr) (n c n' c' : Nat), (binOp .eql 22 (.slice a n c) (.slice none n' c')).run prog w = .ok (.bool a.isNone) w := fun w a n c n' c' => Lib.run_eql_slice_nil w _ _ a n c n' c' underlying22
 go_enter func31, ntmps31;go_wp2_with fail;exact bodyPost_ret (v := .slice none 0 0) (by simp [results, results31, go_sem]) rfl ⟨_, rfl, .nil _ _ _, fun k h => (by cases h), Below.refl _ _⟩
theorem clone_some (w : World) (a : Addr) (cap : Nat) (l : List UInt8) (hl : l.length ≤ 1073741824) (h : ∀ i x, l[i]? = some x → w.cell? (a.add i) = some (.int .u8 ((x.toNat : Nat) : Int))) :
 Calls prog 31 #[.slice (some a) l.length cap] w fun e w' => CloneRet w l e w' := by
 have hb0 : Below w.heap.size w (w.alloc (.cells #[] 5)) := (Below.refl _ _).alloc (Nat.le_refl _) _;have hnew := heap_alloc_new w (.cells #[] 5);have hw0 : WinN 1 5 (w.alloc (.cells #[] 5)) (.slice (some ⟨w.heap.size, 0, none⟩) 0 0) 0 [] := ⟨by simp, .inr ⟨w.heap.size, 0, 0, #[], rfl, hnew, Nat.le_refl _, by simp, Nat.zero_le _, fun j u hj => by simp at hj⟩⟩;have HB := hZ hb0;have HW := hZ hw0;have HL := hZ hl
 have hnews : ∀ j u, (l.map encB)[j]? = some u → (w.alloc (.cells #[] 5)).cell? (a.add j) = some u := by
  intro j u hj;rw [List.getElem?_map] at hj;cases hlj : l[j]? with
  | none => rw [hlj] at hj; cases hj
  | some x =>
   rw [hlj] at hj;simp at hj;subst hj;have hx := h j x hlj;exact (World.cell?_of_block (Below.heap_alloc _ _ _ (World.block_lt_of_cell? w _ hx))).trans hx
 have HN := hZ hnews;clear hb0 hnew hw0 hl h hnews;have q22 : ∀ (w : World) (a : Option Addr) (n c n' c' : Nat), (binOp .eql 22 (.slice a n c) (.slice none n' c')).run prog w = .ok (.bool a.isNone) w := fun w a n c n' c' => Lib.run_eql_slice_nil w _ _ a n c n' c' underlying22
 by_cases h0 : l = []
 ·subst h0;go_enter func31, ntmps31
  go_wp2_with (at_builtin; refine append_winN0 elemByteN rfl _ _ rfl rfl HW.out (some a) cap rfl ?_)
  go_wp2_with fail;exact bodyPost_ret (v := .slice (some ⟨w.heap.size, 0, none⟩) 0 0) (by simp [results, results31, go_sem]) rfl ⟨_, rfl, HW.out, fun k h => (by cases h; exact ⟨Nat.le_refl _, by simp⟩), HB.out⟩
 ·obtain ⟨n, hn⟩ : ∃ n, l.length = n + 1 := ⟨l.length - 1, by have := List.length_pos_iff.2 h0; omega⟩;rw [hn];have HLN := hZ hn;clear h0 hn;go_enter func31, ntmps31
  go_wp2_with (at_builtin; refine append_winN elemByteN rfl _ _ rfl rfl HW.out a (n + 1) cap (l.map encB) rfl ?_ HN.out ?_ ?_ ?_ ?_ ?_)
  ·rw [List.length_map, HLN.out]; omega
  ·intro u hu;rw [List.mem_map] at hu;obtain ⟨x, _, rfl⟩ := hu;rfl
  ·omega
  ·have := HL.out; rw [HLN.out] at this; omega
  ·have := HL.out; rw [HLN.out] at this; unfold maxLen; omega
  intro g off c w' hw hg hk;have HW2 := hZ hw;have HG := hZ hg;have HK := hZ hk;clear hw hg hk;go_wp2_with fail;refine bodyPost_ret (v := .slice (some ⟨g, off, none⟩) (n + 1) c) (by simp [results, results31, go_sem]) rfl ?_;refine ⟨_, rfl, ?_, ?_, ?_⟩
  ·have := HW2.out;rw [HLN.out]
   simpa using this
  ·intro k hk;cases hk;rcases HG.out with h | h
   ·cases h;exact ⟨Nat.le_refl _, Nat.lt_of_lt_of_le (by simp) HK.out.size⟩
   ·exact ⟨Nat.le_trans (by simp) h.1, h.2⟩
  ·exact ((Keeps.of_below (fun _ => False) HB.out).trans HK.out (fun k h => .inr (by cases h; exact Nat.le_refl _))).toBelow (Nat.le_refl _) (fun _ h => h.elim)
def HasBytes (w : World) (v : Value) (l : List UInt8) : Prop := BytesOf (fun _ => False) w v l
theorem clone_any (w : World) (v : Value) (l : List UInt8) (h : HasBytes w v l) (hl : l.length ≤ 1073741824) : Calls prog 31 #[v] w fun e w' => CloneRet w l e w' := by
 obtain ⟨⟨a, cap, rfl, h1, h2, h3⟩, h4⟩ := h;rcases h4 with h4 | ⟨g, off, n, c, h4⟩
 ·injection h4 with e1 e2 e3
  have h0 : l = [] := List.eq_nil_of_length_eq_zero e2;subst h0; subst e1; subst e3;exact clone_nil w
 ·injection h4 with e1 e2 e3
  subst e1;refine clone_some w _ cap l hl fun i x hx => ?_
  rcases h3 with h3 | ⟨g', off', f1, f2, f3⟩
  ·subst h3; simp at hx
  ·injection f1 with f1
   injection f1 with f1 f4 _
   subst f1; subst f4;have : (⟨g, off, none⟩ : Addr).add i = ⟨g, off + i, none⟩ := by unfold Addr.add; split <;> simp_all
   rw [this];exact f3 i x hx
def AllRet (w : World) (l : List UInt8) (d : Nat) (e : Ending) (w' : World) : Prop :=
 ∃ db rb v, e = .returned (.tuple #[.func (.func 66) #[] #[.pointer (some ⟨db, 0, none⟩), .pointer (some ⟨rb, 0, none⟩)], .nilIface]) ∧ w'.heap[db]? = some (.cells #[.int .i64 d] 3 (0, 0)) ∧ w'.heap[rb]? = some (.cells #[v] 22 (0, 0)) ∧
  WinN 1 5 w' v l.length (l.map encB) ∧ Below w.heap.size w w'
theorem all_any (w : World) (v : Value) (l : List UInt8) (d : Nat) (h1 : 1 ≤ d) (h2 : d ≤ 512) (h : HasBytes w v l) (hl : l.length ≤ 1073741824) :
 Calls prog 32 #[v, .int .i64 d] w fun e w' => AllRet w l d e w' := by
 have hbn : Below w.heap.size w ((w.alloc (.cells #[.int .i64 d] 3)).alloc (.cells #[.int .i64 d, .int .i64 0, .bool false, .bool false, .slice none 0 0, .int .i64 0, .int .i64 0, .slice none 0 0] 159)) := ((Below.refl _ _).alloc (Nat.le_refl _) _).alloc (by simp) _;have c0 : (w.alloc (.cells #[.int .i64 d] 3)).cell? ⟨w.heap.size, 0, none⟩ = some (.int .i64 d) := cell_at (heap_alloc_new w _);have HN := hZ (fun w1 => seqNew_any w1 d h1 h2);have HCL := hZ (fun w1 (hb : Below w.heap.size w w1) => clone_any w1 v l (BytesOf.keeps h (Keeps.of_below (fun _ => False) hb) (fun _ _ h => h)) hl);have HD := hZ (show ((w.alloc (.cells #[.int .i64 d] 3)).alloc (.cells #[.int .i64 d, .int .i64 0, .bool false, .bool false, .slice none 0 0, .int .i64 0, .int .i64 0, .slice none 0 0] 159)).heap[w.heap.size]? = some (.cells #[.int .i64 d] 3 (0, 0)) from (Below.heap_alloc _ _ _ (by simp)).trans (heap_alloc_new w _));have HBN := hZ hbn;obtain ⟨⟨a, cap, hv, _⟩, _⟩ := h;subst hv;clear hbn h1 h2 hl;go_enter func32, ntmps32;go_wp2_with fail;refine (HN.out _).mono ?_;rintro e w1 ⟨rfl, rfl⟩;go_wp2_with fail;refine (HCL.out _ HBN.out).mono ?_;rintro e w2 ⟨v2, rfl, hw2, hg2, hb2⟩;have HW2 := hZ hw2;have HB2 := hZ (chain HBN.out hb2);have HD2 := hZ (keep HD.out hb2);clear hw2 hg2 hb2 c0;obtain ⟨a2, c2, rfl⟩ := HW2.out.shape;go_wp2_with fail;have hk : Keeps (fun _ => False) w2 (w2.alloc (.cells #[.slice a2 l.length c2] 22)) := (Keeps.refl _ _).alloc _
 exact bodyPost_ret (v := .tuple #[.func (.func 66) #[] #[.pointer (some ⟨w.heap.size, 0, none⟩), .pointer (some ⟨w2.heap.size, 0, none⟩)], .nilIface]) (by simp [results, results32, go_sem]) rfl
  ⟨w.heap.size, w2.heap.size, .slice a2 l.length c2, rfl, hk.blk HD2.out id, heap_alloc_new w2 _, HW2.out.keeps hk (fun _ _ => id), HB2.out.alloc HB2.out.size _⟩
end Go.Proofs.YtakkmiomhackiaaGreatDoor
