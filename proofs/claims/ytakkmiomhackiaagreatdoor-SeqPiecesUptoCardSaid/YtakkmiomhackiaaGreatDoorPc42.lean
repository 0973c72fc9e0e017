/-
  The program, one part of its walk: Sq4, Sq5, Sq6. Conditions: none.
-/
import Derived.Test.YtakkmiomhackiaaGreatDoorPc41
set_option linter.all false
set_option maxRecDepth 100000
set_option maxHeartbeats 16000000
namespace Go.Proofs.YtakkmiomhackiaaGreatDoor
open Go.RowKit
structure Rd where
 depth : Nat
 place : Nat
 begun : Bool
 open_ : List UInt8
 frm : Nat
 size : Nat
 recs : List (Except (Nat × Nat) Tr)
def Rd.part (x : Rd) (b : List UInt8) : Rd := { x with open_ := x.open_ ++ b.take (16777217 - x.open_.length), size := x.size + b.length, place := x.place + b.length }
def Rd.recOf (x : Rd) : Except (Nat × Nat) Tr := match wrongOf x.begun x.frm x.size x.open_ with
 | some e => .error e
 | none => shiftOf x.frm (readTree x.open_ x.depth)
def Rd.whole (x : Rd) : Rd := if x.size = 0 then x else { x with recs := x.recs ++ [x.recOf] }
def Rd.sign (x : Rd) : Rd := { x with place := x.place + 1, begun := true, open_ := [], frm := x.place + 1, size := 0 }
def Rd.byte (x : Rd) (c : UInt8) : Rd := if c = 30 then (x.whole).sign else x.part [c]
def Rd.feed (x : Rd) (b : List UInt8) : Rd := b.foldl (fun y c => y.byte c) x
def Rd.new (d : Nat) : Rd := ⟨d, 0, false, [], 0, 0, []⟩
theorem Rd.part_nil (x : Rd) : x.part [] = x := by simp [Rd.part]
theorem Rd.part_cons (x : Rd) (c : UInt8) (b : List UInt8) : (x.part [c]).part b = x.part (c :: b) := by
 unfold Rd.part
 by_cases h : 16777217 - x.open_.length = 0
 ·simp [h]; omega
 ·obtain ⟨n, hn⟩ : ∃ n, 16777217 - x.open_.length = n + 1 := ⟨16777217 - x.open_.length - 1, by omega⟩;have h1 : 16777217 - (x.open_ ++ [c]).length = n := by simp; omega
  simp only [hn, List.take_succ_cons, List.take_nil, List.length_cons, List.length_nil];rw [h1];simp;omega
theorem Rd.feed_plain {b : List UInt8} : ∀ (x : Rd), (∀ c ∈ b, c ≠ 30) → x.feed b = x.part b := by
 induction b with
 | nil => intro x _; rw [Rd.part_nil]; rfl
 | cons c b ih =>
  intro x h;have hc : x.byte c = x.part [c] := by unfold Rd.byte; rw [if_neg (h c (List.mem_cons_self ..))]
  show Rd.feed (x.byte c) b = _
  rw [hc, ih _ (fun c h' => h c (List.mem_cons_of_mem _ h')), Rd.part_cons]
theorem Rd.feed_append (x : Rd) (a b : List UInt8) : x.feed (a ++ b) = (x.feed a).feed b := by unfold Rd.feed; rw [List.foldl_append]
theorem Rd.feed_sign (x : Rd) (a b : List UInt8) (h : ∀ c ∈ a, c ≠ 30) : x.feed (a ++ 30 :: b) = (((x.part a).whole).sign).feed b := by
 rw [Rd.feed_append, Rd.feed_plain x h]
 show Rd.feed ((x.part a).byte 30) b = _
 unfold Rd.byte;rw [if_pos rfl]
def TT5 (T : TypeId) : Prop := T = 176 ∨ T = 186 ∨ T = 189 ∨ T = 97 ∨ T = 9
instance (T : TypeId) : Decidable (TT5 T) := by unfold TT5; infer_instance
def Recs (w : World) (cs : List Value) (recs : List (Except (Nat × Nat) Tr)) : Prop := ∀ (i : Nat) (rec : Except (Nat × Nat) Tr), recs[i]? = some rec → ∃ a b, cs[2 * i]? = some a ∧ cs[2 * i + 1]? = some b ∧ RecAt w a b rec
def RdAt (F : Nat → Prop) (w : World) (r : Nat) (x : Rd) (ended : Bool) : Prop :=
 F r ∧ (∀ k, F k → k < w.heap.size) ∧ ∃ openV recV cs, w.heap[r]? = some (.cells #[.int .i64 x.depth, .int .i64 x.place, .bool x.begun, .bool ended, openV, .int .i64 x.frm, .int .i64 x.size, recV] 159 (0, 0)) ∧
  WinN 1 5 w openV x.open_.length (x.open_.map encB) ∧ (∀ k, openV.ownBlock = some k → F k) ∧ WinN 2 162 w recV x.recs.length cs ∧ (∀ k, recV.ownBlock = some k → F k) ∧ Recs w cs x.recs
structure RdOk (x : Rd) : Prop where
 d1 : 1 ≤ x.depth
 d2 : x.depth ≤ 512
 len : x.open_.length = min x.size 16777217
 size : x.size ≤ x.place
 frm : x.frm ≤ x.place
 recs : x.recs.length + x.size ≤ x.place
theorem RecAt.keeps {w w' : World} {a b : Value} {rec : Except (Nat × Nat) Tr} {F : Nat → Prop} (h : RecAt w a b rec) (hk : Keeps F w w') (hF : ∀ k c T, TT5 T → w.heap[k]? = some (.cells c T (0, 0)) → ¬ F k) : RecAt w' a b rec := by
 cases rec with
 | error e => exact h
 | ok t =>
  obtain ⟨h1, T, v, h2, h3, h4⟩ := h;refine ⟨h1, T, v, h2, hk.blk h3 (hF T _ _ (.inl rfl) h3), (h4.typed.keeps hk ?_).mono (fun _ _ => trivial)⟩;rintro k ⟨_, c, T', hc, hT⟩;exact hF k c T' (by unfold TT5; exact .inr hT) hc
theorem Recs.keeps {w w' : World} {cs : List Value} {recs : List (Except (Nat × Nat) Tr)} {F : Nat → Prop} (h : Recs w cs recs) (hk : Keeps F w w') (hF : ∀ k c T, TT5 T → w.heap[k]? = some (.cells c T (0, 0)) → ¬ F k) : Recs w' cs recs := by
 intro i rec hr;obtain ⟨a, b, h1, h2, h3⟩ := h i rec hr;exact ⟨a, b, h1, h2, h3.keeps hk hF⟩
theorem no_tree {w : World} {r : Nat} {c0 : Array Value} {openV recV : Value} {n m : Nat} {cs cs' : List Value} (hb : w.heap[r]? = some (.cells c0 159 (0, 0))) (ho : WinN 1 5 w openV n cs) (hr : WinN 2 162 w recV m cs') : ∀ k c T, TT5 T → w.heap[k]? = some (.cells c T (0, 0)) → ¬ (k = r ∨ openV.ownBlock = some k ∨ recV.ownBlock = some k) := by
 rintro k c T hT hk (rfl | h | h)
 ·rw [hb] at hk;cases hk;exact absurd hT (by decide)
 ·exact ho.ne hk (fun e => by subst e; exact absurd hT (by decide)) h
 ·exact hr.ne hk (fun e => by subst e; exact absurd hT (by decide)) h
theorem no_reader {w : World} {r : Nat} {c0 : Array Value} (hb : w.heap[r]? = some (.cells c0 159 (0, 0))) : ∀ k c T, TT5 T → w.heap[k]? = some (.cells c T (0, 0)) → ¬ k = r := by
 rintro k c T hT hk rfl;rw [hb] at hk;cases hk;exact absurd hT (by decide)
theorem winN_apart {s e s' e' : Nat} {w : World} {v v' : Value} {n n' : Nat} {cs cs' : List Value} (h : WinN s e w v n cs) (h' : WinN s' e' w v' n' cs') (hT : e ≠ e') {k : Nat} (hk : v.ownBlock = some k) : v'.ownBlock ≠ some k := by
 rcases h.2 with ⟨rfl, _⟩ | ⟨g, off, cap, cur, rfl, hg, _⟩
 ·cases hk
 ·cases hk; exact h'.ne hg hT
theorem part_at (F : Nat → Prop) (w : World) (r : Nat) (x : Rd) (b : List UInt8) (bV : Value) (h : RdAt F w r x false) (hok : RdOk x) (hp : x.place ≤ 4611686018427387904) (hb : BytesIn F w bV b) (hbl : b.length ≤ 4294967296) :
 Calls Tryz.prog 64 #[.pointer (some ⟨r, 0, none⟩), bV] w fun e w' => e = .returned (.tuple #[]) ∧ Keeps F w w' ∧ RdAt (Since F w w') w' r (x.part b) false := by
 obtain ⟨hF, hlt, openV, recV, cs, hbk, hw, hwF, hr, hrF, hrecs⟩ := h
 have hbi : BytesIn (fun k => k = r ∨ openV.ownBlock = some k) w bV b := by
  obtain ⟨a, cap, e1, e2, e3, e4⟩ := hb;exact ⟨a, cap, e1, e2, e3, e4.imp id (fun ⟨g, off, f1, f2, f3⟩ => ⟨g, off, f1, fun h => f2 (h.elim (fun e => e ▸ hF) (fun e => hwF g e)), f3⟩)⟩
 refine (part_any w r x.place x.size _ _ _ _ _ openV bV x.open_ b hbk hw (by rw [hok.len]; omega) hbi hbl hp (Nat.le_trans hok.size hp)).mono ?_;rintro e w' ⟨rfl, openV', hb2, hw2, hown, hk⟩;have hkF : Keeps F w w' := hk.mono fun k h => h.elim (fun e => e ▸ hF) (fun e => hwF k e)
 have hnt := no_tree hbk hw hr;refine ⟨rfl, hkF, .inl hF, since_lt hlt hk.size, openV', recV, cs, hb2, hw2, fun k hk' => (hown k hk').elim (fun e => .inl (hwF k e)) .inr, hr.keeps hk ?_, fun k hk' => .inl (hrF k hk'), hrecs.keeps hk (fun k c T hT hc h => hnt k c T hT hc (h.imp id .inl))⟩;intro k hk' h;rcases h with rfl | h
 ·exact hr.ne hbk (by decide) hk'
 ·exact winN_apart hr hw (by decide) hk' h
theorem Rd.part_ok {x : Rd} (h : RdOk x) (b : List UInt8) : RdOk (x.part b) := by
 refine ⟨h.d1, h.d2, ?_, ?_, ?_, ?_⟩
 ·show (x.open_ ++ b.take (16777217 - x.open_.length)).length = min (x.size + b.length) 16777217
  rw [List.length_append, List.length_take, h.len];omega
 ·show x.size + b.length ≤ x.place + b.length
  have := h.size; omega
 ·show x.frm ≤ x.place + b.length
  have := h.frm; omega
 ·show x.recs.length + (x.size + b.length) ≤ x.place + b.length
  have := h.recs; omega
theorem whole_of {F : Nat → Prop} {w w' : World} {r : Nat} {x : Rd} {openV recV : Value} {cs : List Value} {rec : Except (Nat × Nat) Tr} {e : Ending} (hF : F r) (hlt : ∀ k, F k → k < w.heap.size) (hbk : w.heap[r]? = some (.cells #[.int .i64 x.depth, .int .i64 x.place, .bool x.begun, .bool false, openV, .int .i64 x.frm, .int .i64 x.size, recV] 159 (0, 0)))
 (hw : WinN 1 5 w openV x.open_.length (x.open_.map encB)) (hwF : ∀ k, openV.ownBlock = some k → F k) (hr : WinN 2 162 w recV x.recs.length cs) (hrF : ∀ k, recV.ownBlock = some k → F k) (hrecs : Recs w cs x.recs)
 (h : WholeRet w r x.recs.length recV cs rec (fun u => #[.int .i64 x.depth, .int .i64 x.place, .bool x.begun, .bool false, openV, .int .i64 x.frm, .int .i64 x.size, u]) e w') :
 e = .returned (.tuple #[]) ∧ Keeps F w w' ∧ RdAt (Since F w w') w' r { x with recs := x.recs ++ [rec] } false := by
 obtain ⟨he, recV', a, b, hb2, hr2, hra, hown, hk⟩ := h;have hkF : Keeps F w w' := hk.mono fun k h => h.elim (fun e => e ▸ hF) (fun e => hrF k e)
 have hnt := no_tree hbk hw hr;refine ⟨he, hkF, .inl hF, since_lt hlt hk.size, openV, recV', cs ++ [a, b], hb2, hw.keeps hk ?_, fun k hk' => .inl (hwF k hk'), by simpa using hr2, fun k hk' => (hown k hk').elim (fun e => .inl (hrF k e)) .inr, ?_⟩
 ·intro k hk' h;rcases h with rfl | h
  ·exact hw.ne hbk (by decide) hk'
  ·exact winN_apart hw hr (by decide) hk' h
 ·intro i rc hi;have hlen := hr.1
  by_cases hil : i < x.recs.length
  ·rw [List.getElem?_append_left hil] at hi;obtain ⟨a', b', h1, h2, h3⟩ := hrecs i rc hi;exact ⟨a', b', by rw [List.getElem?_append_left (by omega)]; exact h1, by rw [List.getElem?_append_left (by omega)]; exact h2, h3.keeps hk (fun k c T hT hc h => hnt k c T hT hc (h.imp id .inr))⟩
  ·rw [List.getElem?_append_right (by omega)] at hi
   have hi0 : i = x.recs.length := by
    have := (List.getElem?_eq_some_iff.1 hi).1;simp at this; omega
   subst hi0;simp at hi;subst hi;refine ⟨a, b, ?_, ?_, hra⟩
   ·rw [List.getElem?_append_right (by omega), show 2 * x.recs.length - cs.length = 0 by omega]; rfl
   ·rw [List.getElem?_append_right (by omega), show 2 * x.recs.length + 1 - cs.length = 1 by omega]; rfl
theorem whole_at (F : Nat → Prop) (w : World) (r : Nat) (x : Rd) (h : RdAt F w r x false) (hok : RdOk x) (hp : x.place ≤ 1073741824) :
 Calls Tryz.prog 65 #[.pointer (some ⟨r, 0, none⟩)] w fun e w' => e = .returned (.tuple #[]) ∧ Keeps F w w' ∧ RdAt (Since F w w') w' r (x.whole) false := by
 have h0 := h;obtain ⟨hF, hlt, openV, recV, cs, hbk, hw, hwF, hr, hrF, hrecs⟩ := h
 by_cases hs : x.size = 0
 ·have hwh : x.whole = x := by unfold Rd.whole; rw [if_pos hs]
  rw [hwh];have hbk2 := hbk;rw [hs] at hbk2;refine (whole_none w r _ _ _ _ _ _ _ hbk2).mono ?_;rintro e w' ⟨rfl, rfl⟩;exact ⟨rfl, Keeps.refl _ _, .inl hF, since_lt hlt (Nat.le_refl _), openV, recV, cs, hbk, hw, fun k h => .inl (hwF k h), hr, fun k h => .inl (hrF k h), hrecs⟩
 ·have hwh : x.whole = { x with recs := x.recs ++ [x.recOf] } := by unfold Rd.whole; rw [if_neg hs]
  rw [hwh];have h1 := hok.size;have h2 := hok.frm;have h3 := hok.recs;cases hwo : wrongOf x.begun x.frm x.size x.open_ with
  | some er =>
   obtain ⟨no, at_⟩ := er;have hro : x.recOf = .error (no, at_) := by unfold Rd.recOf; rw [hwo]
   rw [hro];exact (whole_wrong w r x.frm x.size x.recs.length no at_ x.begun _ _ _ recV openV x.open_ cs hbk hw (by omega) hok.len (by omega) (by omega) hr (by omega) hwo).mono fun e w' ht => whole_of hF hlt hbk hw hwF hr hrF hrecs ht
  | none =>
   have hro : x.recOf = shiftOf x.frm (readTree x.open_ x.depth) := by unfold Rd.recOf; rw [hwo]
   have hbg : x.begun = true := by
    cases hb : x.begun with
    | true => rfl
    | false => rw [hb] at hwo; simp [wrongOf] at hwo
   rw [hro];have hbk2 := hbk;rw [hbg] at hbk2 hwo
   exact (whole_read w r x.frm x.size x.recs.length x.depth _ _ recV openV x.open_ cs hbk2 hw (by omega) hok.len (by omega) (by omega) hr (by omega) hwo hok.d1 hok.d2).mono fun e w' ht => by
    have ht2 : WholeRet w r x.recs.length recV cs (shiftOf x.frm (readTree x.open_ x.depth)) (fun u => #[.int .i64 x.depth, .int .i64 x.place, .bool x.begun, .bool false, openV, .int .i64 x.frm, .int .i64 x.size, u]) e w' := by rw [hbg]; exact ht
    exact whole_of hF hlt hbk hw hwF hr hrF hrecs ht2
theorem Rd.whole_ok {x : Rd} (h : RdOk x) : RdOk (x.whole).sign := by
 unfold Rd.whole;split
 ·exact ⟨h.d1, h.d2, by simp [Rd.sign], by simp [Rd.sign], by simp [Rd.sign], by have := h.recs; simp [Rd.sign]; omega⟩
 ·exact ⟨h.d1, h.d2, by simp [Rd.sign], by simp [Rd.sign], by simp [Rd.sign], by have := h.recs; simp [Rd.sign]; omega⟩
theorem index_cases (l : List UInt8) (s : UInt8) : (Lib.indexByte l s = -1 ∧ ∀ c ∈ l, c ≠ s) ∨ ∃ a rest, l = a ++ s :: rest ∧ (∀ c ∈ a, c ≠ s) ∧ Lib.indexByte l s = (a.length : Int) := by
 induction l with
 | nil => exact .inl ⟨rfl, fun c h => by simp at h⟩
 | cons b l ih =>
  by_cases hb : b = s
  ·subst hb;exact .inr ⟨[], l, rfl, fun c h => by simp at h, by simp [Lib.indexByte]⟩
  ·have hbs : (b == s) = false := by simpa using hb
   rcases ih with ⟨h1, h2⟩ | ⟨a, rest, h1, h2, h3⟩
   ·refine .inl ⟨by simp [Lib.indexByte, hbs, h1], fun c h => ?_⟩;rcases List.mem_cons.1 h with rfl | h
    ·exact hb
    ·exact h2 c h
   ·refine .inr ⟨b :: a, rest, by rw [h1]; rfl, fun c h => ?_, ?_⟩
    ·rcases List.mem_cons.1 h with rfl | h
     ·exact hb
     ·exact h2 c h
    ·have hne : (Lib.indexByte l s == -1) = false := by rw [h3]; simp
     simp [Lib.indexByte, hbs, hne, h3]
def BytesOf (F : Nat → Prop) (w : World) (v : Value) (l : List UInt8) : Prop := BytesIn F w v l ∧ (v = .slice none 0 0 ∨ ∃ g off n c, v = .slice (some ⟨g, off, none⟩) n c)
theorem BytesOf.keeps {F G : Nat → Prop} {w w' : World} {v : Value} {l : List UInt8} (h : BytesOf F w v l) (hk : Keeps F w w') (hs : ∀ k, k < w.heap.size → G k → F k) : BytesOf G w' v l := by
 obtain ⟨⟨a, cap, e1, e2, e3, e4⟩, h2⟩ := h;refine ⟨⟨a, cap, e1, e2, e3, ?_⟩, h2⟩
 by_cases hl : l = []
 ·exact .inl hl
 ·obtain ⟨g, off, f1, f2, f3⟩ := e4.resolve_left hl;obtain ⟨c, t, rfl⟩ := List.exists_cons_of_ne_nil hl;have hg : g < w.heap.size := World.block_lt_of_cell? w _ (f3 0 c rfl);exact .inr ⟨g, off, f1, fun h => f2 (hs g hg h), fun i x hx => hk.cell (f3 i x hx) f2⟩
theorem idx_any (F : Nat → Prop) (w : World) (v : Value) (l : List UInt8) (h : BytesOf F w v l) : Calls Tryz.prog 63 #[v, .int .u8 30] w fun e w' => e = .returned (.int .i64 (Lib.indexByte l 30)) ∧ w' = w := by
 obtain ⟨⟨a, cap, rfl, e2, e3, e4⟩, h2⟩ := h;rcases h2 with h2 | ⟨g, off, n, c, h2⟩
 ·injection h2 with h3 h4 h5
  have hl : l = [] := List.eq_nil_of_length_eq_zero h4;subst hl;subst h3; subst h5;exact Tryz.bytes_IndexByte_nil 30 w
 ·injection h2 with h3 h4 h5
  subst h3
  have hx := Tryz.bytes_IndexByte g off l.length cap (l.map fun c => (c.toNat : Int)) 30 w (by simp) (fun i hi => by
   rcases e4 with h0 | ⟨g', off', f1, f2, f3⟩
   ·subst h0; simp at hi
   ·injection f1 with f1
    injection f1 with f1 f4 _
    subst f1; subst f4;rw [f3 i l[i] (List.getElem?_eq_getElem hi)];simp [List.getD, List.getElem?_map, List.getElem?_eq_getElem hi])
  have hb : Lib.bytesOf (l.map fun c => (c.toNat : Int)) = l := by
   have he : ((fun n : Int => UInt8.ofNat n.toNat) ∘ fun c : UInt8 => (c.toNat : Int)) = id := by funext c; simp
   unfold Lib.bytesOf;rw [List.map_map, he, List.map_id]
  rw [hb] at hx;exact hx
def SeqInv (F : Nat → Prop) (w : World) (r : Nat) (x : Rd) (b : List UInt8) (v : Value) (wr : World) : Prop :=
 Keeps F w wr ∧ ∃ done rest, b = done ++ rest ∧ RdAt (Since F w wr) wr r (x.feed done) false ∧ RdOk (x.feed done) ∧ (x.feed done).place + rest.length = x.place + b.length ∧ BytesOf (Since F w wr) wr v rest
theorem RdAt.mono {F G : Nat → Prop} {w : World} {r : Nat} {x : Rd} {d : Bool} (h : RdAt F w r x d) (hs : ∀ k, F k → G k) (hlt : ∀ k, G k → k < w.heap.size) : RdAt G w r x d := by
 obtain ⟨hF, _, openV, recV, cs, hbk, hw, hwF, hr, hrF, hrecs⟩ := h;exact ⟨hs _ hF, hlt, openV, recV, cs, hbk, hw, fun k h => hs k (hwF k h), hr, fun k h => hs k (hrF k h), hrecs⟩
theorem BytesOf.since {F : Nat → Prop} {w wr : World} {v : Value} {l : List UInt8} (h : BytesOf F w v l) (hk : Keeps F w wr) : BytesOf (Since F w wr) wr v l := h.keeps hk (fun k hk h => h.elim id (fun h => absurd hk (Nat.not_lt.2 h.1)))
theorem sign_at {G : Nat → Prop} {w : World} {r : Nat} {x : Rd} (h : RdAt G w r x false) : RdAt G (((((w.setCell ⟨r, 1, none⟩ (.int .i64 ((x.place : Int) + 1))).setCell ⟨r, 2, none⟩ (.bool true)).setCell ⟨r, 4, none⟩ (.slice none 0 0)).setCell ⟨r, 5, none⟩ (.int .i64 ((x.place : Int) + 1))).setCell ⟨r, 6, none⟩ (.int .i64 0)) r x.sign false := by
 obtain ⟨hF, hlt, openV, recV, cs, hbk, hw, hwF, hr, hrF, hrecs⟩ := h
 have hk : Keeps (fun k => k = r) w (((((w.setCell ⟨r, 1, none⟩ (.int .i64 ((x.place : Int) + 1))).setCell ⟨r, 2, none⟩ (.bool true)).setCell ⟨r, 4, none⟩ (.slice none 0 0)).setCell ⟨r, 5, none⟩ (.int .i64 ((x.place : Int) + 1))).setCell ⟨r, 6, none⟩ (.int .i64 0)) :=
  (((((Keeps.refl (fun k => k = r) w).setCell (p := ⟨r, 1, none⟩) (.inl rfl) _).setCell (p := ⟨r, 2, none⟩) (.inl rfl) _).setCell (p := ⟨r, 4, none⟩) (.inl rfl) _).setCell (p := ⟨r, 5, none⟩) (.inl rfl) _).setCell (p := ⟨r, 6, none⟩) (.inl rfl) _
 exact ⟨hF, fun k h => Nat.lt_of_lt_of_le (hlt k h) hk.size, .slice none 0 0, recV, cs, set_at (set_at (set_at (set_at (set_at hbk _) _) _) _) _, .nil _ _ _, fun k h => (by cases h), hr.keeps hk (fun k e hk => hr.ne hbk (by decide) (e.trans (congrArg some hk))), hrF, hrecs.keeps hk (no_reader hbk)⟩
theorem seqFeed_any (F : Nat → Prop) (w : World) (r : Nat) (x : Rd) (b : List UInt8) (bV : Value) (h : RdAt F w r x false) (hok : RdOk x) (hp : x.place + b.length ≤ 1073741824) (hb : BytesOf F w bV b) :
 Calls Tryz.prog 27 #[.pointer (some ⟨r, 0, none⟩), bV] w fun e w' => e = .returned .nilIface ∧ Keeps F w w' ∧ RdAt (Since F w w') w' r (x.feed b) false := by
 have HLT := Lib.hid h.2.1;have HFR := Lib.hid h.1
 have c3 : w.cell? ⟨r, 3, none⟩ = some (.bool false) := by
  obtain ⟨_, _, openV, recV, cs, hbk, _⟩ := h;rw [cell_at hbk]; rfl
 have HINV := Lib.hid (show SeqInv F w r x b bV w from ⟨Keeps.refl _ _, [], b, rfl, h.mono (fun k h => .inl h) (since_lt h.2.1 (Nat.le_refl _)), hok, rfl, hb.since (Keeps.refl _ _)⟩);have hbl : b.length ≤ 1073741824 := by omega
 obtain ⟨out, hout⟩ : ∃ out, x.feed b = out := ⟨_, rfl⟩;rw [hout];have HOUT := Lib.hid hout;obtain ⟨ba, bc, hbe, _⟩ := hb.1;subst hbe;clear h hok hb hout;go_enter Tryz.func27, Tryz.ntmps27;go_wp2_with fail
 go_loopw [1] (fun v wr => Hid (SeqInv F w r x b v wr)) (fun v _ => match v with | .slice _ n _ => n | _ => 0)
 case atStart => exact HINV
 case round =>
  obtain ⟨hkr, done, rest, hb, hrd, hyo, hpl, hbo⟩ := hrel.out;clear hrel HINV;obtain ⟨y, hy⟩ : ∃ y, x.feed done = y := ⟨_, rfl⟩;rw [hy] at hrd hyo hpl;have HIX := Lib.hid (idx_any _ wr _ rest hbo);rcases index_cases rest 30 with ⟨hi, hno⟩ | ⟨a, rest', hre, hno, hi⟩
  ·rw [hi] at HIX;have hpart := part_at _ wr r y rest _ hrd hyo (by omega) hbo.1 (by omega);have hfe : out = y.part rest := by rw [← HOUT.out, hb, Rd.feed_append, hy, Rd.feed_plain y hno]
   have HPA := Lib.hid hpart;have HFE := Lib.hid hfe;have HKR := Lib.hid hkr;clear hkr hrd hyo hpl hbo hpart hfe hi hno hb c3;go_wp2_with fail;refine (HIX.out).mono ?_;rintro e w1 ⟨rfl, rfl⟩;go_wp2_with fail;refine (HPA.out).mono ?_;rintro e w2 ⟨rfl, hk2, hr2⟩;have HK2 := Lib.hid hk2;have HR2 := Lib.hid hr2;clear hk2 hr2;go_wp2_with fail;go_ret;rw [HFE.out];have hk := HKR.out.andThen HK2.out;exact ⟨rfl, hk, HR2.out.mono (fun k h => h.trans HKR.out.size HK2.out.size) (since_lt HLT.out hk.size)⟩
  ·obtain ⟨⟨sa, sc, hse, hsle, hscm, hsc⟩, hshape⟩ := hbo;have hrl : rest.length = a.length + 1 + rest'.length := by rw [hre]; simp; omega
   obtain ⟨g, off, hga, hgF, hcell⟩ := hsc.resolve_left (fun e => by rw [e] at hrl; simp at hrl; omega);subst hga;subst hse;rw [hi] at HIX;have hbb : b.length = done.length + rest.length := by rw [hb]; simp
   have hpb : BytesIn (Since F w wr) wr (.slice (some ⟨g, off, none⟩) a.length sc) a := ⟨_, sc, rfl, by omega, hscm, .inr ⟨g, off, rfl, hgF, fun i x hx => hcell i x (by rw [hre, List.getElem?_append_left (List.getElem?_eq_some_iff.1 hx).1]; exact hx)⟩⟩;have hpart := part_at _ wr r y a _ hrd hyo (by omega) hpb (by omega);have hfy : (x.feed (done ++ a)) = y.part a := by rw [Rd.feed_append, hy, Rd.feed_plain y hno]
   have hyo1 : RdOk (y.part a) := Rd.part_ok hyo a;have hpp : (y.part a).place = y.place + a.length := rfl;have HWH := Lib.hid (fun (G : Nat → Prop) (w2 : World) (h2 : RdAt G w2 r (y.part a) false) => whole_at G w2 r (y.part a) h2 hyo1 (by omega));have hYo := Rd.whole_ok hyo1
   have hfs : x.feed (done ++ a ++ [30]) = ((y.part a).whole).sign := by
    rw [Rd.feed_append, hfy]
    show Rd.byte _ 30 = _
    unfold Rd.byte;rw [if_pos rfl]
   have hYp : ((y.part a).whole).place = y.place + a.length := by
    unfold Rd.whole;split <;> rfl
   obtain ⟨Y, hY⟩ : ∃ Y, (y.part a).whole = Y := ⟨_, rfl⟩;rw [hY] at HWH hYo hfs hYp;have hYb : Y.place ≤ 1073741824 := by omega
   have HP := Lib.hid (show Y.sign.place + rest'.length = x.place + b.length by show Y.place + 1 + rest'.length = _; omega);have HPA := Lib.hid hpart;have HKR := Lib.hid hkr;have HYO := Lib.hid hYo;have HFS := Lib.hid hfs;have HB := Lib.hid (show b = (done ++ a ++ [30]) ++ rest' by rw [hb, hre]; simp);have hal : a.length ≤ 1073741824 := by omega
   have hn0 : (0 : Int) ≤ (a.length : Int) := by omega
   have hnc : (a.length : Int) ≤ (sc : Int) := by omega
   have hn1 : (0 : Int) ≤ (a.length : Int) + 1 := by omega
   have hnl : (a.length : Int) + 1 ≤ (rest.length : Int) := by omega
   have hscm2 : sc ≤ 9223372036854775807 := by unfold maxLen at hscm; omega
   have hsub : rest.length - (a.length + 1) = rest'.length := by omega
   have HSUB := Lib.hid hsub;have hw1 : IntKind.i64.wrap ((Y.place : Int) + 1) = (Y.place : Int) + 1 := by rw [IntKind.wrap_i64]; omega
   have hw2 : IntKind.i64.wrap ((a.length : Int) + 1) = (a.length : Int) + 1 := by rw [IntKind.wrap_i64]; omega
   have hcell' : ∀ i x, rest'[i]? = some x → wr.cell? ⟨g, off + (a.length + 1) + i, none⟩ = some (.int .u8 ((x.toNat : Nat) : Int)) := by
    intro i x hx;have := hcell (a.length + 1 + i) x (by rw [hre, List.getElem?_append_right (by omega), show a.length + 1 + i - a.length = i + 1 by omega]; simpa using hx);rw [show off + (a.length + 1) + i = off + (a.length + 1 + i) by omega]; exact this
   have HCELL := Lib.hid hcell';have HGL := Lib.hid (World.block_lt_of_cell? wr _ (hcell a.length 30 (by rw [hre]; simp)));have HGF := Lib.hid hgF;have HSCM := Lib.hid hscm;have HRL := Lib.hid (And.intro hsle hrl);clear hkr hrd hyo hpl hpb hpart hfy hyo1 hYo hfs hYp hY hi hno hb hre hshape hsc hcell hcell' hgF hscm hsub hrl hbb hsle
   by_cases hcc : sc = a.length + 1
   ·subst hcc;go_wp2_with fail;refine (HIX.out).mono ?_;rintro e w1 ⟨rfl, rfl⟩;go_wp2_with fail;refine (HPA.out).mono ?_;rintro e w2 ⟨rfl, hk2, hr2⟩;have HWW := Lib.hid (HWH.out _ w2 hr2);have HK2 := Lib.hid hk2;clear hk2 hr2;go_wp2_with fail;refine (HWW.out).mono ?_;rintro e w3 ⟨rfl, hk3, hr3⟩;have HK3 := Lib.hid hk3;have HS3 := Lib.hid (sign_at hr3);have hr3' := hr3;obtain ⟨hF3, hlt3, openV3, recV3, cs3, hbk3, _⟩ := hr3';obtain ⟨d0, d1, d2, d3, d4, d5, d6, d7, df⟩ := cells8 hbk3;clear hk3 hr3 hF3 hlt3 hbk3 c3;go_wp2_with fail;have hk1 : Keeps (Since F w w1) w1 w3 := HK2.out.andThen HK3.out;have hkf := hk1.same (((((((Keeps.refl (Since F w w1) w3).setCell (p := ⟨r, 1, none⟩) (.inl (.inl HFR.out)) (.int .i64 ((Y.place : Int) + 1))).setCell (p := ⟨r, 2, none⟩) (.inl (.inl HFR.out)) (.bool true)).setCell (p := ⟨r, 4, none⟩) (.inl (.inl HFR.out)) (.slice none 0 0)).setCell (p := ⟨r, 5, none⟩) (.inl (.inl HFR.out)) (.int .i64 ((Y.place : Int) + 1))).setCell (p := ⟨r, 6, none⟩) (.inl (.inl HFR.out)) (.int .i64 0)));have hsz : w3.heap.size = (((((w3.setCell ⟨r, 1, none⟩ (.int .i64 ((Y.place : Int) + 1))).setCell ⟨r, 2, none⟩ (.bool true)).setCell ⟨r, 4, none⟩ (.slice none 0 0)).setCell ⟨r, 5, none⟩ (.int .i64 ((Y.place : Int) + 1))).setCell ⟨r, 6, none⟩ (.int .i64 0)).heap.size := by simp [World.setCell]
    obtain ⟨wf, hwf⟩ : ∃ wf, (((((w3.setCell ⟨r, 1, none⟩ (.int .i64 ((Y.place : Int) + 1))).setCell ⟨r, 2, none⟩ (.bool true)).setCell ⟨r, 4, none⟩ (.slice none 0 0)).setCell ⟨r, 5, none⟩ (.int .i64 ((Y.place : Int) + 1))).setCell ⟨r, 6, none⟩ (.int .i64 0)) = wf := ⟨_, rfl⟩;have hs3 := HS3.out;rw [hwf] at hkf hsz hs3 ⊢;have hkw : Keeps F w wf := HKR.out.andThen hkf
    have hrd' : RdAt (Since F w wf) wf r Y.sign false := hs3.mono (fun k h => by
     rcases h with h | h
     ·rcases h with h | h
      ·rcases h with h | h
       ·exact .inl h
       ·exact .inr ⟨h.1, Nat.lt_of_lt_of_le h.2 hkf.size⟩
      ·exact .inr ⟨Nat.le_trans HKR.out.size h.1, by rw [← hsz]; exact Nat.lt_of_lt_of_le h.2 HK3.out.size⟩
     ·exact .inr ⟨Nat.le_trans HKR.out.size (Nat.le_trans HK2.out.size h.1), by rw [← hsz]; exact h.2⟩) (since_lt HLT.out hkw.size)
    rw [← HFS.out] at hrd';have hyo' := HYO.out;rw [← HFS.out] at hyo';have hpl' := HP.out;rw [← HFS.out] at hpl';have hr0 : rest' = [] := List.eq_nil_of_length_eq_zero (by have := HRL.out; omega);refine ⟨Lib.hid ⟨hkw, done ++ a ++ [30], rest', HB.out, hrd', hyo', hpl', ⟨⟨_, _, by rw [HSUB.out], by rw [hr0]; exact Nat.zero_le _, by unfold maxLen; omega, .inl hr0⟩, .inr ⟨_, _, _, _, rfl⟩⟩⟩, ?_⟩
    show rest.length - (a.length + 1) < rest.length
    have := HRL.out; omega
   ·go_wp2_with fail;refine (HIX.out).mono ?_;rintro e w1 ⟨rfl, rfl⟩;go_wp2_with fail;refine (HPA.out).mono ?_;rintro e w2 ⟨rfl, hk2, hr2⟩;have HWW := Lib.hid (HWH.out _ w2 hr2);have HK2 := Lib.hid hk2;clear hk2 hr2;go_wp2_with fail;refine (HWW.out).mono ?_;rintro e w3 ⟨rfl, hk3, hr3⟩;have HK3 := Lib.hid hk3;have HS3 := Lib.hid (sign_at hr3);have hr3' := hr3;obtain ⟨hF3, hlt3, openV3, recV3, cs3, hbk3, _⟩ := hr3';obtain ⟨d0, d1, d2, d3, d4, d5, d6, d7, df⟩ := cells8 hbk3;clear hk3 hr3 hF3 hlt3 hbk3 c3;go_wp2_with fail;have hk1 : Keeps (Since F w w1) w1 w3 := HK2.out.andThen HK3.out;have hkf := hk1.same (((((((Keeps.refl (Since F w w1) w3).setCell (p := ⟨r, 1, none⟩) (.inl (.inl HFR.out)) (.int .i64 ((Y.place : Int) + 1))).setCell (p := ⟨r, 2, none⟩) (.inl (.inl HFR.out)) (.bool true)).setCell (p := ⟨r, 4, none⟩) (.inl (.inl HFR.out)) (.slice none 0 0)).setCell (p := ⟨r, 5, none⟩) (.inl (.inl HFR.out)) (.int .i64 ((Y.place : Int) + 1))).setCell (p := ⟨r, 6, none⟩) (.inl (.inl HFR.out)) (.int .i64 0)));have hsz : w3.heap.size = (((((w3.setCell ⟨r, 1, none⟩ (.int .i64 ((Y.place : Int) + 1))).setCell ⟨r, 2, none⟩ (.bool true)).setCell ⟨r, 4, none⟩ (.slice none 0 0)).setCell ⟨r, 5, none⟩ (.int .i64 ((Y.place : Int) + 1))).setCell ⟨r, 6, none⟩ (.int .i64 0)).heap.size := by simp [World.setCell]
    obtain ⟨wf, hwf⟩ : ∃ wf, (((((w3.setCell ⟨r, 1, none⟩ (.int .i64 ((Y.place : Int) + 1))).setCell ⟨r, 2, none⟩ (.bool true)).setCell ⟨r, 4, none⟩ (.slice none 0 0)).setCell ⟨r, 5, none⟩ (.int .i64 ((Y.place : Int) + 1))).setCell ⟨r, 6, none⟩ (.int .i64 0)) = wf := ⟨_, rfl⟩;have hs3 := HS3.out;rw [hwf] at hkf hsz hs3 ⊢;have hkw : Keeps F w wf := HKR.out.andThen hkf
    have hrd' : RdAt (Since F w wf) wf r Y.sign false := hs3.mono (fun k h => by
     rcases h with h | h
     ·rcases h with h | h
      ·rcases h with h | h
       ·exact .inl h
       ·exact .inr ⟨h.1, Nat.lt_of_lt_of_le h.2 hkf.size⟩
      ·exact .inr ⟨Nat.le_trans HKR.out.size h.1, by rw [← hsz]; exact Nat.lt_of_lt_of_le h.2 HK3.out.size⟩
     ·exact .inr ⟨Nat.le_trans HKR.out.size (Nat.le_trans HK2.out.size h.1), by rw [← hsz]; exact h.2⟩) (since_lt HLT.out hkw.size)
    rw [← HFS.out] at hrd';have hyo' := HYO.out;rw [← HFS.out] at hyo';have hpl' := HP.out;rw [← HFS.out] at hpl';have hgS : ¬ Since F w wf g := fun h => h.elim (fun h => HGF.out (.inl h)) (fun h => HGF.out (.inr ⟨h.1, HGL.out⟩))
    refine ⟨Lib.hid ⟨hkw, done ++ a ++ [30], rest', HB.out, hrd', hyo', hpl', ⟨⟨_, sc - (a.length + 1), by rw [HSUB.out], by have := HRL.out; omega, Nat.le_trans (Nat.sub_le _ _) HSCM.out, .inr ⟨g, off + (a.length + 1), rfl, hgS, fun i x hx => hkf.cell (HCELL.out i x hx) HGF.out⟩⟩, .inr ⟨_, _, _, _, rfl⟩⟩⟩, ?_⟩
    show rest.length - (a.length + 1) < rest.length
    have := HRL.out; omega
end Go.Proofs.YtakkmiomhackiaaGreatDoor
