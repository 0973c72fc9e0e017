/-
  The program, one part of its walk: Sep, Lx0, Ps0, Cm0, Rn0. Conditions: none.
-/
import Derived.Test.YtakkmiomhackiaaGreatDoorPc01
import Derived.Test.YtakkmiomhackiaaGreatDoorPc02
set_option linter.all false
set_option maxRecDepth 100000
set_option maxHeartbeats 16000000
namespace Go.Proofs.YtakkmiomhackiaaGreatDoor
open Go.RowKit
section
structure Keeps (F : Nat → Prop) (w w' : World) : Prop where
 os : w'.os = w.os
 tape : w'.tape = w.tape
 output : w'.output = w.output
 size : w.heap.size ≤ w'.heap.size
 block : ∀ k, k < w.heap.size → ¬ F k → w'.heap[k]? = w.heap[k]?
def Since (F : Nat → Prop) (w w' : World) (k : Nat) : Prop := F k ∨ (w.heap.size ≤ k ∧ k < w'.heap.size)
section
variable {F G : Nat → Prop} {w w1 w2 w' : World}
theorem Keeps.refl (F : Nat → Prop) (w : World) : Keeps F w w := ⟨rfl, rfl, rfl, Nat.le_refl _, fun _ _ _ => rfl⟩
theorem Keeps.mono (h : Keeps F w w') (hf : ∀ k, F k → G k) : Keeps G w w' := ⟨h.os, h.tape, h.output, h.size, fun k hk hg => h.block k hk (fun hF => hg (hf k hF))⟩
theorem Keeps.trans (h : Keeps F w w1) (h2 : Keeps G w1 w2) (hg : ∀ k, G k → F k ∨ w.heap.size ≤ k) : Keeps F w w2 :=
 ⟨h2.os.trans h.os, h2.tape.trans h.tape, h2.output.trans h.output, Nat.le_trans h.size h2.size, fun k hk hF =>
  (h2.block k (Nat.lt_of_lt_of_le hk h.size) (fun hG => (hg k hG).elim hF (fun hle => by omega))).trans (h.block k hk hF)⟩
theorem Keeps.andThen (h : Keeps F w w1) (h2 : Keeps (Since F w w1) w1 w2) : Keeps F w w2 := h.trans h2 fun _ hk => hk.elim .inl (fun h => .inr h.1)
theorem Keeps.same (h : Keeps F w w1) (h2 : Keeps F w1 w2) : Keeps F w w2 := h.trans h2 fun _ hk => .inl hk
theorem Keeps.alloc (h : Keeps F w w1) (o : Obj) : Keeps F w (w1.alloc o) :=
 ⟨h.os, h.tape, h.output, Nat.le_trans h.size (by simp), fun k hk hF => (Below.heap_alloc _ _ _ (Nat.lt_of_lt_of_le hk h.size)).trans (h.block k hk hF)⟩
theorem Keeps.setCell (h : Keeps F w w1) {p : Addr} (hp : F p.block ∨ w.heap.size ≤ p.block) (u : Value) : Keeps F w (w1.setCell p u) :=
 ⟨h.os, h.tape, h.output, Nat.le_trans h.size (by simp [World.setCell]), fun k hk hF => (Below.heap_setCell _ _ _ _ (fun e => hp.elim (fun hp => hF (by rw [e]; exact hp)) (fun hp => by omega))).trans (h.block k hk hF)⟩
theorem Keeps.drew (h : Keeps F w w1) : Keeps F w w1.drew := ⟨h.os, h.tape, h.output, h.size, h.block⟩
theorem Keeps.grown {row : Option Nat} (h : Keeps F w w1) (hg : w1.grownBy w2 row) (hr : ∀ k, row = some k → F k ∨ w.heap.size ≤ k) : Keeps F w w2 :=
 ⟨hg.os.trans h.os, hg.tape.trans h.tape, hg.output.trans h.output, Nat.le_trans h.size hg.size, fun k hk hF =>
  (hg.block k (Nat.lt_of_lt_of_le hk h.size) (fun e => (hr k e.symm).elim hF (fun hle => by omega))).trans (h.block k hk hF)⟩
theorem Keeps.below (h : Keeps F w w1) (h2 : Below w1.heap.size w1 w2) : Keeps F w w2 :=
 ⟨h2.os.trans h.os, h2.tape.trans h.tape, h2.output.trans h.output, Nat.le_trans h.size h2.size, fun k hk hF => (h2.block k (Nat.lt_of_lt_of_le hk h.size)).trans (h.block k hk hF)⟩
theorem Keeps.of_below (F : Nat → Prop) (h : Below w.heap.size w w') : Keeps F w w' := (Keeps.refl F w).below h
theorem Keeps.toBelow (h : Keeps F w w') {n : Nat} (hn : n ≤ w.heap.size) (hF : ∀ k, F k → n ≤ k) : Below n w w' :=
 ⟨h.os, h.tape, h.output, h.size, fun k hk => h.block k (by omega) (fun hk' => by have := hF k hk'; omega)⟩
theorem Keeps.blk (h : Keeps F w w') {k : Nat} {o : Obj} (hk : w.heap[k]? = some o) (hF : ¬ F k) : w'.heap[k]? = some o := (h.block k (lt_of_block hk) hF).trans hk
theorem Keeps.cell (h : Keeps F w w') {p : Addr} {v : Value} (hk : w.cell? p = some v) (hF : ¬ F p.block) : w'.cell? p = some v :=
 (World.cell?_of_block (h.block _ (World.block_lt_of_cell? w p hk) hF)).trans hk
theorem Since.new {k : Nat} (h : w.heap.size ≤ k) (h2 : k < w'.heap.size) : Since F w w' k := .inr ⟨h, h2⟩
theorem Since.mono_r {k : Nat} (h : Since F w w1 k) (hs : w1.heap.size ≤ w2.heap.size) : Since F w w2 k := h.elim .inl (fun h => .inr ⟨h.1, by omega⟩)
theorem Since.trans {k : Nat} (h : Since (Since F w w1) w1 w2 k) (h1 : w.heap.size ≤ w1.heap.size) (hs : w1.heap.size ≤ w2.heap.size) : Since F w w2 k := by
 rcases h with h | ⟨h2, h3⟩
 ·exact h.mono_r hs
 ·exact .inr ⟨by omega, h3⟩
theorem Row.keeps {α : Type} {B e : Nat} {enc : α → Value} {v : Value} {l : List α} (h : Row B e enc w v l) (hk : Keeps F w w') (hF : ∀ k, v.ownBlock = some k → ¬ F k) : Row B e enc w' v l := by
 refine ⟨h.1, ?_⟩;rcases h.2 with hn | ⟨g, cap, cur, rfl, hg, hgg, rest⟩
 ·exact .inl hn
 ·exact .inr ⟨g, cap, cur, rfl, hg, hk.blk hgg (hF g rfl), rest⟩
end
def Win {α : Type} (e : Nat) (enc : α → Value) (w : World) (v : Value) (l : List α) : Prop :=
 (v = .slice none 0 0 ∧ l = []) ∨
 ∃ g off cap cur, v = .slice (some ⟨g, off, none⟩) l.length cap ∧ w.heap[g]? = some (.cells cur e (0, 0)) ∧ l.length ≤ cap ∧ off + cap ≤ cur.size ∧ cap ≤ maxLen ∧ ∀ i x, l[i]? = some x → cur[off + i]? = some (enc x)
section
variable {α : Type} {e : Nat} {enc : α → Value} {w : World} {v : Value} {l : List α}
theorem Win.nil (e : Nat) (enc : α → Value) (w : World) : Win e enc w (.slice none 0 0) [] := .inl ⟨rfl, rfl⟩
theorem Win.keeps {F : Nat → Prop} {w' : World} (h : Win e enc w v l) (hk : Keeps F w w') (hF : ∀ k, v.ownBlock = some k → ¬ F k) : Win e enc w' v l := by
 rcases h with hn | ⟨g, off, cap, cur, rfl, hg, rest⟩
 ·exact .inl hn
 ·exact .inr ⟨g, off, cap, cur, rfl, hk.blk hg (hF g rfl), rest⟩
theorem Win.of_row {B : Nat} (h : Row B e enc w v l) : Win e enc w v l := by
 rcases h.cases with ⟨rfl, rfl⟩ | ⟨g, cap, rfl, _, _, hc, hm, ⟨cur, hg, hs, ht⟩, _⟩
 ·exact .nil _ _ _
 ·refine .inr ⟨g, 0, cap, cur, rfl, hg, hc, by omega, hm, fun i x hi => ?_⟩;have := congrArg (fun x => x[i]?) ht;have hlt : i < l.length := (List.getElem?_eq_some_iff.1 hi).1;simp only [List.getElem?_take, List.getElem?_map, if_pos hlt, Array.getElem?_toList, hi] at this
  simpa using this
theorem Win.shape (h : Win e enc w v l) : ∃ a c, v = .slice a l.length c := by
 rcases h with ⟨rfl, rfl⟩ | ⟨g, off, cap, cur, rfl, _⟩
 ·exact ⟨none, 0, rfl⟩
 ·exact ⟨_, _, rfl⟩
theorem Win.tail {x : α} {g off cap : Nat} (h : Win e enc w (.slice (some ⟨g, off, none⟩) (l.length + 1) cap) (x :: l)) : Win e enc w (.slice (some ⟨g, off + 1, none⟩) l.length (cap - 1)) l := by
 rcases h with ⟨hv, _⟩ | ⟨g', off', cap', cur, hv, hg, hc, ho, hm, hi⟩
 ·cases hv
 ·cases hv;simp only [List.length_cons] at hc;refine .inr ⟨g, off + 1, cap - 1, cur, rfl, hg, by omega, by omega, by omega, fun i y hy => ?_⟩;have := hi (i + 1) y (by simpa using hy);rw [show off + 1 + i = off + (i + 1) by omega]; exact this
theorem Win.cell {g off n cap : Nat} (h : Win e enc w (.slice (some ⟨g, off, none⟩) n cap) l) {i : Nat} {x : α} (hx : l[i]? = some x) : w.cell? ⟨g, off + i, none⟩ = some (enc x) := by
 rcases h with ⟨hv, _⟩ | ⟨g', off', cap', cur, hv, hg, hc, ho, hm, hi⟩
 ·cases hv
 ·cases hv;rw [cell_at hg]; exact hi i x hx
theorem append_win {t bytes : Nat} {ops : Array Oper} {rest : List Oper} {o : Oper} {a : Act} {Q : Exit → Act → World → Prop} (E : Elem t e bytes) (hgd : o.guard = none) (s x : Operand)
 (ho : o.op = .call { callee := .builtin .append, args := #[s, x], argTypes := #[t, t] }) (hs : a.eval s = v) (hown : Win e enc w v l) (ad : Addr) (c : Nat) (y : α) (hx : a.eval x = .slice (some ad) 1 c)
 (hy : w.cell? ad = some (enc y)) (h1 : (enc y).oneCell' = true) (hb : (l.length + 1) * bytes ≤ 140737488355328) (hm : l.length + 1 ≤ maxLen)
 (h : ∀ g off cap w', Win e enc w' (.slice (some ⟨g, off, none⟩) (l.length + 1) cap) (l ++ [y]) → (v.ownBlock = some g ∨ (w.heap.size ≤ g ∧ g < w'.heap.size)) → w.grownBy w' v.ownBlock → wpList Tryz.prog ops Q rest (a.put o.dst (.slice (some ⟨g, off, none⟩) (l.length + 1) cap)) w') :
 wpList Tryz.prog ops Q (o :: rest) a w := by
 obtain ⟨ht, i, z, hi, hz, hsz, hby, hzs⟩ := E
 have hnews : ∀ (j : Nat) u, [enc y][j]? = some u → w.cell? (ad.add j) = some u := by
  intro j u hj
  match j, hj with
  | 0, hj =>
   simp at hj; subst hj;have : ad.add 0 = ad := by obtain ⟨b, o, s⟩ := ad; cases s <;> simp [Addr.add]
   rw [this]; exact hy
  | j + 1, hj => simp at hj
 have hone : ∀ u ∈ [enc y], u.oneCell' = true := by intro u hu; simp at hu; subst hu; exact h1
 rcases hown with ⟨rfl, rfl⟩ | ⟨g, off, cap, cur, rfl, hg, hc, hof, hcm, hcell⟩
 ·refine wpList_append_grows w hgd s x t ho e i z 1 bytes ht hi hz hsz hby hzs (by decide) none 0 0 [] hs (fun _ => ⟨rfl, rfl⟩) rfl (by intro b hb; cases hb) ad 1 c [enc y] hx rfl hnews hone (by omega) (by simp at hm; omega) (by simp at hb; omega) ?_;intro v' w' hrow hgr;rcases hrow.2 with ⟨_, hn⟩ | ⟨g, cap, cur, rfl, hb', hg, hc', hm', hs', ht'⟩
  ·omega
  ·refine h g 0 cap w' (Win.of_row (B := w.heap.size) ⟨by simp, .inr ⟨g, cap, cur, rfl, hb', hg, by simpa using hc', hm', by simpa using hs', by simpa using ht'⟩⟩) (.inr ⟨hb', lt_of_block hg⟩) hgr
 ·refine wpList_append_arg w hgd s x t ho e i z 1 bytes ht hi hz hsz hby hzs (by decide) g off l.length cap (l.map enc) hs (by simp) ?_ ad 1 c [enc y] hx rfl hnews hone ?_ hm hb ?_ ?_
  ·intro j u hj;rw [cell_at hg];rw [List.getElem?_map] at hj;cases hlj : l[j]? with
   | none => rw [hlj] at hj; cases hj
   | some z => rw [hlj] at hj; simp at hj; subst hj; exact hcell j z hlj
  ·intro hroom j hj;simp at hj;subst hj;refine ⟨?_, free_at hg _⟩;rw [cell_at hg, Array.getElem?_eq_getElem (by simp; omega)]; rfl
  ·intro hroom;have hset : w.setCells g (off + l.length * 1) [enc y] = w.setCell ⟨g, off + l.length, none⟩ (enc y) := by simp [World.setCells]
   rw [hset];refine h g off cap _ (.inr ⟨g, off, cap, cur.setIfInBounds (off + l.length) (enc y), by simp, set_at hg _, by simpa using hroom, by simpa using hof, hcm, ?_⟩) (.inl rfl) ?_
   ·intro j z hj;rw [Array.getElem?_setIfInBounds]
    by_cases hjl : j < l.length
    ·rw [if_neg (by omega)];rw [List.getElem?_append_left hjl] at hj;exact hcell j z hj
    ·rw [List.getElem?_append_right (by omega)] at hj
     have : j = l.length := by
      have := (List.getElem?_eq_some_iff.1 hj).1;simp at this; omega
     subst this;simp at hj; subst hj;rw [if_pos rfl, if_pos (by omega)]
   ·exact ⟨rfl, rfl, rfl, by simp [World.setCell], fun k hk hne => set_else _ (fun e => hne (by subst e; rfl))⟩
  ·intro hfull v' w' hrow hgr;rcases hrow.2 with ⟨_, hn⟩ | ⟨g', cap', cur', rfl, hb', hg', hc', hm', hs', ht'⟩
   ·omega
   ·refine h g' 0 cap' w' (Win.of_row (B := w.heap.size) ⟨by simp, .inr ⟨g', cap', cur', by simp, hb', hg', by simpa using hc', hm', by simpa using hs', by simpa using ht'⟩⟩) (.inr ⟨hb', lt_of_block hg'⟩) ⟨hgr.os, hgr.tape, hgr.output, hgr.size, fun k hk _ => hgr.block k hk (by simp)⟩
end
end
structure Form where
 wide : Nat
 low : Nat
 high : Nat
def formOf (c : UInt8) : Form :=
 if c.toNat < 128 then ⟨1, 0, 0⟩ else if c.toNat < 194 then ⟨0, 0, 0⟩ else if c.toNat < 224 then ⟨2, 128, 191⟩ else if c.toNat = 224 then ⟨3, 160, 191⟩
 else if c.toNat = 237 then ⟨3, 128, 159⟩ else if c.toNat < 240 then ⟨3, 128, 191⟩ else if c.toNat = 240 then ⟨4, 144, 191⟩ else if c.toNat < 244 then ⟨4, 128, 191⟩
 else if c.toNat = 244 then ⟨4, 128, 143⟩ else ⟨0, 0, 0⟩
def Form.may (f : Form) (i : Nat) (c : UInt8) : Bool := if i = 1 then decide (f.low ≤ c.toNat) && decide (c.toNat ≤ f.high) else decide (128 ≤ c.toNat) && decide (c.toNat ≤ 191)
def feedOne (held : List UInt8) (c : UInt8) : Option (List UInt8) := match held with
 | [] => if (formOf c).wide = 0 then none else if 1 < (formOf c).wide then some [c] else some []
 | h :: t => if (formOf h).may (h :: t).length c then (if (h :: t).length + 1 = (formOf h).wide then some [] else some ((h :: t) ++ [c])) else none
def feedAll (held : List UInt8) (l : List UInt8) : Option (List UInt8) := l.foldl (fun a c => a.bind fun h => feedOne h c) (some held)
def rightOf (l : List UInt8) : Bool := feedAll [] l == some []
def runeBytes (r : Nat) : List UInt8 :=
 if r < 128 then [UInt8.ofNat r]
 else if r < 2048 then [UInt8.ofNat (192 + r / 64), UInt8.ofNat (128 + r % 64)]
 else if r < 65536 then [UInt8.ofNat (224 + r / 4096), UInt8.ofNat (128 + r / 64 % 64), UInt8.ofNat (128 + r % 64)]
 else [UInt8.ofNat (240 + r / 262144), UInt8.ofNat (128 + r / 4096 % 64), UInt8.ofNat (128 + r / 64 % 64), UInt8.ofNat (128 + r % 64)]
inductive St | outside | letter | numeral | within | escape | digit | slash | letterU
deriving DecidableEq
structure Lx where
 place : Nat
 st : St
 isIn : Bool
 start : Nat
 raw : List UInt8
 number : Nat
 held : List UInt8
 says : List UInt8
 digits : Nat
 code : Nat
 high : Nat
inductive Tok | mark (at_ : Nat) (sign : UInt8) | term (at_ size : Nat) (name : List UInt8) | num (at_ size bits : Nat) | str (at_ size : Nat) (text : List UInt8)
def numNext (s : Nat) (c : UInt8) : Option Nat :=
 if s = 0 ∧ c = 45 then some 1
 else if (s = 0 ∨ s = 1) ∧ c = 48 then some 2
 else if (s = 0 ∨ s = 1 ∨ s = 3) ∧ isD c then some 3
 else if (s = 2 ∨ s = 3) ∧ c = 46 then some 4
 else if (s = 4 ∨ s = 5) ∧ isD c then some 5
 else if (s = 2 ∨ s = 3 ∨ s = 5) ∧ (c = 101 ∨ c = 69) then some 6
 else if s = 6 ∧ (c = 43 ∨ c = 45) then some 7
 else if (s = 6 ∨ s = 7 ∨ s = 8) ∧ isD c then some 8 else none
def numEnds (s : Nat) : Bool := s = 2 || s = 3 || s = 5 || s = 8
def isBlank (c : UInt8) : Bool := c = 32 || c = 9 || c = 10 || c = 13
def isMark (c : UInt8) : Bool := c = 123 || c = 125 || c = 91 || c = 93 || c = 58 || c = 44
def wordOf (c : UInt8) : List UInt8 := if c = 110 then [110, 117, 108, 108] else if c = 116 then [116, 114, 117, 101] else if c = 102 then [102, 97, 108, 115, 101] else []
def saidOf (c : UInt8) : Option UInt8 :=
 if c = 34 ∨ c = 92 ∨ c = 47 then some c else if c = 98 then some 8 else if c = 102 then some 12 else if c = 110 then some 10 else if c = 114 then some 13 else if c = 116 then some 9 else none
def hexOf (c : UInt8) : Option Nat :=
 if 48 ≤ c.toNat ∧ c.toNat ≤ 57 then some (c.toNat - 48) else if 97 ≤ c.toNat ∧ c.toNat ≤ 102 then some (c.toNat - 87) else if 65 ≤ c.toNat ∧ c.toNat ≤ 70 then some (c.toNat - 55) else none
structure LxOut where
 lx : Lx
 toks : List Tok
 no : Nat
def Lx.told (x : Lx) : Lx := { x with isIn := false, st := .outside }
def numFirst (x : Lx) (c : UInt8) : LxOut := match numNext 0 c with
 | some s => ⟨{ x with st := .numeral, number := s, raw := [c] }, [], 0⟩
 | none => ⟨{ x with st := .numeral }, [], 94⟩
def outsideStep (x : Lx) (c : UInt8) : LxOut :=
 if isBlank c then ⟨x, [], 0⟩
 else
  let y : Lx := { x with isIn := true, start := x.place, raw := [], number := 0 }
  if isMark c then ⟨y.told, [.mark x.place c], 0⟩
  else if c = 34 then ⟨{ y with st := .within, held := [], says := [], digits := 0, code := 0, high := 0 }, [], 0⟩
  else if c = 45 ∨ isD c then numFirst y c
  else if wordOf c ≠ [] then ⟨{ y with st := .letter, raw := [c] }, [], 0⟩
  else ⟨y, [], 94⟩
def letterStep (x : Lx) (c : UInt8) : LxOut :=
 let name := wordOf (x.raw.headD 0)
 if name[x.raw.length]? = some c then
  (if x.raw.length + 1 = name.length then ⟨{ x with raw := x.raw ++ [c] }.told, [.term x.start (x.place + 1 - x.start) name], 0⟩ else ⟨{ x with raw := x.raw ++ [c] }, [], 0⟩)
 else ⟨x, [], 94⟩
def Lx.finish (x : Lx) : Option (Lx × Tok) := (bitsOf x.raw).map fun b => (x.told, .num x.start (x.place - x.start) b)
def numeralStep (x : Lx) (c : UInt8) : LxOut := match numNext x.number c with
 | some s => ⟨{ x with number := s, raw := x.raw ++ [c] }, [], 0⟩
 | none => if numEnds x.number then (match x.finish with
  | none => ⟨x, [], 41⟩
  | some (y, t) => let r := outsideStep y c; ⟨r.lx, t :: r.toks, r.no⟩)
  else ⟨x, [], 94⟩
def withinStep (x : Lx) (c : UInt8) : LxOut :=
 if x.held = [] ∧ c = 34 then ⟨x.told, [.str x.start (x.place + 1 - x.start) x.says], 0⟩
 else if x.held = [] ∧ c = 92 then ⟨{ x with st := .escape }, [], 0⟩
 else if x.held = [] ∧ c.toNat < 32 then ⟨x, [], 91⟩
 else match feedOne x.held c with
  | none => ⟨x, [], 90⟩
  | some h => ⟨{ x with held := h, says := x.says ++ [c] }, [], 0⟩
def escapeStep (x : Lx) (c : UInt8) : LxOut :=
 if c = 117 then ⟨{ x with digits := 0, code := 0, st := .digit }, [], 0⟩
 else match saidOf c with
  | none => ⟨x, [], 92⟩
  | some b => ⟨{ x with says := x.says ++ [b], st := .within }, [], 0⟩
def Lx.lone (x : Lx) (v : Nat) : Bool :=
 if x.high ≠ 0 ∧ x.digits = 0 then v ≠ 13 else if x.high ≠ 0 ∧ x.digits = 1 then v < 12 else x.high = 0 && x.digits = 1 && x.code = 13 && 12 ≤ v
def Lx.whole (x : Lx) : Lx :=
 if x.high ≠ 0 then { x with high := 0, says := x.says ++ runeBytes (65536 + (x.high - 55296) * 1024 + x.code - 56320), st := .within }
 else if 55296 ≤ x.code ∧ x.code ≤ 56319 then { x with high := x.code, st := .slash }
 else { x with says := x.says ++ runeBytes x.code, st := .within }
def digitStep (x : Lx) (c : UInt8) : LxOut := match hexOf c with
 | none => ⟨x, [], if x.high = 0 then 92 else 93⟩
 | some v => if x.lone v then ⟨x, [], 93⟩
  else
   let y : Lx := { x with code := x.code * 16 + v, digits := x.digits + 1 }
   ⟨if x.digits + 1 = 4 then y.whole else y, [], 0⟩
def slashStep (x : Lx) (c : UInt8) : LxOut := if c = 92 then ⟨{ x with st := .letterU }, [], 0⟩ else ⟨x, [], 93⟩
def letterUStep (x : Lx) (c : UInt8) : LxOut := if c = 117 then ⟨{ x with digits := 0, code := 0, st := .digit }, [], 0⟩ else ⟨x, [], 93⟩
def Lx.step (x : Lx) (c : UInt8) : LxOut := match x.st with
 | .outside => outsideStep x c
 | .letter => letterStep x c
 | .numeral => numeralStep x c
 | .within => withinStep x c
 | .escape => escapeStep x c
 | .digit => digitStep x c
 | .slash => slashStep x c
 | .letterU => letterUStep x c
def Lx.take (x : Lx) (c : UInt8) : Lx × List Tok × Nat × Nat :=
 if x.place = 16777216 then (x, [], 3, x.place)
 else
  let r := x.step c
  if r.no = 0 then ({ r.lx with place := x.place + 1 }, r.toks, 0, 0) else (r.lx, r.toks, r.no, if r.no = 41 then r.lx.start else x.place)
def Lx.ended (x : Lx) : Lx × List Tok × Nat × Nat :=
 if x.isIn = false then (x, [], 0, 0)
 else if numEnds x.number = false then (x, [], 95, x.place)
 else match x.finish with
  | none => (x, [], 41, x.start)
  | some (y, t) => (y, [t], 0, 0)
def Lx.new : Lx := ⟨0, .outside, false, 0, [], 0, [], [], 0, 0, 0⟩
section
inductive Tr | null | flag (b : Bool) | num (bits : Nat) | text (s : List UInt8) | list (l : List Tr) | object (keys : List (List UInt8)) (l : List Tr)
structure Sz where
 nodes : Nat
 bytes : Nat
 depth : Nat
def Sz.within (s : Sz) : Bool := decide (s.nodes ≤ 65536) && decide (s.bytes ≤ 2097152) && decide (s.depth ≤ 512)
def sumSz (bytes : Nat) (l : List Sz) : Sz := let s : Sz := l.foldl (fun (a z : Sz) => (⟨a.nodes + z.nodes, a.bytes + z.bytes, max a.depth z.depth⟩ : Sz)) ⟨1, bytes, 0⟩; { s with depth := s.depth + 1 }
def keysLen (keys : List (List UInt8)) : Nat := keys.foldl (fun a k => a + k.length) 0
def Tr.sized : Tr → Sz
 | .null | .flag _ | .num _ => ⟨1, 0, 1⟩
 | .text s => ⟨1, s.length, 1⟩
 | .list l => sumSz 0 (l.attach.map fun x => Tr.sized x.1)
 | .object keys l => sumSz (keysLen keys) (l.attach.map fun x => Tr.sized x.1)
termination_by t => t
decreasing_by all_goals (simp_wf; have := List.sizeOf_lt_of_mem x.2; omega)
def putItem (items : List Tr) (x : Tr) : List Tr := if x.sized.within then items ++ [x] else items
def putScalar (items : List Tr) (x : Tr) : List Tr := if 65536 ≤ items.length then items else putItem items x
def zeroed (bits : Nat) : Nat := if bits = 9223372036854775808 then 0 else bits
def putNum (items : List Tr) (bits : Nat) : List Tr := putScalar items (.num (zeroed bits))
def putText (items : List Tr) (s : List UInt8) : List Tr := if rightOf s then putScalar items (.text s) else items
def putGroup (items : List Tr) (n : Nat) (x : Tr) : List Tr := if x.sized.within then items.take (items.length - n) ++ [x] else items
def putList (items : List Tr) (n : Nat) : List Tr := if items.length < n then items else putGroup items n (.list (items.drop (items.length - n)))
inductive Fr | list (many : Nat) | object (keys : List (List UInt8))
structure Ps where
 depth : Nat
 place : Nat
 lex : Lx
 items : List Tr
 pile : List Fr
 want : Nat
 nodes : Nat
 bytes : Nat
abbrev Out := Except (Nat × Nat) Ps
def Ps.value (p : Ps) (at_ : Nat) : Out :=
 if p.want ≠ 0 ∧ p.want ≠ 1 then .error (120, at_) else if p.pile.length = p.depth then .error (121, at_) else if p.nodes = 65536 then .error (3, at_) else .ok { p with nodes := p.nodes + 1 }
def Ps.begins (p : Ps) (c : UInt8) : Out := if c = 34 ∧ (p.want = 2 ∨ p.want = 3) then .ok p else p.value p.place
def more (l : List Fr) : List Fr := match l.getLast? with
 | some (.list n) => l.dropLast ++ [.list (n + 1)]
 | _ => l
def Ps.put (p : Ps) : Ps := { p with want := if p.pile = [] then 6 else 5, pile := more p.pile }
def Ps.weigh (p : Ps) (s : List UInt8) (at_ : Nat) : Out := if 2097152 < p.bytes + s.length then .error (3, at_) else .ok { p with bytes := p.bytes + s.length }
def lastKeys (l : List Fr) : List (List UInt8) := match l.getLast? with
 | some (.object k) => k
 | _ => []
def isObj (l : List Fr) : Bool := match l.getLast? with
 | some (.object _) => true
 | _ => false
def Ps.text (p : Ps) (at_ : Nat) (s : List UInt8) : Out :=
 if p.want ≠ 2 ∧ p.want ≠ 3 then (p.weigh s at_).map fun p => Ps.put { p with items := putText p.items s }
 else if s ∈ lastKeys p.pile then .error (101, at_)
 else (Ps.weigh { p with pile := p.pile.dropLast ++ [.object (lastKeys p.pile ++ [s])] } s at_).map fun p => { p with want := 4 }
def signOf : Fr → UInt8
 | .list _ => 93
 | .object _ => 125
def Ps.ends (p : Ps) (sign : UInt8) : Bool := (match p.pile.getLast? with
 | some f => signOf f = sign
 | none => false) && (p.want = 5 || p.want = 1 || p.want = 2)
def Ps.scalar (p : Ps) (x : Tr) : Ps := Ps.put { p with items := putScalar p.items x }
def nameTr (name : List UInt8) : Tr := if name = [110, 117, 108, 108] then .null else .flag (name = [116, 114, 117, 101])
section
variable (putObject : List Tr → List (List UInt8) → List Tr)
def Ps.finishOpen (p : Ps) : Ps := match p.pile.getLast? with
 | some (.list n) => Ps.put { p with pile := p.pile.dropLast, items := putList p.items n }
 | some (.object k) => Ps.put { p with pile := p.pile.dropLast, items := putObject p.items k }
 | none => p
def Ps.mark (p : Ps) (at_ : Nat) (sign : UInt8) : Out :=
 if sign = 91 then (p.value at_).map fun p => { p with pile := p.pile ++ [.list 0], want := 1 }
 else if sign = 123 then (p.value at_).map fun p => { p with pile := p.pile ++ [.object []], want := 2 }
 else if sign = 58 ∧ p.want = 4 then .ok { p with want := 0 }
 else if sign = 44 ∧ p.want = 5 then .ok { p with want := if isObj p.pile then 3 else 0 }
 else if p.ends sign then .ok (p.finishOpen putObject)
 else .error (120, at_)
def Ps.token (p : Ps) : Tok → Out
 | .mark a s => p.mark putObject a s
 | .str a _ s => p.text a s
 | .term _ _ n => .ok (p.scalar (nameTr n))
 | .num _ _ b => .ok (Ps.put { p with items := putNum p.items b })
def Ps.drain (p : Ps) (l : List Tok) : Out := l.foldlM (fun p t => p.token putObject t) p
def lexNo (no : Nat) : Nat := if no = 94 then 120 else no
def Lx.heldNow (x : Lx) : Nat := if x.isIn then x.place - x.start else 0
def Ps.take (p : Ps) (c : UInt8) : Out :=
 let r := p.lex.take c
 match Ps.drain putObject { p with lex := r.1 } r.2.1 with
 | .error e => .error e
 | .ok q =>
  if r.2.2.1 ≠ 0 then .error (lexNo r.2.2.1, r.2.2.2)
  else match (if r.1.heldNow = 1 then q.begins c else .ok q) with
   | .error e => .error e
   | .ok q => .ok { q with place := q.place + 1 }
def Ps.feed (p : Ps) (l : List UInt8) : Out := l.foldlM (fun p c => p.take putObject c) p
def Ps.finish (p : Ps) : Out :=
 let r := p.lex.ended
 match Ps.drain putObject { p with lex := r.1 } r.2.1 with
 | .error e => .error e
 | .ok q => if r.2.2.1 ≠ 0 then .error (lexNo r.2.2.1, r.2.2.2) else if q.want ≠ 6 then .error (95, q.place) else .ok q
def Ps.new (depth : Nat) : Ps := ⟨depth, 0, Lx.new, [], [], 0, 0, 0⟩
def Ps.read (l : List UInt8) (depth : Nat) : Out := match (Ps.new depth).feed putObject l with
 | .error e => .error e
 | .ok p => p.finish putObject
end
end
def rankU (x : UInt8) : Nat := if x.toNat < 238 then x.toNat else if x.toNat < 240 then x.toNat + 16 else x.toNat - 2
theorem rankU_inj {x y : UInt8} (h : rankU x = rankU y) : x = y := by
 have hx := x.toNat_lt;have hy := y.toNat_lt;unfold rankU at h;apply UInt8.toNat.inj;split at h <;> split at h <;> (try split at h) <;> (try split at h) <;> omega
def cmpT : List UInt8 → List UInt8 → Int
 | [], [] => 0
 | [], _ :: _ => -1
 | _ :: _, [] => 1
 | x :: xs, y :: ys => if x = y then cmpT xs ys else if rankU x < rankU y then -1 else 1
theorem cmpT_range : ∀ x y : List UInt8, cmpT x y = -1 ∨ cmpT x y = 0 ∨ cmpT x y = 1
 | [], [] => .inr (.inl rfl)
 | [], _ :: _ => .inl rfl
 | _ :: _, [] => .inr (.inr rfl)
 | x :: xs, y :: ys => by
  unfold cmpT
  by_cases h : x = y
  ·rw [if_pos h]; exact cmpT_range xs ys
  ·rw [if_neg h]
   by_cases h2 : rankU x < rankU y
   ·rw [if_pos h2]; exact .inl rfl
   ·rw [if_neg h2]; exact .inr (.inr rfl)
theorem cmpT_self : ∀ x : List UInt8, cmpT x x = 0
 | [] => rfl
 | x :: xs => by unfold cmpT; rw [if_pos rfl]; exact cmpT_self xs
theorem cmpT_eq : ∀ {x y : List UInt8}, cmpT x y = 0 → x = y
 | [], [], _ => rfl
 | [], _ :: _, h => by simp [cmpT] at h
 | _ :: _, [], h => by simp [cmpT] at h
 | x :: xs, y :: ys, h => by
  unfold cmpT at h
  by_cases e : x = y
  ·rw [if_pos e] at h; rw [e, cmpT_eq h]
  ·rw [if_neg e] at h
   by_cases h2 : rankU x < rankU y
   ·rw [if_pos h2] at h; cases h
   ·rw [if_neg h2] at h; cases h
theorem cmpT_anti : ∀ x y : List UInt8, cmpT x y = - cmpT y x
 | [], [] => rfl
 | [], _ :: _ => rfl
 | _ :: _, [] => rfl
 | x :: xs, y :: ys => by
  unfold cmpT
  by_cases e : x = y
  ·rw [if_pos e, if_pos e.symm]; exact cmpT_anti xs ys
  ·have e' : ¬ y = x := fun h => e h.symm
   rw [if_neg e, if_neg e'];have hne : rankU x ≠ rankU y := fun h => e (rankU_inj h)
   by_cases h2 : rankU x < rankU y
   ·rw [if_pos h2, if_neg (by omega)]
   ·rw [if_neg h2, if_pos (by omega)]; decide
theorem cmpT_trans : ∀ {x y z : List UInt8}, cmpT x y < 0 → cmpT y z < 0 → cmpT x z < 0
 | [], [], _, h, _ => by simp [cmpT] at h
 | [], _ :: _, [], _, h => by simp [cmpT] at h
 | [], _ :: _, _ :: _, _, _ => by simp [cmpT]
 | _ :: _, [], _, h, _ => by simp [cmpT] at h
 | _ :: _, _ :: _, [], _, h => by simp [cmpT] at h
 | x :: xs, y :: ys, z :: zs, h1, h2 => by
  unfold cmpT at h1 h2 ⊢
  by_cases e1 : x = y
  ·subst e1;rw [if_pos rfl] at h1
   by_cases e2 : x = z
   ·rw [if_pos e2] at h2 ⊢; exact cmpT_trans h1 h2
   ·rw [if_neg e2] at h2 ⊢; exact h2
  ·rw [if_neg e1] at h1
   have l1 : rankU x < rankU y := by
    by_cases h : rankU x < rankU y
    ·exact h
    ·rw [if_neg h] at h1; omega
   by_cases e2 : y = z
   ·subst e2; rw [if_neg e1, if_pos l1]; decide
   ·rw [if_neg e2] at h2
    have l2 : rankU y < rankU z := by
     by_cases h : rankU y < rankU z
     ·exact h
     ·rw [if_neg h] at h2; omega
    have hxz : x ≠ z := fun e => by subst e; omega
    rw [if_neg hxz, if_pos (by omega)]; decide
theorem cmpT_total {x y : List UInt8} (h1 : ¬ cmpT x y < 0) (h2 : ¬ cmpT y x < 0) : x = y := by
 rcases cmpT_range x y with h | h | h
 ·omega
 ·exact cmpT_eq h
 ·have := cmpT_anti x y; omega
abbrev RTxt := {l : List UInt8 // rightOf l = true ∧ l.length ≤ 2097152}
instance : Inhabited RTxt := ⟨⟨[], by decide⟩⟩
theorem feedAll_append (h : List UInt8) (a b : List UInt8) : feedAll h (a ++ b) = (feedAll h a).bind fun h' => feedAll h' b := by
 unfold feedAll;rw [List.foldl_append];cases hx : List.foldl (fun a c => a.bind fun h => feedOne h c) (some h) a with
 | some h' => rfl
 | none =>
  show List.foldl _ none b = none
  induction b with
  | nil => rfl
  | cons c b ih => exact ih
theorem feedAll_cons (h : List UInt8) (c : UInt8) (b : List UInt8) : feedAll h (c :: b) = (feedOne h c).bind fun h' => feedAll h' b := by
 have := feedAll_append h [c] b;rw [List.singleton_append] at this;rw [this];rfl
theorem toNat_of {n : Nat} (h : n < 256) : (UInt8.ofNat n).toNat = n := by
 rw [UInt8.toNat_ofNat'];exact Nat.mod_eq_of_lt h
theorem may_rest (f : Form) {i : Nat} {c : UInt8} (hi : i ≠ 1) (h1 : 128 ≤ c.toNat) (h2 : c.toNat ≤ 191) : f.may i c = true := by
 unfold Form.may;rw [if_neg hi];simp [h1, h2]
theorem may_first (f : Form) {c : UInt8} (h1 : f.low ≤ c.toNat) (h2 : c.toNat ≤ f.high) : f.may 1 c = true := by
 unfold Form.may;rw [if_pos rfl];simp [h1, h2]
theorem feed_two {a b : UInt8} (hw : (formOf a).wide = 2) (h1 : (formOf a).low ≤ b.toNat) (h2 : b.toNat ≤ (formOf a).high) : feedAll [] [a, b] = some [] := by
 have e1 : feedOne [] a = some [a] := by unfold feedOne; simp [hw]
 have e2 : feedOne [a] b = some [] := by unfold feedOne; simp [hw, may_first _ h1 h2]
 rw [feedAll_cons, e1]
 show feedAll [a] [b] = _
 rw [feedAll_cons, e2];rfl
theorem feed_three {a b c : UInt8} (hw : (formOf a).wide = 3) (h1 : (formOf a).low ≤ b.toNat) (h2 : b.toNat ≤ (formOf a).high) (h3 : 128 ≤ c.toNat) (h4 : c.toNat ≤ 191) : feedAll [] [a, b, c] = some [] := by
 have e1 : feedOne [] a = some [a] := by unfold feedOne; simp [hw]
 have e2 : feedOne [a] b = some [a, b] := by unfold feedOne; simp [hw, may_first _ h1 h2]
 have e3 : feedOne [a, b] c = some [] := by unfold feedOne; simp [hw, may_rest (formOf a) (i := 2) (by decide) h3 h4]
 rw [feedAll_cons, e1]
 show feedAll [a] [b, c] = _
 rw [feedAll_cons, e2]
 show feedAll [a, b] [c] = _
 rw [feedAll_cons, e3];rfl
theorem feed_four {a b c d : UInt8} (hw : (formOf a).wide = 4) (h1 : (formOf a).low ≤ b.toNat) (h2 : b.toNat ≤ (formOf a).high) (h3 : 128 ≤ c.toNat) (h4 : c.toNat ≤ 191) (h5 : 128 ≤ d.toNat) (h6 : d.toNat ≤ 191) : feedAll [] [a, b, c, d] = some [] := by
 have e1 : feedOne [] a = some [a] := by unfold feedOne; simp [hw]
 have e2 : feedOne [a] b = some [a, b] := by unfold feedOne; simp [hw, may_first _ h1 h2]
 have e3 : feedOne [a, b] c = some [a, b, c] := by unfold feedOne; simp [hw, may_rest (formOf a) (i := 2) (by decide) h3 h4]
 have e4 : feedOne [a, b, c] d = some [] := by unfold feedOne; simp [hw, may_rest (formOf a) (i := 3) (by decide) h5 h6]
 rw [feedAll_cons, e1]
 show feedAll [a] [b, c, d] = _
 rw [feedAll_cons, e2]
 show feedAll [a, b] [c, d] = _
 rw [feedAll_cons, e3]
 show feedAll [a, b, c] [d] = _
 rw [feedAll_cons, e4];rfl
def IsRune (r : Nat) : Prop := r < 55296 ∨ (57344 ≤ r ∧ r ≤ 1114111)
theorem runeBytes_right {r : Nat} (h : IsRune r) : feedAll [] (runeBytes r) = some [] := by
 unfold runeBytes
 by_cases h1 : r < 128
 ·rw [if_pos h1];have hn : (UInt8.ofNat r).toNat = r := toNat_of (by omega);rw [feedAll_cons];have : feedOne [] (UInt8.ofNat r) = some [] := by unfold feedOne formOf; rw [hn]; simp [h1]
  rw [this]; rfl
 rw [if_neg h1]
 by_cases h2 : r < 2048
 ·rw [if_pos h2];have ha : (UInt8.ofNat (192 + r / 64)).toNat = 192 + r / 64 := toNat_of (by omega);have hb : (UInt8.ofNat (128 + r % 64)).toNat = 128 + r % 64 := toNat_of (by omega)
  have hf : formOf (UInt8.ofNat (192 + r / 64)) = ⟨2, 128, 191⟩ := by
   unfold formOf; rw [ha, if_neg (by omega), if_neg (by omega), if_pos (by omega)]
  refine feed_two (by rw [hf]) ?_ ?_ <;> rw [hf, hb] <;> simp only [] <;> omega
 rw [if_neg h2]
 by_cases h3 : r < 65536
 ·rw [if_pos h3];have ha : (UInt8.ofNat (224 + r / 4096)).toNat = 224 + r / 4096 := toNat_of (by omega);have hb : (UInt8.ofNat (128 + r / 64 % 64)).toNat = 128 + r / 64 % 64 := toNat_of (by omega);have hc : (UInt8.ofNat (128 + r % 64)).toNat = 128 + r % 64 := toNat_of (by omega)
  have hf : (formOf (UInt8.ofNat (224 + r / 4096))).wide = 3 ∧ (formOf (UInt8.ofNat (224 + r / 4096))).low ≤ 128 + r / 64 % 64 ∧ 128 + r / 64 % 64 ≤ (formOf (UInt8.ofNat (224 + r / 4096))).high := by
   unfold formOf;rw [ha, if_neg (by omega), if_neg (by omega), if_neg (by omega)]
   by_cases e1 : 224 + r / 4096 = 224
   ·rw [if_pos e1]; exact ⟨rfl, by simp only []; omega, by simp only []; omega⟩
   rw [if_neg e1]
   by_cases e2 : 224 + r / 4096 = 237
   ·rw [if_pos e2];rcases h with h | h
    ·exact ⟨rfl, by simp only []; omega, by simp only []; omega⟩
    ·omega
   rw [if_neg e2, if_pos (by omega)];exact ⟨rfl, by simp only []; omega, by simp only []; omega⟩
  exact feed_three hf.1 (by rw [hb]; exact hf.2.1) (by rw [hb]; exact hf.2.2) (by rw [hc]; omega) (by rw [hc]; omega)
 rw [if_neg h3];have hr : r ≤ 1114111 := by rcases h with h | h <;> omega
 have ha : (UInt8.ofNat (240 + r / 262144)).toNat = 240 + r / 262144 := toNat_of (by omega);have hb : (UInt8.ofNat (128 + r / 4096 % 64)).toNat = 128 + r / 4096 % 64 := toNat_of (by omega);have hc : (UInt8.ofNat (128 + r / 64 % 64)).toNat = 128 + r / 64 % 64 := toNat_of (by omega);have hd : (UInt8.ofNat (128 + r % 64)).toNat = 128 + r % 64 := toNat_of (by omega)
 have hf : (formOf (UInt8.ofNat (240 + r / 262144))).wide = 4 ∧ (formOf (UInt8.ofNat (240 + r / 262144))).low ≤ 128 + r / 4096 % 64 ∧ 128 + r / 4096 % 64 ≤ (formOf (UInt8.ofNat (240 + r / 262144))).high := by
  unfold formOf;rw [ha, if_neg (by omega), if_neg (by omega), if_neg (by omega), if_neg (by omega), if_neg (by omega), if_neg (by omega)]
  by_cases e1 : 240 + r / 262144 = 240
  ·rw [if_pos e1]; exact ⟨rfl, by simp only []; omega, by simp only []; omega⟩
  rw [if_neg e1]
  by_cases e2 : 240 + r / 262144 < 244
  ·rw [if_pos e2]; exact ⟨rfl, by simp only []; omega, by simp only []; omega⟩
  rw [if_neg e2, if_pos (by omega)];exact ⟨rfl, by simp only []; omega, by simp only []; omega⟩
 exact feed_four hf.1 (by rw [hb]; exact hf.2.1) (by rw [hb]; exact hf.2.2) (by rw [hc]; omega) (by rw [hc]; omega) (by rw [hd]; omega) (by rw [hd]; omega)
theorem runeBytes_len (r : Nat) : 1 ≤ (runeBytes r).length ∧ (runeBytes r).length ≤ 4 ∧ (r < 65536 → (runeBytes r).length ≤ 3) := by
 unfold runeBytes;split
 ·simp
 ·split
  ·simp
  ·split
   ·simp
   ·rename_i h;exact ⟨by simp, by simp, fun h' => absurd h' h⟩
theorem hexOf_lt {c : UInt8} {v : Nat} (h : hexOf c = some v) : v < 16 := by
 unfold hexOf at h;split at h
 ·cases h; omega
 ·split at h
  ·cases h; omega
  ·split at h
   ·cases h; omega
   ·cases h
end Go.Proofs.YtakkmiomhackiaaGreatDoor
