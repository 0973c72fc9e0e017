/-
  The program, one part of its walk: Sep, Lx0, Gt, Ps0, Cm0, Ry. Conditions: none.
-/
import Derived.Test.YtakkmiomhackiaaGreatDoorPa01
import Derived.Test.YtakkmiomhackiaaGreatDoorPa02
import Derived.Scope
import Derived.WalkMore
import Derived.RangeFuncNested
import Derived.RangeFuncBound
import Derived.RangeFuncCalls
import Derived.RangeFuncLeaves
import Derived.Test.YtakkmiomhackiaaGreatDoorPa00
set_option linter.all false
set_option maxRecDepth 100000
set_option maxHeartbeats 16000000
open Go.Proofs.Tryz
namespace Go.Proofs.YtakkmiomhackiaaGreatDoor
open Go.RowKit
section
structure Keeps (F : Nat → Prop) (w w' : World) : Prop where
 os : w'.os = w.os
 tape : w'.tape = w.tape
 output : w'.output = w.output
 size : w.heap.size ≤ w'.heap.size
 block : ∀ k, k < w.heap.size → ¬ F k → w'.heap[k]? = w.heap[k]?
def Since (F : Nat → Prop) (w w' : World) (k : Nat) : Prop := F k ∨ (w.heap.size ≤ k ∧ k < w'.heap.size)
section
variable {F G : Nat → Prop} {w w1 w2 w' : World}
theorem Keeps.refl (F : Nat → Prop) (w : World) : Keeps F w w := ⟨rfl, rfl, rfl, Nat.le_refl _, fun _ _ _ => rfl⟩
theorem Keeps.mono (h : Keeps F w w') (hf : ∀ k, F k → G k) : Keeps G w w' := ⟨h.os, h.tape, h.output, h.size, fun k hk hg => h.block k hk (fun hF => hg (hf k hF))⟩
theorem Keeps.trans (h : Keeps F w w1) (h2 : Keeps G w1 w2) (hg : ∀ k, G k → F k ∨ w.heap.size ≤ k) : Keeps F w w2 :=
 ⟨h2.os.trans h.os, h2.tape.trans h.tape, h2.output.trans h.output, Nat.le_trans h.size h2.size, fun k hk hF =>
  (h2.block k (Nat.lt_of_lt_of_le hk h.size) (fun hG => (hg k hG).elim hF (fun hle => by omega))).trans (h.block k hk hF)⟩
theorem Keeps.andThen (h : Keeps F w w1) (h2 : Keeps (Since F w w1) w1 w2) : Keeps F w w2 := h.trans h2 fun _ hk => hk.elim .inl (fun h => .inr h.1)
theorem Keeps.same (h : Keeps F w w1) (h2 : Keeps F w1 w2) : Keeps F w w2 := h.trans h2 fun _ hk => .inl hk
theorem Keeps.alloc (h : Keeps F w w1) (o : Obj) : Keeps F w (w1.alloc o) :=
 ⟨h.os, h.tape, h.output, Nat.le_trans h.size (by simp), fun k hk hF => (Below.heap_alloc _ _ _ (Nat.lt_of_lt_of_le hk h.size)).trans (h.block k hk hF)⟩
theorem Keeps.setCell (h : Keeps F w w1) {p : Addr} (hp : F p.block ∨ w.heap.size ≤ p.block) (u : Value) : Keeps F w (w1.setCell p u) :=
 ⟨h.os, h.tape, h.output, Nat.le_trans h.size (by simp [World.setCell]), fun k hk hF => (Below.heap_setCell _ _ _ _ (fun e => hp.elim (fun hp => hF (by rw [e]; exact hp)) (fun hp => by omega))).trans (h.block k hk hF)⟩
theorem Keeps.drew (h : Keeps F w w1) : Keeps F w w1.drew := ⟨h.os, h.tape, h.output, h.size, h.block⟩
theorem Keeps.grown {row : Option Nat} (h : Keeps F w w1) (hg : w1.grownBy w2 row) (hr : ∀ k, row = some k → F k ∨ w.heap.size ≤ k) : Keeps F w w2 :=
 ⟨hg.os.trans h.os, hg.tape.trans h.tape, hg.output.trans h.output, Nat.le_trans h.size hg.size, fun k hk hF =>
  (hg.block k (Nat.lt_of_lt_of_le hk h.size) (fun e => (hr k e.symm).elim hF (fun hle => by omega))).trans (h.block k hk hF)⟩
theorem Keeps.below (h : Keeps F w w1) (h2 : Below w1.heap.size w1 w2) : Keeps F w w2 :=
 ⟨h2.os.trans h.os, h2.tape.trans h.tape, h2.output.trans h.output, Nat.le_trans h.size h2.size, fun k hk hF => (h2.block k (Nat.lt_of_lt_of_le hk h.size)).trans (h.block k hk hF)⟩
theorem Keeps.of_below (F : Nat → Prop) (h : Below w.heap.size w w') : Keeps F w w' := (Keeps.refl F w).below h
theorem Keeps.toBelow (h : Keeps F w w') {n : Nat} (hn : n ≤ w.heap.size) (hF : ∀ k, F k → n ≤ k) : Below n w w' :=
 ⟨h.os, h.tape, h.output, h.size, fun k hk => h.block k (by omega) (fun hk' => by have := hF k hk'; omega)⟩
theorem Keeps.blk (h : Keeps F w w') {k : Nat} {o : Obj} (hk : w.heap[k]? = some o) (hF : ¬ F k) : w'.heap[k]? = some o := (h.block k (lt_of_block hk) hF).trans hk
theorem Keeps.cell (h : Keeps F w w') {p : Addr} {v : Value} (hk : w.cell? p = some v) (hF : ¬ F p.block) : w'.cell? p = some v :=
 (World.cell?_of_block (h.block _ (World.block_lt_of_cell? w p hk) hF)).trans hk
theorem Since.mono_r {k : Nat} (h : Since F w w1 k) (hs : w1.heap.size ≤ w2.heap.size) : Since F w w2 k := h.elim .inl (fun h => .inr ⟨h.1, by omega⟩)
theorem Since.trans {k : Nat} (h : Since (Since F w w1) w1 w2 k) (h1 : w.heap.size ≤ w1.heap.size) (hs : w1.heap.size ≤ w2.heap.size) : Since F w w2 k := by
 rcases h with h | ⟨h2, h3⟩
 ·exact h.mono_r hs
 ·exact .inr ⟨by omega, h3⟩
end
def Win {α : Type} (e : Nat) (enc : α → Value) (w : World) (v : Value) (l : List α) : Prop :=
 (v = .slice none 0 0 ∧ l = []) ∨
 ∃ g off cap cur, v = .slice (some ⟨g, off, none⟩) l.length cap ∧ w.heap[g]? = some (.cells cur e (0, 0)) ∧ l.length ≤ cap ∧ off + cap ≤ cur.size ∧ cap ≤ maxLen ∧ ∀ i x, l[i]? = some x → cur[off + i]? = some (enc x)
section
variable {α : Type} {e : Nat} {enc : α → Value} {w : World} {v : Value} {l : List α}
theorem Win.nil (e : Nat) (enc : α → Value) (w : World) : Win e enc w (.slice none 0 0) [] := .inl ⟨rfl, rfl⟩
theorem Win.keeps {F : Nat → Prop} {w' : World} (h : Win e enc w v l) (hk : Keeps F w w') (hF : ∀ k, v.ownBlock = some k → ¬ F k) : Win e enc w' v l := by
 rcases h with hn | ⟨g, off, cap, cur, rfl, hg, rest⟩
 ·exact .inl hn
 ·exact .inr ⟨g, off, cap, cur, rfl, hk.blk hg (hF g rfl), rest⟩
theorem Win.of_row {B : Nat} (h : Row B e enc w v l) : Win e enc w v l := by
 rcases h.cases with ⟨rfl, rfl⟩ | ⟨g, cap, rfl, _, _, hc, hm, ⟨cur, hg, hs, ht⟩, _⟩
 ·exact .nil _ _ _
 ·refine .inr ⟨g, 0, cap, cur, rfl, hg, hc, by omega, hm, fun i x hi => ?_⟩;have := congrArg (fun x => x[i]?) ht;have hlt : i < l.length := (List.getElem?_eq_some_iff.1 hi).1;simp only [List.getElem?_take, List.getElem?_map, if_pos hlt, Array.getElem?_toList, hi] at this
  simpa using this
theorem Win.shape (h : Win e enc w v l) : ∃ a c, v = .slice a l.length c := by
 rcases h with ⟨rfl, rfl⟩ | ⟨g, off, cap, cur, rfl, _⟩
 ·exact ⟨none, 0, rfl⟩
 ·exact ⟨_, _, rfl⟩
theorem Win.tail {x : α} {g off cap : Nat} (h : Win e enc w (.slice (some ⟨g, off, none⟩) (l.length + 1) cap) (x :: l)) : Win e enc w (.slice (some ⟨g, off + 1, none⟩) l.length (cap - 1)) l := by
 rcases h with ⟨hv, _⟩ | ⟨g', off', cap', cur, hv, hg, hc, ho, hm, hi⟩
 ·cases hv
 ·cases hv;simp only [List.length_cons] at hc;refine .inr ⟨g, off + 1, cap - 1, cur, rfl, hg, by omega, by omega, by omega, fun i y hy => ?_⟩;have := hi (i + 1) y (by simpa using hy);rw [show off + 1 + i = off + (i + 1) by omega]; exact this
theorem Win.cell {g off n cap : Nat} (h : Win e enc w (.slice (some ⟨g, off, none⟩) n cap) l) {i : Nat} {x : α} (hx : l[i]? = some x) : w.cell? ⟨g, off + i, none⟩ = some (enc x) := by
 rcases h with ⟨hv, _⟩ | ⟨g', off', cap', cur, hv, hg, hc, ho, hm, hi⟩
 ·cases hv
 ·cases hv;rw [cell_at hg]; exact hi i x hx
theorem append_win {t bytes : Nat} {ops : Array Oper} {rest : List Oper} {o : Oper} {a : Act} {Q : Exit → Act → World → Prop} (E : Elem t e bytes) (hgd : o.guard = none) (s x : Operand)
 (ho : o.op = .call { callee := .builtin .append, args := #[s, x], argTypes := #[t, t] }) (hs : a.eval s = v) (hown : Win e enc w v l) (ad : Addr) (c : Nat) (y : α) (hx : a.eval x = .slice (some ad) 1 c)
 (hy : w.cell? ad = some (enc y)) (h1 : (enc y).oneCell' = true) (hb : (l.length + 1) * bytes ≤ 140737488355328) (hm : l.length + 1 ≤ maxLen)
 (h : ∀ g off cap w', Win e enc w' (.slice (some ⟨g, off, none⟩) (l.length + 1) cap) (l ++ [y]) → (v.ownBlock = some g ∨ (w.heap.size ≤ g ∧ g < w'.heap.size)) → w.grownBy w' v.ownBlock → wpList prog ops Q rest (a.put o.dst (.slice (some ⟨g, off, none⟩) (l.length + 1) cap)) w') :
 wpList prog ops Q (o :: rest) a w := by
 obtain ⟨ht, i, z, hi, hz, hsz, hby, hzs⟩ := E
 have hnews : ∀ (j : Nat) u, [enc y][j]? = some u → w.cell? (ad.add j) = some u := by
  intro j u hj
  match j, hj with
  | 0, hj =>
   simp at hj; subst hj;have : ad.add 0 = ad := by obtain ⟨b, o, s⟩ := ad; cases s <;> simp [Addr.add]
   rw [this]; exact hy
  | j + 1, hj => simp at hj
 have hone : ∀ u ∈ [enc y], u.oneCell' = true := by intro u hu; simp at hu; subst hu; exact h1
 rcases hown with ⟨rfl, rfl⟩ | ⟨g, off, cap, cur, rfl, hg, hc, hof, hcm, hcell⟩
 ·refine wpList_append_grows w hgd s x t ho e i z 1 bytes ht hi hz hsz hby hzs (by decide) none 0 0 [] hs (fun _ => ⟨rfl, rfl⟩) rfl (by intro b hb; cases hb) ad 1 c [enc y] hx rfl hnews hone (by omega) (by simp at hm; omega) (by simp at hb; omega) ?_;intro v' w' hrow hgr;rcases hrow.2 with ⟨_, hn⟩ | ⟨g, cap, cur, rfl, hb', hg, hc', hm', hs', ht'⟩
  ·omega
  ·refine h g 0 cap w' (Win.of_row (B := w.heap.size) ⟨by simp, .inr ⟨g, cap, cur, rfl, hb', hg, by simpa using hc', hm', by simpa using hs', by simpa using ht'⟩⟩) (.inr ⟨hb', lt_of_block hg⟩) hgr
 ·refine wpList_append_arg w hgd s x t ho e i z 1 bytes ht hi hz hsz hby hzs (by decide) g off l.length cap (l.map enc) hs (by simp) ?_ ad 1 c [enc y] hx rfl hnews hone ?_ hm hb ?_ ?_
  ·intro j u hj;rw [cell_at hg];rw [List.getElem?_map] at hj;cases hlj : l[j]? with
   | none => rw [hlj] at hj; cases hj
   | some z => rw [hlj] at hj; simp at hj; subst hj; exact hcell j z hlj
  ·intro hroom j hj;simp at hj;subst hj;refine ⟨?_, free_at hg _⟩;rw [cell_at hg, Array.getElem?_eq_getElem (by simp; omega)]; rfl
  ·intro hroom;have hset : w.setCells g (off + l.length * 1) [enc y] = w.setCell ⟨g, off + l.length, none⟩ (enc y) := by simp [World.setCells]
   rw [hset];refine h g off cap _ (.inr ⟨g, off, cap, cur.setIfInBounds (off + l.length) (enc y), by simp, set_at hg _, by simpa using hroom, by simpa using hof, hcm, ?_⟩) (.inl rfl) ?_
   ·intro j z hj;rw [Array.getElem?_setIfInBounds]
    by_cases hjl : j < l.length
    ·rw [if_neg (by omega)];rw [List.getElem?_append_left hjl] at hj;exact hcell j z hj
    ·rw [List.getElem?_append_right (by omega)] at hj
     have : j = l.length := by
      have := (List.getElem?_eq_some_iff.1 hj).1;simp at this; omega
     subst this;simp at hj; subst hj;rw [if_pos rfl, if_pos (by omega)]
   ·exact ⟨rfl, rfl, rfl, by simp [World.setCell], fun k hk hne => set_else _ (fun e => hne (by subst e; rfl))⟩
  ·intro hfull v' w' hrow hgr;rcases hrow.2 with ⟨_, hn⟩ | ⟨g', cap', cur', rfl, hb', hg', hc', hm', hs', ht'⟩
   ·omega
   ·refine h g' 0 cap' w' (Win.of_row (B := w.heap.size) ⟨by simp, .inr ⟨g', cap', cur', by simp, hb', hg', by simpa using hc', hm', by simpa using hs', by simpa using ht'⟩⟩) (.inr ⟨hb', lt_of_block hg'⟩) ⟨hgr.os, hgr.tape, hgr.output, hgr.size, fun k hk _ => hgr.block k hk (by simp)⟩
end
end
structure Form where
 wide : Nat
 low : Nat
 high : Nat
def formOf (c : UInt8) : Form :=
 if c.toNat < 128 then ⟨1, 0, 0⟩ else if c.toNat < 194 then ⟨0, 0, 0⟩ else if c.toNat < 224 then ⟨2, 128, 191⟩ else if c.toNat = 224 then ⟨3, 160, 191⟩
 else if c.toNat = 237 then ⟨3, 128, 159⟩ else if c.toNat < 240 then ⟨3, 128, 191⟩ else if c.toNat = 240 then ⟨4, 144, 191⟩ else if c.toNat < 244 then ⟨4, 128, 191⟩
 else if c.toNat = 244 then ⟨4, 128, 143⟩ else ⟨0, 0, 0⟩
def Form.may (f : Form) (i : Nat) (c : UInt8) : Bool := if i = 1 then decide (f.low ≤ c.toNat) && decide (c.toNat ≤ f.high) else decide (128 ≤ c.toNat) && decide (c.toNat ≤ 191)
def feedOne (held : List UInt8) (c : UInt8) : Option (List UInt8) := match held with
 | [] => if (formOf c).wide = 0 then none else if 1 < (formOf c).wide then some [c] else some []
 | h :: t => if (formOf h).may (h :: t).length c then (if (h :: t).length + 1 = (formOf h).wide then some [] else some ((h :: t) ++ [c])) else none
def feedAll (held : List UInt8) (l : List UInt8) : Option (List UInt8) := l.foldl (fun a c => a.bind fun h => feedOne h c) (some held)
def rightOf (l : List UInt8) : Bool := feedAll [] l == some []
def runeBytes (r : Nat) : List UInt8 :=
 if r < 128 then [UInt8.ofNat r]
 else if r < 2048 then [UInt8.ofNat (192 + r / 64), UInt8.ofNat (128 + r % 64)]
 else if r < 65536 then [UInt8.ofNat (224 + r / 4096), UInt8.ofNat (128 + r / 64 % 64), UInt8.ofNat (128 + r % 64)]
 else [UInt8.ofNat (240 + r / 262144), UInt8.ofNat (128 + r / 4096 % 64), UInt8.ofNat (128 + r / 64 % 64), UInt8.ofNat (128 + r % 64)]
inductive St | outside | letter | numeral | within | escape | digit | slash | letterU
deriving DecidableEq
structure Lx where
 place : Nat
 st : St
 isIn : Bool
 start : Nat
 raw : List UInt8
 number : Nat
 held : List UInt8
 says : List UInt8
 digits : Nat
 code : Nat
 high : Nat
inductive Tok | mark (at_ : Nat) (sign : UInt8) | term (at_ size : Nat) (name : List UInt8) | num (at_ size bits : Nat) | str (at_ size : Nat) (text : List UInt8)
def numNext (s : Nat) (c : UInt8) : Option Nat :=
 if s = 0 ∧ c = 45 then some 1
 else if (s = 0 ∨ s = 1) ∧ c = 48 then some 2
 else if (s = 0 ∨ s = 1 ∨ s = 3) ∧ isD c then some 3
 else if (s = 2 ∨ s = 3) ∧ c = 46 then some 4
 else if (s = 4 ∨ s = 5) ∧ isD c then some 5
 else if (s = 2 ∨ s = 3 ∨ s = 5) ∧ (c = 101 ∨ c = 69) then some 6
 else if s = 6 ∧ (c = 43 ∨ c = 45) then some 7
 else if (s = 6 ∨ s = 7 ∨ s = 8) ∧ isD c then some 8 else none
def numEnds (s : Nat) : Bool := s = 2 || s = 3 || s = 5 || s = 8
def isBlank (c : UInt8) : Bool := c = 32 || c = 9 || c = 10 || c = 13
def isMark (c : UInt8) : Bool := c = 123 || c = 125 || c = 91 || c = 93 || c = 58 || c = 44
def wordOf (c : UInt8) : List UInt8 := if c = 110 then [110, 117, 108, 108] else if c = 116 then [116, 114, 117, 101] else if c = 102 then [102, 97, 108, 115, 101] else []
def saidOf (c : UInt8) : Option UInt8 :=
 if c = 34 ∨ c = 92 ∨ c = 47 then some c else if c = 98 then some 8 else if c = 102 then some 12 else if c = 110 then some 10 else if c = 114 then some 13 else if c = 116 then some 9 else none
def hexOf (c : UInt8) : Option Nat :=
 if 48 ≤ c.toNat ∧ c.toNat ≤ 57 then some (c.toNat - 48) else if 97 ≤ c.toNat ∧ c.toNat ≤ 102 then some (c.toNat - 87) else if 65 ≤ c.toNat ∧ c.toNat ≤ 70 then some (c.toNat - 55) else none
structure LxOut where
 lx : Lx
 toks : List Tok
 no : Nat
def Lx.told (x : Lx) : Lx := { x with isIn := false, st := .outside }
def numFirst (x : Lx) (c : UInt8) : LxOut := match numNext 0 c with
 | some s => ⟨{ x with st := .numeral, number := s, raw := [c] }, [], 0⟩
 | none => ⟨{ x with st := .numeral }, [], 94⟩
def outsideStep (x : Lx) (c : UInt8) : LxOut :=
 if isBlank c then ⟨x, [], 0⟩
 else
  let y : Lx := { x with isIn := true, start := x.place, raw := [], number := 0 }
  if isMark c then ⟨y.told, [.mark x.place c], 0⟩
  else if c = 34 then ⟨{ y with st := .within, held := [], says := [], digits := 0, code := 0, high := 0 }, [], 0⟩
  else if c = 45 ∨ isD c then numFirst y c
  else if wordOf c ≠ [] then ⟨{ y with st := .letter, raw := [c] }, [], 0⟩
  else ⟨y, [], 94⟩
def letterStep (x : Lx) (c : UInt8) : LxOut :=
 let name := wordOf (x.raw.headD 0)
 if name[x.raw.length]? = some c then
  (if x.raw.length + 1 = name.length then ⟨{ x with raw := x.raw ++ [c] }.told, [.term x.start (x.place + 1 - x.start) name], 0⟩ else ⟨{ x with raw := x.raw ++ [c] }, [], 0⟩)
 else ⟨x, [], 94⟩
def Lx.finish (x : Lx) : Option (Lx × Tok) := (bitsOf x.raw).map fun b => (x.told, .num x.start (x.place - x.start) b)
def numeralStep (x : Lx) (c : UInt8) : LxOut := match numNext x.number c with
 | some s => ⟨{ x with number := s, raw := x.raw ++ [c] }, [], 0⟩
 | none => if numEnds x.number then (match x.finish with
  | none => ⟨x, [], 41⟩
  | some (y, t) => let r := outsideStep y c; ⟨r.lx, t :: r.toks, r.no⟩)
  else ⟨x, [], 94⟩
def withinStep (x : Lx) (c : UInt8) : LxOut :=
 if x.held = [] ∧ c = 34 then ⟨x.told, [.str x.start (x.place + 1 - x.start) x.says], 0⟩
 else if x.held = [] ∧ c = 92 then ⟨{ x with st := .escape }, [], 0⟩
 else if x.held = [] ∧ c.toNat < 32 then ⟨x, [], 91⟩
 else match feedOne x.held c with
  | none => ⟨x, [], 90⟩
  | some h => ⟨{ x with held := h, says := x.says ++ [c] }, [], 0⟩
def escapeStep (x : Lx) (c : UInt8) : LxOut :=
 if c = 117 then ⟨{ x with digits := 0, code := 0, st := .digit }, [], 0⟩
 else match saidOf c with
  | none => ⟨x, [], 92⟩
  | some b => ⟨{ x with says := x.says ++ [b], st := .within }, [], 0⟩
def Lx.lone (x : Lx) (v : Nat) : Bool :=
 if x.high ≠ 0 ∧ x.digits = 0 then v ≠ 13 else if x.high ≠ 0 ∧ x.digits = 1 then v < 12 else x.high = 0 && x.digits = 1 && x.code = 13 && 12 ≤ v
def Lx.whole (x : Lx) : Lx :=
 if x.high ≠ 0 then { x with high := 0, says := x.says ++ runeBytes (65536 + (x.high - 55296) * 1024 + x.code - 56320), st := .within }
 else if 55296 ≤ x.code ∧ x.code ≤ 56319 then { x with high := x.code, st := .slash }
 else { x with says := x.says ++ runeBytes x.code, st := .within }
def digitStep (x : Lx) (c : UInt8) : LxOut := match hexOf c with
 | none => ⟨x, [], if x.high = 0 then 92 else 93⟩
 | some v => if x.lone v then ⟨x, [], 93⟩
  else
   let y : Lx := { x with code := x.code * 16 + v, digits := x.digits + 1 }
   ⟨if x.digits + 1 = 4 then y.whole else y, [], 0⟩
def slashStep (x : Lx) (c : UInt8) : LxOut := if c = 92 then ⟨{ x with st := .letterU }, [], 0⟩ else ⟨x, [], 93⟩
def letterUStep (x : Lx) (c : UInt8) : LxOut := if c = 117 then ⟨{ x with digits := 0, code := 0, st := .digit }, [], 0⟩ else ⟨x, [], 93⟩
def Lx.step (x : Lx) (c : UInt8) : LxOut := match x.st with
 | .outside => outsideStep x c
 | .letter => letterStep x c
 | .numeral => numeralStep x c
 | .within => withinStep x c
 | .escape => escapeStep x c
 | .digit => digitStep x c
 | .slash => slashStep x c
 | .letterU => letterUStep x c
def Lx.take (x : Lx) (c : UInt8) : Lx × List Tok × Nat × Nat :=
 if x.place = 16777216 then (x, [], 3, x.place)
 else
  let r := x.step c
  if r.no = 0 then ({ r.lx with place := x.place + 1 }, r.toks, 0, 0) else (r.lx, r.toks, r.no, if r.no = 41 then r.lx.start else x.place)
def Lx.ended (x : Lx) : Lx × List Tok × Nat × Nat :=
 if x.isIn = false then (x, [], 0, 0)
 else if numEnds x.number = false then (x, [], 95, x.place)
 else match x.finish with
  | none => (x, [], 41, x.start)
  | some (y, t) => (y, [t], 0, 0)
def Lx.new : Lx := ⟨0, .outside, false, 0, [], 0, [], [], 0, 0, 0⟩
section
open Go
def Exit.jumps (J : Nat → Act → World → Prop) (Q : Exit → Act → World → Prop) : Exit → Act → World → Prop
 | .goto l, a, w => J l a w
 | e, a, w => Q e a w
theorem Exit.jumps_ret (J : Nat → Act → World → Prop) (Q : Exit → Act → World → Prop) (a : Act) (w : World) : Exit.jumps J Q .ret a w = Q .ret a w := rfl
section
variable {P : Program} {a : Act} {w : World} {Q : Exit → Act → World → Prop}
theorem wp_of_weaker {c : Code} {J J' : Nat → Act → World → Prop} (h : c.wp P (Exit.jumps J Q) a w) (hJ : ∀ l a w, J l a w → J' l a w) : c.wp P (Exit.jumps J' Q) a w := by
 intro b k cs;obtain ⟨e, a₁, w₁, hq, harr⟩ := h b k cs;refine ⟨e, a₁, w₁, ?_, harr⟩;cases e <;> first | exact hq | exact hJ _ _ _ hq
theorem wp_scope_many {c : Code} (J : Nat → Act → World → Prop) (rank : Nat → Nat)
 (pass : ∀ l a w, J l a w → ∃ rest, findLabel c l = some rest ∧ rest.wp P (Exit.jumps (fun l' a' w' => J l' a' w' ∧ rank l' < rank l) Q) a w)
 (first : c.wp P (Exit.jumps J Q) a w) : (Code.scope c).wp P Q a w := by
 intro b k cs;have hg : ∀ l rest, findLabel c l = some rest → gotoIn l (.inScope c :: k) = some (.code rest :: .inScope c :: k) := fun l rest hf => by simp [gotoIn, hf]
 have key : ∀ n l a w, rank l = n → J l a w → ∃ rest, findLabel c l = some rest ∧ ∃ e a' w', Q e a' w' ∧ Arrives P (lone (b.at a (.code rest :: .inScope c :: k)) cs w) b k cs e a' w' := by
  intro n
  induction n using Nat.strongRecOn with
  | _ n ih =>
   intro l a w hn hJ;obtain ⟨rest, hf, hp⟩ := pass l a w hJ;refine ⟨rest, hf, ?_⟩;obtain ⟨e, a₁, w₁, hq, harr⟩ := hp b (.inScope c :: k) cs;cases e with
   | normal => exact ⟨.normal, a₁, w₁, hq, Steps.trans harr (.one step_inScope)⟩
   | exit id => exact ⟨.exit id, a₁, w₁, hq, fun k' hk => harr k' (by simp [exitTo, hk])⟩
   | goto l' =>
    obtain ⟨hJ', hlt⟩ := hq;obtain ⟨rest', hf', e₂, a₂, w₂, hq₂, harr₂⟩ := ih _ (by omega) l' a₁ w₁ rfl hJ';exact ⟨e₂, a₂, w₂, hq₂, .of_steps (harr _ (hg _ _ hf')) harr₂⟩
   | ret => exact ⟨_, a₁, w₁, hq, harr⟩
   | panic ch => exact ⟨_, a₁, w₁, hq, harr⟩
   | outgrown => exact ⟨_, a₁, w₁, hq, harr⟩
 obtain ⟨e, a₁, w₁, hq, harr⟩ := first b (.inScope c :: k) cs
 cases e with
 | normal => exact ⟨.normal, a₁, w₁, hq, .head step_scope (Steps.trans harr (.one step_inScope))⟩
 | exit id => exact ⟨.exit id, a₁, w₁, hq, fun k' hk => .head step_scope (harr k' (by simp [exitTo, hk]))⟩
 | goto l' =>
  obtain ⟨rest', hf', e₂, a₂, w₂, hq₂, harr₂⟩ := key _ l' a₁ w₁ rfl hq;exact ⟨e₂, a₂, w₂, hq₂, .of_steps (.head step_scope (harr _ (hg _ _ hf'))) harr₂⟩
 | ret => exact ⟨_, a₁, w₁, hq, .of_steps (.one step_scope) harr⟩
 | panic ch => exact ⟨_, a₁, w₁, hq, .of_steps (.one step_scope) harr⟩
 | outgrown => exact ⟨_, a₁, w₁, hq, .of_steps (.one step_scope) harr⟩
theorem wp_scope_order {c : Code} (J : Nat → Act → World → Prop) (rank : Nat → Nat)
 (pass : ∀ l, (∀ l' rest a w, rank l' < rank l → findLabel c l' = some (Code.skip.seq rest) → J l' a w → rest.wp P (Exit.jumps (fun l'' a' w' => J l'' a' w' ∧ rank l'' < rank l) Q) a w) →
  ∀ a w, J l a w → ∃ rest, findLabel c l = some (Code.skip.seq rest) ∧ rest.wp P (Exit.jumps (fun l' a' w' => J l' a' w' ∧ rank l' < rank l) Q) a w)
 (first : (∀ l' rest a w, findLabel c l' = some (Code.skip.seq rest) → J l' a w → rest.wp P (Exit.jumps J Q) a w) → c.wp P (Exit.jumps J Q) a w) : (Code.scope c).wp P Q a w := by
 have all : ∀ n l, rank l = n → ∀ a w, J l a w → ∃ rest, findLabel c l = some (Code.skip.seq rest) ∧ rest.wp P (Exit.jumps (fun l' a' w' => J l' a' w' ∧ rank l' < rank l) Q) a w := by
  intro n
  induction n using Nat.strongRecOn with
  | _ n ih =>
   intro l hn;refine pass l fun l' rest a w hr hf hJ => ?_
   obtain ⟨r, hr', h⟩ := ih (rank l') (by omega) l' rfl a w hJ;rw [hf] at hr';cases hr';exact wp_of_weaker h fun _ _ _ h => ⟨h.1, Nat.lt_trans h.2 hr⟩
 refine wp_scope_many J rank (fun l a w hJ => ?_) (first fun l' rest a w hf hJ => ?_)
 ·obtain ⟨rest, hf, h⟩ := all _ l rfl a w hJ;exact ⟨_, hf, wp_seq (wp_skip h)⟩
 ·obtain ⟨r, hr, h⟩ := all _ l' rfl a w hJ;rw [hf] at hr;cases hr;exact wp_of_weaker h fun _ _ _ h => h.1
end
end
section
inductive Tr | null | flag (b : Bool) | num (bits : Nat) | text (s : List UInt8) | list (l : List Tr) | object (keys : List (List UInt8)) (l : List Tr)
structure Sz where
 nodes : Nat
 bytes : Nat
 depth : Nat
def Sz.within (s : Sz) : Bool := decide (s.nodes ≤ 65536) && decide (s.bytes ≤ 2097152) && decide (s.depth ≤ 512)
def sumSz (bytes : Nat) (l : List Sz) : Sz := let s : Sz := l.foldl (fun (a z : Sz) => (⟨a.nodes + z.nodes, a.bytes + z.bytes, max a.depth z.depth⟩ : Sz)) ⟨1, bytes, 0⟩; { s with depth := s.depth + 1 }
def keysLen (keys : List (List UInt8)) : Nat := keys.foldl (fun a k => a + k.length) 0
def Tr.sized : Tr → Sz
 | .null | .flag _ | .num _ => ⟨1, 0, 1⟩
 | .text s => ⟨1, s.length, 1⟩
 | .list l => sumSz 0 (l.attach.map fun x => Tr.sized x.1)
 | .object keys l => sumSz (keysLen keys) (l.attach.map fun x => Tr.sized x.1)
termination_by t => t
decreasing_by all_goals (simp_wf; have := List.sizeOf_lt_of_mem x.2; omega)
def putItem (items : List Tr) (x : Tr) : List Tr := if x.sized.within then items ++ [x] else items
def putScalar (items : List Tr) (x : Tr) : List Tr := if 65536 ≤ items.length then items else putItem items x
def zeroed (bits : Nat) : Nat := if bits = 9223372036854775808 then 0 else bits
def putNum (items : List Tr) (bits : Nat) : List Tr := putScalar items (.num (zeroed bits))
def putText (items : List Tr) (s : List UInt8) : List Tr := if rightOf s then putScalar items (.text s) else items
def putGroup (items : List Tr) (n : Nat) (x : Tr) : List Tr := if x.sized.within then items.take (items.length - n) ++ [x] else items
def putList (items : List Tr) (n : Nat) : List Tr := if items.length < n then items else putGroup items n (.list (items.drop (items.length - n)))
inductive Fr | list (many : Nat) | object (keys : List (List UInt8))
structure Ps where
 depth : Nat
 place : Nat
 lex : Lx
 items : List Tr
 pile : List Fr
 want : Nat
 nodes : Nat
 bytes : Nat
abbrev Out := Except (Nat × Nat) Ps
def Ps.value (p : Ps) (at_ : Nat) : Out :=
 if p.want ≠ 0 ∧ p.want ≠ 1 then .error (120, at_) else if p.pile.length = p.depth then .error (121, at_) else if p.nodes = 65536 then .error (3, at_) else .ok { p with nodes := p.nodes + 1 }
def Ps.begins (p : Ps) (c : UInt8) : Out := if c = 34 ∧ (p.want = 2 ∨ p.want = 3) then .ok p else p.value p.place
def more (l : List Fr) : List Fr := match l.getLast? with
 | some (.list n) => l.dropLast ++ [.list (n + 1)]
 | _ => l
def Ps.put (p : Ps) : Ps := { p with want := if p.pile = [] then 6 else 5, pile := more p.pile }
def Ps.weigh (p : Ps) (s : List UInt8) (at_ : Nat) : Out := if 2097152 < p.bytes + s.length then .error (3, at_) else .ok { p with bytes := p.bytes + s.length }
def lastKeys (l : List Fr) : List (List UInt8) := match l.getLast? with
 | some (.object k) => k
 | _ => []
def isObj (l : List Fr) : Bool := match l.getLast? with
 | some (.object _) => true
 | _ => false
def Ps.text (p : Ps) (at_ : Nat) (s : List UInt8) : Out :=
 if p.want ≠ 2 ∧ p.want ≠ 3 then (p.weigh s at_).map fun p => Ps.put { p with items := putText p.items s }
 else if s ∈ lastKeys p.pile then .error (101, at_)
 else (Ps.weigh { p with pile := p.pile.dropLast ++ [.object (lastKeys p.pile ++ [s])] } s at_).map fun p => { p with want := 4 }
def signOf : Fr → UInt8
 | .list _ => 93
 | .object _ => 125
def Ps.ends (p : Ps) (sign : UInt8) : Bool := (match p.pile.getLast? with
 | some f => signOf f = sign
 | none => false) && (p.want = 5 || p.want = 1 || p.want = 2)
def Ps.scalar (p : Ps) (x : Tr) : Ps := Ps.put { p with items := putScalar p.items x }
def nameTr (name : List UInt8) : Tr := if name = [110, 117, 108, 108] then .null else .flag (name = [116, 114, 117, 101])
section
variable (putObject : List Tr → List (List UInt8) → List Tr)
def Ps.finishOpen (p : Ps) : Ps := match p.pile.getLast? with
 | some (.list n) => Ps.put { p with pile := p.pile.dropLast, items := putList p.items n }
 | some (.object k) => Ps.put { p with pile := p.pile.dropLast, items := putObject p.items k }
 | none => p
def Ps.mark (p : Ps) (at_ : Nat) (sign : UInt8) : Out :=
 if sign = 91 then (p.value at_).map fun p => { p with pile := p.pile ++ [.list 0], want := 1 }
 else if sign = 123 then (p.value at_).map fun p => { p with pile := p.pile ++ [.object []], want := 2 }
 else if sign = 58 ∧ p.want = 4 then .ok { p with want := 0 }
 else if sign = 44 ∧ p.want = 5 then .ok { p with want := if isObj p.pile then 3 else 0 }
 else if p.ends sign then .ok (p.finishOpen putObject)
 else .error (120, at_)
def Ps.token (p : Ps) : Tok → Out
 | .mark a s => p.mark putObject a s
 | .str a _ s => p.text a s
 | .term _ _ n => .ok (p.scalar (nameTr n))
 | .num _ _ b => .ok (Ps.put { p with items := putNum p.items b })
def Ps.drain (p : Ps) (l : List Tok) : Out := l.foldlM (fun p t => p.token putObject t) p
def lexNo (no : Nat) : Nat := if no = 94 then 120 else no
def Lx.heldNow (x : Lx) : Nat := if x.isIn then x.place - x.start else 0
def Ps.take (p : Ps) (c : UInt8) : Out :=
 let r := p.lex.take c
 match Ps.drain putObject { p with lex := r.1 } r.2.1 with
 | .error e => .error e
 | .ok q =>
  if r.2.2.1 ≠ 0 then .error (lexNo r.2.2.1, r.2.2.2)
  else match (if r.1.heldNow = 1 then q.begins c else .ok q) with
   | .error e => .error e
   | .ok q => .ok { q with place := q.place + 1 }
def Ps.feed (p : Ps) (l : List UInt8) : Out := l.foldlM (fun p c => p.take putObject c) p
def Ps.finish (p : Ps) : Out :=
 let r := p.lex.ended
 match Ps.drain putObject { p with lex := r.1 } r.2.1 with
 | .error e => .error e
 | .ok q => if r.2.2.1 ≠ 0 then .error (lexNo r.2.2.1, r.2.2.2) else if q.want ≠ 6 then .error (95, q.place) else .ok q
def Ps.new (depth : Nat) : Ps := ⟨depth, 0, Lx.new, [], [], 0, 0, 0⟩
def Ps.read (l : List UInt8) (depth : Nat) : Out := match (Ps.new depth).feed putObject l with
 | .error e => .error e
 | .ok p => p.finish putObject
end
end
def rankU (x : UInt8) : Nat := if x.toNat < 238 then x.toNat else if x.toNat < 240 then x.toNat + 16 else x.toNat - 2
theorem rankU_inj {x y : UInt8} (h : rankU x = rankU y) : x = y := by
 have hx := x.toNat_lt;have hy := y.toNat_lt;unfold rankU at h;apply UInt8.toNat.inj;split at h <;> split at h <;> (try split at h) <;> (try split at h) <;> omega
def cmpT : List UInt8 → List UInt8 → Int
 | [], [] => 0
 | [], _ :: _ => -1
 | _ :: _, [] => 1
 | x :: xs, y :: ys => if x = y then cmpT xs ys else if rankU x < rankU y then -1 else 1
theorem cmpT_range : ∀ x y : List UInt8, cmpT x y = -1 ∨ cmpT x y = 0 ∨ cmpT x y = 1
 | [], [] => .inr (.inl rfl)
 | [], _ :: _ => .inl rfl
 | _ :: _, [] => .inr (.inr rfl)
 | x :: xs, y :: ys => by
  unfold cmpT
  by_cases h : x = y
  ·rw [if_pos h]; exact cmpT_range xs ys
  ·rw [if_neg h]
   by_cases h2 : rankU x < rankU y
   ·rw [if_pos h2]; exact .inl rfl
   ·rw [if_neg h2]; exact .inr (.inr rfl)
theorem cmpT_self : ∀ x : List UInt8, cmpT x x = 0
 | [] => rfl
 | x :: xs => by unfold cmpT; rw [if_pos rfl]; exact cmpT_self xs
theorem cmpT_eq : ∀ {x y : List UInt8}, cmpT x y = 0 → x = y
 | [], [], _ => rfl
 | [], _ :: _, h => by simp [cmpT] at h
 | _ :: _, [], h => by simp [cmpT] at h
 | x :: xs, y :: ys, h => by
  unfold cmpT at h
  by_cases e : x = y
  ·rw [if_pos e] at h; rw [e, cmpT_eq h]
  ·rw [if_neg e] at h
   by_cases h2 : rankU x < rankU y
   ·rw [if_pos h2] at h; cases h
   ·rw [if_neg h2] at h; cases h
theorem cmpT_anti : ∀ x y : List UInt8, cmpT x y = - cmpT y x
 | [], [] => rfl
 | [], _ :: _ => rfl
 | _ :: _, [] => rfl
 | x :: xs, y :: ys => by
  unfold cmpT
  by_cases e : x = y
  ·rw [if_pos e, if_pos e.symm]; exact cmpT_anti xs ys
  ·have e' : ¬ y = x := fun h => e h.symm
   rw [if_neg e, if_neg e'];have hne : rankU x ≠ rankU y := fun h => e (rankU_inj h)
   by_cases h2 : rankU x < rankU y
   ·rw [if_pos h2, if_neg (by omega)]
   ·rw [if_neg h2, if_pos (by omega)]; decide
theorem cmpT_trans : ∀ {x y z : List UInt8}, cmpT x y < 0 → cmpT y z < 0 → cmpT x z < 0
 | [], [], _, h, _ => by simp [cmpT] at h
 | [], _ :: _, [], _, h => by simp [cmpT] at h
 | [], _ :: _, _ :: _, _, _ => by simp [cmpT]
 | _ :: _, [], _, h, _ => by simp [cmpT] at h
 | _ :: _, _ :: _, [], _, h => by simp [cmpT] at h
 | x :: xs, y :: ys, z :: zs, h1, h2 => by
  unfold cmpT at h1 h2 ⊢
  by_cases e1 : x = y
  ·subst e1;rw [if_pos rfl] at h1
   by_cases e2 : x = z
   ·rw [if_pos e2] at h2 ⊢; exact cmpT_trans h1 h2
   ·rw [if_neg e2] at h2 ⊢; exact h2
  ·rw [if_neg e1] at h1
   have l1 : rankU x < rankU y := by
    by_cases h : rankU x < rankU y
    ·exact h
    ·rw [if_neg h] at h1; omega
   by_cases e2 : y = z
   ·subst e2; rw [if_neg e1, if_pos l1]; decide
   ·rw [if_neg e2] at h2
    have l2 : rankU y < rankU z := by
     by_cases h : rankU y < rankU z
     ·exact h
     ·rw [if_neg h] at h2; omega
    have hxz : x ≠ z := fun e => by subst e; omega
    rw [if_neg hxz, if_pos (by omega)]; decide
theorem cmpT_total {x y : List UInt8} (h1 : ¬ cmpT x y < 0) (h2 : ¬ cmpT y x < 0) : x = y := by
 rcases cmpT_range x y with h | h | h
 ·omega
 ·exact cmpT_eq h
 ·have := cmpT_anti x y; omega
abbrev RTxt := {l : List UInt8 // rightOf l = true ∧ l.length ≤ 2097152}
instance : Inhabited RTxt := ⟨⟨[], by decide⟩⟩
def RdT (w : World) (k : Nat) : Prop := ∃ c T, w.heap[k]? = some (Obj.cells c T (0, 0)) ∧ (T = 159 ∨ T = 5 ∨ T = 162)
def Odd (w : World) (k : Nat) : Prop := ∃ o : Obj, w.heap[k]? = some o ∧ o.isCells = false
def Minds (B : Nat) (J : World → Prop) : Prop := ∀ A C, J A → Keeps (fun k => B ≤ k ∧ RdT A k) A C → J C
def Minds2 (B : Nat) (J : World → Prop) : Prop := ∀ A C, J A → Keeps (fun k => B ≤ k ∧ (RdT A k ∨ Odd A k)) A C → J C
theorem Minds2.minds {B : Nat} {J : World → Prop} (h : Minds2 B J) : Minds B J := fun A C hj hk => h A C hj (hk.mono fun _ h => ⟨h.1, .inl h.2⟩)
theorem keeps_putObj {F : Nat → Prop} {w : World} {l : Nat} (o : Obj) (h : F l) : Keeps F w (w.putObj l o) :=
 ⟨rfl, rfl, rfl, by simp, fun k _ hk => World.putObj_heap_other (fun e => hk (by rw [e]; exact h))⟩
theorem Minds2.put {B : Nat} {J : World → Prop} (h : Minds2 B J) {w : World} {l : Nat} {o : Obj} (o' : Obj) (hj : J w) (hB : B ≤ l) (hl : w.heap[l]? = some o) (ho : o.isCells = false) : J (w.putObj l o') :=
 h _ _ hj (keeps_putObj o' ⟨hB, .inr ⟨o, hl, ho⟩⟩)
def StT (T : TypeId) : Prop := T = 159 ∨ T = 5 ∨ T = 162 ∨ T = 176 ∨ T = 186 ∨ T = 189 ∨ T = 97 ∨ T = 9
instance (T : TypeId) : Decidable (StT T) := by unfold StT; infer_instance
structure Stays (w w' : World) : Prop where
 os : w'.os = w.os
 tape : w'.tape = w.tape
 output : w'.output = w.output
 size : w.heap.size ≤ w'.heap.size
 block : ∀ (k : Nat) (c : Array Value) (T : TypeId), w.heap[k]? = some (Obj.cells c T (0, 0)) → StT T → w'.heap[k]? = some (Obj.cells c T (0, 0))
def Else (w : World) (k : Nat) : Prop := ¬ ∃ c T, w.heap[k]? = some (Obj.cells c T (0, 0)) ∧ StT T
theorem Stays.refl (w : World) : Stays w w := ⟨rfl, rfl, rfl, Nat.le_refl _, fun _ _ _ h _ => h⟩
theorem Stays.trans {a b c : World} (h : Stays a b) (k : Stays b c) : Stays a c :=
 ⟨k.os.trans h.os, k.tape.trans h.tape, k.output.trans h.output, Nat.le_trans h.size k.size, fun i x T hi hT => k.block i x T (h.block i x T hi hT) hT⟩
theorem Stays.of_keeps {F : Nat → Prop} {w w' : World} (h : Keeps F w w') (hF : ∀ k, F k → Else w k) : Stays w w' :=
 ⟨h.os, h.tape, h.output, h.size, fun k c T hk hT => h.blk hk (fun hf => hF k hf ⟨c, T, hk, hT⟩)⟩
theorem Stays.keeps {w w' : World} (h : Stays w w') : Keeps (Else w) w w' :=
 ⟨h.os, h.tape, h.output, h.size, fun k hk hF => by
  have : ∃ c T, w.heap[k]? = some (Obj.cells c T (0, 0)) ∧ StT T := Classical.not_not.1 hF;obtain ⟨c, T, h1, h2⟩ := this;rw [h.block k c T h1 h2, h1]⟩
theorem Stays.put {w : World} {l : Nat} {o : Obj} (o' : Obj) (hl : w.heap[l]? = some o) (ho : o.isCells = false) : Stays w (w.putObj l o') :=
 Stays.of_keeps (F := fun k => k = l) (keeps_putObj o' rfl) (fun k e => by subst e; rintro ⟨c, T, h, _⟩; rw [hl] at h; cases h; simp [Obj.isCells] at ho)
def SeqW {α : Type} (n : Nat) (P : Program) (g : Nat) (lb : Array Value) (encs : α → Array Value) (R : Nat → α → World → Prop) (S : List α → Prop) (w : World) : Prop :=
 ∀ (l : Nat) (J : List α → World → Prop) (W : World), Below w.heap.size w W → (∀ pre, Minds W.heap.size (J pre)) →
  (∀ pre x W1, J pre W1 → R pre.length x W1 → YieldAt Fence.wide (n - 1) P l (encs x) W1 fun e W' => e = .returned (.bool true) ∧ J (pre ++ [x]) W' ∧ Stays W1 W') →
  J [] W → CallsIn Fence.wide n P g (#[.func (.yield l) #[] #[]] ++ lb) W fun e W' => (∃ v, e = .returned v) ∧ ∃ xs, S xs ∧ J xs W'
def roundEnd {α : Type} (I : List α → World → Prop) (xs : List α) (W : World) : Exit → Act → World → Prop
 | .normal, _, W' => KeepsOthers W W' ∧ Stays W W' ∧ I xs W'
 | _, _, _ => False
theorem range_law {α : Type} {P : Program} {n : Nat} {g : Operand} {ps : Array Tmp} {assign body : Code} {Q : Exit → Act → World → Prop} {a : Act} {w : World} {gf : Nat} {lb : Array Value}
 (hg : a.eval g = .func (.func gf) #[] lb) (eg : ∀ args w, (callFunc gf args).run P w = .ok (.enter gf args) w) {encs : α → Array Value} {R : Nat → α → World → Prop} {S : List α → Prop} {w0 : World}
 (hseq : SeqW (n - 1) P gf lb encs R S w0) (hb0 : Below w0.heap.size w0 w) (hps : ∀ x, (encs x).size = ps.size) (I : List α → World → Prop) (hI : ∀ pre, Minds2 w.heap.size (I pre)) (h0 : I [] w)
 (Ax : List α → α → Act → World → Prop) (hAx : ∀ pre x a1, Minds2 w.heap.size (Ax pre x a1))
 (hassign : ∀ (l : Nat) (pre : List α) (x : α) (W : World) (K : Act → World → Prop), I pre W → R pre.length x W → (∀ a1 W1, KeepsOthers W W1 → Stays W W1 → Ax pre x a1 W1 → K a1 W1) →
  assign.wpIn (Fence.wide.inRound l) (n - 1 - 1) P (Exit.then K (fun _ _ _ => False)) { tmps := (ps.zip (encs x)).foldl (fun t (p, v) => t.setIfInBounds p v) a.tmps, defers := [] } W)
 (hbody : ∀ (l : Nat) (pre : List α) (x : α) (a1 : Act) (W : World), Ax pre x a1 W → body.wpIn (Fence.wide.inRound l) (n - 1 - 1) P (roundEnd I (pre ++ [x]) W) a1 W)
 (hdone : ∀ (D : Nat) (xs : List α) (W : World), w.heap.size ≤ D → S xs → I xs W → W.heap[D]? = some (.deferred (some [])) → Q .normal { a with defers := { target := .collected D, args := #[] } :: a.defers } W) :
 (Code.rangeFunc g ps assign body).wpIn Fence.wide n P Q a w := by
 apply wpIn_rangeFunc;intro fn _
 let lp : LoopState → Loop := fun st => { state := st, pending := none, fn := fn, tmps := a.tmps, params := ps, assign := assign, body := body, defers := w.heap.size }
 obtain ⟨D, hD⟩ : ∃ D, w.heap.size = D := ⟨_, rfl⟩;obtain ⟨W1, hW1⟩ : ∃ W1, (w.alloc (.deferred (some []))).alloc (.loop (lp .ready)) = W1 := ⟨_, rfl⟩
 have hrec : W1.heap[D + 1]? = some (.loop (lp .ready)) := by
  have h := World.alloc_heap_new (w.alloc (.deferred (some []))) (.loop (lp .ready));rw [World.size_alloc, hW1, hD] at h;exact h
 have hdef : W1.heap[D]? = some (.deferred (some [])) := by
  rw [← hW1, ← hD];exact (Below.heap_alloc _ _ _ (by simp)).trans (World.alloc_heap_new w _)
 have hkw : Keeps (fun _ => False) w W1 := by rw [← hW1]; exact ((Keeps.refl _ w).alloc _).alloc _
 have hi1 : I [] W1 := hI [] _ _ h0 (hkw.mono fun _ h => h.elim);have hlow : Below w0.heap.size w0 W1 := hb0.trans (hkw.toBelow hb0.size (fun _ h => h.elim));refine ⟨D + 1, [{ target := .collected D, args := #[] }], W1, { target := .fn (.func gf) lb, args := #[.func (.yield (D + 1)) #[] #[]] }, W1, gf, #[.func (.yield (D + 1)) #[] #[]] ++ lb, W1, ?_, ?_, fun _ _ => trivial, ?_, fun h => (by cases h), ?_⟩
 ·rw [← hW1, ← hD];exact run_enterLoop_outer _ _ _ _ _
 ·simp only [resolve, hg];simp [go_sem]
 ·simp [invoke, go_sem, eg]
 refine (hseq (D + 1) (fun pre W => I pre W ∧ W.heap[D + 1]? = some (.loop (lp .ready)) ∧ W.heap[D]? = some (.deferred (some []))) W1 hlow ?_ ?_ ⟨hi1, hrec, hdef⟩).mono ?_
 ·rintro pre A C ⟨h1, h2, h3⟩ hk;have hle : D ≤ W1.heap.size := by rw [← hD]; exact hkw.size
  refine ⟨(hI pre).minds A C h1 (hk.mono fun k h => ⟨by omega, h.2⟩), hk.blk h2 ?_, hk.blk h3 ?_⟩
  ·rintro ⟨_, c, T, h, _⟩; rw [h2] at h; cases h
  ·rintro ⟨_, c, T, h, _⟩; rw [h3] at h; cases h
 ·rintro pre x W ⟨hi, hl, hd⟩ hx;refine ⟨fn, _, assign, body, run_yield (P := P) (args := encs x) hl (hps x), roundIn_of_wpIn trivial (hassign _ pre x W _ hi hx ?_)⟩;intro a1 V1 ho1 hr1 hax;have hl1 := ho1.same _ _ hl rfl;have hd1 := ho1.same _ _ hd rfl;have hlt1 : D + 1 < V1.heap.size := lt_of_block hl1;refine ⟨_, run_beginRound hl1 rfl, ?_⟩;obtain ⟨V2, hV2⟩ : ∃ V2, V1.putObj (D + 1) (.loop (lp .busy)) = V2 := ⟨_, rfl⟩;have hax2 : Ax pre x a1 V2 := by rw [← hV2]; exact (hAx pre x a1).put _ hax (by omega) hl1 rfl
  have hl2 : V2.heap[D + 1]? = some (.loop (lp .busy)) := by rw [← hV2]; exact World.putObj_heap_same hlt1
  have hd2 : V2.heap[D]? = some (.deferred (some [])) := by rw [← hV2]; exact (World.putObj_heap_other (by omega)).trans hd1
  have hr2 : Stays V1 V2 := by rw [← hV2]; exact Stays.put _ hl1 rfl
  show body.wpIn (Fence.wide.inRound (D + 1)) (n - 1 - 1) P _ a1 (V1.putObj (D + 1) (.loop (lp .busy)))
  rw [hV2];refine wpIn_mono (hbody (D + 1) pre x a1 V2 hax2) ?_;intro e a3 V3 he;cases e with
  | normal =>
   obtain ⟨ho3, hr3, hi3⟩ := he;have hl3 := ho3.same _ _ hl2 rfl;have hd3 := ho3.same _ _ hd2 rfl;refine ⟨_, _, run_endRound (P := P) none hl3, rfl, ⟨(hI _).put _ hi3 (by omega) hl3 rfl, World.putObj_heap_same (lt_of_block hl3), (World.putObj_heap_other (by omega)).trans hd3⟩, ((hr1.trans hr2).trans hr3).trans (Stays.put _ hl3 rfl)⟩
  | ret => exact he.elim
  | exit id => exact he.elim
  | goto t => exact he.elim
  | panic ch => exact he.elim
  | outgrown => exact he.elim
 ·rintro e V ⟨⟨v, rfl⟩, xs, hS, hi, hl, hd⟩;refine ⟨none, _, run_endLoop (P := P) hl (by simp [lp]), ?_⟩;have := hdone D xs _ (Nat.le_of_eq hD) hS ((hI xs).put (.loop (lp .exhausted)) hi (by omega) hl rfl) ((World.putObj_heap_other (by omega)).trans hd);exact this
end Go.Proofs.YtakkmiomhackiaaGreatDoor
