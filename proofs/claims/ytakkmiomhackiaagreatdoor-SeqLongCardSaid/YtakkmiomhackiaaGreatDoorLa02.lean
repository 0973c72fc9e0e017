/-
  Several texts in one, each under its own head. Conditions: none.
-/
import Derived.Test.YtakkmiomhackiaaGreatDoorLa01
import Derived.WalkKit
import Derived.WalkSpells
import Derived.WalkLawsBesides
import Derived.Lib.Hide
import Derived.Deep.QuietTactic
import Derived.BigQuiet
import Derived.RowKit
import Derived.Lib.TrimByte
set_option linter.all false

/-
  Rows of one-cell elements that a call owns: what they hold, how they grow, what leaves them alone. Laws for the walk. Conditions: an element's type by its row of the table.
-/
namespace Go.Proofs.YtakkmiomhackiaaGreatDoor
open Go.RowKit
set_option maxRecDepth 100000

/-- The slice value v holds the elements l, each as one cell. -/
def Row {α : Type} (B e : Nat) (enc : α → Value) (w : World) (v : Value) (l : List α) : Prop := w.ownsRow B e 1 v l.length (l.map enc)
/-- The type t is a slice of e; an element is one cell of so many bytes. -/
def Elem (t e bytes : Nat) : Prop := Tryz.prog.underlying t = some (.slice e) ∧ ∃ i z, Tryz.prog.info? e = some i ∧ i.zero = some z ∧ i.size = 1 ∧ i.bytes = bytes ∧ z.cells.size = 1

theorem ownsRow_below {w w' : World} {base e size n : Nat} {v : Value} {xs : List Value} (h : w.ownsRow base e size v n xs) (hb : Below w.heap.size w w') : w'.ownsRow base e size v n xs := by
  refine ⟨h.1, ?_⟩
  rcases h.2 with hn | ⟨g, cap, cur, rfl, hg, hgg, rest⟩
  · exact .inl hn
  · exact .inr ⟨g, cap, cur, rfl, hg, (hb.block g (Array.getElem?_eq_some_iff.1 hgg).1).trans hgg, rest⟩
theorem ownsRow_set {w : World} {base e size n : Nat} {v : Value} {xs : List Value} (h : w.ownsRow base e size v n xs) {b : Nat} {c : Array Value} {T : TypeId} (hb : w.heap[b]? = some (.cells c T (0, 0))) (hT : T ≠ e) (o : Nat) (u : Value) :
    (w.setCell ⟨b, o, none⟩ u).ownsRow base e size v n xs := by
  refine ownsRow_setCell_other h (fun hc => ?_) u
  rcases h.2 with ⟨rfl, _⟩ | ⟨g, cap, cur, rfl, _, hg, _⟩
  · simp [Value.ownBlock] at hc
  · simp [Value.ownBlock] at hc
    subst hc
    rw [hb] at hg
    simp at hg
    exact hT hg.2

theorem free_at0 {w : World} {b : Nat} {c : Array Value} {T : TypeId} (h : w.heap[b]? = some (.cells c T (0, 0))) (o : Nat) : w.frozen? ⟨b, o, none⟩ = false := by simp [World.frozen?, h]
theorem set_at0 {w : World} {b o : Nat} {c : Array Value} {T : TypeId} (h : w.heap[b]? = some (.cells c T (0, 0))) (u : Value) : (w.setCell ⟨b, o, none⟩ u).heap[b]? = some (.cells (c.setIfInBounds o u) T (0, 0)) := by
  have hlt := lt_of_block h
  have h' : w.heap[b] = .cells c T (0, 0) := by simpa [Array.getElem?_eq_getElem hlt] using h
  show (w.heap.modify b _)[b]? = _
  rw [Array.getElem?_eq_getElem (by simpa using hlt), Array.getElem_modify_self, h']
  rfl
section
variable {α : Type} {B e : Nat} {enc : α → Value} {w : World} {v : Value} {l : List α}
theorem Row.below {w' : World} (h : Row B e enc w v l) (hb : Below w.heap.size w w') : Row B e enc w' v l := ownsRow_below h hb
theorem Row.set (h : Row B e enc w v l) {b : Nat} {c : Array Value} {T : TypeId} (hb : w.heap[b]? = some (.cells c T (0, 0))) (hT : T ≠ e) (o : Nat) (u : Value) : Row B e enc (w.setCell ⟨b, o, none⟩ u) v l := ownsRow_set h hb hT o u
theorem Row.nil (B e : Nat) (enc : α → Value) (w : World) : Row B e enc w (.slice none 0 0) [] := World.ownsRow_nil w B e 1
theorem Row.base {B' : Nat} (h : Row B e enc w v l) (hB : B' ≤ B) : Row B' e enc w v l := by
  refine ⟨h.1, ?_⟩
  rcases h.2 with hn | ⟨g, cap, cur, rfl, hg, rest⟩
  · exact .inl hn
  · exact .inr ⟨g, cap, cur, rfl, Nat.le_trans hB hg, rest⟩
theorem Row.cases (h : Row B e enc w v l) : (v = .slice none 0 0 ∧ l = []) ∨
    ∃ g cap, v = .slice (some ⟨g, 0, none⟩) l.length cap ∧ B ≤ g ∧ g < w.heap.size ∧ l.length ≤ cap ∧ cap ≤ maxLen ∧ (∃ cur, w.heap[g]? = some (.cells cur e (0, 0)) ∧ cur.size = cap ∧ cur.toList.take l.length = l.map enc) ∧
      ∀ i x, l[i]? = some x → w.cell? ⟨g, i, none⟩ = some (enc x) := by
  rcases h.2 with ⟨hv, hn⟩ | ⟨g, cap, cur, hv, hB, hg, hc, hm, hs, ht⟩
  · exact .inl ⟨hv, List.eq_nil_of_length_eq_zero hn⟩
  · simp only [Nat.mul_one] at hs ht
    refine .inr ⟨g, cap, hv, hB, lt_of_block hg, hc, hm, ⟨cur, hg, hs, ht⟩, fun i x hi => ?_⟩
    rw [cell_of_row w g i cur e (0, 0) hg]
    have := congrArg (fun x => x[i]?) ht
    have hlt : i < l.length := (List.getElem?_eq_some_iff.1 hi).1
    simp only [List.getElem?_take, List.getElem?_map, if_pos hlt, Array.getElem?_toList, hi] at this
    exact this
theorem Row.shape (h : Row B e enc w v l) : ∃ a c, v = .slice a l.length c := by
  rcases h.cases with ⟨rfl, rfl⟩ | ⟨g, cap, rfl, _⟩
  · exact ⟨none, 0, rfl⟩
  · exact ⟨_, _, rfl⟩
theorem Row.le_maxLen (h : Row B e enc w v l) : l.length ≤ maxLen := by
  rcases h.cases with ⟨_, rfl⟩ | ⟨g, cap, _, _, _, h1, h2, _⟩
  · simp
  · omega
theorem Row.lt (h : Row B e enc w v l) : ∀ k, v.ownBlock = some k → B ≤ k ∧ k < w.heap.size := World.ownsRow.lt h
/-- The first k elements of such a slice. -/
theorem Row.take {g n cap : Nat} (h : Row B e enc w (.slice (some ⟨g, 0, none⟩) n cap) l) {k : Nat} (hk : k ≤ l.length) : Row B e enc w (.slice (some ⟨g, 0, none⟩) k cap) (l.take k) := by
  rcases h.2 with ⟨hv, _⟩ | ⟨g', cap', cur, hv, h0, hg, hc, hm, hs, ht⟩
  · cases hv
  · cases hv
    refine ⟨by simp, .inr ⟨g, cap, cur, by simp [Nat.min_eq_left hk], h0, hg, by simp; omega, hm, hs, ?_⟩⟩
    have := congrArg (List.take k) ht
    rw [List.take_take] at this
    simp only [Nat.mul_one, List.length_take, List.map_take] at this ⊢
    rw [← this]
theorem Row.free {g n cap : Nat} (h : Row B e enc w (.slice (some ⟨g, 0, none⟩) n cap) l) (o : Nat) : w.frozen? ⟨g, o, none⟩ = false := by
  rcases h.2 with ⟨hv, _⟩ | ⟨g', cap', cur, hv, _, hg, _⟩
  · cases hv
  · cases hv; exact free_at0 hg o
theorem Row.cell {g n cap : Nat} (h : Row B e enc w (.slice (some ⟨g, 0, none⟩) n cap) l) {i : Nat} {x : α} (hx : l[i]? = some x) : w.cell? ⟨g, i, none⟩ = some (enc x) := by
  rcases h.cases with ⟨hv, _⟩ | ⟨g', cap', hv, _, _, _, _, _, hc⟩
  · cases hv
  · cases hv; exact hc i x hx
theorem Row.stored {g n cap : Nat} (h : Row B e enc w (.slice (some ⟨g, 0, none⟩) n cap) l) {i : Nat} (hi : i < l.length) (x : α) : Row B e enc (w.setCell ⟨g, i, none⟩ (enc x)) (.slice (some ⟨g, 0, none⟩) n cap) (l.set i x) := by
  rcases h.2 with ⟨hv, _⟩ | ⟨g', cap', cur, hv, h0, hg, hc, hm, hs, ht⟩
  · cases hv
  · cases hv
    refine ⟨by simp, .inr ⟨g, cap, cur.setIfInBounds i (enc x), by simp, h0, set_at0 hg _, by simpa using hc, hm, by simpa using hs, ?_⟩⟩
    simp only [Nat.mul_one, List.length_set, Array.toList_setIfInBounds] at ht ⊢
    rw [List.take_set, ht, List.map_set]
/-- A slice over a new block that holds just l. -/
theorem Row.new (B e : Nat) (enc : α → Value) (w : World) (l : List α) (hB : B ≤ w.heap.size) (hl : l.length ≤ maxLen) : Row B e enc (w.alloc (.cells (l.map enc).toArray e)) (.slice (some ⟨w.heap.size, 0, none⟩) l.length l.length) l := by
  refine ⟨by simp, .inr ⟨w.heap.size, l.length, _, rfl, hB, heap_alloc_new w _, Nat.le_refl _, hl, by simp, ?_⟩⟩
  simp [List.take_of_length_le]
theorem Row.alloc (h : Row B e enc w v l) (o : Obj) : Row B e enc (w.alloc o) v l := World.ownsRow.alloc h o
theorem Row.drew (h : Row B e enc w v l) : Row B e enc w.drew v l := h
theorem Row.of_make {n : Nat} (h : w.ownsRow B e 1 v 0 []) : Row B e enc w v [] := h
end

/-! ### blocks behind a call that keeps what lay before -/
theorem after1 {w w1 : World} {o1 : Obj} (h : Below (w.alloc o1).heap.size (w.alloc o1) w1) : w1.heap[w.heap.size]? = some o1 ∧ Below w.heap.size w w1 ∧ w.heap.size + 1 ≤ w1.heap.size := by
  refine ⟨(h.block _ (by simp)).trans (heap_alloc_new w o1), ((Below.refl _ _).alloc (Nat.le_refl _) _).trans (h.mono (by simp)), by simpa using h.size⟩
theorem after2 {w w1 : World} {o1 o2 : Obj} (h : Below ((w.alloc o1).alloc o2).heap.size ((w.alloc o1).alloc o2) w1) : w1.heap[w.heap.size]? = some o1 ∧ w1.heap[w.heap.size + 1]? = some o2 ∧ Below w.heap.size w w1 ∧ w.heap.size + 2 ≤ w1.heap.size := by
  have h1 := after1 h
  have h3 := after1 h1.2.1
  exact ⟨h3.1, by simpa using h1.1, h3.2.1, by simpa using h1.2.2⟩
theorem after3 {w w1 : World} {o1 o2 o3 : Obj} (h : Below (((w.alloc o1).alloc o2).alloc o3).heap.size (((w.alloc o1).alloc o2).alloc o3) w1) : w1.heap[w.heap.size]? = some o1 ∧ w1.heap[w.heap.size + 1]? = some o2 ∧ w1.heap[w.heap.size + 2]? = some o3 ∧ Below w.heap.size w w1 ∧ w.heap.size + 3 ≤ w1.heap.size := by
  have h1 := after1 h
  have h2 := after2 h1.2.1
  exact ⟨h2.1, h2.2.1, by simpa using h1.1, h2.2.2.1, by simpa using h1.2.2⟩
theorem keep {w1 w2 : World} {b : Nat} {o : Obj} (h : w1.heap[b]? = some o) (hb : Below w1.heap.size w1 w2) : w2.heap[b]? = some o := (hb.block b (lt_of_block h)).trans h
theorem chain {w w1 w2 : World} (h : Below w.heap.size w w1) (hb : Below w1.heap.size w1 w2) : Below w.heap.size w w2 := h.trans (hb.mono h.size)
theorem set_at {w : World} {b o : Nat} {c : Array Value} {T : TypeId} (h : w.heap[b]? = some (.cells c T (0, 0))) (u : Value) : (w.setCell ⟨b, o, none⟩ u).heap[b]? = some (.cells (c.setIfInBounds o u) T (0, 0)) := by
  have hlt := lt_of_block h
  have h' : w.heap[b] = .cells c T (0, 0) := by simpa [Array.getElem?_eq_getElem hlt] using h
  show (w.heap.modify b _)[b]? = _
  rw [Array.getElem?_eq_getElem (by simpa using hlt), Array.getElem_modify_self, h']
  rfl
theorem set_else {w : World} {b o k : Nat} (u : Value) (h : k ≠ b) : (w.setCell ⟨b, o, none⟩ u).heap[k]? = w.heap[k]? := Below.heap_setCell w ⟨b, o, none⟩ u k h
theorem cell_at {w : World} {b o : Nat} {c : Array Value} {T : TypeId} (h : w.heap[b]? = some (.cells c T (0, 0))) : w.cell? ⟨b, o, none⟩ = c[o]? := by simp [World.cell?, h]
theorem free_at {w : World} {b : Nat} {c : Array Value} {T : TypeId} (h : w.heap[b]? = some (.cells c T (0, 0))) (o : Nat) : w.frozen? ⟨b, o, none⟩ = false := by simp [World.frozen?, h]

/-! ### append of one element -/
section
variable {α : Type} {B e t bytes : Nat} {enc : α → Value} {w : World} {v : Value} {l : List α}
theorem append_one {ops : Array Oper} {rest : List Oper} {o : Oper} {a : Act} {Q : Exit → Act → World → Prop} (E : Elem t e bytes) (hgd : o.guard = none) (s x : Operand)
    (ho : o.op = .call { callee := .builtin .append, args := #[s, x], argTypes := #[t, t] }) (hs : a.eval s = v) (hown : Row B e enc w v l) (ad : Addr) (c : Nat) (y : α) (hx : a.eval x = .slice (some ad) 1 c)
    (hy : w.cell? ad = some (enc y)) (h1 : (enc y).oneCell' = true) (hb : (l.length + 1) * bytes ≤ 140737488355328) (hm : l.length + 1 ≤ maxLen) (hbase : B ≤ w.heap.size)
    (h : ∀ b cap w', Row B e enc w' (.slice (some ⟨b, 0, none⟩) (l.length + 1) cap) (l ++ [y]) → w.grownBy w' v.ownBlock → wpList Tryz.prog ops Q rest (a.put o.dst (.slice (some ⟨b, 0, none⟩) (l.length + 1) cap)) w') :
    wpList Tryz.prog ops Q (o :: rest) a w := by
  obtain ⟨ht, i, z, hi, hz, hsz, hby, hzs⟩ := E
  refine wpList_append_own w hgd s x t ho B e i z 1 bytes ht hi hz hsz hby hzs (by decide) v l.length (l.map enc) hs hown ad 1 c [enc y] hx rfl ?_ ?_ hm hb hbase ?_
  · intro j u hj
    match j, hj with
    | 0, hj =>
      simp at hj; subst hj
      have : ad.add 0 = ad := by obtain ⟨b, o, s⟩ := ad; cases s <;> simp [Addr.add]
      rw [this]; exact hy
    | j + 1, hj => simp at hj
  · intro u hu; simp at hu; subst hu; exact h1
  · intro v' w' hown' hg hiff
    rcases hown'.2 with ⟨_, hn⟩ | ⟨g, cap, cur, rfl, rest'⟩
    · omega
    · refine h g cap w' ?_ hg
      unfold Row
      rw [List.length_append, List.map_append]
      exact ⟨by simp, .inr ⟨g, cap, cur, rfl, by simpa using rest'⟩⟩
end
/-- The element type's row, with its zero value. -/
def ElemZ (t e bytes : Nat) (z : Value) : Prop := Tryz.prog.underlying t = some (.slice e) ∧ ∃ i, Tryz.prog.info? e = some i ∧ i.zero = some z ∧ i.size = 1 ∧ i.bytes = bytes ∧ z.cells = #[z]
/-- 'make([]T, m, n)': m zero elements are owned. -/
theorem make_row {α : Type} {B e t bytes : Nat} {enc : α → Value} {w : World} (z0 : α) {ops : Array Oper} {rest : List Oper} {o : Oper} {a : Act} {Q : Exit → Act → World → Prop} (E : ElemZ t e bytes (enc z0)) (hgd : o.guard = none) (l c : Operand)
    (hop : o.op = Op.makeSlice t l c) (kl kc : IntKind) (L C : Int) (m n : Nat) (hl : a.eval l = .int kl L) (hc : a.eval c = .int kc C) (hL : L = (m : Int)) (hC : C = (n : Int)) (hmn : m ≤ n) (hb : bytes * n ≤ 281474976710656) (hm : n ≤ maxLen) (hbase : B ≤ w.heap.size)
    (h : ∀ w', Row B e enc w' (.slice (some ⟨w.heap.size, 0, none⟩) m n) (List.replicate m z0) → Below w.heap.size w w' → wpList Tryz.prog ops Q rest (a.put o.dst (.slice (some ⟨w.heap.size, 0, none⟩) m n)) w') :
    wpList Tryz.prog ops Q (o :: rest) a w := by
  obtain ⟨ht, i, hi, hz, hsz, hby, hzc⟩ := E
  have hrun := run_make (P := Tryz.prog) w t e i (enc z0) ht hi hz kl kc (m : Int) (n : Int) (by omega) (by omega) (by rw [hby]; omega) (by simp only [maxLen] at hm; omega)
  subst hL
  subst hC
  refine wpList_plain hgd fun K hK => ?_
  unfold Oper.wp
  simp only [execOp, hop, hl, hc, Sem.run_bind, hrun, Result.andThen_ok, Int.toNat_natCast, Sem.run_pure]
  refine hK _ _ (h _ ⟨by simp, .inr ⟨w.heap.size, n, madeCells (enc z0).cells (n * i.size), by simp, hbase, heap_alloc_new w _, by simpa using hmn, hm, by rw [size_madeCells, hsz], ?_⟩⟩ ((Below.refl _ _).alloc (Nat.le_refl _) _))
  rw [hzc, toList_madeCells_one, hsz]
  simp [List.take_replicate, Nat.min_eq_left hmn]

end Go.Proofs.YtakkmiomhackiaaGreatDoor

/-
  What a call leaves alone: all blocks outside of a set. Laws of worlds; slices by windows; no program in sight but its table.
-/
namespace Go.Proofs.YtakkmiomhackiaaGreatDoor
open Go.RowKit
set_option maxRecDepth 100000

/-- What lies outside of F lies as it lay. -/
structure Keeps (F : Nat → Prop) (w w' : World) : Prop where
  os : w'.os = w.os
  tape : w'.tape = w.tape
  output : w'.output = w.output
  size : w.heap.size ≤ w'.heap.size
  block : ∀ k, k < w.heap.size → ¬ F k → w'.heap[k]? = w.heap[k]?
/-- F, and what was laid since. -/
def Since (F : Nat → Prop) (w w' : World) (k : Nat) : Prop := F k ∨ (w.heap.size ≤ k ∧ k < w'.heap.size)

section
variable {F G : Nat → Prop} {w w1 w2 w' : World}
theorem Keeps.refl (F : Nat → Prop) (w : World) : Keeps F w w := ⟨rfl, rfl, rfl, Nat.le_refl _, fun _ _ _ => rfl⟩
theorem Keeps.mono (h : Keeps F w w') (hf : ∀ k, F k → G k) : Keeps G w w' := ⟨h.os, h.tape, h.output, h.size, fun k hk hg => h.block k hk (fun hF => hg (hf k hF))⟩
theorem Keeps.trans (h : Keeps F w w1) (h2 : Keeps G w1 w2) (hg : ∀ k, G k → F k ∨ w.heap.size ≤ k) : Keeps F w w2 :=
  ⟨h2.os.trans h.os, h2.tape.trans h.tape, h2.output.trans h.output, Nat.le_trans h.size h2.size, fun k hk hF =>
    (h2.block k (Nat.lt_of_lt_of_le hk h.size) (fun hG => (hg k hG).elim hF (fun hle => by omega))).trans (h.block k hk hF)⟩
theorem Keeps.andThen (h : Keeps F w w1) (h2 : Keeps (Since F w w1) w1 w2) : Keeps F w w2 := h.trans h2 fun _ hk => hk.elim .inl (fun h => .inr h.1)
theorem Keeps.same (h : Keeps F w w1) (h2 : Keeps F w1 w2) : Keeps F w w2 := h.trans h2 fun _ hk => .inl hk
theorem Keeps.alloc (h : Keeps F w w1) (o : Obj) : Keeps F w (w1.alloc o) :=
  ⟨h.os, h.tape, h.output, Nat.le_trans h.size (by simp), fun k hk hF => (Below.heap_alloc _ _ _ (Nat.lt_of_lt_of_le hk h.size)).trans (h.block k hk hF)⟩
theorem Keeps.setCell (h : Keeps F w w1) {p : Addr} (hp : F p.block ∨ w.heap.size ≤ p.block) (u : Value) : Keeps F w (w1.setCell p u) :=
  ⟨h.os, h.tape, h.output, Nat.le_trans h.size (by simp [World.setCell]), fun k hk hF => (Below.heap_setCell _ _ _ _ (fun e => hp.elim (fun hp => hF (by rw [e]; exact hp)) (fun hp => by omega))).trans (h.block k hk hF)⟩
theorem Keeps.drew (h : Keeps F w w1) : Keeps F w w1.drew := ⟨h.os, h.tape, h.output, h.size, h.block⟩
theorem Keeps.grown {row : Option Nat} (h : Keeps F w w1) (hg : w1.grownBy w2 row) (hr : ∀ k, row = some k → F k ∨ w.heap.size ≤ k) : Keeps F w w2 :=
  ⟨hg.os.trans h.os, hg.tape.trans h.tape, hg.output.trans h.output, Nat.le_trans h.size hg.size, fun k hk hF =>
    (hg.block k (Nat.lt_of_lt_of_le hk h.size) (fun e => (hr k e.symm).elim hF (fun hle => by omega))).trans (h.block k hk hF)⟩
theorem Keeps.below (h : Keeps F w w1) (h2 : Below w1.heap.size w1 w2) : Keeps F w w2 :=
  ⟨h2.os.trans h.os, h2.tape.trans h.tape, h2.output.trans h.output, Nat.le_trans h.size h2.size, fun k hk hF => (h2.block k (Nat.lt_of_lt_of_le hk h.size)).trans (h.block k hk hF)⟩
theorem Keeps.of_below (F : Nat → Prop) (h : Below w.heap.size w w') : Keeps F w w' := (Keeps.refl F w).below h
theorem Keeps.toBelow (h : Keeps F w w') {n : Nat} (hn : n ≤ w.heap.size) (hF : ∀ k, F k → n ≤ k) : Below n w w' :=
  ⟨h.os, h.tape, h.output, h.size, fun k hk => h.block k (by omega) (fun hk' => by have := hF k hk'; omega)⟩
theorem Keeps.blk (h : Keeps F w w') {k : Nat} {o : Obj} (hk : w.heap[k]? = some o) (hF : ¬ F k) : w'.heap[k]? = some o := (h.block k (lt_of_block hk) hF).trans hk
theorem Keeps.cell (h : Keeps F w w') {p : Addr} {v : Value} (hk : w.cell? p = some v) (hF : ¬ F p.block) : w'.cell? p = some v :=
  (World.cell?_of_block (h.block _ (World.block_lt_of_cell? w p hk) hF)).trans hk
theorem Since.old {k : Nat} (h : F k) : Since F w w' k := .inl h
theorem Since.new {k : Nat} (h : w.heap.size ≤ k) (h2 : k < w'.heap.size) : Since F w w' k := .inr ⟨h, h2⟩
theorem Since.mono_r {k : Nat} (h : Since F w w1 k) (hs : w1.heap.size ≤ w2.heap.size) : Since F w w2 k := h.elim .inl (fun h => .inr ⟨h.1, by omega⟩)
theorem Since.trans {k : Nat} (h : Since (Since F w w1) w1 w2 k) (h1 : w.heap.size ≤ w1.heap.size) (hs : w1.heap.size ≤ w2.heap.size) : Since F w w2 k := by
  rcases h with h | ⟨h2, h3⟩
  · exact h.mono_r hs
  · exact .inr ⟨by omega, h3⟩
theorem Row.keeps {α : Type} {B e : Nat} {enc : α → Value} {v : Value} {l : List α} (h : Row B e enc w v l) (hk : Keeps F w w') (hF : ∀ k, v.ownBlock = some k → ¬ F k) : Row B e enc w' v l := by
  refine ⟨h.1, ?_⟩
  rcases h.2 with hn | ⟨g, cap, cur, rfl, hg, hgg, rest⟩
  · exact .inl hn
  · exact .inr ⟨g, cap, cur, rfl, hg, hk.blk hgg (hF g rfl), rest⟩
end

/-! ### windows of a block -/
/-- The slice v holds the elements l, each as one cell, wherever in its block it begins. -/
def Win {α : Type} (e : Nat) (enc : α → Value) (w : World) (v : Value) (l : List α) : Prop :=
  (v = .slice none 0 0 ∧ l = []) ∨
  ∃ g off cap cur, v = .slice (some ⟨g, off, none⟩) l.length cap ∧ w.heap[g]? = some (.cells cur e (0, 0)) ∧ l.length ≤ cap ∧ off + cap ≤ cur.size ∧ cap ≤ maxLen ∧ ∀ i x, l[i]? = some x → cur[off + i]? = some (enc x)
section
variable {α : Type} {e : Nat} {enc : α → Value} {w : World} {v : Value} {l : List α}
theorem Win.nil (e : Nat) (enc : α → Value) (w : World) : Win e enc w (.slice none 0 0) [] := .inl ⟨rfl, rfl⟩
theorem Win.keeps {F : Nat → Prop} {w' : World} (h : Win e enc w v l) (hk : Keeps F w w') (hF : ∀ k, v.ownBlock = some k → ¬ F k) : Win e enc w' v l := by
  rcases h with hn | ⟨g, off, cap, cur, rfl, hg, rest⟩
  · exact .inl hn
  · exact .inr ⟨g, off, cap, cur, rfl, hk.blk hg (hF g rfl), rest⟩
theorem Win.of_row {B : Nat} (h : Row B e enc w v l) : Win e enc w v l := by
  rcases h.cases with ⟨rfl, rfl⟩ | ⟨g, cap, rfl, _, _, hc, hm, ⟨cur, hg, hs, ht⟩, _⟩
  · exact .nil _ _ _
  · refine .inr ⟨g, 0, cap, cur, rfl, hg, hc, by omega, hm, fun i x hi => ?_⟩
    have := congrArg (fun x => x[i]?) ht
    have hlt : i < l.length := (List.getElem?_eq_some_iff.1 hi).1
    simp only [List.getElem?_take, List.getElem?_map, if_pos hlt, Array.getElem?_toList, hi] at this
    simpa using this
theorem Win.shape (h : Win e enc w v l) : ∃ a c, v = .slice a l.length c := by
  rcases h with ⟨rfl, rfl⟩ | ⟨g, off, cap, cur, rfl, _⟩
  · exact ⟨none, 0, rfl⟩
  · exact ⟨_, _, rfl⟩
/-- The first one is taken off: 's[1:]'. -/
theorem Win.tail {x : α} {g off cap : Nat} (h : Win e enc w (.slice (some ⟨g, off, none⟩) (l.length + 1) cap) (x :: l)) : Win e enc w (.slice (some ⟨g, off + 1, none⟩) l.length (cap - 1)) l := by
  rcases h with ⟨hv, _⟩ | ⟨g', off', cap', cur, hv, hg, hc, ho, hm, hi⟩
  · cases hv
  · cases hv
    simp only [List.length_cons] at hc
    refine .inr ⟨g, off + 1, cap - 1, cur, rfl, hg, by omega, by omega, by omega, fun i y hy => ?_⟩
    have := hi (i + 1) y (by simpa using hy)
    rw [show off + 1 + i = off + (i + 1) by omega]; exact this
theorem Win.cell {g off n cap : Nat} (h : Win e enc w (.slice (some ⟨g, off, none⟩) n cap) l) {i : Nat} {x : α} (hx : l[i]? = some x) : w.cell? ⟨g, off + i, none⟩ = some (enc x) := by
  rcases h with ⟨hv, _⟩ | ⟨g', off', cap', cur, hv, hg, hc, ho, hm, hi⟩
  · cases hv
  · cases hv
    rw [cell_at hg]; exact hi i x hx

/-- 'append' of one element, wherever the slice begins; behind it the slice lies in the same block or in a new one. -/
theorem append_win {t bytes : Nat} {ops : Array Oper} {rest : List Oper} {o : Oper} {a : Act} {Q : Exit → Act → World → Prop} (E : Elem t e bytes) (hgd : o.guard = none) (s x : Operand)
    (ho : o.op = .call { callee := .builtin .append, args := #[s, x], argTypes := #[t, t] }) (hs : a.eval s = v) (hown : Win e enc w v l) (ad : Addr) (c : Nat) (y : α) (hx : a.eval x = .slice (some ad) 1 c)
    (hy : w.cell? ad = some (enc y)) (h1 : (enc y).oneCell' = true) (hb : (l.length + 1) * bytes ≤ 140737488355328) (hm : l.length + 1 ≤ maxLen)
    (h : ∀ g off cap w', Win e enc w' (.slice (some ⟨g, off, none⟩) (l.length + 1) cap) (l ++ [y]) → (v.ownBlock = some g ∨ (w.heap.size ≤ g ∧ g < w'.heap.size)) → w.grownBy w' v.ownBlock → wpList Tryz.prog ops Q rest (a.put o.dst (.slice (some ⟨g, off, none⟩) (l.length + 1) cap)) w') :
    wpList Tryz.prog ops Q (o :: rest) a w := by
  obtain ⟨ht, i, z, hi, hz, hsz, hby, hzs⟩ := E
  have hnews : ∀ (j : Nat) u, [enc y][j]? = some u → w.cell? (ad.add j) = some u := by
    intro j u hj
    match j, hj with
    | 0, hj =>
      simp at hj; subst hj
      have : ad.add 0 = ad := by obtain ⟨b, o, s⟩ := ad; cases s <;> simp [Addr.add]
      rw [this]; exact hy
    | j + 1, hj => simp at hj
  have hone : ∀ u ∈ [enc y], u.oneCell' = true := by intro u hu; simp at hu; subst hu; exact h1
  rcases hown with ⟨rfl, rfl⟩ | ⟨g, off, cap, cur, rfl, hg, hc, hof, hcm, hcell⟩
  · refine wpList_append_grows w hgd s x t ho e i z 1 bytes ht hi hz hsz hby hzs (by decide) none 0 0 [] hs (fun _ => ⟨rfl, rfl⟩) rfl (by intro b hb; cases hb) ad 1 c [enc y] hx rfl hnews hone (by omega) (by simp at hm; omega) (by simp at hb; omega) ?_
    intro v' w' hrow hgr
    rcases hrow.2 with ⟨_, hn⟩ | ⟨g, cap, cur, rfl, hb', hg, hc', hm', hs', ht'⟩
    · omega
    · refine h g 0 cap w' (Win.of_row (B := w.heap.size) ⟨by simp, .inr ⟨g, cap, cur, rfl, hb', hg, by simpa using hc', hm', by simpa using hs', by simpa using ht'⟩⟩) (.inr ⟨hb', lt_of_block hg⟩) hgr
  · refine wpList_append_arg w hgd s x t ho e i z 1 bytes ht hi hz hsz hby hzs (by decide) g off l.length cap (l.map enc) hs (by simp) ?_ ad 1 c [enc y] hx rfl hnews hone ?_ hm hb ?_ ?_
    · intro j u hj
      rw [cell_at hg]
      rw [List.getElem?_map] at hj
      cases hlj : l[j]? with
      | none => rw [hlj] at hj; cases hj
      | some z => rw [hlj] at hj; simp at hj; subst hj; exact hcell j z hlj
    · intro hroom j hj
      simp at hj
      subst hj
      refine ⟨?_, free_at hg _⟩
      rw [cell_at hg, Array.getElem?_eq_getElem (by simp; omega)]; rfl
    · intro hroom
      have hset : w.setCells g (off + l.length * 1) [enc y] = w.setCell ⟨g, off + l.length, none⟩ (enc y) := by simp [World.setCells]
      rw [hset]
      refine h g off cap _ (.inr ⟨g, off, cap, cur.setIfInBounds (off + l.length) (enc y), by simp, set_at hg _, by simpa using hroom, by simpa using hof, hcm, ?_⟩) (.inl rfl) ?_
      · intro j z hj
        rw [Array.getElem?_setIfInBounds]
        by_cases hjl : j < l.length
        · rw [if_neg (by omega)]
          rw [List.getElem?_append_left hjl] at hj
          exact hcell j z hj
        · rw [List.getElem?_append_right (by omega)] at hj
          have : j = l.length := by
            have := (List.getElem?_eq_some_iff.1 hj).1
            simp at this; omega
          subst this
          simp at hj; subst hj
          rw [if_pos rfl, if_pos (by omega)]
      · exact ⟨rfl, rfl, rfl, by simp [World.setCell], fun k hk hne => set_else _ (fun e => hne (by subst e; rfl))⟩
    · intro hfull v' w' hrow hgr
      rcases hrow.2 with ⟨_, hn⟩ | ⟨g', cap', cur', rfl, hb', hg', hc', hm', hs', ht'⟩
      · omega
      · refine h g' 0 cap' w' (Win.of_row (B := w.heap.size) ⟨by simp, .inr ⟨g', cap', cur', by simp, hb', hg', by simpa using hc', hm', by simpa using hs', by simpa using ht'⟩⟩) (.inr ⟨hb', lt_of_block hg'⟩) ⟨hgr.os, hgr.tape, hgr.output, hgr.size, fun k hk _ => hgr.block k hk (by simp)⟩
end
end Go.Proofs.YtakkmiomhackiaaGreatDoor

/-
  Natural numbers as rows of 64-bit words, the least first: plain arithmetic, no program in sight. Its conditions: none.
-/
namespace Go.Proofs.YtakkmiomhackiaaGreatDoor.Lim


def val : List Nat → Nat
  | [] => 0
  | x :: xs => x + 18446744073709551616 * val xs

def limbs (n : Nat) : List Nat := if h : n = 0 then [] else n % 18446744073709551616 :: limbs (n / 18446744073709551616)
termination_by n
decreasing_by omega

theorem limbs_zero : limbs 0 = [] := by rw [limbs]; simp
theorem limbs_pos {n : Nat} (h : n ≠ 0) : limbs n = n % 18446744073709551616 :: limbs (n / 18446744073709551616) := by rw [limbs]; simp [h]

theorem val_limbs (n : Nat) : val (limbs n) = n := by
  induction n using Nat.strongRecOn with
  | ind n ih =>
    by_cases h : n = 0
    · subst h; rw [limbs_zero]; rfl
    · rw [limbs_pos h]; simp only [val]; rw [ih (n / 18446744073709551616) (by omega)]; omega

def Small (l : List Nat) : Prop := ∀ x ∈ l, x < 18446744073709551616

theorem small_limbs (n : Nat) : Small (limbs n) := by
  induction n using Nat.strongRecOn with
  | ind n ih =>
    by_cases h : n = 0
    · subst h; rw [limbs_zero]; intro x hx; cases hx
    · rw [limbs_pos h]; intro x hx
      rcases List.mem_cons.1 hx with rfl | hx
      · exact Nat.mod_lt _ (by decide)
      · exact ih (n / 18446744073709551616) (by omega) x hx

theorem small_cons {x : Nat} {l : List Nat} : Small (x :: l) ↔ x < 18446744073709551616 ∧ Small l := by
  unfold Small; simp
theorem small_append {a b : List Nat} : Small (a ++ b) ↔ Small a ∧ Small b := by
  unfold Small; simp only [List.mem_append]
  exact ⟨fun h => ⟨fun x hx => h x (.inl hx), fun x hx => h x (.inr hx)⟩, fun h x hx => hx.elim (h.1 x) (h.2 x)⟩
theorem small_take {l : List Nat} (h : Small l) (n : Nat) : Small (l.take n) := fun x hx => h x (List.mem_of_mem_take hx)
theorem small_drop {l : List Nat} (h : Small l) (n : Nat) : Small (l.drop n) := fun x hx => h x (List.mem_of_mem_drop hx)

theorem val_append (a b : List Nat) : val (a ++ b) = val a + 18446744073709551616 ^ a.length * val b := by
  induction a with
  | nil => simp [val]
  | cons x a ih => simp only [List.cons_append, val, ih, List.length_cons, Nat.pow_succ]; rw [Nat.mul_add, ← Nat.mul_assoc, Nat.mul_comm 18446744073709551616 (18446744073709551616 ^ a.length)]; omega

theorem val_lt {l : List Nat} (h : Small l) : val l < 18446744073709551616 ^ l.length := by
  induction l with
  | nil => simp [val]
  | cons x l ih =>
    obtain ⟨hx, hl⟩ := small_cons.1 h
    have := ih hl
    simp only [val, List.length_cons, Nat.pow_succ]
    have h2 : 18446744073709551616 * val l + 18446744073709551616 ≤ 18446744073709551616 ^ l.length * 18446744073709551616 := by
      rw [Nat.mul_comm (18446744073709551616 ^ l.length)]; calc 18446744073709551616 * val l + 18446744073709551616 = 18446744073709551616 * (val l + 1) := by rw [Nat.mul_add, Nat.mul_one]
        _ ≤ 18446744073709551616 * 18446744073709551616 ^ l.length := Nat.mul_le_mul_left _ this
    omega

/-- Rows without a nought at the end are the words of their number. -/
def Norm (l : List Nat) : Prop := l = [] ∨ l.getLast? ≠ some 0

theorem limbs_val {l : List Nat} (h : Small l) (hn : l.getLast? ≠ some 0) : limbs (val l) = l := by
  induction l with
  | nil => exact limbs_zero
  | cons x l ih =>
    obtain ⟨hx, hl⟩ := small_cons.1 h
    have hB : (x + 18446744073709551616 * val l) / 18446744073709551616 = val l := by omega
    have hm : (x + 18446744073709551616 * val l) % 18446744073709551616 = x := by omega
    have h0 : x + 18446744073709551616 * val l ≠ 0 := by
      intro h0
      have hx0 : x = 0 := by omega
      have hv0 : val l = 0 := by omega
      cases l with
      | nil => subst hx0; exact hn rfl
      | cons y l' =>
        have hh := ih hl (by simpa [List.getLast?_cons_cons] using hn)
        rw [hv0, limbs_zero] at hh; cases hh
    simp only [val]
    rw [limbs_pos h0, hB, hm]
    cases l with
    | nil => simp [val, limbs_zero]
    | cons y l' => rw [ih hl (by simpa [List.getLast?_cons_cons] using hn)]

theorem limbs_last (n : Nat) : (limbs n).getLast? ≠ some 0 := by
  induction n using Nat.strongRecOn with
  | ind n ih =>
    by_cases h : n = 0
    · subst h; rw [limbs_zero]; simp
    · rw [limbs_pos h]
      by_cases hq : n / 18446744073709551616 = 0
      · rw [hq, limbs_zero]; simp; omega
      · have h2 := ih (n / 18446744073709551616) (by omega)
        rw [limbs_pos hq] at h2 ⊢
        simpa [List.getLast?_cons_cons] using h2

/-- The first k words, the words above which are all nought, have the number; its words are the first of them. -/
theorem limbs_take {l : List Nat} (h : Small l) {k : Nat} (hk : k ≤ l.length) (hz : ∀ i, k ≤ i → l.getD i 0 = 0) (hl : k = 0 ∨ l.getD (k - 1) 0 ≠ 0) :
    limbs (val l) = l.take k := by
  have hv : val l = val (l.take k) := by
    have e := val_append (l.take k) (l.drop k)
    rw [List.take_append_drop] at e
    have h0 : val (l.drop k) = 0 := by
      have : ∀ m : List Nat, (∀ i, m.getD i 0 = 0) → val m = 0 := by
        intro m; induction m with
        | nil => intro _; rfl
        | cons y m ih => intro hm; simp only [val]; rw [ih (fun i => by simpa using hm (i + 1))]; have := hm 0; simp at this; omega
      refine this _ (fun i => ?_)
      have := hz (k + i) (by omega)
      simpa [List.getD, List.getElem?_drop] using this
    rw [h0] at e; simpa using e
  rw [hv]
  refine limbs_val (small_take h k) ?_
  rcases hl with rfl | hl
  · simp
  · intro hc
    rcases Nat.eq_zero_or_pos k with rfl | hp
    · simp at hc
    · rw [List.getLast?_eq_getElem?, List.length_take, Nat.min_eq_left hk, List.getElem?_take, if_pos (by omega)] at hc
      exact hl (by simp [List.getD, hc])

theorem limbs_length_le {n k : Nat} (h : n < 18446744073709551616 ^ k) : (limbs n).length ≤ k := by
  induction k generalizing n with
  | zero => have : n = 0 := by simpa using h
            subst this; simp [limbs_zero]
  | succ k ih =>
    by_cases h0 : n = 0
    · subst h0; simp [limbs_zero]
    · rw [limbs_pos h0]; simp only [List.length_cons]
      have := ih (n := n / 18446744073709551616) (by rw [Nat.pow_succ] at h; exact Nat.div_lt_of_lt_mul (by rw [Nat.mul_comm]; exact h))
      omega
theorem lt_of_limbs_length {n k : Nat} (h : (limbs n).length ≤ k) : n < 18446744073709551616 ^ k := by
  have := val_lt (small_limbs n); rw [val_limbs] at this
  exact Nat.lt_of_lt_of_le this (Nat.pow_le_pow_right (by decide) h)

theorem limbs_getD (n i : Nat) : (limbs n).getD i 0 = n / 18446744073709551616 ^ i % 18446744073709551616 := by
  induction i generalizing n with
  | zero =>
    by_cases h : n = 0
    · subst h; simp [limbs_zero]
    · rw [limbs_pos h]; simp
  | succ i ih =>
    by_cases h : n = 0
    · subst h; simp [limbs_zero]
    · rw [limbs_pos h]
      have : (n % 18446744073709551616 :: limbs (n / 18446744073709551616)).getD (i + 1) 0 = (limbs (n / 18446744073709551616)).getD i 0 := by simp [List.getD]
      rw [this, ih, Nat.div_div_eq_div_mul, Nat.pow_succ, Nat.mul_comm 18446744073709551616]

/-- How many bits. -/
def bitlen (n : Nat) : Nat := if n = 0 then 0 else n.log2 + 1

theorem bitlen_le {n k : Nat} : bitlen n ≤ k ↔ n < 2 ^ k := by
  unfold bitlen
  split
  · rename_i h; subst h; simp [Nat.two_pow_pos]
  · rename_i h; exact Nat.log2_lt h
theorem lt_bitlen {n : Nat} : n < 2 ^ bitlen n := bitlen_le.1 (Nat.le_refl _)
theorem bitlen_gt {n k : Nat} : k < bitlen n ↔ 2 ^ k ≤ n := by
  have := bitlen_le (n := n) (k := k); omega

theorem weq : 18446744073709551616 = 2 ^ 64 := by decide
theorem wpow (k : Nat) : 18446744073709551616 ^ k = 2 ^ (64 * k) := by rw [weq, ← Nat.pow_mul]

/-- The bits of a number by its highest word. -/
theorem bitlen_limbs {n : Nat} (h : n ≠ 0) : bitlen n = 64 * ((limbs n).length - 1) + bitlen ((limbs n).getD ((limbs n).length - 1) 0) ∧ 0 < (limbs n).length := by
  have hlen : 0 < (limbs n).length := by rw [limbs_pos h]; simp
  refine ⟨?_, hlen⟩
  obtain ⟨m, hm⟩ : ∃ m, (limbs n).length = m + 1 := ⟨(limbs n).length - 1, by omega⟩
  rw [hm, Nat.add_sub_cancel]
  have hlt : n < 18446744073709551616 ^ (m + 1) := lt_of_limbs_length (by omega)
  have hge : 18446744073709551616 ^ m ≤ n := by
    rcases Nat.lt_or_ge n (18446744073709551616 ^ m) with hc | hc
    · have := limbs_length_le hc; omega
    · exact hc
  have hq : n / 18446744073709551616 ^ m < 18446744073709551616 := Nat.div_lt_of_lt_mul (by rw [← Nat.pow_succ]; exact hlt)
  rw [limbs_getD, Nat.mod_eq_of_lt hq]
  have hp : 0 < 18446744073709551616 ^ m := Nat.pow_pos (by decide)
  have hq1 : 1 ≤ n / 18446744073709551616 ^ m := (Nat.one_le_div_iff hp).2 hge
  generalize hqq : n / 18446744073709551616 ^ m = q at *
  refine Nat.le_antisymm ?_ ?_
  · rw [bitlen_le, Nat.pow_add, ← wpow, Nat.mul_comm]
    rw [← Nat.div_lt_iff_lt_mul hp, hqq]; exact lt_bitlen
  · have hb : 0 < bitlen q := by rcases Nat.eq_zero_or_pos (bitlen q) with h0 | h0
                                 · have := bitlen_le.1 (Nat.le_of_eq h0); simp at this; omega
                                 · exact h0
    have h3 : 64 * m + (bitlen q - 1) < bitlen n := by
      rw [bitlen_gt, Nat.pow_add, ← wpow, Nat.mul_comm]
      have : 2 ^ (bitlen q - 1) ≤ q := bitlen_gt.1 (by omega)
      calc 2 ^ (bitlen q - 1) * 18446744073709551616 ^ m ≤ q * 18446744073709551616 ^ m := Nat.mul_le_mul_right _ this
        _ ≤ n := by rw [← hqq]; exact Nat.div_mul_le_self _ _
    omega
theorem short {n k : Nat} (h : bitlen n ≤ 64 * k) : (limbs n).length ≤ k := limbs_length_le (by rw [wpow]; exact bitlen_le.1 h)
theorem bitlen_mono {a b : Nat} (h : a ≤ b) : bitlen a ≤ bitlen b := bitlen_le.2 (Nat.lt_of_le_of_lt h lt_bitlen)
theorem limbs_of_val {l : List Nat} {n : Nat} (h : val l = n) : limbs (val l) = limbs n := by rw [h]
end Go.Proofs.YtakkmiomhackiaaGreatDoor.Lim

/-
  The value of decimal digits, in plain Lean.
-/
namespace Go.Proofs.YtakkmiomhackiaaGreatDoor

/-- The number that digits write (bytes 48 .. 57). -/
def dval (l : List UInt8) : Nat := l.foldl (fun a b => 10 * a + (b.toNat - 48)) 0
theorem dval_from (l : List UInt8) (a : Nat) : l.foldl (fun a b => 10 * a + (b.toNat - 48)) a = a * 10 ^ l.length + dval l := by
  unfold dval
  induction l generalizing a with
  | nil => simp
  | cons x l ih =>
    rw [List.foldl_cons, List.foldl_cons, ih, ih (10 * 0 + (x.toNat - 48)), List.length_cons, Nat.pow_succ, Nat.add_mul, Nat.add_mul, Nat.mul_zero, Nat.zero_mul, Nat.zero_add, Nat.mul_comm (10 ^ l.length) 10, ← Nat.mul_assoc, Nat.mul_comm a 10, Nat.add_assoc]
theorem dval_append (l r : List UInt8) : dval (l ++ r) = dval l * 10 ^ r.length + dval r := by
  rw [dval, List.foldl_append, dval_from]; rfl
theorem dval_snoc (l : List UInt8) (x : UInt8) : dval (l ++ [x]) = 10 * dval l + (x.toNat - 48) := by
  rw [dval, List.foldl_append]; rfl
theorem dval_zeros (q : Nat) (l : List UInt8) : dval (List.replicate q 48 ++ l) = dval l := by
  induction q with
  | zero => rfl
  | succ q ih => rw [List.replicate_succ, List.cons_append, dval, List.foldl_cons, ← ih]; rfl
theorem dval_lt {l : List UInt8} (h : ∀ x ∈ l, x.toNat ≤ 57) : dval l < 10 ^ l.length := by
  induction l with
  | nil => simp [dval]
  | cons x l ih =>
    have h1 := h x (by simp)
    have h2 := ih (fun y hy => h y (by simp [hy]))
    have e : dval (x :: l) = (x.toNat - 48) * 10 ^ l.length + dval l := by
      have := dval_append [x] l
      simpa [dval] using this
    rw [e, List.length_cons, Nat.pow_succ]
    have : (x.toNat - 48) * 10 ^ l.length ≤ 9 * 10 ^ l.length := Nat.mul_le_mul_right _ (by omega)
    omega
end Go.Proofs.YtakkmiomhackiaaGreatDoor

/-
  What package dec computes, in plain Lean: of a literal's bytes the bits of the float to which it rounds (to the nearest one, of two as near to the even one). No program in sight.
-/
namespace Go.Proofs.YtakkmiomhackiaaGreatDoor

def isD (c : UInt8) : Bool := decide (48 ≤ c.toNat) && decide (c.toNat ≤ 57)
structure Lit where
  neg : Bool
  whole : List UInt8
  behind : List UInt8
  under : Bool
  exp : List UInt8

/-- Behind the point's digits. -/
def readSign (t : List UInt8) : Bool × List UInt8 := match t with
  | c :: t' => if c = 43 ∨ c = 45 then (c == 45, t') else (false, c :: t')
  | [] => (false, [])
def readTen (neg : Bool) (whole behind r : List UInt8) : Option Lit := match r with
  | [] => some ⟨neg, whole, behind, false, []⟩
  | e :: t => if e = 101 ∨ e = 69 then
      (if (readSign t).2.takeWhile isD = [] ∨ (readSign t).2.dropWhile isD ≠ [] then none else some ⟨neg, whole, behind, (readSign t).1, (readSign t).2.takeWhile isD⟩)
    else none
def readPoint (neg : Bool) (whole r : List UInt8) : Option Lit := match r with
  | [] => readTen neg whole [] []
  | c :: t => if c = 46 then (if t.takeWhile isD = [] then none else readTen neg whole (t.takeWhile isD) (t.dropWhile isD)) else readTen neg whole [] (c :: t)
def readWhole (neg : Bool) (r : List UInt8) : Option Lit := match r with
  | [] => none
  | c :: t => if isD c then (if c = 48 then readPoint neg [48] t else readPoint neg ((c :: t).takeWhile isD) ((c :: t).dropWhile isD)) else none
def readOf (s : List UInt8) : Option Lit := match s with
  | [] => none
  | c :: t => if c = 45 then readWhole true t else readWhole false (c :: t)

structure Dml where
  neg : Bool
  digits : List UInt8
  exp : Int
def expStep (a : Nat) (c : UInt8) : Nat := if a < 35184372088832 then 10 * a + (c.toNat - 48) else a
def expOf (l : List UInt8) : Nat := l.foldl expStep 0
def stripOf (neg : Bool) (ds : List UInt8) (e : Int) : Dml :=
  if Lib.trimRightB (Lib.trimLeftB ds 48) 48 = [] then ⟨false, [], 0⟩
  else ⟨neg, Lib.trimRightB (Lib.trimLeftB ds 48) 48, e + (Lib.trimLeftB ds 48).length - (Lib.trimRightB (Lib.trimLeftB ds 48) 48).length⟩
def bareOf (l : Lit) : Dml := stripOf l.neg (l.whole ++ l.behind) ((if l.under then -(expOf l.exp : Int) else expOf l.exp) - l.behind.length)

structure Cut where
  bits : Nat
  half : Int
  exact : Bool
def most : Nat := 9218868437227405311
def upOf (num den : Nat) : Int := 66 - ((Lim.bitlen num : Int) - Lim.bitlen den)
/-- Of the quotient q of which 'left' is left, shifted up so far. -/
def cutOf (q left : Nat) (up : Int) : Cut :=
  let k : Int := max ((Lim.bitlen q : Int) - 53 - up) (-1074)
  let j := (k + up).toNat
  let bits := (k + 1074).toNat * 4503599627370496 + q / 2 ^ j
  if most < bits then ⟨most, 1, false⟩
  else ⟨bits, if q / 2 ^ (j - 1) % 2 = 1 then (if q % 2 ^ (j - 1) ≠ 0 ∨ left ≠ 0 then 1 else 0) else -1, !(decide (q % 2 ^ j ≠ 0) || decide (left ≠ 0))⟩
def ratioOf (num den : Nat) : Cut :=
  let n := num * 2 ^ (upOf num den).toNat
  let d := den * 2 ^ (- upOf num den).toNat
  cutOf (n / d) (n % d) (upOf num den)
def cutDigits (ds : List UInt8) : List UInt8 := if 800 < ds.length then ds.take 800 ++ [49] else ds
def cutExp (ds : List UInt8) (e : Int) : Int := if 800 < ds.length then e + (ds.length - 801) else e
def floorOf (d : Dml) : Cut :=
  if d.digits = [] then ⟨0, 0, true⟩
  else if 310 < (d.digits.length : Int) + d.exp then ⟨most, 1, false⟩
  else if (d.digits.length : Int) + d.exp < -330 then ⟨0, -1, false⟩
  else if 0 ≤ cutExp d.digits d.exp then ratioOf (dval (cutDigits d.digits) * 10 ^ (cutExp d.digits d.exp).toNat) 1
  else ratioOf (dval (cutDigits d.digits)) (10 ^ (- cutExp d.digits d.exp).toNat)
/-- Of a cut the bits, rounded; none: beyond the floats. -/
def evenBits (c : Cut) : Nat := if c.half = 0 ∧ c.bits % 2 = 0 then c.bits else if 0 ≤ c.half ∧ c.exact = false then c.bits + 1 else c.bits
def roundedOf (d : Dml) : Option Nat :=
  if most < evenBits (floorOf d) then none else some (if d.neg = true ∧ 0 < evenBits (floorOf d) then evenBits (floorOf d) + 9223372036854775808 else evenBits (floorOf d))
def bitsOf (s : List UInt8) : Option Nat := (readOf s).bind fun l => roundedOf (bareOf l)

example : bitsOf [49] = some 4607182418800017408 := by decide
example : bitsOf [55] = some 4619567317775286272 := by decide
/-- 1.5e-3 -/
example : bitsOf [49, 46, 53, 101, 45, 51] = some 4564560351926583034 := by decide
end Go.Proofs.YtakkmiomhackiaaGreatDoor

/-
  What packages utf and lex compute, in plain Lean: the characters' forms byte by byte; the tokens of bytes as they come. No program in sight.
-/
namespace Go.Proofs.YtakkmiomhackiaaGreatDoor

/-! ### utf -/
structure Form where
  wide : Nat
  low : Nat
  high : Nat
def formOf (c : UInt8) : Form :=
  if c.toNat < 128 then ⟨1, 0, 0⟩ else if c.toNat < 194 then ⟨0, 0, 0⟩ else if c.toNat < 224 then ⟨2, 128, 191⟩ else if c.toNat = 224 then ⟨3, 160, 191⟩
  else if c.toNat = 237 then ⟨3, 128, 159⟩ else if c.toNat < 240 then ⟨3, 128, 191⟩ else if c.toNat = 240 then ⟨4, 144, 191⟩ else if c.toNat < 244 then ⟨4, 128, 191⟩
  else if c.toNat = 244 then ⟨4, 128, 143⟩ else ⟨0, 0, 0⟩
def Form.may (f : Form) (i : Nat) (c : UInt8) : Bool := if i = 1 then decide (f.low ≤ c.toNat) && decide (c.toNat ≤ f.high) else decide (128 ≤ c.toNat) && decide (c.toNat ≤ 191)
/-- A byte behind what is held of a character; none: it is the wrong one. -/
def feedOne (held : List UInt8) (c : UInt8) : Option (List UInt8) := match held with
  | [] => if (formOf c).wide = 0 then none else if 1 < (formOf c).wide then some [c] else some []
  | h :: t => if (formOf h).may (h :: t).length c then (if (h :: t).length + 1 = (formOf h).wide then some [] else some ((h :: t) ++ [c])) else none
def feedAll (held : List UInt8) (l : List UInt8) : Option (List UInt8) := l.foldl (fun a c => a.bind fun h => feedOne h c) (some held)
def rightOf (l : List UInt8) : Bool := feedAll [] l == some []
/-- A character's form. -/
def runeBytes (r : Nat) : List UInt8 :=
  if r < 128 then [UInt8.ofNat r]
  else if r < 2048 then [UInt8.ofNat (192 + r / 64), UInt8.ofNat (128 + r % 64)]
  else if r < 65536 then [UInt8.ofNat (224 + r / 4096), UInt8.ofNat (128 + r / 64 % 64), UInt8.ofNat (128 + r % 64)]
  else [UInt8.ofNat (240 + r / 262144), UInt8.ofNat (128 + r / 4096 % 64), UInt8.ofNat (128 + r / 64 % 64), UInt8.ofNat (128 + r % 64)]

/-! ### lex -/
inductive St | outside | letter | numeral | within | escape | digit | slash | letterU
deriving DecidableEq
structure Lx where
  place : Nat
  st : St
  isIn : Bool
  start : Nat
  raw : List UInt8
  number : Nat
  held : List UInt8
  says : List UInt8
  digits : Nat
  code : Nat
  high : Nat
inductive Tok | mark (at_ : Nat) (sign : UInt8) | term (at_ size : Nat) (name : List UInt8) | num (at_ size bits : Nat) | str (at_ size : Nat) (text : List UInt8)

def numNext (s : Nat) (c : UInt8) : Option Nat :=
  if s = 0 ∧ c = 45 then some 1
  else if (s = 0 ∨ s = 1) ∧ c = 48 then some 2
  else if (s = 0 ∨ s = 1 ∨ s = 3) ∧ isD c then some 3
  else if (s = 2 ∨ s = 3) ∧ c = 46 then some 4
  else if (s = 4 ∨ s = 5) ∧ isD c then some 5
  else if (s = 2 ∨ s = 3 ∨ s = 5) ∧ (c = 101 ∨ c = 69) then some 6
  else if s = 6 ∧ (c = 43 ∨ c = 45) then some 7
  else if (s = 6 ∨ s = 7 ∨ s = 8) ∧ isD c then some 8 else none
def numEnds (s : Nat) : Bool := s = 2 || s = 3 || s = 5 || s = 8
def isBlank (c : UInt8) : Bool := c = 32 || c = 9 || c = 10 || c = 13
def isMark (c : UInt8) : Bool := c = 123 || c = 125 || c = 91 || c = 93 || c = 58 || c = 44
def wordOf (c : UInt8) : List UInt8 := if c = 110 then [110, 117, 108, 108] else if c = 116 then [116, 114, 117, 101] else if c = 102 then [102, 97, 108, 115, 101] else []
def saidOf (c : UInt8) : Option UInt8 :=
  if c = 34 ∨ c = 92 ∨ c = 47 then some c else if c = 98 then some 8 else if c = 102 then some 12 else if c = 110 then some 10 else if c = 114 then some 13 else if c = 116 then some 9 else none
def hexOf (c : UInt8) : Option Nat :=
  if 48 ≤ c.toNat ∧ c.toNat ≤ 57 then some (c.toNat - 48) else if 97 ≤ c.toNat ∧ c.toNat ≤ 102 then some (c.toNat - 87) else if 65 ≤ c.toNat ∧ c.toNat ≤ 70 then some (c.toNat - 55) else none

/-- A step's answer: the state behind it (its place not yet counted on), the tokens it told, the number of what is wrong (0: nothing). -/
structure LxOut where
  lx : Lx
  toks : List Tok
  no : Nat
def Lx.told (x : Lx) : Lx := { x with isIn := false, st := .outside }
/-- The bytes of a number: no number yet. -/
def numFirst (x : Lx) (c : UInt8) : LxOut := match numNext 0 c with
  | some s => ⟨{ x with st := .numeral, number := s, raw := [c] }, [], 0⟩
  | none => ⟨{ x with st := .numeral }, [], 94⟩
def outsideStep (x : Lx) (c : UInt8) : LxOut :=
  if isBlank c then ⟨x, [], 0⟩
  else
    let y : Lx := { x with isIn := true, start := x.place, raw := [], number := 0 }
    if isMark c then ⟨y.told, [.mark x.place c], 0⟩
    else if c = 34 then ⟨{ y with st := .within, held := [], says := [], digits := 0, code := 0, high := 0 }, [], 0⟩
    else if c = 45 ∨ isD c then numFirst y c
    else if wordOf c ≠ [] then ⟨{ y with st := .letter, raw := [c] }, [], 0⟩
    else ⟨y, [], 94⟩
def letterStep (x : Lx) (c : UInt8) : LxOut :=
  let name := wordOf (x.raw.headD 0)
  if name[x.raw.length]? = some c then
    (if x.raw.length + 1 = name.length then ⟨{ x with raw := x.raw ++ [c] }.told, [.term x.start (x.place + 1 - x.start) name], 0⟩ else ⟨{ x with raw := x.raw ++ [c] }, [], 0⟩)
  else ⟨x, [], 94⟩
/-- A number ends. -/
def Lx.finish (x : Lx) : Option (Lx × Tok) := (bitsOf x.raw).map fun b => (x.told, .num x.start (x.place - x.start) b)
def numeralStep (x : Lx) (c : UInt8) : LxOut := match numNext x.number c with
  | some s => ⟨{ x with number := s, raw := x.raw ++ [c] }, [], 0⟩
  | none => if numEnds x.number then (match x.finish with
      | none => ⟨x, [], 41⟩
      | some (y, t) => let r := outsideStep y c; ⟨r.lx, t :: r.toks, r.no⟩)
    else ⟨x, [], 94⟩
def withinStep (x : Lx) (c : UInt8) : LxOut :=
  if x.held = [] ∧ c = 34 then ⟨x.told, [.str x.start (x.place + 1 - x.start) x.says], 0⟩
  else if x.held = [] ∧ c = 92 then ⟨{ x with st := .escape }, [], 0⟩
  else if x.held = [] ∧ c.toNat < 32 then ⟨x, [], 91⟩
  else match feedOne x.held c with
    | none => ⟨x, [], 90⟩
    | some h => ⟨{ x with held := h, says := x.says ++ [c] }, [], 0⟩
def escapeStep (x : Lx) (c : UInt8) : LxOut :=
  if c = 117 then ⟨{ x with digits := 0, code := 0, st := .digit }, [], 0⟩
  else match saidOf c with
    | none => ⟨x, [], 92⟩
    | some b => ⟨{ x with says := x.says ++ [b], st := .within }, [], 0⟩
def Lx.lone (x : Lx) (v : Nat) : Bool :=
  if x.high ≠ 0 ∧ x.digits = 0 then v ≠ 13 else if x.high ≠ 0 ∧ x.digits = 1 then v < 12 else x.high = 0 && x.digits = 1 && x.code = 13 && 12 ≤ v
def Lx.whole (x : Lx) : Lx :=
  if x.high ≠ 0 then { x with high := 0, says := x.says ++ runeBytes (65536 + (x.high - 55296) * 1024 + x.code - 56320), st := .within }
  else if 55296 ≤ x.code ∧ x.code ≤ 56319 then { x with high := x.code, st := .slash }
  else { x with says := x.says ++ runeBytes x.code, st := .within }
def digitStep (x : Lx) (c : UInt8) : LxOut := match hexOf c with
  | none => ⟨x, [], if x.high = 0 then 92 else 93⟩
  | some v => if x.lone v then ⟨x, [], 93⟩
    else
      let y : Lx := { x with code := x.code * 16 + v, digits := x.digits + 1 }
      ⟨if x.digits + 1 = 4 then y.whole else y, [], 0⟩
def slashStep (x : Lx) (c : UInt8) : LxOut := if c = 92 then ⟨{ x with st := .letterU }, [], 0⟩ else ⟨x, [], 93⟩
def letterUStep (x : Lx) (c : UInt8) : LxOut := if c = 117 then ⟨{ x with digits := 0, code := 0, st := .digit }, [], 0⟩ else ⟨x, [], 93⟩
def Lx.step (x : Lx) (c : UInt8) : LxOut := match x.st with
  | .outside => outsideStep x c
  | .letter => letterStep x c
  | .numeral => numeralStep x c
  | .within => withinStep x c
  | .escape => escapeStep x c
  | .digit => digitStep x c
  | .slash => slashStep x c
  | .letterU => letterUStep x c
/-- A byte is taken: the state, the tokens told, and what is wrong: its number (0: nothing), its place. -/
def Lx.take (x : Lx) (c : UInt8) : Lx × List Tok × Nat × Nat :=
  if x.place = 16777216 then (x, [], 3, x.place)
  else
    let r := x.step c
    if r.no = 0 then ({ r.lx with place := x.place + 1 }, r.toks, 0, 0) else (r.lx, r.toks, r.no, if r.no = 41 then r.lx.start else x.place)
/-- No more come. -/
def Lx.ended (x : Lx) : Lx × List Tok × Nat × Nat :=
  if x.isIn = false then (x, [], 0, 0)
  else if numEnds x.number = false then (x, [], 95, x.place)
  else match x.finish with
    | none => (x, [], 41, x.start)
    | some (y, t) => (y, [t], 0, 0)
def Lx.new : Lx := ⟨0, .outside, false, 0, [], 0, [], [], 0, 0, 0⟩
end Go.Proofs.YtakkmiomhackiaaGreatDoor

/-
  Package utf, first part: formOf, may.
-/
namespace Go.Proofs.YtakkmiomhackiaaGreatDoor
open Go.RowKit
set_option maxRecDepth 100000

def formV (f : Form) : Value := .agg #[.int .i64 f.wide, .int .u8 f.low, .int .u8 f.high]

set_option maxHeartbeats 4000000 in
theorem formOf_any (c : UInt8) (w : World) : Calls Tryz.prog 205 #[.int .u8 ((c.toNat : Nat) : Int)] w fun e w' => e = .returned (formV (formOf c)) ∧ Below w.heap.size w w' := by
  have hb := Lib.hid (fun v : Array Value => (Below.refl w.heap.size w).alloc (Nat.le_refl _) (.cells v 349))
  by_cases h0 : c.toNat < 128
  · have hf : formOf c = ⟨1, 0, 0⟩ := by unfold formOf; rw [if_pos h0]
    have HF := Lib.hid hf
    clear hf
    have f0 : ((c.toNat : Nat) : Int) < 128 := by omega
    clear h0
    go_enter Tryz.func205, Tryz.ntmps205
    go_wp2
    exact bodyPost_ret (v := formV ⟨1, 0, 0⟩) (by simp [results, Tryz.results205, go_sem, formV]) rfl ⟨by rw [HF.out], hb.out _⟩
  · skip
    by_cases h1 : c.toNat < 194
    · have hf : formOf c = ⟨0, 0, 0⟩ := by unfold formOf; rw [if_neg h0, if_pos h1]
      have HF := Lib.hid hf
      clear hf
      have f0 : ¬ ((c.toNat : Nat) : Int) < 128 := by omega
      have f1 : ((c.toNat : Nat) : Int) < 194 := by omega
      clear h0 h1
      go_enter Tryz.func205, Tryz.ntmps205
      go_wp2
      exact bodyPost_ret (v := formV ⟨0, 0, 0⟩) (by simp [results, Tryz.results205, go_sem, formV]) rfl ⟨by rw [HF.out], hb.out _⟩
    · skip
      by_cases h2 : c.toNat < 224
      · have hf : formOf c = ⟨2, 128, 191⟩ := by unfold formOf; rw [if_neg h0, if_neg h1, if_pos h2]
        have HF := Lib.hid hf
        clear hf
        have f0 : ¬ ((c.toNat : Nat) : Int) < 128 := by omega
        have f1 : ¬ ((c.toNat : Nat) : Int) < 194 := by omega
        have f2 : ((c.toNat : Nat) : Int) < 224 := by omega
        clear h0 h1 h2
        go_enter Tryz.func205, Tryz.ntmps205
        go_wp2
        exact bodyPost_ret (v := formV ⟨2, 128, 191⟩) (by simp [results, Tryz.results205, go_sem, formV]) rfl ⟨by rw [HF.out], hb.out _⟩
      · skip
        by_cases h3 : c.toNat = 224
        · have hf : formOf c = ⟨3, 160, 191⟩ := by unfold formOf; rw [if_neg h0, if_neg h1, if_neg h2, if_pos h3]
          have HF := Lib.hid hf
          clear hf
          have f0 : ¬ ((c.toNat : Nat) : Int) < 128 := by omega
          have f1 : ¬ ((c.toNat : Nat) : Int) < 194 := by omega
          have f2 : ¬ ((c.toNat : Nat) : Int) < 224 := by omega
          have f3 : ((c.toNat : Nat) : Int) = 224 := by omega
          clear h0 h1 h2 h3
          go_enter Tryz.func205, Tryz.ntmps205
          go_wp2
          exact bodyPost_ret (v := formV ⟨3, 160, 191⟩) (by simp [results, Tryz.results205, go_sem, formV]) rfl ⟨by rw [HF.out], hb.out _⟩
        · skip
          by_cases h4 : c.toNat = 237
          · have hf : formOf c = ⟨3, 128, 159⟩ := by unfold formOf; rw [if_neg h0, if_neg h1, if_neg h2, if_neg h3, if_pos h4]
            have HF := Lib.hid hf
            clear hf
            have f0 : ¬ ((c.toNat : Nat) : Int) < 128 := by omega
            have f1 : ¬ ((c.toNat : Nat) : Int) < 194 := by omega
            have f2 : ¬ ((c.toNat : Nat) : Int) < 224 := by omega
            have f3 : ¬ ((c.toNat : Nat) : Int) = 224 := by omega
            have e3 : (((c.toNat : Nat) : Int) == 224) = false := by simpa using f3
            have f4 : ((c.toNat : Nat) : Int) = 237 := by omega
            clear h0 h1 h2 h3 h4
            go_enter Tryz.func205, Tryz.ntmps205
            go_wp2
            exact bodyPost_ret (v := formV ⟨3, 128, 159⟩) (by simp [results, Tryz.results205, go_sem, formV]) rfl ⟨by rw [HF.out], hb.out _⟩
          · skip
            by_cases h5 : c.toNat < 240
            · have hf : formOf c = ⟨3, 128, 191⟩ := by unfold formOf; rw [if_neg h0, if_neg h1, if_neg h2, if_neg h3, if_neg h4, if_pos h5]
              have HF := Lib.hid hf
              clear hf
              have f0 : ¬ ((c.toNat : Nat) : Int) < 128 := by omega
              have f1 : ¬ ((c.toNat : Nat) : Int) < 194 := by omega
              have f2 : ¬ ((c.toNat : Nat) : Int) < 224 := by omega
              have f3 : ¬ ((c.toNat : Nat) : Int) = 224 := by omega
              have e3 : (((c.toNat : Nat) : Int) == 224) = false := by simpa using f3
              have f4 : ¬ ((c.toNat : Nat) : Int) = 237 := by omega
              have e4 : (((c.toNat : Nat) : Int) == 237) = false := by simpa using f4
              have f5 : ((c.toNat : Nat) : Int) < 240 := by omega
              clear h0 h1 h2 h3 h4 h5
              go_enter Tryz.func205, Tryz.ntmps205
              go_wp2
              exact bodyPost_ret (v := formV ⟨3, 128, 191⟩) (by simp [results, Tryz.results205, go_sem, formV]) rfl ⟨by rw [HF.out], hb.out _⟩
            · skip
              by_cases h6 : c.toNat = 240
              · have hf : formOf c = ⟨4, 144, 191⟩ := by unfold formOf; rw [if_neg h0, if_neg h1, if_neg h2, if_neg h3, if_neg h4, if_neg h5, if_pos h6]
                have HF := Lib.hid hf
                clear hf
                have f0 : ¬ ((c.toNat : Nat) : Int) < 128 := by omega
                have f1 : ¬ ((c.toNat : Nat) : Int) < 194 := by omega
                have f2 : ¬ ((c.toNat : Nat) : Int) < 224 := by omega
                have f3 : ¬ ((c.toNat : Nat) : Int) = 224 := by omega
                have e3 : (((c.toNat : Nat) : Int) == 224) = false := by simpa using f3
                have f4 : ¬ ((c.toNat : Nat) : Int) = 237 := by omega
                have e4 : (((c.toNat : Nat) : Int) == 237) = false := by simpa using f4
                have f5 : ¬ ((c.toNat : Nat) : Int) < 240 := by omega
                have f6 : ((c.toNat : Nat) : Int) = 240 := by omega
                clear h0 h1 h2 h3 h4 h5 h6
                go_enter Tryz.func205, Tryz.ntmps205
                go_wp2
                exact bodyPost_ret (v := formV ⟨4, 144, 191⟩) (by simp [results, Tryz.results205, go_sem, formV]) rfl ⟨by rw [HF.out], hb.out _⟩
              · skip
                by_cases h7 : c.toNat < 244
                · have hf : formOf c = ⟨4, 128, 191⟩ := by unfold formOf; rw [if_neg h0, if_neg h1, if_neg h2, if_neg h3, if_neg h4, if_neg h5, if_neg h6, if_pos h7]
                  have HF := Lib.hid hf
                  clear hf
                  have f0 : ¬ ((c.toNat : Nat) : Int) < 128 := by omega
                  have f1 : ¬ ((c.toNat : Nat) : Int) < 194 := by omega
                  have f2 : ¬ ((c.toNat : Nat) : Int) < 224 := by omega
                  have f3 : ¬ ((c.toNat : Nat) : Int) = 224 := by omega
                  have e3 : (((c.toNat : Nat) : Int) == 224) = false := by simpa using f3
                  have f4 : ¬ ((c.toNat : Nat) : Int) = 237 := by omega
                  have e4 : (((c.toNat : Nat) : Int) == 237) = false := by simpa using f4
                  have f5 : ¬ ((c.toNat : Nat) : Int) < 240 := by omega
                  have f6 : ¬ ((c.toNat : Nat) : Int) = 240 := by omega
                  have e6 : (((c.toNat : Nat) : Int) == 240) = false := by simpa using f6
                  have f7 : ((c.toNat : Nat) : Int) < 244 := by omega
                  clear h0 h1 h2 h3 h4 h5 h6 h7
                  go_enter Tryz.func205, Tryz.ntmps205
                  go_wp2
                  exact bodyPost_ret (v := formV ⟨4, 128, 191⟩) (by simp [results, Tryz.results205, go_sem, formV]) rfl ⟨by rw [HF.out], hb.out _⟩
                · skip
                  by_cases h8 : c.toNat = 244
                  · have hf : formOf c = ⟨4, 128, 143⟩ := by unfold formOf; rw [if_neg h0, if_neg h1, if_neg h2, if_neg h3, if_neg h4, if_neg h5, if_neg h6, if_neg h7, if_pos h8]
                    have HF := Lib.hid hf
                    clear hf
                    have f0 : ¬ ((c.toNat : Nat) : Int) < 128 := by omega
                    have f1 : ¬ ((c.toNat : Nat) : Int) < 194 := by omega
                    have f2 : ¬ ((c.toNat : Nat) : Int) < 224 := by omega
                    have f3 : ¬ ((c.toNat : Nat) : Int) = 224 := by omega
                    have e3 : (((c.toNat : Nat) : Int) == 224) = false := by simpa using f3
                    have f4 : ¬ ((c.toNat : Nat) : Int) = 237 := by omega
                    have e4 : (((c.toNat : Nat) : Int) == 237) = false := by simpa using f4
                    have f5 : ¬ ((c.toNat : Nat) : Int) < 240 := by omega
                    have f6 : ¬ ((c.toNat : Nat) : Int) = 240 := by omega
                    have e6 : (((c.toNat : Nat) : Int) == 240) = false := by simpa using f6
                    have f7 : ¬ ((c.toNat : Nat) : Int) < 244 := by omega
                    have f8 : ((c.toNat : Nat) : Int) = 244 := by omega
                    clear h0 h1 h2 h3 h4 h5 h6 h7 h8
                    go_enter Tryz.func205, Tryz.ntmps205
                    go_wp2
                    exact bodyPost_ret (v := formV ⟨4, 128, 143⟩) (by simp [results, Tryz.results205, go_sem, formV]) rfl ⟨by rw [HF.out], hb.out _⟩
                  · skip
                    have hf : formOf c = ⟨0, 0, 0⟩ := by unfold formOf; rw [if_neg h0, if_neg h1, if_neg h2, if_neg h3, if_neg h4, if_neg h5, if_neg h6, if_neg h7, if_neg h8]
                    have HF := Lib.hid hf
                    clear hf
                    have f0 : ¬ ((c.toNat : Nat) : Int) < 128 := by omega
                    have f1 : ¬ ((c.toNat : Nat) : Int) < 194 := by omega
                    have f2 : ¬ ((c.toNat : Nat) : Int) < 224 := by omega
                    have f3 : ¬ ((c.toNat : Nat) : Int) = 224 := by omega
                    have e3 : (((c.toNat : Nat) : Int) == 224) = false := by simpa using f3
                    have f4 : ¬ ((c.toNat : Nat) : Int) = 237 := by omega
                    have e4 : (((c.toNat : Nat) : Int) == 237) = false := by simpa using f4
                    have f5 : ¬ ((c.toNat : Nat) : Int) < 240 := by omega
                    have f6 : ¬ ((c.toNat : Nat) : Int) = 240 := by omega
                    have e6 : (((c.toNat : Nat) : Int) == 240) = false := by simpa using f6
                    have f7 : ¬ ((c.toNat : Nat) : Int) < 244 := by omega
                    have f8 : ¬ ((c.toNat : Nat) : Int) = 244 := by omega
                    have e8 : (((c.toNat : Nat) : Int) == 244) = false := by simpa using f8
                    clear h0 h1 h2 h3 h4 h5 h6 h7 h8
                    go_enter Tryz.func205, Tryz.ntmps205
                    go_wp2
                    exact bodyPost_ret (v := formV ⟨0, 0, 0⟩) (by simp [results, Tryz.results205, go_sem, formV]) rfl ⟨by rw [HF.out], hb.out _⟩

set_option maxHeartbeats 1000000 in
theorem may_any (f : Form) (i : Nat) (c : UInt8) (w : World) : Calls Tryz.prog 206 #[formV f, .int .i64 i, .int .u8 ((c.toNat : Nat) : Int)] w fun e w' => e = .returned (.bool (f.may i c)) ∧ Below w.heap.size w w' := by
  obtain ⟨wd, lo, hi⟩ := f
  have hb := Lib.hid (fun v : Array Value => (Below.refl w.heap.size w).alloc (Nat.le_refl _) (.cells v 349))
  unfold formV
  by_cases hi1 : i = 1
  · subst hi1
    have hm : (Form.mk wd lo hi).may 1 c = (decide (lo ≤ c.toNat) && decide (c.toNat ≤ hi)) := rfl
    have HM := Lib.hid hm
    clear hm
    by_cases h1 : lo ≤ c.toNat
    · have f1 : (lo : Int) ≤ ((c.toNat : Nat) : Int) := by omega
      by_cases h2 : c.toNat ≤ hi
      · have f2 : ((c.toNat : Nat) : Int) ≤ (hi : Int) := by omega
        have hv : (decide (lo ≤ c.toNat) && decide (c.toNat ≤ hi)) = true := by simp [h1, h2]
        have HV := Lib.hid hv
        clear h1 h2 hv
        go_enter Tryz.func206, Tryz.ntmps206
        go_wp2
        exact bodyPost_ret (v := .bool true) (by simp [results, Tryz.results206, go_sem]) rfl ⟨by rw [HM.out, HV.out], hb.out _⟩
      · have f2 : ¬ ((c.toNat : Nat) : Int) ≤ (hi : Int) := by omega
        have hv : (decide (lo ≤ c.toNat) && decide (c.toNat ≤ hi)) = false := by simp [h2]
        have HV := Lib.hid hv
        clear h1 h2 hv
        go_enter Tryz.func206, Tryz.ntmps206
        go_wp2
        exact bodyPost_ret (v := .bool false) (by simp [results, Tryz.results206, go_sem]) rfl ⟨by rw [HM.out, HV.out], hb.out _⟩
    · have f1 : ¬ (lo : Int) ≤ ((c.toNat : Nat) : Int) := by omega
      have hv : (decide (lo ≤ c.toNat) && decide (c.toNat ≤ hi)) = false := by simp [h1]
      have HV := Lib.hid hv
      clear h1 hv
      go_enter Tryz.func206, Tryz.ntmps206
      go_wp2
      exact bodyPost_ret (v := .bool false) (by simp [results, Tryz.results206, go_sem]) rfl ⟨by rw [HM.out, HV.out], hb.out _⟩
  · have g1 : ¬ (i : Int) = 1 := by omega
    have g2 : ((i : Int) == 1) = false := by simpa using g1
    have hm : (Form.mk wd lo hi).may i c = (decide (128 ≤ c.toNat) && decide (c.toNat ≤ 191)) := if_neg hi1
    have HM := Lib.hid hm
    clear hm hi1
    by_cases h1 : 128 ≤ c.toNat
    · have f1 : (128 : Int) ≤ ((c.toNat : Nat) : Int) := by omega
      by_cases h2 : c.toNat ≤ 191
      · have f2 : ((c.toNat : Nat) : Int) ≤ (191 : Int) := by omega
        have hv : (decide (128 ≤ c.toNat) && decide (c.toNat ≤ 191)) = true := by simp [h1, h2]
        have HV := Lib.hid hv
        clear h1 h2 hv
        go_enter Tryz.func206, Tryz.ntmps206
        go_wp2
        exact bodyPost_ret (v := .bool true) (by simp [results, Tryz.results206, go_sem]) rfl ⟨by rw [HM.out, HV.out], hb.out _⟩
      · have f2 : ¬ ((c.toNat : Nat) : Int) ≤ (191 : Int) := by omega
        have hv : (decide (128 ≤ c.toNat) && decide (c.toNat ≤ 191)) = false := by simp [h2]
        have HV := Lib.hid hv
        clear h1 h2 hv
        go_enter Tryz.func206, Tryz.ntmps206
        go_wp2
        exact bodyPost_ret (v := .bool false) (by simp [results, Tryz.results206, go_sem]) rfl ⟨by rw [HM.out, HV.out], hb.out _⟩
    · have f1 : ¬ (128 : Int) ≤ ((c.toNat : Nat) : Int) := by omega
      have hv : (decide (128 ≤ c.toNat) && decide (c.toNat ≤ 191)) = false := by simp [h1]
      have HV := Lib.hid hv
      clear h1 hv
      go_enter Tryz.func206, Tryz.ntmps206
      go_wp2
      exact bodyPost_ret (v := .bool false) (by simp [results, Tryz.results206, go_sem]) rfl ⟨by rw [HM.out, HV.out], hb.out _⟩
end Go.Proofs.YtakkmiomhackiaaGreatDoor
