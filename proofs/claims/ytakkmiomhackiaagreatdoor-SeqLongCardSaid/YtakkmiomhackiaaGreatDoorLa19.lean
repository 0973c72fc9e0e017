/-
  Several texts in one, each under its own head. Conditions: none.
-/
import Derived.RangeFuncNested
import Derived.RangeFuncBound
import Derived.RangeFuncCalls
import Derived.RangeFuncLeaves
import Derived.Test.YtakkmiomhackiaaGreatDoorLa02
import Derived.Test.YtakkmiomhackiaaGreatDoorLa18
import Derived.Shelf.Abstract
import Derived.OwnWalkIn
import Derived.TacticsInMore
import Derived.RegionIn
import Derived.LoopNIn
import Derived.LoopIn
import Derived.Test.YtakkmiomhackiaaGreatDoorLa16
import Derived.Lib.SlBytesConst
import Derived.Lib.MakeNoZero
import Derived.Laws.CopyOwn
import Derived.Deep.RegionLaw
set_option linter.all false

/-
  A range over a function whose iterator keeps a reader of its own in memory: what the two sides promise each other, and the statement's law over it. No program in sight but its table.
-/
namespace Go.Proofs.YtakkmiomhackiaaGreatDoor
open Go.RowKit
set_option maxRecDepth 100000

/-- A block of one of the three types that a reader writes. -/
def RdT (w : World) (k : Nat) : Prop := ∃ c T, w.heap[k]? = some (Obj.cells c T (0, 0)) ∧ (T = 159 ∨ T = 5 ∨ T = 162)
/-- A block that holds no cells. -/
def Odd (w : World) (k : Nat) : Prop := ∃ o : Obj, w.heap[k]? = some o ∧ o.isCells = false
/-- J does not mind that blocks of a reader turn, from B on. -/
def Minds (B : Nat) (J : World → Prop) : Prop := ∀ A C, J A → Keeps (fun k => B ≤ k ∧ RdT A k) A C → J C
/-- J minds neither these nor blocks without cells, from B on. -/
def Minds2 (B : Nat) (J : World → Prop) : Prop := ∀ A C, J A → Keeps (fun k => B ≤ k ∧ (RdT A k ∨ Odd A k)) A C → J C
theorem Minds2.minds {B : Nat} {J : World → Prop} (h : Minds2 B J) : Minds B J := fun A C hj hk => h A C hj (hk.mono fun _ h => ⟨h.1, .inl h.2⟩)
theorem keeps_putObj {F : Nat → Prop} {w : World} {l : Nat} (o : Obj) (h : F l) : Keeps F w (w.putObj l o) :=
  ⟨rfl, rfl, rfl, by simp, fun k _ hk => World.putObj_heap_other (fun e => hk (by rw [e]; exact h))⟩
theorem Minds2.put {B : Nat} {J : World → Prop} (h : Minds2 B J) {w : World} {l : Nat} {o : Obj} (o' : Obj) (hj : J w) (hB : B ≤ l) (hl : w.heap[l]? = some o) (ho : o.isCells = false) : J (w.putObj l o') :=
  h _ _ hj (keeps_putObj o' ⟨hB, .inr ⟨o, hl, ho⟩⟩)
theorem Minds2.alloc {B : Nat} {J : World → Prop} (h : Minds2 B J) {w : World} (o : Obj) (hj : J w) : J (w.alloc o) := h _ _ hj ((Keeps.refl _ w).alloc o)
/-- What a round leaves to the iterator: the blocks of the types of a reader and its records lie as they lay. -/
structure Stays (w w' : World) : Prop where
  os : w'.os = w.os
  tape : w'.tape = w.tape
  output : w'.output = w.output
  size : w.heap.size ≤ w'.heap.size
  block : ∀ (k : Nat) (c : Array Value) (T : TypeId), w.heap[k]? = some (Obj.cells c T (0, 0)) → (T = 159 ∨ T = 5 ∨ T = 162 ∨ T = 176) → w'.heap[k]? = some (Obj.cells c T (0, 0))
/-- Blocks of none of these types. -/
def Else (w : World) (k : Nat) : Prop := ¬ ∃ c T, w.heap[k]? = some (Obj.cells c T (0, 0)) ∧ (T = 159 ∨ T = 5 ∨ T = 162 ∨ T = 176)
theorem Stays.refl (w : World) : Stays w w := ⟨rfl, rfl, rfl, Nat.le_refl _, fun _ _ _ h _ => h⟩
theorem Stays.trans {a b c : World} (h : Stays a b) (k : Stays b c) : Stays a c :=
  ⟨k.os.trans h.os, k.tape.trans h.tape, k.output.trans h.output, Nat.le_trans h.size k.size, fun i x T hi hT => k.block i x T (h.block i x T hi hT) hT⟩
theorem Stays.of_keeps {F : Nat → Prop} {w w' : World} (h : Keeps F w w') (hF : ∀ k, F k → Else w k) : Stays w w' :=
  ⟨h.os, h.tape, h.output, h.size, fun k c T hk hT => h.blk hk (fun hf => hF k hf ⟨c, T, hk, hT⟩)⟩
theorem Stays.keeps {w w' : World} (h : Stays w w') : Keeps (Else w) w w' :=
  ⟨h.os, h.tape, h.output, h.size, fun k hk hF => by
    have : ∃ c T, w.heap[k]? = some (Obj.cells c T (0, 0)) ∧ (T = 159 ∨ T = 5 ∨ T = 162 ∨ T = 176) := Classical.not_not.1 hF
    obtain ⟨c, T, h1, h2⟩ := this
    rw [h.block k c T h1 h2, h1]⟩
theorem Stays.put {w : World} {l : Nat} {o : Obj} (o' : Obj) (hl : w.heap[l]? = some o) (ho : o.isCells = false) : Stays w (w.putObj l o') :=
  Stays.of_keeps (F := fun k => k = l) (keeps_putObj o' rfl) (fun k e => by subst e; rintro ⟨c, T, h, _⟩; rw [hl] at h; cases h; simp [Obj.isCells] at ho)

/-- An iterator: at every loop body that goes on it hands out the elements S speaks of, each as R says of it. -/
def SeqW {α : Type} (n : Nat) (P : Program) (g : Nat) (lb : Array Value) (encs : α → Array Value) (R : Nat → α → World → Prop) (S : List α → Prop) (w : World) : Prop :=
  ∀ (l : Nat) (J : List α → World → Prop) (W : World), Below w.heap.size w W → (∀ pre, Minds W.heap.size (J pre)) →
    (∀ pre x W1, J pre W1 → R pre.length x W1 → YieldAt Fence.wide (n - 1) P l (encs x) W1 fun e W' => e = .returned (.bool true) ∧ J (pre ++ [x]) W' ∧ Stays W1 W') →
    J [] W → CallsIn Fence.wide n P g (#[.func (.yield l) #[] #[]] ++ lb) W fun e W' => (∃ v, e = .returned v) ∧ ∃ xs, S xs ∧ J xs W'
/-- How a round's body ends. -/
def roundEnd {α : Type} (I : List α → World → Prop) (xs : List α) (W : World) : Exit → Act → World → Prop
  | .normal, _, W' => KeepsOthers W W' ∧ Stays W W' ∧ I xs W'
  | _, _, _ => False

/-- The statement, over such an iterator. -/
theorem range_law {α : Type} {P : Program} {n : Nat} {g : Operand} {ps : Array Tmp} {assign body : Code} {Q : Exit → Act → World → Prop} {a : Act} {w : World} {gf : Nat} {lb : Array Value}
    (hg : a.eval g = .func (.func gf) #[] lb) (eg : ∀ args w, (callFunc gf args).run P w = .ok (.enter gf args) w) {encs : α → Array Value} {R : Nat → α → World → Prop} {S : List α → Prop} {w0 : World}
    (hseq : SeqW (n - 1) P gf lb encs R S w0) (hb0 : Below w0.heap.size w0 w) (hps : ∀ x, (encs x).size = ps.size) (I : List α → World → Prop) (hI : ∀ pre, Minds2 w.heap.size (I pre)) (h0 : I [] w)
    (Ax : List α → α → Act → World → Prop) (hAx : ∀ pre x a1, Minds2 w.heap.size (Ax pre x a1))
    (hassign : ∀ (l : Nat) (pre : List α) (x : α) (W : World) (K : Act → World → Prop), I pre W → R pre.length x W → (∀ a1 W1, KeepsOthers W W1 → Stays W W1 → Ax pre x a1 W1 → K a1 W1) →
      assign.wpIn (Fence.wide.inRound l) (n - 1 - 1) P (Exit.then K (fun _ _ _ => False)) { tmps := (ps.zip (encs x)).foldl (fun t (p, v) => t.setIfInBounds p v) a.tmps, defers := [] } W)
    (hbody : ∀ (l : Nat) (pre : List α) (x : α) (a1 : Act) (W : World), Ax pre x a1 W → body.wpIn (Fence.wide.inRound l) (n - 1 - 1) P (roundEnd I (pre ++ [x]) W) a1 W)
    (hdone : ∀ (D : Nat) (xs : List α) (W : World), w.heap.size ≤ D → S xs → I xs W → W.heap[D]? = some (.deferred (some [])) → Q .normal { a with defers := { target := .collected D, args := #[] } :: a.defers } W) :
    (Code.rangeFunc g ps assign body).wpIn Fence.wide n P Q a w := by
  apply wpIn_rangeFunc
  intro fn _
  let lp : LoopState → Loop := fun st => { state := st, pending := none, fn := fn, tmps := a.tmps, params := ps, assign := assign, body := body, defers := w.heap.size }
  obtain ⟨D, hD⟩ : ∃ D, w.heap.size = D := ⟨_, rfl⟩
  obtain ⟨W1, hW1⟩ : ∃ W1, (w.alloc (.deferred (some []))).alloc (.loop (lp .ready)) = W1 := ⟨_, rfl⟩
  have hrec : W1.heap[D + 1]? = some (.loop (lp .ready)) := by
    have h := World.alloc_heap_new (w.alloc (.deferred (some []))) (.loop (lp .ready))
    rw [World.size_alloc, hW1, hD] at h
    exact h
  have hdef : W1.heap[D]? = some (.deferred (some [])) := by
    rw [← hW1, ← hD]
    exact (Below.heap_alloc _ _ _ (by simp)).trans (World.alloc_heap_new w _)
  have hkw : Keeps (fun _ => False) w W1 := by rw [← hW1]; exact ((Keeps.refl _ w).alloc _).alloc _
  have hi1 : I [] W1 := hI [] _ _ h0 (hkw.mono fun _ h => h.elim)
  have hlow : Below w0.heap.size w0 W1 := hb0.trans (hkw.toBelow hb0.size (fun _ h => h.elim))
  refine ⟨D + 1, [{ target := .collected D, args := #[] }], W1, { target := .fn (.func gf) lb, args := #[.func (.yield (D + 1)) #[] #[]] }, W1, gf, #[.func (.yield (D + 1)) #[] #[]] ++ lb, W1, ?_, ?_, fun _ _ => trivial, ?_, fun h => (by cases h), ?_⟩
  · rw [← hW1, ← hD]
    exact run_enterLoop_outer _ _ _ _ _
  · simp only [resolve, hg]
    simp [go_sem]
  · simp [invoke, go_sem, eg]
  -- the iterator, at the caller's invariant and the two blocks of the loop
  refine (hseq (D + 1) (fun pre W => I pre W ∧ W.heap[D + 1]? = some (.loop (lp .ready)) ∧ W.heap[D]? = some (.deferred (some []))) W1 hlow ?_ ?_ ⟨hi1, hrec, hdef⟩).mono ?_
  · rintro pre A C ⟨h1, h2, h3⟩ hk
    have hle : D ≤ W1.heap.size := by rw [← hD]; exact hkw.size
    refine ⟨(hI pre).minds A C h1 (hk.mono fun k h => ⟨by omega, h.2⟩), hk.blk h2 ?_, hk.blk h3 ?_⟩
    · rintro ⟨_, c, T, h, _⟩; rw [h2] at h; cases h
    · rintro ⟨_, c, T, h, _⟩; rw [h3] at h; cases h
  · rintro pre x W ⟨hi, hl, hd⟩ hx
    refine ⟨fn, _, assign, body, run_yield (P := P) (args := encs x) hl (hps x), roundIn_of_wpIn trivial (hassign _ pre x W _ hi hx ?_)⟩
    intro a1 V1 ho1 hr1 hax
    have hl1 := ho1.same _ _ hl rfl
    have hd1 := ho1.same _ _ hd rfl
    have hlt1 : D + 1 < V1.heap.size := lt_of_block hl1
    refine ⟨_, run_beginRound hl1 rfl, ?_⟩
    obtain ⟨V2, hV2⟩ : ∃ V2, V1.putObj (D + 1) (.loop (lp .busy)) = V2 := ⟨_, rfl⟩
    have hax2 : Ax pre x a1 V2 := by rw [← hV2]; exact (hAx pre x a1).put _ hax (by omega) hl1 rfl
    have hl2 : V2.heap[D + 1]? = some (.loop (lp .busy)) := by rw [← hV2]; exact World.putObj_heap_same hlt1
    have hd2 : V2.heap[D]? = some (.deferred (some [])) := by rw [← hV2]; exact (World.putObj_heap_other (by omega)).trans hd1
    have hr2 : Stays V1 V2 := by rw [← hV2]; exact Stays.put _ hl1 rfl
    show body.wpIn (Fence.wide.inRound (D + 1)) (n - 1 - 1) P _ a1 (V1.putObj (D + 1) (.loop (lp .busy)))
    rw [hV2]
    refine wpIn_mono (hbody (D + 1) pre x a1 V2 hax2) ?_
    intro e a3 V3 he
    cases e with
    | normal =>
      obtain ⟨ho3, hr3, hi3⟩ := he
      have hl3 := ho3.same _ _ hl2 rfl
      have hd3 := ho3.same _ _ hd2 rfl
      refine ⟨_, _, run_endRound (P := P) none hl3, rfl, ⟨(hI _).put _ hi3 (by omega) hl3 rfl, World.putObj_heap_same (lt_of_block hl3), (World.putObj_heap_other (by omega)).trans hd3⟩, ((hr1.trans hr2).trans hr3).trans (Stays.put _ hl3 rfl)⟩
    | ret => exact he.elim
    | exit id => exact he.elim
    | goto t => exact he.elim
    | panic ch => exact he.elim
    | outgrown => exact he.elim
  · rintro e V ⟨⟨v, rfl⟩, xs, hS, hi, hl, hd⟩
    refine ⟨none, _, run_endLoop (P := P) hl (by simp [lp]), ?_⟩
    have := hdone D xs _ (Nat.le_of_eq hD) hS ((hI xs).put (.loop (lp .exhausted)) hi (by omega) hl rfl) ((World.putObj_heap_other (by omega)).trans hd)
    exact this
end Go.Proofs.YtakkmiomhackiaaGreatDoor

/-
  Package seq, All's iterator: it hands out the records of its row, one by one, to every loop body that goes on.
-/
namespace Go.Proofs.YtakkmiomhackiaaGreatDoor
open Go.RowKit Go.Shelf
set_option maxRecDepth 100000
attribute [local go_sem] Oper.semAt_some

/-- A record as it is handed out. -/
structure Rec where
  q : Option Addr
  e : Value
  it : Except (Nat × Nat) Tr
def recEnc (x : Rec) : Array Value := #[.pointer x.q, x.e]
/-- It is the k-th of them. -/
def RecIs (recs : List (Except (Nat × Nat) Tr)) (k : Nat) (x : Rec) (w : World) : Prop := recs[k]? = some x.it ∧ RecAt w (.pointer x.q) x.e x.it
theorem RecAt.shape {w : World} {a b : Value} {rc : Except (Nat × Nat) Tr} (h : RecAt w a b rc) : ∃ q, a = .pointer q ∧ (b = .nilIface ∨ ∃ T v, b = .iface T v) := by
  cases rc with
  | error er => obtain ⟨h1, h2⟩ := h; exact ⟨_, h1, .inr ⟨_, _, h2⟩⟩
  | ok t => obtain ⟨h1, T, v, h2, _⟩ := h; exact ⟨_, h2, .inl h1⟩
/-- Of the blocks those of a reader's types alone. -/
theorem RdAt.slim {F : Nat → Prop} {w : World} {r : Nat} {x : Rd} {d : Bool} (h : RdAt F w r x d) : RdAt (fun k => F k ∧ RdT w k) w r x d := by
  obtain ⟨hF, hlt, openV, recV, cs, hbk, hw, hwF, hr, hrF, hrecs⟩ := h
  refine ⟨⟨hF, _, _, hbk, .inl rfl⟩, fun k h => hlt k h.1, openV, recV, cs, hbk, hw, fun k hk => ⟨hwF k hk, ?_⟩, hr, fun k hk => ⟨hrF k hk, ?_⟩, hrecs⟩
  · rcases hw.2 with ⟨rfl, _⟩ | ⟨g, off, cap, cur, rfl, hg, _⟩
    · cases hk
    · cases hk; exact ⟨_, _, hg, .inr (.inl rfl)⟩
  · rcases hr.2 with ⟨rfl, _⟩ | ⟨g, off, cap, cur, rfl, hg, _⟩
    · cases hk
    · cases hk; exact ⟨_, _, hg, .inr (.inr rfl)⟩
/-- What a round leaves leaves the reader. -/
theorem RecAt.stays {w w' : World} {a b : Value} {rc : Except (Nat × Nat) Tr} (h : RecAt w a b rc) (hk : Stays w w') : RecAt w' a b rc :=
  h.keeps hk.keeps (fun k c hc he => he ⟨_, _, hc, .inr (.inr (.inr rfl))⟩)
theorem RdAt.stays {F : Nat → Prop} {w w' : World} {r : Nat} {x : Rd} {d : Bool} (h : RdAt F w r x d) (hk : Stays w w') : RdAt F w' r x d := by
  obtain ⟨hF, hlt, openV, recV, cs, hbk, hw, hwF, hr, hrF, hrecs⟩ := h
  have hkk := hk.keeps
  refine ⟨hF, fun k h => Nat.lt_of_lt_of_le (hlt k h) hk.size, openV, recV, cs, hk.block _ _ _ hbk (.inl rfl), hw.keeps hkk ?_, hwF, hr.keeps hkk ?_, hrF, hrecs.keeps hkk (fun k c hc he => he ⟨_, _, hc, .inr (.inr (.inr rfl))⟩)⟩
  · intro k hk' he
    rcases hw.2 with ⟨rfl, _⟩ | ⟨g, off, cap, cur, rfl, hg, _⟩
    · cases hk'
    · cases hk'; exact he ⟨_, _, hg, .inr (.inl rfl)⟩
  · intro k hk' he
    rcases hr.2 with ⟨rfl, _⟩ | ⟨g, off, cap, cur, rfl, hg, _⟩
    · cases hk'
    · cases hk'; exact he ⟨_, _, hg, .inr (.inr (.inl rfl))⟩
/-- How many records wait. -/
def recsLeft (w : World) (r : Nat) : Nat := match w.cell? ⟨r, 7, none⟩ with
  | some (.slice _ n _) => n
  | _ => 0
theorem RdAt.left {F : Nat → Prop} {w : World} {r : Nat} {x : Rd} {d : Bool} (h : RdAt F w r x d) : recsLeft w r = x.recs.length := by
  obtain ⟨hF, hlt, openV, recV, cs, hbk, hw, hwF, hr, hrF, hrecs⟩ := h
  obtain ⟨a, c, rfl⟩ := hr.shape
  unfold recsLeft
  rw [show w.cell? ⟨r, 7, none⟩ = some (.slice a x.recs.length c) by rw [cell_at hbk]; rfl]

section
variable (po : List Tr → List (List UInt8) → List Tr)
theorem Rd.feed_ok : ∀ (b : List UInt8) {x : Rd}, RdOk x → RdOk (x.feed po b)
  | [], x, h => h
  | c :: b, x, h => by
    show RdOk (Rd.feed po (x.byte po c) b)
    refine Rd.feed_ok b ?_
    unfold Rd.byte
    split
    · exact Rd.whole_ok po h
    · exact Rd.part_ok h [c]
theorem Rd.feed_place : ∀ (b : List UInt8) (x : Rd), (x.feed po b).place = x.place + b.length
  | [], x => rfl
  | c :: b, x => by
    show (Rd.feed po (x.byte po c) b).place = _
    rw [Rd.feed_place b]
    have : (x.byte po c).place = x.place + 1 := by
      unfold Rd.byte
      split
      · show (x.whole po).place + 1 = _
        unfold Rd.whole
        split <;> rfl
      · rfl
    rw [this, List.length_cons]
    omega
theorem RdAt.minds {F : Nat → Prop} {w : World} {r : Nat} {x : Rd} {d : Bool} {B : Nat} (h : RdAt F w r x d) (hF : ∀ k, F k → B ≤ k) : ∀ k, F k ∧ RdT w k → B ≤ k ∧ RdT w k := fun k hk => ⟨hF k hk.1, hk.2⟩
theorem Rd.done_len {x : Rd} (h : RdOk x) : (x.done po).recs.length ≤ x.place := by
  have := h.recs
  unfold Rd.done Rd.whole
  simp only []
  split
  · omega
  · simp; omega
/-- Between two records. -/
def AllInv (B : Nat) (J : List Rec → World → Prop) (r : Nat) (recs : List (Except (Nat × Nat) Tr)) (wr : World) : Prop :=
  ∃ (F : Nat → Prop) (x : Rd) (pre : List Rec), RdAt F wr r x true ∧ (∀ k, F k → B ≤ k) ∧ pre.map (·.it) ++ x.recs = recs ∧ J pre wr
set_option maxHeartbeats 4000000 in
theorem all1_any (n : Nat) (db rb d : Nat) (b : List UInt8) (rowV : Value) (w : World) (hd1 : 1 ≤ d) (hd2 : d ≤ 512) (hdb : w.heap[db]? = some (.cells #[.int .i64 d] 3 (0, 0))) (hrb : w.heap[rb]? = some (.cells #[rowV] 22 (0, 0)))
    (hrow : WinN 1 5 w rowV b.length (b.map encB)) (hb : b.length ≤ 1073741824)
    (hfit : ∀ done rest, b = done ++ 30 :: rest → ((Rd.new d).feed po done).size ≠ 0 → wrongOf ((Rd.new d).feed po done).begun ((Rd.new d).feed po done).frm ((Rd.new d).feed po done).size ((Rd.new d).feed po done).open_ = none → Fit po ((Rd.new d).feed po done).depth ((Rd.new d).feed po done).open_)
    (hfit2 : ((Rd.new d).feed po b).size ≠ 0 → wrongOf ((Rd.new d).feed po b).begun ((Rd.new d).feed po b).frm ((Rd.new d).feed po b).size ((Rd.new d).feed po b).open_ = none → Fit po ((Rd.new d).feed po b).depth ((Rd.new d).feed po b).open_) :
    SeqW n Tryz.prog 66 #[.pointer (some ⟨db, 0, none⟩), .pointer (some ⟨rb, 0, none⟩)] recEnc (RecIs (((Rd.new d).feed po b).done po).recs) (fun xs => xs.map (·.it) = (((Rd.new d).feed po b).done po).recs) w := by
  intro l J W hW hJ hYd h0
  have hdb' := (hW.block db (lt_of_block hdb)).trans hdb
  have hrb' := (hW.block rb (lt_of_block hrb)).trans hrb
  have cdb : W.cell? ⟨db, 0, none⟩ = some (.int .i64 d) := by rw [cell_at hdb']; rfl
  have crb : W.cell? ⟨rb, 0, none⟩ = some rowV := by rw [cell_at hrb']; rfl
  have hrowW : WinN 1 5 W rowV b.length (b.map encB) := hrow.keeps (F := fun k => w.heap.size ≤ k) (Keeps.of_below _ hW) (fun k hk h => absurd (hrow.lt hk) (Nat.not_lt.2 h))
  refine callsIn_of_wp Tryz.func66 rfl trivial ?_ rfl
  simp only [Tryz.ntmps66, List.size_toArray, List.length_cons, List.length_nil, Nat.reduceAdd, Nat.reduceSub, Array.replicate_succ, Array.replicate_zero, List.push_toArray, List.append_toArray, List.nil_append, List.cons_append]
  have HN := Lib.hid (fun w1 => seqNew_any w1 d hd1 hd2)
  -- the reader that is made
  obtain ⟨W1, hW1⟩ : ∃ W1, W.alloc (.cells #[.int .i64 d, .int .i64 0, .bool false, .bool false, .slice none 0 0, .int .i64 0, .int .i64 0, .slice none 0 0] 159) = W1 := ⟨_, rfl⟩
  have hk1 : Keeps (fun _ => False) W W1 := by rw [← hW1]; exact (Keeps.refl _ _).alloc _
  have hr1 : RdAt (fun k => k = W.heap.size) W1 W.heap.size (Rd.new d) false := by
    subst hW1
    exact ⟨rfl, fun k e => by subst e; simp, .slice none 0 0, .slice none 0 0, [], heap_alloc_new W _, .nil _ _ _, fun k h => (by cases h), .nil _ _ _, fun k h => (by cases h), fun i rc h => by simp [Rd.new] at h⟩
  have hJ1 : J [] W1 := hJ [] _ _ h0 (hk1.mono fun _ h => h.elim)
  have crb1 : W1.cell? ⟨rb, 0, none⟩ = some rowV := hk1.cell crb id
  have hok1 : RdOk (Rd.new d) := ⟨hd1, hd2, rfl, Nat.le_refl _, Nat.le_refl _, Nat.le_refl _⟩
  have hrow1 : BytesOf (fun k => k = W.heap.size) W1 rowV b := by
    have hx := hrowW.keeps (F := fun _ => False) hk1 (fun _ _ => id)
    rcases hx.2 with ⟨rfl, hl⟩ | ⟨g, off, cap, cur, rfl, hg, hc, ho, hm, hi⟩
    · exact ⟨⟨none, 0, by rw [hl], by omega, Nat.zero_le _, .inl (List.eq_nil_of_length_eq_zero hl)⟩, .inl (by rfl)⟩
    · refine ⟨⟨_, cap, rfl, hc, hm, .inr ⟨g, off, rfl, fun e => ?_, fun i x hx => ?_⟩⟩, .inr ⟨g, off, _, _, rfl⟩⟩
      · have := hrowW.lt (k := g) rfl
        omega
      · rw [cell_at hg]
        exact hi i (encB x) (by rw [List.getElem?_map, hx]; rfl)
  have hfeed := seqFeed_any po _ W1 W.heap.size (Rd.new d) b rowV hr1 hok1 (by show 0 + b.length ≤ _; omega) hrow1 hfit
  obtain ⟨X, hX⟩ : ∃ X, (Rd.new d).feed po b = X := ⟨_, rfl⟩
  have hokX : RdOk X := by rw [← hX]; exact Rd.feed_ok po b hok1
  have hpX : X.place ≤ 1073741824 := by rw [← hX, Rd.feed_place]; show 0 + b.length ≤ _; omega
  rw [hX] at hfeed hfit2 hYd ⊢
  have hYl : (X.done po).recs.length ≤ 1073741824 := Nat.le_trans (Rd.done_len po hokX) hpX
  obtain ⟨Y, hY⟩ : ∃ Y, X.done po = Y := ⟨_, rfl⟩
  rw [hY] at hYl hYd ⊢
  obtain ⟨shp, hshp⟩ : ∃ shp : Nat, shp = 0 := ⟨0, rfl⟩
  have HF := Lib.hid hfeed
  have HEND := Lib.hid (fun (F : Nat → Prop) w2 (h2 : RdAt F w2 W.heap.size X false) => seqEnd_any po F w2 W.heap.size X h2 hokX hpX hfit2)
  rw [hY] at HEND
  have HK1 := Lib.hid hk1
  have HR1 := Lib.hid hr1
  have HJ := Lib.hid hJ
  have HJ1 := Lib.hid hJ1
  have HYL := Lib.hid hYl
  have HYIELD := Lib.hid hYd
  have HW1 := Lib.hid hW1
  obtain ⟨⟨ra, rc, hrv, _⟩, _⟩ := hrow1
  subst hrv
  clear hd1 hd2 hdb hrb hrow hb hfit hfit2 hW hJ hYd h0 hdb' hrb' hrowW hk1 hr1 hJ1 hok1 hfeed hX hokX hpX hY hYl hshp
  gi_wp2_with fail
  refine ⟨trivial, fun h => (by cases h), ?_⟩
  refine (callsIn_wide.2 (HN.out _)).mono ?_
  rintro e w1 ⟨rfl, rfl⟩
  rw [HW1.out]
  gi_wp2_with fail
  refine ⟨trivial, fun h => (by cases h), ?_⟩
  refine (callsIn_wide.2 (HF.out)).mono ?_
  rintro e w2 ⟨rfl, hk2, hr2⟩
  have hF2 : ∀ k, Since (fun k => k = W.heap.size) W1 w2 k → W.heap.size ≤ k := fun k hk => hk.elim (fun e => by omega) (fun h => Nat.le_trans HK1.out.size h.1)
  have hJ2 : J [] w2 := HJ.out [] _ _ HJ1.out (hk2.mono fun k e => ⟨by omega, by subst e; exact ⟨_, _, HR1.out.2.2.choose_spec.choose_spec.choose_spec.1, .inl rfl⟩⟩)
  have hr2s := hr2.slim
  have HE2 := Lib.hid (HEND.out _ w2 hr2s)
  have HF2 := Lib.hid hF2
  have HW2 := Lib.hid (Nat.le_trans HK1.out.size hk2.size)
  have HJ2 := Lib.hid hJ2
  clear hk2 hr2 hF2 hJ2 hr2s
  gi_wp2_with fail
  refine ⟨trivial, fun h => (by cases h), ?_⟩
  refine (callsIn_wide.2 (HE2.out)).mono ?_
  rintro e w3 ⟨rfl, hk3, hr3⟩
  have hJ3 : J [] w3 := HJ.out [] _ _ HJ2.out (hk3.mono fun k hk => ⟨HF2.out k hk.1, hk.2⟩)
  have hF3 : ∀ k, Since (fun k => Since (fun k => k = W.heap.size) W1 w2 k ∧ RdT w2 k) w2 w3 k → W.heap.size ≤ k := fun k hk => hk.elim (fun h => HF2.out k h.1) (fun h => Nat.le_trans HW2.out h.1)
  have HINV := Lib.hid (show AllInv W.heap.size J W.heap.size Y.recs w3 from ⟨_, Y, [], hr3, hF3, rfl, hJ3⟩)
  clear hk3 hr3 hJ3 hF3
  gi_wp2_with fail
  gi_loopw [] (fun wr => Hid (AllInv W.heap.size J W.heap.size Y.recs wr)) (fun wr => recsLeft wr W.heap.size)
  case atStart => exact HINV
  case round =>
    obtain ⟨F, x, pre, hrd, hFB, hrecs, hJp⟩ := hrel.out
    clear hrel HINV
    have hxl : x.recs.length ≤ 1073741824 := by
      have := congrArg List.length hrecs
      rw [List.length_append, List.length_map] at this
      have := HYL.out
      omega
    have HRD := Lib.hid hrd
    have HRECS := Lib.hid hrecs
    cases hxr : x.recs with
    | nil =>
      have HNX := Lib.hid (seqNext_none F wr W.heap.size x true hrd hxr)
      have HXR := Lib.hid hxr
      have HJP := Lib.hid hJp
      clear hrd hrecs hxr hJp
      gi_wp2_with fail
      refine ⟨trivial, fun h => (by cases h), ?_⟩
      refine (callsIn_wide.2 (HNX.out)).mono ?_
      rintro e w4 ⟨rfl, rfl⟩
      gi_wp2_with fail
      refine ⟨fun _ h => (by cases h), ?_⟩
      gi_wp2_with fail
      refine bodyPost_ret (results_none rfl _ _ _) rfl ?_
      exact ⟨⟨_, rfl⟩, pre, by have := HRECS.out; rw [HXR.out, List.append_nil] at this; exact this, HJP.out⟩
    | cons rec rest =>
      have HNX := Lib.hid (seqNext_some _ wr W.heap.size x rec rest true hrd.slim hxr hxl)
      have HXR := Lib.hid hxr
      have hrk : Y.recs[pre.length]? = some rec := by
        rw [← hrecs, hxr, List.getElem?_append_right (by simp)]
        simp
      have HREC := Lib.hid hrk
      have HJP := Lib.hid hJp
      have HFB := Lib.hid hFB
      clear hrd hrecs hxr hJp hrk hFB
      gi_wp2_with fail
      refine ⟨trivial, fun h => (by cases h), ?_⟩
      refine (callsIn_wide.2 (HNX.out)).mono ?_
      rintro e w4 ⟨qa, b, rfl, hra, hk4, hr4⟩
      obtain ⟨q, rfl, hsh⟩ := hra.shape
      have hJ4 : J pre w4 := HJ.out pre _ _ HJP.out (hk4.mono fun k hk => ⟨HFB.out k hk.1, hk.2⟩)
      have hlow : W.heap.size ≤ wr.heap.size := Nat.le_of_lt (HRD.out.2.1 _ HRD.out.1)
      have hF4 : ∀ k, Since (fun k => F k ∧ RdT wr k) wr w4 k → W.heap.size ≤ k := fun k hk => hk.elim (fun h => HFB.out k h.1) (fun h => Nat.le_trans hlow h.1)
      clear hlow
      rcases hsh with rfl | ⟨T, v, rfl⟩
      · skip
        obtain ⟨fn, tmps, assign, body, hy, hR⟩ := HYIELD.out pre ⟨q, .nilIface, rec⟩ w4 hJ4 ⟨HREC.out, hra⟩
        have hy' : (Instr.yield l #[.pointer q, .nilIface]).run Tryz.prog w4 = .ok (.round l fn tmps assign body) w4 := hy
        have HR := Lib.hid hR
        have HR4 := Lib.hid hr4
        have HF4 := Lib.hid hF4
        clear hk4 hr4 hra hJ4 hF4 hy hR
        gi_wp2_with fail
        refine ⟨fun h => (by cases h), ?_⟩
        refine (HR.out).mono ?_
        rintro e w5 ⟨rfl, hJ5, hs5⟩
        have HJ5 := Lib.hid hJ5
        have HS5 := Lib.hid hs5
        clear hJ5 hs5
        gi_wp2_with fail
        go_roundw
        case rel => exact Lib.hid ⟨_, _, pre ++ [⟨q, .nilIface, rec⟩], HR4.out.stays HS5.out, HF4.out, by rw [List.map_append, List.append_assoc, ← HRECS.out, HXR.out]; rfl, HJ5.out⟩
        case measure =>
          rw [(HR4.out.stays HS5.out).left, HRD.out.left, HXR.out]
          simp
      · skip
        obtain ⟨fn, tmps, assign, body, hy, hR⟩ := HYIELD.out pre ⟨q, .iface T v, rec⟩ w4 hJ4 ⟨HREC.out, hra⟩
        have hy' : (Instr.yield l #[.pointer q, .iface T v]).run Tryz.prog w4 = .ok (.round l fn tmps assign body) w4 := hy
        have HR := Lib.hid hR
        have HR4 := Lib.hid hr4
        have HF4 := Lib.hid hF4
        clear hk4 hr4 hra hJ4 hF4 hy hR
        gi_wp2_with fail
        refine ⟨fun h => (by cases h), ?_⟩
        refine (HR.out).mono ?_
        rintro e w5 ⟨rfl, hJ5, hs5⟩
        have HJ5 := Lib.hid hJ5
        have HS5 := Lib.hid hs5
        clear hJ5 hs5
        gi_wp2_with fail
        go_roundw
        case rel => exact Lib.hid ⟨_, _, pre ++ [⟨q, .iface T v, rec⟩], HR4.out.stays HS5.out, HF4.out, by rw [List.map_append, List.append_assoc, ← HRECS.out, HXR.out]; rfl, HJ5.out⟩
        case measure =>
          rw [(HR4.out.stays HS5.out).left, HRD.out.left, HXR.out]
          simp
end
end Go.Proofs.YtakkmiomhackiaaGreatDoor

/-
  What the reader makes of SeqLong's bytes, in plain Lean.
-/
namespace Go.Proofs.YtakkmiomhackiaaGreatDoor
set_option maxRecDepth 100000
section
variable (po : List Tr → List (List UInt8) → List Tr)
theorem rd_first (d : Nat) (l : List UInt8) (h : ∀ c ∈ l, c ≠ 30) : (Rd.new d).feed po (30 :: l) = ⟨d, 1 + l.length, true, l.take 16777217, 1, l.length, []⟩ := by
  have := Rd.feed_sign po (Rd.new d) [] l (fun c hc => by cases hc)
  rw [List.nil_append] at this
  rw [this, Rd.part_nil, Rd.feed_plain po _ h]
  simp [Rd.whole, Rd.new, Rd.sign, Rd.part]
theorem rd_second (d n : Nat) (o : List UInt8) (hn : n ≠ 0) : (Rd.feed po ⟨d, 1 + n, true, o, 1, n, []⟩ [30, 49, 10]) = ⟨d, n + 4, true, [49, 10], n + 2, 2, [Rd.recOf po ⟨d, 1 + n, true, o, 1, n, []⟩]⟩ := by
  have := Rd.feed_sign po ⟨d, 1 + n, true, o, 1, n, []⟩ [] [49, 10] (fun c hc => by cases hc)
  rw [List.nil_append] at this
  rw [this, Rd.part_nil, Rd.feed_plain po _ (fun c hc => by simp at hc; rcases hc with rfl | rfl <;> decide)]
  simp [Rd.whole, Rd.sign, Rd.part, hn]
  omega
theorem rd_done (d n : Nat) (r : Except (Nat × Nat) Tr) : (Rd.done po ⟨d, n + 4, true, [49, 10], n + 2, 2, [r]⟩).recs = [r, shiftOf (n + 2) (readTree po [49, 10] d)] := by
  simp [Rd.done, Rd.whole, Rd.recOf, wrongOf]
theorem rd_over (d n : Nat) (o : List UInt8) (hn : 16777216 < n) : Rd.recOf po ⟨d, 1 + n, true, o, 1, n, []⟩ = .error (3, 16777217) := by
  have h : wrongOf true 1 n o = some (3, 1 + 16777216) := by
    unfold wrongOf
    rw [if_neg Bool.true_eq_false.mp, if_pos hn]
  unfold Rd.recOf
  simp only [h]
theorem rd_within (d n : Nat) (o : List UInt8) (hn : n ≤ 16777216) (hl : o.getLast? = some 10) : Rd.recOf po ⟨d, 1 + n, true, o, 1, n, []⟩ = shiftOf 1 (readTree po o d) := by
  have : ¬ 16777216 < n := by omega
  simp [Rd.recOf, wrongOf, this, hl]
theorem fit_ok (d : Nat) (l : List UInt8) (t : Tr) (hp : ∀ c ∈ l, PlainC c) (h : readOut po l d = .ok [t]) : Fit po d l ∧ readTree po l d = .ok t := by
  unfold readOut at h
  unfold readTree
  cases hr : Ps.read po l d with
  | error e => rw [hr] at h; cases h
  | ok y =>
    rw [hr] at h
    have hy : y.items = [t] := by injection h
    refine ⟨⟨hp, fun z hz => ?_, fun no at_ he => ?_⟩, ?_⟩
    · rw [hr] at hz; injection hz with hz; exact ⟨t, hz ▸ hy⟩
    · unfold readTree at he; rw [hr] at he; cases he
    · show Except.ok (y.items.headD .null) = _
      rw [hy]; rfl
theorem fit_error (d : Nat) (l : List UInt8) (no a : Nat) (hp : ∀ c ∈ l, PlainC c) (ha : a ≤ 1073741824) (h : readOut po l d = .error (no, a)) : Fit po d l ∧ readTree po l d = .error (no, a) := by
  unfold readOut at h
  unfold readTree
  cases hr : Ps.read po l d with
  | ok y => rw [hr] at h; cases h
  | error e =>
    rw [hr] at h
    have he : e = (no, a) := by injection h
    subst he
    refine ⟨⟨hp, fun z hz => (by rw [hr] at hz; cases hz), fun n2 a2 h2 => ?_⟩, rfl⟩
    unfold readTree at h2
    rw [hr] at h2
    injection h2 with h2
    injection h2 with h3 h4
    omega
theorem fit_one (d : Nat) (hd : 1 ≤ d) : Fit po d [49, 10] ∧ readTree po [49, 10] d = .ok (.num 4607182418800017408) :=
  fit_ok po d _ _ (fun c hc => by simp at hc; rcases hc with rfl | rfl <;> simp [PlainC, PlainB, isMark, wordOf]) (read_one po d hd)
theorem fit_text (d : Nat) (hd : 1 ≤ d) : Fit po d [34, 97, 34, 10] ∧ readTree po [34, 97, 34, 10] d = .ok (.text [97]) :=
  fit_ok po d _ _ (fun c hc => by simp at hc; rcases hc with rfl | rfl | rfl | rfl <;> simp [PlainC, PlainB, isMark, wordOf]) (read_text po d hd)
theorem fit_open (d : Nat) (hd : 1 ≤ d) : Fit po d [91, 10] ∧ readTree po [91, 10] d = .error (95, 2) :=
  fit_error po d _ _ _ (fun c hc => by simp at hc; rcases hc with rfl | rfl <;> simp [PlainC, PlainB, isMark, wordOf]) (by omega) (read_open po d hd)
theorem fit_sevens (d : Nat) (hd : 1 ≤ d) (l : List UInt8) (hl : ∀ c ∈ l, c = 32 ∨ c = 10) (h : l.length + 2 ≤ 16777216) : Fit po d (55 :: 32 :: l) ∧ readTree po (55 :: 32 :: l) d = .ok (.num 4619567317775286272) :=
  fit_ok po d _ _ (fun c hc => by simp at hc; rcases hc with rfl | rfl | hc; · simp [PlainC, PlainB, isMark, wordOf]
                                  · simp [PlainC, PlainB, isMark, wordOf]
                                  · rcases hl c hc with rfl | rfl <;> simp [PlainC, PlainB, isMark, wordOf]) (read_sevens po l (fun c hc => by rcases hl c hc with rfl | rfl <;> decide) 32 (.inl rfl) d hd h)
/-- The long record: a seven, n blanks, the end of its line. -/
def row (n : Nat) : List UInt8 := 55 :: 32 :: (List.replicate n 32 ++ [10])
theorem row_length (n : Nat) : (row n).length = n + 3 := by simp [row]
theorem row_plain (n : Nat) : ∀ c ∈ row n, c ≠ 30 := by
  intro c hc
  simp [row] at hc
  rcases hc with rfl | rfl | ⟨_, rfl⟩ | rfl <;> decide
theorem row_blank (n : Nat) : ∀ c ∈ List.replicate n (32 : UInt8) ++ [10], c = 32 ∨ c = 10 := by
  intro c hc
  simp at hc
  rcases hc with ⟨_, rfl⟩ | rfl
  · exact .inl rfl
  · exact .inr rfl
theorem row_last (n : Nat) : (row n).getLast? = some 10 := by
  show (55 :: 32 :: (List.replicate n 32 ++ [10])).getLast? = some 10
  rw [show (55 : UInt8) :: 32 :: (List.replicate n 32 ++ [10]) = (55 :: 32 :: List.replicate n 32) ++ [10] by simp, List.getLast?_append]
  simp
theorem recs_over (n : Nat) (h : 16777216 < n + 3) : ((((Rd.new 1).feed po (30 :: row n)).feed po [30, 49, 10]).done po).recs = [.error (3, 16777217), .ok (.num 4607182418800017408)] := by
  rw [rd_first po 1 _ (row_plain n), row_length, rd_second po 1 (n + 3) _ (by omega), rd_done, rd_over po 1 (n + 3) _ h, (fit_one po 1 (by omega)).2]
  rfl
theorem recs_within (n : Nat) (h : n + 3 ≤ 16777216) : ((((Rd.new 1).feed po (30 :: row n)).feed po [30, 49, 10]).done po).recs = [.ok (.num 4619567317775286272), .ok (.num 4607182418800017408)] := by
  rw [rd_first po 1 _ (row_plain n), row_length, rd_second po 1 (n + 3) _ (by omega), rd_done, List.take_of_length_le (by rw [row_length]; omega), rd_within po 1 (n + 3) _ h (row_last n), (fit_one po 1 (by omega)).2]
  unfold row
  rw [(fit_sevens po 1 (by omega) _ (row_blank n) (by simp; omega)).2]
  rfl
theorem recs_works : (((Rd.new 4).feed po [30, 49, 10, 30, 91, 10, 30, 34, 97, 34, 10]).done po).recs = [.ok (.num 4607182418800017408), .error (95, 6), .ok (.text [97])] := by
  have e1 := Rd.feed_sign po (Rd.new 4) [] [49, 10, 30, 91, 10, 30, 34, 97, 34, 10] (fun c hc => by cases hc)
  have hx1 : (((Rd.new 4).part []).whole po).sign = ⟨4, 1, true, [], 1, 0, []⟩ := by rw [Rd.part_nil]; simp [Rd.whole, Rd.new, Rd.sign]
  have e2 := Rd.feed_sign po ⟨4, 1, true, [], 1, 0, []⟩ [49, 10] [91, 10, 30, 34, 97, 34, 10] (fun c hc => by simp at hc; rcases hc with rfl | rfl <;> decide)
  have hx2 : ((Rd.part ⟨4, 1, true, [], 1, 0, []⟩ [49, 10]).whole po).sign = ⟨4, 4, true, [], 4, 0, [.ok (.num 4607182418800017408)]⟩ := by
    simp [Rd.whole, Rd.sign, Rd.part, Rd.recOf, wrongOf, (fit_one po 4 (by omega)).2, shiftOf]
  have e3 := Rd.feed_sign po ⟨4, 4, true, [], 4, 0, [.ok (.num 4607182418800017408)]⟩ [91, 10] [34, 97, 34, 10] (fun c hc => by simp at hc; rcases hc with rfl | rfl <;> decide)
  have hx3 : ((Rd.part ⟨4, 4, true, [], 4, 0, [.ok (.num 4607182418800017408)]⟩ [91, 10]).whole po).sign = ⟨4, 7, true, [], 7, 0, [.ok (.num 4607182418800017408), .error (95, 6)]⟩ := by
    simp [Rd.whole, Rd.sign, Rd.part, Rd.recOf, wrongOf, (fit_open po 4 (by omega)).2, shiftOf]
  rw [List.nil_append, hx1] at e1
  rw [hx2] at e2
  rw [hx3] at e3
  have e4 := Rd.feed_plain po (b := [34, 97, 34, 10]) ⟨4, 7, true, [], 7, 0, [.ok (.num 4607182418800017408), .error (95, 6)]⟩ (fun c hc => by simp at hc; rcases hc with rfl | rfl | rfl | rfl <;> decide)
  rw [List.cons_append, List.cons_append, List.nil_append] at e2 e3
  rw [e1, e2, e3, e4]
  simp [Rd.done, Rd.whole, Rd.part, Rd.recOf, wrongOf, (fit_text po 4 (by omega)).2, shiftOf]
end
end Go.Proofs.YtakkmiomhackiaaGreatDoor

/-
  The law's own function spot(30): kind and place of an error.
-/
namespace Go.Proofs.YtakkmiomhackiaaGreatDoor
open Go.RowKit
set_option maxRecDepth 100000

set_option maxHeartbeats 1000000 in
theorem spot_nil (w : World) : Calls Tryz.prog 30 #[.nilIface] w fun e w' => e = .returned (.tuple #[.int .i64 0, .int .i64 0]) ∧ w' = w := by
  go_enter Tryz.func30, Tryz.ntmps30
  go_wp2_with fail
  exact bodyPost_ret (v := .tuple #[.int .i64 0, .int .i64 0]) (by simp [results, Tryz.results30, go_sem]) rfl ⟨rfl, rfl⟩
set_option maxHeartbeats 1000000 in
theorem spot_at (w : World) (no at_ : Nat) (h1 : 1 ≤ no) (h2 : no ≤ 255) (h3 : at_ ≤ 1073741824) : Calls Tryz.prog 30 #[spotV no at_] w fun e w' => e = .returned (.tuple #[.int .i64 no, .int .i64 at_]) ∧ Keeps (fun _ => False) w w' := by
  unfold spotV
  have hm : ∀ w, (Instr.typeAssert (.iface 151 (.agg #[.int .i64 no, .int .i64 at_])) 26 151 true).run Tryz.prog w = .ok (.tuple #[.agg #[.int .i64 no, .int .i64 at_], .bool true]) w := fun _ => by kernel_rfl
  have hnew := heap_alloc_new w (.cells #[.int .i64 no, .int .i64 at_] 151)
  have x0 : (w.alloc (.cells #[.int .i64 no, .int .i64 at_] 151)).cell? ⟨w.heap.size, 0, none⟩ = some (.int .i64 no) := cell_at hnew
  have x1 : (w.alloc (.cells #[.int .i64 no, .int .i64 at_] 151)).cell? ⟨w.heap.size, 1, none⟩ = some (.int .i64 at_) := cell_at hnew
  clear hnew
  have hk := (Keeps.refl (fun _ => False) w).alloc (.cells #[.int .i64 no, .int .i64 at_] 151)
  have h4 : ¬ (no : Int) = 0 := by omega
  go_enter Tryz.func30, Tryz.ntmps30
  go_wp2_with fail
  go_region
  go_wp2_with fail
  exact bodyPost_ret (v := .tuple #[.int .i64 no, .int .i64 at_]) (by simp [results, Tryz.results30, go_sem]) rfl ⟨rfl, hk.drew⟩
end Go.Proofs.YtakkmiomhackiaaGreatDoor

/-
  The law's own function works: two records told, a broken one between.
-/
namespace Go.Proofs.YtakkmiomhackiaaGreatDoor
open Go.RowKit Go.Shelf
set_option maxRecDepth 100000
attribute [local go_sem] Oper.semAt_some

def worksBytes : List UInt8 := [30, 49, 10, 30, 91, 10, 30, 34, 97, 34, 10]
theorem RecIs.minds (B : Nat) (recs : List (Except (Nat × Nat) Tr)) (k : Nat) (x : Rec) : Minds2 B (RecIs recs k x) := by
  rintro A C ⟨h1, h2⟩ hk
  refine ⟨h1, h2.keeps hk ?_⟩
  rintro k c hc ⟨_, (⟨c', T, h, hT⟩ | ⟨o, h, ho⟩)⟩
  · rw [hc] at h
    cases h
    rcases hT with h | h | h <;> cases h
  · rw [hc] at h
    cases h
    simp [Obj.isCells] at ho
/-- Between two rounds of works. -/
def WorksAt (n₀ ib : Nat) (w : World) (pre : List Rec) (W : World) : Prop :=
  W.heap[ib]? = some (.cells #[.int .i64 pre.length] 3 (0, 0)) ∧ W.heap[n₀]? = some (.cells #[.bool false] 4 (0, 0)) ∧ Below n₀ w W
theorem WorksAt.minds {n₀ ib B : Nat} {w : World} (hi : ib < B) (hn : n₀ < B) (hw : n₀ = w.heap.size) (pre : List Rec) : Minds2 B (WorksAt n₀ ib w pre) := by
  rintro A C ⟨h1, h2, h3⟩ hk
  refine ⟨hk.blk h1 (fun h => by omega), hk.blk h2 (fun h => by omega), h3.trans (hk.toBelow ?_ (fun k h => by omega))⟩
  have := h3.size
  omega
theorem keepsOthers_set (W : World) (p : Addr) (v : Value) : KeepsOthers W (W.setCell p v) := KeepsOthers.setCell W p v
theorem stays_set {W : World} {b o : Nat} {c : Array Value} {T : TypeId} (h : W.heap[b]? = some (.cells c T (0, 0))) (hT : T = 3 ∨ T = 4) (v : Value) : Stays W (W.setCell ⟨b, o, none⟩ v) :=
  Stays.of_keeps (F := fun k => k = b) ((Keeps.refl (fun k => k = b) W).setCell (p := ⟨b, o, none⟩) (.inl rfl) _) (fun k e => by
    subst e
    rintro ⟨c', T', h', hT'⟩
    rw [h] at h'
    cases h'
    rcases hT with rfl | rfl <;> rcases hT' with h | h | h | h <;> cases h)
theorem stays_alloc (W : World) (o : Obj) : Stays W (W.alloc o) := Stays.of_keeps (F := fun _ => False) ((Keeps.refl _ W).alloc o) (fun _ h => h.elim)
section
variable (po : List Tr → List (List UInt8) → List Tr)
theorem works_fit (done rest : List UInt8) (h : worksBytes = done ++ 30 :: rest) (hs : ((Rd.new 4).feed po done).size ≠ 0) : Fit po ((Rd.new 4).feed po done).depth ((Rd.new 4).feed po done).open_ := by
  unfold worksBytes at h
  rcases done with _ | ⟨a1, _ | ⟨a2, _ | ⟨a3, _ | ⟨a4, _ | ⟨a5, _ | ⟨a6, _ | ⟨a7, _ | ⟨a8, _ | ⟨a9, _ | ⟨aa, _ | ⟨ab, tl⟩⟩⟩⟩⟩⟩⟩⟩⟩⟩⟩ <;> simp at h
  · exact absurd rfl hs
  · obtain ⟨rfl, rfl, rfl, _⟩ := h
    rw [show ((Rd.new 4).feed po [30, 49, 10]).depth = 4 from rfl, show ((Rd.new 4).feed po [30, 49, 10]).open_ = [49, 10] from rfl]
    exact (fit_one po 4 (by omega)).1
  · obtain ⟨rfl, rfl, rfl, rfl, rfl, rfl, _⟩ := h
    rw [show ((Rd.new 4).feed po [30, 49, 10, 30, 91, 10]).depth = 4 from rfl, show ((Rd.new 4).feed po [30, 49, 10, 30, 91, 10]).open_ = [91, 10] from rfl]
    exact (fit_open po 4 (by omega)).1
theorem works_fit2 : Fit po ((Rd.new 4).feed po worksBytes).depth ((Rd.new 4).feed po worksBytes).open_ := by
  unfold worksBytes
  rw [show ((Rd.new 4).feed po [30, 49, 10, 30, 91, 10, 30, 34, 97, 34, 10]).depth = 4 from rfl, show ((Rd.new 4).feed po [30, 49, 10, 30, 91, 10, 30, 34, 97, 34, 10]).open_ = [34, 97, 34, 10] from rfl]
  exact (fit_text po 4 (by omega)).1
include po in
set_option maxHeartbeats 8000000 in
theorem works_any (w : World) : Calls Tryz.prog 24 #[] w fun e w' => e = .returned (.bool true) ∧ Below w.heap.size w w' := by
  have hcv := Lib.run_convert_bytes_const (P := Tryz.prog) (w.alloc (.cells #[.bool false] 4)) 22 5 (worksBytes.map encB).toArray 11 11 Tryz.underlying22 Tryz.underlying5
  have hnew := heap_alloc_new (w.alloc (.cells #[.bool false] 4)) (.cells (worksBytes.map encB).toArray 5 ((worksBytes.map encB).toArray.size, (worksBytes.map encB).toArray.size + 1))
  rw [World.size_alloc] at hcv hnew
  obtain ⟨W1, hW1⟩ : ∃ W1, (w.alloc (.cells #[.bool false] 4)).alloc (.cells (worksBytes.map encB).toArray 5 ((worksBytes.map encB).toArray.size, (worksBytes.map encB).toArray.size + 1)) = W1 := ⟨_, rfl⟩
  have hb1 : Below w.heap.size w W1 := by rw [← hW1]; exact ((Below.refl _ _).alloc (Nat.le_refl _) _).alloc (by simp) _
  have hres : W1.heap[w.heap.size]? = some (.cells #[.bool false] 4 (0, 0)) := by rw [← hW1]; exact (Below.heap_alloc _ _ _ (by simp)).trans (heap_alloc_new w _)
  have hsz1 : W1.heap.size = w.heap.size + 2 := by rw [← hW1]; simp
  rw [hW1] at hcv hnew
  have hhas : HasBytes W1 (.slice (some ⟨w.heap.size + 1, 0, none⟩) 11 11) worksBytes := by
    refine ⟨⟨_, 11, rfl, Nat.le_refl _, by decide, .inr ⟨w.heap.size + 1, 0, rfl, id, fun i x hx => ?_⟩⟩, .inr ⟨_, _, _, _, rfl⟩⟩
    rw [cell_any hnew, Nat.zero_add]
    have : ((worksBytes.map encB).toArray)[i]? = some (encB x) := by
      rw [List.getElem?_toArray, List.getElem?_map, hx]; rfl
    exact this
  have HALL := Lib.hid (all_any W1 _ worksBytes 4 (by decide) (by decide) hhas (by decide))
  have HB1 := Lib.hid hb1
  have HRES := Lib.hid hres
  have HSZ1 := Lib.hid hsz1
  clear hnew hW1 hb1 hres hsz1 hhas
  have hcv2 : (convert 22 22 (.slice (some ⟨w.heap.size + 1, 0, none⟩) 11 11)).run Tryz.prog ((w.alloc (.cells #[.bool false] 4)).alloc (.cells #[.int .u8 30, .int .u8 49, .int .u8 10, .int .u8 30, .int .u8 91, .int .u8 10, .int .u8 30, .int .u8 34, .int .u8 97, .int .u8 34, .int .u8 10] 5)) = .ok (.slice (some ⟨w.heap.size + 1, 0, none⟩) 11 11) W1 := hcv
  clear hcv
  refine (callsIn_wide (n := 6)).1 ?_
  refine callsIn_of_wp_marks Tryz.func24 rfl trivial ?_ rfl
  simp only [Tryz.ntmps24, List.size_toArray, List.length_cons, List.length_nil, Nat.reduceAdd, Nat.reduceSub, Array.replicate_succ, Array.replicate_zero, List.push_toArray, List.append_toArray, List.nil_append, List.cons_append]
  gi_wp2_with fail
  refine ⟨trivial, ?_⟩
  refine (callsIn_wide.2 (HALL.out)).mono ?_
  rintro e w2 ⟨db, rb, v, rfl, hdb, hrb, hw2, hb2⟩
  have hb : Below w.heap.size w w2 := chain HB1.out hb2
  have hres2 := keep HRES.out hb2
  have HB := Lib.hid hb
  have HDB := Lib.hid hdb
  have HRB := Lib.hid hrb
  have HW2 := Lib.hid hw2
  have hrc : w2.cell? ⟨w.heap.size, 0, none⟩ = some (.bool false) := cell_of_one hres2
  have hrf : w2.frozen? ⟨w.heap.size, 0, none⟩ = false := free_of_one hres2
  have HRES2 := Lib.hid hres2
  have hfn : ∀ w : World, (binOp .eql 70 (.func (.func 66) #[] #[.pointer (some ⟨db, 0, none⟩), .pointer (some ⟨rb, 0, none⟩)]) .nilFunc).run Tryz.prog w = .ok (.bool false) w := fun _ => by kernel_rfl
  have hrecs := recs_works po
  have hseq := all1_any po 5 db rb 4 worksBytes v w2 (by decide) (by decide) HDB.out HRB.out HW2.out (by decide) (fun done rest h hs _ => works_fit po done rest h hs) (fun _ _ => works_fit2 po)
  rw [show ((((Rd.new 4).feed po worksBytes).done po).recs) = _ from hrecs] at hseq
  have HSEQ := Lib.hid hseq
  clear hb hres2 hdb hrb hw2 hb2 hcv2 hrecs hseq
  gi_wp2_with fail
  have hib : (w2.alloc (.cells #[.int .i64 0] 3)).heap[w2.heap.size]? = some (.cells #[.int .i64 0] 3 (0, 0)) := heap_alloc_new w2 _
  have hrs : (w2.alloc (.cells #[.int .i64 0] 3)).heap[w.heap.size]? = some (.cells #[.bool false] 4 (0, 0)) := (Below.heap_alloc _ _ _ (lt_of_block HRES2.out)).trans HRES2.out
  refine range_law (gf := 66) (lb := #[.pointer (some ⟨db, 0, none⟩), .pointer (some ⟨rb, 0, none⟩)]) rfl (enters_of Tryz.func66 (by kernel_rfl) rfl) HSEQ.out ((Below.refl _ _).alloc (Nat.le_refl _) _) (fun _ => rfl)
    (WorksAt w.heap.size w2.heap.size w) (WorksAt.minds (by simp) (by have := lt_of_block HRES2.out; simp; omega) rfl) ⟨hib, hrs, HB.out.alloc HB.out.size _⟩
    (fun pre x a1 W => a1 = { tmps := (.pointer (some ⟨w.heap.size, 0, none⟩) :: (.func (.func 66) #[] #[.pointer (some ⟨db, 0, none⟩), .pointer (some ⟨rb, 0, none⟩)]) :: .nilIface :: .pointer (some ⟨w2.heap.size, 0, none⟩) :: .pointer x.q :: x.e :: undef :: undef :: (.tuple #[(.func (.func 66) #[] #[.pointer (some ⟨db, 0, none⟩), .pointer (some ⟨rb, 0, none⟩)]), .nilIface]) :: (.slice (some ⟨w.heap.size + 1, 0, none⟩) 11 11) :: (.slice (some ⟨w.heap.size + 1, 0, none⟩) 11 11) :: (.tuple #[(.func (.func 66) #[] #[.pointer (some ⟨db, 0, none⟩), .pointer (some ⟨rb, 0, none⟩)]), .nilIface]) :: (.func (.func 66) #[] #[.pointer (some ⟨db, 0, none⟩), .pointer (some ⟨rb, 0, none⟩)]) :: .nilIface :: .nilIface :: .bool false :: .bool false :: (.func (.func 66) #[] #[.pointer (some ⟨db, 0, none⟩), .pointer (some ⟨rb, 0, none⟩)]) :: .bool false :: .bool false :: (.func (.func 66) #[] #[.pointer (some ⟨db, 0, none⟩), .pointer (some ⟨rb, 0, none⟩)]) :: .pointer x.q :: x.e :: undef :: undef :: undef :: undef :: undef :: undef :: undef :: undef :: undef :: undef :: undef :: undef :: undef :: undef :: undef :: undef :: undef :: undef :: undef :: undef :: undef :: undef :: undef :: undef :: undef :: undef :: undef :: undef :: undef :: undef :: undef :: undef :: ([] : List Value)).toArray, defers := [] } ∧ WorksAt w.heap.size w2.heap.size w pre W ∧ RecIs [.ok (.num 4607182418800017408), .error (95, 6), .ok (.text [97])] pre.length x W) ?minds ?assign ?body ?done
  case minds =>
    rintro pre x a1 A C ⟨h1, h2, h3⟩ hk
    exact ⟨h1, WorksAt.minds (by simp) (by have := lt_of_block HRES2.out; simp; omega) rfl pre A C h2 hk, RecIs.minds _ _ _ _ A C h3 hk⟩
  case assign =>
    rintro l pre x W K hi hx hK
    dsimp only [recEnc]
    gi_wp2_with fail
    exact hK _ _ (KeepsOthers.refl _) (Stays.refl _) ⟨rfl, hi, hx⟩
  case body =>
    rintro l pre x a1 W ⟨rfl, ⟨hi, hr, hB⟩, hrk, hra⟩
    have hHI := Lib.hid hi
    have hHR := Lib.hid hr
    have hHB := Lib.hid hB
    have hne : w.heap.size ≠ w2.heap.size := by have := lt_of_block HRES2.out; omega
    have HNE := Lib.hid hne
    have hst : KeepsOthers W W := KeepsOthers.refl W
    obtain ⟨k, hk⟩ : ∃ k, pre.length = k := ⟨_, rfl⟩
    have hlen : (pre ++ [x]).length = k + 1 := by rw [List.length_append, hk]; rfl
    have HLEN := Lib.hid hlen
    have HKL := Lib.hid hk
    have hend : ∀ W', W' = W.setCell ⟨w2.heap.size, 0, none⟩ (.int .i64 ((k + 1 : Nat) : Int)) → KeepsOthers W W' ∧ Stays W W' ∧ WorksAt w.heap.size w2.heap.size w (pre ++ [x]) W' := by
      rintro W' rfl
      refine ⟨KeepsOthers.setCell _ _ _, stays_set hi (.inl rfl) _, ?_, ?_, ?_⟩
      · rw [hlen]; exact set_at hi _
      · exact (set_else _ (by exact hne)).trans hr
      · exact hB.setCell (p := ⟨w2.heap.size, 0, none⟩) (by have := lt_of_block HRES2.out; show w.heap.size ≤ w2.heap.size; omega) _
    have HEND := Lib.hid hend
    rw [hk] at hi hrk
    obtain ⟨q, e, it⟩ := x
    have hic : W.cell? ⟨w2.heap.size, 0, none⟩ = some (.int .i64 k) := cell_of_one hi
    have hif : W.frozen? ⟨w2.heap.size, 0, none⟩ = false := free_of_one hi
    clear hi hr hB hend hlen hk hne
    match k, hrk with
    | 0, hrk =>
      cases hrk
      obtain ⟨he, T, v, hq, _, _⟩ := hra
      cases hq
      simp only [] at he
      subst he
      have hic : W.cell? ⟨w2.heap.size, 0, none⟩ = some (.int .i64 0) := hic
      clear hrk HLEN hst
      gi_wp2_with fail
      exact HEND.out _ rfl
    | 1, hrk =>
      cases hrk
      obtain ⟨hq, he⟩ := hra
      cases hq
      simp only [] at he
      subst he
      have hic : W.cell? ⟨w2.heap.size, 0, none⟩ = some (.int .i64 1) := hic
      have hm : ∀ w, (Instr.typeAssert (.iface 151 (.agg #[.int .i64 95, .int .i64 6])) 26 151 true).run Tryz.prog w = .ok (.tuple #[.agg #[.int .i64 95, .int .i64 6], .bool true]) w := fun _ => by kernel_rfl
      clear hrk HLEN hst
      rw [show spotV 95 6 = .iface 151 (.agg #[.int .i64 95, .int .i64 6]) from rfl] at HEND ⊢
      have hib := lt_of_block (hHI.out)
      have hnew := heap_alloc_new W (.cells #[.int .i64 95, .int .i64 6] 151)
      have x1 : (W.alloc (.cells #[.int .i64 95, .int .i64 6] 151)).cell? ⟨W.heap.size, 1, none⟩ = some (.int .i64 6) := cell_at hnew
      have hic2 : (W.alloc (.cells #[.int .i64 95, .int .i64 6] 151)).cell? ⟨w2.heap.size, 0, none⟩ = some (.int .i64 1) := ((Keeps.refl (fun _ => False) W).alloc _).cell hic id
      have hif2 : (W.alloc (.cells #[.int .i64 95, .int .i64 6] 151)).frozen? ⟨w2.heap.size, 0, none⟩ = false := free_of_one ((Below.heap_alloc _ _ _ hib).trans hHI.out)
      clear hnew hic hif
      gi_wp2_with fail
      obtain ⟨g1, g2, g3, g4, g5⟩ := HEND.out _ rfl
      exact ⟨g1.trans (KeepsOthers.alloc _ _), g2.trans (stays_alloc _ _), (Below.heap_alloc _ _ _ (lt_of_block g3)).trans g3, (Below.heap_alloc _ _ _ (lt_of_block g4)).trans g4, g5.alloc g5.size _⟩
    | 2, hrk =>
      cases hrk
      obtain ⟨he, T, v, hq, _, _⟩ := hra
      cases hq
      simp only [] at he
      subst he
      have hic : W.cell? ⟨w2.heap.size, 0, none⟩ = some (.int .i64 2) := hic
      clear hrk HLEN hst
      gi_wp2_with fail
      exact HEND.out _ rfl
    | k + 3, hrk => simp at hrk
  case done =>
    rintro D xs W hD hS ⟨hi, hr, hB⟩ hK
    have hl : xs.length = 3 := by have := congrArg List.length hS; simpa using this
    rw [hl] at hi
    have hic : W.cell? ⟨w2.heap.size, 0, none⟩ = some (.int .i64 3) := cell_of_one hi
    have hif : W.frozen? ⟨w2.heap.size, 0, none⟩ = false := free_of_one hi
    have hrc2 : W.cell? ⟨w.heap.size, 0, none⟩ = some (.bool false) := cell_of_one hr
    have hrf2 : W.frozen? ⟨w.heap.size, 0, none⟩ = false := free_of_one hr
    have HB3 := Lib.hid hB
    have HR3 := Lib.hid hr
    have HK3 := Lib.hid hK
    have HD3 := Lib.hid hD
    clear hi hr hB hS hl hK hD
    gi_wp2_with fail
    refine ⟨by simp, .inl ⟨_, _, rfl, run_takeDeferred ((KeepsOthers.setCell _ _ _).same D _ HK3.out rfl), ?_⟩⟩
    have hr4 : (W.setCell ⟨w.heap.size, 0, none⟩ (.bool true)).heap[w.heap.size]? = some (.cells #[.bool true] 4 (0, 0)) := set_at HR3.out _
    have hr5 : ((W.setCell ⟨w.heap.size, 0, none⟩ (.bool true)).putObj D (.deferred none)).heap[w.heap.size]? = some (.cells #[.bool true] 4 (0, 0)) :=
      (World.putObj_heap_other (by have h := HD3.out; rw [World.size_alloc] at h; have := lt_of_block HRES2.out; omega)).trans hr4
    have hc5 := cell_of_one hr5
    refine ⟨_, (by simp [results, Tryz.results24, go_sem, hc5]), rfl, ?_⟩
    have hb4 := HB3.out.setCell (p := ⟨w.heap.size, 0, none⟩) (Nat.le_refl _) (.bool true)
    exact hb4.trans ((keeps_putObj (F := fun k => k = D) (.deferred none) rfl).toBelow hb4.size (fun k e => by subst e; have h := HD3.out; rw [World.size_alloc] at h; have := lt_of_block HRES2.out; omega))
end
end Go.Proofs.YtakkmiomhackiaaGreatDoor

/-
  bytes.Repeat of one byte, more than 8192 times.
-/
namespace Go.Proofs.YtakkmiomhackiaaGreatDoor
open Go.RowKit
set_option maxRecDepth 100000

/-- The first k cells of block b are x. -/
def Filled (w : World) (b n k : Nat) (x : UInt8) : Prop :=
  ∃ cs : List Value, w.heap[b]? = some (.cells cs.toArray 5 (0, 0)) ∧ n ≤ cs.length ∧ ∀ i, i < k → cs[i]? = some (encB x)
theorem Filled.splice {w' : World} {b n k m : Nat} {x : UInt8} {cs : List Value} (hn : n ≤ cs.length) (hk : ∀ i, i < k → cs[i]? = some (encB x)) (hm : k + m ≤ n)
    (hg : w'.heap[b]? = some (.cells (splice cs k (List.replicate m (encB x))).toArray 5 (0, 0))) : Filled w' b n (k + m) x := by
  refine ⟨_, hg, by rw [length_splice _ _ _ (by simp; omega)]; exact hn, fun i hi => ?_⟩
  unfold Go.splice
  by_cases h : i < k
  · rw [List.getElem?_append_left (by rw [List.length_take]; omega), List.getElem?_take, if_pos h]; exact hk i h
  · rw [List.getElem?_append_right (by rw [List.length_take]; omega), List.getElem?_append_left (by rw [List.length_take, List.length_replicate]; omega), List.getElem?_replicate, if_pos (by rw [List.length_take]; omega)]

set_option maxHeartbeats 1000000 in
theorem repeat_any (w : World) (g o cap n : Nat) (x : UInt8) (h1 : 8192 < n) (h2 : n ≤ 1073741824) (hc : w.cell? ⟨g, o, none⟩ = some (encB x)) :
    Calls Tryz.prog 25 #[.slice (some ⟨g, o, none⟩) 1 cap, .int .i64 n] w fun e w' => ∃ b, e = .returned (.slice (some ⟨b, 0, none⟩) n n) ∧ w.heap.size ≤ b ∧ b < w'.heap.size ∧ Filled w' b n n x ∧ Below w.heap.size w w' := by
  obtain ⟨cs, hrunM, hle, _⟩ := Lib.run_makeNoZero (P := Tryz.prog) w #[3] 22 5 Tryz.underlying22 n (by omega)
  have hcall : (callFunc 62 #[.int .i64 (n : Int)]).run Tryz.prog w = .ok (.value (.slice (some ⟨w.heap.size, 0, none⟩) n cs.size)) ((w.alloc (.cells cs 5)).drewN 2) := by
    rw [run_callFunc_extern Tryz.func62 (by kernel_rfl) (by kernel_rfl) (by kernel_rfl) (e := Extern.BytealgMakeNoZero.makeNoZero #[3] #[22]) (by kernel_rfl), hrunM]
    rfl
  clear hrunM
  have HM := Lib.hid (Tryz.bits_Mul 1 n (by omega) (by omega) w)
  have i1 : (n : Int) ≤ (cs.size : Int) := by omega
  have i2 : (8192 : Int) < (n : Int) := by omega
  have i3 : (n : Int) ≤ 1073741824 := by omega
  go_enter Tryz.func25, Tryz.ntmps25
  go_wp2_with fail
  refine (HM.out).mono ?_
  rintro e w1 ⟨rfl, rfl⟩
  rw [show 1 * n / 18446744073709551616 = 0 by omega, show 1 * n % 18446744073709551616 = n by omega]
  obtain ⟨b, hb⟩ : ∃ b, w1.heap.size = b := ⟨_, rfl⟩
  have hbl : Below b w1 ((w1.alloc (.cells cs 5)).drewN 2) := by
    subst hb
    exact ⟨rfl, rfl, rfl, by simp, fun k hk => Below.heap_alloc w1 _ k hk⟩
  have hblk : ((w1.alloc (.cells cs 5)).drewN 2).heap[b]? = some (.cells cs.toList.toArray 5 (0, 0)) := by
    subst hb
    show (w1.alloc (.cells cs 5)).heap[w1.heap.size]? = _
    rw [heap_alloc_new]
  have hcc : ((w1.alloc (.cells cs 5)).drewN 2).cell? ⟨g, o, none⟩ = some (encB x) := (hbl.cell (hb ▸ World.block_lt_of_cell? w1 _ hc)).trans hc
  rw [hb] at hcall
  generalize hw2 : (w1.alloc (.cells cs 5)).drewN 2 = w2 at *
  have HB := Lib.hid hb
  clear hw2 hb
  go_wp2_with (with_reducible refine wpList_copy_splice rfl (.tmp 58) (.tmp 59) 22 22 rfl 5 Tryz.underlying22 (by kernel_rfl) (some ⟨b, 0, none⟩) (some ⟨g, o, none⟩) n n 1 cap rfl rfl b 0 cs.toList 5 hblk [encB x] ?_ ?_ ?_ ?_ b w1 hbl (Nat.le_refl _) ?_)
  · simp [Nat.min_def]; omega
  · intro j v hj
    cases j with
    | zero => cases hj; simpa [Addr.add] using hcc
    | succ j => cases hj
  · simp; omega
  · intro v hv; simp at hv; subst hv; rfl
  intro w3 hg3 hb3
  have HF0 : Filled w3 b n 1 x := Filled.splice (k := 0) (m := 1) (cs := cs.toList) (by simpa using hle) (fun i hi => absurd hi (by omega)) (by omega) hg3.out
  clear hg3 hblk hcc hbl
  go_wp2_with fail
  go_loopw [10] (fun v wr => ∃ k : Nat, 1 ≤ k ∧ k ≤ n ∧ v = .int .i64 k ∧ Hid (Filled wr b n k x) ∧ Below b w1 wr) (fun v _ => n - (intOf v).toNat)
  case atStart => exact ⟨1, by omega, by omega, rfl, Lib.hid HF0, hb3⟩
  case round =>
    obtain ⟨k, hk1, hk2, rfl, HF, hbr⟩ := hrel
    by_cases hlt : k < n
    · obtain ⟨cs2, hg2, hn2, hk3⟩ := HF.out
      obtain ⟨c, hcm, hc1, hc2, hc3⟩ : ∃ c : Nat, min (k : Int) 8192 = (c : Int) ∧ 1 ≤ c ∧ c ≤ k ∧ c ≤ 8192 := ⟨min k 8192, by omega, by omega, by omega, by omega⟩
      have j1 : (c : Int) ≤ (n : Int) := by omega
      have j2 : (k : Int) < (n : Int) := by omega
      have j3 : (k : Int) ≤ (n : Int) := by omega
      obtain ⟨m, hmm, hm1, hm2, hm3⟩ : ∃ m, Nat.min c (n - k) = m ∧ 1 ≤ m ∧ k + m ≤ n ∧ m ≤ c := ⟨min c (n - k), rfl, by omega, by omega, by omega⟩
      have HMM := Lib.hid hmm
      clear hmm
      go_wp2_with fail
      have j4 : ¬ (n : Nat) = k := by omega
      have j5 : ¬ k = 0 := by omega
      have j6 : ¬ n - k = 0 := by omega
      have hbd : Below b w1 wr.drew := hbr.drew
      have hgd : wr.drew.heap[b]? = some (.cells cs2.toArray 5 (0, 0)) := hg2
      have hcn : (List.replicate m (encB x)).length = Nat.min c (n - k) := by rw [List.length_replicate, HMM.out]
      have hps : 0 < (List.replicate m (encB x)).length → (some ⟨b, k, none⟩ : Option Addr) = some ⟨b, k, none⟩ ∧ ∃ ad, (some ⟨b, 0, none⟩ : Option Addr) = some ad ∧ ∀ j v, (List.replicate m (encB x))[j]? = some v → wr.drew.cell? (ad.add j) = some v := fun _ => ⟨rfl, _, rfl, fun j v hj => by
        rw [List.getElem?_replicate] at hj
        by_cases hjm : j < m
        · rw [if_pos hjm] at hj; cases hj
          have := hk3 j (by omega)
          rw [show (⟨b, 0, none⟩ : Addr).add j = ⟨b, j, none⟩ by unfold Addr.add; split <;> simp_all, cell_at hgd]
          simpa using this
        · rw [if_neg hjm] at hj; cases hj⟩
      have hft : k + (List.replicate m (encB x)).length ≤ cs2.length := by rw [List.length_replicate]; omega
      have hon : ∀ v ∈ List.replicate m (encB x), v.oneCell' = true := fun v hv => by rw [(List.mem_replicate.1 hv).2]; rfl
      go_region_law (refine step_copy_splice rfl (.tmp 70) (.tmp 73) 22 22 rfl 5 Tryz.underlying22 (by kernel_rfl) (some ⟨b, k, none⟩) (some ⟨b, 0, none⟩) (n - k) (n - k) c n (by kernel_rfl) (by kernel_rfl) b k cs2 5 hgd (List.replicate m (encB x)) hcn hps hft hon b w1 hbd (Nat.le_refl _) ?_; intro w4 hg4 hb4)
      have HFN := Lib.hid (Filled.splice hn2 hk3 hm2 hg4.out)
      clear hg4 hg2 hgd hk3 hps
      try go_wp2_with fail
      go_simp
      simp only [HMM.out]
      go_roundw
      case rel =>
        have hw : IntKind.i64.wrap ((k : Int) + (m : Int)) = ((k + m : Nat) : Int) := by rw [IntKind.wrap_i64]; omega
        exact ⟨k + m, by omega, by omega, hw, HFN⟩
      case measure =>
        have hw : IntKind.i64.wrap ((k : Int) + (m : Int)) = ((k + m : Nat) : Int) := by rw [IntKind.wrap_i64]; omega
        rw [hw]
        show n - (((k + m : Nat) : Int)).toNat < n - ((k : Int)).toNat
        omega
    · have hkn : k = n := by omega
      subst hkn
      obtain ⟨cs2, hg2, hn2, hk3⟩ := HF.out
      have hlt2 := lt_of_block hg2
      go_wp2_with fail
      exact bodyPost_ret (v := .slice (some ⟨b, 0, none⟩) k k) (by simp [results, Tryz.results25, go_sem]) rfl ⟨b, rfl, Nat.le_of_eq HB.out, hlt2, HF.out, HB.out ▸ hbr⟩
end Go.Proofs.YtakkmiomhackiaaGreatDoor
