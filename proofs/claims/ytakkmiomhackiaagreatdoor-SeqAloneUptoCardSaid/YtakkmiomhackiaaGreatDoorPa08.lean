/-
  The program, one part of its walk: Ud, Ut1, Ut2, Lx2. Conditions: none.
-/
import Derived.Test.YtakkmiomhackiaaGreatDoorPa03
import Derived.Test.YtakkmiomhackiaaGreatDoorPa07
import Derived.Sort.Grow
import Derived.Laws.EntriesVeiled
import Derived.Test.YtakkmiomhackiaaGreatDoorPa00
set_option linter.all false
set_option maxRecDepth 100000
set_option maxHeartbeats 16000000
open Go.Proofs.Tryz
namespace Go.Proofs.YtakkmiomhackiaaGreatDoor.Dr
open Go.RowKit
structure Below (B : Nat) (w w' : World) : Prop where
 os : w'.os = w.os
 tape : w'.tape = w.tape
 output : w'.output = w.output
 size : w.heap.size ≤ w'.heap.size
 block : ∀ k, k < B → w'.heap[k]? = w.heap[k]?
 drawn : w.drawn ≤ w'.drawn
theorem Below.plain {B : Nat} {w w' : World} (h : Below B w w') : RowKit.Below B w w' := ⟨h.os, h.tape, h.output, h.size, h.block⟩
theorem Below.refl (B : Nat) (w : World) : Below B w w := ⟨rfl, rfl, rfl, Nat.le_refl _, fun _ _ => rfl, Nat.le_refl _⟩
theorem Below.trans {B : Nat} {a b c : World} (h : Below B a b) (k : Below B b c) : Below B a c :=
 ⟨k.os.trans h.os, k.tape.trans h.tape, k.output.trans h.output, Nat.le_trans h.size k.size, fun i hi => (k.block i hi).trans (h.block i hi), Nat.le_trans h.drawn k.drawn⟩
theorem Below.mono {B B' : Nat} {w w' : World} (h : Below B w w') (hB : B' ≤ B) : Below B' w w' := ⟨h.os, h.tape, h.output, h.size, fun k hk => h.block k (Nat.lt_of_lt_of_le hk hB), h.drawn⟩
theorem Below.drew {B : Nat} {a w : World} (h : Below B a w) : Below B a w.drew := ⟨h.os, h.tape, h.output, h.size, h.block, Nat.le_succ_of_le h.drawn⟩
theorem Below.alloc {B : Nat} {a w : World} (h : Below B a w) (hB : B ≤ w.heap.size) (o : Obj) : Below B a (w.alloc o) :=
 h.trans ⟨rfl, rfl, rfl, by simp, fun k hk => RowKit.Below.heap_alloc _ _ _ (by omega), Nat.le_refl _⟩
theorem Below.cell {B : Nat} {w w' : World} (h : Below B w w') {p : Addr} (hp : p.block < B) : w'.cell? p = w.cell? p := h.plain.cell hp
theorem after1 {w w1 : World} {o1 : Obj} (h : Below (w.alloc o1).heap.size (w.alloc o1) w1) : w1.heap[w.heap.size]? = some o1 ∧ Below w.heap.size w w1 ∧ w.heap.size + 1 ≤ w1.heap.size := by
 refine ⟨(h.block _ (by simp)).trans (heap_alloc_new w o1), ((Below.refl _ _).alloc (Nat.le_refl _) _).trans (h.mono (by simp)), by simpa using h.size⟩
theorem after2 {w w1 : World} {o1 o2 : Obj} (h : Below ((w.alloc o1).alloc o2).heap.size ((w.alloc o1).alloc o2) w1) : w1.heap[w.heap.size]? = some o1 ∧ w1.heap[w.heap.size + 1]? = some o2 ∧ Below w.heap.size w w1 ∧ w.heap.size + 2 ≤ w1.heap.size := by
 have h1 := after1 h;have h3 := after1 h1.2.1;exact ⟨h3.1, by simpa using h1.1, h3.2.1, by simpa using h1.2.2⟩
theorem keep {w1 w2 : World} {b : Nat} {o : Obj} (h : w1.heap[b]? = some o) (hb : Below w1.heap.size w1 w2) : w2.heap[b]? = some o := (hb.block b (lt_of_block h)).trans h
theorem chain {w w1 w2 : World} (h : Below w.heap.size w w1) (hb : Below w1.heap.size w1 w2) : Below w.heap.size w w2 := h.trans (hb.mono h.size)
structure Keeps (F : Nat → Prop) (w w' : World) : Prop where
 os : w'.os = w.os
 tape : w'.tape = w.tape
 output : w'.output = w.output
 size : w.heap.size ≤ w'.heap.size
 block : ∀ k, k < w.heap.size → ¬ F k → w'.heap[k]? = w.heap[k]?
 drawn : w.drawn ≤ w'.drawn
section
variable {F G : Nat → Prop} {w w' w1 w2 : World}
theorem Keeps.plain (h : Keeps F w w') : YtakkmiomhackiaaGreatDoor.Keeps F w w' := ⟨h.os, h.tape, h.output, h.size, h.block⟩
theorem Keeps.refl (F : Nat → Prop) (w : World) : Keeps F w w := ⟨rfl, rfl, rfl, Nat.le_refl _, fun _ _ _ => rfl, Nat.le_refl _⟩
theorem Keeps.mono (h : Keeps F w w') (hf : ∀ k, F k → G k) : Keeps G w w' := ⟨h.os, h.tape, h.output, h.size, fun k hk hg => h.block k hk (fun hF => hg (hf k hF)), h.drawn⟩
theorem Keeps.trans (h : Keeps F w w1) (h2 : Keeps G w1 w2) (hg : ∀ k, G k → F k ∨ w.heap.size ≤ k) : Keeps F w w2 :=
 have p := h.plain.trans h2.plain hg
 ⟨p.os, p.tape, p.output, p.size, p.block, Nat.le_trans h.drawn h2.drawn⟩
theorem Keeps.same (h : Keeps F w w1) (h2 : Keeps F w1 w2) : Keeps F w w2 := h.trans h2 fun _ hk => .inl hk
theorem Keeps.alloc (h : Keeps F w w1) (o : Obj) : Keeps F w (w1.alloc o) :=
 have p := h.plain.alloc o
 ⟨p.os, p.tape, p.output, p.size, p.block, h.drawn⟩
theorem Keeps.setCell (h : Keeps F w w1) {p : Addr} (hp : F p.block ∨ w.heap.size ≤ p.block) (u : Value) : Keeps F w (w1.setCell p u) :=
 have p := h.plain.setCell hp u
 ⟨p.os, p.tape, p.output, p.size, p.block, h.drawn⟩
theorem Keeps.drew (h : Keeps F w w1) : Keeps F w w1.drew := ⟨h.os, h.tape, h.output, h.size, h.block, Nat.le_succ_of_le h.drawn⟩
theorem Keeps.below (h : Keeps F w w1) (h2 : Below w1.heap.size w1 w2) : Keeps F w w2 :=
 have p := h.plain.below h2.plain
 ⟨p.os, p.tape, p.output, p.size, p.block, Nat.le_trans h.drawn h2.drawn⟩
theorem Keeps.of_below (F : Nat → Prop) (h : Below w.heap.size w w') : Keeps F w w' := (Keeps.refl F w).below h
theorem Keeps.toBelow (h : Keeps F w w') {n : Nat} (hn : n ≤ w.heap.size) (hF : ∀ k, F k → n ≤ k) : Below n w w' :=
 have p := h.plain.toBelow hn hF
 ⟨p.os, p.tape, p.output, p.size, p.block, h.drawn⟩
theorem Keeps.blk (h : Keeps F w w') {k : Nat} {o : Obj} (hk : w.heap[k]? = some o) (hF : ¬ F k) : w'.heap[k]? = some o := (h.block k (lt_of_block hk) hF).trans hk
theorem Keeps.cell (h : Keeps F w w') {p : Addr} {v : Value} (hk : w.cell? p = some v) (hF : ¬ F p.block) : w'.cell? p = some v := h.plain.cell hk hF
end
theorem Below.grew {w w' : World} (h : Below w.heap.size w w') : ∃ q os', w' = Sort.grow (w.drewN q) os' := by
 refine ⟨w'.drawn - w.drawn, w'.heap.extract w.heap.size w'.heap.size, ?_⟩;obtain ⟨h1, h2, h3, h4, h5, h6⟩ := h;cases w with
 | mk hp tp dr os out =>
 cases w' with
 | mk hp' tp' dr' os' out' =>
 simp only at h1 h2 h3 h4 h5 h6;subst h1; subst h2; subst h3;unfold Sort.grow World.drewN;simp only [World.mk.injEq, and_true, true_and];refine ⟨?_, by omega⟩;apply Array.ext_getElem?;intro i
 by_cases hi : i < hp.size
 ·rw [h5 i hi, Array.getElem?_append_left hi]
 ·rw [Array.getElem?_append_right (by omega), Array.getElem?_extract]
  by_cases hi2 : i < hp'.size
  ·rw [if_pos (by omega), show hp.size + (i - hp.size) = i by omega]
  ·rw [if_neg (by omega), Array.getElem?_eq_none (by omega)]
def formV (f : Form) : Value := .agg #[.int .i64 f.wide, .int .u8 f.low, .int .u8 f.high]
theorem formOf_any (c : UInt8) (w : World) : Calls prog 205 #[.int .u8 ((c.toNat : Nat) : Int)] w fun e w' => e = .returned (formV (formOf c)) ∧ Below w.heap.size w w' := by
 have hb := hZ (fun v : Array Value => (Below.refl w.heap.size w).alloc (Nat.le_refl _) (.cells v 349));obtain ⟨v, hf⟩ : ∃ v, formOf c = v := ⟨_, rfl⟩;rw [hf];unfold formOf at hf
 by_cases f0 : ((c.toNat : Nat) : Int) < 128
 rotate_left
 by_cases f1 : ((c.toNat : Nat) : Int) < 194
 rotate_left
 by_cases f2 : ((c.toNat : Nat) : Int) < 224
 rotate_left
 by_cases f3 : ((c.toNat : Nat) : Int) = 224
 rotate_left
 by_cases f4 : ((c.toNat : Nat) : Int) = 237
 rotate_left
 by_cases f5 : ((c.toNat : Nat) : Int) < 240
 rotate_left
 by_cases f6 : ((c.toNat : Nat) : Int) = 240
 rotate_left
 by_cases f7 : ((c.toNat : Nat) : Int) < 244
 rotate_left
 by_cases f8 : ((c.toNat : Nat) : Int) = 244
 all_goals
  repeat (first | rw [if_pos (by omega)] at hf | rw [if_neg (by omega)] at hf)
  subst hf
  try have e3 : (((c.toNat : Nat) : Int) == 224) = false := by simpa using f3
  try have e4 : (((c.toNat : Nat) : Int) == 237) = false := by simpa using f4
  try have e6 : (((c.toNat : Nat) : Int) == 240) = false := by simpa using f6
  try have e8 : (((c.toNat : Nat) : Int) == 244) = false := by simpa using f8
  go_enter func205, ntmps205;go_wp2;exact bodyPost_ret (by simp [results, results205, go_sem, formV]) rfl ⟨rfl, hb.out _⟩
theorem may_any (f : Form) (i : Nat) (c : UInt8) (w : World) : Calls prog 206 #[formV f, .int .i64 i, .int .u8 ((c.toNat : Nat) : Int)] w fun e w' => e = .returned (.bool (f.may i c)) ∧ Below w.heap.size w w' := by
 obtain ⟨wd, lo, hi⟩ := f;have hb := hZ (fun v : Array Value => (Below.refl w.heap.size w).alloc (Nat.le_refl _) (.cells v 349));obtain ⟨o, hm⟩ : ∃ o, (Form.mk wd lo hi).may i c = o := ⟨_, rfl⟩;rw [hm];unfold Form.may at hm;unfold formV;dsimp only at hm ⊢
 by_cases hi1 : i = 1
 subst hi1;rw [if_pos rfl] at hm
 by_cases f1 : (lo : Int) ≤ ((c.toNat : Nat) : Int)
 by_cases f2 : ((c.toNat : Nat) : Int) ≤ (hi : Int)
 rotate_left 3
 rw [if_neg hi1] at hm;have g1 : ¬ (i : Int) = 1 := by omega
 have g2 : ((i : Int) == 1) = false := by simpa using g1
 clear hi1
 by_cases f1 : (128 : Int) ≤ ((c.toNat : Nat) : Int)
 by_cases f2 : ((c.toNat : Nat) : Int) ≤ 191
 all_goals
  first
  | have hv : o = true := by rw [← hm]; simp; omega
  | have hv : o = false := by rw [← hm]; simp; omega
  subst hv;clear hm;go_enter func206, ntmps206;go_wp2;exact bodyPost_ret (by simp [results, results206, go_sem]) rfl ⟨rfl, hb.out _⟩
def HeldOk (held : List UInt8) : Prop := ∀ h t, held = h :: t → held.length < (formOf h).wide
theorem wide_le (c : UInt8) : (formOf c).wide ≤ 4 := by unfold formOf; repeat' (first | exact by decide | split)
theorem HeldOk.le {held : List UInt8} (h : HeldOk held) : held.length ≤ 3 := by
 cases held with
 | nil => exact Nat.zero_le _
 | cons a t => have := h a t rfl; have := wide_le a; omega
def Feeds (w : World) (b pl : Nat) (held : List UInt8) : Prop := HeldOk held ∧ ∃ a0 a1 a2 a3 : UInt8, w.heap[b]? = some (.cells #[.int .i64 pl, .int .u8 ((a0.toNat : Nat) : Int), .int .u8 ((a1.toNat : Nat) : Int), .int .u8 ((a2.toNat : Nat) : Int), .int .u8 ((a3.toNat : Nat) : Int), .int .i64 held.length, .bool false] 305 (0, 0)) ∧
 held = [a0, a1, a2, a3].take held.length
theorem Feeds.keeps {F : Nat → Prop} {w w' : World} {b pl : Nat} {held : List UInt8} (h : Feeds w b pl held) (hk : Keeps F w w') (hb : ¬ F b) : Feeds w' b pl held := by
 obtain ⟨h1, a0, a1, a2, a3, h2, h3⟩ := h;exact ⟨h1, a0, a1, a2, a3, hk.blk h2 hb, h3⟩
theorem cells7 {w : World} {b : Nat} {v0 v1 v2 v3 v4 v5 v6 : Value} {T : TypeId} (h : w.heap[b]? = some (.cells #[v0, v1, v2, v3, v4, v5, v6] T (0, 0))) : w.cell? ⟨b, 0, none⟩ = some v0 ∧ w.cell? ⟨b, 1, none⟩ = some v1 ∧ w.cell? ⟨b, 2, none⟩ = some v2 ∧ w.cell? ⟨b, 3, none⟩ = some v3 ∧ w.cell? ⟨b, 4, none⟩ = some v4 ∧ w.cell? ⟨b, 5, none⟩ = some v5 ∧ w.cell? ⟨b, 6, none⟩ = some v6 ∧ ∀ o, w.frozen? ⟨b, o, none⟩ = false :=
 ⟨cell_at h, cell_at h, cell_at h, cell_at h, cell_at h, cell_at h, cell_at h, free_at h⟩
theorem newFeeder_any (w : World) : Calls prog 137 #[] w fun e w' => e = .returned (.pointer (some ⟨w.heap.size, 0, none⟩)) ∧ Feeds w' w.heap.size 0 [] ∧ Below w.heap.size w w' ∧ w'.heap.size = w.heap.size + 1 := by
 go_enter func137, ntmps137;go_wp2;go_ret;refine ⟨rfl, ⟨(fun h t e => by cases e), 0, 0, 0, 0, heap_alloc_new w _, rfl⟩, (Below.refl _ _).alloc (Nat.le_refl _) _, by simp⟩
theorem held_any (w : World) (b pl : Nat) (held : List UInt8) (h : Feeds w b pl held) : Calls prog 167 #[.pointer (some ⟨b, 0, none⟩)] w fun e w' => e = .returned (.int .i64 held.length) ∧ w' = w := by
 obtain ⟨_, a0, a1, a2, a3, h2, h9⟩ := h;clear h9;obtain ⟨c0, c1, c2, c3, c4, c5, c6, cf⟩ := cells7 h2;clear h2;go_enter func167, ntmps167;go_wp2;go_ret;exact ⟨rfl, rfl⟩
def takeRet (w : World) (b pl : Nat) (held : List UInt8) (o : Option (List UInt8)) (e : Ending) (w' : World) : Prop := match o with
 | none => e = .returned (.bool false) ∧ Feeds w' b pl held
 | some h => e = .returned (.bool true) ∧ Feeds w' b pl h
theorem take0_any (w : World) (b pl : Nat) (c : UInt8) (h : Feeds w b pl []) : Calls prog 190 #[.pointer (some ⟨b, 0, none⟩), .int .u8 ((c.toNat : Nat) : Int)] w fun e w' => takeRet w b pl [] (feedOne [] c) e w' ∧ Keeps (fun k => k = b) w w' := by
 obtain ⟨hok, a0, a1, a2, a3, h2, h9⟩ := h;clear h9;obtain ⟨c0, c1, c2, c3, c4, c5, c6, cf⟩ := cells7 h2;have H2 := hZ h2;have hlt := lt_of_block h2;have HF := hZ (formOf_any c);have hfo : feedOne [] c = if (formOf c).wide = 0 then none else if 1 < (formOf c).wide then some [c] else some [] := rfl
 rw [hfo];have hwl := wide_le c;have hok1 : 1 < (formOf c).wide → HeldOk [c] := fun hh x t e => by injection e with e1 e2; subst e1; simpa using hh
 have HOK := hZ hok1;have HOK0 := hZ hok;clear h2 hfo hok1 hok;obtain ⟨f, hf⟩ : ∃ f, formOf c = f := ⟨_, rfl⟩;rw [hf] at HF HOK hwl ⊢;clear hf;obtain ⟨n, lo, hi⟩ := f;simp only at hwl HOK
 by_cases hn0 : n = 0
 ·subst hn0;rw [if_pos rfl];go_enter func190, ntmps190;go_wp2_with fail;refine (HF.out _).mono ?_;rintro e w1 ⟨rfl, hb⟩;unfold formV;have hbx := hZ (fun o => hb.alloc hb.size o);clear hb;go_wp2_with fail;go_ret;exact ⟨⟨rfl, HOK0.out, a0, a1, a2, a3, ((hbx.out _).block b hlt).trans H2.out, rfl⟩, Keeps.of_below _ (hbx.out _)⟩
 ·rw [if_neg hn0]
  by_cases hn1 : 1 < n
  ·rw [if_pos hn1];have g1 : (1 : Int) < (n : Int) := by omega
   have g0 : ((n : Int) == 0) = false := by simpa using hn0
   go_enter func190, ntmps190;go_wp2_with fail;refine (HF.out _).mono ?_;rintro e w1 ⟨rfl, hb⟩;unfold formV;have hbx := hb.alloc hb.size (.cells #[.int .i64 n, .int .u8 lo, .int .u8 hi] 349);have h3 := (hbx.block b hlt).trans H2.out;obtain ⟨d0, d1, d2, d3, d4, d5, d6, df⟩ := cells7 h3;have H3 := hZ h3;have HBX := hZ hbx;clear hb h3 hbx;go_wp2_with fail;go_ret;exact ⟨⟨rfl, HOK.out hn1, c, a1, a2, a3, set_at (set_at H3.out _) _, rfl⟩, ((Keeps.of_below (fun k => k = b) HBX.out).setCell (p := ⟨b, 1, none⟩) (.inl rfl) _).setCell (p := ⟨b, 5, none⟩) (.inl rfl) _⟩
  ·rw [if_neg hn1];have hn2 : n = 1 := by omega
   subst hn2;go_enter func190, ntmps190;go_wp2_with fail;refine (HF.out _).mono ?_;rintro e w1 ⟨rfl, hb⟩;unfold formV;have hbx := hZ (fun o => hb.alloc hb.size o);clear hb;go_wp2_with fail;go_ret;exact ⟨⟨rfl, HOK0.out, a0, a1, a2, a3, ((hbx.out _).block b hlt).trans H2.out, rfl⟩, Keeps.of_below _ (hbx.out _)⟩
theorem take1_any (w : World) (b pl : Nat) (c b0 : UInt8) (h : Feeds w b pl [b0]) : Calls prog 190 #[.pointer (some ⟨b, 0, none⟩), .int .u8 ((c.toNat : Nat) : Int)] w fun e w' => takeRet w b pl [b0] (feedOne [b0] c) e w' ∧ Keeps (fun k => k = b) w w' := by
 obtain ⟨hok, a0, a1, a2, a3, h2, h9⟩ := h;have hl : 1 < (formOf b0).wide := hok _ _ rfl;simp only [List.length_cons, List.length_nil, Nat.reduceAdd, List.take_succ_cons, List.take_zero, List.cons.injEq, and_true] at h2 h9;obtain rfl := h9;obtain ⟨c0, c1, c2, c3, c4, c5, c6, cf⟩ := cells7 h2;have H2 := hZ h2;have hlt := lt_of_block h2;have HF := hZ (formOf_any b0);have HM : Hid (∀ w, Calls prog 206 #[formV (formOf b0), .int .i64 (1 : Int), .int .u8 ((c.toNat : Nat) : Int)] w fun e w' => e = .returned (.bool ((formOf b0).may 1 c)) ∧ Below w.heap.size w w') := hZ fun w => may_any (formOf b0) 1 c w
 have hwl := wide_le b0;obtain ⟨o, hfo⟩ : ∃ o, feedOne [b0] c = o := ⟨_, rfl⟩;rw [hfo];rw [show feedOne [b0] c = if (formOf b0).may 1 c then (if 1 + 1 = (formOf b0).wide then some [] else some [b0, c]) else none from rfl] at hfo;have hok1 : ¬ 1 + 1 = (formOf b0).wide → HeldOk [b0, c] := fun hh x t e => by injection e with e1 e2; subst e1; show 1 + 1 < _; omega
 have HOK := hZ hok1;have HOK0 := hZ hok;clear h2 hok1 hok;generalize formOf b0 = f at *;obtain ⟨n, lo, hi⟩ := f;simp only at hwl HOK hl hfo;generalize (Form.mk n lo hi).may 1 c = m at *;unfold formV at HF HM;have HFO := hZ hfo;clear hfo;go_enter func190, ntmps190;go_wp2_with fail;refine (HF.out _).mono ?_;rintro e w1 ⟨rfl, hb⟩;have hbx := hb.alloc hb.size (.cells #[.int .i64 n, .int .u8 lo, .int .u8 hi] 349);have h3 := (hbx.block b hlt).trans H2.out;have h6 := heap_alloc_new w1 (.cells #[.int .i64 n, .int .u8 lo, .int .u8 hi] 349);have hlt1 := lt_of_block h3;have hne := lt_of_block ((hb.block b hlt).trans H2.out);obtain ⟨d0, d1, d2, d3, d4, d5, d6, df⟩ := cells7 h3;obtain ⟨q0, q1, q2, qf⟩ := cells3 h6;have H3 := hZ h3;have H6 := hZ h6;have HBX := hZ hbx;clear hb h3 h6 hbx;go_wp2_with fail;generalize w1.alloc (.cells #[.int .i64 n, .int .u8 lo, .int .u8 hi] 349) = w2 at *
 go_region_held3 (fun w' => w'.cell? ⟨w1.heap.size, 0, none⟩ = some (.int .i64 n) ∧ w'.cell? ⟨w1.heap.size, 1, none⟩ = some (.int .u8 lo) ∧ w'.cell? ⟨w1.heap.size, 2, none⟩ = some (.int .u8 hi) ∧ w'.cell? ⟨b, 5, none⟩ = some (.int .i64 1)) (first | exact ⟨hx1, hx2, hx3, hx4⟩ | go_keep)
  ((go_at_call 206; (with_reducible refine (HM.out _).mono ?_); rintro e wx ⟨rfl, hbx⟩; have hx1 := (hbx.cell (p := ⟨w1.heap.size, 0, none⟩) (by simpa using lt_of_block H6.out)).trans q0; have hx2 := (hbx.cell (p := ⟨w1.heap.size, 1, none⟩) (by simpa using lt_of_block H6.out)).trans q1; have hx3 := (hbx.cell (p := ⟨w1.heap.size, 2, none⟩) (by simpa using lt_of_block H6.out)).trans q2; have hx4 := (hbx.cell (p := ⟨b, 5, none⟩) (by simpa using lt_of_block H3.out)).trans d5))
 have H3 := hZ (keep (w1 := w2.drew) H3.out hbx);have H6 := hZ (keep (w1 := w2.drew) H6.out hbx);have HBX := hZ (chain HBX.out.drew hbx);clear hbx hx1 hx2 hx3 hx4 d0 d1 d2 d3 d4 d5 d6 df q0 q1 q2 qf;cases m with
 | false =>
  obtain rfl := HFO.out;go_wp2_with fail;go_ret;exact ⟨⟨rfl, HOK0.out, _, _, _, _, H3.out, rfl⟩, Keeps.of_below _ HBX.out⟩
 | true =>
  obtain ⟨d0, d1, d2, d3, d4, d5, d6, df⟩ := cells7 H3.out;obtain ⟨q0, q1, q2, qf⟩ := cells3 H6.out;go_wp2_with fail;go_region;have h4 : (wx.setCell ⟨b, 2, none⟩ (.int .u8 ((c.toNat : Nat) : Int))).drew.heap[b]? = some (.cells #[.int .i64 pl, .int .u8 ((b0.toNat : Nat) : Int), .int .u8 ((c.toNat : Nat) : Int), .int .u8 ((a2.toNat : Nat) : Int), .int .u8 ((a3.toNat : Nat) : Int), .int .i64 1, .bool false] 305 (0, 0)) := set_at (o := 2) H3.out _;have h6 := (set_else (w := wx) (o := 2) (k := w1.heap.size) (b := b) (.int .u8 ((c.toNat : Nat) : Int)) (by omega)).trans H6.out;have hbx := (Keeps.of_below (fun k => k = b) HBX.out).setCell (p := ⟨b, 2, none⟩) (.inl rfl) (.int .u8 ((c.toNat : Nat) : Int));have HBY := hZ hbx.drew;have H4 := hZ h4;have H7 : Hid ((wx.setCell ⟨b, 2, none⟩ (.int .u8 ((c.toNat : Nat) : Int))).drew.heap[w1.heap.size]? = _) := hZ h6;clear d0 d1 d2 d3 d4 d5 d6 df q0 q1 q2 qf hbx h4 h6;generalize (wx.setCell ⟨b, 2, none⟩ (.int .u8 ((c.toNat : Nat) : Int))).drew = w5 at *;obtain ⟨d0, d1, d2, d3, d4, d5, d6, df⟩ := cells7 H4.out;obtain ⟨q0, q1, q2, qf⟩ := cells3 H7.out
  by_cases hwd : 1 + 1 = n
  ·have hfo := HFO.out;rw [if_pos trivial, if_pos hwd] at hfo;subst hfo;have e2 : ((2 : Int) == (n : Int)) = true := by simp; omega
   clear hwd hl;go_wp2_with fail;go_region;go_wp2_with fail;go_ret;exact ⟨⟨rfl, (fun h t e => by cases e), _, _, _, _, set_at (o := 5) (set_at (o := 5) H4.out _) _, rfl⟩, ((HBY.out.setCell (p := ⟨b, 5, none⟩) (.inl rfl) _).drew.setCell (p := ⟨b, 5, none⟩) (.inl rfl) _)⟩
  ·have hfo := HFO.out;rw [if_pos trivial, if_neg hwd] at hfo;subst hfo;have e1 : ¬ (2 : Int) = (n : Int) := by omega
   have e2 : ((2 : Int) == (n : Int)) = false := by simpa using e1
   have HOK := hZ (HOK.out hwd);clear hwd;go_wp2_with fail;go_region;go_wp2_with fail;go_ret;exact ⟨⟨rfl, HOK.out, _, _, _, _, set_at (o := 5) H4.out _, rfl⟩, (HBY.out.setCell (p := ⟨b, 5, none⟩) (.inl rfl) _).drew⟩
theorem take2_any (w : World) (b pl : Nat) (c b0 b1 : UInt8) (h : Feeds w b pl [b0, b1]) : Calls prog 190 #[.pointer (some ⟨b, 0, none⟩), .int .u8 ((c.toNat : Nat) : Int)] w fun e w' => takeRet w b pl [b0, b1] (feedOne [b0, b1] c) e w' ∧ Keeps (fun k => k = b) w w' := by
 obtain ⟨hok, a0, a1, a2, a3, h2, h9⟩ := h;have hl : 2 < (formOf b0).wide := hok _ _ rfl;simp only [List.length_cons, List.length_nil, Nat.reduceAdd, List.take_succ_cons, List.take_zero, List.cons.injEq, and_true] at h2 h9;obtain ⟨rfl, rfl⟩ := h9;obtain ⟨c0, c1, c2, c3, c4, c5, c6, cf⟩ := cells7 h2;have H2 := hZ h2;have hlt := lt_of_block h2;have HF := hZ (formOf_any b0);have HM : Hid (∀ w, Calls prog 206 #[formV (formOf b0), .int .i64 (2 : Int), .int .u8 ((c.toNat : Nat) : Int)] w fun e w' => e = .returned (.bool ((formOf b0).may 2 c)) ∧ Below w.heap.size w w') := hZ fun w => may_any (formOf b0) 2 c w
 have hwl := wide_le b0;obtain ⟨o, hfo⟩ : ∃ o, feedOne [b0, b1] c = o := ⟨_, rfl⟩;rw [hfo];rw [show feedOne [b0, b1] c = if (formOf b0).may 2 c then (if 2 + 1 = (formOf b0).wide then some [] else some [b0, b1, c]) else none from rfl] at hfo;have hok1 : ¬ 2 + 1 = (formOf b0).wide → HeldOk [b0, b1, c] := fun hh x t e => by injection e with e1 e2; subst e1; show 2 + 1 < _; omega
 have HOK := hZ hok1;have HOK0 := hZ hok;clear h2 hok1 hok;generalize formOf b0 = f at *;obtain ⟨n, lo, hi⟩ := f;simp only at hwl HOK hl hfo;generalize (Form.mk n lo hi).may 2 c = m at *;unfold formV at HF HM;have HFO := hZ hfo;clear hfo;go_enter func190, ntmps190;go_wp2_with fail;refine (HF.out _).mono ?_;rintro e w1 ⟨rfl, hb⟩;have hbx := hb.alloc hb.size (.cells #[.int .i64 n, .int .u8 lo, .int .u8 hi] 349);have h3 := (hbx.block b hlt).trans H2.out;have h6 := heap_alloc_new w1 (.cells #[.int .i64 n, .int .u8 lo, .int .u8 hi] 349);have hlt1 := lt_of_block h3;have hne := lt_of_block ((hb.block b hlt).trans H2.out);obtain ⟨d0, d1, d2, d3, d4, d5, d6, df⟩ := cells7 h3;obtain ⟨q0, q1, q2, qf⟩ := cells3 h6;have H3 := hZ h3;have H6 := hZ h6;have HBX := hZ hbx;clear hb h3 h6 hbx;go_wp2_with fail;generalize w1.alloc (.cells #[.int .i64 n, .int .u8 lo, .int .u8 hi] 349) = w2 at *
 go_region_held3 (fun w' => w'.cell? ⟨w1.heap.size, 0, none⟩ = some (.int .i64 n) ∧ w'.cell? ⟨w1.heap.size, 1, none⟩ = some (.int .u8 lo) ∧ w'.cell? ⟨w1.heap.size, 2, none⟩ = some (.int .u8 hi) ∧ w'.cell? ⟨b, 5, none⟩ = some (.int .i64 2)) (first | exact ⟨hx1, hx2, hx3, hx4⟩ | go_keep)
  ((go_at_call 206; (with_reducible refine (HM.out _).mono ?_); rintro e wx ⟨rfl, hbx⟩; have hx1 := (hbx.cell (p := ⟨w1.heap.size, 0, none⟩) (by simpa using lt_of_block H6.out)).trans q0; have hx2 := (hbx.cell (p := ⟨w1.heap.size, 1, none⟩) (by simpa using lt_of_block H6.out)).trans q1; have hx3 := (hbx.cell (p := ⟨w1.heap.size, 2, none⟩) (by simpa using lt_of_block H6.out)).trans q2; have hx4 := (hbx.cell (p := ⟨b, 5, none⟩) (by simpa using lt_of_block H3.out)).trans d5))
 have H3 := hZ (keep (w1 := w2.drew) H3.out hbx);have H6 := hZ (keep (w1 := w2.drew) H6.out hbx);have HBX := hZ (chain HBX.out.drew hbx);clear hbx hx1 hx2 hx3 hx4 d0 d1 d2 d3 d4 d5 d6 df q0 q1 q2 qf;cases m with
 | false =>
  obtain rfl := HFO.out;go_wp2_with fail;go_ret;exact ⟨⟨rfl, HOK0.out, _, _, _, _, H3.out, rfl⟩, Keeps.of_below _ HBX.out⟩
 | true =>
  obtain ⟨d0, d1, d2, d3, d4, d5, d6, df⟩ := cells7 H3.out;obtain ⟨q0, q1, q2, qf⟩ := cells3 H6.out;go_wp2_with fail;go_region;have h4 : (wx.setCell ⟨b, 3, none⟩ (.int .u8 ((c.toNat : Nat) : Int))).drew.heap[b]? = some (.cells #[.int .i64 pl, .int .u8 ((b0.toNat : Nat) : Int), .int .u8 ((b1.toNat : Nat) : Int), .int .u8 ((c.toNat : Nat) : Int), .int .u8 ((a3.toNat : Nat) : Int), .int .i64 2, .bool false] 305 (0, 0)) := set_at (o := 3) H3.out _;have h6 := (set_else (w := wx) (o := 3) (k := w1.heap.size) (b := b) (.int .u8 ((c.toNat : Nat) : Int)) (by omega)).trans H6.out;have hbx := (Keeps.of_below (fun k => k = b) HBX.out).setCell (p := ⟨b, 3, none⟩) (.inl rfl) (.int .u8 ((c.toNat : Nat) : Int));have HBY := hZ hbx.drew;have H4 := hZ h4;have H7 : Hid ((wx.setCell ⟨b, 3, none⟩ (.int .u8 ((c.toNat : Nat) : Int))).drew.heap[w1.heap.size]? = _) := hZ h6;clear d0 d1 d2 d3 d4 d5 d6 df q0 q1 q2 qf hbx h4 h6;generalize (wx.setCell ⟨b, 3, none⟩ (.int .u8 ((c.toNat : Nat) : Int))).drew = w5 at *;obtain ⟨d0, d1, d2, d3, d4, d5, d6, df⟩ := cells7 H4.out;obtain ⟨q0, q1, q2, qf⟩ := cells3 H7.out
  by_cases hwd : 2 + 1 = n
  ·have hfo := HFO.out;rw [if_pos trivial, if_pos hwd] at hfo;subst hfo;have e2 : ((3 : Int) == (n : Int)) = true := by simp; omega
   clear hwd hl;go_wp2_with fail;go_region;go_wp2_with fail;go_ret;exact ⟨⟨rfl, (fun h t e => by cases e), _, _, _, _, set_at (o := 5) (set_at (o := 5) H4.out _) _, rfl⟩, ((HBY.out.setCell (p := ⟨b, 5, none⟩) (.inl rfl) _).drew.setCell (p := ⟨b, 5, none⟩) (.inl rfl) _)⟩
  ·have hfo := HFO.out;rw [if_pos trivial, if_neg hwd] at hfo;subst hfo;have e1 : ¬ (3 : Int) = (n : Int) := by omega
   have e2 : ((3 : Int) == (n : Int)) = false := by simpa using e1
   have HOK := hZ (HOK.out hwd);clear hwd;go_wp2_with fail;go_region;go_wp2_with fail;go_ret;exact ⟨⟨rfl, HOK.out, _, _, _, _, set_at (o := 5) H4.out _, rfl⟩, (HBY.out.setCell (p := ⟨b, 5, none⟩) (.inl rfl) _).drew⟩
theorem take3_any (w : World) (b pl : Nat) (c b0 b1 b2 : UInt8) (h : Feeds w b pl [b0, b1, b2]) : Calls prog 190 #[.pointer (some ⟨b, 0, none⟩), .int .u8 ((c.toNat : Nat) : Int)] w fun e w' => takeRet w b pl [b0, b1, b2] (feedOne [b0, b1, b2] c) e w' ∧ Keeps (fun k => k = b) w w' := by
 obtain ⟨hok, a0, a1, a2, a3, h2, h9⟩ := h;have hl : 3 < (formOf b0).wide := hok _ _ rfl;simp only [List.length_cons, List.length_nil, Nat.reduceAdd, List.take_succ_cons, List.take_zero, List.cons.injEq, and_true] at h2 h9;obtain ⟨rfl, rfl, rfl⟩ := h9;obtain ⟨c0, c1, c2, c3, c4, c5, c6, cf⟩ := cells7 h2;have H2 := hZ h2;have hlt := lt_of_block h2;have HF := hZ (formOf_any b0);have HM : Hid (∀ w, Calls prog 206 #[formV (formOf b0), .int .i64 (3 : Int), .int .u8 ((c.toNat : Nat) : Int)] w fun e w' => e = .returned (.bool ((formOf b0).may 3 c)) ∧ Below w.heap.size w w') := hZ fun w => may_any (formOf b0) 3 c w
 have hwl := wide_le b0;obtain ⟨o, hfo⟩ : ∃ o, feedOne [b0, b1, b2] c = o := ⟨_, rfl⟩;rw [hfo];rw [show feedOne [b0, b1, b2] c = if (formOf b0).may 3 c then (if 3 + 1 = (formOf b0).wide then some [] else some [b0, b1, b2, c]) else none from rfl] at hfo;have hok1 : ¬ 3 + 1 = (formOf b0).wide → HeldOk [b0, b1, b2, c] := fun hh x t e => by injection e with e1 e2; subst e1; show 3 + 1 < _; omega
 have HOK := hZ hok1;have HOK0 := hZ hok;clear h2 hok1 hok;generalize formOf b0 = f at *;obtain ⟨n, lo, hi⟩ := f;simp only at hwl HOK hl hfo;generalize (Form.mk n lo hi).may 3 c = m at *;unfold formV at HF HM;have HFO := hZ hfo;clear hfo;go_enter func190, ntmps190;go_wp2_with fail;refine (HF.out _).mono ?_;rintro e w1 ⟨rfl, hb⟩;have hbx := hb.alloc hb.size (.cells #[.int .i64 n, .int .u8 lo, .int .u8 hi] 349);have h3 := (hbx.block b hlt).trans H2.out;have h6 := heap_alloc_new w1 (.cells #[.int .i64 n, .int .u8 lo, .int .u8 hi] 349);have hlt1 := lt_of_block h3;have hne := lt_of_block ((hb.block b hlt).trans H2.out);obtain ⟨d0, d1, d2, d3, d4, d5, d6, df⟩ := cells7 h3;obtain ⟨q0, q1, q2, qf⟩ := cells3 h6;have H3 := hZ h3;have H6 := hZ h6;have HBX := hZ hbx;clear hb h3 h6 hbx;go_wp2_with fail;generalize w1.alloc (.cells #[.int .i64 n, .int .u8 lo, .int .u8 hi] 349) = w2 at *
 go_region_held3 (fun w' => w'.cell? ⟨w1.heap.size, 0, none⟩ = some (.int .i64 n) ∧ w'.cell? ⟨w1.heap.size, 1, none⟩ = some (.int .u8 lo) ∧ w'.cell? ⟨w1.heap.size, 2, none⟩ = some (.int .u8 hi) ∧ w'.cell? ⟨b, 5, none⟩ = some (.int .i64 3)) (first | exact ⟨hx1, hx2, hx3, hx4⟩ | go_keep)
  ((go_at_call 206; (with_reducible refine (HM.out _).mono ?_); rintro e wx ⟨rfl, hbx⟩; have hx1 := (hbx.cell (p := ⟨w1.heap.size, 0, none⟩) (by simpa using lt_of_block H6.out)).trans q0; have hx2 := (hbx.cell (p := ⟨w1.heap.size, 1, none⟩) (by simpa using lt_of_block H6.out)).trans q1; have hx3 := (hbx.cell (p := ⟨w1.heap.size, 2, none⟩) (by simpa using lt_of_block H6.out)).trans q2; have hx4 := (hbx.cell (p := ⟨b, 5, none⟩) (by simpa using lt_of_block H3.out)).trans d5))
 have H3 := hZ (keep (w1 := w2.drew) H3.out hbx);have H6 := hZ (keep (w1 := w2.drew) H6.out hbx);have HBX := hZ (chain HBX.out.drew hbx);clear hbx hx1 hx2 hx3 hx4 d0 d1 d2 d3 d4 d5 d6 df q0 q1 q2 qf;cases m with
 | false =>
  obtain rfl := HFO.out;go_wp2_with fail;go_ret;exact ⟨⟨rfl, HOK0.out, _, _, _, _, H3.out, rfl⟩, Keeps.of_below _ HBX.out⟩
 | true =>
  obtain ⟨d0, d1, d2, d3, d4, d5, d6, df⟩ := cells7 H3.out;obtain ⟨q0, q1, q2, qf⟩ := cells3 H6.out;go_wp2_with fail;go_region;have h4 : (wx.setCell ⟨b, 4, none⟩ (.int .u8 ((c.toNat : Nat) : Int))).drew.heap[b]? = some (.cells #[.int .i64 pl, .int .u8 ((b0.toNat : Nat) : Int), .int .u8 ((b1.toNat : Nat) : Int), .int .u8 ((b2.toNat : Nat) : Int), .int .u8 ((c.toNat : Nat) : Int), .int .i64 3, .bool false] 305 (0, 0)) := set_at (o := 4) H3.out _;have h6 := (set_else (w := wx) (o := 4) (k := w1.heap.size) (b := b) (.int .u8 ((c.toNat : Nat) : Int)) (by omega)).trans H6.out;have hbx := (Keeps.of_below (fun k => k = b) HBX.out).setCell (p := ⟨b, 4, none⟩) (.inl rfl) (.int .u8 ((c.toNat : Nat) : Int));have HBY := hZ hbx.drew;have H4 := hZ h4;have H7 : Hid ((wx.setCell ⟨b, 4, none⟩ (.int .u8 ((c.toNat : Nat) : Int))).drew.heap[w1.heap.size]? = _) := hZ h6;clear d0 d1 d2 d3 d4 d5 d6 df q0 q1 q2 qf hbx h4 h6;generalize (wx.setCell ⟨b, 4, none⟩ (.int .u8 ((c.toNat : Nat) : Int))).drew = w5 at *;obtain ⟨d0, d1, d2, d3, d4, d5, d6, df⟩ := cells7 H4.out;obtain ⟨q0, q1, q2, qf⟩ := cells3 H7.out
  by_cases hwd : 3 + 1 = n
  ·have hfo := HFO.out;rw [if_pos trivial, if_pos hwd] at hfo;subst hfo;have e2 : ((4 : Int) == (n : Int)) = true := by simp; omega
   clear hwd hl;go_wp2_with fail;go_region;go_wp2_with fail;go_ret;exact ⟨⟨rfl, (fun h t e => by cases e), _, _, _, _, set_at (o := 5) (set_at (o := 5) H4.out _) _, rfl⟩, ((HBY.out.setCell (p := ⟨b, 5, none⟩) (.inl rfl) _).drew.setCell (p := ⟨b, 5, none⟩) (.inl rfl) _)⟩
  ·exfalso; omega
theorem take_any (w : World) (b pl : Nat) (c : UInt8) (held : List UInt8) (h : Feeds w b pl held) : Calls prog 190 #[.pointer (some ⟨b, 0, none⟩), .int .u8 ((c.toNat : Nat) : Int)] w fun e w' => takeRet w b pl held (feedOne held c) e w' ∧ Keeps (fun k => k = b) w w' := by
 have hl := h.1.le
 match held, h, hl with
 | [], h, _ => exact take0_any w b pl c h
 | [b0], h, _ => exact take1_any w b pl c b0 h
 | [b0, b1], h, _ => exact take2_any w b pl c b0 b1 h
 | [b0, b1, b2], h, _ => exact take3_any w b pl c b0 b1 b2 h
 | _ :: _ :: _ :: _ :: _, _, hl => simp at hl
def FeedsBad (w : World) (b pl : Nat) : Prop := ∃ a0 a1 a2 a3 : UInt8, w.heap[b]? = some (.cells #[.int .i64 pl, .int .u8 ((a0.toNat : Nat) : Int), .int .u8 ((a1.toNat : Nat) : Int), .int .u8 ((a2.toNat : Nat) : Int), .int .u8 ((a3.toNat : Nat) : Int), .int .i64 0, .bool true] 305 (0, 0))
theorem fault_good (w : World) (b pl : Nat) (held : List UInt8) (h : Feeds w b pl held) : Calls prog 191 #[.pointer (some ⟨b, 0, none⟩)] w fun e w' => e = .returned .nilIface ∧ w' = w := by
 obtain ⟨_, a0, a1, a2, a3, h2, h9⟩ := h;clear h9;obtain ⟨c0, c1, c2, c3, c4, c5, c6, cf⟩ := cells7 h2;clear h2;go_enter func191, ntmps191;go_wp2;go_ret;exact ⟨rfl, rfl⟩
theorem fault_bad (w : World) (b pl : Nat) (h : FeedsBad w b pl) : Calls prog 191 #[.pointer (some ⟨b, 0, none⟩)] w fun e w' => e = .returned (.iface 151 (.agg #[.int .i64 30, .int .i64 pl])) ∧ w' = w := by
 obtain ⟨a0, a1, a2, a3, h2⟩ := h;obtain ⟨c0, c1, c2, c3, c4, c5, c6, cf⟩ := cells7 h2;clear h2;go_enter func191, ntmps191;go_wp2;go_ret;exact ⟨rfl, rfl⟩
theorem feedAll_none (l : List UInt8) : l.foldl (fun a c => a.bind fun h => feedOne h c) (none : Option (List UInt8)) = none := by
 induction l with
 | nil => rfl
 | cons x l ih => exact ih
theorem feedAll_take {held l : List UInt8} {k : Nat} (h : k < l.length) : feedAll held (l.take (k + 1)) = (feedAll held (l.take k)).bind fun h => feedOne h l[k] := by
 unfold feedAll;rw [List.take_add_one, List.getElem?_eq_getElem h, List.foldl_append]; rfl
theorem feedAll_stop {held l : List UInt8} {k : Nat} (h : feedAll held (l.take k) = none) : feedAll held l = none := by
 unfold feedAll at *
 conv => lhs; rw [← List.take_append_drop k l, List.foldl_append, h]
 exact feedAll_none _
def BytesAt (w : World) (b : Nat) (a : Option Addr) (l : List UInt8) : Prop := l = [] ∨ ∃ g off, a = some ⟨g, off, none⟩ ∧ g ≠ b ∧ g < w.heap.size ∧ ∀ i x, l[i]? = some x → w.cell? ⟨g, off + i, none⟩ = some (.int .u8 ((x.toNat : Nat) : Int))
def feedRet (w' : World) (b pl n : Nat) (o : Option (List UInt8)) (e : Ending) : Prop := match o with
 | some h => e = .returned .nilIface ∧ Feeds w' b (pl + n) h
 | none => ∃ p, e = .returned (.iface 151 (.agg #[.int .i64 30, .int .i64 (p : Nat)])) ∧ FeedsBad w' b p
def feedInv (w0 : World) (b pl : Nat) (held l : List UInt8) (k : Nat) (w : World) : Prop := Keeps (fun k => k = b) w0 w ∧ ((∃ h, feedAll held (l.take k) = some h ∧ Feeds w b (pl + k) h) ∨ (feedAll held l = none ∧ ∃ p, FeedsBad w b p))
theorem feed_any (w : World) (b pl : Nat) (held l : List UInt8) (a : Option Addr) (cap : Nat) (h : Feeds w b pl held) (hb : BytesAt w b a l) (hl : l.length ≤ 1073741824) (hpl : pl ≤ 1073741824) :
 Calls prog 169 #[.pointer (some ⟨b, 0, none⟩), .slice a l.length cap] w fun e w' => feedRet w' b pl l.length (feedAll held l) e ∧ Keeps (fun k => k = b) w w' := by
 have HB := hZ hb;have H := hZ h;clear h hb;go_enter func169, ntmps169;go_wp2_with fail
 go_loopw [5] (fun i wr => ∃ k : Nat, k ≤ l.length ∧ i = .int .i64 k ∧ Hid (feedInv w b pl held l k wr)) (fun i _ => l.length - (intOf i).toNat)
 case atStart => exact ⟨0, by omega, rfl, hZ ⟨Keeps.refl _ _, .inl ⟨held, rfl, H.out⟩⟩⟩
 case round =>
  obtain ⟨k, hk, rfl, hinv⟩ := hrel;obtain ⟨hkp, hst⟩ := hinv.out;clear hinv;have HKP := hZ hkp;clear hkp;rcases hst with ⟨h, hf, hfe⟩ | ⟨hnone, p, hbad⟩
  ·have HF := hZ hf;have HFE := hZ hfe;clear hf;obtain ⟨_, a0, a1, a2, a3, h2, h9⟩ := hfe;clear h9;obtain ⟨c0, c1, c2, c3, c4, c5, c6, cf⟩ := cells7 h2;clear h2
   by_cases hkl : k < l.length
   ·rcases HB.out with hn | ⟨g, off, rfl, hgb, hg, hcell⟩
    ·subst hn; simp at hkl
    ·have hc : wr.cell? ⟨g, off + k, none⟩ = some (.int .u8 ((l[k].toNat : Nat) : Int)) := HKP.out.cell (hcell k l[k] (List.getElem?_eq_getElem hkl)) hgb;clear hcell;go_wp2_with fail;refine (take_any wr b (pl + k) l[k] h HFE.out).mono ?_;have hstep := feedAll_take (held := held) hkl;rw [HF.out] at hstep;rintro e w2 ⟨ht, hk2⟩;have hstep : feedAll held (l.take (k + 1)) = feedOne h l[k] := hstep;cases hfo : feedOne h l[k] with
     | none =>
      rw [hfo] at ht hstep;obtain ⟨rfl, hfe2⟩ := ht;have HN := hZ (feedAll_stop hstep);have HK2 := hZ (HKP.out.same hk2);obtain ⟨_, x0, x1, x2, x3, h2, h9⟩ := hfe2;clear h9;obtain ⟨d0, d1, d2, d3, d4, d5, d6, df⟩ := cells7 h2;have H2 := hZ h2;clear h2 hstep hfo hk2 c0 c1 c2 c3 c4 c5 c6 cf hc;go_wp2_with fail
      go_roundw
      case rel => exact ⟨k + 1, by omega, by go_num, hZ ⟨(HK2.out.setCell (p := ⟨b, 6, none⟩) (.inl rfl) _).setCell (p := ⟨b, 5, none⟩) (.inl rfl) _, .inr ⟨HN.out, _, x0, x1, x2, x3, set_at (set_at H2.out _) _⟩⟩⟩
      case measure => simp [intOf]; omega
     | some h' =>
      rw [hfo] at ht hstep;obtain ⟨rfl, hfe2⟩ := ht;have HN := hZ hstep;have HK2 := hZ (HKP.out.same hk2);obtain ⟨hok, x0, x1, x2, x3, h2, h9⟩ := hfe2;obtain ⟨d0, d1, d2, d3, d4, d5, d6, df⟩ := cells7 h2;have H2 := hZ h2;have H9 := hZ h9;have HOK := hZ hok;clear h2 h9 hstep hfo hk2 c0 c1 c2 c3 c4 c5 c6 cf hc hok;go_wp2_with fail
      go_roundw
      case rel => exact ⟨k + 1, by omega, by go_num, hZ ⟨HK2.out.setCell (p := ⟨b, 0, none⟩) (.inl rfl) _, .inl ⟨h', HN.out, HOK.out, x0, x1, x2, x3, set_at H2.out _, H9.out⟩⟩⟩
      case measure => simp [intOf]; omega
   ·have hke : k = l.length := by omega
    subst hke;have HF2 := hZ (show feedAll held l = some h by have := HF.out; rwa [List.take_length] at this);go_wp2_with fail;refine (fault_good _ b _ h HFE.out).mono ?_;rintro e w2 ⟨rfl, rfl⟩;go_wp2_with fail;go_ret;exact ⟨by rw [HF2.out]; exact ⟨rfl, HFE.out⟩, HKP.out⟩
  ·have HN := hZ hnone;have HBAD := hZ hbad;clear hnone;obtain ⟨a0, a1, a2, a3, h2⟩ := hbad;obtain ⟨c0, c1, c2, c3, c4, c5, c6, cf⟩ := cells7 h2;clear h2;go_wp2_with fail
   all_goals
    refine (fault_bad _ b p HBAD.out).mono ?_;rintro e w2 ⟨rfl, rfl⟩;go_wp2_with fail;go_ret;exact ⟨by rw [HN.out]; exact ⟨p, rfl, HBAD.out⟩, HKP.out⟩
def errIf (ok : Bool) (e : Ending) : Prop := match ok with
 | true => e = .returned .nilIface
 | false => ∃ T v, e = .returned (.iface T v)
theorem end_good (w : World) (b pl : Nat) (held : List UInt8) (h : Feeds w b pl held) : Calls prog 258 #[.pointer (some ⟨b, 0, none⟩)] w fun e w' => errIf (held == []) e ∧ w' = w := by
 have HG := hZ (fault_good w b pl held h);obtain ⟨_, a0, a1, a2, a3, h2, h9⟩ := h;clear h9;obtain ⟨c0, c1, c2, c3, c4, c5, c6, cf⟩ := cells7 h2;clear h2;cases held with
 | nil =>
  go_enter func258, ntmps258;go_wp2_with fail;refine (HG.out).mono ?_;rintro e w1 ⟨rfl, rfl⟩;go_wp2_with fail;go_ret;exact ⟨rfl, rfl⟩
 | cons x t =>
  have hgt : (0 : Int) < ((x :: t).length : Int) := by simp
  obtain ⟨n, hn⟩ : ∃ n, (x :: t).length = n := ⟨_, rfl⟩;have hb : ((x :: t) == []) = false := rfl;rw [hb];clear hb;rw [hn] at hgt c5;clear hn;go_enter func258, ntmps258;go_wp2_with fail;go_ret;exact ⟨⟨_, _, rfl⟩, rfl⟩
theorem end_bad (w : World) (b pl : Nat) (h : FeedsBad w b pl) : Calls prog 258 #[.pointer (some ⟨b, 0, none⟩)] w fun e w' => errIf false e ∧ w' = w := by
 have HG := hZ (fault_bad w b pl h);obtain ⟨a0, a1, a2, a3, h2⟩ := h;obtain ⟨c0, c1, c2, c3, c4, c5, c6, cf⟩ := cells7 h2;clear h2;go_enter func258, ntmps258;go_wp2_with fail;refine (HG.out).mono ?_;rintro e w1 ⟨rfl, rfl⟩;go_wp2_with fail;go_ret;exact ⟨⟨_, _, rfl⟩, rfl⟩
theorem BytesAt.below {w w' : World} {b b' : Nat} {a : Option Addr} {l : List UInt8} (h : BytesAt w b a l) (hb : Below w.heap.size w w') (hne : w.heap.size ≤ b') : BytesAt w' b' a l := by
 rcases h with h | ⟨g, off, ha, _, hg, hc⟩
 ·exact .inl h
 ·exact .inr ⟨g, off, ha, by omega, Nat.lt_of_lt_of_le hg hb.size, fun i x hx => (hb.cell (p := ⟨g, off + i, none⟩) hg).trans (hc i x hx)⟩
theorem check_any (w : World) (b0 : Nat) (l : List UInt8) (a : Option Addr) (cap : Nat) (hb : BytesAt w b0 a l) (hl : l.length ≤ 1073741824) : Calls prog 237 #[.slice a l.length cap] w fun e w' => errIf (rightOf l) e ∧ Below w.heap.size w w' := by
 have HB := hZ hb;clear hb;go_enter func237, ntmps237;go_wp2_with fail;refine (newFeeder_any _).mono ?_;rintro e w1 ⟨rfl, hfe, hbl, hsz⟩;have HFE := hZ hfe;have HBL := hZ hbl;clear hfe hbl;go_wp2_with fail;refine (feed_any w1 w.heap.size 0 [] l a cap HFE.out (HB.out.below HBL.out (Nat.le_refl _)) hl (by omega)).mono ?_;rintro e w2 ⟨hr, hk⟩;have HB2 := hZ (HBL.out.trans (hk.toBelow (n := w.heap.size) (by omega) (fun k e => by subst e; exact Nat.le_refl _)));clear hk;cases hf : feedAll [] l with
 | none =>
  rw [hf] at hr;obtain ⟨p, rfl, hbad⟩ := hr;have hro : rightOf l = false := by unfold rightOf; rw [hf]; rfl
  have HRO := hZ hro;clear hro hf;go_wp2_with fail;refine (end_bad _ _ p hbad).mono ?_;rintro e w3 ⟨⟨T, v, rfl⟩, rfl⟩;go_wp2_with fail;go_ret;exact ⟨by rw [HRO.out]; exact ⟨_, _, rfl⟩, HB2.out⟩
 | some h =>
  rw [hf] at hr;obtain ⟨rfl, hfe⟩ := hr;have hro : rightOf l = (h == []) := by unfold rightOf; rw [hf]; cases h <;> rfl
  have HRO := hZ hro;clear hro hf;have HF := hZ hfe;clear hfe;go_wp2_with fail;refine (end_good _ _ _ h HF.out).mono ?_;rintro e w3 ⟨he, rfl⟩;cases hh : (h == []) with
  | true =>
   rw [hh] at he;obtain rfl := he;have HH := hZ hh;clear hh;go_wp2_with fail;go_ret;exact ⟨by rw [HRO.out, HH.out]; rfl, HB2.out⟩
  | false =>
   rw [hh] at he;obtain ⟨T, v, rfl⟩ := he;have HH := hZ hh;clear hh;go_wp2_with fail;go_ret;exact ⟨by rw [HRO.out, HH.out]; exact ⟨_, _, rfl⟩, HB2.out⟩
theorem cell_any {w : World} {b o : Nat} {c : Array Value} {T : TypeId} {fr : Nat × Nat} (h : w.heap[b]? = some (.cells c T fr)) : w.cell? ⟨b, o, none⟩ = c[o]? := by simp [World.cell?, h]
theorem right_any (s : ByteArray) (w : World) (hl : s.size ≤ 1073741824) : Calls prog 218 #[.string s] w fun e w' => e = .returned (.bool (rightOf s.data.toList)) ∧ Below w.heap.size w w' := by
 have hconv := run_bytes_of_string (P := prog) w 9 22 5 s underlying9 underlying22 underlying5;go_enter func218, ntmps218;go_wp2_with fail;have hsz : s.data.toList.length = s.size := Array.length_toList;have hbel : Below w.heap.size w (w.alloc (.cells (bytesRow s (grownCap w s.size 0 5)) 5 ((bytesRow s (grownCap w s.size 0 5)).size, (bytesRow s (grownCap w s.size 0 5)).size + 1))).drew := ((Below.refl _ _).alloc (Nat.le_refl _) _).drew
 have hba : BytesAt (w.alloc (.cells (bytesRow s (grownCap w s.size 0 5)) 5 ((bytesRow s (grownCap w s.size 0 5)).size, (bytesRow s (grownCap w s.size 0 5)).size + 1))).drew (w.heap.size + 1) (some ⟨w.heap.size, 0, none⟩) s.data.toList := by
  refine .inr ⟨w.heap.size, 0, rfl, by omega, by show _ < (w.alloc _).heap.size; simp, fun i x hx => ?_⟩;have hlt : i < s.data.size := by have := (List.getElem?_eq_some_iff.1 hx).1; simpa using this
  have hxx : s.data[i] = x := by
   rw [List.getElem?_eq_getElem (by simpa using hlt)] at hx
   simpa using hx
  show (w.alloc _).cell? ⟨w.heap.size, 0 + i, none⟩ = _
  have hh := heap_alloc_new w (.cells (bytesRow s (grownCap w s.size 0 5)) 5 ((bytesRow s (grownCap w s.size 0 5)).size, (bytesRow s (grownCap w s.size 0 5)).size + 1));rw [cell_any hh, Nat.zero_add, bytesRow_at s _ i hlt, hxx]
 have HC := check_any _ _ s.data.toList _ (grownCap w s.size 0 5) hba (by omega);rw [hsz] at HC;have HB := hZ hbel;clear hba hbel hsz hconv;refine HC.mono ?_;rintro e w2 ⟨he, hb2⟩;have HB2 := hZ (chain HB.out hb2);clear hb2 HC;cases hr : rightOf s.data.toList with
 | true =>
  rw [hr] at he;obtain rfl := he;have HR := hZ hr;clear hr;go_wp2_with fail;go_ret;exact ⟨by rw [HR.out]; rfl, HB2.out⟩
 | false =>
  rw [hr] at he;obtain ⟨T, v, rfl⟩ := he;have HR := hZ hr;clear hr;go_wp2_with fail;go_ret;exact ⟨by rw [HR.out]; rfl, HB2.out⟩
end Go.Proofs.YtakkmiomhackiaaGreatDoor.Dr
namespace Go.Proofs.YtakkmiomhackiaaGreatDoor
open Go.RowKit
def formV (f : Form) : Value := .agg #[.int .i64 f.wide, .int .u8 f.low, .int .u8 f.high]
theorem formOf_any (c : UInt8) (w : World) : Calls prog 205 #[.int .u8 ((c.toNat : Nat) : Int)] w fun e w' => e = .returned (formV (formOf c)) ∧ Below w.heap.size w w' :=
 (Dr.formOf_any c w).mono fun _ _ h => ⟨h.1, h.2.plain⟩
theorem may_any (f : Form) (i : Nat) (c : UInt8) (w : World) : Calls prog 206 #[formV f, .int .i64 i, .int .u8 ((c.toNat : Nat) : Int)] w fun e w' => e = .returned (.bool (f.may i c)) ∧ Below w.heap.size w w' :=
 (Dr.may_any f i c w).mono fun _ _ h => ⟨h.1, h.2.plain⟩
def HeldOk (held : List UInt8) : Prop := ∀ h t, held = h :: t → held.length < (formOf h).wide
theorem wide_le (c : UInt8) : (formOf c).wide ≤ 4 := by unfold formOf; repeat' (first | exact by decide | split)
theorem HeldOk.le {held : List UInt8} (h : HeldOk held) : held.length ≤ 3 := by
 cases held with
 | nil => exact Nat.zero_le _
 | cons a t => have := h a t rfl; have := wide_le a; omega
def Feeds (w : World) (b pl : Nat) (held : List UInt8) : Prop := HeldOk held ∧ ∃ a0 a1 a2 a3 : UInt8, w.heap[b]? = some (.cells #[.int .i64 pl, .int .u8 ((a0.toNat : Nat) : Int), .int .u8 ((a1.toNat : Nat) : Int), .int .u8 ((a2.toNat : Nat) : Int), .int .u8 ((a3.toNat : Nat) : Int), .int .i64 held.length, .bool false] 305 (0, 0)) ∧
 held = [a0, a1, a2, a3].take held.length
theorem Feeds.keeps {F : Nat → Prop} {w w' : World} {b pl : Nat} {held : List UInt8} (h : Feeds w b pl held) (hk : Keeps F w w') (hb : ¬ F b) : Feeds w' b pl held := by
 obtain ⟨h1, a0, a1, a2, a3, h2, h3⟩ := h;exact ⟨h1, a0, a1, a2, a3, hk.blk h2 hb, h3⟩
theorem cells7 {w : World} {b : Nat} {v0 v1 v2 v3 v4 v5 v6 : Value} {T : TypeId} (h : w.heap[b]? = some (.cells #[v0, v1, v2, v3, v4, v5, v6] T (0, 0))) : w.cell? ⟨b, 0, none⟩ = some v0 ∧ w.cell? ⟨b, 1, none⟩ = some v1 ∧ w.cell? ⟨b, 2, none⟩ = some v2 ∧ w.cell? ⟨b, 3, none⟩ = some v3 ∧ w.cell? ⟨b, 4, none⟩ = some v4 ∧ w.cell? ⟨b, 5, none⟩ = some v5 ∧ w.cell? ⟨b, 6, none⟩ = some v6 ∧ ∀ o, w.frozen? ⟨b, o, none⟩ = false :=
 ⟨cell_at h, cell_at h, cell_at h, cell_at h, cell_at h, cell_at h, cell_at h, free_at h⟩
theorem newFeeder_any (w : World) : Calls prog 137 #[] w fun e w' => e = .returned (.pointer (some ⟨w.heap.size, 0, none⟩)) ∧ Feeds w' w.heap.size 0 [] ∧ Below w.heap.size w w' ∧ w'.heap.size = w.heap.size + 1 :=
 (Dr.newFeeder_any w).mono fun _ _ h => ⟨h.1, h.2.1, h.2.2.1.plain, h.2.2.2⟩
theorem held_any (w : World) (b pl : Nat) (held : List UInt8) (h : Feeds w b pl held) : Calls prog 167 #[.pointer (some ⟨b, 0, none⟩)] w fun e w' => e = .returned (.int .i64 held.length) ∧ w' = w :=
 Dr.held_any w b pl held h
def takeRet (w : World) (b pl : Nat) (held : List UInt8) (o : Option (List UInt8)) (e : Ending) (w' : World) : Prop := match o with
 | none => e = .returned (.bool false) ∧ Feeds w' b pl held
 | some h => e = .returned (.bool true) ∧ Feeds w' b pl h
theorem take_any (w : World) (b pl : Nat) (c : UInt8) (held : List UInt8) (h : Feeds w b pl held) : Calls prog 190 #[.pointer (some ⟨b, 0, none⟩), .int .u8 ((c.toNat : Nat) : Int)] w fun e w' => takeRet w b pl held (feedOne held c) e w' ∧ Keeps (fun k => k = b) w w' :=
 (Dr.take_any w b pl c held h).mono fun _ _ h => ⟨by have := h.1; unfold Dr.takeRet at this; unfold takeRet; split at this <;> simp_all [Feeds, Dr.Feeds, HeldOk, Dr.HeldOk], h.2.plain⟩
theorem elemTok : Elem 226 232 16 := ⟨underlying226, by
 have h : (prog.info? 232).map (fun i => (i.zero, i.size, i.bytes)) = some (some .nilIface, 1, 16) := by kernel_rfl
 obtain ⟨i, h1, h2, h3, h4⟩ := info_parts h;exact ⟨i, _, h1, h2, h3, h4, rfl⟩⟩
theorem cells14 {w : World} {b : Nat} {v0 v1 v2 v3 v4 v5 v6 v7 v8 v9 va vb vc vd : Value} {T : TypeId} (h : w.heap[b]? = some (.cells #[v0, v1, v2, v3, v4, v5, v6, v7, v8, v9, va, vb, vc, vd] T (0, 0))) :
 w.cell? ⟨b, 0, none⟩ = some v0 ∧ w.cell? ⟨b, 1, none⟩ = some v1 ∧ w.cell? ⟨b, 2, none⟩ = some v2 ∧ w.cell? ⟨b, 3, none⟩ = some v3 ∧ w.cell? ⟨b, 4, none⟩ = some v4 ∧ w.cell? ⟨b, 5, none⟩ = some v5 ∧ w.cell? ⟨b, 6, none⟩ = some v6 ∧ w.cell? ⟨b, 7, none⟩ = some v7 ∧
 w.cell? ⟨b, 8, none⟩ = some v8 ∧ w.cell? ⟨b, 9, none⟩ = some v9 ∧ w.cell? ⟨b, 10, none⟩ = some va ∧ w.cell? ⟨b, 11, none⟩ = some vb ∧ w.cell? ⟨b, 12, none⟩ = some vc ∧ w.cell? ⟨b, 13, none⟩ = some vd ∧ ∀ o, w.frozen? ⟨b, o, none⟩ = false :=
 ⟨cell_at h, cell_at h, cell_at h, cell_at h, cell_at h, cell_at h, cell_at h, cell_at h, cell_at h, cell_at h, cell_at h, cell_at h, cell_at h, cell_at h, free_at h⟩
theorem newLexer_any (w : World) : Calls prog 72 #[] w fun e w' => e = .returned (.pointer (some ⟨w.heap.size, 0, none⟩)) ∧
 w' = w.alloc (.cells #[.int .i64 0, .nilIface, .bool false, .func (.func 104) #[] #[], .bool false, .int .i64 0, .slice none 0 0, .int .i64 0, .pointer none, .slice none 0 0, .int .i64 0, .int .i32 0, .int .i32 0, .slice none 0 0] 228) := by
 go_enter func72, ntmps72;go_wp2;go_ret;exact ⟨rfl, rfl⟩
theorem span_any (w : World) (b : Nat) (c : Array Value) (st to : Nat) (h : w.heap[b]? = some (.cells c 228 (0, 0))) (h5 : c[5]? = some (.int .i64 st)) (hle : st ≤ to) (hto : to ≤ 1073741824) :
 Calls prog 136 #[.pointer (some ⟨b, 0, none⟩), .int .i64 to] w fun e w' => e = .returned (.agg #[.int .i64 st, .int .i64 ((to - st : Nat) : Int)]) ∧ Below w.heap.size w w' := by
 have hlt := lt_of_block h;have hb0 : Below w.heap.size w (w.alloc (.cells #[.int .i64 0, .int .i64 0] 236)) := (Below.refl _ _).alloc (Nat.le_refl _) _;have h2 := keep h hb0;have c5 : (w.alloc (.cells #[.int .i64 0, .int .i64 0] 236)).cell? ⟨b, 5, none⟩ = some (.int .i64 st) := by rw [cell_at h2]; exact h5
 have hr : IntKind.i64.wrap ((to : Int) - (st : Int)) = ((to - st : Nat) : Int) := by rw [IntKind.wrap_i64]; omega
 clear h h2 h5 hle;go_enter func136, ntmps136;go_wp2_with fail;go_region;go_wp2_with fail;exact bodyPost_ret (v := .agg #[.int .i64 st, .int .i64 ((to - st : Nat) : Int)]) (by simp [results, results136, go_sem]) rfl ⟨rfl, ((Below.refl _ _).alloc (Nat.le_refl _) _).drew⟩
theorem Win.ne {α : Type} {e : Nat} {enc : α → Value} {w : World} {v : Value} {l : List α} (h : Win e enc w v l) {b : Nat} {c : Array Value} {T : TypeId} (hb : w.heap[b]? = some (.cells c T (0, 0))) (hT : T ≠ e) : v.ownBlock ≠ some b := by
 rcases h with ⟨rfl, _⟩ | ⟨g, off, cap, cur, rfl, hg, _⟩
 ·simp [Value.ownBlock]
 ·intro hc;simp only [Value.ownBlock, Option.some.injEq] at hc;subst hc;rw [hb] at hg;simp only [Option.some.injEq, Obj.cells.injEq] at hg;exact hT hg.2.1
theorem tell_any (w : World) (b : Nat) (v0 v1 v2 v3 v4 v5 v6 v7 v8 v9 va vb vc tokV : Value) (T : TypeId) (tv : Value) (toks : List Value) (h : w.heap[b]? = some (.cells #[v0, v1, v2, v3, v4, v5, v6, v7, v8, v9, va, vb, vc, tokV] 228 (0, 0)))
 (hw : Win 232 id w tokV toks) (hl : toks.length ≤ 1000) :
 Calls prog 135 #[.pointer (some ⟨b, 0, none⟩), .iface T tv] w fun e w' => e = .returned (.tuple #[]) ∧ ∃ g off cap, w'.heap[b]? = some (.cells #[v0, v1, v2, .func (.func 104) #[] #[], .bool false, v5, v6, v7, v8, v9, va, vb, vc, .slice (some ⟨g, off, none⟩) (toks.length + 1) cap] 228 (0, 0)) ∧
  Win 232 id w' (.slice (some ⟨g, off, none⟩) (toks.length + 1) cap) (toks ++ [.iface T tv]) ∧ (tokV.ownBlock = some g ∨ w.heap.size ≤ g) ∧ Keeps (fun k => k = b ∨ tokV.ownBlock = some k) w w' := by
 obtain ⟨c0, c1, c2, c3, c4, c5, c6, c7, c8, c9, ca, cb, cc, cd, cf⟩ := cells14 h;have H := hZ h;have hlt := lt_of_block h;have HNE := hZ (hw.ne h (by decide));obtain ⟨ta, tc, htv⟩ := hw.shape;have hw2 : Win 232 id (w.alloc (.cells #[.iface T tv] 232)) tokV toks := hw.keeps (F := fun _ => False) ((Keeps.refl _ w).alloc _) (fun _ _ => id);have HW := hZ hw2;clear h hw hw2;subst htv;go_enter func135, ntmps135
 go_wp2_with (at_builtin; refine append_win elemTok rfl _ _ rfl rfl HW.out ⟨w.heap.size, 0, none⟩ 1 (.iface T tv) rfl ?_ rfl ?_ ?_ ?_)
 ·simp
 ·omega
 ·unfold maxLen; omega
 intro g off cap w' hwin hgb hgr;have hb' := (hgr.block b (by simp; omega) (fun e => HNE.out e.symm)).trans ((Below.heap_alloc w _ _ hlt).trans H.out)
 have hgne : g ≠ b := by
  have := hwin.ne hb' (by decide);intro e;subst e;exact this rfl
 have HK := hZ (((Keeps.refl (fun k => k = b ∨ (Value.slice ta toks.length tc).ownBlock = some k) w).alloc (.cells #[.iface T tv] 232)).grown hgr (fun k e => .inl (.inr e)));have HWIN := hZ hwin;have HGB := hZ (show (Value.slice ta toks.length tc).ownBlock = some g ∨ w.heap.size ≤ g from hgb.elim .inl (fun h => .inr (by have := h.1; first | omega | (simp at this; omega))));obtain ⟨d0, d1, d2, d3, d4, d5, d6, d7, d8, d9, da, db, dc, dd, df⟩ := cells14 hb';have HB := hZ hb';have HGN := hZ hgne;clear hb' hwin hgb hgr hgne c0 c1 c2 c3 c4 c5 c6 c7 c8 c9 ca cb cc cd cf;go_wp2_with fail
 go_end0
 refine ⟨rfl, g, off, cap, set_at (set_at (set_at HB.out _) _) _, ?_, HGB.out, ((HK.out.setCell (p := ⟨b, 13, none⟩) (.inl (.inl rfl)) _).setCell (p := ⟨b, 4, none⟩) (.inl (.inl rfl)) _).setCell (p := ⟨b, 3, none⟩) (.inl (.inl rfl)) _⟩
 exact HWIN.out.keeps ((((Keeps.refl (fun k => k = b) w').setCell (p := ⟨b, 13, none⟩) (.inl rfl) _).setCell (p := ⟨b, 4, none⟩) (.inl rfl) _).setCell (p := ⟨b, 3, none⟩) (.inl rfl) _) (fun k e hk => by
  simp only [Value.ownBlock, Option.some.injEq] at e;exact HGN.out (e.trans hk))
theorem held2_any (w : World) (b pl st : Nat) (isIn : Bool) (c : Array Value) (h : w.heap[b]? = some (.cells c 228 (0, 0))) (h0 : c[0]? = some (.int .i64 pl)) (h4 : c[4]? = some (.bool isIn)) (h5 : c[5]? = some (.int .i64 st)) (hle : st ≤ pl) (hpl : pl ≤ 1073741824) :
 Calls prog 116 #[.pointer (some ⟨b, 0, none⟩)] w fun e w' => e = .returned (.int .i64 ((if isIn then pl - st else 0 : Nat) : Int)) ∧ Below w.heap.size w w' := by
 have c0 : w.cell? ⟨b, 0, none⟩ = some (.int .i64 pl) := by rw [cell_at h]; exact h0
 have c4 : w.cell? ⟨b, 4, none⟩ = some (.bool isIn) := by rw [cell_at h]; exact h4
 have c5 : w.cell? ⟨b, 5, none⟩ = some (.int .i64 st) := by rw [cell_at h]; exact h5
 have hr : IntKind.i64.wrap ((pl : Int) - (st : Int)) = ((pl - st : Nat) : Int) := by rw [IntKind.wrap_i64]; omega
 clear h h0 h4 h5 hle;cases isIn with
 | false =>
  go_enter func116, ntmps116;go_wp2_with fail;go_ret;exact ⟨rfl, Below.refl _ _⟩
 | true =>
  go_enter func116, ntmps116;go_wp2_with fail;go_region;go_wp2_with fail;go_ret;exact ⟨rfl, (Below.refl _ _).drew⟩
end Go.Proofs.YtakkmiomhackiaaGreatDoor
