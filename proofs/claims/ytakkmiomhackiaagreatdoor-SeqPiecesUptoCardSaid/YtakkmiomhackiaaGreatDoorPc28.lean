/-
  The program, one part of its walk: Lx16, Pa1, Pa2, Lx23, Wd11. Conditions: none.
-/
import Derived.Test.YtakkmiomhackiaaGreatDoorPc25
import Derived.Test.YtakkmiomhackiaaGreatDoorPc15
import Derived.Test.YtakkmiomhackiaaGreatDoorPc19
import Derived.Test.YtakkmiomhackiaaGreatDoorPc20
import Derived.Test.YtakkmiomhackiaaGreatDoorPc07
import Derived.Test.YtakkmiomhackiaaGreatDoorPc02
set_option linter.all false
set_option maxRecDepth 100000
set_option maxHeartbeats 16000000
namespace Go.Proofs.YtakkmiomhackiaaGreatDoor
open Go.RowKit
section
def spotV (no at_ : Nat) : Value := .iface 151 (.agg #[.int .i64 no, .int .i64 at_])
section
variable {F : Nat → Prop} {w : World} {b : Nat} {x : Lx} {dn : Bool} {toks : List Tok}
theorem LexAt.cells (h : LexAt F w b x dn toks) : w.cell? ⟨b, 0, none⟩ = some (.int .i64 x.place) ∧ w.cell? ⟨b, 1, none⟩ = some .nilIface ∧ w.cell? ⟨b, 2, none⟩ = some (.bool dn) ∧ w.cell? ⟨b, 4, none⟩ = some (.bool x.isIn) ∧ w.cell? ⟨b, 5, none⟩ = some (.int .i64 x.start) ∧ ∀ o, w.frozen? ⟨b, o, none⟩ = false := by
 obtain ⟨hF, hlt, rawV, chV, saysV, tokV, hb, _⟩ := h;obtain ⟨c0, c1, c2, c3, c4, c5, c6, c7, c8, c9, ca, cb, cc, cd, cf⟩ := cells14 hb;exact ⟨c0, c1, c2, c4, c5, cf⟩
theorem LexAt.err_set (h : LexAt F w b x dn toks) : LexAt F (w.setCell ⟨b, 1, none⟩ .nilIface) b x dn toks := by
 obtain ⟨hF, hlt, rawV, chV, saysV, tokV, hb, hw, hs⟩ := h;have hk : Keeps (fun k => k = b) w (w.setCell ⟨b, 1, none⟩ .nilIface) := (Keeps.refl (fun k => k = b) w).setCell (p := ⟨b, 1, none⟩) (.inl rfl) _;refine ⟨hF, fun k hk' => Nat.lt_of_lt_of_le (hlt k hk') hk.size, rawV, chV, saysV, tokV, set_at hb _, ⟨hw.1.keeps hk (fun k e hk => hw.1.ne hb (by decide) (e.trans (congrArg some hk))), hw.2⟩, ⟨fun h => ?_, fun h => ?_⟩⟩
 ·have hr := hs.raw h;exact ⟨hr.1.keeps hk (fun k e hk => hr.1.ne hb (by decide) (e.trans (congrArg some hk))), hr.2⟩
 ·obtain ⟨h1, f, pl, h2, h3, h4, h5⟩ := hs.text h;refine ⟨⟨h1.1.keeps hk (fun k e hk => h1.1.ne hb (by decide) (e.trans (congrArg some hk))), h1.2⟩, f, pl, h2, h3.keeps hk (fun e => ?_), h4, h5⟩;subst e;obtain ⟨_, a0, a1, a2, a3, h9, _⟩ := h3;rw [h9] at hb;simp at hb
theorem LexDead.err_set {pl st : Nat} {errV : Value} (h : LexDead F w b pl st errV toks) (u : Value) : LexDead F (w.setCell ⟨b, 1, none⟩ u) b pl st u toks := by
 obtain ⟨hF, hlt, v2, v3, v4, v6, v7, v8, v9, va, vb, vc, tokV, hb, hw⟩ := h;have hk : Keeps (fun k => k = b) w (w.setCell ⟨b, 1, none⟩ u) := (Keeps.refl (fun k => k = b) w).setCell (p := ⟨b, 1, none⟩) (.inl rfl) _;exact ⟨hF, fun k hk' => Nat.lt_of_lt_of_le (hlt k hk') hk.size, v2, v3, v4, v6, v7, v8, v9, va, vb, vc, tokV, set_at hb _, ⟨hw.1.keeps hk (fun k e hk => hw.1.ne hb (by decide) (e.trans (congrArg some hk))), hw.2⟩⟩
theorem LexDead.cells {pl st : Nat} {errV : Value} (h : LexDead F w b pl st errV toks) : w.cell? ⟨b, 1, none⟩ = some errV ∧ ∀ o, w.frozen? ⟨b, o, none⟩ = false := by
 obtain ⟨hF, hlt, v2, v3, v4, v6, v7, v8, v9, va, vb, vc, tokV, hb, hw⟩ := h;obtain ⟨c0, c1, c2, c3, c4, c5, c6, c7, c8, c9, ca, cb, cc, cd, cf⟩ := cells14 hb;exact ⟨c1, cf⟩
end
theorem lexFeed_any (F : Nat → Prop) (w : World) (b g off : Nat) (x : Lx) (toks : List Tok) (c : UInt8) (h : LexAt F w b x false toks) (hc : w.cell? ⟨g, off, none⟩ = some (.int .u8 ((c.toNat : Nat) : Int)))
 (htake : Calls Tryz.prog 115 #[.pointer (some ⟨b, 0, none⟩), .int .u8 ((c.toNat : Nat) : Int)] w fun e w' => TakePost F w b toks (x.take c) (fun _ _ => .nilIface) e w') :
 Calls Tryz.prog 82 #[.pointer (some ⟨b, 0, none⟩), .slice (some ⟨g, off, none⟩) 1 1] w fun e w' => TakePost F w b toks (x.take c) spotV e w' := by
 obtain ⟨c0, c1, c2, c4, c5, cf⟩ := h.cells;have HF := Lib.hid h.1;have HT := Lib.hid htake;obtain ⟨t, ht⟩ : ∃ t, x.take c = t := ⟨_, rfl⟩;rw [ht] at HT ⊢;clear h htake ht;go_enter Tryz.func82, Tryz.ntmps82;go_wp2_with fail
 go_loopw [5] (fun i wr => (i = .int .i64 0 ∧ wr = w) ∨ (i = .int .i64 1 ∧ Hid (∃ e, TakePost F w b toks t spotV e wr))) (fun i _ => 1 - (intOf i).toNat)
 case atStart => exact .inl ⟨rfl, rfl⟩
 case round =>
  rcases hrel with ⟨rfl, rfl⟩ | ⟨rfl, hfin⟩
  ·go_wp2_with fail;refine (HT.out).mono ?_;rintro e w2 ⟨hk, hg, hd⟩
   by_cases hn : t.2.2.1 = 0
   ·obtain ⟨rfl, hl⟩ := hg hn;obtain ⟨d0, d1, d2, d4, d5, df⟩ := hl.cells;have HL := Lib.hid hl;have HK := Lib.hid hk;have HN := Lib.hid hn;clear hg hd hl hk hn c0 c1 c2 c4 c5 cf hc;go_wp2_with fail
    go_roundw
    case rel =>
     refine .inr ⟨by go_num, Lib.hid ⟨.returned .nilIface, HK.out.setCell (p := ⟨b, 1, none⟩) (.inl HF.out) _, fun _ => ⟨rfl, ?_⟩, fun e => absurd HN.out e⟩⟩;exact (HL.out.err_set).mono (fun k hk => hk.mono_r (by simp [World.setCell])) (fun k hk => HL.out.err_set.lt k (hk.mono_r (by simp [World.setCell])))
    case measure => simp [intOf]
   ·obtain ⟨rfl, pl, st, hl⟩ := hd hn;obtain ⟨d1, df⟩ := hl.cells;have HL := Lib.hid hl;have HK := Lib.hid hk;have HN := Lib.hid hn;clear hg hd hl hk hn c0 c1 c2 c4 c5 cf hc;go_wp2_with fail
    go_roundw
    case rel =>
     refine .inr ⟨by go_num, Lib.hid ⟨.returned (spotV t.2.2.1 t.2.2.2), HK.out.setCell (p := ⟨b, 1, none⟩) (.inl HF.out) _, fun e => absurd e HN.out, fun _ => ⟨rfl, pl, st, ?_⟩⟩⟩;exact (HL.out.err_set _).mono (fun k hk => hk.mono_r (by simp [World.setCell])) (fun k hk => (HL.out.err_set (spotV t.2.2.1 t.2.2.2)).2.1 k (hk.mono_r (by simp [World.setCell])))
    case measure => simp [intOf]
  ·have HFIN := Lib.hid hfin.out;obtain ⟨e0, hk, hg, hd⟩ := hfin.out;clear hfin
   by_cases hn : t.2.2.1 = 0
   ·obtain ⟨rfl, hl⟩ := hg hn;obtain ⟨d0, d1, d2, d4, d5, df⟩ := hl.cells;have HL := Lib.hid hl;have HK := Lib.hid hk;have HN := Lib.hid hn;clear hg hd hl hk hn c0 c1 c2 c4 c5 cf hc;go_wp2_with fail;go_ret;exact ⟨HK.out, fun _ => ⟨rfl, HL.out⟩, fun e => absurd HN.out e⟩
   ·obtain ⟨rfl, pl, st, hl⟩ := hd hn;obtain ⟨d1, df⟩ := hl.cells;have HL := Lib.hid hl;have HK := Lib.hid hk;have HN := Lib.hid hn;clear hg hd hl hk hn c0 c1 c2 c4 c5 cf hc;go_wp2_with fail;go_ret;exact ⟨HK.out, fun e => absurd e HN.out, fun _ => ⟨rfl, pl, st, HL.out⟩⟩
end
def failE (no at_ : Nat) : Ending := .panicked [{ v := spotV no at_, recovered := false }]
theorem fail_any (w : World) (no at_ : Nat) : Calls Tryz.prog 81 #[.int .i64 no, .int .i64 at_] w fun e w' => e = failE no at_ ∧ w' = w := by
 go_enter Tryz.func81, Tryz.ntmps81;go_wp2;exact ⟨rfl, rfl, rfl⟩
theorem cells10 {w : World} {b : Nat} {v0 v1 v2 v3 v4 v5 v6 v7 v8 v9 : Value} {T : TypeId} (h : w.heap[b]? = some (.cells #[v0, v1, v2, v3, v4, v5, v6, v7, v8, v9] T (0, 0))) :
 w.cell? ⟨b, 0, none⟩ = some v0 ∧ w.cell? ⟨b, 1, none⟩ = some v1 ∧ w.cell? ⟨b, 2, none⟩ = some v2 ∧ w.cell? ⟨b, 3, none⟩ = some v3 ∧ w.cell? ⟨b, 4, none⟩ = some v4 ∧ w.cell? ⟨b, 5, none⟩ = some v5 ∧ w.cell? ⟨b, 6, none⟩ = some v6 ∧ w.cell? ⟨b, 7, none⟩ = some v7 ∧
 w.cell? ⟨b, 8, none⟩ = some v8 ∧ w.cell? ⟨b, 9, none⟩ = some v9 ∧ ∀ o, w.frozen? ⟨b, o, none⟩ = false :=
 ⟨cell_at h, cell_at h, cell_at h, cell_at h, cell_at h, cell_at h, cell_at h, cell_at h, cell_at h, cell_at h, free_at h⟩
theorem lexed_nil (w : World) : Calls Tryz.prog 80 #[.nilIface] w fun e w' => e = .returned (.tuple #[]) ∧ w' = w := by
 go_enter Tryz.func80, Tryz.ntmps80;go_wp2
 first
  | (go_end0; exact ⟨rfl, rfl⟩)
  | exact bodyPost_ret (results_none rfl _ _ _) rfl ⟨rfl, rfl⟩
theorem lexed_spot (w : World) (no at_ : Nat) : Calls Tryz.prog 80 #[spotV no at_] w fun e w' => e = failE (lexNo no) at_ ∧ Below w.heap.size w w' := by
 have hta : ∀ w : World, (Instr.typeAssert (.iface 151 (.agg #[.int .i64 no, .int .i64 at_])) 26 151 false).run Tryz.prog w = .ok (.agg #[.int .i64 no, .int .i64 at_]) w := fun _ => by kernel_rfl
 unfold spotV
 by_cases h : no = 94
 ·subst h;simp only [Int.cast_ofNat_Int] at hta ⊢;go_enter Tryz.func80, Tryz.ntmps80;go_wp2;exact ⟨rfl, rfl, (Below.refl _ _).alloc (Nat.le_refl _) _⟩
 ·have hn : ((no : Int) == 94) = false := by simp; omega
  have hl : lexNo no = no := if_neg h;rw [hl];clear hl h;go_enter Tryz.func80, Tryz.ntmps80;go_wp2;exact ⟨rfl, rfl, (Below.refl _ _).alloc (Nat.le_refl _) _⟩
theorem value_ok (w : World) (p d want nodes at_ n cap : Nat) (a : Option Addr) (v1 v2 v3 v7 v8 v9 : Value) (h : w.heap[p]? = some (.cells #[.int .i64 d, v1, v2, v3, .slice a n cap, .int .i64 want, .int .i64 nodes, v7, v8, v9] 136 (0, 0))) (hw : want = 0 ∨ want = 1) (hn : n ≠ d) (hno : nodes < 65536) :
 Calls Tryz.prog 117 #[.pointer (some ⟨p, 0, none⟩), .int .i64 at_] w fun e w' => e = .returned (.tuple #[]) ∧ w'.heap[p]? = some (.cells #[.int .i64 d, v1, v2, v3, .slice a n cap, .int .i64 want, .int .i64 (nodes + 1 : Nat), v7, v8, v9] 136 (0, 0)) ∧ Keeps (fun k => k = p) w w' := by
 obtain ⟨c0, c1, c2, c3, c4, c5, c6, c7, c8, c9, cf⟩ := cells10 h;have H := Lib.hid h;have e1 : ((n : Int) == (d : Int)) = false := by simp; omega
 have e1n : (n == d) = false := by simpa using hn
 have e2 : ((nodes : Int) == 65536) = false := by simp; omega
 clear h hn;rcases hw with rfl | rfl
 all_goals
  go_enter Tryz.func117, Tryz.ntmps117;go_wp2_with fail;go_region;go_wp2_with fail
  go_end0
  exact ⟨rfl, set_at (w := w.drew) H.out _, ((Keeps.refl (fun k => k = p) w).drew).setCell (p := ⟨p, 6, none⟩) (.inl rfl) _⟩
theorem value_syntax (w : World) (p want at_ : Nat) (v0 v1 v2 v3 v4 v6 v7 v8 v9 : Value) (h : w.heap[p]? = some (.cells #[v0, v1, v2, v3, v4, .int .i64 want, v6, v7, v8, v9] 136 (0, 0))) (hw : want ≠ 0 ∧ want ≠ 1) :
 Calls Tryz.prog 117 #[.pointer (some ⟨p, 0, none⟩), .int .i64 at_] w fun e w' => e = failE 120 at_ ∧ Below w.heap.size w w' := by
 obtain ⟨c0, c1, c2, c3, c4, c5, c6, c7, c8, c9, cf⟩ := cells10 h;have e1 : ((want : Int) == 0) = false := by simp; omega
 have e2 : ((want : Int) == 1) = false := by simp; omega
 have e3 : ((want : Int) != 0) = true := by simp; omega
 have e4 : ((want : Int) != 1) = true := by simp; omega
 have HF := Lib.hid (fun w => fail_any w 120 at_);clear h hw;go_enter Tryz.func117, Tryz.ntmps117;go_wp2_with fail;refine (HF.out _).mono ?_;rintro e w1 ⟨he, rfl⟩;unfold failE at he;subst he;go_wp2_with fail;exact ⟨rfl, rfl, Below.refl _ _⟩
theorem value_depth (w : World) (p d want at_ cap : Nat) (a : Option Addr) (v1 v2 v3 v6 v7 v8 v9 : Value) (h : w.heap[p]? = some (.cells #[.int .i64 d, v1, v2, v3, .slice a d cap, .int .i64 want, v6, v7, v8, v9] 136 (0, 0))) (hw : want = 0 ∨ want = 1) :
 Calls Tryz.prog 117 #[.pointer (some ⟨p, 0, none⟩), .int .i64 at_] w fun e w' => e = failE 121 at_ ∧ Below w.heap.size w w' := by
 obtain ⟨c0, c1, c2, c3, c4, c5, c6, c7, c8, c9, cf⟩ := cells10 h;have HF := Lib.hid (fun w => fail_any w 121 at_);clear h;rcases hw with rfl | rfl
 all_goals
  go_enter Tryz.func117, Tryz.ntmps117;go_wp2_with fail;go_region;go_wp2_with fail;refine (HF.out _).mono ?_;rintro e w1 ⟨he, rfl⟩;unfold failE at he;subst he;go_wp2_with fail;exact ⟨rfl, rfl, (Below.refl _ _).drew⟩
theorem value_long (w : World) (p d want at_ n cap : Nat) (a : Option Addr) (v1 v2 v3 v7 v8 v9 : Value) (h : w.heap[p]? = some (.cells #[.int .i64 d, v1, v2, v3, .slice a n cap, .int .i64 want, .int .i64 65536, v7, v8, v9] 136 (0, 0))) (hw : want = 0 ∨ want = 1) (hn : n ≠ d) :
 Calls Tryz.prog 117 #[.pointer (some ⟨p, 0, none⟩), .int .i64 at_] w fun e w' => e = failE 3 at_ ∧ Below w.heap.size w w' := by
 obtain ⟨c0, c1, c2, c3, c4, c5, c6, c7, c8, c9, cf⟩ := cells10 h;have e1 : ((n : Int) == (d : Int)) = false := by simp; omega
 have e1n : (n == d) = false := by simpa using hn
 have HF := Lib.hid (fun w => fail_any w 3 at_);clear h hn;rcases hw with rfl | rfl
 all_goals
  go_enter Tryz.func117, Tryz.ntmps117;go_wp2_with fail;go_region;go_wp2_with fail;refine (HF.out _).mono ?_;rintro e w1 ⟨he, rfl⟩;unfold failE at he;subst he;go_wp2_with fail;exact ⟨rfl, rfl, (Below.refl _ _).drew⟩
theorem weigh_any (w : World) (p bytes at_ : Nat) (s : ByteArray) (v0 v1 v2 v3 v4 v5 v6 v8 v9 : Value) (h : w.heap[p]? = some (.cells #[v0, v1, v2, v3, v4, v5, v6, .int .i64 bytes, v8, v9] 136 (0, 0))) (hb : bytes ≤ 1073741824) (hs : s.size ≤ 1073741824) :
 Calls Tryz.prog 149 #[.pointer (some ⟨p, 0, none⟩), .string s, .int .i64 at_] w fun e w' => (bytes + s.size ≤ 2097152 → e = .returned (.tuple #[])) ∧ (2097152 < bytes + s.size → e = failE 3 at_) ∧ w'.heap[p]? = some (.cells #[v0, v1, v2, v3, v4, v5, v6, .int .i64 (bytes + s.size : Nat), v8, v9] 136 (0, 0)) ∧ Keeps (fun k => k = p) w w' := by
 obtain ⟨c0, c1, c2, c3, c4, c5, c6, c7, c8, c9, cf⟩ := cells10 h;have H := Lib.hid h;have HF := Lib.hid (fun w => fail_any w 3 at_);obtain ⟨n, hn⟩ : ∃ n, s.size = n := ⟨_, rfl⟩;rw [hn] at hs;have HN := Lib.hid hn;have hset := set_at (o := 7) h (.int .i64 ((bytes + n : Nat) : Int));simp only [List.setIfInBounds_toArray, List.set_cons_zero, List.set_cons_succ] at hset;have HS := Lib.hid hset;clear h hset
 by_cases hf : bytes + n ≤ 2097152
 ·have e1 : (bytes : Int) + (n : Int) ≤ 2097152 := by omega
  have HFF := Lib.hid hf;clear hf;go_enter Tryz.func149, Tryz.ntmps149;go_wp2_with fail
  go_end0
  rw [HN.out];exact ⟨fun _ => rfl, fun h => absurd HFF.out (Nat.not_le.2 h), HS.out, (Keeps.refl (fun k => k = p) w).setCell (p := ⟨p, 7, none⟩) (.inl rfl) _⟩
 ·have e1 : ¬ (bytes : Int) + (n : Int) ≤ 2097152 := by omega
  have HFF := Lib.hid hf;clear hf;go_enter Tryz.func149, Tryz.ntmps149;go_wp2_with fail;refine (HF.out _).mono ?_;rintro e w1 ⟨he, rfl⟩;unfold failE at he;subst he;go_wp2_with fail;rw [HN.out];exact ⟨rfl, fun h => absurd h HFF.out, fun _ => rfl, HS.out, (Keeps.refl (fun k => k = p) w).setCell (p := ⟨p, 7, none⟩) (.inl rfl) _⟩
def Plainly (e : Ending) : Prop := e = .returned (.tuple #[]) ∨ ∃ no at_, e = failE no at_
theorem begins_value (w : World) (p pl want : Nat) (v0 v2 v3 v4 v6 v7 v8 v9 : Value) (c : UInt8) (Q : Ending → World → Prop) (h : w.heap[p]? = some (.cells #[v0, .int .i64 pl, v2, v3, v4, .int .i64 want, v6, v7, v8, v9] 136 (0, 0))) (hc : c ≠ 34 ∨ (want ≠ 2 ∧ want ≠ 3))
 (hv : Calls Tryz.prog 117 #[.pointer (some ⟨p, 0, none⟩), .int .i64 pl] w fun e w' => Plainly e ∧ Q e w') :
 Calls Tryz.prog 84 #[.pointer (some ⟨p, 0, none⟩), .int .u8 ((c.toNat : Nat) : Int)] w Q := by
 obtain ⟨c0, c1, c2, c3, c4, c5, c6, c7, c8, c9, cf⟩ := cells10 h;have HV := Lib.hid hv
 have hway : ¬ c = 34 ∨ (c = 34 ∧ ((want : Int) == 2) = false ∧ ((want : Int) == 3) = false) := by
  by_cases h34 : c = 34
  ·right;have := hc.resolve_left (fun h => h h34);exact ⟨h34, by simp; omega, by simp; omega⟩
  ·exact .inl h34
 clear h hv hc;rcases hway with h34 | ⟨h34, e2, e3⟩
 ·obtain ⟨n1, n2, n3⟩ := byte_ne3 (c := c) (d := 34) (n := 34) h34 rfl;clear h34;go_enter Tryz.func84, Tryz.ntmps84;go_wp2_with fail;refine (HV.out).mono ?_;rintro e w1 ⟨rfl | ⟨no, at_, he⟩, hq⟩
  ·have HQ := Lib.hid hq;clear hq;go_wp2_with fail
   first
    | (go_end0; exact HQ.out)
    | exact HQ.out
  ·have HQ := Lib.hid hq;clear hq;have HE := Lib.hid he;unfold failE at he;subst he;go_wp2_with fail;exact ⟨rfl, HQ.out⟩
 ·have hv : ((c.toNat : Nat) : Int) = 34 := by rw [h34]; rfl
  clear h34;go_enter Tryz.func84, Tryz.ntmps84;go_wp2_with fail;refine (HV.out).mono ?_;rintro e w1 ⟨rfl | ⟨no, at_, he⟩, hq⟩
  ·have HQ := Lib.hid hq;clear hq;go_wp2_with fail
   first
    | (go_end0; exact HQ.out)
    | exact HQ.out
  ·have HQ := Lib.hid hq;clear hq;unfold failE at he;subst he;go_wp2_with fail;exact ⟨rfl, HQ.out⟩
theorem put_empty (w : World) (p cap : Nat) (a : Option Addr) (v0 v1 v2 v3 v5 v6 v7 v8 v9 : Value) (h : w.heap[p]? = some (.cells #[v0, v1, v2, v3, .slice a 0 cap, v5, v6, v7, v8, v9] 136 (0, 0))) :
 Calls Tryz.prog 151 #[.pointer (some ⟨p, 0, none⟩)] w fun e w' => e = .returned (.tuple #[]) ∧ w'.heap[p]? = some (.cells #[v0, v1, v2, v3, .slice a 0 cap, .int .i64 6, v6, v7, v8, v9] 136 (0, 0)) ∧ Keeps (fun k => k = p) w w' := by
 obtain ⟨c0, c1, c2, c3, c4, c5, c6, c7, c8, c9, cf⟩ := cells10 h;have H := Lib.hid h;clear h;go_enter Tryz.func151, Tryz.ntmps151;go_wp2_with fail
 first
  | (go_end0; exact ⟨rfl, set_at (set_at H.out _) _, ((Keeps.refl (fun k => k = p) w).setCell (p := ⟨p, 5, none⟩) (.inl rfl) _).setCell (p := ⟨p, 5, none⟩) (.inl rfl) _⟩)
  | exact bodyPost_ret (results_none rfl _ _ _) rfl ⟨rfl, set_at (set_at H.out _) _, ((Keeps.refl (fun k => k = p) w).setCell (p := ⟨p, 5, none⟩) (.inl rfl) _).setCell (p := ⟨p, 5, none⟩) (.inl rfl) _⟩
theorem put_list (w : World) (p g off n cap fb m : Nat) (v0 v1 v2 v3 v5 v6 v7 v8 v9 : Value) (h : w.heap[p]? = some (.cells #[v0, v1, v2, v3, .slice (some ⟨g, off, none⟩) (n + 1) cap, v5, v6, v7, v8, v9] 136 (0, 0)))
 (hg : w.cell? ⟨g, off + n, none⟩ = some (.iface 272 (.pointer (some ⟨fb, 0, none⟩)))) (hgp : g ≠ p) (hf : w.heap[fb]? = some (.cells #[.int .i64 m] 274 (0, 0))) (hn : n ≤ 1048576) (hm : m ≤ 1073741824) :
 Calls Tryz.prog 151 #[.pointer (some ⟨p, 0, none⟩)] w fun e w' => e = .returned (.tuple #[]) ∧ w'.heap[p]? = some (.cells #[v0, v1, v2, v3, .slice (some ⟨g, off, none⟩) (n + 1) cap, .int .i64 5, v6, v7, v8, v9] 136 (0, 0)) ∧ w'.heap[fb]? = some (.cells #[.int .i64 (m + 1 : Nat)] 274 (0, 0)) ∧ Keeps (fun k => k = p ∨ k = fb) w w' := by
 have hta : ∀ w : World, (Instr.typeAssert (.iface 272 (.pointer (some ⟨fb, 0, none⟩))) 281 272 true).run Tryz.prog w = .ok (.tuple #[.pointer (some ⟨fb, 0, none⟩), .bool true]) w := fun _ => by kernel_rfl
 obtain ⟨c0, c1, c2, c3, c4, c5, c6, c7, c8, c9, cf⟩ := cells10 h
 have hpf : p ≠ fb := by
  intro e; subst e;rw [h] at hf;simp at hf
 have hp2 : (w.setCell ⟨p, 5, none⟩ (.int .i64 5)).heap[p]? = _ := set_at h _;have hf2 : (w.setCell ⟨p, 5, none⟩ (.int .i64 5)).heap[fb]? = _ := (set_else _ (fun e => hpf e.symm)).trans hf;have hg2 : (w.setCell ⟨p, 5, none⟩ (.int .i64 5)).cell? ⟨g, off + n, none⟩ = _ := ((Keeps.refl (fun k => k = p) w).setCell (p := ⟨p, 5, none⟩) (.inl rfl) _).cell hg hgp;have HK := Lib.hid ((Keeps.refl (fun k => k = p ∨ k = fb) w).setCell (p := ⟨p, 5, none⟩) (.inl (.inl rfl)) (.int .i64 5));simp only [List.setIfInBounds_toArray, List.set_cons_zero, List.set_cons_succ] at hp2;have HP2 := Lib.hid hp2;have HF2 := Lib.hid hf2;have HG2 := Lib.hid hg2;have HPF := Lib.hid hpf;clear h hg hf hp2 hf2 hg2 hpf;go_enter Tryz.func151, Tryz.ntmps151;go_wp2_with fail;obtain ⟨w2, hw2⟩ : ∃ w2, w.setCell ⟨p, 5, none⟩ (.int .i64 5) = w2 := ⟨_, rfl⟩;rw [hw2] at HK HP2 HF2 HG2 ⊢;obtain ⟨d0, d1, d2, d3, d4, d5, d6, d7, d8, d9, df⟩ := cells10 HP2.out;have hg3 := HG2.out;have hf3 := cell_of_one HF2.out;have hff := free_of_one HF2.out;have hr1 : IntKind.i64.wrap ((n : Int) + 1 - 1) = (n : Int) := by rw [IntKind.wrap_i64]; omega
 clear hw2 c0 c1 c2 c3 c4 c5 c6 c7 c8 c9 cf;go_region;go_wp2_with fail
 go_end0
 exact ⟨rfl, (set_else (w := w2.drew) _ HPF.out).trans HP2.out, set_at (w := w2.drew) HF2.out _, (HK.out.drew).setCell (p := ⟨fb, 0, none⟩) (.inl (.inr rfl)) _⟩
theorem put_object (w : World) (p g off n cap fb : Nat) (v0 v1 v2 v3 v5 v6 v7 v8 v9 : Value) (h : w.heap[p]? = some (.cells #[v0, v1, v2, v3, .slice (some ⟨g, off, none⟩) (n + 1) cap, v5, v6, v7, v8, v9] 136 (0, 0)))
 (hg : w.cell? ⟨g, off + n, none⟩ = some (.iface 275 (.pointer (some ⟨fb, 0, none⟩)))) (hgp : g ≠ p) (hn : n ≤ 1048576) :
 Calls Tryz.prog 151 #[.pointer (some ⟨p, 0, none⟩)] w fun e w' => e = .returned (.tuple #[]) ∧ w'.heap[p]? = some (.cells #[v0, v1, v2, v3, .slice (some ⟨g, off, none⟩) (n + 1) cap, .int .i64 5, v6, v7, v8, v9] 136 (0, 0)) ∧ Keeps (fun k => k = p) w w' := by
 have hta : ∀ w : World, (Instr.typeAssert (.iface 275 (.pointer (some ⟨fb, 0, none⟩))) 281 272 true).run Tryz.prog w = .ok (.tuple #[.pointer none, .bool false]) w := fun _ => by kernel_rfl
 obtain ⟨c0, c1, c2, c3, c4, c5, c6, c7, c8, c9, cf⟩ := cells10 h;have hp2 : (w.setCell ⟨p, 5, none⟩ (.int .i64 5)).heap[p]? = _ := set_at h _;have hg2 : (w.setCell ⟨p, 5, none⟩ (.int .i64 5)).cell? ⟨g, off + n, none⟩ = _ := ((Keeps.refl (fun k => k = p) w).setCell (p := ⟨p, 5, none⟩) (.inl rfl) _).cell hg hgp;have HK := Lib.hid ((Keeps.refl (fun k => k = p) w).setCell (p := ⟨p, 5, none⟩) (.inl rfl) (.int .i64 5));simp only [List.setIfInBounds_toArray, List.set_cons_zero, List.set_cons_succ] at hp2;have HP2 := Lib.hid hp2;have HG2 := Lib.hid hg2;clear h hg hp2 hg2;go_enter Tryz.func151, Tryz.ntmps151;go_wp2_with fail;obtain ⟨w2, hw2⟩ : ∃ w2, w.setCell ⟨p, 5, none⟩ (.int .i64 5) = w2 := ⟨_, rfl⟩;rw [hw2] at HK HP2 HG2 ⊢;obtain ⟨d0, d1, d2, d3, d4, d5, d6, d7, d8, d9, df⟩ := cells10 HP2.out;have hg3 := HG2.out;have hr1 : IntKind.i64.wrap ((n : Int) + 1 - 1) = (n : Int) := by rw [IntKind.wrap_i64]; omega
 clear hw2 c0 c1 c2 c3 c4 c5 c6 c7 c8 c9 cf;go_region;go_wp2_with fail
 go_end0
 exact ⟨rfl, HP2.out, HK.out.drew⟩
theorem begins_key (w : World) (p want : Nat) (v0 v1 v2 v3 v4 v6 v7 v8 v9 : Value) (c : UInt8) (h : w.heap[p]? = some (.cells #[v0, v1, v2, v3, v4, .int .i64 want, v6, v7, v8, v9] 136 (0, 0))) (hc : c = 34) (hw : want = 2 ∨ want = 3) :
 Calls Tryz.prog 84 #[.pointer (some ⟨p, 0, none⟩), .int .u8 ((c.toNat : Nat) : Int)] w fun e w' => e = .returned (.tuple #[]) ∧ Below w.heap.size w w' := by
 obtain ⟨c0, c1, c2, c3, c4, c5, c6, c7, c8, c9, cf⟩ := cells10 h;have hv : ((c.toNat : Nat) : Int) = 34 := by rw [hc]; rfl
 rw [hv];clear h hc hv;rcases hw with rfl | rfl
 all_goals
  go_enter Tryz.func84, Tryz.ntmps84;go_wp2_with fail
  first
   | (go_end0; exact ⟨rfl, Below.refl _ _⟩)
   | exact bodyPost_ret (results_none rfl _ _ _) rfl ⟨rfl, Below.refl _ _⟩
theorem hex_join {cd' v : Nat} (h1 : cd' < 4096) (h2 : v < 16) : bits BinOp.or IntKind.i32 ((cd' : Int) * 16) (v : Int) = ((cd' * 16 + v : Nat) : Int) := by
 have hx : cd' * 16 ||| v = cd' * 16 + v := nat_join 4 _ _ (by omega) (by omega)
 have e1 : (BitVec.ofInt 32 ((cd' : Int) * 16)).toNat = cd' * 16 := by
  rw [show ((cd' : Int) * 16) = ((cd' * 16 : Nat) : Int) by omega];exact ofInt_u32 _ (by omega)
 show IntKind.i32.wrap ((BitVec.ofInt 32 ((cd' : Int) * 16) ||| BitVec.ofInt 32 (v : Int)).toNat : Int) = _
 rw [BitVec.toNat_or, e1, ofInt_u32 v (by omega), hx];simp only [IntKind.wrap, IntKind.bits, IntKind.signed];simp;omega
theorem digit_bad (w : World) (b hi : Nat) (v0 v1 v2 v3 v4 v5 v6 v7 v8 v9 va vb vd : Value) (ch : UInt8) (h : w.heap[b]? = some (.cells #[v0, v1, v2, v3, v4, v5, v6, v7, v8, v9, va, vb, .int .i32 hi, vd] 228 (0, 0))) (hx : hexOf ch = none) :
 Calls Tryz.prog 188 #[.pointer (some ⟨b, 0, none⟩), .int .u8 ((ch.toNat : Nat) : Int)] w fun e w' => e = .returned (.int .i64 (if hi = 0 then 92 else 93)) ∧ w' = w := by
 obtain ⟨c0, c1, c2, c3, c4, c5, c6, c7, c8, c9, ca, cb, cc, cd, cf⟩ := cells14 h;have HV := Lib.hid (value_any ch);rw [hx] at HV;clear h hx
 by_cases h0 : hi = 0
 ·rw [if_pos h0];subst h0;go_enter Tryz.func188, Tryz.ntmps188;go_wp2_with fail;refine (HV.out _).mono ?_;rintro e w1 ⟨he, rfl⟩;unfold hexRet at he;simp only [] at he;subst he;go_wp2_with fail;go_ret;exact ⟨rfl, rfl⟩
 ·rw [if_neg h0];obtain ⟨n1, n2, n3⟩ := nat_ne3 (n := hi) (k := 0) (by omega);clear h0;go_enter Tryz.func188, Tryz.ntmps188;go_wp2_with fail;refine (HV.out _).mono ?_;rintro e w1 ⟨he, rfl⟩;unfold hexRet at he;simp only [] at he;subst he;go_wp2_with fail;go_ret;exact ⟨rfl, rfl⟩
theorem digit_lone (w : World) (b dg cd' hi v : Nat) (v0 v1 v2 v3 v4 v5 v6 v7 v8 v9 vd : Value) (ch : UInt8) (h : w.heap[b]? = some (.cells #[v0, v1, v2, v3, v4, v5, v6, v7, v8, v9, .int .i64 dg, .int .i32 cd', .int .i32 hi, vd] 228 (0, 0))) (hx : hexOf ch = some v) (hlo : loneOf hi dg cd' v = true) :
 Calls Tryz.prog 188 #[.pointer (some ⟨b, 0, none⟩), .int .u8 ((ch.toNat : Nat) : Int)] w fun e w' => e = .returned (.int .i64 93) ∧ w' = w := by
 obtain ⟨c0, c1, c2, c3, c4, c5, c6, c7, c8, c9, ca, cb, cc, cd, cf⟩ := cells14 h;have HV := Lib.hid (value_any ch);rw [hx] at HV;have HL := Lib.hid (lone_any w b dg cd' hi v _ _ _ _ _ _ _ _ _ _ _ h);rw [hlo] at HL;have e1 : ¬ (v : Int) < 0 := by omega
 clear h hx hlo;go_enter Tryz.func188, Tryz.ntmps188;go_wp2_with fail;refine (HV.out _).mono ?_;rintro e w1 ⟨he, rfl⟩;unfold hexRet at he;simp only [] at he;subst he;go_wp2_with fail;refine (HL.out).mono ?_;rintro e w1 ⟨rfl, rfl⟩;go_wp2_with fail;go_ret;exact ⟨rfl, rfl⟩
theorem digit_more (w : World) (b dg cd' hi v : Nat) (v0 v1 v2 v3 v4 v5 v6 v7 v8 v9 vd : Value) (ch : UInt8) (h : w.heap[b]? = some (.cells #[v0, v1, v2, v3, v4, v5, v6, v7, v8, v9, .int .i64 dg, .int .i32 cd', .int .i32 hi, vd] 228 (0, 0))) (hx : hexOf ch = some v) (hlo : loneOf hi dg cd' v = false) (hcd : cd' < 4096) (hdg : dg < 3) :
 Calls Tryz.prog 188 #[.pointer (some ⟨b, 0, none⟩), .int .u8 ((ch.toNat : Nat) : Int)] w fun e w' => StepRet w b 0 #[v0, v1, v2, v3, v4, v5, v6, v7, v8, v9, .int .i64 (dg + 1 : Nat), .int .i32 (cd' * 16 + v : Nat), .int .i32 hi, vd] e w' := by
 obtain ⟨c0, c1, c2, c3, c4, c5, c6, c7, c8, c9, ca, cb, cc, cd, cf⟩ := cells14 h;have HV := Lib.hid (value_any ch);rw [hx] at HV;have HL := Lib.hid (lone_any w b dg cd' hi v _ _ _ _ _ _ _ _ _ _ _ h);rw [hlo] at HL;have e1 : ¬ (v : Int) < 0 := by omega
 have HJ := Lib.hid (hex_join hcd (hexOf_lt hx));have H := Lib.hid h;clear h hx hlo;go_enter Tryz.func188, Tryz.ntmps188;go_wp2_with fail;refine (HV.out _).mono ?_;rintro e w1 ⟨he, rfl⟩;unfold hexRet at he;simp only [] at he;subst he;go_wp2_with fail;refine (HL.out).mono ?_;rintro e w1 ⟨rfl, rfl⟩;go_wp2_with fail;go_ret;rw [HJ.out];exact ⟨rfl, set_at (set_at H.out _) _, ((Keeps.refl (fun k => k = b) w1).setCell (p := ⟨b, 11, none⟩) (.inl rfl) _).setCell (p := ⟨b, 10, none⟩) (.inl rfl) _⟩
def fourW (w : World) (b cd2 : Nat) : World := (w.setCell ⟨b, 11, none⟩ (.int .i32 cd2)).setCell ⟨b, 10, none⟩ (.int .i64 4)
theorem fourW_keeps (w : World) (b cd2 : Nat) : Keeps (fun k => k = b) w (fourW w b cd2) := ((Keeps.refl (fun k => k = b) w).setCell (p := ⟨b, 11, none⟩) (.inl rfl) _).setCell (p := ⟨b, 10, none⟩) (.inl rfl) _
theorem digit_four (w : World) (b cd' hi v : Nat) (v0 v1 v2 v3 v4 v5 v6 v7 v8 v9 vd : Value) (ch : UInt8) (Q : Ending → World → Prop) (h : w.heap[b]? = some (.cells #[v0, v1, v2, v3, v4, v5, v6, v7, v8, v9, .int .i64 3, .int .i32 cd', .int .i32 hi, vd] 228 (0, 0))) (hx : hexOf ch = some v) (hlo : loneOf hi 3 cd' v = false) (hcd : cd' < 4096)
 (hq : Calls Tryz.prog 204 #[.pointer (some ⟨b, 0, none⟩)] (fourW w b (cd' * 16 + v)) fun e w' => e = .returned (.tuple #[]) ∧ Q (.returned (.int .i64 0)) w') :
 Calls Tryz.prog 188 #[.pointer (some ⟨b, 0, none⟩), .int .u8 ((ch.toNat : Nat) : Int)] w Q := by
 obtain ⟨c0, c1, c2, c3, c4, c5, c6, c7, c8, c9, ca, cb, cc, cd, cf⟩ := cells14 h;have HV := Lib.hid (value_any ch);rw [hx] at HV;have HL := Lib.hid (lone_any w b 3 cd' hi v _ _ _ _ _ _ _ _ _ _ _ h);rw [hlo] at HL;have e1 : ¬ (v : Int) < 0 := by omega
 have HJ := Lib.hid (hex_join hcd (hexOf_lt hx));have H := Lib.hid h;have HQ := Lib.hid hq;clear h hx hlo hq;go_enter Tryz.func188, Tryz.ntmps188;go_wp2_with fail;refine (HV.out _).mono ?_;rintro e w1 ⟨he, rfl⟩;unfold hexRet at he;simp only [] at he;subst he;go_wp2_with fail;refine (HL.out).mono ?_;rintro e w1 ⟨rfl, rfl⟩;go_wp2_with fail;rw [HJ.out];refine (HQ.out).mono ?_;rintro e w2 ⟨rfl, hQ⟩;have HQ2 := Lib.hid hQ;clear hQ;go_wp2_with fail;exact HQ2.out
theorem fourW_at {w : World} {b cd' hi dg : Nat} {v0 v1 v2 v3 v4 v5 v6 v7 v8 v9 vd : Value} (cd2 : Nat) (h : w.heap[b]? = some (.cells #[v0, v1, v2, v3, v4, v5, v6, v7, v8, v9, .int .i64 dg, .int .i32 cd', .int .i32 hi, vd] 228 (0, 0))) :
 (fourW w b cd2).heap[b]? = some (.cells #[v0, v1, v2, v3, v4, v5, v6, v7, v8, v9, .int .i64 (4 : Nat), .int .i32 cd2, .int .i32 hi, vd] 228 (0, 0)) := set_at (set_at h _) _
def Digits (l : List UInt8) : Prop := ∀ x ∈ l, 48 ≤ x.toNat ∧ x.toNat ≤ 57
theorem dval_trim (l : List UInt8) : dval (Lib.trimLeftB l 48) = dval l := by
 unfold Lib.trimLeftB
 induction l with
 | nil => rfl
 | cons x l ih =>
  by_cases h : x = 48
  ·subst h;rw [List.dropWhile_cons_of_pos (by simp), ih];exact (dval_zeros 1 l).symm
  ·rw [List.dropWhile_cons_of_neg (by simpa using h)]
theorem trim_sub (l : List UInt8) : ∀ x ∈ Lib.trimLeftB l 48, x ∈ l := fun _ hx => (List.dropWhile_sublist _).subset hx
theorem trim_len (l : List UInt8) : (Lib.trimLeftB l 48).length ≤ l.length := (List.dropWhile_sublist _).length_le
theorem pow_thousand (n : Nat) : 10 ^ (3 * n) ≤ 2 ^ (10 * n) := by
 rw [Nat.pow_mul, Nat.pow_mul];exact Nat.pow_le_pow_left (by decide) n
theorem bits_of {n m k : Nat} (h : n < 2 ^ m) (hk : m ≤ k) : Lim.bitlen n ≤ k := by
 rw [Lim.bitlen_le];exact Nat.lt_of_lt_of_le h (Nat.pow_le_pow_right (by decide) hk)
theorem dval_bits {l : List UInt8} (h : l.length ≤ 2400) (hd : ∀ x ∈ l, x.toNat ≤ 57) : Lim.bitlen (dval l) ≤ 8192 := by
 obtain ⟨m, hm, hm2⟩ : ∃ m : Nat, l.length ≤ 3 * m ∧ 10 * m ≤ 8192 := ⟨800, h, by decide⟩;exact bits_of (Nat.lt_of_lt_of_le (dval_lt hd) (Nat.le_trans (Nat.pow_le_pow_right (by decide) hm) (pow_thousand m))) hm2
theorem parse_any (s : ByteArray) (w : World) (hd : Digits s.data.toList) (hne : s.size ≠ 0) (hl : s.size ≤ 2400) :
 Calls Tryz.prog 230 #[.string s] w fun e w' => RetNatE w (dval s.data.toList) .nilIface e w' := by
 have hsz : s.data.toList.length = s.size := Array.length_toList;have HD := Lib.hid hd;clear hd;go_enter Tryz.func230, Tryz.ntmps230;go_wp2_with fail
 go_loop [12] (fun i => ∃ k : Nat, k ≤ s.size ∧ i = .int .i64 k) (fun i => s.size - (intOf i).toNat)
 case atStart => exact ⟨0, by omega, rfl⟩
 case round =>
  obtain ⟨k, hk, rfl⟩ := hrel
  by_cases hk2 : k < s.size
  ·obtain ⟨h1, h2⟩ := HD.out s[k] (Array.getElem_mem_toList hk2);have h3 : ¬ ((s[k].toNat : Nat) : Int) < 48 := by omega
   have h4 : ¬ (57 : Int) < ((s[k].toNat : Nat) : Int) := by omega
   go_wp2_with fail;refine ⟨⟨k + 1, by omega, by go_num⟩, by simp [intOf]; omega⟩
  ·have hie : s.toList.isEmpty = false := by
    rw [Lib.toList_data];cases hc : s.data.toList with
    | nil => rw [hc] at hsz; exact absurd hsz.symm hne
    | cons x r => rfl
   have HSZ := Lib.hid hsz;clear hsz;go_wp2_with fail;refine (Tryz.strings_TrimLeft_one s 48 (by decide) _).mono ?_;rintro e w1 ⟨rfl, rfl⟩;have hdt : Digits (Lib.trimLeftB s.data.toList 48) := fun x hx => HD.out x (trim_sub _ x hx)
   have hlt : (Lib.trimLeftB s.data.toList 48).length ≤ 2400 := Nat.le_trans (trim_len _) (by have := HSZ.out; omega);have hvt := dval_trim s.data.toList;generalize Lib.trimLeftB s.data.toList 48 = T at *;have HVT := Lib.hid hvt;have HDT := Lib.hid hdt;clear hvt hdt hie;obtain ⟨t, ht⟩ : ∃ t : ByteArray, (⟨T.toArray⟩ : ByteArray) = t := ⟨_, rfl⟩;have htT : t.data.toList = T := by rw [← ht]
   have hts : t.size = T.length := by rw [← ht]; rfl
   rw [ht];have HTT := Lib.hid htT;clear ht htT;have hgt : ¬ (2500 : Int) < (t.size : Int) := by omega
   go_wp2_with fail;have htl : t.size ≤ 2400 := by omega
   have HTS := Lib.hid hts;clear hts hlt hgt;have hbox := heap_alloc_new w (.cells #[.slice none 0 0] 381);have HBOX := Lib.hid hbox;clear hbox
   go_loopw [0, 5] (fun d v wr => ∃ (L : List UInt8) (rb : ByteArray) (r : List Nat), d = .string rb ∧ Hid (T = L ++ rb.data.toList) ∧ rb.size ≤ 2400 ∧ Wds wr v r ∧ Lim.Small r ∧ Hid (Lim.val r = dval L) ∧ r.length ≤ L.length ∧ Hid (Below w.heap.size w wr) ∧
    Hid (wr.heap[w.heap.size]? = some (.cells #[.slice none 0 0] 381 (0, 0)))) (fun d _ _ => match d with | .string b => b.size | _ => 0)
   case atStart => exact ⟨[], t, [], rfl, Lib.hid (by rw [HTT.out]; rfl), htl, Wds.nil _, (fun x hx => by cases hx), Lib.hid rfl, Nat.le_refl _, Lib.hid ((Below.refl _ _).alloc (Nat.le_refl _) _), HBOX⟩
   case round =>
    obtain ⟨L, rb, r, rfl, hT, hrs, hw, hsm, hval, hlen, hbel, hbx⟩ := hrel
    by_cases hr0 : rb.size = 0
    ·have hr1 : ¬ (0 : Int) < (rb.size : Int) := by omega
     go_wp2_with fail
     have hTL : dval T = dval L := by
      have : rb.data.toList = [] := List.eq_nil_of_length_eq_zero (by rw [Array.length_toList]; exact hr0);rw [hT.out, this, List.append_nil]
     have hfit : Lim.bitlen (dval T) ≤ 8192 := dval_bits (by have := HTS.out; omega) (fun x hx => (HDT.out x hx).2);have HV := Lib.hid (show Lim.val r = dval s.data.toList by rw [hval.out, ← hTL, HVT.out]);rw [HVT.out] at hfit;have HF := Lib.hid hfit;clear hTL hfit;refine (made_any _ r _ hsm hw).mono ?_;rintro e w2 ⟨a2, k2, c2, rfl, hw2, hb2⟩;have hbx2 := Lib.hid (keep hbx.out hb2);have hbl2 := Lib.hid (chain hbel.out hb2);rw [HV.out] at hw2;have HW2 := Lib.hid hw2;clear hw2 hb2;go_wp2_with fail;refine (bounded_any a2 k2 c2 (dval s.data.toList) _ HW2.out (Nat.le_trans (Lim.short (k := 128) HF.out) (by decide))).mono ?_;rintro e w3 ⟨a3, k3, c3, rfl, hw3, hb3⟩;have hbx3 := Lib.hid (keep hbx2.out hb3);have hbl3 := Lib.hid (chain hbl2.out hb3);rw [capN_fit HF.out] at hw3;rw [capE_fit HF.out];have HW3 := Lib.hid hw3;clear hw3 hb3;have hc3 := cell_of_one hbx3.out;have hf3 := free_of_one hbx3.out;go_wp2_with fail;exact bodyPost_ret (v := .tuple #[.agg #[.slice a3 k3 c3], .nilIface]) (by simp [results, Tryz.results230, go_sem, hc3]) rfl ⟨a3, k3, c3, rfl, HW3.out.set hbx3.out (by decide) _ _, hbl3.out.setCell (Nat.le_refl _) _⟩
    ·have hr1 : (0 : Int) < (rb.size : Int) := by omega
     obtain ⟨k, hk⟩ : ∃ k : Nat, min 18 rb.size = k := ⟨_, rfl⟩;have hk1 : k ≤ 18 := by omega
     have hk2 : k ≤ rb.size := by omega
     have hk0 : 1 ≤ k := by omega
     have hkm : min (18 : Int) (rb.size : Int) = (k : Int) := by omega
     clear hk;go_wp2_with fail;have hr2 := Lib.hid hr0;clear hr0 hr1
     go_loop [49, 7, 8] (fun i x ten => ∃ n : Nat, n ≤ k ∧ i = .int .i64 n ∧ x = .int .u64 (dval (rb.data.toList.take n) : Nat) ∧ ten = .int .u64 (10 ^ n : Nat)) (fun i _ _ => k - (intOf i).toNat)
     case atStart => exact ⟨0, by omega, rfl, rfl, rfl⟩
     case round =>
      obtain ⟨n, hn, rfl, rfl, rfl⟩ := hrel
      by_cases hnk : n < k
      ·have hnr : n < rb.size := by omega
       have hdg := HDT.out rb[n] (by rw [hT.out]; exact List.mem_append_right _ (Array.getElem_mem_toList hnr))
       have hstep : dval (rb.data.toList.take (n + 1)) = 10 * dval (rb.data.toList.take n) + (rb[n].toNat - 48) := by
        rw [List.take_succ, List.getElem?_eq_getElem (by rw [Array.length_toList]; exact hnr)];exact dval_snoc _ _
       have hxb : dval (rb.data.toList.take n) < 10 ^ n := by
        have := dval_lt (l := rb.data.toList.take n) (fun x hx => (HDT.out x (by rw [hT.out]; exact List.mem_append_right _ (List.mem_of_mem_take hx))).2)
        rwa [List.length_take, Nat.min_eq_left (by rw [Array.length_toList]; exact Nat.le_of_lt hnr)] at this
       have hp : 10 ^ n ≤ 10 ^ 17 := Nat.pow_le_pow_right (by decide) (by omega);have hps : 10 ^ (n + 1) = 10 ^ n * 10 := Nat.pow_succ 10 n;have hps2 : (((10 ^ (n + 1) : Nat)) : Int) = ((10 ^ n : Nat) : Int) * 10 := by rw [hps]; omega
       have hst2 : ((dval (rb.data.toList.take (n + 1)) : Nat) : Int) = 10 * ((dval (rb.data.toList.take n) : Nat) : Int) + (((rb[n].toNat : Nat) : Int) - 48) := by rw [hstep]; omega
       have HS1 := Lib.hid hst2;have HS2 := Lib.hid hps2;clear hstep hst2 hps hps2;have hp17 : (10 : Nat) ^ 17 = 100000000000000000 := by decide
       rw [hp17] at hp;clear hp17;obtain ⟨x, hx⟩ : ∃ x, dval (rb.data.toList.take n) = x := ⟨_, rfl⟩;obtain ⟨ten, hten⟩ : ∃ x, 10 ^ n = x := ⟨_, rfl⟩;rw [hx, hten] at hxb;rw [hten] at hp;simp only [hx, hten] at *;clear hx hten;obtain ⟨dg, hdge⟩ : ∃ d, rb[n].toNat = d := ⟨_, rfl⟩;simp only [hdge] at hdg HS1;go_wp2_with fail;refine ⟨⟨n + 1, by omega, by go_num, congrArg (Value.int .u64) HS1.out.symm, congrArg (Value.int .u64) HS2.out.symm⟩, by simp [intOf]; omega⟩
      ·have hnk2 : n = k := by omega
       subst hnk2
       have hxb : dval (rb.data.toList.take n) < 10 ^ n := by
        have := dval_lt (l := rb.data.toList.take n) (fun x hx => (HDT.out x (by rw [hT.out]; exact List.mem_append_right _ (List.mem_of_mem_take hx))).2)
        rwa [List.length_take, Nat.min_eq_left (by rw [Array.length_toList]; exact hk2)] at this
       have hp : 10 ^ n ≤ 10 ^ 18 := Nat.pow_le_pow_right (by decide) hk1;have hp18 : (10 : Nat) ^ 18 = 1000000000000000000 := by decide
       rw [hp18] at hp
       have hsp : T = (L ++ rb.data.toList.take n) ++ (rb.extract n rb.size).data.toList := by
        have he : (rb.extract n rb.size).data.toList = rb.data.toList.drop n := by
         simp [List.take_of_length_le]
        rw [he, List.append_assoc, List.take_append_drop]; exact hT.out
       have hvn : dval (L ++ rb.data.toList.take n) = dval L * 10 ^ n + dval (rb.data.toList.take n) := by
        have := dval_append L (rb.data.toList.take n)
        rwa [List.length_take, Nat.min_eq_left (by rw [Array.length_toList]; exact hk2)] at this
       have hln : (L ++ rb.data.toList.take n).length = L.length + n := by
        rw [List.length_append, List.length_take, Nat.min_eq_left (by rw [Array.length_toList]; exact hk2)]
       have hes : (rb.extract n rb.size).size = rb.size - n := by simp
       have hLl : L.length ≤ 2400 := by
        have := congrArg List.length hT.out;rw [List.length_append] at this;have := HTS.out;omega
       have HSP := Lib.hid hsp;have HVN := Lib.hid hvn;have HLN := Lib.hid hln;have HES := Lib.hid hes;clear hp18 hsp hvn hln hes;obtain ⟨x, hx⟩ : ∃ x, dval (rb.data.toList.take n) = x := ⟨_, rfl⟩;obtain ⟨ten, hten⟩ : ∃ x, 10 ^ n = x := ⟨_, rfl⟩;rw [hx, hten] at hxb;rw [hten] at hp;simp only [hx, hten] at *;clear hx hten;go_wp2_with fail;refine (times_any _ r ten x _ hw hsm (by omega) (by omega) (by omega)).mono ?_;rintro e w2 ⟨a2, c2, r2, rfl, hw2, hsm2, hv2, hl2, hb2⟩;have hbx2 := Lib.hid (keep hbx.out hb2);have hbl2 := Lib.hid (chain hbel.out hb2);have HV2 := Lib.hid hv2;have HL2 := Lib.hid hl2;have HW2 := Lib.hid hw2;clear hv2 hl2 hb2 hw2;go_wp2_with fail;refine ⟨⟨L ++ rb.data.toList.take n, rb.extract n rb.size, r2, rfl, HSP, by rw [HES.out]; omega, HW2.out, hsm2, Lib.hid (by rw [HV2.out, hval.out, HVN.out]), by rw [HLN.out, HL2.out]; omega, hbl2, hbx2⟩, ?_⟩
       show (rb.extract n rb.size).size < rb.size
       rw [HES.out]; omega
end Go.Proofs.YtakkmiomhackiaaGreatDoor
