/-
  The program, one part of its walk: Ut1, Ut2, Lx2. Conditions: none.
-/
import Derived.Test.YtakkmiomhackiaaGreatDoorPc09
import Derived.Test.YtakkmiomhackiaaGreatDoorPc08
import Derived.Laws.EntriesVeiled
set_option linter.all false
set_option maxRecDepth 100000
set_option maxHeartbeats 16000000
namespace Go.Proofs.YtakkmiomhackiaaGreatDoor
open Go.RowKit
def formV (f : Form) : Value := .agg #[.int .i64 f.wide, .int .u8 f.low, .int .u8 f.high]
theorem formOf_any (c : UInt8) (w : World) : Calls Tryz.prog 205 #[.int .u8 ((c.toNat : Nat) : Int)] w fun e w' => e = .returned (formV (formOf c)) ∧ Below w.heap.size w w' :=
 (Dr.formOf_any c w).mono fun _ _ h => ⟨h.1, h.2.plain⟩
theorem may_any (f : Form) (i : Nat) (c : UInt8) (w : World) : Calls Tryz.prog 206 #[formV f, .int .i64 i, .int .u8 ((c.toNat : Nat) : Int)] w fun e w' => e = .returned (.bool (f.may i c)) ∧ Below w.heap.size w w' :=
 (Dr.may_any f i c w).mono fun _ _ h => ⟨h.1, h.2.plain⟩
def HeldOk (held : List UInt8) : Prop := ∀ h t, held = h :: t → held.length < (formOf h).wide
theorem wide_le (c : UInt8) : (formOf c).wide ≤ 4 := by unfold formOf; repeat' (first | exact by decide | split)
theorem HeldOk.le {held : List UInt8} (h : HeldOk held) : held.length ≤ 3 := by
 cases held with
 | nil => exact Nat.zero_le _
 | cons a t => have := h a t rfl; have := wide_le a; omega
def Feeds (w : World) (b pl : Nat) (held : List UInt8) : Prop := HeldOk held ∧ ∃ a0 a1 a2 a3 : UInt8, w.heap[b]? = some (.cells #[.int .i64 pl, .int .u8 ((a0.toNat : Nat) : Int), .int .u8 ((a1.toNat : Nat) : Int), .int .u8 ((a2.toNat : Nat) : Int), .int .u8 ((a3.toNat : Nat) : Int), .int .i64 held.length, .bool false] 305 (0, 0)) ∧
 held = [a0, a1, a2, a3].take held.length
theorem Feeds.keeps {F : Nat → Prop} {w w' : World} {b pl : Nat} {held : List UInt8} (h : Feeds w b pl held) (hk : Keeps F w w') (hb : ¬ F b) : Feeds w' b pl held := by
 obtain ⟨h1, a0, a1, a2, a3, h2, h3⟩ := h;exact ⟨h1, a0, a1, a2, a3, hk.blk h2 hb, h3⟩
theorem cells7 {w : World} {b : Nat} {v0 v1 v2 v3 v4 v5 v6 : Value} {T : TypeId} (h : w.heap[b]? = some (.cells #[v0, v1, v2, v3, v4, v5, v6] T (0, 0))) : w.cell? ⟨b, 0, none⟩ = some v0 ∧ w.cell? ⟨b, 1, none⟩ = some v1 ∧ w.cell? ⟨b, 2, none⟩ = some v2 ∧ w.cell? ⟨b, 3, none⟩ = some v3 ∧ w.cell? ⟨b, 4, none⟩ = some v4 ∧ w.cell? ⟨b, 5, none⟩ = some v5 ∧ w.cell? ⟨b, 6, none⟩ = some v6 ∧ ∀ o, w.frozen? ⟨b, o, none⟩ = false :=
 ⟨cell_at h, cell_at h, cell_at h, cell_at h, cell_at h, cell_at h, cell_at h, free_at h⟩
theorem newFeeder_any (w : World) : Calls Tryz.prog 137 #[] w fun e w' => e = .returned (.pointer (some ⟨w.heap.size, 0, none⟩)) ∧ Feeds w' w.heap.size 0 [] ∧ Below w.heap.size w w' ∧ w'.heap.size = w.heap.size + 1 :=
 (Dr.newFeeder_any w).mono fun _ _ h => ⟨h.1, h.2.1, h.2.2.1.plain, h.2.2.2⟩
theorem held_any (w : World) (b pl : Nat) (held : List UInt8) (h : Feeds w b pl held) : Calls Tryz.prog 167 #[.pointer (some ⟨b, 0, none⟩)] w fun e w' => e = .returned (.int .i64 held.length) ∧ w' = w :=
 Dr.held_any w b pl held h
def takeRet (w : World) (b pl : Nat) (held : List UInt8) (o : Option (List UInt8)) (e : Ending) (w' : World) : Prop := match o with
 | none => e = .returned (.bool false) ∧ Feeds w' b pl held
 | some h => e = .returned (.bool true) ∧ Feeds w' b pl h
theorem take_any (w : World) (b pl : Nat) (c : UInt8) (held : List UInt8) (h : Feeds w b pl held) : Calls Tryz.prog 190 #[.pointer (some ⟨b, 0, none⟩), .int .u8 ((c.toNat : Nat) : Int)] w fun e w' => takeRet w b pl held (feedOne held c) e w' ∧ Keeps (fun k => k = b) w w' :=
 (Dr.take_any w b pl c held h).mono fun _ _ h => ⟨by have := h.1; unfold Dr.takeRet at this; unfold takeRet; split at this <;> simp_all [Feeds, Dr.Feeds, HeldOk, Dr.HeldOk], h.2.plain⟩
theorem elemTok : Elem 226 232 16 := ⟨Tryz.underlying226, by
 have h : (Tryz.prog.info? 232).map (fun i => (i.zero, i.size, i.bytes)) = some (some .nilIface, 1, 16) := by kernel_rfl
 obtain ⟨i, h1, h2, h3, h4⟩ := info_parts h;exact ⟨i, _, h1, h2, h3, h4, rfl⟩⟩
theorem cells14 {w : World} {b : Nat} {v0 v1 v2 v3 v4 v5 v6 v7 v8 v9 va vb vc vd : Value} {T : TypeId} (h : w.heap[b]? = some (.cells #[v0, v1, v2, v3, v4, v5, v6, v7, v8, v9, va, vb, vc, vd] T (0, 0))) :
 w.cell? ⟨b, 0, none⟩ = some v0 ∧ w.cell? ⟨b, 1, none⟩ = some v1 ∧ w.cell? ⟨b, 2, none⟩ = some v2 ∧ w.cell? ⟨b, 3, none⟩ = some v3 ∧ w.cell? ⟨b, 4, none⟩ = some v4 ∧ w.cell? ⟨b, 5, none⟩ = some v5 ∧ w.cell? ⟨b, 6, none⟩ = some v6 ∧ w.cell? ⟨b, 7, none⟩ = some v7 ∧
 w.cell? ⟨b, 8, none⟩ = some v8 ∧ w.cell? ⟨b, 9, none⟩ = some v9 ∧ w.cell? ⟨b, 10, none⟩ = some va ∧ w.cell? ⟨b, 11, none⟩ = some vb ∧ w.cell? ⟨b, 12, none⟩ = some vc ∧ w.cell? ⟨b, 13, none⟩ = some vd ∧ ∀ o, w.frozen? ⟨b, o, none⟩ = false :=
 ⟨cell_at h, cell_at h, cell_at h, cell_at h, cell_at h, cell_at h, cell_at h, cell_at h, cell_at h, cell_at h, cell_at h, cell_at h, cell_at h, cell_at h, free_at h⟩
theorem newLexer_any (w : World) : Calls Tryz.prog 72 #[] w fun e w' => e = .returned (.pointer (some ⟨w.heap.size, 0, none⟩)) ∧
 w' = w.alloc (.cells #[.int .i64 0, .nilIface, .bool false, .func (.func 104) #[] #[], .bool false, .int .i64 0, .slice none 0 0, .int .i64 0, .pointer none, .slice none 0 0, .int .i64 0, .int .i32 0, .int .i32 0, .slice none 0 0] 228) := by
 go_enter Tryz.func72, Tryz.ntmps72;go_wp2;go_ret;exact ⟨rfl, rfl⟩
theorem span_any (w : World) (b : Nat) (c : Array Value) (st to : Nat) (h : w.heap[b]? = some (.cells c 228 (0, 0))) (h5 : c[5]? = some (.int .i64 st)) (hle : st ≤ to) (hto : to ≤ 1073741824) :
 Calls Tryz.prog 136 #[.pointer (some ⟨b, 0, none⟩), .int .i64 to] w fun e w' => e = .returned (.agg #[.int .i64 st, .int .i64 ((to - st : Nat) : Int)]) ∧ Below w.heap.size w w' := by
 have hlt := lt_of_block h;have hb0 : Below w.heap.size w (w.alloc (.cells #[.int .i64 0, .int .i64 0] 236)) := (Below.refl _ _).alloc (Nat.le_refl _) _;have h2 := keep h hb0;have c5 : (w.alloc (.cells #[.int .i64 0, .int .i64 0] 236)).cell? ⟨b, 5, none⟩ = some (.int .i64 st) := by rw [cell_at h2]; exact h5
 have hr : IntKind.i64.wrap ((to : Int) - (st : Int)) = ((to - st : Nat) : Int) := by rw [IntKind.wrap_i64]; omega
 clear h h2 h5 hle;go_enter Tryz.func136, Tryz.ntmps136;go_wp2_with fail;go_region;go_wp2_with fail;exact bodyPost_ret (v := .agg #[.int .i64 st, .int .i64 ((to - st : Nat) : Int)]) (by simp [results, Tryz.results136, go_sem]) rfl ⟨rfl, ((Below.refl _ _).alloc (Nat.le_refl _) _).drew⟩
theorem Win.ne {α : Type} {e : Nat} {enc : α → Value} {w : World} {v : Value} {l : List α} (h : Win e enc w v l) {b : Nat} {c : Array Value} {T : TypeId} (hb : w.heap[b]? = some (.cells c T (0, 0))) (hT : T ≠ e) : v.ownBlock ≠ some b := by
 rcases h with ⟨rfl, _⟩ | ⟨g, off, cap, cur, rfl, hg, _⟩
 ·simp [Value.ownBlock]
 ·intro hc;simp only [Value.ownBlock, Option.some.injEq] at hc;subst hc;rw [hb] at hg;simp only [Option.some.injEq, Obj.cells.injEq] at hg;exact hT hg.2.1
theorem tell_any (w : World) (b : Nat) (v0 v1 v2 v3 v4 v5 v6 v7 v8 v9 va vb vc tokV : Value) (T : TypeId) (tv : Value) (toks : List Value) (h : w.heap[b]? = some (.cells #[v0, v1, v2, v3, v4, v5, v6, v7, v8, v9, va, vb, vc, tokV] 228 (0, 0)))
 (hw : Win 232 id w tokV toks) (hl : toks.length ≤ 1000) :
 Calls Tryz.prog 135 #[.pointer (some ⟨b, 0, none⟩), .iface T tv] w fun e w' => e = .returned (.tuple #[]) ∧ ∃ g off cap, w'.heap[b]? = some (.cells #[v0, v1, v2, .func (.func 104) #[] #[], .bool false, v5, v6, v7, v8, v9, va, vb, vc, .slice (some ⟨g, off, none⟩) (toks.length + 1) cap] 228 (0, 0)) ∧
  Win 232 id w' (.slice (some ⟨g, off, none⟩) (toks.length + 1) cap) (toks ++ [.iface T tv]) ∧ (tokV.ownBlock = some g ∨ w.heap.size ≤ g) ∧ Keeps (fun k => k = b ∨ tokV.ownBlock = some k) w w' := by
 obtain ⟨c0, c1, c2, c3, c4, c5, c6, c7, c8, c9, ca, cb, cc, cd, cf⟩ := cells14 h;have H := Lib.hid h;have hlt := lt_of_block h;have HNE := Lib.hid (hw.ne h (by decide));obtain ⟨ta, tc, htv⟩ := hw.shape;have hw2 : Win 232 id (w.alloc (.cells #[.iface T tv] 232)) tokV toks := hw.keeps (F := fun _ => False) ((Keeps.refl _ w).alloc _) (fun _ _ => id);have HW := Lib.hid hw2;clear h hw hw2;subst htv;go_enter Tryz.func135, Tryz.ntmps135
 go_wp2_with (at_builtin; refine append_win elemTok rfl _ _ rfl rfl HW.out ⟨w.heap.size, 0, none⟩ 1 (.iface T tv) rfl ?_ rfl ?_ ?_ ?_)
 ·simp
 ·omega
 ·unfold maxLen; omega
 intro g off cap w' hwin hgb hgr;have hb' := (hgr.block b (by simp; omega) (fun e => HNE.out e.symm)).trans ((Below.heap_alloc w _ _ hlt).trans H.out)
 have hgne : g ≠ b := by
  have := hwin.ne hb' (by decide);intro e;subst e;exact this rfl
 have HK := Lib.hid (((Keeps.refl (fun k => k = b ∨ (Value.slice ta toks.length tc).ownBlock = some k) w).alloc (.cells #[.iface T tv] 232)).grown hgr (fun k e => .inl (.inr e)));have HWIN := Lib.hid hwin;have HGB := Lib.hid (show (Value.slice ta toks.length tc).ownBlock = some g ∨ w.heap.size ≤ g from hgb.elim .inl (fun h => .inr (by have := h.1; first | omega | (simp at this; omega))));obtain ⟨d0, d1, d2, d3, d4, d5, d6, d7, d8, d9, da, db, dc, dd, df⟩ := cells14 hb';have HB := Lib.hid hb';have HGN := Lib.hid hgne;clear hb' hwin hgb hgr hgne c0 c1 c2 c3 c4 c5 c6 c7 c8 c9 ca cb cc cd cf;go_wp2_with fail
 go_end0
 refine ⟨rfl, g, off, cap, set_at (set_at (set_at HB.out _) _) _, ?_, HGB.out, ((HK.out.setCell (p := ⟨b, 13, none⟩) (.inl (.inl rfl)) _).setCell (p := ⟨b, 4, none⟩) (.inl (.inl rfl)) _).setCell (p := ⟨b, 3, none⟩) (.inl (.inl rfl)) _⟩
 exact HWIN.out.keeps ((((Keeps.refl (fun k => k = b) w').setCell (p := ⟨b, 13, none⟩) (.inl rfl) _).setCell (p := ⟨b, 4, none⟩) (.inl rfl) _).setCell (p := ⟨b, 3, none⟩) (.inl rfl) _) (fun k e hk => by
  simp only [Value.ownBlock, Option.some.injEq] at e;exact HGN.out (e.trans hk))
theorem held2_any (w : World) (b pl st : Nat) (isIn : Bool) (c : Array Value) (h : w.heap[b]? = some (.cells c 228 (0, 0))) (h0 : c[0]? = some (.int .i64 pl)) (h4 : c[4]? = some (.bool isIn)) (h5 : c[5]? = some (.int .i64 st)) (hle : st ≤ pl) (hpl : pl ≤ 1073741824) :
 Calls Tryz.prog 116 #[.pointer (some ⟨b, 0, none⟩)] w fun e w' => e = .returned (.int .i64 ((if isIn then pl - st else 0 : Nat) : Int)) ∧ Below w.heap.size w w' := by
 have c0 : w.cell? ⟨b, 0, none⟩ = some (.int .i64 pl) := by rw [cell_at h]; exact h0
 have c4 : w.cell? ⟨b, 4, none⟩ = some (.bool isIn) := by rw [cell_at h]; exact h4
 have c5 : w.cell? ⟨b, 5, none⟩ = some (.int .i64 st) := by rw [cell_at h]; exact h5
 have hr : IntKind.i64.wrap ((pl : Int) - (st : Int)) = ((pl - st : Nat) : Int) := by rw [IntKind.wrap_i64]; omega
 clear h h0 h4 h5 hle;cases isIn with
 | false =>
  go_enter Tryz.func116, Tryz.ntmps116;go_wp2_with fail;go_ret;exact ⟨rfl, Below.refl _ _⟩
 | true =>
  go_enter Tryz.func116, Tryz.ntmps116;go_wp2_with fail;go_region;go_wp2_with fail;go_ret;exact ⟨rfl, (Below.refl _ _).drew⟩
end Go.Proofs.YtakkmiomhackiaaGreatDoor
