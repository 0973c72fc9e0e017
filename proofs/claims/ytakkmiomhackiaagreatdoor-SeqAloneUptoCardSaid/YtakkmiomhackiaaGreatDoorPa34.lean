/-
  The program, one part of its walk: Pb7, Pb8, Sq1, Sq2, Sq3. Conditions: none.
-/
import Derived.Test.YtakkmiomhackiaaGreatDoorPa33
import Derived.Test.YtakkmiomhackiaaGreatDoorPa10
import Derived.Deep.RegionLaw
import Derived.Deep.AppendLies
import Derived.Test.YtakkmiomhackiaaGreatDoorPa00
set_option linter.all false
set_option maxRecDepth 100000
set_option maxHeartbeats 16000000
open Go.Proofs.Tryz
namespace Go.Proofs.YtakkmiomhackiaaGreatDoor
open Go.RowKit
def treePost (F : Nat → Prop) (w : World) (o : Except (Nat × Nat) Tr) (e : Ending) (w' : World) : Prop :=
 Keeps F w w' ∧ match o with
 | .error (no, at_) => e = .returned (.tuple #[.pointer none, spotV no at_])
 | .ok t => ∃ T v, e = .returned (.tuple #[.pointer (some ⟨T, 0, none⟩), .nilIface]) ∧ w'.heap[T]? = some (.cells #[v] 176 (0, 0)) ∧ TreeAt (Since F w w') w' v t ∧ w.heap.size ≤ T
def oneOf (o : Out) : Except (Nat × Nat) Tr := match o with
 | .error e => .error e
 | .ok y => .ok (y.items.headD .null)
theorem parFinish_any (F : Nat → Prop) (w : World) (p : Nat) (x : Ps) (h : ParAt F w p x (.at_ x.lex false) []) (hok : ParOk x) :
 Calls prog 16 #[.pointer (some ⟨p, 0, none⟩)] w fun e w' => treePost F w (oneOf (x.finish po)) e w' := by
 have hone : ∀ y, x.finish po = .ok y → ∃ t, y.items = [t] := fun y hy => finish_one hok hy
 have hmf : ∀ (fn : Fn) (first cap : Array Value) (w : World), (Instr.makeFunc fn first cap).run prog w = .ok (.func fn first cap) w := fun _ _ _ _ => rfl
 have hlt := h.lt;have hself := h.self;have hpl := hlt p hself;obtain ⟨c8, c9, cf, c5, c1⟩ := h.cells;have hkX : Keeps (fun _ => False) w (w.alloc (.cells #[.nilIface] 26)) := (Keeps.refl _ w).alloc _;have hR0 := heap_alloc_new w (.cells #[.nilIface] 26);have hRn : ¬ F w.heap.size := fun hf => absurd (hlt _ hf) (Nat.lt_irrefl _)
 have hfin := par_finish F _ p x (h.apart hkX (fun _ _ => id)) hok;have hcau := caught_finish w p _ hfin (fun e w' hq => hq.1.blk hR0 hRn);have hwk : Keeps F w (w.alloc (.cells #[.nilIface] 26)) := hkX.mono fun _ h => h.elim
 have hp8 : p ≠ w.heap.size := by omega
 obtain ⟨out, hout⟩ : ∃ out, x.finish po = out := ⟨_, rfl⟩;rw [hout] at hcau hone ⊢;have HLT := hZ hlt;have HSF := hZ hself;cases out with
 | error er =>
  obtain ⟨no, at_⟩ := er
  have HC := hZ (hcau.mono (R' := fun e w2 => e = .returned (spotV no at_) ∧ Keeps F w w2 ∧ (∃ u, w2.cell? ⟨p, 8, none⟩ = some u) ∧ (∀ o, w2.frozen? ⟨p, o, none⟩ = false)) fun e w2 hq => by
   obtain ⟨w1, hq⟩ := hq
   have hq1 : finPost F (w.alloc (.cells #[.nilIface] 26)) p (.error (no, at_)) (failE no at_) w1 ∧ e = .returned (spotV no at_) ∧ w2 = w1.setCell ⟨w.heap.size, 0, none⟩ (spotV no at_) := by
    rcases hq with ⟨h1, _, _⟩ | ⟨no', at', h1, h2, h3⟩
    ·have := h1.2.1;unfold failE at this;cases this
    ·have h4 := h1.2.1;unfold failE spotV at h4;injection h4 with h4
     simp at h4;obtain ⟨e1, e2⟩ := h4;obtain rfl : no' = no := by omega
     obtain rfl : at' = at_ := by omega
     exact ⟨h1, h2, h3⟩
   obtain ⟨⟨hk, _, v0, v1, v2, v3, v4, v5, v6, v7, v8, v9, hb⟩, rfl, rfl⟩ := hq1;have hb' := (set_else (w := w1) (b := w.heap.size) (o := 0) (k := p) (spotV no at_) hp8).trans hb;obtain ⟨d0, d1, d2, d3, d4, d5, d6, d7, d8, d9, df⟩ := cells10 hb';exact ⟨rfl, (hwk.same hk).setCell (p := ⟨w.heap.size, 0, none⟩) (.inr (Nat.le_refl _)) _, ⟨_, d8⟩, df⟩)
  clear hkX hR0 hRn hfin hcau hwk hout h hok hlt hself hone c5 c1;go_enter func16, ntmps16;go_wp2_with fail;refine (HC.out).mono ?_;rintro e w2 ⟨he, hk2, ⟨u, hu⟩, hf2⟩;unfold spotV at he;subst he;have hcx : (w2.setCell ⟨p, 8, none⟩ (.iface 151 (.agg #[.int .i64 no, .int .i64 at_]))).cell? ⟨p, 8, none⟩ = some (.iface 151 (.agg #[.int .i64 no, .int .i64 at_])) := World.cell?_setCell_same' _ _ _ (by rw [hu]; rfl);have HK2 := hZ hk2;clear hk2;go_wp2_with fail;go_region;go_wp2_with fail;exact bodyPost_ret (v := .tuple #[.pointer none, .iface 151 (.agg #[.int .i64 no, .int .i64 at_])]) (by simp [results, results16, go_sem]) rfl ⟨(HK2.out.setCell (p := ⟨p, 8, none⟩) (.inl HSF.out) _).drew, rfl⟩
 | ok y =>
  obtain ⟨t, ht⟩ := hone y rfl
  have hoo : oneOf (.ok y) = .ok t := by
   show Except.ok (y.items.headD .null) = _
   rw [ht]; rfl
  rw [hoo]
  have HC := hZ (hcau.mono (R' := fun e w2 => e = .returned .nilIface ∧ Keeps F w w2 ∧ ∃ s, ParAt (Since F w w2) w2 p y s []) fun e w2 hq => by
   obtain ⟨w1, hq⟩ := hq
   have hq1 : finPost F (w.alloc (.cells #[.nilIface] 26)) p (.ok y) (.returned (.tuple #[])) w1 ∧ e = .returned .nilIface ∧ w2 = w1.setCell ⟨w.heap.size, 0, none⟩ .nilIface := by
    rcases hq with h | ⟨no', at', h1, h2, h3⟩
    ·exact h
    ·have h4 := h1.2.1;unfold failE at h4;cases h4
   obtain ⟨⟨hk, _, s, hpar⟩, rfl, rfl⟩ := hq1;have hks : Keeps (fun k => k = w.heap.size) w1 (w1.setCell ⟨w.heap.size, 0, none⟩ .nilIface) := (Keeps.refl (fun k => k = w.heap.size) w1).setCell (p := ⟨w.heap.size, 0, none⟩) (.inl rfl) _;have hpar2 := hpar.apart hks (fun k h e => h.elim (fun h => hRn (e ▸ h)) (fun h => by have := h.1; simp at this; omega));have hkk : Keeps F w (w1.setCell ⟨w.heap.size, 0, none⟩ .nilIface) := (hwk.same hk).setCell (p := ⟨w.heap.size, 0, none⟩) (.inr (Nat.le_refl _)) _;exact ⟨rfl, hkk, s, hpar2.mono (fun k h => h.elim .inl (fun h => .inr ⟨Nat.le_trans hwk.size h.1, Nat.lt_of_lt_of_le h.2 hks.size⟩)) (since_lt hlt hkk.size)⟩)
  have HTT := hZ ht;clear hkX hR0 hRn hfin hcau hwk hout h hok hlt hself hone c5 c1 hoo ht;go_enter func16, ntmps16;go_wp2_with fail;refine (HC.out).mono ?_;rintro e w2 ⟨rfl, hk2, s, hp2⟩;have hkx : Keeps (fun k => k = p) w2 ((w2.setCell ⟨p, 8, none⟩ .nilIface).setCell ⟨p, 9, none⟩ (.bool true)) := ((Keeps.refl (fun k => k = p) w2).setCell (p := ⟨p, 8, none⟩) (.inl rfl) _).setCell (p := ⟨p, 9, none⟩) (.inl rfl) _;obtain ⟨hlt2, FL, FM, FP, lb, mb, pileV, vals, hp, hb, hL, hM, hP⟩ := hp2;have hb8 := set_at (o := 8) hb .nilIface;have hb9 := set_at (o := 9) hb8 (.bool true);have hM9 := hM.apart hkx (fun k h e => hp.self.2.2.1 (e ▸ h));rw [HTT.out] at hM9;have HTR := hZ (tree_any FM _ mb t hM9);obtain ⟨d0, d1, d2, d3, d4, d5, d6, d7, d8, d9, df⟩ := cells10 hb;have h88 : (w2.setCell ⟨p, 8, none⟩ .nilIface).cell? ⟨p, 8, none⟩ = some .nilIface := by rw [cell_at hb8]; rfl
  have h93 : ((w2.setCell ⟨p, 8, none⟩ .nilIface).setCell ⟨p, 9, none⟩ (.bool true)).cell? ⟨p, 3, none⟩ = some (.pointer (some ⟨mb, 0, none⟩)) := by rw [cell_at hb9]; rfl
  have HK2 := hZ hk2;have HKX := hZ hkx;have HFM := hZ hp.maker;clear hk2 hkx hlt2 hp hb hL hM hP hb8 hb9 hM9;go_wp2_with fail;refine (HTR.out).mono ?_;rintro e w3 ⟨rfl, v, rfl, htr⟩;have HTV := hZ htr;clear htr;go_wp2_with fail;have hk3 : Keeps F w (((w2.setCell ⟨p, 8, none⟩ .nilIface).setCell ⟨p, 9, none⟩ (.bool true)).alloc (.cells #[v] 176)) := (HK2.out.same (HKX.out.mono fun k e => e ▸ HSF.out)).alloc _;refine bodyPost_ret (v := .tuple #[.pointer (some ⟨((w2.setCell ⟨p, 8, none⟩ .nilIface).setCell ⟨p, 9, none⟩ (.bool true)).heap.size, 0, none⟩), .nilIface]) (by simp [results, results16, go_sem]) rfl ⟨hk3, _, v, rfl, heap_alloc_new _ _, ?_, ?_⟩
  ·exact (HTV.out.keeps (G := fun _ => False) ((Keeps.refl _ _).alloc _) (fun _ _ => id)).mono (fun k h => (HFM.out k h).mono_r (by simp [World.setCell]))
  ·simp [World.setCell]; exact HK2.out.size
theorem parNew_any (w : World) (d : Nat) (h1 : 1 ≤ d) (h2 : d ≤ 512) : Calls prog 47 #[.int .i64 d] w fun e w' => ∃ p, e = .returned (.tuple #[.pointer (some ⟨p, 0, none⟩), .nilIface]) ∧ Keeps (fun _ => False) w w' ∧ ParAt (Since (fun _ => False) w w') w' p (Ps.new d) (.at_ Lx.new false) [] := by
 have e1 : ¬ (d : Int) < 1 := by omega
 have e2 : (d : Int) ≤ 512 := by omega
 have e3 : ¬ (512 : Int) < (d : Int) := by omega
 have HL := hZ (newLexer_any w);obtain ⟨W1, hW1⟩ : ∃ W1, w.alloc (.cells #[.int .i64 0, .nilIface, .bool false, .func (.func 104) #[] #[], .bool false, .int .i64 0, .slice none 0 0, .int .i64 0, .pointer none, .slice none 0 0, .int .i64 0, .int .i32 0, .int .i32 0, .slice none 0 0] 228) = W1 := ⟨_, rfl⟩;rw [hW1] at HL;have HW1 := hZ hW1;clear hW1;go_enter func47, ntmps47;go_wp2_with fail;refine (HL.out).mono ?_;rintro e w1 ⟨rfl, rfl⟩;go_wp2_with fail;refine (newMaker_any _).mono ?_;rintro e w2 ⟨rfl, rfl⟩;have HW2 := hZ HW1.out;go_wp2_with fail;have hs1 : w1.heap.size = w.heap.size + 1 := by rw [← HW1.out]; simp
 have hk : Keeps (fun _ => False) w ((w1.alloc (.cells #[.slice none 0 0] 195)).alloc (.cells (parCells (Ps.new d) w.heap.size w1.heap.size (.slice none 0 0)) 136)) := by
  rw [← HW1.out]; exact (((Keeps.refl _ w).alloc _).alloc _).alloc _
 have hbL : ((w1.alloc (.cells #[.slice none 0 0] 195)).alloc (.cells (parCells (Ps.new d) w.heap.size w1.heap.size (.slice none 0 0)) 136)).heap[w.heap.size]? = some (.cells #[.int .i64 0, .nilIface, .bool false, .func (.func 104) #[] #[], .bool false, .int .i64 0, .slice none 0 0, .int .i64 0, .pointer none, .slice none 0 0, .int .i64 0, .int .i32 0, .int .i32 0, .slice none 0 0] 228 (0, 0)) := by
  refine (Below.heap_alloc _ _ _ (by simp; omega)).trans ((Below.heap_alloc _ _ _ (by omega)).trans ?_);rw [← HW1.out]; exact heap_alloc_new w _
 have hbM : ((w1.alloc (.cells #[.slice none 0 0] 195)).alloc (.cells (parCells (Ps.new d) w.heap.size w1.heap.size (.slice none 0 0)) 136)).heap[w1.heap.size]? = some (.cells #[.slice none 0 0] 195 (0, 0)) :=
  (Below.heap_alloc _ _ _ (by simp)).trans (heap_alloc_new w1 _)
 have hbP : ((w1.alloc (.cells #[.slice none 0 0] 195)).alloc (.cells (parCells (Ps.new d) w.heap.size w1.heap.size (.slice none 0 0)) 136)).heap[w1.heap.size + 1]? = some (.cells (parCells (Ps.new d) w.heap.size w1.heap.size (.slice none 0 0)) 136 (0, 0)) := by
  have := heap_alloc_new (w1.alloc (.cells #[.slice none 0 0] 195)) (.cells (parCells (Ps.new d) w.heap.size w1.heap.size (.slice none 0 0)) 136)
  rwa [World.size_alloc] at this
 refine bodyPost_ret (v := .tuple #[.pointer (some ⟨w1.heap.size + 1, 0, none⟩), .nilIface]) (by simp [results, results47, go_sem]) rfl ⟨w1.heap.size + 1, rfl, hk, ?_⟩;have hsz : ((w1.alloc (.cells #[.slice none 0 0] 195)).alloc (.cells (parCells (Ps.new d) w.heap.size w1.heap.size (.slice none 0 0)) 136)).heap.size = w.heap.size + 3 := by simp [hs1]
 refine ⟨since_lt (fun _ h => h.elim) hk.size, fun k => k = w.heap.size, fun k => k = w1.heap.size, fun _ => False, w.heap.size, w1.heap.size, .slice none 0 0, [], ⟨?_, ?_, fun _ h => h.elim, ⟨?_, ?_, ?_, id⟩, ?_, fun _ _ h => h, fun _ _ h => h⟩, hbP, ?_, ?_, ?_⟩
 ·rintro k rfl; exact .inr ⟨Nat.le_refl _, Nat.lt_of_lt_of_eq (by omega) hsz.symm⟩
 ·rintro k rfl; exact .inr ⟨by omega, Nat.lt_of_lt_of_eq (by omega) hsz.symm⟩
 ·exact .inr ⟨by omega, Nat.lt_of_lt_of_eq (by omega) hsz.symm⟩
 ·omega
 ·omega
 ·rintro k rfl h; omega
 ·exact ⟨rfl, (by rintro k rfl; exact Nat.lt_of_lt_of_eq (by omega) hsz.symm), _, _, _, _, hbL, .nil _ _ _ _, ⟨fun h => (by rcases h with h | h <;> cases h), fun h => (by cases h)⟩⟩
 ·exact ⟨rfl, (by rintro k rfl; exact Nat.lt_of_lt_of_eq (by omega) hsz.symm), _, [], hbM, .nil _ _ _ _, ⟨rfl, fun i v t hv => by simp at hv⟩⟩
 ·exact PileAt.nil _
def afterFeed (o : Out) : Out := match o with
 | .error e => .error e
 | .ok p => p.finish po
theorem read_after (l : List UInt8) (d : Nat) : Ps.read po l d = afterFeed ((Ps.new d).feed po l) := rfl
def readTree (l : List UInt8) (d : Nat) : Except (Nat × Nat) Tr := oneOf (Ps.read po l d)
theorem parRead_any (w : World) (l : List UInt8) (d : Nat) (v : Value) (h1 : 1 ≤ d) (h2 : d ≤ 512) (hv : BytesIn (fun k => w.heap.size ≤ k) w v l) (hl : l.length ≤ 134217728) :
 Calls prog 12 #[v, .int .i64 d] w fun e w' => treePost (fun _ => False) w (readTree l d) e w' := by
 have HN := hZ (parNew_any w d h1 h2)
 have HF := hZ (fun (w1 : World) (p : Nat) (hk : Keeps (fun _ => False) w w1) (hp : ParAt (Since (fun _ => False) w w1) w1 p (Ps.new d) (.at_ Lx.new false) []) =>
  parFeed_any (Since (fun _ => False) w w1) w1 p (Ps.new d) l v hp (parOk_new d h2) (by
   obtain ⟨a, cap, e1, e2, e3, e4⟩ := hv;exact ⟨a, cap, e1, e2, e3, e4.imp id (fun ⟨g, off, f1, f2, f3⟩ => ⟨g, off, f1, fun h => h.elim id (fun h => f2 h.1), fun i x hi => hk.cell (f3 i x hi) id⟩)⟩) hl)
 obtain ⟨o, ho⟩ : ∃ o, (Ps.new d).feed po l = o := ⟨_, rfl⟩;rw [ho] at HF;have hrd : Ps.read po l d = afterFeed o := by rw [read_after, ho]
 obtain ⟨a, cap, hve, _⟩ := hv;subst hve;unfold readTree;cases o with
 | error er =>
  obtain ⟨no, at_⟩ := er;rw [hrd]
  show Calls prog 12 _ w fun e w' => treePost (fun _ => False) w (.error (no, at_)) e w'
  clear hrd ho hl h1 h2;go_enter func12, ntmps12;go_wp2_with fail;refine (HN.out).mono ?_;rintro e w1 ⟨p, rfl, hk, hp⟩;have HFF := hZ (HF.out w1 p hk hp);have HK := hZ hk;clear hk hp;go_wp2_with fail;refine (HFF.out).mono ?_;rintro e w2 ⟨hk2, he⟩;have HK2 := hZ hk2;clear hk2;unfold spotV at he;have he : e = .returned (.iface 151 (.agg #[.int .i64 no, .int .i64 at_])) := he;subst he;go_wp2_with fail;exact bodyPost_ret (v := .tuple #[.pointer none, .iface 151 (.agg #[.int .i64 no, .int .i64 at_])]) (by simp [results, results12, go_sem]) rfl ⟨HK.out.andThen HK2.out, rfl⟩
 | ok y =>
  have hyo := (parOk_new d h2).feed ho;have hrd : Ps.read po l d = y.finish po := hrd;rw [hrd];have HFI := hZ (fun (G : Nat → Prop) (w2 : World) (p : Nat) (hp : ParAt G w2 p y (.at_ y.lex false) []) => parFinish_any G w2 p y hp hyo);obtain ⟨tr, htr⟩ : ∃ tr, oneOf (y.finish po) = tr := ⟨_, rfl⟩;rw [htr] at HFI ⊢;clear hrd ho hl h1 h2 hyo htr;go_enter func12, ntmps12;go_wp2_with fail;refine (HN.out).mono ?_;rintro e w1 ⟨p, rfl, hk, hp⟩;have HFF := hZ (HF.out w1 p hk hp);have HK := hZ hk;clear hk hp;go_wp2_with fail;refine (HFF.out).mono ?_;rintro e w2 ⟨hk2, rfl, hp2⟩;have HFF2 := hZ (HFI.out _ w2 p hp2);have HK2 := hZ hk2;clear hk2 hp2;go_wp2_with fail;refine (HFF2.out).mono ?_;have hks := HK.out.andThen HK2.out;rintro e w3 ⟨hk3, hpost⟩;have hsub : ∀ k, Since (Since (fun _ => False) w w1) w1 w2 k → Since (fun _ => False) w w2 k := fun k h => h.trans HK.out.size HK2.out.size
  have hk4 : Keeps (fun _ => False) w w3 := hks.andThen (hk3.mono hsub);have HK4 := hZ hk4;have HSZ := hZ (And.intro hks.size hk3.size);have HSUB := hZ hsub;clear hk3 hk4 hks hsub;cases tr with
  | error er =>
   obtain ⟨no, at_⟩ := er;have he : e = .returned (.tuple #[.pointer none, .iface 151 (.agg #[.int .i64 no, .int .i64 at_])]) := hpost;clear hpost;subst he;go_wp2_with fail;exact bodyPost_ret (v := .tuple #[.pointer none, .iface 151 (.agg #[.int .i64 no, .int .i64 at_])]) (by simp [results, results12, go_sem]) rfl ⟨HK4.out, rfl⟩
  | ok t =>
   obtain ⟨T, v, he, hb, htr, hT⟩ := hpost;have HB := hZ hb;have HTR := hZ htr;have HT := hZ hT;clear hb htr hT;subst he;go_wp2_with fail;refine bodyPost_ret (v := .tuple #[.pointer (some ⟨T, 0, none⟩), .nilIface]) (by simp [results, results12, go_sem]) rfl ⟨HK4.out, T, v, rfl, HB.out, HTR.out.mono (fun k h => Since.trans (w1 := w2) (h.elim (fun h => .inl (HSUB.out k h)) .inr) HSZ.out.1 HSZ.out.2), Nat.le_trans HSZ.out.1 HT.out⟩
theorem elemByteN : ElemN 22 5 1 1 := ⟨underlying22, by decide, by
 have h : (prog.info? 5).map (fun i => (i.zero, i.size, i.bytes)) = some (some (.int .u8 0), 1, 1) := by kernel_rfl
 obtain ⟨i, h1, h2, h3, h4⟩ := info_parts h;exact ⟨i, _, h1, h2, h3, h4, rfl⟩⟩
theorem seqNew_any (w : World) (d : Nat) (h1 : 1 ≤ d) (h2 : d ≤ 512) : Calls prog 26 #[.int .i64 d] w fun e w' => e = .returned (.tuple #[.pointer (some ⟨w.heap.size, 0, none⟩), .nilIface]) ∧ w' = w.alloc (.cells #[.int .i64 d, .int .i64 0, .bool false, .bool false, .slice none 0 0, .int .i64 0, .int .i64 0, .slice none 0 0] 159) := by
 have e1 : ¬ (d : Int) < 1 := by omega
 have e2 : (d : Int) ≤ 512 := by omega
 go_enter func26, ntmps26;go_wp2;exact bodyPost_ret (v := .tuple #[.pointer (some ⟨w.heap.size, 0, none⟩), .nilIface]) (by simp [results, results26, go_sem]) rfl ⟨rfl, rfl⟩
theorem cells8 {w : World} {b : Nat} {v0 v1 v2 v3 v4 v5 v6 v7 : Value} {T : TypeId} (h : w.heap[b]? = some (.cells #[v0, v1, v2, v3, v4, v5, v6, v7] T (0, 0))) :
 w.cell? ⟨b, 0, none⟩ = some v0 ∧ w.cell? ⟨b, 1, none⟩ = some v1 ∧ w.cell? ⟨b, 2, none⟩ = some v2 ∧ w.cell? ⟨b, 3, none⟩ = some v3 ∧ w.cell? ⟨b, 4, none⟩ = some v4 ∧ w.cell? ⟨b, 5, none⟩ = some v5 ∧ w.cell? ⟨b, 6, none⟩ = some v6 ∧ w.cell? ⟨b, 7, none⟩ = some v7 ∧ ∀ o, w.frozen? ⟨b, o, none⟩ = false :=
 ⟨cell_at h, cell_at h, cell_at h, cell_at h, cell_at h, cell_at h, cell_at h, cell_at h, free_at h⟩
def PartRet (w : World) (r : Nat) (openV : Value) (l b : List UInt8) (c : Value → Array Value) (e : Ending) (w' : World) : Prop :=
 e = .returned (.tuple #[]) ∧ ∃ openV', w'.heap[r]? = some (.cells (c openV') 159 (0, 0)) ∧ WinN 1 5 w' openV' (l ++ b.take (16777217 - l.length)).length ((l ++ b.take (16777217 - l.length)).map encB) ∧ (∀ k, openV'.ownBlock = some k → openV.ownBlock = some k ∨ (w.heap.size ≤ k ∧ k < w'.heap.size)) ∧ Keeps (fun k => k = r ∨ openV.ownBlock = some k) w w'
theorem part_any (w : World) (r place size : Nat) (v0 v2 v3 v5 v7 openV bV : Value) (l b : List UInt8) (h : w.heap[r]? = some (.cells #[v0, .int .i64 place, v2, v3, openV, v5, .int .i64 size, v7] 159 (0, 0))) (hw : WinN 1 5 w openV l.length (l.map encB)) (hl : l.length ≤ 16777217)
 (hb : BytesIn (fun k => k = r ∨ openV.ownBlock = some k) w bV b) (hbl : b.length ≤ 4294967296) (hpl : place ≤ 4611686018427387904) (hsz : size ≤ 4611686018427387904) :
 Calls prog 64 #[.pointer (some ⟨r, 0, none⟩), bV] w fun e w' => PartRet w r openV l b (fun u => #[v0, .int .i64 (place + b.length : Nat), v2, v3, u, v5, .int .i64 (size + b.length : Nat), v7]) e w' := by
 obtain ⟨c0, c1, c2, c3, c4, c5, c6, c7, cf⟩ := cells8 h;obtain ⟨a, cap, rfl, hcap, hcm, hcells⟩ := hb;have HNE := hZ (hw.ne h (by decide));obtain ⟨ta, tc, htv⟩ := hw.shape;obtain ⟨room, hroom⟩ : ∃ room, 16777217 - l.length = room := ⟨_, rfl⟩;obtain ⟨k, hk⟩ : ∃ k, min b.length room = k := ⟨_, rfl⟩;have hmax : max ((16777217 : Int) - (l.length : Int)) 0 = (room : Int) := by omega
 have hmin : min (b.length : Int) (room : Int) = (k : Int) := by omega
 have hw1 : IntKind.i64.wrap ((16777217 : Int) - (l.length : Int)) = (16777217 : Int) - (l.length : Int) := by rw [IntKind.wrap_i64]; omega
 have hk0 : (0 : Int) ≤ (k : Int) := by omega
 have hkc : (k : Int) ≤ (cap : Int) := by omega
 have hw2 : IntKind.i64.wrap ((size : Int) + (b.length : Int)) = (size : Int) + (b.length : Int) := by rw [IntKind.wrap_i64]; omega
 have hw3 : IntKind.i64.wrap ((place : Int) + (b.length : Int)) = (place : Int) + (b.length : Int) := by rw [IntKind.wrap_i64]; omega
 have HW := hZ hw;have H := hZ h;have HK := hZ hk;have HROOM := hZ hroom;have HCELLS := hZ hcells;have hcm2 : cap ≤ 9223372036854775807 := by unfold maxLen at hcm; omega
 subst htv;clear h hw hk hroom hcells hcm;have hsr : Keeps (fun k => k = r ∨ (Value.slice ta l.length tc).ownBlock = some k) w w.drew := (Keeps.refl _ w).drew;rcases Nat.eq_zero_or_pos k with hk0' | hk1
 ·subst hk0'
  have htake : b.take (16777217 - l.length) = [] := by
   rw [HROOM.out];have := HK.out;rcases Nat.eq_zero_or_pos room with h0 | h0
   ·rw [h0]; rfl
   ·have : b.length = 0 := by omega
    rw [List.eq_nil_of_length_eq_zero this]; simp
  have HTAKE := hZ htake;have HW2 := hZ (show WinN 1 5 w.drew (.slice ta l.length tc) l.length (l.map encB) from HW.out);clear htake hsr;go_enter func64, ntmps64;go_wp2_with fail
  go_region_law (refine step_append_winN0 elemByteN rfl _ _ rfl rfl HW2.out _ _ rfl ?_)
  all_goals
   go_wp2_with fail
   all_goals
    go_end0
    have hks : Keeps (fun k => k = r ∨ (Value.slice ta l.length tc).ownBlock = some k) w (((w.drew.setCell ⟨r, 4, none⟩ (.slice ta l.length tc)).setCell ⟨r, 6, none⟩ (.int .i64 ((size : Int) + (b.length : Int)))).setCell ⟨r, 1, none⟩ (.int .i64 ((place : Int) + (b.length : Int)))) := ((((Keeps.refl _ w).drew).setCell (p := ⟨r, 4, none⟩) (.inl (.inl rfl)) _).setCell (p := ⟨r, 6, none⟩) (.inl (.inl rfl)) _).setCell (p := ⟨r, 1, none⟩) (.inl (.inl rfl)) _;refine ⟨rfl, .slice ta l.length tc, set_at (set_at (set_at (w := w.drew) H.out _) _) _, ?_, fun k hk => .inl hk, hks⟩;rw [HTAKE.out, List.append_nil];exact HW.out.keeps (F := fun k => k = r) ((((((Keeps.refl (fun k => k = r) w).drew).setCell (p := ⟨r, 4, none⟩) (.inl rfl) _).setCell (p := ⟨r, 6, none⟩) (.inl rfl) _).setCell (p := ⟨r, 1, none⟩) (.inl rfl) _)) (fun k e hk => HNE.out (e.trans (congrArg some hk)))
 ·obtain ⟨g, off, rfl, hgF, hcell⟩ := HCELLS.out.resolve_left (fun e => by subst e; simp at hk1 HK; have := HK.out; omega);have htl : (b.take (16777217 - l.length)).length = k := by rw [HROOM.out, List.length_take, Nat.min_comm]; exact HK.out
  have HW2 := hZ (show WinN 1 5 w.drew (.slice ta l.length tc) l.length (l.map encB) from HW.out);obtain ⟨bt, hbt⟩ : ∃ bt, b.take (16777217 - l.length) = bt := ⟨_, rfl⟩
  have hcell2 : ∀ j u, (bt.map encB)[j]? = some u → w.drew.cell? ((⟨g, off, none⟩ : Addr).add j) = some u := by
   intro j u hj;have hplain : (⟨g, off, none⟩ : Addr).add j = ⟨g, off + j, none⟩ := by unfold Addr.add; split <;> simp_all
   rw [hplain];rw [List.getElem?_map] at hj;cases hbj : bt[j]? with
   | none => rw [hbj] at hj; cases hj
   | some x =>
    rw [hbj] at hj;simp at hj; subst hj;rw [← hbt, List.getElem?_take] at hbj;split at hbj
    ·exact hcell j x hbj
    ·cases hbj
  have HC2 := hZ hcell2;have HBT := hZ hbt;rw [hbt] at htl;have HTL := hZ htl;clear hsr hcell hcell2 hbt htl;have hgr : g ≠ r := fun e => hgF (.inl e)
  have HGR := hZ hgr;clear hgF hgr;go_enter func64, ntmps64;go_wp2_with fail
  have hones : ∀ u ∈ bt.map encB, u.oneCell' = true := fun u hu => by
   obtain ⟨x, _, rfl⟩ := List.mem_map.1 hu;rfl
  have HON := hZ hones;have hnl : (bt.map encB).length = k * 1 := by simp [HTL.out]
  have HNL := hZ hnl;clear hones hnl;have hbm : l.length + k ≤ maxLen := by unfold maxLen; omega
  have hbb : (l.length + k) * 1 ≤ 140737488355328 := by omega
  have HBM := hZ hbm;have HBBB := hZ hbb;clear hbm hbb
  go_region_law (refine step_append_winN elemByteN rfl _ _ rfl rfl HW2.out ⟨g, off, none⟩ k k (bt.map encB) rfl HNL.out HC2.out HON.out hk1 HBBB.out HBM.out ?_; intro g' off' cap' w' hwin hgb hkk; have hb' := hkk.blk (show w.drew.heap[r]? = _ from H.out) HNE.out; obtain ⟨d0, d1, d2, d3, d4, d5, d6, d7, df⟩ := cells8 hb')
  all_goals
   have HB := hZ hb';have HWIN := hZ hwin;have HGB := hZ hgb;have HKK := hZ hkk;have HNG := hZ (hwin.ne hb' (by decide));clear hb' hwin hgb hkk c0 c1 c2 c3 c4 c5 c6 c7 cf;go_wp2_with fail
   go_end0
   have hkr : Keeps (fun k => k = r) w' (((w'.setCell ⟨r, 4, none⟩ (.slice (some ⟨g', off', none⟩) (l.length + k) cap')).setCell ⟨r, 6, none⟩ (.int .i64 ((size : Int) + (b.length : Int)))).setCell ⟨r, 1, none⟩ (.int .i64 ((place : Int) + (b.length : Int)))) := (((Keeps.refl (fun k => k = r) w').setCell (p := ⟨r, 4, none⟩) (.inl rfl) _).setCell (p := ⟨r, 6, none⟩) (.inl rfl) _).setCell (p := ⟨r, 1, none⟩) (.inl rfl) _;have hkw : Keeps (fun k => k = r ∨ (Value.slice ta l.length tc).ownBlock = some k) w w' := ⟨HKK.out.os, HKK.out.tape, HKK.out.output, HKK.out.size, fun k hk hn => HKK.out.block k hk (fun e => hn (.inr e))⟩;refine ⟨rfl, .slice (some ⟨g', off', none⟩) (l.length + k) cap', set_at (set_at (set_at HB.out _) _) _, ?_, ?_, hkw.same (hkr.mono fun k e => .inl e)⟩
   ·rw [HBT.out, List.length_append, HTL.out, List.map_append];exact HWIN.out.keeps hkr (fun k e hk => HNG.out (e.trans (congrArg some hk)))
   ·intro k' hk';cases hk';exact HGB.out.imp id (fun h => ⟨h.1, Nat.lt_of_lt_of_le h.2 hkr.size⟩)
def wrongOf (begun : Bool) (frm size : Nat) (open_ : List UInt8) : Option (Nat × Nat) :=
 if begun = false then some (260, 0) else if 16777216 < size then some (3, frm + 16777216) else if open_.getLast? ≠ some 10 then some (261, frm + size) else none
def wrongV (o : Option (Nat × Nat)) : Value := match o with
 | some (no, at_) => spotV no at_
 | none => .nilIface
theorem wrong_any (w : World) (r frm size : Nat) (begun : Bool) (v0 v1 v3 v7 openV : Value) (l : List UInt8) (h : w.heap[r]? = some (.cells #[v0, v1, .bool begun, v3, openV, .int .i64 frm, .int .i64 size, v7] 159 (0, 0))) (hw : WinN 1 5 w openV l.length (l.map encB)) (hs : 1 ≤ size) (hl : l.length = min size 16777217)
 (hf : frm ≤ 4611686018427387904) (hz : size ≤ 4611686018427387904) :
 Calls prog 96 #[.pointer (some ⟨r, 0, none⟩)] w fun e w' => e = .returned (wrongV (wrongOf begun frm size l)) ∧ Below w.heap.size w w' := by
 obtain ⟨c0, c1, c2, c3, c4, c5, c6, c7, cf⟩ := cells8 h;unfold wrongOf;cases begun with
 | false =>
  rw [if_pos rfl];clear h hw;go_enter func96, ntmps96;go_wp2_with fail;go_ret;exact ⟨rfl, Below.refl _ _⟩
 | true =>
  rw [if_neg (by decide)]
  by_cases hbig : 16777216 < size
  ·rw [if_pos hbig];have e1 : (16777216 : Int) < (size : Int) := by omega
   have hw1 : IntKind.i64.wrap ((frm : Int) + 16777216) = (frm : Int) + 16777216 := by rw [IntKind.wrap_i64]; omega
   clear h hw hbig;go_enter func96, ntmps96;go_wp2_with fail;go_ret;exact ⟨rfl, Below.refl _ _⟩
  ·rw [if_neg hbig];have e1 : (size : Int) ≤ 16777216 := by omega
   have hll : l.length = size := by omega
   obtain ⟨a, tc, htv⟩ := hw.shape;subst htv
   obtain ⟨g, off, rfl⟩ : ∃ g off, a = some ⟨g, off, none⟩ := by
    rcases hw.2 with ⟨_, h0⟩ | ⟨g, off, cap, cur, hv, _⟩
    ·omega
    ·injection hv with h1 _ _; exact ⟨g, off, h1⟩
   obtain ⟨n, hn⟩ : ∃ n, l.length = n + 1 := ⟨l.length - 1, by omega⟩
   have hlast : ∃ c, l.getLast? = some c ∧ w.cell? ⟨g, off + n, none⟩ = some (.int .u8 ((c.toNat : Nat) : Int)) := by
    have hnl : n < l.length := by omega
    refine ⟨l[n], by rw [List.getLast?_eq_getElem?, hn, Nat.add_sub_cancel, List.getElem?_eq_getElem hnl], ?_⟩;rcases hw.2 with ⟨hv, _⟩ | ⟨g', off', cap', cur, hv, hg, hc, ho, hm, hi⟩
    ·cases hv
    ·cases hv;rw [cell_at hg];refine hi n _ ?_;rw [List.getElem?_map, List.getElem?_eq_getElem hnl]; rfl
   obtain ⟨c, hlc, hcell⟩ := hlast;rw [hn] at c4;have hr1 : IntKind.i64.wrap ((n : Int) + 1 - 1) = (n : Int) := by rw [IntKind.wrap_i64]; omega
   have hnb : n ≤ 16777216 := by omega
   have hr2 : IntKind.i64.wrap (n : Int) = (n : Int) := by rw [IntKind.wrap_i64]; omega
   have hw1 : IntKind.i64.wrap ((frm : Int) + (size : Int)) = (frm : Int) + (size : Int) := by rw [IntKind.wrap_i64]; omega
   by_cases h10 : c = 10
   ·have hne : ¬ l.getLast? ≠ some 10 := by rw [hlc, h10]; simp
    rw [if_neg hne];rw [h10] at hcell;have hcell : w.cell? ⟨g, off + n, none⟩ = some (.int .u8 10) := hcell;clear h hw hbig hlc hne hn hll h10;go_enter func96, ntmps96;go_wp2_with fail;go_region;go_wp2_with fail;go_ret;exact ⟨rfl, (Below.refl _ _).drew⟩
   ·have hne : l.getLast? ≠ some 10 := by rw [hlc]; intro e; exact h10 (Option.some.inj e)
    rw [if_pos hne];obtain ⟨n1, n2, n3⟩ := byte_ne3 (c := c) (d := 10) (n := 10) h10 rfl;clear h hw hbig hlc hne hn hll h10;go_enter func96, ntmps96;go_wp2_with fail;go_region;go_wp2_with fail;go_region;go_wp2_with fail;go_ret;exact ⟨rfl, (Below.refl _ _).drew.drew⟩
theorem elemRec : ElemN 157 162 2 24 := ⟨underlying157, by decide, by
 have h : (prog.info? 162).map (fun i => (i.zero, i.size, i.bytes)) = some (some (.agg #[.pointer none, .nilIface]), 2, 24) := by kernel_rfl
 obtain ⟨i, h1, h2, h3, h4⟩ := info_parts h;exact ⟨i, _, h1, h2, h3, h4, rfl⟩⟩
def RecAt (w : World) (a b : Value) : Except (Nat × Nat) Tr → Prop
 | .error (no, at_) => a = .pointer none ∧ b = spotV no at_
 | .ok t => b = .nilIface ∧ ∃ T v, a = .pointer (some ⟨T, 0, none⟩) ∧ w.heap[T]? = some (.cells #[v] 176 (0, 0)) ∧ TreeAt (fun _ => True) w v t
def WholeRet (w : World) (r n : Nat) (recV : Value) (cs : List Value) (rec : Except (Nat × Nat) Tr) (c : Value → Array Value) (e : Ending) (w' : World) : Prop :=
 e = .returned (.tuple #[]) ∧ ∃ recV' a b, w'.heap[r]? = some (.cells (c recV') 159 (0, 0)) ∧ WinN 2 162 w' recV' (n + 1) (cs ++ [a, b]) ∧ RecAt w' a b rec ∧ (∀ k, recV'.ownBlock = some k → recV.ownBlock = some k ∨ (w.heap.size ≤ k ∧ k < w'.heap.size)) ∧ Keeps (fun k => k = r ∨ recV.ownBlock = some k) w w'
theorem whole_none (w : World) (r : Nat) (v0 v1 v2 v3 v4 v5 v7 : Value) (h : w.heap[r]? = some (.cells #[v0, v1, v2, v3, v4, v5, .int .i64 0, v7] 159 (0, 0))) : Calls prog 65 #[.pointer (some ⟨r, 0, none⟩)] w fun e w' => e = .returned (.tuple #[]) ∧ w' = w := by
 obtain ⟨c0, c1, c2, c3, c4, c5, c6, c7, cf⟩ := cells8 h;clear h;go_enter func65, ntmps65;go_wp2_with fail;exact bodyPost_ret (results_none rfl _ _ _) rfl ⟨rfl, rfl⟩
theorem whole_wrong (w : World) (r frm size n no at_ : Nat) (begun : Bool) (v0 v1 v3 recV openV : Value) (l : List UInt8) (cs : List Value) (h : w.heap[r]? = some (.cells #[v0, v1, .bool begun, v3, openV, .int .i64 frm, .int .i64 size, recV] 159 (0, 0))) (hw : WinN 1 5 w openV l.length (l.map encB)) (hs : 1 ≤ size) (hl : l.length = min size 16777217)
 (hf : frm ≤ 4611686018427387904) (hz : size ≤ 4611686018427387904) (hr : WinN 2 162 w recV n cs) (hn : n ≤ 1073741824) (hwr : wrongOf begun frm size l = some (no, at_)) :
 Calls prog 65 #[.pointer (some ⟨r, 0, none⟩)] w fun e w' => WholeRet w r n recV cs (.error (no, at_)) (fun u => #[v0, v1, .bool begun, v3, openV, .int .i64 frm, .int .i64 size, u]) e w' := by
 have hwa := wrong_any w r frm size begun _ _ _ _ _ l h hw hs hl hf hz;rw [hwr] at hwa;have hwa : Calls prog 96 #[.pointer (some ⟨r, 0, none⟩)] w fun e w' => e = .returned (.iface 151 (.agg #[.int .i64 no, .int .i64 at_])) ∧ Below w.heap.size w w' := hwa
 obtain ⟨c0, c1, c2, c3, c4, c5, c6, c7, cf⟩ := cells8 h;have e0 : ((size : Int) == 0) = false := by simp; omega
 have HWA := hZ hwa;have H := hZ h;have HR := hZ hr;have hlt := lt_of_block h;have HNE := hZ (hr.ne h (by decide));obtain ⟨ta, tc, htv⟩ := hr.shape;subst htv;clear h hw hwr hwa hr hs hl;go_enter func65, ntmps65;go_wp2_with fail;refine (HWA.out).mono ?_;rintro e w1 ⟨rfl, hb1⟩;have h1 := keep H.out hb1;obtain ⟨d0, d1, d2, d3, d4, d5, d6, d7, df⟩ := cells8 h1;have hkx : Keeps (fun _ => False) w (w1.alloc (.cells #[.pointer none, .iface 151 (.agg #[.int .i64 no, .int .i64 at_])] 162)) := (Keeps.of_below _ hb1).alloc _;have HKX := hZ hkx;have HW1 := hZ (HR.out.keeps hkx (fun _ _ => id));have HH := hZ (hkx.blk H.out id)
 have hnl : ∀ j u, ([.pointer none, .iface 151 (.agg #[.int .i64 no, .int .i64 at_])] : List Value)[j]? = some u → (w1.alloc (.cells #[.pointer none, .iface 151 (.agg #[.int .i64 no, .int .i64 at_])] 162)).cell? ((⟨w1.heap.size, 0, none⟩ : Addr).add j) = some u := by
  intro j u hj;have hplain : (⟨w1.heap.size, 0, none⟩ : Addr).add j = ⟨w1.heap.size, 0 + j, none⟩ := by unfold Addr.add; split <;> simp_all
  rw [hplain, cell_at (heap_alloc_new w1 _), Nat.zero_add]
  simpa using hj
 have HNL := hZ hnl
 have HONE := hZ (show ∀ u ∈ ([.pointer none, .iface 151 (.agg #[.int .i64 no, .int .i64 at_])] : List Value), u.oneCell' = true from fun u hu => by
  simp at hu;rcases hu with rfl | rfl <;> rfl)
 clear hb1 h1 hkx hnl c0 c1 c2 c3 c4 c5 c6 c7 cf
 go_wp2_with (at_builtin; refine append_winN elemRec rfl _ _ rfl rfl HW1.out ⟨w1.heap.size, 0, none⟩ 1 1 [.pointer none, .iface 151 (.agg #[.int .i64 no, .int .i64 at_])] rfl rfl HNL.out HONE.out (Nat.le_refl _) ?_ ?_ ?_)
 ·omega
 ·unfold maxLen; omega
 intro g off cap w' hwin hgb hkk;have hb' := hkk.blk HH.out HNE.out;obtain ⟨e0, e1, e2, e3, e4, e5, e6, e7, ef⟩ := cells8 hb';have HB := hZ hb';have HWIN := hZ hwin;have HGB := hZ hgb;have HKK := hZ hkk;have HNG := hZ (hwin.ne hb' (by decide));clear hb' hwin hgb hkk d0 d1 d2 d3 d4 d5 d6 d7 df;go_wp2_with fail;refine bodyPost_ret (results_none rfl _ _ _) rfl ?_;have hkr : Keeps (fun k => k = r) w' (w'.setCell ⟨r, 7, none⟩ (.slice (some ⟨g, off, none⟩) (n + 1) cap)) := (Keeps.refl (fun k => k = r) w').setCell (p := ⟨r, 7, none⟩) (.inl rfl) _;have hkw : Keeps (fun k => k = r ∨ (Value.slice ta n tc).ownBlock = some k) w w' := (HKX.out.mono (fun _ h => h.elim)).trans HKK.out (fun k e => .inl (.inr e));refine ⟨rfl, .slice (some ⟨g, off, none⟩) (n + 1) cap, _, _, set_at HB.out _, HWIN.out.keeps hkr (fun k e hk => HNG.out (e.trans (congrArg some hk))), ⟨rfl, rfl⟩, ?_, hkw.same (hkr.mono fun k e => .inl e)⟩;intro k' hk';cases hk';exact HGB.out.imp id (fun h => ⟨Nat.le_trans HKX.out.size (by rw [World.size_alloc]; exact h.1), Nat.lt_of_lt_of_le h.2 hkr.size⟩)
def shiftOf (frm : Nat) (tr : Except (Nat × Nat) Tr) : Except (Nat × Nat) Tr := match tr with
 | .error (no, at_) => .error (no, at_ + frm)
 | .ok t => .ok t
theorem news_at {X : World} {n' : Nat} {a b : Value} (h : n' = X.heap.size) : ∀ (j : Nat) (u : Value), ([a, b] : List Value)[j]? = some u → (X.alloc (.cells #[a, b] 162)).cell? ((⟨n', 0, none⟩ : Addr).add j) = some u := by
 intro j u hj;have hplain : (⟨n', 0, none⟩ : Addr).add j = ⟨n', 0 + j, none⟩ := by unfold Addr.add; split <;> simp_all
 subst h;rw [hplain, cell_at (heap_alloc_new X _), Nat.zero_add]
 simpa using hj
theorem news_one {T : TypeId} {v : Value} (p : Option Addr) : (∀ u ∈ ([.pointer p, .iface T v] : List Value), u.oneCell' = true) ∧ (∀ u ∈ ([.pointer p, .nilIface] : List Value), u.oneCell' = true) :=
 ⟨fun u hu => (by simp at hu; rcases hu with rfl | rfl <;> rfl), fun u hu => (by simp at hu; rcases hu with rfl | rfl <;> rfl)⟩
theorem readTree_at {l : List UInt8} {d no at_ : Nat} (h2 : d ≤ 512) (h : readTree l d = .error (no, at_)) : at_ ≤ 16777216 := by
 unfold readTree oneOf at h;cases hr : Ps.read po l d with
 | error e => obtain ⟨n2, a2⟩ := e; rw [hr] at h; cases h; exact read_at h2 hr
 | ok y => rw [hr] at h; cases h
theorem winN_bytes {w : World} {F : Nat → Prop} {v : Value} {l : List UInt8} (h : WinN 1 5 w v l.length (l.map encB)) (hF : ∀ k, v.ownBlock = some k → ¬ F k) : BytesIn F w v l := by
 rcases h.2 with ⟨rfl, h0⟩ | ⟨g, off, cap, cur, rfl, hg, hc, ho, hm, hi⟩
 ·exact ⟨none, 0, by rw [h0], by omega, Nat.zero_le _, .inl (List.eq_nil_of_length_eq_zero h0)⟩
 ·refine ⟨_, cap, rfl, hc, hm, .inr ⟨g, off, rfl, hF g rfl, fun i x hx => ?_⟩⟩;rw [cell_at hg];refine hi i _ ?_;rw [List.getElem?_map, hx]; rfl
theorem whole_read (w : World) (r frm size n d : Nat) (v1 v3 recV openV : Value) (l : List UInt8) (cs : List Value) (h : w.heap[r]? = some (.cells #[.int .i64 d, v1, .bool true, v3, openV, .int .i64 frm, .int .i64 size, recV] 159 (0, 0))) (hw : WinN 1 5 w openV l.length (l.map encB)) (hs : 1 ≤ size) (hl : l.length = min size 16777217)
 (hf : frm ≤ 4611686018427387904) (hz : size ≤ 4611686018427387904) (hr : WinN 2 162 w recV n cs) (hn : n ≤ 1073741824) (hwr : wrongOf true frm size l = none) (h1 : 1 ≤ d) (h2 : d ≤ 512) :
 Calls prog 65 #[.pointer (some ⟨r, 0, none⟩)] w fun e w' => WholeRet w r n recV cs (shiftOf frm (readTree l d)) (fun u => #[.int .i64 d, v1, .bool true, v3, openV, .int .i64 frm, .int .i64 size, u]) e w' := by
 have hat : ∀ no at_, readTree l d = .error (no, at_) → at_ ≤ 1073741824 := fun no at_ h => Nat.le_trans (readTree_at h2 h) (by decide)
 have hwa := wrong_any w r frm size true _ _ _ _ _ l h hw hs hl hf hz;rw [hwr] at hwa;have hwa : Calls prog 96 #[.pointer (some ⟨r, 0, none⟩)] w fun e w' => e = .returned .nilIface ∧ Below w.heap.size w w' := hwa
 have HRD := hZ (fun (w1 : World) (hb : Below w.heap.size w w1) => parRead_any w1.drew l d openV h1 h2 (winN_bytes (hw.keeps (Keeps.of_below (fun _ => False) hb.drew) (fun _ _ => id)) (fun k hk => by have := hw.lt hk; have h3 := hb.size; show ¬ w1.heap.size ≤ k; omega)) (by omega));obtain ⟨c0, c1, c2, c3, c4, c5, c6, c7, cf⟩ := cells8 h;have e0 : ((size : Int) == 0) = false := by simp; omega
 have HWA := hZ hwa;have H := hZ h;have HR := hZ hr;have hlt := lt_of_block h;have HNE := hZ (hr.ne h (by decide));obtain ⟨ta, tc, htv⟩ := hr.shape;subst htv;obtain ⟨oa, oc, hov⟩ := hw.shape;subst hov;obtain ⟨tr, htr⟩ : ∃ tr, readTree l d = tr := ⟨_, rfl⟩;rw [htr] at hat ⊢;have HTR := hZ htr;clear h hw hwr hwa hr hs hl htr;cases tr with
 | error er =>
  obtain ⟨no, at_⟩ := er;have hat2 := hat no at_ rfl;have hta : ∀ w : World, (Instr.typeAssert (.iface 151 (.agg #[.int .i64 no, .int .i64 at_])) 26 151 true).run prog w = .ok (.tuple #[.agg #[.int .i64 no, .int .i64 at_], .bool true]) w := fun _ => by kernel_rfl
  have hw1 : IntKind.i64.wrap ((at_ : Int) + (frm : Int)) = (at_ : Int) + (frm : Int) := by rw [IntKind.wrap_i64]; omega
  clear hat;go_enter func65, ntmps65;go_wp2_with fail;refine (HWA.out).mono ?_;rintro e w1 ⟨rfl, hb1⟩;have h1' := keep H.out hb1;obtain ⟨d0, d1, d2, d3, d4, d5, d6, d7, df⟩ := cells8 h1';have HB1 := hZ hb1;have hcr := HRD.out w1 hb1;rw [HTR.out] at hcr;have HCR := hZ hcr;clear hb1 h1' c0 c1 c2 c3 c4 c5 c6 c7 cf hcr;go_wp2_with fail
  go_region_with (go_at_call 12; refine (HCR.out).mono ?_; rintro e w2 ⟨hk2, he⟩; unfold spotV at he; subst he)
  all_goals
   have hk12 : Keeps (fun _ => False) w w2 := (Keeps.of_below _ HB1.out).same ⟨hk2.os, hk2.tape, hk2.output, hk2.size, hk2.block⟩;have h2' := hk12.blk H.out id;have hr2 : r < w2.heap.size := lt_of_block h2';have hkS : Keeps (fun _ => False) w (w2.alloc (.cells #[.int .i64 no, .int .i64 at_] 151)) := hk12.alloc _;have h3' := hkS.blk H.out id;have hS := heap_alloc_new w2 (.cells #[.int .i64 no, .int .i64 at_] 151);have s0 : (w2.alloc (.cells #[.int .i64 no, .int .i64 at_] 151)).cell? ⟨w2.heap.size, 0, none⟩ = some (.int .i64 no) := cell_at hS;have s1 : (w2.alloc (.cells #[.int .i64 no, .int .i64 at_] 151)).cell? ⟨w2.heap.size, 1, none⟩ = some (.int .i64 at_) := cell_at hS;have sf : ∀ o, (w2.alloc (.cells #[.int .i64 no, .int .i64 at_] 151)).frozen? ⟨w2.heap.size, o, none⟩ = false := free_at hS;have r5 : (w2.alloc (.cells #[.int .i64 no, .int .i64 at_] 151)).cell? ⟨r, 5, none⟩ = some (.int .i64 frm) := cell_at h3';have HK12 := hZ hk12;have HS := hZ hS;clear hk2 hk12 h2' hkS h3' hS;go_wp2_with fail;have hk3 : Keeps (fun _ => False) w (w2.alloc (.cells #[.int .i64 no, .int .i64 at_] 151)) := HK12.out.alloc _;have hsz : (w2.alloc (.cells #[.int .i64 no, .int .i64 at_] 151)).heap.size = w2.heap.size + 1 := by simp
   have hwz : w.heap.size ≤ w2.heap.size := HK12.out.size;generalize w2.alloc (.cells #[.int .i64 no, .int .i64 at_] 151) = W3 at *;have HK3 := hZ hk3;have HSZ := hZ hsz;have HWZ := hZ hwz;clear hk3 hsz hwz;go_region;have hkF : Keeps (fun _ => False) w ((W3.setCell ⟨w2.heap.size, 1, none⟩ (.int .i64 ((at_ : Int) + (frm : Int)))).alloc (.cells #[.pointer none, .iface 151 (.agg #[.int .i64 no, .int .i64 ((at_ : Int) + (frm : Int))])] 162)).drew := ((HK3.out.setCell (p := ⟨w2.heap.size, 1, none⟩) (.inr HWZ.out) _).alloc _).drew;have HKF := hZ hkF;have HWF := hZ (HR.out.keeps hkF (fun _ _ => id));have HHF := hZ (hkF.blk H.out id);have hS2 : (W3.setCell ⟨w2.heap.size, 1, none⟩ (.int .i64 ((at_ : Int) + (frm : Int)))).heap[w2.heap.size]? = some (.cells #[.int .i64 no, .int .i64 ((at_ : Int) + (frm : Int))] 151 (0, 0)) := set_at HS.out _;have t0 : (W3.setCell ⟨w2.heap.size, 1, none⟩ (.int .i64 ((at_ : Int) + (frm : Int)))).cell? ⟨w2.heap.size, 0, none⟩ = some (.int .i64 no) := cell_at hS2;have t1 : (W3.setCell ⟨w2.heap.size, 1, none⟩ (.int .i64 ((at_ : Int) + (frm : Int)))).cell? ⟨w2.heap.size, 1, none⟩ = some (.int .i64 ((at_ : Int) + (frm : Int))) := cell_at hS2;have hr3 : W3.heap[r]? = _ := HK3.out.blk H.out id;have hr4 : (W3.setCell ⟨w2.heap.size, 1, none⟩ (.int .i64 ((at_ : Int) + (frm : Int)))).heap[r]? = _ := (set_else _ (by omega)).trans hr3;obtain ⟨q0, q1, q2, q3, q4, q5, q6, q7, qf⟩ := cells8 hr4;clear hkF hS2 hr3 hr4 s0 s1 sf r5 d0 d1 d2 d3 d4 d5 d6 d7 df;have HNA := hZ (news_at (X := W3.setCell ⟨w2.heap.size, 1, none⟩ (.int .i64 ((at_ : Int) + (frm : Int)))) (n' := W3.heap.size) (a := .pointer none) (b := .iface 151 (.agg #[.int .i64 no, .int .i64 ((at_ : Int) + (frm : Int))])) (set_size _ _ _).symm)
   go_wp2_with (at_builtin; refine append_winN elemRec rfl _ _ rfl rfl HWF.out ⟨W3.heap.size, 0, none⟩ 1 1 [.pointer none, .iface 151 (.agg #[.int .i64 no, .int .i64 ((at_ : Int) + (frm : Int))])] rfl rfl HNA.out (news_one none).1 (Nat.le_refl _) ?_ ?_ ?_)
   ·omega
   ·unfold maxLen; omega
   intro g off cap w' hwin hgb hkk;have hb' := hkk.blk HHF.out HNE.out;obtain ⟨e0, e1, e2, e3, e4, e5, e6, e7, ef⟩ := cells8 hb';have HB := hZ hb';have HWIN := hZ hwin;have HGB := hZ hgb;have HKK := hZ hkk;have HNG := hZ (hwin.ne hb' (by decide));clear hb' hwin hgb hkk q0 q1 q2 q3 q4 q5 q6 q7 qf t0 t1;go_wp2_with fail
   go_end0
   have hkr : Keeps (fun k => k = r) w' (w'.setCell ⟨r, 7, none⟩ (.slice (some ⟨g, off, none⟩) (n + 1) cap)) := (Keeps.refl (fun k => k = r) w').setCell (p := ⟨r, 7, none⟩) (.inl rfl) _;have hkw : Keeps (fun k => k = r ∨ (Value.slice ta n tc).ownBlock = some k) w w' := (HKF.out.mono (fun _ h => h.elim)).trans HKK.out (fun k e => .inl (.inr e));refine ⟨rfl, .slice (some ⟨g, off, none⟩) (n + 1) cap, _, _, set_at HB.out _, HWIN.out.keeps hkr (fun k e hk => HNG.out (e.trans (congrArg some hk))), ⟨rfl, rfl⟩, ?_, hkw.same (hkr.mono fun k e => .inl e)⟩;intro k' hk';cases hk';exact HGB.out.imp id (fun h => ⟨Nat.le_trans HKF.out.size (by have h3 := h.1; first | exact h3 | (simpa [World.setCell] using h3)), Nat.lt_of_lt_of_le h.2 hkr.size⟩)
 | ok t =>
  have hta : ∀ w : World, (Instr.typeAssert .nilIface 26 151 true).run prog w = .ok (.tuple #[.agg #[.int .i64 0, .int .i64 0], .bool false]) w := fun _ => by kernel_rfl
  clear hat;go_enter func65, ntmps65;go_wp2_with fail;refine (HWA.out).mono ?_;rintro e w1 ⟨rfl, hb1⟩;have h1' := keep H.out hb1;obtain ⟨d0, d1, d2, d3, d4, d5, d6, d7, df⟩ := cells8 h1';have HB1 := hZ hb1;have hcr := HRD.out w1 hb1;rw [HTR.out] at hcr;have HCR := hZ hcr;clear hb1 h1' c0 c1 c2 c3 c4 c5 c6 c7 cf hcr;go_wp2_with fail
  go_region_with (go_at_call 12; refine (HCR.out).mono ?_; rintro e w2 ⟨hk2, TT, tv, rfl, htb, htt, hTT⟩)
  all_goals
   have hk12 : Keeps (fun _ => False) w w2 := (Keeps.of_below _ HB1.out).same ⟨hk2.os, hk2.tape, hk2.output, hk2.size, hk2.block⟩;have hkF : Keeps (fun _ => False) w ((w2.alloc (.cells #[.int .i64 0, .int .i64 0] 151)).alloc (.cells #[.pointer (some ⟨TT, 0, none⟩), .nilIface] 162)) := (hk12.alloc _).alloc _;have h3' := (hk12.alloc (.cells #[.int .i64 0, .int .i64 0] 151)).blk H.out id;obtain ⟨q0, q1, q2, q3, q4, q5, q6, q7, qf⟩ := cells8 h3';have HKF := hZ hkF;have HWF := hZ (HR.out.keeps hkF (fun _ _ => id));have HHF := hZ (hkF.blk H.out id);have HNA := hZ (news_at (X := w2.alloc (.cells #[.int .i64 0, .int .i64 0] 151)) (n' := w2.heap.size + 1) (a := .pointer (some ⟨TT, 0, none⟩)) (b := .nilIface) (by simp));have hkT : Keeps (fun _ => False) w2 ((w2.alloc (.cells #[.int .i64 0, .int .i64 0] 151)).alloc (.cells #[.pointer (some ⟨TT, 0, none⟩), .nilIface] 162)) := ((Keeps.refl _ w2).alloc _).alloc _;have HTB := hZ (hkT.blk htb id);have HTT := hZ ((htt.keeps hkT (fun _ _ => id)).mono (G := fun k => w1.heap.size ≤ k) (fun k h => h.elim False.elim (fun h => h.1)));have HW2S := hZ hk12.size;have HTP := hZ (show w1.heap.size ≤ TT from hTT);clear hk2 hk12 hkF h3' hkT htb htt d0 d1 d2 d3 d4 d5 d6 d7 df
   go_wp2_with (at_builtin; refine append_winN elemRec rfl _ _ rfl rfl HWF.out ⟨w2.heap.size + 1, 0, none⟩ 1 1 [.pointer (some ⟨TT, 0, none⟩), .nilIface] rfl rfl HNA.out (news_one (T := 0) (v := .nilIface) (some ⟨TT, 0, none⟩)).2 (Nat.le_refl _) ?_ ?_ ?_)
   ·omega
   ·unfold maxLen; omega
   intro g off cap w' hwin hgb hkk;have hb' := hkk.blk HHF.out HNE.out;obtain ⟨e0, e1, e2, e3, e4, e5, e6, e7, ef⟩ := cells8 hb';have HB := hZ hb';have HWIN := hZ hwin;have HGB := hZ hgb;have HKK := hZ hkk;have HNG := hZ (hwin.ne hb' (by decide));have HT2 := hZ (hkk.blk HTB.out (fun e => by have h7 := HR.out.lt e; have h8 := HB1.out.size; have h9 := HTP.out; omega));clear hb' hwin hgb hkk q0 q1 q2 q3 q4 q5 q6 q7 qf;go_wp2_with fail
   go_end0
   have hkr : Keeps (fun k => k = r) w' (w'.setCell ⟨r, 7, none⟩ (.slice (some ⟨g, off, none⟩) (n + 1) cap)) := (Keeps.refl (fun k => k = r) w').setCell (p := ⟨r, 7, none⟩) (.inl rfl) _;have hkw : Keeps (fun k => k = r ∨ (Value.slice ta n tc).ownBlock = some k) w w' := (HKF.out.mono (fun _ h => h.elim)).trans HKK.out (fun k e => .inl (.inr e));refine ⟨rfl, .slice (some ⟨g, off, none⟩) (n + 1) cap, _, _, set_at HB.out _, HWIN.out.keeps hkr (fun k e hk => HNG.out (e.trans (congrArg some hk))), ⟨rfl, TT, tv, rfl, ?_, ?_⟩, ?_, hkw.same (hkr.mono fun k e => .inl e)⟩
   ·exact hkr.blk HT2.out (fun e => by have h8 := HB1.out.size; have h9 := HTP.out; omega)
   ·exact ((HTT.out.keeps HKK.out (fun k hk e => by have h7 := HR.out.lt e; have h8 := HB1.out.size; omega)).keeps hkr (fun k hk e => by have h8 := HB1.out.size; omega)).mono (fun _ _ => trivial)
   intro k' hk';cases hk';exact HGB.out.imp id (fun h => ⟨Nat.le_trans HKF.out.size (by have h3 := h.1; first | exact h3 | (simpa [World.setCell] using h3)), Nat.lt_of_lt_of_le h.2 hkr.size⟩)
end Go.Proofs.YtakkmiomhackiaaGreatDoor
