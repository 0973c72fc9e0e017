/-
  The program, one part of its walk: Pa6o, Pm1, Pm1e. Conditions: none.
-/
import Derived.Test.YtakkmiomhackiaaGreatDoorPc30
import Derived.Test.YtakkmiomhackiaaGreatDoorPc23
import Derived.Deep.QuietTactic
import Derived.BigQuiet
set_option linter.all false
set_option maxRecDepth 100000
set_option maxHeartbeats 16000000
namespace Go.Proofs.YtakkmiomhackiaaGreatDoor
open Go.RowKit
theorem mark_openO (F : Nat → Prop) (w : World) (p : Nat) (x : Ps) (s : LS) (toks : List Tok) (at_ : Nat) (h : ParAt F w p x s toks) (hno : x.nodes ≤ 65536) (hpl : x.pile.length ≤ 1048576) :
 Calls Tryz.prog 112 #[.pointer (some ⟨p, 0, none⟩), .agg #[.int .i64 at_, .int .i64 1, .int .u8 123]] w fun e w' => Plainly e ∧ ParPost F w p s toks ((x.value at_).map fun p => { p with pile := p.pile ++ [.object []], want := 2 }) e w' := by
 have hal : Keeps (fun _ => False) w (w.alloc (.cells #[.int .i64 at_, .int .i64 1, .int .u8 123] 238)) := (Keeps.refl _ w).alloc _;have hlt := h.lt;have hself := h.self;have h1 := h.apart hal (fun _ _ => id);have HV := Lib.hid (value_par F _ p x s toks at_ h1 hno);have HKA := Lib.hid hal;have HLT := Lib.hid hlt;have hnew := heap_alloc_new w (.cells #[.int .i64 at_, .int .i64 1, .int .u8 123] 238);have b0 : (w.alloc (.cells #[.int .i64 at_, .int .i64 1, .int .u8 123] 238)).cell? ⟨w.heap.size, 0, none⟩ = some (.int .i64 at_) := cell_at hnew;have b2 : (w.alloc (.cells #[.int .i64 at_, .int .i64 1, .int .u8 123] 238)).cell? ⟨w.heap.size, 2, none⟩ = some (.int .u8 123) := cell_at hnew;have HSF := Lib.hid hself;cases hvo : x.value at_ with
 | error er =>
  obtain ⟨no, a2⟩ := er;rw [hvo] at HV;clear hal h h1 hlt hnew hself hvo hno hpl;go_enter Tryz.func112, Tryz.ntmps112;go_wp2_with fail;refine (HV.out).mono ?_;rintro e w2 ⟨hpl, hk2, he, hdead⟩;have HK := Lib.hid ((HKA.out.mono (G := F) (fun _ h => h.elim)).same hk2);have HD := Lib.hid hdead;clear hpl hk2 hdead;have HE := Lib.hid he;unfold failE at he;subst he;go_wp2_with fail;exact ⟨rfl, .inr ⟨_, _, rfl⟩, HK.out, rfl, HD.out⟩
 | ok y =>
  have hyp : y.pile = x.pile := by
   unfold Ps.value at hvo;split at hvo
   ·cases hvo
   ·split at hvo
    ·cases hvo
    ·split at hvo
     ·cases hvo
     ·cases hvo; rfl
  rw [hvo] at HV;have HYP := Lib.hid hyp;have HPL := Lib.hid hpl;clear hal h h1 hlt hnew hself hvo hno hyp hpl;go_enter Tryz.func112, Tryz.ntmps112;go_wp2_with fail;refine (HV.out).mono ?_;rintro e w2 ⟨hpl, hk2, he, hpar⟩;subst he;have hkk : Keeps F w w2 := (HKA.out.mono (G := F) (fun _ h => h.elim)).same hk2;obtain ⟨hlt2, FL, FM, FP, lb, mb, pileV, vals, hp, hb, hL, hM, hP⟩ := hpar;obtain ⟨d0, d1, d2, d3, d4, d5, d6, d7, d8, d9, df⟩ := cells10 hb;have hkx : Keeps (fun _ => False) w2 (((w2.alloc (.map #[] 0)).alloc (.cells #[.slice none 0 0, .map (some w2.heap.size)] 278)).alloc (.cells #[.iface 275 (.pointer (some ⟨w2.heap.size + 1, 0, none⟩))] 281)) := (((Keeps.refl _ w2).alloc _).alloc _).alloc _;have hw0 := hP.win.1.keeps hkx (fun _ _ => id);have HWIN := Lib.hid hw0;have HB := Lib.hid hb;have HNE := Lib.hid (hP.win.1.ne hb (by decide));have hpl2 : p < w2.heap.size := lt_of_block hb
  have hfb : (((w2.alloc (.map #[] 0)).alloc (.cells #[.slice none 0 0, .map (some w2.heap.size)] 278)).alloc (.cells #[.iface 275 (.pointer (some ⟨w2.heap.size + 1, 0, none⟩))] 281)).heap[w2.heap.size + 1]? = some (.cells #[.slice none 0 0, .map (some w2.heap.size)] 278 (0, 0)) := by
   refine (Below.heap_alloc _ _ _ (by simp)).trans ?_;have := heap_alloc_new (w2.alloc (.map #[] 0)) (.cells #[.slice none 0 0, .map (some w2.heap.size)] 278)
   rwa [World.size_alloc] at this
  have hmm : MetMap (((w2.alloc (.map #[] 0)).alloc (.cells #[.slice none 0 0, .map (some w2.heap.size)] 278)).alloc (.cells #[.iface 275 (.pointer (some ⟨w2.heap.size + 1, 0, none⟩))] 281)) w2.heap.size [] := ((MetMap.made w2).keeps (F := fun _ => False) ((Keeps.refl _ (w2.alloc (.map #[] 0))).alloc _) id).keeps (F := fun _ => False) ((Keeps.refl _ _).alloc _) id;have HMM := Lib.hid hmm
  have hmN : pileV.ownBlock ≠ some w2.heap.size := by
   intro e;have := hP.win.1.lt e;omega
  have HMN := Lib.hid hmN;have hmk : (Instr.makeMap 276 none).run Tryz.prog w2 = .ok (.map (some w2.heap.size)) (w2.alloc (.map #[] 0)) := by kernel_rfl
  have HFB := Lib.hid hfb;have HFBN := Lib.hid (hw0.ne hfb (by decide));have hvl : vals.length ≤ 1048576 := by rw [hP.len, HYP.out]; exact HPL.out
  have HKK := Lib.hid hkk;have HHP := Lib.hid hp;have HHL := Lib.hid hL;have HHM := Lib.hid hM;have HHPL := Lib.hid hP;have HKX := Lib.hid hkx;have hsub : ∀ k, Since F (w.alloc (.cells #[.int .i64 at_, .int .i64 1, .int .u8 123] 238)) w2 k → Since F w w2 k := fun k h => h.elim .inl (fun h => .inr ⟨Nat.le_trans (by simp) h.1, h.2⟩)
  have HSUB := Lib.hid hsub;obtain ⟨ta, tc, htv⟩ := hP.win.1.shape;clear hpl hk2 hkk hlt2 hp hb hL hM hP hw0 hfb hkx hsub b0 b2;subst htv
  go_wp2_with (at_builtin; refine append_win elemFrame rfl _ _ rfl rfl HWIN.out ⟨w2.heap.size + 2, 0, none⟩ 1 (.iface 275 (.pointer (some ⟨w2.heap.size + 1, 0, none⟩))) rfl ?_ rfl ?_ ?_ ?_)
  ·exact cell_new (by simp)
  ·omega
  ·unfold maxLen; omega
  intro g off cap w' hrow hgb0 hgr;have hb' := (hgr.block p (by simp; omega) (fun e => HNE.out e.symm)).trans ((HKX.out.block p hpl2 id).trans HB.out);have hf' := (hgr.block (w2.heap.size + 1) (by simp) (fun e => HFBN.out e.symm)).trans HFB.out;obtain ⟨e0, e1, e2, e3, e4, e5, e6, e7, e8, e9, ef⟩ := cells10 hb';have HB3 := Lib.hid hb';have HF3 := Lib.hid hf';have HROW := Lib.hid hrow;have HGB := Lib.hid hgb0;have HGR := Lib.hid hgr;have HK := Lib.hid ((HKX.out.mono (G := fun k => (Value.slice ta vals.length tc).ownBlock = some k) (fun _ h => h.elim)).grown hgr (fun k e => .inl e));clear hb' hf' hrow hgb0 hgr d0 d1 d2 d3 d4 d5 d6 d7 d8 d9 df;go_wp2_with fail
  go_end0
  have hks : Keeps (fun k => k = p) w' ((w'.setCell ⟨p, 4, none⟩ (.slice (some ⟨g, off, none⟩) (vals.length + 1) cap)).setCell ⟨p, 5, none⟩ (.int .i64 2)) := ((Keeps.refl (fun k => k = p) w').setCell (p := ⟨p, 4, none⟩) (.inl rfl) _).setCell (p := ⟨p, 5, none⟩) (.inl rfl) _;have hall : Keeps (fun k => k = p ∨ (Value.slice ta vals.length tc).ownBlock = some k) w2 ((w'.setCell ⟨p, 4, none⟩ (.slice (some ⟨g, off, none⟩) (vals.length + 1) cap)).setCell ⟨p, 5, none⟩ (.int .i64 2)) := (HK.out.mono (fun k h => .inr h)).same (hks.mono (fun k h => .inl h));have hown := HHPL.out.win.2;have hallF : Keeps F w ((w'.setCell ⟨p, 4, none⟩ (.slice (some ⟨g, off, none⟩) (vals.length + 1) cap)).setCell ⟨p, 5, none⟩ (.int .i64 2)) := HKK.out.andThen (hall.mono (fun k h => h.elim (fun e => e ▸ .inl HSF.out) (fun e => HSUB.out k (HHP.out.pile k (hown k e)))));have hbp := set_at (o := 5) (set_at (o := 4) HB3.out (.slice (some ⟨g, off, none⟩) (vals.length + 1) cap)) (.int .i64 2);obtain ⟨wf, hwf⟩ : ∃ wf, ((w'.setCell ⟨p, 4, none⟩ (.slice (some ⟨g, off, none⟩) (vals.length + 1) cap)).setCell ⟨p, 5, none⟩ (.int .i64 2)) = wf := ⟨_, rfl⟩;rw [hwf] at hks hall hallF hbp ⊢
  have hgp : g ≠ p := by
   intro e;rcases HGB.out with h | h
   ·exact HHP.out.self.2.2.2 (e ▸ hown g h)
   ·have h4 := h.1
    try simp at h4
    omega
  have hdisj : ∀ (Q : Nat → Prop), ¬ Q p → (∀ k, Q k → ¬ FP k) → ∀ k, Q k → ¬ (k = p ∨ (Value.slice ta vals.length tc).ownBlock = some k) := fun Q h1 h2 k hk h => h.elim (fun e => h1 (e ▸ hk)) (fun e => h2 k hk (hown k e))
  refine ⟨.inl rfl, hallF, rfl, since_lt HLT.out hallF.size, FL, FM, Since FP w2 wf, lb, mb, _, vals ++ [.iface 275 (.pointer (some ⟨w2.heap.size + 1, 0, none⟩))], ?_, hbp, HHL.out.apart hall (hdisj FL HHP.out.self.2.1 (fun k h => HHP.out.lp k h)), HHM.out.apart hall (hdisj FM HHP.out.self.2.2.1 (fun k h => HHP.out.mp k h)), ?_⟩
  ·have hps := HHP.out.pileSince (w := w2) (w' := wf) hpl2 HHL.out.lt HHM.out.2.1
   have hs2 : ∀ k, Since (Since F (w.alloc (.cells #[.int .i64 at_, .int .i64 1, .int .u8 123] 238)) w2) w2 wf k → Since F w wf k :=
    fun k h => Since.trans (w1 := w2) (h.elim (fun h => .inl (HSUB.out k h)) .inr) HKK.out.size hall.size
   exact ⟨fun k h => hs2 k (hps.lex k h), fun k h => hs2 k (hps.maker k h), fun k h => hs2 k (hps.pile k h), ⟨.inl HSF.out, hps.self.2⟩, hps.lm, hps.lp, hps.mp⟩
  ·have hmf : MetMap wf w2.heap.size [] := (HMM.out.keeps (F := fun k => (Value.slice ta vals.length tc).ownBlock = some k) ⟨HGR.out.os, HGR.out.tape, HGR.out.output, HGR.out.size, fun k hk hn => HGR.out.block k hk (fun e => hn e.symm)⟩ HMN.out).keeps hks (fun e => by omega);have hml : w2.heap.size < wf.heap.size := Nat.lt_of_lt_of_le (Nat.lt_of_lt_of_le (by simp; omega) HGR.out.size) hks.size
   have hgm : g ≠ w2.heap.size := by
    intro e;rcases HGB.out with h | h
    ·exact HMN.out (e ▸ h)
    ·have h4 := h.1
     try simp at h4
     omega
   refine HHPL.out.push hall (fun k hg hF => hg.elim (fun e => absurd (e ▸ hF) HHP.out.self.2.2.2) id) ?_ ?_ ⟨w2.heap.size + 1, w2.heap.size, .slice none 0 0, rfl, hks.blk HF3.out (fun e => by omega), ⟨Nat.le_succ _, Nat.lt_of_lt_of_le (lt_of_block HF3.out) hks.size, HROW.out.ne HF3.out (by decide)⟩, .nil _ _ _ _, fun _ => rfl, hmf, Nat.le_refl _, hml, fun e => hgm (by cases e; rfl)⟩
   ·have := HROW.out.keeps hks (fun k e hk => hgp (by cases e; exact hk))
    simpa using this
   ·intro k hk3;cases hk3;exact HGB.out.imp id (fun h => by have h4 := h.1; (try simp at h4); show w2.heap.size ≤ g; omega)
theorem pile_top {FP : Nat → Prop} {w : World} {pileV : Value} {ini : List Fr} {fr : Fr} {vals : List Value} (hP : PileAt FP w pileV (ini ++ [fr]) vals) :
 ∃ g off cap u, pileV = .slice (some ⟨g, off, none⟩) (ini.length + 1) cap ∧ w.cell? ⟨g, off + ini.length, none⟩ = some u ∧ FP g ∧ ini.length + 1 ≤ cap ∧ cap ≤ maxLen ∧ ∃ Q : Nat → Prop, (∀ k, Q k → FP k ∧ k ≠ g) ∧ FrameAt Q w u fr := by
 obtain ⟨Q, u, hQ, hu, hfr, _⟩ := hP.last;have hlen : vals.length = ini.length + 1 := by rw [hP.len]; simp
 rcases hP.win.1 with ⟨rfl, h0⟩ | ⟨g, off, cap, cur, rfl, hg, hc, ho, hm, hi⟩
 ·rw [h0] at hlen; simp at hlen
 ·refine ⟨g, off, cap, u, by rw [hlen], ?_, hP.win.2 g rfl, by omega, hm, Q, fun k hk => ⟨(hQ k hk).1, fun e => (hQ k hk).2 (by rw [e]; rfl)⟩, hfr⟩;rw [cell_at hg];exact hi _ u hu
theorem boxed {F : Nat → Prop} {w : World} {p : Nat} {x : Ps} {s : LS} {toks : List Tok} (h : ParAt F w p x s toks) (o : Obj) : ParAt F (w.alloc o) p x s toks := h.apart ((Keeps.refl (fun _ => False) w).alloc o) (fun _ _ => id)
theorem unboxed {F : Nat → Prop} {w : World} {o : Obj} {p : Nat} {s : LS} {toks : List Tok} {out : Out} {e : Ending} {w' : World} (hlt : ∀ k, F k → k < w.heap.size) (h : ParPost F (w.alloc o) p s toks out e w') : ParPost F w p s toks out e w' := by
 obtain ⟨hk, hp⟩ := h;have hkk : Keeps F w w' := ((Keeps.refl F w).alloc o).same hk;refine ⟨hkk, ?_⟩;cases out with
 | error er => obtain ⟨no, at_⟩ := er; exact hp
 | ok y => exact ⟨hp.1, hp.2.mono (fun k h => h.elim .inl (fun h => .inr ⟨Nat.le_trans (by simp) h.1, h.2⟩)) (since_lt hlt hkk.size)⟩
theorem ParAt.drew {F : Nat → Prop} {w : World} {p : Nat} {x : Ps} {s : LS} {toks : List Tok} (h : ParAt F w p x s toks) : ParAt F w.drew p x s toks := h.apart ((Keeps.refl (fun _ => False) w).drew) (fun _ _ => id)
theorem par_want {F : Nat → Prop} {w : World} {p : Nat} {x : Ps} {s : LS} {toks : List Tok} (h : ParAt F w p x s toks) (n : Nat) : Keeps F w (w.setCell ⟨p, 5, none⟩ (.int .i64 n)) ∧ ParAt (Since F w (w.setCell ⟨p, 5, none⟩ (.int .i64 n))) (w.setCell ⟨p, 5, none⟩ (.int .i64 n)) p { x with want := n } s toks := by
 obtain ⟨hlt, FL, FM, FP, lb, mb, pileV, vals, hp, hb, hL, hM, hP⟩ := h;exact par_self (y := { x with want := n }) hlt hp hL hM hP ((Keeps.refl (fun k => k = p) w).setCell (p := ⟨p, 5, none⟩) (.inl rfl) _) (set_at hb _) rfl rfl
theorem mark_colon (F : Nat → Prop) (w : World) (p : Nat) (x : Ps) (s : LS) (toks : List Tok) (at_ : Nat) (h : ParAt F w p x s toks) (hw : x.want = 4) :
 Calls Tryz.prog 112 #[.pointer (some ⟨p, 0, none⟩), .agg #[.int .i64 at_, .int .i64 1, .int .u8 58]] w fun e w' => Plainly e ∧ ParPost F w p s toks (.ok { x with want := 0 }) e w' := by
 have hlt := h.lt;have h1 := boxed h (.cells #[.int .i64 at_, .int .i64 1, .int .u8 58] 238);have hnew := heap_alloc_new w (.cells #[.int .i64 at_, .int .i64 1, .int .u8 58] 238);have b0 : (w.alloc (.cells #[.int .i64 at_, .int .i64 1, .int .u8 58] 238)).cell? ⟨w.heap.size, 0, none⟩ = some (.int .i64 at_) := cell_at hnew;have b2 : (w.alloc (.cells #[.int .i64 at_, .int .i64 1, .int .u8 58] 238)).cell? ⟨w.heap.size, 2, none⟩ = some (.int .u8 58) := cell_at hnew;have HLT := Lib.hid hlt;have H1 := Lib.hid h1;obtain ⟨W, hW⟩ : ∃ W, w.alloc (.cells #[.int .i64 at_, .int .i64 1, .int .u8 58] 238) = W := ⟨_, rfl⟩;have HW := Lib.hid hW;obtain ⟨_, FL, FM, FP, lb, mb, pileV, vals, hp, hb, hL, hM, hP⟩ := h1;rw [hW] at hb b0 b2 hP;have hc5 : W.cell? ⟨p, 5, none⟩ = some (.int .i64 4) := by rw [cell_at hb]; show some (Value.int .i64 x.want) = _; rw [hw]; rfl
 have hf5 : ∀ o, W.frozen? ⟨p, o, none⟩ = false := free_at hb;clear h hlt hnew hb hL hM hP hp hw;go_enter Tryz.func112, Tryz.ntmps112;go_wp2_with fail
 go_end0
 have hpw := par_want H1.out 0;rw [hW] at hpw;exact ⟨.inl rfl, unboxed (o := .cells #[.int .i64 at_, .int .i64 1, .int .u8 58] 238) HLT.out ⟨by rw [HW.out]; exact hpw.1, rfl, by rw [HW.out]; exact hpw.2⟩⟩
theorem mark_comma_list (F : Nat → Prop) (w : World) (p : Nat) (x : Ps) (s : LS) (toks : List Tok) (at_ : Nat) (h : ParAt F w p x s toks) (hw : x.want = 5) (ini : List Fr) (m : Nat) (hpile : x.pile = ini ++ [.list m]) (hil : ini.length ≤ 1048576) :
 Calls Tryz.prog 112 #[.pointer (some ⟨p, 0, none⟩), .agg #[.int .i64 at_, .int .i64 1, .int .u8 44]] w fun e w' => Plainly e ∧ ParPost F w p s toks (.ok { x with want := 0 }) e w' := by
 have hlt := h.lt;have h1 := boxed h (.cells #[.int .i64 at_, .int .i64 1, .int .u8 44] 238);have hnew := heap_alloc_new w (.cells #[.int .i64 at_, .int .i64 1, .int .u8 44] 238);have b0 : (w.alloc (.cells #[.int .i64 at_, .int .i64 1, .int .u8 44] 238)).cell? ⟨w.heap.size, 0, none⟩ = some (.int .i64 at_) := cell_at hnew;have b2 : (w.alloc (.cells #[.int .i64 at_, .int .i64 1, .int .u8 44] 238)).cell? ⟨w.heap.size, 2, none⟩ = some (.int .u8 44) := cell_at hnew;have HLT := Lib.hid hlt;have H1 := Lib.hid h1;obtain ⟨W, hW⟩ : ∃ W, w.alloc (.cells #[.int .i64 at_, .int .i64 1, .int .u8 44] 238) = W := ⟨_, rfl⟩;have HW := Lib.hid hW;obtain ⟨_, FL, FM, FP, lb, mb, pileV, vals, hp, hb, hL, hM, hP⟩ := h1;rw [hW] at hb b0 b2 hP;have hc5 : W.cell? ⟨p, 5, none⟩ = some (.int .i64 5) := by rw [cell_at hb]; show some (Value.int .i64 x.want) = _; rw [hw]; rfl
 have hf5 : ∀ o, W.frozen? ⟨p, o, none⟩ = false := free_at hb;have c4 : W.cell? ⟨p, 4, none⟩ = some pileV := by rw [cell_at hb]; rfl
 rw [hpile] at hP;obtain ⟨g, off, cap, u, rfl, hcu, hFg, hcap, hcm, Q, hQ, hfr⟩ := pile_top hP;obtain ⟨fb, rfl, hfb, hQb⟩ := hfr;have hta : ∀ w : World, (Instr.typeAssert (.iface 272 (.pointer (some ⟨fb, 0, none⟩))) 281 275 true).run Tryz.prog w = .ok (.tuple #[.pointer none, .bool false]) w := fun _ => by kernel_rfl
 have hgp : g ≠ p := fun e => hp.self.2.2.2 (e ▸ hFg)
 have hr1 : IntKind.i64.wrap ((ini.length : Int) + 1 - 1) = (ini.length : Int) := by rw [IntKind.wrap_i64]; omega
 obtain ⟨n, hn⟩ : ∃ n, ini.length = n := ⟨_, rfl⟩;rw [hn] at hil c4 hcu hr1 hcap;have hcu2 : (W.setCell ⟨p, 5, none⟩ (.int .i64 0)).cell? ⟨g, off + n, none⟩ = _ := ((Keeps.refl (fun k => k = p) W).setCell (p := ⟨p, 5, none⟩) (.inl rfl) (.int .i64 0)).cell hcu hgp;have c42 : (W.setCell ⟨p, 5, none⟩ (.int .i64 0)).cell? ⟨p, 4, none⟩ = some (.slice (some ⟨g, off, none⟩) (n + 1) cap) := by rw [cell_at (set_at hb _)]; show some (Value.slice _ _ _) = _; rw [hn]
 have c52 : (W.setCell ⟨p, 5, none⟩ (.int .i64 0)).cell? ⟨p, 5, none⟩ = some (.int .i64 0) := by rw [cell_at (set_at hb _)]; rfl
 have hf52 : ∀ o, (W.setCell ⟨p, 5, none⟩ (.int .i64 0)).frozen? ⟨p, o, none⟩ = false := free_at (set_at hb _);clear h hlt hnew hb hL hM hP hp hw hQ hpile hFg hcap hcm hfb hQb;go_enter Tryz.func112, Tryz.ntmps112;go_wp2_with fail;go_region;go_wp2_with fail
 go_end0
 rw [← hW];have h0 := par_want H1.out 0;exact ⟨.inl rfl, unboxed (o := .cells #[.int .i64 at_, .int .i64 1, .int .u8 44] 238) HLT.out ⟨h0.1.drew, rfl, h0.2.drew⟩⟩
theorem mark_comma_object (F : Nat → Prop) (w : World) (p : Nat) (x : Ps) (s : LS) (toks : List Tok) (at_ : Nat) (h : ParAt F w p x s toks) (hw : x.want = 5) (ini : List Fr) (ks : List (List UInt8)) (hpile : x.pile = ini ++ [.object ks]) (hil : ini.length ≤ 1048576) :
 Calls Tryz.prog 112 #[.pointer (some ⟨p, 0, none⟩), .agg #[.int .i64 at_, .int .i64 1, .int .u8 44]] w fun e w' => Plainly e ∧ ParPost F w p s toks (.ok { x with want := 3 }) e w' := by
 have hlt := h.lt;have h1 := boxed h (.cells #[.int .i64 at_, .int .i64 1, .int .u8 44] 238);have hnew := heap_alloc_new w (.cells #[.int .i64 at_, .int .i64 1, .int .u8 44] 238);have b0 : (w.alloc (.cells #[.int .i64 at_, .int .i64 1, .int .u8 44] 238)).cell? ⟨w.heap.size, 0, none⟩ = some (.int .i64 at_) := cell_at hnew;have b2 : (w.alloc (.cells #[.int .i64 at_, .int .i64 1, .int .u8 44] 238)).cell? ⟨w.heap.size, 2, none⟩ = some (.int .u8 44) := cell_at hnew;have HLT := Lib.hid hlt;have H1 := Lib.hid h1;obtain ⟨W, hW⟩ : ∃ W, w.alloc (.cells #[.int .i64 at_, .int .i64 1, .int .u8 44] 238) = W := ⟨_, rfl⟩;have HW := Lib.hid hW;obtain ⟨_, FL, FM, FP, lb, mb, pileV, vals, hp, hb, hL, hM, hP⟩ := h1;rw [hW] at hb b0 b2 hP;have hc5 : W.cell? ⟨p, 5, none⟩ = some (.int .i64 5) := by rw [cell_at hb]; show some (Value.int .i64 x.want) = _; rw [hw]; rfl
 have hf5 : ∀ o, W.frozen? ⟨p, o, none⟩ = false := free_at hb;have c4 : W.cell? ⟨p, 4, none⟩ = some pileV := by rw [cell_at hb]; rfl
 rw [hpile] at hP;obtain ⟨g, off, cap, u, rfl, hcu, hFg, hcap, hcm, Q, hQ, hfr⟩ := pile_top hP;obtain ⟨fb, mp, kV, rfl, hfb, hQb, hrest⟩ := hfr;have hta : ∀ w : World, (Instr.typeAssert (.iface 275 (.pointer (some ⟨fb, 0, none⟩))) 281 275 true).run Tryz.prog w = .ok (.tuple #[.pointer (some ⟨fb, 0, none⟩), .bool true]) w := fun _ => by kernel_rfl
 have hgp : g ≠ p := fun e => hp.self.2.2.2 (e ▸ hFg)
 have hr1 : IntKind.i64.wrap ((ini.length : Int) + 1 - 1) = (ini.length : Int) := by rw [IntKind.wrap_i64]; omega
 obtain ⟨n, hn⟩ : ∃ n, ini.length = n := ⟨_, rfl⟩;rw [hn] at hil c4 hcu hr1 hcap;have hcu2 : (W.setCell ⟨p, 5, none⟩ (.int .i64 0)).cell? ⟨g, off + n, none⟩ = _ := ((Keeps.refl (fun k => k = p) W).setCell (p := ⟨p, 5, none⟩) (.inl rfl) (.int .i64 0)).cell hcu hgp;have c42 : (W.setCell ⟨p, 5, none⟩ (.int .i64 0)).cell? ⟨p, 4, none⟩ = some (.slice (some ⟨g, off, none⟩) (n + 1) cap) := by rw [cell_at (set_at hb _)]; show some (Value.slice _ _ _) = _; rw [hn]
 have c52 : (W.setCell ⟨p, 5, none⟩ (.int .i64 0)).cell? ⟨p, 5, none⟩ = some (.int .i64 0) := by rw [cell_at (set_at hb _)]; rfl
 have hf52 : ∀ o, (W.setCell ⟨p, 5, none⟩ (.int .i64 0)).frozen? ⟨p, o, none⟩ = false := free_at (set_at hb _);clear h hlt hnew hb hL hM hP hp hw hQ hpile hFg hcap hcm hfb hQb;go_enter Tryz.func112, Tryz.ntmps112;go_wp2_with fail;go_region;go_wp2_with fail
 go_end0
 rw [← hW];have h0 := par_want H1.out 0;have h3 := par_want h0.2.drew 3;exact ⟨.inl rfl, unboxed (o := .cells #[.int .i64 at_, .int .i64 1, .int .u8 44] 238) HLT.out ⟨h0.1.drew.andThen h3.1, rfl, h3.2.mono_since h0.1.size h3.1.size (fun k h => Nat.lt_of_lt_of_le (HLT.out k h) (by simp))⟩⟩
theorem below_drewN (w : World) (n : Nat) : Below w.heap.size w (w.drewN n) := ⟨rfl, rfl, rfl, Nat.le_refl _, fun _ _ => rfl⟩
theorem sign_list (w : World) (fb : Nat) : Calls Tryz.prog 358 #[.pointer (some ⟨fb, 0, none⟩)] w fun e w' => e = .returned (.int .u8 93) ∧ w' = w := by
 go_enter Tryz.func358, Tryz.ntmps358;go_wp2;go_ret;exact ⟨rfl, rfl⟩
theorem sign_object (w : World) (fb : Nat) : Calls Tryz.prog 359 #[.pointer (some ⟨fb, 0, none⟩)] w fun e w' => e = .returned (.int .u8 125) ∧ w' = w := by
 go_enter Tryz.func359, Tryz.ntmps359;go_wp2;go_ret;exact ⟨rfl, rfl⟩
theorem ends_none (w : World) (p c want : Nat) (a : Option Addr) (sg : UInt8) (v0 v1 v2 v3 v6 v7 v8 v9 : Value) (h : w.heap[p]? = some (.cells #[v0, v1, v2, v3, .slice a 0 c, .int .i64 want, v6, v7, v8, v9] 136 (0, 0))) :
 Calls Tryz.prog 147 #[.pointer (some ⟨p, 0, none⟩), .int .u8 ((sg.toNat : Nat) : Int)] w fun e w' => e = .returned (.bool false) ∧ Below w.heap.size w w' := by
 obtain ⟨c0, c1, c2, c3, c4, c5, c6, c7, c8, c9, cf⟩ := cells10 h;clear h;go_enter Tryz.func147, Tryz.ntmps147;go_wp2_with fail;go_region;go_wp2_with fail;go_ret;exact ⟨rfl, (Below.refl _ _).drew⟩
theorem ends_list (w : World) (p g off n cap fb want : Nat) (sg : UInt8) (v0 v1 v2 v3 v6 v7 v8 v9 : Value) (h : w.heap[p]? = some (.cells #[v0, v1, v2, v3, .slice (some ⟨g, off, none⟩) (n + 1) cap, .int .i64 want, v6, v7, v8, v9] 136 (0, 0)))
 (hg : w.cell? ⟨g, off + n, none⟩ = some (.iface 272 (.pointer (some ⟨fb, 0, none⟩)))) (hn : n ≤ 1048576) :
 Calls Tryz.prog 147 #[.pointer (some ⟨p, 0, none⟩), .int .u8 ((sg.toNat : Nat) : Int)] w fun e w' => e = .returned (.bool (decide ((93 : UInt8) = sg) && (decide (want = 5) || decide (want = 1) || decide (want = 2)))) ∧ Below w.heap.size w w' := by
 have hm : ∀ w : World, (method 565 272 (.pointer (some ⟨fb, 0, none⟩)) "affidavit/parse.sign").run Tryz.prog w = .ok (358, .pointer (some ⟨fb, 0, none⟩)) w := fun _ => by kernel_rfl
 obtain ⟨c0, c1, c2, c3, c4, c5, c6, c7, c8, c9, cf⟩ := cells10 h;have hr1 : IntKind.i64.wrap ((n : Int) + 1 - 1) = (n : Int) := by rw [IntKind.wrap_i64]; omega
 have e0 : ((n : Int) + 1 == 0) = false := by simp; omega
 have hx0 : (0 : Int) ≤ (n : Int) := by omega
 have hx1 : (n : Int) < (n : Int) + 1 := by omega
 have HS := Lib.hid (fun w => sign_list w fb);clear h
 have hcase : ((93 : UInt8) ≠ sg ∧ ((93 : Int) != ((sg.toNat : Nat) : Int)) = true ∧ ¬ ((93 : Int) = ((sg.toNat : Nat) : Int))) ∨ sg = 93 := by
  by_cases e : sg = 93
  ·exact .inr e
  ·refine .inl ⟨fun h => e h.symm, ?_, ?_⟩
   ·have : sg.toNat ≠ 93 := fun h => e (by rw [← UInt8.toNat_inj]; exact h)
    simp; omega
   ·have : sg.toNat ≠ 93 := fun h => e (by rw [← UInt8.toNat_inj]; exact h)
    omega
 rcases hcase with ⟨hne, n1, n2⟩ | rfl
 ·have hd : (decide ((93 : UInt8) = sg) && (decide (want = 5) || decide (want = 1) || decide (want = 2))) = false := by rw [decide_eq_false hne]; rfl
  rw [hd];clear hne hd;go_enter Tryz.func147, Tryz.ntmps147;go_wp2_with fail
  go_quiet (first | (go_at_call 358; refine Calls.quiet_of_same (HS.out _)))
  go_wp2_with fail;go_ret;exact ⟨rfl, below_drewN _ _⟩
 ·have hk : ((((93 : UInt8)).toNat : Nat) : Int) = 93 := rfl;rw [hk]
  have hwant : want = 5 ∨ want = 1 ∨ want = 2 ∨ (decide (want = 5) || decide (want = 1) || decide (want = 2)) = false ∧ ((want : Int) == 5) = false ∧ ((want : Int) == 1) = false ∧ ((want : Int) == 2) = false := by
   by_cases e5 : want = 5
   ·exact .inl e5
   by_cases e1 : want = 1
   ·exact .inr (.inl e1)
   by_cases e2 : want = 2
   ·exact .inr (.inr (.inl e2))
   exact .inr (.inr (.inr ⟨by simp [e5, e1, e2], by simp; omega, by simp; omega, by simp; omega⟩))
  have hone : decide ((93 : UInt8) = 93) = true := rfl;rw [hone, Bool.true_and];rcases hwant with rfl | rfl | rfl | ⟨hd, e5, e1, e2⟩
  rotate_left 3
  ·rw [hd];clear hd hone hk;go_enter Tryz.func147, Tryz.ntmps147;go_wp2_with fail
   go_quiet (first | (go_at_call 358; refine Calls.quiet_of_same (HS.out _)))
   go_wp2_with fail;go_ret;exact ⟨rfl, below_drewN _ _⟩
  all_goals
   clear hone hk;go_enter Tryz.func147, Tryz.ntmps147;go_wp2_with fail
   go_quiet (first | (go_at_call 358; refine Calls.quiet_of_same (HS.out _)))
   go_wp2_with fail;go_ret;exact ⟨rfl, below_drewN _ _⟩
theorem ends_object (w : World) (p g off n cap fb want : Nat) (sg : UInt8) (v0 v1 v2 v3 v6 v7 v8 v9 : Value) (h : w.heap[p]? = some (.cells #[v0, v1, v2, v3, .slice (some ⟨g, off, none⟩) (n + 1) cap, .int .i64 want, v6, v7, v8, v9] 136 (0, 0)))
 (hg : w.cell? ⟨g, off + n, none⟩ = some (.iface 275 (.pointer (some ⟨fb, 0, none⟩)))) (hn : n ≤ 1048576) :
 Calls Tryz.prog 147 #[.pointer (some ⟨p, 0, none⟩), .int .u8 ((sg.toNat : Nat) : Int)] w fun e w' => e = .returned (.bool (decide ((125 : UInt8) = sg) && (decide (want = 5) || decide (want = 1) || decide (want = 2)))) ∧ Below w.heap.size w w' := by
 have hm : ∀ w : World, (method 565 275 (.pointer (some ⟨fb, 0, none⟩)) "affidavit/parse.sign").run Tryz.prog w = .ok (359, .pointer (some ⟨fb, 0, none⟩)) w := fun _ => by kernel_rfl
 obtain ⟨c0, c1, c2, c3, c4, c5, c6, c7, c8, c9, cf⟩ := cells10 h;have hr1 : IntKind.i64.wrap ((n : Int) + 1 - 1) = (n : Int) := by rw [IntKind.wrap_i64]; omega
 have e0 : ((n : Int) + 1 == 0) = false := by simp; omega
 have hx0 : (0 : Int) ≤ (n : Int) := by omega
 have hx1 : (n : Int) < (n : Int) + 1 := by omega
 have HS := Lib.hid (fun w => sign_object w fb);clear h
 have hcase : ((125 : UInt8) ≠ sg ∧ ((125 : Int) != ((sg.toNat : Nat) : Int)) = true ∧ ¬ ((125 : Int) = ((sg.toNat : Nat) : Int))) ∨ sg = 125 := by
  by_cases e : sg = 125
  ·exact .inr e
  ·refine .inl ⟨fun h => e h.symm, ?_, ?_⟩
   ·have : sg.toNat ≠ 125 := fun h => e (by rw [← UInt8.toNat_inj]; exact h)
    simp; omega
   ·have : sg.toNat ≠ 125 := fun h => e (by rw [← UInt8.toNat_inj]; exact h)
    omega
 rcases hcase with ⟨hne, n1, n2⟩ | rfl
 ·have hd : (decide ((125 : UInt8) = sg) && (decide (want = 5) || decide (want = 1) || decide (want = 2))) = false := by rw [decide_eq_false hne]; rfl
  rw [hd];clear hne hd;go_enter Tryz.func147, Tryz.ntmps147;go_wp2_with fail
  go_quiet (first | (go_at_call 359; refine Calls.quiet_of_same (HS.out _)))
  go_wp2_with fail;go_ret;exact ⟨rfl, below_drewN _ _⟩
 ·have hk : ((((125 : UInt8)).toNat : Nat) : Int) = 125 := rfl;rw [hk]
  have hwant : want = 5 ∨ want = 1 ∨ want = 2 ∨ (decide (want = 5) || decide (want = 1) || decide (want = 2)) = false ∧ ((want : Int) == 5) = false ∧ ((want : Int) == 1) = false ∧ ((want : Int) == 2) = false := by
   by_cases e5 : want = 5
   ·exact .inl e5
   by_cases e1 : want = 1
   ·exact .inr (.inl e1)
   by_cases e2 : want = 2
   ·exact .inr (.inr (.inl e2))
   exact .inr (.inr (.inr ⟨by simp [e5, e1, e2], by simp; omega, by simp; omega, by simp; omega⟩))
  have hone : decide ((125 : UInt8) = 125) = true := rfl;rw [hone, Bool.true_and];rcases hwant with rfl | rfl | rfl | ⟨hd, e5, e1, e2⟩
  rotate_left 3
  ·rw [hd];clear hd hone hk;go_enter Tryz.func147, Tryz.ntmps147;go_wp2_with fail
   go_quiet (first | (go_at_call 359; refine Calls.quiet_of_same (HS.out _)))
   go_wp2_with fail;go_ret;exact ⟨rfl, below_drewN _ _⟩
  all_goals
   clear hone hk;go_enter Tryz.func147, Tryz.ntmps147;go_wp2_with fail
   go_quiet (first | (go_at_call 359; refine Calls.quiet_of_same (HS.out _)))
   go_wp2_with fail;go_ret;exact ⟨rfl, below_drewN _ _⟩
theorem ends_par (F : Nat → Prop) (w : World) (p : Nat) (x : Ps) (s : LS) (toks : List Tok) (sg : UInt8) (h : ParAt F w p x s toks) (hl : x.pile.length ≤ 1048576) :
 Calls Tryz.prog 147 #[.pointer (some ⟨p, 0, none⟩), .int .u8 ((sg.toNat : Nat) : Int)] w fun e w' => e = .returned (.bool (x.ends sg)) ∧ Below w.heap.size w w' := by
 obtain ⟨hlt, FL, FM, FP, lb, mb, pileV, vals, hp, hb, hL, hM, hP⟩ := h;rcases getLast_cases x.pile with hnil | ⟨ini, fr, hpile⟩
 ·obtain ⟨a, cap, rfl⟩ := pile_shape hP;unfold parCells at hb;rw [hnil, List.length_nil] at hb;have he : x.ends sg = false := by unfold Ps.ends; rw [hnil]; rfl
  rw [he];exact ends_none w p cap x.want a sg _ _ _ _ _ _ _ _ hb
 ·rw [hpile] at hP;obtain ⟨g, off, cap, u, rfl, hcu, hFg, hcap, hcm, Q, hQ, hfr⟩ := pile_top hP;have hil : ini.length ≤ 1048576 := by rw [hpile] at hl; simp at hl; omega
  cases fr with
  | list m =>
   obtain ⟨fb, rfl, hfb, hQb⟩ := hfr
   have he : x.ends sg = (decide ((93 : UInt8) = sg) && (decide (x.want = 5) || decide (x.want = 1) || decide (x.want = 2))) := by
    have hgl : x.pile.getLast? = some (.list m) := by rw [hpile]; simp
    unfold Ps.ends;rw [hgl];rfl
   rw [he];exact ends_list w p g off ini.length cap fb x.want sg _ _ _ _ _ _ _ _ hb hcu hil
  | object k =>
   obtain ⟨fb, mp, kV, rfl, hfb, hQb, hrest⟩ := hfr
   have he : x.ends sg = (decide ((125 : UInt8) = sg) && (decide (x.want = 5) || decide (x.want = 1) || decide (x.want = 2))) := by
    have hgl : x.pile.getLast? = some (.object k) := by rw [hpile]; simp
    unfold Ps.ends;rw [hgl];rfl
   rw [he];exact ends_object w p g off ini.length cap fb x.want sg _ _ _ _ _ _ _ _ hb hcu hil
end Go.Proofs.YtakkmiomhackiaaGreatDoor
