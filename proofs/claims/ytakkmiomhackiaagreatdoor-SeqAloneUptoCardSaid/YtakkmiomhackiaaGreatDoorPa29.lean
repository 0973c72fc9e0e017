/-
  The program, one part of its walk: Pa6o, Pm1, Pm1e, Pm1f, Pm2. Conditions: none.
-/
import Derived.Test.YtakkmiomhackiaaGreatDoorPa28
import Derived.Test.YtakkmiomhackiaaGreatDoorPa26
import Derived.Deep.QuietTactic
import Derived.BigQuiet
import Derived.Test.YtakkmiomhackiaaGreatDoorPa00
set_option linter.all false
set_option maxRecDepth 100000
set_option maxHeartbeats 16000000
open Go.Proofs.Tryz
namespace Go.Proofs.YtakkmiomhackiaaGreatDoor
open Go.RowKit
theorem mark_openO (F : Nat → Prop) (w : World) (p : Nat) (x : Ps) (s : LS) (toks : List Tok) (at_ : Nat) (h : ParAt F w p x s toks) (hno : x.nodes ≤ 65536) (hpl : x.pile.length ≤ 1048576) :
 Calls prog 112 #[.pointer (some ⟨p, 0, none⟩), .agg #[.int .i64 at_, .int .i64 1, .int .u8 123]] w fun e w' => Plainly e ∧ ParPost F w p s toks ((x.value at_).map fun p => { p with pile := p.pile ++ [.object []], want := 2 }) e w' := by
 have hal : Keeps (fun _ => False) w (w.alloc (.cells #[.int .i64 at_, .int .i64 1, .int .u8 123] 238)) := (Keeps.refl _ w).alloc _;have hlt := h.lt;have hself := h.self;have h1 := h.apart hal (fun _ _ => id);have HV := hZ (value_par F _ p x s toks at_ h1 hno);have HKA := hZ hal;have HLT := hZ hlt;have hnew := heap_alloc_new w (.cells #[.int .i64 at_, .int .i64 1, .int .u8 123] 238);have b0 : (w.alloc (.cells #[.int .i64 at_, .int .i64 1, .int .u8 123] 238)).cell? ⟨w.heap.size, 0, none⟩ = some (.int .i64 at_) := cell_at hnew;have b2 : (w.alloc (.cells #[.int .i64 at_, .int .i64 1, .int .u8 123] 238)).cell? ⟨w.heap.size, 2, none⟩ = some (.int .u8 123) := cell_at hnew;have HSF := hZ hself;cases hvo : x.value at_ with
 | error er =>
  obtain ⟨no, a2⟩ := er;rw [hvo] at HV;clear hal h h1 hlt hnew hself hvo hno hpl;go_enter func112, ntmps112;go_wp2_with fail;refine (HV.out).mono ?_;rintro e w2 ⟨hpl, hk2, he, hdead⟩;have HK := hZ ((HKA.out.mono (G := F) (fun _ h => h.elim)).same hk2);have HD := hZ hdead;clear hpl hk2 hdead;have HE := hZ he;unfold failE at he;subst he;go_wp2_with fail;exact ⟨rfl, .inr ⟨_, _, rfl⟩, HK.out, rfl, HD.out⟩
 | ok y =>
  have hyp : y.pile = x.pile := by
   unfold Ps.value at hvo;split at hvo
   ·cases hvo
   ·split at hvo
    ·cases hvo
    ·split at hvo
     ·cases hvo
     ·cases hvo; rfl
  rw [hvo] at HV;have HYP := hZ hyp;have HPL := hZ hpl;clear hal h h1 hlt hnew hself hvo hno hyp hpl;go_enter func112, ntmps112;go_wp2_with fail;refine (HV.out).mono ?_;rintro e w2 ⟨hpl, hk2, he, hpar⟩;subst he;have hkk : Keeps F w w2 := (HKA.out.mono (G := F) (fun _ h => h.elim)).same hk2;obtain ⟨hlt2, FL, FM, FP, lb, mb, pileV, vals, hp, hb, hL, hM, hP⟩ := hpar;obtain ⟨d0, d1, d2, d3, d4, d5, d6, d7, d8, d9, df⟩ := cells10 hb;have hkx : Keeps (fun _ => False) w2 (((w2.alloc (.map #[] 0)).alloc (.cells #[.slice none 0 0, .map (some w2.heap.size)] 278)).alloc (.cells #[.iface 275 (.pointer (some ⟨w2.heap.size + 1, 0, none⟩))] 281)) := (((Keeps.refl _ w2).alloc _).alloc _).alloc _;have hw0 := hP.win.1.keeps hkx (fun _ _ => id);have HWIN := hZ hw0;have HB := hZ hb;have HNE := hZ (hP.win.1.ne hb (by decide));have hpl2 : p < w2.heap.size := lt_of_block hb
  have hfb : (((w2.alloc (.map #[] 0)).alloc (.cells #[.slice none 0 0, .map (some w2.heap.size)] 278)).alloc (.cells #[.iface 275 (.pointer (some ⟨w2.heap.size + 1, 0, none⟩))] 281)).heap[w2.heap.size + 1]? = some (.cells #[.slice none 0 0, .map (some w2.heap.size)] 278 (0, 0)) := by
   refine (Below.heap_alloc _ _ _ (by simp)).trans ?_;have := heap_alloc_new (w2.alloc (.map #[] 0)) (.cells #[.slice none 0 0, .map (some w2.heap.size)] 278)
   rwa [World.size_alloc] at this
  have hmm : MetMap (((w2.alloc (.map #[] 0)).alloc (.cells #[.slice none 0 0, .map (some w2.heap.size)] 278)).alloc (.cells #[.iface 275 (.pointer (some ⟨w2.heap.size + 1, 0, none⟩))] 281)) w2.heap.size [] := ((MetMap.made w2).keeps (F := fun _ => False) ((Keeps.refl _ (w2.alloc (.map #[] 0))).alloc _) id).keeps (F := fun _ => False) ((Keeps.refl _ _).alloc _) id;have HMM := hZ hmm
  have hmN : pileV.ownBlock ≠ some w2.heap.size := by
   intro e;have := hP.win.1.lt e;omega
  have HMN := hZ hmN;have hmk : (Instr.makeMap 276 none).run prog w2 = .ok (.map (some w2.heap.size)) (w2.alloc (.map #[] 0)) := by kernel_rfl
  have HFB := hZ hfb;have HFBN := hZ (hw0.ne hfb (by decide));have hvl : vals.length ≤ 1048576 := by rw [hP.len, HYP.out]; exact HPL.out
  have HKK := hZ hkk;have HHP := hZ hp;have HHL := hZ hL;have HHM := hZ hM;have HHPL := hZ hP;have HKX := hZ hkx;have hsub : ∀ k, Since F (w.alloc (.cells #[.int .i64 at_, .int .i64 1, .int .u8 123] 238)) w2 k → Since F w w2 k := fun k h => h.elim .inl (fun h => .inr ⟨Nat.le_trans (by simp) h.1, h.2⟩)
  have HSUB := hZ hsub;obtain ⟨ta, tc, htv⟩ := hP.win.1.shape;clear hpl hk2 hkk hlt2 hp hb hL hM hP hw0 hfb hkx hsub b0 b2;subst htv
  go_wp2_with (at_builtin; refine append_win elemFrame rfl _ _ rfl rfl HWIN.out ⟨w2.heap.size + 2, 0, none⟩ 1 (.iface 275 (.pointer (some ⟨w2.heap.size + 1, 0, none⟩))) rfl ?_ rfl ?_ ?_ ?_)
  ·exact cell_new (by simp)
  ·omega
  ·unfold maxLen; omega
  intro g off cap w' hrow hgb0 hgr;have hb' := (hgr.block p (by simp; omega) (fun e => HNE.out e.symm)).trans ((HKX.out.block p hpl2 id).trans HB.out);have hf' := (hgr.block (w2.heap.size + 1) (by simp) (fun e => HFBN.out e.symm)).trans HFB.out;obtain ⟨e0, e1, e2, e3, e4, e5, e6, e7, e8, e9, ef⟩ := cells10 hb';have HB3 := hZ hb';have HF3 := hZ hf';have HROW := hZ hrow;have HGB := hZ hgb0;have HGR := hZ hgr;have HK := hZ ((HKX.out.mono (G := fun k => (Value.slice ta vals.length tc).ownBlock = some k) (fun _ h => h.elim)).grown hgr (fun k e => .inl e));clear hb' hf' hrow hgb0 hgr d0 d1 d2 d3 d4 d5 d6 d7 d8 d9 df;go_wp2_with fail
  go_end0
  have hks : Keeps (fun k => k = p) w' ((w'.setCell ⟨p, 4, none⟩ (.slice (some ⟨g, off, none⟩) (vals.length + 1) cap)).setCell ⟨p, 5, none⟩ (.int .i64 2)) := ((Keeps.refl (fun k => k = p) w').setCell (p := ⟨p, 4, none⟩) (.inl rfl) _).setCell (p := ⟨p, 5, none⟩) (.inl rfl) _;have hall : Keeps (fun k => k = p ∨ (Value.slice ta vals.length tc).ownBlock = some k) w2 ((w'.setCell ⟨p, 4, none⟩ (.slice (some ⟨g, off, none⟩) (vals.length + 1) cap)).setCell ⟨p, 5, none⟩ (.int .i64 2)) := (HK.out.mono (fun k h => .inr h)).same (hks.mono (fun k h => .inl h));have hown := HHPL.out.win.2;have hallF : Keeps F w ((w'.setCell ⟨p, 4, none⟩ (.slice (some ⟨g, off, none⟩) (vals.length + 1) cap)).setCell ⟨p, 5, none⟩ (.int .i64 2)) := HKK.out.andThen (hall.mono (fun k h => h.elim (fun e => e ▸ .inl HSF.out) (fun e => HSUB.out k (HHP.out.pile k (hown k e)))));have hbp := set_at (o := 5) (set_at (o := 4) HB3.out (.slice (some ⟨g, off, none⟩) (vals.length + 1) cap)) (.int .i64 2);obtain ⟨wf, hwf⟩ : ∃ wf, ((w'.setCell ⟨p, 4, none⟩ (.slice (some ⟨g, off, none⟩) (vals.length + 1) cap)).setCell ⟨p, 5, none⟩ (.int .i64 2)) = wf := ⟨_, rfl⟩;rw [hwf] at hks hall hallF hbp ⊢
  have hgp : g ≠ p := by
   intro e;rcases HGB.out with h | h
   ·exact HHP.out.self.2.2.2 (e ▸ hown g h)
   ·have h4 := h.1
    try simp at h4
    omega
  have hdisj : ∀ (Q : Nat → Prop), ¬ Q p → (∀ k, Q k → ¬ FP k) → ∀ k, Q k → ¬ (k = p ∨ (Value.slice ta vals.length tc).ownBlock = some k) := fun Q h1 h2 k hk h => h.elim (fun e => h1 (e ▸ hk)) (fun e => h2 k hk (hown k e))
  refine ⟨.inl rfl, hallF, rfl, since_lt HLT.out hallF.size, FL, FM, Since FP w2 wf, lb, mb, _, vals ++ [.iface 275 (.pointer (some ⟨w2.heap.size + 1, 0, none⟩))], ?_, hbp, HHL.out.apart hall (hdisj FL HHP.out.self.2.1 (fun k h => HHP.out.lp k h)), HHM.out.apart hall (hdisj FM HHP.out.self.2.2.1 (fun k h => HHP.out.mp k h)), ?_⟩
  ·have hps := HHP.out.pileSince (w := w2) (w' := wf) hpl2 HHL.out.lt HHM.out.2.1
   have hs2 : ∀ k, Since (Since F (w.alloc (.cells #[.int .i64 at_, .int .i64 1, .int .u8 123] 238)) w2) w2 wf k → Since F w wf k :=
    fun k h => Since.trans (w1 := w2) (h.elim (fun h => .inl (HSUB.out k h)) .inr) HKK.out.size hall.size
   exact ⟨fun k h => hs2 k (hps.lex k h), fun k h => hs2 k (hps.maker k h), fun k h => hs2 k (hps.pile k h), ⟨.inl HSF.out, hps.self.2⟩, hps.lm, hps.lp, hps.mp⟩
  ·have hmf : MetMap wf w2.heap.size [] := (HMM.out.keeps (F := fun k => (Value.slice ta vals.length tc).ownBlock = some k) ⟨HGR.out.os, HGR.out.tape, HGR.out.output, HGR.out.size, fun k hk hn => HGR.out.block k hk (fun e => hn e.symm)⟩ HMN.out).keeps hks (fun e => by omega);have hml : w2.heap.size < wf.heap.size := Nat.lt_of_lt_of_le (Nat.lt_of_lt_of_le (by simp; omega) HGR.out.size) hks.size
   have hgm : g ≠ w2.heap.size := by
    intro e;rcases HGB.out with h | h
    ·exact HMN.out (e ▸ h)
    ·have h4 := h.1
     try simp at h4
     omega
   refine HHPL.out.push hall (fun k hg hF => hg.elim (fun e => absurd (e ▸ hF) HHP.out.self.2.2.2) id) ?_ ?_ ⟨w2.heap.size + 1, w2.heap.size, .slice none 0 0, rfl, hks.blk HF3.out (fun e => by omega), ⟨Nat.le_succ _, Nat.lt_of_lt_of_le (lt_of_block HF3.out) hks.size, HROW.out.ne HF3.out (by decide)⟩, .nil _ _ _ _, fun _ => rfl, hmf, Nat.le_refl _, hml, fun e => hgm (by cases e; rfl)⟩
   ·have := HROW.out.keeps hks (fun k e hk => hgp (by cases e; exact hk))
    simpa using this
   ·intro k hk3;cases hk3;exact HGB.out.imp id (fun h => by have h4 := h.1; (try simp at h4); show w2.heap.size ≤ g; omega)
theorem pile_top {FP : Nat → Prop} {w : World} {pileV : Value} {ini : List Fr} {fr : Fr} {vals : List Value} (hP : PileAt FP w pileV (ini ++ [fr]) vals) :
 ∃ g off cap u, pileV = .slice (some ⟨g, off, none⟩) (ini.length + 1) cap ∧ w.cell? ⟨g, off + ini.length, none⟩ = some u ∧ FP g ∧ ini.length + 1 ≤ cap ∧ cap ≤ maxLen ∧ ∃ Q : Nat → Prop, (∀ k, Q k → FP k ∧ k ≠ g) ∧ FrameAt Q w u fr := by
 obtain ⟨Q, u, hQ, hu, hfr, _⟩ := hP.last;have hlen : vals.length = ini.length + 1 := by rw [hP.len]; simp
 rcases hP.win.1 with ⟨rfl, h0⟩ | ⟨g, off, cap, cur, rfl, hg, hc, ho, hm, hi⟩
 ·rw [h0] at hlen; simp at hlen
 ·refine ⟨g, off, cap, u, by rw [hlen], ?_, hP.win.2 g rfl, by omega, hm, Q, fun k hk => ⟨(hQ k hk).1, fun e => (hQ k hk).2 (by rw [e]; rfl)⟩, hfr⟩;rw [cell_at hg];exact hi _ u hu
theorem boxed {F : Nat → Prop} {w : World} {p : Nat} {x : Ps} {s : LS} {toks : List Tok} (h : ParAt F w p x s toks) (o : Obj) : ParAt F (w.alloc o) p x s toks := h.apart ((Keeps.refl (fun _ => False) w).alloc o) (fun _ _ => id)
theorem unboxed {F : Nat → Prop} {w : World} {o : Obj} {p : Nat} {s : LS} {toks : List Tok} {out : Out} {e : Ending} {w' : World} (hlt : ∀ k, F k → k < w.heap.size) (h : ParPost F (w.alloc o) p s toks out e w') : ParPost F w p s toks out e w' := by
 obtain ⟨hk, hp⟩ := h;have hkk : Keeps F w w' := ((Keeps.refl F w).alloc o).same hk;refine ⟨hkk, ?_⟩;cases out with
 | error er => obtain ⟨no, at_⟩ := er; exact hp
 | ok y => exact ⟨hp.1, hp.2.mono (fun k h => h.elim .inl (fun h => .inr ⟨Nat.le_trans (by simp) h.1, h.2⟩)) (since_lt hlt hkk.size)⟩
theorem ParAt.drew {F : Nat → Prop} {w : World} {p : Nat} {x : Ps} {s : LS} {toks : List Tok} (h : ParAt F w p x s toks) : ParAt F w.drew p x s toks := h.apart ((Keeps.refl (fun _ => False) w).drew) (fun _ _ => id)
theorem par_want {F : Nat → Prop} {w : World} {p : Nat} {x : Ps} {s : LS} {toks : List Tok} (h : ParAt F w p x s toks) (n : Nat) : Keeps F w (w.setCell ⟨p, 5, none⟩ (.int .i64 n)) ∧ ParAt (Since F w (w.setCell ⟨p, 5, none⟩ (.int .i64 n))) (w.setCell ⟨p, 5, none⟩ (.int .i64 n)) p { x with want := n } s toks := by
 obtain ⟨hlt, FL, FM, FP, lb, mb, pileV, vals, hp, hb, hL, hM, hP⟩ := h;exact par_self (y := { x with want := n }) hlt hp hL hM hP ((Keeps.refl (fun k => k = p) w).setCell (p := ⟨p, 5, none⟩) (.inl rfl) _) (set_at hb _) rfl rfl
theorem mark_colon (F : Nat → Prop) (w : World) (p : Nat) (x : Ps) (s : LS) (toks : List Tok) (at_ : Nat) (h : ParAt F w p x s toks) (hw : x.want = 4) :
 Calls prog 112 #[.pointer (some ⟨p, 0, none⟩), .agg #[.int .i64 at_, .int .i64 1, .int .u8 58]] w fun e w' => Plainly e ∧ ParPost F w p s toks (.ok { x with want := 0 }) e w' := by
 have hlt := h.lt;have h1 := boxed h (.cells #[.int .i64 at_, .int .i64 1, .int .u8 58] 238);have hnew := heap_alloc_new w (.cells #[.int .i64 at_, .int .i64 1, .int .u8 58] 238);have b0 : (w.alloc (.cells #[.int .i64 at_, .int .i64 1, .int .u8 58] 238)).cell? ⟨w.heap.size, 0, none⟩ = some (.int .i64 at_) := cell_at hnew;have b2 : (w.alloc (.cells #[.int .i64 at_, .int .i64 1, .int .u8 58] 238)).cell? ⟨w.heap.size, 2, none⟩ = some (.int .u8 58) := cell_at hnew;have HLT := hZ hlt;have H1 := hZ h1;obtain ⟨W, hW⟩ : ∃ W, w.alloc (.cells #[.int .i64 at_, .int .i64 1, .int .u8 58] 238) = W := ⟨_, rfl⟩;have HW := hZ hW;obtain ⟨_, FL, FM, FP, lb, mb, pileV, vals, hp, hb, hL, hM, hP⟩ := h1;rw [hW] at hb b0 b2 hP;have hc5 : W.cell? ⟨p, 5, none⟩ = some (.int .i64 4) := by rw [cell_at hb]; show some (Value.int .i64 x.want) = _; rw [hw]; rfl
 have hf5 : ∀ o, W.frozen? ⟨p, o, none⟩ = false := free_at hb;clear h hlt hnew hb hL hM hP hp hw;go_enter func112, ntmps112;go_wp2_with fail
 go_end0
 have hpw := par_want H1.out 0;rw [hW] at hpw;exact ⟨.inl rfl, unboxed (o := .cells #[.int .i64 at_, .int .i64 1, .int .u8 58] 238) HLT.out ⟨by rw [HW.out]; exact hpw.1, rfl, by rw [HW.out]; exact hpw.2⟩⟩
theorem mark_comma_list (F : Nat → Prop) (w : World) (p : Nat) (x : Ps) (s : LS) (toks : List Tok) (at_ : Nat) (h : ParAt F w p x s toks) (hw : x.want = 5) (ini : List Fr) (m : Nat) (hpile : x.pile = ini ++ [.list m]) (hil : ini.length ≤ 1048576) :
 Calls prog 112 #[.pointer (some ⟨p, 0, none⟩), .agg #[.int .i64 at_, .int .i64 1, .int .u8 44]] w fun e w' => Plainly e ∧ ParPost F w p s toks (.ok { x with want := 0 }) e w' := by
 have hlt := h.lt;have h1 := boxed h (.cells #[.int .i64 at_, .int .i64 1, .int .u8 44] 238);have hnew := heap_alloc_new w (.cells #[.int .i64 at_, .int .i64 1, .int .u8 44] 238);have b0 : (w.alloc (.cells #[.int .i64 at_, .int .i64 1, .int .u8 44] 238)).cell? ⟨w.heap.size, 0, none⟩ = some (.int .i64 at_) := cell_at hnew;have b2 : (w.alloc (.cells #[.int .i64 at_, .int .i64 1, .int .u8 44] 238)).cell? ⟨w.heap.size, 2, none⟩ = some (.int .u8 44) := cell_at hnew;have HLT := hZ hlt;have H1 := hZ h1;obtain ⟨W, hW⟩ : ∃ W, w.alloc (.cells #[.int .i64 at_, .int .i64 1, .int .u8 44] 238) = W := ⟨_, rfl⟩;have HW := hZ hW;obtain ⟨_, FL, FM, FP, lb, mb, pileV, vals, hp, hb, hL, hM, hP⟩ := h1;rw [hW] at hb b0 b2 hP;have hc5 : W.cell? ⟨p, 5, none⟩ = some (.int .i64 5) := by rw [cell_at hb]; show some (Value.int .i64 x.want) = _; rw [hw]; rfl
 have hf5 : ∀ o, W.frozen? ⟨p, o, none⟩ = false := free_at hb;have c4 : W.cell? ⟨p, 4, none⟩ = some pileV := by rw [cell_at hb]; rfl
 rw [hpile] at hP;obtain ⟨g, off, cap, u, rfl, hcu, hFg, hcap, hcm, Q, hQ, hfr⟩ := pile_top hP;obtain ⟨fb, rfl, hfb, hQb⟩ := hfr;have hta : ∀ w : World, (Instr.typeAssert (.iface 272 (.pointer (some ⟨fb, 0, none⟩))) 281 275 true).run prog w = .ok (.tuple #[.pointer none, .bool false]) w := fun _ => by kernel_rfl
 have hgp : g ≠ p := fun e => hp.self.2.2.2 (e ▸ hFg)
 have hr1 : IntKind.i64.wrap ((ini.length : Int) + 1 - 1) = (ini.length : Int) := by rw [IntKind.wrap_i64]; omega
 obtain ⟨n, hn⟩ : ∃ n, ini.length = n := ⟨_, rfl⟩;rw [hn] at hil c4 hcu hr1 hcap;have hcu2 : (W.setCell ⟨p, 5, none⟩ (.int .i64 0)).cell? ⟨g, off + n, none⟩ = _ := ((Keeps.refl (fun k => k = p) W).setCell (p := ⟨p, 5, none⟩) (.inl rfl) (.int .i64 0)).cell hcu hgp;have c42 : (W.setCell ⟨p, 5, none⟩ (.int .i64 0)).cell? ⟨p, 4, none⟩ = some (.slice (some ⟨g, off, none⟩) (n + 1) cap) := by rw [cell_at (set_at hb _)]; show some (Value.slice _ _ _) = _; rw [hn]
 have c52 : (W.setCell ⟨p, 5, none⟩ (.int .i64 0)).cell? ⟨p, 5, none⟩ = some (.int .i64 0) := by rw [cell_at (set_at hb _)]; rfl
 have hf52 : ∀ o, (W.setCell ⟨p, 5, none⟩ (.int .i64 0)).frozen? ⟨p, o, none⟩ = false := free_at (set_at hb _);clear h hlt hnew hb hL hM hP hp hw hQ hpile hFg hcap hcm hfb hQb;go_enter func112, ntmps112;go_wp2_with fail;go_region;go_wp2_with fail
 go_end0
 rw [← hW];have h0 := par_want H1.out 0;exact ⟨.inl rfl, unboxed (o := .cells #[.int .i64 at_, .int .i64 1, .int .u8 44] 238) HLT.out ⟨h0.1.drew, rfl, h0.2.drew⟩⟩
theorem mark_comma_object (F : Nat → Prop) (w : World) (p : Nat) (x : Ps) (s : LS) (toks : List Tok) (at_ : Nat) (h : ParAt F w p x s toks) (hw : x.want = 5) (ini : List Fr) (ks : List (List UInt8)) (hpile : x.pile = ini ++ [.object ks]) (hil : ini.length ≤ 1048576) :
 Calls prog 112 #[.pointer (some ⟨p, 0, none⟩), .agg #[.int .i64 at_, .int .i64 1, .int .u8 44]] w fun e w' => Plainly e ∧ ParPost F w p s toks (.ok { x with want := 3 }) e w' := by
 have hlt := h.lt;have h1 := boxed h (.cells #[.int .i64 at_, .int .i64 1, .int .u8 44] 238);have hnew := heap_alloc_new w (.cells #[.int .i64 at_, .int .i64 1, .int .u8 44] 238);have b0 : (w.alloc (.cells #[.int .i64 at_, .int .i64 1, .int .u8 44] 238)).cell? ⟨w.heap.size, 0, none⟩ = some (.int .i64 at_) := cell_at hnew;have b2 : (w.alloc (.cells #[.int .i64 at_, .int .i64 1, .int .u8 44] 238)).cell? ⟨w.heap.size, 2, none⟩ = some (.int .u8 44) := cell_at hnew;have HLT := hZ hlt;have H1 := hZ h1;obtain ⟨W, hW⟩ : ∃ W, w.alloc (.cells #[.int .i64 at_, .int .i64 1, .int .u8 44] 238) = W := ⟨_, rfl⟩;have HW := hZ hW;obtain ⟨_, FL, FM, FP, lb, mb, pileV, vals, hp, hb, hL, hM, hP⟩ := h1;rw [hW] at hb b0 b2 hP;have hc5 : W.cell? ⟨p, 5, none⟩ = some (.int .i64 5) := by rw [cell_at hb]; show some (Value.int .i64 x.want) = _; rw [hw]; rfl
 have hf5 : ∀ o, W.frozen? ⟨p, o, none⟩ = false := free_at hb;have c4 : W.cell? ⟨p, 4, none⟩ = some pileV := by rw [cell_at hb]; rfl
 rw [hpile] at hP;obtain ⟨g, off, cap, u, rfl, hcu, hFg, hcap, hcm, Q, hQ, hfr⟩ := pile_top hP;obtain ⟨fb, mp, kV, rfl, hfb, hQb, hrest⟩ := hfr;have hta : ∀ w : World, (Instr.typeAssert (.iface 275 (.pointer (some ⟨fb, 0, none⟩))) 281 275 true).run prog w = .ok (.tuple #[.pointer (some ⟨fb, 0, none⟩), .bool true]) w := fun _ => by kernel_rfl
 have hgp : g ≠ p := fun e => hp.self.2.2.2 (e ▸ hFg)
 have hr1 : IntKind.i64.wrap ((ini.length : Int) + 1 - 1) = (ini.length : Int) := by rw [IntKind.wrap_i64]; omega
 obtain ⟨n, hn⟩ : ∃ n, ini.length = n := ⟨_, rfl⟩;rw [hn] at hil c4 hcu hr1 hcap;have hcu2 : (W.setCell ⟨p, 5, none⟩ (.int .i64 0)).cell? ⟨g, off + n, none⟩ = _ := ((Keeps.refl (fun k => k = p) W).setCell (p := ⟨p, 5, none⟩) (.inl rfl) (.int .i64 0)).cell hcu hgp;have c42 : (W.setCell ⟨p, 5, none⟩ (.int .i64 0)).cell? ⟨p, 4, none⟩ = some (.slice (some ⟨g, off, none⟩) (n + 1) cap) := by rw [cell_at (set_at hb _)]; show some (Value.slice _ _ _) = _; rw [hn]
 have c52 : (W.setCell ⟨p, 5, none⟩ (.int .i64 0)).cell? ⟨p, 5, none⟩ = some (.int .i64 0) := by rw [cell_at (set_at hb _)]; rfl
 have hf52 : ∀ o, (W.setCell ⟨p, 5, none⟩ (.int .i64 0)).frozen? ⟨p, o, none⟩ = false := free_at (set_at hb _);clear h hlt hnew hb hL hM hP hp hw hQ hpile hFg hcap hcm hfb hQb;go_enter func112, ntmps112;go_wp2_with fail;go_region;go_wp2_with fail
 go_end0
 rw [← hW];have h0 := par_want H1.out 0;have h3 := par_want h0.2.drew 3;exact ⟨.inl rfl, unboxed (o := .cells #[.int .i64 at_, .int .i64 1, .int .u8 44] 238) HLT.out ⟨h0.1.drew.andThen h3.1, rfl, h3.2.mono_since h0.1.size h3.1.size (fun k h => Nat.lt_of_lt_of_le (HLT.out k h) (by simp))⟩⟩
theorem below_drewN (w : World) (n : Nat) : Below w.heap.size w (w.drewN n) := ⟨rfl, rfl, rfl, Nat.le_refl _, fun _ _ => rfl⟩
theorem sign_list (w : World) (fb : Nat) : Calls prog 358 #[.pointer (some ⟨fb, 0, none⟩)] w fun e w' => e = .returned (.int .u8 93) ∧ w' = w := by
 go_enter func358, ntmps358;go_wp2;go_ret;exact ⟨rfl, rfl⟩
theorem sign_object (w : World) (fb : Nat) : Calls prog 359 #[.pointer (some ⟨fb, 0, none⟩)] w fun e w' => e = .returned (.int .u8 125) ∧ w' = w := by
 go_enter func359, ntmps359;go_wp2;go_ret;exact ⟨rfl, rfl⟩
theorem ends_none (w : World) (p c want : Nat) (a : Option Addr) (sg : UInt8) (v0 v1 v2 v3 v6 v7 v8 v9 : Value) (h : w.heap[p]? = some (.cells #[v0, v1, v2, v3, .slice a 0 c, .int .i64 want, v6, v7, v8, v9] 136 (0, 0))) :
 Calls prog 147 #[.pointer (some ⟨p, 0, none⟩), .int .u8 ((sg.toNat : Nat) : Int)] w fun e w' => e = .returned (.bool false) ∧ Below w.heap.size w w' := by
 obtain ⟨c0, c1, c2, c3, c4, c5, c6, c7, c8, c9, cf⟩ := cells10 h;clear h;go_enter func147, ntmps147;go_wp2_with fail;go_region;go_wp2_with fail;go_ret;exact ⟨rfl, (Below.refl _ _).drew⟩
theorem ends_list (w : World) (p g off n cap fb want : Nat) (sg : UInt8) (v0 v1 v2 v3 v6 v7 v8 v9 : Value) (h : w.heap[p]? = some (.cells #[v0, v1, v2, v3, .slice (some ⟨g, off, none⟩) (n + 1) cap, .int .i64 want, v6, v7, v8, v9] 136 (0, 0)))
 (hg : w.cell? ⟨g, off + n, none⟩ = some (.iface 272 (.pointer (some ⟨fb, 0, none⟩)))) (hn : n ≤ 1048576) :
 Calls prog 147 #[.pointer (some ⟨p, 0, none⟩), .int .u8 ((sg.toNat : Nat) : Int)] w fun e w' => e = .returned (.bool (decide ((93 : UInt8) = sg) && (decide (want = 5) || decide (want = 1) || decide (want = 2)))) ∧ Below w.heap.size w w' := by
 have hm : ∀ w : World, (method 565 272 (.pointer (some ⟨fb, 0, none⟩)) "affidavit/parse.sign").run prog w = .ok (358, .pointer (some ⟨fb, 0, none⟩)) w := fun _ => by kernel_rfl
 obtain ⟨c0, c1, c2, c3, c4, c5, c6, c7, c8, c9, cf⟩ := cells10 h;have hr1 : IntKind.i64.wrap ((n : Int) + 1 - 1) = (n : Int) := by rw [IntKind.wrap_i64]; omega
 have e0 : ((n : Int) + 1 == 0) = false := by simp; omega
 have hx0 : (0 : Int) ≤ (n : Int) := by omega
 have hx1 : (n : Int) < (n : Int) + 1 := by omega
 have HS := hZ (fun w => sign_list w fb);clear h
 have hcase : ((93 : UInt8) ≠ sg ∧ ((93 : Int) != ((sg.toNat : Nat) : Int)) = true ∧ ¬ ((93 : Int) = ((sg.toNat : Nat) : Int))) ∨ sg = 93 := by
  by_cases e : sg = 93
  ·exact .inr e
  ·refine .inl ⟨fun h => e h.symm, ?_, ?_⟩
   ·have : sg.toNat ≠ 93 := fun h => e (by rw [← UInt8.toNat_inj]; exact h)
    simp; omega
   ·have : sg.toNat ≠ 93 := fun h => e (by rw [← UInt8.toNat_inj]; exact h)
    omega
 rcases hcase with ⟨hne, n1, n2⟩ | rfl
 ·have hd : (decide ((93 : UInt8) = sg) && (decide (want = 5) || decide (want = 1) || decide (want = 2))) = false := by rw [decide_eq_false hne]; rfl
  rw [hd];clear hne hd;go_enter func147, ntmps147;go_wp2_with fail
  go_quiet (first | (go_at_call 358; refine Calls.quiet_of_same (HS.out _)))
  go_wp2_with fail;go_ret;exact ⟨rfl, below_drewN _ _⟩
 ·have hk : ((((93 : UInt8)).toNat : Nat) : Int) = 93 := rfl;rw [hk]
  have hwant : want = 5 ∨ want = 1 ∨ want = 2 ∨ (decide (want = 5) || decide (want = 1) || decide (want = 2)) = false ∧ ((want : Int) == 5) = false ∧ ((want : Int) == 1) = false ∧ ((want : Int) == 2) = false := by
   by_cases e5 : want = 5
   ·exact .inl e5
   by_cases e1 : want = 1
   ·exact .inr (.inl e1)
   by_cases e2 : want = 2
   ·exact .inr (.inr (.inl e2))
   exact .inr (.inr (.inr ⟨by simp [e5, e1, e2], by simp; omega, by simp; omega, by simp; omega⟩))
  have hone : decide ((93 : UInt8) = 93) = true := rfl;rw [hone, Bool.true_and];rcases hwant with rfl | rfl | rfl | ⟨hd, e5, e1, e2⟩
  rotate_left 3
  ·rw [hd];clear hd hone hk;go_enter func147, ntmps147;go_wp2_with fail
   go_quiet (first | (go_at_call 358; refine Calls.quiet_of_same (HS.out _)))
   go_wp2_with fail;go_ret;exact ⟨rfl, below_drewN _ _⟩
  all_goals
   clear hone hk;go_enter func147, ntmps147;go_wp2_with fail
   go_quiet (first | (go_at_call 358; refine Calls.quiet_of_same (HS.out _)))
   go_wp2_with fail;go_ret;exact ⟨rfl, below_drewN _ _⟩
theorem ends_object (w : World) (p g off n cap fb want : Nat) (sg : UInt8) (v0 v1 v2 v3 v6 v7 v8 v9 : Value) (h : w.heap[p]? = some (.cells #[v0, v1, v2, v3, .slice (some ⟨g, off, none⟩) (n + 1) cap, .int .i64 want, v6, v7, v8, v9] 136 (0, 0)))
 (hg : w.cell? ⟨g, off + n, none⟩ = some (.iface 275 (.pointer (some ⟨fb, 0, none⟩)))) (hn : n ≤ 1048576) :
 Calls prog 147 #[.pointer (some ⟨p, 0, none⟩), .int .u8 ((sg.toNat : Nat) : Int)] w fun e w' => e = .returned (.bool (decide ((125 : UInt8) = sg) && (decide (want = 5) || decide (want = 1) || decide (want = 2)))) ∧ Below w.heap.size w w' := by
 have hm : ∀ w : World, (method 565 275 (.pointer (some ⟨fb, 0, none⟩)) "affidavit/parse.sign").run prog w = .ok (359, .pointer (some ⟨fb, 0, none⟩)) w := fun _ => by kernel_rfl
 obtain ⟨c0, c1, c2, c3, c4, c5, c6, c7, c8, c9, cf⟩ := cells10 h;have hr1 : IntKind.i64.wrap ((n : Int) + 1 - 1) = (n : Int) := by rw [IntKind.wrap_i64]; omega
 have e0 : ((n : Int) + 1 == 0) = false := by simp; omega
 have hx0 : (0 : Int) ≤ (n : Int) := by omega
 have hx1 : (n : Int) < (n : Int) + 1 := by omega
 have HS := hZ (fun w => sign_object w fb);clear h
 have hcase : ((125 : UInt8) ≠ sg ∧ ((125 : Int) != ((sg.toNat : Nat) : Int)) = true ∧ ¬ ((125 : Int) = ((sg.toNat : Nat) : Int))) ∨ sg = 125 := by
  by_cases e : sg = 125
  ·exact .inr e
  ·refine .inl ⟨fun h => e h.symm, ?_, ?_⟩
   ·have : sg.toNat ≠ 125 := fun h => e (by rw [← UInt8.toNat_inj]; exact h)
    simp; omega
   ·have : sg.toNat ≠ 125 := fun h => e (by rw [← UInt8.toNat_inj]; exact h)
    omega
 rcases hcase with ⟨hne, n1, n2⟩ | rfl
 ·have hd : (decide ((125 : UInt8) = sg) && (decide (want = 5) || decide (want = 1) || decide (want = 2))) = false := by rw [decide_eq_false hne]; rfl
  rw [hd];clear hne hd;go_enter func147, ntmps147;go_wp2_with fail
  go_quiet (first | (go_at_call 359; refine Calls.quiet_of_same (HS.out _)))
  go_wp2_with fail;go_ret;exact ⟨rfl, below_drewN _ _⟩
 ·have hk : ((((125 : UInt8)).toNat : Nat) : Int) = 125 := rfl;rw [hk]
  have hwant : want = 5 ∨ want = 1 ∨ want = 2 ∨ (decide (want = 5) || decide (want = 1) || decide (want = 2)) = false ∧ ((want : Int) == 5) = false ∧ ((want : Int) == 1) = false ∧ ((want : Int) == 2) = false := by
   by_cases e5 : want = 5
   ·exact .inl e5
   by_cases e1 : want = 1
   ·exact .inr (.inl e1)
   by_cases e2 : want = 2
   ·exact .inr (.inr (.inl e2))
   exact .inr (.inr (.inr ⟨by simp [e5, e1, e2], by simp; omega, by simp; omega, by simp; omega⟩))
  have hone : decide ((125 : UInt8) = 125) = true := rfl;rw [hone, Bool.true_and];rcases hwant with rfl | rfl | rfl | ⟨hd, e5, e1, e2⟩
  rotate_left 3
  ·rw [hd];clear hd hone hk;go_enter func147, ntmps147;go_wp2_with fail
   go_quiet (first | (go_at_call 359; refine Calls.quiet_of_same (HS.out _)))
   go_wp2_with fail;go_ret;exact ⟨rfl, below_drewN _ _⟩
  all_goals
   clear hone hk;go_enter func147, ntmps147;go_wp2_with fail
   go_quiet (first | (go_at_call 359; refine Calls.quiet_of_same (HS.out _)))
   go_wp2_with fail;go_ret;exact ⟨rfl, below_drewN _ _⟩
theorem ends_par (F : Nat → Prop) (w : World) (p : Nat) (x : Ps) (s : LS) (toks : List Tok) (sg : UInt8) (h : ParAt F w p x s toks) (hl : x.pile.length ≤ 1048576) :
 Calls prog 147 #[.pointer (some ⟨p, 0, none⟩), .int .u8 ((sg.toNat : Nat) : Int)] w fun e w' => e = .returned (.bool (x.ends sg)) ∧ Below w.heap.size w w' := by
 obtain ⟨hlt, FL, FM, FP, lb, mb, pileV, vals, hp, hb, hL, hM, hP⟩ := h;rcases getLast_cases x.pile with hnil | ⟨ini, fr, hpile⟩
 ·obtain ⟨a, cap, rfl⟩ := pile_shape hP;unfold parCells at hb;rw [hnil, List.length_nil] at hb;have he : x.ends sg = false := by unfold Ps.ends; rw [hnil]; rfl
  rw [he];exact ends_none w p cap x.want a sg _ _ _ _ _ _ _ _ hb
 ·rw [hpile] at hP;obtain ⟨g, off, cap, u, rfl, hcu, hFg, hcap, hcm, Q, hQ, hfr⟩ := pile_top hP;have hil : ini.length ≤ 1048576 := by rw [hpile] at hl; simp at hl; omega
  cases fr with
  | list m =>
   obtain ⟨fb, rfl, hfb, hQb⟩ := hfr
   have he : x.ends sg = (decide ((93 : UInt8) = sg) && (decide (x.want = 5) || decide (x.want = 1) || decide (x.want = 2))) := by
    have hgl : x.pile.getLast? = some (.list m) := by rw [hpile]; simp
    unfold Ps.ends;rw [hgl];rfl
   rw [he];exact ends_list w p g off ini.length cap fb x.want sg _ _ _ _ _ _ _ _ hb hcu hil
  | object k =>
   obtain ⟨fb, mp, kV, rfl, hfb, hQb, hrest⟩ := hfr
   have he : x.ends sg = (decide ((125 : UInt8) = sg) && (decide (x.want = 5) || decide (x.want = 1) || decide (x.want = 2))) := by
    have hgl : x.pile.getLast? = some (.object k) := by rw [hpile]; simp
    unfold Ps.ends;rw [hgl];rfl
   rw [he];exact ends_object w p g off ini.length cap fb x.want sg _ _ _ _ _ _ _ _ hb hcu hil
theorem end_list (F : Nat → Prop) (w : World) (p : Nat) (x : Ps) (s : LS) (toks : List Tok) (ini : List Fr) (m : Nat) (h : ParAt F w p x s toks) (hpile : x.pile = ini ++ [.list m]) (hin : ∀ t ∈ x.items, t.sized.within = true) (hit : x.items.length ≤ 65536) (hm : ∀ m, Fr.list m ∈ x.pile → m ≤ 1073741824) (hil : ini.length ≤ 1048576) :
 Calls prog 148 #[.pointer (some ⟨p, 0, none⟩)] w fun e w' => e = .returned (.tuple #[]) ∧ Keeps F w w' ∧ ParAt (Since F w w') w' p (Ps.put { x with pile := ini, items := putList x.items m }) s toks := by
 obtain ⟨hlt, FL, FM, FP, lb, mb, pileV, vals, hp, hb, hL, hM, hP⟩ := h;rw [hpile] at hP;obtain ⟨g, off, cap, u, rfl, hcu, hFg, hcap, hcm, Q, hQ, hfr⟩ := pile_top hP;obtain ⟨fb, rfl, hfb, hQb⟩ := hfr;have ta1 : ∀ w : World, (Instr.typeAssert (.iface 272 (.pointer (some ⟨fb, 0, none⟩))) 281 272 true).run prog w = .ok (.tuple #[.pointer (some ⟨fb, 0, none⟩), .bool true]) w := fun _ => by kernel_rfl
 have hPop := hP.pop rfl;have hfbp : fb ≠ p := fun e => hp.self.2.2.2 (e ▸ (hQ fb hQb).1)
 have hgp : g ≠ p := fun e => hp.self.2.2.2 (e ▸ hFg)
 have HM := hZ (fun (w1 : World) (hk1 : Keeps (fun k => k = p) w w1) (hb1 : w1.heap[p]? = some (.cells (parCells { x with pile := ini } lb mb (.slice (some ⟨g, off, none⟩) ini.length cap)) 136 (0, 0))) =>
  (maker_list FM w1.drew mb x.items m (hM.apart hk1.drew (fun k h (e : k = p) => hp.self.2.2.1 (e ▸ h))) hin hit).mono (R' := fun e w2 => (∃ v, e = .returned v) ∧ Keeps F w w2 ∧ ParAt (Since F w w2) w2 p { x with pile := ini, items := putList x.items m } s toks) fun e w2 ⟨he, hk2, hm2⟩ => by
   have hk2' : Keeps FM w1 w2 := ⟨hk2.os, hk2.tape, hk2.output, hk2.size, hk2.block⟩;have hkF : Keeps F w w1 := hk1.mono fun k e => e ▸ hp.self.1
   have := par_maker (x := { x with pile := ini }) (since_lt hlt hk1.size) hp.since hb1 (hL.apart hk1 (fun k h e => hp.self.2.1 (e ▸ h))) (hPop.keeps hk1 (fun k h e => hp.self.2.2.2 (e ▸ h))) hk2' (fun k h => Nat.lt_of_lt_of_le (hM.2.1 k h) hk1.size) hm2;exact ⟨he, hkF.andThen this.1, this.2.mono_since hk1.size hk2'.size hlt⟩)
 have HPUT := hZ (fun w2 (h : ParAt (Since F w w2) w2 p { x with pile := ini, items := putList x.items m } s toks) => put_par _ w2 p _ s toks h (fun m hm' => hm m (by rw [hpile]; exact List.mem_append_left _ hm')) (by show ini.length ≤ _; omega));have hr1 : IntKind.i64.wrap ((ini.length : Int) + 1 - 1) = (ini.length : Int) := by rw [IntKind.wrap_i64]; omega
 obtain ⟨n, hn⟩ : ∃ n, ini.length = n := ⟨_, rfl⟩;have c4 : w.cell? ⟨p, 4, none⟩ = some (.slice (some ⟨g, off, none⟩) (n + 1) cap) := by rw [cell_at hb, ← hn]; rfl
 have cf : ∀ o, w.frozen? ⟨p, o, none⟩ = false := free_at hb;have hset := set_at (o := 4) hb (.slice (some ⟨g, off, none⟩) n cap);rw [hn] at hil hcu hr1 hcap HM;have HB := hZ hb;have HFB := hZ hfb;have HFBP := hZ hfbp;have HLT := hZ hlt;have hc1 : (0 : Int) ≤ (n : Int) := by omega
 have hc2 : (n : Int) ≤ (cap : Int) := by omega
 have hcm2 : cap ≤ 9223372036854775807 := by unfold maxLen at hcm; omega
 have HSET := hZ hset;clear hlt hp hb hL hM hP hQ hfb hQb hPop hpile hin hit hm hFg hset hcm;go_enter func148, ntmps148;go_wp2_with fail;go_region;go_wp2_with fail;go_region;have hk1 : Keeps (fun k => k = p) w (w.setCell ⟨p, 4, none⟩ (.slice (some ⟨g, off, none⟩) n cap)).drew.drew := ((Keeps.refl (fun k => k = p) w).setCell (p := ⟨p, 4, none⟩) (.inl rfl) _).drew.drew;have hb1 : (w.setCell ⟨p, 4, none⟩ (.slice (some ⟨g, off, none⟩) n cap)).drew.drew.heap[p]? = some (.cells (parCells { x with pile := ini } lb mb (.slice (some ⟨g, off, none⟩) n cap)) 136 (0, 0)) := HSET.out;have hm1 := HM.out _ hk1 hb1;have HSZ1 := hZ hk1.size;obtain ⟨W1, hW1⟩ : ∃ W1, (w.setCell ⟨p, 4, none⟩ (.slice (some ⟨g, off, none⟩) n cap)).drew.drew = W1 := ⟨_, rfl⟩;rw [hW1] at hk1 hb1 hm1 ⊢;obtain ⟨d0, d1, d2, d3, d4, d5, d6, d7, d8, d9, df⟩ := cells10 hb1;have hfc : W1.cell? ⟨fb, 0, none⟩ = some (.int .i64 m) := cell_at (hk1.blk HFB.out HFBP.out);have HM1 := hZ hm1;clear hk1 hb1 hm1 hW1 c4 cf hcu HSET;go_wp2_with fail
 go_region_with (go_at_call 173; refine (HM1.out).mono ?_; rintro e w2 ⟨⟨v, rfl⟩, hk2, hp2⟩)
 all_goals
  have HK2 := hZ hk2;have HPP := hZ (HPUT.out w2 hp2);clear hk2 hp2;go_wp2_with fail;refine (HPP.out).mono ?_;rintro e w3 ⟨rfl, hk3, hp3⟩;have HK3 := hZ hk3;have HP3 := hZ hp3;clear hk3 hp3;go_wp2_with fail
  go_end0
  exact ⟨rfl, HK2.out.andThen HK3.out, HP3.out.mono_since HK2.out.size HK3.out.size HLT.out⟩
theorem end_object (F : Nat → Prop) (w : World) (p : Nat) (x : Ps) (s : LS) (toks : List Tok) (ini : List Fr) (ks : List (List UInt8)) (h : ParAt F w p x s toks) (hpile : x.pile = ini ++ [.object ks]) (hin : ∀ t ∈ x.items, t.sized.within = true) (hit : x.items.length ≤ 65536) (hm : ∀ m, Fr.list m ∈ x.pile → m ≤ 1073741824) (hil : ini.length ≤ 1048576) (hkr : RightKeys ks) (hnd : ks.Nodup) (hkl : keysLen ks ≤ 2097152) :
 Calls prog 148 #[.pointer (some ⟨p, 0, none⟩)] w fun e w' => e = .returned (.tuple #[]) ∧ Keeps F w w' ∧ ParAt (Since F w w') w' p (Ps.put { x with pile := ini, items := po x.items ks }) s toks := by
 obtain ⟨hlt, FL, FM, FP, lb, mb, pileV, vals, hp, hb, hL, hM, hP⟩ := h;rw [hpile] at hP;obtain ⟨g, off, cap, u, rfl, hcu, hFg, hcap, hcm, Q, hQ, hfr⟩ := pile_top hP;obtain ⟨fb, mp, kV, rfl, hfb, hQb, hkV, hkz, hmm, hQm⟩ := hfr;have ta1 : ∀ w : World, (Instr.typeAssert (.iface 275 (.pointer (some ⟨fb, 0, none⟩))) 281 272 true).run prog w = .ok (.tuple #[.pointer none, .bool false]) w := fun _ => by kernel_rfl
 have ta2 : ∀ w : World, (Instr.typeAssert (.iface 275 (.pointer (some ⟨fb, 0, none⟩))) 281 275 true).run prog w = .ok (.tuple #[.pointer (some ⟨fb, 0, none⟩), .bool true]) w := fun _ => by kernel_rfl
 obtain ⟨ka, kc, hkve⟩ := hkV.1.shape;subst hkve;have hPop := hP.pop rfl;have hfbp : fb ≠ p := fun e => hp.self.2.2.2 (e ▸ (hQ fb hQb).1)
 have hgp : g ≠ p := fun e => hp.self.2.2.2 (e ▸ hFg)
 have HM := hZ (fun (w1 : World) (hk1 : Keeps (fun k => k = p) w w1) (hb1 : w1.heap[p]? = some (.cells (parCells { x with pile := ini } lb mb (.slice (some ⟨g, off, none⟩) ini.length cap)) 136 (0, 0))) =>
  (maker_object FM w1.drew mb ks.length kc ka x.items ks (hM.apart hk1.drew (fun k h (e : k = p) => hp.self.2.2.1 (e ▸ h))) hin hit (hkV.1.keeps hk1.drew (fun k h (e : k = p) => hp.self.2.2.2 (e ▸ (hQ _ (hkV.2 k h)).1))) hkz hkr hnd hkl).mono (R' := fun e w2 => (∃ v, e = .returned v) ∧ Keeps F w w2 ∧ ParAt (Since F w w2) w2 p { x with pile := ini, items := po x.items ks } s toks) fun e w2 ⟨he, hk2, hm2⟩ => by
   have hk2' : Keeps FM w1 w2 := ⟨hk2.os, hk2.tape, hk2.output, hk2.size, hk2.block⟩;have hkF : Keeps F w w1 := hk1.mono fun k e => e ▸ hp.self.1
   have := par_maker (x := { x with pile := ini }) (since_lt hlt hk1.size) hp.since hb1 (hL.apart hk1 (fun k h e => hp.self.2.1 (e ▸ h))) (hPop.keeps hk1 (fun k h e => hp.self.2.2.2 (e ▸ h))) hk2' (fun k h => Nat.lt_of_lt_of_le (hM.2.1 k h) hk1.size) hm2;exact ⟨he, hkF.andThen this.1, this.2.mono_since hk1.size hk2'.size hlt⟩)
 have HPUT := hZ (fun w2 (h : ParAt (Since F w w2) w2 p { x with pile := ini, items := po x.items ks } s toks) => put_par _ w2 p _ s toks h (fun m hm' => hm m (by rw [hpile]; exact List.mem_append_left _ hm')) (by show ini.length ≤ _; omega));have hr1 : IntKind.i64.wrap ((ini.length : Int) + 1 - 1) = (ini.length : Int) := by rw [IntKind.wrap_i64]; omega
 obtain ⟨n, hn⟩ : ∃ n, ini.length = n := ⟨_, rfl⟩;have c4 : w.cell? ⟨p, 4, none⟩ = some (.slice (some ⟨g, off, none⟩) (n + 1) cap) := by rw [cell_at hb, ← hn]; rfl
 have cf : ∀ o, w.frozen? ⟨p, o, none⟩ = false := free_at hb;have hset := set_at (o := 4) hb (.slice (some ⟨g, off, none⟩) n cap);rw [hn] at hil hcu hr1 hcap HM;have HB := hZ hb;have HFB := hZ hfb;have HFBP := hZ hfbp;have HLT := hZ hlt;have hc1 : (0 : Int) ≤ (n : Int) := by omega
 have hc2 : (n : Int) ≤ (cap : Int) := by omega
 have hcm2 : cap ≤ 9223372036854775807 := by unfold maxLen at hcm; omega
 have HSET := hZ hset;clear hlt hp hb hL hM hP hQ hfb hQb hPop hpile hin hit hm hFg hset hcm hkV hkz hmm hQm hkr hnd hkl;go_enter func148, ntmps148;go_wp2_with fail;go_region;go_wp2_with fail;go_region;have hk1 : Keeps (fun k => k = p) w (w.setCell ⟨p, 4, none⟩ (.slice (some ⟨g, off, none⟩) n cap)).drew.drew := ((Keeps.refl (fun k => k = p) w).setCell (p := ⟨p, 4, none⟩) (.inl rfl) _).drew.drew;have hb1 : (w.setCell ⟨p, 4, none⟩ (.slice (some ⟨g, off, none⟩) n cap)).drew.drew.heap[p]? = some (.cells (parCells { x with pile := ini } lb mb (.slice (some ⟨g, off, none⟩) n cap)) 136 (0, 0)) := HSET.out;have hm1 := HM.out _ hk1 hb1;have HSZ1 := hZ hk1.size;obtain ⟨W1, hW1⟩ : ∃ W1, (w.setCell ⟨p, 4, none⟩ (.slice (some ⟨g, off, none⟩) n cap)).drew.drew = W1 := ⟨_, rfl⟩;rw [hW1] at hk1 hb1 hm1 ⊢;obtain ⟨d0, d1, d2, d3, d4, d5, d6, d7, d8, d9, df⟩ := cells10 hb1;have hfc : W1.cell? ⟨fb, 0, none⟩ = some (.slice ka ks.length kc) := cell_at (hk1.blk HFB.out HFBP.out);have HM1 := hZ hm1;clear hk1 hb1 hm1 hW1 c4 cf hcu HSET;go_wp2_with fail
 go_region_with (go_at_call 174; refine (HM1.out).mono ?_; rintro e w2 ⟨⟨v, rfl⟩, hk2, hp2⟩)
 all_goals
  have HK2 := hZ hk2;have HPP := hZ (HPUT.out w2 hp2);clear hk2 hp2;go_wp2_with fail;refine (HPP.out).mono ?_;rintro e w3 ⟨rfl, hk3, hp3⟩;have HK3 := hZ hk3;have HP3 := hZ hp3;clear hk3 hp3;go_wp2_with fail
  go_end0
  exact ⟨rfl, HK2.out.andThen HK3.out, HP3.out.mono_since HK2.out.size HK3.out.size HLT.out⟩
theorem text_twice {x : Ps} {ini : List Fr} {k : List (List UInt8)} {l : List UInt8} {at_ : Nat} (hpile : x.pile = ini ++ [.object k]) (hw : x.want = 2 ∨ x.want = 3) (hm : l ∈ k) : x.text at_ l = .error (101, at_) := by
 have hlk : lastKeys x.pile = k := by unfold lastKeys; rw [hpile]; simp
 unfold Ps.text;rw [if_neg (by omega), hlk, if_pos hm]
theorem text_new {x : Ps} {ini : List Fr} {k : List (List UInt8)} {l : List UInt8} {at_ : Nat} (hpile : x.pile = ini ++ [.object k]) (hw : x.want = 2 ∨ x.want = 3) (hm : l ∉ k) : x.text at_ l = (Ps.weigh { x with pile := ini ++ [.object (k ++ [l])] } l at_).map fun p => { p with want := 4 } := by
 have hlk : lastKeys x.pile = k := by unfold lastKeys; rw [hpile]; simp
 have hdl : x.pile.dropLast = ini := by rw [hpile]; simp
 unfold Ps.text;rw [if_neg (by omega), hlk, if_neg hm, hdl]
theorem pile_top2 {FP : Nat → Prop} {w : World} {pileV : Value} {ini : List Fr} {fr : Fr} {vals : List Value} (hP : PileAt FP w pileV (ini ++ [fr]) vals) :
 ∃ g off cap u, pileV = .slice (some ⟨g, off, none⟩) (ini.length + 1) cap ∧ w.cell? ⟨g, off + ini.length, none⟩ = some u ∧ FP g ∧ ini.length + 1 ≤ cap ∧ cap ≤ maxLen ∧ ∃ Q : Nat → Prop, (∀ k, Q k → FP k ∧ k ≠ g) ∧ FrameAt Q w u fr ∧
  ∀ (w' : World) (G : Nat → Prop) (fr' : Fr), Keeps G w w' → (∀ k, G k → FP k → Q k) → FrameAt (Since Q w w') w' u fr' → PileAt (Since FP w w') w' pileV (ini ++ [fr']) vals := by
 obtain ⟨Q, u, hQ, hu, hfr, hst⟩ := hP.last;have hlen : vals.length = ini.length + 1 := by rw [hP.len]; simp
 rcases hP.win.1 with ⟨rfl, h0⟩ | ⟨g, off, cap, cur, rfl, hg, hc, ho, hm, hi⟩
 ·rw [h0] at hlen; simp at hlen
 ·refine ⟨g, off, cap, u, by rw [hlen], ?_, hP.win.2 g rfl, by omega, hm, Q, fun k hk => ⟨(hQ k hk).1, fun e => (hQ k hk).2 (by rw [e]; rfl)⟩, hfr, hst⟩;rw [cell_at hg];exact hi _ u hu
theorem ParAt.cells {G : Nat → Prop} {w : World} {p : Nat} {x : Ps} {s : LS} {toks : List Tok} (h : ParAt G w p x s toks) : w.cell? ⟨p, 8, none⟩ = some .nilIface ∧ w.cell? ⟨p, 9, none⟩ = some (.bool false) ∧ (∀ o, w.frozen? ⟨p, o, none⟩ = false) ∧ w.cell? ⟨p, 5, none⟩ = some (.int .i64 x.want) ∧ w.cell? ⟨p, 1, none⟩ = some (.int .i64 x.place) := by
 obtain ⟨hlt, FL, FM, FP, lb, mb, pileV, vals, hp, hb, hL, hM, hP⟩ := h;obtain ⟨c0, c1, c2, c3, c4, c5, c6, c7, c8, c9, cf⟩ := cells10 hb;exact ⟨c8, c9, cf, c5, c1⟩
theorem text_key (F : Nat → Prop) (w : World) (p : Nat) (x : Ps) (s : LS) (toks : List Tok) (at_ size : Nat) (l : List UInt8) (ini : List Fr) (k : List (List UInt8)) (hl : l.length ≤ 16777216) (h : ParAt F w p x s toks) (hpile : x.pile = ini ++ [.object k]) (hil : ini.length ≤ 1048576) (hkl : k.length ≤ 4194303) (hby : x.bytes ≤ 1073741824) (hw : x.want = 2 ∨ x.want = 3) :
 Calls prog 113 #[.pointer (some ⟨p, 0, none⟩), .agg #[.int .i64 at_, .int .i64 size, .string ⟨l.toArray⟩]] w fun e w' => Plainly e ∧ ParPost F w p s toks (x.text at_ l) e w' := by
 have hlt := h.lt;have h1 := boxed h (.cells #[.int .i64 at_, .int .i64 size, .string ⟨l.toArray⟩] 241);have hnew := heap_alloc_new w (.cells #[.int .i64 at_, .int .i64 size, .string ⟨l.toArray⟩] 241);have hBF : ¬ F w.heap.size := fun hf => absurd (hlt _ hf) (Nat.lt_irrefl _)
 have HBF := hZ hBF;have HLT := hZ hlt;have HSF := hZ h.self;have hkW0 : Keeps F w (w.alloc (.cells #[.int .i64 at_, .int .i64 size, .string ⟨l.toArray⟩] 241)) := (Keeps.refl F w).alloc _;obtain ⟨W, hW⟩ : ∃ W, w.alloc (.cells #[.int .i64 at_, .int .i64 size, .string ⟨l.toArray⟩] 241) = W := ⟨_, rfl⟩;rw [hW] at h1 hnew hkW0;have HKW := hZ hkW0;have HNEW := hZ hnew;have HPAR := hZ h1;obtain ⟨hltW, FL, FM, FP, lb, mb, pileV, vals, hp, hb, hL, hM, hP⟩ := h1;rw [hpile] at hP;obtain ⟨g, off, cap, u, rfl, hcu, hFg, hcap, hcm, Q, hQ, hfr, hst⟩ := pile_top2 hP;obtain ⟨fb, mp, kV, rfl, hfb, hQb, hkV, hkz, hmm, hQm⟩ := hfr;have hta : ∀ w : World, (Instr.typeAssert (.iface 275 (.pointer (some ⟨fb, 0, none⟩))) 281 275 false).run prog w = .ok (.pointer (some ⟨fb, 0, none⟩)) w := fun _ => by kernel_rfl
 have hll : l.length ≤ maxLen := by unfold maxLen; omega
 have hr1 : IntKind.i64.wrap ((ini.length : Int) + 1 - 1) = (ini.length : Int) := by rw [IntKind.wrap_i64]; omega
 obtain ⟨n, hn⟩ : ∃ n, ini.length = n := ⟨_, rfl⟩;have c4 : W.cell? ⟨p, 4, none⟩ = some (.slice (some ⟨g, off, none⟩) (n + 1) cap) := by rw [cell_at hb, ← hn]; rfl
 rw [hn] at hil hcu hr1 hcap;have b0 : W.cell? ⟨w.heap.size, 0, none⟩ = some (.int .i64 at_) := cell_at hnew;have b2 : W.cell? ⟨w.heap.size, 2, none⟩ = some (.string ⟨l.toArray⟩) := cell_at hnew;have f0 : W.cell? ⟨fb, 0, none⟩ = some kV := cell_at hfb;have f1 : W.cell? ⟨fb, 1, none⟩ = some (.map (some mp)) := cell_at hfb;have c5 : W.cell? ⟨p, 5, none⟩ = some (.int .i64 x.want) := by rw [cell_at hb]; rfl
 have hlook := MetMap.look (w := W.drew.drew) (show MetMap W.drew.drew mp k.reverse from hmm) hll;have hk2 : Keeps (fun _ => False) W (W.alloc (.cells #[] 101)) := (Keeps.refl _ W).alloc _;have hlook2 := MetMap.look (w := (W.alloc (.cells #[] 101)).drew.drew) (show MetMap (W.alloc (.cells #[] 101)).drew.drew mp k.reverse from hmm.keeps hk2.drew.drew id) hll;have b02 : (W.alloc (.cells #[] 101)).cell? ⟨w.heap.size, 0, none⟩ = some (.int .i64 at_) := hk2.cell b0 id;have b22 : (W.alloc (.cells #[] 101)).cell? ⟨w.heap.size, 2, none⟩ = some (.string ⟨l.toArray⟩) := hk2.cell b2 id;have f12 : (W.alloc (.cells #[] 101)).cell? ⟨fb, 1, none⟩ = some (.map (some mp)) := hk2.cell f1 id;have HFA := hZ (fun w => fail_any w 101 at_)
 by_cases hmem : l ∈ k
 ·rw [text_twice hpile hw hmem];have hd : decide (l ∈ k.reverse) = true := by simpa using hmem
  rw [hd] at hlook hlook2;unfold encS at hlook hlook2;obtain ⟨sv, hsv⟩ : ∃ sv : ByteArray, (⟨l.toArray⟩ : ByteArray) = sv := ⟨_, rfl⟩;rw [hsv] at hW hlook hlook2 b2 b22 ⊢;have HK2 := hZ hk2;clear hlt hnew hb hL hM hP hp hQ hcm hfb hQb hkV hkz hmm hQm hd hmem hpile h hFg hll hsv hBF hst hk2 hkW0 hltW;rcases hw with hw | hw
  all_goals
   rw [hw] at c5;clear hw;go_enter func113, ntmps113;go_wp2_with fail;go_region;go_wp2_with fail;go_region
   all_goals
    go_wp2_with fail;refine (HFA.out _).mono ?_;rintro e w2 ⟨he, rfl⟩;unfold failE at he;subst he;go_wp2_with fail;exact ⟨rfl, .inr ⟨_, _, rfl⟩, HKW.out.trans HK2.out.drew.drew (fun _ h => h.elim), rfl, HPAR.out.dead.keeps HK2.out.drew.drew id⟩
 ·rw [text_new hpile hw hmem];have hd : decide (l ∈ k.reverse) = false := by simpa using hmem
  rw [hd] at hlook hlook2;obtain ⟨w3, hup, hmap, hturn⟩ := MetMap.put (w := (W.alloc (.cells #[] 101)).drew.drew.drew) (show MetMap (W.alloc (.cells #[] 101)).drew.drew.drew mp k.reverse from hmm.keeps hk2.drew.drew.drew id) (by rw [List.length_reverse]; omega) hll;have hk3 : Keeps (fun q => q = mp) W w3 := (hk2.drew.drew.drew.mono (fun _ h => h.elim)).same (turned_keeps hturn);obtain ⟨es, clock, hes, _⟩ := hmm;have hfbm : fb ≠ mp := fun e => by subst e; rw [hes] at hfb; cases hfb
  have hBm : w.heap.size ≠ mp := fun e => by rw [e, hes] at hnew; cases hnew
  have hpm : p ≠ mp := fun e => by subst e; rw [hes] at hb; cases hb
  have hkVm : kV.ownBlock ≠ some mp := by
   intro e;obtain ⟨c, hc⟩ := hkV.1.typed e;rw [hes] at hc; cases hc
  have hkVf : kV.ownBlock ≠ some fb := by
   intro e;obtain ⟨c, hc⟩ := hkV.1.typed e;rw [hfb] at hc; cases hc
  have hfb3 := hk3.blk hfb hfbm;have hnew3 := hk3.blk hnew hBm;have hkv3 : Win 9 encS w3 kV k := hkV.1.keeps hk3 (fun q e hq => hkVm (by rw [e, hq]));obtain ⟨ka, kc, hkve⟩ := hkV.1.shape;have hkx : Keeps (fun _ => False) w3 (w3.drew.alloc (.cells #[.string ⟨l.toArray⟩] 9)) := ((Keeps.refl _ w3).drew).alloc _;have hwx := (hkv3.keeps hkx (fun _ _ => id)).toN
  have hnewc : ∀ j u, ([.string ⟨l.toArray⟩] : List Value)[j]? = some u → (w3.drew.alloc (.cells #[.string ⟨l.toArray⟩] 9)).cell? ((⟨w3.heap.size, 0, none⟩ : Addr).add j) = some u := by
   intro j u hj;have hp := add_zero_at w3.heap.size j;rw [hp]
   show (w3.drew.alloc _).cell? ⟨w3.drew.heap.size, j, none⟩ = _
   rw [cell_at (heap_alloc_new w3.drew _)]
   simpa using hj
  have hon : ∀ u ∈ ([.string ⟨l.toArray⟩] : List Value), u.oneCell' = true := fun u hu => by simp at hu; subst hu; rfl
  have hbm : (k.length + 1) * 16 ≤ 140737488355328 := by omega
  have hmm2 : k.length + 1 ≤ maxLen := by unfold maxLen; omega
  have d0 : w3.cell? ⟨fb, 0, none⟩ = some kV := cell_at hfb3;have d0a : (w3.alloc (.cells #[.string ⟨l.toArray⟩] 9)).cell? ⟨fb, 0, none⟩ = some kV := ((Keeps.refl (fun _ => False) w3).alloc _).cell d0 id;have e1 : w3.cell? ⟨w.heap.size, 2, none⟩ = some (.string ⟨l.toArray⟩) := cell_at hnew3;have e1a : (w3.alloc (.cells #[.string ⟨l.toArray⟩] 9)).cell? ⟨w.heap.size, 2, none⟩ = some (.string ⟨l.toArray⟩) := ((Keeps.refl (fun _ => False) w3).alloc _).cell e1 id;have HPX := hZ (hkx.blk hfb3 id)
  have hfin : ∀ (g' off' cap' : Nat) (w' : World), WinN 1 9 w' (.slice (some ⟨g', off', none⟩) (k.length + 1) cap') (k.length + 1) (k.map encS ++ [.string ⟨l.toArray⟩]) → (kV.ownBlock = some g' ∨ ((w3.drew.alloc (.cells #[.string ⟨l.toArray⟩] 9)).heap.size ≤ g' ∧ g' < w'.heap.size)) → Keeps (fun q => kV.ownBlock = some q) (w3.drew.alloc (.cells #[.string ⟨l.toArray⟩] 9)) w' →
   Keeps F W (w'.setCell ⟨fb, 0, none⟩ (.slice (some ⟨g', off', none⟩) (k.length + 1) cap')) ∧ ParAt (Since F W (w'.setCell ⟨fb, 0, none⟩ (.slice (some ⟨g', off', none⟩) (k.length + 1) cap'))) (w'.setCell ⟨fb, 0, none⟩ (.slice (some ⟨g', off', none⟩) (k.length + 1) cap')) p { x with pile := ini ++ [.object (k ++ [l])] } s toks := by
   intro g' off' cap' w' hwin hgb hkk;have hb' := hkk.blk HPX.out hkVf;have hks : Keeps (fun q => q = fb) w' (w'.setCell ⟨fb, 0, none⟩ (.slice (some ⟨g', off', none⟩) (k.length + 1) cap')) := (Keeps.refl (fun q => q = fb) w').setCell (p := ⟨fb, 0, none⟩) (.inl rfl) _
   have hall : Keeps (fun q => q = mp ∨ kV.ownBlock = some q ∨ q = fb) W (w'.setCell ⟨fb, 0, none⟩ (.slice (some ⟨g', off', none⟩) (k.length + 1) cap')) :=
    (((hk3.mono (fun q e => .inl e)).trans hkx (fun _ h => h.elim)).trans hkk (fun q e => .inl (.inr (.inl e)))).trans hks (fun q e => .inl (.inr (.inr e)))
   have hGQ : ∀ q, (q = mp ∨ kV.ownBlock = some q ∨ q = fb) → Q q := fun q e => by
    rcases e with e | e | e
    ·exact e ▸ hQm
    ·exact hkV.2 q e
    ·exact e ▸ hQb
   have hGF : ∀ q, (q = mp ∨ kV.ownBlock = some q ∨ q = fb) → FP q := fun q e => (hQ q (hGQ q e)).1
   have hkF : Keeps F W (w'.setCell ⟨fb, 0, none⟩ (.slice (some ⟨g', off', none⟩) (k.length + 1) cap')) := hall.mono (fun q e => hp.pile q (hGF q e))
   have hwe : Win 9 encS (w'.setCell ⟨fb, 0, none⟩ (.slice (some ⟨g', off', none⟩) (k.length + 1) cap')) (.slice (some ⟨g', off', none⟩) (k.length + 1) cap') (k ++ [l]) := by
    have h1 : Win 9 encS w' (.slice (some ⟨g', off', none⟩) (k.length + 1) cap') (k ++ [l]) := WinN.toWin (n := k.length + 1) (by rw [List.map_append]; exact hwin);exact h1.keeps hks (fun q e hq => h1.ne hb' (by decide) (e.trans (congrArg some hq)))
   have hmE : MetMap (w'.setCell ⟨fb, 0, none⟩ (.slice (some ⟨g', off', none⟩) (k.length + 1) cap')) mp (k ++ [l]).reverse := by
    rw [List.reverse_append];exact ((hmap.keeps hkx id).keeps hkk hkVm).keeps hks (fun e => hfbm e.symm)
   have hsz3 : W.heap.size ≤ (w3.drew.alloc (.cells #[.string ⟨l.toArray⟩] 9)).heap.size := Nat.le_trans hk3.size hkx.size;refine ⟨hkF, since_lt hltW hkF.size, FL, FM, Since FP W (w'.setCell ⟨fb, 0, none⟩ (.slice (some ⟨g', off', none⟩) (k.length + 1) cap')), lb, mb, _, vals, hp.pileSince (hltW p hp.self.1) hL.lt hM.2.1, hall.blk hb (fun e => hp.self.2.2.2 (hGF p e)), hL.apart hall (fun q hq e => hp.lp q hq (hGF q e)), hM.apart hall (fun q hq e => hp.mp q hq (hGF q e)), ?_⟩;refine hst _ _ (.object (k ++ [l])) hall (fun q hg _ => hGQ q hg) ⟨fb, mp, _, rfl, set_at hb' _, .inl hQb, ⟨hwe, ?_⟩, fun e => by simp at e, hmE, .inl hQm⟩;intro q e;cases e;rcases hgb with h | h
   ·exact .inl (hkV.2 _ h)
   ·exact .inr ⟨Nat.le_trans hsz3 h.1, Nat.lt_of_lt_of_le h.2 hks.size⟩
  have hfin2 : ∀ (g' off' cap' : Nat) (w' : World), Keeps (fun q => kV.ownBlock = some q) (w3.drew.alloc (.cells #[.string ⟨l.toArray⟩] 9)) w' → (w'.setCell ⟨fb, 0, none⟩ (.slice (some ⟨g', off', none⟩) (k.length + 1) cap')).heap[w.heap.size]? = some (.cells #[.int .i64 at_, .int .i64 size, .string ⟨l.toArray⟩] 241 (0, 0)) := by
   intro g' off' cap' w' hkk;refine (set_else _ ?_).trans (hkk.blk (hkx.blk hnew3 id) ?_)
   ·intro e; rw [e, hfb3] at hnew3; cases hnew3
   ·intro e;obtain ⟨c, hc⟩ := hkv3.typed e;rw [hnew3] at hc; cases hc
  have HFIN := hZ hfin;have HFIN2 := hZ hfin2;have HWX := hZ hwx;have HNC := hZ hnewc;have HON := hZ hon;have HBM := hZ hbm;have HMX := hZ hmm2;have HNE := hZ hkVf;have HWG := hZ (fun (w4 : World) (h4 : ParAt (Since F W w4) w4 p { x with pile := ini ++ [.object (k ++ [l])] } s toks) => weigh_par (Since F W w4) w4 p _ s toks l at_ h4 (by exact hby) (by omega));obtain ⟨o, ho⟩ : ∃ o, Ps.weigh { x with pile := ini ++ [.object (k ++ [l])] } l at_ = o := ⟨_, rfl⟩;rw [ho] at HWG ⊢;clear ho;subst hkve;unfold encS at hlook hlook2 hup;obtain ⟨sv, hsv⟩ : ∃ sv : ByteArray, (⟨l.toArray⟩ : ByteArray) = sv := ⟨_, rfl⟩;rw [hsv] at hW hlook hlook2 hup b2 b22 d0a e1 e1a HPX HFIN HFIN2 HWX HNC HON HWG ⊢;have HKX := hZ hkx;clear hlt hnew hb hL hM hP hp hQ hcm hfb hQb hkV hkz hes hQm hd hmem hpile h hFg hll hBF hst hk2 hkW0 hltW hfin hfin2 hwx hnewc hon hbm hmm2 hkVf hkVm hkv3 hnew3 hfb3 hpm hBm hfbm hk3 hmap hturn hkx;rcases hw with hw | hw
  all_goals
   rw [hw] at c5;clear hw;go_enter func113, ntmps113;go_wp2_with fail;go_region;go_wp2_with fail;go_region
   all_goals
    go_wp2_with fail;go_region;go_wp2_with fail
    go_region_law (refine step_append_winN elemKeyN rfl _ _ rfl rfl HWX.out ⟨w3.heap.size, 0, none⟩ 1 1 [.string sv] rfl rfl HNC.out HON.out (by decide) HBM.out HMX.out ?_; intro g' off' cap' w' hwin hgb hkk; have hkk : Keeps (fun q => (Value.slice ka k.length kc).ownBlock = some q) (w3.drew.alloc (.cells #[.string sv] 9)) w' := hkk; have hb' := hkk.blk HPX.out HNE.out; have hc1 : w'.cell? ⟨fb, 0, none⟩ = some (.slice ka k.length kc) := cell_at hb'; have hf1 := free_at hb')
    all_goals
     have f1 := HFIN.out g' off' cap' w' hwin hgb hkk;have f2 := HFIN2.out g' off' cap' w' hkk;clear hwin hgb hkk hb' hc1 hf1 d0 d0a e1 e1a b0 b2 b02 b22 f12 hlook hlook2 hup c4 c5 hcu f0;obtain ⟨w4, hw4⟩ : ∃ w4, w'.setCell ⟨fb, 0, none⟩ (.slice (some ⟨g', off', none⟩) (k.length + 1) cap') = w4 := ⟨_, rfl⟩;rw [hw4] at f1 f2;have x0 : w4.cell? ⟨w.heap.size, 0, none⟩ = some (.int .i64 at_) := cell_at f2;have x2 : w4.cell? ⟨w.heap.size, 2, none⟩ = some (.string sv) := cell_at f2;have HW4 := hZ (HWG.out w4 f1.2);have HK4 := hZ f1.1;clear f1 f2;go_wp2_with fail;refine (HW4.out).mono ?_;rintro e w5 ⟨hpl, hk5, hpost⟩;have hk45 : Keeps F w w5 := (HKW.out.same HK4.out).trans hk5 (fun q h => h.elim .inl (fun h => .inr (Nat.le_trans HKW.out.size h.1)));have HK45 := hZ hk45;have HS5 := hZ hk5.size;clear hpl hk5 hk45;cases o with
     | error er =>
      obtain ⟨no, a2⟩ := er;obtain ⟨he, hdead⟩ := hpost;have HD := hZ hdead;clear hdead;unfold failE at he;subst he;go_wp2_with fail;exact ⟨rfl, .inr ⟨_, _, rfl⟩, HK45.out, rfl, HD.out⟩
     | ok y =>
      obtain ⟨he, hpar⟩ := hpost;subst he;obtain ⟨y8, y9, yf, y5, y1⟩ := hpar.cells;have HPY := hZ (par_want hpar 4);clear hpar x0 x2;go_wp2_with fail
      go_end0
      have hkz : Keeps F w (w5.setCell ⟨p, 5, none⟩ (.int .i64 4)) := HK45.out.setCell (p := ⟨p, 5, none⟩) (.inl HSF.out) _;refine ⟨.inl rfl, hkz, rfl, HPY.out.2.mono ?_ (since_lt HLT.out hkz.size)⟩;intro q h;rcases h with h | h
      ·rcases h with h | h
       ·rcases h with h | h
        ·exact .inl h
        ·exact .inr ⟨Nat.le_trans HKW.out.size h.1, by have := HS5.out; have := h.2; simp [World.setCell]; omega⟩
       ·exact .inr ⟨Nat.le_trans HKW.out.size (Nat.le_trans HK4.out.size h.1), by have := h.2; simp [World.setCell]; omega⟩
      ·exact .inr ⟨Nat.le_trans HK45.out.size h.1, h.2⟩
end Go.Proofs.YtakkmiomhackiaaGreatDoor
