/-
  The program, one part of its walk: Pb1, Pb2, Pb3, Pb4, Pb5, Pb6. Conditions: none.
-/
import Derived.Test.YtakkmiomhackiaaGreatDoorPa30
import Derived.Test.YtakkmiomhackiaaGreatDoorPa31
import Derived.StillTailTactics
import Derived.Test.YtakkmiomhackiaaGreatDoorPa00
set_option linter.all false
set_option maxRecDepth 100000
set_option maxHeartbeats 16000000
open Go.Proofs.Tryz
namespace Go.Proofs.YtakkmiomhackiaaGreatDoor
open Go.RowKit
def takePost (F : Nat → Prop) (w : World) (p : Nat) (o : Out) (e : Ending) (w' : World) : Prop :=
 Keeps F w w' ∧ match o with
 | .error (no, at_) => e = failE no at_ ∧ ParDead w' p
 | .ok y => e = .returned (.tuple #[]) ∧ ParAt (Since F w w') w' p y (.at_ y.lex false) []
theorem par_feed (F : Nat → Prop) (w : World) (p : Nat) (x : Ps) (g off : Nat) (c : UInt8) (h : ParAt F w p x (.at_ x.lex false) []) (hg : x.lex.Fine) (hc : w.cell? ⟨g, off, none⟩ = some (.int .u8 ((c.toNat : Nat) : Int))) :
 ∃ lb, w.cell? ⟨p, 2, none⟩ = some (.pointer (some ⟨lb, 0, none⟩)) ∧ Calls prog 82 #[.pointer (some ⟨lb, 0, none⟩), .slice (some ⟨g, off, none⟩) 1 1] w fun e w' => Keeps F w w' ∧ w'.cell? ⟨p, 2, none⟩ = some (.pointer (some ⟨lb, 0, none⟩)) ∧
  ((x.lex.take c).2.2.1 = 0 → e = .returned .nilIface ∧ ParAt (Since F w w') w' p x (.at_ (x.lex.take c).1 false) (x.lex.take c).2.1) ∧
  ((x.lex.take c).2.2.1 ≠ 0 → e = .returned (spotV (x.lex.take c).2.2.1 (x.lex.take c).2.2.2) ∧ ∃ s, ParAt (Since F w w') w' p x s (x.lex.take c).2.1) := by
 obtain ⟨hlt, FL, FM, FP, lb, mb, pileV, vals, hp, hb, hL, hM, hP⟩ := h;have hcl : w.cell? ⟨p, 2, none⟩ = some (.pointer (some ⟨lb, 0, none⟩)) := by rw [cell_at hb]; rfl
 refine ⟨lb, hcl, (lexFeed_fine FL w lb g off x.lex [] c hL hc hg (by simp)).mono ?_⟩;rintro e w' ⟨hk, hgd, hbd⟩;have hkF : Keeps F w w' := hk.mono hp.lex;have hM' := hM.apart hk (fun k h e => hp.lm k e h);have hP' := hP.keeps hk (fun k h e => hp.lp k e h);have hps := hp.lexSince (w := w) (w' := w') (hlt p hp.self.1) hM.2.1 hP.lt;refine ⟨hkF, hk.cell hcl hp.self.2.1, fun hn => ?_, fun hn => ?_⟩
 ·obtain ⟨rfl, hl⟩ := hgd hn;exact ⟨rfl, since_lt hlt hkF.size, _, FM, FP, lb, mb, pileV, vals, hps, hk.blk hb hp.self.2.1, hl, hM', hP'⟩
 ·obtain ⟨rfl, pl, st, hl⟩ := hbd hn;exact ⟨rfl, .dead pl st _, since_lt hlt hkF.size, _, FM, FP, lb, mb, pileV, vals, hps, hk.blk hb hp.self.2.1, hl, hM', hP'⟩
theorem par_held (F : Nat → Prop) (w : World) (p : Nat) (x : Ps) (l : Lx) (toks : List Tok) (h : ParAt F w p x (.at_ l false) toks) (hg : l.Fine) :
 ∃ lb, w.cell? ⟨p, 2, none⟩ = some (.pointer (some ⟨lb, 0, none⟩)) ∧ Calls prog 83 #[.pointer (some ⟨lb, 0, none⟩)] w fun e w' => e = .returned (.int .i64 (l.heldNow : Int)) ∧ Below w.heap.size w w' := by
 obtain ⟨hlt, FL, FM, FP, lb, mb, pileV, vals, hp, hb, hL, hM, hP⟩ := h;obtain ⟨hF, hlt2, rawV, chV, saysV, tokV, hlb, hw, hs⟩ := hL;refine ⟨lb, by rw [cell_at hb]; rfl, heldNow_any w lb l.place l.start l.isIn _ _ _ _ _ _ _ _ _ hlb hg.start (Nat.le_trans hg.place (by decide))⟩
theorem begins_keeps {x y : Ps} {c : UInt8} (h : x.begins c = .ok y) : y.lex = x.lex ∧ y.place = x.place := by
 unfold Ps.begins at h;split at h
 ·cases h; exact ⟨rfl, rfl⟩
 ·exact ⟨(value_keeps h).1, (value_keeps h).2.1⟩
theorem par_place {G : Nat → Prop} {w : World} {p : Nat} {x : Ps} {s : LS} {toks : List Tok} (h : ParAt G w p x s toks) : ParAt G (w.setCell ⟨p, 1, none⟩ (.int .i64 ((x.place : Int) + 1))) p { x with place := x.place + 1 } s toks := by
 obtain ⟨hlt, FL, FM, FP, lb, mb, pileV, vals, hp, hb, hL, hM, hP⟩ := h;have hk : Keeps (fun k => k = p) w (w.setCell ⟨p, 1, none⟩ (.int .i64 ((x.place : Int) + 1))) := (Keeps.refl (fun k => k = p) w).setCell (p := ⟨p, 1, none⟩) (.inl rfl) _;exact ⟨fun k h => Nat.lt_of_lt_of_le (hlt k h) hk.size, FL, FM, FP, lb, mb, pileV, vals, hp, set_at hb _, hL.apart hk (fun k h e => hp.self.2.1 (e ▸ h)), hM.apart hk (fun k h e => hp.self.2.2.1 (e ▸ h)), hP.keeps hk (fun k h e => hp.self.2.2.2 (e ▸ h))⟩
theorem close_take2 {F : Nat → Prop} {w w3 : World} {p pl : Nat} {q : Ps} {l : Lx} (hlt : ∀ k, F k → k < w.heap.size) (hk3 : Keeps F w w3) (hp : ParAt (Since F w w3) (w3.setCell ⟨p, 1, none⟩ (.int .i64 ((pl : Int) + 1))) p { q with place := pl + 1 } (.at_ l false) []) (hl : q.lex = l) :
 Plainly (.returned (.tuple #[])) ∧ takePost F w p (.ok { q with place := pl + 1 }) (.returned (.tuple #[])) (w3.setCell ⟨p, 1, none⟩ (.int .i64 ((pl : Int) + 1))) := by
 have hk4 : Keeps F w (w3.setCell ⟨p, 1, none⟩ (.int .i64 ((pl : Int) + 1))) := hk3.setCell (p := ⟨p, 1, none⟩) (hp.self.elim .inl (fun h => .inr h.1)) _;refine ⟨.inl rfl, hk4, rfl, ?_⟩
 show ParAt _ _ p { q with place := pl + 1 } (.at_ q.lex false) []
 rw [hl];exact hp.mono (fun k h => h.mono_r (by simp [World.setCell])) (since_lt hlt hk4.size)
theorem close_take {F : Nat → Prop} {w w3 w4 : World} {p pl : Nat} {q : Ps} {l : Lx} (hlt : ∀ k, F k → k < w.heap.size) (hk3 : Keeps F w w3) (hk4 : Keeps (Since F w w3) w3 w4) (hp : ParAt (Since (Since F w w3) w3 w4) (w4.setCell ⟨p, 1, none⟩ (.int .i64 ((pl : Int) + 1))) p { q with place := pl + 1 } (.at_ l false) []) (hl : q.lex = l) :
 Plainly (.returned (.tuple #[])) ∧ takePost F w p (.ok { q with place := pl + 1 }) (.returned (.tuple #[])) (w4.setCell ⟨p, 1, none⟩ (.int .i64 ((pl : Int) + 1))) :=
 close_take2 hlt (hk3.andThen hk4) (hp.mono (fun k h => h.trans hk3.size hk4.size) (fun k h => Nat.lt_of_lt_of_le (since_lt hlt (Nat.le_trans hk3.size hk4.size) k h) (by simp [World.setCell]))) hl
theorem par_take (F : Nat → Prop) (w : World) (p : Nat) (x : Ps) (g off : Nat) (c : UInt8) (h : ParAt F w p x (.at_ x.lex false) []) (hok : ParOk x) (hc : w.cell? ⟨g, off, none⟩ = some (.int .u8 ((c.toNat : Nat) : Int))) (hgF : ¬ F g) :
 Calls prog 56 #[.pointer (some ⟨p, 0, none⟩), .slice (some ⟨g, off, none⟩) 1 1] w fun e w' => Plainly e ∧ takePost F w p (x.take po c) e w' := by
 have hlt := h.lt;have HLT := hZ hlt;have HSF := hZ h.self;have hgl : g < w.heap.size := World.block_lt_of_cell? w _ hc;obtain ⟨lb, hc2, hfd⟩ := par_feed F w p x g off c h hok.fine hc;have hsh := take_shape hok.fine c;have hfi := fine_take hok.fine c;have hft := tokfits_take hok c;have htl := take_toks x.lex c;obtain ⟨r, hr⟩ : ∃ r, x.lex.take c = r := ⟨_, rfl⟩;rw [hr] at hfd hfi hft htl;obtain ⟨d, hd⟩ : ∃ d, Ps.drain po { x with lex := r.1 } r.2.1 = d := ⟨_, rfl⟩;have htake : x.take po c = takeOut c r d := by rw [← hd, ← hr]; rfl
 have hps : PsOk { x with lex := r.1 } (pendOf x) := hok.ps.lex r.1;have HDR := hZ (fun (G : Nat → Prop) (w1 : World) (s : LS) (h1 : ParAt G w1 p x s r.2.1) => drain_any G w1 p { x with lex := r.1 } s r.2.1 (pendOf x) h1 hfi.2 hps hft (by omega));rw [hd] at HDR;have HFD := hZ hfd;have HGF := hZ hgF;have HGL := hZ hgl;have hpla : x.place ≤ 16777216 := by rw [hok.place]; exact hok.fine.place
 have HC := hZ hc
 by_cases hno : r.2.2.1 = 0
 ·cases d with
  | error er =>
   obtain ⟨no, at_⟩ := er;rw [htake];clear htake hps hfi hft htl hsh hd hr h hok hlt hgF hgl hfd hc hpla;go_enter func56, ntmps56;go_wp2_with fail;refine (HFD.out).mono ?_;rintro e w1 ⟨hk1, hc2a, hgood, hbad⟩;obtain ⟨rfl, hp1⟩ := hgood hno;have HDC := hZ (HDR.out _ w1 _ hp1);have HK1 := hZ hk1;clear hgood hbad hp1 hk1 hno;go_wp2_with fail;refine (HDC.out).mono ?_;rintro e w2 ⟨hpl, hk2, he, hdead⟩;have HK2 := hZ hk2;have HD := hZ hdead;clear hpl hk2 hdead;unfold failE at he;subst he;go_wp2_with fail;exact ⟨rfl, .inr ⟨_, _, rfl⟩, HK1.out.andThen HK2.out, rfl, HD.out⟩
  | ok q =>
   simp only [takeOut] at htake;rw [if_neg (fun h => h hno)] at htake;have hql := drain_keeps hd;have hqo := (drain_ok' hps hfi.2 hft hd).1;have hgr := hfi.1 hno;have HQL := hZ hql.1;have hqp : q.place = x.place := hql.2;have HQO := hZ hqo;have HGR := hZ hgr;have HAFT := hZ (fun (G : Nat → Prop) (w2 : World) (h2 : ParAt G w2 p q (.at_ r.1 false) []) => par_held G w2 p q r.1 [] h2 hgr)
   by_cases hh : r.1.heldNow = 1
   ·rw [if_pos hh] at htake;have HBG := hZ (fun (G : Nat → Prop) (w3 : World) (h3 : ParAt G w3 p q (.at_ r.1 false) []) => begins_par G w3 p q (.at_ r.1 false) [] c h3 hqo.nodes);rw [hh] at HAFT;cases hbg : q.begins c with
    | error er =>
     obtain ⟨no, at_⟩ := er;rw [hbg] at htake HBG;rw [htake];clear htake hps hfi hft htl hsh hd hr h hok hlt hgF hgl hfd hc hql hqo hgr hh hbg hpla;go_enter func56, ntmps56;go_wp2_with fail;refine (HFD.out).mono ?_;rintro e w1 ⟨hk1, hc2a, hgood, hbad⟩;obtain ⟨rfl, hp1⟩ := hgood hno;have HDC := hZ (HDR.out _ w1 _ hp1);have HK1 := hZ hk1;clear hgood hbad hp1 hk1 hno;go_wp2_with fail;refine (HDC.out).mono ?_;rintro e w2 ⟨hpl, hk2, he, hp2⟩;subst he;have hk12 := HK1.out.andThen hk2;obtain ⟨lb2, hc2b, hheld⟩ := HAFT.out _ w2 hp2;have HHE := hZ hheld;have HP2 := hZ hp2;have HK12 := hZ hk12;have HSZ := hZ (And.intro HK1.out.size hk2.size);clear hpl hk2 hp2 hk12 hheld hc2a;go_wp2_with fail;refine (lexed_nil _).mono ?_;rintro e w2x ⟨rfl, rfl⟩;go_wp2_with fail;refine (HHE.out).mono ?_;rintro e w3 ⟨rfl, hb3⟩;have hk3 : Keeps F w w3 := HK12.out.below hb3;have hp3 : ParAt (Since F w w3) w3 p q (.at_ r.1 false) [] := (HP2.out.apart (Keeps.of_below (fun _ => False) hb3) (fun _ _ => id)).mono (fun k h => (h.trans HSZ.out.1 HSZ.out.2).mono_r hb3.size) (since_lt HLT.out hk3.size);have HK3 := hZ hk3;have hcg : w3.cell? ⟨g, off, none⟩ = some (.int .u8 ((c.toNat : Nat) : Int)) := hk3.cell HC.out HGF.out;have HBC := hZ (HBG.out _ w3 hp3);clear hb3 hk3 hp3 hc2b;go_wp2_with fail;refine (HBC.out).mono ?_;rintro e w4 ⟨hpl4, hk4, he4, hdead4⟩;have HK4 := hZ hk4;have HD4 := hZ hdead4;clear hpl4 hk4 hdead4;unfold failE at he4;subst he4;go_wp2_with fail;exact ⟨rfl, .inr ⟨_, _, rfl⟩, HK3.out.andThen HK4.out, rfl, HD4.out⟩
    | ok q2 =>
     rw [hbg] at htake HBG;rw [htake];have hq2 := begins_keeps hbg;have HQ2 := hZ (hq2.1.trans hql.1);have hq2p : q2.place = x.place := hq2.2.trans hqp;clear htake hps hfi hft htl hsh hd hr h hok hlt hgF hgl hfd hc hql hqo hgr hh hbg hq2;go_enter func56, ntmps56;go_wp2_with fail;refine (HFD.out).mono ?_;rintro e w1 ⟨hk1, hc2a, hgood, hbad⟩;obtain ⟨rfl, hp1⟩ := hgood hno;have HDC := hZ (HDR.out _ w1 _ hp1);have HK1 := hZ hk1;clear hgood hbad hp1 hk1 hno;go_wp2_with fail;refine (HDC.out).mono ?_;rintro e w2 ⟨hpl, hk2, he, hp2⟩;subst he;have hk12 := HK1.out.andThen hk2;obtain ⟨lb2, hc2b, hheld⟩ := HAFT.out _ w2 hp2;have HHE := hZ hheld;have HP2 := hZ hp2;have HK12 := hZ hk12;have HSZ := hZ (And.intro HK1.out.size hk2.size);clear hpl hk2 hp2 hk12 hheld hc2a;go_wp2_with fail;refine (lexed_nil _).mono ?_;rintro e w2x ⟨rfl, rfl⟩;go_wp2_with fail;refine (HHE.out).mono ?_;rintro e w3 ⟨rfl, hb3⟩;have hk3 : Keeps F w w3 := HK12.out.below hb3;have hp3 : ParAt (Since F w w3) w3 p q (.at_ r.1 false) [] := (HP2.out.apart (Keeps.of_below (fun _ => False) hb3) (fun _ _ => id)).mono (fun k h => (h.trans HSZ.out.1 HSZ.out.2).mono_r hb3.size) (since_lt HLT.out hk3.size);have HK3 := hZ hk3;have hcg : w3.cell? ⟨g, off, none⟩ = some (.int .u8 ((c.toNat : Nat) : Int)) := hk3.cell HC.out HGF.out;have HBC := hZ (HBG.out _ w3 hp3);clear hb3 hk3 hp3 hc2b;go_wp2_with fail;refine (HBC.out).mono ?_;rintro e w4 ⟨hpl4, hk4, he4, hpar4⟩;subst he4;have HK4 := hZ hk4;have HP4 := hZ hpar4;obtain ⟨hlt4, FL, FM, FP, lb4, mb4, pileV4, vals4, hp4, hb4, hL4, hM4, hP4⟩ := hpar4;obtain ⟨d0, d1, d2, d3, d4, d5, d6, d7, d8, d9, df⟩ := cells10 hb4;have HPC := hZ (par_place (HP4.out));rw [hq2p] at d1 HPC;clear hpl4 hk4 hlt4 hp4 hb4 hL4 hM4 hP4;go_wp2_with fail
     go_end0
     rw [hq2p];exact close_take HLT.out HK3.out HK4.out HPC.out HQ2.out
   ·rw [if_neg hh] at htake;rw [htake];obtain ⟨hv, hvn⟩ : ∃ hv, r.1.heldNow = hv := ⟨_, rfl⟩;rw [hvn] at HAFT hh;have hne1 : ((hv : Int) == 1) = false := by simp; omega
    clear htake hps hfi hft htl hsh hd hr h hok hlt hgF hgl hfd hc hql hqo hgr hh hvn;go_enter func56, ntmps56;go_wp2_with fail;refine (HFD.out).mono ?_;rintro e w1 ⟨hk1, hc2a, hgood, hbad⟩;obtain ⟨rfl, hp1⟩ := hgood hno;have HDC := hZ (HDR.out _ w1 _ hp1);have HK1 := hZ hk1;clear hgood hbad hp1 hk1 hno;go_wp2_with fail;refine (HDC.out).mono ?_;rintro e w2 ⟨hpl, hk2, he, hp2⟩;subst he;have hk12 := HK1.out.andThen hk2;obtain ⟨lb2, hc2b, hheld⟩ := HAFT.out _ w2 hp2;have HHE := hZ hheld;have HP2 := hZ hp2;have HK12 := hZ hk12;have HSZ := hZ (And.intro HK1.out.size hk2.size);clear hpl hk2 hp2 hk12 hheld hc2a;go_wp2_with fail;refine (lexed_nil _).mono ?_;rintro e w2x ⟨rfl, rfl⟩;go_wp2_with fail;refine (HHE.out).mono ?_;rintro e w3 ⟨rfl, hb3⟩;have hk3 : Keeps F w w3 := HK12.out.below hb3;have hp3 : ParAt (Since F w w3) w3 p q (.at_ r.1 false) [] := (HP2.out.apart (Keeps.of_below (fun _ => False) hb3) (fun _ _ => id)).mono (fun k h => (h.trans HSZ.out.1 HSZ.out.2).mono_r hb3.size) (since_lt HLT.out hk3.size);have HK3 := hZ hk3;clear hb3 hk3 hc2b;have HP3 := hZ hp3;obtain ⟨hlt4, FL, FM, FP, lb4, mb4, pileV4, vals4, hp4, hb4, hL4, hM4, hP4⟩ := hp3;obtain ⟨d0, d1, d2, d3, d4, d5, d6, d7, d8, d9, df⟩ := cells10 hb4;have HPC := hZ (par_place (HP3.out));rw [hqp] at d1 HPC;clear hlt4 hp4 hb4 hL4 hM4 hP4;go_wp2_with fail
    go_end0
    rw [hqp];exact close_take2 HLT.out HK3.out HPC.out HQL.out
 ·cases d with
  | error er =>
   obtain ⟨no, at_⟩ := er;rw [htake];clear htake hps hfi hft htl hsh hd hr h hok hlt hgF hgl hfd hc hpla;go_enter func56, ntmps56;go_wp2_with fail;refine (HFD.out).mono ?_;rintro e w1 ⟨hk1, hc2a, hgood, hbad⟩;obtain ⟨rfl, s, hp1⟩ := hbad hno;have HDC := hZ (HDR.out _ w1 _ hp1);have HK1 := hZ hk1;clear hgood hbad hp1 hk1 hno;go_wp2_with fail;refine (HDC.out).mono ?_;rintro e w2 ⟨hpl, hk2, he, hdead⟩;have HK2 := hZ hk2;have HD := hZ hdead;clear hpl hk2 hdead;unfold failE at he;subst he;go_wp2_with fail;exact ⟨rfl, .inr ⟨_, _, rfl⟩, HK1.out.andThen HK2.out, rfl, HD.out⟩
  | ok q =>
   simp only [takeOut] at htake;rw [if_pos hno] at htake;rw [htake];clear htake hps hfi hft htl hsh hd hr h hok hlt hgF hgl hfd hc hpla;go_enter func56, ntmps56;go_wp2_with fail;refine (HFD.out).mono ?_;rintro e w1 ⟨hk1, hc2a, hgood, hbad⟩;obtain ⟨rfl, s, hp1⟩ := hbad hno;have HDC := hZ (HDR.out _ w1 _ hp1);have HK1 := hZ hk1;have HLX := hZ (fun w => lexed_spot w r.2.2.1 r.2.2.2);clear hgood hbad hp1 hk1 hno;go_wp2_with fail;refine (HDC.out).mono ?_;rintro e w2 ⟨hpl, hk2, he, hpar⟩;subst he;have HK2 := hZ hk2;have HD := hZ hpar.dead;clear hpl hk2 hpar;go_wp2_with fail;refine (HLX.out _).mono ?_;rintro e w3 ⟨he, hb3⟩;have HB3 := hZ hb3;clear hb3;unfold failE at he;subst he;go_wp2_with fail;exact ⟨rfl, .inr ⟨_, _, rfl⟩, (HK1.out.andThen HK2.out).below HB3.out, rfl, HD.out.keeps (Keeps.of_below (fun _ => False) HB3.out) id⟩
theorem par_feed_append (x : Ps) (a b : List UInt8) : x.feed po (a ++ b) = (x.feed po a).bind fun y => y.feed po b := by
 unfold Ps.feed;rw [List.foldlM_append];rfl
theorem feed_take {x : Ps} {l : List UInt8} {k : Nat} (h : k < l.length) : x.feed po (l.take (k + 1)) = (x.feed po (l.take k)).bind fun y => y.take po l[k] := by
 unfold Ps.feed;rw [List.take_succ_eq_append_getElem h, List.foldlM_append];cases List.foldlM (fun p c => Ps.take po p c) x (l.take k) with
 | error e => rfl
 | ok y =>
  show List.foldlM _ y [l[k]] = y.take po l[k]
  simp only [List.foldlM_cons, List.foldlM_nil];cases y.take po l[k] <;> rfl
theorem feed_dead {x : Ps} {l : List UInt8} {k : Nat} {e : Nat × Nat} (h : x.feed po (l.take k) = .error e) : x.feed po l = .error e := by
 rw [← List.take_append_drop k l, par_feed_append, h];rfl
def BytesIn (F : Nat → Prop) (w : World) (v : Value) (l : List UInt8) : Prop := ∃ a cap, v = .slice a l.length cap ∧ l.length ≤ cap ∧ cap ≤ maxLen ∧ (l = [] ∨ ∃ g off, a = some ⟨g, off, none⟩ ∧ ¬ F g ∧ ∀ i x, l[i]? = some x → w.cell? ⟨g, off + i, none⟩ = some (.int .u8 ((x.toNat : Nat) : Int)))
def FeedInv (F : Nat → Prop) (w : World) (p : Nat) (x : Ps) (l : List UInt8) (k : Nat) (wr : World) : Prop := Keeps F w wr ∧ ∃ y, x.feed po (l.take k) = .ok y ∧ ParAt (Since F w wr) wr p y (.at_ y.lex false) [] ∧ ParOk y
theorem Keeps.undrew {F : Nat → Prop} {w w2 : World} (h : Keeps F w.drew w2) : Keeps F w w2 := ⟨h.os, h.tape, h.output, h.size, h.block⟩
theorem feedLoop_any (F : Nat → Prop) (w : World) (p B1 B2 : Nat) (x : Ps) (l : List UInt8) (v : Value) (h : ParAt F w p x (.at_ x.lex false) []) (hok : ParOk x) (hv : BytesIn F w v l) (hl : l.length ≤ 134217728)
 (h1 : w.heap[B1]? = some (.cells #[v] 22 (0, 0))) (h2 : w.heap[B2]? = some (.cells #[.pointer (some ⟨p, 0, none⟩)] 43 (0, 0))) (hB1 : ¬ F B1) (hB2 : ¬ F B2) :
 Calls prog 55 #[.pointer (some ⟨B1, 0, none⟩), .pointer (some ⟨B2, 0, none⟩)] w fun e w' => Plainly e ∧ takePost F w p (x.feed po l) e w' := by
 have HLT := hZ h.lt;obtain ⟨out, hout⟩ : ∃ out, x.feed po l = out := ⟨_, rfl⟩;rw [hout];have HOUT := hZ hout;clear hout;have hc1 := cell_of_one h1;have hl1 := lt_of_block h1;have hl2 := lt_of_block h2;have HB := hZ (fun (wr : World) (hk : Keeps F w wr) => And.intro (cell_of_one (hk.blk h1 hB1)) (cell_of_one (hk.blk h2 hB2)));have HINV := hZ (show FeedInv F w p x l 0 w from ⟨Keeps.refl _ _, x, rfl, h.mono (fun k h => .inl h) (since_lt h.lt (Nat.le_refl _)), hok⟩);obtain ⟨a, cap, rfl, hcap, hcm, hcells⟩ := hv;have HCELLS := hZ hcells;have hcm2 : cap ≤ 9223372036854775807 := by unfold maxLen at hcm; omega
 clear h hok h1 h2 hB1 hB2 hcells hcm;go_enter func55, ntmps55;go_wp2_with fail
 go_loopw [5] (fun i wr => ∃ k : Nat, k ≤ l.length ∧ i = .int .i64 k ∧ Hid (FeedInv F w p x l k wr)) (fun i _ => l.length - (intOf i).toNat)
 case atStart => exact ⟨0, by omega, rfl, HINV⟩
 case round =>
  obtain ⟨k, hk, rfl, hinv⟩ := hrel;obtain ⟨hkr, y, hy, hpar, hyo⟩ := hinv.out;clear hinv HINV;have HKR := hZ hkr;have HY := hZ hy;have HPAR := hZ hpar;have HYO := hZ hyo;obtain ⟨c1, c2⟩ := HB.out wr hkr
  by_cases hkl : k < l.length
  ·obtain ⟨g, off, rfl, hgF, hcell⟩ := HCELLS.out.resolve_left (fun e => by subst e; simp at hkl);have hck := hcell k l[k] (List.getElem?_eq_getElem hkl);have hgl : g < w.heap.size := World.block_lt_of_cell? w _ hck;have hgS : ¬ Since F w wr g := fun h => h.elim hgF (fun h => absurd hgl (Nat.not_lt.2 h.1))
   have hcr : wr.cell? ⟨g, off + k, none⟩ = some (.int .u8 ((l[k].toNat : Nat) : Int)) := hkr.cell hck hgF;have htk := par_take (Since F w wr) wr.drew p y g (off + k) l[k] (hpar.apart ((Keeps.refl (fun _ => False) wr).drew) (fun _ _ => id)) hyo hcr hgS;have hft := feed_take (x := x) hkl;rw [hy] at hft;have hft : x.feed po (l.take (k + 1)) = y.take po l[k] := hft;have HFT := hZ hft;have hyo2 := fun z (h : y.take po l[k] = .ok z) => hyo.take h
   have HYO2 := hZ hyo2;obtain ⟨o, ho⟩ : ∃ o, y.take po l[k] = o := ⟨_, rfl⟩;rw [ho] at htk;have HO := hZ ho;have HTK := hZ htk;clear hkr hy hpar hyo hck hgF hcell hgS hcr htk hft hyo2 ho hc1;go_wp2_with fail;have hi1 : IntKind.i64.wrap ((k : Int) + 1) = (k : Int) + 1 := by rw [IntKind.wrap_i64]; omega
   have hb1 : (0 : Int) ≤ (k : Int) + 1 := by omega
   have hb2 : (k : Int) + 1 ≤ (cap : Int) := by omega
   cases o with
   | error er =>
    obtain ⟨no, at_⟩ := er;obtain rfl : out = .error (no, at_) := HOUT.out.symm.trans (feed_dead (HFT.out.trans HO.out))
    go_still_tail 8, (by kernel_rfl)
    go_wp2_with fail;refine (HTK.out).mono ?_;rintro e w2 ⟨hpl2, hk2, he2, hdead2⟩;clear hpl2;have HK2 := hZ hk2.undrew;have HD2 := hZ hdead2;clear hk2 hdead2;unfold failE at he2;subst he2;go_wp2_with fail;exact ⟨rfl, .inr ⟨_, _, rfl⟩, HKR.out.andThen HK2.out, rfl, HD2.out⟩
   | ok z =>
    go_region_with (go_at_call 56; refine (HTK.out).mono ?_; rintro e w2 ⟨hpl2, hk2, he2, hpar2⟩; clear hpl2; have HK2 := hZ hk2.undrew; have HP2 := hZ hpar2; clear hk2 hpar2; subst he2)
    all_goals
     go_wp2_with fail
     go_roundw
     case rel => exact ⟨k + 1, by omega, by go_num, hZ ⟨HKR.out.andThen HK2.out, z, HFT.out.trans HO.out, HP2.out.mono (fun k h => h.trans HKR.out.size HK2.out.size) (since_lt HLT.out (HKR.out.andThen HK2.out).size), HYO2.out z HO.out⟩⟩
     case measure => simp [intOf]; omega
  ·have hke : k = l.length := by omega
   subst hke;have hy2 := HY.out;rw [List.take_length] at hy2;have HY2 := hZ hy2;clear hkr hy hpar hyo hy2 hc1;go_wp2_with fail
   go_end0
   obtain rfl : out = .ok y := HOUT.out.symm.trans HY2.out;exact ⟨.inl rfl, HKR.out, rfl, HPAR.out⟩
def CaughtPost (w : World) (Q : Ending → World → Prop) (e : Ending) (w' : World) : Prop :=
 ∃ w1, (Q (.returned (.tuple #[])) w1 ∧ e = .returned .nilIface ∧ w' = w1.setCell ⟨w.heap.size, 0, none⟩ .nilIface) ∨ (∃ no at_, Q (failE no at_) w1 ∧ e = .returned (spotV no at_) ∧ w' = w1.setCell ⟨w.heap.size, 0, none⟩ (spotV no at_))
theorem caught_feed (w : World) (B1 B2 : Nat) (Q : Ending → World → Prop) (hcall : Calls prog 55 #[.pointer (some ⟨B1, 0, none⟩), .pointer (some ⟨B2, 0, none⟩)] (w.alloc (.cells #[.nilIface] 26)) fun e w' => Plainly e ∧ Q e w') (hR : ∀ e w', Q e w' → w'.heap[w.heap.size]? = some (.cells #[.nilIface] 26 (0, 0))) :
 Calls prog 52 #[.func (.func 55) #[] #[.pointer (some ⟨B1, 0, none⟩), .pointer (some ⟨B2, 0, none⟩)]] w (CaughtPost w Q) := by
 have hmf : ∀ (fn : Fn) (first cap : Array Value) (w : World), (Instr.makeFunc fn first cap).run prog w = .ok (.func fn first cap) w := fun _ _ _ _ => rfl
 have HC := hZ hcall;have HR := hZ hR;clear hcall hR
 go_enter_defers func52, ntmps52
 go_wp2_with fail;refine (HC.out).mono ?_;rintro e w1 ⟨rfl | ⟨no, at_, he⟩, hq⟩
 ·have hr := HR.out _ _ hq;have hc0 := cell_of_one hr;have hf0 := free_of_one hr;have hcs : (w1.setCell ⟨w.heap.size, 0, none⟩ .nilIface).cell? ⟨w.heap.size, 0, none⟩ = some .nilIface := by rw [cell_at (set_at hr _)]; rfl
  have HQ := hZ hq;clear hq hr;go_wp2_with fail;refine leaves_cons (f := 77) (args := #[.pointer (some ⟨w.heap.size, 0, none⟩)]) (by simp) (by simp [go_sem]) ?_;refine (catch_idle ⟨w.heap.size, 0, none⟩ _).mono ?_;rintro e u' w'' ⟨rfl, rfl, rfl⟩;have hend : CaughtPost w Q (.returned .nilIface) (w1.setCell ⟨w.heap.size, 0, none⟩ .nilIface) := ⟨w1, .inl ⟨HQ.out, rfl, rfl⟩⟩;simp [Leaves, settle, results, results52, go_sem, hcs];exact hend
 ·have hr := HR.out _ _ hq;have hc0 := cell_of_one hr;have hf0 := free_of_one hr;have hcs : (w1.setCell ⟨w.heap.size, 0, none⟩ (.iface 151 (.agg #[.int .i64 no, .int .i64 at_]))).cell? ⟨w.heap.size, 0, none⟩ = some (.iface 151 (.agg #[.int .i64 no, .int .i64 at_])) := by rw [cell_at (set_at hr _)]; rfl
  have HQ := hZ hq;have HE := hZ he;clear hq hr;unfold failE spotV at he;subst he;go_wp2_with fail;refine leaves_cons (f := 77) (args := #[.pointer (some ⟨w.heap.size, 0, none⟩)]) (by simp) (by simp [go_sem]) ?_;refine (catch_spot ⟨w.heap.size, 0, none⟩ .nilIface no at_ [] _ hc0 hf0).mono ?_;rintro e u' w'' ⟨rfl, rfl, rfl⟩;have hend : CaughtPost w Q (.returned (spotV no at_)) (w1.setCell ⟨w.heap.size, 0, none⟩ (spotV no at_)) := ⟨w1, .inr ⟨no, at_, HQ.out, rfl, rfl⟩⟩;simp [Leaves, settle, results, results52, go_sem, hcs];exact hend
theorem caught_finish (w : World) (p : Nat) (Q : Ending → World → Prop) (hcall : Calls prog 53 #[.pointer (some ⟨p, 0, none⟩)] (w.alloc (.cells #[.nilIface] 26)) fun e w' => Plainly e ∧ Q e w') (hR : ∀ e w', Q e w' → w'.heap[w.heap.size]? = some (.cells #[.nilIface] 26 (0, 0))) :
 Calls prog 52 #[.func (.func 53) #[.pointer (some ⟨p, 0, none⟩)] #[]] w (CaughtPost w Q) := by
 have hmf : ∀ (fn : Fn) (first cap : Array Value) (w : World), (Instr.makeFunc fn first cap).run prog w = .ok (.func fn first cap) w := fun _ _ _ _ => rfl
 have HC := hZ hcall;have HR := hZ hR;clear hcall hR
 go_enter_defers func52, ntmps52
 go_wp2_with fail;refine (HC.out).mono ?_;rintro e w1 ⟨rfl | ⟨no, at_, he⟩, hq⟩
 ·have hr := HR.out _ _ hq;have hc0 := cell_of_one hr;have hf0 := free_of_one hr;have hcs : (w1.setCell ⟨w.heap.size, 0, none⟩ .nilIface).cell? ⟨w.heap.size, 0, none⟩ = some .nilIface := by rw [cell_at (set_at hr _)]; rfl
  have HQ := hZ hq;clear hq hr;go_wp2_with fail;refine leaves_cons (f := 77) (args := #[.pointer (some ⟨w.heap.size, 0, none⟩)]) (by simp) (by simp [go_sem]) ?_;refine (catch_idle ⟨w.heap.size, 0, none⟩ _).mono ?_;rintro e u' w'' ⟨rfl, rfl, rfl⟩;have hend : CaughtPost w Q (.returned .nilIface) (w1.setCell ⟨w.heap.size, 0, none⟩ .nilIface) := ⟨w1, .inl ⟨HQ.out, rfl, rfl⟩⟩;simp [Leaves, settle, results, results52, go_sem, hcs];exact hend
 ·have hr := HR.out _ _ hq;have hc0 := cell_of_one hr;have hf0 := free_of_one hr;have hcs : (w1.setCell ⟨w.heap.size, 0, none⟩ (.iface 151 (.agg #[.int .i64 no, .int .i64 at_]))).cell? ⟨w.heap.size, 0, none⟩ = some (.iface 151 (.agg #[.int .i64 no, .int .i64 at_])) := by rw [cell_at (set_at hr _)]; rfl
  have HQ := hZ hq;have HE := hZ he;clear hq hr;unfold failE spotV at he;subst he;go_wp2_with fail;refine leaves_cons (f := 77) (args := #[.pointer (some ⟨w.heap.size, 0, none⟩)]) (by simp) (by simp [go_sem]) ?_;refine (catch_spot ⟨w.heap.size, 0, none⟩ .nilIface no at_ [] _ hc0 hf0).mono ?_;rintro e u' w'' ⟨rfl, rfl, rfl⟩;have hend : CaughtPost w Q (.returned (spotV no at_)) (w1.setCell ⟨w.heap.size, 0, none⟩ (spotV no at_)) := ⟨w1, .inr ⟨no, at_, HQ.out, rfl, rfl⟩⟩;simp [Leaves, settle, results, results52, go_sem, hcs];exact hend
theorem par_errnil {G : Nat → Prop} {w : World} {p : Nat} {x : Ps} {s : LS} {toks : List Tok} (h : ParAt G w p x s toks) : ParAt G (w.setCell ⟨p, 8, none⟩ .nilIface) p x s toks := by
 obtain ⟨hlt, FL, FM, FP, lb, mb, pileV, vals, hp, hb, hL, hM, hP⟩ := h;have hk : Keeps (fun k => k = p) w (w.setCell ⟨p, 8, none⟩ .nilIface) := (Keeps.refl (fun k => k = p) w).setCell (p := ⟨p, 8, none⟩) (.inl rfl) _;exact ⟨fun k h => Nat.lt_of_lt_of_le (hlt k h) hk.size, FL, FM, FP, lb, mb, pileV, vals, hp, set_at hb _, hL.apart hk (fun k h e => hp.self.2.1 (e ▸ h)), hM.apart hk (fun k h e => hp.self.2.2.1 (e ▸ h)), hP.keeps hk (fun k h e => hp.self.2.2.2 (e ▸ h))⟩
def feedPost (F : Nat → Prop) (w : World) (p : Nat) (o : Out) (e : Ending) (w' : World) : Prop :=
 Keeps F w w' ∧ match o with
 | .error (no, at_) => e = .returned (spotV no at_)
 | .ok y => e = .returned .nilIface ∧ ParAt (Since F w w') w' p y (.at_ y.lex false) []
theorem parFeed_any (F : Nat → Prop) (w : World) (p : Nat) (x : Ps) (l : List UInt8) (v : Value) (h : ParAt F w p x (.at_ x.lex false) []) (hok : ParOk x) (hv : BytesIn F w v l) (hl : l.length ≤ 134217728) :
 Calls prog 18 #[.pointer (some ⟨p, 0, none⟩), v] w fun e w' => feedPost F w p (x.feed po l) e w' := by
 have hmf : ∀ (fn : Fn) (first cap : Array Value) (w : World), (Instr.makeFunc fn first cap).run prog w = .ok (.func fn first cap) w := fun _ _ _ _ => rfl
 have hv0 := hv;obtain ⟨a, cap, hve, _⟩ := hv0;have hlt := h.lt;have hself := h.self;have hpl := hlt p hself;obtain ⟨W, hW⟩ : ∃ W, (w.alloc (.cells #[.pointer (some ⟨p, 0, none⟩)] 43)).alloc (.cells #[v] 22) = W := ⟨_, rfl⟩;have hkW : Keeps (fun _ => False) w W := by rw [← hW]; exact ((Keeps.refl _ w).alloc _).alloc _
 have hb2 : W.heap[w.heap.size]? = some (.cells #[.pointer (some ⟨p, 0, none⟩)] 43 (0, 0)) := by rw [← hW]; exact (Below.heap_alloc _ _ _ (by simp)).trans (heap_alloc_new w _)
 have hb1 : W.heap[w.heap.size + 1]? = some (.cells #[v] 22 (0, 0)) := by rw [← hW]; have := heap_alloc_new (w.alloc (.cells #[.pointer (some ⟨p, 0, none⟩)] 43)) (.cells #[v] 22); rwa [World.size_alloc] at this
 have hsz : W.heap.size = w.heap.size + 2 := by rw [← hW]; simp
 have hpW := h.apart hkW (fun _ _ => id);obtain ⟨c8, c9, cf, c5, c1⟩ := hpW.cells;have hR0 := heap_alloc_new W.drew (.cells #[.nilIface] 26);have hkX : Keeps (fun _ => False) W (W.drew.alloc (.cells #[.nilIface] 26)) := ((Keeps.refl _ W).drew).alloc _;have hnF : ∀ k, w.heap.size ≤ k → ¬ F k := fun k hk hf => absurd (hlt k hf) (Nat.not_lt.2 hk)
 have hloop := feedLoop_any F (W.drew.alloc (.cells #[.nilIface] 26)) p (w.heap.size + 1) w.heap.size x l v (hpW.apart hkX (fun _ _ => id)) hok
  (by obtain ⟨a, cap, h1, h2, h3, h4⟩ := hv; exact ⟨a, cap, h1, h2, h3, h4.imp id (fun ⟨g, off, e1, e2, e3⟩ => ⟨g, off, e1, e2, fun i x hi => (hkW.same hkX).cell (e3 i x hi) id⟩)⟩) hl (hkX.blk hb1 id) (hkX.blk hb2 id) (hnF _ (by omega)) (hnF _ (Nat.le_refl _))
 have hRn : ¬ F W.heap.size := hnF _ (by omega);have hcau := caught_feed W.drew (w.heap.size + 1) w.heap.size _ hloop (fun e w' hq => hq.1.blk hR0 hRn);have hwk : Keeps F w (W.drew.alloc (.cells #[.nilIface] 26)) := ((hkW.same hkX).mono fun _ h => h.elim);obtain ⟨out, hout⟩ : ∃ out, x.feed po l = out := ⟨_, rfl⟩;rw [hout] at hcau ⊢;have HLT := hZ hlt;have HSF := hZ hself;have hp8 : p ≠ W.heap.size := by omega
 have HWP := hZ (show w.heap.size ≠ p by omega);cases out with
 | error er =>
  obtain ⟨no, at_⟩ := er
  have HC := hZ (hcau.mono (R' := fun e w2 => e = .returned (spotV no at_) ∧ Keeps F w w2 ∧ (∃ u, w2.cell? ⟨p, 8, none⟩ = some u) ∧ (∀ o, w2.frozen? ⟨p, o, none⟩ = false) ∧ w2.cell? ⟨w.heap.size, 0, none⟩ = some (.pointer (some ⟨p, 0, none⟩))) fun e w2 hq => by
   obtain ⟨w1, hq⟩ := hq
   have hq1 : takePost F (W.drew.alloc (.cells #[.nilIface] 26)) p (.error (no, at_)) (failE no at_) w1 ∧ e = .returned (spotV no at_) ∧ w2 = w1.setCell ⟨W.heap.size, 0, none⟩ (spotV no at_) := by
    rcases hq with ⟨h1, _, _⟩ | ⟨no', at', h1, h2, h3⟩
    ·have := h1.2.1;unfold failE at this;cases this
    ·have h4 := h1.2.1;unfold failE spotV at h4;injection h4 with h4
     simp at h4;obtain ⟨e1, e2⟩ := h4;obtain rfl : no' = no := by omega
     obtain rfl : at' = at_ := by omega
     exact ⟨h1, h2, h3⟩
   obtain ⟨⟨hk, _, v0, v1, v2, v3, v4, v5, v6, v7, v8, v9, hb⟩, rfl, rfl⟩ := hq1;have hb' := (set_else (w := w1) (b := W.heap.size) (o := 0) (k := p) (spotV no at_) hp8).trans hb;obtain ⟨d0, d1, d2, d3, d4, d5, d6, d7, d8, d9, df⟩ := cells10 hb';have hbx : (w1.setCell ⟨W.heap.size, 0, none⟩ (spotV no at_)).heap[w.heap.size]? = _ := (set_else (w := w1) (b := W.heap.size) (o := 0) (k := w.heap.size) (spotV no at_) (by omega)).trans (hk.blk (hkX.blk hb2 id) (hnF _ (Nat.le_refl _)));exact ⟨rfl, (hwk.same hk).setCell (p := ⟨W.heap.size, 0, none⟩) (.inr (by rw [hsz]; exact Nat.le_add_right _ 2)) _, ⟨_, d8⟩, df, cell_of_one hbx⟩)
  have k0 := cell_of_one hb1;have k1 := cell_of_one hb2;subst hve;clear hpW hR0 hkX hnF hloop hRn hcau hwk hout h hok hlt hself hb1 hb2 hkW hv;subst hW;go_enter func18, ntmps18;go_wp2_with fail
  go_region_with (go_at_call 52; refine (HC.out).mono ?_; rintro e w2 ⟨he, hk2, ⟨u, hu⟩, hf2, hbx⟩; unfold spotV at he; subst he)
  all_goals
   have HK2 := hZ hk2;have hbx2 : w2.heap[w.heap.size]? = w2.heap[w.heap.size]? := rfl;have hcx : (w2.setCell ⟨p, 8, none⟩ (.iface 151 (.agg #[.int .i64 no, .int .i64 at_]))).cell? ⟨p, 8, none⟩ = some (.iface 151 (.agg #[.int .i64 no, .int .i64 at_])) := World.cell?_setCell_same' _ _ _ (by rw [hu]; rfl)
   have hbx3 : (w2.setCell ⟨p, 8, none⟩ (.iface 151 (.agg #[.int .i64 no, .int .i64 at_]))).cell? ⟨w.heap.size, 0, none⟩ = some (.pointer (some ⟨p, 0, none⟩)) := by
    rw [World.cell?_of_block (set_else _ HWP.out)]; exact hbx
   clear hk2 hbx2;go_wp2_with fail;go_ret;exact ⟨HK2.out.setCell (p := ⟨p, 8, none⟩) (.inl HSF.out) _, rfl⟩
 | ok y =>
  have HC := hZ (hcau.mono (R' := fun e w2 => e = .returned .nilIface ∧ Keeps F w w2 ∧ ParAt (Since F w w2) w2 p y (.at_ y.lex false) [] ∧ w2.cell? ⟨w.heap.size, 0, none⟩ = some (.pointer (some ⟨p, 0, none⟩))) fun e w2 hq => by
   obtain ⟨w1, hq⟩ := hq
   have hq1 : takePost F (W.drew.alloc (.cells #[.nilIface] 26)) p (.ok y) (.returned (.tuple #[])) w1 ∧ e = .returned .nilIface ∧ w2 = w1.setCell ⟨W.heap.size, 0, none⟩ .nilIface := by
    rcases hq with h | ⟨no', at', h1, h2, h3⟩
    ·exact h
    ·have h4 := h1.2.1;unfold failE at h4;cases h4
   obtain ⟨⟨hk, _, hpar⟩, rfl, rfl⟩ := hq1;have hsX : (W.drew.alloc (.cells #[.nilIface] 26)).heap.size = W.heap.size + 1 := by simp
   have hks : Keeps (fun k => k = W.heap.size) w1 (w1.setCell ⟨W.heap.size, 0, none⟩ .nilIface) := (Keeps.refl (fun k => k = W.heap.size) w1).setCell (p := ⟨W.heap.size, 0, none⟩) (.inl rfl) _;have hpar2 := hpar.apart hks (fun k h e => h.elim (fun h => hRn (e ▸ h)) (fun h => by have := h.1; omega));have hkk : Keeps F w (w1.setCell ⟨W.heap.size, 0, none⟩ .nilIface) := (hwk.same hk).setCell (p := ⟨W.heap.size, 0, none⟩) (.inr (by rw [hsz]; exact Nat.le_add_right _ 2)) _;have hbx : (w1.setCell ⟨W.heap.size, 0, none⟩ .nilIface).heap[w.heap.size]? = _ := (set_else (w := w1) (b := W.heap.size) (o := 0) (k := w.heap.size) .nilIface (by omega)).trans (hk.blk (hkX.blk hb2 id) (hnF _ (Nat.le_refl _)));exact ⟨rfl, hkk, hpar2.mono (fun k h => h.elim .inl (fun h => .inr ⟨Nat.le_trans hwk.size h.1, Nat.lt_of_lt_of_le h.2 hks.size⟩)) (since_lt hlt hkk.size), cell_of_one hbx⟩)
  have k0 := cell_of_one hb1;have k1 := cell_of_one hb2;subst hve;clear hpW hR0 hkX hnF hloop hRn hcau hwk hout h hok hlt hself hb1 hb2 hkW hv;subst hW;go_enter func18, ntmps18;go_wp2_with fail
  go_region_with (go_at_call 52; refine (HC.out).mono ?_; rintro e w2 ⟨rfl, hk2, hp2, hbx⟩; have hpc2 := hp2.cells; have hu := hpc2.1; have hf2 := hpc2.2.2.1)
  all_goals
   have HK2 := hZ hk2;have HP2 := hZ hp2;have HPE := hZ (par_errnil hp2);have hcx : (w2.setCell ⟨p, 8, none⟩ .nilIface).cell? ⟨p, 8, none⟩ = some .nilIface := World.cell?_setCell_same' _ _ _ (by rw [hu]; rfl)
   have hbx3 : (w2.setCell ⟨p, 8, none⟩ .nilIface).cell? ⟨w.heap.size, 0, none⟩ = some (.pointer (some ⟨p, 0, none⟩)) := by
    rw [World.cell?_of_block (set_else _ HWP.out)]; exact hbx
   clear hk2 hp2 hpc2;go_wp2_with fail;go_ret;exact ⟨HK2.out.setCell (p := ⟨p, 8, none⟩) (.inl HSF.out) _, rfl, HPE.out.mono (fun k h => h.mono_r (by simp [World.setCell])) (fun k h => Nat.lt_of_lt_of_le (HP2.out.lt k (h.mono_r (by simp [World.setCell]))) (by simp [World.setCell]))⟩
def finPost (F : Nat → Prop) (w : World) (p : Nat) (o : Out) (e : Ending) (w' : World) : Prop :=
 Keeps F w w' ∧ match o with
 | .error (no, at_) => e = failE no at_ ∧ ParDead w' p
 | .ok y => e = .returned (.tuple #[]) ∧ ∃ s, ParAt (Since F w w') w' p y s []
theorem par_end (F : Nat → Prop) (w : World) (p : Nat) (x : Ps) (h : ParAt F w p x (.at_ x.lex false) []) (hg : x.lex.Fine) :
 ∃ lb, w.cell? ⟨p, 2, none⟩ = some (.pointer (some ⟨lb, 0, none⟩)) ∧ Calls prog 78 #[.pointer (some ⟨lb, 0, none⟩)] w fun e w' => Keeps F w w' ∧
  (x.lex.ended.2.2.1 = 0 → e = .returned .nilIface ∧ ∃ s, ParAt (Since F w w') w' p x s x.lex.ended.2.1) ∧
  (x.lex.ended.2.2.1 ≠ 0 → e = .returned (spotV x.lex.ended.2.2.1 x.lex.ended.2.2.2) ∧ ∃ s, ParAt (Since F w w') w' p x s x.lex.ended.2.1) := by
 obtain ⟨hlt, FL, FM, FP, lb, mb, pileV, vals, hp, hb, hL, hM, hP⟩ := h;refine ⟨lb, by rw [cell_at hb]; rfl, (lexEnd_any FL w lb x.lex [] hL hg.number hg.numeral hg.place hg.start (ended_shape hg).2.2.2.2 (by simp)).mono ?_⟩;rintro e w' ⟨hk, hgd, hbd⟩;have hkF : Keeps F w w' := hk.mono hp.lex;have hM' := hM.apart hk (fun k h e => hp.lm k e h);have hP' := hP.keeps hk (fun k h e => hp.lp k e h);have hps := hp.lexSince (w := w) (w' := w') (hlt p hp.self.1) hM.2.1 hP.lt;refine ⟨hkF, fun hn => ?_, fun hn => ?_⟩
 ·obtain ⟨rfl, hl⟩ := hgd hn;exact ⟨rfl, .at_ _ true, since_lt hlt hkF.size, _, FM, FP, lb, mb, pileV, vals, hps, hk.blk hb hp.self.2.1, hl, hM', hP'⟩
 ·obtain ⟨rfl, pl, st, hl⟩ := hbd hn;exact ⟨rfl, .dead pl st _, since_lt hlt hkF.size, _, FM, FP, lb, mb, pileV, vals, hps, hk.blk hb hp.self.2.1, hl, hM', hP'⟩
theorem ended_toks (x : Lx) : x.ended.2.1.length ≤ 1 := by
 unfold Lx.ended;split
 ·simp
 ·split
  ·simp
  ·cases x.finish with
   | none => simp
   | some p => simp
theorem par_finish (F : Nat → Prop) (w : World) (p : Nat) (x : Ps) (h : ParAt F w p x (.at_ x.lex false) []) (hok : ParOk x) :
 Calls prog 53 #[.pointer (some ⟨p, 0, none⟩)] w fun e w' => Plainly e ∧ finPost F w p (x.finish po) e w' := by
 have hlt := h.lt;have HLT := hZ hlt;obtain ⟨lb, hc2, hfd⟩ := par_end F w p x h hok.fine;have htk := fine_ended (x := x.lex);have hft := hok.fitsEnd;have htl := ended_toks x.lex;obtain ⟨r, hr⟩ : ∃ r, x.lex.ended = r := ⟨_, rfl⟩;rw [hr] at hfd htk htl hft;obtain ⟨d, hd⟩ : ∃ d, Ps.drain po { x with lex := r.1 } r.2.1 = d := ⟨_, rfl⟩;have htake : x.finish po = finOut r d := by rw [← hd, ← hr]; rfl
 have hps : PsOk { x with lex := r.1 } (pendOf x) := hok.ps.lex r.1;have HDR := hZ (fun (G : Nat → Prop) (w1 : World) (s : LS) (h1 : ParAt G w1 p x s r.2.1) => drain_any G w1 p { x with lex := r.1 } s r.2.1 (pendOf x) h1 htk hps hft (by omega));rw [hd] at HDR;have HFD := hZ hfd
 by_cases hno : r.2.2.1 = 0
 ·have HG := hZ (show ∀ (e : Ending) (w' : World), ((r.2.2.1 = 0 → e = .returned .nilIface ∧ ∃ s, ParAt (Since F w w') w' p x s r.2.1) ∧ (r.2.2.1 ≠ 0 → e = .returned (spotV r.2.2.1 r.2.2.2) ∧ ∃ s, ParAt (Since F w w') w' p x s r.2.1)) → e = .returned .nilIface ∧ ∃ s, ParAt (Since F w w') w' p x s r.2.1 from fun e w' h => h.1 hno);cases d with
  | error er =>
   obtain ⟨no, at_⟩ := er;rw [htake];clear htake hps htk htl hft hd hr h hok hlt hfd hno;go_enter func53, ntmps53;go_wp2_with fail;refine (HFD.out).mono ?_;rintro e w1 ⟨hk1, hgb⟩;obtain ⟨rfl, s, hp1⟩ := HG.out _ _ hgb;have HDC := hZ (HDR.out _ w1 _ hp1);have HK1 := hZ hk1;clear hgb hp1 hk1;go_wp2_with fail;refine (HDC.out).mono ?_;rintro e w2 ⟨hpl, hk2, he, hdead⟩;have HK2 := hZ hk2;have HD := hZ hdead;clear hpl hk2 hdead;unfold failE at he;subst he;go_wp2_with fail;exact ⟨rfl, .inr ⟨_, _, rfl⟩, HK1.out.andThen HK2.out, rfl, HD.out⟩
  | ok q =>
   simp only [finOut] at htake;rw [if_neg (fun h => h hno)] at htake
   have hwant : (q.want ≠ 6 ∧ ((q.want : Int) != 6) = true) ∨ (q.want = 6 ∧ ((q.want : Int) != 6) = false) := by
    by_cases h6 : q.want = 6
    ·exact .inr ⟨h6, by simp; omega⟩
    ·exact .inl ⟨h6, by simp; omega⟩
   rcases hwant with ⟨hw6, e6⟩ | ⟨hw6, e6⟩
   ·rw [if_pos hw6] at htake;rw [htake];have HFA := hZ (fun w => fail_any w 95 q.place);clear htake hps htk htl hft hd hr h hok hlt hfd hno hw6;go_enter func53, ntmps53;go_wp2_with fail;refine (HFD.out).mono ?_;rintro e w1 ⟨hk1, hgb⟩;obtain ⟨rfl, s, hp1⟩ := HG.out _ _ hgb;have HDC := hZ (HDR.out _ w1 _ hp1);have HK1 := hZ hk1;clear hgb hp1 hk1;go_wp2_with fail;refine (HDC.out).mono ?_;rintro e w2 ⟨hpl, hk2, he, hp2⟩;subst he;have HK2 := hZ hk2;obtain ⟨c8, c9, cf, c5, c1⟩ := hp2.cells;clear hpl hk2;have HPL2 := hZ hp2.dead;clear hp2;go_wp2_with fail;refine (lexed_nil _).mono ?_;rintro e w3 ⟨rfl, rfl⟩;go_wp2_with fail;refine (HFA.out _).mono ?_;rintro e w3 ⟨he, rfl⟩;unfold failE at he;subst he;go_wp2_with fail;exact ⟨rfl, .inr ⟨_, _, rfl⟩, HK1.out.andThen HK2.out, rfl, HPL2.out⟩
   ·rw [if_neg (fun h => h hw6)] at htake;rw [htake];clear htake hps htk htl hft hd hr h hok hlt hfd hno hw6;go_enter func53, ntmps53;go_wp2_with fail;refine (HFD.out).mono ?_;rintro e w1 ⟨hk1, hgb⟩;obtain ⟨rfl, s, hp1⟩ := HG.out _ _ hgb;have HDC := hZ (HDR.out _ w1 _ hp1);have HK1 := hZ hk1;clear hgb hp1 hk1;go_wp2_with fail;refine (HDC.out).mono ?_;rintro e w2 ⟨hpl, hk2, he, hp2⟩;subst he;have HK2 := hZ hk2;obtain ⟨c8, c9, cf, c5, c1⟩ := hp2.cells;clear hpl hk2;have HP2 := hZ hp2;clear hp2;go_wp2_with fail;refine (lexed_nil _).mono ?_;rintro e w3 ⟨rfl, rfl⟩;go_wp2_with fail
    go_end0
    have hk := HK1.out.andThen HK2.out;exact ⟨.inl rfl, hk, rfl, s, HP2.out.mono (fun k h => h.trans HK1.out.size HK2.out.size) (since_lt HLT.out hk.size)⟩
 ·have HG := hZ (show ∀ (e : Ending) (w' : World), ((r.2.2.1 = 0 → e = .returned .nilIface ∧ ∃ s, ParAt (Since F w w') w' p x s r.2.1) ∧ (r.2.2.1 ≠ 0 → e = .returned (spotV r.2.2.1 r.2.2.2) ∧ ∃ s, ParAt (Since F w w') w' p x s r.2.1)) → e = .returned (spotV r.2.2.1 r.2.2.2) ∧ ∃ s, ParAt (Since F w w') w' p x s r.2.1 from fun e w' h => h.2 hno);have HLX := hZ (fun w => lexed_spot w r.2.2.1 r.2.2.2);cases d with
  | error er =>
   obtain ⟨no, at_⟩ := er;rw [htake];clear htake hps htk htl hft hd hr h hok hlt hfd hno;go_enter func53, ntmps53;go_wp2_with fail;refine (HFD.out).mono ?_;rintro e w1 ⟨hk1, hgb⟩;obtain ⟨rfl, s, hp1⟩ := HG.out _ _ hgb;have HDC := hZ (HDR.out _ w1 _ hp1);have HK1 := hZ hk1;clear hgb hp1 hk1;go_wp2_with fail;refine (HDC.out).mono ?_;rintro e w2 ⟨hpl, hk2, he, hdead⟩;have HK2 := hZ hk2;have HD := hZ hdead;clear hpl hk2 hdead;unfold failE at he;subst he;go_wp2_with fail;exact ⟨rfl, .inr ⟨_, _, rfl⟩, HK1.out.andThen HK2.out, rfl, HD.out⟩
  | ok q =>
   simp only [finOut] at htake;rw [if_pos hno] at htake;rw [htake];clear htake hps htk htl hft hd hr h hok hlt hfd hno;go_enter func53, ntmps53;go_wp2_with fail;refine (HFD.out).mono ?_;rintro e w1 ⟨hk1, hgb⟩;obtain ⟨rfl, s, hp1⟩ := HG.out _ _ hgb;have HDC := hZ (HDR.out _ w1 _ hp1);have HK1 := hZ hk1;clear hgb hp1 hk1;go_wp2_with fail;refine (HDC.out).mono ?_;rintro e w2 ⟨hpl, hk2, he, hpar⟩;subst he;have HK2 := hZ hk2;have HD := hZ hpar.dead;clear hpl hk2 hpar;go_wp2_with fail;refine (HLX.out _).mono ?_;rintro e w3 ⟨he, hb3⟩;have HB3 := hZ hb3;clear hb3;unfold failE at he;subst he;go_wp2_with fail;exact ⟨rfl, .inr ⟨_, _, rfl⟩, (HK1.out.andThen HK2.out).below HB3.out, rfl, HD.out.keeps (Keeps.of_below (fun _ => False) HB3.out) id⟩
end Go.Proofs.YtakkmiomhackiaaGreatDoor
