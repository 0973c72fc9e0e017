/-
  Package parse: what is open ends.
-/
import Derived.Test.YtakkmiomhackiaaGreatDoorPc31
set_option linter.all false
set_option maxRecDepth 100000
set_option maxHeartbeats 16000000
namespace Go.Proofs.YtakkmiomhackiaaGreatDoor
open Go.RowKit
theorem end_list (F : Nat → Prop) (w : World) (p : Nat) (x : Ps) (s : LS) (toks : List Tok) (ini : List Fr) (m : Nat) (h : ParAt F w p x s toks) (hpile : x.pile = ini ++ [.list m]) (hin : ∀ t ∈ x.items, t.sized.within = true) (hit : x.items.length ≤ 65536) (hm : ∀ m, Fr.list m ∈ x.pile → m ≤ 1073741824) (hil : ini.length ≤ 1048576) :
 Calls Tryz.prog 148 #[.pointer (some ⟨p, 0, none⟩)] w fun e w' => e = .returned (.tuple #[]) ∧ Keeps F w w' ∧ ParAt (Since F w w') w' p (Ps.put { x with pile := ini, items := putList x.items m }) s toks := by
 obtain ⟨hlt, FL, FM, FP, lb, mb, pileV, vals, hp, hb, hL, hM, hP⟩ := h;rw [hpile] at hP;obtain ⟨g, off, cap, u, rfl, hcu, hFg, hcap, hcm, Q, hQ, hfr⟩ := pile_top hP;obtain ⟨fb, rfl, hfb, hQb⟩ := hfr;have ta1 : ∀ w : World, (Instr.typeAssert (.iface 272 (.pointer (some ⟨fb, 0, none⟩))) 281 272 true).run Tryz.prog w = .ok (.tuple #[.pointer (some ⟨fb, 0, none⟩), .bool true]) w := fun _ => by kernel_rfl
 have hPop := hP.pop rfl;have hfbp : fb ≠ p := fun e => hp.self.2.2.2 (e ▸ (hQ fb hQb).1)
 have hgp : g ≠ p := fun e => hp.self.2.2.2 (e ▸ hFg)
 have HM := Lib.hid (fun (w1 : World) (hk1 : Keeps (fun k => k = p) w w1) (hb1 : w1.heap[p]? = some (.cells (parCells { x with pile := ini } lb mb (.slice (some ⟨g, off, none⟩) ini.length cap)) 136 (0, 0))) =>
  (maker_list FM w1.drew mb x.items m (hM.apart hk1.drew (fun k h (e : k = p) => hp.self.2.2.1 (e ▸ h))) hin hit).mono (R' := fun e w2 => (∃ v, e = .returned v) ∧ Keeps F w w2 ∧ ParAt (Since F w w2) w2 p { x with pile := ini, items := putList x.items m } s toks) fun e w2 ⟨he, hk2, hm2⟩ => by
   have hk2' : Keeps FM w1 w2 := ⟨hk2.os, hk2.tape, hk2.output, hk2.size, hk2.block⟩;have hkF : Keeps F w w1 := hk1.mono fun k e => e ▸ hp.self.1
   have := par_maker (x := { x with pile := ini }) (since_lt hlt hk1.size) hp.since hb1 (hL.apart hk1 (fun k h e => hp.self.2.1 (e ▸ h))) (hPop.keeps hk1 (fun k h e => hp.self.2.2.2 (e ▸ h))) hk2' (fun k h => Nat.lt_of_lt_of_le (hM.2.1 k h) hk1.size) hm2;exact ⟨he, hkF.andThen this.1, this.2.mono_since hk1.size hk2'.size hlt⟩)
 have HPUT := Lib.hid (fun w2 (h : ParAt (Since F w w2) w2 p { x with pile := ini, items := putList x.items m } s toks) => put_par _ w2 p _ s toks h (fun m hm' => hm m (by rw [hpile]; exact List.mem_append_left _ hm')) (by show ini.length ≤ _; omega));have hr1 : IntKind.i64.wrap ((ini.length : Int) + 1 - 1) = (ini.length : Int) := by rw [IntKind.wrap_i64]; omega
 obtain ⟨n, hn⟩ : ∃ n, ini.length = n := ⟨_, rfl⟩;have c4 : w.cell? ⟨p, 4, none⟩ = some (.slice (some ⟨g, off, none⟩) (n + 1) cap) := by rw [cell_at hb, ← hn]; rfl
 have cf : ∀ o, w.frozen? ⟨p, o, none⟩ = false := free_at hb;have hset := set_at (o := 4) hb (.slice (some ⟨g, off, none⟩) n cap);rw [hn] at hil hcu hr1 hcap HM;have HB := Lib.hid hb;have HFB := Lib.hid hfb;have HFBP := Lib.hid hfbp;have HLT := Lib.hid hlt;have hc1 : (0 : Int) ≤ (n : Int) := by omega
 have hc2 : (n : Int) ≤ (cap : Int) := by omega
 have hcm2 : cap ≤ 9223372036854775807 := by unfold maxLen at hcm; omega
 have HSET := Lib.hid hset;clear hlt hp hb hL hM hP hQ hfb hQb hPop hpile hin hit hm hFg hset hcm;go_enter Tryz.func148, Tryz.ntmps148;go_wp2_with fail;go_region;go_wp2_with fail;go_region;have hk1 : Keeps (fun k => k = p) w (w.setCell ⟨p, 4, none⟩ (.slice (some ⟨g, off, none⟩) n cap)).drew.drew := ((Keeps.refl (fun k => k = p) w).setCell (p := ⟨p, 4, none⟩) (.inl rfl) _).drew.drew;have hb1 : (w.setCell ⟨p, 4, none⟩ (.slice (some ⟨g, off, none⟩) n cap)).drew.drew.heap[p]? = some (.cells (parCells { x with pile := ini } lb mb (.slice (some ⟨g, off, none⟩) n cap)) 136 (0, 0)) := HSET.out;have hm1 := HM.out _ hk1 hb1;have HSZ1 := Lib.hid hk1.size;obtain ⟨W1, hW1⟩ : ∃ W1, (w.setCell ⟨p, 4, none⟩ (.slice (some ⟨g, off, none⟩) n cap)).drew.drew = W1 := ⟨_, rfl⟩;rw [hW1] at hk1 hb1 hm1 ⊢;obtain ⟨d0, d1, d2, d3, d4, d5, d6, d7, d8, d9, df⟩ := cells10 hb1;have hfc : W1.cell? ⟨fb, 0, none⟩ = some (.int .i64 m) := cell_at (hk1.blk HFB.out HFBP.out);have HM1 := Lib.hid hm1;clear hk1 hb1 hm1 hW1 c4 cf hcu HSET;go_wp2_with fail
 go_region_with (go_at_call 173; refine (HM1.out).mono ?_; rintro e w2 ⟨⟨v, rfl⟩, hk2, hp2⟩)
 all_goals
  have HK2 := Lib.hid hk2;have HPP := Lib.hid (HPUT.out w2 hp2);clear hk2 hp2;go_wp2_with fail;refine (HPP.out).mono ?_;rintro e w3 ⟨rfl, hk3, hp3⟩;have HK3 := Lib.hid hk3;have HP3 := Lib.hid hp3;clear hk3 hp3;go_wp2_with fail
  go_end0
  exact ⟨rfl, HK2.out.andThen HK3.out, HP3.out.mono_since HK2.out.size HK3.out.size HLT.out⟩
theorem end_object (F : Nat → Prop) (w : World) (p : Nat) (x : Ps) (s : LS) (toks : List Tok) (ini : List Fr) (ks : List (List UInt8)) (h : ParAt F w p x s toks) (hpile : x.pile = ini ++ [.object ks]) (hin : ∀ t ∈ x.items, t.sized.within = true) (hit : x.items.length ≤ 65536) (hm : ∀ m, Fr.list m ∈ x.pile → m ≤ 1073741824) (hil : ini.length ≤ 1048576) (hkr : RightKeys ks) (hnd : ks.Nodup) (hkl : keysLen ks ≤ 2097152) :
 Calls Tryz.prog 148 #[.pointer (some ⟨p, 0, none⟩)] w fun e w' => e = .returned (.tuple #[]) ∧ Keeps F w w' ∧ ParAt (Since F w w') w' p (Ps.put { x with pile := ini, items := po x.items ks }) s toks := by
 obtain ⟨hlt, FL, FM, FP, lb, mb, pileV, vals, hp, hb, hL, hM, hP⟩ := h;rw [hpile] at hP;obtain ⟨g, off, cap, u, rfl, hcu, hFg, hcap, hcm, Q, hQ, hfr⟩ := pile_top hP;obtain ⟨fb, mp, kV, rfl, hfb, hQb, hkV, hkz, hmm, hQm⟩ := hfr;have ta1 : ∀ w : World, (Instr.typeAssert (.iface 275 (.pointer (some ⟨fb, 0, none⟩))) 281 272 true).run Tryz.prog w = .ok (.tuple #[.pointer none, .bool false]) w := fun _ => by kernel_rfl
 have ta2 : ∀ w : World, (Instr.typeAssert (.iface 275 (.pointer (some ⟨fb, 0, none⟩))) 281 275 true).run Tryz.prog w = .ok (.tuple #[.pointer (some ⟨fb, 0, none⟩), .bool true]) w := fun _ => by kernel_rfl
 obtain ⟨ka, kc, hkve⟩ := hkV.1.shape;subst hkve;have hPop := hP.pop rfl;have hfbp : fb ≠ p := fun e => hp.self.2.2.2 (e ▸ (hQ fb hQb).1)
 have hgp : g ≠ p := fun e => hp.self.2.2.2 (e ▸ hFg)
 have HM := Lib.hid (fun (w1 : World) (hk1 : Keeps (fun k => k = p) w w1) (hb1 : w1.heap[p]? = some (.cells (parCells { x with pile := ini } lb mb (.slice (some ⟨g, off, none⟩) ini.length cap)) 136 (0, 0))) =>
  (maker_object FM w1.drew mb ks.length kc ka x.items ks (hM.apart hk1.drew (fun k h (e : k = p) => hp.self.2.2.1 (e ▸ h))) hin hit (hkV.1.keeps hk1.drew (fun k h (e : k = p) => hp.self.2.2.2 (e ▸ (hQ _ (hkV.2 k h)).1))) hkz hkr hnd hkl).mono (R' := fun e w2 => (∃ v, e = .returned v) ∧ Keeps F w w2 ∧ ParAt (Since F w w2) w2 p { x with pile := ini, items := po x.items ks } s toks) fun e w2 ⟨he, hk2, hm2⟩ => by
   have hk2' : Keeps FM w1 w2 := ⟨hk2.os, hk2.tape, hk2.output, hk2.size, hk2.block⟩;have hkF : Keeps F w w1 := hk1.mono fun k e => e ▸ hp.self.1
   have := par_maker (x := { x with pile := ini }) (since_lt hlt hk1.size) hp.since hb1 (hL.apart hk1 (fun k h e => hp.self.2.1 (e ▸ h))) (hPop.keeps hk1 (fun k h e => hp.self.2.2.2 (e ▸ h))) hk2' (fun k h => Nat.lt_of_lt_of_le (hM.2.1 k h) hk1.size) hm2;exact ⟨he, hkF.andThen this.1, this.2.mono_since hk1.size hk2'.size hlt⟩)
 have HPUT := Lib.hid (fun w2 (h : ParAt (Since F w w2) w2 p { x with pile := ini, items := po x.items ks } s toks) => put_par _ w2 p _ s toks h (fun m hm' => hm m (by rw [hpile]; exact List.mem_append_left _ hm')) (by show ini.length ≤ _; omega));have hr1 : IntKind.i64.wrap ((ini.length : Int) + 1 - 1) = (ini.length : Int) := by rw [IntKind.wrap_i64]; omega
 obtain ⟨n, hn⟩ : ∃ n, ini.length = n := ⟨_, rfl⟩;have c4 : w.cell? ⟨p, 4, none⟩ = some (.slice (some ⟨g, off, none⟩) (n + 1) cap) := by rw [cell_at hb, ← hn]; rfl
 have cf : ∀ o, w.frozen? ⟨p, o, none⟩ = false := free_at hb;have hset := set_at (o := 4) hb (.slice (some ⟨g, off, none⟩) n cap);rw [hn] at hil hcu hr1 hcap HM;have HB := Lib.hid hb;have HFB := Lib.hid hfb;have HFBP := Lib.hid hfbp;have HLT := Lib.hid hlt;have hc1 : (0 : Int) ≤ (n : Int) := by omega
 have hc2 : (n : Int) ≤ (cap : Int) := by omega
 have hcm2 : cap ≤ 9223372036854775807 := by unfold maxLen at hcm; omega
 have HSET := Lib.hid hset;clear hlt hp hb hL hM hP hQ hfb hQb hPop hpile hin hit hm hFg hset hcm hkV hkz hmm hQm hkr hnd hkl;go_enter Tryz.func148, Tryz.ntmps148;go_wp2_with fail;go_region;go_wp2_with fail;go_region;have hk1 : Keeps (fun k => k = p) w (w.setCell ⟨p, 4, none⟩ (.slice (some ⟨g, off, none⟩) n cap)).drew.drew := ((Keeps.refl (fun k => k = p) w).setCell (p := ⟨p, 4, none⟩) (.inl rfl) _).drew.drew;have hb1 : (w.setCell ⟨p, 4, none⟩ (.slice (some ⟨g, off, none⟩) n cap)).drew.drew.heap[p]? = some (.cells (parCells { x with pile := ini } lb mb (.slice (some ⟨g, off, none⟩) n cap)) 136 (0, 0)) := HSET.out;have hm1 := HM.out _ hk1 hb1;have HSZ1 := Lib.hid hk1.size;obtain ⟨W1, hW1⟩ : ∃ W1, (w.setCell ⟨p, 4, none⟩ (.slice (some ⟨g, off, none⟩) n cap)).drew.drew = W1 := ⟨_, rfl⟩;rw [hW1] at hk1 hb1 hm1 ⊢;obtain ⟨d0, d1, d2, d3, d4, d5, d6, d7, d8, d9, df⟩ := cells10 hb1;have hfc : W1.cell? ⟨fb, 0, none⟩ = some (.slice ka ks.length kc) := cell_at (hk1.blk HFB.out HFBP.out);have HM1 := Lib.hid hm1;clear hk1 hb1 hm1 hW1 c4 cf hcu HSET;go_wp2_with fail
 go_region_with (go_at_call 174; refine (HM1.out).mono ?_; rintro e w2 ⟨⟨v, rfl⟩, hk2, hp2⟩)
 all_goals
  have HK2 := Lib.hid hk2;have HPP := Lib.hid (HPUT.out w2 hp2);clear hk2 hp2;go_wp2_with fail;refine (HPP.out).mono ?_;rintro e w3 ⟨rfl, hk3, hp3⟩;have HK3 := Lib.hid hk3;have HP3 := Lib.hid hp3;clear hk3 hp3;go_wp2_with fail
  go_end0
  exact ⟨rfl, HK2.out.andThen HK3.out, HP3.out.mono_since HK2.out.size HK3.out.size HLT.out⟩
end Go.Proofs.YtakkmiomhackiaaGreatDoor
