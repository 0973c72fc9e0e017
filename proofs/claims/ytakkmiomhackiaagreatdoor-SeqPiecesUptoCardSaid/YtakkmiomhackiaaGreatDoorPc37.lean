/-
  The program, one part of its walk: Lx8f, Lx9f, Lx17, Lx20, Ry. Conditions: none.
-/
import Derived.Test.YtakkmiomhackiaaGreatDoorPc14
import Derived.Test.YtakkmiomhackiaaGreatDoorPc36
import Derived.Test.YtakkmiomhackiaaGreatDoorPc19
import Derived.Test.YtakkmiomhackiaaGreatDoorPc28
import Derived.Test.YtakkmiomhackiaaGreatDoorPc27
import Derived.RangeFuncNested
import Derived.RangeFuncBound
import Derived.RangeFuncCalls
import Derived.RangeFuncLeaves
import Derived.Test.YtakkmiomhackiaaGreatDoorPc03
set_option linter.all false
set_option maxRecDepth 100000
set_option maxHeartbeats 16000000
namespace Go.Proofs.YtakkmiomhackiaaGreatDoor
open Go.RowKit
theorem finish_none (w : World) (b : Nat) (v0 v1 v2 v3 v4 v5 v7 v8 v9 va vb vc vd rawV : Value) (raw : List UInt8) (h : w.heap[b]? = some (.cells #[v0, v1, v2, v3, v4, v5, rawV, v7, v8, v9, va, vb, vc, vd] 228 (0, 0)))
 (hr : Win 5 encB w rawV raw) (hl : raw.length ≤ 1073741824) (hn : bitsOf raw = none) :
 Calls Tryz.prog 110 #[.pointer (some ⟨b, 0, none⟩)] w fun e w' => e = .returned (.bool false) ∧ Below w.heap.size w w' := by
 obtain ⟨c0, c1, c2, c3, c4, c5, c6, c7, c8, c9, ca, cb, cc, cd, cf⟩ := cells14 h;have hconv := win_string hr;have HB := Lib.hid (bits_any ⟨raw.toArray⟩ w (by show raw.toArray.size ≤ _; simpa using hl));rw [show (⟨raw.toArray⟩ : ByteArray).data.toList = raw by simp, hn] at HB;clear h hr hn hl;go_enter Tryz.func110, Tryz.ntmps110;go_wp2_with fail;refine (HB.out).mono ?_;rintro e w1 ⟨⟨T, v, rfl⟩, hb⟩;have HB2 := Lib.hid hb;clear hb;go_wp2_with fail;go_ret;exact ⟨rfl, HB2.out⟩
theorem finish_some (w : World) (b pl st : Nat) (v1 v2 v3 v4 v7 v8 v9 va vb vc rawV tokV : Value) (raw : List UInt8) (toks : List Value) (bits : Nat) (h : w.heap[b]? = some (.cells #[.int .i64 pl, v1, v2, v3, v4, .int .i64 st, rawV, v7, v8, v9, va, vb, vc, tokV] 228 (0, 0)))
 (hr : Win 5 encB w rawV raw) (hl : raw.length ≤ 1073741824) (hn : bitsOf raw = some bits) (hw : Win 232 id w tokV toks) (htl : toks.length ≤ 1000) (hle : st ≤ pl) (hpl : pl ≤ 1073741824) :
 Calls Tryz.prog 110 #[.pointer (some ⟨b, 0, none⟩)] w fun e w' => ToldRet w b tokV toks (tokEnc (.num st (pl - st) bits)) (fun v => #[.int .i64 pl, v1, v2, .func (.func 104) #[] #[], .bool false, .int .i64 st, rawV, v7, v8, v9, va, vb, vc, v]) (.bool true) e w' := by
 obtain ⟨c0, c1, c2, c3, c4, c5, c6, c7, c8, c9, ca, cb, cc, cd, cf⟩ := cells14 h;have hconv := win_string hr;have HB := Lib.hid (bits_any ⟨raw.toArray⟩ w (by show raw.toArray.size ≤ _; simpa using hl));rw [show (⟨raw.toArray⟩ : ByteArray).data.toList = raw by simp, hn] at HB;have H := Lib.hid h;have HW := Lib.hid hw;have hlt := lt_of_block h
 have htb : ∀ k, tokV.ownBlock = some k → k < w.heap.size := by
  intro k hk;rcases hw with ⟨rfl, _⟩ | ⟨g, off, cap, cur, rfl, hg, _⟩
  ·cases hk
  ·cases hk; exact lt_of_block hg
 have HTB := Lib.hid htb;clear h hr hn hl hw htb;go_enter Tryz.func110, Tryz.ntmps110;go_wp2_with fail;refine (HB.out).mono ?_;rintro e w1 ⟨rfl, hb⟩;have h1 := keep H.out hb;have hw1 : Win 232 id w1 tokV toks := HW.out.keeps (Keeps.of_below (fun _ => False) hb) (fun _ _ => id);obtain ⟨d0, d1, d2, d3, d4, d5, d6, d7, d8, d9, da, db, dc, dd, df⟩ := cells14 h1;have H1 := Lib.hid h1;have HW1 := Lib.hid hw1;have HB1 := Lib.hid hb;clear h1 hw1 hb c0 c1 c2 c3 c4 c5 c6 c7 c8 c9 ca cb cc cd cf hconv;go_wp2_with fail;refine (span_any w1 b _ st pl H1.out rfl hle hpl).mono ?_;rintro e w2 ⟨rfl, hb2⟩;have h2 := keep H1.out hb2;have hw2 : Win 232 id w2 tokV toks := HW1.out.keeps (Keeps.of_below (fun _ => False) hb2) (fun _ _ => id);have HB2 := Lib.hid (chain HB1.out hb2);clear d0 d1 d2 d3 d4 d5 d6 d7 d8 d9 da db dc dd df hb2;have HT := Lib.hid (tell_any w2 b _ _ _ _ _ _ _ _ _ _ _ _ _ tokV 271 (.agg #[.int .i64 st, .int .i64 ((pl - st : Nat) : Int), .int .u64 bits]) toks h2 hw2 htl);clear h2 hw2;go_wp2_with fail;refine (HT.out).mono ?_;rintro e w3 ⟨rfl, g, off, cap, h3, hw3, hg3, hk3⟩;have H3 := Lib.hid h3;have HW3 := Lib.hid hw3;have HG3 := Lib.hid hg3;have HK3 := Lib.hid hk3;clear h3 hw3 hg3 hk3;go_wp2_with fail;go_ret;exact ⟨rfl, g, off, cap, H3.out, HW3.out, HG3.out.elim .inl (fun h => .inr (Nat.le_trans HB2.out.size h)), (Keeps.of_below _ HB2.out).same HK3.out⟩
theorem numeral_range (w : World) (b s : Nat) (v0 v1 v2 v3 v4 v5 v8 v9 va vb vc vd rawV : Value) (ch : UInt8) (l : List UInt8) (h : w.heap[b]? = some (.cells #[v0, v1, v2, v3, v4, v5, rawV, .int .i64 s, v8, v9, va, vb, vc, vd] 228 (0, 0))) (hs : s ≤ 8)
 (hn : numNext s ch = none) (he : numEnds s = true) (hr : Win 5 encB w rawV l) (hl : l.length ≤ 1073741824) (hb : bitsOf l = none) :
 Calls Tryz.prog 139 #[.pointer (some ⟨b, 0, none⟩), .int .u8 ((ch.toNat : Nat) : Int)] w fun e w' => e = .returned (.int .i64 41) ∧ Below w.heap.size w w' := by
 have HF := Lib.hid (finish_none w b _ _ _ _ _ _ _ _ _ _ _ _ _ rawV l h hr hl hb);obtain ⟨c0, c1, c2, c3, c4, c5, c6, c7, c8, c9, ca, cb, cc, cd, cf⟩ := cells14 h;have HN := Lib.hid (next_any s hs ch);have HE := Lib.hid (numEnds_any s hs);rw [hn] at HN;rw [he] at HE;clear h hn he hs hr hl hb;go_enter Tryz.func139, Tryz.ntmps139;go_wp2_with fail;refine (HN.out _).mono ?_;rintro e w1 ⟨rfl, rfl⟩;go_wp2_with fail;refine (HE.out _).mono ?_;rintro e w1 ⟨rfl, rfl⟩;go_wp2_with fail;refine (HF.out).mono ?_;rintro e w2 ⟨rfl, hb2⟩;have HB := Lib.hid hb2;clear hb2;go_wp2_with fail;go_ret;exact ⟨rfl, HB.out⟩
theorem numeral_ends (w : World) (b s pl st : Nat) (v1 v2 v3 v4 v8 v9 va vb vc rawV tokV : Value) (ch : UInt8) (l : List UInt8) (toks : List Value) (bits : Nat) (Q : Ending → World → Prop) (h : w.heap[b]? = some (.cells #[.int .i64 pl, v1, v2, v3, v4, .int .i64 st, rawV, .int .i64 s, v8, v9, va, vb, vc, tokV] 228 (0, 0))) (hs : s ≤ 8)
 (hn : numNext s ch = none) (he : numEnds s = true) (hr : Win 5 encB w rawV l) (hl : l.length ≤ 1073741824) (hb : bitsOf l = some bits) (hw : Win 232 id w tokV toks) (htl : toks.length ≤ 1000) (hle : st ≤ pl) (hpl : pl ≤ 1073741824)
 (hout : ∀ w', ToldRet w b tokV toks (tokEnc (.num st (pl - st) bits)) (fun v => #[.int .i64 pl, v1, v2, .func (.func 104) #[] #[], .bool false, .int .i64 st, rawV, .int .i64 s, v8, v9, va, vb, vc, v]) (.bool true) (.returned (.bool true)) w' →
  Calls Tryz.prog 104 #[.pointer (some ⟨b, 0, none⟩), .int .u8 ((ch.toNat : Nat) : Int)] w' fun e w2 => (∃ n, e = .returned (.int .i64 n)) ∧ Q e w2) :
 Calls Tryz.prog 139 #[.pointer (some ⟨b, 0, none⟩), .int .u8 ((ch.toNat : Nat) : Int)] w Q := by
 have HF := Lib.hid (finish_some w b pl st _ _ _ _ _ _ _ _ _ _ rawV tokV l toks bits h hr hl hb hw htl hle hpl);obtain ⟨c0, c1, c2, c3, c4, c5, c6, c7, c8, c9, ca, cb, cc, cd, cf⟩ := cells14 h;have HN := Lib.hid (next_any s hs ch);have HE := Lib.hid (numEnds_any s hs);rw [hn] at HN;rw [he] at HE;have HO := Lib.hid hout;clear h hn he hs hr hl hb hw htl hle hpl hout;go_enter Tryz.func139, Tryz.ntmps139;go_wp2_with fail;refine (HN.out _).mono ?_;rintro e w1 ⟨rfl, rfl⟩;go_wp2_with fail;refine (HE.out _).mono ?_;rintro e w1 ⟨rfl, rfl⟩;go_wp2_with fail;refine (HF.out).mono ?_;intro e w2 ht;obtain rfl := ht.1;have HO2 := Lib.hid (HO.out w2 ht);clear ht;go_wp2_with fail;refine (HO2.out).mono ?_;rintro e w3 ⟨⟨n, rfl⟩, hq⟩;have HQ := Lib.hid hq;clear hq;go_wp2_with fail
 first
  | exact HQ.out
  | (go_ret; exact HQ.out)
theorem step_numeral (F : Nat → Prop) (w : World) (b : Nat) (x : Lx) (toks : List Tok) (c : UInt8) (h : LexAt F w b x false toks) (hst : x.st = .numeral) (hst2 : x.start ≤ x.place) (hnum : x.number ≤ 8) (hraw : x.raw.length ≤ 1073741824) (hpl : x.place ≤ 16777216) (htl : toks.length ≤ 999) :
 Calls Tryz.prog 139 #[.pointer (some ⟨b, 0, none⟩), .int .u8 ((c.toNat : Nat) : Int)] w fun e w' => StepPost F w b x.place toks (numeralStep x c) e w' := by
 have h0 := h;obtain ⟨hF, hlt, rawV, chV, saysV, tokV, hb, hw, hs⟩ := h;have hr := hs.raw (.inr hst);have htl2 : (toks.map tokEnc).length ≤ 1000 := by simp; omega
 unfold numeralStep;cases hn : numNext x.number c with
 | some s' =>
  refine (numeral_on w b x.number s' _ _ _ _ _ _ _ _ _ _ _ _ rawV c x.raw hb hnum hn hr.1 hraw).mono fun e w' ht => ?_
  obtain ⟨he, hk, hl⟩ := raw_at (y := { x with number := s', raw := x.raw ++ [c] }) hF hlt hw hr.2 (.inr hst) rfl ⟨_, hb⟩ (fun k e => win_win hr.1 hw.1 (by decide) e) (fun u => by rw [hst]) ht;exact .good he hk (by rw [List.append_nil]; exact hl)
 | none =>
  simp only []
  by_cases he : numEnds x.number = true
  ·rw [if_pos he];cases hbt : bitsOf x.raw with
   | none =>
    have hfin : x.finish = none := by unfold Lx.finish; rw [hbt]; rfl
    rw [hfin];refine (numeral_range w b x.number _ _ _ _ _ _ _ _ _ _ _ _ rawV c x.raw hb hnum hn he hr.1 hraw hbt).mono ?_;rintro e w' ⟨rfl, hbl⟩;have hk : Keeps F w w' := Keeps.of_below F hbl;exact .bad (by decide) rfl hk (by rw [List.append_nil]; exact (h0.dead.apart (G := fun _ => False) (Keeps.of_below _ hbl) (fun _ _ => id)).mono (fun k hk => .inl hk) (since_lt hlt hk.size))
   | some bits =>
    have hfin : x.finish = some (x.told, .num x.start (x.place - x.start) bits) := by unfold Lx.finish; rw [hbt]; rfl
    rw [hfin];simp only [];refine numeral_ends w b x.number x.place x.start _ _ _ _ _ _ _ _ _ rawV tokV c x.raw (toks.map tokEnc) bits _ hb hnum hn he hr.1 hraw hbt hw.1 htl2 hst2 (by omega) ?_;intro w1 ht;obtain ⟨_, hk1, hl1⟩ := told_at (y := x.told) (tok := .num x.start (x.place - x.start) bits) hF hlt hw rfl rfl (fun u => rfl) ht;refine (step_outside (Since F w w1) w1 b x.told (toks ++ [.num x.start (x.place - x.start) bits]) c hl1 rfl hpl (by simp; omega)).mono ?_;rintro e w2 ⟨rfl, hk2, hg, hd⟩;refine ⟨⟨_, rfl⟩, rfl, hk1.andThen hk2, fun hn => ?_, fun hn => ?_⟩
    ·have := hg hn;rw [List.append_assoc, List.singleton_append] at this;exact this.mono (fun k hk => hk.trans hk1.size hk2.size) (since_lt hlt (Nat.le_trans hk1.size hk2.size))
    ·have := hd hn;rw [List.append_assoc, List.singleton_append] at this;exact this.mono (fun k hk => hk.trans hk1.size hk2.size) (since_lt hlt (Nat.le_trans hk1.size hk2.size))
  ·have he' : numEnds x.number = false := by simpa using he
   rw [if_neg he];refine (numeral_bad w b x.number _ _ _ _ _ _ _ _ _ _ _ _ _ c hb hnum hn he').mono ?_;rintro e w' ⟨rfl, rfl⟩;exact .bad (by decide) rfl (Keeps.refl _ _) (by rw [List.append_nil]; exact h0.dead.mono (fun k hk => .inl hk) (since_lt hlt (Nat.le_refl _)))
def EndPost (F : Nat → Prop) (w : World) (b : Nat) (toks : List Tok) (t : Lx × List Tok × Nat × Nat) (e : Ending) (w' : World) : Prop :=
 Keeps F w w' ∧ (t.2.2.1 = 0 → e = .returned .nilIface ∧ LexAt (Since F w w') w' b t.1 true (toks ++ t.2.1)) ∧
 (t.2.2.1 ≠ 0 → e = .returned (spotV t.2.2.1 t.2.2.2) ∧ ∃ pl st, LexDead (Since F w w') w' b pl st (spotV t.2.2.1 t.2.2.2) (toks ++ t.2.1))
theorem LexAt.done_set {F : Nat → Prop} {w : World} {b : Nat} {x : Lx} {dn : Bool} {toks : List Tok} (h : LexAt F w b x dn toks) (d : Bool) : LexAt F (w.setCell ⟨b, 2, none⟩ (.bool d)) b x d toks := by
 obtain ⟨hF, hlt, rawV, chV, saysV, tokV, hb, hw, hs⟩ := h;have hk : Keeps (fun k => k = b) w (w.setCell ⟨b, 2, none⟩ (.bool d)) := (Keeps.refl (fun k => k = b) w).setCell (p := ⟨b, 2, none⟩) (.inl rfl) _;refine ⟨hF, fun k hk' => Nat.lt_of_lt_of_le (hlt k hk') hk.size, rawV, chV, saysV, tokV, set_at hb _, ⟨hw.1.keeps hk (fun k e hk => hw.1.ne hb (by decide) (e.trans (congrArg some hk))), hw.2⟩, ⟨fun h => ?_, fun h => ?_⟩⟩
 ·have hr := hs.raw h;exact ⟨hr.1.keeps hk (fun k e hk => hr.1.ne hb (by decide) (e.trans (congrArg some hk))), hr.2⟩
 ·obtain ⟨h1, f, pl, h2, h3, h4, h5⟩ := hs.text h;exact ⟨⟨h1.1.keeps hk (fun k e hk => h1.1.ne hb (by decide) (e.trans (congrArg some hk))), h1.2⟩, f, pl, h2, h3.keeps hk (feeds_ne h3 hb (by decide)), h4, h5⟩
theorem lexEnd_any (F : Nat → Prop) (w : World) (b : Nat) (x : Lx) (toks : List Tok) (h : LexAt F w b x false toks) (hgn : x.number ≤ 8) (hgr : x.st = .numeral → x.raw.length ≤ x.place) (hgp : x.place ≤ 16777216) (hgs : x.start ≤ x.place) (hraw : numEnds x.number = true → x.isIn = true → x.st = .numeral) (htl : toks.length ≤ 999) :
 Calls Tryz.prog 78 #[.pointer (some ⟨b, 0, none⟩)] w fun e w' => EndPost F w b toks x.ended e w' := by
 obtain ⟨c0, c1, c2, c4, c5, cf⟩ := h.cells;have h1 := h.done_set true;have HF := Lib.hid h.1;have htl2 : (toks.map tokEnc).length ≤ 1000 := by simp; omega
 have hk1 : Keeps F w (w.setCell ⟨b, 2, none⟩ (.bool true)) := (Keeps.refl F w).setCell (p := ⟨b, 2, none⟩) (.inl h.1) _;have HK1 := Lib.hid hk1;have hx1 : LexAt (Since F w (w.setCell ⟨b, 2, none⟩ (.bool true))) (w.setCell ⟨b, 2, none⟩ (.bool true)) b x true toks := h1.mono (fun k hk => .inl hk) (since_lt h.lt hk1.size);have HX1 := Lib.hid hx1;cases hin : x.isIn with
 | false =>
  have ht : x.ended = (x, [], 0, 0) := by unfold Lx.ended; rw [hin]; rfl
  rw [ht];rw [hin] at c4;clear h h1 ht hk1 hx1 hraw hin hgn hgr hgp hgs;go_enter Tryz.func78, Tryz.ntmps78;go_wp2_with fail;go_ret;exact ⟨HK1.out, fun _ => ⟨rfl, by rw [List.append_nil]; exact HX1.out⟩, fun e => absurd rfl e⟩
 | true =>
  obtain ⟨hF1, hlt1, rawV, chV, saysV, tokV, hb1, hw1, hs1⟩ := h1;obtain ⟨d0, d1, d2, d3, d4, d5, d6, d7, d8, d9, da, db, dc, dd, df⟩ := cells14 hb1;rw [hin] at c4 d4;have HE := Lib.hid (numEnds_any x.number hgn);cases he : numEnds x.number with
  | false =>
   have ht : x.ended = (x, [], 95, x.place) := by unfold Lx.ended; rw [hin, he]; rfl
   rw [ht];rw [he] at HE;have HD := Lib.hid (hx1.dead.err_set (spotV 95 x.place));clear h ht hk1 hx1 hraw hin hgn hgr hgp hgs hb1 hw1 hs1 hF1 hlt1 he;go_enter Tryz.func78, Tryz.ntmps78;go_wp2_with fail;refine (HE.out _).mono ?_;rintro e w1 ⟨rfl, rfl⟩;go_wp2_with fail;go_ret;refine ⟨HK1.out.setCell (p := ⟨b, 1, none⟩) (.inl HF.out) _, fun e => absurd e (show ¬ (95 : Nat) = 0 by decide), fun _ => ⟨rfl, x.place, x.start, ?_⟩⟩;rw [List.append_nil];exact HD.out.mono (fun k hk => hk.mono_r (by simp [World.setCell])) (fun k hk => HD.out.2.1 k (hk.mono_r (by simp [World.setCell])))
  | true =>
   have hst := hraw he hin;have hr := hs1.raw (.inr hst);have hrl : x.raw.length ≤ 1073741824 := Nat.le_trans (hgr hst) (Nat.le_trans hgp (by decide));rw [he] at HE;cases hbt : bitsOf x.raw with
   | none =>
    have ht : x.ended = (x, [], 41, x.start) := by unfold Lx.ended; rw [hin, he]; simp [Lx.finish, hbt]
    rw [ht];have hfn := finish_none _ b _ _ _ _ _ _ _ _ _ _ _ _ _ rawV x.raw hb1 hr.1 hrl hbt
    have HFN := Lib.hid (hfn.mono (R' := fun e w' => e = .returned (.bool false) ∧ w'.cell? ⟨b, 5, none⟩ = some (.int .i64 x.start) ∧ (∃ u, w'.cell? ⟨b, 1, none⟩ = some u) ∧ (∀ o, w'.frozen? ⟨b, o, none⟩ = false) ∧ Keeps F w w' ∧ LexDead (Since F w w') w' b x.place x.start .nilIface toks) fun e w' ⟨he, hbl⟩ => by
     have hd := hx1.dead.apart (G := fun _ => False) (Keeps.of_below _ hbl) (fun _ _ => id);have hb2 := keep hb1 hbl;obtain ⟨e0, e1, e2, e3, e4, e5, e6, e7, e8, e9, ea, eb, ec, ed, ef⟩ := cells14 hb2;have hkk : Keeps F w w' := hk1.same (Keeps.of_below F hbl);exact ⟨he, e5, ⟨_, e1⟩, ef, hkk, hd.mono (fun k hk => hk.mono_r hbl.size) (since_lt h.lt hkk.size)⟩)
    clear h ht hk1 hx1 hraw hin hgn hgr hgp hgs hb1 hw1 hs1 hF1 hlt1 he hst hr hrl hbt hfn;go_enter Tryz.func78, Tryz.ntmps78;go_wp2_with fail;refine (HE.out _).mono ?_;rintro e w1 ⟨rfl, rfl⟩;go_wp2_with fail;refine (HFN.out).mono ?_;rintro e w2 ⟨rfl, e5, ⟨u, e1⟩, ef, hk2, hd2⟩;have HK2 := Lib.hid hk2;have HD2 := Lib.hid (hd2.err_set (spotV 41 x.start));clear hk2 hd2 c0 c1 c2 c4 c5 cf d0 d1 d2 d3 d4 d5 d6 d7 d8 d9 da db dc dd df;go_wp2_with fail;go_ret;refine ⟨HK2.out.setCell (p := ⟨b, 1, none⟩) (.inl HF.out) _, fun e => absurd e (show ¬ (41 : Nat) = 0 by decide), fun _ => ⟨rfl, x.place, x.start, ?_⟩⟩;rw [List.append_nil];exact HD2.out.mono (fun k hk => hk.mono_r (by simp [World.setCell])) (fun k hk => HD2.out.2.1 k (hk.mono_r (by simp [World.setCell])))
   | some bits =>
    have ht : x.ended = (x.told, [.num x.start (x.place - x.start) bits], 0, 0) := by unfold Lx.ended; rw [hin, he]; simp [Lx.finish, hbt]
    rw [ht];have hfs := finish_some _ b x.place x.start _ _ _ _ _ _ _ _ _ _ rawV tokV x.raw (toks.map tokEnc) bits hb1 hr.1 hrl hbt hw1.1 htl2 hgs (Nat.le_trans hgp (by decide))
    have HFS := Lib.hid (hfs.mono (R' := fun e w' => e = .returned (.bool true) ∧ Keeps F w w' ∧ LexAt (Since F w w') w' b x.told true (toks ++ [.num x.start (x.place - x.start) bits]) ∧ (w'.cell? ⟨b, 1, none⟩ = some .nilIface)) fun e w' ht => by
     obtain ⟨he, g, off, cap, hb2, hwin, hg2, hk2⟩ := ht;have hkf : Keeps F (w.setCell ⟨b, 2, none⟩ (.bool true)) w' := hk2.mono fun k hk => hk.elim (fun e => e ▸ hF1) (fun e => hw1.2 k e)
     have hkk : Keeps F w w' := hk1.same hkf
     have hl : LexAt (Since F w w') w' b x.told true (toks ++ [.num x.start (x.place - x.start) bits]) := by
      refine ⟨.inl hF1, since_lt h.lt hkk.size, _, _, _, _, hb2, ⟨by rw [List.map_append, List.map_cons, List.map_nil]; simpa using hwin, ?_⟩, ⟨fun hs => ?_, fun hs => ?_⟩⟩
      ·intro k hk3;cases hk3;exact hg2.elim (fun e => .inl (hw1.2 _ e)) (fun hle => .inr ⟨by simpa [World.setCell] using hle, hwin.lt rfl⟩)
      ·simp [Lx.told] at hs
      ·simp [Lx.told, isText] at hs
     exact ⟨he, hkk, hl, (hl.cells).2.1⟩)
    clear h ht hk1 hx1 hraw hin hgn hgr hgp hgs hb1 hw1 hs1 hF1 hlt1 he hst hr hrl hbt hfs;go_enter Tryz.func78, Tryz.ntmps78;go_wp2_with fail;refine (HE.out _).mono ?_;rintro e w1 ⟨rfl, rfl⟩;go_wp2_with fail;refine (HFS.out).mono ?_;rintro e w2 ⟨rfl, hk2, hl2, e1⟩;have HK2 := Lib.hid hk2;have HL2 := Lib.hid hl2;clear hk2 hl2 c0 c1 c2 c4 c5 cf d0 d1 d2 d3 d4 d5 d6 d7 d8 d9 da db dc dd df;go_wp2_with fail;go_ret;exact ⟨HK2.out, fun _ => ⟨rfl, HL2.out⟩, fun e => absurd rfl e⟩
theorem text_at {F : Nat → Prop} {w w' : World} {b : Nat} {x y : Lx} {toks : List Tok} {rawV chV saysV tokV : Value} {c : Array Value} (hF : F b) (hlt : ∀ k, F k → k < w.heap.size) (hb : w.heap[b]? = some (.cells c 228 (0, 0))) (hw : WinIn F 232 id w tokV (toks.map tokEnc)) (hs : StAt F w x rawV chV saysV) (hx : isText x.st = true)
 (hsay : y.says = x.says) (hheld : y.held = x.held) (hst : isText y.st = true) (hk : Keeps (fun k => k = b) w w') {rawV' : Value}
 (hb' : w'.heap[b]? = some (.cells #[.int .i64 y.place, .nilIface, .bool false, .func (.func (stepNo y.st)) #[] #[], .bool y.isIn, .int .i64 y.start, rawV', .int .i64 y.number, chV, saysV, .int .i64 y.digits, .int .i32 y.code, .int .i32 y.high, tokV] 228 (0, 0))) :
 Keeps F w w' ∧ LexAt (Since F w w') w' b y false toks := by
 obtain ⟨hsw, f, fp, rfl, hfe, hFf, hfp⟩ := hs.text hx;have hfb : f ≠ b := feeds_ne hfe hb (by decide);have hk2 : Keeps F w w' := hk.mono (fun k e => e ▸ hF);refine ⟨hk2, .inl hF, since_lt hlt hk.size, rawV', _, saysV, tokV, hb', hw.keeps (G := fun k => k = b) hk (fun k e hk => hw.1.ne hb (by decide) (e.trans (congrArg some hk))), ⟨fun h => ?_, fun _ => ⟨?_, f, fp, rfl, ?_, .inl hFf, ?_⟩⟩⟩
 ·rcases h with h | h <;> (rw [h] at hst; cases hst)
 ·rw [hsay]; exact hsw.keeps (G := fun k => k = b) hk (fun k e hk => hsw.1.ne hb (by decide) (e.trans (congrArg some hk)))
 ·rw [hheld]; exact hfe.keeps hk hfb
 ·rw [hsay]; exact hfp
theorem says_at {F : Nat → Prop} {w w' : World} {b : Nat} {x y : Lx} {toks : List Tok} {rawV chV saysV tokV : Value} {c0 : Array Value} (hF : F b) (hlt : ∀ k, F k → k < w.heap.size) (hb : w.heap[b]? = some (.cells c0 228 (0, 0))) (hw : WinIn F 232 id w tokV (toks.map tokEnc)) (hs : StAt F w x rawV chV saysV) (hx : isText x.st = true)
 (hsay : x.says.length ≤ y.says.length) (hheld : y.held = x.held) (hst : isText y.st = true) {c : Value → Array Value} {e : Ending} {rawV' : Value}
 (hc : ∀ u, c u = #[.int .i64 y.place, .nilIface, .bool false, .func (.func (stepNo y.st)) #[] #[], .bool y.isIn, .int .i64 y.start, rawV', .int .i64 y.number, chV, u, .int .i64 y.digits, .int .i32 y.code, .int .i32 y.high, tokV])
 (h : SaysRet w b saysV y.says c e w') : e = .returned (.int .i64 0) ∧ Keeps F w w' ∧ LexAt (Since F w w') w' b y false toks := by
 obtain ⟨hsw, f, fp, rfl, hfe, hFf, hfp⟩ := hs.text hx;have hfb : f ≠ b := feeds_ne hfe hb (by decide);obtain ⟨he, g, off, cap, hb2, hwin, hg, hk⟩ := h
 have hk2 : Keeps F w w' := hk.mono (fun k e => by
  rcases e with rfl | e
  ·exact hF
  ·exact hsw.2 k e)
 refine ⟨he, hk2, .inl hF, since_lt hlt hk.size, rawV', _, _, tokV, by rw [hb2, hc], ⟨hw.1.keeps hk ?_, fun k hk3 => .inl (hw.2 k hk3)⟩, ⟨fun h => ?_, fun _ => ⟨⟨hwin, ?_⟩, f, fp, rfl, ?_, .inl hFf, ?_⟩⟩⟩
 ·intro k hk3 hk4;rcases hk4 with rfl | hk4
  ·exact hw.1.ne hb (by decide) hk3
  ·exact win_win hsw.1 hw.1 (by decide) hk4 hk3
 ·rcases h with h | h <;> (rw [h] at hst; cases hst)
 ·intro k hk3;cases hk3;exact hg.elim (fun e => .inl (hsw.2 _ e)) (fun hle => .inr ⟨hle, hwin.lt rfl⟩)
 ·rw [hheld];refine hfe.keeps hk ?_;rintro (e | e)
  ·exact hfb e
  ·exact feeds_win hfe hsw.1 (by decide) e
 ·omega
theorem step_dead {F : Nat → Prop} {w : World} {b : Nat} {x : Lx} {toks : List Tok} (h : LexAt F w b x false toks) : LexDead (Since F w w) w b x.place x.start .nilIface (toks ++ []) := by
 rw [List.append_nil];exact h.dead.mono (fun k hk => .inl hk) (since_lt h.lt (Nat.le_refl _))
theorem step_slash (F : Nat → Prop) (w : World) (b : Nat) (x : Lx) (toks : List Tok) (c : UInt8) (h : LexAt F w b x false toks) (hst : x.st = .slash) :
 Calls Tryz.prog 223 #[.pointer (some ⟨b, 0, none⟩), .int .u8 ((c.toNat : Nat) : Int)] w fun e w' => StepPost F w b x.place toks (slashStep x c) e w' := by
 have h0 := h;obtain ⟨hF, hlt, rawV, chV, saysV, tokV, hb, hw, hs⟩ := h;refine (slash_any w b _ _ _ _ _ _ _ _ _ _ _ _ _ _ c hb).mono ?_;rintro e w' ⟨h1, h2⟩;unfold slashStep
 by_cases hc : c = 92
 ·rw [if_pos hc];obtain ⟨he, hb', hk⟩ := h1 hc;obtain ⟨hk2, hl⟩ := text_at (y := { x with st := .letterU }) hF hlt hb hw hs (by rw [hst]; rfl) rfl rfl rfl hk hb';exact .good he hk2 (by rw [List.append_nil]; exact hl)
 ·rw [if_neg hc];obtain ⟨rfl, rfl⟩ := h2 hc;exact .bad (by decide) rfl (Keeps.refl _ _) (step_dead h0)
theorem step_letterU (F : Nat → Prop) (w : World) (b : Nat) (x : Lx) (toks : List Tok) (c : UInt8) (h : LexAt F w b x false toks) (hst : x.st = .letterU) :
 Calls Tryz.prog 241 #[.pointer (some ⟨b, 0, none⟩), .int .u8 ((c.toNat : Nat) : Int)] w fun e w' => StepPost F w b x.place toks (letterUStep x c) e w' := by
 have h0 := h;obtain ⟨hF, hlt, rawV, chV, saysV, tokV, hb, hw, hs⟩ := h;refine (letterU_any w b _ _ _ _ _ _ _ _ _ _ _ _ _ _ c hb).mono ?_;rintro e w' ⟨h1, h2⟩;unfold letterUStep
 by_cases hc : c = 117
 ·rw [if_pos hc];obtain ⟨he, hb', hk⟩ := h1 hc;obtain ⟨hk2, hl⟩ := text_at (y := { x with digits := 0, code := 0, st := .digit }) hF hlt hb hw hs (by rw [hst]; rfl) rfl rfl rfl hk hb';exact .good he hk2 (by rw [List.append_nil]; exact hl)
 ·rw [if_neg hc];obtain ⟨rfl, rfl⟩ := h2 hc;exact .bad (by decide) rfl (Keeps.refl _ _) (step_dead h0)
theorem step_escape (F : Nat → Prop) (w : World) (b : Nat) (x : Lx) (toks : List Tok) (c : UInt8) (h : LexAt F w b x false toks) (hst : x.st = .escape) (hsay : x.says.length ≤ 1073741824) :
 Calls Tryz.prog 168 #[.pointer (some ⟨b, 0, none⟩), .int .u8 ((c.toNat : Nat) : Int)] w fun e w' => StepPost F w b x.place toks (escapeStep x c) e w' := by
 have h0 := h;obtain ⟨hF, hlt, rawV, chV, saysV, tokV, hb, hw, hs⟩ := h;have hsw := (hs.text (by rw [hst]; rfl)).1;unfold escapeStep
 by_cases hc : c = 117
 ·rw [if_pos hc];subst hc;refine (escape_u w b _ _ _ _ _ _ _ _ _ _ _ _ _ _ hb).mono ?_;rintro e w' ⟨he, hb', hk⟩;obtain ⟨hk2, hl⟩ := text_at (y := { x with digits := 0, code := 0, st := .digit }) hF hlt hb hw hs (by rw [hst]; rfl) rfl rfl rfl hk hb';exact .good he hk2 (by rw [List.append_nil]; exact hl)
 ·rw [if_neg hc];cases hsd : saidOf c with
  | none =>
   refine (escape_bad w b c hc hsd).mono ?_;rintro e w' ⟨rfl, rfl⟩;exact .bad (by decide) rfl (Keeps.refl _ _) (step_dead h0)
  | some d =>
   refine (escape_said w b _ _ _ _ _ _ _ _ _ _ _ _ _ saysV c d x.says hb hc hsd hsw.1 hsay).mono fun e w' ht => ?_
   obtain ⟨he, hk, hl⟩ := says_at (y := { x with says := x.says ++ [d], st := .within }) hF hlt hb hw hs (by rw [hst]; rfl) (by simp) rfl rfl (fun u => rfl) ht;exact .good he hk (by rw [List.append_nil]; exact hl)
def RdT (w : World) (k : Nat) : Prop := ∃ c T, w.heap[k]? = some (Obj.cells c T (0, 0)) ∧ (T = 159 ∨ T = 5 ∨ T = 162)
def Odd (w : World) (k : Nat) : Prop := ∃ o : Obj, w.heap[k]? = some o ∧ o.isCells = false
def Minds (B : Nat) (J : World → Prop) : Prop := ∀ A C, J A → Keeps (fun k => B ≤ k ∧ RdT A k) A C → J C
def Minds2 (B : Nat) (J : World → Prop) : Prop := ∀ A C, J A → Keeps (fun k => B ≤ k ∧ (RdT A k ∨ Odd A k)) A C → J C
theorem Minds2.minds {B : Nat} {J : World → Prop} (h : Minds2 B J) : Minds B J := fun A C hj hk => h A C hj (hk.mono fun _ h => ⟨h.1, .inl h.2⟩)
theorem keeps_putObj {F : Nat → Prop} {w : World} {l : Nat} (o : Obj) (h : F l) : Keeps F w (w.putObj l o) :=
 ⟨rfl, rfl, rfl, by simp, fun k _ hk => World.putObj_heap_other (fun e => hk (by rw [e]; exact h))⟩
theorem Minds2.put {B : Nat} {J : World → Prop} (h : Minds2 B J) {w : World} {l : Nat} {o : Obj} (o' : Obj) (hj : J w) (hB : B ≤ l) (hl : w.heap[l]? = some o) (ho : o.isCells = false) : J (w.putObj l o') :=
 h _ _ hj (keeps_putObj o' ⟨hB, .inr ⟨o, hl, ho⟩⟩)
theorem Minds2.alloc {B : Nat} {J : World → Prop} (h : Minds2 B J) {w : World} (o : Obj) (hj : J w) : J (w.alloc o) := h _ _ hj ((Keeps.refl _ w).alloc o)
def StT (T : TypeId) : Prop := T = 159 ∨ T = 5 ∨ T = 162 ∨ T = 176 ∨ T = 186 ∨ T = 189 ∨ T = 97 ∨ T = 9
instance (T : TypeId) : Decidable (StT T) := by unfold StT; infer_instance
structure Stays (w w' : World) : Prop where
 os : w'.os = w.os
 tape : w'.tape = w.tape
 output : w'.output = w.output
 size : w.heap.size ≤ w'.heap.size
 block : ∀ (k : Nat) (c : Array Value) (T : TypeId), w.heap[k]? = some (Obj.cells c T (0, 0)) → StT T → w'.heap[k]? = some (Obj.cells c T (0, 0))
def Else (w : World) (k : Nat) : Prop := ¬ ∃ c T, w.heap[k]? = some (Obj.cells c T (0, 0)) ∧ StT T
theorem Stays.refl (w : World) : Stays w w := ⟨rfl, rfl, rfl, Nat.le_refl _, fun _ _ _ h _ => h⟩
theorem Stays.trans {a b c : World} (h : Stays a b) (k : Stays b c) : Stays a c :=
 ⟨k.os.trans h.os, k.tape.trans h.tape, k.output.trans h.output, Nat.le_trans h.size k.size, fun i x T hi hT => k.block i x T (h.block i x T hi hT) hT⟩
theorem Stays.of_keeps {F : Nat → Prop} {w w' : World} (h : Keeps F w w') (hF : ∀ k, F k → Else w k) : Stays w w' :=
 ⟨h.os, h.tape, h.output, h.size, fun k c T hk hT => h.blk hk (fun hf => hF k hf ⟨c, T, hk, hT⟩)⟩
theorem Stays.keeps {w w' : World} (h : Stays w w') : Keeps (Else w) w w' :=
 ⟨h.os, h.tape, h.output, h.size, fun k hk hF => by
  have : ∃ c T, w.heap[k]? = some (Obj.cells c T (0, 0)) ∧ StT T := Classical.not_not.1 hF;obtain ⟨c, T, h1, h2⟩ := this;rw [h.block k c T h1 h2, h1]⟩
theorem Stays.put {w : World} {l : Nat} {o : Obj} (o' : Obj) (hl : w.heap[l]? = some o) (ho : o.isCells = false) : Stays w (w.putObj l o') :=
 Stays.of_keeps (F := fun k => k = l) (keeps_putObj o' rfl) (fun k e => by subst e; rintro ⟨c, T, h, _⟩; rw [hl] at h; cases h; simp [Obj.isCells] at ho)
def SeqW {α : Type} (n : Nat) (P : Program) (g : Nat) (lb : Array Value) (encs : α → Array Value) (R : Nat → α → World → Prop) (S : List α → Prop) (w : World) : Prop :=
 ∀ (l : Nat) (J : List α → World → Prop) (W : World), Below w.heap.size w W → (∀ pre, Minds W.heap.size (J pre)) →
  (∀ pre x W1, J pre W1 → R pre.length x W1 → YieldAt Fence.wide (n - 1) P l (encs x) W1 fun e W' => e = .returned (.bool true) ∧ J (pre ++ [x]) W' ∧ Stays W1 W') →
  J [] W → CallsIn Fence.wide n P g (#[.func (.yield l) #[] #[]] ++ lb) W fun e W' => (∃ v, e = .returned v) ∧ ∃ xs, S xs ∧ J xs W'
def roundEnd {α : Type} (I : List α → World → Prop) (xs : List α) (W : World) : Exit → Act → World → Prop
 | .normal, _, W' => KeepsOthers W W' ∧ Stays W W' ∧ I xs W'
 | _, _, _ => False
theorem range_law {α : Type} {P : Program} {n : Nat} {g : Operand} {ps : Array Tmp} {assign body : Code} {Q : Exit → Act → World → Prop} {a : Act} {w : World} {gf : Nat} {lb : Array Value}
 (hg : a.eval g = .func (.func gf) #[] lb) (eg : ∀ args w, (callFunc gf args).run P w = .ok (.enter gf args) w) {encs : α → Array Value} {R : Nat → α → World → Prop} {S : List α → Prop} {w0 : World}
 (hseq : SeqW (n - 1) P gf lb encs R S w0) (hb0 : Below w0.heap.size w0 w) (hps : ∀ x, (encs x).size = ps.size) (I : List α → World → Prop) (hI : ∀ pre, Minds2 w.heap.size (I pre)) (h0 : I [] w)
 (Ax : List α → α → Act → World → Prop) (hAx : ∀ pre x a1, Minds2 w.heap.size (Ax pre x a1))
 (hassign : ∀ (l : Nat) (pre : List α) (x : α) (W : World) (K : Act → World → Prop), I pre W → R pre.length x W → (∀ a1 W1, KeepsOthers W W1 → Stays W W1 → Ax pre x a1 W1 → K a1 W1) →
  assign.wpIn (Fence.wide.inRound l) (n - 1 - 1) P (Exit.then K (fun _ _ _ => False)) { tmps := (ps.zip (encs x)).foldl (fun t (p, v) => t.setIfInBounds p v) a.tmps, defers := [] } W)
 (hbody : ∀ (l : Nat) (pre : List α) (x : α) (a1 : Act) (W : World), Ax pre x a1 W → body.wpIn (Fence.wide.inRound l) (n - 1 - 1) P (roundEnd I (pre ++ [x]) W) a1 W)
 (hdone : ∀ (D : Nat) (xs : List α) (W : World), w.heap.size ≤ D → S xs → I xs W → W.heap[D]? = some (.deferred (some [])) → Q .normal { a with defers := { target := .collected D, args := #[] } :: a.defers } W) :
 (Code.rangeFunc g ps assign body).wpIn Fence.wide n P Q a w := by
 apply wpIn_rangeFunc;intro fn _
 let lp : LoopState → Loop := fun st => { state := st, pending := none, fn := fn, tmps := a.tmps, params := ps, assign := assign, body := body, defers := w.heap.size }
 obtain ⟨D, hD⟩ : ∃ D, w.heap.size = D := ⟨_, rfl⟩;obtain ⟨W1, hW1⟩ : ∃ W1, (w.alloc (.deferred (some []))).alloc (.loop (lp .ready)) = W1 := ⟨_, rfl⟩
 have hrec : W1.heap[D + 1]? = some (.loop (lp .ready)) := by
  have h := World.alloc_heap_new (w.alloc (.deferred (some []))) (.loop (lp .ready));rw [World.size_alloc, hW1, hD] at h;exact h
 have hdef : W1.heap[D]? = some (.deferred (some [])) := by
  rw [← hW1, ← hD];exact (Below.heap_alloc _ _ _ (by simp)).trans (World.alloc_heap_new w _)
 have hkw : Keeps (fun _ => False) w W1 := by rw [← hW1]; exact ((Keeps.refl _ w).alloc _).alloc _
 have hi1 : I [] W1 := hI [] _ _ h0 (hkw.mono fun _ h => h.elim);have hlow : Below w0.heap.size w0 W1 := hb0.trans (hkw.toBelow hb0.size (fun _ h => h.elim));refine ⟨D + 1, [{ target := .collected D, args := #[] }], W1, { target := .fn (.func gf) lb, args := #[.func (.yield (D + 1)) #[] #[]] }, W1, gf, #[.func (.yield (D + 1)) #[] #[]] ++ lb, W1, ?_, ?_, fun _ _ => trivial, ?_, fun h => (by cases h), ?_⟩
 ·rw [← hW1, ← hD];exact run_enterLoop_outer _ _ _ _ _
 ·simp only [resolve, hg];simp [go_sem]
 ·simp [invoke, go_sem, eg]
 refine (hseq (D + 1) (fun pre W => I pre W ∧ W.heap[D + 1]? = some (.loop (lp .ready)) ∧ W.heap[D]? = some (.deferred (some []))) W1 hlow ?_ ?_ ⟨hi1, hrec, hdef⟩).mono ?_
 ·rintro pre A C ⟨h1, h2, h3⟩ hk;have hle : D ≤ W1.heap.size := by rw [← hD]; exact hkw.size
  refine ⟨(hI pre).minds A C h1 (hk.mono fun k h => ⟨by omega, h.2⟩), hk.blk h2 ?_, hk.blk h3 ?_⟩
  ·rintro ⟨_, c, T, h, _⟩; rw [h2] at h; cases h
  ·rintro ⟨_, c, T, h, _⟩; rw [h3] at h; cases h
 ·rintro pre x W ⟨hi, hl, hd⟩ hx;refine ⟨fn, _, assign, body, run_yield (P := P) (args := encs x) hl (hps x), roundIn_of_wpIn trivial (hassign _ pre x W _ hi hx ?_)⟩;intro a1 V1 ho1 hr1 hax;have hl1 := ho1.same _ _ hl rfl;have hd1 := ho1.same _ _ hd rfl;have hlt1 : D + 1 < V1.heap.size := lt_of_block hl1;refine ⟨_, run_beginRound hl1 rfl, ?_⟩;obtain ⟨V2, hV2⟩ : ∃ V2, V1.putObj (D + 1) (.loop (lp .busy)) = V2 := ⟨_, rfl⟩;have hax2 : Ax pre x a1 V2 := by rw [← hV2]; exact (hAx pre x a1).put _ hax (by omega) hl1 rfl
  have hl2 : V2.heap[D + 1]? = some (.loop (lp .busy)) := by rw [← hV2]; exact World.putObj_heap_same hlt1
  have hd2 : V2.heap[D]? = some (.deferred (some [])) := by rw [← hV2]; exact (World.putObj_heap_other (by omega)).trans hd1
  have hr2 : Stays V1 V2 := by rw [← hV2]; exact Stays.put _ hl1 rfl
  show body.wpIn (Fence.wide.inRound (D + 1)) (n - 1 - 1) P _ a1 (V1.putObj (D + 1) (.loop (lp .busy)))
  rw [hV2];refine wpIn_mono (hbody (D + 1) pre x a1 V2 hax2) ?_;intro e a3 V3 he;cases e with
  | normal =>
   obtain ⟨ho3, hr3, hi3⟩ := he;have hl3 := ho3.same _ _ hl2 rfl;have hd3 := ho3.same _ _ hd2 rfl;refine ⟨_, _, run_endRound (P := P) none hl3, rfl, ⟨(hI _).put _ hi3 (by omega) hl3 rfl, World.putObj_heap_same (lt_of_block hl3), (World.putObj_heap_other (by omega)).trans hd3⟩, ((hr1.trans hr2).trans hr3).trans (Stays.put _ hl3 rfl)⟩
  | ret => exact he.elim
  | exit id => exact he.elim
  | goto t => exact he.elim
  | panic ch => exact he.elim
  | outgrown => exact he.elim
 ·rintro e V ⟨⟨v, rfl⟩, xs, hS, hi, hl, hd⟩;refine ⟨none, _, run_endLoop (P := P) hl (by simp [lp]), ?_⟩;have := hdone D xs _ (Nat.le_of_eq hD) hS ((hI xs).put (.loop (lp .exhausted)) hi (by omega) hl rfl) ((World.putObj_heap_other (by omega)).trans hd);exact this
end Go.Proofs.YtakkmiomhackiaaGreatDoor
