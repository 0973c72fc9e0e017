/-
  The program, one part of its walk: Lx14, Lx24, Dc6. Conditions: none.
-/
import Derived.Test.YtakkmiomhackiaaGreatDoorPc25
import Derived.Test.YtakkmiomhackiaaGreatDoorPc20
import Derived.Test.YtakkmiomhackiaaGreatDoorPc19
import Derived.Test.YtakkmiomhackiaaGreatDoorPc13
set_option linter.all false
set_option maxRecDepth 100000
set_option maxHeartbeats 16000000
namespace Go.Proofs.YtakkmiomhackiaaGreatDoor
open Go.RowKit
theorem feeds_ne {w : World} {f pl b : Nat} {held : List UInt8} {c : Array Value} {T : TypeId} (h : Feeds w f pl held) (hb : w.heap[b]? = some (.cells c T (0, 0))) (hT : T ≠ 305) : f ≠ b := by
 obtain ⟨_, a0, a1, a2, a3, h2, _⟩ := h;intro e; subst e;rw [h2] at hb;simp at hb;exact hT hb.2.symm
theorem feeds_win {α : Type} {e : Nat} {enc : α → Value} {w : World} {f pl : Nat} {held : List UInt8} {v : Value} {l : List α} (h : Feeds w f pl held) (hw : Win e enc w v l) (hT : e ≠ 305) : v.ownBlock ≠ some f := by
 obtain ⟨_, a0, a1, a2, a3, h2, _⟩ := h;exact hw.ne h2 (fun e => hT e.symm)
theorem win_win {α β : Type} {e e' : Nat} {enc : α → Value} {enc' : β → Value} {w : World} {v v' : Value} {l : List α} {l' : List β} (h : Win e enc w v l) (h' : Win e' enc' w v' l') (hT : e ≠ e') {k : Nat} (hk : v.ownBlock = some k) : v'.ownBlock ≠ some k := by
 rcases h with ⟨rfl, _⟩ | ⟨g, off, cap, cur, rfl, hg, _⟩
 ·cases hk
 ·cases hk; exact h'.ne hg hT
theorem step_within (F : Nat → Prop) (w : World) (b : Nat) (x : Lx) (toks : List Tok) (c : UInt8) (h : LexAt F w b x false toks) (hst : x.st = .within) (hst2 : x.start ≤ x.place) (hsay : x.says.length ≤ 1073741824) (hpl : x.place ≤ 16777216) (htl : toks.length ≤ 1000) :
 Calls Tryz.prog 138 #[.pointer (some ⟨b, 0, none⟩), .int .u8 ((c.toNat : Nat) : Int)] w fun e w' => StepPost F w b x.place toks (withinStep x c) e w' := by
 have h0 := h;obtain ⟨hF, hlt, rawV, chV, saysV, tokV, hb, hw, hs⟩ := h;obtain ⟨hsw, f, fp, rfl, hfe, hFf, hfp⟩ := hs.text (by rw [hst]; rfl);have htl2 : (toks.map tokEnc).length ≤ 1000 := by simpa using htl
 have hfb : f ≠ b := feeds_ne hfe hb (by decide);unfold withinStep
 by_cases h1 : x.held = [] ∧ c = 34
 ·rw [if_pos h1];obtain ⟨hh, rfl⟩ := h1;rw [hh] at hfe;refine (within_end w b f fp x.place x.start _ _ _ _ _ _ _ _ _ saysV tokV x.says _ hb hfe hsw.1 hw.1 htl2 (by omega) (by omega)).mono fun e w' ht => ?_
  obtain ⟨he, hk, hl⟩ := told_at (y := x.told) (tok := .str x.start (x.place + 1 - x.start) x.says) hF hlt hw rfl rfl (fun u => rfl) ht;exact .good he hk hl
 rw [if_neg h1]
 by_cases h2 : x.held = [] ∧ c = 92
 ·rw [if_pos h2];obtain ⟨hh, rfl⟩ := h2;have hfe' := hfe;rw [hh] at hfe';refine (within_escape w b f fp _ _ _ _ _ _ _ _ _ _ _ _ _ hb hfe').mono ?_;rintro e w' ⟨rfl, hb2, hk⟩;have hk2 : Keeps F w w' := hk.mono (fun k e => e ▸ hF);have hfe2 := hfe.keeps hk hfb;refine .good rfl hk2 ⟨.inl hF, since_lt hlt hk.size, _, _, _, tokV, hb2, by rw [List.append_nil]; exact hw.keeps (G := fun k => k = b) hk (fun k e hk => hw.1.ne hb (by decide) (e.trans (congrArg some hk))), ⟨fun hs => ?_, fun _ => ⟨hsw.keeps (G := fun k => k = b) hk (fun k e hk => hsw.1.ne hb (by decide) (e.trans (congrArg some hk))), f, fp, rfl, hfe2, .inl hFf, hfp⟩⟩⟩;simp at hs
 rw [if_neg h2]
 by_cases h3 : x.held = [] ∧ c.toNat < 32
 ·rw [if_pos h3];rw [h3.1] at hfe;refine (within_control w b f fp _ _ _ _ _ _ _ _ _ _ _ _ _ c hb hfe h3.2).mono ?_;rintro e w' ⟨rfl, rfl⟩;exact .bad (by decide) rfl (Keeps.refl _ _) (by rw [List.append_nil]; exact h0.dead.mono (fun k hk => .inl hk) (since_lt hlt (Nat.le_refl _)))
 rw [if_neg h3]
 have hpi : plainIn x.held c := by
  unfold plainIn
  by_cases hh : x.held = []
  ·exact .inr ⟨fun e => h1 ⟨hh, e⟩, fun e => h2 ⟨hh, e⟩, Nat.le_of_not_lt (fun e => h3 ⟨hh, e⟩)⟩
  ·exact .inl hh
 cases hfo : feedOne x.held c with
 | none =>
  refine (within_bad w b f fp _ _ _ _ _ _ _ _ _ _ _ _ _ c _ hb hfe (by omega) hpi hfo).mono ?_;rintro e w' ⟨rfl, hk⟩;have hk2 : Keeps F w w' := hk.mono (fun k e => e ▸ hFf);exact .bad (by decide) rfl hk2 ⟨.inl hF, since_lt hlt hk.size, _, _, _, _, _, _, _, _, _, _, tokV, hk.blk hb (fun e => hfb e.symm), by rw [List.append_nil]; exact hw.keeps (G := fun k => k = f) hk (fun k e hk => feeds_win hfe hw.1 (by decide) (e.trans (congrArg some hk)))⟩
 | some h' =>
  refine (within_more w b f fp _ _ _ _ _ _ _ _ _ _ _ _ saysV c _ h' x.says hb hfe hsw.1 hsay (by omega) hpi hfo).mono ?_;rintro e w' ⟨rfl, g, off, cap, hb2, hwin, hg, hfe2, hk⟩
  have hk2 : Keeps F w w' := hk.mono (fun k e => by
   rcases e with rfl | rfl | e
   ·exact hF
   ·exact hFf
   ·exact hsw.2 k e)
  refine .good rfl hk2 ⟨.inl hF, since_lt hlt hk.size, rawV, _, _, tokV, by rw [hst] at hb2 ⊢; simpa using hb2, ?_, ⟨fun hs => ?_, fun _ => ⟨?_, f, fp + 1, rfl, hfe2, .inl hFf, ?_⟩⟩⟩
  ·rw [List.append_nil];refine ⟨hw.1.keeps hk ?_, fun k hk3 => .inl (hw.2 k hk3)⟩;intro k hk3 hk4;rcases hk4 with rfl | rfl | hk4
   ·exact hw.1.ne hb (by decide) hk3
   ·exact feeds_win hfe hw.1 (by decide) hk3
   ·exact win_win hsw.1 hw.1 (by decide) hk4 hk3
  ·simp [hst] at hs
  ·refine ⟨by simpa using hwin, ?_⟩;intro k hk3;cases hk3;exact hg.elim (fun e => .inl (hsw.2 _ e)) (fun hle => .inr ⟨hle, hwin.lt rfl⟩)
  ·simp; omega
theorem word_value (c : UInt8) (w : World) (l : List UInt8) (h : wordOf c = l) : Calls Tryz.prog 140 #[.int .u8 ((c.toNat : Nat) : Int)] w fun e w' => e = .returned (.string ⟨l.toArray⟩) ∧ w' = w := by
 have := lexWord_any c w;rw [h] at this;exact this
def WordRet (w : World) (b : Nat) (rawV tokV : Value) (toks : List Value) (t : Value) (c : Value → Value → Array Value) (e : Ending) (w' : World) : Prop :=
 e = .returned (.int .i64 0) ∧ ∃ rawV' g off cap, w'.heap[b]? = some (.cells (c rawV' (.slice (some ⟨g, off, none⟩) (toks.length + 1) cap)) 228 (0, 0)) ∧
  Win 232 id w' (.slice (some ⟨g, off, none⟩) (toks.length + 1) cap) (toks ++ [t]) ∧ (tokV.ownBlock = some g ∨ w.heap.size ≤ g) ∧ Keeps (fun k => k = b ∨ rawV.ownBlock = some k ∨ tokV.ownBlock = some k) w w'
theorem word_at_k {d y : UInt8} {s : ByteArray} {K : Nat} (hs : (⟨(wordOf d).toArray⟩ : ByteArray) = s) (hy : (wordOf d)[K]? = some y) : ∃ h : K < s.size, s[K] = y := by
 subst hs;obtain ⟨h1, h2⟩ := List.getElem?_eq_some_iff.1 hy;exact ⟨by simpa [ByteArray.size] using h1, by simpa [ByteArray.getElem_eq_getElem_data] using h2⟩
theorem letter_bad (w : World) (b g off cap K : Nat) (v0 v1 v2 v3 v4 v5 v7 v8 v9 va vb vc vd : Value) (d y ch : UInt8) (h : w.heap[b]? = some (.cells #[v0, v1, v2, v3, v4, v5, .slice (some ⟨g, off, none⟩) K cap, v7, v8, v9, va, vb, vc, vd] 228 (0, 0)))
 (h0 : w.cell? ⟨g, off, none⟩ = some (encB d)) (hK : 0 < K) (hy : (wordOf d)[K]? = some y) (hc : ch ≠ y) :
 Calls Tryz.prog 141 #[.pointer (some ⟨b, 0, none⟩), .int .u8 ((ch.toNat : Nat) : Int)] w fun e w' => e = .returned (.int .i64 94) ∧ w' = w := by
 obtain ⟨c0, c1, c2, c3, c4, c5, c6, c7, c8, c9, ca, cb, cc, cd, cf⟩ := cells14 h;obtain ⟨s, hs⟩ : ∃ s : ByteArray, (⟨(wordOf d).toArray⟩ : ByteArray) = s := ⟨_, rfl⟩;obtain ⟨hks, hyk⟩ := word_at_k hs hy;subst hyk;obtain ⟨n1, n2, n3⟩ := byte_ne3 (c := ch) (d := s[K]) hc rfl;obtain ⟨n4, n5, n6⟩ := byte_ne3 (c := s[K]) (d := ch) hc.symm rfl;have HWD := Lib.hid (word_value d w _ rfl);rw [hs] at HWD;unfold encB at h0;clear h hc hs hy;go_enter Tryz.func141, Tryz.ntmps141;go_wp2_with fail;refine (HWD.out).mono ?_;rintro e w1 ⟨rfl, rfl⟩;go_wp2_with fail;go_ret;exact ⟨rfl, rfl⟩
theorem letter_on (w : World) (b g off cap : Nat) (v0 v1 v2 v3 v4 v5 v7 v8 v9 va vb vc vd : Value) (d y : UInt8) (l : List UInt8) (h : w.heap[b]? = some (.cells #[v0, v1, v2, v3, v4, v5, .slice (some ⟨g, off, none⟩) l.length cap, v7, v8, v9, va, vb, vc, vd] 228 (0, 0)))
 (h0 : w.cell? ⟨g, off, none⟩ = some (encB d)) (hr : Win 5 encB w (.slice (some ⟨g, off, none⟩) l.length cap) l) (hK : 0 < l.length) (hy : (wordOf d)[l.length]? = some y) (hne : l.length + 1 ≠ (wordOf d).length) :
 Calls Tryz.prog 141 #[.pointer (some ⟨b, 0, none⟩), .int .u8 ((y.toNat : Nat) : Int)] w fun e w' => RawRet w b (.slice (some ⟨g, off, none⟩) l.length cap) (l ++ [y]) (fun v => #[v0, v1, v2, v3, v4, v5, v, v7, v8, v9, va, vb, vc, vd]) e w' := by
 obtain ⟨c0, c1, c2, c3, c4, c5, c6, c7, c8, c9, ca, cb, cc, cd, cf⟩ := cells14 h;obtain ⟨s, hs⟩ : ∃ s : ByteArray, (⟨(wordOf d).toArray⟩ : ByteArray) = s := ⟨_, rfl⟩;obtain ⟨hks, hyk⟩ := word_at_k hs hy;have hk : ((s[l.length].toNat : Nat) : Int) = ((y.toNat : Nat) : Int) := by rw [hyk]
 have hKL : l.length < 5 := by
  have : s.size ≤ 5 := by rw [← hs]; show (wordOf d).toArray.size ≤ 5; rw [List.size_toArray]; unfold wordOf; repeat' (first | exact by decide | split)
  omega
 have HWD := Lib.hid (word_value d w _ rfl);rw [hs] at HWD;have HNE := Lib.hid (hr.ne h (by decide));have H := Lib.hid h;have hlt := lt_of_block h;have hr2 : Win 5 encB (w.alloc (.cells #[encB y] 5)) (.slice (some ⟨g, off, none⟩) l.length cap) l := hr.keeps (F := fun _ => False) ((Keeps.refl _ w).alloc _) (fun _ _ => id);have HR := Lib.hid hr2;have hsz : s.size = (wordOf d).length := by rw [← hs]; exact List.size_toArray
 unfold encB at h0;have hn1 : ¬ (l.length : Int) + 1 = (s.size : Int) := by omega
 have hn2 : ((l.length : Int) + 1 == (s.size : Int)) = false := by simpa using hn1
 clear h hs hr hr2 hy hne hsz;go_enter Tryz.func141, Tryz.ntmps141;go_wp2_with fail;refine (HWD.out).mono ?_;rintro e w1 ⟨rfl, rfl⟩
 go_wp2_with (at_builtin; refine append_win elemB rfl _ _ rfl rfl HR.out ⟨w1.heap.size, 0, none⟩ 1 y rfl ?_ rfl ?_ ?_ ?_)
 ·exact cell_new rfl
 ·omega
 ·unfold maxLen; omega
 intro g2 off2 cap2 w' hrow hgb0 hgr;have hb' := (hgr.block b (by simp; omega) (fun e => HNE.out e.symm)).trans ((Below.heap_alloc _ _ _ hlt).trans H.out);have HNG := Lib.hid (hrow.ne hb' (by decide));have HGB := Lib.hid (show (Value.slice (some ⟨g, off, none⟩) l.length cap).ownBlock = some g2 ∨ w1.heap.size ≤ g2 from hgb0.elim .inl (fun h => .inr (Nat.le_trans (by simp) h.1)));have HK := Lib.hid (((Keeps.refl (fun k => k = b ∨ (Value.slice (some ⟨g, off, none⟩) l.length cap).ownBlock = some k) w1).alloc (.cells #[encB y] 5)).grown hgr (fun k e => .inl (.inr e)));have HROW := Lib.hid hrow;obtain ⟨d0, d1, d2, d3, d4, d5, d6, d7, d8, d9, da, db, dc, dd, df⟩ := cells14 hb';have HB := Lib.hid hb';clear hb' hrow hgb0 hgr c0 c1 c2 c3 c4 c5 c6 c7 c8 c9 ca cb cc cd cf;go_wp2_with fail;go_ret;refine ⟨rfl, g2, off2, cap2, ?_, ?_, HGB.out, HK.out.setCell (p := ⟨b, 6, none⟩) (.inl (.inl rfl)) _⟩
 ·rw [List.length_append]; exact set_at HB.out _
 rw [List.length_append];exact HROW.out.keeps ((Keeps.refl (fun k => k = b) w').setCell (p := ⟨b, 6, none⟩) (.inl rfl) _) (fun k e hk => HNG.out (e.trans (congrArg some hk)))
theorem letter_end (w : World) (b g off cap pl st : Nat) (v1 v2 v3 v4 v7 v8 v9 va vb vc tokV : Value) (d y : UInt8) (l : List UInt8) (toks : List Value) (h : w.heap[b]? = some (.cells #[.int .i64 pl, v1, v2, v3, v4, .int .i64 st, .slice (some ⟨g, off, none⟩) l.length cap, v7, v8, v9, va, vb, vc, tokV] 228 (0, 0)))
 (h0 : w.cell? ⟨g, off, none⟩ = some (encB d)) (hr : Win 5 encB w (.slice (some ⟨g, off, none⟩) l.length cap) l) (hK : 0 < l.length) (hy : (wordOf d)[l.length]? = some y) (hne : l.length + 1 = (wordOf d).length) (hw : Win 232 id w tokV toks) (htl : toks.length ≤ 1000) (hle : st ≤ pl + 1) (hpl : pl ≤ 1073741823) :
 Calls Tryz.prog 141 #[.pointer (some ⟨b, 0, none⟩), .int .u8 ((y.toNat : Nat) : Int)] w fun e w' => WordRet w b (.slice (some ⟨g, off, none⟩) l.length cap) tokV toks (tokEnc (.term st (pl + 1 - st) (wordOf d))) (fun r v => #[.int .i64 pl, v1, v2, .func (.func 104) #[] #[], .bool false, .int .i64 st, r, v7, v8, v9, va, vb, vc, v]) e w' := by
 obtain ⟨c0, c1, c2, c3, c4, c5, c6, c7, c8, c9, ca, cb, cc, cd, cf⟩ := cells14 h;obtain ⟨s, hs⟩ : ∃ s : ByteArray, (⟨(wordOf d).toArray⟩ : ByteArray) = s := ⟨_, rfl⟩;obtain ⟨hks, hyk⟩ := word_at_k hs hy;have hk : ((s[l.length].toNat : Nat) : Int) = ((y.toNat : Nat) : Int) := by rw [hyk]
 have hKL : l.length < 5 := by
  have : s.size ≤ 5 := by rw [← hs]; show (wordOf d).toArray.size ≤ 5; rw [List.size_toArray]; unfold wordOf; repeat' (first | exact by decide | split)
  omega
 have HWD := Lib.hid (word_value d w _ rfl);rw [hs] at HWD;have HNE := Lib.hid (hr.ne h (by decide));have H := Lib.hid h;have hlt := lt_of_block h;have hr2 : Win 5 encB (w.alloc (.cells #[encB y] 5)) (.slice (some ⟨g, off, none⟩) l.length cap) l := hr.keeps (F := fun _ => False) ((Keeps.refl _ w).alloc _) (fun _ _ => id);have HR := Lib.hid hr2;have hsz : s.size = (wordOf d).length := by rw [← hs]; exact List.size_toArray
 unfold encB at h0;have hn1 : (l.length : Int) + 1 = (s.size : Int) := by omega
 have hn2 : ((l.length : Int) + 1 == (s.size : Int)) = true := by simpa using hn1
 have HW := Lib.hid hw;have HTL := Lib.hid htl;have HWN := Lib.hid (fun (k : Nat) (e : (Value.slice (some ⟨g, off, none⟩) l.length cap).ownBlock = some k) => win_win hr hw (by decide) e);have HBD := Lib.hid (And.intro hle hpl);obtain ⟨sz, hsz2⟩ : ∃ sz, pl + 1 - st = sz := ⟨_, rfl⟩;have HSZ := Lib.hid hsz2;have hpb : pl ≤ 1073741823 := hpl;rw [show tokEnc (.term st (pl + 1 - st) (wordOf d)) = .iface 309 (.agg #[.int .i64 st, .int .i64 (pl + 1 - st : Nat), .string ⟨(wordOf d).toArray⟩]) from rfl, hs, hsz2];clear h hs hr hr2 hw htl hle hpl hsz2 hy hne hsz;go_enter Tryz.func141, Tryz.ntmps141;go_wp2_with fail;refine (HWD.out).mono ?_;rintro e w1 ⟨rfl, rfl⟩
 go_wp2_with (at_builtin; refine append_win elemB rfl _ _ rfl rfl HR.out ⟨w1.heap.size, 0, none⟩ 1 y rfl ?_ rfl ?_ ?_ ?_)
 ·exact cell_new rfl
 ·omega
 ·unfold maxLen; omega
 intro g2 off2 cap2 w' hrow hgb0 hgr;have hb' := (hgr.block b (by simp; omega) (fun e => HNE.out e.symm)).trans ((Below.heap_alloc _ _ _ hlt).trans H.out);have HNG := Lib.hid (hrow.ne hb' (by decide));have HGB := Lib.hid (show (Value.slice (some ⟨g, off, none⟩) l.length cap).ownBlock = some g2 ∨ w1.heap.size ≤ g2 from hgb0.elim .inl (fun h => .inr (Nat.le_trans (by simp) h.1)));have HK := Lib.hid (((Keeps.refl (fun k => k = b ∨ (Value.slice (some ⟨g, off, none⟩) l.length cap).ownBlock = some k) w1).alloc (.cells #[encB y] 5)).grown hgr (fun k e => .inl (.inr e)));have HROW := Lib.hid hrow;obtain ⟨d0, d1, d2, d3, d4, d5, d6, d7, d8, d9, da, db, dc, dd, df⟩ := cells14 hb';have HB := Lib.hid hb';have hsA := set_at hb' (o := 6) (.slice (some ⟨g2, off2, none⟩) (l.length + 1) cap2);simp only [List.setIfInBounds_toArray, List.set_cons_zero, List.set_cons_succ] at hsA;have HSP := Lib.hid (span_any _ b _ st (pl + 1) hsA rfl (by have := HBD.out; omega) (by omega));rw [show ((pl + 1 : Nat) : Int) = (pl : Int) + 1 by omega, HSZ.out] at HSP;have hkp : Keeps (fun k => k = b ∨ (Value.slice (some ⟨g, off, none⟩) l.length cap).ownBlock = some k) w1 (w'.setCell ⟨b, 6, none⟩ (.slice (some ⟨g2, off2, none⟩) (l.length + 1) cap2)) := HK.out.setCell (p := ⟨b, 6, none⟩) (.inl (.inl rfl)) _;have hwt : Win 232 id (w'.setCell ⟨b, 6, none⟩ (.slice (some ⟨g2, off2, none⟩) (l.length + 1) cap2)) tokV toks := HW.out.keeps hkp (fun k e hk => hk.elim (fun e2 => HW.out.ne H.out (by decide) (e.trans (congrArg some e2))) (fun e2 => HWN.out k e2 e));have HTELL := Lib.hid (fun wx (hb : Below (w'.setCell ⟨b, 6, none⟩ (.slice (some ⟨g2, off2, none⟩) (l.length + 1) cap2)).heap.size (w'.setCell ⟨b, 6, none⟩ (.slice (some ⟨g2, off2, none⟩) (l.length + 1) cap2)) wx) => tell_any wx b _ _ _ _ _ _ _ _ _ _ _ _ _ tokV 309 (.agg #[.int .i64 st, .int .i64 sz, .string s]) toks (keep hsA hb) (hwt.keeps (Keeps.of_below (fun _ => False) hb) (fun _ _ => id)) HTL.out);have HKP := Lib.hid hkp;clear hb' hrow hgb0 hgr hsA hwt hkp c0 c1 c2 c3 c4 c5 c6 c7 c8 c9 ca cb cc cd cf;go_wp2_with fail;refine (HSP.out).mono ?_;rintro e wx ⟨rfl, hbx⟩;have HT := Lib.hid (HTELL.out wx hbx);have HBX := Lib.hid hbx;clear hbx;go_wp2_with fail;refine (HT.out).mono ?_;rintro e w3 ⟨rfl, g3, off3, cap3, h3, hw3, hg3, hk3⟩;have H3 := Lib.hid h3;have HW3 := Lib.hid hw3;have HG3 := Lib.hid hg3;have HK3 := Lib.hid hk3;clear h3 hw3 hg3 hk3;go_wp2_with fail;go_ret;refine ⟨rfl, _, g3, off3, cap3, H3.out, HW3.out, HG3.out.elim .inl (fun h => .inr (Nat.le_trans HKP.out.size (Nat.le_trans HBX.out.size h))), ?_⟩;exact ((HKP.out.mono (fun k h => h.imp id .inl)).same (Keeps.of_below _ HBX.out)).same (HK3.out.mono (fun k h => h.imp id .inr))
theorem tw_isD (l : List UInt8) : ∀ c ∈ l.takeWhile isD, isD c = true := fun c hc => by
 induction l with
 | nil => cases hc
 | cons x l ih =>
  by_cases h : isD x = true
  ·rw [List.takeWhile_cons_of_pos h] at hc;rcases List.mem_cons.1 hc with rfl | hc
   ·exact h
   ·exact ih hc
  ·rw [List.takeWhile_cons_of_neg h] at hc; cases hc
theorem tw_len (l : List UInt8) : (l.takeWhile isD).length + (l.dropWhile isD).length = l.length := by
 have := congrArg List.length (List.takeWhile_append_dropWhile (p := isD) (l := l))
 rwa [List.length_append] at this
def LitOk (l : Lit) (n : Nat) : Prop := (∀ c ∈ l.whole, isD c = true) ∧ (∀ c ∈ l.behind, isD c = true) ∧ (∀ c ∈ l.exp, isD c = true) ∧ l.whole.length + l.behind.length + l.exp.length ≤ n
theorem ten_ok {neg : Bool} {wh be r : List UInt8} {l : Lit} (h : readTen neg wh be r = some l) (h1 : ∀ c ∈ wh, isD c = true) (h2 : ∀ c ∈ be, isD c = true) : LitOk l (wh.length + be.length + r.length) := by
 cases r with
 | nil => simp only [readTen, Option.some.injEq] at h; subst h; exact ⟨h1, h2, (fun c hc => by cases hc), by simp⟩
 | cons e t =>
  simp only [readTen] at h;split at h
  ·split at h
   ·cases h
   ·simp only [Option.some.injEq] at h;subst h;refine ⟨h1, h2, tw_isD _, ?_⟩;have a := tw_len (readSign t).2
    have b : (readSign t).2.length ≤ t.length := by
     cases t with
     | nil => exact Nat.le_refl _
     | cons c t' => simp only [readSign]; split <;> simp
    simp only [List.length_cons];omega
  ·cases h
theorem point_ok {neg : Bool} {wh r : List UInt8} {l : Lit} (h : readPoint neg wh r = some l) (h1 : ∀ c ∈ wh, isD c = true) : LitOk l (wh.length + r.length) := by
 cases r with
 | nil => have := ten_ok (be := []) (r := []) h h1 (fun c hc => by cases hc); simpa using this
 | cons c t =>
  simp only [readPoint] at h;split at h
  ·split at h
   ·cases h
   ·obtain ⟨a, b, c', d⟩ := ten_ok h h1 (tw_isD _);refine ⟨a, b, c', Nat.le_trans d ?_⟩;have := tw_len t;simp only [List.length_cons]; omega
  ·have := ten_ok (be := []) h h1 (fun c hc => by cases hc); simpa using this
theorem whole_ok {neg : Bool} {r : List UInt8} {l : Lit} (h : readWhole neg r = some l) : LitOk l r.length := by
 cases r with
 | nil => cases h
 | cons c t =>
  simp only [readWhole] at h;split at h
  ·rename_i hd;split at h
   ·have := point_ok h (by intro x hx; simp at hx; subst hx; rfl); simpa [Nat.add_comm] using this
   ·obtain ⟨a, b, c', d⟩ := point_ok h (tw_isD _);exact ⟨a, b, c', Nat.le_trans d (by rw [tw_len]; exact Nat.le_refl _)⟩
  ·cases h
theorem read_ok {s : List UInt8} {l : Lit} (h : readOf s = some l) : LitOk l s.length := by
 cases s with
 | nil => cases h
 | cons c t =>
  simp only [readOf] at h;split at h
  ·obtain ⟨a, b, c', d⟩ := whole_ok h;exact ⟨a, b, c', Nat.le_trans d (by simp)⟩
  ·exact whole_ok h
def parsedRet (o : Option Lit) (e : Ending) : Prop := match o with
 | some l => e = .returned (.tuple #[dmlV (bareOf l), .nilIface])
 | none => ∃ i : Nat, e = .returned (.tuple #[dmlV ⟨false, [], 0⟩, .iface 151 (.agg #[.int .i64 40, .int .i64 i])])
theorem parsed_any (s : ByteArray) (w : World) (hs : s.size ≤ 1073741824) : Calls Tryz.prog 194 #[.string s] w fun e w' => parsedRet (readOf s.data.toList) e ∧ Below w.heap.size w w' := by
 have hsz : s.data.toList.length = s.size := Array.length_toList;cases hr : readOf s.data.toList with
 | none =>
  have HR := fun w => read_any s w hs
  simp only [hr] at HR;clear hr;go_enter Tryz.func194, Tryz.ntmps194;go_wp2_with fail;refine (HR _).mono ?_;rintro e w1 ⟨⟨i, rfl⟩, hb⟩;obtain ⟨h1, hbw, hsz⟩ := after1 hb;have hlt := lt_of_block h1;have hi0 : (0 : Int) ≤ (i : Int) := by omega
  unfold noLit;obtain ⟨d0, d1, d2, df⟩ := cells3 h1;have h3 : (((w1.setCell ⟨w.heap.size, 0, none⟩ (.bool false)).setCell ⟨w.heap.size, 1, none⟩ (.string ⟨#[]⟩)).setCell ⟨w.heap.size, 2, none⟩ (.int .i64 0)).heap[w.heap.size]? = some (.cells #[.bool false, .string ⟨#[]⟩, .int .i64 0] 339 (0, 0)) := set_at (set_at (set_at h1 _) _) _;have h4 := (Below.heap_alloc _ (.cells #[.bool false, .string ⟨#[]⟩, .string ⟨#[]⟩, .bool false, .string ⟨#[]⟩] 354) _ (lt_of_block h3)).trans h3;obtain ⟨c0, c1, c2, cf⟩ := cells3 h4;have HB := Lib.hid ((((hbw.setCell (p := ⟨w.heap.size, 0, none⟩) (Nat.le_refl _) (.bool false)).setCell (p := ⟨w.heap.size, 1, none⟩) (Nat.le_refl _) (.string ⟨#[]⟩)).setCell (p := ⟨w.heap.size, 2, none⟩) (Nat.le_refl _) (.int .i64 0)).alloc (Nat.le_of_lt (lt_of_block h3)) (.cells #[.bool false, .string ⟨#[]⟩, .string ⟨#[]⟩, .bool false, .string ⟨#[]⟩] 354));clear h3 h4;clear h1 hb hbw;go_wp2_with fail;exact bodyPost_ret (v := .tuple #[dmlV ⟨false, [], 0⟩, .iface 151 (.agg #[.int .i64 40, .int .i64 i])]) (by simp [results, Tryz.results194, go_sem, dmlV, c0, c1, c2, d0, d1, d2]) rfl ⟨⟨i, rfl⟩, HB.out⟩
 | some l =>
  obtain ⟨o1, o2, o3, o4⟩ := read_ok hr;have HR := fun w => read_any s w hs
  simp only [hr] at HR;have hD : ∀ c ∈ l.exp, 48 ≤ c.toNat ∧ c.toNat ≤ 57 := fun c hc => by have := o3 c hc; simpa [isD] using this
  have HB := fun w => bare_any l.neg l.under ⟨l.whole.toArray⟩ ⟨l.behind.toArray⟩ ⟨l.exp.toArray⟩ w (by show l.whole.toArray.size + l.behind.toArray.size ≤ _; simp; omega) (by simpa using hD) (by show l.exp.toArray.size ≤ _; simp; omega)
  clear hr o1 o2 o3 o4 hD;obtain ⟨neg, wh, be, un, ex⟩ := l;obtain ⟨⟨dn, dd, de⟩, hd⟩ : ∃ d, bareOf ⟨neg, wh, be, un, ex⟩ = d := ⟨_, rfl⟩;simp only [hd] at HB;have HD := Lib.hid hd;clear hd;go_enter Tryz.func194, Tryz.ntmps194;go_wp2_with fail;refine (HR _).mono ?_;rintro e w1 ⟨rfl, hb⟩;unfold litV;obtain ⟨h1, hbw, hsz⟩ := after1 hb;go_wp2_with fail;refine (HB _).mono ?_;rintro e w2 ⟨rfl, hb2⟩;have hb3 : Below w1.heap.size w1 w2 := ((Below.refl w1.heap.size w1).alloc (Nat.le_refl _) _).trans (hb2.mono (by simp));have h2 := keep h1 hb3;obtain ⟨c0, c1, c2, cf⟩ := cells3 h2;have HBF := Lib.hid (chain hbw hb3);clear hb hb2 hb3 h1 h2 hbw;unfold dmlV;go_wp2_with fail;exact bodyPost_ret (v := .tuple #[dmlV ⟨dn, dd, de⟩, .nilIface]) (by simp [results, Tryz.results194, go_sem, dmlV, c0, c1, c2]) rfl ⟨by rw [← HD.out]; rfl, ((HBF.out.setCell (Nat.le_refl _) _).setCell (Nat.le_refl _) _).setCell (Nat.le_refl _) _⟩
end Go.Proofs.YtakkmiomhackiaaGreatDoor
