/-
  The program, one part of its walk: Lx10, Lx13, Lx15. Conditions: none.
-/
import Derived.Test.YtakkmiomhackiaaGreatDoorPc14
import Derived.Test.YtakkmiomhackiaaGreatDoorPc12
import Derived.Deep.RegionWith
import Derived.Test.YtakkmiomhackiaaGreatDoorPc24
set_option linter.all false
set_option maxRecDepth 100000
set_option maxHeartbeats 16000000
namespace Go.Proofs.YtakkmiomhackiaaGreatDoor
open Go.RowKit
theorem within_escape (w : World) (b f pl : Nat) (v0 v1 v2 v3 v4 v5 v6 v7 v9 va vb vc vd : Value) (h : w.heap[b]? = some (.cells #[v0, v1, v2, v3, v4, v5, v6, v7, .pointer (some ⟨f, 0, none⟩), v9, va, vb, vc, vd] 228 (0, 0)))
 (hf : Feeds w f pl []) :
 Calls Tryz.prog 138 #[.pointer (some ⟨b, 0, none⟩), .int .u8 92] w fun e w' => StepRet w b 0 #[v0, v1, v2, .func (.func 168) #[] #[], v4, v5, v6, v7, .pointer (some ⟨f, 0, none⟩), v9, va, vb, vc, vd] e w' := by
 obtain ⟨c0, c1, c2, c3, c4, c5, c6, c7, c8, c9, ca, cb, cc, cd, cf⟩ := cells14 h;have H := Lib.hid h;have HF := Lib.hid (held_any w f pl [] hf);clear h hf;go_enter Tryz.func138, Tryz.ntmps138;go_wp2_with fail;refine (HF.out).mono ?_;rintro e w1 ⟨rfl, rfl⟩;go_wp2_with fail;go_ret;exact ⟨rfl, set_at H.out _, (Keeps.refl (fun k => k = b) w1).setCell (p := ⟨b, 3, none⟩) (.inl rfl) _⟩
theorem within_control (w : World) (b f pl : Nat) (v0 v1 v2 v3 v4 v5 v6 v7 v9 va vb vc vd : Value) (ch : UInt8) (h : w.heap[b]? = some (.cells #[v0, v1, v2, v3, v4, v5, v6, v7, .pointer (some ⟨f, 0, none⟩), v9, va, vb, vc, vd] 228 (0, 0)))
 (hf : Feeds w f pl []) (hc : ch.toNat < 32) :
 Calls Tryz.prog 138 #[.pointer (some ⟨b, 0, none⟩), .int .u8 ((ch.toNat : Nat) : Int)] w fun e w' => e = .returned (.int .i64 91) ∧ w' = w := by
 obtain ⟨c0, c1, c2, c3, c4, c5, c6, c7, c8, c9, ca, cb, cc, cd, cf⟩ := cells14 h;have HF := Lib.hid (held_any w f pl [] hf);obtain ⟨n1, n2, n3⟩ := byte_ne3 (c := ch) (d := 34) (n := 34) (by intro e; subst e; exact absurd hc (by decide)) rfl;obtain ⟨m1, m2, m3⟩ := byte_ne3 (c := ch) (d := 92) (n := 92) (by intro e; subst e; exact absurd hc (by decide)) rfl;have hlt : ((ch.toNat : Nat) : Int) < 32 := by omega
 clear h hf hc;go_enter Tryz.func138, Tryz.ntmps138;go_wp2_with fail;refine (HF.out).mono ?_;rintro e w1 ⟨rfl, rfl⟩;go_wp2_with fail;go_ret;exact ⟨rfl, rfl⟩
theorem within_end (w : World) (b f fp pl st : Nat) (v1 v2 v3 v4 v6 v7 va vb vc saysV tokV : Value) (l : List UInt8) (toks : List Value) (h : w.heap[b]? = some (.cells #[.int .i64 pl, v1, v2, v3, v4, .int .i64 st, v6, v7, .pointer (some ⟨f, 0, none⟩), saysV, va, vb, vc, tokV] 228 (0, 0)))
 (hf : Feeds w f fp []) (hr : Win 5 encB w saysV l) (hw : Win 232 id w tokV toks) (htl : toks.length ≤ 1000) (hle : st ≤ pl + 1) (hpl : pl ≤ 1073741823) :
 Calls Tryz.prog 138 #[.pointer (some ⟨b, 0, none⟩), .int .u8 34] w fun e w' => ToldRet w b tokV toks (tokEnc (.str st (pl + 1 - st) l)) (fun v => #[.int .i64 pl, v1, v2, .func (.func 104) #[] #[], .bool false, .int .i64 st, v6, v7, .pointer (some ⟨f, 0, none⟩), saysV, va, vb, vc, v]) (.int .i64 0) e w' := by
 obtain ⟨c0, c1, c2, c3, c4, c5, c6, c7, c8, c9, ca, cb, cc, cd, cf⟩ := cells14 h;have HF := Lib.hid (held_any w f fp [] hf);have H := Lib.hid h;have HW := Lib.hid hw;have HR := Lib.hid hr;have hconv : ∀ w1, Below w.heap.size w w1 → (convert 22 9 saysV).run Tryz.prog w1 = .ok (.string ⟨l.toArray⟩) w1 := fun w1 hb => win_string (hr.keeps (Keeps.of_below (fun _ => False) hb) (fun _ _ => id))
 have hc0 := hconv w.drew (Below.refl _ _).drew;have HC := Lib.hid hconv;obtain ⟨s, hs⟩ : ∃ s : ByteArray, (⟨l.toArray⟩ : ByteArray) = s := ⟨_, rfl⟩;rw [hs] at hc0 HC;have HS := Lib.hid (span_any w.drew b _ st (pl + 1) h rfl (by omega) (by omega));rw [show ((pl + 1 : Nat) : Int) = (pl : Int) + 1 by omega] at HS;obtain ⟨sz, hsz⟩ : ∃ sz, pl + 1 - st = sz := ⟨_, rfl⟩;rw [hsz] at HS ⊢;have HT := Lib.hid (fun w' (hb : Below w.heap.size w w') => tell_any w' b _ _ _ _ _ _ _ _ _ _ _ _ _ tokV 241 (.agg #[.int .i64 st, .int .i64 (sz : Int), .string s]) toks (keep h hb) (hw.keeps (Keeps.of_below (fun _ => False) hb) (fun _ _ => id)) htl);have hlt := lt_of_block h;have hd9 : ∀ w1, Below w.heap.size w w1 → w1.cell? ⟨b, 9, none⟩ = some saysV := fun w1 hb => cell_at (keep h hb)
 have HD := Lib.hid hd9;have HSS := Lib.hid hs;have hpl1 : IntKind.i64.wrap ((pl : Int) + 1) = (pl : Int) + 1 := by rw [IntKind.wrap_i64]; omega
 clear h hf hr hw hconv hs hsz hd9;go_enter Tryz.func138, Tryz.ntmps138;go_wp2_with fail;refine (HF.out).mono ?_;rintro e w1 ⟨rfl, rfl⟩;go_wp2_with fail
 go_region_with (first | (go_at_call 136; refine (HS.out).mono ?_; rintro e w2 ⟨rfl, hb⟩; have hb2 := (Below.refl w1.heap.size w1).drew.trans hb; have hk9 := HD.out w2 hb2; have hcx := HC.out w2 hb2) | (go_at_call 135; refine (HT.out _ hb2).mono ?_; rintro e w3 ⟨rfl, g, off, cap, h3, hw3, hg3, hk3⟩; have H3 := Lib.hid h3; have HW3 := Lib.hid hw3; have HG3 := Lib.hid hg3; have HK3 := Lib.hid hk3; clear h3 hw3 hg3 hk3))
 all_goals
  have HB2 := Lib.hid hb2;clear hb hb2 hk9 hcx;go_wp2_with fail;go_ret;have hte : tokEnc (.str st sz l) = .iface 241 (.agg #[.int .i64 st, .int .i64 (sz : Int), .string s]) := by rw [← HSS.out]; rfl
  rw [hte];exact ⟨rfl, g, off, cap, H3.out, HW3.out, HG3.out.elim .inl (fun h => .inr (Nat.le_trans HB2.out.size h)), (Keeps.of_below _ HB2.out).same HK3.out⟩
theorem feed_one (w : World) (f fp : Nat) (held : List UInt8) (ch : UInt8) (g : Nat) (h : Feeds w f fp held) (hg : w.heap[g]? = some (.cells #[encB ch] 5 (0, 0))) (hfp : fp ≤ 1073741824) :
 Calls Tryz.prog 169 #[.pointer (some ⟨f, 0, none⟩), .slice (some ⟨g, 0, none⟩) 1 1] w fun e w' => feedRet w' f fp 1 (feedOne held ch) e ∧ Keeps (fun k => k = f) w w' := by
 have hne : g ≠ f := by
  obtain ⟨_, a0, a1, a2, a3, h2, _⟩ := h;intro e; subst e;rw [hg] at h2;simp at h2
 have := feed_any w f fp held [ch] (some ⟨g, 0, none⟩) 1 h (.inr ⟨g, 0, rfl, hne, lt_of_block hg, fun i x hi => by
  rw [cell_at hg];cases i with
  | zero => simp at hi; subst hi; rfl
  | succ i => simp at hi⟩) (by simp) hfp
 rw [show feedAll held [ch] = feedOne held ch from rfl] at this;exact this
def plainIn (held : List UInt8) (ch : UInt8) : Prop := held ≠ [] ∨ (ch ≠ 34 ∧ ch ≠ 92 ∧ 32 ≤ ch.toNat)
theorem within_bad (w : World) (b f fp : Nat) (v0 v1 v2 v3 v4 v5 v6 v7 v9 va vb vc vd : Value) (ch : UInt8) (held : List UInt8) (h : w.heap[b]? = some (.cells #[v0, v1, v2, v3, v4, v5, v6, v7, .pointer (some ⟨f, 0, none⟩), v9, va, vb, vc, vd] 228 (0, 0)))
 (hf : Feeds w f fp held) (hfp : fp ≤ 1073741824) (hc : plainIn held ch) (hfeed : feedOne held ch = none) :
 Calls Tryz.prog 138 #[.pointer (some ⟨b, 0, none⟩), .int .u8 ((ch.toNat : Nat) : Int)] w fun e w' => e = .returned (.int .i64 90) ∧ Keeps (fun k => k = f) w w' := by
 obtain ⟨c0, c1, c2, c3, c4, c5, c6, c7, c8, c9, ca, cb, cc, cd, cf⟩ := cells14 h;have HF := Lib.hid (held_any w f fp held hf);have hal : Feeds (w.alloc (.cells #[encB ch] 5)) f fp held := hf.keeps (F := fun _ => False) ((Keeps.refl _ w).alloc _) id;have HFD := Lib.hid (feed_one _ f fp held ch w.heap.size hal (heap_alloc_new w _) hfp);rw [hfeed] at HFD;clear h hf hal hfeed;unfold plainIn at hc;rcases hc with hc | ⟨hc1, hc2, hc3⟩
 ·have E1 : (((held.length : Nat) : Int) == 0) = false := by cases held <;> simp_all; omega
  obtain ⟨n, hn⟩ : ∃ n, held.length = n := ⟨_, rfl⟩;rw [hn] at E1 HF;clear hc hn;go_enter Tryz.func138, Tryz.ntmps138;go_wp2_with fail;refine (HF.out).mono ?_;rintro e w1 ⟨rfl, rfl⟩;go_wp2_with fail;refine (HFD.out).mono ?_;rintro e w2 ⟨⟨p, rfl, hbad⟩, hk⟩;have HK := Lib.hid hk;clear hk hbad;go_wp2_with fail;go_ret;exact ⟨rfl, ((Keeps.refl (fun k => k = f) w1).alloc (.cells #[encB ch] 5)).same HK.out⟩
 ·by_cases hz : held = []
  ·subst hz;obtain ⟨n1, n2, n3⟩ := byte_ne3 (c := ch) (d := 34) (n := 34) hc1 rfl;obtain ⟨m1, m2, m3⟩ := byte_ne3 (c := ch) (d := 92) (n := 92) hc2 rfl;have hlt : ¬ ((ch.toNat : Nat) : Int) < 32 := by omega
   clear hc1 hc2 hc3;go_enter Tryz.func138, Tryz.ntmps138;go_wp2_with fail;refine (HF.out).mono ?_;rintro e w1 ⟨rfl, rfl⟩;go_wp2_with fail;refine (HFD.out).mono ?_;rintro e w2 ⟨⟨p, rfl, hbad⟩, hk⟩;have HK := Lib.hid hk;clear hk hbad;go_wp2_with fail;go_ret;exact ⟨rfl, ((Keeps.refl (fun k => k = f) w1).alloc (.cells #[encB ch] 5)).same HK.out⟩
  ·have E1 : (((held.length : Nat) : Int) == 0) = false := by cases held <;> simp_all; omega
   obtain ⟨n, hn⟩ : ∃ n, held.length = n := ⟨_, rfl⟩;rw [hn] at E1 HF;clear hc1 hc2 hc3 hz hn;go_enter Tryz.func138, Tryz.ntmps138;go_wp2_with fail;refine (HF.out).mono ?_;rintro e w1 ⟨rfl, rfl⟩;go_wp2_with fail;refine (HFD.out).mono ?_;rintro e w2 ⟨⟨p, rfl, hbad⟩, hk⟩;have HK := Lib.hid hk;clear hk hbad;go_wp2_with fail;go_ret;exact ⟨rfl, ((Keeps.refl (fun k => k = f) w1).alloc (.cells #[encB ch] 5)).same HK.out⟩
theorem within_more (w : World) (b f fp : Nat) (v0 v1 v2 v3 v4 v5 v6 v7 va vb vc vd saysV : Value) (ch : UInt8) (held held' l : List UInt8) (h : w.heap[b]? = some (.cells #[v0, v1, v2, v3, v4, v5, v6, v7, .pointer (some ⟨f, 0, none⟩), saysV, va, vb, vc, vd] 228 (0, 0)))
 (hf : Feeds w f fp held) (hr : Win 5 encB w saysV l) (hl : l.length ≤ 1073741824) (hfp : fp ≤ 1073741824) (hc : plainIn held ch) (hfeed : feedOne held ch = some held') :
 Calls Tryz.prog 138 #[.pointer (some ⟨b, 0, none⟩), .int .u8 ((ch.toNat : Nat) : Int)] w fun e w' => e = .returned (.int .i64 0) ∧ ∃ g off cap, w'.heap[b]? = some (.cells #[v0, v1, v2, v3, v4, v5, v6, v7, .pointer (some ⟨f, 0, none⟩), .slice (some ⟨g, off, none⟩) (l.length + 1) cap, va, vb, vc, vd] 228 (0, 0)) ∧
  Win 5 encB w' (.slice (some ⟨g, off, none⟩) (l.length + 1) cap) (l ++ [ch]) ∧ (saysV.ownBlock = some g ∨ w.heap.size ≤ g) ∧ Feeds w' f (fp + 1) held' ∧ Keeps (fun k => k = b ∨ k = f ∨ saysV.ownBlock = some k) w w' := by
 obtain ⟨c0, c1, c2, c3, c4, c5, c6, c7, c8, c9, ca, cb, cc, cd, cf⟩ := cells14 h;have HF := Lib.hid (held_any w f fp held hf);have hal : Feeds (w.alloc (.cells #[encB ch] 5)) f fp held := hf.keeps (F := fun _ => False) ((Keeps.refl _ w).alloc _) id;have hfd := feed_one _ f fp held ch w.heap.size hal (heap_alloc_new w _) hfp;rw [hfeed] at hfd
 have hbf : b ≠ f := by
  obtain ⟨_, a0, a1, a2, a3, h2, _⟩ := hf;intro e; subst e;rw [h] at h2;simp at h2
 have hsf : ∀ k, saysV.ownBlock = some k → k ≠ f := by
  obtain ⟨_, a0, a1, a2, a3, h2, _⟩ := hf;intro k hk e; subst e;exact hr.ne h2 (by decide) hk
 have HNE := Lib.hid (hr.ne h (by decide));have HSF := Lib.hid hsf;have HBF := Lib.hid hbf;have hlt := lt_of_block h;have hal1 : (w.alloc (.cells #[encB ch] 5)).heap[b]? = _ := (Below.heap_alloc w _ _ hlt).trans h;have hal2 : Win 5 encB (w.alloc (.cells #[encB ch] 5)) saysV l := hr.keeps (F := fun _ => False) ((Keeps.refl _ w).alloc _) (fun _ _ => id)
 have HFD := Lib.hid (hfd.mono (R' := fun e w2 => e = .returned .nilIface ∧ Feeds w2 f (fp + 1) held' ∧ w2.heap[b]? = some (.cells #[v0, v1, v2, v3, v4, v5, v6, v7, .pointer (some ⟨f, 0, none⟩), saysV, va, vb, vc, vd] 228 (0, 0)) ∧ Win 5 encB (w2.alloc (.cells #[encB ch] 5)) saysV l ∧ Keeps (fun k => k = f) w w2 ∧ w.heap.size < w2.heap.size)
  fun e w2 ⟨⟨he, hf2⟩, hk⟩ => ⟨he, hf2, hk.blk hal1 hbf, (hal2.keeps hk (fun k e => hsf k e)).keeps (F := fun _ => False) ((Keeps.refl _ w2).alloc _) (fun _ _ => id), ((Keeps.refl (fun k => k = f) w).alloc (.cells #[encB ch] 5)).same hk, Nat.lt_of_lt_of_le (by simp) hk.size⟩)
 obtain ⟨ta, tc, htv⟩ := hr.shape;clear h hf hal hfeed hfd hbf hsf hal1 hal2 hr;subst htv
 have hway : (((held.length : Nat) : Int) == 0) = false ∨ (held = [] ∧ ch ≠ 34 ∧ ch ≠ 92 ∧ 32 ≤ ch.toNat) := by
  unfold plainIn at hc
  by_cases hz : held = []
  ·exact .inr ⟨hz, (hc.resolve_left (fun h => h hz))⟩
  ·left; cases held <;> simp_all; omega
 clear hc;rcases hway with E1 | ⟨rfl, hc1, hc2, hc3⟩
 ·obtain ⟨n, hn⟩ : ∃ n, held.length = n := ⟨_, rfl⟩;rw [hn] at E1 HF;clear hn;go_enter Tryz.func138, Tryz.ntmps138;go_wp2_with fail;refine (HF.out).mono ?_;rintro e w1 ⟨rfl, rfl⟩;go_wp2_with fail;refine (HFD.out).mono ?_;rintro e w2 ⟨rfl, hf2, hb2, hr2, hk2, hs2⟩;obtain ⟨d0, d1, d2, d3, d4, d5, d6, d7, d8, d9, da, db, dc, dd, df⟩ := cells14 hb2;have HR2 := Lib.hid hr2;have HF2 := Lib.hid hf2;have HB2 := Lib.hid hb2;have HK2 := Lib.hid hk2;have HS2 := Lib.hid hs2;have HLT := Lib.hid (lt_of_block hb2);clear hf2 hb2 hr2 hk2 hs2 c0 c1 c2 c3 c4 c5 c6 c7 c8 c9 ca cb cc cd cf hlt
  go_wp2_with (at_builtin; refine append_win elemB rfl _ _ rfl rfl HR2.out ⟨w2.heap.size, 0, none⟩ 1 ch rfl ?_ rfl ?_ ?_ ?_)
  ·exact cell_new rfl
  ·omega
  ·unfold maxLen; omega
  intro g off cap w' hrow hgb0 hgr;have hb' := (hgr.block b (by have := HLT.out; simp; omega) (fun e => HNE.out e.symm)).trans ((Below.heap_alloc w2 _ _ HLT.out).trans HB2.out);have HNG := Lib.hid (hrow.ne hb' (by decide));have HGB := Lib.hid (show (Value.slice ta l.length tc).ownBlock = some g ∨ w1.heap.size ≤ g from hgb0.elim .inl (fun h => .inr (Nat.le_trans (Nat.le_of_lt HS2.out) (Nat.le_trans (by simp) h.1))))
  have hfa : Feeds w' f (fp + 1) held' := by
   obtain ⟨hok, a0, a1, a2, a3, h2, h9⟩ := HF2.out;exact ⟨hok, a0, a1, a2, a3, (hgr.block f (by have := lt_of_block h2; simp; omega) (fun e => HSF.out f e.symm rfl)).trans ((Below.heap_alloc w2 _ _ (lt_of_block h2)).trans h2), h9⟩
  have HFA := Lib.hid hfa;have hkk : Keeps (fun k => k = b ∨ k = f ∨ (Value.slice ta l.length tc).ownBlock = some k) w1 w' := ((HK2.out.mono (fun k hk => .inr (.inl hk))).alloc (.cells #[encB ch] 5)).grown hgr (fun k e => .inl (.inr (.inr e)));have HKK := Lib.hid hkk;have HROW := Lib.hid hrow;obtain ⟨e0, e1, e2, e3, e4, e5, e6, e7, e8, e9, ea, eb, ec, ed, ef⟩ := cells14 hb';have HB3 := Lib.hid hb';clear hb' hrow hgb0 hgr hfa hkk d0 d1 d2 d3 d4 d5 d6 d7 d8 d9 da db dc dd df;go_wp2_with fail;go_ret;have hks : Keeps (fun k => k = b) w' (w'.setCell ⟨b, 9, none⟩ (.slice (some ⟨g, off, none⟩) (l.length + 1) cap)) := (Keeps.refl (fun k => k = b) w').setCell (p := ⟨b, 9, none⟩) (.inl rfl) _;exact ⟨rfl, g, off, cap, set_at HB3.out _, HROW.out.keeps hks (fun k e hk => HNG.out (e.trans (congrArg some hk))), HGB.out, HFA.out.keeps hks (fun e => HBF.out e.symm), HKK.out.setCell (p := ⟨b, 9, none⟩) (.inl (.inl rfl)) _⟩
 ·obtain ⟨n1, n2, n3⟩ := byte_ne3 (c := ch) (d := 34) (n := 34) hc1 rfl;obtain ⟨m1, m2, m3⟩ := byte_ne3 (c := ch) (d := 92) (n := 92) hc2 rfl;have hlt2 : ¬ ((ch.toNat : Nat) : Int) < 32 := by omega
  clear hc1 hc2 hc3;go_enter Tryz.func138, Tryz.ntmps138;go_wp2_with fail;refine (HF.out).mono ?_;rintro e w1 ⟨rfl, rfl⟩;go_wp2_with fail;refine (HFD.out).mono ?_;rintro e w2 ⟨rfl, hf2, hb2, hr2, hk2, hs2⟩;obtain ⟨d0, d1, d2, d3, d4, d5, d6, d7, d8, d9, da, db, dc, dd, df⟩ := cells14 hb2;have HR2 := Lib.hid hr2;have HF2 := Lib.hid hf2;have HB2 := Lib.hid hb2;have HK2 := Lib.hid hk2;have HS2 := Lib.hid hs2;have HLT := Lib.hid (lt_of_block hb2);clear hf2 hb2 hr2 hk2 hs2 c0 c1 c2 c3 c4 c5 c6 c7 c8 c9 ca cb cc cd cf hlt
  go_wp2_with (at_builtin; refine append_win elemB rfl _ _ rfl rfl HR2.out ⟨w2.heap.size, 0, none⟩ 1 ch rfl ?_ rfl ?_ ?_ ?_)
  ·exact cell_new rfl
  ·omega
  ·unfold maxLen; omega
  intro g off cap w' hrow hgb0 hgr;have hb' := (hgr.block b (by have := HLT.out; simp; omega) (fun e => HNE.out e.symm)).trans ((Below.heap_alloc w2 _ _ HLT.out).trans HB2.out);have HNG := Lib.hid (hrow.ne hb' (by decide));have HGB := Lib.hid (show (Value.slice ta l.length tc).ownBlock = some g ∨ w1.heap.size ≤ g from hgb0.elim .inl (fun h => .inr (Nat.le_trans (Nat.le_of_lt HS2.out) (Nat.le_trans (by simp) h.1))))
  have hfa : Feeds w' f (fp + 1) held' := by
   obtain ⟨hok, a0, a1, a2, a3, h2, h9⟩ := HF2.out;exact ⟨hok, a0, a1, a2, a3, (hgr.block f (by have := lt_of_block h2; simp; omega) (fun e => HSF.out f e.symm rfl)).trans ((Below.heap_alloc w2 _ _ (lt_of_block h2)).trans h2), h9⟩
  have HFA := Lib.hid hfa;have hkk : Keeps (fun k => k = b ∨ k = f ∨ (Value.slice ta l.length tc).ownBlock = some k) w1 w' := ((HK2.out.mono (fun k hk => .inr (.inl hk))).alloc (.cells #[encB ch] 5)).grown hgr (fun k e => .inl (.inr (.inr e)));have HKK := Lib.hid hkk;have HROW := Lib.hid hrow;obtain ⟨e0, e1, e2, e3, e4, e5, e6, e7, e8, e9, ea, eb, ec, ed, ef⟩ := cells14 hb';have HB3 := Lib.hid hb';clear hb' hrow hgb0 hgr hfa hkk d0 d1 d2 d3 d4 d5 d6 d7 d8 d9 da db dc dd df;go_wp2_with fail;go_ret;have hks : Keeps (fun k => k = b) w' (w'.setCell ⟨b, 9, none⟩ (.slice (some ⟨g, off, none⟩) (l.length + 1) cap)) := (Keeps.refl (fun k => k = b) w').setCell (p := ⟨b, 9, none⟩) (.inl rfl) _;exact ⟨rfl, g, off, cap, set_at HB3.out _, HROW.out.keeps hks (fun k e hk => HNG.out (e.trans (congrArg some hk))), HGB.out, HFA.out.keeps hks (fun e => HBF.out e.symm), HKK.out.setCell (p := ⟨b, 9, none⟩) (.inl (.inl rfl)) _⟩
section
section
variable {F G : Nat → Prop} {w w' : World} {b : Nat} {x : Lx} {dn : Bool} {toks : List Tok}
theorem LexAt.mono (h : LexAt F w b x dn toks) (hf : ∀ k, F k → G k) (hlt : ∀ k, G k → k < w.heap.size) : LexAt G w b x dn toks := by
 obtain ⟨hF, _, rawV, chV, saysV, tokV, hb, hw, hs⟩ := h;exact ⟨hf _ hF, hlt, rawV, chV, saysV, tokV, hb, hw.mono hf, hs.mono hf⟩
theorem LexDead.mono {pl st : Nat} {errV : Value} (h : LexDead F w b pl st errV toks) (hf : ∀ k, F k → G k) (hlt : ∀ k, G k → k < w.heap.size) : LexDead G w b pl st errV toks := by
 obtain ⟨hF, _, v2, v3, v4, v6, v7, v8, v9, va, vb, vc, tokV, hb, hw⟩ := h;exact ⟨hf _ hF, hlt, v2, v3, v4, v6, v7, v8, v9, va, vb, vc, tokV, hb, hw.mono hf⟩
theorem LexAt.dead (h : LexAt F w b x dn toks) : LexDead F w b x.place x.start .nilIface toks := by
 obtain ⟨hF, hlt, rawV, chV, saysV, tokV, hb, hw, hs⟩ := h;exact ⟨hF, hlt, _, _, _, _, _, _, _, _, _, _, tokV, hb, hw⟩
theorem LexAt.block (h : LexAt F w b x dn toks) : F b := h.1
theorem LexAt.lt (h : LexAt F w b x dn toks) : ∀ k, F k → k < w.heap.size := h.2.1
end
def StepPost (F : Nat → Prop) (w : World) (b : Nat) (pl : Nat) (toks : List Tok) (r : LxOut) (e : Ending) (w' : World) : Prop :=
 e = .returned (.int .i64 r.no) ∧ Keeps F w w' ∧ (r.no = 0 → LexAt (Since F w w') w' b r.lx false (toks ++ r.toks)) ∧ (r.no ≠ 0 → LexDead (Since F w w') w' b pl r.lx.start .nilIface (toks ++ r.toks))
theorem StepPost.good {F : Nat → Prop} {w w' : World} {b pl : Nat} {toks : List Tok} {y : Lx} {ts : List Tok} {e : Ending} (he : e = .returned (.int .i64 0)) (hk : Keeps F w w') (h : LexAt (Since F w w') w' b y false (toks ++ ts)) : StepPost F w b pl toks ⟨y, ts, 0⟩ e w' :=
 ⟨he, hk, fun _ => h, fun hn => absurd rfl hn⟩
theorem StepPost.bad {F : Nat → Prop} {w w' : World} {b pl no : Nat} {toks : List Tok} {y : Lx} {ts : List Tok} {e : Ending} (hno : no ≠ 0) (he : e = .returned (.int .i64 no)) (hk : Keeps F w w') (h : LexDead (Since F w w') w' b pl y.start .nilIface (toks ++ ts)) : StepPost F w b pl toks ⟨y, ts, no⟩ e w' :=
 ⟨he, hk, fun hn => absurd hn hno, fun _ => h⟩
theorem told_at {F : Nat → Prop} {w w' : World} {b : Nat} {tokV t v : Value} {toks : List Tok} {tok : Tok} {e : Ending} {y : Lx} {rawV chV saysV : Value} (hF : F b) (hlt : ∀ k, F k → k < w.heap.size) (hw : WinIn F 232 id w tokV (toks.map tokEnc)) (ht : t = tokEnc tok) (hst : y.st = .outside) {c : Value → Array Value}
 (hc : ∀ u, c u = #[.int .i64 y.place, .nilIface, .bool false, .func (.func 104) #[] #[], .bool y.isIn, .int .i64 y.start, rawV, .int .i64 y.number, chV, saysV, .int .i64 y.digits, .int .i32 y.code, .int .i32 y.high, u])
 (h : ToldRet w b tokV (toks.map tokEnc) t c v e w') : e = .returned v ∧ Keeps F w w' ∧ LexAt (Since F w w') w' b y false (toks ++ [tok]) := by
 obtain ⟨he, g, off, cap, hb, hwin, hg, hk⟩ := h;have hk2 : Keeps F w w' := hk.mono fun k hk => hk.elim (fun e => e ▸ hF) (fun e => hw.2 k e)
 refine ⟨he, hk2, .inl hF, since_lt hlt hk2.size, rawV, chV, saysV, _, by rw [hb, hc, hst]; rfl, ⟨?_, ?_⟩, ⟨fun hs => ?_, fun hs => ?_⟩⟩
 ·rw [List.map_append, List.map_cons, List.map_nil, ← ht]; exact hwin
 ·intro k hk3;cases hk3;exact hg.elim (fun e => .inl (hw.2 _ e)) (fun hle => .inr ⟨hle, hwin.lt rfl⟩)
 ·rw [hst] at hs; exact absurd hs (by decide)
 ·rw [hst] at hs; exact absurd hs (by decide)
theorem raw_at {F : Nat → Prop} {w w' : World} {b : Nat} {tokV rawV : Value} {toks : List Tok} {l : List UInt8} {e : Ending} {y : Lx} {chV saysV : Value} (hF : F b) (hlt : ∀ k, F k → k < w.heap.size) (hw : WinIn F 232 id w tokV (toks.map tokEnc)) (hr : ∀ k, rawV.ownBlock = some k → F k) (hst : y.st = .letter ∨ y.st = .numeral) (hl : y.raw = l) {c : Value → Array Value}
 (hbt : ∃ c0, w.heap[b]? = some (.cells c0 228 (0, 0))) (hrt : ∀ k, rawV.ownBlock = some k → tokV.ownBlock ≠ some k)
 (hc : ∀ u, c u = #[.int .i64 y.place, .nilIface, .bool false, .func (.func (stepNo y.st)) #[] #[], .bool y.isIn, .int .i64 y.start, u, .int .i64 y.number, chV, saysV, .int .i64 y.digits, .int .i32 y.code, .int .i32 y.high, tokV])
 (h : RawRet w b rawV l c e w') : e = .returned (.int .i64 0) ∧ Keeps F w w' ∧ LexAt (Since F w w') w' b y false toks := by
 obtain ⟨he, g, off, cap, hb, hwin, hg, hk⟩ := h;have hk2 : Keeps F w w' := hk.mono fun k hk => hk.elim (fun e => e ▸ hF) (fun e => hr k e)
 obtain ⟨c0, hb0⟩ := hbt;refine ⟨he, hk2, .inl hF, since_lt hlt hk2.size, _, chV, saysV, tokV, by rw [hb, hc], ⟨hw.1.keeps hk ?_, fun k hk3 => .inl (hw.2 k hk3)⟩, ⟨fun _ => ⟨by rw [hl]; exact hwin, ?_⟩, fun hs => ?_⟩⟩
 ·intro k hk3 hk4;rcases hk4 with rfl | hk4
  ·exact hw.1.ne hb0 (by decide) hk3
  ·exact hrt k hk4 hk3
 ·intro k hk3;cases hk3;exact hg.elim (fun e => .inl (hr _ e)) (fun hle => .inr ⟨hle, hwin.lt rfl⟩)
 ·rcases hst with hst | hst <;> (rw [hst] at hs; exact absurd hs (by decide))
theorem begun_word {c : UInt8} (h : wordOf c ≠ []) : c = 110 ∨ c = 116 ∨ c = 102 := by
 unfold wordOf at h;split at h
 ·exact .inl ‹_›
 ·split at h
  ·exact .inr (.inl ‹_›)
  ·split at h
   ·exact .inr (.inr ‹_›)
   ·exact absurd rfl h
theorem mark_cases {c : UInt8} (h : isMark c = true) : c = 123 ∨ c = 125 ∨ c = 91 ∨ c = 93 ∨ c = 58 ∨ c = 44 := by
 simpa [isMark, or_assoc] using h
theorem step_outside (F : Nat → Prop) (w : World) (b : Nat) (x : Lx) (toks : List Tok) (c : UInt8) (h : LexAt F w b x false toks) (hst : x.st = .outside) (hpl : x.place ≤ 16777216) (htl : toks.length ≤ 1000) :
 Calls Tryz.prog 104 #[.pointer (some ⟨b, 0, none⟩), .int .u8 ((c.toNat : Nat) : Int)] w fun e w' => StepPost F w b x.place toks (outsideStep x c) e w' := by
 have h0 := h;obtain ⟨hF, hlt, rawV, chV, saysV, tokV, hb, hw, hs⟩ := h;have htl2 : (toks.map tokEnc).length ≤ 1000 := by simpa using htl
 unfold outsideStep
 by_cases hbl : isBlank c = true
 ·rw [if_pos hbl];refine (outside_blank w b c hbl).mono ?_;rintro e w' ⟨rfl, rfl⟩;exact .good rfl (Keeps.refl _ _) (by rw [List.append_nil]; exact h0.mono (fun k hk => .inl hk) (since_lt hlt (Nat.le_refl _)))
 rw [if_neg hbl];simp only []
 by_cases hm : isMark c = true
 ·rw [if_pos hm]
  have key : Calls Tryz.prog 104 #[.pointer (some ⟨b, 0, none⟩), .int .u8 ((c.toNat : Nat) : Int)] w fun e w' => ToldRet w b tokV (toks.map tokEnc) (tokEnc (.mark x.place c)) (fun v => #[.int .i64 x.place, .nilIface, .bool false, .func (.func 104) #[] #[], .bool false, .int .i64 x.place, .slice none 0 0, .int .i64 0, chV, saysV, .int .i64 x.digits, .int .i32 x.code, .int .i32 x.high, v]) (.int .i64 0) e w' := by
   exact outside_mark w b x.place _ _ _ _ _ _ _ _ _ _ _ _ tokV c (mark_cases hm) _ hb hw.1 htl2 (by omega)
  refine key.mono fun e w' ht => ?_
  obtain ⟨he, hk, hl⟩ := told_at (y := Lx.told { x with isIn := true, start := x.place, raw := [], number := 0 }) (tok := .mark x.place c) hF hlt hw rfl rfl (fun u => rfl) ht;exact .good he hk hl
 rw [if_neg hm]
 by_cases hq : c = 34
 ·rw [if_pos hq];subst hq;refine (outside_quote w b x.place _ _ _ _ _ _ _ _ _ _ _ _ tokV hb).mono ?_;rintro e w' ⟨rfl, f, hf1, hf2, hb2, hfe, hk⟩;have hk2 : Keeps F w w' := hk.mono (fun k e => e ▸ hF);exact .good rfl hk2 ⟨.inl hF, since_lt hlt hk.size, _, _, _, tokV, hb2, by rw [List.append_nil]; exact hw.keeps (G := fun k => k = b) hk (fun k e hk => hw.1.ne hb (by decide) (e.trans (congrArg some hk))), ⟨fun hs => absurd hs (by simp), fun _ => ⟨.nil _ _ _ _, f, 0, rfl, hfe, .inr ⟨hf1, hf2⟩, Nat.zero_le _⟩⟩⟩
 rw [if_neg hq]
 by_cases hnum : c = 45 ∨ isD c = true
 ·rw [if_pos hnum]
  obtain ⟨s', hs'⟩ : ∃ s', numNext 0 c = some s' := by
   rcases hnum with rfl | hd
   ·exact ⟨1, rfl⟩
   ·by_cases h48 : c = 48
    ·subst h48; exact ⟨2, rfl⟩
    ·have h45 : c ≠ 45 := by intro e; subst e; exact absurd hd (by decide)
     exact ⟨3, by simp [numNext, h48, h45, hd]⟩
  unfold numFirst;rw [hs']
  have key : Calls Tryz.prog 104 #[.pointer (some ⟨b, 0, none⟩), .int .u8 ((c.toNat : Nat) : Int)] w fun e w' => RawRet w b (.slice none 0 0) [c] (fun v => #[.int .i64 x.place, .nilIface, .bool false, .func (.func 139) #[] #[], .bool true, .int .i64 x.place, v, .int .i64 s', chV, saysV, .int .i64 x.digits, .int .i32 x.code, .int .i32 x.high, tokV]) e w' := by
   rcases hnum with rfl | hd
   ·exact outside_num45 w b x.place s' _ _ _ _ _ _ _ _ _ _ _ _ _ hb hs'
   ·have : 48 ≤ c.toNat ∧ c.toNat ≤ 57 := by simpa [isD] using hd
    exact outside_numD w b x.place s' _ _ _ _ _ _ _ _ _ _ _ _ _ c hb this.1 this.2 hs'
  refine key.mono fun e w' ht => ?_
  obtain ⟨he, hk, hl⟩ := raw_at (y := { x with isIn := true, start := x.place, st := .numeral, number := s', raw := [c] }) hF hlt hw (fun k e => by cases e) (.inr rfl) rfl ⟨_, hb⟩ (fun k e => by cases e) (fun u => rfl) ht;exact .good he hk (by rw [List.append_nil]; exact hl)
 rw [if_neg hnum]
 by_cases hwd : wordOf c ≠ []
 ·rw [if_pos hwd]
  have key : Calls Tryz.prog 104 #[.pointer (some ⟨b, 0, none⟩), .int .u8 ((c.toNat : Nat) : Int)] w fun e w' => RawRet w b (.slice none 0 0) [c] (fun v => #[.int .i64 x.place, .nilIface, .bool false, .func (.func 141) #[] #[], .bool true, .int .i64 x.place, v, .int .i64 0, chV, saysV, .int .i64 x.digits, .int .i32 x.code, .int .i32 x.high, tokV]) e w' := by
   exact outside_word w b x.place _ _ _ _ _ _ _ _ _ _ _ _ _ c (begun_word hwd) hb
  refine key.mono fun e w' ht => ?_
  obtain ⟨he, hk, hl⟩ := raw_at (y := { x with isIn := true, start := x.place, number := 0, st := .letter, raw := [c] }) hF hlt hw (fun k e => by cases e) (.inl rfl) rfl ⟨_, hb⟩ (fun k e => by cases e) (fun u => rfl) ht;exact .good he hk (by rw [List.append_nil]; exact hl)
 rw [if_neg hwd];have hwd' : wordOf c = [] := by simpa using hwd
 have hbl' : isBlank c = false := by simpa using hbl
 have hm' : isMark c = false := by simpa using hm
 have h45 : c ≠ 45 := fun e => hnum (.inl e)
 have key : Calls Tryz.prog 104 #[.pointer (some ⟨b, 0, none⟩), .int .u8 ((c.toNat : Nat) : Int)] w fun e w' => e = .returned (.int .i64 94) ∧ w' = begunW w b x.place := by
  by_cases h48 : c.toNat < 48
  ·exact outside_badLow w b x.place _ _ _ _ _ _ _ _ _ _ _ _ _ c hb hbl' hm' hq h45 h48 hwd'
  ·have h57 : 57 < c.toNat := by
    apply Nat.lt_of_not_le;intro hle;exact hnum (.inr (by simp [isD]; omega))
   exact outside_badUp w b x.place _ _ _ _ _ _ _ _ _ _ _ _ _ c hb hbl' hm' hq h45 h57 hwd'
 refine key.mono ?_;rintro e w' ⟨rfl, rfl⟩;have hk : Keeps (fun k => k = b) w (begunW w b x.place) := begun_keeps w b x.place;exact .bad (by decide) rfl (hk.mono (fun k e => e ▸ hF)) ⟨.inl hF, since_lt hlt hk.size, _, _, _, _, _, _, _, _, _, _, tokV, begun_at hb, by rw [List.append_nil]; exact hw.keeps (G := fun k => k = b) hk (fun k e hk => hw.1.ne hb (by decide) (e.trans (congrArg some hk)))⟩
end
def TakePost (F : Nat → Prop) (w : World) (b : Nat) (toks : List Tok) (t : Lx × List Tok × Nat × Nat) (errV : Nat → Nat → Value) (e : Ending) (w' : World) : Prop :=
 Keeps F w w' ∧ (t.2.2.1 = 0 → e = .returned .nilIface ∧ LexAt (Since F w w') w' b t.1 false (toks ++ t.2.1)) ∧
 (t.2.2.1 ≠ 0 → e = .returned (.iface 151 (.agg #[.int .i64 t.2.2.1, .int .i64 t.2.2.2])) ∧ ∃ pl st, LexDead (Since F w w') w' b pl st (errV t.2.2.1 t.2.2.2) (toks ++ t.2.1))
theorem outsideStep_place (x : Lx) (c : UInt8) : (outsideStep x c).lx.place = x.place := by
 unfold outsideStep;split
 ·rfl
 ·simp only [];split
  ·rfl
  ·split
   ·rfl
   ·split
    ·unfold numFirst; split <;> rfl
    ·split <;> rfl
theorem step_place (x : Lx) (c : UInt8) : (x.step c).lx.place = x.place := by
 unfold Lx.step;split
 ·exact outsideStep_place x c
 ·unfold letterStep;simp only [];split
  ·split <;> rfl
  ·rfl
 ·unfold numeralStep;split
  ·rfl
  ·split
   ·unfold Lx.finish;cases bitsOf x.raw with
    | none => rfl
    | some b => exact outsideStep_place x.told c
   ·rfl
 ·unfold withinStep;split
  ·rfl
  ·split
   ·rfl
   ·split
    ·rfl
    ·split <;> rfl
 ·unfold escapeStep;split
  ·rfl
  ·split <;> rfl
 ·unfold digitStep;split
  ·rfl
  ·split
   ·rfl
   ·simp only [];split
    ·unfold Lx.whole;split
     ·rfl
     ·split <;> rfl
    ·rfl
 ·unfold slashStep; split <;> rfl
 ·unfold letterUStep; split <;> rfl
theorem LexAt.place_set {F : Nat → Prop} {w : World} {b : Nat} {x : Lx} {dn : Bool} {toks : List Tok} (h : LexAt F w b x dn toks) (n : Nat) : LexAt F (w.setCell ⟨b, 0, none⟩ (.int .i64 (n : Int))) b { x with place := n } dn toks := by
 obtain ⟨hF, hlt, rawV, chV, saysV, tokV, hb, hw, hs⟩ := h;have hk : Keeps (fun k => k = b) w (w.setCell ⟨b, 0, none⟩ (.int .i64 (n : Int))) := (Keeps.refl (fun k => k = b) w).setCell (p := ⟨b, 0, none⟩) (.inl rfl) _;refine ⟨hF, fun k hk' => Nat.lt_of_lt_of_le (hlt k hk') hk.size, rawV, chV, saysV, tokV, set_at hb _, ⟨hw.1.keeps hk (fun k e hk => hw.1.ne hb (by decide) (e.trans (congrArg some hk))), hw.2⟩, ⟨fun h => ?_, fun h => ?_⟩⟩
 ·have hr := hs.raw h;exact ⟨hr.1.keeps hk (fun k e hk => hr.1.ne hb (by decide) (e.trans (congrArg some hk))), hr.2⟩
 ·obtain ⟨h1, f, pl, h2, h3, h4, h5⟩ := hs.text h;refine ⟨⟨h1.1.keeps hk (fun k e hk => h1.1.ne hb (by decide) (e.trans (congrArg some hk))), h1.2⟩, f, pl, h2, h3.keeps hk (fun e => ?_), h4, h5⟩;subst e;obtain ⟨_, a0, a1, a2, a3, h9, _⟩ := h3;rw [h9] at hb;simp at hb
theorem take_of (k : Nat) (hk : k = 104 ∨ k = 141 ∨ k = 139 ∨ k = 138 ∨ k = 168 ∨ k = 188 ∨ k = 223 ∨ k = 241) (F : Nat → Prop) (w : World) (b : Nat) (x : Lx) (toks : List Tok) (c : UInt8) (hno : stepNo x.st = k) (h : LexAt F w b x false toks) (hpl : x.place ≤ 16777216)
 (hstep : x.place < 16777216 → Calls Tryz.prog k #[.pointer (some ⟨b, 0, none⟩), .int .u8 ((c.toNat : Nat) : Int)] w fun e w' => StepPost F w b x.place toks (x.step c) e w') :
 Calls Tryz.prog 115 #[.pointer (some ⟨b, 0, none⟩), .int .u8 ((c.toNat : Nat) : Int)] w fun e w' => TakePost F w b toks (x.take c) (fun _ _ => .nilIface) e w' := by
 have h0 := h;obtain ⟨hF, hlt, rawV, chV, saysV, tokV, hb, hw, hs⟩ := h;obtain ⟨c0, c1, c2, c3, c4, c5, c6, c7, c8, c9, ca, cb, cc, cd, cf⟩ := cells14 hb;rw [hno] at c3;have HL := Lib.hid h0;have HLT := Lib.hid hlt;have HF := Lib.hid hF;obtain ⟨pl, hple⟩ : ∃ pl, x.place = pl := ⟨_, rfl⟩;have HPL := Lib.hid hple;rw [hple] at c0 hpl hstep;unfold Lx.take
 by_cases hp : x.place = 16777216
 ·rw [if_pos hp];rw [hple] at hp;subst hp;have HN := Lib.hid hno;clear h0 hb hw hs hF hlt hstep hple c3 hno;go_enter Tryz.func115, Tryz.ntmps115;go_wp2_with fail;go_ret;exact ⟨Keeps.refl _ _, fun e => absurd e (show ¬ (3 : Nat) = 0 by decide), fun _ => ⟨by show Ending.returned _ = Ending.returned (.iface 151 (.agg #[.int .i64 ((3 : Nat) : Int), .int .i64 (x.place : Int)])); rw [HPL.out]; rfl, x.place, x.start, by rw [List.append_nil]; exact HL.out.dead.mono (fun k hk => .inl hk) (since_lt HLT.out (Nat.le_refl _))⟩⟩
 ·rw [if_neg hp];have hlt2 : pl < 16777216 := by omega
  have hpl1 : ((pl : Int) == 16777216) = false := by simp; omega
  obtain ⟨r, hr⟩ : ∃ r, x.step c = r := ⟨_, rfl⟩;have hS := hstep hlt2;rw [hr] at hS ⊢;simp only [];obtain ⟨t, ht⟩ : ∃ t, (if r.no = 0 then (({ r.lx with place := x.place + 1 } : Lx), r.toks, 0, 0) else (r.lx, r.toks, r.no, if r.no = 41 then r.lx.start else x.place)) = t := ⟨_, rfl⟩;rw [ht];have HT0 := Lib.hid (fun (hn : r.no = 0) => ht.symm.trans (if_pos hn));have HT1 := Lib.hid (fun (hn : r.no ≠ 0) => ht.symm.trans (if_neg hn));have HS := Lib.hid hS;have hrp : r.lx.place = pl := by rw [← hr, step_place, hple]
  have HX := Lib.hid hrp;clear h0 hb hw hs hF hlt hstep hple hp hS hr hno hrp ht;rcases hk with rfl | rfl | rfl | rfl | rfl | rfl | rfl | rfl
  all_goals
   go_enter Tryz.func115, Tryz.ntmps115;go_wp2_with fail;refine (HS.out).mono ?_;rintro e w2 ⟨rfl, hk2, hg, hd⟩
   by_cases hn : r.no = 0
   ·have hg2 := hg hn;obtain ⟨hF2, hlt3, rawV2, chV2, saysV2, tokV2, hb2, hw2, hs2⟩ := hg hn;rw [HX.out] at hb2;obtain ⟨d0, d1, d2, d3, d4, d5, d6, d7, d8, d9, da, db, dc, dd, df⟩ := cells14 hb2;have HG := Lib.hid hg2;have HK := Lib.hid hk2;have HN := Lib.hid hn;have HF2 := Lib.hid hF2;rw [hn];clear hF2 hlt3 hb2 hw2 hs2 hg hd hg2 hk2 hn c0 c1 c2 c3 c4 c5 c6 c7 c8 c9 ca cb cc cd cf;go_wp2_with fail;go_ret;have hte := HT0.out HN.out;subst hte;refine ⟨HK.out.setCell (p := ⟨b, 0, none⟩) (.inl HF.out) _, fun _ => ⟨rfl, ?_⟩, fun e => ?_⟩
    ·have := HG.out.place_set (x.place + 1);rw [show ((pl : Int) + 1) = ((x.place + 1 : Nat) : Int) by rw [HPL.out]; omega];exact this.mono (fun k hk => hk.mono_r (by simp [World.setCell])) (fun k hk => this.lt k (hk.mono_r (by simp [World.setCell])))
    ·exact absurd rfl e
   ·obtain ⟨n, hne⟩ : ∃ n, r.no = n := ⟨_, rfl⟩;have hd2 := hd hn;obtain ⟨hF2, hlt3, v2, v3, v4, v6, v7, v8, v9, va, vb, vc, tokV2, hb2, hw2⟩ := hd hn;obtain ⟨d0, d1, d2, d3, d4, d5, d6, d7, d8, d9, da, db, dc, dd, df⟩ := cells14 hb2;have HD := Lib.hid hd2;have HK := Lib.hid hk2;have HN := Lib.hid hn;have HNE := Lib.hid hne;rw [hne] at hn;rw [hne];have n0 : ((n : Int) == 0) = false := by simp; omega
    have hn41 : (((n : Int) == 41) = true ∧ n = 41) ∨ (((n : Int) == 41) = false ∧ n ≠ 41) := by
     by_cases h41 : n = 41
     ·exact .inl ⟨by simp; omega, h41⟩
     ·exact .inr ⟨by simp; omega, h41⟩
    clear hF2 hlt3 hb2 hw2 hg hd hd2 hk2 hn hne c0 c1 c2 c3 c4 c5 c6 c7 c8 c9 ca cb cc cd cf;rcases hn41 with ⟨e41, h41⟩ | ⟨e41, h41⟩
    ·have H41 := Lib.hid h41;clear h41;go_wp2_with fail;go_ret;have hte := HT1.out HN.out;rw [if_pos (HNE.out.trans H41.out), HNE.out] at hte;subst hte;exact ⟨HK.out, fun e => absurd (HNE.out.trans e) HN.out, fun _ => ⟨rfl, _, _, HD.out⟩⟩
    ·have H41 := Lib.hid h41;clear h41;go_wp2_with fail;go_ret;have hte := HT1.out HN.out;rw [if_neg (fun e => H41.out (HNE.out.symm.trans e)), HNE.out, HPL.out] at hte;subst hte;exact ⟨HK.out, fun e => absurd (HNE.out.trans e) HN.out, fun _ => ⟨rfl, _, _, HD.out⟩⟩
end Go.Proofs.YtakkmiomhackiaaGreatDoor
