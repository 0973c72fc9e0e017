/-
  Package lex, tenth part: within.
-/
import Derived.Test.YtakkmiomhackiaaGreatDoorPa11
import Derived.Test.YtakkmiomhackiaaGreatDoorPa14
import Derived.Deep.RegionWith
import Derived.Test.YtakkmiomhackiaaGreatDoorPa00
set_option linter.all false
set_option maxRecDepth 100000
set_option maxHeartbeats 16000000
open Go.Proofs.Tryz
namespace Go.Proofs.YtakkmiomhackiaaGreatDoor
open Go.RowKit
theorem within_escape (w : World) (b f pl : Nat) (v0 v1 v2 v3 v4 v5 v6 v7 v9 va vb vc vd : Value) (h : w.heap[b]? = some (.cells #[v0, v1, v2, v3, v4, v5, v6, v7, .pointer (some ⟨f, 0, none⟩), v9, va, vb, vc, vd] 228 (0, 0)))
 (hf : Feeds w f pl []) :
 Calls prog 138 #[.pointer (some ⟨b, 0, none⟩), .int .u8 92] w fun e w' => StepRet w b 0 #[v0, v1, v2, .func (.func 168) #[] #[], v4, v5, v6, v7, .pointer (some ⟨f, 0, none⟩), v9, va, vb, vc, vd] e w' := by
 obtain ⟨c0, c1, c2, c3, c4, c5, c6, c7, c8, c9, ca, cb, cc, cd, cf⟩ := cells14 h;have H := hZ h;have HF := hZ (held_any w f pl [] hf);clear h hf;go_enter func138, ntmps138;go_wp2_with fail;refine (HF.out).mono ?_;rintro e w1 ⟨rfl, rfl⟩;go_wp2_with fail;go_ret;exact ⟨rfl, set_at H.out _, (Keeps.refl (fun k => k = b) w1).setCell (p := ⟨b, 3, none⟩) (.inl rfl) _⟩
theorem within_control (w : World) (b f pl : Nat) (v0 v1 v2 v3 v4 v5 v6 v7 v9 va vb vc vd : Value) (ch : UInt8) (h : w.heap[b]? = some (.cells #[v0, v1, v2, v3, v4, v5, v6, v7, .pointer (some ⟨f, 0, none⟩), v9, va, vb, vc, vd] 228 (0, 0)))
 (hf : Feeds w f pl []) (hc : ch.toNat < 32) :
 Calls prog 138 #[.pointer (some ⟨b, 0, none⟩), .int .u8 ((ch.toNat : Nat) : Int)] w fun e w' => e = .returned (.int .i64 91) ∧ w' = w := by
 obtain ⟨c0, c1, c2, c3, c4, c5, c6, c7, c8, c9, ca, cb, cc, cd, cf⟩ := cells14 h;have HF := hZ (held_any w f pl [] hf);obtain ⟨n1, n2, n3⟩ := byte_ne3 (c := ch) (d := 34) (n := 34) (by intro e; subst e; exact absurd hc (by decide)) rfl;obtain ⟨m1, m2, m3⟩ := byte_ne3 (c := ch) (d := 92) (n := 92) (by intro e; subst e; exact absurd hc (by decide)) rfl;have hlt : ((ch.toNat : Nat) : Int) < 32 := by omega
 clear h hf hc;go_enter func138, ntmps138;go_wp2_with fail;refine (HF.out).mono ?_;rintro e w1 ⟨rfl, rfl⟩;go_wp2_with fail;go_ret;exact ⟨rfl, rfl⟩
theorem within_end (w : World) (b f fp pl st : Nat) (v1 v2 v3 v4 v6 v7 va vb vc saysV tokV : Value) (l : List UInt8) (toks : List Value) (h : w.heap[b]? = some (.cells #[.int .i64 pl, v1, v2, v3, v4, .int .i64 st, v6, v7, .pointer (some ⟨f, 0, none⟩), saysV, va, vb, vc, tokV] 228 (0, 0)))
 (hf : Feeds w f fp []) (hr : Win 5 encB w saysV l) (hw : Win 232 id w tokV toks) (htl : toks.length ≤ 1000) (hle : st ≤ pl + 1) (hpl : pl ≤ 1073741823) :
 Calls prog 138 #[.pointer (some ⟨b, 0, none⟩), .int .u8 34] w fun e w' => ToldRet w b tokV toks (tokEnc (.str st (pl + 1 - st) l)) (fun v => #[.int .i64 pl, v1, v2, .func (.func 104) #[] #[], .bool false, .int .i64 st, v6, v7, .pointer (some ⟨f, 0, none⟩), saysV, va, vb, vc, v]) (.int .i64 0) e w' := by
 obtain ⟨c0, c1, c2, c3, c4, c5, c6, c7, c8, c9, ca, cb, cc, cd, cf⟩ := cells14 h;have HF := hZ (held_any w f fp [] hf);have H := hZ h;have HW := hZ hw;have HR := hZ hr;have hconv : ∀ w1, Below w.heap.size w w1 → (convert 22 9 saysV).run prog w1 = .ok (.string ⟨l.toArray⟩) w1 := fun w1 hb => win_string (hr.keeps (Keeps.of_below (fun _ => False) hb) (fun _ _ => id))
 have hc0 := hconv w.drew (Below.refl _ _).drew;have HC := hZ hconv;obtain ⟨s, hs⟩ : ∃ s : ByteArray, (⟨l.toArray⟩ : ByteArray) = s := ⟨_, rfl⟩;rw [hs] at hc0 HC;have HS := hZ (span_any w.drew b _ st (pl + 1) h rfl (by omega) (by omega));rw [show ((pl + 1 : Nat) : Int) = (pl : Int) + 1 by omega] at HS;obtain ⟨sz, hsz⟩ : ∃ sz, pl + 1 - st = sz := ⟨_, rfl⟩;rw [hsz] at HS ⊢;have HT := hZ (fun w' (hb : Below w.heap.size w w') => tell_any w' b _ _ _ _ _ _ _ _ _ _ _ _ _ tokV 241 (.agg #[.int .i64 st, .int .i64 (sz : Int), .string s]) toks (keep h hb) (hw.keeps (Keeps.of_below (fun _ => False) hb) (fun _ _ => id)) htl);have hlt := lt_of_block h;have hd9 : ∀ w1, Below w.heap.size w w1 → w1.cell? ⟨b, 9, none⟩ = some saysV := fun w1 hb => cell_at (keep h hb)
 have HD := hZ hd9;have HSS := hZ hs;have hpl1 : IntKind.i64.wrap ((pl : Int) + 1) = (pl : Int) + 1 := by rw [IntKind.wrap_i64]; omega
 clear h hf hr hw hconv hs hsz hd9;go_enter func138, ntmps138;go_wp2_with fail;refine (HF.out).mono ?_;rintro e w1 ⟨rfl, rfl⟩;go_wp2_with fail
 go_region_with (first | (go_at_call 136; refine (HS.out).mono ?_; rintro e w2 ⟨rfl, hb⟩; have hb2 := (Below.refl w1.heap.size w1).drew.trans hb; have hk9 := HD.out w2 hb2; have hcx := HC.out w2 hb2) | (go_at_call 135; refine (HT.out _ hb2).mono ?_; rintro e w3 ⟨rfl, g, off, cap, h3, hw3, hg3, hk3⟩; have H3 := hZ h3; have HW3 := hZ hw3; have HG3 := hZ hg3; have HK3 := hZ hk3; clear h3 hw3 hg3 hk3))
 all_goals
  have HB2 := hZ hb2;clear hb hb2 hk9 hcx;go_wp2_with fail;go_ret;have hte : tokEnc (.str st sz l) = .iface 241 (.agg #[.int .i64 st, .int .i64 (sz : Int), .string s]) := by rw [← HSS.out]; rfl
  rw [hte];exact ⟨rfl, g, off, cap, H3.out, HW3.out, HG3.out.elim .inl (fun h => .inr (Nat.le_trans HB2.out.size h)), (Keeps.of_below _ HB2.out).same HK3.out⟩
theorem feed_one (w : World) (f fp : Nat) (held : List UInt8) (ch : UInt8) (g : Nat) (h : Feeds w f fp held) (hg : w.heap[g]? = some (.cells #[encB ch] 5 (0, 0))) (hfp : fp ≤ 1073741824) :
 Calls prog 169 #[.pointer (some ⟨f, 0, none⟩), .slice (some ⟨g, 0, none⟩) 1 1] w fun e w' => feedRet w' f fp 1 (feedOne held ch) e ∧ Keeps (fun k => k = f) w w' := by
 have hne : g ≠ f := by
  obtain ⟨_, a0, a1, a2, a3, h2, _⟩ := h;intro e; subst e;rw [hg] at h2;simp at h2
 have := feed_any w f fp held [ch] (some ⟨g, 0, none⟩) 1 h (.inr ⟨g, 0, rfl, hne, lt_of_block hg, fun i x hi => by
  rw [cell_at hg];cases i with
  | zero => simp at hi; subst hi; rfl
  | succ i => simp at hi⟩) (by simp) hfp
 rw [show feedAll held [ch] = feedOne held ch from rfl] at this;exact this
def plainIn (held : List UInt8) (ch : UInt8) : Prop := held ≠ [] ∨ (ch ≠ 34 ∧ ch ≠ 92 ∧ 32 ≤ ch.toNat)
theorem within_bad (w : World) (b f fp : Nat) (v0 v1 v2 v3 v4 v5 v6 v7 v9 va vb vc vd : Value) (ch : UInt8) (held : List UInt8) (h : w.heap[b]? = some (.cells #[v0, v1, v2, v3, v4, v5, v6, v7, .pointer (some ⟨f, 0, none⟩), v9, va, vb, vc, vd] 228 (0, 0)))
 (hf : Feeds w f fp held) (hfp : fp ≤ 1073741824) (hc : plainIn held ch) (hfeed : feedOne held ch = none) :
 Calls prog 138 #[.pointer (some ⟨b, 0, none⟩), .int .u8 ((ch.toNat : Nat) : Int)] w fun e w' => e = .returned (.int .i64 90) ∧ Keeps (fun k => k = f) w w' := by
 obtain ⟨c0, c1, c2, c3, c4, c5, c6, c7, c8, c9, ca, cb, cc, cd, cf⟩ := cells14 h;have HF := hZ (held_any w f fp held hf);have hal : Feeds (w.alloc (.cells #[encB ch] 5)) f fp held := hf.keeps (F := fun _ => False) ((Keeps.refl _ w).alloc _) id;have HFD := hZ (feed_one _ f fp held ch w.heap.size hal (heap_alloc_new w _) hfp);rw [hfeed] at HFD;clear h hf hal hfeed;unfold plainIn at hc;rcases hc with hc | ⟨hc1, hc2, hc3⟩
 ·have E1 : (((held.length : Nat) : Int) == 0) = false := by cases held <;> simp_all; omega
  obtain ⟨n, hn⟩ : ∃ n, held.length = n := ⟨_, rfl⟩;rw [hn] at E1 HF;clear hc hn;go_enter func138, ntmps138;go_wp2_with fail;refine (HF.out).mono ?_;rintro e w1 ⟨rfl, rfl⟩;go_wp2_with fail;refine (HFD.out).mono ?_;rintro e w2 ⟨⟨p, rfl, hbad⟩, hk⟩;have HK := hZ hk;clear hk hbad;go_wp2_with fail;go_ret;exact ⟨rfl, ((Keeps.refl (fun k => k = f) w1).alloc (.cells #[encB ch] 5)).same HK.out⟩
 ·by_cases hz : held = []
  ·subst hz;obtain ⟨n1, n2, n3⟩ := byte_ne3 (c := ch) (d := 34) (n := 34) hc1 rfl;obtain ⟨m1, m2, m3⟩ := byte_ne3 (c := ch) (d := 92) (n := 92) hc2 rfl;have hlt : ¬ ((ch.toNat : Nat) : Int) < 32 := by omega
   clear hc1 hc2 hc3;go_enter func138, ntmps138;go_wp2_with fail;refine (HF.out).mono ?_;rintro e w1 ⟨rfl, rfl⟩;go_wp2_with fail;refine (HFD.out).mono ?_;rintro e w2 ⟨⟨p, rfl, hbad⟩, hk⟩;have HK := hZ hk;clear hk hbad;go_wp2_with fail;go_ret;exact ⟨rfl, ((Keeps.refl (fun k => k = f) w1).alloc (.cells #[encB ch] 5)).same HK.out⟩
  ·have E1 : (((held.length : Nat) : Int) == 0) = false := by cases held <;> simp_all; omega
   obtain ⟨n, hn⟩ : ∃ n, held.length = n := ⟨_, rfl⟩;rw [hn] at E1 HF;clear hc1 hc2 hc3 hz hn;go_enter func138, ntmps138;go_wp2_with fail;refine (HF.out).mono ?_;rintro e w1 ⟨rfl, rfl⟩;go_wp2_with fail;refine (HFD.out).mono ?_;rintro e w2 ⟨⟨p, rfl, hbad⟩, hk⟩;have HK := hZ hk;clear hk hbad;go_wp2_with fail;go_ret;exact ⟨rfl, ((Keeps.refl (fun k => k = f) w1).alloc (.cells #[encB ch] 5)).same HK.out⟩
theorem within_more (w : World) (b f fp : Nat) (v0 v1 v2 v3 v4 v5 v6 v7 va vb vc vd saysV : Value) (ch : UInt8) (held held' l : List UInt8) (h : w.heap[b]? = some (.cells #[v0, v1, v2, v3, v4, v5, v6, v7, .pointer (some ⟨f, 0, none⟩), saysV, va, vb, vc, vd] 228 (0, 0)))
 (hf : Feeds w f fp held) (hr : Win 5 encB w saysV l) (hl : l.length ≤ 1073741824) (hfp : fp ≤ 1073741824) (hc : plainIn held ch) (hfeed : feedOne held ch = some held') :
 Calls prog 138 #[.pointer (some ⟨b, 0, none⟩), .int .u8 ((ch.toNat : Nat) : Int)] w fun e w' => e = .returned (.int .i64 0) ∧ ∃ g off cap, w'.heap[b]? = some (.cells #[v0, v1, v2, v3, v4, v5, v6, v7, .pointer (some ⟨f, 0, none⟩), .slice (some ⟨g, off, none⟩) (l.length + 1) cap, va, vb, vc, vd] 228 (0, 0)) ∧
  Win 5 encB w' (.slice (some ⟨g, off, none⟩) (l.length + 1) cap) (l ++ [ch]) ∧ (saysV.ownBlock = some g ∨ w.heap.size ≤ g) ∧ Feeds w' f (fp + 1) held' ∧ Keeps (fun k => k = b ∨ k = f ∨ saysV.ownBlock = some k) w w' := by
 obtain ⟨c0, c1, c2, c3, c4, c5, c6, c7, c8, c9, ca, cb, cc, cd, cf⟩ := cells14 h;have HF := hZ (held_any w f fp held hf);have hal : Feeds (w.alloc (.cells #[encB ch] 5)) f fp held := hf.keeps (F := fun _ => False) ((Keeps.refl _ w).alloc _) id;have hfd := feed_one _ f fp held ch w.heap.size hal (heap_alloc_new w _) hfp;rw [hfeed] at hfd
 have hbf : b ≠ f := by
  obtain ⟨_, a0, a1, a2, a3, h2, _⟩ := hf;intro e; subst e;rw [h] at h2;simp at h2
 have hsf : ∀ k, saysV.ownBlock = some k → k ≠ f := by
  obtain ⟨_, a0, a1, a2, a3, h2, _⟩ := hf;intro k hk e; subst e;exact hr.ne h2 (by decide) hk
 have HNE := hZ (hr.ne h (by decide));have HSF := hZ hsf;have HBF := hZ hbf;have hlt := lt_of_block h;have hal1 : (w.alloc (.cells #[encB ch] 5)).heap[b]? = _ := (Below.heap_alloc w _ _ hlt).trans h;have hal2 : Win 5 encB (w.alloc (.cells #[encB ch] 5)) saysV l := hr.keeps (F := fun _ => False) ((Keeps.refl _ w).alloc _) (fun _ _ => id)
 have HFD := hZ (hfd.mono (R' := fun e w2 => e = .returned .nilIface ∧ Feeds w2 f (fp + 1) held' ∧ w2.heap[b]? = some (.cells #[v0, v1, v2, v3, v4, v5, v6, v7, .pointer (some ⟨f, 0, none⟩), saysV, va, vb, vc, vd] 228 (0, 0)) ∧ Win 5 encB (w2.alloc (.cells #[encB ch] 5)) saysV l ∧ Keeps (fun k => k = f) w w2 ∧ w.heap.size < w2.heap.size)
  fun e w2 ⟨⟨he, hf2⟩, hk⟩ => ⟨he, hf2, hk.blk hal1 hbf, (hal2.keeps hk (fun k e => hsf k e)).keeps (F := fun _ => False) ((Keeps.refl _ w2).alloc _) (fun _ _ => id), ((Keeps.refl (fun k => k = f) w).alloc (.cells #[encB ch] 5)).same hk, Nat.lt_of_lt_of_le (by simp) hk.size⟩)
 obtain ⟨ta, tc, htv⟩ := hr.shape;clear h hf hal hfeed hfd hbf hsf hal1 hal2 hr;subst htv
 have hway : (((held.length : Nat) : Int) == 0) = false ∨ (held = [] ∧ ch ≠ 34 ∧ ch ≠ 92 ∧ 32 ≤ ch.toNat) := by
  unfold plainIn at hc
  by_cases hz : held = []
  ·exact .inr ⟨hz, (hc.resolve_left (fun h => h hz))⟩
  ·left; cases held <;> simp_all; omega
 clear hc;rcases hway with E1 | ⟨rfl, hc1, hc2, hc3⟩
 ·obtain ⟨n, hn⟩ : ∃ n, held.length = n := ⟨_, rfl⟩;rw [hn] at E1 HF;clear hn;go_enter func138, ntmps138;go_wp2_with fail;refine (HF.out).mono ?_;rintro e w1 ⟨rfl, rfl⟩;go_wp2_with fail;refine (HFD.out).mono ?_;rintro e w2 ⟨rfl, hf2, hb2, hr2, hk2, hs2⟩;obtain ⟨d0, d1, d2, d3, d4, d5, d6, d7, d8, d9, da, db, dc, dd, df⟩ := cells14 hb2;have HR2 := hZ hr2;have HF2 := hZ hf2;have HB2 := hZ hb2;have HK2 := hZ hk2;have HS2 := hZ hs2;have HLT := hZ (lt_of_block hb2);clear hf2 hb2 hr2 hk2 hs2 c0 c1 c2 c3 c4 c5 c6 c7 c8 c9 ca cb cc cd cf hlt
  go_wp2_with (at_builtin; refine append_win elemB rfl _ _ rfl rfl HR2.out ⟨w2.heap.size, 0, none⟩ 1 ch rfl ?_ rfl ?_ ?_ ?_)
  ·exact cell_new rfl
  ·omega
  ·unfold maxLen; omega
  intro g off cap w' hrow hgb0 hgr;have hb' := (hgr.block b (by have := HLT.out; simp; omega) (fun e => HNE.out e.symm)).trans ((Below.heap_alloc w2 _ _ HLT.out).trans HB2.out);have HNG := hZ (hrow.ne hb' (by decide));have HGB := hZ (show (Value.slice ta l.length tc).ownBlock = some g ∨ w1.heap.size ≤ g from hgb0.elim .inl (fun h => .inr (Nat.le_trans (Nat.le_of_lt HS2.out) (Nat.le_trans (by simp) h.1))))
  have hfa : Feeds w' f (fp + 1) held' := by
   obtain ⟨hok, a0, a1, a2, a3, h2, h9⟩ := HF2.out;exact ⟨hok, a0, a1, a2, a3, (hgr.block f (by have := lt_of_block h2; simp; omega) (fun e => HSF.out f e.symm rfl)).trans ((Below.heap_alloc w2 _ _ (lt_of_block h2)).trans h2), h9⟩
  have HFA := hZ hfa;have hkk : Keeps (fun k => k = b ∨ k = f ∨ (Value.slice ta l.length tc).ownBlock = some k) w1 w' := ((HK2.out.mono (fun k hk => .inr (.inl hk))).alloc (.cells #[encB ch] 5)).grown hgr (fun k e => .inl (.inr (.inr e)));have HKK := hZ hkk;have HROW := hZ hrow;obtain ⟨e0, e1, e2, e3, e4, e5, e6, e7, e8, e9, ea, eb, ec, ed, ef⟩ := cells14 hb';have HB3 := hZ hb';clear hb' hrow hgb0 hgr hfa hkk d0 d1 d2 d3 d4 d5 d6 d7 d8 d9 da db dc dd df;go_wp2_with fail;go_ret;have hks : Keeps (fun k => k = b) w' (w'.setCell ⟨b, 9, none⟩ (.slice (some ⟨g, off, none⟩) (l.length + 1) cap)) := (Keeps.refl (fun k => k = b) w').setCell (p := ⟨b, 9, none⟩) (.inl rfl) _;exact ⟨rfl, g, off, cap, set_at HB3.out _, HROW.out.keeps hks (fun k e hk => HNG.out (e.trans (congrArg some hk))), HGB.out, HFA.out.keeps hks (fun e => HBF.out e.symm), HKK.out.setCell (p := ⟨b, 9, none⟩) (.inl (.inl rfl)) _⟩
 ·obtain ⟨n1, n2, n3⟩ := byte_ne3 (c := ch) (d := 34) (n := 34) hc1 rfl;obtain ⟨m1, m2, m3⟩ := byte_ne3 (c := ch) (d := 92) (n := 92) hc2 rfl;have hlt2 : ¬ ((ch.toNat : Nat) : Int) < 32 := by omega
  clear hc1 hc2 hc3;go_enter func138, ntmps138;go_wp2_with fail;refine (HF.out).mono ?_;rintro e w1 ⟨rfl, rfl⟩;go_wp2_with fail;refine (HFD.out).mono ?_;rintro e w2 ⟨rfl, hf2, hb2, hr2, hk2, hs2⟩;obtain ⟨d0, d1, d2, d3, d4, d5, d6, d7, d8, d9, da, db, dc, dd, df⟩ := cells14 hb2;have HR2 := hZ hr2;have HF2 := hZ hf2;have HB2 := hZ hb2;have HK2 := hZ hk2;have HS2 := hZ hs2;have HLT := hZ (lt_of_block hb2);clear hf2 hb2 hr2 hk2 hs2 c0 c1 c2 c3 c4 c5 c6 c7 c8 c9 ca cb cc cd cf hlt
  go_wp2_with (at_builtin; refine append_win elemB rfl _ _ rfl rfl HR2.out ⟨w2.heap.size, 0, none⟩ 1 ch rfl ?_ rfl ?_ ?_ ?_)
  ·exact cell_new rfl
  ·omega
  ·unfold maxLen; omega
  intro g off cap w' hrow hgb0 hgr;have hb' := (hgr.block b (by have := HLT.out; simp; omega) (fun e => HNE.out e.symm)).trans ((Below.heap_alloc w2 _ _ HLT.out).trans HB2.out);have HNG := hZ (hrow.ne hb' (by decide));have HGB := hZ (show (Value.slice ta l.length tc).ownBlock = some g ∨ w1.heap.size ≤ g from hgb0.elim .inl (fun h => .inr (Nat.le_trans (Nat.le_of_lt HS2.out) (Nat.le_trans (by simp) h.1))))
  have hfa : Feeds w' f (fp + 1) held' := by
   obtain ⟨hok, a0, a1, a2, a3, h2, h9⟩ := HF2.out;exact ⟨hok, a0, a1, a2, a3, (hgr.block f (by have := lt_of_block h2; simp; omega) (fun e => HSF.out f e.symm rfl)).trans ((Below.heap_alloc w2 _ _ (lt_of_block h2)).trans h2), h9⟩
  have HFA := hZ hfa;have hkk : Keeps (fun k => k = b ∨ k = f ∨ (Value.slice ta l.length tc).ownBlock = some k) w1 w' := ((HK2.out.mono (fun k hk => .inr (.inl hk))).alloc (.cells #[encB ch] 5)).grown hgr (fun k e => .inl (.inr (.inr e)));have HKK := hZ hkk;have HROW := hZ hrow;obtain ⟨e0, e1, e2, e3, e4, e5, e6, e7, e8, e9, ea, eb, ec, ed, ef⟩ := cells14 hb';have HB3 := hZ hb';clear hb' hrow hgb0 hgr hfa hkk d0 d1 d2 d3 d4 d5 d6 d7 d8 d9 da db dc dd df;go_wp2_with fail;go_ret;have hks : Keeps (fun k => k = b) w' (w'.setCell ⟨b, 9, none⟩ (.slice (some ⟨g, off, none⟩) (l.length + 1) cap)) := (Keeps.refl (fun k => k = b) w').setCell (p := ⟨b, 9, none⟩) (.inl rfl) _;exact ⟨rfl, g, off, cap, set_at HB3.out _, HROW.out.keeps hks (fun k e hk => HNG.out (e.trans (congrArg some hk))), HGB.out, HFA.out.keeps hks (fun e => HBF.out e.symm), HKK.out.setCell (p := ⟨b, 9, none⟩) (.inl (.inl rfl)) _⟩
end Go.Proofs.YtakkmiomhackiaaGreatDoor
