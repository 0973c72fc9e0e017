/-
  The program, one part of its walk: Lx1, Lx9, Lx11, Wd11. Conditions: none.
-/
import Derived.Test.YtakkmiomhackiaaGreatDoorPa09
import Derived.Test.YtakkmiomhackiaaGreatDoorPa03
import Derived.Test.YtakkmiomhackiaaGreatDoorPa11
import Derived.Test.YtakkmiomhackiaaGreatDoorPa10
import Derived.Test.YtakkmiomhackiaaGreatDoorPa06
import Derived.Test.YtakkmiomhackiaaGreatDoorPa02
import Derived.Test.YtakkmiomhackiaaGreatDoorPa00
set_option linter.all false
set_option maxRecDepth 100000
set_option maxHeartbeats 16000000
open Go.Proofs.Tryz
namespace Go.Proofs.YtakkmiomhackiaaGreatDoor
open Go.RowKit
def nextRet (s : Nat) (o : Option Nat) (e : Ending) : Prop := match o with
 | some t => e = .returned (.tuple #[.int .i64 (t : Int), .bool true])
 | none => e = .returned (.tuple #[.int .i64 (s : Int), .bool false])
theorem next_const (s : Nat) (hs : s ≤ 8) (c : UInt8) (h : c = 45 ∨ c = 46 ∨ c = 48 ∨ c = 101 ∨ c = 69 ∨ c = 43) (w : World) : Calls prog 170 #[.int .i64 (s : Int), .int .u8 ((c.toNat : Nat) : Int)] w fun e w' => nextRet s (numNext s c) e ∧ w' = w := by
 obtain ⟨o, hn⟩ : ∃ o, numNext s c = o := ⟨_, rfl⟩;rw [hn];have hc : s = 0 ∨ s = 1 ∨ s = 2 ∨ s = 3 ∨ s = 4 ∨ s = 5 ∨ s = 6 ∨ s = 7 ∨ s = 8 := by omega
 rcases h with rfl | rfl | rfl | rfl | rfl | rfl <;> rcases hc with rfl | rfl | rfl | rfl | rfl | rfl | rfl | rfl | rfl
 all_goals
  subst hn;simp only [Int.natCast_zero, Int.natCast_one, Int.cast_ofNat_Int, UInt8.reduceToNat];go_enter func170, ntmps170;go_wp2;exact bodyPost_ret (by simp [results, results170, go_sem]) rfl ⟨rfl, rfl⟩
theorem next_else (s : Nat) (hs : s ≤ 8) (c : UInt8) (h45 : c ≠ 45) (h46 : c ≠ 46) (h48 : c ≠ 48) (h101 : c ≠ 101) (h69 : c ≠ 69) (h43 : c ≠ 43) (w : World) : Calls prog 170 #[.int .i64 (s : Int), .int .u8 ((c.toNat : Nat) : Int)] w fun e w' => nextRet s (numNext s c) e ∧ w' = w := by
 obtain ⟨n45, m45, k45⟩ := byte_ne3 (c := c) (n := 45) h45 rfl;obtain ⟨n46, m46, k46⟩ := byte_ne3 (c := c) (n := 46) h46 rfl;obtain ⟨n48, m48, k48⟩ := byte_ne3 (c := c) (n := 48) h48 rfl;obtain ⟨n101, m101, k101⟩ := byte_ne3 (c := c) (n := 101) h101 rfl;obtain ⟨n69, m69, k69⟩ := byte_ne3 (c := c) (n := 69) h69 rfl;obtain ⟨n43, m43, k43⟩ := byte_ne3 (c := c) (n := 43) h43 rfl;obtain ⟨o, hn⟩ : ∃ o, numNext s c = o := ⟨_, rfl⟩;rw [hn];have hc : s = 0 ∨ s = 1 ∨ s = 2 ∨ s = 3 ∨ s = 4 ∨ s = 5 ∨ s = 6 ∨ s = 7 ∨ s = 8 := by omega
 by_cases f1 : (48 : Int) ≤ ((c.toNat : Nat) : Int)
 by_cases f2 : ((c.toNat : Nat) : Int) ≤ 57
 all_goals
  first
  | have hd : isD c = true := by simp [isD]; omega
  | have hd : isD c = false := by simp [isD]; omega
  rcases hc with rfl | rfl | rfl | rfl | rfl | rfl | rfl | rfl | rfl
  all_goals
   simp [numNext, hd, h45, h46, h48, h101, h69, h43] at hn;subst hn;clear hd;simp only [Int.natCast_zero, Int.natCast_one, Int.cast_ofNat_Int];go_enter func170, ntmps170;go_wp2;exact bodyPost_ret (by simp [results, results170, go_sem]) rfl ⟨rfl, rfl⟩
theorem next_any (s : Nat) (hs : s ≤ 8) (c : UInt8) (w : World) : Calls prog 170 #[.int .i64 (s : Int), .int .u8 ((c.toNat : Nat) : Int)] w fun e w' => nextRet s (numNext s c) e ∧ w' = w := by
 by_cases h : c = 45 ∨ c = 46 ∨ c = 48 ∨ c = 101 ∨ c = 69 ∨ c = 43
 ·exact next_const s hs c h w
 ·simp only [not_or] at h;exact next_else s hs c h.1 h.2.1 h.2.2.1 h.2.2.2.1 h.2.2.2.2.1 h.2.2.2.2.2 w
def RawRet (w : World) (b : Nat) (rawV : Value) (l : List UInt8) (c : Value → Array Value) (e : Ending) (w' : World) : Prop := e = .returned (.int .i64 0) ∧ ∃ g off cap, w'.heap[b]? = some (.cells (c (.slice (some ⟨g, off, none⟩) l.length cap)) 228 (0, 0)) ∧
 Win 5 encB w' (.slice (some ⟨g, off, none⟩) l.length cap) l ∧ (rawV.ownBlock = some g ∨ w.heap.size ≤ g) ∧ Keeps (fun k => k = b ∨ rawV.ownBlock = some k) w w'
theorem numeral_bad (w : World) (b s : Nat) (v0 v1 v2 v3 v4 v5 v6 v8 v9 va vb vc vd : Value) (ch : UInt8) (h : w.heap[b]? = some (.cells #[v0, v1, v2, v3, v4, v5, v6, .int .i64 s, v8, v9, va, vb, vc, vd] 228 (0, 0))) (hs : s ≤ 8)
 (hn : numNext s ch = none) (he : numEnds s = false) :
 Calls prog 139 #[.pointer (some ⟨b, 0, none⟩), .int .u8 ((ch.toNat : Nat) : Int)] w fun e w' => e = .returned (.int .i64 94) ∧ w' = w := by
 obtain ⟨c0, c1, c2, c3, c4, c5, c6, c7, c8, c9, ca, cb, cc, cd, cf⟩ := cells14 h;have HN := hZ (next_any s hs ch);have HE := hZ (numEnds_any s hs);rw [hn] at HN;rw [he] at HE;clear h hn he hs;go_enter func139, ntmps139;go_wp2_with fail;refine (HN.out _).mono ?_;rintro e w1 ⟨rfl, rfl⟩;go_wp2_with fail;refine (HE.out _).mono ?_;rintro e w1 ⟨rfl, rfl⟩;go_wp2_with fail;go_ret;exact ⟨rfl, rfl⟩
theorem numeral_on (w : World) (b s s' : Nat) (v0 v1 v2 v3 v4 v5 v8 v9 va vb vc vd rawV : Value) (ch : UInt8) (l : List UInt8) (h : w.heap[b]? = some (.cells #[v0, v1, v2, v3, v4, v5, rawV, .int .i64 s, v8, v9, va, vb, vc, vd] 228 (0, 0))) (hs : s ≤ 8)
 (hn : numNext s ch = some s') (hr : Win 5 encB w rawV l) (hl : l.length ≤ 1073741824) :
 Calls prog 139 #[.pointer (some ⟨b, 0, none⟩), .int .u8 ((ch.toNat : Nat) : Int)] w fun e w' => RawRet w b rawV (l ++ [ch]) (fun v => #[v0, v1, v2, v3, v4, v5, v, .int .i64 s', v8, v9, va, vb, vc, vd]) e w' := by
 obtain ⟨c0, c1, c2, c3, c4, c5, c6, c7, c8, c9, ca, cb, cc, cd, cf⟩ := cells14 h;have HN := hZ (next_any s hs ch);rw [hn] at HN;have HNE := hZ (hr.ne h (by decide));have h' := set_at h (o := 7) (.int .i64 s');simp only [List.setIfInBounds_toArray, List.set_cons_zero, List.set_cons_succ] at h';have H := hZ h';have hlt := lt_of_block h;obtain ⟨ta, tc, htv⟩ := hr.shape;have hr2 : Win 5 encB ((w.setCell ⟨b, 7, none⟩ (.int .i64 s')).alloc (.cells #[encB ch] 5)) rawV l := hr.keeps (F := fun k => k = b) (((Keeps.refl (fun k => k = b) w).setCell (p := ⟨b, 7, none⟩) (.inl rfl) _).alloc _) (fun k e hk => HNE.out (e.trans (congrArg some hk)));have HR := hZ hr2;clear h h' hn hs hr hr2;subst htv;go_enter func139, ntmps139;go_wp2_with fail;refine (HN.out _).mono ?_;rintro e w1 ⟨rfl, rfl⟩
 go_wp2_with (at_builtin; refine append_win elemB rfl _ _ rfl rfl HR.out ⟨w1.heap.size, 0, none⟩ 1 ch rfl ?_ rfl ?_ ?_ ?_)
 ·exact cell_new (set_size _ _ _).symm
 ·omega
 ·unfold maxLen; omega
 intro g off cap w' hrow hgb0 hgr;have hb' := (hgr.block b (by simp; omega) (fun e => HNE.out e.symm)).trans ((Below.heap_alloc _ _ _ (lt_of_block H.out)).trans H.out);have HNG := hZ (hrow.ne hb' (by decide));have hgb : (Value.slice ta l.length tc).ownBlock = some g ∨ w1.heap.size ≤ g := hgb0.elim .inl (fun h => .inr (Nat.le_trans (by first | exact Nat.le_refl _ | simp [World.setCell]) h.1));have HGB := hZ hgb;have HK := hZ ((((Keeps.refl (fun k => k = b ∨ (Value.slice ta l.length tc).ownBlock = some k) w1).setCell (p := ⟨b, 7, none⟩) (.inl (.inl rfl)) (.int .i64 s')).alloc (.cells #[encB ch] 5)).grown hgr (fun k e => .inl (.inr e)));have HROW := hZ hrow;obtain ⟨d0, d1, d2, d3, d4, d5, d6, d7, d8, d9, da, db, dc, dd, df⟩ := cells14 hb';have HB := hZ hb';clear hb' hrow hgb hgb0 hgr c0 c1 c2 c3 c4 c5 c6 c7 c8 c9 ca cb cc cd cf;go_wp2_with fail;go_ret;refine ⟨rfl, g, off, cap, ?_, ?_, HGB.out, HK.out.setCell (p := ⟨b, 6, none⟩) (.inl (.inl rfl)) _⟩
 ·rw [List.length_append];exact set_at HB.out _
 ·rw [List.length_append];exact HROW.out.keeps ((Keeps.refl (fun k => k = b) w').setCell (p := ⟨b, 6, none⟩) (.inl rfl) _) (fun k e hk => HNG.out (e.trans (congrArg some hk)))
theorem outside_blank (w : World) (b : Nat) (ch : UInt8) (hc : isBlank ch = true) : Calls prog 104 #[.pointer (some ⟨b, 0, none⟩), .int .u8 ((ch.toNat : Nat) : Int)] w fun e w' => e = .returned (.int .i64 0) ∧ w' = w := by
 have HB := hZ (blank_any ch);rw [hc] at HB;clear hc;go_enter func104, ntmps104;go_wp2_with fail;refine (HB.out _).mono ?_;rintro e w1 ⟨rfl, rfl⟩;go_wp2_with fail;go_ret;exact ⟨rfl, rfl⟩
theorem isBlank_of {c : UInt8} (h : 48 ≤ c.toNat) : isBlank c = false := by
 have h1 : ¬ c = 32 := by intro e; subst e; simp at h
 have h2 : ¬ c = 9 := by intro e; subst e; simp at h
 have h3 : ¬ c = 10 := by intro e; subst e; simp at h
 have h4 : ¬ c = 13 := by intro e; subst e; simp at h
 simp [isBlank, h1, h2, h3, h4]
def begunW (w : World) (b pl : Nat) : World := (((w.setCell ⟨b, 4, none⟩ (.bool true)).setCell ⟨b, 5, none⟩ (.int .i64 pl)).setCell ⟨b, 6, none⟩ (.slice none 0 0)).setCell ⟨b, 7, none⟩ (.int .i64 0)
theorem begun_at {w : World} {b pl : Nat} {v0 v1 v2 v3 v4 v5 v6 v7 v8 v9 va vb vc vd : Value} (h : w.heap[b]? = some (.cells #[v0, v1, v2, v3, v4, v5, v6, v7, v8, v9, va, vb, vc, vd] 228 (0, 0))) :
 (begunW w b pl).heap[b]? = some (.cells #[v0, v1, v2, v3, .bool true, .int .i64 pl, .slice none 0 0, .int .i64 0, v8, v9, va, vb, vc, vd] 228 (0, 0)) := by
 have hb2 := set_at (set_at (set_at (set_at h (o := 4) (.bool true)) (o := 5) (.int .i64 pl)) (o := 6) (.slice none 0 0)) (o := 7) (.int .i64 0);simp only [List.setIfInBounds_toArray, List.set_cons_zero, List.set_cons_succ] at hb2;exact hb2
theorem begun_keeps (w : World) (b pl : Nat) : Keeps (fun k => k = b) w (begunW w b pl) :=
 ((((Keeps.refl (fun k => k = b) w).setCell (p := ⟨b, 4, none⟩) (.inl rfl) _).setCell (p := ⟨b, 5, none⟩) (.inl rfl) _).setCell (p := ⟨b, 6, none⟩) (.inl rfl) _).setCell (p := ⟨b, 7, none⟩) (.inl rfl) _
theorem begun_size (w : World) (b pl : Nat) : (begunW w b pl).heap.size = w.heap.size := by simp [begunW, World.setCell]
theorem ToldRet.begun {w w' : World} {b pl : Nat} {tokV t v : Value} {toks : List Value} {c : Value → Array Value} {e : Ending} (h : ToldRet (begunW w b pl) b tokV toks t c v e w') : ToldRet w b tokV toks t c v e w' := by
 obtain ⟨h1, g, off, cap, h2, h3, h4, h5⟩ := h;refine ⟨h1, g, off, cap, h2, h3, ?_, ((begun_keeps w b pl).mono (fun k hk => .inl hk)).same h5⟩;rw [begun_size] at h4;exact h4
theorem outside_mark (w : World) (b pl : Nat) (v1 v2 v3 v4 v5 v6 v7 v8 v9 va vb vc tokV : Value) (m : UInt8) (hm : m = 123 ∨ m = 125 ∨ m = 91 ∨ m = 93 ∨ m = 58 ∨ m = 44) (toks : List Value) (h : w.heap[b]? = some (.cells #[.int .i64 pl, v1, v2, v3, v4, v5, v6, v7, v8, v9, va, vb, vc, tokV] 228 (0, 0)))
 (hw : Win 232 id w tokV toks) (htl : toks.length ≤ 1000) (hpl : pl ≤ 1073741823) :
 Calls prog 104 #[.pointer (some ⟨b, 0, none⟩), .int .u8 ((m.toNat : Nat) : Int)] w fun e w' => ToldRet w b tokV toks (tokEnc (.mark pl m)) (fun v => #[.int .i64 pl, v1, v2, .func (.func 104) #[] #[], .bool false, .int .i64 pl, .slice none 0 0, .int .i64 0, v8, v9, va, vb, vc, v]) (.int .i64 0) e w' := by
 obtain ⟨c0, c1, c2, c3, c4, c5, c6, c7, c8, c9, ca, cb, cc, cd, cf⟩ := cells14 h;have HB := hZ (blank_any m);rw [show isBlank m = false by rcases hm with rfl | rfl | rfl | rfl | rfl | rfl <;> rfl] at HB;have hb2 := begun_at (pl := pl) h;have HNE := hZ (hw.ne h (by decide));have hw2 := hw.keeps (begun_keeps w b pl) (fun k e hk => HNE.out (e.trans (congrArg some hk)));have HS := hZ (span_any (begunW w b pl) b _ pl (pl + 1) hb2 rfl (by omega) (by omega));have HT := hZ (fun w' (hb : Below (begunW w b pl).heap.size (begunW w b pl) w') => tell_any w' b _ _ _ _ _ _ _ _ _ _ _ _ _ tokV 238 (.agg #[.int .i64 pl, .int .i64 1, .int .u8 ((m.toNat : Nat) : Int)]) toks (keep hb2 hb) (hw2.keeps (Keeps.of_below (fun _ => False) hb) (fun _ _ => id)) htl);rw [show pl + 1 - pl = 1 by omega, show ((pl + 1 : Nat) : Int) = (pl : Int) + 1 by omega] at HS;unfold begunW at HS;rcases hm with rfl | rfl | rfl | rfl | rfl | rfl
 all_goals
  clear h hb2 hw hw2;simp only [UInt8.reduceToNat, Int.cast_ofNat_Int] at HB HT ⊢;go_enter func104, ntmps104;go_wp2_with fail;refine (HB.out _).mono ?_;rintro e w1 ⟨rfl, rfl⟩;go_wp2_with fail;refine (HS.out).mono ?_;rintro e w2 ⟨rfl, hb⟩;have HT2 := hZ (HT.out w2 hb);have HBB := hZ hb;clear hb;go_wp2_with fail;refine (HT2.out).mono ?_;rintro e w3 ⟨rfl, g, off, cap, h3, hw3, hg3, hk3⟩;have H3 := hZ h3;have HW3 := hZ hw3;have HG3 := hZ hg3;have HK3 := hZ hk3;clear h3 hw3 hg3 hk3;go_wp2_with fail;go_ret;exact ToldRet.begun (pl := pl) ⟨rfl, g, off, cap, H3.out, HW3.out, HG3.out.elim .inl (fun h => .inr (Nat.le_trans HBB.out.size h)), (Keeps.of_below _ HBB.out).same HK3.out⟩
theorem outside_quote (w : World) (b pl : Nat) (v1 v2 v3 v4 v5 v6 v7 v8 v9 va vb vc vd : Value) (h : w.heap[b]? = some (.cells #[.int .i64 pl, v1, v2, v3, v4, v5, v6, v7, v8, v9, va, vb, vc, vd] 228 (0, 0))) :
 Calls prog 104 #[.pointer (some ⟨b, 0, none⟩), .int .u8 34] w fun e w' => e = .returned (.int .i64 0) ∧ ∃ f, w.heap.size ≤ f ∧ f < w'.heap.size ∧ w'.heap[b]? = some (.cells #[.int .i64 pl, v1, v2, .func (.func 138) #[] #[], .bool true, .int .i64 pl, .slice none 0 0, .int .i64 0, .pointer (some ⟨f, 0, none⟩), .slice none 0 0, .int .i64 0, .int .i32 0, .int .i32 0, vd] 228 (0, 0)) ∧
  Feeds w' f 0 [] ∧ Keeps (fun k => k = b) w w' := by
 obtain ⟨c0, c1, c2, c3, c4, c5, c6, c7, c8, c9, ca, cb, cc, cd, cf⟩ := cells14 h;have HB := hZ (blank_any 34);rw [show (((34 : UInt8).toNat : Nat) : Int) = 34 from rfl, show isBlank 34 = false from rfl] at HB;have hb2 := begun_at (pl := pl) h;have HB2 := hZ hb2;obtain ⟨f, hf⟩ : ∃ f, w.heap.size = f := ⟨_, rfl⟩;have hF := newFeeder_any (begunW w b pl);rw [begun_size, hf] at hF;have HBZ := hZ (begun_size w b pl);have HFZ := hZ hf;have hlt := lt_of_block h;rw [hf] at hlt;have HKP := hZ (begun_keeps w b pl);unfold begunW at hF;have HF := hZ hF;clear h hb2 hf hF;go_enter func104, ntmps104;go_wp2_with fail;refine (HB.out _).mono ?_;rintro e w1 ⟨rfl, rfl⟩;go_wp2_with fail;refine (HF.out).mono ?_;rintro e w2 ⟨rfl, hfe, hbl, hsz⟩;have hbl2 : Below (begunW w1 b pl).heap.size (begunW w1 b pl) w2 := by rw [HBZ.out, HFZ.out]; exact hbl
 have h2 := keep HB2.out hbl2;obtain ⟨d0, d1, d2, d3, d4, d5, d6, d7, d8, d9, da, db, dc, dd, df⟩ := cells14 h2;have H2 := hZ h2;have HFE := hZ hfe;have HBL := hZ hbl2;have HLT := hZ hlt;clear h2 hfe hbl hbl2 hsz hlt c0 c1 c2 c3 c4 c5 c6 c7 c8 c9 ca cb cc cd cf;go_wp2_with fail;go_ret;have hne : f ≠ b := by have := HLT.out; omega
 have hk : Keeps (fun k => k = b) w2 _ := ((((((Keeps.refl (fun k => k = b) w2).setCell (p := ⟨b, 8, none⟩) (.inl rfl) (.pointer (some ⟨f, 0, none⟩))).setCell (p := ⟨b, 9, none⟩) (.inl rfl) (.slice none 0 0)).setCell (p := ⟨b, 10, none⟩) (.inl rfl) (.int .i64 0)).setCell (p := ⟨b, 11, none⟩) (.inl rfl) (.int .i32 0)).setCell (p := ⟨b, 12, none⟩) (.inl rfl) (.int .i32 0)).setCell (p := ⟨b, 3, none⟩) (.inl rfl) (.func (.func 138) #[] #[]);have hfl : f < w2.heap.size := by obtain ⟨_, a0, a1, a2, a3, h2, _⟩ := HFE.out; exact lt_of_block h2
 exact ⟨rfl, f, Nat.le_of_eq HFZ.out, Nat.lt_of_lt_of_le hfl hk.size, set_at (set_at (set_at (set_at (set_at (set_at H2.out _) _) _) _) _) _, HFE.out.keeps hk hne, ((HKP.out.below (by have := HBL.out; rwa [HBZ.out] at this)).same hk)⟩
theorem outside_word (w : World) (b pl : Nat) (v1 v2 v3 v4 v5 v6 v7 v8 v9 va vb vc vd : Value) (ch : UInt8) (hk : ch = 110 ∨ ch = 116 ∨ ch = 102) (h : w.heap[b]? = some (.cells #[.int .i64 pl, v1, v2, v3, v4, v5, v6, v7, v8, v9, va, vb, vc, vd] 228 (0, 0))) :
 Calls prog 104 #[.pointer (some ⟨b, 0, none⟩), .int .u8 ((ch.toNat : Nat) : Int)] w fun e w' => RawRet w b (.slice none 0 0) [ch] (fun v => #[.int .i64 pl, v1, v2, .func (.func 141) #[] #[], .bool true, .int .i64 pl, v, .int .i64 0, v8, v9, va, vb, vc, vd]) e w' := by
 obtain ⟨c0, c1, c2, c3, c4, c5, c6, c7, c8, c9, ca, cb, cc, cd, cf⟩ := cells14 h;have HB := hZ (blank_any ch);rw [show isBlank ch = false by rcases hk with rfl | rfl | rfl <;> rfl] at HB;obtain ⟨n123, m123, k123⟩ := byte_ne3 (c := ch) (d := 123) (n := 123) (by rintro rfl; revert hk; decide) rfl;obtain ⟨n125, m125, k125⟩ := byte_ne3 (c := ch) (d := 125) (n := 125) (by rintro rfl; revert hk; decide) rfl;obtain ⟨n91, m91, k91⟩ := byte_ne3 (c := ch) (d := 91) (n := 91) (by rintro rfl; revert hk; decide) rfl;obtain ⟨n93, m93, k93⟩ := byte_ne3 (c := ch) (d := 93) (n := 93) (by rintro rfl; revert hk; decide) rfl;obtain ⟨n58, m58, k58⟩ := byte_ne3 (c := ch) (d := 58) (n := 58) (by rintro rfl; revert hk; decide) rfl;obtain ⟨n44, m44, k44⟩ := byte_ne3 (c := ch) (d := 44) (n := 44) (by rintro rfl; revert hk; decide) rfl;obtain ⟨n34, m34, k34⟩ := byte_ne3 (c := ch) (d := 34) (n := 34) (by rintro rfl; revert hk; decide) rfl;obtain ⟨n45, m45, k45⟩ := byte_ne3 (c := ch) (d := 45) (n := 45) (by rintro rfl; revert hk; decide) rfl;have f48 : (48 : Int) ≤ ((ch.toNat : Nat) : Int) := by rcases hk with rfl | rfl | rfl <;> decide
 have f57 : ¬ ((ch.toNat : Nat) : Int) ≤ 57 := by rcases hk with rfl | rfl | rfl <;> decide
 have HWD := hZ (lexWord_any ch);obtain ⟨s, hs⟩ : ∃ s : ByteArray, (⟨(wordOf ch).toArray⟩ : ByteArray) = s := ⟨_, rfl⟩;have hse : s.toList.isEmpty = false := by rw [← hs, Lib.toList_data]; rcases hk with rfl | rfl | rfl <;> decide
 have hsl : (s == ⟨#[]⟩) = false := by rw [← hs]; rcases hk with rfl | rfl | rfl <;> decide
 have hsn : (s != ⟨#[]⟩) = true := by rw [← hs]; rcases hk with rfl | rfl | rfl <;> decide
 rw [hs] at HWD;have hb2 := begun_at (pl := pl) h;have H := hZ hb2;have HKP := hZ (begun_keeps w b pl);have HBZ := hZ (begun_size w b pl);have hlt := lt_of_block h;have HR := hZ (show Win 5 encB ((begunW w b pl).alloc (.cells #[encB ch] 5)) (.slice none 0 0) [] from .nil _ _ _);unfold begunW at HR;clear h hb2 hs hk;go_enter func104, ntmps104;go_wp2_with fail;refine (HB.out _).mono ?_;rintro e w1 ⟨rfl, rfl⟩;go_wp2_with fail;refine (HWD.out _).mono ?_;rintro e w1 ⟨rfl, rfl⟩
 go_wp2_with (at_builtin; refine append_win elemB rfl _ _ rfl rfl HR.out ⟨w1.heap.size, 0, none⟩ 1 ch rfl ?_ rfl ?_ ?_ ?_)
 ·exact cell_new (begun_size w1 b pl).symm
 ·first | decide | simp
 ·first | decide | simp [maxLen]
 intro g off cap w' hrow hgb0 hgr;have hb' := (hgr.block b (by rw [World.size_alloc]; have := HBZ.out; unfold begunW at this; omega) (fun e => by cases e)).trans ((Below.heap_alloc _ _ _ (lt_of_block H.out)).trans H.out);have HNG := hZ (hrow.ne hb' (by decide));have hgb : w1.heap.size ≤ g := hgb0.elim (fun e => by cases e) (fun h => Nat.le_trans (by simp [World.setCell]) h.1);have HGB := hZ hgb;have HK := hZ (((HKP.out.mono (G := fun k => k = b ∨ (Value.slice none 0 0).ownBlock = some k) (fun k hk => .inl hk)).alloc (.cells #[encB ch] 5)).grown hgr (fun k e => by cases e));have HROW := hZ hrow;obtain ⟨d0, d1, d2, d3, d4, d5, d6, d7, d8, d9, da, db, dc, dd, df⟩ := cells14 hb';have HB := hZ hb';clear hb' hrow hgb hgb0 hgr c0 c1 c2 c3 c4 c5 c6 c7 c8 c9 ca cb cc cd cf;go_wp2_with fail;go_ret;refine ⟨rfl, g, off, cap, ?_, ?_, .inr HGB.out, (HK.out.setCell (p := ⟨b, 6, none⟩) (.inl (.inl rfl)) _).setCell (p := ⟨b, 3, none⟩) (.inl (.inl rfl)) _⟩
 ·exact set_at (set_at HB.out _) _
 ·exact HROW.out.keeps (((Keeps.refl (fun k => k = b) w').setCell (p := ⟨b, 6, none⟩) (.inl rfl) _).setCell (p := ⟨b, 3, none⟩) (.inl rfl) _) (fun k e hk => HNG.out (e.trans (congrArg some hk)))
theorem outside_num45 (w : World) (b pl s' : Nat) (v1 v2 v3 v4 v5 v6 v7 v8 v9 va vb vc vd : Value) (h : w.heap[b]? = some (.cells #[.int .i64 pl, v1, v2, v3, v4, v5, v6, v7, v8, v9, va, vb, vc, vd] 228 (0, 0))) (hn : numNext 0 45 = some s') :
 Calls prog 104 #[.pointer (some ⟨b, 0, none⟩), .int .u8 45] w fun e w' => RawRet w b (.slice none 0 0) [45] (fun v => #[.int .i64 pl, v1, v2, .func (.func 139) #[] #[], .bool true, .int .i64 pl, v, .int .i64 s', v8, v9, va, vb, vc, vd]) e w' := by
 obtain ⟨c0, c1, c2, c3, c4, c5, c6, c7, c8, c9, ca, cb, cc, cd, cf⟩ := cells14 h;have HB := hZ (blank_any 45);rw [show (((45 : UInt8).toNat : Nat) : Int) = 45 from rfl, show isBlank 45 = false from rfl] at HB;have hb2 := begun_at (pl := pl) h;have hb3 := set_at hb2 (o := 3) (.func (.func 139) #[] #[]);simp only [List.setIfInBounds_toArray, List.set_cons_zero, List.set_cons_succ] at hb3;have hN := numeral_on _ b 0 s' _ _ _ _ _ _ _ _ _ _ _ _ (.slice none 0 0) 45 [] hb3 (by decide) hn (.nil _ _ _) (by decide);simp only [List.nil_append, Int.natCast_zero] at hN;rw [show (((45 : UInt8).toNat : Nat) : Int) = 45 from rfl] at hN;have HKP := hZ ((begun_keeps w b pl).setCell (p := ⟨b, 3, none⟩) (.inl rfl) (.func (.func 139) #[] #[]));have HBZ := hZ (begun_size w b pl);unfold begunW at hN;have HN := hZ hN;clear h hb2 hb3 hN hn;go_enter func104, ntmps104;go_wp2_with fail;refine (HB.out _).mono ?_;rintro e w1 ⟨rfl, rfl⟩;go_wp2_with fail;refine (HN.out).mono ?_;rintro e w2 ⟨rfl, g, off, cap, h2, hw2, hg2, hk2⟩;have H2 := hZ h2;have HW2 := hZ hw2;have HG2 := hZ hg2;have HK2 := hZ hk2;clear h2 hw2 hg2 hk2;go_wp2_with fail;go_ret;refine ⟨rfl, g, off, cap, H2.out, HW2.out, HG2.out.elim .inl (fun h => .inr (Nat.le_trans (by simp [World.setCell]) h)), (HKP.out.mono (fun k hk => .inl hk)).same HK2.out⟩
theorem outside_numD (w : World) (b pl s' : Nat) (v1 v2 v3 v4 v5 v6 v7 v8 v9 va vb vc vd : Value) (ch : UInt8) (h : w.heap[b]? = some (.cells #[.int .i64 pl, v1, v2, v3, v4, v5, v6, v7, v8, v9, va, vb, vc, vd] 228 (0, 0))) (h48 : 48 ≤ ch.toNat) (h57 : ch.toNat ≤ 57) (hn : numNext 0 ch = some s') :
 Calls prog 104 #[.pointer (some ⟨b, 0, none⟩), .int .u8 ((ch.toNat : Nat) : Int)] w fun e w' => RawRet w b (.slice none 0 0) [ch] (fun v => #[.int .i64 pl, v1, v2, .func (.func 139) #[] #[], .bool true, .int .i64 pl, v, .int .i64 s', v8, v9, va, vb, vc, vd]) e w' := by
 obtain ⟨c0, c1, c2, c3, c4, c5, c6, c7, c8, c9, ca, cb, cc, cd, cf⟩ := cells14 h;have HB := hZ (blank_any ch);rw [isBlank_of h48] at HB;obtain ⟨n123, m123, k123⟩ := byte_ne3 (c := ch) (d := 123) (n := 123) (by intro e; subst e; simp at h48 h57) rfl;obtain ⟨n125, m125, k125⟩ := byte_ne3 (c := ch) (d := 125) (n := 125) (by intro e; subst e; simp at h48 h57) rfl;obtain ⟨n91, m91, k91⟩ := byte_ne3 (c := ch) (d := 91) (n := 91) (by intro e; subst e; simp at h48 h57) rfl;obtain ⟨n93, m93, k93⟩ := byte_ne3 (c := ch) (d := 93) (n := 93) (by intro e; subst e; simp at h48 h57) rfl;obtain ⟨n58, m58, k58⟩ := byte_ne3 (c := ch) (d := 58) (n := 58) (by intro e; subst e; simp at h48 h57) rfl;obtain ⟨n44, m44, k44⟩ := byte_ne3 (c := ch) (d := 44) (n := 44) (by intro e; subst e; simp at h48 h57) rfl;obtain ⟨n34, m34, k34⟩ := byte_ne3 (c := ch) (d := 34) (n := 34) (by intro e; subst e; simp at h48 h57) rfl;obtain ⟨n45, m45, k45⟩ := byte_ne3 (c := ch) (d := 45) (n := 45) (by intro e; subst e; simp at h48 h57) rfl;have f48 : (48 : Int) ≤ ((ch.toNat : Nat) : Int) := by omega
 have f57 : ((ch.toNat : Nat) : Int) ≤ 57 := by omega
 have hb2 := begun_at (pl := pl) h;have hb3 := set_at hb2 (o := 3) (.func (.func 139) #[] #[]);simp only [List.setIfInBounds_toArray, List.set_cons_zero, List.set_cons_succ] at hb3;have hN := numeral_on _ b 0 s' _ _ _ _ _ _ _ _ _ _ _ _ (.slice none 0 0) ch [] hb3 (by decide) hn (.nil _ _ _) (by decide);simp only [List.nil_append, Int.natCast_zero] at hN;clear h48 h57;have HKP := hZ ((begun_keeps w b pl).setCell (p := ⟨b, 3, none⟩) (.inl rfl) (.func (.func 139) #[] #[]));have HBZ := hZ (begun_size w b pl);unfold begunW at hN;have HN := hZ hN;clear h hb2 hb3 hN hn;go_enter func104, ntmps104;go_wp2_with fail;refine (HB.out _).mono ?_;rintro e w1 ⟨rfl, rfl⟩;go_wp2_with fail;refine (HN.out).mono ?_;rintro e w2 ⟨rfl, g, off, cap, h2, hw2, hg2, hk2⟩;have H2 := hZ h2;have HW2 := hZ hw2;have HG2 := hZ hg2;have HK2 := hZ hk2;clear h2 hw2 hg2 hk2;go_wp2_with fail;go_ret;refine ⟨rfl, g, off, cap, H2.out, HW2.out, HG2.out.elim .inl (fun h => .inr (Nat.le_trans (by simp [World.setCell]) h)), (HKP.out.mono (fun k hk => .inl hk)).same HK2.out⟩
theorem outside_badLow (w : World) (b pl : Nat) (v1 v2 v3 v4 v5 v6 v7 v8 v9 va vb vc vd : Value) (ch : UInt8) (h : w.heap[b]? = some (.cells #[.int .i64 pl, v1, v2, v3, v4, v5, v6, v7, v8, v9, va, vb, vc, vd] 228 (0, 0))) (hb : isBlank ch = false) (hm : isMark ch = false) (hq : ch ≠ 34) (h45 : ch ≠ 45) (hr : ch.toNat < 48) (hwd : wordOf ch = []) :
 Calls prog 104 #[.pointer (some ⟨b, 0, none⟩), .int .u8 ((ch.toNat : Nat) : Int)] w fun e w' => e = .returned (.int .i64 94) ∧ w' = begunW w b pl := by
 obtain ⟨c0, c1, c2, c3, c4, c5, c6, c7, c8, c9, ca, cb, cc, cd, cf⟩ := cells14 h;have HB := hZ (blank_any ch);rw [hb] at HB;have HWD := hZ (lexWord_any ch);rw [hwd] at HWD;obtain ⟨n123, m123, k123⟩ := byte_ne3 (c := ch) (d := 123) (n := 123) (by intro e; subst e; simp [isMark] at hm hq h45) rfl;obtain ⟨n125, m125, k125⟩ := byte_ne3 (c := ch) (d := 125) (n := 125) (by intro e; subst e; simp [isMark] at hm hq h45) rfl;obtain ⟨n91, m91, k91⟩ := byte_ne3 (c := ch) (d := 91) (n := 91) (by intro e; subst e; simp [isMark] at hm hq h45) rfl;obtain ⟨n93, m93, k93⟩ := byte_ne3 (c := ch) (d := 93) (n := 93) (by intro e; subst e; simp [isMark] at hm hq h45) rfl;obtain ⟨n58, m58, k58⟩ := byte_ne3 (c := ch) (d := 58) (n := 58) (by intro e; subst e; simp [isMark] at hm hq h45) rfl;obtain ⟨n44, m44, k44⟩ := byte_ne3 (c := ch) (d := 44) (n := 44) (by intro e; subst e; simp [isMark] at hm hq h45) rfl;obtain ⟨n34, m34, k34⟩ := byte_ne3 (c := ch) (d := 34) (n := 34) (by intro e; subst e; simp [isMark] at hm hq h45) rfl;obtain ⟨n45, m45, k45⟩ := byte_ne3 (c := ch) (d := 45) (n := 45) (by intro e; subst e; simp [isMark] at hm hq h45) rfl;have f48 : ¬ (48 : Int) ≤ ((ch.toNat : Nat) : Int) := by omega
 clear h hb hm hq h45 hr hwd;go_enter func104, ntmps104;go_wp2_with fail;refine (HB.out _).mono ?_;rintro e w1 ⟨rfl, rfl⟩;go_wp2_with fail;refine (HWD.out _).mono ?_;rintro e w1 ⟨rfl, rfl⟩;go_wp2_with fail;go_ret;exact ⟨rfl, rfl⟩
theorem outside_badUp (w : World) (b pl : Nat) (v1 v2 v3 v4 v5 v6 v7 v8 v9 va vb vc vd : Value) (ch : UInt8) (h : w.heap[b]? = some (.cells #[.int .i64 pl, v1, v2, v3, v4, v5, v6, v7, v8, v9, va, vb, vc, vd] 228 (0, 0))) (hb : isBlank ch = false) (hm : isMark ch = false) (hq : ch ≠ 34) (h45 : ch ≠ 45) (hr : 57 < ch.toNat) (hwd : wordOf ch = []) :
 Calls prog 104 #[.pointer (some ⟨b, 0, none⟩), .int .u8 ((ch.toNat : Nat) : Int)] w fun e w' => e = .returned (.int .i64 94) ∧ w' = begunW w b pl := by
 obtain ⟨c0, c1, c2, c3, c4, c5, c6, c7, c8, c9, ca, cb, cc, cd, cf⟩ := cells14 h;have HB := hZ (blank_any ch);rw [hb] at HB;have HWD := hZ (lexWord_any ch);rw [hwd] at HWD;obtain ⟨n123, m123, k123⟩ := byte_ne3 (c := ch) (d := 123) (n := 123) (by intro e; subst e; simp [isMark] at hm hq h45) rfl;obtain ⟨n125, m125, k125⟩ := byte_ne3 (c := ch) (d := 125) (n := 125) (by intro e; subst e; simp [isMark] at hm hq h45) rfl;obtain ⟨n91, m91, k91⟩ := byte_ne3 (c := ch) (d := 91) (n := 91) (by intro e; subst e; simp [isMark] at hm hq h45) rfl;obtain ⟨n93, m93, k93⟩ := byte_ne3 (c := ch) (d := 93) (n := 93) (by intro e; subst e; simp [isMark] at hm hq h45) rfl;obtain ⟨n58, m58, k58⟩ := byte_ne3 (c := ch) (d := 58) (n := 58) (by intro e; subst e; simp [isMark] at hm hq h45) rfl;obtain ⟨n44, m44, k44⟩ := byte_ne3 (c := ch) (d := 44) (n := 44) (by intro e; subst e; simp [isMark] at hm hq h45) rfl;obtain ⟨n34, m34, k34⟩ := byte_ne3 (c := ch) (d := 34) (n := 34) (by intro e; subst e; simp [isMark] at hm hq h45) rfl;obtain ⟨n45, m45, k45⟩ := byte_ne3 (c := ch) (d := 45) (n := 45) (by intro e; subst e; simp [isMark] at hm hq h45) rfl;have f48 : (48 : Int) ≤ ((ch.toNat : Nat) : Int) := by omega
 have f57 : ¬ ((ch.toNat : Nat) : Int) ≤ 57 := by omega
 clear h hb hm hq h45 hr hwd;go_enter func104, ntmps104;go_wp2_with fail;refine (HB.out _).mono ?_;rintro e w1 ⟨rfl, rfl⟩;go_wp2_with fail;refine (HWD.out _).mono ?_;rintro e w1 ⟨rfl, rfl⟩;go_wp2_with fail;go_ret;exact ⟨rfl, rfl⟩
def Digits (l : List UInt8) : Prop := ∀ x ∈ l, 48 ≤ x.toNat ∧ x.toNat ≤ 57
theorem dval_trim (l : List UInt8) : dval (Lib.trimLeftB l 48) = dval l := by
 unfold Lib.trimLeftB
 induction l with
 | nil => rfl
 | cons x l ih =>
  by_cases h : x = 48
  ·subst h;rw [List.dropWhile_cons_of_pos (by simp), ih];exact (dval_zeros 1 l).symm
  ·rw [List.dropWhile_cons_of_neg (by simpa using h)]
theorem trim_sub (l : List UInt8) : ∀ x ∈ Lib.trimLeftB l 48, x ∈ l := fun _ hx => (List.dropWhile_sublist _).subset hx
theorem trim_len (l : List UInt8) : (Lib.trimLeftB l 48).length ≤ l.length := (List.dropWhile_sublist _).length_le
theorem pow_thousand (n : Nat) : 10 ^ (3 * n) ≤ 2 ^ (10 * n) := by
 rw [Nat.pow_mul, Nat.pow_mul];exact Nat.pow_le_pow_left (by decide) n
theorem bits_of {n m k : Nat} (h : n < 2 ^ m) (hk : m ≤ k) : Lim.bitlen n ≤ k := by
 rw [Lim.bitlen_le];exact Nat.lt_of_lt_of_le h (Nat.pow_le_pow_right (by decide) hk)
theorem dval_bits {l : List UInt8} (h : l.length ≤ 2400) (hd : ∀ x ∈ l, x.toNat ≤ 57) : Lim.bitlen (dval l) ≤ 8192 := by
 obtain ⟨m, hm, hm2⟩ : ∃ m : Nat, l.length ≤ 3 * m ∧ 10 * m ≤ 8192 := ⟨800, h, by decide⟩;exact bits_of (Nat.lt_of_lt_of_le (dval_lt hd) (Nat.le_trans (Nat.pow_le_pow_right (by decide) hm) (pow_thousand m))) hm2
theorem parse_any (s : ByteArray) (w : World) (hd : Digits s.data.toList) (hne : s.size ≠ 0) (hl : s.size ≤ 2400) :
 Calls prog 230 #[.string s] w fun e w' => RetNatE w (dval s.data.toList) .nilIface e w' := by
 have hsz : s.data.toList.length = s.size := Array.length_toList;have HD := hZ hd;clear hd;go_enter func230, ntmps230;go_wp2_with fail
 go_loop [12] (fun i => ∃ k : Nat, k ≤ s.size ∧ i = .int .i64 k) (fun i => s.size - (intOf i).toNat)
 case atStart => exact ⟨0, by omega, rfl⟩
 case round =>
  obtain ⟨k, hk, rfl⟩ := hrel
  by_cases hk2 : k < s.size
  ·obtain ⟨h1, h2⟩ := HD.out s[k] (Array.getElem_mem_toList hk2);have h3 : ¬ ((s[k].toNat : Nat) : Int) < 48 := by omega
   have h4 : ¬ (57 : Int) < ((s[k].toNat : Nat) : Int) := by omega
   go_wp2_with fail;refine ⟨⟨k + 1, by omega, by go_num⟩, by simp [intOf]; omega⟩
  ·have hie : s.toList.isEmpty = false := by
    rw [Lib.toList_data];cases hc : s.data.toList with
    | nil => rw [hc] at hsz; exact absurd hsz.symm hne
    | cons x r => rfl
   have HSZ := hZ hsz;clear hsz;go_wp2_with fail;refine (Tryz.strings_TrimLeft_one s 48 (by decide) _).mono ?_;rintro e w1 ⟨rfl, rfl⟩;have hdt : Digits (Lib.trimLeftB s.data.toList 48) := fun x hx => HD.out x (trim_sub _ x hx)
   have hlt : (Lib.trimLeftB s.data.toList 48).length ≤ 2400 := Nat.le_trans (trim_len _) (by have := HSZ.out; omega);have hvt := dval_trim s.data.toList;generalize Lib.trimLeftB s.data.toList 48 = T at *;have HVT := hZ hvt;have HDT := hZ hdt;clear hvt hdt hie;obtain ⟨t, ht⟩ : ∃ t : ByteArray, (⟨T.toArray⟩ : ByteArray) = t := ⟨_, rfl⟩;have htT : t.data.toList = T := by rw [← ht]
   have hts : t.size = T.length := by rw [← ht]; rfl
   rw [ht];have HTT := hZ htT;clear ht htT;have hgt : ¬ (2500 : Int) < (t.size : Int) := by omega
   go_wp2_with fail;have htl : t.size ≤ 2400 := by omega
   have HTS := hZ hts;clear hts hlt hgt;have hbox := heap_alloc_new w (.cells #[.slice none 0 0] 381);have HBOX := hZ hbox;clear hbox
   go_loopw [0, 5] (fun d v wr => ∃ (L : List UInt8) (rb : ByteArray) (r : List Nat), d = .string rb ∧ Hid (T = L ++ rb.data.toList) ∧ rb.size ≤ 2400 ∧ Wds wr v r ∧ Lim.Small r ∧ Hid (Lim.val r = dval L) ∧ r.length ≤ L.length ∧ Hid (Below w.heap.size w wr) ∧
    Hid (wr.heap[w.heap.size]? = some (.cells #[.slice none 0 0] 381 (0, 0)))) (fun d _ _ => match d with | .string b => b.size | _ => 0)
   case atStart => exact ⟨[], t, [], rfl, hZ (by rw [HTT.out]; rfl), htl, Wds.nil _, (fun x hx => by cases hx), hZ rfl, Nat.le_refl _, hZ ((Below.refl _ _).alloc (Nat.le_refl _) _), HBOX⟩
   case round =>
    obtain ⟨L, rb, r, rfl, hT, hrs, hw, hsm, hval, hlen, hbel, hbx⟩ := hrel
    by_cases hr0 : rb.size = 0
    ·have hr1 : ¬ (0 : Int) < (rb.size : Int) := by omega
     go_wp2_with fail
     have hTL : dval T = dval L := by
      have : rb.data.toList = [] := List.eq_nil_of_length_eq_zero (by rw [Array.length_toList]; exact hr0);rw [hT.out, this, List.append_nil]
     have hfit : Lim.bitlen (dval T) ≤ 8192 := dval_bits (by have := HTS.out; omega) (fun x hx => (HDT.out x hx).2);have HV := hZ (show Lim.val r = dval s.data.toList by rw [hval.out, ← hTL, HVT.out]);rw [HVT.out] at hfit;have HF := hZ hfit;clear hTL hfit;refine (made_any _ r _ hsm hw).mono ?_;rintro e w2 ⟨a2, k2, c2, rfl, hw2, hb2⟩;have hbx2 := hZ (keep hbx.out hb2);have hbl2 := hZ (chain hbel.out hb2);rw [HV.out] at hw2;have HW2 := hZ hw2;clear hw2 hb2;go_wp2_with fail;refine (bounded_any a2 k2 c2 (dval s.data.toList) _ HW2.out (Nat.le_trans (Lim.short (k := 128) HF.out) (by decide))).mono ?_;rintro e w3 ⟨a3, k3, c3, rfl, hw3, hb3⟩;have hbx3 := hZ (keep hbx2.out hb3);have hbl3 := hZ (chain hbl2.out hb3);rw [capN_fit HF.out] at hw3;rw [capE_fit HF.out];have HW3 := hZ hw3;clear hw3 hb3;have hc3 := cell_of_one hbx3.out;have hf3 := free_of_one hbx3.out;go_wp2_with fail;exact bodyPost_ret (v := .tuple #[.agg #[.slice a3 k3 c3], .nilIface]) (by simp [results, results230, go_sem, hc3]) rfl ⟨a3, k3, c3, rfl, HW3.out.set hbx3.out (by decide) _ _, hbl3.out.setCell (Nat.le_refl _) _⟩
    ·have hr1 : (0 : Int) < (rb.size : Int) := by omega
     obtain ⟨k, hk⟩ : ∃ k : Nat, min 18 rb.size = k := ⟨_, rfl⟩;have hk1 : k ≤ 18 := by omega
     have hk2 : k ≤ rb.size := by omega
     have hk0 : 1 ≤ k := by omega
     have hkm : min (18 : Int) (rb.size : Int) = (k : Int) := by omega
     clear hk;go_wp2_with fail;have hr2 := hZ hr0;clear hr0 hr1
     go_loop [49, 7, 8] (fun i x ten => ∃ n : Nat, n ≤ k ∧ i = .int .i64 n ∧ x = .int .u64 (dval (rb.data.toList.take n) : Nat) ∧ ten = .int .u64 (10 ^ n : Nat)) (fun i _ _ => k - (intOf i).toNat)
     case atStart => exact ⟨0, by omega, rfl, rfl, rfl⟩
     case round =>
      obtain ⟨n, hn, rfl, rfl, rfl⟩ := hrel
      by_cases hnk : n < k
      ·have hnr : n < rb.size := by omega
       have hdg := HDT.out rb[n] (by rw [hT.out]; exact List.mem_append_right _ (Array.getElem_mem_toList hnr))
       have hstep : dval (rb.data.toList.take (n + 1)) = 10 * dval (rb.data.toList.take n) + (rb[n].toNat - 48) := by
        rw [List.take_succ, List.getElem?_eq_getElem (by rw [Array.length_toList]; exact hnr)];exact dval_snoc _ _
       have hxb : dval (rb.data.toList.take n) < 10 ^ n := by
        have := dval_lt (l := rb.data.toList.take n) (fun x hx => (HDT.out x (by rw [hT.out]; exact List.mem_append_right _ (List.mem_of_mem_take hx))).2)
        rwa [List.length_take, Nat.min_eq_left (by rw [Array.length_toList]; exact Nat.le_of_lt hnr)] at this
       have hp : 10 ^ n ≤ 10 ^ 17 := Nat.pow_le_pow_right (by decide) (by omega);have hps : 10 ^ (n + 1) = 10 ^ n * 10 := Nat.pow_succ 10 n;have hps2 : (((10 ^ (n + 1) : Nat)) : Int) = ((10 ^ n : Nat) : Int) * 10 := by rw [hps]; omega
       have hst2 : ((dval (rb.data.toList.take (n + 1)) : Nat) : Int) = 10 * ((dval (rb.data.toList.take n) : Nat) : Int) + (((rb[n].toNat : Nat) : Int) - 48) := by rw [hstep]; omega
       have HS1 := hZ hst2;have HS2 := hZ hps2;clear hstep hst2 hps hps2;have hp17 : (10 : Nat) ^ 17 = 100000000000000000 := by decide
       rw [hp17] at hp;clear hp17;obtain ⟨x, hx⟩ : ∃ x, dval (rb.data.toList.take n) = x := ⟨_, rfl⟩;obtain ⟨ten, hten⟩ : ∃ x, 10 ^ n = x := ⟨_, rfl⟩;rw [hx, hten] at hxb;rw [hten] at hp;simp only [hx, hten] at *;clear hx hten;obtain ⟨dg, hdge⟩ : ∃ d, rb[n].toNat = d := ⟨_, rfl⟩;simp only [hdge] at hdg HS1;go_wp2_with fail;refine ⟨⟨n + 1, by omega, by go_num, congrArg (Value.int .u64) HS1.out.symm, congrArg (Value.int .u64) HS2.out.symm⟩, by simp [intOf]; omega⟩
      ·have hnk2 : n = k := by omega
       subst hnk2
       have hxb : dval (rb.data.toList.take n) < 10 ^ n := by
        have := dval_lt (l := rb.data.toList.take n) (fun x hx => (HDT.out x (by rw [hT.out]; exact List.mem_append_right _ (List.mem_of_mem_take hx))).2)
        rwa [List.length_take, Nat.min_eq_left (by rw [Array.length_toList]; exact hk2)] at this
       have hp : 10 ^ n ≤ 10 ^ 18 := Nat.pow_le_pow_right (by decide) hk1;have hp18 : (10 : Nat) ^ 18 = 1000000000000000000 := by decide
       rw [hp18] at hp
       have hsp : T = (L ++ rb.data.toList.take n) ++ (rb.extract n rb.size).data.toList := by
        have he : (rb.extract n rb.size).data.toList = rb.data.toList.drop n := by
         simp [List.take_of_length_le]
        rw [he, List.append_assoc, List.take_append_drop]; exact hT.out
       have hvn : dval (L ++ rb.data.toList.take n) = dval L * 10 ^ n + dval (rb.data.toList.take n) := by
        have := dval_append L (rb.data.toList.take n)
        rwa [List.length_take, Nat.min_eq_left (by rw [Array.length_toList]; exact hk2)] at this
       have hln : (L ++ rb.data.toList.take n).length = L.length + n := by
        rw [List.length_append, List.length_take, Nat.min_eq_left (by rw [Array.length_toList]; exact hk2)]
       have hes : (rb.extract n rb.size).size = rb.size - n := by simp
       have hLl : L.length ≤ 2400 := by
        have := congrArg List.length hT.out;rw [List.length_append] at this;have := HTS.out;omega
       have HSP := hZ hsp;have HVN := hZ hvn;have HLN := hZ hln;have HES := hZ hes;clear hp18 hsp hvn hln hes;obtain ⟨x, hx⟩ : ∃ x, dval (rb.data.toList.take n) = x := ⟨_, rfl⟩;obtain ⟨ten, hten⟩ : ∃ x, 10 ^ n = x := ⟨_, rfl⟩;rw [hx, hten] at hxb;rw [hten] at hp;simp only [hx, hten] at *;clear hx hten;go_wp2_with fail;refine (times_any _ r ten x _ hw hsm (by omega) (by omega) (by omega)).mono ?_;rintro e w2 ⟨a2, c2, r2, rfl, hw2, hsm2, hv2, hl2, hb2⟩;have hbx2 := hZ (keep hbx.out hb2);have hbl2 := hZ (chain hbel.out hb2);have HV2 := hZ hv2;have HL2 := hZ hl2;have HW2 := hZ hw2;clear hv2 hl2 hb2 hw2;go_wp2_with fail;refine ⟨⟨L ++ rb.data.toList.take n, rb.extract n rb.size, r2, rfl, HSP, by rw [HES.out]; omega, HW2.out, hsm2, hZ (by rw [HV2.out, hval.out, HVN.out]), by rw [HLN.out, HL2.out]; omega, hbl2, hbx2⟩, ?_⟩
       show (rb.extract n rb.size).size < rb.size
       rw [HES.out]; omega
end Go.Proofs.YtakkmiomhackiaaGreatDoor
