/-
  Several texts in one, each under its own head. Conditions: none.
-/
import Derived.Test.YtakkmiomhackiaaGreatDoorLa08
import Derived.Test.YtakkmiomhackiaaGreatDoorLa10
import Derived.Deep.RegionWith
set_option linter.all false

/-
  Package lex, ninth part: numeral within a number.
-/
namespace Go.Proofs.YtakkmiomhackiaaGreatDoor
open Go.RowKit
set_option maxRecDepth 100000

/-- The bytes in hand have grown by one. -/
def RawRet (w : World) (b : Nat) (rawV : Value) (l : List UInt8) (c : Value → Array Value) (e : Ending) (w' : World) : Prop := e = .returned (.int .i64 0) ∧ ∃ g off cap, w'.heap[b]? = some (.cells (c (.slice (some ⟨g, off, none⟩) l.length cap)) 228 (0, 0)) ∧
  Win 5 encB w' (.slice (some ⟨g, off, none⟩) l.length cap) l ∧ (rawV.ownBlock = some g ∨ w.heap.size ≤ g) ∧ Keeps (fun k => k = b ∨ rawV.ownBlock = some k) w w'

theorem numeral_bad (w : World) (b s : Nat) (v0 v1 v2 v3 v4 v5 v6 v8 v9 va vb vc vd : Value) (ch : UInt8) (h : w.heap[b]? = some (.cells #[v0, v1, v2, v3, v4, v5, v6, .int .i64 s, v8, v9, va, vb, vc, vd] 228 (0, 0))) (hs : s ≤ 8)
    (hn : numNext s ch = none) (he : numEnds s = false) :
    Calls Tryz.prog 139 #[.pointer (some ⟨b, 0, none⟩), .int .u8 ((ch.toNat : Nat) : Int)] w fun e w' => e = .returned (.int .i64 94) ∧ w' = w := by
  obtain ⟨c0, c1, c2, c3, c4, c5, c6, c7, c8, c9, ca, cb, cc, cd, cf⟩ := cells14 h
  have HN := Lib.hid (next_any s hs ch)
  have HE := Lib.hid (numEnds_any s hs)
  rw [hn] at HN
  rw [he] at HE
  clear h hn he hs
  go_enter Tryz.func139, Tryz.ntmps139
  go_wp2_with fail
  refine (HN.out _).mono ?_
  rintro e w1 ⟨rfl, rfl⟩
  go_wp2_with fail
  refine (HE.out _).mono ?_
  rintro e w1 ⟨rfl, rfl⟩
  go_wp2_with fail
  go_ret
  exact ⟨rfl, rfl⟩

set_option maxHeartbeats 2000000 in
theorem numeral_on (w : World) (b s s' : Nat) (v0 v1 v2 v3 v4 v5 v8 v9 va vb vc vd rawV : Value) (ch : UInt8) (l : List UInt8) (h : w.heap[b]? = some (.cells #[v0, v1, v2, v3, v4, v5, rawV, .int .i64 s, v8, v9, va, vb, vc, vd] 228 (0, 0))) (hs : s ≤ 8)
    (hn : numNext s ch = some s') (hr : Win 5 encB w rawV l) (hl : l.length ≤ 1073741824) :
    Calls Tryz.prog 139 #[.pointer (some ⟨b, 0, none⟩), .int .u8 ((ch.toNat : Nat) : Int)] w fun e w' => RawRet w b rawV (l ++ [ch]) (fun v => #[v0, v1, v2, v3, v4, v5, v, .int .i64 s', v8, v9, va, vb, vc, vd]) e w' := by
  obtain ⟨c0, c1, c2, c3, c4, c5, c6, c7, c8, c9, ca, cb, cc, cd, cf⟩ := cells14 h
  have HN := Lib.hid (next_any s hs ch)
  rw [hn] at HN
  have HNE := Lib.hid (hr.ne h (by decide))
  have h' := set_at h (o := 7) (.int .i64 s')
  simp only [List.setIfInBounds_toArray, List.set_cons_zero, List.set_cons_succ] at h'
  have H := Lib.hid h'
  have hlt := lt_of_block h
  obtain ⟨ta, tc, htv⟩ := hr.shape
  have hr2 : Win 5 encB ((w.setCell ⟨b, 7, none⟩ (.int .i64 s')).alloc (.cells #[encB ch] 5)) rawV l := hr.keeps (F := fun k => k = b) (((Keeps.refl (fun k => k = b) w).setCell (p := ⟨b, 7, none⟩) (.inl rfl) _).alloc _) (fun k e hk => HNE.out (e.trans (congrArg some hk)))
  have HR := Lib.hid hr2
  clear h h' hn hs hr hr2
  subst htv
  go_enter Tryz.func139, Tryz.ntmps139
  go_wp2_with fail
  refine (HN.out _).mono ?_
  rintro e w1 ⟨rfl, rfl⟩
  go_wp2_with (at_builtin; refine append_win elemB rfl _ _ rfl rfl HR.out ⟨w1.heap.size, 0, none⟩ 1 ch rfl ?_ rfl ?_ ?_ ?_)
  · exact cell_new (set_size _ _ _).symm
  · omega
  · unfold maxLen; omega
  intro g off cap w' hrow hgb0 hgr
  have hb' := (hgr.block b (by simp; omega) (fun e => HNE.out e.symm)).trans ((Below.heap_alloc _ _ _ (lt_of_block H.out)).trans H.out)
  have HNG := Lib.hid (hrow.ne hb' (by decide))
  have hgb : (Value.slice ta l.length tc).ownBlock = some g ∨ w1.heap.size ≤ g := hgb0.elim .inl (fun h => .inr (Nat.le_trans (by first | exact Nat.le_refl _ | simp [World.setCell]) h.1))
  have HGB := Lib.hid hgb
  have HK := Lib.hid ((((Keeps.refl (fun k => k = b ∨ (Value.slice ta l.length tc).ownBlock = some k) w1).setCell (p := ⟨b, 7, none⟩) (.inl (.inl rfl)) (.int .i64 s')).alloc (.cells #[encB ch] 5)).grown hgr (fun k e => .inl (.inr e)))
  have HROW := Lib.hid hrow
  obtain ⟨d0, d1, d2, d3, d4, d5, d6, d7, d8, d9, da, db, dc, dd, df⟩ := cells14 hb'
  have HB := Lib.hid hb'
  clear hb' hrow hgb hgb0 hgr c0 c1 c2 c3 c4 c5 c6 c7 c8 c9 ca cb cc cd cf
  go_wp2_with fail
  go_ret
  refine ⟨rfl, g, off, cap, ?_, ?_, HGB.out, HK.out.setCell (p := ⟨b, 6, none⟩) (.inl (.inl rfl)) _⟩
  · rw [List.length_append]
    exact set_at HB.out _
  · rw [List.length_append]
    exact HROW.out.keeps ((Keeps.refl (fun k => k = b) w').setCell (p := ⟨b, 6, none⟩) (.inl rfl) _) (fun k e hk => HNG.out (e.trans (congrArg some hk)))

end Go.Proofs.YtakkmiomhackiaaGreatDoor

/-
  Package lex, eleventh part: outside.
-/
namespace Go.Proofs.YtakkmiomhackiaaGreatDoor
open Go.RowKit
set_option maxRecDepth 100000

theorem outside_blank (w : World) (b : Nat) (ch : UInt8) (hc : isBlank ch = true) : Calls Tryz.prog 104 #[.pointer (some ⟨b, 0, none⟩), .int .u8 ((ch.toNat : Nat) : Int)] w fun e w' => e = .returned (.int .i64 0) ∧ w' = w := by
  have HB := Lib.hid (blank_any ch)
  rw [hc] at HB
  clear hc
  go_enter Tryz.func104, Tryz.ntmps104
  go_wp2_with fail
  refine (HB.out _).mono ?_
  rintro e w1 ⟨rfl, rfl⟩
  go_wp2_with fail
  go_ret
  exact ⟨rfl, rfl⟩

theorem isBlank_of {c : UInt8} (h : 48 ≤ c.toNat) : isBlank c = false := by
  have h1 : ¬ c = 32 := by intro e; subst e; simp at h
  have h2 : ¬ c = 9 := by intro e; subst e; simp at h
  have h3 : ¬ c = 10 := by intro e; subst e; simp at h
  have h4 : ¬ c = 13 := by intro e; subst e; simp at h
  simp [isBlank, h1, h2, h3, h4]
/-- A lexer in which a token has begun, and nothing else is known of it. -/
def begunW (w : World) (b pl : Nat) : World := (((w.setCell ⟨b, 4, none⟩ (.bool true)).setCell ⟨b, 5, none⟩ (.int .i64 pl)).setCell ⟨b, 6, none⟩ (.slice none 0 0)).setCell ⟨b, 7, none⟩ (.int .i64 0)
theorem begun_at {w : World} {b pl : Nat} {v0 v1 v2 v3 v4 v5 v6 v7 v8 v9 va vb vc vd : Value} (h : w.heap[b]? = some (.cells #[v0, v1, v2, v3, v4, v5, v6, v7, v8, v9, va, vb, vc, vd] 228 (0, 0))) :
    (begunW w b pl).heap[b]? = some (.cells #[v0, v1, v2, v3, .bool true, .int .i64 pl, .slice none 0 0, .int .i64 0, v8, v9, va, vb, vc, vd] 228 (0, 0)) := by
  have hb2 := set_at (set_at (set_at (set_at h (o := 4) (.bool true)) (o := 5) (.int .i64 pl)) (o := 6) (.slice none 0 0)) (o := 7) (.int .i64 0)
  simp only [List.setIfInBounds_toArray, List.set_cons_zero, List.set_cons_succ] at hb2
  exact hb2
theorem begun_keeps (w : World) (b pl : Nat) : Keeps (fun k => k = b) w (begunW w b pl) :=
  ((((Keeps.refl (fun k => k = b) w).setCell (p := ⟨b, 4, none⟩) (.inl rfl) _).setCell (p := ⟨b, 5, none⟩) (.inl rfl) _).setCell (p := ⟨b, 6, none⟩) (.inl rfl) _).setCell (p := ⟨b, 7, none⟩) (.inl rfl) _
theorem begun_size (w : World) (b pl : Nat) : (begunW w b pl).heap.size = w.heap.size := by simp [begunW, World.setCell]
theorem ToldRet.begun {w w' : World} {b pl : Nat} {tokV t v : Value} {toks : List Value} {c : Value → Array Value} {e : Ending} (h : ToldRet (begunW w b pl) b tokV toks t c v e w') : ToldRet w b tokV toks t c v e w' := by
  obtain ⟨h1, g, off, cap, h2, h3, h4, h5⟩ := h
  refine ⟨h1, g, off, cap, h2, h3, ?_, ((begun_keeps w b pl).mono (fun k hk => .inl hk)).same h5⟩
  rw [begun_size] at h4
  exact h4

set_option maxHeartbeats 2000000 in
theorem outside_mark123 (w : World) (b pl : Nat) (v1 v2 v3 v4 v5 v6 v7 v8 v9 va vb vc tokV : Value) (toks : List Value) (h : w.heap[b]? = some (.cells #[.int .i64 pl, v1, v2, v3, v4, v5, v6, v7, v8, v9, va, vb, vc, tokV] 228 (0, 0)))
    (hw : Win 232 id w tokV toks) (htl : toks.length ≤ 1000) (hpl : pl ≤ 1073741823) :
    Calls Tryz.prog 104 #[.pointer (some ⟨b, 0, none⟩), .int .u8 123] w fun e w' => ToldRet w b tokV toks (tokEnc (.mark pl 123)) (fun v => #[.int .i64 pl, v1, v2, .func (.func 104) #[] #[], .bool false, .int .i64 pl, .slice none 0 0, .int .i64 0, v8, v9, va, vb, vc, v]) (.int .i64 0) e w' := by
  obtain ⟨c0, c1, c2, c3, c4, c5, c6, c7, c8, c9, ca, cb, cc, cd, cf⟩ := cells14 h
  have HB := Lib.hid (blank_any 123)
  rw [show (((123 : UInt8).toNat : Nat) : Int) = 123 from rfl, show isBlank 123 = false from rfl] at HB
  have hb2 := begun_at (pl := pl) h
  have HNE := Lib.hid (hw.ne h (by decide))
  have hw2 := hw.keeps (begun_keeps w b pl) (fun k e hk => HNE.out (e.trans (congrArg some hk)))
  have HS := Lib.hid (span_any (begunW w b pl) b _ pl (pl + 1) hb2 rfl (by omega) (by omega))
  have HT := Lib.hid (fun w' (hb : Below (begunW w b pl).heap.size (begunW w b pl) w') => tell_any w' b _ _ _ _ _ _ _ _ _ _ _ _ _ tokV 238 (.agg #[.int .i64 pl, .int .i64 1, .int .u8 123]) toks (keep hb2 hb) (hw2.keeps (Keeps.of_below (fun _ => False) hb) (fun _ _ => id)) htl)
  rw [show pl + 1 - pl = 1 by omega, show ((pl + 1 : Nat) : Int) = (pl : Int) + 1 by omega] at HS
  unfold begunW at HS
  clear h hb2 hw hw2
  go_enter Tryz.func104, Tryz.ntmps104
  go_wp2_with fail
  refine (HB.out _).mono ?_
  rintro e w1 ⟨rfl, rfl⟩
  go_wp2_with fail
  refine (HS.out).mono ?_
  rintro e w2 ⟨rfl, hb⟩
  have HT2 := Lib.hid (HT.out w2 hb)
  have HBB := Lib.hid hb
  clear hb
  go_wp2_with fail
  refine (HT2.out).mono ?_
  rintro e w3 ⟨rfl, g, off, cap, h3, hw3, hg3, hk3⟩
  have H3 := Lib.hid h3
  have HW3 := Lib.hid hw3
  have HG3 := Lib.hid hg3
  have HK3 := Lib.hid hk3
  clear h3 hw3 hg3 hk3
  go_wp2_with fail
  go_ret
  exact ToldRet.begun (pl := pl) ⟨rfl, g, off, cap, H3.out, HW3.out, HG3.out.elim .inl (fun h => .inr (Nat.le_trans HBB.out.size h)), (Keeps.of_below _ HBB.out).same HK3.out⟩

set_option maxHeartbeats 2000000 in
theorem outside_mark125 (w : World) (b pl : Nat) (v1 v2 v3 v4 v5 v6 v7 v8 v9 va vb vc tokV : Value) (toks : List Value) (h : w.heap[b]? = some (.cells #[.int .i64 pl, v1, v2, v3, v4, v5, v6, v7, v8, v9, va, vb, vc, tokV] 228 (0, 0)))
    (hw : Win 232 id w tokV toks) (htl : toks.length ≤ 1000) (hpl : pl ≤ 1073741823) :
    Calls Tryz.prog 104 #[.pointer (some ⟨b, 0, none⟩), .int .u8 125] w fun e w' => ToldRet w b tokV toks (tokEnc (.mark pl 125)) (fun v => #[.int .i64 pl, v1, v2, .func (.func 104) #[] #[], .bool false, .int .i64 pl, .slice none 0 0, .int .i64 0, v8, v9, va, vb, vc, v]) (.int .i64 0) e w' := by
  obtain ⟨c0, c1, c2, c3, c4, c5, c6, c7, c8, c9, ca, cb, cc, cd, cf⟩ := cells14 h
  have HB := Lib.hid (blank_any 125)
  rw [show (((125 : UInt8).toNat : Nat) : Int) = 125 from rfl, show isBlank 125 = false from rfl] at HB
  have hb2 := begun_at (pl := pl) h
  have HNE := Lib.hid (hw.ne h (by decide))
  have hw2 := hw.keeps (begun_keeps w b pl) (fun k e hk => HNE.out (e.trans (congrArg some hk)))
  have HS := Lib.hid (span_any (begunW w b pl) b _ pl (pl + 1) hb2 rfl (by omega) (by omega))
  have HT := Lib.hid (fun w' (hb : Below (begunW w b pl).heap.size (begunW w b pl) w') => tell_any w' b _ _ _ _ _ _ _ _ _ _ _ _ _ tokV 238 (.agg #[.int .i64 pl, .int .i64 1, .int .u8 125]) toks (keep hb2 hb) (hw2.keeps (Keeps.of_below (fun _ => False) hb) (fun _ _ => id)) htl)
  rw [show pl + 1 - pl = 1 by omega, show ((pl + 1 : Nat) : Int) = (pl : Int) + 1 by omega] at HS
  unfold begunW at HS
  clear h hb2 hw hw2
  go_enter Tryz.func104, Tryz.ntmps104
  go_wp2_with fail
  refine (HB.out _).mono ?_
  rintro e w1 ⟨rfl, rfl⟩
  go_wp2_with fail
  refine (HS.out).mono ?_
  rintro e w2 ⟨rfl, hb⟩
  have HT2 := Lib.hid (HT.out w2 hb)
  have HBB := Lib.hid hb
  clear hb
  go_wp2_with fail
  refine (HT2.out).mono ?_
  rintro e w3 ⟨rfl, g, off, cap, h3, hw3, hg3, hk3⟩
  have H3 := Lib.hid h3
  have HW3 := Lib.hid hw3
  have HG3 := Lib.hid hg3
  have HK3 := Lib.hid hk3
  clear h3 hw3 hg3 hk3
  go_wp2_with fail
  go_ret
  exact ToldRet.begun (pl := pl) ⟨rfl, g, off, cap, H3.out, HW3.out, HG3.out.elim .inl (fun h => .inr (Nat.le_trans HBB.out.size h)), (Keeps.of_below _ HBB.out).same HK3.out⟩

set_option maxHeartbeats 2000000 in
theorem outside_mark91 (w : World) (b pl : Nat) (v1 v2 v3 v4 v5 v6 v7 v8 v9 va vb vc tokV : Value) (toks : List Value) (h : w.heap[b]? = some (.cells #[.int .i64 pl, v1, v2, v3, v4, v5, v6, v7, v8, v9, va, vb, vc, tokV] 228 (0, 0)))
    (hw : Win 232 id w tokV toks) (htl : toks.length ≤ 1000) (hpl : pl ≤ 1073741823) :
    Calls Tryz.prog 104 #[.pointer (some ⟨b, 0, none⟩), .int .u8 91] w fun e w' => ToldRet w b tokV toks (tokEnc (.mark pl 91)) (fun v => #[.int .i64 pl, v1, v2, .func (.func 104) #[] #[], .bool false, .int .i64 pl, .slice none 0 0, .int .i64 0, v8, v9, va, vb, vc, v]) (.int .i64 0) e w' := by
  obtain ⟨c0, c1, c2, c3, c4, c5, c6, c7, c8, c9, ca, cb, cc, cd, cf⟩ := cells14 h
  have HB := Lib.hid (blank_any 91)
  rw [show (((91 : UInt8).toNat : Nat) : Int) = 91 from rfl, show isBlank 91 = false from rfl] at HB
  have hb2 := begun_at (pl := pl) h
  have HNE := Lib.hid (hw.ne h (by decide))
  have hw2 := hw.keeps (begun_keeps w b pl) (fun k e hk => HNE.out (e.trans (congrArg some hk)))
  have HS := Lib.hid (span_any (begunW w b pl) b _ pl (pl + 1) hb2 rfl (by omega) (by omega))
  have HT := Lib.hid (fun w' (hb : Below (begunW w b pl).heap.size (begunW w b pl) w') => tell_any w' b _ _ _ _ _ _ _ _ _ _ _ _ _ tokV 238 (.agg #[.int .i64 pl, .int .i64 1, .int .u8 91]) toks (keep hb2 hb) (hw2.keeps (Keeps.of_below (fun _ => False) hb) (fun _ _ => id)) htl)
  rw [show pl + 1 - pl = 1 by omega, show ((pl + 1 : Nat) : Int) = (pl : Int) + 1 by omega] at HS
  unfold begunW at HS
  clear h hb2 hw hw2
  go_enter Tryz.func104, Tryz.ntmps104
  go_wp2_with fail
  refine (HB.out _).mono ?_
  rintro e w1 ⟨rfl, rfl⟩
  go_wp2_with fail
  refine (HS.out).mono ?_
  rintro e w2 ⟨rfl, hb⟩
  have HT2 := Lib.hid (HT.out w2 hb)
  have HBB := Lib.hid hb
  clear hb
  go_wp2_with fail
  refine (HT2.out).mono ?_
  rintro e w3 ⟨rfl, g, off, cap, h3, hw3, hg3, hk3⟩
  have H3 := Lib.hid h3
  have HW3 := Lib.hid hw3
  have HG3 := Lib.hid hg3
  have HK3 := Lib.hid hk3
  clear h3 hw3 hg3 hk3
  go_wp2_with fail
  go_ret
  exact ToldRet.begun (pl := pl) ⟨rfl, g, off, cap, H3.out, HW3.out, HG3.out.elim .inl (fun h => .inr (Nat.le_trans HBB.out.size h)), (Keeps.of_below _ HBB.out).same HK3.out⟩

set_option maxHeartbeats 2000000 in
theorem outside_mark93 (w : World) (b pl : Nat) (v1 v2 v3 v4 v5 v6 v7 v8 v9 va vb vc tokV : Value) (toks : List Value) (h : w.heap[b]? = some (.cells #[.int .i64 pl, v1, v2, v3, v4, v5, v6, v7, v8, v9, va, vb, vc, tokV] 228 (0, 0)))
    (hw : Win 232 id w tokV toks) (htl : toks.length ≤ 1000) (hpl : pl ≤ 1073741823) :
    Calls Tryz.prog 104 #[.pointer (some ⟨b, 0, none⟩), .int .u8 93] w fun e w' => ToldRet w b tokV toks (tokEnc (.mark pl 93)) (fun v => #[.int .i64 pl, v1, v2, .func (.func 104) #[] #[], .bool false, .int .i64 pl, .slice none 0 0, .int .i64 0, v8, v9, va, vb, vc, v]) (.int .i64 0) e w' := by
  obtain ⟨c0, c1, c2, c3, c4, c5, c6, c7, c8, c9, ca, cb, cc, cd, cf⟩ := cells14 h
  have HB := Lib.hid (blank_any 93)
  rw [show (((93 : UInt8).toNat : Nat) : Int) = 93 from rfl, show isBlank 93 = false from rfl] at HB
  have hb2 := begun_at (pl := pl) h
  have HNE := Lib.hid (hw.ne h (by decide))
  have hw2 := hw.keeps (begun_keeps w b pl) (fun k e hk => HNE.out (e.trans (congrArg some hk)))
  have HS := Lib.hid (span_any (begunW w b pl) b _ pl (pl + 1) hb2 rfl (by omega) (by omega))
  have HT := Lib.hid (fun w' (hb : Below (begunW w b pl).heap.size (begunW w b pl) w') => tell_any w' b _ _ _ _ _ _ _ _ _ _ _ _ _ tokV 238 (.agg #[.int .i64 pl, .int .i64 1, .int .u8 93]) toks (keep hb2 hb) (hw2.keeps (Keeps.of_below (fun _ => False) hb) (fun _ _ => id)) htl)
  rw [show pl + 1 - pl = 1 by omega, show ((pl + 1 : Nat) : Int) = (pl : Int) + 1 by omega] at HS
  unfold begunW at HS
  clear h hb2 hw hw2
  go_enter Tryz.func104, Tryz.ntmps104
  go_wp2_with fail
  refine (HB.out _).mono ?_
  rintro e w1 ⟨rfl, rfl⟩
  go_wp2_with fail
  refine (HS.out).mono ?_
  rintro e w2 ⟨rfl, hb⟩
  have HT2 := Lib.hid (HT.out w2 hb)
  have HBB := Lib.hid hb
  clear hb
  go_wp2_with fail
  refine (HT2.out).mono ?_
  rintro e w3 ⟨rfl, g, off, cap, h3, hw3, hg3, hk3⟩
  have H3 := Lib.hid h3
  have HW3 := Lib.hid hw3
  have HG3 := Lib.hid hg3
  have HK3 := Lib.hid hk3
  clear h3 hw3 hg3 hk3
  go_wp2_with fail
  go_ret
  exact ToldRet.begun (pl := pl) ⟨rfl, g, off, cap, H3.out, HW3.out, HG3.out.elim .inl (fun h => .inr (Nat.le_trans HBB.out.size h)), (Keeps.of_below _ HBB.out).same HK3.out⟩

set_option maxHeartbeats 2000000 in
theorem outside_mark58 (w : World) (b pl : Nat) (v1 v2 v3 v4 v5 v6 v7 v8 v9 va vb vc tokV : Value) (toks : List Value) (h : w.heap[b]? = some (.cells #[.int .i64 pl, v1, v2, v3, v4, v5, v6, v7, v8, v9, va, vb, vc, tokV] 228 (0, 0)))
    (hw : Win 232 id w tokV toks) (htl : toks.length ≤ 1000) (hpl : pl ≤ 1073741823) :
    Calls Tryz.prog 104 #[.pointer (some ⟨b, 0, none⟩), .int .u8 58] w fun e w' => ToldRet w b tokV toks (tokEnc (.mark pl 58)) (fun v => #[.int .i64 pl, v1, v2, .func (.func 104) #[] #[], .bool false, .int .i64 pl, .slice none 0 0, .int .i64 0, v8, v9, va, vb, vc, v]) (.int .i64 0) e w' := by
  obtain ⟨c0, c1, c2, c3, c4, c5, c6, c7, c8, c9, ca, cb, cc, cd, cf⟩ := cells14 h
  have HB := Lib.hid (blank_any 58)
  rw [show (((58 : UInt8).toNat : Nat) : Int) = 58 from rfl, show isBlank 58 = false from rfl] at HB
  have hb2 := begun_at (pl := pl) h
  have HNE := Lib.hid (hw.ne h (by decide))
  have hw2 := hw.keeps (begun_keeps w b pl) (fun k e hk => HNE.out (e.trans (congrArg some hk)))
  have HS := Lib.hid (span_any (begunW w b pl) b _ pl (pl + 1) hb2 rfl (by omega) (by omega))
  have HT := Lib.hid (fun w' (hb : Below (begunW w b pl).heap.size (begunW w b pl) w') => tell_any w' b _ _ _ _ _ _ _ _ _ _ _ _ _ tokV 238 (.agg #[.int .i64 pl, .int .i64 1, .int .u8 58]) toks (keep hb2 hb) (hw2.keeps (Keeps.of_below (fun _ => False) hb) (fun _ _ => id)) htl)
  rw [show pl + 1 - pl = 1 by omega, show ((pl + 1 : Nat) : Int) = (pl : Int) + 1 by omega] at HS
  unfold begunW at HS
  clear h hb2 hw hw2
  go_enter Tryz.func104, Tryz.ntmps104
  go_wp2_with fail
  refine (HB.out _).mono ?_
  rintro e w1 ⟨rfl, rfl⟩
  go_wp2_with fail
  refine (HS.out).mono ?_
  rintro e w2 ⟨rfl, hb⟩
  have HT2 := Lib.hid (HT.out w2 hb)
  have HBB := Lib.hid hb
  clear hb
  go_wp2_with fail
  refine (HT2.out).mono ?_
  rintro e w3 ⟨rfl, g, off, cap, h3, hw3, hg3, hk3⟩
  have H3 := Lib.hid h3
  have HW3 := Lib.hid hw3
  have HG3 := Lib.hid hg3
  have HK3 := Lib.hid hk3
  clear h3 hw3 hg3 hk3
  go_wp2_with fail
  go_ret
  exact ToldRet.begun (pl := pl) ⟨rfl, g, off, cap, H3.out, HW3.out, HG3.out.elim .inl (fun h => .inr (Nat.le_trans HBB.out.size h)), (Keeps.of_below _ HBB.out).same HK3.out⟩

set_option maxHeartbeats 2000000 in
theorem outside_mark44 (w : World) (b pl : Nat) (v1 v2 v3 v4 v5 v6 v7 v8 v9 va vb vc tokV : Value) (toks : List Value) (h : w.heap[b]? = some (.cells #[.int .i64 pl, v1, v2, v3, v4, v5, v6, v7, v8, v9, va, vb, vc, tokV] 228 (0, 0)))
    (hw : Win 232 id w tokV toks) (htl : toks.length ≤ 1000) (hpl : pl ≤ 1073741823) :
    Calls Tryz.prog 104 #[.pointer (some ⟨b, 0, none⟩), .int .u8 44] w fun e w' => ToldRet w b tokV toks (tokEnc (.mark pl 44)) (fun v => #[.int .i64 pl, v1, v2, .func (.func 104) #[] #[], .bool false, .int .i64 pl, .slice none 0 0, .int .i64 0, v8, v9, va, vb, vc, v]) (.int .i64 0) e w' := by
  obtain ⟨c0, c1, c2, c3, c4, c5, c6, c7, c8, c9, ca, cb, cc, cd, cf⟩ := cells14 h
  have HB := Lib.hid (blank_any 44)
  rw [show (((44 : UInt8).toNat : Nat) : Int) = 44 from rfl, show isBlank 44 = false from rfl] at HB
  have hb2 := begun_at (pl := pl) h
  have HNE := Lib.hid (hw.ne h (by decide))
  have hw2 := hw.keeps (begun_keeps w b pl) (fun k e hk => HNE.out (e.trans (congrArg some hk)))
  have HS := Lib.hid (span_any (begunW w b pl) b _ pl (pl + 1) hb2 rfl (by omega) (by omega))
  have HT := Lib.hid (fun w' (hb : Below (begunW w b pl).heap.size (begunW w b pl) w') => tell_any w' b _ _ _ _ _ _ _ _ _ _ _ _ _ tokV 238 (.agg #[.int .i64 pl, .int .i64 1, .int .u8 44]) toks (keep hb2 hb) (hw2.keeps (Keeps.of_below (fun _ => False) hb) (fun _ _ => id)) htl)
  rw [show pl + 1 - pl = 1 by omega, show ((pl + 1 : Nat) : Int) = (pl : Int) + 1 by omega] at HS
  unfold begunW at HS
  clear h hb2 hw hw2
  go_enter Tryz.func104, Tryz.ntmps104
  go_wp2_with fail
  refine (HB.out _).mono ?_
  rintro e w1 ⟨rfl, rfl⟩
  go_wp2_with fail
  refine (HS.out).mono ?_
  rintro e w2 ⟨rfl, hb⟩
  have HT2 := Lib.hid (HT.out w2 hb)
  have HBB := Lib.hid hb
  clear hb
  go_wp2_with fail
  refine (HT2.out).mono ?_
  rintro e w3 ⟨rfl, g, off, cap, h3, hw3, hg3, hk3⟩
  have H3 := Lib.hid h3
  have HW3 := Lib.hid hw3
  have HG3 := Lib.hid hg3
  have HK3 := Lib.hid hk3
  clear h3 hw3 hg3 hk3
  go_wp2_with fail
  go_ret
  exact ToldRet.begun (pl := pl) ⟨rfl, g, off, cap, H3.out, HW3.out, HG3.out.elim .inl (fun h => .inr (Nat.le_trans HBB.out.size h)), (Keeps.of_below _ HBB.out).same HK3.out⟩

set_option maxHeartbeats 2000000 in
theorem outside_quote (w : World) (b pl : Nat) (v1 v2 v3 v4 v5 v6 v7 v8 v9 va vb vc vd : Value) (h : w.heap[b]? = some (.cells #[.int .i64 pl, v1, v2, v3, v4, v5, v6, v7, v8, v9, va, vb, vc, vd] 228 (0, 0))) :
    Calls Tryz.prog 104 #[.pointer (some ⟨b, 0, none⟩), .int .u8 34] w fun e w' => e = .returned (.int .i64 0) ∧ ∃ f, w.heap.size ≤ f ∧ f < w'.heap.size ∧ w'.heap[b]? = some (.cells #[.int .i64 pl, v1, v2, .func (.func 138) #[] #[], .bool true, .int .i64 pl, .slice none 0 0, .int .i64 0, .pointer (some ⟨f, 0, none⟩), .slice none 0 0, .int .i64 0, .int .i32 0, .int .i32 0, vd] 228 (0, 0)) ∧
      Feeds w' f 0 [] ∧ Keeps (fun k => k = b) w w' := by
  obtain ⟨c0, c1, c2, c3, c4, c5, c6, c7, c8, c9, ca, cb, cc, cd, cf⟩ := cells14 h
  have HB := Lib.hid (blank_any 34)
  rw [show (((34 : UInt8).toNat : Nat) : Int) = 34 from rfl, show isBlank 34 = false from rfl] at HB
  have hb2 := begun_at (pl := pl) h
  have HB2 := Lib.hid hb2
  obtain ⟨f, hf⟩ : ∃ f, w.heap.size = f := ⟨_, rfl⟩
  have hF := newFeeder_any (begunW w b pl)
  rw [begun_size, hf] at hF
  have HBZ := Lib.hid (begun_size w b pl)
  have HFZ := Lib.hid hf
  have hlt := lt_of_block h
  rw [hf] at hlt
  have HKP := Lib.hid (begun_keeps w b pl)
  unfold begunW at hF
  have HF := Lib.hid hF
  clear h hb2 hf hF
  go_enter Tryz.func104, Tryz.ntmps104
  go_wp2_with fail
  refine (HB.out _).mono ?_
  rintro e w1 ⟨rfl, rfl⟩
  go_wp2_with fail
  refine (HF.out).mono ?_
  rintro e w2 ⟨rfl, hfe, hbl, hsz⟩
  have hbl2 : Below (begunW w1 b pl).heap.size (begunW w1 b pl) w2 := by rw [HBZ.out, HFZ.out]; exact hbl
  have h2 := keep HB2.out hbl2
  obtain ⟨d0, d1, d2, d3, d4, d5, d6, d7, d8, d9, da, db, dc, dd, df⟩ := cells14 h2
  have H2 := Lib.hid h2
  have HFE := Lib.hid hfe
  have HBL := Lib.hid hbl2
  have HLT := Lib.hid hlt
  clear h2 hfe hbl hbl2 hsz hlt c0 c1 c2 c3 c4 c5 c6 c7 c8 c9 ca cb cc cd cf
  go_wp2_with fail
  go_ret
  have hne : f ≠ b := by have := HLT.out; omega
  have hk : Keeps (fun k => k = b) w2 _ := ((((((Keeps.refl (fun k => k = b) w2).setCell (p := ⟨b, 8, none⟩) (.inl rfl) (.pointer (some ⟨f, 0, none⟩))).setCell (p := ⟨b, 9, none⟩) (.inl rfl) (.slice none 0 0)).setCell (p := ⟨b, 10, none⟩) (.inl rfl) (.int .i64 0)).setCell (p := ⟨b, 11, none⟩) (.inl rfl) (.int .i32 0)).setCell (p := ⟨b, 12, none⟩) (.inl rfl) (.int .i32 0)).setCell (p := ⟨b, 3, none⟩) (.inl rfl) (.func (.func 138) #[] #[])
  have hfl : f < w2.heap.size := by obtain ⟨_, a0, a1, a2, a3, h2, _⟩ := HFE.out; exact lt_of_block h2
  exact ⟨rfl, f, Nat.le_of_eq HFZ.out, Nat.lt_of_lt_of_le hfl hk.size, set_at (set_at (set_at (set_at (set_at (set_at H2.out _) _) _) _) _) _, HFE.out.keeps hk hne, ((HKP.out.below (by have := HBL.out; rwa [HBZ.out] at this)).same hk)⟩

set_option maxHeartbeats 4000000 in
theorem outside_word110 (w : World) (b pl : Nat) (v1 v2 v3 v4 v5 v6 v7 v8 v9 va vb vc vd : Value) (h : w.heap[b]? = some (.cells #[.int .i64 pl, v1, v2, v3, v4, v5, v6, v7, v8, v9, va, vb, vc, vd] 228 (0, 0))) :
    Calls Tryz.prog 104 #[.pointer (some ⟨b, 0, none⟩), .int .u8 110] w fun e w' => RawRet w b (.slice none 0 0) [110] (fun v => #[.int .i64 pl, v1, v2, .func (.func 141) #[] #[], .bool true, .int .i64 pl, v, .int .i64 0, v8, v9, va, vb, vc, vd]) e w' := by
  obtain ⟨c0, c1, c2, c3, c4, c5, c6, c7, c8, c9, ca, cb, cc, cd, cf⟩ := cells14 h
  have HB := Lib.hid (blank_any 110)
  rw [show (((110 : UInt8).toNat : Nat) : Int) = 110 from rfl, show isBlank 110 = false from rfl] at HB
  have HWD := Lib.hid (lexWord_any 110)
  rw [show (((110 : UInt8).toNat : Nat) : Int) = 110 from rfl] at HWD
  obtain ⟨s, hs⟩ : ∃ s : ByteArray, (⟨(wordOf 110).toArray⟩ : ByteArray) = s := ⟨_, rfl⟩
  have hse : s.toList.isEmpty = false := by rw [← hs, Lib.toList_data]; decide
  have hsl : (s == ⟨#[]⟩) = false := by rw [← hs]; decide
  have hsn : (s != ⟨#[]⟩) = true := by rw [← hs]; decide
  rw [hs] at HWD
  have hb2 := begun_at (pl := pl) h
  have H := Lib.hid hb2
  have HKP := Lib.hid (begun_keeps w b pl)
  have HBZ := Lib.hid (begun_size w b pl)
  have hlt := lt_of_block h
  have HR := Lib.hid (show Win 5 encB ((begunW w b pl).alloc (.cells #[encB 110] 5)) (.slice none 0 0) [] from .nil _ _ _)
  unfold begunW at HR
  clear h hb2 hs
  go_enter Tryz.func104, Tryz.ntmps104
  go_wp2_with fail
  refine (HB.out _).mono ?_
  rintro e w1 ⟨rfl, rfl⟩
  go_wp2_with fail
  refine (HWD.out _).mono ?_
  rintro e w1 ⟨rfl, rfl⟩
  go_wp2_with (at_builtin; refine append_win elemB rfl _ _ rfl rfl HR.out ⟨w1.heap.size, 0, none⟩ 1 110 rfl ?_ rfl ?_ ?_ ?_)
  · exact cell_new (begun_size w1 b pl).symm
  · decide
  · decide
  intro g off cap w' hrow hgb0 hgr
  have hb' := (hgr.block b (by rw [World.size_alloc]; have := HBZ.out; unfold begunW at this; omega) (fun e => by cases e)).trans ((Below.heap_alloc _ _ _ (lt_of_block H.out)).trans H.out)
  have HNG := Lib.hid (hrow.ne hb' (by decide))
  have hgb : w1.heap.size ≤ g := hgb0.elim (fun e => by cases e) (fun h => Nat.le_trans (by simp [World.setCell]) h.1)
  have HGB := Lib.hid hgb
  have HK := Lib.hid (((HKP.out.mono (G := fun k => k = b ∨ (Value.slice none 0 0).ownBlock = some k) (fun k hk => .inl hk)).alloc (.cells #[encB 110] 5)).grown hgr (fun k e => by cases e))
  have HROW := Lib.hid hrow
  obtain ⟨d0, d1, d2, d3, d4, d5, d6, d7, d8, d9, da, db, dc, dd, df⟩ := cells14 hb'
  have HB := Lib.hid hb'
  clear hb' hrow hgb hgb0 hgr c0 c1 c2 c3 c4 c5 c6 c7 c8 c9 ca cb cc cd cf
  go_wp2_with fail
  go_ret
  refine ⟨rfl, g, off, cap, ?_, ?_, .inr HGB.out, (HK.out.setCell (p := ⟨b, 6, none⟩) (.inl (.inl rfl)) _).setCell (p := ⟨b, 3, none⟩) (.inl (.inl rfl)) _⟩
  · exact set_at (set_at HB.out _) _
  · exact HROW.out.keeps (((Keeps.refl (fun k => k = b) w').setCell (p := ⟨b, 6, none⟩) (.inl rfl) _).setCell (p := ⟨b, 3, none⟩) (.inl rfl) _) (fun k e hk => HNG.out (e.trans (congrArg some hk)))

set_option maxHeartbeats 4000000 in
theorem outside_word116 (w : World) (b pl : Nat) (v1 v2 v3 v4 v5 v6 v7 v8 v9 va vb vc vd : Value) (h : w.heap[b]? = some (.cells #[.int .i64 pl, v1, v2, v3, v4, v5, v6, v7, v8, v9, va, vb, vc, vd] 228 (0, 0))) :
    Calls Tryz.prog 104 #[.pointer (some ⟨b, 0, none⟩), .int .u8 116] w fun e w' => RawRet w b (.slice none 0 0) [116] (fun v => #[.int .i64 pl, v1, v2, .func (.func 141) #[] #[], .bool true, .int .i64 pl, v, .int .i64 0, v8, v9, va, vb, vc, vd]) e w' := by
  obtain ⟨c0, c1, c2, c3, c4, c5, c6, c7, c8, c9, ca, cb, cc, cd, cf⟩ := cells14 h
  have HB := Lib.hid (blank_any 116)
  rw [show (((116 : UInt8).toNat : Nat) : Int) = 116 from rfl, show isBlank 116 = false from rfl] at HB
  have HWD := Lib.hid (lexWord_any 116)
  rw [show (((116 : UInt8).toNat : Nat) : Int) = 116 from rfl] at HWD
  obtain ⟨s, hs⟩ : ∃ s : ByteArray, (⟨(wordOf 116).toArray⟩ : ByteArray) = s := ⟨_, rfl⟩
  have hse : s.toList.isEmpty = false := by rw [← hs, Lib.toList_data]; decide
  have hsl : (s == ⟨#[]⟩) = false := by rw [← hs]; decide
  have hsn : (s != ⟨#[]⟩) = true := by rw [← hs]; decide
  rw [hs] at HWD
  have hb2 := begun_at (pl := pl) h
  have H := Lib.hid hb2
  have HKP := Lib.hid (begun_keeps w b pl)
  have HBZ := Lib.hid (begun_size w b pl)
  have hlt := lt_of_block h
  have HR := Lib.hid (show Win 5 encB ((begunW w b pl).alloc (.cells #[encB 116] 5)) (.slice none 0 0) [] from .nil _ _ _)
  unfold begunW at HR
  clear h hb2 hs
  go_enter Tryz.func104, Tryz.ntmps104
  go_wp2_with fail
  refine (HB.out _).mono ?_
  rintro e w1 ⟨rfl, rfl⟩
  go_wp2_with fail
  refine (HWD.out _).mono ?_
  rintro e w1 ⟨rfl, rfl⟩
  go_wp2_with (at_builtin; refine append_win elemB rfl _ _ rfl rfl HR.out ⟨w1.heap.size, 0, none⟩ 1 116 rfl ?_ rfl ?_ ?_ ?_)
  · exact cell_new (begun_size w1 b pl).symm
  · decide
  · decide
  intro g off cap w' hrow hgb0 hgr
  have hb' := (hgr.block b (by rw [World.size_alloc]; have := HBZ.out; unfold begunW at this; omega) (fun e => by cases e)).trans ((Below.heap_alloc _ _ _ (lt_of_block H.out)).trans H.out)
  have HNG := Lib.hid (hrow.ne hb' (by decide))
  have hgb : w1.heap.size ≤ g := hgb0.elim (fun e => by cases e) (fun h => Nat.le_trans (by simp [World.setCell]) h.1)
  have HGB := Lib.hid hgb
  have HK := Lib.hid (((HKP.out.mono (G := fun k => k = b ∨ (Value.slice none 0 0).ownBlock = some k) (fun k hk => .inl hk)).alloc (.cells #[encB 116] 5)).grown hgr (fun k e => by cases e))
  have HROW := Lib.hid hrow
  obtain ⟨d0, d1, d2, d3, d4, d5, d6, d7, d8, d9, da, db, dc, dd, df⟩ := cells14 hb'
  have HB := Lib.hid hb'
  clear hb' hrow hgb hgb0 hgr c0 c1 c2 c3 c4 c5 c6 c7 c8 c9 ca cb cc cd cf
  go_wp2_with fail
  go_ret
  refine ⟨rfl, g, off, cap, ?_, ?_, .inr HGB.out, (HK.out.setCell (p := ⟨b, 6, none⟩) (.inl (.inl rfl)) _).setCell (p := ⟨b, 3, none⟩) (.inl (.inl rfl)) _⟩
  · exact set_at (set_at HB.out _) _
  · exact HROW.out.keeps (((Keeps.refl (fun k => k = b) w').setCell (p := ⟨b, 6, none⟩) (.inl rfl) _).setCell (p := ⟨b, 3, none⟩) (.inl rfl) _) (fun k e hk => HNG.out (e.trans (congrArg some hk)))

set_option maxHeartbeats 4000000 in
theorem outside_word102 (w : World) (b pl : Nat) (v1 v2 v3 v4 v5 v6 v7 v8 v9 va vb vc vd : Value) (h : w.heap[b]? = some (.cells #[.int .i64 pl, v1, v2, v3, v4, v5, v6, v7, v8, v9, va, vb, vc, vd] 228 (0, 0))) :
    Calls Tryz.prog 104 #[.pointer (some ⟨b, 0, none⟩), .int .u8 102] w fun e w' => RawRet w b (.slice none 0 0) [102] (fun v => #[.int .i64 pl, v1, v2, .func (.func 141) #[] #[], .bool true, .int .i64 pl, v, .int .i64 0, v8, v9, va, vb, vc, vd]) e w' := by
  obtain ⟨c0, c1, c2, c3, c4, c5, c6, c7, c8, c9, ca, cb, cc, cd, cf⟩ := cells14 h
  have HB := Lib.hid (blank_any 102)
  rw [show (((102 : UInt8).toNat : Nat) : Int) = 102 from rfl, show isBlank 102 = false from rfl] at HB
  have HWD := Lib.hid (lexWord_any 102)
  rw [show (((102 : UInt8).toNat : Nat) : Int) = 102 from rfl] at HWD
  obtain ⟨s, hs⟩ : ∃ s : ByteArray, (⟨(wordOf 102).toArray⟩ : ByteArray) = s := ⟨_, rfl⟩
  have hse : s.toList.isEmpty = false := by rw [← hs, Lib.toList_data]; decide
  have hsl : (s == ⟨#[]⟩) = false := by rw [← hs]; decide
  have hsn : (s != ⟨#[]⟩) = true := by rw [← hs]; decide
  rw [hs] at HWD
  have hb2 := begun_at (pl := pl) h
  have H := Lib.hid hb2
  have HKP := Lib.hid (begun_keeps w b pl)
  have HBZ := Lib.hid (begun_size w b pl)
  have hlt := lt_of_block h
  have HR := Lib.hid (show Win 5 encB ((begunW w b pl).alloc (.cells #[encB 102] 5)) (.slice none 0 0) [] from .nil _ _ _)
  unfold begunW at HR
  clear h hb2 hs
  go_enter Tryz.func104, Tryz.ntmps104
  go_wp2_with fail
  refine (HB.out _).mono ?_
  rintro e w1 ⟨rfl, rfl⟩
  go_wp2_with fail
  refine (HWD.out _).mono ?_
  rintro e w1 ⟨rfl, rfl⟩
  go_wp2_with (at_builtin; refine append_win elemB rfl _ _ rfl rfl HR.out ⟨w1.heap.size, 0, none⟩ 1 102 rfl ?_ rfl ?_ ?_ ?_)
  · exact cell_new (begun_size w1 b pl).symm
  · decide
  · decide
  intro g off cap w' hrow hgb0 hgr
  have hb' := (hgr.block b (by rw [World.size_alloc]; have := HBZ.out; unfold begunW at this; omega) (fun e => by cases e)).trans ((Below.heap_alloc _ _ _ (lt_of_block H.out)).trans H.out)
  have HNG := Lib.hid (hrow.ne hb' (by decide))
  have hgb : w1.heap.size ≤ g := hgb0.elim (fun e => by cases e) (fun h => Nat.le_trans (by simp [World.setCell]) h.1)
  have HGB := Lib.hid hgb
  have HK := Lib.hid (((HKP.out.mono (G := fun k => k = b ∨ (Value.slice none 0 0).ownBlock = some k) (fun k hk => .inl hk)).alloc (.cells #[encB 102] 5)).grown hgr (fun k e => by cases e))
  have HROW := Lib.hid hrow
  obtain ⟨d0, d1, d2, d3, d4, d5, d6, d7, d8, d9, da, db, dc, dd, df⟩ := cells14 hb'
  have HB := Lib.hid hb'
  clear hb' hrow hgb hgb0 hgr c0 c1 c2 c3 c4 c5 c6 c7 c8 c9 ca cb cc cd cf
  go_wp2_with fail
  go_ret
  refine ⟨rfl, g, off, cap, ?_, ?_, .inr HGB.out, (HK.out.setCell (p := ⟨b, 6, none⟩) (.inl (.inl rfl)) _).setCell (p := ⟨b, 3, none⟩) (.inl (.inl rfl)) _⟩
  · exact set_at (set_at HB.out _) _
  · exact HROW.out.keeps (((Keeps.refl (fun k => k = b) w').setCell (p := ⟨b, 6, none⟩) (.inl rfl) _).setCell (p := ⟨b, 3, none⟩) (.inl rfl) _) (fun k e hk => HNG.out (e.trans (congrArg some hk)))

set_option maxHeartbeats 4000000 in
theorem outside_num45 (w : World) (b pl s' : Nat) (v1 v2 v3 v4 v5 v6 v7 v8 v9 va vb vc vd : Value) (h : w.heap[b]? = some (.cells #[.int .i64 pl, v1, v2, v3, v4, v5, v6, v7, v8, v9, va, vb, vc, vd] 228 (0, 0))) (hn : numNext 0 45 = some s') :
    Calls Tryz.prog 104 #[.pointer (some ⟨b, 0, none⟩), .int .u8 45] w fun e w' => RawRet w b (.slice none 0 0) [45] (fun v => #[.int .i64 pl, v1, v2, .func (.func 139) #[] #[], .bool true, .int .i64 pl, v, .int .i64 s', v8, v9, va, vb, vc, vd]) e w' := by
  obtain ⟨c0, c1, c2, c3, c4, c5, c6, c7, c8, c9, ca, cb, cc, cd, cf⟩ := cells14 h
  have HB := Lib.hid (blank_any 45)
  rw [show (((45 : UInt8).toNat : Nat) : Int) = 45 from rfl, show isBlank 45 = false from rfl] at HB
  have hb2 := begun_at (pl := pl) h
  have hb3 := set_at hb2 (o := 3) (.func (.func 139) #[] #[])
  simp only [List.setIfInBounds_toArray, List.set_cons_zero, List.set_cons_succ] at hb3
  have hN := numeral_on _ b 0 s' _ _ _ _ _ _ _ _ _ _ _ _ (.slice none 0 0) 45 [] hb3 (by decide) hn (.nil _ _ _) (by decide)
  simp only [List.nil_append, Int.natCast_zero] at hN
  rw [show (((45 : UInt8).toNat : Nat) : Int) = 45 from rfl] at hN
  have HKP := Lib.hid ((begun_keeps w b pl).setCell (p := ⟨b, 3, none⟩) (.inl rfl) (.func (.func 139) #[] #[]))
  have HBZ := Lib.hid (begun_size w b pl)
  unfold begunW at hN
  have HN := Lib.hid hN
  clear h hb2 hb3 hN hn
  go_enter Tryz.func104, Tryz.ntmps104
  go_wp2_with fail
  refine (HB.out _).mono ?_
  rintro e w1 ⟨rfl, rfl⟩
  go_wp2_with fail
  refine (HN.out).mono ?_
  rintro e w2 ⟨rfl, g, off, cap, h2, hw2, hg2, hk2⟩
  have H2 := Lib.hid h2
  have HW2 := Lib.hid hw2
  have HG2 := Lib.hid hg2
  have HK2 := Lib.hid hk2
  clear h2 hw2 hg2 hk2
  go_wp2_with fail
  go_ret
  refine ⟨rfl, g, off, cap, H2.out, HW2.out, HG2.out.elim .inl (fun h => .inr (Nat.le_trans (by simp [World.setCell]) h)), (HKP.out.mono (fun k hk => .inl hk)).same HK2.out⟩

set_option maxHeartbeats 4000000 in
theorem outside_numD (w : World) (b pl s' : Nat) (v1 v2 v3 v4 v5 v6 v7 v8 v9 va vb vc vd : Value) (ch : UInt8) (h : w.heap[b]? = some (.cells #[.int .i64 pl, v1, v2, v3, v4, v5, v6, v7, v8, v9, va, vb, vc, vd] 228 (0, 0))) (h48 : 48 ≤ ch.toNat) (h57 : ch.toNat ≤ 57) (hn : numNext 0 ch = some s') :
    Calls Tryz.prog 104 #[.pointer (some ⟨b, 0, none⟩), .int .u8 ((ch.toNat : Nat) : Int)] w fun e w' => RawRet w b (.slice none 0 0) [ch] (fun v => #[.int .i64 pl, v1, v2, .func (.func 139) #[] #[], .bool true, .int .i64 pl, v, .int .i64 s', v8, v9, va, vb, vc, vd]) e w' := by
  obtain ⟨c0, c1, c2, c3, c4, c5, c6, c7, c8, c9, ca, cb, cc, cd, cf⟩ := cells14 h
  have HB := Lib.hid (blank_any ch)
  rw [isBlank_of h48] at HB
  obtain ⟨n123, m123, k123⟩ := byte_ne3 (c := ch) (d := 123) (n := 123) (by intro e; subst e; simp at h48 h57) rfl
  obtain ⟨n125, m125, k125⟩ := byte_ne3 (c := ch) (d := 125) (n := 125) (by intro e; subst e; simp at h48 h57) rfl
  obtain ⟨n91, m91, k91⟩ := byte_ne3 (c := ch) (d := 91) (n := 91) (by intro e; subst e; simp at h48 h57) rfl
  obtain ⟨n93, m93, k93⟩ := byte_ne3 (c := ch) (d := 93) (n := 93) (by intro e; subst e; simp at h48 h57) rfl
  obtain ⟨n58, m58, k58⟩ := byte_ne3 (c := ch) (d := 58) (n := 58) (by intro e; subst e; simp at h48 h57) rfl
  obtain ⟨n44, m44, k44⟩ := byte_ne3 (c := ch) (d := 44) (n := 44) (by intro e; subst e; simp at h48 h57) rfl
  obtain ⟨n34, m34, k34⟩ := byte_ne3 (c := ch) (d := 34) (n := 34) (by intro e; subst e; simp at h48 h57) rfl
  obtain ⟨n45, m45, k45⟩ := byte_ne3 (c := ch) (d := 45) (n := 45) (by intro e; subst e; simp at h48 h57) rfl
  have f48 : (48 : Int) ≤ ((ch.toNat : Nat) : Int) := by omega
  have f57 : ((ch.toNat : Nat) : Int) ≤ 57 := by omega
  have hb2 := begun_at (pl := pl) h
  have hb3 := set_at hb2 (o := 3) (.func (.func 139) #[] #[])
  simp only [List.setIfInBounds_toArray, List.set_cons_zero, List.set_cons_succ] at hb3
  have hN := numeral_on _ b 0 s' _ _ _ _ _ _ _ _ _ _ _ _ (.slice none 0 0) ch [] hb3 (by decide) hn (.nil _ _ _) (by decide)
  simp only [List.nil_append, Int.natCast_zero] at hN
  clear h48 h57
  have HKP := Lib.hid ((begun_keeps w b pl).setCell (p := ⟨b, 3, none⟩) (.inl rfl) (.func (.func 139) #[] #[]))
  have HBZ := Lib.hid (begun_size w b pl)
  unfold begunW at hN
  have HN := Lib.hid hN
  clear h hb2 hb3 hN hn
  go_enter Tryz.func104, Tryz.ntmps104
  go_wp2_with fail
  refine (HB.out _).mono ?_
  rintro e w1 ⟨rfl, rfl⟩
  go_wp2_with fail
  refine (HN.out).mono ?_
  rintro e w2 ⟨rfl, g, off, cap, h2, hw2, hg2, hk2⟩
  have H2 := Lib.hid h2
  have HW2 := Lib.hid hw2
  have HG2 := Lib.hid hg2
  have HK2 := Lib.hid hk2
  clear h2 hw2 hg2 hk2
  go_wp2_with fail
  go_ret
  refine ⟨rfl, g, off, cap, H2.out, HW2.out, HG2.out.elim .inl (fun h => .inr (Nat.le_trans (by simp [World.setCell]) h)), (HKP.out.mono (fun k hk => .inl hk)).same HK2.out⟩

set_option maxHeartbeats 4000000 in
theorem outside_badLow (w : World) (b pl : Nat) (v1 v2 v3 v4 v5 v6 v7 v8 v9 va vb vc vd : Value) (ch : UInt8) (h : w.heap[b]? = some (.cells #[.int .i64 pl, v1, v2, v3, v4, v5, v6, v7, v8, v9, va, vb, vc, vd] 228 (0, 0))) (hb : isBlank ch = false) (hm : isMark ch = false) (hq : ch ≠ 34) (h45 : ch ≠ 45) (hr : ch.toNat < 48) (hwd : wordOf ch = []) :
    Calls Tryz.prog 104 #[.pointer (some ⟨b, 0, none⟩), .int .u8 ((ch.toNat : Nat) : Int)] w fun e w' => e = .returned (.int .i64 94) ∧ w' = begunW w b pl := by
  obtain ⟨c0, c1, c2, c3, c4, c5, c6, c7, c8, c9, ca, cb, cc, cd, cf⟩ := cells14 h
  have HB := Lib.hid (blank_any ch)
  rw [hb] at HB
  have HWD := Lib.hid (lexWord_any ch)
  rw [hwd] at HWD
  obtain ⟨n123, m123, k123⟩ := byte_ne3 (c := ch) (d := 123) (n := 123) (by intro e; subst e; simp [isMark] at hm hq h45) rfl
  obtain ⟨n125, m125, k125⟩ := byte_ne3 (c := ch) (d := 125) (n := 125) (by intro e; subst e; simp [isMark] at hm hq h45) rfl
  obtain ⟨n91, m91, k91⟩ := byte_ne3 (c := ch) (d := 91) (n := 91) (by intro e; subst e; simp [isMark] at hm hq h45) rfl
  obtain ⟨n93, m93, k93⟩ := byte_ne3 (c := ch) (d := 93) (n := 93) (by intro e; subst e; simp [isMark] at hm hq h45) rfl
  obtain ⟨n58, m58, k58⟩ := byte_ne3 (c := ch) (d := 58) (n := 58) (by intro e; subst e; simp [isMark] at hm hq h45) rfl
  obtain ⟨n44, m44, k44⟩ := byte_ne3 (c := ch) (d := 44) (n := 44) (by intro e; subst e; simp [isMark] at hm hq h45) rfl
  obtain ⟨n34, m34, k34⟩ := byte_ne3 (c := ch) (d := 34) (n := 34) (by intro e; subst e; simp [isMark] at hm hq h45) rfl
  obtain ⟨n45, m45, k45⟩ := byte_ne3 (c := ch) (d := 45) (n := 45) (by intro e; subst e; simp [isMark] at hm hq h45) rfl
  have f48 : ¬ (48 : Int) ≤ ((ch.toNat : Nat) : Int) := by omega
  clear h hb hm hq h45 hr hwd
  go_enter Tryz.func104, Tryz.ntmps104
  go_wp2_with fail
  refine (HB.out _).mono ?_
  rintro e w1 ⟨rfl, rfl⟩
  go_wp2_with fail
  refine (HWD.out _).mono ?_
  rintro e w1 ⟨rfl, rfl⟩
  go_wp2_with fail
  go_ret
  exact ⟨rfl, rfl⟩

set_option maxHeartbeats 4000000 in
theorem outside_badUp (w : World) (b pl : Nat) (v1 v2 v3 v4 v5 v6 v7 v8 v9 va vb vc vd : Value) (ch : UInt8) (h : w.heap[b]? = some (.cells #[.int .i64 pl, v1, v2, v3, v4, v5, v6, v7, v8, v9, va, vb, vc, vd] 228 (0, 0))) (hb : isBlank ch = false) (hm : isMark ch = false) (hq : ch ≠ 34) (h45 : ch ≠ 45) (hr : 57 < ch.toNat) (hwd : wordOf ch = []) :
    Calls Tryz.prog 104 #[.pointer (some ⟨b, 0, none⟩), .int .u8 ((ch.toNat : Nat) : Int)] w fun e w' => e = .returned (.int .i64 94) ∧ w' = begunW w b pl := by
  obtain ⟨c0, c1, c2, c3, c4, c5, c6, c7, c8, c9, ca, cb, cc, cd, cf⟩ := cells14 h
  have HB := Lib.hid (blank_any ch)
  rw [hb] at HB
  have HWD := Lib.hid (lexWord_any ch)
  rw [hwd] at HWD
  obtain ⟨n123, m123, k123⟩ := byte_ne3 (c := ch) (d := 123) (n := 123) (by intro e; subst e; simp [isMark] at hm hq h45) rfl
  obtain ⟨n125, m125, k125⟩ := byte_ne3 (c := ch) (d := 125) (n := 125) (by intro e; subst e; simp [isMark] at hm hq h45) rfl
  obtain ⟨n91, m91, k91⟩ := byte_ne3 (c := ch) (d := 91) (n := 91) (by intro e; subst e; simp [isMark] at hm hq h45) rfl
  obtain ⟨n93, m93, k93⟩ := byte_ne3 (c := ch) (d := 93) (n := 93) (by intro e; subst e; simp [isMark] at hm hq h45) rfl
  obtain ⟨n58, m58, k58⟩ := byte_ne3 (c := ch) (d := 58) (n := 58) (by intro e; subst e; simp [isMark] at hm hq h45) rfl
  obtain ⟨n44, m44, k44⟩ := byte_ne3 (c := ch) (d := 44) (n := 44) (by intro e; subst e; simp [isMark] at hm hq h45) rfl
  obtain ⟨n34, m34, k34⟩ := byte_ne3 (c := ch) (d := 34) (n := 34) (by intro e; subst e; simp [isMark] at hm hq h45) rfl
  obtain ⟨n45, m45, k45⟩ := byte_ne3 (c := ch) (d := 45) (n := 45) (by intro e; subst e; simp [isMark] at hm hq h45) rfl
  have f48 : (48 : Int) ≤ ((ch.toNat : Nat) : Int) := by omega
  have f57 : ¬ ((ch.toNat : Nat) : Int) ≤ 57 := by omega
  clear h hb hm hq h45 hr hwd
  go_enter Tryz.func104, Tryz.ntmps104
  go_wp2_with fail
  refine (HB.out _).mono ?_
  rintro e w1 ⟨rfl, rfl⟩
  go_wp2_with fail
  refine (HWD.out _).mono ?_
  rintro e w1 ⟨rfl, rfl⟩
  go_wp2_with fail
  go_ret
  exact ⟨rfl, rfl⟩

end Go.Proofs.YtakkmiomhackiaaGreatDoor

/-
  Package lex, tenth part: within.
-/
namespace Go.Proofs.YtakkmiomhackiaaGreatDoor
open Go.RowKit
set_option maxRecDepth 100000

theorem within_escape (w : World) (b f pl : Nat) (v0 v1 v2 v3 v4 v5 v6 v7 v9 va vb vc vd : Value) (h : w.heap[b]? = some (.cells #[v0, v1, v2, v3, v4, v5, v6, v7, .pointer (some ⟨f, 0, none⟩), v9, va, vb, vc, vd] 228 (0, 0)))
    (hf : Feeds w f pl []) :
    Calls Tryz.prog 138 #[.pointer (some ⟨b, 0, none⟩), .int .u8 92] w fun e w' => StepRet w b 0 #[v0, v1, v2, .func (.func 168) #[] #[], v4, v5, v6, v7, .pointer (some ⟨f, 0, none⟩), v9, va, vb, vc, vd] e w' := by
  obtain ⟨c0, c1, c2, c3, c4, c5, c6, c7, c8, c9, ca, cb, cc, cd, cf⟩ := cells14 h
  have H := Lib.hid h
  have HF := Lib.hid (held_any w f pl [] hf)
  clear h hf
  go_enter Tryz.func138, Tryz.ntmps138
  go_wp2_with fail
  refine (HF.out).mono ?_
  rintro e w1 ⟨rfl, rfl⟩
  go_wp2_with fail
  go_ret
  exact ⟨rfl, set_at H.out _, (Keeps.refl (fun k => k = b) w1).setCell (p := ⟨b, 3, none⟩) (.inl rfl) _⟩

theorem within_control (w : World) (b f pl : Nat) (v0 v1 v2 v3 v4 v5 v6 v7 v9 va vb vc vd : Value) (ch : UInt8) (h : w.heap[b]? = some (.cells #[v0, v1, v2, v3, v4, v5, v6, v7, .pointer (some ⟨f, 0, none⟩), v9, va, vb, vc, vd] 228 (0, 0)))
    (hf : Feeds w f pl []) (hc : ch.toNat < 32) :
    Calls Tryz.prog 138 #[.pointer (some ⟨b, 0, none⟩), .int .u8 ((ch.toNat : Nat) : Int)] w fun e w' => e = .returned (.int .i64 91) ∧ w' = w := by
  obtain ⟨c0, c1, c2, c3, c4, c5, c6, c7, c8, c9, ca, cb, cc, cd, cf⟩ := cells14 h
  have HF := Lib.hid (held_any w f pl [] hf)
  obtain ⟨n1, n2, n3⟩ := byte_ne3 (c := ch) (d := 34) (n := 34) (by intro e; subst e; exact absurd hc (by decide)) rfl
  obtain ⟨m1, m2, m3⟩ := byte_ne3 (c := ch) (d := 92) (n := 92) (by intro e; subst e; exact absurd hc (by decide)) rfl
  have hlt : ((ch.toNat : Nat) : Int) < 32 := by omega
  clear h hf hc
  go_enter Tryz.func138, Tryz.ntmps138
  go_wp2_with fail
  refine (HF.out).mono ?_
  rintro e w1 ⟨rfl, rfl⟩
  go_wp2_with fail
  go_ret
  exact ⟨rfl, rfl⟩

set_option maxHeartbeats 4000000 in
theorem within_end (w : World) (b f fp pl st : Nat) (v1 v2 v3 v4 v6 v7 va vb vc saysV tokV : Value) (l : List UInt8) (toks : List Value) (h : w.heap[b]? = some (.cells #[.int .i64 pl, v1, v2, v3, v4, .int .i64 st, v6, v7, .pointer (some ⟨f, 0, none⟩), saysV, va, vb, vc, tokV] 228 (0, 0)))
    (hf : Feeds w f fp []) (hr : Win 5 encB w saysV l) (hw : Win 232 id w tokV toks) (htl : toks.length ≤ 1000) (hle : st ≤ pl + 1) (hpl : pl ≤ 1073741823) :
    Calls Tryz.prog 138 #[.pointer (some ⟨b, 0, none⟩), .int .u8 34] w fun e w' => ToldRet w b tokV toks (tokEnc (.str st (pl + 1 - st) l)) (fun v => #[.int .i64 pl, v1, v2, .func (.func 104) #[] #[], .bool false, .int .i64 st, v6, v7, .pointer (some ⟨f, 0, none⟩), saysV, va, vb, vc, v]) (.int .i64 0) e w' := by
  obtain ⟨c0, c1, c2, c3, c4, c5, c6, c7, c8, c9, ca, cb, cc, cd, cf⟩ := cells14 h
  have HF := Lib.hid (held_any w f fp [] hf)
  have H := Lib.hid h
  have HW := Lib.hid hw
  have HR := Lib.hid hr
  have hconv : ∀ w1, Below w.heap.size w w1 → (convert 22 9 saysV).run Tryz.prog w1 = .ok (.string ⟨l.toArray⟩) w1 := fun w1 hb => win_string (hr.keeps (Keeps.of_below (fun _ => False) hb) (fun _ _ => id))
  have hc0 := hconv w.drew (Below.refl _ _).drew
  have HC := Lib.hid hconv
  obtain ⟨s, hs⟩ : ∃ s : ByteArray, (⟨l.toArray⟩ : ByteArray) = s := ⟨_, rfl⟩
  rw [hs] at hc0 HC
  have HS := Lib.hid (span_any w.drew b _ st (pl + 1) h rfl (by omega) (by omega))
  rw [show ((pl + 1 : Nat) : Int) = (pl : Int) + 1 by omega] at HS
  obtain ⟨sz, hsz⟩ : ∃ sz, pl + 1 - st = sz := ⟨_, rfl⟩
  rw [hsz] at HS ⊢
  have HT := Lib.hid (fun w' (hb : Below w.heap.size w w') => tell_any w' b _ _ _ _ _ _ _ _ _ _ _ _ _ tokV 241 (.agg #[.int .i64 st, .int .i64 (sz : Int), .string s]) toks (keep h hb) (hw.keeps (Keeps.of_below (fun _ => False) hb) (fun _ _ => id)) htl)
  have hlt := lt_of_block h
  have hd9 : ∀ w1, Below w.heap.size w w1 → w1.cell? ⟨b, 9, none⟩ = some saysV := fun w1 hb => cell_at (keep h hb)
  have HD := Lib.hid hd9
  have HSS := Lib.hid hs
  have hpl1 : IntKind.i64.wrap ((pl : Int) + 1) = (pl : Int) + 1 := by rw [IntKind.wrap_i64]; omega
  clear h hf hr hw hconv hs hsz hd9
  go_enter Tryz.func138, Tryz.ntmps138
  go_wp2_with fail
  refine (HF.out).mono ?_
  rintro e w1 ⟨rfl, rfl⟩
  go_wp2_with fail
  go_region_with (first | (go_at_call 136; refine (HS.out).mono ?_; rintro e w2 ⟨rfl, hb⟩; have hb2 := (Below.refl w1.heap.size w1).drew.trans hb; have hk9 := HD.out w2 hb2; have hcx := HC.out w2 hb2) | (go_at_call 135; refine (HT.out _ hb2).mono ?_; rintro e w3 ⟨rfl, g, off, cap, h3, hw3, hg3, hk3⟩; have H3 := Lib.hid h3; have HW3 := Lib.hid hw3; have HG3 := Lib.hid hg3; have HK3 := Lib.hid hk3; clear h3 hw3 hg3 hk3))
  all_goals
    have HB2 := Lib.hid hb2
    clear hb hb2 hk9 hcx
    go_wp2_with fail
    go_ret
    have hte : tokEnc (.str st sz l) = .iface 241 (.agg #[.int .i64 st, .int .i64 (sz : Int), .string s]) := by rw [← HSS.out]; rfl
    rw [hte]
    exact ⟨rfl, g, off, cap, H3.out, HW3.out, HG3.out.elim .inl (fun h => .inr (Nat.le_trans HB2.out.size h)), (Keeps.of_below _ HB2.out).same HK3.out⟩

theorem feed_one (w : World) (f fp : Nat) (held : List UInt8) (ch : UInt8) (g : Nat) (h : Feeds w f fp held) (hg : w.heap[g]? = some (.cells #[encB ch] 5 (0, 0))) (hfp : fp ≤ 1073741824) :
    Calls Tryz.prog 169 #[.pointer (some ⟨f, 0, none⟩), .slice (some ⟨g, 0, none⟩) 1 1] w fun e w' => feedRet w' f fp 1 (feedOne held ch) e ∧ Keeps (fun k => k = f) w w' := by
  have hne : g ≠ f := by
    obtain ⟨_, a0, a1, a2, a3, h2, _⟩ := h
    intro e; subst e
    rw [hg] at h2
    simp at h2
  have := feed_any w f fp held [ch] (some ⟨g, 0, none⟩) 1 h (.inr ⟨g, 0, rfl, hne, lt_of_block hg, fun i x hi => by
    rw [cell_at hg]
    cases i with
    | zero => simp at hi; subst hi; rfl
    | succ i => simp at hi⟩) (by simp) hfp
  rw [show feedAll held [ch] = feedOne held ch from rfl] at this
  exact this

/-- A byte of a text that is not part of its end, an escape or a control. -/
def plainIn (held : List UInt8) (ch : UInt8) : Prop := held ≠ [] ∨ (ch ≠ 34 ∧ ch ≠ 92 ∧ 32 ≤ ch.toNat)
set_option maxHeartbeats 2000000 in
theorem within_bad (w : World) (b f fp : Nat) (v0 v1 v2 v3 v4 v5 v6 v7 v9 va vb vc vd : Value) (ch : UInt8) (held : List UInt8) (h : w.heap[b]? = some (.cells #[v0, v1, v2, v3, v4, v5, v6, v7, .pointer (some ⟨f, 0, none⟩), v9, va, vb, vc, vd] 228 (0, 0)))
    (hf : Feeds w f fp held) (hfp : fp ≤ 1073741824) (hc : plainIn held ch) (hfeed : feedOne held ch = none) :
    Calls Tryz.prog 138 #[.pointer (some ⟨b, 0, none⟩), .int .u8 ((ch.toNat : Nat) : Int)] w fun e w' => e = .returned (.int .i64 90) ∧ Keeps (fun k => k = f) w w' := by
  obtain ⟨c0, c1, c2, c3, c4, c5, c6, c7, c8, c9, ca, cb, cc, cd, cf⟩ := cells14 h
  have HF := Lib.hid (held_any w f fp held hf)
  have hal : Feeds (w.alloc (.cells #[encB ch] 5)) f fp held := hf.keeps (F := fun _ => False) ((Keeps.refl _ w).alloc _) id
  have HFD := Lib.hid (feed_one _ f fp held ch w.heap.size hal (heap_alloc_new w _) hfp)
  rw [hfeed] at HFD
  clear h hf hal hfeed
  unfold plainIn at hc
  rcases hc with hc | ⟨hc1, hc2, hc3⟩
  · have E1 : (((held.length : Nat) : Int) == 0) = false := by cases held <;> simp_all; omega
    obtain ⟨n, hn⟩ : ∃ n, held.length = n := ⟨_, rfl⟩
    rw [hn] at E1 HF
    clear hc hn
    go_enter Tryz.func138, Tryz.ntmps138
    go_wp2_with fail
    refine (HF.out).mono ?_
    rintro e w1 ⟨rfl, rfl⟩
    go_wp2_with fail
    refine (HFD.out).mono ?_
    rintro e w2 ⟨⟨p, rfl, hbad⟩, hk⟩
    have HK := Lib.hid hk
    clear hk hbad
    go_wp2_with fail
    go_ret
    exact ⟨rfl, ((Keeps.refl (fun k => k = f) w1).alloc (.cells #[encB ch] 5)).same HK.out⟩
  · by_cases hz : held = []
    · subst hz
      obtain ⟨n1, n2, n3⟩ := byte_ne3 (c := ch) (d := 34) (n := 34) hc1 rfl
      obtain ⟨m1, m2, m3⟩ := byte_ne3 (c := ch) (d := 92) (n := 92) hc2 rfl
      have hlt : ¬ ((ch.toNat : Nat) : Int) < 32 := by omega
      clear hc1 hc2 hc3
      go_enter Tryz.func138, Tryz.ntmps138
      go_wp2_with fail
      refine (HF.out).mono ?_
      rintro e w1 ⟨rfl, rfl⟩
      go_wp2_with fail
      refine (HFD.out).mono ?_
      rintro e w2 ⟨⟨p, rfl, hbad⟩, hk⟩
      have HK := Lib.hid hk
      clear hk hbad
      go_wp2_with fail
      go_ret
      exact ⟨rfl, ((Keeps.refl (fun k => k = f) w1).alloc (.cells #[encB ch] 5)).same HK.out⟩
    · have E1 : (((held.length : Nat) : Int) == 0) = false := by cases held <;> simp_all; omega
      obtain ⟨n, hn⟩ : ∃ n, held.length = n := ⟨_, rfl⟩
      rw [hn] at E1 HF
      clear hc1 hc2 hc3 hz hn
      go_enter Tryz.func138, Tryz.ntmps138
      go_wp2_with fail
      refine (HF.out).mono ?_
      rintro e w1 ⟨rfl, rfl⟩
      go_wp2_with fail
      refine (HFD.out).mono ?_
      rintro e w2 ⟨⟨p, rfl, hbad⟩, hk⟩
      have HK := Lib.hid hk
      clear hk hbad
      go_wp2_with fail
      go_ret
      exact ⟨rfl, ((Keeps.refl (fun k => k = f) w1).alloc (.cells #[encB ch] 5)).same HK.out⟩

set_option maxHeartbeats 2000000 in
theorem within_more (w : World) (b f fp : Nat) (v0 v1 v2 v3 v4 v5 v6 v7 va vb vc vd saysV : Value) (ch : UInt8) (held held' l : List UInt8) (h : w.heap[b]? = some (.cells #[v0, v1, v2, v3, v4, v5, v6, v7, .pointer (some ⟨f, 0, none⟩), saysV, va, vb, vc, vd] 228 (0, 0)))
    (hf : Feeds w f fp held) (hr : Win 5 encB w saysV l) (hl : l.length ≤ 1073741824) (hfp : fp ≤ 1073741824) (hc : plainIn held ch) (hfeed : feedOne held ch = some held') :
    Calls Tryz.prog 138 #[.pointer (some ⟨b, 0, none⟩), .int .u8 ((ch.toNat : Nat) : Int)] w fun e w' => e = .returned (.int .i64 0) ∧ ∃ g off cap, w'.heap[b]? = some (.cells #[v0, v1, v2, v3, v4, v5, v6, v7, .pointer (some ⟨f, 0, none⟩), .slice (some ⟨g, off, none⟩) (l.length + 1) cap, va, vb, vc, vd] 228 (0, 0)) ∧
      Win 5 encB w' (.slice (some ⟨g, off, none⟩) (l.length + 1) cap) (l ++ [ch]) ∧ (saysV.ownBlock = some g ∨ w.heap.size ≤ g) ∧ Feeds w' f (fp + 1) held' ∧ Keeps (fun k => k = b ∨ k = f ∨ saysV.ownBlock = some k) w w' := by
  obtain ⟨c0, c1, c2, c3, c4, c5, c6, c7, c8, c9, ca, cb, cc, cd, cf⟩ := cells14 h
  have HF := Lib.hid (held_any w f fp held hf)
  have hal : Feeds (w.alloc (.cells #[encB ch] 5)) f fp held := hf.keeps (F := fun _ => False) ((Keeps.refl _ w).alloc _) id
  have hfd := feed_one _ f fp held ch w.heap.size hal (heap_alloc_new w _) hfp
  rw [hfeed] at hfd
  have hbf : b ≠ f := by
    obtain ⟨_, a0, a1, a2, a3, h2, _⟩ := hf
    intro e; subst e
    rw [h] at h2
    simp at h2
  have hsf : ∀ k, saysV.ownBlock = some k → k ≠ f := by
    obtain ⟨_, a0, a1, a2, a3, h2, _⟩ := hf
    intro k hk e; subst e
    exact hr.ne h2 (by decide) hk
  have HNE := Lib.hid (hr.ne h (by decide))
  have HSF := Lib.hid hsf
  have HBF := Lib.hid hbf
  have hlt := lt_of_block h
  have hal1 : (w.alloc (.cells #[encB ch] 5)).heap[b]? = _ := (Below.heap_alloc w _ _ hlt).trans h
  have hal2 : Win 5 encB (w.alloc (.cells #[encB ch] 5)) saysV l := hr.keeps (F := fun _ => False) ((Keeps.refl _ w).alloc _) (fun _ _ => id)
  have HFD := Lib.hid (hfd.mono (R' := fun e w2 => e = .returned .nilIface ∧ Feeds w2 f (fp + 1) held' ∧ w2.heap[b]? = some (.cells #[v0, v1, v2, v3, v4, v5, v6, v7, .pointer (some ⟨f, 0, none⟩), saysV, va, vb, vc, vd] 228 (0, 0)) ∧ Win 5 encB (w2.alloc (.cells #[encB ch] 5)) saysV l ∧ Keeps (fun k => k = f) w w2 ∧ w.heap.size < w2.heap.size)
    fun e w2 ⟨⟨he, hf2⟩, hk⟩ => ⟨he, hf2, hk.blk hal1 hbf, (hal2.keeps hk (fun k e => hsf k e)).keeps (F := fun _ => False) ((Keeps.refl _ w2).alloc _) (fun _ _ => id), ((Keeps.refl (fun k => k = f) w).alloc (.cells #[encB ch] 5)).same hk, Nat.lt_of_lt_of_le (by simp) hk.size⟩)
  obtain ⟨ta, tc, htv⟩ := hr.shape
  clear h hf hal hfeed hfd hbf hsf hal1 hal2 hr
  subst htv
  have hway : (((held.length : Nat) : Int) == 0) = false ∨ (held = [] ∧ ch ≠ 34 ∧ ch ≠ 92 ∧ 32 ≤ ch.toNat) := by
    unfold plainIn at hc
    by_cases hz : held = []
    · exact .inr ⟨hz, (hc.resolve_left (fun h => h hz))⟩
    · left; cases held <;> simp_all; omega
  clear hc
  rcases hway with E1 | ⟨rfl, hc1, hc2, hc3⟩
  · obtain ⟨n, hn⟩ : ∃ n, held.length = n := ⟨_, rfl⟩
    rw [hn] at E1 HF
    clear hn
    go_enter Tryz.func138, Tryz.ntmps138
    go_wp2_with fail
    refine (HF.out).mono ?_
    rintro e w1 ⟨rfl, rfl⟩
    go_wp2_with fail
    refine (HFD.out).mono ?_
    rintro e w2 ⟨rfl, hf2, hb2, hr2, hk2, hs2⟩
    obtain ⟨d0, d1, d2, d3, d4, d5, d6, d7, d8, d9, da, db, dc, dd, df⟩ := cells14 hb2
    have HR2 := Lib.hid hr2
    have HF2 := Lib.hid hf2
    have HB2 := Lib.hid hb2
    have HK2 := Lib.hid hk2
    have HS2 := Lib.hid hs2
    have HLT := Lib.hid (lt_of_block hb2)
    clear hf2 hb2 hr2 hk2 hs2 c0 c1 c2 c3 c4 c5 c6 c7 c8 c9 ca cb cc cd cf hlt
    go_wp2_with (at_builtin; refine append_win elemB rfl _ _ rfl rfl HR2.out ⟨w2.heap.size, 0, none⟩ 1 ch rfl ?_ rfl ?_ ?_ ?_)
    · exact cell_new rfl
    · omega
    · unfold maxLen; omega
    intro g off cap w' hrow hgb0 hgr
    have hb' := (hgr.block b (by have := HLT.out; simp; omega) (fun e => HNE.out e.symm)).trans ((Below.heap_alloc w2 _ _ HLT.out).trans HB2.out)
    have HNG := Lib.hid (hrow.ne hb' (by decide))
    have HGB := Lib.hid (show (Value.slice ta l.length tc).ownBlock = some g ∨ w1.heap.size ≤ g from hgb0.elim .inl (fun h => .inr (Nat.le_trans (Nat.le_of_lt HS2.out) (Nat.le_trans (by simp) h.1))))
    have hfa : Feeds w' f (fp + 1) held' := by
      obtain ⟨hok, a0, a1, a2, a3, h2, h9⟩ := HF2.out
      exact ⟨hok, a0, a1, a2, a3, (hgr.block f (by have := lt_of_block h2; simp; omega) (fun e => HSF.out f e.symm rfl)).trans ((Below.heap_alloc w2 _ _ (lt_of_block h2)).trans h2), h9⟩
    have HFA := Lib.hid hfa
    have hkk : Keeps (fun k => k = b ∨ k = f ∨ (Value.slice ta l.length tc).ownBlock = some k) w1 w' := ((HK2.out.mono (fun k hk => .inr (.inl hk))).alloc (.cells #[encB ch] 5)).grown hgr (fun k e => .inl (.inr (.inr e)))
    have HKK := Lib.hid hkk
    have HROW := Lib.hid hrow
    obtain ⟨e0, e1, e2, e3, e4, e5, e6, e7, e8, e9, ea, eb, ec, ed, ef⟩ := cells14 hb'
    have HB3 := Lib.hid hb'
    clear hb' hrow hgb0 hgr hfa hkk d0 d1 d2 d3 d4 d5 d6 d7 d8 d9 da db dc dd df
    go_wp2_with fail
    go_ret
    have hks : Keeps (fun k => k = b) w' (w'.setCell ⟨b, 9, none⟩ (.slice (some ⟨g, off, none⟩) (l.length + 1) cap)) := (Keeps.refl (fun k => k = b) w').setCell (p := ⟨b, 9, none⟩) (.inl rfl) _
    exact ⟨rfl, g, off, cap, set_at HB3.out _, HROW.out.keeps hks (fun k e hk => HNG.out (e.trans (congrArg some hk))), HGB.out, HFA.out.keeps hks (fun e => HBF.out e.symm), HKK.out.setCell (p := ⟨b, 9, none⟩) (.inl (.inl rfl)) _⟩
  · obtain ⟨n1, n2, n3⟩ := byte_ne3 (c := ch) (d := 34) (n := 34) hc1 rfl
    obtain ⟨m1, m2, m3⟩ := byte_ne3 (c := ch) (d := 92) (n := 92) hc2 rfl
    have hlt2 : ¬ ((ch.toNat : Nat) : Int) < 32 := by omega
    clear hc1 hc2 hc3
    go_enter Tryz.func138, Tryz.ntmps138
    go_wp2_with fail
    refine (HF.out).mono ?_
    rintro e w1 ⟨rfl, rfl⟩
    go_wp2_with fail
    refine (HFD.out).mono ?_
    rintro e w2 ⟨rfl, hf2, hb2, hr2, hk2, hs2⟩
    obtain ⟨d0, d1, d2, d3, d4, d5, d6, d7, d8, d9, da, db, dc, dd, df⟩ := cells14 hb2
    have HR2 := Lib.hid hr2
    have HF2 := Lib.hid hf2
    have HB2 := Lib.hid hb2
    have HK2 := Lib.hid hk2
    have HS2 := Lib.hid hs2
    have HLT := Lib.hid (lt_of_block hb2)
    clear hf2 hb2 hr2 hk2 hs2 c0 c1 c2 c3 c4 c5 c6 c7 c8 c9 ca cb cc cd cf hlt
    go_wp2_with (at_builtin; refine append_win elemB rfl _ _ rfl rfl HR2.out ⟨w2.heap.size, 0, none⟩ 1 ch rfl ?_ rfl ?_ ?_ ?_)
    · exact cell_new rfl
    · omega
    · unfold maxLen; omega
    intro g off cap w' hrow hgb0 hgr
    have hb' := (hgr.block b (by have := HLT.out; simp; omega) (fun e => HNE.out e.symm)).trans ((Below.heap_alloc w2 _ _ HLT.out).trans HB2.out)
    have HNG := Lib.hid (hrow.ne hb' (by decide))
    have HGB := Lib.hid (show (Value.slice ta l.length tc).ownBlock = some g ∨ w1.heap.size ≤ g from hgb0.elim .inl (fun h => .inr (Nat.le_trans (Nat.le_of_lt HS2.out) (Nat.le_trans (by simp) h.1))))
    have hfa : Feeds w' f (fp + 1) held' := by
      obtain ⟨hok, a0, a1, a2, a3, h2, h9⟩ := HF2.out
      exact ⟨hok, a0, a1, a2, a3, (hgr.block f (by have := lt_of_block h2; simp; omega) (fun e => HSF.out f e.symm rfl)).trans ((Below.heap_alloc w2 _ _ (lt_of_block h2)).trans h2), h9⟩
    have HFA := Lib.hid hfa
    have hkk : Keeps (fun k => k = b ∨ k = f ∨ (Value.slice ta l.length tc).ownBlock = some k) w1 w' := ((HK2.out.mono (fun k hk => .inr (.inl hk))).alloc (.cells #[encB ch] 5)).grown hgr (fun k e => .inl (.inr (.inr e)))
    have HKK := Lib.hid hkk
    have HROW := Lib.hid hrow
    obtain ⟨e0, e1, e2, e3, e4, e5, e6, e7, e8, e9, ea, eb, ec, ed, ef⟩ := cells14 hb'
    have HB3 := Lib.hid hb'
    clear hb' hrow hgb0 hgr hfa hkk d0 d1 d2 d3 d4 d5 d6 d7 d8 d9 da db dc dd df
    go_wp2_with fail
    go_ret
    have hks : Keeps (fun k => k = b) w' (w'.setCell ⟨b, 9, none⟩ (.slice (some ⟨g, off, none⟩) (l.length + 1) cap)) := (Keeps.refl (fun k => k = b) w').setCell (p := ⟨b, 9, none⟩) (.inl rfl) _
    exact ⟨rfl, g, off, cap, set_at HB3.out _, HROW.out.keeps hks (fun k e hk => HNG.out (e.trans (congrArg some hk))), HGB.out, HFA.out.keeps hks (fun e => HBF.out e.symm), HKK.out.setCell (p := ⟨b, 9, none⟩) (.inl (.inl rfl)) _⟩
end Go.Proofs.YtakkmiomhackiaaGreatDoor

/-
  Package lex, thirteenth part: a step, from a lexer in memory to a lexer in memory.
-/
namespace Go.Proofs.YtakkmiomhackiaaGreatDoor
open Go.RowKit
set_option maxRecDepth 100000

section
variable {F G : Nat → Prop} {w w' : World} {b : Nat} {x : Lx} {dn : Bool} {toks : List Tok}
theorem LexAt.mono (h : LexAt F w b x dn toks) (hf : ∀ k, F k → G k) (hlt : ∀ k, G k → k < w.heap.size) : LexAt G w b x dn toks := by
  obtain ⟨hF, _, rawV, chV, saysV, tokV, hb, hw, hs⟩ := h
  exact ⟨hf _ hF, hlt, rawV, chV, saysV, tokV, hb, hw.mono hf, hs.mono hf⟩
theorem LexDead.mono {pl st : Nat} {errV : Value} (h : LexDead F w b pl st errV toks) (hf : ∀ k, F k → G k) (hlt : ∀ k, G k → k < w.heap.size) : LexDead G w b pl st errV toks := by
  obtain ⟨hF, _, v2, v3, v4, v6, v7, v8, v9, va, vb, vc, tokV, hb, hw⟩ := h
  exact ⟨hf _ hF, hlt, v2, v3, v4, v6, v7, v8, v9, va, vb, vc, tokV, hb, hw.mono hf⟩
theorem LexAt.dead (h : LexAt F w b x dn toks) : LexDead F w b x.place x.start .nilIface toks := by
  obtain ⟨hF, hlt, rawV, chV, saysV, tokV, hb, hw, hs⟩ := h
  exact ⟨hF, hlt, _, _, _, _, _, _, _, _, _, _, tokV, hb, hw⟩
theorem LexAt.block (h : LexAt F w b x dn toks) : F b := h.1
theorem LexAt.lt (h : LexAt F w b x dn toks) : ∀ k, F k → k < w.heap.size := h.2.1
end

/-- What a step leaves. -/
def StepPost (F : Nat → Prop) (w : World) (b : Nat) (pl : Nat) (toks : List Tok) (r : LxOut) (e : Ending) (w' : World) : Prop :=
  e = .returned (.int .i64 r.no) ∧ Keeps F w w' ∧ (r.no = 0 → LexAt (Since F w w') w' b r.lx false (toks ++ r.toks)) ∧ (r.no ≠ 0 → LexDead (Since F w w') w' b pl r.lx.start .nilIface (toks ++ r.toks))
theorem StepPost.good {F : Nat → Prop} {w w' : World} {b pl : Nat} {toks : List Tok} {y : Lx} {ts : List Tok} {e : Ending} (he : e = .returned (.int .i64 0)) (hk : Keeps F w w') (h : LexAt (Since F w w') w' b y false (toks ++ ts)) : StepPost F w b pl toks ⟨y, ts, 0⟩ e w' :=
  ⟨he, hk, fun _ => h, fun hn => absurd rfl hn⟩
theorem StepPost.bad {F : Nat → Prop} {w w' : World} {b pl no : Nat} {toks : List Tok} {y : Lx} {ts : List Tok} {e : Ending} (hno : no ≠ 0) (he : e = .returned (.int .i64 no)) (hk : Keeps F w w') (h : LexDead (Since F w w') w' b pl y.start .nilIface (toks ++ ts)) : StepPost F w b pl toks ⟨y, ts, no⟩ e w' :=
  ⟨he, hk, fun hn => absurd hn hno, fun _ => h⟩

/-- A token was told: what stands then, whatever the state's parts (there are none). -/
theorem told_at {F : Nat → Prop} {w w' : World} {b : Nat} {tokV t v : Value} {toks : List Tok} {tok : Tok} {e : Ending} {y : Lx} {rawV chV saysV : Value} (hF : F b) (hlt : ∀ k, F k → k < w.heap.size) (hw : WinIn F 232 id w tokV (toks.map tokEnc)) (ht : t = tokEnc tok) (hst : y.st = .outside) {c : Value → Array Value}
    (hc : ∀ u, c u = #[.int .i64 y.place, .nilIface, .bool false, .func (.func 104) #[] #[], .bool y.isIn, .int .i64 y.start, rawV, .int .i64 y.number, chV, saysV, .int .i64 y.digits, .int .i32 y.code, .int .i32 y.high, u])
    (h : ToldRet w b tokV (toks.map tokEnc) t c v e w') : e = .returned v ∧ Keeps F w w' ∧ LexAt (Since F w w') w' b y false (toks ++ [tok]) := by
  obtain ⟨he, g, off, cap, hb, hwin, hg, hk⟩ := h
  have hk2 : Keeps F w w' := hk.mono fun k hk => hk.elim (fun e => e ▸ hF) (fun e => hw.2 k e)
  refine ⟨he, hk2, .inl hF, since_lt hlt hk2.size, rawV, chV, saysV, _, by rw [hb, hc, hst]; rfl, ⟨?_, ?_⟩, ⟨fun hs => ?_, fun hs => ?_⟩⟩
  · rw [List.map_append, List.map_cons, List.map_nil, ← ht]; exact hwin
  · intro k hk3
    cases hk3
    exact hg.elim (fun e => .inl (hw.2 _ e)) (fun hle => .inr ⟨hle, hwin.lt rfl⟩)
  · rw [hst] at hs; exact absurd hs (by decide)
  · rw [hst] at hs; exact absurd hs (by decide)

/-- The bytes in hand were turned: what stands then in a word or a number. -/
theorem raw_at {F : Nat → Prop} {w w' : World} {b : Nat} {tokV rawV : Value} {toks : List Tok} {l : List UInt8} {e : Ending} {y : Lx} {chV saysV : Value} (hF : F b) (hlt : ∀ k, F k → k < w.heap.size) (hw : WinIn F 232 id w tokV (toks.map tokEnc)) (hr : ∀ k, rawV.ownBlock = some k → F k) (hst : y.st = .letter ∨ y.st = .numeral) (hl : y.raw = l) {c : Value → Array Value}
    (hbt : ∃ c0, w.heap[b]? = some (.cells c0 228 (0, 0))) (hrt : ∀ k, rawV.ownBlock = some k → tokV.ownBlock ≠ some k)
    (hc : ∀ u, c u = #[.int .i64 y.place, .nilIface, .bool false, .func (.func (stepNo y.st)) #[] #[], .bool y.isIn, .int .i64 y.start, u, .int .i64 y.number, chV, saysV, .int .i64 y.digits, .int .i32 y.code, .int .i32 y.high, tokV])
    (h : RawRet w b rawV l c e w') : e = .returned (.int .i64 0) ∧ Keeps F w w' ∧ LexAt (Since F w w') w' b y false toks := by
  obtain ⟨he, g, off, cap, hb, hwin, hg, hk⟩ := h
  have hk2 : Keeps F w w' := hk.mono fun k hk => hk.elim (fun e => e ▸ hF) (fun e => hr k e)
  obtain ⟨c0, hb0⟩ := hbt
  refine ⟨he, hk2, .inl hF, since_lt hlt hk2.size, _, chV, saysV, tokV, by rw [hb, hc], ⟨hw.1.keeps hk ?_, fun k hk3 => .inl (hw.2 k hk3)⟩, ⟨fun _ => ⟨by rw [hl]; exact hwin, ?_⟩, fun hs => ?_⟩⟩
  · intro k hk3 hk4
    rcases hk4 with rfl | hk4
    · exact hw.1.ne hb0 (by decide) hk3
    · exact hrt k hk4 hk3
  · intro k hk3
    cases hk3
    exact hg.elim (fun e => .inl (hr _ e)) (fun hle => .inr ⟨hle, hwin.lt rfl⟩)
  · rcases hst with hst | hst <;> (rw [hst] at hs; exact absurd hs (by decide))

theorem begun_word {c : UInt8} (h : wordOf c ≠ []) : c = 110 ∨ c = 116 ∨ c = 102 := by
  unfold wordOf at h
  split at h
  · exact .inl ‹_›
  · split at h
    · exact .inr (.inl ‹_›)
    · split at h
      · exact .inr (.inr ‹_›)
      · exact absurd rfl h
theorem mark_cases {c : UInt8} (h : isMark c = true) : c = 123 ∨ c = 125 ∨ c = 91 ∨ c = 93 ∨ c = 58 ∨ c = 44 := by
  simpa [isMark, or_assoc] using h

set_option maxHeartbeats 1000000 in
theorem step_outside (F : Nat → Prop) (w : World) (b : Nat) (x : Lx) (toks : List Tok) (c : UInt8) (h : LexAt F w b x false toks) (hst : x.st = .outside) (hpl : x.place ≤ 16777216) (htl : toks.length ≤ 1000) :
    Calls Tryz.prog 104 #[.pointer (some ⟨b, 0, none⟩), .int .u8 ((c.toNat : Nat) : Int)] w fun e w' => StepPost F w b x.place toks (outsideStep x c) e w' := by
  have h0 := h
  obtain ⟨hF, hlt, rawV, chV, saysV, tokV, hb, hw, hs⟩ := h
  have htl2 : (toks.map tokEnc).length ≤ 1000 := by simpa using htl
  unfold outsideStep
  by_cases hbl : isBlank c = true
  · rw [if_pos hbl]
    refine (outside_blank w b c hbl).mono ?_
    rintro e w' ⟨rfl, rfl⟩
    exact .good rfl (Keeps.refl _ _) (by rw [List.append_nil]; exact h0.mono (fun k hk => .inl hk) (since_lt hlt (Nat.le_refl _)))
  rw [if_neg hbl]
  simp only []
  by_cases hm : isMark c = true
  · rw [if_pos hm]
    have key : Calls Tryz.prog 104 #[.pointer (some ⟨b, 0, none⟩), .int .u8 ((c.toNat : Nat) : Int)] w fun e w' => ToldRet w b tokV (toks.map tokEnc) (tokEnc (.mark x.place c)) (fun v => #[.int .i64 x.place, .nilIface, .bool false, .func (.func 104) #[] #[], .bool false, .int .i64 x.place, .slice none 0 0, .int .i64 0, chV, saysV, .int .i64 x.digits, .int .i32 x.code, .int .i32 x.high, v]) (.int .i64 0) e w' := by
      rcases mark_cases hm with rfl | rfl | rfl | rfl | rfl | rfl
      · exact outside_mark123 w b x.place _ _ _ _ _ _ _ _ _ _ _ _ tokV _ hb hw.1 htl2 (by omega)
      · exact outside_mark125 w b x.place _ _ _ _ _ _ _ _ _ _ _ _ tokV _ hb hw.1 htl2 (by omega)
      · exact outside_mark91 w b x.place _ _ _ _ _ _ _ _ _ _ _ _ tokV _ hb hw.1 htl2 (by omega)
      · exact outside_mark93 w b x.place _ _ _ _ _ _ _ _ _ _ _ _ tokV _ hb hw.1 htl2 (by omega)
      · exact outside_mark58 w b x.place _ _ _ _ _ _ _ _ _ _ _ _ tokV _ hb hw.1 htl2 (by omega)
      · exact outside_mark44 w b x.place _ _ _ _ _ _ _ _ _ _ _ _ tokV _ hb hw.1 htl2 (by omega)
    refine key.mono fun e w' ht => ?_
    obtain ⟨he, hk, hl⟩ := told_at (y := Lx.told { x with isIn := true, start := x.place, raw := [], number := 0 }) (tok := .mark x.place c) hF hlt hw rfl rfl (fun u => rfl) ht
    exact .good he hk hl
  rw [if_neg hm]
  by_cases hq : c = 34
  · rw [if_pos hq]
    subst hq
    refine (outside_quote w b x.place _ _ _ _ _ _ _ _ _ _ _ _ tokV hb).mono ?_
    rintro e w' ⟨rfl, f, hf1, hf2, hb2, hfe, hk⟩
    have hk2 : Keeps F w w' := hk.mono (fun k e => e ▸ hF)
    exact .good rfl hk2 ⟨.inl hF, since_lt hlt hk.size, _, _, _, tokV, hb2, by rw [List.append_nil]; exact hw.keeps (G := fun k => k = b) hk (fun k e hk => hw.1.ne hb (by decide) (e.trans (congrArg some hk))), ⟨fun hs => absurd hs (by simp), fun _ => ⟨.nil _ _ _ _, f, 0, rfl, hfe, .inr ⟨hf1, hf2⟩, Nat.zero_le _⟩⟩⟩
  rw [if_neg hq]
  by_cases hnum : c = 45 ∨ isD c = true
  · rw [if_pos hnum]
    obtain ⟨s', hs'⟩ : ∃ s', numNext 0 c = some s' := by
      rcases hnum with rfl | hd
      · exact ⟨1, rfl⟩
      · by_cases h48 : c = 48
        · subst h48; exact ⟨2, rfl⟩
        · have h45 : c ≠ 45 := by intro e; subst e; exact absurd hd (by decide)
          exact ⟨3, by simp [numNext, h48, h45, hd]⟩
    unfold numFirst
    rw [hs']
    have key : Calls Tryz.prog 104 #[.pointer (some ⟨b, 0, none⟩), .int .u8 ((c.toNat : Nat) : Int)] w fun e w' => RawRet w b (.slice none 0 0) [c] (fun v => #[.int .i64 x.place, .nilIface, .bool false, .func (.func 139) #[] #[], .bool true, .int .i64 x.place, v, .int .i64 s', chV, saysV, .int .i64 x.digits, .int .i32 x.code, .int .i32 x.high, tokV]) e w' := by
      rcases hnum with rfl | hd
      · exact outside_num45 w b x.place s' _ _ _ _ _ _ _ _ _ _ _ _ _ hb hs'
      · have : 48 ≤ c.toNat ∧ c.toNat ≤ 57 := by simpa [isD] using hd
        exact outside_numD w b x.place s' _ _ _ _ _ _ _ _ _ _ _ _ _ c hb this.1 this.2 hs'
    refine key.mono fun e w' ht => ?_
    obtain ⟨he, hk, hl⟩ := raw_at (y := { x with isIn := true, start := x.place, st := .numeral, number := s', raw := [c] }) hF hlt hw (fun k e => by cases e) (.inr rfl) rfl ⟨_, hb⟩ (fun k e => by cases e) (fun u => rfl) ht
    exact .good he hk (by rw [List.append_nil]; exact hl)
  rw [if_neg hnum]
  by_cases hwd : wordOf c ≠ []
  · rw [if_pos hwd]
    have key : Calls Tryz.prog 104 #[.pointer (some ⟨b, 0, none⟩), .int .u8 ((c.toNat : Nat) : Int)] w fun e w' => RawRet w b (.slice none 0 0) [c] (fun v => #[.int .i64 x.place, .nilIface, .bool false, .func (.func 141) #[] #[], .bool true, .int .i64 x.place, v, .int .i64 0, chV, saysV, .int .i64 x.digits, .int .i32 x.code, .int .i32 x.high, tokV]) e w' := by
      rcases begun_word hwd with rfl | rfl | rfl
      · exact outside_word110 w b x.place _ _ _ _ _ _ _ _ _ _ _ _ _ hb
      · exact outside_word116 w b x.place _ _ _ _ _ _ _ _ _ _ _ _ _ hb
      · exact outside_word102 w b x.place _ _ _ _ _ _ _ _ _ _ _ _ _ hb
    refine key.mono fun e w' ht => ?_
    obtain ⟨he, hk, hl⟩ := raw_at (y := { x with isIn := true, start := x.place, number := 0, st := .letter, raw := [c] }) hF hlt hw (fun k e => by cases e) (.inl rfl) rfl ⟨_, hb⟩ (fun k e => by cases e) (fun u => rfl) ht
    exact .good he hk (by rw [List.append_nil]; exact hl)
  rw [if_neg hwd]
  have hwd' : wordOf c = [] := by simpa using hwd
  have hbl' : isBlank c = false := by simpa using hbl
  have hm' : isMark c = false := by simpa using hm
  have h45 : c ≠ 45 := fun e => hnum (.inl e)
  have key : Calls Tryz.prog 104 #[.pointer (some ⟨b, 0, none⟩), .int .u8 ((c.toNat : Nat) : Int)] w fun e w' => e = .returned (.int .i64 94) ∧ w' = begunW w b x.place := by
    by_cases h48 : c.toNat < 48
    · exact outside_badLow w b x.place _ _ _ _ _ _ _ _ _ _ _ _ _ c hb hbl' hm' hq h45 h48 hwd'
    · have h57 : 57 < c.toNat := by
        apply Nat.lt_of_not_le
        intro hle
        exact hnum (.inr (by simp [isD]; omega))
      exact outside_badUp w b x.place _ _ _ _ _ _ _ _ _ _ _ _ _ c hb hbl' hm' hq h45 h57 hwd'
  refine key.mono ?_
  rintro e w' ⟨rfl, rfl⟩
  have hk : Keeps (fun k => k = b) w (begunW w b x.place) := begun_keeps w b x.place
  exact .bad (by decide) rfl (hk.mono (fun k e => e ▸ hF)) ⟨.inl hF, since_lt hlt hk.size, _, _, _, _, _, _, _, _, _, _, tokV, begun_at hb, by rw [List.append_nil]; exact hw.keeps (G := fun k => k = b) hk (fun k e hk => hw.1.ne hb (by decide) (e.trans (congrArg some hk)))⟩
end Go.Proofs.YtakkmiomhackiaaGreatDoor
