/-
  Several texts in one, each under its own head. Conditions: none.
-/
import Derived.Test.YtakkmiomhackiaaGreatDoorLa11
import Derived.Test.YtakkmiomhackiaaGreatDoorLa07
import Derived.Test.YtakkmiomhackiaaGreatDoorLa05
import Derived.Test.YtakkmiomhackiaaGreatDoorLa04
import Derived.Test.YtakkmiomhackiaaGreatDoorLa02
set_option linter.all false

/-
  Package lex, fifteenth part: take.
-/
namespace Go.Proofs.YtakkmiomhackiaaGreatDoor
open Go.RowKit
set_option maxRecDepth 100000

/-- What take and Feed hand back: what is wrong; the lexer behind it. -/
def TakePost (F : Nat → Prop) (w : World) (b : Nat) (toks : List Tok) (t : Lx × List Tok × Nat × Nat) (errV : Nat → Nat → Value) (e : Ending) (w' : World) : Prop :=
  Keeps F w w' ∧ (t.2.2.1 = 0 → e = .returned .nilIface ∧ LexAt (Since F w w') w' b t.1 false (toks ++ t.2.1)) ∧
  (t.2.2.1 ≠ 0 → e = .returned (.iface 151 (.agg #[.int .i64 t.2.2.1, .int .i64 t.2.2.2])) ∧ ∃ pl st, LexDead (Since F w w') w' b pl st (errV t.2.2.1 t.2.2.2) (toks ++ t.2.1))

theorem outsideStep_place (x : Lx) (c : UInt8) : (outsideStep x c).lx.place = x.place := by
  unfold outsideStep
  split
  · rfl
  · simp only []
    split
    · rfl
    · split
      · rfl
      · split
        · unfold numFirst; split <;> rfl
        · split <;> rfl
theorem step_place (x : Lx) (c : UInt8) : (x.step c).lx.place = x.place := by
  unfold Lx.step
  split
  · exact outsideStep_place x c
  · unfold letterStep
    simp only []
    split
    · split <;> rfl
    · rfl
  · unfold numeralStep
    split
    · rfl
    · split
      · unfold Lx.finish
        cases bitsOf x.raw with
        | none => rfl
        | some b => exact outsideStep_place x.told c
      · rfl
  · unfold withinStep
    split
    · rfl
    · split
      · rfl
      · split
        · rfl
        · split <;> rfl
  · unfold escapeStep
    split
    · rfl
    · split <;> rfl
  · unfold digitStep
    split
    · rfl
    · split
      · rfl
      · simp only []
        split
        · unfold Lx.whole
          split
          · rfl
          · split <;> rfl
        · rfl
  · unfold slashStep; split <;> rfl
  · unfold letterUStep; split <;> rfl
theorem LexAt.place_set {F : Nat → Prop} {w : World} {b : Nat} {x : Lx} {dn : Bool} {toks : List Tok} (h : LexAt F w b x dn toks) (n : Nat) : LexAt F (w.setCell ⟨b, 0, none⟩ (.int .i64 (n : Int))) b { x with place := n } dn toks := by
  obtain ⟨hF, hlt, rawV, chV, saysV, tokV, hb, hw, hs⟩ := h
  have hk : Keeps (fun k => k = b) w (w.setCell ⟨b, 0, none⟩ (.int .i64 (n : Int))) := (Keeps.refl (fun k => k = b) w).setCell (p := ⟨b, 0, none⟩) (.inl rfl) _
  refine ⟨hF, fun k hk' => Nat.lt_of_lt_of_le (hlt k hk') hk.size, rawV, chV, saysV, tokV, set_at hb _, ⟨hw.1.keeps hk (fun k e hk => hw.1.ne hb (by decide) (e.trans (congrArg some hk))), hw.2⟩, ⟨fun h => ?_, fun h => ?_⟩⟩
  · have hr := hs.raw h
    exact ⟨hr.1.keeps hk (fun k e hk => hr.1.ne hb (by decide) (e.trans (congrArg some hk))), hr.2⟩
  · obtain ⟨h1, f, pl, h2, h3, h4, h5⟩ := hs.text h
    refine ⟨⟨h1.1.keeps hk (fun k e hk => h1.1.ne hb (by decide) (e.trans (congrArg some hk))), h1.2⟩, f, pl, h2, h3.keeps hk (fun e => ?_), h4, h5⟩
    subst e
    obtain ⟨_, a0, a1, a2, a3, h9, _⟩ := h3
    rw [h9] at hb
    simp at hb

set_option maxHeartbeats 4000000 in
theorem take_of (k : Nat) (hk : k = 104 ∨ k = 141 ∨ k = 139 ∨ k = 138 ∨ k = 168 ∨ k = 188 ∨ k = 223 ∨ k = 241) (F : Nat → Prop) (w : World) (b : Nat) (x : Lx) (toks : List Tok) (c : UInt8) (hno : stepNo x.st = k) (h : LexAt F w b x false toks) (hpl : x.place ≤ 16777216)
    (hstep : x.place < 16777216 → Calls Tryz.prog k #[.pointer (some ⟨b, 0, none⟩), .int .u8 ((c.toNat : Nat) : Int)] w fun e w' => StepPost F w b x.place toks (x.step c) e w') :
    Calls Tryz.prog 115 #[.pointer (some ⟨b, 0, none⟩), .int .u8 ((c.toNat : Nat) : Int)] w fun e w' => TakePost F w b toks (x.take c) (fun _ _ => .nilIface) e w' := by
  have h0 := h
  obtain ⟨hF, hlt, rawV, chV, saysV, tokV, hb, hw, hs⟩ := h
  obtain ⟨c0, c1, c2, c3, c4, c5, c6, c7, c8, c9, ca, cb, cc, cd, cf⟩ := cells14 hb
  rw [hno] at c3
  have HL := Lib.hid h0
  have HLT := Lib.hid hlt
  have HF := Lib.hid hF
  obtain ⟨pl, hple⟩ : ∃ pl, x.place = pl := ⟨_, rfl⟩
  have HPL := Lib.hid hple
  rw [hple] at c0 hpl hstep
  unfold Lx.take
  by_cases hp : x.place = 16777216
  · rw [if_pos hp]
    rw [hple] at hp
    subst hp
    have HN := Lib.hid hno
    clear h0 hb hw hs hF hlt hstep hple c3 hno
    go_enter Tryz.func115, Tryz.ntmps115
    go_wp2_with fail
    go_ret
    exact ⟨Keeps.refl _ _, fun e => absurd e (show ¬ (3 : Nat) = 0 by decide), fun _ => ⟨by show Ending.returned _ = Ending.returned (.iface 151 (.agg #[.int .i64 ((3 : Nat) : Int), .int .i64 (x.place : Int)])); rw [HPL.out]; rfl, x.place, x.start, by rw [List.append_nil]; exact HL.out.dead.mono (fun k hk => .inl hk) (since_lt HLT.out (Nat.le_refl _))⟩⟩
  · rw [if_neg hp]
    have hlt2 : pl < 16777216 := by omega
    have hpl1 : ((pl : Int) == 16777216) = false := by simp; omega
    obtain ⟨r, hr⟩ : ∃ r, x.step c = r := ⟨_, rfl⟩
    have hS := hstep hlt2
    rw [hr] at hS ⊢
    simp only []
    obtain ⟨t, ht⟩ : ∃ t, (if r.no = 0 then (({ r.lx with place := x.place + 1 } : Lx), r.toks, 0, 0) else (r.lx, r.toks, r.no, if r.no = 41 then r.lx.start else x.place)) = t := ⟨_, rfl⟩
    rw [ht]
    have HT0 := Lib.hid (fun (hn : r.no = 0) => ht.symm.trans (if_pos hn))
    have HT1 := Lib.hid (fun (hn : r.no ≠ 0) => ht.symm.trans (if_neg hn))
    have HS := Lib.hid hS
    have hrp : r.lx.place = pl := by rw [← hr, step_place, hple]
    have HX := Lib.hid hrp
    clear h0 hb hw hs hF hlt hstep hple hp hS hr hno hrp ht
    rcases hk with rfl | rfl | rfl | rfl | rfl | rfl | rfl | rfl
    all_goals
      go_enter Tryz.func115, Tryz.ntmps115
      go_wp2_with fail
      refine (HS.out).mono ?_
      rintro e w2 ⟨rfl, hk2, hg, hd⟩
      by_cases hn : r.no = 0
      · have hg2 := hg hn
        obtain ⟨hF2, hlt3, rawV2, chV2, saysV2, tokV2, hb2, hw2, hs2⟩ := hg hn
        rw [HX.out] at hb2
        obtain ⟨d0, d1, d2, d3, d4, d5, d6, d7, d8, d9, da, db, dc, dd, df⟩ := cells14 hb2
        have HG := Lib.hid hg2
        have HK := Lib.hid hk2
        have HN := Lib.hid hn
        have HF2 := Lib.hid hF2
        rw [hn]
        clear hF2 hlt3 hb2 hw2 hs2 hg hd hg2 hk2 hn c0 c1 c2 c3 c4 c5 c6 c7 c8 c9 ca cb cc cd cf
        go_wp2_with fail
        go_ret
        have hte := HT0.out HN.out
        subst hte
        refine ⟨HK.out.setCell (p := ⟨b, 0, none⟩) (.inl HF.out) _, fun _ => ⟨rfl, ?_⟩, fun e => ?_⟩
        · have := HG.out.place_set (x.place + 1)
          rw [show ((pl : Int) + 1) = ((x.place + 1 : Nat) : Int) by rw [HPL.out]; omega]
          exact this.mono (fun k hk => hk.mono_r (by simp [World.setCell])) (fun k hk => this.lt k (hk.mono_r (by simp [World.setCell])))
        · exact absurd rfl e
      · obtain ⟨n, hne⟩ : ∃ n, r.no = n := ⟨_, rfl⟩
        have hd2 := hd hn
        obtain ⟨hF2, hlt3, v2, v3, v4, v6, v7, v8, v9, va, vb, vc, tokV2, hb2, hw2⟩ := hd hn
        obtain ⟨d0, d1, d2, d3, d4, d5, d6, d7, d8, d9, da, db, dc, dd, df⟩ := cells14 hb2
        have HD := Lib.hid hd2
        have HK := Lib.hid hk2
        have HN := Lib.hid hn
        have HNE := Lib.hid hne
        rw [hne] at hn
        rw [hne]
        have n0 : ((n : Int) == 0) = false := by simp; omega
        have hn41 : (((n : Int) == 41) = true ∧ n = 41) ∨ (((n : Int) == 41) = false ∧ n ≠ 41) := by
          by_cases h41 : n = 41
          · exact .inl ⟨by simp; omega, h41⟩
          · exact .inr ⟨by simp; omega, h41⟩
        clear hF2 hlt3 hb2 hw2 hg hd hd2 hk2 hn hne c0 c1 c2 c3 c4 c5 c6 c7 c8 c9 ca cb cc cd cf
        rcases hn41 with ⟨e41, h41⟩ | ⟨e41, h41⟩
        · have H41 := Lib.hid h41
          clear h41
          go_wp2_with fail
          go_ret
          have hte := HT1.out HN.out
          rw [if_pos (HNE.out.trans H41.out), HNE.out] at hte
          subst hte
          exact ⟨HK.out, fun e => absurd (HNE.out.trans e) HN.out, fun _ => ⟨rfl, _, _, HD.out⟩⟩
        · have H41 := Lib.hid h41
          clear h41
          go_wp2_with fail
          go_ret
          have hte := HT1.out HN.out
          rw [if_neg (fun e => H41.out (HNE.out.symm.trans e)), HNE.out, HPL.out] at hte
          subst hte
          exact ⟨HK.out, fun e => absurd (HNE.out.trans e) HN.out, fun _ => ⟨rfl, _, _, HD.out⟩⟩
end Go.Proofs.YtakkmiomhackiaaGreatDoor

/-
  Package lex, sixteenth part: Feed of one byte.
-/
namespace Go.Proofs.YtakkmiomhackiaaGreatDoor
open Go.RowKit
set_option maxRecDepth 100000

def spotV (no at_ : Nat) : Value := .iface 151 (.agg #[.int .i64 no, .int .i64 at_])
section
variable {F : Nat → Prop} {w : World} {b : Nat} {x : Lx} {dn : Bool} {toks : List Tok}
theorem LexAt.cells (h : LexAt F w b x dn toks) : w.cell? ⟨b, 0, none⟩ = some (.int .i64 x.place) ∧ w.cell? ⟨b, 1, none⟩ = some .nilIface ∧ w.cell? ⟨b, 2, none⟩ = some (.bool dn) ∧ w.cell? ⟨b, 4, none⟩ = some (.bool x.isIn) ∧ w.cell? ⟨b, 5, none⟩ = some (.int .i64 x.start) ∧ ∀ o, w.frozen? ⟨b, o, none⟩ = false := by
  obtain ⟨hF, hlt, rawV, chV, saysV, tokV, hb, _⟩ := h
  obtain ⟨c0, c1, c2, c3, c4, c5, c6, c7, c8, c9, ca, cb, cc, cd, cf⟩ := cells14 hb
  exact ⟨c0, c1, c2, c4, c5, cf⟩
theorem LexAt.err_set (h : LexAt F w b x dn toks) : LexAt F (w.setCell ⟨b, 1, none⟩ .nilIface) b x dn toks := by
  obtain ⟨hF, hlt, rawV, chV, saysV, tokV, hb, hw, hs⟩ := h
  have hk : Keeps (fun k => k = b) w (w.setCell ⟨b, 1, none⟩ .nilIface) := (Keeps.refl (fun k => k = b) w).setCell (p := ⟨b, 1, none⟩) (.inl rfl) _
  refine ⟨hF, fun k hk' => Nat.lt_of_lt_of_le (hlt k hk') hk.size, rawV, chV, saysV, tokV, set_at hb _, ⟨hw.1.keeps hk (fun k e hk => hw.1.ne hb (by decide) (e.trans (congrArg some hk))), hw.2⟩, ⟨fun h => ?_, fun h => ?_⟩⟩
  · have hr := hs.raw h
    exact ⟨hr.1.keeps hk (fun k e hk => hr.1.ne hb (by decide) (e.trans (congrArg some hk))), hr.2⟩
  · obtain ⟨h1, f, pl, h2, h3, h4, h5⟩ := hs.text h
    refine ⟨⟨h1.1.keeps hk (fun k e hk => h1.1.ne hb (by decide) (e.trans (congrArg some hk))), h1.2⟩, f, pl, h2, h3.keeps hk (fun e => ?_), h4, h5⟩
    subst e
    obtain ⟨_, a0, a1, a2, a3, h9, _⟩ := h3
    rw [h9] at hb
    simp at hb
theorem LexDead.err_set {pl st : Nat} {errV : Value} (h : LexDead F w b pl st errV toks) (u : Value) : LexDead F (w.setCell ⟨b, 1, none⟩ u) b pl st u toks := by
  obtain ⟨hF, hlt, v2, v3, v4, v6, v7, v8, v9, va, vb, vc, tokV, hb, hw⟩ := h
  have hk : Keeps (fun k => k = b) w (w.setCell ⟨b, 1, none⟩ u) := (Keeps.refl (fun k => k = b) w).setCell (p := ⟨b, 1, none⟩) (.inl rfl) _
  exact ⟨hF, fun k hk' => Nat.lt_of_lt_of_le (hlt k hk') hk.size, v2, v3, v4, v6, v7, v8, v9, va, vb, vc, tokV, set_at hb _, ⟨hw.1.keeps hk (fun k e hk => hw.1.ne hb (by decide) (e.trans (congrArg some hk))), hw.2⟩⟩
theorem LexDead.cells {pl st : Nat} {errV : Value} (h : LexDead F w b pl st errV toks) : w.cell? ⟨b, 1, none⟩ = some errV ∧ ∀ o, w.frozen? ⟨b, o, none⟩ = false := by
  obtain ⟨hF, hlt, v2, v3, v4, v6, v7, v8, v9, va, vb, vc, tokV, hb, hw⟩ := h
  obtain ⟨c0, c1, c2, c3, c4, c5, c6, c7, c8, c9, ca, cb, cc, cd, cf⟩ := cells14 hb
  exact ⟨c1, cf⟩
end

set_option maxHeartbeats 4000000 in
theorem lexFeed_any (F : Nat → Prop) (w : World) (b g off : Nat) (x : Lx) (toks : List Tok) (c : UInt8) (h : LexAt F w b x false toks) (hc : w.cell? ⟨g, off, none⟩ = some (.int .u8 ((c.toNat : Nat) : Int)))
    (htake : Calls Tryz.prog 115 #[.pointer (some ⟨b, 0, none⟩), .int .u8 ((c.toNat : Nat) : Int)] w fun e w' => TakePost F w b toks (x.take c) (fun _ _ => .nilIface) e w') :
    Calls Tryz.prog 82 #[.pointer (some ⟨b, 0, none⟩), .slice (some ⟨g, off, none⟩) 1 1] w fun e w' => TakePost F w b toks (x.take c) spotV e w' := by
  obtain ⟨c0, c1, c2, c4, c5, cf⟩ := h.cells
  have HF := Lib.hid h.1
  have HT := Lib.hid htake
  obtain ⟨t, ht⟩ : ∃ t, x.take c = t := ⟨_, rfl⟩
  rw [ht] at HT ⊢
  clear h htake ht
  go_enter Tryz.func82, Tryz.ntmps82
  go_wp2_with fail
  go_loopw [5] (fun i wr => (i = .int .i64 0 ∧ wr = w) ∨ (i = .int .i64 1 ∧ Hid (∃ e, TakePost F w b toks t spotV e wr))) (fun i _ => 1 - (intOf i).toNat)
  case atStart => exact .inl ⟨rfl, rfl⟩
  case round =>
    rcases hrel with ⟨rfl, rfl⟩ | ⟨rfl, hfin⟩
    · go_wp2_with fail
      refine (HT.out).mono ?_
      rintro e w2 ⟨hk, hg, hd⟩
      by_cases hn : t.2.2.1 = 0
      · obtain ⟨rfl, hl⟩ := hg hn
        obtain ⟨d0, d1, d2, d4, d5, df⟩ := hl.cells
        have HL := Lib.hid hl
        have HK := Lib.hid hk
        have HN := Lib.hid hn
        clear hg hd hl hk hn c0 c1 c2 c4 c5 cf hc
        go_wp2_with fail
        go_roundw
        case rel =>
          refine .inr ⟨by go_num, Lib.hid ⟨.returned .nilIface, HK.out.setCell (p := ⟨b, 1, none⟩) (.inl HF.out) _, fun _ => ⟨rfl, ?_⟩, fun e => absurd HN.out e⟩⟩
          exact (HL.out.err_set).mono (fun k hk => hk.mono_r (by simp [World.setCell])) (fun k hk => HL.out.err_set.lt k (hk.mono_r (by simp [World.setCell])))
        case measure => simp [intOf]
      · obtain ⟨rfl, pl, st, hl⟩ := hd hn
        obtain ⟨d1, df⟩ := hl.cells
        have HL := Lib.hid hl
        have HK := Lib.hid hk
        have HN := Lib.hid hn
        clear hg hd hl hk hn c0 c1 c2 c4 c5 cf hc
        go_wp2_with fail
        go_roundw
        case rel =>
          refine .inr ⟨by go_num, Lib.hid ⟨.returned (spotV t.2.2.1 t.2.2.2), HK.out.setCell (p := ⟨b, 1, none⟩) (.inl HF.out) _, fun e => absurd e HN.out, fun _ => ⟨rfl, pl, st, ?_⟩⟩⟩
          exact (HL.out.err_set _).mono (fun k hk => hk.mono_r (by simp [World.setCell])) (fun k hk => (HL.out.err_set (spotV t.2.2.1 t.2.2.2)).2.1 k (hk.mono_r (by simp [World.setCell])))
        case measure => simp [intOf]
    · have HFIN := Lib.hid hfin.out
      obtain ⟨e0, hk, hg, hd⟩ := hfin.out
      clear hfin
      by_cases hn : t.2.2.1 = 0
      · obtain ⟨rfl, hl⟩ := hg hn
        obtain ⟨d0, d1, d2, d4, d5, df⟩ := hl.cells
        have HL := Lib.hid hl
        have HK := Lib.hid hk
        have HN := Lib.hid hn
        clear hg hd hl hk hn c0 c1 c2 c4 c5 cf hc
        go_wp2_with fail
        go_ret
        exact ⟨HK.out, fun _ => ⟨rfl, HL.out⟩, fun e => absurd HN.out e⟩
      · obtain ⟨rfl, pl, st, hl⟩ := hd hn
        obtain ⟨d1, df⟩ := hl.cells
        have HL := Lib.hid hl
        have HK := Lib.hid hk
        have HN := Lib.hid hn
        clear hg hd hl hk hn c0 c1 c2 c4 c5 cf hc
        go_wp2_with fail
        go_ret
        exact ⟨HK.out, fun e => absurd e HN.out, fun _ => ⟨rfl, pl, st, HL.out⟩⟩
end Go.Proofs.YtakkmiomhackiaaGreatDoor

/-
  Package lex, fourteenth part: a step in a text.
-/
namespace Go.Proofs.YtakkmiomhackiaaGreatDoor
open Go.RowKit
set_option maxRecDepth 100000

theorem feeds_ne {w : World} {f pl b : Nat} {held : List UInt8} {c : Array Value} {T : TypeId} (h : Feeds w f pl held) (hb : w.heap[b]? = some (.cells c T (0, 0))) (hT : T ≠ 305) : f ≠ b := by
  obtain ⟨_, a0, a1, a2, a3, h2, _⟩ := h
  intro e; subst e
  rw [h2] at hb
  simp at hb
  exact hT hb.2.symm
theorem feeds_win {α : Type} {e : Nat} {enc : α → Value} {w : World} {f pl : Nat} {held : List UInt8} {v : Value} {l : List α} (h : Feeds w f pl held) (hw : Win e enc w v l) (hT : e ≠ 305) : v.ownBlock ≠ some f := by
  obtain ⟨_, a0, a1, a2, a3, h2, _⟩ := h
  exact hw.ne h2 (fun e => hT e.symm)
theorem win_win {α β : Type} {e e' : Nat} {enc : α → Value} {enc' : β → Value} {w : World} {v v' : Value} {l : List α} {l' : List β} (h : Win e enc w v l) (h' : Win e' enc' w v' l') (hT : e ≠ e') {k : Nat} (hk : v.ownBlock = some k) : v'.ownBlock ≠ some k := by
  rcases h with ⟨rfl, _⟩ | ⟨g, off, cap, cur, rfl, hg, _⟩
  · cases hk
  · cases hk; exact h'.ne hg hT

set_option maxHeartbeats 1000000 in
theorem step_within (F : Nat → Prop) (w : World) (b : Nat) (x : Lx) (toks : List Tok) (c : UInt8) (h : LexAt F w b x false toks) (hst : x.st = .within) (hst2 : x.start ≤ x.place) (hsay : x.says.length ≤ 1073741824) (hpl : x.place ≤ 16777216) (htl : toks.length ≤ 1000) :
    Calls Tryz.prog 138 #[.pointer (some ⟨b, 0, none⟩), .int .u8 ((c.toNat : Nat) : Int)] w fun e w' => StepPost F w b x.place toks (withinStep x c) e w' := by
  have h0 := h
  obtain ⟨hF, hlt, rawV, chV, saysV, tokV, hb, hw, hs⟩ := h
  obtain ⟨hsw, f, fp, rfl, hfe, hFf, hfp⟩ := hs.text (by rw [hst]; rfl)
  have htl2 : (toks.map tokEnc).length ≤ 1000 := by simpa using htl
  have hfb : f ≠ b := feeds_ne hfe hb (by decide)
  unfold withinStep
  by_cases h1 : x.held = [] ∧ c = 34
  · rw [if_pos h1]
    obtain ⟨hh, rfl⟩ := h1
    rw [hh] at hfe
    refine (within_end w b f fp x.place x.start _ _ _ _ _ _ _ _ _ saysV tokV x.says _ hb hfe hsw.1 hw.1 htl2 (by omega) (by omega)).mono fun e w' ht => ?_
    obtain ⟨he, hk, hl⟩ := told_at (y := x.told) (tok := .str x.start (x.place + 1 - x.start) x.says) hF hlt hw rfl rfl (fun u => rfl) ht
    exact .good he hk hl
  rw [if_neg h1]
  by_cases h2 : x.held = [] ∧ c = 92
  · rw [if_pos h2]
    obtain ⟨hh, rfl⟩ := h2
    have hfe' := hfe
    rw [hh] at hfe'
    refine (within_escape w b f fp _ _ _ _ _ _ _ _ _ _ _ _ _ hb hfe').mono ?_
    rintro e w' ⟨rfl, hb2, hk⟩
    have hk2 : Keeps F w w' := hk.mono (fun k e => e ▸ hF)
    have hfe2 := hfe.keeps hk hfb
    refine .good rfl hk2 ⟨.inl hF, since_lt hlt hk.size, _, _, _, tokV, hb2, by rw [List.append_nil]; exact hw.keeps (G := fun k => k = b) hk (fun k e hk => hw.1.ne hb (by decide) (e.trans (congrArg some hk))), ⟨fun hs => ?_, fun _ => ⟨hsw.keeps (G := fun k => k = b) hk (fun k e hk => hsw.1.ne hb (by decide) (e.trans (congrArg some hk))), f, fp, rfl, hfe2, .inl hFf, hfp⟩⟩⟩
    simp at hs
  rw [if_neg h2]
  by_cases h3 : x.held = [] ∧ c.toNat < 32
  · rw [if_pos h3]
    rw [h3.1] at hfe
    refine (within_control w b f fp _ _ _ _ _ _ _ _ _ _ _ _ _ c hb hfe h3.2).mono ?_
    rintro e w' ⟨rfl, rfl⟩
    exact .bad (by decide) rfl (Keeps.refl _ _) (by rw [List.append_nil]; exact h0.dead.mono (fun k hk => .inl hk) (since_lt hlt (Nat.le_refl _)))
  rw [if_neg h3]
  have hpi : plainIn x.held c := by
    unfold plainIn
    by_cases hh : x.held = []
    · exact .inr ⟨fun e => h1 ⟨hh, e⟩, fun e => h2 ⟨hh, e⟩, Nat.le_of_not_lt (fun e => h3 ⟨hh, e⟩)⟩
    · exact .inl hh
  cases hfo : feedOne x.held c with
  | none =>
    refine (within_bad w b f fp _ _ _ _ _ _ _ _ _ _ _ _ _ c _ hb hfe (by omega) hpi hfo).mono ?_
    rintro e w' ⟨rfl, hk⟩
    have hk2 : Keeps F w w' := hk.mono (fun k e => e ▸ hFf)
    exact .bad (by decide) rfl hk2 ⟨.inl hF, since_lt hlt hk.size, _, _, _, _, _, _, _, _, _, _, tokV, hk.blk hb (fun e => hfb e.symm), by rw [List.append_nil]; exact hw.keeps (G := fun k => k = f) hk (fun k e hk => feeds_win hfe hw.1 (by decide) (e.trans (congrArg some hk)))⟩
  | some h' =>
    refine (within_more w b f fp _ _ _ _ _ _ _ _ _ _ _ _ saysV c _ h' x.says hb hfe hsw.1 hsay (by omega) hpi hfo).mono ?_
    rintro e w' ⟨rfl, g, off, cap, hb2, hwin, hg, hfe2, hk⟩
    have hk2 : Keeps F w w' := hk.mono (fun k e => by
      rcases e with rfl | rfl | e
      · exact hF
      · exact hFf
      · exact hsw.2 k e)
    refine .good rfl hk2 ⟨.inl hF, since_lt hlt hk.size, rawV, _, _, tokV, by rw [hst] at hb2 ⊢; simpa using hb2, ?_, ⟨fun hs => ?_, fun _ => ⟨?_, f, fp + 1, rfl, hfe2, .inl hFf, ?_⟩⟩⟩
    · rw [List.append_nil]
      refine ⟨hw.1.keeps hk ?_, fun k hk3 => .inl (hw.2 k hk3)⟩
      intro k hk3 hk4
      rcases hk4 with rfl | rfl | hk4
      · exact hw.1.ne hb (by decide) hk3
      · exact feeds_win hfe hw.1 (by decide) hk3
      · exact win_win hsw.1 hw.1 (by decide) hk4 hk3
    · simp [hst] at hs
    · refine ⟨by simpa using hwin, ?_⟩
      intro k hk3
      cases hk3
      exact hg.elim (fun e => .inl (hsw.2 _ e)) (fun hle => .inr ⟨hle, hwin.lt rfl⟩)
    · simp; omega
end Go.Proofs.YtakkmiomhackiaaGreatDoor

/-
  Package dec, fifth part: stripped, bare, parsed.
-/
namespace Go.Proofs.YtakkmiomhackiaaGreatDoor
open Go.RowKit
set_option maxRecDepth 100000

def dmlV (d : Dml) : Value := .agg #[.bool d.neg, .string ⟨d.digits.toArray⟩, .int .i64 d.exp]

set_option maxHeartbeats 1000000 in
theorem stripped_any (neg : Bool) (ds : ByteArray) (e : Int) (w : World) (hs : ds.size ≤ 1073741824) (he : -4611686018427387904 ≤ e) (he2 : e ≤ 4611686018427387904) :
    Calls Tryz.prog 229 #[.agg #[.bool neg, .string ds, .int .i64 e]] w fun r w' => r = .returned (dmlV (stripOf neg ds.data.toList e)) ∧ Below w.heap.size w w' := by
  have C1 := fun w => Tryz.strings_TrimLeft_one ds 48 (by decide) w
  have hl1 : (Lib.trimLeftB ds.data.toList 48).length ≤ ds.size := by
    have := (List.dropWhile_sublist (fun x : UInt8 => x == 48) (l := ds.data.toList)).length_le
    rw [Array.length_toList] at this; exact this
  unfold stripOf
  generalize Lib.trimLeftB ds.data.toList 48 = T at *
  obtain ⟨t, ht⟩ : ∃ t : ByteArray, (⟨T.toArray⟩ : ByteArray) = t := ⟨_, rfl⟩
  have htT : T = t.data.toList := by rw [← ht]
  simp only [ht] at C1
  clear ht
  subst htT
  have hts : t.data.toList.length = t.size := Array.length_toList
  have htl : t.size ≤ ds.size := by omega
  have C2 := fun w => Tryz.strings_TrimRight_one t 48 (by decide) w (by omega)
  have hl2 : (Lib.trimRightB t.data.toList 48).length ≤ t.size := by
    unfold Lib.trimRightB
    rw [List.length_reverse]
    have := (List.dropWhile_sublist (fun x : UInt8 => x == 48) (l := t.data.toList.reverse)).length_le
    rw [List.length_reverse, Array.length_toList] at this; exact this
  generalize Lib.trimRightB t.data.toList 48 = U at *
  obtain ⟨u, hu⟩ : ∃ u : ByteArray, (⟨U.toArray⟩ : ByteArray) = u := ⟨_, rfl⟩
  have huU : U = u.data.toList := by rw [← hu]
  simp only [hu] at C2
  clear hu
  subst huU
  have hus : u.data.toList.length = u.size := Array.length_toList
  have hul : u.size ≤ t.size := by omega
  rw [hts, hus]
  have D1 := Lib.hid C1
  have D2 := Lib.hid C2
  clear hus hts hl1 hl2 C1 C2
  obtain ⟨g1, g2, hb⟩ := new2 w (.cells #[.bool neg, .string ds, .int .i64 e] 339) (.cells #[.bool false, .string ⟨#[]⟩, .int .i64 0] 339)
  have HB := Lib.hid hb
  clear hb g1 g2
  by_cases hu0 : u.data.toList = []
  · have hie : u.toList.isEmpty = true := by rw [Lib.toList_data, hu0]; rfl
    rw [if_pos hu0]
    clear hu0
    go_enter Tryz.func229, Tryz.ntmps229
    go_wp2_with fail
    refine (D1.out _).mono ?_
    rintro r w1 ⟨rfl, rfl⟩
    go_wp2_with fail
    refine (D2.out _).mono ?_
    rintro r w1 ⟨rfl, rfl⟩
    go_wp2_with fail
    exact bodyPost_ret (v := dmlV ⟨false, [], 0⟩) (by simp [results, Tryz.results229, go_sem, dmlV]) rfl ⟨rfl, (HB.out)⟩
  · have hie : u.toList.isEmpty = false := by
      rw [Lib.toList_data]
      cases hc : u.data.toList with
      | nil => exact absurd hc hu0
      | cons x r => rfl
    rw [if_neg hu0]
    clear hu0
    have hw1 : IntKind.i64.wrap (e + (t.size : Int)) = e + (t.size : Int) := by rw [IntKind.wrap_i64]; omega
    have hw2 : IntKind.i64.wrap (e + (t.size : Int) - (u.size : Int)) = e + (t.size : Int) - (u.size : Int) := by rw [IntKind.wrap_i64]; omega
    go_enter Tryz.func229, Tryz.ntmps229
    go_wp2_with fail
    refine (D1.out _).mono ?_
    rintro r w1 ⟨rfl, rfl⟩
    go_wp2_with fail
    refine (D2.out _).mono ?_
    rintro r w1 ⟨rfl, rfl⟩
    go_wp2_with fail
    exact bodyPost_ret (v := dmlV ⟨neg, u.data.toList, e + t.size - u.size⟩) (by simp [results, Tryz.results229, go_sem, dmlV]) rfl ⟨rfl, (new2 _ _ _).2.2⟩

theorem exp_far {a : Nat} (h : 35184372088832 ≤ a) (l : List UInt8) : l.foldl expStep a = a := by
  induction l with
  | nil => rfl
  | cons c l ih => rw [List.foldl_cons, show expStep a c = a from if_neg (by omega)]; exact ih
theorem exp_bound {a : Nat} {l : List UInt8} (ha : a ≤ 351843720888329) (hl : ∀ c ∈ l, c.toNat ≤ 57) : l.foldl expStep a ≤ 351843720888329 := by
  induction l generalizing a with
  | nil => exact ha
  | cons c l ih =>
    rw [List.foldl_cons]
    refine ih ?_ (fun x hx => hl x (by simp [hx]))
    have := hl c (by simp)
    unfold expStep; split <;> omega
theorem exp_take {l : List UInt8} {i : Nat} (h : i < l.length) : (l.take (i + 1)).foldl expStep 0 = expStep ((l.take i).foldl expStep 0) l[i] := by
  rw [List.take_add_one, List.getElem?_eq_getElem h, List.foldl_append]; rfl

set_option maxHeartbeats 1000000 in
theorem bare_any (neg under : Bool) (wh be ex : ByteArray) (w : World) (hs : wh.size + be.size ≤ 1073741824) (hx : ∀ c ∈ ex.data.toList, 48 ≤ c.toNat ∧ c.toNat ≤ 57) (hxl : ex.size ≤ 1073741824) :
    Calls Tryz.prog 209 #[.agg #[.bool neg, .string wh, .string be, .bool under, .string ex]] w fun r w' => r = .returned (dmlV (bareOf ⟨neg, wh.data.toList, be.data.toList, under, ex.data.toList⟩)) ∧ Below w.heap.size w w' := by
  have HX := Lib.hid hx
  clear hx
  go_enter Tryz.func209, Tryz.ntmps209
  go_wp2_with fail
  go_loop [3, 4] (fun a i => ∃ k : Nat, k ≤ ex.size ∧ i = .int .i64 k ∧ a = .int .i64 ((ex.data.toList.take k).foldl expStep 0 : Nat)) (fun _ i => ex.size - (intOf i).toNat)
  case atStart => exact ⟨0, by omega, rfl, rfl⟩
  case round =>
    obtain ⟨k, hk, rfl, rfl⟩ := hrel
    have hb := exp_bound (a := 0) (l := ex.data.toList.take k) (by omega) (fun c hc => (HX.out c (List.mem_of_mem_take hc)).2)
    by_cases hk2 : k < ex.size
    · by_cases hfar : (ex.data.toList.take k).foldl expStep 0 < 35184372088832
      · have hd := HX.out ex[k] (Array.getElem_mem_toList hk2)
        have hst : (((ex.data.toList.take (k + 1)).foldl expStep 0 : Nat) : Int) = 10 * (((ex.data.toList.take k).foldl expStep 0 : Nat) : Int) + (((ex[k].toNat : Nat) : Int) - 48) := by
          rw [exp_take (by rw [Array.length_toList]; exact hk2), expStep, if_pos hfar]
          have : (ex.data.toList[k]'(by rw [Array.length_toList]; exact hk2)) = ex[k] := rfl
          rw [this]; omega
        have HST := Lib.hid hst
        clear hst
        obtain ⟨a, ha⟩ : ∃ a, (ex.data.toList.take k).foldl expStep 0 = a := ⟨_, rfl⟩
        simp only [ha] at *
        clear ha
        have hfar2 : (a : Int) < 35184372088832 := by omega
        obtain ⟨dg, hdg⟩ : ∃ d, ex[k].toNat = d := ⟨_, rfl⟩
        simp only [hdg] at hd HST
        go_wp2_with fail
        refine ⟨⟨k + 1, by omega, by go_num, congrArg (Value.int .i64) HST.out.symm⟩, by simp [intOf]; omega⟩
      · have hE : expOf ex.data.toList = (ex.data.toList.take k).foldl expStep 0 := by
          unfold expOf
          conv => lhs; rw [← List.take_append_drop k ex.data.toList, List.foldl_append]
          exact exp_far (by omega) _
        have HE := Lib.hid hE
        clear hE
        obtain ⟨a, ha⟩ : ∃ a, (ex.data.toList.take k).foldl expStep 0 = a := ⟨_, rfl⟩
        simp only [ha] at *
        clear ha
        have hfar2 : ¬ (a : Int) < 35184372088832 := by omega
        cases under with
        | false =>
          have hw1 : IntKind.i64.wrap ((a : Int) - (be.size : Int)) = (a : Int) - (be.size : Int) := by rw [IntKind.wrap_i64]; omega
          go_wp2_with fail
          have hcat : (wh ++ be).data.toList = wh.data.toList ++ be.data.toList := by simp
          have hres : stripOf neg (wh ++ be).data.toList ((a : Int) - (be.size : Int)) = bareOf ⟨neg, wh.data.toList, be.data.toList, false, ex.data.toList⟩ := by
            rw [hcat]; unfold bareOf; simp only [HE.out, Array.length_toList]; rfl
          have HC := fun w => (stripped_any neg (wh ++ be) ((a : Int) - (be.size : Int)) w (by rw [ByteArray.size_append]; omega) (by omega) (by omega))
          simp only [hres] at HC
          clear hcat hres
          obtain ⟨⟨dn, dd, de⟩, hD⟩ : ∃ d, bareOf ⟨neg, wh.data.toList, be.data.toList, false, ex.data.toList⟩ = d := ⟨_, rfl⟩
          simp only [hD] at HC
          have HD := Lib.hid hD
          clear hD
          refine (HC _).mono ?_
          rintro r w2 ⟨rfl, hb⟩
          obtain ⟨h1, h2, hbw, hsz⟩ := after2 hb
          obtain ⟨c0, c1, c2, cf⟩ := cells3 h2
          clear h1 h2 hb
          unfold dmlV
          go_wp2_with fail
          exact bodyPost_ret (v := dmlV ⟨dn, dd, de⟩) (by simp [results, Tryz.results209, go_sem, dmlV, c0, c1, c2]) rfl ⟨by rw [HD.out], ((hbw.setCell (Nat.le_succ _) _).setCell (Nat.le_succ _) _).setCell (Nat.le_succ _) _⟩
        | true =>
          have hw0 : IntKind.i64.wrap (-(a : Int)) = -(a : Int) := by rw [IntKind.wrap_i64]; omega
          have hw1 : IntKind.i64.wrap (-(a : Int) - (be.size : Int)) = -(a : Int) - (be.size : Int) := by rw [IntKind.wrap_i64]; omega
          go_wp2_with fail
          have hcat : (wh ++ be).data.toList = wh.data.toList ++ be.data.toList := by simp
          have hres : stripOf neg (wh ++ be).data.toList (-(a : Int) - (be.size : Int)) = bareOf ⟨neg, wh.data.toList, be.data.toList, true, ex.data.toList⟩ := by
            rw [hcat]; unfold bareOf; simp only [HE.out, Array.length_toList]; rfl
          have HC := fun w => (stripped_any neg (wh ++ be) (-(a : Int) - (be.size : Int)) w (by rw [ByteArray.size_append]; omega) (by omega) (by omega))
          simp only [hres] at HC
          clear hcat hres
          obtain ⟨⟨dn, dd, de⟩, hD⟩ : ∃ d, bareOf ⟨neg, wh.data.toList, be.data.toList, true, ex.data.toList⟩ = d := ⟨_, rfl⟩
          simp only [hD] at HC
          have HD := Lib.hid hD
          clear hD
          refine (HC _).mono ?_
          rintro r w2 ⟨rfl, hb⟩
          obtain ⟨h1, h2, hbw, hsz⟩ := after2 hb
          obtain ⟨c0, c1, c2, cf⟩ := cells3 h2
          clear h1 h2 hb
          unfold dmlV
          go_wp2_with fail
          exact bodyPost_ret (v := dmlV ⟨dn, dd, de⟩) (by simp [results, Tryz.results209, go_sem, dmlV, c0, c1, c2]) rfl ⟨by rw [HD.out], ((hbw.setCell (Nat.le_succ _) _).setCell (Nat.le_succ _) _).setCell (Nat.le_succ _) _⟩
    · have hE : expOf ex.data.toList = (ex.data.toList.take k).foldl expStep 0 := by
        rw [List.take_of_length_le (by rw [Array.length_toList]; exact Nat.not_lt.1 hk2)]; rfl
      have HE := Lib.hid hE
      clear hE
      obtain ⟨a, ha⟩ : ∃ a, (ex.data.toList.take k).foldl expStep 0 = a := ⟨_, rfl⟩
      simp only [ha] at *
      clear ha
      cases under with
      | false =>
        have hw1 : IntKind.i64.wrap ((a : Int) - (be.size : Int)) = (a : Int) - (be.size : Int) := by rw [IntKind.wrap_i64]; omega
        go_wp2_with fail
        have hcat : (wh ++ be).data.toList = wh.data.toList ++ be.data.toList := by simp
        have hres : stripOf neg (wh ++ be).data.toList ((a : Int) - (be.size : Int)) = bareOf ⟨neg, wh.data.toList, be.data.toList, false, ex.data.toList⟩ := by
          rw [hcat]; unfold bareOf; simp only [HE.out, Array.length_toList]; rfl
        have HC := fun w => (stripped_any neg (wh ++ be) ((a : Int) - (be.size : Int)) w (by rw [ByteArray.size_append]; omega) (by omega) (by omega))
        simp only [hres] at HC
        clear hcat hres
        obtain ⟨⟨dn, dd, de⟩, hD⟩ : ∃ d, bareOf ⟨neg, wh.data.toList, be.data.toList, false, ex.data.toList⟩ = d := ⟨_, rfl⟩
        simp only [hD] at HC
        have HD := Lib.hid hD
        clear hD
        refine (HC _).mono ?_
        rintro r w2 ⟨rfl, hb⟩
        obtain ⟨h1, h2, hbw, hsz⟩ := after2 hb
        obtain ⟨c0, c1, c2, cf⟩ := cells3 h2
        clear h1 h2 hb
        unfold dmlV
        go_wp2_with fail
        exact bodyPost_ret (v := dmlV ⟨dn, dd, de⟩) (by simp [results, Tryz.results209, go_sem, dmlV, c0, c1, c2]) rfl ⟨by rw [HD.out], ((hbw.setCell (Nat.le_succ _) _).setCell (Nat.le_succ _) _).setCell (Nat.le_succ _) _⟩
      | true =>
        have hw0 : IntKind.i64.wrap (-(a : Int)) = -(a : Int) := by rw [IntKind.wrap_i64]; omega
        have hw1 : IntKind.i64.wrap (-(a : Int) - (be.size : Int)) = -(a : Int) - (be.size : Int) := by rw [IntKind.wrap_i64]; omega
        go_wp2_with fail
        have hcat : (wh ++ be).data.toList = wh.data.toList ++ be.data.toList := by simp
        have hres : stripOf neg (wh ++ be).data.toList (-(a : Int) - (be.size : Int)) = bareOf ⟨neg, wh.data.toList, be.data.toList, true, ex.data.toList⟩ := by
          rw [hcat]; unfold bareOf; simp only [HE.out, Array.length_toList]; rfl
        have HC := fun w => (stripped_any neg (wh ++ be) (-(a : Int) - (be.size : Int)) w (by rw [ByteArray.size_append]; omega) (by omega) (by omega))
        simp only [hres] at HC
        clear hcat hres
        obtain ⟨⟨dn, dd, de⟩, hD⟩ : ∃ d, bareOf ⟨neg, wh.data.toList, be.data.toList, true, ex.data.toList⟩ = d := ⟨_, rfl⟩
        simp only [hD] at HC
        have HD := Lib.hid hD
        clear hD
        refine (HC _).mono ?_
        rintro r w2 ⟨rfl, hb⟩
        obtain ⟨h1, h2, hbw, hsz⟩ := after2 hb
        obtain ⟨c0, c1, c2, cf⟩ := cells3 h2
        clear h1 h2 hb
        unfold dmlV
        go_wp2_with fail
        exact bodyPost_ret (v := dmlV ⟨dn, dd, de⟩) (by simp [results, Tryz.results209, go_sem, dmlV, c0, c1, c2]) rfl ⟨by rw [HD.out], ((hbw.setCell (Nat.le_succ _) _).setCell (Nat.le_succ _) _).setCell (Nat.le_succ _) _⟩
end Go.Proofs.YtakkmiomhackiaaGreatDoor

/-
  Package dec, sixth part: parsed.
-/
namespace Go.Proofs.YtakkmiomhackiaaGreatDoor
open Go.RowKit
set_option maxRecDepth 100000

theorem tw_isD (l : List UInt8) : ∀ c ∈ l.takeWhile isD, isD c = true := fun c hc => by
  induction l with
  | nil => cases hc
  | cons x l ih =>
    by_cases h : isD x = true
    · rw [List.takeWhile_cons_of_pos h] at hc
      rcases List.mem_cons.1 hc with rfl | hc
      · exact h
      · exact ih hc
    · rw [List.takeWhile_cons_of_neg h] at hc; cases hc
theorem tw_len (l : List UInt8) : (l.takeWhile isD).length + (l.dropWhile isD).length = l.length := by
  have := congrArg List.length (List.takeWhile_append_dropWhile (p := isD) (l := l))
  rwa [List.length_append] at this
/-- What a literal's parts are. -/
def LitOk (l : Lit) (n : Nat) : Prop := (∀ c ∈ l.whole, isD c = true) ∧ (∀ c ∈ l.behind, isD c = true) ∧ (∀ c ∈ l.exp, isD c = true) ∧ l.whole.length + l.behind.length + l.exp.length ≤ n
theorem ten_ok {neg : Bool} {wh be r : List UInt8} {l : Lit} (h : readTen neg wh be r = some l) (h1 : ∀ c ∈ wh, isD c = true) (h2 : ∀ c ∈ be, isD c = true) : LitOk l (wh.length + be.length + r.length) := by
  cases r with
  | nil => simp only [readTen, Option.some.injEq] at h; subst h; exact ⟨h1, h2, (fun c hc => by cases hc), by simp⟩
  | cons e t =>
    simp only [readTen] at h
    split at h
    · split at h
      · cases h
      · simp only [Option.some.injEq] at h
        subst h
        refine ⟨h1, h2, tw_isD _, ?_⟩
        have a := tw_len (readSign t).2
        have b : (readSign t).2.length ≤ t.length := by
          cases t with
          | nil => exact Nat.le_refl _
          | cons c t' => simp only [readSign]; split <;> simp
        simp only [List.length_cons]
        omega
    · cases h
theorem point_ok {neg : Bool} {wh r : List UInt8} {l : Lit} (h : readPoint neg wh r = some l) (h1 : ∀ c ∈ wh, isD c = true) : LitOk l (wh.length + r.length) := by
  cases r with
  | nil => have := ten_ok (be := []) (r := []) h h1 (fun c hc => by cases hc); simpa using this
  | cons c t =>
    simp only [readPoint] at h
    split at h
    · split at h
      · cases h
      · obtain ⟨a, b, c', d⟩ := ten_ok h h1 (tw_isD _)
        refine ⟨a, b, c', Nat.le_trans d ?_⟩
        have := tw_len t
        simp only [List.length_cons]; omega
    · have := ten_ok (be := []) h h1 (fun c hc => by cases hc); simpa using this
theorem whole_ok {neg : Bool} {r : List UInt8} {l : Lit} (h : readWhole neg r = some l) : LitOk l r.length := by
  cases r with
  | nil => cases h
  | cons c t =>
    simp only [readWhole] at h
    split at h
    · rename_i hd
      split at h
      · have := point_ok h (by intro x hx; simp at hx; subst hx; rfl); simpa [Nat.add_comm] using this
      · obtain ⟨a, b, c', d⟩ := point_ok h (tw_isD _)
        exact ⟨a, b, c', Nat.le_trans d (by rw [tw_len]; exact Nat.le_refl _)⟩
    · cases h
theorem read_ok {s : List UInt8} {l : Lit} (h : readOf s = some l) : LitOk l s.length := by
  cases s with
  | nil => cases h
  | cons c t =>
    simp only [readOf] at h
    split at h
    · obtain ⟨a, b, c', d⟩ := whole_ok h
      exact ⟨a, b, c', Nat.le_trans d (by simp)⟩
    · exact whole_ok h

def parsedRet (o : Option Lit) (e : Ending) : Prop := match o with
  | some l => e = .returned (.tuple #[dmlV (bareOf l), .nilIface])
  | none => ∃ i : Nat, e = .returned (.tuple #[dmlV ⟨false, [], 0⟩, .iface 151 (.agg #[.int .i64 40, .int .i64 i])])

set_option maxHeartbeats 1000000 in
theorem parsed_any (s : ByteArray) (w : World) (hs : s.size ≤ 1073741824) : Calls Tryz.prog 194 #[.string s] w fun e w' => parsedRet (readOf s.data.toList) e ∧ Below w.heap.size w w' := by
  have hsz : s.data.toList.length = s.size := Array.length_toList
  cases hr : readOf s.data.toList with
  | none =>
    have HR := fun w => read_any s w hs
    simp only [hr] at HR
    clear hr
    go_enter Tryz.func194, Tryz.ntmps194
    go_wp2_with fail
    refine (HR _).mono ?_
    rintro e w1 ⟨⟨i, rfl⟩, hb⟩
    obtain ⟨h1, hbw, hsz⟩ := after1 hb
    have hlt := lt_of_block h1
    have hi0 : (0 : Int) ≤ (i : Int) := by omega
    unfold noLit
    obtain ⟨d0, d1, d2, df⟩ := cells3 h1
    have h3 : (((w1.setCell ⟨w.heap.size, 0, none⟩ (.bool false)).setCell ⟨w.heap.size, 1, none⟩ (.string ⟨#[]⟩)).setCell ⟨w.heap.size, 2, none⟩ (.int .i64 0)).heap[w.heap.size]? = some (.cells #[.bool false, .string ⟨#[]⟩, .int .i64 0] 339 (0, 0)) := set_at (set_at (set_at h1 _) _) _
    have h4 := (Below.heap_alloc _ (.cells #[.bool false, .string ⟨#[]⟩, .string ⟨#[]⟩, .bool false, .string ⟨#[]⟩] 354) _ (lt_of_block h3)).trans h3
    obtain ⟨c0, c1, c2, cf⟩ := cells3 h4
    have HB := Lib.hid ((((hbw.setCell (p := ⟨w.heap.size, 0, none⟩) (Nat.le_refl _) (.bool false)).setCell (p := ⟨w.heap.size, 1, none⟩) (Nat.le_refl _) (.string ⟨#[]⟩)).setCell (p := ⟨w.heap.size, 2, none⟩) (Nat.le_refl _) (.int .i64 0)).alloc (Nat.le_of_lt (lt_of_block h3)) (.cells #[.bool false, .string ⟨#[]⟩, .string ⟨#[]⟩, .bool false, .string ⟨#[]⟩] 354))
    clear h3 h4
    clear h1 hb hbw
    go_wp2_with fail
    exact bodyPost_ret (v := .tuple #[dmlV ⟨false, [], 0⟩, .iface 151 (.agg #[.int .i64 40, .int .i64 i])]) (by simp [results, Tryz.results194, go_sem, dmlV, c0, c1, c2, d0, d1, d2]) rfl ⟨⟨i, rfl⟩, HB.out⟩
  | some l =>
    obtain ⟨o1, o2, o3, o4⟩ := read_ok hr
    have HR := fun w => read_any s w hs
    simp only [hr] at HR
    have hD : ∀ c ∈ l.exp, 48 ≤ c.toNat ∧ c.toNat ≤ 57 := fun c hc => by have := o3 c hc; simpa [isD] using this
    have HB := fun w => bare_any l.neg l.under ⟨l.whole.toArray⟩ ⟨l.behind.toArray⟩ ⟨l.exp.toArray⟩ w (by show l.whole.toArray.size + l.behind.toArray.size ≤ _; simp; omega) (by simpa using hD) (by show l.exp.toArray.size ≤ _; simp; omega)
    clear hr o1 o2 o3 o4 hD
    obtain ⟨neg, wh, be, un, ex⟩ := l
    obtain ⟨⟨dn, dd, de⟩, hd⟩ : ∃ d, bareOf ⟨neg, wh, be, un, ex⟩ = d := ⟨_, rfl⟩
    simp only [hd] at HB
    have HD := Lib.hid hd
    clear hd
    go_enter Tryz.func194, Tryz.ntmps194
    go_wp2_with fail
    refine (HR _).mono ?_
    rintro e w1 ⟨rfl, hb⟩
    unfold litV
    obtain ⟨h1, hbw, hsz⟩ := after1 hb
    go_wp2_with fail
    refine (HB _).mono ?_
    rintro e w2 ⟨rfl, hb2⟩
    have hb3 : Below w1.heap.size w1 w2 := ((Below.refl w1.heap.size w1).alloc (Nat.le_refl _) _).trans (hb2.mono (by simp))
    have h2 := keep h1 hb3
    obtain ⟨c0, c1, c2, cf⟩ := cells3 h2
    have HBF := Lib.hid (chain hbw hb3)
    clear hb hb2 hb3 h1 h2 hbw
    unfold dmlV
    go_wp2_with fail
    exact bodyPost_ret (v := .tuple #[dmlV ⟨dn, dd, de⟩, .nilIface]) (by simp [results, Tryz.results194, go_sem, dmlV, c0, c1, c2]) rfl ⟨by rw [← HD.out]; rfl, ((HBF.out.setCell (Nat.le_refl _) _).setCell (Nat.le_refl _) _).setCell (Nat.le_refl _) _⟩
end Go.Proofs.YtakkmiomhackiaaGreatDoor

/-
  Package wide, eleventh part: Parse, of digits alone and of at most 2400 of them.
-/
namespace Go.Proofs.YtakkmiomhackiaaGreatDoor
open Go.RowKit
set_option maxRecDepth 100000

/-- Digits alone. -/
def Digits (l : List UInt8) : Prop := ∀ x ∈ l, 48 ≤ x.toNat ∧ x.toNat ≤ 57

theorem dval_trim (l : List UInt8) : dval (Lib.trimLeftB l 48) = dval l := by
  unfold Lib.trimLeftB
  induction l with
  | nil => rfl
  | cons x l ih =>
    by_cases h : x = 48
    · subst h
      rw [List.dropWhile_cons_of_pos (by simp), ih]
      exact (dval_zeros 1 l).symm
    · rw [List.dropWhile_cons_of_neg (by simpa using h)]
theorem trim_sub (l : List UInt8) : ∀ x ∈ Lib.trimLeftB l 48, x ∈ l := fun _ hx => (List.dropWhile_sublist _).subset hx
theorem trim_len (l : List UInt8) : (Lib.trimLeftB l 48).length ≤ l.length := (List.dropWhile_sublist _).length_le

theorem pow_thousand (n : Nat) : 10 ^ (3 * n) ≤ 2 ^ (10 * n) := by
  rw [Nat.pow_mul, Nat.pow_mul]
  exact Nat.pow_le_pow_left (by decide) n

theorem bits_of {n m k : Nat} (h : n < 2 ^ m) (hk : m ≤ k) : Lim.bitlen n ≤ k := by
  rw [Lim.bitlen_le]
  exact Nat.lt_of_lt_of_le h (Nat.pow_le_pow_right (by decide) hk)

theorem dval_bits {l : List UInt8} (h : l.length ≤ 2400) (hd : ∀ x ∈ l, x.toNat ≤ 57) : Lim.bitlen (dval l) ≤ 8192 := by
  obtain ⟨m, hm, hm2⟩ : ∃ m : Nat, l.length ≤ 3 * m ∧ 10 * m ≤ 8192 := ⟨800, h, by decide⟩
  exact bits_of (Nat.lt_of_lt_of_le (dval_lt hd) (Nat.le_trans (Nat.pow_le_pow_right (by decide) hm) (pow_thousand m))) hm2

set_option maxHeartbeats 2000000 in
theorem parse_any (s : ByteArray) (w : World) (hd : Digits s.data.toList) (hne : s.size ≠ 0) (hl : s.size ≤ 2400) :
    Calls Tryz.prog 230 #[.string s] w fun e w' => RetNatE w (dval s.data.toList) .nilIface e w' := by
  have hsz : s.data.toList.length = s.size := Array.length_toList
  have HD := Lib.hid hd
  clear hd
  go_enter Tryz.func230, Tryz.ntmps230
  go_wp2_with fail
  go_loop [12] (fun i => ∃ k : Nat, k ≤ s.size ∧ i = .int .i64 k) (fun i => s.size - (intOf i).toNat)
  case atStart => exact ⟨0, by omega, rfl⟩
  case round =>
    obtain ⟨k, hk, rfl⟩ := hrel
    by_cases hk2 : k < s.size
    · obtain ⟨h1, h2⟩ := HD.out s[k] (Array.getElem_mem_toList hk2)
      have h3 : ¬ ((s[k].toNat : Nat) : Int) < 48 := by omega
      have h4 : ¬ (57 : Int) < ((s[k].toNat : Nat) : Int) := by omega
      go_wp2_with fail
      refine ⟨⟨k + 1, by omega, by go_num⟩, by simp [intOf]; omega⟩
    · have hie : s.toList.isEmpty = false := by
        rw [Lib.toList_data]
        cases hc : s.data.toList with
        | nil => rw [hc] at hsz; exact absurd hsz.symm hne
        | cons x r => rfl
      have HSZ := Lib.hid hsz
      clear hsz
      go_wp2_with fail
      refine (Tryz.strings_TrimLeft_one s 48 (by decide) _).mono ?_
      rintro e w1 ⟨rfl, rfl⟩
      have hdt : Digits (Lib.trimLeftB s.data.toList 48) := fun x hx => HD.out x (trim_sub _ x hx)
      have hlt : (Lib.trimLeftB s.data.toList 48).length ≤ 2400 := Nat.le_trans (trim_len _) (by have := HSZ.out; omega)
      have hvt := dval_trim s.data.toList
      generalize Lib.trimLeftB s.data.toList 48 = T at *
      have HVT := Lib.hid hvt
      have HDT := Lib.hid hdt
      clear hvt hdt hie
      obtain ⟨t, ht⟩ : ∃ t : ByteArray, (⟨T.toArray⟩ : ByteArray) = t := ⟨_, rfl⟩
      have htT : t.data.toList = T := by rw [← ht]
      have hts : t.size = T.length := by rw [← ht]; rfl
      rw [ht]
      have HTT := Lib.hid htT
      clear ht htT
      have hgt : ¬ (2500 : Int) < (t.size : Int) := by omega
      go_wp2_with fail
      have htl : t.size ≤ 2400 := by omega
      have HTS := Lib.hid hts
      clear hts hlt hgt
      have hbox := heap_alloc_new w (.cells #[.slice none 0 0] 381)
      have HBOX := Lib.hid hbox
      clear hbox
      go_loopw [0, 5] (fun d v wr => ∃ (L : List UInt8) (rb : ByteArray) (r : List Nat), d = .string rb ∧ Hid (T = L ++ rb.data.toList) ∧ rb.size ≤ 2400 ∧ Wds wr v r ∧ Lim.Small r ∧ Hid (Lim.val r = dval L) ∧ r.length ≤ L.length ∧ Hid (Below w.heap.size w wr) ∧
        Hid (wr.heap[w.heap.size]? = some (.cells #[.slice none 0 0] 381 (0, 0)))) (fun d _ _ => match d with | .string b => b.size | _ => 0)
      case atStart => exact ⟨[], t, [], rfl, Lib.hid (by rw [HTT.out]; rfl), htl, Wds.nil _, (fun x hx => by cases hx), Lib.hid rfl, Nat.le_refl _, Lib.hid ((Below.refl _ _).alloc (Nat.le_refl _) _), HBOX⟩
      case round =>
        obtain ⟨L, rb, r, rfl, hT, hrs, hw, hsm, hval, hlen, hbel, hbx⟩ := hrel
        by_cases hr0 : rb.size = 0
        · have hr1 : ¬ (0 : Int) < (rb.size : Int) := by omega
          go_wp2_with fail
          have hTL : dval T = dval L := by
            have : rb.data.toList = [] := List.eq_nil_of_length_eq_zero (by rw [Array.length_toList]; exact hr0)
            rw [hT.out, this, List.append_nil]
          have hfit : Lim.bitlen (dval T) ≤ 8192 := dval_bits (by have := HTS.out; omega) (fun x hx => (HDT.out x hx).2)
          have HV := Lib.hid (show Lim.val r = dval s.data.toList by rw [hval.out, ← hTL, HVT.out])
          rw [HVT.out] at hfit
          have HF := Lib.hid hfit
          clear hTL hfit
          refine (made_any _ r _ hsm hw).mono ?_
          rintro e w2 ⟨a2, k2, c2, rfl, hw2, hb2⟩
          have hbx2 := Lib.hid (keep hbx.out hb2)
          have hbl2 := Lib.hid (chain hbel.out hb2)
          rw [HV.out] at hw2
          have HW2 := Lib.hid hw2
          clear hw2 hb2
          go_wp2_with fail
          refine (bounded_any a2 k2 c2 (dval s.data.toList) _ HW2.out (Nat.le_trans (Lim.short (k := 128) HF.out) (by decide))).mono ?_
          rintro e w3 ⟨a3, k3, c3, rfl, hw3, hb3⟩
          have hbx3 := Lib.hid (keep hbx2.out hb3)
          have hbl3 := Lib.hid (chain hbl2.out hb3)
          rw [capN_fit HF.out] at hw3
          rw [capE_fit HF.out]
          have HW3 := Lib.hid hw3
          clear hw3 hb3
          have hc3 := cell_of_one hbx3.out
          have hf3 := free_of_one hbx3.out
          go_wp2_with fail
          exact bodyPost_ret (v := .tuple #[.agg #[.slice a3 k3 c3], .nilIface]) (by simp [results, Tryz.results230, go_sem, hc3]) rfl ⟨a3, k3, c3, rfl, HW3.out.set hbx3.out (by decide) _ _, hbl3.out.setCell (Nat.le_refl _) _⟩
        · have hr1 : (0 : Int) < (rb.size : Int) := by omega
          obtain ⟨k, hk⟩ : ∃ k : Nat, min 18 rb.size = k := ⟨_, rfl⟩
          have hk1 : k ≤ 18 := by omega
          have hk2 : k ≤ rb.size := by omega
          have hk0 : 1 ≤ k := by omega
          have hkm : min (18 : Int) (rb.size : Int) = (k : Int) := by omega
          clear hk
          go_wp2_with fail
          have hr2 := Lib.hid hr0
          clear hr0 hr1
          go_loop [49, 7, 8] (fun i x ten => ∃ n : Nat, n ≤ k ∧ i = .int .i64 n ∧ x = .int .u64 (dval (rb.data.toList.take n) : Nat) ∧ ten = .int .u64 (10 ^ n : Nat)) (fun i _ _ => k - (intOf i).toNat)
          case atStart => exact ⟨0, by omega, rfl, rfl, rfl⟩
          case round =>
            obtain ⟨n, hn, rfl, rfl, rfl⟩ := hrel
            by_cases hnk : n < k
            · have hnr : n < rb.size := by omega
              have hdg := HDT.out rb[n] (by rw [hT.out]; exact List.mem_append_right _ (Array.getElem_mem_toList hnr))
              have hstep : dval (rb.data.toList.take (n + 1)) = 10 * dval (rb.data.toList.take n) + (rb[n].toNat - 48) := by
                rw [List.take_succ, List.getElem?_eq_getElem (by rw [Array.length_toList]; exact hnr)]
                exact dval_snoc _ _
              have hxb : dval (rb.data.toList.take n) < 10 ^ n := by
                have := dval_lt (l := rb.data.toList.take n) (fun x hx => (HDT.out x (by rw [hT.out]; exact List.mem_append_right _ (List.mem_of_mem_take hx))).2)
                rwa [List.length_take, Nat.min_eq_left (by rw [Array.length_toList]; exact Nat.le_of_lt hnr)] at this
              have hp : 10 ^ n ≤ 10 ^ 17 := Nat.pow_le_pow_right (by decide) (by omega)
              have hps : 10 ^ (n + 1) = 10 ^ n * 10 := Nat.pow_succ 10 n
              have hps2 : (((10 ^ (n + 1) : Nat)) : Int) = ((10 ^ n : Nat) : Int) * 10 := by rw [hps]; omega
              have hst2 : ((dval (rb.data.toList.take (n + 1)) : Nat) : Int) = 10 * ((dval (rb.data.toList.take n) : Nat) : Int) + (((rb[n].toNat : Nat) : Int) - 48) := by rw [hstep]; omega
              have HS1 := Lib.hid hst2
              have HS2 := Lib.hid hps2
              clear hstep hst2 hps hps2
              have hp17 : (10 : Nat) ^ 17 = 100000000000000000 := by decide
              rw [hp17] at hp
              clear hp17
              obtain ⟨x, hx⟩ : ∃ x, dval (rb.data.toList.take n) = x := ⟨_, rfl⟩
              obtain ⟨ten, hten⟩ : ∃ x, 10 ^ n = x := ⟨_, rfl⟩
              rw [hx, hten] at hxb
              rw [hten] at hp
              simp only [hx, hten] at *
              clear hx hten
              obtain ⟨dg, hdge⟩ : ∃ d, rb[n].toNat = d := ⟨_, rfl⟩
              simp only [hdge] at hdg HS1
              go_wp2_with fail
              refine ⟨⟨n + 1, by omega, by go_num, congrArg (Value.int .u64) HS1.out.symm, congrArg (Value.int .u64) HS2.out.symm⟩, by simp [intOf]; omega⟩
            · have hnk2 : n = k := by omega
              subst hnk2
              have hxb : dval (rb.data.toList.take n) < 10 ^ n := by
                have := dval_lt (l := rb.data.toList.take n) (fun x hx => (HDT.out x (by rw [hT.out]; exact List.mem_append_right _ (List.mem_of_mem_take hx))).2)
                rwa [List.length_take, Nat.min_eq_left (by rw [Array.length_toList]; exact hk2)] at this
              have hp : 10 ^ n ≤ 10 ^ 18 := Nat.pow_le_pow_right (by decide) hk1
              have hp18 : (10 : Nat) ^ 18 = 1000000000000000000 := by decide
              rw [hp18] at hp
              have hsp : T = (L ++ rb.data.toList.take n) ++ (rb.extract n rb.size).data.toList := by
                have he : (rb.extract n rb.size).data.toList = rb.data.toList.drop n := by
                  simp [List.take_of_length_le]
                rw [he, List.append_assoc, List.take_append_drop]; exact hT.out
              have hvn : dval (L ++ rb.data.toList.take n) = dval L * 10 ^ n + dval (rb.data.toList.take n) := by
                have := dval_append L (rb.data.toList.take n)
                rwa [List.length_take, Nat.min_eq_left (by rw [Array.length_toList]; exact hk2)] at this
              have hln : (L ++ rb.data.toList.take n).length = L.length + n := by
                rw [List.length_append, List.length_take, Nat.min_eq_left (by rw [Array.length_toList]; exact hk2)]
              have hes : (rb.extract n rb.size).size = rb.size - n := by simp
              have hLl : L.length ≤ 2400 := by
                have := congrArg List.length hT.out
                rw [List.length_append] at this
                have := HTS.out
                omega
              have HSP := Lib.hid hsp
              have HVN := Lib.hid hvn
              have HLN := Lib.hid hln
              have HES := Lib.hid hes
              clear hp18 hsp hvn hln hes
              obtain ⟨x, hx⟩ : ∃ x, dval (rb.data.toList.take n) = x := ⟨_, rfl⟩
              obtain ⟨ten, hten⟩ : ∃ x, 10 ^ n = x := ⟨_, rfl⟩
              rw [hx, hten] at hxb
              rw [hten] at hp
              simp only [hx, hten] at *
              clear hx hten
              go_wp2_with fail
              refine (times_any _ r ten x _ hw hsm (by omega) (by omega) (by omega)).mono ?_
              rintro e w2 ⟨a2, c2, r2, rfl, hw2, hsm2, hv2, hl2, hb2⟩
              have hbx2 := Lib.hid (keep hbx.out hb2)
              have hbl2 := Lib.hid (chain hbel.out hb2)
              have HV2 := Lib.hid hv2
              have HL2 := Lib.hid hl2
              have HW2 := Lib.hid hw2
              clear hv2 hl2 hb2 hw2
              go_wp2_with fail
              refine ⟨⟨L ++ rb.data.toList.take n, rb.extract n rb.size, r2, rfl, HSP, by rw [HES.out]; omega, HW2.out, hsm2, Lib.hid (by rw [HV2.out, hval.out, HVN.out]), by rw [HLN.out, HL2.out]; omega, hbl2, hbx2⟩, ?_⟩
              show (rb.extract n rb.size).size < rb.size
              rw [HES.out]; omega
end Go.Proofs.YtakkmiomhackiaaGreatDoor
