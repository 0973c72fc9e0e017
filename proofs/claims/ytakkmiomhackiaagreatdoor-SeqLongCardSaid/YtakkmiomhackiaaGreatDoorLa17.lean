/-
  Several texts in one, each under its own head. Conditions: none.
-/
import Derived.Test.YtakkmiomhackiaaGreatDoorLa16
import Derived.Test.YtakkmiomhackiaaGreatDoorLa02
import Derived.Deep.Upon
import Derived.Deep.RegionLaw
import Derived.Deep.AppendLies
set_option linter.all false

/-
  Package parse: Feed.
-/
namespace Go.Proofs.YtakkmiomhackiaaGreatDoor
open Go.RowKit
set_option maxRecDepth 100000

theorem par_errnil {G : Nat → Prop} {w : World} {p : Nat} {x : Ps} {s : LS} {toks : List Tok} (h : ParAt G w p x s toks) : ParAt G (w.setCell ⟨p, 8, none⟩ .nilIface) p x s toks := by
  obtain ⟨hlt, FL, FM, FP, lb, mb, pileV, vals, hp, hb, hL, hM, hP⟩ := h
  have hk : Keeps (fun k => k = p) w (w.setCell ⟨p, 8, none⟩ .nilIface) := (Keeps.refl (fun k => k = p) w).setCell (p := ⟨p, 8, none⟩) (.inl rfl) _
  exact ⟨fun k h => Nat.lt_of_lt_of_le (hlt k h) hk.size, FL, FM, FP, lb, mb, pileV, vals, hp, set_at hb _, hL.apart hk (fun k h e => hp.self.2.1 (e ▸ h)), hM.apart hk (fun k h e => hp.self.2.2.1 (e ▸ h)), hP.keeps hk (fun k h e => hp.self.2.2.2 (e ▸ h))⟩
theorem ParAt.cells {G : Nat → Prop} {w : World} {p : Nat} {x : Ps} {s : LS} {toks : List Tok} (h : ParAt G w p x s toks) : w.cell? ⟨p, 8, none⟩ = some .nilIface ∧ w.cell? ⟨p, 9, none⟩ = some (.bool false) ∧ (∀ o, w.frozen? ⟨p, o, none⟩ = false) ∧ w.cell? ⟨p, 5, none⟩ = some (.int .i64 x.want) ∧ w.cell? ⟨p, 1, none⟩ = some (.int .i64 x.place) := by
  obtain ⟨hlt, FL, FM, FP, lb, mb, pileV, vals, hp, hb, hL, hM, hP⟩ := h
  obtain ⟨c0, c1, c2, c3, c4, c5, c6, c7, c8, c9, cf⟩ := cells10 hb
  exact ⟨c8, c9, cf, c5, c1⟩

section
variable (po : List Tr → List (List UInt8) → List Tr)
/-- What Feed leaves. -/
def feedPost (F : Nat → Prop) (w : World) (p : Nat) (o : Out) (e : Ending) (w' : World) : Prop :=
  Keeps F w w' ∧ match o with
  | .error (no, at_) => e = .returned (spotV no at_)
  | .ok y => e = .returned .nilIface ∧ ParAt (Since F w w') w' p y (.at_ y.lex false) []

set_option maxHeartbeats 8000000 in
theorem parFeed_any (F : Nat → Prop) (w : World) (p : Nat) (x : Ps) (l : List UInt8) (v : Value) (h : ParAt F w p x (.at_ x.lex false) []) (hok : ParOk x 0) (hv : BytesIn F w v l) (hl : l.length ≤ 134217728) (hpc : ∀ c ∈ l, PlainC c) :
    Calls Tryz.prog 18 #[.pointer (some ⟨p, 0, none⟩), v] w fun e w' => feedPost F w p (x.feed po l) e w' := by
  have hmf : ∀ (fn : Fn) (first cap : Array Value) (w : World), (Instr.makeFunc fn first cap).run Tryz.prog w = .ok (.func fn first cap) w := fun _ _ _ _ => rfl
  have hv0 := hv
  obtain ⟨a, cap, hve, _⟩ := hv0
  have hlt := h.lt
  have hself := h.self
  have hpl := hlt p hself
  -- the world with the two boxes
  obtain ⟨W, hW⟩ : ∃ W, (w.alloc (.cells #[.pointer (some ⟨p, 0, none⟩)] 43)).alloc (.cells #[v] 22) = W := ⟨_, rfl⟩
  have hkW : Keeps (fun _ => False) w W := by rw [← hW]; exact ((Keeps.refl _ w).alloc _).alloc _
  have hb2 : W.heap[w.heap.size]? = some (.cells #[.pointer (some ⟨p, 0, none⟩)] 43 (0, 0)) := by rw [← hW]; exact (Below.heap_alloc _ _ _ (by simp)).trans (heap_alloc_new w _)
  have hb1 : W.heap[w.heap.size + 1]? = some (.cells #[v] 22 (0, 0)) := by rw [← hW]; have := heap_alloc_new (w.alloc (.cells #[.pointer (some ⟨p, 0, none⟩)] 43)) (.cells #[v] 22); rwa [World.size_alloc] at this
  have hsz : W.heap.size = w.heap.size + 2 := by rw [← hW]; simp
  have hpW := h.apart hkW (fun _ _ => id)
  obtain ⟨c8, c9, cf, c5, c1⟩ := hpW.cells
  -- and with the result's box of 'caught'
  have hR0 := heap_alloc_new W.drew (.cells #[.nilIface] 26)
  have hkX : Keeps (fun _ => False) W (W.drew.alloc (.cells #[.nilIface] 26)) := ((Keeps.refl _ W).drew).alloc _
  have hnF : ∀ k, w.heap.size ≤ k → ¬ F k := fun k hk hf => absurd (hlt k hf) (Nat.not_lt.2 hk)
  have hloop := feedLoop_any po F (W.drew.alloc (.cells #[.nilIface] 26)) p (w.heap.size + 1) w.heap.size x l v (hpW.apart hkX (fun _ _ => id)) hok
    (by obtain ⟨a, cap, h1, h2, h3, h4⟩ := hv; exact ⟨a, cap, h1, h2, h3, h4.imp id (fun ⟨g, off, e1, e2, e3⟩ => ⟨g, off, e1, e2, fun i x hi => (hkW.same hkX).cell (e3 i x hi) id⟩)⟩) hl hpc (hkX.blk hb1 id) (hkX.blk hb2 id) (hnF _ (by omega)) (hnF _ (Nat.le_refl _))
  have hRn : ¬ F W.heap.size := hnF _ (by omega)
  have hcau := caught_feed W.drew (w.heap.size + 1) w.heap.size _ hloop (fun e w' hq => hq.1.blk hR0 hRn)
  have hwk : Keeps F w (W.drew.alloc (.cells #[.nilIface] 26)) := ((hkW.same hkX).mono fun _ h => h.elim)
  obtain ⟨out, hout⟩ : ∃ out, x.feed po l = out := ⟨_, rfl⟩
  rw [hout] at hcau ⊢
  have HLT := Lib.hid hlt
  have HSF := Lib.hid hself
  have hp8 : p ≠ W.heap.size := by omega
  have HWP := Lib.hid (show w.heap.size ≠ p by omega)
  cases out with
  | error er =>
    obtain ⟨no, at_⟩ := er
    have HC := Lib.hid (hcau.mono (R' := fun e w2 => e = .returned (spotV no at_) ∧ Keeps F w w2 ∧ (∃ u, w2.cell? ⟨p, 8, none⟩ = some u) ∧ (∀ o, w2.frozen? ⟨p, o, none⟩ = false) ∧ w2.cell? ⟨w.heap.size, 0, none⟩ = some (.pointer (some ⟨p, 0, none⟩))) fun e w2 hq => by
      obtain ⟨w1, hq⟩ := hq
      have hq1 : takePost F (W.drew.alloc (.cells #[.nilIface] 26)) p (.error (no, at_)) (failE no at_) w1 ∧ e = .returned (spotV no at_) ∧ w2 = w1.setCell ⟨W.heap.size, 0, none⟩ (spotV no at_) := by
        rcases hq with ⟨h1, _, _⟩ | ⟨no', at', h1, h2, h3⟩
        · have := h1.2.1
          unfold failE at this
          cases this
        · have h4 := h1.2.1
          unfold failE spotV at h4
          injection h4 with h4
          simp at h4
          obtain ⟨e1, e2⟩ := h4
          obtain rfl : no' = no := by omega
          obtain rfl : at' = at_ := by omega
          exact ⟨h1, h2, h3⟩
      obtain ⟨⟨hk, _, v0, v1, v2, v3, v4, v5, v6, v7, v8, v9, hb⟩, rfl, rfl⟩ := hq1
      have hb' := (set_else (w := w1) (b := W.heap.size) (o := 0) (k := p) (spotV no at_) hp8).trans hb
      obtain ⟨d0, d1, d2, d3, d4, d5, d6, d7, d8, d9, df⟩ := cells10 hb'
      have hbx : (w1.setCell ⟨W.heap.size, 0, none⟩ (spotV no at_)).heap[w.heap.size]? = _ := (set_else (w := w1) (b := W.heap.size) (o := 0) (k := w.heap.size) (spotV no at_) (by omega)).trans (hk.blk (hkX.blk hb2 id) (hnF _ (Nat.le_refl _)))
      exact ⟨rfl, (hwk.same hk).setCell (p := ⟨W.heap.size, 0, none⟩) (.inr (by rw [hsz]; exact Nat.le_add_right _ 2)) _, ⟨_, d8⟩, df, cell_of_one hbx⟩)
    have k0 := cell_of_one hb1
    have k1 := cell_of_one hb2
    subst hve
    clear hpW hR0 hkX hnF hloop hRn hcau hwk hout h hok hpc hlt hself hb1 hb2 hkW hv
    subst hW
    go_enter Tryz.func18, Tryz.ntmps18
    go_wp2_with fail
    go_region_with (go_at_call 52; refine (HC.out).mono ?_; rintro e w2 ⟨he, hk2, ⟨u, hu⟩, hf2, hbx⟩; unfold spotV at he; subst he)
    all_goals
      have HK2 := Lib.hid hk2
      have hbx2 : w2.heap[w.heap.size]? = w2.heap[w.heap.size]? := rfl
      have hcx : (w2.setCell ⟨p, 8, none⟩ (.iface 151 (.agg #[.int .i64 no, .int .i64 at_]))).cell? ⟨p, 8, none⟩ = some (.iface 151 (.agg #[.int .i64 no, .int .i64 at_])) := World.cell?_setCell_same' _ _ _ (by rw [hu]; rfl)
      have hbx3 : (w2.setCell ⟨p, 8, none⟩ (.iface 151 (.agg #[.int .i64 no, .int .i64 at_]))).cell? ⟨w.heap.size, 0, none⟩ = some (.pointer (some ⟨p, 0, none⟩)) := by
        rw [World.cell?_of_block (set_else _ HWP.out)]; exact hbx
      clear hk2 hbx2
      go_wp2_with fail
      go_ret
      exact ⟨HK2.out.setCell (p := ⟨p, 8, none⟩) (.inl HSF.out) _, rfl⟩
  | ok y =>
    have HC := Lib.hid (hcau.mono (R' := fun e w2 => e = .returned .nilIface ∧ Keeps F w w2 ∧ ParAt (Since F w w2) w2 p y (.at_ y.lex false) [] ∧ w2.cell? ⟨w.heap.size, 0, none⟩ = some (.pointer (some ⟨p, 0, none⟩))) fun e w2 hq => by
      obtain ⟨w1, hq⟩ := hq
      have hq1 : takePost F (W.drew.alloc (.cells #[.nilIface] 26)) p (.ok y) (.returned (.tuple #[])) w1 ∧ e = .returned .nilIface ∧ w2 = w1.setCell ⟨W.heap.size, 0, none⟩ .nilIface := by
        rcases hq with h | ⟨no', at', h1, h2, h3⟩
        · exact h
        · have h4 := h1.2.1
          unfold failE at h4
          cases h4
      obtain ⟨⟨hk, _, hpar⟩, rfl, rfl⟩ := hq1
      have hsX : (W.drew.alloc (.cells #[.nilIface] 26)).heap.size = W.heap.size + 1 := by simp
      have hks : Keeps (fun k => k = W.heap.size) w1 (w1.setCell ⟨W.heap.size, 0, none⟩ .nilIface) := (Keeps.refl (fun k => k = W.heap.size) w1).setCell (p := ⟨W.heap.size, 0, none⟩) (.inl rfl) _
      have hpar2 := hpar.apart hks (fun k h e => h.elim (fun h => hRn (e ▸ h)) (fun h => by have := h.1; omega))
      have hkk : Keeps F w (w1.setCell ⟨W.heap.size, 0, none⟩ .nilIface) := (hwk.same hk).setCell (p := ⟨W.heap.size, 0, none⟩) (.inr (by rw [hsz]; exact Nat.le_add_right _ 2)) _
      have hbx : (w1.setCell ⟨W.heap.size, 0, none⟩ .nilIface).heap[w.heap.size]? = _ := (set_else (w := w1) (b := W.heap.size) (o := 0) (k := w.heap.size) .nilIface (by omega)).trans (hk.blk (hkX.blk hb2 id) (hnF _ (Nat.le_refl _)))
      exact ⟨rfl, hkk, hpar2.mono (fun k h => h.elim .inl (fun h => .inr ⟨Nat.le_trans hwk.size h.1, Nat.lt_of_lt_of_le h.2 hks.size⟩)) (since_lt hlt hkk.size), cell_of_one hbx⟩)
    have k0 := cell_of_one hb1
    have k1 := cell_of_one hb2
    subst hve
    clear hpW hR0 hkX hnF hloop hRn hcau hwk hout h hok hpc hlt hself hb1 hb2 hkW hv
    subst hW
    go_enter Tryz.func18, Tryz.ntmps18
    go_wp2_with fail
    go_region_with (go_at_call 52; refine (HC.out).mono ?_; rintro e w2 ⟨rfl, hk2, hp2, hbx⟩; have hpc2 := hp2.cells; have hu := hpc2.1; have hf2 := hpc2.2.2.1)
    all_goals
      have HK2 := Lib.hid hk2
      have HP2 := Lib.hid hp2
      have HPE := Lib.hid (par_errnil hp2)
      have hcx : (w2.setCell ⟨p, 8, none⟩ .nilIface).cell? ⟨p, 8, none⟩ = some .nilIface := World.cell?_setCell_same' _ _ _ (by rw [hu]; rfl)
      have hbx3 : (w2.setCell ⟨p, 8, none⟩ .nilIface).cell? ⟨w.heap.size, 0, none⟩ = some (.pointer (some ⟨p, 0, none⟩)) := by
        rw [World.cell?_of_block (set_else _ HWP.out)]; exact hbx
      clear hk2 hp2 hpc2
      go_wp2_with fail
      go_ret
      exact ⟨HK2.out.setCell (p := ⟨p, 8, none⟩) (.inl HSF.out) _, rfl, HPE.out.mono (fun k h => h.mono_r (by simp [World.setCell])) (fun k h => Nat.lt_of_lt_of_le (HP2.out.lt k (h.mono_r (by simp [World.setCell]))) (by simp [World.setCell]))⟩
end
end Go.Proofs.YtakkmiomhackiaaGreatDoor

/-
  Package parse: finish.
-/
namespace Go.Proofs.YtakkmiomhackiaaGreatDoor
open Go.RowKit
set_option maxRecDepth 100000

section
variable (po : List Tr → List (List UInt8) → List Tr)
def finPost (F : Nat → Prop) (w : World) (p : Nat) (o : Out) (e : Ending) (w' : World) : Prop :=
  Keeps F w w' ∧ match o with
  | .error (no, at_) => e = failE no at_ ∧ ParDead w' p
  | .ok y => e = .returned (.tuple #[]) ∧ ∃ s, ParAt (Since F w w') w' p y s []
theorem par_end (F : Nat → Prop) (w : World) (p : Nat) (x : Ps) (h : ParAt F w p x (.at_ x.lex false) []) (hg : x.lex.Good) (hst : PlainSt x.lex.st) :
    ∃ lb, w.cell? ⟨p, 2, none⟩ = some (.pointer (some ⟨lb, 0, none⟩)) ∧ Calls Tryz.prog 78 #[.pointer (some ⟨lb, 0, none⟩)] w fun e w' => Keeps F w w' ∧
      (x.lex.ended.2.2.1 = 0 → e = .returned .nilIface ∧ ∃ s, ParAt (Since F w w') w' p x s x.lex.ended.2.1) ∧
      (x.lex.ended.2.2.1 ≠ 0 → e = .returned (spotV x.lex.ended.2.2.1 x.lex.ended.2.2.2) ∧ ∃ s, ParAt (Since F w w') w' p x s x.lex.ended.2.1) := by
  obtain ⟨hlt, FL, FM, FP, lb, mb, pileV, vals, hp, hb, hL, hM, hP⟩ := h
  refine ⟨lb, by rw [cell_at hb]; rfl, (lexEnd_any FL w lb x.lex [] hL hg ?_ (by simp)).mono ?_⟩
  · intro hne hin
    rcases hst with h | h | h
    · rw [hg.isIn, h] at hin; simp at hin
    · exact h
    · have := hg.text (by rw [h]; rfl)
      rw [this] at hne; exact absurd hne (by decide)
  rintro e w' ⟨hk, hgd, hbd⟩
  have hkF : Keeps F w w' := hk.mono hp.lex
  have hM' := hM.apart hk (fun k h e => hp.lm k e h)
  have hP' := hP.keeps hk (fun k h e => hp.lp k e h)
  have hps := hp.lexSince (w := w) (w' := w') (hlt p hp.self.1) hM.2.1 hP.lt
  refine ⟨hkF, fun hn => ?_, fun hn => ?_⟩
  · obtain ⟨rfl, hl⟩ := hgd hn
    exact ⟨rfl, .at_ _ true, since_lt hlt hkF.size, _, FM, FP, lb, mb, pileV, vals, hps, hk.blk hb hp.self.2.1, hl, hM', hP'⟩
  · obtain ⟨rfl, pl, st, hl⟩ := hbd hn
    exact ⟨rfl, .dead pl st _, since_lt hlt hkF.size, _, FM, FP, lb, mb, pileV, vals, hps, hk.blk hb hp.self.2.1, hl, hM', hP'⟩
def finOut (r : Lx × List Tok × Nat × Nat) (d : Out) : Out := match d with
  | .error e => .error e
  | .ok q => if r.2.2.1 ≠ 0 then .error (lexNo r.2.2.1, r.2.2.2) else if q.want ≠ 6 then .error (95, q.place) else .ok q
theorem ended_toks (x : Lx) : x.ended.2.1.length ≤ 1 := by
  unfold Lx.ended
  split
  · simp
  · split
    · simp
    · cases x.finish with
      | none => simp
      | some p => simp
set_option maxHeartbeats 8000000 in
theorem par_finish (F : Nat → Prop) (w : World) (p : Nat) (x : Ps) (n : Nat) (h : ParAt F w p x (.at_ x.lex false) []) (hok : ParOk x n) (hn : n + 3 ≤ 1073741824) :
    Calls Tryz.prog 53 #[.pointer (some ⟨p, 0, none⟩)] w fun e w' => Plainly e ∧ finPost F w p (x.finish po) e w' := by
  have hlt := h.lt
  have HLT := Lib.hid hlt
  obtain ⟨lb, hc2, hfd⟩ := par_end F w p x h hok.good hok.st
  have htk := ended_ok (x := x.lex)
  have htl := ended_toks x.lex
  obtain ⟨r, hr⟩ : ∃ r, x.lex.ended = r := ⟨_, rfl⟩
  rw [hr] at hfd htk htl
  obtain ⟨d, hd⟩ : ∃ d, Ps.drain po { x with lex := r.1 } r.2.1 = d := ⟨_, rfl⟩
  have htake : x.finish po = finOut r d := by rw [← hd, ← hr]; rfl
  have hps : PsOk { x with lex := r.1 } n := ⟨hok.ps.depth, hok.ps.pile, hok.ps.nodes, hok.ps.bytes, hok.ps.items, hok.ps.want, hok.ps.many⟩
  have HDR := Lib.hid (fun (G : Nat → Prop) (w1 : World) (s : LS) (h1 : ParAt G w1 p x s r.2.1) => drain_any po G w1 p { x with lex := r.1 } s r.2.1 n h1 htk hps (by omega) (by omega))
  rw [hd] at HDR
  have HFD := Lib.hid hfd
  by_cases hno : r.2.2.1 = 0
  · have HG := Lib.hid (show ∀ (e : Ending) (w' : World), ((r.2.2.1 = 0 → e = .returned .nilIface ∧ ∃ s, ParAt (Since F w w') w' p x s r.2.1) ∧ (r.2.2.1 ≠ 0 → e = .returned (spotV r.2.2.1 r.2.2.2) ∧ ∃ s, ParAt (Since F w w') w' p x s r.2.1)) → e = .returned .nilIface ∧ ∃ s, ParAt (Since F w w') w' p x s r.2.1 from fun e w' h => h.1 hno)
    cases d with
    | error er =>
      obtain ⟨no, at_⟩ := er
      rw [htake]
      clear htake hps htk htl hd hr h hok hlt hfd hno
      go_enter Tryz.func53, Tryz.ntmps53
      go_wp2_with fail
      refine (HFD.out).mono ?_
      rintro e w1 ⟨hk1, hgb⟩
      obtain ⟨rfl, s, hp1⟩ := HG.out _ _ hgb
      have HDC := Lib.hid (HDR.out _ w1 _ hp1)
      have HK1 := Lib.hid hk1
      clear hgb hp1 hk1
      go_wp2_with fail
      refine (HDC.out).mono ?_
      rintro e w2 ⟨hpl, hk2, he, hdead⟩
      have HK2 := Lib.hid hk2
      have HD := Lib.hid hdead
      clear hpl hk2 hdead
      unfold failE at he
      subst he
      go_wp2_with fail
      exact ⟨rfl, .inr ⟨_, _, rfl⟩, HK1.out.andThen HK2.out, rfl, HD.out⟩
    | ok q =>
      simp only [finOut] at htake
      rw [if_neg (fun h => h hno)] at htake
      have hwant : (q.want ≠ 6 ∧ ((q.want : Int) != 6) = true) ∨ (q.want = 6 ∧ ((q.want : Int) != 6) = false) := by
        by_cases h6 : q.want = 6
        · exact .inr ⟨h6, by simp; omega⟩
        · exact .inl ⟨h6, by simp; omega⟩
      rcases hwant with ⟨hw6, e6⟩ | ⟨hw6, e6⟩
      · rw [if_pos hw6] at htake
        rw [htake]
        have HFA := Lib.hid (fun w => fail_any w 95 q.place)
        clear htake hps htk htl hd hr h hok hlt hfd hno hw6
        go_enter Tryz.func53, Tryz.ntmps53
        go_wp2_with fail
        refine (HFD.out).mono ?_
        rintro e w1 ⟨hk1, hgb⟩
        obtain ⟨rfl, s, hp1⟩ := HG.out _ _ hgb
        have HDC := Lib.hid (HDR.out _ w1 _ hp1)
        have HK1 := Lib.hid hk1
        clear hgb hp1 hk1
        go_wp2_with fail
        refine (HDC.out).mono ?_
        rintro e w2 ⟨hpl, hk2, he, hp2⟩
        subst he
        have HK2 := Lib.hid hk2
        obtain ⟨c8, c9, cf, c5, c1⟩ := hp2.cells
        clear hpl hk2
        have HPL2 := Lib.hid hp2.dead
        clear hp2
        go_wp2_with fail
        refine (lexed_nil _).mono ?_
        rintro e w3 ⟨rfl, rfl⟩
        go_wp2_with fail
        refine (HFA.out _).mono ?_
        rintro e w3 ⟨he, rfl⟩
        unfold failE at he
        subst he
        go_wp2_with fail
        exact ⟨rfl, .inr ⟨_, _, rfl⟩, HK1.out.andThen HK2.out, rfl, HPL2.out⟩
      · rw [if_neg (fun h => h hw6)] at htake
        rw [htake]
        clear htake hps htk htl hd hr h hok hlt hfd hno hw6
        go_enter Tryz.func53, Tryz.ntmps53
        go_wp2_with fail
        refine (HFD.out).mono ?_
        rintro e w1 ⟨hk1, hgb⟩
        obtain ⟨rfl, s, hp1⟩ := HG.out _ _ hgb
        have HDC := Lib.hid (HDR.out _ w1 _ hp1)
        have HK1 := Lib.hid hk1
        clear hgb hp1 hk1
        go_wp2_with fail
        refine (HDC.out).mono ?_
        rintro e w2 ⟨hpl, hk2, he, hp2⟩
        subst he
        have HK2 := Lib.hid hk2
        obtain ⟨c8, c9, cf, c5, c1⟩ := hp2.cells
        clear hpl hk2
        have HP2 := Lib.hid hp2
        clear hp2
        go_wp2_with fail
        refine (lexed_nil _).mono ?_
        rintro e w3 ⟨rfl, rfl⟩
        go_wp2_with fail
        go_end0
        have hk := HK1.out.andThen HK2.out
        exact ⟨.inl rfl, hk, rfl, s, HP2.out.mono (fun k h => h.trans HK1.out.size HK2.out.size) (since_lt HLT.out hk.size)⟩
  · have HG := Lib.hid (show ∀ (e : Ending) (w' : World), ((r.2.2.1 = 0 → e = .returned .nilIface ∧ ∃ s, ParAt (Since F w w') w' p x s r.2.1) ∧ (r.2.2.1 ≠ 0 → e = .returned (spotV r.2.2.1 r.2.2.2) ∧ ∃ s, ParAt (Since F w w') w' p x s r.2.1)) → e = .returned (spotV r.2.2.1 r.2.2.2) ∧ ∃ s, ParAt (Since F w w') w' p x s r.2.1 from fun e w' h => h.2 hno)
    have HLX := Lib.hid (fun w => lexed_spot w r.2.2.1 r.2.2.2)
    cases d with
    | error er =>
      obtain ⟨no, at_⟩ := er
      rw [htake]
      clear htake hps htk htl hd hr h hok hlt hfd hno
      go_enter Tryz.func53, Tryz.ntmps53
      go_wp2_with fail
      refine (HFD.out).mono ?_
      rintro e w1 ⟨hk1, hgb⟩
      obtain ⟨rfl, s, hp1⟩ := HG.out _ _ hgb
      have HDC := Lib.hid (HDR.out _ w1 _ hp1)
      have HK1 := Lib.hid hk1
      clear hgb hp1 hk1
      go_wp2_with fail
      refine (HDC.out).mono ?_
      rintro e w2 ⟨hpl, hk2, he, hdead⟩
      have HK2 := Lib.hid hk2
      have HD := Lib.hid hdead
      clear hpl hk2 hdead
      unfold failE at he
      subst he
      go_wp2_with fail
      exact ⟨rfl, .inr ⟨_, _, rfl⟩, HK1.out.andThen HK2.out, rfl, HD.out⟩
    | ok q =>
      simp only [finOut] at htake
      rw [if_pos hno] at htake
      rw [htake]
      clear htake hps htk htl hd hr h hok hlt hfd hno
      go_enter Tryz.func53, Tryz.ntmps53
      go_wp2_with fail
      refine (HFD.out).mono ?_
      rintro e w1 ⟨hk1, hgb⟩
      obtain ⟨rfl, s, hp1⟩ := HG.out _ _ hgb
      have HDC := Lib.hid (HDR.out _ w1 _ hp1)
      have HK1 := Lib.hid hk1
      clear hgb hp1 hk1
      go_wp2_with fail
      refine (HDC.out).mono ?_
      rintro e w2 ⟨hpl, hk2, he, hpar⟩
      subst he
      have HK2 := Lib.hid hk2
      have HD := Lib.hid hpar.dead
      clear hpl hk2 hpar
      go_wp2_with fail
      refine (HLX.out _).mono ?_
      rintro e w3 ⟨he, hb3⟩
      have HB3 := Lib.hid hb3
      clear hb3
      unfold failE at he
      subst he
      go_wp2_with fail
      exact ⟨rfl, .inr ⟨_, _, rfl⟩, (HK1.out.andThen HK2.out).below HB3.out, rfl, HD.out.keeps (Keeps.of_below (fun _ => False) HB3.out) id⟩
end
end Go.Proofs.YtakkmiomhackiaaGreatDoor

/-
  Package parse: Finish, New, Read.
-/
namespace Go.Proofs.YtakkmiomhackiaaGreatDoor
open Go.RowKit
set_option maxRecDepth 100000

section
variable (po : List Tr → List (List UInt8) → List Tr)
/-- A tree, or what is wrong. -/
def treePost (F : Nat → Prop) (w : World) (o : Except (Nat × Nat) Tr) (e : Ending) (w' : World) : Prop :=
  Keeps F w w' ∧ match o with
  | .error (no, at_) => e = .returned (.tuple #[.pointer none, spotV no at_])
  | .ok t => ∃ T v, e = .returned (.tuple #[.pointer (some ⟨T, 0, none⟩), .nilIface]) ∧ w'.heap[T]? = some (.cells #[v] 176 (0, 0)) ∧ TreeAt (Since F w w') w' v t ∧ w.heap.size ≤ T
/-- The one item. -/
def oneOf (o : Out) : Except (Nat × Nat) Tr := match o with
  | .error e => .error e
  | .ok y => .ok (y.items.headD .null)

set_option maxHeartbeats 8000000 in
theorem parFinish_any (F : Nat → Prop) (w : World) (p : Nat) (x : Ps) (n : Nat) (h : ParAt F w p x (.at_ x.lex false) []) (hok : ParOk x n) (hn : n + 3 ≤ 1073741824) (hone : ∀ y, x.finish po = .ok y → ∃ t, y.items = [t]) :
    Calls Tryz.prog 16 #[.pointer (some ⟨p, 0, none⟩)] w fun e w' => treePost F w (oneOf (x.finish po)) e w' := by
  have hmf : ∀ (fn : Fn) (first cap : Array Value) (w : World), (Instr.makeFunc fn first cap).run Tryz.prog w = .ok (.func fn first cap) w := fun _ _ _ _ => rfl
  have hlt := h.lt
  have hself := h.self
  have hpl := hlt p hself
  obtain ⟨c8, c9, cf, c5, c1⟩ := h.cells
  have hkX : Keeps (fun _ => False) w (w.alloc (.cells #[.nilIface] 26)) := (Keeps.refl _ w).alloc _
  have hR0 := heap_alloc_new w (.cells #[.nilIface] 26)
  have hRn : ¬ F w.heap.size := fun hf => absurd (hlt _ hf) (Nat.lt_irrefl _)
  have hfin := par_finish po F _ p x n (h.apart hkX (fun _ _ => id)) hok hn
  have hcau := caught_finish w p _ hfin (fun e w' hq => hq.1.blk hR0 hRn)
  have hwk : Keeps F w (w.alloc (.cells #[.nilIface] 26)) := hkX.mono fun _ h => h.elim
  have hp8 : p ≠ w.heap.size := by omega
  obtain ⟨out, hout⟩ : ∃ out, x.finish po = out := ⟨_, rfl⟩
  rw [hout] at hcau hone ⊢
  have HLT := Lib.hid hlt
  have HSF := Lib.hid hself
  cases out with
  | error er =>
    obtain ⟨no, at_⟩ := er
    have HC := Lib.hid (hcau.mono (R' := fun e w2 => e = .returned (spotV no at_) ∧ Keeps F w w2 ∧ (∃ u, w2.cell? ⟨p, 8, none⟩ = some u) ∧ (∀ o, w2.frozen? ⟨p, o, none⟩ = false)) fun e w2 hq => by
      obtain ⟨w1, hq⟩ := hq
      have hq1 : finPost F (w.alloc (.cells #[.nilIface] 26)) p (.error (no, at_)) (failE no at_) w1 ∧ e = .returned (spotV no at_) ∧ w2 = w1.setCell ⟨w.heap.size, 0, none⟩ (spotV no at_) := by
        rcases hq with ⟨h1, _, _⟩ | ⟨no', at', h1, h2, h3⟩
        · have := h1.2.1
          unfold failE at this
          cases this
        · have h4 := h1.2.1
          unfold failE spotV at h4
          injection h4 with h4
          simp at h4
          obtain ⟨e1, e2⟩ := h4
          obtain rfl : no' = no := by omega
          obtain rfl : at' = at_ := by omega
          exact ⟨h1, h2, h3⟩
      obtain ⟨⟨hk, _, v0, v1, v2, v3, v4, v5, v6, v7, v8, v9, hb⟩, rfl, rfl⟩ := hq1
      have hb' := (set_else (w := w1) (b := w.heap.size) (o := 0) (k := p) (spotV no at_) hp8).trans hb
      obtain ⟨d0, d1, d2, d3, d4, d5, d6, d7, d8, d9, df⟩ := cells10 hb'
      exact ⟨rfl, (hwk.same hk).setCell (p := ⟨w.heap.size, 0, none⟩) (.inr (Nat.le_refl _)) _, ⟨_, d8⟩, df⟩)
    clear hkX hR0 hRn hfin hcau hwk hout h hok hlt hself hone c5 c1
    go_enter Tryz.func16, Tryz.ntmps16
    go_wp2_with fail
    refine (HC.out).mono ?_
    rintro e w2 ⟨he, hk2, ⟨u, hu⟩, hf2⟩
    unfold spotV at he
    subst he
    have hcx : (w2.setCell ⟨p, 8, none⟩ (.iface 151 (.agg #[.int .i64 no, .int .i64 at_]))).cell? ⟨p, 8, none⟩ = some (.iface 151 (.agg #[.int .i64 no, .int .i64 at_])) := World.cell?_setCell_same' _ _ _ (by rw [hu]; rfl)
    have HK2 := Lib.hid hk2
    clear hk2
    go_wp2_with fail
    go_region
    go_wp2_with fail
    exact bodyPost_ret (v := .tuple #[.pointer none, .iface 151 (.agg #[.int .i64 no, .int .i64 at_])]) (by simp [results, Tryz.results16, go_sem]) rfl ⟨(HK2.out.setCell (p := ⟨p, 8, none⟩) (.inl HSF.out) _).drew, rfl⟩
  | ok y =>
    obtain ⟨t, ht⟩ := hone y rfl
    have hoo : oneOf (.ok y) = .ok t := by
      show Except.ok (y.items.headD .null) = _
      rw [ht]; rfl
    rw [hoo]
    have HC := Lib.hid (hcau.mono (R' := fun e w2 => e = .returned .nilIface ∧ Keeps F w w2 ∧ ∃ s, ParAt (Since F w w2) w2 p y s []) fun e w2 hq => by
      obtain ⟨w1, hq⟩ := hq
      have hq1 : finPost F (w.alloc (.cells #[.nilIface] 26)) p (.ok y) (.returned (.tuple #[])) w1 ∧ e = .returned .nilIface ∧ w2 = w1.setCell ⟨w.heap.size, 0, none⟩ .nilIface := by
        rcases hq with h | ⟨no', at', h1, h2, h3⟩
        · exact h
        · have h4 := h1.2.1
          unfold failE at h4
          cases h4
      obtain ⟨⟨hk, _, s, hpar⟩, rfl, rfl⟩ := hq1
      have hks : Keeps (fun k => k = w.heap.size) w1 (w1.setCell ⟨w.heap.size, 0, none⟩ .nilIface) := (Keeps.refl (fun k => k = w.heap.size) w1).setCell (p := ⟨w.heap.size, 0, none⟩) (.inl rfl) _
      have hpar2 := hpar.apart hks (fun k h e => h.elim (fun h => hRn (e ▸ h)) (fun h => by have := h.1; simp at this; omega))
      have hkk : Keeps F w (w1.setCell ⟨w.heap.size, 0, none⟩ .nilIface) := (hwk.same hk).setCell (p := ⟨w.heap.size, 0, none⟩) (.inr (Nat.le_refl _)) _
      exact ⟨rfl, hkk, s, hpar2.mono (fun k h => h.elim .inl (fun h => .inr ⟨Nat.le_trans hwk.size h.1, Nat.lt_of_lt_of_le h.2 hks.size⟩)) (since_lt hlt hkk.size)⟩)
    have HTT := Lib.hid ht
    clear hkX hR0 hRn hfin hcau hwk hout h hok hlt hself hone c5 c1 hoo ht
    go_enter Tryz.func16, Tryz.ntmps16
    go_wp2_with fail
    refine (HC.out).mono ?_
    rintro e w2 ⟨rfl, hk2, s, hp2⟩
    have hkx : Keeps (fun k => k = p) w2 ((w2.setCell ⟨p, 8, none⟩ .nilIface).setCell ⟨p, 9, none⟩ (.bool true)) := ((Keeps.refl (fun k => k = p) w2).setCell (p := ⟨p, 8, none⟩) (.inl rfl) _).setCell (p := ⟨p, 9, none⟩) (.inl rfl) _
    obtain ⟨hlt2, FL, FM, FP, lb, mb, pileV, vals, hp, hb, hL, hM, hP⟩ := hp2
    have hb8 := set_at (o := 8) hb .nilIface
    have hb9 := set_at (o := 9) hb8 (.bool true)
    have hM9 := hM.apart hkx (fun k h e => hp.self.2.2.1 (e ▸ h))
    rw [HTT.out] at hM9
    have HTR := Lib.hid (tree_any FM _ mb t hM9)
    obtain ⟨d0, d1, d2, d3, d4, d5, d6, d7, d8, d9, df⟩ := cells10 hb
    have h88 : (w2.setCell ⟨p, 8, none⟩ .nilIface).cell? ⟨p, 8, none⟩ = some .nilIface := by rw [cell_at hb8]; rfl
    have h93 : ((w2.setCell ⟨p, 8, none⟩ .nilIface).setCell ⟨p, 9, none⟩ (.bool true)).cell? ⟨p, 3, none⟩ = some (.pointer (some ⟨mb, 0, none⟩)) := by rw [cell_at hb9]; rfl
    have HK2 := Lib.hid hk2
    have HKX := Lib.hid hkx
    have HFM := Lib.hid hp.maker
    clear hk2 hkx hlt2 hp hb hL hM hP hb8 hb9 hM9
    go_wp2_with fail
    refine (HTR.out).mono ?_
    rintro e w3 ⟨rfl, v, rfl, htr⟩
    have HTV := Lib.hid htr
    clear htr
    go_wp2_with fail
    have hk3 : Keeps F w (((w2.setCell ⟨p, 8, none⟩ .nilIface).setCell ⟨p, 9, none⟩ (.bool true)).alloc (.cells #[v] 176)) := (HK2.out.same (HKX.out.mono fun k e => e ▸ HSF.out)).alloc _
    refine bodyPost_ret (v := .tuple #[.pointer (some ⟨((w2.setCell ⟨p, 8, none⟩ .nilIface).setCell ⟨p, 9, none⟩ (.bool true)).heap.size, 0, none⟩), .nilIface]) (by simp [results, Tryz.results16, go_sem]) rfl ⟨hk3, _, v, rfl, heap_alloc_new _ _, ?_, ?_⟩
    · exact (HTV.out.keeps (G := fun _ => False) ((Keeps.refl _ _).alloc _) (fun _ _ => id)).mono (fun k h => (HFM.out k h).mono_r (by simp [World.setCell]))
    · simp [World.setCell]; exact HK2.out.size
end
end Go.Proofs.YtakkmiomhackiaaGreatDoor

/-
  Package parse: New, Read.
-/
namespace Go.Proofs.YtakkmiomhackiaaGreatDoor
open Go.RowKit
set_option maxRecDepth 100000

theorem parNew_any (w : World) (d : Nat) (h1 : 1 ≤ d) (h2 : d ≤ 512) : Calls Tryz.prog 47 #[.int .i64 d] w fun e w' => ∃ p, e = .returned (.tuple #[.pointer (some ⟨p, 0, none⟩), .nilIface]) ∧ Keeps (fun _ => False) w w' ∧ ParAt (Since (fun _ => False) w w') w' p (Ps.new d) (.at_ Lx.new false) [] := by
  have e1 : ¬ (d : Int) < 1 := by omega
  have e2 : (d : Int) ≤ 512 := by omega
  have e3 : ¬ (512 : Int) < (d : Int) := by omega
  have HL := Lib.hid (newLexer_any w)
  obtain ⟨W1, hW1⟩ : ∃ W1, w.alloc (.cells #[.int .i64 0, .nilIface, .bool false, .func (.func 104) #[] #[], .bool false, .int .i64 0, .slice none 0 0, .int .i64 0, .pointer none, .slice none 0 0, .int .i64 0, .int .i32 0, .int .i32 0, .slice none 0 0] 228) = W1 := ⟨_, rfl⟩
  rw [hW1] at HL
  have HW1 := Lib.hid hW1
  clear hW1
  go_enter Tryz.func47, Tryz.ntmps47
  go_wp2_with fail
  refine (HL.out).mono ?_
  rintro e w1 ⟨rfl, rfl⟩
  go_wp2_with fail
  refine (newMaker_any _).mono ?_
  rintro e w2 ⟨rfl, rfl⟩
  have HW2 := Lib.hid HW1.out
  go_wp2_with fail
  have hs1 : w1.heap.size = w.heap.size + 1 := by rw [← HW1.out]; simp
  have hk : Keeps (fun _ => False) w ((w1.alloc (.cells #[.slice none 0 0] 195)).alloc (.cells (parCells (Ps.new d) w.heap.size w1.heap.size (.slice none 0 0)) 136)) := by
    rw [← HW1.out]; exact (((Keeps.refl _ w).alloc _).alloc _).alloc _
  have hbL : ((w1.alloc (.cells #[.slice none 0 0] 195)).alloc (.cells (parCells (Ps.new d) w.heap.size w1.heap.size (.slice none 0 0)) 136)).heap[w.heap.size]? = some (.cells #[.int .i64 0, .nilIface, .bool false, .func (.func 104) #[] #[], .bool false, .int .i64 0, .slice none 0 0, .int .i64 0, .pointer none, .slice none 0 0, .int .i64 0, .int .i32 0, .int .i32 0, .slice none 0 0] 228 (0, 0)) := by
    refine (Below.heap_alloc _ _ _ (by simp; omega)).trans ((Below.heap_alloc _ _ _ (by omega)).trans ?_)
    rw [← HW1.out]; exact heap_alloc_new w _
  have hbM : ((w1.alloc (.cells #[.slice none 0 0] 195)).alloc (.cells (parCells (Ps.new d) w.heap.size w1.heap.size (.slice none 0 0)) 136)).heap[w1.heap.size]? = some (.cells #[.slice none 0 0] 195 (0, 0)) :=
    (Below.heap_alloc _ _ _ (by simp)).trans (heap_alloc_new w1 _)
  have hbP : ((w1.alloc (.cells #[.slice none 0 0] 195)).alloc (.cells (parCells (Ps.new d) w.heap.size w1.heap.size (.slice none 0 0)) 136)).heap[w1.heap.size + 1]? = some (.cells (parCells (Ps.new d) w.heap.size w1.heap.size (.slice none 0 0)) 136 (0, 0)) := by
    have := heap_alloc_new (w1.alloc (.cells #[.slice none 0 0] 195)) (.cells (parCells (Ps.new d) w.heap.size w1.heap.size (.slice none 0 0)) 136)
    rwa [World.size_alloc] at this
  refine bodyPost_ret (v := .tuple #[.pointer (some ⟨w1.heap.size + 1, 0, none⟩), .nilIface]) (by simp [results, Tryz.results47, go_sem]) rfl ⟨w1.heap.size + 1, rfl, hk, ?_⟩
  have hsz : ((w1.alloc (.cells #[.slice none 0 0] 195)).alloc (.cells (parCells (Ps.new d) w.heap.size w1.heap.size (.slice none 0 0)) 136)).heap.size = w.heap.size + 3 := by simp [hs1]
  refine ⟨since_lt (fun _ h => h.elim) hk.size, fun k => k = w.heap.size, fun k => k = w1.heap.size, fun _ => False, w.heap.size, w1.heap.size, .slice none 0 0, [], ⟨?_, ?_, fun _ h => h.elim, ⟨?_, ?_, ?_, id⟩, ?_, fun _ _ h => h, fun _ _ h => h⟩, hbP, ?_, ?_, ?_⟩
  · rintro k rfl; exact .inr ⟨Nat.le_refl _, Nat.lt_of_lt_of_eq (by omega) hsz.symm⟩
  · rintro k rfl; exact .inr ⟨by omega, Nat.lt_of_lt_of_eq (by omega) hsz.symm⟩
  · exact .inr ⟨by omega, Nat.lt_of_lt_of_eq (by omega) hsz.symm⟩
  · omega
  · omega
  · rintro k rfl h; omega
  · exact ⟨rfl, (by rintro k rfl; exact Nat.lt_of_lt_of_eq (by omega) hsz.symm), _, _, _, _, hbL, .nil _ _ _ _, ⟨fun h => (by rcases h with h | h <;> cases h), fun h => (by cases h)⟩⟩
  · exact ⟨rfl, (by rintro k rfl; exact Nat.lt_of_lt_of_eq (by omega) hsz.symm), _, [], hbM, .nil _ _ _ _, ⟨rfl, fun i v t hv => by simp at hv⟩⟩
  · exact ⟨fun _ h => h.elim, .nil _ _ _ _, rfl, fun i u fr hu => by simp at hu, fun i j u hu => by simp at hu⟩
theorem parOk_new (d : Nat) (h2 : d ≤ 512) : ParOk (Ps.new d) 0 := ⟨⟨h2, Nat.zero_le _, Nat.zero_le _, Nat.zero_le _, Nat.zero_le _, .inl rfl, fun m h => (by cases h)⟩, good_new.1, good_new.2, fun h => (by cases h), rfl⟩
section
variable (po : List Tr → List (List UInt8) → List Tr)
theorem parOk_feed {l : List UInt8} : ∀ {x y : Ps} {n : Nat}, ParOk x n → (∀ c ∈ l, PlainC c) → x.feed po l = .ok y → ParOk y (n + 2 * l.length) := by
  induction l with
  | nil => intro x y n hx _ h; cases h; exact hx
  | cons c l ih =>
    intro x y n hx hc h
    unfold Ps.feed at h
    rw [List.foldlM_cons] at h
    cases ht : x.take po c with
    | error e => rw [ht] at h; cases h
    | ok z =>
      rw [ht] at h
      have h1 := parOk_take po hx (hc c (List.mem_cons_self ..)) ht
      have h2 := ih h1 (fun c h => hc c (List.mem_cons_of_mem _ h)) h
      rw [List.length_cons]
      have : n + 2 * (l.length + 1) = n + 2 + 2 * l.length := by omega
      rw [this]; exact h2

def afterFeed (o : Out) : Out := match o with
  | .error e => .error e
  | .ok p => p.finish po
theorem read_after (l : List UInt8) (d : Nat) : Ps.read po l d = afterFeed po ((Ps.new d).feed po l) := rfl
def readTree (l : List UInt8) (d : Nat) : Except (Nat × Nat) Tr := oneOf (Ps.read po l d)
set_option maxHeartbeats 4000000 in
theorem parRead_any (w : World) (l : List UInt8) (d : Nat) (v : Value) (h1 : 1 ≤ d) (h2 : d ≤ 512) (hv : BytesIn (fun k => w.heap.size ≤ k) w v l) (hl : l.length ≤ 134217728) (hpc : ∀ c ∈ l, PlainC c) (hone : ∀ y, Ps.read po l d = .ok y → ∃ t, y.items = [t]) :
    Calls Tryz.prog 12 #[v, .int .i64 d] w fun e w' => treePost (fun _ => False) w (readTree po l d) e w' := by
  have HN := Lib.hid (parNew_any w d h1 h2)
  have HF := Lib.hid (fun (w1 : World) (p : Nat) (hk : Keeps (fun _ => False) w w1) (hp : ParAt (Since (fun _ => False) w w1) w1 p (Ps.new d) (.at_ Lx.new false) []) =>
    parFeed_any po (Since (fun _ => False) w w1) w1 p (Ps.new d) l v hp (parOk_new d h2) (by
      obtain ⟨a, cap, e1, e2, e3, e4⟩ := hv
      exact ⟨a, cap, e1, e2, e3, e4.imp id (fun ⟨g, off, f1, f2, f3⟩ => ⟨g, off, f1, fun h => h.elim id (fun h => f2 h.1), fun i x hi => hk.cell (f3 i x hi) id⟩)⟩) hl hpc)
  obtain ⟨o, ho⟩ : ∃ o, (Ps.new d).feed po l = o := ⟨_, rfl⟩
  rw [ho] at HF
  have hrd : Ps.read po l d = afterFeed po o := by rw [read_after, ho]
  obtain ⟨a, cap, hve, _⟩ := hv
  subst hve
  unfold readTree
  cases o with
  | error er =>
    obtain ⟨no, at_⟩ := er
    rw [hrd]
    show Calls Tryz.prog 12 _ w fun e w' => treePost (fun _ => False) w (.error (no, at_)) e w'
    clear hrd ho hone hpc hl h1 h2
    go_enter Tryz.func12, Tryz.ntmps12
    go_wp2_with fail
    refine (HN.out).mono ?_
    rintro e w1 ⟨p, rfl, hk, hp⟩
    have HFF := Lib.hid (HF.out w1 p hk hp)
    have HK := Lib.hid hk
    clear hk hp
    go_wp2_with fail
    refine (HFF.out).mono ?_
    rintro e w2 ⟨hk2, he⟩
    have HK2 := Lib.hid hk2
    clear hk2
    unfold spotV at he
    have he : e = .returned (.iface 151 (.agg #[.int .i64 no, .int .i64 at_])) := he
    subst he
    go_wp2_with fail
    exact bodyPost_ret (v := .tuple #[.pointer none, .iface 151 (.agg #[.int .i64 no, .int .i64 at_])]) (by simp [results, Tryz.results12, go_sem]) rfl ⟨HK.out.andThen HK2.out, rfl⟩
  | ok y =>
    have hyo := parOk_feed po (parOk_new d h2) hpc ho
    have hrd : Ps.read po l d = y.finish po := hrd
    rw [hrd] at hone ⊢
    have HFI := Lib.hid (fun (G : Nat → Prop) (w2 : World) (p : Nat) (hp : ParAt G w2 p y (.at_ y.lex false) []) => parFinish_any po G w2 p y _ hp hyo (by omega) hone)
    obtain ⟨tr, htr⟩ : ∃ tr, oneOf (y.finish po) = tr := ⟨_, rfl⟩
    rw [htr] at HFI ⊢
    clear hrd ho hone hpc hl h1 h2 hyo htr
    go_enter Tryz.func12, Tryz.ntmps12
    go_wp2_with fail
    refine (HN.out).mono ?_
    rintro e w1 ⟨p, rfl, hk, hp⟩
    have HFF := Lib.hid (HF.out w1 p hk hp)
    have HK := Lib.hid hk
    clear hk hp
    go_wp2_with fail
    refine (HFF.out).mono ?_
    rintro e w2 ⟨hk2, rfl, hp2⟩
    have HFF2 := Lib.hid (HFI.out _ w2 p hp2)
    have HK2 := Lib.hid hk2
    clear hk2 hp2
    go_wp2_with fail
    refine (HFF2.out).mono ?_
    have hks := HK.out.andThen HK2.out
    rintro e w3 ⟨hk3, hpost⟩
    have hsub : ∀ k, Since (Since (fun _ => False) w w1) w1 w2 k → Since (fun _ => False) w w2 k := fun k h => h.trans HK.out.size HK2.out.size
    have hk4 : Keeps (fun _ => False) w w3 := hks.andThen (hk3.mono hsub)
    have HK4 := Lib.hid hk4
    have HSZ := Lib.hid (And.intro hks.size hk3.size)
    have HSUB := Lib.hid hsub
    clear hk3 hk4 hks hsub
    cases tr with
    | error er =>
      obtain ⟨no, at_⟩ := er
      have he : e = .returned (.tuple #[.pointer none, .iface 151 (.agg #[.int .i64 no, .int .i64 at_])]) := hpost
      clear hpost
      subst he
      go_wp2_with fail
      exact bodyPost_ret (v := .tuple #[.pointer none, .iface 151 (.agg #[.int .i64 no, .int .i64 at_])]) (by simp [results, Tryz.results12, go_sem]) rfl ⟨HK4.out, rfl⟩
    | ok t =>
      obtain ⟨T, v, he, hb, htr, hT⟩ := hpost
      have HB := Lib.hid hb
      have HTR := Lib.hid htr
      have HT := Lib.hid hT
      clear hb htr hT
      subst he
      go_wp2_with fail
      refine bodyPost_ret (v := .tuple #[.pointer (some ⟨T, 0, none⟩), .nilIface]) (by simp [results, Tryz.results12, go_sem]) rfl ⟨HK4.out, T, v, rfl, HB.out, HTR.out.mono (fun k h => Since.trans (w1 := w2) (h.elim (fun h => .inl (HSUB.out k h)) .inr) HSZ.out.1 HSZ.out.2), Nat.le_trans HSZ.out.1 HT.out⟩
end
end Go.Proofs.YtakkmiomhackiaaGreatDoor

/-
  Windows whose elements have several cells, and what 'append' of several elements does to them. Laws of worlds.
-/
namespace Go.Proofs.YtakkmiomhackiaaGreatDoor
open Go.RowKit
set_option maxRecDepth 100000

/-- The slice v has n elements of s cells each: cs. -/
def WinN (s e : Nat) (w : World) (v : Value) (n : Nat) (cs : List Value) : Prop := cs.length = n * s ∧ ((v = .slice none 0 0 ∧ n = 0) ∨
  ∃ g off cap cur, v = .slice (some ⟨g, off, none⟩) n cap ∧ w.heap[g]? = some (.cells cur e (0, 0)) ∧ n ≤ cap ∧ off + cap * s ≤ cur.size ∧ cap ≤ maxLen ∧ ∀ (j : Nat) (u : Value), cs[j]? = some u → cur[off + j]? = some u)
/-- The type t is a slice of e; an element has s cells, so many bytes. -/
def ElemN (t e s bytes : Nat) : Prop := Tryz.prog.underlying t = some (.slice e) ∧ 0 < s ∧ ∃ i z, Tryz.prog.info? e = some i ∧ i.zero = some z ∧ i.size = s ∧ i.bytes = bytes ∧ z.cells.size = s

theorem setCells_block (g : Nat) : ∀ (news : List Value) (o : Nat) (w : World) (cur : Array Value) (T : TypeId), w.heap[g]? = some (.cells cur T (0, 0)) →
    ∃ cur', (w.setCells g o news).heap[g]? = some (.cells cur' T (0, 0)) ∧ cur'.size = cur.size ∧ (∀ j u, news[j]? = some u → o + j < cur.size → cur'[o + j]? = some u) ∧ (∀ k, k < o → cur'[k]? = cur[k]?) ∧ Keeps (fun k => k = g) w (w.setCells g o news) := by
  intro news
  induction news with
  | nil => intro o w cur T h; exact ⟨cur, h, rfl, fun j u hj => by simp at hj, fun _ _ => rfl, Keeps.refl _ _⟩
  | cons x news ih =>
    intro o w cur T h
    obtain ⟨cur', h1, h2, h3, h4, h5⟩ := ih (o + 1) (w.setCell ⟨g, o, none⟩ x) _ T (set_at h x)
    refine ⟨cur', h1, by rw [h2]; simp, ?_, ?_, ((Keeps.refl (fun k => k = g) w).setCell (p := ⟨g, o, none⟩) (.inl rfl) x).same h5⟩
    · intro j u hj hlt
      cases j with
      | zero =>
        simp at hj; subst hj
        rw [Nat.add_zero, h4 o (by omega), Array.getElem?_setIfInBounds, if_pos rfl, if_pos (by omega)]
      | succ j =>
        have := h3 j u (by simpa using hj) (by simp; omega)
        rw [show o + (j + 1) = o + 1 + j by omega]; exact this
    · intro k hk
      rw [h4 k (by omega), Array.getElem?_setIfInBounds, if_neg (by omega)]

section
variable {s e : Nat} {w : World} {v : Value} {n : Nat} {cs : List Value}
theorem WinN.nil (s e : Nat) (w : World) : WinN s e w (.slice none 0 0) 0 [] := ⟨by simp, .inl ⟨rfl, rfl⟩⟩
theorem WinN.keeps {F : Nat → Prop} {w' : World} (h : WinN s e w v n cs) (hk : Keeps F w w') (hF : ∀ k, v.ownBlock = some k → ¬ F k) : WinN s e w' v n cs := by
  refine ⟨h.1, ?_⟩
  rcases h.2 with hn | ⟨g, off, cap, cur, rfl, hg, rest⟩
  · exact .inl hn
  · exact .inr ⟨g, off, cap, cur, rfl, hk.blk hg (hF g rfl), rest⟩
theorem WinN.shape (h : WinN s e w v n cs) : ∃ a c, v = .slice a n c := by
  rcases h.2 with ⟨rfl, rfl⟩ | ⟨g, off, cap, cur, rfl, _⟩
  · exact ⟨none, 0, rfl⟩
  · exact ⟨_, _, rfl⟩
theorem WinN.lt (h : WinN s e w v n cs) {k : Nat} (hk : v.ownBlock = some k) : k < w.heap.size := by
  rcases h.2 with ⟨rfl, _⟩ | ⟨g, off, cap, cur, rfl, hg, _⟩
  · cases hk
  · cases hk; exact lt_of_block hg
theorem WinN.ne (h : WinN s e w v n cs) {b : Nat} {c : Array Value} {T : TypeId} (hb : w.heap[b]? = some (.cells c T (0, 0))) (hT : T ≠ e) : v.ownBlock ≠ some b := by
  rcases h.2 with ⟨rfl, _⟩ | ⟨g, off, cap, cur, rfl, hg, _⟩
  · simp [Value.ownBlock]
  · intro hc
    simp only [Value.ownBlock, Option.some.injEq] at hc
    subst hc
    rw [hb] at hg
    simp only [Option.some.injEq, Obj.cells.injEq] at hg
    exact hT hg.2.1
theorem WinN.cell {g off cap : Nat} (h : WinN s e w (.slice (some ⟨g, off, none⟩) n cap) n cs) {j : Nat} {u : Value} (hx : cs[j]? = some u) : w.cell? ⟨g, off + j, none⟩ = some u := by
  rcases h.2 with ⟨hv, _⟩ | ⟨g', off', cap', cur, hv, hg, hc, ho, hm, hi⟩
  · cases hv
  · cases hv
    rw [cell_at hg]; exact hi j u hx
theorem WinN.of_own {B : Nat} (h : w.ownsRow B e s v n cs) : WinN s e w v n cs ∧ ∀ k, v.ownBlock = some k → B ≤ k := by
  rcases h.2 with ⟨rfl, rfl⟩ | ⟨g, cap, cur, rfl, hB, hg, hc, hm, hs, ht⟩
  · exact ⟨⟨h.1, .inl ⟨rfl, rfl⟩⟩, fun k hk => by cases hk⟩
  · refine ⟨⟨h.1, .inr ⟨g, 0, cap, cur, rfl, hg, hc, by omega, hm, fun j u hj => ?_⟩⟩, fun k hk => by cases hk; exact hB⟩
    have hlt : j < cs.length := (List.getElem?_eq_some_iff.1 hj).1
    have := congrArg (fun x => x[j]?) ht
    rw [h.1] at hlt
    simp only [List.getElem?_take, if_pos hlt, Array.getElem?_toList, hj] at this
    simpa using this

/-- 'append' of m elements, m at least 1. -/
theorem append_winN {t bytes : Nat} {ops : Array Oper} {rest : List Oper} {o : Oper} {a : Act} {Q : Exit → Act → World → Prop} (E : ElemN t e s bytes) (hgd : o.guard = none) (so x : Operand)
    (ho : o.op = .call { callee := .builtin .append, args := #[so, x], argTypes := #[t, t] }) (hs : a.eval so = v) (hown : WinN s e w v n cs) (ad : Addr) (m c : Nat) (news : List Value) (hx : a.eval x = .slice (some ad) m c) (hnl : news.length = m * s)
    (hnews : ∀ j u, news[j]? = some u → w.cell? (ad.add j) = some u) (h1 : ∀ u ∈ news, u.oneCell' = true) (hm1 : 1 ≤ m) (hb : (n + m) * bytes ≤ 140737488355328) (hm : n + m ≤ maxLen)
    (h : ∀ g off cap w', WinN s e w' (.slice (some ⟨g, off, none⟩) (n + m) cap) (n + m) (cs ++ news) → (v.ownBlock = some g ∨ (w.heap.size ≤ g ∧ g < w'.heap.size)) → Keeps (fun k => v.ownBlock = some k) w w' → wpList Tryz.prog ops Q rest (a.put o.dst (.slice (some ⟨g, off, none⟩) (n + m) cap)) w') :
    wpList Tryz.prog ops Q (o :: rest) a w := by
  obtain ⟨ht, hs0, i, z, hi, hz, hsz, hby, hzs⟩ := E
  have hgk : ∀ {w' : World} {row : Option Nat}, w.grownBy w' row → (∀ k, row = some k → v.ownBlock = some k) → Keeps (fun k => v.ownBlock = some k) w w' := fun hg hr => (Keeps.refl _ w).grown hg (fun k e => .inl (hr k e))
  have hfin : ∀ v' w', w'.ownsRow w.heap.size e s v' (n + m) (cs ++ news) → w.grownBy w' none → wpList Tryz.prog ops Q rest (a.put o.dst v') w' := by
    intro v' w' hrow hgr
    obtain ⟨hw, hB⟩ := WinN.of_own hrow
    rcases hrow.2 with ⟨_, hn⟩ | ⟨g, cap, cur, rfl, hb', hg, _⟩
    · omega
    · exact h g 0 cap w' hw (.inr ⟨hb', lt_of_block hg⟩) (hgk hgr (fun k e => by cases e))
  obtain ⟨hlen, hown⟩ := hown
  rcases hown with ⟨rfl, rfl⟩ | ⟨g, off, cap, cur, rfl, hg, hc, hof, hcm, hcell⟩
  · exact wpList_append_grows w hgd so x t ho e i z s bytes ht hi hz hsz hby hzs hs0 none 0 0 cs hs (fun _ => ⟨rfl, rfl⟩) hlen (fun b hb => by cases hb) ad m c news hx hnl hnews h1 (by omega) hm hb hfin
  · refine wpList_append_arg w hgd so x t ho e i z s bytes ht hi hz hsz hby hzs hs0 g off n cap cs hs hlen (fun j u hj => by rw [cell_at hg]; exact hcell j u hj) ad m c news hx hnl hnews h1 ?_ hm hb ?_ (fun _ => hfin)
    · intro hroom j hj
      have hle : (n + m) * s ≤ cap * s := Nat.mul_le_mul_right s hroom
      rw [Nat.add_mul] at hle
      rw [hnl] at hj
      refine ⟨?_, free_at hg _⟩
      rw [cell_at hg, Array.getElem?_eq_getElem (by omega)]; rfl
    · intro hroom
      have hle : (n + m) * s ≤ cap * s := Nat.mul_le_mul_right s hroom
      rw [Nat.add_mul] at hle
      obtain ⟨cur', h1', h2', h3', h4', h5'⟩ := setCells_block g news (off + n * s) w cur e hg
      refine h g off cap _ ⟨by rw [List.length_append, hlen, hnl, Nat.add_mul], .inr ⟨g, off, cap, cur', rfl, h1', hroom, by omega, hcm, ?_⟩⟩ (.inl rfl) (h5'.mono (fun k e => by rw [e]; rfl))
      intro j u hj
      by_cases hjl : j < cs.length
      · rw [List.getElem?_append_left hjl] at hj
        rw [h4' _ (by omega)]
        exact hcell j u hj
      · rw [List.getElem?_append_right (by omega)] at hj
        have hjn := (List.getElem?_eq_some_iff.1 hj).1
        have := h3' (j - cs.length) u hj (by omega)
        rw [show off + n * s + (j - cs.length) = off + j by omega] at this
        exact this
/-- The same, as a run. -/
theorem run_append_winN {t ty bytes : Nat} (E : ElemN t e s bytes) (hown : WinN s e w v n cs) (ad : Addr) (m c : Nat) (news : List Value) (hnl : news.length = m * s)
    (hnews : ∀ j u, news[j]? = some u → w.cell? (ad.add j) = some u) (h1 : ∀ u ∈ news, u.oneCell' = true) (hm1 : 1 ≤ m) (hb : (n + m) * bytes ≤ 140737488355328) (hm : n + m ≤ maxLen) :
    ∃ g off cap w', (Builtin.append_ #[t, t] ty #[v, .slice (some ad) m c]).run Tryz.prog w = .ok (.slice (some ⟨g, off, none⟩) (n + m) cap) w' ∧ WinN s e w' (.slice (some ⟨g, off, none⟩) (n + m) cap) (n + m) (cs ++ news) ∧ (v.ownBlock = some g ∨ (w.heap.size ≤ g ∧ g < w'.heap.size)) ∧ Keeps (fun k => v.ownBlock = some k) w w' := by
  obtain ⟨ht, hs0, i, z, hi, hz, hsz, hby, hzs⟩ := E
  have hgk : ∀ {w' : World} {row : Option Nat}, w.grownBy w' row → (∀ k, row = some k → v.ownBlock = some k) → Keeps (fun k => v.ownBlock = some k) w w' := fun hg hr => (Keeps.refl _ w).grown hg (fun k e => .inl (hr k e))
  have hfin : ∀ v' w', w'.ownsRow w.heap.size e s v' (n + m) (cs ++ news) → (∀ k, v'.ownBlock = some k → True) → w.grownBy w' none → ∃ g cap, v' = .slice (some ⟨g, 0, none⟩) (n + m) cap ∧ WinN s e w' (.slice (some ⟨g, 0, none⟩) (n + m) cap) (n + m) (cs ++ news) ∧ (v.ownBlock = some g ∨ (w.heap.size ≤ g ∧ g < w'.heap.size)) ∧ Keeps (fun k => v.ownBlock = some k) w w' := by
    intro v' w' hrow _ hgr
    obtain ⟨hw, hB⟩ := WinN.of_own hrow
    rcases hrow.2 with ⟨_, hn⟩ | ⟨g, cap, cur, rfl, hb', hg, _⟩
    · omega
    · exact ⟨g, cap, rfl, hw, .inr ⟨hb', lt_of_block hg⟩, hgk hgr (fun k e => by cases e)⟩
  obtain ⟨hlen, hown⟩ := hown
  rcases hown with ⟨rfl, rfl⟩ | ⟨g, off, cap, cur, rfl, hg, hc, hof, hcm, hcell⟩
  · obtain rfl : cs = [] := List.eq_nil_of_length_eq_zero (by simpa using hlen)
    obtain ⟨v', w', hrun, r1, r2, _⟩ := run_append_own (P := Tryz.prog) w w.heap.size t ty e i z s bytes ht hi hz hsz hby hzs hs0 (.slice none 0 0) 0 [] (World.ownsRow_nil w _ e s) ad m c news hnl hnews h1 hm hb (Nat.le_refl _)
    obtain ⟨g, cap, rfl, h2, h3, h4⟩ := hfin v' w' r1 (fun _ _ => trivial) r2
    exact ⟨g, 0, cap, w', hrun, h2, h3, h4⟩
  · by_cases hr : n + m ≤ cap
    · subst hsz
      have hle : (n + m) * i.size ≤ cap * i.size := Nat.mul_le_mul_right _ hr
      rw [Nat.add_mul] at hle
      have hspare : ∀ j, j < news.length → (w.cell? ⟨g, off + n * i.size + j, none⟩).isSome = true := by
        intro j hj
        rw [hnl] at hj
        rw [cell_at hg, Array.getElem?_eq_getElem (by omega)]; rfl
      have hrun := run_append_room_cells (P := Tryz.prog) w t ty e i ht hi g off n cap ad m c news hnl hnews h1 hr hspare (fun j _ => free_at hg _)
      obtain ⟨cur', h1', h2', h3', h4', h5'⟩ := setCells_block g news (off + n * i.size) w cur e hg
      refine ⟨g, off, cap, _, hrun, ⟨by rw [List.length_append, hlen, hnl, Nat.add_mul], .inr ⟨g, off, cap, cur', rfl, h1', hr, by omega, hcm, ?_⟩⟩, .inl rfl, h5'.mono (fun k e => by rw [e]; rfl)⟩
      intro j u hj
      by_cases hjl : j < cs.length
      · rw [List.getElem?_append_left hjl] at hj
        rw [h4' _ (by omega)]
        exact hcell j u hj
      · rw [List.getElem?_append_right (by omega)] at hj
        have hjn := (List.getElem?_eq_some_iff.1 hj).1
        have := h3' (j - cs.length) u hj (by omega)
        rw [show off + n * i.size + (j - cs.length) = off + j by omega] at this
        exact this
    · obtain ⟨v', w', hrun, r1, r2⟩ := run_append_arg_grows (P := Tryz.prog) w t ty e i z s bytes ht hi hz hsz hby hzs hs0 ⟨g, off, none⟩ n cap cs hlen (fun j u hj => by rw [Addr.add_lit, cell_at hg]; exact hcell j u hj) ad m c news hnl hnews (by omega) hm hb
      obtain ⟨g', cap', rfl, h2, h3, h4⟩ := hfin v' w' r1 (fun _ _ => trivial) r2
      exact ⟨g', 0, cap', w', hrun, h2, h3, h4⟩
theorem step_append_winN {t bytes : Nat} {ops : Array Oper} {o : Oper} {a : Act} {K : Act → World → Prop} {Q : Exit → Act → World → Prop} {D : Prop} (E : ElemN t e s bytes) (hgd : o.guard = none) (so x : Operand)
    (ho : o.op = .call { callee := .builtin .append, args := #[so, x], argTypes := #[t, t] }) (hs : a.eval so = v) (hown : WinN s e w v n cs) (ad : Addr) (m c : Nat) (news : List Value) (hx : a.eval x = .slice (some ad) m c) (hnl : news.length = m * s)
    (hnews : ∀ j u, news[j]? = some u → w.cell? (ad.add j) = some u) (h1 : ∀ u ∈ news, u.oneCell' = true) (hm1 : 1 ≤ m) (hb : (n + m) * bytes ≤ 140737488355328) (hm : n + m ≤ maxLen)
    (h : ∀ g off cap w', WinN s e w' (.slice (some ⟨g, off, none⟩) (n + m) cap) (n + m) (cs ++ news) → (v.ownBlock = some g ∨ (w.heap.size ≤ g ∧ g < w'.heap.size)) → Keeps (fun k => v.ownBlock = some k) w w' → K (a.put o.dst (.slice (some ⟨g, off, none⟩) (n + m) cap)) w') :
    if Region.wanted o (yielded ops a.tmps) = true then Oper.wp Tryz.prog o a w K Q else D := by
  have hw : Region.wanted o (yielded ops a.tmps) = true := by simp [Region.wanted, hgd]
  rw [if_pos hw]
  obtain ⟨g, off, cap, w', hrun, h2, h3, h4⟩ := run_append_winN (ty := o.type) E hown ad m c news hnl hnews h1 hm1 hb hm
  unfold Oper.wp execOp
  simp only [ho, resolve, invoke, builtin, Sem.run_bind, Sem.run_pure, Result.andThen_ok, List.map_toArray, List.map_cons, List.map_nil, hs, hx, hrun]
  exact h g off cap w' h2 h3 h4
theorem firstNone' (w : World) (k : Nat) (A : Option Addr) (c : Nat) : (Builtin.firstCells k 0 (.slice A 0 c)).run Tryz.prog w = .ok #[] w := by
  cases A with
  | none => simp [Builtin.firstCells]
  | some ad =>
    have h := run_loadCells_list (P := Tryz.prog) w ad [] (fun j v hj => by simp at hj)
    simpa [Builtin.firstCells] using h
/-- 'append' of nothing. -/
theorem append_winN0 {t bytes : Nat} {ops : Array Oper} {rest : List Oper} {o : Oper} {a : Act} {Q : Exit → Act → World → Prop} (E : ElemN t e s bytes) (hgd : o.guard = none) (so x : Operand)
    (ho : o.op = .call { callee := .builtin .append, args := #[so, x], argTypes := #[t, t] }) (hs : a.eval so = v) (hown : WinN s e w v n cs) (A : Option Addr) (c : Nat) (hx : a.eval x = .slice A 0 c)
    (h : wpList Tryz.prog ops Q rest (a.put o.dst v) w) :
    wpList Tryz.prog ops Q (o :: rest) a w := by
  obtain ⟨ht, hs0, i, z, hi, hz, hsz, hby, hzs⟩ := E
  obtain ⟨b0, L, C, hv, hle⟩ : ∃ b0 L C, v = .slice b0 L C ∧ L ≤ C := by
    rcases hown.2 with ⟨rfl, _⟩ | ⟨g, off, cap, cur, rfl, hg, hc, _⟩
    · exact ⟨_, _, _, rfl, Nat.le_refl _⟩
    · exact ⟨_, _, _, rfl, hc⟩
  subst hv
  have hsrc : Src Tryz.prog i.size t (.slice A 0 c) 0 [] w := ⟨.inl ⟨e, ht⟩, fun w' => by simp [Builtin.lenOf], firstNone' w _ A c, firstNone' w.drew _ A c, by simp, fun u hu => by simp at hu⟩
  have hrun := run_append_nothing (P := Tryz.prog) w t t o.type e i ht hi b0 L C hle (.slice A 0 c) hsrc
  refine wpList_plain hgd fun K hK => ?_
  unfold Oper.wp
  simp [execOp, ho, resolve, invoke, builtin, hs, hx, hrun, Result.andThen]
  exact hK _ _ h
theorem step_append_winN0 {t bytes : Nat} {ops : Array Oper} {o : Oper} {a : Act} {K : Act → World → Prop} {Q : Exit → Act → World → Prop} {D : Prop} (E : ElemN t e s bytes) (hgd : o.guard = none) (so x : Operand)
    (ho : o.op = .call { callee := .builtin .append, args := #[so, x], argTypes := #[t, t] }) (hs : a.eval so = v) (hown : WinN s e w v n cs) (A : Option Addr) (c : Nat) (hx : a.eval x = .slice A 0 c)
    (h : K (a.put o.dst v) w) :
    if Region.wanted o (yielded ops a.tmps) = true then Oper.wp Tryz.prog o a w K Q else D := by
  have hw : Region.wanted o (yielded ops a.tmps) = true := by simp [Region.wanted, hgd]
  rw [if_pos hw]
  obtain ⟨ht, hs0, i, z, hi, hz, hsz, hby, hzs⟩ := E
  obtain ⟨b0, L, C, hv, hle⟩ : ∃ b0 L C, v = .slice b0 L C ∧ L ≤ C := by
    rcases hown.2 with ⟨rfl, _⟩ | ⟨g, off, cap, cur, rfl, hg, hc, _⟩
    · exact ⟨_, _, _, rfl, Nat.le_refl _⟩
    · exact ⟨_, _, _, rfl, hc⟩
  subst hv
  have hsrc : Src Tryz.prog i.size t (.slice A 0 c) 0 [] w := ⟨.inl ⟨e, ht⟩, fun w' => by simp [Builtin.lenOf], firstNone' w _ A c, firstNone' w.drew _ A c, by simp, fun u hu => by simp at hu⟩
  have hrun := run_append_nothing (P := Tryz.prog) w t t o.type e i ht hi b0 L C hle (.slice A 0 c) hsrc
  unfold Oper.wp execOp
  simp only [ho, resolve, invoke, builtin, Sem.run_bind, Sem.run_pure, Result.andThen_ok, List.map_toArray, List.map_cons, List.map_nil, hs, hx, hrun]
  exact h
end
end Go.Proofs.YtakkmiomhackiaaGreatDoor

/-
  Package seq, first part: New, part.
-/
namespace Go.Proofs.YtakkmiomhackiaaGreatDoor
open Go.RowKit
set_option maxRecDepth 100000

theorem elemByteN : ElemN 22 5 1 1 := ⟨Tryz.underlying22, by decide, by
  have h : (Tryz.prog.info? 5).map (fun i => (i.zero, i.size, i.bytes)) = some (some (.int .u8 0), 1, 1) := by kernel_rfl
  obtain ⟨i, h1, h2, h3, h4⟩ := info_parts h
  exact ⟨i, _, h1, h2, h3, h4, rfl⟩⟩
theorem seqNew_any (w : World) (d : Nat) (h1 : 1 ≤ d) (h2 : d ≤ 512) : Calls Tryz.prog 26 #[.int .i64 d] w fun e w' => e = .returned (.tuple #[.pointer (some ⟨w.heap.size, 0, none⟩), .nilIface]) ∧ w' = w.alloc (.cells #[.int .i64 d, .int .i64 0, .bool false, .bool false, .slice none 0 0, .int .i64 0, .int .i64 0, .slice none 0 0] 159) := by
  have e1 : ¬ (d : Int) < 1 := by omega
  have e2 : (d : Int) ≤ 512 := by omega
  go_enter Tryz.func26, Tryz.ntmps26
  go_wp2
  exact bodyPost_ret (v := .tuple #[.pointer (some ⟨w.heap.size, 0, none⟩), .nilIface]) (by simp [results, Tryz.results26, go_sem]) rfl ⟨rfl, rfl⟩
theorem cells8 {w : World} {b : Nat} {v0 v1 v2 v3 v4 v5 v6 v7 : Value} {T : TypeId} (h : w.heap[b]? = some (.cells #[v0, v1, v2, v3, v4, v5, v6, v7] T (0, 0))) :
    w.cell? ⟨b, 0, none⟩ = some v0 ∧ w.cell? ⟨b, 1, none⟩ = some v1 ∧ w.cell? ⟨b, 2, none⟩ = some v2 ∧ w.cell? ⟨b, 3, none⟩ = some v3 ∧ w.cell? ⟨b, 4, none⟩ = some v4 ∧ w.cell? ⟨b, 5, none⟩ = some v5 ∧ w.cell? ⟨b, 6, none⟩ = some v6 ∧ w.cell? ⟨b, 7, none⟩ = some v7 ∧ ∀ o, w.frozen? ⟨b, o, none⟩ = false :=
  ⟨cell_at h, cell_at h, cell_at h, cell_at h, cell_at h, cell_at h, cell_at h, cell_at h, free_at h⟩

/-- What part leaves. -/
def PartRet (w : World) (r : Nat) (openV : Value) (l b : List UInt8) (c : Value → Array Value) (e : Ending) (w' : World) : Prop :=
  e = .returned (.tuple #[]) ∧ ∃ openV', w'.heap[r]? = some (.cells (c openV') 159 (0, 0)) ∧ WinN 1 5 w' openV' (l ++ b.take (16777217 - l.length)).length ((l ++ b.take (16777217 - l.length)).map encB) ∧ (∀ k, openV'.ownBlock = some k → openV.ownBlock = some k ∨ (w.heap.size ≤ k ∧ k < w'.heap.size)) ∧ Keeps (fun k => k = r ∨ openV.ownBlock = some k) w w'

set_option maxHeartbeats 4000000 in
theorem part_any (w : World) (r place size : Nat) (v0 v2 v3 v5 v7 openV bV : Value) (l b : List UInt8) (h : w.heap[r]? = some (.cells #[v0, .int .i64 place, v2, v3, openV, v5, .int .i64 size, v7] 159 (0, 0))) (hw : WinN 1 5 w openV l.length (l.map encB)) (hl : l.length ≤ 16777217)
    (hb : BytesIn (fun k => k = r ∨ openV.ownBlock = some k) w bV b) (hbl : b.length ≤ 4294967296) (hpl : place ≤ 4611686018427387904) (hsz : size ≤ 4611686018427387904) :
    Calls Tryz.prog 64 #[.pointer (some ⟨r, 0, none⟩), bV] w fun e w' => PartRet w r openV l b (fun u => #[v0, .int .i64 (place + b.length : Nat), v2, v3, u, v5, .int .i64 (size + b.length : Nat), v7]) e w' := by
  obtain ⟨c0, c1, c2, c3, c4, c5, c6, c7, cf⟩ := cells8 h
  obtain ⟨a, cap, rfl, hcap, hcm, hcells⟩ := hb
  have HNE := Lib.hid (hw.ne h (by decide))
  obtain ⟨ta, tc, htv⟩ := hw.shape
  obtain ⟨room, hroom⟩ : ∃ room, 16777217 - l.length = room := ⟨_, rfl⟩
  obtain ⟨k, hk⟩ : ∃ k, min b.length room = k := ⟨_, rfl⟩
  have hmax : max ((16777217 : Int) - (l.length : Int)) 0 = (room : Int) := by omega
  have hmin : min (b.length : Int) (room : Int) = (k : Int) := by omega
  have hw1 : IntKind.i64.wrap ((16777217 : Int) - (l.length : Int)) = (16777217 : Int) - (l.length : Int) := by rw [IntKind.wrap_i64]; omega
  have hk0 : (0 : Int) ≤ (k : Int) := by omega
  have hkc : (k : Int) ≤ (cap : Int) := by omega
  have hw2 : IntKind.i64.wrap ((size : Int) + (b.length : Int)) = (size : Int) + (b.length : Int) := by rw [IntKind.wrap_i64]; omega
  have hw3 : IntKind.i64.wrap ((place : Int) + (b.length : Int)) = (place : Int) + (b.length : Int) := by rw [IntKind.wrap_i64]; omega
  have HW := Lib.hid hw
  have H := Lib.hid h
  have HK := Lib.hid hk
  have HROOM := Lib.hid hroom
  have HCELLS := Lib.hid hcells
  have hcm2 : cap ≤ 9223372036854775807 := by unfold maxLen at hcm; omega
  subst htv
  clear h hw hk hroom hcells hcm
  have hsr : Keeps (fun k => k = r ∨ (Value.slice ta l.length tc).ownBlock = some k) w w.drew := (Keeps.refl _ w).drew
  rcases Nat.eq_zero_or_pos k with hk0' | hk1
  · subst hk0'
    have htake : b.take (16777217 - l.length) = [] := by
      rw [HROOM.out]
      have := HK.out
      rcases Nat.eq_zero_or_pos room with h0 | h0
      · rw [h0]; rfl
      · have : b.length = 0 := by omega
        rw [List.eq_nil_of_length_eq_zero this]; simp
    have HTAKE := Lib.hid htake
    have HW2 := Lib.hid (show WinN 1 5 w.drew (.slice ta l.length tc) l.length (l.map encB) from HW.out)
    clear htake hsr
    go_enter Tryz.func64, Tryz.ntmps64
    go_wp2_with fail
    go_region_law (refine step_append_winN0 elemByteN rfl _ _ rfl rfl HW2.out _ _ rfl ?_)
    all_goals
      go_wp2_with fail
      all_goals
        go_end0
        have hks : Keeps (fun k => k = r ∨ (Value.slice ta l.length tc).ownBlock = some k) w (((w.drew.setCell ⟨r, 4, none⟩ (.slice ta l.length tc)).setCell ⟨r, 6, none⟩ (.int .i64 ((size : Int) + (b.length : Int)))).setCell ⟨r, 1, none⟩ (.int .i64 ((place : Int) + (b.length : Int)))) := ((((Keeps.refl _ w).drew).setCell (p := ⟨r, 4, none⟩) (.inl (.inl rfl)) _).setCell (p := ⟨r, 6, none⟩) (.inl (.inl rfl)) _).setCell (p := ⟨r, 1, none⟩) (.inl (.inl rfl)) _
        refine ⟨rfl, .slice ta l.length tc, set_at (set_at (set_at (w := w.drew) H.out _) _) _, ?_, fun k hk => .inl hk, hks⟩
        rw [HTAKE.out, List.append_nil]
        exact HW.out.keeps (F := fun k => k = r) ((((((Keeps.refl (fun k => k = r) w).drew).setCell (p := ⟨r, 4, none⟩) (.inl rfl) _).setCell (p := ⟨r, 6, none⟩) (.inl rfl) _).setCell (p := ⟨r, 1, none⟩) (.inl rfl) _)) (fun k e hk => HNE.out (e.trans (congrArg some hk)))
  · obtain ⟨g, off, rfl, hgF, hcell⟩ := HCELLS.out.resolve_left (fun e => by subst e; simp at hk1 HK; have := HK.out; omega)
    have htl : (b.take (16777217 - l.length)).length = k := by rw [HROOM.out, List.length_take, Nat.min_comm]; exact HK.out
    have HW2 := Lib.hid (show WinN 1 5 w.drew (.slice ta l.length tc) l.length (l.map encB) from HW.out)
    obtain ⟨bt, hbt⟩ : ∃ bt, b.take (16777217 - l.length) = bt := ⟨_, rfl⟩
    have hcell2 : ∀ j u, (bt.map encB)[j]? = some u → w.drew.cell? ((⟨g, off, none⟩ : Addr).add j) = some u := by
      intro j u hj
      have hplain : (⟨g, off, none⟩ : Addr).add j = ⟨g, off + j, none⟩ := by unfold Addr.add; split <;> simp_all
      rw [hplain]
      rw [List.getElem?_map] at hj
      cases hbj : bt[j]? with
      | none => rw [hbj] at hj; cases hj
      | some x =>
        rw [hbj] at hj
        simp at hj; subst hj
        rw [← hbt, List.getElem?_take] at hbj
        split at hbj
        · exact hcell j x hbj
        · cases hbj
    have HC2 := Lib.hid hcell2
    have HBT := Lib.hid hbt
    rw [hbt] at htl
    have HTL := Lib.hid htl
    clear hsr hcell hcell2 hbt htl
    have hgr : g ≠ r := fun e => hgF (.inl e)
    have HGR := Lib.hid hgr
    clear hgF hgr
    go_enter Tryz.func64, Tryz.ntmps64
    go_wp2_with fail
    have hones : ∀ u ∈ bt.map encB, u.oneCell' = true := fun u hu => by
      obtain ⟨x, _, rfl⟩ := List.mem_map.1 hu
      rfl
    have HON := Lib.hid hones
    have hnl : (bt.map encB).length = k * 1 := by simp [HTL.out]
    have HNL := Lib.hid hnl
    clear hones hnl
    have hbm : l.length + k ≤ maxLen := by unfold maxLen; omega
    have hbb : (l.length + k) * 1 ≤ 140737488355328 := by omega
    have HBM := Lib.hid hbm
    have HBBB := Lib.hid hbb
    clear hbm hbb
    go_region_law (refine step_append_winN elemByteN rfl _ _ rfl rfl HW2.out ⟨g, off, none⟩ k k (bt.map encB) rfl HNL.out HC2.out HON.out hk1 HBBB.out HBM.out ?_; intro g' off' cap' w' hwin hgb hkk; have hb' := hkk.blk (show w.drew.heap[r]? = _ from H.out) HNE.out; obtain ⟨d0, d1, d2, d3, d4, d5, d6, d7, df⟩ := cells8 hb')
    all_goals
      have HB := Lib.hid hb'
      have HWIN := Lib.hid hwin
      have HGB := Lib.hid hgb
      have HKK := Lib.hid hkk
      have HNG := Lib.hid (hwin.ne hb' (by decide))
      clear hb' hwin hgb hkk c0 c1 c2 c3 c4 c5 c6 c7 cf
      go_wp2_with fail
      go_end0
      have hkr : Keeps (fun k => k = r) w' (((w'.setCell ⟨r, 4, none⟩ (.slice (some ⟨g', off', none⟩) (l.length + k) cap')).setCell ⟨r, 6, none⟩ (.int .i64 ((size : Int) + (b.length : Int)))).setCell ⟨r, 1, none⟩ (.int .i64 ((place : Int) + (b.length : Int)))) := (((Keeps.refl (fun k => k = r) w').setCell (p := ⟨r, 4, none⟩) (.inl rfl) _).setCell (p := ⟨r, 6, none⟩) (.inl rfl) _).setCell (p := ⟨r, 1, none⟩) (.inl rfl) _
      have hkw : Keeps (fun k => k = r ∨ (Value.slice ta l.length tc).ownBlock = some k) w w' := ⟨HKK.out.os, HKK.out.tape, HKK.out.output, HKK.out.size, fun k hk hn => HKK.out.block k hk (fun e => hn (.inr e))⟩
      refine ⟨rfl, .slice (some ⟨g', off', none⟩) (l.length + k) cap', set_at (set_at (set_at HB.out _) _) _, ?_, ?_, hkw.same (hkr.mono fun k e => .inl e)⟩
      · rw [HBT.out, List.length_append, HTL.out, List.map_append]
        exact HWIN.out.keeps hkr (fun k e hk => HNG.out (e.trans (congrArg some hk)))
      · intro k' hk'
        cases hk'
        exact HGB.out.imp id (fun h => ⟨h.1, Nat.lt_of_lt_of_le h.2 hkr.size⟩)
end Go.Proofs.YtakkmiomhackiaaGreatDoor

/-
  Package seq, second part: wrong.
-/
namespace Go.Proofs.YtakkmiomhackiaaGreatDoor
open Go.RowKit
set_option maxRecDepth 100000

/-- What is wrong with a record that is whole, if that is told without reading it. -/
def wrongOf (begun : Bool) (frm size : Nat) (open_ : List UInt8) : Option (Nat × Nat) :=
  if begun = false then some (260, 0) else if 16777216 < size then some (3, frm + 16777216) else if open_.getLast? ≠ some 10 then some (261, frm + size) else none
def wrongV (o : Option (Nat × Nat)) : Value := match o with
  | some (no, at_) => spotV no at_
  | none => .nilIface

set_option maxHeartbeats 4000000 in
theorem wrong_any (w : World) (r frm size : Nat) (begun : Bool) (v0 v1 v3 v7 openV : Value) (l : List UInt8) (h : w.heap[r]? = some (.cells #[v0, v1, .bool begun, v3, openV, .int .i64 frm, .int .i64 size, v7] 159 (0, 0))) (hw : WinN 1 5 w openV l.length (l.map encB)) (hs : 1 ≤ size) (hl : l.length = min size 16777217)
    (hf : frm ≤ 4611686018427387904) (hz : size ≤ 4611686018427387904) :
    Calls Tryz.prog 96 #[.pointer (some ⟨r, 0, none⟩)] w fun e w' => e = .returned (wrongV (wrongOf begun frm size l)) ∧ Below w.heap.size w w' := by
  obtain ⟨c0, c1, c2, c3, c4, c5, c6, c7, cf⟩ := cells8 h
  unfold wrongOf
  cases begun with
  | false =>
    rw [if_pos rfl]
    clear h hw
    go_enter Tryz.func96, Tryz.ntmps96
    go_wp2_with fail
    go_ret
    exact ⟨rfl, Below.refl _ _⟩
  | true =>
    rw [if_neg (by decide)]
    by_cases hbig : 16777216 < size
    · rw [if_pos hbig]
      have e1 : (16777216 : Int) < (size : Int) := by omega
      have hw1 : IntKind.i64.wrap ((frm : Int) + 16777216) = (frm : Int) + 16777216 := by rw [IntKind.wrap_i64]; omega
      clear h hw hbig
      go_enter Tryz.func96, Tryz.ntmps96
      go_wp2_with fail
      go_ret
      exact ⟨rfl, Below.refl _ _⟩
    · rw [if_neg hbig]
      have e1 : (size : Int) ≤ 16777216 := by omega
      have hll : l.length = size := by omega
      obtain ⟨a, tc, htv⟩ := hw.shape
      subst htv
      obtain ⟨g, off, rfl⟩ : ∃ g off, a = some ⟨g, off, none⟩ := by
        rcases hw.2 with ⟨_, h0⟩ | ⟨g, off, cap, cur, hv, _⟩
        · omega
        · injection hv with h1 _ _; exact ⟨g, off, h1⟩
      obtain ⟨n, hn⟩ : ∃ n, l.length = n + 1 := ⟨l.length - 1, by omega⟩
      have hlast : ∃ c, l.getLast? = some c ∧ w.cell? ⟨g, off + n, none⟩ = some (.int .u8 ((c.toNat : Nat) : Int)) := by
        have hnl : n < l.length := by omega
        refine ⟨l[n], by rw [List.getLast?_eq_getElem?, hn, Nat.add_sub_cancel, List.getElem?_eq_getElem hnl], ?_⟩
        rcases hw.2 with ⟨hv, _⟩ | ⟨g', off', cap', cur, hv, hg, hc, ho, hm, hi⟩
        · cases hv
        · cases hv
          rw [cell_at hg]
          refine hi n _ ?_
          rw [List.getElem?_map, List.getElem?_eq_getElem hnl]; rfl
      obtain ⟨c, hlc, hcell⟩ := hlast
      rw [hn] at c4
      have hr1 : IntKind.i64.wrap ((n : Int) + 1 - 1) = (n : Int) := by rw [IntKind.wrap_i64]; omega
      have hnb : n ≤ 16777216 := by omega
      have hr2 : IntKind.i64.wrap (n : Int) = (n : Int) := by rw [IntKind.wrap_i64]; omega
      have hw1 : IntKind.i64.wrap ((frm : Int) + (size : Int)) = (frm : Int) + (size : Int) := by rw [IntKind.wrap_i64]; omega
      by_cases h10 : c = 10
      · have hne : ¬ l.getLast? ≠ some 10 := by rw [hlc, h10]; simp
        rw [if_neg hne]
        rw [h10] at hcell
        have hcell : w.cell? ⟨g, off + n, none⟩ = some (.int .u8 10) := hcell
        clear h hw hbig hlc hne hn hll h10
        go_enter Tryz.func96, Tryz.ntmps96
        go_wp2_with fail
        go_region
        go_wp2_with fail
        go_ret
        exact ⟨rfl, (Below.refl _ _).drew⟩
      · have hne : l.getLast? ≠ some 10 := by rw [hlc]; intro e; exact h10 (Option.some.inj e)
        rw [if_pos hne]
        obtain ⟨n1, n2, n3⟩ := byte_ne3 (c := c) (d := 10) (n := 10) h10 rfl
        clear h hw hbig hlc hne hn hll h10
        go_enter Tryz.func96, Tryz.ntmps96
        go_wp2_with fail
        go_region
        go_wp2_with fail
        go_region
        go_wp2_with fail
        go_ret
        exact ⟨rfl, (Below.refl _ _).drew.drew⟩
end Go.Proofs.YtakkmiomhackiaaGreatDoor
