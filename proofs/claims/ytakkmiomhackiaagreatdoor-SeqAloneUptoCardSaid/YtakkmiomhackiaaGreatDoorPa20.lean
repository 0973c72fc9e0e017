/-
  The program, one part of its walk: Lx7, Lx14, Lx22, Lx24, Lx23, Pl1. Conditions: none.
-/
import Derived.Test.YtakkmiomhackiaaGreatDoorPa08
import Derived.Test.YtakkmiomhackiaaGreatDoorPa18
import Derived.Test.YtakkmiomhackiaaGreatDoorPa10
import Derived.Test.YtakkmiomhackiaaGreatDoorPa14
import Derived.Test.YtakkmiomhackiaaGreatDoorPa12
import Derived.Test.YtakkmiomhackiaaGreatDoorPa03
import Derived.Test.YtakkmiomhackiaaGreatDoorPa00
set_option linter.all false
set_option maxRecDepth 100000
set_option maxHeartbeats 16000000
open Go.Proofs.Tryz
namespace Go.Proofs.YtakkmiomhackiaaGreatDoor
open Go.RowKit
theorem next_none (w : World) (b : Nat) (v0 v1 v2 v3 v4 v5 v6 v7 v8 v9 va vb vc : Value) (a : Option Addr) (cap : Nat) (h : w.heap[b]? = some (.cells #[v0, v1, v2, v3, v4, v5, v6, v7, v8, v9, va, vb, vc, .slice a 0 cap] 228 (0, 0))) :
 Calls prog 111 #[.pointer (some ⟨b, 0, none⟩)] w fun e w' => e = .returned (.tuple #[.nilIface, .bool false]) ∧ w' = w := by
 obtain ⟨c0, c1, c2, c3, c4, c5, c6, c7, c8, c9, ca, cb, cc, cd, cf⟩ := cells14 h;clear h;go_enter func111, ntmps111;go_wp2_with fail;exact bodyPost_ret (v := .tuple #[.nilIface, .bool false]) (by simp [results, results111, go_sem]) rfl ⟨rfl, rfl⟩
theorem next_some (w : World) (b : Nat) (v0 v1 v2 v3 v4 v5 v6 v7 v8 v9 va vb vc tokV : Value) (T : TypeId) (tv : Value) (toks : List Value) (h : w.heap[b]? = some (.cells #[v0, v1, v2, v3, v4, v5, v6, v7, v8, v9, va, vb, vc, tokV] 228 (0, 0)))
 (hw : Win 232 id w tokV (.iface T tv :: toks)) (hl : toks.length ≤ 1000) :
 Calls prog 111 #[.pointer (some ⟨b, 0, none⟩)] w fun e w' => e = .returned (.tuple #[.iface T tv, .bool true]) ∧ ∃ g off cap, w'.heap[b]? = some (.cells #[v0, v1, v2, v3, v4, v5, v6, v7, v8, v9, va, vb, vc, .slice (some ⟨g, off, none⟩) toks.length cap] 228 (0, 0)) ∧
  Win 232 id w' (.slice (some ⟨g, off, none⟩) toks.length cap) toks ∧ tokV.ownBlock = some g ∧ Keeps (fun k => k = b) w w' := by
 obtain ⟨c0, c1, c2, c3, c4, c5, c6, c7, c8, c9, ca, cb, cc, cd, cf⟩ := cells14 h;have HNE := hZ (hw.ne h (by decide));have H := hZ h;clear h;rcases hw with ⟨_, hn⟩ | ⟨g, off, cap, cur, rfl, hg, hc, ho, hm, hi⟩
 ·cases hn
 ·have hcell : w.cell? ⟨g, off, none⟩ = some (.iface T tv) := by
   have := hi 0 (.iface T tv) rfl;rw [cell_at hg]; simpa using this
  have hwin : Win 232 id w (.slice (some ⟨g, off + 1, none⟩) toks.length (cap - 1)) toks :=
   Win.tail (x := .iface T tv) (.inr ⟨g, off, cap, cur, rfl, hg, hc, ho, hm, hi⟩)
  have HW := hZ hwin
  have h0 : cap = 1 → Win 232 id w (.slice (some ⟨g, off, none⟩) toks.length 0) toks := fun hc1 => by
   have hl0 : toks = [] := List.eq_nil_of_length_eq_zero (by simp at hc; omega);subst hl0;exact .inr ⟨g, off, 0, cur, rfl, hg, Nat.le_refl _, by omega, Nat.zero_le _, fun i x hx => by cases hx⟩
  have HW0 := hZ h0;clear h0;have hgb : g ≠ b := fun e => HNE.out (by rw [e]; rfl)
  have HGB := hZ hgb;simp only [List.length_cons] at *;have hle : toks.length + 1 ≤ cap := hc;have hcap : cap ≤ 9223372036854775807 := by unfold maxLen at hm; omega
  clear hg hc ho hm hi hwin hgb;go_enter func111, ntmps111;go_wp2_with fail
  ·exact bodyPost_ret (v := .tuple #[.iface T tv, .bool true]) (by simp [results, results111, go_sem]) rfl ⟨rfl, g, off, 0, set_at H.out _, (HW0.out (by first | rfl | omega)).keeps ((Keeps.refl (fun k => k = b) w).setCell (p := ⟨b, 13, none⟩) (.inl rfl) _) (fun k e hk => HGB.out ((Option.some.inj e).trans hk)), rfl, (Keeps.refl (fun k => k = b) w).setCell (p := ⟨b, 13, none⟩) (.inl rfl) _⟩
  ·exact bodyPost_ret (v := .tuple #[.iface T tv, .bool true]) (by simp [results, results111, go_sem]) rfl ⟨rfl, g, off + 1, cap - 1, set_at H.out _, HW.out.keeps ((Keeps.refl (fun k => k = b) w).setCell (p := ⟨b, 13, none⟩) (.inl rfl) _) (fun k e hk => HGB.out ((Option.some.inj e).trans hk)), rfl, (Keeps.refl (fun k => k = b) w).setCell (p := ⟨b, 13, none⟩) (.inl rfl) _⟩
theorem heldNow_any (w : World) (b pl st : Nat) (isIn : Bool) (v3 v6 v7 v8 v9 va vb vc vd : Value) (h : w.heap[b]? = some (.cells #[.int .i64 pl, .nilIface, .bool false, v3, .bool isIn, .int .i64 st, v6, v7, v8, v9, va, vb, vc, vd] 228 (0, 0))) (hle : st ≤ pl) (hpl : pl ≤ 1073741824) :
 Calls prog 83 #[.pointer (some ⟨b, 0, none⟩)] w fun e w' => e = .returned (.int .i64 ((if isIn then pl - st else 0 : Nat) : Int)) ∧ Below w.heap.size w w' := by
 have HH := hZ (held2_any w b pl st isIn _ h rfl rfl rfl hle hpl);obtain ⟨n, hn⟩ : ∃ n, (if isIn then pl - st else 0 : Nat) = n := ⟨_, rfl⟩;rw [hn] at HH ⊢;obtain ⟨c0, c1, c2, c3, c4, c5, c6, c7, c8, c9, ca, cb, cc, cd, cf⟩ := cells14 h;clear h hn;go_enter func83, ntmps83;go_wp2_with fail;refine (HH.out).mono ?_;rintro e w1 ⟨rfl, hb⟩;go_wp2_with fail;go_ret;exact ⟨rfl, hb⟩
theorem feeds_ne {w : World} {f pl b : Nat} {held : List UInt8} {c : Array Value} {T : TypeId} (h : Feeds w f pl held) (hb : w.heap[b]? = some (.cells c T (0, 0))) (hT : T ≠ 305) : f ≠ b := by
 obtain ⟨_, a0, a1, a2, a3, h2, _⟩ := h;intro e; subst e;rw [h2] at hb;simp at hb;exact hT hb.2.symm
theorem feeds_win {α : Type} {e : Nat} {enc : α → Value} {w : World} {f pl : Nat} {held : List UInt8} {v : Value} {l : List α} (h : Feeds w f pl held) (hw : Win e enc w v l) (hT : e ≠ 305) : v.ownBlock ≠ some f := by
 obtain ⟨_, a0, a1, a2, a3, h2, _⟩ := h;exact hw.ne h2 (fun e => hT e.symm)
theorem win_win {α β : Type} {e e' : Nat} {enc : α → Value} {enc' : β → Value} {w : World} {v v' : Value} {l : List α} {l' : List β} (h : Win e enc w v l) (h' : Win e' enc' w v' l') (hT : e ≠ e') {k : Nat} (hk : v.ownBlock = some k) : v'.ownBlock ≠ some k := by
 rcases h with ⟨rfl, _⟩ | ⟨g, off, cap, cur, rfl, hg, _⟩
 ·cases hk
 ·cases hk; exact h'.ne hg hT
theorem step_within (F : Nat → Prop) (w : World) (b : Nat) (x : Lx) (toks : List Tok) (c : UInt8) (h : LexAt F w b x false toks) (hst : x.st = .within) (hst2 : x.start ≤ x.place) (hsay : x.says.length ≤ 1073741824) (hpl : x.place ≤ 16777216) (htl : toks.length ≤ 1000) :
 Calls prog 138 #[.pointer (some ⟨b, 0, none⟩), .int .u8 ((c.toNat : Nat) : Int)] w fun e w' => StepPost F w b x.place toks (withinStep x c) e w' := by
 have h0 := h;obtain ⟨hF, hlt, rawV, chV, saysV, tokV, hb, hw, hs⟩ := h;obtain ⟨hsw, f, fp, rfl, hfe, hFf, hfp⟩ := hs.text (by rw [hst]; rfl);have htl2 : (toks.map tokEnc).length ≤ 1000 := by simpa using htl
 have hfb : f ≠ b := feeds_ne hfe hb (by decide);unfold withinStep
 by_cases h1 : x.held = [] ∧ c = 34
 ·rw [if_pos h1];obtain ⟨hh, rfl⟩ := h1;rw [hh] at hfe;refine (within_end w b f fp x.place x.start _ _ _ _ _ _ _ _ _ saysV tokV x.says _ hb hfe hsw.1 hw.1 htl2 (by omega) (by omega)).mono fun e w' ht => ?_
  obtain ⟨he, hk, hl⟩ := told_at (y := x.told) (tok := .str x.start (x.place + 1 - x.start) x.says) hF hlt hw rfl rfl (fun u => rfl) ht;exact .good he hk hl
 rw [if_neg h1]
 by_cases h2 : x.held = [] ∧ c = 92
 ·rw [if_pos h2];obtain ⟨hh, rfl⟩ := h2;have hfe' := hfe;rw [hh] at hfe';refine (within_escape w b f fp _ _ _ _ _ _ _ _ _ _ _ _ _ hb hfe').mono ?_;rintro e w' ⟨rfl, hb2, hk⟩;have hk2 : Keeps F w w' := hk.mono (fun k e => e ▸ hF);have hfe2 := hfe.keeps hk hfb;refine .good rfl hk2 ⟨.inl hF, since_lt hlt hk.size, _, _, _, tokV, hb2, by rw [List.append_nil]; exact hw.keeps (G := fun k => k = b) hk (fun k e hk => hw.1.ne hb (by decide) (e.trans (congrArg some hk))), ⟨fun hs => ?_, fun _ => ⟨hsw.keeps (G := fun k => k = b) hk (fun k e hk => hsw.1.ne hb (by decide) (e.trans (congrArg some hk))), f, fp, rfl, hfe2, .inl hFf, hfp⟩⟩⟩;simp at hs
 rw [if_neg h2]
 by_cases h3 : x.held = [] ∧ c.toNat < 32
 ·rw [if_pos h3];rw [h3.1] at hfe;refine (within_control w b f fp _ _ _ _ _ _ _ _ _ _ _ _ _ c hb hfe h3.2).mono ?_;rintro e w' ⟨rfl, rfl⟩;exact .bad (by decide) rfl (Keeps.refl _ _) (by rw [List.append_nil]; exact h0.dead.mono (fun k hk => .inl hk) (since_lt hlt (Nat.le_refl _)))
 rw [if_neg h3]
 have hpi : plainIn x.held c := by
  unfold plainIn
  by_cases hh : x.held = []
  ·exact .inr ⟨fun e => h1 ⟨hh, e⟩, fun e => h2 ⟨hh, e⟩, Nat.le_of_not_lt (fun e => h3 ⟨hh, e⟩)⟩
  ·exact .inl hh
 cases hfo : feedOne x.held c with
 | none =>
  refine (within_bad w b f fp _ _ _ _ _ _ _ _ _ _ _ _ _ c _ hb hfe (by omega) hpi hfo).mono ?_;rintro e w' ⟨rfl, hk⟩;have hk2 : Keeps F w w' := hk.mono (fun k e => e ▸ hFf);exact .bad (by decide) rfl hk2 ⟨.inl hF, since_lt hlt hk.size, _, _, _, _, _, _, _, _, _, _, tokV, hk.blk hb (fun e => hfb e.symm), by rw [List.append_nil]; exact hw.keeps (G := fun k => k = f) hk (fun k e hk => feeds_win hfe hw.1 (by decide) (e.trans (congrArg some hk)))⟩
 | some h' =>
  refine (within_more w b f fp _ _ _ _ _ _ _ _ _ _ _ _ saysV c _ h' x.says hb hfe hsw.1 hsay (by omega) hpi hfo).mono ?_;rintro e w' ⟨rfl, g, off, cap, hb2, hwin, hg, hfe2, hk⟩
  have hk2 : Keeps F w w' := hk.mono (fun k e => by
   rcases e with rfl | rfl | e
   ·exact hF
   ·exact hFf
   ·exact hsw.2 k e)
  refine .good rfl hk2 ⟨.inl hF, since_lt hlt hk.size, rawV, _, _, tokV, by rw [hst] at hb2 ⊢; simpa using hb2, ?_, ⟨fun hs => ?_, fun _ => ⟨?_, f, fp + 1, rfl, hfe2, .inl hFf, ?_⟩⟩⟩
  ·rw [List.append_nil];refine ⟨hw.1.keeps hk ?_, fun k hk3 => .inl (hw.2 k hk3)⟩;intro k hk3 hk4;rcases hk4 with rfl | rfl | hk4
   ·exact hw.1.ne hb (by decide) hk3
   ·exact feeds_win hfe hw.1 (by decide) hk3
   ·exact win_win hsw.1 hw.1 (by decide) hk4 hk3
  ·simp [hst] at hs
  ·refine ⟨by simpa using hwin, ?_⟩;intro k hk3;cases hk3;exact hg.elim (fun e => .inl (hsw.2 _ e)) (fun hle => .inr ⟨hle, hwin.lt rfl⟩)
  ·simp; omega
def EncRet (w : World) (l : List UInt8) (e : Ending) (w' : World) : Prop :=
 ∃ g cap, e = .returned (.tuple #[.slice (some ⟨g, 0, none⟩) l.length cap, .nilIface]) ∧ (∀ i x, l[i]? = some x → w'.cell? ⟨g, i, none⟩ = some (encB x)) ∧ Below w.heap.size w w'
theorem encode_any (r : Nat) (hr : IsRune r) (w : World) : Calls prog 224 #[.int .i32 r] w fun e w' => EncRet w (runeBytes r) e w' := by
 have HC := hZ (character_any r hr)
 have hcv : ∀ w, (convert 21 9 (.int .i32 r)).run prog w = .ok (.string ⟨(runeBytes r).toArray⟩) w := fun w => by
  rw [run_convert_int_string w 21 9 .i32 r (by kernel_rfl) underlying9, encode_rune hr]
 obtain ⟨s, hs⟩ : ∃ s : ByteArray, (⟨(runeBytes r).toArray⟩ : ByteArray) = s := ⟨_, rfl⟩;rw [hs] at hcv;have hconv := fun w => run_bytes_of_string (P := prog) w 9 22 5 s underlying9 underlying22 underlying5
 have hl : (runeBytes r) = s.data.toList := by rw [← hs]
 rw [hl];have hsz : s.data.toList.length = s.size := Array.length_toList;clear hs hl hr;go_enter func224, ntmps224;go_wp2_with fail;refine (HC.out _).mono ?_;rintro e w1 ⟨rfl, rfl⟩;go_wp2_with fail;refine bodyPost_ret (v := .tuple #[.slice (some ⟨w1.heap.size, 0, none⟩) s.size (grownCap w1 s.size 0 5), .nilIface]) (by simp [results, results224, go_sem]) rfl ?_;refine ⟨w1.heap.size, grownCap w1 s.size 0 5, by rw [hsz], fun i x hx => ?_, ?_⟩
 ·have hlt : i < s.data.size := by have := (List.getElem?_eq_some_iff.1 hx).1; simpa using this
  have hxx : s.data[i] = x := by
   rw [List.getElem?_eq_getElem (by simpa using hlt)] at hx
   simpa using hx
  have hh := heap_alloc_new w1 (.cells (bytesRow s (grownCap w1 s.size 0 5)) 5 ((bytesRow s (grownCap w1 s.size 0 5)).size, (bytesRow s (grownCap w1 s.size 0 5)).size + 1))
  show (w1.alloc _).cell? ⟨w1.heap.size, i, none⟩ = _
  rw [cell_any hh, bytesRow_at s _ i hlt, hxx]
 ·exact ((Below.refl _ _).alloc (Nat.le_refl _) _).drew
def TextRet (w : World) (b : Nat) (saysV : Value) (l : List UInt8) (c : Value → Array Value) (e : Ending) (w' : World) : Prop := e = .returned (.tuple #[]) ∧ ∃ g off cap, w'.heap[b]? = some (.cells (c (.slice (some ⟨g, off, none⟩) l.length cap)) 228 (0, 0)) ∧
 Win 5 encB w' (.slice (some ⟨g, off, none⟩) l.length cap) l ∧ (saysV.ownBlock = some g ∨ w.heap.size ≤ g) ∧ Keeps (fun k => k = b ∨ saysV.ownBlock = some k) w w'
theorem whole_high (w : World) (b dg cd' : Nat) (v0 v1 v2 v3 v4 v5 v6 v7 v8 v9 vd : Value) (h : w.heap[b]? = some (.cells #[v0, v1, v2, v3, v4, v5, v6, v7, v8, v9, .int .i64 dg, .int .i32 cd', .int .i32 0, vd] 228 (0, 0))) (h1 : 55296 ≤ cd') (h2 : cd' ≤ 56319) :
 Calls prog 204 #[.pointer (some ⟨b, 0, none⟩)] w fun e w' => e = .returned (.tuple #[]) ∧ w'.heap[b]? = some (.cells #[v0, v1, v2, .func (.func 223) #[] #[], v4, v5, v6, v7, v8, v9, .int .i64 dg, .int .i32 cd', .int .i32 cd', vd] 228 (0, 0)) ∧ Keeps (fun k => k = b) w w' := by
 obtain ⟨c0, c1, c2, c3, c4, c5, c6, c7, c8, c9, ca, cb, cc, cd, cf⟩ := cells14 h;have H := hZ h;have e1 : (55296 : Int) ≤ (cd' : Int) := by omega
 have e2 : (cd' : Int) ≤ 56319 := by omega
 clear h;go_enter func204, ntmps204;go_wp2_with fail;exact bodyPost_ret (results_none rfl _ _ _) rfl ⟨rfl, set_at (set_at H.out _) _, ((Keeps.refl (fun k => k = b) w).setCell (p := ⟨b, 12, none⟩) (.inl rfl) _).setCell (p := ⟨b, 3, none⟩) (.inl rfl) _⟩
theorem whole_one (w : World) (b dg cd' : Nat) (v0 v1 v2 v3 v4 v5 v6 v7 v8 saysV vd : Value) (l : List UInt8) (h : w.heap[b]? = some (.cells #[v0, v1, v2, v3, v4, v5, v6, v7, v8, saysV, .int .i64 dg, .int .i32 cd', .int .i32 0, vd] 228 (0, 0))) (hn : ¬ (55296 ≤ cd' ∧ cd' ≤ 56319)) (hr : IsRune cd')
 (hw : Win 5 encB w saysV l) (hl : l.length ≤ 1073741824) :
 Calls prog 204 #[.pointer (some ⟨b, 0, none⟩)] w fun e w' => TextRet w b saysV (l ++ runeBytes cd') (fun v => #[v0, v1, v2, .func (.func 138) #[] #[], v4, v5, v6, v7, v8, v, .int .i64 dg, .int .i32 cd', .int .i32 0, vd]) e w' := by
 obtain ⟨c0, c1, c2, c3, c4, c5, c6, c7, c8, c9, ca, cb, cc, cd, cf⟩ := cells14 h;have hlt := lt_of_block h;obtain ⟨ta, tc, htv⟩ := hw.shape;have HNE := hZ (hw.ne h (by decide));have H := hZ h;have HW := hZ hw.toN;have HE := hZ (encode_any cd' hr);have HSZ := hZ (Nat.le_refl w.heap.size);have HK0 := hZ (Keeps.refl (fun k => k = b ∨ saysV.ownBlock = some k) w);have hlen := runeBytes_len cd';obtain ⟨R, hR⟩ : ∃ R, runeBytes cd' = R := ⟨_, rfl⟩;rw [hR] at HE hlen ⊢;obtain ⟨m, hm⟩ : ∃ m, R.length = m + 1 := ⟨R.length - 1, by omega⟩;have hm3 : m ≤ 3 := by omega
 have HM := hZ hm;have HL := hZ hl;have hcase : (cd' : Int) < 55296 ∨ ((55296 : Int) ≤ (cd' : Int) ∧ ¬ (cd' : Int) ≤ 56319) := by unfold IsRune at hr; omega
 clear h hw hr hR hlen hm hl hn;subst htv;rcases hcase with hcase | ⟨hcase, hcase2⟩
 ·have hcase3 : ¬ (55296 : Int) ≤ (cd' : Int) := by omega
  go_enter func204, ntmps204;go_wp2_with fail;refine (HE.out _).mono ?_;rintro e w1 ⟨g1, cap1, rfl, hcell, hb1⟩;have hb' := keep H.out hb1;obtain ⟨d0, d1, d2, d3, d4, d5, d6, d7, d8, d9, da, db, dc, dd, df⟩ := cells14 hb';have HB1 := hZ hb';have HBE := hZ hb1;have HW1 := hZ (HW.out.keeps (F := fun _ => False) (Keeps.of_below _ hb1) (fun _ _ => id));have HCELL := hZ hcell;rw [HM.out];clear hb' hb1 hcell c0 c1 c2 c3 c4 c5 c6 c7 c8 c9 ca cb cc cd cf
  go_wp2_with (at_builtin; refine append_winN elemB1 rfl _ _ rfl rfl HW1.out ⟨g1, 0, none⟩ (m + 1) cap1 (R.map encB) rfl ?_ ?_ ?_ ?_ ?_ ?_ ?_)
  ·rw [List.length_map, HM.out]; omega
  ·intro j u hj;rw [List.getElem?_map] at hj;cases hlj : R[j]? with
   | none => rw [hlj] at hj; cases hj
   | some y =>
    rw [hlj] at hj;simp at hj;subst hj;have hp : (⟨g1, 0, none⟩ : Addr).add j = ⟨g1, j, none⟩ := by unfold Addr.add; split <;> simp_all
    rw [hp];exact HCELL.out j y hlj
  ·intro u hu;rw [List.mem_map] at hu;obtain ⟨y, _, rfl⟩ := hu;rfl
  ·omega
  ·have := HL.out; omega
  ·have := HL.out; unfold maxLen; omega
  intro g off cap w2 hw2 hg2 hk2;have hwin := hw2;rw [← List.map_append] at hwin;have hwin := hwin.toWin;have hbb := hk2.blk HB1.out (fun e => HNE.out e);have HWN := hZ hwin;have HNG := hZ (hw2.ne hbb (by decide));have HG2 := hZ hg2;have HK2 := hZ hk2;have HB2 := hZ hbb;obtain ⟨q0, q1, q2, q3, q4, q5, q6, q7, q8, q9, qa, qb, qc, qd, qf⟩ := cells14 hbb;clear hw2 hwin hbb hg2 hk2 d0 d1 d2 d3 d4 d5 d6 d7 d8 d9 da db dc dd df;go_wp2_with fail
  go_end0
  have hks : Keeps (fun k => k = b) w2 ((w2.setCell ⟨b, 9, none⟩ (.slice (some ⟨g, off, none⟩) (l.length + (m + 1)) cap)).setCell ⟨b, 3, none⟩ (.func (.func 138) #[] #[])) := ((Keeps.refl (fun k => k = b) w2).setCell (p := ⟨b, 9, none⟩) (.inl rfl) _).setCell (p := ⟨b, 3, none⟩) (.inl rfl) _;have hlen : (l ++ R).length = l.length + (m + 1) := by rw [List.length_append, HM.out]
  refine ⟨rfl, g, off, cap, ?_, ?_, HG2.out.imp id (fun h => Nat.le_trans HSZ.out (Nat.le_trans HBE.out.size h.1)), ?_⟩
  ·rw [hlen];exact set_at (set_at HB2.out _) _
  ·rw [hlen];exact HWN.out.keeps hks (fun k e hk => HNG.out (e.trans (congrArg some hk)))
  ·exact ((HK0.out.same (Keeps.of_below _ HBE.out)).same (HK2.out.mono (fun k h => .inr h))).same (hks.mono (fun k h => .inl h))
 ·go_enter func204, ntmps204;go_wp2_with fail;refine (HE.out _).mono ?_;rintro e w1 ⟨g1, cap1, rfl, hcell, hb1⟩;have hb' := keep H.out hb1;obtain ⟨d0, d1, d2, d3, d4, d5, d6, d7, d8, d9, da, db, dc, dd, df⟩ := cells14 hb';have HB1 := hZ hb';have HBE := hZ hb1;have HW1 := hZ (HW.out.keeps (F := fun _ => False) (Keeps.of_below _ hb1) (fun _ _ => id));have HCELL := hZ hcell;rw [HM.out];clear hb' hb1 hcell c0 c1 c2 c3 c4 c5 c6 c7 c8 c9 ca cb cc cd cf
  go_wp2_with (at_builtin; refine append_winN elemB1 rfl _ _ rfl rfl HW1.out ⟨g1, 0, none⟩ (m + 1) cap1 (R.map encB) rfl ?_ ?_ ?_ ?_ ?_ ?_ ?_)
  ·rw [List.length_map, HM.out]; omega
  ·intro j u hj;rw [List.getElem?_map] at hj;cases hlj : R[j]? with
   | none => rw [hlj] at hj; cases hj
   | some y =>
    rw [hlj] at hj;simp at hj;subst hj;have hp : (⟨g1, 0, none⟩ : Addr).add j = ⟨g1, j, none⟩ := by unfold Addr.add; split <;> simp_all
    rw [hp];exact HCELL.out j y hlj
  ·intro u hu;rw [List.mem_map] at hu;obtain ⟨y, _, rfl⟩ := hu;rfl
  ·omega
  ·have := HL.out; omega
  ·have := HL.out; unfold maxLen; omega
  intro g off cap w2 hw2 hg2 hk2;have hwin := hw2;rw [← List.map_append] at hwin;have hwin := hwin.toWin;have hbb := hk2.blk HB1.out (fun e => HNE.out e);have HWN := hZ hwin;have HNG := hZ (hw2.ne hbb (by decide));have HG2 := hZ hg2;have HK2 := hZ hk2;have HB2 := hZ hbb;obtain ⟨q0, q1, q2, q3, q4, q5, q6, q7, q8, q9, qa, qb, qc, qd, qf⟩ := cells14 hbb;clear hw2 hwin hbb hg2 hk2 d0 d1 d2 d3 d4 d5 d6 d7 d8 d9 da db dc dd df;go_wp2_with fail
  go_end0
  have hks : Keeps (fun k => k = b) w2 ((w2.setCell ⟨b, 9, none⟩ (.slice (some ⟨g, off, none⟩) (l.length + (m + 1)) cap)).setCell ⟨b, 3, none⟩ (.func (.func 138) #[] #[])) := ((Keeps.refl (fun k => k = b) w2).setCell (p := ⟨b, 9, none⟩) (.inl rfl) _).setCell (p := ⟨b, 3, none⟩) (.inl rfl) _;have hlen : (l ++ R).length = l.length + (m + 1) := by rw [List.length_append, HM.out]
  refine ⟨rfl, g, off, cap, ?_, ?_, HG2.out.imp id (fun h => Nat.le_trans HSZ.out (Nat.le_trans HBE.out.size h.1)), ?_⟩
  ·rw [hlen];exact set_at (set_at HB2.out _) _
  ·rw [hlen];exact HWN.out.keeps hks (fun k e hk => HNG.out (e.trans (congrArg some hk)))
  ·exact ((HK0.out.same (Keeps.of_below _ HBE.out)).same (HK2.out.mono (fun k h => .inr h))).same (hks.mono (fun k h => .inl h))
theorem whole_pair (w : World) (b dg cd' hi : Nat) (v0 v1 v2 v3 v4 v5 v6 v7 v8 saysV vd : Value) (l : List UInt8) (h : w.heap[b]? = some (.cells #[v0, v1, v2, v3, v4, v5, v6, v7, v8, saysV, .int .i64 dg, .int .i32 cd', .int .i32 hi, vd] 228 (0, 0))) (h1 : 55296 ≤ hi) (h2 : hi ≤ 56319) (h3 : 56320 ≤ cd') (h4 : cd' ≤ 57343)
 (hw : Win 5 encB w saysV l) (hl : l.length ≤ 1073741824) :
 Calls prog 204 #[.pointer (some ⟨b, 0, none⟩)] w fun e w' => TextRet w b saysV (l ++ runeBytes (65536 + (hi - 55296) * 1024 + cd' - 56320)) (fun v => #[v0, v1, v2, .func (.func 138) #[] #[], v4, v5, v6, v7, v8, v, .int .i64 dg, .int .i32 cd', .int .i32 0, vd]) e w' := by
 obtain ⟨c0, c1, c2, c3, c4, c5, c6, c7, c8, c9, ca, cb, cc, cd, cf⟩ := cells14 h;have hlt := lt_of_block h;obtain ⟨ta, tc, htv⟩ := hw.shape;have hr : IsRune (65536 + (hi - 55296) * 1024 + cd' - 56320) := .inr (by omega);have h' := set_at h (o := 12) (.int .i32 0);simp only [List.setIfInBounds_toArray, List.set_cons_zero, List.set_cons_succ] at h';have HNE := hZ (hw.ne h (by decide));have H := hZ (show ((w.setCell ⟨b, 12, none⟩ (.int .i32 0)).drew).heap[b]? = _ from h');have hk0 : Keeps (fun k => k = b) w (w.setCell ⟨b, 12, none⟩ (.int .i32 0)).drew := ((Keeps.refl (fun k => k = b) w).setCell (p := ⟨b, 12, none⟩) (.inl rfl) _).drew;have HW := hZ (hw.keeps hk0 (fun k e hk => HNE.out (e.trans (congrArg some hk)))).toN;have HE := hZ (encode_any _ hr);have HSZ := hZ hk0.size;have HK0 := hZ (hk0.mono (G := fun k => k = b ∨ saysV.ownBlock = some k) (fun k e => .inl e));have hlen := runeBytes_len (65536 + (hi - 55296) * 1024 + cd' - 56320);obtain ⟨R, hR⟩ : ∃ R, runeBytes (65536 + (hi - 55296) * 1024 + cd' - 56320) = R := ⟨_, rfl⟩;rw [hR] at HE hlen ⊢;obtain ⟨m, hm⟩ : ∃ m, R.length = m + 1 := ⟨R.length - 1, by omega⟩;have hm3 : m ≤ 3 := by omega
 have HM := hZ hm;have HL := hZ hl;have HR := hZ hR;obtain ⟨n1, n2, n3⟩ := nat_ne3 (n := hi) (k := 0) (by omega)
 have HWR := hZ (show wrap32 (wrap32 (wrap32 (65536 + wrap32 (wrap32 ((hi : Int) - 55296) * 1024)) + (cd' : Int)) - 56320) = ((65536 + (hi - 55296) * 1024 + cd' - 56320 : Nat) : Int) by
  unfold wrap32;omega)
 obtain ⟨rr, hrr⟩ : ∃ rr, 65536 + (hi - 55296) * 1024 + cd' - 56320 = rr := ⟨_, rfl⟩;rw [hrr] at HE HWR;clear h h' hk0 hw hr hR hlen hm hl h1 h2 h3 h4 hrr;subst htv;go_enter func204, ntmps204;go_wp2_with fail;go_region;rw [HWR.out];go_wp2_with fail;refine (HE.out _).mono ?_;rintro e w1 ⟨g1, cap1, rfl, hcell, hb1⟩;have hb' := keep H.out hb1;obtain ⟨d0, d1, d2, d3, d4, d5, d6, d7, d8, d9, da, db, dc, dd, df⟩ := cells14 hb';have HB1 := hZ hb';have HBE := hZ hb1;have HW1 := hZ (HW.out.keeps (F := fun _ => False) (Keeps.of_below _ hb1) (fun _ _ => id));have HCELL := hZ hcell;rw [HM.out];clear hb' hb1 hcell c0 c1 c2 c3 c4 c5 c6 c7 c8 c9 ca cb cc cd cf
 go_wp2_with (at_builtin; refine append_winN elemB1 rfl _ _ rfl rfl HW1.out ⟨g1, 0, none⟩ (m + 1) cap1 (R.map encB) rfl ?_ ?_ ?_ ?_ ?_ ?_ ?_)
 ·rw [List.length_map, HM.out]; omega
 ·intro j u hj;rw [List.getElem?_map] at hj;cases hlj : R[j]? with
  | none => rw [hlj] at hj; cases hj
  | some y =>
   rw [hlj] at hj;simp at hj;subst hj;have hp : (⟨g1, 0, none⟩ : Addr).add j = ⟨g1, j, none⟩ := by unfold Addr.add; split <;> simp_all
   rw [hp];exact HCELL.out j y hlj
 ·intro u hu;rw [List.mem_map] at hu;obtain ⟨y, _, rfl⟩ := hu;rfl
 ·omega
 ·have := HL.out; omega
 ·have := HL.out; unfold maxLen; omega
 intro g off cap w2 hw2 hg2 hk2;have hwin := hw2;rw [← List.map_append] at hwin;have hwin := hwin.toWin;have hbb := hk2.blk HB1.out (fun e => HNE.out e);have HWN := hZ hwin;have HNG := hZ (hw2.ne hbb (by decide));have HG2 := hZ hg2;have HK2 := hZ hk2;have HB2 := hZ hbb;obtain ⟨q0, q1, q2, q3, q4, q5, q6, q7, q8, q9, qa, qb, qc, qd, qf⟩ := cells14 hbb;clear hw2 hwin hbb hg2 hk2 d0 d1 d2 d3 d4 d5 d6 d7 d8 d9 da db dc dd df;go_wp2_with fail
 go_end0
 have hks : Keeps (fun k => k = b) w2 ((w2.setCell ⟨b, 9, none⟩ (.slice (some ⟨g, off, none⟩) (l.length + (m + 1)) cap)).setCell ⟨b, 3, none⟩ (.func (.func 138) #[] #[])) := ((Keeps.refl (fun k => k = b) w2).setCell (p := ⟨b, 9, none⟩) (.inl rfl) _).setCell (p := ⟨b, 3, none⟩) (.inl rfl) _;have hlen : (l ++ R).length = l.length + (m + 1) := by rw [List.length_append, HM.out]
 refine ⟨rfl, g, off, cap, ?_, ?_, HG2.out.imp id (fun h => Nat.le_trans HSZ.out (Nat.le_trans HBE.out.size h.1)), ?_⟩
 ·rw [hlen];exact set_at (set_at HB2.out _) _
 ·rw [hlen];exact HWN.out.keeps hks (fun k e hk => HNG.out (e.trans (congrArg some hk)))
 ·exact ((HK0.out.same (Keeps.of_below _ HBE.out)).same (HK2.out.mono (fun k h => .inr h))).same (hks.mono (fun k h => .inl h))
theorem word_value (c : UInt8) (w : World) (l : List UInt8) (h : wordOf c = l) : Calls prog 140 #[.int .u8 ((c.toNat : Nat) : Int)] w fun e w' => e = .returned (.string ⟨l.toArray⟩) ∧ w' = w := by
 have := lexWord_any c w;rw [h] at this;exact this
def WordRet (w : World) (b : Nat) (rawV tokV : Value) (toks : List Value) (t : Value) (c : Value → Value → Array Value) (e : Ending) (w' : World) : Prop :=
 e = .returned (.int .i64 0) ∧ ∃ rawV' g off cap, w'.heap[b]? = some (.cells (c rawV' (.slice (some ⟨g, off, none⟩) (toks.length + 1) cap)) 228 (0, 0)) ∧
  Win 232 id w' (.slice (some ⟨g, off, none⟩) (toks.length + 1) cap) (toks ++ [t]) ∧ (tokV.ownBlock = some g ∨ w.heap.size ≤ g) ∧ Keeps (fun k => k = b ∨ rawV.ownBlock = some k ∨ tokV.ownBlock = some k) w w'
theorem word_at_k {d y : UInt8} {s : ByteArray} {K : Nat} (hs : (⟨(wordOf d).toArray⟩ : ByteArray) = s) (hy : (wordOf d)[K]? = some y) : ∃ h : K < s.size, s[K] = y := by
 subst hs;obtain ⟨h1, h2⟩ := List.getElem?_eq_some_iff.1 hy;exact ⟨by simpa [ByteArray.size] using h1, by simpa [ByteArray.getElem_eq_getElem_data] using h2⟩
theorem letter_bad (w : World) (b g off cap K : Nat) (v0 v1 v2 v3 v4 v5 v7 v8 v9 va vb vc vd : Value) (d y ch : UInt8) (h : w.heap[b]? = some (.cells #[v0, v1, v2, v3, v4, v5, .slice (some ⟨g, off, none⟩) K cap, v7, v8, v9, va, vb, vc, vd] 228 (0, 0)))
 (h0 : w.cell? ⟨g, off, none⟩ = some (encB d)) (hK : 0 < K) (hy : (wordOf d)[K]? = some y) (hc : ch ≠ y) :
 Calls prog 141 #[.pointer (some ⟨b, 0, none⟩), .int .u8 ((ch.toNat : Nat) : Int)] w fun e w' => e = .returned (.int .i64 94) ∧ w' = w := by
 obtain ⟨c0, c1, c2, c3, c4, c5, c6, c7, c8, c9, ca, cb, cc, cd, cf⟩ := cells14 h;obtain ⟨s, hs⟩ : ∃ s : ByteArray, (⟨(wordOf d).toArray⟩ : ByteArray) = s := ⟨_, rfl⟩;obtain ⟨hks, hyk⟩ := word_at_k hs hy;subst hyk;obtain ⟨n1, n2, n3⟩ := byte_ne3 (c := ch) (d := s[K]) hc rfl;obtain ⟨n4, n5, n6⟩ := byte_ne3 (c := s[K]) (d := ch) hc.symm rfl;have HWD := hZ (word_value d w _ rfl);rw [hs] at HWD;unfold encB at h0;clear h hc hs hy;go_enter func141, ntmps141;go_wp2_with fail;refine (HWD.out).mono ?_;rintro e w1 ⟨rfl, rfl⟩;go_wp2_with fail;go_ret;exact ⟨rfl, rfl⟩
theorem letter_on (w : World) (b g off cap : Nat) (v0 v1 v2 v3 v4 v5 v7 v8 v9 va vb vc vd : Value) (d y : UInt8) (l : List UInt8) (h : w.heap[b]? = some (.cells #[v0, v1, v2, v3, v4, v5, .slice (some ⟨g, off, none⟩) l.length cap, v7, v8, v9, va, vb, vc, vd] 228 (0, 0)))
 (h0 : w.cell? ⟨g, off, none⟩ = some (encB d)) (hr : Win 5 encB w (.slice (some ⟨g, off, none⟩) l.length cap) l) (hK : 0 < l.length) (hy : (wordOf d)[l.length]? = some y) (hne : l.length + 1 ≠ (wordOf d).length) :
 Calls prog 141 #[.pointer (some ⟨b, 0, none⟩), .int .u8 ((y.toNat : Nat) : Int)] w fun e w' => RawRet w b (.slice (some ⟨g, off, none⟩) l.length cap) (l ++ [y]) (fun v => #[v0, v1, v2, v3, v4, v5, v, v7, v8, v9, va, vb, vc, vd]) e w' := by
 obtain ⟨c0, c1, c2, c3, c4, c5, c6, c7, c8, c9, ca, cb, cc, cd, cf⟩ := cells14 h;obtain ⟨s, hs⟩ : ∃ s : ByteArray, (⟨(wordOf d).toArray⟩ : ByteArray) = s := ⟨_, rfl⟩;obtain ⟨hks, hyk⟩ := word_at_k hs hy;have hk : ((s[l.length].toNat : Nat) : Int) = ((y.toNat : Nat) : Int) := by rw [hyk]
 have hKL : l.length < 5 := by
  have : s.size ≤ 5 := by rw [← hs]; show (wordOf d).toArray.size ≤ 5; rw [List.size_toArray]; unfold wordOf; repeat' (first | exact by decide | split)
  omega
 have HWD := hZ (word_value d w _ rfl);rw [hs] at HWD;have HNE := hZ (hr.ne h (by decide));have H := hZ h;have hlt := lt_of_block h;have hr2 : Win 5 encB (w.alloc (.cells #[encB y] 5)) (.slice (some ⟨g, off, none⟩) l.length cap) l := hr.keeps (F := fun _ => False) ((Keeps.refl _ w).alloc _) (fun _ _ => id);have HR := hZ hr2;have hsz : s.size = (wordOf d).length := by rw [← hs]; exact List.size_toArray
 unfold encB at h0;have hn1 : ¬ (l.length : Int) + 1 = (s.size : Int) := by omega
 have hn2 : ((l.length : Int) + 1 == (s.size : Int)) = false := by simpa using hn1
 clear h hs hr hr2 hy hne hsz;go_enter func141, ntmps141;go_wp2_with fail;refine (HWD.out).mono ?_;rintro e w1 ⟨rfl, rfl⟩
 go_wp2_with (at_builtin; refine append_win elemB rfl _ _ rfl rfl HR.out ⟨w1.heap.size, 0, none⟩ 1 y rfl ?_ rfl ?_ ?_ ?_)
 ·exact cell_new rfl
 ·omega
 ·unfold maxLen; omega
 intro g2 off2 cap2 w' hrow hgb0 hgr;have hb' := (hgr.block b (by simp; omega) (fun e => HNE.out e.symm)).trans ((Below.heap_alloc _ _ _ hlt).trans H.out);have HNG := hZ (hrow.ne hb' (by decide));have HGB := hZ (show (Value.slice (some ⟨g, off, none⟩) l.length cap).ownBlock = some g2 ∨ w1.heap.size ≤ g2 from hgb0.elim .inl (fun h => .inr (Nat.le_trans (by simp) h.1)));have HK := hZ (((Keeps.refl (fun k => k = b ∨ (Value.slice (some ⟨g, off, none⟩) l.length cap).ownBlock = some k) w1).alloc (.cells #[encB y] 5)).grown hgr (fun k e => .inl (.inr e)));have HROW := hZ hrow;obtain ⟨d0, d1, d2, d3, d4, d5, d6, d7, d8, d9, da, db, dc, dd, df⟩ := cells14 hb';have HB := hZ hb';clear hb' hrow hgb0 hgr c0 c1 c2 c3 c4 c5 c6 c7 c8 c9 ca cb cc cd cf;go_wp2_with fail;go_ret;refine ⟨rfl, g2, off2, cap2, ?_, ?_, HGB.out, HK.out.setCell (p := ⟨b, 6, none⟩) (.inl (.inl rfl)) _⟩
 ·rw [List.length_append]; exact set_at HB.out _
 rw [List.length_append];exact HROW.out.keeps ((Keeps.refl (fun k => k = b) w').setCell (p := ⟨b, 6, none⟩) (.inl rfl) _) (fun k e hk => HNG.out (e.trans (congrArg some hk)))
theorem letter_end (w : World) (b g off cap pl st : Nat) (v1 v2 v3 v4 v7 v8 v9 va vb vc tokV : Value) (d y : UInt8) (l : List UInt8) (toks : List Value) (h : w.heap[b]? = some (.cells #[.int .i64 pl, v1, v2, v3, v4, .int .i64 st, .slice (some ⟨g, off, none⟩) l.length cap, v7, v8, v9, va, vb, vc, tokV] 228 (0, 0)))
 (h0 : w.cell? ⟨g, off, none⟩ = some (encB d)) (hr : Win 5 encB w (.slice (some ⟨g, off, none⟩) l.length cap) l) (hK : 0 < l.length) (hy : (wordOf d)[l.length]? = some y) (hne : l.length + 1 = (wordOf d).length) (hw : Win 232 id w tokV toks) (htl : toks.length ≤ 1000) (hle : st ≤ pl + 1) (hpl : pl ≤ 1073741823) :
 Calls prog 141 #[.pointer (some ⟨b, 0, none⟩), .int .u8 ((y.toNat : Nat) : Int)] w fun e w' => WordRet w b (.slice (some ⟨g, off, none⟩) l.length cap) tokV toks (tokEnc (.term st (pl + 1 - st) (wordOf d))) (fun r v => #[.int .i64 pl, v1, v2, .func (.func 104) #[] #[], .bool false, .int .i64 st, r, v7, v8, v9, va, vb, vc, v]) e w' := by
 obtain ⟨c0, c1, c2, c3, c4, c5, c6, c7, c8, c9, ca, cb, cc, cd, cf⟩ := cells14 h;obtain ⟨s, hs⟩ : ∃ s : ByteArray, (⟨(wordOf d).toArray⟩ : ByteArray) = s := ⟨_, rfl⟩;obtain ⟨hks, hyk⟩ := word_at_k hs hy;have hk : ((s[l.length].toNat : Nat) : Int) = ((y.toNat : Nat) : Int) := by rw [hyk]
 have hKL : l.length < 5 := by
  have : s.size ≤ 5 := by rw [← hs]; show (wordOf d).toArray.size ≤ 5; rw [List.size_toArray]; unfold wordOf; repeat' (first | exact by decide | split)
  omega
 have HWD := hZ (word_value d w _ rfl);rw [hs] at HWD;have HNE := hZ (hr.ne h (by decide));have H := hZ h;have hlt := lt_of_block h;have hr2 : Win 5 encB (w.alloc (.cells #[encB y] 5)) (.slice (some ⟨g, off, none⟩) l.length cap) l := hr.keeps (F := fun _ => False) ((Keeps.refl _ w).alloc _) (fun _ _ => id);have HR := hZ hr2;have hsz : s.size = (wordOf d).length := by rw [← hs]; exact List.size_toArray
 unfold encB at h0;have hn1 : (l.length : Int) + 1 = (s.size : Int) := by omega
 have hn2 : ((l.length : Int) + 1 == (s.size : Int)) = true := by simpa using hn1
 have HW := hZ hw;have HTL := hZ htl;have HWN := hZ (fun (k : Nat) (e : (Value.slice (some ⟨g, off, none⟩) l.length cap).ownBlock = some k) => win_win hr hw (by decide) e);have HBD := hZ (And.intro hle hpl);obtain ⟨sz, hsz2⟩ : ∃ sz, pl + 1 - st = sz := ⟨_, rfl⟩;have HSZ := hZ hsz2;have hpb : pl ≤ 1073741823 := hpl;rw [show tokEnc (.term st (pl + 1 - st) (wordOf d)) = .iface 309 (.agg #[.int .i64 st, .int .i64 (pl + 1 - st : Nat), .string ⟨(wordOf d).toArray⟩]) from rfl, hs, hsz2];clear h hs hr hr2 hw htl hle hpl hsz2 hy hne hsz;go_enter func141, ntmps141;go_wp2_with fail;refine (HWD.out).mono ?_;rintro e w1 ⟨rfl, rfl⟩
 go_wp2_with (at_builtin; refine append_win elemB rfl _ _ rfl rfl HR.out ⟨w1.heap.size, 0, none⟩ 1 y rfl ?_ rfl ?_ ?_ ?_)
 ·exact cell_new rfl
 ·omega
 ·unfold maxLen; omega
 intro g2 off2 cap2 w' hrow hgb0 hgr;have hb' := (hgr.block b (by simp; omega) (fun e => HNE.out e.symm)).trans ((Below.heap_alloc _ _ _ hlt).trans H.out);have HNG := hZ (hrow.ne hb' (by decide));have HGB := hZ (show (Value.slice (some ⟨g, off, none⟩) l.length cap).ownBlock = some g2 ∨ w1.heap.size ≤ g2 from hgb0.elim .inl (fun h => .inr (Nat.le_trans (by simp) h.1)));have HK := hZ (((Keeps.refl (fun k => k = b ∨ (Value.slice (some ⟨g, off, none⟩) l.length cap).ownBlock = some k) w1).alloc (.cells #[encB y] 5)).grown hgr (fun k e => .inl (.inr e)));have HROW := hZ hrow;obtain ⟨d0, d1, d2, d3, d4, d5, d6, d7, d8, d9, da, db, dc, dd, df⟩ := cells14 hb';have HB := hZ hb';have hsA := set_at hb' (o := 6) (.slice (some ⟨g2, off2, none⟩) (l.length + 1) cap2);simp only [List.setIfInBounds_toArray, List.set_cons_zero, List.set_cons_succ] at hsA;have HSP := hZ (span_any _ b _ st (pl + 1) hsA rfl (by have := HBD.out; omega) (by omega));rw [show ((pl + 1 : Nat) : Int) = (pl : Int) + 1 by omega, HSZ.out] at HSP;have hkp : Keeps (fun k => k = b ∨ (Value.slice (some ⟨g, off, none⟩) l.length cap).ownBlock = some k) w1 (w'.setCell ⟨b, 6, none⟩ (.slice (some ⟨g2, off2, none⟩) (l.length + 1) cap2)) := HK.out.setCell (p := ⟨b, 6, none⟩) (.inl (.inl rfl)) _;have hwt : Win 232 id (w'.setCell ⟨b, 6, none⟩ (.slice (some ⟨g2, off2, none⟩) (l.length + 1) cap2)) tokV toks := HW.out.keeps hkp (fun k e hk => hk.elim (fun e2 => HW.out.ne H.out (by decide) (e.trans (congrArg some e2))) (fun e2 => HWN.out k e2 e));have HTELL := hZ (fun wx (hb : Below (w'.setCell ⟨b, 6, none⟩ (.slice (some ⟨g2, off2, none⟩) (l.length + 1) cap2)).heap.size (w'.setCell ⟨b, 6, none⟩ (.slice (some ⟨g2, off2, none⟩) (l.length + 1) cap2)) wx) => tell_any wx b _ _ _ _ _ _ _ _ _ _ _ _ _ tokV 309 (.agg #[.int .i64 st, .int .i64 sz, .string s]) toks (keep hsA hb) (hwt.keeps (Keeps.of_below (fun _ => False) hb) (fun _ _ => id)) HTL.out);have HKP := hZ hkp;clear hb' hrow hgb0 hgr hsA hwt hkp c0 c1 c2 c3 c4 c5 c6 c7 c8 c9 ca cb cc cd cf;go_wp2_with fail;refine (HSP.out).mono ?_;rintro e wx ⟨rfl, hbx⟩;have HT := hZ (HTELL.out wx hbx);have HBX := hZ hbx;clear hbx;go_wp2_with fail;refine (HT.out).mono ?_;rintro e w3 ⟨rfl, g3, off3, cap3, h3, hw3, hg3, hk3⟩;have H3 := hZ h3;have HW3 := hZ hw3;have HG3 := hZ hg3;have HK3 := hZ hk3;clear h3 hw3 hg3 hk3;go_wp2_with fail;go_ret;refine ⟨rfl, _, g3, off3, cap3, H3.out, HW3.out, HG3.out.elim .inl (fun h => .inr (Nat.le_trans HKP.out.size (Nat.le_trans HBX.out.size h))), ?_⟩;exact ((HKP.out.mono (fun k h => h.imp id .inl)).same (Keeps.of_below _ HBX.out)).same (HK3.out.mono (fun k h => h.imp id .inr))
theorem hex_join {cd' v : Nat} (h1 : cd' < 4096) (h2 : v < 16) : bits BinOp.or IntKind.i32 ((cd' : Int) * 16) (v : Int) = ((cd' * 16 + v : Nat) : Int) := by
 have hx : cd' * 16 ||| v = cd' * 16 + v := nat_join 4 _ _ (by omega) (by omega)
 have e1 : (BitVec.ofInt 32 ((cd' : Int) * 16)).toNat = cd' * 16 := by
  rw [show ((cd' : Int) * 16) = ((cd' * 16 : Nat) : Int) by omega];exact ofInt_u32 _ (by omega)
 show IntKind.i32.wrap ((BitVec.ofInt 32 ((cd' : Int) * 16) ||| BitVec.ofInt 32 (v : Int)).toNat : Int) = _
 rw [BitVec.toNat_or, e1, ofInt_u32 v (by omega), hx];simp only [IntKind.wrap, IntKind.bits, IntKind.signed];simp;omega
theorem digit_bad (w : World) (b hi : Nat) (v0 v1 v2 v3 v4 v5 v6 v7 v8 v9 va vb vd : Value) (ch : UInt8) (h : w.heap[b]? = some (.cells #[v0, v1, v2, v3, v4, v5, v6, v7, v8, v9, va, vb, .int .i32 hi, vd] 228 (0, 0))) (hx : hexOf ch = none) :
 Calls prog 188 #[.pointer (some ⟨b, 0, none⟩), .int .u8 ((ch.toNat : Nat) : Int)] w fun e w' => e = .returned (.int .i64 (if hi = 0 then 92 else 93)) ∧ w' = w := by
 obtain ⟨c0, c1, c2, c3, c4, c5, c6, c7, c8, c9, ca, cb, cc, cd, cf⟩ := cells14 h;have HV := hZ (value_any ch);rw [hx] at HV;clear h hx
 by_cases h0 : hi = 0
 ·rw [if_pos h0];subst h0;go_enter func188, ntmps188;go_wp2_with fail;refine (HV.out _).mono ?_;rintro e w1 ⟨he, rfl⟩;unfold hexRet at he;simp only [] at he;subst he;go_wp2_with fail;go_ret;exact ⟨rfl, rfl⟩
 ·rw [if_neg h0];obtain ⟨n1, n2, n3⟩ := nat_ne3 (n := hi) (k := 0) (by omega);clear h0;go_enter func188, ntmps188;go_wp2_with fail;refine (HV.out _).mono ?_;rintro e w1 ⟨he, rfl⟩;unfold hexRet at he;simp only [] at he;subst he;go_wp2_with fail;go_ret;exact ⟨rfl, rfl⟩
theorem digit_lone (w : World) (b dg cd' hi v : Nat) (v0 v1 v2 v3 v4 v5 v6 v7 v8 v9 vd : Value) (ch : UInt8) (h : w.heap[b]? = some (.cells #[v0, v1, v2, v3, v4, v5, v6, v7, v8, v9, .int .i64 dg, .int .i32 cd', .int .i32 hi, vd] 228 (0, 0))) (hx : hexOf ch = some v) (hlo : loneOf hi dg cd' v = true) :
 Calls prog 188 #[.pointer (some ⟨b, 0, none⟩), .int .u8 ((ch.toNat : Nat) : Int)] w fun e w' => e = .returned (.int .i64 93) ∧ w' = w := by
 obtain ⟨c0, c1, c2, c3, c4, c5, c6, c7, c8, c9, ca, cb, cc, cd, cf⟩ := cells14 h;have HV := hZ (value_any ch);rw [hx] at HV;have HL := hZ (lone_any w b dg cd' hi v _ _ _ _ _ _ _ _ _ _ _ h);rw [hlo] at HL;have e1 : ¬ (v : Int) < 0 := by omega
 clear h hx hlo;go_enter func188, ntmps188;go_wp2_with fail;refine (HV.out _).mono ?_;rintro e w1 ⟨he, rfl⟩;unfold hexRet at he;simp only [] at he;subst he;go_wp2_with fail;refine (HL.out).mono ?_;rintro e w1 ⟨rfl, rfl⟩;go_wp2_with fail;go_ret;exact ⟨rfl, rfl⟩
theorem digit_more (w : World) (b dg cd' hi v : Nat) (v0 v1 v2 v3 v4 v5 v6 v7 v8 v9 vd : Value) (ch : UInt8) (h : w.heap[b]? = some (.cells #[v0, v1, v2, v3, v4, v5, v6, v7, v8, v9, .int .i64 dg, .int .i32 cd', .int .i32 hi, vd] 228 (0, 0))) (hx : hexOf ch = some v) (hlo : loneOf hi dg cd' v = false) (hcd : cd' < 4096) (hdg : dg < 3) :
 Calls prog 188 #[.pointer (some ⟨b, 0, none⟩), .int .u8 ((ch.toNat : Nat) : Int)] w fun e w' => StepRet w b 0 #[v0, v1, v2, v3, v4, v5, v6, v7, v8, v9, .int .i64 (dg + 1 : Nat), .int .i32 (cd' * 16 + v : Nat), .int .i32 hi, vd] e w' := by
 obtain ⟨c0, c1, c2, c3, c4, c5, c6, c7, c8, c9, ca, cb, cc, cd, cf⟩ := cells14 h;have HV := hZ (value_any ch);rw [hx] at HV;have HL := hZ (lone_any w b dg cd' hi v _ _ _ _ _ _ _ _ _ _ _ h);rw [hlo] at HL;have e1 : ¬ (v : Int) < 0 := by omega
 have HJ := hZ (hex_join hcd (hexOf_lt hx));have H := hZ h;clear h hx hlo;go_enter func188, ntmps188;go_wp2_with fail;refine (HV.out _).mono ?_;rintro e w1 ⟨he, rfl⟩;unfold hexRet at he;simp only [] at he;subst he;go_wp2_with fail;refine (HL.out).mono ?_;rintro e w1 ⟨rfl, rfl⟩;go_wp2_with fail;go_ret;rw [HJ.out];exact ⟨rfl, set_at (set_at H.out _) _, ((Keeps.refl (fun k => k = b) w1).setCell (p := ⟨b, 11, none⟩) (.inl rfl) _).setCell (p := ⟨b, 10, none⟩) (.inl rfl) _⟩
def fourW (w : World) (b cd2 : Nat) : World := (w.setCell ⟨b, 11, none⟩ (.int .i32 cd2)).setCell ⟨b, 10, none⟩ (.int .i64 4)
theorem fourW_keeps (w : World) (b cd2 : Nat) : Keeps (fun k => k = b) w (fourW w b cd2) := ((Keeps.refl (fun k => k = b) w).setCell (p := ⟨b, 11, none⟩) (.inl rfl) _).setCell (p := ⟨b, 10, none⟩) (.inl rfl) _
theorem digit_four (w : World) (b cd' hi v : Nat) (v0 v1 v2 v3 v4 v5 v6 v7 v8 v9 vd : Value) (ch : UInt8) (Q : Ending → World → Prop) (h : w.heap[b]? = some (.cells #[v0, v1, v2, v3, v4, v5, v6, v7, v8, v9, .int .i64 3, .int .i32 cd', .int .i32 hi, vd] 228 (0, 0))) (hx : hexOf ch = some v) (hlo : loneOf hi 3 cd' v = false) (hcd : cd' < 4096)
 (hq : Calls prog 204 #[.pointer (some ⟨b, 0, none⟩)] (fourW w b (cd' * 16 + v)) fun e w' => e = .returned (.tuple #[]) ∧ Q (.returned (.int .i64 0)) w') :
 Calls prog 188 #[.pointer (some ⟨b, 0, none⟩), .int .u8 ((ch.toNat : Nat) : Int)] w Q := by
 obtain ⟨c0, c1, c2, c3, c4, c5, c6, c7, c8, c9, ca, cb, cc, cd, cf⟩ := cells14 h;have HV := hZ (value_any ch);rw [hx] at HV;have HL := hZ (lone_any w b 3 cd' hi v _ _ _ _ _ _ _ _ _ _ _ h);rw [hlo] at HL;have e1 : ¬ (v : Int) < 0 := by omega
 have HJ := hZ (hex_join hcd (hexOf_lt hx));have H := hZ h;have HQ := hZ hq;clear h hx hlo hq;go_enter func188, ntmps188;go_wp2_with fail;refine (HV.out _).mono ?_;rintro e w1 ⟨he, rfl⟩;unfold hexRet at he;simp only [] at he;subst he;go_wp2_with fail;refine (HL.out).mono ?_;rintro e w1 ⟨rfl, rfl⟩;go_wp2_with fail;rw [HJ.out];refine (HQ.out).mono ?_;rintro e w2 ⟨rfl, hQ⟩;have HQ2 := hZ hQ;clear hQ;go_wp2_with fail;exact HQ2.out
theorem fourW_at {w : World} {b cd' hi dg : Nat} {v0 v1 v2 v3 v4 v5 v6 v7 v8 v9 vd : Value} (cd2 : Nat) (h : w.heap[b]? = some (.cells #[v0, v1, v2, v3, v4, v5, v6, v7, v8, v9, .int .i64 dg, .int .i32 cd', .int .i32 hi, vd] 228 (0, 0))) :
 (fourW w b cd2).heap[b]? = some (.cells #[v0, v1, v2, v3, v4, v5, v6, v7, v8, v9, .int .i64 (4 : Nat), .int .i32 cd2, .int .i32 hi, vd] 228 (0, 0)) := set_at (set_at h _) _
section
section
variable (po : List Tr → List (List UInt8) → List Tr)
def readOut (l : List UInt8) (depth : Nat) : Except (Nat × Nat) (List Tr) := (Ps.read po l depth).map fun p => p.items
theorem read_one (d : Nat) (hd : 1 ≤ d) : readOut po [49, 10] d = .ok [.num 4607182418800017408] := by
 have hb : bitsOf [49] = some 4607182418800017408 := by decide
 have h0 : ¬ 0 = d := by omega
 simp [readOut, Ps.read, Ps.feed, Ps.take, Ps.new, Lx.new, Lx.take, Lx.step, outsideStep, isBlank, isMark, isD, numFirst, numNext, Ps.drain, Lx.heldNow, Ps.begins, Ps.value, h0, pure, Except.pure, bind, Except.bind,
  numeralStep, numEnds, Lx.finish, hb, Lx.told, Ps.token, Ps.put, putNum, putScalar, putItem, zeroed, Tr.sized, Sz.within, more, Ps.finish, Lx.ended, Except.map]
theorem read_open (d : Nat) (hd : 1 ≤ d) : readOut po [91, 10] d = .error (95, 2) := by
 have h0 : ¬ 0 = d := by omega
 simp [readOut, Ps.read, Ps.feed, Ps.take, Ps.new, Lx.new, Lx.take, Lx.step, outsideStep, isBlank, isMark, Ps.drain, Lx.heldNow, Ps.value, h0, pure, Except.pure, bind, Except.bind,
  Lx.told, Ps.token, Ps.mark, Ps.finish, Lx.ended, Except.map]
theorem read_text (d : Nat) (hd : 1 ≤ d) : readOut po [34, 97, 34, 10] d = .ok [.text [97]] := by
 have h0 : ¬ 0 = d := by omega
 have hf : feedOne [] 97 = some [] := by decide
 have hr : rightOf [97] = true := by decide
 simp [readOut, Ps.read, Ps.feed, Ps.take, Ps.new, Lx.new, Lx.take, Lx.step, outsideStep, withinStep, hf, hr, isBlank, isMark, Ps.drain, Lx.heldNow, Ps.begins, Ps.value, h0, pure, Except.pure, bind, Except.bind,
  Lx.told, Ps.token, Ps.text, Ps.weigh, Ps.put, putText, putScalar, putItem, Tr.sized, Sz.within, more, Ps.finish, Lx.ended, Except.map]
end
end
end Go.Proofs.YtakkmiomhackiaaGreatDoor
