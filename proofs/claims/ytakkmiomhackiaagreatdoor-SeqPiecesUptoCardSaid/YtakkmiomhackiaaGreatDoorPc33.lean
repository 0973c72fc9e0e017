/-
  Package parse: text, where it is a key.
-/
import Derived.Test.YtakkmiomhackiaaGreatDoorPc31
set_option linter.all false
set_option maxRecDepth 100000
set_option maxHeartbeats 16000000
namespace Go.Proofs.YtakkmiomhackiaaGreatDoor
open Go.RowKit
theorem text_twice {x : Ps} {ini : List Fr} {k : List (List UInt8)} {l : List UInt8} {at_ : Nat} (hpile : x.pile = ini ++ [.object k]) (hw : x.want = 2 ∨ x.want = 3) (hm : l ∈ k) : x.text at_ l = .error (101, at_) := by
 have hlk : lastKeys x.pile = k := by unfold lastKeys; rw [hpile]; simp
 unfold Ps.text;rw [if_neg (by omega), hlk, if_pos hm]
theorem text_new {x : Ps} {ini : List Fr} {k : List (List UInt8)} {l : List UInt8} {at_ : Nat} (hpile : x.pile = ini ++ [.object k]) (hw : x.want = 2 ∨ x.want = 3) (hm : l ∉ k) : x.text at_ l = (Ps.weigh { x with pile := ini ++ [.object (k ++ [l])] } l at_).map fun p => { p with want := 4 } := by
 have hlk : lastKeys x.pile = k := by unfold lastKeys; rw [hpile]; simp
 have hdl : x.pile.dropLast = ini := by rw [hpile]; simp
 unfold Ps.text;rw [if_neg (by omega), hlk, if_neg hm, hdl]
theorem pile_top2 {FP : Nat → Prop} {w : World} {pileV : Value} {ini : List Fr} {fr : Fr} {vals : List Value} (hP : PileAt FP w pileV (ini ++ [fr]) vals) :
 ∃ g off cap u, pileV = .slice (some ⟨g, off, none⟩) (ini.length + 1) cap ∧ w.cell? ⟨g, off + ini.length, none⟩ = some u ∧ FP g ∧ ini.length + 1 ≤ cap ∧ cap ≤ maxLen ∧ ∃ Q : Nat → Prop, (∀ k, Q k → FP k ∧ k ≠ g) ∧ FrameAt Q w u fr ∧
  ∀ (w' : World) (G : Nat → Prop) (fr' : Fr), Keeps G w w' → (∀ k, G k → FP k → Q k) → FrameAt (Since Q w w') w' u fr' → PileAt (Since FP w w') w' pileV (ini ++ [fr']) vals := by
 obtain ⟨Q, u, hQ, hu, hfr, hst⟩ := hP.last;have hlen : vals.length = ini.length + 1 := by rw [hP.len]; simp
 rcases hP.win.1 with ⟨rfl, h0⟩ | ⟨g, off, cap, cur, rfl, hg, hc, ho, hm, hi⟩
 ·rw [h0] at hlen; simp at hlen
 ·refine ⟨g, off, cap, u, by rw [hlen], ?_, hP.win.2 g rfl, by omega, hm, Q, fun k hk => ⟨(hQ k hk).1, fun e => (hQ k hk).2 (by rw [e]; rfl)⟩, hfr, hst⟩;rw [cell_at hg];exact hi _ u hu
theorem ParAt.cells {G : Nat → Prop} {w : World} {p : Nat} {x : Ps} {s : LS} {toks : List Tok} (h : ParAt G w p x s toks) : w.cell? ⟨p, 8, none⟩ = some .nilIface ∧ w.cell? ⟨p, 9, none⟩ = some (.bool false) ∧ (∀ o, w.frozen? ⟨p, o, none⟩ = false) ∧ w.cell? ⟨p, 5, none⟩ = some (.int .i64 x.want) ∧ w.cell? ⟨p, 1, none⟩ = some (.int .i64 x.place) := by
 obtain ⟨hlt, FL, FM, FP, lb, mb, pileV, vals, hp, hb, hL, hM, hP⟩ := h;obtain ⟨c0, c1, c2, c3, c4, c5, c6, c7, c8, c9, cf⟩ := cells10 hb;exact ⟨c8, c9, cf, c5, c1⟩
theorem text_key (F : Nat → Prop) (w : World) (p : Nat) (x : Ps) (s : LS) (toks : List Tok) (at_ size : Nat) (l : List UInt8) (ini : List Fr) (k : List (List UInt8)) (hl : l.length ≤ 16777216) (h : ParAt F w p x s toks) (hpile : x.pile = ini ++ [.object k]) (hil : ini.length ≤ 1048576) (hkl : k.length ≤ 4194303) (hby : x.bytes ≤ 1073741824) (hw : x.want = 2 ∨ x.want = 3) :
 Calls Tryz.prog 113 #[.pointer (some ⟨p, 0, none⟩), .agg #[.int .i64 at_, .int .i64 size, .string ⟨l.toArray⟩]] w fun e w' => Plainly e ∧ ParPost F w p s toks (x.text at_ l) e w' := by
 have hlt := h.lt;have h1 := boxed h (.cells #[.int .i64 at_, .int .i64 size, .string ⟨l.toArray⟩] 241);have hnew := heap_alloc_new w (.cells #[.int .i64 at_, .int .i64 size, .string ⟨l.toArray⟩] 241);have hBF : ¬ F w.heap.size := fun hf => absurd (hlt _ hf) (Nat.lt_irrefl _)
 have HBF := Lib.hid hBF;have HLT := Lib.hid hlt;have HSF := Lib.hid h.self;have hkW0 : Keeps F w (w.alloc (.cells #[.int .i64 at_, .int .i64 size, .string ⟨l.toArray⟩] 241)) := (Keeps.refl F w).alloc _;obtain ⟨W, hW⟩ : ∃ W, w.alloc (.cells #[.int .i64 at_, .int .i64 size, .string ⟨l.toArray⟩] 241) = W := ⟨_, rfl⟩;rw [hW] at h1 hnew hkW0;have HKW := Lib.hid hkW0;have HNEW := Lib.hid hnew;have HPAR := Lib.hid h1;obtain ⟨hltW, FL, FM, FP, lb, mb, pileV, vals, hp, hb, hL, hM, hP⟩ := h1;rw [hpile] at hP;obtain ⟨g, off, cap, u, rfl, hcu, hFg, hcap, hcm, Q, hQ, hfr, hst⟩ := pile_top2 hP;obtain ⟨fb, mp, kV, rfl, hfb, hQb, hkV, hkz, hmm, hQm⟩ := hfr;have hta : ∀ w : World, (Instr.typeAssert (.iface 275 (.pointer (some ⟨fb, 0, none⟩))) 281 275 false).run Tryz.prog w = .ok (.pointer (some ⟨fb, 0, none⟩)) w := fun _ => by kernel_rfl
 have hll : l.length ≤ maxLen := by unfold maxLen; omega
 have hr1 : IntKind.i64.wrap ((ini.length : Int) + 1 - 1) = (ini.length : Int) := by rw [IntKind.wrap_i64]; omega
 obtain ⟨n, hn⟩ : ∃ n, ini.length = n := ⟨_, rfl⟩;have c4 : W.cell? ⟨p, 4, none⟩ = some (.slice (some ⟨g, off, none⟩) (n + 1) cap) := by rw [cell_at hb, ← hn]; rfl
 rw [hn] at hil hcu hr1 hcap;have b0 : W.cell? ⟨w.heap.size, 0, none⟩ = some (.int .i64 at_) := cell_at hnew;have b2 : W.cell? ⟨w.heap.size, 2, none⟩ = some (.string ⟨l.toArray⟩) := cell_at hnew;have f0 : W.cell? ⟨fb, 0, none⟩ = some kV := cell_at hfb;have f1 : W.cell? ⟨fb, 1, none⟩ = some (.map (some mp)) := cell_at hfb;have c5 : W.cell? ⟨p, 5, none⟩ = some (.int .i64 x.want) := by rw [cell_at hb]; rfl
 have hlook := MetMap.look (w := W.drew.drew) (show MetMap W.drew.drew mp k.reverse from hmm) hll;have hk2 : Keeps (fun _ => False) W (W.alloc (.cells #[] 101)) := (Keeps.refl _ W).alloc _;have hlook2 := MetMap.look (w := (W.alloc (.cells #[] 101)).drew.drew) (show MetMap (W.alloc (.cells #[] 101)).drew.drew mp k.reverse from hmm.keeps hk2.drew.drew id) hll;have b02 : (W.alloc (.cells #[] 101)).cell? ⟨w.heap.size, 0, none⟩ = some (.int .i64 at_) := hk2.cell b0 id;have b22 : (W.alloc (.cells #[] 101)).cell? ⟨w.heap.size, 2, none⟩ = some (.string ⟨l.toArray⟩) := hk2.cell b2 id;have f12 : (W.alloc (.cells #[] 101)).cell? ⟨fb, 1, none⟩ = some (.map (some mp)) := hk2.cell f1 id;have HFA := Lib.hid (fun w => fail_any w 101 at_)
 by_cases hmem : l ∈ k
 ·rw [text_twice hpile hw hmem];have hd : decide (l ∈ k.reverse) = true := by simpa using hmem
  rw [hd] at hlook hlook2;unfold encS at hlook hlook2;obtain ⟨sv, hsv⟩ : ∃ sv : ByteArray, (⟨l.toArray⟩ : ByteArray) = sv := ⟨_, rfl⟩;rw [hsv] at hW hlook hlook2 b2 b22 ⊢;have HK2 := Lib.hid hk2;clear hlt hnew hb hL hM hP hp hQ hcm hfb hQb hkV hkz hmm hQm hd hmem hpile h hFg hll hsv hBF hst hk2 hkW0 hltW;rcases hw with hw | hw
  all_goals
   rw [hw] at c5;clear hw;go_enter Tryz.func113, Tryz.ntmps113;go_wp2_with fail;go_region;go_wp2_with fail;go_region
   all_goals
    go_wp2_with fail;refine (HFA.out _).mono ?_;rintro e w2 ⟨he, rfl⟩;unfold failE at he;subst he;go_wp2_with fail;exact ⟨rfl, .inr ⟨_, _, rfl⟩, HKW.out.trans HK2.out.drew.drew (fun _ h => h.elim), rfl, HPAR.out.dead.keeps HK2.out.drew.drew id⟩
 ·rw [text_new hpile hw hmem];have hd : decide (l ∈ k.reverse) = false := by simpa using hmem
  rw [hd] at hlook hlook2;obtain ⟨w3, hup, hmap, hturn⟩ := MetMap.put (w := (W.alloc (.cells #[] 101)).drew.drew.drew) (show MetMap (W.alloc (.cells #[] 101)).drew.drew.drew mp k.reverse from hmm.keeps hk2.drew.drew.drew id) (by rw [List.length_reverse]; omega) hll;have hk3 : Keeps (fun q => q = mp) W w3 := (hk2.drew.drew.drew.mono (fun _ h => h.elim)).same (turned_keeps hturn);obtain ⟨es, clock, hes, _⟩ := hmm;have hfbm : fb ≠ mp := fun e => by subst e; rw [hes] at hfb; cases hfb
  have hBm : w.heap.size ≠ mp := fun e => by rw [e, hes] at hnew; cases hnew
  have hpm : p ≠ mp := fun e => by subst e; rw [hes] at hb; cases hb
  have hkVm : kV.ownBlock ≠ some mp := by
   intro e;obtain ⟨c, hc⟩ := hkV.1.typed e;rw [hes] at hc; cases hc
  have hkVf : kV.ownBlock ≠ some fb := by
   intro e;obtain ⟨c, hc⟩ := hkV.1.typed e;rw [hfb] at hc; cases hc
  have hfb3 := hk3.blk hfb hfbm;have hnew3 := hk3.blk hnew hBm;have hkv3 : Win 9 encS w3 kV k := hkV.1.keeps hk3 (fun q e hq => hkVm (by rw [e, hq]));obtain ⟨ka, kc, hkve⟩ := hkV.1.shape;have hkx : Keeps (fun _ => False) w3 (w3.drew.alloc (.cells #[.string ⟨l.toArray⟩] 9)) := ((Keeps.refl _ w3).drew).alloc _;have hwx := (hkv3.keeps hkx (fun _ _ => id)).toN
  have hnewc : ∀ j u, ([.string ⟨l.toArray⟩] : List Value)[j]? = some u → (w3.drew.alloc (.cells #[.string ⟨l.toArray⟩] 9)).cell? ((⟨w3.heap.size, 0, none⟩ : Addr).add j) = some u := by
   intro j u hj;have hp := add_zero_at w3.heap.size j;rw [hp]
   show (w3.drew.alloc _).cell? ⟨w3.drew.heap.size, j, none⟩ = _
   rw [cell_at (heap_alloc_new w3.drew _)]
   simpa using hj
  have hon : ∀ u ∈ ([.string ⟨l.toArray⟩] : List Value), u.oneCell' = true := fun u hu => by simp at hu; subst hu; rfl
  have hbm : (k.length + 1) * 16 ≤ 140737488355328 := by omega
  have hmm2 : k.length + 1 ≤ maxLen := by unfold maxLen; omega
  have d0 : w3.cell? ⟨fb, 0, none⟩ = some kV := cell_at hfb3;have d0a : (w3.alloc (.cells #[.string ⟨l.toArray⟩] 9)).cell? ⟨fb, 0, none⟩ = some kV := ((Keeps.refl (fun _ => False) w3).alloc _).cell d0 id;have e1 : w3.cell? ⟨w.heap.size, 2, none⟩ = some (.string ⟨l.toArray⟩) := cell_at hnew3;have e1a : (w3.alloc (.cells #[.string ⟨l.toArray⟩] 9)).cell? ⟨w.heap.size, 2, none⟩ = some (.string ⟨l.toArray⟩) := ((Keeps.refl (fun _ => False) w3).alloc _).cell e1 id;have HPX := Lib.hid (hkx.blk hfb3 id)
  have hfin : ∀ (g' off' cap' : Nat) (w' : World), WinN 1 9 w' (.slice (some ⟨g', off', none⟩) (k.length + 1) cap') (k.length + 1) (k.map encS ++ [.string ⟨l.toArray⟩]) → (kV.ownBlock = some g' ∨ ((w3.drew.alloc (.cells #[.string ⟨l.toArray⟩] 9)).heap.size ≤ g' ∧ g' < w'.heap.size)) → Keeps (fun q => kV.ownBlock = some q) (w3.drew.alloc (.cells #[.string ⟨l.toArray⟩] 9)) w' →
   Keeps F W (w'.setCell ⟨fb, 0, none⟩ (.slice (some ⟨g', off', none⟩) (k.length + 1) cap')) ∧ ParAt (Since F W (w'.setCell ⟨fb, 0, none⟩ (.slice (some ⟨g', off', none⟩) (k.length + 1) cap'))) (w'.setCell ⟨fb, 0, none⟩ (.slice (some ⟨g', off', none⟩) (k.length + 1) cap')) p { x with pile := ini ++ [.object (k ++ [l])] } s toks := by
   intro g' off' cap' w' hwin hgb hkk;have hb' := hkk.blk HPX.out hkVf;have hks : Keeps (fun q => q = fb) w' (w'.setCell ⟨fb, 0, none⟩ (.slice (some ⟨g', off', none⟩) (k.length + 1) cap')) := (Keeps.refl (fun q => q = fb) w').setCell (p := ⟨fb, 0, none⟩) (.inl rfl) _
   have hall : Keeps (fun q => q = mp ∨ kV.ownBlock = some q ∨ q = fb) W (w'.setCell ⟨fb, 0, none⟩ (.slice (some ⟨g', off', none⟩) (k.length + 1) cap')) :=
    (((hk3.mono (fun q e => .inl e)).trans hkx (fun _ h => h.elim)).trans hkk (fun q e => .inl (.inr (.inl e)))).trans hks (fun q e => .inl (.inr (.inr e)))
   have hGQ : ∀ q, (q = mp ∨ kV.ownBlock = some q ∨ q = fb) → Q q := fun q e => by
    rcases e with e | e | e
    ·exact e ▸ hQm
    ·exact hkV.2 q e
    ·exact e ▸ hQb
   have hGF : ∀ q, (q = mp ∨ kV.ownBlock = some q ∨ q = fb) → FP q := fun q e => (hQ q (hGQ q e)).1
   have hkF : Keeps F W (w'.setCell ⟨fb, 0, none⟩ (.slice (some ⟨g', off', none⟩) (k.length + 1) cap')) := hall.mono (fun q e => hp.pile q (hGF q e))
   have hwe : Win 9 encS (w'.setCell ⟨fb, 0, none⟩ (.slice (some ⟨g', off', none⟩) (k.length + 1) cap')) (.slice (some ⟨g', off', none⟩) (k.length + 1) cap') (k ++ [l]) := by
    have h1 : Win 9 encS w' (.slice (some ⟨g', off', none⟩) (k.length + 1) cap') (k ++ [l]) := WinN.toWin (n := k.length + 1) (by rw [List.map_append]; exact hwin);exact h1.keeps hks (fun q e hq => h1.ne hb' (by decide) (e.trans (congrArg some hq)))
   have hmE : MetMap (w'.setCell ⟨fb, 0, none⟩ (.slice (some ⟨g', off', none⟩) (k.length + 1) cap')) mp (k ++ [l]).reverse := by
    rw [List.reverse_append];exact ((hmap.keeps hkx id).keeps hkk hkVm).keeps hks (fun e => hfbm e.symm)
   have hsz3 : W.heap.size ≤ (w3.drew.alloc (.cells #[.string ⟨l.toArray⟩] 9)).heap.size := Nat.le_trans hk3.size hkx.size;refine ⟨hkF, since_lt hltW hkF.size, FL, FM, Since FP W (w'.setCell ⟨fb, 0, none⟩ (.slice (some ⟨g', off', none⟩) (k.length + 1) cap')), lb, mb, _, vals, hp.pileSince (hltW p hp.self.1) hL.lt hM.2.1, hall.blk hb (fun e => hp.self.2.2.2 (hGF p e)), hL.apart hall (fun q hq e => hp.lp q hq (hGF q e)), hM.apart hall (fun q hq e => hp.mp q hq (hGF q e)), ?_⟩;refine hst _ _ (.object (k ++ [l])) hall (fun q hg _ => hGQ q hg) ⟨fb, mp, _, rfl, set_at hb' _, .inl hQb, ⟨hwe, ?_⟩, fun e => by simp at e, hmE, .inl hQm⟩;intro q e;cases e;rcases hgb with h | h
   ·exact .inl (hkV.2 _ h)
   ·exact .inr ⟨Nat.le_trans hsz3 h.1, Nat.lt_of_lt_of_le h.2 hks.size⟩
  have hfin2 : ∀ (g' off' cap' : Nat) (w' : World), Keeps (fun q => kV.ownBlock = some q) (w3.drew.alloc (.cells #[.string ⟨l.toArray⟩] 9)) w' → (w'.setCell ⟨fb, 0, none⟩ (.slice (some ⟨g', off', none⟩) (k.length + 1) cap')).heap[w.heap.size]? = some (.cells #[.int .i64 at_, .int .i64 size, .string ⟨l.toArray⟩] 241 (0, 0)) := by
   intro g' off' cap' w' hkk;refine (set_else _ ?_).trans (hkk.blk (hkx.blk hnew3 id) ?_)
   ·intro e; rw [e, hfb3] at hnew3; cases hnew3
   ·intro e;obtain ⟨c, hc⟩ := hkv3.typed e;rw [hnew3] at hc; cases hc
  have HFIN := Lib.hid hfin;have HFIN2 := Lib.hid hfin2;have HWX := Lib.hid hwx;have HNC := Lib.hid hnewc;have HON := Lib.hid hon;have HBM := Lib.hid hbm;have HMX := Lib.hid hmm2;have HNE := Lib.hid hkVf;have HWG := Lib.hid (fun (w4 : World) (h4 : ParAt (Since F W w4) w4 p { x with pile := ini ++ [.object (k ++ [l])] } s toks) => weigh_par (Since F W w4) w4 p _ s toks l at_ h4 (by exact hby) (by omega));obtain ⟨o, ho⟩ : ∃ o, Ps.weigh { x with pile := ini ++ [.object (k ++ [l])] } l at_ = o := ⟨_, rfl⟩;rw [ho] at HWG ⊢;clear ho;subst hkve;unfold encS at hlook hlook2 hup;obtain ⟨sv, hsv⟩ : ∃ sv : ByteArray, (⟨l.toArray⟩ : ByteArray) = sv := ⟨_, rfl⟩;rw [hsv] at hW hlook hlook2 hup b2 b22 d0a e1 e1a HPX HFIN HFIN2 HWX HNC HON HWG ⊢;have HKX := Lib.hid hkx;clear hlt hnew hb hL hM hP hp hQ hcm hfb hQb hkV hkz hes hQm hd hmem hpile h hFg hll hBF hst hk2 hkW0 hltW hfin hfin2 hwx hnewc hon hbm hmm2 hkVf hkVm hkv3 hnew3 hfb3 hpm hBm hfbm hk3 hmap hturn hkx;rcases hw with hw | hw
  all_goals
   rw [hw] at c5;clear hw;go_enter Tryz.func113, Tryz.ntmps113;go_wp2_with fail;go_region;go_wp2_with fail;go_region
   all_goals
    go_wp2_with fail;go_region;go_wp2_with fail
    go_region_law (refine step_append_winN elemKeyN rfl _ _ rfl rfl HWX.out ⟨w3.heap.size, 0, none⟩ 1 1 [.string sv] rfl rfl HNC.out HON.out (by decide) HBM.out HMX.out ?_; intro g' off' cap' w' hwin hgb hkk; have hkk : Keeps (fun q => (Value.slice ka k.length kc).ownBlock = some q) (w3.drew.alloc (.cells #[.string sv] 9)) w' := hkk; have hb' := hkk.blk HPX.out HNE.out; have hc1 : w'.cell? ⟨fb, 0, none⟩ = some (.slice ka k.length kc) := cell_at hb'; have hf1 := free_at hb')
    all_goals
     have f1 := HFIN.out g' off' cap' w' hwin hgb hkk;have f2 := HFIN2.out g' off' cap' w' hkk;clear hwin hgb hkk hb' hc1 hf1 d0 d0a e1 e1a b0 b2 b02 b22 f12 hlook hlook2 hup c4 c5 hcu f0;obtain ⟨w4, hw4⟩ : ∃ w4, w'.setCell ⟨fb, 0, none⟩ (.slice (some ⟨g', off', none⟩) (k.length + 1) cap') = w4 := ⟨_, rfl⟩;rw [hw4] at f1 f2;have x0 : w4.cell? ⟨w.heap.size, 0, none⟩ = some (.int .i64 at_) := cell_at f2;have x2 : w4.cell? ⟨w.heap.size, 2, none⟩ = some (.string sv) := cell_at f2;have HW4 := Lib.hid (HWG.out w4 f1.2);have HK4 := Lib.hid f1.1;clear f1 f2;go_wp2_with fail;refine (HW4.out).mono ?_;rintro e w5 ⟨hpl, hk5, hpost⟩;have hk45 : Keeps F w w5 := (HKW.out.same HK4.out).trans hk5 (fun q h => h.elim .inl (fun h => .inr (Nat.le_trans HKW.out.size h.1)));have HK45 := Lib.hid hk45;have HS5 := Lib.hid hk5.size;clear hpl hk5 hk45;cases o with
     | error er =>
      obtain ⟨no, a2⟩ := er;obtain ⟨he, hdead⟩ := hpost;have HD := Lib.hid hdead;clear hdead;unfold failE at he;subst he;go_wp2_with fail;exact ⟨rfl, .inr ⟨_, _, rfl⟩, HK45.out, rfl, HD.out⟩
     | ok y =>
      obtain ⟨he, hpar⟩ := hpost;subst he;obtain ⟨y8, y9, yf, y5, y1⟩ := hpar.cells;have HPY := Lib.hid (par_want hpar 4);clear hpar x0 x2;go_wp2_with fail
      go_end0
      have hkz : Keeps F w (w5.setCell ⟨p, 5, none⟩ (.int .i64 4)) := HK45.out.setCell (p := ⟨p, 5, none⟩) (.inl HSF.out) _;refine ⟨.inl rfl, hkz, rfl, HPY.out.2.mono ?_ (since_lt HLT.out hkz.size)⟩;intro q h;rcases h with h | h
      ·rcases h with h | h
       ·rcases h with h | h
        ·exact .inl h
        ·exact .inr ⟨Nat.le_trans HKW.out.size h.1, by have := HS5.out; have := h.2; simp [World.setCell]; omega⟩
       ·exact .inr ⟨Nat.le_trans HKW.out.size (Nat.le_trans HK4.out.size h.1), by have := h.2; simp [World.setCell]; omega⟩
      ·exact .inr ⟨Nat.le_trans HK45.out.size h.1, h.2⟩
end Go.Proofs.YtakkmiomhackiaaGreatDoor
