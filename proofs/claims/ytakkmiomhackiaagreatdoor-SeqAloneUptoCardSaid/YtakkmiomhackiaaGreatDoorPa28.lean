/-
  The program, one part of its walk: Pa3, Pa4, Pa5, Pa5s, Pa6. Conditions: none.
-/
import Derived.Test.YtakkmiomhackiaaGreatDoorPa22
import Derived.Test.YtakkmiomhackiaaGreatDoorPa27
import Derived.Test.YtakkmiomhackiaaGreatDoorPa19
import Derived.Test.YtakkmiomhackiaaGreatDoorPa20
import Derived.Test.YtakkmiomhackiaaGreatDoorPa00
set_option linter.all false
set_option maxRecDepth 100000
set_option maxHeartbeats 16000000
open Go.Proofs.Tryz
namespace Go.Proofs.YtakkmiomhackiaaGreatDoor
open Go.RowKit
section
inductive LS | at_ (x : Lx) (dn : Bool) | dead (pl st : Nat) (errV : Value)
def LexIs (F : Nat → Prop) (w : World) (b : Nat) (toks : List Tok) : LS → Prop
 | .at_ x dn => LexAt F w b x dn toks
 | .dead pl st errV => LexDead F w b pl st errV toks
section
variable {F G : Nat → Prop} {w w' : World} {b : Nat} {toks : List Tok} {s : LS}
theorem LexIs.block (h : LexIs F w b toks s) : F b := by cases s <;> exact h.1
theorem LexIs.lt (h : LexIs F w b toks s) : ∀ k, F k → k < w.heap.size := by cases s <;> exact h.2.1
theorem LexIs.apart (h : LexIs F w b toks s) (hk : Keeps G w w') (hd : ∀ k, F k → ¬ G k) : LexIs F w' b toks s := by
 cases s with
 | at_ x dn => exact LexAt.apart h hk hd
 | dead pl st errV => exact LexDead.apart h hk hd
end
theorem nextTok_any (F : Nat → Prop) (w : World) (b : Nat) (t : Tok) (toks : List Tok) (s : LS) (h : LexIs F w b (t :: toks) s) (hl : toks.length ≤ 999) :
 Calls prog 111 #[.pointer (some ⟨b, 0, none⟩)] w fun e w' => e = .returned (.tuple #[tokEnc t, .bool true]) ∧ LexIs F w' b toks s ∧ Keeps (fun k => k = b) w w' := by
 have hl2 : (toks.map tokEnc).length ≤ 1000 := by simp; omega
 obtain ⟨T, tv, ht⟩ : ∃ T tv, tokEnc t = .iface T tv := by cases t <;> exact ⟨_, _, rfl⟩
 cases s with
 | at_ x dn =>
  obtain ⟨hF, hlt, rawV, chV, saysV, tokV, hb, hw, hs⟩ := h;have hw1 := hw.1;rw [List.map_cons, ht] at hw1;rw [ht];refine (next_some w b _ _ _ _ _ _ _ _ _ _ _ _ _ tokV T tv (toks.map tokEnc) hb hw1 hl2).mono ?_;rintro e w' ⟨rfl, g, off, cap, hb2, hw2, hg, hk⟩;refine ⟨rfl, ⟨hF, fun k hk' => Nat.lt_of_lt_of_le (hlt k hk') hk.size, rawV, chV, saysV, _, hb2, ⟨by simpa using hw2, fun k e => by cases e; exact hw.2 _ hg⟩, ⟨fun h => ?_, fun h => ?_⟩⟩, hk⟩
  ·have hr := hs.raw h;exact ⟨hr.1.keeps hk (fun k e hk => hr.1.ne hb (by decide) (e.trans (congrArg some hk))), hr.2⟩
  ·obtain ⟨h1, f, pl, h2, h3, h4, h5⟩ := hs.text h;exact ⟨⟨h1.1.keeps hk (fun k e hk => h1.1.ne hb (by decide) (e.trans (congrArg some hk))), h1.2⟩, f, pl, h2, h3.keeps hk (feeds_ne h3 hb (by decide)), h4, h5⟩
 | dead pl st errV =>
  obtain ⟨hF, hlt, v2, v3, v4, v6, v7, v8, v9, va, vb, vc, tokV, hb, hw⟩ := h;have hw1 := hw.1;rw [List.map_cons, ht] at hw1;rw [ht];refine (next_some w b _ _ _ _ _ _ _ _ _ _ _ _ _ tokV T tv (toks.map tokEnc) hb hw1 hl2).mono ?_;rintro e w' ⟨rfl, g, off, cap, hb2, hw2, hg, hk⟩;exact ⟨rfl, ⟨hF, fun k hk' => Nat.lt_of_lt_of_le (hlt k hk') hk.size, _, _, _, _, _, _, _, _, _, _, _, hb2, ⟨by simpa using hw2, fun k e => by cases e; exact hw.2 _ hg⟩⟩, hk⟩
theorem nextNone_any (F : Nat → Prop) (w : World) (b : Nat) (s : LS) (h : LexIs F w b [] s) :
 Calls prog 111 #[.pointer (some ⟨b, 0, none⟩)] w fun e w' => e = .returned (.tuple #[.nilIface, .bool false]) ∧ w' = w := by
 cases s with
 | at_ x dn =>
  obtain ⟨hF, hlt, rawV, chV, saysV, tokV, hb, hw, hs⟩ := h;obtain ⟨a, c, rfl⟩ := hw.1.shape;exact next_none w b _ _ _ _ _ _ _ _ _ _ _ _ _ a c hb
 | dead pl st errV =>
  obtain ⟨hF, hlt, v2, v3, v4, v6, v7, v8, v9, va, vb, vc, tokV, hb, hw⟩ := h;obtain ⟨a, c, rfl⟩ := hw.1.shape;exact next_none w b _ _ _ _ _ _ _ _ _ _ _ _ _ a c hb
def FrameAt (Q : Nat → Prop) (w : World) (v : Value) : Fr → Prop
 | .list m => ∃ fb, v = .iface 272 (.pointer (some ⟨fb, 0, none⟩)) ∧ w.heap[fb]? = some (.cells #[.int .i64 m] 274 (0, 0)) ∧ Q fb
 | .object keys => ∃ fb mb keysV, v = .iface 275 (.pointer (some ⟨fb, 0, none⟩)) ∧ w.heap[fb]? = some (.cells #[keysV, .map (some mb)] 278 (0, 0)) ∧ Q fb ∧ WinIn Q 9 encS w keysV keys ∧ (keys = [] → keysV = .slice none 0 0) ∧ MetMap w mb keys.reverse ∧ Q mb
structure PileAt (F : Nat → Prop) (w : World) (v : Value) (pile : List Fr) (vals : List Value) : Prop where
 lt : ∀ k, F k → k < w.heap.size
 win : WinIn F 281 id w v vals
 len : vals.length = pile.length
 frames : ∃ Q : Nat → Nat → Prop, (∀ i k, Q i k → F k ∧ v.ownBlock ≠ some k) ∧ (∀ i j k, Q i k → Q j k → i = j) ∧ ∀ (i : Nat) (u : Value) (fr : Fr), vals[i]? = some u → pile[i]? = some fr → FrameAt (Q i) w u fr
theorem FrameAt.keeps {Q G : Nat → Prop} {w w' : World} {v : Value} {fr : Fr} (h : FrameAt Q w v fr) (hk : Keeps G w w') (hd : ∀ k, Q k → ¬ G k) : FrameAt Q w' v fr := by
 cases fr with
 | list m => obtain ⟨fb, h1, h2, h3⟩ := h; exact ⟨fb, h1, hk.blk h2 (hd fb h3), h3⟩
 | object k =>
  obtain ⟨fb, mb, kV, h1, h2, h3, h4, h5, h6, h7⟩ := h;exact ⟨fb, mb, kV, h1, hk.blk h2 (hd fb h3), h3, ⟨h4.1.keeps hk (fun k e => hd k (h4.2 k e)), h4.2⟩, h5, h6.keeps hk (hd mb h7), h7⟩
theorem PileAt.keeps {F G : Nat → Prop} {w w' : World} {v : Value} {pile : List Fr} {vals : List Value} (h : PileAt F w v pile vals) (hk : Keeps G w w') (hd : ∀ k, F k → ¬ G k) : PileAt F w' v pile vals := by
 obtain ⟨Q, h1, h2, h3⟩ := h.frames;exact ⟨fun k hk' => Nat.lt_of_lt_of_le (h.lt k hk') hk.size, ⟨h.win.1.keeps hk fun k e => hd k (h.win.2 k e), h.win.2⟩, h.len, Q, h1, h2, fun i u fr hu hf => (h3 i u fr hu hf).keeps hk (fun k hq => hd k (h1 i k hq).1)⟩
theorem PileAt.nil (w : World) : PileAt (fun _ => False) w (.slice none 0 0) [] [] := ⟨fun _ h => h.elim, .nil _ _ _ _, rfl, fun _ _ => False, fun _ _ h => h.elim, fun _ _ _ h => h.elim, fun i u fr hu => by simp at hu⟩
theorem PileAt.last {F : Nat → Prop} {w : World} {v : Value} {ini : List Fr} {fr : Fr} {vals : List Value} (h : PileAt F w v (ini ++ [fr]) vals) :
 ∃ (Q : Nat → Prop) (u : Value), (∀ k, Q k → F k ∧ v.ownBlock ≠ some k) ∧ vals[ini.length]? = some u ∧ FrameAt Q w u fr ∧
  ∀ (w' : World) (G : Nat → Prop) (fr' : Fr), Keeps G w w' → (∀ k, G k → F k → Q k) → FrameAt (Since Q w w') w' u fr' → PileAt (Since F w w') w' v (ini ++ [fr']) vals := by
 obtain ⟨Q, h1, h2, h3⟩ := h.frames;have hlen : vals.length = ini.length + 1 := by rw [h.len]; simp
 obtain ⟨u, hu⟩ : ∃ u, vals[ini.length]? = some u := ⟨_, List.getElem?_eq_getElem (by omega)⟩;refine ⟨Q ini.length, u, h1 _, hu, h3 _ u fr hu (by simp), fun w' G fr' hk hG hfr => ?_⟩;refine ⟨since_lt h.lt hk.size, ⟨h.win.1.keeps hk fun k e hg => (h1 _ k (hG k hg (h.win.2 k e))).2 e, fun k e => .inl (h.win.2 k e)⟩, by simp [hlen], fun i k => if i = ini.length then Since (Q ini.length) w w' k else Q i k, ?_, ?_, ?_⟩
 ·intro i k hq
  try simp only [] at hq
  split at hq
  ·rcases hq with hq | hq
   ·exact ⟨.inl (h1 _ k hq).1, (h1 _ k hq).2⟩
   ·exact ⟨.inr hq, fun e => absurd (h.win.1.lt e) (Nat.not_lt.2 hq.1)⟩
  ·exact ⟨.inl (h1 i k hq).1, (h1 i k hq).2⟩
 ·intro i j k hi hj
  try simp only [] at hi hj
  split at hi
  ·split at hj
   ·omega
   ·rcases hi with hi | hi
    ·rename_i e1 e2; rw [e1]; exact h2 _ _ k hi hj
    ·exact absurd (h.lt k (h1 j k hj).1) (Nat.not_lt.2 hi.1)
  ·split at hj
   ·rcases hj with hj | hj
    ·rename_i e1 e2; rw [e2]; exact h2 _ _ k hi hj
    ·exact absurd (h.lt k (h1 i k hi).1) (Nat.not_lt.2 hj.1)
   ·exact h2 i j k hi hj
 ·intro i u' fr2 hu' hf
  by_cases hi : i = ini.length
  ·subst hi;rw [hu] at hu';cases hu';rw [List.getElem?_append_right (Nat.le_refl _), Nat.sub_self] at hf;cases hf;simp only [if_pos];exact hfr
  ·have hil : i < ini.length := by
    have := (List.getElem?_eq_some_iff.1 hu').1;omega
   rw [List.getElem?_append_left hil] at hf;have hf0 : (ini ++ [fr])[i]? = some fr2 := by rw [List.getElem?_append_left hil]; exact hf
   have hfr2 := (h3 i u' fr2 hu' hf0).keeps hk (fun k hq hg => hi (h2 i ini.length k hq (hG k hg (h1 i k hq).1)))
   simpa only [if_neg hi] using hfr2
theorem PileAt.push {F G : Nat → Prop} {w w' : World} {v v' : Value} {pile : List Fr} {vals : List Value} {u : Value} {fr : Fr} (h : PileAt F w v pile vals) (hk : Keeps G w w') (hG : ∀ k, G k → F k → v.ownBlock = some k) (hw : Win 281 id w' v' (vals ++ [u]))
 (hown : ∀ k, v'.ownBlock = some k → v.ownBlock = some k ∨ w.heap.size ≤ k) (hfr : FrameAt (fun k => w.heap.size ≤ k ∧ k < w'.heap.size ∧ v'.ownBlock ≠ some k) w' u fr) : PileAt (Since F w w') w' v' (pile ++ [fr]) (vals ++ [u]) := by
 obtain ⟨Q, h1, h2, h3⟩ := h.frames;have hlen := h.len;refine ⟨since_lt h.lt hk.size, ⟨hw, fun k e => (hown k e).elim (fun e => .inl (h.win.2 k e)) (fun hle => .inr ⟨hle, hw.lt e⟩)⟩, by simp [hlen], fun i k => if i = vals.length then (w.heap.size ≤ k ∧ k < w'.heap.size ∧ v'.ownBlock ≠ some k) else Q i k, ?_, ?_, ?_⟩
 ·intro i k hq
  try simp only [] at hq
  split at hq
  ·exact ⟨.inr ⟨hq.1, hq.2.1⟩, hq.2.2⟩
  ·refine ⟨.inl (h1 i k hq).1, fun e => ?_⟩;rcases hown k e with e | e
   ·exact (h1 i k hq).2 e
   ·exact absurd (h.lt k (h1 i k hq).1) (Nat.not_lt.2 e)
 ·intro i j k hi hj
  try simp only [] at hi hj
  split at hi
  ·split at hj
   ·omega
   ·exact absurd (h.lt k (h1 j k hj).1) (Nat.not_lt.2 hi.1)
  ·split at hj
   ·exact absurd (h.lt k (h1 i k hi).1) (Nat.not_lt.2 hj.1)
   ·exact h2 i j k hi hj
 ·intro i u' fr2 hu hf
  by_cases hi : i = vals.length
  ·subst hi;rw [List.getElem?_append_right (Nat.le_refl _), Nat.sub_self] at hu;rw [hlen, List.getElem?_append_right (Nat.le_refl _), Nat.sub_self] at hf;cases hu;cases hf;simp only [if_pos];exact hfr
  ·have hil : i < vals.length := by
    have := (List.getElem?_eq_some_iff.1 hu).1;simp at this; omega
   rw [List.getElem?_append_left hil] at hu;rw [List.getElem?_append_left (by omega)] at hf;have hfr2 := (h3 i u' fr2 hu hf).keeps hk (fun k hq hg => (h1 i k hq).2 (hG k hg (h1 i k hq).1))
   simpa only [if_neg hi] using hfr2
theorem PileAt.pop {F : Nat → Prop} {w : World} {g off n cap : Nat} {ini : List Fr} {fr : Fr} {vals : List Value} (h : PileAt F w (.slice (some ⟨g, off, none⟩) (n + 1) cap) (ini ++ [fr]) vals) (hn : n = ini.length) : PileAt F w (.slice (some ⟨g, off, none⟩) n cap) ini (vals.take n) := by
 obtain ⟨Q, h1, h2, h3⟩ := h.frames;have hlen : vals.length = ini.length + 1 := by rw [h.len]; simp
 subst hn;refine ⟨h.lt, ⟨h.win.1.take (by omega), fun k e => h.win.2 k (by cases e; rfl)⟩, by rw [List.length_take]; omega, Q, fun i k hq => ⟨(h1 i k hq).1, fun e => (h1 i k hq).2 (by cases e; rfl)⟩, h2, fun i u fr2 hu hf => ?_⟩;have hil := (List.getElem?_eq_some_iff.1 hf).1;rw [List.getElem?_take, if_pos hil] at hu;exact h3 i u fr2 hu (by rw [List.getElem?_append_left hil]; exact hf)
structure Parts (F : Nat → Prop) (p : Nat) (FL FM FP : Nat → Prop) : Prop where
 lex : ∀ k, FL k → F k
 maker : ∀ k, FM k → F k
 pile : ∀ k, FP k → F k
 self : F p ∧ ¬ FL p ∧ ¬ FM p ∧ ¬ FP p
 lm : ∀ k, FL k → ¬ FM k
 lp : ∀ k, FL k → ¬ FP k
 mp : ∀ k, FM k → ¬ FP k
section
variable {F FL FM FP : Nat → Prop} {p : Nat} {w w' : World}
theorem Parts.lexSince (h : Parts F p FL FM FP) (hp : p < w.heap.size) (hm : ∀ k, FM k → k < w.heap.size) (hf : ∀ k, FP k → k < w.heap.size) : Parts (Since F w w') p (Since FL w w') FM FP :=
 ⟨fun k hk => hk.elim (fun h' => .inl (h.lex k h')) .inr, fun k hk => .inl (h.maker k hk), fun k hk => .inl (h.pile k hk), ⟨.inl h.self.1, fun hk => hk.elim h.self.2.1 (fun h => absurd hp (Nat.not_lt.2 h.1)), h.self.2.2.1, h.self.2.2.2⟩,
  fun k hk hm' => hk.elim (fun h' => h.lm k h' hm') (fun h' => absurd (hm k hm') (Nat.not_lt.2 h'.1)), fun k hk hm' => hk.elim (fun h' => h.lp k h' hm') (fun h' => absurd (hf k hm') (Nat.not_lt.2 h'.1)), h.mp⟩
theorem Parts.makerSince (h : Parts F p FL FM FP) (hp : p < w.heap.size) (hl : ∀ k, FL k → k < w.heap.size) (hf : ∀ k, FP k → k < w.heap.size) : Parts (Since F w w') p FL (Since FM w w') FP :=
 ⟨fun k hk => .inl (h.lex k hk), fun k hk => hk.elim (fun h' => .inl (h.maker k h')) .inr, fun k hk => .inl (h.pile k hk), ⟨.inl h.self.1, h.self.2.1, fun hk => hk.elim h.self.2.2.1 (fun h => absurd hp (Nat.not_lt.2 h.1)), h.self.2.2.2⟩,
  fun k hk hm' => hm'.elim (fun h' => h.lm k hk h') (fun h' => absurd (hl k hk) (Nat.not_lt.2 h'.1)), h.lp, fun k hk hm' => hk.elim (fun h' => h.mp k h' hm') (fun h' => absurd (hf k hm') (Nat.not_lt.2 h'.1))⟩
theorem Parts.pileSince (h : Parts F p FL FM FP) (hp : p < w.heap.size) (hl : ∀ k, FL k → k < w.heap.size) (hm : ∀ k, FM k → k < w.heap.size) : Parts (Since F w w') p FL FM (Since FP w w') :=
 ⟨fun k hk => .inl (h.lex k hk), fun k hk => .inl (h.maker k hk), fun k hk => hk.elim (fun h' => .inl (h.pile k h')) .inr, ⟨.inl h.self.1, h.self.2.1, h.self.2.2.1, fun hk => hk.elim h.self.2.2.2 (fun h => absurd hp (Nat.not_lt.2 h.1))⟩,
  h.lm, fun k hk hm' => hm'.elim (fun h' => h.lp k hk h') (fun h' => absurd (hl k hk) (Nat.not_lt.2 h'.1)), fun k hk hm' => hm'.elim (fun h' => h.mp k hk h') (fun h' => absurd (hm k hk) (Nat.not_lt.2 h'.1))⟩
theorem Parts.since (h : Parts F p FL FM FP) : Parts (Since F w w') p FL FM FP :=
 ⟨fun k hk => .inl (h.lex k hk), fun k hk => .inl (h.maker k hk), fun k hk => .inl (h.pile k hk), ⟨.inl h.self.1, h.self.2⟩, h.lm, h.lp, h.mp⟩
end
def parCells (x : Ps) (lb mb : Nat) (pileV : Value) : Array Value := #[.int .i64 x.depth, .int .i64 x.place, .pointer (some ⟨lb, 0, none⟩), .pointer (some ⟨mb, 0, none⟩), pileV, .int .i64 x.want, .int .i64 x.nodes, .int .i64 x.bytes, .nilIface, .bool false]
def ParAt (F : Nat → Prop) (w : World) (p : Nat) (x : Ps) (s : LS) (toks : List Tok) : Prop :=
 (∀ k, F k → k < w.heap.size) ∧ ∃ FL FM FP lb mb pileV vals, Parts F p FL FM FP ∧ w.heap[p]? = some (.cells (parCells x lb mb pileV) 136 (0, 0)) ∧ LexIs FL w lb toks s ∧ MakerAt FM w mb x.items ∧ PileAt FP w pileV x.pile vals
def ParDead (w : World) (p : Nat) : Prop := ∃ v0 v1 v2 v3 v4 v5 v6 v7 v8 v9, w.heap[p]? = some (.cells #[v0, v1, v2, v3, v4, v5, v6, v7, v8, v9] 136 (0, 0))
theorem ParAt.dead {F : Nat → Prop} {w : World} {p : Nat} {x : Ps} {s : LS} {toks : List Tok} (h : ParAt F w p x s toks) : ParDead w p := by
 obtain ⟨_, _, _, _, _, _, _, _, _, hb, _⟩ := h;exact ⟨_, _, _, _, _, _, _, _, _, _, hb⟩
def ParPost (F : Nat → Prop) (w : World) (p : Nat) (s : LS) (toks : List Tok) (o : Out) (e : Ending) (w' : World) : Prop :=
 Keeps F w w' ∧ match o with
 | .error (no, at_) => e = failE no at_ ∧ ParDead w' p
 | .ok y => e = .returned (.tuple #[]) ∧ ParAt (Since F w w') w' p y s toks
end
section
section
variable {F FL FM FP : Nat → Prop} {w w' : World} {p lb mb : Nat} {x y : Ps} {s : LS} {toks : List Tok} {pileV : Value} {vals : List Value}
theorem par_self (hlt : ∀ k, F k → k < w.heap.size) (hp : Parts F p FL FM FP) (hL : LexIs FL w lb toks s) (hM : MakerAt FM w mb x.items) (hP : PileAt FP w pileV x.pile vals) (hk : Keeps (fun k => k = p) w w') (hb : w'.heap[p]? = some (.cells (parCells y lb mb pileV) 136 (0, 0)))
 (hi : y.items = x.items) (hpi : y.pile = x.pile) : Keeps F w w' ∧ ParAt (Since F w w') w' p y s toks := by
 have hkF : Keeps F w w' := hk.mono fun k e => e ▸ hp.self.1
 refine ⟨hkF, since_lt hlt hk.size, FL, FM, FP, lb, mb, pileV, vals, hp.since, hb, hL.apart hk (fun k h e => hp.self.2.1 (e ▸ h)), ?_, ?_⟩
 ·rw [hi]; exact hM.apart hk (fun k h e => hp.self.2.2.1 (e ▸ h))
 ·rw [hpi]; exact hP.keeps hk (fun k h e => hp.self.2.2.2 (e ▸ h))
theorem pile_shape (hP : PileAt FP w pileV x.pile vals) : ∃ a cap, pileV = .slice a x.pile.length cap := by
 obtain ⟨a, c, h⟩ := hP.win.1.shape;exact ⟨a, c, by rw [h, hP.len]⟩
theorem ParDead.keeps {G : Nat → Prop} (h : ParDead w p) (hk : Keeps G w w') (hG : ¬ G p) : ParDead w' p := by
 obtain ⟨v0, v1, v2, v3, v4, v5, v6, v7, v8, v9, hb⟩ := h;exact ⟨v0, v1, v2, v3, v4, v5, v6, v7, v8, v9, hk.blk hb hG⟩
end
theorem ParAt.apart {F G : Nat → Prop} {w w' : World} {p : Nat} {x : Ps} {s : LS} {toks : List Tok} (h : ParAt F w p x s toks) (hk : Keeps G w w') (hd : ∀ k, F k → ¬ G k) : ParAt F w' p x s toks := by
 obtain ⟨hlt, FL, FM, FP, lb, mb, pileV, vals, hp, hb, hL, hM, hP⟩ := h;exact ⟨fun k hk' => Nat.lt_of_lt_of_le (hlt k hk') hk.size, FL, FM, FP, lb, mb, pileV, vals, hp, hk.blk hb (hd p hp.self.1), hL.apart hk (fun k h => hd k (hp.lex k h)), hM.apart hk (fun k h => hd k (hp.maker k h)), hP.keeps hk (fun k h => hd k (hp.pile k h))⟩
theorem ParAt.mono {F G : Nat → Prop} {w : World} {p : Nat} {x : Ps} {s : LS} {toks : List Tok} (h : ParAt F w p x s toks) (hs : ∀ k, F k → G k) (hlt : ∀ k, G k → k < w.heap.size) : ParAt G w p x s toks := by
 obtain ⟨_, FL, FM, FP, lb, mb, pileV, vals, hp, hb, hL, hM, hP⟩ := h;exact ⟨hlt, FL, FM, FP, lb, mb, pileV, vals, ⟨fun k h => hs k (hp.lex k h), fun k h => hs k (hp.maker k h), fun k h => hs k (hp.pile k h), ⟨hs p hp.self.1, hp.self.2⟩, hp.lm, hp.lp, hp.mp⟩, hb, hL, hM, hP⟩
theorem ParAt.lt {F : Nat → Prop} {w : World} {p : Nat} {x : Ps} {s : LS} {toks : List Tok} (h : ParAt F w p x s toks) : ∀ k, F k → k < w.heap.size := h.1
theorem ParAt.self {F : Nat → Prop} {w : World} {p : Nat} {x : Ps} {s : LS} {toks : List Tok} (h : ParAt F w p x s toks) : F p := by
 obtain ⟨_, _, _, _, _, _, _, _, hp, _⟩ := h;exact hp.self.1
theorem ParAt.below {F : Nat → Prop} {w w' : World} {p : Nat} {x : Ps} {s : LS} {toks : List Tok} (h : ParAt F w p x s toks) (hb : Below w.heap.size w w') : ParAt F w' p x s toks := h.apart (Keeps.of_below (fun _ => False) hb) (fun _ _ => id)
theorem value_par (F : Nat → Prop) (w : World) (p : Nat) (x : Ps) (s : LS) (toks : List Tok) (at_ : Nat) (h : ParAt F w p x s toks) (hn : x.nodes ≤ 65536) :
 Calls prog 117 #[.pointer (some ⟨p, 0, none⟩), .int .i64 at_] w fun e w' => Plainly e ∧ ParPost F w p s toks (x.value at_) e w' := by
 have h0 := h;obtain ⟨hlt, FL, FM, FP, lb, mb, pileV, vals, hp, hb, hL, hM, hP⟩ := h;obtain ⟨a, cap, rfl⟩ := pile_shape hP;unfold Ps.value
 by_cases h1 : x.want ≠ 0 ∧ x.want ≠ 1
 ·rw [if_pos h1];refine (value_syntax w p x.want at_ _ _ _ _ _ _ _ _ _ hb h1).mono ?_;rintro e w' ⟨rfl, hbl⟩;exact ⟨.inr ⟨_, _, rfl⟩, Keeps.of_below F hbl, rfl, h0.dead.keeps (Keeps.of_below (fun _ => False) hbl) id⟩
 rw [if_neg h1];have hw : x.want = 0 ∨ x.want = 1 := by omega
 by_cases h2 : x.pile.length = x.depth
 ·rw [if_pos h2];have hb2 := hb;unfold parCells at hb2;rw [h2] at hb2;refine (value_depth w p x.depth x.want at_ cap a _ _ _ _ _ _ _ hb2 hw).mono ?_;rintro e w' ⟨rfl, hbl⟩;exact ⟨.inr ⟨_, _, rfl⟩, Keeps.of_below F hbl, rfl, h0.dead.keeps (Keeps.of_below (fun _ => False) hbl) id⟩
 rw [if_neg h2]
 by_cases h3 : x.nodes = 65536
 ·rw [if_pos h3];have hb2 := hb;unfold parCells at hb2;rw [h3] at hb2;refine (value_long w p x.depth x.want at_ x.pile.length cap a _ _ _ _ _ _ hb2 hw h2).mono ?_;rintro e w' ⟨rfl, hbl⟩;exact ⟨.inr ⟨_, _, rfl⟩, Keeps.of_below F hbl, rfl, h0.dead.keeps (Keeps.of_below (fun _ => False) hbl) id⟩
 rw [if_neg h3];refine (value_ok w p x.depth x.want x.nodes at_ x.pile.length cap a _ _ _ _ _ _ hb hw h2 (by omega)).mono ?_;rintro e w' ⟨rfl, hb2, hk⟩;have := par_self (y := { x with nodes := x.nodes + 1 }) hlt hp hL hM hP hk hb2 rfl rfl;exact ⟨.inl rfl, this.1, rfl, this.2⟩
theorem begins_par (F : Nat → Prop) (w : World) (p : Nat) (x : Ps) (s : LS) (toks : List Tok) (c : UInt8) (h : ParAt F w p x s toks) (hn : x.nodes ≤ 65536) :
 Calls prog 84 #[.pointer (some ⟨p, 0, none⟩), .int .u8 ((c.toNat : Nat) : Int)] w fun e w' => Plainly e ∧ ParPost F w p s toks (x.begins c) e w' := by
 by_cases hw : c = 34 ∧ (x.want = 2 ∨ x.want = 3)
 ·have hbg : x.begins c = .ok x := by unfold Ps.begins; rw [if_pos hw]
  rw [hbg];have h0 := h;obtain ⟨hlt, FL, FM, FP, lb, mb, pileV, vals, hp, hb, hL, hM, hP⟩ := h;obtain ⟨hc, hw⟩ := hw;refine (begins_key w p x.want _ _ _ _ _ _ _ _ _ c hb hc hw).mono ?_;rintro e w' ⟨rfl, hbl⟩;exact ⟨.inl rfl, Keeps.of_below F hbl, rfl, (h0.below hbl).mono (fun k h => .inl h) (since_lt hlt hbl.size)⟩
 ·have hbg : x.begins c = x.value x.place := by unfold Ps.begins; rw [if_neg hw]
  rw [hbg];have hv := value_par F w p x s toks x.place h hn;obtain ⟨hlt, FL, FM, FP, lb, mb, pileV, vals, hp, hb, hL, hM, hP⟩ := h;refine begins_value w p x.place x.want _ _ _ _ _ _ _ _ c _ hb ?_ (hv.mono fun e w' h => ⟨h.1, h⟩)
  by_cases hc : c = 34
  ·exact .inr ⟨fun e => hw ⟨hc, .inl e⟩, fun e => hw ⟨hc, .inr e⟩⟩
  ·exact .inl hc
theorem weigh_par (F : Nat → Prop) (w : World) (p : Nat) (x : Ps) (s : LS) (toks : List Tok) (l : List UInt8) (at_ : Nat) (h : ParAt F w p x s toks) (hb0 : x.bytes ≤ 1073741824) (hl : l.length ≤ 1073741824) :
 Calls prog 149 #[.pointer (some ⟨p, 0, none⟩), .string ⟨l.toArray⟩, .int .i64 at_] w fun e w' => Plainly e ∧ ParPost F w p s toks (x.weigh l at_) e w' := by
 obtain ⟨hlt, FL, FM, FP, lb, mb, pileV, vals, hp, hb, hL, hM, hP⟩ := h;have hsz : (⟨l.toArray⟩ : ByteArray).size = l.length := by show l.toArray.size = _; simp
 refine (weigh_any w p x.bytes at_ ⟨l.toArray⟩ _ _ _ _ _ _ _ _ _ hb hb0 (by rw [hsz]; exact hl)).mono ?_;rintro e w' ⟨h1, h2, hb2, hk⟩;rw [hsz] at h1 h2 hb2;unfold Ps.weigh;have := par_self (y := { x with bytes := x.bytes + l.length }) hlt hp hL hM hP hk hb2 rfl rfl
 by_cases hf : 2097152 < x.bytes + l.length
 ·rw [if_pos hf];exact ⟨.inr ⟨_, _, h2 hf⟩, this.1, h2 hf, this.2.dead⟩
 ·rw [if_neg hf];exact ⟨.inl (h1 (by omega)), this.1, h1 (by omega), this.2⟩
theorem getLast_cases (l : List Fr) : l = [] ∨ ∃ i fr, l = i ++ [fr] := by
 rcases List.eq_nil_or_concat l with h | ⟨i, fr, h⟩
 ·exact .inl h
 ·exact .inr ⟨i, fr, by simpa using h⟩
theorem put_par (F : Nat → Prop) (w : World) (p : Nat) (x : Ps) (s : LS) (toks : List Tok) (h : ParAt F w p x s toks) (hm : ∀ m, Fr.list m ∈ x.pile → m ≤ 1073741824) (hl : x.pile.length ≤ 1048576) :
 Calls prog 151 #[.pointer (some ⟨p, 0, none⟩)] w fun e w' => e = .returned (.tuple #[]) ∧ Keeps F w w' ∧ ParAt (Since F w w') w' p x.put s toks := by
 obtain ⟨hlt, FL, FM, FP, lb, mb, pileV, vals, hp, hb, hL, hM, hP⟩ := h;rcases getLast_cases x.pile with hnil | ⟨ini, fr, hpile⟩
 ·obtain ⟨a, cap, rfl⟩ := pile_shape hP;have hb2 := hb;unfold parCells at hb2;rw [hnil, List.length_nil] at hb2;refine (put_empty w p cap a _ _ _ _ _ _ _ _ _ hb2).mono ?_;rintro e w' ⟨rfl, hb3, hk⟩
  have hput : x.put = { x with want := 6 } := by
   have hmo : more x.pile = x.pile := by rw [hnil]; rfl
   unfold Ps.put; rw [if_pos hnil, hmo]
  rw [hput];have := par_self (y := { x with want := 6 }) hlt hp hL hM hP hk (by rw [hnil, List.length_nil]; exact hb3) rfl rfl;exact ⟨rfl, this.1, this.2⟩
 ·have hlen : vals.length = ini.length + 1 := by rw [hP.len, hpile]; simp
  have hP' := hP;rw [hpile] at hP';obtain ⟨Q, u, hQ, hu, hfr, hstep⟩ := hP'.last;obtain ⟨a, cap, hpv⟩ := pile_shape hP;rw [hpile, List.length_append, List.length_cons, List.length_nil, Nat.zero_add] at hpv;subst hpv;have hwin := hP.win.1
  obtain ⟨g, off, hga⟩ : ∃ g off, a = some ⟨g, off, none⟩ := by
   rcases hwin with ⟨hv, _⟩ | ⟨g, off, cap', cur, hv, _⟩
   ·cases hv
   ·injection hv with h1 _ _; exact ⟨g, off, h1⟩
  subst hga;have hcell : w.cell? ⟨g, off + ini.length, none⟩ = some u := hwin.cell hu;have hgp : g ≠ p := fun e => hp.self.2.2.2 (e ▸ hP.win.2 g rfl)
  have hil : ini.length ≤ 1048576 := by rw [hpile] at hl; simp at hl; omega
  cases fr with
  | object k =>
   obtain ⟨fb, mb', kV, rfl, hfb, hQfb, hrest⟩ := hfr
   have hput : x.put = { x with want := 5 } := by
    have hmo : more x.pile = x.pile := by rw [hpile]; simp [more]
    unfold Ps.put;rw [if_neg (by rw [hpile]; simp), hmo]
   rw [hput];refine (put_object w p g off ini.length cap fb _ _ _ _ _ _ _ _ _ hb hcell hgp hil).mono ?_;rintro e w' ⟨rfl, hb2, hk⟩;have := par_self (y := { x with want := 5 }) hlt hp hL hM hP hk hb2 rfl rfl;exact ⟨rfl, this.1, this.2⟩
  | list m =>
   obtain ⟨fb, rfl, hfb, hQfb⟩ := hfr;have hFb : FP fb := (hQ fb hQfb).1;have hm1 : m ≤ 1073741824 := hm m (by rw [hpile]; simp)
   have hput : x.put = { x with want := 5, pile := ini ++ [.list (m + 1)] } := by
    unfold Ps.put;rw [if_neg (by rw [hpile]; simp), hpile];simp [more]
   rw [hput];refine (put_list w p g off ini.length cap fb m _ _ _ _ _ _ _ _ _ hb hcell hgp hfb hil hm1).mono ?_;rintro e w' ⟨rfl, hb2, hfb2, hk⟩;have hkF : Keeps F w w' := hk.mono fun k e => e.elim (fun e => e ▸ hp.self.1) (fun e => e ▸ hp.pile fb hFb)
   have hd : ∀ (Q : Nat → Prop), ¬ Q p → ¬ Q fb → ∀ k, Q k → ¬ (k = p ∨ k = fb) := fun Q h1 h2 k hk e => e.elim (fun e => h1 (e ▸ hk)) (fun e => h2 (e ▸ hk))
   refine ⟨rfl, hkF, since_lt hlt hkF.size, FL, FM, Since FP w w', lb, mb, _, vals, hp.pileSince (hlt p hp.self.1) hL.lt hM.2.1, hb2, hL.apart hk (hd FL hp.self.2.1 (fun h => hp.lp fb h hFb)), hM.apart hk (hd FM hp.self.2.2.1 (fun h => hp.mp fb h hFb)), ?_⟩;exact hstep w' _ (.list (m + 1)) hk (fun k hg hF => hg.elim (fun e => absurd (e ▸ hF) hp.self.2.2.2) (fun e => e ▸ hQfb)) ⟨fb, rfl, hfb2, .inl hQfb⟩
end
section
structure PileOk (x : Ps) (n : Nat) : Prop where
 many : ∀ m, Fr.list m ∈ x.pile → m ≤ n
 len : x.pile.length ≤ 1048576
section
variable {F FL FM FP : Nat → Prop} {w w' : World} {p lb mb : Nat} {x y : Ps} {s : LS} {toks : List Tok} {pileV : Value} {vals : List Value}
theorem par_maker (hlt : ∀ k, F k → k < w.heap.size) (hp : Parts F p FL FM FP) (hb : w.heap[p]? = some (.cells (parCells x lb mb pileV) 136 (0, 0))) (hL : LexIs FL w lb toks s) (hP : PileAt FP w pileV x.pile vals) (hk : Keeps FM w w') (hml : ∀ k, FM k → k < w.heap.size) {items : List Tr} (hM' : MakerAt (Since FM w w') w' mb items) :
 Keeps F w w' ∧ ParAt (Since F w w') w' p { x with items := items } s toks :=
 ⟨hk.mono hp.maker, since_lt hlt hk.size, FL, Since FM w w', FP, lb, mb, pileV, vals, hp.makerSince (hlt p hp.self.1) hL.lt hP.lt, hk.blk hb hp.self.2.2.1, hL.apart hk hp.lm, hM', hP.keeps hk fun k h e => hp.mp k e h⟩
end
theorem ParAt.mono_since {F : Nat → Prop} {w w1 w2 : World} {p : Nat} {x : Ps} {s : LS} {toks : List Tok} (h : ParAt (Since (Since F w w1) w1 w2) w2 p x s toks) (h1 : w.heap.size ≤ w1.heap.size) (h2 : w1.heap.size ≤ w2.heap.size) (hlt : ∀ k, F k → k < w.heap.size) : ParAt (Since F w w2) w2 p x s toks := by
 obtain ⟨_, FL, FM, FP, lb, mb, pileV, vals, hp, hb, hL, hM, hP⟩ := h;have hs : ∀ k, Since (Since F w w1) w1 w2 k → Since F w w2 k := fun k hk => hk.trans h1 h2
 exact ⟨since_lt hlt (Nat.le_trans h1 h2), FL, FM, FP, lb, mb, pileV, vals, ⟨fun k h => hs k (hp.lex k h), fun k h => hs k (hp.maker k h), fun k h => hs k (hp.pile k h), ⟨hs p hp.self.1, hp.self.2⟩, hp.lm, hp.lp, hp.mp⟩, hb, hL, hM, hP⟩
theorem scalar_num (F : Nat → Prop) (w : World) (p : Nat) (x : Ps) (s : LS) (toks : List Tok) (b : Nat) (hbf : Finite b) (h : ParAt F w p x s toks) (hpo : PileOk x 1073741824) (hit : x.items.length ≤ 1048576) :
 Calls prog 114 #[.pointer (some ⟨p, 0, none⟩), .iface 107 (.float .f64 b)] w fun e w' => e = .returned (.tuple #[]) ∧ Keeps F w w' ∧ ParAt (Since F w w') w' p (Ps.put { x with items := putNum x.items b }) s toks := by
 have ht1 : ∀ w : World, (Instr.typeAssert (.iface 107 (.float .f64 b)) 39 102 true).run prog w = .ok (.tuple #[.agg #[], .bool false]) w := fun _ => by kernel_rfl
 have ht2 : ∀ w : World, (Instr.typeAssert (.iface 107 (.float .f64 b)) 39 104 true).run prog w = .ok (.tuple #[.bool false, .bool false]) w := fun _ => by kernel_rfl
 have ht3 : ∀ w : World, (Instr.typeAssert (.iface 107 (.float .f64 b)) 39 107 true).run prog w = .ok (.tuple #[.float .f64 b, .bool true]) w := fun _ => by kernel_rfl
 obtain ⟨hlt, FL, FM, FP, lb, mb, pileV, vals, hp, hb, hL, hM, hP⟩ := h;obtain ⟨c0, c1, c2, c3, c4, c5, c6, c7, c8, c9, cf⟩ := cells10 hb;have HM := hZ ((maker_num FM w mb x.items b hbf hM hit).mono (R' := fun e w1 => (∃ v, e = .returned v) ∧ Keeps F w w1 ∧ ParAt (Since F w w1) w1 p { x with items := putNum x.items b } s toks) fun e w1 ⟨he, hk, hm⟩ => ⟨he, par_maker hlt hp hb hL hP hk hM.2.1 hm⟩);have HPUT := hZ (fun w1 (h : ParAt (Since F w w1) w1 p { x with items := putNum x.items b } s toks) => put_par (Since F w w1) w1 p _ s toks h hpo.many hpo.len);have HLT := hZ hlt;clear hlt hp hb hL hM hP;go_enter func114, ntmps114;go_wp2_with fail;refine (HM.out).mono ?_;rintro e w1 ⟨⟨v, rfl⟩, hk1, hp1⟩;have HK1 := hZ hk1;have HPP := hZ (HPUT.out w1 hp1);clear hk1 hp1 c0 c1 c2 c3 c4 c5 c6 c7 c8 c9 cf;go_wp2_with fail;refine (HPP.out).mono ?_;rintro e w2 ⟨rfl, hk2, hp2⟩;have HK2 := hZ hk2;have HP2 := hZ hp2;clear hk2 hp2;go_wp2_with fail
 go_end0
 exact ⟨rfl, HK1.out.andThen HK2.out, HP2.out.mono_since HK1.out.size HK2.out.size HLT.out⟩
theorem text_value (F : Nat → Prop) (w : World) (p : Nat) (x : Ps) (s : LS) (toks : List Tok) (at_ size : Nat) (l : List UInt8) (hr : rightOf l = true) (hl : l.length ≤ 1073741824) (h : ParAt F w p x s toks) (hpo : PileOk x 1073741824) (hit : x.items.length ≤ 1048576) (hby : x.bytes ≤ 1073741824) (hw : x.want ≠ 2 ∧ x.want ≠ 3) :
 Calls prog 113 #[.pointer (some ⟨p, 0, none⟩), .agg #[.int .i64 at_, .int .i64 size, .string ⟨l.toArray⟩]] w fun e w' => Plainly e ∧ ParPost F w p s toks (x.text at_ l) e w' := by
 have htx : x.text at_ l = (x.weigh l at_).map fun p => Ps.put { p with items := putText p.items l } := by unfold Ps.text; rw [if_pos hw]
 rw [htx];have hal : Keeps (fun _ => False) w (w.alloc (.cells #[.int .i64 at_, .int .i64 size, .string ⟨l.toArray⟩] 241)) := (Keeps.refl _ w).alloc _;have hlt := h.lt;have hself := h.self;have h1 := h.apart hal (fun _ _ => id);have e2 : ((x.want : Int) != 2) = true := by simp; omega
 have e3 : ((x.want : Int) != 3) = true := by simp; omega
 have HWG := hZ (weigh_par F _ p x s toks l at_ h1 hby hl);have HKA := hZ hal;have HLT := hZ hlt;have hB : ¬ F w.heap.size := fun hf => absurd (hlt _ hf) (Nat.lt_irrefl _)
 have hc5 : (w.alloc (.cells #[.int .i64 at_, .int .i64 size, .string ⟨l.toArray⟩] 241)).cell? ⟨p, 5, none⟩ = some (.int .i64 x.want) := by
  obtain ⟨_, FL, FM, FP, lb, mb, pileV, vals, hp, hb, hL, hM, hP⟩ := h1;rw [cell_at hb]; rfl
 have hf5 : ∀ o, (w.alloc (.cells #[.int .i64 at_, .int .i64 size, .string ⟨l.toArray⟩] 241)).frozen? ⟨p, o, none⟩ = false := by
  obtain ⟨_, FL, FM, FP, lb, mb, pileV, vals, hp, hb, hL, hM, hP⟩ := h1;exact free_at hb
 have hnew := heap_alloc_new w (.cells #[.int .i64 at_, .int .i64 size, .string ⟨l.toArray⟩] 241);have HB := hZ hB;have HNEW := hZ hnew;have b0 : (w.alloc (.cells #[.int .i64 at_, .int .i64 size, .string ⟨l.toArray⟩] 241)).cell? ⟨w.heap.size, 0, none⟩ = some (.int .i64 at_) := cell_at hnew;have b2 : (w.alloc (.cells #[.int .i64 at_, .int .i64 size, .string ⟨l.toArray⟩] 241)).cell? ⟨w.heap.size, 2, none⟩ = some (.string ⟨l.toArray⟩) := cell_at hnew;have HR := hZ hr;have HLL := hZ hl;have HPO := hZ hpo;have HIT := hZ hit;have HW := hZ hw;have HSF := hZ hself;have HH := hZ h;obtain ⟨sv, hsv⟩ : ∃ sv : ByteArray, (⟨l.toArray⟩ : ByteArray) = sv := ⟨_, rfl⟩;rw [hsv] at HWG HKA hc5 hf5 HNEW b0 b2 ⊢;have HSV := hZ hsv
 by_cases hbig : 2097152 < x.bytes + l.length
 ·have hwv : x.weigh l at_ = .error (3, at_) := by unfold Ps.weigh; rw [if_pos hbig]
  rw [hwv] at HWG ⊢;clear htx hal h h1 hw hlt hB hnew hr hl hpo hit hby hself hsv hwv hbig;go_enter func113, ntmps113;go_wp2_with fail;refine (HWG.out).mono ?_;rintro e w2 ⟨hpl, hk2, hpost⟩;obtain ⟨he, hdead⟩ := hpost;have HK := hZ ((HKA.out.mono (G := F) (fun _ h => h.elim)).same hk2);have HD := hZ hdead;clear hpl hk2 hdead;have HE := hZ he;unfold failE at he;subst he;go_wp2_with fail;exact ⟨rfl, .inr ⟨_, _, rfl⟩, HK.out, rfl, HD.out⟩
 ·have hwv : x.weigh l at_ = .ok { x with bytes := x.bytes + l.length } := by unfold Ps.weigh; rw [if_neg hbig]
  rw [hwv] at HWG ⊢;have HBIG := hZ hbig;clear htx hal h h1 hw hlt hB hnew hr hl hpo hit hby hself hsv hwv hbig;go_enter func113, ntmps113;go_wp2_with fail;refine (HWG.out).mono ?_;rintro e w2 ⟨hpl, hk2, hpost⟩;obtain ⟨he, hpar⟩ := hpost;subst he;have hkk : Keeps F w w2 := (HKA.out.mono (G := F) (fun _ h => h.elim)).same hk2;have hnew2 := hk2.blk HNEW.out HB.out;obtain ⟨hlt2, FL, FM, FP, lb, mb, pileV, vals, hp, hb, hL, hM, hP⟩ := hpar;obtain ⟨d0, d1, d2, d3, d4, d5, d6, d7, d8, d9, df⟩ := cells10 hb;have x0 : w2.cell? ⟨w.heap.size, 0, none⟩ = some (.int .i64 at_) := cell_at hnew2;have x2 : w2.cell? ⟨w.heap.size, 2, none⟩ = some (.string sv) := cell_at hnew2;have hmt := maker_text FM w2.drew mb x.items l HR.out (by have := HBIG.out; omega) (hM.apart ((Keeps.refl (fun _ => False) w2).drew) (fun _ _ => id)) HIT.out;rw [HSV.out] at hmt;have hlt3 : ∀ k, Since F w w2 k → k < w2.heap.size := since_lt HLT.out hkk.size;have hsub : ∀ k, Since F (w.alloc (.cells #[.int .i64 at_, .int .i64 size, .string sv] 241)) w2 k → Since F w w2 k := fun k h => h.elim .inl (fun h => .inr ⟨Nat.le_trans (by simp) h.1, h.2⟩)
  have hp' : Parts (Since F w w2) p FL FM FP := ⟨fun k h => hsub k (hp.lex k h), fun k h => hsub k (hp.maker k h), fun k h => hsub k (hp.pile k h), ⟨.inl HSF.out, hp.self.2⟩, hp.lm, hp.lp, hp.mp⟩
  have HMT := hZ (hmt.mono (R' := fun e w3 => (∃ v, e = .returned v) ∧ Keeps (Since F w w2) w2 w3 ∧ ParAt (Since (Since F w w2) w2 w3) w3 p { x with bytes := x.bytes + l.length, items := putText x.items l } s toks) fun e w3 ⟨he, hk3, hm3⟩ => by
   have hk3' : Keeps FM w2 w3 := ⟨hk3.os, hk3.tape, hk3.output, hk3.size, hk3.block⟩;have := par_maker (x := { x with bytes := x.bytes + l.length }) hlt3 hp' hb hL hP hk3' hM.2.1 hm3;exact ⟨he, this⟩)
  have HPUT := hZ (fun w3 (h : ParAt (Since (Since F w w2) w2 w3) w3 p { x with bytes := x.bytes + l.length, items := putText x.items l } s toks) => put_par _ w3 p _ s toks h HPO.out.many HPO.out.len);have HKK := hZ hkk;clear hpl hk2 hkk hnew2 hlt2 hp hb hL hM hP hmt hlt3 hsub hp' b0 b2 hc5 hf5;go_wp2_with fail
  go_region_with (go_at_call 150; refine (HMT.out).mono ?_; rintro e w3 ⟨⟨v, rfl⟩, hk3, hp3⟩)
  all_goals
   have HK3 := hZ hk3;have HPP := hZ (HPUT.out w3 hp3);clear hk3 hp3;go_wp2_with fail;refine (HPP.out).mono ?_;rintro e w4 ⟨rfl, hk4, hp4⟩;have HK4 := hZ hk4;have HP4 := hZ hp4;clear hk4 hp4;go_wp2_with fail;refine bodyPost_ret (results_none rfl _ _ _) rfl ?_;have hkA := HKK.out.andThen HK3.out;have hsub3 : ∀ k, Since (Since F w w2) w2 w3 k → Since F w w3 k := fun k h => h.trans HKK.out.size HK3.out.size
   have hk4 : Keeps F w w4 := hkA.andThen (HK4.out.mono hsub3);exact ⟨.inl rfl, hk4, rfl, HP4.out.mono (fun k h => Since.trans (F := F) (w := w) (w1 := w3) (w2 := w4) (h.elim (fun h => .inl (hsub3 k h)) .inr) hkA.size HK4.out.size) (since_lt HLT.out hk4.size)⟩
end
theorem scalar_null (F : Nat → Prop) (w0 : World) (p : Nat) (x : Ps) (s : LS) (toks : List Tok) (h : ParAt F w0 p x s toks) (hpo : PileOk x 1073741824) (hit : x.items.length ≤ 1048576) :
 Calls prog 114 #[.pointer (some ⟨p, 0, none⟩), .iface 102 (.agg #[])] w0 fun e w' => e = .returned (.tuple #[]) ∧ Keeps F w0 w' ∧ ParAt (Since F w0 w') w' p (Ps.put { x with items := putScalar x.items .null }) s toks := by
 have ht0 : ∀ w : World, (Instr.typeAssert (.iface 102 (.agg #[])) 39 102 true).run prog w = .ok (.tuple #[.agg #[], .bool true]) w := fun _ => by kernel_rfl
 have hlt0 := h.lt;have hal : Keeps (fun _ => False) w0 (w0.alloc (.cells #[] 102)) := (Keeps.refl _ w0).alloc _;have h := h.apart hal (fun _ _ => id);obtain ⟨w, hw⟩ : ∃ w, w0.alloc (.cells #[] 102) = w := ⟨_, rfl⟩;rw [hw] at h hal;have HAL := hZ hal;have HLT0 := hZ hlt0;clear hal hlt0;obtain ⟨hlt, FL, FM, FP, lb, mb, pileV, vals, hp, hb, hL, hM, hP⟩ := h;obtain ⟨c0, c1, c2, c3, c4, c5, c6, c7, c8, c9, cf⟩ := cells10 hb;have HM := hZ ((maker_null FM w mb x.items hM hit).mono (R' := fun e w1 => (∃ v, e = .returned v) ∧ Keeps F w w1 ∧ ParAt (Since F w w1) w1 p { x with items := putScalar x.items .null } s toks) fun e w1 ⟨he, hk, hm⟩ => ⟨he, par_maker hlt hp hb hL hP hk hM.2.1 hm⟩);have HPUT := hZ (fun w1 (h : ParAt (Since F w w1) w1 p { x with items := putScalar x.items .null } s toks) => put_par (Since F w w1) w1 p _ s toks h hpo.many hpo.len);have HLT := hZ hlt;clear hlt hp hb hL hM hP;go_enter func114, ntmps114;go_wp2_with fail;refine (HM.out).mono ?_;rintro e w1 ⟨⟨v, rfl⟩, hk1, hp1⟩;have HK1 := hZ hk1;have HPP := hZ (HPUT.out w1 hp1);clear hk1 hp1 c0 c1 c2 c3 c4 c5 c6 c7 c8 c9 cf;go_wp2_with fail;refine (HPP.out).mono ?_;rintro e w2 ⟨rfl, hk2, hp2⟩;have HK2 := hZ hk2;have HP2 := hZ hp2;clear hk2 hp2;go_wp2_with fail
 go_end0
 have hk := HK1.out.andThen HK2.out;have hkw : Keeps F w0 w2 := (HAL.out.mono (fun _ h => h.elim)).same hk;exact ⟨rfl, hkw, (HP2.out.mono_since HK1.out.size HK2.out.size HLT.out).mono (fun k h => h.elim .inl (fun h => .inr ⟨Nat.le_trans HAL.out.size h.1, h.2⟩)) (since_lt HLT0.out hkw.size)⟩
theorem scalar_flag (F : Nat → Prop) (w : World) (p : Nat) (x : Ps) (s : LS) (toks : List Tok) (c : Bool) (h : ParAt F w p x s toks) (hpo : PileOk x 1073741824) (hit : x.items.length ≤ 1048576) :
 Calls prog 114 #[.pointer (some ⟨p, 0, none⟩), .iface 104 (.bool c)] w fun e w' => e = .returned (.tuple #[]) ∧ Keeps F w w' ∧ ParAt (Since F w w') w' p (Ps.put { x with items := putScalar x.items (.flag c) }) s toks := by
 have ht0 : ∀ w : World, (Instr.typeAssert (.iface 104 (.bool c)) 39 102 true).run prog w = .ok (.tuple #[.agg #[], .bool false]) w := fun _ => by kernel_rfl
 have ht1 : ∀ w : World, (Instr.typeAssert (.iface 104 (.bool c)) 39 104 true).run prog w = .ok (.tuple #[.bool c, .bool true]) w := fun _ => by kernel_rfl
 obtain ⟨hlt, FL, FM, FP, lb, mb, pileV, vals, hp, hb, hL, hM, hP⟩ := h;obtain ⟨c0, c1, c2, c3, c4, c5, c6, c7, c8, c9, cf⟩ := cells10 hb;have HM := hZ ((maker_flag FM w mb x.items c hM hit).mono (R' := fun e w1 => (∃ v, e = .returned v) ∧ Keeps F w w1 ∧ ParAt (Since F w w1) w1 p { x with items := putScalar x.items (.flag c) } s toks) fun e w1 ⟨he, hk, hm⟩ => ⟨he, par_maker hlt hp hb hL hP hk hM.2.1 hm⟩);have HPUT := hZ (fun w1 (h : ParAt (Since F w w1) w1 p { x with items := putScalar x.items (.flag c) } s toks) => put_par (Since F w w1) w1 p _ s toks h hpo.many hpo.len);have HLT := hZ hlt;clear hlt hp hb hL hM hP;go_enter func114, ntmps114;go_wp2_with fail;refine (HM.out).mono ?_;rintro e w1 ⟨⟨v, rfl⟩, hk1, hp1⟩;have HK1 := hZ hk1;have HPP := hZ (HPUT.out w1 hp1);clear hk1 hp1 c0 c1 c2 c3 c4 c5 c6 c7 c8 c9 cf;go_wp2_with fail;refine (HPP.out).mono ?_;rintro e w2 ⟨rfl, hk2, hp2⟩;have HK2 := hZ hk2;have HP2 := hZ hp2;clear hk2 hp2;go_wp2_with fail
 go_end0
 exact ⟨rfl, HK1.out.andThen HK2.out, HP2.out.mono_since HK1.out.size HK2.out.size HLT.out⟩
def nameV (name : List UInt8) : Value := if name = [110, 117, 108, 108] then .iface 102 (.agg #[]) else .iface 104 (.bool (decide (name = [116, 114, 117, 101])))
theorem scalar_term (F : Nat → Prop) (w : World) (p : Nat) (x : Ps) (s : LS) (toks : List Tok) (name : List UInt8) (h : ParAt F w p x s toks) (hpo : PileOk x 1073741824) (hit : x.items.length ≤ 1048576) :
 Calls prog 114 #[.pointer (some ⟨p, 0, none⟩), nameV name] w fun e w' => e = .returned (.tuple #[]) ∧ Keeps F w w' ∧ ParAt (Since F w w') w' p (x.scalar (nameTr name)) s toks := by
 unfold nameV nameTr
 by_cases h0 : name = [110, 117, 108, 108]
 ·rw [if_pos h0, if_pos h0];exact scalar_null F w p x s toks h hpo hit
 ·rw [if_neg h0, if_neg h0];exact scalar_flag F w p x s toks (decide (name = [116, 114, 117, 101])) h hpo hit
theorem term_value (w : World) (a n : Nat) (name : List UInt8) (hn : name = [110, 117, 108, 108] ∨ name = [116, 114, 117, 101] ∨ name = [102, 97, 108, 115, 101]) :
 Calls prog 360 #[.agg #[.int .i64 a, .int .i64 n, .string ⟨name.toArray⟩]] w fun e w' => e = .returned (nameV name) ∧ Below w.heap.size w w' := by
 rcases hn with rfl | rfl | rfl
 all_goals
  go_enter func360, ntmps360;go_wp2;go_ret;exact ⟨rfl, (Below.refl _ _).alloc (Nat.le_refl _) _⟩
theorem elemFrame : Elem 133 281 16 := ⟨underlying133, by
 have h : (prog.info? 281).map (fun i => (i.zero, i.size, i.bytes)) = some (some .nilIface, 1, 16) := by kernel_rfl
 obtain ⟨i, h1, h2, h3, h4⟩ := info_parts h;exact ⟨i, _, h1, h2, h3, h4, rfl⟩⟩
theorem mark_open (F : Nat → Prop) (w : World) (p : Nat) (x : Ps) (s : LS) (toks : List Tok) (at_ : Nat) (h : ParAt F w p x s toks) (hno : x.nodes ≤ 65536) (hpl : x.pile.length ≤ 1048576) :
 Calls prog 112 #[.pointer (some ⟨p, 0, none⟩), .agg #[.int .i64 at_, .int .i64 1, .int .u8 91]] w fun e w' => Plainly e ∧ ParPost F w p s toks ((x.value at_).map fun p => { p with pile := p.pile ++ [.list 0], want := 1 }) e w' := by
 have hal : Keeps (fun _ => False) w (w.alloc (.cells #[.int .i64 at_, .int .i64 1, .int .u8 91] 238)) := (Keeps.refl _ w).alloc _;have hlt := h.lt;have hself := h.self;have h1 := h.apart hal (fun _ _ => id);have HV := hZ (value_par F _ p x s toks at_ h1 hno);have HKA := hZ hal;have HLT := hZ hlt;have hnew := heap_alloc_new w (.cells #[.int .i64 at_, .int .i64 1, .int .u8 91] 238);have b0 : (w.alloc (.cells #[.int .i64 at_, .int .i64 1, .int .u8 91] 238)).cell? ⟨w.heap.size, 0, none⟩ = some (.int .i64 at_) := cell_at hnew;have b2 : (w.alloc (.cells #[.int .i64 at_, .int .i64 1, .int .u8 91] 238)).cell? ⟨w.heap.size, 2, none⟩ = some (.int .u8 91) := cell_at hnew;have HSF := hZ hself;cases hvo : x.value at_ with
 | error er =>
  obtain ⟨no, a2⟩ := er;rw [hvo] at HV;clear hal h h1 hlt hnew hself hvo hno hpl;go_enter func112, ntmps112;go_wp2_with fail;refine (HV.out).mono ?_;rintro e w2 ⟨hpl, hk2, he, hdead⟩;have HK := hZ ((HKA.out.mono (G := F) (fun _ h => h.elim)).same hk2);have HD := hZ hdead;clear hpl hk2 hdead;have HE := hZ he;unfold failE at he;subst he;go_wp2_with fail;exact ⟨rfl, .inr ⟨_, _, rfl⟩, HK.out, rfl, HD.out⟩
 | ok y =>
  have hyp : y.pile = x.pile := by
   unfold Ps.value at hvo;split at hvo
   ·cases hvo
   ·split at hvo
    ·cases hvo
    ·split at hvo
     ·cases hvo
     ·cases hvo; rfl
  rw [hvo] at HV;have HYP := hZ hyp;have HPL := hZ hpl;clear hal h h1 hlt hnew hself hvo hno hyp hpl;go_enter func112, ntmps112;go_wp2_with fail;refine (HV.out).mono ?_;rintro e w2 ⟨hpl, hk2, he, hpar⟩;subst he;have hkk : Keeps F w w2 := (HKA.out.mono (G := F) (fun _ h => h.elim)).same hk2;obtain ⟨hlt2, FL, FM, FP, lb, mb, pileV, vals, hp, hb, hL, hM, hP⟩ := hpar;obtain ⟨d0, d1, d2, d3, d4, d5, d6, d7, d8, d9, df⟩ := cells10 hb;have hkx : Keeps (fun _ => False) w2 ((w2.alloc (.cells #[.int .i64 0] 274)).alloc (.cells #[.iface 272 (.pointer (some ⟨w2.heap.size, 0, none⟩))] 281)) := ((Keeps.refl _ w2).alloc _).alloc _;have hw0 := hP.win.1.keeps hkx (fun _ _ => id);have HWIN := hZ hw0;have HB := hZ hb;have HNE := hZ (hP.win.1.ne hb (by decide));have hpl2 : p < w2.heap.size := lt_of_block hb
  have hfb : ((w2.alloc (.cells #[.int .i64 0] 274)).alloc (.cells #[.iface 272 (.pointer (some ⟨w2.heap.size, 0, none⟩))] 281)).heap[w2.heap.size]? = some (.cells #[.int .i64 0] 274 (0, 0)) :=
   (Below.heap_alloc _ _ _ (by simp)).trans (heap_alloc_new w2 _)
  have HFB := hZ hfb;have HFBN := hZ (hw0.ne hfb (by decide));have hvl : vals.length ≤ 1048576 := by rw [hP.len, HYP.out]; exact HPL.out
  have HKK := hZ hkk;have HHP := hZ hp;have HHL := hZ hL;have HHM := hZ hM;have HHPL := hZ hP;have HKX := hZ hkx;have hsub : ∀ k, Since F (w.alloc (.cells #[.int .i64 at_, .int .i64 1, .int .u8 91] 238)) w2 k → Since F w w2 k := fun k h => h.elim .inl (fun h => .inr ⟨Nat.le_trans (by simp) h.1, h.2⟩)
  have HSUB := hZ hsub;obtain ⟨ta, tc, htv⟩ := hP.win.1.shape;clear hpl hk2 hkk hlt2 hp hb hL hM hP hw0 hfb hkx hsub b0 b2;subst htv
  go_wp2_with (at_builtin; refine append_win elemFrame rfl _ _ rfl rfl HWIN.out ⟨w2.heap.size + 1, 0, none⟩ 1 (.iface 272 (.pointer (some ⟨w2.heap.size, 0, none⟩))) rfl ?_ rfl ?_ ?_ ?_)
  ·exact cell_new (by simp)
  ·omega
  ·unfold maxLen; omega
  intro g off cap w' hrow hgb0 hgr;have hb' := (hgr.block p (by simp; omega) (fun e => HNE.out e.symm)).trans ((HKX.out.block p hpl2 id).trans HB.out);have hf' := (hgr.block w2.heap.size (by simp; omega) (fun e => HFBN.out e.symm)).trans HFB.out;obtain ⟨e0, e1, e2, e3, e4, e5, e6, e7, e8, e9, ef⟩ := cells10 hb';have HB3 := hZ hb';have HF3 := hZ hf';have HROW := hZ hrow;have HGB := hZ hgb0;have HK := hZ ((HKX.out.mono (G := fun k => (Value.slice ta vals.length tc).ownBlock = some k) (fun _ h => h.elim)).grown hgr (fun k e => .inl e));clear hb' hf' hrow hgb0 hgr d0 d1 d2 d3 d4 d5 d6 d7 d8 d9 df;go_wp2_with fail
  go_end0
  have hks : Keeps (fun k => k = p) w' ((w'.setCell ⟨p, 4, none⟩ (.slice (some ⟨g, off, none⟩) (vals.length + 1) cap)).setCell ⟨p, 5, none⟩ (.int .i64 1)) := ((Keeps.refl (fun k => k = p) w').setCell (p := ⟨p, 4, none⟩) (.inl rfl) _).setCell (p := ⟨p, 5, none⟩) (.inl rfl) _;have hall : Keeps (fun k => k = p ∨ (Value.slice ta vals.length tc).ownBlock = some k) w2 ((w'.setCell ⟨p, 4, none⟩ (.slice (some ⟨g, off, none⟩) (vals.length + 1) cap)).setCell ⟨p, 5, none⟩ (.int .i64 1)) := (HK.out.mono (fun k h => .inr h)).same (hks.mono (fun k h => .inl h));have hown := HHPL.out.win.2;have hallF : Keeps F w ((w'.setCell ⟨p, 4, none⟩ (.slice (some ⟨g, off, none⟩) (vals.length + 1) cap)).setCell ⟨p, 5, none⟩ (.int .i64 1)) := HKK.out.andThen (hall.mono (fun k h => h.elim (fun e => e ▸ .inl HSF.out) (fun e => HSUB.out k (HHP.out.pile k (hown k e)))));have hbp := set_at (o := 5) (set_at (o := 4) HB3.out (.slice (some ⟨g, off, none⟩) (vals.length + 1) cap)) (.int .i64 1);obtain ⟨wf, hwf⟩ : ∃ wf, ((w'.setCell ⟨p, 4, none⟩ (.slice (some ⟨g, off, none⟩) (vals.length + 1) cap)).setCell ⟨p, 5, none⟩ (.int .i64 1)) = wf := ⟨_, rfl⟩;rw [hwf] at hks hall hallF hbp ⊢
  have hgp : g ≠ p := by
   intro e;rcases HGB.out with h | h
   ·exact HHP.out.self.2.2.2 (e ▸ hown g h)
   ·have h4 := h.1
    try rw [World.size_alloc, World.size_alloc] at h4
    omega
  have hdisj : ∀ (Q : Nat → Prop), ¬ Q p → (∀ k, Q k → ¬ FP k) → ∀ k, Q k → ¬ (k = p ∨ (Value.slice ta vals.length tc).ownBlock = some k) := fun Q h1 h2 k hk h => h.elim (fun e => h1 (e ▸ hk)) (fun e => h2 k hk (hown k e))
  refine ⟨.inl rfl, hallF, rfl, since_lt HLT.out hallF.size, FL, FM, Since FP w2 wf, lb, mb, _, vals ++ [.iface 272 (.pointer (some ⟨w2.heap.size, 0, none⟩))], ?_, hbp, HHL.out.apart hall (hdisj FL HHP.out.self.2.1 (fun k h => HHP.out.lp k h)), HHM.out.apart hall (hdisj FM HHP.out.self.2.2.1 (fun k h => HHP.out.mp k h)), ?_⟩
  ·have hps := HHP.out.pileSince (w := w2) (w' := wf) hpl2 HHL.out.lt HHM.out.2.1
   have hs2 : ∀ k, Since (Since F (w.alloc (.cells #[.int .i64 at_, .int .i64 1, .int .u8 91] 238)) w2) w2 wf k → Since F w wf k :=
    fun k h => Since.trans (w1 := w2) (h.elim (fun h => .inl (HSUB.out k h)) .inr) HKK.out.size hall.size
   exact ⟨fun k h => hs2 k (hps.lex k h), fun k h => hs2 k (hps.maker k h), fun k h => hs2 k (hps.pile k h), ⟨.inl HSF.out, hps.self.2⟩, hps.lm, hps.lp, hps.mp⟩
  ·refine HHPL.out.push hall (fun k hg hF => hg.elim (fun e => absurd (e ▸ hF) HHP.out.self.2.2.2) id) ?_ ?_ ⟨w2.heap.size, rfl, hks.blk HF3.out (fun e => by omega), Nat.le_refl _, Nat.lt_of_lt_of_le (lt_of_block HF3.out) hks.size, HROW.out.ne HF3.out (by decide)⟩
   ·have := HROW.out.keeps hks (fun k e hk => hgp (by cases e; exact hk))
    simpa using this
   ·intro k hk3;cases hk3;exact HGB.out.imp id (fun h => by have h4 := h.1; show w2.heap.size ≤ g; first | omega | (rw [World.size_alloc, World.size_alloc] at h4; omega))
end Go.Proofs.YtakkmiomhackiaaGreatDoor
