/-
  The program, one part of its walk: Pv3, Lx17, Lx20, Lx25, Lx18. Conditions: none.
-/
import Derived.Test.YtakkmiomhackiaaGreatDoorPa26
import Derived.Test.YtakkmiomhackiaaGreatDoorPa18
import Derived.Test.YtakkmiomhackiaaGreatDoorPa20
import Derived.Test.YtakkmiomhackiaaGreatDoorPa22
import Derived.Test.YtakkmiomhackiaaGreatDoorPa11
import Derived.Test.YtakkmiomhackiaaGreatDoorPa25
import Derived.Test.YtakkmiomhackiaaGreatDoorPa00
set_option linter.all false
set_option maxRecDepth 100000
set_option maxHeartbeats 16000000
open Go.Proofs.Tryz
namespace Go.Proofs.YtakkmiomhackiaaGreatDoor
open Go.RowKit
inductive FinT : Tr → Prop
 | null : FinT .null
 | flag (b : Bool) : FinT (.flag b)
 | num (b : Nat) (h : Finite b) : FinT (.num b)
 | text (s : List UInt8) : FinT (.text s)
 | list (l : List Tr) (h : ∀ t ∈ l, FinT t) : FinT (.list l)
 | object (k : List (List UInt8)) (l : List Tr) (h : ∀ t ∈ l, FinT t) : FinT (.object k l)
theorem zeroed_finite {b : Nat} (h : Finite b) : Finite (zeroed b) := by
 unfold zeroed;split
 ·exact .inl (Nat.zero_le _)
 ·exact h
def FinL (l : List Tr) : Prop := ∀ t ∈ l, FinT t
theorem FinL.scalar {l : List Tr} {t : Tr} (h : FinL l) (ht : FinT t) : FinL (putScalar l t) := by
 unfold putScalar putItem;split
 ·exact h
 ·split
  ·intro u hu;rcases List.mem_append.1 hu with hu | hu
   ·exact h u hu
   ·simp at hu; subst hu; exact ht
  ·exact h
theorem FinL.group {l : List Tr} {n : Nat} {t : Tr} (h : FinL l) (ht : FinT t) : FinL (putGroup l n t) := by
 unfold putGroup;split
 ·intro u hu;rcases List.mem_append.1 hu with hu | hu
  ·exact h u (List.mem_of_mem_take hu)
  ·simp at hu; subst hu; exact ht
 ·exact h
theorem FinL.list {l : List Tr} {n : Nat} (h : FinL l) : FinL (putList l n) := by
 unfold putList;split
 ·exact h
 ·exact h.group (.list _ fun t ht => h t (List.mem_of_mem_drop ht))
theorem FinL.object {l : List Tr} {k : List (List UInt8)} (h : FinL l) : FinL (po l k) := by
 unfold po;split
 ·exact h
 ·refine h.group (.object _ _ fun t ht => ?_);unfold besides at ht;obtain ⟨s, _, rfl⟩ := List.mem_map.1 ht;rw [List.getD_eq_getElem?_getD];cases hx : (l.drop (l.length - k.length))[k.idxOf s]? with
  | none => exact .null
  | some u => exact h u (List.mem_of_mem_drop (List.mem_of_getElem? hx))
theorem value_items {x y : Ps} {at_ : Nat} (h : x.value at_ = .ok y) : y.items = x.items := by
 unfold Ps.value at h
 repeat' (split at h)
 all_goals first | (cases h; rfl) | cases h
theorem fin_token {x y : Ps} {t : Tok} (h : FinL x.items) (ht : StrOk t) (hy : x.token po t = .ok y) : FinL y.items := by
 cases t with
 | mark a s =>
  simp only [Ps.token] at hy;unfold Ps.mark at hy;split at hy
  ·cases hv : x.value a with
   | error e => rw [hv] at hy; cases hy
   | ok z => rw [hv] at hy; simp only [Except.map] at hy; cases hy; show FinL z.items; rw [value_items hv]; exact h
  ·split at hy
   ·cases hv : x.value a with
    | error e => rw [hv] at hy; cases hy
    | ok z => rw [hv] at hy; simp only [Except.map] at hy; cases hy; show FinL z.items; rw [value_items hv]; exact h
   ·split at hy
    ·cases hy; exact h
    ·split at hy
     ·cases hy; exact h
     ·split at hy
      ·cases hy;unfold Ps.finishOpen;split
       ·exact h.list
       ·exact h.object
       ·exact h
      ·cases hy
 | term a b c =>
  simp only [Ps.token] at hy;cases hy;refine h.scalar ?_;unfold nameTr;split
  ·exact .null
  ·exact .flag _
 | num a b c =>
  simp only [Ps.token] at hy;cases hy;exact h.scalar (.num _ (zeroed_finite ht))
 | str a b c =>
  simp only [Ps.token] at hy;unfold Ps.text Ps.weigh at hy;split at hy
  ·split at hy
   ·cases hy
   ·simp only [Except.map] at hy;cases hy
    show FinL (putText x.items c)
    unfold putText;split
    ·exact h.scalar (.text c)
    ·exact h
  ·split at hy
   ·cases hy
   ·simp only at hy;split at hy
    ·cases hy
    ·simp only [Except.map] at hy;cases hy;exact h
theorem fin_drain {toks : List Tok} : ∀ {x y : Ps}, FinL x.items → (∀ t ∈ toks, StrOk t) → x.drain po toks = .ok y → FinL y.items := by
 induction toks with
 | nil => intro x y hx _ h; cases h; exact hx
 | cons t toks ih =>
  intro x y hx ht h;rw [drain_cons'] at h;cases hv : x.token po t with
  | error e => rw [hv] at h; cases h
  | ok z =>
   rw [hv] at h;exact ih (fin_token hx (ht t (List.mem_cons_self ..)) hv) (fun t h => ht t (List.mem_cons_of_mem _ h)) h
theorem fin_take {x y : Ps} {c : UInt8} (hok : ParOk x) (hx : FinL x.items) (h : x.take po c = .ok y) : FinL y.items := by
 have hfi := fine_take hok.fine c;have htake : x.take po c = takeOut c (x.lex.take c) (Ps.drain po { x with lex := (x.lex.take c).1 } (x.lex.take c).2.1) := rfl;rw [htake] at h;cases hd : Ps.drain po { x with lex := (x.lex.take c).1 } (x.lex.take c).2.1 with
 | error e => rw [hd] at h; cases h
 | ok z =>
  rw [hd] at h;have hz := fin_drain (x := { x with lex := (x.lex.take c).1 }) hx hfi.2 hd;simp only [takeOut] at h;split at h
  ·cases h
  ·split at h
   ·cases h
   ·rename_i v hb;cases h
    show FinL v.items
    split at hb
    ·unfold Ps.begins at hb;split at hb
     ·cases hb; exact hz
     ·rw [value_items hb]; exact hz
    ·cases hb; exact hz
theorem fin_feed {l : List UInt8} : ∀ {x y : Ps}, ParOk x → FinL x.items → x.feed po l = .ok y → FinL y.items := by
 induction l with
 | nil => intro x y _ hx h; cases h; exact hx
 | cons c l ih =>
  intro x y hok hx h;unfold Ps.feed at h;rw [List.foldlM_cons] at h;cases ht : x.take po c with
  | error e => rw [ht] at h; cases h
  | ok z =>
   rw [ht] at h;exact ih (hok.take ht) (fin_take hok hx ht) h
theorem read_fin {l : List UInt8} {d : Nat} {y : Ps} (h2 : d ≤ 512) (h : Ps.read po l d = .ok y) : FinL y.items := by
 unfold Ps.read at h;cases hf : (Ps.new d).feed po l with
 | error e => rw [hf] at h; cases h
 | ok z =>
  rw [hf] at h;have h : z.finish po = .ok y := h;have hok := (parOk_new d h2).feed hf;have hz := fin_feed (parOk_new d h2) (fun t ht => by cases ht) hf;have htake : z.finish po = finOut z.lex.ended (Ps.drain po { z with lex := z.lex.ended.1 } z.lex.ended.2.1) := rfl;rw [htake] at h;cases hd : Ps.drain po { z with lex := z.lex.ended.1 } z.lex.ended.2.1 with
  | error e => rw [hd] at h; cases h
  | ok v =>
   rw [hd] at h;have hv := fin_drain (x := { z with lex := z.lex.ended.1 }) hz (fun t ht => fine_ended t ht) hd;simp only [finOut] at h;split at h
   ·cases h
   ·split at h
    ·cases h
    ·cases h; exact hv
theorem step_numeral (F : Nat → Prop) (w : World) (b : Nat) (x : Lx) (toks : List Tok) (c : UInt8) (h : LexAt F w b x false toks) (hst : x.st = .numeral) (hst2 : x.start ≤ x.place) (hnum : x.number ≤ 8) (hraw : x.raw.length ≤ 1073741824) (hpl : x.place ≤ 16777216) (htl : toks.length ≤ 999) :
 Calls prog 139 #[.pointer (some ⟨b, 0, none⟩), .int .u8 ((c.toNat : Nat) : Int)] w fun e w' => StepPost F w b x.place toks (numeralStep x c) e w' := by
 have h0 := h;obtain ⟨hF, hlt, rawV, chV, saysV, tokV, hb, hw, hs⟩ := h;have hr := hs.raw (.inr hst);have htl2 : (toks.map tokEnc).length ≤ 1000 := by simp; omega
 unfold numeralStep;cases hn : numNext x.number c with
 | some s' =>
  refine (numeral_on w b x.number s' _ _ _ _ _ _ _ _ _ _ _ _ rawV c x.raw hb hnum hn hr.1 hraw).mono fun e w' ht => ?_
  obtain ⟨he, hk, hl⟩ := raw_at (y := { x with number := s', raw := x.raw ++ [c] }) hF hlt hw hr.2 (.inr hst) rfl ⟨_, hb⟩ (fun k e => win_win hr.1 hw.1 (by decide) e) (fun u => by rw [hst]) ht;exact .good he hk (by rw [List.append_nil]; exact hl)
 | none =>
  simp only []
  by_cases he : numEnds x.number = true
  ·rw [if_pos he];cases hbt : bitsOf x.raw with
   | none =>
    have hfin : x.finish = none := by unfold Lx.finish; rw [hbt]; rfl
    rw [hfin];refine (numeral_range w b x.number _ _ _ _ _ _ _ _ _ _ _ _ rawV c x.raw hb hnum hn he hr.1 hraw hbt).mono ?_;rintro e w' ⟨rfl, hbl⟩;have hk : Keeps F w w' := Keeps.of_below F hbl;exact .bad (by decide) rfl hk (by rw [List.append_nil]; exact (h0.dead.apart (G := fun _ => False) (Keeps.of_below _ hbl) (fun _ _ => id)).mono (fun k hk => .inl hk) (since_lt hlt hk.size))
   | some bits =>
    have hfin : x.finish = some (x.told, .num x.start (x.place - x.start) bits) := by unfold Lx.finish; rw [hbt]; rfl
    rw [hfin];simp only [];refine numeral_ends w b x.number x.place x.start _ _ _ _ _ _ _ _ _ rawV tokV c x.raw (toks.map tokEnc) bits _ hb hnum hn he hr.1 hraw hbt hw.1 htl2 hst2 (by omega) ?_;intro w1 ht;obtain ⟨_, hk1, hl1⟩ := told_at (y := x.told) (tok := .num x.start (x.place - x.start) bits) hF hlt hw rfl rfl (fun u => rfl) ht;refine (step_outside (Since F w w1) w1 b x.told (toks ++ [.num x.start (x.place - x.start) bits]) c hl1 rfl hpl (by simp; omega)).mono ?_;rintro e w2 ⟨rfl, hk2, hg, hd⟩;refine ⟨⟨_, rfl⟩, rfl, hk1.andThen hk2, fun hn => ?_, fun hn => ?_⟩
    ·have := hg hn;rw [List.append_assoc, List.singleton_append] at this;exact this.mono (fun k hk => hk.trans hk1.size hk2.size) (since_lt hlt (Nat.le_trans hk1.size hk2.size))
    ·have := hd hn;rw [List.append_assoc, List.singleton_append] at this;exact this.mono (fun k hk => hk.trans hk1.size hk2.size) (since_lt hlt (Nat.le_trans hk1.size hk2.size))
  ·have he' : numEnds x.number = false := by simpa using he
   rw [if_neg he];refine (numeral_bad w b x.number _ _ _ _ _ _ _ _ _ _ _ _ _ c hb hnum hn he').mono ?_;rintro e w' ⟨rfl, rfl⟩;exact .bad (by decide) rfl (Keeps.refl _ _) (by rw [List.append_nil]; exact h0.dead.mono (fun k hk => .inl hk) (since_lt hlt (Nat.le_refl _)))
def EndPost (F : Nat → Prop) (w : World) (b : Nat) (toks : List Tok) (t : Lx × List Tok × Nat × Nat) (e : Ending) (w' : World) : Prop :=
 Keeps F w w' ∧ (t.2.2.1 = 0 → e = .returned .nilIface ∧ LexAt (Since F w w') w' b t.1 true (toks ++ t.2.1)) ∧
 (t.2.2.1 ≠ 0 → e = .returned (spotV t.2.2.1 t.2.2.2) ∧ ∃ pl st, LexDead (Since F w w') w' b pl st (spotV t.2.2.1 t.2.2.2) (toks ++ t.2.1))
theorem LexAt.done_set {F : Nat → Prop} {w : World} {b : Nat} {x : Lx} {dn : Bool} {toks : List Tok} (h : LexAt F w b x dn toks) (d : Bool) : LexAt F (w.setCell ⟨b, 2, none⟩ (.bool d)) b x d toks := by
 obtain ⟨hF, hlt, rawV, chV, saysV, tokV, hb, hw, hs⟩ := h;have hk : Keeps (fun k => k = b) w (w.setCell ⟨b, 2, none⟩ (.bool d)) := (Keeps.refl (fun k => k = b) w).setCell (p := ⟨b, 2, none⟩) (.inl rfl) _;refine ⟨hF, fun k hk' => Nat.lt_of_lt_of_le (hlt k hk') hk.size, rawV, chV, saysV, tokV, set_at hb _, ⟨hw.1.keeps hk (fun k e hk => hw.1.ne hb (by decide) (e.trans (congrArg some hk))), hw.2⟩, ⟨fun h => ?_, fun h => ?_⟩⟩
 ·have hr := hs.raw h;exact ⟨hr.1.keeps hk (fun k e hk => hr.1.ne hb (by decide) (e.trans (congrArg some hk))), hr.2⟩
 ·obtain ⟨h1, f, pl, h2, h3, h4, h5⟩ := hs.text h;exact ⟨⟨h1.1.keeps hk (fun k e hk => h1.1.ne hb (by decide) (e.trans (congrArg some hk))), h1.2⟩, f, pl, h2, h3.keeps hk (feeds_ne h3 hb (by decide)), h4, h5⟩
theorem lexEnd_any (F : Nat → Prop) (w : World) (b : Nat) (x : Lx) (toks : List Tok) (h : LexAt F w b x false toks) (hgn : x.number ≤ 8) (hgr : x.st = .numeral → x.raw.length ≤ x.place) (hgp : x.place ≤ 16777216) (hgs : x.start ≤ x.place) (hraw : numEnds x.number = true → x.isIn = true → x.st = .numeral) (htl : toks.length ≤ 999) :
 Calls prog 78 #[.pointer (some ⟨b, 0, none⟩)] w fun e w' => EndPost F w b toks x.ended e w' := by
 obtain ⟨c0, c1, c2, c4, c5, cf⟩ := h.cells;have h1 := h.done_set true;have HF := hZ h.1;have htl2 : (toks.map tokEnc).length ≤ 1000 := by simp; omega
 have hk1 : Keeps F w (w.setCell ⟨b, 2, none⟩ (.bool true)) := (Keeps.refl F w).setCell (p := ⟨b, 2, none⟩) (.inl h.1) _;have HK1 := hZ hk1;have hx1 : LexAt (Since F w (w.setCell ⟨b, 2, none⟩ (.bool true))) (w.setCell ⟨b, 2, none⟩ (.bool true)) b x true toks := h1.mono (fun k hk => .inl hk) (since_lt h.lt hk1.size);have HX1 := hZ hx1;cases hin : x.isIn with
 | false =>
  have ht : x.ended = (x, [], 0, 0) := by unfold Lx.ended; rw [hin]; rfl
  rw [ht];rw [hin] at c4;clear h h1 ht hk1 hx1 hraw hin hgn hgr hgp hgs;go_enter func78, ntmps78;go_wp2_with fail;go_ret;exact ⟨HK1.out, fun _ => ⟨rfl, by rw [List.append_nil]; exact HX1.out⟩, fun e => absurd rfl e⟩
 | true =>
  obtain ⟨hF1, hlt1, rawV, chV, saysV, tokV, hb1, hw1, hs1⟩ := h1;obtain ⟨d0, d1, d2, d3, d4, d5, d6, d7, d8, d9, da, db, dc, dd, df⟩ := cells14 hb1;rw [hin] at c4 d4;have HE := hZ (numEnds_any x.number hgn);cases he : numEnds x.number with
  | false =>
   have ht : x.ended = (x, [], 95, x.place) := by unfold Lx.ended; rw [hin, he]; rfl
   rw [ht];rw [he] at HE;have HD := hZ (hx1.dead.err_set (spotV 95 x.place));clear h ht hk1 hx1 hraw hin hgn hgr hgp hgs hb1 hw1 hs1 hF1 hlt1 he;go_enter func78, ntmps78;go_wp2_with fail;refine (HE.out _).mono ?_;rintro e w1 ⟨rfl, rfl⟩;go_wp2_with fail;go_ret;refine ⟨HK1.out.setCell (p := ⟨b, 1, none⟩) (.inl HF.out) _, fun e => absurd e (show ¬ (95 : Nat) = 0 by decide), fun _ => ⟨rfl, x.place, x.start, ?_⟩⟩;rw [List.append_nil];exact HD.out.mono (fun k hk => hk.mono_r (by simp [World.setCell])) (fun k hk => HD.out.2.1 k (hk.mono_r (by simp [World.setCell])))
  | true =>
   have hst := hraw he hin;have hr := hs1.raw (.inr hst);have hrl : x.raw.length ≤ 1073741824 := Nat.le_trans (hgr hst) (Nat.le_trans hgp (by decide));rw [he] at HE;cases hbt : bitsOf x.raw with
   | none =>
    have ht : x.ended = (x, [], 41, x.start) := by unfold Lx.ended; rw [hin, he]; simp [Lx.finish, hbt]
    rw [ht];have hfn := finish_none _ b _ _ _ _ _ _ _ _ _ _ _ _ _ rawV x.raw hb1 hr.1 hrl hbt
    have HFN := hZ (hfn.mono (R' := fun e w' => e = .returned (.bool false) ∧ w'.cell? ⟨b, 5, none⟩ = some (.int .i64 x.start) ∧ (∃ u, w'.cell? ⟨b, 1, none⟩ = some u) ∧ (∀ o, w'.frozen? ⟨b, o, none⟩ = false) ∧ Keeps F w w' ∧ LexDead (Since F w w') w' b x.place x.start .nilIface toks) fun e w' ⟨he, hbl⟩ => by
     have hd := hx1.dead.apart (G := fun _ => False) (Keeps.of_below _ hbl) (fun _ _ => id);have hb2 := keep hb1 hbl;obtain ⟨e0, e1, e2, e3, e4, e5, e6, e7, e8, e9, ea, eb, ec, ed, ef⟩ := cells14 hb2;have hkk : Keeps F w w' := hk1.same (Keeps.of_below F hbl);exact ⟨he, e5, ⟨_, e1⟩, ef, hkk, hd.mono (fun k hk => hk.mono_r hbl.size) (since_lt h.lt hkk.size)⟩)
    clear h ht hk1 hx1 hraw hin hgn hgr hgp hgs hb1 hw1 hs1 hF1 hlt1 he hst hr hrl hbt hfn;go_enter func78, ntmps78;go_wp2_with fail;refine (HE.out _).mono ?_;rintro e w1 ⟨rfl, rfl⟩;go_wp2_with fail;refine (HFN.out).mono ?_;rintro e w2 ⟨rfl, e5, ⟨u, e1⟩, ef, hk2, hd2⟩;have HK2 := hZ hk2;have HD2 := hZ (hd2.err_set (spotV 41 x.start));clear hk2 hd2 c0 c1 c2 c4 c5 cf d0 d1 d2 d3 d4 d5 d6 d7 d8 d9 da db dc dd df;go_wp2_with fail;go_ret;refine ⟨HK2.out.setCell (p := ⟨b, 1, none⟩) (.inl HF.out) _, fun e => absurd e (show ¬ (41 : Nat) = 0 by decide), fun _ => ⟨rfl, x.place, x.start, ?_⟩⟩;rw [List.append_nil];exact HD2.out.mono (fun k hk => hk.mono_r (by simp [World.setCell])) (fun k hk => HD2.out.2.1 k (hk.mono_r (by simp [World.setCell])))
   | some bits =>
    have ht : x.ended = (x.told, [.num x.start (x.place - x.start) bits], 0, 0) := by unfold Lx.ended; rw [hin, he]; simp [Lx.finish, hbt]
    rw [ht];have hfs := finish_some _ b x.place x.start _ _ _ _ _ _ _ _ _ _ rawV tokV x.raw (toks.map tokEnc) bits hb1 hr.1 hrl hbt hw1.1 htl2 hgs (Nat.le_trans hgp (by decide))
    have HFS := hZ (hfs.mono (R' := fun e w' => e = .returned (.bool true) ∧ Keeps F w w' ∧ LexAt (Since F w w') w' b x.told true (toks ++ [.num x.start (x.place - x.start) bits]) ∧ (w'.cell? ⟨b, 1, none⟩ = some .nilIface)) fun e w' ht => by
     obtain ⟨he, g, off, cap, hb2, hwin, hg2, hk2⟩ := ht;have hkf : Keeps F (w.setCell ⟨b, 2, none⟩ (.bool true)) w' := hk2.mono fun k hk => hk.elim (fun e => e ▸ hF1) (fun e => hw1.2 k e)
     have hkk : Keeps F w w' := hk1.same hkf
     have hl : LexAt (Since F w w') w' b x.told true (toks ++ [.num x.start (x.place - x.start) bits]) := by
      refine ⟨.inl hF1, since_lt h.lt hkk.size, _, _, _, _, hb2, ⟨by rw [List.map_append, List.map_cons, List.map_nil]; simpa using hwin, ?_⟩, ⟨fun hs => ?_, fun hs => ?_⟩⟩
      ·intro k hk3;cases hk3;exact hg2.elim (fun e => .inl (hw1.2 _ e)) (fun hle => .inr ⟨by simpa [World.setCell] using hle, hwin.lt rfl⟩)
      ·simp [Lx.told] at hs
      ·simp [Lx.told, isText] at hs
     exact ⟨he, hkk, hl, (hl.cells).2.1⟩)
    clear h ht hk1 hx1 hraw hin hgn hgr hgp hgs hb1 hw1 hs1 hF1 hlt1 he hst hr hrl hbt hfs;go_enter func78, ntmps78;go_wp2_with fail;refine (HE.out _).mono ?_;rintro e w1 ⟨rfl, rfl⟩;go_wp2_with fail;refine (HFS.out).mono ?_;rintro e w2 ⟨rfl, hk2, hl2, e1⟩;have HK2 := hZ hk2;have HL2 := hZ hl2;clear hk2 hl2 c0 c1 c2 c4 c5 cf d0 d1 d2 d3 d4 d5 d6 d7 d8 d9 da db dc dd df;go_wp2_with fail;go_ret;exact ⟨HK2.out, fun _ => ⟨rfl, HL2.out⟩, fun e => absurd rfl e⟩
theorem text_at {F : Nat → Prop} {w w' : World} {b : Nat} {x y : Lx} {toks : List Tok} {rawV chV saysV tokV : Value} {c : Array Value} (hF : F b) (hlt : ∀ k, F k → k < w.heap.size) (hb : w.heap[b]? = some (.cells c 228 (0, 0))) (hw : WinIn F 232 id w tokV (toks.map tokEnc)) (hs : StAt F w x rawV chV saysV) (hx : isText x.st = true)
 (hsay : y.says = x.says) (hheld : y.held = x.held) (hst : isText y.st = true) (hk : Keeps (fun k => k = b) w w') {rawV' : Value}
 (hb' : w'.heap[b]? = some (.cells #[.int .i64 y.place, .nilIface, .bool false, .func (.func (stepNo y.st)) #[] #[], .bool y.isIn, .int .i64 y.start, rawV', .int .i64 y.number, chV, saysV, .int .i64 y.digits, .int .i32 y.code, .int .i32 y.high, tokV] 228 (0, 0))) :
 Keeps F w w' ∧ LexAt (Since F w w') w' b y false toks := by
 obtain ⟨hsw, f, fp, rfl, hfe, hFf, hfp⟩ := hs.text hx;have hfb : f ≠ b := feeds_ne hfe hb (by decide);have hk2 : Keeps F w w' := hk.mono (fun k e => e ▸ hF);refine ⟨hk2, .inl hF, since_lt hlt hk.size, rawV', _, saysV, tokV, hb', hw.keeps (G := fun k => k = b) hk (fun k e hk => hw.1.ne hb (by decide) (e.trans (congrArg some hk))), ⟨fun h => ?_, fun _ => ⟨?_, f, fp, rfl, ?_, .inl hFf, ?_⟩⟩⟩
 ·rcases h with h | h <;> (rw [h] at hst; cases hst)
 ·rw [hsay]; exact hsw.keeps (G := fun k => k = b) hk (fun k e hk => hsw.1.ne hb (by decide) (e.trans (congrArg some hk)))
 ·rw [hheld]; exact hfe.keeps hk hfb
 ·rw [hsay]; exact hfp
theorem says_at {F : Nat → Prop} {w w' : World} {b : Nat} {x y : Lx} {toks : List Tok} {rawV chV saysV tokV : Value} {c0 : Array Value} (hF : F b) (hlt : ∀ k, F k → k < w.heap.size) (hb : w.heap[b]? = some (.cells c0 228 (0, 0))) (hw : WinIn F 232 id w tokV (toks.map tokEnc)) (hs : StAt F w x rawV chV saysV) (hx : isText x.st = true)
 (hsay : x.says.length ≤ y.says.length) (hheld : y.held = x.held) (hst : isText y.st = true) {c : Value → Array Value} {e : Ending} {rawV' : Value}
 (hc : ∀ u, c u = #[.int .i64 y.place, .nilIface, .bool false, .func (.func (stepNo y.st)) #[] #[], .bool y.isIn, .int .i64 y.start, rawV', .int .i64 y.number, chV, u, .int .i64 y.digits, .int .i32 y.code, .int .i32 y.high, tokV])
 (h : SaysRet w b saysV y.says c e w') : e = .returned (.int .i64 0) ∧ Keeps F w w' ∧ LexAt (Since F w w') w' b y false toks := by
 obtain ⟨hsw, f, fp, rfl, hfe, hFf, hfp⟩ := hs.text hx;have hfb : f ≠ b := feeds_ne hfe hb (by decide);obtain ⟨he, g, off, cap, hb2, hwin, hg, hk⟩ := h
 have hk2 : Keeps F w w' := hk.mono (fun k e => by
  rcases e with rfl | e
  ·exact hF
  ·exact hsw.2 k e)
 refine ⟨he, hk2, .inl hF, since_lt hlt hk.size, rawV', _, _, tokV, by rw [hb2, hc], ⟨hw.1.keeps hk ?_, fun k hk3 => .inl (hw.2 k hk3)⟩, ⟨fun h => ?_, fun _ => ⟨⟨hwin, ?_⟩, f, fp, rfl, ?_, .inl hFf, ?_⟩⟩⟩
 ·intro k hk3 hk4;rcases hk4 with rfl | hk4
  ·exact hw.1.ne hb (by decide) hk3
  ·exact win_win hsw.1 hw.1 (by decide) hk4 hk3
 ·rcases h with h | h <;> (rw [h] at hst; cases hst)
 ·intro k hk3;cases hk3;exact hg.elim (fun e => .inl (hsw.2 _ e)) (fun hle => .inr ⟨hle, hwin.lt rfl⟩)
 ·rw [hheld];refine hfe.keeps hk ?_;rintro (e | e)
  ·exact hfb e
  ·exact feeds_win hfe hsw.1 (by decide) e
 ·omega
theorem step_dead {F : Nat → Prop} {w : World} {b : Nat} {x : Lx} {toks : List Tok} (h : LexAt F w b x false toks) : LexDead (Since F w w) w b x.place x.start .nilIface (toks ++ []) := by
 rw [List.append_nil];exact h.dead.mono (fun k hk => .inl hk) (since_lt h.lt (Nat.le_refl _))
theorem step_slash (F : Nat → Prop) (w : World) (b : Nat) (x : Lx) (toks : List Tok) (c : UInt8) (h : LexAt F w b x false toks) (hst : x.st = .slash) :
 Calls prog 223 #[.pointer (some ⟨b, 0, none⟩), .int .u8 ((c.toNat : Nat) : Int)] w fun e w' => StepPost F w b x.place toks (slashStep x c) e w' := by
 have h0 := h;obtain ⟨hF, hlt, rawV, chV, saysV, tokV, hb, hw, hs⟩ := h;refine (slash_any w b _ _ _ _ _ _ _ _ _ _ _ _ _ _ c hb).mono ?_;rintro e w' ⟨h1, h2⟩;unfold slashStep
 by_cases hc : c = 92
 ·rw [if_pos hc];obtain ⟨he, hb', hk⟩ := h1 hc;obtain ⟨hk2, hl⟩ := text_at (y := { x with st := .letterU }) hF hlt hb hw hs (by rw [hst]; rfl) rfl rfl rfl hk hb';exact .good he hk2 (by rw [List.append_nil]; exact hl)
 ·rw [if_neg hc];obtain ⟨rfl, rfl⟩ := h2 hc;exact .bad (by decide) rfl (Keeps.refl _ _) (step_dead h0)
theorem step_letterU (F : Nat → Prop) (w : World) (b : Nat) (x : Lx) (toks : List Tok) (c : UInt8) (h : LexAt F w b x false toks) (hst : x.st = .letterU) :
 Calls prog 241 #[.pointer (some ⟨b, 0, none⟩), .int .u8 ((c.toNat : Nat) : Int)] w fun e w' => StepPost F w b x.place toks (letterUStep x c) e w' := by
 have h0 := h;obtain ⟨hF, hlt, rawV, chV, saysV, tokV, hb, hw, hs⟩ := h;refine (letterU_any w b _ _ _ _ _ _ _ _ _ _ _ _ _ _ c hb).mono ?_;rintro e w' ⟨h1, h2⟩;unfold letterUStep
 by_cases hc : c = 117
 ·rw [if_pos hc];obtain ⟨he, hb', hk⟩ := h1 hc;obtain ⟨hk2, hl⟩ := text_at (y := { x with digits := 0, code := 0, st := .digit }) hF hlt hb hw hs (by rw [hst]; rfl) rfl rfl rfl hk hb';exact .good he hk2 (by rw [List.append_nil]; exact hl)
 ·rw [if_neg hc];obtain ⟨rfl, rfl⟩ := h2 hc;exact .bad (by decide) rfl (Keeps.refl _ _) (step_dead h0)
theorem step_escape (F : Nat → Prop) (w : World) (b : Nat) (x : Lx) (toks : List Tok) (c : UInt8) (h : LexAt F w b x false toks) (hst : x.st = .escape) (hsay : x.says.length ≤ 1073741824) :
 Calls prog 168 #[.pointer (some ⟨b, 0, none⟩), .int .u8 ((c.toNat : Nat) : Int)] w fun e w' => StepPost F w b x.place toks (escapeStep x c) e w' := by
 have h0 := h;obtain ⟨hF, hlt, rawV, chV, saysV, tokV, hb, hw, hs⟩ := h;have hsw := (hs.text (by rw [hst]; rfl)).1;unfold escapeStep
 by_cases hc : c = 117
 ·rw [if_pos hc];subst hc;refine (escape_u w b _ _ _ _ _ _ _ _ _ _ _ _ _ _ hb).mono ?_;rintro e w' ⟨he, hb', hk⟩;obtain ⟨hk2, hl⟩ := text_at (y := { x with digits := 0, code := 0, st := .digit }) hF hlt hb hw hs (by rw [hst]; rfl) rfl rfl rfl hk hb';exact .good he hk2 (by rw [List.append_nil]; exact hl)
 ·rw [if_neg hc];cases hsd : saidOf c with
  | none =>
   refine (escape_bad w b c hc hsd).mono ?_;rintro e w' ⟨rfl, rfl⟩;exact .bad (by decide) rfl (Keeps.refl _ _) (step_dead h0)
  | some d =>
   refine (escape_said w b _ _ _ _ _ _ _ _ _ _ _ _ _ saysV c d x.says hb hc hsd hsw.1 hsay).mono fun e w' ht => ?_
   obtain ⟨he, hk, hl⟩ := says_at (y := { x with says := x.says ++ [d], st := .within }) hF hlt hb hw hs (by rw [hst]; rfl) (by simp) rfl rfl (fun u => rfl) ht;exact .good he hk (by rw [List.append_nil]; exact hl)
theorem word_at {F : Nat → Prop} {w w' : World} {b : Nat} {tokV rawV t : Value} {toks : List Tok} {tok : Tok} {e : Ending} {y : Lx} {chV saysV : Value} (hF : F b) (hlt : ∀ k, F k → k < w.heap.size) (hw : WinIn F 232 id w tokV (toks.map tokEnc)) (hr : ∀ k, rawV.ownBlock = some k → F k) (ht : t = tokEnc tok) (hst : y.st = .outside) {c : Value → Value → Array Value}
 (hc : ∀ r u, c r u = #[.int .i64 y.place, .nilIface, .bool false, .func (.func 104) #[] #[], .bool y.isIn, .int .i64 y.start, r, .int .i64 y.number, chV, saysV, .int .i64 y.digits, .int .i32 y.code, .int .i32 y.high, u])
 (h : WordRet w b rawV tokV (toks.map tokEnc) t c e w') : e = .returned (.int .i64 0) ∧ Keeps F w w' ∧ LexAt (Since F w w') w' b y false (toks ++ [tok]) := by
 obtain ⟨he, rawV', g, off, cap, hb, hwin, hg, hk⟩ := h
 have hk2 : Keeps F w w' := hk.mono fun k hk => by
  rcases hk with rfl | e | e
  ·exact hF
  ·exact hr k e
  ·exact hw.2 k e
 refine ⟨he, hk2, .inl hF, since_lt hlt hk2.size, rawV', chV, saysV, _, by rw [hb, hc, hst]; rfl, ⟨?_, ?_⟩, ⟨fun hs => ?_, fun hs => ?_⟩⟩
 ·rw [List.map_append, List.map_cons, List.map_nil, ← ht]; exact hwin
 ·intro k hk3;cases hk3;exact hg.elim (fun e => .inl (hw.2 _ e)) (fun hle => .inr ⟨hle, hwin.lt rfl⟩)
 ·rw [hst] at hs; exact absurd hs (by decide)
 ·rw [hst] at hs; exact absurd hs (by decide)
theorem step_letter (F : Nat → Prop) (w : World) (b : Nat) (x : Lx) (toks : List Tok) (c : UInt8) (h : LexAt F w b x false toks) (hst : x.st = .letter) (hst2 : x.start ≤ x.place) (hle : x.raw ≠ [] ∧ x.raw.length < (wordOf (x.raw.headD 0)).length) (hpl : x.place ≤ 16777216) (htl : toks.length ≤ 999) :
 Calls prog 141 #[.pointer (some ⟨b, 0, none⟩), .int .u8 ((c.toNat : Nat) : Int)] w fun e w' => StepPost F w b x.place toks (letterStep x c) e w' := by
 have h0 := h;obtain ⟨hF, hlt, rawV, chV, saysV, tokV, hb, hw, hs⟩ := h;have hr := hs.raw (.inl hst);have htl2 : (toks.map tokEnc).length ≤ 1000 := by simp; omega
 obtain ⟨hne, hlen⟩ := hle;obtain ⟨a, tl, hraw⟩ := List.exists_cons_of_ne_nil hne;have hro := hr.2;have hrw := hr.1;rw [hraw] at hrw hlen;simp only [List.headD_cons, List.length_cons] at hlen;have hwa : wordOf a ≠ [] := by intro e; rw [e] at hlen; simp at hlen
 rcases hrw with ⟨_, hn⟩ | ⟨g, off, cap, cur, rfl, hg, hcp, ho, hm, hi⟩
 ·cases hn
 have hcell : w.cell? ⟨g, off, none⟩ = some (encB a) := by rw [cell_at hg]; exact hi 0 a rfl
 have hwin : Win 5 encB w (.slice (some ⟨g, off, none⟩) (a :: tl).length cap) (a :: tl) := .inr ⟨g, off, cap, cur, rfl, hg, hcp, ho, hm, hi⟩
 have hdead : ∀ e w', e = .returned (.int .i64 94) ∧ w' = w → StepPost F w b x.place toks ⟨x, [], 94⟩ e w' := by
  rintro e w' ⟨rfl, rfl⟩;exact .bad (by decide) rfl (Keeps.refl _ _) (step_dead h0)
 clear hg hcp ho hm hi
 have hst' : ∀ k : Nat, letterStep x c = (if (wordOf a)[(a :: tl).length]? = some c then (if (a :: tl).length + 1 = (wordOf a).length then ⟨Lx.told { x with raw := a :: tl ++ [c] }, [.term x.start (x.place + 1 - x.start) (wordOf a)], 0⟩ else ⟨{ x with raw := a :: tl ++ [c] }, [], 0⟩) else ⟨x, [], 94⟩) := fun _ => by
  unfold letterStep;rw [hraw];rfl
 rw [hst' 0];clear hst';have hK : 0 < (a :: tl).length := Nat.succ_pos _
 by_cases hc : (wordOf a)[(a :: tl).length]? = some c
 ·rw [if_pos hc]
  by_cases he : (a :: tl).length + 1 = (wordOf a).length
  ·rw [if_pos he];refine (letter_end w b g off cap x.place x.start _ _ _ _ _ _ _ _ _ _ tokV a c _ _ hb hcell hwin hK hc he hw.1 htl2 (by omega) (by omega)).mono fun e w' ht => ?_
   obtain ⟨he, hk, hl⟩ := word_at (y := Lx.told { x with raw := a :: tl ++ [c] }) (tok := .term x.start (x.place + 1 - x.start) (wordOf a)) hF hlt hw hro rfl rfl (fun r u => rfl) ht;exact .good he hk hl
  ·rw [if_neg he];refine (letter_on w b g off cap _ _ _ _ _ _ _ _ _ _ _ _ _ a c _ hb hcell hwin hK hc he).mono fun e w' ht => ?_
   obtain ⟨he, hk, hl⟩ := raw_at (y := { x with raw := a :: tl ++ [c] }) hF hlt hw hro (.inl hst) rfl ⟨_, hb⟩ (fun k e => win_win hwin hw.1 (by decide) e) (fun u => by rw [hst]) ht;exact .good he hk (by rw [List.append_nil]; exact hl)
 ·rw [if_neg hc];exact (letter_bad w b g off cap _ _ _ _ _ _ _ _ _ _ _ _ _ _ a _ c hb hcell hK (List.getElem?_eq_getElem hlen) (fun e => hc (by rw [e]; exact List.getElem?_eq_getElem hlen))).mono hdead
theorem pow_lt_of {c n : Nat} (h : c < 16 ^ n) (hn : n ≤ 3) : c < 4096 := by
 match n, hn, h with
 | 0, _, h => simp at h; omega
 | 1, _, h => omega
 | 2, _, h => omega
 | 3, _, h => omega
theorem step_digit (F : Nat → Prop) (w : World) (b : Nat) (x : Lx) (toks : List Tok) (c : UInt8) (h : LexAt F w b x false toks) (hst : x.st = .digit) (hsay : x.says.length ≤ 1073741824) (hd : DigOk x.high x.digits x.code) (hhi : x.high = 0 ∨ (55296 ≤ x.high ∧ x.high ≤ 56319)) :
 Calls prog 188 #[.pointer (some ⟨b, 0, none⟩), .int .u8 ((c.toNat : Nat) : Int)] w fun e w' => StepPost F w b x.place toks (digitStep x c) e w' := by
 have h0 := h;obtain ⟨hF, hlt, rawV, chV, saysV, tokV, hb, hw, hs⟩ := h;obtain ⟨hsw, f, fp, hcv, hfe, hFf, hfp⟩ := hs.text (by rw [hst]; rfl);have hcode := pow_lt_of hd.1 hd.2.1;unfold digitStep;cases hv : hexOf c with
 | none =>
  refine (digit_bad w b x.high _ _ _ _ _ _ _ _ _ _ _ _ _ c hb hv).mono ?_;rintro e w' ⟨rfl, rfl⟩
  by_cases hz : x.high = 0
  ·rw [if_pos hz];simp only [hz, if_true];exact .bad (by decide) rfl (Keeps.refl _ _) (step_dead h0)
  ·rw [if_neg hz];simp only [hz, if_false];exact .bad (by decide) rfl (Keeps.refl _ _) (step_dead h0)
 | some v =>
  have hv16 := hexOf_lt hv;simp only []
  by_cases hlo : x.lone v = true
  ·rw [if_pos hlo];refine (digit_lone w b x.digits x.code x.high v _ _ _ _ _ _ _ _ _ _ _ c hb hv hlo).mono ?_;rintro e w' ⟨rfl, rfl⟩;exact .bad (by decide) rfl (Keeps.refl _ _) (step_dead h0)
  rw [if_neg hlo]
  have hlo' : loneOf x.high x.digits x.code v = false := by
   have : x.lone v = false := by simpa using hlo
   exact this
  by_cases h4 : x.digits + 1 = 4
  ·rw [if_pos h4];have hd3 : x.digits = 3 := by omega
   have hb3 := hb;rw [hd3] at hb3 hlo';have hb4 := fourW_at (x.code * 16 + v) hb3;have hk4 := fourW_keeps w b (x.code * 16 + v);have hk4F : Keeps F w (fourW w b (x.code * 16 + v)) := hk4.mono (fun k e => e ▸ hF);have hsz4 : (fourW w b (x.code * 16 + v)).heap.size = w.heap.size := by simp [fourW, World.setCell]
   have hsw4 := hsw.1.keeps hk4 (fun k e hk => hsw.1.ne hb (by decide) (e.trans (congrArg some hk)));have hx1 : ∀ k, rawV = k → rawV = k := fun _ h => h
   refine digit_four w b x.code x.high v _ _ _ _ _ _ _ _ _ _ _ c _ hb3 hv hlo' hcode ?_;obtain ⟨_, _, hz, hnz⟩ := hd
   have l1 : x.high ≠ 0 → 56320 ≤ x.code * 16 + v ∧ x.code * 16 + v ≤ 57343 := fun h => by
    have := (hnz h).2.2 (by omega); omega
   have l2 : x.high = 0 → ¬ (56320 ≤ x.code * 16 + v ∧ x.code * 16 + v ≤ 57343) := fun h => by
    have := (hz h).2 (by omega); omega
   unfold Lx.whole;simp only []
   by_cases hh : x.high ≠ 0
   ·rw [if_pos hh];have hb1 := l1 hh;refine (whole_pair _ b 4 (x.code * 16 + v) x.high _ _ _ _ _ _ _ _ _ saysV _ x.says hb4 (by omega) (by omega) hb1.1 hb1.2 hsw4 hsay).mono ?_;rintro e w' ⟨rfl, g, off, cap, hb', hwin, hg, hk⟩;refine ⟨rfl, ?_⟩
    have hS : SaysRet w b saysV (x.says ++ runeBytes (65536 + (x.high - 55296) * 1024 + (x.code * 16 + v) - 56320)) (fun u => #[.int .i64 x.place, .nilIface, .bool false, .func (.func 138) #[] #[], .bool x.isIn, .int .i64 x.start, rawV, .int .i64 x.number, chV, u, .int .i64 (4 : Nat), .int .i32 (x.code * 16 + v : Nat), .int .i32 (0 : Nat), tokV]) (.returned (.int .i64 0)) w' :=
     ⟨rfl, g, off, cap, hb', hwin, by rw [hsz4] at hg; exact hg, (hk4.mono (fun k e => .inl e)).same hk⟩
    obtain ⟨he, hk2, hl⟩ := says_at (y := { x with code := x.code * 16 + v, digits := x.digits + 1, high := 0, says := x.says ++ runeBytes (65536 + (x.high - 55296) * 1024 + (x.code * 16 + v) - 56320), st := .within }) hF hlt hb hw hs (by rw [hst]; rfl) (by simp) rfl rfl (fun u => by rw [h4]; rfl) hS;exact .good he hk2 (by rw [List.append_nil]; exact hl)
   ·rw [if_neg hh];have hh0 : x.high = 0 := by omega
    have hb1 := l2 hh0;rw [hh0] at hb4
    by_cases hsur : 55296 ≤ x.code * 16 + v ∧ x.code * 16 + v ≤ 56319
    ·rw [if_pos hsur];refine (whole_high _ b 4 (x.code * 16 + v) _ _ _ _ _ _ _ _ _ _ _ hb4 hsur.1 hsur.2).mono ?_;rintro e w' ⟨rfl, hb', hk⟩;refine ⟨rfl, ?_⟩;obtain ⟨hk2, hl⟩ := text_at (y := { x with code := x.code * 16 + v, digits := x.digits + 1, high := x.code * 16 + v, st := .slash }) (rawV' := rawV) hF hlt hb hw hs (by rw [hst]; rfl) rfl rfl rfl (hk4.same hk) (by rw [hb', h4]; rfl);exact .good rfl hk2 (by rw [List.append_nil]; exact hl)
    ·rw [if_neg hsur];refine (whole_one _ b 4 (x.code * 16 + v) _ _ _ _ _ _ _ _ _ saysV _ x.says hb4 hsur (by unfold IsRune; omega) hsw4 hsay).mono ?_;rintro e w' ⟨rfl, g, off, cap, hb', hwin, hg, hk⟩;refine ⟨rfl, ?_⟩
     have hS : SaysRet w b saysV (x.says ++ runeBytes (x.code * 16 + v)) (fun u => #[.int .i64 x.place, .nilIface, .bool false, .func (.func 138) #[] #[], .bool x.isIn, .int .i64 x.start, rawV, .int .i64 x.number, chV, u, .int .i64 (4 : Nat), .int .i32 (x.code * 16 + v : Nat), .int .i32 (0 : Nat), tokV]) (.returned (.int .i64 0)) w' :=
      ⟨rfl, g, off, cap, hb', hwin, by rw [hsz4] at hg; exact hg, (hk4.mono (fun k e => .inl e)).same hk⟩
     obtain ⟨he, hk2, hl⟩ := says_at (y := { x with code := x.code * 16 + v, digits := x.digits + 1, says := x.says ++ runeBytes (x.code * 16 + v), st := .within }) hF hlt hb hw hs (by rw [hst]; rfl) (by simp) rfl rfl (fun u => by rw [h4, hh0]; rfl) hS;exact .good he hk2 (by rw [List.append_nil]; exact hl)
  ·rw [if_neg h4];have hd2 := hd.2.1;refine (digit_more w b x.digits x.code x.high v _ _ _ _ _ _ _ _ _ _ _ c hb hv hlo' hcode (by omega)).mono ?_;rintro e w' ⟨he, hb', hk⟩;obtain ⟨hk2, hl⟩ := text_at (y := { x with code := x.code * 16 + v, digits := x.digits + 1 }) (rawV' := rawV) hF hlt hb hw hs (by rw [hst]; rfl) rfl rfl (by show isText x.st = true; rw [hst]; rfl) hk (by rw [hb', hst]);exact .good he hk2 (by rw [List.append_nil]; exact hl)
theorem lexFeed_fine (F : Nat → Prop) (w : World) (b g off : Nat) (x : Lx) (toks : List Tok) (c : UInt8) (h : LexAt F w b x false toks) (hc : w.cell? ⟨g, off, none⟩ = some (.int .u8 ((c.toNat : Nat) : Int))) (hg : x.Fine) (htl : toks.length ≤ 999) :
 Calls prog 82 #[.pointer (some ⟨b, 0, none⟩), .slice (some ⟨g, off, none⟩) 1 1] w fun e w' => TakePost F w b toks (x.take c) spotV e w' := by
 refine lexFeed_any F w b g off x toks c h hc ?_;refine take_of (stepNo x.st) (by cases x.st <;> simp [stepNo]) F w b x toks c rfl h hg.place fun hp => ?_
 have hsay : isText x.st = true → x.says.length ≤ 1073741824 := fun ht => Nat.le_trans (hg.text ht).2.1 (Nat.le_trans hg.place (by decide))
 cases hst : x.st with
 | outside =>
  have he : x.step c = outsideStep x c := by unfold Lx.step; rw [hst]
  rw [he];exact step_outside F w b x toks c h hst hg.place (by omega)
 | numeral =>
  have he : x.step c = numeralStep x c := by unfold Lx.step; rw [hst]
  rw [he];exact step_numeral F w b x toks c h hst hg.start hg.number (Nat.le_trans (hg.numeral hst) (Nat.le_trans hg.place (by decide))) hg.place (by omega)
 | within =>
  have he : x.step c = withinStep x c := by unfold Lx.step; rw [hst]
  rw [he];exact step_within F w b x toks c h hst hg.start (hsay (by rw [hst]; rfl)) hg.place (by omega)
 | letter =>
  have he : x.step c = letterStep x c := by unfold Lx.step; rw [hst]
  rw [he];exact step_letter F w b x toks c h hst hg.start (hg.letter hst).2 hg.place htl
 | escape =>
  have he : x.step c = escapeStep x c := by unfold Lx.step; rw [hst]
  rw [he];exact step_escape F w b x toks c h hst (hsay (by rw [hst]; rfl))
 | digit =>
  have he : x.step c = digitStep x c := by unfold Lx.step; rw [hst]
  rw [he];exact step_digit F w b x toks c h hst (hsay (by rw [hst]; rfl)) (hg.dig hst).2.1 (hg.dig hst).2.2
 | slash =>
  have he : x.step c = slashStep x c := by unfold Lx.step; rw [hst]
  rw [he];exact step_slash F w b x toks c h hst
 | letterU =>
  have he : x.step c = letterUStep x c := by unfold Lx.step; rw [hst]
  rw [he];exact step_letterU F w b x toks c h hst
theorem outsideStep_toks (x : Lx) (c : UInt8) : (outsideStep x c).toks.length ≤ 1 := by
 unfold outsideStep;split
 ·exact Nat.zero_le _
 ·simp only [];split
  ·exact Nat.le_refl _
  ·split
   ·exact Nat.zero_le _
   ·split
    ·unfold numFirst; split <;> exact Nat.zero_le _
    ·split <;> exact Nat.zero_le _
theorem step_toks (x : Lx) (c : UInt8) : (x.step c).toks.length ≤ 2 := by
 unfold Lx.step;split
 ·exact Nat.le_trans (outsideStep_toks x c) (by decide)
 ·unfold letterStep;simp only [];split
  ·split <;> simp
  ·simp
 ·unfold numeralStep;split
  ·simp
  ·split
   ·cases x.finish with
    | none => simp
    | some p => simp only [List.length_cons]; have := outsideStep_toks p.1 c; omega
   ·simp
 ·unfold withinStep;split
  ·simp
  ·split
   ·simp
   ·split
    ·simp
    ·split <;> simp
 ·unfold escapeStep;split
  ·simp
  ·split <;> simp
 ·unfold digitStep;split
  ·simp
  ·split <;> simp
 ·unfold slashStep; split <;> simp
 ·unfold letterUStep; split <;> simp
theorem take_toks (x : Lx) (c : UInt8) : (x.take c).2.1.length ≤ 2 := by
 unfold Lx.take;split
 ·simp
 ·simp only [];split <;> exact step_toks x c
end Go.Proofs.YtakkmiomhackiaaGreatDoor
