/-
  The program, one part of its walk: Pm3, Pa7, Pa8. Conditions: none.
-/
import Derived.Test.YtakkmiomhackiaaGreatDoorPa29
import Derived.Test.YtakkmiomhackiaaGreatDoorPa26
import Derived.Test.YtakkmiomhackiaaGreatDoorPa00
set_option linter.all false
set_option maxRecDepth 100000
set_option maxHeartbeats 16000000
open Go.Proofs.Tryz
namespace Go.Proofs.YtakkmiomhackiaaGreatDoor
open Go.RowKit
theorem Stand.last {D want : Nat} {pile : List Fr} {items : List Tr} (h : Stand D want pile items) (hw : want = 5 ∨ want = 1 ∨ want = 2) : ∃ ini fr, pile = ini ++ [fr] := by
 cases h with
 | new => omega
 | done t hd => omega
 | list s _ h hd hw => exact ⟨_, _, rfl⟩
 | object k s _ h hd hk => exact ⟨_, _, rfl⟩
theorem PsOk.pileOk0 {x : Ps} {q : Nat} (h : PsOk x q) : PileOk x 1073741824 := ⟨fun m hm => Nat.le_trans (h.many m hm) (by decide), by have := h.room; have := h.depth; omega⟩
theorem ends_other (y : Ps) (k : UInt8) (h1 : (93 : UInt8) ≠ k) (h2 : (125 : UInt8) ≠ k) : y.ends k = false := by
 unfold Ps.ends;cases hg : y.pile.getLast? with
 | none => rfl
 | some f =>
  cases f with
  | list n => simp [signOf, h1]
  | object ks => simp [signOf, h2]
theorem text_par (F : Nat → Prop) (w : World) (p : Nat) (y : Ps) (s : LS) (rest : List Tok) (a sz : Nat) (l : List UInt8) {q : Nat} (hr : rightOf l = true) (hl : l.length ≤ 16777216) (h : ParAt F w p y s rest) (hy : PsOk y q) :
 Calls prog 113 #[.pointer (some ⟨p, 0, none⟩), .agg #[.int .i64 a, .int .i64 sz, .string ⟨l.toArray⟩]] w fun e w' => Plainly e ∧ ParPost F w p s rest (y.text a l) e w' := by
 have hb := hy.bytes;have hi := hy.items;have hd := hy.depth;have hrm := hy.room
 by_cases hw : y.want = 2 ∨ y.want = 3
 ·obtain ⟨ini, k, hp, _⟩ := hy.stand.key hw l;have hk := hy.right (k := k) (by rw [hp]; simp);have hn := nodup_len hk.2.1;have hil : ini.length ≤ 1048576 := by rw [hp] at hrm; simp at hrm; omega
  exact text_key F w p y s rest a sz l ini k hl h hp hil (by omega) (by omega) hw
 ·exact text_value F w p y s rest a sz l hr (by omega) h hy.pileOk0 (by omega) (by omega) (by omega)
theorem mark_end93 (F : Nat → Prop) (w : World) (p : Nat) (x y : Ps) (s : LS) (toks : List Tok) (at_ : Nat) (h : ParAt F w p x s toks) (he : x.ends 93 = true) (hl : x.pile.length ≤ 1048576) (hend : ∀ w1, ParAt F w1 p x s toks → Calls prog 148 #[.pointer (some ⟨p, 0, none⟩)] w1 fun e w2 => e = .returned (.tuple #[]) ∧ Keeps F w1 w2 ∧ ParAt (Since F w1 w2) w2 p y s toks) :
 Calls prog 112 #[.pointer (some ⟨p, 0, none⟩), .agg #[.int .i64 at_, .int .i64 1, .int .u8 93]] w fun e w' => Plainly e ∧ ParPost F w p s toks (.ok y) e w' := by
 have hlt := h.lt;have h1 := boxed h (.cells #[.int .i64 at_, .int .i64 1, .int .u8 93] 238);have hnew := heap_alloc_new w (.cells #[.int .i64 at_, .int .i64 1, .int .u8 93] 238);have b0 : (w.alloc (.cells #[.int .i64 at_, .int .i64 1, .int .u8 93] 238)).cell? ⟨w.heap.size, 0, none⟩ = some (.int .i64 at_) := cell_at hnew;have b2 : (w.alloc (.cells #[.int .i64 at_, .int .i64 1, .int .u8 93] 238)).cell? ⟨w.heap.size, 2, none⟩ = some (.int .u8 93) := cell_at hnew;have HLT := hZ hlt;have HNEW := hZ hnew;have hec := ends_par F _ p x s toks 93 h1 hl;rw [he] at hec;rw [show ((((93 : UInt8)).toNat : Nat) : Int) = 93 from rfl] at hec;have HEC := hZ hec;have HED := hZ hend;have H1 := hZ h1;clear h h1 hlt hnew hec hend he hl;go_enter func112, ntmps112;go_wp2_with fail;refine (HEC.out).mono ?_;rintro e w1 ⟨rfl, hb1⟩;have HD := hZ (HED.out w1 (H1.out.below hb1));have HB1 := hZ hb1;clear hb1 b0 b2;go_wp2_with fail;refine (HD.out).mono ?_;rintro e w2 ⟨rfl, hk2, hp2⟩;have HK2 := hZ hk2;have HP2 := hZ hp2;clear hk2 hp2;go_wp2_with fail
 go_end0
 refine ⟨.inl rfl, unboxed (o := .cells #[.int .i64 at_, .int .i64 1, .int .u8 93] 238) HLT.out ⟨(Keeps.of_below F HB1.out).same HK2.out, rfl, HP2.out.mono (fun q h => h.elim .inl (fun h => .inr ⟨Nat.le_trans HB1.out.size h.1, h.2⟩)) (since_lt (fun q h => Nat.lt_of_lt_of_le (HLT.out q h) (by simp)) (Nat.le_trans HB1.out.size HK2.out.size))⟩⟩
theorem mark_end125 (F : Nat → Prop) (w : World) (p : Nat) (x y : Ps) (s : LS) (toks : List Tok) (at_ : Nat) (h : ParAt F w p x s toks) (he : x.ends 125 = true) (hl : x.pile.length ≤ 1048576) (hend : ∀ w1, ParAt F w1 p x s toks → Calls prog 148 #[.pointer (some ⟨p, 0, none⟩)] w1 fun e w2 => e = .returned (.tuple #[]) ∧ Keeps F w1 w2 ∧ ParAt (Since F w1 w2) w2 p y s toks) :
 Calls prog 112 #[.pointer (some ⟨p, 0, none⟩), .agg #[.int .i64 at_, .int .i64 1, .int .u8 125]] w fun e w' => Plainly e ∧ ParPost F w p s toks (.ok y) e w' := by
 have hlt := h.lt;have h1 := boxed h (.cells #[.int .i64 at_, .int .i64 1, .int .u8 125] 238);have hnew := heap_alloc_new w (.cells #[.int .i64 at_, .int .i64 1, .int .u8 125] 238);have b0 : (w.alloc (.cells #[.int .i64 at_, .int .i64 1, .int .u8 125] 238)).cell? ⟨w.heap.size, 0, none⟩ = some (.int .i64 at_) := cell_at hnew;have b2 : (w.alloc (.cells #[.int .i64 at_, .int .i64 1, .int .u8 125] 238)).cell? ⟨w.heap.size, 2, none⟩ = some (.int .u8 125) := cell_at hnew;have HLT := hZ hlt;have HNEW := hZ hnew;have hec := ends_par F _ p x s toks 125 h1 hl;rw [he] at hec;rw [show ((((125 : UInt8)).toNat : Nat) : Int) = 125 from rfl] at hec;have HEC := hZ hec;have HED := hZ hend;have H1 := hZ h1;clear h h1 hlt hnew hec hend he hl;go_enter func112, ntmps112;go_wp2_with fail;refine (HEC.out).mono ?_;rintro e w1 ⟨rfl, hb1⟩;have HD := hZ (HED.out w1 (H1.out.below hb1));have HB1 := hZ hb1;clear hb1 b0 b2;go_wp2_with fail;refine (HD.out).mono ?_;rintro e w2 ⟨rfl, hk2, hp2⟩;have HK2 := hZ hk2;have HP2 := hZ hp2;clear hk2 hp2;go_wp2_with fail
 go_end0
 refine ⟨.inl rfl, unboxed (o := .cells #[.int .i64 at_, .int .i64 1, .int .u8 125] 238) HLT.out ⟨(Keeps.of_below F HB1.out).same HK2.out, rfl, HP2.out.mono (fun q h => h.elim .inl (fun h => .inr ⟨Nat.le_trans HB1.out.size h.1, h.2⟩)) (since_lt (fun q h => Nat.lt_of_lt_of_le (HLT.out q h) (by simp)) (Nat.le_trans HB1.out.size HK2.out.size))⟩⟩
theorem mark_bad58 (F : Nat → Prop) (w : World) (p : Nat) (x y : Ps) (s : LS) (toks : List Tok) (at_ : Nat) (h : ParAt F w p x s toks) (he : x.ends 58 = false) (hw : x.want ≠ 4) (hl : x.pile.length ≤ 1048576) :
 Calls prog 112 #[.pointer (some ⟨p, 0, none⟩), .agg #[.int .i64 at_, .int .i64 1, .int .u8 58]] w fun e w' => Plainly e ∧ ParPost F w p s toks (.error (120, at_)) e w' := by
 have hlt := h.lt;have h1 := boxed h (.cells #[.int .i64 at_, .int .i64 1, .int .u8 58] 238);have hnew := heap_alloc_new w (.cells #[.int .i64 at_, .int .i64 1, .int .u8 58] 238);have b0 : (w.alloc (.cells #[.int .i64 at_, .int .i64 1, .int .u8 58] 238)).cell? ⟨w.heap.size, 0, none⟩ = some (.int .i64 at_) := cell_at hnew;have b2 : (w.alloc (.cells #[.int .i64 at_, .int .i64 1, .int .u8 58] 238)).cell? ⟨w.heap.size, 2, none⟩ = some (.int .u8 58) := cell_at hnew;have HLT := hZ hlt;have HNEW := hZ hnew;have hec := ends_par F _ p x s toks 58 h1 hl;rw [he] at hec;rw [show ((((58 : UInt8)).toNat : Nat) : Int) = 58 from rfl] at hec;have hw2 : ((x.want : Int) == 4) = false := by simp; omega
 have c5 : (w.alloc (.cells #[.int .i64 at_, .int .i64 1, .int .u8 58] 238)).cell? ⟨p, 5, none⟩ = some (.int .i64 x.want) := by
  obtain ⟨_, FL, FM, FP, lb, mb, pileV, vals, hp, hb, hL, hM, hP⟩ := h1;rw [cell_at hb]; rfl
 have HEC := hZ hec;have H1 := hZ h1.dead;have HFA := hZ (fun w => fail_any w 120 at_);clear h h1 hlt hnew hec he hl hw;go_enter func112, ntmps112;go_wp2_with fail;refine (HEC.out).mono ?_;rintro e w1 ⟨rfl, hb1⟩;have b01 : w1.cell? ⟨w.heap.size, 0, none⟩ = some (.int .i64 at_) := cell_at (keep HNEW.out hb1);have HB1 := hZ hb1;clear hb1 b0 b2;go_wp2_with fail;refine (HFA.out _).mono ?_;rintro e w2 ⟨he, rfl⟩;unfold failE at he;subst he;go_wp2_with fail;exact ⟨rfl, .inr ⟨_, _, rfl⟩, ((Keeps.refl F w).alloc _).same (Keeps.of_below F HB1.out), rfl, H1.out.keeps (Keeps.of_below (fun _ => False) HB1.out) id⟩
theorem mark_bad44 (F : Nat → Prop) (w : World) (p : Nat) (x y : Ps) (s : LS) (toks : List Tok) (at_ : Nat) (h : ParAt F w p x s toks) (he : x.ends 44 = false) (hw : x.want ≠ 5) (hl : x.pile.length ≤ 1048576) :
 Calls prog 112 #[.pointer (some ⟨p, 0, none⟩), .agg #[.int .i64 at_, .int .i64 1, .int .u8 44]] w fun e w' => Plainly e ∧ ParPost F w p s toks (.error (120, at_)) e w' := by
 have hlt := h.lt;have h1 := boxed h (.cells #[.int .i64 at_, .int .i64 1, .int .u8 44] 238);have hnew := heap_alloc_new w (.cells #[.int .i64 at_, .int .i64 1, .int .u8 44] 238);have b0 : (w.alloc (.cells #[.int .i64 at_, .int .i64 1, .int .u8 44] 238)).cell? ⟨w.heap.size, 0, none⟩ = some (.int .i64 at_) := cell_at hnew;have b2 : (w.alloc (.cells #[.int .i64 at_, .int .i64 1, .int .u8 44] 238)).cell? ⟨w.heap.size, 2, none⟩ = some (.int .u8 44) := cell_at hnew;have HLT := hZ hlt;have HNEW := hZ hnew;have hec := ends_par F _ p x s toks 44 h1 hl;rw [he] at hec;rw [show ((((44 : UInt8)).toNat : Nat) : Int) = 44 from rfl] at hec;have hw2 : ((x.want : Int) == 5) = false := by simp; omega
 have c5 : (w.alloc (.cells #[.int .i64 at_, .int .i64 1, .int .u8 44] 238)).cell? ⟨p, 5, none⟩ = some (.int .i64 x.want) := by
  obtain ⟨_, FL, FM, FP, lb, mb, pileV, vals, hp, hb, hL, hM, hP⟩ := h1;rw [cell_at hb]; rfl
 have HEC := hZ hec;have H1 := hZ h1.dead;have HFA := hZ (fun w => fail_any w 120 at_);clear h h1 hlt hnew hec he hl hw;go_enter func112, ntmps112;go_wp2_with fail;refine (HEC.out).mono ?_;rintro e w1 ⟨rfl, hb1⟩;have b01 : w1.cell? ⟨w.heap.size, 0, none⟩ = some (.int .i64 at_) := cell_at (keep HNEW.out hb1);have HB1 := hZ hb1;clear hb1 b0 b2;go_wp2_with fail;refine (HFA.out _).mono ?_;rintro e w2 ⟨he, rfl⟩;unfold failE at he;subst he;go_wp2_with fail;exact ⟨rfl, .inr ⟨_, _, rfl⟩, ((Keeps.refl F w).alloc _).same (Keeps.of_below F HB1.out), rfl, H1.out.keeps (Keeps.of_below (fun _ => False) HB1.out) id⟩
theorem mark_bad93 (F : Nat → Prop) (w : World) (p : Nat) (x y : Ps) (s : LS) (toks : List Tok) (at_ : Nat) (h : ParAt F w p x s toks) (he : x.ends 93 = false) (hl : x.pile.length ≤ 1048576) :
 Calls prog 112 #[.pointer (some ⟨p, 0, none⟩), .agg #[.int .i64 at_, .int .i64 1, .int .u8 93]] w fun e w' => Plainly e ∧ ParPost F w p s toks (.error (120, at_)) e w' := by
 have hlt := h.lt;have h1 := boxed h (.cells #[.int .i64 at_, .int .i64 1, .int .u8 93] 238);have hnew := heap_alloc_new w (.cells #[.int .i64 at_, .int .i64 1, .int .u8 93] 238);have b0 : (w.alloc (.cells #[.int .i64 at_, .int .i64 1, .int .u8 93] 238)).cell? ⟨w.heap.size, 0, none⟩ = some (.int .i64 at_) := cell_at hnew;have b2 : (w.alloc (.cells #[.int .i64 at_, .int .i64 1, .int .u8 93] 238)).cell? ⟨w.heap.size, 2, none⟩ = some (.int .u8 93) := cell_at hnew;have HLT := hZ hlt;have HNEW := hZ hnew;have hec := ends_par F _ p x s toks 93 h1 hl;rw [he] at hec;rw [show ((((93 : UInt8)).toNat : Nat) : Int) = 93 from rfl] at hec;have HEC := hZ hec;have H1 := hZ h1.dead;have HFA := hZ (fun w => fail_any w 120 at_);clear h h1 hlt hnew hec he hl;go_enter func112, ntmps112;go_wp2_with fail;refine (HEC.out).mono ?_;rintro e w1 ⟨rfl, hb1⟩;have b01 : w1.cell? ⟨w.heap.size, 0, none⟩ = some (.int .i64 at_) := cell_at (keep HNEW.out hb1);have HB1 := hZ hb1;clear hb1 b0 b2;go_wp2_with fail;refine (HFA.out _).mono ?_;rintro e w2 ⟨he, rfl⟩;unfold failE at he;subst he;go_wp2_with fail;exact ⟨rfl, .inr ⟨_, _, rfl⟩, ((Keeps.refl F w).alloc _).same (Keeps.of_below F HB1.out), rfl, H1.out.keeps (Keeps.of_below (fun _ => False) HB1.out) id⟩
theorem mark_bad125 (F : Nat → Prop) (w : World) (p : Nat) (x y : Ps) (s : LS) (toks : List Tok) (at_ : Nat) (h : ParAt F w p x s toks) (he : x.ends 125 = false) (hl : x.pile.length ≤ 1048576) :
 Calls prog 112 #[.pointer (some ⟨p, 0, none⟩), .agg #[.int .i64 at_, .int .i64 1, .int .u8 125]] w fun e w' => Plainly e ∧ ParPost F w p s toks (.error (120, at_)) e w' := by
 have hlt := h.lt;have h1 := boxed h (.cells #[.int .i64 at_, .int .i64 1, .int .u8 125] 238);have hnew := heap_alloc_new w (.cells #[.int .i64 at_, .int .i64 1, .int .u8 125] 238);have b0 : (w.alloc (.cells #[.int .i64 at_, .int .i64 1, .int .u8 125] 238)).cell? ⟨w.heap.size, 0, none⟩ = some (.int .i64 at_) := cell_at hnew;have b2 : (w.alloc (.cells #[.int .i64 at_, .int .i64 1, .int .u8 125] 238)).cell? ⟨w.heap.size, 2, none⟩ = some (.int .u8 125) := cell_at hnew;have HLT := hZ hlt;have HNEW := hZ hnew;have hec := ends_par F _ p x s toks 125 h1 hl;rw [he] at hec;rw [show ((((125 : UInt8)).toNat : Nat) : Int) = 125 from rfl] at hec;have HEC := hZ hec;have H1 := hZ h1.dead;have HFA := hZ (fun w => fail_any w 120 at_);clear h h1 hlt hnew hec he hl;go_enter func112, ntmps112;go_wp2_with fail;refine (HEC.out).mono ?_;rintro e w1 ⟨rfl, hb1⟩;have b01 : w1.cell? ⟨w.heap.size, 0, none⟩ = some (.int .i64 at_) := cell_at (keep HNEW.out hb1);have HB1 := hZ hb1;clear hb1 b0 b2;go_wp2_with fail;refine (HFA.out _).mono ?_;rintro e w2 ⟨he, rfl⟩;unfold failE at he;subst he;go_wp2_with fail;exact ⟨rfl, .inr ⟨_, _, rfl⟩, ((Keeps.refl F w).alloc _).same (Keeps.of_below F HB1.out), rfl, H1.out.keeps (Keeps.of_below (fun _ => False) HB1.out) id⟩
theorem mark_par (F : Nat → Prop) (w : World) (p : Nat) (y : Ps) (s : LS) (rest : List Tok) (a : Nat) (sg : UInt8) (h : ParAt F w p y s rest) (hy : PsOk y 0) (hm : isMark sg = true) :
 Calls prog 112 #[.pointer (some ⟨p, 0, none⟩), .agg #[.int .i64 a, .int .i64 1, .int .u8 ((sg.toNat : Nat) : Int)]] w fun e w' => Plainly e ∧ ParPost F w p s rest (y.mark po a sg) e w' := by
 have hd := hy.depth;have hrm := hy.room;have hpl : y.pile.length ≤ 1048576 := by omega
 have hpo := hy.pileOk0
 have hmark : sg = 123 ∨ sg = 125 ∨ sg = 91 ∨ sg = 93 ∨ sg = 58 ∨ sg = 44 := by
  unfold isMark at hm
  simpa [or_assoc] using hm
 have hends : ∀ k : UInt8, y.ends k = true → ∀ w1, ParAt F w1 p y s rest → Calls prog 148 #[.pointer (some ⟨p, 0, none⟩)] w1 fun e w2 => e = .returned (.tuple #[]) ∧ Keeps F w1 w2 ∧ ParAt (Since F w1 w2) w2 p (y.finishOpen po) s rest := by
  intro k he w1 h1
  have hw : y.want = 5 ∨ y.want = 1 ∨ y.want = 2 := by
   unfold Ps.ends at he;simp at he;omega
  obtain ⟨ini, fr, hp⟩ := hy.stand.last hw;have hil : ini.length ≤ 1048576 := by rw [hp] at hpl; simp at hpl; omega
  cases fr with
  | list m =>
   have hf : y.finishOpen po = Ps.put { y with pile := ini, items := putList y.items m } := by
    have hgl : y.pile.getLast? = some (.list m) := by rw [hp]; simp
    have hdl : y.pile.dropLast = ini := by rw [hp]; simp
    unfold Ps.finishOpen;rw [hgl, hdl]
   rw [hf];exact end_list F w1 p y s rest ini m h1 hp hy.inside hy.items hpo.many hil
  | object ks =>
   have hf : y.finishOpen po = Ps.put { y with pile := ini, items := po y.items ks } := by
    have hgl : y.pile.getLast? = some (.object ks) := by rw [hp]; simp
    have hdl : y.pile.dropLast = ini := by rw [hp]; simp
    unfold Ps.finishOpen;rw [hgl, hdl]
   rw [hf];have hk := hy.right (k := ks) (by rw [hp]; simp);exact end_object F w1 p y s rest ini ks h1 hp hy.inside hy.items hpo.many hil hk.1 hk.2.1 (Nat.le_trans hk.2.2 hy.bytes)
 rcases hmark with rfl | rfl | rfl | rfl | rfl | rfl
 ·have he : y.mark po a 123 = (y.value a).map fun p => { p with pile := p.pile ++ [.object []], want := 2 } := by unfold Ps.mark; rw [if_neg (by decide), if_pos rfl]
  rw [he];exact mark_openO F w p y s rest a h hy.nodes hpl
 ·have he : y.mark po a 125 = if y.ends 125 then .ok (y.finishOpen po) else .error (120, a) := by unfold Ps.mark; rw [if_neg (by decide), if_neg (by decide), if_neg (fun h => absurd h.1 (by decide)), if_neg (fun h => absurd h.1 (by decide))]
  rw [he];cases hen : y.ends 125 with
  | true => exact mark_end125 F w p y _ s rest a h hen hpl (hends 125 hen)
  | false => exact mark_bad125 F w p y y s rest a h hen hpl
 ·have he : y.mark po a 91 = (y.value a).map fun p => { p with pile := p.pile ++ [.list 0], want := 1 } := by unfold Ps.mark; rw [if_pos rfl]
  rw [he];exact mark_open F w p y s rest a h hy.nodes hpl
 ·have he : y.mark po a 93 = if y.ends 93 then .ok (y.finishOpen po) else .error (120, a) := by unfold Ps.mark; rw [if_neg (by decide), if_neg (by decide), if_neg (fun h => absurd h.1 (by decide)), if_neg (fun h => absurd h.1 (by decide))]
  rw [he];cases hen : y.ends 93 with
  | true => exact mark_end93 F w p y _ s rest a h hen hpl (hends 93 hen)
  | false => exact mark_bad93 F w p y y s rest a h hen hpl
 ·have hen : y.ends 58 = false := ends_other y 58 (by decide) (by decide)
  by_cases hw : y.want = 4
  ·have he : y.mark po a 58 = .ok { y with want := 0 } := by unfold Ps.mark; rw [if_neg (by decide), if_neg (by decide), if_pos ⟨rfl, hw⟩]
   rw [he];exact mark_colon F w p y s rest a h hw
  ·have he : y.mark po a 58 = .error (120, a) := by unfold Ps.mark; rw [if_neg (by decide), if_neg (by decide), if_neg (fun h => hw h.2), if_neg (fun h => absurd h.1 (by decide)), if_neg (by rw [hen]; decide)]
   rw [he];exact mark_bad58 F w p y y s rest a h hen hw hpl
 ·have hen : y.ends 44 = false := ends_other y 44 (by decide) (by decide)
  by_cases hw : y.want = 5
  ·have he : y.mark po a 44 = .ok { y with want := if isObj y.pile then 3 else 0 } := by unfold Ps.mark; rw [if_neg (by decide), if_neg (by decide), if_neg (fun h => absurd h.1 (by decide)), if_pos ⟨rfl, hw⟩]
   rw [he];obtain ⟨ini, fr, hp⟩ := hy.stand.last (.inl hw);have hil : ini.length ≤ 1048576 := by rw [hp] at hpl; simp at hpl; omega
   cases fr with
   | list m =>
    have ho : isObj y.pile = false := by rw [hp]; unfold isObj; simp
    rw [ho];exact mark_comma_list F w p y s rest a h hw ini m hp hil
   | object ks =>
    have ho : isObj y.pile = true := by rw [hp]; unfold isObj; simp
    rw [ho];exact mark_comma_object F w p y s rest a h hw ini ks hp hil
  ·have he : y.mark po a 44 = .error (120, a) := by unfold Ps.mark; rw [if_neg (by decide), if_neg (by decide), if_neg (fun h => absurd h.1 (by decide)), if_neg (fun h => hw h.2), if_neg (by rw [hen]; decide)]
   rw [he];exact mark_bad44 F w p y y s rest a h hen hw hpl
theorem PsOk.pileOk {x : Ps} {q : Nat} (h : PsOk x q) : PileOk x 1073741824 := ⟨fun m hm => Nat.le_trans (h.many m hm) (by decide), by have := h.room; have := h.depth; omega⟩
theorem num_value (w : World) (a n b : Nat) : Calls prog 357 #[.agg #[.int .i64 a, .int .i64 n, .int .u64 b]] w fun e w' => e = .returned (.iface 107 (.float .f64 b)) ∧ Below w.heap.size w w' := by
 have h1 := f64from_run b;go_enter func357, ntmps357;go_wp2;go_ret;exact ⟨rfl, (Below.refl _ _).alloc (Nat.le_refl _) _⟩
def tokLeft (w : World) (p : Nat) : Nat := match w.cell? ⟨p, 2, none⟩ with
 | some (.pointer (some a)) => match w.cell? ⟨a.block, 13, none⟩ with
  | some (.slice _ n _) => n
  | _ => 0
 | _ => 0
theorem LexIs.left {F : Nat → Prop} {w : World} {b : Nat} {toks : List Tok} {s : LS} (h : LexIs F w b toks s) : ∃ a c, w.cell? ⟨b, 13, none⟩ = some (.slice a toks.length c) := by
 cases s with
 | at_ x dn =>
  obtain ⟨hF, hlt, rawV, chV, saysV, tokV, hb, hw, hs⟩ := h;obtain ⟨a, c, rfl⟩ := hw.1.shape;refine ⟨a, c, ?_⟩;rw [cell_at hb];simp
 | dead pl st errV =>
  obtain ⟨hF, hlt, v2, v3, v4, v6, v7, v8, v9, va, vb, vc, tokV, hb, hw⟩ := h;obtain ⟨a, c, rfl⟩ := hw.1.shape;refine ⟨a, c, ?_⟩;rw [cell_at hb];simp
theorem ParAt.left {F : Nat → Prop} {w : World} {p : Nat} {x : Ps} {s : LS} {toks : List Tok} (h : ParAt F w p x s toks) : tokLeft w p = toks.length := by
 obtain ⟨hlt, FL, FM, FP, lb, mb, pileV, vals, hp, hb, hL, hM, hP⟩ := h;obtain ⟨a, c, hc⟩ := hL.left;have h2 : w.cell? ⟨p, 2, none⟩ = some (.pointer (some ⟨lb, 0, none⟩)) := by rw [cell_at hb]; rfl
 unfold tokLeft;rw [h2];simp only [hc]
theorem par_next (F : Nat → Prop) (w : World) (p : Nat) (x : Ps) (s : LS) (t : Tok) (toks : List Tok) (h : ParAt F w p x s (t :: toks)) (hl : toks.length ≤ 999) : ∃ lb, w.cell? ⟨p, 2, none⟩ = some (.pointer (some ⟨lb, 0, none⟩)) ∧
 Calls prog 111 #[.pointer (some ⟨lb, 0, none⟩)] w fun e w' => e = .returned (.tuple #[tokEnc t, .bool true]) ∧ Keeps F w w' ∧ ParAt (Since F w w') w' p x s toks := by
 obtain ⟨hlt, FL, FM, FP, lb, mb, pileV, vals, hp, hb, hL, hM, hP⟩ := h;refine ⟨lb, by rw [cell_at hb]; rfl, (nextTok_any FL w lb t toks s hL hl).mono ?_⟩;rintro e w' ⟨rfl, hL', hk⟩;have hd : ∀ (Q : Nat → Prop), ¬ Q lb → ∀ k, Q k → ¬ k = lb := fun Q h1 k hk e => h1 (e ▸ hk)
 have hkF : Keeps F w w' := hk.mono fun k e => e ▸ hp.lex lb hL.block
 refine ⟨rfl, hkF, since_lt hlt hkF.size, FL, FM, FP, lb, mb, pileV, vals, hp.since, hk.blk hb (fun e => hp.self.2.1 (e ▸ hL.block)), hL', hM.apart hk (hd FM (fun h => hp.lm lb hL.block h)), hP.keeps hk (hd FP (fun h => hp.lp lb hL.block h))⟩
theorem par_none (F : Nat → Prop) (w : World) (p : Nat) (x : Ps) (s : LS) (h : ParAt F w p x s []) : ∃ lb, w.cell? ⟨p, 2, none⟩ = some (.pointer (some ⟨lb, 0, none⟩)) ∧
 Calls prog 111 #[.pointer (some ⟨lb, 0, none⟩)] w fun e w' => e = .returned (.tuple #[.nilIface, .bool false]) ∧ w' = w := by
 obtain ⟨hlt, FL, FM, FP, lb, mb, pileV, vals, hp, hb, hL, hM, hP⟩ := h;exact ⟨lb, by rw [cell_at hb]; rfl, nextNone_any FL w lb s hL⟩
theorem tok_iface (t : Tok) : ∃ T u, tokEnc t = .iface T u := by cases t <;> exact ⟨_, _, rfl⟩
def DrainInv (F : Nat → Prop) (w : World) (p : Nat) (s : LS) (out : Out) (t ok : Value) (wr : World) : Prop :=
 ∃ y q, Keeps F w wr ∧ PsOk y q ∧ ∃ rest, ParAt (Since F w wr) wr p y s rest ∧ (∀ t ∈ rest, StrOk t) ∧ rest.length ≤ 998 ∧
  ((∃ tk, TokFits q y.want (tk :: rest) ∧ t = tokEnc tk ∧ ok = .bool true ∧ StrOk tk ∧ y.drain po (tk :: rest) = out) ∨ (t = .nilIface ∧ ok = .bool false ∧ rest = [] ∧ out = .ok y))
def drainLeft (p : Nat) (ok : Value) (w : World) : Nat := match ok with
 | .bool true => 1 + tokLeft w p
 | _ => 0
theorem tok_step {F : Nat → Prop} {w wr W1 : World} {p : Nat} {y : Ps} {q : Nat} {s : LS} {rest : List Tok} {tk : Tok} {out o : Out} {f : Nat} {args : Array Value} (hlt : ∀ k, F k → k < w.heap.size) (hkr : Keeps F w wr) (hal : Keeps (fun _ => False) wr W1) (hy : PsOk y q) (htk : StrOk tk) (hfit : TokFit q y.want tk) (ho : y.token po tk = o) (hout : y.drain po (tk :: rest) = out)
 (hcall : Calls prog f args W1 fun e w' => Plainly e ∧ ParPost (Since F w wr) W1 p s rest o e w') :
 Calls prog f args W1 fun e w' => Keeps F w w' ∧ ((∃ e2 : Nat × Nat, e = failE e2.1 e2.2 ∧ ParDead w' p ∧ out = .error e2) ∨ (∃ z, e = .returned (.tuple #[]) ∧ PsOk z 0 ∧ ParAt (Since F w w') w' p z s rest ∧ z.drain po rest = out)) := by
 refine hcall.mono fun e w' ⟨_, hk, hpost⟩ => ?_
 have hkw : Keeps F w w' := (hkr.andThen (hal.mono fun _ h => h.elim)).trans hk (fun k h => h.elim .inl (fun h => .inr h.1));refine ⟨hkw, ?_⟩;rw [drain_cons', ho] at hout;cases o with
 | error e2 =>
  obtain ⟨no, at_⟩ := e2;exact .inl ⟨(no, at_), hpost.1, hpost.2, hout.symm⟩
 | ok z =>
  refine .inr ⟨z, hpost.1, hy.token htk hfit ho, ?_, hout⟩;exact hpost.2.mono (fun k h => h.elim (fun h => h.mono_r (Nat.le_trans hal.size hk.size)) (fun h => .inr ⟨Nat.le_trans hkr.size (Nat.le_trans hal.size h.1), h.2⟩)) (since_lt hlt hkw.size)
theorem measure_none {G : Nat → Prop} {w3 wr : World} {p : Nat} {z : Ps} {s : LS} (_h : ParAt G w3 p z s []) : drainLeft p (.bool false) w3 < drainLeft p (.bool true) wr := by
 show 0 < 1 + tokLeft wr p
 omega
theorem measure_some {G G' : Nat → Prop} {w4 wr : World} {p : Nat} {y z : Ps} {s s' : LS} {t : Tok} {rest : List Tok} (h : ParAt G' wr p y s' (t :: rest)) (h4 : ParAt G w4 p z s rest) : drainLeft p (.bool true) w4 < drainLeft p (.bool true) wr := by
 show 1 + tokLeft w4 p < 1 + tokLeft wr p
 rw [h.left, h4.left, List.length_cons];omega
theorem drain_any (F : Nat → Prop) (w : World) (p : Nat) (x : Ps) (s : LS) (toks : List Tok) (q : Nat) (h : ParAt F w p x s toks) (hok : ∀ t ∈ toks, StrOk t) (hx : PsOk x q) (hn : TokFits q x.want toks) (hl : toks.length ≤ 999) :
 Calls prog 79 #[.pointer (some ⟨p, 0, none⟩)] w fun e w' => Plainly e ∧ ParPost F w p s [] (x.drain po toks) e w' := by
 have hlt := h.lt;have HLT := hZ hlt;obtain ⟨out, hout⟩ : ∃ out, x.drain po toks = out := ⟨_, rfl⟩;rw [hout]
 have hstart : ∃ lb t ok, w.cell? ⟨p, 2, none⟩ = some (.pointer (some ⟨lb, 0, none⟩)) ∧ (∃ okb, ok = .bool okb) ∧ (t = .nilIface ∨ ∃ T u, t = .iface T u) ∧ Calls prog 111 #[.pointer (some ⟨lb, 0, none⟩)] w fun e w' => e = .returned (.tuple #[t, ok]) ∧ DrainInv F w p s out t ok w' := by
  cases toks with
  | nil =>
   obtain ⟨lb, hc, hnx⟩ := par_none F w p x s h;refine ⟨lb, .nilIface, .bool false, hc, ⟨_, rfl⟩, .inl rfl, hnx.mono ?_⟩;rintro e w' ⟨rfl, rfl⟩;exact ⟨rfl, x, q, Keeps.refl _ _, hx, [], h.mono (fun k h => .inl h) (since_lt hlt (Nat.le_refl _)), fun _ h => by simp at h, by simp, .inr ⟨rfl, rfl, rfl, hout.symm⟩⟩
  | cons t rest =>
   obtain ⟨lb, hc, hnx⟩ := par_next F w p x s t rest h (by simp at hl; omega);refine ⟨lb, tokEnc t, .bool true, hc, ⟨_, rfl⟩, .inr (tok_iface t), hnx.mono ?_⟩;rintro e w' ⟨rfl, hk, hp⟩;exact ⟨rfl, x, q, hk, hx, rest, hp, fun t h => hok t (List.mem_cons_of_mem _ h), by simp at hl; omega, .inl ⟨t, hn, rfl, rfl, hok t (List.mem_cons_self ..), hout⟩⟩
 obtain ⟨lb, t0, ok0, hc2, ⟨okb, rfl⟩, hti, hnx⟩ := hstart;have HNX := hZ hnx;clear h hok hx hn hl hout hlt hnx;rcases hti with rfl | ⟨T0, u0, rfl⟩
 all_goals
  go_enter func79, ntmps79;go_wp2_with fail;refine (HNX.out).mono ?_;rintro e w1 ⟨rfl, hinv⟩;have HINV := hZ hinv;clear hinv;go_wp2_with fail
  go_loopw [2, 3] (fun t ok wr => Hid (DrainInv F w p s out t ok wr)) (fun _ ok wr => drainLeft p ok wr)
  case atStart => exact HINV.out.elim fun y h => hZ ⟨y, h⟩
  case round =>
   obtain ⟨y, q, hkr, hy, rest, hpar, hokr, hb2, hcase⟩ := hrel.out;clear hrel;have HPAR := hZ hpar;have HKR := hZ hkr;rcases hcase with ⟨tk, hb1, rfl, rfl, htk, hout⟩ | ⟨rfl, rfl, rfl, hout⟩
   ·have HB1 := hZ hb1;have HB2 := hZ hb2;have HOKR := hZ hokr;cases tk with
    | mark a sg =>
     rw [show tokEnc (.mark a sg) = .iface 238 (.agg #[.int .i64 a, .int .i64 1, .int .u8 ((sg.toNat : Nat) : Int)]) from rfl];have hta : ∀ w : World, (Instr.typeAssert (.iface 238 (.agg #[.int .i64 a, .int .i64 1, .int .u8 ((sg.toNat : Nat) : Int)])) 232 238 true).run prog w = .ok (.tuple #[.agg #[.int .i64 a, .int .i64 1, .int .u8 ((sg.toNat : Nat) : Int)], .bool true]) w := fun _ => by kernel_rfl
     have hal : Keeps (fun _ => False) wr (wr.alloc (.cells #[.int .i64 a, .int .i64 1, .int .u8 ((sg.toNat : Nat) : Int)] 238)) := (Keeps.refl _ wr).alloc _;obtain rfl : q = 0 := hb1.1;have hcall := mark_par _ _ p y s rest a sg (hpar.apart hal (fun _ _ => id)) hy htk;have HC := hZ (tok_step (tk := .mark a sg) HLT.out hkr hal hy htk hb1.1 rfl hout hcall);clear hpar hkr hy hokr hb1 hb2 hc2 hcall htk hout hal;go_wp2_with fail;refine (HC.out).mono ?_;rintro e w3 ⟨hkt, hout⟩;have hout : (∃ e2 : Nat × Nat, e = failE e2.1 e2.2 ∧ ParDead w3 p ∧ out = .error e2) ∨ (∃ z, e = .returned (.tuple #[]) ∧ PsOk z 0 ∧ ParAt (Since F w w3) w3 p z s rest ∧ z.drain po rest = out) := hout;rcases hout with ⟨e2, he, hdead, hoe⟩ | ⟨z, he, hzz, hpz, hoz⟩
     ·have HOE := hZ hoe;have HKT := hZ hkt;have HD := hZ hdead;clear hoe hkt hdead;unfold failE at he;subst he;go_wp2_with fail;rw [HOE.out];exact ⟨rfl, .inr ⟨_, _, rfl⟩, HKT.out, rfl, HD.out⟩
     ·subst he;cases rest with
      | nil =>
       obtain ⟨lb2, hc2b, hnx⟩ := par_none _ w3 p z s hpz;have HKT := hZ hkt;have HNX := hZ hnx;have HZZ := hZ hzz;have HPZ := hZ hpz;have HOZ := hZ hoz;clear hkt hnx hzz hpz hoz;go_wp2_with fail;refine (HNX.out).mono ?_;rintro e w4 ⟨rfl, rfl⟩;go_wp2_with fail
       go_roundw
       case rel => exact hZ ⟨z, 0, HKT.out, HZZ.out, [], HPZ.out, fun _ h => by simp at h, by simp, .inr ⟨rfl, rfl, rfl, HOZ.out.symm⟩⟩
       case measure => exact measure_none HPZ.out
      | cons t2 rest2 =>
       obtain ⟨lb2, hc2b, hnx⟩ := par_next _ w3 p z s t2 rest2 hpz (by have := HB2.out; simp at this; omega);have HKT := hZ hkt;have HNX := hZ hnx;have HZZ := hZ hzz;have HPZ := hZ hpz;have HOZ := hZ hoz;obtain ⟨T2, u2, ht2⟩ := tok_iface t2;rw [ht2] at HNX;have HT2 := hZ ht2;clear hkt hnx hzz hpz hoz ht2;go_wp2_with fail;refine (HNX.out).mono ?_;rintro e w4 ⟨rfl, hk4, hp4⟩;have HK4 := hZ hk4;have HP4 := hZ hp4;clear hk4 hp4;go_wp2_with fail
       go_roundw
       case rel => exact hZ ⟨z, 0, HKT.out.andThen HK4.out, HZZ.out, rest2, HP4.out.mono (fun k h => h.trans HKT.out.size HK4.out.size) (fun k h => by exact (since_lt HLT.out (HKT.out.andThen HK4.out).size) k h), fun t h => HOKR.out t (List.mem_cons_of_mem _ h), by have := HB2.out; simp at this; omega, .inl ⟨t2, HB1.out.tail, HT2.out.symm, rfl, HOKR.out t2 (List.mem_cons_self ..), HOZ.out⟩⟩
       case measure => exact measure_some HPAR.out HP4.out
    | term a sz l =>
     obtain ⟨sv, hsv⟩ : ∃ sv : ByteArray, (⟨l.toArray⟩ : ByteArray) = sv := ⟨_, rfl⟩;have hte : tokEnc (.term a sz l) = .iface 309 (.agg #[.int .i64 a, .int .i64 sz, .string sv]) := by rw [← hsv]; rfl
     have hta : ∀ w : World, (Instr.typeAssert (.iface 309 (.agg #[.int .i64 a, .int .i64 sz, .string sv])) 232 238 true).run prog w = .ok (.tuple #[.agg #[.int .i64 0, .int .i64 0, .int .u8 0], .bool false]) w := fun _ => by kernel_rfl
     have hta2 : ∀ w : World, (Instr.typeAssert (.iface 309 (.agg #[.int .i64 a, .int .i64 sz, .string sv])) 232 241 true).run prog w = .ok (.tuple #[.agg #[.int .i64 0, .int .i64 0, .string ⟨#[]⟩], .bool false]) w := fun _ => by kernel_rfl
     have hta3 : ∀ w : World, (Instr.typeAssert (.iface 309 (.agg #[.int .i64 a, .int .i64 sz, .string sv])) 232 244 true).run prog w = .ok (.tuple #[.iface 309 (.agg #[.int .i64 a, .int .i64 sz, .string sv]), .bool true]) w := fun _ => by kernel_rfl
     have hm : ∀ w : World, (method 565 309 (.agg #[.int .i64 a, .int .i64 sz, .string sv]) "Value").run prog w = .ok (360, .agg #[.int .i64 a, .int .i64 sz, .string sv]) w := fun _ => by kernel_rfl
     have hnv := term_value wr a sz l htk;rw [hsv] at hnv;have HNV := hZ hnv;obtain ⟨nv, hnve⟩ : ∃ nv, nameV l = nv := ⟨_, rfl⟩;rw [hnve] at HNV;have HCC := hZ (fun W1 (hal : Keeps (fun _ => False) wr W1) => by have h1 := tok_step (tk := .term a sz l) HLT.out hkr hal hy htk hb1.1 rfl hout ((scalar_term _ W1 p y s rest l (hpar.apart hal (fun _ _ => id)) hy.pileOk (by have := hy.items; omega)).mono fun e w' h => ⟨.inl h.1, h.2.1, h.1, h.2.2⟩); rw [hnve] at h1; exact h1);have HNVE := hZ hnve;rw [hte];clear hsv hte hnve hnv;clear hpar hkr hy hokr hb1 hb2 hc2 htk hout;go_wp2_with fail;refine (HNV.out).mono ?_;rintro e w2 ⟨rfl, hb2⟩;have HC := hZ (HCC.out w2 (Keeps.of_below _ hb2));clear hb2;go_wp2_with fail;refine (HC.out).mono ?_;rintro e w3 ⟨hkt, hout⟩;have hout : (∃ e2 : Nat × Nat, e = failE e2.1 e2.2 ∧ ParDead w3 p ∧ out = .error e2) ∨ (∃ z, e = .returned (.tuple #[]) ∧ PsOk z 0 ∧ ParAt (Since F w w3) w3 p z s rest ∧ z.drain po rest = out) := hout;rcases hout with ⟨e2, he, hdead, hoe⟩ | ⟨z, he, hzz, hpz, hoz⟩
     ·have HOE := hZ hoe;have HKT := hZ hkt;have HD := hZ hdead;clear hoe hkt hdead;unfold failE at he;subst he;go_wp2_with fail;rw [HOE.out];exact ⟨rfl, .inr ⟨_, _, rfl⟩, HKT.out, rfl, HD.out⟩
     ·subst he;cases rest with
      | nil =>
       obtain ⟨lb2, hc2b, hnx⟩ := par_none _ w3 p z s hpz;have HKT := hZ hkt;have HNX := hZ hnx;have HZZ := hZ hzz;have HPZ := hZ hpz;have HOZ := hZ hoz;clear hkt hnx hzz hpz hoz;go_wp2_with fail;refine (HNX.out).mono ?_;rintro e w4 ⟨rfl, rfl⟩;go_wp2_with fail
       go_roundw
       case rel => exact hZ ⟨z, 0, HKT.out, HZZ.out, [], HPZ.out, fun _ h => by simp at h, by simp, .inr ⟨rfl, rfl, rfl, HOZ.out.symm⟩⟩
       case measure => exact measure_none HPZ.out
      | cons t2 rest2 =>
       obtain ⟨lb2, hc2b, hnx⟩ := par_next _ w3 p z s t2 rest2 hpz (by have := HB2.out; simp at this; omega);have HKT := hZ hkt;have HNX := hZ hnx;have HZZ := hZ hzz;have HPZ := hZ hpz;have HOZ := hZ hoz;obtain ⟨T2, u2, ht2⟩ := tok_iface t2;rw [ht2] at HNX;have HT2 := hZ ht2;clear hkt hnx hzz hpz hoz ht2;go_wp2_with fail;refine (HNX.out).mono ?_;rintro e w4 ⟨rfl, hk4, hp4⟩;have HK4 := hZ hk4;have HP4 := hZ hp4;clear hk4 hp4;go_wp2_with fail
       go_roundw
       case rel => exact hZ ⟨z, 0, HKT.out.andThen HK4.out, HZZ.out, rest2, HP4.out.mono (fun k h => h.trans HKT.out.size HK4.out.size) (fun k h => by exact (since_lt HLT.out (HKT.out.andThen HK4.out).size) k h), fun t h => HOKR.out t (List.mem_cons_of_mem _ h), by have := HB2.out; simp at this; omega, .inl ⟨t2, HB1.out.tail, HT2.out.symm, rfl, HOKR.out t2 (List.mem_cons_self ..), HOZ.out⟩⟩
       case measure => exact measure_some HPAR.out HP4.out
    | num a sz bt =>
     have hta : ∀ w : World, (Instr.typeAssert (.iface 271 (.agg #[.int .i64 a, .int .i64 sz, .int .u64 bt])) 232 238 true).run prog w = .ok (.tuple #[.agg #[.int .i64 0, .int .i64 0, .int .u8 0], .bool false]) w := fun _ => by kernel_rfl
     have hta2 : ∀ w : World, (Instr.typeAssert (.iface 271 (.agg #[.int .i64 a, .int .i64 sz, .int .u64 bt])) 232 241 true).run prog w = .ok (.tuple #[.agg #[.int .i64 0, .int .i64 0, .string ⟨#[]⟩], .bool false]) w := fun _ => by kernel_rfl
     have hta3 : ∀ w : World, (Instr.typeAssert (.iface 271 (.agg #[.int .i64 a, .int .i64 sz, .int .u64 bt])) 232 244 true).run prog w = .ok (.tuple #[.iface 271 (.agg #[.int .i64 a, .int .i64 sz, .int .u64 bt]), .bool true]) w := fun _ => by kernel_rfl
     have hm : ∀ w : World, (method 565 271 (.agg #[.int .i64 a, .int .i64 sz, .int .u64 bt]) "Value").run prog w = .ok (357, .agg #[.int .i64 a, .int .i64 sz, .int .u64 bt]) w := fun _ => by kernel_rfl
     rw [show tokEnc (.num a sz bt) = .iface 271 (.agg #[.int .i64 a, .int .i64 sz, .int .u64 bt]) from rfl];have HNV := hZ (num_value wr a sz bt);have HCC := hZ (fun W1 (hal : Keeps (fun _ => False) wr W1) => tok_step (tk := .num a sz bt) HLT.out hkr hal hy htk hb1.1 rfl hout ((scalar_num _ W1 p y s rest bt htk (hpar.apart hal (fun _ _ => id)) hy.pileOk (by have := hy.items; omega)).mono fun e w' h => ⟨.inl h.1, h.2.1, h.1, h.2.2⟩));clear hpar hkr hy hokr hb1 hb2 hc2 htk hout;go_wp2_with fail;refine (HNV.out).mono ?_;rintro e w2 ⟨rfl, hb2⟩;have HC := hZ (HCC.out w2 (Keeps.of_below _ hb2));clear hb2;go_wp2_with fail;refine (HC.out).mono ?_;rintro e w3 ⟨hkt, hout⟩;have hout : (∃ e2 : Nat × Nat, e = failE e2.1 e2.2 ∧ ParDead w3 p ∧ out = .error e2) ∨ (∃ z, e = .returned (.tuple #[]) ∧ PsOk z 0 ∧ ParAt (Since F w w3) w3 p z s rest ∧ z.drain po rest = out) := hout;rcases hout with ⟨e2, he, hdead, hoe⟩ | ⟨z, he, hzz, hpz, hoz⟩
     ·have HOE := hZ hoe;have HKT := hZ hkt;have HD := hZ hdead;clear hoe hkt hdead;unfold failE at he;subst he;go_wp2_with fail;rw [HOE.out];exact ⟨rfl, .inr ⟨_, _, rfl⟩, HKT.out, rfl, HD.out⟩
     ·subst he;cases rest with
      | nil =>
       obtain ⟨lb2, hc2b, hnx⟩ := par_none _ w3 p z s hpz;have HKT := hZ hkt;have HNX := hZ hnx;have HZZ := hZ hzz;have HPZ := hZ hpz;have HOZ := hZ hoz;clear hkt hnx hzz hpz hoz;go_wp2_with fail;refine (HNX.out).mono ?_;rintro e w4 ⟨rfl, rfl⟩;go_wp2_with fail
       go_roundw
       case rel => exact hZ ⟨z, 0, HKT.out, HZZ.out, [], HPZ.out, fun _ h => by simp at h, by simp, .inr ⟨rfl, rfl, rfl, HOZ.out.symm⟩⟩
       case measure => exact measure_none HPZ.out
      | cons t2 rest2 =>
       obtain ⟨lb2, hc2b, hnx⟩ := par_next _ w3 p z s t2 rest2 hpz (by have := HB2.out; simp at this; omega);have HKT := hZ hkt;have HNX := hZ hnx;have HZZ := hZ hzz;have HPZ := hZ hpz;have HOZ := hZ hoz;obtain ⟨T2, u2, ht2⟩ := tok_iface t2;rw [ht2] at HNX;have HT2 := hZ ht2;clear hkt hnx hzz hpz hoz ht2;go_wp2_with fail;refine (HNX.out).mono ?_;rintro e w4 ⟨rfl, hk4, hp4⟩;have HK4 := hZ hk4;have HP4 := hZ hp4;clear hk4 hp4;go_wp2_with fail
       go_roundw
       case rel => exact hZ ⟨z, 0, HKT.out.andThen HK4.out, HZZ.out, rest2, HP4.out.mono (fun k h => h.trans HKT.out.size HK4.out.size) (fun k h => by exact (since_lt HLT.out (HKT.out.andThen HK4.out).size) k h), fun t h => HOKR.out t (List.mem_cons_of_mem _ h), by have := HB2.out; simp at this; omega, .inl ⟨t2, HB1.out.tail, HT2.out.symm, rfl, HOKR.out t2 (List.mem_cons_self ..), HOZ.out⟩⟩
       case measure => exact measure_some HPAR.out HP4.out
    | str a sz l =>
     obtain ⟨sv, hsv⟩ : ∃ sv : ByteArray, (⟨l.toArray⟩ : ByteArray) = sv := ⟨_, rfl⟩;have hte : tokEnc (.str a sz l) = .iface 241 (.agg #[.int .i64 a, .int .i64 sz, .string sv]) := by rw [← hsv]; rfl
     have hta : ∀ w : World, (Instr.typeAssert (.iface 241 (.agg #[.int .i64 a, .int .i64 sz, .string sv])) 232 238 true).run prog w = .ok (.tuple #[.agg #[.int .i64 0, .int .i64 0, .int .u8 0], .bool false]) w := fun _ => by kernel_rfl
     have hta2 : ∀ w : World, (Instr.typeAssert (.iface 241 (.agg #[.int .i64 a, .int .i64 sz, .string sv])) 232 241 true).run prog w = .ok (.tuple #[.agg #[.int .i64 a, .int .i64 sz, .string sv], .bool true]) w := fun _ => by kernel_rfl
     have hal : Keeps (fun _ => False) wr (wr.alloc (.cells #[.int .i64 a, .int .i64 sz, .string sv] 241)) := (Keeps.refl _ wr).alloc _;have hcall := text_par _ _ p y s rest a sz l htk.1 htk.2 (hpar.apart hal (fun _ _ => id)) hy;rw [hsv] at hcall;have HC := hZ (tok_step (tk := .str a sz l) HLT.out hkr hal hy htk hb1.1 rfl hout hcall);rw [hte];clear hsv hte;clear hpar hkr hy hokr hb1 hb2 hc2 hcall htk hout hal;go_wp2_with fail;refine (HC.out).mono ?_;rintro e w3 ⟨hkt, hout⟩;have hout : (∃ e2 : Nat × Nat, e = failE e2.1 e2.2 ∧ ParDead w3 p ∧ out = .error e2) ∨ (∃ z, e = .returned (.tuple #[]) ∧ PsOk z 0 ∧ ParAt (Since F w w3) w3 p z s rest ∧ z.drain po rest = out) := hout;rcases hout with ⟨e2, he, hdead, hoe⟩ | ⟨z, he, hzz, hpz, hoz⟩
     ·have HOE := hZ hoe;have HKT := hZ hkt;have HD := hZ hdead;clear hoe hkt hdead;unfold failE at he;subst he;go_wp2_with fail;rw [HOE.out];exact ⟨rfl, .inr ⟨_, _, rfl⟩, HKT.out, rfl, HD.out⟩
     ·subst he;cases rest with
      | nil =>
       obtain ⟨lb2, hc2b, hnx⟩ := par_none _ w3 p z s hpz;have HKT := hZ hkt;have HNX := hZ hnx;have HZZ := hZ hzz;have HPZ := hZ hpz;have HOZ := hZ hoz;clear hkt hnx hzz hpz hoz;go_wp2_with fail;refine (HNX.out).mono ?_;rintro e w4 ⟨rfl, rfl⟩;go_wp2_with fail
       go_roundw
       case rel => exact hZ ⟨z, 0, HKT.out, HZZ.out, [], HPZ.out, fun _ h => by simp at h, by simp, .inr ⟨rfl, rfl, rfl, HOZ.out.symm⟩⟩
       case measure => exact measure_none HPZ.out
      | cons t2 rest2 =>
       obtain ⟨lb2, hc2b, hnx⟩ := par_next _ w3 p z s t2 rest2 hpz (by have := HB2.out; simp at this; omega);have HKT := hZ hkt;have HNX := hZ hnx;have HZZ := hZ hzz;have HPZ := hZ hpz;have HOZ := hZ hoz;obtain ⟨T2, u2, ht2⟩ := tok_iface t2;rw [ht2] at HNX;have HT2 := hZ ht2;clear hkt hnx hzz hpz hoz ht2;go_wp2_with fail;refine (HNX.out).mono ?_;rintro e w4 ⟨rfl, hk4, hp4⟩;have HK4 := hZ hk4;have HP4 := hZ hp4;clear hk4 hp4;go_wp2_with fail
       go_roundw
       case rel => exact hZ ⟨z, 0, HKT.out.andThen HK4.out, HZZ.out, rest2, HP4.out.mono (fun k h => h.trans HKT.out.size HK4.out.size) (fun k h => by exact (since_lt HLT.out (HKT.out.andThen HK4.out).size) k h), fun t h => HOKR.out t (List.mem_cons_of_mem _ h), by have := HB2.out; simp at this; omega, .inl ⟨t2, HB1.out.tail, HT2.out.symm, rfl, HOKR.out t2 (List.mem_cons_self ..), HOZ.out⟩⟩
       case measure => exact measure_some HPAR.out HP4.out
   ·clear hpar hkr hy hokr hb2 hc2;have HOUT := hZ hout;clear hout;go_wp2_with fail
    go_end0
    rw [HOUT.out];exact ⟨.inl rfl, HKR.out, rfl, HPAR.out⟩
end Go.Proofs.YtakkmiomhackiaaGreatDoor
