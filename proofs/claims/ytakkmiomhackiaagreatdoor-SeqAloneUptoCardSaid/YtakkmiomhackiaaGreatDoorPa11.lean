/-
  The program, one part of its walk: Lx5, Lx6, Lx8, No1, Lx12. Conditions: none.
-/
import Derived.Test.YtakkmiomhackiaaGreatDoorPa08
import Derived.Test.YtakkmiomhackiaaGreatDoorPa09
import Derived.Test.YtakkmiomhackiaaGreatDoorPa10
import Derived.Test.YtakkmiomhackiaaGreatDoorPa03
import Derived.Laws.IdiomStrings
import Derived.Laws.BytesArg
import Derived.Test.YtakkmiomhackiaaGreatDoorPa02
import Derived.Defers
import Derived.Recover
import Derived.Test.YtakkmiomhackiaaGreatDoorPa00
set_option linter.all false
set_option maxRecDepth 100000
set_option maxHeartbeats 16000000
open Go.Proofs.Tryz
namespace Go.Proofs.YtakkmiomhackiaaGreatDoor
open Go.RowKit
def StepRet (w : World) (b : Nat) (no : Int) (c : Array Value) (e : Ending) (w' : World) : Prop := e = .returned (.int .i64 no) ∧ w'.heap[b]? = some (.cells c 228 (0, 0)) ∧ Keeps (fun k => k = b) w w'
theorem slash_any (w : World) (b : Nat) (v0 v1 v2 v3 v4 v5 v6 v7 v8 v9 va vb vc vd : Value) (ch : UInt8) (h : w.heap[b]? = some (.cells #[v0, v1, v2, v3, v4, v5, v6, v7, v8, v9, va, vb, vc, vd] 228 (0, 0))) :
 Calls prog 223 #[.pointer (some ⟨b, 0, none⟩), .int .u8 ((ch.toNat : Nat) : Int)] w fun e w' => (ch = 92 → StepRet w b 0 #[v0, v1, v2, .func (.func 241) #[] #[], v4, v5, v6, v7, v8, v9, va, vb, vc, vd] e w') ∧ (ch ≠ 92 → e = .returned (.int .i64 93) ∧ w' = w) := by
 obtain ⟨c0, c1, c2, c3, c4, c5, c6, c7, c8, c9, ca, cb, cc, cd, cf⟩ := cells14 h;have H := hZ h;clear h
 by_cases hc : ch = 92
 ·have hv : ((ch.toNat : Nat) : Int) = 92 := by rw [hc]; rfl
  have HC := hZ hc;clear hc;go_enter func223, ntmps223;go_wp2_with fail;go_ret;exact ⟨fun _ => ⟨rfl, set_at H.out _, (Keeps.refl (fun k => k = b) w).setCell (p := ⟨b, 3, none⟩) (.inl rfl) _⟩, fun hne => absurd HC.out hne⟩
 ·obtain ⟨n1, n2, n3⟩ := byte_ne3 (c := ch) (n := 92) hc rfl;have HC := hZ hc;clear hc;go_enter func223, ntmps223;go_wp2_with fail;go_ret;exact ⟨fun he => absurd he HC.out, fun _ => ⟨rfl, rfl⟩⟩
theorem letterU_any (w : World) (b : Nat) (v0 v1 v2 v3 v4 v5 v6 v7 v8 v9 vc vd : Value) (dg cd' : Nat) (ch : UInt8) (h : w.heap[b]? = some (.cells #[v0, v1, v2, v3, v4, v5, v6, v7, v8, v9, .int .i64 dg, .int .i32 cd', vc, vd] 228 (0, 0))) :
 Calls prog 241 #[.pointer (some ⟨b, 0, none⟩), .int .u8 ((ch.toNat : Nat) : Int)] w fun e w' => (ch = 117 → StepRet w b 0 #[v0, v1, v2, .func (.func 188) #[] #[], v4, v5, v6, v7, v8, v9, .int .i64 0, .int .i32 0, vc, vd] e w') ∧ (ch ≠ 117 → e = .returned (.int .i64 93) ∧ w' = w) := by
 obtain ⟨c0, c1, c2, c3, c4, c5, c6, c7, c8, c9, ca, cb, cc, cd, cf⟩ := cells14 h;have H := hZ h;clear h
 by_cases hc : ch = 117
 ·have hv : ((ch.toNat : Nat) : Int) = 117 := by rw [hc]; rfl
  have HC := hZ hc;clear hc;go_enter func241, ntmps241;go_wp2_with fail;go_ret;exact ⟨fun _ => ⟨rfl, set_at (set_at (set_at H.out _) _) _, (((Keeps.refl (fun k => k = b) w).setCell (p := ⟨b, 10, none⟩) (.inl rfl) _).setCell (p := ⟨b, 11, none⟩) (.inl rfl) _).setCell (p := ⟨b, 3, none⟩) (.inl rfl) _⟩, fun hne => absurd HC.out hne⟩
 ·obtain ⟨n1, n2, n3⟩ := byte_ne3 (c := ch) (n := 117) hc rfl;have HC := hZ hc;clear hc;go_enter func241, ntmps241;go_wp2_with fail;go_ret;exact ⟨fun he => absurd he HC.out, fun _ => ⟨rfl, rfl⟩⟩
theorem elemB : Elem 22 5 1 := ⟨underlying22, by
 have h : (prog.info? 5).map (fun i => (i.zero, i.size, i.bytes)) = some (some (.int .u8 0), 1, 1) := by kernel_rfl
 obtain ⟨i, h1, h2, h3, h4⟩ := info_parts h;exact ⟨i, _, h1, h2, h3, h4, rfl⟩⟩
def SaysRet (w : World) (b : Nat) (saysV : Value) (l : List UInt8) (c : Value → Array Value) (e : Ending) (w' : World) : Prop := e = .returned (.int .i64 0) ∧ ∃ g off cap, w'.heap[b]? = some (.cells (c (.slice (some ⟨g, off, none⟩) l.length cap)) 228 (0, 0)) ∧
 Win 5 encB w' (.slice (some ⟨g, off, none⟩) l.length cap) l ∧ (saysV.ownBlock = some g ∨ w.heap.size ≤ g) ∧ Keeps (fun k => k = b ∨ saysV.ownBlock = some k) w w'
theorem escape_said (w : World) (b : Nat) (v0 v1 v2 v3 v4 v5 v6 v7 v8 va vb vc vd saysV : Value) (ch d : UInt8) (l : List UInt8) (h : w.heap[b]? = some (.cells #[v0, v1, v2, v3, v4, v5, v6, v7, v8, saysV, va, vb, vc, vd] 228 (0, 0)))
 (hu : ch ≠ 117) (hs : saidOf ch = some d) (hr : Win 5 encB w saysV l) (hl : l.length ≤ 1073741824) :
 Calls prog 168 #[.pointer (some ⟨b, 0, none⟩), .int .u8 ((ch.toNat : Nat) : Int)] w fun e w' => SaysRet w b saysV (l ++ [d]) (fun v => #[v0, v1, v2, .func (.func 138) #[] #[], v4, v5, v6, v7, v8, v, va, vb, vc, vd]) e w' := by
 obtain ⟨c0, c1, c2, c3, c4, c5, c6, c7, c8, c9, ca, cb, cc, cd, cf⟩ := cells14 h;have HNE := hZ (hr.ne h (by decide));have H := hZ h;have hlt := lt_of_block h;obtain ⟨ta, tc, htv⟩ := hr.shape;have hr2 : Win 5 encB (w.alloc (.cells #[encB d] 5)) saysV l := hr.keeps (F := fun _ => False) ((Keeps.refl _ w).alloc _) (fun _ _ => id);have HR := hZ hr2;have HS := hZ (said_any ch);have hs2 := hs;obtain ⟨n1, n2, n3⟩ := byte_ne3 (c := ch) (n := 117) hu rfl;rw [hs] at HS;clear h hr hr2 hu hs hs2;subst htv;go_enter func168, ntmps168;go_wp2_with fail;refine (HS.out _).mono ?_;rintro e w1 ⟨rfl, rfl⟩
 go_wp2_with (at_builtin; refine append_win elemB rfl _ _ rfl rfl HR.out ⟨w1.heap.size, 0, none⟩ 1 d rfl ?_ rfl ?_ ?_ ?_)
 ·simp
 ·omega
 ·unfold maxLen; omega
 intro g off cap w' hrow hgb0 hgr;have hb' := (hgr.block b (by simp; omega) (fun e => HNE.out e.symm)).trans ((Below.heap_alloc w1 _ _ hlt).trans H.out);have HNG := hZ (hrow.ne hb' (by decide));have hgb : (Value.slice ta l.length tc).ownBlock = some g ∨ w1.heap.size ≤ g := hgb0.elim .inl (fun h => .inr (by have := h.1; first | omega | (simp at this; omega)));have HGB := hZ hgb;have HK := hZ (((Keeps.refl (fun k => k = b ∨ (Value.slice ta l.length tc).ownBlock = some k) w1).alloc (.cells #[encB d] 5)).grown hgr (fun k e => .inl (.inr e)));have HROW := hZ hrow;obtain ⟨d0, d1, d2, d3, d4, d5, d6, d7, d8, d9, da, db, dc, dd, df⟩ := cells14 hb';have HB := hZ hb';clear hb' hrow hgb hgb0 hgr c0 c1 c2 c3 c4 c5 c6 c7 c8 c9 ca cb cc cd cf;go_wp2_with fail;go_ret;refine ⟨rfl, g, off, cap, ?_, ?_, HGB.out, (HK.out.setCell (p := ⟨b, 9, none⟩) (.inl (.inl rfl)) _).setCell (p := ⟨b, 3, none⟩) (.inl (.inl rfl)) _⟩
 ·rw [List.length_append];exact set_at (set_at HB.out _) _
 ·rw [List.length_append];exact HROW.out.keeps (((Keeps.refl (fun k => k = b) w').setCell (p := ⟨b, 9, none⟩) (.inl rfl) _).setCell (p := ⟨b, 3, none⟩) (.inl rfl) _) (fun k e hk => HNG.out (e.trans (congrArg some hk)))
theorem escape_u (w : World) (b : Nat) (v0 v1 v2 v3 v4 v5 v6 v7 v8 v9 vc vd : Value) (dg cd' : Nat) (h : w.heap[b]? = some (.cells #[v0, v1, v2, v3, v4, v5, v6, v7, v8, v9, .int .i64 dg, .int .i32 cd', vc, vd] 228 (0, 0))) :
 Calls prog 168 #[.pointer (some ⟨b, 0, none⟩), .int .u8 117] w fun e w' => StepRet w b 0 #[v0, v1, v2, .func (.func 188) #[] #[], v4, v5, v6, v7, v8, v9, .int .i64 0, .int .i32 0, vc, vd] e w' := by
 obtain ⟨c0, c1, c2, c3, c4, c5, c6, c7, c8, c9, ca, cb, cc, cd, cf⟩ := cells14 h;have H := hZ h;clear h;go_enter func168, ntmps168;go_wp2_with fail;go_ret;exact ⟨rfl, set_at (set_at (set_at H.out _) _) _, (((Keeps.refl (fun k => k = b) w).setCell (p := ⟨b, 10, none⟩) (.inl rfl) _).setCell (p := ⟨b, 11, none⟩) (.inl rfl) _).setCell (p := ⟨b, 3, none⟩) (.inl rfl) _⟩
theorem escape_bad (w : World) (b : Nat) (ch : UInt8) (hu : ch ≠ 117) (hs : saidOf ch = none) :
 Calls prog 168 #[.pointer (some ⟨b, 0, none⟩), .int .u8 ((ch.toNat : Nat) : Int)] w fun e w' => e = .returned (.int .i64 92) ∧ w' = w := by
 have HS := hZ (said_any ch);obtain ⟨n1, n2, n3⟩ := byte_ne3 (c := ch) (n := 117) hu rfl;rw [hs] at HS;clear hu hs;go_enter func168, ntmps168;go_wp2_with fail;refine (HS.out _).mono ?_;rintro e w1 ⟨rfl, rfl⟩;go_wp2_with fail;go_ret;exact ⟨rfl, rfl⟩
def tokEnc : Tok → Value
 | .mark a s => .iface 238 (.agg #[.int .i64 a, .int .i64 1, .int .u8 ((s.toNat : Nat) : Int)])
 | .term a n name => .iface 309 (.agg #[.int .i64 a, .int .i64 n, .string ⟨name.toArray⟩])
 | .num a n b => .iface 271 (.agg #[.int .i64 a, .int .i64 n, .int .u64 b])
 | .str a n t => .iface 241 (.agg #[.int .i64 a, .int .i64 n, .string ⟨t.toArray⟩])
theorem cell_new {w : World} {n : Nat} {v : Value} {T : TypeId} (h : n = w.heap.size) : (w.alloc (.cells #[v] T)).cell? ⟨n, 0, none⟩ = some v := by subst h; rw [cell_at (heap_alloc_new w _)]; rfl
theorem set_size (w : World) (p : Addr) (v : Value) : (w.setCell p v).heap.size = w.heap.size := by simp [World.setCell]
theorem win_string {w : World} {v : Value} {l : List UInt8} (h : Win 5 encB w v l) : (convert 22 9 v).run prog w = .ok (.string ⟨l.toArray⟩) w := by
 rcases h with ⟨rfl, rfl⟩ | ⟨g, off, cap, cur, rfl, hg, hc, ho, hm, hi⟩
 ·exact run_convert_bytes_nil (P := prog) w 22 5 underlying22 underlying5 0 0 9 underlying9
 ·refine run_convert_bytes_back w 22 9 5 ⟨g, off, none⟩ cap l underlying22 underlying5 underlying9 fun j hj => ?_
  have hplain : (⟨g, off, none⟩ : Addr).add j = ⟨g, off + j, none⟩ := by unfold Addr.add; split <;> simp_all
  rw [hplain, cell_at hg];exact hi j l[j] (List.getElem?_eq_getElem hj)
def ToldRet (w : World) (b : Nat) (tokV : Value) (toks : List Value) (t : Value) (c : Value → Array Value) (v : Value) (e : Ending) (w' : World) : Prop := e = .returned v ∧ ∃ g off cap, w'.heap[b]? = some (.cells (c (.slice (some ⟨g, off, none⟩) (toks.length + 1) cap)) 228 (0, 0)) ∧
 Win 232 id w' (.slice (some ⟨g, off, none⟩) (toks.length + 1) cap) (toks ++ [t]) ∧ (tokV.ownBlock = some g ∨ w.heap.size ≤ g) ∧ Keeps (fun k => k = b ∨ tokV.ownBlock = some k) w w'
theorem elemItem : Elem 184 97 16 := ⟨underlying184, by
 have h : (prog.info? 97).map (fun i => (i.zero, i.size, i.bytes)) = some (some .nilIface, 1, 16) := by kernel_rfl
 obtain ⟨i, h1, h2, h3, h4⟩ := info_parts h;exact ⟨i, _, h1, h2, h3, h4, rfl⟩⟩
theorem refuse_no (w : World) (no : Nat) : Calls prog 212 #[.bool true, .int .i64 no] w fun e w' => e = .returned (.tuple #[]) ∧ w' = w := by
 go_enter func212, ntmps212;go_wp2
 go_end0
 exact ⟨rfl, rfl⟩
theorem refuse_yes (w : World) (no : Nat) : Calls prog 212 #[.bool false, .int .i64 no] w fun e w' => e = .panicked [{ v := .iface 29 (.int .i64 no), recovered := false }] ∧ w' = w := by
 go_enter func212, ntmps212;go_wp2;exact ⟨rfl, rfl, rfl⟩
theorem size_fits (w : World) (n by' d : Nat) (h : (⟨n, by', d⟩ : Sz).within = true) : Calls prog 235 #[.agg #[.int .i64 n, .int .i64 by', .int .i64 d]] w fun e w' => e = .returned (.bool true) ∧ Below w.heap.size w w' := by
 have h1 : (n : Int) ≤ 65536 ∧ (by' : Int) ≤ 2097152 ∧ (d : Int) ≤ 512 := by simp [Sz.within] at h; omega
 obtain ⟨h1, h2, h3⟩ := h1;clear h;go_enter func235, ntmps235;go_wp2;go_ret;exact ⟨rfl, (Below.refl _ _).alloc (Nat.le_refl _) _⟩
theorem sized_num (w : World) (b : Nat) : Calls prog 347 #[.float .f64 b] w fun e w' => e = .returned (.agg #[.int .i64 1, .int .i64 0, .int .i64 1]) ∧ Below w.heap.size w w' := by
 go_enter func347, ntmps347;go_wp2;exact bodyPost_ret (v := .agg #[.int .i64 1, .int .i64 0, .int .i64 1]) (by simp [results, results347, go_sem]) rfl ⟨rfl, (Below.refl _ _).alloc (Nat.le_refl _) _⟩
theorem sized_text (w : World) (s : ByteArray) : Calls prog 349 #[.string s] w fun e w' => e = .returned (.agg #[.int .i64 1, .int .i64 s.size, .int .i64 1]) ∧ Below w.heap.size w w' := by
 go_enter func349, ntmps349;go_wp2;exact bodyPost_ret (v := .agg #[.int .i64 1, .int .i64 s.size, .int .i64 1]) (by simp [results, results349, go_sem]) rfl ⟨rfl, (Below.refl _ _).alloc (Nat.le_refl _) _⟩
theorem used_num (w : World) (b : Nat) : Calls prog 213 #[.agg #[.int .i64 3, .bool false, .int .u64 b, .string ⟨#[]⟩, .int .i64 0, .slice none 0 0]] w fun e w' => e = .returned (.bool true) ∧ Below w.heap.size w w' := by
 have hb : (((b : Nat) : Int) == 0) = true ∨ (((b : Nat) : Int) == 0) = false := by cases h : (((b : Nat) : Int) == 0) <;> simp
 rcases hb with hb | hb
 all_goals
  go_enter func213, ntmps213;go_wp2;go_ret;exact ⟨rfl, (Below.refl _ _).alloc (Nat.le_refl _) _⟩
theorem used_text (w : World) (s : ByteArray) : Calls prog 213 #[.agg #[.int .i64 4, .bool false, .int .u64 0, .string s, .int .i64 0, .slice none 0 0]] w fun e w' => e = .returned (.bool true) ∧ Below w.heap.size w w' := by
 go_enter func213, ntmps213;go_wp2
 all_goals
  go_ret;exact ⟨rfl, (Below.refl _ _).alloc (Nat.le_refl _) _⟩
section
def stepNo : St → Nat
 | .outside => 104 | .letter => 141 | .numeral => 139 | .within => 138 | .escape => 168 | .digit => 188 | .slash => 223 | .letterU => 241
def isText : St → Bool
 | .within | .escape | .digit | .slash | .letterU => true
 | _ => false
def WinIn {α : Type} (F : Nat → Prop) (e : Nat) (enc : α → Value) (w : World) (v : Value) (l : List α) : Prop := Win e enc w v l ∧ ∀ k, v.ownBlock = some k → F k
theorem Win.lt {α : Type} {e : Nat} {enc : α → Value} {w : World} {v : Value} {l : List α} (h : Win e enc w v l) {k : Nat} (hk : v.ownBlock = some k) : k < w.heap.size := by
 rcases h with ⟨rfl, _⟩ | ⟨g, off, cap, cur, rfl, hg, _⟩
 ·cases hk
 ·cases hk; exact lt_of_block hg
section
variable {α : Type} {F G : Nat → Prop} {e : Nat} {enc : α → Value} {w w' : World} {v : Value} {l : List α}
theorem WinIn.nil (F : Nat → Prop) (e : Nat) (enc : α → Value) (w : World) : WinIn F e enc w (.slice none 0 0) [] := ⟨.nil _ _ _, fun _ h => by cases h⟩
theorem WinIn.mono (h : WinIn F e enc w v l) (hf : ∀ k, F k → G k) : WinIn G e enc w v l := ⟨h.1, fun k hk => hf k (h.2 k hk)⟩
theorem WinIn.keeps (h : WinIn F e enc w v l) (hk : Keeps G w w') (hg : ∀ k, v.ownBlock = some k → ¬ G k) : WinIn (Since F w w') e enc w' v l := ⟨h.1.keeps hk hg, fun k hk => .inl (h.2 k hk)⟩
end
structure StAt (F : Nat → Prop) (w : World) (x : Lx) (rawV chV saysV : Value) : Prop where
 raw : x.st = .letter ∨ x.st = .numeral → WinIn F 5 encB w rawV x.raw
 text : isText x.st = true → WinIn F 5 encB w saysV x.says ∧ ∃ f pl, chV = .pointer (some ⟨f, 0, none⟩) ∧ Feeds w f pl x.held ∧ F f ∧ pl ≤ x.says.length
def LexAt (F : Nat → Prop) (w : World) (b : Nat) (x : Lx) (dn : Bool) (toks : List Tok) : Prop :=
 F b ∧ (∀ k, F k → k < w.heap.size) ∧ ∃ rawV chV saysV tokV, w.heap[b]? = some (.cells #[.int .i64 x.place, .nilIface, .bool dn, .func (.func (stepNo x.st)) #[] #[], .bool x.isIn, .int .i64 x.start, rawV, .int .i64 x.number, chV, saysV, .int .i64 x.digits, .int .i32 x.code, .int .i32 x.high, tokV] 228 (0, 0)) ∧
  WinIn F 232 id w tokV (toks.map tokEnc) ∧ StAt F w x rawV chV saysV
def LexDead (F : Nat → Prop) (w : World) (b pl st : Nat) (errV : Value) (toks : List Tok) : Prop :=
 F b ∧ (∀ k, F k → k < w.heap.size) ∧ ∃ v2 v3 v4 v6 v7 v8 v9 va vb vc tokV, w.heap[b]? = some (.cells #[.int .i64 pl, errV, v2, v3, v4, .int .i64 st, v6, v7, v8, v9, va, vb, vc, tokV] 228 (0, 0)) ∧ WinIn F 232 id w tokV (toks.map tokEnc)
section
variable {F G : Nat → Prop} {w w' : World} {b : Nat} {x : Lx} {rawV chV saysV : Value} {dn : Bool} {toks : List Tok}
theorem StAt.mono (h : StAt F w x rawV chV saysV) (hf : ∀ k, F k → G k) : StAt G w x rawV chV saysV :=
 ⟨fun hs => (h.raw hs).mono hf, fun hs => by obtain ⟨h1, f, pl, h2, h3, h4, h5⟩ := h.text hs; exact ⟨h1.mono hf, f, pl, h2, h3, hf _ h4, h5⟩⟩
theorem StAt.apart (h : StAt F w x rawV chV saysV) (hk : Keeps G w w') (hd : ∀ k, F k → ¬ G k) : StAt F w' x rawV chV saysV :=
 ⟨fun hs => ⟨(h.raw hs).1.keeps hk fun k e => hd k ((h.raw hs).2 k e), (h.raw hs).2⟩, fun hs => by
  obtain ⟨h1, f, pl, h2, h3, h4, h5⟩ := h.text hs;exact ⟨⟨h1.1.keeps hk fun k e => hd k (h1.2 k e), h1.2⟩, f, pl, h2, h3.keeps hk (hd f h4), h4, h5⟩⟩
theorem LexAt.apart (h : LexAt F w b x dn toks) (hk : Keeps G w w') (hd : ∀ k, F k → ¬ G k) : LexAt F w' b x dn toks := by
 obtain ⟨hF, hlt, rawV, chV, saysV, tokV, hb, hw, hs⟩ := h;exact ⟨hF, fun k hk' => Nat.lt_of_lt_of_le (hlt k hk') hk.size, rawV, chV, saysV, tokV, hk.blk hb (hd b hF), ⟨hw.1.keeps hk fun k e => hd k (hw.2 k e), hw.2⟩, hs.apart hk hd⟩
theorem LexDead.apart {pl st : Nat} {errV : Value} (h : LexDead F w b pl st errV toks) (hk : Keeps G w w') (hd : ∀ k, F k → ¬ G k) : LexDead F w' b pl st errV toks := by
 obtain ⟨hF, hlt, v2, v3, v4, v6, v7, v8, v9, va, vb, vc, tokV, hb, hw⟩ := h;exact ⟨hF, fun k hk' => Nat.lt_of_lt_of_le (hlt k hk') hk.size, v2, v3, v4, v6, v7, v8, v9, va, vb, vc, tokV, hk.blk hb (hd b hF), ⟨hw.1.keeps hk fun k e => hd k (hw.2 k e), hw.2⟩⟩
theorem since_lt (hlt : ∀ k, F k → k < w.heap.size) (hs : w.heap.size ≤ w'.heap.size) : ∀ k, Since F w w' k → k < w'.heap.size := fun k hk => hk.elim (fun h => Nat.lt_of_lt_of_le (hlt k h) hs) (fun h => h.2)
end
end
end Go.Proofs.YtakkmiomhackiaaGreatDoor
