/-
  The program, one part of its walk: Wd1, Wd2, Wd3. Conditions: none.
-/
import Derived.Test.YtakkmiomhackiaaGreatDoorPa01
import Derived.Test.YtakkmiomhackiaaGreatDoorPa02
import Derived.WalkKit
import Derived.WalkSpells
import Derived.WalkLawsBesides
import Derived.Lib.Hide
import Derived.Shelf.Spec.BitsCarry
import Derived.Deep.QuietTactic
import Derived.BigQuiet
import Derived.Test.YtakkmiomhackiaaGreatDoorPa00
set_option linter.all false
set_option maxRecDepth 100000
set_option maxHeartbeats 16000000
open Go.Proofs.Tryz
namespace Go.Proofs.YtakkmiomhackiaaGreatDoor
open Go.RowKit
abbrev encW (x : Nat) : Value := .int .u64 (x : Int)
def Wds (w : World) (v : Value) (l : List Nat) : Prop := Row 0 30 encW w v l
theorem elemW : Elem 379 30 8 := ⟨underlying379, by
 have h : (prog.info? 30).map (fun i => (i.zero, i.size, i.bytes)) = some (some (.int .u64 0), 1, 8) := by kernel_rfl
 obtain ⟨i, h1, h2, h3, h4⟩ := info_parts h;exact ⟨i, _, h1, h2, h3, h4, rfl⟩⟩
theorem elemZW : ElemZ 379 30 8 (encW 0) := ⟨underlying379, by
 have h : (prog.info? 30).map (fun i => (i.zero, i.size, i.bytes)) = some (some (.int .u64 0), 1, 8) := by kernel_rfl
 obtain ⟨i, h1, h2, h3, h4⟩ := info_parts h;exact ⟨i, h1, h2, h3, h4, rfl⟩⟩
theorem Wds.below {w w' : World} {v : Value} {l : List Nat} (h : Wds w v l) (hb : Below w.heap.size w w') : Wds w' v l := Row.below h hb
theorem Wds.alloc {w : World} {v : Value} {l : List Nat} (h : Wds w v l) (o : Obj) : Wds (w.alloc o) v l := Row.alloc h o
theorem Wds.drew {w : World} {v : Value} {l : List Nat} (h : Wds w v l) : Wds w.drew v l := h
theorem Wds.set {w : World} {v : Value} {l : List Nat} (h : Wds w v l) {b : Nat} {c : Array Value} {T : TypeId} (hb : w.heap[b]? = some (.cells c T (0, 0))) (hT : T ≠ 30) (o : Nat) (u : Value) : Wds (w.setCell ⟨b, o, none⟩ u) v l := Row.set h hb hT o u
theorem Wds.nil (w : World) : Wds w (.slice none 0 0) [] := Row.nil 0 30 encW w
theorem Wds.cases {w : World} {v : Value} {l : List Nat} (h : Wds w v l) : (v = .slice none 0 0 ∧ l = []) ∨
 ∃ g cap, v = .slice (some ⟨g, 0, none⟩) l.length cap ∧ g < w.heap.size ∧ l.length ≤ cap ∧ cap ≤ maxLen ∧ ∀ i, i < l.length → w.cell? ⟨g, i, none⟩ = some (.int .u64 (l.getD i 0 : Nat)) := by
 rcases Row.cases h with h | ⟨g, cap, hv, _, hg, hc, hm, _, hcell⟩
 ·exact .inl h
 ·exact .inr ⟨g, cap, hv, hg, hc, hm, fun i hi => hcell i _ (by rw [List.getD, List.getElem?_eq_getElem hi]; rfl)⟩
theorem Wds.new (w : World) (l : List Nat) (hl : l.length ≤ maxLen) : Wds (w.alloc (.cells (l.map encW).toArray 30)) (.slice (some ⟨w.heap.size, 0, none⟩) l.length l.length) l := Row.new 0 30 encW w l (Nat.zero_le _) hl
theorem bits_Add64_ex (x y c : Nat) (hx : x < 18446744073709551616) (hy : y < 18446744073709551616) (hc : c ≤ 1) : ∃ s k : Nat, s + 18446744073709551616 * k = x + y + c ∧ s < 18446744073709551616 ∧ k ≤ 1 ∧
 ∀ w, (callFunc 250 #[.int .u64 x, .int .u64 y, .int .u64 c]).run prog w = .ok (.value (.tuple #[.int .u64 (s : Int), .int .u64 (k : Int)])) w := by
 refine ⟨(x + y + c) % 18446744073709551616, (x + y + c) / 18446744073709551616, by omega, by omega, by omega, fun w => ?_⟩;rw [run_callFunc_extern func250 (by kernel_rfl) (by kernel_rfl) (by kernel_rfl) (e := add64Entry) (by kernel_rfl), run_add64 x y c (by omega) (by omega) (by omega) (by omega)];simp only [Result.andThen];congr 5 <;> omega
theorem bits_Add64_0 (x y : Nat) (hx : x < 18446744073709551616) (hy : y < 18446744073709551616) : ∃ s k : Nat, s + 18446744073709551616 * k = x + y ∧ s < 18446744073709551616 ∧ k ≤ 1 ∧
 ∀ w, (callFunc 250 #[.int .u64 x, .int .u64 y, .int .u64 0]).run prog w = .ok (.value (.tuple #[.int .u64 (s : Int), .int .u64 (k : Int)])) w := by
 obtain ⟨s, k, h1, h2, h3, h4⟩ := bits_Add64_ex x y 0 hx hy (by omega);exact ⟨s, k, by omega, h2, h3, fun w => h4 w⟩
theorem bits_Sub64_ex (x y b : Nat) (hx : x < 18446744073709551616) (hy : y < 18446744073709551616) (hb : b ≤ 1) : ∃ s k : Nat, s + y + b = x + 18446744073709551616 * k ∧ s < 18446744073709551616 ∧ k ≤ 1 ∧
 ∀ w, (callFunc 296 #[.int .u64 x, .int .u64 y, .int .u64 b]).run prog w = .ok (.value (.tuple #[.int .u64 (s : Int), .int .u64 (k : Int)])) w := by
 refine ⟨(x + 18446744073709551616 - y - b) % 18446744073709551616, if x < y + b then 1 else 0, by split <;> omega, by omega, by split <;> omega, fun w => ?_⟩;rw [run_callFunc_extern func296 (by kernel_rfl) (by kernel_rfl) (by kernel_rfl) (e := sub64Entry) (by kernel_rfl), run_sub64 x y b hb];rfl
theorem bits_Mul64_ex (x y : Nat) (hx : x < 18446744073709551616) (hy : y < 18446744073709551616) (w : World) : Calls prog 94 #[.int .u64 x, .int .u64 y] w fun e w' =>
 ∃ h l : Nat, e = .returned (.tuple #[.int .u64 (h : Int), .int .u64 (l : Int)]) ∧ w = w' ∧ l + 18446744073709551616 * h = x * y ∧ l < 18446744073709551616 ∧ h < 18446744073709551615 := by
 refine (Tryz.bits_Mul64 x y hx hy w).mono fun e w' ⟨he, hw⟩ => ⟨x * y / 18446744073709551616, x * y % 18446744073709551616, he, hw.symm, by omega, by omega, ?_⟩
 have h1 : x * y ≤ 18446744073709551615 * 18446744073709551615 := Nat.mul_le_mul (by omega) (by omega);omega
def RetNat (w : World) (n : Nat) (e : Ending) (w' : World) : Prop := ∃ a k c, e = .returned (.agg #[.slice a k c]) ∧ Wds w' (.slice a k c) (Lim.limbs n) ∧ Below w.heap.size w w'
def RetNatE (w : World) (n : Nat) (er : Value) (e : Ending) (w' : World) : Prop := ∃ a k c, e = .returned (.tuple #[.agg #[.slice a k c], er]) ∧ Wds w' (.slice a k c) (Lim.limbs n) ∧ Below w.heap.size w w'
theorem made_base (B : Nat) (v : Value) (l : List Nat) (w : World) (hs : Lim.Small l) (h : Row B 30 encW w v l) : Calls prog 249 #[v] w fun e w' =>
 ∃ a k c, e = .returned (.agg #[.slice a k c]) ∧ Row B 30 encW w' (.slice a k c) (Lim.limbs (Lim.val l)) ∧ Below w.heap.size w w' := by
 rcases Wds.cases (h.base (Nat.zero_le _)) with ⟨rfl, rfl⟩ | ⟨g, cap, rfl, hg, hc, hm, hcell⟩
 ·go_enter func249, ntmps249;go_wp2;refine wp_loop_rounds 1 ?_;rw [rounds_succ];go_wp2;refine bodyPost_ret (v := .agg #[.slice none 0 0]) (by simp [results, results249, go_sem]) rfl ⟨_, _, _, rfl, ?_, ?_⟩
  ·simp only [Lim.val, Lim.limbs_zero]; exact Row.nil _ _ _ _
  ·exact (Below.refl _ _).alloc (Nat.le_refl _) _
 ·have hne : ¬ w.heap.size = g := by omega
  have hlen : l.length ≤ 9223372036854775807 := by unfold maxLen at hm; omega
  go_enter func249, ntmps249;go_wp2
  go_loop [3] (fun n => ∃ k : Nat, k ≤ l.length ∧ n = .int .i64 k ∧ ∀ i, k ≤ i → l.getD i 0 = 0) (fun n => (intOf n).toNat)
  case atStart => exact ⟨l.length, Nat.le_refl _, rfl, fun i hi => by simp [List.getD, List.getElem?_eq_none hi]⟩
  case round =>
   obtain ⟨k, hk, rfl, hz⟩ := hrel;have HZ := hZ hz;clear hz
   have fin : ∀ k', k' ≤ l.length → k' = k → (k = 0 ∨ l.getD (k - 1) 0 ≠ 0) → Row B 30 encW w (.slice (some ⟨g, 0, none⟩) k' cap) (Lim.limbs (Lim.val l)) := by
    intro k' hk' e hl;subst e;rw [Lim.limbs_take hs hk HZ.out hl];exact h.take hk
   have FIN := hZ fin;clear fin
   by_cases hk0 : k = 0
   ·subst hk0;simp only [Int.natCast_zero] at *;go_wp2;refine bodyPost_ret (v := .agg #[.slice (some ⟨g, 0, none⟩) 0 cap]) (by simp [results, results249, go_sem]) rfl ⟨_, _, _, rfl, ?_, ?_⟩
    ·exact (FIN.out 0 (by omega) rfl (by simp)).below ((Below.refl _ _).alloc (Nat.le_refl _) _)
    ·exact (Below.refl _ _).alloc (Nat.le_refl _) _
   ·have hcx : (w.alloc (.cells #[.slice none 0 0] 381)).cell? ⟨g, k - 1, none⟩ = some (.int .u64 (l.getD (k - 1) 0 : Nat)) := by
     rw [World.cell?_alloc_lt _ _ ⟨g, k - 1, none⟩ (by simpa using hg)]; exact hcell _ (by omega)
    generalize hx : l.getD (k - 1) 0 = x at *
    by_cases hx0 : x = 0
    ·subst hx0;go_wp2
     refine ⟨⟨k - 1, by omega, by have : ((k - 1 : Nat) : Int) = (k : Int) - 1 := by omega
                                  rw [this], fun i hi => ?_⟩, by simp [intOf]; omega⟩
     by_cases hi' : i = k - 1
     ·subst hi'; exact hx
     ·exact HZ.out i (by omega)
    ·go_wp2;refine bodyPost_ret (v := .agg #[.slice (some ⟨g, 0, none⟩) k cap]) (by simp [results, results249, go_sem]) rfl ⟨_, _, _, rfl, ?_, ?_⟩
     ·exact (FIN.out k hk rfl (.inr hx0)).below ((Below.refl _ _).alloc (Nat.le_refl _) _)
     ·exact (Below.refl _ _).alloc (Nat.le_refl _) _
theorem made_any (v : Value) (l : List Nat) (w : World) (hs : Lim.Small l) (h : Wds w v l) : Calls prog 249 #[v] w fun e w' =>
 RetNat w (Lim.val l) e w' := made_base 0 v l w hs h
theorem of_any (x : Nat) (w : World) (hx : x < 18446744073709551616) : Calls prog 231 #[.int .u64 x] w fun e w' => RetNat w x e w' := by
 have h1 : Wds ((w.alloc (.cells #[.slice none 0 0] 381)).alloc (.cells #[.int .u64 x] 30)) (.slice (some ⟨w.heap.size + 1, 0, none⟩) 1 1) [x] := by
  have := Wds.new (w.alloc (.cells #[.slice none 0 0] 381)) [x] (by simp [maxLen])
  simpa using this
 have hv : Lim.val [x] = x := by simp [Lim.val]
 have HV := hZ hv;clear hv;go_enter func231, ntmps231;go_wp2_with fail;refine (made_any _ [x] _ (fun y hy => by simp at hy; omega) h1).mono ?_;rintro e w1 ⟨a, k, c, rfl, hw, hb⟩;rw [HV.out] at hw;obtain ⟨hb1, _, hbw, hsz⟩ := after2 hb;have hc1 := cell_of_one hb1;have hf1 := free_of_one hb1;have HW := hZ hw;clear hw;go_wp2;exact bodyPost_ret (v := .agg #[.slice a k c]) (by simp [results, results231, go_sem, hc1]) rfl ⟨a, k, c, rfl, HW.out.set hb1 (by decide) _ _, hbw.setCell (Nat.le_refl _) _⟩
theorem bitLen_eq (x : Nat) (hx : x < 18446744073709551616) : Lib.bitLen x = Lim.bitlen x := by
 have aux : ∀ f x, x < 2 ^ f → Lib.bitLenAux f x = Lim.bitlen x := by
  intro f
  induction f with
  | zero => intro x hx; have : x = 0 := by simpa using hx
            subst this; simp [Lib.bitLenAux, Lim.bitlen]
  | succ f ih =>
   intro x hx;unfold Lib.bitLenAux
   by_cases h : x = 0
   ·subst h; simp [Lim.bitlen]
   ·rw [if_neg h, ih (x / 2) (by rw [Nat.pow_succ] at hx; omega)];refine Nat.le_antisymm ?_ ?_
    ·have : Lim.bitlen (x / 2) < Lim.bitlen x := by
      have hp : 0 < Lim.bitlen x := by rcases Nat.eq_zero_or_pos (Lim.bitlen x) with h0 | h0
                                       ·have := Lim.bitlen_le.1 (Nat.le_of_eq h0); simp at this; omega
                                       ·exact h0
      have : Lim.bitlen (x / 2) ≤ Lim.bitlen x - 1 := Lim.bitlen_le.2 (by
       have h1 := Lim.lt_bitlen (n := x);obtain ⟨m, hm⟩ : ∃ m, Lim.bitlen x = m + 1 := ⟨_, (Nat.succ_pred_eq_of_pos hp).symm⟩;rw [hm, Nat.pow_succ] at h1; rw [hm, Nat.add_sub_cancel]; omega)
      omega
     omega
    ·refine Lim.bitlen_le.2 ?_;have h1 := Lim.lt_bitlen (n := x / 2);rw [Nat.add_comm, Nat.pow_succ]; omega
 exact aux 64 x (by simpa using hx)
theorem len_any (a : Option Addr) (k c : Nat) (n : Nat) (w : World) (h : Wds w (.slice a k c) (Lim.limbs n)) (hl : (Lim.limbs n).length ≤ 4294967296) : Calls prog 252 #[.agg #[.slice a k c]] w fun e w' =>
 e = .returned (.int .i64 (Lim.bitlen n)) ∧ Below w.heap.size w w' := by
 by_cases h0 : n = 0
 ·subst h0;rw [Lim.limbs_zero] at h;rcases h.cases with ⟨he, _⟩ | ⟨g, cap, he, _⟩
  all_goals
   injection he with h1 h2 h3
   subst h1 h2 h3;go_enter func252, ntmps252;go_wp2;go_ret;exact ⟨by simp [Lim.bitlen], (Below.refl _ _).alloc (Nat.le_refl _) _⟩
 ·obtain ⟨hbl, hpos⟩ := Lim.bitlen_limbs h0;rcases h.cases with ⟨_, he⟩ | ⟨g, cap, he, hg, hc, hm, hcell⟩
  ·rw [he] at hpos; simp at hpos
  ·injection he with h1 h2 h3
   subst h1 h2 h3
   have hsm : (Lim.limbs n).getD ((Lim.limbs n).length - 1) 0 < 18446744073709551616 := by
    rw [List.getD, List.getElem?_eq_getElem (by omega)];exact Lim.small_limbs n _ (List.getElem_mem _)
   have hcl : (w.alloc (.cells #[.slice (some ⟨g, 0, none⟩) (Lim.limbs n).length c] 381)).cell? ⟨g, (Lim.limbs n).length - 1, none⟩ = some (.int .u64 ((Lim.limbs n).getD ((Lim.limbs n).length - 1) 0 : Nat)) := by
    rw [World.cell?_alloc_lt _ _ ⟨g, _, none⟩ (by simpa using hg)]; exact hcell _ (by omega)
   clear hcell;have HB := hZ hbl;clear hbl;generalize hL : (Lim.limbs n).length = L at *;have HL := hZ hL;clear hL h;generalize hX : (Lim.limbs n).getD (L - 1) 0 = x at *;have HX := hZ hX;clear hX;have hx0 : (0 : Int) ≤ (x : Int) := by omega
   have hx1 : (x : Int) ≤ 18446744073709551615 := by omega
   go_enter func252, ntmps252;go_wp2
   go_quiet ((go_at_call 273; exact Calls.quiet_of_same (Tryz.bits_Len64 _ _ hx0 hx1)))
   go_wp2;go_ret;refine ⟨?_, below_drewN ((Below.refl _ _).alloc (Nat.le_refl _) _) _⟩;have hb64 : Lib.bitLen x ≤ 64 := Lib.bitLen_le x 64 (Nat.le_refl _) (by simpa using hsm)
   have e : wrap64 (64 * ((L : Int) - 1) + (Lib.bitLen x : Int)) = (Lim.bitlen n : Int) := by
    rw [IntWalk.wrap64_in _ ⟨by omega, by omega⟩, HB.out, ← bitLen_eq x hsm]; omega
   exact congrArg (fun z => Ending.returned (.int .i64 z)) e
def capN (n : Nat) : Nat := if 8192 < Lim.bitlen n then 0 else n
def capE (n : Nat) : Value := if 8192 < Lim.bitlen n then .iface 29 (.int .i64 11) else .nilIface
theorem capN_fit {n : Nat} (h : Lim.bitlen n ≤ 8192) : capN n = n := if_neg (by omega)
theorem capE_fit {n : Nat} (h : Lim.bitlen n ≤ 8192) : capE n = .nilIface := if_neg (by omega)
theorem bounded_any (a : Option Addr) (k c : Nat) (n : Nat) (w : World) (h : Wds w (.slice a k c) (Lim.limbs n)) (hl : (Lim.limbs n).length ≤ 4294967296) : Calls prog 248 #[.agg #[.slice a k c]] w fun e w' =>
 RetNatE w (capN n) (capE n) e w' := by
 unfold capN capE;have h2 : Wds ((w.alloc (.cells #[.slice a k c] 381)).alloc (.cells #[.slice none 0 0] 381)) (.slice a k c) (Lim.limbs n) := h.below (((Below.refl _ _).alloc (Nat.le_refl _) _).alloc (by simp) _)
 by_cases hbig : 8192 < Lim.bitlen n
 all_goals
  simp only [hbig, if_true, if_false];go_enter func248, ntmps248;go_wp2_with fail;refine (len_any a k c n _ h2 hl).mono ?_;rintro e w1 ⟨rfl, hb⟩;obtain ⟨hb1, hb2, hbw, hsz⟩ := after2 hb;have hc1 := cell_of_one hb1;have hc2 := cell_of_one hb2;have hf2 := free_of_one hb2;have hb3 : (8192 : Int) < (Lim.bitlen n : Int) ∨ ¬ (8192 : Int) < (Lim.bitlen n : Int) := by omega
  go_wp2
 ·refine bodyPost_ret (v := .tuple #[.agg #[.slice none 0 0], .iface 29 (.int .i64 11)]) (by simp [results, results248, go_sem, hc2]) rfl ⟨none, 0, 0, rfl, ?_, hbw.setCell (by simp) _⟩;rw [Lim.limbs_zero]; exact Wds.nil _
 ·refine bodyPost_ret (v := .tuple #[.agg #[.slice a k c], .nilIface]) (by simp [results, results248, go_sem, hc2]) rfl ⟨a, k, c, rfl, ?_, hbw.setCell (by simp) _⟩;exact (h.below hbw).set hb2 (by decide) _ _
theorem word_any (a : Option Addr) (k c : Nat) (l : List Nat) (i : Int) (w : World) (h : Wds w (.slice a k c) l) (hi : 0 ≤ i) (hm : i ≤ 4294967296) : Calls prog 278 #[.agg #[.slice a k c], .int .i64 i] w fun e w' =>
 e = .returned (.int .u64 (l.getD i.toNat 0 : Nat)) ∧ Below w.heap.size w w' := by
 obtain ⟨i, rfl⟩ := Int.eq_ofNat_of_zero_le hi;rw [Int.toNat_natCast];rcases h.cases with ⟨he, rfl⟩ | ⟨g, cap, he, hg, hc, hm2, hcell⟩
 ·injection he with h1 h2 h3
  subst h1 h2 h3;go_enter func278, ntmps278;go_wp2;go_ret;exact ⟨by simp, (Below.refl _ _).alloc (Nat.le_refl _) _⟩
 ·injection he with h1 h2 h3
  subst h1 h2 h3;have hlen : l.length ≤ 9223372036854775807 := by unfold maxLen at hm2; omega
  by_cases hlt : i < l.length
  ·have hcl : (w.alloc (.cells #[.slice (some ⟨g, 0, none⟩) l.length c] 381)).cell? ⟨g, i, none⟩ = some (.int .u64 (l.getD i 0 : Nat)) := by
    rw [World.cell?_alloc_lt _ _ ⟨g, _, none⟩ (by simpa using hg)]; exact hcell _ hlt
   clear hcell h;generalize hX : l.getD i 0 = x at *;have HX := hZ hX;clear hX;go_enter func278, ntmps278;go_wp2;go_ret;exact ⟨rfl, (Below.refl _ _).alloc (Nat.le_refl _) _⟩
  ·have hX : l.getD i 0 = 0 := by simp [List.getD, List.getElem?_eq_none (by omega : l.length ≤ i)]
   rw [hX];clear hcell h hX;go_enter func278, ntmps278;go_wp2;go_ret;exact ⟨rfl, (Below.refl _ _).alloc (Nat.le_refl _) _⟩
theorem bit_any (a : Option Addr) (c n : Nat) (i : Int) (w : World) (h : Wds w (.slice a (Lim.limbs n).length c) (Lim.limbs n)) (hi : 0 ≤ i) (hm : i ≤ 4294967296) : Calls prog 257 #[.agg #[.slice a (Lim.limbs n).length c], .int .i64 i] w fun e w' =>
 e = .returned (.bool (n.testBit i.toNat)) ∧ Below w.heap.size w w' := by
 have hq0 : 0 ≤ i / 64 := by omega
 have hq1 : i / 64 ≤ 4294967296 := by omega
 have h2 : Wds (w.alloc (.cells #[.agg #[.slice a (Lim.limbs n).length c]] 381)) (.slice a (Lim.limbs n).length c) (Lim.limbs n) := h.below ((Below.refl _ _).alloc (Nat.le_refl _) _);go_enter func257, ntmps257;go_wp2_with fail;refine (word_any a _ c (Lim.limbs n) (i / 64) _ (h.below ((Below.refl _ _).alloc (Nat.le_refl _) _)) hq0 hq1).mono ?_;rintro e w1 ⟨rfl, hb⟩;obtain ⟨_, hbw, _⟩ := after1 hb;rw [Lim.limbs_getD]
 have hbt : ((n / 18446744073709551616 ^ (i / 64).toNat % 18446744073709551616 / 2 ^ (i % 64).toNat) % 2 == 1) = n.testBit i.toNat := by
  have e : ∀ y m : Nat, (y / 2 ^ m % 2 == 1) = y.testBit m := fun y m => by rw [Nat.testBit_eq_decide_div_mod_eq]; rfl
  rw [e, show (18446744073709551616 : Nat) = 2 ^ 64 by decide, ← Nat.pow_mul, Nat.testBit_mod_two_pow, Nat.testBit_div_two_pow, decide_eq_true (by omega), Bool.true_and];congr 1;omega
 have hxl : n / 18446744073709551616 ^ (i / 64).toNat % 18446744073709551616 < 18446744073709551616 := Nat.mod_lt _ (by decide);have HBT := hZ hbt;clear hbt h h2;generalize n / 18446744073709551616 ^ (i / 64).toNat % 18446744073709551616 = x at *;go_wp2;go_ret;rw [← HBT.out];refine ⟨congrArg (fun b => Ending.returned (.bool b)) (a₁ := (bits BinOp.and IntKind.u64 ((x : Int) / 2 ^ (i % 64).toNat) 1 == 1)) ?_, hbw⟩;have hle : x / 2 ^ (i % 64).toNat ≤ x := Nat.div_le_self _ _
 have e : bits BinOp.and IntKind.u64 ((x : Int) / 2 ^ (i % 64).toNat) 1 = ((x / 2 ^ (i % 64).toNat % 2 : Nat) : Int) := by
  have e2 : (x : Int) / 2 ^ (i % 64).toNat = ((x / 2 ^ (i % 64).toNat : Nat) : Int) := by simp
  rw [e2];generalize x / 2 ^ (i % 64).toNat = y at hle ⊢;rw [and_one_u64 _ (by omega) (by omega)]; omega
 rw [e, Bool.eq_iff_iff];simp only [beq_iff_eq];generalize x / 2 ^ (i % 64).toNat = y;omega
theorem val_take_succ {l : List Nat} {k : Nat} (hk : k < l.length) : Lim.val (l.take (k + 1)) = Lim.val (l.take k) + 18446744073709551616 ^ k * l.getD k 0 := by
 rw [List.take_succ_eq_append_getElem hk, Lim.val_append, List.length_take, Nat.min_eq_left (by omega)];simp [Lim.val, List.getD, List.getElem?_eq_getElem hk]
theorem times_step {v P mo x d lo hi s cy t more : Nat} (h : v + P * mo = t * d + more) (h1 : lo + 18446744073709551616 * hi = x * d) (h2 : s + 18446744073709551616 * cy = lo + mo) :
 v + P * s + P * 18446744073709551616 * (hi + cy) = (t + P * x) * d + more := by
 have e : s + 18446744073709551616 * (hi + cy) = mo + x * d := by omega
 rw [Nat.mul_assoc P, Nat.add_assoc, ← Nat.mul_add, e, Nat.mul_add, Nat.add_mul, Nat.mul_assoc]; omega
theorem times_any (v : Value) (l : List Nat) (d more : Nat) (w : World) (h : Wds w v l) (hs : Lim.Small l) (hd : d < 18446744073709551616) (hmo : more < 18446744073709551616) (hl : l.length ≤ 4294967296) :
 Calls prog 247 #[v, .int .u64 d, .int .u64 more] w fun e w' => ∃ a c r, e = .returned (.slice a r.length c) ∧ Wds w' (.slice a r.length c) r ∧ Lim.Small r ∧ Lim.val r = Lim.val l * d + more ∧ r.length = l.length + 1 ∧ Below w.heap.size w w' := by
 obtain ⟨va, vc, rfl⟩ := Row.shape h;obtain ⟨i0, z0, hi0, hz0, hsz0, hby0, hzs0⟩ := elemW.2;have hby : i0.bytes * (l.length + 1) ≤ 281474976710656 := by rw [hby0]; omega
 go_enter func247, ntmps247
 go_wp2_with (at_make; refine wpList_make_own _ rfl _ _ 379 rfl w.heap.size 30 i0 z0 1 underlying379 hi0 hz0 hsz0 _ _ _ (l.length + 1) rfl rfl ?c1 hby ?c2 (Nat.le_refl _) ?_)
 case c1 => omega
 case c2 => unfold maxLen; omega
 intro w1 hown hgrow;go_wp2_with fail
 go_loopw [7, 19, 2, 9, 10, 11, 12] (fun o i m _ _ _ _ wr => ∃ (k mo : Nat) (r : List Nat), k ≤ l.length ∧ i = .int .i64 k ∧ m = .int .u64 mo ∧ mo < 18446744073709551616 ∧ Row w.heap.size 30 encW wr o r ∧ Below w.heap.size w wr ∧ r.length = k ∧ Lim.Small r ∧
  Lim.val r + 18446744073709551616 ^ k * mo = Lim.val (l.take k) * d + more) (fun _ i _ _ _ _ _ _ => l.length - (intOf i).toNat)
 case atStart => exact ⟨0, more, [], Nat.zero_le _, rfl, rfl, hmo, hown, (Below.refl _ _).grown hgrow (Nat.le_refl _) (fun k e => by cases e), rfl, (fun x hx => by cases hx), by simp [Lim.val]⟩
 case round =>
  obtain ⟨k, mo, r, hk, rfl, rfl, hmo', hrow, hbel, hr, hsm, hval⟩ := hrel;have HV := hZ hval;clear hval;have HR := hZ hr;clear hr;clear hown hgrow
  by_cases hlt : k < l.length
  ·rcases Wds.cases h with ⟨_, hn⟩ | ⟨g, cap, he, hg, _, _, hcell⟩
   ·subst hn; simp at hlt
   ·injection he with h1 h2 h3
    subst h1 h3;have hx : l.getD k 0 < 18446744073709551616 := hs _ (by rw [List.getD, List.getElem?_eq_getElem hlt]; exact List.getElem_mem _);have hcl : wr.cell? ⟨g, k, none⟩ = some (.int .u64 (l.getD k 0 : Nat)) := (hbel.cell (by simpa using hg)).trans (hcell k hlt);clear hcell;have ht := val_take_succ hlt;generalize hX : l.getD k 0 = x at *;have HT := hZ ht;have HX := hZ hX;clear ht hX h2;go_wp2_with fail;refine (bits_Mul64_ex x d hx hd _).mono ?_;rintro e w' ⟨hi, lo, rfl, rfl, hmul, hlo, hhi⟩;obtain ⟨s, cy, hadd, hs2, hcy, hrun⟩ := bits_Add64_0 lo mo hlo hmo';have HM := hZ hmul;have HA := hZ hadd;clear hmul hadd;have hb2 : Below w.heap.size w (wr.alloc (.cells #[.int .u64 s] 30)) := hbel.alloc hbel.size _
    go_wp2_with (at_builtin; refine append_one elemW rfl _ _ rfl rfl (hrow.alloc _) ⟨wr.heap.size, 0, none⟩ 1 s rfl ?a1 rfl ?a2 ?a3 ?a4 ?_)
    case a1 => simp
    case a2 => have := HR.out; omega
    case a3 => have := HR.out; unfold maxLen; omega
    case a4 => exact hb2.size
    intro b cap w2 hrow2 hgrow2;have hb3 : Below w.heap.size w w2 := hb2.grown hgrow2 hb2.size (fun k hk => (hrow.lt k hk).1);have HR2 := hZ hrow2;clear hrow2 hgrow2 hrow;go_wp2
    go_roundw
    case rel =>
     refine ⟨k + 1, hi + cy, r ++ [s], by omega, by go_num, by go_num, by omega, HR2.out, hb3, by simp [HR.out], Lim.small_append.2 ⟨hsm, fun y hy => by simp at hy; omega⟩, ?_⟩;rw [HT.out, Lim.val_append, HR.out, Nat.pow_succ];simp only [Lim.val, Nat.mul_zero, Nat.add_zero];exact times_step HV.out HM.out HA.out
    case measure => simp [intOf]; omega
  ·have hkl : k = l.length := by omega
   have hfin : Lim.val (r ++ [mo]) = Lim.val l * d + more := by
    have := HV.out;rw [hkl, List.take_length] at this;rw [Lim.val_append, HR.out, hkl]
    simpa [Lim.val] using this
   have HF := hZ hfin;have HK := hZ hkl;clear hfin hkl;have hb2 : Below w.heap.size w (wr.alloc (.cells #[.int .u64 mo] 30)) := hbel.alloc hbel.size _
   go_wp2_with (at_builtin; refine append_one elemW rfl _ _ rfl rfl (hrow.alloc _) ⟨wr.heap.size, 0, none⟩ 1 mo rfl ?b1 rfl ?b2 ?b3 ?b4 ?_)
   case b1 => simp
   case b2 => have := HR.out; omega
   case b3 => have := HR.out; unfold maxLen; omega
   case b4 => exact hb2.size
   intro b cap w2 hrow2 hgrow2;have hb3 : Below w.heap.size w w2 := hb2.grown hgrow2 hb2.size (fun k hk => (hrow.lt k hk).1);have hl2 : (r ++ [mo]).length = l.length + 1 := by simp [HR.out, HK.out]
   have HR2 := hZ hrow2;have HL2 := hZ hl2;clear hrow2 hgrow2 hrow hl2;go_wp2;go_ret;have e : r.length + 1 = (r ++ [mo]).length := by simp
   refine ⟨some ⟨b, 0, none⟩, cap, r ++ [mo], ?_, ?_, Lim.small_append.2 ⟨hsm, fun y hy => by simp at hy; omega⟩, HF.out, HL2.out, hb3⟩
   ·rw [← e]; rfl
   ·rw [← e]; exact HR2.out.base (Nat.zero_le _)
theorem timesN_any (a : Option Addr) (k c n d : Nat) (w : World) (h : Wds w (.slice a k c) (Lim.limbs n)) (hd : d < 18446744073709551616) (hl : (Lim.limbs n).length ≤ 4294967295) :
 Calls prog 272 #[.agg #[.slice a k c], .int .u64 d] w fun e w' =>
  RetNatE w (capN (n * d)) (capE (n * d)) e w' := by
 have h2 : Wds ((w.alloc (.cells #[.slice a k c] 381)).alloc (.cells #[.slice none 0 0] 381)) (.slice a k c) (Lim.limbs n) := h.below (((Below.refl _ _).alloc (Nat.le_refl _) _).alloc (by simp) _);go_enter func272, ntmps272;go_wp2_with fail;refine (times_any _ (Lim.limbs n) d 0 _ h2 (Lim.small_limbs n) hd (by decide) (by omega)).mono ?_;rintro e w1 ⟨a1, c1, r, rfl, hr, hsm, hval, hlen, hb⟩;obtain ⟨hb1, hb2, hbw, hsz⟩ := after2 hb;rw [Lim.val_limbs, Nat.add_zero] at hval;have HV := hZ hval;have HL := hZ hlen;clear hval hlen;go_wp2_with fail;refine (made_any _ r _ hsm hr).mono ?_;rintro e w2 ⟨a2, k2, c2, rfl, hm, hbb⟩;rw [HV.out] at hm
 have hshort : (Lim.limbs (n * d)).length ≤ 4294967296 := by
  have h5 := Lim.val_lt hsm;rw [HV.out] at h5;have := Lim.limbs_length_le h5;have := HL.out;omega
 go_wp2_with fail;refine (bounded_any a2 k2 c2 (n * d) _ hm hshort).mono ?_;rintro e w3 ⟨a3, k3, c3, rfl, hfin, hb3⟩;have hB := keep (keep hb2 hbb) hb3;have hc2 := cell_of_one hB;have hf2 := free_of_one hB;have hbf := chain (chain hbw hbb) hb3;have HF := hZ hfin;clear hfin hm hr h2;go_wp2;exact bodyPost_ret (v := .tuple #[.agg #[.slice a3 k3 c3], capE (n * d)]) (by simp [results, results272, go_sem, hc2]) rfl ⟨a3, k3, c3, rfl, HF.out.set hB (by decide) _ _, hbf.setCell (by simp) _⟩
theorem power_any (b n : Nat) (w : World) (hb1 : 2 ≤ b) (hb2 : b < 18446744073709551616) (hn : n ≤ 8192) (hfit : Lim.bitlen (b ^ n) ≤ 8192) :
 Calls prog 251 #[.int .u64 b, .int .i64 n] w fun e w' => RetNatE w (b ^ n) .nilIface e w' := by
 have H1 := of_any 1;have HH1 := hZ H1;clear H1;rcases Nat.eq_zero_or_pos n with rfl | hpos
 ·simp only [Int.natCast_zero];go_enter func251, ntmps251;go_wp2_with fail;refine (HH1.out _ (by decide)).mono ?_;rintro e w1 ⟨a, k, c, rfl, hw, hb⟩;obtain ⟨hB, hbw, hsz⟩ := after1 hb;have hc2 := cell_of_one hB;have hf2 := free_of_one hB;have HW := hZ hw;clear hw;go_wp2;exact bodyPost_ret (v := .tuple #[.agg #[.slice a k c], .nilIface]) (by simp [results, results251, go_sem, hc2]) rfl ⟨a, k, c, rfl, HW.out.set hB (by decide) _ _, hbw.setCell (by simp) _⟩
 ·have hn0 : ((n : Int) == 0) = false := by simp; omega
  have hlt2 : ¬ (b : Int) < 2 := by omega
  go_enter func251, ntmps251;go_wp2_with fail;refine (HH1.out _ (by decide)).mono ?_;rintro e w1 ⟨a, k, c, rfl, hw, hb⟩;obtain ⟨hB, hbw, hsz⟩ := after1 hb;have hc2 := cell_of_one hB;have hf2 := free_of_one hB;have HW := hZ hw;clear hw;have hP : w.heap.size ≠ w1.heap.size := by omega
  have hw6 : (w1.alloc (.cells #[.slice a k c] 381)).heap[w1.heap.size]? = some (.cells #[.slice a k c] 381 (0, 0)) := heap_alloc_new w1 _;have hw4 : (w1.alloc (.cells #[.slice a k c] 381)).heap[w.heap.size]? = some (.cells #[.slice none 0 0] 381 (0, 0)) := (Below.heap_alloc w1 _ _ (by omega)).trans hB;have hcap : ∀ j, j ≤ n → Lim.bitlen (b ^ j) ≤ 8192 := fun j hj => Nat.le_trans (Lim.bitlen_mono (Nat.pow_le_pow_right (by omega) hj)) hfit
  have HC := hZ hcap;have HFIT := hZ hfit;have H6 := hZ hw6;have H4 := hZ hw4;have HB1 := hZ hB;have HP := hZ hP;clear hcap hfit hw6 hw4 hB hP hc2 hf2;go_wp2_with fail
  go_loopw [30, 7, 8] (fun i _ _ wr => ∃ (j : Nat) (a : Option Addr) (k c : Nat), j ≤ n ∧ i = .int .i64 j ∧ wr.heap[w1.heap.size]? = some (.cells #[.slice a k c] 381 (0, 0)) ∧ wr.heap[w.heap.size]? = some (.cells #[.slice none 0 0] 381 (0, 0)) ∧
   Wds wr (.slice a k c) (Lim.limbs (b ^ j)) ∧ Below w.heap.size w wr) (fun i _ _ _ => n - (intOf i).toNat)
  case atStart => exact ⟨0, a, k, c, by omega, rfl, H6.out, H4.out, HW.out.below ((Below.refl _ _).alloc (Nat.le_refl _) _), hbw.alloc (by omega) _⟩
  case round =>
   obtain ⟨j, a', k', c', hj, rfl, h6, h4, hwj, hbel⟩ := hrel;have hc6 := cell_of_one h6;have hf6 := free_of_one h6;have hc4 := cell_of_one h4;have hf4 := free_of_one h4
   by_cases hlt : j < n
   ·go_wp2_with fail;refine (timesN_any a' k' c' (b ^ j) b _ hwj hb2 (Nat.le_trans (Lim.short (k := 128) (HC.out j (by omega))) (by decide))).mono ?_;rintro e w2 ⟨a2, k2, c2, rfl, hw2, hb22⟩;have e1 : b ^ j * b = b ^ (j + 1) := (Nat.pow_succ b j).symm;rw [e1, capN_fit (HC.out (j + 1) (by omega))] at hw2;rw [e1, capE_fit (HC.out (j + 1) (by omega))];have g6 := keep h6 hb22;have g4 := keep h4 hb22;have gb := chain hbel hb22;have HW2 := hZ hw2;have hc6 := cell_of_one g6;have hf6 := free_of_one g6;have hlt6 : w1.heap.size < w2.heap.size := lt_of_block g6;have hlt4 : w.heap.size < w2.heap.size := lt_of_block g4;clear hw2 e1 hwj hbel;have G6 := hZ g6;have G4 := hZ g4;clear g6 g4 h6 h4;go_wp2_with fail
    go_roundw
    case rel =>
     exact ⟨j + 1, a2, k2, c2, by omega, by go_num, (Below.heap_alloc _ _ _ (by simpa using hlt6)).trans (set_at G6.out _), (Below.heap_alloc _ _ _ (by simpa using hlt4)).trans ((set_else _ HP.out).trans G4.out),
      (HW2.out.set G6.out (by decide) _ _).alloc _, (gb.setCell (by simp; omega) _).alloc (by simp; omega) _⟩
    case measure => simp [intOf]; omega
   ·have e : j = n := by omega
    have HE := hZ e;have HWJ := hZ hwj;clear e hwj;go_wp2_with fail;rw [HE.out] at HWJ;exact bodyPost_ret (v := .tuple #[.agg #[.slice a' k' c'], .nilIface]) (by simp [results, results251, go_sem, hc4]) rfl ⟨a', k', c', rfl, HWJ.out.set h4 (by decide) _ _, hbel.setCell (by simp) _⟩
end Go.Proofs.YtakkmiomhackiaaGreatDoor
