/-
  Several texts in one, each under its own head. Conditions: none.
-/
import Derived.Test.YtakkmiomhackiaaGreatDoorLa02
import Derived.WalkKit
import Derived.WalkSpells
import Derived.WalkLawsBesides
import Derived.Lib.Hide
import Derived.Shelf.Spec.BitsCarry
import Derived.Deep.QuietTactic
import Derived.BigQuiet
import Derived.Deep.RegionHeld3
set_option linter.all false

/-
  Package wide, first part: words, sums with carry, rows of words. Contracts of made, Of, Len, bounded, word, Bit, Word. Conditions: rows of fewer than 2^32 words.
-/
namespace Go.Proofs.YtakkmiomhackiaaGreatDoor
open Go.RowKit
set_option maxRecDepth 100000

abbrev encW (x : Nat) : Value := .int .u64 (x : Int)
/-- A slice of words that holds l. -/
def Wds (w : World) (v : Value) (l : List Nat) : Prop := Row 0 30 encW w v l
theorem elemW : Elem 379 30 8 := ⟨Tryz.underlying379, by
  have h : (Tryz.prog.info? 30).map (fun i => (i.zero, i.size, i.bytes)) = some (some (.int .u64 0), 1, 8) := by kernel_rfl
  obtain ⟨i, h1, h2, h3, h4⟩ := info_parts h
  exact ⟨i, _, h1, h2, h3, h4, rfl⟩⟩
theorem elemZW : ElemZ 379 30 8 (encW 0) := ⟨Tryz.underlying379, by
  have h : (Tryz.prog.info? 30).map (fun i => (i.zero, i.size, i.bytes)) = some (some (.int .u64 0), 1, 8) := by kernel_rfl
  obtain ⟨i, h1, h2, h3, h4⟩ := info_parts h
  exact ⟨i, h1, h2, h3, h4, rfl⟩⟩
theorem Wds.below {w w' : World} {v : Value} {l : List Nat} (h : Wds w v l) (hb : Below w.heap.size w w') : Wds w' v l := Row.below h hb
theorem Wds.alloc {w : World} {v : Value} {l : List Nat} (h : Wds w v l) (o : Obj) : Wds (w.alloc o) v l := Row.alloc h o
theorem Wds.drew {w : World} {v : Value} {l : List Nat} (h : Wds w v l) : Wds w.drew v l := h
theorem Wds.set {w : World} {v : Value} {l : List Nat} (h : Wds w v l) {b : Nat} {c : Array Value} {T : TypeId} (hb : w.heap[b]? = some (.cells c T (0, 0))) (hT : T ≠ 30) (o : Nat) (u : Value) : Wds (w.setCell ⟨b, o, none⟩ u) v l := Row.set h hb hT o u
theorem Wds.nil (w : World) : Wds w (.slice none 0 0) [] := Row.nil 0 30 encW w
theorem Wds.cases {w : World} {v : Value} {l : List Nat} (h : Wds w v l) : (v = .slice none 0 0 ∧ l = []) ∨
    ∃ g cap, v = .slice (some ⟨g, 0, none⟩) l.length cap ∧ g < w.heap.size ∧ l.length ≤ cap ∧ cap ≤ maxLen ∧ ∀ i, i < l.length → w.cell? ⟨g, i, none⟩ = some (.int .u64 (l.getD i 0 : Nat)) := by
  rcases Row.cases h with h | ⟨g, cap, hv, _, hg, hc, hm, _, hcell⟩
  · exact .inl h
  · exact .inr ⟨g, cap, hv, hg, hc, hm, fun i hi => hcell i _ (by rw [List.getD, List.getElem?_eq_getElem hi]; rfl)⟩
theorem Wds.take {w : World} {g n cap : Nat} {l : List Nat} (h : Wds w (.slice (some ⟨g, 0, none⟩) n cap) l) {k : Nat} (hk : k ≤ l.length) : Wds w (.slice (some ⟨g, 0, none⟩) k cap) (l.take k) := Row.take h hk
theorem Wds.new (w : World) (l : List Nat) (hl : l.length ≤ maxLen) : Wds (w.alloc (.cells (l.map encW).toArray 30)) (.slice (some ⟨w.heap.size, 0, none⟩) l.length l.length) l := Row.new 0 30 encW w l (Nat.zero_le _) hl

/-- A bound that all rows of words keep here. -/
theorem bits_Add64_ex (x y c : Nat) (hx : x < 18446744073709551616) (hy : y < 18446744073709551616) (hc : c ≤ 1) : ∃ s k : Nat, s + 18446744073709551616 * k = x + y + c ∧ s < 18446744073709551616 ∧ k ≤ 1 ∧
    ∀ w, (callFunc 250 #[.int .u64 x, .int .u64 y, .int .u64 c]).run Tryz.prog w = .ok (.value (.tuple #[.int .u64 (s : Int), .int .u64 (k : Int)])) w := by
  refine ⟨(x + y + c) % 18446744073709551616, (x + y + c) / 18446744073709551616, by omega, by omega, by omega, fun w => ?_⟩
  rw [run_callFunc_extern Tryz.func250 (by kernel_rfl) (by kernel_rfl) (by kernel_rfl) (e := add64Entry) (by kernel_rfl), run_add64 x y c (by omega) (by omega) (by omega) (by omega)]
  simp only [Result.andThen]
  congr 5 <;> omega
theorem bits_Add64_0 (x y : Nat) (hx : x < 18446744073709551616) (hy : y < 18446744073709551616) : ∃ s k : Nat, s + 18446744073709551616 * k = x + y ∧ s < 18446744073709551616 ∧ k ≤ 1 ∧
    ∀ w, (callFunc 250 #[.int .u64 x, .int .u64 y, .int .u64 0]).run Tryz.prog w = .ok (.value (.tuple #[.int .u64 (s : Int), .int .u64 (k : Int)])) w := by
  obtain ⟨s, k, h1, h2, h3, h4⟩ := bits_Add64_ex x y 0 hx hy (by omega)
  exact ⟨s, k, by omega, h2, h3, fun w => h4 w⟩
theorem bits_Sub64_ex (x y b : Nat) (hx : x < 18446744073709551616) (hy : y < 18446744073709551616) (hb : b ≤ 1) : ∃ s k : Nat, s + y + b = x + 18446744073709551616 * k ∧ s < 18446744073709551616 ∧ k ≤ 1 ∧
    ∀ w, (callFunc 296 #[.int .u64 x, .int .u64 y, .int .u64 b]).run Tryz.prog w = .ok (.value (.tuple #[.int .u64 (s : Int), .int .u64 (k : Int)])) w := by
  refine ⟨(x + 18446744073709551616 - y - b) % 18446744073709551616, if x < y + b then 1 else 0, by split <;> omega, by omega, by split <;> omega, fun w => ?_⟩
  rw [run_callFunc_extern Tryz.func296 (by kernel_rfl) (by kernel_rfl) (by kernel_rfl) (e := sub64Entry) (by kernel_rfl), run_sub64 x y b hb]
  rfl
theorem bits_Mul64_ex (x y : Nat) (hx : x < 18446744073709551616) (hy : y < 18446744073709551616) (w : World) : Calls Tryz.prog 94 #[.int .u64 x, .int .u64 y] w fun e w' =>
    ∃ h l : Nat, e = .returned (.tuple #[.int .u64 (h : Int), .int .u64 (l : Int)]) ∧ w = w' ∧ l + 18446744073709551616 * h = x * y ∧ l < 18446744073709551616 ∧ h < 18446744073709551615 := by
  refine (Tryz.bits_Mul64 x y hx hy w).mono fun e w' ⟨he, hw⟩ => ⟨x * y / 18446744073709551616, x * y % 18446744073709551616, he, hw.symm, by omega, by omega, ?_⟩
  have h1 : x * y ≤ 18446744073709551615 * 18446744073709551615 := Nat.mul_le_mul (by omega) (by omega)
  omega

theorem Wds.shape {w : World} {v : Value} {l : List Nat} (h : Wds w v l) : ∃ a n c, v = .slice a n c := by
  rcases h.cases with ⟨rfl, _⟩ | ⟨g, cap, rfl, _⟩ <;> exact ⟨_, _, _, rfl⟩
/-- It hands back a number; what lay before lies as it lay. -/
def RetNat (w : World) (n : Nat) (e : Ending) (w' : World) : Prop := ∃ a k c, e = .returned (.agg #[.slice a k c]) ∧ Wds w' (.slice a k c) (Lim.limbs n) ∧ Below w.heap.size w w'
/-- A number, and an error. -/
def RetNatE (w : World) (n : Nat) (er : Value) (e : Ending) (w' : World) : Prop := ∃ a k c, e = .returned (.tuple #[.agg #[.slice a k c], er]) ∧ Wds w' (.slice a k c) (Lim.limbs n) ∧ Below w.heap.size w w'

/-! ### made -/
theorem alloc_cell {w : World} {v : Value} {T : TypeId} : (w.alloc (.cells #[v] T)).cell? ⟨w.heap.size, 0, none⟩ = some v := by simp
theorem made_base (B : Nat) (v : Value) (l : List Nat) (w : World) (hs : Lim.Small l) (h : Row B 30 encW w v l) : Calls Tryz.prog 249 #[v] w fun e w' =>
    ∃ a k c, e = .returned (.agg #[.slice a k c]) ∧ Row B 30 encW w' (.slice a k c) (Lim.limbs (Lim.val l)) ∧ Below w.heap.size w w' := by
  rcases Wds.cases (h.base (Nat.zero_le _)) with ⟨rfl, rfl⟩ | ⟨g, cap, rfl, hg, hc, hm, hcell⟩
  · go_enter Tryz.func249, Tryz.ntmps249
    go_wp2
    refine wp_loop_rounds 1 ?_
    rw [rounds_succ]
    go_wp2
    refine bodyPost_ret (v := .agg #[.slice none 0 0]) (by simp [results, Tryz.results249, go_sem]) rfl ⟨_, _, _, rfl, ?_, ?_⟩
    · simp only [Lim.val, Lim.limbs_zero]; exact Row.nil _ _ _ _
    · exact (Below.refl _ _).alloc (Nat.le_refl _) _
  · have hne : ¬ w.heap.size = g := by omega
    have hlen : l.length ≤ 9223372036854775807 := by unfold maxLen at hm; omega
    go_enter Tryz.func249, Tryz.ntmps249
    go_wp2
    go_loop [3] (fun n => ∃ k : Nat, k ≤ l.length ∧ n = .int .i64 k ∧ ∀ i, k ≤ i → l.getD i 0 = 0) (fun n => (intOf n).toNat)
    case atStart => exact ⟨l.length, Nat.le_refl _, rfl, fun i hi => by simp [List.getD, List.getElem?_eq_none hi]⟩
    case round =>
      obtain ⟨k, hk, rfl, hz⟩ := hrel
      have HZ := Lib.hid hz
      clear hz
      have fin : ∀ k', k' ≤ l.length → k' = k → (k = 0 ∨ l.getD (k - 1) 0 ≠ 0) → Row B 30 encW w (.slice (some ⟨g, 0, none⟩) k' cap) (Lim.limbs (Lim.val l)) := by
        intro k' hk' e hl
        subst e
        rw [Lim.limbs_take hs hk HZ.out hl]
        exact h.take hk
      have FIN := Lib.hid fin
      clear fin
      by_cases hk0 : k = 0
      · subst hk0
        simp only [Int.natCast_zero] at *
        go_wp2
        refine bodyPost_ret (v := .agg #[.slice (some ⟨g, 0, none⟩) 0 cap]) (by simp [results, Tryz.results249, go_sem]) rfl ⟨_, _, _, rfl, ?_, ?_⟩
        · exact (FIN.out 0 (by omega) rfl (by simp)).below ((Below.refl _ _).alloc (Nat.le_refl _) _)
        · exact (Below.refl _ _).alloc (Nat.le_refl _) _
      · have hcx : (w.alloc (.cells #[.slice none 0 0] 381)).cell? ⟨g, k - 1, none⟩ = some (.int .u64 (l.getD (k - 1) 0 : Nat)) := by
          rw [World.cell?_alloc_lt _ _ ⟨g, k - 1, none⟩ (by simpa using hg)]; exact hcell _ (by omega)
        generalize hx : l.getD (k - 1) 0 = x at *
        by_cases hx0 : x = 0
        · subst hx0
          go_wp2
          refine ⟨⟨k - 1, by omega, by have : ((k - 1 : Nat) : Int) = (k : Int) - 1 := by omega
                                       rw [this], fun i hi => ?_⟩, by simp [intOf]; omega⟩
          by_cases hi' : i = k - 1
          · subst hi'; exact hx
          · exact HZ.out i (by omega)
        · go_wp2
          refine bodyPost_ret (v := .agg #[.slice (some ⟨g, 0, none⟩) k cap]) (by simp [results, Tryz.results249, go_sem]) rfl ⟨_, _, _, rfl, ?_, ?_⟩
          · exact (FIN.out k hk rfl (.inr hx0)).below ((Below.refl _ _).alloc (Nat.le_refl _) _)
          · exact (Below.refl _ _).alloc (Nat.le_refl _) _

theorem made_any (v : Value) (l : List Nat) (w : World) (hs : Lim.Small l) (h : Wds w v l) : Calls Tryz.prog 249 #[v] w fun e w' =>
    RetNat w (Lim.val l) e w' := made_base 0 v l w hs h

/-! ### Of -/
theorem of_any (x : Nat) (w : World) (hx : x < 18446744073709551616) : Calls Tryz.prog 231 #[.int .u64 x] w fun e w' => RetNat w x e w' := by
  have h1 : Wds ((w.alloc (.cells #[.slice none 0 0] 381)).alloc (.cells #[.int .u64 x] 30)) (.slice (some ⟨w.heap.size + 1, 0, none⟩) 1 1) [x] := by
    have := Wds.new (w.alloc (.cells #[.slice none 0 0] 381)) [x] (by simp [maxLen])
    simpa using this
  have hv : Lim.val [x] = x := by simp [Lim.val]
  have HV := Lib.hid hv
  clear hv
  go_enter Tryz.func231, Tryz.ntmps231
  go_wp2_with fail
  refine (made_any _ [x] _ (fun y hy => by simp at hy; omega) h1).mono ?_
  rintro e w1 ⟨a, k, c, rfl, hw, hb⟩
  rw [HV.out] at hw
  obtain ⟨hb1, _, hbw, hsz⟩ := after2 hb
  have hc1 := cell_of_one hb1
  have hf1 := free_of_one hb1
  have HW := Lib.hid hw
  clear hw
  go_wp2
  exact bodyPost_ret (v := .agg #[.slice a k c]) (by simp [results, Tryz.results231, go_sem, hc1]) rfl ⟨a, k, c, rfl, HW.out.set hb1 (by decide) _ _, hbw.setCell (Nat.le_refl _) _⟩

/-! ### the number of bits -/
theorem bitLen_eq (x : Nat) (hx : x < 18446744073709551616) : Lib.bitLen x = Lim.bitlen x := by
  have aux : ∀ f x, x < 2 ^ f → Lib.bitLenAux f x = Lim.bitlen x := by
    intro f
    induction f with
    | zero => intro x hx; have : x = 0 := by simpa using hx
              subst this; simp [Lib.bitLenAux, Lim.bitlen]
    | succ f ih =>
      intro x hx
      unfold Lib.bitLenAux
      by_cases h : x = 0
      · subst h; simp [Lim.bitlen]
      · rw [if_neg h, ih (x / 2) (by rw [Nat.pow_succ] at hx; omega)]
        refine Nat.le_antisymm ?_ ?_
        · have : Lim.bitlen (x / 2) < Lim.bitlen x := by
            have hp : 0 < Lim.bitlen x := by rcases Nat.eq_zero_or_pos (Lim.bitlen x) with h0 | h0
                                             · have := Lim.bitlen_le.1 (Nat.le_of_eq h0); simp at this; omega
                                             · exact h0
            have : Lim.bitlen (x / 2) ≤ Lim.bitlen x - 1 := Lim.bitlen_le.2 (by
              have h1 := Lim.lt_bitlen (n := x)
              obtain ⟨m, hm⟩ : ∃ m, Lim.bitlen x = m + 1 := ⟨_, (Nat.succ_pred_eq_of_pos hp).symm⟩
              rw [hm, Nat.pow_succ] at h1; rw [hm, Nat.add_sub_cancel]; omega)
            omega
          omega
        · refine Lim.bitlen_le.2 ?_
          have h1 := Lim.lt_bitlen (n := x / 2)
          rw [Nat.add_comm, Nat.pow_succ]; omega
  exact aux 64 x (by simpa using hx)

/-- A short row (its words' bits can be counted). -/
theorem len_any (a : Option Addr) (k c : Nat) (n : Nat) (w : World) (h : Wds w (.slice a k c) (Lim.limbs n)) (hl : (Lim.limbs n).length ≤ 4294967296) : Calls Tryz.prog 252 #[.agg #[.slice a k c]] w fun e w' =>
    e = .returned (.int .i64 (Lim.bitlen n)) ∧ Below w.heap.size w w' := by
  by_cases h0 : n = 0
  · subst h0
    rw [Lim.limbs_zero] at h
    rcases h.cases with ⟨he, _⟩ | ⟨g, cap, he, _⟩
    all_goals
      injection he with h1 h2 h3
      subst h1 h2 h3
      go_enter Tryz.func252, Tryz.ntmps252
      go_wp2
      go_ret
      exact ⟨by simp [Lim.bitlen], (Below.refl _ _).alloc (Nat.le_refl _) _⟩
  · obtain ⟨hbl, hpos⟩ := Lim.bitlen_limbs h0
    rcases h.cases with ⟨_, he⟩ | ⟨g, cap, he, hg, hc, hm, hcell⟩
    · rw [he] at hpos; simp at hpos
    · injection he with h1 h2 h3
      subst h1 h2 h3
      have hsm : (Lim.limbs n).getD ((Lim.limbs n).length - 1) 0 < 18446744073709551616 := by
        rw [List.getD, List.getElem?_eq_getElem (by omega)]
        exact Lim.small_limbs n _ (List.getElem_mem _)
      have hcl : (w.alloc (.cells #[.slice (some ⟨g, 0, none⟩) (Lim.limbs n).length c] 381)).cell? ⟨g, (Lim.limbs n).length - 1, none⟩ = some (.int .u64 ((Lim.limbs n).getD ((Lim.limbs n).length - 1) 0 : Nat)) := by
        rw [World.cell?_alloc_lt _ _ ⟨g, _, none⟩ (by simpa using hg)]; exact hcell _ (by omega)
      clear hcell
      have HB := Lib.hid hbl
      clear hbl
      generalize hL : (Lim.limbs n).length = L at *
      have HL := Lib.hid hL
      clear hL h
      generalize hX : (Lim.limbs n).getD (L - 1) 0 = x at *
      have HX := Lib.hid hX
      clear hX
      have hx0 : (0 : Int) ≤ (x : Int) := by omega
      have hx1 : (x : Int) ≤ 18446744073709551615 := by omega
      go_enter Tryz.func252, Tryz.ntmps252
      go_wp2
      go_quiet ((go_at_call 273; exact Calls.quiet_of_same (Tryz.bits_Len64 _ _ hx0 hx1)))
      go_wp2
      go_ret
      refine ⟨?_, below_drewN ((Below.refl _ _).alloc (Nat.le_refl _) _) _⟩
      have hb64 : Lib.bitLen x ≤ 64 := Lib.bitLen_le x 64 (Nat.le_refl _) (by simpa using hsm)
      have e : wrap64 (64 * ((L : Int) - 1) + (Lib.bitLen x : Int)) = (Lim.bitlen n : Int) := by
        rw [IntWalk.wrap64_in _ ⟨by omega, by omega⟩, HB.out, ← bitLen_eq x hsm]; omega
      exact congrArg (fun z => Ending.returned (.int .i64 z)) e

/-! ### bounded -/
/-- What the bound of 8192 bits lets. -/
def capN (n : Nat) : Nat := if 8192 < Lim.bitlen n then 0 else n
def capE (n : Nat) : Value := if 8192 < Lim.bitlen n then .iface 29 (.int .i64 11) else .nilIface
theorem capN_fit {n : Nat} (h : Lim.bitlen n ≤ 8192) : capN n = n := if_neg (by omega)
theorem capE_fit {n : Nat} (h : Lim.bitlen n ≤ 8192) : capE n = .nilIface := if_neg (by omega)
theorem capE_shape (n : Nat) : capE n = .nilIface ∨ capE n = .iface 29 (.int .i64 11) := by unfold capE; split <;> simp
theorem bounded_any (a : Option Addr) (k c : Nat) (n : Nat) (w : World) (h : Wds w (.slice a k c) (Lim.limbs n)) (hl : (Lim.limbs n).length ≤ 4294967296) : Calls Tryz.prog 248 #[.agg #[.slice a k c]] w fun e w' =>
    RetNatE w (capN n) (capE n) e w' := by
  unfold capN capE
  have h2 : Wds ((w.alloc (.cells #[.slice a k c] 381)).alloc (.cells #[.slice none 0 0] 381)) (.slice a k c) (Lim.limbs n) := h.below (((Below.refl _ _).alloc (Nat.le_refl _) _).alloc (by simp) _)
  by_cases hbig : 8192 < Lim.bitlen n
  all_goals
    simp only [hbig, if_true, if_false]
    go_enter Tryz.func248, Tryz.ntmps248
    go_wp2_with fail
    refine (len_any a k c n _ h2 hl).mono ?_
    rintro e w1 ⟨rfl, hb⟩
    obtain ⟨hb1, hb2, hbw, hsz⟩ := after2 hb
    have hc1 := cell_of_one hb1
    have hc2 := cell_of_one hb2
    have hf2 := free_of_one hb2
    have hb3 : (8192 : Int) < (Lim.bitlen n : Int) ∨ ¬ (8192 : Int) < (Lim.bitlen n : Int) := by omega
    go_wp2
  · refine bodyPost_ret (v := .tuple #[.agg #[.slice none 0 0], .iface 29 (.int .i64 11)]) (by simp [results, Tryz.results248, go_sem, hc2]) rfl ⟨none, 0, 0, rfl, ?_, hbw.setCell (by simp) _⟩
    rw [Lim.limbs_zero]; exact Wds.nil _
  · refine bodyPost_ret (v := .tuple #[.agg #[.slice a k c], .nilIface]) (by simp [results, Tryz.results248, go_sem, hc2]) rfl ⟨a, k, c, rfl, ?_, hbw.setCell (by simp) _⟩
    exact (h.below hbw).set hb2 (by decide) _ _

/-! ### a word, a bit -/
theorem word_any (a : Option Addr) (k c : Nat) (l : List Nat) (i : Int) (w : World) (h : Wds w (.slice a k c) l) (hi : 0 ≤ i) (hm : i ≤ 4294967296) : Calls Tryz.prog 278 #[.agg #[.slice a k c], .int .i64 i] w fun e w' =>
    e = .returned (.int .u64 (l.getD i.toNat 0 : Nat)) ∧ Below w.heap.size w w' := by
  obtain ⟨i, rfl⟩ := Int.eq_ofNat_of_zero_le hi
  rw [Int.toNat_natCast]
  rcases h.cases with ⟨he, rfl⟩ | ⟨g, cap, he, hg, hc, hm2, hcell⟩
  · injection he with h1 h2 h3
    subst h1 h2 h3
    go_enter Tryz.func278, Tryz.ntmps278
    go_wp2
    go_ret
    exact ⟨by simp, (Below.refl _ _).alloc (Nat.le_refl _) _⟩
  · injection he with h1 h2 h3
    subst h1 h2 h3
    have hlen : l.length ≤ 9223372036854775807 := by unfold maxLen at hm2; omega
    by_cases hlt : i < l.length
    · have hcl : (w.alloc (.cells #[.slice (some ⟨g, 0, none⟩) l.length c] 381)).cell? ⟨g, i, none⟩ = some (.int .u64 (l.getD i 0 : Nat)) := by
        rw [World.cell?_alloc_lt _ _ ⟨g, _, none⟩ (by simpa using hg)]; exact hcell _ hlt
      clear hcell h
      generalize hX : l.getD i 0 = x at *
      have HX := Lib.hid hX
      clear hX
      go_enter Tryz.func278, Tryz.ntmps278
      go_wp2
      go_ret
      exact ⟨rfl, (Below.refl _ _).alloc (Nat.le_refl _) _⟩
    · have hX : l.getD i 0 = 0 := by simp [List.getD, List.getElem?_eq_none (by omega : l.length ≤ i)]
      rw [hX]
      clear hcell h hX
      go_enter Tryz.func278, Tryz.ntmps278
      go_wp2
      go_ret
      exact ⟨rfl, (Below.refl _ _).alloc (Nat.le_refl _) _⟩
end Go.Proofs.YtakkmiomhackiaaGreatDoor

/-
  Package wide, second part: a bit, the product with a word, powers. Conditions: rows of fewer than 2^32 words.
-/
namespace Go.Proofs.YtakkmiomhackiaaGreatDoor
open Go.RowKit
set_option maxRecDepth 100000

theorem bit_any (a : Option Addr) (c n : Nat) (i : Int) (w : World) (h : Wds w (.slice a (Lim.limbs n).length c) (Lim.limbs n)) (hi : 0 ≤ i) (hm : i ≤ 4294967296) : Calls Tryz.prog 257 #[.agg #[.slice a (Lim.limbs n).length c], .int .i64 i] w fun e w' =>
    e = .returned (.bool (n.testBit i.toNat)) ∧ Below w.heap.size w w' := by
  have hq0 : 0 ≤ i / 64 := by omega
  have hq1 : i / 64 ≤ 4294967296 := by omega
  have h2 : Wds (w.alloc (.cells #[.agg #[.slice a (Lim.limbs n).length c]] 381)) (.slice a (Lim.limbs n).length c) (Lim.limbs n) := h.below ((Below.refl _ _).alloc (Nat.le_refl _) _)
  go_enter Tryz.func257, Tryz.ntmps257
  go_wp2_with fail
  refine (word_any a _ c (Lim.limbs n) (i / 64) _ (h.below ((Below.refl _ _).alloc (Nat.le_refl _) _)) hq0 hq1).mono ?_
  rintro e w1 ⟨rfl, hb⟩
  obtain ⟨_, hbw, _⟩ := after1 hb
  rw [Lim.limbs_getD]
  have hbt : ((n / 18446744073709551616 ^ (i / 64).toNat % 18446744073709551616 / 2 ^ (i % 64).toNat) % 2 == 1) = n.testBit i.toNat := by
    have e : ∀ y m : Nat, (y / 2 ^ m % 2 == 1) = y.testBit m := fun y m => by rw [Nat.testBit_eq_decide_div_mod_eq]; rfl
    rw [e, show (18446744073709551616 : Nat) = 2 ^ 64 by decide, ← Nat.pow_mul, Nat.testBit_mod_two_pow, Nat.testBit_div_two_pow, decide_eq_true (by omega), Bool.true_and]
    congr 1
    omega
  have hxl : n / 18446744073709551616 ^ (i / 64).toNat % 18446744073709551616 < 18446744073709551616 := Nat.mod_lt _ (by decide)
  have HBT := Lib.hid hbt
  clear hbt h h2
  generalize n / 18446744073709551616 ^ (i / 64).toNat % 18446744073709551616 = x at *
  go_wp2
  go_ret
  rw [← HBT.out]
  refine ⟨congrArg (fun b => Ending.returned (.bool b)) (a₁ := (bits BinOp.and IntKind.u64 ((x : Int) / 2 ^ (i % 64).toNat) 1 == 1)) ?_, hbw⟩
  have hle : x / 2 ^ (i % 64).toNat ≤ x := Nat.div_le_self _ _
  have e : bits BinOp.and IntKind.u64 ((x : Int) / 2 ^ (i % 64).toNat) 1 = ((x / 2 ^ (i % 64).toNat % 2 : Nat) : Int) := by
    have e2 : (x : Int) / 2 ^ (i % 64).toNat = ((x / 2 ^ (i % 64).toNat : Nat) : Int) := by simp
    rw [e2]
    generalize x / 2 ^ (i % 64).toNat = y at hle ⊢
    rw [and_one_u64 _ (by omega) (by omega)]; omega
  rw [e, Bool.eq_iff_iff]
  simp only [beq_iff_eq]
  generalize x / 2 ^ (i % 64).toNat = y
  omega

theorem val_take_succ {l : List Nat} {k : Nat} (hk : k < l.length) : Lim.val (l.take (k + 1)) = Lim.val (l.take k) + 18446744073709551616 ^ k * l.getD k 0 := by
  rw [List.take_succ_eq_append_getElem hk, Lim.val_append, List.length_take, Nat.min_eq_left (by omega)]
  simp [Lim.val, List.getD, List.getElem?_eq_getElem hk]
theorem times_step {v P mo x d lo hi s cy t more : Nat} (h : v + P * mo = t * d + more) (h1 : lo + 18446744073709551616 * hi = x * d) (h2 : s + 18446744073709551616 * cy = lo + mo) :
    v + P * s + P * 18446744073709551616 * (hi + cy) = (t + P * x) * d + more := by
  have e : s + 18446744073709551616 * (hi + cy) = mo + x * d := by omega
  rw [Nat.mul_assoc P, Nat.add_assoc, ← Nat.mul_add, e, Nat.mul_add, Nat.add_mul, Nat.mul_assoc]; omega

theorem times_any (v : Value) (l : List Nat) (d more : Nat) (w : World) (h : Wds w v l) (hs : Lim.Small l) (hd : d < 18446744073709551616) (hmo : more < 18446744073709551616) (hl : l.length ≤ 4294967296) :
    Calls Tryz.prog 247 #[v, .int .u64 d, .int .u64 more] w fun e w' => ∃ a c r, e = .returned (.slice a r.length c) ∧ Wds w' (.slice a r.length c) r ∧ Lim.Small r ∧ Lim.val r = Lim.val l * d + more ∧ r.length = l.length + 1 ∧ Below w.heap.size w w' := by
  obtain ⟨va, vc, rfl⟩ := Row.shape h
  obtain ⟨i0, z0, hi0, hz0, hsz0, hby0, hzs0⟩ := elemW.2
  have hby : i0.bytes * (l.length + 1) ≤ 281474976710656 := by rw [hby0]; omega
  go_enter Tryz.func247, Tryz.ntmps247
  go_wp2_with (at_make; refine wpList_make_own _ rfl _ _ 379 rfl w.heap.size 30 i0 z0 1 Tryz.underlying379 hi0 hz0 hsz0 _ _ _ (l.length + 1) rfl rfl ?c1 hby ?c2 (Nat.le_refl _) ?_)
  case c1 => omega
  case c2 => unfold maxLen; omega
  intro w1 hown hgrow
  go_wp2_with fail
  go_loopw [7, 19, 2, 9, 10, 11, 12] (fun o i m _ _ _ _ wr => ∃ (k mo : Nat) (r : List Nat), k ≤ l.length ∧ i = .int .i64 k ∧ m = .int .u64 mo ∧ mo < 18446744073709551616 ∧ Row w.heap.size 30 encW wr o r ∧ Below w.heap.size w wr ∧ r.length = k ∧ Lim.Small r ∧
      Lim.val r + 18446744073709551616 ^ k * mo = Lim.val (l.take k) * d + more) (fun _ i _ _ _ _ _ _ => l.length - (intOf i).toNat)
  case atStart => exact ⟨0, more, [], Nat.zero_le _, rfl, rfl, hmo, hown, (Below.refl _ _).grown hgrow (Nat.le_refl _) (fun k e => by cases e), rfl, (fun x hx => by cases hx), by simp [Lim.val]⟩
  case round =>
    obtain ⟨k, mo, r, hk, rfl, rfl, hmo', hrow, hbel, hr, hsm, hval⟩ := hrel
    have HV := Lib.hid hval
    clear hval
    have HR := Lib.hid hr
    clear hr
    clear hown hgrow
    by_cases hlt : k < l.length
    · rcases Wds.cases h with ⟨_, hn⟩ | ⟨g, cap, he, hg, _, _, hcell⟩
      · subst hn; simp at hlt
      · injection he with h1 h2 h3
        subst h1 h3
        have hx : l.getD k 0 < 18446744073709551616 := hs _ (by rw [List.getD, List.getElem?_eq_getElem hlt]; exact List.getElem_mem _)
        have hcl : wr.cell? ⟨g, k, none⟩ = some (.int .u64 (l.getD k 0 : Nat)) := (hbel.cell (by simpa using hg)).trans (hcell k hlt)
        clear hcell
        have ht := val_take_succ hlt
        generalize hX : l.getD k 0 = x at *
        have HT := Lib.hid ht
        have HX := Lib.hid hX
        clear ht hX h2
        go_wp2_with fail
        refine (bits_Mul64_ex x d hx hd _).mono ?_
        rintro e w' ⟨hi, lo, rfl, rfl, hmul, hlo, hhi⟩
        obtain ⟨s, cy, hadd, hs2, hcy, hrun⟩ := bits_Add64_0 lo mo hlo hmo'
        have HM := Lib.hid hmul
        have HA := Lib.hid hadd
        clear hmul hadd
        have hb2 : Below w.heap.size w (wr.alloc (.cells #[.int .u64 s] 30)) := hbel.alloc hbel.size _
        go_wp2_with (at_builtin; refine append_one elemW rfl _ _ rfl rfl (hrow.alloc _) ⟨wr.heap.size, 0, none⟩ 1 s rfl ?a1 rfl ?a2 ?a3 ?a4 ?_)
        case a1 => simp
        case a2 => have := HR.out; omega
        case a3 => have := HR.out; unfold maxLen; omega
        case a4 => exact hb2.size
        intro b cap w2 hrow2 hgrow2
        have hb3 : Below w.heap.size w w2 := hb2.grown hgrow2 hb2.size (fun k hk => (hrow.lt k hk).1)
        have HR2 := Lib.hid hrow2
        clear hrow2 hgrow2 hrow
        go_wp2
        go_roundw
        case rel =>
          refine ⟨k + 1, hi + cy, r ++ [s], by omega, by go_num, by go_num, by omega, HR2.out, hb3, by simp [HR.out], Lim.small_append.2 ⟨hsm, fun y hy => by simp at hy; omega⟩, ?_⟩
          rw [HT.out, Lim.val_append, HR.out, Nat.pow_succ]
          simp only [Lim.val, Nat.mul_zero, Nat.add_zero]
          exact times_step HV.out HM.out HA.out
        case measure => simp [intOf]; omega
    · have hkl : k = l.length := by omega
      have hfin : Lim.val (r ++ [mo]) = Lim.val l * d + more := by
        have := HV.out
        rw [hkl, List.take_length] at this
        rw [Lim.val_append, HR.out, hkl]
        simpa [Lim.val] using this
      have HF := Lib.hid hfin
      have HK := Lib.hid hkl
      clear hfin hkl
      have hb2 : Below w.heap.size w (wr.alloc (.cells #[.int .u64 mo] 30)) := hbel.alloc hbel.size _
      go_wp2_with (at_builtin; refine append_one elemW rfl _ _ rfl rfl (hrow.alloc _) ⟨wr.heap.size, 0, none⟩ 1 mo rfl ?b1 rfl ?b2 ?b3 ?b4 ?_)
      case b1 => simp
      case b2 => have := HR.out; omega
      case b3 => have := HR.out; unfold maxLen; omega
      case b4 => exact hb2.size
      intro b cap w2 hrow2 hgrow2
      have hb3 : Below w.heap.size w w2 := hb2.grown hgrow2 hb2.size (fun k hk => (hrow.lt k hk).1)
      have hl2 : (r ++ [mo]).length = l.length + 1 := by simp [HR.out, HK.out]
      have HR2 := Lib.hid hrow2
      have HL2 := Lib.hid hl2
      clear hrow2 hgrow2 hrow hl2
      go_wp2
      go_ret
      have e : r.length + 1 = (r ++ [mo]).length := by simp
      refine ⟨some ⟨b, 0, none⟩, cap, r ++ [mo], ?_, ?_, Lim.small_append.2 ⟨hsm, fun y hy => by simp at hy; omega⟩, HF.out, HL2.out, hb3⟩
      · rw [← e]; rfl
      · rw [← e]; exact HR2.out.base (Nat.zero_le _)
end Go.Proofs.YtakkmiomhackiaaGreatDoor

/-
  Package wide, third part: Times, Power, twice, Cmp, Sub. Conditions: numbers of at most 2^32 words; a power that keeps the bound of 8192 bits.
-/
namespace Go.Proofs.YtakkmiomhackiaaGreatDoor
open Go.RowKit
set_option maxRecDepth 100000

theorem timesN_any (a : Option Addr) (k c n d : Nat) (w : World) (h : Wds w (.slice a k c) (Lim.limbs n)) (hd : d < 18446744073709551616) (hl : (Lim.limbs n).length ≤ 4294967295) :
    Calls Tryz.prog 272 #[.agg #[.slice a k c], .int .u64 d] w fun e w' =>
      RetNatE w (capN (n * d)) (capE (n * d)) e w' := by
  have h2 : Wds ((w.alloc (.cells #[.slice a k c] 381)).alloc (.cells #[.slice none 0 0] 381)) (.slice a k c) (Lim.limbs n) := h.below (((Below.refl _ _).alloc (Nat.le_refl _) _).alloc (by simp) _)
  go_enter Tryz.func272, Tryz.ntmps272
  go_wp2_with fail
  refine (times_any _ (Lim.limbs n) d 0 _ h2 (Lim.small_limbs n) hd (by decide) (by omega)).mono ?_
  rintro e w1 ⟨a1, c1, r, rfl, hr, hsm, hval, hlen, hb⟩
  obtain ⟨hb1, hb2, hbw, hsz⟩ := after2 hb
  rw [Lim.val_limbs, Nat.add_zero] at hval
  have HV := Lib.hid hval
  have HL := Lib.hid hlen
  clear hval hlen
  go_wp2_with fail
  refine (made_any _ r _ hsm hr).mono ?_
  rintro e w2 ⟨a2, k2, c2, rfl, hm, hbb⟩
  rw [HV.out] at hm
  have hshort : (Lim.limbs (n * d)).length ≤ 4294967296 := by
    have h5 := Lim.val_lt hsm
    rw [HV.out] at h5
    have := Lim.limbs_length_le h5
    have := HL.out
    omega
  go_wp2_with fail
  refine (bounded_any a2 k2 c2 (n * d) _ hm hshort).mono ?_
  rintro e w3 ⟨a3, k3, c3, rfl, hfin, hb3⟩
  have hB := keep (keep hb2 hbb) hb3
  have hc2 := cell_of_one hB
  have hf2 := free_of_one hB
  have hbf := chain (chain hbw hbb) hb3
  have HF := Lib.hid hfin
  clear hfin hm hr h2
  go_wp2
  exact bodyPost_ret (v := .tuple #[.agg #[.slice a3 k3 c3], capE (n * d)]) (by simp [results, Tryz.results272, go_sem, hc2]) rfl ⟨a3, k3, c3, rfl, HF.out.set hB (by decide) _ _, hbf.setCell (by simp) _⟩

theorem power_any (b n : Nat) (w : World) (hb1 : 2 ≤ b) (hb2 : b < 18446744073709551616) (hn : n ≤ 8192) (hfit : Lim.bitlen (b ^ n) ≤ 8192) :
    Calls Tryz.prog 251 #[.int .u64 b, .int .i64 n] w fun e w' => RetNatE w (b ^ n) .nilIface e w' := by
  have H1 := of_any 1
  have HH1 := Lib.hid H1
  clear H1
  rcases Nat.eq_zero_or_pos n with rfl | hpos
  · simp only [Int.natCast_zero]
    go_enter Tryz.func251, Tryz.ntmps251
    go_wp2_with fail
    refine (HH1.out _ (by decide)).mono ?_
    rintro e w1 ⟨a, k, c, rfl, hw, hb⟩
    obtain ⟨hB, hbw, hsz⟩ := after1 hb
    have hc2 := cell_of_one hB
    have hf2 := free_of_one hB
    have HW := Lib.hid hw
    clear hw
    go_wp2
    exact bodyPost_ret (v := .tuple #[.agg #[.slice a k c], .nilIface]) (by simp [results, Tryz.results251, go_sem, hc2]) rfl ⟨a, k, c, rfl, HW.out.set hB (by decide) _ _, hbw.setCell (by simp) _⟩
  · have hn0 : ((n : Int) == 0) = false := by simp; omega
    have hlt2 : ¬ (b : Int) < 2 := by omega
    go_enter Tryz.func251, Tryz.ntmps251
    go_wp2_with fail
    refine (HH1.out _ (by decide)).mono ?_
    rintro e w1 ⟨a, k, c, rfl, hw, hb⟩
    obtain ⟨hB, hbw, hsz⟩ := after1 hb
    have hc2 := cell_of_one hB
    have hf2 := free_of_one hB
    have HW := Lib.hid hw
    clear hw
    have hP : w.heap.size ≠ w1.heap.size := by omega
    have hw6 : (w1.alloc (.cells #[.slice a k c] 381)).heap[w1.heap.size]? = some (.cells #[.slice a k c] 381 (0, 0)) := heap_alloc_new w1 _
    have hw4 : (w1.alloc (.cells #[.slice a k c] 381)).heap[w.heap.size]? = some (.cells #[.slice none 0 0] 381 (0, 0)) := (Below.heap_alloc w1 _ _ (by omega)).trans hB
    have hcap : ∀ j, j ≤ n → Lim.bitlen (b ^ j) ≤ 8192 := fun j hj => Nat.le_trans (Lim.bitlen_mono (Nat.pow_le_pow_right (by omega) hj)) hfit
    have HC := Lib.hid hcap
    have HFIT := Lib.hid hfit
    have H6 := Lib.hid hw6
    have H4 := Lib.hid hw4
    have HB1 := Lib.hid hB
    have HP := Lib.hid hP
    clear hcap hfit hw6 hw4 hB hP hc2 hf2
    go_wp2_with fail
    go_loopw [30, 7, 8] (fun i _ _ wr => ∃ (j : Nat) (a : Option Addr) (k c : Nat), j ≤ n ∧ i = .int .i64 j ∧ wr.heap[w1.heap.size]? = some (.cells #[.slice a k c] 381 (0, 0)) ∧ wr.heap[w.heap.size]? = some (.cells #[.slice none 0 0] 381 (0, 0)) ∧
      Wds wr (.slice a k c) (Lim.limbs (b ^ j)) ∧ Below w.heap.size w wr) (fun i _ _ _ => n - (intOf i).toNat)
    case atStart => exact ⟨0, a, k, c, by omega, rfl, H6.out, H4.out, HW.out.below ((Below.refl _ _).alloc (Nat.le_refl _) _), hbw.alloc (by omega) _⟩
    case round =>
      obtain ⟨j, a', k', c', hj, rfl, h6, h4, hwj, hbel⟩ := hrel
      have hc6 := cell_of_one h6
      have hf6 := free_of_one h6
      have hc4 := cell_of_one h4
      have hf4 := free_of_one h4
      by_cases hlt : j < n
      · go_wp2_with fail
        refine (timesN_any a' k' c' (b ^ j) b _ hwj hb2 (Nat.le_trans (Lim.short (k := 128) (HC.out j (by omega))) (by decide))).mono ?_
        rintro e w2 ⟨a2, k2, c2, rfl, hw2, hb22⟩
        have e1 : b ^ j * b = b ^ (j + 1) := (Nat.pow_succ b j).symm
        rw [e1, capN_fit (HC.out (j + 1) (by omega))] at hw2
        rw [e1, capE_fit (HC.out (j + 1) (by omega))]
        have g6 := keep h6 hb22
        have g4 := keep h4 hb22
        have gb := chain hbel hb22
        have HW2 := Lib.hid hw2
        have hc6 := cell_of_one g6
        have hf6 := free_of_one g6
        have hlt6 : w1.heap.size < w2.heap.size := lt_of_block g6
        have hlt4 : w.heap.size < w2.heap.size := lt_of_block g4
        clear hw2 e1 hwj hbel
        have G6 := Lib.hid g6
        have G4 := Lib.hid g4
        clear g6 g4 h6 h4
        go_wp2_with fail
        go_roundw
        case rel =>
          exact ⟨j + 1, a2, k2, c2, by omega, by go_num, (Below.heap_alloc _ _ _ (by simpa using hlt6)).trans (set_at G6.out _), (Below.heap_alloc _ _ _ (by simpa using hlt4)).trans ((set_else _ HP.out).trans G4.out),
            (HW2.out.set G6.out (by decide) _ _).alloc _, (gb.setCell (by simp; omega) _).alloc (by simp; omega) _⟩
        case measure => simp [intOf]; omega
      · have e : j = n := by omega
        have HE := Lib.hid e
        have HWJ := Lib.hid hwj
        clear e hwj
        go_wp2_with fail
        rw [HE.out] at HWJ
        exact bodyPost_ret (v := .tuple #[.agg #[.slice a' k' c'], .nilIface]) (by simp [results, Tryz.results251, go_sem, hc4]) rfl ⟨a', k', c', rfl, HWJ.out.set h4 (by decide) _ _, hbel.setCell (by simp) _⟩
end Go.Proofs.YtakkmiomhackiaaGreatDoor

/-
  Package wide, fourth part: twice, Cmp, Sub. Conditions: numbers of at most 2^32 words.
-/
namespace Go.Proofs.YtakkmiomhackiaaGreatDoor
open Go.RowKit
set_option maxRecDepth 100000

theorem twice_step {v P mo x s q t more : Nat} (h : v + P * mo = 2 * t + more) (h2 : s + 18446744073709551616 * q = 2 * x + mo) : v + P * s + P * 18446744073709551616 * q = 2 * (t + P * x) + more := by
  rw [Nat.mul_assoc P, Nat.add_assoc, ← Nat.mul_add, h2, Nat.mul_add, Nat.mul_add, Nat.mul_left_comm]; omega
theorem or_word (x c : Nat) (hx : x < 18446744073709551616) (hc : c ≤ 1) : ∃ s : Nat, bits BinOp.or IntKind.u64 (IntKind.u64.wrap ((x : Int) * 2)) (c : Int) = s ∧ s < 18446744073709551616 ∧ s + 18446744073709551616 * (x / 9223372036854775808) = 2 * x + c := by
  have hw : IntKind.u64.wrap ((x : Int) * 2) = ((2 * (x % 9223372036854775808) : Nat) : Int) := by
    rw [IntKind.wrap_u64]; omega
  have hor : 2 * (x % 9223372036854775808) ||| c = 2 * (x % 9223372036854775808) + c := (Nat.two_pow_add_eq_or_of_lt (i := 1) (by omega) (x % 9223372036854775808)).symm
  refine ⟨2 * (x % 9223372036854775808) + c, ?_, by omega, by omega⟩
  rw [hw, bits_or_u64_nat _ _ (by omega) (by omega), hor]

set_option maxHeartbeats 1600000 in
theorem twice_any (a : Option Addr) (k c n : Nat) (b : Bool) (w : World) (h : Wds w (.slice a k c) (Lim.limbs n)) (hl : (Lim.limbs n).length ≤ 4294967295) :
    Calls Tryz.prog 275 #[.agg #[.slice a k c], .bool b] w fun e w' => RetNat w (2 * n + b.toNat) e w' := by
  obtain ⟨va, vc, he⟩ := Row.shape h
  injection he with h1 h2 h3
  subst h1 h2 h3
  obtain ⟨i0, z0, hi0, hz0, hsz0, hby0, hzs0⟩ := elemW.2
  generalize hL : Lim.limbs n = l at *
  have hsm : Lim.Small l := hL ▸ Lim.small_limbs n
  have hvl : Lim.val l = n := hL ▸ Lim.val_limbs n
  have HVL := Lib.hid hvl
  clear hL hvl
  have hby : i0.bytes * (l.length + 1) ≤ 281474976710656 := by rw [hby0]; omega
  obtain ⟨more, hmoe, hmo⟩ : ∃ m : Nat, b.toNat = m ∧ m ≤ 1 := ⟨b.toNat, rfl, by cases b <;> decide⟩
  have HMO := Lib.hid hmoe
  rw [hmoe]
  clear hmoe
  cases b
  all_goals
    go_enter Tryz.func275, Tryz.ntmps275
    go_wp2_with (at_make; refine wpList_make_own _ rfl _ _ 379 rfl (w.heap.size + 2) 30 i0 z0 1 Tryz.underlying379 hi0 hz0 hsz0 _ _ _ (l.length + 1) rfl rfl ?_ hby ?_ ?_ ?_)
    · omega
    · unfold maxLen; omega
    · simp
    intro w1 hown hgrow
    obtain ⟨g1, g2, hbw, hsz⟩ := after2 ((Below.refl _ _).grown hgrow (Nat.le_refl _) (fun k e => by cases e))
    have hc1 := cell_of_one g1
    have G1 := Lib.hid g1
    have G2 := Lib.hid g2
    have HO : Hid (Row (w.heap.size + 2) 30 encW w1 (.slice (some ⟨w.heap.size + 1 + 1, 0, none⟩) 0 (l.length + 1)) []) := hown
    clear hown hgrow g1 g2
    go_wp2_with fail
    go_loopw [5, 18, 6, 8] (fun o i m _ wr => ∃ (k mo : Nat) (r : List Nat), k ≤ l.length ∧ i = .int .i64 k ∧ m = .int .u64 mo ∧ mo ≤ 1 ∧ Row (w.heap.size + 2) 30 encW wr o r ∧ Below (w.heap.size + 2) w1 wr ∧ r.length = k ∧ Lim.Small r ∧
      Lim.val r + 18446744073709551616 ^ k * mo = 2 * Lim.val (l.take k) + more) (fun _ i _ _ _ => l.length - (intOf i).toNat)
    case atStart => exact ⟨0, more, [], Nat.zero_le _, rfl, by rw [← HMO.out]; rfl, hmo, HO.out, Below.refl _ _, rfl, (fun x hx => by cases hx), by simp [Lim.val]⟩
    case round =>
      obtain ⟨k, mo, r, hk, rfl, rfl, hmo', hrow, hbel, hr, hsr, hval⟩ := hrel
      have HV := Lib.hid hval
      have HR := Lib.hid hr
      clear hval hr
      have hszr : w.heap.size + 2 ≤ wr.heap.size := Nat.le_trans hsz hbel.size
      by_cases hlt : k < l.length
      · rcases Wds.cases h with ⟨_, hn⟩ | ⟨g, cap, he, hg, _, _, hcell⟩
        · subst hn; simp at hlt
        · injection he with h1 h2 h3
          subst h1 h3
          have hx : l.getD k 0 < 18446744073709551616 := hsm _ (by rw [List.getD, List.getElem?_eq_getElem hlt]; exact List.getElem_mem _)
          have hcl : wr.cell? ⟨g, k, none⟩ = some (.int .u64 (l.getD k 0 : Nat)) := (hbel.cell (by simp; omega)).trans ((hbw.cell hg).trans (hcell k hlt))
          clear hcell
          have ht := val_take_succ hlt
          generalize hX : l.getD k 0 = x at *
          have HT := Lib.hid ht
          have HX := Lib.hid hX
          clear ht hX h2
          obtain ⟨s, hor, hs2, hsum⟩ := or_word x mo hx hmo'
          have HS := Lib.hid hsum
          clear hsum
          have hb2 : Below (w.heap.size + 2) w1 (wr.alloc (.cells #[.int .u64 s] 30)) := hbel.alloc hszr _
          go_wp2_with (at_builtin; refine append_one elemW rfl _ _ rfl rfl (hrow.alloc _) ⟨wr.heap.size, 0, none⟩ 1 s rfl ?_ rfl ?_ ?_ ?_ ?_)
          · simp
          · have := HR.out; omega
          · have := HR.out; unfold maxLen; omega
          · simp; omega
          intro b cap w2 hrow2 hgrow2
          have hb3 : Below (w.heap.size + 2) w1 w2 := hb2.grown hgrow2 (by simp; omega) (fun k hk => (hrow.lt k hk).1)
          have HR2 := Lib.hid hrow2
          clear hrow2 hgrow2 hrow
          go_wp2
          go_roundw
          case rel =>
            refine ⟨k + 1, x / 9223372036854775808, r ++ [s], by omega, by go_num, by go_num, by omega, HR2.out, hb3, by simp [HR.out], Lim.small_append.2 ⟨hsr, fun y hy => by simp at hy; omega⟩, ?_⟩
            rw [HT.out, Lim.val_append, HR.out, Nat.pow_succ]
            simp only [Lim.val, Nat.mul_zero, Nat.add_zero]
            exact twice_step HV.out HS.out
          case measure => simp [intOf]; omega
      · have hkl : k = l.length := by omega
        have hfin : Lim.val (r ++ [mo]) = 2 * n + more := by
          have := HV.out
          rw [hkl, List.take_length, HVL.out] at this
          rw [Lim.val_append, HR.out, hkl]
          simpa [Lim.val] using this
        have HF := Lib.hid hfin
        have HK := Lib.hid hkl
        clear hfin hkl
        have hb2 : Below (w.heap.size + 2) w1 (wr.alloc (.cells #[.int .u64 mo] 30)) := hbel.alloc hszr _
        go_wp2_with (at_builtin; refine append_one elemW rfl _ _ rfl rfl (hrow.alloc _) ⟨wr.heap.size, 0, none⟩ 1 mo rfl ?_ rfl ?_ ?_ ?_ ?_)
        · simp
        · have := HR.out; omega
        · have := HR.out; unfold maxLen; omega
        · simp; omega
        intro b cap w2 hrow2 hgrow2
        have hb3 : Below (w.heap.size + 2) w1 w2 := hb2.grown hgrow2 (by simp; omega) (fun k hk => (hrow.lt k hk).1)
        have HR2 := Lib.hid hrow2
        clear hrow2 hgrow2 hrow
        have g4 : w2.heap[w.heap.size + 1]? = some (.cells #[.slice none 0 0] 381 (0, 0)) := (hb3.block _ (by omega)).trans G2.out
        have hbww : Below w.heap.size w w2 := hbw.trans (hb3.mono (by omega))
        go_wp2_with fail
        refine (made_any _ (r ++ [mo]) _ (Lim.small_append.2 ⟨hsr, fun y hy => by simp at hy; omega⟩) (HR2.out.base (Nat.zero_le _))).mono ?_
        rintro e w3 ⟨a3, k3, c3, rfl, hm, hb33⟩
        rw [HF.out] at hm
        have g5 := keep g4 hb33
        have hc5 := cell_of_one g5
        have hf5 := free_of_one g5
        have hbf := chain hbww hb33
        have HM := Lib.hid hm
        clear hm g4 hb3
        go_wp2
        exact bodyPost_ret (v := .agg #[.slice a3 k3 c3]) (by simp [results, Tryz.results275, go_sem, hc5]) rfl ⟨a3, k3, c3, rfl, HM.out.set g5 (by decide) _ _, hbf.setCell (by simp) _⟩

/-! ### Cmp -/
def cmpI (n m : Nat) : Int := if n < m then -1 else if m < n then 1 else 0
theorem cmp_step {n m k : Nat} (h : n / 18446744073709551616 ^ (k + 1) = m / 18446744073709551616 ^ (k + 1)) :
    (n / 18446744073709551616 ^ k % 18446744073709551616 < m / 18446744073709551616 ^ k % 18446744073709551616 → n < m) ∧
    (m / 18446744073709551616 ^ k % 18446744073709551616 < n / 18446744073709551616 ^ k % 18446744073709551616 → m < n) ∧
    (n / 18446744073709551616 ^ k % 18446744073709551616 = m / 18446744073709551616 ^ k % 18446744073709551616 → n / 18446744073709551616 ^ k = m / 18446744073709551616 ^ k) := by
  rw [Nat.pow_succ, ← Nat.div_div_eq_div_mul, ← Nat.div_div_eq_div_mul] at h
  have a1 : m ≤ n → m / 18446744073709551616 ^ k ≤ n / 18446744073709551616 ^ k := fun h => Nat.div_le_div_right h
  have a2 : n ≤ m → n / 18446744073709551616 ^ k ≤ m / 18446744073709551616 ^ k := fun h => Nat.div_le_div_right h
  generalize n / 18446744073709551616 ^ k = N at *
  generalize m / 18446744073709551616 ^ k = M at *
  refine ⟨fun h1 => ?_, fun h1 => ?_, fun h1 => by omega⟩
  · rcases Nat.lt_or_ge n m with h2 | h2
    · exact h2
    · have := a1 h2; omega
  · rcases Nat.lt_or_ge m n with h2 | h2
    · exact h2
    · have := a2 h2; omega

theorem word_is (a : Option Addr) (k c : Nat) (n x : Nat) (i : Nat) (w : World) (h : Wds w (.slice a k c) (Lim.limbs n)) (hm : (i : Int) ≤ 4294967296) (hx : n / 18446744073709551616 ^ i % 18446744073709551616 = x) : Calls Tryz.prog 278 #[.agg #[.slice a k c], .int .i64 i] w fun e w' =>
    e = .returned (.int .u64 (x : Int)) ∧ Below w.heap.size w w' := by
  have := word_any a k c (Lim.limbs n) i w h (by omega) hm
  rw [Int.toNat_natCast, Lim.limbs_getD, hx] at this
  exact this
theorem cmp_any (a a' : Option Addr) (k k' c c' n m : Nat) (w : World) (h : Wds w (.slice a k c) (Lim.limbs n)) (h' : Wds w (.slice a' k' c') (Lim.limbs m)) (hl : (Lim.limbs n).length ≤ 4294967295) (hl' : (Lim.limbs m).length ≤ 4294967295) :
    Calls Tryz.prog 276 #[.agg #[.slice a k c], .agg #[.slice a' k' c']] w fun e w' => e = .returned (.int .i64 (cmpI n m)) ∧ Below w.heap.size w w' := by
  obtain ⟨va, vc, he⟩ := Row.shape h
  injection he with h1 h2 h3
  subst h1 h2 h3
  obtain ⟨va', vc', he⟩ := Row.shape h'
  injection he with h1 h2 h3
  subst h1 h2 h3
  have hz : n / 18446744073709551616 ^ (max (Lim.limbs n).length (Lim.limbs m).length) = m / 18446744073709551616 ^ (max (Lim.limbs n).length (Lim.limbs m).length) := by
    rw [Nat.div_eq_of_lt (Lim.lt_of_limbs_length (Nat.le_max_left _ _)), Nat.div_eq_of_lt (Lim.lt_of_limbs_length (Nat.le_max_right _ _))]
  have HZ := Lib.hid hz
  clear hz
  have hb0 : Below w.heap.size w ((w.alloc (.cells #[.slice a (Lim.limbs n).length c] 381)).alloc (.cells #[.slice a' (Lim.limbs m).length c'] 381)) := ((Below.refl _ _).alloc (Nat.le_refl _) _).alloc (by simp) _
  have H := Lib.hid h
  have H' := Lib.hid h'
  clear h h'
  generalize hL : (Lim.limbs n).length = L at *
  generalize hL' : (Lim.limbs m).length = L' at *
  have HL := Lib.hid hL
  have HL' := Lib.hid hL'
  clear hL hL'
  go_enter Tryz.func276, Tryz.ntmps276
  go_wp2_with fail
  go_loopw [5, 6, 7] (fun i _ _ wr => ∃ (k : Nat), k ≤ max L L' ∧ i = .int .i64 ((k : Int) - 1) ∧ n / 18446744073709551616 ^ k = m / 18446744073709551616 ^ k ∧ Below w.heap.size w wr ∧
      wr.heap[w.heap.size]? = some (.cells #[.slice a L c] 381 (0, 0)) ∧ wr.heap[w.heap.size + 1]? = some (.cells #[.slice a' L' c'] 381 (0, 0))) (fun i _ _ _ => (intOf i + 1).toNat)
  case atStart => exact ⟨max L L', Nat.le_refl _, by simp; omega, HZ.out, hb0, (Below.heap_alloc _ _ _ (by simp)).trans (heap_alloc_new w _), by simpa using heap_alloc_new (w.alloc (.cells #[.slice a L c] 381)) (.cells #[.slice a' L' c'] 381)⟩
  case round =>
    obtain ⟨k, hk, rfl, hq, hbel, g1, g2⟩ := hrel
    have hc1 := cell_of_one g1
    have hc2 := cell_of_one g2
    have HQ := Lib.hid hq
    clear hq
    have hlt1 : w.heap.size < wr.heap.size := lt_of_block g1
    have hlt2 : w.heap.size + 1 < wr.heap.size := lt_of_block g2
    rcases Nat.eq_zero_or_pos k with rfl | hkp
    · have hnm : cmpI n m = 0 := by have := HQ.out; simp at this; subst this; simp [cmpI]
      have HN := Lib.hid hnm
      clear hnm
      simp only [Int.natCast_zero] at *
      go_wp2_with fail
      go_ret
      rw [HN.out]
      exact ⟨rfl, hbel⟩
    · obtain ⟨j, rfl⟩ : ∃ j, k = j + 1 := ⟨k - 1, by omega⟩
      have e1 : ((j + 1 : Nat) : Int) - 1 = (j : Int) := by omega
      rw [e1]
      clear e1
      have hj64 : (j : Int) ≤ 4294967296 := by omega
      have HW : Hid (∀ wx, Below w.heap.size w wx → Wds wx (.slice a L c) (Lim.limbs n) ∧ Wds wx (.slice a' L' c') (Lim.limbs m)) := fun wx hx => ⟨H.out.below hx, H'.out.below hx⟩
      have hst := cmp_step HQ.out
      obtain ⟨x, hx⟩ : ∃ x, n / 18446744073709551616 ^ j % 18446744073709551616 = x := ⟨_, rfl⟩
      obtain ⟨y, hy⟩ : ∃ y, m / 18446744073709551616 ^ j % 18446744073709551616 = y := ⟨_, rfl⟩
      rw [hx, hy] at hst
      have HX := Lib.hid hx
      have HY := Lib.hid hy
      have HST := Lib.hid hst
      clear hx hy hst
      have G1 := Lib.hid g1
      have G2 := Lib.hid g2
      clear g1 g2 hb0
      go_wp2_with fail
      go_region_held3 (fun w' => w'.cell? ⟨w.heap.size, 0, none⟩ = some (.slice a L c) ∧ w'.cell? ⟨w.heap.size + 1, 0, none⟩ = some (.slice a' L' c')) (first | exact ⟨hx1, hx2⟩ | exact ⟨hy1, hy2⟩ | go_keep)
        (first | (go_at_call 278; (with_reducible refine (word_is a L c n x j _ (HW.out _ hbel.drew).1 hj64 HX.out).mono ?_); rintro e wx ⟨rfl, hbx⟩; have hx1 := (hbx.cell (p := ⟨w.heap.size, 0, none⟩) (by simpa using hlt1)).trans hc1; have hx2 := (hbx.cell (p := ⟨w.heap.size + 1, 0, none⟩) (by simpa using hlt2)).trans hc2) | (go_at_call 278; (with_reducible refine (word_is a' L' c' m y j _ (HW.out _ (chain hbel.drew hbx)).2 hj64 HY.out).mono ?_); rintro e wy ⟨rfl, hby⟩; have hy1 := (hby.cell (p := ⟨w.heap.size, 0, none⟩) (by simpa using Nat.lt_of_lt_of_le hlt1 hbx.size)).trans hx1; have hy2 := (hby.cell (p := ⟨w.heap.size + 1, 0, none⟩) (by simpa using Nat.lt_of_lt_of_le hlt2 hbx.size)).trans hx2))
      have hbf := chain (chain hbel.drew hbx) hby
      have HG1 := Lib.hid (keep (keep (w1 := wr.drew) G1.out hbx) hby)
      have HG2 := Lib.hid (keep (keep (w1 := wr.drew) G2.out hbx) hby)
      clear hbx hby hx1 hx2 hy1 hy2 hc1 hc2 hbel
      rcases Nat.lt_trichotomy x y with hxy | hxy | hxy
      · have hnm : cmpI n m = -1 := by unfold cmpI; rw [if_pos (HST.out.1 hxy)]
        have HN := Lib.hid hnm
        clear hnm
        go_wp2
        go_ret
        rw [HN.out]
        exact ⟨rfl, hbf⟩
      · subst hxy
        go_wp2
        go_roundw
        case rel => exact ⟨j, by omega, rfl, HST.out.2.2 rfl, hbf, HG1.out, HG2.out⟩
        case measure => simp [intOf]
      · have hnm : cmpI n m = 1 := by unfold cmpI; rw [if_neg (by have := HST.out.2.1 hxy; omega), if_pos (HST.out.2.1 hxy)]
        have HN := Lib.hid hnm
        clear hnm
        go_wp2
        go_ret
        rw [HN.out]
        exact ⟨rfl, hbf⟩
end Go.Proofs.YtakkmiomhackiaaGreatDoor

/-
  Package wide, fifth part: Sub, Pair's shifts, Shl, Shr. Conditions: numbers of at most 2^32 words; a difference that is none below nought.
-/
namespace Go.Proofs.YtakkmiomhackiaaGreatDoor
open Go.RowKit
set_option maxRecDepth 100000

theorem mod_succ (n k : Nat) : n % 18446744073709551616 ^ (k + 1) = n % 18446744073709551616 ^ k + 18446744073709551616 ^ k * (n / 18446744073709551616 ^ k % 18446744073709551616) := Nat.mod_pow_succ
theorem sub_step {v P x y s b b' q t : Nat} (h : v + q = t + P * b) (h2 : s + y + b = x + 18446744073709551616 * b') : (v + P * s) + (q + P * y) = (t + P * x) + P * 18446744073709551616 * b' := by
  have e : P * s + P * y + P * b = P * x + P * (18446744073709551616 * b') := by rw [← Nat.mul_add, ← Nat.mul_add, ← Nat.mul_add, h2]
  rw [Nat.mul_assoc P]; omega

/-- A number in cells of its own, and no error. -/
def RetNatF (w : World) (n : Nat) (e : Ending) (w' : World) : Prop := ∃ a k c, e = .returned (.tuple #[.agg #[.slice a k c], .nilIface]) ∧ Row w.heap.size 30 encW w' (.slice a k c) (Lim.limbs n) ∧ Below w.heap.size w w'
set_option maxHeartbeats 1000000 in
theorem sub_any (a a' : Option Addr) (k k' c c' n m : Nat) (w : World) (h : Wds w (.slice a k c) (Lim.limbs n)) (h' : Wds w (.slice a' k' c') (Lim.limbs m)) (hl : (Lim.limbs n).length ≤ 4294967295) (hl' : (Lim.limbs m).length ≤ 4294967295) (hnm : m ≤ n) :
    Calls Tryz.prog 277 #[.agg #[.slice a k c], .agg #[.slice a' k' c']] w fun e w' => RetNatF w (n - m) e w' := by
  obtain ⟨va, vc, he⟩ := Row.shape h
  injection he with h1 h2 h3
  subst h1 h2 h3
  obtain ⟨va', vc', he⟩ := Row.shape h'
  injection he with h1 h2 h3
  subst h1 h2 h3
  have hb0 : Below w.heap.size w (((w.alloc (.cells #[.slice a (Lim.limbs n).length c] 381)).alloc (.cells #[.slice a' (Lim.limbs m).length c'] 381)).alloc (.cells #[.slice none 0 0] 381)) := (((Below.refl _ _).alloc (Nat.le_refl _) _).alloc (by simp) _).alloc (by simp; omega) _
  have hcmp : cmpI n m = 0 ∨ cmpI n m = 1 := by unfold cmpI; rw [if_neg (by omega)]; split <;> simp
  obtain ⟨z, hz, hz0⟩ : ∃ z, cmpI n m = z ∧ 0 ≤ z := ⟨_, rfl, by omega⟩
  have HZ := Lib.hid hz
  clear hz hcmp
  have HC := cmp_any a a' _ _ c c' n m _ (h.below hb0) (h'.below hb0) hl hl'
  rw [HZ.out] at HC
  have H := Lib.hid h
  have H' := Lib.hid h'
  have hcells := h.cases
  have HCS := Lib.hid hcells
  clear h h' hcells
  have hnB := Lim.lt_of_limbs_length (n := n) (Nat.le_refl _)
  have HNB := Lib.hid hnB
  clear hnB
  have hget : ∀ i, (Lim.limbs n).getD i 0 = n / 18446744073709551616 ^ i % 18446744073709551616 := Lim.limbs_getD n
  have HGET := Lib.hid hget
  clear hget
  generalize hL : Lim.limbs n = l at *
  have hsm : Lim.Small l := hL ▸ Lim.small_limbs n
  generalize hL2 : (Lim.limbs m).length = L' at *
  clear hL hL2
  have HCC := Lib.hid HC
  clear HC
  go_enter Tryz.func277, Tryz.ntmps277
  go_wp2_with fail
  refine (HCC.out).mono ?_
  rintro e w1 ⟨rfl, hb⟩
  obtain ⟨g1, g2, g3, hbw, hsz⟩ := after3 hb
  have hc1 := cell_of_one g1
  have hc2 := cell_of_one g2
  have G1 := Lib.hid g1
  have G2 := Lib.hid g2
  have G3 := Lib.hid g3
  clear g1 g2 g3 hb0
  go_wp2_with fail
  go_loopw [19, 6, 7, 8, 9] (fun i o b _ _ wr => ∃ (k bo : Nat) (r : List Nat), k ≤ l.length ∧ i = .int .i64 k ∧ b = .int .u64 bo ∧ bo ≤ 1 ∧ Row (w.heap.size + 3) 30 encW wr o r ∧ Below (w.heap.size + 3) w1 wr ∧ r.length = k ∧ Lim.Small r ∧
      Lim.val r + m % 18446744073709551616 ^ k = n % 18446744073709551616 ^ k + 18446744073709551616 ^ k * bo) (fun i _ _ _ _ _ => l.length - (intOf i).toNat)
  case atStart => exact ⟨0, 0, [], Nat.zero_le _, rfl, rfl, by omega, Row.nil _ _ _ _, Below.refl _ _, rfl, (fun x hx => by cases hx), by simp [Lim.val]; omega⟩
  case round =>
    obtain ⟨k, bo, r, hk, rfl, rfl, hbo, hrow, hbel, hr, hsr, hval⟩ := hrel
    have HV := Lib.hid hval
    have HR := Lib.hid hr
    clear hval hr
    have hszr : w.heap.size + 3 ≤ wr.heap.size := Nat.le_trans hsz hbel.size
    have hc1 := cell_of_one ((hbel.block _ (by omega)).trans G1.out)
    have hc2 := cell_of_one ((hbel.block _ (by omega)).trans G2.out)
    by_cases hlt : k < l.length
    · rcases HCS.out with ⟨_, hn⟩ | ⟨g, cap, he, hg, _, _, hcell⟩
      · subst hn; simp at hlt
      · injection he with h1 h2 h3
        subst h1 h3
        have hx : l.getD k 0 < 18446744073709551616 := hsm _ (by rw [List.getD, List.getElem?_eq_getElem hlt]; exact List.getElem_mem _)
        have hcl : wr.cell? ⟨g, k, none⟩ = some (.int .u64 (l.getD k 0 : Nat)) := (hbel.cell (by simp; omega)).trans ((hbw.cell hg).trans (hcell k hlt))
        clear hcell
        have hX := HGET.out k
        generalize l.getD k 0 = x at *
        have HX := Lib.hid hX
        clear hX h2
        obtain ⟨y, hy⟩ : ∃ y, m / 18446744073709551616 ^ k % 18446744073709551616 = y := ⟨_, rfl⟩
        have hyl : y < 18446744073709551616 := hy ▸ Nat.mod_lt _ (by decide)
        have hwd := word_is a' L' c' m y k wr.drew (H'.out.below (hbw.trans (hbel.mono (by omega))).drew) (by omega) hy
        have HWD := Lib.hid hwd
        have HY := Lib.hid hy
        clear hwd hy
        obtain ⟨s, b2, hsub, hs2, hb2, hrun⟩ := bits_Sub64_ex x y bo hx hyl hbo
        have HS := Lib.hid hsub
        clear hsub
        go_wp2_with fail
        go_region_held3 (fun w' => w'.cell? ⟨w.heap.size, 0, none⟩ = some (.slice (some ⟨g, 0, none⟩) l.length c) ∧ w'.cell? ⟨w.heap.size + 1, 0, none⟩ = some (.slice a' L' c') ∧ w'.cell? ⟨g, k, none⟩ = some (.int .u64 (x : Int))) (first | exact ⟨hx1, hx2, hx3⟩ | go_keep)
          ((go_at_call 278; (with_reducible refine (HWD.out).mono ?_); rintro e wx ⟨rfl, hbx⟩; have hx1 := (hbx.cell (p := ⟨w.heap.size, 0, none⟩) (by simp; omega)).trans hc1; have hx2 := (hbx.cell (p := ⟨w.heap.size + 1, 0, none⟩) (by simp; omega)).trans hc2; have hx3 := (hbx.cell (p := ⟨g, k, none⟩) (by simp; omega)).trans hcl))
        have hrowx : Row (w.heap.size + 3) 30 encW wx _ r := Row.below (w := wr.drew) hrow.drew hbx
        have hbelx : Below (w.heap.size + 3) w1 wx := hbel.drew.trans (hbx.mono hszr)
        have hszx : w.heap.size + 3 ≤ wx.heap.size := Nat.le_trans hszr hbx.size
        clear hrow hbel hcl hc1 hc2
        have hb22 : Below (w.heap.size + 3) w1 (wx.alloc (.cells #[.int .u64 s] 30)) := hbelx.alloc hszx _
        go_wp2_with (at_builtin; refine append_one elemW rfl _ _ rfl rfl (hrowx.alloc _) ⟨wx.heap.size, 0, none⟩ 1 s rfl ?_ rfl ?_ ?_ ?_ ?_)
        · simp
        · have := HR.out; omega
        · have := HR.out; unfold maxLen; omega
        · simp; omega
        intro b cap w2 hrow2 hgrow2
        have hb3 : Below (w.heap.size + 3) w1 w2 := hb22.grown hgrow2 (by simp; omega) (fun k hk => (hrowx.lt k hk).1)
        have HR2 := Lib.hid hrow2
        clear hrow2 hgrow2 hrowx
        go_wp2
        go_roundw
        case rel =>
          refine ⟨k + 1, b2, r ++ [s], by omega, by go_num, rfl, hb2, HR2.out, hb3, by simp [HR.out], Lim.small_append.2 ⟨hsr, fun y hy => by simp at hy; omega⟩, ?_⟩
          rw [mod_succ n k, mod_succ m k, ← HX.out, HY.out, Lim.val_append, HR.out, Nat.pow_succ]
          simp only [Lim.val, Nat.mul_zero, Nat.add_zero]
          exact sub_step HV.out HS.out
        case measure => simp [intOf]; omega
    · have hkl : k = l.length := by omega
      have hfin : Lim.val r = n - m := by
        have h1 := HV.out
        have h2 := Lim.val_lt hsr
        have h3 := HNB.out
        rw [HR.out] at h2
        rw [hkl] at h1 h2
        rw [Nat.mod_eq_of_lt h3, Nat.mod_eq_of_lt (by omega)] at h1
        have : bo = 0 := by
          rcases (by omega : bo = 0 ∨ bo = 1) with h | h
          · exact h
          · subst h; omega
        subst this; omega
      have HF := Lib.hid hfin
      clear hfin hkl
      have g4 := (hbel.block _ (by omega)).trans G3.out
      have hbww : Below w.heap.size w wr := hbw.trans (hbel.mono (by omega))
      go_wp2_with fail
      refine (made_base w.heap.size _ r _ hsr (hrow.base (by omega))).mono ?_
      rintro e w3 ⟨a3, k3, c3, rfl, hm, hb33⟩
      rw [HF.out] at hm
      have g5 := keep g4 hb33
      have hc5 := cell_of_one g5
      have hf5 := free_of_one g5
      have hbf := chain hbww hb33
      have HM := Lib.hid hm
      clear hm g4 hbel hrow
      go_wp2
      exact bodyPost_ret (v := .tuple #[.agg #[.slice a3 k3 c3], .nilIface]) (by simp [results, Tryz.results277, go_sem, hc5]) rfl ⟨a3, k3, c3, rfl, HM.out.set g5 (by decide) _ _, hbf.setCell (by simp; omega) _⟩
end Go.Proofs.YtakkmiomhackiaaGreatDoor

/-
  Package wide, sixth part: Pair's shifts, Shl, Shr. Conditions: shifts within the bound.
-/
namespace Go.Proofs.YtakkmiomhackiaaGreatDoor
open Go.RowKit
set_option maxRecDepth 100000

theorem pow64 {k : Nat} (hk : k < 64) : (18446744073709551616 : Nat) = 2 ^ (64 - k) * 2 ^ k := by
  rw [← Nat.pow_add, Nat.sub_add_cancel (by omega)]
theorem or0 (y : Nat) (hy : y < 18446744073709551616) : bits BinOp.or IntKind.u64 0 (y : Int) = y := by
  have := bits_or_u64_nat 0 y (by decide) hy
  simpa using this
theorem shl_hi {x k : Nat} (hx : x < 18446744073709551616) (hk : k < 64) : bits BinOp.or IntKind.u64 0 ((x : Int) / 2 ^ (64 - k)) = ((x * 2 ^ k / 18446744073709551616 : Nat) : Int) := by
  have e2 : x * 2 ^ k / 18446744073709551616 = x / 2 ^ (64 - k) := by
    rw [pow64 hk]; exact Nat.mul_div_mul_right _ _ (Nat.two_pow_pos k)
  have e3 : ((x : Int) / 2 ^ (64 - k)) = ((x / 2 ^ (64 - k) : Nat) : Int) := by simp
  rw [e2, e3, or0 _ (Nat.lt_of_le_of_lt (Nat.div_le_self _ _) hx)]
theorem shl_lo (x k : Nat) : IntKind.u64.wrap ((x : Int) * 2 ^ k) = ((x * 2 ^ k % 18446744073709551616 : Nat) : Int) := by
  have e : (x : Int) * 2 ^ k = ((x * 2 ^ k : Nat) : Int) := by simp
  rw [IntKind.wrap_u64, e]; generalize x * 2 ^ k = y; omega
theorem shr_lo {h x k : Nat} (hh : h < 18446744073709551616) (hx : x < 18446744073709551616) (hk : k < 64) :
    bits BinOp.or IntKind.u64 ((x : Int) / 2 ^ k) (IntKind.u64.wrap ((h : Int) * 2 ^ (64 - k))) = (((h * 18446744073709551616 + x) / 2 ^ k % 18446744073709551616 : Nat) : Int) := by
  rw [shl_lo]
  have e3 : ((x : Int) / 2 ^ k) = ((x / 2 ^ k : Nat) : Int) := by simp
  have hp : 0 < 2 ^ k := Nat.two_pow_pos k
  have hxk : x / 2 ^ k < 2 ^ (64 - k) := Nat.div_lt_of_lt_mul (by rw [Nat.mul_comm, ← pow64 hk]; exact hx)
  have e4 : h * 2 ^ (64 - k) % 18446744073709551616 = 2 ^ (64 - k) * (h % 2 ^ k) := by
    rw [pow64 hk, Nat.mul_comm h, Nat.mul_mod_mul_left]
  have e5 : (h * 18446744073709551616 + x) / 2 ^ k = h * 2 ^ (64 - k) + x / 2 ^ k := by
    rw [pow64 hk, ← Nat.mul_assoc, Nat.add_comm, Nat.add_mul_div_right _ _ hp, Nat.add_comm]
  have e6 : (h * 2 ^ (64 - k) + x / 2 ^ k) % 18446744073709551616 = 2 ^ (64 - k) * (h % 2 ^ k) + x / 2 ^ k := by
    rw [Nat.add_mod, e4, Nat.mod_eq_of_lt (a := x / 2 ^ k) (Nat.lt_of_le_of_lt (Nat.div_le_self _ _) hx), Nat.mod_eq_of_lt]
    have h1 : h % 2 ^ k + 1 ≤ 2 ^ k := Nat.mod_lt _ hp
    have h2 := Nat.mul_le_mul_left (2 ^ (64 - k)) h1
    rw [← pow64 hk, Nat.mul_add, Nat.mul_one] at h2
    omega
  have e7 : x / 2 ^ k ||| 2 ^ (64 - k) * (h % 2 ^ k) = 2 ^ (64 - k) * (h % 2 ^ k) + x / 2 ^ k := by
    rw [Nat.or_comm]; exact (Nat.two_pow_add_eq_or_of_lt hxk (h % 2 ^ k)).symm
  rw [e3, bits_or_u64_nat _ _ (Nat.lt_of_le_of_lt (Nat.div_le_self _ _) hx) (Nat.mod_lt _ (by decide)), e4, e5, e6, e7]

theorem pshl_any (x k : Nat) (w : World) (hx : x < 18446744073709551616) (hk : k < 64) : Calls Tryz.prog 274 #[.agg #[.int .u64 0, .int .u64 x], .int .i64 k] w fun e w' =>
    e = .returned (.agg #[.int .u64 (x * 2 ^ k / 18446744073709551616 : Nat), .int .u64 (x * 2 ^ k % 18446744073709551616 : Nat)]) ∧ Below w.heap.size w w' := by
  have hmin : min (k : Int) 128 = k := by omega
  have H1 := Lib.hid (shl_hi hx hk)
  have H2 := Lib.hid (shl_lo x k)
  go_enter Tryz.func274, Tryz.ntmps274
  go_wp2
  refine bodyPost_ret (v := .agg #[.int .u64 (x * 2 ^ k / 18446744073709551616 : Nat), .int .u64 (x * 2 ^ k % 18446744073709551616 : Nat)]) ?_ rfl ⟨rfl, ((Below.refl _ _).alloc (Nat.le_refl _) _).alloc (by simp) _⟩
  simp only [results, Tryz.results274]
  rw [H1.out]
  simp [go_sem, H2.out]
theorem pshr_any (h x k : Nat) (w : World) (hh : h < 18446744073709551616) (hx : x < 18446744073709551616) (hk : k < 64) : Calls Tryz.prog 279 #[.agg #[.int .u64 h, .int .u64 x], .int .i64 k] w fun e w' =>
    (∃ h' : Nat, e = .returned (.agg #[.int .u64 h', .int .u64 ((h * 18446744073709551616 + x) / 2 ^ k % 18446744073709551616 : Nat)])) ∧ Below w.heap.size w w' := by
  have hmin : min (k : Int) 128 = k := by omega
  have H1 := Lib.hid (shr_lo hh hx hk)
  go_enter Tryz.func279, Tryz.ntmps279
  go_wp2
  refine bodyPost_ret (v := .agg #[.int .u64 (h / 2 ^ k : Nat), .int .u64 ((h * 18446744073709551616 + x) / 2 ^ k % 18446744073709551616 : Nat)]) ?_ rfl ⟨⟨_, rfl⟩, ((Below.refl _ _).alloc (Nat.le_refl _) _).alloc (by simp) _⟩
  simp only [results, Tryz.results279]
  rw [H1.out]
  simp [go_sem]

/-! ### Shl -/
theorem val_zeros (q : Nat) (r : List Nat) : Lim.val (List.replicate q 0 ++ r) = 18446744073709551616 ^ q * Lim.val r := by
  have h0 : Lim.val (List.replicate q 0) = 0 := by
    induction q with
    | zero => rfl
    | succ q ih => simp [List.replicate_succ, Lim.val, ih]
  rw [Lim.val_append, h0, List.length_replicate, Nat.zero_add]
theorem small_zeros (q : Nat) : Lim.Small (List.replicate q 0) := fun x hx => by rw [(List.mem_replicate.1 hx).2]; decide
theorem shl_word {x s mo : Nat} (hx : x < 18446744073709551616) (hs : s < 64) (hmo : mo < 2 ^ s) : ∃ lo hi : Nat, x * 2 ^ s / 18446744073709551616 = hi ∧ hi < 2 ^ s ∧ hi < 18446744073709551616 ∧ lo < 18446744073709551616 ∧
    bits BinOp.or IntKind.u64 ((x * 2 ^ s % 18446744073709551616 : Nat) : Int) (mo : Int) = (lo : Int) ∧ lo + 18446744073709551616 * hi = x * 2 ^ s + mo := by
  have hp := Nat.two_pow_pos s
  have h64 : 2 ^ s < 18446744073709551616 := by
    have h1 : 2 ^ 1 ≤ 2 ^ (64 - s) := Nat.pow_le_pow_right (by decide) (by omega)
    have h2 := Nat.mul_le_mul_right (2 ^ s) h1
    rw [← pow64 hs] at h2
    omega
  have hlt : x * 2 ^ s / 18446744073709551616 < 2 ^ s := Nat.div_lt_of_lt_mul (Nat.mul_lt_mul_of_pos_right hx hp)
  have e4 : x * 2 ^ s % 18446744073709551616 = 2 ^ s * (x % 2 ^ (64 - s)) := by
    rw [pow64 hs, Nat.mul_comm x, Nat.mul_comm (2 ^ (64 - s)), Nat.mul_mod_mul_left]
  have hor : x * 2 ^ s % 18446744073709551616 ||| mo = x * 2 ^ s % 18446744073709551616 + mo := by
    rw [e4]; exact (Nat.two_pow_add_eq_or_of_lt hmo (x % 2 ^ (64 - s))).symm
  have hsum : x * 2 ^ s % 18446744073709551616 + mo < 18446744073709551616 := by
    rw [e4]
    have h1 : x % 2 ^ (64 - s) + 1 ≤ 2 ^ (64 - s) := Nat.mod_lt _ (Nat.two_pow_pos _)
    have h2 := Nat.mul_le_mul_left (2 ^ s) h1
    rw [Nat.mul_comm (2 ^ s) (2 ^ (64 - s)), ← pow64 hs, Nat.mul_add, Nat.mul_one] at h2
    omega
  refine ⟨x * 2 ^ s % 18446744073709551616 + mo, _, rfl, hlt, by omega, hsum, ?_, by omega⟩
  rw [bits_or_u64_nat _ _ (Nat.mod_lt _ (by decide)) (by omega), hor]
theorem shl_step {v P mo x lo hi t D : Nat} (h : v + P * mo = t * D) (h2 : lo + 18446744073709551616 * hi = x * D + mo) : v + P * lo + P * 18446744073709551616 * hi = (t + P * x) * D := by
  rw [Nat.mul_assoc P, Nat.add_assoc, ← Nat.mul_add, h2, Nat.mul_add, Nat.add_mul, Nat.mul_assoc]; omega

set_option maxHeartbeats 1000000 in
theorem shl_any (a : Option Addr) (kk c n k : Nat) (w : World) (h : Wds w (.slice a kk c) (Lim.limbs n)) (hfit : Lim.bitlen n + k ≤ 8192) :
    Calls Tryz.prog 253 #[.agg #[.slice a kk c], .int .i64 k] w fun e w' => RetNatE w (n * 2 ^ k) .nilIface e w' := by
  have hmax : max (k : Int) 0 = k := by omega
  have hb0 : Below w.heap.size w ((w.alloc (.cells #[.slice a kk c] 381)).alloc (.cells #[.slice none 0 0] 381)) := ((Below.refl _ _).alloc (Nat.le_refl _) _).alloc (by simp) _
  by_cases hn : n = 0
  · subst hn
    rw [Lim.limbs_zero] at h
    have hk0 : kk = 0 := by
      rcases h.cases with ⟨he, _⟩ | ⟨g, cap, he, _⟩
      · injection he
      · injection he
    subst hk0
    clear h
    go_enter Tryz.func253, Tryz.ntmps253
    go_wp2
    exact bodyPost_ret (v := .tuple #[.agg #[.slice none 0 0], .nilIface]) (by simp [results, Tryz.results253, go_sem]) rfl ⟨none, 0, 0, rfl, by rw [Nat.zero_mul, Lim.limbs_zero]; exact Wds.nil _, hb0⟩
  · obtain ⟨hbl, hpos⟩ := Lim.bitlen_limbs hn
    obtain ⟨va, vc, he⟩ := Row.shape h
    injection he with h1 h2 h3
    subst h1 h2 h3
    have hlen : (Lim.limbs n).length ≤ 128 := Lim.short (k := 128) (by omega)
    have HLEN := Lib.hid (len_any a _ c n _ (h.below hb0) (by omega))
    have HCS := Lib.hid h.cases
    have hvl : Lim.val (Lim.limbs n) = n := Lim.val_limbs n
    have hsm := Lim.small_limbs n
    clear h hbl
    generalize hL : Lim.limbs n = l at *
    have HVL := Lib.hid hvl
    clear hL hvl
    obtain ⟨q, s, hqs, hs64⟩ : ∃ q s, k = 64 * q + s ∧ s < 64 := ⟨k / 64, k % 64, by omega, by omega⟩
    have hkq : (k : Int) / 64 = q := by omega
    have hks : (k : Int) % 64 = s := by omega
    have hk8 : k ≤ 8192 := by omega
    have hgt : ¬ (8192 - (Lim.bitlen n : Int) < (k : Int)) := by omega
    have hq8 : q ≤ 128 := by omega
    have HQS := Lib.hid hqs
    clear hqs
    generalize hBL : Lim.bitlen n = bl at *
    have HBL := Lib.hid hBL
    clear hBL
    have hlne : ((l.length : Int) == 0) = false := by rw [beq_eq_false_iff_ne]; omega
    go_enter Tryz.func253, Tryz.ntmps253
    go_wp2_with fail
    refine (HLEN.out).mono ?_
    rintro e w1 ⟨rfl, hb⟩
    obtain ⟨g1, g2, hbw, hsz⟩ := after2 hb
    have hc1 := cell_of_one g1
    have G1 := Lib.hid g1
    have G2 := Lib.hid g2
    clear g1 g2 hb0
    have HKQ := Lib.hid hkq
    go_wp2_with (at_make; refine make_row (B := w.heap.size + 2) (enc := encW) 0 elemZW rfl _ _ rfl _ _ _ _ q (q + l.length + 1) rfl rfl ?_ ?_ ?_ ?_ ?_ ?_ ?_)
    · simp
    · simp
    · omega
    · omega
    · unfold maxLen; omega
    · omega
    intro w2 hrow0 hbm
    have hc12 := cell_of_one (keep G1.out hbm)
    have G1' := Lib.hid (keep G1.out hbm)
    have G2' := Lib.hid (keep G2.out hbm)
    have hbw2 := chain hbw hbm
    have hsz2 : w.heap.size + 2 ≤ w2.heap.size := Nat.le_trans hsz hbm.size
    have HR0 := Lib.hid hrow0
    clear hrow0 hbm hc1
    go_wp2_with fail
    go_loopw [40, 6, 7, 9, 10] (fun i o m _ _ wr => ∃ (j mo : Nat) (r : List Nat), j ≤ l.length ∧ i = .int .i64 j ∧ m = .int .u64 mo ∧ mo < 2 ^ s ∧ Row (w.heap.size + 2) 30 encW wr o (List.replicate q 0 ++ r) ∧ Below (w.heap.size + 2) w2 wr ∧ r.length = j ∧ Lim.Small r ∧
        Lim.val r + 18446744073709551616 ^ j * mo = Lim.val (l.take j) * 2 ^ s) (fun i _ _ _ _ _ => l.length - (intOf i).toNat)
    case atStart => exact ⟨0, 0, [], Nat.zero_le _, rfl, rfl, Nat.two_pow_pos s, by rw [List.append_nil]; exact HR0.out, Below.refl _ _, rfl, (fun x hx => by cases hx), by simp [Lim.val]⟩
    case round =>
      obtain ⟨j, mo, r, hj, rfl, rfl, hmo, hrow, hbel, hr, hsr, hval⟩ := hrel
      have HV := Lib.hid hval
      have HR := Lib.hid hr
      have HMO := Lib.hid hmo
      clear hval hr hmo
      have hszr : w.heap.size + 2 ≤ wr.heap.size := Nat.le_trans hsz2 hbel.size
      by_cases hlt : j < l.length
      · rcases HCS.out with ⟨_, hn⟩ | ⟨g, cap, he, hg, _, _, hcell⟩
        · subst hn; simp at hlt
        · injection he with h1 h2 h3
          subst h1 h3
          have hx : l.getD j 0 < 18446744073709551616 := hsm _ (by rw [List.getD, List.getElem?_eq_getElem hlt]; exact List.getElem_mem _)
          have hcl : wr.cell? ⟨g, j, none⟩ = some (.int .u64 (l.getD j 0 : Nat)) := (hbel.cell (by simp; omega)).trans ((hbw2.cell hg).trans (hcell j hlt))
          clear hcell
          have ht := val_take_succ hlt
          generalize hX : l.getD j 0 = x at *
          have HT := Lib.hid ht
          have HX := Lib.hid hX
          clear ht hX h2
          obtain ⟨lo, hi, hhi, hhi2, hhi3, hlo, hor, hsum⟩ := shl_word hx hs64 HMO.out
          have HSH := Lib.hid (pshl_any x s wr hx hs64)
          rw [hhi] at HSH
          generalize hLO : x * 2 ^ s % 18446744073709551616 = lo0 at *
          have HS := Lib.hid hsum
          have HH2 := Lib.hid hhi2
          clear hsum hhi hLO hhi2
          go_wp2_with fail
          refine (HSH.out).mono ?_
          rintro e wx ⟨rfl, hbx⟩
          have hbx2 : Below (w.heap.size + 2) w2 wx := hbel.trans (hbx.mono hszr)
          have hszx : w.heap.size + 2 ≤ wx.heap.size := Nat.le_trans hszr hbx.size
          have hrowx := ((hrow.below hbx).alloc (.cells #[.int .u64 hi, .int .u64 lo] 422)).alloc (.cells #[.int .u64 lo] 30)
          have hlen2 : (List.replicate q 0 ++ r).length ≤ 300 := by have := HR.out; simp; omega
          have hrlt := hrow.lt
          clear hrow hbel hcl
          go_wp2_with (at_builtin; refine append_one elemW rfl _ _ rfl rfl hrowx ⟨wx.heap.size + 1, 0, none⟩ 1 lo rfl ?_ rfl ?_ ?_ ?_ ?_)
          · simp
          · omega
          · unfold maxLen; omega
          · simp; omega
          intro b cap w3 hrow2 hgrow2
          have hb3 : Below (w.heap.size + 2) w2 w3 := ((hbx2.alloc (by omega) (.cells #[.int .u64 hi, .int .u64 lo] 422)).alloc (by simp; omega) (.cells #[.int .u64 lo] 30)).grown hgrow2 (by simp; omega) (fun k hk => (hrowx.lt k hk).1)
          have hp0 : w3.heap[wx.heap.size]? = some (.cells #[.int .u64 hi, .int .u64 lo] 422 (0, 0)) := by
            rw [hgrow2.block _ (by simp; omega) (fun e => by have := (hrlt _ e.symm).2; have := hbx.size; omega)]
            exact (Below.heap_alloc _ _ _ (by simp)).trans (heap_alloc_new wx _)
          have hp1 : w3.cell? ⟨wx.heap.size, 0, none⟩ = some (.int .u64 hi) := by rw [cell_at hp0]; rfl
          have HR2 := Lib.hid hrow2
          clear hrow2 hgrow2 hrowx hp0 hrlt
          go_wp2
          go_roundw
          case rel =>
            refine ⟨j + 1, hi, r ++ [lo], by omega, by go_num, rfl, HH2.out, ?_, hb3, by simp [HR.out], Lim.small_append.2 ⟨hsr, fun y hy => by simp at hy; omega⟩, ?_⟩
            · exact HR2.out
            · rw [HT.out, Lim.val_append, HR.out, Nat.pow_succ]
              simp only [Lim.val, Nat.mul_zero, Nat.add_zero]
              exact shl_step HV.out HS.out
          case measure => simp [intOf]; omega
      · have hjl : j = l.length := by omega
        have hmo64 : mo < 18446744073709551616 := Nat.lt_of_lt_of_le HMO.out (by
          have := Nat.pow_le_pow_right (n := 2) (by decide) (by omega : s ≤ 64); omega)
        have hfin : Lim.val (List.replicate q 0 ++ (r ++ [mo])) = n * 2 ^ k := by
          have h1 := HV.out
          rw [hjl, List.take_length, HVL.out] at h1
          rw [val_zeros, Lim.val_append, HR.out, hjl]
          simp only [Lim.val, Nat.mul_zero, Nat.add_zero]
          rw [h1, HQS.out, Lim.wpow, Nat.pow_add]; exact Nat.mul_left_comm _ _ _
        have HF := Lib.hid hfin
        have hlen2 : (List.replicate q 0 ++ r).length ≤ 300 := by have := HR.out; simp; omega
        clear hfin hjl
        have hrowx := hrow.alloc (.cells #[.int .u64 mo] 30)
        have hb2 : Below (w.heap.size + 2) w2 (wr.alloc (.cells #[.int .u64 mo] 30)) := hbel.alloc hszr _
        clear hrow
        go_wp2_with (at_builtin; refine append_one elemW rfl _ _ rfl rfl hrowx ⟨wr.heap.size, 0, none⟩ 1 mo rfl ?_ rfl ?_ ?_ ?_ ?_)
        · simp
        · omega
        · unfold maxLen; omega
        · simp; omega
        intro b cap w3 hrow2 hgrow2
        have hb3 : Below (w.heap.size + 2) w2 w3 := hb2.grown hgrow2 (by simp; omega) (fun k hk => (hrowx.lt k hk).1)
        have HR2 := Lib.hid hrow2
        clear hrow2 hgrow2 hrowx
        have g4 := (hb3.block _ (by omega)).trans G2'.out
        have hbww : Below w.heap.size w w3 := hbw2.trans (hb3.mono (by omega))
        go_wp2_with fail
        refine (made_any _ (List.replicate q 0 ++ (r ++ [mo])) _ (Lim.small_append.2 ⟨small_zeros q, Lim.small_append.2 ⟨hsr, fun y hy => by simp at hy; omega⟩⟩) (HR2.out.base (Nat.zero_le _))).mono ?_
        rintro e w4 ⟨a3, k3, c3, rfl, hm, hb33⟩
        rw [HF.out] at hm
        have g5 := keep g4 hb33
        have hc5 := cell_of_one g5
        have hf5 := free_of_one g5
        have hbf := chain hbww hb33
        have HM := Lib.hid hm
        clear hm g4 hbel
        go_wp2
        exact bodyPost_ret (v := .tuple #[.agg #[.slice a3 k3 c3], .nilIface]) (by simp [results, Tryz.results253, go_sem, hc5]) rfl ⟨a3, k3, c3, rfl, HM.out.set g5 (by decide) _ _, hbf.setCell (by simp) _⟩
end Go.Proofs.YtakkmiomhackiaaGreatDoor
