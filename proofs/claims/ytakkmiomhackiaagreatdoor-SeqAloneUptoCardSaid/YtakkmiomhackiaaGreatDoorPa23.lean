/-
  The program, one part of its walk: Cm2, Cm3, Cc3. Conditions: none.
-/
import Derived.Test.YtakkmiomhackiaaGreatDoorPa14
import Derived.Test.YtakkmiomhackiaaGreatDoorPa09
import Derived.Shelf.SlSortCmp.Whole1
import Derived.Ground.SlsfProg
import Derived.Test.YtakkmiomhackiaaGreatDoorPa00
set_option linter.all false
set_option maxRecDepth 100000
set_option maxHeartbeats 16000000
open Go.Proofs.Tryz
namespace Go.Proofs.YtakkmiomhackiaaGreatDoor
open Go.RowKit
theorem cmpT_behind {s t : ByteArray} {k : Nat} (h1 : k < s.size) (h2 : k < t.size) : cmpT (s.data.toList.drop k) (t.data.toList.drop k) = if s[k] = t[k] then cmpT (s.data.toList.drop (k + 1)) (t.data.toList.drop (k + 1)) else if rankU s[k] < rankU t[k] then -1 else 1 := by
 rw [drop_at h1, drop_at h2];rfl
theorem cmpT_short {s t : ByteArray} {k : Nat} (hk1 : k ≤ s.size) (hk2 : k ≤ t.size) (h : k = s.size ∨ k = t.size) : cmpT (s.data.toList.drop k) (t.data.toList.drop k) = cmpZ s.size t.size := by
 have e1 : (s.data.toList.drop k).length = s.size - k := by rw [List.length_drop, Array.length_toList]; rfl
 have e2 : (t.data.toList.drop k).length = t.size - k := by rw [List.length_drop, Array.length_toList]; rfl
 unfold cmpZ;cases hl : s.data.toList.drop k with
 | nil =>
  rw [hl] at e1;simp at e1;cases hr : t.data.toList.drop k with
  | nil =>
   rw [hr] at e2;simp at e2;rw [if_neg (by omega), if_neg (by omega)];rfl
  | cons y ys =>
   rw [hr] at e2;simp at e2;rw [if_pos (by omega)];rfl
 | cons x xs =>
  rw [hl] at e1;simp at e1;cases hr : t.data.toList.drop k with
  | nil =>
   rw [hr] at e2;simp at e2;rw [if_neg (by omega), if_pos (by omega)];rfl
  | cons y ys =>
   rw [hr] at e2;simp at e2;omega
theorem unit_last {x y : UInt8} (hne : x ≠ y) : (if rankU x < rankU y then (-1 : Int) else 1) = if 240 ≤ x.toNat ∧ ¬ 240 ≤ y.toNat ∧ 238 ≤ y.toNat then -1 else if 240 ≤ y.toNat ∧ ¬ 240 ≤ x.toNat ∧ 238 ≤ x.toNat then 1 else cmpZ x.toNat y.toNat := by
 have hn : x.toNat ≠ y.toNat := fun h => hne (UInt8.toNat.inj h)
 have hx := x.toNat_lt;have hy := y.toNat_lt;unfold rankU cmpZ
 repeat' split
 all_goals (first | rfl | omega)
theorem compare_any (s t : ByteArray) (hs : rightOf s.data.toList = true) (ht : rightOf t.data.toList = true) (hls : s.size ≤ 2097152) (hlt : t.size ≤ 2097152) (w : World) :
 Calls prog 240 #[.string s, .string t] w fun e w' => e = .returned (.int .i64 (cmpT s.data.toList t.data.toList)) ∧ Dr.Below w.heap.size w w' := by
 have HS := hZ (fun w => Dr.right_any s w (by omega));have HT := hZ (fun w => Dr.right_any t w (by omega));rw [hs] at HS;rw [ht] at HT;clear hs ht;obtain ⟨S, hS⟩ : ∃ S, cmpT s.data.toList t.data.toList = S := ⟨_, rfl⟩;rw [hS];have HSS := hZ hS;clear hS;go_enter func240, ntmps240;go_wp2_with fail;refine (HS.out _).mono ?_;rintro e w1 ⟨rfl, hb1⟩;have HB1 := hZ hb1;clear hb1;go_wp2_with fail;refine (HT.out _).mono ?_;rintro e w2 ⟨rfl, hb2⟩;have HB2 := hZ (Dr.chain HB1.out hb2);clear hb2;go_wp2_with fail
 go_loopw [7] (fun v wr => ∃ k : Nat, k ≤ s.size ∧ k ≤ t.size ∧ v = .int .i64 k ∧ Hid (S = cmpT (s.data.toList.drop k) (t.data.toList.drop k) ∧ Dr.Below w.heap.size w wr)) (fun v _ => s.size - (intOf v).toNat)
 case atStart => exact ⟨0, by omega, by omega, by go_num, hZ ⟨by rw [List.drop_zero, List.drop_zero]; exact HSS.out.symm, HB2.out⟩⟩
 case round =>
  obtain ⟨k, hk1, hk2, rfl, hall⟩ := hrel;clear HSS HB2 HB1
  by_cases h1 : k < s.size
  ·by_cases h2 : k < t.size
   ·by_cases he : s[k] = t[k]
    ·have he2 : ((s[k].toNat : Nat) : Int) = ((t[k].toNat : Nat) : Int) := by rw [he]
     have HE := hZ he;clear he;go_wp2_with fail;go_region
     all_goals go_wp2_with fail
     all_goals refine ⟨⟨k + 1, by omega, by omega, by go_num, hZ ⟨hall.out.1.trans (by rw [cmpT_behind h1 h2, if_pos HE.out]), hall.out.2.drew⟩⟩, by simp [intOf]; omega⟩
    ·have hne : s[k].toNat ≠ t[k].toNat := fun h => he (UInt8.toNat.inj h)
     have HV := hZ (hall.out.1.trans (by rw [cmpT_behind h1 h2, if_neg he, unit_last he]));have HX := hZ (high_any s[k]);have HY := hZ (high_any t[k]);have e1 : ¬ (k : Int) = (s.size : Int) := by omega
     have e2 : ¬ (k : Int) = (t.size : Int) := by omega
     have e1b : ((k : Int) == (s.size : Int)) = false := by simpa using e1
     have e2b : ((k : Int) == (t.size : Int)) = false := by simpa using e2
     obtain ⟨a, ha⟩ : ∃ a, s[k].toNat = a := ⟨_, rfl⟩;obtain ⟨b, hb⟩ : ∃ b, t[k].toNat = b := ⟨_, rfl⟩;have he3 : ¬ ((s[k].toNat : Nat) : Int) = ((t[k].toNat : Nat) : Int) := by omega
     have he4 : (((s[k].toNat : Nat) : Int) == ((t[k].toNat : Nat) : Int)) = false := by simpa using he3
     have ha2 : ((s[k].toNat : Nat) : Int) = (a : Int) := by rw [ha]
     have hb2 : ((t[k].toNat : Nat) : Int) = (b : Int) := by rw [hb]
     rw [ha] at HV HX;rw [hb] at HV HY;clear he ha hb hne
     by_cases px : 240 ≤ a
     ·rw [decide_eq_true px] at HX
      by_cases qy : 240 ≤ b
      ·rw [decide_eq_true qy] at HY;go_wp2_with fail;go_region
       all_goals go_wp2_with fail
       all_goals go_region
       all_goals go_wp2_with (first | (go_at_call 263; (first | refine (HX.out _).mono ?_ | refine (HY.out _).mono ?_); rintro e wx ⟨rfl, rfl⟩) | (go_at_call 264; refine (cmpByte_any _ _ _).mono ?_; rintro e wx ⟨rfl, rfl⟩))
       all_goals go_ret
       all_goals exact ⟨by rw [HV.out]; rw [if_neg (by omega), if_neg (by omega)]; rfl, hall.out.2.drew.drew⟩
      ·rw [decide_eq_false qy] at HY
       by_cases rz : 238 ≤ b
       ·have rz2 : (238 : Int) ≤ (b : Int) := by omega
        go_wp2_with fail;go_region
        all_goals go_wp2_with fail
        all_goals go_region
        all_goals go_wp2_with (first | (go_at_call 263; (first | refine (HX.out _).mono ?_ | refine (HY.out _).mono ?_); rintro e wx ⟨rfl, rfl⟩) | (go_at_call 264; refine (cmpByte_any _ _ _).mono ?_; rintro e wx ⟨rfl, rfl⟩))
        all_goals go_ret
        all_goals exact ⟨by rw [HV.out]; rw [if_pos (by omega)]; rfl, hall.out.2.drew.drew⟩
       ·have rz2 : ¬ (238 : Int) ≤ (b : Int) := by omega
        go_wp2_with fail;go_region
        all_goals go_wp2_with fail
        all_goals go_region
        all_goals go_wp2_with (first | (go_at_call 263; (first | refine (HX.out _).mono ?_ | refine (HY.out _).mono ?_); rintro e wx ⟨rfl, rfl⟩) | (go_at_call 264; refine (cmpByte_any _ _ _).mono ?_; rintro e wx ⟨rfl, rfl⟩))
        all_goals go_ret
        all_goals exact ⟨by rw [HV.out]; rw [if_neg (by omega), if_neg (by omega)]; rfl, hall.out.2.drew.drew⟩
     ·rw [decide_eq_false px] at HX
      by_cases qy : 240 ≤ b
      ·rw [decide_eq_true qy] at HY
       by_cases rz : 238 ≤ a
       ·have rz2 : (238 : Int) ≤ (a : Int) := by omega
        go_wp2_with fail;go_region
        all_goals go_wp2_with fail
        all_goals go_region
        all_goals go_wp2_with (first | (go_at_call 263; (first | refine (HX.out _).mono ?_ | refine (HY.out _).mono ?_); rintro e wx ⟨rfl, rfl⟩) | (go_at_call 264; refine (cmpByte_any _ _ _).mono ?_; rintro e wx ⟨rfl, rfl⟩))
        all_goals go_ret
        all_goals exact ⟨by rw [HV.out]; rw [if_neg (by omega), if_pos (by omega)]; rfl, hall.out.2.drew.drew⟩
       ·have rz2 : ¬ (238 : Int) ≤ (a : Int) := by omega
        go_wp2_with fail;go_region
        all_goals go_wp2_with fail
        all_goals go_region
        all_goals go_wp2_with (first | (go_at_call 263; (first | refine (HX.out _).mono ?_ | refine (HY.out _).mono ?_); rintro e wx ⟨rfl, rfl⟩) | (go_at_call 264; refine (cmpByte_any _ _ _).mono ?_; rintro e wx ⟨rfl, rfl⟩))
        all_goals go_ret
        all_goals exact ⟨by rw [HV.out]; rw [if_neg (by omega), if_neg (by omega)]; rfl, hall.out.2.drew.drew⟩
      ·rw [decide_eq_false qy] at HY;go_wp2_with fail;go_region
       all_goals go_wp2_with fail
       all_goals go_region
       all_goals go_wp2_with (first | (go_at_call 263; (first | refine (HX.out _).mono ?_ | refine (HY.out _).mono ?_); rintro e wx ⟨rfl, rfl⟩) | (go_at_call 264; refine (cmpByte_any _ _ _).mono ?_; rintro e wx ⟨rfl, rfl⟩))
       all_goals go_ret
       all_goals exact ⟨by rw [HV.out]; rw [if_neg (by omega), if_neg (by omega)]; rfl, hall.out.2.drew.drew⟩
   ·have hkt : k = t.size := by omega
    have HV := hZ (hall.out.1.trans (cmpT_short hk1 hk2 (.inr hkt)));have g3 : t.size < s.size := by omega
    have g4 : ¬ (t.size : Int) = (s.size : Int) := by omega
    have g6 : ((t.size : Int) == (s.size : Int)) = false := by simpa using g4
    have g5 : (t.size : Int) < (s.size : Int) := by omega
    subst hkt;go_wp2_with fail;go_region
    all_goals go_wp2_with fail
    all_goals refine (cmpInt_any _ _ _).mono ?_
    all_goals rintro e wx ⟨rfl, rfl⟩
    all_goals go_wp2_with fail
    all_goals go_ret
    all_goals exact ⟨by rw [HV.out]; rfl, hall.out.2.drew⟩
  ·have hks : k = s.size := by omega
   have HV := hZ (hall.out.1.trans (cmpT_short hk1 hk2 (.inl hks)));have e1 : (k : Int) = (s.size : Int) := by omega
   go_wp2_with fail;go_region
   all_goals go_wp2_with fail
   all_goals refine (cmpInt_any _ _ _).mono ?_
   all_goals rintro e wx ⟨rfl, rfl⟩
   all_goals go_wp2_with fail
   all_goals go_ret
   all_goals exact ⟨by rw [HV.out]; rfl, hall.out.2.drew⟩
section
open Go.Shelf Go.RowKit Go.Lib Go.Sort
def Tryz.sortKeys_ren : Go.Shelf.Ren := ⟨fun | 6 => 239 | 15 => 260 | 14 => 259 | 28 => 288 | 29 => 273 | 20 => 280 | 21 => 281 | 22 => 282 | 23 => 283 | 24 => 284 | 25 => 285 | 26 => 286 | 27 => 287 | 46 => 297 | 47 => 298 | 48 => 299 | 49 => 300 | 50 => 301 | 57 => 305 | n => n, fun | 22 => 32 | 24 => 9 | 25 => 352 | 3 => 3 | 39 => 153 | 0 => 0 | 53 => 208 | 55 => 30 | 4 => 4 | 46 => 429 | 45 => 428 | 50 => 204 | 5 => 5 | 9 => 9 | 66 => 437 | 70 => 441 | 76 => 444 | 77 => 65 | n => n, fun | n => n⟩
theorem Tryz.sortKeys : Go.Proofs.SlLaysF.n6 prog Tryz.sortKeys_ren := {
 mixed := by kernel_rfl
 f6 := ⟨Tryz.f239.name, by decide, func239.trans (congrArg some (by kernel_rfl))⟩
 f14 := ⟨Tryz.f259.name, by decide, func259.trans (congrArg some (by kernel_rfl))⟩
 f15 := func260.trans (congrArg some (by kernel_rfl))
 f20 := ⟨Tryz.f280.name, by decide, func280.trans (congrArg some (by kernel_rfl))⟩
 f21 := ⟨Tryz.f281.name, by decide, func281.trans (congrArg some (by kernel_rfl))⟩
 f22 := ⟨Tryz.f282.name, by decide, func282.trans (congrArg some (by kernel_rfl))⟩
 f23 := ⟨Tryz.f283.name, by decide, func283.trans (congrArg some (by kernel_rfl))⟩
 f24 := ⟨Tryz.f284.name, by decide, func284.trans (congrArg some (by kernel_rfl))⟩
 f25 := ⟨Tryz.f285.name, by decide, func285.trans (congrArg some (by kernel_rfl))⟩
 f26 := ⟨Tryz.f286.name, by decide, func286.trans (congrArg some (by kernel_rfl))⟩
 f27 := ⟨Tryz.f287.name, by decide, func287.trans (congrArg some (by kernel_rfl))⟩
 f28 := func288.trans (congrArg some (by kernel_rfl))
 f29 := func273.trans (congrArg some (by kernel_rfl))
 f46 := ⟨Tryz.f297.name, by decide, func297.trans (congrArg some (by kernel_rfl))⟩
 f47 := func298.trans (congrArg some (by kernel_rfl))
 f48 := func299.trans (congrArg some (by kernel_rfl))
 f49 := ⟨Tryz.f300.name, by decide, func300.trans (congrArg some (by kernel_rfl))⟩
 f50 := ⟨Tryz.f301.name, by decide, func301.trans (congrArg some (by kernel_rfl))⟩
 f57 := ⟨Tryz.f305.name, by decide, func305.trans (congrArg some (by kernel_rfl))⟩
 t0 := underlying0
 a0 := isAgg0
 z0 := sizeOf0
 v0 := zeroValue0
 t3 := underlying3
 a3 := isAgg3
 z3 := sizeOf3
 v3 := zeroValue3
 t4 := underlying4
 a4 := isAgg4
 z4 := sizeOf4
 v4 := zeroValue4
 t5 := underlying5
 a5 := isAgg5
 z5 := sizeOf5
 v5 := zeroValue5
 t9 := underlying9
 a9 := isAgg9
 z9 := sizeOf9
 v9 := zeroValue9
 t22 := underlying32
 a22 := isAgg32
 z22 := sizeOf32
 v22 := zeroValue32
 a24 := isAgg9
 z24 := sizeOf9
 t25 := underlying352
 a25 := isAgg352
 z25 := sizeOf352
 v25 := zeroValue352
 t39 := underlying153
 a39 := isAgg153
 z39 := sizeOf153
 v39 := zeroValue153
 t45 := underlying428
 a45 := isAgg428
 z45 := sizeOf428
 v45 := zeroValue428
 t46 := underlying429
 a46 := isAgg429
 z46 := sizeOf429
 v46 := zeroValue429
 t50 := underlying204
 a50 := isAgg204
 z50 := sizeOf204
 v50 := zeroValue204
 t53 := underlying208
 a53 := isAgg208
 z53 := sizeOf208
 v53 := zeroValue208
 t55 := underlying30
 a55 := isAgg30
 z55 := sizeOf30
 v55 := zeroValue30
 t66 := underlying437
 a66 := isAgg437
 z66 := sizeOf437
 v66 := zeroValue437
 t70 := underlying441
 a70 := isAgg441
 z70 := sizeOf441
 v70 := zeroValue441
 t76 := underlying444
 a76 := isAgg444
 z76 := sizeOf444
 v76 := zeroValue444
 t77 := underlying65
 a77 := isAgg65
 z77 := sizeOf65
 v77 := zeroValue65 }
def cmpR (x y : RTxt) : Int := cmpT x.1 y.1
theorem cmpR_swo : SWO (ltOf cmpR) where
 irrefl x := by unfold ltOf cmpR; rw [cmpT_self]; rfl
 trans x y z h1 h2 := by
  unfold ltOf cmpR at *;exact decide_eq_true (cmpT_trans (of_decide_eq_true h1) (of_decide_eq_true h2))
 ntrans x y z h1 h2 := by
  unfold ltOf cmpR at *;have h1 := of_decide_eq_false h1;have h2 := of_decide_eq_false h2;refine decide_eq_false fun h => ?_
  by_cases e1 : cmpT y.1 x.1 < 0
  ·exact h2 (cmpT_trans e1 h)
  ·have := cmpT_total h1 e1;rw [this] at h;exact h2 h
def encR (x : RTxt) : Value := .string ⟨x.1.toArray⟩
theorem cmpLays (blk off size : Nat) (w : World) : CmpLays1 prog 240 #[] encR cmpR blk off size w := by
 intro m os dk hs x y;have hx : (⟨x.1.toArray⟩ : ByteArray).data.toList = x.1 := by simp
 have hy : (⟨y.1.toArray⟩ : ByteArray).data.toList = y.1 := by simp
 have hsx : (⟨x.1.toArray⟩ : ByteArray).size = x.1.length := by show x.1.toArray.size = _; simp
 have hsy : (⟨y.1.toArray⟩ : ByteArray).size = y.1.length := by show y.1.toArray.size = _; simp
 have h := compare_any ⟨x.1.toArray⟩ ⟨y.1.toArray⟩ (by rw [hx]; exact x.2.1) (by rw [hy]; exact y.2.1) (by rw [hsx]; exact x.2.2) (by rw [hsy]; exact y.2.2) (sortWorld encR w blk off m dk os);rw [hx, hy] at h;exact h.mono fun e w' ⟨he, hb⟩ => ⟨he, hb.grew⟩
def sortR (d : Array RTxt) : Array RTxt := pdq (ltOf cmpR) d 0 d.size (Lib.bitLen d.size) true true
theorem sort_any (blk off cap : Nat) (d : Array RTxt) (w : World) (hH : Holds encR w blk off d) (hblk : blk < w.heap.size) (hsz : d.size < 4611686018427387904) :
 Calls prog 239 #[.slice (some ⟨blk, off, none⟩) d.size cap, .func (.func 240) #[] #[]] w fun e w' => e = .returned (.tuple #[]) ∧ ∃ n os, w' = sortWorld encR w blk off n (sortR d) os := by
 have eg : ∀ args w, (callFunc 240 args).run prog w = .ok (.enter 240 args) w := enters_of func240 (by kernel_rfl) rfl;exact Any.slices_SortFunc_eq Tryz.sortKeys encR (fun _ => rfl) cmpR cmpR_swo 240 #[] blk off cap d w eg (cmpLays blk off d.size w) hH hblk hsz
end
theorem replace_none (w : World) (v : Value) (l : List UInt8) (h : Bs w v l) (hv : v = .slice none 0 0 ∨ ∃ g off n c, v = .slice (some ⟨g, off, none⟩) n c) (hl : l.length ≤ 1073741824) (b2 o2 d : Nat) (hc : w.cell? ⟨b2, o2, none⟩ = some (.int .u8 30)) (h0 : l.count 30 = 0) :
 Calls prog 70 #[v, .slice (some ⟨b2, o2, none⟩) 1 d, .slice none 0 0, .int .i64 (-1)] w fun e w' => ∃ v', e = .returned v' ∧ WinN 1 5 w' v' (cleanOf l).length ((cleanOf l).map encB) ∧ Below w.heap.size w w' := by
 have HC := hZ (count_any w v l h hv b2 o2 d hc);rw [h0] at HC;have hcl : cleanOf l = l := clean_none (fun c hc => by rintro rfl; exact absurd (List.count_pos_iff.2 hc) (by omega));rw [hcl];have HL := hZ hl;clear hcl h0 hc hl
 by_cases hn : l = []
 ·subst hn;obtain ⟨a, cap, rfl, _⟩ := h;clear hv;go_enter func70, ntmps70;go_wp2_with fail;refine (HC.out).mono ?_;rintro e w1 ⟨rfl, rfl⟩;have HW := hZ (WinN.nil 1 5 w1)
  go_wp2_with (at_builtin; refine append_winN0 elemB1 rfl _ _ rfl rfl HW.out a cap rfl ?_)
  exact bodyPost_ret (v := .slice none 0 0) (by simp [results, results70, go_sem]) rfl ⟨_, rfl, HW.out, Below.refl _ _⟩
 ·obtain ⟨g, off, cap, rfl, h1, h2, h3⟩ := h.cells hn
  have HN := hZ (show ∀ j u, (l.map encB)[j]? = some u → w.cell? ((⟨g, off, none⟩ : Addr).add j) = some u from fun j u hj => by
   rw [List.getElem?_map] at hj;cases hlj : l[j]? with
   | none => rw [hlj] at hj; cases hj
   | some x =>
    rw [hlj] at hj;simp at hj;subst hj;rw [show (⟨g, off, none⟩ : Addr).add j = ⟨g, off + j, none⟩ by unfold Addr.add; split <;> simp_all];exact h3 j x hlj)
  have HPOS : Hid (1 ≤ l.length) := hZ (List.length_pos_iff.2 hn);clear hv h h1 h2 h3 hn;go_enter func70, ntmps70;go_wp2_with fail;refine (HC.out).mono ?_;rintro e w1 ⟨rfl, rfl⟩;have HW := hZ (WinN.nil 1 5 w1)
  go_wp2_with (at_builtin; refine append_winN elemB1 rfl _ _ rfl rfl HW.out ⟨g, off, none⟩ l.length cap (l.map encB) rfl ?_ HN.out ?_ HPOS.out ?_ ?_ ?_)
  ·rw [List.length_map]; omega
  ·intro u hu;rw [List.mem_map] at hu;obtain ⟨x, _, rfl⟩ := hu;rfl
  ·have := HL.out; omega
  ·have := HL.out; unfold maxLen; omega
  intro g2 off2 cap2 w3 hw3 hg3 hk3;have HW3 := hZ hw3;have HK3 := hZ hk3;clear hw3 hg3 hk3;go_wp2_with fail;refine bodyPost_ret (v := .slice (some ⟨g2, off2, none⟩) (0 + l.length) cap2) (by simp [results, results70, go_sem]) rfl ⟨_, rfl, ?_, HK3.out.toBelow (Nat.le_refl _) (fun k h => by cases h)⟩;have := HW3.out
  simpa using this
theorem elemZB : ElemZ 22 5 1 (encB 0) := ⟨underlying22, by
 have h : (prog.info? 5).map (fun i => (i.zero, i.size, i.bytes)) = some (some (.int .u8 0), 1, 1) := by kernel_rfl
 obtain ⟨i, h1, h2, h3, h4⟩ := info_parts h;exact ⟨i, h1, h2, h3, h4, rfl⟩⟩
theorem rep_new {w w2 : World} {l : List UInt8} {m N B : Nat} (hm : l.count 30 = m) (hr : Row B 5 encB w2 (.slice (some ⟨w.heap.size, 0, none⟩) N N) (List.replicate N (0 : UInt8))) (hb : Below w.heap.size w w2) : RepAt w l m N 0 0 0 w2 := by
 refine ⟨Nat.zero_le _, Nat.zero_le _, by rw [List.drop_zero, hm, Nat.sub_zero], rfl, ?_⟩;rcases Win.of_row hr with ⟨e, _⟩ | ⟨g, off, cap, cur, e, hg, hc, ho, _⟩
 ·cases e
 ·injection e with e1 e2 e3
  injection e1 with e1
  injection e1 with e4 e5
  subst e4 e5 e3;refine ⟨hb, fun j hj => ?_, fun j hj => free_at hg _, fun j x hx => by simp [cleanOf] at hx, Nat.zero_le _⟩;rw [cell_at hg, Array.getElem?_eq_getElem (by omega)];rfl
theorem rep_take {l a rest : List UInt8} {p : Nat} (e1 : l.drop p = a ++ 30 :: rest) (e2 : ∀ c ∈ a, c ≠ 30) : cleanOf (l.take (p + a.length + 1)) = cleanOf (l.take p) ++ a ∧ l.drop (p + a.length + 1) = rest := by
 constructor
 ·rw [Nat.add_assoc, List.take_add, e1];unfold cleanOf;rw [List.filter_append];congr 1
  have : (a ++ 30 :: rest).take (a.length + 1) = a ++ [30] := by
   rw [show a ++ 30 :: rest = (a ++ [30]) ++ rest by simp, show a.length + 1 = (a ++ [30]).length by simp, List.take_left]
  rw [this];have h := clean_split (l := a ++ [30]) (rest := []) rfl e2;unfold cleanOf at h;rw [h]; simp
 ·rw [Nat.add_assoc, ← List.drop_drop, e1];simp
theorem rep_fit {w wr : World} {l : List UInt8} {m N r p q : Nat} (h : RepAt w l m N r p q wr) (hN : (cleanOf l).length = N) {a rest : List UInt8} (e1 : l.drop p = a ++ 30 :: rest) (e2 : ∀ c ∈ a, c ≠ 30) : q + a.length ≤ N := by
 have h1 := rep_take e1 e2
 have h2 : cleanOf l = cleanOf (l.take (p + a.length + 1)) ++ cleanOf (l.drop (p + a.length + 1)) := by
  unfold cleanOf; rw [← List.filter_append, List.take_append_drop]
 rw [← hN, h2, h1.1, List.length_append, List.length_append, h.hq];omega
theorem rep_holds {w : World} {l : List UInt8} {g off : Nat} (h3 : ∀ (i : Nat) x, l[i]? = some x → w.cell? ⟨g, off + i, none⟩ = some (encB x)) {p k : Nat} {a : List UInt8} (ha : (l.drop p).take k = a) (n c : Nat) (hn : n = a.length) : Lib.HoldsBytes w (.slice (some ⟨g, off + p, none⟩) n c) a := by
 subst hn;refine ⟨some ⟨g, off + p, none⟩, c, rfl, ⟨(fun h => by simp at h), fun ad hd j x hj => ?_⟩⟩;cases hd;rw [show (⟨g, off + p, none⟩ : Addr).add j = ⟨g, off + (p + j), none⟩ by unfold Addr.add; split <;> simp_all [Nat.add_assoc]];refine h3 _ x ?_;rw [← ha, List.getElem?_take] at hj;split at hj
 ·rw [List.getElem?_drop] at hj; exact hj
 ·cases hj
theorem Buf.drew {w wr : World} {h N : Nat} {acc : List UInt8} (b : Lib.Buf w wr h N acc) : Lib.Buf w wr.drew h N acc := ⟨b.below.drew, b.there, b.free, b.holds, b.fits⟩
theorem rep_copy {w wr : World} {l : List UInt8} {m N r p q : Nat} (h : RepAt w l m N r p q wr) {a : List UInt8} {v : Value} (hv : Lib.HoldsBytes w v a) (hf : q + a.length ≤ N) :
 ∃ w3, (Builtin.copy_ #[22, 22] 3 #[Lib.tailV w.heap.size N q, v]).run prog wr.drew = .ok (.int .i64 (a.length : Int)) w3 ∧ Lib.Buf w w3 w.heap.size N (cleanOf (l.take p) ++ a) := by
 have := Lib.copy_part (P := prog) w wr.drew w.heap.size N (cleanOf (l.take p)) a v 22 3 5 underlying22 (by kernel_rfl) (Nat.le_refl _) (Buf.drew h.buf) hv (by rw [← h.hq]; exact hf);rw [← h.hq] at this;exact this
theorem rep_copy2 {w w3 : World} {N n : Nat} {acc : List UInt8} (h : Lib.Buf w w3 w.heap.size N acc) (hn : acc.length = n) (hf : n ≤ N) :
 ∃ w4, (Builtin.copy_ #[22, 22] 3 #[Lib.tailV w.heap.size N n, .slice none 0 0]).run prog w3 = .ok (.int .i64 0) w4 ∧ Lib.Buf w w4 w.heap.size N acc := by
 subst hn;have := Lib.copy_part (P := prog) w w3 w.heap.size N acc [] (.slice none 0 0) 22 3 5 underlying22 (by kernel_rfl) (Nat.le_refl _) h ⟨none, 0, rfl, fun _ => rfl, fun a h => nomatch h⟩ (by simpa using hf);rw [List.append_nil] at this;exact this
theorem rep_next {w wr w4 : World} {l : List UInt8} {m N r p q : Nat} (h : RepAt w l m N r p q wr) {a rest : List UInt8} (e1 : l.drop p = a ++ 30 :: rest) (e2 : ∀ c ∈ a, c ≠ 30) (hlt : r < m) (hb : Lib.Buf w w4 w.heap.size N (cleanOf (l.take p) ++ a)) :
 RepAt w l m N (r + 1) (p + a.length + 1) (q + a.length) w4 := by
 obtain ⟨h1, h2⟩ := rep_take e1 e2;have hl := congrArg List.length e1;simp at hl;refine ⟨by omega, by omega, ?_, ?_, ?_⟩
 ·rw [h2];have := h.cnt;rw [e1, List.count_append, List.count_cons_self, List.count_eq_zero.2 (fun hc => e2 30 hc rfl)] at this;omega
 ·rw [h1, List.length_append, h.hq]
 ·rw [h1]; exact hb
theorem rep_done {w w3 : World} {N : Nat} {l : List UInt8} (h : Lib.Buf w w3 w.heap.size N (cleanOf l)) (hN : (cleanOf l).length = N) (hm : N ≤ maxLen) : Bs w3 (.slice (some ⟨w.heap.size, 0, none⟩) N N) (cleanOf l) := by
 subst hN;exact ⟨_, _, rfl, Nat.le_refl _, hm, .inr ⟨_, 0, rfl, fun i x hx => by rw [Nat.zero_add]; exact h.holds i x hx⟩⟩
theorem slice_end {g off n : Nat} (W : World) : (Instr.slice 22 (.slice (some ⟨g, off, none⟩) n n) (some (.int .i64 (n : Int))) none none).run prog W = .ok (.slice (some ⟨g, off, none⟩) 0 0) W := by
 have ht' : prog.underlying 22 = some (.slice (prog.elem 22)) := by simp [Program.elem, underlying22]
 have he : prog.elem 22 = 5 := by simp [Program.elem, underlying22]
 have hz : (Go.sizeOf 5).run prog W = .ok 1 W := by kernel_rfl
 rw [run_slice_l W 22 _ _ _ ht' .i64 _ (by omega) (by omega), he, hz];simp [Result.andThen, sliced]
theorem replace_some (w : World) (l : List UInt8) (g off cap : Nat) (h1 : l.length ≤ cap) (h2 : cap ≤ maxLen) (h3 : ∀ (i : Nat) x, l[i]? = some x → w.cell? ⟨g, off + i, none⟩ = some (encB x)) (hl : l.length ≤ 1073741824) (b2 o2 d : Nat) (hc : w.cell? ⟨b2, o2, none⟩ = some (.int .u8 30)) (h0 : 0 < l.count 30) :
 Calls prog 70 #[.slice (some ⟨g, off, none⟩) l.length cap, .slice (some ⟨b2, o2, none⟩) 1 d, .slice none 0 0, .int .i64 (-1)] w fun e w' => ∃ v', e = .returned v' ∧ (∃ N, v' = .slice (some ⟨w.heap.size, 0, none⟩) N N) ∧ Bs w' v' (cleanOf l) ∧ Below w.heap.size w w' := by
 have HC := hZ (count_any w _ l ⟨_, cap, rfl, h1, h2, .inr ⟨g, off, rfl, h3⟩⟩ (.inr ⟨_, _, _, _, rfl⟩) b2 o2 d hc);obtain ⟨m, hm⟩ : ∃ m, l.count 30 = m := ⟨_, rfl⟩;obtain ⟨N, hN⟩ : ∃ N, (cleanOf l).length = N := ⟨_, rfl⟩;have hNm : N + m = l.length := by rw [← hN, ← hm]; exact clean_length l
 rw [hm] at HC h0;have HM := hZ hm;have HN := hZ hN;have HBD := hZ (And.intro hNm (And.intro hl (And.intro h1 h2)));have j1 : ¬ (m : Int) = 0 := by omega
 have j2 : ((m : Int) == 0) = false := by simpa using j1
 have j3 : IntKind.i64.wrap (-(m : Int)) = -(m : Int) := by rw [IntKind.wrap_i64]; omega
 have j4 : IntKind.i64.wrap ((l.length : Int) + -(m : Int)) = (N : Int) := by rw [IntKind.wrap_i64]; omega
 have j5 : (0 : Int) ≤ (N : Int) := by omega
 have j6 : (N : Int) ≤ 1073741824 := by omega
 clear hm hN hNm hl h1 h2;go_enter func70, ntmps70;go_wp2_with fail;refine (HC.out).mono ?_;rintro e w1 ⟨rfl, rfl⟩
 go_wp2_with (at_make; refine make_row (B := w1.heap.size) (enc := encB) 0 elemZB rfl _ _ rfl _ _ _ _ N N rfl rfl ?_ ?_ ?_ ?_ ?_ ?_ ?_)
 ·first | rfl | omega
 ·first | rfl | omega
 ·omega
 ·omega
 ·unfold maxLen; omega
 ·exact Nat.le_refl _
 intro w2 hrow hbm;have H0 : Hid (RepAt w1 l m N 0 0 0 w2) := hZ (rep_new HM.out hrow hbm);have HSL := hZ (fun W bp hb => Lib.run_slice_tailV (P := prog) W 22 5 underlying22 (fun w => by kernel_rfl) w1.heap.size N bp hb);clear hrow hbm;go_wp2_with fail
 go_loopw [11, 12, 49] (fun qv pv rv wr => ∃ q p r : Nat, qv = .int .i64 q ∧ pv = .int .i64 p ∧ rv = .int .i64 r ∧ Hid (RepAt w1 l m N r p q wr)) (fun _ _ rv _ => m - (intOf rv).toNat)
 case atStart => exact ⟨0, 0, 0, rfl, rfl, rfl, H0⟩
 case round =>
  obtain ⟨q, p, r, rfl, rfl, rfl, HR⟩ := hrel
  by_cases hlt : r < m
  ·obtain ⟨a, rest, e1, e2, e3⟩ := index_at (l.drop p) 30 (by rw [HR.out.cnt]; omega);have hlen : l.length - p = a.length + 1 + rest.length := by have := congrArg List.length e1; simp at this; omega
   have hcd : wr.cell? ⟨b2, o2, none⟩ = some (.int .u8 30) := (HR.out.buf.below.cell (World.block_lt_of_cell? w1 _ hc)).trans hc
   have HIX := hZ (fun (n c : Nat) (hn : n = (l.drop p).length) => index_one wr g (off + p) n c (l.drop p) hn (fun i x hi => by
    rw [List.getElem?_drop] at hi;have hx := h3 (p + i) x hi;rw [Nat.add_assoc];exact (HR.out.buf.below.cell (World.block_lt_of_cell? w1 _ hx)).trans hx) b2 o2 d hcd)
   rw [e3] at HIX;have hb := HBD.out;have k1 : (p : Int) ≤ (l.length : Int) := by omega
   have k2 : (p : Int) ≤ (cap : Int) := by omega
   have k3 : ¬ cap = p := by omega
   have k4 : (cap : Int) ≤ 9223372036854775807 := by unfold maxLen at hb; omega
   have hq : q ≤ N := by have := HR.out.buf.fits; rw [← HR.out.hq] at this; exact this
   have hsl : ∀ W, (Instr.slice 22 (.slice (some ⟨w1.heap.size, 0, none⟩) N N) (some (.int .i64 (q : Int))) none none).run prog W = .ok (Lib.tailV w1.heap.size N q) W := fun W => HSL.out W q hq
   have hfit : q + a.length ≤ N := rep_fit HR.out HN.out e1 e2;obtain ⟨w3, hr3, hb3⟩ := rep_copy HR.out (rep_holds h3 (p := p) (k := a.length) (a := a) (by rw [e1]; simp) (p + a.length - p) (cap - p) (by omega)) hfit;obtain ⟨w4, hr4, hb4⟩ := rep_copy2 hb3 (show (cleanOf (l.take p) ++ a).length = q + a.length by rw [List.length_append, HR.out.hq]) hfit;have hsl2 : ∀ W, (Instr.slice 22 (.slice (some ⟨w1.heap.size, 0, none⟩) N N) (some (.int .i64 ((q : Int) + (a.length : Int)))) none none).run prog W = .ok (Lib.tailV w1.heap.size N (q + a.length)) W := fun W => HSL.out W (q + a.length) hfit
   have k8 : IntKind.i64.wrap ((q : Int) + (a.length : Int)) = (q : Int) + (a.length : Int) := by rw [IntKind.wrap_i64]; omega
   have k9 : IntKind.i64.wrap ((p : Int) + (a.length : Int) + 1) = (p : Int) + (a.length : Int) + 1 := by rw [IntKind.wrap_i64]; omega
   have HB4 := hZ hb4;have HE := hZ (And.intro e1 (And.intro e2 hlt));clear e1 e2 hb3 hb4;have k5 : IntKind.i64.wrap ((p : Int) + (a.length : Int)) = (p : Int) + (a.length : Int) := by rw [IntKind.wrap_i64]; omega
   have k6 : (p : Int) ≤ (p : Int) + (a.length : Int) := by omega
   have k7 : (p : Int) + (a.length : Int) ≤ (cap : Int) := by omega
   go_wp2_with fail;refine (HIX.out _ _ (by rw [HE.out.1]; simp; omega)).mono ?_;rintro e w5 ⟨rfl, rfl⟩;go_wp2_with fail
   go_region_law (refine step_copy_run w5.drew rfl (.tmp 61) (.tmp 65) 22 22 rfl (Lib.tailV w1.heap.size N q) (.slice (some ⟨g, off + p, none⟩) (p + a.length - p) (cap - p)) (by kernel_rfl) (by kernel_rfl) hr3 ?_)
   go_simp
   go_wp2_with (at_builtin; refine Lib.wpList_copy_run _ rfl _ _ _ _ rfl _ _ rfl rfl hr4 ?_)
   exact ⟨⟨q + a.length, p + a.length + 1, r + 1, rfl, rfl, rfl, hZ (rep_next HR.out HE.out.1 HE.out.2.1 HE.out.2.2 HB4.out)⟩, by simp [intOf]; have := HE.out.2.2; omega⟩
  ·have hrm : r = m := by have := HR.out.hr; omega
   subst hrm;have hb := HBD.out;have hp := HR.out.hp
   have hcnt : ∀ c ∈ l.drop p, c ≠ 30 := by
    intro c hc;rintro rfl;have := List.count_pos_iff.2 hc;rw [HR.out.cnt] at this;omega
   have hall : cleanOf (l.take p) ++ l.drop p = cleanOf l := by
    rw [← clean_none hcnt];unfold cleanOf;rw [← List.filter_append, List.take_append_drop]
   have hq : q + (l.length - p) = N := by
    have := congrArg List.length hall;rw [List.length_append, ← HR.out.hq, HN.out, List.length_drop] at this;exact this
   have hsl : ∀ W, (Instr.slice 22 (.slice (some ⟨w1.heap.size, 0, none⟩) N N) (some (.int .i64 (q : Int))) none none).run prog W = .ok (Lib.tailV w1.heap.size N q) W := fun W => HSL.out W q (by omega)
   have k1 : (p : Int) ≤ (l.length : Int) := by omega
   have k2 : (p : Int) ≤ (cap : Int) := by omega
   have k4 : (cap : Int) ≤ 9223372036854775807 := by unfold maxLen at hb; omega
   have k8 : IntKind.i64.wrap ((q : Int) + ((l.length - p : Nat) : Int)) = (N : Int) := by rw [IntKind.wrap_i64]; omega
   by_cases hcp : cap = p
   ·have hlp : l.length - p = 0 := by omega
    have hld : l.drop p = [] := List.drop_eq_nil_of_le (by omega);obtain ⟨w3, hr3, hb3⟩ := rep_copy HR.out (a := []) (v := .slice (some ⟨g, off, none⟩) 0 0) ⟨some ⟨g, off, none⟩, 0, rfl, (fun h => by simp at h), fun ad hd j x hj => by simp at hj⟩ (by simp; omega);rw [hld, List.append_nil] at hall;rw [List.append_nil, hall] at hb3;have HB3 := hZ hb3;have hq2 : q = N := by omega
    have hpl : p = l.length := by omega
    subst hcp;have hse := slice_end (g := g) (off := off) (n := cap);have hlc : l.length = cap := by omega
    rw [hlc] at k1 k8;rw [hlc];subst hq2;clear hb3 hall hcnt hld hq hpl hlp;have k9 : IntKind.i64.wrap (q : Int) = (q : Int) := by rw [IntKind.wrap_i64]; omega
    go_wp2_with fail
    go_region_law (refine step_copy_run wr.drew rfl (.tmp 123) (.tmp 126) 22 22 rfl (Lib.tailV w1.heap.size q q) (.slice (some ⟨g, off, none⟩) 0 0) (by kernel_rfl) (by kernel_rfl) hr3 ?_)
    go_simp
    go_wp2_with fail;exact bodyPost_ret (v := .slice (some ⟨w1.heap.size, 0, none⟩) q q) (by simp [results, results70, go_sem]) rfl ⟨_, rfl, ⟨_, rfl⟩, rep_done HB3.out HN.out (by unfold maxLen; omega), HB3.out.below⟩
   ·obtain ⟨w3, hr3, hb3⟩ := rep_copy HR.out (rep_holds h3 (p := p) (k := l.length) (a := l.drop p) (List.take_of_length_le (by simp)) (l.length - p) (cap - p) (by simp)) (by rw [List.length_drop]; omega);rw [hall] at hb3;rw [List.length_drop] at hr3;have HB3 := hZ hb3;clear hb3 hall hcnt;go_wp2_with fail
    go_region_law (refine step_copy_run wr.drew rfl (.tmp 123) (.tmp 126) 22 22 rfl (Lib.tailV w1.heap.size N q) (.slice (some ⟨g, off + p, none⟩) (l.length - p) (cap - p)) (by kernel_rfl) (by kernel_rfl) hr3 ?_)
    go_simp
    go_wp2_with fail;have hm := HBD.out.2.2.2;have hl := HBD.out.2.1;refine bodyPost_ret (v := .slice (some ⟨w1.heap.size, 0, none⟩) N N) (by simp [results, results70, go_sem]) rfl ⟨_, rfl, ⟨_, rfl⟩, rep_done HB3.out HN.out (by unfold maxLen; omega), HB3.out.below⟩
end Go.Proofs.YtakkmiomhackiaaGreatDoor
