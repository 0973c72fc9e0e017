/-
  The program, one part of its walk: Cm3, Mp. Conditions: none.
-/
import Derived.Test.YtakkmiomhackiaaGreatDoorPc12
import Derived.Shelf.SlSortCmp.Whole1
import Derived.Ground.SlsfProg
import Derived.Test.YtakkmiomhackiaaGreatDoorPc15
import Derived.Maps.OwnSet
set_option linter.all false
set_option maxRecDepth 100000
set_option maxHeartbeats 16000000
namespace Go.Proofs.YtakkmiomhackiaaGreatDoor
open Go.RowKit
section
open Go.Shelf Go.RowKit Go.Lib Go.Sort
def Tryz.sortKeys_ren : Go.Shelf.Ren := ⟨fun | 6 => 239 | 15 => 260 | 14 => 259 | 28 => 288 | 29 => 273 | 20 => 280 | 21 => 281 | 22 => 282 | 23 => 283 | 24 => 284 | 25 => 285 | 26 => 286 | 27 => 287 | 46 => 297 | 47 => 298 | 48 => 299 | 49 => 300 | 50 => 301 | 57 => 305 | n => n, fun | 22 => 32 | 24 => 9 | 25 => 352 | 3 => 3 | 39 => 153 | 0 => 0 | 53 => 208 | 55 => 30 | 4 => 4 | 46 => 429 | 45 => 428 | 50 => 204 | 5 => 5 | 9 => 9 | 66 => 437 | 70 => 441 | 76 => 444 | 77 => 65 | n => n, fun | n => n⟩
theorem Tryz.sortKeys : Go.Proofs.SlLaysF.n6 Tryz.prog Tryz.sortKeys_ren := {
 mixed := by kernel_rfl
 f6 := ⟨Tryz.f239.name, by decide, Tryz.func239.trans (congrArg some (by kernel_rfl))⟩
 f14 := ⟨Tryz.f259.name, by decide, Tryz.func259.trans (congrArg some (by kernel_rfl))⟩
 f15 := Tryz.func260.trans (congrArg some (by kernel_rfl))
 f20 := ⟨Tryz.f280.name, by decide, Tryz.func280.trans (congrArg some (by kernel_rfl))⟩
 f21 := ⟨Tryz.f281.name, by decide, Tryz.func281.trans (congrArg some (by kernel_rfl))⟩
 f22 := ⟨Tryz.f282.name, by decide, Tryz.func282.trans (congrArg some (by kernel_rfl))⟩
 f23 := ⟨Tryz.f283.name, by decide, Tryz.func283.trans (congrArg some (by kernel_rfl))⟩
 f24 := ⟨Tryz.f284.name, by decide, Tryz.func284.trans (congrArg some (by kernel_rfl))⟩
 f25 := ⟨Tryz.f285.name, by decide, Tryz.func285.trans (congrArg some (by kernel_rfl))⟩
 f26 := ⟨Tryz.f286.name, by decide, Tryz.func286.trans (congrArg some (by kernel_rfl))⟩
 f27 := ⟨Tryz.f287.name, by decide, Tryz.func287.trans (congrArg some (by kernel_rfl))⟩
 f28 := Tryz.func288.trans (congrArg some (by kernel_rfl))
 f29 := Tryz.func273.trans (congrArg some (by kernel_rfl))
 f46 := ⟨Tryz.f297.name, by decide, Tryz.func297.trans (congrArg some (by kernel_rfl))⟩
 f47 := Tryz.func298.trans (congrArg some (by kernel_rfl))
 f48 := Tryz.func299.trans (congrArg some (by kernel_rfl))
 f49 := ⟨Tryz.f300.name, by decide, Tryz.func300.trans (congrArg some (by kernel_rfl))⟩
 f50 := ⟨Tryz.f301.name, by decide, Tryz.func301.trans (congrArg some (by kernel_rfl))⟩
 f57 := ⟨Tryz.f305.name, by decide, Tryz.func305.trans (congrArg some (by kernel_rfl))⟩
 t0 := Tryz.underlying0
 a0 := Tryz.isAgg0
 z0 := Tryz.sizeOf0
 v0 := Tryz.zeroValue0
 t3 := Tryz.underlying3
 a3 := Tryz.isAgg3
 z3 := Tryz.sizeOf3
 v3 := Tryz.zeroValue3
 t4 := Tryz.underlying4
 a4 := Tryz.isAgg4
 z4 := Tryz.sizeOf4
 v4 := Tryz.zeroValue4
 t5 := Tryz.underlying5
 a5 := Tryz.isAgg5
 z5 := Tryz.sizeOf5
 v5 := Tryz.zeroValue5
 t9 := Tryz.underlying9
 a9 := Tryz.isAgg9
 z9 := Tryz.sizeOf9
 v9 := Tryz.zeroValue9
 t22 := Tryz.underlying32
 a22 := Tryz.isAgg32
 z22 := Tryz.sizeOf32
 v22 := Tryz.zeroValue32
 a24 := Tryz.isAgg9
 z24 := Tryz.sizeOf9
 t25 := Tryz.underlying352
 a25 := Tryz.isAgg352
 z25 := Tryz.sizeOf352
 v25 := Tryz.zeroValue352
 t39 := Tryz.underlying153
 a39 := Tryz.isAgg153
 z39 := Tryz.sizeOf153
 v39 := Tryz.zeroValue153
 t45 := Tryz.underlying428
 a45 := Tryz.isAgg428
 z45 := Tryz.sizeOf428
 v45 := Tryz.zeroValue428
 t46 := Tryz.underlying429
 a46 := Tryz.isAgg429
 z46 := Tryz.sizeOf429
 v46 := Tryz.zeroValue429
 t50 := Tryz.underlying204
 a50 := Tryz.isAgg204
 z50 := Tryz.sizeOf204
 v50 := Tryz.zeroValue204
 t53 := Tryz.underlying208
 a53 := Tryz.isAgg208
 z53 := Tryz.sizeOf208
 v53 := Tryz.zeroValue208
 t55 := Tryz.underlying30
 a55 := Tryz.isAgg30
 z55 := Tryz.sizeOf30
 v55 := Tryz.zeroValue30
 t66 := Tryz.underlying437
 a66 := Tryz.isAgg437
 z66 := Tryz.sizeOf437
 v66 := Tryz.zeroValue437
 t70 := Tryz.underlying441
 a70 := Tryz.isAgg441
 z70 := Tryz.sizeOf441
 v70 := Tryz.zeroValue441
 t76 := Tryz.underlying444
 a76 := Tryz.isAgg444
 z76 := Tryz.sizeOf444
 v76 := Tryz.zeroValue444
 t77 := Tryz.underlying65
 a77 := Tryz.isAgg65
 z77 := Tryz.sizeOf65
 v77 := Tryz.zeroValue65 }
def cmpR (x y : RTxt) : Int := cmpT x.1 y.1
theorem cmpR_swo : SWO (ltOf cmpR) where
 irrefl x := by unfold ltOf cmpR; rw [cmpT_self]; rfl
 trans x y z h1 h2 := by
  unfold ltOf cmpR at *;exact decide_eq_true (cmpT_trans (of_decide_eq_true h1) (of_decide_eq_true h2))
 ntrans x y z h1 h2 := by
  unfold ltOf cmpR at *;have h1 := of_decide_eq_false h1;have h2 := of_decide_eq_false h2;refine decide_eq_false fun h => ?_
  by_cases e1 : cmpT y.1 x.1 < 0
  ·exact h2 (cmpT_trans e1 h)
  ·have := cmpT_total h1 e1;rw [this] at h;exact h2 h
def encR (x : RTxt) : Value := .string ⟨x.1.toArray⟩
theorem cmpLays (blk off size : Nat) (w : World) : CmpLays1 Tryz.prog 240 #[] encR cmpR blk off size w := by
 intro m os dk hs x y;have hx : (⟨x.1.toArray⟩ : ByteArray).data.toList = x.1 := by simp
 have hy : (⟨y.1.toArray⟩ : ByteArray).data.toList = y.1 := by simp
 have hsx : (⟨x.1.toArray⟩ : ByteArray).size = x.1.length := by show x.1.toArray.size = _; simp
 have hsy : (⟨y.1.toArray⟩ : ByteArray).size = y.1.length := by show y.1.toArray.size = _; simp
 have h := compare_any ⟨x.1.toArray⟩ ⟨y.1.toArray⟩ (by rw [hx]; exact x.2.1) (by rw [hy]; exact y.2.1) (by rw [hsx]; exact x.2.2) (by rw [hsy]; exact y.2.2) (sortWorld encR w blk off m dk os);rw [hx, hy] at h;exact h.mono fun e w' ⟨he, hb⟩ => ⟨he, hb.grew⟩
def sortR (d : Array RTxt) : Array RTxt := pdq (ltOf cmpR) d 0 d.size (Lib.bitLen d.size) true true
theorem sort_any (blk off cap : Nat) (d : Array RTxt) (w : World) (hH : Holds encR w blk off d) (hblk : blk < w.heap.size) (hsz : d.size < 4611686018427387904) :
 Calls Tryz.prog 239 #[.slice (some ⟨blk, off, none⟩) d.size cap, .func (.func 240) #[] #[]] w fun e w' => e = .returned (.tuple #[]) ∧ ∃ n os, w' = sortWorld encR w blk off n (sortR d) os := by
 have eg : ∀ args w, (callFunc 240 args).run Tryz.prog w = .ok (.enter 240 args) w := enters_of Tryz.func240 (by kernel_rfl) rfl;exact Any.slices_SortFunc_eq Tryz.sortKeys encR (fun _ => rfl) cmpR cmpR_swo 240 #[] blk off cap d w eg (cmpLays blk off d.size w) hH hblk hsz
end
theorem keyed9 : Maps.Keyed Tryz.prog 9 := Maps.string_keyed Tryz.underlying9
theorem key9 (k : List UInt8) (h : k.length ≤ maxLen) : keyOf Tryz.prog 9 (encS k) = some (.string k) := by
 have hs : (⟨k.toArray⟩ : ByteArray).size ≤ maxLen := by show k.toArray.size ≤ _; simpa using h
 have e := WideMaps.keyOf_string_mk (P := Tryz.prog) Tryz.underlying9 hs;unfold encS
 simpa using e
def idxD : List (List UInt8) → DataW Unit
 | [] => .map []
 | k :: r => (idxD r).put (.string k) (.lit (.int .i64 r.length))
def metD : List (List UInt8) → DataW Unit
 | [] => .map []
 | k :: r => (metD r).put (.string k) (.agg [])
theorem idxD_map : ∀ r, Maps.IsMap (idxD r)
 | [] => Maps.isMap_empty
 | k :: r => (idxD_map r).put _ _
theorem metD_map : ∀ r, Maps.IsMap (metD r)
 | [] => Maps.isMap_empty
 | k :: r => (metD_map r).put _ _
theorem has_idxD (k : List UInt8) : ∀ r, Maps.has (idxD r) (.string k) = decide (k ∈ r)
 | [] => rfl
 | x :: r => by
  unfold idxD
  by_cases h : k = x
  ·subst h;rw [Maps.has_put_same (idxD_map r) (show WideAt.IsKeyLit (.string _) from trivial)];simp
  ·rw [Maps.has_put_other (by simpa using h), has_idxD k r];simp [h]
theorem has_metD (k : List UInt8) : ∀ r, Maps.has (metD r) (.string k) = decide (k ∈ r)
 | [] => rfl
 | x :: r => by
  unfold metD
  by_cases h : k = x
  ·subst h;rw [Maps.has_put_same (metD_map r) (show WideAt.IsKeyLit (.string _) from trivial)];simp
  ·rw [Maps.has_put_other (by simpa using h), has_metD k r];simp [h]
theorem at_idxD {k : List UInt8} (z : DataW Unit) : ∀ (r : List (List UInt8)), r.Nodup → ∀ i : Nat, r.reverse[i]? = some k → (idxD r).atKey (.string k) z = .lit (.int .i64 i)
 | [], _, i, h => by simp at h
 | x :: r, hnd, i, h => by
  have hn := List.nodup_cons.1 hnd;unfold idxD;rw [List.reverse_cons] at h
  by_cases hi : i < r.reverse.length
  ·rw [List.getElem?_append_left hi] at h
   have hm : k ∈ r := by
    have := List.mem_of_getElem? h
    simpa using this
   have hne : k ≠ x := fun e => hn.1 (e ▸ hm)
   rw [Maps.atKey_put_other (by simpa using hne)];exact at_idxD z r hn.2 i h
  ·rw [List.getElem?_append_right (by omega)] at h;have hl := (List.getElem?_eq_some_iff.1 h).1;simp at hl;have e : i = r.length := by simp at hi; omega
   subst e;simp at h;subst h;rw [Maps.atKey_put_same (idxD_map r) (show WideAt.IsKeyLit (.string _) from trivial)]
def IdxMap (w : World) (b : Nat) (r : List (List UInt8)) : Prop := w.ownsMap Tryz.prog 9 (plainElem Tryz.prog 3) b r.length (idxD r)
def MetMap (w : World) (b : Nat) (r : List (List UInt8)) : Prop := w.ownsMap Tryz.prog 9 unitElem b r.length (metD r)
theorem zero3 (w : World) : (zeroValue 3).run Tryz.prog w = .ok (.int .i64 0) w := by kernel_rfl
theorem IdxMap.look {w : World} {b : Nat} {r : List (List UInt8)} (h : IdxMap w b r) {k : List UInt8} (hk : k.length ≤ maxLen) : ∃ c : Int, (Instr.lookup 263 (.map (some b)) (encS k) true).run Tryz.prog w = .ok (.tuple #[.int .i64 c, .bool (decide (k ∈ r))]) w := by
 obtain ⟨v, ps, hrun, hv⟩ := World.ownsMap.look_ok h keyed9 Tryz.underlying263 (zero3 w) (plainElem_int Tryz.underlying3 (by decide)) (key9 k hk);obtain ⟨c, rfl, _, _⟩ := plainElem_int_inv Tryz.underlying3 hv;rw [has_idxD] at hrun;exact ⟨c, hrun⟩
theorem IdxMap.get {w : World} {b : Nat} {r : List (List UInt8)} (h : IdxMap w b r) (hnd : r.Nodup) {k : List UInt8} (hk : k.length ≤ maxLen) {i : Nat} (hi : r.reverse[i]? = some k) : (Instr.lookup 263 (.map (some b)) (encS k) false).run Tryz.prog w = .ok (.int .i64 i) w := by
 obtain ⟨c, hrun, hat, _⟩ := World.ownsMap.lookup_int h keyed9 Tryz.underlying263 Tryz.underlying3 (zero3 w) (key9 k hk);rw [at_idxD _ r hnd i hi] at hat;cases hat;exact hrun
theorem wf64 (n : Nat) (h : n ≤ 4194304) : (Lit.int .i64 n).wf = true := by simp [Lit.wf, IntKind.min, IntKind.max, IntKind.bits, IntKind.signed]; omega
theorem IdxMap.put {w : World} {b : Nat} {r : List (List UInt8)} (h : IdxMap w b r) (hl : r.length ≤ 4194304) {k : List UInt8} (hk : k.length ≤ maxLen) : ∃ w', (Instr.mapUpdate 263 (.map (some b)) (encS k) (.int .i64 r.length)).run Tryz.prog w = .ok () w' ∧ IdxMap w' b (k :: r) ∧ w.mapTurned w' b :=
 World.ownsMap.store h keyed9 Tryz.underlying263 (by unfold maxLen; omega) (key9 k hk) (plainElem_int Tryz.underlying3 (wf64 _ (by omega)))
theorem zeroUnit (w : World) : (zeroValue 101).run Tryz.prog w = .ok (.agg #[]) w := by kernel_rfl
theorem MetMap.look {w : World} {b : Nat} {r : List (List UInt8)} (h : MetMap w b r) {k : List UInt8} (hk : k.length ≤ maxLen) : (Instr.lookup 276 (.map (some b)) (encS k) true).run Tryz.prog w = .ok (.tuple #[.agg #[], .bool (decide (k ∈ r))]) w := by
 obtain ⟨v, ps, hrun, hv⟩ := World.ownsMap.look_ok h keyed9 Tryz.underlying276 (zeroUnit w) unitElem_mk (key9 k hk);obtain ⟨rfl, _⟩ := unitElem_inv hv;rw [has_metD] at hrun;exact hrun
theorem MetMap.put {w : World} {b : Nat} {r : List (List UInt8)} (h : MetMap w b r) (hl : r.length ≤ 4194304) {k : List UInt8} (hk : k.length ≤ maxLen) : ∃ w', (Instr.mapUpdate 276 (.map (some b)) (encS k) (.agg #[])).run Tryz.prog w = .ok () w' ∧ MetMap w' b (k :: r) ∧ w.mapTurned w' b :=
 World.ownsMap.store h keyed9 Tryz.underlying276 (by unfold maxLen; omega) (key9 k hk) unitElem_mk
theorem IdxMap.made (w : World) : IdxMap (w.alloc (.map #[] 0)) w.heap.size [] := World.ownsMap_made w _ _ _
theorem MetMap.made (w : World) : MetMap (w.alloc (.map #[] 0)) w.heap.size [] := World.ownsMap_made w _ _ _
theorem IdxMap.keeps {F : Nat → Prop} {w w' : World} {b : Nat} {r : List (List UInt8)} (h : IdxMap w b r) (hk : Keeps F w w') (hb : ¬ F b) : IdxMap w' b r := by
 obtain ⟨es, clock, h1, h2⟩ := h;exact ⟨es, clock, hk.blk h1 hb, h2⟩
theorem MetMap.keeps {F : Nat → Prop} {w w' : World} {b : Nat} {r : List (List UInt8)} (h : MetMap w b r) (hk : Keeps F w w') (hb : ¬ F b) : MetMap w' b r := by
 obtain ⟨es, clock, h1, h2⟩ := h;exact ⟨es, clock, hk.blk h1 hb, h2⟩
theorem turned_keeps {w w' : World} {b : Nat} (h : w.mapTurned w' b) : Keeps (fun k => k = b) w w' := by
 have g := h.grown;exact ⟨g.os, g.tape, g.output, g.size, fun k hk hn => g.block k hk (fun e => hn (by cases e; rfl))⟩
end Go.Proofs.YtakkmiomhackiaaGreatDoor
