/-
  Package lex, first part: the states of a number.
-/
import Derived.Test.YtakkmiomhackiaaGreatDoorLa07
import Derived.Test.YtakkmiomhackiaaGreatDoorLa02
set_option linter.all false
namespace Go.Proofs.YtakkmiomhackiaaGreatDoor
open Go.RowKit
set_option maxRecDepth 100000

/-- What next hands back. -/
def nextRet (s : Nat) (o : Option Nat) (e : Ending) : Prop := match o with
  | some t => e = .returned (.tuple #[.int .i64 (t : Int), .bool true])
  | none => e = .returned (.tuple #[.int .i64 (s : Int), .bool false])

set_option maxHeartbeats 4000000 in
theorem next_45 (s : Nat) (hs : s ≤ 8) (c : UInt8) (h : c = 45) (w : World) : Calls Tryz.prog 170 #[.int .i64 (s : Int), .int .u8 ((c.toNat : Nat) : Int)] w fun e w' => nextRet s (numNext s c) e ∧ w' = w := by
  have hv : ((c.toNat : Nat) : Int) = 45 := by rw [h]; rfl
  have H := Lib.hid h
  clear h
  have hc : s = 0 ∨ s = 1 ∨ s = 2 ∨ s = 3 ∨ s = 4 ∨ s = 5 ∨ s = 6 ∨ s = 7 ∨ s = 8 := by omega
  rcases hc with rfl | rfl | rfl | rfl | rfl | rfl | rfl | rfl | rfl
  · have hn : numNext 0 c = some 1 := by rw [H.out]; rfl
    rw [hn]
    have HN := Lib.hid hn
    clear hn
    simp only [Int.natCast_zero, Int.natCast_one, Int.cast_ofNat_Int]
    go_enter Tryz.func170, Tryz.ntmps170
    go_wp2
    exact bodyPost_ret (v := .tuple #[.int .i64 (1 : Nat), .bool true]) (by simp [results, Tryz.results170, go_sem]) rfl ⟨rfl, rfl⟩
  · have hn : numNext 1 c = none := by rw [H.out]; rfl
    rw [hn]
    have HN := Lib.hid hn
    clear hn
    simp only [Int.natCast_zero, Int.natCast_one, Int.cast_ofNat_Int]
    go_enter Tryz.func170, Tryz.ntmps170
    go_wp2
    exact bodyPost_ret (v := .tuple #[.int .i64 (1 : Nat), .bool false]) (by simp [results, Tryz.results170, go_sem]) rfl ⟨rfl, rfl⟩
  · have hn : numNext 2 c = none := by rw [H.out]; rfl
    rw [hn]
    have HN := Lib.hid hn
    clear hn
    simp only [Int.natCast_zero, Int.natCast_one, Int.cast_ofNat_Int]
    go_enter Tryz.func170, Tryz.ntmps170
    go_wp2
    exact bodyPost_ret (v := .tuple #[.int .i64 (2 : Nat), .bool false]) (by simp [results, Tryz.results170, go_sem]) rfl ⟨rfl, rfl⟩
  · have hn : numNext 3 c = none := by rw [H.out]; rfl
    rw [hn]
    have HN := Lib.hid hn
    clear hn
    simp only [Int.natCast_zero, Int.natCast_one, Int.cast_ofNat_Int]
    go_enter Tryz.func170, Tryz.ntmps170
    go_wp2
    exact bodyPost_ret (v := .tuple #[.int .i64 (3 : Nat), .bool false]) (by simp [results, Tryz.results170, go_sem]) rfl ⟨rfl, rfl⟩
  · have hn : numNext 4 c = none := by rw [H.out]; rfl
    rw [hn]
    have HN := Lib.hid hn
    clear hn
    simp only [Int.natCast_zero, Int.natCast_one, Int.cast_ofNat_Int]
    go_enter Tryz.func170, Tryz.ntmps170
    go_wp2
    exact bodyPost_ret (v := .tuple #[.int .i64 (4 : Nat), .bool false]) (by simp [results, Tryz.results170, go_sem]) rfl ⟨rfl, rfl⟩
  · have hn : numNext 5 c = none := by rw [H.out]; rfl
    rw [hn]
    have HN := Lib.hid hn
    clear hn
    simp only [Int.natCast_zero, Int.natCast_one, Int.cast_ofNat_Int]
    go_enter Tryz.func170, Tryz.ntmps170
    go_wp2
    exact bodyPost_ret (v := .tuple #[.int .i64 (5 : Nat), .bool false]) (by simp [results, Tryz.results170, go_sem]) rfl ⟨rfl, rfl⟩
  · have hn : numNext 6 c = some 7 := by rw [H.out]; rfl
    rw [hn]
    have HN := Lib.hid hn
    clear hn
    simp only [Int.natCast_zero, Int.natCast_one, Int.cast_ofNat_Int]
    go_enter Tryz.func170, Tryz.ntmps170
    go_wp2
    exact bodyPost_ret (v := .tuple #[.int .i64 (7 : Nat), .bool true]) (by simp [results, Tryz.results170, go_sem]) rfl ⟨rfl, rfl⟩
  · have hn : numNext 7 c = none := by rw [H.out]; rfl
    rw [hn]
    have HN := Lib.hid hn
    clear hn
    simp only [Int.natCast_zero, Int.natCast_one, Int.cast_ofNat_Int]
    go_enter Tryz.func170, Tryz.ntmps170
    go_wp2
    exact bodyPost_ret (v := .tuple #[.int .i64 (7 : Nat), .bool false]) (by simp [results, Tryz.results170, go_sem]) rfl ⟨rfl, rfl⟩
  · have hn : numNext 8 c = none := by rw [H.out]; rfl
    rw [hn]
    have HN := Lib.hid hn
    clear hn
    simp only [Int.natCast_zero, Int.natCast_one, Int.cast_ofNat_Int]
    go_enter Tryz.func170, Tryz.ntmps170
    go_wp2
    exact bodyPost_ret (v := .tuple #[.int .i64 (8 : Nat), .bool false]) (by simp [results, Tryz.results170, go_sem]) rfl ⟨rfl, rfl⟩

set_option maxHeartbeats 4000000 in
theorem next_46 (s : Nat) (hs : s ≤ 8) (c : UInt8) (h : c = 46) (w : World) : Calls Tryz.prog 170 #[.int .i64 (s : Int), .int .u8 ((c.toNat : Nat) : Int)] w fun e w' => nextRet s (numNext s c) e ∧ w' = w := by
  have hv : ((c.toNat : Nat) : Int) = 46 := by rw [h]; rfl
  have H := Lib.hid h
  clear h
  have hc : s = 0 ∨ s = 1 ∨ s = 2 ∨ s = 3 ∨ s = 4 ∨ s = 5 ∨ s = 6 ∨ s = 7 ∨ s = 8 := by omega
  rcases hc with rfl | rfl | rfl | rfl | rfl | rfl | rfl | rfl | rfl
  · have hn : numNext 0 c = none := by rw [H.out]; rfl
    rw [hn]
    have HN := Lib.hid hn
    clear hn
    simp only [Int.natCast_zero, Int.natCast_one, Int.cast_ofNat_Int]
    go_enter Tryz.func170, Tryz.ntmps170
    go_wp2
    exact bodyPost_ret (v := .tuple #[.int .i64 (0 : Nat), .bool false]) (by simp [results, Tryz.results170, go_sem]) rfl ⟨rfl, rfl⟩
  · have hn : numNext 1 c = none := by rw [H.out]; rfl
    rw [hn]
    have HN := Lib.hid hn
    clear hn
    simp only [Int.natCast_zero, Int.natCast_one, Int.cast_ofNat_Int]
    go_enter Tryz.func170, Tryz.ntmps170
    go_wp2
    exact bodyPost_ret (v := .tuple #[.int .i64 (1 : Nat), .bool false]) (by simp [results, Tryz.results170, go_sem]) rfl ⟨rfl, rfl⟩
  · have hn : numNext 2 c = some 4 := by rw [H.out]; rfl
    rw [hn]
    have HN := Lib.hid hn
    clear hn
    simp only [Int.natCast_zero, Int.natCast_one, Int.cast_ofNat_Int]
    go_enter Tryz.func170, Tryz.ntmps170
    go_wp2
    exact bodyPost_ret (v := .tuple #[.int .i64 (4 : Nat), .bool true]) (by simp [results, Tryz.results170, go_sem]) rfl ⟨rfl, rfl⟩
  · have hn : numNext 3 c = some 4 := by rw [H.out]; rfl
    rw [hn]
    have HN := Lib.hid hn
    clear hn
    simp only [Int.natCast_zero, Int.natCast_one, Int.cast_ofNat_Int]
    go_enter Tryz.func170, Tryz.ntmps170
    go_wp2
    exact bodyPost_ret (v := .tuple #[.int .i64 (4 : Nat), .bool true]) (by simp [results, Tryz.results170, go_sem]) rfl ⟨rfl, rfl⟩
  · have hn : numNext 4 c = none := by rw [H.out]; rfl
    rw [hn]
    have HN := Lib.hid hn
    clear hn
    simp only [Int.natCast_zero, Int.natCast_one, Int.cast_ofNat_Int]
    go_enter Tryz.func170, Tryz.ntmps170
    go_wp2
    exact bodyPost_ret (v := .tuple #[.int .i64 (4 : Nat), .bool false]) (by simp [results, Tryz.results170, go_sem]) rfl ⟨rfl, rfl⟩
  · have hn : numNext 5 c = none := by rw [H.out]; rfl
    rw [hn]
    have HN := Lib.hid hn
    clear hn
    simp only [Int.natCast_zero, Int.natCast_one, Int.cast_ofNat_Int]
    go_enter Tryz.func170, Tryz.ntmps170
    go_wp2
    exact bodyPost_ret (v := .tuple #[.int .i64 (5 : Nat), .bool false]) (by simp [results, Tryz.results170, go_sem]) rfl ⟨rfl, rfl⟩
  · have hn : numNext 6 c = none := by rw [H.out]; rfl
    rw [hn]
    have HN := Lib.hid hn
    clear hn
    simp only [Int.natCast_zero, Int.natCast_one, Int.cast_ofNat_Int]
    go_enter Tryz.func170, Tryz.ntmps170
    go_wp2
    exact bodyPost_ret (v := .tuple #[.int .i64 (6 : Nat), .bool false]) (by simp [results, Tryz.results170, go_sem]) rfl ⟨rfl, rfl⟩
  · have hn : numNext 7 c = none := by rw [H.out]; rfl
    rw [hn]
    have HN := Lib.hid hn
    clear hn
    simp only [Int.natCast_zero, Int.natCast_one, Int.cast_ofNat_Int]
    go_enter Tryz.func170, Tryz.ntmps170
    go_wp2
    exact bodyPost_ret (v := .tuple #[.int .i64 (7 : Nat), .bool false]) (by simp [results, Tryz.results170, go_sem]) rfl ⟨rfl, rfl⟩
  · have hn : numNext 8 c = none := by rw [H.out]; rfl
    rw [hn]
    have HN := Lib.hid hn
    clear hn
    simp only [Int.natCast_zero, Int.natCast_one, Int.cast_ofNat_Int]
    go_enter Tryz.func170, Tryz.ntmps170
    go_wp2
    exact bodyPost_ret (v := .tuple #[.int .i64 (8 : Nat), .bool false]) (by simp [results, Tryz.results170, go_sem]) rfl ⟨rfl, rfl⟩

set_option maxHeartbeats 4000000 in
theorem next_48 (s : Nat) (hs : s ≤ 8) (c : UInt8) (h : c = 48) (w : World) : Calls Tryz.prog 170 #[.int .i64 (s : Int), .int .u8 ((c.toNat : Nat) : Int)] w fun e w' => nextRet s (numNext s c) e ∧ w' = w := by
  have hv : ((c.toNat : Nat) : Int) = 48 := by rw [h]; rfl
  have H := Lib.hid h
  clear h
  have hc : s = 0 ∨ s = 1 ∨ s = 2 ∨ s = 3 ∨ s = 4 ∨ s = 5 ∨ s = 6 ∨ s = 7 ∨ s = 8 := by omega
  rcases hc with rfl | rfl | rfl | rfl | rfl | rfl | rfl | rfl | rfl
  · have hn : numNext 0 c = some 2 := by rw [H.out]; rfl
    rw [hn]
    have HN := Lib.hid hn
    clear hn
    simp only [Int.natCast_zero, Int.natCast_one, Int.cast_ofNat_Int]
    go_enter Tryz.func170, Tryz.ntmps170
    go_wp2
    exact bodyPost_ret (v := .tuple #[.int .i64 (2 : Nat), .bool true]) (by simp [results, Tryz.results170, go_sem]) rfl ⟨rfl, rfl⟩
  · have hn : numNext 1 c = some 2 := by rw [H.out]; rfl
    rw [hn]
    have HN := Lib.hid hn
    clear hn
    simp only [Int.natCast_zero, Int.natCast_one, Int.cast_ofNat_Int]
    go_enter Tryz.func170, Tryz.ntmps170
    go_wp2
    exact bodyPost_ret (v := .tuple #[.int .i64 (2 : Nat), .bool true]) (by simp [results, Tryz.results170, go_sem]) rfl ⟨rfl, rfl⟩
  · have hn : numNext 2 c = none := by rw [H.out]; rfl
    rw [hn]
    have HN := Lib.hid hn
    clear hn
    simp only [Int.natCast_zero, Int.natCast_one, Int.cast_ofNat_Int]
    go_enter Tryz.func170, Tryz.ntmps170
    go_wp2
    exact bodyPost_ret (v := .tuple #[.int .i64 (2 : Nat), .bool false]) (by simp [results, Tryz.results170, go_sem]) rfl ⟨rfl, rfl⟩
  · have hn : numNext 3 c = some 3 := by rw [H.out]; rfl
    rw [hn]
    have HN := Lib.hid hn
    clear hn
    simp only [Int.natCast_zero, Int.natCast_one, Int.cast_ofNat_Int]
    go_enter Tryz.func170, Tryz.ntmps170
    go_wp2
    exact bodyPost_ret (v := .tuple #[.int .i64 (3 : Nat), .bool true]) (by simp [results, Tryz.results170, go_sem]) rfl ⟨rfl, rfl⟩
  · have hn : numNext 4 c = some 5 := by rw [H.out]; rfl
    rw [hn]
    have HN := Lib.hid hn
    clear hn
    simp only [Int.natCast_zero, Int.natCast_one, Int.cast_ofNat_Int]
    go_enter Tryz.func170, Tryz.ntmps170
    go_wp2
    exact bodyPost_ret (v := .tuple #[.int .i64 (5 : Nat), .bool true]) (by simp [results, Tryz.results170, go_sem]) rfl ⟨rfl, rfl⟩
  · have hn : numNext 5 c = some 5 := by rw [H.out]; rfl
    rw [hn]
    have HN := Lib.hid hn
    clear hn
    simp only [Int.natCast_zero, Int.natCast_one, Int.cast_ofNat_Int]
    go_enter Tryz.func170, Tryz.ntmps170
    go_wp2
    exact bodyPost_ret (v := .tuple #[.int .i64 (5 : Nat), .bool true]) (by simp [results, Tryz.results170, go_sem]) rfl ⟨rfl, rfl⟩
  · have hn : numNext 6 c = some 8 := by rw [H.out]; rfl
    rw [hn]
    have HN := Lib.hid hn
    clear hn
    simp only [Int.natCast_zero, Int.natCast_one, Int.cast_ofNat_Int]
    go_enter Tryz.func170, Tryz.ntmps170
    go_wp2
    exact bodyPost_ret (v := .tuple #[.int .i64 (8 : Nat), .bool true]) (by simp [results, Tryz.results170, go_sem]) rfl ⟨rfl, rfl⟩
  · have hn : numNext 7 c = some 8 := by rw [H.out]; rfl
    rw [hn]
    have HN := Lib.hid hn
    clear hn
    simp only [Int.natCast_zero, Int.natCast_one, Int.cast_ofNat_Int]
    go_enter Tryz.func170, Tryz.ntmps170
    go_wp2
    exact bodyPost_ret (v := .tuple #[.int .i64 (8 : Nat), .bool true]) (by simp [results, Tryz.results170, go_sem]) rfl ⟨rfl, rfl⟩
  · have hn : numNext 8 c = some 8 := by rw [H.out]; rfl
    rw [hn]
    have HN := Lib.hid hn
    clear hn
    simp only [Int.natCast_zero, Int.natCast_one, Int.cast_ofNat_Int]
    go_enter Tryz.func170, Tryz.ntmps170
    go_wp2
    exact bodyPost_ret (v := .tuple #[.int .i64 (8 : Nat), .bool true]) (by simp [results, Tryz.results170, go_sem]) rfl ⟨rfl, rfl⟩

set_option maxHeartbeats 4000000 in
theorem next_101 (s : Nat) (hs : s ≤ 8) (c : UInt8) (h : c = 101) (w : World) : Calls Tryz.prog 170 #[.int .i64 (s : Int), .int .u8 ((c.toNat : Nat) : Int)] w fun e w' => nextRet s (numNext s c) e ∧ w' = w := by
  have hv : ((c.toNat : Nat) : Int) = 101 := by rw [h]; rfl
  have H := Lib.hid h
  clear h
  have hc : s = 0 ∨ s = 1 ∨ s = 2 ∨ s = 3 ∨ s = 4 ∨ s = 5 ∨ s = 6 ∨ s = 7 ∨ s = 8 := by omega
  rcases hc with rfl | rfl | rfl | rfl | rfl | rfl | rfl | rfl | rfl
  · have hn : numNext 0 c = none := by rw [H.out]; rfl
    rw [hn]
    have HN := Lib.hid hn
    clear hn
    simp only [Int.natCast_zero, Int.natCast_one, Int.cast_ofNat_Int]
    go_enter Tryz.func170, Tryz.ntmps170
    go_wp2
    exact bodyPost_ret (v := .tuple #[.int .i64 (0 : Nat), .bool false]) (by simp [results, Tryz.results170, go_sem]) rfl ⟨rfl, rfl⟩
  · have hn : numNext 1 c = none := by rw [H.out]; rfl
    rw [hn]
    have HN := Lib.hid hn
    clear hn
    simp only [Int.natCast_zero, Int.natCast_one, Int.cast_ofNat_Int]
    go_enter Tryz.func170, Tryz.ntmps170
    go_wp2
    exact bodyPost_ret (v := .tuple #[.int .i64 (1 : Nat), .bool false]) (by simp [results, Tryz.results170, go_sem]) rfl ⟨rfl, rfl⟩
  · have hn : numNext 2 c = some 6 := by rw [H.out]; rfl
    rw [hn]
    have HN := Lib.hid hn
    clear hn
    simp only [Int.natCast_zero, Int.natCast_one, Int.cast_ofNat_Int]
    go_enter Tryz.func170, Tryz.ntmps170
    go_wp2
    exact bodyPost_ret (v := .tuple #[.int .i64 (6 : Nat), .bool true]) (by simp [results, Tryz.results170, go_sem]) rfl ⟨rfl, rfl⟩
  · have hn : numNext 3 c = some 6 := by rw [H.out]; rfl
    rw [hn]
    have HN := Lib.hid hn
    clear hn
    simp only [Int.natCast_zero, Int.natCast_one, Int.cast_ofNat_Int]
    go_enter Tryz.func170, Tryz.ntmps170
    go_wp2
    exact bodyPost_ret (v := .tuple #[.int .i64 (6 : Nat), .bool true]) (by simp [results, Tryz.results170, go_sem]) rfl ⟨rfl, rfl⟩
  · have hn : numNext 4 c = none := by rw [H.out]; rfl
    rw [hn]
    have HN := Lib.hid hn
    clear hn
    simp only [Int.natCast_zero, Int.natCast_one, Int.cast_ofNat_Int]
    go_enter Tryz.func170, Tryz.ntmps170
    go_wp2
    exact bodyPost_ret (v := .tuple #[.int .i64 (4 : Nat), .bool false]) (by simp [results, Tryz.results170, go_sem]) rfl ⟨rfl, rfl⟩
  · have hn : numNext 5 c = some 6 := by rw [H.out]; rfl
    rw [hn]
    have HN := Lib.hid hn
    clear hn
    simp only [Int.natCast_zero, Int.natCast_one, Int.cast_ofNat_Int]
    go_enter Tryz.func170, Tryz.ntmps170
    go_wp2
    exact bodyPost_ret (v := .tuple #[.int .i64 (6 : Nat), .bool true]) (by simp [results, Tryz.results170, go_sem]) rfl ⟨rfl, rfl⟩
  · have hn : numNext 6 c = none := by rw [H.out]; rfl
    rw [hn]
    have HN := Lib.hid hn
    clear hn
    simp only [Int.natCast_zero, Int.natCast_one, Int.cast_ofNat_Int]
    go_enter Tryz.func170, Tryz.ntmps170
    go_wp2
    exact bodyPost_ret (v := .tuple #[.int .i64 (6 : Nat), .bool false]) (by simp [results, Tryz.results170, go_sem]) rfl ⟨rfl, rfl⟩
  · have hn : numNext 7 c = none := by rw [H.out]; rfl
    rw [hn]
    have HN := Lib.hid hn
    clear hn
    simp only [Int.natCast_zero, Int.natCast_one, Int.cast_ofNat_Int]
    go_enter Tryz.func170, Tryz.ntmps170
    go_wp2
    exact bodyPost_ret (v := .tuple #[.int .i64 (7 : Nat), .bool false]) (by simp [results, Tryz.results170, go_sem]) rfl ⟨rfl, rfl⟩
  · have hn : numNext 8 c = none := by rw [H.out]; rfl
    rw [hn]
    have HN := Lib.hid hn
    clear hn
    simp only [Int.natCast_zero, Int.natCast_one, Int.cast_ofNat_Int]
    go_enter Tryz.func170, Tryz.ntmps170
    go_wp2
    exact bodyPost_ret (v := .tuple #[.int .i64 (8 : Nat), .bool false]) (by simp [results, Tryz.results170, go_sem]) rfl ⟨rfl, rfl⟩

set_option maxHeartbeats 4000000 in
theorem next_69 (s : Nat) (hs : s ≤ 8) (c : UInt8) (h : c = 69) (w : World) : Calls Tryz.prog 170 #[.int .i64 (s : Int), .int .u8 ((c.toNat : Nat) : Int)] w fun e w' => nextRet s (numNext s c) e ∧ w' = w := by
  have hv : ((c.toNat : Nat) : Int) = 69 := by rw [h]; rfl
  have H := Lib.hid h
  clear h
  have hc : s = 0 ∨ s = 1 ∨ s = 2 ∨ s = 3 ∨ s = 4 ∨ s = 5 ∨ s = 6 ∨ s = 7 ∨ s = 8 := by omega
  rcases hc with rfl | rfl | rfl | rfl | rfl | rfl | rfl | rfl | rfl
  · have hn : numNext 0 c = none := by rw [H.out]; rfl
    rw [hn]
    have HN := Lib.hid hn
    clear hn
    simp only [Int.natCast_zero, Int.natCast_one, Int.cast_ofNat_Int]
    go_enter Tryz.func170, Tryz.ntmps170
    go_wp2
    exact bodyPost_ret (v := .tuple #[.int .i64 (0 : Nat), .bool false]) (by simp [results, Tryz.results170, go_sem]) rfl ⟨rfl, rfl⟩
  · have hn : numNext 1 c = none := by rw [H.out]; rfl
    rw [hn]
    have HN := Lib.hid hn
    clear hn
    simp only [Int.natCast_zero, Int.natCast_one, Int.cast_ofNat_Int]
    go_enter Tryz.func170, Tryz.ntmps170
    go_wp2
    exact bodyPost_ret (v := .tuple #[.int .i64 (1 : Nat), .bool false]) (by simp [results, Tryz.results170, go_sem]) rfl ⟨rfl, rfl⟩
  · have hn : numNext 2 c = some 6 := by rw [H.out]; rfl
    rw [hn]
    have HN := Lib.hid hn
    clear hn
    simp only [Int.natCast_zero, Int.natCast_one, Int.cast_ofNat_Int]
    go_enter Tryz.func170, Tryz.ntmps170
    go_wp2
    exact bodyPost_ret (v := .tuple #[.int .i64 (6 : Nat), .bool true]) (by simp [results, Tryz.results170, go_sem]) rfl ⟨rfl, rfl⟩
  · have hn : numNext 3 c = some 6 := by rw [H.out]; rfl
    rw [hn]
    have HN := Lib.hid hn
    clear hn
    simp only [Int.natCast_zero, Int.natCast_one, Int.cast_ofNat_Int]
    go_enter Tryz.func170, Tryz.ntmps170
    go_wp2
    exact bodyPost_ret (v := .tuple #[.int .i64 (6 : Nat), .bool true]) (by simp [results, Tryz.results170, go_sem]) rfl ⟨rfl, rfl⟩
  · have hn : numNext 4 c = none := by rw [H.out]; rfl
    rw [hn]
    have HN := Lib.hid hn
    clear hn
    simp only [Int.natCast_zero, Int.natCast_one, Int.cast_ofNat_Int]
    go_enter Tryz.func170, Tryz.ntmps170
    go_wp2
    exact bodyPost_ret (v := .tuple #[.int .i64 (4 : Nat), .bool false]) (by simp [results, Tryz.results170, go_sem]) rfl ⟨rfl, rfl⟩
  · have hn : numNext 5 c = some 6 := by rw [H.out]; rfl
    rw [hn]
    have HN := Lib.hid hn
    clear hn
    simp only [Int.natCast_zero, Int.natCast_one, Int.cast_ofNat_Int]
    go_enter Tryz.func170, Tryz.ntmps170
    go_wp2
    exact bodyPost_ret (v := .tuple #[.int .i64 (6 : Nat), .bool true]) (by simp [results, Tryz.results170, go_sem]) rfl ⟨rfl, rfl⟩
  · have hn : numNext 6 c = none := by rw [H.out]; rfl
    rw [hn]
    have HN := Lib.hid hn
    clear hn
    simp only [Int.natCast_zero, Int.natCast_one, Int.cast_ofNat_Int]
    go_enter Tryz.func170, Tryz.ntmps170
    go_wp2
    exact bodyPost_ret (v := .tuple #[.int .i64 (6 : Nat), .bool false]) (by simp [results, Tryz.results170, go_sem]) rfl ⟨rfl, rfl⟩
  · have hn : numNext 7 c = none := by rw [H.out]; rfl
    rw [hn]
    have HN := Lib.hid hn
    clear hn
    simp only [Int.natCast_zero, Int.natCast_one, Int.cast_ofNat_Int]
    go_enter Tryz.func170, Tryz.ntmps170
    go_wp2
    exact bodyPost_ret (v := .tuple #[.int .i64 (7 : Nat), .bool false]) (by simp [results, Tryz.results170, go_sem]) rfl ⟨rfl, rfl⟩
  · have hn : numNext 8 c = none := by rw [H.out]; rfl
    rw [hn]
    have HN := Lib.hid hn
    clear hn
    simp only [Int.natCast_zero, Int.natCast_one, Int.cast_ofNat_Int]
    go_enter Tryz.func170, Tryz.ntmps170
    go_wp2
    exact bodyPost_ret (v := .tuple #[.int .i64 (8 : Nat), .bool false]) (by simp [results, Tryz.results170, go_sem]) rfl ⟨rfl, rfl⟩

set_option maxHeartbeats 4000000 in
theorem next_43 (s : Nat) (hs : s ≤ 8) (c : UInt8) (h : c = 43) (w : World) : Calls Tryz.prog 170 #[.int .i64 (s : Int), .int .u8 ((c.toNat : Nat) : Int)] w fun e w' => nextRet s (numNext s c) e ∧ w' = w := by
  have hv : ((c.toNat : Nat) : Int) = 43 := by rw [h]; rfl
  have H := Lib.hid h
  clear h
  have hc : s = 0 ∨ s = 1 ∨ s = 2 ∨ s = 3 ∨ s = 4 ∨ s = 5 ∨ s = 6 ∨ s = 7 ∨ s = 8 := by omega
  rcases hc with rfl | rfl | rfl | rfl | rfl | rfl | rfl | rfl | rfl
  · have hn : numNext 0 c = none := by rw [H.out]; rfl
    rw [hn]
    have HN := Lib.hid hn
    clear hn
    simp only [Int.natCast_zero, Int.natCast_one, Int.cast_ofNat_Int]
    go_enter Tryz.func170, Tryz.ntmps170
    go_wp2
    exact bodyPost_ret (v := .tuple #[.int .i64 (0 : Nat), .bool false]) (by simp [results, Tryz.results170, go_sem]) rfl ⟨rfl, rfl⟩
  · have hn : numNext 1 c = none := by rw [H.out]; rfl
    rw [hn]
    have HN := Lib.hid hn
    clear hn
    simp only [Int.natCast_zero, Int.natCast_one, Int.cast_ofNat_Int]
    go_enter Tryz.func170, Tryz.ntmps170
    go_wp2
    exact bodyPost_ret (v := .tuple #[.int .i64 (1 : Nat), .bool false]) (by simp [results, Tryz.results170, go_sem]) rfl ⟨rfl, rfl⟩
  · have hn : numNext 2 c = none := by rw [H.out]; rfl
    rw [hn]
    have HN := Lib.hid hn
    clear hn
    simp only [Int.natCast_zero, Int.natCast_one, Int.cast_ofNat_Int]
    go_enter Tryz.func170, Tryz.ntmps170
    go_wp2
    exact bodyPost_ret (v := .tuple #[.int .i64 (2 : Nat), .bool false]) (by simp [results, Tryz.results170, go_sem]) rfl ⟨rfl, rfl⟩
  · have hn : numNext 3 c = none := by rw [H.out]; rfl
    rw [hn]
    have HN := Lib.hid hn
    clear hn
    simp only [Int.natCast_zero, Int.natCast_one, Int.cast_ofNat_Int]
    go_enter Tryz.func170, Tryz.ntmps170
    go_wp2
    exact bodyPost_ret (v := .tuple #[.int .i64 (3 : Nat), .bool false]) (by simp [results, Tryz.results170, go_sem]) rfl ⟨rfl, rfl⟩
  · have hn : numNext 4 c = none := by rw [H.out]; rfl
    rw [hn]
    have HN := Lib.hid hn
    clear hn
    simp only [Int.natCast_zero, Int.natCast_one, Int.cast_ofNat_Int]
    go_enter Tryz.func170, Tryz.ntmps170
    go_wp2
    exact bodyPost_ret (v := .tuple #[.int .i64 (4 : Nat), .bool false]) (by simp [results, Tryz.results170, go_sem]) rfl ⟨rfl, rfl⟩
  · have hn : numNext 5 c = none := by rw [H.out]; rfl
    rw [hn]
    have HN := Lib.hid hn
    clear hn
    simp only [Int.natCast_zero, Int.natCast_one, Int.cast_ofNat_Int]
    go_enter Tryz.func170, Tryz.ntmps170
    go_wp2
    exact bodyPost_ret (v := .tuple #[.int .i64 (5 : Nat), .bool false]) (by simp [results, Tryz.results170, go_sem]) rfl ⟨rfl, rfl⟩
  · have hn : numNext 6 c = some 7 := by rw [H.out]; rfl
    rw [hn]
    have HN := Lib.hid hn
    clear hn
    simp only [Int.natCast_zero, Int.natCast_one, Int.cast_ofNat_Int]
    go_enter Tryz.func170, Tryz.ntmps170
    go_wp2
    exact bodyPost_ret (v := .tuple #[.int .i64 (7 : Nat), .bool true]) (by simp [results, Tryz.results170, go_sem]) rfl ⟨rfl, rfl⟩
  · have hn : numNext 7 c = none := by rw [H.out]; rfl
    rw [hn]
    have HN := Lib.hid hn
    clear hn
    simp only [Int.natCast_zero, Int.natCast_one, Int.cast_ofNat_Int]
    go_enter Tryz.func170, Tryz.ntmps170
    go_wp2
    exact bodyPost_ret (v := .tuple #[.int .i64 (7 : Nat), .bool false]) (by simp [results, Tryz.results170, go_sem]) rfl ⟨rfl, rfl⟩
  · have hn : numNext 8 c = none := by rw [H.out]; rfl
    rw [hn]
    have HN := Lib.hid hn
    clear hn
    simp only [Int.natCast_zero, Int.natCast_one, Int.cast_ofNat_Int]
    go_enter Tryz.func170, Tryz.ntmps170
    go_wp2
    exact bodyPost_ret (v := .tuple #[.int .i64 (8 : Nat), .bool false]) (by simp [results, Tryz.results170, go_sem]) rfl ⟨rfl, rfl⟩

set_option maxHeartbeats 4000000 in
theorem next_dig (s : Nat) (hs : s ≤ 8) (c : UInt8) (h45 : c ≠ 45) (h46 : c ≠ 46) (h48 : c ≠ 48) (h101 : c ≠ 101) (h69 : c ≠ 69) (h43 : c ≠ 43) (h1 : 48 ≤ c.toNat) (h2 : c.toNat ≤ 57) (w : World) : Calls Tryz.prog 170 #[.int .i64 (s : Int), .int .u8 ((c.toNat : Nat) : Int)] w fun e w' => nextRet s (numNext s c) e ∧ w' = w := by
  obtain ⟨n45, m45, k45⟩ := byte_ne3 (c := c) (n := 45) h45 rfl
  obtain ⟨n46, m46, k46⟩ := byte_ne3 (c := c) (n := 46) h46 rfl
  obtain ⟨n48, m48, k48⟩ := byte_ne3 (c := c) (n := 48) h48 rfl
  obtain ⟨n101, m101, k101⟩ := byte_ne3 (c := c) (n := 101) h101 rfl
  obtain ⟨n69, m69, k69⟩ := byte_ne3 (c := c) (n := 69) h69 rfl
  obtain ⟨n43, m43, k43⟩ := byte_ne3 (c := c) (n := 43) h43 rfl
  have f1 : (48 : Int) ≤ ((c.toNat : Nat) : Int) := by omega
  have f2 : ((c.toNat : Nat) : Int) ≤ 57 := by omega
  have hd : isD c = true := by simp [isD, h1, h2]
  have hc : s = 0 ∨ s = 1 ∨ s = 2 ∨ s = 3 ∨ s = 4 ∨ s = 5 ∨ s = 6 ∨ s = 7 ∨ s = 8 := by omega
  rcases hc with rfl | rfl | rfl | rfl | rfl | rfl | rfl | rfl | rfl
  · have hn : numNext 0 c = some 3 := by simp [numNext, hd, h45, h46, h48, h101, h69, h43]
    rw [hn]
    have HN := Lib.hid hn
    clear hn hd
    simp only [Int.natCast_zero, Int.natCast_one, Int.cast_ofNat_Int]
    go_enter Tryz.func170, Tryz.ntmps170
    go_wp2
    exact bodyPost_ret (v := .tuple #[.int .i64 (3 : Nat), .bool true]) (by simp [results, Tryz.results170, go_sem]) rfl ⟨rfl, rfl⟩
  · have hn : numNext 1 c = some 3 := by simp [numNext, hd, h45, h46, h48, h101, h69, h43]
    rw [hn]
    have HN := Lib.hid hn
    clear hn hd
    simp only [Int.natCast_zero, Int.natCast_one, Int.cast_ofNat_Int]
    go_enter Tryz.func170, Tryz.ntmps170
    go_wp2
    exact bodyPost_ret (v := .tuple #[.int .i64 (3 : Nat), .bool true]) (by simp [results, Tryz.results170, go_sem]) rfl ⟨rfl, rfl⟩
  · have hn : numNext 2 c = none := by simp [numNext, hd, h45, h46, h48, h101, h69, h43]
    rw [hn]
    have HN := Lib.hid hn
    clear hn hd
    simp only [Int.natCast_zero, Int.natCast_one, Int.cast_ofNat_Int]
    go_enter Tryz.func170, Tryz.ntmps170
    go_wp2
    exact bodyPost_ret (v := .tuple #[.int .i64 (2 : Nat), .bool false]) (by simp [results, Tryz.results170, go_sem]) rfl ⟨rfl, rfl⟩
  · have hn : numNext 3 c = some 3 := by simp [numNext, hd, h45, h46, h48, h101, h69, h43]
    rw [hn]
    have HN := Lib.hid hn
    clear hn hd
    simp only [Int.natCast_zero, Int.natCast_one, Int.cast_ofNat_Int]
    go_enter Tryz.func170, Tryz.ntmps170
    go_wp2
    exact bodyPost_ret (v := .tuple #[.int .i64 (3 : Nat), .bool true]) (by simp [results, Tryz.results170, go_sem]) rfl ⟨rfl, rfl⟩
  · have hn : numNext 4 c = some 5 := by simp [numNext, hd, h45, h46, h48, h101, h69, h43]
    rw [hn]
    have HN := Lib.hid hn
    clear hn hd
    simp only [Int.natCast_zero, Int.natCast_one, Int.cast_ofNat_Int]
    go_enter Tryz.func170, Tryz.ntmps170
    go_wp2
    exact bodyPost_ret (v := .tuple #[.int .i64 (5 : Nat), .bool true]) (by simp [results, Tryz.results170, go_sem]) rfl ⟨rfl, rfl⟩
  · have hn : numNext 5 c = some 5 := by simp [numNext, hd, h45, h46, h48, h101, h69, h43]
    rw [hn]
    have HN := Lib.hid hn
    clear hn hd
    simp only [Int.natCast_zero, Int.natCast_one, Int.cast_ofNat_Int]
    go_enter Tryz.func170, Tryz.ntmps170
    go_wp2
    exact bodyPost_ret (v := .tuple #[.int .i64 (5 : Nat), .bool true]) (by simp [results, Tryz.results170, go_sem]) rfl ⟨rfl, rfl⟩
  · have hn : numNext 6 c = some 8 := by simp [numNext, hd, h45, h46, h48, h101, h69, h43]
    rw [hn]
    have HN := Lib.hid hn
    clear hn hd
    simp only [Int.natCast_zero, Int.natCast_one, Int.cast_ofNat_Int]
    go_enter Tryz.func170, Tryz.ntmps170
    go_wp2
    exact bodyPost_ret (v := .tuple #[.int .i64 (8 : Nat), .bool true]) (by simp [results, Tryz.results170, go_sem]) rfl ⟨rfl, rfl⟩
  · have hn : numNext 7 c = some 8 := by simp [numNext, hd, h45, h46, h48, h101, h69, h43]
    rw [hn]
    have HN := Lib.hid hn
    clear hn hd
    simp only [Int.natCast_zero, Int.natCast_one, Int.cast_ofNat_Int]
    go_enter Tryz.func170, Tryz.ntmps170
    go_wp2
    exact bodyPost_ret (v := .tuple #[.int .i64 (8 : Nat), .bool true]) (by simp [results, Tryz.results170, go_sem]) rfl ⟨rfl, rfl⟩
  · have hn : numNext 8 c = some 8 := by simp [numNext, hd, h45, h46, h48, h101, h69, h43]
    rw [hn]
    have HN := Lib.hid hn
    clear hn hd
    simp only [Int.natCast_zero, Int.natCast_one, Int.cast_ofNat_Int]
    go_enter Tryz.func170, Tryz.ntmps170
    go_wp2
    exact bodyPost_ret (v := .tuple #[.int .i64 (8 : Nat), .bool true]) (by simp [results, Tryz.results170, go_sem]) rfl ⟨rfl, rfl⟩

set_option maxHeartbeats 4000000 in
theorem next_low (s : Nat) (hs : s ≤ 8) (c : UInt8) (h45 : c ≠ 45) (h46 : c ≠ 46) (h48 : c ≠ 48) (h101 : c ≠ 101) (h69 : c ≠ 69) (h43 : c ≠ 43) (h1 : c.toNat < 48) (w : World) : Calls Tryz.prog 170 #[.int .i64 (s : Int), .int .u8 ((c.toNat : Nat) : Int)] w fun e w' => nextRet s (numNext s c) e ∧ w' = w := by
  obtain ⟨n45, m45, k45⟩ := byte_ne3 (c := c) (n := 45) h45 rfl
  obtain ⟨n46, m46, k46⟩ := byte_ne3 (c := c) (n := 46) h46 rfl
  obtain ⟨n48, m48, k48⟩ := byte_ne3 (c := c) (n := 48) h48 rfl
  obtain ⟨n101, m101, k101⟩ := byte_ne3 (c := c) (n := 101) h101 rfl
  obtain ⟨n69, m69, k69⟩ := byte_ne3 (c := c) (n := 69) h69 rfl
  obtain ⟨n43, m43, k43⟩ := byte_ne3 (c := c) (n := 43) h43 rfl
  have f1 : ¬ (48 : Int) ≤ ((c.toNat : Nat) : Int) := by omega
  have hd : isD c = false := by simp [isD]; omega
  have hc : s = 0 ∨ s = 1 ∨ s = 2 ∨ s = 3 ∨ s = 4 ∨ s = 5 ∨ s = 6 ∨ s = 7 ∨ s = 8 := by omega
  rcases hc with rfl | rfl | rfl | rfl | rfl | rfl | rfl | rfl | rfl
  · have hn : numNext 0 c = none := by simp [numNext, hd, h45, h46, h48, h101, h69, h43]
    rw [hn]
    have HN := Lib.hid hn
    clear hn hd
    simp only [Int.natCast_zero, Int.natCast_one, Int.cast_ofNat_Int]
    go_enter Tryz.func170, Tryz.ntmps170
    go_wp2
    exact bodyPost_ret (v := .tuple #[.int .i64 (0 : Nat), .bool false]) (by simp [results, Tryz.results170, go_sem]) rfl ⟨rfl, rfl⟩
  · have hn : numNext 1 c = none := by simp [numNext, hd, h45, h46, h48, h101, h69, h43]
    rw [hn]
    have HN := Lib.hid hn
    clear hn hd
    simp only [Int.natCast_zero, Int.natCast_one, Int.cast_ofNat_Int]
    go_enter Tryz.func170, Tryz.ntmps170
    go_wp2
    exact bodyPost_ret (v := .tuple #[.int .i64 (1 : Nat), .bool false]) (by simp [results, Tryz.results170, go_sem]) rfl ⟨rfl, rfl⟩
  · have hn : numNext 2 c = none := by simp [numNext, hd, h45, h46, h48, h101, h69, h43]
    rw [hn]
    have HN := Lib.hid hn
    clear hn hd
    simp only [Int.natCast_zero, Int.natCast_one, Int.cast_ofNat_Int]
    go_enter Tryz.func170, Tryz.ntmps170
    go_wp2
    exact bodyPost_ret (v := .tuple #[.int .i64 (2 : Nat), .bool false]) (by simp [results, Tryz.results170, go_sem]) rfl ⟨rfl, rfl⟩
  · have hn : numNext 3 c = none := by simp [numNext, hd, h45, h46, h48, h101, h69, h43]
    rw [hn]
    have HN := Lib.hid hn
    clear hn hd
    simp only [Int.natCast_zero, Int.natCast_one, Int.cast_ofNat_Int]
    go_enter Tryz.func170, Tryz.ntmps170
    go_wp2
    exact bodyPost_ret (v := .tuple #[.int .i64 (3 : Nat), .bool false]) (by simp [results, Tryz.results170, go_sem]) rfl ⟨rfl, rfl⟩
  · have hn : numNext 4 c = none := by simp [numNext, hd, h45, h46, h48, h101, h69, h43]
    rw [hn]
    have HN := Lib.hid hn
    clear hn hd
    simp only [Int.natCast_zero, Int.natCast_one, Int.cast_ofNat_Int]
    go_enter Tryz.func170, Tryz.ntmps170
    go_wp2
    exact bodyPost_ret (v := .tuple #[.int .i64 (4 : Nat), .bool false]) (by simp [results, Tryz.results170, go_sem]) rfl ⟨rfl, rfl⟩
  · have hn : numNext 5 c = none := by simp [numNext, hd, h45, h46, h48, h101, h69, h43]
    rw [hn]
    have HN := Lib.hid hn
    clear hn hd
    simp only [Int.natCast_zero, Int.natCast_one, Int.cast_ofNat_Int]
    go_enter Tryz.func170, Tryz.ntmps170
    go_wp2
    exact bodyPost_ret (v := .tuple #[.int .i64 (5 : Nat), .bool false]) (by simp [results, Tryz.results170, go_sem]) rfl ⟨rfl, rfl⟩
  · have hn : numNext 6 c = none := by simp [numNext, hd, h45, h46, h48, h101, h69, h43]
    rw [hn]
    have HN := Lib.hid hn
    clear hn hd
    simp only [Int.natCast_zero, Int.natCast_one, Int.cast_ofNat_Int]
    go_enter Tryz.func170, Tryz.ntmps170
    go_wp2
    exact bodyPost_ret (v := .tuple #[.int .i64 (6 : Nat), .bool false]) (by simp [results, Tryz.results170, go_sem]) rfl ⟨rfl, rfl⟩
  · have hn : numNext 7 c = none := by simp [numNext, hd, h45, h46, h48, h101, h69, h43]
    rw [hn]
    have HN := Lib.hid hn
    clear hn hd
    simp only [Int.natCast_zero, Int.natCast_one, Int.cast_ofNat_Int]
    go_enter Tryz.func170, Tryz.ntmps170
    go_wp2
    exact bodyPost_ret (v := .tuple #[.int .i64 (7 : Nat), .bool false]) (by simp [results, Tryz.results170, go_sem]) rfl ⟨rfl, rfl⟩
  · have hn : numNext 8 c = none := by simp [numNext, hd, h45, h46, h48, h101, h69, h43]
    rw [hn]
    have HN := Lib.hid hn
    clear hn hd
    simp only [Int.natCast_zero, Int.natCast_one, Int.cast_ofNat_Int]
    go_enter Tryz.func170, Tryz.ntmps170
    go_wp2
    exact bodyPost_ret (v := .tuple #[.int .i64 (8 : Nat), .bool false]) (by simp [results, Tryz.results170, go_sem]) rfl ⟨rfl, rfl⟩

set_option maxHeartbeats 4000000 in
theorem next_up (s : Nat) (hs : s ≤ 8) (c : UInt8) (h45 : c ≠ 45) (h46 : c ≠ 46) (h48 : c ≠ 48) (h101 : c ≠ 101) (h69 : c ≠ 69) (h43 : c ≠ 43) (h1 : 57 < c.toNat) (w : World) : Calls Tryz.prog 170 #[.int .i64 (s : Int), .int .u8 ((c.toNat : Nat) : Int)] w fun e w' => nextRet s (numNext s c) e ∧ w' = w := by
  obtain ⟨n45, m45, k45⟩ := byte_ne3 (c := c) (n := 45) h45 rfl
  obtain ⟨n46, m46, k46⟩ := byte_ne3 (c := c) (n := 46) h46 rfl
  obtain ⟨n48, m48, k48⟩ := byte_ne3 (c := c) (n := 48) h48 rfl
  obtain ⟨n101, m101, k101⟩ := byte_ne3 (c := c) (n := 101) h101 rfl
  obtain ⟨n69, m69, k69⟩ := byte_ne3 (c := c) (n := 69) h69 rfl
  obtain ⟨n43, m43, k43⟩ := byte_ne3 (c := c) (n := 43) h43 rfl
  have f1 : (48 : Int) ≤ ((c.toNat : Nat) : Int) := by omega
  have f2 : ¬ ((c.toNat : Nat) : Int) ≤ 57 := by omega
  have hd : isD c = false := by simp [isD]; omega
  have hc : s = 0 ∨ s = 1 ∨ s = 2 ∨ s = 3 ∨ s = 4 ∨ s = 5 ∨ s = 6 ∨ s = 7 ∨ s = 8 := by omega
  rcases hc with rfl | rfl | rfl | rfl | rfl | rfl | rfl | rfl | rfl
  · have hn : numNext 0 c = none := by simp [numNext, hd, h45, h46, h48, h101, h69, h43]
    rw [hn]
    have HN := Lib.hid hn
    clear hn hd
    simp only [Int.natCast_zero, Int.natCast_one, Int.cast_ofNat_Int]
    go_enter Tryz.func170, Tryz.ntmps170
    go_wp2
    exact bodyPost_ret (v := .tuple #[.int .i64 (0 : Nat), .bool false]) (by simp [results, Tryz.results170, go_sem]) rfl ⟨rfl, rfl⟩
  · have hn : numNext 1 c = none := by simp [numNext, hd, h45, h46, h48, h101, h69, h43]
    rw [hn]
    have HN := Lib.hid hn
    clear hn hd
    simp only [Int.natCast_zero, Int.natCast_one, Int.cast_ofNat_Int]
    go_enter Tryz.func170, Tryz.ntmps170
    go_wp2
    exact bodyPost_ret (v := .tuple #[.int .i64 (1 : Nat), .bool false]) (by simp [results, Tryz.results170, go_sem]) rfl ⟨rfl, rfl⟩
  · have hn : numNext 2 c = none := by simp [numNext, hd, h45, h46, h48, h101, h69, h43]
    rw [hn]
    have HN := Lib.hid hn
    clear hn hd
    simp only [Int.natCast_zero, Int.natCast_one, Int.cast_ofNat_Int]
    go_enter Tryz.func170, Tryz.ntmps170
    go_wp2
    exact bodyPost_ret (v := .tuple #[.int .i64 (2 : Nat), .bool false]) (by simp [results, Tryz.results170, go_sem]) rfl ⟨rfl, rfl⟩
  · have hn : numNext 3 c = none := by simp [numNext, hd, h45, h46, h48, h101, h69, h43]
    rw [hn]
    have HN := Lib.hid hn
    clear hn hd
    simp only [Int.natCast_zero, Int.natCast_one, Int.cast_ofNat_Int]
    go_enter Tryz.func170, Tryz.ntmps170
    go_wp2
    exact bodyPost_ret (v := .tuple #[.int .i64 (3 : Nat), .bool false]) (by simp [results, Tryz.results170, go_sem]) rfl ⟨rfl, rfl⟩
  · have hn : numNext 4 c = none := by simp [numNext, hd, h45, h46, h48, h101, h69, h43]
    rw [hn]
    have HN := Lib.hid hn
    clear hn hd
    simp only [Int.natCast_zero, Int.natCast_one, Int.cast_ofNat_Int]
    go_enter Tryz.func170, Tryz.ntmps170
    go_wp2
    exact bodyPost_ret (v := .tuple #[.int .i64 (4 : Nat), .bool false]) (by simp [results, Tryz.results170, go_sem]) rfl ⟨rfl, rfl⟩
  · have hn : numNext 5 c = none := by simp [numNext, hd, h45, h46, h48, h101, h69, h43]
    rw [hn]
    have HN := Lib.hid hn
    clear hn hd
    simp only [Int.natCast_zero, Int.natCast_one, Int.cast_ofNat_Int]
    go_enter Tryz.func170, Tryz.ntmps170
    go_wp2
    exact bodyPost_ret (v := .tuple #[.int .i64 (5 : Nat), .bool false]) (by simp [results, Tryz.results170, go_sem]) rfl ⟨rfl, rfl⟩
  · have hn : numNext 6 c = none := by simp [numNext, hd, h45, h46, h48, h101, h69, h43]
    rw [hn]
    have HN := Lib.hid hn
    clear hn hd
    simp only [Int.natCast_zero, Int.natCast_one, Int.cast_ofNat_Int]
    go_enter Tryz.func170, Tryz.ntmps170
    go_wp2
    exact bodyPost_ret (v := .tuple #[.int .i64 (6 : Nat), .bool false]) (by simp [results, Tryz.results170, go_sem]) rfl ⟨rfl, rfl⟩
  · have hn : numNext 7 c = none := by simp [numNext, hd, h45, h46, h48, h101, h69, h43]
    rw [hn]
    have HN := Lib.hid hn
    clear hn hd
    simp only [Int.natCast_zero, Int.natCast_one, Int.cast_ofNat_Int]
    go_enter Tryz.func170, Tryz.ntmps170
    go_wp2
    exact bodyPost_ret (v := .tuple #[.int .i64 (7 : Nat), .bool false]) (by simp [results, Tryz.results170, go_sem]) rfl ⟨rfl, rfl⟩
  · have hn : numNext 8 c = none := by simp [numNext, hd, h45, h46, h48, h101, h69, h43]
    rw [hn]
    have HN := Lib.hid hn
    clear hn hd
    simp only [Int.natCast_zero, Int.natCast_one, Int.cast_ofNat_Int]
    go_enter Tryz.func170, Tryz.ntmps170
    go_wp2
    exact bodyPost_ret (v := .tuple #[.int .i64 (8 : Nat), .bool false]) (by simp [results, Tryz.results170, go_sem]) rfl ⟨rfl, rfl⟩

/-- The state behind a number's state and a byte. -/
theorem next_any (s : Nat) (hs : s ≤ 8) (c : UInt8) (w : World) : Calls Tryz.prog 170 #[.int .i64 (s : Int), .int .u8 ((c.toNat : Nat) : Int)] w fun e w' => nextRet s (numNext s c) e ∧ w' = w := by
  by_cases h45 : c = 45
  · exact next_45 s hs c h45 w
  by_cases h46 : c = 46
  · exact next_46 s hs c h46 w
  by_cases h48 : c = 48
  · exact next_48 s hs c h48 w
  by_cases h101 : c = 101
  · exact next_101 s hs c h101 w
  by_cases h69 : c = 69
  · exact next_69 s hs c h69 w
  by_cases h43 : c = 43
  · exact next_43 s hs c h43 w
  by_cases h1 : 48 ≤ c.toNat
  · by_cases h2 : c.toNat ≤ 57
    · exact next_dig s hs c h45 h46 h48 h101 h69 h43 h1 h2 w
    · exact next_up s hs c h45 h46 h48 h101 h69 h43 (by omega) w
  · exact next_low s hs c h45 h46 h48 h101 h69 h43 (by omega) w
end Go.Proofs.YtakkmiomhackiaaGreatDoor
