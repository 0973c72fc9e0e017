/-
  Several texts in one, each under its own head. Conditions: none.
-/
import Derived.Test.YtakkmiomhackiaaGreatDoorLa06
import Derived.Test.YtakkmiomhackiaaGreatDoorLa07
import Derived.Test.YtakkmiomhackiaaGreatDoorLa02
import Derived.Laws.IdiomStrings
import Derived.Laws.BytesArg
import Derived.WalkLawsBesides
import Derived.Defers
import Derived.Recover
import Derived.Laws.Externs
import Derived.Laws.BitsAllLaws
set_option linter.all false

/-
  Package lex, fifth part: slash, letterU.
-/
namespace Go.Proofs.YtakkmiomhackiaaGreatDoor
open Go.RowKit
set_option maxRecDepth 100000

/-- A step's answer: its number, and the lexer's cells behind it; of all else nothing has turned. -/
def StepRet (w : World) (b : Nat) (no : Int) (c : Array Value) (e : Ending) (w' : World) : Prop := e = .returned (.int .i64 no) ∧ w'.heap[b]? = some (.cells c 228 (0, 0)) ∧ Keeps (fun k => k = b) w w'

theorem slash_any (w : World) (b : Nat) (v0 v1 v2 v3 v4 v5 v6 v7 v8 v9 va vb vc vd : Value) (ch : UInt8) (h : w.heap[b]? = some (.cells #[v0, v1, v2, v3, v4, v5, v6, v7, v8, v9, va, vb, vc, vd] 228 (0, 0))) :
    Calls Tryz.prog 223 #[.pointer (some ⟨b, 0, none⟩), .int .u8 ((ch.toNat : Nat) : Int)] w fun e w' => (ch = 92 → StepRet w b 0 #[v0, v1, v2, .func (.func 241) #[] #[], v4, v5, v6, v7, v8, v9, va, vb, vc, vd] e w') ∧ (ch ≠ 92 → e = .returned (.int .i64 93) ∧ w' = w) := by
  obtain ⟨c0, c1, c2, c3, c4, c5, c6, c7, c8, c9, ca, cb, cc, cd, cf⟩ := cells14 h
  have H := Lib.hid h
  clear h
  by_cases hc : ch = 92
  · have hv : ((ch.toNat : Nat) : Int) = 92 := by rw [hc]; rfl
    have HC := Lib.hid hc
    clear hc
    go_enter Tryz.func223, Tryz.ntmps223
    go_wp2_with fail
    go_ret
    exact ⟨fun _ => ⟨rfl, set_at H.out _, (Keeps.refl (fun k => k = b) w).setCell (p := ⟨b, 3, none⟩) (.inl rfl) _⟩, fun hne => absurd HC.out hne⟩
  · obtain ⟨n1, n2, n3⟩ := byte_ne3 (c := ch) (n := 92) hc rfl
    have HC := Lib.hid hc
    clear hc
    go_enter Tryz.func223, Tryz.ntmps223
    go_wp2_with fail
    go_ret
    exact ⟨fun he => absurd he HC.out, fun _ => ⟨rfl, rfl⟩⟩

theorem letterU_any (w : World) (b : Nat) (v0 v1 v2 v3 v4 v5 v6 v7 v8 v9 vc vd : Value) (dg cd' : Nat) (ch : UInt8) (h : w.heap[b]? = some (.cells #[v0, v1, v2, v3, v4, v5, v6, v7, v8, v9, .int .i64 dg, .int .i32 cd', vc, vd] 228 (0, 0))) :
    Calls Tryz.prog 241 #[.pointer (some ⟨b, 0, none⟩), .int .u8 ((ch.toNat : Nat) : Int)] w fun e w' => (ch = 117 → StepRet w b 0 #[v0, v1, v2, .func (.func 188) #[] #[], v4, v5, v6, v7, v8, v9, .int .i64 0, .int .i32 0, vc, vd] e w') ∧ (ch ≠ 117 → e = .returned (.int .i64 93) ∧ w' = w) := by
  obtain ⟨c0, c1, c2, c3, c4, c5, c6, c7, c8, c9, ca, cb, cc, cd, cf⟩ := cells14 h
  have H := Lib.hid h
  clear h
  by_cases hc : ch = 117
  · have hv : ((ch.toNat : Nat) : Int) = 117 := by rw [hc]; rfl
    have HC := Lib.hid hc
    clear hc
    go_enter Tryz.func241, Tryz.ntmps241
    go_wp2_with fail
    go_ret
    exact ⟨fun _ => ⟨rfl, set_at (set_at (set_at H.out _) _) _, (((Keeps.refl (fun k => k = b) w).setCell (p := ⟨b, 10, none⟩) (.inl rfl) _).setCell (p := ⟨b, 11, none⟩) (.inl rfl) _).setCell (p := ⟨b, 3, none⟩) (.inl rfl) _⟩, fun hne => absurd HC.out hne⟩
  · obtain ⟨n1, n2, n3⟩ := byte_ne3 (c := ch) (n := 117) hc rfl
    have HC := Lib.hid hc
    clear hc
    go_enter Tryz.func241, Tryz.ntmps241
    go_wp2_with fail
    go_ret
    exact ⟨fun he => absurd he HC.out, fun _ => ⟨rfl, rfl⟩⟩
end Go.Proofs.YtakkmiomhackiaaGreatDoor

/-
  Package lex, third part: blank, ends, word, said.
-/
namespace Go.Proofs.YtakkmiomhackiaaGreatDoor
open Go.RowKit
set_option maxRecDepth 100000

theorem numEnds_any (s : Nat) (hs : s ≤ 8) (w : World) : Calls Tryz.prog 109 #[.int .i64 (s : Int)] w fun e w' => e = .returned (.bool (numEnds s)) ∧ w' = w := by
  have hc : s = 0 ∨ s = 1 ∨ s = 2 ∨ s = 3 ∨ s = 4 ∨ s = 5 ∨ s = 6 ∨ s = 7 ∨ s = 8 := by omega
  rcases hc with rfl | rfl | rfl | rfl | rfl | rfl | rfl | rfl | rfl
  · rw [show numEnds 0 = false from rfl]
    simp only [Int.natCast_zero, Int.natCast_one, Int.cast_ofNat_Int]
    go_enter Tryz.func109, Tryz.ntmps109
    go_wp2
    go_ret
    exact ⟨rfl, rfl⟩
  · rw [show numEnds 1 = false from rfl]
    simp only [Int.natCast_zero, Int.natCast_one, Int.cast_ofNat_Int]
    go_enter Tryz.func109, Tryz.ntmps109
    go_wp2
    go_ret
    exact ⟨rfl, rfl⟩
  · rw [show numEnds 2 = true from rfl]
    simp only [Int.natCast_zero, Int.natCast_one, Int.cast_ofNat_Int]
    go_enter Tryz.func109, Tryz.ntmps109
    go_wp2
    go_ret
    exact ⟨rfl, rfl⟩
  · rw [show numEnds 3 = true from rfl]
    simp only [Int.natCast_zero, Int.natCast_one, Int.cast_ofNat_Int]
    go_enter Tryz.func109, Tryz.ntmps109
    go_wp2
    go_ret
    exact ⟨rfl, rfl⟩
  · rw [show numEnds 4 = false from rfl]
    simp only [Int.natCast_zero, Int.natCast_one, Int.cast_ofNat_Int]
    go_enter Tryz.func109, Tryz.ntmps109
    go_wp2
    go_ret
    exact ⟨rfl, rfl⟩
  · rw [show numEnds 5 = true from rfl]
    simp only [Int.natCast_zero, Int.natCast_one, Int.cast_ofNat_Int]
    go_enter Tryz.func109, Tryz.ntmps109
    go_wp2
    go_ret
    exact ⟨rfl, rfl⟩
  · rw [show numEnds 6 = false from rfl]
    simp only [Int.natCast_zero, Int.natCast_one, Int.cast_ofNat_Int]
    go_enter Tryz.func109, Tryz.ntmps109
    go_wp2
    go_ret
    exact ⟨rfl, rfl⟩
  · rw [show numEnds 7 = false from rfl]
    simp only [Int.natCast_zero, Int.natCast_one, Int.cast_ofNat_Int]
    go_enter Tryz.func109, Tryz.ntmps109
    go_wp2
    go_ret
    exact ⟨rfl, rfl⟩
  · rw [show numEnds 8 = true from rfl]
    simp only [Int.natCast_zero, Int.natCast_one, Int.cast_ofNat_Int]
    go_enter Tryz.func109, Tryz.ntmps109
    go_wp2
    go_ret
    exact ⟨rfl, rfl⟩

set_option maxHeartbeats 2000000 in
theorem blank_any (c : UInt8) (w : World) : Calls Tryz.prog 134 #[.int .u8 ((c.toNat : Nat) : Int)] w fun e w' => e = .returned (.bool (isBlank c)) ∧ w' = w := by
  by_cases h32 : c = 32
  · have hn : isBlank c = true := by rw [h32]; rfl
    have HN := Lib.hid hn
    have hv : ((c.toNat : Nat) : Int) = 32 := by rw [h32]; rfl
    clear hn h32
    go_enter Tryz.func134, Tryz.ntmps134
    go_wp2
    go_ret
    exact ⟨by rw [HN.out]; rfl, rfl⟩
  by_cases h9 : c = 9
  · have hn : isBlank c = true := by rw [h9]; rfl
    have HN := Lib.hid hn
    have hv : ((c.toNat : Nat) : Int) = 9 := by rw [h9]; rfl
    clear hn h32 h9
    go_enter Tryz.func134, Tryz.ntmps134
    go_wp2
    go_ret
    exact ⟨by rw [HN.out]; rfl, rfl⟩
  by_cases h10 : c = 10
  · have hn : isBlank c = true := by rw [h10]; rfl
    have HN := Lib.hid hn
    have hv : ((c.toNat : Nat) : Int) = 10 := by rw [h10]; rfl
    clear hn h32 h9 h10
    go_enter Tryz.func134, Tryz.ntmps134
    go_wp2
    go_ret
    exact ⟨by rw [HN.out]; rfl, rfl⟩
  by_cases h13 : c = 13
  · have hn : isBlank c = true := by rw [h13]; rfl
    have HN := Lib.hid hn
    have hv : ((c.toNat : Nat) : Int) = 13 := by rw [h13]; rfl
    clear hn h32 h9 h10 h13
    go_enter Tryz.func134, Tryz.ntmps134
    go_wp2
    go_ret
    exact ⟨by rw [HN.out]; rfl, rfl⟩
  have hn : isBlank c = false := by simp [isBlank, h32, h9, h10, h13]
  have HN := Lib.hid hn
  obtain ⟨n32, m32, k32⟩ := byte_ne3 (c := c) (n := 32) h32 rfl
  obtain ⟨n9, m9, k9⟩ := byte_ne3 (c := c) (n := 9) h9 rfl
  obtain ⟨n10, m10, k10⟩ := byte_ne3 (c := c) (n := 10) h10 rfl
  obtain ⟨n13, m13, k13⟩ := byte_ne3 (c := c) (n := 13) h13 rfl
  clear hn h32 h9 h10 h13
  go_enter Tryz.func134, Tryz.ntmps134
  go_wp2
  go_ret
  exact ⟨by rw [HN.out]; rfl, rfl⟩

set_option maxHeartbeats 2000000 in
theorem lexWord_any (c : UInt8) (w : World) : Calls Tryz.prog 140 #[.int .u8 ((c.toNat : Nat) : Int)] w fun e w' => e = .returned (.string ⟨(wordOf c).toArray⟩) ∧ w' = w := by
  by_cases h110 : c = 110
  · have hn : wordOf c = [110, 117, 108, 108] := by rw [h110]; rfl
    have HN := Lib.hid hn
    have hv : ((c.toNat : Nat) : Int) = 110 := by rw [h110]; rfl
    clear hn h110
    go_enter Tryz.func140, Tryz.ntmps140
    go_wp2
    go_ret
    exact ⟨by rw [HN.out]; rfl, rfl⟩
  by_cases h116 : c = 116
  · have hn : wordOf c = [116, 114, 117, 101] := by rw [h116]; rfl
    have HN := Lib.hid hn
    have hv : ((c.toNat : Nat) : Int) = 116 := by rw [h116]; rfl
    clear hn h110 h116
    go_enter Tryz.func140, Tryz.ntmps140
    go_wp2
    go_ret
    exact ⟨by rw [HN.out]; rfl, rfl⟩
  by_cases h102 : c = 102
  · have hn : wordOf c = [102, 97, 108, 115, 101] := by rw [h102]; rfl
    have HN := Lib.hid hn
    have hv : ((c.toNat : Nat) : Int) = 102 := by rw [h102]; rfl
    clear hn h110 h116 h102
    go_enter Tryz.func140, Tryz.ntmps140
    go_wp2
    go_ret
    exact ⟨by rw [HN.out]; rfl, rfl⟩
  have hn : wordOf c = [] := by simp [wordOf, h110, h116, h102]
  have HN := Lib.hid hn
  obtain ⟨n110, m110, k110⟩ := byte_ne3 (c := c) (n := 110) h110 rfl
  obtain ⟨n116, m116, k116⟩ := byte_ne3 (c := c) (n := 116) h116 rfl
  obtain ⟨n102, m102, k102⟩ := byte_ne3 (c := c) (n := 102) h102 rfl
  clear hn h110 h116 h102
  go_enter Tryz.func140, Tryz.ntmps140
  go_wp2
  go_ret
  exact ⟨by rw [HN.out]; rfl, rfl⟩

/-- What said hands back. -/
def saidRet (o : Option UInt8) (e : Ending) : Prop := match o with
  | some b => e = .returned (.tuple #[.int .u8 ((b.toNat : Nat) : Int), .bool true])
  | none => e = .returned (.tuple #[.int .u8 0, .bool false])

set_option maxHeartbeats 2000000 in
theorem said_any (c : UInt8) (w : World) : Calls Tryz.prog 189 #[.int .u8 ((c.toNat : Nat) : Int)] w fun e w' => saidRet (saidOf c) e ∧ w' = w := by
  by_cases h34 : c = 34
  · have hn : saidOf c = some 34 := by rw [h34]; rfl
    have HN := Lib.hid hn
    have hv : ((c.toNat : Nat) : Int) = 34 := by rw [h34]; rfl
    clear hn h34
    go_enter Tryz.func189, Tryz.ntmps189
    go_wp2
    exact bodyPost_ret (v := .tuple #[.int .u8 34, .bool true]) (by simp [results, Tryz.results189, go_sem, hv]) rfl ⟨by rw [HN.out]; rfl, rfl⟩
  by_cases h92 : c = 92
  · have hn : saidOf c = some 92 := by rw [h92]; rfl
    have HN := Lib.hid hn
    have hv : ((c.toNat : Nat) : Int) = 92 := by rw [h92]; rfl
    clear hn h34 h92
    go_enter Tryz.func189, Tryz.ntmps189
    go_wp2
    exact bodyPost_ret (v := .tuple #[.int .u8 92, .bool true]) (by simp [results, Tryz.results189, go_sem, hv]) rfl ⟨by rw [HN.out]; rfl, rfl⟩
  by_cases h47 : c = 47
  · have hn : saidOf c = some 47 := by rw [h47]; rfl
    have HN := Lib.hid hn
    have hv : ((c.toNat : Nat) : Int) = 47 := by rw [h47]; rfl
    clear hn h34 h92 h47
    go_enter Tryz.func189, Tryz.ntmps189
    go_wp2
    exact bodyPost_ret (v := .tuple #[.int .u8 47, .bool true]) (by simp [results, Tryz.results189, go_sem, hv]) rfl ⟨by rw [HN.out]; rfl, rfl⟩
  by_cases h98 : c = 98
  · have hn : saidOf c = some 8 := by rw [h98]; rfl
    have HN := Lib.hid hn
    have hv : ((c.toNat : Nat) : Int) = 98 := by rw [h98]; rfl
    clear hn h34 h92 h47 h98
    go_enter Tryz.func189, Tryz.ntmps189
    go_wp2
    exact bodyPost_ret (v := .tuple #[.int .u8 8, .bool true]) (by simp [results, Tryz.results189, go_sem, hv]) rfl ⟨by rw [HN.out]; rfl, rfl⟩
  by_cases h102 : c = 102
  · have hn : saidOf c = some 12 := by rw [h102]; rfl
    have HN := Lib.hid hn
    have hv : ((c.toNat : Nat) : Int) = 102 := by rw [h102]; rfl
    clear hn h34 h92 h47 h98 h102
    go_enter Tryz.func189, Tryz.ntmps189
    go_wp2
    exact bodyPost_ret (v := .tuple #[.int .u8 12, .bool true]) (by simp [results, Tryz.results189, go_sem, hv]) rfl ⟨by rw [HN.out]; rfl, rfl⟩
  by_cases h110 : c = 110
  · have hn : saidOf c = some 10 := by rw [h110]; rfl
    have HN := Lib.hid hn
    have hv : ((c.toNat : Nat) : Int) = 110 := by rw [h110]; rfl
    clear hn h34 h92 h47 h98 h102 h110
    go_enter Tryz.func189, Tryz.ntmps189
    go_wp2
    exact bodyPost_ret (v := .tuple #[.int .u8 10, .bool true]) (by simp [results, Tryz.results189, go_sem, hv]) rfl ⟨by rw [HN.out]; rfl, rfl⟩
  by_cases h114 : c = 114
  · have hn : saidOf c = some 13 := by rw [h114]; rfl
    have HN := Lib.hid hn
    have hv : ((c.toNat : Nat) : Int) = 114 := by rw [h114]; rfl
    clear hn h34 h92 h47 h98 h102 h110 h114
    go_enter Tryz.func189, Tryz.ntmps189
    go_wp2
    exact bodyPost_ret (v := .tuple #[.int .u8 13, .bool true]) (by simp [results, Tryz.results189, go_sem, hv]) rfl ⟨by rw [HN.out]; rfl, rfl⟩
  by_cases h116 : c = 116
  · have hn : saidOf c = some 9 := by rw [h116]; rfl
    have HN := Lib.hid hn
    have hv : ((c.toNat : Nat) : Int) = 116 := by rw [h116]; rfl
    clear hn h34 h92 h47 h98 h102 h110 h114 h116
    go_enter Tryz.func189, Tryz.ntmps189
    go_wp2
    exact bodyPost_ret (v := .tuple #[.int .u8 9, .bool true]) (by simp [results, Tryz.results189, go_sem, hv]) rfl ⟨by rw [HN.out]; rfl, rfl⟩
  have hn : saidOf c = none := by simp [saidOf, h34, h92, h47, h98, h102, h110, h114, h116]
  have HN := Lib.hid hn
  obtain ⟨n34, m34, k34⟩ := byte_ne3 (c := c) (n := 34) h34 rfl
  obtain ⟨n92, m92, k92⟩ := byte_ne3 (c := c) (n := 92) h92 rfl
  obtain ⟨n47, m47, k47⟩ := byte_ne3 (c := c) (n := 47) h47 rfl
  obtain ⟨n98, m98, k98⟩ := byte_ne3 (c := c) (n := 98) h98 rfl
  obtain ⟨n102, m102, k102⟩ := byte_ne3 (c := c) (n := 102) h102 rfl
  obtain ⟨n110, m110, k110⟩ := byte_ne3 (c := c) (n := 110) h110 rfl
  obtain ⟨n114, m114, k114⟩ := byte_ne3 (c := c) (n := 114) h114 rfl
  obtain ⟨n116, m116, k116⟩ := byte_ne3 (c := c) (n := 116) h116 rfl
  clear hn h34 h92 h47 h98 h102 h110 h114 h116
  go_enter Tryz.func189, Tryz.ntmps189
  go_wp2
  exact bodyPost_ret (v := .tuple #[.int .u8 0, .bool false]) (by simp [results, Tryz.results189, go_sem]) rfl ⟨by rw [HN.out]; rfl, rfl⟩
end Go.Proofs.YtakkmiomhackiaaGreatDoor

/-
  Package lex, sixth part: escape.
-/
namespace Go.Proofs.YtakkmiomhackiaaGreatDoor
open Go.RowKit
set_option maxRecDepth 100000

theorem elemB : Elem 22 5 1 := ⟨Tryz.underlying22, by
  have h : (Tryz.prog.info? 5).map (fun i => (i.zero, i.size, i.bytes)) = some (some (.int .u8 0), 1, 1) := by kernel_rfl
  obtain ⟨i, h1, h2, h3, h4⟩ := info_parts h
  exact ⟨i, _, h1, h2, h3, h4, rfl⟩⟩
/-- The text's bytes have grown by one; the step that comes next. -/
def SaysRet (w : World) (b : Nat) (saysV : Value) (l : List UInt8) (c : Value → Array Value) (e : Ending) (w' : World) : Prop := e = .returned (.int .i64 0) ∧ ∃ g off cap, w'.heap[b]? = some (.cells (c (.slice (some ⟨g, off, none⟩) l.length cap)) 228 (0, 0)) ∧
  Win 5 encB w' (.slice (some ⟨g, off, none⟩) l.length cap) l ∧ (saysV.ownBlock = some g ∨ w.heap.size ≤ g) ∧ Keeps (fun k => k = b ∨ saysV.ownBlock = some k) w w'

set_option maxHeartbeats 2000000 in
theorem escape_said (w : World) (b : Nat) (v0 v1 v2 v3 v4 v5 v6 v7 v8 va vb vc vd saysV : Value) (ch d : UInt8) (l : List UInt8) (h : w.heap[b]? = some (.cells #[v0, v1, v2, v3, v4, v5, v6, v7, v8, saysV, va, vb, vc, vd] 228 (0, 0)))
    (hu : ch ≠ 117) (hs : saidOf ch = some d) (hr : Win 5 encB w saysV l) (hl : l.length ≤ 1073741824) :
    Calls Tryz.prog 168 #[.pointer (some ⟨b, 0, none⟩), .int .u8 ((ch.toNat : Nat) : Int)] w fun e w' => SaysRet w b saysV (l ++ [d]) (fun v => #[v0, v1, v2, .func (.func 138) #[] #[], v4, v5, v6, v7, v8, v, va, vb, vc, vd]) e w' := by
  obtain ⟨c0, c1, c2, c3, c4, c5, c6, c7, c8, c9, ca, cb, cc, cd, cf⟩ := cells14 h
  have HNE := Lib.hid (hr.ne h (by decide))
  have H := Lib.hid h
  have hlt := lt_of_block h
  obtain ⟨ta, tc, htv⟩ := hr.shape
  have hr2 : Win 5 encB (w.alloc (.cells #[encB d] 5)) saysV l := hr.keeps (F := fun _ => False) ((Keeps.refl _ w).alloc _) (fun _ _ => id)
  have HR := Lib.hid hr2
  have HS := Lib.hid (said_any ch)
  have hs2 := hs
  obtain ⟨n1, n2, n3⟩ := byte_ne3 (c := ch) (n := 117) hu rfl
  rw [hs] at HS
  clear h hr hr2 hu hs hs2
  subst htv
  go_enter Tryz.func168, Tryz.ntmps168
  go_wp2_with fail
  refine (HS.out _).mono ?_
  rintro e w1 ⟨rfl, rfl⟩
  go_wp2_with (at_builtin; refine append_win elemB rfl _ _ rfl rfl HR.out ⟨w1.heap.size, 0, none⟩ 1 d rfl ?_ rfl ?_ ?_ ?_)
  · simp
  · omega
  · unfold maxLen; omega
  intro g off cap w' hrow hgb0 hgr
  have hb' := (hgr.block b (by simp; omega) (fun e => HNE.out e.symm)).trans ((Below.heap_alloc w1 _ _ hlt).trans H.out)
  have HNG := Lib.hid (hrow.ne hb' (by decide))
  have hgb : (Value.slice ta l.length tc).ownBlock = some g ∨ w1.heap.size ≤ g := hgb0.elim .inl (fun h => .inr (by have := h.1; first | omega | (simp at this; omega)))
  have HGB := Lib.hid hgb
  have HK := Lib.hid (((Keeps.refl (fun k => k = b ∨ (Value.slice ta l.length tc).ownBlock = some k) w1).alloc (.cells #[encB d] 5)).grown hgr (fun k e => .inl (.inr e)))
  have HROW := Lib.hid hrow
  obtain ⟨d0, d1, d2, d3, d4, d5, d6, d7, d8, d9, da, db, dc, dd, df⟩ := cells14 hb'
  have HB := Lib.hid hb'
  clear hb' hrow hgb hgb0 hgr c0 c1 c2 c3 c4 c5 c6 c7 c8 c9 ca cb cc cd cf
  go_wp2_with fail
  go_ret
  refine ⟨rfl, g, off, cap, ?_, ?_, HGB.out, (HK.out.setCell (p := ⟨b, 9, none⟩) (.inl (.inl rfl)) _).setCell (p := ⟨b, 3, none⟩) (.inl (.inl rfl)) _⟩
  · rw [List.length_append]
    exact set_at (set_at HB.out _) _
  · rw [List.length_append]
    exact HROW.out.keeps (((Keeps.refl (fun k => k = b) w').setCell (p := ⟨b, 9, none⟩) (.inl rfl) _).setCell (p := ⟨b, 3, none⟩) (.inl rfl) _) (fun k e hk => HNG.out (e.trans (congrArg some hk)))

theorem escape_u (w : World) (b : Nat) (v0 v1 v2 v3 v4 v5 v6 v7 v8 v9 vc vd : Value) (dg cd' : Nat) (h : w.heap[b]? = some (.cells #[v0, v1, v2, v3, v4, v5, v6, v7, v8, v9, .int .i64 dg, .int .i32 cd', vc, vd] 228 (0, 0))) :
    Calls Tryz.prog 168 #[.pointer (some ⟨b, 0, none⟩), .int .u8 117] w fun e w' => StepRet w b 0 #[v0, v1, v2, .func (.func 188) #[] #[], v4, v5, v6, v7, v8, v9, .int .i64 0, .int .i32 0, vc, vd] e w' := by
  obtain ⟨c0, c1, c2, c3, c4, c5, c6, c7, c8, c9, ca, cb, cc, cd, cf⟩ := cells14 h
  have H := Lib.hid h
  clear h
  go_enter Tryz.func168, Tryz.ntmps168
  go_wp2_with fail
  go_ret
  exact ⟨rfl, set_at (set_at (set_at H.out _) _) _, (((Keeps.refl (fun k => k = b) w).setCell (p := ⟨b, 10, none⟩) (.inl rfl) _).setCell (p := ⟨b, 11, none⟩) (.inl rfl) _).setCell (p := ⟨b, 3, none⟩) (.inl rfl) _⟩
theorem escape_bad (w : World) (b : Nat) (ch : UInt8) (hu : ch ≠ 117) (hs : saidOf ch = none) :
    Calls Tryz.prog 168 #[.pointer (some ⟨b, 0, none⟩), .int .u8 ((ch.toNat : Nat) : Int)] w fun e w' => e = .returned (.int .i64 92) ∧ w' = w := by
  have HS := Lib.hid (said_any ch)
  obtain ⟨n1, n2, n3⟩ := byte_ne3 (c := ch) (n := 117) hu rfl
  rw [hs] at HS
  clear hu hs
  go_enter Tryz.func168, Tryz.ntmps168
  go_wp2_with fail
  refine (HS.out _).mono ?_
  rintro e w1 ⟨rfl, rfl⟩
  go_wp2_with fail
  go_ret
  exact ⟨rfl, rfl⟩
end Go.Proofs.YtakkmiomhackiaaGreatDoor

/-
  Package lex, eighth part: how tokens stand in memory.
-/
namespace Go.Proofs.YtakkmiomhackiaaGreatDoor
open Go.RowKit
set_option maxRecDepth 100000

def tokEnc : Tok → Value
  | .mark a s => .iface 238 (.agg #[.int .i64 a, .int .i64 1, .int .u8 ((s.toNat : Nat) : Int)])
  | .term a n name => .iface 309 (.agg #[.int .i64 a, .int .i64 n, .string ⟨name.toArray⟩])
  | .num a n b => .iface 271 (.agg #[.int .i64 a, .int .i64 n, .int .u64 b])
  | .str a n t => .iface 241 (.agg #[.int .i64 a, .int .i64 n, .string ⟨t.toArray⟩])

theorem cell_new {w : World} {n : Nat} {v : Value} {T : TypeId} (h : n = w.heap.size) : (w.alloc (.cells #[v] T)).cell? ⟨n, 0, none⟩ = some v := by subst h; rw [cell_at (heap_alloc_new w _)]; rfl
theorem set_size (w : World) (p : Addr) (v : Value) : (w.setCell p v).heap.size = w.heap.size := by simp [World.setCell]
/-- 'string(b)' of bytes in a window. -/
theorem win_string {w : World} {v : Value} {l : List UInt8} (h : Win 5 encB w v l) : (convert 22 9 v).run Tryz.prog w = .ok (.string ⟨l.toArray⟩) w := by
  rcases h with ⟨rfl, rfl⟩ | ⟨g, off, cap, cur, rfl, hg, hc, ho, hm, hi⟩
  · exact run_convert_bytes_nil (P := Tryz.prog) w 22 5 Tryz.underlying22 Tryz.underlying5 0 0 9 Tryz.underlying9
  · refine run_convert_bytes_back w 22 9 5 ⟨g, off, none⟩ cap l Tryz.underlying22 Tryz.underlying5 Tryz.underlying9 fun j hj => ?_
    have hplain : (⟨g, off, none⟩ : Addr).add j = ⟨g, off + j, none⟩ := by unfold Addr.add; split <;> simp_all
    rw [hplain, cell_at hg]
    exact hi j l[j] (List.getElem?_eq_getElem hj)

/-- One token more was told. -/
def ToldRet (w : World) (b : Nat) (tokV : Value) (toks : List Value) (t : Value) (c : Value → Array Value) (v : Value) (e : Ending) (w' : World) : Prop := e = .returned v ∧ ∃ g off cap, w'.heap[b]? = some (.cells (c (.slice (some ⟨g, off, none⟩) (toks.length + 1) cap)) 228 (0, 0)) ∧
  Win 232 id w' (.slice (some ⟨g, off, none⟩) (toks.length + 1) cap) (toks ++ [t]) ∧ (tokV.ownBlock = some g ∨ w.heap.size ≤ g) ∧ Keeps (fun k => k = b ∨ tokV.ownBlock = some k) w w'

end Go.Proofs.YtakkmiomhackiaaGreatDoor

/-
  What packages node and parse compute, in plain Lean: rows of values that steps are done to; a document's bytes as they come. No program in sight.
-/
namespace Go.Proofs.YtakkmiomhackiaaGreatDoor

/-! ### node -/
inductive Tr | null | flag (b : Bool) | num (bits : Nat) | text (s : List UInt8) | list (l : List Tr) | object (keys : List (List UInt8)) (l : List Tr)
structure Sz where
  nodes : Nat
  bytes : Nat
  depth : Nat
def Sz.within (s : Sz) : Bool := decide (s.nodes ≤ 65536) && decide (s.bytes ≤ 2097152) && decide (s.depth ≤ 512)
def sumSz (bytes : Nat) (l : List Sz) : Sz := let s : Sz := l.foldl (fun (a z : Sz) => (⟨a.nodes + z.nodes, a.bytes + z.bytes, max a.depth z.depth⟩ : Sz)) ⟨1, bytes, 0⟩; { s with depth := s.depth + 1 }
def keysLen (keys : List (List UInt8)) : Nat := keys.foldl (fun a k => a + k.length) 0
def Tr.sized : Tr → Sz
  | .null | .flag _ | .num _ => ⟨1, 0, 1⟩
  | .text s => ⟨1, s.length, 1⟩
  | .list l => sumSz 0 (l.attach.map fun x => Tr.sized x.1)
  | .object keys l => sumSz (keysLen keys) (l.attach.map fun x => Tr.sized x.1)
termination_by t => t
decreasing_by all_goals (simp_wf; have := List.sizeOf_lt_of_mem x.2; omega)

/-- Of two texts, whose bytes come first: that of their 16-bit units; texts that are none come behind. -/
def unitLt (x y : UInt8) : Bool := if 240 ≤ x.toNat ∧ ¬ 240 ≤ y.toNat ∧ 238 ≤ y.toNat then true else if 240 ≤ y.toNat ∧ ¬ 240 ≤ x.toNat ∧ 238 ≤ x.toNat then false else decide (x.toNat < y.toNat)

def putItem (items : List Tr) (x : Tr) : List Tr := if x.sized.within then items ++ [x] else items
/-- A scalar is put. -/
def putScalar (items : List Tr) (x : Tr) : List Tr := if 65536 ≤ items.length then items else putItem items x
def zeroed (bits : Nat) : Nat := if bits = 9223372036854775808 then 0 else bits
def putNum (items : List Tr) (bits : Nat) : List Tr := putScalar items (.num (zeroed bits))
def putText (items : List Tr) (s : List UInt8) : List Tr := if rightOf s then putScalar items (.text s) else items
def putGroup (items : List Tr) (n : Nat) (x : Tr) : List Tr := if x.sized.within then items.take (items.length - n) ++ [x] else items
def putList (items : List Tr) (n : Nat) : List Tr := if items.length < n then items else putGroup items n (.list (items.drop (items.length - n)))

/-! ### parse -/
inductive Fr | list (many : Nat) | object (keys : List (List UInt8))
structure Ps where
  depth : Nat
  place : Nat
  lex : Lx
  items : List Tr
  pile : List Fr
  want : Nat
  nodes : Nat
  bytes : Nat
/-- What was given up: its number, its place. -/
abbrev Out := Except (Nat × Nat) Ps
def Ps.value (p : Ps) (at_ : Nat) : Out :=
  if p.want ≠ 0 ∧ p.want ≠ 1 then .error (120, at_) else if p.pile.length = p.depth then .error (121, at_) else if p.nodes = 65536 then .error (3, at_) else .ok { p with nodes := p.nodes + 1 }
def Ps.begins (p : Ps) (c : UInt8) : Out := if c = 34 ∧ (p.want = 2 ∨ p.want = 3) then .ok p else p.value p.place
def more (l : List Fr) : List Fr := match l.getLast? with
  | some (.list n) => l.dropLast ++ [.list (n + 1)]
  | _ => l
def Ps.put (p : Ps) : Ps := { p with want := if p.pile = [] then 6 else 5, pile := more p.pile }
def Ps.weigh (p : Ps) (s : List UInt8) (at_ : Nat) : Out := if 2097152 < p.bytes + s.length then .error (3, at_) else .ok { p with bytes := p.bytes + s.length }
def lastKeys (l : List Fr) : List (List UInt8) := match l.getLast? with
  | some (.object k) => k
  | _ => []
def isObj (l : List Fr) : Bool := match l.getLast? with
  | some (.object _) => true
  | _ => false
def Ps.text (p : Ps) (at_ : Nat) (s : List UInt8) : Out :=
  if p.want ≠ 2 ∧ p.want ≠ 3 then (p.weigh s at_).map fun p => Ps.put { p with items := putText p.items s }
  else if s ∈ lastKeys p.pile then .error (101, at_)
  else (Ps.weigh { p with pile := p.pile.dropLast ++ [.object (lastKeys p.pile ++ [s])] } s at_).map fun p => { p with want := 4 }
def signOf : Fr → UInt8
  | .list _ => 93
  | .object _ => 125
def Ps.ends (p : Ps) (sign : UInt8) : Bool := (match p.pile.getLast? with
  | some f => signOf f = sign
  | none => false) && (p.want = 5 || p.want = 1 || p.want = 2)
def Ps.scalar (p : Ps) (x : Tr) : Ps := Ps.put { p with items := putScalar p.items x }
def nameTr (name : List UInt8) : Tr := if name = [110, 117, 108, 108] then .null else .flag (name = [116, 114, 117, 101])

section
variable (putObject : List Tr → List (List UInt8) → List Tr)
def Ps.finishOpen (p : Ps) : Ps := match p.pile.getLast? with
  | some (.list n) => Ps.put { p with pile := p.pile.dropLast, items := putList p.items n }
  | some (.object k) => Ps.put { p with pile := p.pile.dropLast, items := putObject p.items k }
  | none => p
def Ps.mark (p : Ps) (at_ : Nat) (sign : UInt8) : Out :=
  if sign = 91 then (p.value at_).map fun p => { p with pile := p.pile ++ [.list 0], want := 1 }
  else if sign = 123 then (p.value at_).map fun p => { p with pile := p.pile ++ [.object []], want := 2 }
  else if sign = 58 ∧ p.want = 4 then .ok { p with want := 0 }
  else if sign = 44 ∧ p.want = 5 then .ok { p with want := if isObj p.pile then 3 else 0 }
  else if p.ends sign then .ok (p.finishOpen putObject)
  else .error (120, at_)
def Ps.token (p : Ps) : Tok → Out
  | .mark a s => p.mark putObject a s
  | .str a _ s => p.text a s
  | .term _ _ n => .ok (p.scalar (nameTr n))
  | .num _ _ b => .ok (Ps.put { p with items := putNum p.items b })
def Ps.drain (p : Ps) (l : List Tok) : Out := l.foldlM (fun p t => p.token putObject t) p
def lexNo (no : Nat) : Nat := if no = 94 then 120 else no
def Lx.heldNow (x : Lx) : Nat := if x.isIn then x.place - x.start else 0
def Ps.take (p : Ps) (c : UInt8) : Out :=
  let r := p.lex.take c
  match Ps.drain putObject { p with lex := r.1 } r.2.1 with
  | .error e => .error e
  | .ok q =>
    if r.2.2.1 ≠ 0 then .error (lexNo r.2.2.1, r.2.2.2)
    else match (if r.1.heldNow = 1 then q.begins c else .ok q) with
      | .error e => .error e
      | .ok q => .ok { q with place := q.place + 1 }
def Ps.feed (p : Ps) (l : List UInt8) : Out := l.foldlM (fun p c => p.take putObject c) p
def Ps.finish (p : Ps) : Out :=
  let r := p.lex.ended
  match Ps.drain putObject { p with lex := r.1 } r.2.1 with
  | .error e => .error e
  | .ok q => if r.2.2.1 ≠ 0 then .error (lexNo r.2.2.1, r.2.2.2) else if q.want ≠ 6 then .error (95, q.place) else .ok q
def Ps.new (depth : Nat) : Ps := ⟨depth, 0, Lx.new, [], [], 0, 0, 0⟩
def Ps.read (l : List UInt8) (depth : Nat) : Out := match (Ps.new depth).feed putObject l with
  | .error e => .error e
  | .ok p => p.finish putObject
end
end Go.Proofs.YtakkmiomhackiaaGreatDoor

/-
  Comparisons of floats by their bits: of finite ones; the bits to which dec rounds are finite. Plain.
-/
namespace Go.Proofs.YtakkmiomhackiaaGreatDoor

/-- The bits of a finite float. -/
def Finite (b : Nat) : Prop := b ≤ most ∨ (9223372036854775808 ≤ b ∧ b ≤ 9223372036854775808 + most)
theorem read_finite {b : Nat} (h : b % 9223372036854775808 ≤ most) : ∃ m i : Nat, m < 9007199254740992 ∧ i ≤ 2045 ∧ (m = 0 ↔ b % 9223372036854775808 = 0) ∧ Ieee.double.read b = .number (b / 9223372036854775808 % 2 == 1) m (-1074 + i) := by
  have e1 : Ieee.double.signWeight = 9223372036854775808 := by decide
  have e2 : Ieee.double.binade = 4503599627370496 := by decide
  have e3 : Ieee.double.infRung = 9218868437227405312 := by decide
  have e4 : Ieee.double.leastPlace = -1074 := by decide
  unfold most at h
  unfold Ieee.Format.read
  simp only [e1, e2, e3, e4]
  generalize b % 9223372036854775808 = r at *
  by_cases hs : r < 4503599627370496
  · rw [if_pos hs]
    exact ⟨r, 0, by omega, by omega, Iff.rfl, by simp⟩
  · rw [if_neg hs, if_pos (by omega)]
    exact ⟨4503599627370496 + r % 4503599627370496, r / 4503599627370496 - 1, by omega, by omega, by omega, rfl⟩
theorem order_self {b : Nat} (h : b % 9223372036854775808 ≤ most) : FloatKind.f64.format.order b b = some .eq := by
  obtain ⟨m, i, _, _, _, hr⟩ := read_finite h
  show Ieee.Datum.order (Ieee.double.read b) (Ieee.double.read b) = _
  rw [hr]
  simp [Ieee.Datum.order]
theorem order_most {b : Nat} (h : b ≤ most) : FloatKind.f64.format.order b most ≠ some .gt := by
  have hb : b % 9223372036854775808 = b := Nat.mod_eq_of_lt (Nat.lt_of_le_of_lt h (by decide))
  obtain ⟨m, i, hm, hi, _, hr⟩ := read_finite (b := b) (by rw [hb]; exact h)
  have hs : (b / 9223372036854775808 % 2 == 1) = false := by
    have : b / 9223372036854775808 = 0 := Nat.div_eq_of_lt (Nat.lt_of_le_of_lt h (by decide))
    rw [this]; rfl
  rw [hs] at hr
  have hmost : Ieee.double.read most = .number false 9007199254740991 (-1074 + 2045) := by decide
  show Ieee.Datum.order (Ieee.double.read b) (Ieee.double.read most) ≠ _
  rw [hr, hmost]
  have hmin : min (-1074 + (i : Int)) (-1074 + 2045) = -1074 + (i : Int) := by omega
  simp only [Ieee.Datum.order, hmin]
  have e1 : ((-1074 + (i : Int)) - (-1074 + (i : Int))).toNat = 0 := by omega
  have e2 : ((-1074 + 2045 : Int) - (-1074 + (i : Int))).toNat = 2045 - i := by omega
  rw [e1, e2]
  have hle : Ieee.signed false m 0 ≤ Ieee.signed false 9007199254740991 (2045 - i) := by
    simp only [Ieee.signed, Nat.shiftLeft_eq]
    have : 1 ≤ 2 ^ (2045 - i) := Nat.one_le_two_pow
    have h3 : 9007199254740991 * 1 ≤ 9007199254740991 * 2 ^ (2045 - i) := Nat.mul_le_mul_left _ this
    have h4 : m * 2 ^ 0 ≤ 9007199254740991 * 2 ^ (2045 - i) := by simp; omega
    rw [if_neg (by decide), if_neg (by decide)]
    exact_mod_cast h4
  intro hc
  have := Option.some.inj hc
  rw [Int.compare_eq_gt] at this
  omega
theorem order_zero {b : Nat} (h : b % 9223372036854775808 ≤ most) : (FloatKind.f64.format.order b 0 == some .eq) = decide (b % 9223372036854775808 = 0) := by
  obtain ⟨m, i, hm, hi, hz, hr⟩ := read_finite h
  have h0 : Ieee.double.read 0 = .number false 0 (-1074) := by decide
  show (Ieee.Datum.order (Ieee.double.read b) (Ieee.double.read 0) == some .eq) = _
  rw [hr, h0]
  have hmin : min (-1074 + (i : Int)) (-1074) = -1074 := by omega
  simp only [Ieee.Datum.order, hmin]
  have e1 : ((-1074 + (i : Int)) - (-1074)).toNat = i := by omega
  have e2 : ((-1074 : Int) - (-1074)).toNat = 0 := by omega
  rw [e1, e2]
  have h1 : Ieee.signed false 0 0 = 0 := by decide
  rw [h1]
  have hp : 0 < 2 ^ i := Nat.two_pow_pos i
  have h2 : Ieee.signed (b / 9223372036854775808 % 2 == 1) m i = 0 ↔ m = 0 := by
    simp only [Ieee.signed, Nat.shiftLeft_eq]
    constructor
    · intro h
      have h3 : ((m * 2 ^ i : Nat) : Int) = 0 := by
        split at h
        · omega
        · exact h
      have h4 : m * 2 ^ i = 0 := by exact_mod_cast h3
      rcases Nat.mul_eq_zero.1 h4 with h5 | h5
      · exact h5
      · omega
    · intro h
      subst h
      simp
  by_cases hm0 : m = 0
  · have hd : b % 9223372036854775808 = 0 := hz.1 hm0
    rw [h2.2 hm0, hd]
    decide
  · have hd : ¬ b % 9223372036854775808 = 0 := fun e => hm0 (hz.2 e)
    have hne : Ieee.signed (b / 9223372036854775808 % 2 == 1) m i ≠ 0 := fun e => hm0 (h2.1 e)
    have hc : compare (Ieee.signed (b / 9223372036854775808 % 2 == 1) m i) 0 ≠ .eq := fun e => hne (Int.compare_eq_eq.1 e)
    rw [decide_eq_false hd]
    cases hcc : compare (Ieee.signed (b / 9223372036854775808 % 2 == 1) m i) 0 with
    | eq => exact absurd hcc hc
    | lt => decide
    | gt => decide
theorem bitsOf_finite {l : List UInt8} {b : Nat} (h : bitsOf l = some b) : Finite b := by
  unfold bitsOf at h
  cases hr : readOf l with
  | none => rw [hr] at h; cases h
  | some t =>
    rw [hr] at h
    simp only [Option.bind_some] at h
    unfold roundedOf at h
    split at h
    · cases h
    · rename_i hle
      simp only [Option.some.injEq] at h
      subst h
      unfold Finite
      split
      · right; omega
      · left; omega
end Go.Proofs.YtakkmiomhackiaaGreatDoor

/-
  Package node, first part: small functions.
-/
namespace Go.Proofs.YtakkmiomhackiaaGreatDoor
open Go.RowKit
set_option maxRecDepth 100000

theorem elemItem : Elem 184 97 16 := ⟨Tryz.underlying184, by
  have h : (Tryz.prog.info? 97).map (fun i => (i.zero, i.size, i.bytes)) = some (some .nilIface, 1, 16) := by kernel_rfl
  obtain ⟨i, h1, h2, h3, h4⟩ := info_parts h
  exact ⟨i, _, h1, h2, h3, h4, rfl⟩⟩

theorem refuse_no (w : World) (no : Nat) : Calls Tryz.prog 212 #[.bool true, .int .i64 no] w fun e w' => e = .returned (.tuple #[]) ∧ w' = w := by
  go_enter Tryz.func212, Tryz.ntmps212
  go_wp2
  go_end0
  exact ⟨rfl, rfl⟩
theorem refuse_yes (w : World) (no : Nat) : Calls Tryz.prog 212 #[.bool false, .int .i64 no] w fun e w' => e = .panicked [{ v := .iface 29 (.int .i64 no), recovered := false }] ∧ w' = w := by
  go_enter Tryz.func212, Tryz.ntmps212
  go_wp2
  exact ⟨rfl, rfl, rfl⟩

theorem size_fits (w : World) (n by' d : Nat) (h : (⟨n, by', d⟩ : Sz).within = true) : Calls Tryz.prog 235 #[.agg #[.int .i64 n, .int .i64 by', .int .i64 d]] w fun e w' => e = .returned (.bool true) ∧ Below w.heap.size w w' := by
  have h1 : (n : Int) ≤ 65536 ∧ (by' : Int) ≤ 2097152 ∧ (d : Int) ≤ 512 := by simp [Sz.within] at h; omega
  obtain ⟨h1, h2, h3⟩ := h1
  clear h
  go_enter Tryz.func235, Tryz.ntmps235
  go_wp2
  go_ret
  exact ⟨rfl, (Below.refl _ _).alloc (Nat.le_refl _) _⟩
theorem sized_num (w : World) (b : Nat) : Calls Tryz.prog 347 #[.float .f64 b] w fun e w' => e = .returned (.agg #[.int .i64 1, .int .i64 0, .int .i64 1]) ∧ Below w.heap.size w w' := by
  go_enter Tryz.func347, Tryz.ntmps347
  go_wp2
  exact bodyPost_ret (v := .agg #[.int .i64 1, .int .i64 0, .int .i64 1]) (by simp [results, Tryz.results347, go_sem]) rfl ⟨rfl, (Below.refl _ _).alloc (Nat.le_refl _) _⟩
theorem sized_text (w : World) (s : ByteArray) : Calls Tryz.prog 349 #[.string s] w fun e w' => e = .returned (.agg #[.int .i64 1, .int .i64 s.size, .int .i64 1]) ∧ Below w.heap.size w w' := by
  go_enter Tryz.func349, Tryz.ntmps349
  go_wp2
  exact bodyPost_ret (v := .agg #[.int .i64 1, .int .i64 s.size, .int .i64 1]) (by simp [results, Tryz.results349, go_sem]) rfl ⟨rfl, (Below.refl _ _).alloc (Nat.le_refl _) _⟩

set_option maxHeartbeats 4000000 in
theorem used_num (w : World) (b : Nat) : Calls Tryz.prog 213 #[.agg #[.int .i64 3, .bool false, .int .u64 b, .string ⟨#[]⟩, .int .i64 0, .slice none 0 0]] w fun e w' => e = .returned (.bool true) ∧ Below w.heap.size w w' := by
  have hb : (((b : Nat) : Int) == 0) = true ∨ (((b : Nat) : Int) == 0) = false := by cases h : (((b : Nat) : Int) == 0) <;> simp
  rcases hb with hb | hb
  all_goals
    go_enter Tryz.func213, Tryz.ntmps213
    go_wp2
    go_ret
    exact ⟨rfl, (Below.refl _ _).alloc (Nat.le_refl _) _⟩
set_option maxHeartbeats 4000000 in
theorem used_text (w : World) (s : ByteArray) : Calls Tryz.prog 213 #[.agg #[.int .i64 4, .bool false, .int .u64 0, .string s, .int .i64 0, .slice none 0 0]] w fun e w' => e = .returned (.bool true) ∧ Below w.heap.size w w' := by
  go_enter Tryz.func213, Tryz.ntmps213
  go_wp2
  all_goals
    go_ret
    exact ⟨rfl, (Below.refl _ _).alloc (Nat.le_refl _) _⟩
end Go.Proofs.YtakkmiomhackiaaGreatDoor

/-
  Package node, second part: the math that it calls; put.
-/
namespace Go.Proofs.YtakkmiomhackiaaGreatDoor
open Go.RowKit
set_option maxRecDepth 100000

theorem f64bits_run (b : Nat) (w : World) : (callFunc 51 #[.float .f64 b]).run Tryz.prog w = .ok (.value (.int .u64 b)) w := by
  rw [run_callFunc_extern (e := Extern.MathFloatBits.float64bits) Tryz.func51 (by kernel_rfl) (by kernel_rfl) (by kernel_rfl) (by kernel_rfl)]
  rfl
theorem f64from_run (b : Nat) (w : World) : (callFunc 215 #[.int .u64 b]).run Tryz.prog w = .ok (.value (.float .f64 b)) w := by
  rw [run_callFunc_extern (e := Extern.MathFloatBits.float64frombits) Tryz.func215 (by kernel_rfl) (by kernel_rfl) (by kernel_rfl) (by kernel_rfl)]
  rfl
theorem finite_mod {b : Nat} (h : Finite b) : b % 9223372036854775808 ≤ most := by
  unfold Finite most at *
  omega
theorem isNaN_any (b : Nat) (w : World) (h : Finite b) : Calls Tryz.prog 216 #[.float .f64 b] w fun e w' => e = .returned (.bool false) ∧ w' = w := by
  have h1 : (FloatKind.f64.format.order b b != some .eq) = false := by rw [order_self (finite_mod h)]; rfl
  clear h
  go_enter Tryz.func216, Tryz.ntmps216
  go_wp2
  go_ret
  exact ⟨rfl, rfl⟩
theorem andNot_top {b : Nat} (h : b < 18446744073709551616) : bits BinOp.andNot IntKind.u64 (b : Int) 9223372036854775808 = (b : Int) % 9223372036854775808 := by
  have e := u64_andNot_nat b 9223372036854775808 h (by decide)
  rw [show (18446744073709551615 - 9223372036854775808 : Nat) = 2 ^ 63 - 1 by decide, Nat.and_two_pow_sub_one_eq_mod] at e
  exact e
theorem abs_any (b : Nat) (w : World) (h : Finite b) : Calls Tryz.prog 236 #[.float .f64 b] w fun e w' => e = .returned (.float .f64 (b % 9223372036854775808)) ∧ w' = w := by
  have h1 := f64bits_run b
  have h2 := f64from_run (b % 9223372036854775808)
  have h3 := andNot_top (b := b) (by unfold Finite most at h; omega)
  rw [show ((b % 9223372036854775808 : Nat) : Int) = (b : Int) % 9223372036854775808 by omega] at h2
  clear h
  go_enter Tryz.func236, Tryz.ntmps236
  go_wp2
  go_ret
  exact ⟨rfl, rfl⟩
theorem isInf_any (b : Nat) (w : World) (h : Finite b) : Calls Tryz.prog 217 #[.float .f64 b, .int .i64 0] w fun e w' => e = .returned (.bool false) ∧ w' = w := by
  have HA := Lib.hid (abs_any b w h)
  have hm := order_most (b := b % 9223372036854775808) (finite_mod h)
  obtain ⟨a, ha⟩ : ∃ a, b % 9223372036854775808 = a := ⟨_, rfl⟩
  rw [ha] at HA hm
  have h1 : (FloatKind.f64.format.order a 9218868437227405311 == some .gt) = false := by
    cases h : FloatKind.f64.format.order a 9218868437227405311 == some .gt with
    | false => rfl
    | true => exact absurd (by simpa [most] using h) hm
  clear h ha hm
  go_enter Tryz.func217, Tryz.ntmps217
  go_wp2_with fail
  refine (HA.out).mono ?_
  rintro e w1 ⟨rfl, rfl⟩
  go_wp2_with fail
  go_ret
  exact ⟨rfl, rfl⟩

/-- Of the row's values one more. -/
def PutRet (w : World) (b : Nat) (V : Value) (vals : List Value) (T : TypeId) (v : Value) (w' : World) : Prop :=
  ∃ g off cap, w'.heap[b]? = some (.cells #[.slice (some ⟨g, off, none⟩) (vals.length + 1) cap] 195 (0, 0)) ∧ Win 97 id w' (.slice (some ⟨g, off, none⟩) (vals.length + 1) cap) (vals ++ [.iface T v]) ∧ (V.ownBlock = some g ∨ w.heap.size ≤ g) ∧ Keeps (fun k => k = b ∨ V.ownBlock = some k) w w'

set_option maxHeartbeats 2000000 in
theorem put_num (w : World) (b : Nat) (V : Value) (vals : List Value) (x : Nat) (h : w.heap[b]? = some (.cells #[V] 195 (0, 0))) (hw : Win 97 id w V vals) (hl : vals.length ≤ 1048576) :
    Calls Tryz.prog 214 #[.pointer (some ⟨b, 0, none⟩), .iface 179 (.float .f64 x)] w fun e w' => e = .returned (.tuple #[]) ∧ PutRet w b V vals 179 (.float .f64 x) w' := by
  have hm : ∀ w : World, (method 565 179 (.float .f64 x) "affidavit/node.sized").run Tryz.prog w = .ok (347, .float .f64 x) w := fun _ => by kernel_rfl
  have HS := Lib.hid (sized_num w x)
  have HZ := Lib.hid (fun w => size_fits w 1 0 1 (by decide))
  have HW := Lib.hid hw
  have H := Lib.hid h
  have HNE := Lib.hid (hw.ne h (by decide))
  have hlt := lt_of_block h
  obtain ⟨ta, tc, htv⟩ := hw.shape
  clear h hw
  subst htv
  go_enter Tryz.func214, Tryz.ntmps214
  go_wp2_with fail
  refine (HS.out).mono ?_
  rintro e w1 ⟨rfl, hb1⟩
  have HB1 := Lib.hid hb1
  clear hb1
  go_wp2_with fail
  refine (HZ.out _).mono ?_
  rintro e w2 ⟨rfl, hb2⟩
  have hb := chain HB1.out hb2
  have h2 := keep H.out hb
  have hc0 := cell_of_one h2
  have hf0 := free_of_one h2
  have HH2 := Lib.hid h2
  have HB := Lib.hid hb
  have hlt2 := lt_of_block h2
  have hr2 : Win 97 id (w2.alloc (.cells #[.iface 179 (.float .f64 x)] 97)) (.slice ta vals.length tc) vals := (HW.out.keeps (Keeps.of_below (fun _ => False) hb) (fun _ _ => id)).keeps (F := fun _ => False) ((Keeps.refl _ w2).alloc _) (fun _ _ => id)
  have HR := Lib.hid hr2
  clear hb2 hb h2 hr2
  go_wp2_with (at_builtin; refine append_win elemItem rfl _ _ rfl rfl HR.out ⟨w2.heap.size, 0, none⟩ 1 (.iface 179 (.float .f64 x)) rfl ?_ rfl ?_ ?_ ?_)
  · exact cell_new rfl
  · omega
  · unfold maxLen; omega
  intro g off cap w' hrow hgb0 hgr
  have hb' := (hgr.block b (by simp; omega) (fun e => HNE.out e.symm)).trans ((Below.heap_alloc w2 _ _ hlt2).trans HH2.out)
  have HNG := Lib.hid (hrow.ne hb' (by decide))
  have HGB := Lib.hid (show (Value.slice ta vals.length tc).ownBlock = some g ∨ w.heap.size ≤ g from hgb0.elim .inl (fun h => .inr (Nat.le_trans HB.out.size (Nat.le_trans (by simp) h.1))))
  have HK := Lib.hid (((Keeps.of_below (fun k => k = b ∨ (Value.slice ta vals.length tc).ownBlock = some k) HB.out).alloc (.cells #[.iface 179 (.float .f64 x)] 97)).grown hgr (fun k e => .inl (.inr e)))
  have HROW := Lib.hid hrow
  have hc1 := cell_of_one hb'
  have hf1 := free_of_one hb'
  have HB3 := Lib.hid hb'
  clear hb' hrow hgb0 hgr hc0 hf0
  go_wp2_with fail
  go_end0
  have hks : Keeps (fun k => k = b) w' (w'.setCell ⟨b, 0, none⟩ (.slice (some ⟨g, off, none⟩) (vals.length + 1) cap)) := (Keeps.refl (fun k => k = b) w').setCell (p := ⟨b, 0, none⟩) (.inl rfl) _
  exact ⟨rfl, g, off, cap, set_at HB3.out _, HROW.out.keeps hks (fun k e hk => HNG.out (e.trans (congrArg some hk))), HGB.out, HK.out.setCell (p := ⟨b, 0, none⟩) (.inl (.inl rfl)) _⟩

set_option maxHeartbeats 2000000 in
theorem put_text (w : World) (b : Nat) (V : Value) (vals : List Value) (x : ByteArray) (hx : x.size ≤ 2097152) (h : w.heap[b]? = some (.cells #[V] 195 (0, 0))) (hw : Win 97 id w V vals) (hl : vals.length ≤ 1048576) :
    Calls Tryz.prog 214 #[.pointer (some ⟨b, 0, none⟩), .iface 180 (.string x)] w fun e w' => e = .returned (.tuple #[]) ∧ PutRet w b V vals 180 (.string x) w' := by
  have hm : ∀ w : World, (method 565 180 (.string x) "affidavit/node.sized").run Tryz.prog w = .ok (349, .string x) w := fun _ => by kernel_rfl
  have HS := Lib.hid (sized_text w x)
  have HZ := Lib.hid (fun w => size_fits w 1 x.size 1 (by simp [Sz.within]; omega))
  have HW := Lib.hid hw
  have H := Lib.hid h
  have HNE := Lib.hid (hw.ne h (by decide))
  have hlt := lt_of_block h
  obtain ⟨ta, tc, htv⟩ := hw.shape
  clear h hw
  subst htv
  go_enter Tryz.func214, Tryz.ntmps214
  go_wp2_with fail
  refine (HS.out).mono ?_
  rintro e w1 ⟨rfl, hb1⟩
  have HB1 := Lib.hid hb1
  clear hb1
  go_wp2_with fail
  refine (HZ.out _).mono ?_
  rintro e w2 ⟨rfl, hb2⟩
  have hb := chain HB1.out hb2
  have h2 := keep H.out hb
  have hc0 := cell_of_one h2
  have hf0 := free_of_one h2
  have HH2 := Lib.hid h2
  have HB := Lib.hid hb
  have hlt2 := lt_of_block h2
  have hr2 : Win 97 id (w2.alloc (.cells #[.iface 180 (.string x)] 97)) (.slice ta vals.length tc) vals := (HW.out.keeps (Keeps.of_below (fun _ => False) hb) (fun _ _ => id)).keeps (F := fun _ => False) ((Keeps.refl _ w2).alloc _) (fun _ _ => id)
  have HR := Lib.hid hr2
  clear hb2 hb h2 hr2
  go_wp2_with (at_builtin; refine append_win elemItem rfl _ _ rfl rfl HR.out ⟨w2.heap.size, 0, none⟩ 1 (.iface 180 (.string x)) rfl ?_ rfl ?_ ?_ ?_)
  · exact cell_new rfl
  · omega
  · unfold maxLen; omega
  intro g off cap w' hrow hgb0 hgr
  have hb' := (hgr.block b (by simp; omega) (fun e => HNE.out e.symm)).trans ((Below.heap_alloc w2 _ _ hlt2).trans HH2.out)
  have HNG := Lib.hid (hrow.ne hb' (by decide))
  have HGB := Lib.hid (show (Value.slice ta vals.length tc).ownBlock = some g ∨ w.heap.size ≤ g from hgb0.elim .inl (fun h => .inr (Nat.le_trans HB.out.size (Nat.le_trans (by simp) h.1))))
  have HK := Lib.hid (((Keeps.of_below (fun k => k = b ∨ (Value.slice ta vals.length tc).ownBlock = some k) HB.out).alloc (.cells #[.iface 180 (.string x)] 97)).grown hgr (fun k e => .inl (.inr e)))
  have HROW := Lib.hid hrow
  have hc1 := cell_of_one hb'
  have hf1 := free_of_one hb'
  have HB3 := Lib.hid hb'
  clear hb' hrow hgb0 hgr hc0 hf0
  go_wp2_with fail
  go_end0
  have hks : Keeps (fun k => k = b) w' (w'.setCell ⟨b, 0, none⟩ (.slice (some ⟨g, off, none⟩) (vals.length + 1) cap)) := (Keeps.refl (fun k => k = b) w').setCell (p := ⟨b, 0, none⟩) (.inl rfl) _
  exact ⟨rfl, g, off, cap, set_at HB3.out _, HROW.out.keeps hks (fun k e hk => HNG.out (e.trans (congrArg some hk))), HGB.out, HK.out.setCell (p := ⟨b, 0, none⟩) (.inl (.inl rfl)) _⟩
end Go.Proofs.YtakkmiomhackiaaGreatDoor

/-
  Package lex, twelfth part: a lexer in memory.
-/
namespace Go.Proofs.YtakkmiomhackiaaGreatDoor
open Go.RowKit
set_option maxRecDepth 100000

def stepNo : St → Nat
  | .outside => 104 | .letter => 141 | .numeral => 139 | .within => 138 | .escape => 168 | .digit => 188 | .slash => 223 | .letterU => 241
def isText : St → Bool
  | .within | .escape | .digit | .slash | .letterU => true
  | _ => false
/-- A window whose block is one of F. -/
def WinIn {α : Type} (F : Nat → Prop) (e : Nat) (enc : α → Value) (w : World) (v : Value) (l : List α) : Prop := Win e enc w v l ∧ ∀ k, v.ownBlock = some k → F k
theorem Win.lt {α : Type} {e : Nat} {enc : α → Value} {w : World} {v : Value} {l : List α} (h : Win e enc w v l) {k : Nat} (hk : v.ownBlock = some k) : k < w.heap.size := by
  rcases h with ⟨rfl, _⟩ | ⟨g, off, cap, cur, rfl, hg, _⟩
  · cases hk
  · cases hk; exact lt_of_block hg
section
variable {α : Type} {F G : Nat → Prop} {e : Nat} {enc : α → Value} {w w' : World} {v : Value} {l : List α}
theorem WinIn.nil (F : Nat → Prop) (e : Nat) (enc : α → Value) (w : World) : WinIn F e enc w (.slice none 0 0) [] := ⟨.nil _ _ _, fun _ h => by cases h⟩
theorem WinIn.mono (h : WinIn F e enc w v l) (hf : ∀ k, F k → G k) : WinIn G e enc w v l := ⟨h.1, fun k hk => hf k (h.2 k hk)⟩
/-- Nothing of what has turned is the window's block. -/
theorem WinIn.keeps (h : WinIn F e enc w v l) (hk : Keeps G w w') (hg : ∀ k, v.ownBlock = some k → ¬ G k) : WinIn (Since F w w') e enc w' v l := ⟨h.1.keeps hk hg, fun k hk => .inl (h.2 k hk)⟩
theorem WinIn.below (h : WinIn F e enc w v l) (hk : Below w.heap.size w w') : WinIn (Since F w w') e enc w' v l := h.keeps (Keeps.of_below (fun _ => False) hk) (fun _ _ => id)
end

/-- Of a lexer's state what its parts hold. -/
structure StAt (F : Nat → Prop) (w : World) (x : Lx) (rawV chV saysV : Value) : Prop where
  raw : x.st = .letter ∨ x.st = .numeral → WinIn F 5 encB w rawV x.raw
  text : isText x.st = true → WinIn F 5 encB w saysV x.says ∧ ∃ f pl, chV = .pointer (some ⟨f, 0, none⟩) ∧ Feeds w f pl x.held ∧ F f ∧ pl ≤ x.says.length
/-- At block b lies the lexer x, of whose parts F are the blocks; the tokens toks are whole, and not told. -/
def LexAt (F : Nat → Prop) (w : World) (b : Nat) (x : Lx) (dn : Bool) (toks : List Tok) : Prop :=
  F b ∧ (∀ k, F k → k < w.heap.size) ∧ ∃ rawV chV saysV tokV, w.heap[b]? = some (.cells #[.int .i64 x.place, .nilIface, .bool dn, .func (.func (stepNo x.st)) #[] #[], .bool x.isIn, .int .i64 x.start, rawV, .int .i64 x.number, chV, saysV, .int .i64 x.digits, .int .i32 x.code, .int .i32 x.high, tokV] 228 (0, 0)) ∧
    WinIn F 232 id w tokV (toks.map tokEnc) ∧ StAt F w x rawV chV saysV
/-- A lexer that gave up: its place, the place of its token, its tokens. -/
def LexDead (F : Nat → Prop) (w : World) (b pl st : Nat) (errV : Value) (toks : List Tok) : Prop :=
  F b ∧ (∀ k, F k → k < w.heap.size) ∧ ∃ v2 v3 v4 v6 v7 v8 v9 va vb vc tokV, w.heap[b]? = some (.cells #[.int .i64 pl, errV, v2, v3, v4, .int .i64 st, v6, v7, v8, v9, va, vb, vc, tokV] 228 (0, 0)) ∧ WinIn F 232 id w tokV (toks.map tokEnc)

/-- What holds of a lexer between two bytes. -/
structure Lx.Good (x : Lx) : Prop where
  place : x.place ≤ 16777216
  start : x.start ≤ x.place
  number : x.number ≤ 8
  isIn : x.isIn = decide (x.st ≠ .outside)
  letter : x.st = .letter → x.number = 0 ∧ x.raw ≠ [] ∧ x.raw.length < (wordOf (x.raw.headD 0)).length
  numeral : x.st = .numeral → x.raw.length ≤ x.place
  text : isText x.st = true → x.number = 0
  within : x.st = .within ∨ x.st = .escape → x.says.length ≤ x.place
  digit : x.st = .digit → x.says.length + (if x.high = 0 then 2 else 8) + x.digits ≤ x.place ∧ x.digits ≤ 3 ∧ x.code < 16 ^ x.digits ∧ (x.high = 0 ∨ (55296 ≤ x.high ∧ x.high ≤ 56319))
  slash : x.st = .slash ∨ x.st = .letterU → x.says.length + 6 ≤ x.place ∧ 55296 ≤ x.high ∧ x.high ≤ 56319
  high : isText x.st = true → x.st = .within ∨ x.st = .escape → x.high = 0
section
variable {F G : Nat → Prop} {w w' : World} {b : Nat} {x : Lx} {rawV chV saysV : Value} {dn : Bool} {toks : List Tok}
theorem StAt.mono (h : StAt F w x rawV chV saysV) (hf : ∀ k, F k → G k) : StAt G w x rawV chV saysV :=
  ⟨fun hs => (h.raw hs).mono hf, fun hs => by obtain ⟨h1, f, pl, h2, h3, h4, h5⟩ := h.text hs; exact ⟨h1.mono hf, f, pl, h2, h3, hf _ h4, h5⟩⟩
/-- Blocks outside of F alone have turned. -/
theorem StAt.apart (h : StAt F w x rawV chV saysV) (hk : Keeps G w w') (hd : ∀ k, F k → ¬ G k) : StAt F w' x rawV chV saysV :=
  ⟨fun hs => ⟨(h.raw hs).1.keeps hk fun k e => hd k ((h.raw hs).2 k e), (h.raw hs).2⟩, fun hs => by
    obtain ⟨h1, f, pl, h2, h3, h4, h5⟩ := h.text hs
    exact ⟨⟨h1.1.keeps hk fun k e => hd k (h1.2 k e), h1.2⟩, f, pl, h2, h3.keeps hk (hd f h4), h4, h5⟩⟩
theorem LexAt.apart (h : LexAt F w b x dn toks) (hk : Keeps G w w') (hd : ∀ k, F k → ¬ G k) : LexAt F w' b x dn toks := by
  obtain ⟨hF, hlt, rawV, chV, saysV, tokV, hb, hw, hs⟩ := h
  exact ⟨hF, fun k hk' => Nat.lt_of_lt_of_le (hlt k hk') hk.size, rawV, chV, saysV, tokV, hk.blk hb (hd b hF), ⟨hw.1.keeps hk fun k e => hd k (hw.2 k e), hw.2⟩, hs.apart hk hd⟩
theorem LexDead.apart {pl st : Nat} {errV : Value} (h : LexDead F w b pl st errV toks) (hk : Keeps G w w') (hd : ∀ k, F k → ¬ G k) : LexDead F w' b pl st errV toks := by
  obtain ⟨hF, hlt, v2, v3, v4, v6, v7, v8, v9, va, vb, vc, tokV, hb, hw⟩ := h
  exact ⟨hF, fun k hk' => Nat.lt_of_lt_of_le (hlt k hk') hk.size, v2, v3, v4, v6, v7, v8, v9, va, vb, vc, tokV, hk.blk hb (hd b hF), ⟨hw.1.keeps hk fun k e => hd k (hw.2 k e), hw.2⟩⟩
theorem since_lt (hlt : ∀ k, F k → k < w.heap.size) (hs : w.heap.size ≤ w'.heap.size) : ∀ k, Since F w w' k → k < w'.heap.size := fun k hk => hk.elim (fun h => Nat.lt_of_lt_of_le (hlt k h) hs) (fun h => h.2)
end
end Go.Proofs.YtakkmiomhackiaaGreatDoor

/-
  Package utf, third part: Feed.
-/
namespace Go.Proofs.YtakkmiomhackiaaGreatDoor
open Go.RowKit
set_option maxRecDepth 100000

/-- Block b is a feeder that met a wrong byte. -/
def FeedsBad (w : World) (b pl : Nat) : Prop := ∃ a0 a1 a2 a3 : UInt8, w.heap[b]? = some (.cells #[.int .i64 pl, .int .u8 ((a0.toNat : Nat) : Int), .int .u8 ((a1.toNat : Nat) : Int), .int .u8 ((a2.toNat : Nat) : Int), .int .u8 ((a3.toNat : Nat) : Int), .int .i64 0, .bool true] 305 (0, 0))
theorem fault_good (w : World) (b pl : Nat) (held : List UInt8) (h : Feeds w b pl held) : Calls Tryz.prog 191 #[.pointer (some ⟨b, 0, none⟩)] w fun e w' => e = .returned .nilIface ∧ w' = w := by
  obtain ⟨_, a0, a1, a2, a3, h2, h9⟩ := h
  clear h9
  obtain ⟨c0, c1, c2, c3, c4, c5, c6, cf⟩ := cells7 h2
  clear h2
  go_enter Tryz.func191, Tryz.ntmps191
  go_wp2
  go_ret
  exact ⟨rfl, rfl⟩
theorem fault_bad (w : World) (b pl : Nat) (h : FeedsBad w b pl) : Calls Tryz.prog 191 #[.pointer (some ⟨b, 0, none⟩)] w fun e w' => e = .returned (.iface 151 (.agg #[.int .i64 30, .int .i64 pl])) ∧ w' = w := by
  obtain ⟨a0, a1, a2, a3, h2⟩ := h
  obtain ⟨c0, c1, c2, c3, c4, c5, c6, cf⟩ := cells7 h2
  clear h2
  go_enter Tryz.func191, Tryz.ntmps191
  go_wp2
  go_ret
  exact ⟨rfl, rfl⟩

theorem feedAll_none (l : List UInt8) : l.foldl (fun a c => a.bind fun h => feedOne h c) (none : Option (List UInt8)) = none := by
  induction l with
  | nil => rfl
  | cons x l ih => exact ih
theorem feedAll_take {held l : List UInt8} {k : Nat} (h : k < l.length) : feedAll held (l.take (k + 1)) = (feedAll held (l.take k)).bind fun h => feedOne h l[k] := by
  unfold feedAll
  rw [List.take_add_one, List.getElem?_eq_getElem h, List.foldl_append]; rfl
theorem feedAll_stop {held l : List UInt8} {k : Nat} (h : feedAll held (l.take k) = none) : feedAll held l = none := by
  unfold feedAll at *
  conv => lhs; rw [← List.take_append_drop k l, List.foldl_append, h]
  exact feedAll_none _

/-- The bytes l lie from an address on, outside of block b. -/
def BytesAt (w : World) (b : Nat) (a : Option Addr) (l : List UInt8) : Prop := l = [] ∨ ∃ g off, a = some ⟨g, off, none⟩ ∧ g ≠ b ∧ g < w.heap.size ∧ ∀ i x, l[i]? = some x → w.cell? ⟨g, off + i, none⟩ = some (.int .u8 ((x.toNat : Nat) : Int))
/-- What Feed hands back. -/
def feedRet (w' : World) (b pl n : Nat) (o : Option (List UInt8)) (e : Ending) : Prop := match o with
  | some h => e = .returned .nilIface ∧ Feeds w' b (pl + n) h
  | none => ∃ p, e = .returned (.iface 151 (.agg #[.int .i64 30, .int .i64 (p : Nat)])) ∧ FeedsBad w' b p
/-- Between two rounds. -/
def feedInv (w0 : World) (b pl : Nat) (held l : List UInt8) (k : Nat) (w : World) : Prop := Keeps (fun k => k = b) w0 w ∧ ((∃ h, feedAll held (l.take k) = some h ∧ Feeds w b (pl + k) h) ∨ (feedAll held l = none ∧ ∃ p, FeedsBad w b p))

set_option maxHeartbeats 2000000 in
theorem feed_any (w : World) (b pl : Nat) (held l : List UInt8) (a : Option Addr) (cap : Nat) (h : Feeds w b pl held) (hb : BytesAt w b a l) (hl : l.length ≤ 1073741824) (hpl : pl ≤ 1073741824) :
    Calls Tryz.prog 169 #[.pointer (some ⟨b, 0, none⟩), .slice a l.length cap] w fun e w' => feedRet w' b pl l.length (feedAll held l) e ∧ Keeps (fun k => k = b) w w' := by
  have HB := Lib.hid hb
  have H := Lib.hid h
  clear h hb
  go_enter Tryz.func169, Tryz.ntmps169
  go_wp2_with fail
  go_loopw [5] (fun i wr => ∃ k : Nat, k ≤ l.length ∧ i = .int .i64 k ∧ Hid (feedInv w b pl held l k wr)) (fun i _ => l.length - (intOf i).toNat)
  case atStart => exact ⟨0, by omega, rfl, Lib.hid ⟨Keeps.refl _ _, .inl ⟨held, rfl, H.out⟩⟩⟩
  case round =>
    obtain ⟨k, hk, rfl, hinv⟩ := hrel
    obtain ⟨hkp, hst⟩ := hinv.out
    clear hinv
    have HKP := Lib.hid hkp
    clear hkp
    rcases hst with ⟨h, hf, hfe⟩ | ⟨hnone, p, hbad⟩
    · have HF := Lib.hid hf
      have HFE := Lib.hid hfe
      clear hf
      obtain ⟨_, a0, a1, a2, a3, h2, h9⟩ := hfe
      clear h9
      obtain ⟨c0, c1, c2, c3, c4, c5, c6, cf⟩ := cells7 h2
      clear h2
      by_cases hkl : k < l.length
      · rcases HB.out with hn | ⟨g, off, rfl, hgb, hg, hcell⟩
        · subst hn; simp at hkl
        · have hc : wr.cell? ⟨g, off + k, none⟩ = some (.int .u8 ((l[k].toNat : Nat) : Int)) := HKP.out.cell (hcell k l[k] (List.getElem?_eq_getElem hkl)) hgb
          clear hcell
          go_wp2_with fail
          refine (take_any wr b (pl + k) l[k] h HFE.out).mono ?_
          have hstep := feedAll_take (held := held) hkl
          rw [HF.out] at hstep
          rintro e w2 ⟨ht, hk2⟩
          have hstep : feedAll held (l.take (k + 1)) = feedOne h l[k] := hstep
          cases hfo : feedOne h l[k] with
          | none =>
            rw [hfo] at ht hstep
            obtain ⟨rfl, hfe2⟩ := ht
            have HN := Lib.hid (feedAll_stop hstep)
            have HK2 := Lib.hid (HKP.out.same hk2)
            obtain ⟨_, x0, x1, x2, x3, h2, h9⟩ := hfe2
            clear h9
            obtain ⟨d0, d1, d2, d3, d4, d5, d6, df⟩ := cells7 h2
            have H2 := Lib.hid h2
            clear h2 hstep hfo hk2 c0 c1 c2 c3 c4 c5 c6 cf hc
            go_wp2_with fail
            go_roundw
            case rel => exact ⟨k + 1, by omega, by go_num, Lib.hid ⟨(HK2.out.setCell (p := ⟨b, 6, none⟩) (.inl rfl) _).setCell (p := ⟨b, 5, none⟩) (.inl rfl) _, .inr ⟨HN.out, _, x0, x1, x2, x3, set_at (set_at H2.out _) _⟩⟩⟩
            case measure => simp [intOf]; omega
          | some h' =>
            rw [hfo] at ht hstep
            obtain ⟨rfl, hfe2⟩ := ht
            have HN := Lib.hid hstep
            have HK2 := Lib.hid (HKP.out.same hk2)
            obtain ⟨hok, x0, x1, x2, x3, h2, h9⟩ := hfe2
            obtain ⟨d0, d1, d2, d3, d4, d5, d6, df⟩ := cells7 h2
            have H2 := Lib.hid h2
            have H9 := Lib.hid h9
            have HOK := Lib.hid hok
            clear h2 h9 hstep hfo hk2 c0 c1 c2 c3 c4 c5 c6 cf hc hok
            go_wp2_with fail
            go_roundw
            case rel => exact ⟨k + 1, by omega, by go_num, Lib.hid ⟨HK2.out.setCell (p := ⟨b, 0, none⟩) (.inl rfl) _, .inl ⟨h', HN.out, HOK.out, x0, x1, x2, x3, set_at H2.out _, H9.out⟩⟩⟩
            case measure => simp [intOf]; omega
      · have hke : k = l.length := by omega
        subst hke
        have HF2 := Lib.hid (show feedAll held l = some h by have := HF.out; rwa [List.take_length] at this)
        go_wp2_with fail
        refine (fault_good _ b _ h HFE.out).mono ?_
        rintro e w2 ⟨rfl, rfl⟩
        go_wp2_with fail
        go_ret
        exact ⟨by rw [HF2.out]; exact ⟨rfl, HFE.out⟩, HKP.out⟩
    · have HN := Lib.hid hnone
      have HBAD := Lib.hid hbad
      clear hnone
      obtain ⟨a0, a1, a2, a3, h2⟩ := hbad
      obtain ⟨c0, c1, c2, c3, c4, c5, c6, cf⟩ := cells7 h2
      clear h2
      go_wp2_with fail
      all_goals
        refine (fault_bad _ b p HBAD.out).mono ?_
        rintro e w2 ⟨rfl, rfl⟩
        go_wp2_with fail
        go_ret
        exact ⟨by rw [HN.out]; exact ⟨p, rfl, HBAD.out⟩, HKP.out⟩
end Go.Proofs.YtakkmiomhackiaaGreatDoor

/-
  Package utf, fourth part: End, Check, Right.
-/
namespace Go.Proofs.YtakkmiomhackiaaGreatDoor
open Go.RowKit
set_option maxRecDepth 100000

/-- No error, just if so; else some error. -/
def errIf (ok : Bool) (e : Ending) : Prop := match ok with
  | true => e = .returned .nilIface
  | false => ∃ T v, e = .returned (.iface T v)
theorem end_good (w : World) (b pl : Nat) (held : List UInt8) (h : Feeds w b pl held) : Calls Tryz.prog 258 #[.pointer (some ⟨b, 0, none⟩)] w fun e w' => errIf (held == []) e ∧ w' = w := by
  have HG := Lib.hid (fault_good w b pl held h)
  obtain ⟨_, a0, a1, a2, a3, h2, h9⟩ := h
  clear h9
  obtain ⟨c0, c1, c2, c3, c4, c5, c6, cf⟩ := cells7 h2
  clear h2
  cases held with
  | nil =>
    go_enter Tryz.func258, Tryz.ntmps258
    go_wp2_with fail
    refine (HG.out).mono ?_
    rintro e w1 ⟨rfl, rfl⟩
    go_wp2_with fail
    go_ret
    exact ⟨rfl, rfl⟩
  | cons x t =>
    have hgt : (0 : Int) < ((x :: t).length : Int) := by simp
    obtain ⟨n, hn⟩ : ∃ n, (x :: t).length = n := ⟨_, rfl⟩
    have hb : ((x :: t) == []) = false := rfl
    rw [hb]
    clear hb
    rw [hn] at hgt c5
    clear hn
    go_enter Tryz.func258, Tryz.ntmps258
    go_wp2_with fail
    go_ret
    exact ⟨⟨_, _, rfl⟩, rfl⟩
theorem end_bad (w : World) (b pl : Nat) (h : FeedsBad w b pl) : Calls Tryz.prog 258 #[.pointer (some ⟨b, 0, none⟩)] w fun e w' => errIf false e ∧ w' = w := by
  have HG := Lib.hid (fault_bad w b pl h)
  obtain ⟨a0, a1, a2, a3, h2⟩ := h
  obtain ⟨c0, c1, c2, c3, c4, c5, c6, cf⟩ := cells7 h2
  clear h2
  go_enter Tryz.func258, Tryz.ntmps258
  go_wp2_with fail
  refine (HG.out).mono ?_
  rintro e w1 ⟨rfl, rfl⟩
  go_wp2_with fail
  go_ret
  exact ⟨⟨_, _, rfl⟩, rfl⟩

theorem BytesAt.below {w w' : World} {b b' : Nat} {a : Option Addr} {l : List UInt8} (h : BytesAt w b a l) (hb : Below w.heap.size w w') (hne : w.heap.size ≤ b') : BytesAt w' b' a l := by
  rcases h with h | ⟨g, off, ha, _, hg, hc⟩
  · exact .inl h
  · exact .inr ⟨g, off, ha, by omega, Nat.lt_of_lt_of_le hg hb.size, fun i x hx => (hb.cell (p := ⟨g, off + i, none⟩) hg).trans (hc i x hx)⟩
theorem check_any (w : World) (b0 : Nat) (l : List UInt8) (a : Option Addr) (cap : Nat) (hb : BytesAt w b0 a l) (hl : l.length ≤ 1073741824) : Calls Tryz.prog 237 #[.slice a l.length cap] w fun e w' => errIf (rightOf l) e ∧ Below w.heap.size w w' := by
  have HB := Lib.hid hb
  clear hb
  go_enter Tryz.func237, Tryz.ntmps237
  go_wp2_with fail
  refine (newFeeder_any _).mono ?_
  rintro e w1 ⟨rfl, hfe, hbl, hsz⟩
  have HFE := Lib.hid hfe
  have HBL := Lib.hid hbl
  clear hfe hbl
  go_wp2_with fail
  refine (feed_any w1 w.heap.size 0 [] l a cap HFE.out (HB.out.below HBL.out (Nat.le_refl _)) hl (by omega)).mono ?_
  rintro e w2 ⟨hr, hk⟩
  have HB2 := Lib.hid (HBL.out.trans (hk.toBelow (n := w.heap.size) (by omega) (fun k e => by subst e; exact Nat.le_refl _)))
  clear hk
  cases hf : feedAll [] l with
  | none =>
    rw [hf] at hr
    obtain ⟨p, rfl, hbad⟩ := hr
    have hro : rightOf l = false := by unfold rightOf; rw [hf]; rfl
    have HRO := Lib.hid hro
    clear hro hf
    go_wp2_with fail
    refine (end_bad _ _ p hbad).mono ?_
    rintro e w3 ⟨⟨T, v, rfl⟩, rfl⟩
    go_wp2_with fail
    go_ret
    exact ⟨by rw [HRO.out]; exact ⟨_, _, rfl⟩, HB2.out⟩
  | some h =>
    rw [hf] at hr
    obtain ⟨rfl, hfe⟩ := hr
    have hro : rightOf l = (h == []) := by unfold rightOf; rw [hf]; cases h <;> rfl
    have HRO := Lib.hid hro
    clear hro hf
    have HF := Lib.hid hfe
    clear hfe
    go_wp2_with fail
    refine (end_good _ _ _ h HF.out).mono ?_
    rintro e w3 ⟨he, rfl⟩
    cases hh : (h == []) with
    | true =>
      rw [hh] at he
      obtain rfl := he
      have HH := Lib.hid hh
      clear hh
      go_wp2_with fail
      go_ret
      exact ⟨by rw [HRO.out, HH.out]; rfl, HB2.out⟩
    | false =>
      rw [hh] at he
      obtain ⟨T, v, rfl⟩ := he
      have HH := Lib.hid hh
      clear hh
      go_wp2_with fail
      go_ret
      exact ⟨by rw [HRO.out, HH.out]; exact ⟨_, _, rfl⟩, HB2.out⟩

theorem cell_any {w : World} {b o : Nat} {c : Array Value} {T : TypeId} {fr : Nat × Nat} (h : w.heap[b]? = some (.cells c T fr)) : w.cell? ⟨b, o, none⟩ = c[o]? := by simp [World.cell?, h]
theorem right_any (s : ByteArray) (w : World) (hl : s.size ≤ 1073741824) : Calls Tryz.prog 218 #[.string s] w fun e w' => e = .returned (.bool (rightOf s.data.toList)) ∧ Below w.heap.size w w' := by
  have hconv := run_bytes_of_string (P := Tryz.prog) w 9 22 5 s Tryz.underlying9 Tryz.underlying22 Tryz.underlying5
  go_enter Tryz.func218, Tryz.ntmps218
  go_wp2_with fail
  have hsz : s.data.toList.length = s.size := Array.length_toList
  have hbel : Below w.heap.size w (w.alloc (.cells (bytesRow s (grownCap w s.size 0 5)) 5 ((bytesRow s (grownCap w s.size 0 5)).size, (bytesRow s (grownCap w s.size 0 5)).size + 1))).drew := ((Below.refl _ _).alloc (Nat.le_refl _) _).drew
  have hba : BytesAt (w.alloc (.cells (bytesRow s (grownCap w s.size 0 5)) 5 ((bytesRow s (grownCap w s.size 0 5)).size, (bytesRow s (grownCap w s.size 0 5)).size + 1))).drew (w.heap.size + 1) (some ⟨w.heap.size, 0, none⟩) s.data.toList := by
    refine .inr ⟨w.heap.size, 0, rfl, by omega, by show _ < (w.alloc _).heap.size; simp, fun i x hx => ?_⟩
    have hlt : i < s.data.size := by have := (List.getElem?_eq_some_iff.1 hx).1; simpa using this
    have hxx : s.data[i] = x := by
      rw [List.getElem?_eq_getElem (by simpa using hlt)] at hx
      simpa using hx
    show (w.alloc _).cell? ⟨w.heap.size, 0 + i, none⟩ = _
    have hh := heap_alloc_new w (.cells (bytesRow s (grownCap w s.size 0 5)) 5 ((bytesRow s (grownCap w s.size 0 5)).size, (bytesRow s (grownCap w s.size 0 5)).size + 1))
    rw [cell_any hh, Nat.zero_add, bytesRow_at s _ i hlt, hxx]
  have HC := check_any _ _ s.data.toList _ (grownCap w s.size 0 5) hba (by omega)
  rw [hsz] at HC
  have HB := Lib.hid hbel
  clear hba hbel hsz hconv
  refine HC.mono ?_
  rintro e w2 ⟨he, hb2⟩
  have HB2 := Lib.hid (chain HB.out hb2)
  clear hb2 HC
  cases hr : rightOf s.data.toList with
  | true =>
    rw [hr] at he
    obtain rfl := he
    have HR := Lib.hid hr
    clear hr
    go_wp2_with fail
    go_ret
    exact ⟨by rw [HR.out]; rfl, HB2.out⟩
  | false =>
    rw [hr] at he
    obtain ⟨T, v, rfl⟩ := he
    have HR := Lib.hid hr
    clear hr
    go_wp2_with fail
    go_ret
    exact ⟨by rw [HR.out]; rfl, HB2.out⟩
end Go.Proofs.YtakkmiomhackiaaGreatDoor
