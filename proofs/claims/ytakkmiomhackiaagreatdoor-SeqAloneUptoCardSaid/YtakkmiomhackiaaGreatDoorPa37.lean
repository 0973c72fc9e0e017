/-
  slices.EqualFunc of two rows of records, by the law's own function same.
-/
import Derived.Test.YtakkmiomhackiaaGreatDoorPa36
import Derived.Test.YtakkmiomhackiaaGreatDoorPa00
set_option linter.all false
set_option maxRecDepth 100000
set_option maxHeartbeats 16000000
open Go.Proofs.Tryz
namespace Go.Proofs.YtakkmiomhackiaaGreatDoor
open Go.RowKit
theorem elemItm : ElemN 81 85 2 24 := ⟨underlying81, by decide, by
 have h : (prog.info? 85).map (fun i => (i.zero, i.size, i.bytes)) = some (some (.agg #[.pointer none, .nilIface]), 2, 24) := by kernel_rfl
 obtain ⟨i, h1, h2, h3, h4⟩ := info_parts h;exact ⟨i, _, h1, h2, h3, h4, rfl⟩⟩
theorem shiftOf_zero (rec : Except (Nat × Nat) Tr) : shiftOf 0 rec = rec := by
 cases rec with
 | error e => rfl
 | ok t => rfl
theorem RecAt.parts {w : World} {a b : Value} {rc : Except (Nat × Nat) Tr} (h : RecAt w a b rc) : ∃ q, a = .pointer q ∧ (b = .nilIface ∨ ∃ T v, b = .iface T v) := by
 cases rc with
 | error er => obtain ⟨h1, h2⟩ := h; exact ⟨_, h1, .inr ⟨_, _, h2⟩⟩
 | ok t => obtain ⟨h1, T, v, h2, _⟩ := h; exact ⟨_, h2, .inl h1⟩
theorem WinN.at2 {w : World} {a : Option Addr} {n c : Nat} {cs : List Value} (h : WinN 2 85 w (.slice a n c) n cs) {i : Nat} {x y : Value} (hx : cs[2 * i]? = some x) (hy : cs[2 * i + 1]? = some y) : ∃ g off, a = some ⟨g, off, none⟩ ∧ w.cell? ⟨g, off + i * 2, none⟩ = some x ∧ w.cell? ⟨g, off + i * 2 + 1, none⟩ = some y := by
 rcases h.2 with ⟨e, h0⟩ | ⟨g, off, cap, cur, e, hg, hc, ho, hm, hi⟩
 ·cases e;have := h.1;have h3 := (List.getElem?_eq_some_iff.1 hx).1;omega
 ·cases e;refine ⟨g, off, rfl, ?_, ?_⟩
  ·rw [cell_at hg, show off + i * 2 = off + 2 * i by omega]; exact hi _ x hx
  ·rw [cell_at hg, show off + i * 2 + 1 = off + (2 * i + 1) by omega]; exact hi _ y hy
end Go.Proofs.YtakkmiomhackiaaGreatDoor
