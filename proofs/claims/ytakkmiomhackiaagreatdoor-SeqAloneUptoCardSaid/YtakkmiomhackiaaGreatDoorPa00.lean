/-
  What hides a fact. Conditions: none.
-/
import Derived.Lib.Hide
import Derived.Test.YtakkmiomhackiaaGreatDoorProg
namespace Go.Proofs.YtakkmiomhackiaaGreatDoor
theorem hZ {p : Prop} (h : p) : RowKit.Hid p := h
end Go.Proofs.YtakkmiomhackiaaGreatDoor
