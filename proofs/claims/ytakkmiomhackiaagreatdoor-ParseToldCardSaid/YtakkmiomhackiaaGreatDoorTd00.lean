/-
  The program, one part of its walk. Conditions: none.
-/
import Derived.Lib.Hide
import Derived.Test.YtakkmiomhackiaaGreatDoorProg
open Go.RowKit renaming Hid->I
namespace Go.Proofs.YtakkmiomhackiaaGreatDoor
def M(p:Prop):Prop:=p
theorem M.o{p:Prop}(h:M p):p:=h
theorem L{p:Prop}(h:p):M p:=h
end Go.Proofs.YtakkmiomhackiaaGreatDoor
