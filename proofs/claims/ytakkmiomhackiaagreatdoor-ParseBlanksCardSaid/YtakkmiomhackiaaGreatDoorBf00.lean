/-
  The program, one part of its walk. Conditions: none.
-/
import Derived.Lib.Hide
import Derived.Test.YtakkmiomhackiaaGreatDoorProg
open Go renaming Value->I
open Go.RowKit renaming Hid->O
open Go.Value renaming string->N
open Option renaming none->J
namespace Go.Proofs.YtakkmiomhackiaaGreatDoor
def M(p:Prop):Prop:=p
theorem M.o{p:Prop}(h:M p):p:=h
theorem A{p:Prop}(h:p):M p:=h
abbrev Oo:=List UInt8
instance :Coe World Nat:=⟨λw=>w.heap.size⟩
instance :Coe Nat Addr:=⟨λb=>⟨b,0,J⟩⟩
instance {g o:Nat}:CoeDep (Nat×Nat) (g,o) (Option Addr):=⟨some ⟨g,o,J⟩⟩
instance :Coe Int I:=⟨λn=>.int .i64 n⟩
instance :Coe Nat I:=⟨λn=>.int .i64 (n:Int)⟩
instance :Coe ByteArray I:=⟨λs=>N s⟩
instance :Coe Bool I:=⟨λs=>.bool s⟩
instance :CoeDep Unit () I:=⟨.slice J 0 0⟩
instance :CoeDep String "" I:=⟨N ⟨#[]⟩⟩
end Go.Proofs.YtakkmiomhackiaaGreatDoor
