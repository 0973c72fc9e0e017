/-
  The program, one part of its walk. Conditions: none.
-/
import Derived.Lib.Hide
import Derived.Test.YtakkmiomhackiaaGreatDoorProg
set_option linter.all false
open Go renaming Value->I
open Go.RowKit renaming Hid->O
open Go.Value renaming string->N
open Option renaming none->J
namespace Go.Proofs.YtakkmiomhackiaaGreatDoor
def M(p:Prop):Prop:=p
theorem M.o{p:Prop}(h:M p):p:=h
theorem A{p:Prop}(h:p):M p:=h
abbrev Oo:=List UInt8
instance :Coe World Nat:=⟨λw=>w.heap.size⟩
instance :Coe Nat Addr:=⟨λb=>⟨b,0,J⟩⟩
instance {g o:Nat}:CoeDep (Nat×Nat) (g,o) (Option Addr):=⟨some ⟨g,o,J⟩⟩
instance :Coe Int I:=⟨λn=>.int .i64 n⟩
instance :Coe Nat I:=⟨λn=>.int .i64 (n:Int)⟩
instance :Coe ByteArray I:=⟨λs=>N s⟩
instance :Coe Bool I:=⟨λs=>.bool s⟩
instance :CoeDep Unit () I:=⟨.slice J 0 0⟩
instance :CoeDep String "" I:=⟨N ⟨#[]⟩⟩
def aL:=@Go.heap_alloc_new
def a7:=@Nat.lt_of_lt_of_le
def bb:=@Go.bodyPost_ret
def bf:=@List.getElem?_eq_getElem
def bo:=@Nat.le_trans
def bt:=@List.getElem?_eq_some_iff
def b9:=@Go.IntKind.wrap_i64
def cn:=@List.length_append
def cv:=@List.length_cons
def cL:=@List.getElem?_append_right
def de:=@Go.RowKit.Below.heap_alloc
def dk:=@Go.RowKit.Below.refl
def dr:=@Nat.zero_le
def ea:=@List.length_drop
def eb:=@List.eq_nil_of_length_eq_zero
def ec:=@List.getElem?_append_left
def ed:=@List.getElem?_map
def el:=@List.length_take
def ev:=@Nat.mul_le_mul_right
def fi:=@List.mem_cons_self
def fo:=@Nat.add_assoc
def gL:=@Int.natCast_zero
def hG:=@Nat.eq_zero_or_pos
def hU:=@Nat.le_refl
def ib:=@List.length_nil
def iF:=@Nat.le_of_lt
def jt:=@Array.length_toList
def ju:=@Nat.pow_le_pow_right
def jv:=@List.mem_cons_of_mem
def jw:=@Nat.zero_add
def jx:=@Nat.pow_succ
def jy:=@List.setIfInBounds_toArray
def jz:=@List.append_nil
def kb:=@UInt8.toNat.inj
def kd:=@List.append_assoc
def ke:=@Nat.mul_comm
def kh:=@Nat.mul_assoc
def ki:=@List.length_singleton
def kj:=@Go.World.block_lt_of_cell?
def kr:=@List.map_append
def kt:=@List.length_map
def ku:=@Go.Proofs.Tryz.underlying22
def kw:=@List.drop_succ_cons
def kz:=@List.drop_zero
def kF:=@Nat.two_pow_pos
def kL:=@List.set_cons_zero
def la:=@List.set_cons_succ
def lc:=@Go.Proofs.Tryz.underlying9
def ld:=@Nat.pow_add
def lf:=@List.foldl_append
def lg:=@Go.leaves_cons
def lh:=@Nat.le_succ
def li:=@List.cons_append
def lj:=@List.take_of_length_le
def lk:=@List.drop_eq_nil_of_le
def ll:=@Option.some.injEq
def lm:=@List.take_append_drop
def lp:=@List.eq_nil_or_concat
def lr:=@List.drop_drop
def ls:=@List.concat_eq_append
def lu:=@Nat.add_mul
def lv:=@Nat.add_zero
def lw:=@Nat.add_comm
def lx:=@List.mem_of_getElem?
def ly:=@List.mem_append_left
def lz:=@Nat.lt_of_le_of_lt
def ma:=@List.mem_cons
def mc:=@List.take_succ_cons
def md:=@Go.results_none
def me:=@Nat.not_lt
def mf:=@Nat.mod_lt
def mg:=@Nat.add_sub_cancel
def mh:=@Nat.min_eq_left
def mi:=@Go.Addr.add_lit
def mj:=@List.mem_append
def ml:=@List.foldlM_cons
def mn:=@Bool.and_eq_true
def mq:=@List.nil_append
def mr:=@List.foldl_cons
def ms:=@Go.IntKind.wrap_u8
def mt:=@Nat.mod_eq_of_lt
def mu:=@List.take_left
def mv:=@List.drop_left
def mw:=@Nat.sub_self
def mx:=@Nat.lt_or_ge
def my:=@Go.World.size_alloc
def mz:=@Option.some.inj
def mF:=@Nat.pow_pos
def na:=@Nat.pow_mul
def nc:=@Nat.mul_pos
def nd:=@Nat.mul_one
def nf:=@List.drop_eq_getElem_cons
def ng:=@Option.map_some
def nh:=@Nat.div_div_eq_div_mul
def ni:=@List.mem_map
def nj:=@List.getLast?_cons_cons
def nk:=@Array.getElem?_eq_getElem
def nl:=@Nat.le_of_eq
def nm:=@Nat.div_lt_of_lt_mul
def nn:=@Nat.div_le_div_right
def np:=@List.dropWhile_sublist
def nq:=@Go.Proofs.Tryz.underlying5
def nr:=@Go.Proofs.Tryz.underlying3
def ns:=@Nat.mul_le_mul_left
def nt:=@List.singleton_append
def nu:=@List.getElem?_eq_none
def nw:=@Nat.mul_right_comm
def nz:=@List.mem_of_mem_take
def ob:=@List.mem_of_mem_drop
def od:=@Int.cast_ofNat_Int
def oe:=@Go.Proofs.Tryz.results196
def og:=@Go.IntKind.wrap_i32
def oh:=@Nat.lt_trichotomy
def oj:=@List.takeWhile_cons
def ol:=@List.length_reverse
def om:=@List.attach_map_val
def oo:=@Nat.div_eq_of_lt
def oq:=@List.map_singleton
def ot:=@List.getElem?_take
def ou:=@Bool.false_eq_true
def ov:=@Prod.mk.injEq
def ow:=@Nat.le_antisymm
def ox:=@Nat.div_add_mod
def oy:=@List.size_toArray
def oz:=@List.flatten_cons
def pb:=@Int.natCast_one
def pd:=@List.take_length
def ph:=@List.getElem_mem
def pi:=@Go.World.cell?_alloc_lt
def pj:=@Decidable.byContradiction
def pk:=@Nat.pow_zero
def pm:=@Nat.ne_of_gt
def pn:=@List.take_zero
def pp:=@Nat.mul_add
def pq:=@List.map_cons
def pr:=@List.map_id
def pt:=@Go.Sem.run_pure
def pu:=@Go.Sem.run_bind
def pw:=@ByteArray.size_append
def py{c:Prop}{i:Decidable c}{α:Sort _}{a b:α}(h:¬c:=by omega):ite c a b=b:=if_neg h
def pz{c:Prop}{i:Decidable c}{α:Sort _}{a b:α}(h:c:=by omega):ite c a b=a:=if_pos h
end Go.Proofs.YtakkmiomhackiaaGreatDoor
