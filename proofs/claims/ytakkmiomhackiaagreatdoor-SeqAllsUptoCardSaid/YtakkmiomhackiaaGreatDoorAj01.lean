/-
  The program, one part of its walk. Conditions: none.
-/
import Derived.Test.YtakkmiomhackiaaGreatDoorAj00
import Derived.Shelf.Strings.Trim
import Derived.Shelf.Small.Bits
import Derived.Shelf.Strconv.Itoa0
import Derived.Shelf.Bits.Mul64
import Derived.Shelf.Bytes.IndexByte
import Derived.WalkKit
import Derived.WalkSpells
import Derived.WalkLawsBesides
import Derived.Deep.QuietTactic
import Derived.BigQuiet
import Derived.RowKit
import Derived.Lib.TrimByte
set_option linter.all false
set_option maxRecDepth 100000
set_option maxHeartbeats 16000000
open Go.Proofs.Tryz
open Array renaming getElem_modify_self->fu
open Bool renaming false->U
open Go renaming Calls->E,Oper->aj,TypeId->ae,Value->O,World->J,lt_of_block->dh,maxLen->bu,wpList->dl
open Go.Ending renaming returned->ac
open Go.FloatKind renaming f64->ei
open Go.IntKind renaming u64->ai
open Go.Lib renaming bitLen->fm,trimLeftB->bs,trimRightB->cz
open Go.Obj renaming cells->Y
open Go.Proofs.Lays renaming n125->gw,n129->gx,n161->gu,n162->gv,n187->gz,n264->gy
open Go.Proofs.Tryz renaming isAgg153->bk,isAgg3->ar,isAgg30->dp,isAgg4->bz,isAgg5->az,isAgg9->cr,prog->S,sizeOf153->bm,sizeOf3->au,sizeOf30->dq,sizeOf4->cg,sizeOf5->bg,sizeOf9->ct,underlying0->ej,underlying153->bj,underlying21->em,underlying218->ep,underlying299->fc,underlying30->dm,underlying301->fg,underlying302->fj,underlying4->bx,underlying414->eu,underlying415->ew,underlying418->fd,zeroValue0->ek,zeroValue153->bp,zeroValue21->eo,zeroValue218->et,zeroValue3->av,zeroValue30->dt,zeroValue301->fh,zeroValue302->fk,zeroValue4->cj,zeroValue415->fa,zeroValue418->fe,zeroValue5->bh,zeroValue9->cu
open Go.RowKit renaming Below->X
open Go.Shelf renaming Ren->ah
open Go.Value renaming int->W,ownBlock->fq,slice->V,string->cw
open Go.World renaming frozen?->ft
open Go.World.ownsRow renaming alloc->ig,lt->ie
open Ieee renaming double->Z,signed->G
open Ieee.Datum renaming number->eh,order->ak
open Ieee.Format renaming read->ii
open List renaming getD->dx,replicate->ga
open Nat renaming shiftLeft_eq->gr,strongRecOn->gc
open Option renaming none->N,some->I
open Or renaming inr->H
namespace Go.Proofs.YtakkmiomhackiaaGreatDoor
open Go.RowKit
section
open Go.Shelf
open Go.RowKit in
def Tryz.P7:ah:=⟨λ| 161=>245|231=>265|227=>266|233=>267|235=>268|228=>292|197=>293|151=>294|260=>302|152=>303|137=>306|119=>307|224=>131|225=>308|217=>309|266=>310|n=>n,λ| 9=>9|4=>4|3=>3|5=>5|117=>415|116=>414|0=>0|124=>418|105=>218|21=>21|119=>299|46=>153|139=>302|138=>301|n=>n,λ| 3=>2|4=>3|n=>n⟩
def Tryz.T5:gu S Tryz.P7:={
 mixed:=by kernel_rfl
 f119:=func307.trans (congrArg I (by kernel_rfl))
 f137:=func306.trans (congrArg I (by kernel_rfl))
 f151:=func294.trans (congrArg I (by kernel_rfl))
 f152:=func303.trans (congrArg I (by kernel_rfl))
 f161:=func245.trans (congrArg I (by kernel_rfl))
 f197:=func293.trans (congrArg I (by kernel_rfl))
 f217:=func309.trans (congrArg I (by kernel_rfl))
 f224:=func131.trans (congrArg I (by kernel_rfl))
 f225:=func308.trans (congrArg I (by kernel_rfl))
 f227:=func266.trans (congrArg I (by kernel_rfl))
 f228:=func292.trans (congrArg I (by kernel_rfl))
 f231:=func265.trans (congrArg I (by kernel_rfl))
 f233:=func267.trans (congrArg I (by kernel_rfl))
 f235:=func268.trans (congrArg I (by kernel_rfl))
 f260:=func302.trans (congrArg I (by kernel_rfl))
 f266:=func310.trans (congrArg I (by kernel_rfl))
 t0:=ej
 a0:=isAgg0
 z0:=sizeOf0
 v0:=ek
 t3:=nr
 a3:=ar
 z3:=au
 v3:=av
 t4:=bx
 a4:=bz
 z4:=cg
 v4:=cj
 t5:=nq
 a5:=az
 z5:=bg
 v5:=bh
 t9:=lc
 a9:=cr
 z9:=ct
 v9:=cu
 t21:=em
 a21:=isAgg21
 z21:=sizeOf21
 v21:=eo
 t46:=bj
 a46:=bk
 z46:=bm
 v46:=bp
 t105:=ep
 a105:=isAgg218
 z105:=sizeOf218
 v105:=et
 t116:=eu
 a116:=isAgg414
 z116:=sizeOf414
 t117:=ew
 a117:=isAgg415
 z117:=sizeOf415
 v117:=fa
 t119:=fc
 a119:=isAgg299
 z119:=sizeOf299
 t124:=fd
 a124:=isAgg418
 z124:=sizeOf418
 v124:=fe
 t138:=fg
 a138:=isAgg301
 z138:=sizeOf301
 v138:=fh
 t139:=fj
 a139:=isAgg302
 z139:=sizeOf302
 v139:=fk
 g3:=by kernel_rfl
 g4:=by kernel_rfl}
open Go.RowKit in
def Tryz.I2(s:ByteArray)(c:UInt8)(a:c.toNat<128)(w:J):
 E S 245 #[s,cw ⟨#[c]⟩] w λe w'=>e=ac (cw ⟨(bs s.data.toList c).toArray⟩)/\w'=w:=Any.strings_TrimLeft_one Tryz.T5 s c a w
def Tryz.P8:ah:=⟨λ| 162=>246|232=>269|227=>266|234=>270|236=>271|228=>292|271=>295|151=>294|120=>304|197=>293|152=>303|260=>302|137=>306|119=>307|224=>131|225=>308|217=>309|266=>310|n=>n,λ| 9=>9|4=>4|3=>3|5=>5|117=>415|116=>414|0=>0|124=>418|21=>21|105=>218|46=>153|119=>299|139=>302|138=>301|n=>n,λ| 3=>2|4=>3|n=>n⟩
def Tryz.T6:gv S Tryz.P8:={
 mixed:=by kernel_rfl
 f119:=func307.trans (congrArg I (by kernel_rfl))
 f120:=func304.trans (congrArg I (by kernel_rfl))
 f137:=func306.trans (congrArg I (by kernel_rfl))
 f151:=func294.trans (congrArg I (by kernel_rfl))
 f152:=func303.trans (congrArg I (by kernel_rfl))
 f162:=func246.trans (congrArg I (by kernel_rfl))
 f197:=func293.trans (congrArg I (by kernel_rfl))
 f217:=func309.trans (congrArg I (by kernel_rfl))
 f224:=func131.trans (congrArg I (by kernel_rfl))
 f225:=func308.trans (congrArg I (by kernel_rfl))
 f227:=func266.trans (congrArg I (by kernel_rfl))
 f228:=func292.trans (congrArg I (by kernel_rfl))
 f232:=func269.trans (congrArg I (by kernel_rfl))
 f234:=func270.trans (congrArg I (by kernel_rfl))
 f236:=func271.trans (congrArg I (by kernel_rfl))
 f260:=func302.trans (congrArg I (by kernel_rfl))
 f266:=func310.trans (congrArg I (by kernel_rfl))
 f271:=func295.trans (congrArg I (by kernel_rfl))
 t0:=ej
 a0:=isAgg0
 z0:=sizeOf0
 v0:=ek
 t3:=nr
 a3:=ar
 z3:=au
 v3:=av
 t4:=bx
 a4:=bz
 z4:=cg
 v4:=cj
 t5:=nq
 a5:=az
 z5:=bg
 v5:=bh
 t9:=lc
 a9:=cr
 z9:=ct
 v9:=cu
 t21:=em
 a21:=isAgg21
 z21:=sizeOf21
 v21:=eo
 t46:=bj
 a46:=bk
 z46:=bm
 v46:=bp
 t105:=ep
 a105:=isAgg218
 z105:=sizeOf218
 v105:=et
 t116:=eu
 a116:=isAgg414
 z116:=sizeOf414
 t117:=ew
 a117:=isAgg415
 z117:=sizeOf415
 v117:=fa
 t119:=fc
 a119:=isAgg299
 z119:=sizeOf299
 t124:=fd
 a124:=isAgg418
 z124:=sizeOf418
 v124:=fe
 t138:=fg
 a138:=isAgg301
 z138:=sizeOf301
 v138:=fh
 t139:=fj
 a139:=isAgg302
 z139:=sizeOf302
 v139:=fk
 g3:=by kernel_rfl
 g4:=by kernel_rfl}
open Go.RowKit in
def Tryz.L0(s:ByteArray)(c:UInt8)(b:c.toNat<128)(w:J)(a:s.size<=9223372036854775807):
 E S 246 #[s,cw ⟨#[c]⟩] w λe w'=>e=ac (cw ⟨(cz s.data.toList c).toArray⟩)/\w'=w:=Any.strings_TrimRight_one Tryz.T6 s c b w a
def Tryz.P9:ah:=⟨λ| 125=>260|128=>288|129=>273|n=>n,λ| 46=>153|3=>3|51=>208|53=>30|4=>4|5=>5|9=>9|n=>n,λ| n=>n⟩
def Tryz.T7:gw S Tryz.P9:={
 mixed:=by kernel_rfl
 f125:=func260.trans (congrArg I (by kernel_rfl))
 f128:=func288.trans (congrArg I (by kernel_rfl))
 f129:=func273.trans (congrArg I (by kernel_rfl))
 t3:=nr
 a3:=ar
 z3:=au
 v3:=av
 t4:=bx
 a4:=bz
 z4:=cg
 v4:=cj
 t5:=nq
 a5:=az
 z5:=bg
 v5:=bh
 t9:=lc
 a9:=cr
 z9:=ct
 v9:=cu
 t46:=bj
 a46:=bk
 z46:=bm
 v46:=bp
 t51:=underlying208
 a51:=isAgg208
 z51:=sizeOf208
 v51:=zeroValue208
 t53:=dm
 a53:=dp
 z53:=dq
 v53:=dt}
def Tryz.T1(x:Int)(w:J)(b:0<=x)(a:x<=18446744073709551615):
 E S 260 #[W ai x] w λe w'=>e=ac (W .i64 (fm x.toNat))/\w'=w:=Any.bits_Len Tryz.T7 x w b a
open Go.RowKit in
def Tryz.Q0:ah:=⟨λ| 129=>273|n=>n,λ| 53=>30|3=>3|4=>4|46=>153|5=>5|9=>9|n=>n,λ| n=>n⟩
def Tryz.T8:gx S Tryz.Q0:={
 mixed:=by kernel_rfl
 f129:=func273.trans (congrArg I (by kernel_rfl))
 t3:=nr
 a3:=ar
 z3:=au
 v3:=av
 t4:=bx
 a4:=bz
 z4:=cg
 v4:=cj
 t5:=nq
 a5:=az
 z5:=bg
 v5:=bh
 t9:=lc
 a9:=cr
 z9:=ct
 v9:=cu
 t46:=bj
 a46:=bk
 z46:=bm
 v46:=bp
 t53:=dm
 a53:=dp
 z53:=dq
 v53:=dt}
def Tryz.Q7(x:Int)(w:J)(b:0<=x)(a:x<=18446744073709551615):
 E S 273 #[W ai x] w λe w'=>e=ac (W .i64 (fm x.toNat))/\w'=w:=Any.bits_Len64 Tryz.T8 x w b a
open Go.RowKit Go.Lib in
open Go.RowKit Go.Lib in
open Go.RowKit Go.Lib in
open Go.RowKit Go.Lib in
open Go.RowKit Go.Lib in
open Go.RowKit Go.Lib in
open Go.RowKit Go.Lib in
open Go.RowKit Go.Lib in
def Tryz.Q1:ah:=⟨λ| 264=>94|n=>n,λ| 53=>30|46=>153|n=>n,λ| n=>n⟩
def Tryz.T9:gy S Tryz.Q1:={
 mixed:=by kernel_rfl
 f264:=func94.trans (congrArg I (by kernel_rfl))
 t46:=bj
 a46:=bk
 z46:=bm
 v46:=bp
 t53:=dm
 a53:=dp
 z53:=dq
 v53:=dt}
open Go.RowKit Go.Lib in
def Tryz.Q8(x y:Nat)(b:x<18446744073709551616)(a:y<18446744073709551616)(w:J):
 E S 94 #[W ai x,W ai y] w λe w'=>e=ac (.tuple #[W ai ((x*y/18446744073709551616:Nat):Int),W ai ((x*y%18446744073709551616:Nat):Int)])/\w'=w:=Any.bits_Mul64 Tryz.T9 x y b a w
open Go.RowKit Go.Lib in
open Go.RowKit Go.Lib in
open Go.RowKit Go.Lib in
open Go.RowKit Go.Lib in
open Go.RowKit Go.Lib in
open Go.RowKit Go.Lib in
open Go.RowKit Go.Lib in
open Go.RowKit Go.Lib in
open Go.RowKit Go.Lib in
open Go.RowKit Go.Lib in
open Go.RowKit Go.Lib in
open Go.RowKit Go.Lib in
open Go.RowKit Go.Lib in
open Go.RowKit Go.Lib in
open Go.RowKit Go.Lib in
def Tryz.Q2:ah:=⟨λ| 187=>63|255=>95|n=>n,λ| 37=>22|5=>5|3=>3|n=>n,λ| n=>n⟩
def Tryz.Q9:gz S Tryz.Q2:={
 mixed:=by kernel_rfl
 f187:=func63.trans (congrArg I (by kernel_rfl))
 f255:=func95.trans (congrArg I (by kernel_rfl))
 t3:=nr
 a3:=ar
 z3:=au
 v3:=av
 t5:=nq
 a5:=az
 z5:=bg
 v5:=bh
 t37:=underlying22
 a37:=isAgg22
 z37:=sizeOf22
 v37:=zeroValue22}
open Go.RowKit Go.Lib in
open Go.RowKit Go.Lib in
open Go.RowKit Go.Lib in
open Go.RowKit Go.Lib in
open Go.RowKit Go.Lib in
open Go.RowKit Go.Lib in
open Go.RowKit Go.Lib in
def Tryz.N4(b o n c:Nat)(a:List Int)(d:Int)(w:J)(g:a.length=n)(f:∀i,i<n->w.cell? ⟨b,o+i,N⟩=I (W .u8 (a.getD i 0))):
 E S 63 #[V (b,o) n c,W .u8 d] w λe w'=>e=ac (W .i64 (Lib.indexByte (Lib.bytesOf a) d.toNat.toUInt8))/\w'=w:=Any.bytes_IndexByte Tryz.Q9 b o n c a d w g f
def Tryz.L9(a:Int)(w:J):
 E S 63 #[(),W .u8 a] w λe w'=>e=ac (W .i64 (-1))/\w'=w:=Any.bytes_IndexByte_nil Tryz.Q9 a w
end
section
def Row{a:Type}(B e:Nat)(enc:a->O)(w:J)(v:O)(l:List a):Prop:=w.ownsRow B e 1 v l.length (l.map enc)
def Elem(t e bytes:Nat):Prop:=S.underlying t=I (.slice e)/\∃i z,S.info? e=I i/\i.zero=I z/\i.size=1/\i.bytes=bytes/\z.cells.size=1
def ownsRow_below{w w':J}{a e b n:Nat}{v:O}{i:List O}(h:w.ownsRow a e b v n i)(k:X w w w'):w'.ownsRow a e b v n i:=by
 refine⟨h.1,?_⟩;rcases h.2 with l|⟨g,cap,f,rfl,j,d,c⟩
 .exact .inl l
 .exact H ⟨g,cap,f,rfl,j,(k.block g (Array.getElem?_eq_some_iff.1 d).1).trans d,c⟩
def aCv{w:J}{a e d n:Nat}{v:O}{j:List O}(h:w.ownsRow a e d v n j){b:Nat}{c:Array O}{T:ae}(k:w.heap[b]?=I (Y c T (0,0)))(l:T≠e)(o:Nat)(u:O):
 (w.setCell ⟨b,o,N⟩ u).ownsRow a e d v n j:=by
 refine ownsRow_setCell_other h (λi=>?_) u;rcases h.2 with⟨rfl,_⟩|⟨g,cap,m,rfl,_,f,_⟩
 .simp[fq]at i
 .simp[fq]at i;subst i;rw[k]at f;simp at f;exact l f.2
def aIR{w:J}{b:Nat}{c:Array O}{T:ae}(h:w.heap[b]?=I (Y c T (0,0)))(o:Nat):w.frozen? ⟨b,o,N⟩=U:=by simp[ft,h]
def aKQ{w:J}{b o:Nat}{c:Array O}{T:ae}(h:w.heap[b]?=I (Y c T (0,0)))(u:O):(w.setCell ⟨b,o,N⟩ u).heap[b]?=I (Y (c.setIfInBounds o u) T (0,0)):=by
 have a:=dh h;have d:w.heap[b]=Y c T (0,0):=by simpa[nk a]using h
 show(w.heap.modify b _)[b]?=_;rw[nk (by simpa using a),fu,d];rfl
section
variable {α:Type} {B e:Nat} {enc:α->O} {w:J} {v:O} {l:List α}
def Row.A7{w':J}(h:Row B e enc w v l)(a:X w w w'):Row B e enc w' v l:=ownsRow_below h a
def Row.E0(h:Row B e enc w v l){b:Nat}{c:Array O}{T:ae}(d:w.heap[b]?=I (Y c T (0,0)))(a:T≠e)(o:Nat)(u:O):Row B e enc (w.setCell ⟨b,o,N⟩ u) v l:=aCv h d a o u
def Row.nil(B e:Nat)(enc:α->O)(w:J):Row B e enc w (V N 0 0) []:=World.ownsRow_nil w B e 1
def Row.I3{c:Nat}(h:Row B e enc w v l)(d:c<=B):Row c e enc w v l:=by
 refine⟨h.1,?_⟩;rcases h.2 with i|⟨g,cap,b,rfl,f,a⟩
 .exact .inl i
 .exact H ⟨g,cap,b,rfl,Nat.le_trans d f,a⟩
def Row.E3(h:Row B e enc w v l):(v=V N 0 0/\l= [])\/
 ∃g cap,v=V (I ⟨g,0,N⟩) l.length cap/\B<=g/\g<w.heap.size/\l.length<=cap/\cap<=bu/\(∃a,w.heap[g]?=I (Y a e (0,0))/\a.size=cap/\a.toList.take l.length=l.map enc)/\
  ∀i x,l[i]?=I x->w.cell? ⟨g,i,N⟩=I (enc x):=by
 rcases h.2 with⟨f,k⟩|⟨g,cap,a,f,n,d,o,m,j,c⟩
 .exact .inl ⟨f,List.eq_nil_of_length_eq_zero k⟩
 .simp only[nd]at j c;refine H ⟨g,cap,f,n,dh d,o,m,⟨a,d,j,c⟩,λi x hi=>?_⟩;rw[cell_of_row w g i a e (0,0) d];have:=congrArg (λx=>x[i]?) c;have b:i<l.length:=(List.getElem?_eq_some_iff.1 hi).1;simp only[ot,List.getElem?_map,pz b,Array.getElem?_toList,hi]at this;exact this
def Row.A8(h:Row B e enc w v l):∃a c,v=V a l.length c:=by
 rcases h.E3 with⟨rfl,rfl⟩|⟨g,cap,rfl,_⟩
 .exact⟨N,0,rfl⟩
 .exact⟨_,_,rfl⟩
def Row.lt(h:Row B e enc w v l):∀k,v.ownBlock=I k->B<=k/\k<w.heap.size:=ie h
def Row.B3{g n cap:Nat}(h:Row B e enc w (V g n cap) l){k:Nat}(j:k<=l.length):Row B e enc w (V g k cap) (l.take k):=by
 rcases h.2 with⟨b,_⟩|⟨p,c,a,b,d,i,q,o,m,f⟩
 .cases b
 .cases b;refine⟨by simp,H ⟨g,cap,a,by simp[mh j],d,i,by simp;omega,o,m,?_⟩⟩;have:=congrArg (List.take k) f;rw[List.take_take]at this;simp only[nd,el,List.map_take]at this⊢;rw[<-this]
def Row.K6{g n cap:Nat}(h:Row B e enc w (V g n cap) l)(o:Nat):w.frozen? ⟨g,o,N⟩=U:=by
 rcases h.2 with⟨a,_⟩|⟨f,b,c,a,_,d,_⟩
 .cases a
 .cases a;exact aIR d o
def Row.B6{g n cap:Nat}(h:Row B e enc w (V g n cap) l){i:Nat}{x:α}(c:l[i]?=I x):w.cell? ⟨g,i,N⟩=I (enc x):=by
 rcases h.E3 with⟨a,_⟩|⟨f,b,a,_,_,_,_,_,d⟩
 .cases a
 .cases a;exact d i x c
def Row.N8{g n cap:Nat}(h:Row B e enc w (V g n cap) l){i:Nat}(hi:i<l.length)(x:α):Row B e enc (w.setCell ⟨g,i,N⟩ (enc x)) (V g n cap) (l.set i x):=by
 rcases h.2 with⟨b,_⟩|⟨p,c,a,b,f,j,o,m,k,d⟩
 .cases b
 .cases b;refine⟨by simp,H ⟨g,cap,a.setIfInBounds i (enc x),by simp,f,aKQ j _,by simpa using o,m,by simpa using k,?_⟩⟩;simp only[nd,List.length_set,Array.toList_setIfInBounds]at d⊢;rw[List.take_set,d,List.map_set]
def Row.E9(B e:Nat)(enc:α->O)(w:J)(l:List α)(b:B<=w.heap.size)(a:l.length<=bu):Row B e enc (w.alloc (Y (l.map enc).toArray e)) (V w l.length l.length) l:=by
 refine⟨by simp,H ⟨w.heap.size,l.length,_,rfl,b,aL w _,hU _,a,by simp,?_⟩⟩;simp[List.take_of_length_le]
def Row.A5(h:Row B e enc w v l)(o:Obj):Row B e enc (w.alloc o) v l:=ig h o
def Row.B0(h:Row B e enc w v l):Row B e enc w.drew v l:=h
end
def after1{w w1:J}{o1:Obj}(h:X (w.alloc o1).heap.size (w.alloc o1) w1):w1.heap[w.heap.size]?=I o1/\X w w w1/\w.heap.size+1<=w1.heap.size:=by
 refine⟨(h.block _ (by simp)).trans (aL w o1),((dk _ _).alloc (hU _) _).trans (h.mono (by simp)),by simpa using h.size⟩
def after2{w w1:J}{o1 o2:Obj}(h:X ((w.alloc o1).alloc o2).heap.size ((w.alloc o1).alloc o2) w1):w1.heap[w.heap.size]?=I o1/\w1.heap[w.heap.size+1]?=I o2/\X w w w1/\w.heap.size+2<=w1.heap.size:=by
 have a:=after1 h;have b:=after1 a.2.1;exact⟨b.1,by simpa using a.1,b.2.1,by simpa using a.2.2⟩
def tQ{w w1:J}{o1 o2 a:Obj}(h:X (((w.alloc o1).alloc o2).alloc a).heap.size (((w.alloc o1).alloc o2).alloc a) w1):w1.heap[w.heap.size]?=I o1/\w1.heap[w.heap.size+1]?=I o2/\w1.heap[w.heap.size+2]?=I a/\X w w w1/\w.heap.size+3<=w1.heap.size:=by
 have c:=after1 h;have b:=after2 c.2.1;exact⟨b.1,b.2.1,by simpa using c.1,b.2.2.1,by simpa using c.2.2⟩
def keep{w1 w2:J}{b:Nat}{o:Obj}(h:w1.heap[b]?=I o)(a:X w1 w1 w2):w2.heap[b]?=I o:=(a.block b (dh h)).trans h
def chain{w w1 w2:J}(h:X w w w1)(a:X w1 w1 w2):X w w w2:=h.trans (a.mono h.size)
def aB{w:J}{b o:Nat}{c:Array O}{T:ae}(h:w.heap[b]?=I (Y c T (0,0)))(u:O):(w.setCell ⟨b,o,N⟩ u).heap[b]?=I (Y (c.setIfInBounds o u) T (0,0)):=by
 have a:=dh h;have d:w.heap[b]=Y c T (0,0):=by simpa[nk a]using h
 show(w.heap.modify b _)[b]?=_;rw[nk (by simpa using a),fu,d];rfl
def aE{w:J}{b o k:Nat}(u:O)(h:k≠b):(w.setCell ⟨b,o,N⟩ u).heap[k]?=w.heap[k]?:=Below.heap_setCell w ⟨b,o,N⟩ u k h
def aA{w:J}{b o:Nat}{c:Array O}{T:ae}(h:w.heap[b]?=I (Y c T (0,0))):w.cell? ⟨b,o,N⟩=c[o]?:=by simp[World.cell?,h]
def free_at{w:J}{b:Nat}{c:Array O}{T:ae}(h:w.heap[b]?=I (Y c T (0,0)))(o:Nat):w.frozen? ⟨b,o,N⟩=U:=by simp[ft,h]
section
variable {α:Type} {B e t bytes:Nat} {enc:α->O} {w:J} {v:O} {l:List α}
def cV{n:Array aj}{d:List aj}{o:aj}{a:Act}{a0:Exit->Act->J->Prop}(a1:Elem t e bytes)(q:o.guard=N)(s x:Operand)
 (L:o.op=.call {callee:=.builtin .append,args:= #[s,x],argTypes:= #[t,t]})(P:a.eval s=v)(p:Row B e enc w v l)(m:Addr)(c:Nat)(y:α)(Q:a.eval x=V (I m) 1 c)
 (R:w.cell? m=I (enc y))(T:(enc y).oneCell'=true)(hb:(l.length+1)*bytes<=140737488355328)(hm:l.length+1<=bu)(f:B<=w.heap.size)
 (a2:∀b cap w',Row B e enc w' (V (I ⟨b,0,N⟩) (l.length+1) cap) (l++ [y])->w.grownBy w' v.ownBlock->dl S n a0 d (a.put o.dst (V (I ⟨b,0,N⟩) (l.length+1) cap)) w'):
 dl S n a0 (o::d) a w:=by
 obtain⟨ht,i,z,hi,hz,r,C,D⟩:=a1;refine wpList_append_own w q s x t L B e i z 1 bytes ht hi hz r C D (by decide) v l.length (l.map enc) P p m 1 c [enc y] Q rfl ?_ ?_ hm hb f ?_
 .intro j u h
  match j,h with
  | 0,h=>
   simp at h;subst h;have:m.add 0=m:=(by obtain⟨b,o,s⟩:=m;cases s<;>simp[Addr.add]);rw[this];exact R
  | j+1,h=>simp at h
 .intro u h;simp at h;subst h;exact T
 .intro v' w' h hg K;rcases h.2 with⟨_,hn⟩|⟨g,cap,F,rfl,k⟩
  .omega
  .refine a2 g cap w' ?_ hg;unfold Row;rw[List.length_append,List.map_append];exact⟨by simp,H ⟨g,cap,F,rfl,by simpa using k⟩⟩
end
def aIS(t e bytes:Nat)(z:O):Prop:=S.underlying t=I (.slice e)/\∃i,S.info? e=I i/\i.zero=I z/\i.size=1/\i.bytes=bytes/\z.cells= #[z]
def rO{T:Type}{B e t bytes:Nat}{enc:T->O}{w:J}(k:T){f:Array aj}{b:List aj}{o:aj}{a:Act}{a0:Exit->Act->J->Prop}(a2:aIS t e bytes (enc k))(p:o.guard=N)(l c:Operand)
 (q:o.op=Op.makeSlice t l c)(u v:IntKind)(a1 C:Int)(m n:Nat)(y:a.eval l=W u a1)(z:a.eval c=W v C)(D:a1=(m:Int))(F:C=(n:Int))(g:m<=n)(hb:bytes*n<=281474976710656)(x:n<=bu)(d:B<=w.heap.size)
 (a3:∀w',Row B e enc w' (V w m n) (ga m k)->X w w w'->dl S f a0 b (a.put o.dst (V w m n)) w'):
 dl S f a0 (o::b) a w:=by
 obtain⟨L,i,hi,Q,h,r,s⟩:=a2;have j:=run_make (P:=S) w t e i (enc k) L hi Q u v (m:Int) (n:Int) (by omega) (by omega) (by rw[r];omega) (by simp only[bu]at x;omega);subst D;subst F;refine wpList_plain p λK R=>?_;unfold Oper.wp;simp only[execOp,q,y,z,Sem.run_bind,j,Result.andThen_ok,Int.toNat_natCast,Sem.run_pure];refine R _ _ (a3 _ ⟨by simp,H ⟨w.heap.size,n,madeCells (enc k).cells (n*i.size),by simp,d,aL w _,by simpa using g,x,by rw[size_madeCells,h],?_⟩⟩ ((dk _ _).alloc (hU _) _));rw[s,toList_madeCells_one,h];simp[List.take_replicate,mh g]
end
end Go.Proofs.YtakkmiomhackiaaGreatDoor
namespace Go.Proofs.YtakkmiomhackiaaGreatDoor.Lim
def val:List Nat->Nat
 | []=>0
 | x::a=>x+18446744073709551616*val a
def limbs(n:Nat):List Nat:=if h:n=0 then []else n%18446744073709551616::limbs (n/18446744073709551616)
termination_by n
decreasing_by omega
def limbs_zero:limbs 0= []:=by rw[limbs];simp
def limbs_pos{n:Nat}(h:n≠0):limbs n=n%18446744073709551616::limbs (n/18446744073709551616):=by rw[limbs];simp[h]
def val_limbs(n:Nat):val (limbs n)=n:=by
 induction n using gc with
 | ind n a=>
  by_cases h:n=0
  .subst h;rw[limbs_zero];rfl
  .rw[limbs_pos h];simp only[val];rw[a (n/18446744073709551616) (by omega)];omega
def Small(l:List Nat):Prop:=∀x∈l,x<18446744073709551616
def small_limbs(n:Nat):Small (limbs n):=by
 induction n using gc with
 | ind n b=>
  by_cases h:n=0
  .subst h;rw[limbs_zero];intro x a;cases a
  .rw[limbs_pos h];intro x a;rcases List.mem_cons.1 a with rfl|a
   .exact Nat.mod_lt _ (by decide)
   .exact b (n/18446744073709551616) (by omega) x a
def small_cons{x:Nat}{l:List Nat}:Small (x::l)<->x<18446744073709551616/\Small l:=by
 unfold Small;simp
def small_append{a b:List Nat}:Small (a++b)<->Small a/\Small b:=by
 unfold Small;simp only[List.mem_append];exact⟨λh=>⟨λx c=>h x (.inl c),λx c=>h x (H c)⟩,λh x c=>c.elim (h.1 x) (h.2 x)⟩
def small_take{l:List Nat}(h:Small l)(n:Nat):Small (l.take n):=λx a=>h x (List.mem_of_mem_take a)
def val_append(a b:List Nat):val (a++b)=val a+18446744073709551616^a.length*val b:=by
 induction a with
 | nil=>simp[val]
 | cons x a c=>simp only[li,val,c,cv,jx];rw[Nat.mul_add,<-kh,ke 18446744073709551616 (18446744073709551616^a.length)];omega
def val_lt{l:List Nat}(h:Small l):val l<18446744073709551616^l.length:=by
 induction l with
 | nil=>simp[val]
 | cons x l a=>
  obtain⟨c,b⟩:=small_cons.1 h;have:=a b;simp only[val,cv,jx];omega
def limbs_val{l:List Nat}(h:Small l)(c:l.getLast?≠I 0):limbs (val l)=l:=by
 induction l with
 | nil=>exact limbs_zero
 | cons x l d=>
  obtain⟨m,e⟩:=small_cons.1 h;have k:(x+18446744073709551616*val l)/18446744073709551616=val l:=by omega
  have i:(x+18446744073709551616*val l)%18446744073709551616=x:=by omega
  have g:x+18446744073709551616*val l≠0:=by
   intro g;have b:x=0:=(by omega);have a:val l=0:=by omega
   cases l with
   | nil=>subst b;exact c rfl
   | cons y j=>
    have f:=d e (by simpa[nj]using c);rw[a,limbs_zero]at f;cases f
  simp only[val];rw[limbs_pos g,k,i];cases l with
  | nil=>simp[val,limbs_zero]
  | cons y j=>rw[d e (by simpa[nj]using c)]
def limbs_take{l:List Nat}(h:Small l){k:Nat}(d:k<=l.length)(n:∀i,k<=i->l.getD i 0=0)(a:k=0\/l.getD (k-1) 0≠0):
 limbs (val l)=l.take k:=by
 have f:val l=val (l.take k):=by
  have e:=val_append (l.take k) (l.drop k);rw[List.take_append_drop]at e
  have j:val (l.drop k)=0:=by
   have:∀m:List Nat,(∀i,m.getD i 0=0)->val m=0:=by
    intro m;induction m with
    | nil=>intro _;rfl
    | cons y m g=>intro c;simp only[val];rw[g (λi=>by simpa using c (i+1))];have:=c 0;simp at this;omega
   refine this _ (λi=>?_);have:=n (k+i) (by omega);simpa[dx,List.getElem?_drop]using this
  rw[j]at e;simpa using e
 rw[f];refine limbs_val (small_take h k) ?_;rcases a with rfl|a
 .simp
 .intro b;rcases hG k with rfl|o
  .simp at b
  .rw[List.getLast?_eq_getElem?,el,mh d,ot,pz]at b;exact a (by simp[dx,b])
def limbs_length_le{n k:Nat}(h:n<18446744073709551616^k):(limbs n).length<=k:=by
 induction k generalizing n with
 | zero => have : n = 0 := by simpa using h
           subst this;simp[limbs_zero]
 | succ k b=>
  by_cases a:n=0
  .subst a;simp[limbs_zero]
  .rw[limbs_pos a];simp only[cv];have:=b (n:=n/18446744073709551616) (by rw[jx]at h;exact nm (by rw[ke];exact h));omega
def lt_of_limbs_length{n k:Nat}(h:(limbs n).length<=k):n<18446744073709551616^k:=by
 have:=val_lt (small_limbs n);rw[val_limbs]at this;exact Nat.lt_of_lt_of_le this (Nat.pow_le_pow_right (by decide) h)
def limbs_getD(n i:Nat):(limbs n).getD i 0=n/18446744073709551616^i%18446744073709551616:=by
 induction i generalizing n with
 | zero=>
  by_cases h:n=0
  .subst h;simp[limbs_zero]
  .rw[limbs_pos h];simp
 | succ i a=>
  by_cases h:n=0
  .subst h;simp[limbs_zero]
  .rw[limbs_pos h];have:(n%18446744073709551616::limbs (n/18446744073709551616)).getD (i+1) 0=(limbs (n/18446744073709551616)).getD i 0:=(by simp[dx]);rw[this,a,Nat.div_div_eq_div_mul,jx,ke 18446744073709551616]
def bitlen(n:Nat):Nat:=if n=0 then 0 else n.log2+1
def bitlen_le{n k:Nat}:bitlen n<=k<->n<2^k:=by
 unfold bitlen;split
 .rename_i h;subst h;simp[kF]
 .rename_i h;exact Nat.log2_lt h
def lt_bitlen{n:Nat}:n<2^bitlen n:=bitlen_le.1 (hU _)
def bitlen_gt{n k:Nat}:k<bitlen n<->2^k<=n:=by
 have:=bitlen_le (n:=n) (k:=k);omega
def weq:18446744073709551616=2^64:=by decide
def wpow(k:Nat):18446744073709551616^k=2^(64*k):=by rw[weq,<-Nat.pow_mul]
def bitlen_limbs{n:Nat}(h:n≠0):bitlen n=64*((limbs n).length-1)+bitlen ((limbs n).getD ((limbs n).length-1) 0)/\0<(limbs n).length:=by
 have b:0<(limbs n).length:=by rw[limbs_pos h];simp
 refine⟨?_,b⟩;obtain⟨m,i⟩:∃m,(limbs n).length=m+1:=⟨(limbs n).length-1,by omega⟩;rw[i,Nat.add_sub_cancel];have d:n<18446744073709551616^(m+1):=lt_of_limbs_length (by omega)
 have c:18446744073709551616^m<=n:=by
  rcases Nat.lt_or_ge n (18446744073709551616^m)with f|f
  .have:=limbs_length_le f;omega
  .exact f
 have k:n/18446744073709551616^m<18446744073709551616:=nm (by rw[<-jx];exact d);rw[limbs_getD,mt k];have g:0<18446744073709551616^m:=Nat.pow_pos (by decide);have j:1<=n/18446744073709551616^m:=(Nat.one_le_div_iff g).2 c;generalize a:n/18446744073709551616^m=q at*;refine Nat.le_antisymm ?_ ?_
 .rw[bitlen_le,ld,<-wpow,ke];rw[<-Nat.div_lt_iff_lt_mul g,a];exact lt_bitlen
 .have o : 0 < bitlen q := by rcases hG (bitlen q) with e | e
                              .have:=bitlen_le.1 (Nat.le_of_eq e);simp at this;omega
                              .exact e
  have l:64*m+(bitlen q-1)<bitlen n:=by
   rw[bitlen_gt,ld,<-wpow,ke];have:2^(bitlen q-1)<=q:=bitlen_gt.1 (by omega)
   calc 2^(bitlen q-1)*18446744073709551616^m<=q*18446744073709551616^m:=ev _ this
    _<=n:=by rw[<-a];exact Nat.div_mul_le_self _ _
  omega
def short{n k:Nat}(h:bitlen n<=64*k):(limbs n).length<=k:=limbs_length_le (by rw[wpow];exact bitlen_le.1 h)
def bitlen_mono{a b:Nat}(h:a<=b):bitlen a<=bitlen b:=bitlen_le.2 (lz h lt_bitlen)
end Go.Proofs.YtakkmiomhackiaaGreatDoor.Lim
namespace Go.Proofs.YtakkmiomhackiaaGreatDoor
open Go.RowKit
def bO(l:List UInt8):Nat:=l.foldl (λa b=>10*a+(b.toNat-48)) 0
def aG7(l:Oo)(a:Nat):l.foldl (λa b=>10*a+(b.toNat-48)) a=a*10^l.length+bO l:=by
 unfold bO
 induction l generalizing a with
 | nil=>simp
 | cons x l c=>
  rw[mr,mr,c,c (10*0+(x.toNat-48)),cv,jx,lu,lu,Nat.mul_zero,Nat.zero_mul,Nat.zero_add,ke (10^l.length) 10,<-kh,ke a 10,Nat.add_assoc]
def jV(l r:Oo):bO (l++r)=bO l*10^r.length+bO r:=by
 rw[bO,lf,aG7];rfl
def tP(l:Oo)(x:UInt8):bO (l++ [x])=10*bO l+(x.toNat-48):=by
 rw[bO,lf];rfl
def aEv(q:Nat)(l:Oo):bO (ga q 48++l)=bO l:=by
 induction q with
 | zero=>rfl
 | succ q a=>rw[List.replicate_succ,li,bO,mr,<-a];rfl
def kH{l:Oo}(h:∀x∈l,x.toNat<=57):bO l<10^l.length:=by
 induction l with
 | nil=>simp[bO]
 | cons x l a=>
  have d:=h x (by simp);have c:=a (λy b=>h y (by simp[b]))
  have e:bO (x::l)=(x.toNat-48)*10^l.length+bO l:=by
   have:=jV [x] l;simpa[bO]using this
  rw[e,cv,jx];have:(x.toNat-48)*10^l.length<=9*10^l.length:=ev _ (by omega);omega
def isD(c:UInt8):Bool:=decide (48<=c.toNat)&&decide (c.toNat<=57)
structure Lit where
 a:Bool
 whole:List UInt8
 c:List UInt8
 d:Bool
 b:List UInt8
def cA(t:List UInt8):Bool×List UInt8:=match t with
 | c::a=>if c=43\/c=45 then(c==45,a)else(U,c::a)
 | []=>(U,[])
def cZ(neg:Bool)(b a r:List UInt8):Option Lit:=match r with
 | []=>I ⟨neg,b,a,U,[]⟩
 | e::t=>if e=101\/e=69 then
  (if(cA t).2.takeWhile isD= []\/(cA t).2.dropWhile isD≠ []then N else I ⟨neg,b,a,(cA t).1,(cA t).2.takeWhile isD⟩)
  else N
def bF(neg:Bool)(a r:List UInt8):Option Lit:=match r with
 | []=>cZ neg a [] []
 | c::t=>if c=46 then(if t.takeWhile isD= []then N else cZ neg a (t.takeWhile isD) (t.dropWhile isD))else cZ neg a [] (c::t)
def cR(neg:Bool)(r:List UInt8):Option Lit:=match r with
 | []=>N
 | c::t=>if isD c then(if c=48 then bF neg [48] t else bF neg ((c::t).takeWhile isD) ((c::t).dropWhile isD))else N
def bI(s:List UInt8):Option Lit:=match s with
 | []=>N
 | c::t=>if c=45 then cR true t else cR U (c::t)
structure Dml where
 a:Bool
 c:List UInt8
 b:Int
def dD(a:Nat)(c:UInt8):Nat:=if a<35184372088832 then 10*a+(c.toNat-48)else a
def fH(l:List UInt8):Nat:=l.foldl dD 0
def cB(neg:Bool)(a:List UInt8)(e:Int):Dml:=
 if cz (bs a 48) 48= []then⟨U,[],0⟩
 else⟨neg,cz (bs a 48) 48,e+(bs a 48).length-(cz (bs a 48) 48).length⟩
def dA(l:Lit):Dml:=cB l.a (l.whole++l.c) ((if l.d then -(fH l.b:Int)else fH l.b)-l.c.length)
structure Cut where
 bits:Nat
 a:Int
 exact:Bool
def aM:Nat:=9218868437227405311
def nM(a b:Nat):Int:=66-((Lim.bitlen a:Int)-Lim.bitlen b)
def kD(q b:Nat)(c:Int):Cut:=
 let k:Int:=max ((Lim.bitlen q:Int)-53-c) (-1074);let j:=(k+c).toNat;let a:=(k+1074).toNat*4503599627370496+q/2^j
 if aM<a then⟨aM,1,U⟩
 else⟨a,if q/2^(j-1)%2=1 then(if q%2^(j-1)≠0\/b≠0 then 1 else 0)else -1, !(decide (q%2^j≠0)||decide (b≠0))⟩
def bH(a b:Nat):Cut:=
 let n:=a*2^(nM a b).toNat;let d:=b*2^(- nM a b).toNat
 kD (n/d) (n%d) (nM a b)
def bG(a:List UInt8):List UInt8:=if 800<a.length then a.take 800++ [49]else a
def eD(a:List UInt8)(e:Int):Int:=if 800<a.length then e+(a.length-801)else e
def bQ(d:Dml):Cut:=
 if d.c= []then⟨0,0,true⟩
 else if 310<(d.c.length:Int)+d.b then⟨aM,1,U⟩
 else if(d.c.length:Int)+d.b< -330 then⟨0,-1,U⟩
 else if 0<=eD d.c d.b then bH (bO (bG d.c)*10^(eD d.c d.b).toNat) 1
 else bH (bO (bG d.c)) (10^(- eD d.c d.b).toNat)
def cC(c:Cut):Nat:=if c.a=0/\c.bits%2=0 then c.bits else if 0<=c.a/\c.exact=U then c.bits+1 else c.bits
def cF(d:Dml):Option Nat:=
 if aM<cC (bQ d)then N else I (if d.a=true/\0<cC (bQ d)then cC (bQ d)+9223372036854775808 else cC (bQ d))
def bitsOf(s:List UInt8):Option Nat:=(bI s).bind λl=>cF (dA l)
def gO(b:Nat):Prop:=b<=aM\/(9223372036854775808<=b/\b<=9223372036854775808+aM)
def nZ{b:Nat}(h:b%9223372036854775808<=aM):∃m i:Nat,m<9007199254740992/\i<=2045/\(m=0<->b%9223372036854775808=0)/\Z.read b=eh (b/9223372036854775808%2==1) m (-1074+i):=by
 have c:Z.signWeight=9223372036854775808:=by decide
 have f:Z.binade=4503599627370496:=by decide
 have d:Z.infRung=9218868437227405312:=by decide
 have e:Z.leastPlace= -1074:=by decide
 unfold aM at h;unfold ii;simp only[c,f,d,e];generalize b%9223372036854775808=r at*;by_cases a:r<4503599627370496
 .rw[pz a];exact⟨r,0,by omega,by omega,Iff.rfl,by simp⟩
 .rw[py a,pz];exact⟨4503599627370496+r%4503599627370496,r/4503599627370496-1,by omega,by omega,by omega,rfl⟩
def aED{b:Nat}(h:b%9223372036854775808<=aM):ei.format.order b b=I .eq:=by
 obtain⟨m,i,_,_,_,a⟩:=nZ h;show ak (Z.read b) (Z.read b)=_;rw[a];simp[ak]
def aEE{b:Nat}(h:b<=aM):ei.format.order b aM≠I .gt:=by
 have k:b%9223372036854775808=b:=mt (lz h (by decide));obtain⟨m,i,o,hi,_,d⟩:=nZ (b:=b) (by rw[k];exact h)
 have l:(b/9223372036854775808%2==1)=U:=by
  have:b/9223372036854775808=0:=Nat.div_eq_of_lt (lz h (by decide));rw[this];rfl
 rw[l]at d;have a:Z.read aM=eh U 9007199254740991 (-1074+2045):=by decide
 show ak (Z.read b) (Z.read aM)≠_;rw[d,a];have c:min (-1074+(i:Int)) (-1074+2045)= -1074+(i:Int):=by omega
 simp only[ak,c];have e:((-1074+(i:Int))-(-1074+(i:Int))).toNat=0:=by omega
 have g:((-1074+2045:Int)-(-1074+(i:Int))).toNat=2045-i:=by omega
 rw[e,g]
 have j:G U m 0<=G U 9007199254740991 (2045-i):=by
  simp only[G,gr];have:1<=2^(2045-i):=Nat.one_le_two_pow;have f:m*2^0<=9007199254740991*2^(2045-i):=by simp;omega
  rw[py (by decide),py (by decide)]
  exact_mod_cast f
 intro n;have:=mz n;rw[Int.compare_eq_gt]at this;omega
def aEF{b:Nat}(h:b%9223372036854775808<=aM):(ei.format.order b 0==I .eq)=decide (b%9223372036854775808=0):=by
 obtain⟨m,i,w,hi,l,r⟩:=nZ h;have n:Z.read 0=eh U 0 (-1074):=by decide
 show(ak (Z.read b) (Z.read 0)==I .eq)=_;rw[r,n];have c:min (-1074+(i:Int)) (-1074)= -1074:=by omega
 simp only[ak,c];have t:((-1074+(i:Int))-(-1074)).toNat=i:=by omega
 have q:((-1074:Int)-(-1074)).toNat=0:=by omega
 rw[t,q];have p:G U 0 0=0:=by decide
 rw[p];have v:0<2^i:=kF i
 have j:G (b/9223372036854775808%2==1) m i=0<->m=0:=by
  simp only[G,gr];constructor
  .intro h
   have s:((m*2^i:Nat):Int)=0:=by
    split at h
    .omega
    .exact h
   have o:m*2^i=0:=(by exact_mod_cast s);rcases Nat.mul_eq_zero.1 o with k|k
   .exact k
   .omega
  .intro h;subst h;simp
 by_cases a:m=0
 .have d:b%9223372036854775808=0:=l.1 a;rw[j.2 a,d];decide
 .have d:¬b%9223372036854775808=0:=λe=>a (l.2 e);have f:G (b/9223372036854775808%2==1) m i≠0:=λe=>a (j.1 e);have u:compare (G (b/9223372036854775808%2==1) m i) 0≠ .eq:=λe=>f (Int.compare_eq_eq.1 e);rw[decide_eq_false d];cases g:compare (G (b/9223372036854775808%2==1) m i) 0 with
  | eq=>exact absurd g u
  | lt=>decide
  | gt=>decide
def l0{l:Oo}{b:Nat}(h:bitsOf l=I b):gO b:=by
 unfold bitsOf at h;cases a:bI l with
 | none=>rw[a]at h;cases h
 | some t=>
  rw[a]at h;simp only[Option.bind_some]at h;unfold cF at h;split at h
  .cases h
  .rename_i c;simp only[ll]at h;subst h;unfold gO;split
   .right;omega
   .left;omega
