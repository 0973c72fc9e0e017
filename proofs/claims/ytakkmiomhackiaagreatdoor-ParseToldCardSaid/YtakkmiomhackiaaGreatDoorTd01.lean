/-
  The program, one part of its walk. Conditions: none.
-/
import Derived.Test.YtakkmiomhackiaaGreatDoorTd00
import Derived.Shelf.Strings.Trim
import Derived.Shelf.Small.Bits
import Derived.Shelf.Strconv.Itoa0
import Derived.Shelf.Bits.Mul64
import Derived.Shelf.Bytes.IndexByte
import Derived.WalkKit
import Derived.WalkSpells
import Derived.WalkLawsBesides
import Derived.Deep.QuietTactic
import Derived.BigQuiet
import Derived.RowKit
import Derived.Scope
import Derived.WalkMore
set_option linter.all false
set_option maxRecDepth 100000
set_option maxHeartbeats 16000000
open Go.Proofs.Tryz
open Array renaming getElem?_eq_getElem->cv,getElem_modify_self->fg
open Go renaming Act->V,Calls->ar,Exit->af,Oper->ae,TypeId->H,Value->O,World->J,findLabel->G,heap_alloc_new->du,lt_of_block->cu,maxLen->av,step_inScope->fw,step_scope->ag,wpList->cz
open Go.Arrives renaming of_steps->bg
open Go.Code renaming scope->fu,skip->di
open Go.Ending renaming returned->au
open Go.IntKind renaming u64->ac
open Go.Item renaming inScope->ba
open Go.Lib renaming bitLen->fc
open Go.Obj renaming cells->X
open Go.Proofs.Lays renaming n125->gc,n129->gd,n161->fz,n162->ga,n264->ge
open Go.Proofs.Tryz renaming isAgg153->aj,isAgg3->bj,isAgg30->dl,isAgg4->bs,isAgg5->bz,isAgg9->co,prog->S,sizeOf153->ak,sizeOf3->bk,sizeOf30->dm,sizeOf4->bu,sizeOf5->cg,sizeOf9->cr,underlying0->dx,underlying153->ai,underlying21->ee,underlying218->ei,underlying299->ep,underlying3->bh,underlying30->dj,underlying301->ev,underlying302->ez,underlying4->bp,underlying414->ek,underlying415->em,underlying418->et,underlying5->bx,underlying9->ck,zeroValue0->dy,zeroValue153->ao,zeroValue21->eh,zeroValue218->ej,zeroValue3->bm,zeroValue30->dp,zeroValue301->ew,zeroValue302->fa,zeroValue4->bw,zeroValue415->eo,zeroValue418->eu,zeroValue5->cj,zeroValue9->ct
open Go.RowKit renaming Below->W
open Go.RowKit.Below renaming refl->fj
open Go.Shelf renaming Ren->ah
open Go.Steps renaming one->bc,trans->fv
open Go.Value renaming int->Y,ownBlock->fd,slice->U,string->E
open Go.World renaming frozen?->fe
open Go.World.ownsRow renaming alloc->gj,lt->gh
open List renaming getD->dw,getElem?_take->fh,getLast?_cons_cons->fk,length_cons->dv,length_take->fi
open Nat renaming div_lt_of_lt_mul->fq,eq_zero_or_pos->fm,le_refl->cw,min_eq_left->dt,mul_comm->az,mul_one->dq,pow_add->ft,pow_succ->aw,strongRecOn->dh
open Option renaming none->N,some->I
open Or renaming inr->Z
namespace Go.Proofs.YtakkmiomhackiaaGreatDoor
open Go.RowKit
section
open Go.Shelf
open Go.RowKit in
def Tryz.N4:ah:=⟨λ| 161=>245|231=>265|227=>266|233=>267|235=>268|228=>292|197=>293|151=>294|260=>302|152=>303|137=>306|119=>307|224=>131|225=>308|217=>309|266=>310|n=>n,λ| 9=>9|4=>4|3=>3|5=>5|117=>415|116=>414|0=>0|124=>418|105=>218|21=>21|119=>299|46=>153|139=>302|138=>301|n=>n,λ| 3=>2|4=>3|n=>n⟩
theorem Tryz.R0:fz S Tryz.N4:={
 mixed:=by kernel_rfl
 f119:=func307.trans (congrArg I (by kernel_rfl))
 f137:=func306.trans (congrArg I (by kernel_rfl))
 f151:=func294.trans (congrArg I (by kernel_rfl))
 f152:=func303.trans (congrArg I (by kernel_rfl))
 f161:=func245.trans (congrArg I (by kernel_rfl))
 f197:=func293.trans (congrArg I (by kernel_rfl))
 f217:=func309.trans (congrArg I (by kernel_rfl))
 f224:=func131.trans (congrArg I (by kernel_rfl))
 f225:=func308.trans (congrArg I (by kernel_rfl))
 f227:=func266.trans (congrArg I (by kernel_rfl))
 f228:=func292.trans (congrArg I (by kernel_rfl))
 f231:=func265.trans (congrArg I (by kernel_rfl))
 f233:=func267.trans (congrArg I (by kernel_rfl))
 f235:=func268.trans (congrArg I (by kernel_rfl))
 f260:=func302.trans (congrArg I (by kernel_rfl))
 f266:=func310.trans (congrArg I (by kernel_rfl))
 t0:=dx
 a0:=isAgg0
 z0:=sizeOf0
 v0:=dy
 t3:=bh
 a3:=bj
 z3:=bk
 v3:=bm
 t4:=bp
 a4:=bs
 z4:=bu
 v4:=bw
 t5:=bx
 a5:=bz
 z5:=cg
 v5:=cj
 t9:=ck
 a9:=co
 z9:=cr
 v9:=ct
 t21:=ee
 a21:=isAgg21
 z21:=sizeOf21
 v21:=eh
 t46:=ai
 a46:=aj
 z46:=ak
 v46:=ao
 t105:=ei
 a105:=isAgg218
 z105:=sizeOf218
 v105:=ej
 t116:=ek
 a116:=isAgg414
 z116:=sizeOf414
 t117:=em
 a117:=isAgg415
 z117:=sizeOf415
 v117:=eo
 t119:=ep
 a119:=isAgg299
 z119:=sizeOf299
 t124:=et
 a124:=isAgg418
 z124:=sizeOf418
 v124:=eu
 t138:=ev
 a138:=isAgg301
 z138:=sizeOf301
 v138:=ew
 t139:=ez
 a139:=isAgg302
 z139:=sizeOf302
 v139:=fa
 g3:=by kernel_rfl
 g4:=by kernel_rfl}
open Go.RowKit in
theorem Tryz.I2(s:ByteArray)(c:UInt8)(a:c.toNat<128)(w:J):
 ar S 245 #[E s,E ⟨#[c]⟩] w λe w'=>e=au (E ⟨(Lib.trimLeftB s.data.toList c).toArray⟩)/\w'=w:=Any.strings_TrimLeft_one Tryz.R0 s c a w
def Tryz.N5:ah:=⟨λ| 162=>246|232=>269|227=>266|234=>270|236=>271|228=>292|271=>295|151=>294|120=>304|197=>293|152=>303|260=>302|137=>306|119=>307|224=>131|225=>308|217=>309|266=>310|n=>n,λ| 9=>9|4=>4|3=>3|5=>5|117=>415|116=>414|0=>0|124=>418|21=>21|105=>218|46=>153|119=>299|139=>302|138=>301|n=>n,λ| 3=>2|4=>3|n=>n⟩
theorem Tryz.R1:ga S Tryz.N5:={
 mixed:=by kernel_rfl
 f119:=func307.trans (congrArg I (by kernel_rfl))
 f120:=func304.trans (congrArg I (by kernel_rfl))
 f137:=func306.trans (congrArg I (by kernel_rfl))
 f151:=func294.trans (congrArg I (by kernel_rfl))
 f152:=func303.trans (congrArg I (by kernel_rfl))
 f162:=func246.trans (congrArg I (by kernel_rfl))
 f197:=func293.trans (congrArg I (by kernel_rfl))
 f217:=func309.trans (congrArg I (by kernel_rfl))
 f224:=func131.trans (congrArg I (by kernel_rfl))
 f225:=func308.trans (congrArg I (by kernel_rfl))
 f227:=func266.trans (congrArg I (by kernel_rfl))
 f228:=func292.trans (congrArg I (by kernel_rfl))
 f232:=func269.trans (congrArg I (by kernel_rfl))
 f234:=func270.trans (congrArg I (by kernel_rfl))
 f236:=func271.trans (congrArg I (by kernel_rfl))
 f260:=func302.trans (congrArg I (by kernel_rfl))
 f266:=func310.trans (congrArg I (by kernel_rfl))
 f271:=func295.trans (congrArg I (by kernel_rfl))
 t0:=dx
 a0:=isAgg0
 z0:=sizeOf0
 v0:=dy
 t3:=bh
 a3:=bj
 z3:=bk
 v3:=bm
 t4:=bp
 a4:=bs
 z4:=bu
 v4:=bw
 t5:=bx
 a5:=bz
 z5:=cg
 v5:=cj
 t9:=ck
 a9:=co
 z9:=cr
 v9:=ct
 t21:=ee
 a21:=isAgg21
 z21:=sizeOf21
 v21:=eh
 t46:=ai
 a46:=aj
 z46:=ak
 v46:=ao
 t105:=ei
 a105:=isAgg218
 z105:=sizeOf218
 v105:=ej
 t116:=ek
 a116:=isAgg414
 z116:=sizeOf414
 t117:=em
 a117:=isAgg415
 z117:=sizeOf415
 v117:=eo
 t119:=ep
 a119:=isAgg299
 z119:=sizeOf299
 t124:=et
 a124:=isAgg418
 z124:=sizeOf418
 v124:=eu
 t138:=ev
 a138:=isAgg301
 z138:=sizeOf301
 v138:=ew
 t139:=ez
 a139:=isAgg302
 z139:=sizeOf302
 v139:=fa
 g3:=by kernel_rfl
 g4:=by kernel_rfl}
open Go.RowKit in
theorem Tryz.J8(s:ByteArray)(c:UInt8)(b:c.toNat<128)(w:J)(a:s.size<=9223372036854775807):
 ar S 246 #[E s,E ⟨#[c]⟩] w λe w'=>e=au (E ⟨(Lib.trimRightB s.data.toList c).toArray⟩)/\w'=w:=Any.strings_TrimRight_one Tryz.R1 s c b w a
def Tryz.N6:ah:=⟨λ| 125=>260|128=>288|129=>273|n=>n,λ| 46=>153|3=>3|51=>208|53=>30|4=>4|5=>5|9=>9|n=>n,λ| n=>n⟩
theorem Tryz.R2:gc S Tryz.N6:={
 mixed:=by kernel_rfl
 f125:=func260.trans (congrArg I (by kernel_rfl))
 f128:=func288.trans (congrArg I (by kernel_rfl))
 f129:=func273.trans (congrArg I (by kernel_rfl))
 t3:=bh
 a3:=bj
 z3:=bk
 v3:=bm
 t4:=bp
 a4:=bs
 z4:=bu
 v4:=bw
 t5:=bx
 a5:=bz
 z5:=cg
 v5:=cj
 t9:=ck
 a9:=co
 z9:=cr
 v9:=ct
 t46:=ai
 a46:=aj
 z46:=ak
 v46:=ao
 t51:=underlying208
 a51:=isAgg208
 z51:=sizeOf208
 v51:=zeroValue208
 t53:=dj
 a53:=dl
 z53:=dm
 v53:=dp}
theorem Tryz.Q6(x:Int)(w:J)(b:0<=x)(a:x<=18446744073709551615):
 ar S 260 #[Y ac x] w λe w'=>e=au (Y .i64 (fc x.toNat))/\w'=w:=Any.bits_Len Tryz.R2 x w b a
open Go.RowKit in
def Tryz.N7:ah:=⟨λ| 129=>273|n=>n,λ| 53=>30|3=>3|4=>4|46=>153|5=>5|9=>9|n=>n,λ| n=>n⟩
theorem Tryz.R3:gd S Tryz.N7:={
 mixed:=by kernel_rfl
 f129:=func273.trans (congrArg I (by kernel_rfl))
 t3:=bh
 a3:=bj
 z3:=bk
 v3:=bm
 t4:=bp
 a4:=bs
 z4:=bu
 v4:=bw
 t5:=bx
 a5:=bz
 z5:=cg
 v5:=cj
 t9:=ck
 a9:=co
 z9:=cr
 v9:=ct
 t46:=ai
 a46:=aj
 z46:=ak
 v46:=ao
 t53:=dj
 a53:=dl
 z53:=dm
 v53:=dp}
theorem Tryz.O4(x:Int)(w:J)(b:0<=x)(a:x<=18446744073709551615):
 ar S 273 #[Y ac x] w λe w'=>e=au (Y .i64 (fc x.toNat))/\w'=w:=Any.bits_Len64 Tryz.R3 x w b a
open Go.RowKit Go.Lib in
open Go.RowKit Go.Lib in
open Go.RowKit Go.Lib in
open Go.RowKit Go.Lib in
open Go.RowKit Go.Lib in
open Go.RowKit Go.Lib in
open Go.RowKit Go.Lib in
open Go.RowKit Go.Lib in
def Tryz.N8:ah:=⟨λ| 264=>94|n=>n,λ| 53=>30|46=>153|n=>n,λ| n=>n⟩
theorem Tryz.R4:ge S Tryz.N8:={
 mixed:=by kernel_rfl
 f264:=func94.trans (congrArg I (by kernel_rfl))
 t46:=ai
 a46:=aj
 z46:=ak
 v46:=ao
 t53:=dj
 a53:=dl
 z53:=dm
 v53:=dp}
open Go.RowKit Go.Lib in
theorem Tryz.O5(x y:Nat)(b:x<18446744073709551616)(a:y<18446744073709551616)(w:J):
 ar S 94 #[Y ac x,Y ac y] w λe w'=>e=au (.tuple #[Y ac ((x*y/18446744073709551616:Nat):Int),Y ac ((x*y%18446744073709551616:Nat):Int)])/\w'=w:=Any.bits_Mul64 Tryz.R4 x y b a w
end
section
def Row{a:Type}(B e:Nat)(enc:a->O)(w:J)(v:O)(l:List a):Prop:=w.ownsRow B e 1 v l.length (l.map enc)
def Elem(t e bytes:Nat):Prop:=S.underlying t=I (.slice e)/\∃i z,S.info? e=I i/\i.zero=I z/\i.size=1/\i.bytes=bytes/\z.cells.size=1
theorem ownsRow_below{w w':J}{a e b n:Nat}{v:O}{i:List O}(h:w.ownsRow a e b v n i)(k:W w.heap.size w w'):w'.ownsRow a e b v n i:=by
 refine⟨h.1,?_⟩;rcases h.2 with l|⟨g,cap,f,rfl,j,d,c⟩
 .exact .inl l
 .exact Z ⟨g,cap,f,rfl,j,(k.block g (Array.getElem?_eq_some_iff.1 d).1).trans d,c⟩
theorem aBn{w:J}{a e d n:Nat}{v:O}{j:List O}(h:w.ownsRow a e d v n j){b:Nat}{c:Array O}{T:H}(k:w.heap[b]?=I (X c T (0,0)))(l:T≠e)(o:Nat)(u:O):
 (w.setCell ⟨b,o,N⟩ u).ownsRow a e d v n j:=by
 refine ownsRow_setCell_other h (λi=>?_) u;rcases h.2 with⟨rfl,_⟩|⟨g,cap,m,rfl,_,f,_⟩
 .simp[fd]at i
 .simp[fd]at i;subst i;rw[k]at f;simp at f;exact l f.2
theorem aHu{w:J}{b:Nat}{c:Array O}{T:H}(h:w.heap[b]?=I (X c T (0,0)))(o:Nat):w.frozen? ⟨b,o,N⟩=false:=by simp[fe,h]
theorem aJu{w:J}{b o:Nat}{c:Array O}{T:H}(h:w.heap[b]?=I (X c T (0,0)))(u:O):(w.setCell ⟨b,o,N⟩ u).heap[b]?=I (X (c.setIfInBounds o u) T (0,0)):=by
 have a:=cu h;have d:w.heap[b]=X c T (0,0):=by simpa[cv a]using h
 show(w.heap.modify b _)[b]?=_
 rw[cv (by simpa using a),fg,d];rfl
section
variable {α:Type} {B e:Nat} {enc:α->O} {w:J} {v:O} {l:List α}
theorem Row.A5{w':J}(h:Row B e enc w v l)(a:W w.heap.size w w'):Row B e enc w' v l:=ownsRow_below h a
theorem Row.D6(h:Row B e enc w v l){b:Nat}{c:Array O}{T:H}(d:w.heap[b]?=I (X c T (0,0)))(a:T≠e)(o:Nat)(u:O):Row B e enc (w.setCell ⟨b,o,N⟩ u) v l:=aBn h d a o u
theorem Row.E0(B e:Nat)(enc:α->O)(w:J):Row B e enc w (U N 0 0) []:=World.ownsRow_nil w B e 1
theorem Row.I3{c:Nat}(h:Row B e enc w v l)(d:c<=B):Row c e enc w v l:=by
 refine⟨h.1,?_⟩;rcases h.2 with i|⟨g,cap,b,rfl,f,a⟩
 .exact .inl i
 .exact Z ⟨g,cap,b,rfl,Nat.le_trans d f,a⟩
theorem Row.E3(h:Row B e enc w v l):(v=U N 0 0/\l= [])\/
 ∃g cap,v=U (I ⟨g,0,N⟩) l.length cap/\B<=g/\g<w.heap.size/\l.length<=cap/\cap<=av/\(∃a,w.heap[g]?=I (X a e (0,0))/\a.size=cap/\a.toList.take l.length=l.map enc)/\
  ∀i x,l[i]?=I x->w.cell? ⟨g,i,N⟩=I (enc x):=by
 rcases h.2 with⟨f,k⟩|⟨g,cap,a,f,n,d,o,m,j,c⟩
 .exact .inl ⟨f,List.eq_nil_of_length_eq_zero k⟩
 .simp only[dq]at j c;refine Z ⟨g,cap,f,n,cu d,o,m,⟨a,d,j,c⟩,λi x hi=>?_⟩;rw[cell_of_row w g i a e (0,0) d];have:=congrArg (λx=>x[i]?) c;have b:i<l.length:=(List.getElem?_eq_some_iff.1 hi).1;simp only[fh,List.getElem?_map,if_pos b,Array.getElem?_toList,hi]at this;exact this
theorem Row.A8(h:Row B e enc w v l):∃a c,v=U a l.length c:=by
 rcases h.E3 with⟨rfl,rfl⟩|⟨g,cap,rfl,_⟩
 .exact⟨N,0,rfl⟩
 .exact⟨_,_,rfl⟩
theorem Row.lt(h:Row B e enc w v l):∀k,v.ownBlock=I k->B<=k/\k<w.heap.size:=gh h
theorem Row.B0{g n cap:Nat}(h:Row B e enc w (U (I ⟨g,0,N⟩) n cap) l){k:Nat}(j:k<=l.length):Row B e enc w (U (I ⟨g,0,N⟩) k cap) (l.take k):=by
 rcases h.2 with⟨b,_⟩|⟨p,c,a,b,d,i,q,o,m,f⟩
 .cases b
 .cases b;refine⟨by simp,Z ⟨g,cap,a,by simp[dt j],d,i,by simp;omega,o,m,?_⟩⟩;have:=congrArg (List.take k) f;rw[List.take_take]at this;simp only[dq,fi,List.map_take]at this⊢;rw[<-this]
theorem Row.K6{g n cap:Nat}(h:Row B e enc w (U (I ⟨g,0,N⟩) n cap) l)(o:Nat):w.frozen? ⟨g,o,N⟩=false:=by
 rcases h.2 with⟨a,_⟩|⟨f,b,c,a,_,d,_⟩
 .cases a
 .cases a;exact aHu d o
theorem Row.B5{g n cap:Nat}(h:Row B e enc w (U (I ⟨g,0,N⟩) n cap) l){i:Nat}{x:α}(c:l[i]?=I x):w.cell? ⟨g,i,N⟩=I (enc x):=by
 rcases h.E3 with⟨a,_⟩|⟨f,b,a,_,_,_,_,_,d⟩
 .cases a
 .cases a;exact d i x c
theorem Row.M3{g n cap:Nat}(h:Row B e enc w (U (I ⟨g,0,N⟩) n cap) l){i:Nat}(hi:i<l.length)(x:α):Row B e enc (w.setCell ⟨g,i,N⟩ (enc x)) (U (I ⟨g,0,N⟩) n cap) (l.set i x):=by
 rcases h.2 with⟨b,_⟩|⟨p,c,a,b,f,j,o,m,k,d⟩
 .cases b
 .cases b;refine⟨by simp,Z ⟨g,cap,a.setIfInBounds i (enc x),by simp,f,aJu j _,by simpa using o,m,by simpa using k,?_⟩⟩;simp only[dq,List.length_set,Array.toList_setIfInBounds]at d⊢;rw[List.take_set,d,List.map_set]
theorem Row.I0(B e:Nat)(enc:α->O)(w:J)(l:List α)(b:B<=w.heap.size)(a:l.length<=av):Row B e enc (w.alloc (X (l.map enc).toArray e)) (U (I ⟨w.heap.size,0,N⟩) l.length l.length) l:=by
 refine⟨by simp,Z ⟨w.heap.size,l.length,_,rfl,b,du w _,cw _,a,by simp,?_⟩⟩;simp[List.take_of_length_le]
theorem Row.A4(h:Row B e enc w v l)(o:Obj):Row B e enc (w.alloc o) v l:=gj h o
theorem Row.A9(h:Row B e enc w v l):Row B e enc w.drew v l:=h
end
theorem after1{w w1:J}{o1:Obj}(h:W (w.alloc o1).heap.size (w.alloc o1) w1):w1.heap[w.heap.size]?=I o1/\W w.heap.size w w1/\w.heap.size+1<=w1.heap.size:=by
 refine⟨(h.block _ (by simp)).trans (du w o1),((fj _ _).alloc (cw _) _).trans (h.mono (by simp)),by simpa using h.size⟩
theorem after2{w w1:J}{o1 b:Obj}(h:W ((w.alloc o1).alloc b).heap.size ((w.alloc o1).alloc b) w1):w1.heap[w.heap.size]?=I o1/\w1.heap[w.heap.size+1]?=I b/\W w.heap.size w w1/\w.heap.size+2<=w1.heap.size:=by
 have a:=after1 h;have c:=after1 a.2.1;exact⟨c.1,by simpa using a.1,c.2.1,by simpa using a.2.2⟩
theorem sC{w w1:J}{o1 d a:Obj}(h:W (((w.alloc o1).alloc d).alloc a).heap.size (((w.alloc o1).alloc d).alloc a) w1):w1.heap[w.heap.size]?=I o1/\w1.heap[w.heap.size+1]?=I d/\w1.heap[w.heap.size+2]?=I a/\W w.heap.size w w1/\w.heap.size+3<=w1.heap.size:=by
 have c:=after1 h;have b:=after2 c.2.1;exact⟨b.1,b.2.1,by simpa using c.1,b.2.2.1,by simpa using c.2.2⟩
theorem keep{w1 w2:J}{b:Nat}{o:Obj}(h:w1.heap[b]?=I o)(a:W w1.heap.size w1 w2):w2.heap[b]?=I o:=(a.block b (cu h)).trans h
theorem chain{w w1 w2:J}(h:W w.heap.size w w1)(a:W w1.heap.size w1 w2):W w.heap.size w w2:=h.trans (a.mono h.size)
theorem aB{w:J}{b o:Nat}{c:Array O}{T:H}(h:w.heap[b]?=I (X c T (0,0)))(u:O):(w.setCell ⟨b,o,N⟩ u).heap[b]?=I (X (c.setIfInBounds o u) T (0,0)):=by
 have a:=cu h;have d:w.heap[b]=X c T (0,0):=by simpa[cv a]using h
 show(w.heap.modify b _)[b]?=_
 rw[cv (by simpa using a),fg,d];rfl
theorem aE{w:J}{b o k:Nat}(u:O)(h:k≠b):(w.setCell ⟨b,o,N⟩ u).heap[k]?=w.heap[k]?:=Below.heap_setCell w ⟨b,o,N⟩ u k h
theorem aA{w:J}{b o:Nat}{c:Array O}{T:H}(h:w.heap[b]?=I (X c T (0,0))):w.cell? ⟨b,o,N⟩=c[o]?:=by simp[World.cell?,h]
theorem free_at{w:J}{b:Nat}{c:Array O}{T:H}(h:w.heap[b]?=I (X c T (0,0)))(o:Nat):w.frozen? ⟨b,o,N⟩=false:=by simp[fe,h]
section
variable {α:Type} {B e t bytes:Nat} {enc:α->O} {w:J} {v:O} {l:List α}
theorem cQ{n:Array ae}{d:List ae}{o:ae}{a:V}{a0:af->V->J->Prop}(a1:Elem t e bytes)(q:o.guard=N)(s x:Operand)
 (K:o.op=.call {callee:=.builtin .append,args:= #[s,x],argTypes:= #[t,t]})(P:a.eval s=v)(p:Row B e enc w v l)(m:Addr)(c:Nat)(y:α)(Q:a.eval x=U (I m) 1 c)
 (R:w.cell? m=I (enc y))(T:(enc y).oneCell'=true)(hb:(l.length+1)*bytes<=140737488355328)(hm:l.length+1<=av)(f:B<=w.heap.size)
 (a2:∀b cap w',Row B e enc w' (U (I ⟨b,0,N⟩) (l.length+1) cap) (l++ [y])->w.grownBy w' v.ownBlock->cz S n a0 d (a.put o.dst (U (I ⟨b,0,N⟩) (l.length+1) cap)) w'):
 cz S n a0 (o::d) a w:=by
 obtain⟨ht,i,z,hi,hz,r,A,C⟩:=a1;refine wpList_append_own w q s x t K B e i z 1 bytes ht hi hz r A C (by decide) v l.length (l.map enc) P p m 1 c [enc y] Q rfl ?_ ?_ hm hb f ?_
 .intro j u h
  match j,h with
  | 0,h=>
   simp at h;subst h;have:m.add 0=m:=by obtain⟨b,o,s⟩:=m;cases s<;>simp[Addr.add]
   rw[this];exact R
  | j+1,h=>simp at h
 .intro u h;simp at h;subst h;exact T
 .intro v' w' h hg F;rcases h.2 with⟨_,hn⟩|⟨g,cap,D,rfl,k⟩
  .omega
  .refine a2 g cap w' ?_ hg;unfold Row;rw[List.length_append,List.map_append];exact⟨by simp,Z ⟨g,cap,D,rfl,by simpa using k⟩⟩
end
def aHv(t e bytes:Nat)(z:O):Prop:=S.underlying t=I (.slice e)/\∃i,S.info? e=I i/\i.zero=I z/\i.size=1/\i.bytes=bytes/\z.cells= #[z]
theorem qF{T:Type}{B e t bytes:Nat}{enc:T->O}{w:J}(k:T){f:Array ae}{b:List ae}{o:ae}{a:V}{a0:af->V->J->Prop}(a2:aHv t e bytes (enc k))(p:o.guard=N)(l c:Operand)
 (q:o.op=Op.makeSlice t l c)(u v:IntKind)(a1 C:Int)(m n:Nat)(y:a.eval l=Y u a1)(z:a.eval c=Y v C)(A:a1=(m:Int))(D:C=(n:Int))(g:m<=n)(hb:bytes*n<=281474976710656)(x:n<=av)(d:B<=w.heap.size)
 (a3:∀w',Row B e enc w' (U (I ⟨w.heap.size,0,N⟩) m n) (List.replicate m k)->W w.heap.size w w'->cz S f a0 b (a.put o.dst (U (I ⟨w.heap.size,0,N⟩) m n)) w'):
 cz S f a0 (o::b) a w:=by
 obtain⟨F,i,hi,Q,h,r,s⟩:=a2;have j:=run_make (P:=S) w t e i (enc k) F hi Q u v (m:Int) (n:Int) (by omega) (by omega) (by rw[r];omega) (by simp only[av]at x;omega);subst A;subst D;refine wpList_plain p λK R=>?_
 unfold Oper.wp;simp only[execOp,q,y,z,Sem.run_bind,j,Result.andThen_ok,Int.toNat_natCast,Sem.run_pure];refine R _ _ (a3 _ ⟨by simp,Z ⟨w.heap.size,n,madeCells (enc k).cells (n*i.size),by simp,d,du w _,by simpa using g,x,by rw[size_madeCells,h],?_⟩⟩ ((fj _ _).alloc (cw _) _));rw[s,toList_madeCells_one,h];simp[List.take_replicate,dt g]
end
end Go.Proofs.YtakkmiomhackiaaGreatDoor
namespace Go.Proofs.YtakkmiomhackiaaGreatDoor.Lim
def val:List Nat->Nat
 | []=>0
 | x::a=>x+18446744073709551616*val a
def limbs(n:Nat):List Nat:=if h:n=0 then []else n%18446744073709551616::limbs (n/18446744073709551616)
termination_by n
decreasing_by omega
theorem limbs_zero:limbs 0= []:=by rw[limbs];simp
theorem limbs_pos{n:Nat}(h:n≠0):limbs n=n%18446744073709551616::limbs (n/18446744073709551616):=by rw[limbs];simp[h]
theorem val_limbs(n:Nat):val (limbs n)=n:=by
 induction n using dh with
 | ind n a=>
  by_cases h:n=0
  .subst h;rw[limbs_zero];rfl
  .rw[limbs_pos h];simp only[val];rw[a (n/18446744073709551616) (by omega)];omega
def Small(l:List Nat):Prop:=∀x∈l,x<18446744073709551616
theorem small_limbs(n:Nat):Small (limbs n):=by
 induction n using dh with
 | ind n b=>
  by_cases h:n=0
  .subst h;rw[limbs_zero];intro x a;cases a
  .rw[limbs_pos h];intro x a;rcases List.mem_cons.1 a with rfl|a
   .exact Nat.mod_lt _ (by decide)
   .exact b (n/18446744073709551616) (by omega) x a
theorem small_cons{x:Nat}{l:List Nat}:Small (x::l)<->x<18446744073709551616/\Small l:=by
 unfold Small;simp
theorem small_append{a b:List Nat}:Small (a++b)<->Small a/\Small b:=by
 unfold Small;simp only[List.mem_append];exact⟨λh=>⟨λx c=>h x (.inl c),λx c=>h x (Z c)⟩,λh x c=>c.elim (h.1 x) (h.2 x)⟩
theorem small_take{l:List Nat}(h:Small l)(n:Nat):Small (l.take n):=λx a=>h x (List.mem_of_mem_take a)
theorem val_append(a b:List Nat):val (a++b)=val a+18446744073709551616^a.length*val b:=by
 induction a with
 | nil=>simp[val]
 | cons x a c=>simp only[List.cons_append,val,c,dv,aw];rw[Nat.mul_add,<-Nat.mul_assoc,az 18446744073709551616 (18446744073709551616^a.length)];omega
theorem val_lt{l:List Nat}(h:Small l):val l<18446744073709551616^l.length:=by
 induction l with
 | nil=>simp[val]
 | cons x l a=>
  obtain⟨c,b⟩:=small_cons.1 h;have:=a b;simp only[val,dv,aw]
  omega
theorem limbs_val{l:List Nat}(h:Small l)(c:l.getLast?≠I 0):limbs (val l)=l:=by
 induction l with
 | nil=>exact limbs_zero
 | cons x l d=>
  obtain⟨m,e⟩:=small_cons.1 h;have k:(x+18446744073709551616*val l)/18446744073709551616=val l:=by omega
  have i:(x+18446744073709551616*val l)%18446744073709551616=x:=by omega
  have g:x+18446744073709551616*val l≠0:=by
   intro g;have b:x=0:=by omega
   have a:val l=0:=by omega
   cases l with
   | nil=>subst b;exact c rfl
   | cons y j=>
    have f:=d e (by simpa[fk]using c);rw[a,limbs_zero]at f;cases f
  simp only[val];rw[limbs_pos g,k,i];cases l with
  | nil=>simp[val,limbs_zero]
  | cons y j=>rw[d e (by simpa[fk]using c)]
theorem limbs_take{l:List Nat}(h:Small l){k:Nat}(d:k<=l.length)(n:∀i,k<=i->l.getD i 0=0)(a:k=0\/l.getD (k-1) 0≠0):
 limbs (val l)=l.take k:=by
 have f:val l=val (l.take k):=by
  have e:=val_append (l.take k) (l.drop k);rw[List.take_append_drop]at e
  have j:val (l.drop k)=0:=by
   have:∀m:List Nat,(∀i,m.getD i 0=0)->val m=0:=by
    intro m;induction m with
    | nil=>intro _;rfl
    | cons y m g=>intro c;simp only[val];rw[g (λi=>by simpa using c (i+1))];have:=c 0;simp at this;omega
   refine this _ (λi=>?_);have:=n (k+i) (by omega)
   simpa[dw,List.getElem?_drop]using this
  rw[j]at e;simpa using e
 rw[f];refine limbs_val (small_take h k) ?_;rcases a with rfl|a
 .simp
 .intro b;rcases fm k with rfl|o
  .simp at b
  .rw[List.getLast?_eq_getElem?,fi,dt d,fh,if_pos (by omega)]at b;exact a (by simp[dw,b])
theorem limbs_length_le{n k:Nat}(h:n<18446744073709551616^k):(limbs n).length<=k:=by
 induction k generalizing n with
 | zero => have : n = 0 := by simpa using h
           subst this;simp[limbs_zero]
 | succ k b=>
  by_cases a:n=0
  .subst a;simp[limbs_zero]
  .rw[limbs_pos a];simp only[dv];have:=b (n:=n/18446744073709551616) (by rw[aw]at h;exact fq (by rw[az];exact h));omega
theorem lt_of_limbs_length{n k:Nat}(h:(limbs n).length<=k):n<18446744073709551616^k:=by
 have:=val_lt (small_limbs n);rw[val_limbs]at this;exact Nat.lt_of_lt_of_le this (Nat.pow_le_pow_right (by decide) h)
theorem limbs_getD(n i:Nat):(limbs n).getD i 0=n/18446744073709551616^i%18446744073709551616:=by
 induction i generalizing n with
 | zero=>
  by_cases h:n=0
  .subst h;simp[limbs_zero]
  .rw[limbs_pos h];simp
 | succ i a=>
  by_cases h:n=0
  .subst h;simp[limbs_zero]
  .rw[limbs_pos h];have:(n%18446744073709551616::limbs (n/18446744073709551616)).getD (i+1) 0=(limbs (n/18446744073709551616)).getD i 0:=by simp[dw]
   rw[this,a,Nat.div_div_eq_div_mul,aw,az 18446744073709551616]
def bitlen(n:Nat):Nat:=if n=0 then 0 else n.log2+1
theorem bitlen_le{n k:Nat}:bitlen n<=k<->n<2^k:=by
 unfold bitlen;split
 .rename_i h;subst h;simp[Nat.two_pow_pos]
 .rename_i h;exact Nat.log2_lt h
theorem lt_bitlen{n:Nat}:n<2^bitlen n:=bitlen_le.1 (cw _)
theorem bitlen_gt{n k:Nat}:k<bitlen n<->2^k<=n:=by
 have:=bitlen_le (n:=n) (k:=k);omega
theorem weq:18446744073709551616=2^64:=by decide
theorem wpow(k:Nat):18446744073709551616^k=2^(64*k):=by rw[weq,<-Nat.pow_mul]
theorem bitlen_limbs{n:Nat}(h:n≠0):bitlen n=64*((limbs n).length-1)+bitlen ((limbs n).getD ((limbs n).length-1) 0)/\0<(limbs n).length:=by
 have b:0<(limbs n).length:=by rw[limbs_pos h];simp
 refine⟨?_,b⟩;obtain⟨m,i⟩:∃m,(limbs n).length=m+1:=⟨(limbs n).length-1,by omega⟩;rw[i,Nat.add_sub_cancel];have d:n<18446744073709551616^(m+1):=lt_of_limbs_length (by omega)
 have c:18446744073709551616^m<=n:=by
  rcases Nat.lt_or_ge n (18446744073709551616^m)with f|f
  .have:=limbs_length_le f;omega
  .exact f
 have k:n/18446744073709551616^m<18446744073709551616:=fq (by rw[<-aw];exact d);rw[limbs_getD,Nat.mod_eq_of_lt k];have g:0<18446744073709551616^m:=Nat.pow_pos (by decide);have j:1<=n/18446744073709551616^m:=(Nat.one_le_div_iff g).2 c;generalize a:n/18446744073709551616^m=q at*;refine Nat.le_antisymm ?_ ?_
 .rw[bitlen_le,ft,<-wpow,az];rw[<-Nat.div_lt_iff_lt_mul g,a];exact lt_bitlen
 .have o : 0 < bitlen q := by rcases fm (bitlen q) with e | e
                              .have:=bitlen_le.1 (Nat.le_of_eq e);simp at this;omega
                              .exact e
  have l:64*m+(bitlen q-1)<bitlen n:=by
   rw[bitlen_gt,ft,<-wpow,az];have:2^(bitlen q-1)<=q:=bitlen_gt.1 (by omega)
   calc 2^(bitlen q-1)*18446744073709551616^m<=q*18446744073709551616^m:=Nat.mul_le_mul_right _ this
    _<=n:=by rw[<-a];exact Nat.div_mul_le_self _ _
  omega
theorem short{n k:Nat}(h:bitlen n<=64*k):(limbs n).length<=k:=limbs_length_le (by rw[wpow];exact bitlen_le.1 h)
theorem bitlen_mono{a b:Nat}(h:a<=b):bitlen a<=bitlen b:=bitlen_le.2 (Nat.lt_of_le_of_lt h lt_bitlen)
end Go.Proofs.YtakkmiomhackiaaGreatDoor.Lim
namespace Go.Proofs.YtakkmiomhackiaaGreatDoor
open Go.RowKit
section
open Go
def Exit.J5(b:Nat->V->J->Prop)(Q:af->V->J->Prop):af->V->J->Prop
 | .goto l,a,w=>b l a w
 | e,a,w=>Q e a w
theorem Exit.J9(b:Nat->V->J->Prop)(Q:af->V->J->Prop)(a:V)(w:J):Exit.J5 b Q .ret a w=Q .ret a w:=rfl
section
variable {P:Program} {a:V} {w:J} {Q:af->V->J->Prop}
theorem qM{c:Code}{n f:Nat->V->J->Prop}(h:c.wp P (Exit.J5 n Q) a w)(m:∀l a w,n l a w->f l a w):c.wp P (Exit.J5 f Q) a w:=by
 intro b k j;obtain⟨e,a₁,i,g,d⟩:=h b k j;refine⟨e,a₁,i,?_,d⟩;cases e<;>first|exact g|exact m _ _ _ g
theorem xR{c:Code}(F:Nat->V->J->Prop)(j:Nat->Nat)
 (r:∀l a w,F l a w->∃f,G c l=I f/\f.wp P (Exit.J5 (λq s w'=>F q s w'/\j q<j l) Q) a w)
 (first:c.wp P (Exit.J5 F Q) a w):(fu c).wp P Q a w:=by
 intro b k t;have D:∀l f,G c l=I f->gotoIn l (ba c::k)=I (.code f::ba c::k):=λl f u=>by simp[gotoIn,u]
 have v:∀n l a w,j l=n->F l a w->∃f,G c l=I f/\∃e s w',Q e s w'/\Arrives P (lone (b.at a (.code f::ba c::k)) t w) b k t e s w':=by
  intro n
  induction n using dh with
  | _ n K=>
   intro l a w hn R;obtain⟨f,u,T⟩:=r l a w R;refine⟨f,u,?_⟩;obtain⟨e,a₁,h,i,d⟩:=T b (ba c::k) t;cases e with
   | normal=>exact⟨.normal,a₁,h,i,fv d (bc fw)⟩
   | exit id=>exact⟨.exit id,a₁,h,i,λx y=>d x (by simp[exitTo,y])⟩
   | goto q=>
    obtain⟨z,hlt⟩:=i;obtain⟨m,o,A,B,C,p,g⟩:=K _ (by omega) q a₁ h rfl z;exact⟨A,B,C,p,bg (d _ (D _ _ o)) g⟩
   | ret=>exact⟨_,a₁,h,i,d⟩
   | panic z=>exact⟨_,a₁,h,i,d⟩
   | outgrown=>exact⟨_,a₁,h,i,d⟩
 obtain⟨e,a₁,h,i,d⟩:=first b (ba c::k) t
 cases e with
 | normal=>exact⟨.normal,a₁,h,i,.head ag (fv d (bc fw))⟩
 | exit id=>exact⟨.exit id,a₁,h,i,λx y=>.head ag (d x (by simp[exitTo,y]))⟩
 | goto q=>
  obtain⟨m,o,A,B,C,p,g⟩:=v _ q a₁ h rfl i;exact⟨A,B,C,p,bg (.head ag (d _ (D _ _ o))) g⟩
 | ret=>exact⟨_,a₁,h,i,bg (bc ag) d⟩
 | panic z=>exact⟨_,a₁,h,i,bg (bc ag) d⟩
 | outgrown=>exact⟨_,a₁,h,i,bg (bc ag) d⟩
theorem uR{c:Code}(t:Nat->V->J->Prop)(d:Nat->Nat)
 (g:∀l,(∀e b a w,d e<d l->G c e=I (di.seq b)->t e a w->b.wp P (Exit.J5 (λo i w'=>t o i w'/\d o<d l) Q) a w)->
  ∀a w,t l a w->∃b,G c l=I (di.seq b)/\b.wp P (Exit.J5 (λe i w'=>t e i w'/\d e<d l) Q) a w)
 (first:(∀e b a w,G c e=I (di.seq b)->t e a w->b.wp P (Exit.J5 t Q) a w)->c.wp P (Exit.J5 t Q) a w):(fu c).wp P Q a w:=by
 have m:∀n l,d l=n->∀a w,t l a w->∃b,G c l=I (di.seq b)/\b.wp P (Exit.J5 (λe i w'=>t e i w'/\d e<d l) Q) a w:=by
  intro n
  induction n using dh with
  | _ n q=>
   intro l s;refine g l λe b a w p j k=>?_
   obtain⟨r,f,h⟩:=q (d e) (by omega) e rfl a w k;rw[j]at f;cases f;exact qM h λ_ _ _ h=>⟨h.1,Nat.lt_trans h.2 p⟩
 refine xR t d (λl a w k=>?_) (first λe b a w j k=>?_)
 .obtain⟨b,j,h⟩:=m _ l rfl a w k;exact⟨_,j,wp_seq (wp_skip h)⟩
 .obtain⟨r,p,h⟩:=m _ e rfl a w k;rw[j]at p;cases p;exact qM h λ_ _ _ h=>h.1
end
end
end Go.Proofs.YtakkmiomhackiaaGreatDoor
