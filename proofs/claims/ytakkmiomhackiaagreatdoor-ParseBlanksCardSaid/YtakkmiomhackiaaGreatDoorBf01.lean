/-
  The program, one part of its walk. Conditions: none.
-/
import Derived.Test.YtakkmiomhackiaaGreatDoorBf00
import Derived.RowKit
import Derived.Shelf.Strings.Trim
import Derived.Shelf.Small.Bits
import Derived.Shelf.Strconv.Itoa0
import Derived.Shelf.Bits.Mul64
import Derived.Shelf.Bytes.IndexByte
import Derived.WalkKit
import Derived.WalkSpells
import Derived.WalkLawsBesides
import Derived.Deep.QuietTactic
import Derived.BigQuiet
set_option linter.all false
set_option maxRecDepth 100000
set_option maxHeartbeats 16000000
open Go.Proofs.Tryz
open Array renaming getElem?_eq_getElem->cr,getElem_modify_self->fi
open Go renaming Calls->aj,Oper->G,TypeId->Z,Value->N,World->J,heap_alloc_new->dm,lt_of_block->co,maxLen->ao,wpList->ct
open Go.Ending renaming returned->ak
open Go.IntKind renaming u64->H
open Go.Lib renaming bitLen->fe
open Go.Obj renaming cells->W
open Go.Proofs.Lays renaming n125->fq,n129->ft,n161->fk,n162->fm,n264->fu
open Go.Proofs.Tryz renaming isAgg153->ag,isAgg3->av,isAgg30->dh,isAgg4->bh,isAgg5->bp,isAgg9->bz,prog->S,sizeOf153->ah,sizeOf3->aw,sizeOf30->di,sizeOf4->bj,sizeOf5->bu,sizeOf9->cg,underlying0->dy,underlying153->af,underlying21->eh,underlying218->ej,underlying299->et,underlying3->au,underlying30->cz,underlying301->ew,underlying302->fa,underlying4->bc,underlying414->em,underlying415->eo,underlying418->eu,underlying5->bm,underlying9->bx,zeroValue0->ee,zeroValue153->ai,zeroValue21->ei,zeroValue218->ek,zeroValue3->ba,zeroValue30->dj,zeroValue301->ez,zeroValue302->fc,zeroValue4->bk,zeroValue415->ep,zeroValue418->ev,zeroValue5->bw,zeroValue9->cj
open Go.RowKit renaming Below->V
open Go.RowKit.Below renaming refl->fj
open Go.Shelf renaming Ren->ae
open Go.Value renaming int->X,ownBlock->fg,slice->U,string->ck
open Go.World renaming frozen?->fh
open Go.World.ownsRow renaming alloc->fw,lt->fv
open List renaming getD->cv,getElem?_take->dv,getLast?_cons_cons->dq,length_cons->cu,length_take->du
open Nat renaming div_lt_of_lt_mul->dw,eq_zero_or_pos->dt,le_refl->ar,min_eq_left->cw,mul_comm->ac,mul_one->dl,pow_add->dx,pow_succ->E,strongRecOn->dp
open Option renaming none->O,some->I
open Or renaming inr->Y
namespace Go.Proofs.YtakkmiomhackiaaGreatDoor.Lim
def val:List Nat->Nat
 | []=>0
 | x::a=>x+18446744073709551616*val a
def limbs(n:Nat):List Nat:=if h:n=0 then []else n%18446744073709551616::limbs (n/18446744073709551616)
termination_by n
decreasing_by omega
def limbs_zero:limbs 0= []:=by rw[limbs];simp
def limbs_pos{n:Nat}(h:n≠0):limbs n=n%18446744073709551616::limbs (n/18446744073709551616):=by rw[limbs];simp[h]
def val_limbs(n:Nat):val (limbs n)=n:=by
 induction n using dp with
 | ind n a=>
  by_cases h:n=0
  .subst h;rw[limbs_zero];rfl
  .rw[limbs_pos h];simp only[val];rw[a (n/18446744073709551616) (by omega)];omega
def Small(l:List Nat):Prop:=∀x∈l,x<18446744073709551616
def small_limbs(n:Nat):Small (limbs n):=by
 induction n using dp with
 | ind n b=>
  by_cases h:n=0
  .subst h;rw[limbs_zero];intro x a;cases a
  .rw[limbs_pos h];intro x a;rcases List.mem_cons.1 a with rfl|a
   .exact Nat.mod_lt _ (by decide)
   .exact b (n/18446744073709551616) (by omega) x a
def small_cons{x:Nat}{l:List Nat}:Small (x::l)<->x<18446744073709551616/\Small l:=by
 unfold Small;simp
def small_append{a b:List Nat}:Small (a++b)<->Small a/\Small b:=by
 unfold Small;simp only[List.mem_append];exact⟨λh=>⟨λx c=>h x (.inl c),λx c=>h x (Y c)⟩,λh x c=>c.elim (h.1 x) (h.2 x)⟩
def small_take{l:List Nat}(h:Small l)(n:Nat):Small (l.take n):=λx a=>h x (List.mem_of_mem_take a)
def val_append(a b:List Nat):val (a++b)=val a+18446744073709551616^a.length*val b:=by
 induction a with
 | nil=>simp[val]
 | cons x a c=>simp only[List.cons_append,val,c,cu,E];rw[Nat.mul_add,<-Nat.mul_assoc,ac 18446744073709551616 (18446744073709551616^a.length)];omega
def val_lt{l:List Nat}(h:Small l):val l<18446744073709551616^l.length:=by
 induction l with
 | nil=>simp[val]
 | cons x l a=>
  obtain⟨c,b⟩:=small_cons.1 h;have:=a b;simp only[val,cu,E]
  omega
def limbs_val{l:List Nat}(h:Small l)(c:l.getLast?≠I 0):limbs (val l)=l:=by
 induction l with
 | nil=>exact limbs_zero
 | cons x l d=>
  obtain⟨m,e⟩:=small_cons.1 h;have k:(x+18446744073709551616*val l)/18446744073709551616=val l:=by omega
  have i:(x+18446744073709551616*val l)%18446744073709551616=x:=by omega
  have g:x+18446744073709551616*val l≠0:=by
   intro g;have b:x=0:=by omega
   have a:val l=0:=by omega
   cases l with
   | nil=>subst b;exact c rfl
   | cons y j=>
    have f:=d e (by simpa[dq]using c);rw[a,limbs_zero]at f;cases f
  simp only[val];rw[limbs_pos g,k,i];cases l with
  | nil=>simp[val,limbs_zero]
  | cons y j=>rw[d e (by simpa[dq]using c)]
def limbs_take{l:List Nat}(h:Small l){k:Nat}(d:k<=l.length)(n:∀i,k<=i->l.getD i 0=0)(a:k=0\/l.getD (k-1) 0≠0):
 limbs (val l)=l.take k:=by
 have f:val l=val (l.take k):=by
  have e:=val_append (l.take k) (l.drop k);rw[List.take_append_drop]at e
  have j:val (l.drop k)=0:=by
   have:∀m:List Nat,(∀i,m.getD i 0=0)->val m=0:=by
    intro m;induction m with
    | nil=>intro _;rfl
    | cons y m g=>intro c;simp only[val];rw[g (λi=>by simpa using c (i+1))];have:=c 0;simp at this;omega
   refine this _ (λi=>?_);have:=n (k+i) (by omega)
   simpa[cv,List.getElem?_drop]using this
  rw[j]at e;simpa using e
 rw[f];refine limbs_val (small_take h k) ?_;rcases a with rfl|a
 .simp
 .intro b;rcases dt k with rfl|o
  .simp at b
  .rw[List.getLast?_eq_getElem?,du,cw d,dv,if_pos (by omega)]at b;exact a (by simp[cv,b])
def limbs_length_le{n k:Nat}(h:n<18446744073709551616^k):(limbs n).length<=k:=by
 induction k generalizing n with
 | zero => have : n = 0 := by simpa using h
           subst this;simp[limbs_zero]
 | succ k b=>
  by_cases a:n=0
  .subst a;simp[limbs_zero]
  .rw[limbs_pos a];simp only[cu];have:=b (n:=n/18446744073709551616) (by rw[E]at h;exact dw (by rw[ac];exact h));omega
def lt_of_limbs_length{n k:Nat}(h:(limbs n).length<=k):n<18446744073709551616^k:=by
 have:=val_lt (small_limbs n);rw[val_limbs]at this;exact Nat.lt_of_lt_of_le this (Nat.pow_le_pow_right (by decide) h)
def limbs_getD(n i:Nat):(limbs n).getD i 0=n/18446744073709551616^i%18446744073709551616:=by
 induction i generalizing n with
 | zero=>
  by_cases h:n=0
  .subst h;simp[limbs_zero]
  .rw[limbs_pos h];simp
 | succ i a=>
  by_cases h:n=0
  .subst h;simp[limbs_zero]
  .rw[limbs_pos h];have:(n%18446744073709551616::limbs (n/18446744073709551616)).getD (i+1) 0=(limbs (n/18446744073709551616)).getD i 0:=by simp[cv]
   rw[this,a,Nat.div_div_eq_div_mul,E,ac 18446744073709551616]
def bitlen(n:Nat):Nat:=if n=0 then 0 else n.log2+1
def bitlen_le{n k:Nat}:bitlen n<=k<->n<2^k:=by
 unfold bitlen;split
 .rename_i h;subst h;simp[Nat.two_pow_pos]
 .rename_i h;exact Nat.log2_lt h
def lt_bitlen{n:Nat}:n<2^bitlen n:=bitlen_le.1 (ar _)
def bitlen_gt{n k:Nat}:k<bitlen n<->2^k<=n:=by
 have:=bitlen_le (n:=n) (k:=k);omega
def weq:18446744073709551616=2^64:=by decide
def wpow(k:Nat):18446744073709551616^k=2^(64*k):=by rw[weq,<-Nat.pow_mul]
def bitlen_limbs{n:Nat}(h:n≠0):bitlen n=64*((limbs n).length-1)+bitlen ((limbs n).getD ((limbs n).length-1) 0)/\0<(limbs n).length:=by
 have b:0<(limbs n).length:=by rw[limbs_pos h];simp
 refine⟨?_,b⟩;obtain⟨m,i⟩:∃m,(limbs n).length=m+1:=⟨(limbs n).length-1,by omega⟩;rw[i,Nat.add_sub_cancel];have d:n<18446744073709551616^(m+1):=lt_of_limbs_length (by omega)
 have c:18446744073709551616^m<=n:=by
  rcases Nat.lt_or_ge n (18446744073709551616^m)with f|f
  .have:=limbs_length_le f;omega
  .exact f
 have k:n/18446744073709551616^m<18446744073709551616:=dw (by rw[<-E];exact d);rw[limbs_getD,Nat.mod_eq_of_lt k];have g:0<18446744073709551616^m:=Nat.pow_pos (by decide);have j:1<=n/18446744073709551616^m:=(Nat.one_le_div_iff g).2 c;generalize a:n/18446744073709551616^m=q at*;refine Nat.le_antisymm ?_ ?_
 .rw[bitlen_le,dx,<-wpow,ac];rw[<-Nat.div_lt_iff_lt_mul g,a];exact lt_bitlen
 .have o : 0 < bitlen q := by rcases dt (bitlen q) with e | e
                              .have:=bitlen_le.1 (Nat.le_of_eq e);simp at this;omega
                              .exact e
  have l:64*m+(bitlen q-1)<bitlen n:=by
   rw[bitlen_gt,dx,<-wpow,ac];have:2^(bitlen q-1)<=q:=bitlen_gt.1 (by omega)
   calc 2^(bitlen q-1)*18446744073709551616^m<=q*18446744073709551616^m:=Nat.mul_le_mul_right _ this
    _<=n:=by rw[<-a];exact Nat.div_mul_le_self _ _
  omega
def short{n k:Nat}(h:bitlen n<=64*k):(limbs n).length<=k:=limbs_length_le (by rw[wpow];exact bitlen_le.1 h)
def bitlen_mono{a b:Nat}(h:a<=b):bitlen a<=bitlen b:=bitlen_le.2 (Nat.lt_of_le_of_lt h lt_bitlen)
end Go.Proofs.YtakkmiomhackiaaGreatDoor.Lim
namespace Go.Proofs.YtakkmiomhackiaaGreatDoor
open Go.RowKit
section
open Go.Shelf
open Go.RowKit in
def Tryz.H8:ae:=⟨λ| 161=>245|231=>265|227=>266|233=>267|235=>268|228=>292|197=>293|151=>294|260=>302|152=>303|137=>306|119=>307|224=>131|225=>308|217=>309|266=>310|n=>n,λ| 9=>9|4=>4|3=>3|5=>5|117=>415|116=>414|0=>0|124=>418|105=>218|21=>21|119=>299|46=>153|139=>302|138=>301|n=>n,λ| 3=>2|4=>3|n=>n⟩
def Tryz.M0:fk S Tryz.H8:={
 mixed:=by kernel_rfl
 f119:=func307.trans (congrArg I (by kernel_rfl))
 f137:=func306.trans (congrArg I (by kernel_rfl))
 f151:=func294.trans (congrArg I (by kernel_rfl))
 f152:=func303.trans (congrArg I (by kernel_rfl))
 f161:=func245.trans (congrArg I (by kernel_rfl))
 f197:=func293.trans (congrArg I (by kernel_rfl))
 f217:=func309.trans (congrArg I (by kernel_rfl))
 f224:=func131.trans (congrArg I (by kernel_rfl))
 f225:=func308.trans (congrArg I (by kernel_rfl))
 f227:=func266.trans (congrArg I (by kernel_rfl))
 f228:=func292.trans (congrArg I (by kernel_rfl))
 f231:=func265.trans (congrArg I (by kernel_rfl))
 f233:=func267.trans (congrArg I (by kernel_rfl))
 f235:=func268.trans (congrArg I (by kernel_rfl))
 f260:=func302.trans (congrArg I (by kernel_rfl))
 f266:=func310.trans (congrArg I (by kernel_rfl))
 t0:=dy
 a0:=isAgg0
 z0:=sizeOf0
 v0:=ee
 t3:=au
 a3:=av
 z3:=aw
 v3:=ba
 t4:=bc
 a4:=bh
 z4:=bj
 v4:=bk
 t5:=bm
 a5:=bp
 z5:=bu
 v5:=bw
 t9:=bx
 a9:=bz
 z9:=cg
 v9:=cj
 t21:=eh
 a21:=isAgg21
 z21:=sizeOf21
 v21:=ei
 t46:=af
 a46:=ag
 z46:=ah
 v46:=ai
 t105:=ej
 a105:=isAgg218
 z105:=sizeOf218
 v105:=ek
 t116:=em
 a116:=isAgg414
 z116:=sizeOf414
 t117:=eo
 a117:=isAgg415
 z117:=sizeOf415
 v117:=ep
 t119:=et
 a119:=isAgg299
 z119:=sizeOf299
 t124:=eu
 a124:=isAgg418
 z124:=sizeOf418
 v124:=ev
 t138:=ew
 a138:=isAgg301
 z138:=sizeOf301
 v138:=ez
 t139:=fa
 a139:=isAgg302
 z139:=sizeOf302
 v139:=fc
 g3:=by kernel_rfl
 g4:=by kernel_rfl}
open Go.RowKit in
def Tryz.D5(s:ByteArray)(c:UInt8)(a:c.toNat<128)(w:J):
 aj S 245 #[s,ck ⟨#[c]⟩] w λe w'=>e=ak (ck ⟨(Lib.trimLeftB s.data.toList c).toArray⟩)/\w'=w:=Any.strings_TrimLeft_one Tryz.M0 s c a w
def Tryz.I0:ae:=⟨λ| 162=>246|232=>269|227=>266|234=>270|236=>271|228=>292|271=>295|151=>294|120=>304|197=>293|152=>303|260=>302|137=>306|119=>307|224=>131|225=>308|217=>309|266=>310|n=>n,λ| 9=>9|4=>4|3=>3|5=>5|117=>415|116=>414|0=>0|124=>418|21=>21|105=>218|46=>153|119=>299|139=>302|138=>301|n=>n,λ| 3=>2|4=>3|n=>n⟩
def Tryz.M1:fm S Tryz.I0:={
 mixed:=by kernel_rfl
 f119:=func307.trans (congrArg I (by kernel_rfl))
 f120:=func304.trans (congrArg I (by kernel_rfl))
 f137:=func306.trans (congrArg I (by kernel_rfl))
 f151:=func294.trans (congrArg I (by kernel_rfl))
 f152:=func303.trans (congrArg I (by kernel_rfl))
 f162:=func246.trans (congrArg I (by kernel_rfl))
 f197:=func293.trans (congrArg I (by kernel_rfl))
 f217:=func309.trans (congrArg I (by kernel_rfl))
 f224:=func131.trans (congrArg I (by kernel_rfl))
 f225:=func308.trans (congrArg I (by kernel_rfl))
 f227:=func266.trans (congrArg I (by kernel_rfl))
 f228:=func292.trans (congrArg I (by kernel_rfl))
 f232:=func269.trans (congrArg I (by kernel_rfl))
 f234:=func270.trans (congrArg I (by kernel_rfl))
 f236:=func271.trans (congrArg I (by kernel_rfl))
 f260:=func302.trans (congrArg I (by kernel_rfl))
 f266:=func310.trans (congrArg I (by kernel_rfl))
 f271:=func295.trans (congrArg I (by kernel_rfl))
 t0:=dy
 a0:=isAgg0
 z0:=sizeOf0
 v0:=ee
 t3:=au
 a3:=av
 z3:=aw
 v3:=ba
 t4:=bc
 a4:=bh
 z4:=bj
 v4:=bk
 t5:=bm
 a5:=bp
 z5:=bu
 v5:=bw
 t9:=bx
 a9:=bz
 z9:=cg
 v9:=cj
 t21:=eh
 a21:=isAgg21
 z21:=sizeOf21
 v21:=ei
 t46:=af
 a46:=ag
 z46:=ah
 v46:=ai
 t105:=ej
 a105:=isAgg218
 z105:=sizeOf218
 v105:=ek
 t116:=em
 a116:=isAgg414
 z116:=sizeOf414
 t117:=eo
 a117:=isAgg415
 z117:=sizeOf415
 v117:=ep
 t119:=et
 a119:=isAgg299
 z119:=sizeOf299
 t124:=eu
 a124:=isAgg418
 z124:=sizeOf418
 v124:=ev
 t138:=ew
 a138:=isAgg301
 z138:=sizeOf301
 v138:=ez
 t139:=fa
 a139:=isAgg302
 z139:=sizeOf302
 v139:=fc
 g3:=by kernel_rfl
 g4:=by kernel_rfl}
open Go.RowKit in
def Tryz.E6(s:ByteArray)(c:UInt8)(b:c.toNat<128)(w:J)(a:s.size<=9223372036854775807):
 aj S 246 #[s,ck ⟨#[c]⟩] w λe w'=>e=ak (ck ⟨(Lib.trimRightB s.data.toList c).toArray⟩)/\w'=w:=Any.strings_TrimRight_one Tryz.M1 s c b w a
def Tryz.I1:ae:=⟨λ| 125=>260|128=>288|129=>273|n=>n,λ| 46=>153|3=>3|51=>208|53=>30|4=>4|5=>5|9=>9|n=>n,λ| n=>n⟩
def Tryz.M2:fq S Tryz.I1:={
 mixed:=by kernel_rfl
 f125:=func260.trans (congrArg I (by kernel_rfl))
 f128:=func288.trans (congrArg I (by kernel_rfl))
 f129:=func273.trans (congrArg I (by kernel_rfl))
 t3:=au
 a3:=av
 z3:=aw
 v3:=ba
 t4:=bc
 a4:=bh
 z4:=bj
 v4:=bk
 t5:=bm
 a5:=bp
 z5:=bu
 v5:=bw
 t9:=bx
 a9:=bz
 z9:=cg
 v9:=cj
 t46:=af
 a46:=ag
 z46:=ah
 v46:=ai
 t51:=underlying208
 a51:=isAgg208
 z51:=sizeOf208
 v51:=zeroValue208
 t53:=cz
 a53:=dh
 z53:=di
 v53:=dj}
def Tryz.L7(x:Int)(w:J)(b:0<=x)(a:x<=18446744073709551615):
 aj S 260 #[X H x] w λe w'=>e=ak (X .i64 (fe x.toNat))/\w'=w:=Any.bits_Len Tryz.M2 x w b a
open Go.RowKit in
def Tryz.I2:ae:=⟨λ| 129=>273|n=>n,λ| 53=>30|3=>3|4=>4|46=>153|5=>5|9=>9|n=>n,λ| n=>n⟩
def Tryz.M3:ft S Tryz.I2:={
 mixed:=by kernel_rfl
 f129:=func273.trans (congrArg I (by kernel_rfl))
 t3:=au
 a3:=av
 z3:=aw
 v3:=ba
 t4:=bc
 a4:=bh
 z4:=bj
 v4:=bk
 t5:=bm
 a5:=bp
 z5:=bu
 v5:=bw
 t9:=bx
 a9:=bz
 z9:=cg
 v9:=cj
 t46:=af
 a46:=ag
 z46:=ah
 v46:=ai
 t53:=cz
 a53:=dh
 z53:=di
 v53:=dj}
def Tryz.I7(x:Int)(w:J)(b:0<=x)(a:x<=18446744073709551615):
 aj S 273 #[X H x] w λe w'=>e=ak (X .i64 (fe x.toNat))/\w'=w:=Any.bits_Len64 Tryz.M3 x w b a
open Go.RowKit Go.Lib in
open Go.RowKit Go.Lib in
open Go.RowKit Go.Lib in
open Go.RowKit Go.Lib in
open Go.RowKit Go.Lib in
open Go.RowKit Go.Lib in
open Go.RowKit Go.Lib in
open Go.RowKit Go.Lib in
def Tryz.I3:ae:=⟨λ| 264=>94|n=>n,λ| 53=>30|46=>153|n=>n,λ| n=>n⟩
def Tryz.M4:fu S Tryz.I3:={
 mixed:=by kernel_rfl
 f264:=func94.trans (congrArg I (by kernel_rfl))
 t46:=af
 a46:=ag
 z46:=ah
 v46:=ai
 t53:=cz
 a53:=dh
 z53:=di
 v53:=dj}
open Go.RowKit Go.Lib in
def Tryz.I8(x y:Nat)(b:x<18446744073709551616)(a:y<18446744073709551616)(w:J):
 aj S 94 #[X H x,X H y] w λe w'=>e=ak (.tuple #[X H ((x*y/18446744073709551616:Nat):Int),X H ((x*y%18446744073709551616:Nat):Int)])/\w'=w:=Any.bits_Mul64 Tryz.M4 x y b a w
end
section
def Row{a:Type}(B e:Nat)(enc:a->N)(w:J)(v:N)(l:List a):Prop:=w.ownsRow B e 1 v l.length (l.map enc)
def Elem(t e bytes:Nat):Prop:=S.underlying t=I (.slice e)/\∃i z,S.info? e=I i/\i.zero=I z/\i.size=1/\i.bytes=bytes/\z.cells.size=1
def ownsRow_below{w w':J}{a e b n:Nat}{v:N}{f:List N}(h:w.ownsRow a e b v n f)(j:V w w w'):w'.ownsRow a e b v n f:=by
 refine⟨h.1,?_⟩;rcases h.2 with k|⟨g,cap,d,rfl,i,c,rest⟩
 .exact .inl k
 .exact Y ⟨g,cap,d,rfl,i,(j.block g (Array.getElem?_eq_some_iff.1 c).1).trans c,rest⟩
def aCv{w:J}{a e d n:Nat}{v:N}{j:List N}(h:w.ownsRow a e d v n j){b:Nat}{c:Array N}{T:Z}(k:w.heap[b]?=I (W c T (0,0)))(l:T≠e)(o:Nat)(u:N):
 (w.setCell ⟨b,o,O⟩ u).ownsRow a e d v n j:=by
 refine ownsRow_setCell_other h (λi=>?_) u;rcases h.2 with⟨rfl,_⟩|⟨g,cap,m,rfl,_,f,_⟩
 .simp[fg]at i
 .simp[fg]at i;subst i;rw[k]at f;simp at f;exact l f.2
def aIR{w:J}{b:Nat}{c:Array N}{T:Z}(h:w.heap[b]?=I (W c T (0,0)))(o:Nat):w.frozen? ⟨b,o,O⟩=false:=by simp[fh,h]
def aKQ{w:J}{b o:Nat}{c:Array N}{T:Z}(h:w.heap[b]?=I (W c T (0,0)))(u:N):(w.setCell ⟨b,o,O⟩ u).heap[b]?=I (W (c.setIfInBounds o u) T (0,0)):=by
 have a:=co h;have d:w.heap[b]=W c T (0,0):=by simpa[cr a]using h
 show(w.heap.modify b _)[b]?=_
 rw[cr (by simpa using a),fi,d];rfl
section
variable {α:Type} {B e:Nat} {enc:α->N} {w:J} {v:N} {l:List α}
def Row.A4{w':J}(h:Row B e enc w v l)(a:V w w w'):Row B e enc w' v l:=ownsRow_below h a
def Row.B5(h:Row B e enc w v l){b:Nat}{c:Array N}{T:Z}(d:w.heap[b]?=I (W c T (0,0)))(a:T≠e)(o:Nat)(u:N):Row B e enc (w.setCell ⟨b,o,O⟩ u) v l:=aCv h d a o u
def Row.nil(B e:Nat)(enc:α->N)(w:J):Row B e enc w (U O 0 0) []:=World.ownsRow_nil w B e 1
def Row.D6{b:Nat}(h:Row B e enc w v l)(c:b<=B):Row b e enc w v l:=by
 refine⟨h.1,?_⟩;rcases h.2 with f|⟨g,cap,a,rfl,d,rest⟩
 .exact .inl f
 .exact Y ⟨g,cap,a,rfl,Nat.le_trans c d,rest⟩
def Row.B6(h:Row B e enc w v l):(v=U O 0 0/\l= [])\/
 ∃g cap,v=U (I ⟨g,0,O⟩) l.length cap/\B<=g/\g<w.heap.size/\l.length<=cap/\cap<=ao/\(∃a,w.heap[g]?=I (W a e (0,0))/\a.size=cap/\a.toList.take l.length=l.map enc)/\
  ∀i x,l[i]?=I x->w.cell? ⟨g,i,O⟩=I (enc x):=by
 rcases h.2 with⟨f,k⟩|⟨g,cap,a,f,n,d,o,m,j,c⟩
 .exact .inl ⟨f,List.eq_nil_of_length_eq_zero k⟩
 .simp only[dl]at j c;refine Y ⟨g,cap,f,n,co d,o,m,⟨a,d,j,c⟩,λi x hi=>?_⟩;rw[cell_of_row w g i a e (0,0) d];have:=congrArg (λx=>x[i]?) c;have b:i<l.length:=(List.getElem?_eq_some_iff.1 hi).1;simp only[dv,List.getElem?_map,if_pos b,Array.getElem?_toList,hi]at this;exact this
def Row.A7(h:Row B e enc w v l):∃a c,v=U a l.length c:=by
 rcases h.B6 with⟨rfl,rfl⟩|⟨g,cap,rfl,_⟩
 .exact⟨O,0,rfl⟩
 .exact⟨_,_,rfl⟩
def Row.lt(h:Row B e enc w v l):∀k,v.ownBlock=I k->B<=k/\k<w.heap.size:=fv h
def Row.take{g n cap:Nat}(h:Row B e enc w (U g n cap) l){k:Nat}(j:k<=l.length):Row B e enc w (U g k cap) (l.take k):=by
 rcases h.2 with⟨b,_⟩|⟨p,c,a,b,d,i,q,o,m,f⟩
 .cases b
 .cases b;refine⟨by simp,Y ⟨g,cap,a,by simp[cw j],d,i,by simp;omega,o,m,?_⟩⟩;have:=congrArg (List.take k) f;rw[List.take_take]at this;simp only[dl,du,List.map_take]at this⊢;rw[<-this]
def Row.F0{g n cap:Nat}(h:Row B e enc w (U g n cap) l)(o:Nat):w.frozen? ⟨g,o,O⟩=false:=by
 rcases h.2 with⟨a,_⟩|⟨f,b,c,a,_,d,_⟩
 .cases a
 .cases a;exact aIR d o
def Row.B3{g n cap:Nat}(h:Row B e enc w (U g n cap) l){i:Nat}{x:α}(c:l[i]?=I x):w.cell? ⟨g,i,O⟩=I (enc x):=by
 rcases h.B6 with⟨a,_⟩|⟨f,b,a,_,_,_,_,_,d⟩
 .cases a
 .cases a;exact d i x c
def Row.F8{g n cap:Nat}(h:Row B e enc w (U g n cap) l){i:Nat}(hi:i<l.length)(x:α):Row B e enc (w.setCell ⟨g,i,O⟩ (enc x)) (U g n cap) (l.set i x):=by
 rcases h.2 with⟨b,_⟩|⟨p,c,a,b,f,j,o,m,k,d⟩
 .cases b
 .cases b;refine⟨by simp,Y ⟨g,cap,a.setIfInBounds i (enc x),by simp,f,aKQ j _,by simpa using o,m,by simpa using k,?_⟩⟩;simp only[dl,List.length_set,Array.toList_setIfInBounds]at d⊢;rw[List.take_set,d,List.map_set]
def Row.G5(B e:Nat)(enc:α->N)(w:J)(l:List α)(b:B<=w.heap.size)(a:l.length<=ao):Row B e enc (w.alloc (W (l.map enc).toArray e)) (U w l.length l.length) l:=by
 refine⟨by simp,Y ⟨w.heap.size,l.length,_,rfl,b,dm w _,ar _,a,by simp,?_⟩⟩;simp[List.take_of_length_le]
def Row.A6(h:Row B e enc w v l)(o:Obj):Row B e enc (w.alloc o) v l:=fw h o
def Row.B0(h:Row B e enc w v l):Row B e enc w.drew v l:=h
end
def after1{w w1:J}{o1:Obj}(h:V (w.alloc o1).heap.size (w.alloc o1) w1):w1.heap[w.heap.size]?=I o1/\V w w w1/\w.heap.size+1<=w1.heap.size:=by
 refine⟨(h.block _ (by simp)).trans (dm w o1),((fj _ _).alloc (ar _) _).trans (h.mono (by simp)),by simpa using h.size⟩
def after2{w w1:J}{o1 b:Obj}(h:V ((w.alloc o1).alloc b).heap.size ((w.alloc o1).alloc b) w1):w1.heap[w.heap.size]?=I o1/\w1.heap[w.heap.size+1]?=I b/\V w w w1/\w.heap.size+2<=w1.heap.size:=by
 have a:=after1 h;have c:=after1 a.2.1;exact⟨c.1,by simpa using a.1,c.2.1,by simpa using a.2.2⟩
def tQ{w w1:J}{o1 d a:Obj}(h:V (((w.alloc o1).alloc d).alloc a).heap.size (((w.alloc o1).alloc d).alloc a) w1):w1.heap[w.heap.size]?=I o1/\w1.heap[w.heap.size+1]?=I d/\w1.heap[w.heap.size+2]?=I a/\V w w w1/\w.heap.size+3<=w1.heap.size:=by
 have c:=after1 h;have b:=after2 c.2.1;exact⟨b.1,b.2.1,by simpa using c.1,b.2.2.1,by simpa using c.2.2⟩
def keep{w1 w2:J}{b:Nat}{o:Obj}(h:w1.heap[b]?=I o)(a:V w1 w1 w2):w2.heap[b]?=I o:=(a.block b (co h)).trans h
def chain{w w1 w2:J}(h:V w w w1)(a:V w1 w1 w2):V w w w2:=h.trans (a.mono h.size)
def aB{w:J}{b o:Nat}{c:Array N}{T:Z}(h:w.heap[b]?=I (W c T (0,0)))(u:N):(w.setCell ⟨b,o,O⟩ u).heap[b]?=I (W (c.setIfInBounds o u) T (0,0)):=by
 have a:=co h;have d:w.heap[b]=W c T (0,0):=by simpa[cr a]using h
 show(w.heap.modify b _)[b]?=_
 rw[cr (by simpa using a),fi,d];rfl
def aE{w:J}{b o k:Nat}(u:N)(h:k≠b):(w.setCell ⟨b,o,O⟩ u).heap[k]?=w.heap[k]?:=Below.heap_setCell w ⟨b,o,O⟩ u k h
def aA{w:J}{b o:Nat}{c:Array N}{T:Z}(h:w.heap[b]?=I (W c T (0,0))):w.cell? ⟨b,o,O⟩=c[o]?:=by simp[World.cell?,h]
def free_at{w:J}{b:Nat}{c:Array N}{T:Z}(h:w.heap[b]?=I (W c T (0,0)))(o:Nat):w.frozen? ⟨b,o,O⟩=false:=by simp[fh,h]
section
variable {α:Type} {B e t bytes:Nat} {enc:α->N} {w:J} {v:N} {l:List α}
def cV{m:Array G}{rest:List G}{o:G}{a:Act}{a0:Exit->Act->J->Prop}(a1:Elem t e bytes)(p:o.guard=O)(s x:Operand)
 (K:o.op=.call {callee:=.builtin .append,args:= #[s,x],argTypes:= #[t,t]})(L:a.eval s=v)(n:Row B e enc w v l)(k:Addr)(c:Nat)(y:α)(P:a.eval x=U (I k) 1 c)
 (Q:w.cell? k=I (enc y))(R:(enc y).oneCell'=true)(T:(l.length+1)*bytes<=140737488355328)(hm:l.length+1<=ao)(d:B<=w.heap.size)
 (a2:∀b cap w',Row B e enc w' (U (I ⟨b,0,O⟩) (l.length+1) cap) (l++ [y])->w.grownBy w' v.ownBlock->ct S m a0 rest (a.put o.dst (U (I ⟨b,0,O⟩) (l.length+1) cap)) w'):
 ct S m a0 (o::rest) a w:=by
 obtain⟨ht,i,z,hi,hz,q,r,C⟩:=a1;refine wpList_append_own w p s x t K B e i z 1 bytes ht hi hz q r C (by decide) v l.length (l.map enc) L n k 1 c [enc y] P rfl ?_ ?_ hm T d ?_
 .intro j u f
  match j,f with
  | 0,f=>
   simp at f;subst f;have:k.add 0=k:=by obtain⟨b,o,s⟩:=k;cases s<;>simp[Addr.add]
   rw[this];exact Q
  | j+1,f=>simp at f
 .intro u f;simp at f;subst f;exact R
 .intro v' w' f hg F;rcases f.2 with⟨_,hn⟩|⟨g,cap,D,rfl,h⟩
  .omega
  .refine a2 g cap w' ?_ hg;unfold Row;rw[List.length_append,List.map_append];exact⟨by simp,Y ⟨g,cap,D,rfl,by simpa using h⟩⟩
end
def aIS(t e bytes:Nat)(z:N):Prop:=S.underlying t=I (.slice e)/\∃i,S.info? e=I i/\i.zero=I z/\i.size=1/\i.bytes=bytes/\z.cells= #[z]
def rO{T:Type}{B e t bytes:Nat}{enc:T->N}{w:J}(j:T){d:Array G}{rest:List G}{o:G}{a:Act}{a0:Exit->Act->J->Prop}(a1:aIS t e bytes (enc j))(k:o.guard=O)(l c:Operand)
 (p:o.op=Op.makeSlice t l c)(s u:IntKind)(L C:Int)(m n:Nat)(x:a.eval l=X s L)(y:a.eval c=X u C)(z:L=(m:Int))(D:C=(n:Int))(f:m<=n)(hb:bytes*n<=281474976710656)(v:n<=ao)(b:B<=w.heap.size)
 (a2:∀w',Row B e enc w' (U w m n) (List.replicate m j)->V w w w'->ct S d a0 rest (a.put o.dst (U w m n)) w'):
 ct S d a0 (o::rest) a w:=by
 obtain⟨F,i,hi,Q,g,q,r⟩:=a1;have h:=run_make (P:=S) w t e i (enc j) F hi Q s u (m:Int) (n:Int) (by omega) (by omega) (by rw[q];omega) (by simp only[ao]at v;omega);subst z;subst D;refine wpList_plain k λK R=>?_
 unfold Oper.wp;simp only[execOp,p,x,y,Sem.run_bind,h,Result.andThen_ok,Int.toNat_natCast,Sem.run_pure];refine R _ _ (a2 _ ⟨by simp,Y ⟨w.heap.size,n,madeCells (enc j).cells (n*i.size),by simp,b,dm w _,by simpa using f,v,by rw[size_madeCells,g],?_⟩⟩ ((fj _ _).alloc (ar _) _));rw[r,toList_madeCells_one,g];simp[List.take_replicate,cw f]
end
