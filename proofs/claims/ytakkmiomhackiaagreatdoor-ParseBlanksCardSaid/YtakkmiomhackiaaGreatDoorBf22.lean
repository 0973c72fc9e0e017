/-
  The program, one part of its walk. Conditions: none.
-/
import Derived.Test.YtakkmiomhackiaaGreatDoorBf09
import Derived.Test.YtakkmiomhackiaaGreatDoorBf18
import Derived.Test.YtakkmiomhackiaaGreatDoorBf19
import Derived.Test.YtakkmiomhackiaaGreatDoorBf21
import Derived.Lib.AppendStr
set_option linter.all false
set_option maxRecDepth 100000
set_option maxHeartbeats 16000000
open Go.Proofs.Tryz
open Array renaming getElem_toList->gx
open Bool renaming false->U,true->O
open ByteArray renaming size_data->io
open Except renaming ok->bp
open Go renaming Addr->di,Calls->ae,Ending->fa,Value->ak,World->E,bodyPost_ret->ev,heap_alloc_new->dl,lt_of_block->ek,results->ew
open Go.Ending renaming returned->af
open Go.FloatKind renaming f64->ej
open Go.Fn renaming func->ep
open Go.Instr renaming typeAssert->bw
open Go.IntKind renaming i32->cj,i64->J,u8->co,wrap_i64->cv
open Go.Lib renaming strCells->gn
open Go.Obj renaming cells->Q
open Go.Proofs renaming intOf->eu
open Go.Proofs.Tryz renaming func127->dp,func78->fq,ntmps127->dq,ntmps78->ft,prog->D,results88->ez
open Go.Proofs.YtakkmiomhackiaaGreatDoor.Keeps renaming A0->cr,A6->du,A8->aj
open Go.Proofs.YtakkmiomhackiaaGreatDoor.Lx renaming B4->cz,B8->fm,C0->fk,E2->fu
open Go.Proofs.YtakkmiomhackiaaGreatDoor.Pc renaming O2->ck,bad->dx,ok->ah
open Go.Proofs.YtakkmiomhackiaaGreatDoor.Ra renaming bad->aw,cut->dt,on->au
open Go.Proofs.YtakkmiomhackiaaGreatDoor.Rr renaming B9->fz,C9->fh,I4->em,J0->fi,K6->ge,K8->bm,L3->gy,N7->gz,P4->gc
open Go.Proofs.YtakkmiomhackiaaGreatDoor.St renaming digit->gk,numeral->gj,within->gl
open Go.Proofs.YtakkmiomhackiaaGreatDoor.Tok renaming num->dw
open Go.Proofs.YtakkmiomhackiaaGreatDoor.Tr renaming flag->fe,num->dv
open Go.Proofs.YtakkmiomhackiaaGreatDoor.ValAt renaming flag->fg
open Go.Proofs.YtakkmiomhackiaaGreatDoor.eV renaming J9->bz,Q2->ct
open Go.Result renaming ok->bx
open Go.RowKit renaming Below->ag
open Go.RowKit.Below renaming refl->bk
open Go.Value renaming agg->bh,bool->H,float->ei,func->eo,iface->ar,int->I,nilIface->cu,ownBlock->ee,pointer->T,slice->Z,string->ao,tuple->ba
open Go.World renaming setCell->cw
open List renaming append_assoc->eh,append_nil->bj,cons_append->fj,drop_drop->gr,drop_eq_getElem_cons->ga,drop_eq_nil_of_le->fc,drop_left->gv,getElem?_eq_getElem->il,length_append->go,length_cons->dh,length_drop->dy,length_nil->gm,length_pos_iff->ig,length_take->dj,map_append->et,map_cons->ij,map_nil->ik,nil_append->gh,singleton_append->ii,take_append_of_le_length->ib,take_succ_cons->dm,take_take->fw
open List.cons renaming injEq->im
open Nat renaming add_assoc->fv,add_zero->gd,le_of_lt->av,le_refl->ai,le_trans->bu,lt_of_lt_of_le->cg,min_eq_left->gu,min_self->ie,zero_add->gw,zero_le->gp
open Option renaming none->V,some->Y
open Or renaming inl->ac,inr->bc
open UInt8.toNat renaming inj->gq
namespace Go.Proofs.YtakkmiomhackiaaGreatDoor
open Go.RowKit
variable {W l o t u:Oo}{a b d i k m n:Nat}{x:Oo×Nat}{w w':E}{v:Tr}{f:RFr}{F:Nat->Prop}{c:UInt8}{s:ByteArray}{toks:List Tok}{y:Lx}
def aDe(b:Nat):Pc (List UInt8×Nat)->ak
 | .cut=>ba #["",I J 0,bh #["",I J 0,I J 0,I J 0,H O]]
 | .bad no a=>ba #["",I J 0,bh #["",I J 0,no,I J ((b+a:Nat):Int),H U]]
 | .ok x=>ba #[ao ⟨x.1.toArray⟩,I J ((b+x.2:Nat):Int),bh #["",I J 0,I J 0,I J 0,H U]]
def aLh{no:Nat}(h:jG l=dx no a):no=92\/no=93:=by
 unfold jG at h;cases l with
 | nil=>cases h
 | cons c t=>
  simp only at h;split at h
  .cases g:cX U 4 0 t with
   | cut=>rw[g]at h;cases h
   | bad n b=>
    rw[g,ck]at h;injection h with e h2
    subst e;exact oH g
   | ok n=>
    rw[g,ck]at h;split at h
    .cases h
    .unfold qN at h;split at h
     .cases h
     .split at h
      .split at h
       .cases h
       .rename_i d u _;split at h
        .cases f:cX O 4 0 u with
         | cut=>rw[f]at h;cases h
         | bad m b=>
          rw[f,ck]at h;injection h with e h2
          subst e;exact oH f
         | ok m=>rw[f,ck]at h;cases h
        .injection h with e;exact bc e.symm
      .injection h with e;exact bc e.symm
  .split at h
   .injection h with e;exact ac e.symm
   .cases h
def aAY{no:Nat}(h:eX l=dx no a):no≠0:=by
 unfold eX at h;cases l with
 | nil=>cases h
 | cons c t=>
  simp only at h;split at h
  .rcases aLh h with rfl|rfl<;>decide
  .split at h
   .injection h with e;omega
   .cases d:eC (c::t)with
    | cut=>rw[d]at h;cases h
    | bad n b=>
     rw[d,ck]at h;injection h with e h2
     rw[<-e,aC4 d];decide
    | ok n=>rw[d,ck]at h;cases h
def aLi(h:jG l=ah x):2<=x.2/\x.2<=l.length+1/\x.1.length<=x.2:=by
 unfold jG at h;cases l with
 | nil=>cases h
 | cons c t=>
  simp only at h;split at h
  .cases f:cX U 4 0 t with
   | cut=>rw[f]at h;cases h
   | bad n b=>rw[f]at h;cases h
   | ok n=>
    have o:=oL f;rw[f,ck]at h;split at h
    .injection h with e;subst e
     have:=(fS n).2.1;simp only[dh];omega
    .unfold qN at h;have g:(t.drop 4).length=t.length-4:=dy ..;split at h
     .cases h
     .rename_i j k i;rw[i]at g;split at h
      .split at h
       .cases h
       .rename_i d u;split at h
        .cases a:cX O 4 0 u with
         | cut=>rw[a]at h;cases h
         | bad m b=>rw[a]at h;cases h
         | ok m=>
          have p:=oL a;rw[a,ck]at h;injection h with e;subst e
          have:=(fS (65536+(n-55296)*1024+m-56320)).2.1;simp only[dh]at g⊢;omega
        .cases h
      .cases h
  .split at h
   .cases h
   .injection h with e;subst e
    simp only[dh,gm];omega
def pO(h:eX l=ah x):1<=x.2/\x.2<=l.length/\x.1.length<=x.2:=by
 unfold eX at h;cases l with
 | nil=>cases h
 | cons c t=>
  simp only at h;split at h
  .have:=aLi h;simp only[dh];omega
  .split at h
   .cases h
   .cases a:eC (c::t)with
    | cut=>rw[a]at h;cases h
    | bad n b=>rw[a]at h;cases h
    | ok n=>
     have d:=aDd a;rw[a,ck]at h;injection h with e;subst e
     refine⟨d.1,d.2,?_⟩;rw[dj];exact Nat.min_le_left _ _
def aMo:∃i,D.info? 5=Y i/\i.zero=Y (I co 0)/\i.size=1/\i.bytes=1:=by
 have h:(D.info? 5).map (λi=>(i.zero,i.size,i.bytes))=Y (Y (I co 0),1,1):=by kernel_rfl
 exact info_parts h
def aE9{B:Nat}{v:ak}{f:Array Oper}{rest:List Oper}{o:Oper}{a:Act}{F:Exit->Act->E->Prop}(j:o.guard=V)(s x:Operand)
 (r:o.op=.call {callee:=.builtin .append,args:= #[s,x],argTypes:= #[22,9]})(y:a.eval s=v)(d:Row B 5 bZ w v l)(t:Oo)(z:a.eval x=ao ⟨t.toArray⟩)(C:l.length+t.length<=140737488355328)(b:B<=w.heap.size)
 (h:∀g w',Row B 5 bZ w' g (l++t)->w.grownBy w' v.ownBlock->wpList D f F rest (a.put o.dst g) w'):wpList D f F (o::rest) a w:=by
 obtain⟨i,q,m,u,p⟩:=aMo;have c:(⟨t.toArray⟩:ByteArray).size=t.length:=by show t.toArray.size=_;simp
 refine Lib.wpList_append_own_string w j s x 22 9 r B 5 i underlying22 underlying9 q m u p v l.length (l.map bZ) y d ⟨t.toArray⟩ z (by rw[c];unfold maxLen;omega) (by rw[c];exact C) b λg w' k n _=>h g w' ?_ n
 have e:gn ⟨t.toArray⟩=t.map bZ:=by simp[gn]
 rw[c,e,<-et,<-go]at k;exact k
def lD{b:Oo}{j:Nat}(h:c≠34):cM b j (c::t)=match eX (c::t)with
 | .cut=>.cut
 | .bad no a=>dx no (j+a)
 | .ok x=>cM (b++x.1) (j+x.2) (t.drop (x.2-1)):=by
 rw[cM,if_neg h];cases eX (c::t)<;>rfl
def uG(w:E)(s:ByteArray)(h:Nat)(ha:h<s.size)(hs:s.size<=2147483648):ae D 88 #[s,h] w λe w'=>
 e=af (aDe h (cM [] 1 (s.data.toList.drop (h+1))))/\ag w w w':=by
 obtain⟨R,d⟩:∃R,cM [] 1 (s.data.toList.drop (h+1))=R:=⟨_,rfl⟩;rw[d];have N:=A d;have h6:=A (λ(W:E)(i:Nat)(hi:i<s.size)=>aE1 W s i hi hs);obtain⟨p0,b⟩:∃p,h+1=p:=⟨_,rfl⟩;have a1:J.wrap ((h:Int)+1)=(p0:Int):=by rw[cv];omega
 have h8:=A b;rw[b]at N;have i0:p0<=s.size:=by omega
 clear d b;have o:=A ((Below.heap_alloc (w.alloc (Q #["",I J 0,I J 0,I J 0,H U] 200)) (Q #[] 5) w.heap.size (by simp)).trans (dl w (Q #["",I J 0,I J 0,I J 0,H U] 200)));have z:=A (((bk w w).alloc (ai _) (Q #["",I J 0,I J 0,I J 0,H U] 200)).alloc (by simp) (Q #[] 5))
 have b:=A (show Row (w.heap.size+1) 5 bZ ((w.alloc (Q #["",I J 0,I J 0,I J 0,H U] 200)).alloc (Q #[] 5)) (Z (w.heap.size+1,0) 0 0) [] by
  have:=Row.G5 (w.heap.size+1) 5 bZ (w.alloc (Q #["",I J 0,I J 0,I J 0,H U] 200)) ([]:Oo) (by simp) (by simp)
  simpa using this)
 go_enter func88,ntmps88;go_wp2
 go_loopw [7,8] (λa0 v wr=>∃(f:Oo)(j p:Nat),v=I J p/\M (h+j=p)/\p<=s.size/\f.length<=j/\Row (w.heap.size+1) 5 bZ wr a0 f/\M (cM f j (s.data.toList.drop p)=R)/\wr.heap[w.heap.size]?=Y (Q #["",I J 0,I J 0,I J 0,H U] 200 (0,0))/\ag w w wr/\w.heap.size+1<=wr.heap.size) (λ_ v _=>s.size-(eu v).toNat)
 case atStart=>exact⟨[],1,p0,rfl,h8,i0,gp _,b.o,N,o.o,z.o,by simp⟩
 case round=>
  obtain⟨f,j,p,rfl,HJ,hp,t,b,G,o,z,i8⟩:=hrel
  by_cases B:p<s.size
  .have q1:(p:Int)<(s.size:Int):=by omega
   by_cases n:s[p]=34
   .have e1:(((s[p].toNat:Nat):Int)==34)=O:=by rw[n];rfl
    have g:=G.o;rw[bA B,n,cM,if_pos rfl]at g;subst g;have q2:J.wrap ((p:Int)+1)=((p+1:Nat):Int):=by rw[cv];omega
    obtain⟨a,c,rfl⟩:=b.A7;have d:=fK (Win.E3 b);obtain⟨c0,c1,c2,c3,c4,cf⟩:=cells5 o;have S:=A o;have X:=A z;clear n G N b t o z;go_wp2;obtain⟨P,PB⟩:=aS (ao ⟨#[]⟩) (I J 0) (I J 0) (I J 0) (H U) S.o X.o (ai _);have r:=A PB;obtain⟨r0,r1,r2,r3,r4,_⟩:=cells5 P;exact ev (v:=ba #[ao ⟨f.toArray⟩,I J ((p+1:Nat):Int),bh #["",I J 0,I J 0,I J 0,H U]]) (by simp[ew,ez,go_sem,r0,r1,r2,r3,r4]) rfl ⟨by rw[<-HJ.o];rfl,r.o⟩
   .have e1:(((s[p].toNat:Nat):Int)==34)=U:=by
     have:s[p].toNat≠34:=λe=>n (gq e)
     simp;omega
    have g:=G.o;rw[bA B,lD n,<-bA B]at g;have F:=A (λW=>h6.o W p B);have C:(s.data.toList.drop p).length=s.size-p:=by rw[dy];simp
    cases K:eX (s.data.toList.drop p)with
    | cut=>
     rw[K]at g F;have g:Pc.cut=R:=g;rw[gP]at F;subst g;clear n G N b t K C;go_wp2_with fail;refine(F.o _).mono ?_;rintro e y ⟨rfl,d⟩;have l:=(bk y y).alloc (ai _) (Q #["",I J 0,I J 0,I J 0,H O] 200);have S:=A (keep (keep o d) l);have X:=A (chain (chain z d) l);obtain⟨c0,c1,c2,c3,c4,cf⟩:=cells5 (keep (keep o d) l)
     clear d l o z;go_wp2_with fail;obtain⟨d0,d1,d2,d3,d4,df⟩:=cells5 (dl y (Q #["",I J 0,I J 0,I J 0,H O] 200));generalize y.alloc (Q #["",I J 0,I J 0,I J 0,H O] 200)=L at*
     go_still_tail 3,(by kernel_rfl)
     go_wp2;obtain⟨P,PB⟩:=aS (w:=L) (ao ⟨#[]⟩) (I J 0) (I J 0) (I J 0) (H O) S.o X.o (ai _);have r:=A PB;obtain⟨r0,r1,r2,r3,r4,_⟩:=cells5 P;exact ev (v:=ba #["",I J 0,bh #["",I J 0,I J 0,I J 0,H O]]) (by simp[ew,ez,go_sem,r0,r1,r2,r3,r4]) rfl ⟨rfl,r.o.drew⟩
    | bad no a=>
     have h5:((no:Int)!=0)=O:=by have:=aAY K;simp;omega
     rw[K]at g F;have g:dx no (j+a)=R:=g;obtain⟨x,hx⟩:∃x,p+a=x:=⟨_,rfl⟩;rw[gP,hx]at F;have HX:=A hx;subst g;clear n G N b t K C hx;go_wp2_with fail;refine(F.o _).mono ?_;rintro e y ⟨rfl,d⟩;have l:=(bk y y).alloc (ai _) (Q #["",I J 0,no,I J (x:Int),H U] 200);have S:=A (keep (keep o d) l);have X:=A (chain (chain z d) l);obtain⟨c0,c1,c2,c3,c4,cf⟩:=cells5 (keep (keep o d) l)
     clear d l o z;go_wp2_with fail;obtain⟨d0,d1,d2,d3,d4,df⟩:=cells5 (dl y (Q #["",I J 0,no,I J (x:Int),H U] 200));generalize y.alloc (Q #["",I J 0,no,I J (x:Int),H U] 200)=L at*
     go_still_tail 3,(by kernel_rfl)
     go_wp2;obtain⟨P,PB⟩:=aS (w:=L) (ao ⟨#[]⟩) (I J 0) (I J no) (I J (x:Int)) (H U) S.o X.o (ai _);have r:=A PB;obtain⟨r0,r1,r2,r3,r4,_⟩:=cells5 P;exact ev (v:=ba #["",I J 0,bh #["",I J 0,no,I J (x:Int),H U]]) (by simp[ew,ez,go_sem,r0,r1,r2,r3,r4]) rfl ⟨by rw[<-HX.o,<-HJ.o,fv];rfl,r.o.drew⟩
    | ok x=>
     obtain⟨k1,k2,l⟩:=pO K;obtain⟨u,m⟩:=x;rw[K]at g F;simp only at k1 k2 l g;rw[gP]at F;rw[gr,show p+1+(m-1)=p+m by omega]at g;obtain⟨q,hq⟩:∃q,p+m=q:=⟨_,rfl⟩;have q2:J.wrap ((p:Int)+(m:Int))=(q:Int):=by rw[cv];omega
     rw[hq]at g;have i1:=A g;have i2:=A (show h+(j+m)=q by have:=HJ.o;omega);have HL:=A (show f.length<=j/\u.length<=m/\p<q/\q<=s.size/\j<=p/\m<=s.size from⟨t,l,by omega,by omega,by have:=HJ.o;omega,by omega⟩);have L:=A b;have HB:=A z;have G7:=A o;clear n G N b t K C g hq k1 k2 l z o;go_wp2_with fail;refine(F.o _).mono ?_;rintro e y ⟨rfl,d⟩;have i7:=d.size;have i3:=A ((chain HB.o d).alloc (by omega) (Q #[ao ⟨u.toArray⟩,m,I J 0,I J 0,H U] 200));have C:=A ((L.o.A4 d).A6 (Q #[ao ⟨u.toArray⟩,m,I J 0,I J 0,H U] 200));have i4:=A (keep (keep G7.o d) ((bk y y).alloc (ai _) (Q #[ao ⟨u.toArray⟩,m,I J 0,I J 0,H U] 200)));clear d
     go_wp2_with (at_builtin;refine aE9 rfl _ _ rfl rfl C.o u (by rfl) ?_ ?_ ?_)
     .have d:=HL.o;omega
     ·(try simp);omega
     intro V2 w5 n d;have l:∀k,ee _=Y k->w.heap.size+1<=k/\k<wr.heap.size:=L.o.lt;have K:=(aj (λk=>ee _=Y k) _).D7 d λk e=>ac e
     have h9:=K.B7 (dl y _) (λe=>by have:=(l _ e).2;omega);have c9:=(cells5 h9).2.1;have h7:=A (K.B7 i4.o (λe=>by have:=(l _ e).1;omega));have i5:=A (i3.o.grown d (by simp;omega) (λk e=>by have:=(l k e).1;omega));have h5:=d.size;have i6:=A n;clear n d K l h9;go_wp2
     go_roundw
     case rel=>exact⟨f++u,j+m,q,by go_num,i2,HL.o.2.2.2.1,by have:=HL.o;simp;omega,i6.o,i1,h7.o,i5.o,by simp at h5;omega⟩
     case measure=>have:=HL.o;simp[eu];omega
  .have q1:¬(p:Int)<(s.size:Int):=by omega
   have g:=G.o;rw[cY B,cM]at g;subst g;obtain⟨c0,c1,c2,c3,c4,cf⟩:=cells5 o;have S:=A o;have X:=A z;clear G N b t o z;go_wp2;obtain⟨P,PB⟩:=aS (ao ⟨#[]⟩) (I J 0) (I J 0) (I J 0) (H O) S.o X.o (ai _);have r:=A PB;obtain⟨r0,r1,r2,r3,r4,_⟩:=cells5 P;exact ev (v:=ba #["",I J 0,bh #["",I J 0,I J 0,I J 0,H O]]) (by simp[ew,ez,go_sem,r0,r1,r2,r3,r4]) rfl ⟨rfl,r.o⟩
def fG(h:u.take (m+1)=(c::t).take (m+1)):∃a,u=c::a/\a.take m=t.take m:=by
 cases u with
 | nil=>simp at h
 | cons d a=>simp only[dm,im]at h;exact⟨a,by rw[h.1],h.2⟩
def uH(h:u.take n=l.take n)(a:m<=n):u.take m=l.take m:=by
 have:=congrArg (λx=>x.take m) h;simp only[fw]at this
 rwa[gu a]at this
def yB(h:u.take n=l.take n)(a:k+m<=n):(u.drop k).take m=(l.drop k).take m:=by
 have:=congrArg (λx=>x.drop k) (uH h a);simp only[List.drop_take,Nat.add_sub_cancel_left]at this;exact this
def lQ(a:Bool):∀(m n:Nat)(l u:Oo)(v:Nat),cX a m n l=ah v->u.take m=l.take m->cX a m n u=ah v
 | 0,n,l,u,v,h,_=>by cases l<;>(cases u<;>exact h)
 | m+1,n,[],u,v,h,_=>by simp[cX]at h
 | m+1,n,c::l,u,v,h,e=>by
  obtain⟨t,rfl,f⟩:=fG e;unfold cX at h⊢;cases d:hexOf c with
  | none=>rw[d]at h;simp at h
  | some x=>
   rw[d]at h;simp only at h⊢
   by_cases b:gV a (3-m) n x=O
   .rw[if_pos b]at h;cases h
   .rw[if_neg b]at h⊢;exact lQ a m _ l t v h f
def lR(f:Form):∀(m i:Nat)(l u:Oo)(k:Nat),cJ f m i l=ah k->k=i+m/\(u.take m=l.take m->cJ f m i u=ah k)
 | 0,i,l,u,k,h=>by cases l<;>(simp[cJ]at h;subst h;exact⟨rfl,λ_=>by cases u<;>rfl⟩)
 | m+1,i,[],u,k,h=>by simp[cJ]at h
 | m+1,i,c::l,u,k,h=>by
  unfold cJ at h
  by_cases a:f.B9 i c=O
  .rw[if_pos a]at h;refine⟨by have:=(lR f m (i+1) l l k h).1;omega,λb=>?_⟩;obtain⟨t,rfl,d⟩:=fG b;unfold cJ;rw[if_pos a];exact(lR f m (i+1) l t k h).2 d
  .rw[if_neg a]at h;cases h
def aDf(h:eC l=ah n)(d:u.take n=l.take n):eC u=ah n:=by
 cases l with
 | nil=>simp[eC]at h
 | cons c t=>
  unfold eC at h;simp only at h
  by_cases a:(aC c).a=0
  .rw[if_pos a]at h;cases h
  .rw[if_neg a]at h;have f:=(lR _ _ _ _ t _ h).1;obtain⟨m,rfl⟩:∃m,n=m+1:=⟨n-1,by omega⟩;obtain⟨b,rfl,e⟩:=fG d;unfold eC;simp only;rw[if_neg a];exact(lR _ _ _ _ b _ h).2 (by rw[show(aC c).a-1=m by omega];exact e)
def aFa{d c:Type}{f:d->Pc c}{p:Pc d}{b:c}(h:p.O2 k f=ah b):∃a,p=ah a/\f a=ah b:=by
 cases p with
 | cut=>cases h
 | bad no a=>cases h
 | ok a=>exact⟨a,rfl,h⟩
def aFb(h:qN n l=ah x):x.2=12/\(u.take 6=l.take 6->qN n u=ah x):=by
 cases l with
 | nil=>simp[qN]at h
 | cons c t=>
  unfold qN at h;simp only at h
  by_cases e:c=92
  .rw[if_pos e]at h;cases t with
   | nil=>simp at h
   | cons d v=>
    simp only at h
    by_cases b:d=117
    .rw[if_pos b]at h;obtain⟨m,i,a⟩:=aFa h;refine⟨by injection a with a;rw[<-a],λj=>?_⟩;obtain⟨o,rfl,g⟩:=fG j;obtain⟨f,rfl,k⟩:=fG g;unfold qN;simp only;rw[if_pos e,if_pos b,lQ O 4 0 v f m i k];exact a
    .rw[if_neg b]at h;cases h
  .rw[if_neg e]at h;cases h
def aFc(h:jG l=ah x):2<=x.2/\(u.take (x.2-1)=l.take (x.2-1)->jG u=ah x):=by
 cases l with
 | nil=>simp[jG]at h
 | cons c t=>
  unfold jG at h;simp only at h
  by_cases e:c=117
  .rw[if_pos e]at h;obtain⟨n,k,a⟩:=aFa h
   by_cases i:n<55296\/56319<n
   .rw[if_pos i]at a;injection a with a
    subst a;refine⟨by simp,λd=>?_⟩;obtain⟨f,rfl,g⟩:=fG (m:=4) d;unfold jG;simp only;rw[if_pos e,lQ U 4 0 t f n k g]
    show(if n<55296\/56319<n then _ else _)=_
    rw[if_pos i]
   .rw[if_neg i]at a;have o:=λv=>aFb (u:=v) a
    have p:=(o []).1;refine⟨by omega,λd=>?_⟩;rw[p]at d;obtain⟨f,rfl,g⟩:=fG (m:=10) d;unfold jG;simp only;rw[if_pos e,lQ U 4 0 t f n k (uH g (by decide))]
    show(if n<55296\/56319<n then _ else _)=_
    rw[if_neg i];exact(o _).2 (yB g (by decide))
  .rw[if_neg e]at h;cases j:cO c with
   | none=>rw[j]at h;cases h
   | some b=>
    rw[j]at h;injection h with h
    subst h;refine⟨by simp,λd=>?_⟩;obtain⟨f,rfl,-⟩:=fG (m:=0) d;unfold jG;simp only;rw[if_neg e,j]
def aBL(h:eX l=ah x)(b:u.take x.2=l.take x.2):eX u=ah x:=by
 have k:=(pO h).1;cases l with
 | nil=>simp[eX]at h
 | cons c t=>
  obtain⟨m,d⟩:∃m,x.2=m+1:=⟨x.2-1,by omega⟩;have a:=b;rw[d]at b;obtain⟨o,rfl,i⟩:=fG b;unfold eX at h⊢;simp only at h⊢
  by_cases f:c=92
  .rw[if_pos f]at h⊢;exact(aFc h).2 (by rw[d];exact i)
  .rw[if_neg f]at h⊢
   by_cases e:c.toNat<32
   .rw[if_pos e]at h;cases h
   .rw[if_neg e]at h⊢;obtain⟨n,j,g⟩:=aFa h;cases g;rw[aDf j a]
    show ah _=ah _
    rw[a]
def oM:∀(N:Nat){l u b:Oo}{i:Nat}{x:Oo×Nat},l.length<=N->cM b i l=ah x->i<x.2/\(u.take (x.2-i)=l.take (x.2-i)->cM b i u=ah x)
 | N,[],u,b,i,x,_,h=>by unfold cM at h;cases h
 | 0,c::t,u,b,i,x,n,h=>by simp at n
 | N+1,c::t,u,b,i,x,n,h=>by
  by_cases j:c=34
  .rw[cM,if_pos j]at h;cases h;refine⟨by simp,λg=>?_⟩;rw[show(b,i+1).2-i=0+1 by simp]at g;obtain⟨q,rfl,_⟩:=fG (m:=0) g;rw[cM,if_pos j]
  .rw[lD j]at h;cases f:eX (c::t)with
   | cut=>rw[f]at h;cases h
   | bad no a=>rw[f]at h;cases h
   | ok y=>
    rw[f]at h;simp only at h;have z:=pO f;have e:(t.drop (y.2-1)).length<=N:=by rw[dy];simp at n;omega
    have p:=λv=>oM N (u:=v) e h
    have w:=(p []).1;refine⟨by omega,λg=>?_⟩;obtain⟨k,s⟩:∃k,x.2-i=k+1:=⟨x.2-i-1,by omega⟩;have o:=aBL f (uH g (show y.2<=x.2-i by omega));have d:=g;rw[s]at d;obtain⟨q,rfl,r⟩:=fG d;rw[lD j,o];simp only;exact(p _).2 (yB r (by omega))
def stops:List UInt8->Bool
 | []=>O
 | c::_=>aI c||aY c
def uI{x:Oo}(h:stops x=O):bR x=U/\∀c t,x=c::t->c≠46/\c≠101/\c≠69:=by
 cases x with
 | nil=>exact⟨rfl,λc t e=>by cases e⟩
 | cons d t=>
  have a:d=32\/d=9\/d=10\/d=13\/d=123\/d=125\/d=91\/d=93\/d=58\/d=44:=by
   simpa[stops,aI,aY,or_assoc]using h
  refine⟨?_,λc u e=>?_⟩
  .show isD d=U
   rcases a with rfl|rfl|rfl|rfl|rfl|rfl|rfl|rfl|rfl|rfl<;>rfl
  .cases e;rcases a with rfl|rfl|rfl|rfl|rfl|rfl|rfl|rfl|rfl|rfl<;>decide
def uJ{r:Oo}(f:W≠ [])(a:∀d∈W,isD d=O)(e:bR r=U):bR (W++r)=O/\over (W++r)=W.length/\(W++r).drop (over (W++r))=r:=by
 have b:over (W++r)=W.length:=by unfold over;rw[(iL a e).1]
 refine⟨?_,b,by rw[b];exact gv⟩;cases W with
 | nil=>exact absurd rfl f
 | cons c t=>exact a c (by simp)
def aDg(n:Nat){q:Option mX}{x:Oo}(m:∀y,q=Y y->y.Ok)(o:stops x=O):jA n (eL q++x)=(n+(eL q).length,O):=by
 obtain⟨l,j⟩:=uI o;cases q with
 | none=>
  show jA n x=(n,O)
  cases x with
  | nil=>rfl
  | cons c t=>
   unfold jA;simp only;rw[if_neg (by have:=j c t rfl;simp[this.2.1,this.2.2])]
 | some y=>
  obtain⟨h,p,b,g⟩:=m y rfl;obtain⟨c,a,X⟩:=y;have f:=uJ b g l
  show jA n (c::((a++X)++x))=(n+(c::(a++X)).length,O)
  unfold jA;simp only;rw[if_pos h,eh]
  have k:iC (a++(X++x))=a.length:=by
   rcases p with e|e|e
   .simp only at e;subst e;cases X with
    | nil=>exact absurd rfl b
    | cons d X=>
     have i:isD d=O:=g d (by simp)
     show iC (d::(X++x))=0
     unfold iC;simp only;rw[if_neg];rintro(rfl|rfl)<;>exact absurd i (by decide)
   .simp only at e;subst e;rfl
   .simp only at e;subst e;rfl
  rw[k,gv,if_pos f.1,f.2.1];simp;omega
def yC(n:Nat){P:Option Oo}{p:Option mX}{x:Oo}(o:∀F,P=Y F->F≠ []/\∀d∈F,isD d=O)(a:∀y,p=Y y->y.Ok)(h:stops x=O):dP n (pL P++(eL p++x))=(n+(pL P).length+(eL p).length,O):=by
 obtain⟨k,j⟩:=uI h
 have m:bR (eL p++x)=U:=by
  cases p with
  | none=>exact k
  | some y=>show isD y.c=U;rcases(a y rfl).1 with e|e<;>rw[e]<;>rfl
 cases P with
 | none=>
  show dP n (eL p++x)=_
  have b:∀c t,eL p++x=c::t->c≠46:=by
   intro c t e;cases p with
   | none=>exact(j c t e).1
   | some y=>
    injection e with e _
    rw[<-e];rcases(a y rfl).1 with e|e<;>rw[e]<;>decide
  cases f:eL p++x with
  | nil=>
   have:=List.append_eq_nil_iff.1 f;rw[this.1];rfl
  | cons c t=>
   unfold dP;simp only;rw[if_neg (b c t f),<-f,aDg n a h];rfl
 | some F=>
  obtain⟨i,l⟩:=o F rfl;have g:=uJ i l m
  show dP n (46::(F++(eL p++x)))=(n+(46::F).length+(eL p).length,O)
  unfold dP;simp only;rw[if_pos trivial,if_pos g.1,g.2.2,g.2.1,aDg _ a h];simp;omega
def yD(n:Nat){l W:Oo}{P:Option Oo}{p:Option mX}{x:Oo}(h:aJv l W P p)(b:stops x=O):dQ n (l++x)=(n+l.length,O):=by
 obtain⟨j,g,d,m,f,a⟩:=h;subst j
 have k:bR (pL P++(eL p++x))=U:=by
  cases P with
  | none=>
   cases p with
   | none=>exact(uI b).1
   | some y=>show isD y.c=U;rcases(a y rfl).1 with e|e<;>rw[e]<;>rfl
  | some F=>rfl
 rw[eh,eh];rcases m with e|e
 .subst e
  show dQ n (48::(pL P++(eL p++x)))=_
  unfold dQ;simp only;rw[if_pos (by decide),if_pos trivial,yC _ f a b];simp;omega
 .have i:=uJ g d k;cases W with
  | nil=>exact absurd rfl g
  | cons c t=>
   show dQ n (c::(t++(pL P++(eL p++x))))=_
   unfold dQ;simp only;rw[if_pos (d c (by simp)),if_neg (λo=>e t (by rw[o]))];rw[show c::(t++(pL P++(eL p++x)))=(c::t)++(pL P++(eL p++x))from rfl,i.2.2,i.2.1,yC _ f a b];simp;omega
def aDh{neg:Bool}{P:Option Oo}{j:Option mX}{x:Oo}(h:aAN l neg W P j)(d:stops x=O):dB (l++x)=(l.length,O):=by
 obtain⟨u,rfl,h⟩:=h;cases neg with
 | true=>
  show dB (45::(u++x))=_
  unfold dB;simp only;rw[if_pos trivial,yD 1 h d];simp;omega
 | false=>
  show dB (u++x)=(u.length,O)
  have b:=yD 0 h d;rw[gw]at b;obtain⟨i,g,f,_⟩:=h;cases W with
  | nil=>exact absurd rfl g
  | cons c t=>
   have a:isD c=O:=f c (by simp);subst i;rw[<-b]
   show dB (c::(t++(pL P++eL j)++x))=dQ 0 (c::(t++(pL P++eL j)++x))
   unfold dB;simp only;rw[if_neg (λe=>by rw[e]at a;exact absurd a (by decide))]
def aFd{x:Oo}(h:dB l=(n,O))(b:n<=l.length)(c:stops x=O):dB (l.take n++x)=(n,O):=by
 obtain⟨_,neg,W,P,d,a⟩:=mY h;have:=aDh a c
 rwa[dj,gu b]at this
def aIe(w:E):ae D 344 #[bh #[]] w λe w'=>e=af (I J 1)/\ag w w w':=by
 go_enter func344,ntmps344;go_wp2;go_ret;exact⟨rfl,(bk _ _).alloc (ai _) _⟩
def aAo(w:E):ae D 127 #[bh #[ar 177 (bh #[])]] w λe w'=>e=af (Z V 0 0)/\ag w w w':=by
 have c:∀w:E,(bw (ar 177 (bh #[])) 97 181 O).run D w=bx (ba #[T V,H U]) w:=λ_=>by kernel_rfl
 have b:∀w:E,(bw (ar 177 (bh #[])) 97 187 O).run D w=bx (ba #[T V,H U]) w:=λ_=>by kernel_rfl
 have a:=A ((bk w w).alloc (ai _) (Q #[ar 177 (bh #[])] 99));go_enter dp,dq;go_wp2;go_ret;exact⟨rfl,a.o⟩
def aIf(w:E)(c:Bool):ae D 346 #[c] w λe w'=>e=af (I J 2)/\ag w w w':=by
 go_enter func346,ntmps346;go_wp2;go_ret;exact⟨rfl,bk _ _⟩
def aAp(w:E)(c:Bool):ae D 127 #[bh #[ar 178 (H c)]] w λe w'=>e=af (Z V 0 0)/\ag w w w':=by
 have d:∀w:E,(bw (ar 178 (H c)) 97 181 O).run D w=bx (ba #[T V,H U]) w:=λ_=>by kernel_rfl
 have b:∀w:E,(bw (ar 178 (H c)) 97 187 O).run D w=bx (ba #[T V,H U]) w:=λ_=>by kernel_rfl
 have a:=A ((bk w w).alloc (ai _) (Q #[ar 178 (H c)] 99));go_enter dp,dq;go_wp2;go_ret;exact⟨rfl,a.o⟩
def aKp(w:E)(x:Nat):ae D 348 #[ei ej x] w λe w'=>e=af (I J 3)/\ag w w w':=by
 go_enter func348,ntmps348;go_wp2;go_ret;exact⟨rfl,bk _ _⟩
def aBX(w:E)(x:Nat):ae D 127 #[bh #[ar 179 (ei ej x)]] w λe w'=>e=af (Z V 0 0)/\ag w w w':=by
 have c:∀w:E,(bw (ar 179 (ei ej x)) 97 181 O).run D w=bx (ba #[T V,H U]) w:=λ_=>by kernel_rfl
 have b:∀w:E,(bw (ar 179 (ei ej x)) 97 187 O).run D w=bx (ba #[T V,H U]) w:=λ_=>by kernel_rfl
 have a:=A ((bk w w).alloc (ai _) (Q #[ar 179 (ei ej x)] 99));go_enter dp,dq;go_wp2;go_ret;exact⟨rfl,a.o⟩
def aIg(w:E)(s:ByteArray):ae D 350 #[s] w λe w'=>e=af (I J 4)/\ag w w w':=by
 go_enter func350,ntmps350;go_wp2;go_ret;exact⟨rfl,bk _ _⟩
def aAq(w:E)(s:ByteArray):ae D 127 #[bh #[ar 180 (ao s)]] w λe w'=>e=af (Z V 0 0)/\ag w w w':=by
 have c:∀w:E,(bw (ar 180 (ao s)) 97 181 O).run D w=bx (ba #[T V,H U]) w:=λ_=>by kernel_rfl
 have b:∀w:E,(bw (ar 180 (ao s)) 97 187 O).run D w=bx (ba #[T V,H U]) w:=λ_=>by kernel_rfl
 have a:=A ((bk w w).alloc (ai _) (Q #[ar 180 (ao s)] 99));go_enter dp,dq;go_wp2;go_ret;exact⟨rfl,a.o⟩
def aIh(w:E)(b:Nat):ae D 352 #[T b] w λe w'=>e=af (I J 5)/\ag w w w':=by
 go_enter func352,ntmps352;go_wp2;go_ret;exact⟨rfl,bk _ _⟩
def aAr(w:E)(b:Nat)(a:Option di)(n c:Nat)(k i f:ak)(h:w.heap[b]?=Y (Q #[k,i,f,Z a n c] 186 (0,0))):ae D 127 #[bh #[ar 181 (T b)]] w λe w'=>e=af (Z a n c)/\ag w w w':=by
 have j:∀w:E,(bw (ar 181 (T b)) 97 181 O).run D w=bx (ba #[T b,H O]) w:=λ_=>by kernel_rfl
 have d:=(bk w w).alloc (ai _) (Q #[ar 181 (T b)] 99);have l:(w.alloc (Q #[ar 181 (T b)] 99)).cell? ⟨b,3,V⟩=Y (Z a n c):=aA (keep h d);have g:=A d;clear h d;go_enter dp,dq;go_wp2;go_ret;exact⟨rfl,g.o⟩
def aDH(w:E)(b:Nat):ae D 353 #[T b] w λe w'=>e=af (I J 6)/\ag w w w':=by
 go_enter func353,ntmps353;go_wp2;go_ret;exact⟨rfl,bk _ _⟩
def wD(w:E)(b:Nat)(a:Option di)(n c:Nat)(f:Option di)(i p:Nat)(o l j:ak)(h:w.heap[b]?=Y (Q #[o,l,j,Z f i p,Z a n c] 189 (0,0))):ae D 127 #[bh #[ar 187 (T b)]] w λe w'=>e=af (Z a n c)/\ag w w w':=by
 have g:∀w:E,(bw (ar 187 (T b)) 97 181 O).run D w=bx (ba #[T V,H U]) w:=λ_=>by kernel_rfl
 have m:∀w:E,(bw (ar 187 (T b)) 97 187 O).run D w=bx (ba #[T b,H O]) w:=λ_=>by kernel_rfl
 have d:=(bk w w).alloc (ai _) (Q #[ar 187 (T b)] 99);have q:(w.alloc (Q #[ar 187 (T b)] 99)).cell? ⟨b,4,V⟩=Y (Z a n c):=aA (keep h d);have k:=A d;clear h d;go_enter dp,dq;go_wp2;go_ret;exact⟨rfl,k.o⟩

structure Bnd(r:Rr)(d:Nat):Prop where
 h:d<=512
 e:r.e.length<=512
 g:r.g<=65536
 bytes:r.bytes<=2097152
 b:∀f∈r.e,f.b.length<=65536
def oG(w:E)(j:Nat)(s:ByteArray)(d i c:Nat)(r:Rr)(h:aU w j s d i r c)(z:Bnd r d)(l:Int)(u:Bool)(o:Nat)(v:ByteArray)(a:Option di)(n m:Nat)(b:Option di)(p q:Nat)(t:Tr)(y:ValAt (λk=>c<=k) w (eQ l u o v (Z a n m) (Z b p q)) t):
 ae D 144 #[T j,aJt l u o v (Z a n m) (Z b p q)] w λe w'=>xM w j s d i (r.C9 t) e w':=by
 rcases List.eq_nil_or_concat r.e with g|⟨x,f,g⟩
 .exact aJu w j s d i c r h l u o v a n m b p q t y g
 .rw[List.concat_eq_append]at g;have B:=z.e;rw[g,go,List.length_singleton]at B;exact aHr w j s d i c r x f h l u o v a n m b p q t y g (by omega) (z.b f (by rw[g];simp))
def qC(w:E)(c:Nat)(s:ByteArray)(d i:Nat)(R:Ra)(e:fa)(w':E):Prop:=ag c w w'/\match R with
 | .on n r=>e=af (H O)/\∃b,aU w' c s d (i+n) r b
 | .cut=>e=af (H U)/\∃r b,aU w' c s d i r b
 | .bad no a=>e=af (H O)/\qB w' c no ((i+a:Nat):Int)
def Bnd.S6{r:Rr}(h:Bnd r d)(a:r.g<65536):Bnd {r with g:=r.g+1} d:=⟨h.h,h.e,a,h.bytes,h.b⟩
def Keeps.R2{w1:E}(h:Keeps F w w1)(n:Nat):Keeps F w (w1.drewN n):=h.L4 rfl rfl rfl rfl
def aBC{r a:Rr}(b:Bnd r d)(h:r.B9 d=bp a):Bnd a d:=by
 unfold fz at h;split at h
 .cases h
 .split at h
  .cases h
  .split at h
   .cases h
   .injection h with h;subst h;exact b.S6 (by omega)
def aU.B4{r:Rr}(h:aU w b s d i r a)(j:Nat)(z:Int)(n:z=j):aU (w.setCell ⟨b,2,V⟩ (I J z)) b s d j r a:=by
 subst n;obtain⟨P,c,l,q,p,v,a1,u,t,a2,m,g,f,e⟩:=h;exact⟨P,c,l,q,p,v,a1,u,t,a2,m,g,aB (o:=2) f _,e.N9 f ((aj (λk=>k=b) w).own _ _)⟩
def aU.cells{c:Nat}{r:Rr}(h:aU w a s d i r c):w.cell? a=Y (ao s)/\w.cell? ⟨a,2,V⟩=Y (I J i)/\∀o,w.frozen? ⟨a,o,V⟩=U:=by
 obtain⟨P,e,g,l,k,p,a1,n,m,a2,j,f,b,-⟩:=h;exact⟨aA b,aA b,free_at b⟩
def sI{p:Nat}(b:k<W.length)(a:p<s.size):alike (W.drop k) (s.data.toList.drop p)=if W[k]=s[p]then alike (W.drop (k+1)) (s.data.toList.drop (p+1))+1 else 0:=by
 rw[ga b,bA a];rfl
def pI{p:Nat}(h:¬(k<W.length/\p<s.size)):alike (W.drop k) (s.data.toList.drop p)=0:=by
 by_cases a:k<W.length
 .rw[cY (i:=p) (by omega)];cases W.drop k<;>rfl
 .rw[fc (by omega)];rfl
def tX(w:E)(h:Nat)(s:ByteArray)(d i o:Nat)(r:Rr)(L:aU w h s d i r o)(c:Bnd r d)(a:ByteArray)(j:a=⟨#[110,117,108,108]⟩\/a=⟨#[116,114,117,101]⟩\/a=⟨#[102,97,108,115,101]⟩)(hi:i<=s.size)(hs:s.size<=16777216):
 ae D 107 #[T h,a] w λe w'=>qC w h s d i (r.P4 d a.data.toList (s.data.toList.drop i)) e w':=by
 have f:=A (sH w h s d i o r L (by omega) c.h c.e c.g);have b:h<w.heap.size:=by obtain⟨P,g7,S,fl,bi,tx,a1,n1,m1,a2,n2,m2,hb,-⟩:=L;exact ek hb
 have g:r.P4 d a.data.toList (s.data.toList.drop i)=match r.B9 d with
  | .error no=>aw no 0
  | .ok r=>if alike a.data.toList (s.data.toList.drop i)<a.data.toList.length/\alike a.data.toList (s.data.toList.drop i)<(s.data.toList.drop i).length then aw 120 (alike a.data.toList (s.data.toList.drop i))else if alike a.data.toList (s.data.toList.drop i)<a.data.toList.length then dt else au (alike a.data.toList (s.data.toList.drop i)) (r.C9 (jE a.data.toList)):=by
  unfold gc em;cases r.B9 d<;>rfl
 rw[g];have q:=A b;have HW:=A j;have h0:a.size<=5:=by rcases j with rfl|rfl|rfl<;>decide
 clear g j;cases g:r.B9 d with
 | error no=>
  rw[g]at f;clear L g b;go_enter func107,ntmps107;go_wp2_with fail;refine f.o.mono ?_;rintro e w1 ⟨F,rfl,m⟩;have l:=A (And.intro F m);clear F m;go_wp2;go_ret;exact⟨l.o.1.C6 (av q.o) λk e=>by omega,rfl,l.o.2⟩
 | ok r2=>
  have j:=aBC c g;rw[g]at f;obtain⟨N,y⟩:∃N,alike a.data.toList (s.data.toList.drop i)=N:=⟨_,rfl⟩;have HA:=A (show 0+alike (a.data.toList.drop 0) (s.data.toList.drop (i+0))=N by simpa using y);have u:a.data.toList.length=a.size:=by simp
  have x:(s.data.toList.drop i).length=s.size-i:=by simp
  simp only[y,u,x];obtain⟨R,B⟩:∃R,(if N<a.size/\N<s.size-i then aw 120 N else if N<a.size then dt else au N (r2.C9 (jE a.data.toList)))=R:=⟨_,rfl⟩;rw[B];have g8:=A j;clear L g b y u x c j;go_enter func107,ntmps107;go_wp2_with fail;refine f.o.mono ?_;rintro e w1 ⟨F,rfl,b⟩;have G:=A (F.C6 (av q.o) λk e=>by omega);have x:=A b;clear F b f;go_wp2
  go_loopw [5] (λv wr=>∃k:Nat,v=I J k/\k<=a.size/\i+k<=s.size/\M (k+alike (a.data.toList.drop k) (s.data.toList.drop (i+k))=N)/\Keeps (λ_=>False) w1 wr) (λv _=>a.size-(eu v).toNat)
  case atStart=>exact⟨0,rfl,gp _,hi,HA,aj _ _⟩
  case round=>
   obtain⟨k,rfl,F,hp,u,g⟩:=hrel;obtain⟨p,b⟩:∃p,i+k=p:=⟨_,rfl⟩;obtain⟨c0,c2,cf⟩:=(x.o.C3 g).cells;have j:=A g;have q1:J.wrap ((i:Int)+(k:Int))=(p:Int):=by rw[cv];omega
   have c:=u.o;rw[b]at c hp
   by_cases C:k<a.size
   .have e1:(k:Int)<(a.size:Int):=by omega
    by_cases h2:p<s.size
    .have e2:(p:Int)<(s.size:Int):=by omega
     by_cases y:a[k]=s[p]
     .have e3:(((s[p].toNat:Nat):Int)==((a[k].toNat:Nat):Int))=O:=by rw[y];simp
      rw[sI (by simpa using C) h2,if_pos (by rw[gx];exact y)]at c;have K:=A (show(k+1)+alike (a.data.toList.drop (k+1)) (s.data.toList.drop (i+(k+1)))=N by rw[<-c,<-b];rw[show i+(k+1)=i+k+1 by omega];omega);have q2:J.wrap ((k:Int)+1)=(k:Int)+1:=by rw[cv];omega
      have f:=A (show k+1<=a.size/\i+(k+1)<=s.size from⟨by omega,by omega⟩);clear y c g b u;go_wp2
      go_quiet (fail)
      go_wp2
      go_roundw
      case rel=>exact⟨k+1,by go_num,f.o.1,f.o.2,K,j.o.L4 rfl rfl rfl rfl⟩
      case measure=>have:=f.o;simp[eu];omega
     .have e3:(((s[p].toNat:Nat):Int)==((a[k].toNat:Nat):Int))=U:=by
       have:¬s[p].toNat=a[k].toNat:=λe=>y (gq e.symm)
       simp;omega
      rw[sI (by simpa using C) h2,if_neg (by rw[gx];exact y),gd]at c;subst c;rw[if_pos ⟨C,by omega⟩]at B;subst B;have f:=A b;clear y g b u;go_wp2
      go_quiet (fail)
      go_wp2
      go_quiet (fail)
      go_wp2_with fail
      have g9:=A (λn=>show ae D 76 #[T h,I J 120,I J p,I J p] (wr.drewN n) (λe w'=>e=af (ba #[])/\Keeps (λk=>k=h) (wr.drewN n) w'/\qB w' h 120 p/\w'.cell? ⟨h,2,V⟩=Y (I J i))from by
       obtain⟨P,g7,S,fl,bi,tx,a1,n1,m1,a2,n2,m2,hb,-⟩:=x.o.C3 (j.o.R2 n);exact(sG (wr.drewN n) h 120 p p _ _ _ _ _ _ _ _ _ _ _ _ _ hb).mono λe w' ⟨C,h2,y⟩=>⟨C,h2,⟨_,_,_,_,_,_,_,_,_,_,_,_,_,_,_,_,_,p,by omega,y⟩,(dF y).1.2.2.1⟩)
      go_region_held3 (λw'=>w'.cell? ⟨h,2,V⟩=Y (I J i)) (first|with_reducible exact hS|go_keep) ((go_at_call 76;(refine(g9.o _).mono ?_);rintro e w2 ⟨rfl,K,m,hS⟩))
      all_goals
       have l:=A (And.intro K m);clear K m;go_wp2;go_ret;exact⟨G.o.trans ((((j.o.R2 _).mono λ_ L=>L.elim).same l.o.1).C6 (av (cg q.o G.o.size)) λk e=>by omega),rfl,by rw[f.o];exact l.o.2⟩
    .have e2:¬(p:Int)<(s.size:Int):=by omega
     rw[pI (by omega),gd]at c;subst c;rw[if_neg (by omega),if_pos C]at B;subst B;clear g b u;go_wp2
     go_quiet (fail)
     go_wp2
     go_quiet (fail)
     go_wp2;go_ret;exact⟨G.o.trans ((j.o.R2 _).C6 (av (cg q.o G.o.size)) λk e=>e.elim),rfl,r2,o,x.o.C3 (j.o.R2 _)⟩
   .have e1:¬(k:Int)<(a.size:Int):=by omega
    rw[pI (by simp;omega),gd]at c;subst c;rw[if_neg (by omega),if_neg C]at B;subst B;have y:k=a.size:=by omega
    have f:=A (And.intro b y);clear g b u
    have u:=A (λ(z:Int)(hz:z=(p:Int))(X:E)(K:Keeps (λ_=>False) (wr.setCell ⟨h,2,V⟩ (I J z)) X)(S:Int)(fl:Bool)(t:Tr)(hv:∀W,ValAt (λk=>o<=k) W (eQ S fl 0 ⟨#[]⟩ (Z V 0 0) (Z V 0 0)) t)=>
     show _/\ag h w X from⟨oG X h s d p o r2 (((x.o.C3 j.o).B4 p z hz).C3 K) g8.o S fl 0 ⟨#[]⟩ V 0 0 V 0 0 t (hv X),G.o.trans (((((j.o.mono λ_ L=>L.elim:Keeps (λk=>k=h) w1 wr)).own 2 (I J z)).trans K λ_ L=>L.elim).C6 (av (cg q.o G.o.size)) λk e=>by omega)⟩)
    rcases HW.o with rfl|rfl|rfl
    .go_wp2
     go_quiet (fail)
     go_wp2
     go_quiet (fail)
     go_wp2_with fail;refine(u.o ((i:Int)+4) (by have:=f.o;rw[<-this.1,this.2];rfl) _ (by exact(du (aj _ (wr.setCell _ _)) _).L4 rfl rfl rfl rfl) 1 U .null (λ_=>.null)).1.mono ?_;rintro e w5 ⟨rfl,g,b⟩;have l:=A (And.intro g b);clear g b;go_wp2;go_ret;exact⟨(u.o ((i:Int)+4) (by have:=f.o;rw[<-this.1,this.2];rfl) _ (by exact(du (aj _ (wr.setCell _ _)) _).L4 rfl rfl rfl rfl) 1 U .null (λ_=>.null)).2.trans l.o.1,rfl,by have m:=f.o.1;rw[f.o.2]at m;have m:i+4=p:=m;rw[m];exact l.o.2⟩
    .go_wp2
     go_quiet (fail)
     go_wp2
     go_quiet (fail)
     go_wp2_with fail;refine(u.o ((i:Int)+4) (by have:=f.o;rw[<-this.1,this.2];rfl) _ (by exact(du (aj _ (wr.setCell _ _)) _).L4 rfl rfl rfl rfl) 2 O (fe O) (λ_=>(fg O))).1.mono ?_;rintro e w5 ⟨rfl,g,b⟩;have l:=A (And.intro g b);clear g b;go_wp2;go_ret;exact⟨(u.o ((i:Int)+4) (by have:=f.o;rw[<-this.1,this.2];rfl) _ (by exact(du (aj _ (wr.setCell _ _)) _).L4 rfl rfl rfl rfl) 2 O (fe O) (λ_=>(fg O))).2.trans l.o.1,rfl,by have m:=f.o.1;rw[f.o.2]at m;have m:i+4=p:=m;rw[m];exact l.o.2⟩
    .go_wp2
     go_quiet (fail)
     go_wp2
     go_quiet (fail)
     go_wp2_with fail;refine(u.o ((i:Int)+5) (by have:=f.o;rw[<-this.1,this.2];rfl) _ (by exact(du (aj _ (wr.setCell _ _)) _).L4 rfl rfl rfl rfl) 2 U (fe U) (λ_=>(fg U))).1.mono ?_;rintro e w5 ⟨rfl,g,b⟩;have l:=A (And.intro g b);clear g b;go_wp2;go_ret;exact⟨(u.o ((i:Int)+5) (by have:=f.o;rw[<-this.1,this.2];rfl) _ (by exact(du (aj _ (wr.setCell _ _)) _).L4 rfl rfl rfl rfl) 2 U (fe U) (λ_=>(fg U))).2.trans l.o.1,rfl,by have m:=f.o.1;rw[f.o.2]at m;have m:i+5=p:=m;rw[m];exact l.o.2⟩
def sU:∀(N:Nat){l b:Oo}{j:Nat}{x:Oo×Nat},l.length<=N->cM b j l=ah x->x.1.length<=b.length+l.length/\j<=x.2/\x.2<=j+l.length
 | _,[],_,_,_,_,h=>by rw[cM]at h;cases h
 | 0,_::_,_,_,_,e,_=>by simp at e
 | N+1,c::t,b,j,x,e,h=>by
  by_cases f:c=34
  .rw[cM,if_pos f]at h;injection h with h
   subst h;simp
  .rw[lD f]at h;cases d:eX (c::t)with
   | cut=>rw[d]at h;cases h
   | bad no a=>rw[d]at h;cases h
   | ok y=>
    rw[d]at h;simp only at h;obtain⟨m,k,o⟩:=pO d;simp at e k;obtain⟨g,n,i⟩:=sU N (by simp;omega) h;simp at g i⊢;omega
def aHF{a:E}{o:Obj}(h:ag (w.alloc o).drew.heap.size (w.alloc o).drew a):a.heap[w.heap.size]?=Y o/\ag w w a:=
 have h:=fA h
 ⟨keep (dl w o) h,((bk w w).alloc (ai _) o).trans (h.mono (by simp))⟩
def aDi{args:Array ak}{c:ak}(h:∀W,ae D 88 args W λe w'=>e=af c/\ag W.heap.size W w')(w1:E):M ((ae D 88 args w1.drew λe w'=>e=af c/\ag w1 w1 w')/\
 (ae D 88 args (w1.alloc (Q #["",I J 0,I J 0,I J 0,H U] 200)).drew λe w'=>e=af c/\w'.heap[w1.heap.size]?=Y (Q #["",I J 0,I J 0,I J 0,H U] 200 (0,0))/\ag w1 w1 w')):=
 A ⟨(h _).mono λe w' ⟨b,a⟩=>⟨b,sT a⟩,(h _).mono λe w' ⟨b,a⟩=>⟨b,aHF a⟩⟩
def oN:∀(N:Nat){l b:Oo}{j no a:Nat},l.length<=N->cM b j l=dx no a->no≠0
 | _,[],_,_,_,_,_,h=>by rw[cM]at h;cases h
 | 0,_::_,_,_,_,_,e,_=>by simp at e
 | N+1,c::t,b,j,no,a,e,h=>by
  by_cases f:c=34
  .rw[cM,if_pos f]at h;cases h
  .rw[lD f]at h;cases d:eX (c::t)with
   | cut=>rw[d]at h;cases h
   | bad g a2=>
    rw[d]at h;injection h with i h2
    rw[<-i];exact aAY d
   | ok y=>
    rw[d]at h;simp at e;exact oN N (by simp;omega) h
def aJY:Pc (List UInt8×Nat)->Prop
 | .bad no _=>no≠0
 | _=>True
def jS(r:Rr)(p:Pc (List UInt8×Nat)):Ra:=match p with
 | .cut=>dt
 | .bad no a=>aw no a
 | .ok (s,n)=>
  if r.K6=O/\s∈r.L9 then aw 101 0
  else if 2097152<r.bytes+s.length then aw 3 0
  else if r.K6 then au n (Rr.O3 {r with bytes:=r.bytes+s.length} s)else au n (fh {r with bytes:=r.bytes+s.length} (.text s))
def sV{r:Rr}{s:Oo}(b:¬(r.K6=O/\s∈r.L9))(a:2097152<r.bytes+s.length):jS r (ah (s,n))=aw 3 0:=by
 show(if r.K6=O/\s∈r.L9 then aw 101 0 else if 2097152<r.bytes+s.length then aw 3 0 else _)=_
 rw[if_neg b,if_pos a]
def aAg{r:Rr}{s:Oo}(b:r.K6=O)(a:s∈r.L9):jS r (ah (s,n))=aw 101 0:=by
 show(if r.K6=O/\s∈r.L9 then aw 101 0 else _)=_
 rw[if_pos ⟨b,a⟩]
def aDj{r:Rr}{s:Oo}(a:r.K6=U)(b:¬2097152<r.bytes+s.length):jS r (ah (s,n))=au n (fh {r with bytes:=r.bytes+s.length} (.text s)):=by
 show(if r.K6=O/\s∈r.L9 then aw 101 0 else if 2097152<r.bytes+s.length then aw 3 0 else if r.K6 then au n _ else au n _)=_
 rw[if_neg (by rw[a];simp),if_neg b,a,if_neg (by simp)]
def aDk{r:Rr}{s:Oo}(b:r.K6=O)(c:s∉r.L9)(a:¬2097152<r.bytes+s.length):jS r (ah (s,n))=au n (Rr.O3 {r with bytes:=r.bytes+s.length} s):=by
 show(if r.K6=O/\s∈r.L9 then aw 101 0 else if 2097152<r.bytes+s.length then aw 3 0 else if r.K6 then au n _ else au n _)=_
 rw[if_neg (λh=>c h.2),if_neg a,if_pos b]
def aU.S8{c:Nat}{r:Rr}(h:aU w c s d i r b)(f:Nat)(z:Int)(n:z=f):aU (w.setCell ⟨c,6,V⟩ (I J z)) c s d i {r with bytes:=f} b:=by
 subst n;obtain⟨P,e,l,q,p,v,a1,u,t,a2,m,j,g,a⟩:=h;have a:=a.N9 g ((aj (λk=>k=c) w).own 6 (I J f));exact⟨P,e,l,q,p,v,a1,u,t,a2,m,j,aB (o:=6) g _,a.le,a.a,a.b,a.e,a.done⟩
def vG(i:Nat)(R:Pc (Oo×Nat)):∃(S:ByteArray)(d b c:Int)(C:Bool),aDe i R=ba #[S,d,bh #["",I J 0,b,c,C]]/\match R with
 | .cut=>C=O
 | .bad no a=>C=U/\b=(no:Int)/\c=((i+a:Nat):Int)
 | .ok x=>C=U/\b=0/\S=⟨x.1.toArray⟩/\d=((i+x.2:Nat):Int):=by
 cases R with
 | cut=>exact⟨_,_,_,_,_,rfl,rfl⟩
 | bad no a=>exact⟨_,_,_,_,_,rfl,rfl,rfl,rfl⟩
 | ok x=>exact⟨_,_,_,_,_,rfl,rfl,rfl,rfl,rfl⟩
def aHG(w:E)(f:Nat)(s:ByteArray)(d i h:Nat)(r:Rr)(K:aU w f s d i r h)(o:Bnd r d)(l:r.K6=U)(hi:i<s.size)(hs:s.size<=16777216):
 ae D 106 #[T f] w λe w'=>qC w f s d i (r.J0 d (s.data.toList.drop (i+1))) e w':=by
 have z:=A (sH w f s d i h r K (by omega) o.h o.e o.g);have m:f<w.heap.size:=by obtain⟨P,N,so,fl,bi,tx,a1,n1,m1,a2,n2,m2,L,-⟩:=K;exact ek L
 have h9:w.cell? ⟨f,3,V⟩=Y (I J r.a):=by obtain⟨P,N,so,fl,bi,tx,a1,n1,m1,a2,n2,m2,L,-⟩:=K;exact aA L
 have c:r.J0 d (s.data.toList.drop (i+1))=match r.B9 d with
  | .error no=>aw no 0
  | .ok r=>r.L3 (s.data.toList.drop (i+1)):=by
  unfold fi em;rw[l];cases r.B9 d<;>rfl
 rw[c];have u:=A m;have v:=A (λW=>uG W s i hi (by omega));have X:=A (λx(hx:cM [] 1 (s.data.toList.drop (i+1))=ah x)=>sU _ (ai _) hx);have k2:((r.a:Int)==2)=U:=by unfold ge at l;simp at l⊢;omega
 have k3:((r.a:Int)==3)=U:=by unfold ge at l;simp at l⊢;omega
 clear c;cases g:r.B9 d with
 | error no=>
  rw[g]at z;clear K g m l o;go_enter func106,ntmps106;go_wp2_with fail;refine z.o.mono ?_;rintro e w1 ⟨l,rfl,c⟩;have p:=A (And.intro l c);clear l c;go_wp2;go_ret;exact⟨p.o.1.C6 (av u.o) λk e=>by omega,rfl,p.o.2⟩
 | ok t=>
  have F:=aBC o g
  have G:t.K6=U:=by
   unfold fz at g;split at g
   .cases g
   .split at g
    .cases g
    .split at g
     .cases g
     .injection g with g;subst g;exact l
  rw[g]at z;simp only;rw[show t.L3 (s.data.toList.drop (i+1))=jS t (cM [] 1 (s.data.toList.drop (i+1)))from rfl];obtain⟨R,q⟩:∃R,cM [] 1 (s.data.toList.drop (i+1))=R:=⟨_,rfl⟩;rw[q]at v X⊢;have j:=A (And.intro F G);clear K g m o F G l;go_enter func106,ntmps106;go_wp2_with fail;refine z.o.mono ?_;rintro e w1 ⟨l,rfl,g⟩;have HK:=A (l.C6 (av u.o) λk e=>by omega);have h3:=A g;obtain⟨c0,c2,-⟩:=g.cells;clear l g z;have z:=A (cg u.o HK.o.size);go_wp2_with fail
  have h4:=A (show aJY R from by
   cases g:R with
   | cut=>trivial
   | bad no a=>exact oN _ (ai _) (q.trans g)
   | ok x=>trivial)
  clear q;obtain⟨S,a3,No,a0,C,g,q⟩:=vG i R;rw[g]at v;have HR:=A q;clear g q;have F:=aDi (v.o) w1
  have h1:¬w1.heap.size=f:=by have:=z.o;omega
  go_region_held3 (λw'=>w'.cell? f=Y (ao s)/\w'.cell? ⟨f,2,V⟩=Y (I J i)) (first|with_reducible exact G|go_keep) (first
   | (go_at_call 88;(with_reducible refine F.o.1.mono ?_);rintro e w4 ⟨rfl,g⟩;have G:=And.intro (bE g c0) (bE g c2))
   | (go_at_call 88;(with_reducible refine F.o.2.mono ?_);rintro e w4 ⟨rfl,K,g⟩;have G:=And.intro (bE g c0) (bE g c2);obtain⟨g0,g1,g2,g3,g4,gf⟩:=cells5 K))
  all_goals
   first
    | (have l := dl w4 (Q #["", I J 0,No,a0,C] 200)
       have m:=g.alloc g.size (Q #["",I J 0,No,a0,C] 200);have q:=g.size;obtain⟨W,hW⟩:∃W,w4.alloc (Q #["",I J 0,No,a0,C] 200)=W:=⟨_,rfl⟩;rw[hW]at l m⊢;obtain⟨B,o⟩:∃B,w4.heap.size=B:=⟨_,rfl⟩;rw[o]at l q⊢)
    | (obtain ⟨l, m⟩ := aS (ao ⟨#[]⟩) (I J 0) (I J No) (I J a0) (H C) K g (ai _)
       have q:=ai w1.heap.size;obtain⟨W,hW⟩:∃W,((((w4.setCell w1 (ao ⟨#[]⟩)).setCell ⟨w1.heap.size,1,V⟩ (I J 0)).setCell ⟨w1.heap.size,2,V⟩ (I J No)).setCell ⟨w1.heap.size,3,V⟩ (I J a0)).setCell ⟨w1.heap.size,4,V⟩ (H C)=W:=⟨_,rfl⟩;rw[hW]at l m⊢;obtain⟨B,o⟩:∃B,w1.heap.size=B:=⟨_,rfl⟩;have g:=q;rw[o]at l⊢;rw[o]at g;replace q:w1.heap.size<=B:=by rw[o];exact ai _
       clear g0 g1 g2 g3 g4 gf g K)
   obtain⟨-,-,x2,x3,x4,-⟩:=cells5 l;have g:=A (show ag f w W/\aU W f s d i t h/\f<W.heap.size from⟨HK.o.trans (m.mono (av z.o)),h3.o.C3 (cr _ m),cg z.o m.size⟩)
   clear l m q c0 c2 G h1 F;cases R with
   | cut=>
    obtain rfl:=HR.o;go_wp2;go_ret;exact⟨g.o.1,rfl,t,h,g.o.2.1⟩
   | bad no a=>
    obtain⟨rfl,rfl,rfl⟩:=HR.o;have c:no≠0:=h4.o;have l:(((no:Nat):Int)!=0)=O:=by simp;omega
    clear c;go_wp2_with fail;refine(eP W f s d i h t g.o.2.1 (by omega) no ((i+a:Nat):Int) ((i+a:Nat):Int)).mono ?_;rintro e w5 ⟨rfl,m,c⟩;have p:=A (And.intro m c);clear m c;go_wp2;go_ret;exact⟨g.o.1.trans (p.o.1.C6 (av g.o.2.2) λk e=>by omega),rfl,p.o.2⟩
   | ok x=>
    obtain⟨K,n⟩:=x;obtain⟨rfl,rfl,G,hT⟩:=HR.o;obtain⟨o1,o2,o3⟩:=X.o _ rfl;simp only[dy,Array.length_toList,io,gm,gw]at o1 o2 o3 hT;obtain⟨y,hy⟩:∃y,i+n=y:=⟨_,rfl⟩;obtain⟨l,q⟩:∃l,t.bytes+K.length=l:=⟨_,rfl⟩;have h5:=j.o.1.bytes;have h6:S.size=K.length:=by rw[G];show K.toArray.size=K.length;simp
    rw[hy]at hT;subst hT;have i0:J.wrap ((t.bytes:Int)+(S.size:Int))=(l:Int):=by rw[cv];omega
    have i1:J.wrap ((y:Int)-1)=(y:Int)-1:=by rw[cv];omega
    have h7:=g.o.2.1;obtain⟨P,N,so,fl,bi,tx,a1,n1,m1,a2,n2,m2,L,h1⟩:=h7;obtain⟨pa,pc,rfl⟩:=h1.a.A7;obtain⟨⟨-,-,q2,-,q4,-,q6,-⟩,_,qf⟩:=dF L;have h8:=A (λ(a b:Int)=>g.o.1.trans ((((aj (λk=>k=f) W).own 6 (I J a)).own 2 (I J b)).C6 (av g.o.2.2) λk e=>by omega));have h2:=A (λ(a:Int)=>g.o.1.trans (((aj (λk=>k=f) W).own 6 (I J a)).C6 (av g.o.2.2) λk e=>by omega));have F:=A (And.intro G (And.intro hy q));clear L h1 G hy h5 h6 o1 q
    by_cases G:2097152<l
    .have L:(2097152:Int)<(l:Int):=by omega
     go_wp2_with fail;refine(eP (W.setCell ⟨f,6,V⟩ (I J l)) f s d i h _ (g.o.2.1.S8 l _ rfl) (by omega) 3 i ((y:Int)-1)).mono ?_;rintro e w5 ⟨rfl,m,c⟩;have p:=A (And.intro m c);clear m c;go_wp2;go_ret;rw[sV (by rw[j.o.2];simp) (by have:=F.o.2.2;omega)];exact⟨(h2.o l).trans (p.o.1.C6 (by simp[cw];exact av g.o.2.2) λk e=>by omega),rfl,by simpa using p.o.2⟩
    .have L:¬(2097152:Int)<(l:Int):=by omega
     have HP:=A (oG ((W.setCell ⟨f,6,V⟩ (I J l)).setCell ⟨f,2,V⟩ (I J y)) f s d y h _ ((g.o.2.1.S8 l _ rfl).B4 y _ rfl) ⟨j.o.1.h,j.o.1.e,j.o.1.g,by show l<=2097152;omega,j.o.1.b⟩ 4 U 0 S V 0 0 V 0 0 (.text K) (by rw[F.o.1];exact .text K));go_wp2_with fail;refine HP.o.mono ?_;rintro e w6 ⟨rfl,m,c⟩;have p:=A (And.intro m c);clear m c;go_wp2;go_ret;obtain⟨_,hy,q⟩:=F.o;rw[aDj j.o.2 (by omega),q];exact⟨(h8.o l y).trans p.o.1,rfl,by rw[hy];exact p.o.2⟩
structure l6 where
 a:Nat
 c:Nat
 size:Nat
 text:List UInt8
 bits:Nat
def l7(c:UInt8)(t:List UInt8):Option (Nat×Nat×List UInt8×Nat):=
 if aY c then Y (1,1,[c],0)
 else if aH c≠ []then(if alike (aH c) (c::t)<(aH c).length then V else Y (2,alike (aH c) (c::t),aH c,0))
 else if c=34 then(match cM [] 1 t with
  | .ok x=>Y (4,x.2,x.1,0)
  | _=>V)
 else if c=45\/isD c=O then(if(dB (c::t)).2=O then(match bitsOf ((c::t).take (dB (c::t)).1)with
  | some b=>Y (3,(dB (c::t)).1,[],b)
  | none=>V)else V)
 else V
def eM(i:Nat)(l:List UInt8):Option (List l6):=match l with
 | []=>Y []
 | c::t=>if aI c then eM (i+1) t else match l7 c t with
  | none=>V
  | some (k,n,s,b)=>(eM (i+n) (t.drop (n-1))).map (⟨k,i,n,s,b⟩:: ·)
termination_by l.length
decreasing_by all_goals(simp_wf;try omega)
def oO{r c:Rr}{f:Rr->Ra}(h:r.I4 d f=au n c):∃a,r.B9 d=bp a/\f a=au n c:=by
 unfold em at h;cases b:r.B9 d with
 | error no=>rw[b]at h;cases h
 | ok a=>rw[b]at h;exact⟨a,rfl,h⟩
def yE{r a:Rr}{f:Rr->Ra}{x:Ra}(h:r.B9 d=bp a)(b:f a=x):r.I4 d f=x:=by
 unfold em;rw[h];exact b
def yF{r b:Rr}(h:r.B9 d=bp b):r.a=0\/r.a=1:=by
 unfold fz at h
 by_cases a:r.a≠0/\r.a≠1
 .rw[if_pos a]at h;cases h
 .omega
def aDl{r b:Rr}(h:r.J6 d c=au n b):n=1:=by
 unfold Rr.J6 at h;split at h
 .obtain⟨e,_,a⟩:=oO h;injection a with a _
  exact a.symm
 .split at h
  .injection h with h _;exact h.symm
  .split at h
   .injection h with h _;exact h.symm
   .split at h
    .injection h with h _;exact h.symm
    .split at h
     .injection h with h _;exact h.symm
     .cases h
def aAZ{r c:Rr}(h:r.L3 l=au n c):∃x,cM [] 1 l=ah x/\n=x.2:=by
 unfold gy at h;cases b:cM [] 1 l with
 | cut=>rw[b]at h;cases h
 | bad no a=>rw[b]at h;cases h
 | ok x=>
  rw[b]at h;obtain⟨s,m⟩:=x;simp only at h;refine⟨_,rfl,?_⟩;split at h
  .cases h
  .split at h
   .cases h
   .split at h
    .injection h with h _;exact h.symm
    .injection h with h _;exact h.symm
def aLj{r a:Rr}(h:r.J0 d l=au n a):∃x,cM [] 1 l=ah x/\n=x.2:=by
 unfold fi at h;split at h
 .exact aAZ h
 .obtain⟨c,_,b⟩:=oO h;exact aAZ b
def aHH{r:Rr}(h:cM [] 1 u=cM [] 1 l):r.J0 d u=r.J0 d l:=by
 unfold fi gy;rw[h]
def nA:∀(w l:Oo),alike w l<=w.length/\alike w l<=l.length
 | [],l=>by cases l<;>simp[alike]
 | x::w,[]=>by simp[alike]
 | x::w,y::l=>by
  unfold alike;have:=nA w l;split
  .simp;omega
  .simp
def yG:∀(w l x:Oo),¬alike w l<w.length->alike w (l.take w.length++x)=w.length
 | [],l,x,_=>by cases x<;>simp[alike]
 | y::w,[],x,h=>by simp[alike]at h
 | y::w,z::l,x,h=>by
  unfold alike at h
  by_cases e:y=z
  .rw[if_pos e]at h;have a:=yG w l x (by simp at h;omega);rw[dh,dm,fj];unfold alike;rw[if_pos e,a]
  .rw[if_neg e]at h;simp at h
def aLk{r c:Rr}{w:Oo}(h:r.P4 d w l=au n c):n=w.length/\alike w l=w.length/\∃b,r.B9 d=bp b/\c=b.C9 (jE w):=by
 unfold gc at h;obtain⟨b,e,a⟩:=oO h;have g:=nA w l;split at a
 .cases a
 .split at a
  .cases a
  .injection a with a f
   exact⟨by omega,by omega,b,e,f.symm⟩
def aHI{r g:Rr}(h:r.N7 d l=au n g):dB l=(n,O)/\∃c b,r.B9 d=bp c/\bitsOf (l.take n)=Y b/\g=c.C9 (dv (dW b)):=by
 unfold gz at h;obtain⟨c,j,a⟩:=oO h;obtain⟨m,e,i⟩:∃m e,dB l=(m,e):=⟨_,_,rfl⟩;rw[i]at a;simp only at a;cases e with
 | false=>
  split at a
  .cases a
  .simp at a
 | true=>
  simp at a;cases f:bitsOf (l.take m)with
  | none=>rw[f]at a;cases a
  | some b=>
   rw[f]at a;injection a with a k
   subst a;exact⟨i,c,b,j,f,k.symm⟩
def aDm{r a:Rr}(h:dB l=(n,O))(c:r.B9 d=bp a)(e:bitsOf (l.take n)=Y b):r.N7 d l=au n (a.C9 (dv (dW b))):=by
 unfold gz;refine yE c ?_;rw[h];simp[e]
def aBM(h:dB l=(n,O)):0<n/\n<=l.length:=by
 obtain⟨c,neg,W,P,d,a⟩:=mY h;refine⟨c,?_⟩
 by_cases b:n<=l.length
 .exact b
 .rw[List.take_of_length_le (by omega)]at a;have:=aDh a (x:= []) rfl;rw[bj,h]at this;injection this with this _
  omega
def aHJ(h:aH c≠ []):c≠34/\aY c=U/\aI c=U/\¬(c=45\/isD c=O):=by
 have:c=110\/c=116\/c=102:=by
  unfold aH at h
  by_cases b:c=110
  .exact ac b
  .by_cases a:c=116
   .exact bc (ac a)
   .by_cases d:c=102
    .exact bc (bc d)
    .rw[if_neg b,if_neg a,if_neg d]at h;exact absurd rfl h
 rcases this with rfl|rfl|rfl<;>decide
def pP(h:cM [] 1 l=ah x):2<=x.2/\x.2<=l.length+1:=by
 have b:=(oM l.length (u:= []) (ai _) h).1;have a:=(sU l.length (ai _) h).2.2;omega
def yH{r p:Rr}(h:r.B4 d c t=au n p):
 (∃k s b,l7 c t=Y (k,n,s,b))/\1<=n/\n<=t.length+1/\(aY c=U->(r.a=5\/r.a=6)->False)/\((c=45\/isD c=O)->p.a=5\/p.a=6)/\
 ∀x,((c=45\/isD c=O)->stops x=O)->r.B4 d c (t.take (n-1)++x)=au n p:=by
 unfold Rr.B4 at h⊢;unfold l7
 by_cases g:aY c=O
 .rw[if_pos g]at h;have:=aDl h;subst this;rw[if_pos g];refine⟨⟨_,_,_,rfl⟩,by omega,by omega,(λe=>by rw[g]at e;cases e),λe=>?_,λx _=>by rw[if_pos g];exact h⟩;have:c=123\/c=125\/c=91\/c=93\/c=58\/c=44:=by simpa[aY,or_assoc]using g
  rcases this with rfl|rfl|rfl|rfl|rfl|rfl<;>exact absurd e (by decide)
 rw[if_neg g]at h
 by_cases j:c=34
 .rw[if_pos j]at h;obtain⟨x,f,m⟩:=aLj h;have u:=pP f;subst m;have i:¬aH c≠ []:=by subst j;decide
  have l:¬(c=45\/isD c=O):=by subst j;decide
  rw[if_neg g,if_neg i,if_pos j,f];refine⟨⟨_,_,_,rfl⟩,by omega,by omega,λ_ a=>?_,(λe=>absurd e l),λy _=>?_⟩
  .unfold fi at h;have C:r.K6=U:=by unfold ge;rcases a with e|e<;>rw[e]<;>rfl
   rw[C]at h;obtain⟨v,L,_⟩:=oO h;have:=yF L;omega
  .rw[if_neg g,if_pos j,<-h];refine aHH ?_;rw[f];exact(oM t.length (ai _) f).2 (by rw[ib (by rw[dj];omega),fw,ie])
 rw[if_neg j]at h
 by_cases i:aH c≠ []
 .rw[if_pos i]at h;obtain⟨f,m,v,o,q⟩:=aLk h;have G:=aHJ i;have B:=nA (aH c) (c::t);have w:0<(aH c).length:=ig.2 i;rw[if_neg g,if_pos i,if_neg (by omega)];refine⟨⟨_,_,_,by rw[m,f]⟩,by omega,by simp at B;omega,λ_ a=>?_,(λe=>absurd e G.2.2.2),λx _=>?_⟩
  .have:=yF o;omega
  .rw[if_neg g,if_neg j,if_pos i]
   have e:c::(t.take (n-1)++x)=(c::t).take (aH c).length++x:=by
    rw[<-f,show n=(n-1)+1 by omega,dm];rfl
   have F:=yG (aH c) (c::t) x (by omega);unfold gc;refine yE o ?_;rw[e,F,if_neg (by omega),if_neg (by omega),q,f]
 rw[if_neg i]at h
 by_cases l:c=45\/isD c=O
 .rw[if_pos l]at h;obtain⟨f,v,b,m,o,q⟩:=aHI h;have u:=aBM f;rw[if_neg g,if_neg i,if_neg j,if_pos l,f];simp only[if_true,o];refine⟨⟨_,_,_,rfl⟩,by omega,by simpa using u.2,λ_ a=>?_,λ_=>?_,λx K=>?_⟩
  .have:=yF m;omega
  .rw[q];unfold fh;split
   .exact bc rfl
   .exact ac rfl
  .rw[if_neg g,if_neg j,if_neg i,if_pos l]
   have e:c::(t.take (n-1)++x)=(c::t).take n++x:=by
    rw[show n=(n-1)+1 by omega,dm];rfl
   have z:((c::t).take n).length=n:=by rw[dj];omega
   rw[e,q];refine aDm (aFd f u.2 (K l)) m ?_;rw[ib (by omega),fw,ie];exact o
 .rw[if_neg l]at h;cases h
def aDn{r:Rr}:bm d r i []=if r.a=6 then bp r.done else .error (95,i):=by unfold bm;rfl
def nB{r:Rr}(h:aI c=O):bm d r i (c::t)=bm d r (i+1) t:=by
 rw[bm,if_pos h]
def aBN{r:Rr}(h:aI c=U)(b:bm d r i (c::t)=bp v):∃n e,r.B4 d c t=au n e/\bm d e (i+n) (t.drop (n-1))=bp v:=by
 rw[bm,if_neg (by rw[h];simp)]at b;cases f:r.B4 d c t with
 | cut=>rw[f]at b;cases b
 | bad no a=>rw[f]at b;cases b
 | on n e=>rw[f]at b;exact⟨n,e,rfl,b⟩
def aHK{r a:Rr}(h:aI c=U)(b:r.B4 d c t=au n a):bm d r i (c::t)=bm d a (i+n) (t.drop (n-1)):=by
 rw[bm,if_neg (by rw[h];simp),b]
def oP{r:Rr}:∀(bl:Oo)(i:Nat),(∀c∈bl,aI c=O)->bm d r i (bl++o)=bm d r (i+bl.length) o
 | [],i,_=>rfl
 | c::bl,i,h=>by
  rw[fj,nB (h c (by simp)),oP bl (i+1) λx a=>h x (by simp[a]),dh,show i+1+bl.length=i+(bl.length+1) by omega]
inductive jT:List UInt8->List UInt8->Prop
 | nil (bl:List UInt8) (h:∀c∈bl,aI c=O):jT [] bl
 | blank {c:UInt8} {t o:List UInt8} (h:aI c=O) (r:jT t o):jT (c::t) o
 | tok {c:UInt8} {t bl o:List UInt8} {k n b:Nat} {s:List UInt8} (hb:∀c∈bl,aI c=O) (h:aI c=U) (ht:l7 c t=Y (k,n,s,b)) (r:jT (t.drop (n-1)) o):jT (c::t) (bl++((c::t).take n++o))
def sW{bl x:Oo}(h:∀c∈bl,aI c=O)(a:bl≠ []):stops (bl++x)=O:=by
 cases bl with
 | nil=>exact absurd rfl a
 | cons c t=>show(aI c||aY c)=O;rw[h c (by simp)];rfl
def aAh(h:jT l o):∀(r:Rr)(i:Nat)(v:Tr),bm d r i l=bp v->(r.a=5\/r.a=6)->stops o=O:=by
 induction h with
 | nil bl h=>
  intro r i v _ _;cases bl with
  | nil=>rfl
  | cons c t=>rw[<-bj (c::t)];exact sW h (by simp)
 | blank h _ x=>intro r i v f g;rw[nB h]at f;exact x r _ v f g
 | tok q h p _ _=>
  rename_i c t bl o k n b s _ _;intro r i v f g;obtain⟨m,B,w,_⟩:=aBN h f;obtain⟨⟨G,z,F,a⟩,C,K,u,_,_⟩:=yH w;rw[p]at a;have y:n=m:=by injection a with a;injection a with _ a;injection a
  by_cases e:bl= []
  .subst e;rw[gh,show n=(n-1)+1 by omega,dm,fj]
   show(aI c||aY c)=O
   cases j:aY c with
   | true=>rw[Bool.or_true]
   | false=>exact(u j g).elim
  .exact sW q e
def aBO(h:jT l o):∀(r:Rr)(i j:Nat)(v:Tr),bm d r i l=bp v->bm d r j o=bp v:=by
 induction h with
 | nil bl h=>
  intro r i j v f;rw[<-bj bl,oP bl j h,aDn];rw[aDn]at f;split at f
  .rename_i e;rw[if_pos e];exact f
  .cases f
 | blank h _ p=>intro r i j v f;rw[nB h]at f;exact p r _ j v f
 | tok y h x u p=>
  rename_i c t bl o k n b s;intro r i j v f;obtain⟨m,w,C,a⟩:=aBN h f;obtain⟨⟨N,G,L,g⟩,K,P,_,z,F⟩:=yH C;rw[x]at g;have q:n=m:=by injection g with g;injection g with _ g;injection g
  subst q;rw[oP bl j y,show n=(n-1)+1 by omega,dm,fj,aHK h (F o λB=>aAh u w _ v a (z B))];rw[List.drop_append_of_le_length (by rw[dj];omega),fc (by rw[dj];omega),gh];exact p w _ _ v a
def pQ(h:aI c=O):eM i (c::t)=eM (i+1) t:=by
 rw[eM,if_pos h]
def wN{s:Oo}(h:aI c=U)(a:l7 c t=Y (k,n,s,b)):eM i (c::t)=(eM (i+n) (t.drop (n-1))).map (⟨k,i,n,s,b⟩:: ·):=by
 rw[eM,if_neg (by rw[h];simp),a]
def yI(h:aI c=U)(a:l7 c t=V):eM i (c::t)=V:=by
 rw[eM,if_neg (by rw[h];simp),a]
def yJ:∀(N:Nat)(l:Oo)(r:Rr)(i j:Nat),l.length<=N->bm d r i l=bp v->∃toks,eM j l=Y toks
 | _,[],_,_,_,_,_=>⟨[],by rw[eM]⟩
 | 0,c::t,_,_,_,f,_=>by simp at f
 | N+1,c::t,r,i,j,f,g=>by
  simp at f
  by_cases e:aI c=O
  .rw[nB e]at g;rw[pQ e];exact yJ N t r _ _ f g
  .have e:aI c=U:=by simpa using e
   obtain⟨n,h,p,a⟩:=aBN e g;obtain⟨⟨k,s,b,o⟩,-,-,_⟩:=yH p;obtain⟨toks,m⟩:=yJ N (t.drop (n-1)) h _ (j+n) (by rw[dy];omega) a;exact⟨_,by rw[wN e o,m];rfl⟩
def spell(L:List UInt8):List l6->List (List UInt8)->List UInt8
 | [],[]=> []
 | [],b::_=>b
 | k::a,[]=>(L.drop k.c).take k.size++spell L a []
 | k::a,b::c=>b++((L.drop k.c).take k.size++spell L a c)
def aDo{L:Oo}:∀(N:Nat)(i:Nat)(toks:List l6),L.length-i<=N->eM i (L.drop i)=Y toks->∀g:List Oo,(∀b∈g,∀c∈b,aI c=O)->jT (L.drop i) (spell L toks g):=by
 intro N
 induction N with
 | zero=>
  intro i toks u h g f;rw[fc (by omega)]at h⊢;rw[eM]at h;injection h with h
  subst h;cases g with
  | nil=>exact .nil [] (by simp)
  | cons b g=>exact .nil b (f b (by simp))
 | succ N p=>
  intro i toks u h g f
  by_cases hi:i<L.length
  .rw[ga hi]at h⊢
   by_cases j:aI L[i]=O
   .rw[pQ j]at h;exact .blank j (p (i+1) toks (by omega) h g f)
   .have j:aI L[i]=U:=by simpa using j
    cases d:l7 L[i] (L.drop (i+1))with
    | none=>rw[yI j d]at h;cases h
    | some q=>
     obtain⟨k,n,s,b⟩:=q;rw[wN j d]at h
     have v:1<=n:=by
      unfold l7 at d;split at d
      .injection d with d;injection d with _ d;injection d with d _;omega
      .split at d
       .rename_i o;have:=ig.2 o;split at d
        .cases d
        .injection d with d;injection d with _ d;injection d with d _;omega
       .split at d
        .cases e:cM [] 1 (L.drop (i+1))with
         | cut=>rw[e]at d;cases d
         | bad no a=>rw[e]at d;cases d
         | ok x=>
          rw[e]at d;have:=pP e;injection d with d;injection d with _ d;injection d with d _;omega
        .split at d
         .split at d
          .rename_i o;cases e:bitsOf ((L[i]::L.drop (i+1)).take (dB (L[i]::L.drop (i+1))).1)with
           | none=>rw[e]at d;cases d
           | some y=>
            rw[e]at d;injection d with d;injection d with _ d;injection d with d _
            have:=aBM (l:=L[i]::L.drop (i+1)) (n:=n) (by rw[<-d,<-o]);omega
          .cases d
         .cases d
     have m:(L.drop (i+1)).drop (n-1)=L.drop (i+n):=by rw[gr,show i+1+(n-1)=i+n by omega]
     rw[m]at h;cases e:eM (i+n) (L.drop (i+n))with
     | none=>rw[e]at h;cases h
     | some r=>
      rw[e]at h;injection h with h
      subst h;have t:(L.drop i).take n=(L[i]::L.drop (i+1)).take n:=by rw[<-ga hi]
      cases g with
      | nil=>
       have:=jT.tok (bl:= []) (by simp) j d (by rw[m];exact p (i+n) r (by omega) e [] (by simp));rw[gh,<-t]at this;exact this
      | cons b g=>
       have:=jT.tok (bl:=b) (f b (by simp)) j d (by rw[m];exact p (i+n) r (by omega) e g λx e=>f x (by simp[e]));rw[<-t]at this;exact this
  .rw[fc (by omega)]at h⊢;rw[eM]at h;injection h with h
   subst h;cases g with
   | nil=>exact .nil [] (by simp)
   | cons b g=>exact .nil b (f b (by simp))
def aFe{L:Oo}(h:jR L d=bp v):∃toks,eM 0 L=Y toks/\∀a:List Oo,(∀b∈a,∀c∈b,aI c=O)->jR (spell L toks a) d=bp v:=by
 obtain⟨toks,f⟩:=yJ (d:=d) L.length L _ 0 0 (ai _) h;refine⟨toks,f,λa e=>?_⟩;have:=aDo (L:=L) L.length 0 toks (by omega) (by simpa using f) a e;exact aBO this _ 0 0 v (by rw[List.drop_zero];exact h)
def Rr.Q9(e:Bool)(r:Rr)(a:Nat)(l:List UInt8):Ra:=r.I4 a λr=>
 if(dB l).2=U/\(dB l).1<l.length then aw 120 (dB l).1
 else if(dB l).2=U\/(dB l).1=l.length/\e=U then dt
 else match bitsOf (l.take (dB l).1)with
  | none=>aw 41 0
  | some b=>au (dB l).1 (r.C9 (dv (dW b)))
def aLz(w:E)(c:Nat)(s:ByteArray)(d i f:Nat)(r:Rr)(a0:aU w c s d i r f)(t:Bnd r d)(en:Bool)(hi:i<s.size)(hs:s.size<=16777216):
 ae D 108 #[T c,en] w λe w'=>qC w c s d i (r.Q9 en d (s.data.toList.drop i)) e w':=by
 have z:=A (sH w c s d i f r a0 (by omega) t.h t.e t.g);have a:c<w.heap.size:=by obtain⟨P,g8,so,fl,bi,tx,a1,n1,m1,a2,n2,m2,hb,-⟩:=a0;exact ek hb
 have g:r.Q9 en d (s.data.toList.drop i)=match r.B9 d with
  | .error no=>aw no 0
  | .ok r=>if(dB (s.data.toList.drop i)).2=U/\(dB (s.data.toList.drop i)).1<(s.data.toList.drop i).length then aw 120 (dB (s.data.toList.drop i)).1 else if(dB (s.data.toList.drop i)).2=U\/(dB (s.data.toList.drop i)).1=(s.data.toList.drop i).length/\en=U then dt else match bitsOf ((s.data.toList.drop i).take (dB (s.data.toList.drop i)).1)with
   | none=>aw 41 0
   | some b=>au (dB (s.data.toList.drop i)).1 (r.C9 (dv (dW b))):=by
  unfold Rr.Q9 em;cases r.B9 d<;>rfl
 rw[g];have x:=A a;clear g;have j:(s.data.toList.drop i).length=s.size-i:=by simp
 have G:(dB (s.data.toList.drop i)).1<=s.size-i:=by rw[xX,<-j];exact pR 0 _
 have S:=A (λW=>vK W s i hi (by omega));have v:=A (λm=>mY (l:=s.data.toList.drop i) (m:=m));obtain⟨NN,q⟩:∃NN,dB (s.data.toList.drop i)=NN:=⟨_,rfl⟩;rw[q]at S G v;rw[q,j];obtain⟨n,wh⟩:=NN;simp only at S G⊢;obtain⟨p,hp⟩:∃p,i+n=p:=⟨_,rfl⟩;rw[hp]at S;cases y:r.B9 d with
 | error no=>
  rw[y]at z;clear a0 y a;go_enter func108,ntmps108;go_wp2_with fail;refine z.o.mono ?_;rintro e w1 ⟨B,rfl,g⟩;have o:=A (And.intro B g);clear B g;go_wp2;go_ret;exact⟨o.o.1.C6 (av x.o) λk e=>by omega,rfl,o.o.2⟩
 | ok u=>
  have C:=aBC t y;rw[y]at z
  obtain⟨R,h⟩:∃R,(if wh=U/\n<s.size-i then aw 120 n else if wh=U\/n=s.size-i/\en=U then dt else match bitsOf ((s.data.toList.drop i).take n)with
   | none=>aw 41 0
   | some b=>au n (u.C9 (dv (dW b))))=R:=⟨_,rfl⟩
  simp only[h];have g5:=A C;have HX:=A hp;clear a0 y a t C q j;go_enter func108,ntmps108;go_wp2_with fail;refine z.o.mono ?_;rintro e w1 ⟨B,rfl,a⟩;have HK:=A (B.C6 (av x.o) λk e=>by omega);have y:=A a;obtain⟨c0,c2,-⟩:=a.cells;clear B a z;have q:=A (cg x.o HK.o.size);go_wp2
  go_region_held3 (λw'=>w'.cell? c=Y (ao s)/\w'.cell? ⟨c,2,V⟩=Y (I J i)) (go_keep) ((go_at_call 90;(refine(S.o _).mono ?_);rintro e w2 ⟨rfl,rfl⟩))
  all_goals
   have C:=A (show ag c w w1.drew/\aU w1.drew c s d i u f from⟨m8 HK.o,y.o.C3 (aj _ w1).B0⟩);rcases Bool.eq_false_or_eq_true wh with rfl|rfl
   .by_cases F:p=s.size/\en=U
    .obtain⟨F,rfl⟩:=F;rw[if_neg (by simp),if_pos (bc ⟨by omega,rfl⟩)]at h;subst h
     go_wp2;go_ret;exact⟨C.o.1,rfl,u,f,C.o.2⟩
    .have g6:=v.o n rfl
     have he:((p:Int)==(s.size:Int))=U\/(((p:Int)==(s.size:Int))=O/\en=O):=by
      by_cases a:p=s.size
      .cases en with
       | false=>exact absurd ⟨a,rfl⟩ F
       | true=>exact bc ⟨by simp;omega,rfl⟩
      .exact ac (by simp;omega)
     rw [if_neg (by simp), if_neg (by rintro (a0 | a0); · cases a0
                                      .exact F ⟨by omega,a0.2⟩)]at h
     obtain⟨_,neg,W,P,a4,a⟩:=g6;have z:s.extract i p=⟨((s.data.toList.drop i).take n).toArray⟩:=by rw[<-hp];exact kJ
     have g9:p<=s.size:=by omega
     have j:∀X,ae D 91 #[ao (s.extract i p)] X λr w'=>r=af (uM (bitsOf ((s.data.toList.drop i).take n)))/\ag X.heap.size X w':=λX=>by
      have:=aDz (s.extract i p) X neg W P a4 (by rw[z];simpa using a) (by simp;omega);rw[z]at this⊢
      simpa using this
     have t:∀b,bitsOf ((s.data.toList.drop i).take n)=Y b->b<18446744073709551616:=λb hb=>by
      have:=l0 hb;unfold gO aM at this;omega
     obtain⟨a3,B⟩:∃a3,bitsOf ((s.data.toList.drop i).take n)=a3:=⟨_,rfl⟩;rw[B]at h j t;have K:=A j;have i1:(i:Int)<=(p:Int):=by omega
     have i2:(p:Int)<=(s.size:Int):=by omega
     clear j a B z F v;cases a3 with
     | none=>
      simp only at h;subst h;have z:=A (λX=>show ae D 91 #[ao (s.extract i p)] X λr w'=>r=af (ba #[I .u64 0,H U])/\ag X.heap.size X w' from K.o X);rcases he with L|⟨L,rfl⟩
      all_goals
       go_wp2
       go_region_held3 (λw'=>w'.cell? c=Y (ao s)/\w'.cell? ⟨c,2,V⟩=Y (I J i)) (first|exact hS|go_keep) ((go_at_call 91;(refine(z.o _).mono ?_);rintro e B ⟨rfl,a⟩;have a:=fA (fA a);have hS:=And.intro (bE a c0) (bE a c2)))
       all_goals
        have j:=A (show ag c w B/\aU B c s d i u f from⟨HK.o.trans (a.mono (av q.o)),y.o.C3 (cr _ a)⟩);have v:=A (cg q.o a.size);clear a;go_wp2_with fail;refine(eP B c s d i f u j.o.2 (by omega) 41 i p).mono ?_;rintro e w5 ⟨rfl,N,g⟩;have o:=A (And.intro N g);clear N g;go_wp2;go_ret;exact⟨j.o.1.trans (o.o.1.C6 (av v.o) λk e=>by omega),rfl,by simpa using o.o.2⟩
     | some b=>
      simp only at h;subst h;have z:=A (λX=>show ae D 91 #[ao (s.extract i p)] X λr w'=>r=af (ba #[I .u64 b,H O])/\ag X.heap.size X w' from K.o X);have N:=A (λX=>aKj X b (t b rfl));clear t;rcases he with L|⟨L,rfl⟩
      all_goals
       go_wp2
       go_region_held3 (λw'=>w'.cell? c=Y (ao s)/\w'.cell? ⟨c,2,V⟩=Y (I J i)) (first|exact hS|go_keep) ((go_at_call 91;(refine(z.o _).mono ?_);rintro e B ⟨rfl,a⟩;have a:=fA (fA a);have hS:=And.intro (bE a c0) (bE a c2)))
       all_goals
        have j:=A (show ag c w B/\aU B c s d i u f from⟨HK.o.trans (a.mono (av q.o)),y.o.C3 (cr _ a)⟩);have v:=A (cg q.o a.size);obtain⟨-,-,h0⟩:=j.o.2.cells;clear a hS;go_wp2_with fail;refine(N.o _).mono ?_;rintro e w5 ⟨rfl,a⟩;have g7:=A (show ag c w w5 from(j.o.1.trans (((aj (λk=>k=c) B).own 2 (I J p)).C6 (av v.o) λk e=>by omega)).trans (a.mono (by simp[cw];exact av v.o)));have HP:=A (oG w5 c s d p f u ((j.o.2.B4 p _ rfl).C3 (cr _ a)) g5.o 3 U (dW b) ⟨#[]⟩ V 0 0 V 0 0 (dv (dW b)) (.num _));clear a;go_wp2_with fail;refine HP.o.mono ?_;rintro e w6 ⟨rfl,t,a⟩;have o:=A (And.intro t a);clear t a;go_wp2;go_ret;exact⟨g7.o.trans o.o.1,rfl,by rw[HX.o];exact o.o.2⟩
   .by_cases F:p<s.size
    .rw[if_pos ⟨rfl,by omega⟩]at h;subst h;have L:(p:Int)<(s.size:Int):=by omega
     go_wp2_with fail;refine(eP w1.drew c s d i f u C.o.2 (by omega) 120 p p).mono ?_;rintro e j ⟨rfl,a,g⟩;have o:=A (And.intro a g);clear a g;go_wp2;go_ret;exact⟨C.o.1.trans (o.o.1.C6 (av q.o) λk e=>by omega),rfl,by rw[HX.o];exact o.o.2⟩
    .rw[if_neg (by omega),if_pos (ac rfl)]at h;subst h;have L:¬(p:Int)<(s.size:Int):=by omega
     go_wp2;go_ret;exact⟨C.o.1,rfl,u,f,C.o.2⟩
def aCh(F:Nat->Prop)(w:E)(b:Nat)(x:Lx)(toks:List Tok)(c:UInt8)(a0:cG F w b x U toks)(p:x.j=gj)(r:x.a<=x.c)(a:x.number<=8)(h:x.g.length<=1073741824)(C:x.c<=16777216)(S:toks.length<=999):
 ae D 139 #[T b,I co c.toNat] w λe w'=>eV F w b x.c toks (bX x c) e w':=by
 have P:=a0;obtain⟨R,f,i,W,K,s,t,B,X⟩:=a0;have v:=X.g (bc p);have z:(toks.map bU).length<=1000:=by simp;omega
 unfold bX;cases o:aR x.number c with
 | some d=>
  refine(rE w b x.number d _ _ _ _ _ _ _ _ _ _ _ _ i c x.g t a o v.1 h).mono λe w' L=>?_
  obtain⟨q,g,j⟩:=aB7 (y:={x with number:=d,g:=x.g++ [c]}) R f B v.2 (bc p) rfl ⟨_,t⟩ (λk e=>tK v.1 B.1 (by decide) e) (λu=>by rw[p]) L;exact bz q g (by rw[bj];exact j)
 | none=>
  simp only[]
  by_cases q:bL x.number=O
  .rw[if_pos q];cases n:bitsOf x.g with
   | none=>
    have j:x.C0=V:=by unfold fk;rw[n];rfl
    rw[j];refine(aAA w b x.number _ _ _ _ _ _ _ _ _ _ _ _ i c x.g t a o q v.1 h n).mono ?_;rintro e w' ⟨rfl,d⟩;have g:Keeps F w w':=cr F d;exact ct (by decide) rfl g (by rw[bj];exact(P.Q4.D8 (G:=λ_=>False) (cr _ d) (λ_ _=>id)).mono (λk g=>ac g) (aF f g.size))
   | some d=>
    have j:x.C0=Y (x.E2,dw x.a (x.c-x.a) d):=by unfold fk;rw[n];rfl
    rw[j];simp only[];refine aCg w b x.number x.c x.a _ _ _ _ _ _ _ _ _ i s c x.g (toks.map bU) d _ t a o q v.1 h n B.1 z r (by omega) ?_;intro w1 L;obtain⟨_,l,N⟩:=aB6 (y:=x.E2) (tok:=dw x.a (x.c-x.a) d) R f B rfl rfl (λu=>rfl) L;refine(tH (Since F w w1) w1 b x.E2 (toks++ [dw x.a (x.c-x.a) d]) c N rfl C (by simp;omega)).mono ?_;rintro e w2 ⟨rfl,m,hg,hd⟩;refine⟨⟨_,rfl⟩,rfl,l.O9 m,λo=>?_,λo=>?_⟩
    .have:=hg o;rw[eh,ii]at this;exact this.mono (λk g=>g.trans l.size m.size) (aF f (bu l.size m.size))
    .have:=hd o;rw[eh,ii]at this;exact this.mono (λk g=>g.trans l.size m.size) (aF f (bu l.size m.size))
  .have d:bL x.number=U:=by simpa using q
   rw[if_neg q];refine(aDJ w b x.number _ _ _ _ _ _ _ _ _ _ _ _ _ c t a o d).mono ?_;rintro e w' ⟨rfl,rfl⟩;exact ct (by decide) rfl (aj _ _) (by rw[bj];exact P.Q4.mono (λk g=>ac g) (aF f (ai _)))
def aLG(F:Nat->Prop)(w:E)(b:Nat)(toks:List Tok)(t:Lx×List Tok×Nat×Nat)(e:fa)(w':E):Prop:=
 Keeps F w w'/\(t.2.2.1=0->e=af cu/\cG (Since F w w') w' b t.1 O (toks++t.2.1))/\
 (t.2.2.1≠0->e=af (cU t.2.2.1 t.2.2.2)/\∃pl a,dU (Since F w w') w' b pl a (cU t.2.2.1 t.2.2.2) (toks++t.2.1))
def cG.S3{x:Lx}{B:Bool}(h:cG F w b x B toks)(d:Bool):cG F (w.setCell ⟨b,2,V⟩ (H d)) b x d toks:=by
 obtain⟨z,l,j,o,c,i,g,q,t⟩:=h;have a:Keeps (λk=>k=b) w (w.setCell ⟨b,2,V⟩ (H d)):=(aj (λk=>k=b) w).A3 (p:=⟨b,2,V⟩) (ac rfl) _;refine⟨z,λk m=>cg (l k m) a.size,j,o,c,i,aB g _,⟨q.1.A2 a (λk e a=>q.1.ne g (by decide) (e.trans (congrArg Y a))),q.2⟩,⟨λh=>?_,λh=>?_⟩⟩
 .have r:=t.g h;exact⟨r.1.A2 a (λk e a=>r.1.ne g (by decide) (e.trans (congrArg Y a))),r.2⟩
 .obtain⟨n,f,pl,u,s,v,y⟩:=t.text h;exact⟨⟨n.1.A2 a (λk e a=>n.1.ne g (by decide) (e.trans (congrArg Y a))),n.2⟩,f,pl,u,s.A2 a (oZ s g (by decide)),v,y⟩
def aGg(F:Nat->Prop)(w:E)(b:Nat)(x:Lx)(toks:List Tok)(X:cG F w b x U toks)(t:x.number<=8)(v:x.j=gj->x.g.length<=x.c)(l:x.c<=16777216)(y:x.a<=x.c)(c:bL x.number=O->x.e=O->x.j=gj)(i8:toks.length<=999):
 ae D 78 #[T b] w λe w'=>aLG F w b toks x.B8 e w':=by
 obtain⟨-,c1,c2,c4,c5,cf⟩:=X.cells;have h1:=X.S3 O;have HF:=A X.1;have h7:(toks.map bU).length<=1000:=by simp;omega
 have d:Keeps F w (w.setCell ⟨b,2,V⟩ (H O)):=(aj F w).A3 (p:=⟨b,2,V⟩) (ac X.1) _;have h8:=A d;have f:cG (Since F w (w.setCell ⟨b,2,V⟩ (H O))) (w.setCell ⟨b,2,V⟩ (H O)) b x O toks:=h1.mono (λk m=>ac m) (aF X.lt d.size);have i1:=A f;cases a:x.e with
 | false=>
  have n:x.B8=(x,[],0,0):=by unfold fm;rw[a];rfl
  rw[n];rw[a]at c4;clear X h1 n d f c a t v l y;go_enter fq,ft;go_wp2;go_ret;exact⟨h8.o,λ_=>⟨rfl,by rw[bj];exact i1.o⟩,λe=>absurd rfl e⟩
 | true=>
  obtain⟨z,B,P,i9,i2,h9,h,q,K⟩:=h1;obtain⟨d0,d1,d2,d3,d4,d5,d6,d7,d8,d9,da,db,dc,dd,df⟩:=aN h;rw[a]at c4 d4;have HE:=A (lM x.number t);cases r:bL x.number with
  | false=>
   have n:x.B8=(x,[],95,x.c):=by unfold fm;rw[a,r];rfl
   rw[n];rw[r]at HE;have i:=A (f.Q4.Q7 (cU 95 x.c));clear X n d f c a t v l y h q K z B r;go_enter fq,ft;go_wp2_with fail;refine(HE.o _).mono ?_;rintro e w1 ⟨rfl,rfl⟩;go_wp2;go_ret;refine⟨h8.o.A3 (p:=⟨b,1,V⟩) (ac HF.o) _,λe=>absurd e (show ¬(95:Nat)=0 by decide),λ_=>⟨rfl,x.c,x.a,?_⟩⟩;rw[bj];exact i.o.mono (λk m=>m.N6 (by simp[cw])) (λk m=>i.o.2.1 k (m.N6 (by simp[cw])))
  | true=>
   have L:=c r a;have hr:=K.g (bc L);have N:x.g.length<=1073741824:=bu (v L) (bu l (by decide));rw[r]at HE;cases s:bitsOf x.g with
   | none=>
    have n:x.B8=(x,[],41,x.a):=by unfold fm;rw[a,r];simp[fk,s]
    rw[n];have i:=vR _ b _ _ _ _ _ _ _ _ _ _ _ _ _ P x.g h hr.1 N s
    have i3:=A (i.mono (R':=λe w'=>e=af (H U)/\w'.cell? ⟨b,5,V⟩=Y (I J x.a)/\(∃u,w'.cell? ⟨b,1,V⟩=Y u)/\(∀o,w'.frozen? ⟨b,o,V⟩=U)/\Keeps F w w'/\dU (Since F w w') w' b x.c x.a cu toks) λe w' ⟨r,j⟩=>by
     have R:=f.Q4.D8 (G:=λ_=>False) (cr _ j) (λ_ _=>id);have S:=keep h j;obtain⟨-,e1,-,-,-,e5,-,-,-,-,-,-,-,-,ef⟩:=aN S;have C:Keeps F w w':=d.same (cr F j);exact⟨r,e5,⟨_,e1⟩,ef,C,R.mono (λk m=>m.N6 j.size) (aF X.lt C.size)⟩)
    clear X n d f c a t v l y h q K z B r L hr N s i;go_enter fq,ft;go_wp2_with fail;refine(HE.o _).mono ?_;rintro e w1 ⟨rfl,rfl⟩;go_wp2_with fail;refine(i3.o).mono ?_;rintro e w2 ⟨rfl,e5,⟨u,e1⟩,ef,i,R⟩;have W:=A i;have i0:=A (R.Q7 (cU 41 x.a));clear i R c1 c2 c4 c5 cf d0 d1 d2 d3 d4 d5 d6 d7 d8 d9 da db dc dd df;go_wp2;go_ret;refine⟨W.o.A3 (p:=⟨b,1,V⟩) (ac HF.o) _,λe=>absurd e (show ¬(41:Nat)=0 by decide),λ_=>⟨rfl,x.c,x.a,?_⟩⟩;rw[bj];exact i0.o.mono (λk m=>m.N6 (by simp[cw])) (λk m=>i0.o.2.1 k (m.N6 (by simp[cw])))
   | some j=>
    have n:x.B8=(x.E2,[dw x.a (x.c-x.a) j],0,0):=by unfold fm;rw[a,r];simp[fk,s]
    rw[n];have i0:=vS _ b x.c x.a _ _ _ _ _ _ _ _ _ _ P h9 x.g (toks.map bU) j h hr.1 N s q.1 h7 y (bu l (by decide))
    have i3:=A (i0.mono (R':=λe w'=>e=af (H O)/\Keeps F w w'/\cG (Since F w w') w' b x.E2 O (toks++ [dw x.a (x.c-x.a) j])/\(w'.cell? ⟨b,1,V⟩=Y cu)) λe w' n=>by
     obtain⟨r,g,off,cap,S,R,i4,i⟩:=n;have i5:Keeps F (w.setCell ⟨b,2,V⟩ (H O)) w':=i.mono λk m=>m.elim (λe=>e▸z) (λe=>q.2 k e)
     have C:Keeps F w w':=d.same i5
     have hl:cG (Since F w w') w' b x.E2 O (toks++ [dw x.a (x.c-x.a) j]):=by
      refine⟨ac z,aF X.lt C.size,_,_,_,_,S,⟨by rw[et,ij,ik];simpa using R,?_⟩,⟨λhs=>?_,λhs=>?_⟩⟩
      .intro k i6;cases i6;exact i4.elim (λe=>ac (q.2 _ e)) (λi7=>bc ⟨by simpa[cw]using i7,R.lt rfl⟩)
      .simp[fu]at hs
      .simp[fu,dJ]at hs
     exact⟨r,C,hl,(hl.cells).2.1⟩)
    clear X n d f c a t v l y h q K z B r L hr N s i0;go_enter fq,ft;go_wp2_with fail;refine(HE.o _).mono ?_;rintro e w1 ⟨rfl,rfl⟩;go_wp2_with fail;refine(i3.o).mono ?_;rintro e w2 ⟨rfl,i,a,e1⟩;have W:=A i;have c:=A a;clear i a c1 c2 c4 c5 cf d0 d1 d2 d3 d4 d5 d6 d7 d8 d9 da db dc dd df;go_wp2;go_ret;exact⟨W.o,λ_=>⟨rfl,c.o⟩,λe=>absurd rfl e⟩
def tO{x:Lx}{p m a d:ak}{c:Array ak}(B:F b)(r:∀k,F k->k<w.heap.size)(u:w.heap[b]?=Y (Q c 228 (0,0)))(C:eK F 232 id w d (toks.map bU))(L:aBw F w x p m a)(N:dJ x.j=O)
 (i:y.f=x.f)(j:y.d=x.d)(l:dJ y.j=O)(g:Keeps (λk=>k=b) w w'){rawV':ak}
 (v:w'.heap[b]?=Y (Q #[y.c,cu,H U,eo (ep (qJ y.j)) #[] #[],y.e,y.a,rawV',y.number,m,a,y.b,I cj y.code,I cj y.h,d] 228 (0,0))):
 Keeps F w w'/\cG (Since F w w') w' b y U toks:=by
 obtain⟨n,f,K,rfl,o,q,z⟩:=L.text N;have t:f≠b:=oZ o u (by decide);have s:Keeps F w w':=g.mono (λk e=>e▸B);refine⟨s,ac B,aF r g.size,rawV',_,a,d,v,C.A2 (G:=λk=>k=b) g (λk e g=>C.1.ne u (by decide) (e.trans (congrArg Y g))),⟨λh=>?_,λ_=>⟨?_,f,K,rfl,?_,ac q,?_⟩⟩⟩
 .rcases h with h|h<;>(rw[h]at l;cases l)
 .rw[i];exact n.A2 (G:=λk=>k=b) g (λk e g=>n.1.ne u (by decide) (e.trans (congrArg Y g)))
 .rw[j];exact o.A2 g t
 .rw[i];exact z
def aCi{x:Lx}{o p d h:ak}{P:Array ak}(K:F b)(t:∀k,F k->k<w.heap.size)(L:w.heap[b]?=Y (Q P 228 (0,0)))(r:eK F 232 id w h (toks.map bU))(R:aBw F w x o p d)(S:dJ x.j=O)
 (N:x.f.length<=y.f.length)(l:y.d=x.d)(q:dJ y.j=O){c:ak->Array ak}{e:fa}{rawV':ak}
 (W:∀u,c u= #[I J y.c,cu,H U,eo (ep (qJ y.j)) #[] #[],H y.e,I J y.a,rawV',I J y.number,p,u,I J y.b,I cj y.code,I cj y.h,h])
 (G:wJ w b d y.f c e w'):e=af (I J 0)/\Keeps F w w'/\cG (Since F w w') w' b y U toks:=by
 obtain⟨i,f,X,rfl,m,v,g1⟩:=R.text S;have z:f≠b:=oZ m L (by decide);obtain⟨he,g,off,cap,B,j,hg,s⟩:=G
 have C:Keeps F w w':=s.mono (λk e=>by
  rcases e with rfl|e
  .exact K
  .exact i.2 k e)
 refine⟨he,C,ac K,aF t s.size,rawV',_,_,h,by rw[B,W],⟨r.1.A2 s ?_,λk a=>ac (r.2 k a)⟩,⟨λG=>?_,λ_=>⟨⟨j,?_⟩,f,X,rfl,?_,ac v,?_⟩⟩⟩
 .intro k a n;rcases n with rfl|n
  .exact r.1.ne L (by decide) a
  .exact tK i.1 r.1 (by decide) n a
 .rcases G with G|G<;>(rw[G]at q;cases q)
 .intro k a;cases a;exact hg.elim (λe=>ac (i.2 _ e)) (λn=>bc ⟨n,j.lt rfl⟩)
 .rw[l];refine m.A2 s ?_;rintro(e|e)
  .exact z e
  .exact uP m i.1 (by decide) e
 .omega
def jO{x:Lx}(h:cG F w b x U toks):dU (Since F w w) w b x.c x.a cu (toks++ []):=by
 rw[bj];exact h.Q4.mono (λk a=>ac a) (aF h.lt (ai _))
def aGh(F:Nat->Prop)(w:E)(b:Nat)(x:Lx)(toks:List Tok)(c:UInt8)(h:cG F w b x U toks)(g:x.j=.slash):
 ae D 223 #[T b,I co c.toNat] w λe w'=>eV F w b x.c toks (fD x c) e w':=by
 have o:=h;obtain⟨s,d,m,r,i,l,k,t,v⟩:=h;refine(aHf w b _ _ _ _ _ _ _ _ _ _ _ _ _ _ c k).mono ?_;rintro e w' ⟨q,n⟩;unfold fD
 by_cases a:c=92
 .rw[if_pos a];obtain⟨z,j,p⟩:=q a;obtain⟨f,u⟩:=tO (y:={x with j:=.letterU}) s d k t v (by rw[g];rfl) rfl rfl rfl p j;exact bz z f (by rw[bj];exact u)
 .rw[if_neg a];obtain⟨rfl,rfl⟩:=n a;exact ct (by decide) rfl (aj _ _) (jO o)
def aCj(F:Nat->Prop)(w:E)(b:Nat)(x:Lx)(toks:List Tok)(c:UInt8)(h:cG F w b x U toks)(g:x.j=.letterU):
 ae D 241 #[T b,I co c.toNat] w λe w'=>eV F w b x.c toks (dS x c) e w':=by
 have o:=h;obtain⟨s,d,m,r,i,l,k,t,v⟩:=h;refine(aCH w b _ _ _ _ _ _ _ _ _ _ _ _ _ _ c k).mono ?_;rintro e w' ⟨q,n⟩;unfold dS
 by_cases a:c=117
 .rw[if_pos a];obtain⟨z,j,p⟩:=q a;obtain⟨f,u⟩:=tO (y:={x with b:=0,code:=0,j:=gk}) s d k t v (by rw[g];rfl) rfl rfl rfl p j;exact bz z f (by rw[bj];exact u)
 .rw[if_neg a];obtain⟨rfl,rfl⟩:=n a;exact ct (by decide) rfl (aj _ _) (jO o)
def aEa(F:Nat->Prop)(w:E)(b:Nat)(x:Lx)(toks:List Tok)(c:UInt8)(h:cG F w b x U toks)(a:x.j=.escape)(j:x.f.length<=1073741824):
 ae D 168 #[T b,I co c.toNat] w λe w'=>eV F w b x.c toks (dN x c) e w':=by
 have C:=h;obtain⟨v,g,B,K,f,t,l,z,p⟩:=h;have q:=(p.text (by rw[a];rfl)).1;unfold dN
 by_cases k:c=117
 .rw[if_pos k];subst k;refine(aJd w b _ _ _ _ _ _ _ _ _ _ _ _ _ _ l).mono ?_;rintro e w' ⟨s,r,n⟩;obtain⟨m,o⟩:=tO (y:={x with b:=0,code:=0,j:=gk}) v g l z p (by rw[a];rfl) rfl rfl rfl n r;exact bz s m (by rw[bj];exact o)
 .rw[if_neg k];cases i:cO c with
  | none=>
   refine(aEC w b c k i).mono ?_;rintro e w' ⟨rfl,rfl⟩;exact ct (by decide) rfl (aj _ _) (jO C)
  | some d=>
   refine(aCJ w b _ _ _ _ _ _ _ _ _ _ _ _ _ f c d x.f l k i q.1 j).mono λe w' G=>?_
   obtain⟨s,n,o⟩:=aCi (y:={x with f:=x.f++ [d],j:=gl}) v g l z p (by rw[a];rfl) (by simp) rfl rfl (λu=>rfl) G;exact bz s n (by rw[bj];exact o)
def aLH{d i t:ak}{tok:Tok}{e:fa}{m a:ak}(v:F b)(o:∀k,F k->k<w.heap.size)(x:eK F 232 id w d (toks.map bU))(G:∀k,i.ownBlock=Y k->F k)(z:t=bU tok)(j:y.j=.outside){c:ak->ak->Array ak}
 (L:∀r u,c r u= #[I J y.c,cu,H U,eo (ep 104) #[] #[],H y.e,I J y.a,r,I J y.number,m,a,I J y.b,I cj y.code,I cj y.h,u])
 (h:aG1 w b i d (toks.map bU) t c e w'):e=af (I J 0)/\Keeps F w w'/\cG (Since F w w') w' b y U (toks++ [tok]):=by
 obtain⟨K,rawV',g,off,cap,B,f,C,p⟩:=h
 have l:Keeps F w w':=p.mono λk p=>by
  rcases p with rfl|e|e
  .exact v
  .exact G k e
  .exact x.2 k e
 refine⟨K,l,ac v,aF o l.size,rawV',m,a,_,by rw[B,L,j];rfl,⟨?_,?_⟩,⟨λn=>?_,λn=>?_⟩⟩
 .rw[et,ij,ik,<-z];exact f
 .intro k q;cases q;exact C.elim (λe=>ac (x.2 _ e)) (λs=>bc ⟨s,f.lt rfl⟩)
 .rw[j]at n;exact absurd n (by decide)
 .rw[j]at n;exact absurd n (by decide)
def aEb(F:Nat->Prop)(w:E)(b:Nat)(x:Lx)(toks:List Tok)(c:UInt8)(a0:cG F w b x U toks)(m:x.j=.letter)(W:x.a<=x.c)(C:x.g≠ []/\x.g.length<(aH (x.g.headD 0)).length)(g1:x.c<=16777216)(g2:toks.length<=999):
 ae D 141 #[T b,I co c.toNat] w λe w'=>eV F w b x.c toks (cP x c) e w':=by
 have h0:=a0;obtain⟨X,o,g0,g3,G,p,z,B,hs⟩:=a0;have hr:=hs.g (ac m);have q:(toks.map bU).length<=1000:=by simp;omega
 obtain⟨K,f⟩:=C;obtain⟨a,h,j⟩:=List.exists_cons_of_ne_nil K;have s:=hr.2;have t:=hr.1;rw[j]at t f;simp only[List.headD_cons,dh]at f
 rcases t with⟨_,hn⟩|⟨g,off,cap,L,rfl,v,l,N,P,hi⟩
 .cases hn
 have d:w.cell? ⟨g,off,V⟩=Y (bZ a):=by rw[aA v];exact hi 0 a rfl
 have i:Win 5 bZ w (Z (g,off) (a::h).length cap) (a::h):=bc ⟨g,off,cap,L,rfl,v,l,N,P,hi⟩
 have n:∀e w',e=af (I J 94)/\w'=w->eV F w b x.c toks ⟨x,[],94⟩ e w':=by
  rintro e w' ⟨rfl,rfl⟩;exact ct (by decide) rfl (aj _ _) (jO h0)
 clear v l N P hi
 have l:∀k:Nat,cP x c=(if(aH a)[(a::h).length]?=Y c then(if(a::h).length+1=(aH a).length then⟨fu {x with g:=a::h++ [c]},[.term x.a (x.c+1-x.a) (aH a)],0⟩else⟨{x with g:=a::h++ [c]},[],0⟩)else⟨x,[],94⟩):=λ_=>by
  unfold cP;rw[j];rfl
 rw[l 0];clear l;have N:0<(a::h).length:=Nat.succ_pos _
 by_cases v:(aH a)[(a::h).length]?=Y c
 .rw[if_pos v]
  by_cases l:(a::h).length+1=(aH a).length
  .rw[if_pos l];refine(aF6 w b g off cap x.c x.a _ _ _ _ _ _ _ _ _ _ p a c _ _ z d i N v l B.1 q (by omega) (by omega)).mono λe w' P=>?_
   obtain⟨l,R,S⟩:=aLH (y:=fu {x with g:=a::h++ [c]}) (tok:=.term x.a (x.c+1-x.a) (aH a)) X o B s rfl rfl (λr u=>rfl) P;exact bz l R S
  .rw[if_neg l];refine(aIv w b g off cap _ _ _ _ _ _ _ _ _ _ _ _ _ a c _ z d i N v l).mono λe w' P=>?_
   obtain⟨l,R,S⟩:=aB7 (y:={x with g:=a::h++ [c]}) X o B s (ac m) rfl ⟨_,z⟩ (λk e=>tK i B.1 (by decide) e) (λu=>by rw[m]) P;exact bz l R (by rw[bj];exact S)
 .rw[if_neg v];exact(aF5 w b g off cap _ _ _ _ _ _ _ _ _ _ _ _ _ _ a _ c z d N (il f) (λe=>v (by rw[e];exact il f))).mono n
def aIF{c:Nat}(h:c<16^n)(a:n<=3):c<4096:=by
 match n,a,h with
 | 0,_,h=>simp at h;omega
 | 1,_,h=>omega
 | 2,_,h=>omega
 | 3,_,h=>omega
def aGi(F:Nat->Prop)(w:E)(b:Nat)(x:Lx)(toks:List Tok)(c:UInt8)(a0:cG F w b x U toks)(i:x.j=gk)(B:x.f.length<=1073741824)(hd:aJR x.h x.b x.code)(g5:x.h=0\/(55296<=x.h/\x.h<=56319)):
 ae D 188 #[T b,I co c.toNat] w λe w'=>eV F w b x.c toks (dH x c) e w':=by
 have h0:=a0;obtain⟨W,q,a,X,d,C,r,hw,hs⟩:=a0;obtain⟨g0,f,fp,-,g6,-,-⟩:=hs.text (by rw[i];rfl);have m:=aIF hd.1 hd.2.1;unfold dH;cases hv:hexOf c with
 | none=>
  refine(aIw w b x.h _ _ _ _ _ _ _ _ _ _ _ _ _ c r hv).mono ?_;rintro e w' ⟨rfl,rfl⟩
  by_cases S:x.h=0
  .rw[if_pos S];simp only[S,if_true];exact ct (by decide) rfl (aj _ _) (jO h0)
  .rw[if_neg S];simp only[S,if_false];exact ct (by decide) rfl (aj _ _) (jO h0)
 | some v=>
  have g3:=sL hv;simp only[]
  by_cases s:x.I9 v=O
  .rw[if_pos s];refine(aF7 w b x.b x.code x.h v _ _ _ _ _ _ _ _ _ _ _ c r hv s).mono ?_;rintro e w' ⟨rfl,rfl⟩;exact ct (by decide) rfl (aj _ _) (jO h0)
  rw[if_neg s]
  have n:eH x.h x.b x.code v=U:=by
   have:x.I9 v=U:=by simpa using s
   exact this
  by_cases h4:x.b+1=4
  .rw[if_pos h4];have g1:x.b=3:=by omega
   have L:=r;rw[g1]at L n;have t:=aKA (x.code*16+v) L;have o:=aD4 w b (x.code*16+v);have g4:Keeps F w (aBg w b (x.code*16+v)):=o.mono (λk e=>e▸W);have G:(aBg w b (x.code*16+v)).heap.size=w.heap.size:=by simp[aBg,cw]
   have K:=g0.1.A2 o (λk e z=>g0.1.ne r (by decide) (e.trans (congrArg Y z)));have g7:∀k,a=k->a=k:=λ_ a0=>a0
   refine aF9 w b x.code x.h v _ _ _ _ _ _ _ _ _ _ _ c _ L hv n m ?_;obtain⟨_,_,S,g2⟩:=hd
   have l1:x.h≠0->56320<=x.code*16+v/\x.code*16+v<=57343:=λa0=>by
    have:=(g2 a0).2.2 (by omega);omega
   have l2:x.h=0->¬(56320<=x.code*16+v/\x.code*16+v<=57343):=λa0=>by
    have:=(S a0).2 (by omega);omega
   unfold Lx.whole;simp only[]
   by_cases hh:x.h≠0
   .rw[if_pos hh];have N:=l1 hh;refine(aF4 _ b 4 (x.code*16+v) x.h _ _ _ _ _ _ _ _ _ d _ x.f t (by omega) (by omega) N.1 N.2 K B).mono ?_;rintro e w' ⟨rfl,g,off,cap,j,p,hg,z⟩;refine⟨rfl,?_⟩
    have hS:wJ w b d (x.f++aT (65536+(x.h-55296)*1024+(x.code*16+v)-56320)) (λu=> #[x.c,cu,H U,eo (ep 138) #[] #[],x.e,x.a,a,x.number,X,u,I J (4:Nat),I cj (x.code*16+v:Nat),I cj (0:Nat),C]) (af (I J 0)) w':=
     ⟨rfl,g,off,cap,j,p,by rw[G]at hg;exact hg,(o.mono (λk e=>ac e)).same z⟩
    obtain⟨he,l,P⟩:=aCi (y:={x with code:=x.code*16+v,b:=x.b+1,h:=0,f:=x.f++aT (65536+(x.h-55296)*1024+(x.code*16+v)-56320),j:=gl}) W q r hw hs (by rw[i];rfl) (by simp) rfl rfl (λu=>by rw[h4];rfl) hS;exact bz he l (by rw[bj];exact P)
   .rw[if_neg hh];have R:x.h=0:=by omega
    have N:=l2 R;rw[R]at t
    by_cases h:55296<=x.code*16+v/\x.code*16+v<=56319
    .rw[if_pos h];refine(aF3 _ b 4 (x.code*16+v) _ _ _ _ _ _ _ _ _ _ _ t h.1 h.2).mono ?_;rintro e w' ⟨rfl,j,z⟩;refine⟨rfl,?_⟩;obtain⟨l,P⟩:=tO (y:={x with code:=x.code*16+v,b:=x.b+1,h:=x.code*16+v,j:=.slash}) (rawV':=a) W q r hw hs (by rw[i];rfl) rfl rfl rfl (o.same z) (by rw[j,h4];rfl);exact bz rfl l (by rw[bj];exact P)
    .rw[if_neg h];refine(aIu _ b 4 (x.code*16+v) _ _ _ _ _ _ _ _ _ d _ x.f t h (by unfold fM;omega) K B).mono ?_;rintro e w' ⟨rfl,g,off,cap,j,p,hg,z⟩;refine⟨rfl,?_⟩
     have hS:wJ w b d (x.f++aT (x.code*16+v)) (λu=> #[x.c,cu,H U,eo (ep 138) #[] #[],x.e,x.a,a,x.number,X,u,I J (4:Nat),I cj (x.code*16+v:Nat),I cj (0:Nat),C]) (af (I J 0)) w':=
      ⟨rfl,g,off,cap,j,p,by rw[G]at hg;exact hg,(o.mono (λk e=>ac e)).same z⟩
     obtain⟨he,l,P⟩:=aCi (y:={x with code:=x.code*16+v,b:=x.b+1,f:=x.f++aT (x.code*16+v),j:=gl}) W q r hw hs (by rw[i];rfl) (by simp) rfl rfl (λu=>by rw[h4,R];rfl) hS;exact bz he l (by rw[bj];exact P)
  .rw[if_neg h4];have h:=hd.2.1;refine(aF8 w b x.b x.code x.h v _ _ _ _ _ _ _ _ _ _ _ c r hv n m (by omega)).mono ?_;rintro e w' ⟨he,j,z⟩;obtain⟨l,P⟩:=tO (y:={x with code:=x.code*16+v,b:=x.b+1}) (rawV':=a) W q r hw hs (by rw[i];rfl) rfl rfl (by show dJ x.j=O;rw[i];rfl) z (by rw[j,i]);exact bz he l (by rw[bj];exact P)
def aCk(F:Nat->Prop)(w:E)(b g off:Nat)(x:Lx)(toks:List Tok)(c:UInt8)(h:cG F w b x U toks)(l:w.cell? ⟨g,off,V⟩=Y (I co c.toNat))(d:x.Fine)(j:toks.length<=999):
 ae D 82 #[T b,Z (g,off) 1 1] w λe w'=>oY F w b toks (x.take c) cU e w':=by
 refine aDM F w b g off x toks c h l ?_;refine aLD (qJ x.j) (by cases x.j<;>simp[qJ]) F w b x toks c rfl h d.c λm=>?_
 have i:dJ x.j=O->x.f.length<=1073741824:=λk=>bu (d.text k).2.1 (bu d.c (by decide))
 cases a:x.j with
 | outside=>
  have f:x.B4 c=aP x c:=by unfold cz;rw[a]
  rw[f];exact tH F w b x toks c h a d.c (by omega)
 | numeral=>
  have f:x.B4 c=bX x c:=by unfold cz;rw[a]
  rw[f];exact aCh F w b x toks c h a d.a d.number (bu (d.numeral a) (bu d.c (by decide))) d.c (by omega)
 | within=>
  have f:x.B4 c=bY x c:=by unfold cz;rw[a]
  rw[f];exact step_within F w b x toks c h a d.a (i (by rw[a];rfl)) d.c (by omega)
 | letter=>
  have f:x.B4 c=cP x c:=by unfold cz;rw[a]
  rw[f];exact aEb F w b x toks c h a d.a (d.letter a).2 d.c j
 | escape=>
  have f:x.B4 c=dN x c:=by unfold cz;rw[a]
  rw[f];exact aEa F w b x toks c h a (i (by rw[a];rfl))
 | digit=>
  have f:x.B4 c=dH x c:=by unfold cz;rw[a]
  rw[f];exact aGi F w b x toks c h a (i (by rw[a];rfl)) (d.b a).2.1 (d.b a).2.2
 | slash=>
  have f:x.B4 c=fD x c:=by unfold cz;rw[a]
  rw[f];exact aGh F w b x toks c h a
 | letterU=>
  have f:x.B4 c=dS x c:=by unfold cz;rw[a]
  rw[f];exact aCj F w b x toks c h a
def aKJ{r:Rr}{a:List RFr}(h:r.e=a++ [f]):r.P3=fh {r with e:=a} (madeOf f):=by
 unfold Rr.P3;simp[h]
def aG6(w:E)(z:Nat)(s:ByteArray)(d i i1:Nat)(r:Rr)(B:List RFr)(f:RFr)(a0:aU w z s d i r i1)(hB:Bnd r d)(hp:r.e=B++ [f])(i2:r.a≠6)(G:f.object=O->f.b.length=f.a.length/\bK f.a/\f.a.Nodup):
 ae D 143 #[T z] w λe w'=>xM w z s d i r.P3 e w':=by
 rw[aKJ hp];have h4:Bnd {r with e:=B} d:=⟨hB.h,by have:=hB.e;rw[hp]at this;simp at this;show B.length<=512;omega,hB.g,hB.bytes,λg hg=>hB.b g (by rw[hp];exact List.mem_append_left _ hg)⟩;have i3:=hB.b f (by rw[hp];simp);have h5:=hB.e;obtain⟨P,i5,so,fl,bi,tx,a1,n1,m1,a2,n2,m2,X,S⟩:=a0;obtain⟨pc,C,o,K,mm,a3,g9,rfl,L,y⟩:=S.e.P6 hp;obtain⟨N,hN⟩:∃N,r.e.length=N:=⟨_,rfl⟩;have g6:N=B.length+1:=by rw[<-hN,hp];simp
 obtain⟨F,hx⟩:∃x,B.length=x:=⟨_,rfl⟩;rw[hN]at h5;rw[hx]at g6;have c:=S.a;rw[hN,g6]at c;obtain⟨pg,l,t,rfl⟩:=c.some;obtain⟨ka,kc,rfl⟩:=y.a.A7;obtain⟨va,vc,rfl⟩:=y.b.A7;rw[<-g6]at c X;obtain⟨h6,h7⟩:=L.O4;have h0:pc.flatten.length=F*4:=by rw[oE h7,h6,hx]
 have h:∀(j:Nat)(u:ak),(frC o (Z ka f.a.length kc) mm (Z va f.b.length vc))[j]?=Y u->w.cell? ⟨pg,l+F*4+j,V⟩=Y u:=by
  intro j u v;have:=c.B3 (j:=F*4+j) (u:=u) (by rw[dV,List.getElem?_append_right (by omega),h0,show F*4+j-F*4=j by omega];exact v);rw[fv];exact this
 have y0:w.cell? ⟨pg,l+F*4,V⟩=Y (H o):=h 0 _ rfl;have y1:=h 1 _ rfl;have y2:=h 2 _ rfl;have y3:=h 3 _ rfl
 have i6:N<=t:=by
  rcases c.2 with⟨v,_⟩|⟨g',R,g7,g8,v,_,hc,_⟩
  .cases v
  .cases v;exact hc
 obtain⟨⟨q0,q1,q2,q3,q4,q5,q6,q7⟩,_,qf⟩:=dF X;have h9:=ek X;have e1:J.wrap ((N:Int)-1)=(F:Int):=by rw[cv];omega
 have e2:(F:Int)<(N:Int):=by omega
 have e3:(F:Int)<=(t:Int):=by omega
 have e0:(0:Int)<=(F:Int):=by omega
 have h8:z≠pg:=by
  intro e;have:=c.ne X (by decide);simp[ee]at this;exact this e.symm
 have hW:∀W,W=(w.setCell ⟨z,4,V⟩ (Z (pg,l) F t)).alloc (Q #[o,Z ka f.a.length kc,.map (Y mm),Z va f.b.length vc] 265)->
  ag z w W/\aU W z s d i {r with e:=B} C/\Win 9 encS W (Z ka f.a.length kc) f.a/\aQ 6 34 W (Z va f.b.length vc) f.b.length g9.flatten/\l5 (λk=>C<=k) W g9 f.b/\(∀k,(Z va f.b.length vc).ownBlock=Y k->C<=k)/\C<=W.heap.size/\z<W.heap.size:=by
  rintro W rfl;have v:Keeps (λk=>k=z) w ((w.setCell ⟨z,4,V⟩ (Z (pg,l) F t)).alloc (Q #[o,Z ka f.a.length kc,.map (Y mm),Z va f.b.length vc] 265)):=((aj (λk=>k=z) w).own 4 _).A6 _;have g7:=((aj (λ_=>False) (w.setCell ⟨z,4,V⟩ (Z (pg,l) F t))).A6 (Q #[o,Z ka f.a.length kc,.map (Y mm),Z va f.b.length vc] 265)).B7 (aB (o:=4) X (Z (pg,l) F t)) id;have g8:∀k,(Z (pg,l) N t).ownBlock=Y k->¬k=z:=λk e e2=>by cases e;exact h8 e2.symm
  have R:C<=w.heap.size:=bu (bu y.g.1 (av y.g.2)) S.le;refine⟨v.C6 (av h9) λk e=>by omega,⟨_,pc,so,fl,bi,tx,a1,n1,m1,a2,n2,m2,g7,?_⟩,y.a.A2 v λk e e2=>y.a.ne X (by decide) (e2▸e),y.b.A2 v λk e e2=>y.b.ne X (by decide) (e2▸e),(y.c.A2 v λk _ _ e=>by subst e;exact .of X (by decide) (by decide)).mono λk e _=>e.1,λk e=>(y.e k e).1,bu R v.size,cg h9 v.size⟩;have ht:=(c.A2 v g8).take (k:=F) (by omega);rw[dV,List.take_left' h0]at ht;refine⟨bu R v.size,?_,S.b,L.A2 v λk _ _ e=>by subst e;exact .of X (by decide) (by decide),λe=>absurd e i2⟩
  show aQ 4 265 _ _ B.length _
  rw[hx];exact ht
 have i7:=A (And.intro y.i G);have i0:=A (And.intro h4 i3)
 cases o with
 | false=>
  have g7:madeOf f=.list f.b:=by unfold madeOf;rw[<-y.i];rfl
  rw[g7];have R:=A (hW _ rfl);clear hN g6 hx hW h4 h0 h L S c X h5 h6 h7 h8 y g7 G;have HP:=A (oG _ z s d i C _ R.o.2.1 i0.o.1 5 U 0 ⟨#[]⟩ va f.b.length vc V 0 0 (.list f.b) (.list _ g9 f.b R.o.2.2.2.1 R.o.2.2.2.2.2.1 R.o.2.2.2.2.1.1 R.o.2.2.2.2.1.2));go_enter func143,ntmps143;go_wp2_with fail;refine HP.o.mono ?_;rintro e w6 ⟨rfl,g8,v⟩;have HF:=A (And.intro g8 v);clear g8 v;go_wp2
  go_end0
  exact⟨rfl,R.o.1.trans HF.o.1,HF.o.2⟩
 | true=>
  obtain⟨h1,h2,h3⟩:=G y.i.symm;have g7:madeOf f=.object (dC f.a) (besides f.a f.b):=by unfold madeOf;rw[<-y.i];rfl
  rw[g7];have R:=A (hW _ rfl);have i4:f.a.length<=65536:=by omega
  have HM:=A (aHU _ _ _ _ f.a f.b g9 R.o.2.2.1 R.o.2.2.2.1 R.o.2.2.2.2.1 h1 i4 h2 h3);clear hN g6 hx hW h4 h0 h L S c X h5 h6 h7 h8 y g7 G h1 h2 h3;go_enter func143,ntmps143;go_wp2_with fail;refine HM.o.mono ?_;rintro e G ⟨a,n,m,b,p,q,rfl,h,c⟩;have HP:=A (oG G z s d i C _ (R.o.2.1.C3 (cr _ c)) i0.o.1 6 U 0 ⟨#[]⟩ a n m b p q _ (h.mono λk e _=>e.elim id λe=>bu R.o.2.2.2.2.2.2.1 e));have y:=A (R.o.1.trans (c.mono (av R.o.2.2.2.2.2.2.2)));clear h c;go_wp2_with fail;refine HP.o.mono ?_;rintro e w6 ⟨rfl,g8,v⟩;have HF:=A (And.intro g8 v);clear g8 v;go_wp2
  go_end0
  exact⟨rfl,y.o.trans HF.o.1,HF.o.2⟩
def aLJ{W:E}{y C F t x c g off cap nb:Nat}{r:Rr}{h:List RFr}{X:Int}{fl o:Bool}{bi:Nat}{tx:ByteArray}{a1 a2:Option di}{n1 m1 n2 m2:Nat}{K a0:ak}{S G:List (List ak)}{dc:List ak}{B:Oo}
 (hb:w.heap[m]?=Y (Q (rdC s d i r.a (Z (n,b) (x+1) c) r.g r.bytes X fl bi tx (Z a1 n1 m1) (Z a2 n2 m2) 0 0 0) 172 (0,0)))(p:oF w m (Z (n,b) (x+1) c) (S++ [frC o K t a0]) dc r C)
 (hx:h.length=x)(u:eR w m S h F)(a:jZ F C w o K t a0 G f)
 (L:Keeps (λk=>K.ownBlock=Y k\/k=n\/k=t\/k=m) w W)(g5:W.heap[m]?=Y (Q (rdC s d y 4 (Z (n,b) (x+1) c) r.g nb X fl bi tx (Z a1 n1 m1) (Z a2 n2 m2) 0 0 0) 172 (0,0)))
 (N:Win 9 encS W (Z (g,off) (f.a.length+1) cap) (f.a++ [B]))(hg:K.ownBlock=Y g\/w.heap.size<=g)(P:dY W t (B::f.a.reverse))
 (g6:aQ 4 265 W (Z (n,b) (x+1) c) (x+1) (S++ [frC o (Z (g,off) (f.a.length+1) cap) t a0]).flatten):
 ag m w W/\aU W m s d y {r with bytes:=nb,e:=h++ [{f with a:=f.a++ [B]}],a:=4} W.heap.size:=by
 have g7:=ek hb;have j:fC w n:=by obtain⟨cc,hc⟩:=p.a.E0 (k:=n) rfl;exact .of hc (by decide) (by decide)
 have v:fC w m:=.of hb (by decide) (by decide);have g9:m<=n:=p.b n rfl;have h0:=u.le;have h3:=p.le;have g8:=a.g;have h4:=L.size;have R:g<W.heap.size:=N.lt rfl;refine⟨L.C6 (av g7) ?_,_,S++ [frC o (Z (g,off) (f.a.length+1) cap) t a0],X,fl,bi,tx,a1,n1,m1,a2,n2,m2,g5,?_⟩
 .rintro k (e|e|e|e)
  .have:=a.h k e;omega
  .omega
  .omega
  .omega
 .refine⟨ai _,?_,p.b,?_,λe=>by simp at e⟩
  .have l:(h++ [{f with a:=f.a++ [B]}]).length=x+1:=by simp[hx]
   show aQ 4 265 _ _ (h++ [{f with a:=f.a++ [B]}]).length _
   rw[l];exact g6
  .refine .snoc (u.A2 L ?_) o _ t _ G _ ⟨a.i,N,?_,?_,⟨g8.1,by omega⟩,?_,λk e=>⟨(a.e k e).1,by have:=(a.e k e).2;omega⟩,?_⟩
   .rintro k-l (e|e|e|e)
    .have:=a.h k e;omega
    .exact e▸j
    .omega
    .exact e▸v
   .intro k e;obtain rfl:g=k:=by simpa[ee]using e
    refine⟨?_,R⟩;rcases hg with e|e
    .exact(a.h _ e).1
    .omega
   .show dY W t (f.a++ [B]).reverse
    rw[List.reverse_append];exact P
   .refine a.b.A2 L ?_;rintro k e (z|z|z|z)
    .obtain⟨cc,hc⟩:=a.a.E0 z;obtain⟨c2,l⟩:=a.b.E0 e;rw[hc]at l;cases l
    .obtain⟨c2,a3,l,h9,_⟩:=j;obtain⟨c3,q⟩:=a.b.E0 e;rw[<-z,q]at l;cases l;exact h9 rfl
    .rw[z]at e;exact a.d.own a.b e
    .obtain⟨c3,q⟩:=a.b.E0 e;rw[z,hb]at q;cases q
   .refine(a.c.A2 L ?_).mono ?_
    .rintro k l _ (e|e|e|e)
     .exact absurd e l.2.2.2.1
     .exact e▸j
     .exact absurd e l.2.2.2.2
     .exact e▸v
    .intro k l _;refine⟨l.1,by omega,l.2.2.1,λe=>?_,l.2.2.2.2⟩;obtain rfl:g=k:=by simpa[ee]using e
     rcases hg with e|e
     .exact l.2.2.2.1 e
     .omega
def aKL{W L:E}{c y N P l h j g off cap nb:Nat}{S:ByteArray}{r:Rr}{x:List RFr}{so:Int}{fl o:Bool}{bi:Nat}{tx:ByteArray}{a1 a2 n:Option di}{n1 m1 n2 m2:Nat}{a0:ak}{R g6:List (List ak)}{dc:List ak}{X:Oo}(hS:S=⟨X.toArray⟩)
 (hb:W.heap[c]?=Y (Q (rdC s d i r.a (Z (h,a) (b+1) j) r.g r.bytes so fl bi tx (Z a1 n1 m1) (Z a2 n2 m2) 0 0 0) 172 (0,0)))(g7:oF W c (Z (h,a) (b+1) j) (R++ [frC o (Z n f.a.length m) l a0]) dc r N)
 (hx:x.length=b)(g3:eR W c R x P)(hf:jZ P N W o (Z n f.a.length m) l a0 g6 f)(i2:aQ 4 265 W (Z (h,a) (b+1) j) (b+1) (R++ [frC o (Z n f.a.length m) l a0]).flatten)(g8:R.flatten.length=b*4)
 (g9:L.heap[c]?=Y (Q (rdC s d y r.a (Z (h,a) (b+1) j) r.g nb so fl bi tx (Z a1 n1 m1) (Z a2 n2 m2) 0 0 0) 172 (0,0)))(g4:Keeps (λk=>k=l\/k=c) W L)(z:dY L l (X::f.a.reverse))(h0:c≠h)(h4:l≠c)(h5:l≠h)
 (h6:(Z n f.a.length m).ownBlock≠Y c)(h7:(Z n f.a.length m).ownBlock≠Y h)(h8:(Z n f.a.length m).ownBlock≠Y l)(B:aQ 4 265 L (Z (h,a) (b+1) j) (b+1) (R++ [frC o (Z n f.a.length m) l a0]).flatten)
 (h1:aQ 1 9 w' (Z (g,off) (f.a.length+1) cap) (f.a.length+1) (f.a.map encS++ [ao S]))(h2:(Z n f.a.length m).ownBlock=Y g\/L.heap.size<=g)(h3:Keeps (λk=>(Z n f.a.length m).ownBlock=Y k) L w'):
 ag c W ((w'.setCell ⟨h,a+b*4+1,V⟩ (Z (g,off) (f.a.length+1) cap)).setCell ⟨c,3,V⟩ (I J 4))/\
 aU ((w'.setCell ⟨h,a+b*4+1,V⟩ (Z (g,off) (f.a.length+1) cap)).setCell ⟨c,3,V⟩ (I J 4)) c s d y {r with bytes:=nb,e:=x++ [{f with a:=f.a++ [X]}],a:=4} ((w'.setCell ⟨h,a+b*4+1,V⟩ (Z (g,off) (f.a.length+1) cap)).setCell ⟨c,3,V⟩ (I J 4)).heap.size:=by
 have h9:Keeps (λk=>(Z n f.a.length m).ownBlock=Y k\/k=h\/k=l\/k=c) W ((w'.setCell ⟨h,a+b*4+1,V⟩ (Z (g,off) (f.a.length+1) cap)).setCell ⟨c,3,V⟩ (I J 4)):=
  ((((g4.mono (G:=λk=>(Z n f.a.length m).ownBlock=Y k\/k=h\/k=l\/k=c) λk e=>bc (bc e)).trans h3 λk e=>ac (ac e)).A3 (p:=⟨h,a+b*4+1,V⟩) (ac (bc (ac rfl))) _).A3 (p:=⟨c,3,V⟩) (ac (bc (bc (bc rfl)))) _)
 have q:=B.A2 h3 (λk e C=>by cases e;exact h7 C);have F:=(aj (λk=>k=h) w').own (a+b*4+1) (Z (g,off) (f.a.length+1) cap);have t:=F.B7 (h3.B7 g9 h6) h0;have u:=(aj (λk=>k=c) (w'.setCell ⟨h,a+b*4+1,V⟩ (Z (g,off) (f.a.length+1) cap))).own 3 (I J 4);have v:Win 9 encS w' (Z (g,off) (f.a.length+1) cap) (f.a++ [X]):=aQ.E8 (by rw[et,List.map_singleton,show encS X=ao S by rw[hS];rfl];exact h1)
 have w:=v.A2 F (λk e C=>by
  obtain⟨cc,K⟩:=v.E0 e;exact q.ne K (by decide) (by rw[C];rfl))
 have g5:=w.A2 u (λk e C=>by
  obtain⟨cc,K⟩:=w.E0 e;rw[C,t]at K;cases K)
 have K:=q.B5 (b*4+1) (Z (g,off) (f.a.length+1) cap);rw[dV,List.set_append_right _ _ (by omega),g8,show b*4+1-b*4=1 by omega,<-fv]at K
 have i0:=K.A2 u (λk e C=>by
  subst C;exact K.ne t (by decide) e)
 have i1:=((z.A2 h3 h8).A2 F h5).A2 u h4;exact aLJ hb g7 hx g3 hf h9 (aB (o:=3) t _) g5 (h2.imp id λe=>bu g4.size e) i1 (by rw[dV];exact i0)
