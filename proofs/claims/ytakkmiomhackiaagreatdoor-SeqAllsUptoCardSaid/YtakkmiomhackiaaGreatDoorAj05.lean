/-
  The program, one part of its walk. Conditions: none.
-/
import Derived.Test.YtakkmiomhackiaaGreatDoorAj04
import Derived.Laws.IdiomStrings
import Derived.Laws.BytesArg
import Derived.Defers
import Derived.Recover
import Derived.Laws.Externs
import Derived.Laws.BitsAllLaws
set_option linter.all false
set_option maxRecDepth 100000
set_option maxHeartbeats 16000000
open Go.Proofs.Tryz
open Array renaming getElem_mem_toList->fv,replicate->go
open Bool renaming false->U,true->Z
open Go renaming Addr->dh,Calls->Q,CallsD->gm,Ending->dt,TypeId->dl,Value->O,World->N,bodyPostS->gu,callsD_of_wpS->gn,cell_of_one->bw,free_of_one->ew,info_parts->ii,lt_of_block->bs,maxLen->gj,recoverD->dy,results->ah,run_callFunc_extern->il,wpOpsS->dp,wpS_cond->gp,wpS_region->dm,wpS_seq->dx
open Go.Exit renaming thenS->ee
open Go.Proofs.Tryz renaming func109->co,func134->eh,func140->eo,func168->ge,func175->fk,func189->ct,ntmps109->cr,ntmps134->ei,ntmps140->ep,ntmps168->gh,ntmps175->fm,ntmps189->cu,prog->X,results189->cw,results194->iv,results209->fh,results229->io
open Go.Proofs.YtakkmiomhackiaaGreatDoor.Tryz renaming I2->gw
open List renaming length->ig,mem_append_right->fz
open Option renaming none->K,some->J
open Or renaming inl->D,inr->aw
namespace Go.Proofs.YtakkmiomhackiaaGreatDoor
open Go.RowKit
open Act renaming eval->gq
open Ending renaming returned->E
open Extern.MathFloatBits renaming float64bits->jc,float64frombits->jd
open FloatKind renaming f64->ao
open Fn renaming func->em
open FrameMode renaming panicking->iw,returning->fj
open IntKind renaming i32->dw,i64->S,u64->ak,u8->ag
open Lib renaming toList_data->fw,trimLeftB->cz,trimRightB->gk
open Obj renaming cells->W
open Keeps renaming A2->bj,A4->bx
open Lim renaming bitlen->fu,val->gx
open Sz renaming B9->fe
open Tr renaming A9->jb,list->fq,object->ft,text->dq
open RowKit renaming Below->aj,intOf->du
open Value renaming agg->ae,bool->Y,float->bh,func->ek,iface->ac,int->I,nilIface->bk,pointer->af,slice->bg,string->ar,tuple->ai
variable {T:dl}{a:List Tr}{i:Nat}{neg:Bool}{r:Oo}{t:Tr}
def lM(s:Nat)(b:s<=8)(w:N):Q X 109 #[s] w λe w'=>e=E (Y (bL s))/\w'=w:=by
 have a:s=0\/s=1\/s=2\/s=3\/s=4\/s=5\/s=6\/s=7\/s=8:=by omega
 rcases a with rfl|rfl|rfl|rfl|rfl|rfl|rfl|rfl|rfl
 .rw[show bL 0=U from rfl];simp only[gL,pb,od];go_enter co,cr;go_wp2;go_ret;exact⟨rfl,rfl⟩
 .rw[show bL 1=U from rfl];simp only[gL,pb,od];go_enter co,cr;go_wp2;go_ret;exact⟨rfl,rfl⟩
 .rw[show bL 2=Z from rfl];simp only[gL,pb,od];go_enter co,cr;go_wp2;go_ret;exact⟨rfl,rfl⟩
 .rw[show bL 3=Z from rfl];simp only[gL,pb,od];go_enter co,cr;go_wp2;go_ret;exact⟨rfl,rfl⟩
 .rw[show bL 4=U from rfl];simp only[gL,pb,od];go_enter co,cr;go_wp2;go_ret;exact⟨rfl,rfl⟩
 .rw[show bL 5=Z from rfl];simp only[gL,pb,od];go_enter co,cr;go_wp2;go_ret;exact⟨rfl,rfl⟩
 .rw[show bL 6=U from rfl];simp only[gL,pb,od];go_enter co,cr;go_wp2;go_ret;exact⟨rfl,rfl⟩
 .rw[show bL 7=U from rfl];simp only[gL,pb,od];go_enter co,cr;go_wp2;go_ret;exact⟨rfl,rfl⟩
 .rw[show bL 8=Z from rfl];simp only[gL,pb,od];go_enter co,cr;go_wp2;go_ret;exact⟨rfl,rfl⟩
def iK(c:UInt8)(w:N):Q X 134 #[I ag c.toNat] w λe w'=>e=E (Y (aI c))/\w'=w:=by
 by_cases a:c=32
 .have d:aI c=Z:=by rw[a];rfl
  have g:=A d;have i:(c.toNat:Int)=32:=by rw[a];rfl
  clear d a;go_enter eh,ei;go_wp2;go_ret;exact⟨by rw[g.o];rfl,rfl⟩
 by_cases h:c=9
 .have d:aI c=Z:=by rw[h];rfl
  have g:=A d;have i:(c.toNat:Int)=9:=by rw[h];rfl
  clear d a h;go_enter eh,ei;go_wp2;go_ret;exact⟨by rw[g.o];rfl,rfl⟩
 by_cases b:c=10
 .have d:aI c=Z:=by rw[b];rfl
  have g:=A d;have i:(c.toNat:Int)=10:=by rw[b];rfl
  clear d a h b;go_enter eh,ei;go_wp2;go_ret;exact⟨by rw[g.o];rfl,rfl⟩
 by_cases f:c=13
 .have d:aI c=Z:=by rw[f];rfl
  have g:=A d;have i:(c.toNat:Int)=13:=by rw[f];rfl
  clear d a h b f;go_enter eh,ei;go_wp2;go_ret;exact⟨by rw[g.o];rfl,rfl⟩
 have d:aI c=U:=by simp[aI,a,h,b,f]
 have g:=A d;obtain⟨-,l,-⟩:=aD (c:=c) (n:=32) a rfl;obtain⟨-,m,-⟩:=aD (c:=c) (n:=9) h rfl;obtain⟨-,j,-⟩:=aD (c:=c) (n:=10) b rfl;obtain⟨-,k,-⟩:=aD (c:=c) (n:=13) f rfl;clear d a h b f;go_enter eh,ei;go_wp2;go_ret;exact⟨by rw[g.o];rfl,rfl⟩
def lN(c:UInt8)(w:N):Q X 140 #[I ag c.toNat] w λe w'=>e=E (ar ⟨(aH c).toArray⟩)/\w'=w:=by
 by_cases a:c=110
 .have f:aH c= [110,117,108,108]:=by rw[a];rfl
  have g:=A f;have h:(c.toNat:Int)=110:=by rw[a];rfl
  clear f a;go_enter eo,ep;go_wp2;go_ret;exact⟨by rw[g.o];rfl,rfl⟩
 by_cases b:c=116
 .have f:aH c= [116,114,117,101]:=by rw[b];rfl
  have g:=A f;have h:(c.toNat:Int)=116:=by rw[b];rfl
  clear f a b;go_enter eo,ep;go_wp2;go_ret;exact⟨by rw[g.o];rfl,rfl⟩
 by_cases d:c=102
 .have f:aH c= [102,97,108,115,101]:=by rw[d];rfl
  have g:=A f;have h:(c.toNat:Int)=102:=by rw[d];rfl
  clear f a b d;go_enter eo,ep;go_wp2;go_ret;exact⟨by rw[g.o];rfl,rfl⟩
 have f:aH c= []:=by simp[aH,a,b,d]
 have g:=A f;obtain⟨-,i,-⟩:=aD (c:=c) (n:=110) a rfl;obtain⟨-,k,-⟩:=aD (c:=c) (n:=116) b rfl;obtain⟨-,j,-⟩:=aD (c:=c) (n:=102) d rfl;clear f a b d;go_enter eo,ep;go_wp2;go_ret;exact⟨by rw[g.o];rfl,rfl⟩
def aK6(o:Option UInt8)(e:dt):Prop:=match o with
 | some b=>e=E (ai #[I ag b.toNat,Y Z])
 | none=>e=E (ai #[I ag 0,Y U])
def aCI(c:UInt8)(w:N):Q X 189 #[I ag c.toNat] w λe w'=>aK6 (cO c) e/\w'=w:=by
 by_cases b:c=34
 .have d:cO c=J 34:=by rw[b];rfl
  have l:=A d;have m:(c.toNat:Int)=34:=by rw[b];rfl
  clear d b;go_enter ct,cu;go_wp2;exact bb (v:=ai #[I ag 34,Y Z]) (by simp[ah,cw,go_sem,m]) rfl ⟨by rw[l.o];rfl,rfl⟩
 by_cases g:c=92
 .have d:cO c=J 92:=by rw[g];rfl
  have l:=A d;have m:(c.toNat:Int)=92:=by rw[g];rfl
  clear d b g;go_enter ct,cu;go_wp2;exact bb (v:=ai #[I ag 92,Y Z]) (by simp[ah,cw,go_sem,m]) rfl ⟨by rw[l.o];rfl,rfl⟩
 by_cases h:c=47
 .have d:cO c=J 47:=by rw[h];rfl
  have l:=A d;have m:(c.toNat:Int)=47:=by rw[h];rfl
  clear d b g h;go_enter ct,cu;go_wp2;exact bb (v:=ai #[I ag 47,Y Z]) (by simp[ah,cw,go_sem,m]) rfl ⟨by rw[l.o];rfl,rfl⟩
 by_cases j:c=98
 .have d:cO c=J 8:=by rw[j];rfl
  have l:=A d;have m:(c.toNat:Int)=98:=by rw[j];rfl
  clear d b g h j;go_enter ct,cu;go_wp2;exact bb (v:=ai #[I ag 8,Y Z]) (by simp[ah,cw,go_sem,m]) rfl ⟨by rw[l.o];rfl,rfl⟩
 by_cases a:c=102
 .have d:cO c=J 12:=by rw[a];rfl
  have l:=A d;have m:(c.toNat:Int)=102:=by rw[a];rfl
  clear d b g h j a;go_enter ct,cu;go_wp2;exact bb (v:=ai #[I ag 12,Y Z]) (by simp[ah,cw,go_sem,m]) rfl ⟨by rw[l.o];rfl,rfl⟩
 by_cases f:c=110
 .have d:cO c=J 10:=by rw[f];rfl
  have l:=A d;have m:(c.toNat:Int)=110:=by rw[f];rfl
  clear d b g h j a f;go_enter ct,cu;go_wp2;exact bb (v:=ai #[I ag 10,Y Z]) (by simp[ah,cw,go_sem,m]) rfl ⟨by rw[l.o];rfl,rfl⟩
 by_cases i:c=114
 .have d:cO c=J 13:=by rw[i];rfl
  have l:=A d;have m:(c.toNat:Int)=114:=by rw[i];rfl
  clear d b g h j a f i;go_enter ct,cu;go_wp2;exact bb (v:=ai #[I ag 13,Y Z]) (by simp[ah,cw,go_sem,m]) rfl ⟨by rw[l.o];rfl,rfl⟩
 by_cases k:c=116
 .have d:cO c=J 9:=by rw[k];rfl
  have l:=A d;have m:(c.toNat:Int)=116:=by rw[k];rfl
  clear d b g h j a f i k;go_enter ct,cu;go_wp2;exact bb (v:=ai #[I ag 9,Y Z]) (by simp[ah,cw,go_sem,m]) rfl ⟨by rw[l.o];rfl,rfl⟩
 have d:cO c=K:=by simp[cO,b,g,h,j,a,f,i,k]
 have l:=A d;obtain⟨-,s,-⟩:=aD (c:=c) (n:=34) b rfl;obtain⟨-,x,-⟩:=aD (c:=c) (n:=92) g rfl;obtain⟨-,u,-⟩:=aD (c:=c) (n:=47) h rfl;obtain⟨-,t,-⟩:=aD (c:=c) (n:=98) j rfl;obtain⟨-,r,-⟩:=aD (c:=c) (n:=102) a rfl;obtain⟨-,o,-⟩:=aD (c:=c) (n:=110) f rfl;obtain⟨-,p,-⟩:=aD (c:=c) (n:=114) i rfl;obtain⟨-,q,-⟩:=aD (c:=c) (n:=116) k rfl;clear d b g h j a f i k;go_enter ct,cu;go_wp2;exact bb (v:=ai #[I ag 0,Y U]) (by simp[ah,cw,go_sem]) rfl ⟨by rw[l.o];rfl,rfl⟩
def rH(l:List UInt8):Prop:=∀x∈l,48<=x.toNat/\x.toNat<=57
def aIy(l:Oo):bO (cz l 48)=bO l:=by
 unfold cz
 induction l with
 | nil=>rfl
 | cons x l a=>
  by_cases h:x=48
  .subst h;rw[List.dropWhile_cons_of_pos (by simp),a];exact(aEv 1 l).symm
  .rw[List.dropWhile_cons_of_neg (by simpa using h)]
def aKB(l:Oo):∀x∈cz l 48,x∈l:=λ_ a=>(np _).subset a
def aKC(l:Oo):(cz l 48).length<=l.length:=(np _).length_le
def aCe(n:Nat):10^(3*n)<=2^(10*n):=by
 rw[na,na];exact Nat.pow_le_pow_left (by decide) n
def aLF{n m k:Nat}(h:n<2^m)(a:m<=k):fu n<=k:=by
 rw[Lim.bitlen_le];exact a7 h (ju (by decide) a)
def aIz{l:Oo}(h:l.length<=2400)(b:∀x∈l,x.toNat<=57):fu (bO l)<=8192:=by
 obtain⟨m,c,a⟩:∃m:Nat,l.length<=3*m/\10*m<=8192:=⟨800,h,by decide⟩;exact aLF (a7 (kH b) (bo (ju (by decide) c) (aCe m))) a
def uT(s:ByteArray)(w:N)(c:rH s.data.toList)(h0:s.size≠0)(hl:s.size<=2400):
 Q X 230 #[s] w λe w'=>pB w (bO s.data.toList) bk e w':=by
 have a:s.data.toList.length=s.size:=jt;have HD:=A c;clear c;go_enter func230,ntmps230;go_wp2_with fail;go_loop [12] (λi=>∃k:Nat,k<=s.size/\i=I S k) (λi=>s.size-(du i).toNat)
 case atStart=>exact⟨0,by omega,rfl⟩
 case round=>
  obtain⟨k,hk,rfl⟩:=hrel;by_cases j:k<s.size
  .obtain⟨c,f⟩:=HD.o s[k] (fv j);have g:¬((s[k].toNat:Nat):Int)<48:=(by omega);have h:¬(57:Int)<((s[k].toNat:Nat):Int):=(by omega);go_wp2_with fail;refine⟨⟨k+1,by omega,by go_num⟩,by simp[du];omega⟩
  .have g:s.toList.isEmpty=U:=by
    rw[fw];cases c:s.data.toList with
    | nil=>rw[c]at a;exact absurd a.symm h0
    | cons x r=>rfl
   have h5:=A a;clear a;go_wp2_with fail;refine(gw s 48 (by decide) _).mono ?_;rintro e w1 ⟨rfl,rfl⟩;have a:rH (cz s.data.toList 48):=λx f=>HD.o x (aKB _ x f);have h:(cz s.data.toList 48).length<=2400:=bo (aKC _) (by have:=h5.o;omega);have c:=aIy s.data.toList;generalize cz s.data.toList 48=T at*;have P:=A c;have p:=A a;clear c a g;obtain⟨t,g⟩:∃t:ByteArray,(⟨T.toArray⟩:ByteArray)=t:=⟨_,rfl⟩;have a:t.data.toList=T:=(by rw[<-g]);have c:t.size=T.length:=(by rw[<-g];rfl);rw[g];have h6:=A a;clear g a;have a:¬(2500:Int)<(t.size:Int):=(by omega);go_wp2_with fail;have h7:t.size<=2400:=(by omega);have R:=A c;clear c h a;have a:=aL w (W #[()] 381);have V:=A a;clear a
   go_loopw [0,5] (λd v wr=>∃(H:Oo)(a:ByteArray)(r:List Nat),d=ar a/\M (T=H++a.data.toList)/\a.size<=2400/\Wds wr v r/\Lim.Small r/\M (gx r=bO H)/\r.length<=H.length/\M (aj w w wr)/\
    M (wr.heap[w.heap.size]?=J (W #[()] 381 (0,0)))) (λd _ _=>match d with| .string b=>b.size|_=>0)
   case atStart=>exact⟨[],t,[],rfl,A (by rw[h6.o];rfl),h7,Wds.nil _,(λx f=>by cases f),A rfl,hU _,A ((dk _ _).alloc (hU _) _),V⟩
   case round=>
    obtain⟨H,a,r,rfl,L,i3,hw,g4,u,i2,y,g5⟩:=hrel;by_cases B:a.size=0
    .have F:¬(0:Int)<(a.size:Int):=(by omega);go_wp2_with fail
     have g:bO T=bO H:=by
      have:a.data.toList= []:=List.eq_nil_of_length_eq_zero (by rw[jt];exact B);rw[L.o,this,List.append_nil]
     have c:fu (bO T)<=8192:=aIz (by have:=R.o;omega) (λx f=>(p.o x f).2);have HV:=A (show gx r=bO s.data.toList by rw[u.o,<-g,P.o]);rw[P.o]at c;have HF:=A c;clear g c;refine(jW _ r _ g4 hw).mono ?_;rintro e w2 ⟨a2,k2,c2,rfl,h,g⟩;have m:=A (keep g5.o g);have o:=A (chain y.o g);rw[HV.o]at h;have C:=A h;clear h g;go_wp2_with fail;refine(nQ a2 k2 c2 (bO s.data.toList) _ C.o (bo (Lim.short (k:=128) HF.o) (by decide))).mono ?_;rintro e w3 ⟨a3,k3,c3,rfl,q,z⟩;have c:=A (keep m.o z);have G:=A (chain o.o z);rw[wR HF.o]at q;rw[aCw HF.o];have g6:=A q;clear q z;have q:=bw c.o;have z:=ew c.o;go_wp2_with fail;exact bb (v:=ai #[ae #[bg a3 k3 c3],bk]) (by simp[ah,results230,go_sem,q]) rfl ⟨a3,k3,c3,rfl,g6.o.E0 c.o (by decide) _ _,G.o.setCell (hU _) _⟩
    .have F:(0:Int)<(a.size:Int):=(by omega);obtain⟨k,hk⟩:∃k:Nat,min 18 a.size=k:=⟨_,rfl⟩;have h8:k<=18:=(by omega);have j:k<=a.size:=(by omega);have i4:1<=k:=(by omega);have i5:min (18:Int) (a.size:Int)=(k:Int):=(by omega);clear hk;go_wp2_with fail;clear B F;go_loop [49,7,8] (λi x q=>∃n:Nat,n<=k/\i=I S n/\x=I ak (bO (a.data.toList.take n):Nat)/\q=I ak (10^n:Nat)) (λi _ _=>k-(du i).toNat)
     case atStart=>exact⟨0,by omega,rfl,rfl,rfl⟩
     case round=>
      obtain⟨n,hn,rfl,rfl,rfl⟩:=hrel;by_cases i6:n<k
      .have F:n<a.size:=(by omega);have g8:=p.o a[n] (by rw[L.o];exact fz _ (fv F))
       have c:bO (a.data.toList.take (n+1))=10*bO (a.data.toList.take n)+(a[n].toNat-48):=by
        rw[List.take_succ,bf (by rw[jt];exact F)];exact tP _ _
       have G:bO (a.data.toList.take n)<10^n:=by
        have:=kH (l:=a.data.toList.take n) (λx f=>(p.o x (by rw[L.o];exact fz _ (nz f))).2);rwa[el,mh (by rw[jt];exact iF F)]at this
       have hp:10^n<=10^17:=ju (by decide) (by omega);have g6:10^(n+1)=10^n*10:=Nat.pow_succ 10 n;have z:(((10^(n+1):Nat)):Int)=((10^n:Nat):Int)*10:=(by rw[g6];omega);have B:((bO (a.data.toList.take (n+1)):Nat):Int)=10*((bO (a.data.toList.take n):Nat):Int)+(((a[n].toNat:Nat):Int)-48):=(by rw[c];omega);have g7:=A B;have g9:=A z;clear c B g6 z;have c:(10:Nat)^17=100000000000000000:=(by decide);rw[c]at hp;clear c;obtain⟨x,f⟩:∃x,bO (a.data.toList.take n)=x:=⟨_,rfl⟩;obtain⟨q,c⟩:∃x,10^n=x:=⟨_,rfl⟩;rw[f,c]at G;rw[c]at hp;simp only[f,c]at*;clear f c;obtain⟨dg,z⟩:∃d,a[n].toNat=d:=⟨_,rfl⟩;simp only[z]at g8 g7;go_wp2_with fail;refine⟨⟨n+1,by omega,by go_num,congrArg (I ak) g7.o.symm,congrArg (I ak) g9.o.symm⟩,by simp[du];omega⟩
      .have B:n=k:=(by omega);subst B
       have G:bO (a.data.toList.take n)<10^n:=by
        have:=kH (l:=a.data.toList.take n) (λx f=>(p.o x (by rw[L.o];exact fz _ (nz f))).2);rwa[el,mh (by rw[jt];exact j)]at this
       have hp:10^n<=10^18:=ju (by decide) h8;have z:(10:Nat)^18=1000000000000000000:=(by decide);rw[z]at hp
       have F:T=(H++a.data.toList.take n)++(a.extract n a.size).data.toList:=by
        have he:(a.extract n a.size).data.toList=a.data.toList.drop n:=by
         simp[lj]
        rw[he,List.append_assoc,lm];exact L.o
       have g6:bO (H++a.data.toList.take n)=bO H*10^n+bO (a.data.toList.take n):=by
        have:=jV H (a.data.toList.take n);rwa[el,mh (by rw[jt];exact j)]at this
       have g7:(H++a.data.toList.take n).length=H.length+n:=by
        rw[cn,el,mh (by rw[jt];exact j)]
       have g8:(a.extract n a.size).size=a.size-n:=by simp
       have i7:H.length<=2400:=by
        have:=congrArg ig L.o;rw[cn]at this;have:=R.o;omega
       have h9:=A F;have i0:=A g6;have i1:=A g7;have g9:=A g8;clear z F g6 g7 g8;obtain⟨x,f⟩:∃x,bO (a.data.toList.take n)=x:=⟨_,rfl⟩;obtain⟨q,c⟩:∃x,10^n=x:=⟨_,rfl⟩;rw[f,c]at G;rw[c]at hp;simp only[f,c]at*;clear f c;go_wp2_with fail;refine(aAH _ r q x _ hw g4 (by omega) (by omega) (by omega)).mono ?_;rintro e w2 ⟨a2,c2,r2,rfl,h,c,f,z,g⟩;have m:=A (keep g5.o g);have o:=A (chain y.o g);have F:=A f;have g6:=A z;have C:=A h;clear f z g h;go_wp2_with fail;refine⟨⟨H++a.data.toList.take n,a.extract n a.size,r2,rfl,h9,by rw[g9.o];omega,C.o,c,A (by rw[F.o,u.o,i0.o]),by rw[i1.o,g6.o];omega,o,m⟩,?_⟩;show(a.extract n a.size).size<a.size;rw[g9.o];omega
def rZ(w:N)(b:Nat)(no:Int)(c:Array O)(e:dt)(w':N):Prop:=e=E (I S no)/\w'.heap[b]?=J (W c 228 (0,0))/\Keeps (λk=>k=b) w w'
def aHf(w:N)(b:Nat)(x o s z t j i q y l r m v u:O)(a:UInt8)(h:w.heap[b]?=J (W #[x,o,s,z,t,j,i,q,y,l,r,m,v,u] 228 (0,0))):
 Q X 223 #[af b,I ag a.toNat] w λe w'=>(a=92->rZ w b 0 #[x,o,s,ek (em 241) #[] #[],t,j,i,q,y,l,r,m,v,u] e w')/\(a≠92->e=E (I S 93)/\w'=w):=by
 obtain⟨-,-,-,F,-,-,-,-,-,-,-,-,-,-,G⟩:=aN h;have H:=A h;clear h;by_cases d:a=92
 .have L:(a.toNat:Int)=92:=by rw[d];rfl
  have g:=A d;clear d;go_enter func223,ntmps223;go_wp2;go_ret;exact⟨λ_=>⟨rfl,aB H.o _,(bx (λk=>k=b) w).A3 (p:=⟨b,3,K⟩) (D rfl) _⟩,λf=>absurd g.o f⟩
 .obtain⟨-,-,C⟩:=aD (c:=a) (n:=92) d rfl;have g:=A d;clear d;go_enter func223,ntmps223;go_wp2;go_ret;exact⟨λB=>absurd B g.o,λ_=>⟨rfl,rfl⟩⟩
def aCH(w:N)(b:Nat)(v o r y s l j q x m u t:O)(dg f:Nat)(a:UInt8)(h:w.heap[b]?=J (W #[v,o,r,y,s,l,j,q,x,m,dg,I dw f,u,t] 228 (0,0))):
 Q X 241 #[af b,I ag a.toNat] w λe w'=>(a=117->rZ w b 0 #[v,o,r,ek (em 188) #[] #[],s,l,j,q,x,m,I S 0,I dw 0,u,t] e w')/\(a≠117->e=E (I S 93)/\w'=w):=by
 obtain⟨-,-,-,G,-,-,-,-,-,-,C,F,-,-,L⟩:=aN h;have H:=A h;clear h;by_cases d:a=117
 .have P:(a.toNat:Int)=117:=by rw[d];rfl
  have i:=A d;clear d;go_enter func241,ntmps241;go_wp2;go_ret;exact⟨λ_=>⟨rfl,aB (aB (aB H.o _) _) _,(((bx (λk=>k=b) w).A3 (p:=⟨b,10,K⟩) (D rfl) _).A3 (p:=⟨b,11,K⟩) (D rfl) _).A3 (p:=⟨b,3,K⟩) (D rfl) _⟩,λg=>absurd i.o g⟩
 .obtain⟨-,-,B⟩:=aD (c:=a) (n:=117) d rfl;have i:=A d;clear d;go_enter func241,ntmps241;go_wp2;go_ret;exact⟨λz=>absurd z i.o,λ_=>⟨rfl,rfl⟩⟩
def nY:Elem 22 5 1:=⟨ku,by
 have h:(X.info? 5).map (λi=>(i.zero,i.size,i.bytes))=J (J (I ag 0),1,1):=by kernel_rfl
 obtain⟨i,c,a,d,b⟩:=ii h;exact⟨i,_,c,a,d,b,rfl⟩⟩
def wJ(w:N)(b:Nat)(a:O)(l:List UInt8)(c:O->Array O)(e:dt)(w':N):Prop:=e=E (I S 0)/\∃g off cap,w'.heap[b]?=J (W (c (bg (J ⟨g,off,K⟩) l.length cap)) 228 (0,0))/\
 Win 5 bZ w' (bg (J ⟨g,off,K⟩) l.length cap) l/\(a.ownBlock=J g\/w.heap.size<=g)/\Keeps (λk=>k=b\/a.ownBlock=J k) w w'
def aCJ(w:N)(b:Nat)(z B C v3 G L P R T V vb vc vd a:O)(m d:UInt8)(l:Oo)(r:w.heap[b]?=J (W #[z,B,C,v3,G,L,P,R,T,a,V,vb,vc,vd] 228 (0,0)))
 (o:m≠117)(i:cO m=J d)(h:Win 5 bZ w a l)(hl:l.length<=1073741824):
 Q X 168 #[af b,I ag m.toNat] w λe w'=>wJ w b a (l++ [d]) (λv=> #[z,B,C,ek (em 138) #[] #[],G,L,P,R,T,v,V,vb,vc,vd]) e w':=by
 obtain⟨c0,c1,c2,c3,c4,c5,c6,c7,c8,c9,ca,cb,cc,cd,cf⟩:=aN r;have s:=A (h.ne r (by decide));have H:=A r;have t:=bs r;obtain⟨ta,tc,u⟩:=h.A8;have f:Win 5 bZ (w.alloc (W #[bZ d] 5)) a l:=h.A0 (F:=λ_=>False) ((bx _ w).A5 _) (λ_ _=>id);have HR:=A f;have HS:=A (aCI m);have j:=i;obtain⟨n1,n2,n3⟩:=aD (c:=m) (n:=117) o rfl;rw[i]at HS;clear r h f o i j;subst u;go_enter ge,gh;go_wp2_with fail;refine(HS.o _).mono ?_;rintro e w1 ⟨rfl,rfl⟩;go_wp2_with (at_builtin;refine dE nY rfl _ _ rfl rfl HR.o w1 1 d rfl ?_ rfl ?_ ?_ ?_)
 .simp
 .omega
 .unfold gj;omega
 intro g off cap w' f i j;have h:=(j.block b (by simp;omega) (λe=>s.o e.symm)).trans ((de w1 _ _ t).trans H.o);have x:=A (f.ne h (by decide));have o:(bg ta l.length tc).ownBlock=J g\/w1.heap.size<=g:=i.elim D (λr=>aw (by have:=r.1;first|omega|(simp at this;omega)));have y:=A o;have HK:=A (((bx (λk=>k=b\/(bg ta l.length tc).ownBlock=J k) w1).A5 (W #[bZ d] 5)).G0 j (λk e=>D (aw e)));have q:=A f;obtain⟨-,-,-,d3,-,-,-,-,-,d9,-,-,-,-,df⟩:=aN h;have HB:=A h;clear h f o i j c0 c1 c2 c3 c4 c5 c6 c7 c8 c9 ca cb cc cd cf;go_wp2;go_ret;refine⟨rfl,g,off,cap,?_,?_,y.o,(HK.o.A3 (p:=⟨b,9,K⟩) (D (D rfl)) _).A3 (p:=⟨b,3,K⟩) (D (D rfl)) _⟩
 .rw[cn];exact aB (aB HB.o _) _
 .rw[cn];exact q.o.A0 (((bx (λk=>k=b) w').A3 (p:=⟨b,9,K⟩) (D rfl) _).A3 (p:=⟨b,3,K⟩) (D rfl) _) (λk e f=>x.o (e.trans (congrArg J f)))
def aJd(w:N)(b:Nat)(o g j r l d c i q f n m:O)(dg a:Nat)(h:w.heap[b]?=J (W #[o,g,j,r,l,d,c,i,q,f,dg,I dw a,n,m] 228 (0,0))):
 Q X 168 #[af b,I ag 117] w λe w'=>rZ w b 0 #[o,g,j,ek (em 188) #[] #[],l,d,c,i,q,f,I S 0,I dw 0,n,m] e w':=by
 obtain⟨-,-,-,u,-,-,-,-,-,-,s,t,-,-,v⟩:=aN h;have H:=A h;clear h;go_enter ge,gh;go_wp2;go_ret;exact⟨rfl,aB (aB (aB H.o _) _) _,(((bx (λk=>k=b) w).A3 (p:=⟨b,10,K⟩) (D rfl) _).A3 (p:=⟨b,11,K⟩) (D rfl) _).A3 (p:=⟨b,3,K⟩) (D rfl) _⟩
def aEC(w:N)(b:Nat)(a:UInt8)(d:a≠117)(g:cO a=K):
 Q X 168 #[af b,I ag a.toNat] w λe w'=>e=E (I S 92)/\w'=w:=by
 have f:=A (aCI a);obtain⟨h,i,j⟩:=aD (c:=a) (n:=117) d rfl;rw[g]at f;clear d g;go_enter ge,gh;go_wp2_with fail;refine(f.o _).mono ?_;rintro e w1 ⟨rfl,rfl⟩;go_wp2;go_ret;exact⟨rfl,rfl⟩
def bU:Tok->O
 | .mark a s=>ac 238 (ae #[a,I S 1,I ag s.toNat])
 | .term a n c=>ac 309 (ae #[a,n,ar ⟨c.toArray⟩])
 | .num a n b=>ac 271 (ae #[a,n,I ak b])
 | .str a n t=>ac 241 (ae #[a,n,ar ⟨t.toArray⟩])
def fQ{w:N}{n:Nat}{v:O}(h:n=w.heap.size):(w.alloc (W #[v] T)).cell? n=J v:=by subst h;rw[aA (aL w _)];rfl
def aJe(w:N)(p:dh)(v:O):(w.setCell p v).heap.size=w.heap.size:=by simp[World.setCell]
def fK{w:N}{v:O}{l:Oo}(h:Win 5 bZ w v l):(convert 22 9 v).run X w=.ok (ar ⟨l.toArray⟩) w:=by
 rcases h with⟨rfl,rfl⟩|⟨g,off,cap,b,rfl,d,-,-,-,hi⟩
 .exact run_convert_bytes_nil (P:=X) w 22 5 ku nq 0 0 9 lc
 .refine run_convert_bytes_back w 22 9 5 ⟨g,off,K⟩ cap l ku nq lc λj c=>?_;have a:(⟨g,off,K⟩:dh).add j=⟨g,off+j,K⟩:=by unfold Addr.add;split<;>simp_all
  rw[a,aA d];exact hi j l[j] (bf c)
def jQ(w:N)(b:Nat)(a:O)(toks:List O)(t:O)(c:O->Array O)(v:O)(e:dt)(w':N):Prop:=e=E v/\∃g off cap,w'.heap[b]?=J (W (c (bg (J ⟨g,off,K⟩) (toks.length+1) cap)) 228 (0,0))/\
 Win 232 id w' (bg (J ⟨g,off,K⟩) (toks.length+1) cap) (toks++ [t])/\(a.ownBlock=J g\/w.heap.size<=g)/\Keeps (λk=>k=b\/a.ownBlock=J k) w w'
def sA:Elem 184 97 16:=⟨underlying184,by
 have h:(X.info? 97).map (λi=>(i.zero,i.size,i.bytes))=J (J bk,1,16):=by kernel_rfl
 obtain⟨i,c,a,d,b⟩:=ii h;exact⟨i,_,c,a,d,b,rfl⟩⟩
def dT(w:N)(no:Nat):Q X 212 #[Y Z,no] w λe w'=>e=E (ai #[])/\w'=w:=by
 go_enter func212,ntmps212;go_wp2;go_end0;exact⟨rfl,rfl⟩
def wZ(w:N)(no:Nat):Q X 212 #[Y U,no] w λe w'=>e=.panicked [{v:=ac 29 (I S no),recovered:=U}]/\w'=w:=by
 go_enter func212,ntmps212;go_wp2;exact⟨rfl,rfl,rfl⟩
def kS(w:N)(n a d:Nat)(h:(⟨n,a,d⟩:Sz).B9=Z):Q X 235 #[ae #[n,a,d]] w λe w'=>e=E (Y Z)/\aj w w w':=by
 have b:(n:Int)<=65536/\(a:Int)<=2097152/\(d:Int)<=512:=by simp[fe]at h;omega
 obtain⟨b,c,f⟩:=b;clear h;go_enter func235,ntmps235;go_wp2;go_ret;exact⟨rfl,(dk _ _).alloc (hU _) _⟩
def aAK(w:N)(b:Nat):Q X 347 #[bh ao b] w λe w'=>e=E (ae #[I S 1,I S 0,I S 1])/\aj w w w':=by
 go_enter func347,ntmps347;go_wp2;exact bb (v:=ae #[I S 1,I S 0,I S 1]) (by simp[ah,results347,go_sem]) rfl ⟨rfl,(dk _ _).alloc (hU _) _⟩
def xA(w:N)(s:ByteArray):Q X 349 #[s] w λe w'=>e=E (ae #[I S 1,s.size,I S 1])/\aj w w w':=by
 go_enter func349,ntmps349;go_wp2;exact bb (v:=ae #[I S 1,s.size,I S 1]) (by simp[ah,results349,go_sem]) rfl ⟨rfl,(dk _ _).alloc (hU _) _⟩
def aJf(w:N)(b:Nat):Q X 213 #[ae #[I S 3,Y U,I ak b,"",I S 0,()]] w λe w'=>e=E (Y Z)/\aj w w w':=by
 have a:(((b:Nat):Int)==0)=Z\/(((b:Nat):Int)==0)=U:=by cases h:(((b:Nat):Int)==0)<;>simp
 rcases a with a|a
 all_goals
  go_enter func213,ntmps213;go_wp2;go_ret;exact⟨rfl,(dk _ _).alloc (hU _) _⟩
def aHg(w:N)(s:ByteArray):Q X 213 #[ae #[I S 4,Y U,I ak 0,s,I S 0,()]] w λe w'=>e=E (Y Z)/\aj w w w':=by
 go_enter func213,ntmps213;go_wp2
 all_goals
  go_ret;exact⟨rfl,(dk _ _).alloc (hU _) _⟩
def n8(b:Nat)(w:N):(callFunc 51 #[bh ao b]).run X w=.ok (.value (I ak b)) w:=by
 rw[il (e:=jc) func51 (by kernel_rfl) (by kernel_rfl) (by kernel_rfl) (by kernel_rfl)];rfl
def oA(b:Nat)(w:N):(callFunc 215 #[I ak b]).run X w=.ok (.value (bh ao b)) w:=by
 rw[il (e:=jd) func215 (by kernel_rfl) (by kernel_rfl) (by kernel_rfl) (by kernel_rfl)];rfl
def qI{b:Nat}(h:gO b):b%9223372036854775808<=aM:=by
 unfold gO aM at*;omega
def aHh(b:Nat)(w:N)(h:gO b):Q X 216 #[bh ao b] w λe w'=>e=E (Y U)/\w'=w:=by
 have a:(ao.format.order b b !=J .eq)=U:=by rw[aED (qI h)];rfl
 clear h;go_enter func216,ntmps216;go_wp2;go_ret;exact⟨rfl,rfl⟩
def aEG{b:Nat}(h:b<18446744073709551616):bits BinOp.andNot ak (b:Int) 9223372036854775808=(b:Int)%9223372036854775808:=by
 have e:=u64_andNot_nat b 9223372036854775808 h (by decide);rw[show(18446744073709551615-9223372036854775808:Nat)=2^63-1 by decide,Nat.and_two_pow_sub_one_eq_mod]at e;exact e
def aK7(b:Nat)(w:N)(h:gO b):Q X 236 #[bh ao b] w λe w'=>e=E (bh ao (b%9223372036854775808))/\w'=w:=by
 have c:=n8 b;have a:=oA (b%9223372036854775808);have d:=aEG (b:=b) (by unfold gO aM at h;omega);rw[show((b%9223372036854775808:Nat):Int)=(b:Int)%9223372036854775808 by omega]at a;clear h;go_enter func236,ntmps236;go_wp2;go_ret;exact⟨rfl,rfl⟩
def aHi(b:Nat)(w:N)(h:gO b):Q X 217 #[bh ao b,I S 0] w λe w'=>e=E (Y U)/\w'=w:=by
 have f:=A (aK7 b w h);have c:=aEE (b:=b%9223372036854775808) (qI h);obtain⟨a,d⟩:∃a,b%9223372036854775808=a:=⟨_,rfl⟩;rw[d]at f c
 have g:(ao.format.order a 9218868437227405311==J .gt)=U:=by
  cases h:ao.format.order a 9218868437227405311==J .gt with
  | false=>rfl
  | true=>exact absurd (by simpa[aM]using h) c
 clear h d c;go_enter func217,ntmps217;go_wp2_with fail;refine(f.o).mono ?_;rintro e w1 ⟨rfl,rfl⟩;go_wp2;go_ret;exact⟨rfl,rfl⟩
def eW(w:N)(b:Nat)(V:O)(a:List O)(T:dl)(v:O)(w':N):Prop:=
 ∃g off cap,w'.heap[b]?=J (W #[bg (J ⟨g,off,K⟩) (a.length+1) cap] 195 (0,0))/\Win 97 id w' (bg (J ⟨g,off,K⟩) (a.length+1) cap) (a++ [ac T v])/\(V.ownBlock=J g\/w.heap.size<=g)/\Keeps (λk=>k=b\/V.ownBlock=J k) w w'
def aK8(w:N)(b:Nat)(V:O)(a:List O)(x:Nat)(y:w.heap[b]?=J (W #[V] 195 (0,0)))(c:Win 97 id w V a)(hl:a.length<=1048576):
 Q X 214 #[af b,ac 179 (bh ao x)] w λe w'=>e=E (ai #[])/\eW w b V a 179 (bh ao x) w':=by
 have hm:∀w:N,(method 565 179 (bh ao x) "affidavit/node.sized").run X w=.ok (347,bh ao x) w:=λ_=>by kernel_rfl
 have B:=A (aAK w x);have C:=A (λw=>kS w 1 0 1 (by decide));have G:=A c;have H:=A y;have l:=A (c.ne y (by decide));obtain⟨m,n,o⟩:=c.A8;clear y c;subst o;go_enter func214,ntmps214;go_wp2_with fail;refine(B.o).mono ?_;rintro e w1 ⟨rfl,c⟩;have q:=A c;clear c;go_wp2_with fail;refine(C.o _).mono ?_;rintro e w2 ⟨rfl,c⟩;have f:=chain q.o c;have h:=keep H.o f;have r:=bw h;have s:=A h;have z:=A f;have i:=bs h;have d:Win 97 id (w2.alloc (W #[ac 179 (bh ao x)] 97)) (bg m a.length n) a:=(G.o.A0 (bj (λ_=>False) f) (λ_ _=>id)).A0 (F:=λ_=>False) ((bx _ w2).A5 _) (λ_ _=>id);have L:=A d;clear c f h d;go_wp2_with (at_builtin;refine dE sA rfl _ _ rfl rfl L.o w2 1 (ac 179 (bh ao x)) rfl ?_ rfl ?_ ?_ ?_)
 .exact fQ rfl
 .omega
 .unfold gj;omega
 intro g off cap w' c f h;have d:=(h.block b (by simp;omega) (λe=>l.o e.symm)).trans ((de w2 _ _ i).trans s.o);have t:=A (c.ne d (by decide));have u:=A (show(bg m a.length n).ownBlock=J g\/w.heap.size<=g from f.elim D (λy=>aw (bo z.o.size (bo (by simp) y.1))));have P:=A (((bj (λk=>k=b\/(bg m a.length n).ownBlock=J k) z.o).A5 (W #[ac 179 (bh ao x)] 97)).G0 h (λk e=>D (aw e)));have j:=A c;have R:=bw d;have T:=ew d;have v:=A d;clear d c f h r;go_wp2;go_end0;have c:Keeps (λk=>k=b) w' (w'.setCell b (bg (g,off) (a.length+1) cap)):=(bx (λk=>k=b) w').A3 (p:=b) (D rfl) _;exact⟨rfl,g,off,cap,aB v.o _,j.o.A0 c (λk e d=>t.o (e.trans (congrArg J d))),u.o,P.o.A3 (p:=b) (D (D rfl)) _⟩
def aJg(w:N)(b:Nat)(V:O)(a:List O)(x:ByteArray)(hx:x.size<=2097152)(y:w.heap[b]?=J (W #[V] 195 (0,0)))(c:Win 97 id w V a)(hl:a.length<=1048576):
 Q X 214 #[af b,ac 180 (ar x)] w λe w'=>e=E (ai #[])/\eW w b V a 180 (ar x) w':=by
 have hm:∀w:N,(method 565 180 (ar x) "affidavit/node.sized").run X w=.ok (349,ar x) w:=λ_=>by kernel_rfl
 have B:=A (xA w x);have C:=A (λw=>kS w 1 x.size 1 (by simp[fe];omega));have G:=A c;have H:=A y;have l:=A (c.ne y (by decide));obtain⟨m,n,o⟩:=c.A8;clear y c;subst o;go_enter func214,ntmps214;go_wp2_with fail;refine(B.o).mono ?_;rintro e w1 ⟨rfl,c⟩;have q:=A c;clear c;go_wp2_with fail;refine(C.o _).mono ?_;rintro e w2 ⟨rfl,c⟩;have f:=chain q.o c;have h:=keep H.o f;have r:=bw h;have s:=A h;have z:=A f;have i:=bs h;have d:Win 97 id (w2.alloc (W #[ac 180 (ar x)] 97)) (bg m a.length n) a:=(G.o.A0 (bj (λ_=>False) f) (λ_ _=>id)).A0 (F:=λ_=>False) ((bx _ w2).A5 _) (λ_ _=>id);have L:=A d;clear c f h d;go_wp2_with (at_builtin;refine dE sA rfl _ _ rfl rfl L.o w2 1 (ac 180 (ar x)) rfl ?_ rfl ?_ ?_ ?_)
 .exact fQ rfl
 .omega
 .unfold gj;omega
 intro g off cap w' c f h;have d:=(h.block b (by simp;omega) (λe=>l.o e.symm)).trans ((de w2 _ _ i).trans s.o);have t:=A (c.ne d (by decide));have u:=A (show(bg m a.length n).ownBlock=J g\/w.heap.size<=g from f.elim D (λy=>aw (bo z.o.size (bo (by simp) y.1))));have P:=A (((bj (λk=>k=b\/(bg m a.length n).ownBlock=J k) z.o).A5 (W #[ac 180 (ar x)] 97)).G0 h (λk e=>D (aw e)));have j:=A c;have R:=bw d;have T:=ew d;have v:=A d;clear d c f h r;go_wp2;go_end0;have c:Keeps (λk=>k=b) w' (w'.setCell b (bg (g,off) (a.length+1) cap)):=(bx (λk=>k=b) w').A3 (p:=b) (D rfl) _;exact⟨rfl,g,off,cap,aB v.o _,j.o.A0 c (λk e d=>t.o (e.trans (congrArg J d))),u.o,P.o.A3 (p:=b) (D (D rfl)) _⟩
section
def qJ:St->Nat
 | .outside=>104| .letter=>141| .numeral=>139| .within=>138| .escape=>168| .digit=>188| .slash=>223| .letterU=>241
def dJ:St->Bool
 | .within| .escape| .digit| .slash| .letterU=>Z
 | _=>U
def eK{a:Type}(F:Nat->Prop)(e:Nat)(enc:a->O)(w:N)(v:O)(l:List a):Prop:=Win e enc w v l/\∀k,v.ownBlock=J k->F k
def Win.lt{d:Type}{e:Nat}{enc:d->O}{w:N}{v:O}{l:List d}(h:Win e enc w v l){k:Nat}(a:v.ownBlock=J k):k<w.heap.size:=by
 rcases h with⟨rfl,_⟩|⟨g,off,cap,b,rfl,c,_⟩
 .cases a
 .cases a;exact bs c
section
variable {α:Type} {F G:Nat->Prop} {e:Nat} {enc:α->O} {w w':N} {v:O} {l:List α}
def eK.nil(F:Nat->Prop)(e:Nat)(enc:α->O)(w:N):eK F e enc w (bg K 0 0) []:=⟨.nil _ _ _,λ_ h=>by cases h⟩
def eK.mono(h:eK F e enc w v l)(a:∀k,F k->G k):eK G e enc w v l:=⟨h.1,λk b=>a k (h.2 k b)⟩
def eK.A0(h:eK F e enc w v l)(a:Keeps G w w')(b:∀k,v.ownBlock=J k->¬G k):eK (Since F w w') e enc w' v l:=⟨h.1.A0 a b,λk a=>D (h.2 k a)⟩
def eK.A7(h:eK F e enc w v l)(a:aj w w w'):eK (Since F w w') e enc w' v l:=h.A0 (bj (λ_=>False) a) (λ_ _=>id)
end
structure aBw(F:Nat->Prop)(w:N)(x:Lx)(rawV chV saysV:O):Prop where
 d:x.h=.letter\/x.h=.numeral->eK F 5 bZ w rawV x.d
 text:dJ x.h=Z->eK F 5 bZ w saysV x.f/\∃f pl,chV=af (J ⟨f,0,K⟩)/\Feeds w f pl x.held/\F f/\pl<=x.f.length
def cG(F:Nat->Prop)(w:N)(b:Nat)(x:Lx)(f:Bool)(toks:List Tok):Prop:=
 F b/\(∀k,F k->k<w.heap.size)/\∃d e a c,w.heap[b]?=J (W #[x.a,bk,f,ek (em (qJ x.h)) #[] #[],x.e,x.b,d,x.number,e,a,x.c,I dw x.code,I dw x.g,c] 228 (0,0))/\
  eK F 232 id w c (toks.map bU)/\aBw F w x d e a
def dU(F:Nat->Prop)(w:N)(b pl m:Nat)(c:O)(toks:List Tok):Prop:=
 F b/\(∀k,F k->k<w.heap.size)/\∃i d l e h o f j g n a,w.heap[b]?=J (W #[pl,c,i,d,l,m,e,h,o,f,j,g,n,a] 228 (0,0))/\eK F 232 id w a (toks.map bU)
section
variable {F G:Nat->Prop} {w w':N} {b:Nat} {x:Lx} {rawV chV saysV:O} {dn:Bool} {toks:List Tok}
def aBw.mono(h:aBw F w x rawV chV saysV)(a:∀k,F k->G k):aBw G w x rawV chV saysV:=
 ⟨λb=>(h.d b).mono a,λb=>by obtain⟨e,f,pl,c,i,d,g⟩:=h.text b;exact⟨e.mono a,f,pl,c,i,a _ d,g⟩⟩
def aBw.B8(h:aBw F w x rawV chV saysV)(c:Keeps G w w')(b:∀k,F k->¬G k):aBw F w' x rawV chV saysV:=
 ⟨λa=>⟨(h.d a).1.A0 c λk e=>b k ((h.d a).2 k e),(h.d a).2⟩,λa=>by
  obtain⟨d,f,pl,i,l,g,j⟩:=h.text a;exact⟨⟨d.1.A0 c λk e=>b k (d.2 k e),d.2⟩,f,pl,i,l.A0 c (b f g),g,j⟩⟩
def cG.B8(h:cG F w b x dn toks)(f:Keeps G w w')(g:∀k,F k->¬G k):cG F w' b x dn toks:=by
 obtain⟨n,i,d,l,a,c,o,m,p⟩:=h;exact⟨n,λk j=>a7 (i k j) f.size,d,l,a,c,f.B4 o (g b n),⟨m.1.A0 f λk e=>g k (m.2 k e),m.2⟩,p.B8 f g⟩
def dU.B8{pl m:Nat}{a:O}(h:dU F w b pl m a toks)(f:Keeps G w w')(j:∀k,F k->¬G k):dU F w' b pl m a toks:=by
 obtain⟨l,d,t,n,v,o,s,y,p,u,r,x,c,q,i⟩:=h;exact⟨l,λk g=>a7 (d k g) f.size,t,n,v,o,s,y,p,u,r,x,c,f.B4 q (j b l),⟨i.1.A0 f λk e=>j k (i.2 k e),i.2⟩⟩
def aF(a:∀k,F k->k<w.heap.size)(c:w.heap.size<=w'.heap.size):∀k,Since F w w' k->k<w'.heap.size:=λk b=>b.elim (λh=>a7 (a k h) c) (λh=>h.2)
end
end
def FeedsBad(w:N)(b pl:Nat):Prop:=∃a a1 a2 a3:UInt8,w.heap[b]?=J (W #[pl,I ag a.toNat,I ag a1.toNat,I ag a2.toNat,I ag a3.toNat,I S 0,Y Z] 305 (0,0))
def BytesAt(w:N)(b:Nat)(a:Option dh)(l:List UInt8):Prop:=l= []\/∃g off,a=J ⟨g,off,K⟩/\g≠b/\g<w.heap.size/\∀i x,l[i]?=J x->w.cell? ⟨g,off+i,K⟩=J (I ag ((x.toNat:Nat):Int))
def feedRet(w':N)(b pl n:Nat)(o:Option (List UInt8))(e:dt):Prop:=match o with
 | some h=>e=E bk/\Feeds w' b (pl+n) h
 | none=>∃p,e=E (ac 151 (ae #[I S 30,I S (p:Nat)]))/\FeedsBad w' b p
def feed_any(w:N)(b pl:Nat)(held l:Oo)(a:Option dh)(cap:Nat)(h:Feeds w b pl held)(f:BytesAt w b a l)(d:l.length<=1073741824)(c:pl<=1073741824):
 Q X 169 #[af b,bg a l.length cap] w λe w'=>feedRet w' b pl l.length (aX held l) e/\Keeps (λk=>k=b) w w':=
 (Dr.feed_any w b pl held l a cap h f d c).mono λ_ _ h=>⟨h.1,h.2.plain⟩
def BytesAt.A7{w w':N}{b d:Nat}{a:Option dh}{l:Oo}(h:BytesAt w b a l)(e:aj w w w')(f:w.heap.size<=d):BytesAt w' d a l:=by
 rcases h with h|⟨g,off,j,_,c,k⟩
 .exact D h
 .exact aw ⟨g,off,j,by omega,a7 c e.size,λi x m=>(e.cell (p:=⟨g,off+i,K⟩) c).trans (k i x m)⟩
def cell_any{w:N}{b o:Nat}{c:Array O}{a:Nat×Nat}(h:w.heap[b]?=J (W c T a)):w.cell? ⟨b,o,K⟩=c[o]?:=by simp[World.cell?,h]
def right_any(s:ByteArray)(w:N)(a:s.size<=1073741824):Q X 218 #[s] w λe w'=>e=E (Y (aV s.data.toList))/\aj w w w':=
 (Dr.right_any s w a).mono λ_ _ h=>⟨h.1,h.2.plain⟩
def fV(d:Dml):O:=ae #[d.a,ar ⟨d.c.toArray⟩,d.b]
def kM(neg:Bool)(b:ByteArray)(e:Int)(w:N)(L:b.size<=1073741824)(P: -4611686018427387904<=e)(F:e<=4611686018427387904):
 Q X 229 #[ae #[neg,b,e]] w λr w'=>r=E (fV (cB neg b.data.toList e))/\aj w w w':=by
 have k:=λw=>gw b 48 (by decide) w
 have m:(cz b.data.toList 48).length<=b.size:=by
  have:=(np (λx:UInt8=>x==48) (l:=b.data.toList)).length_le;rw[jt]at this;exact this
 unfold cB;generalize cz b.data.toList 48=T at*;obtain⟨t,h⟩:∃t:ByteArray,(⟨T.toArray⟩:ByteArray)=t:=⟨_,rfl⟩;have o:T=t.data.toList:=by rw[<-h]
 simp only[h]at k;clear h;subst o;have d:t.data.toList.length=t.size:=jt;have y:t.size<=b.size:=by omega
 have g:=λw=>Tryz.L0 t 48 (by decide) w (by omega)
 have i:(gk t.data.toList 48).length<=t.size:=by
  unfold gk;rw[ol];have:=(np (λx:UInt8=>x==48) (l:=t.data.toList.reverse)).length_le;rw[ol,jt]at this;exact this
 generalize gk t.data.toList 48=R at*;obtain⟨u,j⟩:∃u:ByteArray,(⟨R.toArray⟩:ByteArray)=u:=⟨_,rfl⟩;have f:R=u.data.toList:=by rw[<-j]
 simp only[j]at g;clear j;subst f;have c:u.data.toList.length=u.size:=jt;have B:u.size<=t.size:=by omega
 rw[d,c];have p:=A k;have s:=A g;clear c d m i k g;obtain⟨-,-,q⟩:=fU w (W #[neg,b,e] 339) (W #[Y U,"",I S 0] 339);have C:=A q;clear q;by_cases a:u.data.toList= []
 .have n:u.toList.isEmpty=Z:=by rw[fw,a];rfl
  rw[pz a];clear a;go_enter func229,ntmps229;go_wp2_with fail;refine(p.o _).mono ?_;rintro r w1 ⟨rfl,rfl⟩;go_wp2_with fail;refine(s.o _).mono ?_;rintro r w1 ⟨rfl,rfl⟩;go_wp2_with fail;exact bb (v:=fV ⟨U,[],0⟩) (by simp[ah,io,go_sem,fV]) rfl ⟨rfl,(C.o)⟩
 .have n:u.toList.isEmpty=U:=by
   rw[fw];cases H:u.data.toList with
   | nil=>exact absurd H a
   | cons x r=>rfl
  rw[py a];clear a;have G:S.wrap (e+(t.size:Int))=e+(t.size:Int):=by rw[b9];omega
  have z:S.wrap (e+(t.size:Int)-(u.size:Int))=e+(t.size:Int)-(u.size:Int):=by rw[b9];omega
  go_enter func229,ntmps229;go_wp2_with fail;refine(p.o _).mono ?_;rintro r w1 ⟨rfl,rfl⟩;go_wp2_with fail;refine(s.o _).mono ?_;rintro r w1 ⟨rfl,rfl⟩;go_wp2_with fail;exact bb (v:=fV ⟨neg,u.data.toList,e+t.size-u.size⟩) (by simp[ah,io,go_sem,fV]) rfl ⟨rfl,(fU _ _ _).2.2⟩
def aLw{a:Nat}(h:35184372088832<=a)(l:Oo):l.foldl dD a=a:=by
 induction l with
 | nil=>rfl
 | cons c l b=>rw[mr,show dD a c=a from py];exact b
def aA3{a:Nat}{l:Oo}(e:a<=351843720888329)(b:∀c∈l,c.toNat<=57):l.foldl dD a<=351843720888329:=by
 induction l generalizing a with
 | nil=>exact e
 | cons c l d=>
  rw[mr];refine d ?_ (λx f=>b x (by simp[f]));have:=b c (by simp);unfold dD;split<;>omega
def aKd{l:Oo}(h:i<l.length):(l.take (i+1)).foldl dD 0=dD ((l.take i).foldl dD 0) l[i]:=by
 rw[List.take_add_one,bf h,lf];rfl
def aKe(neg h:Bool)(g be f:ByteArray)(w:N)(hs:g.size+be.size<=1073741824)(b:∀c∈f.data.toList,48<=c.toNat/\c.toNat<=57)(T:f.size<=1073741824):
 Q X 209 #[ae #[neg,g,be,h,f]] w λr w'=>r=E (fV (dA ⟨neg,g.data.toList,be.data.toList,h,f.data.toList⟩))/\aj w w w':=by
 have R:=A b;clear b;go_enter func209,ntmps209;go_wp2_with fail;go_loop [3,4] (λa i=>∃k:Nat,k<=f.size/\i=I S k/\a=I S ((f.data.toList.take k).foldl dD 0:Nat)) (λ_ i=>f.size-(du i).toNat)
 case atStart=>exact⟨0,by omega,rfl,rfl⟩
 case round=>
  obtain⟨k,-,rfl,rfl⟩:=hrel;have o:=aA3 (a:=0) (l:=f.data.toList.take k) (by omega) (λc V=>(R.o c (nz V)).2);by_cases q:k<f.size
  .by_cases F:(f.data.toList.take k).foldl dD 0<35184372088832
   .have j:=R.o f[k] (fv q)
    have b:(((f.data.toList.take (k+1)).foldl dD 0:Nat):Int)=10*(((f.data.toList.take k).foldl dD 0:Nat):Int)+(((f[k].toNat:Nat):Int)-48):=by
     rw[aKd (by rw[jt];exact q),dD,pz F];have:(f.data.toList[k]'(by rw[jt];exact q))=f[k]:=rfl;rw[this];omega
    have e:=A b;clear b;obtain⟨a,s⟩:∃a,(f.data.toList.take k).foldl dD 0=a:=⟨_,rfl⟩;simp only[s]at*;clear s;have t:(a:Int)<35184372088832:=(by omega);obtain⟨dg,b⟩:∃d,f[k].toNat=d:=⟨_,rfl⟩;simp only[b]at j e;go_wp2_with fail;refine⟨⟨k+1,by omega,by go_num,congrArg (I S) e.o.symm⟩,by simp[du];omega⟩
   .have G:fH f.data.toList=(f.data.toList.take k).foldl dD 0:=by
     unfold fH
     conv=>lhs;rw[<-lm k f.data.toList,lf]
     exact aLw (by omega) _
    have H:=A G;clear G;obtain⟨a,s⟩:∃a,(f.data.toList.take k).foldl dD 0=a:=⟨_,rfl⟩;simp only[s]at*;clear s;have t:¬(a:Int)<35184372088832:=by omega
    cases h with
    | false=>
     have u:S.wrap ((a:Int)-(be.size:Int))=(a:Int)-(be.size:Int):=(by rw[b9];omega);go_wp2_with fail;have b:(g++be).data.toList=g.data.toList++be.data.toList:=by simp
     have e:cB neg (g++be).data.toList ((a:Int)-(be.size:Int))=dA ⟨neg,g.data.toList,be.data.toList,U,f.data.toList⟩:=by
      rw[b];unfold dA;simp only[H.o,jt];rfl
     have j:=λw=>(kM neg (g++be) ((a:Int)-(be.size:Int)) w (by rw[pw];omega) (by omega) (by omega));simp only[e]at j;clear b e;obtain⟨⟨x,y,z⟩,m⟩:∃d,dA ⟨neg,g.data.toList,be.data.toList,U,f.data.toList⟩=d:=⟨_,rfl⟩;simp only[m]at j;have B:=A m;clear m;refine(j _).mono ?_;rintro r w2 ⟨rfl,o⟩;obtain⟨-,p,n,-⟩:=after2 o;obtain⟨C,c1,c2,L⟩:=cells3 p;clear p o;unfold fV;go_wp2_with fail;exact bb (v:=fV ⟨x,y,z⟩) (by simp[ah,fh,go_sem,fV,C,c1,c2]) rfl ⟨by rw[B.o],((n.setCell (lh _) _).setCell (lh _) _).setCell (lh _) _⟩
    | true=>
     have P:S.wrap (-(a:Int))= -(a:Int):=(by rw[b9];omega);have u:S.wrap (-(a:Int)-(be.size:Int))= -(a:Int)-(be.size:Int):=(by rw[b9];omega);go_wp2_with fail;have b:(g++be).data.toList=g.data.toList++be.data.toList:=by simp
     have e:cB neg (g++be).data.toList (-(a:Int)-(be.size:Int))=dA ⟨neg,g.data.toList,be.data.toList,Z,f.data.toList⟩:=by
      rw[b];unfold dA;simp only[H.o,jt];rfl
     have j:=λw=>(kM neg (g++be) (-(a:Int)-(be.size:Int)) w (by rw[pw];omega) (by omega) (by omega));simp only[e]at j;clear b e;obtain⟨⟨x,y,z⟩,m⟩:∃d,dA ⟨neg,g.data.toList,be.data.toList,Z,f.data.toList⟩=d:=⟨_,rfl⟩;simp only[m]at j;have B:=A m;clear m;refine(j _).mono ?_;rintro r w2 ⟨rfl,o⟩;obtain⟨-,p,n,-⟩:=after2 o;obtain⟨C,c1,c2,L⟩:=cells3 p;clear p o;unfold fV;go_wp2_with fail;exact bb (v:=fV ⟨x,y,z⟩) (by simp[ah,fh,go_sem,fV,C,c1,c2]) rfl ⟨by rw[B.o],((n.setCell (lh _) _).setCell (lh _) _).setCell (lh _) _⟩
  .have G:fH f.data.toList=(f.data.toList.take k).foldl dD 0:=by
    rw[lj (by rw[jt];exact me.1 q)];rfl
   have H:=A G;clear G;obtain⟨a,s⟩:∃a,(f.data.toList.take k).foldl dD 0=a:=⟨_,rfl⟩;simp only[s]at*;clear s;cases h with
   | false=>
    have u:S.wrap ((a:Int)-(be.size:Int))=(a:Int)-(be.size:Int):=(by rw[b9];omega);go_wp2_with fail;have b:(g++be).data.toList=g.data.toList++be.data.toList:=by simp
    have e:cB neg (g++be).data.toList ((a:Int)-(be.size:Int))=dA ⟨neg,g.data.toList,be.data.toList,U,f.data.toList⟩:=by
     rw[b];unfold dA;simp only[H.o,jt];rfl
    have j:=λw=>(kM neg (g++be) ((a:Int)-(be.size:Int)) w (by rw[pw];omega) (by omega) (by omega));simp only[e]at j;clear b e;obtain⟨⟨x,y,z⟩,m⟩:∃d,dA ⟨neg,g.data.toList,be.data.toList,U,f.data.toList⟩=d:=⟨_,rfl⟩;simp only[m]at j;have B:=A m;clear m;refine(j _).mono ?_;rintro r w2 ⟨rfl,o⟩;obtain⟨-,p,n,-⟩:=after2 o;obtain⟨C,c1,c2,L⟩:=cells3 p;clear p o;unfold fV;go_wp2_with fail;exact bb (v:=fV ⟨x,y,z⟩) (by simp[ah,fh,go_sem,fV,C,c1,c2]) rfl ⟨by rw[B.o],((n.setCell (lh _) _).setCell (lh _) _).setCell (lh _) _⟩
   | true=>
    have P:S.wrap (-(a:Int))= -(a:Int):=(by rw[b9];omega);have u:S.wrap (-(a:Int)-(be.size:Int))= -(a:Int)-(be.size:Int):=(by rw[b9];omega);go_wp2_with fail;have b:(g++be).data.toList=g.data.toList++be.data.toList:=by simp
    have e:cB neg (g++be).data.toList (-(a:Int)-(be.size:Int))=dA ⟨neg,g.data.toList,be.data.toList,Z,f.data.toList⟩:=by
     rw[b];unfold dA;simp only[H.o,jt];rfl
    have j:=λw=>(kM neg (g++be) (-(a:Int)-(be.size:Int)) w (by rw[pw];omega) (by omega) (by omega));simp only[e]at j;clear b e;obtain⟨⟨x,y,z⟩,m⟩:∃d,dA ⟨neg,g.data.toList,be.data.toList,Z,f.data.toList⟩=d:=⟨_,rfl⟩;simp only[m]at j;have B:=A m;clear m;refine(j _).mono ?_;rintro r w2 ⟨rfl,o⟩;obtain⟨-,p,n,-⟩:=after2 o;obtain⟨C,c1,c2,L⟩:=cells3 p;clear p o;unfold fV;go_wp2_with fail;exact bb (v:=fV ⟨x,y,z⟩) (by simp[ah,fh,go_sem,fV,C,c1,c2]) rfl ⟨by rw[B.o],((n.setCell (lh _) _).setCell (lh _) _).setCell (lh _) _⟩
def aGa(l:Oo):∀c∈l.takeWhile isD,isD c=Z:=λc a=>by
 induction l with
 | nil=>cases a
 | cons x l b=>
  by_cases h:isD x=Z
  .rw[List.takeWhile_cons_of_pos h]at a;rcases List.mem_cons.1 a with rfl|a
   .exact h
   .exact b a
  .rw[List.takeWhile_cons_of_neg h]at a;cases a
def aGb(l:Oo):(l.takeWhile isD).length+(l.dropWhile isD).length=l.length:=by
 have:=congrArg ig (List.takeWhile_append_dropWhile (p:=isD) (l:=l));rwa[cn]at this
def aG2(l:Lit)(n:Nat):Prop:=(∀c∈l.whole,isD c=Z)/\(∀c∈l.c,isD c=Z)/\(∀c∈l.b,isD c=Z)/\l.whole.length+l.c.length+l.b.length<=n
def aGc{d be:Oo}{l:Lit}(h:cZ neg d be r=J l)(g:∀c∈d,isD c=Z)(f:∀c∈be,isD c=Z):aG2 l (d.length+be.length+r.length):=by
 cases r with
 | nil=>simp only[cZ,ll]at h;subst h;exact⟨g,f,(λc i=>by cases i),by simp⟩
 | cons e t=>
  simp only[cZ]at h;split at h
  .split at h
   .cases h
   .simp only[ll]at h;subst h;refine⟨g,f,aGa _,?_⟩;have a:=aGb (cA t).2
    have b:(cA t).2.length<=t.length:=by
     cases t with
     | nil=>exact hU _
     | cons c j=>simp only[cA];split<;>simp
    simp only[cv];omega
  .cases h
def aD5{e:Oo}{l:Lit}(h:bF neg e r=J l)(f:∀c∈e,isD c=Z):aG2 l (e.length+r.length):=by
 cases r with
 | nil=>have:=aGc (be:= []) (r:= []) h f (λc g=>by cases g);simpa using this
 | cons c t=>
  simp only[bF]at h;split at h
  .split at h
   .cases h
   .obtain⟨a,b,i,d⟩:=aGc h f (aGa _);refine⟨a,b,i,bo d ?_⟩;have:=aGb t;simp only[cv];omega
  .have:=aGc (be:= []) h f (λc g=>by cases g);simpa using this
def aD6{l:Lit}(h:cR neg r=J l):aG2 l r.length:=by
 cases r with
 | nil=>cases h
 | cons c t=>
  simp only[cR]at h;split at h
  .rename_i g;split at h
   .have:=aD5 h (by intro x e;simp at e;subst e;rfl);simpa[Nat.add_comm]using this
   .obtain⟨a,b,f,d⟩:=aD5 h (aGa _);exact⟨a,b,f,bo d (by rw[aGb];exact hU _)⟩
  .cases h
def aG3{s:Oo}{l:Lit}(h:bI s=J l):aG2 l s.length:=by
 cases s with
 | nil=>cases h
 | cons c t=>
  simp only[bI]at h;split at h
  .obtain⟨a,b,e,d⟩:=aD6 h;exact⟨a,b,e,bo d (by simp)⟩
  .exact aD6 h
def aIx(o:Option Lit)(e:dt):Prop:=match o with
 | some l=>e=E (ai #[fV (dA l),bk])
 | none=>∃i:Nat,e=E (ai #[fV ⟨U,[],0⟩,ac 151 (ae #[I S 40,i])])
def aGd(s:ByteArray)(w:N)(o:s.size<=1073741824):Q X 194 #[s] w λe w'=>aIx (bI s.data.toList) e/\aj w w w':=by
 have r:s.data.toList.length=s.size:=jt;cases f:bI s.data.toList with
 | none=>
  have g:=λw=>aCF s w o;simp only[f]at g;clear f;go_enter func194,ntmps194;go_wp2_with fail;refine(g _).mono ?_;rintro e w1 ⟨⟨i,rfl⟩,h⟩;obtain⟨b,a,-⟩:=after1 h;have q:=bs b;have t:(0:Int)<=(i:Int):=by omega
  unfold aGC;obtain⟨u,x,y,z⟩:=cells3 b;have j:(((w1.setCell ⟨w.heap.size,0,K⟩ (Y U)).setCell ⟨w.heap.size,1,K⟩ (ar ⟨#[]⟩)).setCell ⟨w.heap.size,2,K⟩ (I S 0)).heap[w.heap.size]?=J (W #[Y U,"",I S 0] 339 (0,0)):=aB (aB (aB b _) _) _;have n:=(de _ (W #[Y U,"","",Y U,""] 354) _ (bs j)).trans j;obtain⟨m,c1,c2,-⟩:=cells3 n;have k:=A ((((a.setCell (p:=⟨w.heap.size,0,K⟩) (hU _) (Y U)).setCell (p:=⟨w.heap.size,1,K⟩) (hU _) (ar ⟨#[]⟩)).setCell (p:=⟨w.heap.size,2,K⟩) (hU _) (I S 0)).alloc (iF (bs j)) (W #[Y U,"","",Y U,""] 354));clear j n;clear b h a;go_wp2_with fail;exact bb (v:=ai #[fV ⟨U,[],0⟩,ac 151 (ae #[I S 40,i])]) (by simp[ah,iv,go_sem,fV,m,c1,c2,u,x,y]) rfl ⟨⟨i,rfl⟩,k.o⟩
 | some l=>
  obtain⟨-,-,j,q⟩:=aG3 f;have g:=λw=>aCF s w o;simp only[f]at g;have n:∀c∈l.b,48<=c.toNat/\c.toNat<=57:=λc t=>by have:=j c t;simpa[isD]using this
  have k:=λw=>aKe l.a l.d ⟨l.whole.toArray⟩ ⟨l.c.toArray⟩ ⟨l.b.toArray⟩ w (by show l.whole.toArray.size+l.c.toArray.size<=_;simp;omega) (by simpa using n) (by show l.b.toArray.size<=_;simp;omega);clear f j q n;obtain⟨neg,u,be,x,y⟩:=l;obtain⟨⟨z,B,C⟩,f⟩:∃d,dA ⟨neg,u,be,x,y⟩=d:=⟨_,rfl⟩;simp only[f]at k;have F:=A f;clear f;go_enter func194,ntmps194;go_wp2_with fail;refine(g _).mono ?_;rintro e w1 ⟨rfl,h⟩;unfold aJa;obtain⟨b,a,-⟩:=after1 h;go_wp2_with fail;refine(k _).mono ?_;rintro e w2 ⟨rfl,j⟩;have f:aj w1 w1 w2:=((dk w1 w1).alloc (hU _) _).trans (j.mono (by simp));have q:=keep b f;obtain⟨m,c1,c2,G⟩:=cells3 q;have n:=A (chain a f);clear h j f b q a;unfold fV;go_wp2_with fail;exact bb (v:=ai #[fV ⟨z,B,C⟩,bk]) (by simp[ah,iv,go_sem,fV,m,c1,c2]) rfl ⟨by rw[<-F.o];rfl,((n.o.setCell (hU _) _).setCell (hU _) _).setCell (hU _) _⟩
def gF(p:dh)(w:N):gm X 211 #[af (J p)] fj w λe c w'=>e=E (ai #[])/\c=fj/\w'=w:=by
 refine gn func211 rfl λb d a=>?_;apply dx;apply dm;simp[dp,go_sem,dy,a,ntmps211,ee,go];apply dx;apply dm;simp[dp,go_sem,dy,a,ee];refine gp (t:=U) (by simp[gq]) ?_;simp only[ou,if_false];refine wpS_of_wp (wp_skip ?_);cases b;simp_all [gu,ah,results211]
def xB(p:dh)(w:N):gm X 77 #[af (J p)] fj w λe c w'=>e=E (ai #[])/\c=fj/\w'=w:=by
 refine gn func77 rfl λb d a=>?_;apply dx;apply dm;simp[dp,go_sem,dy,a,ntmps77,ee,go];apply dx;apply dm;simp[dp,go_sem,dy,a,ee];refine gp (t:=U) (by simp[gq]) ?_;simp only[ou,if_false];refine wpS_of_wp (wp_skip ?_);cases b;simp_all [gu,ah,results77]
def xC(p:dh)(x:O)(no a:Nat)(b:List PanicEntry)(w:N)(f:w.cell? p=J x)(h:w.frozen? p=U):
 gm X 77 #[af (J p)] (iw ({v:=ac 151 (ae #[no,a]),recovered:=U}::b)) w λe g w'=>
  e=E (ai #[])/\g=iw ({v:=ac 151 (ae #[no,a]),recovered:=Z}::b)/\w'=w.setCell p (ac 151 (ae #[no,a])):=by
 have c:∀w:N,(Instr.typeAssert (ac 151 (ae #[no,a])) 20 151 U).run X w=.ok (ae #[no,a]) w:=λ_=>by kernel_rfl
 refine gn func77 rfl λi j d=>?_;apply dx;apply dm;simp[dp,go_sem,dy,d,ntmps77,ee,go];apply dx;apply dm;simp[dp,go_sem,dy,d,ee];refine gp (t:=Z) (by simp[gq]) ?_;simp only[if_true];apply dm;simp[dp,go_sem,f,h,c,gu,ah,results77]
def bJ{w:N}{b:Nat}{e d c a f g:O}(h:w.heap[b]?=J (W #[e,d,c,a,f,g] T (0,0))):
 w.cell? b=J e/\w.cell? ⟨b,1,K⟩=J d/\w.cell? ⟨b,2,K⟩=J c/\w.cell? ⟨b,3,K⟩=J a/\w.cell? ⟨b,4,K⟩=J f/\w.cell? ⟨b,5,K⟩=J g/\∀o,w.frozen? ⟨b,o,K⟩=U:=
 ⟨aA h,aA h,aA h,aA h,aA h,aA h,free_at h⟩
def eW.I9{w w1 w2:N}{b:Nat}{V:O}{c:List O}{v:O}{R:Nat}{o:O}(m:aj w w w1)(t:w.heap.size<=R)(i:w1.heap[R]?=J (W #[o] 26 (0,0)))(j:∀k,V.ownBlock=J k->k<w.heap.size)(q:b<w.heap.size)(h:eW w1 b V c T v w2)(u:O):
 w2.cell? R=J o/\w2.frozen? R=U/\eW w b V c T v (w2.setCell R u)/\(w2.setCell R u).cell? R=J u:=by
 obtain⟨g,off,cap,r,l,s,n⟩:=h
 have d:¬(R=b\/V.ownBlock=J R):=by
  rintro(e|e)
  .omega
  .have:=j R e;omega
 have a:=n.B4 i d;refine⟨bw a,ew a,⟨g,off,cap,(aE u (by omega)).trans r,?_,s.elim D (λh=>aw (bo m.size h)),((bj _ m).same n).A3 (p:=R) (aw t) _⟩,?_⟩
 .have f:Keeps (λk=>k=R) w2 (w2.setCell R u):=(bx (λk=>k=R) w2).A3 (p:=R) (D rfl) _;exact l.A0 f (λk e f=>l.ne a (by decide) (e.trans (congrArg J f)))
 .rw[aA (aB a u)];rfl
def aL0(w:N)(b:Nat)(V:O)(a:List O)(x:Nat)(c:gO x)(n:w.heap[b]?=J (W #[V] 195 (0,0)))(h:Win 97 id w V a)(o:a.length<=1048576):
 Q X 196 #[af b,ae #[I S 3,Y U,I ak x,"",I S 0,()]] w λe w'=>e=E bk/\eW w b V a 179 (bh ao (dW x)) w':=by
 have p:=A (λw=>aJf w x);have q:=oA x;have r:=A (λw=>aHh x w c);have s:=A (λw=>aHi x w c);have i:=bs n;have t:=A (λw' y(m:aj w.heap.size w w')=>aK8 w' b V a y (keep n m) (h.A0 (bj (λ_=>False) m) (λ_ _=>id)) o);have j:=A (λk(u:V.ownBlock=J k)=>h.lt u);have d:=aEF (qI c)
 obtain⟨z,G,g⟩:∃z:Bool,(ao.format.order x 0==J .eq)=z/\dW x=(if z then 0 else x):=by
  refine⟨_,rfl,?_⟩;rw[d];unfold dW;unfold gO aM at c;by_cases l:x%9223372036854775808=0
  .rw[decide_eq_true l];simp;omega
  .rw[decide_eq_false l,py];simp
 have l:=A g;clear n h c d g;cases z
 all_goals
  go_enter_defers func196,ntmps196
  go_wp2_with fail;refine(p.o _).mono ?_;rintro e w1 ⟨rfl,c⟩;obtain⟨g1,h,d,v⟩:=after2 c;obtain⟨H,L,P,R,T,q5,qf⟩:=bJ g1;have B:=A h;have g:=A d;clear c g1 h d;go_wp2_with fail;refine(dT _ 2).mono ?_;rintro e w2 ⟨rfl,rfl⟩;go_wp2_with fail;refine(r.o _).mono ?_;rintro e n ⟨rfl,rfl⟩;go_wp2_with fail;refine(s.o _).mono ?_;rintro e n ⟨rfl,rfl⟩;go_wp2_with fail;refine(dT _ 104).mono ?_;rintro e n ⟨rfl,rfl⟩;go_wp2_with fail;refine(t.o _ _ g.o).mono ?_;rintro e w4 ⟨rfl,d⟩;obtain⟨r0,rf,c,C⟩:=d.I9 g.o (lh _) B.o j.o i bk;have h:=A c;clear d c;go_wp2_with fail;refine lg (f:=211) (args:= #[af (J ⟨w.heap.size+1,0,K⟩)]) (by simp) (by simp[go_sem]) ?_;refine(gF ⟨w.heap.size+1,0,K⟩ _).mono ?_;rintro e u' F ⟨rfl,rfl,rfl⟩;have c:=h.o;have d:=l.o;simp only[ou,if_false,if_true]at d;rw[d];simp[Leaves,settle,ah,oe,go_sem,C];exact c
def aK9(w:N)(b:Nat)(V:O)(a:List O)(s:ByteArray)(g:aV s.data.toList=Z)(h:s.size<=2097152)(m:w.heap[b]?=J (W #[V] 195 (0,0)))(d:Win 97 id w V a)(o:a.length<=1048576):
 Q X 196 #[af b,ae #[I S 4,Y U,I ak 0,s,I S 0,()]] w λe w'=>e=E bk/\eW w b V a 180 (ar s) w':=by
 have p:=A (λw=>aHg w s);have c:=λw=>right_any s w (by omega);rw[g]at c;have i:=A c;have j:=bs m;have q:=A (λw'(n:aj w.heap.size w w')=>aJg w' b V a s h (keep m n) (d.A0 (bj (λ_=>False) n) (λ_ _=>id)) o);have l:=A (λk(r:V.ownBlock=J k)=>d.lt r);clear m d g h c
 go_enter_defers func196,ntmps196
 go_wp2_with fail;refine(p.o _).mono ?_;rintro e w1 ⟨rfl,d⟩;obtain⟨g1,h,c,t⟩:=after2 d;obtain⟨u,v,x,y,z,B,C⟩:=bJ g1;have F:=A g1;have G:=A h;have m:=A c;clear d g1 h c;go_wp2_with fail;refine(dT _ 2).mono ?_;rintro e w2 ⟨rfl,rfl⟩;go_wp2_with fail;refine(i.o _).mono ?_;rintro e L ⟨rfl,d⟩;have c:=chain m.o d;have g1:=keep F.o d;have h:=keep G.o d;have g:=A c;obtain⟨P,R,T,p3,p4,p5,pf⟩:=bJ g1;have H:=A h;clear d c g1 h u v x y z B C;go_wp2_with fail;refine(dT _ 100).mono ?_;rintro e v ⟨rfl,rfl⟩;go_wp2_with fail;refine(q.o _ g.o).mono ?_;rintro e x ⟨rfl,d⟩;obtain⟨y,z,c,u⟩:=d.I9 g.o (lh _) H.o l.o j bk;have h:=A c;clear d c;go_wp2_with fail;refine lg (f:=211) (args:= #[af (J ⟨w.heap.size+1,0,K⟩)]) (by simp) (by simp[go_sem]) ?_;refine(gF ⟨w.heap.size+1,0,K⟩ _).mono ?_;rintro e B d ⟨rfl,rfl,rfl⟩;have c:=h.o;simp[Leaves,settle,ah,oe,go_sem,u];exact c
def aJh(w:N)(b:Nat)(V:O)(a:List O)(x:Nat)(o:gO x)(j:w.heap[b]?=J (W #[V] 195 (0,0)))(f:Win 97 id w V a)(p:a.length<=1048576)(h:a.length<65536):
 Q X 175 #[af b,ae #[I S 3,Y U,I ak x,"",I S 0,()]] w λe w'=>e=E bk/\eW w b V a 179 (bh ao (dW x)) w':=by
 have c:aj w w (w.alloc (W #[I S 3,Y U,I ak x,"",I S 0,()] 147)):=(dk _ _).alloc (hU _) _;have q:=A (λw1(k:aj w w w1)=>aL0 w1 b V a x o (keep j k) (f.A0 (bj (λ_=>False) k) (λ_ _=>id)) p);have y:=bw j;have r:=bs j;obtain⟨z,B,i⟩:=f.A8;
 have l:¬(65536:Int)<=(a.length:Int):=by omega
 obtain⟨C,F,G,H,L,P,-⟩:=bJ (aL w (W #[I S 3,Y U,I ak x,"",I S 0,()] 147));have d:=A c;clear j f h c;subst i;go_enter fk,fm;go_wp2
 go_region_with (go_at_call 196;refine(q.o _ d.o.drew).mono ?_;rintro e w2 ⟨rfl,c⟩)
 all_goals
  obtain⟨g,off,cap,f,h,m,n⟩:=c;have s:=A f;have t:=A h;have u:=A m;have v:=A n;clear f h m n;go_wp2;go_ret;exact⟨rfl,g,off,cap,s.o,t.o,u.o.elim D (λj=>aw (bo (by simp) j)),(bj _ d.o.drew).same v.o⟩
def aAd(w:N)(b:Nat)(V:O)(a:List O)(x:Nat)(o:gO x)(h:w.heap[b]?=J (W #[V] 195 (0,0)))(i:Win 97 id w V a)(j:65536<=a.length):
 Q X 175 #[af b,ae #[I S 3,Y U,I ak x,"",I S 0,()]] w λe w'=>(∃v,e=E v)/\aj w w w':=by
 have c:aj w w (w.alloc (W #[I S 3,Y U,I ak x,"",I S 0,()] 147)):=(dk _ _).alloc (hU _) _;have p:=bw h;have k:=bs h;obtain⟨n,m,f⟩:=i.A8;have g:(65536:Int)<=(a.length:Int):=by omega
 obtain⟨l,-,-,-,-,-,-⟩:=bJ (aL w (W #[I S 3,Y U,I ak x,"",I S 0,()] 147));have d:=A c;clear h i c;subst f;go_enter fk,fm;go_wp2;go_ret;exact⟨⟨_,rfl⟩,d.o⟩
def aHj(w:N)(b:Nat)(V:O)(a:List O)(s:ByteArray)(o:aV s.data.toList=Z)(p:s.size<=2097152)(j:w.heap[b]?=J (W #[V] 195 (0,0)))(f:Win 97 id w V a)(q:a.length<=1048576)(h:a.length<65536):
 Q X 175 #[af b,ae #[I S 4,Y U,I ak 0,s,I S 0,()]] w λe w'=>e=E bk/\eW w b V a 180 (ar s) w':=by
 have c:aj w w (w.alloc (W #[I S 4,Y U,I ak 0,s,I S 0,()] 147)):=(dk _ _).alloc (hU _) _;have r:=A (λw1(k:aj w w w1)=>aK9 w1 b V a s o p (keep j k) (f.A0 (bj (λ_=>False) k) (λ_ _=>id)) q);have z:=bw j;have t:=bs j;obtain⟨B,C,i⟩:=f.A8;
 have l:¬(65536:Int)<=(a.length:Int):=by omega
 obtain⟨F,G,H,L,P,R,-⟩:=bJ (aL w (W #[I S 4,Y U,I ak 0,s,I S 0,()] 147));have d:=A c;clear j f h c;subst i;go_enter fk,fm;go_wp2
 go_region_with (go_at_call 196;refine(r.o _ d.o.drew).mono ?_;rintro e w2 ⟨rfl,c⟩)
 all_goals
  obtain⟨g,off,cap,f,h,m,n⟩:=c;have u:=A f;have v:=A h;have x:=A m;have y:=A n;clear f h m n;go_wp2;go_ret;exact⟨rfl,g,off,cap,u.o,v.o,x.o.elim D (λj=>aw (bo (by simp) j)),(bj _ d.o.drew).same y.o⟩
def xD(w:N)(b:Nat)(V:O)(a:List O)(s:ByteArray)(o:aV s.data.toList=Z)(p:s.size<=2097152)(h:w.heap[b]?=J (W #[V] 195 (0,0)))(i:Win 97 id w V a)(j:65536<=a.length):
 Q X 175 #[af b,ae #[I S 4,Y U,I ak 0,s,I S 0,()]] w λe w'=>(∃v,e=E v)/\aj w w w':=by
 have c:aj w w (w.alloc (W #[I S 4,Y U,I ak 0,s,I S 0,()] 147)):=(dk _ _).alloc (hU _) _;have q:=bw h;have k:=bs h;obtain⟨n,m,f⟩:=i.A8;have g:(65536:Int)<=(a.length:Int):=by omega
 obtain⟨l,-,-,-,-,-,-⟩:=bJ (aL w (W #[I S 4,Y U,I ak 0,s,I S 0,()] 147));have d:=A c;clear h i c;subst f;go_enter fk,fm;go_wp2;go_ret;exact⟨⟨_,rfl⟩,d.o⟩
def encS(k:List UInt8):O:=ar ⟨k.toArray⟩
inductive cS(F:Nat->Prop)(w:N):O->Tr->Prop
 | null:cS F w (ac 177 (ae #[])) .null
 | flag (b:Bool):cS F w (ac 178 (Y b)) (.flag b)
 | num (x:Nat):cS F w (ac 179 (bh ao x)) (.num x)
 | text (s:List UInt8):cS F w (ac 180 (ar ⟨s.toArray⟩)) (dq s)
 | list (b:Nat) (itemsV:O) (vals:List O) (l:List Tr) (hb:F b) (hblk:w.heap[b]?=J (W #[I S (fq l).A9.g,I S (fq l).A9.bytes,I S (fq l).A9.h,itemsV] 186 (0,0)))
  (hw:eK F 97 id w itemsV vals) (hlen:vals.length=l.length) (ht:∀(i:Nat)(v:O)(t:Tr),vals[i]?=J v->l[i]?=J t->cS F w v t):cS F w (ac 181 (af b)) (fq l)
 | object (b:Nat) (keysV itemsV:O) (vals:List O) (keys:List (List UInt8)) (l:List Tr) (hb:F b) (hblk:w.heap[b]?=J (W #[I S (ft keys l).A9.g,I S (ft keys l).A9.bytes,I S (ft keys l).A9.h,keysV,itemsV] 189 (0,0)))
  (hk:eK F 9 encS w keysV keys) (hw:eK F 97 id w itemsV vals) (hlen:vals.length=l.length) (ht:∀(i:Nat)(v:O)(t:Tr),vals[i]?=J v->l[i]?=J t->cS F w v t):cS F w (ac 187 (af b)) (ft keys l)
def cS.A0{F G:Nat->Prop}{w w':N}{v:O}(h:cS F w v t)(g:Keeps G w w')(m:∀k,F k->¬G k):cS F w' v t:=by
 induction h with
 | null=>exact .null
 | flag b=>exact .flag b
 | num x=>exact .num x
 | text s=>exact .text s
 | list b a c l n f j d q p=>exact .list b a c l n (g.B4 f (m b n)) ⟨j.1.A0 g (λk e=>m k (j.2 k e)),j.2⟩ d p
 | object b i a c keys l n f o j d q p=>exact .object b i a c keys l n (g.B4 f (m b n)) ⟨o.1.A0 g (λk e=>m k (o.2 k e)),o.2⟩ ⟨j.1.A0 g (λk e=>m k (j.2 k e)),j.2⟩ d p
def cS.mono{F G:Nat->Prop}{w:N}{v:O}(h:cS F w v t)(g:∀k,F k->G k):cS G w v t:=by
 induction h with
 | null=>exact .null
 | flag b=>exact .flag b
 | num x=>exact .num x
 | text s=>exact .text s
 | list b a c l i e j d n m=>exact .list b a c l (g b i) e (j.mono g) d m
 | object b f a c keys l i e o j d n m=>exact .object b f a c keys l (g b i) e (o.mono g) (j.mono g) d m
def cS.O1{F:Nat->Prop}{w:N}{v:O}(h:cS F w v t):∃T x,v=ac T x:=by
 cases h<;>exact⟨_,_,rfl⟩
def aOI(w:N)(k:Nat):Prop:=∃(c:Array O)(T:dl),w.heap[k]?=J (W c T (0,0))/\(T=186\/T=189\/T=97\/T=9)
def Win.D5{f:Type}{e:Nat}{enc:f->O}{w:N}{v:O}{l:List f}(h:Win e enc w v l){k:Nat}(a:v.ownBlock=J k):∃(c:Array O),w.heap[k]?=J (W c e (0,0)):=by
 rcases h with⟨rfl,_⟩|⟨g,off,cap,b,rfl,d,_⟩
 .cases a
 .cases a;exact⟨_,d⟩
def cS.D5{F:Nat->Prop}{w:N}{v:O}(h:cS F w v t):cS (λk=>F k/\aOI w k) w v t:=by
 induction h with
 | null=>exact .null
 | flag b=>exact .flag b
 | num x=>exact .num x
 | text s=>exact .text s
 | list b a f l n d j g q p=>
  exact .list b a f l ⟨n,_,_,d,D rfl⟩ d ⟨j.1,λk e=>⟨j.2 k e,by obtain⟨c,m⟩:=j.1.D5 e;exact⟨_,_,m,aw (aw (D rfl))⟩⟩⟩ g p
 | object b i a f keys l n d o j g q p=>
  exact .object b i a f keys l ⟨n,_,_,d,aw (D rfl)⟩ d ⟨o.1,λk e=>⟨o.2 k e,by obtain⟨c,m⟩:=o.1.D5 e;exact⟨_,_,m,aw (aw (aw rfl))⟩⟩⟩ ⟨j.1,λk e=>⟨j.2 k e,by obtain⟨c,m⟩:=j.1.D5 e;exact⟨_,_,m,aw (aw (D rfl))⟩⟩⟩ g p
def eF(F:Nat->Prop)(w:N)(b:List O)(a:List Tr):Prop:=b.length=a.length/\∀(i:Nat)(v:O)(t:Tr),b[i]?=J v->a[i]?=J t->cS F w v t
def eF.A0{F G:Nat->Prop}{w w':N}{b:List O}(h:eF F w b a)(d:Keeps G w w')(c:∀k,F k->¬G k):eF F w' b a:=
 ⟨h.1,λi v t e f=>(h.2 i v t e f).A0 d c⟩
def eF.mono{F G:Nat->Prop}{w:N}{b:List O}(h:eF F w b a)(c:∀k,F k->G k):eF G w b a:=
 ⟨h.1,λi v t d e=>(h.2 i v t d e).mono c⟩
def eF.L7{F:Nat->Prop}{w:N}{b:List O}{v:O}(h:eF F w b a)(g:cS F w v t):eF F w (b++ [v]) (a++ [t]):=by
 refine⟨by simp[h.1],λi x y c d=>?_⟩;by_cases hi:i<b.length
 .rw[ec hi]at c;rw[ec (by have:=h.1;omega)]at d;exact h.2 i x y c d
 .rw[cL (by omega)]at c;rw[cL (by have:=h.1;omega)]at d
  have f:i-b.length=0:=by
   have:=(List.getElem?_eq_some_iff.1 c).1;simp at this;omega
  have e:i-a.length=0:=by have:=h.1;omega
  rw[f]at c;rw[e]at d;simp at c d;subst c;subst d;exact g
def cN(F:Nat->Prop)(w:N)(c:Nat)(b:List Tr):Prop:=
 F c/\(∀k,F k->k<w.heap.size)/\∃V a,w.heap[c]?=J (W #[V] 195 (0,0))/\eK F 97 id w V a/\eF (λk=>F k/\k≠c/\V.ownBlock≠J k) w a b
def cN.B8{F G:Nat->Prop}{w w':N}(h:cN F w i a)(c:Keeps G w w')(d:∀k,F k->¬G k):cN F w' i a:=by
 obtain⟨l,f,V,b,n,j,m⟩:=h;exact⟨l,λk g=>a7 (f k g) c.size,V,b,c.B4 n (d i l),⟨j.1.A0 c λk e=>d k (j.2 k e),j.2⟩,m.A0 c λk h=>d k h.1⟩
def cN.mono{F G:Nat->Prop}{w:N}{e:Nat}(h:cN F w e a)(c:∀k,F k->G k)(d:∀k,G k->k<w.heap.size):cN G w e a:=by
 obtain⟨j,_,V,b,i,f,g⟩:=h;exact⟨c _ j,d,V,b,i,f.mono c,g.mono λk h=>⟨c k h.1,h.2⟩⟩
def eW.M0{F:Nat->Prop}{w w':N}{V:O}{a:List O}{b:List Tr}{v:O}(o:F i)(d:∀k,F k->k<w.heap.size)(p:eK F 97 id w V a)(r:eF (λk=>F k/\k≠i/\V.ownBlock≠J k) w a b)
 (j:∀G w,cS G w (ac T v) t)(h:eW w i V a T v w'):Keeps F w w'/\cN (Since F w w') w' i (b++ [t]):=by
 obtain⟨g,off,cap,s,m,q,n⟩:=h;have f:Keeps F w w':=n.mono λk f=>f.elim (λe=>e▸o) (λe=>p.2 k e);refine⟨f,D o,aF d f.size,_,a++ [ac T v],s,⟨by simpa using m,?_⟩,?_⟩
 .intro k l;cases l;exact q.elim (λe=>D (p.2 _ e)) (λc=>aw ⟨c,m.lt rfl⟩)
 .refine eF.L7 ?_ (j _ _);refine(r.A0 n λk h=>?_).mono λk h=>⟨D h.1,h.2.1,?_⟩
  .rintro(e|e)
   .exact h.2.1 e
   .exact h.2.2 e
  .intro e;cases e;exact q.elim (λe=>h.2.2 e) (λc=>absurd (d _ h.1) (me.2 c))
def aHk(F:Nat->Prop)(w:N)(i:Nat)(a:List Tr)(x:Nat)(q:gO x)(h:cN F w i a)(H:a.length<=1048576):
 Q X 154 #[af i,bh ao x] w λe w'=>(∃v,e=E v)/\Keeps F w w'/\cN (Since F w w') w' i (iR a x):=by
 have s:=h;obtain⟨u,f,V,c,o,n,p⟩:=h;have B:=n8 x;have m:=p.1;by_cases b:65536<=a.length
 .have d:iR a x=a:=by unfold iR bB;rw[pz b]
  rw[d];have y:=A (aAd w i V c x q o n.1 (by omega));have z:=A s;have r:=A f;clear s o n p m b d u f q;go_enter func154,ntmps154;go_wp2_with fail;refine(y.o).mono ?_;rintro e w1 ⟨⟨v,rfl⟩,l⟩;have j:=A l;clear l;go_wp2;go_ret;exact⟨⟨_,rfl⟩,bj F j.o,(z.o.B8 (bj (λ_=>False) j.o) (λ_ _=>id)).mono (λk G=>D G) (aF r.o j.o.size)⟩
 .have d:iR a x=a++ [.num (dW x)]:=by unfold iR bB pA;rw[py b];simp[jb,fe]
  rw[d];have y:=A (aJh w i V c x q o n.1 (by omega) (by omega));have C:=A (λw'(h:eW w i V c 179 (bh ao (dW x)) w')=>h.M0 (t:=.num (dW x)) u f n p (λ_ _=>.num _));clear s o n p m b d u f q;go_enter func154,ntmps154;go_wp2_with fail;refine(y.o).mono ?_;rintro e w1 ⟨rfl,g⟩;have j:=A (C.o _ g);clear g;go_wp2;go_ret;exact⟨⟨_,rfl⟩,j.o.1,j.o.2⟩
def aEH(F:Nat->Prop)(w:N)(n:Nat)(a:List Tr)(l:Oo)(u:aV l=Z)(z:l.length<=2097152)(P:cN F w n a)(T:a.length<=1048576):
 Q X 150 #[af n,ar ⟨l.toArray⟩] w λe w'=>(∃v,e=E v)/\Keeps F w w'/\cN (Since F w w') w' n (gE a l):=by
 have B:=P;obtain⟨C,i,V,d,x,p,y⟩:=P;have q:=y.1;have c:gE a l=bB a (dq l):=by unfold gE;rw[pz u]
 rw[c];have f:aV (⟨l.toArray⟩:ByteArray).data.toList=Z:=by simpa using u
 have g:(⟨l.toArray⟩:ByteArray).size<=2097152:=by show l.toArray.size<=_;simpa using z
 have j:∀G w,cS G w (ac 180 (ar ⟨l.toArray⟩)) (dq l):=λ_ _=>.text _;obtain⟨s,m⟩:∃s:ByteArray,(⟨l.toArray⟩:ByteArray)=s:=⟨_,rfl⟩;rw[m]at f g j⊢;by_cases b:65536<=a.length
 .have h:bB a (dq l)=a:=by unfold bB;rw[pz b]
  rw[h];have H:=A (xD w n V d s f g x p.1 (by omega));have R:=A B;have L:=A i;clear B x p y q b h C i u z c f g j m;go_enter func150,ntmps150;go_wp2_with fail;refine(H.o).mono ?_;rintro e w1 ⟨⟨v,rfl⟩,r⟩;have o:=A r;clear r;go_wp2;go_ret;exact⟨⟨_,rfl⟩,bj F o.o,(R.o.B8 (bj (λ_=>False) o.o) (λ_ _=>id)).mono (λk r=>D r) (aF L.o o.o.size)⟩
 .have h:bB a (dq l)=a++ [dq l]:=by unfold bB pA;rw[py b];simp[jb,fe];omega
  rw[h];have H:=A (aHj w n V d s f g x p.1 (by omega) (by omega));have r:=A (λw'(P:eW w n V d 180 (ar s) w')=>P.M0 (t:=dq l) C i p y j);clear B x p y q b h C i u z c f g j m;go_enter func150,ntmps150;go_wp2_with fail;refine(H.o).mono ?_;rintro e w1 ⟨rfl,b⟩;have o:=A (r.o _ b);clear b;go_wp2;go_ret;exact⟨⟨_,rfl⟩,o.o.1,o.o.2⟩
def aBx(w:N):Q X 73 #[] w λe w'=>e=E (af w)/\w'=w.alloc (W #[()] 195):=by
 go_enter func73,ntmps73;go_wp2;go_ret;exact⟨rfl,rfl⟩
def aJi(F:Nat->Prop)(w:N)(i:Nat)(t:Tr)(h:cN F w i [t]):Q X 54 #[af i] w λe w'=>e=E (ai #[af w,bk])/\∃v,w'=w.alloc (W #[v] 176)/\cS F w v t:=by
 obtain⟨-,-,V,a,d,j,b⟩:=h
 obtain⟨v,rfl⟩:∃v,a= [v]:=by
  have:=b.1
  match a,this with
  | [v],_=>exact⟨v,rfl⟩
 have l:=A ((b.2 0 v t rfl rfl).mono (G:=F) λk h=>h.1);have o:=bw d;rcases j.1 with⟨_,n⟩|⟨g,off,cap,m,rfl,f,-,-,-,hi⟩
 .cases n
 .have c:w.cell? ⟨g,off,K⟩=J v:=by
   have:=hi 0 v rfl;rw[aA f];simpa using this
  simp only[cv,List.length_nil,Nat.zero_add]at o;clear d j b f hi;obtain⟨T,x,rfl⟩:=l.o.O1;go_enter func54,ntmps54;go_wp2_with fail;exact bb (v:=ai #[af w,bk]) (by simp[ah,results54,go_sem]) rfl ⟨rfl,_,rfl,l.o⟩
