/-
  The program, one part of its walk. Conditions: none.
-/
import Derived.Test.YtakkmiomhackiaaGreatDoorBf22
import Derived.Deep.CutRange
set_option linter.all false
set_option maxRecDepth 100000
set_option maxHeartbeats 16000000
open Go.Proofs.Tryz
open Go renaming Addr->D,Calls->T,Value->ae,World->U,bodyPost_ret->af,results->ag
open Go.Ending renaming returned->H
open Go.IntKind renaming i64->J,wrap_i64->ao
open Go.Obj renaming cells->Z
open Go.Proofs.Tryz renaming func86->C,ntmps86->ac,prog->K
open Go.Proofs.YtakkmiomhackiaaGreatDoor.Keeps renaming A8->ak
open Go.RowKit renaming Below->Q
open Go.RowKit.Below renaming refl->ah
open Go.Value renaming agg->Y,int->I,slice->N
open List renaming drop_drop->aj
open Nat renaming le_refl->ai
open Option renaming none->V,some->S
namespace Go.Proofs.YtakkmiomhackiaaGreatDoor
open Go.RowKit
variable {L:Oo}{i n:Nat}
def aHL(w:U)(c:UInt8):T K 86 #[I .u8 c.toNat] w λe w'=>e=H (.string ⟨(aH c).toArray⟩)/\w'=w:=by
 by_cases b:c=110
 .subst b;go_enter C,ac;go_wp2;go_ret;exact⟨rfl,rfl⟩
 obtain⟨k,f,j⟩:=aD (n:=110) b rfl
 by_cases a:c=116
 .subst a;go_enter C,ac;go_wp2;go_ret;exact⟨rfl,rfl⟩
 obtain⟨i,l,g⟩:=aD (n:=116) a rfl
 by_cases d:c=102
 .subst d;go_enter C,ac;go_wp2;go_ret;exact⟨rfl,rfl⟩
 obtain⟨-,h,-⟩:=aD (n:=102) d rfl;rw[show aH c= [] by unfold aH;simp[b,a,d]];go_enter C,ac;go_wp2;go_ret;exact⟨rfl,rfl⟩
def aHM(w:U)(c:UInt8):T K 85 #[I .u8 c.toNat] w λe w'=>e=H (.bool (aY c))/\w'=w:=by
 by_cases h:c=123\/c=125\/c=91\/c=93\/c=58\/c=44
 .rcases h with rfl|rfl|rfl|rfl|rfl|rfl
  all_goals
   go_enter func85,ntmps85;go_wp2;go_ret;exact⟨rfl,rfl⟩
 .simp only[not_or]at h;obtain⟨f,b,i,d,g,a⟩:=h;rw[show aY c=false by unfold aY;simp[f,b,i,d,g,a]];obtain⟨-,j,-⟩:=aD (n:=123) f rfl;obtain⟨-,o,-⟩:=aD (n:=125) b rfl;obtain⟨-,m,-⟩:=aD (n:=91) i rfl;obtain⟨-,l,-⟩:=aD (n:=93) d rfl;obtain⟨-,p,-⟩:=aD (n:=58) g rfl;obtain⟨-,k,-⟩:=aD (n:=44) a rfl;go_enter func85,ntmps85;go_wp2;go_ret;exact⟨rfl,rfl⟩
def jL(w:U)(a:Option D)(n c:Nat)(g d h f no b:Int):T K 58 #[Y #[N a n c,g,d,h,f],no,b] w λe w'=>
 e=H (Y #[N a n c,no,b,b,I J 0])/\Q w w w':=by
 go_enter func58,ntmps58;go_wp2_with fail;exact af (v:=Y #[N a n c,no,b,b,I J 0]) (by simp[ag,results58,go_sem]) rfl ⟨rfl,((ah _ _).alloc (ai _) _).alloc (by simp) _⟩
def yK(w:U)(a:Option D)(n c:Nat)(f h i j:Int)(s:ByteArray)(b:Nat)(en:Bool)(y:b<=s.size)(z:s.size<=2147483648):T K 87 #[Y #[N a n c,f,h,i,j],s,b,en] w λe w'=>
 ∃m a1 o p:Int,e=H (Y #[N a n c,m,a1,o,p])/\Q w w w':=by
 have k:=A (λ(W:U)=>jL W a n c f h i j 95 (s.size:Int));cases en
 .have d:J.wrap ((s.size:Int)-(b:Int))=((s.size-b:Nat):Int):=by rw[ao];omega
  go_enter func87,ntmps87;go_wp2_with fail;exact af (v:=Y #[N a n c,f,h,i,I J ((s.size-b:Nat):Int)]) (by simp[ag,results87,go_sem]) rfl ⟨_,_,_,_,rfl,((ah _ _).alloc (ai _) _).alloc (by simp) _⟩
 .go_enter func87,ntmps87;go_wp2_with fail;refine(k.o _).mono ?_;rintro e B ⟨rfl,d⟩;have l:=chain (((ah w w).alloc (ai _) (Z #[N a n c,f,h,i,j] 53)).alloc (by simp) (Z #[(),I J 0,I J 0,I J 0,I J 0] 53)) d;have g:=keep (heap_alloc_new (w.alloc (Z #[N a n c,f,h,i,j] 53)) (Z #[(),I J 0,I J 0,I J 0,I J 0] 53)) d;rw[show(w.alloc (Z #[N a n c,f,h,i,j] 53)).heap.size=w.heap.size+1 by simp]at g;obtain⟨E,c1,c2,F,L,O⟩:=cells5 g;have G:=A g;have q:=A l;clear g l d k;go_wp2_with fail;obtain⟨P,k⟩:=aS (N a n c) (I J 95) (I J s.size) (I J s.size) (I J 0) G.o q.o (by omega);have d:=A k;obtain⟨l,r,t,u,x,_⟩:=cells5 P;exact af (v:=Y #[N a n c,I J 95,s.size,s.size,I J 0]) (by simp[ag,results87,go_sem,l,r,t,u,x]) rfl ⟨_,_,_,_,rfl,d.o⟩
def aAn(k:l6):List ae:= [I J k.a,I J k.c,I J k.size,.string ⟨k.text.toArray⟩,I .u64 k.bits]
def tA:lB 51 56 5 48:=⟨underlying51,by decide,by
 have h:(K.info? 56).map (λi=>(i.zero,i.size,i.bytes))=S (S (Y #[I J 0,I J 0,I J 0,"",I .u64 0]),5,48):=by kernel_rfl
 obtain⟨i,c,a,d,b⟩:=info_parts h;exact⟨i,_,c,a,d,b,rfl⟩⟩
def aMr(w:U)(L:List UInt8)(en:Bool)(e:Ending)(w':U):Prop:=∃(a:Option D)(n c:Nat)(no b f d:Int),e=H (Y #[N a n c,no,b,f,d])/\Q w w w'/\
 (en=true->∀toks,eM 0 L=S toks->no=0/\n=toks.length/\aQ 5 56 w' (N a n c) n (toks.map aAn).flatten/\∀k,(N a n c).ownBlock=S k->w.heap.size<=k)
def aBU(w:U)(L:List UInt8)(i:Nat)(wr:U):Prop:=∃(b:List l6)(a:Option D)(c:Nat),wr.heap[w.heap.size]?=S (Z #[(),I J 0,I J 0,I J 0,I J 0] 53 (0,0))/\
 wr.heap[w.heap.size+1]?=S (Z #[N a b.length c,I J 0,I J 0,I J 0,I J 0] 53 (0,0))/\aQ 5 56 wr (N a b.length c) b.length (b.map aAn).flatten/\
 (∀k,(N a b.length c).ownBlock=S k->w.heap.size+2<=k)/\Q w w wr/\b.length<=i/\w.heap.size+2<=wr.heap.size/\eM 0 L=(eM i (L.drop i)).map (b++ ·)
def tB{t s:Oo}{c:UInt8}{f b:Nat}{a:List l6}(h:eM 0 L=(eM i (L.drop i)).map (a++ ·))(e:L.drop i=c::t)(j:aI c=false)(g:l7 c t=S (f,n,s,b))(k:1<=n):
 eM 0 L=(eM (i+n) (L.drop (i+n))).map ((a++ [⟨f,i,n,s,b⟩])++ ·):=by
 have d:t=L.drop (i+1):=by
  have:=congrArg (λx=>x.drop 1) e
  simpa[aj]using this.symm
 rw[h,e,wN j g,d,aj,show i+1+(n-1)=i+n by omega];cases eM (i+n) (L.drop (i+n))with
 | none=>rfl
 | some x=>simp
def lH{t:Oo}{c:UInt8}{a:List l6}(h:eM 0 L=(eM i (L.drop i)).map (a++ ·))(b:L.drop i=c::t)(e:aI c=false)(d:l7 c t=V):eM 0 L=V:=by
 rw[h,b,yI e d];rfl
def wP{w wr X w1:U}{g off cap c:Nat}{b:List l6}{a:Option D}{k:l6}(v:wr.heap[w.heap.size]?=S (Z #[(),I J 0,I J 0,I J 0,I J 0] 53 (0,0)))
 (s:wr.heap[w.heap.size+1]?=S (Z #[N a b.length c,I J 0,I J 0,I J 0,I J 0] 53 (0,0)))(m:∀k,(N a b.length c).ownBlock=S k->w.heap.size+2<=k)(x:Q w w wr)(G:b.length<=i)(E:w.heap.size+2<=wr.heap.size)
 (l:Keeps (λ_=>False) wr X)(j:aQ 5 56 w1 (N (g,off) (b.length+1) cap) (b.length+1) ((b.map aAn).flatten++aAn k))(p:(N a b.length c).ownBlock=S g\/wr.heap.size<=g)
 (f:Keeps (λq=>(N a b.length c).ownBlock=S q) X w1)(F:1<=n)(y:eM 0 L=(eM (i+n) (L.drop (i+n))).map ((b++ [k])++ ·)):
 aBU w L (i+n) (w1.setCell ⟨w.heap.size+1,0,V⟩ (N (g,off) (b.length+1) cap)):=by
 have B:=l.size;have z:=f.size;have t:w.heap.size+2<=g:=p.elim (m g) λe=>by omega
 have d:=(ak (λk=>k=w.heap.size+1) w1).own 0 (N (g,off) (b.length+1) cap);have u:w1.heap[w.heap.size]?=_:=f.B7 (l.B7 v id) (λe=>by have:=m _ e;omega);have b1:w1.heap[w.heap.size+1]?=_:=f.B7 (l.B7 s id) (λe=>by have:=m _ e;omega);have h:(b++ [k]).length=b.length+1:=by simp
 refine⟨b++ [k],S ⟨g,off,V⟩,cap,?_⟩;rw[h];refine⟨d.B7 u (λe=>by omega),aB (o:=0) b1 _,?_,λq e=>?_,?_,by omega,?_,y⟩
 .rw[List.map_append,List.flatten_append,List.map_singleton,List.flatten_singleton];exact j.A2 d λq e r=>by cases e;have r:g=w.heap.size+1:=r;omega
 .cases e;exact t
 .exact((x.trans (l.C6 (by omega) λ_=>False.elim)).trans (f.C6 (by omega) λq e=>by have:=m q e;omega)).trans (d.C6 (by omega) λq e=>by omega)
 .have:=d.size;omega
def yZ(l:List UInt8):Option (Nat×Nat×List UInt8×Nat):=if(dB l).2=true then(match bitsOf (l.take (dB l).1)with
 | some b=>S (3,(dB l).1,[],b)
 | none=>V)else V
def aMs:Pc (List UInt8×Nat)->Option (Nat×Nat×List UInt8×Nat)
 | .ok x=>S (4,x.2,x.1,0)
 | _=>V
def aDC{s e:Nat}{w:U}{v:ae}{b:Nat}{a:List ae}(h:aQ s e w v n a)(i:∀k,v.ownBlock=S k->k≠b)(f j d c g:ae):aQ s e (((((w.setCell b f).setCell ⟨b,1,V⟩ j).setCell ⟨b,2,V⟩ d).setCell ⟨b,3,V⟩ c).setCell ⟨b,4,V⟩ g) v n a:=
 h.A2 (((((((ak (λk=>k=b) w).own _ _).own _ _).own _ _).own _ _).own _ _)) i
def vM(w:U)(s:ByteArray)(en:Bool)(hs:s.size<=16777216):T K 57 #[s,en] w λe w'=>aMr w s.data.toList en e w':=by
 have HA:=A (show aBU w s.data.toList 0 ((w.alloc (Z #[(),I J 0,I J 0,I J 0,I J 0] 53)).alloc (Z #[(),I J 0,I J 0,I J 0,I J 0] 53))from by
  have k1:(w.alloc (Z #[(),I J 0,I J 0,I J 0,I J 0] 53)).heap.size=w.heap.size+1:=by simp
  refine⟨[],V,0,?_,?_,.nil _ _ _,(λk e=>by cases e),((ah _ _).alloc (ai _) _).alloc (by simp) _,ai _,by simp,?_⟩
  .exact(Below.heap_alloc _ _ w.heap.size (by simp)).trans (heap_alloc_new w _)
  .rw[<-k1];exact heap_alloc_new _ _
  .rw[List.drop_zero];cases eM 0 s.data.toList<;>rfl)
 have HB:=A (λ(W:U)(c:UInt8)=>xQ W c);have HM:=A (λ(W:U)(c:UInt8)=>aHM W c);have HN:=A (λ(W:U)(c:UInt8)=>aHL W c);go_enter func57,ntmps57;go_wp2
 go_loopw [6] (λv wr=>∃i:Nat,v=I J i/\i<=s.size/\M (aBU w s.data.toList i wr)) (λv _=>s.size-(intOf v).toNat)
 case atStart=>exact⟨0,rfl,Nat.zero_le _,HA⟩
 case round=>
  obtain⟨i,rfl,hi,hA⟩:=hrel
  by_cases k7:i<s.size
  .have q1:(i:Int)<(s.size:Int):=by omega
   obtain⟨q,m⟩:∃q,i+1=q:=⟨_,rfl⟩;have q2:J.wrap ((i:Int)+1)=(q:Int):=by rw[ao];omega
   have q3:(i:Int)<=(q:Int):=by omega
   have q4:(q:Int)<=(s.size:Int):=by omega
   have HQ:=A m;have f:=bA k7;cases h:aI s[i]with
   | true=>
    have k9:=A (λW=>by have:=HB.o W s[i];rw[h]at this;exact this)
    have g:=A (show aBU w s.data.toList (i+1) wr from by
     obtain⟨d,a,c,h1,h2,h3,h4,h5,E,l,h8⟩:=hA.o;refine⟨d,a,c,h1,h2,h3,h4,h5,by omega,l,?_⟩;rw[h8,f,pQ h])
    clear hA h f m;go_wp2_with fail;refine(k9.o _).mono ?_;rintro e w3 ⟨rfl,rfl⟩;go_wp2
    go_roundw
    case rel=>exact⟨q,by go_num,by omega,HQ.o▸g⟩
    case measure=>have:=HQ.o;simp[intOf];omega
   | false=>
    have k9:=A (λW=>by have:=HB.o W s[i];rw[h]at this;exact this);obtain⟨d,a,c,h1,h2,h3,h4,h5,E,l,h8⟩:=hA.o;have t:=A (And.intro h (And.intro f h8));obtain⟨d0,d1,d2,d3,d4,df⟩:=cells5 h2;have g:=A (And.intro h1 h2);have H3:=A h3;have H4:=A h4;have H5:=A h5;have B:=A (And.intro E l);have m0:d.length<=16777216:=by omega
    clear hA h f h1 h2 h3 h4 h5 E l h8 m;go_wp2_with fail;refine(k9.o _).mono ?_;rintro e w3 ⟨rfl,rfl⟩;go_wp2_with fail;refine(HM.o _ _).mono ?_;rintro e w4 ⟨rfl,rfl⟩;cases hm:aY s[i]with
    | true=>
     obtain⟨sv,j4⟩:∃sv:ByteArray,⟨[s[i]].toArray⟩=sv:=⟨_,rfl⟩;have hx:s.extract i q=sv:=by rw[<-j4,<-HQ.o,kJ,t.o.2.1];rfl
     have k8:=A j4;have f:=tB t.o.2.2 t.o.2.1 t.o.1 (show l7 s[i] (s.data.toList.drop (i+1))=S (1,1,[s[i]],0) by unfold l7;rw[if_pos hm]) (ai _);have j5:=A f;clear hm f j4;go_wp2_with fail
     have f:∀(j:Nat)(u:ae),[I J 1,I J i,I J 1,.string sv,I .u64 0][j]?=S u->(w4.drew.alloc (Z #[I J 1,i,I J 1,sv,I .u64 0] 56)).cell? ((⟨w4.heap.size,0,V⟩:D).add j)=S u:=λj u hj=>by
      rw[Addr.add_lit,Nat.zero_add];exact(aA (heap_alloc_new w4.drew _)).trans (by simpa using hj)
     have j0:=A f;have j6:=A (H3.o.A2 ((ak (λ_=>False) w4).B0.A6 (Z #[I J 1,i,I J 1,sv,I .u64 0] 56)) λ_ _=>id);have i8:=A (show(d.length+1)*48<=140737488355328/\d.length+1<=maxLen from⟨by omega,by unfold maxLen;omega⟩);have l:=((ak (λ_=>False) w4).A6 (Z #[I J 1,i,I J 1,sv,I .u64 0] 56)).B3 d0 id;clear f
     go_region_law (refine bP tA rfl _ _ rfl rfl j6.o w4 1 1 [I J 1,I J i,I J 1,.string sv,I .u64 0] (by rfl) (by rfl) j0.o (by intro u hu;simp at hu;rcases hu with rfl|rfl|rfl|rfl|rfl<;>rfl) (by decide) i8.o.1 i8.o.2 ?_;intro g' k4 k5 w' O j1 h;have L:=h.B7 (((ak (λ_=>False) w4).B0.A6 (Z #[I J 1,i,I J 1,sv,I .u64 0] 56)).B7 g.o.2 id) (λe=>by have:=H4.o _ e;omega);have hS:=(cells5 L).1;have l0:=(cells5 L).2.2.2.2.2;clear L)
     all_goals
      have f:=A (And.intro O (And.intro j1 h));clear O j1 h;go_wp2_with fail;exact⟨⟨q,rfl,by omega,HQ.o▸A (wP g.o.1 g.o.2 H4.o H5.o B.o.1 B.o.2 ((ak (λ_=>False) w4).B0.A6 _) (by have:=f.o.1;rw[<-k8.o]at this;exact this) (f.o.2.1.imp id λa0=>Nat.le_trans (by simp) a0.1) f.o.2.2 (ai _) j5.o)⟩,by have:=HQ.o;simp[intOf];omega⟩
    | false=>
     have l1:=A (λW=>HN.o W s[i]);go_wp2_with fail;refine(l1.o _).mono ?_;rintro e w5 ⟨rfl,rfl⟩
     by_cases hw:aH s[i]≠ []
     .skip;obtain⟨a1,f⟩:∃a1,alike (aH s[i]) (s.data.toList.drop i)=a1:=⟨_,rfl⟩
      have F:s[i]=110\/s[i]=116\/s[i]=102:=by
       unfold aH at hw
       by_cases e1:s[i]=110
       .exact .inl e1
       by_cases e2:s[i]=116
       .exact .inr (.inl e2)
       by_cases e3:s[i]=102
       .exact .inr (.inr e3)
       rw[if_neg e1,if_neg e2,if_neg e3]at hw;exact absurd rfl hw
      obtain⟨l,m,G⟩:∃l:ByteArray,(⟨(aH s[i]).toArray⟩:ByteArray)=l/\(l=⟨#[110,117,108,108]⟩\/l=⟨#[116,114,117,101]⟩\/l=⟨#[102,97,108,115,101]⟩):=by
       rcases F with e|e|e<;>rw[e]<;>exact⟨_,rfl,by decide⟩
      have E:l.data.toList=aH s[i]:=by rw[<-m]
      rw[m]at l1⊢;have k1:l.size<=5:=by rcases G with rfl|rfl|rfl<;>decide
      have l5:l.toList.isEmpty=false:=by rw[Lib.toList_data];rcases G with rfl|rfl|rfl<;>rfl
      rw[<-E]at f;have k2:=A (show 0+alike (l.data.toList.drop 0) (s.data.toList.drop (i+0))=a1 by simpa using f)
      have j8:=A (show l7 s[i] (s.data.toList.drop (i+1))=if a1<l.size then V else S (2,a1,l.data.toList,0) by
       unfold l7;rw[if_neg (by rw[hm];simp),if_pos hw,<-t.o.2.1,<-E,f,show l.data.toList.length=l.size by simp])
      have HW:=A G;clear hm hw F m G E f;go_wp2_with fail;refine(l1.o _).mono ?_;rintro e w6 ⟨rfl,rfl⟩;go_wp2
      go_loopw [9] (λv wr=>∃k:Nat,v=I J k/\k<=l.size/\i+k<=s.size/\M (k+alike (l.data.toList.drop k) (s.data.toList.drop (i+k))=a1)/\Keeps (λ_=>False) w6 wr) (λv _=>l.size-(intOf v).toNat)
      case atStart=>exact⟨0,rfl,Nat.zero_le _,hi,k2,ak _ _⟩
      case round=>
       obtain⟨k,rfl,hk,hp,j3,j7⟩:=hrel;obtain⟨p,i9⟩:∃p,i+k=p:=⟨_,rfl⟩;have E:=A j7;have p1:J.wrap ((i:Int)+(k:Int))=(p:Int):=by rw[ao];omega
       have h:=j3.o;rw[i9]at h hp
       by_cases h1:k<l.size
       .have e1:(k:Int)<(l.size:Int):=by omega
        by_cases h2:p<s.size
        .have e2:(p:Int)<(s.size:Int):=by omega
         by_cases h3:s[p]=l[k]
         .have e3:(((s[p].toNat:Nat):Int)==((l[k].toNat:Nat):Int))=true:=by rw[h3];simp
          rw[sI (by simpa using h1) h2,if_pos (by rw[Array.getElem_toList];exact h3.symm)]at h;have f:=A (show(k+1)+alike (l.data.toList.drop (k+1)) (s.data.toList.drop (i+(k+1)))=a1 by rw[<-h,<-i9];rw[show i+(k+1)=i+k+1 by omega];omega);have m:J.wrap ((k:Int)+1)=(k:Int)+1:=by rw[ao];omega
          have HX:=A (show k+1<=l.size/\i+(k+1)<=s.size from⟨by omega,by omega⟩);clear h3 h j7 i9 j3 d0 d1 d2 d3 d4 df;go_wp2
          go_quiet (fail)
          go_wp2
          go_roundw
          case rel=>exact⟨k+1,by go_num,HX.o.1,HX.o.2,f,E.o.L4 rfl rfl rfl rfl⟩
          case measure=>have:=HX.o;simp[intOf];omega
         .have e3:(((s[p].toNat:Nat):Int)==((l[k].toNat:Nat):Int))=false:=by
           have:¬s[p].toNat=l[k].toNat:=λe=>h3 (UInt8.toNat.inj e)
           simp;omega
          rw[sI (by simpa using h1) h2,if_neg (by rw[Array.getElem_toList];exact λe=>h3 e.symm),Nat.add_zero]at h;subst h;have i7:=A (show eM 0 s.data.toList=V from lH t.o.2.2 t.o.2.1 t.o.1 (by rw[j8.o,if_pos h1]));obtain⟨d0,d1,d2,d3,d4,-⟩:=cells5 (E.o.B7 g.o.2 id);have j2:=A (λ(X:U)(z:Int)=>jL X a d.length c 0 0 0 0 94 z);clear h3 j7 i9 j3;go_wp2
          go_quiet (fail)
          go_wp2_with fail;refine(j2.o _ _).mono ?_;rintro e w7 ⟨rfl,f⟩;have F:=keep ((E.o.R2 _).B7 g.o.1 id) f;have G:=A (chain (H5.o.trans ((E.o.R2 _).C6 (by have:=B.o.2;omega) λ_=>False.elim)) f);have HG:=A F;obtain⟨c0,c1,c2,c3,c4,cf⟩:=cells5 F;clear F f d0 d1 d2 d3 d4;go_wp2_with fail;obtain⟨P,PB⟩:=aS (N a d.length c) (I J 94) (I J p) (I J p) (I J 0) HG.o G.o (ai _);have m:=A PB;obtain⟨r0,r1,r2,r3,r4,_⟩:=cells5 P;exact af (v:=Y #[N a d.length c,I J 94,I J p,I J p,I J 0]) (by simp[ag,results57,go_sem,r0,r1,r2,r3,r4]) rfl ⟨_,_,_,_,_,_,_,rfl,m.o,λ_ toks e=>by rw[i7.o]at e;cases e⟩
        .have e2:¬(p:Int)<(s.size:Int):=by omega
         rw[pI (by omega),Nat.add_zero]at h;subst h;have i7:=A (show eM 0 s.data.toList=V from lH t.o.2.2 t.o.2.1 t.o.1 (by rw[j8.o,if_pos h1]));obtain⟨d0,d1,d2,d3,d4,-⟩:=cells5 (E.o.B7 g.o.2 id);have j9:=A (λ(X:U)=>yK X a d.length c 0 0 0 0 s i en hi (by omega));clear j7 i9 j3;go_wp2
         go_quiet (fail)
         go_wp2_with fail;refine(j9.o _).mono ?_;rintro e w7 ⟨y1,y2,y3,y4,rfl,f⟩;have F:=keep ((E.o.R2 _).B7 g.o.1 id) f;have G:=A (chain (H5.o.trans ((E.o.R2 _).C6 (by have:=B.o.2;omega) λ_=>False.elim)) f);have HG:=A F;obtain⟨c0,c1,c2,c3,c4,cf⟩:=cells5 F;clear F f d0 d1 d2 d3 d4;go_wp2_with fail;obtain⟨P,PB⟩:=aS (N a d.length c) (I J y1) (I J y2) (I J y3) (I J y4) HG.o G.o (ai _);have m:=A PB;obtain⟨r0,r1,r2,r3,r4,_⟩:=cells5 P;exact af (v:=Y #[N a d.length c,y1,y2,y3,y4]) (by simp[ag,results57,go_sem,r0,r1,r2,r3,r4]) rfl ⟨_,_,_,_,_,_,_,rfl,m.o,λ_ toks e=>by rw[i7.o]at e;cases e⟩
       .have e1:¬(k:Int)<(l.size:Int):=by omega
        rw[pI (by simp;omega),Nat.add_zero]at h;subst h;have k3:=A (show k=l.size by omega);obtain⟨d0,-,-,-,-,-⟩:=cells5 (E.o.B7 g.o.2 id);have k0:1<=k:=by rcases HW.o with e|e|e<;>(have e2:=k3.o;rw[e]at e2;rw[e2];decide)
        have j5:=A (tB t.o.2.2 t.o.2.1 t.o.1 (by rw[j8.o,if_neg h1]) k0);have j6:=A (λn=>H3.o.A2 ((E.o.R2 n).A6 (Z #[I J 2,i,I J k,l,I .u64 0] 56)) λ_ _=>id)
        have j0:=A (λ(n:Nat)(j:Nat)(u:ae)(hj:([I J 2,I J i,I J k,.string l,I .u64 0]:List ae)[j]?=S u)=>show((wr.drewN n).alloc (Z #[I J 2,i,I J k,l,I .u64 0] 56)).cell? ((⟨wr.heap.size,0,V⟩:D).add j)=S u by
         rw[Addr.add_lit,Nat.zero_add];exact(aA (heap_alloc_new (wr.drewN n) _)).trans (by simpa using hj))
        have i8:=A (show(d.length+1)*48<=140737488355328/\d.length+1<=maxLen from⟨by omega,by unfold maxLen;omega⟩);have HX:=A (And.intro i9 k0);clear j7 j3 k0 i9;go_wp2
        go_quiet (fail)
        go_wp2_with (at_builtin;refine bC tA rfl _ _ rfl rfl (j6.o _) ⟨wr.heap.size,0,V⟩ 1 1 [I J 2,I J i,I J k,.string l,I .u64 0] rfl rfl (j0.o _) (by intro u hu;simp at hu;rcases hu with rfl|rfl|rfl|rfl|rfl<;>rfl) (by decide) i8.o.1 i8.o.2 ?_;intro g' k4 k5 w' O j1 h;have L:=h.B7 (((E.o.R2 _).A6 (Z #[I J 2,i,I J k,l,I .u64 0] 56)).B7 g.o.2 id) (λe=>by have:=H4.o _ e;omega);have hS:=(cells5 L).1;have l0:=(cells5 L).2.2.2.2.2;clear L)
        exact⟨⟨p,rfl,by omega,HX.o.1▸A (wP (k:=⟨2,i,k,l.data.toList,0⟩) g.o.1 g.o.2 H4.o H5.o B.o.1 B.o.2 ((E.o.R2 _).A6 _) O (j1.imp id λa0=>Nat.le_trans (Nat.le_trans E.o.size (by simp)) a0.1) h HX.o.2 j5.o)⟩,by have:=HX.o;simp[intOf];omega⟩
     by_cases i9:s[i]=34
     .skip;have k1:aH s[i]= []:=by simpa using hw
      rw[k1];have l6:(((s[i].toNat:Nat):Int)==34)=true:=by rw[i9];rfl
      obtain⟨R,E⟩:∃R,cM [] 1 (s.data.toList.drop (i+1))=R:=⟨_,rfl⟩;have l3:=A (λW=>uG W s i k7 (by omega))
      have l:∀R',cM [] 1 (s.data.toList.drop (i+1))=R'->l7 s[i] (s.data.toList.drop (i+1))=aMs R':=by
       intro R' a0;unfold l7;rw[if_neg (by rw[hm];simp),if_neg hw,if_pos i9,a0];cases R'<;>rfl
      have l:=l R E;have l8:=A (λx(hx:R=.ok x)=>pP (E.trans hx));rw[E]at l3;have j7:=A l;have l9:=A E;clear hm hw k1 E l i9;go_wp2_with fail;refine(l3.o _).mono ?_;rintro e w6 ⟨rfl,k2⟩;cases R with
      | cut=>
       have i7:=A (show eM 0 s.data.toList=V from lH t.o.2.2 t.o.2.1 t.o.1 j7.o);have j9:=A (λ(X:U)=>yK X a d.length c 0 0 0 0 s i en hi (by omega));rw[aDe];have l:=A ((Keeps.A0 (λ_=>False) k2).A6 (Z #["",I J 0,I J 0,I J 0,.bool true] 200));obtain⟨d0,d1,d2,d3,d4,-⟩:=cells5 (l.o.B7 g.o.2 id);obtain⟨-,-,-,-,z4,-⟩:=cells5 (heap_alloc_new w6 (Z #["",I J 0,I J 0,I J 0,.bool true] 200));clear k2;go_wp2_with fail;refine(j9.o _).mono ?_;rintro e w7 ⟨y1,y2,y3,y4,rfl,f⟩;clear d0 d1 d2 d3 d4 z4;have F:=keep (l.o.B7 g.o.1 id) f;have G:=A (chain (H5.o.trans (l.o.C6 (by have:=B.o.2;omega) λ_=>False.elim)) f);have HG:=A F;obtain⟨c0,c1,c2,c3,c4,cf⟩:=cells5 F;clear F f;go_wp2_with fail;obtain⟨P,PB⟩:=aS (N a d.length c) (I J y1) (I J y2) (I J y3) (I J y4) HG.o G.o (ai _);have m:=A PB;obtain⟨r0,r1,r2,r3,r4,_⟩:=cells5 P;exact af (v:=Y #[N a d.length c,y1,y2,y3,y4]) (by simp[ag,results57,go_sem,r0,r1,r2,r3,r4]) rfl ⟨_,_,_,_,_,_,_,rfl,m.o,λ_ toks e=>by rw[i7.o]at e;cases e⟩
      | bad no b=>
       have i7:=A (show eM 0 s.data.toList=V from lH t.o.2.2 t.o.2.1 t.o.1 j7.o)
       have E:((no:Int)!=0)=true:=by
        have:=oN _ (ai _) (show cM [] 1 (s.data.toList.drop (i+1))=.bad no b from l9.o);simp;omega
       obtain⟨x,hx⟩:∃x,i+b=x:=⟨_,rfl⟩;have j2:=A (λ(X:U)(y z:Int)=>jL X a d.length c 0 0 0 0 y z);rw[aDe,hx];clear hx;have l:=A ((Keeps.A0 (λ_=>False) k2).A6 (Z #["",I J 0,no,I J x,.bool false] 200));obtain⟨d0,d1,d2,d3,d4,-⟩:=cells5 (l.o.B7 g.o.2 id);obtain⟨-,-,z2,z3,z4,zf⟩:=cells5 (heap_alloc_new w6 (Z #["",I J 0,no,I J x,.bool false] 200));clear k2;go_wp2_with fail;refine(j2.o _ _ _).mono ?_;rintro e w7 ⟨rfl,f⟩;clear d0 d1 d2 d3 d4 z2 z3 z4 zf;have F:=keep (l.o.B7 g.o.1 id) f;have G:=A (chain (H5.o.trans (l.o.C6 (by have:=B.o.2;omega) λ_=>False.elim)) f);have HG:=A F;obtain⟨c0,c1,c2,c3,c4,cf⟩:=cells5 F;clear F f;go_wp2_with fail;obtain⟨P,PB⟩:=aS (N a d.length c) (I J no) (I J x) (I J x) (I J 0) HG.o G.o (ai _);have m:=A PB;obtain⟨r0,r1,r2,r3,r4,_⟩:=cells5 P;exact af (v:=Y #[N a d.length c,no,I J x,I J x,I J 0]) (by simp[ag,results57,go_sem,r0,r1,r2,r3,r4]) rfl ⟨_,_,_,_,_,_,_,rfl,m.o,λ_ toks e=>by rw[i7.o]at e;cases e⟩
      | ok x=>
       obtain⟨k6,n⟩:=x;have l2:=l8.o _ rfl;simp only at l2;obtain⟨E,j8⟩:∃E,i+n=E:=⟨_,rfl⟩;obtain⟨sv,j4⟩:∃sv:ByteArray,⟨k6.toArray⟩=sv:=⟨_,rfl⟩;have j5:=A (tB t.o.2.2 t.o.2.1 t.o.1 j7.o (by omega));have l4:(s.data.toList.drop (i+1)).length=s.size-(i+1):=by rw[List.length_drop];simp
       rw[l4]at l2;have j3:=A j8;have k3:=A (show 1<=n by omega);have k8:=A j4;rw[aDe];simp only[j8,j4];have t1:J.wrap ((E:Int)-(i:Int))=(n:Int):=by rw[ao];omega
       have t2:E<=s.size:=by omega
       clear j8 j4 l2 l4;have l:=A ((Keeps.A0 (λ_=>False) k2).A6 (Z #["",I J 0,I J 0,I J 0,.bool false] 200));obtain⟨d0,-,-,-,-,-⟩:=cells5 (l.o.B7 g.o.2 id);obtain⟨z0,z1,z2,z3,z4,zf⟩:=cells5 (heap_alloc_new w6 (Z #["",I J 0,I J 0,I J 0,.bool false] 200));clear k2;have j6:=A (H3.o.A2 (l.o.A6 (Z #[I J 4,i,I J n,sv,I .u64 0] 56)) λ_ _=>id)
       have j0:=A (λ(j:Nat)(u:ae)(hj:([I J 4,I J i,I J n,.string sv,I .u64 0]:List ae)[j]?=S u)=>show((w6.alloc (Z #["",I J 0,I J 0,I J 0,.bool false] 200)).alloc (Z #[I J 4,i,I J n,sv,I .u64 0] 56)).cell? ((⟨w6.heap.size+1,0,V⟩:D).add j)=S u by
        rw[Addr.add_lit,Nat.zero_add];exact(aA (by have:=heap_alloc_new (w6.alloc (Z #["",I J 0,I J 0,I J 0,.bool false] 200)) (Z #[I J 4,i,I J n,sv,I .u64 0] 56);rwa[show(w6.alloc (Z #["",I J 0,I J 0,I J 0,.bool false] 200)).heap.size=w6.heap.size+1 by simp]at this)).trans (by simpa using hj))
       have i8:=A (show(d.length+1)*48<=140737488355328/\d.length+1<=maxLen from⟨by omega,by unfold maxLen;omega⟩)
       go_wp2_with (at_builtin;refine bC tA rfl _ _ rfl rfl j6.o ⟨w6.heap.size+1,0,V⟩ 1 1 [I J 4,I J i,I J n,.string sv,I .u64 0] rfl rfl j0.o (by intro u hu;simp at hu;rcases hu with rfl|rfl|rfl|rfl|rfl<;>rfl) (by decide) i8.o.1 i8.o.2 ?_;intro g' k4 k5 w' O j1 h;have L:=h.B7 ((l.o.A6 (Z #[I J 4,i,I J n,sv,I .u64 0] 56)).B7 g.o.2 id) (λe=>by have:=H4.o _ e;omega);have hS:=(cells5 L).1;have l0:=(cells5 L).2.2.2.2.2;clear L)
       exact⟨⟨E,rfl,t2,j3.o▸A (wP (k:=⟨4,i,n,k6,0⟩) g.o.1 g.o.2 H4.o H5.o B.o.1 B.o.2 (l.o.A6 (Z #[I J 4,i,I J n,sv,I .u64 0] 56)) (by rw[<-k8.o]at O;exact O) (j1.imp id λa0=>Nat.le_trans (l.o.A6 (Z #[I J 4,i,I J n,sv,I .u64 0] 56)).size a0.1) h k3.o j5.o)⟩,by have:=j3.o;have:=k3.o;simp[intOf];omega⟩
     have k1:aH s[i]= []:=by simpa using hw
     rw[k1]
     have l6:(((s[i].toNat:Nat):Int)==34)=false:=by
      have:s[i].toNat≠34:=λe=>i9 (UInt8.toNat.inj e)
      simp;omega
     have k6:=A (λW=>qO W s i);have l2:bR (s.data.toList.drop i)=isD s[i]:=by rw[t.o.2.1];rfl
     rw[l2]at k6
     have j4:∀y,(if s[i]=45\/isD s[i]=true then yZ (s.data.toList.drop i)else V)=y->l7 s[i] (s.data.toList.drop (i+1))=y:=by
      intro y hy;rw[<-hy,t.o.2.1];unfold l7 yZ;rw[if_neg (by rw[hm];simp),if_neg hw,if_neg i9];rfl
     by_cases hn:s[i]=45\/isD s[i]=true
     case neg=>
      have k2:s[i]≠45:=λe=>hn (.inl e)
      have k8:isD s[i]=false:=by
       cases hx:isD s[i]with
       | true=>exact absurd (.inr hx) hn
       | false=>rfl
      rw[k8]at k6;have i7:=A (show eM 0 s.data.toList=V from lH t.o.2.2 t.o.2.1 t.o.1 (j4 V (if_neg hn)));have j2:=A (λ(X:U)(y z:Int)=>jL X a d.length c 0 0 0 0 y z);obtain⟨-,-,l3⟩:=aD (n:=45) k2 rfl;have l:=A (ak (λ_=>False) w5);clear hm hw k1 i9 j4 hn k8 l2 k2;go_wp2_with fail;refine(k6.o _).mono ?_;rintro e w6 ⟨rfl,rfl⟩;go_wp2_with fail;refine(j2.o _ _ _).mono ?_;rintro e w7 ⟨rfl,f⟩;clear d0 d1 d2 d3 d4 df;have F:=keep (l.o.B7 g.o.1 id) f;have G:=A (chain (H5.o.trans (l.o.C6 (by have:=B.o.2;omega) λ_=>False.elim)) f);have HG:=A F;obtain⟨c0,c1,c2,c3,c4,cf⟩:=cells5 F;clear F f;go_wp2_with fail;obtain⟨P,PB⟩:=aS (N a d.length c) (I J 94) (I J i) (I J i) (I J 0) HG.o G.o (ai _);have m:=A PB;obtain⟨r0,r1,r2,r3,r4,_⟩:=cells5 P;exact af (v:=Y #[N a d.length c,I J 94,i,i,I J 0]) (by simp[ag,results57,go_sem,r0,r1,r2,r3,r4]) rfl ⟨_,_,_,_,_,_,_,rfl,m.o,λ_ toks e=>by rw[i7.o]at e;cases e⟩
     case pos=>
      obtain⟨n,wh,k8⟩:∃n wh,dB (s.data.toList.drop i)=(n,wh):=⟨_,_,rfl⟩
      have l3:∀W,T K 90 #[.string s,i] W λe w'=>e=H (.tuple #[I J ((i+n:Nat):Int),.bool wh])/\w'=W:=λW=>by
       have:=vK W s i k7 (by omega);rw[k8]at this;exact this
      obtain⟨E,j8⟩:∃E,i+n=E:=⟨_,rfl⟩;simp only[j8]at l3;have l8:=A l3;have l4:(s.data.toList.drop i).length=s.size-i:=by simp
      have l9:E<=s.size:=by
       have:(dB (s.data.toList.drop i)).1<=s.size-i:=by rw[xX,<-l4];exact pR 0 _
       rw[k8]at this;simp only at this;omega
      have j7:=A (j4 _ (if_pos hn));have j0:=A k8;have j3:=A j8;have j2:=A (λ(X:U)(y z:Int)=>jL X a d.length c 0 0 0 0 y z);have j9:=A (λ(X:U)=>yK X a d.length c 0 0 0 0 s i en hi (by omega));have l:=A (ak (λ_=>False) w5)
      have hc:(((s[i].toNat:Nat):Int)!=45)=false\/((((s[i].toNat:Nat):Int)!=45)=true/\isD s[i]=true):=by
       by_cases k2:s[i]=45
       .exact .inl (by rw[k2];rfl)
       .exact .inr ⟨(aD (n:=45) k2 rfl).2.2,hn.resolve_left k2⟩
      clear hm hw k1 i9 j4 hn l2 l3 j8 k8 l4
      go_upto_region 29 with fail
      go_cut [156]from 149 to 156 (λs wc=>s=.bool false/\wc=w5)
      case first=>
       rcases hc with i9|⟨i9,hd⟩
       .go_wp2_with fail
        go_meet
        case rel=>exact⟨rfl,rfl⟩
       .rw[hd]at k6
        go_wp2_with (go_at_call 89;refine(k6.o _).mono ?_;rintro e w6 ⟨rfl,rfl⟩)
        go_meet
        case rel=>exact⟨rfl,rfl⟩
      case rest=>
      obtain⟨rfl,rfl⟩:=hcut;clear hc;go_wp2_with fail;refine(l8.o _).mono ?_;rintro e w6 ⟨rfl,rfl⟩;rcases Bool.eq_false_or_eq_true wh with rfl|rfl
      case inr=>
       have i7:=A (show eM 0 s.data.toList=V from lH t.o.2.2 t.o.2.1 t.o.1 (j7.o.trans (by unfold yZ;rw[j0.o];rfl)));have i9:(E:Int)<(s.size:Int)\/¬(E:Int)<(s.size:Int):=by omega
       rcases i9 with e5|e5
       .skip;go_wp2_with fail;refine(j2.o _ _ _).mono ?_;rintro e w7 ⟨rfl,f⟩;clear d0 d1 d2 d3 d4 df;have F:=keep (l.o.B7 g.o.1 id) f;have G:=A (chain (H5.o.trans (l.o.C6 (by have:=B.o.2;omega) λ_=>False.elim)) f);have HG:=A F;obtain⟨c0,c1,c2,c3,c4,cf⟩:=cells5 F;clear F f;go_wp2_with fail;obtain⟨P,PB⟩:=aS (N a d.length c) (I J 94) (I J E) (I J E) (I J 0) HG.o G.o (ai _);have m:=A PB;obtain⟨r0,r1,r2,r3,r4,_⟩:=cells5 P;exact af (v:=Y #[N a d.length c,I J 94,I J E,I J E,I J 0]) (by simp[ag,results57,go_sem,r0,r1,r2,r3,r4]) rfl ⟨_,_,_,_,_,_,_,rfl,m.o,λ_ toks e=>by rw[i7.o]at e;cases e⟩
       .skip;go_wp2_with fail;refine(j9.o _).mono ?_;rintro e w7 ⟨y1,y2,y3,y4,rfl,f⟩;clear d0 d1 d2 d3 d4 df;have F:=keep (l.o.B7 g.o.1 id) f;have G:=A (chain (H5.o.trans (l.o.C6 (by have:=B.o.2;omega) λ_=>False.elim)) f);have HG:=A F;obtain⟨c0,c1,c2,c3,c4,cf⟩:=cells5 F;clear F f;go_wp2_with fail;obtain⟨P,PB⟩:=aS (N a d.length c) (I J y1) (I J y2) (I J y3) (I J y4) HG.o G.o (ai _);have m:=A PB;obtain⟨r0,r1,r2,r3,r4,_⟩:=cells5 P;exact af (v:=Y #[N a d.length c,y1,y2,y3,y4]) (by simp[ag,results57,go_sem,r0,r1,r2,r3,r4]) rfl ⟨_,_,_,_,_,_,_,rfl,m.o,λ_ toks e=>by rw[i7.o]at e;cases e⟩
      case inl=>
       have j8:=mY j0.o;obtain⟨l2,neg,W,Pp,a3,i9⟩:=j8;have hx:s.extract i E=⟨((s.data.toList.drop i).take n).toArray⟩:=by rw[<-j3.o];exact kJ
       have j4:∀X,T K 91 #[.string (s.extract i E)] X λr w'=>r=H (uM (bitsOf ((s.data.toList.drop i).take n)))/\Q X.heap.size X w':=λX=>by
        have:=aDz (s.extract i E) X neg W Pp a3 (by rw[hx];simpa using i9) (by simp;omega);rw[hx]at this⊢
        simpa using this
       obtain⟨a2,hO⟩:∃a2,bitsOf ((s.data.toList.drop i).take n)=a2:=⟨_,rfl⟩;rw[hO]at j4;have k1:=A j4;have k2:=A hO;have k3:=A (show 1<=n from l2)
       have he:(((E:Int)==(s.size:Int))=true/\en=false)\/((E:Int)==(s.size:Int))=false\/(((E:Int)==(s.size:Int))=true/\en=true):=by
        by_cases k8:E=s.size
        .cases en with
         | false=>exact .inl ⟨by simp;omega,rfl⟩
         | true=>exact .inr (.inr ⟨by simp;omega,rfl⟩)
        .exact .inr (.inl (by simp;omega))
       have i1:(i:Int)<=(E:Int):=by have:=j3.o;omega
       have i2:(E:Int)<=(s.size:Int):=by omega
       clear j4 hO hx i9;rcases he with⟨e6,rfl⟩|he
       .skip;go_wp2_with fail;refine(j9.o _).mono ?_;rintro e w7 ⟨y1,y2,y3,y4,rfl,f⟩;clear d0 d1 d2 d3 d4 df;have F:=keep (l.o.B7 g.o.1 id) f;have G:=A (chain (H5.o.trans (l.o.C6 (by have:=B.o.2;omega) λ_=>False.elim)) f);have HG:=A F;obtain⟨c0,c1,c2,c3,c4,cf⟩:=cells5 F;clear F f;go_wp2_with fail;obtain⟨P,PB⟩:=aS (N a d.length c) (I J y1) (I J y2) (I J y3) (I J y4) HG.o G.o (ai _);have m:=A PB;obtain⟨r0,r1,r2,r3,r4,_⟩:=cells5 P;exact af (v:=Y #[N a d.length c,y1,y2,y3,y4]) (by simp[ag,results57,go_sem,r0,r1,r2,r3,r4]) rfl ⟨_,_,_,_,_,_,_,rfl,m.o,λen toks e=>by cases en⟩
       go_upto_region 34 with fail
       go_cut [188]from 177 to 188 (λs wc=>s=.bool false/\wc=w6)
       case first=>
        rcases he with e6|⟨e6,rfl⟩
        all_goals
         go_wp2_with fail
         go_meet
         case rel=>exact⟨rfl,rfl⟩
       case rest=>
       obtain⟨rfl,rfl⟩:=hcut;clear he;cases a2 with
       | none=>
        have i7:=A (show eM 0 s.data.toList=V from lH t.o.2.2 t.o.2.1 t.o.1 (j7.o.trans (by unfold yZ;rw[j0.o];simp only[if_true];rw[k2.o])));have j4:=A (λX=>show T K 91 #[.string (s.extract i E)] X λr w'=>r=H (.tuple #[I .u64 0,.bool false])/\Q X.heap.size X w' from k1.o X);go_wp2_with fail;refine(j4.o _).mono ?_;rintro e w7 ⟨rfl,f⟩;have G:=A (Keeps.A0 (λ_=>False) f);clear d0 d1 d2 d3 d4 df f;obtain⟨d0,d1,d2,d3,d4,-⟩:=cells5 (G.o.B7 g.o.2 id);go_wp2_with fail;refine(j2.o _ _ _).mono ?_;rintro e w8 ⟨rfl,i9⟩;have F:=keep (G.o.B7 g.o.1 id) i9;have g1:=keep (G.o.B7 g.o.2 id) i9;have k8:=A (chain (H5.o.trans (G.o.C6 (by have:=B.o.2;omega) λ_=>False.elim)) i9);clear d0 d1 d2 d3 d4 i9;obtain⟨d0,d1,d2,d3,d4,df⟩:=cells5 g1;have HP:=A (aS (N a d.length c) (I J 41) (I J i) (I J i) (I J 0) g1 k8.o (Nat.le_succ _));have k0:=(((((ak (λk=>k=w.heap.size+1) w8).own 0 (N a d.length c)).own 1 (I J 41)).own 2 (I J i)).own 3 (I J i)).own 4 (I J 0);have i9:=A (k0.B7 F (by simp));clear F g1 k0
        go_upto_region 39 with fail
        obtain⟨W1,F⟩:∃W1,(((((w8.setCell ⟨w.heap.size+1,0,V⟩ (N a d.length c)).setCell ⟨w.heap.size+1,1,V⟩ (I J 41)).setCell ⟨w.heap.size+1,2,V⟩ (I J i)).setCell ⟨w.heap.size+1,3,V⟩ (I J i)).setCell ⟨w.heap.size+1,4,V⟩ (I J 0))=W1:=⟨_,rfl⟩;rw[F]at HP i9⊢;clear F d0 d1 d2 d3 d4 df k8;obtain⟨-,-,-,d3,-,df⟩:=cells5 HP.o.1;have HQ:=A (aB (o:=3) HP.o.1 (I J E));have k0:=A (HP.o.2.setCell (p:=⟨w.heap.size+1,3,V⟩) (Nat.le_succ _) (I J E));have F:=A (((ak (λk=>k=w.heap.size+1) W1).own 3 (I J E)).B7 i9.o (by simp))
        go_upto_region 40 with fail
        obtain⟨W2,k8⟩:∃W2,W1.setCell ⟨w.heap.size+1,3,V⟩ (I J E)=W2:=⟨_,rfl⟩;rw[k8]at HQ k0 F⊢;clear k8 d3 df HP i9;obtain⟨d0,d1,d2,d3,d4,-⟩:=cells5 (show W2.heap[w.heap.size+1]?=S (Z #[N a d.length c,I J 41,i,I J E,I J 0] 53 (0,0))from HQ.o);obtain⟨c0,c1,c2,c3,c4,cf⟩:=cells5 F.o;go_wp2_with fail;obtain⟨P,PB⟩:=aS (N a d.length c) (I J 41) (I J i) (I J E) (I J 0) F.o k0.o (ai _);have m:=A PB;obtain⟨r0,r1,r2,r3,r4,_⟩:=cells5 P;exact af (v:=Y #[N a d.length c,I J 41,i,I J E,I J 0]) (by simp[ag,results57,go_sem,r0,r1,r2,r3,r4]) rfl ⟨_,_,_,_,_,_,_,rfl,m.o,λ_ toks e=>by rw[i7.o]at e;cases e⟩
       | some b=>
        have j4:=A (λX=>show T K 91 #[.string (s.extract i E)] X λr w'=>r=H (.tuple #[I .u64 b,.bool true])/\Q X.heap.size X w' from k1.o X);have t1:J.wrap ((E:Int)-(i:Int))=(n:Int):=by have:=j3.o;rw[ao];omega
        have j5:=A (tB t.o.2.2 t.o.2.1 t.o.1 (j7.o.trans (by unfold yZ;rw[j0.o];simp only[if_true];rw[k2.o])) k3.o);go_wp2_with fail;refine(j4.o _).mono ?_;rintro e w7 ⟨rfl,f⟩;have G:=A (Keeps.A0 (λ_=>False) f);clear d0 d1 d2 d3 d4 df f;obtain⟨d0,-,-,-,-,-⟩:=cells5 (G.o.B7 g.o.2 id);have j6:=A (H3.o.A2 (G.o.A6 (Z #[I J 3,i,I J n,"",I .u64 b] 56)) λ_ _=>id)
        have f:=A (λ(j:Nat)(u:ae)(hj:([I J 3,I J i,I J n,.string ⟨#[]⟩,I .u64 b]:List ae)[j]?=S u)=>show(w7.alloc (Z #[I J 3,i,I J n,"",I .u64 b] 56)).cell? ((⟨w7.heap.size,0,V⟩:D).add j)=S u by
         rw[Addr.add_lit,Nat.zero_add];exact(aA (heap_alloc_new w7 _)).trans (by simpa using hj))
        have i8:=A (show(d.length+1)*48<=140737488355328/\d.length+1<=maxLen from⟨by omega,by unfold maxLen;omega⟩)
        go_wp2_with (at_builtin;refine bC tA rfl _ _ rfl rfl j6.o w7 1 1 [I J 3,I J i,I J n,.string ⟨#[]⟩,I .u64 b] rfl rfl f.o (by intro u hu;simp at hu;rcases hu with rfl|rfl|rfl|rfl|rfl<;>rfl) (by decide) i8.o.1 i8.o.2 ?_;intro g' k4 k5 w' O j1 h;have L:=h.B7 ((G.o.A6 (Z #[I J 3,i,I J n,"",I .u64 b] 56)).B7 g.o.2 id) (λe=>by have:=H4.o _ e;omega);have hS:=(cells5 L).1;have l0:=(cells5 L).2.2.2.2.2;clear L)
        exact⟨⟨E,rfl,l9,j3.o▸A (wP (k:=⟨3,i,n,[],b⟩) g.o.1 g.o.2 H4.o H5.o B.o.1 B.o.2 (G.o.A6 (Z #[I J 3,i,I J n,"",I .u64 b] 56)) O (j1.imp id λa0=>Nat.le_trans (G.o.A6 (Z #[I J 3,i,I J n,"",I .u64 b] 56)).size a0.1) h k3.o j5.o)⟩,by have:=j3.o;have:=k3.o;simp[intOf];omega⟩
  .have l5:¬(i:Int)<(s.size:Int):=by omega
   have f:s.data.toList.drop i= []:=cY k7;obtain⟨d,a,c,h1,h2,h3,h4,h5,-,-,h8⟩:=hA.o;have g:=A (show eM 0 s.data.toList=S d by rw[h8,f,eM];simp);obtain⟨d0,d1,d2,d3,d4,-⟩:=cells5 h2;obtain⟨c0,c1,c2,c3,c4,cf⟩:=cells5 h1;have h:=A h1;have H3:=A h3;have H4:=A h4;have H5:=A h5;clear hA h1 h2 h3 h4 h5 h8 f;go_wp2_with fail;obtain⟨P,PB⟩:=aS (N a d.length c) (I J 0) (I J 0) (I J 0) (I J 0) h.o H5.o (ai _);have m:=A PB;obtain⟨r0,r1,r2,r3,r4,_⟩:=cells5 P
   exact af (v:=Y #[N a d.length c,I J 0,I J 0,I J 0,I J 0]) (by simp[ag,results57,go_sem,r0,r1,r2,r3,r4]) rfl ⟨_,_,_,_,_,_,_,rfl,m.o,λ_ toks e=>by
    rw[g.o]at e;injection e with e
    subst e;exact⟨rfl,rfl,aDC H3.o (λk e=>by have:=H4.o _ e;omega) _ _ _ _ _,λk e=>by have:=H4.o _ e;omega⟩⟩
