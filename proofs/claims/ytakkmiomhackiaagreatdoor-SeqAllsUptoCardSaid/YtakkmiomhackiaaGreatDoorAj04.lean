/-
  The program, one part of its walk. Conditions: none.
-/
import Derived.Test.YtakkmiomhackiaaGreatDoorAj02
import Derived.Test.YtakkmiomhackiaaGreatDoorAj03
import Derived.Sort.Grow
import Derived.Laws.EntriesVeiled
set_option linter.all false
set_option maxRecDepth 100000
set_option maxHeartbeats 16000000
open Go.Proofs.Tryz
open Bool renaming false->K,true->ao
open Except renaming error->ag,ok->ah
open Go renaming Addr->au,Calls->Y,Ending->bx,TypeId->bj,Value->ae,World->S,bytesRow->ak,grownCap->aj,lt_of_block->E,results->bw
open Go.Ending renaming returned->Z
open Go.IntKind renaming i64->U,u8->O
open Go.Obj renaming cells->W
open Go.Obj.cells renaming injEq->eh
open Go.Proofs.Tryz renaming func190->av,func258->cw,func262->dl,func264->dp,ntmps190->aw,ntmps258->cz,ntmps262->dm,ntmps264->dq,prog->X
open Go.Proofs.YtakkmiomhackiaaGreatDoor.Keeps renaming A4->dj
open Go.RowKit renaming Below->bg
open Go.Sort renaming grow->dw
open Go.Value renaming agg->bh,bool->D,iface->ar,int->I,nilIface->bm,ownBlock->dh,pointer->ac,slice->az
open Go.World.mk renaming injEq->ee
open List.cons renaming injEq->ct
open Nat renaming le_succ_of_le->du,reduceAdd->cj
open Option renaming none->J,some->N
open Or renaming inl->V,inr->ai
namespace Go.Proofs.YtakkmiomhackiaaGreatDoor.Dr
open Go.RowKit
structure Below(B:Nat)(w w':S):Prop where
 os:w'.os=w.os
 tape:w'.tape=w.tape
 output:w'.output=w.output
 size:w.heap.size<=w'.heap.size
 block:∀k,k<B->w'.heap[k]?=w.heap[k]?
 drawn:w.drawn<=w'.drawn
def Below.plain{B:Nat}{w w':S}(h:Below B w w'):bg B w w':=⟨h.os,h.tape,h.output,h.size,h.block⟩
def Below.A4(B:Nat)(w:S):Below B w w:=⟨rfl,rfl,rfl,hU _,λ_ _=>rfl,hU _⟩
def Below.trans{B:Nat}{a b c:S}(h:Below B a b)(k:Below B b c):Below B a c:=
 ⟨k.os.trans h.os,k.tape.trans h.tape,k.output.trans h.output,bo h.size k.size,λi hi=>(k.block i hi).trans (h.block i hi),bo h.drawn k.drawn⟩
def Below.mono{B a:Nat}{w w':S}(h:Below B w w')(c:a<=B):Below a w w':=⟨h.os,h.tape,h.output,h.size,λk b=>h.block k (a7 b c),h.drawn⟩
def Below.B0{B:Nat}{a w:S}(h:Below B a w):Below B a w.drew:=⟨h.os,h.tape,h.output,h.size,h.block,du h.drawn⟩
def Below.A5{B:Nat}{a w:S}(h:Below B a w)(c:B<=w.heap.size)(o:Obj):Below B a (w.alloc o):=
 h.trans ⟨rfl,rfl,rfl,by simp,λk b=>de _ _ _ (by omega),hU _⟩
def Below.B6{B:Nat}{w w':S}(h:Below B w w'){p:au}(a:p.block<B):w'.cell? p=w.cell? p:=h.plain.cell a
def keep{w1 w2:S}{b:Nat}{o:Obj}(h:w1.heap[b]?=N o)(a:Below w1 w1 w2):w2.heap[b]?=N o:=(a.block b (E h)).trans h
def chain{w w1 w2:S}(h:Below w w w1)(a:Below w1 w1 w2):Below w w w2:=h.trans (a.mono h.size)
structure Keeps(F:Nat->Prop)(w w':S):Prop where
 os:w'.os=w.os
 tape:w'.tape=w.tape
 output:w'.output=w.output
 size:w.heap.size<=w'.heap.size
 block:∀k,k<w.heap.size->¬F k->w'.heap[k]?=w.heap[k]?
 drawn:w.drawn<=w'.drawn
section
variable {F G:Nat->Prop} {w w' w1 w2:S}
def Keeps.plain(h:Keeps F w w'):YtakkmiomhackiaaGreatDoor.Keeps F w w':=⟨h.os,h.tape,h.output,h.size,h.block⟩
def Keeps.A4(F:Nat->Prop)(w:S):Keeps F w w:=⟨rfl,rfl,rfl,hU _,λ_ _ _=>rfl,hU _⟩
def Keeps.trans(h:Keeps F w w1)(a:Keeps G w1 w2)(b:∀k,G k->F k\/w.heap.size<=k):Keeps F w w2:=
 have p:=h.plain.trans a.plain b
 ⟨p.os,p.tape,p.output,p.size,p.block,bo h.drawn a.drawn⟩
def Keeps.same(h:Keeps F w w1)(b:Keeps F w1 w2):Keeps F w w2:=h.trans b λ_ a=>V a
def Keeps.A3(h:Keeps F w w1){p:au}(a:F p.block\/w.heap.size<=p.block)(u:ae):Keeps F w (w1.setCell p u):=
 have p:=h.plain.A3 a u
 ⟨p.os,p.tape,p.output,p.size,p.block,h.drawn⟩
def Keeps.B0(h:Keeps F w w1):Keeps F w w1.drew:=⟨h.os,h.tape,h.output,h.size,h.block,du h.drawn⟩
def Keeps.A7(h:Keeps F w w1)(a:Below w1 w1 w2):Keeps F w w2:=
 have p:=h.plain.A7 a.plain
 ⟨p.os,p.tape,p.output,p.size,p.block,bo h.drawn a.drawn⟩
def Keeps.A2(F:Nat->Prop)(h:Below w w w'):Keeps F w w':=(Keeps.A4 F w).A7 h
def Keeps.A6(h:Keeps F w w'){n:Nat}(a:n<=w.heap.size)(b:∀k,F k->n<=k):Below n w w':=
 have p:=h.plain.A6 a b
 ⟨p.os,p.tape,p.output,p.size,p.block,h.drawn⟩
def Keeps.B6(h:Keeps F w w'){p:au}{v:ae}(a:w.cell? p=N v)(b:¬F p.block):w'.cell? p=N v:=h.plain.B6 a b
end
def Below.X6{w w':S}(h:Below w w w'):∃q a,w'=dw (w.drewN q) a:=by
 refine⟨w'.drawn-w.drawn,w'.heap.extract w.heap.size w'.heap.size,?_⟩;obtain⟨e,d,j,m,f,o⟩:=h;cases w with
 | mk c s t r l=>
 cases w' with
 | mk b k p a g=>
 simp only at e d j m f o;subst e;subst d;subst j;unfold dw World.drewN;simp only[ee,and_true,true_and];refine⟨?_,by omega⟩;apply Array.ext_getElem?;intro i;by_cases hi:i<c.size
 .rw[f i hi,Array.getElem?_append_left hi]
 .rw[Array.getElem?_append_right (by omega),Array.getElem?_extract];by_cases n:i<b.size
  .rw[pz,show c.size+(i-c.size)=i by omega]
  .rw[py,Array.getElem?_eq_none (by omega)]
def formV(f:Form):ae:=bh #[f.wide,I O f.low,I O f.g]
def formOf_any(c:UInt8)(w:S):Y X 205 #[I O c.toNat] w λe w'=>e=Z (formV (aC c))/\Below w w w':=by
 have d:=A (λv:Array ae=>(Below.A4 w w).A5 (hU _) (W v 349));obtain⟨v,a⟩:∃v,aC c=v:=⟨_,rfl⟩;rw[a];unfold aC at a;by_cases i:(c.toNat:Int)<128;rotate_left;by_cases k:(c.toNat:Int)<194;rotate_left;by_cases o:(c.toNat:Int)<224;rotate_left;by_cases h:(c.toNat:Int)=224;rotate_left;by_cases g:(c.toNat:Int)=237;rotate_left;by_cases m:(c.toNat:Int)<240;rotate_left;by_cases f:(c.toNat:Int)=240;rotate_left;by_cases j:(c.toNat:Int)<244;rotate_left;by_cases b:(c.toNat:Int)=244
 all_goals
  repeat(first|rw[pz]at a|rw[py]at a)
  subst a;try have p:((c.toNat:Int)==224)=K:=by simpa using h
  try have q:((c.toNat:Int)==237)=K:=by simpa using g
  try have l:((c.toNat:Int)==240)=K:=by simpa using f
  try have n:((c.toNat:Int)==244)=K:=by simpa using b
  go_enter func205,ntmps205;go_wp2;exact bb (by simp[bw,results205,go_sem,formV]) rfl ⟨rfl,d.o _⟩
def may_any(f:Form)(i:Nat)(c:UInt8)(w:S):Y X 206 #[formV f,i,I O c.toNat] w λe w'=>e=Z (D (f.D4 i c))/\Below w w w':=by
 obtain⟨k,g,hi⟩:=f;have h:=A (λv:Array ae=>(Below.A4 w w).A5 (hU _) (W v 349));obtain⟨o,a⟩:∃o,(Form.mk k g hi).D4 i c=o:=⟨_,rfl⟩;rw[a];unfold Form.D4 at a;unfold formV;dsimp only at a⊢;by_cases b:i=1;subst b;rw[pz rfl]at a;by_cases j:(g:Int)<=(c.toNat:Int);by_cases l:(c.toNat:Int)<=(hi:Int);rotate_left 3;rw[py b]at a;have g1:¬(i:Int)=1:=by omega
 have m:((i:Int)==1)=K:=by simpa using g1
 clear b;by_cases j:(128:Int)<=(c.toNat:Int);by_cases l:(c.toNat:Int)<=191
 all_goals
  first
  | have d:o=ao:=by rw[<-a];simp;omega
  | have d:o=K:=by rw[<-a];simp;omega
  subst d;clear a;go_enter func206,ntmps206;go_wp2;exact bb (by simp[bw,results206,go_sem]) rfl ⟨rfl,h.o _⟩
def HeldOk(held:List UInt8):Prop:=∀h t,held=h::t->held.length<(aC h).wide
def wide_le(c:UInt8):(aC c).wide<=4:=by unfold aC;repeat' (first|exact by decide|split)
def HeldOk.le{held:Oo}(h:HeldOk held):held.length<=3:=by
 cases held with
 | nil=>exact Nat.zero_le _
 | cons a t=>have:=h a t rfl;have:=wide_le a;omega
def Feeds(w:S)(b pl:Nat)(held:List UInt8):Prop:=HeldOk held/\∃a a1 a2 a3:UInt8,w.heap[b]?=N (W #[pl,I O a.toNat,I O a1.toNat,I O a2.toNat,I O a3.toNat,held.length,D K] 305 (0,0))/\
 held= [a,a1,a2,a3].take held.length
def cells7{w:S}{b:Nat}{f e c a g i d:ae}{T:bj}(h:w.heap[b]?=N (W #[f,e,c,a,g,i,d] T (0,0))):w.cell? b=N f/\w.cell? ⟨b,1,J⟩=N e/\w.cell? ⟨b,2,J⟩=N c/\w.cell? ⟨b,3,J⟩=N a/\w.cell? ⟨b,4,J⟩=N g/\w.cell? ⟨b,5,J⟩=N i/\w.cell? ⟨b,6,J⟩=N d/\∀o,w.frozen? ⟨b,o,J⟩=K:=
 ⟨aA h,aA h,aA h,aA h,aA h,aA h,aA h,free_at h⟩
def newFeeder_any(w:S):Y X 137 #[] w λe w'=>e=Z (ac w)/\Feeds w' w.heap.size 0 []/\Below w w w'/\w'.heap.size=w.heap.size+1:=by
 go_enter func137,ntmps137;go_wp2;go_ret;refine⟨rfl,⟨(λh t e=>by cases e),0,0,0,0,aL w _,rfl⟩,(Below.A4 _ _).A5 (hU _) _,by simp⟩
def held_any(w:S)(b pl:Nat)(held:Oo)(h:Feeds w b pl held):Y X 167 #[ac b] w λe w'=>e=Z (I U held.length)/\w'=w:=by
 obtain⟨_,c,a1,a2,a3,a,-⟩:=h;obtain⟨-,-,-,-,-,d,-,-⟩:=cells7 a;clear a;go_enter func167,ntmps167;go_wp2;go_ret;exact⟨rfl,rfl⟩
def takeRet(w:S)(b pl:Nat)(held:List UInt8)(o:Option (List UInt8))(e:bx)(w':S):Prop:=match o with
 | none=>e=Z (D K)/\Feeds w' b pl held
 | some h=>e=Z (D ao)/\Feeds w' b pl h
def take0_any(w:S)(b pl:Nat)(c:UInt8)(F:Feeds w b pl []):Y X 190 #[ac b,I O c.toNat] w λe w'=>takeRet w b pl [] (aO [] c) e w'/\Keeps (λk=>k=b) w w':=by
 obtain⟨d,v,a1,a2,a3,l,-⟩:=F;obtain⟨-,-,-,-,-,G,-,-⟩:=cells7 l;have r:=A l;have h:=E l;have q:=A (formOf_any c);have j:aO [] c=if(aC c).wide=0 then J else if 1<(aC c).wide then N [c]else N []:=rfl;rw[j];have m:=wide_le c;have a:1<(aC c).wide->HeldOk [c]:=λy x t e=>by injection e with z e2;subst z;simpa using y
 have i:=A a;have g:=A d;clear l j a d;obtain⟨f,a⟩:∃f,aC c=f:=⟨_,rfl⟩;rw[a]at q i m⊢;clear a;obtain⟨n,B,hi⟩:=f;simp only at m i;by_cases j:n=0
 .subst j;rw[pz rfl];go_enter av,aw;go_wp2_with fail;refine(q.o _).mono ?_;rintro e w1 ⟨rfl,d⟩;unfold formV;have a:=A (λo=>d.A5 d.size o);clear d;go_wp2;go_ret;exact⟨⟨rfl,g.o,v,a1,a2,a3,((a.o _).block b h).trans r.o,rfl⟩,Keeps.A2 _ (a.o _)⟩
 .rw[py j];by_cases l:1<n
  .rw[pz l];have g1:(1:Int)<(n:Int):=(by omega);have H:((n:Int)==0)=K:=(by simpa using j);go_enter av,aw;go_wp2_with fail;refine(q.o _).mono ?_;rintro e w1 ⟨rfl,d⟩;unfold formV;have a:=d.A5 d.size (W #[n,I O B,I O hi] 349);have s:=(a.block b h).trans r.o;obtain⟨-,L,-,-,-,P,-,Q⟩:=cells7 s;have C:=A s;have u:=A a;clear d s a;go_wp2;go_ret;exact⟨⟨rfl,i.o l,c,a1,a2,a3,aB (aB C.o _) _,rfl⟩,((Keeps.A2 (λk=>k=b) u.o).A3 (p:=⟨b,1,J⟩) (V rfl) _).A3 (p:=⟨b,5,J⟩) (V rfl) _⟩
  .rw[py l];have s:n=1:=(by omega);subst s;go_enter av,aw;go_wp2_with fail;refine(q.o _).mono ?_;rintro e w1 ⟨rfl,d⟩;unfold formV;have a:=A (λo=>d.A5 d.size o);clear d;go_wp2;go_ret;exact⟨⟨rfl,g.o,v,a1,a2,a3,((a.o _).block b h).trans r.o,rfl⟩,Keeps.A2 _ (a.o _)⟩
def take1_any(w:S)(b pl:Nat)(c g:UInt8)(a4:Feeds w b pl [g]):Y X 190 #[ac b,I O c.toNat] w λe w'=>takeRet w b pl [g] (aO [g] c) e w'/\Keeps (λk=>k=b) w w':=by
 obtain⟨i,a0,a1,a2,a3,j,T⟩:=a4;have hl:1<(aC g).wide:=i _ _ rfl;simp only[cv,ib,cj,mc,pn,ct,and_true]at j T;obtain rfl:=T;obtain⟨-,c1,-,-,-,c5,-,-⟩:=cells7 j;have H2:=A j;have s:=E j;have HF:=A (formOf_any g);have HM:M (∀w,Y X 206 #[formV (aC g),I U (1:Int),I O c.toNat] w λe w'=>e=Z (D ((aC g).D4 1 c))/\Below w.heap.size w w'):=A λw=>may_any (aC g) 1 c w;have H:=wide_le g;obtain⟨o,d⟩:∃o,aO [g] c=o:=⟨_,rfl⟩;rw[d];rw[show aO [g] c=if(aC g).D4 1 c then(if 1+1=(aC g).wide then N []else N [g,c])else J from rfl]at d;have a:¬1+1=(aC g).wide->HeldOk [g,c]:=λhh x t e=>by injection e with L e2;subst L;show 1+1<_;omega
 have h:=A a;have u:=A i;clear j a i;generalize aC g=f at*;obtain⟨n,v,hi⟩:=f;simp only at H h hl d;generalize (Form.mk n v hi).D4 1 c=m at*;unfold formV at HF HM;have j:=A d;clear d;go_enter av,aw;go_wp2_with fail;refine(HF.o _).mono ?_;rintro e w1 ⟨rfl,y⟩;have a:=y.A5 y.size (W #[n,I O v,I O hi] 349);have z:=(a.block b s).trans H2.o;have q:=aL w1 (W #[n,I O v,I O hi] 349);have i1:=E z;have i2:=E ((y.block b s).trans H2.o);obtain⟨d0,d1,P,d3,d4,Q,d6,F⟩:=cells7 z;obtain⟨R,q1,q2,qf⟩:=cells3 q;have r:=A z;have l:=A q;have i:=A a;clear y z q a;go_wp2_with fail;generalize w1.alloc (W #[n,I O v,I O hi] 349)=w2 at*
 go_region_held3 (λw'=>w'.cell? w1=N (I U n)/\w'.cell? ⟨w1.heap.size,1,J⟩=N (I O v)/\w'.cell? ⟨w1.heap.size,2,J⟩=N (I O hi)/\w'.cell? ⟨b,5,J⟩=N (I U 1)) (first|exact⟨y,z,B,C⟩|go_keep)
  ((go_at_call 206;(with_reducible refine(HM.o _).mono ?_);rintro e G ⟨rfl,a⟩;have y:=(a.B6 (p:=w1) (by simpa using E l.o)).trans R;have z:=(a.B6 (p:=⟨w1.heap.size,1,J⟩) (by simpa using E l.o)).trans q1;have B:=(a.B6 (p:=⟨w1.heap.size,2,J⟩) (by simpa using E l.o)).trans q2;have C:=(a.B6 (p:=⟨b,5,J⟩) (by simpa using E r.o)).trans Q))
 have r:=A (keep (w1:=w2.drew) r.o a);have l:=A (keep (w1:=w2.drew) l.o a);have i:=A (chain i.o.B0 a);clear a y z B C d0 d1 P d3 d4 Q d6 F R q1 q2 qf;cases m with
 | false=>
  obtain rfl:=j.o;go_wp2;go_ret;exact⟨⟨rfl,u.o,_,_,_,_,r.o,rfl⟩,Keeps.A2 _ i.o⟩
 | true=>
  obtain⟨-,-,P,-,-,-,-,F⟩:=cells7 r.o;obtain⟨-,-,-,-⟩:=cells3 l.o;go_wp2;go_region;have B:(G.setCell ⟨b,2,J⟩ (I O c.toNat)).drew.heap[b]?=N (W #[pl,I O g.toNat,I O c.toNat,I O a2.toNat,I O a3.toNat,I U 1,D K] 305 (0,0)):=aB (o:=2) r.o _;have q:=(aE (w:=G) (o:=2) (k:=w1.heap.size) (b:=b) (I O c.toNat) (by omega)).trans l.o;have a:=(Keeps.A2 (λk=>k=b) i.o).A3 (p:=⟨b,2,J⟩) (V rfl) (I O c.toNat);have y:=A a.B0;have z:=A B;have C:M ((G.setCell ⟨b,2,J⟩ (I O c.toNat)).drew.heap[w1.heap.size]?=_):=A q;clear P F a B q;generalize (G.setCell ⟨b,2,J⟩ (I O c.toNat)).drew=q at*;obtain⟨-,-,-,-,-,Q,-,F⟩:=cells7 z.o;obtain⟨R,-,-,-⟩:=cells3 C.o;by_cases a:1+1=n
  .have d:=j.o;rw[pz trivial,pz a]at d;subst d;have e2:((2:Int)==(n:Int))=ao:=(by simp;omega);clear a hl;go_wp2;go_region;go_wp2;go_ret;exact⟨⟨rfl,(λa4 t e=>by cases e),_,_,_,_,aB (o:=5) (aB (o:=5) z.o _) _,rfl⟩,((y.o.A3 (p:=⟨b,5,J⟩) (V rfl) _).B0.A3 (p:=⟨b,5,J⟩) (V rfl) _)⟩
  .have d:=j.o;rw[pz trivial,py a]at d;subst d;have L:¬(2:Int)=(n:Int):=(by omega);have e2:((2:Int)==(n:Int))=K:=(by simpa using L);have h:=A (h.o a);clear a;go_wp2;go_region;go_wp2;go_ret;exact⟨⟨rfl,h.o,_,_,_,_,aB (o:=5) z.o _,rfl⟩,(y.o.A3 (p:=⟨b,5,J⟩) (V rfl) _).B0⟩
def take2_any(w:S)(b pl:Nat)(c g b1:UInt8)(a4:Feeds w b pl [g,b1]):Y X 190 #[ac b,I O c.toNat] w λe w'=>takeRet w b pl [g,b1] (aO [g,b1] c) e w'/\Keeps (λk=>k=b) w w':=by
 obtain⟨i,a0,a1,a2,a3,j,T⟩:=a4;have hl:2<(aC g).wide:=i _ _ rfl;simp only[cv,ib,cj,mc,pn,ct,and_true]at j T;obtain⟨rfl,rfl⟩:=T;obtain⟨-,c1,-,-,-,c5,-,-⟩:=cells7 j;have H2:=A j;have s:=E j;have HF:=A (formOf_any g);have HM:M (∀w,Y X 206 #[formV (aC g),I U (2:Int),I O c.toNat] w λe w'=>e=Z (D ((aC g).D4 2 c))/\Below w.heap.size w w'):=A λw=>may_any (aC g) 2 c w;have H:=wide_le g;obtain⟨o,d⟩:∃o,aO [g,b1] c=o:=⟨_,rfl⟩;rw[d];rw[show aO [g,b1] c=if(aC g).D4 2 c then(if 2+1=(aC g).wide then N []else N [g,b1,c])else J from rfl]at d;have a:¬2+1=(aC g).wide->HeldOk [g,b1,c]:=λhh x t e=>by injection e with L e2;subst L;show 2+1<_;omega
 have h:=A a;have u:=A i;clear j a i;generalize aC g=f at*;obtain⟨n,v,hi⟩:=f;simp only at H h hl d;generalize (Form.mk n v hi).D4 2 c=m at*;unfold formV at HF HM;have j:=A d;clear d;go_enter av,aw;go_wp2_with fail;refine(HF.o _).mono ?_;rintro e w1 ⟨rfl,y⟩;have a:=y.A5 y.size (W #[n,I O v,I O hi] 349);have z:=(a.block b s).trans H2.o;have q:=aL w1 (W #[n,I O v,I O hi] 349);have i2:=E z;have i3:=E ((y.block b s).trans H2.o);obtain⟨d0,d1,d2,P,d4,Q,d6,F⟩:=cells7 z;obtain⟨R,q1,q2,qf⟩:=cells3 q;have r:=A z;have l:=A q;have i:=A a;clear y z q a;go_wp2_with fail;generalize w1.alloc (W #[n,I O v,I O hi] 349)=w2 at*
 go_region_held3 (λw'=>w'.cell? w1=N (I U n)/\w'.cell? ⟨w1.heap.size,1,J⟩=N (I O v)/\w'.cell? ⟨w1.heap.size,2,J⟩=N (I O hi)/\w'.cell? ⟨b,5,J⟩=N (I U 2)) (first|exact⟨y,z,B,C⟩|go_keep)
  ((go_at_call 206;(with_reducible refine(HM.o _).mono ?_);rintro e G ⟨rfl,a⟩;have y:=(a.B6 (p:=w1) (by simpa using E l.o)).trans R;have z:=(a.B6 (p:=⟨w1.heap.size,1,J⟩) (by simpa using E l.o)).trans q1;have B:=(a.B6 (p:=⟨w1.heap.size,2,J⟩) (by simpa using E l.o)).trans q2;have C:=(a.B6 (p:=⟨b,5,J⟩) (by simpa using E r.o)).trans Q))
 have r:=A (keep (w1:=w2.drew) r.o a);have l:=A (keep (w1:=w2.drew) l.o a);have i:=A (chain i.o.B0 a);clear a y z B C d0 d1 d2 P d4 Q d6 F R q1 q2 qf;cases m with
 | false=>
  obtain rfl:=j.o;go_wp2;go_ret;exact⟨⟨rfl,u.o,_,_,_,_,r.o,rfl⟩,Keeps.A2 _ i.o⟩
 | true=>
  obtain⟨-,-,-,P,-,-,-,F⟩:=cells7 r.o;obtain⟨-,-,-,-⟩:=cells3 l.o;go_wp2;go_region;have B:(G.setCell ⟨b,3,J⟩ (I O c.toNat)).drew.heap[b]?=N (W #[pl,I O g.toNat,I O b1.toNat,I O c.toNat,I O a3.toNat,I U 2,D K] 305 (0,0)):=aB (o:=3) r.o _;have q:=(aE (w:=G) (o:=3) (k:=w1.heap.size) (b:=b) (I O c.toNat) (by omega)).trans l.o;have a:=(Keeps.A2 (λk=>k=b) i.o).A3 (p:=⟨b,3,J⟩) (V rfl) (I O c.toNat);have y:=A a.B0;have z:=A B;have C:M ((G.setCell ⟨b,3,J⟩ (I O c.toNat)).drew.heap[w1.heap.size]?=_):=A q;clear P F a B q;generalize (G.setCell ⟨b,3,J⟩ (I O c.toNat)).drew=q at*;obtain⟨-,-,-,-,-,Q,-,F⟩:=cells7 z.o;obtain⟨R,-,-,-⟩:=cells3 C.o;by_cases a:2+1=n
  .have d:=j.o;rw[pz trivial,pz a]at d;subst d;have e2:((3:Int)==(n:Int))=ao:=(by simp;omega);clear a hl;go_wp2;go_region;go_wp2;go_ret;exact⟨⟨rfl,(λa4 t e=>by cases e),_,_,_,_,aB (o:=5) (aB (o:=5) z.o _) _,rfl⟩,((y.o.A3 (p:=⟨b,5,J⟩) (V rfl) _).B0.A3 (p:=⟨b,5,J⟩) (V rfl) _)⟩
  .have d:=j.o;rw[pz trivial,py a]at d;subst d;have L:¬(3:Int)=(n:Int):=(by omega);have e2:((3:Int)==(n:Int))=K:=(by simpa using L);have h:=A (h.o a);clear a;go_wp2;go_region;go_wp2;go_ret;exact⟨⟨rfl,h.o,_,_,_,_,aB (o:=5) z.o _,rfl⟩,(y.o.A3 (p:=⟨b,5,J⟩) (V rfl) _).B0⟩
def take3_any(w:S)(b pl:Nat)(c d b1 b2:UInt8)(a4:Feeds w b pl [d,b1,b2]):Y X 190 #[ac b,I O c.toNat] w λe w'=>takeRet w b pl [d,b1,b2] (aO [d,b1,b2] c) e w'/\Keeps (λk=>k=b) w w':=by
 obtain⟨h,a0,a1,a2,a3,i,R⟩:=a4;have T:3<(aC d).wide:=h _ _ rfl;simp only[cv,ib,cj,mc,pn,ct,and_true]at i R;obtain⟨rfl,rfl,rfl⟩:=R;obtain⟨-,c1,-,-,-,c5,-,-⟩:=cells7 i;have H2:=A i;have q:=E i;have HF:=A (formOf_any d);have HM:M (∀w,Y X 206 #[formV (aC d),I U (3:Int),I O c.toNat] w λe w'=>e=Z (D ((aC d).D4 3 c))/\Below w.heap.size w w'):=A λw=>may_any (aC d) 3 c w;have G:=wide_le d;obtain⟨o,g⟩:∃o,aO [d,b1,b2] c=o:=⟨_,rfl⟩;rw[g];rw[show aO [d,b1,b2] c=if(aC d).D4 3 c then(if 3+1=(aC d).wide then N []else N [d,b1,b2,c])else J from rfl]at g;have a:¬3+1=(aC d).wide->HeldOk [d,b1,b2,c]:=λhh x t e=>by injection e with e1 e2;subst e1;show 3+1<_;omega
 have H:=A a;have r:=A h;clear i a h;generalize aC d=f at*;obtain⟨n,s,hi⟩:=f;simp only at G H T g;generalize (Form.mk n s hi).D4 3 c=m at*;unfold formV at HF HM;have u:=A g;clear g;go_enter av,aw;go_wp2_with fail;refine(HF.o _).mono ?_;rintro e w1 ⟨rfl,v⟩;have a:=v.A5 v.size (W #[n,I O s,I O hi] 349);have y:=(a.block b q).trans H2.o;have j:=aL w1 (W #[n,I O s,I O hi] 349);have i3:=E y;have i4:=E ((v.block b q).trans H2.o);obtain⟨d0,d1,d2,d3,L,P,d6,C⟩:=cells7 y;obtain⟨Q,q1,q2,qf⟩:=cells3 j;have l:=A y;have i:=A j;have h:=A a;clear v y j a;go_wp2_with fail;generalize w1.alloc (W #[n,I O s,I O hi] 349)=w2 at*
 go_region_held3 (λw'=>w'.cell? w1=N (I U n)/\w'.cell? ⟨w1.heap.size,1,J⟩=N (I O s)/\w'.cell? ⟨w1.heap.size,2,J⟩=N (I O hi)/\w'.cell? ⟨b,5,J⟩=N (I U 3)) (first|exact⟨v,y,z,B⟩|go_keep)
  ((go_at_call 206;(with_reducible refine(HM.o _).mono ?_);rintro e F ⟨rfl,a⟩;have v:=(a.B6 (p:=w1) (by simpa using E i.o)).trans Q;have y:=(a.B6 (p:=⟨w1.heap.size,1,J⟩) (by simpa using E i.o)).trans q1;have z:=(a.B6 (p:=⟨w1.heap.size,2,J⟩) (by simpa using E i.o)).trans q2;have B:=(a.B6 (p:=⟨b,5,J⟩) (by simpa using E l.o)).trans P))
 have l:=A (keep (w1:=w2.drew) l.o a);have i:=A (keep (w1:=w2.drew) i.o a);have h:=A (chain h.o.B0 a);clear a v y z B d0 d1 d2 d3 L P d6 C Q q1 q2 qf;cases m with
 | false=>
  obtain rfl:=u.o;go_wp2;go_ret;exact⟨⟨rfl,r.o,_,_,_,_,l.o,rfl⟩,Keeps.A2 _ h.o⟩
 | true=>
  obtain⟨-,-,-,-,L,-,-,C⟩:=cells7 l.o;obtain⟨-,-,-,-⟩:=cells3 i.o;go_wp2;go_region;have y:(F.setCell ⟨b,4,J⟩ (I O c.toNat)).drew.heap[b]?=N (W #[pl,I O d.toNat,I O b1.toNat,I O b2.toNat,I O c.toNat,I U 3,D K] 305 (0,0)):=aB (o:=4) l.o _;have j:=(aE (w:=F) (o:=4) (k:=w1.heap.size) (b:=b) (I O c.toNat) (by omega)).trans i.o;have a:=(Keeps.A2 (λk=>k=b) h.o).A3 (p:=⟨b,4,J⟩) (V rfl) (I O c.toNat);have v:=A a.B0;have z:=A y;have B:M ((F.setCell ⟨b,4,J⟩ (I O c.toNat)).drew.heap[w1.heap.size]?=_):=A j;clear L C a y j;generalize (F.setCell ⟨b,4,J⟩ (I O c.toNat)).drew=j at*;obtain⟨-,-,-,-,-,P,-,C⟩:=cells7 z.o;obtain⟨Q,-,-,-⟩:=cells3 B.o;by_cases a:3+1=n
  .have g:=u.o;rw[pz trivial,pz a]at g;subst g;have e2:((4:Int)==(n:Int))=ao:=(by simp;omega);clear a T;go_wp2;go_region;go_wp2;go_ret;exact⟨⟨rfl,(λa4 t e=>by cases e),_,_,_,_,aB (o:=5) (aB (o:=5) z.o _) _,rfl⟩,((v.o.A3 (p:=⟨b,5,J⟩) (V rfl) _).B0.A3 (p:=⟨b,5,J⟩) (V rfl) _)⟩
  .exfalso;omega
def take_any(w:S)(b pl:Nat)(c:UInt8)(held:Oo)(h:Feeds w b pl held):Y X 190 #[ac b,I O c.toNat] w λe w'=>takeRet w b pl held (aO held c) e w'/\Keeps (λk=>k=b) w w':=by
 have d:=h.1.le
 match held,h,d with
 | [],h,_=>exact take0_any w b pl c h
 | [a],h,_=>exact take1_any w b pl c a h
 | [a,b1],h,_=>exact take2_any w b pl c a b1 h
 | [a,b1,b2],h,_=>exact take3_any w b pl c a b1 b2 h
 | _::_::_::_::_,_,d=>simp at d
def FeedsBad(w:S)(b pl:Nat):Prop:=∃a a1 a2 a3:UInt8,w.heap[b]?=N (W #[pl,I O a.toNat,I O a1.toNat,I O a2.toNat,I O a3.toNat,I U 0,D ao] 305 (0,0))
def fault_good(w:S)(b pl:Nat)(held:Oo)(h:Feeds w b pl held):Y X 191 #[ac b] w λe w'=>e=Z bm/\w'=w:=by
 obtain⟨_,c,a1,a2,a3,a,-⟩:=h;obtain⟨-,-,-,-,-,-,d,-⟩:=cells7 a;clear a;go_enter func191,ntmps191;go_wp2;go_ret;exact⟨rfl,rfl⟩
def fault_bad(w:S)(b pl:Nat)(h:FeedsBad w b pl):Y X 191 #[ac b] w λe w'=>e=Z (ar 151 (bh #[I U 30,pl]))/\w'=w:=by
 obtain⟨c,a1,a2,a3,a⟩:=h;obtain⟨d,-,-,-,-,-,f,-⟩:=cells7 a;clear a;go_enter func191,ntmps191;go_wp2;go_ret;exact⟨rfl,rfl⟩
def feedAll_none(l:Oo):l.foldl (λa c=>a.bind λh=>aO h c) (J:Option Oo)=J:=by
 induction l with
 | nil=>rfl
 | cons x l b=>exact b
def feedAll_take{held l:Oo}{k:Nat}(h:k<l.length):aX held (l.take (k+1))=(aX held (l.take k)).bind λh=>aO h l[k]:=by
 unfold aX;rw[List.take_add_one,bf h,lf];rfl
def feedAll_stop{held l:Oo}{k:Nat}(h:aX held (l.take k)=J):aX held l=J:=by
 unfold aX at*
 conv=>lhs;rw[<-List.take_append_drop k l,lf,h]
 exact feedAll_none _
def BytesAt(w:S)(b:Nat)(a:Option au)(l:List UInt8):Prop:=l= []\/∃g off,a=N ⟨g,off,J⟩/\g≠b/\g<w.heap.size/\∀i x,l[i]?=N x->w.cell? ⟨g,off+i,J⟩=N (I O ((x.toNat:Nat):Int))
def feedRet(w':S)(b pl n:Nat)(o:Option (List UInt8))(e:bx):Prop:=match o with
 | some h=>e=Z bm/\Feeds w' b (pl+n) h
 | none=>∃p,e=Z (ar 151 (bh #[I U 30,I U (p:Nat)]))/\FeedsBad w' b p
def feedInv(a:S)(b pl:Nat)(held l:List UInt8)(k:Nat)(w:S):Prop:=Keeps (λk=>k=b) a w/\((∃h,aX held (l.take k)=N h/\Feeds w b (pl+k) h)\/(aX held l=J/\∃p,FeedsBad w b p))
def feed_any(w:S)(b pl:Nat)(held l:Oo)(a:Option au)(cap:Nat)(y:Feeds w b pl held)(c:BytesAt w b a l)(hl:l.length<=1073741824)(h6:pl<=1073741824):
 Y X 169 #[ac b,az a l.length cap] w λe w'=>feedRet w' b pl l.length (aX held l) e/\Keeps (λk=>k=b) w w':=by
 have HB:=A c;have H:=A y;clear y c;go_enter func169,ntmps169;go_wp2;go_loopw [5] (λi wr=>∃k:Nat,k<=l.length/\i=I U k/\M (feedInv w b pl held l k wr)) (λi _=>l.length-(intOf i).toNat)
 case atStart=>exact⟨0,by omega,rfl,A ⟨Keeps.A4 _ _,V ⟨held,rfl,H.o⟩⟩⟩
 case round=>
  obtain⟨k,hk,rfl,c⟩:=hrel;obtain⟨d,z⟩:=c.o;clear c;have f:=A d;clear d;rcases z with⟨y,d,t⟩|⟨h,p,o⟩
  .have HF:=A d;have q:=A t;clear d;obtain⟨_,a0,a1,a2,a3,d,-⟩:=t;obtain⟨B,c1,c2,C,F,G,L,P⟩:=cells7 d;clear d;by_cases r:k<l.length
   .rcases HB.o with hn|⟨g,off,rfl,Q,-,c⟩
    .subst hn;simp at r
    .have hc:wr.cell? ⟨g,off+k,J⟩=N (I O ((l[k].toNat:Nat):Int)):=f.o.B6 (c k l[k] (bf r)) Q;clear c;go_wp2_with fail;refine(take_any wr b (pl+k) l[k] y q.o).mono ?_;have c:=feedAll_take (held:=held) r;rw[HF.o]at c;rintro e w2 ⟨x,m⟩;have c:aX held (l.take (k+1))=aO y l[k]:=c;cases n:aO y l[k]with
     | none=>
      rw[n]at x c;obtain⟨rfl,j⟩:=x;have u:=A (feedAll_stop c);have s:=A (f.o.same m);obtain⟨_,R,T,x2,x3,d,-⟩:=j;obtain⟨-,-,-,-,-,v,d6,df⟩:=cells7 d;have H2:=A d;clear d c n m B c1 c2 C F G L P hc;go_wp2;go_roundw
      case rel=>exact⟨k+1,by omega,by go_num,A ⟨(s.o.A3 (p:=⟨b,6,J⟩) (V rfl) _).A3 (p:=⟨b,5,J⟩) (V rfl) _,ai ⟨u.o,_,R,T,x2,x3,aB (aB H2.o _) _⟩⟩⟩
      case measure=>simp[intOf];omega
     | some h'=>
      rw[n]at x c;obtain⟨rfl,j⟩:=x;have u:=A c;have s:=A (f.o.same m);obtain⟨v,R,T,x2,x3,d,h9⟩:=j;obtain⟨d0,-,-,-,-,-,-,df⟩:=cells7 d;have H2:=A d;have H9:=A h9;have h5:=A v;clear d h9 c n m B c1 c2 C F G L P hc v;go_wp2;go_roundw
      case rel=>exact⟨k+1,by omega,by go_num,A ⟨s.o.A3 (p:=b) (V rfl) _,V ⟨h',u.o,h5.o,R,T,x2,x3,aB H2.o _,H9.o⟩⟩⟩
      case measure=>simp[intOf];omega
   .have c:k=l.length:=(by omega);subst c;have j:=A (show aX held l=N y by have:=HF.o;rwa[List.take_length]at this);go_wp2_with fail;refine(fault_good _ b _ y q.o).mono ?_;rintro e w2 ⟨rfl,rfl⟩;go_wp2;go_ret;exact⟨by rw[j.o];exact⟨rfl,q.o⟩,f.o⟩
  .have u:=A h;have c:=A o;clear h;obtain⟨a0,a1,a2,a3,d⟩:=o;obtain⟨B,c1,c2,C,F,G,L,P⟩:=cells7 d;clear d;go_wp2_with fail
   all_goals
    refine(fault_bad _ b p c.o).mono ?_;rintro e w2 ⟨rfl,rfl⟩;go_wp2;go_ret;exact⟨by rw[u.o];exact⟨p,rfl,c.o⟩,f.o⟩
def errIf(a:Bool)(e:bx):Prop:=match a with
 | true=>e=Z bm
 | false=>∃T v,e=Z (ar T v)
def end_good(w:S)(b pl:Nat)(held:Oo)(h:Feeds w b pl held):Y X 258 #[ac b] w λe w'=>errIf (held== []) e/\w'=w:=by
 have g:=A (fault_good w b pl held h);obtain⟨_,m,a1,a2,a3,c,-⟩:=h;obtain⟨j,c1,c2,k,p,i,o,l⟩:=cells7 c;clear c;cases held with
 | nil=>
  go_enter cw,cz;go_wp2_with fail;refine(g.o).mono ?_;rintro e w1 ⟨rfl,rfl⟩;go_wp2;go_ret;exact⟨rfl,rfl⟩
 | cons x t=>
  have a:(0:Int)<((x::t).length:Int):=by simp
  obtain⟨n,f⟩:∃n,(x::t).length=n:=⟨_,rfl⟩;have d:((x::t)== [])=K:=rfl;rw[d];clear d;rw[f]at a i;clear f;go_enter cw,cz;go_wp2;go_ret;exact⟨⟨_,_,rfl⟩,rfl⟩
def end_bad(w:S)(b pl:Nat)(h:FeedsBad w b pl):Y X 258 #[ac b] w λe w'=>errIf K e/\w'=w:=by
 have c:=A (fault_bad w b pl h);obtain⟨i,a1,a2,a3,a⟩:=h;obtain⟨l,c1,c2,d,k,g,j,f⟩:=cells7 a;clear a;go_enter cw,cz;go_wp2_with fail;refine(c.o).mono ?_;rintro e w1 ⟨rfl,rfl⟩;go_wp2;go_ret;exact⟨⟨_,_,rfl⟩,rfl⟩
def BytesAt.A7{w w':S}{b d:Nat}{a:Option au}{l:Oo}(h:BytesAt w b a l)(e:Below w w w')(f:w.heap.size<=d):BytesAt w' d a l:=by
 rcases h with h|⟨g,off,j,_,c,k⟩
 .exact V h
 .exact ai ⟨g,off,j,by omega,a7 c e.size,λi x m=>(e.B6 (p:=⟨g,off+i,J⟩) c).trans (k i x m)⟩
def check_any(w:S)(B:Nat)(l:Oo)(a:Option au)(cap:Nat)(u:BytesAt w B a l)(G:l.length<=1073741824):Y X 237 #[az a l.length cap] w λe w'=>errIf (aV l) e/\Below w w w':=by
 have C:=A u;clear u;go_enter func237,ntmps237;go_wp2_with fail;refine(newFeeder_any _).mono ?_;rintro e w1 ⟨rfl,c,j,F⟩;have s:=A c;have m:=A j;clear c j;go_wp2_with fail;refine(feed_any w1 w.heap.size 0 [] l a cap s.o (C.o.A7 m.o (hU _)) G (by omega)).mono ?_;rintro e w2 ⟨q,x⟩;have f:=A (m.o.trans (x.A6 (n:=w.heap.size) (by omega) (λk e=>by subst e;exact hU _)));clear x;cases g:aX [] l with
 | none=>
  rw[g]at q;obtain⟨p,rfl,o⟩:=q;have b:aV l=K:=by unfold aV;rw[g];rfl
  have d:=A b;clear b g;go_wp2_with fail;refine(end_bad _ _ p o).mono ?_;rintro e y ⟨⟨T,v,rfl⟩,rfl⟩;go_wp2;go_ret;exact⟨by rw[d.o];exact⟨_,_,rfl⟩,f.o⟩
 | some h=>
  rw[g]at q;obtain⟨rfl,c⟩:=q;have b:aV l=(h== []):=by unfold aV;rw[g];cases h<;>rfl
  have d:=A b;clear b g;have z:=A c;clear c;go_wp2_with fail;refine(end_good _ _ _ h z.o).mono ?_;rintro e y ⟨r,rfl⟩;cases i:(h== [])with
  | true=>
   rw[i]at r;obtain rfl:=r;have t:=A i;clear i;go_wp2;go_ret;exact⟨by rw[d.o,t.o];rfl,f.o⟩
  | false=>
   rw[i]at r;obtain⟨T,v,rfl⟩:=r;have t:=A i;clear i;go_wp2;go_ret;exact⟨by rw[d.o,t.o];exact⟨_,_,rfl⟩,f.o⟩
def cell_any{w:S}{b o:Nat}{c:Array ae}{T:bj}{a:Nat×Nat}(h:w.heap[b]?=N (W c T a)):w.cell? ⟨b,o,J⟩=c[o]?:=by simp[World.cell?,h]
def right_any(s:ByteArray)(w:S)(r:s.size<=1073741824):Y X 218 #[s] w λe w'=>e=Z (D (aV s.data.toList))/\Below w w w':=by
 have b:=run_bytes_of_string (P:=X) w 9 22 5 s underlying9 underlying22 underlying5;go_enter func218,ntmps218;go_wp2_with fail;have g:s.data.toList.length=s.size:=Array.length_toList;have a:Below w w (w.alloc (W (ak s (aj w s.size 0 5)) 5 ((ak s (aj w s.size 0 5)).size,(ak s (aj w s.size 0 5)).size+1))).drew:=((Below.A4 _ _).A5 (hU _) _).B0
 have f:BytesAt (w.alloc (W (ak s (aj w s.size 0 5)) 5 ((ak s (aj w s.size 0 5)).size,(ak s (aj w s.size 0 5)).size+1))).drew (w.heap.size+1) (N ⟨w.heap.size,0,J⟩) s.data.toList:=by
  refine ai ⟨w.heap.size,0,rfl,by omega,by show _<(w.alloc _).heap.size;simp,λi x o=>?_⟩;have d:i<s.data.size:=by have:=(List.getElem?_eq_some_iff.1 o).1;simpa using this
  have n:s.data[i]=x:=by
   rw[bf (by simpa using d)]at o;simpa using o
  show(w.alloc _).cell? ⟨w.heap.size,0+i,J⟩=_;have q:=aL w (W (ak s (aj w s.size 0 5)) 5 ((ak s (aj w s.size 0 5)).size,(ak s (aj w s.size 0 5)).size+1));rw[cell_any q,Nat.zero_add,bytesRow_at s _ i d,n]
 have l:=check_any _ _ s.data.toList _ (aj w s.size 0 5) f (by omega);rw[g]at l;have p:=A a;clear f a g b;refine l.mono ?_;rintro e w2 ⟨k,j⟩;have h:=A (chain p.o j);clear j l;cases c:aV s.data.toList with
 | true=>
  rw[c]at k;obtain rfl:=k;have m:=A c;clear c;go_wp2;go_ret;exact⟨by rw[m.o];rfl,h.o⟩
 | false=>
  rw[c]at k;obtain⟨T,v,rfl⟩:=k;have m:=A c;clear c;go_wp2;go_ret;exact⟨by rw[m.o];rfl,h.o⟩
end Go.Proofs.YtakkmiomhackiaaGreatDoor.Dr
namespace Go.Proofs.YtakkmiomhackiaaGreatDoor
open Go.RowKit

def HeldOk(held:List UInt8):Prop:=∀h t,held=h::t->held.length<(aC h).wide
def Feeds(w:S)(b pl:Nat)(held:List UInt8):Prop:=HeldOk held/\∃a a1 a2 a3:UInt8,w.heap[b]?=N (W #[pl,I O a.toNat,I O a1.toNat,I O a2.toNat,I O a3.toNat,held.length,D K] 305 (0,0))/\
 held= [a,a1,a2,a3].take held.length
def Feeds.A0{F:Nat->Prop}{w w':S}{b pl:Nat}{held:Oo}(h:Feeds w b pl held)(a:Keeps F w w')(g:¬F b):Feeds w' b pl held:=by
 obtain⟨e,c,a1,a2,a3,d,f⟩:=h;exact⟨e,c,a1,a2,a3,a.B4 d g,f⟩
def newFeeder_any(w:S):Y X 137 #[] w λe w'=>e=Z (ac w)/\Feeds w' w.heap.size 0 []/\bg w w w'/\w'.heap.size=w.heap.size+1:=
 (Dr.newFeeder_any w).mono λ_ _ h=>⟨h.1,h.2.1,h.2.2.1.plain,h.2.2.2⟩
def held_any(w:S)(b pl:Nat)(held:Oo)(h:Feeds w b pl held):Y X 167 #[ac b] w λe w'=>e=Z (I U held.length)/\w'=w:=
 Dr.held_any w b pl held h
def aK5:Elem 226 232 16:=⟨underlying226,by
 have h:(X.info? 232).map (λi=>(i.zero,i.size,i.bytes))=N (N bm,1,16):=by kernel_rfl
 obtain⟨i,c,a,d,b⟩:=info_parts h;exact⟨i,_,c,a,d,b,rfl⟩⟩
def aN{w:S}{b:Nat}{p g k a l d c i q e j f n m:ae}{T:bj}(h:w.heap[b]?=N (W #[p,g,k,a,l,d,c,i,q,e,j,f,n,m] T (0,0))):
 w.cell? b=N p/\w.cell? ⟨b,1,J⟩=N g/\w.cell? ⟨b,2,J⟩=N k/\w.cell? ⟨b,3,J⟩=N a/\w.cell? ⟨b,4,J⟩=N l/\w.cell? ⟨b,5,J⟩=N d/\w.cell? ⟨b,6,J⟩=N c/\w.cell? ⟨b,7,J⟩=N i/\
 w.cell? ⟨b,8,J⟩=N q/\w.cell? ⟨b,9,J⟩=N e/\w.cell? ⟨b,10,J⟩=N j/\w.cell? ⟨b,11,J⟩=N f/\w.cell? ⟨b,12,J⟩=N n/\w.cell? ⟨b,13,J⟩=N m/\∀o,w.frozen? ⟨b,o,J⟩=K:=
 ⟨aA h,aA h,aA h,aA h,aA h,aA h,aA h,aA h,aA h,aA h,aA h,aA h,aA h,aA h,free_at h⟩
def aBv(w:S):Y X 72 #[] w λe w'=>e=Z (ac w)/\
 w'=w.alloc (W #[I U 0,bm,D K,.func (.func 104) #[] #[],D K,I U 0,(),I U 0,ac J,(),I U 0,I .i32 0,I .i32 0,()] 228):=by
 go_enter func72,ntmps72;go_wp2;go_ret;exact⟨rfl,rfl⟩
def rX(w:S)(b:Nat)(c:Array ae)(a d:Nat)(h:w.heap[b]?=N (W c 228 (0,0)))(j:c[5]?=N (I U a))(g:a<=d)(k:d<=1073741824):
 Y X 136 #[ac b,d] w λe w'=>e=Z (bh #[a,I U ((d-a:Nat):Int)])/\bg w w w':=by
 have f:bg w w (w.alloc (W #[I U 0,I U 0] 236)):=(dk _ _).alloc (hU _) _;have i:=keep h f;have m:(w.alloc (W #[I U 0,I U 0] 236)).cell? ⟨b,5,J⟩=N (I U a):=by rw[aA i];exact j
 have l:U.wrap ((d:Int)-(a:Int))=((d-a:Nat):Int):=by rw[b9];omega
 clear h i j g;go_enter func136,ntmps136;go_wp2;go_region;go_wp2_with fail;exact bb (v:=bh #[a,I U ((d-a:Nat):Int)]) (by simp[bw,results136,go_sem]) rfl ⟨rfl,((dk _ _).alloc (hU _) _).drew⟩
def Win.ne{k:Type}{e:Nat}{enc:k->ae}{w:S}{v:ae}{l:List k}(h:Win e enc w v l){b:Nat}{c:Array ae}{T:bj}(f:w.heap[b]?=N (W c T (0,0)))(i:T≠e):v.ownBlock≠N b:=by
 rcases h with⟨rfl,_⟩|⟨g,off,cap,j,rfl,a,_⟩
 .simp[dh]
 .intro d;simp only[dh,ll]at d;subst d;rw[f]at a;simp only[ll,eh]at a;exact i a.2.1
def rY(w:S)(b:Nat)(t u v v3 v4 x y z B C G L P a:ae)(T:bj)(i:ae)(toks:List ae)(m:w.heap[b]?=N (W #[t,u,v,v3,v4,x,y,z,B,C,G,L,P,a] 228 (0,0)))
 (d:Win 232 id w a toks)(hl:toks.length<=1000):
 Y X 135 #[ac b,ar T i] w λe w'=>e=Z (.tuple #[])/\∃g off cap,w'.heap[b]?=N (W #[t,u,v,.func (.func 104) #[] #[],D K,x,y,z,B,C,G,L,P,az (N ⟨g,off,J⟩) (toks.length+1) cap] 228 (0,0))/\
  Win 232 id w' (az (N ⟨g,off,J⟩) (toks.length+1) cap) (toks++ [ar T i])/\(a.ownBlock=N g\/w.heap.size<=g)/\Keeps (λk=>k=b\/a.ownBlock=N k) w w':=by
 obtain⟨c0,c1,c2,c3,c4,c5,c6,c7,c8,c9,ca,cb,cc,cd,cf⟩:=aN m;have H:=A m;have n:=E m;have o:=A (d.ne m (by decide));obtain⟨Q,R,q⟩:=d.A8;have c:Win 232 id (w.alloc (W #[ar T i] 232)) a toks:=d.A0 (F:=λ_=>False) ((dj _ w).A5 _) (λ_ _=>id);have HW:=A c;clear m d c;subst q;go_enter func135,ntmps135;go_wp2_with (at_builtin;refine dE aK5 rfl _ _ rfl rfl HW.o w 1 (ar T i) rfl ?_ rfl ?_ ?_ ?_)
 .simp
 .omega
 .unfold maxLen;omega
 intro g off cap w' c j h;have d:=(h.block b (by simp;omega) (λe=>o.o e.symm)).trans ((de w _ _ n).trans H.o)
 have f:g≠b:=by
  have:=c.ne d (by decide);intro e;subst e;exact this rfl
 have HK:=A (((dj (λk=>k=b\/(az Q toks.length R).ownBlock=N k) w).A5 (W #[ar T i] 232)).G0 h (λk e=>V (ai e)));have l:=A c;have r:=A (show(az Q toks.length R).ownBlock=N g\/w.heap.size<=g from j.elim V (λm=>ai (by have:=m.1;first|omega|(simp at this;omega))));obtain⟨-,-,-,d3,d4,-,-,-,-,-,-,-,-,dd,df⟩:=aN d;have HB:=A d;have s:=A f;clear d c j h f c0 c1 c2 c3 c4 c5 c6 c7 c8 c9 ca cb cc cd cf;go_wp2;go_end0;refine⟨rfl,g,off,cap,aB (aB (aB HB.o _) _) _,?_,r.o,((HK.o.A3 (p:=⟨b,13,J⟩) (V (V rfl)) _).A3 (p:=⟨b,4,J⟩) (V (V rfl)) _).A3 (p:=⟨b,3,J⟩) (V (V rfl)) _⟩
 exact l.o.A0 ((((dj (λk=>k=b) w').A3 (p:=⟨b,13,J⟩) (V rfl) _).A3 (p:=⟨b,4,J⟩) (V rfl) _).A3 (p:=⟨b,3,J⟩) (V rfl) _) (λk e c=>by
  simp only[dh,ll]at e;exact s.o (e.trans c))
def aHe(w:S)(b pl d:Nat)(a:Bool)(c:Array ae)(h:w.heap[b]?=N (W c 228 (0,0)))(j:c[0]?=N (I U pl))(g:c[4]?=N (D a))(i:c[5]?=N (I U d))(f:d<=pl)(k:pl<=1073741824):
 Y X 116 #[ac b] w λe w'=>e=Z (I U ((if a then pl-d else 0:Nat):Int))/\bg w w w':=by
 have l:w.cell? b=N (I U pl):=by rw[aA h];exact j
 have o:w.cell? ⟨b,4,J⟩=N (D a):=by rw[aA h];exact g
 have m:w.cell? ⟨b,5,J⟩=N (I U d):=by rw[aA h];exact i
 have n:U.wrap ((pl:Int)-(d:Int))=((pl-d:Nat):Int):=by rw[b9];omega
 clear h j g i f;cases a with
 | false=>
  go_enter func116,ntmps116;go_wp2;go_ret;exact⟨rfl,dk _ _⟩
 | true=>
  go_enter func116,ntmps116;go_wp2;go_region;go_wp2;go_ret;exact⟨rfl,(dk _ _).drew⟩
section
inductive Tr|null|flag(b:Bool)|num(bits:Nat)|text(s:List UInt8)|list(l:List Tr)|object(keys:List (List UInt8))(l:List Tr)
structure Sz where
 g:Nat
 bytes:Nat
 h:Nat
def Sz.B9(s:Sz):Bool:=decide (s.g<=65536)&&decide (s.bytes<=2097152)&&decide (s.h<=512)
def fY(bytes:Nat)(l:List Sz):Sz:=let s:Sz:=l.foldl (λ(a z:Sz)=>(⟨a.g+z.g,a.bytes+z.bytes,max a.h z.h⟩:Sz)) ⟨1,bytes,0⟩;{s with h:=s.h+1}
def bD(keys:List (List UInt8)):Nat:=keys.foldl (λa k=>a+k.length) 0
def Tr.A9:Tr->Sz
 | .null| .flag _| .num _=>⟨1,0,1⟩
 | .text s=>⟨1,s.length,1⟩
 | .list l=>fY 0 (l.attach.map λx=>Tr.A9 x.1)
 | .object keys l=>fY (bD keys) (l.attach.map λx=>Tr.A9 x.1)
termination_by t=>t
decreasing_by all_goals(simp_wf;have:=List.sizeOf_lt_of_mem x.2;omega)
def pA(a:List Tr)(x:Tr):List Tr:=if x.A9.B9 then a++ [x]else a
def bB(a:List Tr)(x:Tr):List Tr:=if 65536<=a.length then a else pA a x
def dW(a:Nat):Nat:=if a=9223372036854775808 then 0 else a
def iR(a:List Tr)(b:Nat):List Tr:=bB a (.num (dW b))
def gE(a:List Tr)(s:List UInt8):List Tr:=if aV s then bB a (.text s)else a
def fZ(a:List Tr)(n:Nat)(x:Tr):List Tr:=if x.A9.B9 then a.take (a.length-n)++ [x]else a
def eI(a:List Tr)(n:Nat):List Tr:=if a.length<n then a else fZ a n (.list (a.drop (a.length-n)))
inductive Fr|list(many:Nat)|object(keys:List (List UInt8))
structure Ps where
 h:Nat
 a:Nat
 d:Lx
 c:List Tr
 e:List Fr
 b:Nat
 g:Nat
 bytes:Nat
abbrev Out:=Except (Nat×Nat) Ps
def Ps.C9(p:Ps)(a:Nat):Out:=
 if p.b≠0/\p.b≠1 then ag (120,a)else if p.e.length=p.h then ag (121,a)else if p.g=65536 then ag (3,a)else ah {p with g:=p.g+1}
def Ps.E2(p:Ps)(c:UInt8):Out:=if c=34/\(p.b=2\/p.b=3)then ah p else p.C9 p.a
def more(l:List Fr):List Fr:=match l.getLast? with
 | some (.list n)=>l.dropLast++ [.list (n+1)]
 | _=>l
def Ps.C5(p:Ps):Ps:={p with b:=if p.e= []then 6 else 5,e:=more p.e}
def Ps.F0(p:Ps)(s:List UInt8)(a:Nat):Out:=if 2097152<p.bytes+s.length then ag (3,a)else ah {p with bytes:=p.bytes+s.length}
def fP(l:List Fr):List (List UInt8):=match l.getLast? with
 | some (.object k)=>k
 | _=> []
def jB(l:List Fr):Bool:=match l.getLast? with
 | some (.object _)=>ao
 | _=>K
def Ps.E7(p:Ps)(a:Nat)(s:List UInt8):Out:=
 if p.b≠2/\p.b≠3 then(p.F0 s a).map λp=>Ps.C5 {p with c:=gE p.c s}
 else if s∈fP p.e then ag (101,a)
 else(Ps.F0 {p with e:=p.e.dropLast++ [.object (fP p.e++ [s])]} s a).map λp=>{p with b:=4}
def wQ:Fr->UInt8
 | .list _=>93
 | .object _=>125
def Ps.D6(p:Ps)(a:UInt8):Bool:=(match p.e.getLast? with
 | some f=>wQ f=a
 | none=>K)&&(p.b=5||p.b=1||p.b=2)
def Ps.F8(p:Ps)(x:Tr):Ps:=Ps.C5 {p with c:=bB p.c x}
def jE(a:List UInt8):Tr:=if a= [110,117,108,108]then .null else .flag (a= [116,114,117,101])
section
variable (putObject:List Tr->List (List UInt8)->List Tr)
def Ps.C6(p:Ps):Ps:=match p.e.getLast? with
 | some (.list n)=>Ps.C5 {p with e:=p.e.dropLast,c:=eI p.c n}
 | some (.object k)=>Ps.C5 {p with e:=p.e.dropLast,c:=putObject p.c k}
 | none=>p
def Ps.C7(p:Ps)(b:Nat)(a:UInt8):Out:=
 if a=91 then(p.C9 b).map λp=>{p with e:=p.e++ [.list 0],b:=1}
 else if a=123 then(p.C9 b).map λp=>{p with e:=p.e++ [.object []],b:=2}
 else if a=58/\p.b=4 then ah {p with b:=0}
 else if a=44/\p.b=5 then ah {p with b:=if jB p.e then 3 else 0}
 else if p.D6 a then ah (p.C6 putObject)
 else ag (120,b)
def Ps.D7(p:Ps):Tok->Out
 | .mark a s=>p.C7 putObject a s
 | .str a _ s=>p.E7 a s
 | .term _ _ n=>ah (p.F8 (jE n))
 | .num _ _ b=>ah (Ps.C5 {p with c:=iR p.c b})
def Ps.D3(p:Ps)(l:List Tok):Out:=l.foldlM (λp t=>p.D7 putObject t) p
def nO(no:Nat):Nat:=if no=94 then 120 else no
def Lx.E5(x:Lx):Nat:=if x.e then x.a-x.b else 0
def Ps.B3(p:Ps)(c:UInt8):Out:=
 let r:=p.d.B3 c
 match Ps.D3 putObject {p with d:=r.1} r.2.1 with
 | .error e=>ag e
 | .ok q=>
  if r.2.2.1≠0 then ag (nO r.2.2.1,r.2.2.2)
  else match(if r.1.E5=1 then q.E2 c else ah q)with
   | .error e=>ag e
   | .ok q=>ah {q with a:=q.a+1}
def Ps.C4(p:Ps)(l:List UInt8):Out:=l.foldlM (λp c=>p.B3 putObject c) p
def Ps.B7(p:Ps):Out:=
 let r:=p.d.C0
 match Ps.D3 putObject {p with d:=r.1} r.2.1 with
 | .error e=>ag e
 | .ok q=>if r.2.2.1≠0 then ag (nO r.2.2.1,r.2.2.2)else if q.b≠6 then ag (95,q.a)else ah q
def Ps.E9(a:Nat):Ps:=⟨a,0,Lx.E9,[],[],0,0,0⟩
def Ps.F5(l:List UInt8)(a:Nat):Out:=match(Ps.E9 a).C4 putObject l with
 | .error e=>ag e
 | .ok p=>p.B7 putObject
end
end
def aZ(x:UInt8):Nat:=if x.toNat<238 then x.toNat else if x.toNat<240 then x.toNat+16 else x.toNat-2
def aG8{x y:UInt8}(h:aZ x=aZ y):x=y:=by
 have b:=x.toNat_lt;have a:=y.toNat_lt;unfold aZ at h;apply kb;split at h<;>split at h<;>(try split at h)<;>(try split at h)<;>omega
def eE:List UInt8->List UInt8->Int
 | [],[]=>0
 | [],_::_=> -1
 | _::_,[]=>1
 | x::a,y::b=>if x=y then eE a b else if aZ x<aZ y then -1 else 1
def kY:∀x y:Oo,eE x y= -1\/eE x y=0\/eE x y=1
 | [],[]=>ai (V rfl)
 | [],_::_=>V rfl
 | _::_,[]=>ai (ai rfl)
 | x::c,y::b=>by
  unfold eE;by_cases h:x=y
  .rw[pz h];exact kY c b
  .rw[py h];by_cases a:aZ x<aZ y
   .rw[pz a];exact V rfl
   .rw[py a];exact ai (ai rfl)
def aAF:∀x:Oo,eE x x=0
 | []=>rfl
 | x::a=>by unfold eE;rw[pz rfl];exact aAF a
def rN:∀{x y:Oo},eE x y=0->x=y
 | [],[],_=>rfl
 | [],_::_,h=>by simp[eE]at h
 | _::_,[],h=>by simp[eE]at h
 | x::c,y::b,h=>by
  unfold eE at h;by_cases e:x=y
  .rw[pz e]at h;rw[e,rN h]
  .rw[py e]at h;by_cases a:aZ x<aZ y
   .rw[pz a]at h;cases h
   .rw[py a]at h;cases h
def kR:∀x y:Oo,eE x y= -eE y x
 | [],[]=>rfl
 | [],_::_=>rfl
 | _::_,[]=>rfl
 | x::d,y::b=>by
  unfold eE;by_cases e:x=y
  .rw[pz e,pz e.symm];exact kR d b
  .have f:¬y=x:=λh=>e h.symm;rw[py e,py f];have c:aZ x≠aZ y:=λh=>e (aG8 h);by_cases a:aZ x<aZ y
   .rw[pz a,py]
   .rw[py a,pz];decide
def mQ:∀{x y z:Oo},eE x y<0->eE y z<0->eE x z<0
 | [],[],_,h,_=>by simp[eE]at h
 | [],_::_,[],_,h=>by simp[eE]at h
 | [],_::_,_::_,_,_=>by simp[eE]
 | _::_,[],_,h,_=>by simp[eE]at h
 | _::_,_::_,[],_,h=>by simp[eE]at h
 | x::k,y::i,z::l,b,a=>by
  unfold eE at b a⊢;by_cases d:x=y
  .subst d;rw[pz rfl]at b;by_cases c:x=z
   .rw[pz c]at a⊢;exact mQ b a
   .rw[py c]at a⊢;exact a
  .rw[py d]at b
   have g:aZ x<aZ y:=by
    by_cases h:aZ x<aZ y
    .exact h
    .rw[py h]at b;omega
   by_cases c:y=z
   .subst c;rw[py d,pz g];decide
   .rw[py c]at a
    have j:aZ y<aZ z:=by
     by_cases h:aZ y<aZ z
     .exact h
     .rw[py h]at a;omega
    have f:x≠z:=λe=>(by subst e;omega);rw[py f,pz];decide
def aEw{x y:Oo}(b:¬eE x y<0)(a:¬eE y x<0):x=y:=by
 rcases kY x y with h|h|h
 .omega
 .exact rN h
 .have:=kR x y;omega
abbrev zX:={l:List UInt8 //aV l=ao/\l.length<=2097152}
instance :Inhabited zX:=⟨⟨[],by decide⟩⟩
def aCD(x:UInt8)(w:S):Y X 263 #[I O x.toNat] w λe w'=>e=Z (D (decide (240<=x.toNat)))/\w'=w:=by
 obtain⟨n,b⟩:∃n,x.toNat=n:=⟨_,rfl⟩;rw[b];by_cases h:240<=n
 .have a:(240:Int)<=(n:Int):=by omega
  rw[decide_eq_true h];go_enter func263,ntmps263;go_wp2;go_ret;exact⟨rfl,rfl⟩
 .have a:¬(240:Int)<=(n:Int):=by omega
  rw[decide_eq_false h];go_enter func263,ntmps263;go_wp2;go_ret;exact⟨rfl,rfl⟩
def aCE(x y:Int):Int:=if x<y then -1 else if y<x then 1 else 0
def wT(x y:Int)(w:S):Y X 262 #[x,y] w λe w'=>e=Z (I U (aCE x y))/\w'=w:=by
 unfold aCE;by_cases h:x<y
 .rw[pz h];go_enter dl,dm;go_wp2;go_ret;exact⟨rfl,rfl⟩
 .rw[py h];by_cases a:y<x
  .rw[pz a];go_enter dl,dm;go_wp2;go_ret;exact⟨rfl,rfl⟩
  .rw[py a];go_enter dl,dm;go_wp2;go_ret;exact⟨rfl,rfl⟩
def iI(x y:Int)(w:S):Y X 264 #[I O x,I O y] w λe w'=>e=Z (I U (aCE x y))/\w'=w:=by
 unfold aCE;by_cases h:x<y
 .rw[pz h];go_enter dp,dq;go_wp2;go_ret;exact⟨rfl,rfl⟩
 .rw[py h];by_cases a:y<x
  .rw[pz a];go_enter dp,dq;go_wp2;go_ret;exact⟨rfl,rfl⟩
  .rw[py a];go_enter dp,dq;go_wp2;go_ret;exact⟨rfl,rfl⟩
