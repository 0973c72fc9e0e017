/-
  The program, one part of its walk. Conditions: none.
-/
import Derived.Test.YtakkmiomhackiaaGreatDoorBf04
import Derived.Sort.Grow
import Derived.Shelf.SlSortCmp.Whole1
import Derived.Ground.SlsfProg
import Derived.Laws.EntriesVeiled
import Derived.Laws.IdiomStrings
import Derived.Laws.BytesArg
import Derived.Defers
import Derived.Recover
import Derived.Laws.Externs
import Derived.Laws.BitsAllLaws
set_option linter.all false
set_option maxRecDepth 100000
set_option maxHeartbeats 16000000
open Go.Proofs.Tryz
open Array renaming length_toList->fq,replicate->gn
open Bool renaming false->K,false_eq_true->gq,true->ah
open Go renaming Addr->bj,Calls->E,CallsD->gl,Ending->dj,TypeId->bu,Value->V,World->U,bodyPostS->gr,bodyPost_ret->cg,bytesRow->cv,callFunc->ga,callsD_of_wpS->gm,cell_of_one->cu,free_of_one->gk,grownCap->co,heap_alloc_new->bw,info_parts->gc,leaves_cons->ir,loadVar->gu,lt_of_block->af,maxLen->ev,method->ct,recoverD->dy,results->bk,run_callFunc_extern->io,wpOpsS->dm,wpS_cond->go,wpS_region->dl,wpS_seq->dx
open Go.Act renaming eval->gp
open Go.Addr renaming add->im
open Go.Ending renaming returned->H
open Go.Exit renaming thenS->ee
open Go.Extern.MathFloatBits renaming float64bits->ji,float64frombits->jj
open Go.FloatKind renaming f64->ao
open Go.Fn renaming func->cz
open Go.FrameMode renaming panicking->ip,returning->ew
open Go.IntKind renaming i32->dh,i64->N,u64->aw,u8->W,wrap_i64->ij
open Go.Obj renaming cells->Y
open Go.Obj.cells renaming injEq->jh
open Go.Proofs renaming ltOf->ej
open Go.Proofs.SlLaysF renaming n6->jg
open Go.Proofs.Tryz renaming func168->gh,func175->ez,func190->dt,func258->fk,func262->fu,func264->fw,ntmps168->gj,ntmps175->fa,ntmps190->du,ntmps258->fm,ntmps262->fv,ntmps264->fz,prog->X,results196->it,results221->jd,t181->iw,t187->ix,underlying22->et,underlying5->eu,underlying9->ep
open Go.Proofs.YtakkmiomhackiaaGreatDoor.Keeps renaming A0->bp,A8->bh
open Go.Proofs.YtakkmiomhackiaaGreatDoor.Sz renaming A9->dw
open Go.Proofs.YtakkmiomhackiaaGreatDoor.Tr renaming A5->bx,list->ek,object->em,text->dp
open Go.Result renaming andThen_ok->fc,ok->ba
open Go.RowKit renaming Below->aj,Hid->ck
open Go.RowKit.Below renaming heap_alloc->di,refl->bc
open Go.Sem renaming run_bind->eh,run_pure->iy
open Go.Shelf renaming Ren->jf
open Go.Sort renaming grow->gw
open Go.Value renaming agg->ae,bool->ac,float->au,func->cw,iface->ag,int->I,nilIface->bm,ownBlock->gd,pointer->D,slice->ak,string->av,tuple->cr
open Go.World renaming cell?->gz,setCell->il
open Go.World.mk renaming injEq->je
open List renaming attach_map_val->iz,drop_zero->ii,foldl_append->fj,getElem?_append_left->iu,getElem?_append_right->iv,getElem?_eq_getElem->dv,getElem?_eq_some_iff->ib,length_append->ik,length_cons->ei,length_drop->ig,length_nil->eo,setIfInBounds_toArray->ja,set_cons_succ->jc,set_cons_zero->jb,take_add_one->gy,take_succ_cons->fg,take_zero->fh
open List.cons renaming injEq->fi
open Max renaming max->cj
open Nat renaming le_refl->ai,le_succ->iq,le_succ_of_le->gv,le_trans->bz,lt_of_lt_of_le->dq,reduceAdd->fe,zero_add->ie,zero_le->gx
open Option renaming none->O,some->J
open Option.some renaming injEq->ge
open Or renaming inl->Z,inr->ar
open UInt8.toNat renaming inj->ft
namespace Go.Proofs.YtakkmiomhackiaaGreatDoor.Dr
open Go.RowKit
structure Below(B:Nat)(w w':U):Prop where
 os:w'.os=w.os
 tape:w'.tape=w.tape
 output:w'.output=w.output
 size:w.heap.size<=w'.heap.size
 block:∀k,k<B->w'.heap[k]?=w.heap[k]?
 drawn:w.drawn<=w'.drawn
def Below.D9{B:Nat}{w w':U}(h:Below B w w'):aj B w w':=⟨h.os,h.tape,h.output,h.size,h.block⟩
def Below.A8(B:Nat)(w:U):Below B w w:=⟨rfl,rfl,rfl,ai _,λ_ _=>rfl,ai _⟩
def Below.trans{B:Nat}{a b c:U}(h:Below B a b)(k:Below B b c):Below B a c:=
 ⟨k.os.trans h.os,k.tape.trans h.tape,k.output.trans h.output,bz h.size k.size,λi hi=>(k.block i hi).trans (h.block i hi),bz h.drawn k.drawn⟩
def Below.mono{B a:Nat}{w w':U}(h:Below B w w')(c:a<=B):Below a w w':=⟨h.os,h.tape,h.output,h.size,λk b=>h.block k (dq b c),h.drawn⟩
def Below.B0{B:Nat}{a w:U}(h:Below B a w):Below B a w.drew:=⟨h.os,h.tape,h.output,h.size,h.block,gv h.drawn⟩
def Below.A6{B:Nat}{a w:U}(h:Below B a w)(c:B<=w.heap.size)(o:Obj):Below B a (w.alloc o):=
 h.trans ⟨rfl,rfl,rfl,by simp,λk b=>di _ _ _ (by omega),ai _⟩
def Below.B3{B:Nat}{w w':U}(h:Below B w w'){p:bj}(a:p.block<B):w'.cell? p=w.cell? p:=h.D9.cell a
def keep{w1 w2:U}{b:Nat}{o:Obj}(h:w1.heap[b]?=J o)(a:Below w1 w1 w2):w2.heap[b]?=J o:=(a.block b (af h)).trans h
def chain{w w1 w2:U}(h:Below w w w1)(a:Below w1 w1 w2):Below w w w2:=h.trans (a.mono h.size)
structure Keeps(F:Nat->Prop)(w w':U):Prop where
 os:w'.os=w.os
 tape:w'.tape=w.tape
 output:w'.output=w.output
 size:w.heap.size<=w'.heap.size
 block:∀k,k<w.heap.size->¬F k->w'.heap[k]?=w.heap[k]?
 drawn:w.drawn<=w'.drawn
section
variable {F G:Nat->Prop} {w w' w1 w2:U}
def Keeps.D9(h:Keeps F w w'):YtakkmiomhackiaaGreatDoor.Keeps F w w':=⟨h.os,h.tape,h.output,h.size,h.block⟩
def Keeps.A8(F:Nat->Prop)(w:U):Keeps F w w:=⟨rfl,rfl,rfl,ai _,λ_ _ _=>rfl,ai _⟩
def Keeps.trans(h:Keeps F w w1)(a:Keeps G w1 w2)(b:∀k,G k->F k\/w.heap.size<=k):Keeps F w w2:=
 have p:=h.D9.trans a.D9 b
 ⟨p.os,p.tape,p.output,p.size,p.block,bz h.drawn a.drawn⟩
def Keeps.same(h:Keeps F w w1)(b:Keeps F w1 w2):Keeps F w w2:=h.trans b λ_ a=>Z a
def Keeps.A3(h:Keeps F w w1){p:bj}(a:F p.block\/w.heap.size<=p.block)(u:V):Keeps F w (w1.setCell p u):=
 have p:=h.D9.A3 a u
 ⟨p.os,p.tape,p.output,p.size,p.block,h.drawn⟩
def Keeps.B0(h:Keeps F w w1):Keeps F w w1.drew:=⟨h.os,h.tape,h.output,h.size,h.block,gv h.drawn⟩
def Keeps.A4(h:Keeps F w w1)(a:Below w1 w1 w2):Keeps F w w2:=
 have p:=h.D9.A4 a.D9
 ⟨p.os,p.tape,p.output,p.size,p.block,bz h.drawn a.drawn⟩
def Keeps.A0(F:Nat->Prop)(h:Below w w w'):Keeps F w w':=(Keeps.A8 F w).A4 h
def Keeps.C6(h:Keeps F w w'){n:Nat}(a:n<=w.heap.size)(b:∀k,F k->n<=k):Below n w w':=
 have p:=h.D9.C6 a b
 ⟨p.os,p.tape,p.output,p.size,p.block,h.drawn⟩
def Keeps.B3(h:Keeps F w w'){p:bj}{v:V}(a:w.cell? p=J v)(b:¬F p.block):w'.cell? p=J v:=h.D9.B3 a b
end
def Below.P1{w w':U}(h:Below w w w'):∃q a,w'=gw (w.drewN q) a:=by
 refine⟨w'.drawn-w.drawn,w'.heap.extract w.heap.size w'.heap.size,?_⟩;obtain⟨e,d,j,m,f,o⟩:=h;cases w with
 | mk c s t r l=>
 cases w' with
 | mk b k p a g=>
 simp only at e d j m f o;subst e;subst d;subst j;unfold gw World.drewN;simp only[je,and_true,true_and];refine⟨?_,by omega⟩;apply Array.ext_getElem?;intro i
 by_cases hi:i<c.size
 .rw[f i hi,Array.getElem?_append_left hi]
 .rw[Array.getElem?_append_right (by omega),Array.getElem?_extract]
  by_cases n:i<b.size
  .rw[if_pos (by omega),show c.size+(i-c.size)=i by omega]
  .rw[if_neg (by omega),Array.getElem?_eq_none (by omega)]
def formV(f:Form):V:=ae #[f.a,I W f.low,I W f.h]
def formOf_any(c:UInt8)(w:U):E X 205 #[I W c.toNat] w λe w'=>e=H (formV (aC c))/\Below w w w':=by
 have d:=A (λv:Array V=>(Below.A8 w w).A6 (ai _) (Y v 349));obtain⟨v,a⟩:∃v,aC c=v:=⟨_,rfl⟩;rw[a];unfold aC at a
 by_cases i:(c.toNat:Int)<128
 rotate_left
 by_cases k:(c.toNat:Int)<194
 rotate_left
 by_cases o:(c.toNat:Int)<224
 rotate_left
 by_cases h:(c.toNat:Int)=224
 rotate_left
 by_cases g:(c.toNat:Int)=237
 rotate_left
 by_cases m:(c.toNat:Int)<240
 rotate_left
 by_cases f:(c.toNat:Int)=240
 rotate_left
 by_cases j:(c.toNat:Int)<244
 rotate_left
 by_cases b:(c.toNat:Int)=244
 all_goals
  repeat(first|rw[if_pos (by omega)]at a|rw[if_neg (by omega)]at a)
  subst a
  try have p:((c.toNat:Int)==224)=K:=by simpa using h
  try have q:((c.toNat:Int)==237)=K:=by simpa using g
  try have l:((c.toNat:Int)==240)=K:=by simpa using f
  try have n:((c.toNat:Int)==244)=K:=by simpa using b
  go_enter func205,ntmps205;go_wp2;exact cg (by simp[bk,results205,go_sem,formV]) rfl ⟨rfl,d.o _⟩
def may_any(f:Form)(i:Nat)(c:UInt8)(w:U):E X 206 #[formV f,i,I W c.toNat] w λe w'=>e=H (ac (f.B9 i c))/\Below w w w':=by
 obtain⟨k,g,hi⟩:=f;have h:=A (λv:Array V=>(Below.A8 w w).A6 (ai _) (Y v 349));obtain⟨o,a⟩:∃o,(Form.mk k g hi).B9 i c=o:=⟨_,rfl⟩;rw[a];unfold Form.B9 at a;unfold formV;dsimp only at a⊢
 by_cases b:i=1
 subst b;rw[if_pos rfl]at a
 by_cases j:(g:Int)<=(c.toNat:Int)
 by_cases l:(c.toNat:Int)<=(hi:Int)
 rotate_left 3
 rw[if_neg b]at a;have g1:¬(i:Int)=1:=by omega
 have m:((i:Int)==1)=K:=by simpa using g1
 clear b
 by_cases j:(128:Int)<=(c.toNat:Int)
 by_cases l:(c.toNat:Int)<=191
 all_goals
  first
  | have d:o=ah:=by rw[<-a];simp;omega
  | have d:o=K:=by rw[<-a];simp;omega
  subst d;clear a;go_enter func206,ntmps206;go_wp2;exact cg (by simp[bk,results206,go_sem]) rfl ⟨rfl,h.o _⟩
def HeldOk(held:List UInt8):Prop:=∀h t,held=h::t->held.length<(aC h).a
def wide_le(c:UInt8):(aC c).a<=4:=by unfold aC;repeat' (first|exact by decide|split)
def HeldOk.le{held:Oo}(h:HeldOk held):held.length<=3:=by
 cases held with
 | nil=>exact gx _
 | cons a t=>have:=h a t rfl;have:=wide_le a;omega
def Feeds(w:U)(b pl:Nat)(held:List UInt8):Prop:=HeldOk held/\∃a a1 a2 a3:UInt8,w.heap[b]?=J (Y #[pl,I W a.toNat,I W a1.toNat,I W a2.toNat,I W a3.toNat,held.length,ac K] 305 (0,0))/\
 held= [a,a1,a2,a3].take held.length
def cells7{w:U}{b:Nat}{f e c a g i d:V}{T:bu}(h:w.heap[b]?=J (Y #[f,e,c,a,g,i,d] T (0,0))):w.cell? b=J f/\w.cell? ⟨b,1,O⟩=J e/\w.cell? ⟨b,2,O⟩=J c/\w.cell? ⟨b,3,O⟩=J a/\w.cell? ⟨b,4,O⟩=J g/\w.cell? ⟨b,5,O⟩=J i/\w.cell? ⟨b,6,O⟩=J d/\∀o,w.frozen? ⟨b,o,O⟩=K:=
 ⟨aA h,aA h,aA h,aA h,aA h,aA h,aA h,free_at h⟩
def newFeeder_any(w:U):E X 137 #[] w λe w'=>e=H (D w)/\Feeds w' w.heap.size 0 []/\Below w w w'/\w'.heap.size=w.heap.size+1:=by
 go_enter func137,ntmps137;go_wp2;go_ret;refine⟨rfl,⟨(λh t e=>by cases e),0,0,0,0,bw w _,rfl⟩,(Below.A8 _ _).A6 (ai _) _,by simp⟩
def held_any(w:U)(b pl:Nat)(held:Oo)(h:Feeds w b pl held):E X 167 #[D b] w λe w'=>e=H (I N held.length)/\w'=w:=by
 obtain⟨_,c,a1,a2,a3,a,-⟩:=h;obtain⟨-,-,-,-,-,d,-,-⟩:=cells7 a;clear a;go_enter func167,ntmps167;go_wp2;go_ret;exact⟨rfl,rfl⟩
def takeRet(w:U)(b pl:Nat)(held:List UInt8)(o:Option (List UInt8))(e:dj)(w':U):Prop:=match o with
 | none=>e=H (ac K)/\Feeds w' b pl held
 | some h=>e=H (ac ah)/\Feeds w' b pl h
def take0_any(w:U)(b pl:Nat)(c:UInt8)(F:Feeds w b pl []):E X 190 #[D b,I W c.toNat] w λe w'=>takeRet w b pl [] (aO [] c) e w'/\Keeps (λk=>k=b) w w':=by
 obtain⟨d,v,a1,a2,a3,l,-⟩:=F;obtain⟨-,-,-,-,-,G,-,-⟩:=cells7 l;have r:=A l;have h:=af l;have q:=A (formOf_any c);have j:aO [] c=if(aC c).a=0 then O else if 1<(aC c).a then J [c]else J []:=rfl
 rw[j];have m:=wide_le c;have a:1<(aC c).a->HeldOk [c]:=λy x t e=>by injection e with z e2;subst z;simpa using y
 have i:=A a;have g:=A d;clear l j a d;obtain⟨f,a⟩:∃f,aC c=f:=⟨_,rfl⟩;rw[a]at q i m⊢;clear a;obtain⟨n,B,hi⟩:=f;simp only at m i
 by_cases j:n=0
 .subst j;rw[if_pos rfl];go_enter dt,du;go_wp2_with fail;refine(q.o _).mono ?_;rintro e w1 ⟨rfl,d⟩;unfold formV;have a:=A (λo=>d.A6 d.size o);clear d;go_wp2;go_ret;exact⟨⟨rfl,g.o,v,a1,a2,a3,((a.o _).block b h).trans r.o,rfl⟩,Keeps.A0 _ (a.o _)⟩
 .rw[if_neg j]
  by_cases l:1<n
  .rw[if_pos l];have g1:(1:Int)<(n:Int):=by omega
   have L:((n:Int)==0)=K:=by simpa using j
   go_enter dt,du;go_wp2_with fail;refine(q.o _).mono ?_;rintro e w1 ⟨rfl,d⟩;unfold formV;have a:=d.A6 d.size (Y #[n,I W B,I W hi] 349);have s:=(a.block b h).trans r.o;obtain⟨-,P,-,-,-,Q,-,R⟩:=cells7 s;have C:=A s;have u:=A a;clear d s a;go_wp2;go_ret;exact⟨⟨rfl,i.o l,c,a1,a2,a3,aB (aB C.o _) _,rfl⟩,((Keeps.A0 (λk=>k=b) u.o).A3 (p:=⟨b,1,O⟩) (Z rfl) _).A3 (p:=⟨b,5,O⟩) (Z rfl) _⟩
  .rw[if_neg l];have s:n=1:=by omega
   subst s;go_enter dt,du;go_wp2_with fail;refine(q.o _).mono ?_;rintro e w1 ⟨rfl,d⟩;unfold formV;have a:=A (λo=>d.A6 d.size o);clear d;go_wp2;go_ret;exact⟨⟨rfl,g.o,v,a1,a2,a3,((a.o _).block b h).trans r.o,rfl⟩,Keeps.A0 _ (a.o _)⟩
def take1_any(w:U)(b pl:Nat)(c g:UInt8)(a4:Feeds w b pl [g]):E X 190 #[D b,I W c.toNat] w λe w'=>takeRet w b pl [g] (aO [g] c) e w'/\Keeps (λk=>k=b) w w':=by
 obtain⟨i,a0,a1,a2,a3,j,T⟩:=a4;have hl:1<(aC g).a:=i _ _ rfl;simp only[ei,eo,fe,fg,fh,fi,and_true]at j T;obtain rfl:=T;obtain⟨-,c1,-,-,-,c5,-,-⟩:=cells7 j;have H2:=A j;have s:=af j;have HF:=A (formOf_any g);have HM:M (∀w,E X 206 #[formV (aC g),I N (1:Int),I W c.toNat] w λe w'=>e=H (ac ((aC g).B9 1 c))/\Below w.heap.size w w'):=A λw=>may_any (aC g) 1 c w
 have L:=wide_le g;obtain⟨o,d⟩:∃o,aO [g] c=o:=⟨_,rfl⟩;rw[d];rw[show aO [g] c=if(aC g).B9 1 c then(if 1+1=(aC g).a then J []else J [g,c])else O from rfl]at d;have a:¬1+1=(aC g).a->HeldOk [g,c]:=λhh x t e=>by injection e with P e2;subst P;show 1+1<_;omega
 have h:=A a;have u:=A i;clear j a i;generalize aC g=f at*;obtain⟨n,v,hi⟩:=f;simp only at L h hl d;generalize (Form.mk n v hi).B9 1 c=m at*;unfold formV at HF HM;have j:=A d;clear d;go_enter dt,du;go_wp2_with fail;refine(HF.o _).mono ?_;rintro e w1 ⟨rfl,y⟩;have a:=y.A6 y.size (Y #[n,I W v,I W hi] 349);have z:=(a.block b s).trans H2.o;have q:=bw w1 (Y #[n,I W v,I W hi] 349);have i1:=af z;have i2:=af ((y.block b s).trans H2.o);obtain⟨d0,d1,Q,d3,d4,R,d6,F⟩:=cells7 z;obtain⟨S,q1,q2,qf⟩:=cells3 q;have r:=A z;have l:=A q;have i:=A a;clear y z q a;go_wp2_with fail;generalize w1.alloc (Y #[n,I W v,I W hi] 349)=w2 at*
 go_region_held3 (λw'=>w'.cell? w1=J (I N n)/\w'.cell? ⟨w1.heap.size,1,O⟩=J (I W v)/\w'.cell? ⟨w1.heap.size,2,O⟩=J (I W hi)/\w'.cell? ⟨b,5,O⟩=J (I N 1)) (first|exact⟨y,z,B,C⟩|go_keep)
  ((go_at_call 206;(with_reducible refine(HM.o _).mono ?_);rintro e G ⟨rfl,a⟩;have y:=(a.B3 (p:=w1) (by simpa using af l.o)).trans S;have z:=(a.B3 (p:=⟨w1.heap.size,1,O⟩) (by simpa using af l.o)).trans q1;have B:=(a.B3 (p:=⟨w1.heap.size,2,O⟩) (by simpa using af l.o)).trans q2;have C:=(a.B3 (p:=⟨b,5,O⟩) (by simpa using af r.o)).trans R))
 have r:=A (keep (w1:=w2.drew) r.o a);have l:=A (keep (w1:=w2.drew) l.o a);have i:=A (chain i.o.B0 a);clear a y z B C d0 d1 Q d3 d4 R d6 F S q1 q2 qf;cases m with
 | false=>
  obtain rfl:=j.o;go_wp2;go_ret;exact⟨⟨rfl,u.o,_,_,_,_,r.o,rfl⟩,Keeps.A0 _ i.o⟩
 | true=>
  obtain⟨-,-,Q,-,-,-,-,F⟩:=cells7 r.o;obtain⟨-,-,-,-⟩:=cells3 l.o;go_wp2;go_region;have B:(G.setCell ⟨b,2,O⟩ (I W c.toNat)).drew.heap[b]?=J (Y #[pl,I W g.toNat,I W c.toNat,I W a2.toNat,I W a3.toNat,I N 1,ac K] 305 (0,0)):=aB (o:=2) r.o _;have q:=(aE (w:=G) (o:=2) (k:=w1.heap.size) (b:=b) (I W c.toNat) (by omega)).trans l.o;have a:=(Keeps.A0 (λk=>k=b) i.o).A3 (p:=⟨b,2,O⟩) (Z rfl) (I W c.toNat);have y:=A a.B0;have z:=A B;have C:M ((G.setCell ⟨b,2,O⟩ (I W c.toNat)).drew.heap[w1.heap.size]?=_):=A q;clear Q F a B q;generalize (G.setCell ⟨b,2,O⟩ (I W c.toNat)).drew=q at*;obtain⟨-,-,-,-,-,R,-,F⟩:=cells7 z.o;obtain⟨S,-,-,-⟩:=cells3 C.o
  by_cases a:1+1=n
  .have d:=j.o;rw[if_pos trivial,if_pos a]at d;subst d;have e2:((2:Int)==(n:Int))=ah:=by simp;omega
   clear a hl;go_wp2;go_region;go_wp2;go_ret;exact⟨⟨rfl,(λa4 t e=>by cases e),_,_,_,_,aB (o:=5) (aB (o:=5) z.o _) _,rfl⟩,((y.o.A3 (p:=⟨b,5,O⟩) (Z rfl) _).B0.A3 (p:=⟨b,5,O⟩) (Z rfl) _)⟩
  .have d:=j.o;rw[if_pos trivial,if_neg a]at d;subst d;have P:¬(2:Int)=(n:Int):=by omega
   have e2:((2:Int)==(n:Int))=K:=by simpa using P
   have h:=A (h.o a);clear a;go_wp2;go_region;go_wp2;go_ret;exact⟨⟨rfl,h.o,_,_,_,_,aB (o:=5) z.o _,rfl⟩,(y.o.A3 (p:=⟨b,5,O⟩) (Z rfl) _).B0⟩
def take2_any(w:U)(b pl:Nat)(c g b1:UInt8)(a4:Feeds w b pl [g,b1]):E X 190 #[D b,I W c.toNat] w λe w'=>takeRet w b pl [g,b1] (aO [g,b1] c) e w'/\Keeps (λk=>k=b) w w':=by
 obtain⟨i,a0,a1,a2,a3,j,T⟩:=a4;have hl:2<(aC g).a:=i _ _ rfl;simp only[ei,eo,fe,fg,fh,fi,and_true]at j T;obtain⟨rfl,rfl⟩:=T;obtain⟨-,c1,-,-,-,c5,-,-⟩:=cells7 j;have H2:=A j;have s:=af j;have HF:=A (formOf_any g);have HM:M (∀w,E X 206 #[formV (aC g),I N (2:Int),I W c.toNat] w λe w'=>e=H (ac ((aC g).B9 2 c))/\Below w.heap.size w w'):=A λw=>may_any (aC g) 2 c w
 have L:=wide_le g;obtain⟨o,d⟩:∃o,aO [g,b1] c=o:=⟨_,rfl⟩;rw[d];rw[show aO [g,b1] c=if(aC g).B9 2 c then(if 2+1=(aC g).a then J []else J [g,b1,c])else O from rfl]at d;have a:¬2+1=(aC g).a->HeldOk [g,b1,c]:=λhh x t e=>by injection e with P e2;subst P;show 2+1<_;omega
 have h:=A a;have u:=A i;clear j a i;generalize aC g=f at*;obtain⟨n,v,hi⟩:=f;simp only at L h hl d;generalize (Form.mk n v hi).B9 2 c=m at*;unfold formV at HF HM;have j:=A d;clear d;go_enter dt,du;go_wp2_with fail;refine(HF.o _).mono ?_;rintro e w1 ⟨rfl,y⟩;have a:=y.A6 y.size (Y #[n,I W v,I W hi] 349);have z:=(a.block b s).trans H2.o;have q:=bw w1 (Y #[n,I W v,I W hi] 349);have i2:=af z;have i3:=af ((y.block b s).trans H2.o);obtain⟨d0,d1,d2,Q,d4,R,d6,F⟩:=cells7 z;obtain⟨S,q1,q2,qf⟩:=cells3 q;have r:=A z;have l:=A q;have i:=A a;clear y z q a;go_wp2_with fail;generalize w1.alloc (Y #[n,I W v,I W hi] 349)=w2 at*
 go_region_held3 (λw'=>w'.cell? w1=J (I N n)/\w'.cell? ⟨w1.heap.size,1,O⟩=J (I W v)/\w'.cell? ⟨w1.heap.size,2,O⟩=J (I W hi)/\w'.cell? ⟨b,5,O⟩=J (I N 2)) (first|exact⟨y,z,B,C⟩|go_keep)
  ((go_at_call 206;(with_reducible refine(HM.o _).mono ?_);rintro e G ⟨rfl,a⟩;have y:=(a.B3 (p:=w1) (by simpa using af l.o)).trans S;have z:=(a.B3 (p:=⟨w1.heap.size,1,O⟩) (by simpa using af l.o)).trans q1;have B:=(a.B3 (p:=⟨w1.heap.size,2,O⟩) (by simpa using af l.o)).trans q2;have C:=(a.B3 (p:=⟨b,5,O⟩) (by simpa using af r.o)).trans R))
 have r:=A (keep (w1:=w2.drew) r.o a);have l:=A (keep (w1:=w2.drew) l.o a);have i:=A (chain i.o.B0 a);clear a y z B C d0 d1 d2 Q d4 R d6 F S q1 q2 qf;cases m with
 | false=>
  obtain rfl:=j.o;go_wp2;go_ret;exact⟨⟨rfl,u.o,_,_,_,_,r.o,rfl⟩,Keeps.A0 _ i.o⟩
 | true=>
  obtain⟨-,-,-,Q,-,-,-,F⟩:=cells7 r.o;obtain⟨-,-,-,-⟩:=cells3 l.o;go_wp2;go_region;have B:(G.setCell ⟨b,3,O⟩ (I W c.toNat)).drew.heap[b]?=J (Y #[pl,I W g.toNat,I W b1.toNat,I W c.toNat,I W a3.toNat,I N 2,ac K] 305 (0,0)):=aB (o:=3) r.o _;have q:=(aE (w:=G) (o:=3) (k:=w1.heap.size) (b:=b) (I W c.toNat) (by omega)).trans l.o;have a:=(Keeps.A0 (λk=>k=b) i.o).A3 (p:=⟨b,3,O⟩) (Z rfl) (I W c.toNat);have y:=A a.B0;have z:=A B;have C:M ((G.setCell ⟨b,3,O⟩ (I W c.toNat)).drew.heap[w1.heap.size]?=_):=A q;clear Q F a B q;generalize (G.setCell ⟨b,3,O⟩ (I W c.toNat)).drew=q at*;obtain⟨-,-,-,-,-,R,-,F⟩:=cells7 z.o;obtain⟨S,-,-,-⟩:=cells3 C.o
  by_cases a:2+1=n
  .have d:=j.o;rw[if_pos trivial,if_pos a]at d;subst d;have e2:((3:Int)==(n:Int))=ah:=by simp;omega
   clear a hl;go_wp2;go_region;go_wp2;go_ret;exact⟨⟨rfl,(λa4 t e=>by cases e),_,_,_,_,aB (o:=5) (aB (o:=5) z.o _) _,rfl⟩,((y.o.A3 (p:=⟨b,5,O⟩) (Z rfl) _).B0.A3 (p:=⟨b,5,O⟩) (Z rfl) _)⟩
  .have d:=j.o;rw[if_pos trivial,if_neg a]at d;subst d;have P:¬(3:Int)=(n:Int):=by omega
   have e2:((3:Int)==(n:Int))=K:=by simpa using P
   have h:=A (h.o a);clear a;go_wp2;go_region;go_wp2;go_ret;exact⟨⟨rfl,h.o,_,_,_,_,aB (o:=5) z.o _,rfl⟩,(y.o.A3 (p:=⟨b,5,O⟩) (Z rfl) _).B0⟩
def take3_any(w:U)(b pl:Nat)(c d b1 b2:UInt8)(a4:Feeds w b pl [d,b1,b2]):E X 190 #[D b,I W c.toNat] w λe w'=>takeRet w b pl [d,b1,b2] (aO [d,b1,b2] c) e w'/\Keeps (λk=>k=b) w w':=by
 obtain⟨h,a0,a1,a2,a3,i,S⟩:=a4;have T:3<(aC d).a:=h _ _ rfl;simp only[ei,eo,fe,fg,fh,fi,and_true]at i S;obtain⟨rfl,rfl,rfl⟩:=S;obtain⟨-,c1,-,-,-,c5,-,-⟩:=cells7 i;have H2:=A i;have q:=af i;have HF:=A (formOf_any d);have HM:M (∀w,E X 206 #[formV (aC d),I N (3:Int),I W c.toNat] w λe w'=>e=H (ac ((aC d).B9 3 c))/\Below w.heap.size w w'):=A λw=>may_any (aC d) 3 c w
 have G:=wide_le d;obtain⟨o,g⟩:∃o,aO [d,b1,b2] c=o:=⟨_,rfl⟩;rw[g];rw[show aO [d,b1,b2] c=if(aC d).B9 3 c then(if 3+1=(aC d).a then J []else J [d,b1,b2,c])else O from rfl]at g;have a:¬3+1=(aC d).a->HeldOk [d,b1,b2,c]:=λhh x t e=>by injection e with e1 e2;subst e1;show 3+1<_;omega
 have L:=A a;have r:=A h;clear i a h;generalize aC d=f at*;obtain⟨n,s,hi⟩:=f;simp only at G L T g;generalize (Form.mk n s hi).B9 3 c=m at*;unfold formV at HF HM;have u:=A g;clear g;go_enter dt,du;go_wp2_with fail;refine(HF.o _).mono ?_;rintro e w1 ⟨rfl,v⟩;have a:=v.A6 v.size (Y #[n,I W s,I W hi] 349);have y:=(a.block b q).trans H2.o;have j:=bw w1 (Y #[n,I W s,I W hi] 349);have i3:=af y;have i4:=af ((v.block b q).trans H2.o);obtain⟨d0,d1,d2,d3,P,Q,d6,C⟩:=cells7 y;obtain⟨R,q1,q2,qf⟩:=cells3 j;have l:=A y;have i:=A j;have h:=A a;clear v y j a;go_wp2_with fail;generalize w1.alloc (Y #[n,I W s,I W hi] 349)=w2 at*
 go_region_held3 (λw'=>w'.cell? w1=J (I N n)/\w'.cell? ⟨w1.heap.size,1,O⟩=J (I W s)/\w'.cell? ⟨w1.heap.size,2,O⟩=J (I W hi)/\w'.cell? ⟨b,5,O⟩=J (I N 3)) (first|exact⟨v,y,z,B⟩|go_keep)
  ((go_at_call 206;(with_reducible refine(HM.o _).mono ?_);rintro e F ⟨rfl,a⟩;have v:=(a.B3 (p:=w1) (by simpa using af i.o)).trans R;have y:=(a.B3 (p:=⟨w1.heap.size,1,O⟩) (by simpa using af i.o)).trans q1;have z:=(a.B3 (p:=⟨w1.heap.size,2,O⟩) (by simpa using af i.o)).trans q2;have B:=(a.B3 (p:=⟨b,5,O⟩) (by simpa using af l.o)).trans Q))
 have l:=A (keep (w1:=w2.drew) l.o a);have i:=A (keep (w1:=w2.drew) i.o a);have h:=A (chain h.o.B0 a);clear a v y z B d0 d1 d2 d3 P Q d6 C R q1 q2 qf;cases m with
 | false=>
  obtain rfl:=u.o;go_wp2;go_ret;exact⟨⟨rfl,r.o,_,_,_,_,l.o,rfl⟩,Keeps.A0 _ h.o⟩
 | true=>
  obtain⟨-,-,-,-,P,-,-,C⟩:=cells7 l.o;obtain⟨-,-,-,-⟩:=cells3 i.o;go_wp2;go_region;have y:(F.setCell ⟨b,4,O⟩ (I W c.toNat)).drew.heap[b]?=J (Y #[pl,I W d.toNat,I W b1.toNat,I W b2.toNat,I W c.toNat,I N 3,ac K] 305 (0,0)):=aB (o:=4) l.o _;have j:=(aE (w:=F) (o:=4) (k:=w1.heap.size) (b:=b) (I W c.toNat) (by omega)).trans i.o;have a:=(Keeps.A0 (λk=>k=b) h.o).A3 (p:=⟨b,4,O⟩) (Z rfl) (I W c.toNat);have v:=A a.B0;have z:=A y;have B:M ((F.setCell ⟨b,4,O⟩ (I W c.toNat)).drew.heap[w1.heap.size]?=_):=A j;clear P C a y j;generalize (F.setCell ⟨b,4,O⟩ (I W c.toNat)).drew=j at*;obtain⟨-,-,-,-,-,Q,-,C⟩:=cells7 z.o;obtain⟨R,-,-,-⟩:=cells3 B.o
  by_cases a:3+1=n
  .have g:=u.o;rw[if_pos trivial,if_pos a]at g;subst g;have e2:((4:Int)==(n:Int))=ah:=by simp;omega
   clear a T;go_wp2;go_region;go_wp2;go_ret;exact⟨⟨rfl,(λa4 t e=>by cases e),_,_,_,_,aB (o:=5) (aB (o:=5) z.o _) _,rfl⟩,((v.o.A3 (p:=⟨b,5,O⟩) (Z rfl) _).B0.A3 (p:=⟨b,5,O⟩) (Z rfl) _)⟩
  .exfalso;omega
def take_any(w:U)(b pl:Nat)(c:UInt8)(held:Oo)(h:Feeds w b pl held):E X 190 #[D b,I W c.toNat] w λe w'=>takeRet w b pl held (aO held c) e w'/\Keeps (λk=>k=b) w w':=by
 have d:=h.1.le
 match held,h,d with
 | [],h,_=>exact take0_any w b pl c h
 | [a],h,_=>exact take1_any w b pl c a h
 | [a,b1],h,_=>exact take2_any w b pl c a b1 h
 | [a,b1,b2],h,_=>exact take3_any w b pl c a b1 b2 h
 | _::_::_::_::_,_,d=>simp at d
def FeedsBad(w:U)(b pl:Nat):Prop:=∃a a1 a2 a3:UInt8,w.heap[b]?=J (Y #[pl,I W a.toNat,I W a1.toNat,I W a2.toNat,I W a3.toNat,I N 0,ac ah] 305 (0,0))
def fault_good(w:U)(b pl:Nat)(held:Oo)(h:Feeds w b pl held):E X 191 #[D b] w λe w'=>e=H bm/\w'=w:=by
 obtain⟨_,c,a1,a2,a3,a,-⟩:=h;obtain⟨-,-,-,-,-,-,d,-⟩:=cells7 a;clear a;go_enter func191,ntmps191;go_wp2;go_ret;exact⟨rfl,rfl⟩
def fault_bad(w:U)(b pl:Nat)(h:FeedsBad w b pl):E X 191 #[D b] w λe w'=>e=H (ag 151 (ae #[I N 30,pl]))/\w'=w:=by
 obtain⟨c,a1,a2,a3,a⟩:=h;obtain⟨d,-,-,-,-,-,f,-⟩:=cells7 a;clear a;go_enter func191,ntmps191;go_wp2;go_ret;exact⟨rfl,rfl⟩
def feedAll_none(l:Oo):l.foldl (λa c=>a.bind λh=>aO h c) (O:Option Oo)=O:=by
 induction l with
 | nil=>rfl
 | cons x l b=>exact b
def feedAll_take{held l:Oo}{k:Nat}(h:k<l.length):aX held (l.take (k+1))=(aX held (l.take k)).bind λh=>aO h l[k]:=by
 unfold aX;rw[gy,dv h,fj];rfl
def feedAll_stop{held l:Oo}{k:Nat}(h:aX held (l.take k)=O):aX held l=O:=by
 unfold aX at*
 conv=>lhs;rw[<-List.take_append_drop k l,fj,h]
 exact feedAll_none _
def BytesAt(w:U)(b:Nat)(a:Option bj)(l:List UInt8):Prop:=l= []\/∃g off,a=J ⟨g,off,O⟩/\g≠b/\g<w.heap.size/\∀i x,l[i]?=J x->w.cell? ⟨g,off+i,O⟩=J (I W ((x.toNat:Nat):Int))
def feedRet(w':U)(b pl n:Nat)(o:Option (List UInt8))(e:dj):Prop:=match o with
 | some h=>e=H bm/\Feeds w' b (pl+n) h
 | none=>∃p,e=H (ag 151 (ae #[I N 30,I N (p:Nat)]))/\FeedsBad w' b p
def feedInv(a:U)(b pl:Nat)(held l:List UInt8)(k:Nat)(w:U):Prop:=Keeps (λk=>k=b) a w/\((∃h,aX held (l.take k)=J h/\Feeds w b (pl+k) h)\/(aX held l=O/\∃p,FeedsBad w b p))
def feed_any(w:U)(b pl:Nat)(held l:Oo)(a:Option bj)(cap:Nat)(y:Feeds w b pl held)(c:BytesAt w b a l)(hl:l.length<=1073741824)(h6:pl<=1073741824):
 E X 169 #[D b,ak a l.length cap] w λe w'=>feedRet w' b pl l.length (aX held l) e/\Keeps (λk=>k=b) w w':=by
 have HB:=A c;have a4:=A y;clear y c;go_enter func169,ntmps169;go_wp2
 go_loopw [5] (λi wr=>∃k:Nat,k<=l.length/\i=I N k/\M (feedInv w b pl held l k wr)) (λi _=>l.length-(intOf i).toNat)
 case atStart=>exact⟨0,by omega,rfl,A ⟨Keeps.A8 _ _,Z ⟨held,rfl,a4.o⟩⟩⟩
 case round=>
  obtain⟨k,hk,rfl,c⟩:=hrel;obtain⟨d,z⟩:=c.o;clear c;have f:=A d;clear d;rcases z with⟨y,c,t⟩|⟨h,p,o⟩
  .have HF:=A c;have q:=A t;clear c;obtain⟨_,a0,a1,a2,a3,d,-⟩:=t;obtain⟨B,c1,c2,C,F,G,L,P⟩:=cells7 d;clear d
   by_cases r:k<l.length
   .rcases HB.o with hn|⟨g,off,rfl,Q,-,c⟩
    .subst hn;simp at r
    .have hc:wr.cell? ⟨g,off+k,O⟩=J (I W ((l[k].toNat:Nat):Int)):=f.o.B3 (c k l[k] (dv r)) Q;clear c;go_wp2_with fail;refine(take_any wr b (pl+k) l[k] y q.o).mono ?_;have c:=feedAll_take (held:=held) r;rw[HF.o]at c;rintro e w2 ⟨x,m⟩;have c:aX held (l.take (k+1))=aO y l[k]:=c;cases n:aO y l[k]with
     | none=>
      rw[n]at x c;obtain⟨rfl,j⟩:=x;have u:=A (feedAll_stop c);have s:=A (f.o.same m);obtain⟨_,R,S,T,x3,d,-⟩:=j;obtain⟨-,-,-,-,-,v,d6,df⟩:=cells7 d;have H2:=A d;clear d c n m B c1 c2 C F G L P hc;go_wp2
      go_roundw
      case rel=>exact⟨k+1,by omega,by go_num,A ⟨(s.o.A3 (p:=⟨b,6,O⟩) (Z rfl) _).A3 (p:=⟨b,5,O⟩) (Z rfl) _,ar ⟨u.o,_,R,S,T,x3,aB (aB H2.o _) _⟩⟩⟩
      case measure=>simp[intOf];omega
     | some h'=>
      rw[n]at x c;obtain⟨rfl,j⟩:=x;have u:=A c;have s:=A (f.o.same m);obtain⟨v,R,S,T,x3,d,h9⟩:=j;obtain⟨d0,-,-,-,-,-,-,df⟩:=cells7 d;have H2:=A d;have H9:=A h9;have h5:=A v;clear d h9 c n m B c1 c2 C F G L P hc v;go_wp2
      go_roundw
      case rel=>exact⟨k+1,by omega,by go_num,A ⟨s.o.A3 (p:=b) (Z rfl) _,Z ⟨h',u.o,h5.o,R,S,T,x3,aB H2.o _,H9.o⟩⟩⟩
      case measure=>simp[intOf];omega
   .have c:k=l.length:=by omega
    subst c;have j:=A (show aX held l=J y by have:=HF.o;rwa[List.take_length]at this);go_wp2_with fail;refine(fault_good _ b _ y q.o).mono ?_;rintro e w2 ⟨rfl,rfl⟩;go_wp2;go_ret;exact⟨by rw[j.o];exact⟨rfl,q.o⟩,f.o⟩
  .have u:=A h;have c:=A o;clear h;obtain⟨a0,a1,a2,a3,d⟩:=o;obtain⟨B,c1,c2,C,F,G,L,P⟩:=cells7 d;clear d;go_wp2_with fail
   all_goals
    refine(fault_bad _ b p c.o).mono ?_;rintro e w2 ⟨rfl,rfl⟩;go_wp2;go_ret;exact⟨by rw[u.o];exact⟨p,rfl,c.o⟩,f.o⟩
def errIf(a:Bool)(e:dj):Prop:=match a with
 | true=>e=H bm
 | false=>∃T v,e=H (ag T v)
def end_good(w:U)(b pl:Nat)(held:Oo)(h:Feeds w b pl held):E X 258 #[D b] w λe w'=>errIf (held== []) e/\w'=w:=by
 have g:=A (fault_good w b pl held h);obtain⟨_,m,a1,a2,a3,c,-⟩:=h;obtain⟨j,c1,c2,k,p,i,o,l⟩:=cells7 c;clear c;cases held with
 | nil=>
  go_enter fk,fm;go_wp2_with fail;refine(g.o).mono ?_;rintro e w1 ⟨rfl,rfl⟩;go_wp2;go_ret;exact⟨rfl,rfl⟩
 | cons x t=>
  have a:(0:Int)<((x::t).length:Int):=by simp
  obtain⟨n,f⟩:∃n,(x::t).length=n:=⟨_,rfl⟩;have d:((x::t)== [])=K:=rfl;rw[d];clear d;rw[f]at a i;clear f;go_enter fk,fm;go_wp2;go_ret;exact⟨⟨_,_,rfl⟩,rfl⟩
def end_bad(w:U)(b pl:Nat)(h:FeedsBad w b pl):E X 258 #[D b] w λe w'=>errIf K e/\w'=w:=by
 have c:=A (fault_bad w b pl h);obtain⟨i,a1,a2,a3,a⟩:=h;obtain⟨l,c1,c2,d,k,g,j,f⟩:=cells7 a;clear a;go_enter fk,fm;go_wp2_with fail;refine(c.o).mono ?_;rintro e w1 ⟨rfl,rfl⟩;go_wp2;go_ret;exact⟨⟨_,_,rfl⟩,rfl⟩
def BytesAt.A4{w w':U}{b d:Nat}{a:Option bj}{l:Oo}(h:BytesAt w b a l)(e:Below w w w')(f:w.heap.size<=d):BytesAt w' d a l:=by
 rcases h with h|⟨g,off,j,_,c,k⟩
 .exact Z h
 .exact ar ⟨g,off,j,by omega,dq c e.size,λi x m=>(e.B3 (p:=⟨g,off+i,O⟩) c).trans (k i x m)⟩
def check_any(w:U)(B:Nat)(l:Oo)(a:Option bj)(cap:Nat)(u:BytesAt w B a l)(G:l.length<=1073741824):E X 237 #[ak a l.length cap] w λe w'=>errIf (aV l) e/\Below w w w':=by
 have C:=A u;clear u;go_enter func237,ntmps237;go_wp2_with fail;refine(newFeeder_any _).mono ?_;rintro e w1 ⟨rfl,c,j,F⟩;have s:=A c;have m:=A j;clear c j;go_wp2_with fail;refine(feed_any w1 w.heap.size 0 [] l a cap s.o (C.o.A4 m.o (ai _)) G (by omega)).mono ?_;rintro e w2 ⟨q,x⟩;have f:=A (m.o.trans (x.C6 (n:=w.heap.size) (by omega) (λk e=>by subst e;exact ai _)));clear x;cases g:aX [] l with
 | none=>
  rw[g]at q;obtain⟨p,rfl,o⟩:=q;have b:aV l=K:=by unfold aV;rw[g];rfl
  have d:=A b;clear b g;go_wp2_with fail;refine(end_bad _ _ p o).mono ?_;rintro e y ⟨⟨T,v,rfl⟩,rfl⟩;go_wp2;go_ret;exact⟨by rw[d.o];exact⟨_,_,rfl⟩,f.o⟩
 | some h=>
  rw[g]at q;obtain⟨rfl,c⟩:=q;have b:aV l=(h== []):=by unfold aV;rw[g];cases h<;>rfl
  have d:=A b;clear b g;have z:=A c;clear c;go_wp2_with fail;refine(end_good _ _ _ h z.o).mono ?_;rintro e y ⟨r,rfl⟩;cases i:(h== [])with
  | true=>
   rw[i]at r;obtain rfl:=r;have t:=A i;clear i;go_wp2;go_ret;exact⟨by rw[d.o,t.o];rfl,f.o⟩
  | false=>
   rw[i]at r;obtain⟨T,v,rfl⟩:=r;have t:=A i;clear i;go_wp2;go_ret;exact⟨by rw[d.o,t.o];exact⟨_,_,rfl⟩,f.o⟩
def cell_any{w:U}{b o:Nat}{c:Array V}{T:bu}{a:Nat×Nat}(h:w.heap[b]?=J (Y c T a)):w.cell? ⟨b,o,O⟩=c[o]?:=by simp[gz,h]
def right_any(s:ByteArray)(w:U)(r:s.size<=1073741824):E X 218 #[s] w λe w'=>e=H (ac (aV s.data.toList))/\Below w w w':=by
 have b:=run_bytes_of_string (P:=X) w 9 22 5 s ep et eu;go_enter func218,ntmps218;go_wp2_with fail;have g:s.data.toList.length=s.size:=fq;have a:Below w w (w.alloc (Y (cv s (co w s.size 0 5)) 5 ((cv s (co w s.size 0 5)).size,(cv s (co w s.size 0 5)).size+1))).drew:=((Below.A8 _ _).A6 (ai _) _).B0
 have f:BytesAt (w.alloc (Y (cv s (co w s.size 0 5)) 5 ((cv s (co w s.size 0 5)).size,(cv s (co w s.size 0 5)).size+1))).drew (w.heap.size+1) (J ⟨w.heap.size,0,O⟩) s.data.toList:=by
  refine ar ⟨w.heap.size,0,rfl,by omega,by show _<(w.alloc _).heap.size;simp,λi x o=>?_⟩;have d:i<s.data.size:=by have:=(ib.1 o).1;simpa using this
  have n:s.data[i]=x:=by
   rw[dv (by simpa using d)]at o
   simpa using o
  show(w.alloc _).cell? ⟨w.heap.size,0+i,O⟩=_
  have q:=bw w (Y (cv s (co w s.size 0 5)) 5 ((cv s (co w s.size 0 5)).size,(cv s (co w s.size 0 5)).size+1));rw[cell_any q,ie,bytesRow_at s _ i d,n]
 have l:=check_any _ _ s.data.toList _ (co w s.size 0 5) f (by omega);rw[g]at l;have p:=A a;clear f a g b;refine l.mono ?_;rintro e w2 ⟨k,j⟩;have h:=A (chain p.o j);clear j l;cases c:aV s.data.toList with
 | true=>
  rw[c]at k;obtain rfl:=k;have m:=A c;clear c;go_wp2;go_ret;exact⟨by rw[m.o];rfl,h.o⟩
 | false=>
  rw[c]at k;obtain⟨T,v,rfl⟩:=k;have m:=A c;clear c;go_wp2;go_ret;exact⟨by rw[m.o];rfl,h.o⟩
end Go.Proofs.YtakkmiomhackiaaGreatDoor.Dr
namespace Go.Proofs.YtakkmiomhackiaaGreatDoor
open Go.RowKit
def aZ(x:UInt8):Nat:=if x.toNat<238 then x.toNat else if x.toNat<240 then x.toNat+16 else x.toNat-2
def aG8{x y:UInt8}(h:aZ x=aZ y):x=y:=by
 have b:=x.toNat_lt;have a:=y.toNat_lt;unfold aZ at h;apply ft;split at h<;>split at h<;>(try split at h)<;>(try split at h)<;>omega
def eE:List UInt8->List UInt8->Int
 | [],[]=>0
 | [],_::_=> -1
 | _::_,[]=>1
 | x::a,y::b=>if x=y then eE a b else if aZ x<aZ y then -1 else 1
def kY:∀x y:Oo,eE x y= -1\/eE x y=0\/eE x y=1
 | [],[]=>ar (Z rfl)
 | [],_::_=>Z rfl
 | _::_,[]=>ar (ar rfl)
 | x::c,y::b=>by
  unfold eE
  by_cases h:x=y
  .rw[if_pos h];exact kY c b
  .rw[if_neg h]
   by_cases a:aZ x<aZ y
   .rw[if_pos a];exact Z rfl
   .rw[if_neg a];exact ar (ar rfl)
def aAF:∀x:Oo,eE x x=0
 | []=>rfl
 | x::a=>by unfold eE;rw[if_pos rfl];exact aAF a
def rN:∀{x y:Oo},eE x y=0->x=y
 | [],[],_=>rfl
 | [],_::_,h=>by simp[eE]at h
 | _::_,[],h=>by simp[eE]at h
 | x::c,y::b,h=>by
  unfold eE at h
  by_cases e:x=y
  .rw[if_pos e]at h;rw[e,rN h]
  .rw[if_neg e]at h
   by_cases a:aZ x<aZ y
   .rw[if_pos a]at h;cases h
   .rw[if_neg a]at h;cases h
def kR:∀x y:Oo,eE x y= -eE y x
 | [],[]=>rfl
 | [],_::_=>rfl
 | _::_,[]=>rfl
 | x::d,y::b=>by
  unfold eE
  by_cases e:x=y
  .rw[if_pos e,if_pos e.symm];exact kR d b
  .have f:¬y=x:=λh=>e h.symm
   rw[if_neg e,if_neg f];have c:aZ x≠aZ y:=λh=>e (aG8 h)
   by_cases a:aZ x<aZ y
   .rw[if_pos a,if_neg (by omega)]
   .rw[if_neg a,if_pos (by omega)];decide
def mQ:∀{x y z:Oo},eE x y<0->eE y z<0->eE x z<0
 | [],[],_,h,_=>by simp[eE]at h
 | [],_::_,[],_,h=>by simp[eE]at h
 | [],_::_,_::_,_,_=>by simp[eE]
 | _::_,[],_,h,_=>by simp[eE]at h
 | _::_,_::_,[],_,h=>by simp[eE]at h
 | x::k,y::i,z::l,b,a=>by
  unfold eE at b a⊢
  by_cases d:x=y
  .subst d;rw[if_pos rfl]at b
   by_cases c:x=z
   .rw[if_pos c]at a⊢;exact mQ b a
   .rw[if_neg c]at a⊢;exact a
  .rw[if_neg d]at b
   have g:aZ x<aZ y:=by
    by_cases h:aZ x<aZ y
    .exact h
    .rw[if_neg h]at b;omega
   by_cases c:y=z
   .subst c;rw[if_neg d,if_pos g];decide
   .rw[if_neg c]at a
    have j:aZ y<aZ z:=by
     by_cases h:aZ y<aZ z
     .exact h
     .rw[if_neg h]at a;omega
    have f:x≠z:=λe=>by subst e;omega
    rw[if_neg f,if_pos (by omega)];decide
def aEw{x y:Oo}(b:¬eE x y<0)(a:¬eE y x<0):x=y:=by
 rcases kY x y with h|h|h
 .omega
 .exact rN h
 .have:=kR x y;omega
abbrev zX:={l:List UInt8 //aV l=ah/\l.length<=2097152}
instance :Inhabited zX:=⟨⟨[],by decide⟩⟩
def aCD(x:UInt8)(w:U):E X 263 #[I W x.toNat] w λe w'=>e=H (ac (decide (240<=x.toNat)))/\w'=w:=by
 obtain⟨n,b⟩:∃n,x.toNat=n:=⟨_,rfl⟩;rw[b]
 by_cases h:240<=n
 .have a:(240:Int)<=(n:Int):=by omega
  rw[decide_eq_true h];go_enter func263,ntmps263;go_wp2;go_ret;exact⟨rfl,rfl⟩
 .have a:¬(240:Int)<=(n:Int):=by omega
  rw[decide_eq_false h];go_enter func263,ntmps263;go_wp2;go_ret;exact⟨rfl,rfl⟩
def aCE(x y:Int):Int:=if x<y then -1 else if y<x then 1 else 0
def wT(x y:Int)(w:U):E X 262 #[x,y] w λe w'=>e=H (I N (aCE x y))/\w'=w:=by
 unfold aCE
 by_cases h:x<y
 .rw[if_pos h];go_enter fu,fv;go_wp2;go_ret;exact⟨rfl,rfl⟩
 .rw[if_neg h]
  by_cases a:y<x
  .rw[if_pos a];go_enter fu,fv;go_wp2;go_ret;exact⟨rfl,rfl⟩
  .rw[if_neg a];go_enter fu,fv;go_wp2;go_ret;exact⟨rfl,rfl⟩
def iI(x y:Int)(w:U):E X 264 #[I W x,I W y] w λe w'=>e=H (I N (aCE x y))/\w'=w:=by
 unfold aCE
 by_cases h:x<y
 .rw[if_pos h];go_enter fw,fz;go_wp2;go_ret;exact⟨rfl,rfl⟩
 .rw[if_neg h]
  by_cases a:y<x
  .rw[if_pos a];go_enter fw,fz;go_wp2;go_ret;exact⟨rfl,rfl⟩
  .rw[if_neg a];go_enter fw,fz;go_wp2;go_ret;exact⟨rfl,rfl⟩
def uX{s t:ByteArray}{k:Nat}(b:k<s.size)(a:k<t.size):eE (s.data.toList.drop k) (t.data.toList.drop k)=if s[k]=t[k]then eE (s.data.toList.drop (k+1)) (t.data.toList.drop (k+1))else if aZ s[k]<aZ t[k]then -1 else 1:=by
 rw[drop_at b,drop_at a];rfl
def wY{s t:ByteArray}{k:Nat}(f:k<=s.size)(e:k<=t.size)(h:k=s.size\/k=t.size):eE (s.data.toList.drop k) (t.data.toList.drop k)=aCE s.size t.size:=by
 have c:(s.data.toList.drop k).length=s.size-k:=by rw[ig,fq];rfl
 have a:(t.data.toList.drop k).length=t.size-k:=by rw[ig,fq];rfl
 unfold aCE;cases d:s.data.toList.drop k with
 | nil=>
  rw[d]at c;simp at c;cases b:t.data.toList.drop k with
  | nil=>
   rw[b]at a;simp at a;rw[if_neg (by omega),if_neg (by omega)];rfl
  | cons y g=>
   rw[b]at a;simp at a;rw[if_pos (by omega)];rfl
 | cons x i=>
  rw[d]at c;simp at c;cases b:t.data.toList.drop k with
  | nil=>
   rw[b]at a;simp at a;rw[if_neg (by omega),if_pos (by omega)];rfl
  | cons y g=>
   rw[b]at a;simp at a;omega
def aHd{x y:UInt8}(a:x≠y):(if aZ x<aZ y then(-1:Int)else 1)=if 240<=x.toNat/\¬240<=y.toNat/\238<=y.toNat then -1 else if 240<=y.toNat/\¬240<=x.toNat/\238<=x.toNat then 1 else aCE x.toNat y.toNat:=by
 have d:x.toNat≠y.toNat:=λh=>a (ft h)
 have c:=x.toNat_lt;have b:=y.toNat_lt;unfold aZ aCE
 repeat' split
 all_goals(first|rfl|omega)
def aCG(s t:ByteArray)(c:aV s.data.toList=ah)(d:aV t.data.toList=ah)(y:s.size<=2097152)(z:t.size<=2097152)(w:U):
 E X 240 #[s,t] w λe w'=>e=H (I N (eE s.data.toList t.data.toList))/\Dr.Below w w w':=by
 have q:=A (λw=>Dr.right_any s w (by omega));have r:=A (λw=>Dr.right_any t w (by omega));rw[c]at q;rw[d]at r;clear c d;obtain⟨S,c⟩:∃S,eE s.data.toList t.data.toList=S:=⟨_,rfl⟩;rw[c];have d:=A c;clear c;go_enter func240,ntmps240;go_wp2_with fail;refine(q.o _).mono ?_;rintro e w1 ⟨rfl,c⟩;have f:=A c;clear c;go_wp2_with fail;refine(r.o _).mono ?_;rintro e w2 ⟨rfl,i⟩;have g:=A (Dr.chain f.o i);clear i;go_wp2
 go_loopw [7] (λv wr=>∃k:Nat,k<=s.size/\k<=t.size/\v=I N k/\M (S=eE (s.data.toList.drop k) (t.data.toList.drop k)/\Dr.Below w w wr)) (λv _=>s.size-(intOf v).toNat)
 case atStart=>exact⟨0,by omega,by omega,by go_num,A ⟨by rw[ii,ii];exact d.o.symm,g.o⟩⟩
 case round=>
  obtain⟨k,l,m,rfl,c⟩:=hrel;clear d g f
  by_cases u:k<s.size
  .by_cases x:k<t.size
   .by_cases d:s[k]=t[k]
    .have f:((s[k].toNat:Nat):Int)=((t[k].toNat:Nat):Int):=by rw[d]
     have g:=A d;clear d;go_wp2;go_region
     all_goals go_wp2_with fail
     all_goals refine⟨⟨k+1,by omega,by omega,by go_num,A ⟨c.o.1.trans (by rw[uX u x,if_pos g.o]),c.o.2.B0⟩⟩,by simp[intOf];omega⟩
    .have j:s[k].toNat≠t[k].toNat:=λR=>d (ft R)
     have f:=A (c.o.1.trans (by rw[uX u x,if_neg d,aHd d]));have h:=A (aCD s[k]);have g:=A (aCD t[k]);have B:¬(k:Int)=(s.size:Int):=by omega
     have C:¬(k:Int)=(t.size:Int):=by omega
     have F:((k:Int)==(s.size:Int))=K:=by simpa using B
     have G:((k:Int)==(t.size:Int))=K:=by simpa using C
     obtain⟨a,n⟩:∃a,s[k].toNat=a:=⟨_,rfl⟩;obtain⟨b,o⟩:∃b,t[k].toNat=b:=⟨_,rfl⟩;have p:¬((s[k].toNat:Nat):Int)=((t[k].toNat:Nat):Int):=by omega
     have L:(((s[k].toNat:Nat):Int)==((t[k].toNat:Nat):Int))=K:=by simpa using p
     have P:((s[k].toNat:Nat):Int)=(a:Int):=by rw[n]
     have i:((t[k].toNat:Nat):Int)=(b:Int):=by rw[o]
     rw[n]at f h;rw[o]at f g;clear d n o j
     by_cases o:240<=a
     .rw[decide_eq_true o]at h
      by_cases n:240<=b
      .rw[decide_eq_true n]at g;go_wp2;go_region
       all_goals go_wp2_with fail
       all_goals go_region
       all_goals go_wp2_with (first|(go_at_call 263;(first|refine(h.o _).mono ?_|refine(g.o _).mono ?_);rintro e d ⟨rfl,rfl⟩)|(go_at_call 264;refine(iI _ _ _).mono ?_;rintro e d ⟨rfl,rfl⟩))
       all_goals go_ret
       all_goals exact⟨by rw[f.o];rw[if_neg (by omega),if_neg (by omega)];rfl,c.o.2.B0.B0⟩
      .rw[decide_eq_false n]at g
       by_cases Q:238<=b
       .have j:(238:Int)<=(b:Int):=by omega
        go_wp2;go_region
        all_goals go_wp2_with fail
        all_goals go_region
        all_goals go_wp2_with (first|(go_at_call 263;(first|refine(h.o _).mono ?_|refine(g.o _).mono ?_);rintro e d ⟨rfl,rfl⟩)|(go_at_call 264;refine(iI _ _ _).mono ?_;rintro e d ⟨rfl,rfl⟩))
        all_goals go_ret
        all_goals exact⟨by rw[f.o];rw[if_pos (by omega)];rfl,c.o.2.B0.B0⟩
       .have j:¬(238:Int)<=(b:Int):=by omega
        go_wp2;go_region
        all_goals go_wp2_with fail
        all_goals go_region
        all_goals go_wp2_with (first|(go_at_call 263;(first|refine(h.o _).mono ?_|refine(g.o _).mono ?_);rintro e d ⟨rfl,rfl⟩)|(go_at_call 264;refine(iI _ _ _).mono ?_;rintro e d ⟨rfl,rfl⟩))
        all_goals go_ret
        all_goals exact⟨by rw[f.o];rw[if_neg (by omega),if_neg (by omega)];rfl,c.o.2.B0.B0⟩
     .rw[decide_eq_false o]at h
      by_cases n:240<=b
      .rw[decide_eq_true n]at g
       by_cases Q:238<=a
       .have j:(238:Int)<=(a:Int):=by omega
        go_wp2;go_region
        all_goals go_wp2_with fail
        all_goals go_region
        all_goals go_wp2_with (first|(go_at_call 263;(first|refine(h.o _).mono ?_|refine(g.o _).mono ?_);rintro e d ⟨rfl,rfl⟩)|(go_at_call 264;refine(iI _ _ _).mono ?_;rintro e d ⟨rfl,rfl⟩))
        all_goals go_ret
        all_goals exact⟨by rw[f.o];rw[if_neg (by omega),if_pos (by omega)];rfl,c.o.2.B0.B0⟩
       .have j:¬(238:Int)<=(a:Int):=by omega
        go_wp2;go_region
        all_goals go_wp2_with fail
        all_goals go_region
        all_goals go_wp2_with (first|(go_at_call 263;(first|refine(h.o _).mono ?_|refine(g.o _).mono ?_);rintro e d ⟨rfl,rfl⟩)|(go_at_call 264;refine(iI _ _ _).mono ?_;rintro e d ⟨rfl,rfl⟩))
        all_goals go_ret
        all_goals exact⟨by rw[f.o];rw[if_neg (by omega),if_neg (by omega)];rfl,c.o.2.B0.B0⟩
      .rw[decide_eq_false n]at g;go_wp2;go_region
       all_goals go_wp2_with fail
       all_goals go_region
       all_goals go_wp2_with (first|(go_at_call 263;(first|refine(h.o _).mono ?_|refine(g.o _).mono ?_);rintro e d ⟨rfl,rfl⟩)|(go_at_call 264;refine(iI _ _ _).mono ?_;rintro e d ⟨rfl,rfl⟩))
       all_goals go_ret
       all_goals exact⟨by rw[f.o];rw[if_neg (by omega),if_neg (by omega)];rfl,c.o.2.B0.B0⟩
   .have g:k=t.size:=by omega
    have f:=A (c.o.1.trans (wY l m (ar g)))
    have h:¬(t.size:Int)=(s.size:Int):=by omega
    have j:((t.size:Int)==(s.size:Int))=K:=by simpa using h
    have n:(t.size:Int)<(s.size:Int):=by omega
    subst g;go_wp2;go_region
    all_goals go_wp2_with fail
    all_goals refine(wT _ _ _).mono ?_
    all_goals rintro e d ⟨rfl,rfl⟩
    all_goals go_wp2_with fail
    all_goals go_ret
    all_goals exact⟨by rw[f.o];rfl,c.o.2.B0⟩
  .have g:k=s.size:=by omega
   have f:=A (c.o.1.trans (wY l m (Z g)))
   go_wp2;go_region
   all_goals go_wp2_with fail
   all_goals refine(wT _ _ _).mono ?_
   all_goals rintro e d ⟨rfl,rfl⟩
   all_goals go_wp2_with fail
   all_goals go_ret
   all_goals exact⟨by rw[f.o];rfl,c.o.2.B0⟩
section
open Go.Shelf Go.RowKit Go.Lib Go.Sort
def Tryz.G9:jf:=⟨λ| 6=>239|15=>260|14=>259|28=>288|29=>273|20=>280|21=>281|22=>282|23=>283|24=>284|25=>285|26=>286|27=>287|46=>297|47=>298|48=>299|49=>300|50=>301|57=>305|n=>n,λ| 22=>32|24=>9|25=>352|3=>3|39=>153|0=>0|53=>208|55=>30|4=>4|46=>429|45=>428|50=>204|5=>5|9=>9|66=>437|70=>441|76=>444|77=>65|n=>n,λ| n=>n⟩
def Tryz.L8:jg X Tryz.G9:={
 mixed:=by kernel_rfl
 f6:=⟨Tryz.f239.name,by decide,func239.trans (congrArg J (by kernel_rfl))⟩
 f14:=⟨Tryz.f259.name,by decide,func259.trans (congrArg J (by kernel_rfl))⟩
 f15:=func260.trans (congrArg J (by kernel_rfl))
 f20:=⟨Tryz.f280.name,by decide,func280.trans (congrArg J (by kernel_rfl))⟩
 f21:=⟨Tryz.f281.name,by decide,func281.trans (congrArg J (by kernel_rfl))⟩
 f22:=⟨Tryz.f282.name,by decide,func282.trans (congrArg J (by kernel_rfl))⟩
 f23:=⟨Tryz.f283.name,by decide,func283.trans (congrArg J (by kernel_rfl))⟩
 f24:=⟨Tryz.f284.name,by decide,func284.trans (congrArg J (by kernel_rfl))⟩
 f25:=⟨Tryz.f285.name,by decide,func285.trans (congrArg J (by kernel_rfl))⟩
 f26:=⟨Tryz.f286.name,by decide,func286.trans (congrArg J (by kernel_rfl))⟩
 f27:=⟨Tryz.f287.name,by decide,func287.trans (congrArg J (by kernel_rfl))⟩
 f28:=func288.trans (congrArg J (by kernel_rfl))
 f29:=func273.trans (congrArg J (by kernel_rfl))
 f46:=⟨Tryz.f297.name,by decide,func297.trans (congrArg J (by kernel_rfl))⟩
 f47:=func298.trans (congrArg J (by kernel_rfl))
 f48:=func299.trans (congrArg J (by kernel_rfl))
 f49:=⟨Tryz.f300.name,by decide,func300.trans (congrArg J (by kernel_rfl))⟩
 f50:=⟨Tryz.f301.name,by decide,func301.trans (congrArg J (by kernel_rfl))⟩
 f57:=⟨Tryz.f305.name,by decide,func305.trans (congrArg J (by kernel_rfl))⟩
 t0:=underlying0
 a0:=isAgg0
 z0:=sizeOf0
 v0:=zeroValue0
 t3:=underlying3
 a3:=isAgg3
 z3:=sizeOf3
 v3:=zeroValue3
 t4:=underlying4
 a4:=isAgg4
 z4:=sizeOf4
 v4:=zeroValue4
 t5:=eu
 a5:=isAgg5
 z5:=sizeOf5
 v5:=zeroValue5
 t9:=ep
 a9:=isAgg9
 z9:=sizeOf9
 v9:=zeroValue9
 t22:=underlying32
 a22:=isAgg32
 z22:=sizeOf32
 v22:=zeroValue32
 a24:=isAgg9
 z24:=sizeOf9
 t25:=underlying352
 a25:=isAgg352
 z25:=sizeOf352
 v25:=zeroValue352
 t39:=underlying153
 a39:=isAgg153
 z39:=sizeOf153
 v39:=zeroValue153
 t45:=underlying428
 a45:=isAgg428
 z45:=sizeOf428
 v45:=zeroValue428
 t46:=underlying429
 a46:=isAgg429
 z46:=sizeOf429
 v46:=zeroValue429
 t50:=underlying204
 a50:=isAgg204
 z50:=sizeOf204
 v50:=zeroValue204
 t53:=underlying208
 a53:=isAgg208
 z53:=sizeOf208
 v53:=zeroValue208
 t55:=underlying30
 a55:=isAgg30
 z55:=sizeOf30
 v55:=zeroValue30
 t66:=underlying437
 a66:=isAgg437
 z66:=sizeOf437
 v66:=zeroValue437
 t70:=underlying441
 a70:=isAgg441
 z70:=sizeOf441
 v70:=zeroValue441
 t76:=underlying444
 a76:=isAgg444
 z76:=sizeOf444
 v76:=zeroValue444
 t77:=underlying65
 a77:=isAgg65
 z77:=sizeOf65
 v77:=zeroValue65}
def vV(x y:zX):Int:=eE x.1 y.1
def rW:SWO (ej vV)where
 irrefl x:=by unfold ej vV;rw[aAF];rfl
 trans x y z b a:=by
  unfold ej vV at*;exact decide_eq_true (mQ (of_decide_eq_true b) (of_decide_eq_true a))
 ntrans x y z b a:=by
  unfold ej vV at*;have b:=of_decide_eq_false b;have a:=of_decide_eq_false a;refine decide_eq_false λh=>?_
  by_cases c:eE y.1 x.1<0
  .exact a (mQ c h)
  .have:=aEw b c;rw[this]at h;exact a h
def encR(x:zX):V:=av ⟨x.1.toArray⟩
def aK4(b off a:Nat)(w:U):CmpLays1 X 240 #[] encR vV b off a w:=by
 intro m j k n x y;have g:(⟨x.1.toArray⟩:ByteArray).data.toList=x.1:=by simp
 have f:(⟨y.1.toArray⟩:ByteArray).data.toList=y.1:=by simp
 have c:(⟨x.1.toArray⟩:ByteArray).size=x.1.length:=by show x.1.toArray.size=_;simp
 have d:(⟨y.1.toArray⟩:ByteArray).size=y.1.length:=by show y.1.toArray.size=_;simp
 have h:=aCG ⟨x.1.toArray⟩ ⟨y.1.toArray⟩ (by rw[g];exact x.2.1) (by rw[f];exact y.2.1) (by rw[c];exact x.2.2) (by rw[d];exact y.2.2) (sortWorld encR w b off m k j);rw[g,f]at h;exact h.mono λe w' ⟨l,i⟩=>⟨l,i.P1⟩
def gM(d:Array zX):Array zX:=pdq (ej vV) d 0 d.size (Lib.bitLen d.size) ah ah
def aJc(a off cap:Nat)(d:Array zX)(w:U)(g:Holds encR w a off d)(b:a<w.heap.size)(c:d.size<4611686018427387904):
 E X 239 #[ak (a,off) d.size cap,cw (cz 240) #[] #[]] w λe w'=>e=H (cr #[])/\∃n f,w'=sortWorld encR w a off n (gM d) f:=by
 have h:∀args w,(ga 240 args).run X w=ba (.enter 240 args) w:=enters_of func240 (by kernel_rfl) rfl;exact Any.slices_SortFunc_eq Tryz.L8 encR (λ_=>rfl) vV rW 240 #[] a off cap d w h (aK4 a off d.size w) g b c
end

def HeldOk(held:List UInt8):Prop:=∀h t,held=h::t->held.length<(aC h).a
def Feeds(w:U)(b pl:Nat)(held:List UInt8):Prop:=HeldOk held/\∃a a1 a2 a3:UInt8,w.heap[b]?=J (Y #[pl,I W a.toNat,I W a1.toNat,I W a2.toNat,I W a3.toNat,held.length,ac K] 305 (0,0))/\
 held= [a,a1,a2,a3].take held.length
def Feeds.A2{F:Nat->Prop}{w w':U}{b pl:Nat}{held:Oo}(h:Feeds w b pl held)(a:Keeps F w w')(g:¬F b):Feeds w' b pl held:=by
 obtain⟨e,c,a1,a2,a3,d,f⟩:=h;exact⟨e,c,a1,a2,a3,a.B7 d g,f⟩
def newFeeder_any(w:U):E X 137 #[] w λe w'=>e=H (D w)/\Feeds w' w.heap.size 0 []/\aj w w w'/\w'.heap.size=w.heap.size+1:=
 (Dr.newFeeder_any w).mono λ_ _ h=>⟨h.1,h.2.1,h.2.2.1.D9,h.2.2.2⟩
def held_any(w:U)(b pl:Nat)(held:Oo)(h:Feeds w b pl held):E X 167 #[D b] w λe w'=>e=H (I N held.length)/\w'=w:=
 Dr.held_any w b pl held h
def aK5:Elem 226 232 16:=⟨underlying226,by
 have h:(X.info? 232).map (λi=>(i.zero,i.size,i.bytes))=J (J bm,1,16):=by kernel_rfl
 obtain⟨i,c,a,d,b⟩:=gc h;exact⟨i,_,c,a,d,b,rfl⟩⟩
def aN{w:U}{b:Nat}{p g k a l d c i q e j f n m:V}{T:bu}(h:w.heap[b]?=J (Y #[p,g,k,a,l,d,c,i,q,e,j,f,n,m] T (0,0))):
 w.cell? b=J p/\w.cell? ⟨b,1,O⟩=J g/\w.cell? ⟨b,2,O⟩=J k/\w.cell? ⟨b,3,O⟩=J a/\w.cell? ⟨b,4,O⟩=J l/\w.cell? ⟨b,5,O⟩=J d/\w.cell? ⟨b,6,O⟩=J c/\w.cell? ⟨b,7,O⟩=J i/\
 w.cell? ⟨b,8,O⟩=J q/\w.cell? ⟨b,9,O⟩=J e/\w.cell? ⟨b,10,O⟩=J j/\w.cell? ⟨b,11,O⟩=J f/\w.cell? ⟨b,12,O⟩=J n/\w.cell? ⟨b,13,O⟩=J m/\∀o,w.frozen? ⟨b,o,O⟩=K:=
 ⟨aA h,aA h,aA h,aA h,aA h,aA h,aA h,aA h,aA h,aA h,aA h,aA h,aA h,aA h,free_at h⟩
def aBv(w:U):E X 72 #[] w λe w'=>e=H (D w)/\
 w'=w.alloc (Y #[I N 0,bm,ac K,cw (cz 104) #[] #[],ac K,I N 0,(),I N 0,D O,(),I N 0,I dh 0,I dh 0,()] 228):=by
 go_enter func72,ntmps72;go_wp2;go_ret;exact⟨rfl,rfl⟩
def rX(w:U)(b:Nat)(c:Array V)(a d:Nat)(h:w.heap[b]?=J (Y c 228 (0,0)))(j:c[5]?=J (I N a))(g:a<=d)(k:d<=1073741824):
 E X 136 #[D b,d] w λe w'=>e=H (ae #[a,I N ((d-a:Nat):Int)])/\aj w w w':=by
 have f:aj w w (w.alloc (Y #[I N 0,I N 0] 236)):=(bc _ _).alloc (ai _) _;have i:=keep h f;have m:(w.alloc (Y #[I N 0,I N 0] 236)).cell? ⟨b,5,O⟩=J (I N a):=by rw[aA i];exact j
 have l:N.wrap ((d:Int)-(a:Int))=((d-a:Nat):Int):=by rw[ij];omega
 clear h i j g;go_enter func136,ntmps136;go_wp2;go_region;go_wp2_with fail;exact cg (v:=ae #[a,I N ((d-a:Nat):Int)]) (by simp[bk,results136,go_sem]) rfl ⟨rfl,((bc _ _).alloc (ai _) _).drew⟩
def Win.ne{k:Type}{e:Nat}{enc:k->V}{w:U}{v:V}{l:List k}(h:Win e enc w v l){b:Nat}{c:Array V}{T:bu}(f:w.heap[b]?=J (Y c T (0,0)))(i:T≠e):v.ownBlock≠J b:=by
 rcases h with⟨rfl,_⟩|⟨g,off,cap,j,rfl,a,_⟩
 .simp[gd]
 .intro d;simp only[gd,ge]at d;subst d;rw[f]at a;simp only[ge,jh]at a;exact i a.2.1
def rY(w:U)(b:Nat)(t u v T v4 x y z B C G L P a:V)(Q:bu)(i:V)(toks:List V)(m:w.heap[b]?=J (Y #[t,u,v,T,v4,x,y,z,B,C,G,L,P,a] 228 (0,0)))
 (d:Win 232 id w a toks)(hl:toks.length<=1000):
 E X 135 #[D b,ag Q i] w λe w'=>e=H (cr #[])/\∃g off cap,w'.heap[b]?=J (Y #[t,u,v,cw (cz 104) #[] #[],ac K,x,y,z,B,C,G,L,P,ak (J ⟨g,off,O⟩) (toks.length+1) cap] 228 (0,0))/\
  Win 232 id w' (ak (J ⟨g,off,O⟩) (toks.length+1) cap) (toks++ [ag Q i])/\(a.ownBlock=J g\/w.heap.size<=g)/\Keeps (λk=>k=b\/a.ownBlock=J k) w w':=by
 obtain⟨c0,c1,c2,c3,c4,c5,c6,c7,c8,c9,ca,cb,cc,cd,cf⟩:=aN m;have a0:=A m;have n:=af m;have o:=A (d.ne m (by decide));obtain⟨R,S,q⟩:=d.A7;have c:Win 232 id (w.alloc (Y #[ag Q i] 232)) a toks:=d.A2 (F:=λ_=>False) ((bh _ w).A6 _) (λ_ _=>id);have HW:=A c;clear m d c;subst q;go_enter func135,ntmps135
 go_wp2_with (at_builtin;refine dE aK5 rfl _ _ rfl rfl HW.o w 1 (ag Q i) rfl ?_ rfl ?_ ?_ ?_)
 .simp
 .omega
 .unfold ev;omega
 intro g off cap w' c j h;have d:=(h.block b (by simp;omega) (λe=>o.o e.symm)).trans ((di w _ _ n).trans a0.o)
 have f:g≠b:=by
  have:=c.ne d (by decide);intro e;subst e;exact this rfl
 have HK:=A (((bh (λk=>k=b\/(ak R toks.length S).ownBlock=J k) w).A6 (Y #[ag Q i] 232)).D7 h (λk e=>Z (ar e)));have l:=A c;have r:=A (show(ak R toks.length S).ownBlock=J g\/w.heap.size<=g from j.elim Z (λm=>ar (by have:=m.1;first|omega|(simp at this;omega))));obtain⟨-,-,-,d3,d4,-,-,-,-,-,-,-,-,dd,df⟩:=aN d;have HB:=A d;have s:=A f;clear d c j h f c0 c1 c2 c3 c4 c5 c6 c7 c8 c9 ca cb cc cd cf;go_wp2
 go_end0
 refine⟨rfl,g,off,cap,aB (aB (aB HB.o _) _) _,?_,r.o,((HK.o.A3 (p:=⟨b,13,O⟩) (Z (Z rfl)) _).A3 (p:=⟨b,4,O⟩) (Z (Z rfl)) _).A3 (p:=⟨b,3,O⟩) (Z (Z rfl)) _⟩
 exact l.o.A2 ((((bh (λk=>k=b) w').A3 (p:=⟨b,13,O⟩) (Z rfl) _).A3 (p:=⟨b,4,O⟩) (Z rfl) _).A3 (p:=⟨b,3,O⟩) (Z rfl) _) (λk e c=>by
  simp only[gd,ge]at e;exact s.o (e.trans c))
def aHe(w:U)(b pl d:Nat)(a:Bool)(c:Array V)(h:w.heap[b]?=J (Y c 228 (0,0)))(j:c[0]?=J (I N pl))(g:c[4]?=J (ac a))(i:c[5]?=J (I N d))(f:d<=pl)(k:pl<=1073741824):
 E X 116 #[D b] w λe w'=>e=H (I N ((if a then pl-d else 0:Nat):Int))/\aj w w w':=by
 have l:w.cell? b=J (I N pl):=by rw[aA h];exact j
 have o:w.cell? ⟨b,4,O⟩=J (ac a):=by rw[aA h];exact g
 have m:w.cell? ⟨b,5,O⟩=J (I N d):=by rw[aA h];exact i
 have n:N.wrap ((pl:Int)-(d:Int))=((pl-d:Nat):Int):=by rw[ij];omega
 clear h j g i f;cases a with
 | false=>
  go_enter func116,ntmps116;go_wp2;go_ret;exact⟨rfl,bc _ _⟩
 | true=>
  go_enter func116,ntmps116;go_wp2;go_region;go_wp2;go_ret;exact⟨rfl,(bc _ _).drew⟩
def rZ(w:U)(b:Nat)(no:Int)(c:Array V)(e:dj)(w':U):Prop:=e=H (I N no)/\w'.heap[b]?=J (Y c 228 (0,0))/\Keeps (λk=>k=b) w w'
def aHf(w:U)(b:Nat)(x o s z t j i q y l r m v u:V)(a:UInt8)(h:w.heap[b]?=J (Y #[x,o,s,z,t,j,i,q,y,l,r,m,v,u] 228 (0,0))):
 E X 223 #[D b,I W a.toNat] w λe w'=>(a=92->rZ w b 0 #[x,o,s,cw (cz 241) #[] #[],t,j,i,q,y,l,r,m,v,u] e w')/\(a≠92->e=H (I N 93)/\w'=w):=by
 obtain⟨-,-,-,F,-,-,-,-,-,-,-,-,-,-,G⟩:=aN h;have P:=A h;clear h
 by_cases d:a=92
 .have L:(a.toNat:Int)=92:=by rw[d];rfl
  have g:=A d;clear d;go_enter func223,ntmps223;go_wp2;go_ret;exact⟨λ_=>⟨rfl,aB P.o _,(bh (λk=>k=b) w).A3 (p:=⟨b,3,O⟩) (Z rfl) _⟩,λf=>absurd g.o f⟩
 .obtain⟨-,-,C⟩:=aD (c:=a) (n:=92) d rfl;have g:=A d;clear d;go_enter func223,ntmps223;go_wp2;go_ret;exact⟨λB=>absurd B g.o,λ_=>⟨rfl,rfl⟩⟩
def aCH(w:U)(b:Nat)(v o r y s l j q x m u t:V)(dg f:Nat)(a:UInt8)(h:w.heap[b]?=J (Y #[v,o,r,y,s,l,j,q,x,m,dg,I dh f,u,t] 228 (0,0))):
 E X 241 #[D b,I W a.toNat] w λe w'=>(a=117->rZ w b 0 #[v,o,r,cw (cz 188) #[] #[],s,l,j,q,x,m,I N 0,I dh 0,u,t] e w')/\(a≠117->e=H (I N 93)/\w'=w):=by
 obtain⟨-,-,-,G,-,-,-,-,-,-,C,F,-,-,L⟩:=aN h;have Q:=A h;clear h
 by_cases d:a=117
 .have P:(a.toNat:Int)=117:=by rw[d];rfl
  have i:=A d;clear d;go_enter func241,ntmps241;go_wp2;go_ret;exact⟨λ_=>⟨rfl,aB (aB (aB Q.o _) _) _,(((bh (λk=>k=b) w).A3 (p:=⟨b,10,O⟩) (Z rfl) _).A3 (p:=⟨b,11,O⟩) (Z rfl) _).A3 (p:=⟨b,3,O⟩) (Z rfl) _⟩,λg=>absurd i.o g⟩
 .obtain⟨-,-,B⟩:=aD (c:=a) (n:=117) d rfl;have i:=A d;clear d;go_enter func241,ntmps241;go_wp2;go_ret;exact⟨λz=>absurd z i.o,λ_=>⟨rfl,rfl⟩⟩
def nY:Elem 22 5 1:=⟨et,by
 have h:(X.info? 5).map (λi=>(i.zero,i.size,i.bytes))=J (J (I W 0),1,1):=by kernel_rfl
 obtain⟨i,c,a,d,b⟩:=gc h;exact⟨i,_,c,a,d,b,rfl⟩⟩
def wJ(w:U)(b:Nat)(a:V)(l:List UInt8)(c:V->Array V)(e:dj)(w':U):Prop:=e=H (I N 0)/\∃g off cap,w'.heap[b]?=J (Y (c (ak (J ⟨g,off,O⟩) l.length cap)) 228 (0,0))/\
 Win 5 bZ w' (ak (J ⟨g,off,O⟩) l.length cap) l/\(a.ownBlock=J g\/w.heap.size<=g)/\Keeps (λk=>k=b\/a.ownBlock=J k) w w'
def aCJ(w:U)(b:Nat)(z B C v3 G L P Q R S T vc vd a:V)(m d:UInt8)(l:Oo)(r:w.heap[b]?=J (Y #[z,B,C,v3,G,L,P,Q,R,a,S,T,vc,vd] 228 (0,0)))
 (o:m≠117)(i:cO m=J d)(h:Win 5 bZ w a l)(hl:l.length<=1073741824):
 E X 168 #[D b,I W m.toNat] w λe w'=>wJ w b a (l++ [d]) (λv=> #[z,B,C,cw (cz 138) #[] #[],G,L,P,Q,R,v,S,T,vc,vd]) e w':=by
 obtain⟨c0,c1,c2,c3,c4,c5,c6,c7,c8,c9,ca,cb,cc,cd,cf⟩:=aN r;have s:=A (h.ne r (by decide));have a0:=A r;have t:=af r;obtain⟨ta,tc,u⟩:=h.A7;have f:Win 5 bZ (w.alloc (Y #[bZ d] 5)) a l:=h.A2 (F:=λ_=>False) ((bh _ w).A6 _) (λ_ _=>id);have HR:=A f;have HS:=A (aCI m);have j:=i;obtain⟨n1,n2,n3⟩:=aD (c:=m) (n:=117) o rfl;rw[i]at HS;clear r h f o i j;subst u;go_enter gh,gj;go_wp2_with fail;refine(HS.o _).mono ?_;rintro e w1 ⟨rfl,rfl⟩
 go_wp2_with (at_builtin;refine dE nY rfl _ _ rfl rfl HR.o w1 1 d rfl ?_ rfl ?_ ?_ ?_)
 .simp
 .omega
 .unfold ev;omega
 intro g off cap w' f i j;have h:=(j.block b (by simp;omega) (λe=>s.o e.symm)).trans ((di w1 _ _ t).trans a0.o);have x:=A (f.ne h (by decide));have o:(ak ta l.length tc).ownBlock=J g\/w1.heap.size<=g:=i.elim Z (λr=>ar (by have:=r.1;first|omega|(simp at this;omega)));have y:=A o;have HK:=A (((bh (λk=>k=b\/(ak ta l.length tc).ownBlock=J k) w1).A6 (Y #[bZ d] 5)).D7 j (λk e=>Z (ar e)));have q:=A f;obtain⟨-,-,-,d3,-,-,-,-,-,d9,-,-,-,-,df⟩:=aN h;have HB:=A h;clear h f o i j c0 c1 c2 c3 c4 c5 c6 c7 c8 c9 ca cb cc cd cf;go_wp2;go_ret;refine⟨rfl,g,off,cap,?_,?_,y.o,(HK.o.A3 (p:=⟨b,9,O⟩) (Z (Z rfl)) _).A3 (p:=⟨b,3,O⟩) (Z (Z rfl)) _⟩
 .rw[ik];exact aB (aB HB.o _) _
 .rw[ik];exact q.o.A2 (((bh (λk=>k=b) w').A3 (p:=⟨b,9,O⟩) (Z rfl) _).A3 (p:=⟨b,3,O⟩) (Z rfl) _) (λk e f=>x.o (e.trans (congrArg J f)))
def aJd(w:U)(b:Nat)(o g j r l d c i q f n m:V)(dg a:Nat)(h:w.heap[b]?=J (Y #[o,g,j,r,l,d,c,i,q,f,dg,I dh a,n,m] 228 (0,0))):
 E X 168 #[D b,I W 117] w λe w'=>rZ w b 0 #[o,g,j,cw (cz 188) #[] #[],l,d,c,i,q,f,I N 0,I dh 0,n,m] e w':=by
 obtain⟨-,-,-,u,-,-,-,-,-,-,s,t,-,-,v⟩:=aN h;have x:=A h;clear h;go_enter gh,gj;go_wp2;go_ret;exact⟨rfl,aB (aB (aB x.o _) _) _,(((bh (λk=>k=b) w).A3 (p:=⟨b,10,O⟩) (Z rfl) _).A3 (p:=⟨b,11,O⟩) (Z rfl) _).A3 (p:=⟨b,3,O⟩) (Z rfl) _⟩
def aEC(w:U)(b:Nat)(a:UInt8)(d:a≠117)(g:cO a=O):
 E X 168 #[D b,I W a.toNat] w λe w'=>e=H (I N 92)/\w'=w:=by
 have f:=A (aCI a);obtain⟨h,i,j⟩:=aD (c:=a) (n:=117) d rfl;rw[g]at f;clear d g;go_enter gh,gj;go_wp2_with fail;refine(f.o _).mono ?_;rintro e w1 ⟨rfl,rfl⟩;go_wp2;go_ret;exact⟨rfl,rfl⟩
def bU:Tok->V
 | .mark a s=>ag 238 (ae #[a,I N 1,I W s.toNat])
 | .term a n c=>ag 309 (ae #[a,n,av ⟨c.toArray⟩])
 | .num a n b=>ag 271 (ae #[a,n,I aw b])
 | .str a n t=>ag 241 (ae #[a,n,av ⟨t.toArray⟩])
def fQ{w:U}{n:Nat}{v:V}{T:bu}(h:n=w.heap.size):(w.alloc (Y #[v] T)).cell? n=J v:=by subst h;rw[aA (bw w _)];rfl
def aJe(w:U)(p:bj)(v:V):(w.setCell p v).heap.size=w.heap.size:=by simp[il]
def fK{w:U}{v:V}{l:Oo}(h:Win 5 bZ w v l):(convert 22 9 v).run X w=ba (av ⟨l.toArray⟩) w:=by
 rcases h with⟨rfl,rfl⟩|⟨g,off,cap,b,rfl,d,-,-,-,hi⟩
 .exact run_convert_bytes_nil (P:=X) w 22 5 et eu 0 0 9 ep
 .refine run_convert_bytes_back w 22 9 5 ⟨g,off,O⟩ cap l et eu ep λj c=>?_
  have a:(⟨g,off,O⟩:bj).add j=⟨g,off+j,O⟩:=by unfold im;split<;>simp_all
  rw[a,aA d];exact hi j l[j] (dv c)
def jQ(w:U)(b:Nat)(a:V)(toks:List V)(t:V)(c:V->Array V)(v:V)(e:dj)(w':U):Prop:=e=H v/\∃g off cap,w'.heap[b]?=J (Y (c (ak (J ⟨g,off,O⟩) (toks.length+1) cap)) 228 (0,0))/\
 Win 232 id w' (ak (J ⟨g,off,O⟩) (toks.length+1) cap) (toks++ [t])/\(a.ownBlock=J g\/w.heap.size<=g)/\Keeps (λk=>k=b\/a.ownBlock=J k) w w'
def sA:Elem 184 97 16:=⟨underlying184,by
 have h:(X.info? 97).map (λi=>(i.zero,i.size,i.bytes))=J (J bm,1,16):=by kernel_rfl
 obtain⟨i,c,a,d,b⟩:=gc h;exact⟨i,_,c,a,d,b,rfl⟩⟩
def dT(w:U)(no:Nat):E X 212 #[ac ah,no] w λe w'=>e=H (cr #[])/\w'=w:=by
 go_enter func212,ntmps212;go_wp2
 go_end0
 exact⟨rfl,rfl⟩
def wZ(w:U)(no:Nat):E X 212 #[ac K,no] w λe w'=>e=.panicked [{v:=ag 29 (I N no),recovered:=K}]/\w'=w:=by
 go_enter func212,ntmps212;go_wp2;exact⟨rfl,rfl,rfl⟩
def kS(w:U)(n a d:Nat)(h:(⟨n,a,d⟩:Sz).A9=ah):E X 235 #[ae #[n,a,d]] w λe w'=>e=H (ac ah)/\aj w w w':=by
 have b:(n:Int)<=65536/\(a:Int)<=2097152/\(d:Int)<=512:=by simp[dw]at h;omega
 obtain⟨b,c,f⟩:=b;clear h;go_enter func235,ntmps235;go_wp2;go_ret;exact⟨rfl,(bc _ _).alloc (ai _) _⟩
def aAK(w:U)(b:Nat):E X 347 #[au ao b] w λe w'=>e=H (ae #[I N 1,I N 0,I N 1])/\aj w w w':=by
 go_enter func347,ntmps347;go_wp2;exact cg (v:=ae #[I N 1,I N 0,I N 1]) (by simp[bk,results347,go_sem]) rfl ⟨rfl,(bc _ _).alloc (ai _) _⟩
def xA(w:U)(s:ByteArray):E X 349 #[s] w λe w'=>e=H (ae #[I N 1,s.size,I N 1])/\aj w w w':=by
 go_enter func349,ntmps349;go_wp2;exact cg (v:=ae #[I N 1,s.size,I N 1]) (by simp[bk,results349,go_sem]) rfl ⟨rfl,(bc _ _).alloc (ai _) _⟩
def aJf(w:U)(b:Nat):E X 213 #[ae #[I N 3,ac K,I aw b,"",I N 0,()]] w λe w'=>e=H (ac ah)/\aj w w w':=by
 have a:(((b:Nat):Int)==0)=ah\/(((b:Nat):Int)==0)=K:=by cases h:(((b:Nat):Int)==0)<;>simp
 rcases a with a|a
 all_goals
  go_enter func213,ntmps213;go_wp2;go_ret;exact⟨rfl,(bc _ _).alloc (ai _) _⟩
def aHg(w:U)(s:ByteArray):E X 213 #[ae #[I N 4,ac K,I aw 0,s,I N 0,()]] w λe w'=>e=H (ac ah)/\aj w w w':=by
 go_enter func213,ntmps213;go_wp2
 all_goals
  go_ret;exact⟨rfl,(bc _ _).alloc (ai _) _⟩
def n8(b:Nat)(w:U):(ga 51 #[au ao b]).run X w=ba (.value (I aw b)) w:=by
 rw[io (e:=ji) func51 (by kernel_rfl) (by kernel_rfl) (by kernel_rfl) (by kernel_rfl)];rfl
def oA(b:Nat)(w:U):(ga 215 #[I aw b]).run X w=ba (.value (au ao b)) w:=by
 rw[io (e:=jj) func215 (by kernel_rfl) (by kernel_rfl) (by kernel_rfl) (by kernel_rfl)];rfl
def qI{b:Nat}(h:gO b):b%9223372036854775808<=aM:=by
 unfold gO aM at*;omega
def aHh(b:Nat)(w:U)(h:gO b):E X 216 #[au ao b] w λe w'=>e=H (ac K)/\w'=w:=by
 have a:(ao.format.order b b !=J .eq)=K:=by rw[aED (qI h)];rfl
 clear h;go_enter func216,ntmps216;go_wp2;go_ret;exact⟨rfl,rfl⟩
def aEG{b:Nat}(h:b<18446744073709551616):bits BinOp.andNot aw (b:Int) 9223372036854775808=(b:Int)%9223372036854775808:=by
 have e:=u64_andNot_nat b 9223372036854775808 h (by decide);rw[show(18446744073709551615-9223372036854775808:Nat)=2^63-1 by decide,Nat.and_two_pow_sub_one_eq_mod]at e;exact e
def aK7(b:Nat)(w:U)(h:gO b):E X 236 #[au ao b] w λe w'=>e=H (au ao (b%9223372036854775808))/\w'=w:=by
 have c:=n8 b;have a:=oA (b%9223372036854775808);have d:=aEG (b:=b) (by unfold gO aM at h;omega);rw[show((b%9223372036854775808:Nat):Int)=(b:Int)%9223372036854775808 by omega]at a;clear h;go_enter func236,ntmps236;go_wp2;go_ret;exact⟨rfl,rfl⟩
def aHi(b:Nat)(w:U)(h:gO b):E X 217 #[au ao b,I N 0] w λe w'=>e=H (ac K)/\w'=w:=by
 have f:=A (aK7 b w h);have c:=aEE (b:=b%9223372036854775808) (qI h);obtain⟨a,d⟩:∃a,b%9223372036854775808=a:=⟨_,rfl⟩;rw[d]at f c
 have g:(ao.format.order a 9218868437227405311==J .gt)=K:=by
  cases h:ao.format.order a 9218868437227405311==J .gt with
  | false=>rfl
  | true=>exact absurd (by simpa[aM]using h) c
 clear h d c;go_enter func217,ntmps217;go_wp2_with fail;refine(f.o).mono ?_;rintro e w1 ⟨rfl,rfl⟩;go_wp2;go_ret;exact⟨rfl,rfl⟩
def eW(w:U)(b:Nat)(c:V)(a:List V)(T:bu)(v:V)(w':U):Prop:=
 ∃g off cap,w'.heap[b]?=J (Y #[ak (J ⟨g,off,O⟩) (a.length+1) cap] 195 (0,0))/\Win 97 id w' (ak (J ⟨g,off,O⟩) (a.length+1) cap) (a++ [ag T v])/\(c.ownBlock=J g\/w.heap.size<=g)/\Keeps (λk=>k=b\/c.ownBlock=J k) w w'
def aK8(w:U)(b:Nat)(B:V)(a:List V)(x:Nat)(y:w.heap[b]?=J (Y #[B] 195 (0,0)))(c:Win 97 id w B a)(T:a.length<=1048576):
 E X 214 #[D b,ag 179 (au ao x)] w λe w'=>e=H (cr #[])/\eW w b B a 179 (au ao x) w':=by
 have hm:∀w:U,(ct 565 179 (au ao x) "affidavit/node.sized").run X w=ba (347,au ao x) w:=λ_=>by kernel_rfl
 have C:=A (aAK w x);have G:=A (λw=>kS w 1 0 1 (by decide));have L:=A c;have a0:=A y;have l:=A (c.ne y (by decide));obtain⟨m,n,o⟩:=c.A7;clear y c;subst o;go_enter func214,ntmps214;go_wp2_with fail;refine(C.o).mono ?_;rintro e w1 ⟨rfl,c⟩;have q:=A c;clear c;go_wp2_with fail;refine(G.o _).mono ?_;rintro e w2 ⟨rfl,c⟩;have f:=chain q.o c;have h:=keep a0.o f;have r:=cu h;have s:=A h;have z:=A f;have i:=af h;have d:Win 97 id (w2.alloc (Y #[ag 179 (au ao x)] 97)) (ak m a.length n) a:=(L.o.A2 (bp (λ_=>False) f) (λ_ _=>id)).A2 (F:=λ_=>False) ((bh _ w2).A6 _) (λ_ _=>id);have P:=A d;clear c f h d
 go_wp2_with (at_builtin;refine dE sA rfl _ _ rfl rfl P.o w2 1 (ag 179 (au ao x)) rfl ?_ rfl ?_ ?_ ?_)
 .exact fQ rfl
 .omega
 .unfold ev;omega
 intro g off cap w' c f h;have d:=(h.block b (by simp;omega) (λe=>l.o e.symm)).trans ((di w2 _ _ i).trans s.o);have t:=A (c.ne d (by decide));have u:=A (show(ak m a.length n).ownBlock=J g\/w.heap.size<=g from f.elim Z (λy=>ar (bz z.o.size (bz (by simp) y.1))));have Q:=A (((bp (λk=>k=b\/(ak m a.length n).ownBlock=J k) z.o).A6 (Y #[ag 179 (au ao x)] 97)).D7 h (λk e=>Z (ar e)));have j:=A c;have R:=cu d;have S:=gk d;have v:=A d;clear d c f h r;go_wp2
 go_end0
 have c:Keeps (λk=>k=b) w' (w'.setCell b (ak (g,off) (a.length+1) cap)):=(bh (λk=>k=b) w').A3 (p:=b) (Z rfl) _;exact⟨rfl,g,off,cap,aB v.o _,j.o.A2 c (λk e d=>t.o (e.trans (congrArg J d))),u.o,Q.o.A3 (p:=b) (Z (Z rfl)) _⟩
def aJg(w:U)(b:Nat)(B:V)(a:List V)(x:ByteArray)(T:x.size<=2097152)(y:w.heap[b]?=J (Y #[B] 195 (0,0)))(c:Win 97 id w B a)(hl:a.length<=1048576):
 E X 214 #[D b,ag 180 (av x)] w λe w'=>e=H (cr #[])/\eW w b B a 180 (av x) w':=by
 have hm:∀w:U,(ct 565 180 (av x) "affidavit/node.sized").run X w=ba (349,av x) w:=λ_=>by kernel_rfl
 have C:=A (xA w x);have G:=A (λw=>kS w 1 x.size 1 (by simp[dw];omega));have L:=A c;have a0:=A y;have l:=A (c.ne y (by decide));obtain⟨m,n,o⟩:=c.A7;clear y c;subst o;go_enter func214,ntmps214;go_wp2_with fail;refine(C.o).mono ?_;rintro e w1 ⟨rfl,c⟩;have q:=A c;clear c;go_wp2_with fail;refine(G.o _).mono ?_;rintro e w2 ⟨rfl,c⟩;have f:=chain q.o c;have h:=keep a0.o f;have r:=cu h;have s:=A h;have z:=A f;have i:=af h;have d:Win 97 id (w2.alloc (Y #[ag 180 (av x)] 97)) (ak m a.length n) a:=(L.o.A2 (bp (λ_=>False) f) (λ_ _=>id)).A2 (F:=λ_=>False) ((bh _ w2).A6 _) (λ_ _=>id);have P:=A d;clear c f h d
 go_wp2_with (at_builtin;refine dE sA rfl _ _ rfl rfl P.o w2 1 (ag 180 (av x)) rfl ?_ rfl ?_ ?_ ?_)
 .exact fQ rfl
 .omega
 .unfold ev;omega
 intro g off cap w' c f h;have d:=(h.block b (by simp;omega) (λe=>l.o e.symm)).trans ((di w2 _ _ i).trans s.o);have t:=A (c.ne d (by decide));have u:=A (show(ak m a.length n).ownBlock=J g\/w.heap.size<=g from f.elim Z (λy=>ar (bz z.o.size (bz (by simp) y.1))));have Q:=A (((bp (λk=>k=b\/(ak m a.length n).ownBlock=J k) z.o).A6 (Y #[ag 180 (av x)] 97)).D7 h (λk e=>Z (ar e)));have j:=A c;have R:=cu d;have S:=gk d;have v:=A d;clear d c f h r;go_wp2
 go_end0
 have c:Keeps (λk=>k=b) w' (w'.setCell b (ak (g,off) (a.length+1) cap)):=(bh (λk=>k=b) w').A3 (p:=b) (Z rfl) _;exact⟨rfl,g,off,cap,aB v.o _,j.o.A2 c (λk e d=>t.o (e.trans (congrArg J d))),u.o,Q.o.A3 (p:=b) (Z (Z rfl)) _⟩
section
def qJ:St->Nat
 | .outside=>104| .letter=>141| .numeral=>139| .within=>138| .escape=>168| .digit=>188| .slash=>223| .letterU=>241
def dJ:St->Bool
 | .within| .escape| .digit| .slash| .letterU=>ah
 | _=>K
def eK{a:Type}(F:Nat->Prop)(e:Nat)(enc:a->V)(w:U)(v:V)(l:List a):Prop:=Win e enc w v l/\∀k,v.ownBlock=J k->F k
def Win.lt{d:Type}{e:Nat}{enc:d->V}{w:U}{v:V}{l:List d}(h:Win e enc w v l){k:Nat}(a:v.ownBlock=J k):k<w.heap.size:=by
 rcases h with⟨rfl,_⟩|⟨g,off,cap,b,rfl,c,_⟩
 .cases a
 .cases a;exact af c
section
variable {α:Type} {F G:Nat->Prop} {e:Nat} {enc:α->V} {w w':U} {v:V} {l:List α}
def eK.nil(F:Nat->Prop)(e:Nat)(enc:α->V)(w:U):eK F e enc w (ak O 0 0) []:=⟨.nil _ _ _,λ_ h=>by cases h⟩
def eK.mono(h:eK F e enc w v l)(a:∀k,F k->G k):eK G e enc w v l:=⟨h.1,λk b=>a k (h.2 k b)⟩
def eK.A2(h:eK F e enc w v l)(a:Keeps G w w')(b:∀k,v.ownBlock=J k->¬G k):eK (Since F w w') e enc w' v l:=⟨h.1.A2 a b,λk a=>Z (h.2 k a)⟩
end
structure aBw(F:Nat->Prop)(w:U)(x:Lx)(rawV chV saysV:V):Prop where
 g:x.j=.letter\/x.j=.numeral->eK F 5 bZ w rawV x.g
 text:dJ x.j=ah->eK F 5 bZ w saysV x.f/\∃f pl,chV=D (J ⟨f,0,O⟩)/\Feeds w f pl x.d/\F f/\pl<=x.f.length
def cG(F:Nat->Prop)(w:U)(b:Nat)(x:Lx)(f:Bool)(toks:List Tok):Prop:=
 F b/\(∀k,F k->k<w.heap.size)/\∃d e a c,w.heap[b]?=J (Y #[x.c,bm,f,cw (cz (qJ x.j)) #[] #[],x.e,x.a,d,x.number,e,a,x.b,I dh x.code,I dh x.h,c] 228 (0,0))/\
  eK F 232 id w c (toks.map bU)/\aBw F w x d e a
def dU(F:Nat->Prop)(w:U)(b pl m:Nat)(c:V)(toks:List Tok):Prop:=
 F b/\(∀k,F k->k<w.heap.size)/\∃i d l e h o f j g n a,w.heap[b]?=J (Y #[pl,c,i,d,l,m,e,h,o,f,j,g,n,a] 228 (0,0))/\eK F 232 id w a (toks.map bU)
section
variable {F G:Nat->Prop} {w w':U} {b:Nat} {x:Lx} {rawV chV saysV:V} {dn:Bool} {toks:List Tok}
def aBw.mono(h:aBw F w x rawV chV saysV)(a:∀k,F k->G k):aBw G w x rawV chV saysV:=
 ⟨λb=>(h.g b).mono a,λb=>by obtain⟨e,f,pl,c,i,d,g⟩:=h.text b;exact⟨e.mono a,f,pl,c,i,a _ d,g⟩⟩
def aBw.D8(h:aBw F w x rawV chV saysV)(c:Keeps G w w')(b:∀k,F k->¬G k):aBw F w' x rawV chV saysV:=
 ⟨λa=>⟨(h.g a).1.A2 c λk e=>b k ((h.g a).2 k e),(h.g a).2⟩,λa=>by
  obtain⟨d,f,pl,i,l,g,j⟩:=h.text a;exact⟨⟨d.1.A2 c λk e=>b k (d.2 k e),d.2⟩,f,pl,i,l.A2 c (b f g),g,j⟩⟩
def cG.D8(h:cG F w b x dn toks)(f:Keeps G w w')(g:∀k,F k->¬G k):cG F w' b x dn toks:=by
 obtain⟨n,i,d,l,a,c,o,m,p⟩:=h;exact⟨n,λk j=>dq (i k j) f.size,d,l,a,c,f.B7 o (g b n),⟨m.1.A2 f λk e=>g k (m.2 k e),m.2⟩,p.D8 f g⟩
def dU.D8{pl m:Nat}{a:V}(h:dU F w b pl m a toks)(f:Keeps G w w')(j:∀k,F k->¬G k):dU F w' b pl m a toks:=by
 obtain⟨l,d,t,n,v,o,s,y,p,u,r,x,c,q,i⟩:=h;exact⟨l,λk g=>dq (d k g) f.size,t,n,v,o,s,y,p,u,r,x,c,f.B7 q (j b l),⟨i.1.A2 f λk e=>j k (i.2 k e),i.2⟩⟩
def aF(a:∀k,F k->k<w.heap.size)(c:w.heap.size<=w'.heap.size):∀k,Since F w w' k->k<w'.heap.size:=λk b=>b.elim (λh=>dq (a k h) c) (λh=>h.2)
end
end
def FeedsBad(w:U)(b pl:Nat):Prop:=∃a a1 a2 a3:UInt8,w.heap[b]?=J (Y #[pl,I W a.toNat,I W a1.toNat,I W a2.toNat,I W a3.toNat,I N 0,ac ah] 305 (0,0))
def BytesAt(w:U)(b:Nat)(a:Option bj)(l:List UInt8):Prop:=l= []\/∃g off,a=J ⟨g,off,O⟩/\g≠b/\g<w.heap.size/\∀i x,l[i]?=J x->w.cell? ⟨g,off+i,O⟩=J (I W ((x.toNat:Nat):Int))
def feedRet(w':U)(b pl n:Nat)(o:Option (List UInt8))(e:dj):Prop:=match o with
 | some h=>e=H bm/\Feeds w' b (pl+n) h
 | none=>∃p,e=H (ag 151 (ae #[I N 30,I N (p:Nat)]))/\FeedsBad w' b p
def feed_any(w:U)(b pl:Nat)(held l:Oo)(a:Option bj)(cap:Nat)(h:Feeds w b pl held)(f:BytesAt w b a l)(d:l.length<=1073741824)(c:pl<=1073741824):
 E X 169 #[D b,ak a l.length cap] w λe w'=>feedRet w' b pl l.length (aX held l) e/\Keeps (λk=>k=b) w w':=
 (Dr.feed_any w b pl held l a cap h f d c).mono λ_ _ h=>⟨h.1,h.2.D9⟩
def cell_any{w:U}{b o:Nat}{c:Array V}{T:bu}{a:Nat×Nat}(h:w.heap[b]?=J (Y c T a)):w.cell? ⟨b,o,O⟩=c[o]?:=by simp[gz,h]
def right_any(s:ByteArray)(w:U)(a:s.size<=1073741824):E X 218 #[s] w λe w'=>e=H (ac (aV s.data.toList))/\aj w w w':=
 (Dr.right_any s w a).mono λ_ _ h=>⟨h.1,h.2.D9⟩
def gF(p:bj)(w:U):gl X 211 #[D (J p)] ew w λe c w'=>e=H (cr #[])/\c=ew/\w'=w:=by
 refine gm func211 rfl λb d a=>?_
 apply dx;apply dl;simp[dm,go_sem,dy,a,ntmps211,ee,gn];apply dx;apply dl;simp[dm,go_sem,dy,a,ee];refine go (t:=K) (by simp[gp]) ?_;simp only[gq,if_false];refine wpS_of_wp (wp_skip ?_);cases b
 simp_all [gr,bk,results211]
def xB(p:bj)(w:U):gl X 77 #[D (J p)] ew w λe c w'=>e=H (cr #[])/\c=ew/\w'=w:=by
 refine gm func77 rfl λb d a=>?_
 apply dx;apply dl;simp[dm,go_sem,dy,a,ntmps77,ee,gn];apply dx;apply dl;simp[dm,go_sem,dy,a,ee];refine go (t:=K) (by simp[gp]) ?_;simp only[gq,if_false];refine wpS_of_wp (wp_skip ?_);cases b
 simp_all [gr,bk,results77]
def xC(p:bj)(x:V)(no a:Nat)(b:List PanicEntry)(w:U)(f:w.cell? p=J x)(h:w.frozen? p=K):
 gl X 77 #[D (J p)] (ip ({v:=ag 151 (ae #[no,a]),recovered:=K}::b)) w λe g w'=>
  e=H (cr #[])/\g=ip ({v:=ag 151 (ae #[no,a]),recovered:=ah}::b)/\w'=w.setCell p (ag 151 (ae #[no,a])):=by
 have c:∀w:U,(Instr.typeAssert (ag 151 (ae #[no,a])) 20 151 K).run X w=ba (ae #[no,a]) w:=λ_=>by kernel_rfl
 refine gm func77 rfl λi j d=>?_
 apply dx;apply dl;simp[dm,go_sem,dy,d,ntmps77,ee,gn];apply dx;apply dl;simp[dm,go_sem,dy,d,ee];refine go (t:=ah) (by simp[gp]) ?_;simp only[if_true];apply dl;simp[dm,go_sem,f,h,c,gr,bk,results77]
def bJ{w:U}{b:Nat}{e d c a f g:V}{T:bu}(h:w.heap[b]?=J (Y #[e,d,c,a,f,g] T (0,0))):
 w.cell? b=J e/\w.cell? ⟨b,1,O⟩=J d/\w.cell? ⟨b,2,O⟩=J c/\w.cell? ⟨b,3,O⟩=J a/\w.cell? ⟨b,4,O⟩=J f/\w.cell? ⟨b,5,O⟩=J g/\∀o,w.frozen? ⟨b,o,O⟩=K:=
 ⟨aA h,aA h,aA h,aA h,aA h,aA h,free_at h⟩
def eW.E9{w w1 w2:U}{b:Nat}{x:V}{c:List V}{T:bu}{v:V}{R:Nat}{o:V}(m:aj w w w1)(t:w.heap.size<=R)(i:w1.heap[R]?=J (Y #[o] 26 (0,0)))(j:∀k,x.ownBlock=J k->k<w.heap.size)(q:b<w.heap.size)(h:eW w1 b x c T v w2)(u:V):
 w2.cell? R=J o/\w2.frozen? R=K/\eW w b x c T v (w2.setCell R u)/\(w2.setCell R u).cell? R=J u:=by
 obtain⟨g,off,cap,r,l,s,n⟩:=h
 have d:¬(R=b\/x.ownBlock=J R):=by
  rintro(e|e)
  .omega
  .have:=j R e;omega
 have a:=n.B7 i d;refine⟨cu a,gk a,⟨g,off,cap,(aE u (by omega)).trans r,?_,s.elim Z (λh=>ar (bz m.size h)),((bp _ m).same n).A3 (p:=R) (ar t) _⟩,?_⟩
 .have f:Keeps (λk=>k=R) w2 (w2.setCell R u):=(bh (λk=>k=R) w2).A3 (p:=R) (Z rfl) _;exact l.A2 f (λk e f=>l.ne a (by decide) (e.trans (congrArg J f)))
 .rw[aA (aB a u)];rfl
def aL0(w:U)(b:Nat)(m:V)(a:List V)(x:Nat)(c:gO x)(o:w.heap[b]?=J (Y #[m] 195 (0,0)))(h:Win 97 id w m a)(p:a.length<=1048576):
 E X 196 #[D b,ae #[I N 3,ac K,I aw x,"",I N 0,()]] w λe w'=>e=H bm/\eW w b m a 179 (au ao (dW x)) w':=by
 have q:=A (λw=>aJf w x);have r:=oA x;have s:=A (λw=>aHh x w c);have t:=A (λw=>aHi x w c);have i:=af o;have u:=A (λw' y(n:aj w w w')=>aK8 w' b m a y (keep o n) (h.A2 (bp (λ_=>False) n) (λ_ _=>id)) p);have j:=A (λk(v:m.ownBlock=J k)=>h.lt v);have d:=aEF (qI c)
 obtain⟨z,L,g⟩:∃z:Bool,(ao.format.order x 0==J .eq)=z/\dW x=(if z then 0 else x):=by
  refine⟨_,rfl,?_⟩;rw[d];unfold dW;unfold gO aM at c
  by_cases l:x%9223372036854775808=0
  .rw[decide_eq_true l];simp;omega
  .rw[decide_eq_false l,if_neg (by omega)];simp
 have l:=A g;clear o h c d g;cases z
 all_goals
  go_enter_defers func196,ntmps196
  go_wp2_with fail;refine(q.o _).mono ?_;rintro e w1 ⟨rfl,c⟩;obtain⟨g1,h,d,B⟩:=after2 c;obtain⟨P,Q,R,S,T,q5,qf⟩:=bJ g1;have C:=A h;have g:=A d;clear c g1 h d;go_wp2_with fail;refine(dT _ 2).mono ?_;rintro e w2 ⟨rfl,rfl⟩;go_wp2_with fail;refine(s.o _).mono ?_;rintro e o ⟨rfl,rfl⟩;go_wp2_with fail;refine(t.o _).mono ?_;rintro e o ⟨rfl,rfl⟩;go_wp2_with fail;refine(dT _ 104).mono ?_;rintro e o ⟨rfl,rfl⟩;go_wp2_with fail;refine(u.o _ _ g.o).mono ?_;rintro e w4 ⟨rfl,d⟩;obtain⟨r0,rf,c,F⟩:=d.E9 g.o (iq _) C.o j.o i bm;have h:=A c;clear d c;go_wp2_with fail;refine ir (f:=211) (args:= #[D (J ⟨w.heap.size+1,0,O⟩)]) (by simp) (by simp[go_sem]) ?_;refine(gF ⟨w.heap.size+1,0,O⟩ _).mono ?_;rintro e u' G ⟨rfl,rfl,rfl⟩;have c:=h.o;have d:=l.o;simp only[gq,if_false,if_true]at d;rw[d];simp[Leaves,settle,bk,it,go_sem,F];exact c
def aK9(w:U)(b:Nat)(n:V)(a:List V)(s:ByteArray)(g:aV s.data.toList=ah)(h:s.size<=2097152)(m:w.heap[b]?=J (Y #[n] 195 (0,0)))(d:Win 97 id w n a)(p:a.length<=1048576):
 E X 196 #[D b,ae #[I N 4,ac K,I aw 0,s,I N 0,()]] w λe w'=>e=H bm/\eW w b n a 180 (av s) w':=by
 have q:=A (λw=>aHg w s);have c:=λw=>right_any s w (by omega)
 rw[g]at c;have i:=A c;have j:=af m;have r:=A (λw'(o:aj w w w')=>aJg w' b n a s h (keep m o) (d.A2 (bp (λ_=>False) o) (λ_ _=>id)) p);have l:=A (λk(t:n.ownBlock=J k)=>d.lt t);clear m d g h c
 go_enter_defers func196,ntmps196
 go_wp2_with fail;refine(q.o _).mono ?_;rintro e w1 ⟨rfl,d⟩;obtain⟨g1,h,c,u⟩:=after2 d;obtain⟨v,x,y,z,B,C,F⟩:=bJ g1;have G:=A g1;have L:=A h;have m:=A c;clear d g1 h c;go_wp2_with fail;refine(dT _ 2).mono ?_;rintro e w2 ⟨rfl,rfl⟩;go_wp2_with fail;refine(i.o _).mono ?_;rintro e Q ⟨rfl,d⟩;have c:=chain m.o d;have g1:=keep G.o d;have h:=keep L.o d;have g:=A c;obtain⟨R,S,T,p3,p4,p5,pf⟩:=bJ g1;have P:=A h;clear d c g1 h v x y z B C F;go_wp2_with fail;refine(dT _ 100).mono ?_;rintro e x ⟨rfl,rfl⟩;go_wp2_with fail;refine(r.o _ g.o).mono ?_;rintro e y ⟨rfl,d⟩;obtain⟨z,B,c,v⟩:=d.E9 g.o (iq _) P.o l.o j bm;have h:=A c;clear d c;go_wp2_with fail;refine ir (f:=211) (args:= #[D (J ⟨w.heap.size+1,0,O⟩)]) (by simp) (by simp[go_sem]) ?_;refine(gF ⟨w.heap.size+1,0,O⟩ _).mono ?_;rintro e C d ⟨rfl,rfl,rfl⟩;have c:=h.o;simp[Leaves,settle,bk,it,go_sem,v];exact c
def aJh(w:U)(b:Nat)(o:V)(a:List V)(x:Nat)(p:gO x)(j:w.heap[b]?=J (Y #[o] 195 (0,0)))(f:Win 97 id w o a)(q:a.length<=1048576)(h:a.length<65536):
 E X 175 #[D b,ae #[I N 3,ac K,I aw x,"",I N 0,()]] w λe w'=>e=H bm/\eW w b o a 179 (au ao (dW x)) w':=by
 have c:aj w w (w.alloc (Y #[I N 3,ac K,I aw x,"",I N 0,()] 147)):=(bc _ _).alloc (ai _) _;have r:=A (λw1(k:aj w w w1)=>aL0 w1 b o a x p (keep j k) (f.A2 (bp (λ_=>False) k) (λ_ _=>id)) q);have z:=cu j;have s:=af j;obtain⟨B,C,i⟩:=f.A7;
 have l:¬(65536:Int)<=(a.length:Int):=by omega
 obtain⟨F,G,L,P,Q,R,-⟩:=bJ (bw w (Y #[I N 3,ac K,I aw x,"",I N 0,()] 147));have d:=A c;clear j f h c;subst i;go_enter ez,fa;go_wp2
 go_region_with (go_at_call 196;refine(r.o _ d.o.drew).mono ?_;rintro e w2 ⟨rfl,c⟩)
 all_goals
  obtain⟨g,off,cap,f,h,m,n⟩:=c;have t:=A f;have u:=A h;have v:=A m;have y:=A n;clear f h m n;go_wp2;go_ret;exact⟨rfl,g,off,cap,t.o,u.o,v.o.elim Z (λj=>ar (bz (by simp) j)),(bp _ d.o.drew).same y.o⟩
def aAd(w:U)(b:Nat)(q:V)(a:List V)(x:Nat)(o:gO x)(h:w.heap[b]?=J (Y #[q] 195 (0,0)))(i:Win 97 id w q a)(j:65536<=a.length):
 E X 175 #[D b,ae #[I N 3,ac K,I aw x,"",I N 0,()]] w λe w'=>(∃v,e=H v)/\aj w w w':=by
 have c:aj w w (w.alloc (Y #[I N 3,ac K,I aw x,"",I N 0,()] 147)):=(bc _ _).alloc (ai _) _;have p:=cu h;have k:=af h;obtain⟨n,m,f⟩:=i.A7;have g:(65536:Int)<=(a.length:Int):=by omega
 obtain⟨l,-,-,-,-,-,-⟩:=bJ (bw w (Y #[I N 3,ac K,I aw x,"",I N 0,()] 147));have d:=A c;clear h i c;subst f;go_enter ez,fa;go_wp2;go_ret;exact⟨⟨_,rfl⟩,d.o⟩
def aHj(w:U)(b:Nat)(o:V)(a:List V)(s:ByteArray)(p:aV s.data.toList=ah)(q:s.size<=2097152)(j:w.heap[b]?=J (Y #[o] 195 (0,0)))(f:Win 97 id w o a)(r:a.length<=1048576)(h:a.length<65536):
 E X 175 #[D b,ae #[I N 4,ac K,I aw 0,s,I N 0,()]] w λe w'=>e=H bm/\eW w b o a 180 (av s) w':=by
 have c:aj w w (w.alloc (Y #[I N 4,ac K,I aw 0,s,I N 0,()] 147)):=(bc _ _).alloc (ai _) _;have t:=A (λw1(k:aj w w w1)=>aK9 w1 b o a s p q (keep j k) (f.A2 (bp (λ_=>False) k) (λ_ _=>id)) r);have B:=cu j;have u:=af j;obtain⟨C,F,i⟩:=f.A7;
 have l:¬(65536:Int)<=(a.length:Int):=by omega
 obtain⟨G,L,P,Q,R,S,-⟩:=bJ (bw w (Y #[I N 4,ac K,I aw 0,s,I N 0,()] 147));have d:=A c;clear j f h c;subst i;go_enter ez,fa;go_wp2
 go_region_with (go_at_call 196;refine(t.o _ d.o.drew).mono ?_;rintro e w2 ⟨rfl,c⟩)
 all_goals
  obtain⟨g,off,cap,f,h,m,n⟩:=c;have v:=A f;have x:=A h;have y:=A m;have z:=A n;clear f h m n;go_wp2;go_ret;exact⟨rfl,g,off,cap,v.o,x.o,y.o.elim Z (λj=>ar (bz (by simp) j)),(bp _ d.o.drew).same z.o⟩
def xD(w:U)(b:Nat)(r:V)(a:List V)(s:ByteArray)(o:aV s.data.toList=ah)(p:s.size<=2097152)(h:w.heap[b]?=J (Y #[r] 195 (0,0)))(i:Win 97 id w r a)(j:65536<=a.length):
 E X 175 #[D b,ae #[I N 4,ac K,I aw 0,s,I N 0,()]] w λe w'=>(∃v,e=H v)/\aj w w w':=by
 have c:aj w w (w.alloc (Y #[I N 4,ac K,I aw 0,s,I N 0,()] 147)):=(bc _ _).alloc (ai _) _;have q:=cu h;have k:=af h;obtain⟨n,m,f⟩:=i.A7;have g:(65536:Int)<=(a.length:Int):=by omega
 obtain⟨l,-,-,-,-,-,-⟩:=bJ (bw w (Y #[I N 4,ac K,I aw 0,s,I N 0,()] 147));have d:=A c;clear h i c;subst f;go_enter ez,fa;go_wp2;go_ret;exact⟨⟨_,rfl⟩,d.o⟩
def encS(k:List UInt8):V:=av ⟨k.toArray⟩
inductive cS(F:Nat->Prop)(w:U):V->Tr->Prop
 | null:cS F w (ag 177 (ae #[])) .null
 | flag (b:Bool):cS F w (ag 178 (ac b)) (.flag b)
 | num (x:Nat):cS F w (ag 179 (au ao x)) (.num x)
 | text (s:List UInt8):cS F w (ag 180 (av ⟨s.toArray⟩)) (dp s)
 | list (b:Nat) (itemsV:V) (vals:List V) (l:List Tr) (hb:F b) (hblk:w.heap[b]?=J (Y #[I N (ek l).A5.g,I N (ek l).A5.bytes,I N (ek l).A5.h,itemsV] 186 (0,0)))
  (hw:eK F 97 id w itemsV vals) (hlen:vals.length=l.length) (ht:∀(i:Nat)(v:V)(t:Tr),vals[i]?=J v->l[i]?=J t->cS F w v t):cS F w (ag 181 (D b)) (ek l)
 | object (b:Nat) (keysV itemsV:V) (vals:List V) (keys:List (List UInt8)) (l:List Tr) (hb:F b) (hblk:w.heap[b]?=J (Y #[I N (em keys l).A5.g,I N (em keys l).A5.bytes,I N (em keys l).A5.h,keysV,itemsV] 189 (0,0)))
  (hk:eK F 9 encS w keysV keys) (hw:eK F 97 id w itemsV vals) (hlen:vals.length=l.length) (ht:∀(i:Nat)(v:V)(t:Tr),vals[i]?=J v->l[i]?=J t->cS F w v t):cS F w (ag 187 (D b)) (em keys l)
def cS.A2{F G:Nat->Prop}{w w':U}{v:V}{t:Tr}(h:cS F w v t)(g:Keeps G w w')(m:∀k,F k->¬G k):cS F w' v t:=by
 induction h with
 | null=>exact .null
 | flag b=>exact .flag b
 | num x=>exact .num x
 | text s=>exact .text s
 | list b a c l n f j d q p=>exact .list b a c l n (g.B7 f (m b n)) ⟨j.1.A2 g (λk e=>m k (j.2 k e)),j.2⟩ d p
 | object b i a c keys l n f o j d q p=>exact .object b i a c keys l n (g.B7 f (m b n)) ⟨o.1.A2 g (λk e=>m k (o.2 k e)),o.2⟩ ⟨j.1.A2 g (λk e=>m k (j.2 k e)),j.2⟩ d p
def cS.mono{F G:Nat->Prop}{w:U}{v:V}{t:Tr}(h:cS F w v t)(g:∀k,F k->G k):cS G w v t:=by
 induction h with
 | null=>exact .null
 | flag b=>exact .flag b
 | num x=>exact .num x
 | text s=>exact .text s
 | list b a c l i e j d n m=>exact .list b a c l (g b i) e (j.mono g) d m
 | object b f a c keys l i e o j d n m=>exact .object b f a c keys l (g b i) e (o.mono g) (j.mono g) d m
def cS.K5{F:Nat->Prop}{w:U}{v:V}{t:Tr}(h:cS F w v t):∃T x,v=ag T x:=by
 cases h<;>exact⟨_,_,rfl⟩
def Win.E0{f:Type}{e:Nat}{enc:f->V}{w:U}{v:V}{l:List f}(h:Win e enc w v l){k:Nat}(a:v.ownBlock=J k):∃(c:Array V),w.heap[k]?=J (Y c e (0,0)):=by
 rcases h with⟨rfl,_⟩|⟨g,off,cap,b,rfl,d,_⟩
 .cases a
 .cases a;exact⟨_,d⟩
def eF(F:Nat->Prop)(w:U)(b:List V)(a:List Tr):Prop:=b.length=a.length/\∀(i:Nat)(v:V)(t:Tr),b[i]?=J v->a[i]?=J t->cS F w v t
def eF.A2{F G:Nat->Prop}{w w':U}{b:List V}{a:List Tr}(h:eF F w b a)(d:Keeps G w w')(c:∀k,F k->¬G k):eF F w' b a:=
 ⟨h.1,λi v t e f=>(h.2 i v t e f).A2 d c⟩
def eF.mono{F G:Nat->Prop}{w:U}{b:List V}{a:List Tr}(h:eF F w b a)(c:∀k,F k->G k):eF G w b a:=
 ⟨h.1,λi v t d e=>(h.2 i v t d e).mono c⟩
def eF.J8{F:Nat->Prop}{w:U}{b:List V}{a:List Tr}{v:V}{t:Tr}(h:eF F w b a)(g:cS F w v t):eF F w (b++ [v]) (a++ [t]):=by
 refine⟨by simp[h.1],λi x y c d=>?_⟩
 by_cases hi:i<b.length
 .rw[iu hi]at c;rw[iu (by have:=h.1;omega)]at d;exact h.2 i x y c d
 .rw[iv (by omega)]at c;rw[iv (by have:=h.1;omega)]at d
  have f:i-b.length=0:=by
   have:=(ib.1 c).1;simp at this;omega
  have e:i-a.length=0:=by have:=h.1;omega
  rw[f]at c;rw[e]at d;simp at c d;subst c;subst d;exact g
def cN(F:Nat->Prop)(w:U)(c:Nat)(b:List Tr):Prop:=
 F c/\(∀k,F k->k<w.heap.size)/\∃d a,w.heap[c]?=J (Y #[d] 195 (0,0))/\eK F 97 id w d a/\eF (λk=>F k/\k≠c/\d.ownBlock≠J k) w a b
def cN.D8{F G:Nat->Prop}{w w':U}{i:Nat}{a:List Tr}(h:cN F w i a)(c:Keeps G w w')(d:∀k,F k->¬G k):cN F w' i a:=by
 obtain⟨l,f,o,b,n,j,m⟩:=h;exact⟨l,λk g=>dq (f k g) c.size,o,b,c.B7 n (d i l),⟨j.1.A2 c λk e=>d k (j.2 k e),j.2⟩,m.A2 c λk h=>d k h.1⟩
def cN.mono{F G:Nat->Prop}{w:U}{e:Nat}{a:List Tr}(h:cN F w e a)(c:∀k,F k->G k)(d:∀k,G k->k<w.heap.size):cN G w e a:=by
 obtain⟨j,_,l,b,i,f,g⟩:=h;exact⟨c _ j,d,l,b,i,f.mono c,g.mono λk h=>⟨c k h.1,h.2⟩⟩
def eW.F4{F:Nat->Prop}{w w':U}{i:Nat}{u:V}{a:List V}{b:List Tr}{T:bu}{v:V}{t:Tr}(o:F i)(d:∀k,F k->k<w.heap.size)(p:eK F 97 id w u a)(r:eF (λk=>F k/\k≠i/\u.ownBlock≠J k) w a b)
 (j:∀G w,cS G w (ag T v) t)(h:eW w i u a T v w'):Keeps F w w'/\cN (Since F w w') w' i (b++ [t]):=by
 obtain⟨g,off,cap,s,m,q,n⟩:=h;have f:Keeps F w w':=n.mono λk f=>f.elim (λe=>e▸o) (λe=>p.2 k e)
 refine⟨f,Z o,aF d f.size,_,a++ [ag T v],s,⟨by simpa using m,?_⟩,?_⟩
 .intro k l;cases l;exact q.elim (λe=>Z (p.2 _ e)) (λc=>ar ⟨c,m.lt rfl⟩)
 .refine eF.J8 ?_ (j _ _);refine(r.A2 n λk h=>?_).mono λk h=>⟨Z h.1,h.2.1,?_⟩
  .rintro(e|e)
   .exact h.2.1 e
   .exact h.2.2 e
  .intro e;cases e;exact q.elim (λe=>h.2.2 e) (λc=>absurd (d _ h.1) (Nat.not_lt.2 c))
def aHk(F:Nat->Prop)(w:U)(i:Nat)(a:List Tr)(x:Nat)(q:gO x)(h:cN F w i a)(L:a.length<=1048576):
 E X 154 #[D i,au ao x] w λe w'=>(∃v,e=H v)/\Keeps F w w'/\cN (Since F w w') w' i (iR a x):=by
 have s:=h;obtain⟨u,f,P,c,o,n,p⟩:=h;have B:=n8 x;have m:=p.1
 by_cases b:65536<=a.length
 .have d:iR a x=a:=by unfold iR bB;rw[if_pos b]
  rw[d];have y:=A (aAd w i P c x q o n.1 (by omega));have z:=A s;have r:=A f;clear s o n p m b d u f q;go_enter func154,ntmps154;go_wp2_with fail;refine(y.o).mono ?_;rintro e w1 ⟨⟨v,rfl⟩,l⟩;have j:=A l;clear l;go_wp2;go_ret;exact⟨⟨_,rfl⟩,bp F j.o,(z.o.D8 (bp (λ_=>False) j.o) (λ_ _=>id)).mono (λk G=>Z G) (aF r.o j.o.size)⟩
 .have d:iR a x=a++ [.num (dW x)]:=by unfold iR bB pA;rw[if_neg b];simp[bx,dw]
  rw[d];have y:=A (aJh w i P c x q o n.1 (by omega) (by omega));have C:=A (λw'(h:eW w i P c 179 (au ao (dW x)) w')=>h.F4 (t:=.num (dW x)) u f n p (λ_ _=>.num _));clear s o n p m b d u f q;go_enter func154,ntmps154;go_wp2_with fail;refine(y.o).mono ?_;rintro e w1 ⟨rfl,g⟩;have j:=A (C.o _ g);clear g;go_wp2;go_ret;exact⟨⟨_,rfl⟩,j.o.1,j.o.2⟩
def aEH(F:Nat->Prop)(w:U)(n:Nat)(a:List Tr)(l:Oo)(u:aV l=ah)(z:l.length<=2097152)(Q:cN F w n a)(T:a.length<=1048576):
 E X 150 #[D n,av ⟨l.toArray⟩] w λe w'=>(∃v,e=H v)/\Keeps F w w'/\cN (Since F w w') w' n (gE a l):=by
 have B:=Q;obtain⟨C,i,R,d,x,p,y⟩:=Q;have q:=y.1;have c:gE a l=bB a (dp l):=by unfold gE;rw[if_pos u]
 rw[c];have f:aV (⟨l.toArray⟩:ByteArray).data.toList=ah:=by simpa using u
 have g:(⟨l.toArray⟩:ByteArray).size<=2097152:=by show l.toArray.size<=_;simpa using z
 have j:∀G w,cS G w (ag 180 (av ⟨l.toArray⟩)) (dp l):=λ_ _=>.text _
 obtain⟨s,m⟩:∃s:ByteArray,(⟨l.toArray⟩:ByteArray)=s:=⟨_,rfl⟩;rw[m]at f g j⊢
 by_cases b:65536<=a.length
 .have h:bB a (dp l)=a:=by unfold bB;rw[if_pos b]
  rw[h];have L:=A (xD w n R d s f g x p.1 (by omega));have S:=A B;have P:=A i;clear B x p y q b h C i u z c f g j m;go_enter func150,ntmps150;go_wp2_with fail;refine(L.o).mono ?_;rintro e w1 ⟨⟨v,rfl⟩,r⟩;have o:=A r;clear r;go_wp2;go_ret;exact⟨⟨_,rfl⟩,bp F o.o,(S.o.D8 (bp (λ_=>False) o.o) (λ_ _=>id)).mono (λk r=>Z r) (aF P.o o.o.size)⟩
 .have h:bB a (dp l)=a++ [dp l]:=by unfold bB pA;rw[if_neg b];simp[bx,dw];omega
  rw[h];have L:=A (aHj w n R d s f g x p.1 (by omega) (by omega));have r:=A (λw'(Q:eW w n R d 180 (av s) w')=>Q.F4 (t:=dp l) C i p y j);clear B x p y q b h C i u z c f g j m;go_enter func150,ntmps150;go_wp2_with fail;refine(L.o).mono ?_;rintro e w1 ⟨rfl,b⟩;have o:=A (r.o _ b);clear b;go_wp2;go_ret;exact⟨⟨_,rfl⟩,o.o.1,o.o.2⟩
def aBx(w:U):E X 73 #[] w λe w'=>e=H (D w)/\w'=w.alloc (Y #[()] 195):=by
 go_enter func73,ntmps73;go_wp2;go_ret;exact⟨rfl,rfl⟩
def aJi(F:Nat->Prop)(w:U)(i:Nat)(t:Tr)(h:cN F w i [t]):E X 54 #[D i] w λe w'=>e=H (cr #[D w,bm])/\∃v,w'=w.alloc (Y #[v] 176)/\cS F w v t:=by
 obtain⟨-,-,p,a,d,j,b⟩:=h
 obtain⟨v,rfl⟩:∃v,a= [v]:=by
  have:=b.1
  match a,this with
  | [v],_=>exact⟨v,rfl⟩
 have l:=A ((b.2 0 v t rfl rfl).mono (G:=F) λk h=>h.1);have o:=cu d;rcases j.1 with⟨_,n⟩|⟨g,off,cap,m,rfl,f,-,-,-,hi⟩
 .cases n
 .have c:w.cell? ⟨g,off,O⟩=J v:=by
   have:=hi 0 v rfl;rw[aA f];simpa using this
  simp only[ei,eo,ie]at o;clear d j b f hi;obtain⟨T,x,rfl⟩:=l.o.K5;go_enter func54,ntmps54;go_wp2_with fail;exact cg (v:=cr #[D w,bm]) (by simp[bk,results54,go_sem]) rfl ⟨rfl,_,rfl,l.o⟩
def szV(z:Sz):V:=ae #[z.g,z.bytes,z.h]
def xE(w:U):E X 343 #[ae #[]] w λe w'=>e=H (ae #[I N 1,I N 0,I N 1])/\aj w w w':=by
 go_enter func343,ntmps343;go_wp2;exact cg (v:=ae #[I N 1,I N 0,I N 1]) (by simp[bk,results343,go_sem]) rfl ⟨rfl,((bc _ _).alloc (ai _) _).alloc (by simp) _⟩
def xF(w:U)(b:Bool):E X 345 #[b] w λe w'=>e=H (ae #[I N 1,I N 0,I N 1])/\aj w w w':=by
 go_enter func345,ntmps345;go_wp2;exact cg (v:=ae #[I N 1,I N 0,I N 1]) (by simp[bk,results345,go_sem]) rfl ⟨rfl,(bc _ _).alloc (ai _) _⟩
def jF(w:U)(n b d:Nat):E X 351 #[ae #[n,b,d]] w λe w'=>e=H (ae #[n,b,d])/\aj w w w':=by
 go_enter func351,ntmps351;go_wp2;exact cg (v:=ae #[n,b,d]) (by simp[bk,results351,go_sem]) rfl ⟨rfl,((bc _ _).alloc (ai _) _).alloc (by simp) _⟩
def aEI(w:U)(b:Nat):(follow [⟨186,0,ah⟩] 181 (.val (D b))).run X w=ba (183,.var ⟨b,0,O⟩) w:=by kernel_rfl
def aJj(w:U):(typeInfo 181).run X w=ba iw w:=by kernel_rfl
def aEJ(w:U)(b:Nat):(follow [⟨189,0,ah⟩] 187 (.val (D b))).run X w=ba (183,.var ⟨b,0,O⟩) w:=by kernel_rfl
def aJk(w:U):(typeInfo 187).run X w=ba ix w:=by kernel_rfl
def aCK(w:U)(a:bj):(receiverAt 183 (.var a) K O).run X w=(gu 183 a).run X w:=by kernel_rfl
def aCL{w:U}{b:Nat}{c:Array V}{T:bu}{f e d:V}(h:w.heap[b]?=J (Y c T (0,0)))(m:c[0]?=J f)(l:c[1]?=J e)(k:c[2]?=J d):(gu 183 ⟨b,0,O⟩).run X w=ba (ae #[f,e,d]) w:=by
 have g:=run_loadCells_list (P:=X) w ⟨b,0,O⟩ [f,e,d] (λj v a=>by
  have i:(⟨b,0,O⟩:bj).add j=⟨b,j,O⟩:=by unfold im;split<;>simp_all
  rw[i,aA h]
  match j,a with
  | 0,a=>cases a;exact m
  | 1,a=>cases a;exact l
  | 2,a=>cases a;exact k
  | j+3,a=>simp at a)
 simp[gu];simp at g;rw[g];rfl
def qK{w:U}{b:Nat}{c:Array V}{S:bu}{e d a:V}(h:w.heap[b]?=J (Y c S (0,0)))(j:c[0]?=J e)(i:c[1]?=J d)(g:c[2]?=J a):
 (ct 565 181 (D b) "affidavit/node.sized").run X w=ba (351,ae #[e,d,a]) w:=by
 have f:iw.methods.find? (·.name== "affidavit/node.sized")=J ⟨ "affidavit/node.sized",388,#[⟨186,0,ah⟩],J (351,K)⟩:=by kernel_rfl
 unfold ct;rw[eh,aJj];simp only[fc,f];rw[eh,aEI];simp only[fc];rw[eh];simp[aCK,iy,aCL h j i g]
def qL{w:U}{b:Nat}{c:Array V}{S:bu}{e d a:V}(h:w.heap[b]?=J (Y c S (0,0)))(j:c[0]?=J e)(i:c[1]?=J d)(g:c[2]?=J a):
 (ct 565 187 (D b) "affidavit/node.sized").run X w=ba (351,ae #[e,d,a]) w:=by
 have f:ix.methods.find? (·.name== "affidavit/node.sized")=J ⟨ "affidavit/node.sized",388,#[⟨189,0,ah⟩],J (351,K)⟩:=by kernel_rfl
 unfold ct;rw[eh,aJk];simp only[fc,f];rw[eh,aEJ];simp only[fc];rw[eh];simp[aCK,iy,aCL h j i g]
def gU(l:List Tr):(ek l).A5=fY 0 (l.map bx):=by
 rw[bx];congr 1;exact iz
def hZ(k:List Oo)(l:List Tr):(em k l).A5=fY (bD k) (l.map bx):=by
 rw[bx];congr 1;exact iz
def cT(bytes:Nat)(l:List Sz):Sz:=l.foldl (λ(a z:Sz)=>(⟨a.g+z.g,a.bytes+z.bytes,cj a.h z.h⟩:Sz)) ⟨1,bytes,0⟩
def aCM(bytes:Nat)(l:List Sz)(z:Sz):cT bytes (l++ [z])=⟨(cT bytes l).g+z.g,(cT bytes l).bytes+z.bytes,cj (cT bytes l).h z.h⟩:=by
 unfold cT;rw[fj];rfl
def lA(bytes:Nat)(l:List Sz):fY bytes l=⟨(cT bytes l).g,(cT bytes l).bytes,(cT bytes l).h+1⟩:=rfl
def aCN{bytes:Nat}{l:List Sz}{i:Nat}{z:Sz}(h:l[i]?=J z):cT bytes (l.take (i+1))=⟨(cT bytes (l.take i)).g+z.g,(cT bytes (l.take i)).bytes+z.bytes,cj (cT bytes (l.take i)).h z.h⟩:=by
 rw[<-aCM,gy,h];rfl
def sB:∀(l:List Sz)(a:Sz),(∀z∈l,z.A9=ah)->a.h<=512->
 (l.foldl (λ(a z:Sz)=>(⟨a.g+z.g,a.bytes+z.bytes,cj a.h z.h⟩:Sz)) a).g<=a.g+l.length*65536/\
 (l.foldl (λ(a z:Sz)=>(⟨a.g+z.g,a.bytes+z.bytes,cj a.h z.h⟩:Sz)) a).bytes<=a.bytes+l.length*2097152/\
 (l.foldl (λ(a z:Sz)=>(⟨a.g+z.g,a.bytes+z.bytes,cj a.h z.h⟩:Sz)) a).h<=512
 | [],a,_,b=>⟨by simp,by simp,b⟩
 | z::l,a,h,b=>by
  have d:=h z (by simp);simp[dw]at d;have:=sB l ⟨a.g+z.g,a.bytes+z.bytes,cj a.h z.h⟩ (λy c=>h y (List.mem_cons_of_mem _ c)) (by simp only[];omega);simp only[List.foldl_cons,ei]at this⊢;omega
def sC{bytes:Nat}{l:List Sz}(h:∀z∈l,z.A9=ah):(cT bytes l).g<=1+l.length*65536/\(cT bytes l).bytes<=bytes+l.length*2097152/\(cT bytes l).h<=512:=
 sB l ⟨1,bytes,0⟩ h (by simp)
def oB(w:U)(bytes:Nat)(a:List Sz)(i:Nat)(wr:U):Prop:=
 wr.heap[w.heap.size]?=J (Y #[I N 0,I N 0,I N 0] 183 (0,0))/\wr.heap[w.heap.size+1]?=J (Y #[I N (cT bytes (a.take i)).g,I N (cT bytes (a.take i)).bytes,I N (cT bytes (a.take i)).h] 183 (0,0))/\aj w w wr
def oB.P2{w b:U}{bytes i:Nat}{d:List Sz}{a z:Sz}{h j l:Int}(m:b.heap[w.heap.size+1]?=J (Y #[a.g,a.bytes,a.h] 183 (0,0)))(s:b.heap[w.heap.size]?=J (Y #[I N 0,I N 0,I N 0] 183 (0,0)))
 (f:aj w w b)(t:cT bytes (d.take (i+1))=⟨a.g+z.g,a.bytes+z.bytes,cj a.h z.h⟩)(q:h=((a.g+z.g:Nat):Int))(r:j=((a.bytes+z.bytes:Nat):Int))(n:l=((cj a.h z.h:Nat):Int))(o:Obj):
 oB w bytes d (i+1) ((((b.setCell ⟨w.heap.size+1,0,O⟩ (I N h)).setCell ⟨w.heap.size+1,1,O⟩ (I N j)).setCell ⟨w.heap.size+1,2,O⟩ (I N l)).alloc o):=by
 subst q;subst r;subst n;have c:=af m
 have g:Keeps (λk=>k=w.heap.size+1) b ((((b.setCell ⟨w.heap.size+1,0,O⟩ (I N ((a.g+z.g:Nat):Int))).setCell ⟨w.heap.size+1,1,O⟩ (I N ((a.bytes+z.bytes:Nat):Int))).setCell ⟨w.heap.size+1,2,O⟩ (I N ((cj a.h z.h:Nat):Int))).alloc o):=
  ((((bh (λk=>k=w.heap.size+1) b).A3 (p:=⟨w.heap.size+1,0,O⟩) (Z rfl) _).A3 (p:=⟨w.heap.size+1,1,O⟩) (Z rfl) _).A3 (p:=⟨w.heap.size+1,2,O⟩) (Z rfl) _).A6 _
 refine⟨g.B7 s (by omega),?_,f.trans (g.C6 f.size (λk e=>by omega))⟩;rw[t];exact(di _ _ _ (by simpa[il]using c)).trans (aB (aB (aB m _) _) _)
def mT(F:Nat->Prop)(w:U)(a0:V)(c:List V)(n:List Tr)(bytes:Nat)(hw:Win 97 id w a0 c)(ht:eF F w c n)(hin:∀t∈n,t.A5.A9=ah)(hlen:n.length<=65536)(hby:bytes<=1073741824):
 E X 221 #[a0,bytes] w λe w'=>e=H (szV (fY bytes (n.map bx)))/\aj w w w':=by
 obtain⟨u,Q⟩:∃u,n.map bx=u:=⟨_,rfl⟩;have hzl:u.length=c.length:=by rw[<-Q,List.length_map,ht.1]
 have hzw:∀z∈u,z.A9=ah:=λz hz=>by
  rw[<-Q]at hz;obtain⟨t,h1,rfl⟩:=List.mem_map.1 hz;exact hin t h1
 have hvl:c.length<=65536:=by rw[ht.1];exact hlen
 have hbnd:∀i,(cT bytes (u.take i)).g<=4294967297/\(cT bytes (u.take i)).bytes<=138512695296/\(cT bytes (u.take i)).h<=512:=λi=>by
  have:=sC (bytes:=bytes) (l:=u.take i) (λz hz=>hzw z (List.mem_of_mem_take hz));have hl:(u.take i).length<=65536:=by rw[List.length_take];omega
  omega
 rw[Q,lA];have HZS:=A Q;have HT:=A ht;have HWN:=A hw;have HBND:=A hbnd;have HZL:=A hzl;have HZW:=A hzw
 have L:oB w bytes u 0 ((w.alloc (Y #[I N 0,I N 0,I N 0] 183)).alloc (Y #[I N 1,bytes,I N 0] 183)):=by
  refine⟨(di _ _ _ (by simp)).trans (bw w _),?_,((bc _ _).alloc (ai _) _).alloc (by simp) _⟩;have:=bw (w.alloc (Y #[I N 0,I N 0,I N 0] 183)) (Y #[I N 1,bytes,I N 0] 183);rw[World.size_alloc]at this;exact this
 have HI:=A L;obtain⟨va,vc,hV⟩:=hw.A7;subst hV;clear Q hzl hzw hbnd ht hw hin hlen L;rcases Nat.eq_zero_or_pos c.length with h0|h0
 .rw[h0];have HV0:=A h0;clear h0;go_enter func221,ntmps221;go_wp2
  go_loopw [13] (λv wr=>v=I N 0/\M (oB w bytes u 0 wr)) (λ_ _=>0)
  case atStart=>exact⟨rfl,HI⟩
  case round=>
   obtain⟨rfl,HS⟩:=hrel;obtain⟨m,h,j⟩:=HS.o;obtain⟨a,G⟩:∃a,cT bytes (u.take 0)=a:=⟨_,rfl⟩;rw[G]at h;have hab:a=⟨1,bytes,0⟩:=G.symm;have hz0:u= []:=List.eq_nil_of_length_eq_zero (by rw[HZL.o,HV0.o]);have HA2:=A (show cT bytes u=a by rw[<-G,hz0];rfl);have q0:wr.cell? ⟨w.heap.size+1,0,O⟩=J (I N a.g):=by rw[aA h];rfl
   have q1:wr.cell? ⟨w.heap.size+1,1,O⟩=J (I N a.bytes):=by rw[aA h];rfl
   have q2:wr.cell? ⟨w.heap.size+1,2,O⟩=J (I N a.h):=by rw[aA h];rfl
   have qf:∀o,wr.frozen? ⟨w.heap.size+1,o,O⟩=K:=free_at h;have r0:wr.cell? w=J (I N 0):=by rw[aA m];rfl
   have r1:wr.cell? ⟨w.heap.size,1,O⟩=J (I N 0):=by rw[aA m];rfl
   have r2:wr.cell? ⟨w.heap.size,2,O⟩=J (I N 0):=by rw[aA m];rfl
   have rf:∀o,wr.frozen? ⟨w.heap.size,o,O⟩=K:=free_at m;have hab3:a.h<=512:=by rw[hab];simp
   have HR0:=A m;have HBL:=A j;clear m h j G hab hz0 HI;go_wp2_with fail;rw[HA2.o];have hk1:Keeps (λk=>k=w.heap.size+1) wr (wr.setCell ⟨w.heap.size+1,2,O⟩ (I N ((a.h:Int)+1))):=(bh (λk=>k=w.heap.size+1) wr).A3 (p:=⟨w.heap.size+1,2,O⟩) (Z rfl) _;have hr1:=hk1.B7 HR0.o (by omega);have f:=aB (aB (aB hr1 (o:=0) (I N a.g)) (o:=1) (I N a.bytes)) (o:=2) (I N ((a.h:Int)+1));simp only[ja,jb,jc]at f;have S:=((((HBL.o.setCell (p:=⟨w.heap.size+1,2,O⟩) (by simp) (I N ((a.h:Int)+1))).setCell (p:=w) (ai _) (I N a.g)).setCell (p:=⟨w.heap.size,1,O⟩) (ai _) (I N a.bytes)).setCell (p:=⟨w.heap.size,2,O⟩) (ai _) (I N ((a.h:Int)+1)));obtain⟨T,hWf⟩:∃T,((((wr.setCell ⟨w.heap.size+1,2,O⟩ (I N ((a.h:Int)+1))).setCell w (I N a.g)).setCell ⟨w.heap.size,1,O⟩ (I N a.bytes)).setCell ⟨w.heap.size,2,O⟩ (I N ((a.h:Int)+1)))=T:=⟨_,rfl⟩;rw[hWf]at f S⊢;have y0:T.cell? w=J (I N a.g):=by rw[aA f];rfl
   have y1:T.cell? ⟨w.heap.size,1,O⟩=J (I N a.bytes):=by rw[aA f];rfl
   have y2:T.cell? ⟨w.heap.size,2,O⟩=J (I N ((a.h:Int)+1)):=by rw[aA f];rfl
   exact cg (v:=ae #[I N a.g,I N a.bytes,I N ((a.h:Int)+1)]) (by simp[bk,jd,go_sem,y0,y1,y2]) rfl ⟨rfl,S⟩
 .obtain⟨g,off,P,rfl,hgb,R⟩:∃g off P,va=J ⟨g,off,O⟩/\w.heap[g]?=J (Y P 97 (0,0))/\∀i x,c[i]?=J x->P[off+i]?=J x:=by
   rcases HWN.o with⟨hv,hn⟩|⟨g,off,cap,P,hv,hg,hc,ho,hm,hi⟩
   .rw[hn]at h0;simp at h0
   .cases hv;exact⟨g,off,P,rfl,hg,hi⟩
  have hgl:=af hgb;have HGB:=A hgb;have HCL:=A R;clear hgb R h0;go_enter func221,ntmps221;go_wp2
  go_loopw [13] (λv wr=>∃i:Nat,v=I N i/\i<=c.length/\M (oB w bytes u i wr)) (λv _=>c.length-(intOf v).toNat)
  case atStart=>exact⟨0,rfl,gx _,HI⟩
  case round=>
   obtain⟨i,rfl,hin,HS⟩:=hrel;clear HI;obtain⟨m,h,j⟩:=HS.o;obtain⟨a,G⟩:∃a,cT bytes (u.take i)=a:=⟨_,rfl⟩;have hab:=HBND.o i;rw[G]at h hab;obtain⟨hab1,hab2,hab3⟩:=hab;have q0:wr.cell? ⟨w.heap.size+1,0,O⟩=J (I N a.g):=by rw[aA h];rfl
   have q1:wr.cell? ⟨w.heap.size+1,1,O⟩=J (I N a.bytes):=by rw[aA h];rfl
   have q2:wr.cell? ⟨w.heap.size+1,2,O⟩=J (I N a.h):=by rw[aA h];rfl
   have qf:∀o,wr.frozen? ⟨w.heap.size+1,o,O⟩=K:=free_at h;have r0:wr.cell? w=J (I N 0):=by rw[aA m];rfl
   have r1:wr.cell? ⟨w.heap.size,1,O⟩=J (I N 0):=by rw[aA m];rfl
   have r2:wr.cell? ⟨w.heap.size,2,O⟩=J (I N 0):=by rw[aA m];rfl
   have rf:∀o,wr.frozen? ⟨w.heap.size,o,O⟩=K:=free_at m;have hszr:=af h;have HR0:=A m;have HS0:=A h;have HA:=A G;have HBL:=A j
   by_cases hlt:i<c.length
   .have hlt2:(i:Int)<(c.length:Int):=by omega
    obtain⟨vi,hvi⟩:∃vi,c[i]?=J vi:=⟨_,dv hlt⟩;obtain⟨ti,hti⟩:∃ti,n[i]?=J ti:=⟨_,dv (by have:=HT.o.1;omega)⟩;obtain⟨d,y⟩:∃d,ti.A5=d:=⟨_,rfl⟩;have hzz:u[i]?=J d:=by rw[<-HZS.o,List.getElem?_map,hti,<-y];rfl
    have htree:=HT.o.2 i vi ti hvi hti
    have hcv:wr.cell? ⟨g,off+i,O⟩=J vi:=by
     rw[aA ((j.block g hgl).trans HGB.o)];exact HCL.o i vi hvi
    have hzb:=HZW.o d (List.mem_of_getElem? hzz);have hzb2:d.g<=65536/\d.bytes<=2097152/\d.h<=512:=by simp[dw]at hzb;omega
    obtain⟨hzb3,hzb4,-⟩:=hzb2;have HNXT:=A (show cT bytes (u.take (i+1))=⟨a.g+d.g,a.bytes+d.bytes,cj a.h d.h⟩ by rw[aCN hzz,G]);clear hvi hti hzz hzb G m h;rcases htree with _|b|x|s|⟨b2,itemsV,vals2,l2,hb2,r,hw2,hlen2,ht2⟩|⟨b2,keysV,itemsV,vals2,keys,l2,hb2,r,hk2,hw2,hlen2,ht2⟩
    focus
     have hm:∀w:U,(ct 565 177 (ae #[]) "affidavit/node.sized").run X w=ba (343,ae #[]) w:=λ_=>by kernel_rfl
     have C:=A (λw0=>xE w0);have hz1:d.g=1/\d.bytes=0/\d.h=1:=by rw[<-y];simp[bx]
    rotate_left
    focus
     have hm:∀w:U,(ct 565 178 (ac b) "affidavit/node.sized").run X w=ba (345,ac b) w:=λ_=>by kernel_rfl
     have C:=A (λw0=>xF w0 b);have hz1:d.g=1/\d.bytes=0/\d.h=1:=by rw[<-y];simp[bx]
    rotate_left
    focus
     have hm:∀w:U,(ct 565 179 (au ao x) "affidavit/node.sized").run X w=ba (347,au ao x) w:=λ_=>by kernel_rfl
     have C:=A (λw0=>aAK w0 x);have hz1:d.g=1/\d.bytes=0/\d.h=1:=by rw[<-y];simp[bx]
    rotate_left
    focus
     obtain⟨sv,hsv⟩:∃sv:ByteArray,(⟨s.toArray⟩:ByteArray)=sv:=⟨_,rfl⟩;rw[hsv]at hcv;have hss:sv.size=s.length:=by rw[<-hsv];show s.toArray.size=_;simp
     have hm:∀w:U,(ct 565 180 (av sv) "affidavit/node.sized").run X w=ba (349,av sv) w:=λ_=>by kernel_rfl
     have C:=A (λw0=>xA w0 sv);rw[hss]at C;have hz1:d.g=1/\d.bytes=s.length/\d.h=1:=by rw[<-y];simp[bx]
     clear hsv hss
    rotate_left
    focus
     have q:=(j.block b2 (af r)).trans r;have hm:=qK q rfl rfl rfl;rw[y]at hm;have C:=A (λw0=>jF w0 d.g d.bytes d.h);have hz1:d.g=d.g/\d.bytes=d.bytes/\d.h=d.h:=⟨rfl,rfl,rfl⟩;clear r q hw2 ht2
    rotate_left
    focus
     have q:=(j.block b2 (af r)).trans r;have hm:=qL q rfl rfl rfl;rw[y]at hm;have C:=A (λw0=>jF w0 d.g d.bytes d.h);have hz1:d.g=d.g/\d.bytes=d.bytes/\d.h=d.h:=⟨rfl,rfl,rfl⟩;clear r q hk2 hw2 ht2
    all_goals
     clear y j;go_wp2_with fail;refine(C.o _).mono ?_;rintro e w4 ⟨rfl,hb4⟩;have B:=keep HS0.o hb4;have hr4:=keep HR0.o hb4;have d0:w4.cell? ⟨w.heap.size+1,0,O⟩=J (I N a.g):=by rw[aA B];rfl
     have d1:w4.cell? ⟨w.heap.size+1,1,O⟩=J (I N a.bytes):=by rw[aA B];rfl
     have d2:w4.cell? ⟨w.heap.size+1,2,O⟩=J (I N a.h):=by rw[aA B];rfl
     have df:∀o,w4.frozen? ⟨w.heap.size+1,o,O⟩=K:=free_at B;have hsz4:=af B
     have HS4:=A B;have HR4:=A hr4;have HB4:=A (HBL.o.trans (hb4.mono (Nat.le_of_lt (by omega))));clear B hr4 hb4 q0 q1 q2 qf r0 r1 r2 rf hcv;go_wp2_with fail;refine⟨⟨i+1,by congr 1,by omega,A (oB.P2 HS4.o HR4.o HB4.o HNXT.o (by omega) (by omega) (by omega) _)⟩,?_⟩
     show c.length-((i:Int)+1).toNat<c.length-((i:Int)).toNat
     omega
   .have heq:i=c.length:=by omega
    subst heq;clear G m h j;go_wp2_with fail;have G:=HA.o;rw[List.take_of_length_le (Nat.le_of_eq HZL.o)]at G;rw[G];have hk1:Keeps (λk=>k=w.heap.size+1) wr (wr.setCell ⟨w.heap.size+1,2,O⟩ (I N ((a.h:Int)+1))):=(bh (λk=>k=w.heap.size+1) wr).A3 (p:=⟨w.heap.size+1,2,O⟩) (Z rfl) _;have hr1:=hk1.B7 HR0.o (by omega);have f:=aB (aB (aB hr1 (o:=0) (I N a.g)) (o:=1) (I N a.bytes)) (o:=2) (I N ((a.h:Int)+1));simp only[ja,jb,jc]at f;have S:=((((HBL.o.setCell (p:=⟨w.heap.size+1,2,O⟩) (by simp) (I N ((a.h:Int)+1))).setCell (p:=w) (ai _) (I N a.g)).setCell (p:=⟨w.heap.size,1,O⟩) (ai _) (I N a.bytes)).setCell (p:=⟨w.heap.size,2,O⟩) (ai _) (I N ((a.h:Int)+1)));obtain⟨T,hWf⟩:∃T,((((wr.setCell ⟨w.heap.size+1,2,O⟩ (I N ((a.h:Int)+1))).setCell w (I N a.g)).setCell ⟨w.heap.size,1,O⟩ (I N a.bytes)).setCell ⟨w.heap.size,2,O⟩ (I N ((a.h:Int)+1)))=T:=⟨_,rfl⟩;rw[hWf]at f S⊢;have y0:T.cell? w=J (I N a.g):=by rw[aA f];rfl
    have y1:T.cell? ⟨w.heap.size,1,O⟩=J (I N a.bytes):=by rw[aA f];rfl
    have y2:T.cell? ⟨w.heap.size,2,O⟩=J (I N ((a.h:Int)+1)):=by rw[aA f];rfl
    exact cg (v:=ae #[I N a.g,I N a.bytes,I N ((a.h:Int)+1)]) (by simp[bk,jd,go_sem,y0,y1,y2]) rfl ⟨rfl,S⟩
