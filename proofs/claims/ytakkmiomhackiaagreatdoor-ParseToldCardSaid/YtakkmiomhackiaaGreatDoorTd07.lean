/-
  The program, one part of its walk. Conditions: none.
-/
import Derived.Test.YtakkmiomhackiaaGreatDoorTd06
import Derived.Sort.Grow
import Derived.Laws.EntriesVeiled
set_option linter.all false
set_option maxRecDepth 100000
set_option maxHeartbeats 16000000
open Go.Proofs.Tryz
open Bool renaming false->H,true->ar
open Go renaming Addr->ao,Calls->Y,Ending->bj,TypeId->aw,Value->ae,World->U,bodyPost_ret->bm,bytesRow->ai,grownCap->ag,heap_alloc_new->au,lt_of_block->K,results->bp
open Go.Ending renaming returned->Z
open Go.IntKind renaming i64->S,u8->O,wrap_i64->dl
open Go.Obj renaming cells->V
open Go.Obj.cells renaming injEq->dp
open Go.Proofs.Tryz renaming func190->az,func258->ck,ntmps190->ba,ntmps258->co,prog->X
open Go.Proofs.YtakkmiomhackiaaGreatDoor.Keeps renaming A3->cu
open Go.RowKit renaming Below->ak
open Go.RowKit.Below renaming heap_alloc->cz,refl->bk
open Go.Sort renaming grow->dh
open Go.Value renaming agg->av,bool->E,iface->aj,int->I,nilIface->bc,ownBlock->cr,pointer->ac,slice->ah
open Go.World.mk renaming injEq->dm
open List renaming foldl_append->dj,getElem?_eq_getElem->cj,length_cons->bs,length_nil->bu,take_succ_cons->bx,take_zero->bz
open List.cons renaming injEq->cg
open Nat renaming le_refl->af,le_succ_of_le->cw,le_trans->bh,lt_of_lt_of_le->cv,reduceAdd->bw,zero_le->di
open Option renaming none->J,some->N
open Option.some renaming injEq->ct
open Or renaming inl->W,inr->bg
namespace Go.Proofs.YtakkmiomhackiaaGreatDoor.Dr
open Go.RowKit
structure Below(B:Nat)(w w':U):Prop where
 os:w'.os=w.os
 tape:w'.tape=w.tape
 output:w'.output=w.output
 size:w.heap.size<=w'.heap.size
 block:∀k,k<B->w'.heap[k]?=w.heap[k]?
 drawn:w.drawn<=w'.drawn
theorem Below.G5{B:Nat}{w w':U}(h:Below B w w'):ak B w w':=⟨h.os,h.tape,h.output,h.size,h.block⟩
theorem Below.A3(B:Nat)(w:U):Below B w w:=⟨rfl,rfl,rfl,af _,λ_ _=>rfl,af _⟩
theorem Below.B9{B:Nat}{a b c:U}(h:Below B a b)(k:Below B b c):Below B a c:=
 ⟨k.os.trans h.os,k.tape.trans h.tape,k.output.trans h.output,bh h.size k.size,λi hi=>(k.block i hi).trans (h.block i hi),bh h.drawn k.drawn⟩
theorem Below.A6{B a:Nat}{w w':U}(h:Below B w w')(c:a<=B):Below a w w':=⟨h.os,h.tape,h.output,h.size,λk b=>h.block k (cv b c),h.drawn⟩
theorem Below.A9{B:Nat}{a w:U}(h:Below B a w):Below B a w.drew:=⟨h.os,h.tape,h.output,h.size,h.block,cw h.drawn⟩
theorem Below.A4{B:Nat}{a w:U}(h:Below B a w)(c:B<=w.heap.size)(o:Obj):Below B a (w.alloc o):=
 h.B9 ⟨rfl,rfl,rfl,by simp,λk b=>cz _ _ _ (by omega),af _⟩
theorem Below.B5{B:Nat}{w w':U}(h:Below B w w'){p:ao}(a:p.block<B):w'.cell? p=w.cell? p:=h.G5.cell a
theorem after1{w w1:U}{o1:Obj}(h:Below (w.alloc o1).heap.size (w.alloc o1) w1):w1.heap[w.heap.size]?=N o1/\Below w.heap.size w w1/\w.heap.size+1<=w1.heap.size:=by
 refine⟨(h.block _ (by simp)).trans (au w o1),((Below.A3 _ _).A4 (af _) _).B9 (h.A6 (by simp)),by simpa using h.size⟩
theorem after2{w w1:U}{o1 b:Obj}(h:Below ((w.alloc o1).alloc b).heap.size ((w.alloc o1).alloc b) w1):w1.heap[w.heap.size]?=N o1/\w1.heap[w.heap.size+1]?=N b/\Below w.heap.size w w1/\w.heap.size+2<=w1.heap.size:=by
 have a:=after1 h;have c:=after1 a.2.1;exact⟨c.1,by simpa using a.1,c.2.1,by simpa using a.2.2⟩
theorem keep{w1 w2:U}{b:Nat}{o:Obj}(h:w1.heap[b]?=N o)(a:Below w1.heap.size w1 w2):w2.heap[b]?=N o:=(a.block b (K h)).trans h
theorem chain{w w1 w2:U}(h:Below w.heap.size w w1)(a:Below w1.heap.size w1 w2):Below w.heap.size w w2:=h.B9 (a.A6 h.size)
structure Keeps(F:Nat->Prop)(w w':U):Prop where
 os:w'.os=w.os
 tape:w'.tape=w.tape
 output:w'.output=w.output
 size:w.heap.size<=w'.heap.size
 block:∀k,k<w.heap.size->¬F k->w'.heap[k]?=w.heap[k]?
 drawn:w.drawn<=w'.drawn
section
variable {F G:Nat->Prop} {w w' w1 w2:U}
theorem Keeps.G5(h:Keeps F w w'):YtakkmiomhackiaaGreatDoor.Keeps F w w':=⟨h.os,h.tape,h.output,h.size,h.block⟩
theorem Keeps.A3(F:Nat->Prop)(w:U):Keeps F w w:=⟨rfl,rfl,rfl,af _,λ_ _ _=>rfl,af _⟩
theorem Keeps.A6(h:Keeps F w w')(a:∀k,F k->G k):Keeps G w w':=⟨h.os,h.tape,h.output,h.size,λk b c=>h.block k b (λd=>c (a k d)),h.drawn⟩
theorem Keeps.B9(h:Keeps F w w1)(a:Keeps G w1 w2)(b:∀k,G k->F k\/w.heap.size<=k):Keeps F w w2:=
 have p:=h.G5.B9 a.G5 b
 ⟨p.os,p.tape,p.output,p.size,p.block,bh h.drawn a.drawn⟩
theorem Keeps.B8(h:Keeps F w w1)(b:Keeps F w1 w2):Keeps F w w2:=h.B9 b λ_ a=>W a
theorem Keeps.A4(h:Keeps F w w1)(o:Obj):Keeps F w (w1.alloc o):=
 have p:=h.G5.A4 o
 ⟨p.os,p.tape,p.output,p.size,p.block,h.drawn⟩
theorem Keeps.A2(h:Keeps F w w1){p:ao}(a:F p.block\/w.heap.size<=p.block)(u:ae):Keeps F w (w1.setCell p u):=
 have p:=h.G5.A2 a u
 ⟨p.os,p.tape,p.output,p.size,p.block,h.drawn⟩
theorem Keeps.A9(h:Keeps F w w1):Keeps F w w1.drew:=⟨h.os,h.tape,h.output,h.size,h.block,cw h.drawn⟩
theorem Keeps.A5(h:Keeps F w w1)(a:Below w1.heap.size w1 w2):Keeps F w w2:=
 have p:=h.G5.A5 a.G5
 ⟨p.os,p.tape,p.output,p.size,p.block,bh h.drawn a.drawn⟩
theorem Keeps.A1(F:Nat->Prop)(h:Below w.heap.size w w'):Keeps F w w':=(Keeps.A3 F w).A5 h
theorem Keeps.B3(h:Keeps F w w'){n:Nat}(a:n<=w.heap.size)(b:∀k,F k->n<=k):Below n w w':=
 have p:=h.G5.B3 a b
 ⟨p.os,p.tape,p.output,p.size,p.block,h.drawn⟩
theorem Keeps.C4(h:Keeps F w w'){k:Nat}{o:Obj}(a:w.heap[k]?=N o)(b:¬F k):w'.heap[k]?=N o:=(h.block k (K a) b).trans a
theorem Keeps.B5(h:Keeps F w w'){p:ao}{v:ae}(a:w.cell? p=N v)(b:¬F p.block):w'.cell? p=N v:=h.G5.B5 a b
end
theorem Below.T5{w w':U}(h:Below w.heap.size w w'):∃q a,w'=dh (w.drewN q) a:=by
 refine⟨w'.drawn-w.drawn,w'.heap.extract w.heap.size w'.heap.size,?_⟩;obtain⟨e,d,j,m,f,o⟩:=h;cases w with
 | mk c s t r l=>
 cases w' with
 | mk b k p a g=>
 simp only at e d j m f o;subst e;subst d;subst j;unfold dh World.drewN;simp only[dm,and_true,true_and];refine⟨?_,by omega⟩;apply Array.ext_getElem?;intro i
 by_cases hi:i<c.size
 .rw[f i hi,Array.getElem?_append_left hi]
 .rw[Array.getElem?_append_right (by omega),Array.getElem?_extract]
  by_cases n:i<b.size
  .rw[if_pos (by omega),show c.size+(i-c.size)=i by omega]
  .rw[if_neg (by omega),Array.getElem?_eq_none (by omega)]
def formV(f:Form):ae:=av #[I S f.wide,I O f.low,I O f.high]
theorem formOf_any(c:UInt8)(w:U):Y X 205 #[I O ((c.toNat:Nat):Int)] w λe w'=>e=Z (formV (aC c))/\Below w.heap.size w w':=by
 have d:=L (λv:Array ae=>(Below.A3 w.heap.size w).A4 (af _) (V v 349));obtain⟨v,a⟩:∃v,aC c=v:=⟨_,rfl⟩;rw[a];unfold aC at a
 by_cases i:((c.toNat:Nat):Int)<128
 rotate_left
 by_cases k:((c.toNat:Nat):Int)<194
 rotate_left
 by_cases o:((c.toNat:Nat):Int)<224
 rotate_left
 by_cases h:((c.toNat:Nat):Int)=224
 rotate_left
 by_cases g:((c.toNat:Nat):Int)=237
 rotate_left
 by_cases m:((c.toNat:Nat):Int)<240
 rotate_left
 by_cases f:((c.toNat:Nat):Int)=240
 rotate_left
 by_cases j:((c.toNat:Nat):Int)<244
 rotate_left
 by_cases b:((c.toNat:Nat):Int)=244
 all_goals
  repeat(first|rw[if_pos (by omega)]at a|rw[if_neg (by omega)]at a)
  subst a
  try have p:(((c.toNat:Nat):Int)==224)=H:=by simpa using h
  try have q:(((c.toNat:Nat):Int)==237)=H:=by simpa using g
  try have l:(((c.toNat:Nat):Int)==240)=H:=by simpa using f
  try have n:(((c.toNat:Nat):Int)==244)=H:=by simpa using b
  go_enter func205,ntmps205;go_wp2;exact bm (by simp[bp,results205,go_sem,formV]) rfl ⟨rfl,d.o _⟩
theorem may_any(f:Form)(i:Nat)(c:UInt8)(w:U):Y X 206 #[formV f,I S i,I O ((c.toNat:Nat):Int)] w λe w'=>e=Z (E (f.D5 i c))/\Below w.heap.size w w':=by
 obtain⟨k,g,hi⟩:=f;have h:=L (λv:Array ae=>(Below.A3 w.heap.size w).A4 (af _) (V v 349));obtain⟨o,a⟩:∃o,(Form.mk k g hi).D5 i c=o:=⟨_,rfl⟩;rw[a];unfold Form.D5 at a;unfold formV;dsimp only at a⊢
 by_cases b:i=1
 subst b;rw[if_pos rfl]at a
 by_cases j:(g:Int)<=((c.toNat:Nat):Int)
 by_cases l:((c.toNat:Nat):Int)<=(hi:Int)
 rotate_left 3
 rw[if_neg b]at a;have g1:¬(i:Int)=1:=by omega
 have m:((i:Int)==1)=H:=by simpa using g1
 clear b
 by_cases j:(128:Int)<=((c.toNat:Nat):Int)
 by_cases l:((c.toNat:Nat):Int)<=191
 all_goals
  first
  | have d:o=ar:=by rw[<-a];simp;omega
  | have d:o=H:=by rw[<-a];simp;omega
  subst d;clear a;go_enter func206,ntmps206;go_wp2;exact bm (by simp[bp,results206,go_sem]) rfl ⟨rfl,h.o _⟩
def HeldOk(held:List UInt8):Prop:=∀h t,held=h::t->held.length<(aC h).wide
theorem wide_le(c:UInt8):(aC c).wide<=4:=by unfold aC;repeat' (first|exact by decide|split)
theorem HeldOk.le{held:List UInt8}(h:HeldOk held):held.length<=3:=by
 cases held with
 | nil=>exact di _
 | cons a t=>have:=h a t rfl;have:=wide_le a;omega
def Feeds(w:U)(b pl:Nat)(held:List UInt8):Prop:=HeldOk held/\∃a a1 a2 a3:UInt8,w.heap[b]?=N (V #[I S pl,I O ((a.toNat:Nat):Int),I O ((a1.toNat:Nat):Int),I O ((a2.toNat:Nat):Int),I O ((a3.toNat:Nat):Int),I S held.length,E H] 305 (0,0))/\
 held= [a,a1,a2,a3].take held.length
theorem Feeds.A0{F:Nat->Prop}{w w':U}{b pl:Nat}{held:List UInt8}(h:Feeds w b pl held)(a:Keeps F w w')(g:¬F b):Feeds w' b pl held:=by
 obtain⟨e,c,a1,a2,a3,d,f⟩:=h;exact⟨e,c,a1,a2,a3,a.C4 d g,f⟩
theorem cells7{w:U}{b:Nat}{f e c a g i d:ae}{T:aw}(h:w.heap[b]?=N (V #[f,e,c,a,g,i,d] T (0,0))):w.cell? ⟨b,0,J⟩=N f/\w.cell? ⟨b,1,J⟩=N e/\w.cell? ⟨b,2,J⟩=N c/\w.cell? ⟨b,3,J⟩=N a/\w.cell? ⟨b,4,J⟩=N g/\w.cell? ⟨b,5,J⟩=N i/\w.cell? ⟨b,6,J⟩=N d/\∀o,w.frozen? ⟨b,o,J⟩=H:=
 ⟨aA h,aA h,aA h,aA h,aA h,aA h,aA h,free_at h⟩
theorem newFeeder_any(w:U):Y X 137 #[] w λe w'=>e=Z (ac (N ⟨w.heap.size,0,J⟩))/\Feeds w' w.heap.size 0 []/\Below w.heap.size w w'/\w'.heap.size=w.heap.size+1:=by
 go_enter func137,ntmps137;go_wp2;go_ret;refine⟨rfl,⟨(λh t e=>by cases e),0,0,0,0,au w _,rfl⟩,(Below.A3 _ _).A4 (af _) _,by simp⟩
theorem held_any(w:U)(b pl:Nat)(held:List UInt8)(h:Feeds w b pl held):Y X 167 #[ac (N ⟨b,0,J⟩)] w λe w'=>e=Z (I S held.length)/\w'=w:=by
 obtain⟨_,c,a1,a2,a3,a,-⟩:=h;obtain⟨-,-,-,-,-,d,-,-⟩:=cells7 a;clear a;go_enter func167,ntmps167;go_wp2;go_ret;exact⟨rfl,rfl⟩
def takeRet(w:U)(b pl:Nat)(held:List UInt8)(o:Option (List UInt8))(e:bj)(w':U):Prop:=match o with
 | none=>e=Z (E H)/\Feeds w' b pl held
 | some h=>e=Z (E ar)/\Feeds w' b pl h
theorem take0_any(w:U)(b pl:Nat)(c:UInt8)(C:Feeds w b pl []):Y X 190 #[ac (N ⟨b,0,J⟩),I O ((c.toNat:Nat):Int)] w λe w'=>takeRet w b pl [] (aK [] c) e w'/\Keeps (λk=>k=b) w w':=by
 obtain⟨d,v,a1,a2,a3,l,-⟩:=C;obtain⟨-,-,-,-,-,D,-,-⟩:=cells7 l;have r:=L l;have h:=K l;have q:=L (formOf_any c);have j:aK [] c=if(aC c).wide=0 then J else if 1<(aC c).wide then N [c]else N []:=rfl
 rw[j];have m:=wide_le c;have a:1<(aC c).wide->HeldOk [c]:=λy x t e=>by injection e with z e2;subst z;simpa using y
 have i:=L a;have g:=L d;clear l j a d;obtain⟨f,a⟩:∃f,aC c=f:=⟨_,rfl⟩;rw[a]at q i m⊢;clear a;obtain⟨n,A,hi⟩:=f;simp only at m i
 by_cases j:n=0
 .subst j;rw[if_pos rfl];go_enter az,ba;go_wp2_with fail;refine(q.o _).mono ?_;rintro e w1 ⟨rfl,d⟩;unfold formV;have a:=L (λo=>d.A4 d.size o);clear d;go_wp2_with fail;go_ret;exact⟨⟨rfl,g.o,v,a1,a2,a3,((a.o _).block b h).trans r.o,rfl⟩,Keeps.A1 _ (a.o _)⟩
 .rw[if_neg j]
  by_cases l:1<n
  .rw[if_pos l];have g1:(1:Int)<(n:Int):=by omega
   have F:((n:Int)==0)=H:=by simpa using j
   go_enter az,ba;go_wp2_with fail;refine(q.o _).mono ?_;rintro e w1 ⟨rfl,d⟩;unfold formV;have a:=d.A4 d.size (V #[I S n,I O A,I O hi] 349);have s:=(a.block b h).trans r.o;obtain⟨-,G,-,-,-,P,-,Q⟩:=cells7 s;have B:=L s;have u:=L a;clear d s a;go_wp2_with fail;go_ret;exact⟨⟨rfl,i.o l,c,a1,a2,a3,aB (aB B.o _) _,rfl⟩,((Keeps.A1 (λk=>k=b) u.o).A2 (p:=⟨b,1,J⟩) (W rfl) _).A2 (p:=⟨b,5,J⟩) (W rfl) _⟩
  .rw[if_neg l];have s:n=1:=by omega
   subst s;go_enter az,ba;go_wp2_with fail;refine(q.o _).mono ?_;rintro e w1 ⟨rfl,d⟩;unfold formV;have a:=L (λo=>d.A4 d.size o);clear d;go_wp2_with fail;go_ret;exact⟨⟨rfl,g.o,v,a1,a2,a3,((a.o _).block b h).trans r.o,rfl⟩,Keeps.A1 _ (a.o _)⟩
theorem take1_any(w:U)(b pl:Nat)(c g:UInt8)(a4:Feeds w b pl [g]):Y X 190 #[ac (N ⟨b,0,J⟩),I O ((c.toNat:Nat):Int)] w λe w'=>takeRet w b pl [g] (aK [g] c) e w'/\Keeps (λk=>k=b) w w':=by
 obtain⟨i,a0,a1,a2,a3,j,T⟩:=a4;have hl:1<(aC g).wide:=i _ _ rfl;simp only[bs,bu,bw,bx,bz,cg,and_true]at j T;obtain rfl:=T;obtain⟨-,c1,-,-,-,c5,-,-⟩:=cells7 j;have H2:=L j;have s:=K j;have HF:=L (formOf_any g);have HM:M (∀w,Y X 206 #[formV (aC g),I S (1:Int),I O ((c.toNat:Nat):Int)] w λe w'=>e=Z (E ((aC g).D5 1 c))/\Below w.heap.size w w'):=L λw=>may_any (aC g) 1 c w
 have F:=wide_le g;obtain⟨o,d⟩:∃o,aK [g] c=o:=⟨_,rfl⟩;rw[d];rw[show aK [g] c=if(aC g).D5 1 c then(if 1+1=(aC g).wide then N []else N [g,c])else J from rfl]at d;have a:¬1+1=(aC g).wide->HeldOk [g,c]:=λhh x t e=>by injection e with G e2;subst G;show 1+1<_;omega
 have h:=L a;have u:=L i;clear j a i;generalize aC g=f at*;obtain⟨n,v,hi⟩:=f;simp only at F h hl d;generalize (Form.mk n v hi).D5 1 c=m at*;unfold formV at HF HM;have j:=L d;clear d;go_enter az,ba;go_wp2_with fail;refine(HF.o _).mono ?_;rintro e w1 ⟨rfl,y⟩;have a:=y.A4 y.size (V #[I S n,I O v,I O hi] 349);have z:=(a.block b s).trans H2.o;have q:=au w1 (V #[I S n,I O v,I O hi] 349);have hlt1:=K z;have hne:=K ((y.block b s).trans H2.o);obtain⟨d0,d1,P,d3,d4,Q,d6,C⟩:=cells7 z;obtain⟨R,q1,q2,qf⟩:=cells3 q;have r:=L z;have l:=L q;have i:=L a;clear y z q a;go_wp2_with fail;generalize w1.alloc (V #[I S n,I O v,I O hi] 349)=w2 at*
 go_region_held3 (λw'=>w'.cell? ⟨w1.heap.size,0,J⟩=N (I S n)/\w'.cell? ⟨w1.heap.size,1,J⟩=N (I O v)/\w'.cell? ⟨w1.heap.size,2,J⟩=N (I O hi)/\w'.cell? ⟨b,5,J⟩=N (I S 1)) (first|exact⟨y,z,A,B⟩|go_keep)
  ((go_at_call 206;(with_reducible refine(HM.o _).mono ?_);rintro e D ⟨rfl,a⟩;have y:=(a.B5 (p:=⟨w1.heap.size,0,J⟩) (by simpa using K l.o)).trans R;have z:=(a.B5 (p:=⟨w1.heap.size,1,J⟩) (by simpa using K l.o)).trans q1;have A:=(a.B5 (p:=⟨w1.heap.size,2,J⟩) (by simpa using K l.o)).trans q2;have B:=(a.B5 (p:=⟨b,5,J⟩) (by simpa using K r.o)).trans Q))
 have r:=L (keep (w1:=w2.drew) r.o a);have l:=L (keep (w1:=w2.drew) l.o a);have i:=L (chain i.o.A9 a);clear a y z A B d0 d1 P d3 d4 Q d6 C R q1 q2 qf;cases m with
 | false=>
  obtain rfl:=j.o;go_wp2_with fail;go_ret;exact⟨⟨rfl,u.o,_,_,_,_,r.o,rfl⟩,Keeps.A1 _ i.o⟩
 | true=>
  obtain⟨-,-,P,-,-,-,-,C⟩:=cells7 r.o;obtain⟨-,-,-,-⟩:=cells3 l.o;go_wp2_with fail;go_region;have A:(D.setCell ⟨b,2,J⟩ (I O ((c.toNat:Nat):Int))).drew.heap[b]?=N (V #[I S pl,I O ((g.toNat:Nat):Int),I O ((c.toNat:Nat):Int),I O ((a2.toNat:Nat):Int),I O ((a3.toNat:Nat):Int),I S 1,E H] 305 (0,0)):=aB (o:=2) r.o _;have q:=(aE (w:=D) (o:=2) (k:=w1.heap.size) (b:=b) (I O ((c.toNat:Nat):Int)) (by omega)).trans l.o;have a:=(Keeps.A1 (λk=>k=b) i.o).A2 (p:=⟨b,2,J⟩) (W rfl) (I O ((c.toNat:Nat):Int));have y:=L a.A9;have z:=L A;have B:M ((D.setCell ⟨b,2,J⟩ (I O ((c.toNat:Nat):Int))).drew.heap[w1.heap.size]?=_):=L q;clear P C a A q;generalize (D.setCell ⟨b,2,J⟩ (I O ((c.toNat:Nat):Int))).drew=q at*;obtain⟨-,-,-,-,-,Q,-,C⟩:=cells7 z.o;obtain⟨R,-,-,-⟩:=cells3 B.o
  by_cases a:1+1=n
  .have d:=j.o;rw[if_pos trivial,if_pos a]at d;subst d;have e2:((2:Int)==(n:Int))=ar:=by simp;omega
   clear a hl;go_wp2_with fail;go_region;go_wp2_with fail;go_ret;exact⟨⟨rfl,(λa4 t e=>by cases e),_,_,_,_,aB (o:=5) (aB (o:=5) z.o _) _,rfl⟩,((y.o.A2 (p:=⟨b,5,J⟩) (W rfl) _).A9.A2 (p:=⟨b,5,J⟩) (W rfl) _)⟩
  .have d:=j.o;rw[if_pos trivial,if_neg a]at d;subst d;have G:¬(2:Int)=(n:Int):=by omega
   have e2:((2:Int)==(n:Int))=H:=by simpa using G
   have h:=L (h.o a);clear a;go_wp2_with fail;go_region;go_wp2_with fail;go_ret;exact⟨⟨rfl,h.o,_,_,_,_,aB (o:=5) z.o _,rfl⟩,(y.o.A2 (p:=⟨b,5,J⟩) (W rfl) _).A9⟩
theorem take2_any(w:U)(b pl:Nat)(c g b1:UInt8)(a4:Feeds w b pl [g,b1]):Y X 190 #[ac (N ⟨b,0,J⟩),I O ((c.toNat:Nat):Int)] w λe w'=>takeRet w b pl [g,b1] (aK [g,b1] c) e w'/\Keeps (λk=>k=b) w w':=by
 obtain⟨i,a0,a1,a2,a3,j,T⟩:=a4;have hl:2<(aC g).wide:=i _ _ rfl;simp only[bs,bu,bw,bx,bz,cg,and_true]at j T;obtain⟨rfl,rfl⟩:=T;obtain⟨-,c1,-,-,-,c5,-,-⟩:=cells7 j;have H2:=L j;have s:=K j;have HF:=L (formOf_any g);have HM:M (∀w,Y X 206 #[formV (aC g),I S (2:Int),I O ((c.toNat:Nat):Int)] w λe w'=>e=Z (E ((aC g).D5 2 c))/\Below w.heap.size w w'):=L λw=>may_any (aC g) 2 c w
 have F:=wide_le g;obtain⟨o,d⟩:∃o,aK [g,b1] c=o:=⟨_,rfl⟩;rw[d];rw[show aK [g,b1] c=if(aC g).D5 2 c then(if 2+1=(aC g).wide then N []else N [g,b1,c])else J from rfl]at d;have a:¬2+1=(aC g).wide->HeldOk [g,b1,c]:=λhh x t e=>by injection e with G e2;subst G;show 2+1<_;omega
 have h:=L a;have u:=L i;clear j a i;generalize aC g=f at*;obtain⟨n,v,hi⟩:=f;simp only at F h hl d;generalize (Form.mk n v hi).D5 2 c=m at*;unfold formV at HF HM;have j:=L d;clear d;go_enter az,ba;go_wp2_with fail;refine(HF.o _).mono ?_;rintro e w1 ⟨rfl,y⟩;have a:=y.A4 y.size (V #[I S n,I O v,I O hi] 349);have z:=(a.block b s).trans H2.o;have q:=au w1 (V #[I S n,I O v,I O hi] 349);have hlt1:=K z;have hne:=K ((y.block b s).trans H2.o);obtain⟨d0,d1,d2,P,d4,Q,d6,C⟩:=cells7 z;obtain⟨R,q1,q2,qf⟩:=cells3 q;have r:=L z;have l:=L q;have i:=L a;clear y z q a;go_wp2_with fail;generalize w1.alloc (V #[I S n,I O v,I O hi] 349)=w2 at*
 go_region_held3 (λw'=>w'.cell? ⟨w1.heap.size,0,J⟩=N (I S n)/\w'.cell? ⟨w1.heap.size,1,J⟩=N (I O v)/\w'.cell? ⟨w1.heap.size,2,J⟩=N (I O hi)/\w'.cell? ⟨b,5,J⟩=N (I S 2)) (first|exact⟨y,z,A,B⟩|go_keep)
  ((go_at_call 206;(with_reducible refine(HM.o _).mono ?_);rintro e D ⟨rfl,a⟩;have y:=(a.B5 (p:=⟨w1.heap.size,0,J⟩) (by simpa using K l.o)).trans R;have z:=(a.B5 (p:=⟨w1.heap.size,1,J⟩) (by simpa using K l.o)).trans q1;have A:=(a.B5 (p:=⟨w1.heap.size,2,J⟩) (by simpa using K l.o)).trans q2;have B:=(a.B5 (p:=⟨b,5,J⟩) (by simpa using K r.o)).trans Q))
 have r:=L (keep (w1:=w2.drew) r.o a);have l:=L (keep (w1:=w2.drew) l.o a);have i:=L (chain i.o.A9 a);clear a y z A B d0 d1 d2 P d4 Q d6 C R q1 q2 qf;cases m with
 | false=>
  obtain rfl:=j.o;go_wp2_with fail;go_ret;exact⟨⟨rfl,u.o,_,_,_,_,r.o,rfl⟩,Keeps.A1 _ i.o⟩
 | true=>
  obtain⟨-,-,-,P,-,-,-,C⟩:=cells7 r.o;obtain⟨-,-,-,-⟩:=cells3 l.o;go_wp2_with fail;go_region;have A:(D.setCell ⟨b,3,J⟩ (I O ((c.toNat:Nat):Int))).drew.heap[b]?=N (V #[I S pl,I O ((g.toNat:Nat):Int),I O ((b1.toNat:Nat):Int),I O ((c.toNat:Nat):Int),I O ((a3.toNat:Nat):Int),I S 2,E H] 305 (0,0)):=aB (o:=3) r.o _;have q:=(aE (w:=D) (o:=3) (k:=w1.heap.size) (b:=b) (I O ((c.toNat:Nat):Int)) (by omega)).trans l.o;have a:=(Keeps.A1 (λk=>k=b) i.o).A2 (p:=⟨b,3,J⟩) (W rfl) (I O ((c.toNat:Nat):Int));have y:=L a.A9;have z:=L A;have B:M ((D.setCell ⟨b,3,J⟩ (I O ((c.toNat:Nat):Int))).drew.heap[w1.heap.size]?=_):=L q;clear P C a A q;generalize (D.setCell ⟨b,3,J⟩ (I O ((c.toNat:Nat):Int))).drew=q at*;obtain⟨-,-,-,-,-,Q,-,C⟩:=cells7 z.o;obtain⟨R,-,-,-⟩:=cells3 B.o
  by_cases a:2+1=n
  .have d:=j.o;rw[if_pos trivial,if_pos a]at d;subst d;have e2:((3:Int)==(n:Int))=ar:=by simp;omega
   clear a hl;go_wp2_with fail;go_region;go_wp2_with fail;go_ret;exact⟨⟨rfl,(λa4 t e=>by cases e),_,_,_,_,aB (o:=5) (aB (o:=5) z.o _) _,rfl⟩,((y.o.A2 (p:=⟨b,5,J⟩) (W rfl) _).A9.A2 (p:=⟨b,5,J⟩) (W rfl) _)⟩
  .have d:=j.o;rw[if_pos trivial,if_neg a]at d;subst d;have G:¬(3:Int)=(n:Int):=by omega
   have e2:((3:Int)==(n:Int))=H:=by simpa using G
   have h:=L (h.o a);clear a;go_wp2_with fail;go_region;go_wp2_with fail;go_ret;exact⟨⟨rfl,h.o,_,_,_,_,aB (o:=5) z.o _,rfl⟩,(y.o.A2 (p:=⟨b,5,J⟩) (W rfl) _).A9⟩
theorem take3_any(w:U)(b pl:Nat)(c d b1 b2:UInt8)(a4:Feeds w b pl [d,b1,b2]):Y X 190 #[ac (N ⟨b,0,J⟩),I O ((c.toNat:Nat):Int)] w λe w'=>takeRet w b pl [d,b1,b2] (aK [d,b1,b2] c) e w'/\Keeps (λk=>k=b) w w':=by
 obtain⟨h,a0,a1,a2,a3,i,R⟩:=a4;have T:3<(aC d).wide:=h _ _ rfl;simp only[bs,bu,bw,bx,bz,cg,and_true]at i R;obtain⟨rfl,rfl,rfl⟩:=R;obtain⟨-,c1,-,-,-,c5,-,-⟩:=cells7 i;have H2:=L i;have q:=K i;have HF:=L (formOf_any d);have HM:M (∀w,Y X 206 #[formV (aC d),I S (3:Int),I O ((c.toNat:Nat):Int)] w λe w'=>e=Z (E ((aC d).D5 3 c))/\Below w.heap.size w w'):=L λw=>may_any (aC d) 3 c w
 have D:=wide_le d;obtain⟨o,g⟩:∃o,aK [d,b1,b2] c=o:=⟨_,rfl⟩;rw[g];rw[show aK [d,b1,b2] c=if(aC d).D5 3 c then(if 3+1=(aC d).wide then N []else N [d,b1,b2,c])else J from rfl]at g;have a:¬3+1=(aC d).wide->HeldOk [d,b1,b2,c]:=λhh x t e=>by injection e with e1 e2;subst e1;show 3+1<_;omega
 have F:=L a;have r:=L h;clear i a h;generalize aC d=f at*;obtain⟨n,s,hi⟩:=f;simp only at D F T g;generalize (Form.mk n s hi).D5 3 c=m at*;unfold formV at HF HM;have u:=L g;clear g;go_enter az,ba;go_wp2_with fail;refine(HF.o _).mono ?_;rintro e w1 ⟨rfl,v⟩;have a:=v.A4 v.size (V #[I S n,I O s,I O hi] 349);have y:=(a.block b q).trans H2.o;have j:=au w1 (V #[I S n,I O s,I O hi] 349);have hlt1:=K y;have hne:=K ((v.block b q).trans H2.o);obtain⟨d0,d1,d2,d3,G,P,d6,B⟩:=cells7 y;obtain⟨Q,q1,q2,qf⟩:=cells3 j;have l:=L y;have i:=L j;have h:=L a;clear v y j a;go_wp2_with fail;generalize w1.alloc (V #[I S n,I O s,I O hi] 349)=w2 at*
 go_region_held3 (λw'=>w'.cell? ⟨w1.heap.size,0,J⟩=N (I S n)/\w'.cell? ⟨w1.heap.size,1,J⟩=N (I O s)/\w'.cell? ⟨w1.heap.size,2,J⟩=N (I O hi)/\w'.cell? ⟨b,5,J⟩=N (I S 3)) (first|exact⟨v,y,z,A⟩|go_keep)
  ((go_at_call 206;(with_reducible refine(HM.o _).mono ?_);rintro e C ⟨rfl,a⟩;have v:=(a.B5 (p:=⟨w1.heap.size,0,J⟩) (by simpa using K i.o)).trans Q;have y:=(a.B5 (p:=⟨w1.heap.size,1,J⟩) (by simpa using K i.o)).trans q1;have z:=(a.B5 (p:=⟨w1.heap.size,2,J⟩) (by simpa using K i.o)).trans q2;have A:=(a.B5 (p:=⟨b,5,J⟩) (by simpa using K l.o)).trans P))
 have l:=L (keep (w1:=w2.drew) l.o a);have i:=L (keep (w1:=w2.drew) i.o a);have h:=L (chain h.o.A9 a);clear a v y z A d0 d1 d2 d3 G P d6 B Q q1 q2 qf;cases m with
 | false=>
  obtain rfl:=u.o;go_wp2_with fail;go_ret;exact⟨⟨rfl,r.o,_,_,_,_,l.o,rfl⟩,Keeps.A1 _ h.o⟩
 | true=>
  obtain⟨-,-,-,-,G,-,-,B⟩:=cells7 l.o;obtain⟨-,-,-,-⟩:=cells3 i.o;go_wp2_with fail;go_region;have y:(C.setCell ⟨b,4,J⟩ (I O ((c.toNat:Nat):Int))).drew.heap[b]?=N (V #[I S pl,I O ((d.toNat:Nat):Int),I O ((b1.toNat:Nat):Int),I O ((b2.toNat:Nat):Int),I O ((c.toNat:Nat):Int),I S 3,E H] 305 (0,0)):=aB (o:=4) l.o _;have j:=(aE (w:=C) (o:=4) (k:=w1.heap.size) (b:=b) (I O ((c.toNat:Nat):Int)) (by omega)).trans i.o;have a:=(Keeps.A1 (λk=>k=b) h.o).A2 (p:=⟨b,4,J⟩) (W rfl) (I O ((c.toNat:Nat):Int));have v:=L a.A9;have z:=L y;have A:M ((C.setCell ⟨b,4,J⟩ (I O ((c.toNat:Nat):Int))).drew.heap[w1.heap.size]?=_):=L j;clear G B a y j;generalize (C.setCell ⟨b,4,J⟩ (I O ((c.toNat:Nat):Int))).drew=j at*;obtain⟨-,-,-,-,-,P,-,B⟩:=cells7 z.o;obtain⟨Q,-,-,-⟩:=cells3 A.o
  by_cases a:3+1=n
  .have g:=u.o;rw[if_pos trivial,if_pos a]at g;subst g;have e2:((4:Int)==(n:Int))=ar:=by simp;omega
   clear a T;go_wp2_with fail;go_region;go_wp2_with fail;go_ret;exact⟨⟨rfl,(λa4 t e=>by cases e),_,_,_,_,aB (o:=5) (aB (o:=5) z.o _) _,rfl⟩,((v.o.A2 (p:=⟨b,5,J⟩) (W rfl) _).A9.A2 (p:=⟨b,5,J⟩) (W rfl) _)⟩
  .exfalso;omega
theorem take_any(w:U)(b pl:Nat)(c:UInt8)(held:List UInt8)(h:Feeds w b pl held):Y X 190 #[ac (N ⟨b,0,J⟩),I O ((c.toNat:Nat):Int)] w λe w'=>takeRet w b pl held (aK held c) e w'/\Keeps (λk=>k=b) w w':=by
 have d:=h.1.le
 match held,h,d with
 | [],h,_=>exact take0_any w b pl c h
 | [a],h,_=>exact take1_any w b pl c a h
 | [a,b1],h,_=>exact take2_any w b pl c a b1 h
 | [a,b1,b2],h,_=>exact take3_any w b pl c a b1 b2 h
 | _::_::_::_::_,_,d=>simp at d
def FeedsBad(w:U)(b pl:Nat):Prop:=∃a a1 a2 a3:UInt8,w.heap[b]?=N (V #[I S pl,I O ((a.toNat:Nat):Int),I O ((a1.toNat:Nat):Int),I O ((a2.toNat:Nat):Int),I O ((a3.toNat:Nat):Int),I S 0,E ar] 305 (0,0))
theorem fault_good(w:U)(b pl:Nat)(held:List UInt8)(h:Feeds w b pl held):Y X 191 #[ac (N ⟨b,0,J⟩)] w λe w'=>e=Z bc/\w'=w:=by
 obtain⟨_,c,a1,a2,a3,a,-⟩:=h;obtain⟨-,-,-,-,-,-,d,-⟩:=cells7 a;clear a;go_enter func191,ntmps191;go_wp2;go_ret;exact⟨rfl,rfl⟩
theorem fault_bad(w:U)(b pl:Nat)(h:FeedsBad w b pl):Y X 191 #[ac (N ⟨b,0,J⟩)] w λe w'=>e=Z (aj 151 (av #[I S 30,I S pl]))/\w'=w:=by
 obtain⟨c,a1,a2,a3,a⟩:=h;obtain⟨d,-,-,-,-,-,f,-⟩:=cells7 a;clear a;go_enter func191,ntmps191;go_wp2;go_ret;exact⟨rfl,rfl⟩
theorem feedAll_none(l:List UInt8):l.foldl (λa c=>a.bind λh=>aK h c) (J:Option (List UInt8))=J:=by
 induction l with
 | nil=>rfl
 | cons x l b=>exact b
theorem feedAll_take{held l:List UInt8}{k:Nat}(h:k<l.length):aP held (l.take (k+1))=(aP held (l.take k)).bind λh=>aK h l[k]:=by
 unfold aP;rw[List.take_add_one,cj h,dj];rfl
theorem feedAll_stop{held l:List UInt8}{k:Nat}(h:aP held (l.take k)=J):aP held l=J:=by
 unfold aP at*
 conv=>lhs;rw[<-List.take_append_drop k l,dj,h]
 exact feedAll_none _
def BytesAt(w:U)(b:Nat)(a:Option ao)(l:List UInt8):Prop:=l= []\/∃g off,a=N ⟨g,off,J⟩/\g≠b/\g<w.heap.size/\∀i x,l[i]?=N x->w.cell? ⟨g,off+i,J⟩=N (I O ((x.toNat:Nat):Int))
def feedRet(w':U)(b pl n:Nat)(o:Option (List UInt8))(e:bj):Prop:=match o with
 | some h=>e=Z bc/\Feeds w' b (pl+n) h
 | none=>∃p,e=Z (aj 151 (av #[I S 30,I S (p:Nat)]))/\FeedsBad w' b p
def feedInv(a:U)(b pl:Nat)(held l:List UInt8)(k:Nat)(w:U):Prop:=Keeps (λk=>k=b) a w/\((∃h,aP held (l.take k)=N h/\Feeds w b (pl+k) h)\/(aP held l=J/\∃p,FeedsBad w b p))
theorem feed_any(w:U)(b pl:Nat)(held l:List UInt8)(a:Option ao)(cap:Nat)(y:Feeds w b pl held)(c:BytesAt w b a l)(hl:l.length<=1073741824)(hpl:pl<=1073741824):
 Y X 169 #[ac (N ⟨b,0,J⟩),ah a l.length cap] w λe w'=>feedRet w' b pl l.length (aP held l) e/\Keeps (λk=>k=b) w w':=by
 have HB:=L c;have a4:=L y;clear y c;go_enter func169,ntmps169;go_wp2_with fail
 go_loopw [5] (λi wr=>∃k:Nat,k<=l.length/\i=I S k/\M (feedInv w b pl held l k wr)) (λi _=>l.length-(intOf i).toNat)
 case atStart=>exact⟨0,by omega,rfl,L ⟨Keeps.A3 _ _,W ⟨held,rfl,a4.o⟩⟩⟩
 case round=>
  obtain⟨k,hk,rfl,c⟩:=hrel;obtain⟨d,z⟩:=c.o;clear c;have f:=L d;clear d;rcases z with⟨y,c,t⟩|⟨h,p,o⟩
  .have HF:=L c;have q:=L t;clear c;obtain⟨_,a0,a1,a2,a3,d,-⟩:=t;obtain⟨A,c1,c2,B,C,D,F,G⟩:=cells7 d;clear d
   by_cases r:k<l.length
   .rcases HB.o with hn|⟨g,off,rfl,P,-,c⟩
    .subst hn;simp at r
    .have hc:wr.cell? ⟨g,off+k,J⟩=N (I O ((l[k].toNat:Nat):Int)):=f.o.B5 (c k l[k] (cj r)) P;clear c;go_wp2_with fail;refine(take_any wr b (pl+k) l[k] y q.o).mono ?_;have c:=feedAll_take (held:=held) r;rw[HF.o]at c;rintro e w2 ⟨x,m⟩;have c:aP held (l.take (k+1))=aK y l[k]:=c;cases n:aK y l[k]with
     | none=>
      rw[n]at x c;obtain⟨rfl,j⟩:=x;have u:=L (feedAll_stop c);have s:=L (f.o.B8 m);obtain⟨_,Q,R,T,x3,d,-⟩:=j;obtain⟨-,-,-,-,-,v,d6,df⟩:=cells7 d;have H2:=L d;clear d c n m A c1 c2 B C D F G hc;go_wp2_with fail
      go_roundw
      case rel=>exact⟨k+1,by omega,by go_num,L ⟨(s.o.A2 (p:=⟨b,6,J⟩) (W rfl) _).A2 (p:=⟨b,5,J⟩) (W rfl) _,bg ⟨u.o,_,Q,R,T,x3,aB (aB H2.o _) _⟩⟩⟩
      case measure=>simp[intOf];omega
     | some h'=>
      rw[n]at x c;obtain⟨rfl,j⟩:=x;have u:=L c;have s:=L (f.o.B8 m);obtain⟨v,Q,R,T,x3,d,h9⟩:=j;obtain⟨d0,-,-,-,-,-,-,df⟩:=cells7 d;have H2:=L d;have H9:=L h9;have HOK:=L v;clear d h9 c n m A c1 c2 B C D F G hc v;go_wp2_with fail
      go_roundw
      case rel=>exact⟨k+1,by omega,by go_num,L ⟨s.o.A2 (p:=⟨b,0,J⟩) (W rfl) _,W ⟨h',u.o,HOK.o,Q,R,T,x3,aB H2.o _,H9.o⟩⟩⟩
      case measure=>simp[intOf];omega
   .have c:k=l.length:=by omega
    subst c;have j:=L (show aP held l=N y by have:=HF.o;rwa[List.take_length]at this);go_wp2_with fail;refine(fault_good _ b _ y q.o).mono ?_;rintro e w2 ⟨rfl,rfl⟩;go_wp2_with fail;go_ret;exact⟨by rw[j.o];exact⟨rfl,q.o⟩,f.o⟩
  .have u:=L h;have c:=L o;clear h;obtain⟨a0,a1,a2,a3,d⟩:=o;obtain⟨A,c1,c2,B,C,D,F,G⟩:=cells7 d;clear d;go_wp2_with fail
   all_goals
    refine(fault_bad _ b p c.o).mono ?_;rintro e w2 ⟨rfl,rfl⟩;go_wp2_with fail;go_ret;exact⟨by rw[u.o];exact⟨p,rfl,c.o⟩,f.o⟩
def errIf(a:Bool)(e:bj):Prop:=match a with
 | true=>e=Z bc
 | false=>∃T v,e=Z (aj T v)
theorem end_good(w:U)(b pl:Nat)(held:List UInt8)(h:Feeds w b pl held):Y X 258 #[ac (N ⟨b,0,J⟩)] w λe w'=>errIf (held== []) e/\w'=w:=by
 have g:=L (fault_good w b pl held h);obtain⟨_,m,a1,a2,a3,c,-⟩:=h;obtain⟨j,c1,c2,k,p,i,o,l⟩:=cells7 c;clear c;cases held with
 | nil=>
  go_enter ck,co;go_wp2_with fail;refine(g.o).mono ?_;rintro e w1 ⟨rfl,rfl⟩;go_wp2_with fail;go_ret;exact⟨rfl,rfl⟩
 | cons x t=>
  have a:(0:Int)<((x::t).length:Int):=by simp
  obtain⟨n,f⟩:∃n,(x::t).length=n:=⟨_,rfl⟩;have d:((x::t)== [])=H:=rfl;rw[d];clear d;rw[f]at a i;clear f;go_enter ck,co;go_wp2_with fail;go_ret;exact⟨⟨_,_,rfl⟩,rfl⟩
theorem end_bad(w:U)(b pl:Nat)(h:FeedsBad w b pl):Y X 258 #[ac (N ⟨b,0,J⟩)] w λe w'=>errIf H e/\w'=w:=by
 have c:=L (fault_bad w b pl h);obtain⟨i,a1,a2,a3,a⟩:=h;obtain⟨l,c1,c2,d,k,g,j,f⟩:=cells7 a;clear a;go_enter ck,co;go_wp2_with fail;refine(c.o).mono ?_;rintro e w1 ⟨rfl,rfl⟩;go_wp2_with fail;go_ret;exact⟨⟨_,_,rfl⟩,rfl⟩
theorem BytesAt.A5{w w':U}{b d:Nat}{a:Option ao}{l:List UInt8}(h:BytesAt w b a l)(e:Below w.heap.size w w')(f:w.heap.size<=d):BytesAt w' d a l:=by
 rcases h with h|⟨g,off,j,_,c,k⟩
 .exact W h
 .exact bg ⟨g,off,j,by omega,cv c e.size,λi x m=>(e.B5 (p:=⟨g,off+i,J⟩) c).trans (k i x m)⟩
theorem check_any(w:U)(A:Nat)(l:List UInt8)(a:Option ao)(cap:Nat)(u:BytesAt w A a l)(D:l.length<=1073741824):Y X 237 #[ah a l.length cap] w λe w'=>errIf (aT l) e/\Below w.heap.size w w':=by
 have B:=L u;clear u;go_enter func237,ntmps237;go_wp2_with fail;refine(newFeeder_any _).mono ?_;rintro e w1 ⟨rfl,c,j,C⟩;have s:=L c;have m:=L j;clear c j;go_wp2_with fail;refine(feed_any w1 w.heap.size 0 [] l a cap s.o (B.o.A5 m.o (af _)) D (by omega)).mono ?_;rintro e w2 ⟨q,x⟩;have f:=L (m.o.B9 (x.B3 (n:=w.heap.size) (by omega) (λk e=>by subst e;exact af _)));clear x;cases g:aP [] l with
 | none=>
  rw[g]at q;obtain⟨p,rfl,o⟩:=q;have b:aT l=H:=by unfold aT;rw[g];rfl
  have d:=L b;clear b g;go_wp2_with fail;refine(end_bad _ _ p o).mono ?_;rintro e y ⟨⟨T,v,rfl⟩,rfl⟩;go_wp2_with fail;go_ret;exact⟨by rw[d.o];exact⟨_,_,rfl⟩,f.o⟩
 | some h=>
  rw[g]at q;obtain⟨rfl,c⟩:=q;have b:aT l=(h== []):=by unfold aT;rw[g];cases h<;>rfl
  have d:=L b;clear b g;have z:=L c;clear c;go_wp2_with fail;refine(end_good _ _ _ h z.o).mono ?_;rintro e y ⟨r,rfl⟩;cases i:(h== [])with
  | true=>
   rw[i]at r;obtain rfl:=r;have t:=L i;clear i;go_wp2_with fail;go_ret;exact⟨by rw[d.o,t.o];rfl,f.o⟩
  | false=>
   rw[i]at r;obtain⟨T,v,rfl⟩:=r;have t:=L i;clear i;go_wp2_with fail;go_ret;exact⟨by rw[d.o,t.o];exact⟨_,_,rfl⟩,f.o⟩
theorem cell_any{w:U}{b o:Nat}{c:Array ae}{T:aw}{a:Nat×Nat}(h:w.heap[b]?=N (V c T a)):w.cell? ⟨b,o,J⟩=c[o]?:=by simp[World.cell?,h]
theorem right_any(s:ByteArray)(w:U)(r:s.size<=1073741824):Y X 218 #[.string s] w λe w'=>e=Z (E (aT s.data.toList))/\Below w.heap.size w w':=by
 have b:=run_bytes_of_string (P:=X) w 9 22 5 s underlying9 underlying22 underlying5;go_enter func218,ntmps218;go_wp2_with fail;have g:s.data.toList.length=s.size:=Array.length_toList;have a:Below w.heap.size w (w.alloc (V (ai s (ag w s.size 0 5)) 5 ((ai s (ag w s.size 0 5)).size,(ai s (ag w s.size 0 5)).size+1))).drew:=((Below.A3 _ _).A4 (af _) _).A9
 have f:BytesAt (w.alloc (V (ai s (ag w s.size 0 5)) 5 ((ai s (ag w s.size 0 5)).size,(ai s (ag w s.size 0 5)).size+1))).drew (w.heap.size+1) (N ⟨w.heap.size,0,J⟩) s.data.toList:=by
  refine bg ⟨w.heap.size,0,rfl,by omega,by show _<(w.alloc _).heap.size;simp,λi x o=>?_⟩;have d:i<s.data.size:=by have:=(List.getElem?_eq_some_iff.1 o).1;simpa using this
  have n:s.data[i]=x:=by
   rw[cj (by simpa using d)]at o
   simpa using o
  show(w.alloc _).cell? ⟨w.heap.size,0+i,J⟩=_
  have q:=au w (V (ai s (ag w s.size 0 5)) 5 ((ai s (ag w s.size 0 5)).size,(ai s (ag w s.size 0 5)).size+1));rw[cell_any q,Nat.zero_add,bytesRow_at s _ i d,n]
 have l:=check_any _ _ s.data.toList _ (ag w s.size 0 5) f (by omega);rw[g]at l;have p:=L a;clear f a g b;refine l.mono ?_;rintro e w2 ⟨k,j⟩;have h:=L (chain p.o j);clear j l;cases c:aT s.data.toList with
 | true=>
  rw[c]at k;obtain rfl:=k;have m:=L c;clear c;go_wp2_with fail;go_ret;exact⟨by rw[m.o];rfl,h.o⟩
 | false=>
  rw[c]at k;obtain⟨T,v,rfl⟩:=k;have m:=L c;clear c;go_wp2_with fail;go_ret;exact⟨by rw[m.o];rfl,h.o⟩
end Go.Proofs.YtakkmiomhackiaaGreatDoor.Dr
namespace Go.Proofs.YtakkmiomhackiaaGreatDoor
open Go.RowKit
def formV(f:Form):ae:=av #[I S f.wide,I O f.low,I O f.high]
theorem formOf_any(c:UInt8)(w:U):Y X 205 #[I O ((c.toNat:Nat):Int)] w λe w'=>e=Z (formV (aC c))/\ak w.heap.size w w':=
 (Dr.formOf_any c w).mono λ_ _ h=>⟨h.1,h.2.G5⟩
theorem may_any(f:Form)(i:Nat)(c:UInt8)(w:U):Y X 206 #[formV f,I S i,I O ((c.toNat:Nat):Int)] w λe w'=>e=Z (E (f.D5 i c))/\ak w.heap.size w w':=
 (Dr.may_any f i c w).mono λ_ _ h=>⟨h.1,h.2.G5⟩
def HeldOk(held:List UInt8):Prop:=∀h t,held=h::t->held.length<(aC h).wide
theorem wide_le(c:UInt8):(aC c).wide<=4:=by unfold aC;repeat' (first|exact by decide|split)
theorem HeldOk.le{held:List UInt8}(h:HeldOk held):held.length<=3:=by
 cases held with
 | nil=>exact di _
 | cons a t=>have:=h a t rfl;have:=wide_le a;omega
def Feeds(w:U)(b pl:Nat)(held:List UInt8):Prop:=HeldOk held/\∃a a1 a2 a3:UInt8,w.heap[b]?=N (V #[I S pl,I O ((a.toNat:Nat):Int),I O ((a1.toNat:Nat):Int),I O ((a2.toNat:Nat):Int),I O ((a3.toNat:Nat):Int),I S held.length,E H] 305 (0,0))/\
 held= [a,a1,a2,a3].take held.length
theorem Feeds.A0{F:Nat->Prop}{w w':U}{b pl:Nat}{held:List UInt8}(h:Feeds w b pl held)(a:Keeps F w w')(g:¬F b):Feeds w' b pl held:=by
 obtain⟨e,c,a1,a2,a3,d,f⟩:=h;exact⟨e,c,a1,a2,a3,a.C4 d g,f⟩
theorem cells7{w:U}{b:Nat}{f e c a g i d:ae}{T:aw}(h:w.heap[b]?=N (V #[f,e,c,a,g,i,d] T (0,0))):w.cell? ⟨b,0,J⟩=N f/\w.cell? ⟨b,1,J⟩=N e/\w.cell? ⟨b,2,J⟩=N c/\w.cell? ⟨b,3,J⟩=N a/\w.cell? ⟨b,4,J⟩=N g/\w.cell? ⟨b,5,J⟩=N i/\w.cell? ⟨b,6,J⟩=N d/\∀o,w.frozen? ⟨b,o,J⟩=H:=
 ⟨aA h,aA h,aA h,aA h,aA h,aA h,aA h,free_at h⟩
theorem newFeeder_any(w:U):Y X 137 #[] w λe w'=>e=Z (ac (N ⟨w.heap.size,0,J⟩))/\Feeds w' w.heap.size 0 []/\ak w.heap.size w w'/\w'.heap.size=w.heap.size+1:=
 (Dr.newFeeder_any w).mono λ_ _ h=>⟨h.1,h.2.1,h.2.2.1.G5,h.2.2.2⟩
theorem held_any(w:U)(b pl:Nat)(held:List UInt8)(h:Feeds w b pl held):Y X 167 #[ac (N ⟨b,0,J⟩)] w λe w'=>e=Z (I S held.length)/\w'=w:=
 Dr.held_any w b pl held h
def takeRet(w:U)(b pl:Nat)(held:List UInt8)(o:Option (List UInt8))(e:bj)(w':U):Prop:=match o with
 | none=>e=Z (E H)/\Feeds w' b pl held
 | some h=>e=Z (E ar)/\Feeds w' b pl h
theorem take_any(w:U)(b pl:Nat)(c:UInt8)(held:List UInt8)(h:Feeds w b pl held):Y X 190 #[ac (N ⟨b,0,J⟩),I O ((c.toNat:Nat):Int)] w λe w'=>takeRet w b pl held (aK held c) e w'/\Keeps (λk=>k=b) w w':=
 (Dr.take_any w b pl c held h).mono λ_ _ h=>⟨by have:=h.1;unfold Dr.takeRet at this;unfold takeRet;split at this<;>simp_all [Feeds,Dr.Feeds,HeldOk,Dr.HeldOk],h.2.G5⟩
theorem aJI:Elem 226 232 16:=⟨underlying226,by
 have h:(X.info? 232).map (λi=>(i.zero,i.size,i.bytes))=N (N bc,1,16):=by kernel_rfl
 obtain⟨i,c,a,d,b⟩:=info_parts h;exact⟨i,_,c,a,d,b,rfl⟩⟩
theorem aM{w:U}{b:Nat}{p g k a l d c i q e j f n m:ae}{T:aw}(h:w.heap[b]?=N (V #[p,g,k,a,l,d,c,i,q,e,j,f,n,m] T (0,0))):
 w.cell? ⟨b,0,J⟩=N p/\w.cell? ⟨b,1,J⟩=N g/\w.cell? ⟨b,2,J⟩=N k/\w.cell? ⟨b,3,J⟩=N a/\w.cell? ⟨b,4,J⟩=N l/\w.cell? ⟨b,5,J⟩=N d/\w.cell? ⟨b,6,J⟩=N c/\w.cell? ⟨b,7,J⟩=N i/\
 w.cell? ⟨b,8,J⟩=N q/\w.cell? ⟨b,9,J⟩=N e/\w.cell? ⟨b,10,J⟩=N j/\w.cell? ⟨b,11,J⟩=N f/\w.cell? ⟨b,12,J⟩=N n/\w.cell? ⟨b,13,J⟩=N m/\∀o,w.frozen? ⟨b,o,J⟩=H:=
 ⟨aA h,aA h,aA h,aA h,aA h,aA h,aA h,aA h,aA h,aA h,aA h,aA h,aA h,aA h,free_at h⟩
theorem aAu(w:U):Y X 72 #[] w λe w'=>e=Z (ac (N ⟨w.heap.size,0,J⟩))/\
 w'=w.alloc (V #[I S 0,bc,E H,.func (.func 104) #[] #[],E H,I S 0,ah J 0 0,I S 0,ac J,ah J 0 0,I S 0,I .i32 0,I .i32 0,ah J 0 0] 228):=by
 go_enter func72,ntmps72;go_wp2;go_ret;exact⟨rfl,rfl⟩
theorem qK(w:U)(b:Nat)(c:Array ae)(st a:Nat)(h:w.heap[b]?=N (V c 228 (0,0)))(i:c[5]?=N (I S st))(f:st<=a)(j:a<=1073741824):
 Y X 136 #[ac (N ⟨b,0,J⟩),I S a] w λe w'=>e=Z (av #[I S st,I S ((a-st:Nat):Int)])/\ak w.heap.size w w':=by
 have d:ak w.heap.size w (w.alloc (V #[I S 0,I S 0] 236)):=(bk _ _).alloc (af _) _;have g:=keep h d;have l:(w.alloc (V #[I S 0,I S 0] 236)).cell? ⟨b,5,J⟩=N (I S st):=by rw[aA g];exact i
 have k:S.wrap ((a:Int)-(st:Int))=((a-st:Nat):Int):=by rw[dl];omega
 clear h g i f;go_enter func136,ntmps136;go_wp2_with fail;go_region;go_wp2_with fail;exact bm (v:=av #[I S st,I S ((a-st:Nat):Int)]) (by simp[bp,results136,go_sem]) rfl ⟨rfl,((bk _ _).alloc (af _) _).drew⟩
theorem Win.ne{k:Type}{e:Nat}{enc:k->ae}{w:U}{v:ae}{l:List k}(h:Win e enc w v l){b:Nat}{c:Array ae}{T:aw}(f:w.heap[b]?=N (V c T (0,0)))(i:T≠e):v.ownBlock≠N b:=by
 rcases h with⟨rfl,_⟩|⟨g,off,cap,j,rfl,a,_⟩
 .simp[cr]
 .intro d;simp only[cr,ct]at d;subst d;rw[f]at a;simp only[ct,dp]at a;exact i a.2.1
theorem qL(w:U)(b:Nat)(t u v T v4 x y z A B C D G a:ae)(P:aw)(i:ae)(toks:List ae)(m:w.heap[b]?=N (V #[t,u,v,T,v4,x,y,z,A,B,C,D,G,a] 228 (0,0)))
 (d:Win 232 id w a toks)(hl:toks.length<=1000):
 Y X 135 #[ac (N ⟨b,0,J⟩),aj P i] w λe w'=>e=Z (.tuple #[])/\∃g off cap,w'.heap[b]?=N (V #[t,u,v,.func (.func 104) #[] #[],E H,x,y,z,A,B,C,D,G,ah (N ⟨g,off,J⟩) (toks.length+1) cap] 228 (0,0))/\
  Win 232 id w' (ah (N ⟨g,off,J⟩) (toks.length+1) cap) (toks++ [aj P i])/\(a.ownBlock=N g\/w.heap.size<=g)/\Keeps (λk=>k=b\/a.ownBlock=N k) w w':=by
 obtain⟨c0,c1,c2,c3,c4,c5,c6,c7,c8,c9,ca,cb,cc,cd,cf⟩:=aM m;have a0:=L m;have n:=K m;have o:=L (d.ne m (by decide));obtain⟨Q,R,q⟩:=d.A8;have c:Win 232 id (w.alloc (V #[aj P i] 232)) a toks:=d.A0 (F:=λ_=>False) ((cu _ w).A4 _) (λ_ _=>id);have HW:=L c;clear m d c;subst q;go_enter func135,ntmps135
 go_wp2_with (at_builtin;refine cW aJI rfl _ _ rfl rfl HW.o ⟨w.heap.size,0,J⟩ 1 (aj P i) rfl ?_ rfl ?_ ?_ ?_)
 .simp
 .omega
 .unfold maxLen;omega
 intro g off cap w' c j h;have d:=(h.block b (by simp;omega) (λe=>o.o e.symm)).trans ((cz w _ _ n).trans a0.o)
 have f:g≠b:=by
  have:=c.ne d (by decide);intro e;subst e;exact this rfl
 have HK:=L (((cu (λk=>k=b\/(ah Q toks.length R).ownBlock=N k) w).A4 (V #[aj P i] 232)).F9 h (λk e=>W (bg e)));have l:=L c;have r:=L (show(ah Q toks.length R).ownBlock=N g\/w.heap.size<=g from j.elim W (λm=>bg (by have:=m.1;first|omega|(simp at this;omega))));obtain⟨-,-,-,d3,d4,-,-,-,-,-,-,-,-,dd,df⟩:=aM d;have HB:=L d;have s:=L f;clear d c j h f c0 c1 c2 c3 c4 c5 c6 c7 c8 c9 ca cb cc cd cf;go_wp2_with fail
 go_end0
 refine⟨rfl,g,off,cap,aB (aB (aB HB.o _) _) _,?_,r.o,((HK.o.A2 (p:=⟨b,13,J⟩) (W (W rfl)) _).A2 (p:=⟨b,4,J⟩) (W (W rfl)) _).A2 (p:=⟨b,3,J⟩) (W (W rfl)) _⟩
 exact l.o.A0 ((((cu (λk=>k=b) w').A2 (p:=⟨b,13,J⟩) (W rfl) _).A2 (p:=⟨b,4,J⟩) (W rfl) _).A2 (p:=⟨b,3,J⟩) (W rfl) _) (λk e c=>by
  simp only[cr,ct]at e;exact s.o (e.trans c))
theorem aFV(w:U)(b pl st:Nat)(isIn:Bool)(c:Array ae)(h:w.heap[b]?=N (V c 228 (0,0)))(g:c[0]?=N (I S pl))(d:c[4]?=N (E isIn))(f:c[5]?=N (I S st))(a:st<=pl)(i:pl<=1073741824):
 Y X 116 #[ac (N ⟨b,0,J⟩)] w λe w'=>e=Z (I S ((if isIn then pl-st else 0:Nat):Int))/\ak w.heap.size w w':=by
 have j:w.cell? ⟨b,0,J⟩=N (I S pl):=by rw[aA h];exact g
 have m:w.cell? ⟨b,4,J⟩=N (E isIn):=by rw[aA h];exact d
 have k:w.cell? ⟨b,5,J⟩=N (I S st):=by rw[aA h];exact f
 have l:S.wrap ((pl:Int)-(st:Int))=((pl-st:Nat):Int):=by rw[dl];omega
 clear h g d f a;cases isIn with
 | false=>
  go_enter func116,ntmps116;go_wp2_with fail;go_ret;exact⟨rfl,bk _ _⟩
 | true=>
  go_enter func116,ntmps116;go_wp2_with fail;go_region;go_wp2_with fail;go_ret;exact⟨rfl,(bk _ _).drew⟩
end Go.Proofs.YtakkmiomhackiaaGreatDoor
