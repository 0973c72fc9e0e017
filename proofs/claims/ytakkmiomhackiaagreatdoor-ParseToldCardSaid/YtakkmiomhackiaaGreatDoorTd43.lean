/-
  The program, one part of its walk. Conditions: none.
-/
import Derived.Test.YtakkmiomhackiaaGreatDoorTd33
import Derived.Test.YtakkmiomhackiaaGreatDoorTd39
import Derived.Test.YtakkmiomhackiaaGreatDoorTd41
import Derived.Lib.AppendStr
set_option linter.all false
set_option maxRecDepth 100000
set_option maxHeartbeats 16000000
open Go.Proofs.Tryz
open Bool renaming false->U,true->X
open ByteArray renaming ext->eo
open Except renaming error->ar,ok->bs,pure->cv
open Go renaming Calls->ba,Value->au,World->D,bodyPost_ret->ae,heap_alloc_new->bj,results->af,rounds_succ->ao
open Go.Ending renaming returned->bc
open Go.Instr renaming typeAssert->av
open Go.IntKind renaming i32->ek,i64->I,u64->bm,wrap_i32->em,wrap_i64->ah
open Go.Lib renaming strCells->dx
open Go.Obj renaming cells->Z
open Go.Proofs renaming intOf->co
open Go.Proofs.Tryz renaming func118->bw,ntmps118->bx,prog->Q,results118->bz,results155->bk,results88->ct
open Go.Proofs.YtakkmiomhackiaaGreatDoor.Goes renaming C9->ck
open Go.Proofs.YtakkmiomhackiaaGreatDoor.Keeps renaming A1->dt
open Go.Proofs.YtakkmiomhackiaaGreatDoor.Lx renaming B0->cj,C0->cz,C6->dq
open Go.Proofs.YtakkmiomhackiaaGreatDoor.Pc renaming L2->ak,bad->az,cut->bp,ok->bg
open Go.Proofs.YtakkmiomhackiaaGreatDoor.Ps renaming B0->cg,C0->ei,C7->cw,C8->bu,D0->ee,D4->cu,E2->dm
open Go.Proofs.YtakkmiomhackiaaGreatDoor.St renaming outside->dl
open Go.Result renaming ok->aw
open Go.RowKit renaming Below->ag
open Go.RowKit.Below renaming heap_alloc->du,refl->aj
open Go.Value renaming agg->H,bool->O,iface->ai,int->J,ownBlock->dy,slice->Y,string->N,tuple->ac
open Go.World renaming block_lt_of_cell?->dh
open List renaming drop_drop->dv,drop_succ_cons->dp,length_cons->bh,length_drop->dw
open Nat renaming add_assoc->di,le_refl->K,zero_le->dj
open Option renaming map_none->ej,map_some->eh,none->E,some->V
open Option.some renaming inj->ep
open UInt8.toNat renaming inj->cr
namespace Go.Proofs.YtakkmiomhackiaaGreatDoor
open Go.RowKit
theorem aBN{w a:D}(b:ag w.drew.heap.size w.drew a){y p f c e d i k o v pa:Addr}{A m t g u B h n q j s:au}(F:w.cell? y=V A)(r:w.cell? o=V q)(x:w.cell? v=V j)(z:w.cell? pa=V s)(P:w.cell? p=V m)(C:w.cell? f=V t)(T:w.cell? c=V g)(G:w.cell? e=V u)(S:w.cell? d=V B)(W:w.cell? i=V h)(R:w.cell? k=V n):
 a.cell? y=V A/\a.cell? o=V q/\a.cell? v=V j/\a.cell? pa=V s/\a.cell? p=V m/\a.cell? f=V t/\a.cell? c=V g/\a.cell? e=V u/\a.cell? d=V B/\a.cell? i=V h/\a.cell? k=V n:=
 have l:=zF b F P C T G S W R
 ⟨l.1,(b.cell (dh w _ r)).trans r,(b.cell (dh w _ x)).trans x,(b.cell (dh w _ z)).trans z,l.2⟩
theorem aIa(s:ByteArray):(s !=s)=U:=by
 rcases s with⟨d⟩
 show(!(d==d))=U
 simp
theorem aBO(F G:Nat->Prop)(w:D)(a0 V2 K2:au)(keys:List (List UInt8))(d:List au)(u:List (List au))(l:List Tr)(y:aR 2 130 w a0 l.length (jZ keys d))(C:d.length=l.length)(r:keys.length=l.length)(s:aR 6 34 w V2 l.length u.flatten)(P:u.length=l.length)(f:Win 9 encS w K2 keys)
 (ht:∀(i:Nat)(v:au)(t:Tr),d[i]?=V v->l[i]?=V t->eJ F w v t)(R:∀(i:Nat)(c:List au)(t:Tr),u[i]?=V c->l[i]?=V t->ValAt G w c t)(hl:l.length<=65536)(ih:∀t∈l,uL t):
 ba Q 15 #[ai 115 a0,H #[J I 6,O U,J bm 0,N ⟨#[]⟩,V2,K2]] w λe w'=>e=bc (O X)/\ag w.heap.size w w':=by
 obtain⟨h,o,rfl⟩:=y.A8;obtain⟨a2,c2,rfl⟩:=s.A8;obtain⟨a3,T,rfl⟩:=f.A8;obtain⟨n,hn⟩:∃n,l.length=n:=⟨_,rfl⟩;rw[r]at f⊢;rw[hn]at y s hl f⊢;have hpl:(jZ keys d).length=n*2:=y.1
 have hpc:∀(i:Nat)(k:List UInt8)(v:au),keys[i]?=V k->d[i]?=V v->(jZ keys d)[i*2]?=V (encS k)/\(jZ keys d)[i*2+1]?=V v:=λi k v h1 h2=>by
  have A:((keys.zip d).map aFl)[i]?=V [encS k,v]:=by
   rw[List.getElem?_map,show(keys.zip d)[i]?=V (k,v)from by rw[List.getElem?_zip_eq_some];exact⟨h1,h2⟩];rfl
  have z:∀c∈(keys.zip d).map aFl,c.length=2:=by
   intro c hc;obtain⟨x,_,rfl⟩:=List.mem_map.1 hc;rfl
  exact⟨by have:=oN z A (j:=0) (by decide);simpa[jZ]using this,by have:=oN z A (j:=1) (by decide);simpa[jZ]using this⟩
 have HV:=L (λ(i:Nat)(v:au)(hv:d[i]?=V v)=>show ∃(g off z A:Nat)(S:ByteArray),h=V ⟨g,off,E⟩/\a3=V ⟨z,A,E⟩/\∀W,ag w.heap.size w W->W.cell? ⟨g,off+i*2,E⟩=V (N S)/\W.cell? ⟨g,off+i*2+1,E⟩=V v/\W.cell? ⟨z,A+i,E⟩=V (N S)from by
  have hi:i<d.length:=(List.getElem?_eq_some_iff.1 hv).1;have hk:keys[i]?=V (keys[i]'(by omega)):=List.getElem?_eq_getElem (by omega);obtain⟨g,off,cap,e⟩:=y.P5 (by omega);injection e with y1 y2 y3
  subst y1;obtain⟨p1,p2⟩:=hpc i _ v hk hv;rcases f with⟨_,e⟩|⟨z,A,cap3,cur3,e3,B,-,-,-,hi3⟩
  .rw[e]at r;simp at r;omega
  .injection e3 with x1 x2 x3
   subst x1;refine⟨g,off,z,A,_,rfl,rfl,λW hW=>⟨(y.A0 (dt (λ_=>False) hW) λ_ _=>id).B5 p1,?_,by rw[aA (keep B hW)];exact hi3 i _ hk⟩⟩;have:=(y.A0 (dt (λ_=>False) hW) λ_ _=>id).B5 p2;rw[di];exact this)
 have HT:=L (zE (n:=n) hn s C P ht R ih);have ta102:∀w:D,(av (ai 115 (Y h n o)) 39 102 X).run Q w=aw (ac #[H #[],O U]) w:=λ_=>by kernel_rfl
 have ta104:∀w:D,(av (ai 115 (Y h n o)) 39 104 X).run Q w=aw (ac #[O U,O U]) w:=λ_=>by kernel_rfl
 have ta107:∀w:D,(av (ai 115 (Y h n o)) 39 107 X).run Q w=aw (ac #[.float .f64 0,O U]) w:=λ_=>by kernel_rfl
 have ta109:∀w:D,(av (ai 115 (Y h n o)) 39 109 X).run Q w=aw (ac #[N ⟨#[]⟩,O U]) w:=λ_=>by kernel_rfl
 have ta112:∀w:D,(av (ai 115 (Y h n o)) 39 112 X).run Q w=aw (ac #[Y E 0 0,O U]) w:=λ_=>by kernel_rfl
 have ta115:∀w:D,(av (ai 115 (Y h n o)) 39 115 X).run Q w=aw (ac #[Y h n o,O X]) w:=λ_=>by kernel_rfl
 have ta117:∀w:D,(av (ai 115 (Y h n o)) 39 117 X).run Q w=aw (ac #[.pointer E,O U]) w:=λ_=>by kernel_rfl
 have ta120:∀w:D,(av (ai 115 (Y h n o)) 39 120 X).run Q w=aw (ac #[.nilIface,O U]) w:=λ_=>cY underlying120 (by kernel_rfl) (by kernel_rfl) _ _ _
 have ta123:∀w:D,(av (ai 115 (Y h n o)) 39 123 X).run Q w=aw (ac #[ai 115 (Y h n o),O X]) w:=λ_=>by kernel_rfl
 have ta126:∀w:D,(av (ai 115 (Y h n o)) 39 126 X).run Q w=aw (ac #[ai 115 (Y h n o),O X]) w:=λ_=>by kernel_rfl
 have hq:=λw=>sK w
 have hal:=(aj w.heap.size w).alloc (K _) (Z #[J I 6,O U,J bm 0,N ⟨#[]⟩,Y a2 n c2,Y a3 n T] 34);have B:=bj w (Z #[J I 6,O U,J bm 0,N ⟨#[]⟩,Y a2 n c2,Y a3 n T] 34);obtain⟨-,-,-,-,-,-,-⟩:=bN B;have HAL:=L hal;have HBX:=L B;clear hal B y s f ht R ih hn P C r hpl hpc;go_enter func15,ntmps15;go_wp2_with fail
 go_quiet (fail)
 go_wp2_with fail;generalize f:World.drewN _ _=W1;have r:ag w.heap.size w W1:=by rw[<-f];exact eR (HAL.o.alloc (by simp) _)
 have s:W1.heap[w.heap.size]?=V (Z #[J I 6,O U,J bm 0,N ⟨#[]⟩,Y a2 n c2,Y a3 n T] 34 (0,0)):=by rw[<-f];exact(du _ _ _ (by simp)).trans HBX.o
 have P:=L (And.intro r s);clear f r s
 go_loopw [26] (λv wr=>∃i:Nat,v=J I i/\i<=n/\M (ag w.heap.size w wr/\wr.heap[w.heap.size]?=V (Z #[J I 6,O U,J bm 0,N ⟨#[]⟩,Y a2 n c2,Y a3 n T] 34 (0,0)))) (λv _=>n-(co v).toNat)
 case atStart=>exact⟨0,rfl,dj _,P⟩
 case round=>
  obtain⟨i,rfl,hi,s⟩:=hrel
  by_cases R:i<n
  .have e1:(i:Int)<(n:Int):=by omega
   have i1:(0:Int)<=(i:Int):=by omega
   obtain⟨a1,x,y,B,so,fl,bi,tx,a,n',m,b,p,q,hv,rfl,-,f⟩:=HT.o i R;obtain⟨g,off,z,A,S,rfl,rfl,r⟩:=HV.o i _ hv;obtain⟨⟨d0,d1,d2,d3,d4,d5⟩,_⟩:=f wr s.o.1;obtain⟨hck,hc,C⟩:=r wr s.o.1;obtain⟨_,_,_,_,hx4,hx5,_⟩:=bN s.o.2;have HC:=L λW hW=>(f W hW).2
   have heq:=λw=>zD w a1 x
   clear f r hv;go_wp2_with fail
   go_region_held3 (λw'=>w'.cell? ⟨g,off+i*2+1,E⟩=V (ai a1 x)/\w'.cell? ⟨g,off+i*2,E⟩=V (N S)/\w'.cell? ⟨z,A+i,E⟩=V (N S)/\w'.cell? ⟨w.heap.size,5,E⟩=V (Y (V ⟨z,A,E⟩) n T)/\w'.cell? ⟨w.heap.size,4,E⟩=V (Y (V ⟨y,B,E⟩) n c2)/\w'.cell? ⟨y,B+i*6,E⟩=V (J I so)/\w'.cell? ⟨y,B+i*6+1,E⟩=V (O fl)/\w'.cell? ⟨y,B+i*6+2,E⟩=V (J bm bi)/\w'.cell? ⟨y,B+i*6+3,E⟩=V (N tx)/\w'.cell? ⟨y,B+i*6+4,E⟩=V (Y a n' m)/\w'.cell? ⟨y,B+i*6+5,E⟩=V (Y b p q)) (first|exact hS|go_keep) ((go_at_call 15;(refine(HC.o _ (eR (k:=1) s.o.1)).mono ?_);rintro e w3 ⟨rfl,f⟩;have hS:=aBN f hc hck C hx5 hx4 d0 d1 d2 d3 d4 d5))
   all_goals
    have r:=L (dN f);clear f hS;go_wp2_with fail;exact⟨⟨i+1,by go_num,by omega,L ⟨chain s.o.1 r.o,keep s.o.2 r.o⟩⟩,by simp[co];omega⟩
  .have e1:¬(i:Int)<(n:Int):=by omega
   go_wp2_with fail;go_ret;exact⟨rfl,s.o.1⟩
theorem aIb{t:Tr}(W:Small t):uL t:=by
 induction W with
 | null=>
  intro F G w v e f g h a n m b p q i d;generalize j:eV e f g h (Y a n m) (Y b p q)=c at d;cases i;cases d;cases j;exact aGd w
 | flag x=>
  intro F G w v e f g h a n m b p q i d;generalize j:eV e f g h (Y a n m) (Y b p q)=c at d;cases i;cases d;cases j;exact aGe w x
 | num x=>
  intro F G w v e f g h a n m b p q i d;generalize j:eV e f g h (Y a n m) (Y b p q)=c at d;cases i;cases d;cases j;exact aH8 w x
 | text s=>
  intro F G w v e f g h a n m b p q i d;generalize j:eV e f g h (Y a n m) (Y b p q)=c at d;cases i;cases d;cases j;exact aGf w _
 | list l z W A=>
  intro F G w v e f g h a n m b p q i d;generalize j:eV e f g h (Y a n m) (Y b p q)=c at d;cases i with
  | list a0 k l B hF C=>
   cases d with
   | list V2 o l r P u y=>
    cases j;exact aGg F G w a0 _ k o l B r u C y z A
 | object keys l hk z W A=>
  intro F G w v e f g h a n m b p q i d;generalize j:eV e f g h (Y a n m) (Y b p q)=c at d;cases i with
  | object a0 keys k l B hF R C=>
   cases d with
   | object V2 K2 o keys l r P S hKF u T y=>
    cases j;exact aBO F G w a0 _ _ keys k o l B R T r u S C y z A
theorem aIA(w:D)(s:ByteArray)(c n:Nat)(hs:s.size<=2147483648)(he:c+1<s.size)(d:s[c+1]=117)(b:dI U 4 0 (s.data.toList.drop (c+2))=bg n)(g:55296<=n/\n<=56319):ba Q 155 #[N s,J I c] w λe w'=>
 e=bc (gQ c (lX (s.data.toList.drop (c+1))))/\ag w.heap.size w w':=by
 obtain⟨p,f⟩:∃p,c+1=p:=⟨_,rfl⟩;have d:s[p]'(by omega)=117:=by subst f;exact d
 have hps:p<s.size:=by omega
 have q1:I.wrap ((c:Int)+1)=(p:Int):=by rw[ah];omega
 have q2:¬(s.size:Int)<=(p:Int):=by omega
 have q3:(p:Int)<(s.size:Int):=by omega
 have q4:I.wrap ((c:Int)+2)=((c+2:Nat):Int):=by rw[ah];omega
 have HF:=L (λW=>oO W s (c+2) U (by omega) hs);rw[f,aZ hps,lX,if_pos d,show p+1=c+2 by omega];have e1:(((s[p].toNat:Nat):Int)!=117)=U:=by rw[d];rfl
 have h:(w.alloc (Z #[N ⟨#[]⟩,J I 0,J I 0,J I 0,O U] 200)).heap[w.heap.size]?=V (Z #[N ⟨#[]⟩,J I 0,J I 0,J I 0,O U] 200 (0,0)):=bj w _;have i:=(aj w.heap.size w).alloc (K _) (Z #[N ⟨#[]⟩,J I 0,J I 0,J I 0,O U] 200);rw[b,j5]at HF;rw[b,ak,if_neg (by omega),dv,show c+2+4=c+6 by omega];have hn1:¬(n:Int)<55296:=by omega
 have hn2:¬(56319:Int)<(n:Int):=by omega
 have HN:=L g;have HA:=L he;clear d b f g;obtain⟨r,b⟩:∃r,c+6=r:=⟨_,rfl⟩;have B:I.wrap ((c:Int)+6)=(r:Int):=by have:=HA.o;rw[ah];omega
 have C:I.wrap (r:Int)=(r:Int):=by have:=HA.o;rw[ah];omega
 have A:I.wrap ((r:Int)+1)=((r+1:Nat):Int):=by have:=HA.o;rw[ah];omega
 rw[b];have HR:=L b;clear b;obtain⟨R,d⟩:∃R,xX n (s.data.toList.drop r)=R:=⟨_,rfl⟩;rw[d];go_enter func155,ntmps155;go_wp2_with fail;refine(HF.o _).mono ?_;rintro e w3 ⟨rfl,b⟩;have f:=(aj w3.heap.size w3).alloc (K _) (Z #[N ⟨#[]⟩,J I 0,J I 0,J I 0,O U] 200);have g8:=L (keep (keep h b) f);have hb5:=L (chain (chain i b) f);clear b f h i;go_wp2_with fail;generalize w3.alloc (Z #[N ⟨#[]⟩,J I 0,J I 0,J I 0,O U] 200)=w4 at*;have h:=L (λq=>show(w4.drewN q).heap[w.heap.size]?=V (Z #[N ⟨#[]⟩,J I 0,J I 0,J I 0,O U] 200 (0,0))from g8.o);have i:=L (λq=>show ag w.heap.size w (w4.drewN q)from hb5.o.trans ⟨rfl,rfl,rfl,K _,λ_ _=>rfl⟩);refine wp_loop_rounds 3 ?_
 by_cases h6:r<s.size
 .have a1:¬(s.size:Int)<=(r:Int):=by omega
  have a2:(r:Int)<(s.size:Int):=by omega
  have p0:(((⟨#[92,117]⟩:ByteArray)[0].toNat:Nat):Int)=92:=rfl;have p1:(((⟨#[92,117]⟩:ByteArray)[1].toNat:Nat):Int)=117:=rfl;rw[aZ h6]at d;simp only[xX]at d
  by_cases F:s[r]=92
  .have e2:(((s[r].toNat:Nat):Int)!=92)=U:=by rw[F];rfl
   rw[if_pos F]at d;obtain⟨q,b⟩:∃q,r+1=q:=⟨_,rfl⟩;rw[b]at d A;have HQ:=L b;clear F b;rw[ao];go_wp2_with fail
   go_quiet (fail)
   go_wp2_with fail
   by_cases h7:q<s.size
   .have a3:¬(s.size:Int)<=(q:Int):=by omega
    have a4:(q:Int)<(s.size:Int):=by omega
    rw[aZ h7]at d;simp only at d
    by_cases j:s[q]=117
    .have e3:(((s[q].toNat:Nat):Int)!=117)=U:=by rw[j];rfl
     obtain⟨t,b⟩:∃t,c+8=t:=⟨_,rfl⟩;have t1:I.wrap ((c:Int)+8)=(t:Int):=by have:=HA.o;rw[ah];omega
     have k:=L (λW=>oO W s t X (by have:=HA.o;omega) hs);rw[if_pos j,show q+1=t by have:=HQ.o;have:=HR.o;omega]at d;have HT:=L b;clear j b;cases l:dI X 4 0 (s.data.toList.drop t)with
     | cut=>
      rw[l]at k d;rw[j5]at k;have d:bp=R:=d;subst d;clear l;rw[ao];go_wp2_with fail
      go_quiet (fail)
      go_wp2_with fail;rw[ao];go_wp2_with fail;refine(k.o _).mono ?_;rintro e w5 ⟨rfl,b⟩;have f:=(aj w5.heap.size w5).alloc (K _) (Z #[N ⟨#[]⟩,J I 0,J I 0,J I 0,O X] 200);have K7:=L (keep (keep (h.o _) b) f);have KB:=L (chain (chain (i.o _) b) f);obtain⟨c0,c1,c2,c3,c4,cf⟩:=cells5 (keep (keep (h.o _) b) f);clear b f;go_wp2;obtain⟨P,G⟩:=bE (N ⟨#[]⟩) (J I 0) (J I 0) (J I 0) (O X) K7.o KB.o (K _);have g:=L G;obtain⟨S,B,C,A,T,_⟩:=cells5 P;exact ae (v:=H #[N ⟨#[]⟩,J I 0,J I 0,J I 0,O X]) (by simp[af,bk,go_sem,S,B,C,A,T]) rfl ⟨rfl,g.o⟩
     | bad no a=>
      have hno:=nU l;have hz:((no:Int)!=0)=X:=by rcases hno with rfl|rfl<;>rfl
      rw[l]at k d;obtain⟨x,hx⟩:∃x,t+a=x:=⟨_,rfl⟩;rw[j5,hx]at k;have d:az no (8+a)=R:=d;subst d;have HX:=L hx;clear l hno hx;rw[ao];go_wp2_with fail
      go_quiet (fail)
      go_wp2_with fail;rw[ao];go_wp2_with fail;refine(k.o _).mono ?_;rintro e w5 ⟨rfl,b⟩;have f:=(aj w5.heap.size w5).alloc (K _) (Z #[N ⟨#[]⟩,J I 0,J I no,J I (x:Int),O U] 200);have K7:=L (keep (keep (h.o _) b) f);have KB:=L (chain (chain (i.o _) b) f);obtain⟨c0,c1,c2,c3,c4,cf⟩:=cells5 (keep (keep (h.o _) b) f);clear b f;go_wp2;obtain⟨P,G⟩:=bE (N ⟨#[]⟩) (J I 0) (J I no) (J I (x:Int)) (O U) K7.o KB.o (K _);have g:=L G;obtain⟨S,B,C,A,T,_⟩:=cells5 P;exact ae (v:=H #[N ⟨#[]⟩,J I 0,J I no,J I (x:Int),O U]) (by simp[af,bk,go_sem,S,B,C,A,T]) rfl ⟨by rw[<-HX.o,<-HT.o,di];rfl,g.o⟩
     | ok m=>
      obtain⟨m1,_,m2⟩:=tJ l;have m2:=m2 rfl;rw[l]at k d;rw[j5]at k;obtain⟨v,hv⟩:∃v,65536+(n-55296)*1024+m-56320=v:=⟨_,rfl⟩;have d:bg (aS (65536+(n-55296)*1024+m-56320),12)=R:=d;rw[hv]at d;subst d;obtain⟨y,hy⟩:∃y,n-55296=y:=⟨_,rfl⟩;have f1:I.wrap ((n:Int)-55296)=(y:Int):=by have:=HN.o;rw[ah];omega
      have hy2:y<=1023:=by have:=HN.o;omega
      rw[hy]at hv;have f2:I.wrap ((y:Int)*1024)=((y*1024:Nat):Int):=by rw[ah];omega
      obtain⟨z,hz⟩:∃z,y*1024=z:=⟨_,rfl⟩;rw[hz]at f2 hv;have f3:I.wrap (65536+(z:Int))=((65536+z:Nat):Int):=by rw[ah];omega
      obtain⟨u,hu⟩:∃u,65536+z=u:=⟨_,rfl⟩;rw[hu]at f3 hv;have f4:I.wrap ((u:Int)+(m:Int))=((u+m:Nat):Int):=by rw[ah];omega
      obtain⟨o,ho⟩:∃o,u+m=o:=⟨_,rfl⟩;rw[ho]at f4 hv;have f5:I.wrap ((o:Int)-56320)=(v:Int):=by rw[ah];omega
      have f6:ek.wrap (v:Int)=(v:Int):=by rw[em];omega
      have HE:=L (λW=>tI W v (by omega) (by omega));clear l m1 m2 hv hy hy2 hz hu ho;rw[ao];go_wp2_with fail
      go_quiet (fail)
      go_wp2_with fail;rw[ao];go_wp2_with fail;refine(k.o _).mono ?_;rintro e w5 ⟨rfl,b⟩;have f:=(aj w5.heap.size w5).alloc (K _) (Z #[N ⟨#[]⟩,J I 0,J I 0,J I 0,O U] 200);have g9:=L (keep (keep (h.o _) b) f);have l:=L (chain (chain (i.o _) b) f);clear b f;go_wp2_with fail;refine(HE.o _).mono ?_;rintro e w6 ⟨rfl,f⟩;have K7:=L (keep g9.o f);have KB:=L (chain l.o f);obtain⟨c0,c1,c2,c3,c4,cf⟩:=cells5 (keep g9.o f);clear f;go_wp2;obtain⟨P,G⟩:=bE (N ⟨(aS v).toArray⟩) (J I 12) (J I 0) (J I 0) (O U) K7.o KB.o (K _);have g:=L G;obtain⟨S,B,C,A,T,_⟩:=cells5 P;exact ae (v:=H #[N ⟨(aS v).toArray⟩,J I 12,J I 0,J I 0,O U]) (by simp[af,bk,go_sem,S,B,C,A,T]) rfl ⟨rfl,g.o⟩
    .have e3:(((s[q].toNat:Nat):Int)!=117)=X:=by
      have:s[q].toNat≠117:=λe=>j (cr e)
      simp;omega
     rw[if_neg j]at d;subst d;clear j;have f:M (∀W:D,ba Q 156 #[J I 93,J I q] W λe w'=>e=bc (H #[N ⟨#[]⟩,J I 0,J I 93,J I (q:Int),O U])/\ag W.heap.size W w'):=λW=>l0 W 93 q
     rw[ao];go_wp2_with fail
     go_quiet (fail)
     go_wp2_with fail;refine(f.o _).mono ?_;rintro e w5 ⟨rfl,b⟩;have K7:=L (keep (h.o _) b);have KB:=L (chain (i.o _) b);obtain⟨c0,c1,c2,c3,c4,cf⟩:=cells5 (keep (h.o _) b);clear b;go_wp2;obtain⟨P,G⟩:=bE (N ⟨#[]⟩) (J I 0) (J I 93) (J I (q:Int)) (O U) K7.o KB.o (K _);have g:=L G;obtain⟨S,B,C,A,T,_⟩:=cells5 P;exact ae (v:=H #[N ⟨#[]⟩,J I 0,J I 93,J I (q:Int),O U]) (by simp[af,bk,go_sem,S,B,C,A,T]) rfl ⟨by rw[<-HQ.o,<-HR.o];rfl,g.o⟩
   .have a3:(s.size:Int)<=(q:Int):=by omega
    rw[dA h7]at d;have d:bp=R:=d;subst d;clear h7;obtain⟨c0,c1,c2,c3,c4,cf⟩:=cells5 g8.o;rw[ao];go_wp2;obtain⟨P,G⟩:=bE (N ⟨#[]⟩) (J I 0) (J I 0) (J I 0) (O X) (h.o _) (i.o _) (K _);have g:=L G;obtain⟨S,B,C,A,T,_⟩:=cells5 P;exact ae (v:=H #[N ⟨#[]⟩,J I 0,J I 0,J I 0,O X]) (by simp[af,bk,go_sem,S,B,C,A,T]) rfl ⟨rfl,g.o⟩
  .have e2:(((s[r].toNat:Nat):Int)!=92)=X:=by
    have:s[r].toNat≠92:=λe=>F (cr e)
    simp;omega
   rw[if_neg F]at d;subst d;clear F;have f:M (∀W:D,ba Q 156 #[J I 93,J I r] W λe w'=>e=bc (H #[N ⟨#[]⟩,J I 0,J I 93,J I (r:Int),O U])/\ag W.heap.size W w'):=λW=>l0 W 93 r
   rw[ao];go_wp2_with fail
   go_quiet (fail)
   go_wp2_with fail;refine(f.o _).mono ?_;rintro e w5 ⟨rfl,b⟩;have K7:=L (keep (h.o _) b);have KB:=L (chain (i.o _) b);obtain⟨c0,c1,c2,c3,c4,cf⟩:=cells5 (keep (h.o _) b);clear b;go_wp2;obtain⟨P,G⟩:=bE (N ⟨#[]⟩) (J I 0) (J I 93) (J I (r:Int)) (O U) (K7.o) (KB.o) (K _);have g:=L G;obtain⟨S,B,C,A,T,_⟩:=cells5 P;exact ae (v:=H #[N ⟨#[]⟩,J I 0,J I 93,J I (r:Int),O U]) (by simp[af,bk,go_sem,S,B,C,A,T]) rfl ⟨by rw[<-HR.o];rfl,g.o⟩
 .have a1:(s.size:Int)<=(r:Int):=by omega
  rw[dA h6,xX]at d;subst d;clear h6;obtain⟨c0,c1,c2,c3,c4,cf⟩:=cells5 g8.o;rw[ao];go_wp2;obtain⟨P,G⟩:=bE (N ⟨#[]⟩) (J I 0) (J I 0) (J I 0) (O X) g8.o hb5.o (K _);have g:=L G;obtain⟨S,B,C,A,T,_⟩:=cells5 P;exact ae (v:=H #[N ⟨#[]⟩,J I 0,J I 0,J I 0,O X]) (by simp[af,bk,go_sem,S,B,C,A,T]) rfl ⟨rfl,g.o⟩
theorem aIB(w:D)(s:ByteArray)(b:Nat)(i:b<s.size)(d:s.size<=2147483648):ba Q 155 #[N s,J I b] w λe w'=>
 e=bc (gQ b (lX (s.data.toList.drop (b+1))))/\ag w.heap.size w w':=by
 by_cases c:b+1<s.size
 .by_cases f:s[b+1]=117
  .cases g:dI U 4 0 (s.data.toList.drop (b+2))with
   | ok n=>
    by_cases j:n<55296\/56319<n
    .exact aIz w s b n d c f g j
    .exact aIA w s b n d c f g (by omega)
   | cut=>exact aCa w s b d c f (by rw[g];intro n h;cases h)
   | bad no a=>exact aCa w s b d c f (by rw[g];intro n h;cases h)
  .exact aIy w s b d c f
 .exact aIx w s b i d c
theorem aCb{f:Form}:∀{m i no a:Nat}{l:List UInt8},cS f m i l=az no a->no=90
 | 0,_,_,_,l,h=>by rw[cS]at h;cases h
 | m+1,_,_,_,[],h=>by rw[cS]at h;cases h
 | m+1,i,no,a,c::l,h=>by
  rw[cS]at h;split at h
  .exact aCb h
  .injection h with b h2;exact b.symm
theorem aCc{l:List UInt8}{no a:Nat}(h:fD l=az no a):no=90:=by
 cases l with
 | nil=>cases h
 | cons c t=>
  rw[fD]at h;split at h
  .injection h with b h2;exact b.symm
  .exact aCb h
theorem rH{s:ByteArray}{i n:Nat}:s.extract i (i+n)=⟨((s.data.toList.drop i).take n).toArray⟩:=by
 apply eo;apply Array.ext';simp
theorem aCd(i:Nat)(R:Pc (List UInt8×Nat)):∃u a b c d,gQ i R=H #[N u,J I a,J I b,J I c,O d]:=by cases R<;>exact⟨_,_,_,_,_,rfl⟩
theorem aDT(w:D)(s:ByteArray)(i:Nat)(hi:i<s.size)(hs:s.size<=2147483648):ba Q 118 #[N s,J I i] w λe w'=>
 e=bc (gQ i (gN (s.data.toList.drop i)))/\ag w.heap.size w w':=by
 have i1:(i:Int)<(s.size:Int):=by omega
 have h:(w.alloc (Z #[N ⟨#[]⟩,J I 0,J I 0,J I 0,O U] 200)).heap[w.heap.size]?=V (Z #[N ⟨#[]⟩,J I 0,J I 0,J I 0,O U] 200 (0,0)):=bj w _;have A:=(aj w.heap.size w).alloc (K _) (Z #[N ⟨#[]⟩,J I 0,J I 0,J I 0,O U] 200);have HE:=L (λW=>aIB W s i hi hs);have B:=L (λW=>aAG W s i hi hs);have f:gN (s.data.toList.drop i)=if s[i]=92 then lX (s.data.toList.drop (i+1))else if s[i].toNat<32 then az 91 0 else(fD (s.data.toList.drop i)).L2 0 λn=>bg ((s.data.toList.drop i).take n,n):=by rw[aZ hi,gN]
 rw[f];clear f
 by_cases j:s[i]=92
 .have e1:(((s[i].toNat:Nat):Int)==92)=X:=by rw[j];rfl
  rw[if_pos j];clear j;obtain⟨R,k⟩:∃R,lX (s.data.toList.drop (i+1))=R:=⟨_,rfl⟩;rw[k]at HE⊢;obtain⟨u,a,b,c,d,f⟩:=aCd i R;rw[f]at HE⊢;clear k f;go_enter bw,bx;go_wp2_with fail;refine(HE.o _).mono ?_;rintro e F ⟨rfl,f⟩;have l:=L (keep h f);have m:=L (chain A f);obtain⟨G,c1,c2,S,T,cf⟩:=cells5 (keep h f);clear f h A;go_wp2;obtain⟨P,o⟩:=bE (N u) (J I a) (J I b) (J I c) (O d) l.o m.o (K _);have g:=L o;obtain⟨p,r,t,y,z,_⟩:=cells5 P;exact ae (v:=H #[N u,J I a,J I b,J I c,O d]) (by simp[af,bz,go_sem,p,r,t,y,z]) rfl ⟨rfl,g.o⟩
 .have e1:(((s[i].toNat:Nat):Int)==92)=U:=by
   have:s[i].toNat≠92:=λe=>j (cr e)
   simp;omega
  rw[if_neg j];clear j
  by_cases j:s[i].toNat<32
  .have e2:((s[i].toNat:Nat):Int)<32:=by omega
   rw[if_pos j];clear j;have C:M (∀W:D,ba Q 156 #[J I 91,J I i] W λe w'=>e=bc (H #[N ⟨#[]⟩,J I 0,J I 91,J I (i:Int),O U])/\ag W.heap.size W w'):=λW=>l0 W 91 i
   go_enter bw,bx;go_wp2_with fail;refine(C.o _).mono ?_;rintro e F ⟨rfl,f⟩;have l:=L (keep h f);have m:=L (chain A f);obtain⟨G,c1,c2,S,T,cf⟩:=cells5 (keep h f);clear f h A;go_wp2;obtain⟨P,o⟩:=bE (N ⟨#[]⟩) (J I 0) (J I 91) (J I (i:Int)) (O U) l.o m.o (K _);have g:=L o;obtain⟨p,r,t,y,z,_⟩:=cells5 P;exact ae (v:=H #[N ⟨#[]⟩,J I 0,J I 91,J I (i:Int),O U]) (by simp[af,bz,go_sem,p,r,t,y,z]) rfl ⟨rfl,g.o⟩
  .have e2:¬((s[i].toNat:Nat):Int)<32:=by omega
   rw[if_neg j];clear j;cases k:fD (s.data.toList.drop i)with
   | cut=>
    rw[k,aBU]at B;clear k;obtain⟨G,c1,c2,S,T,cf⟩:=cells5 h;have l:=L h;have m:=L A;go_enter bw,bx;go_wp2_with fail;generalize w.alloc (Z #[N ⟨#[]⟩,J I 0,J I 0,J I 0,O U] 200)=w1 at*;refine(B.o _).mono ?_;rintro e F ⟨rfl,rfl⟩;go_wp2;obtain⟨P,o⟩:=bE (N ⟨#[]⟩) (J I 0) (J I 0) (J I 0) (O X) l.o m.o (K _);have g:=L o;obtain⟨p,r,t,y,z,_⟩:=cells5 P;exact ae (v:=H #[N ⟨#[]⟩,J I 0,J I 0,J I 0,O X]) (by simp[af,bz,go_sem,p,r,t,y,z]) rfl ⟨rfl,g.o⟩
   | bad no a=>
    rw[k,aBU]at B;obtain rfl:=aCc k;obtain⟨x,f⟩:∃x,i+a=x:=⟨_,rfl⟩;rw[show(i:Int)+(a:Int)=(x:Int) by omega]at B;have j:=L f;have C:M (∀W:D,ba Q 156 #[J I 90,J I x] W λe w'=>e=bc (H #[N ⟨#[]⟩,J I 0,J I 90,J I (x:Int),O U])/\ag W.heap.size W w'):=λW=>l0 W 90 x
    clear k f;go_enter bw,bx;go_wp2_with fail;refine(B.o _).mono ?_;rintro e F ⟨rfl,rfl⟩;go_wp2_with fail;refine(C.o _).mono ?_;rintro e w4 ⟨rfl,f⟩;have l:=L (keep h f);have m:=L (chain A f);obtain⟨G,c1,c2,S,T,cf⟩:=cells5 (keep h f);clear f h A;go_wp2;obtain⟨P,o⟩:=bE (N ⟨#[]⟩) (J I 0) (J I 90) (J I (x:Int)) (O U) l.o m.o (K _);have g:=L o;obtain⟨p,r,t,y,z,_⟩:=cells5 P;exact ae (v:=H #[N ⟨#[]⟩,J I 0,J I 90,J I (x:Int),O U]) (by simp[af,bz,go_sem,p,r,t,y,z]) rfl ⟨by rw[<-j.o];simp[gQ,ak],g.o⟩
   | ok n=>
    rw[k,aBU]at B;obtain⟨q,f⟩:∃q,i+n=q:=⟨_,rfl⟩;have C:=(aFq hi k).2;have q1:I.wrap ((i:Int)+(n:Int))=(q:Int):=by rw[ah];omega
    have q2:(i:Int)<=(q:Int):=by omega
    have q3:(q:Int)<=(s.size:Int):=by omega
    have j:=L (show s.extract i q=⟨((s.data.toList.drop i).take n).toArray⟩ by rw[<-f];exact rH);clear k f C;obtain⟨G,c1,c2,S,T,cf⟩:=cells5 h;have l:=L h;have m:=L A;go_enter bw,bx;go_wp2_with fail;generalize w.alloc (Z #[N ⟨#[]⟩,J I 0,J I 0,J I 0,O U] 200)=w1 at*;refine(B.o _).mono ?_;rintro e F ⟨rfl,rfl⟩;go_wp2;obtain⟨P,o⟩:=bE (N (s.extract i q)) (J I (n:Int)) (J I 0) (J I 0) (O U) l.o m.o (K _);have g:=L o;obtain⟨p,r,t,y,z,_⟩:=cells5 P;exact ae (v:=H #[N (s.extract i q),J I (n:Int),J I 0,J I 0,O U]) (by simp[af,bz,go_sem,p,r,t,y,z]) rfl ⟨by rw[j.o];rfl,g.o⟩
def aKu(b:Nat):Pc (List UInt8×Nat)->au
 | .cut=>ac #[N ⟨#[]⟩,J I 0,H #[N ⟨#[]⟩,J I 0,J I 0,J I 0,O X]]
 | .bad no a=>ac #[N ⟨#[]⟩,J I 0,H #[N ⟨#[]⟩,J I 0,J I (no:Int),J I ((b+a:Nat):Int),O U]]
 | .ok x=>ac #[N ⟨x.1.toArray⟩,J I ((b+x.2:Nat):Int),H #[N ⟨#[]⟩,J I 0,J I 0,J I 0,O U]]
theorem aJ2{l:List UInt8}{no a:Nat}(h:lX l=az no a):no=92\/no=93:=by
 unfold lX at h;cases l with
 | nil=>cases h
 | cons c t=>
  simp only at h;split at h
  .cases g:dI U 4 0 t with
   | cut=>rw[g]at h;cases h
   | bad n b=>
    rw[g,ak]at h;injection h with e h2
    subst e;exact nU g
   | ok n=>
    rw[g,ak]at h;split at h
    .cases h
    .unfold xX at h;split at h
     .cases h
     .split at h
      .split at h
       .cases h
       .rename_i d u _;split at h
        .cases f:dI X 4 0 u with
         | cut=>rw[f]at h;cases h
         | bad m b=>
          rw[f,ak]at h;injection h with e h2
          subst e;exact nU f
         | ok m=>rw[f,ak]at h;cases h
        .injection h with e;exact .inr e.symm
      .injection h with e;exact .inr e.symm
  .split at h
   .injection h with e;exact .inl e.symm
   .cases h
theorem zU{l:List UInt8}{no a:Nat}(h:gN l=az no a):no≠0:=by
 unfold gN at h;cases l with
 | nil=>cases h
 | cons c t=>
  simp only at h;split at h
  .rcases aJ2 h with rfl|rfl<;>decide
  .split at h
   .injection h with e;omega
   .cases d:fD (c::t)with
    | cut=>rw[d]at h;cases h
    | bad n b=>
     rw[d,ak]at h;injection h with e h2
     rw[<-e,aCc d];decide
    | ok n=>rw[d,ak]at h;cases h
theorem aJ3{l:List UInt8}{x:List UInt8×Nat}(h:lX l=bg x):2<=x.2/\x.2<=l.length+1/\x.1.length<=x.2:=by
 unfold lX at h;cases l with
 | nil=>cases h
 | cons c t=>
  simp only at h;split at h
  .cases f:dI U 4 0 t with
   | cut=>rw[f]at h;cases h
   | bad n b=>rw[f]at h;cases h
   | ok n=>
    have o:=nX f;rw[f,ak]at h;split at h
    .injection h with e;subst e
     have:=(fQ n).2.1;simp only[bh];omega
    .unfold xX at h;have g:(t.drop 4).length=t.length-4:=dw ..;split at h
     .cases h
     .rename_i j k i;rw[i]at g;split at h
      .split at h
       .cases h
       .rename_i d u;split at h
        .cases a:dI X 4 0 u with
         | cut=>rw[a]at h;cases h
         | bad m b=>rw[a]at h;cases h
         | ok m=>
          have p:=nX a;rw[a,ak]at h;injection h with e;subst e
          have:=(fQ (65536+(n-55296)*1024+m-56320)).2.1;simp only[bh]at g⊢;omega
        .cases h
      .cases h
  .split at h
   .cases h
   .injection h with e;subst e
    simp only[bh,List.length_nil];omega
theorem zV{l:List UInt8}{x:List UInt8×Nat}(h:gN l=bg x):1<=x.2/\x.2<=l.length/\x.1.length<=x.2:=by
 unfold gN at h;cases l with
 | nil=>cases h
 | cons c t=>
  simp only at h;split at h
  .have:=aJ3 h;simp only[bh];omega
  .split at h
   .cases h
   .cases a:fD (c::t)with
    | cut=>rw[a]at h;cases h
    | bad n b=>rw[a]at h;cases h
    | ok n=>
     have d:=aCm a;rw[a,ak]at h;injection h with e;subst e
     refine⟨d.1,d.2,?_⟩;rw[List.length_take];exact Nat.min_le_left _ _
theorem aKU:∃i,Q.info? 5=V i/\i.zero=V (J .u8 0)/\i.size=1/\i.bytes=1:=by
 have h:(Q.info? 5).map (λi=>(i.zero,i.size,i.bytes))=V (V (J .u8 0),1,1):=by kernel_rfl
 exact info_parts h
theorem aD1{B:Nat}{w:D}{v:au}{l:List UInt8}{g:Array Oper}{b:List Oper}{o:Oper}{a:Act}{F:Exit->Act->D->Prop}(k:o.guard=E)(s x:Operand)
 (u:o.op=.call {callee:=.builtin .append,args:= #[s,x],argTypes:= #[22,9]})(z:a.eval s=v)(f:Row B 5 cC w v l)(t:List UInt8)(A:a.eval x=N ⟨t.toArray⟩)(C:l.length+t.length<=140737488355328)(c:B<=w.heap.size)
 (h:∀j w',Row B 5 cC w' j (l++t)->w.grownBy w' v.ownBlock->wpList Q g F b (a.put o.dst j) w'):wpList Q g F (o::b) a w:=by
 obtain⟨i,r,n,y,q⟩:=aKU;have d:(⟨t.toArray⟩:ByteArray).size=t.length:=by show t.toArray.size=_;simp
 refine Lib.wpList_append_own_string w k s x 22 9 u B 5 i underlying22 underlying9 r n y q v l.length (l.map cC) z f ⟨t.toArray⟩ A (by rw[d];unfold maxLen;omega) (by rw[d];exact C) c λj w' m p _=>h j w' ?_ p
 have e:dx ⟨t.toArray⟩=t.map cC:=by simp[dx]
 rw[d,e,<-List.map_append,<-List.length_append]at m;exact m
theorem pS{says:List UInt8}{j:Nat}{c:UInt8}{t:List UInt8}(h:c≠34):eK says j (c::t)=match gN (c::t)with
 | .cut=>bp
 | .bad no a=>az no (j+a)
 | .ok x=>eK (says++x.1) (j+x.2) (t.drop (x.2-1)):=by
 rw[eK,if_neg h];cases gN (c::t)<;>rfl
theorem zW(w:D)(s:ByteArray)(g:Nat)(ha:g<s.size)(hs:s.size<=2147483648):ba Q 88 #[N s,J I g] w λe w'=>
 e=bc (aKu g (eK [] 1 (s.data.toList.drop (g+1))))/\ag w.heap.size w w':=by
 obtain⟨R,d⟩:∃R,eK [] 1 (s.data.toList.drop (g+1))=R:=⟨_,rfl⟩;rw[d];have S:=L d;have HPC:=L (λ(W:D)(i:Nat)(hi:i<s.size)=>aDT W s i hi hs);obtain⟨p0,b⟩:∃p,g+1=p:=⟨_,rfl⟩;have a1:I.wrap ((g:Int)+1)=(p0:Int):=by rw[ah];omega
 have HP0:=L b;rw[b]at S;have ha2:p0<=s.size:=by omega
 clear d b;have n:=L ((du (w.alloc (Z #[N ⟨#[]⟩,J I 0,J I 0,J I 0,O U] 200)) (Z #[] 5) w.heap.size (by simp)).trans (bj w (Z #[N ⟨#[]⟩,J I 0,J I 0,J I 0,O U] 200)));have y:=L (((aj w.heap.size w).alloc (K _) (Z #[N ⟨#[]⟩,J I 0,J I 0,J I 0,O U] 200)).alloc (by simp) (Z #[] 5))
 have b:=L (show Row (w.heap.size+1) 5 cC ((w.alloc (Z #[N ⟨#[]⟩,J I 0,J I 0,J I 0,O U] 200)).alloc (Z #[] 5)) (Y (V ⟨w.heap.size+1,0,E⟩) 0 0) [] by
  have:=Row.I0 (w.heap.size+1) 5 cC (w.alloc (Z #[N ⟨#[]⟩,J I 0,J I 0,J I 0,O U] 200)) ([]:List UInt8) (by simp) (by simp)
  simpa using this)
 go_enter func88,ntmps88;go_wp2_with fail
 go_loopw [7,8] (λa0 v wr=>∃(says:List UInt8)(j p:Nat),v=J I p/\M (g+j=p)/\p<=s.size/\says.length<=j/\Row (w.heap.size+1) 5 cC wr a0 says/\M (eK says j (s.data.toList.drop p)=R)/\wr.heap[w.heap.size]?=V (Z #[N ⟨#[]⟩,J I 0,J I 0,J I 0,O U] 200 (0,0))/\ag w.heap.size w wr/\w.heap.size+1<=wr.heap.size) (λ_ v _=>s.size-(co v).toNat)
 case atStart=>exact⟨[],1,p0,rfl,HP0,ha2,dj _,b.o,S,n.o,y.o,by simp⟩
 case round=>
  obtain⟨says,j,p,rfl,HJ,hp,r,b,C,n,y,hsz⟩:=hrel
  by_cases z:p<s.size
  .have q1:(p:Int)<(s.size:Int):=by omega
   by_cases l:s[p]=34
   .have e1:(((s[p].toNat:Nat):Int)==34)=X:=by rw[l];rfl
    have f:=C.o;rw[aZ z,l,eK,if_pos rfl]at f;subst f;have q2:I.wrap ((p:Int)+1)=((p+1:Nat):Int):=by rw[ah];omega
    obtain⟨a,c,rfl⟩:=b.A8;have d:=fH (Win.I6 b);obtain⟨c0,c1,c2,c3,c4,cf⟩:=cells5 n;have T:=L n;have KB:=L y;clear l C S b r n y;go_wp2;obtain⟨P,PB⟩:=bE (N ⟨#[]⟩) (J I 0) (J I 0) (J I 0) (O U) T.o KB.o (K _);have o:=L PB;obtain⟨r0,r1,r2,r3,r4,_⟩:=cells5 P;exact ae (v:=ac #[N ⟨says.toArray⟩,J I ((p+1:Nat):Int),H #[N ⟨#[]⟩,J I 0,J I 0,J I 0,O U]]) (by simp[af,ct,go_sem,r0,r1,r2,r3,r4]) rfl ⟨by rw[<-HJ.o];rfl,o.o⟩
   .have e1:(((s[p].toNat:Nat):Int)==34)=U:=by
     have:s[p].toNat≠34:=λe=>l (cr e)
     simp;omega
    have f:=C.o;rw[aZ z,pS l,<-aZ z]at f;have B:=L (λW=>HPC.o W p z);have A:(s.data.toList.drop p).length=s.size-p:=by rw[dw];simp
    cases F:gN (s.data.toList.drop p)with
    | cut=>
     rw[F]at f B;have f:bp=R:=f;rw[gQ]at B;subst f;clear l C S b r F A;go_wp2_with fail;refine(B.o _).mono ?_;rintro e t ⟨rfl,d⟩;have h:=(aj t.heap.size t).alloc (K _) (Z #[N ⟨#[]⟩,J I 0,J I 0,J I 0,O X] 200);have T:=L (keep (keep n d) h);have KB:=L (chain (chain y d) h);obtain⟨c0,c1,c2,c3,c4,cf⟩:=cells5 (keep (keep n d) h)
     clear d h n y;go_wp2_with fail;obtain⟨d0,d1,d2,d3,d4,df⟩:=cells5 (bj t (Z #[N ⟨#[]⟩,J I 0,J I 0,J I 0,O X] 200));generalize t.alloc (Z #[N ⟨#[]⟩,J I 0,J I 0,J I 0,O X] 200)=G at*
     go_still_tail 3,(by kernel_rfl)
     go_wp2;obtain⟨P,PB⟩:=bE (w:=G) (N ⟨#[]⟩) (J I 0) (J I 0) (J I 0) (O X) T.o KB.o (K _);have o:=L PB;obtain⟨r0,r1,r2,r3,r4,_⟩:=cells5 P;exact ae (v:=ac #[N ⟨#[]⟩,J I 0,H #[N ⟨#[]⟩,J I 0,J I 0,J I 0,O X]]) (by simp[af,ct,go_sem,r0,r1,r2,r3,r4]) rfl ⟨rfl,o.o.drew⟩
    | bad no a=>
     have hno:((no:Int)!=0)=X:=by have:=zU F;simp;omega
     rw[F]at f B;have f:az no (j+a)=R:=f;obtain⟨x,hx⟩:∃x,p+a=x:=⟨_,rfl⟩;rw[gQ,hx]at B;have HX:=L hx;subst f;clear l C S b r F A hx;go_wp2_with fail;refine(B.o _).mono ?_;rintro e t ⟨rfl,d⟩;have h:=(aj t.heap.size t).alloc (K _) (Z #[N ⟨#[]⟩,J I 0,J I no,J I (x:Int),O U] 200);have T:=L (keep (keep n d) h);have KB:=L (chain (chain y d) h);obtain⟨c0,c1,c2,c3,c4,cf⟩:=cells5 (keep (keep n d) h)
     clear d h n y;go_wp2_with fail;obtain⟨d0,d1,d2,d3,d4,df⟩:=cells5 (bj t (Z #[N ⟨#[]⟩,J I 0,J I no,J I (x:Int),O U] 200));generalize t.alloc (Z #[N ⟨#[]⟩,J I 0,J I no,J I (x:Int),O U] 200)=G at*
     go_still_tail 3,(by kernel_rfl)
     go_wp2;obtain⟨P,PB⟩:=bE (w:=G) (N ⟨#[]⟩) (J I 0) (J I no) (J I (x:Int)) (O U) T.o KB.o (K _);have o:=L PB;obtain⟨r0,r1,r2,r3,r4,_⟩:=cells5 P;exact ae (v:=ac #[N ⟨#[]⟩,J I 0,H #[N ⟨#[]⟩,J I 0,J I no,J I (x:Int),O U]]) (by simp[af,ct,go_sem,r0,r1,r2,r3,r4]) rfl ⟨by rw[<-HX.o,<-HJ.o,di];rfl,o.o.drew⟩
    | ok x=>
     obtain⟨k1,k2,h⟩:=zV F;obtain⟨u,m⟩:=x;rw[F]at f B;simp only at k1 k2 h f;rw[gQ]at B;rw[dv,show p+1+(m-1)=p+m by omega]at f;obtain⟨q,hq⟩:∃q,p+m=q:=⟨_,rfl⟩;have q2:I.wrap ((p:Int)+(m:Int))=(q:Int):=by rw[ah];omega
     rw[hq]at f;have HK2:=L f;have HJ2:=L (show g+(j+m)=q by have:=HJ.o;omega);have HL:=L (show says.length<=j/\u.length<=m/\p<q/\q<=s.size/\j<=p/\m<=s.size from⟨r,h,by omega,by omega,by have:=HJ.o;omega,by omega⟩);have G:=L b;have HB:=L y;have G7:=L n;clear l C S b r F A f hq k1 k2 h y n;go_wp2_with fail;refine(B.o _).mono ?_;rintro e t ⟨rfl,d⟩;have hsz3:=d.size;have HB4:=L ((chain HB.o d).alloc (by omega) (Z #[N ⟨u.toArray⟩,J I (m:Int),J I 0,J I 0,O U] 200));have A:=L ((G.o.A5 d).A4 (Z #[N ⟨u.toArray⟩,J I (m:Int),J I 0,J I 0,O U] 200));have G73:=L (keep (keep G7.o d) ((aj t.heap.size t).alloc (K _) (Z #[N ⟨u.toArray⟩,J I (m:Int),J I 0,J I 0,O U] 200)));clear d
     go_wp2_with (at_builtin;refine aD1 rfl _ _ rfl rfl A.o u (by rfl) ?_ ?_ ?_)
     .have d:=HL.o;omega
     ·(try simp);omega
     intro V2 w5 l d;have h:∀k,dy _=V k->w.heap.size+1<=k/\k<wr.heap.size:=G.o.lt;have F:=(Keeps.A3 (λk=>dy _=V k) _).F9 d λk e=>.inl e
     have h9:=F.C4 (bj t _) (λe=>by have:=(h _ e).2;omega);have c9:=(cells5 h9).2.1;have h7:=L (F.C4 G73.o (λe=>by have:=(h _ e).1;omega));have hb5:=L (HB4.o.grown d (by simp;omega) (λk e=>by have:=(h k e).1;omega));have hsz5:=d.size;have HR5:=L l;clear l d F h h9;go_wp2_with fail
     go_roundw
     case rel=>exact⟨says++u,j+m,q,by go_num,HJ2,HL.o.2.2.2.1,by have:=HL.o;simp;omega,HR5.o,HK2,h7.o,hb5.o,by simp at hsz5;omega⟩
     case measure=>have:=HL.o;simp[co];omega
  .have q1:¬(p:Int)<(s.size:Int):=by omega
   have f:=C.o;rw[dA z,eK]at f;subst f;obtain⟨c0,c1,c2,c3,c4,cf⟩:=cells5 n;have T:=L n;have KB:=L y;clear C S b r n y;go_wp2;obtain⟨P,PB⟩:=bE (N ⟨#[]⟩) (J I 0) (J I 0) (J I 0) (O X) T.o KB.o (K _);have o:=L PB;obtain⟨r0,r1,r2,r3,r4,_⟩:=cells5 P;exact ae (v:=ac #[N ⟨#[]⟩,J I 0,H #[N ⟨#[]⟩,J I 0,J I 0,J I 0,O X]]) (by simp[af,ct,go_sem,r0,r1,r2,r3,r4]) rfl ⟨rfl,o.o⟩
section
def fin(p:Ps)(l:List UInt8):Out:=match p.D7 po l with
 | .error e=>ar e
 | .ok q=>q.C0 po
theorem aAR{p:Ps}{l:List UInt8}(h:Goes p l bp):fin p l=ar (95,p.place+l.length):=by
 obtain⟨q,b,a⟩:=h;unfold fin;rw[b];exact a
theorem aFG{p:Ps}{l:List UInt8}{no a:Nat}(h:Goes p l (az no a)):fin p l=ar (no,a):=by
 have h:p.D7 po l=ar (no,a):=h;unfold fin;rw[h]
theorem aEh{p q:Ps}{l m:List UInt8}(h:Goes p l (bg (q,m))):fin p l=fin q m:=by
 unfold fin;rw[h.1]
theorem fR{p q:Ps}{c:UInt8}{t:List UInt8}(h:p.B0 po c=bs q):fin p (c::t)=fin q t:=by
 unfold fin;rw[uN h]
theorem eP{p:Ps}{c:UInt8}{t:List UInt8}{e:Nat×Nat}(h:p.B0 po c=ar e):fin p (c::t)=ar e:=by
 unfold fin;rw[gU h]
structure Alike(p:Ps)(r:Rr)(d i:Nat):Prop where
 al:Al p r d
 place:p.lex.place=i
 st:p.lex.st=dl
 isIn:p.lex.isIn=U
 ok:eY p
section
variable {p:Ps} {r:Rr} {d i:Nat}
theorem Alike.ps(h:Alike p r d i):cG p 0:=by
 have:=h.ok.ps;have e:bU p=0:=by unfold bU;rw[if_neg (by rw[h.isIn];simp)]
 rwa[e]at this
theorem Alike.M4(h:Alike p r d i):p.place=i:=h.ok.place.trans h.place
theorem wW{y:Lx}{c:UInt8}(h:Alike p r d i)(g:p.lex.B4 c=⟨y,[],0⟩)(k:i<16777216)(hi:y.isIn=X)(b:y.start=i):
 p.B0 po c=match dm {p with lex:={y with place:=i+1}} c with
  | .error e=>ar e
  | .ok q=>bs {q with place:=q.place+1}:=by
 have f:=h.place;have a:¬i=16777216:=by omega
 have j:i+1-y.start=1:=by omega
 simp[cg,cj,a,g,cu,Lx.F0,hi,j,f,pure,cv];rfl
theorem Alike.U0{c:UInt8}(h:Alike p r d i)(b:(p.lex.B4 c).no=94/\(p.lex.B4 c).toks= [])(f:i<16777216):p.B0 po c=ar (120,i):=by
 have e:=h.place;have a:¬i=16777216:=by omega
 simp[cg,cj,a,b.1,b.2,cu,e,nG,pure,cv]
theorem Alike.E2{y:Lx}{c:UInt8}(h:Alike p r d i)(q:p.lex.B4 c=⟨y,[],0⟩)(b:i<16777216)(hi:y.isIn=X)(e:y.start=i)(l:¬(c=34/\(r.want=2\/r.want=3))):match r.D5 d with
 | .error no=>p.B0 po c=ar (no,i)
 | .ok g=>p.B0 po c=bs (bu {p with nodes:=p.nodes+1} {y with place:=i+1})/\g={r with nodes:=r.nodes+1}/\(r.want=0\/r.want=1):=by
 have f:=wW h q b hi e
 have k:dm {p with lex:={y with place:=i+1}} c=ee {p with lex:={y with place:=i+1}} i:=by
  unfold dm;rw[if_neg (by show ¬(c=34/\(p.want=2\/p.want=3));rw[h.al.want];exact l)]
  show ee _ p.place=_
  rw[h.M4]
 rw[k]at f;have n:Al {p with lex:={y with place:=i+1}} r d:=⟨h.al.depth,h.al.want,h.al.nodes,h.al.bytes,h.al.pile,h.al.items,h.al.low,h.al.top⟩;have a:=n.D0 (h.ps.P4 _) i;cases b:r.D5 d with
 | error no=>rw[b]at a;simp only at a⊢;rw[f,a]
 | ok g=>
  rw[b]at a;simp only at a⊢;obtain⟨m,o,j,_⟩:=a;rw[f,m];refine⟨?_,o,j⟩
  show bs _=bs _
  congr 1
  show(⟨_,p.place+1,_,_,_,_,_,_⟩:Ps)=_
  rw[h.M4];rfl
end
abbrev gV(P s:Nat)(raw:List UInt8)(n:Nat)(x:Lx):Lx:={x with place:=P,st:=.numeral,isIn:=X,start:=s,raw:=raw,number:=n}
theorem aGY{P s n a:Nat}{raw:List UInt8}{x:Lx}{c:UInt8}(h:aQ n c=V a):(gV P s raw n x).B4 c=⟨gV P s (raw++ [c]) a x,[],0⟩:=by
 show bV _ c=_
 unfold bV;rw[h]
theorem aCy(p:Ps)(s:Nat)(x:Lx):∀(l:List UInt8)(P n:Nat)(raw:List UInt8),s<P->P+l.length<=16777216->
 Goes (p.C8 (gV P s raw n x)) l (bg (p.C8 (gV (P+(bT n l).1) s (raw++l.take (bT n l).1) (bT n l).2 x),l.drop (bT n l).1))
 | [],P,n,raw,_,_=>by rw[mR];refine⟨?_,λh=>?_⟩<;>simpa using h
 | c::l,P,n,raw,f,d=>by
  rw[bh]at d;cases b:aQ n c with
  | none=>
   rw[eN b];refine⟨?_,λh=>?_⟩
   .simp
   .simpa using h
  | some a=>
   rw[cK b];refine ck (eB p (aGY b) (show P<16777216 by omega) rfl f) rfl ?_;have e:=aCy p s x l (P+1) a (raw++ [c]) (by omega) (by omega);simp only[List.take_succ_cons,dp];rw[show raw++c::l.take (bT a l).1=raw++ [c]++l.take (bT a l).1 by simp,show P+((bT a l).1+1)=P+1+(bT a l).1 by omega];exact e
theorem tP(n:Nat):∀(l:List UInt8){c:UInt8}{t:List UInt8},l.drop (bT n l).1=c::t->aQ (bT n l).2 c=E
 | [],c,t,h=>by simp at h
 | d::l,c,t,h=>by
  cases a:aQ n d with
  | none=>rw[eN a]at h⊢;simp at h;rw[<-h.1];exact a
  | some b=>
   rw[cK a]at h⊢;simp only[dp]at h;exact tP b l h
theorem sX(n:Nat):∀l:List UInt8,(bT n l).1<=l.length
 | []=>K _
 | d::l=>by
  cases a:aQ n d with
  | none=>rw[eN a];exact dj _
  | some b=>rw[cK a];have:=sX b l;simp only[bh];omega
abbrev fM(P s:Nat)(raw:List UInt8)(n:Nat)(x:Lx):Lx:={x with place:=P,st:=dl,isIn:=U,start:=s,raw:=raw,number:=n}
theorem aI9(p:Ps){P s n b:Nat}{raw:List UInt8}{x:Lx}(g:bI n=X)(i:bitsOf raw=V b)(j:P<16777216){c:UInt8}(h:aQ n c=E):
 (p.C8 (gV P s raw n x)).B0 po c=(cw {(p.C8 (fM P s raw n x))with items:=iO p.items b}).B0 po c:=by
 have e:¬P=16777216:=by omega
 have d:(gV P s raw n x).B4 c=⟨(aO (fM P s raw n x) c).lx,.num s (P-s) b::(aO (fM P s raw n x) c).toks,(aO (fM P s raw n x) c).no⟩:=by
  show bV _ c=_
  unfold bV;rw[h];simp only;rw[if_pos g];unfold cz;simp only[i,eh];rfl
 have a:(fM P s raw n x).B4 c=aO (fM P s raw n x) c:=rfl;unfold cg cj;simp only[bu,d,e,if_false,cw,a];generalize aO (fM P s raw n x) c=o
 by_cases f:o.no=0
 .simp only[f,if_true];rw[eO];rfl
 .simp only[f,if_false];rw[eO];rfl
theorem aKd(p:Ps){P s n b:Nat}{raw:List UInt8}{x:Lx}(d:bI n=X)(e:bitsOf raw=V b):
 (p.C8 (gV P s raw n x)).C0 po=(cw {(p.C8 (fM P s raw n x))with items:=iO p.items b}).C0 po:=by
 have c:(gV P s raw n x).C6=(fM P s raw n x,[.num s (P-s) b],0,0):=by
  unfold dq;rw[if_neg (by simp),if_neg (by rw[d];simp)];unfold cz;simp only[e,eh];rfl
 have a:(fM P s raw n x).C6=(fM P s raw n x,[],0,0):=by
  unfold dq;rw[if_pos rfl]
 unfold ei;simp only[bu,c,cw,a];rw[eO];rfl
theorem aGZ(p:Ps){P s n:Nat}{raw:List UInt8}{x:Lx}(e:bI n=X)(f:bitsOf raw=E):(p.C8 (gV P s raw n x)).C0 po=ar (41,s)/\
 ∀c,aQ n c=E->P<16777216->(p.C8 (gV P s raw n x)).B0 po c=ar (41,s):=by
 refine⟨?_,λc g h=>?_⟩
 .have d:(gV P s raw n x).C6=(gV P s raw n x,[],41,s):=by
   unfold dq;rw[if_neg (by simp),if_neg (by rw[e];simp)];unfold cz;simp only[f,ej]
  unfold ei;simp only[bu,d];simp[cu,nG,pure,cv]
 .have b:¬P=16777216:=by omega
  have a:(gV P s raw n x).B4 c=⟨gV P s raw n x,[],41⟩:=by
   show bV _ c=_
   unfold bV;rw[g];simp only;rw[if_pos e];unfold cz;simp only[f,ej]
  simp[cg,cj,bu,b,a,cu,nG,pure,cv]
abbrev jC(P s:Nat)(raw:List UInt8)(x:Lx):Lx:={x with place:=P,st:=.letter,isIn:=X,start:=s,raw:=raw,number:=0}
abbrev rS(P s:Nat)(raw:List UInt8)(x:Lx):Lx:={x with place:=P,st:=dl,isIn:=U,start:=s,raw:=raw,number:=0}
theorem zZ(p:Ps)(s:Nat)(x:Lx)(w:List UInt8):∀(f d l:List UInt8)(P:Nat),f≠ []->d≠ []->aN (d.headD 0)=w->w=d++f->s<P->P+l.length<=16777216->
 if alike f l<f.length/\alike f l<l.length then Goes (p.C8 (jC P s d x)) l (az 120 (P+alike f l))
 else if alike f l<f.length then Goes (p.C8 (jC P s d x)) l bp
 else Goes (p.C8 (jC P s d x)) l (bg ((p.C8 (rS (P+f.length) s w x)).G0 (jY w),l.drop f.length))
 | [],_,_,_,h,_,_,_,_,_=>absurd rfl h
 | b::f,d,[],P,_,_,_,_,_,_=>by
  have e:alike (b::f) []=0:=rfl;rw[e,if_neg (by simp),if_pos (by simp)];exact jT p rfl rfl
 | b::f,d,c::l,P,_,u,t,i,F,C=>by
  rw[bh]at C;have k:(aN (d.headD 0))[d.length]?=V b:=by rw[t,i,List.getElem?_append_right (K _),Nat.sub_self];rfl
  by_cases m:b=c
  .subst m;have e:alike (b::f) (b::l)=alike f l+1:=by show(if b=b then _ else _)=_;rw[if_pos rfl]
   have n:(d++ [b]).headD 0=d.headD 0:=by cases d with
    | nil=>exact absurd rfl u
    | cons a q=>rfl
   cases f with
   | nil=>
    have z:alike ([]:List UInt8) l=0:=by cases l<;>rfl
    rw[e,z,if_neg (by simp),if_neg (by simp)];have j:d.length+1=(aN (d.headD 0)).length:=by rw[t,i];simp
    have g:(jC P s d x).B4 b=⟨rS P s (d++ [b]) x,[.term s (P+1-s) w],0⟩:=by
     show cJ _ b=_
     unfold cJ;simp only;rw[if_pos k,if_pos j,t];rfl
    have v:¬P=16777216:=by omega
    have y:(p.C8 (jC P s d x)).B0 po b=bs ((p.C8 (rS (P+1) s w x)).G0 (jY w)):=by
     unfold cg cj;simp only[bu,g,v,if_false,if_true];rw[eO,<-i];rfl
    exact ck y rfl (o:=bg (_,l)) ⟨rfl,id⟩
   | cons b2 f=>
    have j:¬d.length+1=(aN (d.headD 0)).length:=by rw[t,i];simp
    have g:(jC P s d x).B4 b=⟨jC P s (d++ [b]) x,[],0⟩:=by
     show cJ _ b=_
     unfold cJ;simp only;rw[if_pos k,if_neg j]
    have q:=eB p g (show P<16777216 by omega) rfl F;have r:=zZ p s x w (b2::f) (d++ [b]) l (P+1) (by simp) (by simp) (by rw[n,t]) (by rw[i];simp) (by omega) (by omega);rw[e];simp only[bh]at r⊢;split at r
    .rename_i B;rw[if_pos (by omega),show P+(alike (b2::f) l+1)=P+1+alike (b2::f) l by omega];exact ck q rfl r
    .rename_i B;rw[if_neg (by omega)];split at r
     .rename_i A;rw[if_pos (by omega)];exact ck q rfl r
     .rename_i A;rw[if_neg (by omega),dp,show P+(f.length+1+1)=P+1+(f.length+1) by omega];exact ck q rfl r
  .have e:alike (b::f) (c::l)=0:=by show(if b=c then _ else _)=_;rw[if_neg m]
   rw[e,if_pos (by simp)]
   have g:(jC P s d x).B4 c=⟨jC P s d x,[],94⟩:=by
    show cJ _ c=_
    unfold cJ;simp only;rw[if_neg (by rw[k];exact λh=>m (ep h))]
   exact gU (eW p g (show P<16777216 by omega) (by decide) (by decide))
end
end Go.Proofs.YtakkmiomhackiaaGreatDoor
