/-
  The program, one part of its walk. Conditions: none.
-/
import Derived.Test.YtakkmiomhackiaaGreatDoorTd02
set_option linter.all false
set_option maxRecDepth 100000
set_option maxHeartbeats 16000000
open Go.Proofs.Tryz
open Array renaming length_toList->ac
open Bool renaming false->I,true->X
open Go renaming Value->aj,World->K,bodyPost_ret->bc,heap_alloc_new->bs,results->bg,undef->Y
open Go.Ending renaming returned->ar
open Go.IntKind renaming i64->W
open Go.Obj renaming cells->G
open Go.Proofs.Tryz renaming func228->bk,ntmps228->bm,results208->bh
open Go.Proofs.YtakkmiomhackiaaGreatDoor.Exit renaming J9->ba
open Go.RowKit renaming Below->ao,Hid->ag,intOf->H
open Go.Value renaming agg->au,bool->S,int->U,pointer->ae,string->J,tuple->ak
open Int.ofNat renaming inj->bu
open List renaming drop_eq_nil_of_le->ai,drop_zero->bp,length->bj,take_zero->aw
open Nat renaming le_refl->V,le_succ->Z,not_lt->az,sub_self->av
open Option renaming none->N,some->O
open Or renaming inl->ah,inr->af
namespace Go.Proofs.YtakkmiomhackiaaGreatDoor
open Go.RowKit
abbrev cC(c:UInt8):aj:=U .u8 ((c.toNat:Nat):Int)
theorem dL(c:UInt8)(w:K):Calls prog 228 #[cC c] w λe w'=>e=ar (S (isD c))/\w'=w:=by
 by_cases d:48<=c.toNat
 .have g:¬((c.toNat:Nat):Int)<48:=by omega
  have h:(48:Int)<=((c.toNat:Nat):Int):=by omega
  by_cases b:c.toNat<=57
  .have a:isD c=X:=by simp[isD,d,b]
   have f:((c.toNat:Nat):Int)<=57:=by omega
   rw[a];clear a;go_enter bk,bm;go_wp2;go_ret;exact⟨rfl,rfl⟩
  .have a:isD c=I:=by simp[isD,b]
   have f:¬((c.toNat:Nat):Int)<=57:=by omega
   rw[a];clear a;go_enter bk,bm;go_wp2;go_ret;exact⟨rfl,rfl⟩
 .have a:isD c=I:=by simp[isD,d]
  have g:¬(48:Int)<=((c.toNat:Nat):Int):=by omega
  rw[a];clear a;go_enter bk,bm;go_wp2;go_ret;exact⟨rfl,rfl⟩
def aHN(l:Lit):aj:=au #[S l.neg,J ⟨l.whole.toArray⟩,J ⟨l.behind.toArray⟩,S l.under,J ⟨l.exp.toArray⟩]
def aFj:aj:=au #[S I,J ⟨#[]⟩,J ⟨#[]⟩,S I,J ⟨#[]⟩]
def aAv(o:Option Lit)(e:Ending):Prop:=match o with
 | some l=>e=ar (ak #[aHN l,U W (-1)])
 | none=>∃i:Nat,e=ar (ak #[aFj,U W i])
def aFk(n:Nat)(x:Nat->aj):Act:={tmps:=((List.range n).map x).toArray,defers:= []}
theorem qN(a:Act)(n:Nat)(e:a.tmps.size=n)(b:a.defers= []):a=aFk n (λi=>a.tmps.getD i Y):=by
 subst e;rcases a with⟨t,d⟩;simp only at b;subst b;unfold aFk;congr 1;apply Array.ext
 .simp
 .intro i c f;simp[Array.getD,c]
theorem sH(x:Nat->aj):aFk 158 x={tmps:= #[x 0,x 1,x 2,x 3,x 4,x 5,x 6,x 7,x 8,x 9,x 10,x 11,x 12,x 13,x 14,x 15,x 16,x 17,x 18,x 19,x 20,x 21,x 22,x 23,x 24,x 25,x 26,x 27,x 28,x 29,x 30,x 31,x 32,x 33,x 34,x 35,x 36,x 37,x 38,x 39,x 40,x 41,x 42,x 43,x 44,x 45,x 46,x 47,x 48,x 49,x 50,x 51,x 52,x 53,x 54,x 55,x 56,x 57,x 58,x 59,x 60,x 61,x 62,x 63,x 64,x 65,x 66,x 67,x 68,x 69,x 70,x 71,x 72,x 73,x 74,x 75,x 76,x 77,x 78,x 79,x 80,x 81,x 82,x 83,x 84,x 85,x 86,x 87,x 88,x 89,x 90,x 91,x 92,x 93,x 94,x 95,x 96,x 97,x 98,x 99,x 100,x 101,x 102,x 103,x 104,x 105,x 106,x 107,x 108,x 109,x 110,x 111,x 112,x 113,x 114,x 115,x 116,x 117,x 118,x 119,x 120,x 121,x 122,x 123,x 124,x 125,x 126,x 127,x 128,x 129,x 130,x 131,x 132,x 133,x 134,x 135,x 136,x 137,x 138,x 139,x 140,x 141,x 142,x 143,x 144,x 145,x 146,x 147,x 148,x 149,x 150,x 151,x 152,x 153,x 154,x 155,x 156,x 157],defers:= []}:=rfl
theorem cells5{w:K}{b:Nat}{e d c a f:aj}{T:TypeId}(h:w.heap[b]?=O (G #[e,d,c,a,f] T (0,0))):w.cell? ⟨b,0,N⟩=O e/\w.cell? ⟨b,1,N⟩=O d/\w.cell? ⟨b,2,N⟩=O c/\w.cell? ⟨b,3,N⟩=O a/\w.cell? ⟨b,4,N⟩=O f/\∀o,w.frozen? ⟨b,o,N⟩=I:=
 ⟨aA h,aA h,aA h,aA h,aA h,free_at h⟩
theorem drop_at{s:ByteArray}{i:Nat}(h:i<s.size):s.data.toList.drop i=s[i]::s.data.toList.drop (i+1):=by
 rw[List.drop_eq_getElem_cons (by rw[ac];exact h)];rfl
def nA(s:ByteArray)(f k:Nat):Prop:=∀j(h:j<s.size),f<=j->j<k->isD s[j]=X
theorem nA.O6{s:ByteArray}{f k:Nat}(h:nA s f k)(g:k<s.size)(d:isD s[k]=X):nA s f (k+1):=λj e a b=>by
 by_cases c:j=k
 .subst c;exact d
 .exact h j e a (by omega)
theorem nA.E0(s:ByteArray)(f:Nat):nA s f f:=λj c a b=>by omega
theorem iL{s:ByteArray}{f k:Nat}(m:f<=k)(q:k<=s.size)(d:∀j(h:j<s.size),f<=j->j<k->isD s[j]=X)(c:∀h:k<s.size,isD s[k]=I):
 (s.data.toList.drop f).takeWhile isD=(s.data.toList.drop f).take (k-f)/\(s.data.toList.drop f).dropWhile isD=s.data.toList.drop k:=by
 obtain⟨n,rfl⟩:∃n,k=f+n:=⟨k-f,by omega⟩
 induction n generalizing f with
 | zero=>
  rw[Nat.add_zero,av,aw]
  by_cases h:f<s.size
  .rw[drop_at h,List.takeWhile_cons_of_neg (by simpa using c h),List.dropWhile_cons_of_neg (by simpa using c h)];exact⟨rfl,rfl⟩
  .have:s.data.toList.drop f= []:=ai (by rw[ac];exact az.1 h);rw[this];exact⟨rfl,rfl⟩
 | succ n o=>
  have h:f<s.size:=by omega
  have g:=d f h (V _) (by omega);have e:f+(n+1)=f+1+n:=by omega
  obtain⟨l,i⟩:=o (f:=f+1) (by omega) (by omega) (λj p a b=>d j p (by omega) (by omega)) (λr=>by simpa only[e]using c (by omega));rw[drop_at h,List.takeWhile_cons_of_pos g,List.dropWhile_cons_of_pos g,l,i,e];exact⟨by rw[show f+1+n-f=n+1 by omega,List.take_succ_cons];congr 2;omega,rfl⟩
def fW(l:Nat):Nat:=if l=0 then 0 else if l=2 then 1 else 2
def gS(s:ByteArray)(e:K)(l:Nat)(a:Act)(w:K):Prop:=∃(x:Nat->aj)(i:Nat),a=aFk 158 x/\x 0=J s/\x 2=ae (O ⟨e.heap.size,0,N⟩)/\x 3=U W 0/\
 x 4=ae (O ⟨e.heap.size+1,0,N⟩)/\x 5=U W i/\i<=s.size/\ao e.heap.size e w/\w.heap[e.heap.size]?=O (G #[S I,J ⟨#[]⟩,J ⟨#[]⟩,S I,J ⟨#[]⟩] 354 (0,0))/\
 ((l=0/\bG s.data.toList=N)\/
  (l=2/\∃neg d c,w.heap[e.heap.size+1]?=O (G #[S neg,J ⟨d.toArray⟩,J ⟨c.toArray⟩,S I,J ⟨#[]⟩] 354 (0,0))/\bG s.data.toList=cT neg d c (s.data.toList.drop i))\/
  (l=1/\∃(neg:Bool)(b:Nat),x 6=U W b/\b<=i/\w.heap[e.heap.size+1]?=O (G #[S neg,J ⟨#[]⟩,J ⟨#[]⟩,S I,J ⟨#[]⟩] 354 (0,0))/\
   bG s.data.toList=bC neg ((s.data.toList.drop b).take (i-b)) (s.data.toList.drop i)))
theorem uS(w:K):Calls prog 228 #[U .u8 48] w λe w'=>e=ar (S X)/\w'=w:=dL 48 w
theorem aD{c d:UInt8}{n:Int}(h:c≠d)(b:((d.toNat:Nat):Int)=n):¬((c.toNat:Nat):Int)=n/\(((c.toNat:Nat):Int)==n)=I/\(((c.toNat:Nat):Int)!=n)=X:=by
 subst b;have a:¬((c.toNat:Nat):Int)=((d.toNat:Nat):Int):=λe=>h (UInt8.toNat_inj.1 (bu e))
 exact⟨a,by simpa using a,by simpa using a⟩
theorem aHO(neg u:Bool)(c a:List UInt8)(b:ByteArray):aAv (O ⟨neg,c,a,u,b.data.toList⟩) (ar (ak #[au #[S neg,J ⟨c.toArray⟩,J ⟨a.toArray⟩,S u,J b],U W (-1)])):=by
 simp[aAv,aHN]
theorem j9{neg:Bool}{b a:List UInt8}{c:UInt8}{t:List UInt8}(d:c=101\/c=69)(h:(bY t).2.takeWhile isD= []\/(bY t).2.dropWhile isD≠ []):cT neg b a (c::t)=N:=by
 simp only[cT];rw[if_pos d,if_pos h]
theorem qO{neg u:Bool}{b a r d:List UInt8}{c:UInt8}{t:List UInt8}(i:c=101\/c=69)(h:bY t=(u,r))(e:r.takeWhile isD=d)(g:d≠ [])(f:r.dropWhile isD= []):cT neg b a (c::t)=O ⟨neg,b,a,u,d⟩:=by
 simp only[cT];rw[if_pos i,h,if_neg (by simp[e,g,f]),e]
theorem xS{neg:Bool}{b a:List UInt8}{c:UInt8}{t:List UInt8}(e:c≠101)(d:c≠69):cT neg b a (c::t)=N:=by
 simp only[cT];rw[if_neg (by simp[e,d])]
theorem xU{c:UInt8}{t:List UInt8}(h:c=43):bY (c::t)=(I,t):=by subst h;rfl
theorem uT{c:UInt8}{t:List UInt8}(h:c=45):bY (c::t)=(X,t):=by subst h;rfl
theorem oY{c:UInt8}{t:List UInt8}(h:c≠43)(a:c≠45):bY (c::t)=(I,c::t):=by simp[bY,h,a]
theorem nB{neg:Bool}{c:UInt8}{t:List UInt8}{k f:Nat}(h:c=48)(a:k-f=1):cN neg (c::t)=bC neg ((c::t).take (k-f)) t:=by
 subst h;rw[a];rfl
theorem iM{neg:Bool}{c:UInt8}{t d r:List UInt8}(h:isD c=X)(e:c≠48)(a:(c::t).takeWhile isD=d)(b:(c::t).dropWhile isD=r):cN neg (c::t)=bC neg d r:=by
 simp only[cN];rw[if_pos h,if_neg e,a,b]
theorem nC{neg:Bool}{c:UInt8}{t:List UInt8}(h:isD c=I):cN neg (c::t)=N:=by
 simp only[cN];rw[h];rfl
theorem aAw{c:UInt8}{t:List UInt8}(h:c≠45):bG (c::t)=cN I (c::t):=by
 simp only[bG];rw[if_neg h]
theorem uU{neg:Bool}{a:List UInt8}{c:UInt8}{t:List UInt8}(h:c≠46):bC neg a (c::t)=cT neg a [] (c::t):=by
 simp only[bC];rw[if_neg h]
theorem nD{neg:Bool}{a:List UInt8}{c:UInt8}{t:List UInt8}(h:c=46)(b:t.takeWhile isD= []):bC neg a (c::t)=N:=by
 simp only[bC];rw[if_pos h,if_pos b]
theorem nE{neg:Bool}{a d r:List UInt8}{c:UInt8}{t:List UInt8}(h:c=46)(b:t.takeWhile isD=d)(f:d≠ [])(e:t.dropWhile isD=r):bC neg a (c::t)=cT neg a d r:=by
 simp only[bC];rw[if_pos h,b,if_neg f,e]
theorem oK{s:ByteArray}{d:K}{r:Nat}(a:Act)(w:K)(i:Nat)(neg:Bool)(b:ByteArray)(c:List UInt8)(p:a.tmps.size=158)(e:a.defers= [])(g:a.tmps.getD 0 Y=J s)(f:a.tmps.getD 2 Y=ae (O ⟨d.heap.size,0,N⟩))
 (n:a.tmps.getD 3 Y=U W 0)(k:a.tmps.getD 4 Y=ae (O ⟨d.heap.size+1,0,N⟩))(l:a.tmps.getD 5 Y=U W i)(hi:i<=s.size)(h:ao d.heap.size d w)
 (m:w.heap[d.heap.size]?=O (G #[S I,J ⟨#[]⟩,J ⟨#[]⟩,S I,J ⟨#[]⟩] 354 (0,0)))
 (q:w.heap[d.heap.size+1]?=O (G #[S neg,J b,J ⟨c.toArray⟩,S I,J ⟨#[]⟩] 354 (0,0)))
 (o:bG s.data.toList=cT neg b.data.toList c (s.data.toList.drop i))(j:fW 2<r):gS s d 2 a w/\fW 2<r:=
 ⟨⟨_,i,qN a 158 p e,g,f,n,k,l,hi,h,m,af (ah ⟨rfl,neg,b.data.toList,c,by simpa using q,o⟩)⟩,j⟩
theorem iC{s:ByteArray}{c:K}(a:Act)(w:K)(i b:Nat)(neg:Bool)(p:a.tmps.size=158)(e:a.defers= [])(g:a.tmps.getD 0 Y=J s)(f:a.tmps.getD 2 Y=ae (O ⟨c.heap.size,0,N⟩))
 (m:a.tmps.getD 3 Y=U W 0)(j:a.tmps.getD 4 Y=ae (O ⟨c.heap.size+1,0,N⟩))(k:a.tmps.getD 5 Y=U W i)(o:a.tmps.getD 6 Y=U W b)(d:b<=i)(hi:i<=s.size)(h:ao c.heap.size c w)
 (l:w.heap[c.heap.size]?=O (G #[S I,J ⟨#[]⟩,J ⟨#[]⟩,S I,J ⟨#[]⟩] 354 (0,0)))
 (q:w.heap[c.heap.size+1]?=O (G #[S neg,J ⟨#[]⟩,J ⟨#[]⟩,S I,J ⟨#[]⟩] 354 (0,0)))
 (n:bG s.data.toList=bC neg ((s.data.toList.drop b).take (i-b)) (s.data.toList.drop i)):gS s c 1 a w:=
 ⟨_,i,qN a 158 p e,g,f,m,j,k,hi,h,l,af (af ⟨rfl,neg,b,o,d,q,n⟩)⟩
theorem iN{s:ByteArray}{b:K}(a:Act)(w:K)(i:Nat)(d:a.tmps.size=158)(c:a.defers= [])(h:a.tmps.getD 0 Y=J s)(e:a.tmps.getD 2 Y=ae (O ⟨b.heap.size,0,N⟩))
 (j:a.tmps.getD 3 Y=U W 0)(f:a.tmps.getD 4 Y=ae (O ⟨b.heap.size+1,0,N⟩))(k:a.tmps.getD 5 Y=U W i)(hi:i<=s.size)(l:ao b.heap.size b w)
 (g:w.heap[b.heap.size]?=O (G #[S I,J ⟨#[]⟩,J ⟨#[]⟩,S I,J ⟨#[]⟩] 354 (0,0)))(m:bG s.data.toList=N):gS s b 0 a w:=
 ⟨_,i,qN a 158 d c,h,e,j,f,k,hi,l,g,ah ⟨rfl,m⟩⟩
theorem fS(w:K)(o1 a:Obj):((w.alloc o1).alloc a).heap[w.heap.size]?=O o1/\((w.alloc o1).alloc a).heap[w.heap.size+1]?=O a/\ao w.heap.size w ((w.alloc o1).alloc a):=by
 refine⟨(Below.heap_alloc _ _ _ (by simp)).trans (bs w _),?_,((Below.refl _ _).alloc (V _) _).alloc (by simp) _⟩;have:=bs (w.alloc o1) a
 simpa using this
theorem cR{s:ByteArray}{b:K}{r:Nat}(a:Act)(w:K)(i:Nat)(e:a.tmps.size=158)(c:a.defers= [])(j:a.tmps.getD 0 Y=J s)(f:a.tmps.getD 2 Y=ae (O ⟨b.heap.size,0,N⟩))
 (k:a.tmps.getD 3 Y=U W 0)(g:a.tmps.getD 4 Y=ae (O ⟨b.heap.size+1,0,N⟩))(l:a.tmps.getD 5 Y=U W i)(hi:i<=s.size)(m:ao b.heap.size b w)
 (h:w.heap[b.heap.size]?=O (G #[S I,J ⟨#[]⟩,J ⟨#[]⟩,S I,J ⟨#[]⟩] 354 (0,0)))(n:bG s.data.toList=N)(d:fW 0<r):gS s b 0 a w/\fW 0<r:=
 ⟨⟨_,i,qN a 158 e c,j,f,k,g,l,hi,m,h,ah ⟨rfl,n⟩⟩,d⟩
theorem aBv(s:ByteArray)(w:K)(hs:s.size<=1073741824):Calls prog 208 #[J s] w λe w'=>aAv (bG s.data.toList) e/\ao w.heap.size w w':=by
 go_enter func208,ntmps208;go_wp2_with fail;refine uR (gS s w) fW ?_ ?_
 .rintro l low a w1 ⟨x,i,rfl,C,D,h3,h4,h5,hi,d,E,hl⟩;rcases hl with⟨rfl,b⟩|⟨rfl,neg,F,B,A,g⟩|⟨rfl,neg,o,h6,hfrom,A,hpoint⟩
  .refine⟨_,rfl,?_⟩;rw[sH];have m:=L b;clear b;obtain⟨c0,c1,c2,c3,c4,cf⟩:=cells5 E;go_wp2_with fail;rw[ba];exact bc (v:=ak #[aFj,U W i]) (by simp[bg,bh,go_sem,c0,c1,c2,c3,c4,aFj,D,h5]) rfl ⟨by rw[m.o];exact⟨i,rfl⟩,((((d.setCell (V _) _).setCell (V _) _).setCell (V _) _).setCell (V _) _).setCell (V _) _⟩
  .refine⟨_,rfl,?_⟩;rw[sH];obtain⟨c0,c1,c2,c3,c4,cf⟩:=cells5 E;obtain⟨d0,d1,d2,d3,d4,df⟩:=cells5 A;have HT:=L g;have j:=L E;have P:=L A;clear g E A
   by_cases hie:i=s.size
   .subst hie;have hd:s.data.toList.drop s.size= []:=ai (by rw[ac];exact V _);have b:=L hd;clear hd;go_wp2_with fail;rw[ba];exact bc (v:=ak #[aHN ⟨neg,F,B,I,[]⟩,U W (-1)]) (by simp[bg,bh,go_sem,c0,c1,c2,c3,c4,aHN,D,h5]) rfl ⟨by rw[HT.o,b.o];rfl,((((d.setCell (V _) _).setCell (V _) _).setCell (V _) _).setCell (V _) _).setCell (V _) _⟩
   .have hlt:i<s.size:=by omega
    have Q:=L (drop_at hlt)
    have hE:(s[i]≠101/\s[i]≠69)\/s[i]=101\/s[i]=69:=by
     by_cases b:s[i]=101
     .exact af (ah b)
     .by_cases D:s[i]=69
      .exact af (af D)
      .exact ah ⟨b,D⟩
    rcases hE with⟨he,b⟩|he|he
    .obtain⟨-,-,he2c⟩:=aD (c:=s[i]) (n:=101) he rfl;obtain⟨-,-,g⟩:=aD (c:=s[i]) (n:=69) b rfl
     have q:bG s.data.toList=N:=by
      rw[HT.o,Q.o];exact xS he b
     have m:=L q;clear q he b;go_wp2_with fail
     all_goals(try go_step3)
     show gS s w 0 _ _/\fW 0<fW 2
     exact cR _ _ i rfl rfl (by first|exact C|rfl) (by first|exact D|rfl) (by first|exact h3|rfl) (by first|exact h4|rfl) (by first|exact h5|rfl) hi d j.o m.o (by decide)
    all_goals
     have HE:M (s[i]=101\/s[i]=69):=L (by first|exact ah he|exact af he)
     first
     | have he2:((s[i].toNat:Nat):Int)=101:=by rw[he];rfl
     | have he2:((s[i].toNat:Nat):Int)=69:=by rw[he];rfl
     clear he
     by_cases hi1:i+1<s.size
     .have hdb:=L (drop_at hi1)
      by_cases hp:s[i+1]=43\/s[i+1]=45
      .obtain⟨u,hu,HP⟩:∃u,(s[i+1]=43/\u=I\/s[i+1]=45/\u=X)/\M (bY (s[i+1]::s.data.toList.drop (i+1+1))=(u,s.data.toList.drop (i+1+1))):=hp.elim (λa0=>⟨I,ah ⟨a0,rfl⟩,L (xU a0)⟩) (λa0=>⟨X,af ⟨a0,rfl⟩,L (uT a0)⟩);clear hp;rcases hu with⟨hp,hu⟩|⟨hp,hu⟩
       all_goals
        first
        | have b:((s[i+1].toNat:Nat):Int)=43:=by rw[hp];rfl
        | have b:((s[i+1].toNat:Nat):Int)=45:=by rw[hp];rfl
        clear hp;go_wp2_with fail
        go_loop [5] (λv=>∃k:Nat,i+1+1<=k/\k<=s.size/\v=U W k/\M (nA s (i+1+1) k)) (λv=>s.size-(H v).toNat)
        case atStart=>exact⟨i+1+1,by omega,by omega,by go_num,L (nA.E0 s _)⟩
        case round=>
         obtain⟨k,z,h,rfl,g⟩:=hrel
         by_cases y:k<s.size
         .by_cases p:isD s[k]=X
          .go_wp2_with fail;refine(dL s[k] _).mono ?_;rintro e w2 ⟨rfl,rfl⟩;rw[p];go_wp2_with fail;refine⟨⟨k+1,by omega,by omega,by go_num,L (g.o.O6 y p)⟩,by simp[H];omega⟩
          .go_wp2_with fail;refine(dL s[k] _).mono ?_;rintro e w2 ⟨rfl,rfl⟩;have t:isD s[k]=I:=by simpa using p
           rw[t];have b:=iL (s:=s) (f:=i+1+1) (k:=k) z h g.o (λ_=>t)
           have q:bG s.data.toList=N:=by
            rw[HT.o,Q.o,hdb.o];refine j9 HE.o (af ?_);rw[HP.o,b.2,drop_at y];simp
           have m:=L q;clear q b p t;go_wp2_with fail
           all_goals(try go_step3)
           all_goals(show gS s w 0 _ _/\fW 0<fW 2)
           all_goals(first|exact cR _ _ k rfl rfl (by first|exact C|rfl) (by first|exact D|rfl) (by first|exact h3|rfl) (by first|exact h4|rfl) (by first|exact h5|rfl) h ((d.setCell (Z _) _).setCell (Z _) _) ((aE _ (by simp)).trans ((aE _ (by simp)).trans j.o)) m.o (by decide)|exact cR _ _ (i+1+1) rfl rfl (by first|exact C|rfl) (by first|exact D|rfl) (by first|exact h3|rfl) (by first|exact h4|rfl) rfl (by omega) ((d.setCell (Z _) _).setCell (Z _) _) ((aE _ (by simp)).trans ((aE _ (by simp)).trans j.o)) m.o (by decide))
         .have R:k=s.size:=by omega
          subst R;have b:=L (iL (s:=s) (f:=i+1+1) (k:=s.size) z h g.o (λa0=>absurd a0 y))
          by_cases hkf:s.size=i+1+1
          .have q:bG s.data.toList=N:=by
            rw[HT.o,Q.o,hdb.o];refine j9 HE.o (ah ?_);rw[HP.o,b.o.1,hkf,av,aw]
           have m:=L q
           clear q;go_wp2_with fail
           all_goals(try go_step3)
           all_goals(show gS s w 0 _ _/\fW 0<fW 2)
           all_goals(first|exact cR _ _ k rfl rfl (by first|exact C|rfl) (by first|exact D|rfl) (by first|exact h3|rfl) (by first|exact h4|rfl) (by first|exact h5|rfl) h ((d.setCell (Nat.le_succ _) _).setCell (Nat.le_succ _) _) ((aE _ (by simp)).trans ((aE _ (by simp)).trans j.o)) m.o (by decide)|exact cR _ _ (i+1+1) rfl rfl (by first|exact C|rfl) (by first|exact D|rfl) (by first|exact h3|rfl) (by first|exact h4|rfl) rfl (by omega) ((d.setCell (Z _) _).setCell (Z _) _) ((aE _ (by simp)).trans ((aE _ (by simp)).trans j.o)) m.o (by decide))
          .have T:¬(s.size:Int)=(i:Int)+1+1:=by omega
           have hkf3:((s.size:Int)==(i:Int)+1+1)=I:=by simpa using T
           have q:bG s.data.toList=O ⟨neg,F,B,u,(s.extract (i+1+1) s.size).data.toList⟩:=by
            have hex:(s.extract (i+1+1) s.size).data.toList=(s.data.toList.drop (i+1+1)).take (s.size-(i+1+1)):=by simp
            rw[HT.o,Q.o,hdb.o,hex];refine qO HE.o HP.o ?_ ?_ ?_
            .exact b.o.1
            .intro C;have:=congrArg bj C;simp at this;omega
            .rw[b.o.2];exact ai (by rw[ac];exact V _)
           have m:=L q;clear q;go_wp2_with fail
           all_goals(try rw[ba])
           exact bc (v:=ak #[au #[S neg,J ⟨F.toArray⟩,J ⟨B.toArray⟩,S u,J (s.extract (i+1+1) s.size)],U W (-1)]) (by simp[bg,bh,go_sem,c0,c1,c2,c3,c4,D,hu]) rfl ⟨by rw[m.o];exact aHO _ _ _ _ _,((((((d.setCell (Z _) _).setCell (Z _) _).setCell (V _) _).setCell (V _) _).setCell (V _) _).setCell (V _) _).setCell (V _) _⟩
      .obtain⟨hp,hm⟩:=not_or.1 hp;obtain⟨-,hp2b,-⟩:=aD (c:=s[i+1]) (n:=43) hp rfl;obtain⟨-,hp3b,-⟩:=aD (c:=s[i+1]) (n:=45) hm rfl;have HP:=L hp;have HM:=L hm;clear hp hm;go_wp2_with fail
       go_loop [5] (λv=>∃k:Nat,i+1<=k/\k<=s.size/\v=U W k/\M (nA s (i+1) k)) (λv=>s.size-(H v).toNat)
       case atStart=>exact⟨i+1,by omega,by omega,by go_num,L (nA.E0 s _)⟩
       case round=>
        obtain⟨k,z,h,rfl,g⟩:=hrel
        by_cases y:k<s.size
        .by_cases p:isD s[k]=X
         .go_wp2_with fail;refine(dL s[k] _).mono ?_;rintro e w2 ⟨rfl,rfl⟩;rw[p];go_wp2_with fail;refine⟨⟨k+1,by omega,by omega,by go_num,L (g.o.O6 y p)⟩,by simp[H];omega⟩
         .go_wp2_with fail;refine(dL s[k] _).mono ?_;rintro e w2 ⟨rfl,rfl⟩;have t:isD s[k]=I:=by simpa using p
          rw[t];have b:=iL (s:=s) (f:=i+1) (k:=k) z h g.o (λ_=>t)
          have q:bG s.data.toList=N:=by
           rw[HT.o,Q.o];refine j9 HE.o (af ?_);rw[(show bY (s.data.toList.drop (i+1))=(I,s.data.toList.drop (i+1))from by rw[hdb.o];exact oY HP.o HM.o),b.2,drop_at y];simp
          have m:=L q;clear q b p t;go_wp2_with fail
          all_goals(try go_step3)
          all_goals(show gS s w 0 _ _/\fW 0<fW 2)
          all_goals(first|exact cR _ _ k rfl rfl (by first|exact C|rfl) (by first|exact D|rfl) (by first|exact h3|rfl) (by first|exact h4|rfl) (by first|exact h5|rfl) h (d.setCell (Z _) _) ((aE _ (by simp)).trans j.o) m.o (by decide)|exact cR _ _ (i+1) rfl rfl (by first|exact C|rfl) (by first|exact D|rfl) (by first|exact h3|rfl) (by first|exact h4|rfl) rfl (by omega) (d.setCell (Z _) _) ((aE _ (by simp)).trans j.o) m.o (by decide))
        .have R:k=s.size:=by omega
         subst R;have b:=L (iL (s:=s) (f:=i+1) (k:=s.size) z h g.o (λa0=>absurd a0 y))
         by_cases hkf:s.size=i+1
         .exfalso;omega
         .have T:¬(s.size:Int)=(i:Int)+1:=by omega
          have hkf3:((s.size:Int)==(i:Int)+1)=I:=by simpa using T
          have q:bG s.data.toList=O ⟨neg,F,B,I,(s.extract (i+1) s.size).data.toList⟩:=by
           have hex:(s.extract (i+1) s.size).data.toList=(s.data.toList.drop (i+1)).take (s.size-(i+1)):=by simp
           rw[HT.o,Q.o,hex];refine qO HE.o (show bY (s.data.toList.drop (i+1))=(I,s.data.toList.drop (i+1))from by rw[hdb.o];exact oY HP.o HM.o) ?_ ?_ ?_
           .exact b.o.1
           .intro C;have:=congrArg bj C;simp at this;omega
           .rw[b.o.2];exact ai (by rw[ac];exact V _)
          have m:=L q;clear q;go_wp2_with fail
          all_goals(try rw[ba])
          exact bc (v:=ak #[au #[S neg,J ⟨F.toArray⟩,J ⟨B.toArray⟩,S I,J (s.extract (i+1) s.size)],U W (-1)]) (by simp[bg,bh,go_sem,c0,c1,c2,c3,c4,D]) rfl ⟨by rw[m.o];exact aHO _ _ _ _ _,(((((d.setCell (Z _) _).setCell (V _) _).setCell (V _) _).setCell (V _) _).setCell (V _) _).setCell (V _) _⟩
     .have hdb:s.data.toList.drop (i+1)= []:=ai (by rw[ac];exact az.1 hi1);have HDB:=L hdb;clear hdb;go_wp2_with fail
      go_loop [5] (λv=>∃k:Nat,i+1<=k/\k<=s.size/\v=U W k/\M (nA s (i+1) k)) (λv=>s.size-(H v).toNat)
      case atStart=>exact⟨i+1,by omega,by omega,by go_num,L (nA.E0 s _)⟩
      case round=>
       obtain⟨k,z,h,rfl,g⟩:=hrel
       by_cases y:k<s.size
       .exfalso;omega
       .have R:k=s.size:=by omega
        subst R;have b:=L (iL (s:=s) (f:=i+1) (k:=s.size) z h g.o (λa0=>absurd a0 y))
        by_cases hkf:s.size=i+1
        .have q:bG s.data.toList=N:=by
          rw[HT.o,Q.o];refine j9 HE.o (ah ?_);rw[(show bY (s.data.toList.drop (i+1))=(I,s.data.toList.drop (i+1))from by rw[HDB.o];rfl),b.o.1,hkf,av,aw]
         have m:=L q
         clear q;go_wp2_with fail
         all_goals(try go_step3)
         all_goals(show gS s w 0 _ _/\fW 0<fW 2)
         all_goals(first|exact cR _ _ k rfl rfl (by first|exact C|rfl) (by first|exact D|rfl) (by first|exact h3|rfl) (by first|exact h4|rfl) (by first|exact h5|rfl) h (d.setCell (Nat.le_succ _) _) ((aE _ (by simp)).trans j.o) m.o (by decide)|exact cR _ _ (i+1) rfl rfl (by first|exact C|rfl) (by first|exact D|rfl) (by first|exact h3|rfl) (by first|exact h4|rfl) rfl (by omega) (d.setCell (Z _) _) ((aE _ (by simp)).trans j.o) m.o (by decide))
        .exfalso;omega
  .have LOW:=L low;clear low;obtain⟨c0,c1,c2,c3,c4,-⟩:=cells5 E;obtain⟨d0,d1,d2,d3,d4,df⟩:=cells5 A;have HP:=L hpoint;have j:=L E;have P:=L A;clear hpoint E A;have hex:(s.extract o i).data.toList=(s.data.toList.drop o).take (i-o):=by simp
   have A:(⟨((s.data.toList.drop o).take (i-o)).toArray⟩:ByteArray)=s.extract o i:=by rw[<-hex]
   have HEX:=L hex;have HW:=L A;clear hex A;refine⟨_,rfl,?_⟩;rw[sH]
   by_cases hie:i=s.size
   .subst hie
    have q:bG s.data.toList=cT neg (s.extract o s.size).data.toList [] (s.data.toList.drop s.size):=by
     have hd:s.data.toList.drop s.size= []:=ai (by rw[ac];exact V _);rw[HP.o,hd,HEX.o];rfl
    have m:=L q;clear q;go_wp2_with fail
    all_goals(try go_step3)
    show gS s w 2 _ _/\fW 2<fW 1
    exact oK _ _ s.size neg _ [] rfl rfl (by first|exact C|rfl) (by first|exact D|rfl) (by first|exact h3|rfl) (by first|exact h4|rfl) (by first|exact h5|rfl) hi (d.setCell (Z _) _) ((aE _ (by simp)).trans j.o) (aB P.o _) m.o (by decide)
   .have hlt:i<s.size:=by omega
    have hne:¬(i:Int)=(s.size:Int):=by omega
    have hneb:((i:Int)==(s.size:Int))=I:=by simpa using hne
    have Q:=L (drop_at hlt)
    by_cases he:s[i]=46
    .have he2:((s[i].toNat:Nat):Int)=46:=by rw[he];rfl
     have HE:=L he;clear he;go_wp2_with fail
     go_loop [5] (λv=>∃k:Nat,i+1<=k/\k<=s.size/\v=U W k/\M (nA s (i+1) k)) (λv=>s.size-(H v).toNat)
     case atStart=>exact⟨i+1,by omega,by omega,by go_num,L (nA.E0 s _)⟩
     case round=>
      obtain⟨k,z,h,rfl,g⟩:=hrel
      by_cases y:k<s.size
      .by_cases p:isD s[k]=X
       .go_wp2_with fail;refine(dL s[k] _).mono ?_;rintro e w2 ⟨rfl,rfl⟩;rw[p];go_wp2_with fail;refine⟨⟨k+1,by omega,by omega,by go_num,L (g.o.O6 y p)⟩,by simp[H];omega⟩
       .have t:isD s[k]=I:=by simpa using p
        have b:=iL (s:=s) (f:=i+1) (k:=k) z h g.o (λ_=>t);go_wp2_with fail;refine(dL s[k] _).mono ?_;rintro e w2 ⟨rfl,rfl⟩;rw[t]
        have A:(k=i+1->bG s.data.toList=N)/\(k≠i+1->bG s.data.toList=cT neg (s.extract o i).data.toList (s.extract (i+1) k).data.toList (s.data.toList.drop k)):=by
         have hex2:(s.extract (i+1) k).data.toList=(s.data.toList.drop (i+1)).take (k-(i+1)):=by simp
         rw[HP.o,Q.o,HEX.o];refine⟨λa0=>?_,λa0=>?_⟩
         .refine nD HE.o ?_;rw[b.1,a0,av,aw]
         .refine nE HE.o (by rw[b.1,hex2]) ?_ b.2;intro C;have:=congrArg bj C;simp at this;omega
        have E:=L A;clear A b p t
        by_cases hkf:k=i+1
        .have m:=L (E.o.1 hkf)
         go_wp2_with fail
         all_goals(try go_step3)
         all_goals(show gS s w 0 _ _/\fW 0<fW 1)
         first|exact cR _ _ k rfl rfl (by first|exact C|rfl) (by first|exact D|rfl) (by first|exact h3|rfl) (by first|exact h4|rfl) rfl h (d.setCell (Z _) _) ((aE _ (by simp)).trans j.o) m.o (by decide)|exact cR _ _ (i+1) rfl rfl (by first|exact C|rfl) (by first|exact D|rfl) (by first|exact h3|rfl) (by first|exact h4|rfl) rfl (by omega) (d.setCell (Z _) _) ((aE _ (by simp)).trans j.o) m.o (by decide)
        .have m:=L (E.o.2 hkf);have T:¬(k:Int)=(i:Int)+1:=by omega
         have hkf3:((k:Int)==(i:Int)+1)=I:=by simpa using T
         go_wp2_with fail
         all_goals(try go_step3)
         simp only[Exit.then]
         apply_assumption
         refine LOW.o 2 _ _ _ (by decide) rfl ?_;exact(oK (r:=5) _ _ k neg (s.extract o i) (s.extract (i+1) k).data.toList rfl rfl (by first|exact C|rfl) (by first|exact D|rfl) (by first|exact h3|rfl) (by first|exact h4|rfl) rfl h ((d.setCell (Z _) _).setCell (Z _) _) ((aE _ (by simp)).trans ((aE _ (by simp)).trans j.o)) (aB (aB P.o _) _) m.o (by decide)).1
      .have R:k=s.size:=by omega
       subst R;have b:=iL (s:=s) (f:=i+1) (k:=s.size) z h g.o (λa0=>absurd a0 y)
       have A:(s.size=i+1->bG s.data.toList=N)/\(s.size≠i+1->bG s.data.toList=cT neg (s.extract o i).data.toList (s.extract (i+1) s.size).data.toList (s.data.toList.drop s.size)):=by
        have hex2:(s.extract (i+1) s.size).data.toList=(s.data.toList.drop (i+1)).take (s.size-(i+1)):=by simp
        rw[HP.o,Q.o,HEX.o];refine⟨λa0=>?_,λa0=>?_⟩
        .refine nD HE.o ?_;rw[b.1,a0,av,aw]
        .refine nE HE.o (by rw[b.1,hex2]) ?_ b.2;intro C;have:=congrArg bj C;simp at this;omega
       have E:=L A;clear A b
       by_cases hkf:s.size=i+1
       .have m:=L (E.o.1 hkf)
        go_wp2_with fail
        all_goals(try go_step3)
        all_goals(show gS s w 0 _ _/\fW 0<fW 1)
        first|exact cR _ _ s.size rfl rfl (by first|exact C|rfl) (by first|exact D|rfl) (by first|exact h3|rfl) (by first|exact h4|rfl) rfl h (d.setCell (Z _) _) ((aE _ (by simp)).trans j.o) m.o (by decide)|exact cR _ _ (i+1) rfl rfl (by first|exact C|rfl) (by first|exact D|rfl) (by first|exact h3|rfl) (by first|exact h4|rfl) rfl (by omega) (d.setCell (Z _) _) ((aE _ (by simp)).trans j.o) m.o (by decide)
       .have m:=L (E.o.2 hkf);have T:¬(s.size:Int)=(i:Int)+1:=by omega
        have hkf3:((s.size:Int)==(i:Int)+1)=I:=by simpa using T
        go_wp2_with fail
        all_goals(try go_step3)
        simp only[Exit.then]
        apply_assumption
        refine LOW.o 2 _ _ _ (by decide) rfl ?_;exact(oK (r:=5) _ _ s.size neg (s.extract o i) (s.extract (i+1) s.size).data.toList rfl rfl (by first|exact C|rfl) (by first|exact D|rfl) (by first|exact h3|rfl) (by first|exact h4|rfl) rfl h ((d.setCell (Z _) _).setCell (Z _) _) ((aE _ (by simp)).trans ((aE _ (by simp)).trans j.o)) (aB (aB P.o _) _) m.o (by decide)).1
    .obtain⟨-,-,he2c⟩:=aD (c:=s[i]) (n:=46) he rfl
     have q:bG s.data.toList=cT neg (s.extract o i).data.toList [] (s.data.toList.drop i):=by
      rw[HP.o,Q.o,HEX.o];exact uU he
     have m:=L q;clear q he;go_wp2_with fail
     all_goals(try go_step3)
     show gS s w 2 _ _/\fW 2<fW 1
     exact oK _ _ i neg _ [] rfl rfl (by first|exact C|rfl) (by first|exact D|rfl) (by first|exact h3|rfl) (by first|exact h4|rfl) (by first|exact h5|rfl) hi (d.setCell (Z _) _) ((aE _ (by simp)).trans j.o) (aB P.o _) m.o (by decide)
 .intro d;have B:=L d;clear d
  by_cases C:0<s.size
  .have Q:=L (drop_at C)
   by_cases hm:s[0]=45
   .have hm2:((s[0].toNat:Nat):Int)=45:=by rw[hm];rfl
    have D:M (bG s.data.toList=cN X (s.data.toList.drop 1)):=L (by
     have:=Q.o;rw[bp]at this;rw[this,hm];rfl)
    clear hm
    by_cases E:1<s.size
    .have o:=L (drop_at E);have P:¬(1:Int)=(s.size:Int):=by omega
     have F:((1:Int)==(s.size:Int))=I:=by simpa using P
     by_cases d:isD s[1]=X
     .by_cases A:s[1]=48
      .have T:((s[1].toNat:Nat):Int)=48:=by rw[A];rfl
       have q:bG s.data.toList=bC X ((s.data.toList.drop 1).take (2-1)) (s.data.toList.drop 2):=by
        rw[D.o,o.o];exact nB A (by omega)
       have m:=L q;clear q A d;go_wp2_with fail;refine(uS _).mono ?_;rintro e w2 ⟨rfl,rfl⟩;go_wp2_with fail
       all_goals(try go_step3)
       show gS s w 1 _ _
       exact iC _ _ 2 1 X rfl rfl rfl rfl rfl rfl rfl rfl (by omega) (by omega) ((fS _ _ _).2.2) (fS _ _ _).1 (fS _ _ _).2.1 m.o
      .obtain⟨-,hz3,hz4⟩:=aD (c:=s[1]) (n:=48) A rfl;have A:=L A;go_wp2_with fail;refine(dL s[1] _).mono ?_;rintro e w2 ⟨rfl,rfl⟩;rw[d];have d:=L d;go_wp2_with fail
       go_loop [5] (λv=>∃k:Nat,1<=k/\k<=s.size/\v=U W k/\M (nA s 1 k)) (λv=>s.size-(H v).toNat)
       case atStart=>exact⟨1,by omega,by omega,by go_num,L (nA.E0 s _)⟩
       case round=>
        obtain⟨k,z,h,rfl,g⟩:=hrel
        by_cases y:k<s.size
        .by_cases p:isD s[k]=X
         .go_wp2_with fail;refine(dL s[k] _).mono ?_;rintro e w2 ⟨rfl,rfl⟩;rw[p];go_wp2_with fail;refine⟨⟨k+1,by omega,by omega,by go_num,L (g.o.O6 y p)⟩,by simp[H];omega⟩
         .have t:isD s[k]=I:=by simpa using p
          have b:=iL (s:=s) (f:=1) (k:=k) z h g.o (λ_=>t);go_wp2_with fail;refine(dL s[k] _).mono ?_;rintro e w2 ⟨rfl,rfl⟩;rw[t]
          have m:=L (show bG s.data.toList=bC X ((s.data.toList.drop 1).take (k-1)) (s.data.toList.drop k) by
           rw[D.o,<-b.1,<-b.2,o.o];exact iM d.o A.o rfl rfl)
          clear b p t;go_wp2_with fail
          all_goals(try go_step3)
          simp only[Exit.then]
          apply_assumption
          refine B.o 1 _ _ _ rfl ?_;exact iC _ _ k 1 X rfl rfl rfl rfl rfl rfl rfl rfl (by omega) h ((fS _ _ _).2.2) (fS _ _ _).1 (fS _ _ _).2.1 m.o
        .have R:k=s.size:=by omega
         subst R;have b:=iL (s:=s) (f:=1) (k:=s.size) z h g.o (λa0=>absurd a0 y)
         have m:=L (show bG s.data.toList=bC X ((s.data.toList.drop 1).take (s.size-1)) (s.data.toList.drop s.size) by
          rw[D.o,<-b.1,<-b.2,o.o];exact iM d.o A.o rfl rfl)
         clear b;go_wp2_with fail
         all_goals(try go_step3)
         simp only[Exit.then]
         apply_assumption
         refine B.o 1 _ _ _ rfl ?_;exact iC _ _ s.size 1 X rfl rfl rfl rfl rfl rfl rfl rfl (by omega) h ((fS _ _ _).2.2) (fS _ _ _).1 (fS _ _ _).2.1 m.o
     .have j:isD s[1]=I:=by simpa using d
      have q:bG s.data.toList=N:=by
       rw[D.o,o.o];exact nC j
      have m:=L q;clear q;go_wp2_with fail;refine(dL s[1] _).mono ?_;rintro e w2 ⟨rfl,rfl⟩;rw[j];clear d j;go_wp2_with fail
      all_goals(try go_step3)
      show gS s w 0 _ _
      exact iN _ _ 1 rfl rfl rfl rfl rfl rfl rfl (by omega) ((fS _ _ _).2.2) (fS _ _ _).1 m.o
    .have F:(1:Int)=(s.size:Int):=by omega
     have q:bG s.data.toList=N:=by
      rw[D.o,ai (by rw[ac];exact az.1 E)];rfl
     have m:=L q;clear q;go_wp2_with fail
     all_goals(try go_step3)
     show gS s w 0 _ _
     exact iN _ _ s.size rfl rfl rfl rfl rfl rfl rfl (by omega) ((fS _ _ _).2.2) (fS _ _ _).1 m.o
   .obtain⟨-,hm3,hm4⟩:=aD (c:=s[0]) (n:=45) hm rfl
    have D:M (bG s.data.toList=cN I (s.data.toList.drop 0)):=L (by
     have:=Q.o;rw[bp]at this;rw[bp,this];exact aAw hm)
    clear hm
    by_cases E:0<s.size
    .have o:=L (drop_at E);have P:¬(0:Int)=(s.size:Int):=by omega
     have F:((0:Int)==(s.size:Int))=I:=by simpa using P
     by_cases d:isD s[0]=X
     .by_cases A:s[0]=48
      .have T:((s[0].toNat:Nat):Int)=48:=by rw[A];rfl
       have q:bG s.data.toList=bC I ((s.data.toList.drop 0).take (1-0)) (s.data.toList.drop 1):=by
        rw[D.o,o.o];exact nB A (by omega)
       have m:=L q;clear q A d;go_wp2_with fail;refine(uS _).mono ?_;rintro e w2 ⟨rfl,rfl⟩;go_wp2_with fail
       all_goals(try go_step3)
       show gS s w 1 _ _
       exact iC _ _ 1 0 I rfl rfl rfl rfl rfl rfl rfl rfl (by omega) (by omega) (((fS _ _ _).2.2)) (fS _ _ _).1 (fS _ _ _).2.1 m.o
      .obtain⟨-,hz3,hz4⟩:=aD (c:=s[0]) (n:=48) A rfl;have A:=L A;go_wp2_with fail;refine(dL s[0] _).mono ?_;rintro e w2 ⟨rfl,rfl⟩;rw[d];have d:=L d;go_wp2_with fail
       go_loop [5] (λv=>∃k:Nat,0<=k/\k<=s.size/\v=U W k/\M (nA s 0 k)) (λv=>s.size-(H v).toNat)
       case atStart=>exact⟨0,by omega,by omega,by go_num,L (nA.E0 s _)⟩
       case round=>
        obtain⟨k,z,h,rfl,g⟩:=hrel
        by_cases y:k<s.size
        .by_cases p:isD s[k]=X
         .go_wp2_with fail;refine(dL s[k] _).mono ?_;rintro e w2 ⟨rfl,rfl⟩;rw[p];go_wp2_with fail;refine⟨⟨k+1,by omega,by omega,by go_num,L (g.o.O6 y p)⟩,by simp[H];omega⟩
         .have t:isD s[k]=I:=by simpa using p
          have b:=iL (s:=s) (f:=0) (k:=k) z h g.o (λ_=>t);go_wp2_with fail;refine(dL s[k] _).mono ?_;rintro e w2 ⟨rfl,rfl⟩;rw[t]
          have m:=L (show bG s.data.toList=bC I ((s.data.toList.drop 0).take (k-0)) (s.data.toList.drop k) by
           rw[D.o,<-b.1,<-b.2,o.o];exact iM d.o A.o rfl rfl)
          clear b p t;go_wp2_with fail
          all_goals(try go_step3)
          simp only[Exit.then]
          apply_assumption
          refine B.o 1 _ _ _ rfl ?_;exact iC _ _ k 0 I rfl rfl rfl rfl rfl rfl rfl rfl (by omega) h (((fS _ _ _).2.2)) (fS _ _ _).1 (fS _ _ _).2.1 m.o
        .have R:k=s.size:=by omega
         subst R;have b:=iL (s:=s) (f:=0) (k:=s.size) z h g.o (λa0=>absurd a0 y)
         have m:=L (show bG s.data.toList=bC I ((s.data.toList.drop 0).take (s.size-0)) (s.data.toList.drop s.size) by
          rw[D.o,<-b.1,<-b.2,o.o];exact iM d.o A.o rfl rfl)
         clear b;go_wp2_with fail
         all_goals(try go_step3)
         simp only[Exit.then]
         apply_assumption
         refine B.o 1 _ _ _ rfl ?_;exact iC _ _ s.size 0 I rfl rfl rfl rfl rfl rfl rfl rfl (by omega) h (((fS _ _ _).2.2)) (fS _ _ _).1 (fS _ _ _).2.1 m.o
     .have j:isD s[0]=I:=by simpa using d
      have q:bG s.data.toList=N:=by
       rw[D.o,o.o];exact nC j
      have m:=L q;clear q;go_wp2_with fail;refine(dL s[0] _).mono ?_;rintro e w2 ⟨rfl,rfl⟩;rw[j];clear d j;go_wp2_with fail
      all_goals(try go_step3)
      show gS s w 0 _ _
      exact iN _ _ 0 rfl rfl rfl rfl rfl rfl rfl (by omega) (((fS _ _ _).2.2)) (fS _ _ _).1 m.o
    .have F:(0:Int)=(s.size:Int):=by omega
     have q:bG s.data.toList=N:=by
      rw[D.o,ai (by rw[ac];exact az.1 E)];rfl
     have m:=L q;clear q;go_wp2_with fail
     all_goals(try go_step3)
     show gS s w 0 _ _
     exact iN _ _ 0 rfl rfl rfl rfl rfl rfl rfl (by omega) (((fS _ _ _).2.2)) (fS _ _ _).1 m.o
  .have b:s.data.toList= []:=by
    have:s.data.toList.length=0:=by rw[ac];exact Nat.eq_zero_of_not_pos C
    exact List.eq_nil_of_length_eq_zero this
   have q:bG s.data.toList=N:=by rw[b];rfl
   have m:=L q
   have d:¬(0:Int)<(s.size:Int):=by omega
   have g:(s.size:Int)=0:=by omega
   clear q b;go_wp2_with fail
   all_goals(try go_step3)
   show gS s w 0 _ _
   exact iN _ _ 0 rfl rfl rfl rfl rfl rfl rfl (by omega) ((fS _ _ _).2.2) (fS _ _ _).1 m.o
end Go.Proofs.YtakkmiomhackiaaGreatDoor
