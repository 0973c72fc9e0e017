/-
  The program, one part of its walk. Conditions: none.
-/
import Derived.Test.YtakkmiomhackiaaGreatDoorTd19
import Derived.Test.YtakkmiomhackiaaGreatDoorTd31
import Derived.Test.YtakkmiomhackiaaGreatDoorTd36
set_option linter.all false
set_option maxRecDepth 100000
set_option maxHeartbeats 16000000
open Go.Proofs.Tryz
open Bool renaming false->N,true->O
open Go renaming Calls->K,Value->ai,World->X,bodyPost_ret->aw,results->az
open Go.Ending renaming returned->G
open Go.IntKind renaming i64->J,u8->ac,wrap_i64->ao,wrap_u8->bj
open Go.Obj renaming cells->af
open Go.Proofs.Tryz renaming func179->ar,func197->ag,func74->bc,ntmps179->au,ntmps197->ah,ntmps74->bg,prog->H,results177->ba
open Go.Proofs.YtakkmiomhackiaaGreatDoor.Keeps renaming A1->bk
open Go.RowKit renaming Below->av
open Go.Value renaming agg->E,bool->S,int->I,pointer->bh,string->U,tuple->aj
open Nat renaming le_refl->ak,le_trans->bm
open Option renaming none->Z,some->V
open Or renaming inl->ae,inr->Y
namespace Go.Proofs.YtakkmiomhackiaaGreatDoor
open Go.RowKit
def aH(c d:UInt8):Bool:=if d.toNat<128\/191<d.toNat then N else if c.toNat=224 then decide (160<=d.toNat)else if c.toNat=237 then decide (d.toNat<=159)else if c.toNat=240 then decide (144<=d.toNat)else if c.toNat=244 then decide (d.toNat<=143)else O
theorem aDI(w:X)(c:UInt8):K H 74 #[I ac ((c.toNat:Nat):Int)] w λe w'=>e=G (S (aX c))/\w'=w:=by
 by_cases d:c=32
 .subst d;rw[show aX 32=O by decide];go_enter bc,bg;go_wp2_with fail;go_ret;exact⟨rfl,rfl⟩
 .have i:=aD (n:=32) d rfl
  by_cases f:c=9
  .subst f;rw[show aX 9=O by decide];go_enter bc,bg;go_wp2_with fail;go_ret;exact⟨rfl,rfl⟩
  .have k:=aD (n:=9) f rfl
   by_cases b:c=10
   .subst b;rw[show aX 10=O by decide];go_enter bc,bg;go_wp2_with fail;go_ret;exact⟨rfl,rfl⟩
   .have g:=aD (n:=10) b rfl
    by_cases a:c=13
    .subst a;rw[show aX 13=O by decide];go_enter bc,bg;go_wp2_with fail;go_ret;exact⟨rfl,rfl⟩
    .have h:=aD (n:=13) a rfl;rw[show aX c=N by unfold aX;simp[d,f,b,a]];obtain⟨-,l,-⟩:=i;obtain⟨-,o,-⟩:=k;obtain⟨-,j,-⟩:=g;obtain⟨-,m,-⟩:=h;go_enter bc,bg;go_wp2_with fail;go_ret;exact⟨rfl,rfl⟩
theorem aIg(w:X)(c:UInt8):K H 197 #[I ac ((c.toNat:Nat):Int)] w λe w'=>e=G (I J (match hexOf c with|some v=>(v:Int)|none=> -1))/\w'=w:=by
 have s:=c.toNat_lt
 by_cases r:c.toNat<48
 .have a:hexOf c=Z:=by unfold hexOf;rw[if_neg (by omega),if_neg (by omega),if_neg (by omega)]
  rw[a];have d:¬(48:Int)<=((c.toNat:Nat):Int):=by omega
  have b:¬(97:Int)<=((c.toNat:Nat):Int):=by omega
  have f:¬(65:Int)<=((c.toNat:Nat):Int):=by omega
  go_enter ag,ah;go_wp2_with fail;go_ret;exact⟨rfl,rfl⟩
 .skip
  by_cases m:c.toNat<58
  .have a:hexOf c=V (c.toNat-48):=by unfold hexOf;rw[if_pos (by omega)]
   rw[a];have d:(48:Int)<=((c.toNat:Nat):Int):=by omega
   have g:(((c.toNat:Nat):Int):Int)<=57:=by omega
   have b:¬(97:Int)<=((c.toNat:Nat):Int):=by omega
   have f:¬(65:Int)<=((c.toNat:Nat):Int):=by omega
   have j:ac.wrap (((c.toNat:Nat):Int)-48)=((c.toNat-48:Nat):Int):=by rw[bj];omega
   have i:J.wrap ((c.toNat-48:Nat):Int)=((c.toNat-48:Nat):Int):=by rw[ao];omega
   go_enter ag,ah;go_wp2_with fail;go_ret;exact⟨rfl,rfl⟩
  .skip
   by_cases p:c.toNat<65
   .have a:hexOf c=Z:=by unfold hexOf;rw[if_neg (by omega),if_neg (by omega),if_neg (by omega)]
    rw[a];have d:(48:Int)<=((c.toNat:Nat):Int):=by omega
    have g:¬(((c.toNat:Nat):Int):Int)<=57:=by omega
    have b:¬(97:Int)<=((c.toNat:Nat):Int):=by omega
    have f:¬(65:Int)<=((c.toNat:Nat):Int):=by omega
    go_enter ag,ah;go_wp2_with fail;go_ret;exact⟨rfl,rfl⟩
   .skip
    by_cases n:c.toNat<71
    .have a:hexOf c=V (c.toNat-55):=by unfold hexOf;rw[if_neg (by omega),if_neg (by omega),if_pos (by omega)]
     rw[a];have d:(48:Int)<=((c.toNat:Nat):Int):=by omega
     have g:¬(((c.toNat:Nat):Int):Int)<=57:=by omega
     have b:¬(97:Int)<=((c.toNat:Nat):Int):=by omega
     have f:(65:Int)<=((c.toNat:Nat):Int):=by omega
     have h:(((c.toNat:Nat):Int):Int)<=70:=by omega
     have j:ac.wrap (((c.toNat:Nat):Int)-65)=((c.toNat-65:Nat):Int):=by rw[bj];omega
     have o:J.wrap (((c.toNat-65:Nat):Int)+10)=((c.toNat-55:Nat):Int):=by rw[ao];omega
     have i:J.wrap ((c.toNat-65:Nat):Int)=((c.toNat-65:Nat):Int):=by rw[ao];omega
     go_enter ag,ah;go_wp2_with fail;go_ret;exact⟨rfl,rfl⟩
    .skip
     by_cases q:c.toNat<97
     .have a:hexOf c=Z:=by unfold hexOf;rw[if_neg (by omega),if_neg (by omega),if_neg (by omega)]
      rw[a];have d:(48:Int)<=((c.toNat:Nat):Int):=by omega
      have g:¬(((c.toNat:Nat):Int):Int)<=57:=by omega
      have b:¬(97:Int)<=((c.toNat:Nat):Int):=by omega
      have f:(65:Int)<=((c.toNat:Nat):Int):=by omega
      have h:¬(((c.toNat:Nat):Int):Int)<=70:=by omega
      go_enter ag,ah;go_wp2_with fail;go_ret;exact⟨rfl,rfl⟩
     .skip
      by_cases k:c.toNat<103
      .have a:hexOf c=V (c.toNat-87):=by unfold hexOf;rw[if_neg (by omega),if_pos (by omega)]
       rw[a];have d:(48:Int)<=((c.toNat:Nat):Int):=by omega
       have g:¬(((c.toNat:Nat):Int):Int)<=57:=by omega
       have b:(97:Int)<=((c.toNat:Nat):Int):=by omega
       have l:(((c.toNat:Nat):Int):Int)<=102:=by omega
       have h:¬(((c.toNat:Nat):Int):Int)<=70:=by omega
       have j:ac.wrap (((c.toNat:Nat):Int)-97)=((c.toNat-97:Nat):Int):=by rw[bj];omega
       have o:J.wrap (((c.toNat-97:Nat):Int)+10)=((c.toNat-87:Nat):Int):=by rw[ao];omega
       have i:J.wrap ((c.toNat-97:Nat):Int)=((c.toNat-97:Nat):Int):=by rw[ao];omega
       go_enter ag,ah;go_wp2_with fail;go_ret;exact⟨rfl,rfl⟩
      .skip;have a:hexOf c=Z:=by unfold hexOf;rw[if_neg (by omega),if_neg (by omega),if_neg (by omega)]
       rw[a];have d:(48:Int)<=((c.toNat:Nat):Int):=by omega
       have g:¬(((c.toNat:Nat):Int):Int)<=57:=by omega
       have b:(97:Int)<=((c.toNat:Nat):Int):=by omega
       have l:¬(((c.toNat:Nat):Int):Int)<=102:=by omega
       have f:(65:Int)<=((c.toNat:Nat):Int):=by omega
       have h:¬(((c.toNat:Nat):Int):Int)<=70:=by omega
       go_enter ag,ah;go_wp2_with fail;go_ret;exact⟨rfl,rfl⟩
theorem aGk(w:X)(c:UInt8):K H 179 #[I ac ((c.toNat:Nat):Int)] w λe w'=>e=G (I J ((aC c).wide:Int))/\w'=w:=by
 have p:=c.toNat_lt
 by_cases j:c.toNat<128
 .have a:(aC c).wide=1:=by(unfold aC;(repeat' split)<;>first|rfl|omega)
  rw[a];have g:(((c.toNat:Nat):Int):Int)<128:=by omega
  have d:¬(194:Int)<=((c.toNat:Nat):Int):=by omega
  have b:¬(224:Int)<=((c.toNat:Nat):Int):=by omega
  have f:¬(240:Int)<=((c.toNat:Nat):Int):=by omega
  go_enter ar,au;go_wp2_with fail;go_ret;exact⟨rfl,rfl⟩
 .skip
  by_cases i:c.toNat<194
  .have a:(aC c).wide=0:=by(unfold aC;(repeat' split)<;>first|rfl|omega)
   rw[a];have g:¬(((c.toNat:Nat):Int):Int)<128:=by omega
   have d:¬(194:Int)<=((c.toNat:Nat):Int):=by omega
   have b:¬(224:Int)<=((c.toNat:Nat):Int):=by omega
   have f:¬(240:Int)<=((c.toNat:Nat):Int):=by omega
   go_enter ar,au;go_wp2_with fail;go_ret;exact⟨rfl,rfl⟩
  .skip
   by_cases n:c.toNat<224
   .have a:(aC c).wide=2:=by(unfold aC;(repeat' split)<;>first|rfl|omega)
    rw[a];have g:¬(((c.toNat:Nat):Int):Int)<128:=by omega
    have d:(194:Int)<=((c.toNat:Nat):Int):=by omega
    have h:(((c.toNat:Nat):Int):Int)<=223:=by omega
    have b:¬(224:Int)<=((c.toNat:Nat):Int):=by omega
    have f:¬(240:Int)<=((c.toNat:Nat):Int):=by omega
    go_enter ar,au;go_wp2_with fail;go_ret;exact⟨rfl,rfl⟩
   .skip
    by_cases k:c.toNat<240
    .have a:(aC c).wide=3:=by(unfold aC;(repeat' split)<;>first|rfl|omega)
     rw[a];have g:¬(((c.toNat:Nat):Int):Int)<128:=by omega
     have d:(194:Int)<=((c.toNat:Nat):Int):=by omega
     have h:¬(((c.toNat:Nat):Int):Int)<=223:=by omega
     have b:(224:Int)<=((c.toNat:Nat):Int):=by omega
     have m:(((c.toNat:Nat):Int):Int)<=239:=by omega
     have f:¬(240:Int)<=((c.toNat:Nat):Int):=by omega
     go_enter ar,au;go_wp2_with fail;go_ret;exact⟨rfl,rfl⟩
    .skip
     by_cases l:c.toNat<245
     .have a:(aC c).wide=4:=by(unfold aC;(repeat' split)<;>first|rfl|omega)
      rw[a];have g:¬(((c.toNat:Nat):Int):Int)<128:=by omega
      have d:(194:Int)<=((c.toNat:Nat):Int):=by omega
      have h:¬(((c.toNat:Nat):Int):Int)<=223:=by omega
      have b:(224:Int)<=((c.toNat:Nat):Int):=by omega
      have m:¬(((c.toNat:Nat):Int):Int)<=239:=by omega
      have f:(240:Int)<=((c.toNat:Nat):Int):=by omega
      have o:(((c.toNat:Nat):Int):Int)<=244:=by omega
      go_enter ar,au;go_wp2_with fail;go_ret;exact⟨rfl,rfl⟩
     .skip;have a:(aC c).wide=0:=by(unfold aC;(repeat' split)<;>first|rfl|omega)
      rw[a];have g:¬(((c.toNat:Nat):Int):Int)<128:=by omega
      have d:(194:Int)<=((c.toNat:Nat):Int):=by omega
      have h:¬(((c.toNat:Nat):Int):Int)<=223:=by omega
      have b:(224:Int)<=((c.toNat:Nat):Int):=by omega
      have m:¬(((c.toNat:Nat):Int):Int)<=239:=by omega
      have f:(240:Int)<=((c.toNat:Nat):Int):=by omega
      have o:¬(((c.toNat:Nat):Int):Int)<=244:=by omega
      go_enter ar,au;go_wp2_with fail;go_ret;exact⟨rfl,rfl⟩
theorem mQ{c d:UInt8}(a hi:Nat)(e:128<=a)(b:hi<=191)(g:128<=d.toNat->d.toNat<=191->(aH c d=O<->a<=d.toNat/\d.toNat<=hi)):aH c d=(decide (a<=d.toNat)&&decide (d.toNat<=hi)):=by
 by_cases h:d.toNat<128\/191<d.toNat
 .have:aH c d=N:=by unfold aH;rw[if_pos h]
  rw[this];symm;rw[Bool.and_eq_false_iff];simp only[decide_eq_false_iff_not];omega
 .have f:=g (by omega) (by omega);rw[Bool.eq_iff_iff,f];simp
theorem aDL{c d:UInt8}(h:1<(aC c).wide):aH c d=(aC c).D5 1 d:=by
 have l:∀f:Form,f.D5 1 d=(decide (f.low<=d.toNat)&&decide (d.toNat<=f.high)):=λf=>by unfold Form.D5;rw[if_pos rfl]
 rw[l];rcases sM c (by omega)with⟨-,g⟩|⟨j,g,e⟩|⟨j,g,e⟩|⟨j,g,e⟩
 .omega
 .rw[e];refine mQ 128 191 (by omega) (by omega) λk i=>?_
  unfold aH;rw[if_neg (by omega),if_neg (by omega),if_neg (by omega),if_neg (by omega),if_neg (by omega)];simp;omega
 .rw[e];simp only;refine mQ _ _ (by split<;>omega) (by split<;>omega) λk i=>?_
  unfold aH;rw[if_neg (by omega)]
  by_cases a:c.toNat=224
  .rw[if_pos a,if_pos a,if_neg (by omega)];simp;omega
  .rw[if_neg a,if_neg a]
   by_cases b:c.toNat=237
   .rw[if_pos b,if_pos b];simp;omega
   .rw[if_neg b,if_neg b,if_neg (by omega),if_neg (by omega)];simp;omega
 .rw[e];simp only;refine mQ _ _ (by split<;>omega) (by split<;>omega) λk i=>?_
  unfold aH;rw[if_neg (by omega),if_neg (by omega),if_neg (by omega)]
  by_cases a:c.toNat=240
  .rw[if_pos a,if_pos a,if_neg (by omega)];simp;omega
  .rw[if_neg a,if_neg a]
   by_cases b:c.toNat=244
   .rw[if_pos b,if_pos b];simp;omega
   .rw[if_neg b,if_neg b];simp;omega
def j5(b:Nat):Pc Nat->ai
 | .cut=>aj #[I J 0,E #[U ⟨#[]⟩,I J 0,I J 0,I J 0,S O]]
 | .bad no a=>aj #[I J 0,E #[U ⟨#[]⟩,I J 0,I J (no:Int),I J ((b+a:Nat):Int),S N]]
 | .ok n=>aj #[I J (n:Int),E #[U ⟨#[]⟩,I J 0,I J 0,I J 0,S N]]
theorem zN{c:UInt8}{v:Nat}(h:hexOf c=V v):v<16:=by
 unfold hexOf at h;split at h
 .injection h;omega
 .split at h
  .injection h;omega
  .split at h
   .injection h;omega
   .cases h
theorem oO(w:X)(s:ByteArray)(f:Nat)(i:Bool)(ha:f<=s.size+16)(hs:s.size<=2147483648):K H 177 #[U s,I J f,S i] w λe w'=>
 e=G (j5 f (dI i 4 0 (s.data.toList.drop f)))/\av w.heap.size w w':=by
 obtain⟨R,b⟩:∃R,dI i 4 0 (s.data.toList.drop f)=R:=⟨_,rfl⟩;rw[b];have HR:=L b;have HH:=L (λ(W:X)(c:UInt8)=>aIg W c);have HBD:=L (λ(W:X)(no a:Nat)=>l0 W no a);clear b;have r:(w.alloc (af #[U ⟨#[]⟩,I J 0,I J 0,I J 0,S N] 200)).heap[w.heap.size]?=V (af #[U ⟨#[]⟩,I J 0,I J 0,I J 0,S N] 200 (0,0)):=heap_alloc_new w _;have hb:=(Below.refl w.heap.size w).alloc (ak _) (af #[U ⟨#[]⟩,I J 0,I J 0,I J 0,S N] 200);have hpos:f<=2147483664:=by omega
 go_enter func177,ntmps177;go_wp2_with fail;generalize w.alloc (af #[U ⟨#[]⟩,I J 0,I J 0,I J 0,S N] 200)=w1 at*
 go_loopw [9,8] (λv x wr=>∃k n:Nat,v=I J k/\x=I J n/\k<=4/\n<16^k/\M (dI i (4-k) n (s.data.toList.drop (f+k))=R)/\w1=wr) (λv _ _=>4-(intOf v).toNat)
 case atStart=>exact⟨0,0,rfl,rfl,by decide,by decide,HR,rfl⟩
 case round=>
  obtain⟨k,n,rfl,rfl,hk4,b,HK,rfl⟩:=hrel;obtain⟨p,hp⟩:∃p,f+k=p:=⟨_,rfl⟩;have HN:=L b;clear b
  by_cases hk:k<4
  .have q1:(k:Int)<4:=by omega
   have q2:J.wrap ((f:Int)+(k:Int))=(p:Int):=by rw[ao];omega
   have b:=HK.o;obtain⟨m,hm⟩:∃m,4-k=m+1:=⟨3-k,by omega⟩;have hmk:3-m=k:=by omega
   rw[hm,hp]at b
   by_cases hend:p<s.size
   .have e1:¬(s.size:Int)<=(p:Int):=by omega
    have e2:(p:Int)<(s.size:Int):=by omega
    rw[aZ hend,dI,hmk]at b;have o:=L (λW=>HH.o W s[p]);cases l:hexOf s[p]with
    | none=>
     rw[l]at b o;have b:Pc.bad (if i then 93 else 92) k=R:=b
     subst b;have t:=L hp;clear HK HR hm hmk hp l HN;have T:(((k:Int)==0)=O/\((k:Int)==1)=N)\/(((k:Int)==0)=N/\((k:Int)==1)=O)\/(((k:Int)==0)=N/\((k:Int)==1)=N):=by simp;omega
     have h2:n=13\/((n:Int)==13)=N:=by simp;omega
     cases i with
     | true=>
      have q:M (∀W:X,K H 156 #[I J 93,I J p] W λe w'=>e=G (E #[U ⟨#[]⟩,I J 0,I J 93,I J (p:Int),S N])/\av W.heap.size W w'):=λW=>HBD.o W 93 p
      rcases T with⟨u,h⟩|⟨u,h⟩|⟨u,h⟩
      all_goals
       clear h2;go_wp2_with fail;refine(o.o _).mono ?_;rintro e w2 ⟨rfl,rfl⟩;go_wp2_with fail;refine(q.o _).mono ?_;rintro e w3 ⟨rfl,d⟩;have y:=L (keep r d);have z:=L (chain hb d);obtain⟨c0,c1,c2,c3,c4,cf⟩:=cells5 (keep r d);clear d u h
       try clear h2
       go_wp2;obtain⟨P,A⟩:=bE (U ⟨#[]⟩) (I J 0) (I J 93) (I J (p:Int)) (S N) y.o z.o (ak _);have g:=L A;obtain⟨B,C,D,F,Q,_⟩:=cells5 P;exact aw (v:=aj #[I J 0,E #[U ⟨#[]⟩,I J 0,I J 93,I J (p:Int),S N]]) (by simp[az,ba,go_sem,B,C,D,F,Q]) rfl ⟨by rw[<-t.o];simp[j5],g.o⟩
     | false=>
      have q:M (∀W:X,K H 156 #[I J 92,I J p] W λe w'=>e=G (E #[U ⟨#[]⟩,I J 0,I J 92,I J (p:Int),S N])/\av W.heap.size W w'):=λW=>HBD.o W 92 p
      rcases T with⟨-,h⟩|⟨-,h⟩|⟨-,h⟩<;>rcases h2 with rfl|h2
      all_goals
       go_wp2_with fail;refine(o.o _).mono ?_;rintro e w2 ⟨rfl,rfl⟩;go_wp2_with fail;refine(q.o _).mono ?_;rintro e w3 ⟨rfl,d⟩;have y:=L (keep r d);have z:=L (chain hb d);obtain⟨c0,c1,c2,c3,c4,cf⟩:=cells5 (keep r d);clear d h
       try clear h2
       go_wp2;obtain⟨P,A⟩:=bE (U ⟨#[]⟩) (I J 0) (I J 92) (I J (p:Int)) (S N) y.o z.o (ak _);have g:=L A;obtain⟨B,C,D,F,Q,_⟩:=cells5 P;exact aw (v:=aj #[I J 0,E #[U ⟨#[]⟩,I J 0,I J 92,I J (p:Int),S N]]) (by simp[az,ba,go_sem,B,C,D,F,Q]) rfl ⟨by rw[<-t.o];simp[j5],g.o⟩
    | some v=>
     rw[l]at b o;have hv:=zN l;have b:(if iG i k n v then Pc.bad 93 k else dI i m (16*n+v) (s.data.toList.drop (p+1)))=R:=b;have hnb:n<4096:=Nat.lt_of_lt_of_le HN.o (bm (Nat.pow_le_pow_right (by decide) (show k<=3 by omega)) (by decide));have HN2:=L (show 16*n+v<16^(k+1) by have:=HN.o;rw[Nat.pow_succ];omega);have HM:=L (show 4-(k+1)=m/\f+(k+1)=p+1 from⟨by omega,by omega⟩);have t:=L hp;have q:M (∀W:X,K H 156 #[I J 93,I J p] W λe w'=>e=G (E #[U ⟨#[]⟩,I J 0,I J 93,I J (p:Int),S N])/\av W.heap.size W w'):=λW=>HBD.o W 93 p
     have hv0:decide ((v:Int)<0)=N:=decide_eq_false (by omega);clear HK HR hp l hm hmk HN;cases i with
     | true=>
      have hw:((((k:Int)==0)=O/\((v:Int)!=13)=O\/((k:Int)==0)=N/\((k:Int)==1)=O/\decide ((v:Int)<12)=O)/\iG O k n v=O)\/
       ((((k:Int)==0)=O/\((k:Int)==1)=N/\((v:Int)!=13)=N\/((k:Int)==0)=N/\((k:Int)==1)=O/\decide ((v:Int)<12)=N\/((k:Int)==0)=N/\((k:Int)==1)=N)/\iG O k n v=N):=by
       by_cases u:k=0
       .by_cases l:v=13
        .exact Y ⟨ae ⟨by simp[u],by simp[u],by simp[l]⟩,by simp[iG,u,l]⟩
        .exact ae ⟨ae ⟨by simp[u],by simp;omega⟩,by simp[iG,u,l]⟩
       .by_cases h:k=1
        .by_cases T:v<12
         .exact ae ⟨Y ⟨by simp[h],by simp[h],by simp;omega⟩,by simp[iG,h,T]⟩
         .exact Y ⟨Y (ae ⟨by simp[h],by simp[h],by simp;omega⟩),by simp[iG,h,T]⟩
        .exact Y ⟨Y (Y ⟨by simp[u],by simp;omega⟩),by simp[iG,u,h]⟩
      rcases hw with⟨j,u⟩|⟨j,u⟩
      .rcases j with⟨x1,x2⟩|⟨x1,x2,x3⟩
       all_goals
        rw[u,if_pos rfl]at b;subst b;clear u
        try clear j
        go_wp2_with fail;refine(o.o _).mono ?_;rintro e w2 ⟨rfl,rfl⟩;go_wp2_with fail;refine(q.o _).mono ?_;rintro e w3 ⟨rfl,d⟩;have y:=L (keep r d);have z:=L (chain hb d);obtain⟨c0,c1,c2,c3,c4,cf⟩:=cells5 (keep r d);clear d hv0
        try clear x1
        try clear x2
        try clear x3
        go_wp2;obtain⟨P,A⟩:=bE (U ⟨#[]⟩) (I J 0) (I J 93) (I J (p:Int)) (S N) y.o z.o (ak _);have g:=L A;obtain⟨B,C,D,F,Q,_⟩:=cells5 P;exact aw (v:=aj #[I J 0,E #[U ⟨#[]⟩,I J 0,I J 93,I J (p:Int),S N]]) (by simp[az,ba,go_sem,B,C,D,F,Q]) rfl ⟨by rw[<-t.o];simp[j5],g.o⟩
      .rcases j with⟨x1,x2,x3⟩|⟨x1,x2,x3⟩|⟨x1,x2⟩
       all_goals
        rw[u,if_neg (by decide)]at b;have HK2:=L b;clear u b;go_wp2_with fail;refine(o.o _).mono ?_;rintro e w2 ⟨rfl,rfl⟩;go_wp2_with fail;exact⟨⟨k+1,16*n+v,by go_num,by go_num,by omega,HN2.o,by rw[HM.o.1,HM.o.2];exact HK2,trivial⟩,by simp[intOf];omega⟩
     | false=>
      have hw:((((k:Int)==1)=O/\((n:Int)==13)=O/\decide ((12:Int)<=(v:Int))=O)/\iG N k n v=O)\/
       ((((k:Int)==1)=O/\((n:Int)==13)=O/\decide ((12:Int)<=(v:Int))=N\/((k:Int)==1)=O/\((n:Int)==13)=N\/((k:Int)==1)=N)/\iG N k n v=N):=by
       by_cases h:k=1
       .by_cases l:n=13
        .by_cases T:12<=v
         .exact ae ⟨⟨by simp[h],by simp[l],by simp;omega⟩,by simp[iG,h,l,T]⟩
         .exact Y ⟨ae ⟨by simp[h],by simp[l],by simp;omega⟩,by simp[iG,h,l,T]⟩
        .exact Y ⟨Y (ae ⟨by simp[h],by simp;omega⟩),by simp[iG,h,l]⟩
       .exact Y ⟨Y (Y (by simp;omega)),by simp[iG,h]⟩
      rcases hw with⟨⟨x1,x2,x3⟩,u⟩|⟨j,u⟩
      .skip
       all_goals
        rw[u,if_pos rfl]at b;subst b;clear u
        try clear j
        go_wp2_with fail;refine(o.o _).mono ?_;rintro e w2 ⟨rfl,rfl⟩;go_wp2_with fail;refine(q.o _).mono ?_;rintro e w3 ⟨rfl,d⟩;have y:=L (keep r d);have z:=L (chain hb d);obtain⟨c0,c1,c2,c3,c4,cf⟩:=cells5 (keep r d);clear d hv0
        try clear x1
        try clear x2
        try clear x3
        go_wp2;obtain⟨P,A⟩:=bE (U ⟨#[]⟩) (I J 0) (I J 93) (I J (p:Int)) (S N) y.o z.o (ak _);have g:=L A;obtain⟨B,C,D,F,Q,_⟩:=cells5 P;exact aw (v:=aj #[I J 0,E #[U ⟨#[]⟩,I J 0,I J 93,I J (p:Int),S N]]) (by simp[az,ba,go_sem,B,C,D,F,Q]) rfl ⟨by rw[<-t.o];simp[j5],g.o⟩
      .rcases j with⟨x1,x2,x3⟩|⟨x1,x2⟩|x1
       all_goals
        rw[u,if_neg (by decide)]at b;have HK2:=L b;clear u b;go_wp2_with fail;refine(o.o _).mono ?_;rintro e w2 ⟨rfl,rfl⟩;go_wp2_with fail;exact⟨⟨k+1,16*n+v,by go_num,by go_num,by omega,HN2.o,by rw[HM.o.1,HM.o.2];exact HK2,trivial⟩,by simp[intOf];omega⟩
   .have e1:(s.size:Int)<=(p:Int):=by omega
    rw[dA hend]at b;have b:Pc.cut=R:=b;subst b;clear hm hmk HK HR;obtain⟨c0,c1,c2,c3,c4,cf⟩:=cells5 r;have y:=L r;have z:=L hb;go_wp2;obtain⟨P,A⟩:=bE (U ⟨#[]⟩) (I J 0) (I J 0) (I J 0) (S O) y.o z.o (ak _);have g:=L A;obtain⟨B,C,D,F,Q,_⟩:=cells5 P;exact aw (v:=j5 f .cut) (by simp[az,ba,go_sem,j5,B,C,D,F,Q]) rfl ⟨rfl,g.o⟩
  .obtain rfl:k=4:=by omega
   have b:=HK.o;rw[Nat.sub_self,dI]at b;have q1:¬((4:Nat):Int)<4:=by omega
   subst b;clear HK HR hp;obtain⟨c0,c1,c2,c3,c4,cf⟩:=cells5 r;have y:=L r;have z:=L hb;go_wp2;obtain⟨P,A⟩:=bE (U ⟨#[]⟩) (I J 0) (I J 0) (I J 0) (S N) y.o z.o (ak _);have g:=L A;obtain⟨B,C,D,F,Q,_⟩:=cells5 P;exact aw (v:=j5 f (.ok n)) (by simp[az,ba,go_sem,j5,B,C,D,F,Q]) rfl ⟨rfl,g.o⟩
theorem tT(w:X)(b:Nat)(y p s l t m q z n r o x u a:ai)(raw:List UInt8)(h:w.heap[b]?=V (af #[y,p,s,l,t,m,a,q,z,n,r,o,x,u] 228 (0,0)))
 (j:Win 5 cC w a raw)(i:raw.length<=1073741824)(k:bitsOf raw=Z):
 K H 110 #[bh (V ⟨b,0,Z⟩)] w λe w'=>e=G (S N)/\av w.heap.size w w':=by
 obtain⟨-,-,-,-,-,-,A,-,-,-,-,-,-,-,-⟩:=aM h;have c:=fH j;have g:=L (aC1 ⟨raw.toArray⟩ w (by show raw.toArray.size<=_;simpa using i));rw[show(⟨raw.toArray⟩:ByteArray).data.toList=raw by simp,k]at g;clear h j k i;go_enter func110,ntmps110;go_wp2_with fail;refine(g.o).mono ?_;rintro e w1 ⟨⟨T,v,rfl⟩,f⟩;have d:=L f;clear f;go_wp2_with fail;go_ret;exact⟨rfl,d.o⟩
theorem tU(w:X)(b pl st:Nat)(t u R T x y z A B C c a:ai)(raw:List UInt8)(toks:List ai)(d:Nat)(D:w.heap[b]?=V (af #[I J pl,t,u,R,T,I J st,c,x,y,z,A,B,C,a] 228 (0,0)))
 (j:Win 5 cC w c raw)(o:raw.length<=1073741824)(p:bitsOf raw=V d)(h:Win 232 id w a toks)(l:toks.length<=1000)(m:st<=pl)(n:pl<=1073741824):
 K H 110 #[bh (V ⟨b,0,Z⟩)] w λe w'=>jF w b a toks (bS (.num st (pl-st) d)) (λv=> #[I J pl,t,u,.func (.func 104) #[] #[],S N,I J st,c,x,y,z,A,B,C,v]) (S O) e w':=by
 obtain⟨-,-,-,-,-,-,r,-,-,-,-,-,-,cd,-⟩:=aM D;have f:=fH j;have F:=L (aC1 ⟨raw.toArray⟩ w (by show raw.toArray.size<=_;simpa using o));rw[show(⟨raw.toArray⟩:ByteArray).data.toList=raw by simp,p]at F;have a0:=L D;have W:=L h
 have i:∀k,a.ownBlock=V k->k<w.heap.size:=by
  intro k q;rcases h with⟨rfl,_⟩|⟨g,off,cap,s,rfl,P,_⟩
  .cases q
  .cases q;exact lt_of_block P
 clear D j p o h i;go_enter func110,ntmps110;go_wp2_with fail;refine(F.o).mono ?_;rintro e w1 ⟨rfl,i⟩;have j:=keep a0.o i;have h:Win 232 id w1 a toks:=W.o.A0 (bk (λ_=>False) i) (λ_ _=>id);obtain⟨q,-,-,-,-,-,-,-,-,-,-,-,-,-,-⟩:=aM j;have P:=L j;have o:=L h;have p:=L i;clear j h i r cd f;go_wp2_with fail;refine(qK w1 b _ st pl P.o rfl m n).mono ?_;rintro e w2 ⟨rfl,f⟩;have j:=keep P.o f;have h:Win 232 id w2 a toks:=o.o.A0 (bk (λ_=>False) f) (λ_ _=>id);have i:=L (chain p.o f);clear q f;have HT:=L (qL w2 b _ _ _ _ _ _ _ _ _ _ _ _ _ a 271 (E #[I J st,I J ((pl-st:Nat):Int),I .u64 d]) toks j h l);clear j h;go_wp2_with fail;refine(HT.o).mono ?_;rintro e w3 ⟨rfl,g,off,cap,Q,f,h,j⟩;have H3:=L Q;have q:=L f;have r:=L h;have s:=L j;clear Q f h j;go_wp2_with fail;go_ret;exact⟨rfl,g,off,cap,H3.o,q.o,r.o.elim ae (λD=>Y (bm i.o.size D)),(bk _ i.o).B8 s.o⟩
theorem yN(w:X)(b s:Nat)(n o p q r t u v x y z A a:ai)(d:UInt8)(l:List UInt8)(B:w.heap[b]?=V (af #[n,o,p,q,r,t,a,I J s,u,v,x,y,z,A] 228 (0,0)))(c:s<=8)
 (f:aQ s d=Z)(g:bI s=O)(h:Win 5 cC w a l)(i:l.length<=1073741824)(j:bitsOf l=Z):
 K H 139 #[bh (V ⟨b,0,Z⟩),I ac ((d.toNat:Nat):Int)] w λe w'=>e=G (I J 41)/\av w.heap.size w w':=by
 have C:=L (tT w b _ _ _ _ _ _ _ _ _ _ _ _ _ a l B h i j);obtain⟨D,c1,c2,F,P,Q,R,T,W,c9,ca,cb,cc,cd,cf⟩:=aM B;have k:=L (rT s c d);have m:=L (lE s c);rw[f]at k;rw[g]at m;clear B f g c h i j;go_enter func139,ntmps139;go_wp2_with fail;refine(k.o _).mono ?_;rintro e w1 ⟨rfl,rfl⟩;go_wp2_with fail;refine(m.o _).mono ?_;rintro e w1 ⟨rfl,rfl⟩;go_wp2_with fail;refine(C.o).mono ?_;rintro e w2 ⟨rfl,c⟩;have f:=L c;clear c;go_wp2_with fail;go_ret;exact⟨rfl,f.o⟩
theorem aA7(w:X)(b s pl st:Nat)(m o P Q p q r t u a c:ai)(j:UInt8)(l:List UInt8)(toks:List ai)(d:Nat)(a0:Ending->X->Prop)(R:w.heap[b]?=V (af #[I J pl,m,o,P,Q,I J st,a,I J s,p,q,r,t,u,c] 228 (0,0)))(k:s<=8)
 (x:aQ s j=Z)(y:bI s=O)(z:Win 5 cC w a l)(A:l.length<=1073741824)(B:bitsOf l=V d)(C:Win 232 id w c toks)(g:toks.length<=1000)(h:st<=pl)(i:pl<=1073741824)
 (f:∀w',jF w b c toks (bS (.num st (pl-st) d)) (λv=> #[I J pl,m,o,.func (.func 104) #[] #[],S N,I J st,a,I J s,p,q,r,t,u,v]) (S O) (G (S O)) w'->
  K H 104 #[bh (V ⟨b,0,Z⟩),I ac ((j.toNat:Nat):Int)] w' λe w2=>(∃n,e=G (I J n))/\a0 e w2):
 K H 139 #[bh (V ⟨b,0,Z⟩),I ac ((j.toNat:Nat):Int)] w a0:=by
 have T:=L (tU w b pl st _ _ _ _ _ _ _ _ _ _ a c l toks d R z A B C g h i);obtain⟨c0,c1,c2,c3,c4,c5,c6,c7,c8,c9,ca,cb,cc,cd,cf⟩:=aM R;have D:=L (rT s k j);have F:=L (lE s k);rw[x]at D;rw[y]at F;have W:=L f;clear R x y k z A B C g h i f;go_enter func139,ntmps139;go_wp2_with fail;refine(D.o _).mono ?_;rintro e w1 ⟨rfl,rfl⟩;go_wp2_with fail;refine(F.o _).mono ?_;rintro e w1 ⟨rfl,rfl⟩;go_wp2_with fail;refine(T.o).mono ?_;intro e w2 f;obtain rfl:=f.1;have g:=L (W.o w2 f);clear f;go_wp2_with fail;refine(g.o).mono ?_;rintro e i ⟨⟨n,rfl⟩,f⟩;have h:=L f;clear f;go_wp2_with fail
 first
  | exact h.o
  | (go_ret;exact h.o)
end Go.Proofs.YtakkmiomhackiaaGreatDoor
