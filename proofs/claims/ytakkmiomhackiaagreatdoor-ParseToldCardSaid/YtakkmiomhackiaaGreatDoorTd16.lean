/-
  The program, one part of its walk. Conditions: none.
-/
import Derived.Test.YtakkmiomhackiaaGreatDoorTd13
import Derived.Test.YtakkmiomhackiaaGreatDoorTd15
set_option linter.all false
set_option maxRecDepth 100000
set_option maxHeartbeats 16000000
open Go.Proofs.Tryz
open Array renaming extract_size->ai,getElem?_append_left->ar,getElem?_modify->au
open Bool renaming false->J,true->I
open Except renaming error->O
open Go renaming lt_of_block->ao
open Go.Addr.mk renaming injEq->bc
open Go.Lib renaming bitLen->af
open Go.Proofs renaming sortWorld->S
open Go.Proofs.YtakkmiomhackiaaGreatDoor.Tr renaming A7->aw,null->G,object->ac
open Go.Sort renaming ahead->H,grow->Y,mapBlock->K,pdq_sorts->ae,putCells->X,putRow->Z
open Go.Value renaming slice->U
open Go.Value.slice renaming injEq->az
open List renaming getElem?_eq_getElem->W,getElem?_eq_some_iff->av,getElem?_map->ak,length_map->aj
open List.Perm renaming of_eq->bg
open Nat renaming le_refl->ah,zero_le->ag
open Option renaming none->V,some->N
open Option.some renaming injEq->ba
namespace Go.Proofs.YtakkmiomhackiaaGreatDoor
open Go.RowKit
theorem pG(d:Array xW):(gJ d).size=d.size:=
 (ae (ltOf tY) qT d 0 d.size (af d.size) I I (ag _) (ah _) (Or.inl rfl)).1.1
theorem aDz(d:Array xW):(gJ d).toList.Perm d.toList:=by
 have h:=(ae (ltOf tY) qT d 0 d.size (af d.size) I I (ag _) (ah _) (Or.inl rfl)).1;have a:=h.2.2;have c:d.extract 0 d.size=d:=ai;have e:(gJ d).extract 0 d.size=gJ d:=by rw[<-pG d];exact ai
 rw[c]at a;have b:((gJ d).extract 0 d.size).toList.Perm d.toList:=a;rw[e]at b;exact b
theorem aH2(w:World)(g off cap:Nat)(a:List xW)(v:Win 9 encS w (U (N ⟨g,off,V⟩) a.length cap) (a.map (·.1)))(E:a.length<=1048576):
 Calls prog 239 #[U (N ⟨g,off,V⟩) a.length cap,.func (.func 240) #[] #[]] w λe w'=>e=.returned (.tuple #[])/\Win 9 encS w' (U (N ⟨g,off,V⟩) a.length cap) ((gJ a.toArray).toList.map (·.1))/\Keeps (λk=>k=g) w w':=by
 rcases v with⟨n,_⟩|⟨F,s,t,d,n,f,z,A,B,hi⟩
 .cases n
 .simp only[az,ba,bc]at n;obtain⟨⟨rfl,rfl,_⟩,_,rfl⟩:=n;rw[aj]at z
  have C:Sort.Holds encR w g off a.toArray:=by
   intro j h;have b:j<a.length:=by simpa using h
   have c:=hi j (a[j]).1 (by rw[ak,W b];rfl);refine⟨?_,free_at f _⟩;rw[aA f,c];simp[encR,encS,b]
  have u:=aHX g off cap a.toArray w C (ao f) (by simp;omega);rw[List.size_toArray]at u;refine u.mono ?_;rintro e w' ⟨rfl,m,p,rfl⟩;have b:(gJ a.toArray).size=a.length:=by rw[pG];simp
  have q:=ao f
  have h:(S encR w g off m (gJ a.toArray) p).heap[g]?=N (.cells (X encR off (gJ a.toArray) d) 9 (0,0)):=by
   unfold S Y Z K H
   show(w.heap.modify g _++p)[g]?=_
   rw[ar (by simpa using q),au,if_pos rfl,f];rfl
  refine⟨rfl,.inr ⟨g,off,cap,_,?_,h,?_,?_,?_,?_⟩,?_⟩
  .simp[b]
  .simp[b];omega
  .simpa[X]using A
  .exact B
  .intro i x c;rw[ak]at c;cases o:(gJ a.toArray).toList[i]? with
   | none=>rw[o]at c;cases c
   | some y=>
    rw[o]at c;cases c;have D:i<a.length:=by have:=(av.1 o).1;simpa[b]using this
    have r:(gJ a.toArray)[i]! =y:=by
     have l:(gJ a.toArray)[i]?=N y:=by simpa using o
     rw[getElem!_def,l]
    have l:off+i<d.size:=by omega
    unfold X;rw[Array.getElem?_mapIdx,Array.getElem?_eq_getElem l,Option.map_some,if_pos ⟨by omega,by rw[b];omega⟩,show off+i-off=i by omega,r];rfl
  .refine⟨rfl,rfl,rfl,?_,λk c l=>?_⟩
   .unfold S Y Z K H;simp
   .unfold S Y Z K H
    show(w.heap.modify g _++p)[k]?=_
    rw[ar (by simpa using c),au,if_neg (λe=>l e.symm)]
def bH(keys:List (List UInt8)):Prop:=∀k∈keys,aT k=I/\k.length<=2097152
instance(keys:List (List UInt8)):Decidable (bH keys):=by unfold bH;infer_instance
def oZ(keys:List (List UInt8))(h:bH keys):List xW:=keys.attach.map λk=>⟨k.1,h k.1 k.2⟩
theorem zC(keys:List (List UInt8))(h:bH keys):(oZ keys h).map (·.1)=keys:=by
 unfold oZ;rw[List.map_map];exact(List.attach_map_val (f:=id) (l:=keys)).trans (List.map_id _)
theorem mM(keys:List (List UInt8))(h:bH keys):(oZ keys h).length=keys.length:=by
 unfold oZ;rw[aj,List.length_attach]
def cV(keys:List (List UInt8)):List (List UInt8):=if h:bH keys then(gJ (oZ keys h).toArray).toList.map (·.1)else keys
theorem nM{keys:List (List UInt8)}(h:bH keys):cV keys=(gJ (oZ keys h).toArray).toList.map (·.1):=by unfold cV;rw[dif_pos h]
theorem fI(keys:List (List UInt8)):(cV keys).Perm keys:=by
 by_cases h:bH keys
 .rw[nM h];have:=(aDz (oZ keys h).toArray).map (·.1);rw[show((oZ keys h).toArray.toList).map (·.1)=keys from zC keys h]at this;exact this
 .unfold cV;rw[dif_neg h]
def besides(keys:List (List UInt8))(l:List Tr):List Tr:=(cV keys).map λk=>l.getD (keys.idxOf k) G
def po(items:List Tr)(keys:List (List UInt8)):List Tr:=
 if items.length<keys.length then items else fY items keys.length (ac (cV keys) (besides keys (items.drop (items.length-keys.length))))
theorem aDA{keys:List (List UInt8)}(a:keys.Nodup){i:Nat}{k:List UInt8}(h:keys[i]?=N k):keys.idxOf k=i:=by
 obtain⟨hi,rfl⟩:=av.1 h;exact a.idxOf_getElem i hi
theorem aAA{keys:List (List UInt8)}{l:List Tr}(a:keys.Nodup)(c:l.length=keys.length):(besides keys l).Perm l:=by
 have b:=(fI keys).map (λk=>l.getD (keys.idxOf k) G);refine b.trans (bg ?_);apply List.ext_getElem
 .simp[c]
 .intro i b d;rw[List.getElem_map];rw[aDA a (W (by omega))];rw[List.getD_eq_getElem?_getD,W d];rfl
theorem aBI{bytes:Nat}{l a:List Sz}(h:l.Perm a):cP bytes l=cP bytes a:=by
 unfold cP;refine h.foldl_eq' (λx _ y _ z=>?_) _;simp only[Sz.mk.injEq];omega
theorem aAB{l a:List (List UInt8)}(h:l.Perm a):bA l=bA a:=by
 unfold bA;refine h.foldl_eq' (λx _ y _ z=>?_) _;omega
theorem mN{keys:List (List UInt8)}{l:List Tr}(a:keys.Nodup)(b:l.length=keys.length):(ac (cV keys) (besides keys l)).A7=fX (bA keys) (l.map aw):=by
 rw[j3,kT,kT,aAB (fI keys),aBI ((aAA a b).map aw)]
theorem qX(l:List (List UInt8))(k:List UInt8):bA (l++ [k])=bA l+k.length:=by
 unfold bA;rw[List.foldl_append];rfl
theorem aAC{l:List (List UInt8)}{i:Nat}{k:List UInt8}(h:l[i]?=N k):bA (l.take (i+1))=bA (l.take i)+k.length:=by
 rw[List.take_add_one,h];exact qX _ _
def over(l:List UInt8):Nat:=(l.takeWhile isD).length
def cF(l:List UInt8):Bool:=match l with
 | c::_=>isD c
 | []=>J
def iT(t:List UInt8):Nat:=match t with
 | d::_=>if d=43\/d=45 then 1 else 0
 | []=>0
def kU(n:Nat)(l:List UInt8):Nat×Bool:=match l with
 | c::t=>if c=101\/c=69 then(if cF (t.drop (iT t))then(n+1+iT t+over (t.drop (iT t)),I)else(n+1+iT t,J))else(n,I)
 | []=>(n,I)
def eF(n:Nat)(l:List UInt8):Nat×Bool:=match l with
 | c::t=>if c=46 then(if cF t then kU (n+1+over t) (t.drop (over t))else(n+1,J))else kU n (c::t)
 | []=>(n,I)
def eT(n:Nat)(l:List UInt8):Nat×Bool:=match l with
 | c::t=>if isD c then(if c=48 then eF (n+1) t else eF (n+over (c::t)) ((c::t).drop (over (c::t))))else(n,J)
 | []=>(n,J)
def fJ(l:List UInt8):Nat×Bool:=match l with
 | c::t=>if c=45 then eT 1 t else eT 0 (c::t)
 | []=>(0,J)
inductive Pc(α:Type)|cut|bad(no at_:Nat)|ok(a:α)
def iG(a:Bool)(k n v:Nat):Bool:=if a then(if k=0 then decide (v≠13)else if k=1 then decide (v<12)else J)else(decide (k=1)&&decide (n=13)&&decide (12<=v))
def dI(a:Bool):Nat->Nat->List UInt8->Pc Nat
 | 0,n,_=>.ok n
 | _+1,_,[]=>.cut
 | m+1,n,c::l=>match hexOf c with
  | none=>.bad (if a then 93 else 92) (3-m)
  | some v=>if iG a (3-m) n v then .bad 93 (3-m)else dI a m (16*n+v) l
def Pc.L2{c b:Type}(k:Nat)(f:c->Pc b):Pc c->Pc b
 | .cut=>.cut
 | .bad no a=>.bad no (k+a)
 | .ok a=>f a
def xX(n:Nat)(l:List UInt8):Pc (List UInt8×Nat):=match l with
 | []=>.cut
 | c::t=>if c=92 then(match t with
  | []=>.cut
  | d::u=>if d=117 then(dI I 4 0 u).L2 8 λm=>.ok (aS (65536+(n-55296)*1024+m-56320),12)else .bad 93 7)
  else .bad 93 6
def lX(l:List UInt8):Pc (List UInt8×Nat):=match l with
 | []=>.cut
 | c::t=>if c=117 then(dI J 4 0 t).L2 2 λn=>if n<55296\/56319<n then .ok (aS n,6)else xX n (t.drop 4)
  else match cO c with
   | none=>.bad 92 1
   | some b=>.ok ([b],2)
def cS(f:Form):Nat->Nat->List UInt8->Pc Nat
 | 0,i,_=>.ok i
 | _+1,_,[]=>.cut
 | m+1,i,c::t=>if f.D5 i c then cS f m (i+1) t else .bad 90 i
def fD(l:List UInt8):Pc Nat:=match l with
 | []=>.cut
 | c::t=>if(aC c).wide=0 then .bad 90 0 else cS (aC c) ((aC c).wide-1) 1 t
def gN(l:List UInt8):Pc (List UInt8×Nat):=match l with
 | []=>.cut
 | c::t=>if c=92 then lX t else if c.toNat<32 then .bad 91 0 else(fD (c::t)).L2 0 λn=>.ok ((c::t).take n,n)
def eK(says:List UInt8)(i:Nat)(l:List UInt8):Pc (List UInt8×Nat):=match l with
 | []=>.cut
 | c::t=>if c=34 then .ok (says,i+1)else match gN (c::t)with
  | .cut=>.cut
  | .bad no a=>.bad no (i+a)
  | .ok x=>eK (says++x.1) (i+x.2) (t.drop (x.2-1))
termination_by l.length
decreasing_by simp_wf;omega
structure RFr where
 object:Bool
 keys:List (List UInt8)
 items:List Tr
structure Rr where
 want:Nat
 pile:List RFr
 nodes:Nat
 bytes:Nat
 done:Tr
def Rr.C7(r:Rr)(t:Tr):Rr:=match r.pile.getLast? with
 | none=>{r with done:=t,want:=6}
 | some f=>{r with pile:=r.pile.dropLast++ [{f with items:=f.items++ [t]}],want:=5}
inductive Ra|on(n:Nat)(r:Rr)|cut|bad(no at_:Nat)
def Rr.D5(r:Rr)(depth:Nat):Except Nat Rr:=
 if r.want≠0/\r.want≠1 then O 120 else if depth<=r.pile.length then O 121 else if 65536<=r.nodes then O 3 else .ok {r with nodes:=r.nodes+1}
def Rr.I5(r:Rr)(depth:Nat)(f:Rr->Ra):Ra:=match r.D5 depth with
 | .error no=>.bad no 0
 | .ok r=>f r
def madeOf(f:RFr):Tr:=if f.object then ac (cV f.keys) (besides f.keys f.items)else .list f.items
def Rr.L7(r:Rr):Rr:=match r.pile.getLast? with
 | none=>r
 | some f=>Rr.C7 {r with pile:=r.pile.dropLast} (madeOf f)
def Rr.E5(r:Rr):Bool:=match r.pile.getLast? with
 | some f=>f.object
 | none=>J
def Rr.H5(r:Rr):Bool:=match r.pile.getLast? with
 | some f=>!f.object
 | none=>J
def Rr.D3(r:Rr)(depth:Nat)(c:UInt8):Ra:=
 if c=91\/c=123 then r.I5 depth λr=>.on 1 {r with pile:=r.pile++ [⟨c==123,[],[]⟩],want:=if c=123 then 2 else 1}
 else if c=58/\r.want=4 then .on 1 {r with want:=0}
 else if c=44/\r.want=5/\r.E5=I then .on 1 {r with want:=3}
 else if c=44/\r.want=5/\r.H5=I then .on 1 {r with want:=0}
 else if c=93/\r.H5=I/\(r.want=5\/r.want=1)\/c=125/\r.E5=I/\(r.want=5\/r.want=2)then .on 1 r.L7
 else .bad 120 0
def Rr.D8(r:Rr):List (List UInt8):=match r.pile.getLast? with
 | some f=>f.keys
 | none=> []
def Rr.L9(r:Rr)(s:List UInt8):Rr:=match r.pile.getLast? with
 | some f=>{r with pile:=r.pile.dropLast++ [{f with keys:=f.keys++ [s]}],want:=4}
 | none=>r
def Rr.E6(r:Rr):Bool:=r.want=2||r.want=3
def Rr.J0(r:Rr)(l:List UInt8):Ra:=match eK [] 1 l with
 | .cut=>.cut
 | .bad no a=>.bad no a
 | .ok (s,n)=>
  if r.E6=I/\s∈r.D8 then .bad 101 0
  else if 2097152<r.bytes+s.length then .bad 3 0
  else if r.E6 then .on n (Rr.L9 {r with bytes:=r.bytes+s.length} s)else .on n (Rr.C7 {r with bytes:=r.bytes+s.length} (.text s))
def Rr.F7(r:Rr)(depth:Nat)(l:List UInt8):Ra:=if r.E6 then r.J0 l else r.I5 depth λr=>r.J0 l
def alike:List UInt8->List UInt8->Nat
 | x::a,y::b=>if x=y then alike a b+1 else 0
 | _,_=>0
def Rr.N2(r:Rr)(depth:Nat)(w l:List UInt8):Ra:=r.I5 depth λr=>
 if alike w l<w.length/\alike w l<l.length then .bad 120 (alike w l)else if alike w l<w.length then .cut else .on (alike w l) (r.C7 (jY w))
def Rr.N9(r:Rr)(depth:Nat)(l:List UInt8):Ra:=r.I5 depth λr=>
 if(fJ l).2=J/\(fJ l).1<l.length then .bad 120 (fJ l).1
 else if(fJ l).2=J then .cut
 else match bitsOf (l.take (fJ l).1)with
  | none=>.bad 41 0
  | some b=>.on (fJ l).1 (r.C7 (.num (dY b)))
def Rr.B4(r:Rr)(depth:Nat)(c:UInt8)(t:List UInt8):Ra:=
 if bJ c then r.D3 depth c
 else if c=34 then r.F7 depth t
 else if aN c≠ []then r.N2 depth (aN c) (c::t)
 else if c=45\/isD c=I then r.N9 depth (c::t)
 else .bad 120 0
def Rr.J7(depth:Nat)(r:Rr)(i:Nat)(l:List UInt8):Except (Nat×Nat) Tr:=match l with
 | []=>if r.want=6 then .ok r.done else O (95,i)
 | c::t=>if aX c then Rr.J7 depth r (i+1) t else match r.B4 depth c t with
  | .cut=>O (95,i+(t.length+1))
  | .bad no a=>O (no,i+a)
  | .on n b=>Rr.J7 depth b (i+n) (t.drop (n-1))
termination_by l.length
decreasing_by all_goals(simp_wf;try omega)
def lH(l:List UInt8)(depth:Nat):Except (Nat×Nat) Tr:=Rr.J7 depth ⟨0,[],0,0,G⟩ 0 l
end Go.Proofs.YtakkmiomhackiaaGreatDoor
