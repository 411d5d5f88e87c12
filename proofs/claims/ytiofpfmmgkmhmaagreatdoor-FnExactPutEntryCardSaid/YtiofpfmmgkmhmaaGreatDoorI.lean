import Derived.Test.YtiofpfmmgkmhmaaGreatDoorC
set_option linter.all false
namespace Go.Lf
open Go
def fM{α:Type}{l:List α}{i:Int}{x:α}(h0:0<=i)(h:l[i.toNat]?=some x):idx l i=some x:=by
 unfold idx;rw[if_pos h0];exact h
def Jb{α:Type}{l:List α}{i:Int}(h0:0<=i)(h1:i<l.length):idx l i=some (l[i.toNat]'om):=fM h0 (by rw[dj om])
def zU{α:Type}{l:List α}{i:Int}(h0:0<=i)(h1:i<l.length):∃x,idx l i=some x/\l[i.toNat]?=some x:=⟨_,Jb h0 h1,by rw[dj om]⟩
def cG{α:Type}{l l2:List α}{bytes}(h:(l.length+l2.length)*bytes<=140737488355328)(h2:l.length+l2.length<=9223372036854775807):aU bytes l l2=some (l++l2):=by
 unfold aU;rw[if_pos ⟨h,h2⟩]
def iW{α:Type}{n:Int}{z:α}{bytes}(h0:0<=n)(h1:n<=2000000)(hb:bytes<=1000):cZ bytes n z=some (List.replicate n.toNat z):=by
 have a:n*bytes<=2000000*1000:=Int.mul_le_mul h1 om om om;unfold cZ;rw[if_pos ⟨h0,by omega,by omega⟩]
def zv{n}(h0 : -1000000000000<=n)(h1:n<=1000000000000):aA n=n:=cK ⟨by omega,by omega⟩
def zW{α:Type}{l:List α}{x:α}{i}(h:i<l.length):(l.set i x)[i]?=some x:=by simp[h]
def zN{α:Type}{l:List α}{x:α}{i j}(h:i≠j):(l.set i x)[j]?=l[j]?:=by simp[h]
def zA{α:Type}{l:List α}{x:α}{i}(h:l[i]?=some x):i<l.length:=(dm.1 h).1
def tq{α:Type}(p:α->Bool):∀{l:List α} {i:Nat} {x y:α},l[i]?=some x->p x=true->p y=false->(l.set i y).countP p+1=l.countP p
 |[],i,x,y,h,_,_=>by simp at h
 | a::l,0,x,y,h,hx,hy=>by
  simp at h;subst h;simp[hx,hy]
 | a::l,i+1,x,y,h,hx,hy=>by
  simp at h;have:=tq p h hx hy;simp only[List.set_cons_succ,List.countP_cons];omega
abbrev Bd:=Int×Int×Int
def cA(b:Bool):Int:=if b=true then 1 else 0
def cN(S:Int->Bool):List Bd->Int
 |[]=>0
 | b::bs=>(if S b.1=S b.2.1 then 0 else b.2.2)+cN S bs
def dA(S:Int->Bool):List Bd->List Int->Int
 | b::bs,f::fl=>f*(cA (S b.1) - cA (S b.2.1))+dA S bs fl
 | _,_=>0
def GU{S:Int->Bool}:∀{bs:List Bd} {fl:List Int},fl.length=bs.length->(∀(k:Nat)(b:Bd)(f:Int),bs[k]?=some b->fl[k]?=some f -> -b.2.2<=f/\f<=b.2.2)->dA S bs fl<=cN S bs
 |[],fl,_,_=>by simp[dA,cN]
 | b::bs,[],h,_=>by simp at h
 | b::bs,f::fl,h,hf=>by
  have i:=hf 0 b f rfl rfl;have g:=GU (S:=S) (bs:=bs) (fl:=fl) (by simpa using h) (λk d c e a=>hf (k+1) d c e a);simp only[dA,cN];cases hA:S b.1<;>cases hB:S b.2.1<;>simp[cA]<;>omega
def Nd{S:Int->Bool}:∀{bs:List Bd} {fl:List Int},fl.length=bs.length->
  (∀(k:Nat)(b:Bd)(f:Int),bs[k]?=some b->fl[k]?=some f->(S b.1=true->S b.2.1=false->f=b.2.2)/\(S b.1=false->S b.2.1=true->f = -b.2.2))->dA S bs fl=cN S bs
 |[],fl,_,_=>by simp[dA,cN]
 | b::bs,[],h,_=>by simp at h
 | b::bs,f::fl,h,hf=>by
  have c:=hf 0 b f rfl rfl;have d:=Nd (S:=S) (bs:=bs) (fl:=fl) (by simpa using h) (λk g e i a=>hf (k+1) g e i a);simp only[dA,cN,d];cases hA:S b.1<;>cases hB:S b.2.1<;>simp[cA]
  ·have:=c.2 hA hB;omega
  ·have:=c.1 hA hB;omega
def HX{S:Int->Bool}:∀{bs:List Bd} {fl:List Int} {k:Nat} {b:Bd} {f f':Int},bs[k]?=some b->fl[k]?=some f->
  dA S bs (fl.set k f')=dA S bs fl+(f' - f)*(cA (S b.1) - cA (S b.2.1))
 |[],_,k,b,f,f',h,_=>by simp at h
 | _::_,[],k,b,f,f',_,h=>by simp at h
 | b0::bs,f0::fl,0,b,f,f',h,h'=>by
  simp at h h';subst h;subst h';simp only[List.set_cons_zero,dA];rw[Int.sub_mul];omega
 | b0::bs,f0::fl,k+1,b,f,f',h,h'=>by
  simp at h h';simp only[List.set_cons_succ,dA];rw[HX h h'];omega
def Of{S:Int->Bool}:∀{bs:List Bd} {m:Nat},dA S bs (List.replicate m 0)=0
 |[],m=>by cases m<;>simp[dA]
 | b::bs,0=>by simp[dA]
 | b::bs,m+1=>by rw[List.replicate_succ];simp only[dA];rw[Of];simp
def B_{S:Int->Bool}:∀{bs:List Bd},(∀b∈bs,0<=b.2.2/\b.2.2<=1000)->cN S bs<=1000*bs.length
 |[],_=>by simp[cN]
 | b::bs,h=>by
  have d:=h b si;have e:=B_ (S:=S) (bs:=bs) (λc a=>h c (by simp[a]));simp only[cN,eh];split<;>omega
structure dC(n:Int)(bs:List Bd)(at_:List (List Int))(fl:List Int):Prop where
 n0:0<=n
 n1:n<=100000
 bn:bs.length<=100000
 wb:∀(k:Nat)(b:Bd),bs[k]?=some b->0<=b.1/\b.1<n/\0<=b.2.1/\b.2.1<n/\b.1≠b.2.1/\0<=b.2.2/\b.2.2<=1000
 alen:at_.length=n.toNat
 amem:∀(v:Nat)(l:List Int),at_[v]?=some l->l.length<=100000/\∀k:Int,k∈l↔(0<=k/\∃b:Bd,bs[k.toNat]?=some b/\(b.1=v\/b.2.1=v))
 flen:fl.length=bs.length
 fok:∀(k:Nat)(b:Bd)(f:Int),bs[k]?=some b->fl[k]?=some f -> -b.2.2<=f/\f<=b.2.2
def dJ(b:Bd)(f v:Int):Int:=if b.1=v then b.2.2 - f else b.2.2+f
def bJ(b:Bd)(v:Int):Int:=if b.1=v then b.2.1 else b.1
section
variable {n:Int} {bs:List Bd} {at_:List (List Int)} {fl:List Int}
def dC.bond(h:dC n bs at_ fl){k:Int}{b}(h0:0<=k)(hb:bs[k.toNat]?=some b):∃f,fl[k.toNat]?=some f/\idx bs k=some b/\idx fl k=some f /\ -b.2.2<=f/\f<=b.2.2:=by
 have d:=zA hb;have a:k.toNat<fl.length:=by rw[h.flen];exact d
 have c:fl[k.toNat]?=some fl[k.toNat]:=dj a;exact⟨_,c,fM h0 hb,fM h0 c,h.fok _ _ _ hb c⟩
def Jm(h:dC n bs at_ fl){k:Int}{v b f}(h0:0<=k)(hb:bs[k.toNat]?=some b)(hf:fl[k.toNat]?=some f):
  ru (n,bs,at_,fl) v k=some (dJ b f v,bJ b v,(n,bs,at_,fl)):=by
 obtain⟨j,a,hi,c,i,g⟩:=h.bond h0 hb;rw[a]at hf;obtain rfl:=Option.some.inj hf;have e:=h.wb _ _ hb;unfold ru dJ bJ;simp only[hi,im,c];by_cases d:b.1=v
 ·simp only[d,decide_true,if_true];rw[zv om om]
 ·simp only[d,decide_false,if_false,ba];rw[zv om om]
structure Dist(n:Int)(bs:List Bd)(fl:List Int)(y:Int)(L:List Int):Prop where
 len:L.length=n.toNat
 goal:L[y.toNat]?=some 0
 low:∀(v:Nat)(d:Int),L[v]?=some d -> -1<=d/\d<=n
 closed:∀(k:Nat)(b:Bd)(f:Int)(t:Nat)(d e:Int),bs[k]?=some b->fl[k]?=some f->(b.1=t\/b.2.1=t)->L[t]?=some d->0<=d->0<dJ b f (bJ b t)->L[(bJ b t).toNat]?=some e->0<=e
 parent:∀(v:Nat)(d:Int),L[v]?=some d->0<=d->(v:Int)≠y->∃(k:Nat)(b:Bd)(f:Int),bs[k]?=some b/\fl[k]?=some f/\(b.1=v\/b.2.1=v)/\0<dJ b f v/\L[(bJ b v).toNat]?=some (d - 1)/\0<=d - 1
end
def OH{i:Int}{j}(h0:0<=i)(h1:j<(i+1).toNat)(h2:¬j<i.toNat):j=i.toNat:=by omega
def isNeg(x:Int):Bool:=decide (x<0)
structure BInv(n:Int)(bs:List Bd)(fl:List Int)(y:Int)(L q:List Int):Prop where
 len:L.length=n.toNat
 goal:L[y.toNat]?=some 0
 low:∀(v:Nat)(d:Int),L[v]?=some d -> -1<=d/\d<q.length
 qlab:∀v∈q,0<=v/\∃d,L[v.toNat]?=some d/\0<=d
 labq:∀(v:Nat)(d:Int),L[v]?=some d->0<=d->(v:Int)∈q
 count:q.length+L.countP isNeg=n.toNat
 parent:∀(v:Nat)(d:Int),L[v]?=some d->0<=d->(v:Int)≠y->∃(k:Nat)(b:Bd)(f:Int),bs[k]?=some b/\fl[k]?=some f/\(b.1=v\/b.2.1=v)/\0<dJ b f v/\L[(bJ b v).toNat]?=some (d - 1)/\0<=d - 1
def BClosed(bs:List Bd)(fl L:List Int)(t:Int)(k:Int):Prop:=∀(b:Bd)(f:Int),bs[k.toNat]?=some b->fl[k.toNat]?=some f->0<dJ b f (bJ b t)->∃e,L[(bJ b t).toNat]?=some e/\0<=e
def BClosed.mono{L L':List Int}{bs fl t k}(h:BClosed bs fl L t k)(hm:∀(v:Nat)(d:Int),L[v]?=some d->0<=d->L'[v]?=some d):BClosed bs fl L' t k:=by
 intro b f j c g;obtain⟨e,i,a⟩:=h b f j c g;exact⟨e,hm _ _ i a,a⟩
section
variable {n:Int} {bs:List Bd} {at_:List (List Int)} {fl:List Int} {y:Int}
def dC.ends(h:dC n bs at_ fl){k:Nat}{b:Bd}(hb:bs[k]?=some b)(v:Int):0<=bJ b v/\bJ b v<n:=by
 have:=h.wb _ _ hb;unfold bJ;split<;>omega
def Sx(h:dC n bs at_ fl){k:Nat}{b:Bd}(hb:bs[k]?=some b){v:Int}(hv:b.1=v\/b.2.1=v):aA (aA (b.1+b.2.1) - v)=bJ b v:=by
 have a:=h.wb _ _ hb;have c:=h.n1;have e:b.1+b.2.1 - v=bJ b v:=by
  unfold bJ;rcases hv with rfl | rfl
  ·rw[if_pos rfl];omega
  ·rw[if_neg om];omega
 rw[zv (n:=b.1+b.2.1) om om,zv om om,e]
def Ql(h:dC n bs at_ fl){L:List Int}{q b f d}(hB:BInv n bs fl y L q){k:Int}{t:Int}(hb:bs[k.toNat]?=some b)(hf:fl[k.toNat]?=some f)(ht0:0<=t)(ht:b.1=t\/b.2.1=t)(hd:L[t.toNat]?=some d)(hd0:0<=d)(hneg:∃e,L[(bJ b t).toNat]?=some e/\e<0)(hr:0<dJ b f (bJ b t)):
  BInv n bs fl y (L.set (bJ b t).toNat (d+1)) (q++[bJ b t])/\(∀(v:Nat)(i:Int),L[v]?=some i->0<=i->(L.set (bJ b t).toNat (d+1))[v]?=some i):=by
 obtain⟨e,u,w⟩:=hneg;have p:=h.ends hb t;have l:=zA u;have c:∀(v:Nat)(i:Int),L[v]?=some i->0<=i->(L.set (bJ b t).toNat (d+1))[v]?=some i:=by
  intro v i a j;rw[zN]
  ·exact a
  ·intro G;rw[G]at u;rw[u]at a;injection a;omega
 refine⟨⟨by rw[fa];exact hB.len,c _ _ hB.goal om,?_,?_,?_,?_,?_⟩,c⟩
 ·intro v i a;by_cases g:(bJ b t).toNat=v
  ·subst g;rw[zW l]at a;have:=(hB.low _ _ hd).2;injection a with a
   rw[ef];simp;omega
  ·rw[zN g]at a;have:=hB.low _ _ a;rw[ef];simp;omega
 ·intro v a;rcases fj.1 a with a | a
  ·obtain⟨C,i,r,s⟩:=hB.qlab v a;exact⟨C,i,c _ _ r s,s⟩
  ·have:v=bJ b t:=by simpa using a
   subst this;exact⟨p.1,d+1,zW l,by omega⟩
 ·intro v i a j;by_cases g:(bJ b t).toNat=v
  ·exact fj.2<|.inr so
  ·rw[zN g]at a;exact fj.2<|.inl<|hB.labq v i a j
 ·have:=tq isNeg u (by simp[isNeg,w]) (by simp[isNeg];omega:isNeg (d+1)=false);have:=hB.count;rw[ef];simp;omega
 ·intro v i a j x;by_cases g:(bJ b t).toNat=v
  ·have m:(v:Int)=bJ b t:=by omega
   subst g;rw[zW l]at a;injection a with a
   subst a;have M:=h.wb _ _ hb;have A:bJ b (bJ b t)=t:=by
    unfold bJ;rcases ht with rfl | rfl
    ·rw[if_pos rfl,if_neg om]
    ·by_cases r:b.1=b.2.1
     ·omega
     ·rw[if_neg r,if_pos rfl]
   refine⟨k.toNat,b,f,hb,hf,?_,by rw[m];exact hr,?_,by omega⟩
   ·rw[m];unfold bJ;split
    ·exact .inr rfl
    ·exact .inl rfl
   ·rw[m,A];rw[c _ _ hd hd0];congr 1;omega
  ·rw[zN g]at a;obtain⟨H,D,I,r,s,J,E,F,B⟩:=hB.parent v i a j x;exact⟨H,D,I,r,s,J,E,c _ _ F B,B⟩
def Y_(h:dC n bs at_ fl){t:Int}{al}(ht0:0<=t)(hal:at_[t.toNat]?=some al)(L0 q0:List Int)(hB0:BInv n bs fl y L0 q0)(htq:∃d,L0[t.toNat]?=some d/\0<=d):
  ∃L q,iter (uO (n,bs,at_,fl) t) (L0,q0,0,fl)=some (L,q,fl)/\BInv n bs fl y L q/\(∀(v:Nat)(d:Int),L0[v]?=some d->0<=d->L[v]?=some d)/\
   (∃r,q=q0++r)/\∀k∈al,BClosed bs fl L t k:=by
 obtain⟨b0,Q⟩:=h.amem _ _ hal;have a8:((t.toNat:Nat):Int)=t:=by omega
 have key:=zB (F:=uO (n,bs,at_,fl) t) (λs=>∃L q i,s=(L,q,i,fl)/\0<=i/\i<=al.length/\BInv n bs fl y L q/\(∀(v:Nat)(d:Int),L0[v]?=some d->0<=d->L[v]?=some d)/\(∃r,q=q0++r)/\
   ∀j k,j<i.toNat->al[j]?=some k->BClosed bs fl L t k) (λs=>(al.length - s.2.2.1).toNat)
  (λx=>∃L q,x=(L,q,fl)/\BInv n bs fl y L q/\(∀(v:Nat)(d:Int),L0[v]?=some d->0<=d->L[v]?=some d)/\(∃r,q=q0++r)/\∀k∈al,BClosed bs fl L t k) ?_
  (L0,q0,0,fl) ⟨L0,q0,0,rfl,by omega,by omega,hB0,λ_ _ h _=>h,⟨[],by simp⟩,λj k S=>by simp at S⟩
 ·obtain⟨x,hx,L,q,rfl,h1,h2,h3,h4⟩:=key;exact⟨L,q,hx,h1,h2,h3,h4⟩
 ·rintro s ⟨L,q,i,rfl,a2,b1,O,m,⟨r,hr⟩,M⟩;unfold uO;simp only[fM ht0 hal,im];by_cases D:i<al.length
  ·left;rw[if_pos (by simp[D])];obtain⟨k,hk,G⟩:=zU a2 D;have Z:k∈al:=fx G;obtain⟨R,b,E,I⟩:=(Q k).1 Z;rw[a8]at I;obtain⟨f,hf,a1,c5,c4,C⟩:=h.bond R E;have V:=Sx h E I;have N:=h.ends E t;obtain⟨e,U,p⟩:=zU (l:=L) N.1 (by rw[O.len];omega);simp only[hk,a1,im,V,Jm h R E hf,U];have g:aA (i+1)=i+1:=zv om om;have a:(∃Y,L[(bJ b t).toNat]?=some Y/\(0<=Y\/¬0<dJ b f (bJ b t)))->
     (∃s',nP t (L,q,i,fl) b b (dJ b f<|bJ b t,bJ b<|bJ b t,(n,bs,at_,fl)) false=some (.inl s')/\
      (∃L q i,s'=(L,q,i,fl)/\0<=i/\i<=al.length/\BInv n bs fl y L q/\(∀(v:Nat)(d:Int),L0[v]?=some d->0<=d->L[v]?=some d)/\(∃r,q=q0++r)/\∀j k,j<i.toNat->al[j]?=some k->BClosed bs fl L t k)/\
      (al.length - s'.2.2.1).toNat<(al.length - i).toNat):=by
    rintro⟨Y,a3,a9⟩;refine⟨_,by unfold nP qt;rfl,⟨L,q,i+1,by rw[g],by omega,by omega,O,m,⟨r,hr⟩,?_⟩,?_⟩
    ·intro j k2 S c;by_cases H:j<i.toNat
     ·exact M j k2 H c
     ·have:j=i.toNat:=by omega
      subst this;rw[G]at c;obtain rfl:=Option.some.inj c;intro b2 f2 A C P;rw[E]at A;obtain rfl:=Option.some.inj A;rw[hf]at C;obtain rfl:=Option.some.inj C;exact⟨Y,a3,a9.resolve_right (λhn=>hn P)⟩
    ·simp only[g];omega
   by_cases B:e<0
   ·rw[if_pos (by simp[B])];by_cases u:dJ b f (bJ b t)>0
    ·obtain⟨d,hd,X⟩:=htq;have J:=m _ _ hd X;have c6:=O.low _ _ J;have b3:(q.length:Int)<=n:=by have:=O.count;have:=h.n0;omega
     obtain⟨a5,w⟩:=Ql h O E hf ht0 I J X ⟨e,p,B⟩ u;have b5:=h.n1;refine⟨(L.set (bJ b t).toNat (d+1),q++[bJ b t],i+1,fl),?_,⟨_,_,i+1,rfl,by omega,by omega,a5,?_,⟨r++[bJ b t],by rw[hr,bp]⟩,?_⟩,?_⟩
     ·unfold nP qt;rw[if_pos (by simp[u])];simp only[fM ht0 J,im,V,U];rw[zv om om,cG so so];simp only[im,g]
     ·intro v d' hv T;exact w _ _ (m _ _ hv T) T
     ·intro j k2 S c;by_cases H:j<i.toNat
      ·exact(M j k2 H c).mono w
      ·have:j=i.toNat:=by omega
       subst this;rw[G]at c;obtain rfl:=Option.some.inj c;intro b2 f2 A C P;rw[E]at A;obtain rfl:=Option.some.inj A;exact⟨d+1,zW<|zA p,by omega⟩
     ·simp only[];omega
    ·have:=a ⟨e,p,.inr u⟩;simpa[u]using this
   ·rw[if_neg (by simp[B])];exact a ⟨e,p,.inl om⟩
  ·right;rw[if_neg (by simp[D])];refine⟨_,rfl,L,q,rfl,O,m,⟨r,hr⟩,λk hk=>?_⟩;obtain⟨j,S,a6⟩:=List.mem_iff_getElem.1 hk;exact M j k om (by rw[dj S,a6])
def YZ(h:dC n bs at_ fl)L0 q0(hB0:BInv n bs fl y L0 q0):
  ∃L,iter (uP (n,bs,at_,fl)) (L0,q0,0,fl)=some (L,fl)/\Dist n bs fl y L:=by
 have key:=zB (F:=uP (n,bs,at_,fl)) (λs=>∃L q i,s=(L,q,i,fl)/\0<=i/\i<=q.length/\BInv n bs fl y L q/\
   ∀(j:Nat)(t:Int),j<i.toNat->q[j]?=some t->∀(k:Nat)(b:Bd),bs[k]?=some b->(b.1=t\/b.2.1=t)->BClosed bs fl L t k) (λs=>(n - s.2.2.1).toNat)
  (λx=>∃L,x=(L,fl)/\Dist n bs fl y L) ?_ (L0,q0,0,fl) ⟨L0,q0,0,rfl,by omega,by omega,hB0,λj t H=>by simp at H⟩
 ·obtain⟨x,hx,L,rfl,Z⟩:=key;exact⟨L,hx,Z⟩
 ·rintro s ⟨L,q,i,rfl,B,U,l,J⟩;have V:(q.length:Int)<=n:=by have:=l.count;have:=h.n0;omega
  have Y:=h.n1;unfold uP;by_cases m:i<q.length
  ·left;rw[if_pos (by simp[m])];obtain⟨t,X,D⟩:=zU B m;have S:t∈q:=fx D;obtain⟨M,d,hd,u⟩:=l.qlab t S;have N:t.toNat<at_.length:=by rw[h.alen,←l.len];exact zA hd
   have I:at_[t.toNat]?=some at_[t.toNat]:=dj N;obtain⟨L',q',E,O,w,⟨r,G⟩,hc⟩:=Y_ h M I L q l ⟨d,hd,u⟩;simp only[X,im,E];have a:aA (i+1)=i+1:=zv om om;refine⟨_,rfl,⟨L',q',i+1,by rw[a],by omega,?_,O,?_⟩,?_⟩
   ·rw[G,ef];omega
   ·intro j T H g k b A c;by_cases C:j<i.toNat
    ·have:q[j]?=some T:=by
      rw[G,df om]at g;exact g
     exact(J j T C this k b A c).mono w
    ·obtain rfl:=OH B H C;rw[G,df om,D]at g;obtain rfl:=Option.some.inj g;have Q:((t.toNat:Nat):Int)=t:=bi M;have:=(h.amem _ _ I).2 k;exact hc k<|this.2 ⟨Int.natCast_nonneg k,b,by simpa using A,by rw[Q];exact c⟩
   ·simp only[a];omega
  ·right;rw[if_neg (by simp[m])];refine⟨_,rfl,L,rfl,l.len,l.goal,?_,?_,l.parent⟩
   ·intro v d hv;have:=l.low _ _ hv;omega
   ·intro k b f t d e A hf c hd u G he;have R:=l.labq t d hd u;obtain⟨j,H,P⟩:=List.mem_iff_getElem.1 R;have:=J j t om (by rw[dj H,P]) k b A c b f (by simpa using A) (by simpa using hf) G;obtain⟨e',p,hp⟩:=this;rw[he]at p;injection p with p
    omega
def Y'(h:dC n bs at_ fl):iter (uQ (n,bs,at_,fl)) ([],0)=some (List.replicate n.toNat (-1)):=by
 have key:=zB (F:=uQ (n,bs,at_,fl)) (λs=>∃i:Nat,s=(List.replicate i (-1),(i:Int))/\i<=n.toNat) (λs=>(n - s.2).toNat)
  (λx=>x=List.replicate n.toNat (-1)) ?_ ([],0) ⟨0,rfl,by omega⟩
 ·obtain⟨x,c,rfl⟩:=key;exact c
 ·rintro s ⟨i,rfl,hi⟩;have d:=h.n1;unfold uQ;by_cases a:(i:Int)<n
  ·left;rw[if_pos (by simp[a]),cG so so];refine⟨_,rfl,⟨i+1,?_,by omega⟩,?_⟩
   ·rw[zv om om,List.replicate_succ'];rfl
   ·simp only[];rw[zv om om];omega
  ·right;rw[if_neg (by simp[a])];have b:i=n.toNat:=by have:=h.n0;omega
   subst b;exact⟨_,rfl,rfl⟩
def NI(h:dC n bs at_ fl)(hy0:0<=y)(hy:y<n):∃L,rh (n,bs,at_,fl) y=some (L,n,bs,at_,fl)/\Dist n bs fl y L:=by
 have hlen:(List.replicate n.toNat (-1:Int)).length=n.toNat:=by simp
 obtain⟨z,p,b⟩:=zU (l:=List.replicate n.toNat (-1:Int)) hy0 (by rw[hlen];omega);have g:z = -1:=by
  rw[dx]at b;split at b
  ·injection b with b;exact b.symm
  ·cases b
 have c:=zA b;have i:BInv n bs fl y ((List.replicate n.toNat (-1:Int)).set y.toNat 0) [y]:=by
  refine⟨by simp,zW c,?_,?_,?_,?_,?_⟩
  ·intro v d a;by_cases e:y.toNat=v
   ·subst e;rw[zW c]at a;injection a with a;subst a;simp
   ·rw[zN e,dx]at a;split at a
    ·injection a with a;subst a;simp
    ·cases a
  ·intro v a;have:v=y:=by simpa using a
   subst this;exact⟨hy0,0,zW c,by omega⟩
  ·intro v d a hd;by_cases e:y.toNat=v
   ·simp;omega
   ·rw[zN e,dx]at a;split at a
    ·injection a with a;omega
    ·cases a
  ·have:=tq isNeg (y:=(0:Int)) b (by rw[g];rfl) rfl;have j:(List.replicate n.toNat (-1:Int)).countP isNeg=n.toNat:=by
    rw[List.countP_replicate];simp[isNeg]
   rw[j]at this;simp;omega
  ·intro v d a hd k;by_cases e:y.toNat=v
   ·omega
   ·rw[zN e,dx]at a;split at a
    ·injection a with a;omega
    ·cases a
 obtain⟨L,f,m⟩:=YZ h _ _ i;refine⟨L,?_,m⟩;unfold rh Dn Dm;rw[Y' h];simp only[im,p,f]
end
section
variable {n:Int} {bs:List Bd} {at_:List (List Int)} {fl:List Int} {x y:Int}
def Jk(h:dC n bs at_ fl){k b f f'}(hb:bs[k]?=some b)(hf:fl[k]?=some f)(h1 : -b.2.2<=f')(h2:f'<=b.2.2):dC n bs at_ (fl.set k f'):=by
 refine⟨h.n0,h.n1,h.bn,h.wb,h.alen,h.amem,by rw[fa];exact h.flen,λj c g d a=>?_⟩;by_cases e:k=j
 ·subst e;rw[zW<|zA hf]at a;rw[hb]at d;obtain rfl:=Option.some.inj d;obtain rfl:=Option.some.inj a;exact⟨h1,h2⟩
 ·rw[zN e]at a;exact h.fok _ _ _ d a
def RP(h:dC n bs at_ fl){k:Int}{v b f}(h0:0<=k)(hb:bs[k.toNat]?=some b)(hf:fl[k.toNat]?=some f)(hv:b.1=v\/b.2.1=v)(hr:0<dJ b f v):
  ∃f',xy (n,bs,at_,fl) v k=some (n,bs,at_,fl.set k.toNat f')/\dC n bs at_ (fl.set k.toNat f')/\∀S,dA S bs (fl.set k.toNat f')=dA S bs fl+(cA (S v) - cA (S (bJ b v))):=by
 obtain⟨d,a,hi,e,j,i⟩:=h.bond h0 hb;rw[a]at hf;obtain rfl:=Option.some.inj hf;have g:=h.wb _ _ hb;unfold xy;simp only[hi,im,e];unfold dJ at hr;by_cases c:b.1=v
 ·rw[if_pos c]at hr;simp only[c,decide_true,if_true];rw[zv om om];refine⟨d+1,rfl,Jk h hb a om om,λS=>?_⟩;rw[HX hb a];unfold bJ;rw[if_pos c,c];have:d+1 - d=1:=by omega
  rw[this,Int.one_mul]
 ·rw[if_neg c]at hr;simp only[c,decide_false,if_false,ba];rw[zv om om];refine⟨d - 1,rfl,Jk h hb a om om,λS=>?_⟩;rw[HX hb a];unfold bJ;rw[if_neg c,←hv.resolve_left c];have:d - 1 - d = -1:=by omega
  rw[this];omega
def Zi(h:dC n bs at_ fl){L:List Int}{x23 d}(hx:x23.1=L){fl0:List Int}(hD:Dist n bs fl0 y L){t:Int}(ht0:0<=t)(hd:L[t.toNat]?=some d)(hd0:0<d)(hsame:∀(k:Nat)(b:Bd),bs[k]?=some b->(b.1=t\/b.2.1=t)->L[(bJ b t).toNat]?=some (d - 1)->fl[k]?=fl0[k]?)(hty:t≠y):
  ∃nx a b f,iter (vh (n,bs,at_,fl0) x23 (t,fl)) ((-1),0,0,fl)=some (nx,a,fl)/\0<=a/\bs[a.toNat]?=some b/\fl[a.toNat]?=some f/\
   (b.1=t\/b.2.1=t)/\0<dJ b f t/\nx=bJ b t/\L[nx.toNat]?=some (d - 1):=by
 have p:=zA hd;have X:t.toNat<at_.length:=by rw[h.alen,←hD.len];exact p
 have w:at_[t.toNat]?=some at_[t.toNat]:=dj X;generalize at_[t.toNat]=al at w;obtain⟨a4,q⟩:=h.amem _ _ w;have I:((t.toNat:Nat):Int)=t:=bi ht0;rw[I]at q;obtain⟨v,bw,fw,J,Y,E,O,M,a8⟩:=hD.parent t.toNat d hd om (by rw[I];exact hty);rw[I]at E O M;have b8:=hD.low _ _ hd;have b0:=h.n1;let Ok:Int->Int->Prop:=λnx a=>0<=a/\∃b f,bs[a.toNat]?=some b/\fl[a.toNat]?=some f/\(b.1=t\/b.2.1=t)/\0<dJ b f t/\nx=bJ b t/\L[nx.toNat]?=some (d - 1);have key:=zB (F:=vh (n,bs,at_,fl0) x23 (t,fl)) (λs=>∃nx a i,s=(nx,a,i,fl)/\0<=i/\i<=al.length/\(nx<0\/0<=nx/\Ok nx a)/\(∀j:Nat,j<i.toNat->al[j]?=some (v:Int)->0<=nx))
  (λs=>(al.length - s.2.2.1).toNat) (λz=>∃nx a,z=(nx,a,fl)/\Ok nx a) ?_ ((-1),0,0,fl) ⟨-1,0,0,rfl,by omega,by omega,.inl om,λj U=>by simp at U⟩
 ·obtain⟨z,hz,nx,a,rfl,h0,b,f,h1,h2,h3,h4,h5,h6⟩:=key;exact⟨nx,a,b,f,hz,h0,h1,h2,h3,h4,h5,h6⟩
 ·rintro s ⟨nx,a,i,rfl,Q,a6,V,A⟩;unfold vh;simp only[fM ht0 w,im];by_cases p:i<al.length
  ·left;rw[if_pos (by simp[p])];obtain⟨k,hk,P⟩:=zU Q p;obtain⟨H,b,G,a0⟩:=(q k).1<|fx P;obtain⟨f,S,b2,c3,c2,c1⟩:=h.bond H G;have g:=h.ends G t;obtain⟨e,a3,u⟩:=zU (l:=L) g.1 (by rw[hD.len];omega);simp only[hk,im,Jm h H G S];have c:aA (i+1)=i+1:=zv om om;have r:(k=v->¬(0<dJ b f t/\e=d - 1)  \/ 0<=nx)->∃s',kq (n,bs,at_,fl0) (t,fl) (nx,a,i,fl) al k (dJ b f t,bJ b t,(n,bs,at_,fl)) false=some (.inl s')/\
     (∃nx a i,s'=(nx,a,i,fl)/\0<=i/\i<=al.length/\(nx<0\/0<=nx/\Ok nx a)/\(∀j:Nat,j<i.toNat->al[j]?=some (v:Int)->0<=nx))/\(al.length - s'.2.2.1).toNat<(al.length - i).toNat:=by
    intro a2;refine⟨_,by unfold kq qH;rfl,⟨nx,a,i+1,by rw[c],by omega,by omega,V,?_⟩,by simp only[c];omega⟩;intro j U D;by_cases R:j<i.toNat
    ·exact A j R D
    ·obtain rfl:=OH Q U R;rw[P]at D;have C:=Option.some.inj D;refine(a2 C).resolve_left (λhn=>hn ?_);subst C;simp only[bh]at G S;rw[J]at G;obtain rfl:=Option.some.inj G;have:fl[v]?=fl0[v]?:=hsame v _ J E M;rw[this,Y]at S;obtain rfl:=Option.some.inj S;rw[M]at u;exact⟨O,(Option.some.inj u).symm⟩
   by_cases m:dJ b f t>0
   ·rw[if_pos (by simp[m])];simp only[a3,fM ht0 hd,hx,im];rw[zv om om];by_cases x:e=d - 1
    ·rw[if_pos (by simp[x])];have take:∃s',kq (n,bs,at_,fl0) (t,fl) (nx,a,i,fl) al k (dJ b f t,bJ b t,(n,bs,at_,fl)) true=some (.inl s')/\
       (∃nx a i,s'=(nx,a,i,fl)/\0<=i/\i<=al.length/\(nx<0\/0<=nx/\Ok nx a)/\(∀j:Nat,j<i.toNat->al[j]?=some (v:Int)->0<=nx))/\(al.length - s'.2.2.1).toNat<(al.length - i).toNat:=by
      refine⟨(bJ b t,k,i+1,fl),?_,⟨bJ b t,k,i+1,rfl,by omega,by omega,.inr ⟨g.1,H,b,f,G,S,a0,m,rfl,by rw[u,x]⟩,λ_ _ _=>g.1⟩,by simp only[];omega⟩;unfold kq qH;simp only[if_true,fM ht0 w,im,hk,c]
     by_cases T:nx<0
     ·rw[if_pos (by simp[T])];exact take
     ·rw[if_neg (by simp[T])];by_cases B:bJ b t<nx
      ·simp only[B,decide_true];exact take
      ·simp only[B,decide_false];exact r λ_=>.inr om
    ·rw[if_neg (by simp[x])];exact r λ_=>.inl λN=>x N.2
   ·rw[if_neg (by simp[m])];exact r λ_=>.inl λN=>m N.1
  ·right;rw[if_neg (by simp[p])];refine⟨_,rfl,nx,a,rfl,?_⟩;have Z:(v:Int)∈al:=(q v).2 ⟨Int.natCast_nonneg v,bw,by simpa using J,E⟩;obtain⟨j,U,a1⟩:=List.mem_iff_getElem.1 Z;have:=A j om (by rw[dj U,a1]);rcases V with N | N
   ·omega
   ·exact N.2
def QI(h:dC n bs at_ fl){L:List Int}{x23 d}(hx:x23.1=L)(hD:Dist n bs fl y L)(hx0:0<=x)(hd:L[x.toNat]?=some d)(hd0:0<=d):
  ∃a,iter (vi (n,bs,at_,fl) y x23) (x,fl)=some a/\dC n bs at_ a/\∀S,dA S bs a=dA S bs fl+(cA (S x) - cA (S y)):=by
 have key:=zB (F:=vi (n,bs,at_,fl) y x23) (λs=>∃t g e,s=(t,g)/\0<=t/\L[t.toNat]?=some e/\0<=e/\dC n bs at_ g/\(∀S,dA S bs g=dA S bs fl+(cA (S x) - cA (S t)))/\
   ∀(k:Nat)(b:Bd)(I H:Int),bs[k]?=some b->L[b.1.toNat]?=some I->L[b.2.1.toNat]?=some H->I<=e->H<=e->g[k]?=fl[k]?)
  (λs=>((L[s.1.toNat]?).getD 0).toNat) (λz=>∃a,z=a/\dC n bs at_ a/\∀S,dA S bs a=dA S bs fl+(cA (S x) - cA (S y))) ?_
  (x,fl) ⟨x,fl,d,rfl,hx0,hd,hd0,h,λS=>by omega,λ_ _ _ _ _ _ _ _ _=>rfl⟩
 ·obtain⟨z,Y,a,ez,v,r⟩:=key;subst ez;exact⟨_,Y,v,r⟩
 ·rintro s ⟨t,g,e,rfl,E,p,J,R,C,i⟩;unfold vi;by_cases l:t=y
  ·right;subst l;rw[if_neg si];exact⟨_,rfl,g,rfl,R,C⟩
  ·left;rw[if_pos (by simp[l])];have P:((t.toNat:Nat):Int)=t:=bi E;have Q:0<e:=by
    obtain⟨k,b,f,_,_,_,_,_,h6⟩:=hD.parent t.toNat e p J (by rw[P];exact l);omega
   have u:∀(k:Nat)(b:Bd),bs[k]?=some b->(b.1=t\/b.2.1=t)->L[(bJ b t).toNat]?=some (e - 1)->g[k]?=fl[k]?:=by
    intro k b m j G;rcases j with rfl | rfl
    ·have O:bJ b b.1=b.2.1:=by unfold bJ;rw[if_pos rfl]
     rw[O]at G;exact i k b e (e - 1) m p G om om
    ·have Z:=h.wb _ _ m;have O:bJ b b.2.1=b.1:=by unfold bJ;rw[if_neg Z.2.2.2.2.1]
     rw[O]at G;exact i k b (e - 1) e m G p om om
   obtain⟨nx,w,b,f,A,N,m,hf,j,hr,B,D⟩:=Zi (fl0:=fl) (y:=y) R hx hD E p Q u l
   ·obtain⟨f',hp,M,hS⟩:=RP R N m hf j hr;have q:=h.ends m t;refine⟨(nx,g.set w.toNat f'),?_,⟨nx,_,e - 1,rfl,by rw[B];exact q.1,D,by omega,M,?_,?_⟩,?_⟩
    ·rw[A];simp only[im,DH,hp]
    ·intro S;rw[hS,C,B];omega
    ·intro k c I H T v r X V;by_cases U:w.toNat=k
     ·subst U;rw[m]at T;obtain rfl:=Option.some.inj T;rcases j with rfl | rfl
      ·rw[p]at v;injection v;omega
      ·rw[p]at r;injection r;omega
     ·rw[zN U];exact i k c I H T v r om om
    ·simp only[D,p,io];omega
def QJ(h:dC n bs at_ fl)(hx0:0<=x)(hx:x<n)(hy0:0<=y)(hy:y<n):
  (rv (n,bs,at_,fl) x y=some (false,n,bs,at_,fl)/\∃S:Int->Bool,S x=true/\S y=false/\dA S bs fl=cN S bs) \/
  ∃c,rv (n,bs,at_,fl) x y=some (true,n,bs,at_,c)/\dC n bs at_ c/\∀S,dA S bs c=dA S bs fl+(cA (S x) - cA (S y)):=by
 obtain⟨L,hs,q⟩:=NI h hy0 hy;obtain⟨d,hd,C⟩:=zU (l:=L) hx0 (by rw[q.len];omega);unfold rv;simp only[hs,im,hd];by_cases g:d<0
 ·left;rw[if_pos (by simp[g])];refine⟨rfl,λv=>decide (∃e,L[v.toNat]?=some e/\e<0),?_,?_,?_⟩
  ·simp only[decide_eq_true_eq];exact⟨d,C,g⟩
  ·simp only[decide_eq_false_iff_not];rintro⟨e,m,t⟩;rw[q.goal]at m;injection m;omega
  ·refine Nd h.flen λk b f D E=>?_;have r:=h.wb _ _ D;have H:=h.fok _ _ _ D E;have hlen:=q.len;obtain⟨B,_,j⟩:=zU (l:=L) r.1 om;obtain⟨u,_,i⟩:=zU (l:=L) r.2.2.1 om;simp only[decide_eq_true_eq,decide_eq_false_iff_not];have F:bJ b b.1=b.2.1:=by unfold bJ;rw[if_pos rfl]
   have G:bJ b b.2.1=b.1:=by unfold bJ;rw[if_neg r.2.2.2.2.1]
   refine⟨?_,?_⟩
   ·rintro⟨e,m,t⟩ p;rw[j]at m;obtain rfl:=Option.some.inj m;have A:0<=u:=by
     rcases Int.lt_or_le u 0 with h1 | h1
     ·exact absurd ⟨u,i,h1⟩ p
     ·exact h1
    have a:((b.2.1.toNat:Nat):Int)=b.2.1:=bi r.2.2.1;have:=q.closed k b f b.2.1.toNat u B D E (.inr a.symm) i A;rw[a,G]at this;rcases Int.lt_or_le 0 (dJ b f b.1)with hr | hr
    ·have:=this hr j;omega
    ·unfold dJ at hr;rw[if_pos rfl]at hr;omega
   ·rintro p ⟨e,m,t⟩;rw[i]at m;obtain rfl:=Option.some.inj m;have s:0<=B:=by
     rcases Int.lt_or_le B 0 with h1 | h1
     ·exact absurd ⟨B,j,h1⟩ p
     ·exact h1
    have a:((b.1.toNat:Nat):Int)=b.1:=bi r.1;have:=q.closed k b f b.1.toNat B u D E (.inl a.symm) j s;rw[a,F]at this;rcases Int.lt_or_le 0 (dJ b f b.2.1)with hr | hr
    ·have:=this hr i;omega
    ·unfold dJ at hr;rw[if_neg r.2.2.2.2.1]at hr;omega
 ·right;rw[if_neg (by simp[g])];obtain⟨c,w,I,hS⟩:=QI (x23:=(L,n,bs,at_,fl)) h rfl q hx0 C om;refine⟨c,?_,I,hS⟩;rw[w];rfl
def jA(bs:List Bd)(x y:Int)(v:Int):Prop:=(∀S:Int->Bool,S x=true->S y=false->v<=cN S bs)/\∃S:Int->Bool,S x=true/\S y=false/\v=cN S bs
def QP(h:dC n bs at_ fl)(hx0:0<=x)(hx:x<n)(hy0:0<=y)(hy:y<n)(hxy:x≠y)(h0:∀S,dA S bs fl=0):
  ∃v a,iter (wA x y (n,bs,at_,fl)) (0,fl)=some (v,a)/\dC n bs at_ a/\0<=v/\v<=100000000/\jA bs x y v:=by
 let S0:Int->Bool:=λv=>decide (v=x);have d:S0 x=true:=by simp[S0]
 have f:S0 y=false:=by simp[S0];omega
 have w:cN S0 bs<=100000000:=by
  have:=B_ (S:=S0) (bs:=bs) (λb D=>by
   obtain⟨k,E,t⟩:=List.mem_iff_getElem.1 D;have:=h.wb k b (by rw[dj E,t]);omega)
  have:=h.bn;omega
 have key:=zB (F:=wA x y (n,bs,at_,fl)) (λs=>∃v c,s=(v,c)/\0<=v/\dC n bs at_ c/\∀S:Int->Bool,S x=true->S y=false->dA S bs c=v)
  (λs=>(cN S0 bs - s.1).toNat) (λz=>∃v a,z=(v,a)/\dC n bs at_ a/\0<=v/\v<=100000000/\jA bs x y v) ?_
  (0,fl) ⟨0,fl,rfl,by omega,h,λS _ _=>h0 S⟩
 ·obtain⟨z,H,v,a,rfl,j,i,I,G⟩:=key;exact⟨v,a,H,j,i,I,G⟩
 ·rintro s ⟨v,c,rfl,u,q,g⟩;have m:∀S:Int->Bool,S x=true->S y=false->v<=cN S bs:=λS j i=>by rw[←g S j i];exact GU q.flen q.fok
  have C:=m S0 d f;unfold wA;rcases QJ q hx0 hx hy0 hy with⟨r,S,l,p,hS⟩ |⟨a,r,hN',hS⟩
  ·right;rw[r];refine⟨_,rfl,v,c,rfl,q,u,by omega,m,S,l,p,?_⟩;rw[←hS,g S l p]
  ·left;rw[r];have e:∀S:Int->Bool,S x=true->S y=false->dA S bs a=v+1:=λS j i=>by
    rw[hS,g S j i,j,i];simp[cA]
   have B:v+1<=cN S0 bs:=by rw[←e S0 d f];exact GU hN'.flen hN'.fok
   have A:aA (v+1)=v+1:=zv om om;refine⟨_,rfl,⟨v+1,a,by rw[A],by omega,hN',e⟩,?_⟩;simp only[A];omega
end
def un:List (List Int)->List (Int×Int×Int)->Int->Option (List (List Int))
 | t,[],_=>some t
 | t,b::bs,i=>(idx t b.1).bind λx=>(aU 8 x [i]).bind λy=>(idx (t.set b.1.toNat y) b.2.1).bind λz=>(aU 8 z [i]).bind λw=>un ((t.set b.1.toNat y).set b.2.1.toNat w) bs (i+1)
def OG(all:List (Int×Int×Int))(hlen:all.length<=100000):∀(rest:List (Int×Int×Int))(i:Nat)(t t':List (List Int)),all.drop i=rest->un t rest i=some t'->iter (oY all) ((i:Int),t)=some t'
 |[],i,t,t',hd,h=>by
  have hi:all.length<=i:=by
   have:=congrArg List.length hd;simp at this;omega
  have:t'=t:=by injection h with h;exact h.symm
  subst this;refine zy ?_;unfold oY;rw[if_neg so]
 | b::rest,i,t,t',hd,h=>by
  have hi:i<all.length:=by
   have:=congrArg List.length hd;simp at this;omega
  have g:idx all (i:Int)=some b:=by
   unfold idx;rw[if_pos om];have:all[i]?=some b:=by
    have d:(all.drop i)[0]?=some b:=by rw[hd];rfl
    rw[dh]at d;simpa using d
   simpa using this
  unfold un at h;obtain⟨x,j,h⟩:=il.1 h;obtain⟨y,f,h⟩:=il.1 h;obtain⟨z,k,h⟩:=il.1 h;obtain⟨w,e,h⟩:=il.1 h;have c:aA ((i:Int)+1)=((i+1:Nat):Int):=by rw[zv om om];omega
  have a:oY all ((i:Int),t)=some (.inl (((i+1:Nat):Int),(t.set b.1.toNat y).set b.2.1.toNat w)):=by
   unfold oY;rw[if_pos so];simp only[g,im,j,f,k,e,c]
  rw[zt a];refine OG all hlen rest (i+1) _ t' ?_ (by simpa using h);have:=congrArg (List.drop 1) hd;rw[List.drop_drop]at this;simpa[Nat.add_comm]using this
def eM(n:Int)(bs:List Bd):Prop:=∀(k:Nat)(b:Bd),bs[k]?=some b->0<=b.1/\b.1<n/\0<=b.2.1/\b.2.1<n/\b.1≠b.2.1/\0<=b.2.2/\b.2.2<=1000
def NW{n:Int}(hn:0<=n)(all:List Bd)(hw:eM n all)(hlen:all.length<=100000):∀(rest:List Bd)(i:Nat)(t:List (List Int)),all.drop i=rest->i+rest.length=all.length->t.length=n.toNat->
  (∀(v:Nat)(l:List Int),t[v]?=some l->l.length<=i/\∀k:Int,k∈l↔(0<=k/\k<i/\∃b:Bd,all[k.toNat]?=some b/\(b.1=v\/b.2.1=v)))->
  ∃t',un t rest i=some t'/\t'.length=n.toNat/\∀(v:Nat)(l:List Int),t'[v]?=some l->l.length<=100000/\∀k:Int,k∈l↔(0<=k/\∃b:Bd,all[k.toNat]?=some b/\(b.1=v\/b.2.1=v))
 |[],i,t,hd,hl,ht,hm=>by
  refine⟨t,rfl,ht,λv l d=>?_⟩;obtain⟨B,s⟩:=hm v l d;refine⟨by omega,λk=>(s k).trans ?_⟩;constructor
  ·rintro⟨y,_,h⟩;exact⟨y,h⟩
  ·rintro⟨y,b,e,h⟩;have:=zA e;simp at hl;exact⟨y,by omega,b,e,h⟩
 | b::rest,i,t,hd,hl,ht,hm=>by
  have e:all[i]?=some b:=by
   have:=congrArg (λl=>l[0]?) hd;simpa using this
  have g:=hw _ _ e;have hi:=zA e;obtain⟨x,G,m⟩:=zU (l:=t) g.1 om;obtain⟨E,r⟩:=hm _ _ m;have w:b.1.toNat≠b.2.1.toNat:=by omega
  obtain⟨z,I,j⟩:=zU (l:=t) g.2.2.1 om;obtain⟨F,p⟩:=hm _ _ j;have D:idx (t.set b.1.toNat (x++[(i:Int)])) b.2.1=some z:=fM g.2.2.1 (by rw[zN w];exact j);unfold un;rw[G];simp only[im];rw[cG so so];simp only[im,D];rw[cG so so];simp only[im];refine NW hn all hw hlen rest (i+1) _ ?_ (by simp at hl;omega) (by simp[ht]) ?_
  ·rw[←List.drop_drop,hd];rfl
  ·intro v l d;by_cases s:b.2.1.toNat=v
   ·subst s;rw[zW (by rw[fa];exact zA j)]at d;obtain rfl:=Option.some.inj d;refine⟨by simp;omega,λk=>?_⟩;rw[fj];constructor
    ·rintro(h | h)
     ·obtain⟨f,q,a⟩:=(p k).1 h;exact⟨f,by omega,a⟩
     ·have:k=i:=by simpa using h
      subst this;exact⟨by omega,by omega,b,by simpa using e,.inr om⟩
    ·rintro⟨f,q,a⟩;by_cases A:k=i
     ·right;simp[A]
     ·left;exact(p k).2 ⟨f,by omega,a⟩
   ·rw[zN s]at d;by_cases B:b.1.toNat=v
    ·subst B;rw[zW<|zA m]at d;obtain rfl:=Option.some.inj d;refine⟨by simp;omega,λk=>?_⟩;rw[fj];constructor
     ·rintro(h | h)
      ·obtain⟨f,q,a⟩:=(r k).1 h;exact⟨f,by omega,a⟩
      ·have:k=i:=by simpa using h
       subst this;exact⟨by omega,by omega,b,by simpa using e,.inl om⟩
     ·rintro⟨f,q,a⟩;by_cases A:k=i
      ·right;simp[A]
      ·left;exact(r k).2 ⟨f,by omega,a⟩
    ·rw[zN B]at d;obtain⟨f,q⟩:=hm v l d;refine⟨by omega,λk=>(q k).trans ?_⟩;constructor
     ·rintro⟨a,H,C⟩;exact⟨a,by omega,C⟩
     ·rintro⟨a,H,c,u,C⟩;refine⟨a,?_,c,u,C⟩;rcases Int.lt_or_le k i with h8 | h8
      ·exact h8
      ·have:k=i:=by omega
       subst this;simp at u;rw[e]at u;obtain rfl:=Option.some.inj u;omega
section
variable {n:Int} {bs:List Bd} {x y:Int}
def RC(hn0:0<=n)(hn1:n<=100000)(d:bs.length<=100000)(hw:eM n bs):∃at_ fl,Av n bs=some (n,bs,at_,fl)/\dC n bs at_ fl/\∀S,dA S bs fl=0:=by
 obtain⟨t',j,i,g⟩:=NW hn0 bs hw d bs 0 (List.replicate n.toNat []) si om si (by
  intro v l c;rw[dx]at c;split at c
  ·injection c with c;subst c
   refine⟨by simp,λk=>?_⟩;constructor
   ·intro h;cases h
   ·rintro⟨p,m,_⟩;omega
  ·cases c)
 refine⟨t',List.replicate bs.length 0,?_,⟨hn0,hn1,d,hw,i,g,by simp,?_⟩,λS=>Of⟩
 ·unfold Av;rw[iW hn0 om om,iW om om om];simp only[im,bh];have e:iter (oY bs) (0,List.replicate n.toNat [])=some t':=OG bs d bs 0 _ t' si j;rw[e];rfl
 ·intro k b f d a;rw[dx]at a;have:=hw _ _ d;split at a
  ·injection a with a;subst a;omega
  ·cases a
def QO(hn1:n<=100000)(hb:bs.length<=100000)(hw:eM n bs)(hx0:0<=x)(hx:x<n)(hy0:0<=y)(hy:y<n)(hxy:x≠y):
  ∃v at_ fl,z' n bs x y=some ((n,bs,at_,fl),v)/\dC n bs at_ fl/\0<=v/\v<=100000000/\jA bs x y v:=by
 obtain⟨at_,fl,b,i,g⟩:=RC om hn1 hb hw;obtain⟨v,d,a,c,f,e,h⟩:=QP i hx0 hx hy0 hy hxy g;refine⟨v,at_,d,?_,c,f,e,h⟩;unfold z' FD;rw[b];simp only[im];rw[a];rfl
def PN{at_ fl}(h:dC n bs at_ fl)(hy0:0<=y)(hy:y<n):∃p,xx (n,bs,at_,fl) y=some (p,n,bs,at_,fl)/\p.length<=100000:=by
 obtain⟨L,hs,g⟩:=NI h hy0 hy;have f:=h.n1;have hlen:=g.len;have key:=zB (F:=CU (n,bs,at_,fl) (L,n,bs,at_,fl)) (λs=>0<=s.2/\s.2<=n/\s.1.length<=s.2.toNat) (λs=>(n - s.2).toNat) (λp=>p.length<=100000) ?_ ([],0) ⟨by omega,by omega,by simp⟩
 ·obtain⟨p,hp,e⟩:=key;refine⟨p,?_,e⟩;unfold xx DG;rw[hs];simp only[im,hp]
 ·rintro⟨p,i⟩ ⟨hi0,hi1,e⟩;simp only at hi0 hi1 e;unfold CU vS;by_cases b:i<n
  ·left;rw[if_pos (by simp[b])];obtain⟨d,hd,_⟩:=zU (l:=L) hi0 om;simp only[hd,im];have a:aA (i+1)=i+1:=zv om om;by_cases c:d≥0
   ·rw[if_pos (by simp[c]),cG so so];refine⟨_,rfl,⟨by simp only[a];omega,by simp only[a];omega,?_⟩,by simp only[a];omega⟩;simp only[a,ef,eh,eu];omega
   ·rw[if_neg (by simp[c])];exact⟨_,rfl,⟨by simp only[a];omega,by simp only[a];omega,by simp only[a];omega⟩,by simp only[a];omega⟩
  ·right;rw[if_neg (by simp[b])];exact⟨_,rfl,by simp only[];omega⟩
def ZN v w(p q:List Int)(hp:p.length<=100000):∃b,yx v p w q=some b/\(v<w->b=true)/\(w<v->b=false):=by
 unfold yx;by_cases f:v=w
 ·rw[if_neg (by simp[f])];by_cases j:p.length=q.length
  ·rw[if_neg (by simp[j])];have key:=zB (F:=Dr p q) (λi=>0<=i/\i<=p.length) (λi=>(p.length - i).toNat) (λ_=>True) ?_ 0 ⟨by omega,by omega⟩
   ·obtain⟨z,m,_⟩:=key;rw[m];cases z with
    | inl z=>exact⟨false,rfl,by omega,by omega⟩
    | inr z=>exact⟨z,rfl,by omega,by omega⟩
   ·rintro i ⟨e,g⟩;unfold Dr;by_cases c:i<p.length
    ·rw[if_pos (by simp[c])];obtain⟨a,h,_⟩:=zU (l:=p) e c;obtain⟨b,k,_⟩:=zU (l:=q) e om;simp only[h,k,im];by_cases d:a=b
     ·left;rw[if_neg (by simp[d]),zv om om];exact⟨_,rfl,⟨by omega,by omega⟩,by omega⟩
     ·right;rw[if_pos (by simp[d])];exact⟨_,rfl,trivial⟩
    ·right;rw[if_neg (by simp[c])];exact⟨_,rfl,trivial⟩
  ·rw[if_pos so];exact⟨_,rfl,by omega,by omega⟩
 ·rw[if_pos (by simp[f])];exact⟨_,rfl,by simp,by simp;omega⟩
def Holds(n:Int)(bs:List Bd)(t:Int):Prop:=∀S:Int->Bool,S 0=true->(∃y,1<=y/\y<n/\S y=false)->t<=cN S bs
def YK(hn2:2<=n)(hn1:n<=100000)(hb:bs.length<=100000)(hw:eM n bs):∃v p,yc n bs=some (v,p)/\∀t,t<=v↔Holds n bs t:=by
 have key:=zB (F:=Db n bs)
  (λs=>1<=s.2.2/\s.2.2<=n/\s.2.1.length<=100000/\(s.2.2=1/\s.1 = -1\/1<s.2.2/\0<=s.1/\(∃y,1<=y/\y<s.2.2/\jA bs 0 y s.1)/\∀y,1<=y->y<s.2.2->∃v,jA bs 0 y v/\s.1<=v))
  (λs=>(n - s.2.2).toNat) (λz=>(∃y,1<=y/\y<n/\jA bs 0 y z.1)/\∀y,1<=y->y<n->∃v,jA bs 0 y v/\z.1<=v) ?_ ((-1),[],1) ⟨by show(1:Int)<=1;omega,by show(1:Int)<=n;omega,by simp,.inl ⟨rfl,rfl⟩⟩
 ·obtain⟨⟨v,p⟩,M,⟨y,f,k,hm⟩,w⟩:=key;refine⟨v,p,?_,λt=>⟨λht S hS0 ⟨z,c,d,hSz⟩=>?_,λO=>?_⟩⟩
  ·unfold yc Eg;rw[M];rfl
  ·obtain⟨u,G,g⟩:=w z c d;have:=G.1 S hS0 hSz;simp only at g;omega
  ·obtain⟨S,l,j,A⟩:=hm.2;have:=O S l ⟨y,f,k,j⟩;simp only at A;omega
 ·rintro⟨a,part,y⟩ ⟨f,k,hpl,hor⟩;simp only at f k hpl hor;unfold Db;by_cases e:y<n
  ·left;rw[if_pos (by simp[e])];obtain⟨v,at_,fl,N,P,D,L,hm⟩:=QO (x:=0) (y:=y) hn1 hb hw om om om e om;obtain⟨p,hp,i⟩:=PN (y:=y) P om e;simp only[N,hp,im];have r:aA (y+1)=y+1:=zv om om;have take:(s1:a<0\/v<=a)->∃s',mj (a,part,y) ((n,bs,at_,fl),v) (p,n,bs,at_,fl) true=some (.inl s')/\
     (1<=s'.2.2/\s'.2.2<=n/\s'.2.1.length<=100000/\(s'.2.2=1/\s'.1 = -1\/1<s'.2.2/\0<=s'.1/\(∃y,1<=y/\y<s'.2.2/\jA bs 0 y s'.1)/\∀y,1<=y->y<s'.2.2->∃v,jA bs 0 y v/\s'.1<=v))/\(n - s'.2.2).toNat<(n - y).toNat:=by
    intro g;refine⟨(v,p,y+1),by unfold mj rk;simp[r],⟨by simp only[];omega,by simp only[];omega,i,.inr ⟨by simp only[];omega,D,⟨y,f,by simp only[];omega,hm⟩,?_⟩⟩,by simp only[];omega⟩;intro z c d;simp only at d;by_cases m:z=y
    ·subst m;exact⟨v,hm,by simp only[];omega⟩
    ·rcases hor with⟨l,j⟩ |⟨l,j,A,h4⟩
     ·omega
     ·obtain⟨u,G,J⟩:=h4 z c om;exact⟨u,G,by simp only[];omega⟩
   have keep:0<=a->a<=v->∃s',mj (a,part,y) ((n,bs,at_,fl),v) (p,n,bs,at_,fl) false=some (.inl s')/\
     (1<=s'.2.2/\s'.2.2<=n/\s'.2.1.length<=100000/\(s'.2.2=1/\s'.1 = -1\/1<s'.2.2/\0<=s'.1/\(∃y,1<=y/\y<s'.2.2/\jA bs 0 y s'.1)/\∀y,1<=y->y<s'.2.2->∃v,jA bs 0 y v/\s'.1<=v))/\(n - s'.2.2).toNat<(n - y).toNat:=by
    intro C g;rcases hor with⟨l,j⟩ |⟨l,j,⟨y',h5,h6,h7⟩,h4⟩
    ·omega
    ·refine⟨(a,part,y+1),by unfold mj rk;simp[r],⟨by simp only[];omega,by simp only[];omega,hpl,.inr ⟨by simp only[];omega,C,⟨y',h5,by simp only[];omega,h7⟩,?_⟩⟩,by simp only[];omega⟩;intro z c d;simp only at d;by_cases m:z=y
     ·subst m;exact⟨v,hm,g⟩
     ·exact h4 z c om
   by_cases q:a<0
   ·rw[if_pos (by simp[q])];exact take<|.inl q
   ·rw[if_neg (by simp[q])];obtain⟨b,E,I,H⟩:=ZN v a p part i;simp only[E,im];cases b with
    | true=>exact take<|.inr (by
      rcases Int.lt_or_le a v with h | h
      ·have:=H h;cases this
      ·exact h)
    | false=>exact keep om (by
      rcases Int.lt_or_le v a with h | h
      ·have:=I h;cases this
      ·exact h)
  ·right;rw[if_neg (by simp[e])];refine⟨_,rfl,?_⟩;have B:y=n:=by omega
   subst B;rcases hor with⟨l,j⟩ |⟨l,j,A,h4⟩
   ·omega
   ·exact⟨A,h4⟩
end
def b_:Nat->(Nat->Int)->Int
 | 0,_=>0
 | n+1,f=>b_ n f+f n
def jd{f g:Nat->Int}:∀{n:Nat},(∀i,i<n->f i=g i)->b_ n f=b_ n g
 | 0,_=>rfl
 | n+1,h=>by
  unfold b_;rw[jd (n:=n) λi hi=>h i om,h n om]
def Bb(f g:Nat->Int):∀(n:Nat),b_ n (λi=>f i+g i)=b_ n f+b_ n g
 | 0=>rfl
 | n+1=>by
  unfold b_;rw[Bb f g n];simp only[Int.add_assoc,Int.add_left_comm,Int.add_comm]
def AQ:∀(n:Nat),b_ n (λ_=>0)=0
 | 0=>rfl
 | n+1=>by unfold b_;rw[AQ n];rfl
def HT(f:Nat->Int):∀(n:Nat),b_ n (λi => - f i) = - b_ n f
 | 0=>rfl
 | n+1=>by unfold b_;rw[HT f n];show - b_ n f + - f n = - (b_ n f+f n);omega
def Ih{f g:Nat->Int}:∀{n:Nat},(∀i,i<n->f i<=g i)->b_ n f<=b_ n g
 | 0,_=>Int.le_refl _
 | n+1,h=>by
  unfold b_;have a:=Ih (n:=n) λi hi=>h i om;have b:=h n om;omega
def NV(f:Nat->Nat->Int)m:∀(n:Nat),b_ n (λi=>b_ m (λj=>f i j))=b_ m (λj=>b_ n (λi=>f i j))
 | 0=>by
  show(0:Int)=b_ m (λ_=>0);rw[AQ]
 | n+1=>by
  show b_ n (λi=>b_ m (λj=>f i j))+b_ m (λj=>f n j)=b_ m (λj=>b_ n (λi=>f i j)+f n j);rw[NV f m n,Bb]
def HS{f g:Nat->Int}{a d}:∀{n:Nat},a<n->(∀i,i<n->i≠a->g i=f i)->g a=f a+d->b_ n g=b_ n f+d
 | 0,h,_,_=>by omega
 | n+1,h,he,ha=>by
  unfold b_;by_cases b:a=n
  ·subst b;rw[jd (f:=g) (g:=f) λi hi=>he i om om,ha];omega
  ·rw[HS (n:=n) om (λi hi=>he i om) ha,he n om om];omega
def ee(n:Nat)(S:Int->Bool)(F:Nat->Nat->Int):Int:=b_ n λu=>b_ n λv=>cA (S u)*F u v
def eF(n:Nat)(S:Int->Bool)(R:Nat->Nat->Int):Int:=b_ n λu=>b_ n λv=>cA (S u)*(1 - cA (S v))*R u v
def Oc{S:Int->Bool}{F:Nat->Nat->Int}{n}(ha:∀u v,u<n->v<n->F u v = - F v u):ee n S F=eF n S F:=by
 obtain⟨T,a⟩:∃T,T=b_ n λu=>b_ n λv=>cA (S u)*cA (S v)*F u v:=⟨_,rfl⟩;have e:ee n S F=eF n S F+T:=by
  unfold ee eF;rw[a,←Bb];refine jd λu c=>?_;rw[←Bb];refine jd λv b=>?_;rw[Int.mul_sub,Int.sub_mul,Int.mul_one];omega
 have d:T = - T:=by
  calc T=b_ n λv=>b_ n λu=>cA (S u)*cA (S v)*F u v:=by rw[a,NV]
   _=b_ n λv => - b_ n λu=>cA (S v)*cA (S u)*F v u:=by
     refine jd λv b=>?_;rw[←HT];refine jd λu c=>?_;rw[ha u v c b,Int.mul_neg,Int.mul_comm<|cA<|S u]
   _ = - T:=by rw[HT,←a]
 omega
def R_{S:Int->Bool}{F R:Nat->Nat->Int}{n}(h:∀u v,u<n->v<n->F u v<=R u v):eF n S F<=eF n S R:=by
 refine Ih λu b=>Ih λv a=>?_;have:=h u v b a;unfold cA;split<;>split<;>omega
def Sa{S:Int->Bool}{F R:Nat->Nat->Int}{n}(h:∀u v:Nat,u<n->v<n->S u=true->S v=false->F u v=R u v):eF n S F=eF n S R:=by
 refine jd λu b=>jd λv a=>?_;have:=h u v b a;unfold cA;cases hS:S u<;>cases hV:S v<;>simp[hS,hV]at this ⊢;exact this
def Bo{c:Nat->Nat->Int}{F G:Nat->Nat->Int}{n a b d}(ha:a<n)(hb:b<n)(he:∀u v,u<n->v<n->(u≠a\/v≠b)->G u v=F u v)(h:G a b=F a b+d):
  (b_ n λu=>b_ n λv=>c u v*G u v)=(b_ n λu=>b_ n λv=>c u v*F u v)+c a b*d:=by
 refine HS ha (λu g e=>jd λv f=>by rw[he u v g f<|.inl e]) ?_;refine HS hb (λv f e=>by rw[he a v ha f<|.inr e]) ?_;rw[h,Int.mul_add]
def aV(F:List (List Int))(u v:Nat):Int:=((F[u]?.getD [])[v]?).getD 0
structure Sq(n:Nat)(F:List (List Int)):Prop where
 len:F.length=n
 row:∀(u:Nat)(r:List Int),F[u]?=some r->r.length=n
section
variable {n:Nat} {F:List (List Int)}
def Sq.get(h:Sq n F){u v}(hu:u<n)(hv:v<n):∃r,F[u]?=some r/\r.length=n/\r[v]?=some (aV F u v):=by
 have b:u<F.length:=by rw[h.len];exact hu
 have a:F[u]?=some F[u]:=dj b;have c:=h.row u _ a;refine⟨F[u],a,c,?_⟩;unfold aV;rw[a];simp only[io];rw[dj om];rfl
def Sq.idx(h:Sq n F){u v:Int}(hu0:0<=u)(hu:u<n)(hv0:0<=v)(hv:v<n):∃r,idx F u=some r/\r.length=n/\F[u.toNat]?=some r/\Lf.idx r v=some (aV F u.toNat v.toNat):=by
 obtain⟨r,a,b,c⟩:=h.get (u:=u.toNat) (v:=v.toNat) om om;exact⟨r,fM hu0 a,b,a,fM hv0 c⟩
def Sq.set(h:Sq n F){v:Nat}{r:List Int}{e:Int}{u}(hr:F[u]?=some r)(hv:v<n):Sq n (F.set u (r.set v e))/\∀i j,aV (F.set u (r.set v e)) i j=if i=u/\j=v then e else aV F i j:=by
 have d:=zA hr;have c:=h.row u r hr;refine⟨⟨by rw[fa];exact h.len,λi x a=>?_⟩,λi j=>?_⟩
 ·by_cases hi:u=i
  ·subst hi;rw[zW d]at a;injection a with a
   rw[←a,fa];exact c
  ·rw[zN hi]at a;exact h.row i x a
 ·unfold aV;by_cases hi:u=i
  ·subst hi;rw[zW d,hr];simp only[io,true_and];by_cases b:v=j
   ·subst b;rw[zW om,if_pos rfl];rfl
   ·rw[zN b,if_neg (λe=>b e.symm)]
  ·rw[zN hi,if_neg (λe=>hi e.1.symm)]
end
def Bx{n:Int}(h0:0<=n)(h1:n<=100000):cZ 8 n (0:Int)=some (List.replicate n.toNat 0):=iW h0 om om
def SD n:Sq n (List.replicate n (List.replicate n 0))/\∀u v,aV (List.replicate n (List.replicate n 0)) u v=0:=by
 refine⟨⟨by simp,λu r b=>?_⟩,λu v=>?_⟩
 ·have:=dx (a:=List.replicate n (0:Int)) (n:=n) (i:=u);rw[this]at b;split at b
  ·injection b with b;rw[←b];simp
  ·cases b
 ·unfold aV;rw[dx];split
  ·simp only[io];rw[dx];split<;>rfl
  ·simp
section
variable {n:Int} {bs:List Bd}
def XS(h0:0<=n)(h1:n<=1000):iter (wr n) (0,[],[])=some (List.replicate n.toNat (List.replicate n.toNat 0),List.replicate n.toNat (List.replicate n.toNat 0)):=by
 have key:=zB (F:=wr n)
  (λs=>0<=s.1/\s.1<=n/\s.2.1=List.replicate s.1.toNat (List.replicate n.toNat 0)/\s.2.2=List.replicate s.1.toNat (List.replicate n.toNat 0)) (λs=>(n - s.1).toNat)
  (λz=>z=(List.replicate n.toNat<|List.replicate n.toNat 0,List.replicate n.toNat<|List.replicate n.toNat 0)) ?_ (0,[],[]) ⟨by simp,h0,by simp,by simp⟩
 ·obtain⟨z,e,rfl⟩:=key;exact e
 ·rintro⟨i,A,B⟩ ⟨hi0,hi1,hA,hB⟩;simp only at hi0 hi1 hA hB;unfold wr;by_cases b:i<n
  ·left;have c:∀X,X=List.replicate i.toNat (List.replicate n.toNat (0:Int))->aU 24 X [List.replicate n.toNat 0]=some (List.replicate (i+1).toNat<|List.replicate n.toNat 0):=by
    intro X d;have hlen:X.length=i.toNat:=by rw[d];simp
    rw[cG (by rw[hlen];simp;omega) (by rw[hlen];simp;omega),d];have:(i+1).toNat=i.toNat+1:=by omega
    rw[this,List.replicate_succ']
   simp only[b,decide_true,if_true,Bx h0 om,im,c A hA,c B hB];have a:aA (i+1)=i+1:=zv om om;exact⟨_,rfl,⟨by simp only[a];omega,by simp only[a];omega,by simp only[a],by simp only[a]⟩,by simp only[a];omega⟩
  ·right;simp only[b,decide_false];have:i=n:=by omega
   subst this;exact⟨_,rfl,by rw[hA,hB]⟩
def Qx{S:Int->Bool}{R R1 R2:Nat->Nat->Int}{a b:Nat}{d:Int}{m}(ha:a<m)(hb:b<m)(hab:a≠b)(h1:∀u v,R1 u v=if u=a/\v=b then R a b+d else R u v)(h2:∀u v,R2 u v=if u=b/\v=a then R1 b a+d else R1 u v):
  eF m S R2=eF m S R+(if S a=S b then 0 else d):=by
 unfold eF;rw[Bo (c:=λu v=>cA (S u)*(1 - cA (S v))) (F:=R1) (G:=R2) hb ha (d:=d) (λu v _ _ e=>by rw[h2,if_neg om]) (by rw[h2,if_pos ⟨rfl,rfl⟩]),
  Bo (c:=λu v=>cA (S u)*(1 - cA (S v))) (F:=R) (G:=R1) ha hb (d:=d) (λu v _ _ e=>by rw[h1,if_neg om]) (by rw[h1,if_pos ⟨rfl,rfl⟩])]
 unfold cA;cases S a<;>cases S b<;>simp
def Xr(h0:0<=n)(h1:n<=1000)(hb:bs.length<=100000)(hw:eM n bs)(A:List (List Int))(hA:Sq n.toNat A)(hA0:∀u v,aV A u v=0):
  ∃R,iter (wq bs) (0,A)=some R/\Sq n.toNat R/\(∀u v,0<=aV R u v/\aV R u v<=2000*bs.length)/\∀S,eF n.toNat S (aV R)=cN S bs:=by
 have key:=zB (F:=wq bs)
  (λs=>0<=s.1/\s.1<=bs.length/\Sq n.toNat s.2/\(∀u v,0<=aV s.2 u v/\aV s.2 u v<=2000*s.1)/\∀S,eF n.toNat S (aV s.2)=cN S (bs.take s.1.toNat)) (λs=>(bs.length - s.1).toNat)
  (λR=>Sq n.toNat R/\(∀u v,0<=aV R u v/\aV R u v<=2000*bs.length)/\∀S,eF n.toNat S (aV R)=cN S bs) ?_ (0,A) ⟨by simp,by simp,hA,λu v=>by rw[hA0];simp,λS=>?_⟩
 ·exact key
 ·rintro⟨i,A⟩ ⟨hi0,hi1,hA,hbd,hc⟩;simp only at hi0 hi1 hA hbd hc;unfold wq;by_cases h:i<bs.length
  ·left;obtain⟨⟨x,y,s⟩,C,t⟩:=zU (l:=bs) hi0 h;obtain⟨w1,w2,D,O,U,Q,T⟩:=hw _ _ t;simp only at w1 w2 D O U Q T;obtain⟨r,Y,g2,g3,X⟩:=hA.idx (u:=x) (v:=y) w1 om D om;obtain⟨q,p⟩:=hA.set (e:=aV A x.toNat y.toNat+s) g3 (v:=y.toNat) om;obtain⟨P,k1,k2,k3,N⟩:=q.idx (u:=y) (v:=x) D om w1 om;have a2:=hbd x.toNat y.toNat;have w:aV (A.set x.toNat<|r.set y.toNat<|aV A x.toNat y.toNat+s) y.toNat x.toNat=aV A y.toNat x.toNat:=by rw[p,if_neg om]
   have a0:=hbd y.toNat x.toNat;rw[w]at N;obtain⟨J,B⟩:=q.set (e:=aV A y.toNat x.toNat+s) k3 (v:=x.toNat) om;have L:aA (aV A x.toNat y.toNat+s)=aV A x.toNat y.toNat+s:=zv om om;have I:aA (aV A y.toNat x.toNat+s)=aV A y.toNat x.toNat+s:=zv om om;have G:aA (i+1)=i+1:=zv om om;simp only[h,decide_true,if_true,C,im,Y,X,L,k1,N,I,G];refine⟨_,rfl,⟨by simp only[];omega,by simp only[];omega,J,λu v=>?_,λS=>?_⟩,by simp only[];omega⟩
   ·simp only;rw[B];split
    ·omega
    ·rw[p];split
     ·omega
     ·have:=hbd u v;omega
   ·simp only;have H:(i+1).toNat=i.toNat+1:=by omega
    have E:bs.take (i+1).toNat=bs.take i.toNat++[(x,y,s)]:=by
     rw[H,gl,t];rfl
    rw[E];have j:∀(l:List Bd)(b:Bd),cN S (l++[b])=cN S l+(if S b.1=S b.2.1 then 0 else b.2.2):=by
     intro l b
     induction l with
     | nil=>simp[cN]
     | cons c l ih=>simp only[List.cons_append,cN,ih];omega
    rw[j,←hc S];have hx:((x.toNat:Nat):Int)=x:=by omega
    have Z:((y.toNat:Nat):Int)=y:=by omega
    have:=Qx (m:=n.toNat) (S:=S) (R:=aV A) (R1:=aV<|A.set x.toNat<|r.set y.toNat<|aV A x.toNat y.toNat+s) (a:=x.toNat) (b:=y.toNat) (d:=s) om om om p (R2:=aV<|(A.set x.toNat<|r.set y.toNat<|aV A x.toNat y.toNat+s).set y.toNat<|P.set x.toNat<|aV A y.toNat x.toNat+s) (by intro u v;rw[B,w]);rw[hx,Z]at this;exact this
  ·right;simp only[h,decide_false];have:i=bs.length:=by omega
   refine⟨_,rfl,hA,λu v=>by rw[←this];exact hbd u v,λS=>?_⟩;rw[hc S,this];simp
 ·simp only[cN,List.take_zero,Int.toNat_zero];unfold eF;have M:∀(k:Nat)(f:Nat->Int),(∀i,f i=0)->b_ k f=0:=λk f V=>by
   rw[jd (g:=λ_=>0) λi _=>V i,AQ]
  refine M _ _ λu=>M _ _ λv=>by rw[hA0];simp
def XR(h0:0<=n)(h1:n<=1000)(hb:bs.length<=100000)(hw:eM n bs):
  ∃R F,yE n bs=some (R,F)/\Sq n.toNat R/\Sq n.toNat F/\(∀u v,aV F u v=0)/\(∀u v,0<=aV R u v/\aV R u v<=2000*bs.length)/\∀S,eF n.toNat S (aV R)=cN S bs:=by
 obtain⟨b,a⟩:=SD n.toNat;obtain⟨R,e,c,f,d⟩:=Xr h0 h1 hb hw _ b a;refine⟨R,_,?_,c,b,a,f,d⟩;unfold yE Fs Fq;rw[XS h0 h1];simp only[im];rw[e];rfl
end
def kZ{α:Type}(Q:List α):Prop:=∀(i j:Nat)(x:α),Q[i]?=some x->Q[j]?=some x->i=j
def kZ.snoc{α:Type}{Q:List α}{x:α}(h:kZ Q)(hx:x∉Q):kZ (Q++[x]):=by
 intro i j y hi l;have key:∀k:Nat,(Q++[x])[k]?=some y->(k<Q.length/\Q[k]?=some y)\/(k=Q.length/\y=x):=by
  intro k e;by_cases f:k<Q.length
  ·rw[df f]at e;exact .inl ⟨f,e⟩
  ·rw[dg om]at e;have g:=zA e;simp at g;have:k=Q.length:=by omega
   subst this;simp at e;exact .inr ⟨rfl,e.symm⟩
 rcases key i hi with⟨a,b⟩ |⟨a,b⟩<;>rcases key j l with⟨c,d⟩ |⟨c,d⟩
 ·exact h i j y b d
 ·exact absurd (d▸fx b:x∈Q) hx
 ·exact absurd (b▸fx d:x∈Q) hx
 ·omega
def Jf{α:Type}{l l2:List α}{lo:Nat}(h:lo<=l.length)j:(eI l lo l2)[j]?=if j<lo then l[j]? else if j - lo<min l2.length (l.length - lo)then l2[j - lo]? else l[j]?:=by
 unfold eI;have a:(l.take lo).length=lo:=by rw[fd];omega
 have b:(l2.take<|l.length - lo).length=min l2.length (l.length - lo):=by rw[fd];omega
 split
 ·rename_i hj;rw[df (by rw[ef,a];omega),df om,ec,if_pos hj]
 ·split
  ·rename_i hj hk;rw[df (by rw[ef,a,b];omega),dg om,a,ec,if_pos om]
  ·rename_i hj hk;rw[dg (by rw[ef,a,b];omega),ef,a,b,dh];congr 1;omega
def YT{n:Int}(i:1<=n)(b:n<=100000):xd [(-1)] n=some (List.replicate n.toNat (-1)):=by
 unfold xd;rw[if_neg so];have e:IntKind.wrap .u64 (([(-1:Int)].length:Nat):Int)=1:=by decide
 have q:IntKind.wrap .u64 n=n:=by
  have:∀m:Int,0<=m->m<18446744073709551616->IntKind.wrap .u64 m=m:=by
   intro m i b;show m % 18446744073709551616=m;omega
  exact this n om om
 rw[e,q];have f:sP 1 n=some (0,n):=by
  unfold sP;rw[if_pos om];simp;omega
 rw[f];simp only[im];rw[if_neg si];unfold v_;have hd:decide (n>9223372036854775807)=false:=by simp;omega
 rw[hd];simp only[zv (n:=n) om om,Bx (n:=n) om b,im];have key:=zB (F:=CV) (λs=>s.1.length=n.toNat/\1<=s.2/\s.2<=n/\∀j:Nat,j<s.2.toNat->s.1[j]?=some (-1)) (λs=>(n - s.2).toNat) (λz=>z=List.replicate n.toNat (-1)) ?_
  (eI (List.replicate n.toNat 0) 0 [-1],((min [(-1:Int)].length (List.replicate n.toNat (0:Int)).length:Nat):Int)) ?_
 ·obtain⟨z,r,rfl⟩:=key;rw[r];rfl
 ·rintro⟨l,k⟩ ⟨hl,hk0,hk1,hall⟩;simp only at hl hk0 hk1 hall;unfold CV;by_cases a:k<(l.length:Int)
  ·left;have p:dR l k l.length=some ((l.take (l.length:Int).toNat).drop k.toNat):=by unfold dR;rw[if_pos ⟨by omega,by omega,by omega⟩]
   have g:dR l 0 k=some ((l.take k.toNat).drop (0:Int).toNat):=by unfold dR;rw[if_pos ⟨by omega,by omega,by omega⟩]
   simp only[a,decide_true,if_true,p,g,im];have hlen:((l.take k.toNat).drop (0:Int).toNat).length=k.toNat:=by
    rw[ek,fd];simp;omega
   rw[hlen];have d:aA (k+((min k.toNat (l.length - k.toNat):Nat):Int))=k+((min k.toNat (l.length - k.toNat):Nat):Int):=zv om om;rw[d];refine⟨_,rfl,⟨?_,by simp only[];omega,by simp only[];omega,?_⟩,by simp only[];omega⟩
   ·simp only;rw[Ix om];exact hl
   ·intro j c;simp only at c ⊢;rw[Jf om];split
    ·rename_i h;exact hall j h
    ·split
     ·rename_i b h2;rw[dh,ec];simp only[Int.toNat_zero,ik];rw[if_pos om];exact hall _ om
     ·rename_i b h2;rw[hlen]at h2;omega
  ·right;simp only[a,decide_false];refine⟨_,rfl,?_⟩;apply ce;intro j;rw[dx];split
   ·exact hall j om
   ·exact dl om
 ·have hm:((min [(-1:Int)].length (List.replicate n.toNat (0:Int)).length:Nat):Int)=1:=by simp;omega
  refine⟨by simp only[];rw[Ix si];simp,by simp only[hm];omega,by simp only[hm];omega,λj c=>?_⟩;simp only[hm]at c;have:j=0:=by omega
  subst this;simp only;rw[Jf si,if_neg om,if_pos so];rfl
def Fr(R F:List (List Int))(u v:Int):Prop:=aV F u.toNat v.toNat<aV R u.toNat v.toNat
section
variable {n:Nat} {R F:List (List Int)}
def RD(hR:Sq n R)(hF:Sq n F){u v:Int}(hu0:0<=u)(hu:u<n)(hv0:0<=v)(hv:v<n):∃b,wU (R,F) u v=some b/\(b=true↔Fr R F u v):=by
 obtain⟨r,c,e,g,a⟩:=hR.idx hu0 hu hv0 hv;obtain⟨f,k1,k2,k3,d⟩:=hF.idx hu0 hu hv0 hv;unfold wU;simp only[c,a,k1,d,im];exact⟨_,rfl,by unfold Fr;simp⟩
structure WInv(n:Nat)(R F:List (List Int))(a:Int)(par Q:List Int)(k:Nat):Prop where
 len:par.length=n
 inj:kZ Q
 hd:Q[0]?=some a
 kle:k<=Q.length
 rng:∀x∈Q,0<=x/\x<n
 neg:Q.length+par.countP isNeg=n
 mem:∀(v:Nat)(p:Int),par[v]?=some p->((v:Int)∈Q↔0<=p)
 src:∀(i:Nat)(x:Int),Q[i]?=some x->i≠0->∃(j:Nat)(p:Int),j<i/\Q[j]?=some p/\par[x.toNat]?=some p/\Fr R F p x
 cls:∀(j:Nat)(u:Int),j<k->Q[j]?=some u->∀v:Nat,v<n->Fr R F u v->(v:Int)∈Q
variable {a b:Int} {par Q:List Int} {k:Nat}
def PC(hn:n<=1000)(hR:Sq n R)(hF:Sq n F)(h:WInv n R F a par Q k){u:Int}(hu:Q[k]?=some u)(rest:List Int):
  ∃par' I,iter (vn (R,F) (u,rest)) (par,0,Q.drop (k+1))=some (par',I)/\∃Q',WInv n R F a par' Q' (k+1)/\I=Q'.drop (k+1):=by
 have t:=h.rng u<|fx hu;have key:=zB (F:=vn (R,F) (u,rest))
  (λs=>0<=s.2.1/\s.2.1<=n/\∃Q',WInv n R F a s.1 Q' k/\s.2.2=Q'.drop (k+1)/\Q'[k]?=some u/\∀v:Nat,(v:Int)<s.2.1->Fr R F u v->(v:Int)∈Q')
  (λs=>(n - s.2.1).toNat) (λz=>∃Q',WInv n R F a z.1 Q' (k+1)/\z.2=Q'.drop (k+1)) ?_ (par,0,Q.drop (k+1)) ⟨by simp,by simp,Q,h,rfl,hu,λv hv=>by simp only at hv;omega⟩
 ·obtain⟨⟨G,I⟩,hz,J⟩:=key;exact⟨G,I,hz,J⟩
 ·rintro⟨par,v,q⟩ ⟨hv0,hv1,Q,hW,hq,hk,hcl⟩;simp only at hv0 hv1 hW hq hcl;unfold vn;simp only[hR.len];by_cases r:v<n
  ·left;rw[if_pos (by simp[r])];obtain⟨p,hp,B⟩:=zU (l:=par) hv0 (by rw[hW.len];omega);have g:=hW.mem v.toNat p B;have D:((v.toNat:Nat):Int)=v:=by omega
   rw[D]at g;have X:aA (v+1)=v+1:=zv om om;simp only[hp,im];have keep:(Fr R F u v->v∈Q)->∃s',oo (R,F) (u,rest) (par,v,q) false=some (.inl s')/\(0<=s'.2.1/\s'.2.1<=n/\∃Q',WInv n R F a s'.1 Q' k/\s'.2.2=Q'.drop (k+1)/\Q'[k]?=some u/\∀v:Nat,(v:Int)<s'.2.1->Fr R F u v->(v:Int)∈Q')/\(n - s'.2.1).toNat<(n - v).toNat:=by
    intro O;unfold oo qL;simp only[X];refine⟨_,rfl,⟨by simp only[];omega,by simp only[];omega,Q,hW,hq,hk,λx c f=>?_⟩,by simp only[];omega⟩;simp only at c;by_cases d:(x:Int)=v
    ·rw[d]at f ⊢;exact O f
    ·exact hcl x om f
   by_cases m:p<0
   ·rw[if_pos (by simp[m])];obtain⟨b,hb,C⟩:=RD hR hF t.1 t.2 hv0 r;simp only[hb,im];cases b with
    | false=>exact keep λO=>absurd (C.2 O) si
    | true=>
     have f:Fr R F u v:=C.1 rfl;have H:v∉Q:=λhm=>by have:=g.1 hm;omega
     have hc:(par.set v.toNat u).countP isNeg+1=par.countP isNeg:=tq isNeg B (by simp[isNeg,m]) (by simp[isNeg];exact t.1);have L:=hW.neg;have A:k<Q.length:=zA hk;have V:q.length<n:=by rw[hq,ek];omega
     unfold oo qL;simp only[if_true,hp,im,hR.len];have hs:lM ((n:Int).toNat) q v=some (q++[v]):=by unfold lM;rw[if_pos (by simpa using V)]
     simp only[hs,im,X];have E:v.toNat<par.length:=zA B;refine⟨_,rfl,⟨by simp only[];omega,by simp only[];omega,Q++[v],?_,?_,?_,?_⟩,by simp only[];omega⟩
     ·refine⟨by simp only[fa];exact hW.len,hW.inj.snoc H,?_,by rw[ef];exact Nat.le_add_right_of_le hW.kle,?_,?_,?_,?_,?_⟩
      ·have Z:=zA hW.hd;rw[df Z];exact hW.hd
      ·intro x c;rcases fj.1 c with c | c
       ·exact hW.rng x c
       ·rw[ga.1 c];exact⟨hv0,r⟩
      ·simp only[ef,eh,eu];omega
      ·intro x G c;simp only at c;by_cases d:x=v.toNat
       ·subst d;rw[zW E]at c;injection c with c
        subst c;rw[D];simp[t.1]
       ·rw[zN (λe=>d e.symm)]at c;rw[←hW.mem x G c,fj,ga];exact⟨λe=>e.resolve_right om,.inl⟩
      ·intro i x hi N;by_cases T:i<Q.length
       ·rw[df T]at hi;obtain⟨j,G,h1,J,h3,h4⟩:=hW.src i x hi N;refine⟨j,G,h1,by rw[df om];exact J,?_,h4⟩;simp only;rw[zN]
        ·exact h3
        ·intro e;have a1:=hW.rng x<|fx hi;have d:x=v:=by omega
         exact H<|d▸fx hi
       ·rw[dg om]at hi;have:=zA hi;simp at this;have S:i - Q.length=0:=by omega
        rw[S]at hi;simp at hi;subst hi;exact⟨k,u,by omega,by rw[df A];exact hk,by simp only[];rw[zW E],f⟩
      ·intro j x Y c y P w;rw[df om]at c;exact fp _<|hW.cls j x Y c y P w
     ·simp only;rw[List.drop_append_of_le_length om,hq]
     ·rw[df A];exact hk
     ·intro x c U;simp only at c;by_cases d:(x:Int)=v
      ·rw[d];simp
      ·exact fp _<|hcl x om U
   ·rw[if_neg (by simp[m])];exact keep λ_=>g.2 om
  ·right;rw[if_neg (by simp[r])];have A:k<Q.length:=zA hk;refine⟨_,rfl,Q,⟨hW.len,hW.inj,hW.hd,by omega,hW.rng,hW.neg,hW.mem,hW.src,λj x Y c y P w=>?_⟩,hq⟩;by_cases M:j=k
   ·subst M;rw[hk]at c;injection c with c
    subst c;exact hcl y om w
   ·exact hW.cls j x om c y P w
def PB(hn:n<=1000)(hR:Sq n R)(hF:Sq n F)(h:WInv n R F a par Q 0):
  ∃b,iter (vo (R,F)) (par,Q)=some b/\∃Q',WInv n R F a b Q' Q'.length:=by
 have key:=zB (F:=vo (R,F))
  (λs=>∃Q' k,WInv n R F a s.1 Q' k/\s.2=Q'.drop k)
  (λs=>s.2.length+s.1.countP isNeg) (λz=>∃Q',WInv n R F a z Q' Q'.length) ?_ (par,Q) ⟨Q,0,h,rfl⟩
 ·exact key
 ·rintro⟨par,q⟩ ⟨Q,k,hW,hq⟩;simp only at hW hq;unfold vo;have j:=hW.neg;have l:=hW.kle;have i:q.length=Q.length - k:=by rw[hq,ek]
  have t:nL q=some (q.length:Int):=by unfold nL;rw[if_pos om]
  simp only[t,im];by_cases c:k<Q.length
  ·left;rw[if_pos so];obtain⟨u,e⟩:∃u,Q[k]?=some u:=⟨_,dj c⟩;have hd:Q.drop k=u::Q.drop (k+1):=by
    rw[bu c];rw[dj c]at e;injection e with e
    rw[e]
   have p:=hW.rng u<|fx e;have m:uz q=some (u,Q.drop (k+1)):=by
    rw[hq,hd];show(if -9223372036854775808<=u/\u<=9223372036854775807 then some (u,Q.drop (k+1))else none)=_;rw[if_pos ⟨by omega,by omega⟩]
   obtain⟨b,r,g,Q',d,f⟩:=PC hn hR hF hW e<|Q.drop (k+1);simp only[m,im,g];unfold Dz;refine⟨_,rfl,⟨Q',k+1,d,f⟩,?_⟩;have w:=d.neg;have v:=d.kle;show r.length+b.countP isNeg<q.length+par.countP isNeg;rw[f,i,ek];omega
  ·right;rw[if_neg (by simp only[decide_eq_true_eq];omega)];refine⟨_,rfl,Q,?_⟩;have:k=Q.length:=by omega
   rw[←this];exact hW
structure IG(n:Nat)(R F:List (List Int))(a b:Int)(w:List Int):Prop where
 pos:1<=w.length
 hd:w[0]?=some a
 lst:w[w.length - 1]?=some b
 inj:kZ w
 rng:∀x∈w,0<=x/\x<n
 most:w.length<=n
 edge:∀(i:Nat)(x y:Int),w[i]?=some x->w[i+1]?=some y->Fr R F x y
def Qp(hn:n<=1000)(h:WInv n R F a par Q k):∀(p:Nat)(x:Int)(out:List Int),Q[p]?=some x->1<=out.length->out[0]?=some b->out[out.length - 1]?=some x->kZ out->
  (∀y∈out,∃j,p<=j/\Q[j]?=some y)->out.length+p<=Q.length->(∀(i:Nat)(x y:Int),out[i]?=some x->out[i+1]?=some y->Fr R F y x)->
  ∃w,iter (qD a par) (out,x)=some w/\1<=w.length/\w[0]?=some b/\w[w.length - 1]?=some a/\kZ w/\(∀x∈w,0<=x/\x<n)/\w.length<=n/\∀(i:Nat)(x y:Int),w[i]?=some x->w[i+1]?=some y->Fr R F y x:=by
 intro p
 induction p using Nat.strongRecOn with
 | _ p ih=>
  intro x out u T N d m f V c;have O:=h.neg;by_cases l:x=a
  ·refine⟨out,zy ?_,T,N,by rw[d,l],m,λy g=>?_,by omega,c⟩
   ·unfold qD;simp[l]
   ·obtain⟨j,_,M⟩:=f y g;exact h.rng y<|fx M
  ·have J:p≠0:=λe=>by
    subst e;rw[h.hd]at u;injection u with u;exact l u.symm
   obtain⟨j,q,M,E,v,C⟩:=h.src p x u J;have D:=h.rng x<|fx u;have s:qD a par (out,x)=some (.inl (out++[q],q)):=by
    unfold qD;simp only[l,decide_false,Bool.not_false,if_true,fM D.1 v,im];rw[cG so so];rfl
   rw[zt s];have B:q∉out:=λhm=>by
    obtain⟨i,hi,L⟩:=f q hm;have:=h.inj i j q L E;omega
   have r:∀(i:Nat)(y:Int),(out++[q])[i]?=some y->(i<out.length/\out[i]?=some y)\/(i=out.length/\y=q):=by
    intro i y hi;by_cases A:i<out.length
    ·rw[df A]at hi;exact .inl ⟨A,hi⟩
    ·rw[dg om]at hi;have:=zA hi;simp at this;have I:i - out.length=0:=by omega
     rw[I]at hi;simp at hi;exact .inr ⟨by omega,hi.symm⟩
   refine ih j M q (out++[q]) E si (by rw[df om];exact N) si (m.snoc B) ?_ so ?_
   ·intro y g;rcases fj.1 g with g | g
    ·obtain⟨i,hi,G⟩:=f y g;exact⟨i,by omega,G⟩
    ·rw[ga.1 g];exact⟨j,gv _,E⟩
   ·intro i y z g S;rcases r i y g with⟨P,t⟩ |⟨P,t⟩<;>rcases r (i+1) z S with⟨U,H⟩ |⟨U,H⟩
    ·exact c i y z t H
    ·have:i=out.length - 1:=by omega
     rw[this,d]at t;injection t with t
     rw[←t,H];exact C
    ·omega
    ·omega
def Qo(hn1:1<=n)(hn:n<=1000)(hR:Sq n R)(hF:Sq n F)(ha0:0<=a)(ha:a<n)(hb0:0<=b)(hb:b<n):
  ∃w,xj (R,F) a b=some w/\(IG n R F a b w\/(w=[]/\∃S:Int->Bool,S a=true/\S b=false/\∀u v:Nat,u<n->v<n->S u=true->S v=false->¬Fr R F u v)):=by
 have B:=YT (n:=(n:Int)) om om;have I:nE 8 (n:Int)=some []:=by unfold nE;rw[if_pos ⟨by omega,by omega,by omega⟩]
 have r:lM ((n:Int).toNat) [] a=some [a]:=by unfold lM;rw[if_pos so];rfl
 have m:(List.replicate (n:Int).toNat (-1:Int)).length=n:=by simp
 have C:∀(v:Nat)(p:Int),((List.replicate (n:Int).toNat (-1:Int)).set a.toNat a)[v]?=some p->v<n/\((v=a.toNat/\p=a)\/(v≠a.toNat/\p = -1)):=by
  intro v p f;have k:=zA f;rw[fa,m]at k;refine⟨k,?_⟩;by_cases s:v=a.toNat
  ·subst s;rw[zW (by rw[m];exact k)]at f;injection f with f
   exact .inl ⟨rfl,f.symm⟩
  ·rw[zN (λe=>s e.symm),dx]at f;split at f
   ·injection f with f;exact .inr ⟨s,f.symm⟩
   ·cases f
 have T:(List.replicate (n:Int).toNat (-1:Int)).countP isNeg=n:=by
  rw[List.countP_replicate];simp[isNeg]
 have V:WInv n R F a ((List.replicate (n:Int).toNat (-1)).set a.toNat a) [a] 0:=by
  refine⟨by rw[fa,m],?_,rfl,by simp,?_,?_,?_,?_,λj u c=>by omega⟩
  ·intro i j x hi c;have t:=zA hi;have g:=zA c;simp at t g;omega
  ·intro x J;rw[ga.1 J];exact⟨ha0,ha⟩
  ·have Y:(List.replicate (n:Int).toNat (-1:Int))[a.toNat]?=some (-1):=by
    rw[dx,if_pos om]
   have:=tq isNeg Y (y:=a) (by simp[isNeg]) (by simp[isNeg];exact ha0);simp only[eh,eu];omega
  ·intro v p f;obtain⟨k,⟨e1,H⟩ |⟨e1,H⟩⟩:=C v p f
   ·subst H;rw[ga];omega
   ·subst H;rw[ga];omega
  ·intro i x hi a6;have:=zA hi;simp at this;omega
 obtain⟨par,E,Q,A⟩:=PB hn hR hF V;have N:∃x,idx (List.replicate (n:Int).toNat (-1:Int)) a=some x:=⟨_,Jb ha0 (by rw[m];exact ha)⟩;obtain⟨x0,M⟩:=N;unfold xj;simp only[hR.len,B,I,r,M,E,im];unfold Ek;obtain⟨p,hp,G⟩:=zU (l:=par) hb0 (by rw[A.len];exact hb);have h:=A.mem b.toNat p G;have L:((b.toNat:Nat):Int)=b:=by omega
 rw[L]at h;simp only[hp,im];by_cases q:p<0
 ·rw[if_pos (by simp[q])];refine⟨_,rfl,.inr ⟨rfl,λx=>decide (x∈Q),?_,?_,?_⟩⟩
  ·simp;exact fx A.hd
  ·simp;intro hm;have:=h.1 hm;omega
  ·intro u v hu f hS O hf;simp at hS O;obtain⟨j,c⟩:=du hS;exact O<|A.cls j u (zA c) c v f hf
 ·rw[if_neg (by simp[q])];obtain⟨j,c⟩:=du<|h.2 om;have a0:=zA c;obtain⟨w,hw,w1,w2,U,P,w5,X,Z⟩:=Qp (b:=b) hn A j b [b] c si rfl rfl (by
   intro i j x hi c;have t:=zA hi;have g:=zA c;simp at t g;omega) (by intro y hy;rw[ga.1 hy];exact⟨j,gv _,c⟩) so (by
   intro i x y hi c;have g:=zA c;simp at g)
  rw[hw];simp only[im];unfold DC Ei;have D:ne w.reverse=some w.reverse:=by
   unfold ne;cases hr:w.reverse with
   | nil=>have:w.length=0:=(by rw[←List.length_reverse,hr];rfl);omega
   | cons x l=>rfl
  simp only[D,im];have d:∀(i:Nat),i<w.length->w.reverse[i]?=w[w.length - 1 - i]?:=λi hi=>List.getElem?_reverse hi;refine⟨_,rfl,.inl ⟨by simpa using w1,by rw[d 0 om];exact U,?_,?_,λx J=>w5 x (by simpa using J),by simpa using X,?_⟩⟩
  ·rw[List.length_reverse,d _ om];have:w.length - 1 - (w.length - 1)=0:=by omega
   rw[this];exact w2
  ·intro i j x hi c;have t:=zA hi;have g:=zA c;rw[List.length_reverse]at t g;rw[d _ t]at hi;rw[d _ g]at c;have:=P _ _ _ hi c;omega
  ·intro i x y hi c;have g:=zA c;rw[List.length_reverse]at g;rw[d _ om]at hi;rw[d _ g]at c;have:w.length - 1 - i=w.length - 1 - (i+1)+1:=by omega
   rw[this]at hi;exact Z _ _ _ c hi
end
structure FI(n:Nat)(R F:List (List Int)):Prop where
 sq:Sq n F
 anti:∀u v,u<n->v<n->aV F u v = - aV F v u
 le:∀u v,u<n->v<n->aV F u v<=aV R u v
section
variable {n:Nat} {R F:List (List Int)} {a b:Int} {w:List Int}
def Pu(hn:n<=1000)(hR:∀u v,0<=aV R u v/\aV R u v<=1000000000)(hw:IG n R F a b w)(hF:FI n R F):
  ∃F',iter (vr w) (1,F)=some F'/\FI n R F'/\∀S,ee n S (aV F')=ee n S (aV F)+cA (S a) - cA (S b):=by
 have key:=zB (F:=vr w)
  (λs=>1<=s.1/\s.1<=w.length/\FI n R s.2/\(∀u v:Nat,u<n->v<n->(v:Int)∉w.take s.1.toNat->aV s.2 u v=aV F u v)/\
   ∃x,w[s.1.toNat - 1]?=some x/\∀S,ee n S (aV s.2)=ee n S (aV F)+cA (S a) - cA (S x))
  (λs=>(w.length - s.1).toNat) (λF'=>FI n R F'/\∀S,ee n S (aV F')=ee n S (aV F)+cA (S a) - cA (S b)) ?_ (1,F)
  ⟨by simp,by have:=hw.pos;simp only[];omega,hF,λ_ _ _ _ _=>rfl,a,hw.hd,λS=>by simp only[];omega⟩
 ·exact key
 ·rintro⟨i,G⟩ ⟨hi0,hi1,hG,hsame,x,hx,hmid⟩;simp only at hi0 hi1 hG hsame hx hmid;unfold vr;have b0:=hw.most;by_cases k:i<w.length
  ·left;obtain⟨y,N,A⟩:=zU (l:=w) (i:=i) om k;have V:aA (i - 1)=i - 1:=zv om om;have P:aA (i+1)=i+1:=zv om om;have J:idx w (i - 1)=some x:=fM om (by rw[←hx];congr 1;omega);have f:=hw.rng x<|fx hx;have g:=hw.rng y<|fx A;have a7:x≠y:=λe=>by
    subst e;have:=hw.inj _ _ _ hx A;omega
   have a2:x.toNat≠y.toNat:=by omega
   obtain⟨r,g1,g2,g3,g4⟩:=hG.sq.idx (u:=x) (v:=y) f.1 f.2 g.1 g.2;have m:=hw.edge (i.toNat - 1) x y hx (by rw[←A];congr 1;omega);unfold Fr at m;have B:((y.toNat:Nat):Int)∉w.take i.toNat:=by
    intro hm;obtain⟨j,I⟩:=du hm;have T:=zA I;rw[fd]at T;rw[ec,if_pos om]at I;have p:((y.toNat:Nat):Int)=y:=by omega
    rw[p]at I;have:=hw.inj _ _ _ I A;omega
   have a1:=hsame x.toNat y.toNat om om B;have b1:=hG.anti x.toNat y.toNat om om;have b2:=hG.le y.toNat x.toNat om om;have b3:=hR y.toNat x.toNat;have b4:=hR x.toNat y.toNat;have M:aA (aV G x.toNat y.toNat+1)=aV G x.toNat y.toNat+1:=zv om om;obtain⟨H,h⟩:=hG.sq.set (e:=aV G x.toNat y.toNat+1) g3 (v:=y.toNat) om;obtain⟨Z,k1,k2,k3,k4⟩:=H.idx (u:=y) (v:=x) g.1 g.2 f.1 f.2;have C:aV (G.set x.toNat<|r.set y.toNat<|aV G x.toNat y.toNat+1) y.toNat x.toNat=aV G y.toNat x.toNat:=by rw[h,if_neg om]
   rw[C]at k4;have Q:aA (aV G y.toNat x.toNat - 1)=aV G y.toNat x.toNat - 1:=zv om om;obtain⟨Y,t⟩:=H.set (e:=aV G y.toNat x.toNat - 1) k3 (v:=x.toNat) om;simp only[k,decide_true,if_true,V,J,N,g1,g4,im,M,k1,k4,Q,P];have d:∀u v,aV ((G.set x.toNat<|r.set y.toNat<|aV G x.toNat y.toNat+1).set y.toNat<|Z.set x.toNat<|aV G y.toNat x.toNat - 1) u v =
     if u=y.toNat/\v=x.toNat then aV G y.toNat x.toNat - 1 else if u=x.toNat/\v=y.toNat then aV G x.toNat y.toNat+1 else aV G u v:=λu v=>by rw[t,h]
   refine⟨_,rfl,⟨by simp only[];omega,by simp only[];omega,⟨Y,?_,?_⟩,?_,y,?_,?_⟩,by simp only[];omega⟩
   ·intro u v D E;simp only;rw[d,d];have h1:=hG.anti u v D E;by_cases c1:u=y.toNat/\v=x.toNat
    ·obtain⟨rfl,rfl⟩:=c1;rw[if_pos ⟨rfl,rfl⟩,if_neg om,if_pos ⟨rfl,rfl⟩];omega
    ·rw[if_neg c1];by_cases c2:u=x.toNat/\v=y.toNat
     ·obtain⟨rfl,rfl⟩:=c2;rw[if_pos ⟨rfl,rfl⟩,if_pos ⟨rfl,rfl⟩];omega
     ·rw[if_neg c2,if_neg om,if_neg om];exact h1
   ·intro u v D E;simp only;rw[d];split
    ·rename_i c;obtain⟨rfl,rfl⟩:=c;omega
    ·split
     ·rename_i c;obtain⟨rfl,rfl⟩:=c;omega
     ·exact hG.le u v D E
   ·intro u v D E hm;simp only at hm ⊢;have O:(i+1).toNat=i.toNat+1:=by omega
    rw[O,gl,A]at hm;simp only[Option.toList_some,fj,ga,not_or]at hm;have a4:v≠x.toNat:=λe=>by
     subst e;apply hm.1;have q:((x.toNat:Nat):Int)=x:=by omega
     rw[q];have:(w.take i.toNat)[i.toNat - 1]?=some x:=by rw[ec,if_pos om];exact hx
     exact fx this
    rw[d,if_neg om,if_neg om];exact hsame u v D E hm.1
   ·simp only;rw[←A];congr 1;omega
   ·intro S;simp only;have q:((x.toNat:Nat):Int)=x:=by omega
    have p:((y.toNat:Nat):Int)=y:=by omega
    have e1:ee n S (aV<|G.set x.toNat<|r.set y.toNat<|aV G x.toNat y.toNat+1)=ee n S (aV G)+cA (S ((x.toNat:Nat):Int))*1:=by
     unfold ee;exact Bo (c:=λu _=>cA<|S u) (a:=x.toNat) (b:=y.toNat) om om (λu v _ _ L=>by rw[h,if_neg om]) (by rw[h,if_pos ⟨rfl,rfl⟩])
    have e2:ee n S (aV<|(G.set x.toNat<|r.set y.toNat<|aV G x.toNat y.toNat+1).set y.toNat<|Z.set x.toNat<|aV G y.toNat x.toNat - 1)=ee n S (aV<|G.set x.toNat<|r.set y.toNat<|aV G x.toNat y.toNat+1)+cA (S ((y.toNat:Nat):Int))*(-1):=by
     unfold ee;exact Bo (c:=λu _=>cA<|S u) (a:=y.toNat) (b:=x.toNat) om om (λu v _ _ L=>by rw[t,if_neg om]) (by rw[t,if_pos ⟨rfl,rfl⟩,C];omega)
    rw[e2,e1,hmid S,q,p];omega
  ·right;rw[if_neg (by simp[k])];have X:i=w.length:=by omega
   have U:x=b:=by
    have:=hw.lst;rw[X]at hx;have e:((w.length:Nat):Int).toNat=w.length:=by omega
    rw[e,this]at hx;injection hx with hx
    exact hx.symm
   exact⟨_,rfl,hG,λS=>by rw[hmid S,U]⟩
def PO(hn1:1<=n)(hn:n<=1000)(hsq:Sq n R)(hR:∀u v,0<=aV R u v/\aV R u v<=1000000000)(hC:∀S,eF n S (aV R)<=1000000000)(hF:FI n R F)(hF0:∀u v,aV F u v=0)(ha0:0<=a)(ha:a<n)(hb0:0<=b)(hb:b<n)(hab:a≠b)most:
  ∃v F',wT (R,F) a b most=some (v,(R,F'))/\0<=v/\FI n R F'/\(∀S:Int->Bool,S a=true->S b=false->ee n S (aV F')=v)/\(∀S:Int->Bool,S a=true->S b=false->v<=eF n S (aV R))/\
   (v<most->∃S:Int->Bool,S a=true/\S b=false/\eF n S (aV R)=v):=by
 have hA:∀(G:List (List Int))(v:Int),FI n R G->(∀S:Int->Bool,S a=true->S b=false->ee n S (aV G)=v)->∀S:Int->Bool,S a=true->S b=false->v<=eF n S (aV R):=by
  intro G v c hm S j d;rw[←hm S j d,Oc c.anti];exact R_ c.le
 have A:(λx:Int=>decide (x=a)) a=true:=by simp
 have B:(λx:Int=>decide (x=a)) b=false:=by simp;exact λe=>hab e.symm
 have key:=zB (F:=CX (R,F) a b most)
  (λs=>0<=s.1/\FI n R s.2/\∀S:Int->Bool,S a=true->S b=false->ee n S (aV s.2)=s.1) (λs=>(eF n (λx:Int=>decide (x=a)) (aV R) - s.1).toNat)
  (λz=>z.2.1=R/\0<=z.1/\FI n R z.2.2/\(∀S:Int->Bool,S a=true->S b=false->ee n S (aV z.2.2)=z.1)/\(z.1<most->∃S:Int->Bool,S a=true/\S b=false/\eF n S (aV R)=z.1)) ?_ (0,F)
  ⟨by simp,hF,λS _ _=>?_⟩
 ·obtain⟨⟨v,P,F'⟩,q,j,d,D,y,H⟩:=key;simp only at j d D y H;subst j;refine⟨v,F',?_,d,D,y,hA F' v D y,H⟩;unfold wT;simp only[q,im]
 ·rintro⟨v,G⟩ ⟨hv0,c,hm⟩;simp only at hv0 c hm;unfold CX;obtain⟨w,L,E⟩:=Qo hn1 hn hsq c.sq ha0 ha hb0 hb;simp only[L,im];rcases E with hW |⟨hnil,S,s1,s2,s3⟩
  ·have r:w≠[]:=λe=>by have:=hW.pos;rw[e]at this;simp at this
   rw[if_neg (by simp[r])];unfold qM;by_cases m:v≥most
   ·right;rw[if_pos (by simp[m])];exact⟨_,rfl,rfl,hv0,c,hm,λh=>by simp only at h;omega⟩
   ·left;rw[if_neg (by simp[m])];obtain⟨G',t,p,hm'⟩:=Pu hn hR hW c;simp only[t,im];unfold Dg;have l:∀S:Int->Bool,S a=true->S b=false->ee n S (aV G')=v+1:=by
     intro S j d;rw[hm' S,hm S j d,j,d];simp[cA]
    have N:=hA G' (v+1) p l (λx:Int=>decide (x=a)) A B;have O:=hC (λx:Int=>decide (x=a));have C:aA (v+1)=v+1:=zv om om;simp only[C];exact⟨_,rfl,⟨by simp only[];omega,p,l⟩,by simp only[];omega⟩
  ·right;rw[if_pos (by simp[hnil])];unfold qM;rw[if_pos rfl];refine⟨_,rfl,rfl,hv0,c,hm,λ_=>⟨S,s1,s2,?_⟩⟩;simp only;rw[←hm S s1 s2,Oc c.anti];symm;refine Sa λu v I J j d=>?_;have:=s3 u v I J j d;unfold Fr at this;simp only[bh]at this;have:=c.le u v I J;omega
 ·simp only;unfold ee;have q:∀(k:Nat)(f:Nat->Int),(∀i,f i=0)->b_ k f=0:=λk f M=>by
   rw[jd (g:=λ_=>0) λi _=>M i,AQ]
  exact q _ _ λu=>q _ _ λv=>by rw[hF0];simp
end
def Zh{bs:List Bd}{n}(hn1:1<=n)(hn:n<=1000)(p:bs.length<=100000)(hw:eM n bs)t:
  ∃b,AK n bs t=some b/\(b=true↔Holds n bs t):=by
 have j:∀S,cN S bs<=1000*bs.length:=λS=>B_ λb p=>by
  obtain⟨k,G⟩:=du p;obtain⟨_,_,_,_,_,m,U⟩:=hw k b G;omega
 have key:=zB (F:=FV n bs t)
  (λy=>1<=y/\y<=n/\∀z,1<=z->z<y->∀S:Int->Bool,S 0=true->S z=false->t<=cN S bs) (λy=>(n - y).toNat)
  (λz=>match z with | .inl _=>Holds n bs t | .inr b=>b=false/\¬Holds n bs t) ?_ 1 ⟨by simp,hn1,λz B A=>by omega⟩
 ·obtain⟨z,I,r⟩:=key;unfold AK;rw[I];cases z with
  | inl z=>exact⟨true,rfl,λ_=>r,λ_=>rfl⟩
  | inr z=>
   have w:z=false:=r.1;exact⟨z,rfl,⟨λh=>by(rw[w]at h;cases h),λh=>absurd h r.2⟩⟩
 ·rintro y ⟨x,E,d⟩;unfold FV;by_cases f:y<n
  ·rw[if_pos (by simp[f])];obtain⟨R,F,B,A,N,l,C,m⟩:=XR (n:=n) om hn p hw;have Q:((n.toNat:Nat):Int)=n:=by omega
   obtain⟨v,F',J,T,X,V,O,D⟩:=PO (n:=n.toNat) (R:=R) (F:=F) (a:=0) (b:=y) om om A (λu v=>by have:=C u v;omega) (λS=>by rw[m];have:=j S;omega)
    ⟨N,λu v _ _=>by rw[l,l];rfl,λu v _ _=>by rw[l];exact(C u v).1⟩ l om om om om om t
   simp only[B,J,im];by_cases e:v<t
   ·right;rw[if_pos (by simp[e])];refine⟨_,rfl,rfl,λL=>?_⟩;obtain⟨S,M,H,P⟩:=D e;have:=L S M ⟨y,x,f,H⟩;rw[m]at P;omega
   ·left;rw[if_neg (by simp[e]),zv om om];refine⟨_,rfl,⟨by omega,by omega,λz g q S c i=>?_⟩,by omega⟩;by_cases s:z=y
    ·subst s;have:=O S c i;rw[m]at this;omega
    ·exact d z g om S c i
  ·right;rw[if_neg (by simp[f])];refine⟨_,rfl,λS c ⟨z,g,q,hz3⟩=>d z g om S c hz3⟩
def lA{A B:Type}{F:A×Int->Option ((A×Int) ⊕ A)}(l:List B)(f:A->B->A)(a0:A)(hlen:l.length<=2000000)(step:∀(a:A)(i:Nat)(x:B),l[i]?=some x->a=(l.take i).foldl f a0->F (a,(i:Int))=some (.inl (f a x,aA ((i:Int)+1))))(stop:∀a,a=l.foldl f a0->F (a,(l.length:Int))=some (.inr a)):iter F (a0,0)=some (l.foldl f a0):=by
 have key:=zB (F:=F) (λs=>0<=s.2/\s.2<=l.length/\s.1=(l.take s.2.toNat).foldl f a0) (λs=>(l.length - s.2).toNat) (λz=>z=l.foldl f a0) ?_ (a0,0) ⟨by simp,by simp,by simp⟩
 ·obtain⟨z,g,rfl⟩:=key;exact g
 ·rintro⟨a,i⟩ ⟨h0,h1,ha⟩;simp only at h0 h1 ha;obtain⟨k,rfl⟩:=bg h0;simp only[bh]at ha;by_cases c:k<l.length
  ·left;have d:l[k]?=some l[k]:=dj c;have b:aA ((k:Int)+1)=(k:Int)+1:=zv om om;refine⟨_,step a k _ d ha,?_,?_⟩
   ·refine⟨by simp only[b];omega,by simp only[b];omega,?_⟩;simp only[b];have:((k:Int)+1).toNat=k+1:=by omega
    rw[this,gl,d,List.foldl_append,←ha];rfl
   ·simp only[b];omega
  ·right;have e:k=l.length:=by omega
   subst e;rw[gm]at ha;exact⟨a,stop a ha,ha⟩
def Hp{A B:Type}{F:Int×A->Option ((Int×A) ⊕ A)}(l:List B)(f:A->B->A)(a0:A)(hlen:l.length<=2000000)(step:∀(a:A)(i:Nat)(x:B),l[i]?=some x->a=(l.take i).foldl f a0->F ((i:Int),a)=some (.inl (aA ((i:Int)+1),f a x)))(stop:∀a,a=l.foldl f a0->F ((l.length:Int),a)=some (.inr a)):iter F (0,a0)=some (l.foldl f a0):=by
 have key:=zB (F:=F) (λs=>0<=s.1/\s.1<=l.length/\s.2=(l.take s.1.toNat).foldl f a0) (λs=>(l.length - s.1).toNat) (λz=>z=l.foldl f a0) ?_ (0,a0) ⟨by simp,by simp,by simp⟩
 ·obtain⟨z,g,rfl⟩:=key;exact g
 ·rintro⟨i,a⟩ ⟨h0,h1,ha⟩;simp only at h0 h1 ha;obtain⟨k,rfl⟩:=bg h0;simp only[bh]at ha;by_cases c:k<l.length
  ·left;have d:l[k]?=some l[k]:=dj c;have b:aA ((k:Int)+1)=(k:Int)+1:=zv om om;refine⟨_,step a k _ d ha,?_,?_⟩
   ·refine⟨by simp only[b];omega,by simp only[b];omega,?_⟩;simp only[b];have:((k:Int)+1).toNat=k+1:=by omega
    rw[this,gl,d,List.foldl_append,←ha];rfl
   ·simp only[b];omega
  ·right;have e:k=l.length:=by omega
   subst e;rw[gm]at ha;exact⟨a,stop a ha,ha⟩
def zq{α:Type}{l:List α}{i:Nat}{x:α}(h:l[i]?=some x):idx l (i:Int)=some x:=by
 unfold idx;rw[if_pos om];simpa using h
def jO{α β:Type}(p:α->Bool)(g:α->β):∀(l:List α)(a:List β),l.foldl (λa x=>if p x then a++[g x]else a) a=a++(l.filter p).map g
 |[],a=>by simp
 | x::l,a=>by
  rw[cw,jO p g l];by_cases hp:p x=true
  ·rw[if_pos hp,cm hp];simp
  ·rw[if_neg hp,cj hp]
structure Lead(n:Nat)(L nm:List Int):Prop where
 len:L.length=n
 nlen:nm.length=n
 low:∀(i:Nat)(p:Int),L[i]?=some p -> -1<=p/\p<i
 root:∀(i:Nat)(r:Int),nm[i]?=some r->0<=r/\r<=i/\iter (gstep L) (i:Int)=some r/\∃q,L[r.toNat]?=some q/\q<0
def tA{L:List Int}{i:Int}{p}(h0:0<=i)(h:L[i.toNat]?=some p)(hp:p<0):iter (gstep L) i=some i:=by
 apply zy;unfold gstep;rw[fM h0 h];simp only[im];rw[if_pos hp]
def HV{L:List Int}{i:Int}{p}(h0:0<=i)(h:L[i.toNat]?=some p)(hp:0<=p):iter (gstep L) i=iter (gstep L) p:=by
 apply zt;unfold gstep;rw[fM h0 h];simp only[im];rw[if_neg om]
def Rv{L:List Int}(hL:∀(i:Nat)(p:Int),L[i]?=some p -> -1<=p/\p<i){m k:Int}(hm0:0<=m)(hk0:0<=k)(hkm:k<m){q q'}(hm:L[m.toNat]?=some q)(hq:q<0)(hk:L[k.toNat]?=some q')(hq':q'<0):
  ∀(i:Nat)(r:Int),i<L.length->iter (gstep L) (i:Int)=some r->iter (gstep (L.set m.toNat k)) (i:Int)=some (if r=m then k else r):=by
 intro i
 induction i using Nat.strongRecOn with
 | _ i ih=>
  intro r hi c;have g:=zA hm;obtain⟨p,hp⟩:∃p,L[i]?=some p:=⟨_,dj hi⟩;have h:=hL i p hp;have d:L[(i:Int).toNat]?=some p:=by simpa using hp
  by_cases b:p<0
  ·rw[tA om d b]at c;injection c with c
   subst c;by_cases a:(i:Int)=m
   ·subst a;simp only[bh]at *;rw[if_pos trivial];rw[HV (p:=k) om (by simp only[bh];rw[zW g]) hk0];exact tA hk0 (by rw[zN om];exact hk) hq'
   ·rw[if_neg a];exact tA om (by simp only[bh];rw[zN om];exact hp) b
  ·have a:m.toNat≠i:=λe=>by
    rw[e,hp]at hm;injection hm with hm;omega
   rw[HV om d om]at c;rw[HV (p:=p) om (by simp only[bh];rw[zN a];exact hp) om];have f:((p.toNat:Nat):Int)=p:=by omega
   rw[←f]at c ⊢;exact ih p.toNat om r om c
def fB(x y:Int)(z:Int):Int:=if z=max x y then min x y else z
def QA{n:Nat}{L nm:List Int}(h:Lead n L nm){i j:Nat}{x y:Int}(hi:nm[i]?=some x)(hj:nm[j]?=some y):
  Lead n (if x<y then L.set y.toNat x else if y<x then L.set x.toNat y else L) (nm.map (fB x y)):=by
 obtain⟨C,x1,X,H,E,D⟩:=h.root i x hi;obtain⟨y0,U,Y,J,G,I⟩:=h.root j y hj;have A:=zA hi;have t:=zA hj;have c:∀(m k:Int)(q g:Int),0<=m->0<=k->k<m->m<=(n:Int)->L[m.toNat]?=some q->q<0->L[k.toNat]?=some g->g<0->Lead n (L.set m.toNat k) (nm.map λz=>if z=m then k else z):=by
  intro m k q g w u s Q hm P F f;refine⟨by rw[fa];exact h.len,by rw[er];exact h.nlen,λa p hp=>?_,λa r b=>?_⟩
  ·by_cases M:m.toNat=a
   ·subst M;rw[zW<|zA hm]at hp;injection hp with hp
    omega
   ·rw[zN M]at hp;exact h.low a p hp
  ·rw[dt]at b;cases hz:nm[a]? with
   | none=>rw[hz]at b;cases b
   | some z=>
    rw[hz]at b;simp only[Option.map_some]at b;injection b with b
    obtain⟨V,T,R,S,N,O⟩:=h.root a z hz;have B:a<L.length:=by have:=zA hz;rw[h.nlen]at this;rw[h.len];exact this
    have:=Rv h.low w u s hm P F f a z B R;rw[b]at this;subst b;refine⟨?_,?_,this,?_⟩
    ·split<;>omega
    ·split<;>omega
    ·by_cases d:z=m
     ·rw[if_pos d];exact⟨g,by rw[zN om];exact F,f⟩
     ·rw[if_neg d];exact⟨S,by rw[zN om];exact N,O⟩
 rw[h.nlen]at A t;by_cases v:x<y
 ·rw[if_pos v];have e:nm.map (fB x y)=nm.map λz=>if z=y then x else z:=by
   apply fh;intro z _;unfold fB;rw[show max x y=y by omega,show min x y=x by omega]
  rw[e];exact c y x J H y0 C v om G I E D
 ·rw[if_neg v];by_cases l:y<x
  ·rw[if_pos l];have e:nm.map (fB x y)=nm.map λz=>if z=x then y else z:=by
    apply fh;intro z _;unfold fB;rw[show max x y=x by omega,show min x y=y by omega]
   rw[e];exact c x y H J C y0 l om E D G I
  ·rw[if_neg l];have:x=y:=by omega
   subst this;have e:nm.map (fB x x)=nm:=by
    have:fB x x=id:=by
     funext z;unfold fB;rw[Int.max_self,Int.min_self];split
     ·rename_i hz;exact hz.symm
     ·rfl
    rw[this,List.map_id]
   rw[e];exact h
def fQ(bs:List Bd)(nm:List Int):List Int:=bs.foldl (λnm b=>nm.map (fB (nm.getD b.1.toNat 0) (nm.getD b.2.1.toNat 0))) nm
def jT{l:List Int}{i x}(h:l[i]?=some x):l.getD i 0=x:=by
 rw[List.getD_eq_getElem?_getD,h];rfl
section
variable {n:Nat} {bs:List Bd}
def MC(hb:bs.length<=100000)(hw:eM n bs){L nm}(h:Lead n L nm):
  ∃L',iter (wK bs) (0,L)=some L'/\Lead n L' (fQ bs nm):=by
 have key:=zB (F:=wK bs) (λs=>0<=s.1/\s.1<=bs.length/\Lead n s.2 (fQ (bs.take s.1.toNat) nm)) (λs=>(bs.length - s.1).toNat)
  (λL'=>Lead n L'<|fQ bs nm) ?_ (0,L) ⟨by simp,by simp,by simpa[fQ]using h⟩
 ·exact key
 ·rintro⟨i,L⟩ ⟨h0,h1,hL⟩;simp only at h0 h1 hL;unfold wK;by_cases c:i<bs.length
  ·left;obtain⟨⟨x,y,s⟩,m,j⟩:=zU (l:=bs) h0 c;obtain⟨w1,w2,A,w,E,C,D⟩:=hw _ _ j;simp only at w1 w2 A w E C D;obtain⟨g,b⟩:∃z,z=fQ (bs.take i.toNat) nm:=⟨_,rfl⟩;rw[←b]at hL;obtain⟨u,f⟩:∃r,g[x.toNat]?=some r:=⟨_,dj (by rw[hL.nlen];omega)⟩;obtain⟨v,d⟩:∃r,g[y.toNat]?=some r:=⟨_,dj (by rw[hL.nlen];omega)⟩;obtain⟨G,p,_⟩:=zU (l:=L) w1 (by rw[hL.len];exact w2);obtain⟨H,t,_⟩:=zU (l:=L) A (by rw[hL.len];exact w);obtain⟨_,_,ix,_⟩:=hL.root _ _ f;obtain⟨_,_,B,_⟩:=hL.root _ _ d;rw[show((x.toNat:Nat):Int)=x by omega]at ix;rw[show((y.toNat:Nat):Int)=y by omega]at B;have q:aA (i+1)=i+1:=zv om om;have e:=QA hL f d;have a:fQ (bs.take (i+1).toNat) nm=g.map (fB u v):=by
    have:(i+1).toNat=i.toNat+1:=by omega
    rw[this,gl,j];unfold fQ at b ⊢;rw[List.foldl_append,←b];simp only[Option.toList_some,cw,List.foldl_nil];rw[jT f,jT d]
   simp only[c,decide_true,if_true,m,p,ix,t,B,im];unfold rY;simp only[q];by_cases k:u<v
   ·rw[if_pos (by simp[k])];rw[if_pos k]at e;exact⟨_,rfl,⟨by simp only[];omega,by simp only[];omega,by simp only[];rw[a];exact e⟩,by simp only[];omega⟩
   ·rw[if_neg (by simp[k])];rw[if_neg k]at e;by_cases c2:v<u
    ·rw[if_pos (by simp[c2])];rw[if_pos c2]at e;exact⟨_,rfl,⟨by simp only[];omega,by simp only[];omega,by simp only[];rw[a];exact e⟩,by simp only[];omega⟩
    ·rw[if_neg (by simp[c2])];rw[if_neg c2]at e;exact⟨_,rfl,⟨by simp only[];omega,by simp only[];omega,by simp only[];rw[a];exact e⟩,by simp only[];omega⟩
  ·right;rw[if_neg (by simp[c])];refine⟨_,rfl,?_⟩;rw[show i.toNat=bs.length by omega,gm]at hL;exact hL
def PA bs:∀(nm:List Int),(fQ bs nm).length=nm.length:=by
 induction bs with
 | nil=>intro nm;rfl
 | cons b bs ih=>intro nm;unfold fQ at ih ⊢;rw[cw,ih,er]
theorem Zc{x y}(nm:List Int)(hn:nm.length<=100000):iter (vw x y) (nm,0)=some (nm.map (fB x y)):=by
 have key:=zB (F:=vw x y) (λs=>0<=s.2/\s.2<=nm.length/\s.1=(nm.take s.2.toNat).map (fB x y)++nm.drop s.2.toNat) (λs=>(nm.length - s.2).toNat)
  (λz=>z=nm.map (fB x y)) ?_ (nm,0) ⟨by simp,by simp,by simp⟩
 ·obtain⟨z,h,rfl⟩:=key;exact h
 ·rintro⟨l,i⟩ ⟨h0,h1,hl⟩;simp only at h0 h1 hl;obtain⟨k,rfl⟩:=bg h0;simp only[bh]at hl;have c:((nm.take k).map<|fB x y).length=k:=by rw[er,fd];omega
  have q:l.length=nm.length:=by rw[hl,ef,c,ek];omega
  unfold vw;by_cases m:(k:Int)<l.length
  ·left;obtain⟨z,h⟩:∃z,nm[k]?=some z:=⟨_,dj om⟩;have d:l[k]?=some z:=by rw[hl,dg om,c,Nat.sub_self,dh];simpa using h
   have g:kC x y=some (max x y):=by unfold kC;split<;>simp_all<;>omega
   have e:mQ x y=some (min x y):=by unfold mQ;split<;>simp_all<;>omega
   have p:aA ((k:Int)+1)=(k:Int)+1:=zv om om;simp only[m,decide_true,if_true,zq d,g,e,im];unfold xa;simp only[p];have b:l.set k (fB x y z)=(nm.take (k+1)).map (fB x y)++nm.drop (k+1):=by
    rw[hl,List.set_append_right _ _ om,c,Nat.sub_self,bu om,List.set_cons_zero,gl,h];simp
   have f:((k:Int)+1).toNat=k+1:=by omega
   by_cases a:z=max x y
   ·rw[if_pos (by simp[a])];refine⟨_,rfl,⟨by simp only[];omega,by simp only[];omega,?_⟩,by simp only[];omega⟩;simp only[f,bh];rw[←b];unfold fB;rw[if_pos a]
   ·rw[if_neg (by simp[a])];refine⟨_,rfl,⟨by simp only[];omega,by simp only[];omega,?_⟩,by simp only[];omega⟩;simp only[f];rw[←b];unfold fB;rw[if_neg a];apply ce;intro j;by_cases n:k=j
    ·subst n;rw[zW<|zA d,d]
    ·rw[zN n]
  ·right;rw[if_neg so];refine⟨_,rfl,?_⟩;rw[hl,show k=nm.length by omega];simp
def Zs(hb:bs.length<=100000)(hw:eM n bs)(nm:List Int)(hn:nm.length=n)(hn1:n<=100000):iter (vA bs) (nm,0)=some (fQ bs nm):=by
 refine lA bs _ nm om ?_ ?_
 ·intro a i b c j;obtain⟨w1,w2,k,p,s,r,u⟩:=hw _ _ c;have m:a.length=n:=by rw[j];exact(PA _ _).trans hn
  unfold vA;obtain⟨t,h,e⟩:=zU (l:=a) w1 om;obtain⟨q,f,d⟩:=zU (l:=a) k om;have g:=zA c;rw[if_pos (by simp[g])];simp only[zq c,h,f,im,Zc a om];unfold Ex;rw[jT e,jT d]
 ·intro a _;unfold vA;rw[if_neg si]
end
def e_(nm:List Int)(i:Nat)(r:Int):List Int:=((List.range i).filter λ(k:Nat)=>decide (nm[k]?=some r)).map λ(k:Nat)=>(k:Int)
def dQ(nm:List Int)(i:Nat):List Int:=((List.range i).filter λ(k:Nat)=>decide (nm[k]?=some (k:Int))).map λ(k:Nat)=>(k:Int)
def mY(nm:List Int)i r:e_ nm (i+1) r=e_ nm i r++if nm[i]?=some r then[(i:Int)]else[]:=by
 unfold e_;rw[gj,ci,fe];congr 1;by_cases h:nm[i]?=some r
 ·rw[if_pos h,cm (by simp[h])];rfl
 ·rw[if_neg h,cj (by simp[h])];rfl
def lx(nm:List Int)i:dQ nm (i+1)=dQ nm i++if nm[i]?=some (i:Int)then[(i:Int)]else[]:=by
 unfold dQ;rw[gj,ci,fe];congr 1;by_cases h:nm[i]?=some (i:Int)
 ·rw[if_pos h,cm (by simp[h])];rfl
 ·rw[if_neg h,cj (by simp[h])];rfl
def Bz nm r:∀i,(e_ nm i r).length<=i
 | 0=>by simp[e_]
 | i+1=>by
  have:=Bz nm r i;rw[mY,ef];split<;>simp<;>omega
def AR nm:∀i,(dQ nm i).length<=i
 | 0=>by simp[dQ]
 | i+1=>by
  have:=AR nm i;rw[lx,ef];split<;>simp<;>omega
def By{nm:List Int}{x:Int}{i r}:x∈e_ nm i r↔0<=x/\x<i/\nm[x.toNat]?=some r:=by
 unfold e_;simp only[fu,ft,fz,decide_eq_true_eq];constructor
 ·rintro⟨k,⟨b,a⟩,rfl⟩;exact⟨by omega,by omega,by simpa using a⟩
 ·rintro⟨b,a,c⟩;exact⟨x.toNat,⟨by omega,c⟩,by omega⟩
def tE{nm:List Int}{x:Int}{i}:x∈dQ nm i↔0<=x/\x<i/\nm[x.toNat]?=some x:=by
 unfold dQ;simp only[fu,ft,fz,decide_eq_true_eq];constructor
 ·rintro⟨k,⟨b,a⟩,rfl⟩;exact⟨by omega,by omega,by simpa using a⟩
 ·rintro⟨b,a,c⟩;exact⟨x.toNat,⟨by omega,by rw[c];congr 1;omega⟩,by omega⟩
def HE nm:∀i,kZ (dQ nm i)
 | 0=>by intro i j x h;simp[dQ]at h
 | i+1=>by
  rw[lx];split
  ·refine(HE nm i).snoc λh=>?_;have:=(tE.1 h).2.1;omega
  ·rw[bq];exact HE nm i
def kH(nm:List Int)(n:Nat):List (List Int):=(dQ nm n).map (e_ nm n)
section
variable {n:Nat} {nm:List Int}
def WG(hn:n<=100000)(hlen:nm.length=n)(hlow:∀(i:Nat)(r:Int),nm[i]?=some r->0<=r/\r<=i){out i}(hi:i<n):
  iter (vx n nm (out,i)) ([],(i:Int))=some (e_ nm n i):=by
 have c:e_ nm i (i:Int)=[]:=by
  rw[bz];intro x m;obtain⟨g,p,j⟩:=By.1 m;have:=hlow _ _ j;omega
 have key:=zB (F:=vx n nm (out,i)) (λs=>(i:Int)<=s.2/\s.2<=n/\s.1=e_ nm s.2.toNat i) (λs=>((n:Int) - s.2).toNat)
  (λz=>z=e_ nm n i) ?_ ([],(i:Int)) ⟨by simp,by simp only[];omega,by simp[c]⟩
 ·obtain⟨z,e,rfl⟩:=key;exact e
 ·rintro⟨a,k⟩ ⟨h0,g,ha⟩;simp only at h0 g ha;obtain⟨k,rfl⟩:=bg (show 0<=k by omega);simp only[bh]at ha;unfold vx;by_cases f:(k:Int)<n
  ·left;obtain⟨z,e⟩:∃z,nm[k]?=some z:=⟨_,dj om⟩;have h:aA ((k:Int)+1)=(k:Int)+1:=zv om om;have d:((k:Int)+1).toNat=k+1:=by omega
   have l:=Bz nm i k;simp only[f,decide_true,if_true,zq e,im];unfold xb;simp only[h];by_cases b:z=i
   ·rw[if_pos (by simp[b]),cG (by rw[ha];simp;omega) (by rw[ha];simp;omega)];refine⟨_,rfl,⟨by simp only[];omega,by simp only[];omega,?_⟩,by simp only[];omega⟩;simp only[d];rw[mY,e,if_pos (by rw[b]),ha]
   ·rw[if_neg (by simp[b])];refine⟨_,rfl,⟨by simp only[];omega,by simp only[];omega,?_⟩,by simp only[];omega⟩;simp only[d];rw[mY,e,if_neg (by simpa using b),ha,bq]
  ·right;rw[if_neg so];exact⟨_,rfl,by rw[ha,show k=n by omega]⟩
def Xp(hn:n<=100000)(hlen:nm.length=n)(hlow:∀(i:Nat)(r:Int),nm[i]?=some r->0<=r/\r<=i):
  iter (vz n nm) ([],0)=some (kH nm n):=by
 have key:=zB (F:=vz n nm) (λs=>0<=s.2/\s.2<=n/\s.1=(dQ nm s.2.toNat).map (e_ nm n)) (λs=>((n:Int) - s.2).toNat)
  (λz=>z=kH nm n) ?_ ([],0) ⟨by simp,by simp,by simp[dQ]⟩
 ·obtain⟨z,d,rfl⟩:=key;exact d
 ·rintro⟨a,k⟩ ⟨h0,h1,ha⟩;simp only at h0 h1 ha;obtain⟨k,rfl⟩:=bg h0;simp only[bh]at ha;unfold vz;by_cases e:(k:Int)<n
  ·left;obtain⟨z,d⟩:∃z,nm[k]?=some z:=⟨_,dj om⟩;have g:aA ((k:Int)+1)=(k:Int)+1:=zv om om;have c:((k:Int)+1).toNat=k+1:=by omega
   simp only[e,decide_true,if_true,zq d,im];have f:=AR nm k;have h:a.length<=k:=by rw[ha,er];exact f
   by_cases b:z=k
   ·rw[if_neg (by simp[b]),WG hn hlen hlow om];simp only[im];unfold Ey qX;rw[cG so so];simp only[im,g];refine⟨_,rfl,⟨by simp only[];omega,by simp only[];omega,?_⟩,by simp only[];omega⟩;simp only[c];rw[lx,d,if_pos (by rw[b]),ha,fe];rfl
   ·rw[if_pos (by simp[b])];unfold qX;simp only[g];refine⟨_,rfl,⟨by simp only[];omega,by simp only[];omega,?_⟩,by simp only[];omega⟩;simp only[c];rw[lx,d,if_neg (by simpa using b),ha,bq]
  ·right;rw[if_neg so];exact⟨_,rfl,by rw[ha,show k=n by omega];rfl⟩
end
section
variable {n:Nat} {nm:List Int}
def CE(nm:List Int)(i:Nat)(pl:List (Int×Int)):Prop:=∀r:Int,(r∈dQ nm i->cW pl r=true/\∃j:Nat,cB pl r=some (j:Int)/\(dQ nm i)[j]?=some r)/\(r∉dQ nm i->cW pl r=false)
def OL{α β:Type}[DecidableEq α]{m:List (α×β)}{k:α}:cW m k=true↔∃p∈m,p.1=k:=by
 unfold cW;simp
def OJ{α β:Type}[DecidableEq α]{m:List (α×β)}{k:α}{v:β}(h:cW m k=false):bQ m k v=m++[(k,v)]:=by
 unfold bQ;rw[if_neg (by simp[h])]
def Qu{α β:Type}[DecidableEq α]{m:List (α×β)}{k k':α}{v:β}(h:cW m k=false):cB (m++[(k,v)]) k'=if k'=k then some v else cB m k':=by
 unfold cB;rw[List.find?_append];by_cases a:k'=k
 ·subst a;rw[if_pos rfl];have b:m.find? (λp=>decide (p.1=k'))=none:=by
   rw[List.find?_eq_none];intro p hp hd;have:cW m k'=true:=OL.2 ⟨p,hp,by simpa using hd⟩;rw[h]at this;cases this
  rw[b];simp
 ·rw[if_neg a];cases m.find? (λp=>decide (p.1=k'))with
  | some p=>simp
  | none=>simp[show ¬k=k' from λe=>a e.symm]
def Od{α β:Type}[DecidableEq α]{m:List (α×β)}{k k':α}{v:β}:cW (m++[(k,v)]) k'=(cW m k'||decide (k=k')):=by
 unfold cW;rw[List.any_append];simp
def Xe{L}(hn:n<=100000)(hL:Lead n L nm):iter (wJ n L) ([],0,([]:List (Int×Int)))=some (kH nm n):=by
 have t:∀(i:Nat)(r:Int),nm[i]?=some r->0<=r/\r<=i:=λi r h=>⟨(hL.root i r h).1,(hL.root i r h).2.1⟩;have key:=zB (F:=wJ n L)
  (λs=>0<=s.2.1/\s.2.1<=n/\s.1=(dQ nm s.2.1.toNat).map (e_ nm s.2.1.toNat)/\CE nm s.2.1.toNat s.2.2) (λs=>((n:Int) - s.2.1).toNat)
  (λz=>z=kH nm n) ?_ ([],0,[]) ⟨by simp,by simp,by simp[dQ],λr=>⟨λh=>by simp[dQ]at h,λ_=>rfl⟩⟩
 ·obtain⟨z,U,rfl⟩:=key;exact U
 ·rintro⟨a,k,pl⟩ ⟨h0,M,ha,hpl⟩;simp only at h0 M ha hpl;obtain⟨k,rfl⟩:=bg h0;simp only[bh]at ha hpl;unfold wJ;simp only[bh];by_cases A:(k:Int)<n
  ·left;obtain⟨r,d⟩:∃r,nm[k]?=some r:=⟨_,dj (by rw[hL.nlen];omega)⟩;obtain⟨p,hp⟩:∃p,L[k]?=some p:=⟨_,dj (by rw[hL.len];omega)⟩;obtain⟨T,r1,Y,q,O,Q⟩:=hL.root k r d;have N:aA ((k:Int)+1)=(k:Int)+1:=zv om om;have b:((k:Int)+1).toNat=k+1:=by omega
   have V:=AR nm k;have H:a.length=(dQ nm k).length:=by rw[ha,er]
   simp only[A,decide_true,if_true,zq hp,Y,im];by_cases f:r=k
   ·subst f;have c:(k:Int)∉dQ nm k:=λh=>by have:=(tE.1 h).2.1;omega
    have g:=(hpl k).2 c;rw[if_pos (by simp[g]),cG so so,OJ g];simp only[im];unfold rZ;have y:idx (a++[([]:List Int)]) (a.length:Int)=some []:=zq (by rw[dg<|gv _,Nat.sub_self];rfl);simp only[y,im,cG (α:=Int) (bytes:=8) (l:=[]) (l2:=[(k:Int)]) si si,N,bh];refine⟨_,rfl,⟨by simp only[];omega,by simp only[];omega,?_,?_⟩,by simp only[];omega⟩
    ·simp only[b];rw[lx,d,if_pos rfl,fe];rw[List.set_append_right _ _<|gv _,Nat.sub_self];simp only[List.set_cons_zero,fi,List.map_nil,gc];have P:e_ nm (k+1) k=[(k:Int)]:=by
      have v:e_ nm k (k:Int)=[]:=by
       rw[bz];intro x w;obtain⟨M,h2,X⟩:=By.1 w;have:=t _ _ X;omega
      rw[mY,d,if_pos rfl,v];rfl
     rw[P,ha];congr 1;apply fh;intro x w;rw[mY,d,if_neg,bq];intro e;injection e with e
     have:=(tE.1 w).2.1;omega
    ·simp only[b];unfold CE;rw[lx,d,if_pos rfl];intro r;constructor
     ·intro hm;rw[Od,Qu g];rcases fj.1 hm with hm | hm
      ·obtain⟨D,j,C,m⟩:=(hpl r).1 hm;refine⟨by rw[D];rfl,j,?_,by rw[df<|zA m];exact m⟩;rw[if_neg (by intro e;subst e;exact c hm)];exact C
      ·rw[ga]at hm;subst hm;refine⟨by simp,a.length,by rw[if_pos rfl],?_⟩;rw[H,dg<|gv _,Nat.sub_self];rfl
     ·intro hm;rw[fj,ga,not_or]at hm;rw[Od,(hpl r).2 hm.1];simp;intro e;exact hm.2 e.symm
   ·have E:r∈dQ nm k:=by
     refine tE.2 ⟨T,by omega,?_⟩;have c:r.toNat<nm.length:=by rw[hL.nlen];omega
     obtain⟨J,u⟩:∃J,nm[r.toNat]?=some J:=⟨_,dj c⟩;obtain⟨_,_,B,_⟩:=hL.root _ _ u;have:=tA (L:=L) (i:=((r.toNat:Nat):Int)) om (by rw[bh];exact O) Q;rw[this]at B;injection B with B
     rw[u];congr 1;omega
    obtain⟨D,j,C,m⟩:=(hpl r).1 E;rw[if_neg (by simp[D]),C];simp only[io];unfold rZ;have S:=zA m;have y:a[j]?=some (e_ nm k r):=by rw[ha,dt,m];rfl
    have Z:=Bz nm r k;simp only[zq y,im,cG (bytes:=8) (l:=e_ nm k r) (l2:=[(k:Int)]) so so,N,bh];refine⟨_,rfl,⟨by simp only[];omega,by simp only[];omega,?_,?_⟩,by simp only[];omega⟩
    ·simp only[b];rw[lx,d,if_neg (by intro e;injection e with e;exact f e),bq];apply ce;intro I;rw[dt];by_cases G:j=I
     ·subst G;rw[zW<|zA y,m];simp only[Option.map_some];rw[mY,d,if_pos rfl]
     ·rw[zN G,ha,dt];cases w:(dQ nm k)[I]? with
      | none=>rfl
      | some x=>
       simp only[Option.map_some];rw[mY,d,if_neg,bq];intro e;injection e with e
       subst e;exact G<|HE nm k _ _ _ m w
    ·simp only[b];unfold CE;rw[lx,d,if_neg (by intro e;injection e with e;exact f e),bq];exact hpl
  ·right;rw[if_neg so];have R:k=n:=by omega
   subst R;exact⟨_,rfl,ha⟩
def QM{n:Nat}(hn:n<=100000):iter (wL n) (0,[])=some (List.replicate n (-1)):=by
 have key:=zB (F:=wL n) (λs=>0<=s.1/\s.1<=n/\s.2=List.replicate s.1.toNat (-1)) (λs=>((n:Int) - s.1).toNat) (λz=>z=List.replicate n (-1)) ?_ (0,[]) ⟨by simp,by simp,by simp⟩
 ·obtain⟨z,d,rfl⟩:=key;exact d
 ·rintro⟨i,L⟩ ⟨h0,h1,hL⟩;simp only at h0 h1 hL;unfold wL;simp only[bh];have e:L.length=i.toNat:=by rw[hL];simp
  by_cases a:i<n
  ·left;have b:aA (i+1)=i+1:=zv om om;have c:nr n L i=some (L++[-1]):=by unfold nr;rw[if_pos ⟨by omega,by omega⟩]
   simp only[a,decide_true,if_true,c,b,im];refine⟨_,rfl,⟨by simp only[];omega,by simp only[];omega,?_⟩,by simp only[];omega⟩;simp only;rw[hL,show(i+1).toNat=i.toNat+1 by omega,List.replicate_succ']
  ·right;rw[if_neg so];exact⟨_,rfl,by rw[hL,show i.toNat=n by omega]⟩
def fH(n:Nat):List Int:=(List.range n).map λ(k:Nat)=>(k:Int)
def Ze{n:Nat}(hn:n<=100000):iter (vB n) ([],0)=some (fH n):=by
 have key:=zB (F:=vB n) (λs=>0<=s.2/\s.2<=n/\s.1=fH s.2.toNat) (λs=>((n:Int) - s.2).toNat) (λz=>z=fH n) ?_ ([],0) ⟨by simp,by simp,by simp[fH]⟩
 ·obtain⟨z,d,rfl⟩:=key;exact d
 ·rintro⟨a,i⟩ ⟨h0,h1,hL⟩;simp only at h0 h1 hL;unfold vB;have e:a.length=i.toNat:=by rw[hL];simp[fH]
  by_cases b:i<n
  ·left;have c:aA (i+1)=i+1:=zv om om;simp only[b,decide_true,if_true,cG (α:=Int) (bytes:=8) (l:=a) (l2:=[i]) so so,c,im];refine⟨_,rfl,⟨by simp only[];omega,by simp only[];omega,?_⟩,by simp only[];omega⟩;simp only;rw[hL,show(i+1).toNat=i.toNat+1 by omega];unfold fH;rw[gj,fe];congr 1;simp only[fi,List.map_nil];congr 1;omega
  ·right;rw[if_neg so];exact⟨_,rfl,by rw[hL,show i.toNat=n by omega]⟩
def Kg n:Lead n (List.replicate n (-1)) (fH n):=by
 have b:∀(i:Nat)(p:Int),(List.replicate n (-1:Int))[i]?=some p->p = -1:=by
  intro i p h;rw[dx]at h;split at h
  ·injection h with h;exact h.symm
  ·cases h
 refine⟨by simp,by simp[fH],λi p h=>by rw[b i p h];omega,λi r h=>?_⟩;have hi:=zA h;simp[fH]at hi;have c:r=i:=by
  simp[fH,dt,dv hi]at h;exact h.symm
 subst c;have a:(List.replicate n (-1:Int))[i]?=some (-1):=by rw[dx,if_pos hi]
 exact⟨by omega,by omega,tA om (by simpa using a) om,-1,by simpa using a,by omega⟩
def QK{n:Nat}{bs:List Bd}(hn:n<=100000)(hb:bs.length<=100000)(hw:eM n bs):
  yU n bs=some (kH (fQ bs (fH n)) n)/\yg n bs=some (kH (fQ bs (fH n)) n):=by
 obtain⟨L,b,a⟩:=MC hb hw<|Kg n;constructor
 ·unfold yU Fp Fo Fl;have c:nC 8 (n:Int)=some []:=by unfold nC;rw[if_pos ⟨by omega,by omega,by omega⟩]
  simp only[c,im,QM hn,b,Xe hn a]
 ·unfold yg EC EA Ez;simp only[im,Ze hn];rw[Zs hb hw _ (by simp[fH]) hn];simp only[im];rw[Xp hn a.nlen λi r h=>⟨(a.root i r h).1,(a.root i r h).2.1⟩];simp only[im]
def Nj(l:List Bd)(h:l.length<=2000000):oR l=some l:=by
 unfold oR qK;rw[if_neg si,cG so so];rfl
def Yi(l:List Bd)(h:l.length<=2000000)(p:Bd->Option Bool)(q:Bd->Bool)(hp:∀b∈l,p b=some (q b)):
  ∃i:Int,wc l p=some i/\((i = -1/\∀b∈l,q b=false)\/(∃k:Nat,i=k/\k<l.length/\(∀(j:Nat) b,j<k->l[j]?=some b->q b=false)/\∃b,l[k]?=some b/\q b=true)):=by
 have key:=zB (F:=CJ l p) (λi=>0<=i/\i<=l.length/\∀(j:Nat) b,(j:Int)<i->l[j]?=some b->q b=false) (λi=>(l.length - i).toNat)
  (λz=>match z with | .inl _=>∀b∈l,q b=false | .inr i=>∃k:Nat,i=k/\k<l.length/\(∀(j:Nat) b,j<k->l[j]?=some b->q b=false)/\∃b,l[k]?=some b/\q b=true) ?_ 0 ⟨by omega,by omega,λj b e=>by omega⟩
 ·obtain⟨z,t,n⟩:=key;unfold wc;rw[t];cases z with
  | inl z=>exact⟨-1,rfl,.inl ⟨rfl,n⟩⟩
  | inr i=>exact⟨i,rfl,.inr n⟩
 ·rintro i ⟨s,u,a⟩;obtain⟨k,rfl⟩:=bg s;unfold CJ;by_cases c:k<l.length
  ·have f:l[k]?=some l[k]:=dj c;have g:=hp l[k] (ed c);have r:aA ((k:Int)+1)=(k:Int)+1:=zv om om;have hd:((k:Int)<(l.length:Int)):=by omega
   simp only[hd,decide_true,if_true,zq f,im,g,r];cases hq:q l[k]with
   | true=>right;exact⟨_,rfl,k,rfl,c,λj b e=>a j b om,_,f,hq⟩
   | false=>
    left;refine⟨_,rfl,⟨by omega,by omega,λj b e d=>?_⟩,by omega⟩;by_cases m:j=k
    ·subst m;rw[f]at d;injection d with d;rw[←d];exact hq
    ·exact a j b om d
  ·right;have hd:¬((k:Int)<(l.length:Int)):=by omega
   simp only[hd,decide_false];refine⟨_,rfl,?_⟩;intro b d;obtain⟨j,e⟩:=du d;exact a j b (by have:=zA e;omega) e
def MM{α:Type}{p:α->Bool}{l:List α}{k}(h:∀(j:Nat) b,j<k->l[j]?=some b->p b=true):(l.take k).filter p=l.take k:=by
 rw[cn];intro b c;obtain⟨j,a⟩:=du c;have:=zA a;rw[fd]at this;rw[ec,if_pos om]at a;exact h j b om a
def Nb(l:List Bd)(h:l.length<=2000000)(p:Bd->Option Bool)(q:Bd->Bool)(hp:∀b∈l,p b=some (q b)):
  qE l p=some (l.filter λb=>!q b):=by
 obtain⟨i,hi,u⟩:=Yi l h p q hp;unfold qE;simp only[hi,im];rcases u with⟨rfl,e⟩ |⟨k,rfl,hk,hlow,b,g,hq⟩
 ·rw[if_pos si];congr 1;symm;rw[cn];intro b g;rw[e b g];rfl
 ·rw[if_neg si];have x:aA ((k:Int)+1)=(k:Int)+1:=zv om om;rw[x];have key:=zB (F:=CG p) (λs=>(k:Int)<s.2.2/\s.2.2<=l.length/\s.1.length=l.length/\0<=s.2.1/\s.2.1<s.2.2/\s.1.take s.2.1.toNat=(l.take s.2.2.toNat).filter (λb=>!q b)/\∀j,s.2.2.toNat<=j->s.1[j]?=l[j]?)
   (λs=>(l.length - s.2.2).toNat) (λz=>z.1.length=l.length/\0<=z.2/\z.2<=l.length/\z.1.take z.2.toNat=l.filter (λb=>!q b)) ?_ (l,(k:Int),(k:Int)+1) ?_
  ·obtain⟨⟨y,m⟩,G,E,C,J,A⟩:=key;simp only at E C J A;rw[G];simp only[im];unfold CS;have L:i_ y m ((0,0,0):Bd)=some (y.take m.toNat++List.replicate (y.length - m.toNat) (0,0,0)):=by unfold i_;rw[if_pos ⟨by omega,by omega⟩]
   have I:(y.take m.toNat).length=m.toNat:=by rw[fd];omega
   have hs:dR (y.take m.toNat++List.replicate (y.length - m.toNat) ((0,0,0):Bd)) 0 m=some (y.take m.toNat):=by
    unfold dR;rw[if_pos ⟨by omega,by omega,by rw[ef,I,ey];omega⟩];simp only[Int.toNat_zero,List.drop_zero];rw[List.take_append_of_le_length om,gp om]
   rw[L];simp only[im,hs];rw[A]
  ·rintro⟨y,m,j⟩ ⟨g1,g2,g3,g4,g5,g6,g7⟩;simp only at g1 g2 g3 g4 g5 g6 g7;obtain⟨j,rfl⟩:=bg (show 0<=j by omega);obtain⟨m,rfl⟩:=bg g4;simp only[bh]at g6 g7;unfold CG uS;by_cases d:j<l.length
   ·left;have c:l[j]?=some l[j]:=dj d;have f:y[j]?=some l[j]:=by rw[g7 j<|gv _];exact c
    have t:=hp l[j] (ed d);have H:aA ((j:Int)+1)=(j:Int)+1:=zv om om;have n:aA ((m:Int)+1)=(m:Int)+1:=zv om om;have w:y[m]?=some y[m]:=dj om;have a:((j:Int)+1).toNat=j+1:=by omega
    have r:((m:Int)+1).toNat=m+1:=by omega
    rw[if_pos so];simp only[zq f,im,t,H,n,zq w,bh];cases hq:q l[j]with
    | false=>
     rw[if_pos si];refine⟨_,rfl,⟨by simp only[];omega,by simp only[];omega,by simp only[fa];exact g3,by simp only[];omega,by simp only[];omega,?_,λi hi=>?_⟩,by simp only[];omega⟩
     ·simp only[a,r];rw[gl,zW om,gl,c,ci,List.take_set_of_le om,g6];simp[hq]
     ·simp only[a]at hi ⊢;rw[zN om];exact g7 i om
    | true=>
     rw[if_neg si];refine⟨_,rfl,⟨by simp only[];omega,by simp only[];omega,g3,by simp only[];omega,by simp only[];omega,?_,λi hi=>?_⟩,by simp only[];omega⟩
     ·simp only[a,bh];rw[g6,gl,c,ci];simp[hq]
     ·simp only[a]at hi ⊢;exact g7 i om
   ·right;rw[if_neg so];refine⟨_,rfl,g3,by simp only[];omega,by simp only[];omega,?_⟩;simp only[bh];rw[g6,show j=l.length by omega,gm]
  ·refine⟨by simp only[];omega,by simp only[];omega,rfl,by simp only[];omega,by simp only[];omega,?_,λj B=>rfl⟩;simp only[bh];rw[show((k:Int)+1).toNat=k+1 by omega,gl,g,ci,MM λj D B v=>by rw[hlow j D B v];rfl];simp[hq]
end
def WB(n:Int)(b:Bd):Prop:=0<=b.1/\b.1<n/\0<=b.2.1/\b.2.1<n/\b.1≠b.2.1/\0<=b.2.2/\b.2.2<=1000
def pP{n bs}:eM n bs↔∀b∈bs,WB n b:=by
 constructor
 ·intro h b c;obtain⟨k,a⟩:=du c;exact h k b a
 ·intro h k b a;exact h b<|fx a
section
variable {n:Nat} {bs:List Bd}
def Zb(hb:bs.length<=100000)t:iter (vK bs t) ([],0)=some (bs.filter λb=>!decide (b.2.2<t)):=by
 have e:(bs.filter λb=>!decide (b.2.2<t))=bs.foldl (λa x=>if(!decide (x.2.2<t))then a++[x]else a) []:=by
  rw[jO (p:=λx:Bd=>!decide (x.2.2<t)) (g:=λx=>x)];simp
 rw[e];refine lA bs _ [] om ?_ ?_
 ·intro a i b c j;have d:=zA c;have f:a.length<=i:=by
   rw[j,jO (p:=λx:Bd=>!decide (x.2.2<t)) (g:=λx=>x)];simp only[gc,er];exact gy (ep _ _) (by rw[fd];omega)
  unfold vK wZ;rw[if_pos (by simp[d])];simp only[zq c,im,cG (bytes:=24) (l:=a) (l2:=[b]) so so];by_cases h:b.2.2<t
  ·rw[if_neg so,if_neg (by simp[h])]
  ·rw[if_pos so,if_pos so]
 ·intro a _;unfold vK;rw[if_neg si]
def Qr(G:List (List Int)):nV G=Dq G:=by
 funext s;unfold nV Dq;by_cases h:s.2<(G.length:Int)
 ·rw[if_pos (by simp[h]),if_pos (by simp[h])];cases hx:idx G s.2 with
  | none=>
   have:qQ G s (s.1,0)=none:=by unfold qQ;rw[hx];rfl
   rw[QD this];rfl
  | some g=>
   have:qC s g=qQ G s:=by
    funext r;unfold qC qQ;rw[hx];rfl
   simp only[im,this];rfl
 ·rw[if_neg (by simp[h]),if_neg (by simp[h])]
def PE{G:List (List Int)}(hn:n<=100000)(hG:G.length<=100000)(hG1:1<=G.length)(hg:∀g∈G,g.length<=100000/\∀x∈g,0<=x/\x<n):
  ∃tab,iter (nV G) (List.replicate n 0,0)=some tab/\tab.length=n/\∀x∈tab,0<=x/\x<G.length:=by
 have m:∀(tab:List Int)(k:Nat)(v:Int),(∀x∈tab,0<=x/\x<(G.length:Int))->0<=v->v<G.length->∀x∈tab.set k v,0<=x/\x<(G.length:Int):=by
  intro tab k v h d e x c;rcases List.mem_or_eq_of_mem_set c with c | c
  ·exact h x c
  ·rw[c];exact⟨d,e⟩
 refine zB (F:=nV G) (λs=>0<=s.2/\s.2<=G.length/\s.1.length=n/\∀x∈s.1,0<=x/\x<G.length) (λs=>(G.length - s.2).toNat)
  (λtab=>tab.length=n/\∀x∈tab,0<=x/\x<G.length) ?_ (List.replicate n 0,0) ⟨by simp,by simp,by simp,λx c=>by rw[(List.mem_replicate.1 c).2];omega⟩
 rintro⟨tab,i⟩ ⟨d,e,hl,hv⟩;simp only at d e hl hv;unfold nV;by_cases b:i<G.length
 ·left;obtain⟨g,q,t⟩:=zU (l:=G) d b;obtain⟨C,w⟩:=hg g<|fx t;rw[if_pos (by simp[b])];simp only[q,im];have key:=zB (F:=qC (tab,i) g) (λs=>0<=s.2/\s.2<=g.length/\s.1.length=n/\∀x∈s.1,0<=x/\x<G.length) (λs=>(g.length - s.2).toNat)
   (λtab=>tab.length=n/\∀x∈tab,0<=x/\x<G.length) ?_ (tab,0) ⟨by simp,by simp,hl,hv⟩
  ·obtain⟨u,B,k1,k2⟩:=key;have p:aA (i+1)=i+1:=zv om om;rw[B];simp only[im];unfold DT;simp only[p];exact⟨_,rfl,⟨by simp only[];omega,by simp only[];omega,k1,k2⟩,by simp only[];omega⟩
  ·rintro⟨tab,j⟩ ⟨d,e,hl,hv⟩;simp only at d e hl hv;unfold qC;by_cases a:j<g.length
   ·left;obtain⟨x,c,r⟩:=zU (l:=g) d a;have f:=w x<|fx r;obtain⟨y,A,_⟩:=zU (l:=tab) f.1 (by rw[hl];exact f.2);have p:aA (j+1)=j+1:=zv om om;rw[if_pos (by simp[a])];simp only[c,A,im,p];exact⟨_,rfl,⟨by simp only[];omega,by simp only[];omega,by simp only[fa];exact hl,m _ _ _ hv om b⟩,by simp only[];omega⟩
   ·right;rw[if_neg (by simp[a])];exact⟨_,rfl,hl,hv⟩
 ·right;rw[if_neg (by simp[b])];exact⟨_,rfl,hl,hv⟩
def kQ(tab:List Int)(b:Bd):Bool:=!decide (tab.getD b.1.toNat 0=tab.getD b.2.1.toNat 0)
def pZ(tab:List Int)(b:Bd):Bd:=(tab.getD b.1.toNat 0,tab.getD b.2.1.toNat 0,b.2.2)
def nk(tab:List Int)(b:Bd):Bd:=(min (tab.getD b.1.toNat 0) (tab.getD b.2.1.toNat 0),max (tab.getD b.1.toNat 0) (tab.getD b.2.1.toNat 0),b.2.2)
def OX{β:Type}(p:Bd->Bool)(g:Bd->β)(l:List Bd)i(hi:i<=l.length):((l.take i).foldl (λa x=>if p x then a++[g x]else a) []).length<=i:=by
 rw[jO];simp only[gc,er];exact gy (ep _ _) (by rw[fd];omega)
def Yx(hb:bs.length<=100000)(hw:eM n bs){tab:List Int}(ht:tab.length=n):iter (vQ bs tab) ([],0)=some ((bs.filter (kQ tab)).map (pZ tab)):=by
 have e:=jO (kQ tab) (pZ tab) bs [];rw[gc]at e;rw[←e];refine lA bs _ [] om ?_ ?_
 ·intro a i b c j;have g:=zA c;have p:a.length<=i:=by rw[j];exact OX _ _ _ _ om
  obtain⟨w1,w2,m,r,t,s,u⟩:=hw _ _ c;obtain⟨x,q,d⟩:=zU (l:=tab) w1 om;obtain⟨y,k,f⟩:=zU (l:=tab) m om;unfold vQ wy;rw[if_pos (by simp[g])];simp only[zq c,q,k,im,cG (bytes:=24) (l:=a) (l2:=[(x,y,b.2.2)]) so so];unfold kQ pZ;rw[jT d,jT f];by_cases h:x=y
  ·rw[if_neg (by simp[h]),if_neg (by simp[h])]
  ·rw[if_pos (by simp[h]),if_pos (by simp[h])]
 ·intro a _;unfold vQ;rw[if_neg si]
theorem YA(hb:bs.length<=100000)(hw:eM n bs){tab:List Int}(ht:tab.length=n):iter (vJ bs tab) ([],0)=some ((bs.filter (kQ tab)).map (nk tab)):=by
 have e:=jO (kQ tab) (nk tab) bs [];rw[gc]at e;rw[←e];refine lA bs _ [] om ?_ ?_
 ·intro a i b c m;have k:=zA c;have r:a.length<=i:=by rw[m];exact OX _ _ _ _ om
  obtain⟨w1,w2,q,t,v,u,w⟩:=hw _ _ c;obtain⟨x,s,g⟩:=zU (l:=tab) w1 om;obtain⟨y,p,j⟩:=zU (l:=tab) q om;have f:kC x y=some (max x y):=by unfold kC;split<;>simp_all<;>omega
  have d:mQ x y=some (min x y):=by unfold mQ;split<;>simp_all<;>omega
  unfold vJ w_;rw[if_pos (by simp[k])];simp only[zq c,s,p,f,d,im,cG (bytes:=24) (l:=a) (l2:=[(min x y,max x y,b.2.2)]) so so];unfold kQ nk;rw[jT g,jT j];by_cases h:x=y
  ·rw[if_neg (by simp[h]),if_neg (by simp[h])]
  ·rw[if_pos (by simp[h]),if_pos (by simp[h])]
 ·intro a _;unfold vJ;rw[if_neg si]
def Pb(S:Int->Bool)tab:∀(l:List Bd),cN S (l.map (pZ tab))=cN S (l.map (nk tab))
 |[]=>rfl
 | b::l=>by
  simp only[fi,cN,Pb S tab l];congr 1;unfold pZ nk;simp only;rcases Int.le_total (tab.getD b.1.toNat 0) (tab.getD b.2.1.toNat 0)with h | h
  ·rw[Int.min_eq_left h,Int.max_eq_right h]
  ·rw[Int.min_eq_right h,Int.max_eq_left h];by_cases e:S (tab.getD b.1.toNat 0)=S (tab.getD b.2.1.toNat 0)
   ·rw[if_pos e,if_pos e.symm]
   ·rw[if_neg e,if_neg λx=>e x.symm]
def Yp(hn0:1<=n)(hn:n<=100000)(a:bs.length<=100000)(hw:eM n bs)t:
  ∃(m:Nat)(b1 b2:List Bd),xX n bs t=some ((m:Int),b1)/\yw n bs t=some ((m:Int),b2)/\1<=m/\m<=n/\eM m b1/\eM m b2/\b1.length<=100000/\b2.length<=100000/\∀S,cN S b1=cN S b2:=by
 obtain⟨e,d⟩:∃z,z=bs.filter λb=>!decide (b.2.2<t):=⟨_,rfl⟩;have a6:e.length<=bs.length:=by rw[d];exact ep _ _
 have u:eM n e:=pP.2 λb a=>pP.1 hw b (by rw[d]at a;exact(ft.1 a).1);obtain⟨V,O⟩:=QK hn (by omega:e.length<=100000) u;obtain⟨G,H⟩:∃z,z=kH (fQ e<|fH n) n:=⟨_,rfl⟩;rw[←H]at V O;have h:G.length=(dQ (fQ e<|fH n) n).length:=by rw[H];unfold kH;rw[er]
 have E:G.length<=n:=by rw[h];exact AR _ _
 obtain⟨L,_,Q⟩:=MC (by omega:e.length<=100000) u<|Kg n;have q:1<=G.length:=by
  rw[h];obtain⟨r,X⟩:∃r,(fQ e<|fH n)[0]?=some r:=⟨_,dj (by rw[Q.nlen];omega)⟩;obtain⟨r0,r1,_⟩:=Q.root 0 r X;have D:r=0:=by omega
  have:(0:Int)∈dQ (fQ e<|fH n) n:=tE.2 ⟨by omega,by omega,by simpa[D]using X⟩;exact List.length_pos_of_mem this
 have I:∀g∈G,g.length<=100000/\∀x∈g,0<=x/\x<n:=by
  intro g B;rw[H]at B;unfold kH at B;obtain⟨r,_,rfl⟩:=fu.1 B;have:=Bz (fQ e<|fH n) r n;exact⟨by omega,λx F=>⟨(By.1 F).1,(By.1 F).2.1⟩⟩
 obtain⟨tab,N,j,k⟩:=PE hn om q I;have i:∀(g:Bd->Bd),((bs.filter<|kQ tab).map g).length<=100000:=λg=>by
  rw[er];exact gy (ep _ _) a
 have f:∀b∈bs.filter (kQ tab),WB n b/\0<=tab.getD b.1.toNat 0/\tab.getD b.1.toNat 0<G.length/\0<=tab.getD b.2.1.toNat 0/\tab.getD b.2.1.toNat 0<G.length/\tab.getD b.1.toNat 0≠tab.getD b.2.1.toNat 0:=by
  intro b a;obtain⟨h1,A⟩:=ft.1 a;have C:=pP.1 hw b h1;obtain⟨w1,w2,M,w4,w5,v,w⟩:=C;obtain⟨x,F,s⟩:=zU (l:=tab) w1 om;obtain⟨y,hy,p⟩:=zU (l:=tab) M om;have Y:=k x<|fx s;have R:=k y<|fx p;unfold kQ at A;rw[jT s,jT p]at A ⊢;exact⟨⟨w1,w2,M,w4,w5,v,w⟩,Y.1,Y.2,R.1,R.2,by simpa using A⟩
 refine⟨G.length,_,_,?_,?_,q,E,?_,?_,i<|pZ tab,i<|nk tab,λS=>Pb S tab _⟩
 ·unfold xX DV DU;have hd:=Nb bs om (λq0=>DW q0 t) (λb=>decide (b.2.2<t)) (λb _=>rfl);rw[Nj bs om];simp only[im];rw[hd,←d];simp only[im,V,Bx (n:=(n:Int)) om om,bh,N,Yx a hw j]
 ·unfold yw EN EM EL;rw[Zb a t,←d];simp only[im,O,Bx (n:=(n:Int)) om om,bh];rw[←Qr G];simp only[N,im,YA a hw j]
 ·rw[pP];intro b a;obtain⟨c,J,rfl⟩:=fu.1 a;obtain⟨⟨_,_,_,_,_,v,w⟩,Z,a2,P,U,T⟩:=f c J;exact⟨Z,a2,P,U,T,v,w⟩
 ·rw[pP];intro b a;obtain⟨c,J,rfl⟩:=fu.1 a;obtain⟨⟨_,_,_,_,_,v,w⟩,Z,a2,P,U,T⟩:=f c J;unfold nk WB;simp only;omega
def ZI{m b1 b2 t}(h:∀S,cN S b1=cN S b2):Holds m b1 t↔Holds m b2 t:=by
 unfold Holds;constructor
 ·intro a S hS b;rw[←h S];exact a S hS b
 ·intro a S hS b;rw[h S];exact a S hS b
def PH{p1:List ((Int×Int)×Int)}{p0}(hn0:1<=p1.length)(hn:p1.length<=100000)(hb:bs.length<=100000)(hw:eM p1.length bs)(h1:ma p0 p1=some bs)(h2:mL p0 p1=some bs)t:
  ∃a b c d,vY p0 p1 t=some (a,b)/\yv p0 p1 t=some (c,d)/\(if !b then(false,(4:Int))else(a,0))=(c,d):=by
 obtain⟨m,B,D,u,q,E,C,w,k,r,s,l⟩:=Yp hn0 hn hb hw t;unfold vY yv;simp only[h1,h2,u,q,im];by_cases e:(m:Int)>64
 ·rw[if_pos (by simpa using e),if_pos (by simpa using e)];exact⟨_,_,_,_,rfl,rfl,rfl⟩
 ·rw[if_neg (by simpa using e),if_neg (by simpa using e)];obtain⟨a,A,f⟩:=Zh (n:=(m:Int)) om om r w t;simp only[A,im];by_cases g:(m:Int)<2
  ·rw[if_pos (by simpa using g)];have:a=true:=f.2 λS hS ⟨y,hy1,hy2,_⟩=>by omega
   subst this;exact⟨_,_,_,_,rfl,rfl,rfl⟩
  ·rw[if_neg (by simpa using g)];obtain⟨v,p,x,i⟩:=YK (n:=(m:Int)) om om s k;simp only[x,im];refine⟨_,_,_,_,rfl,rfl,?_⟩;have:a=decide (v≥t):=by
    have j:=(i t).trans (ZI l).symm;cases a with
    | true=>symm;simpa using j.2 (f.1 rfl)
    | false=>
     symm;simp only[decide_eq_false_iff_not];intro h;have:=f.2<|j.1 h;cases this
   rw[this];rfl
end
def jU{S:Type}(st:Nat->S)i0 N(ok:Nat->Prop)(F:S->Option (S ⊕ (Unit ⊕ Bool)))(h0:i0<=N)(step:∀i,i0<=i->i<N->(∀j,i0<=j->j<i->ok j)->ok i->F (st i)=some (.inl (st (i+1))))(fail:∀i,i0<=i->i<N->(∀j,i0<=j->j<i->ok j)->¬ok i->F (st i)=some (.inr (.inr false)))(stop:(∀j,i0<=j->j<N->ok j)->F (st N)=some (.inr (.inl ()))):
  (iter F (st i0)=some (.inl ())/\∀i,i0<=i->i<N->ok i)\/(iter F (st i0)=some (.inr false)/\¬ ∀i,i0<=i->i<N->ok i):=by
 classical
 have key:∀d i,i+d=N->i0<=i->(∀j,i0<=j->j<i->ok j)->(iter F (st i)=some (.inl ())/\∀i,i0<=i->i<N->ok i)\/(iter F (st i)=some (.inr false)/\¬ ∀i,i0<=i->i<N->ok i):=by
  intro d
  induction d with
  | zero=>
   intro i hi c a;have:i=N:=by omega
   subst this;exact .inl ⟨zy<|stop a,a⟩
  | succ d ih=>
   intro i hi c a;by_cases b:ok i
   ·rw[zt<|step i c om a b];exact ih (i+1) om om λj e g=>by
     by_cases f:j=i
     ·subst f;exact b
     ·exact a j e om
   ·exact .inr ⟨zy<|fail i c om a b,λh=>b<|h i c om⟩
 exact key (N - i0) i0 om (gv _) λj l k=>by omega
def mX{α:Type}(l:List α)(h:l.length<=2000000)(p:α->Option Bool)(q:α->Bool)(hp:∀b∈l,p b=some (q b))(F:Int->Option (Int ⊕ (Unit ⊕ Int)))(hF:∀i,F i=if decide (i<(l.length:Int))then((idx l i).bind λx=>(p x).bind λb=>if b then(some (.inr (.inr i)))else(some (.inl (aA (i+1)))))else(some (.inr (.inl ())))):
  (iter F 0=some (.inl ())/\∀b∈l,q b=false)\/(∃k:Nat,iter F 0=some (.inr (k:Int))/\k<l.length/\(∀(j:Nat) b,j<k->l[j]?=some b->q b=false)/\∃b,l[k]?=some b/\q b=true):=by
 have key:=zB (F:=F) (λi=>0<=i/\i<=l.length/\∀(j:Nat) b,(j:Int)<i->l[j]?=some b->q b=false) (λi=>(l.length - i).toNat)
  (λz=>match z with | .inl _=>∀b∈l,q b=false | .inr i=>∃k:Nat,i=k/\k<l.length/\(∀(j:Nat) b,j<k->l[j]?=some b->q b=false)/\∃b,l[k]?=some b/\q b=true) ?_ 0 ⟨by omega,by omega,λj b f=>by omega⟩
 ·obtain⟨z,r,n⟩:=key;cases z with
  | inl z=>exact .inl ⟨r,n⟩
  | inr i=>
   obtain⟨k,rfl,e⟩:=n;exact .inr ⟨k,r,e⟩
 ·rintro i ⟨t,u,a⟩;obtain⟨k,rfl⟩:=bg t;rw[hF];by_cases c:k<l.length
  ·have e:l[k]?=some l[k]:=dj c;have g:=hp l[k] (ed c);have s:aA ((k:Int)+1)=(k:Int)+1:=zv om om;have hd:((k:Int)<(l.length:Int)):=by omega
   simp only[hd,decide_true,if_true,zq e,im,g,s];cases hq:q l[k]with
   | true=>right;exact⟨_,rfl,k,rfl,c,λj b f=>a j b om,_,e,hq⟩
   | false=>
    left;refine⟨_,rfl,⟨by omega,by omega,λj b f d=>?_⟩,by omega⟩;by_cases m:j=k
    ·subst m;rw[e]at d;injection d with d;rw[←d];exact hq
    ·exact a j b om d
  ·right;have hd:¬((k:Int)<(l.length:Int)):=by omega
   simp only[hd,decide_false];refine⟨_,rfl,?_⟩;intro b d;obtain⟨j,f⟩:=du d;exact a j b (by have:=zA f;omega) f
abbrev Gl:=List UInt8×Int
abbrev Tl:=List UInt8×List Int
abbrev TSet:=List Gl×List Tl
abbrev Pt:=Int×Int
abbrev aM:=(Int×Int)×Int
def it(c:UInt8):Bool:=(decide (97<=(c.toNat:Int))&&decide ((c.toNat:Int)<=122))||(decide (65<=(c.toNat:Int))&&decide ((c.toNat:Int)<=90))
def jX(c:UInt8):Bool:=decide (48<=(c.toNat:Int))&&decide ((c.toNat:Int)<=57)
def NameOk(s:List UInt8):Prop:=1<=s.length/\s.length<=12/\∀(i:Nat)(c:UInt8),s[i]?=some c->it c=true\/(1<=i/\(jX c=true\/(c.toNat:Int)=95))
def Hh(c:UInt8):sv (c.toNat:Int)=some (it c):=by
 unfold sv it;by_cases a:97<=(c.toNat:Int)<;>by_cases b:(c.toNat:Int)<=122<;>by_cases e:65<=(c.toNat:Int)<;>by_cases d:(c.toNat:Int)<=90<;>simp[*]<;>omega
def Nw(c:UInt8):yO (c.toNat:Int)=some (jX c):=by
 unfold yO jX;by_cases a:48<=(c.toNat:Int)<;>by_cases b:(c.toNat:Int)<=57<;>simp[*]<;>omega
def Zf(s:List UInt8)(h:s.length<=2000000):∃b,mR s=some b/\(b=true↔NameOk s):=by
 unfold mR sA;by_cases t:s.length<1
 ·rw[if_pos so,if_pos rfl];exact⟨_,rfl,by simp;unfold NameOk;omega⟩
 ·rw[if_neg so];by_cases r:s.length>12
  ·rw[if_pos so,if_pos rfl];exact⟨_,rfl,by simp;unfold NameOk;omega⟩
  ·rw[if_neg so];have g:s[0]?=some s[0]:=dj om;have n:idx s 0=some s[0]:=zq (i:=0) g;simp only[n,im,Hh];cases hl:it s[0]with
   | false=>
    refine⟨false,rfl,by simp;rintro⟨_,_,p⟩;have:=p 0 _ g;rw[hl]at this;simp at this⟩
   | true=>
    rw[if_neg si];have key:=jU (λi=>(i:Int)) 1 s.length (λi=>∀c,s[i]?=some c->it c=true\/jX c=true\/(c.toNat:Int)=95) (mq s) om ?_ ?_ ?_;rcases key with⟨j,k⟩ |⟨j,hnot⟩
    ·have j:iter (mq s) 1=some (.inl ()):=j;rw[j];refine⟨true,rfl,λ_=>⟨by omega,by omega,λi c a=>?_⟩,λ_=>rfl⟩;cases i with
     | zero=>rw[g]at a;injection a with a;rw[←a];exact .inl hl
     | succ i=>
      rcases k (i+1) om (zA a) c a with h | h
      ·exact .inl h
      ·exact .inr ⟨by omega,h⟩
    ·have j:iter (mq s) 1=some (.inr false):=j;rw[j];refine⟨false,rfl,λh=>(by cases h),λq=>absurd (λi l hi c a=>?_) hnot⟩;rcases q.2.2 i c a with h | h
     ·exact .inl h
     ·exact .inr h.2
    ·intro i l hi _ f;unfold mq;have a:s[i]?=some s[i]:=dj hi;rw[if_pos (by simp[hi])];simp only[zq a,im,Hh,Nw];have m:aA ((i:Int)+1)=((i+1:Nat):Int):=by rw[zv om om];omega
     unfold pb;rcases f _ a with h | h | h
     ·simp[h,m]
     ·simp[h,m]
     ·simp[h,m]
    ·intro i l hi _ f;unfold mq;have a:s[i]?=some s[i]:=dj hi;rw[if_pos (by simp[hi])];simp only[zq a,im,Hh,Nw];unfold pb;have d:¬(it s[i]=true\/jX s[i]=true\/(s[i].toNat:Int)=95):=λh=>f λc e=>by rw[a]at e;injection e with e;rw[←e];exact h
     simp only[not_or,Bool.not_eq_true]at d;simp[d.1,d.2.1,d.2.2]
    ·intro _;unfold mq;rw[if_neg si]
def ZH(s:List UInt8)(h:s.length<=2000000):∃b,mS s=some b/\(b=true↔NameOk s):=by
 have e:∀(i:Nat)(c:UInt8),s[i]?=some c->mH s (i:Int)=ky (i:Int) c (it c):=by
  intro i c d;have hi:=zA d;unfold mH;rw[if_pos (by simp[hi])];simp only[zq d,im];unfold it;by_cases t:97<=(c.toNat:Int)<;>by_cases w:(c.toNat:Int)<=122<;>by_cases y:65<=(c.toNat:Int)<;>by_cases x:(c.toNat:Int)<=90<;>simp[*]<;>omega
 unfold mS Gm;have key:=jU (λi=>(i:Int)) 0 s.length (λi=>∀c,s[i]?=some c->it c=true\/(1<=i/\(jX c=true\/(c.toNat:Int)=95))) (mH s) om ?_ ?_ ?_;rcases key with⟨j,q⟩ |⟨j,hnot⟩
 ·have j:iter (mH s) 0=some (.inl ()):=j;rw[j];by_cases t:1<=s.length
  ·refine⟨decide ((s.length:Int)<=12),by simp;omega,?_⟩;simp only[decide_eq_true_eq];exact⟨λw=>⟨t,by omega,λi c d=>q i om (zA d) c d⟩,λp=>by have:=p.2.1;omega⟩
  ·refine⟨false,by simp;intro h;omega,λh=>(by cases h),λp=>absurd p.1 t⟩
 ·have j:iter (mH s) 0=some (.inr false):=j;rw[j];exact⟨false,rfl,λh=>(by cases h),λp=>absurd (λi _ hi c d=>p.2.2 i c d) hnot⟩
 ·intro i v hi _ k;have d:s[i]?=some s[i]:=dj hi;rw[e i _ d];have n:aA ((i:Int)+1)=((i+1:Nat):Int):=by rw[zv om om];omega
  unfold ky lq;rcases k _ d with h |⟨h0,h | h⟩
  ·simp[h,n]
  ·unfold jX at h;simp at h;cases u:it s[i]with
   | true=>simp[n]
   | false=>
    have l:¬((i:Int)=0):=by omega
    have m:¬((s[i].toNat:Int)<48):=by omega
    have r:¬((s[i].toNat:Int)>57):=by omega
    simp only[l,m,r,decide_false];simp[n]
  ·cases u:it s[i]with
   | true=>simp[n]
   | false=>
    have l:¬((i:Int)=0):=by omega
    have m:¬((s[i].toNat:Int)<48):=by omega
    have r:((s[i].toNat:Int)>57):=by omega
    simp only[l,m,r,decide_false,decide_true,h];simp[n]
 ·intro i v hi _ k;have d:s[i]?=some s[i]:=dj hi;rw[e i _ d];unfold ky lq;have g:¬(it s[i]=true\/(1<=i/\(jX s[i]=true\/(s[i].toNat:Int)=95))):=λh=>k λc f=>by rw[d]at f;injection f with f;rw[←f];exact h
  rw[not_or]at g;have u:it s[i]=false:=by simpa using g.1
  rw[u];by_cases l:(i:Int)=0
  ·simp[l]
  ·have a:¬(jX s[i]=true\/(s[i].toNat:Int)=95):=λh=>g.2 ⟨by omega,h⟩;rw[not_or]at a;have hd:=a.1;unfold jX at hd;simp at hd;by_cases m:(s[i].toNat:Int)<48
   ·simp only[l,m,decide_false,decide_true,a.2];simp
   ·have r:(s[i].toNat:Int)>57:=by omega
    simp only[l,m,r,decide_false,decide_true,a.2];simp
 ·intro _;unfold mH;rw[if_neg si]
theorem kF(s:List UInt8)(h:s.length<=2000000):∃b,mS s=some b/\mR s=some b/\(b=true↔NameOk s):=by
 obtain⟨a,c,d⟩:=ZH s h;obtain⟨b,e,f⟩:=Zf s h;have:a=b:=by
  cases a<;>cases b<;>simp_all
 subst this;exact⟨a,c,e,d⟩
def fD a b c:f_ a b c=some (decide (b<=a/\a<=c)):=by
 unfold f_;by_cases d:a≥b<;>by_cases e:a<=c<;>simp[*]<;>omega
def gM a b c:eO a b c=some (decide (b<=a/\a<=c)):=by
 unfold eO;by_cases d:a≥b<;>by_cases e:a<=c<;>simp[*]<;>omega
def GlueOk(set:TSet)(i:Nat):Prop:=∀g,set.1[i]?=some g->NameOk g.1/\1<=g.2/\g.2<=4/\∀(j:Nat)(g':Gl),j<i->set.1[j]?=some g'->g'.1≠g.1
def TileOk(set:TSet)(i:Nat):Prop:=∀t,set.2[i]?=some t->NameOk t.1/\t.2.length=4/\(∀(j:Nat)(t':Tl),j<i->set.2[j]?=some t'->t'.1≠t.1)/\∀x∈t.2,0<=x/\x<=set.1.length
structure SetOk(set:TSet):Prop where
 glues:set.1.length<=200
 tiles1:1<=set.2.length
 tiles:set.2.length<=160
 glue:∀i,i<set.1.length->GlueOk set i
 tile:∀i,i<set.2.length->TileOk set i
structure Tame(set:TSet):Prop where
 g:set.1.length<=1048576
 t:set.2.length<=1048576
 gn:∀x∈set.1,x.1.length<=1048576
 tn:∀x∈set.2,x.1.length<=1048576
 ts:∀x∈set.2,x.2.length<=1048576
def AH{α:Type}(l:List (List UInt8×α))s:(cB (l.map λg=>(g.1,true)) s).getD false=true↔∃g∈l,g.1=s:=by
 induction l with
 | nil=>simp[cB]
 | cons g l ih=>
  unfold cB at ih ⊢;rw[fi,List.find?_cons];by_cases h:g.1=s
  ·simp[h]
  ·simp only[h,decide_false];rw[ih];simp[h]
def ZB{α:Type}(l:List (List UInt8×α))s:cW (l.map λg=>(g.1,true)) s=true↔∃g∈l,g.1=s:=by
 rw[OL];simp
def NG{α:Type}{l:List (List UInt8×α)}{g:List UInt8×α}(h:¬ ∃g'∈l,g'.1=g.1):bQ (l.map λg=>(g.1,true)) g.1 true=(l++[g]).map λg=>(g.1,true):=by
 rw[OJ (by cases hh:cW (l.map λg=>(g.1,true)) g.1 with | false=>rfl | true=>exact absurd ((ZB l g.1).1 hh) h)];simp
def tF{α:Type}{l:List α}{x:α}{i}(h:l[i]?=some x):l.take (i+1)=l.take i++[x]:=by
 rw[gl,h];rfl
def AE{α:Type}{l:List α}{P:α->Prop}{i}(hi:i<=l.length):(∃g∈l.take i,P g)↔∃(j:Nat)(g:α),j<i/\l[j]?=some g/\P g:=by
 constructor
 ·rintro⟨g,c,b⟩;obtain⟨j,a⟩:=du c;have:=zA a;rw[fd]at this;rw[ec,if_pos om]at a;exact⟨j,g,by omega,a,b⟩
 ·rintro⟨j,g,a,c,b⟩;exact⟨g,fx (i:=j) (by rw[ec,if_pos a];exact c),b⟩
def lH(l:List Int)(m:Int):Bool:=l.all λx=>decide (0<=x/\x<=m)
def AO{l m}:lH l m=true↔∀x∈l,0<=x/\x<=m:=by
 unfold lH;simp
def MD(l:List Int)(hl:l.length<=1048576)(set:TSet):vu l (λq0=>mu q0 set)=some (!lH l set.1.length):=by
 unfold vu Do CP;have hp:∀b∈l,(λq0=>mu q0 set) b=some (!decide (0<=b/\b<=(set.1.length:Int))):=by
  intro b _;simp only[mu,fD,im]
 rcases mX l om (λq0=>mu q0 set) (λb=>!decide (0<=b/\b<=(set.1.length:Int))) hp (Ku l λq0=>mu q0 set) (λi=>rfl)with⟨c,a⟩ |⟨k,c,hk,_,b,hb,hq⟩
 ·rw[c];have:lH l set.1.length=true:=by
   rw[AO];intro x d;have:=a x d;simpa using this
  simp[this]
 ·rw[c];have:lH l set.1.length=false:=by
   cases h:lH l set.1.length with
   | false=>rfl
   | true=>
    have e:=AO.1 h b<|fx hb;simp at hq;omega
  simp[this]
def Yk(set:TSet)(hT:Tame set):∃b,sR set=some b/\(b=true↔SetOk set):=by
 unfold sR xm;by_cases F:(set.1.length:Int)>200
 ·rw[if_pos so,if_pos rfl];exact⟨_,rfl,λh=>(by cases h),λh=>by have:=h.glues;omega⟩
 rw[if_neg so,fD];simp only[im];by_cases E:1<=(set.2.length:Int)/\(set.2.length:Int)<=160
 rotate_left
 ·rw[if_pos so];exact⟨_,rfl,λh=>(by cases h),λh=>absurd ⟨by have:=h.tiles1;omega,by have:=h.tiles;omega⟩ E⟩
 rw[if_neg so];have key:=jU (λi=>((i:Int),(set.1.take i).map λg=>(g.1,true))) 0 set.1.length (GlueOk set) (mf set) om ?_ ?_ ?_;rcases key with⟨r,x⟩ |⟨r,hnot⟩
 ·have r:iter (mf set) (0,[])=some (.inl ()):=r;rw[r];simp only[im];unfold EP EO;have key:=jU (λi=>((i:Int),(set.2.take i).map λg=>(g.1,true))) 0 set.2.length (TileOk set) (mc set) om ?_ ?_ ?_;rcases key with⟨f,v⟩ |⟨f,hnot2⟩
  ·have f:iter (mc set) (0,[])=some (.inl ()):=f;rw[f];exact⟨true,rfl,λ_=>⟨by omega,by omega,by omega,λi hi=>x i om hi,λi hi=>v i om hi⟩,λ_=>rfl⟩
  ·have f:iter (mc set) (0,[])=some (.inr false):=f;rw[f];exact⟨false,rfl,λh=>(by cases h),λh=>absurd (λi _ hi=>h.tile i hi) hnot2⟩
  ·intro i _ hi _ k;have m:set.2[i]?=some set.2[i]:=dj hi;obtain⟨o1,o2,B,C⟩:=k _ m;obtain⟨b,p,_,l⟩:=kF set.2[i].1 (by have:=hT.tn _<|ed hi;omega);have w:b=true:=l.2 o1;subst w;have a:¬ ∃g∈set.2.take i,g.1=set.2[i].1:=by
    rw[AE om];rintro⟨j,g,u,q,e⟩;exact B j g u q e
   have c:(cB ((set.2.take i).map λg=>(g.1,true)) set.2[i].1).getD false=false:=by
    cases hh:(cB ((set.2.take i).map λg=>(g.1,true)) set.2[i].1).getD false with
    | false=>rfl
    | true=>exact absurd ((AH _ _).1 hh) a
   have A:aA ((i:Int)+1)=((i+1:Nat):Int):=by rw[zv om om];omega
   unfold mc oX;rw[if_pos (by simp[hi])];simp only[zq m,im,p,c,MD _ (by omega:set.2[i].2.length<=1048576),A,NG a,←tF m,o2];have:lH set.2[i].2 set.1.length=true:=AO.2 C;simp[this]
  ·intro i _ hi _ k;have m:set.2[i]?=some set.2[i]:=dj hi;obtain⟨b,p,_,l⟩:=kF set.2[i].1 (by have:=hT.tn _<|ed hi;omega);unfold mc oX;rw[if_pos (by simp[hi])];simp only[zq m,im,p];cases b with
   | false=>simp
   | true=>
    rw[if_neg si];have d:=l.1 rfl;cases c:(cB ((set.2.take i).map λg=>(g.1,true)) set.2[i].1).getD false with
    | true=>simp
    | false=>
     rw[if_neg si];have a:¬ ∃g∈set.2.take i,g.1=set.2[i].1:=λh=>by
      rw[(AH _ _).2 h]at c;cases c
     rw[AE om]at a;by_cases D:set.2[i].2.length=4
     ·simp only[D];rw[if_neg si,MD _ om];have:¬lH set.2[i].2 set.1.length=true:=λy=>k λt n=>by
       rw[m]at n;injection n with n;subst n
       exact⟨d,D,λj t' u s e=>a ⟨j,t',u,s,e⟩,AO.1 y⟩
      simp[this]
     ·rw[if_pos so]
  ·intro _;unfold mc;rw[if_neg si]
 ·have r:iter (mf set) (0,[])=some (.inr false):=r;rw[r];exact⟨false,rfl,λh=>(by cases h),λh=>absurd (λi _ hi=>h.glue i hi) hnot⟩
 ·intro i _ hi _ k;have m:set.1[i]?=some set.1[i]:=dj hi;obtain⟨o1,o2,B,C⟩:=k _ m;obtain⟨b,p,_,l⟩:=kF set.1[i].1 (by have:=hT.gn _<|ed hi;omega);have w:b=true:=l.2 o1;subst w;have a:¬ ∃g∈set.1.take i,g.1=set.1[i].1:=by
   rw[AE om];rintro⟨j,g,u,q,e⟩;exact C j g u q e
  have c:(cB ((set.1.take i).map λg=>(g.1,true)) set.1[i].1).getD false=false:=by
   cases hh:(cB ((set.1.take i).map λg=>(g.1,true)) set.1[i].1).getD false with
   | false=>rfl
   | true=>exact absurd ((AH _ _).1 hh) a
  have A:aA ((i:Int)+1)=((i+1:Nat):Int):=by rw[zv om om];omega
  unfold mf oU;rw[if_pos (by simp[hi])];simp only[zq m,im,p,c,fD,A,NG a,←tF m];simp[o2,B]
 ·intro i _ hi _ k;have m:set.1[i]?=some set.1[i]:=dj hi;obtain⟨b,p,_,l⟩:=kF set.1[i].1 (by have:=hT.gn _<|ed hi;omega);unfold mf oU;rw[if_pos (by simp[hi])];simp only[zq m,im,p,fD];cases b with
  | false=>simp
  | true=>
   rw[if_neg si];have d:=l.1 rfl;cases c:(cB ((set.1.take i).map λg=>(g.1,true)) set.1[i].1).getD false with
   | true=>simp
   | false=>
    rw[if_neg si];have a:¬ ∃g∈set.1.take i,g.1=set.1[i].1:=λh=>by
     rw[(AH _ _).2 h]at c;cases c
    rw[AE om]at a;have:¬(1<=set.1[i].2/\set.1[i].2<=4):=λy=>k λt n=>by
     rw[m]at n;injection n with n;subst n
     exact⟨d,y.1,y.2,λj t' u s e=>a ⟨j,t',u,s,e⟩⟩
    simp[this]
 ·intro _;unfold mf;rw[if_neg si]
def NN(set:TSet)(h:set.1.length<=1048576)s:
  (pz set s=some 0/\∀g∈set.1,g.1≠s)\/∃k:Nat,pz set s=some ((k:Int)+1)/\k<set.1.length/\(∀(j:Nat) g,j<k->set.1[j]?=some g->g.1≠s)/\∃g,set.1[k]?=some g/\g.1=s:=by
 unfold pz FJ;have key:=zB (F:=Eo set s) (λi=>0<=i/\i<=set.1.length/\∀(j:Nat) g,(j:Int)<i->set.1[j]?=some g->g.1≠s) (λi=>(set.1.length - i).toNat)
  (λz=>match z with | .inl _=>∀g∈set.1,g.1≠s | .inr i=>∃k:Nat,i=(k:Int)+1/\k<set.1.length/\(∀(j:Nat) g,j<k->set.1[j]?=some g->g.1≠s)/\∃g,set.1[k]?=some g/\g.1=s) ?_ 0 ⟨by omega,by omega,λj b f=>by omega⟩
 ·obtain⟨z,r,n⟩:=key;rw[r];cases z with
  | inl z=>exact .inl ⟨rfl,n⟩
  | inr i=>
   obtain⟨k,rfl,e⟩:=n;exact .inr ⟨k,rfl,e⟩
 ·rintro i ⟨q,t,a⟩;obtain⟨k,rfl⟩:=bg q;unfold Eo;by_cases c:k<set.1.length
  ·have e:set.1[k]?=some set.1[k]:=dj c;have p:aA ((k:Int)+1)=(k:Int)+1:=zv om om;rw[if_pos (by simp[c])];simp only[zq e,im,p];by_cases l:set.1[k].1=s
   ·right;rw[if_pos (by simp[l])];exact⟨_,rfl,k,rfl,c,λj b f=>a j b om,_,e,l⟩
   ·left;rw[if_neg (by simp[l])];refine⟨_,rfl,⟨by omega,by omega,λj b f d=>?_⟩,by omega⟩;by_cases m:j=k
    ·subst m;rw[e]at d;injection d with d;rw[←d];exact l
    ·exact a j b om d
  ·right;rw[if_neg so];refine⟨_,rfl,?_⟩;intro b d;obtain⟨j,f⟩:=du d;exact a j b (by have:=zA f;omega) f
def NK(set:TSet)(h:set.2.length<=1048576)s:
  (py set s=some (-1)/\∀g∈set.2,g.1≠s)\/∃k:Nat,py set s=some (k:Int)/\k<set.2.length/\(∀(j:Nat) g,j<k->set.2[j]?=some g->g.1≠s)/\∃g,set.2[k]?=some g/\g.1=s:=by
 unfold py FH;rcases mX set.2 om (λt=>some<|decide (t.1=s)) (λt=>decide (t.1=s)) (λ_ _=>rfl) (La set s) (λi=>rfl)with⟨d,a⟩ |⟨k,d,hk,hlow,b,hb,hq⟩
 ·rw[d];exact .inl ⟨rfl,λg c=>by simpa using a g c⟩
 ·rw[d];exact .inr ⟨k,rfl,hk,λj g e c=>by simpa using hlow j g e c,b,hb,by simpa using hq⟩
def NJ(set:TSet)(t:Tl)(h4:t.2.length=4):(iter (sE set t) 0=some (.inl ())/\∀x∈t.2,0<=x/\x<=(set.1.length:Int))\/(iter (sE set t) 0=some (.inr (.inr (.inr false)))/\¬ ∀x∈t.2,0<=x/\x<=(set.1.length:Int)):=by
 have key:=zB (F:=sE set t) (λi=>0<=i/\i<=4/\∀(j:Nat) x,(j:Int)<i->t.2[j]?=some x->0<=x/\x<=(set.1.length:Int)) (λi=>(4 - i).toNat)
  (λz=>(z=.inl ()/\∀x∈t.2,0<=x/\x<=(set.1.length:Int))\/(z=.inr (.inr<|.inr false)/\¬ ∀x∈t.2,0<=x/\x<=(set.1.length:Int))) ?_ 0 ⟨by omega,by omega,λj b f=>by omega⟩
 ·obtain⟨z,m,p⟩:=key;rcases p with⟨rfl,h⟩ |⟨rfl,h⟩
  ·exact .inl ⟨m,h⟩
  ·exact .inr ⟨m,h⟩
 ·rintro i ⟨q,r,a⟩;obtain⟨k,rfl⟩:=bg q;unfold sE;by_cases d:(k:Int)<4
  ·have g:t.2[k]?=some (t.2[k]'om):=dj om;have n:aA ((k:Int)+1)=(k:Int)+1:=zv om om;rw[if_pos (by simpa using d)];simp only[zq g,im,n,gM];by_cases e:0<=t.2[k]'om/\t.2[k]'om<=(set.1.length:Int)
   ·left;rw[if_neg (by simp[e])];refine⟨_,rfl,⟨by omega,by omega,λj b f c=>?_⟩,by omega⟩;by_cases l:j=k
    ·subst l;rw[g]at c;injection c with c;rw[←c];exact e
    ·exact a j b om c
   ·right;rw[if_pos (by simp only[e,decide_false];rfl)];exact⟨_,rfl,.inr ⟨rfl,λh=>e<|h _<|fx g⟩⟩
  ·right;rw[if_neg (by simpa using d)];refine⟨_,rfl,.inl ⟨rfl,?_⟩⟩;intro b c;obtain⟨j,f⟩:=du c;exact a j b (by have:=zA f;omega) f
def X_(set:TSet)(hT:Tame set):∃b,pF set=some b/\(b=true↔SetOk set):=by
 unfold pF sM;by_cases F:(set.1.length:Int)>200
 ·rw[if_pos so,if_pos rfl];exact⟨_,rfl,λh=>(by cases h),λh=>by have:=h.glues;omega⟩
 rw[if_neg so];by_cases D:(set.2.length:Int)<1
 ·rw[if_pos (by simpa using D),if_pos rfl];exact⟨_,rfl,λh=>(by cases h),λh=>by have:=h.tiles1;omega⟩
 rw[if_neg (by simpa using D)];by_cases E:(set.2.length:Int)>160
 ·rw[if_pos (by simpa using E)];exact⟨_,rfl,λh=>(by cases h),λh=>by have:=h.tiles;omega⟩
 rw[if_neg (by simpa using E)];have key:=jU (λi=>(i:Int)) 0 set.1.length (GlueOk set) (mz set) om ?_ ?_ ?_;rcases key with⟨p,w⟩ |⟨p,hnot⟩
 ·have p:iter (mz set) 0=some (.inl ()):=p;rw[p];simp only[im];unfold GI GH;have key:=jU (λi=>(i:Int)) 0 set.2.length (TileOk set) (my set) om ?_ ?_ ?_;rcases key with⟨c,r⟩ |⟨c,hnot2⟩
  ·have c:iter (my set) 0=some (.inl ()):=c;rw[c];exact⟨true,rfl,λ_=>⟨by omega,by omega,by omega,λi hi=>w i om hi,λi hi=>r i om hi⟩,λ_=>rfl⟩
  ·have c:iter (my set) 0=some (.inr false):=c;rw[c];exact⟨false,rfl,λh=>(by cases h),λh=>absurd (λi _ hi=>h.tile i hi) hnot2⟩
  ·intro i _ hi _ d;have m:set.2[i]?=some set.2[i]:=dj hi;obtain⟨o1,o2,A,B⟩:=d _ m;obtain⟨b,_,n,f⟩:=kF set.2[i].1 (by have:=hT.tn _<|ed hi;omega);have s:b=true:=f.2 o1;subst s;have v:aA ((i:Int)+1)=((i+1:Nat):Int):=by rw[zv om om];omega
   have l:py set set.2[i].1=some (i:Int):=by
    rcases NK set hT.t set.2[i].1 with⟨_,h⟩ |⟨k,hk,hkl,hlow,g,hg',e⟩
    ·exact absurd rfl<|h _<|ed hi
    ·rw[hk];congr 2;rcases ig k i with h | h | h
     ·exact absurd e<|A k g h hg'
     ·exact h
     ·exact absurd rfl<|hlow i _ h m
   unfold my pn yN;rw[if_pos (by simp[hi])];rcases NJ set set.2[i] o2 with⟨hs,_⟩ |⟨_,hs⟩
   ·simp[zq m,n,o2,l,hs,v]
   ·exact absurd B hs
  ·intro i _ hi _ d;have m:set.2[i]?=some set.2[i]:=dj hi;obtain⟨b,_,n,f⟩:=kF set.2[i].1 (by have:=hT.tn _<|ed hi;omega);unfold my pn yN;rw[if_pos (by simp[hi])];simp only[zq m,im,n];cases b with
   | false=>simp
   | true=>
    rw[if_neg si];have a:=f.1 rfl;by_cases y:set.2[i].2.length=4
    rotate_left
    ·rw[if_pos so];rfl
    rw[if_neg (by simp[y])];rcases NK set hT.t set.2[i].1 with⟨_,h⟩ |⟨k,hk,hkl,hlow,g,hg',e⟩
    ·exact absurd rfl<|h _<|ed hi
    ·simp only[hk,im];by_cases u:k=i
     ·subst u;rw[if_neg si];rcases NJ set set.2[k] y with⟨_,hs⟩ |⟨hs,_⟩
      ·refine absurd (λt l=>?_) d;rw[m]at l;injection l with l;subst l
       exact⟨a,y,λj t' C q=>hlow j t' C q,hs⟩
      ·simp[hs]
     ·rw[if_pos so]
  ·intro _;unfold my;rw[if_neg si]
 ·have p:iter (mz set) 0=some (.inr false):=p;rw[p];exact⟨false,rfl,λh=>(by cases h),λh=>absurd (λi _ hi=>h.glue i hi) hnot⟩
 ·intro i _ hi _ d;have m:set.1[i]?=some set.1[i]:=dj hi;obtain⟨o1,o2,A,B⟩:=d _ m;obtain⟨b,_,n,f⟩:=kF set.1[i].1 (by have:=hT.gn _<|ed hi;omega);have s:b=true:=f.2 o1;subst s;have v:aA ((i:Int)+1)=((i+1:Nat):Int):=by rw[zv om om];omega
  have l:pz set set.1[i].1=some ((i+1:Nat):Int):=by
   rcases NN set hT.g set.1[i].1 with⟨_,h⟩ |⟨k,hk,hkl,hlow,g,hg',e⟩
   ·exact absurd rfl<|h _<|ed hi
   ·rw[hk];congr 1;have:k=i:=by
     rcases ig k i with h | h | h
     ·exact absurd e<|B k g h hg'
     ·exact h
     ·exact absurd rfl<|hlow i _ h m
    omega
  unfold mz pm;rw[if_pos (by simp[hi])];simp[zq m,n,l,v,gM,o2,A]
 ·intro i _ hi _ d;have m:set.1[i]?=some set.1[i]:=dj hi;obtain⟨b,_,n,f⟩:=kF set.1[i].1 (by have:=hT.gn _<|ed hi;omega);have v:aA ((i:Int)+1)=((i+1:Nat):Int):=by rw[zv om om];omega
  unfold mz pm;rw[if_pos (by simp[hi])];simp only[zq m,im,n,gM];cases b with
  | false=>simp
  | true=>
   rw[if_neg si];have a:=f.1 rfl;by_cases x:1<=set.1[i].2/\set.1[i].2<=4
   rotate_left
   ·rw[if_pos (by simp only[x,decide_false];rfl)];rfl
   rw[if_neg (by simp[x])];rcases NN set hT.g set.1[i].1 with⟨_,h⟩ |⟨k,hk,hkl,hlow,g,hg',e⟩
   ·exact absurd rfl<|h _<|ed hi
   ·simp only[hk,im,v];have u:k≠i:=λh=>by
     subst h;exact d λt l=>by
      rw[m]at l;injection l with l;subst l
      exact⟨a,x.1,x.2,λj t' C q=>hlow j t' C q⟩
    rw[if_pos so]
 ·intro _;unfold mz;rw[if_neg si]
theorem Hg(set:TSet)(hT:Tame set):∃b,sR set=some b/\pF set=some b/\(b=true↔SetOk set):=by
 obtain⟨a,c,d⟩:=Yk set hT;obtain⟨b,e,f⟩:=X_ set hT;have:a=b:=by
  cases a<;>cases b<;>simp_all
 subst this;exact⟨a,c,e,d⟩
end Go.Lf
