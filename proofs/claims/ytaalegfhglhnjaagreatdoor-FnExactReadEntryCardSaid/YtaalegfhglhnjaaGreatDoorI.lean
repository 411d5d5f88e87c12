import Derived.Test.YtaalegfhglhnjaaGreatDoorC
set_option linter.all false
namespace Go.Lf
open Go
section
variable{p:Prop}{α:Sort _}(x:α){β:Sort _}(y:β){γ:Sort _}(z:γ){δ:Sort _}(u:δ){ε:Sort _}(v:ε){ζ:Sort _}(w:ζ){η:Sort _}(t:η){θ:Sort _}(s:θ){ι:Sort _}(q:ι){ν:Sort _}(n:ν){ξ:Sort _}(m:ξ){ο:Sort _}(k:ο){ρ:Sort _}(g:ρ){φ:Sort _}(c:φ)
def F5(h:p:=by exact ki set.2[i].1 (U0 hT.tn)):=h
def I0(h:p:=by exact ki set.1[i].1 (U0 hT.gn)):=h
def T7(h:p:=by exact⟨false,rfl,A9,λh=>x4 (λi _ hi=>h.tile i hi) hnot2⟩):=h
def U0(h:let x:=x;p:=by intro x;have:=x _<|dm hi;omega):=h
def J9(h:p:=by exact ⟨_,cn (by rw[hL.nlen];omega)⟩):=h
def Q8(h:let x:=x;let z:=z;p:=by intro x z;exact⟨true,rfl,λ_=>⟨by omega,by omega,by omega,λi hi=>x i om hi,λi hi=>z i om hi⟩,λ_=>rfl⟩):=h
def P7(h:p:=by rw[ϙ so];exact⟨_,rfl,by rw[hL,show i.toNat=n by omega]⟩):=h
def O7(h:p:=by unfold bB;rw[Ϙ ⟨by omega,by omega,by omega⟩]):=h
end
def gB{a:Type}{l:List a}{i:Int}{x:a}(h0:0<=i)(h:l[i.toNat]?=some x):idx l i=some x:=by
 unfold idx;rw[Ϙ h0];exact h
def Ia{a:Type}{l:List a}{i:Int}(h0:0<=i)(h1:i<l.length):idx l i=some (l[i.toNat]'om):=gB h0 (by rw[cn om])
def zY{a:Type}{l:List a}{i:Int}(h0:0<=i)(h1:i<l.length):∃x,idx l i=some x/\l[i.toNat]?=some x:=⟨_,Ia h0 h1,by rw[cn om]⟩
def zO{α:Type}{l l2:List α}{bytes}(h:(l.length+l2.length)*bytes<=140737488355328)(h2:l.length+l2.length<=9223372036854775807):aX bytes l l2=some (l++l2):=by
 unfold aX;rw[Ϙ ⟨h,h2⟩]
def Co{b:Type}{n:Int}{z:b}{bytes}(h0:0<=n)(h1:n<=2000000)(hb:bytes<=1000):eM bytes n z=some (List.replicate n.toNat z):=by
 have a:n*bytes<=2000000*1000:=Int.mul_le_mul h1 om om om;unfold eM;rw[Ϙ ⟨h0,by omega,by omega⟩]
def zt{n}(h0 : -1000000000000<=n)(h1:n<=1000000000000):aB n=n:=dH ⟨by omega,by omega⟩
def zZ{a:Type}{l:List a}{x:a}{i}(h:i<l.length):(l.set i x)[i]?=some x:=by simp[h]
def zK{a:Type}{l:List a}{x:a}{i j}(h:i≠j):(l.set i x)[j]?=l[j]?:=by simp[h]
def zz{a:Type}{l:List a}{x:a}{i}(h:l[i]?=some x):i<l.length:=(cv.1 h).1
def uQ{b:Type}(p:b->Bool):∀{l:List b} {i:Nat} {x y:b},l[i]?=some x->p x=true->p y=false->(l.set i y).countP p+1=l.countP p
 |[],i,x,y,h,_,_=>x6 h
 | a::l,0,x,y,h,hx,hy=>by
  simp at h;subst h;simp[hx,hy]
 | a::l,i+1,x,y,h,hx,hy=>by
  simp at h;have:=uQ p h hx hy;simp only[List.set_cons_succ,List.countP_cons];omega
abbrev Bd:=Int×Int×Int
def bZ(b:Bool):Int:=if b=true then 1 else 0
def cJ(S:Int->Bool):List Bd->Int
 |[]=>0
 | b::bs=>(if S b.1=S b.2.1 then 0 else b.2.2)+cJ S bs
def dA(S:Int->Bool):List Bd->List Int->Int
 | b::bs,f::fl=>f*(bZ (S b.1) - bZ (S b.2.1))+dA S bs fl
 | _,_=>0
def FW{S:Int->Bool}:∀{bs:List Bd} {fl:List Int},fl.length=bs.length->(∀(k:Nat)(b:Bd)(f:Int),bs[k]?=some b->fl[k]?=some f -> -b.2.2<=f/\f<=b.2.2)->dA S bs fl<=cJ S bs
 |[],fl,_,_=>by simp[dA,cJ]
 | b::bs,[],h,_=>x6 h
 | b::bs,f::fl,h,hf=>by
  have l:=hf 0 b f rfl rfl;have j:=FW (S:=S) (bs:=bs) (fl:=fl) (϶ h) (λk d c i a=>hf (k+1) d c i a);simp only[dA,cJ];cases hA:S b.1<;>cases hB:S b.2.1<;>simp[bZ]<;>omega
def Nz{S:Int->Bool}:∀{bs:List Bd} {fl:List Int},fl.length=bs.length->
  (∀(k:Nat)(b:Bd)(f:Int),bs[k]?=some b->fl[k]?=some f->(S b.1=true->S b.2.1=false->f=b.2.2)/\(S b.1=false->S b.2.1=true->f = -b.2.2))->dA S bs fl=cJ S bs
 |[],fl,_,_=>by simp[dA,cJ]
 | b::bs,[],h,_=>x6 h
 | b::bs,f::fl,h,hf=>by
  have c:=hf 0 b f rfl rfl;have d:=Nz (S:=S) (bs:=bs) (fl:=fl) (϶ h) (λk j i l a=>hf (k+1) j i l a);simp only[dA,cJ,d];cases hA:S b.1<;>cases hB:S b.2.1<;>simp[bZ]
  ·have:=c.2 hA hB;omega
  ·have:=c.1 hA hB;omega
def GQ{S:Int->Bool}:∀{bs:List Bd} {fl:List Int} {k:Nat} {b:Bd} {f f':Int},bs[k]?=some b->fl[k]?=some f->
  dA S bs (fl.set k f')=dA S bs fl+(f' - f)*(bZ (S b.1) - bZ (S b.2.1))
 |[],_,k,b,f,f',h,_=>x6 h
 | _::_,[],k,b,f,f',_,h=>x6 h
 | b0::bs,f0::fl,0,b,f,f',h,h'=>by
  simp at h h';subst h;subst h';simp only[List.set_cons_zero,dA];rw[Int.sub_mul];omega
 | b0::bs,f0::fl,k+1,b,f,f',h,h'=>by
  simp at h h';simp only[List.set_cons_succ,dA];rw[GQ h h'];omega
def Ot{S:Int->Bool}:∀{bs:List Bd} {m:Nat},dA S bs (List.replicate m 0)=0
 |[],m=>by cases m<;>simp[dA]
 | b::bs,0=>by simp[dA]
 | b::bs,m+1=>by rw[List.replicate_succ];simp only[dA];rw[Ot];simp
def CY{S:Int->Bool}:∀{bs:List Bd},(∀b∈bs,0<=b.2.2/\b.2.2<=1000)->cJ S bs<=1000*bs.length
 |[],_=>by simp[cJ]
 | b::bs,h=>by
  have d:=h b si;have f:=CY (S:=S) (bs:=bs) (λc a=>h c (by simp[a]));simp only[cJ,du];split<;>omega
structure dC(n:Int)(bs:List Bd)(at_:List (List Int))(fl:List Int):Prop where
 n0:0<=n
 n1:n<=100000
 bn:bs.length<=100000
 wb:∀(k:Nat)(b:Bd),bs[k]?=some b->0<=b.1/\b.1<n/\0<=b.2.1/\b.2.1<n/\b.1≠b.2.1/\0<=b.2.2/\b.2.2<=1000
 alen:at_.length=n.toNat
 amem:∀(v:Nat)(l:List Int),at_[v]?=some l->l.length<=100000/\∀k:Int,k∈l↔(0<=k/\∃b:Bd,bs[k.toNat]?=some b/\(b.1=v\/b.2.1=v))
 flen:fl.length=bs.length
 fok:∀(k:Nat)(b:Bd)(f:Int),bs[k]?=some b->fl[k]?=some f -> -b.2.2<=f/\f<=b.2.2
def dP(b:Bd)(f v:Int):Int:=if b.1=v then b.2.2 - f else b.2.2+f
def bK(b:Bd)(v:Int):Int:=if b.1=v then b.2.1 else b.1
section
variable {n:Int} {bs:List Bd} {at_:List (List Int)} {fl:List Int}
def dC.bond(h:dC n bs at_ fl){k:Int}{b}(h0:0<=k)(hb:bs[k.toNat]?=some b):∃f,fl[k.toNat]?=some f/\idx bs k=some b/\idx fl k=some f /\ -b.2.2<=f/\f<=b.2.2:=by
 have d:=zz hb;have a:k.toNat<fl.length:=by rw[h.flen];exact d
 have c:fl[k.toNat]?=some fl[k.toNat]:=cn a;exact⟨_,c,gB h0 hb,gB h0 c,h.fok _ _ _ hb c⟩
def Io(h:dC n bs at_ fl){k:Int}{v b f}(h0:0<=k)(hb:bs[k.toNat]?=some b)(hf:fl[k.toNat]?=some f):
  tj (n,bs,at_,fl) v k=some (dP b f v,bK b v,(n,bs,at_,fl)):=by
 obtain⟨m,a,hi,c,l,j⟩:=h.bond h0 hb;rw[a]at hf;obtain rfl:=A5 hf;have i:=h.wb _ _ hb;unfold tj dP bK;simp only[hi,gy,c];by_cases d:b.1=v
 ·simp only[d,Ϟ,Ϡ];rw[zt om om]
 ·simp only[d,ϡ,ϟ,aq];rw[zt om om]
structure Dist(n:Int)(bs:List Bd)(fl:List Int)(y:Int)(L:List Int):Prop where
 len:L.length=n.toNat
 goal:L[y.toNat]?=some 0
 low:∀(v:Nat)(d:Int),L[v]?=some d -> -1<=d/\d<=n
 closed:∀(k:Nat)(b:Bd)(f:Int)(t:Nat)(d e:Int),bs[k]?=some b->fl[k]?=some f->(b.1=t\/b.2.1=t)->L[t]?=some d->0<=d->0<dP b f (bK b t)->L[(bK b t).toNat]?=some e->0<=e
 parent:∀(v:Nat)(d:Int),L[v]?=some d->0<=d->(v:Int)≠y->∃(k:Nat)(b:Bd)(f:Int),bs[k]?=some b/\fl[k]?=some f/\(b.1=v\/b.2.1=v)/\0<dP b f v/\L[(bK b v).toNat]?=some (d - 1)/\0<=d - 1
end
def OS{i:Int}{j}(h0:0<=i)(h1:j<(i+1).toNat)(h2:¬j<i.toNat):j=i.toNat:=by omega
def isNeg(x:Int):Bool:=(x<0:Ϛ)
structure BInv(n:Int)(bs:List Bd)(fl:List Int)(y:Int)(L q:List Int):Prop where
 len:L.length=n.toNat
 goal:L[y.toNat]?=some 0
 low:∀(v:Nat)(d:Int),L[v]?=some d -> -1<=d/\d<q.length
 qlab:∀v∈q,0<=v/\∃d,L[v.toNat]?=some d/\0<=d
 labq:∀(v:Nat)(d:Int),L[v]?=some d->0<=d->(v:Int)∈q
 count:q.length+L.countP isNeg=n.toNat
 parent:∀(v:Nat)(d:Int),L[v]?=some d->0<=d->(v:Int)≠y->∃(k:Nat)(b:Bd)(f:Int),bs[k]?=some b/\fl[k]?=some f/\(b.1=v\/b.2.1=v)/\0<dP b f v/\L[(bK b v).toNat]?=some (d - 1)/\0<=d - 1
def BClosed(bs:List Bd)(fl L:List Int)(t:Int)(k:Int):Prop:=∀(b:Bd)(f:Int),bs[k.toNat]?=some b->fl[k.toNat]?=some f->0<dP b f (bK b t)->∃e,L[(bK b t).toNat]?=some e/\0<=e
def BClosed.mono{L L':List Int}{bs fl t k}(h:BClosed bs fl L t k)(hm:∀(v:Nat)(d:Int),L[v]?=some d->0<=d->L'[v]?=some d):BClosed bs fl L' t k:=by
 intro b f l c i;obtain⟨e,j,a⟩:=h b f l c i;exact⟨e,hm _ _ j a,a⟩
section
variable {n:Int} {bs:List Bd} {at_:List (List Int)} {fl:List Int} {y:Int}
def dC.ends(h:dC n bs at_ fl){k:Nat}{b:Bd}(hb:bs[k]?=some b)(v:Int):0<=bK b v/\bK b v<n:=by
 have:=h.wb _ _ hb;unfold bK;split<;>omega
def SO(h:dC n bs at_ fl){k:Nat}{b:Bd}(hb:bs[k]?=some b){v:Int}(hv:b.1=v\/b.2.1=v):aB (aB (b.1+b.2.1) - v)=bK b v:=by
 have a:=h.wb _ _ hb;have c:=h.n1;have e:b.1+b.2.1 - v=bK b v:=by
  unfold bK;rcases hv with rfl | rfl
  ·rw[Ϙ rfl];omega
  ·rw[ϙ om];omega
 rw[zt (n:=b.1+b.2.1) om om,zt om om,e]
def Rf(h:dC n bs at_ fl){L:List Int}{q b f d}(hB:BInv n bs fl y L q){k:Int}{t:Int}(hb:bs[k.toNat]?=some b)(hf:fl[k.toNat]?=some f)(ht0:0<=t)(ht:b.1=t\/b.2.1=t)(hd:L[t.toNat]?=some d)(hd0:0<=d)(hneg:∃e,L[(bK b t).toNat]?=some e/\e<0)(hr:0<dP b f (bK b t)):
  BInv n bs fl y (L.set (bK b t).toNat (d+1)) (q++[bK b t])/\(∀(v:Nat)(j:Int),L[v]?=some j->0<=j->(L.set (bK b t).toNat (d+1))[v]?=some j):=by
 obtain⟨e,x,z⟩:=hneg;have r:=h.ends hb t;have hlt:=zz x;have c:∀(v:Nat)(j:Int),L[v]?=some j->0<=j->(L.set (bK b t).toNat (d+1))[v]?=some j:=by
  intro v j a l;rw[zK]
  ·exact a
  ·intro H;rw[H]at x;rw[x]at a;injection a;omega
 refine⟨⟨B7 hB.len,c _ _ hB.goal om,?_,?_,?_,?_,?_⟩,c⟩
 ·intro v j a;by_cases i:(bK b t).toNat=v
  ·subst i;rw[zZ hlt]at a;have:=(hB.low _ _ hd).2;injection a with a
   rw[dt];simp;omega
  ·rw[zK i]at a;have:=hB.low _ _ a;rw[dt];simp;omega
 ·intro v a;rcases er.1 a with a | a
  ·obtain⟨D,j,u,w⟩:=hB.qlab v a;exact⟨D,j,c _ _ u w,w⟩
  ·have:v=bK b t:=϶ a
   subst this;exact⟨r.1,d+1,zZ hlt,by omega⟩
 ·intro v j a l;by_cases i:(bK b t).toNat=v
  ·exact er.2<|.inr so
  ·rw[zK i]at a;exact er.2<|.inl<|hB.labq v j a l
 ·have:=uQ isNeg x (by simp[isNeg,z]) (by simp[isNeg];omega:isNeg (d+1)=false);have:=hB.count;rw[dt];simp;omega
 ·intro v j a l A;by_cases i:(bK b t).toNat=v
  ·have m:(v:Int)=bK b t:=by omega
   subst i;rw[zZ hlt]at a;injection a with a
   subst a;have N:=h.wb _ _ hb;have B:bK b (bK b t)=t:=by
    unfold bK;rcases ht with rfl | rfl
    ·rw[Ϙ rfl,ϙ om]
    ·by_cases u:b.1=b.2.1
     ·omega
     ·rw[ϙ u,Ϙ rfl]
   refine⟨k.toNat,b,f,hb,hf,?_,by rw[m];exact hr,?_,by omega⟩
   ·rw[m];unfold bK;split
    ·exact .inr rfl
    ·exact .inl rfl
   ·rw[m,B];rw[c _ _ hd hd0];exact v8
  ·rw[zK i]at a;obtain⟨I,E,J,u,w,M,F,G,C⟩:=hB.parent v j a l A;exact⟨I,E,J,u,w,M,F,c _ _ G C,C⟩
def zzi(h:dC n bs at_ fl){t:Int}{al}(ht0:0<=t)(hal:at_[t.toNat]?=some al)(L0 q0:List Int)(hB0:BInv n bs fl y L0 q0)(htq:∃d,L0[t.toNat]?=some d/\0<=d):
  ∃L q,iter (wn (n,bs,at_,fl) t) (L0,q0,0,fl)=some (L,q,fl)/\BInv n bs fl y L q/\(∀(v:Nat)(d:Int),L0[v]?=some d->0<=d->L[v]?=some d)/\
   (∃r,q=q0++r)/\∀k∈al,BClosed bs fl L t k:=by
 obtain⟨a9,P⟩:=h.amem _ _ hal;have a7:((t.toNat:Nat):Int)=t:=by omega
 have key:=zy (F:=wn (n,bs,at_,fl) t) (λs=>∃L q i,s=(L,q,i,fl)/\0<=i/\i<=al.length/\BInv n bs fl y L q/\(∀(v:Nat)(d:Int),L0[v]?=some d->0<=d->L[v]?=some d)/\(∃r,q=q0++r)/\
   ∀j k,j<i.toNat->al[j]?=some k->BClosed bs fl L t k) (λs=>(al.length - s.2.2.1).toNat)
  (λx=>∃L q,x=(L,q,fl)/\BInv n bs fl y L q/\(∀(v:Nat)(d:Int),L0[v]?=some d->0<=d->L[v]?=some d)/\(∃r,q=q0++r)/\∀k∈al,BClosed bs fl L t k) ?_
  (L0,q0,0,fl) ⟨L0,q0,0,rfl,by omega,by omega,hB0,λ_ _ h _=>h,⟨[],by simp⟩,λj k R=>by simp at R⟩
 ·obtain⟨x,hx,L,q,rfl,h1,h2,h3,h4⟩:=key;exact⟨L,q,hx,h1,h2,h3,h4⟩
 ·rintro s ⟨L,q,i,rfl,a1,b0,N,u,⟨r,hr⟩,J⟩;unfold wn;simp only[gB ht0 hal,gy];by_cases hlt:i<al.length
  ·left;rw[Ϙ (by simp[hlt])];obtain⟨k,Z,E⟩:=zY a1 hlt;have Y:k∈al:=fe E;obtain⟨Q,b,D,H⟩:=(P k).1 Y;rw[a7]at H;obtain⟨f,hf,a0,c3,c2,C⟩:=h.bond Q D;have U:=SO h D H;have M:=h.ends D t;obtain⟨e,T,w⟩:=zY (l:=L) M.1 (by rw[N.len];omega);simp only[Z,a0,gy,U,Io h Q D hf,T];have m:aB (i+1)=i+1:=zt om om;have a:(∃X,L[(bK b t).toNat]?=some X/\(0<=X\/¬0<dP b f (bK b t)))->
     (∃s',pz t (L,q,i,fl) b b (dP b f<|bK b t,bK b<|bK b t,(n,bs,at_,fl)) false=some (.inl s')/\
      (∃L q i,s'=(L,q,i,fl)/\0<=i/\i<=al.length/\BInv n bs fl y L q/\(∀(v:Nat)(d:Int),L0[v]?=some d->0<=d->L[v]?=some d)/\(∃r,q=q0++r)/\∀j k,j<i.toNat->al[j]?=some k->BClosed bs fl L t k)/\
      (al.length - s'.2.2.1).toNat<(al.length - i).toNat):=by
    rintro⟨X,a2,a8⟩;refine⟨_,by unfold pz r_;rfl,⟨L,q,i+1,by rw[m],by omega,by omega,N,u,⟨r,hr⟩,?_⟩,?_⟩
    ·intro j k2 R c;by_cases G:j<i.toNat
     ·exact J j k2 G c
     ·have:j=i.toNat:=by omega
      subst this;rw[E]at c;obtain rfl:=A5 c;intro b2 f2 hb2 C O;rw[D]at hb2;obtain rfl:=A5 hb2;rw[hf]at C;obtain rfl:=A5 C;exact⟨X,a2,a8.resolve_right (λhn=>hn O)⟩
    ·simp only[m];omega
   by_cases B:e<0
   ·rw[Ϙ (by simp[B])];by_cases z:dP b f (bK b t)>0
    ·obtain⟨d,hd,V⟩:=htq;have I:=u _ _ hd V;have c4:=N.low _ _ I;have b1:(q.length:Int)<=n:=by have:=N.count;have:=h.n0;omega
     obtain⟨a4,A⟩:=Rf h N D hf ht0 H I V ⟨e,w,B⟩ z;have b4:=h.n1;refine⟨(L.set (bK b t).toNat (d+1),q++[bK b t],i+1,fl),?_,⟨_,_,i+1,rfl,by omega,by omega,a4,?_,⟨r++[bK b t],by rw[hr,bf]⟩,?_⟩,?_⟩
     ·unfold pz r_;rw[Ϙ (by simp[z])];simp only[gB ht0 I,gy,U,T];rw[zt om om,zO so so];simp only[gy,m]
     ·intro v d' hv S;exact A _ _ (u _ _ hv S) S
     ·intro j k2 R c;by_cases G:j<i.toNat
      ·exact(J j k2 G c).mono A
      ·have:j=i.toNat:=by omega
       subst this;rw[E]at c;obtain rfl:=A5 c;intro b2 f2 hb2 C O;rw[D]at hb2;obtain rfl:=A5 hb2;exact⟨d+1,zZ<|zz w,by omega⟩
     ·simp only[];omega
    ·have:=a ⟨e,w,.inr z⟩;simpa[z]using this
   ·rw[ϙ (by simp[B])];exact a ⟨e,w,.inl om⟩
  ·right;rw[ϙ (by simp[hlt])];refine⟨_,rfl,L,q,rfl,N,u,⟨r,hr⟩,λk Z=>?_⟩;obtain⟨j,R,a5⟩:=K6.1 Z;exact J j k om (by rw[cn R,a5])
def zzh(h:dC n bs at_ fl)L0 q0(hB0:BInv n bs fl y L0 q0):
  ∃L,iter (wo (n,bs,at_,fl)) (L0,q0,0,fl)=some (L,fl)/\Dist n bs fl y L:=by
 have key:=zy (F:=wo (n,bs,at_,fl)) (λs=>∃L q i,s=(L,q,i,fl)/\0<=i/\i<=q.length/\BInv n bs fl y L q/\
   ∀(j:Nat)(t:Int),j<i.toNat->q[j]?=some t->∀(k:Nat)(b:Bd),bs[k]?=some b->(b.1=t\/b.2.1=t)->BClosed bs fl L t k) (λs=>(n - s.2.2.1).toNat)
  (λx=>∃L,x=(L,fl)/\Dist n bs fl y L) ?_ (L0,q0,0,fl) ⟨L0,q0,0,rfl,by omega,by omega,hB0,λj t H=>by simp at H⟩
 ·obtain⟨x,hx,L,rfl,Z⟩:=key;exact⟨L,hx,Z⟩
 ·rintro s ⟨L,q,i,rfl,B,U,m,J⟩;have V:(q.length:Int)<=n:=by have:=m.count;have:=h.n0;omega
  have Y:=h.n1;unfold wo;by_cases hlt:i<q.length
  ·left;rw[Ϙ (by simp[hlt])];obtain⟨t,X,D⟩:=zY B hlt;have S:t∈q:=fe D;obtain⟨M,d,hd,w⟩:=m.qlab t S;have N:t.toNat<at_.length:=by rw[h.alen,←m.len];exact zz hd
   have I:at_[t.toNat]?=some at_[t.toNat]:=cn N;obtain⟨L',q',E,O,z,⟨r,G⟩,hc⟩:=zzi h M I L q m ⟨d,hd,w⟩;simp only[X,gy,E];have a:aB (i+1)=i+1:=zt om om;refine⟨_,rfl,⟨L',q',i+1,by rw[a],by omega,?_,O,?_⟩,?_⟩
   ·rw[G,dt];omega
   ·intro j T H l k b A c;by_cases C:j<i.toNat
    ·have:q[j]?=some T:=by
      rw[G,ci om]at l;exact l
     exact(J j T C this k b A c).mono z
    ·obtain rfl:=OS B H C;rw[G,ci om,D]at l;obtain rfl:=A5 l;have Q:((t.toNat:Nat):Int)=t:=bc M;have:=(h.amem _ _ I).2 k;exact hc k<|this.2 ⟨Int.natCast_nonneg k,b,϶ A,by rw[Q];exact c⟩
   ·simp only[a];omega
  ·right;rw[ϙ (by simp[hlt])];refine⟨_,rfl,L,rfl,m.len,m.goal,?_,?_,m.parent⟩
   ·intro v d hv;have:=m.low _ _ hv;omega
   ·intro k b f t d e A hf c hd w G he;have R:=m.labq t d hd w;obtain⟨j,H,P⟩:=K6.1 R;have:=J j t om (by rw[cn H,P]) k b A c b f (϶ A) (϶ hf) G;obtain⟨e',u,hp⟩:=this;rw[he]at u;injection u with u
    omega
def zzj(h:dC n bs at_ fl):iter (wq (n,bs,at_,fl)) ([],0)=some (List.replicate n.toNat (-1)):=by
 have key:=zy (F:=wq (n,bs,at_,fl)) (λs=>∃i:Nat,s=(List.replicate i (-1),(i:Int))/\i<=n.toNat) (λs=>(n - s.2).toNat)
  (λx=>x=List.replicate n.toNat (-1)) ?_ ([],0) ⟨0,rfl,by omega⟩
 ·obtain⟨x,b,rfl⟩:=key;exact b
 ·rintro s ⟨i,rfl,hi⟩;have c:=h.n1;unfold wq;by_cases hlt:(i:Int)<n
  ·left;rw[Ϙ (by simp[hlt]),zO so so];refine⟨_,rfl,⟨i+1,?_,by omega⟩,?_⟩
   ·rw[zt om om,List.replicate_succ'];rfl
   ·simp only[];exact D3
  ·right;rw[ϙ (by simp[hlt])];have a:i=n.toNat:=y5 h.n0
   subst a;exact A3
def NO(h:dC n bs at_ fl)(hy0:0<=y)(hy:y<n):∃L,sZ (n,bs,at_,fl) y=some (L,n,bs,at_,fl)/\Dist n bs fl y L:=by
 have hlen:(List.replicate n.toNat (-1:Int)).length=n.toNat:=by simp
 obtain⟨z,u,b⟩:=zY (l:=List.replicate n.toNat (-1:Int)) hy0 (by rw[hlen];omega);have i:z = -1:=by
  rw[dg]at b;split at b
  ·injection b with b;exact b.symm
  ·cases b
 have c:=zz b;have j:BInv n bs fl y ((List.replicate n.toNat (-1:Int)).set y.toNat 0) [y]:=by
  refine⟨by simp,zZ c,?_,?_,?_,?_,?_⟩
  ·intro v d a;by_cases e:y.toNat=v
   ·subst e;rw[zZ c]at a;injection a with a;subst a;simp
   ·rw[zK e,dg]at a;split at a
    ·injection a with a;subst a;simp
    ·cases a
  ·intro v a;have:v=y:=϶ a
   subst this;exact⟨hy0,0,zZ c,by omega⟩
  ·intro v d a hd;by_cases e:y.toNat=v
   ·simp;omega
   ·rw[zK e,dg]at a;split at a
    ·injection a with a;omega
    ·cases a
  ·have:=uQ isNeg (y:=(0:Int)) b (by rw[i];rfl) rfl;have k:(List.replicate n.toNat (-1:Int)).countP isNeg=n.toNat:=by
    rw[List.countP_replicate];simp[isNeg]
   rw[k]at this;simp;omega
  ·intro v d a hd m;by_cases e:y.toNat=v
   ·omega
   ·rw[zK e,dg]at a;split at a
    ·injection a with a;omega
    ·cases a
 obtain⟨L,f,r⟩:=zzh h _ _ j;refine⟨L,?_,r⟩;unfold sZ Ks Kr;rw[zzj h];simp only[gy,u,f]
end
section
variable {n:Int} {bs:List Bd} {at_:List (List Int)} {fl:List Int} {x y:Int}
def Il(h:dC n bs at_ fl){k b f f'}(hb:bs[k]?=some b)(hf:fl[k]?=some f)(h1 : -b.2.2<=f')(h2:f'<=b.2.2):dC n bs at_ (fl.set k f'):=by
 refine⟨h.n0,h.n1,h.bn,h.wb,h.alen,h.amem,B7 h.flen,λj c g d a=>?_⟩;by_cases i:k=j
 ·subst i;rw[zZ<|zz hf]at a;rw[hb]at d;obtain rfl:=A5 d;obtain rfl:=A5 a;exact⟨h1,h2⟩
 ·rw[zK i]at a;exact h.fok _ _ _ d a
def S'(h:dC n bs at_ fl){k:Int}{v b f}(h0:0<=k)(hb:bs[k.toNat]?=some b)(hf:fl[k.toNat]?=some f)(hv:b.1=v\/b.2.1=v)(hr:0<dP b f v):
  ∃f',yQ (n,bs,at_,fl) v k=some (n,bs,at_,fl.set k.toNat f')/\dC n bs at_ (fl.set k.toNat f')/\∀S,dA S bs (fl.set k.toNat f')=dA S bs fl+(bZ (S v) - bZ (S (bK b v))):=by
 obtain⟨d,a,hi,i,m,l⟩:=h.bond h0 hb;rw[a]at hf;obtain rfl:=A5 hf;have j:=h.wb _ _ hb;unfold yQ;simp only[hi,gy,i];unfold dP at hr;by_cases c:b.1=v
 ·rw[Ϙ c]at hr;simp only[c,Ϟ,Ϡ];rw[zt om om];refine⟨d+1,rfl,Il h hb a om om,λS=>?_⟩;rw[GQ hb a];unfold bK;rw[Ϙ c,c];have:d+1 - d=1:=by omega
  rw[this,Int.one_mul]
 ·rw[ϙ c]at hr;simp only[c,ϡ,ϟ,aq];rw[zt om om];refine⟨d - 1,rfl,Il h hb a om om,λS=>?_⟩;rw[GQ hb a];unfold bK;rw[ϙ c,←hv.resolve_left c];have:d - 1 - d = -1:=by omega
  rw[this];omega
def P_(h:dC n bs at_ fl){L:List Int}{x23 d}(hx:x23.1=L){fl0:List Int}(hD:Dist n bs fl0 y L){t:Int}(ht0:0<=t)(hd:L[t.toNat]?=some d)(hd0:0<d)(hsame:∀(k:Nat)(b:Bd),bs[k]?=some b->(b.1=t\/b.2.1=t)->L[(bK b t).toNat]?=some (d - 1)->fl[k]?=fl0[k]?)(hty:t≠y):
  ∃nx a b f,iter (wx (n,bs,at_,fl0) x23 (t,fl)) ((-1),0,0,fl)=some (nx,a,fl)/\0<=a/\bs[a.toNat]?=some b/\fl[a.toNat]?=some f/\
   (b.1=t\/b.2.1=t)/\0<dP b f t/\nx=bK b t/\L[nx.toNat]?=some (d - 1):=by
 have hlt:=zz hd;have Z:t.toNat<at_.length:=by rw[h.alen,←hD.len];exact hlt
 have A:at_[t.toNat]?=some at_[t.toNat]:=cn Z;generalize at_[t.toNat]=al at A;obtain⟨a6,u⟩:=h.amem _ _ A;have M:((t.toNat:Nat):Int)=t:=bc ht0;rw[M]at u;obtain⟨x,bw,fw,N,a0,H,Q,O,b0⟩:=hD.parent t.toNat d hd om (by rw[M];exact hty);rw[M]at H Q O;have c0:=hD.low _ _ hd;have b2:=h.n1;let Ok:Int->Int->Prop:=λnx a=>0<=a/\∃b f,bs[a.toNat]?=some b/\fl[a.toNat]?=some f/\(b.1=t\/b.2.1=t)/\0<dP b f t/\nx=bK b t/\L[nx.toNat]?=some (d - 1);have key:=zy (F:=wx (n,bs,at_,fl0) x23 (t,fl)) (λs=>∃nx a i,s=(nx,a,i,fl)/\0<=i/\i<=al.length/\(nx<0\/0<=nx/\Ok nx a)/\(∀j:Nat,j<i.toNat->al[j]?=some (x:Int)->0<=nx))
  (λs=>(al.length - s.2.2.1).toNat) (λz=>∃nx a,z=(nx,a,fl)/\Ok nx a) ?_ ((-1),0,0,fl) ⟨-1,0,0,rfl,by omega,by omega,.inl om,λj V=>by simp at V⟩
 ·obtain⟨z,hz,nx,a,rfl,h0,b,f,h1,h2,h3,h4,h5,h6⟩:=key;exact⟨nx,a,b,f,hz,h0,h1,h2,h3,h4,h5,h6⟩
 ·rintro s ⟨nx,a,i,rfl,X,a8,Y,C⟩;unfold wx;simp only[gB ht0 A,gy];by_cases hlt:i<al.length
  ·left;rw[Ϙ (by simp[hlt])];obtain⟨k,hk,R⟩:=zY X hlt;obtain⟨J,b,I,a2⟩:=(u k).1<|fe R;obtain⟨f,T,b4,c5,c4,c3⟩:=h.bond J I;have m:=h.ends I t;obtain⟨e,a5,w⟩:=zY (l:=L) m.1 (by rw[hD.len];omega);simp only[hk,gy,Io h J I T];have c:aB (i+1)=i+1:=zt om om;have v:(k=x->¬(0<dP b f t/\e=d - 1) \/ 0<=nx)->∃s',kI (n,bs,at_,fl0) (t,fl) (nx,a,i,fl) al k (dP b f t,bK b t,(n,bs,at_,fl)) false=some (.inl s')/\
     (∃nx a i,s'=(nx,a,i,fl)/\0<=i/\i<=al.length/\(nx<0\/0<=nx/\Ok nx a)/\(∀j:Nat,j<i.toNat->al[j]?=some (x:Int)->0<=nx))/\(al.length - s'.2.2.1).toNat<(al.length - i).toNat:=by
    intro a4;refine⟨_,by unfold kI sv;rfl,⟨nx,a,i+1,by rw[c],by omega,by omega,Y,?_⟩,by simp only[c];omega⟩;intro j V G;by_cases S:j<i.toNat
    ·exact C j S G
    ·obtain rfl:=OS X V S;rw[R]at G;have E:=A5 G;refine(a4 E).resolve_left (λhn=>hn ?_);subst E;simp only[bb]at I T;rw[N]at I;obtain rfl:=A5 I;have:fl[x]?=fl0[x]?:=hsame x _ N H O;rw[this,a0]at T;obtain rfl:=A5 T;rw[O]at w;exact⟨Q,(A5 w).symm⟩
   by_cases r:dP b f t>0
   ·rw[Ϙ (by simp[r])];simp only[a5,gB ht0 hd,hx,gy];rw[zt om om];by_cases B:e=d - 1
    ·rw[Ϙ (by simp[B])];have take:∃s',kI (n,bs,at_,fl0) (t,fl) (nx,a,i,fl) al k (dP b f t,bK b t,(n,bs,at_,fl)) true=some (.inl s')/\
       (∃nx a i,s'=(nx,a,i,fl)/\0<=i/\i<=al.length/\(nx<0\/0<=nx/\Ok nx a)/\(∀j:Nat,j<i.toNat->al[j]?=some (x:Int)->0<=nx))/\(al.length - s'.2.2.1).toNat<(al.length - i).toNat:=by
      refine⟨(bK b t,k,i+1,fl),?_,⟨bK b t,k,i+1,rfl,by omega,by omega,.inr ⟨m.1,J,b,f,I,T,a2,r,rfl,by rw[w,B]⟩,λ_ _ _=>m.1⟩,ϖ⟩;unfold kI sv;simp only[Ϡ,gB ht0 A,gy,hk,c]
     by_cases U:nx<0
     ·rw[Ϙ (by simp[U])];exact take
     ·rw[ϙ (by simp[U])];by_cases D:bK b t<nx
      ·simp only[D,Ϟ];exact take
      ·simp only[D,ϡ];exact v λ_=>.inr om
    ·rw[ϙ (by simp[B])];exact v λ_=>.inl λP=>B P.2
   ·rw[ϙ (by simp[r])];exact v λ_=>.inl λP=>r P.1
  ·right;rw[ϙ (by simp[hlt])];refine⟨_,rfl,nx,a,rfl,?_⟩;have a1:(x:Int)∈al:=(u x).2 ⟨Int.natCast_nonneg x,bw,϶ N,H⟩;obtain⟨j,V,a3⟩:=K6.1 a1;have:=C j om (by rw[cn V,a3]);rcases Y with P | P
   ·omega
   ·exact P.2
def RF(h:dC n bs at_ fl){L:List Int}{x23 d}(hx:x23.1=L)(hD:Dist n bs fl y L)(hx0:0<=x)(hd:L[x.toNat]?=some d)(hd0:0<=d):
  ∃a,iter (wy (n,bs,at_,fl) y x23) (x,fl)=some a/\dC n bs at_ a/\∀S,dA S bs a=dA S bs fl+(bZ (S x) - bZ (S y)):=by
 have key:=zy (F:=wy (n,bs,at_,fl) y x23) (λs=>∃t i e,s=(t,i)/\0<=t/\L[t.toNat]?=some e/\0<=e/\dC n bs at_ i/\(∀S,dA S bs i=dA S bs fl+(bZ (S x) - bZ (S t)))/\
   ∀(k:Nat)(b:Bd)(N M:Int),bs[k]?=some b->L[b.1.toNat]?=some N->L[b.2.1.toNat]?=some M->N<=e->M<=e->i[k]?=fl[k]?)
  (λs=>((L[s.1.toNat]?).getD 0).toNat) (λz=>∃a,z=a/\dC n bs at_ a/\∀S,dA S bs a=dA S bs fl+(bZ (S x) - bZ (S y))) ?_
  (x,fl) ⟨x,fl,d,rfl,hx0,hd,hd0,h,λS=>by omega,λ_ _ _ _ _ _ _ _ _=>rfl⟩
 ·obtain⟨z,hz,a,ez,B,w⟩:=key;subst ez;exact⟨_,hz,B,w⟩
 ·rintro s ⟨t,i,e,rfl,I,u,O,V,G,j⟩;unfold wy;by_cases m:t=y
  ·right;subst m;rw[ϙ si];exact⟨_,rfl,i,rfl,V,G⟩
  ·left;rw[Ϙ (by simp[m])];have T:((t.toNat:Nat):Int)=t:=bc I;have U:0<e:=by
    obtain⟨k,b,f,_,_,_,_,_,h6⟩:=hD.parent t.toNat e u O (by rw[T];exact m);omega
   have A:∀(k:Nat)(b:Bd),bs[k]?=some b->(b.1=t\/b.2.1=t)->L[(bK b t).toNat]?=some (e - 1)->i[k]?=fl[k]?:=by
    intro k b r l J;rcases l with rfl | rfl
    ·have R:bK b b.1=b.2.1:=by unfold bK;rw[Ϙ rfl]
     rw[R]at J;exact j k b e (e - 1) r u J om om
    ·have hw:=h.wb _ _ r;have R:bK b b.2.1=b.1:=by unfold bK;rw[ϙ hw.2.2.2.2.1]
     rw[R]at J;exact j k b (e - 1) e r J u om om
   obtain⟨nx,C,b,f,D,Q,r,hf,l,hr,E,H⟩:=P_ (fl0:=fl) (y:=y) V hx hD I u U A m
   ·obtain⟨f',hp,P,hS⟩:=S' V Q r hf l hr;have v:=h.ends r t;refine⟨(nx,i.set C.toNat f'),?_,⟨nx,_,e - 1,rfl,by rw[E];exact v.1,H,by omega,P,?_,?_⟩,?_⟩
    ·rw[D];simp only[gy,Kc,hp]
    ·intro S;rw[hS,G,E];omega
    ·intro k c N M X B w a0 Z;by_cases Y:C.toNat=k
     ·subst Y;rw[r]at X;obtain rfl:=A5 X;rcases l with rfl | rfl
      ·rw[u]at B;injection B;omega
      ·rw[u]at w;injection w;omega
     ·rw[zK Y];exact j k c N M X B w om om
    ·simp only[H,u,gz];omega
def RG(h:dC n bs at_ fl)(hx0:0<=x)(hx:x<n)(hy0:0<=y)(hy:y<n):
  (tk (n,bs,at_,fl) x y=some (false,n,bs,at_,fl)/\∃S:Int->Bool,S x=true/\S y=false/\dA S bs fl=cJ S bs) \/
  ∃c,tk (n,bs,at_,fl) x y=some (true,n,bs,at_,c)/\dC n bs at_ c/\∀S,dA S bs c=dA S bs fl+(bZ (S x) - bZ (S y)):=by
 obtain⟨L,hs,w⟩:=NO h hy0 hy;obtain⟨d,hd,G⟩:=zY (l:=L) hx0 (by rw[w.len];omega);unfold tk;simp only[hs,gy,hd];by_cases i:d<0
 ·left;rw[Ϙ (by simp[i])];refine⟨rfl,λv=>decide (∃e,L[v.toNat]?=some e/\e<0),?_,?_,?_⟩
  ·simp only[ϛ];exact⟨d,G,i⟩
  ·simp only[Ϝ];rintro⟨e,r,B⟩;rw[w.goal]at r;injection r;omega
  ·refine Nz h.flen λk b f H I=>?_;have z:=h.wb _ _ H;have N:=h.fok _ _ _ H I;have hlen:=w.len;obtain⟨F,_,m⟩:=zY (l:=L) z.1 om;obtain⟨C,_,j⟩:=zY (l:=L) z.2.2.1 om;simp only[ϛ,Ϝ];have J:bK b b.1=b.2.1:=by unfold bK;rw[Ϙ rfl]
   have M:bK b b.2.1=b.1:=by unfold bK;rw[ϙ z.2.2.2.2.1]
   refine⟨?_,?_⟩
   ·rintro⟨e,r,B⟩ u;rw[m]at r;obtain rfl:=A5 r;have E:0<=C:=by
     rcases Ϲ C 0 with h1 | h1
     ·exact x4 ⟨C,j,h1⟩ u
     ·exact h1
    have a:((b.2.1.toNat:Nat):Int)=b.2.1:=bc z.2.2.1;have:=w.closed k b f b.2.1.toNat C F H I (.inr a.symm) j E;rw[a,M]at this;rcases Ϲ 0 (dP b f b.1)with hr | hr
    ·have:=this hr m;omega
    ·unfold dP at hr;rw[Ϙ rfl]at hr;omega
   ·rintro u ⟨e,r,B⟩;rw[j]at r;obtain rfl:=A5 r;have A:0<=F:=by
     rcases Ϲ F 0 with h1 | h1
     ·exact x4 ⟨F,m,h1⟩ u
     ·exact h1
    have a:((b.1.toNat:Nat):Int)=b.1:=bc z.1;have:=w.closed k b f b.1.toNat F C H I (.inl a.symm) m A;rw[a,J]at this;rcases Ϲ 0 (dP b f b.2.1)with hr | hr
    ·have:=this hr j;omega
    ·unfold dP at hr;rw[ϙ z.2.2.2.2.1]at hr;omega
 ·right;rw[ϙ (by simp[i])];obtain⟨c,D,O,hS⟩:=RF (x23:=(L,n,bs,at_,fl)) h rfl w hx0 G om;refine⟨c,?_,O,hS⟩;rw[D];rfl
def jI(bs:List Bd)(x y:Int)(v:Int):Prop:=(∀S:Int->Bool,S x=true->S y=false->v<=cJ S bs)/\∃S:Int->Bool,S x=true/\S y=false/\v=cJ S bs
def QU(h:dC n bs at_ fl)(hx0:0<=x)(hx:x<n)(hy0:0<=y)(hy:y<n)(hxy:x≠y)(h0:∀S,dA S bs fl=0):
  ∃v a,iter (yb x y (n,bs,at_,fl)) (0,fl)=some (v,a)/\dC n bs at_ a/\0<=v/\v<=100000000/\jI bs x y v:=by
 let S0:Int->Bool:=λv=>(v=x:Ϛ);have d:S0 x=true:=by simp[S0]
 have i:S0 y=false:=by simp[S0];omega
 have E:cJ S0 bs<=100000000:=by
  have:=CY (S:=S0) (bs:=bs) (λb J=>by
   obtain⟨k,L,C⟩:=K6.1 J;have:=h.wb k b (by rw[cn L,C]);omega)
  have:=h.bn;omega
 have key:=zy (F:=yb x y (n,bs,at_,fl)) (λs=>∃v c,s=(v,c)/\0<=v/\dC n bs at_ c/\∀S:Int->Bool,S x=true->S y=false->dA S bs c=v)
  (λs=>(cJ S0 bs - s.1).toNat) (λz=>∃v a,z=(v,a)/\dC n bs at_ a/\0<=v/\v<=100000000/\jI bs x y v) ?_
  (0,fl) ⟨0,fl,rfl,by omega,h,λS _ _=>h0 S⟩
 ·obtain⟨z,N,v,a,rfl,m,l,O,M⟩:=key;exact⟨v,a,N,m,l,O,M⟩
 ·rintro s ⟨v,c,rfl,D,A,j⟩;have u:∀S:Int->Bool,S x=true->S y=false->v<=cJ S bs:=λS m l=>by rw[←j S m l];exact FW A.flen A.fok
  have I:=u S0 d i;unfold yb;rcases RG A hx0 hx hy0 hy with⟨B,S,r,w,hS⟩ |⟨a,B,hN',hS⟩
  ·right;rw[B];refine⟨_,rfl,v,c,rfl,A,D,by omega,u,S,r,w,?_⟩;rw[←hS,j S r w]
  ·left;rw[B];have f:∀S:Int->Bool,S x=true->S y=false->dA S bs a=v+1:=λS m l=>by
    rw[hS,j S m l,m,l];simp[bZ]
   have H:v+1<=cJ S0 bs:=by rw[←f S0 d i];exact FW hN'.flen hN'.fok
   have G:aB (v+1)=v+1:=zt om om;refine⟨_,rfl,⟨v+1,a,by rw[G],by omega,hN',f⟩,?_⟩;simp only[G];omega
end
def vu:List (List Int)->List (Int×Int×Int)->Int->Option (List (List Int))
 | t,[],_=>some t
 | t,b::bs,i=>idx t b.1>>=λx=>aX 8 x [i]>>=λy=>idx (t.set b.1.toNat y) b.2.1>>=λz=>aX 8 z [i]>>=λw=>vu ((t.set b.1.toNat y).set b.2.1.toNat w) bs (i+1)
def OR(all:List (Int×Int×Int))(hlen:all.length<=100000):∀(rest:List (Int×Int×Int))(i:Nat)(t t':List (List Int)),all.drop i=rest->vu t rest i=some t'->iter (qn all) ((i:Int),t)=some t'
 |[],i,t,t',hd,h=>by
  have hi:all.length<=i:=by
   have:=congrArg List.length hd;exact C4
  have:t'=t:=by injection h with h;exact h.symm
  subst this;refine zq ?_;unfold qn;rw[ϙ so]
 | b::rest,i,t,t',hd,h=>by
  have hi:i<all.length:=by
   have:=congrArg List.length hd;exact C4
  have k:idx all (i:Int)=some b:=by
   unfold idx;rw[Ϙ om];have:all[i]?=some b:=by
    have d:(all.drop i)[0]?=some b:=by rw[hd];rfl
    rw[cm]at d;simpa using d
   simpa using this
  unfold vu at h;obtain⟨x,l,h⟩:=gx.1 h;obtain⟨y,j,h⟩:=gx.1 h;obtain⟨z,m,h⟩:=gx.1 h;obtain⟨w,f,h⟩:=gx.1 h;have c:aB ((i:Int)+1)=((i+1:Nat):Int):=ψ
  have a:qn all ((i:Int),t)=some (.inl (((i+1:Nat):Int),(t.set b.1.toNat y).set b.2.1.toNat w)):=by
   unfold qn;rw[Ϙ so];simp only[k,gy,l,j,m,f,c]
  rw[zp a];refine OR all hlen rest (i+1) _ t' ?_ (϶ h);have:=congrArg (List.drop 1) hd;rw[List.drop_drop]at this;simpa[Eo]using this
def fH(n:Int)(bs:List Bd):Prop:=∀(k:Nat)(b:Bd),bs[k]?=some b->0<=b.1/\b.1<n/\0<=b.2.1/\b.2.1<n/\b.1≠b.2.1/\0<=b.2.2/\b.2.2<=1000
def NK{n:Int}(hn:0<=n)(all:List Bd)(hw:fH n all)(hlen:all.length<=100000):∀(rest:List Bd)(i:Nat)(t:List (List Int)),all.drop i=rest->i+rest.length=all.length->t.length=n.toNat->
  (∀(v:Nat)(l:List Int),t[v]?=some l->l.length<=i/\∀k:Int,k∈l↔(0<=k/\k<i/\∃b:Bd,all[k.toNat]?=some b/\(b.1=v\/b.2.1=v)))->
  ∃t',vu t rest i=some t'/\t'.length=n.toNat/\∀(v:Nat)(l:List Int),t'[v]?=some l->l.length<=100000/\∀k:Int,k∈l↔(0<=k/\∃b:Bd,all[k.toNat]?=some b/\(b.1=v\/b.2.1=v))
 |[],i,t,hd,hl,ht,hm=>by
  refine⟨t,rfl,ht,λv l d=>?_⟩;obtain⟨G,B⟩:=hm v l d;refine⟨by omega,λk=>(B k).trans ?_⟩;constructor
  ·rintro⟨E,_,h⟩;exact⟨E,h⟩
  ·rintro⟨E,b,f,h⟩;have:=zz f;simp at hl;exact⟨E,by omega,b,f,h⟩
 | b::rest,i,t,hd,hl,ht,hm=>by
  have f:all[i]?=some b:=by
   have:=congrArg (λl=>l[0]?) hd;exact w8
  have m:=hw _ _ f;have hi:=zz f;obtain⟨x,M,u⟩:=zY (l:=t) m.1 om;obtain⟨J,A⟩:=hm _ _ u;have D:b.1.toNat≠b.2.1.toNat:=by omega
  obtain⟨z,O,r⟩:=zY (l:=t) m.2.2.1 om;obtain⟨L,w⟩:=hm _ _ r;have I:idx (t.set b.1.toNat (x++[(i:Int)])) b.2.1=some z:=gB m.2.2.1 (by rw[zK D];exact r);unfold vu;rw[M];simp only[gy];rw[zO so so];simp only[gy,I];rw[zO so so];simp only[gy];refine NK hn all hw hlen rest (i+1) _ ?_ (by simp at hl;omega) (by simp[ht]) ?_
  ·rw[←List.drop_drop,hd];rfl
  ·intro v l d;by_cases B:b.2.1.toNat=v
   ·subst B;rw[zZ (by rw[ed];exact zz r)]at d;obtain rfl:=A5 d;refine⟨π,λk=>?_⟩;rw[er];constructor
    ·rintro(h | h)
     ·obtain⟨j,y,a⟩:=(w k).1 h;exact⟨j,by omega,a⟩
     ·have:k=i:=϶ h
      subst this;exact⟨by omega,by omega,b,϶ f,.inr om⟩
    ·rintro⟨j,y,a⟩;by_cases F:k=i
     ·right;simp[F]
     ·left;exact(w k).2 ⟨j,by omega,a⟩
   ·rw[zK B]at d;by_cases G:b.1.toNat=v
    ·subst G;rw[zZ<|zz u]at d;obtain rfl:=A5 d;refine⟨π,λk=>?_⟩;rw[er];constructor
     ·rintro(h | h)
      ·obtain⟨j,y,a⟩:=(A k).1 h;exact⟨j,by omega,a⟩
      ·have:k=i:=϶ h
       subst this;exact⟨by omega,by omega,b,϶ f,.inl om⟩
     ·rintro⟨j,y,a⟩;by_cases F:k=i
      ·right;simp[F]
      ·left;exact(A k).2 ⟨j,by omega,a⟩
    ·rw[zK G]at d;obtain⟨j,y⟩:=hm v l d;refine⟨by omega,λk=>(y k).trans ?_⟩;constructor
     ·rintro⟨a,N,H⟩;exact⟨a,by omega,H⟩
     ·rintro⟨a,N,c,C,H⟩;refine⟨a,?_,c,C,H⟩;rcases Ϲ k i with h8 | h8
      ·exact h8
      ·have:k=i:=by omega
       subst this;simp at C;rw[f]at C;obtain rfl:=A5 C;omega
section
variable {n:Int} {bs:List Bd} {x y:Int}
def RR(hn0:0<=n)(hn1:n<=100000)(d:bs.length<=100000)(hw:fH n bs):∃at_ fl,Bg n bs=some (n,bs,at_,fl)/\dC n bs at_ fl/\∀S,dA S bs fl=0:=by
 obtain⟨t',r,m,j⟩:=NK hn0 bs hw d bs 0 (List.replicate n.toNat []) si om si (by
  intro v l c;rw[dg]at c;split at c
  ·injection c with c;subst c
   refine⟨by simp,λk=>?_⟩;constructor
   ·intro h;cases h
   ·rintro⟨w,u,_⟩;omega
  ·cases c)
 refine⟨t',List.replicate bs.length 0,?_,⟨hn0,hn1,d,hw,m,j,by simp,?_⟩,λS=>Ot⟩
 ·unfold Bg;rw[Co hn0 om om,Co om om om];simp only[gy,bb];have i:iter (qn bs) (0,List.replicate n.toNat [])=some t':=OR bs d bs 0 _ t' si r;rw[i];rfl
 ·intro k b f d a;rw[dg]at a;have:=hw _ _ d;split at a
  ·injection a with a;subst a;omega
  ·cases a
def QT(hn1:n<=100000)(hb:bs.length<=100000)(hw:fH n bs)(hx0:0<=x)(hx:x<n)(hy0:0<=y)(hy:y<n)(hxy:x≠y):
  ∃v at_ fl,AW n bs x y=some ((n,bs,at_,fl),v)/\dC n bs at_ fl/\0<=v/\v<=100000000/\jI bs x y v:=by
 obtain⟨at_,fl,b,k,i⟩:=RR om hn1 hb hw;obtain⟨v,d,a,c,h,f,j⟩:=QU k hx0 hx hy0 hy hxy i;refine⟨v,at_,d,?_,c,h,f,j⟩;unfold AW Mh;rw[b];simp only[gy];rw[a];rfl
def Qn{at_ fl}(h:dC n bs at_ fl)(hy0:0<=y)(hy:y<n):∃p,yP (n,bs,at_,fl) y=some (p,n,bs,at_,fl)/\p.length<=100000:=by
 obtain⟨L,hs,j⟩:=NO h hy0 hy;have f:=h.n1;have hlen:=j.len;have key:=zy (F:=DL (n,bs,at_,fl) (L,n,bs,at_,fl)) (λs=>0<=s.2/\s.2<=n/\s.1.length<=s.2.toNat) (λs=>(n - s.2).toNat) (λp=>p.length<=100000) ?_ ([],0) ⟨by omega,by omega,by simp⟩
 ·obtain⟨p,hp,c⟩:=key;refine⟨p,?_,c⟩;unfold yP Ka;rw[hs];simp only[gy,hp]
 ·rintro⟨p,i⟩ ⟨hi0,hi1,c⟩;simp only at hi0 hi1 c;unfold DL xm;by_cases hlt:i<n
  ·left;rw[Ϙ (by simp[hlt])];obtain⟨d,hd,_⟩:=zY (l:=L) hi0 om;simp only[hd,gy];have a:aB (i+1)=i+1:=zt om om;by_cases b:d≥0
   ·rw[Ϙ (by simp[b]),zO so so];refine⟨_,rfl,⟨by simp only[a];omega,by simp only[a];omega,?_⟩,by simp only[a];omega⟩;simp only[a,dt,du,dz];omega
   ·rw[ϙ (by simp[b])];exact⟨_,rfl,⟨by simp only[a];omega,by simp only[a];omega,by simp only[a];omega⟩,by simp only[a];omega⟩
  ·right;rw[ϙ (by simp[hlt])];exact⟨_,rfl,(by simp only[];omega)⟩
def Qd v w(p q:List Int)(hp:p.length<=100000):∃b,Au v p w q=some b/\(v<w->b=true)/\(w<v->b=false):=by
 unfold Au;by_cases f:v=w
 ·rw[ϙ (by simp[f])];by_cases k:p.length=q.length
  ·rw[ϙ (by simp[k])];have key:=zy (F:=Ed p q) (λi=>0<=i/\i<=p.length) (λi=>(p.length - i).toNat) (λ_=>True) ?_ 0 ⟨by omega,by omega⟩
   ·obtain⟨z,n,_⟩:=key;rw[n];cases z with
    | inl z=>exact⟨false,rfl,by omega,by omega⟩
    | inr z=>exact⟨z,rfl,by omega,by omega⟩
   ·rintro i ⟨d,h⟩;unfold Ed;by_cases hlt:i<p.length
    ·rw[Ϙ (by simp[hlt])];obtain⟨a,j,_⟩:=zY (l:=p) d hlt;obtain⟨b,m,_⟩:=zY (l:=q) d om;simp only[j,m,gy];by_cases c:a=b
     ·left;rw[ϙ (by simp[c]),zt om om];exact⟨_,rfl,⟨by omega,by omega⟩,by omega⟩
     ·right;rw[Ϙ (by simp[c])];exact⟨_,rfl,xO⟩
    ·right;rw[ϙ (by simp[hlt])];exact⟨_,rfl,xO⟩
  ·rw[Ϙ so];exact⟨_,rfl,by omega,by omega⟩
 ·rw[Ϙ (by simp[f])];exact⟨_,rfl,by simp,π⟩
def Holds(n:Int)(bs:List Bd)(t:Int):Prop:=∀S:Int->Bool,S 0=true->(∃y,1<=y/\y<n/\S y=false)->t<=cJ S bs
def zx7(hn2:2<=n)(hn1:n<=100000)(hb:bs.length<=100000)(hw:fH n bs):∃v p,Ae n bs=some (v,p)/\∀t,t<=v↔Holds n bs t:=by
 have key:=zy (F:=DU n bs)
  (λs=>1<=s.2.2/\s.2.2<=n/\s.2.1.length<=100000/\(s.2.2=1/\s.1 = -1\/1<s.2.2/\0<=s.1/\(∃y,1<=y/\y<s.2.2/\jI bs 0 y s.1)/\∀y,1<=y->y<s.2.2->∃v,jI bs 0 y v/\s.1<=v))
  (λs=>(n - s.2.2).toNat) (λz=>(∃y,1<=y/\y<n/\jI bs 0 y z.1)/\∀y,1<=y->y<n->∃v,jI bs 0 y v/\z.1<=v) ?_ ((-1),[],1) ⟨by show(1:Int)<=1;omega,by show(1:Int)<=n;omega,by simp,.inl ⟨rfl,rfl⟩⟩
 ·obtain⟨⟨v,p⟩,O,⟨y,f,l,hm⟩,B⟩:=key;refine⟨v,p,?_,λt=>⟨λht S hS0 ⟨z,c,d,hSz⟩=>?_,λQ=>?_⟩⟩
  ·unfold Ae KE;rw[O];rfl
  ·obtain⟨u,J,i⟩:=B z c d;have:=J.1 S hS0 hSz;simp only at i;omega
  ·obtain⟨S,m,k,D⟩:=hm.2;have:=Q S m ⟨y,f,l,k⟩;simp only at D;omega
 ·rintro⟨a,part,y⟩ ⟨f,l,hpl,hor⟩;simp only at f l hpl hor;unfold DU;by_cases hlt:y<n
  ·left;rw[Ϙ (by simp[hlt])];obtain⟨v,at_,fl,P,R,H,N,hm⟩:=QT (x:=0) (y:=y) hn1 hb hw om om om hlt om;obtain⟨p,hp,j⟩:=Qn (y:=y) R om hlt;simp only[P,hp,gy];have A:aB (y+1)=y+1:=zt om om;have take:(s1:a<0\/v<=a)->∃s',m_ (a,part,y) ((n,bs,at_,fl),v) (p,n,bs,at_,fl) true=some (.inl s')/\
     (1<=s'.2.2/\s'.2.2<=n/\s'.2.1.length<=100000/\(s'.2.2=1/\s'.1 = -1\/1<s'.2.2/\0<=s'.1/\(∃y,1<=y/\y<s'.2.2/\jI bs 0 y s'.1)/\∀y,1<=y->y<s'.2.2->∃v,jI bs 0 y v/\s'.1<=v))/\(n - s'.2.2).toNat<(n - y).toNat:=by
    intro i;refine⟨(v,p,y+1),by unfold m_ s_;simp[A],⟨ϖ,ϖ,j,.inr ⟨ϖ,H,⟨y,f,ϖ,hm⟩,?_⟩⟩,ϖ⟩;intro z c d;simp only at d;by_cases r:z=y
    ·subst r;exact⟨v,hm,ϖ⟩
    ·rcases hor with⟨m,k⟩ |⟨m,k,D,h4⟩
     ·omega
     ·obtain⟨u,J,M⟩:=h4 z c om;exact⟨u,J,ϖ⟩
   have C:0<=a->a<=v->∃s',m_ (a,part,y) ((n,bs,at_,fl),v) (p,n,bs,at_,fl) false=some (.inl s')/\
     (1<=s'.2.2/\s'.2.2<=n/\s'.2.1.length<=100000/\(s'.2.2=1/\s'.1 = -1\/1<s'.2.2/\0<=s'.1/\(∃y,1<=y/\y<s'.2.2/\jI bs 0 y s'.1)/\∀y,1<=y->y<s'.2.2->∃v,jI bs 0 y v/\s'.1<=v))/\(n - s'.2.2).toNat<(n - y).toNat:=by
    intro G i;rcases hor with⟨m,k⟩ |⟨m,k,⟨y',h5,h6,h7⟩,h4⟩
    ·omega
    ·refine⟨(a,part,y+1),by unfold m_ s_;simp[A],⟨ϖ,ϖ,hpl,.inr ⟨ϖ,G,⟨y',h5,ϖ,h7⟩,?_⟩⟩,ϖ⟩;intro z c d;simp only at d;by_cases r:z=y
     ·subst r;exact⟨v,hm,i⟩
     ·exact h4 z c om
   by_cases w:a<0
   ·rw[Ϙ (by simp[w])];exact take<|.inl w
   ·rw[ϙ (by simp[w])];obtain⟨b,I,L,hb2⟩:=Qd v a p part j;simp only[I,gy];cases b with
    | true=>exact take<|.inr (by
      rcases Ϲ a v with h | h
      ·have:=hb2 h;cases this
      ·exact h)
    | false=>exact C om (by
      rcases Ϲ v a with h | h
      ·have:=L h;cases this
      ·exact h)
  ·right;rw[ϙ (by simp[hlt])];refine⟨_,rfl,?_⟩;have E:y=n:=by omega
   subst E;rcases hor with⟨m,k⟩ |⟨m,k,D,h4⟩
   ·omega
   ·exact⟨D,h4⟩
end
def bX:Nat->(Nat->Int)->Int
 | 0,_=>0
 | n+1,f=>bX n f+f n
def jA{f g:Nat->Int}:∀{n:Nat},(∀i,i<n->f i=g i)->bX n f=bX n g
 | 0,_=>rfl
 | n+1,h=>by
  unfold bX;rw[jA (n:=n) λi hi=>h i om,h n om]
def BP(f g:Nat->Int):∀(n:Nat),bX n (λi=>f i+g i)=bX n f+bX n g
 | 0=>rfl
 | n+1=>by
  unfold bX;rw[BP f g n];simp only[Int.add_assoc,Int.add_left_comm,Int.add_comm]
def BB:∀(n:Nat),bX n (λ_=>0)=0
 | 0=>rfl
 | n+1=>by unfold bX;rw[BB n];rfl
def GU(f:Nat->Int):∀(n:Nat),bX n (λi => - f i) = - bX n f
 | 0=>rfl
 | n+1=>by unfold bX;rw[GU f n];show - bX n f + - f n = - (bX n f+f n);omega
def Hp{f g:Nat->Int}:∀{n:Nat},(∀i,i<n->f i<=g i)->bX n f<=bX n g
 | 0,_=>Int.le_refl _
 | n+1,h=>by
  unfold bX;have a:=Hp (n:=n) λi hi=>h i om;have b:=h n om;omega
def Oa(f:Nat->Nat->Int)m:∀(n:Nat),bX n (λi=>bX m (λj=>f i j))=bX m (λj=>bX n (λi=>f i j))
 | 0=>by
  show(0:Int)=bX m (λ_=>0);rw[BB]
 | n+1=>by
  show bX n (λi=>bX m (λj=>f i j))+bX m (λj=>f n j)=bX m (λj=>bX n (λi=>f i j)+f n j);rw[Oa f m n,BP]
def GS{f g:Nat->Int}{a d}:∀{n:Nat},a<n->(∀i,i<n->i≠a->g i=f i)->g a=f a+d->bX n g=bX n f+d
 | 0,h,_,_=>by omega
 | n+1,h,he,ha=>by
  unfold bX;by_cases b:a=n
  ·subst b;rw[jA (f:=g) (g:=f) λi hi=>he i om om,ha];omega
  ·rw[GS (n:=n) om (λi hi=>he i om) ha,he n om om];omega
def eQ(n:Nat)(S:Int->Bool)(F:Nat->Nat->Int):Int:=bX n λu=>bX n λv=>bZ (S u)*F u v
def fb(n:Nat)(S:Int->Bool)(R:Nat->Nat->Int):Int:=bX n λu=>bX n λv=>bZ (S u)*(1 - bZ (S v))*R u v
def Ol{S:Int->Bool}{F:Nat->Nat->Int}{n}(ha:∀u v,u<n->v<n->F u v = - F v u):eQ n S F=fb n S F:=by
 obtain⟨T,a⟩:∃T,T=bX n λu=>bX n λv=>bZ (S u)*bZ (S v)*F u v:=u3;have f:eQ n S F=fb n S F+T:=by
  unfold eQ fb;rw[a,←BP];refine jA λu c=>?_;rw[←BP];refine jA λv b=>?_;rw[Int.mul_sub,Int.sub_mul,Int.mul_one];omega
 have d:T = - T:=by
  calc T=bX n λv=>bX n λu=>bZ (S u)*bZ (S v)*F u v:=by rw[a,Oa]
   _=bX n λv => - bX n λu=>bZ (S v)*bZ (S u)*F v u:=by
     refine jA λv b=>?_;rw[←GU];refine jA λu c=>?_;rw[ha u v c b,Int.mul_neg,Int.mul_comm<|bZ<|S u]
   _ = - T:=by rw[GU,←a]
 omega
def SF{S:Int->Bool}{F R:Nat->Nat->Int}{n}(h:∀u v,u<n->v<n->F u v<=R u v):fb n S F<=fb n S R:=by
 refine Hp λu b=>Hp λv a=>?_;have:=h u v b a;unfold bZ;split<;>split<;>omega
def SG{S:Int->Bool}{F R:Nat->Nat->Int}{n}(h:∀u v:Nat,u<n->v<n->S u=true->S v=false->F u v=R u v):fb n S F=fb n S R:=by
 refine jA λu b=>jA λv a=>?_;have:=h u v b a;unfold bZ;cases hS:S u<;>cases hV:S v<;>simp[hS,hV]at this ⊢;exact this
def BI{c:Nat->Nat->Int}{F G:Nat->Nat->Int}{n a b d}(ha:a<n)(hb:b<n)(he:∀u v,u<n->v<n->(u≠a\/v≠b)->G u v=F u v)(h:G a b=F a b+d):
  (bX n λu=>bX n λv=>c u v*G u v)=(bX n λu=>bX n λv=>c u v*F u v)+c a b*d:=by
 refine GS ha (λu j f=>jA λv i=>by rw[he u v j i<|.inl f]) ?_;refine GS hb (λv i f=>by rw[he a v ha i<|.inr f]) ?_;rw[h,Int.mul_add]
def ent(F:List (List Int))(u v:Nat):Int:=((F[u]?.getD [])[v]?).getD 0
structure Sq(n:Nat)(F:List (List Int)):Prop where
 len:F.length=n
 row:∀(u:Nat)(r:List Int),F[u]?=some r->r.length=n
section
variable {n:Nat} {F:List (List Int)}
def Sq.get(h:Sq n F){u v}(hu:u<n)(hv:v<n):∃r,F[u]?=some r/\r.length=n/\r[v]?=some (ent F u v):=by
 have b:u<F.length:=by rw[h.len];exact hu
 have a:F[u]?=some F[u]:=cn b;have c:=h.row u _ a;refine⟨F[u],a,c,?_⟩;unfold ent;rw[a];simp only[gz];rw[cn om];rfl
def Sq.idx(h:Sq n F){u v:Int}(hu0:0<=u)(hu:u<n)(hv0:0<=v)(hv:v<n):∃r,idx F u=some r/\r.length=n/\F[u.toNat]?=some r/\Lf.idx r v=some (ent F u.toNat v.toNat):=by
 obtain⟨r,a,b,c⟩:=h.get (u:=u.toNat) (v:=v.toNat) om om;exact⟨r,gB hu0 a,b,a,gB hv0 c⟩
def Sq.set(h:Sq n F){v:Nat}{r:List Int}{e:Int}{u}(hr:F[u]?=some r)(hv:v<n):Sq n (F.set u (r.set v e))/\∀i j,ent (F.set u (r.set v e)) i j=if i=u/\j=v then e else ent F i j:=by
 have d:=zz hr;have c:=h.row u r hr;refine⟨⟨B7 h.len,λi x a=>?_⟩,λi j=>?_⟩
 ·by_cases hi:u=i
  ·subst hi;rw[zZ d]at a;injection a with a
   rw[←a,ed];exact c
  ·rw[zK hi]at a;exact h.row i x a
 ·unfold ent;by_cases hi:u=i
  ·subst hi;rw[zZ d,hr];simp only[gz,true_and];by_cases b:v=j
   ·subst b;rw[zZ om,Ϙ rfl];rfl
   ·rw[zK b,ϙ (λe=>b e.symm)]
  ·rw[zK hi,ϙ (λe=>hi e.1.symm)]
end
def Cj{n:Int}(h0:0<=n)(h1:n<=100000):eM 8 n (0:Int)=some (List.replicate n.toNat 0):=Co h0 om om
def SR n:Sq n (List.replicate n (List.replicate n 0))/\∀u v,ent (List.replicate n (List.replicate n 0)) u v=0:=by
 refine⟨⟨by simp,λu r b=>?_⟩,λu v=>?_⟩
 ·have:=dg (a:=List.replicate n (0:Int)) (n:=n) (i:=u);rw[this]at b;split at b
  ·injection b with b;rw[←b];simp
  ·cases b
 ·unfold ent;rw[dg];split
  ·simp only[gz];rw[dg];split<;>rfl
  ·simp
section
variable {n:Int} {bs:List Bd}
def zwC(h0:0<=n)(h1:n<=1000):iter (xJ n) (0,[],[])=some (List.replicate n.toNat (List.replicate n.toNat 0),List.replicate n.toNat (List.replicate n.toNat 0)):=by
 have key:=zy (F:=xJ n)
  (λs=>0<=s.1/\s.1<=n/\s.2.1=List.replicate s.1.toNat (List.replicate n.toNat 0)/\s.2.2=List.replicate s.1.toNat (List.replicate n.toNat 0)) (λs=>(n - s.1).toNat)
  (λz=>z=(List.replicate n.toNat<|List.replicate n.toNat 0,List.replicate n.toNat<|List.replicate n.toNat 0)) ?_ (0,[],[]) ⟨by simp,h0,by simp,by simp⟩
 ·obtain⟨z,d,rfl⟩:=key;exact d
 ·rintro⟨i,A,B⟩ ⟨hi0,hi1,hA,hB⟩;simp only at hi0 hi1 hA hB;unfold xJ;by_cases hlt:i<n
  ·left;have c:∀X,X=List.replicate i.toNat (List.replicate n.toNat (0:Int))->aX 24 X [List.replicate n.toNat 0]=some (List.replicate (i+1).toNat<|List.replicate n.toNat 0):=by
    intro X b;have hlen:X.length=i.toNat:=by rw[b];simp
    rw[zO (by rw[hlen];simp;omega) (by rw[hlen];simp;omega),b];have:(i+1).toNat=i.toNat+1:=by omega
    rw[this,List.replicate_succ']
   simp only[hlt,Ϟ,Ϡ,Cj h0 om,gy,c A hA,c B hB];have a:aB (i+1)=i+1:=zt om om;exact⟨_,rfl,⟨by simp only[a];omega,by simp only[a];omega,by simp only[a],by simp only[a]⟩,by simp only[a];omega⟩
  ·right;simp only[hlt,ϡ];have:i=n:=by omega
   subst this;exact⟨_,rfl,by rw[hA,hB]⟩
def Rx{S:Int->Bool}{R R1 R2:Nat->Nat->Int}{a b:Nat}{d:Int}{m}(ha:a<m)(hb:b<m)(hab:a≠b)(h1:∀u v,R1 u v=if u=a/\v=b then R a b+d else R u v)(h2:∀u v,R2 u v=if u=b/\v=a then R1 b a+d else R1 u v):
  fb m S R2=fb m S R+(if S a=S b then 0 else d):=by
 unfold fb;rw[BI (c:=λu v=>bZ (S u)*(1 - bZ (S v))) (F:=R1) (G:=R2) hb ha (d:=d) (λu v _ _ f=>by rw[h2,ϙ om]) (by rw[h2,Ϙ ⟨rfl,rfl⟩]),
  BI (c:=λu v=>bZ (S u)*(1 - bZ (S v))) (F:=R) (G:=R1) ha hb (d:=d) (λu v _ _ f=>by rw[h1,ϙ om]) (by rw[h1,Ϙ ⟨rfl,rfl⟩])]
 unfold bZ;cases S a<;>cases S b<;>simp
def ZE(h0:0<=n)(h1:n<=1000)(hb:bs.length<=100000)(hw:fH n bs)(A:List (List Int))(hA:Sq n.toNat A)(hA0:∀u v,ent A u v=0):
  ∃R,iter (xH bs) (0,A)=some R/\Sq n.toNat R/\(∀u v,0<=ent R u v/\ent R u v<=2000*bs.length)/\∀S,fb n.toNat S (ent R)=cJ S bs:=by
 have key:=zy (F:=xH bs)
  (λs=>0<=s.1/\s.1<=bs.length/\Sq n.toNat s.2/\(∀u v,0<=ent s.2 u v/\ent s.2 u v<=2000*s.1)/\∀S,fb n.toNat S (ent s.2)=cJ S (bs.take s.1.toNat)) (λs=>(bs.length - s.1).toNat)
  (λR=>Sq n.toNat R/\(∀u v,0<=ent R u v/\ent R u v<=2000*bs.length)/\∀S,fb n.toNat S (ent R)=cJ S bs) ?_ (0,A) ⟨by simp,by simp,hA,λu v=>by rw[hA0];simp,λS=>?_⟩
 ·exact key
 ·rintro⟨i,A⟩ ⟨hi0,hi1,hA,hbd,hc⟩;simp only at hi0 hi1 hA hbd hc;unfold xH;by_cases hlt:i<bs.length
  ·left;obtain⟨⟨x,y,s⟩,D,z⟩:=zY (l:=bs) hi0 hlt;obtain⟨E,w2,G,Q,X,U,V⟩:=hw _ _ z;simp only at E w2 G Q X U V;obtain⟨r,g1,g2,g3,Z⟩:=hA.idx (u:=x) (v:=y) E om G om;obtain⟨w,j⟩:=hA.set (e:=ent A x.toNat y.toNat+s) g3 (v:=y.toNat) om;obtain⟨T,k1,k2,k3,P⟩:=w.idx (u:=y) (v:=x) G om E om;have a3:=hbd x.toNat y.toNat;have B:ent (A.set x.toNat<|r.set y.toNat<|ent A x.toNat y.toNat+s) y.toNat x.toNat=ent A y.toNat x.toNat:=by rw[j,ϙ om]
   have hb2:=hbd y.toNat x.toNat;rw[B]at P;obtain⟨M,C⟩:=w.set (e:=ent A y.toNat x.toNat+s) k3 (v:=x.toNat) om;have N:aB (ent A x.toNat y.toNat+s)=ent A x.toNat y.toNat+s:=zt om om;have L:aB (ent A y.toNat x.toNat+s)=ent A y.toNat x.toNat+s:=zt om om;have I:aB (i+1)=i+1:=zt om om;simp only[hlt,Ϟ,Ϡ,D,gy,g1,Z,N,k1,P,L,I];refine⟨_,rfl,⟨(by simp only[];omega),(by simp only[];omega),M,λu v=>?_,λS=>?_⟩,(by simp only[];omega)⟩
   ·simp only;rw[C];split
    ·omega
    ·rw[j];split
     ·omega
     ·have:=hbd u v;omega
   ·simp only;have J:(i+1).toNat=i.toNat+1:=by omega
    have H:bs.take (i+1).toNat=bs.take i.toNat++[(x,y,s)]:=by
     rw[J,fu,z];rfl
    rw[H];have h:∀(l:List Bd)(b:Bd),cJ S (l++[b])=cJ S l+(if S b.1=S b.2.1 then 0 else b.2.2):=by
     intro l b
     induction l with
     | nil=>simp[cJ]
     | cons c l ih=>simp only[ϰ,cJ,ih];omega
    rw[h,←hc S];have hx:((x.toNat:Nat):Int)=x:=by omega
    have hy:((y.toNat:Nat):Int)=y:=by omega
    have:=Rx (m:=n.toNat) (S:=S) (R:=ent A) (R1:=ent<|A.set x.toNat<|r.set y.toNat<|ent A x.toNat y.toNat+s) (a:=x.toNat) (b:=y.toNat) (d:=s) om om om j (R2:=ent<|(A.set x.toNat<|r.set y.toNat<|ent A x.toNat y.toNat+s).set y.toNat<|T.set x.toNat<|ent A y.toNat x.toNat+s) (by intro u v;rw[C,B]);rw[hx,hy]at this;exact this
  ·right;simp only[hlt,ϡ];have:i=bs.length:=by omega
   refine⟨_,rfl,hA,λu v=>by rw[←this];exact hbd u v,λS=>?_⟩;rw[hc S,this];simp
 ·simp only[cJ,List.take_zero,Int.toNat_zero];unfold fb;have O:∀(k:Nat)(f:Nat->Int),(∀i,f i=0)->bX k f=0:=λk f Y=>by
   rw[jA (g:=λ_=>0) λi _=>Y i,BB]
  refine O _ _ λu=>O _ _ λv=>by rw[hA0];simp
def zwB(h0:0<=n)(h1:n<=1000)(hb:bs.length<=100000)(hw:fH n bs):
  ∃R F,An n bs=some (R,F)/\Sq n.toNat R/\Sq n.toNat F/\(∀u v,ent F u v=0)/\(∀u v,0<=ent R u v/\ent R u v<=2000*bs.length)/\∀S,fb n.toNat S (ent R)=cJ S bs:=by
 obtain⟨b,a⟩:=SR n.toNat;obtain⟨R,f,c,h,d⟩:=ZE h0 h1 hb hw _ b a;refine⟨R,_,?_,c,b,a,h,d⟩;unfold An LU Lb;rw[zwC h0 h1];simp only[gy];rw[f];rfl
end
def lG{a:Type}(Q:List a):Prop:=∀(i j:Nat)(x:a),Q[i]?=some x->Q[j]?=some x->i=j
def lG.snoc{e:Type}{Q:List e}{x:e}(h:lG Q)(hx:x∉Q):lG (Q++[x]):=by
 intro i j y hi m;have key:∀k:Nat,(Q++[x])[k]?=some y->(k<Q.length/\Q[k]?=some y)\/(k=Q.length/\y=x):=by
  intro k f;by_cases hlt:k<Q.length
  ·rw[ci hlt]at f;exact .inl ⟨hlt,f⟩
  ·rw[cj om]at f;have l:=zz f;simp at l;have:k=Q.length:=by omega
   subst this;simp at f;exact .inr ⟨rfl,f.symm⟩
 rcases key i hi with⟨a,b⟩ |⟨a,b⟩<;>rcases key j m with⟨c,d⟩ |⟨c,d⟩
 ·exact h i j y b d
 ·exact x4 (d▸fe b:x∈Q) hx
 ·exact x4 (b▸fe d:x∈Q) hx
 ·omega
def If{c:Type}{l l2:List c}{lo:Nat}(h:lo<=l.length)j:(fB l lo l2)[j]?=if j<lo then l[j]? else if j - lo<min l2.length (l.length - lo)then l2[j - lo]? else l[j]?:=by
 unfold fB;have a:(l.take lo).length=lo:=A2
 have b:(l2.take<|l.length - lo).length=min l2.length (l.length - lo):=A2
 split
 ·rename_i hj;rw[ci (by rw[dt,a];omega),ci om,dl,Ϙ hj]
 ·split
  ·rename_i hj hk;rw[ci (by rw[dt,a,b];omega),cj om,a,dl,Ϙ om]
  ·rename_i hj hk;rw[cj (by rw[dt,a,b];omega),dt,a,b,cm];exact v8
def zzB{n:Int}(i:1<=n)(a:n<=100000):yo [(-1)] n=some (List.replicate n.toNat (-1)):=by
 unfold yo;rw[ϙ so];have d:IntKind.wrap .u64 (([(-1:Int)].length:Nat):Int)=1:=by decide
 have u:IntKind.wrap .u64 n=n:=by
  have:∀m:Int,0<=m->m<18446744073709551616->IntKind.wrap .u64 m=m:=by
   intro m i a;show m % 18446744073709551616=m;omega
  exact this n om om
 rw[d,u];have f:us 1 n=some (0,n):=by
  unfold us;rw[Ϙ om];simp;omega
 rw[f];simp only[gy];rw[ϙ si];unfold xx;have hd:(n>9223372036854775807:Ϛ)=false:=π
 rw[hd];simp only[zt (n:=n) om om,Cj (n:=n) om a,gy];have key:=zy (F:=DO) (λs=>s.1.length=n.toNat/\1<=s.2/\s.2<=n/\∀j:Nat,j<s.2.toNat->s.1[j]?=some (-1)) (λs=>(n - s.2).toNat) (λz=>z=List.replicate n.toNat (-1)) ?_
  (fB (List.replicate n.toNat 0) 0 [-1],((min [(-1:Int)].length (List.replicate n.toNat (0:Int)).length:Nat):Int)) ?_
 ·obtain⟨z,v,rfl⟩:=key;rw[v];rfl
 ·rintro⟨l,k⟩ ⟨hl,hk0,hk1,hall⟩;simp only at hl hk0 hk1 hall;unfold DO;by_cases hlt:k<(l.length:Int)
  ·left;have r:bB l k l.length=some ((l.take (l.length:Int).toNat).drop k.toNat):=O7
   have s2:bB l 0 k=some ((l.take k.toNat).drop (0:Int).toNat):=O7
   simp only[hlt,Ϟ,Ϡ,r,s2,gy];have hlen:((l.take k.toNat).drop (0:Int).toNat).length=k.toNat:=by
    rw[dv,ef];simp;omega
   rw[hlen];have c:aB (k+((min k.toNat (l.length - k.toNat):Nat):Int))=k+((min k.toNat (l.length - k.toNat):Nat):Int):=zt om om;rw[c];refine⟨_,rfl,⟨?_,ϖ,ϖ,?_⟩,ϖ⟩
   ·simp only;rw[Hb om];exact hl
   ·intro j b;simp only at b ⊢;rw[If om];split
    ·rename_i h;exact hall j h
    ·split
     ·rename_i a h2;rw[cm,dl];simp only[Int.toNat_zero,gv];rw[Ϙ om];exact hall _ om
     ·rename_i a h2;rw[hlen]at h2;omega
  ·right;simp only[hlt,ϡ];refine⟨_,rfl,?_⟩;apply bp;intro j;rw[dg];split
   ·exact hall j om
   ·exact co om
 ·have hm:((min [(-1:Int)].length (List.replicate n.toNat (0:Int)).length:Nat):Int)=1:=π
  refine⟨by simp only[];rw[Hb si];simp,by simp only[hm];omega,by simp only[hm];omega,λj b=>?_⟩;simp only[hm]at b;have:j=0:=by omega
  subst this;simp only;rw[If si,ϙ om,Ϙ so];rfl
def Fr(R F:List (List Int))(u v:Int):Prop:=ent F u.toNat v.toNat<ent R u.toNat v.toNat
section
variable {n:Nat} {R F:List (List Int)}
def Ug(hR:Sq n R)(hF:Sq n F){u v:Int}(hu0:0<=u)(hu:u<n)(hv0:0<=v)(hv:v<n):∃b,yq (R,F) u v=some b/\(b=true↔Fr R F u v):=by
 obtain⟨r,c,h,i,a⟩:=hR.idx hu0 hu hv0 hv;obtain⟨f,k1,k2,k3,d⟩:=hF.idx hu0 hu hv0 hv;unfold yq;simp only[c,a,k1,d,gy];exact⟨_,rfl,by unfold Fr;simp⟩
structure WInv(n:Nat)(R F:List (List Int))(a:Int)(par Q:List Int)(k:Nat):Prop where
 len:par.length=n
 inj:lG Q
 hd:Q[0]?=some a
 kle:k<=Q.length
 rng:∀x∈Q,0<=x/\x<n
 neg:Q.length+par.countP isNeg=n
 mem:∀(v:Nat)(p:Int),par[v]?=some p->((v:Int)∈Q↔0<=p)
 src:∀(i:Nat)(x:Int),Q[i]?=some x->i≠0->∃(j:Nat)(p:Int),j<i/\Q[j]?=some p/\par[x.toNat]?=some p/\Fr R F p x
 cls:∀(j:Nat)(u:Int),j<k->Q[j]?=some u->∀v:Nat,v<n->Fr R F u v->(v:Int)∈Q
variable {a b:Int} {par Q:List Int} {k:Nat}
def Qy(hn:n<=1000)(hR:Sq n R)(hF:Sq n F)(h:WInv n R F a par Q k){u:Int}(hu:Q[k]?=some u)(rest:List Int):
  ∃par' L,iter (wC (R,F) (u,rest)) (par,0,Q.drop (k+1))=some (par',L)/\∃Q',WInv n R F a par' Q' (k+1)/\L=Q'.drop (k+1):=by
 have w:=h.rng u<|fe hu;have key:=zy (F:=wC (R,F) (u,rest))
  (λs=>0<=s.2.1/\s.2.1<=n/\∃Q',WInv n R F a s.1 Q' k/\s.2.2=Q'.drop (k+1)/\Q'[k]?=some u/\∀v:Nat,(v:Int)<s.2.1->Fr R F u v->(v:Int)∈Q')
  (λs=>(n - s.2.1).toNat) (λz=>∃Q',WInv n R F a z.1 Q' (k+1)/\z.2=Q'.drop (k+1)) ?_ (par,0,Q.drop (k+1)) ⟨by simp,by simp,Q,h,rfl,hu,λv hv=>by simp only at hv;omega⟩
 ·obtain⟨⟨I,L⟩,hz,M⟩:=key;exact⟨I,L,hz,M⟩
 ·rintro⟨par,v,q⟩ ⟨hv0,hv1,Q,hW,hq,hk,hcl⟩;simp only at hv0 hv1 hW hq hcl;unfold wC;simp only[hR.len];by_cases hlt:v<n
  ·left;rw[Ϙ (by simp[hlt])];obtain⟨p,hp,D⟩:=zY (l:=par) hv0 (by rw[hW.len];omega);have m:=hW.mem v.toNat p D;have G:((v.toNat:Nat):Int)=v:=by omega
   rw[G]at m;have Z:aB (v+1)=v+1:=zt om om;simp only[hp,gy];have B:(Fr R F u v->v∈Q)->∃s',pN (R,F) (u,rest) (par,v,q) false=some (.inl s')/\(0<=s'.2.1/\s'.2.1<=n/\∃Q',WInv n R F a s'.1 Q' k/\s'.2.2=Q'.drop (k+1)/\Q'[k]?=some u/\∀v:Nat,(v:Int)<s'.2.1->Fr R F u v->(v:Int)∈Q')/\(n - s'.2.1).toNat<(n - v).toNat:=by
    intro S;unfold pN sE;simp only[Z];refine⟨_,rfl,⟨ϖ,ϖ,Q,hW,hq,hk,λx c f=>?_⟩,ϖ⟩;simp only at c;by_cases d:(x:Int)=v
    ·rw[d]at f ⊢;exact S f
    ·exact hcl x om f
   by_cases r:p<0
   ·rw[Ϙ (by simp[r])];obtain⟨b,hb,E⟩:=Ug hR hF w.1 w.2 hv0 hlt;simp only[hb,gy];cases b with
    | false=>exact B λS=>x4 (E.2 S) si
    | true=>
     have f:Fr R F u v:=E.1 rfl;have J:v∉Q:=λhm=>by have:=m.1 hm;omega
     have hc:(par.set v.toNat u).countP isNeg+1=par.countP isNeg:=uQ isNeg D (by simp[isNeg,r]) (by simp[isNeg];exact w.1);have N:=hW.neg;have C:k<Q.length:=zz hk;have Y:q.length<n:=by rw[hq,dv];omega
     unfold pN sE;simp only[Ϡ,hp,gy,hR.len];have hs:mw ((n:Int).toNat) q v=some (q++[v]):=by unfold mw;rw[Ϙ (by simpa using Y)]
     simp only[hs,gy,Z];have H:v.toNat<par.length:=zz D;refine⟨_,rfl,⟨ϖ,ϖ,Q++[v],?_,?_,?_,?_⟩,ϖ⟩
     ·refine⟨by simp only[ed];exact hW.len,hW.inj.snoc J,?_,by rw[dt];exact Nat.le_add_right_of_le hW.kle,?_,?_,?_,?_,?_⟩
      ·have h0:=zz hW.hd;rw[ci h0];exact hW.hd
      ·intro x c;rcases er.1 c with c | c
       ·exact hW.rng x c
       ·rw[fh.1 c];exact⟨hv0,hlt⟩
      ·simp only[dt,du,dz];omega
      ·intro x I c;simp only at c;by_cases d:x=v.toNat
       ·subst d;rw[zZ H]at c;injection c with c
        subst c;rw[G];simp[w.1]
       ·rw[zK (λe=>d e.symm)]at c;rw[←hW.mem x I c,er,fh];exact⟨λe=>e.resolve_right om,.inl⟩
      ·intro i x hi P;by_cases V:i<Q.length
       ·rw[ci V]at hi;obtain⟨j,I,h1,M,h3,h4⟩:=hW.src i x hi P;refine⟨j,I,h1,by rw[ci om];exact M,?_,h4⟩;simp only;rw[zK]
        ·exact h3
        ·intro e;have a3:=hW.rng x<|fe hi;have d:x=v:=by omega
         exact J<|d▸fe hi
       ·rw[cj om]at hi;have:=zz hi;simp at this;have U:i - Q.length=0:=by omega
        rw[U]at hi;simp at hi;subst hi;exact⟨k,u,by omega,by rw[ci C];exact hk,by simp only[];rw[zZ H],f⟩
      ·intro j x hj c y T A;rw[ci om]at c;exact eu _<|hW.cls j x hj c y T A
     ·simp only;rw[List.drop_append_of_le_length om,hq]
     ·rw[ci C];exact hk
     ·intro x c X;simp only at c;by_cases d:(x:Int)=v
      ·rw[d];simp
      ·exact eu _<|hcl x om X
   ·rw[ϙ (by simp[r])];exact B λ_=>m.2 om
  ·right;rw[ϙ (by simp[hlt])];have C:k<Q.length:=zz hk;refine⟨_,rfl,Q,⟨hW.len,hW.inj,hW.hd,by omega,hW.rng,hW.neg,hW.mem,hW.src,λj x hj c y T A=>?_⟩,hq⟩;by_cases O:j=k
   ·subst O;rw[hk]at c;injection c with c
    subst c;exact hcl y om A
   ·exact hW.cls j x om c y T A
def Qx(hn:n<=1000)(hR:Sq n R)(hF:Sq n F)(h:WInv n R F a par Q 0):
  ∃b,iter (wD (R,F)) (par,Q)=some b/\∃Q',WInv n R F a b Q' Q'.length:=by
 have key:=zy (F:=wD (R,F))
  (λs=>∃Q' k,WInv n R F a s.1 Q' k/\s.2=Q'.drop k)
  (λs=>s.2.length+s.1.countP isNeg) (λz=>∃Q',WInv n R F a z Q' Q'.length) ?_ (par,Q) ⟨Q,0,h,rfl⟩
 ·exact key
 ·rintro⟨par,q⟩ ⟨Q,k,hW,hq⟩;simp only at hW hq;unfold wD;have l:=hW.neg;have m:=hW.kle;have j:q.length=Q.length - k:=by rw[hq,dv]
  have x:oZ q=some (q.length:Int):=by unfold oZ;rw[Ϙ om]
  simp only[x,gy];by_cases hlt:k<Q.length
  ·left;rw[Ϙ so];obtain⟨u,d⟩:∃u,Q[k]?=some u:=⟨_,cn hlt⟩;have hd:Q.drop k=u::Q.drop (k+1):=by
    rw[bi hlt];rw[cn hlt]at d;injection d with d
    rw[d]
   have v:=hW.rng u<|fe d;have r:vI q=some (u,Q.drop (k+1)):=by
    rw[hq,hd];show(if -9223372036854775808<=u/\u<=9223372036854775807 then some (u,Q.drop (k+1))else none)=_;rw[Ϙ ⟨by omega,by omega⟩]
   obtain⟨b,w,i,Q',c,f⟩:=Qy hn hR hF hW d<|Q.drop (k+1);simp only[r,gy,i];unfold KP;refine⟨_,rfl,⟨Q',k+1,c,f⟩,?_⟩;have A:=c.neg;have y:=c.kle;show w.length+b.countP isNeg<q.length+par.countP isNeg;rw[f,j,dv];omega
  ·right;rw[ϙ (by simp only[ϛ];omega)];refine⟨_,rfl,Q,?_⟩;have:k=Q.length:=by omega
   rw[←this];exact hW
structure HA(n:Nat)(R F:List (List Int))(a b:Int)(w:List Int):Prop where
 pos:1<=w.length
 hd:w[0]?=some a
 lst:w[w.length - 1]?=some b
 inj:lG w
 rng:∀x∈w,0<=x/\x<n
 most:w.length<=n
 edge:∀(i:Nat)(x y:Int),w[i]?=some x->w[i+1]?=some y->Fr R F x y
def Rj(hn:n<=1000)(h:WInv n R F a par Q k):∀(p:Nat)(x:Int)(out:List Int),Q[p]?=some x->1<=out.length->out[0]?=some b->out[out.length - 1]?=some x->lG out->
  (∀y∈out,∃j,p<=j/\Q[j]?=some y)->out.length+p<=Q.length->(∀(i:Nat)(x y:Int),out[i]?=some x->out[i+1]?=some y->Fr R F y x)->
  ∃w,iter (sa a par) (out,x)=some w/\1<=w.length/\w[0]?=some b/\w[w.length - 1]?=some a/\lG w/\(∀x∈w,0<=x/\x<n)/\w.length<=n/\∀(i:Nat)(x y:Int),w[i]?=some x->w[i+1]?=some y->Fr R F y x:=by
 intro p
 induction p using Nat.strongRecOn with
 | _ p ih=>
  intro x out B X S d r f Z c;have T:=h.neg;by_cases m:x=a
  ·refine⟨out,zq ?_,X,S,by rw[d,m],r,λy l=>?_,by omega,c⟩
   ·unfold sa;simp[m]
   ·obtain⟨j,_,P⟩:=f y l;exact h.rng y<|fe P
  ·have N:p≠0:=λe=>by
    subst e;rw[h.hd]at B;injection B with B;exact m B.symm
   obtain⟨j,q,P,I,C,G⟩:=h.src p x B N;have H:=h.rng x<|fe B;have v:sa a par (out,x)=some (.inl (out++[q],q)):=by
    unfold sa;simp only[m,ϡ,ϵ,Ϡ,gB H.1 C,gy];rw[zO so so];rfl
   rw[zp v];have E:q∉out:=λhm=>by
    obtain⟨i,hi,O⟩:=f q hm;have:=h.inj i j q O I;omega
   have u:∀(i:Nat)(y:Int),(out++[q])[i]?=some y->(i<out.length/\out[i]?=some y)\/(i=out.length/\y=q):=by
    intro i y hi;by_cases D:i<out.length
    ·rw[ci D]at hi;exact .inl ⟨D,hi⟩
    ·rw[cj om]at hi;have:=zz hi;simp at this;have M:i - out.length=0:=by omega
     rw[M]at hi;simp at hi;exact .inr ⟨by omega,hi.symm⟩
   refine ih j P q (out++[q]) I si (by rw[ci om];exact S) si (r.snoc E) ?_ so ?_
   ·intro y l;rcases er.1 l with l | l
    ·obtain⟨i,hi,J⟩:=f y l;exact⟨i,by omega,J⟩
    ·rw[fh.1 l];exact⟨j,gd _,I⟩
   ·intro i y z l V;rcases u i y l with⟨U,A⟩ |⟨U,A⟩<;>rcases u (i+1) z V with⟨Y,L⟩ |⟨Y,L⟩
    ·exact c i y z A L
    ·have:i=out.length - 1:=by omega
     rw[this,d]at A;injection A with A
     rw[←A,L];exact G
    ·omega
    ·omega
def Ri(hn1:1<=n)(hn:n<=1000)(hR:Sq n R)(hF:Sq n F)(ha0:0<=a)(ha:a<n)(hb0:0<=b)(hb:b<n):
  ∃w,yG (R,F) a b=some w/\(HA n R F a b w\/(w=[]/\∃S:Int->Bool,S a=true/\S b=false/\∀u v:Nat,u<n->v<n->S u=true->S v=false->¬Fr R F u v)):=by
 have E:=zzB (n:=(n:Int)) om om;have M:oO 8 (n:Int)=some []:=by unfold oO;rw[Ϙ ⟨by omega,by omega,by omega⟩]
 have A:mw ((n:Int).toNat) [] a=some [a]:=by unfold mw;rw[Ϙ so];rfl
 have r:(List.replicate (n:Int).toNat (-1:Int)).length=n:=by simp
 have G:∀(v:Nat)(p:Int),((List.replicate (n:Int).toNat (-1:Int)).set a.toNat a)[v]?=some p->v<n/\((v=a.toNat/\p=a)\/(v≠a.toNat/\p = -1)):=by
  intro v p f;have m:=zz f;rw[ed,r]at m;refine⟨m,?_⟩;by_cases B:v=a.toNat
  ·subst B;rw[zZ (by rw[r];exact m)]at f;injection f with f
   exact .inl ⟨rfl,f.symm⟩
  ·rw[zK (λe=>B e.symm),dg]at f;split at f
   ·injection f with f;exact .inr ⟨B,f.symm⟩
   ·cases f
 have Y:(List.replicate (n:Int).toNat (-1:Int)).countP isNeg=n:=by
  rw[List.countP_replicate];simp[isNeg]
 have h0:WInv n R F a ((List.replicate (n:Int).toNat (-1)).set a.toNat a) [a] 0:=by
  refine⟨by rw[ed,r],?_,rfl,by simp,?_,?_,?_,?_,λj u c=>by omega⟩
  ·intro i j x hi c;have C:=zz hi;have h:=zz c;simp at C h;omega
  ·intro x N;rw[fh.1 N];exact⟨ha0,ha⟩
  ·have hg:(List.replicate (n:Int).toNat (-1:Int))[a.toNat]?=some (-1):=by
    rw[dg,Ϙ om]
   have:=uQ isNeg hg (y:=a) (by simp[isNeg]) (by simp[isNeg];exact ha0);simp only[du,dz];omega
  ·intro v p f;obtain⟨m,⟨e1,L⟩ |⟨e1,L⟩⟩:=G v p f
   ·subst L;rw[fh];omega
   ·subst L;rw[fh];omega
  ·intro i x hi b1;have:=zz hi;exact C4
 obtain⟨par,I,Q,D⟩:=Qx hn hR hF h0;have T:∃x,idx (List.replicate (n:Int).toNat (-1:Int)) a=some x:=⟨_,Ia ha0 (by rw[r];exact ha)⟩;obtain⟨x0,P⟩:=T;unfold yG;simp only[hR.len,E,M,A,P,I,gy];unfold KR;obtain⟨p,hp,J⟩:=zY (l:=par) hb0 (by rw[D.len];exact hb);have k:=D.mem b.toNat p J;have O:((b.toNat:Nat):Int)=b:=by omega
 rw[O]at k;simp only[hp,gy];by_cases z:p<0
 ·rw[Ϙ (by simp[z])];refine⟨_,rfl,.inr ⟨rfl,λx=>(x∈Q:Ϛ),?_,?_,?_⟩⟩
  ·simp;exact fe D.hd
  ·simp;intro hm;have:=k.1 hm;omega
  ·intro u v hu f hS U hf;simp at hS U;obtain⟨j,c⟩:=cz hS;exact U<|D.cls j u (zz c) c v f hf
 ·rw[ϙ (by simp[z])];obtain⟨j,c⟩:=cz<|k.2 om;have a4:=zz c;obtain⟨w,hw,X,w2,Z,V,w5,w6,w7⟩:=Rj (b:=b) hn D j b [b] c si rfl rfl (by
   intro i j x hi c;have C:=zz hi;have h:=zz c;simp at C h;omega) (by intro y hy;rw[fh.1 hy];exact⟨j,gd _,c⟩) so (by
   intro i x y hi c;have h:=zz c;simp at h)
  rw[hw];simp only[gy];unfold KQ EE;have H:ne w.reverse=some w.reverse:=by
   unfold ne;cases hr:w.reverse with
   | nil=>have:w.length=0:=(by rw[←List.length_reverse,hr];rfl);omega
   | cons x l=>rfl
  simp only[H,gy];have d:∀(i:Nat),i<w.length->w.reverse[i]?=w[w.length - 1 - i]?:=λi hi=>List.getElem?_reverse hi;refine⟨_,rfl,.inl ⟨϶ X,by rw[d 0 om];exact Z,?_,?_,λx N=>w5 x (϶ N),϶ w6,?_⟩⟩
  ·rw[List.length_reverse,d _ om];have:w.length - 1 - (w.length - 1)=0:=by omega
   rw[this];exact w2
  ·intro i j x hi c;have C:=zz hi;have h:=zz c;rw[List.length_reverse]at C h;rw[d _ C]at hi;rw[d _ h]at c;have:=V _ _ _ hi c;omega
  ·intro i x y hi c;have h:=zz c;rw[List.length_reverse]at h;rw[d _ om]at hi;rw[d _ h]at c;have:w.length - 1 - i=w.length - 1 - (i+1)+1:=by omega
   rw[this]at hi;exact w7 _ _ _ c hi
end
structure FI(n:Nat)(R F:List (List Int)):Prop where
 sq:Sq n F
 anti:∀u v,u<n->v<n->ent F u v = - ent F v u
 le:∀u v,u<n->v<n->ent F u v<=ent R u v
section
variable {n:Nat} {R F:List (List Int)} {a b:Int} {w:List Int}
def Qs(hn:n<=1000)(hR:∀u v,0<=ent R u v/\ent R u v<=1000000000)(hw:HA n R F a b w)(hF:FI n R F):
  ∃F',iter (wh w) (1,F)=some F'/\FI n R F'/\∀S,eQ n S (ent F')=eQ n S (ent F)+bZ (S a) - bZ (S b):=by
 have key:=zy (F:=wh w)
  (λs=>1<=s.1/\s.1<=w.length/\FI n R s.2/\(∀u v:Nat,u<n->v<n->(v:Int)∉w.take s.1.toNat->ent s.2 u v=ent F u v)/\
   ∃x,w[s.1.toNat - 1]?=some x/\∀S,eQ n S (ent s.2)=eQ n S (ent F)+bZ (S a) - bZ (S x))
  (λs=>(w.length - s.1).toNat) (λF'=>FI n R F'/\∀S,eQ n S (ent F')=eQ n S (ent F)+bZ (S a) - bZ (S b)) ?_ (1,F)
  ⟨by simp,by have:=hw.pos;simp only[];omega,hF,λ_ _ _ _ _=>rfl,a,hw.hd,λS=>(by simp only[];omega)⟩
 ·exact key
 ·rintro⟨i,G⟩ ⟨hi0,hi1,hG,hsame,x,hx,hmid⟩;simp only at hi0 hi1 hG hsame hx hmid;unfold wh;have b5:=hw.most;by_cases hlt:i<w.length
  ·left;obtain⟨y,P,C⟩:=zY (l:=w) (i:=i) om hlt;have Y:aB (i - 1)=i - 1:=zt om om;have T:aB (i+1)=i+1:=zt om om;have M:idx w (i - 1)=some x:=gB om (by rw[←hx];congr 1;omega);have f:=hw.rng x<|fe hx;have h:=hw.rng y<|fe C;have a8:x≠y:=λe=>by
    subst e;have:=hw.inj _ _ _ hx C;omega
   have a3:x.toNat≠y.toNat:=by omega
   obtain⟨r,g1,g2,g3,g4⟩:=hG.sq.idx (u:=x) (v:=y) f.1 f.2 h.1 h.2;have m:=hw.edge (i.toNat - 1) x y hx (by rw[←C];congr 1;omega);unfold Fr at m;have D:((y.toNat:Nat):Int)∉w.take i.toNat:=by
    intro hm;obtain⟨j,L⟩:=cz hm;have V:=zz L;rw[ef]at V;rw[dl,Ϙ om]at L;have z:((y.toNat:Nat):Int)=y:=by omega
    rw[z]at L;have:=hw.inj _ _ _ L C;omega
   have a2:=hsame x.toNat y.toNat om om D;have b1:=hG.anti x.toNat y.toNat om om;have b2:=hG.le y.toNat x.toNat om om;have b3:=hR y.toNat x.toNat;have b4:=hR x.toNat y.toNat;have O:aB (ent G x.toNat y.toNat+1)=ent G x.toNat y.toNat+1:=zt om om;obtain⟨J,k⟩:=hG.sq.set (e:=ent G x.toNat y.toNat+1) g3 (v:=y.toNat) om;obtain⟨r1,k1,k2,k3,k4⟩:=J.idx (u:=y) (v:=x) h.1 h.2 f.1 f.2;have E:ent (G.set x.toNat<|r.set y.toNat<|ent G x.toNat y.toNat+1) y.toNat x.toNat=ent G y.toNat x.toNat:=by rw[k,ϙ om]
   rw[E]at k4;have U:aB (ent G y.toNat x.toNat - 1)=ent G y.toNat x.toNat - 1:=zt om om;obtain⟨a0,B⟩:=J.set (e:=ent G y.toNat x.toNat - 1) k3 (v:=x.toNat) om;simp only[hlt,Ϟ,Ϡ,Y,M,P,g1,g4,gy,O,k1,k4,U,T];have d:∀u v,ent ((G.set x.toNat<|r.set y.toNat<|ent G x.toNat y.toNat+1).set y.toNat<|r1.set x.toNat<|ent G y.toNat x.toNat - 1) u v =
     if u=y.toNat/\v=x.toNat then ent G y.toNat x.toNat - 1 else if u=x.toNat/\v=y.toNat then ent G x.toNat y.toNat+1 else ent G u v:=λu v=>by rw[B,k]
   refine⟨_,rfl,⟨(by simp only[];omega),(by simp only[];omega),⟨a0,?_,?_⟩,?_,y,?_,?_⟩,(by simp only[];omega)⟩
   ·intro u v H I;simp only;rw[d,d];have h1:=hG.anti u v H I;by_cases c1:u=y.toNat/\v=x.toNat
    ·obtain⟨rfl,rfl⟩:=c1;rw[Ϙ ⟨rfl,rfl⟩,ϙ om,Ϙ ⟨rfl,rfl⟩];omega
    ·rw[ϙ c1];by_cases c2:u=x.toNat/\v=y.toNat
     ·obtain⟨rfl,rfl⟩:=c2;rw[Ϙ ⟨rfl,rfl⟩,Ϙ ⟨rfl,rfl⟩];omega
     ·rw[ϙ c2,ϙ om,ϙ om];exact h1
   ·intro u v H I;simp only;rw[d];split
    ·rename_i c;obtain⟨rfl,rfl⟩:=c;omega
    ·split
     ·rename_i c;obtain⟨rfl,rfl⟩:=c;omega
     ·exact hG.le u v H I
   ·intro u v H I hm;simp only at hm ⊢;have Q:(i+1).toNat=i.toNat+1:=by omega
    rw[Q,fu,C]at hm;simp only[Option.toList_some,er,fh,not_or]at hm;have a5:v≠x.toNat:=λe=>by
     subst e;apply hm.1;have A:((x.toNat:Nat):Int)=x:=by omega
     rw[A];have:(w.take i.toNat)[i.toNat - 1]?=some x:=by rw[dl,Ϙ om];exact hx
     exact fe this
    rw[d,ϙ om,ϙ om];exact hsame u v H I hm.1
   ·simp only;rw[←C];congr 1;omega
   ·intro S;simp only;have A:((x.toNat:Nat):Int)=x:=by omega
    have z:((y.toNat:Nat):Int)=y:=by omega
    have e1:eQ n S (ent<|G.set x.toNat<|r.set y.toNat<|ent G x.toNat y.toNat+1)=eQ n S (ent G)+bZ (S ((x.toNat:Nat):Int))*1:=by
     unfold eQ;exact BI (c:=λu _=>bZ<|S u) (a:=x.toNat) (b:=y.toNat) om om (λu v _ _ N=>by rw[k,ϙ om]) (by rw[k,Ϙ ⟨rfl,rfl⟩])
    have e2:eQ n S (ent<|(G.set x.toNat<|r.set y.toNat<|ent G x.toNat y.toNat+1).set y.toNat<|r1.set x.toNat<|ent G y.toNat x.toNat - 1)=eQ n S (ent<|G.set x.toNat<|r.set y.toNat<|ent G x.toNat y.toNat+1)+bZ (S ((y.toNat:Nat):Int))*(-1):=by
     unfold eQ;exact BI (c:=λu _=>bZ<|S u) (a:=y.toNat) (b:=x.toNat) om om (λu v _ _ N=>by rw[B,ϙ om]) (by rw[B,Ϙ ⟨rfl,rfl⟩,E];omega)
    rw[e2,e1,hmid S,A,z];omega
  ·right;rw[ϙ (by simp[hlt])];have Z:i=w.length:=by omega
   have X:x=b:=by
    have:=hw.lst;rw[Z]at hx;have e:((w.length:Nat):Int).toNat=w.length:=by omega
    rw[e,this]at hx;injection hx with hx
    exact hx.symm
   exact⟨_,rfl,hG,λS=>by rw[hmid S,X]⟩
def Qo(hn1:1<=n)(hn:n<=1000)(hsq:Sq n R)(hR:∀u v,0<=ent R u v/\ent R u v<=1000000000)(hC:∀S,fb n S (ent R)<=1000000000)(hF:FI n R F)(hF0:∀u v,ent F u v=0)(ha0:0<=a)(ha:a<n)(hb0:0<=b)(hb:b<n)(hab:a≠b)most:
  ∃v F',yp (R,F) a b most=some (v,(R,F'))/\0<=v/\FI n R F'/\(∀S:Int->Bool,S a=true->S b=false->eQ n S (ent F')=v)/\(∀S:Int->Bool,S a=true->S b=false->v<=fb n S (ent R))/\
   (v<most->∃S:Int->Bool,S a=true/\S b=false/\fb n S (ent R)=v):=by
 have hA:∀(G:List (List Int))(v:Int),FI n R G->(∀S:Int->Bool,S a=true->S b=false->eQ n S (ent G)=v)->∀S:Int->Bool,S a=true->S b=false->v<=fb n S (ent R):=by
  intro G v c hm S j d;rw[←hm S j d,Ol c.anti];exact SF c.le
 have D:(λx:Int=>(x=a:Ϛ)) a=true:=by simp
 have E:(λx:Int=>(x=a:Ϛ)) b=false:=by simp;exact B6 hab
 have key:=zy (F:=DQ (R,F) a b most)
  (λs=>0<=s.1/\FI n R s.2/\∀S:Int->Bool,S a=true->S b=false->eQ n S (ent s.2)=s.1) (λs=>(fb n (λx:Int=>(x=a:Ϛ)) (ent R) - s.1).toNat)
  (λz=>z.2.1=R/\0<=z.1/\FI n R z.2.2/\(∀S:Int->Bool,S a=true->S b=false->eQ n S (ent z.2.2)=z.1)/\(z.1<most->∃S:Int->Bool,S a=true/\S b=false/\fb n S (ent R)=z.1)) ?_ (0,F)
  ⟨by simp,hF,λS _ _=>?_⟩
 ·obtain⟨⟨v,U,F'⟩,y,j,d,I,C,L⟩:=key;simp only at j d I C L;subst j;refine⟨v,F',?_,d,I,C,hA F' v I C,L⟩;unfold yp;simp only[y,gy]
 ·rintro⟨v,G⟩ ⟨hv0,c,hm⟩;simp only at hv0 c hm;unfold DQ;obtain⟨w,O,J⟩:=Ri hn1 hn hsq c.sq ha0 ha hb0 hb;simp only[O,gy];rcases J with hW |⟨hnil,S,s1,s2,s3⟩
  ·have A:w≠[]:=λe=>by have:=hW.pos;rw[e]at this;simp at this
   rw[ϙ (by simp[A])];unfold rQ;by_cases m:v≥most
   ·right;rw[Ϙ (by simp[m])];exact⟨_,rfl,rfl,hv0,c,hm,λh=>by simp only at h;omega⟩
   ·left;rw[ϙ (by simp[m])];obtain⟨G',B,r,hm'⟩:=Qs hn hR hW c;simp only[B,gy];unfold Kk;have l:∀S:Int->Bool,S a=true->S b=false->eQ n S (ent G')=v+1:=by
     intro S j d;rw[hm' S,hm S j d,j,d];simp[bZ]
    have Q:=hA G' (v+1) r l (λx:Int=>(x=a:Ϛ)) D E;have T:=hC (λx:Int=>(x=a:Ϛ));have H:aB (v+1)=v+1:=zt om om;simp only[H];exact⟨_,rfl,⟨ϖ,r,l⟩,ϖ⟩
  ·right;rw[Ϙ (by simp[hnil])];unfold rQ;rw[Ϙ rfl];refine⟨_,rfl,rfl,hv0,c,hm,λ_=>⟨S,s1,s2,?_⟩⟩;simp only;rw[←hm S s1 s2,Ol c.anti];symm;refine SG λu v M N j d=>?_;have:=s3 u v M N j d;unfold Fr at this;simp only[bb]at this;have:=c.le u v M N;omega
 ·simp only;unfold eQ;have y:∀(k:Nat)(f:Nat->Int),(∀i,f i=0)->bX k f=0:=λk f P=>by
   rw[jA (g:=λ_=>0) λi _=>P i,BB]
  exact y _ _ λu=>y _ _ λv=>by rw[hF0];simp
end
def PZ{bs:List Bd}{n}(hn1:1<=n)(hn:n<=1000)(w:bs.length<=100000)(hw:fH n bs)t:
  ∃b,Bu n bs t=some b/\(b=true↔Holds n bs t):=by
 have l:∀S,cJ S bs<=1000*bs.length:=λS=>CY λb w=>by
  obtain⟨k,L⟩:=cz w;obtain⟨_,_,_,_,_,r,Y⟩:=hw k b L;omega
 have key:=zy (F:=Fg n bs t)
  (λy=>1<=y/\y<=n/\∀z,1<=z->z<y->∀S:Int->Bool,S 0=true->S z=false->t<=cJ S bs) (λy=>(n - y).toNat)
  (λz=>match z with | .inl _=>Holds n bs t | .inr b=>b=false/\¬Holds n bs t) ?_ 1 ⟨by simp,hn1,λz G E=>by omega⟩
 ·obtain⟨z,M,A⟩:=key;unfold Bu;rw[M];cases z with
  | inl z=>exact⟨true,rfl,λ_=>A,λ_=>rfl⟩
  | inr z=>
   have C:z=false:=A.1;exact⟨z,rfl,⟨λh=>by(rw[C]at h;cases h),λh=>x4 h A.2⟩⟩
 ·rintro y ⟨D,J,d⟩;unfold Fg;by_cases hlt:y<n
  ·rw[Ϙ (by simp[hlt])];obtain⟨R,F,G,E,Q,m,H,r⟩:=zwB (n:=n) om hn w hw;have V:((n.toNat:Nat):Int)=n:=by omega
   obtain⟨v,F',N,X,g3,Z,T,I⟩:=Qo (n:=n.toNat) (R:=R) (F:=F) (a:=0) (b:=y) om om E (λu v=>by have:=H u v;omega) (λS=>by rw[r];have:=l S;omega)
    ⟨Q,λu v _ _=>by rw[m,m];rfl,λu v _ _=>by rw[m];exact(H u v).1⟩ m om om om om om t
   simp only[G,N,gy];by_cases f:v<t
   ·right;rw[Ϙ (by simp[f])];refine⟨_,rfl,rfl,λO=>?_⟩;obtain⟨S,P,s2,U⟩:=I f;have:=O S P ⟨y,D,hlt,s2⟩;rw[r]at U;omega
   ·left;rw[ϙ (by simp[f]),zt om om];refine⟨_,rfl,⟨by omega,by omega,λz i x S c j=>?_⟩,by omega⟩;by_cases B:z=y
    ·subst B;have:=T S c j;rw[r]at this;omega
    ·exact d z i om S c j
  ·right;rw[ϙ (by simp[hlt])];refine⟨_,rfl,λS c ⟨z,i,x,hz3⟩=>d z i om S c hz3⟩
def ml{A B:Type}{F:A×Int->Option ((A×Int) ⊕ A)}(l:List B)(f:A->B->A)(a0:A)(hlen:l.length<=2000000)(step:∀(a:A)(i:Nat)(x:B),l[i]?=some x->a=(l.take i).foldl f a0->F (a,(i:Int))=some (.inl (f a x,aB ((i:Int)+1))))(stop:∀a,a=l.foldl f a0->F (a,(l.length:Int))=some (.inr a)):iter F (a0,0)=some (l.foldl f a0):=by
 have key:=zy (F:=F) (λs=>0<=s.2/\s.2<=l.length/\s.1=(l.take s.2.toNat).foldl f a0) (λs=>(l.length - s.2).toNat) (λz=>z=l.foldl f a0) ?_ (a0,0) ⟨by simp,by simp,by simp⟩
 ·obtain⟨z,h,rfl⟩:=key;exact h
 ·rintro⟨a,i⟩ ⟨h0,h1,ha⟩;simp only at h0 h1 ha;obtain⟨k,rfl⟩:=ba h0;simp only[bb]at ha;by_cases hlt:k<l.length
  ·left;have c:l[k]?=some l[k]:=cn hlt;have b:aB ((k:Int)+1)=(k:Int)+1:=zt om om;refine⟨_,step a k _ c ha,?_,?_⟩
   ·refine⟨by simp only[b];omega,by simp only[b];omega,?_⟩;simp only[b];have:((k:Int)+1).toNat=k+1:=by omega
    rw[this,fu,c,List.foldl_append,←ha];rfl
   ·simp only[b];omega
  ·right;have d:k=l.length:=by omega
   subst d;rw[fv]at ha;exact⟨a,stop a ha,ha⟩
def Gg{A B:Type}{F:Int×A->Option ((Int×A) ⊕ A)}(l:List B)(f:A->B->A)(a0:A)(hlen:l.length<=2000000)(step:∀(a:A)(i:Nat)(x:B),l[i]?=some x->a=(l.take i).foldl f a0->F ((i:Int),a)=some (.inl (aB ((i:Int)+1),f a x)))(stop:∀a,a=l.foldl f a0->F ((l.length:Int),a)=some (.inr a)):iter F (0,a0)=some (l.foldl f a0):=by
 have key:=zy (F:=F) (λs=>0<=s.1/\s.1<=l.length/\s.2=(l.take s.1.toNat).foldl f a0) (λs=>(l.length - s.1).toNat) (λz=>z=l.foldl f a0) ?_ (0,a0) ⟨by simp,by simp,by simp⟩
 ·obtain⟨z,h,rfl⟩:=key;exact h
 ·rintro⟨i,a⟩ ⟨h0,h1,ha⟩;simp only at h0 h1 ha;obtain⟨k,rfl⟩:=ba h0;simp only[bb]at ha;by_cases hlt:k<l.length
  ·left;have c:l[k]?=some l[k]:=cn hlt;have b:aB ((k:Int)+1)=(k:Int)+1:=zt om om;refine⟨_,step a k _ c ha,?_,?_⟩
   ·refine⟨by simp only[b];omega,by simp only[b];omega,?_⟩;simp only[b];have:((k:Int)+1).toNat=k+1:=by omega
    rw[this,fu,c,List.foldl_append,←ha];rfl
   ·simp only[b];omega
  ·right;have d:k=l.length:=by omega
   subst d;rw[fv]at ha;exact⟨a,stop a ha,ha⟩
def zr{a:Type}{l:List a}{i:Nat}{x:a}(h:l[i]?=some x):idx l (i:Int)=some x:=by
 unfold idx;rw[Ϙ om];simpa using h
def j_{b c:Type}(p:b->Bool)(g:b->c):∀(l:List b)(a:List c),l.foldl (λa x=>if p x then a++[g x]else a) a=a++(l.filter p).map g
 |[],a=>by simp
 | x::l,a=>by
  rw[cg,j_ p g l];by_cases hp:p x=true
  ·rw[Ϙ hp,bu hp];simp
  ·rw[ϙ hp,br hp]
structure Lead(n:Nat)(L nm:List Int):Prop where
 len:L.length=n
 nlen:nm.length=n
 low:∀(i:Nat)(p:Int),L[i]?=some p -> -1<=p/\p<i
 root:∀(i:Nat)(r:Int),nm[i]?=some r->0<=r/\r<=i/\iter (gstep L) (i:Int)=some r/\∃q,L[r.toNat]?=some q/\q<0
def uP{L:List Int}{i:Int}{p}(h0:0<=i)(h:L[i.toNat]?=some p)(hp:p<0):iter (gstep L) i=some i:=by
 apply zq;unfold gstep;rw[gB h0 h];simp only[gy];rw[Ϙ hp]
def GO{L:List Int}{i:Int}{p}(h0:0<=i)(h:L[i.toNat]?=some p)(hp:0<=p):iter (gstep L) i=iter (gstep L) p:=by
 apply zp;unfold gstep;rw[gB h0 h];simp only[gy];rw[ϙ om]
def Sm{L:List Int}(hL:∀(i:Nat)(p:Int),L[i]?=some p -> -1<=p/\p<i){m k:Int}(hm0:0<=m)(hk0:0<=k)(hkm:k<m){q q'}(hm:L[m.toNat]?=some q)(hq:q<0)(hk:L[k.toNat]?=some q')(hq':q'<0):
  ∀(i:Nat)(r:Int),i<L.length->iter (gstep L) (i:Int)=some r->iter (gstep (L.set m.toNat k)) (i:Int)=some (if r=m then k else r):=by
 intro i
 induction i using Nat.strongRecOn with
 | _ i ih=>
  intro r hi c;have h:=zz hm;obtain⟨p,hp⟩:∃p,L[i]?=some p:=⟨_,cn hi⟩;have j:=hL i p hp;have d:L[(i:Int).toNat]?=some p:=϶ hp
  by_cases b:p<0
  ·rw[uP om d b]at c;injection c with c
   subst c;by_cases a:(i:Int)=m
   ·subst a;simp only[bb]at *;rw[Ϙ trivial];rw[GO (p:=k) om (by simp only[bb];rw[zZ h]) hk0];exact uP hk0 (by rw[zK om];exact hk) hq'
   ·rw[ϙ a];exact uP om (by simp only[bb];rw[zK om];exact hp) b
  ·have a:m.toNat≠i:=λe=>by
    rw[e,hp]at hm;injection hm with hm;omega
   rw[GO om d om]at c;rw[GO (p:=p) om (by simp only[bb];rw[zK a];exact hp) om];have f:((p.toNat:Nat):Int)=p:=by omega
   rw[←f]at c ⊢;exact ih p.toNat om r om c
def fV(x y:Int)(z:Int):Int:=if z=max x y then min x y else z
def Rz{n:Nat}{L nm:List Int}(h:Lead n L nm){i j:Nat}{x y:Int}(hi:nm[i]?=some x)(hj:nm[j]?=some y):
  Lead n (if x<y then L.set y.toNat x else if y<x then L.set x.toNat y else L) (nm.map (fV x y)):=by
 obtain⟨F,x1,x2,M,H,G⟩:=h.root i x hi;obtain⟨y0,Y,y2,O,J,N⟩:=h.root j y hj;have D:=zz hi;have w:=zz hj;have c:∀(m k:Int)(q l:Int),0<=m->0<=k->k<m->m<=(n:Int)->L[m.toNat]?=some q->q<0->L[k.toNat]?=some l->l<0->Lead n (L.set m.toNat k) (nm.map λz=>if z=m then k else z):=by
  intro m k q l C A v T hm S I f;refine⟨B7 h.len,A8 h.nlen,λa p hp=>?_,λa r b=>?_⟩
  ·by_cases P:m.toNat=a
   ·subst P;rw[zZ<|zz hm]at hp;injection hp with hp
    omega
   ·rw[zK P]at hp;exact h.low a p hp
  ·rw[cw]at b;cases hz:nm[a]? with
   | none=>rw[hz]at b;cases b
   | some z=>
    rw[hz]at b;simp only[ϴ]at b;injection b with b
    obtain⟨Z,X,U,V,Q,R⟩:=h.root a z hz;have E:a<L.length:=by have:=zz hz;rw[h.nlen]at this;rw[h.len];exact this
    have:=Sm h.low C A v hm S I f a z E U;rw[b]at this;subst b;refine⟨?_,?_,this,?_⟩
    ·split<;>omega
    ·split<;>omega
    ·by_cases d:z=m
     ·rw[Ϙ d];exact⟨l,by rw[zK om];exact I,f⟩
     ·rw[ϙ d];exact⟨V,by rw[zK om];exact Q,R⟩
 rw[h.nlen]at D w;by_cases B:x<y
 ·rw[Ϙ B];have e:nm.map (fV x y)=nm.map λz=>if z=y then x else z:=by
   apply ek;intro z _;unfold fV;rw[show max x y=y by omega,show min x y=x by omega]
  rw[e];exact c y x O M y0 F B om J N H G
 ·rw[ϙ B];by_cases u:y<x
  ·rw[Ϙ u];have e:nm.map (fV x y)=nm.map λz=>if z=x then y else z:=by
    apply ek;intro z _;unfold fV;rw[show max x y=x by omega,show min x y=y by omega]
   rw[e];exact c x y M O F y0 u om H G J N
  ·rw[ϙ u];have:x=y:=by omega
   subst this;have e:nm.map (fV x x)=nm:=by
    have:fV x x=id:=by
     funext z;unfold fV;rw[Int.max_self,Int.min_self];split
     ·rename_i hz;exact hz.symm
     ·rfl
    rw[this,List.map_id]
   rw[e];exact h
def gI(bs:List Bd)(nm:List Int):List Int:=bs.foldl (λnm b=>nm.map (fV (nm.getD b.1.toNat 0) (nm.getD b.2.1.toNat 0))) nm
def kn{l:List Int}{i x}(h:l[i]?=some x):l.getD i 0=x:=by
 rw[ϳ,h];rfl
section
variable {n:Nat} {bs:List Bd}
def MK(hb:bs.length<=100000)(hw:fH n bs){L nm}(h:Lead n L nm):
  ∃L',iter (yf bs) (0,L)=some L'/\Lead n L' (gI bs nm):=by
 have key:=zy (F:=yf bs) (λs=>0<=s.1/\s.1<=bs.length/\Lead n s.2 (gI (bs.take s.1.toNat) nm)) (λs=>(bs.length - s.1).toNat)
  (λL'=>Lead n L'<|gI bs nm) ?_ (0,L) ⟨by simp,by simp,by simpa[gI]using h⟩
 ·exact key
 ·rintro⟨i,L⟩ ⟨h0,h1,hL⟩;simp only at h0 h1 hL;unfold yf;by_cases hlt:i<bs.length
  ·left;obtain⟨⟨x,y,s⟩,m,k⟩:=zY (l:=bs) h0 hlt;obtain⟨D,H,E,C,M,I,J⟩:=hw _ _ k;simp only at D H E C M I J;obtain⟨j,b⟩:∃z,z=gI (bs.take i.toNat) nm:=⟨_,rfl⟩;rw[←b]at hL;obtain⟨A,f⟩:∃r,j[x.toNat]?=some r:=⟨_,cn (by rw[hL.nlen];omega)⟩;obtain⟨B,c⟩:∃r,j[y.toNat]?=some r:=⟨_,cn (by rw[hL.nlen];omega)⟩;obtain⟨N,u,_⟩:=zY (l:=L) D (by rw[hL.len];exact H);obtain⟨O,w,_⟩:=zY (l:=L) E (by rw[hL.len];exact C);obtain⟨_,_,ix,_⟩:=hL.root _ _ f;obtain⟨_,_,G,_⟩:=hL.root _ _ c;rw[show((x.toNat:Nat):Int)=x by omega]at ix;rw[show((y.toNat:Nat):Int)=y by omega]at G;have v:aB (i+1)=i+1:=zt om om;have d:=Rz hL f c;have a:gI (bs.take (i+1).toNat) nm=j.map (fV A B):=by
    have:(i+1).toNat=i.toNat+1:=by omega
    rw[this,fu,k];unfold gI at b ⊢;rw[List.foldl_append,←b];simp only[Option.toList_some,cg,List.foldl_nil];rw[kn f,kn c]
   simp only[hlt,Ϟ,Ϡ,m,u,ix,w,G,gy];unfold tR;simp only[v];by_cases c1:A<B
   ·rw[Ϙ (by simp[c1])];rw[Ϙ c1]at d;exact⟨_,rfl,⟨(by simp only[];omega),(by simp only[];omega),(by simp only[];rw[a];exact d)⟩,(by simp only[];omega)⟩
   ·rw[ϙ (by simp[c1])];rw[ϙ c1]at d;by_cases c2:B<A
    ·rw[Ϙ (by simp[c2])];rw[Ϙ c2]at d;exact⟨_,rfl,⟨(by simp only[];omega),(by simp only[];omega),(by simp only[];rw[a];exact d)⟩,(by simp only[];omega)⟩
    ·rw[ϙ (by simp[c2])];rw[ϙ c2]at d;exact⟨_,rfl,⟨(by simp only[];omega),(by simp only[];omega),(by simp only[];rw[a];exact d)⟩,(by simp only[];omega)⟩
  ·right;rw[ϙ (by simp[hlt])];refine⟨_,rfl,?_⟩;rw[show i.toNat=bs.length by omega,fv]at hL;exact hL
def Rq bs:∀(nm:List Int),(gI bs nm).length=nm.length:=by
 induction bs with
 | nil=>intro nm;rfl
 | cons b bs ih=>intro nm;unfold gI at ih ⊢;rw[cg,ih,dy]
theorem zzo{x y}(nm:List Int)(hn:nm.length<=100000):iter (wV x y) (nm,0)=some (nm.map (fV x y)):=by
 have key:=zy (F:=wV x y) (λs=>0<=s.2/\s.2<=nm.length/\s.1=(nm.take s.2.toNat).map (fV x y)++nm.drop s.2.toNat) (λs=>(nm.length - s.2).toNat)
  (λz=>z=nm.map (fV x y)) ?_ (nm,0) ⟨by simp,by simp,by simp⟩
 ·obtain⟨z,n,rfl⟩:=key;exact n
 ·rintro⟨l,i⟩ ⟨h0,h1,hl⟩;simp only at h0 h1 hl;obtain⟨k,rfl⟩:=ba h0;simp only[bb]at hl;have c:((nm.take k).map<|fV x y).length=k:=by rw[dy,ef];omega
  have v:l.length=nm.length:=by rw[hl,dt,c,dv];omega
  unfold wV;by_cases hlt:(k:Int)<l.length
  ·left;obtain⟨z,n⟩:∃z,nm[k]?=some z:=⟨_,cn om⟩;have d:l[k]?=some z:=by rw[hl,cj om,c,D2,cm];simpa using n
   have m:kR x y=some (max x y):=by unfold kR;split<;>simp_all<;>omega
   have f:nP x y=some (min x y):=by unfold nP;split<;>simp_all<;>omega
   have u:aB ((k:Int)+1)=(k:Int)+1:=zt om om;simp only[hlt,Ϟ,Ϡ,zr d,m,f,gy];unfold yz;simp only[u];have b:l.set k (fV x y z)=(nm.take (k+1)).map (fV x y)++nm.drop (k+1):=by
    rw[hl,List.set_append_right _ _ om,c,D2,bi om,List.set_cons_zero,fu,n];simp
   have h:((k:Int)+1).toNat=k+1:=by omega
   by_cases a:z=max x y
   ·rw[Ϙ (by simp[a])];refine⟨_,rfl,⟨(by simp only[];omega),(by simp only[];omega),?_⟩,(by simp only[];omega)⟩;simp only[h,bb];rw[←b];unfold fV;rw[Ϙ a]
   ·rw[ϙ (by simp[a])];refine⟨_,rfl,⟨(by simp only[];omega),(by simp only[];omega),?_⟩,(by simp only[];omega)⟩;simp only[h];rw[←b];unfold fV;rw[ϙ a];apply bp;intro j;by_cases r:k=j
    ·subst r;rw[zZ<|zz d,d]
    ·rw[zK r]
  ·right;rw[ϙ so];refine⟨_,rfl,?_⟩;rw[hl,show k=nm.length by omega];simp
def Qi(hb:bs.length<=100000)(hw:fH n bs)(nm:List Int)(hn:nm.length=n)(hn1:n<=100000):iter (wQ bs) (nm,0)=some (gI bs nm):=by
 refine ml bs _ nm om ?_ ?_
 ·intro a i b c r;obtain⟨m,y,u,w,A,z,C⟩:=hw _ _ c;have v:a.length=n:=by rw[r];exact(Rq _ _).trans hn
  unfold wQ;obtain⟨B,k,f⟩:=zY (l:=a) m om;obtain⟨x,h,d⟩:=zY (l:=a) u om;have j:=zz c;rw[Ϙ (by simp[j])];simp only[zr c,k,h,gy,zzo a om];unfold Li;rw[kn f,kn d]
 ·intro a _;unfold wQ;rw[ϙ si]
end
def fT(nm:List Int)(i:Nat)(r:Int):List Int:=((List.range i).filter λ(k:Nat)=>(nm[k]?=some r:Ϛ)).map λ(k:Nat)=>(k:Int)
def eE(nm:List Int)(i:Nat):List Int:=((List.range i).filter λ(k:Nat)=>(nm[k]?=some (k:Int):Ϛ)).map λ(k:Nat)=>(k:Int)
def nT(nm:List Int)i r:fT nm (i+1) r=fT nm i r++if nm[i]?=some r then[(i:Int)]else[]:=by
 unfold fT;rw[fp,bq,eh];congr 1;by_cases h:nm[i]?=some r
 ·rw[Ϙ h,bu (by simp[h])];rfl
 ·rw[ϙ h,br (by simp[h])];rfl
def me(nm:List Int)i:eE nm (i+1)=eE nm i++if nm[i]?=some (i:Int)then[(i:Int)]else[]:=by
 unfold eE;rw[fp,bq,eh];congr 1;by_cases h:nm[i]?=some (i:Int)
 ·rw[Ϙ h,bu (by simp[h])];rfl
 ·rw[ϙ h,br (by simp[h])];rfl
def BZ nm r:∀i,(fT nm i r).length<=i
 | 0=>by simp[fT]
 | i+1=>by
  have:=BZ nm r i;rw[nT,dt];split<;>simp<;>omega
def BC nm:∀i,(eE nm i).length<=i
 | 0=>by simp[eE]
 | i+1=>by
  have:=BC nm i;rw[me,dt];split<;>simp<;>omega
def Ck{nm:List Int}{x:Int}{i r}:x∈fT nm i r↔0<=x/\x<i/\nm[x.toNat]?=some r:=by
 unfold fT;simp only[fc,fa,fg,ϛ];constructor
 ·rintro⟨k,⟨b,a⟩,rfl⟩;exact⟨by omega,by omega,϶ a⟩
 ·rintro⟨b,a,c⟩;exact⟨x.toNat,⟨by omega,c⟩,by omega⟩
def uU{nm:List Int}{x:Int}{i}:x∈eE nm i↔0<=x/\x<i/\nm[x.toNat]?=some x:=by
 unfold eE;simp only[fc,fa,fg,ϛ];constructor
 ·rintro⟨k,⟨b,a⟩,rfl⟩;exact⟨by omega,by omega,϶ a⟩
 ·rintro⟨b,a,c⟩;exact⟨x.toNat,⟨by omega,by rw[c];exact v8⟩,by omega⟩
def Gt nm:∀i,lG (eE nm i)
 | 0=>by intro i j x h;simp[eE]at h
 | i+1=>by
  rw[me];split
  ·refine(Gt nm i).snoc λh=>?_;have:=(uU.1 h).2.1;omega
  ·rw[bg];exact Gt nm i
def k_(nm:List Int)(n:Nat):List (List Int):=(eE nm n).map (fT nm n)
section
variable {n:Nat} {nm:List Int}
def ZB(hn:n<=100000)(hlen:nm.length=n)(hlow:∀(i:Nat)(r:Int),nm[i]?=some r->0<=r/\r<=i){out i}(hi:i<n):
  iter (wW n nm (out,i)) ([],(i:Int))=some (fT nm n i):=by
 have c:fT nm i (i:Int)=[]:=by
  rw[bj];intro x u;obtain⟨h,v,l⟩:=Ck.1 u;have:=hlow _ _ l;omega
 have key:=zy (F:=wW n nm (out,i)) (λs=>(i:Int)<=s.2/\s.2<=n/\s.1=fT nm s.2.toNat i) (λs=>((n:Int) - s.2).toNat)
  (λz=>z=fT nm n i) ?_ ([],(i:Int)) ⟨by simp,ϖ,by simp[c]⟩
 ·obtain⟨z,f,rfl⟩:=key;exact f
 ·rintro⟨a,k⟩ ⟨h0,h,ha⟩;simp only at h0 h ha;obtain⟨k,rfl⟩:=ba (show 0<=k by omega);simp only[bb]at ha;unfold wW;by_cases hlt:(k:Int)<n
  ·left;obtain⟨z,f⟩:∃z,nm[k]?=some z:=⟨_,cn om⟩;have j:aB ((k:Int)+1)=(k:Int)+1:=zt om om;have d:((k:Int)+1).toNat=k+1:=by omega
   have m:=BZ nm i k;simp only[hlt,Ϟ,Ϡ,zr f,gy];unfold yl;simp only[j];by_cases b:z=i
   ·rw[Ϙ (by simp[b]),zO (by rw[ha];simp;omega) (by rw[ha];simp;omega)];refine⟨_,rfl,⟨ϖ,ϖ,?_⟩,ϖ⟩;simp only[d];rw[nT,f,Ϙ (by rw[b]),ha]
   ·rw[ϙ (by simp[b])];refine⟨_,rfl,⟨ϖ,ϖ,?_⟩,ϖ⟩;simp only[d];rw[nT,f,ϙ (by simpa using b),ha,bg]
  ·right;rw[ϙ so];exact⟨_,rfl,by rw[ha,show k=n by omega]⟩
def ZC(hn:n<=100000)(hlen:nm.length=n)(hlow:∀(i:Nat)(r:Int),nm[i]?=some r->0<=r/\r<=i):
  iter (wX n nm) ([],0)=some (k_ nm n):=by
 have key:=zy (F:=wX n nm) (λs=>0<=s.2/\s.2<=n/\s.1=(eE nm s.2.toNat).map (fT nm n)) (λs=>((n:Int) - s.2).toNat)
  (λz=>z=k_ nm n) ?_ ([],0) ⟨by simp,by simp,by simp[eE]⟩
 ·obtain⟨z,d,rfl⟩:=key;exact d
 ·rintro⟨a,k⟩ ⟨h0,h1,ha⟩;simp only at h0 h1 ha;obtain⟨k,rfl⟩:=ba h0;simp only[bb]at ha;unfold wX;by_cases hlt:(k:Int)<n
  ·left;obtain⟨z,d⟩:∃z,nm[k]?=some z:=⟨_,cn om⟩;have h:aB ((k:Int)+1)=(k:Int)+1:=zt om om;have c:((k:Int)+1).toNat=k+1:=by omega
   simp only[hlt,Ϟ,Ϡ,zr d,gy];have f:=BC nm k;have j:a.length<=k:=by rw[ha,dy];exact f
   by_cases b:z=k
   ·rw[ϙ (by simp[b]),ZB hn hlen hlow om];simp only[gy];unfold Lj sP;rw[zO so so];simp only[gy,h];refine⟨_,rfl,⟨ϖ,ϖ,?_⟩,ϖ⟩;simp only[c];rw[me,d,Ϙ (by rw[b]),ha,eh];rfl
   ·rw[Ϙ (by simp[b])];unfold sP;simp only[h];refine⟨_,rfl,⟨ϖ,ϖ,?_⟩,ϖ⟩;simp only[c];rw[me,d,ϙ (by simpa using b),ha,bg]
  ·right;rw[ϙ so];exact⟨_,rfl,by rw[ha,show k=n by omega];rfl⟩
end
section
variable {n:Nat} {nm:List Int}
def Dw(nm:List Int)(i:Nat)(pl:List (Int×Int)):Prop:=∀r:Int,(r∈eE nm i->cW pl r=true/\∃j:Nat,b_ pl r=some (j:Int)/\(eE nm i)[j]?=some r)/\(r∉eE nm i->cW pl r=false)
def OW{a b:Type}[DecidableEq a]{m:List (a×b)}{k:a}:cW m k=true↔∃p∈m,p.1=k:=by
 unfold cW;simp
def OU{a b:Type}[DecidableEq a]{m:List (a×b)}{k:a}{v:b}(h:cW m k=false):bS m k v=m++[(k,v)]:=by
 unfold bS;rw[ϙ (by simp[h])]
def Ru{c d:Type}[DecidableEq c]{m:List (c×d)}{k k':c}{v:d}(h:cW m k=false):b_ (m++[(k,v)]) k'=if k'=k then some v else b_ m k':=by
 unfold b_;rw[List.find?_append];by_cases a:k'=k
 ·subst a;rw[Ϙ rfl];have b:m.find? (λp=>(p.1=k':Ϛ))=none:=by
   rw[List.find?_eq_none];intro p hp hd;have:cW m k'=true:=OW.2 ⟨p,hp,϶ hd⟩;rw[h]at this;cases this
  rw[b];simp
 ·rw[ϙ a];cases m.find? (λp=>(p.1=k':Ϛ))with
  | some p=>simp
  | none=>simp[show ¬k=k' from λe=>a e.symm]
def Om{a b:Type}[DecidableEq a]{m:List (a×b)}{k k':a}{v:b}:cW (m++[(k,v)]) k'=(cW m k'||(k=k':Ϛ)):=by
 unfold cW;rw[List.any_append];simp
def ZP{L}(hn:n<=100000)(hL:Lead n L nm):iter (ye n L) ([],0,([]:List (Int×Int)))=some (k_ nm n):=by
 have v:∀(i:Nat)(r:Int),nm[i]?=some r->0<=r/\r<=i:=λi r h=>⟨(hL.root i r h).1,(hL.root i r h).2.1⟩;have key:=zy (F:=ye n L)
  (λs=>0<=s.2.1/\s.2.1<=n/\s.1=(eE nm s.2.1.toNat).map (fT nm s.2.1.toNat)/\Dw nm s.2.1.toNat s.2.2) (λs=>((n:Int) - s.2.1).toNat)
  (λz=>z=k_ nm n) ?_ ([],0,[]) ⟨by simp,by simp,by simp[eE],λr=>⟨λh=>by simp[eE]at h,λ_=>rfl⟩⟩
 ·obtain⟨z,V,rfl⟩:=key;exact V
 ·rintro⟨a,k,pl⟩ ⟨h0,N,ha,hpl⟩;simp only at h0 N ha hpl;obtain⟨k,rfl⟩:=ba h0;simp only[bb]at ha hpl;unfold ye;simp only[bb];by_cases hlt:(k:Int)<n
  ·left;obtain⟨r,d⟩:∃r,nm[k]?=some r:=J9;obtain⟨p,hp⟩:∃p,L[k]?=some p:=⟨_,cn (by rw[hL.len];omega)⟩;obtain⟨U,r1,Z,q,P,R⟩:=hL.root k r d;have O:aB ((k:Int)+1)=(k:Int)+1:=zt om om;have b:((k:Int)+1).toNat=k+1:=by omega
   have X:=BC nm k;have I:a.length=(eE nm k).length:=by rw[ha,dy]
   simp only[hlt,Ϟ,Ϡ,zr hp,Z,gy];by_cases f:r=k
   ·subst f;have c:(k:Int)∉eE nm k:=λh=>by have:=(uU.1 h).2.1;omega
    have m:=(hpl k).2 c;rw[Ϙ (by simp[m]),zO so so,OU m];simp only[gy];unfold tS;have B:idx (a++[([]:List Int)]) (a.length:Int)=some []:=zr (by rw[cj<|gd _,D2];rfl);simp only[B,gy,zO (α:=Int) (bytes:=8) (l:=[]) (l2:=[(k:Int)]) si si,O,bb];refine⟨_,rfl,⟨ϖ,ϖ,?_,?_⟩,ϖ⟩
    ·simp only[b];rw[me,d,Ϙ rfl,eh];rw[List.set_append_right _ _<|gd _,D2];simp only[List.set_cons_zero,ep,List.map_nil,fi];have Q:fT nm (k+1) k=[(k:Int)]:=by
      have y:fT nm k (k:Int)=[]:=by
       rw[bj];intro x A;obtain⟨N,h2,Y⟩:=Ck.1 A;have:=v _ _ Y;omega
      rw[nT,d,Ϙ rfl,y];rfl
     rw[Q,ha];congr 1;apply ek;intro x A;rw[nT,d,ϙ,bg];intro e;injection e with e
     have:=(uU.1 A).2.1;omega
    ·simp only[b];unfold Dw;rw[me,d,Ϙ rfl];intro r;constructor
     ·intro hm;rw[Om,Ru m];rcases er.1 hm with hm | hm
      ·obtain⟨E,j,D,u⟩:=(hpl r).1 hm;refine⟨by rw[E];rfl,j,?_,by rw[ci<|zz u];exact u⟩;rw[ϙ (by intro e;subst e;exact c hm)];exact D
      ·rw[fh]at hm;subst hm;refine⟨by simp,a.length,by rw[Ϙ rfl],?_⟩;rw[I,cj<|gd _,D2];rfl
     ·intro hm;rw[er,fh,not_or]at hm;rw[Om,(hpl r).2 hm.1];simp;intro e;exact hm.2 e.symm
   ·have G:r∈eE nm k:=by
     refine uU.2 ⟨U,by omega,?_⟩;have c:r.toNat<nm.length:=by rw[hL.nlen];omega
     obtain⟨M,w⟩:∃M,nm[r.toNat]?=some M:=⟨_,cn c⟩;obtain⟨_,_,C,_⟩:=hL.root _ _ w;have:=uP (L:=L) (i:=((r.toNat:Nat):Int)) om (by rw[bb];exact P) R;rw[this]at C;injection C with C
     rw[w];exact v8
    obtain⟨E,j,D,u⟩:=(hpl r).1 G;rw[ϙ (by simp[E]),D];simp only[gz];unfold tS;have T:=zz u;have B:a[j]?=some (fT nm k r):=by rw[ha,cw,u];rfl
    have a0:=BZ nm r k;simp only[zr B,gy,zO (bytes:=8) (l:=fT nm k r) (l2:=[(k:Int)]) so so,O,bb];refine⟨_,rfl,⟨ϖ,ϖ,?_,?_⟩,ϖ⟩
    ·simp only[b];rw[me,d,ϙ (by intro e;injection e with e;exact f e),bg];apply bp;intro J;rw[cw];by_cases H:j=J
     ·subst H;rw[zZ<|zz B,u];simp only[ϴ];rw[nT,d,Ϙ rfl]
     ·rw[zK H,ha,cw];cases A:(eE nm k)[J]? with
      | none=>rfl
      | some x=>
       simp only[ϴ];rw[nT,d,ϙ,bg];intro e;injection e with e
       subst e;exact H<|Gt nm k _ _ _ u A
    ·simp only[b];unfold Dw;rw[me,d,ϙ (by intro e;injection e with e;exact f e),bg];exact hpl
  ·right;rw[ϙ so];have S:k=n:=by omega
   subst S;exact⟨_,rfl,ha⟩
def RI{n:Nat}(hn:n<=100000):iter (yg n) (0,[])=some (List.replicate n (-1)):=by
 have key:=zy (F:=yg n) (λs=>0<=s.1/\s.1<=n/\s.2=List.replicate s.1.toNat (-1)) (λs=>((n:Int) - s.1).toNat) (λz=>z=List.replicate n (-1)) ?_ (0,[]) ⟨by simp,by simp,by simp⟩
 ·obtain⟨z,c,rfl⟩:=key;exact c
 ·rintro⟨i,L⟩ ⟨h0,h1,hL⟩;simp only at h0 h1 hL;unfold yg;simp only[bb];have d:L.length=i.toNat:=by rw[hL];simp
  by_cases hlt:i<n
  ·left;have a:aB (i+1)=i+1:=zt om om;have b:ov n L i=some (L++[-1]):=by unfold ov;rw[Ϙ ⟨by omega,by omega⟩]
   simp only[hlt,Ϟ,Ϡ,b,a,gy];refine⟨_,rfl,⟨ϖ,ϖ,?_⟩,ϖ⟩;simp only;rw[hL,show(i+1).toNat=i.toNat+1 by omega,List.replicate_succ']
  ·right;exact P7
def gA(n:Nat):List Int:=(List.range n).map λ(k:Nat)=>(k:Int)
def zzp{n:Nat}(hn:n<=100000):iter (wR n) ([],0)=some (gA n):=by
 have key:=zy (F:=wR n) (λs=>0<=s.2/\s.2<=n/\s.1=gA s.2.toNat) (λs=>((n:Int) - s.2).toNat) (λz=>z=gA n) ?_ ([],0) ⟨by simp,by simp,by simp[gA]⟩
 ·obtain⟨z,c,rfl⟩:=key;exact c
 ·rintro⟨a,i⟩ ⟨h0,h1,hL⟩;simp only at h0 h1 hL;unfold wR;have d:a.length=i.toNat:=by rw[hL];simp[gA]
  by_cases hlt:i<n
  ·left;have b:aB (i+1)=i+1:=zt om om;simp only[hlt,Ϟ,Ϡ,zO (α:=Int) (bytes:=8) (l:=a) (l2:=[i]) so so,b,gy];refine⟨_,rfl,⟨ϖ,ϖ,?_⟩,ϖ⟩;simp only;rw[hL,show(i+1).toNat=i.toNat+1 by omega];unfold gA;rw[fp,eh];congr 1;simp only[ep,List.map_nil];exact v8
  ·right;exact P7
def Je n:Lead n (List.replicate n (-1)) (gA n):=by
 have b:∀(i:Nat)(p:Int),(List.replicate n (-1:Int))[i]?=some p->p = -1:=by
  intro i p h;rw[dg]at h;split at h
  ·injection h with h;exact h.symm
  ·cases h
 refine⟨by simp,by simp[gA],λi p h=>by rw[b i p h];omega,λi r h=>?_⟩;have hi:=zz h;simp[gA]at hi;have c:r=i:=by
  simp[gA,cw,df hi]at h;exact h.symm
 subst c;have a:(List.replicate n (-1:Int))[i]?=some (-1):=by rw[dg,Ϙ hi]
 exact⟨by omega,by omega,uP om (϶ a) om,-1,϶ a,by omega⟩
def RH{n:Nat}{bs:List Bd}(hn:n<=100000)(hb:bs.length<=100000)(hw:fH n bs):
  AQ n bs=some (k_ (gI bs (gA n)) n)/\Av n bs=some (k_ (gI bs (gA n)) n):=by
 obtain⟨L,b,a⟩:=MK hb hw<|Je n;constructor
 ·unfold AQ Mq Mn Mm;have c:oH 8 (n:Int)=some []:=by unfold oH;rw[Ϙ ⟨by omega,by omega,by omega⟩]
  simp only[c,gy,RI hn,b,ZP hn a]
 ·unfold Av Lm Ll Lk;simp only[gy,zzp hn];rw[Qi hb hw _ (by simp[gA]) hn];simp only[gy];rw[ZC hn a.nlen λi r h=>⟨(a.root i r h).1,(a.root i r h).2.1⟩];simp only[gy]
def NC(l:List Bd)(h:l.length<=2000000):pZ l=some l:=by
 unfold pZ sC;rw[ϙ si,zO so so];rfl
def zxl(l:List Bd)(h:l.length<=2000000)(p:Bd->Option Bool)(q:Bd->Bool)(hp:∀b∈l,p b=some (q b)):
  ∃i:Int,xz l p=some i/\((i = -1/\∀b∈l,q b=false)\/(∃k:Nat,i=k/\k<l.length/\(∀(j:Nat) b,j<k->l[j]?=some b->q b=false)/\∃b,l[k]?=some b/\q b=true)):=by
 have key:=zy (F:=DD l p) (λi=>0<=i/\i<=l.length/\∀(j:Nat) b,(j:Int)<i->l[j]?=some b->q b=false) (λi=>(l.length - i).toNat)
  (λz=>match z with | .inl _=>∀b∈l,q b=false | .inr i=>∃k:Nat,i=k/\k<l.length/\(∀(j:Nat) b,j<k->l[j]?=some b->q b=false)/\∃b,l[k]?=some b/\q b=true) ?_ 0 ⟨by omega,by omega,λj b d=>by omega⟩
 ·obtain⟨z,w,r⟩:=key;unfold xz;rw[w];cases z with
  | inl z=>exact⟨-1,rfl,.inl ⟨rfl,r⟩⟩
  | inr i=>exact⟨i,rfl,.inr r⟩
 ·rintro i ⟨v,x,a⟩;obtain⟨k,rfl⟩:=ba v;unfold DD;by_cases hlt:k<l.length
  ·have f:l[k]?=some l[k]:=cn hlt;have m:=hp l[k] (dm hlt);have u:aB ((k:Int)+1)=(k:Int)+1:=zt om om;have hd:((k:Int)<(l.length:Int)):=by omega
   simp only[hd,Ϟ,Ϡ,zr f,gy,m,u];cases hq:q l[k]with
   | true=>right;exact⟨_,rfl,k,rfl,hlt,λj b d=>a j b om,_,f,hq⟩
   | false=>
    left;refine⟨_,rfl,⟨by omega,by omega,λj b d c=>?_⟩,by omega⟩;by_cases n:j=k
    ·subst n;rw[f]at c;injection c with c;rw[←c];exact hq
    ·exact a j b om c
  ·right;have hd:¬((k:Int)<(l.length:Int)):=by omega
   simp only[hd,ϡ];refine⟨_,rfl,?_⟩;intro b c;obtain⟨j,d⟩:=cz c;exact a j b (C2 d) d
def MI{d:Type}{p:d->Bool}{l:List d}{k}(h:∀(j:Nat) b,j<k->l[j]?=some b->p b=true):(l.take k).filter p=l.take k:=by
 rw[bz];intro b c;obtain⟨j,a⟩:=cz c;have:=zz a;rw[ef]at this;rw[dl,Ϙ om]at a;exact h j b om a
def Nj(l:List Bd)(h:l.length<=2000000)(p:Bd->Option Bool)(q:Bd->Bool)(hp:∀b∈l,p b=some (q b)):
  sc l p=some (l.filter λb=>!q b):=by
 obtain⟨i,hi,w⟩:=zxl l h p q hp;unfold sc;simp only[hi,gy];rcases w with⟨rfl,d⟩ |⟨k,rfl,hk,hlow,b,n,hq⟩
 ·rw[Ϙ si];congr 1;symm;rw[bz];intro b n;rw[d b n];rfl
 ·rw[ϙ si];have B:aB ((k:Int)+1)=(k:Int)+1:=zt om om;rw[B];have key:=zy (F:=Dz p) (λs=>(k:Int)<s.2.2/\s.2.2<=l.length/\s.1.length=l.length/\0<=s.2.1/\s.2.1<s.2.2/\s.1.take s.2.1.toNat=(l.take s.2.2.toNat).filter (λb=>!q b)/\∀j,s.2.2.toNat<=j->s.1[j]?=l[j]?)
   (λs=>(l.length - s.2.2).toNat) (λz=>z.1.length=l.length/\0<=z.2/\z.2<=l.length/\z.1.take z.2.toNat=l.filter (λb=>!q b)) ?_ (l,(k:Int),(k:Int)+1) ?_
  ·obtain⟨⟨y,m⟩,I,H,E,M,C⟩:=key;simp only at H E M C;rw[I];simp only[gy];unfold JS;have N:js y m ((0,0,0):Bd)=some (y.take m.toNat++List.replicate (y.length - m.toNat) (0,0,0)):=P2
   have L:(y.take m.toNat).length=m.toNat:=A2
   have hs:bB (y.take m.toNat++List.replicate (y.length - m.toNat) ((0,0,0):Bd)) 0 m=some (y.take m.toNat):=by
    unfold bB;exact P6
   rw[N];simp only[gy,hs];rw[C]
  ·rintro⟨y,m,j⟩ ⟨g1,g2,g3,g4,g5,g6,g7⟩;simp only at g1 g2 g3 g4 g5 g6 g7;obtain⟨j,rfl⟩:=ba (show 0<=j by omega);obtain⟨m,rfl⟩:=ba g4;simp only[bb]at g6 g7;unfold Dz wj;by_cases hlt:j<l.length
   ·left;have c:l[j]?=some l[j]:=cn hlt;have f:y[j]?=some l[j]:=by rw[g7 j<|gd _];exact c
    have v:=hp l[j] (dm hlt);have J:aB ((j:Int)+1)=(j:Int)+1:=zt om om;have r:aB ((m:Int)+1)=(m:Int)+1:=zt om om;have A:y[m]?=some y[m]:=cn om;have a:((j:Int)+1).toNat=j+1:=by omega
    have u:((m:Int)+1).toNat=m+1:=by omega
    rw[Ϙ so];simp only[zr f,gy,v,J,r,zr A,bb];cases hq:q l[j]with
    | false=>
     rw[Ϙ si];refine⟨_,rfl,⟨ϖ,ϖ,by simp only[ed];exact g3,ϖ,ϖ,?_,λi hi=>?_⟩,ϖ⟩
     ·simp only[a,u];exact P3
     ·simp only[a]at hi ⊢;rw[zK om];exact g7 i om
    | true=>
     rw[ϙ si];refine⟨_,rfl,⟨ϖ,ϖ,g3,ϖ,ϖ,?_,λi hi=>?_⟩,ϖ⟩
     ·simp only[a,bb];rw[g6,fu,c,bq];simp[hq]
     ·simp only[a]at hi ⊢;exact g7 i om
   ·right;rw[ϙ so];refine⟨_,rfl,g3,ϖ,ϖ,?_⟩;simp only[bb];rw[g6,show j=l.length by omega,fv]
  ·refine⟨ϖ,ϖ,rfl,ϖ,ϖ,?_,λj D=>rfl⟩;exact O8
end
def WB(n:Int)(b:Bd):Prop:=0<=b.1/\b.1<n/\0<=b.2.1/\b.2.1<n/\b.1≠b.2.1/\0<=b.2.2/\b.2.2<=1000
def qU{n bs}:fH n bs↔∀b∈bs,WB n b:=by
 constructor
 ·intro h b c;obtain⟨k,a⟩:=cz c;exact h k b a
 ·intro h k b a;exact h b<|fe a
section
variable {n:Nat} {bs:List Bd}
def zzm(hb:bs.length<=100000)t:iter (wU bs t) ([],0)=some (bs.filter λb=>!(b.2.2<t:Ϛ)):=by
 have e:(bs.filter λb=>!(b.2.2<t:Ϛ))=bs.foldl (λa x=>if(!(x.2.2<t:Ϛ))then a++[x]else a) []:=by
  rw[j_ (p:=λx:Bd=>!(x.2.2<t:Ϛ)) (g:=λx=>x)];simp
 rw[e];refine ml bs _ [] om ?_ ?_
 ·intro a i b c j;have d:=zz c;have f:a.length<=i:=by
   rw[j,j_ (p:=λx:Bd=>!(x.2.2<t:Ϛ)) (g:=λx=>x)];simp only[fi,dy];exact gg (dx _ _) A2
  unfold wU yw;rw[Ϙ (by simp[d])];simp only[zr c,gy,zO (bytes:=24) (l:=a) (l2:=[b]) so so];by_cases h:b.2.2<t
  ·rw[ϙ so,ϙ (by simp[h])]
  ·rw[Ϙ so,Ϙ so]
 ·intro a _;unfold wU;rw[ϙ si]
def QM(G:List (List Int)):py G=Ec G:=by
 funext s;unfold py Ec;by_cases h:s.2<(G.length:Int)
 ·rw[Ϙ (by simp[h]),Ϙ (by simp[h])];cases hx:idx G s.2 with
  | none=>
   have:sJ G s (s.1,0)=none:=by unfold sJ;rw[hx];rfl
   rw[RC this];rfl
  | some g=>
   have:rZ s g=sJ G s:=by
    funext r;unfold rZ sJ;rw[hx];rfl
   simp only[gy,this];rfl
 ·rw[ϙ (by simp[h]),ϙ (by simp[h])]
def QA{G:List (List Int)}(hn:n<=100000)(hG:G.length<=100000)(hG1:1<=G.length)(hg:∀g∈G,g.length<=100000/\∀x∈g,0<=x/\x<n):
  ∃tab,iter (py G) (List.replicate n 0,0)=some tab/\tab.length=n/\∀x∈tab,0<=x/\x<G.length:=by
 have m:∀(tab:List Int)(k:Nat)(v:Int),(∀x∈tab,0<=x/\x<(G.length:Int))->0<=v->v<G.length->∀x∈tab.set k v,0<=x/\x<(G.length:Int):=by
  intro tab k v h c d x b;rcases List.mem_or_eq_of_mem_set b with b | b
  ·exact h x b
  ·rw[b];exact⟨c,d⟩
 refine zy (F:=py G) (λs=>0<=s.2/\s.2<=G.length/\s.1.length=n/\∀x∈s.1,0<=x/\x<G.length) (λs=>(G.length - s.2).toNat)
  (λtab=>tab.length=n/\∀x∈tab,0<=x/\x<G.length) ?_ (List.replicate n 0,0) ⟨by simp,by simp,by simp,λx b=>by rw[(List.mem_replicate.1 b).2];omega⟩
 rintro⟨tab,i⟩ ⟨c,d,hl,hv⟩;simp only at c d hl hv;unfold py;by_cases hlt:i<G.length
 ·left;obtain⟨g,u,z⟩:=zY (l:=G) c hlt;obtain⟨E,B⟩:=hg g<|fe z;rw[Ϙ (by simp[hlt])];simp only[u,gy];have key:=zy (F:=rZ (tab,i) g) (λs=>0<=s.2/\s.2<=g.length/\s.1.length=n/\∀x∈s.1,0<=x/\x<G.length) (λs=>(g.length - s.2).toNat)
   (λtab=>tab.length=n/\∀x∈tab,0<=x/\x<G.length) ?_ (tab,0) ⟨by simp,by simp,hl,hv⟩
  ·obtain⟨A,D,k1,k2⟩:=key;have r:aB (i+1)=i+1:=zt om om;rw[D];simp only[gy];unfold Lw;simp only[r];exact⟨_,rfl,⟨(by simp only[];omega),(by simp only[];omega),k1,k2⟩,(by simp only[];omega)⟩
  ·rintro⟨tab,j⟩ ⟨c,d,hl,hv⟩;simp only at c d hl hv;unfold rZ;by_cases a:j<g.length
   ·left;obtain⟨x,b,w⟩:=zY (l:=g) c a;have f:=B x<|fe w;obtain⟨y,C,_⟩:=zY (l:=tab) f.1 (by rw[hl];exact f.2);have r:aB (j+1)=j+1:=zt om om;rw[Ϙ (by simp[a])];simp only[b,C,gy,r];exact⟨_,rfl,⟨(by simp only[];omega),(by simp only[];omega),by simp only[ed];exact hl,m _ _ _ hv om hlt⟩,(by simp only[];omega)⟩
   ·right;rw[ϙ (by simp[a])];exact⟨_,rfl,hl,hv⟩
 ·right;rw[ϙ (by simp[hlt])];exact⟨_,rfl,hl,hv⟩
def ly(tab:List Int)(b:Bd):Bool:=!(tab.getD b.1.toNat 0=tab.getD b.2.1.toNat 0:Ϛ)
def rj(tab:List Int)(b:Bd):Bd:=(tab.getD b.1.toNat 0,tab.getD b.2.1.toNat 0,b.2.2)
def ow(tab:List Int)(b:Bd):Bd:=(min (tab.getD b.1.toNat 0) (tab.getD b.2.1.toNat 0),max (tab.getD b.1.toNat 0) (tab.getD b.2.1.toNat 0),b.2.2)
def OG{b:Type}(p:Bd->Bool)(g:Bd->b)(l:List Bd)i(hi:i<=l.length):((l.take i).foldl (λa x=>if p x then a++[g x]else a) []).length<=i:=by
 rw[j_];simp only[fi,dy];exact gg (dx _ _) A2
def zyN(hb:bs.length<=100000)(hw:fH n bs){tab:List Int}(ht:tab.length=n):iter (xb bs tab) ([],0)=some ((bs.filter (ly tab)).map (rj tab)):=by
 have e:=j_ (ly tab) (rj tab) bs [];rw[fi]at e;rw[←e];refine ml bs _ [] om ?_ ?_
 ·intro a i b c m;have j:=zz c;have v:a.length<=i:=by rw[m];exact OG _ _ _ _ om
  obtain⟨k,A,u,z,C,B,D⟩:=hw _ _ c;obtain⟨x,w,d⟩:=zY (l:=tab) k om;obtain⟨y,r,f⟩:=zY (l:=tab) u om;unfold xb xZ;rw[Ϙ (by simp[j])];simp only[zr c,w,r,gy,zO (bytes:=24) (l:=a) (l2:=[(x,y,b.2.2)]) so so];unfold ly rj;rw[kn d,kn f];by_cases h:x=y
  ·rw[ϙ (by simp[h]),ϙ (by simp[h])]
  ·rw[Ϙ (by simp[h]),Ϙ (by simp[h])]
 ·intro a _;unfold xb;rw[ϙ si]
theorem zyi(hb:bs.length<=100000)(hw:fH n bs){tab:List Int}(ht:tab.length=n):iter (wT bs tab) ([],0)=some ((bs.filter (ly tab)).map (ow tab)):=by
 have e:=j_ (ly tab) (ow tab) bs [];rw[fi]at e;rw[←e];refine ml bs _ [] om ?_ ?_
 ·intro a i b c u;have m:=zz c;have z:a.length<=i:=by rw[u];exact OG _ _ _ _ om
  obtain⟨r,C,w,B,E,D,F⟩:=hw _ _ c;obtain⟨x,A,j⟩:=zY (l:=tab) r om;obtain⟨y,v,k⟩:=zY (l:=tab) w om;have f:kR x y=some (max x y):=by unfold kR;split<;>simp_all<;>omega
  have d:nP x y=some (min x y):=by unfold nP;split<;>simp_all<;>omega
  unfold wT yx;rw[Ϙ (by simp[m])];simp only[zr c,A,v,f,d,gy,zO (bytes:=24) (l:=a) (l2:=[(min x y,max x y,b.2.2)]) so so];unfold ly ow;rw[kn j,kn k];by_cases h:x=y
  ·rw[ϙ (by simp[h]),ϙ (by simp[h])]
  ·rw[Ϙ (by simp[h]),Ϙ (by simp[h])]
 ·intro a _;unfold wT;rw[ϙ si]
def HU(S:Int->Bool)tab:∀(l:List Bd),cJ S (l.map (rj tab))=cJ S (l.map (ow tab))
 |[]=>rfl
 | b::l=>by
  simp only[ep,cJ,HU S tab l];congr 1;unfold rj ow;simp only;rcases Int.le_total (tab.getD b.1.toNat 0) (tab.getD b.2.1.toNat 0)with h | h
  ·rw[Int.min_eq_left h,Int.max_eq_right h]
  ·rw[Int.min_eq_right h,Int.max_eq_left h];by_cases e:S (tab.getD b.1.toNat 0)=S (tab.getD b.2.1.toNat 0)
   ·rw[Ϙ e,Ϙ e.symm]
   ·rw[ϙ e,ϙ λx=>e x.symm]
def zxt(hn0:1<=n)(hn:n<=100000)(a:bs.length<=100000)(hw:fH n bs)t:
  ∃(m:Nat)(b1 b2:List Bd),Al n bs t=some ((m:Int),b1)/\Aa n bs t=some ((m:Int),b2)/\1<=m/\m<=n/\fH m b1/\fH m b2/\b1.length<=100000/\b2.length<=100000/\∀S,cJ S b1=cJ S b2:=by
 obtain⟨f,d⟩:∃z,z=bs.filter λb=>!(b.2.2<t:Ϛ):=u3;have a7:f.length<=bs.length:=by rw[d];exact dx _ _
 have B:fH n f:=qU.2 λb a=>qU.1 hw b (by rw[d]at a;exact(fa.1 a).1);obtain⟨Y,U⟩:=RH hn (by omega:f.length<=100000) B;obtain⟨G,N⟩:∃z,z=k_ (gI f<|gA n) n:=u3;rw[←N]at Y U;have i:G.length=(eE (gI f<|gA n) n).length:=by rw[N];unfold k_;rw[dy]
 have J:G.length<=n:=by rw[i];exact BC _ _
 obtain⟨L,_,V⟩:=MK (by omega:f.length<=100000) B<|Je n;have w:1<=G.length:=by
  rw[i];obtain⟨r,Z⟩:∃r,(gI f<|gA n)[0]?=some r:=⟨_,cn (by rw[V.nlen];omega)⟩;obtain⟨r0,r1,_⟩:=V.root 0 r Z;have I:r=0:=by omega
  have:(0:Int)∈eE (gI f<|gA n) n:=uU.2 ⟨by omega,by omega,by simpa[I]using Z⟩;exact List.length_pos_of_mem this
 have O:∀g∈G,g.length<=100000/\∀x∈g,0<=x/\x<n:=by
  intro g F;rw[N]at F;unfold k_ at F;obtain⟨r,_,rfl⟩:=fc.1 F;have:=BZ (gI f<|gA n) r n;exact⟨by omega,λx M=>⟨(Ck.1 M).1,(Ck.1 M).2.1⟩⟩
 obtain⟨tab,T,k,u⟩:=QA hn om w O;have j:∀(g:Bd->Bd),((bs.filter<|ly tab).map g).length<=100000:=λg=>by
  rw[dy];exact gg (dx _ _) a
 have h:∀b∈bs.filter (ly tab),WB n b/\0<=tab.getD b.1.toNat 0/\tab.getD b.1.toNat 0<G.length/\0<=tab.getD b.2.1.toNat 0/\tab.getD b.2.1.toNat 0<G.length/\tab.getD b.1.toNat 0≠tab.getD b.2.1.toNat 0:=by
  intro b a;obtain⟨h1,E⟩:=fa.1 a;have H:=qU.1 hw b h1;obtain⟨Q,w2,R,w4,w5,C,D⟩:=H;obtain⟨x,M,A⟩:=zY (l:=tab) Q om;obtain⟨y,hy,v⟩:=zY (l:=tab) R om;have e1:=u x<|fe A;have X:=u y<|fe v;unfold ly at E;rw[kn A,kn v]at E ⊢;exact⟨⟨Q,w2,R,w4,w5,C,D⟩,e1.1,e1.2,X.1,X.2,϶ E⟩
 refine⟨G.length,_,_,?_,?_,w,J,?_,?_,j<|rj tab,j<|ow tab,λS=>HU S tab _⟩
 ·unfold Al Ly Lx;have hd:=Nj bs om (λq0=>Ew q0 t) (λb=>(b.2.2<t:Ϛ)) (λb _=>rfl);rw[NC bs om];simp only[gy];rw[hd,←d];simp only[gy,Y,Cj (n:=(n:Int)) om om,bb,T,zyN a hw k]
 ·unfold Aa Lh Le Ld;rw[zzm a t,←d];simp only[gy,U,Cj (n:=(n:Int)) om om,bb];rw[←QM G];simp only[T,gy,zyi a hw k]
 ·rw[qU];intro b a;obtain⟨c,P,rfl⟩:=fc.1 a;obtain⟨⟨_,_,_,_,_,C,D⟩,a1,a2,a3,a4,a5⟩:=h c P;exact⟨a1,a2,a3,a4,a5,C,D⟩
 ·rw[qU];intro b a;obtain⟨c,P,rfl⟩:=fc.1 a;obtain⟨⟨_,_,_,_,_,C,D⟩,a1,a2,a3,a4,a5⟩:=h c P;unfold ow WB;simp only;omega
def zz1{m b1 b2 t}(h:∀S,cJ S b1=cJ S b2):Holds m b1 t↔Holds m b2 t:=by
 unfold Holds;constructor
 ·intro a S hS b;rw[←h S];exact a S hS b
 ·intro a S hS b;rw[h S];exact a S hS b
def QD{p1:List ((Int×Int)×Int)}{p0}(hn0:1<=p1.length)(hn:p1.length<=100000)(hb:bs.length<=100000)(hw:fH p1.length bs)(h1:nc p0 p1=some bs)(h2:nK p0 p1=some bs)t:
  ∃a b c d,xw p0 p1 t=some (a,b)/\z' p0 p1 t=some (c,d)/\(if !b then(false,(4:Int))else(a,0))=(c,d):=by
 obtain⟨m,b1,b2,w,u,F,E,x,r,C,D,B⟩:=zxt hn0 hn hb hw t;unfold xw z';simp only[h1,h2,w,u,gy];by_cases f:(m:Int)>64
 ·rw[Ϙ (by simpa using f),Ϙ (by simpa using f)];exact⟨_,_,_,_,rfl,rfl,rfl⟩
 ·rw[ϙ (by simpa using f),ϙ (by simpa using f)];obtain⟨a,A,h⟩:=PZ (n:=(m:Int)) om om C x t;simp only[A,gy];by_cases i:(m:Int)<2
  ·rw[Ϙ (by simpa using i)];have:a=true:=h.2 λS hS ⟨y,hy1,hy2,_⟩=>by omega
   subst this;exact⟨_,_,_,_,rfl,rfl,rfl⟩
  ·rw[ϙ (by simpa using i)];obtain⟨v,p,z,k⟩:=zx7 (n:=(m:Int)) om om D r;simp only[z,gy];refine⟨_,_,_,_,rfl,rfl,?_⟩;have:a=(v≥t:Ϛ):=by
    have l:=(k t).trans (zz1 B).symm;cases a with
    | true=>symm;simpa using l.2 (h.1 rfl)
    | false=>
     symm;simp only[Ϝ];intro j;have:=h.2<|l.1 j;cases this
   rw[this];rfl
end
def ko{S:Type}(st:Nat->S)i0 N(ok:Nat->Prop)(F:S->Option (S ⊕ (Unit ⊕ Bool)))(h0:i0<=N)(step:∀i,i0<=i->i<N->(∀j,i0<=j->j<i->ok j)->ok i->F (st i)=some (.inl (st (i+1))))(fail:∀i,i0<=i->i<N->(∀j,i0<=j->j<i->ok j)->¬ok i->F (st i)=some (.inr (.inr false)))(stop:(∀j,i0<=j->j<N->ok j)->F (st N)=some (.inr (.inl ()))):
  (iter F (st i0)=some (.inl ())/\∀i,i0<=i->i<N->ok i)\/(iter F (st i0)=some (.inr false)/\¬ ∀i,i0<=i->i<N->ok i):=by
 classical
 have key:∀d i,i+d=N->i0<=i->(∀j,i0<=j->j<i->ok j)->(iter F (st i)=some (.inl ())/\∀i,i0<=i->i<N->ok i)\/(iter F (st i)=some (.inr false)/\¬ ∀i,i0<=i->i<N->ok i):=by
  intro d
  induction d with
  | zero=>
   intro i hi c a;have:i=N:=by omega
   subst this;exact .inl ⟨zq<|stop a,a⟩
  | succ d ih=>
   intro i hi c a;by_cases b:ok i
   ·rw[zp<|step i c om a b];exact ih (i+1) om om λj f l=>by
     by_cases k:j=i
     ·subst k;exact b
     ·exact a j f om
   ·exact .inr ⟨zq<|fail i c om a b,λh=>b<|h i c om⟩
 exact key (N - i0) i0 om (gd _) λj n m=>by omega
def kX{e:Type}(l:List e)(h:l.length<=2000000)(p:e->Option Bool)(q:e->Bool)(hp:∀b∈l,p b=some (q b))(F:Int->Option (Int ⊕ (Unit ⊕ Int)))(hF:∀i,F i=if(i<(l.length:Int):Ϛ)then(idx l i>>=λx=>p x>>=λb=>if b then(some (.inr (.inr i)))else(some (.inl (aB (i+1)))))else(some (.inr (.inl ())))):
  (iter F 0=some (.inl ())/\∀b∈l,q b=false)\/(∃k:Nat,iter F 0=some (.inr (k:Int))/\k<l.length/\(∀(j:Nat) b,j<k->l[j]?=some b->q b=false)/\∃b,l[k]?=some b/\q b=true):=by
 have key:=zy (F:=F) (λi=>0<=i/\i<=l.length/\∀(j:Nat) b,(j:Int)<i->l[j]?=some b->q b=false) (λi=>(l.length - i).toNat)
  (λz=>match z with | .inl _=>∀b∈l,q b=false | .inr i=>∃k:Nat,i=k/\k<l.length/\(∀(j:Nat) b,j<k->l[j]?=some b->q b=false)/\∃b,l[k]?=some b/\q b=true) ?_ 0 ⟨by omega,by omega,λj b f=>by omega⟩
 ·obtain⟨z,u,r⟩:=key;cases z with
  | inl z=>exact .inl ⟨u,r⟩
  | inr i=>
   obtain⟨k,rfl,d⟩:=r;exact .inr ⟨k,u,d⟩
 ·rintro i ⟨w,y,a⟩;obtain⟨k,rfl⟩:=ba w;rw[hF];by_cases hlt:k<l.length
  ·have d:l[k]?=some l[k]:=cn hlt;have m:=hp l[k] (dm hlt);have v:aB ((k:Int)+1)=(k:Int)+1:=zt om om;have hd:((k:Int)<(l.length:Int)):=by omega
   simp only[hd,Ϟ,Ϡ,zr d,gy,m,v];cases hq:q l[k]with
   | true=>right;exact⟨_,rfl,k,rfl,hlt,λj b f=>a j b om,_,d,hq⟩
   | false=>
    left;refine⟨_,rfl,⟨by omega,by omega,λj b f c=>?_⟩,by omega⟩;by_cases n:j=k
    ·subst n;rw[d]at c;injection c with c;rw[←c];exact hq
    ·exact a j b om c
  ·right;have hd:¬((k:Int)<(l.length:Int)):=by omega
   simp only[hd,ϡ];refine⟨_,rfl,?_⟩;intro b c;obtain⟨j,f⟩:=cz c;exact a j b (C2 f) f
abbrev Gl:=List UInt8×Int
abbrev Tl:=List UInt8×List Int
abbrev TSet:=List Gl×List Tl
abbrev Pt:=Int×Int
def iH(c:UInt8):Bool:=((97<=(c.toNat:Int):Ϛ)&&((c.toNat:Int)<=122:Ϛ))||((65<=(c.toNat:Int):Ϛ)&&((c.toNat:Int)<=90:Ϛ))
def iq(c:UInt8):Bool:=(48<=(c.toNat:Int):Ϛ)&&((c.toNat:Int)<=57:Ϛ)
def mq(s:List UInt8):Prop:=1<=s.length/\s.length<=12/\∀(i:Nat)(c:UInt8),s[i]?=some c->iH c=true\/(1<=i/\(iq c=true\/(c.toNat:Int)=95))
def FP(c:UInt8):ud (c.toNat:Int)=some (iH c):=by
 unfold ud iH;by_cases a:97<=(c.toNat:Int)<;>by_cases b:(c.toNat:Int)<=122<;>by_cases f:65<=(c.toNat:Int)<;>by_cases d:(c.toNat:Int)<=90<;>simp[*]<;>omega
def Gj(c:UInt8):uo (c.toNat:Int)=some (iq c):=by
 unfold uo iq;by_cases a:48<=(c.toNat:Int)<;>by_cases b:(c.toNat:Int)<=57<;>simp[*]<;>omega
def zzq(s:List UInt8)(h:s.length<=2000000):∃b,ma s=some b/\(b=true↔mq s):=by
 unfold ma ug;by_cases y:s.length<1
 ·rw[Ϙ so,Ϙ rfl];exact⟨_,rfl,by simp;unfold mq;omega⟩
 ·rw[ϙ so];by_cases x:s.length>12
  ·rw[Ϙ so,Ϙ rfl];exact⟨_,rfl,by simp;unfold mq;omega⟩
  ·rw[ϙ so];have k:s[0]?=some s[0]:=cn om;have u:idx s 0=some s[0]:=zr (i:=0) k;simp only[u,gy,FP];cases hl:iH s[0]with
   | false=>
    refine⟨false,rfl,by simp;rintro⟨_,_,v⟩;have:=v 0 _ k;rw[hl]at this;simp at this⟩
   | true=>
    rw[ϙ si];have key:=ko (λi=>(i:Int)) 1 s.length (λi=>∀c,s[i]?=some c->iH c=true\/iq c=true\/(c.toNat:Int)=95) (nr s) om ?_ ?_ ?_;rcases key with⟨l,m⟩ |⟨l,hnot⟩
    ·have l:iter (nr s) 1=some (.inl ()):=l;rw[l];refine⟨true,rfl,λ_=>⟨by omega,by omega,λi c a=>?_⟩,λ_=>rfl⟩;cases i with
     | zero=>rw[k]at a;injection a with a;rw[←a];exact .inl hl
     | succ i=>
      rcases m (i+1) om (zz a) c a with h | h
      ·exact .inl h
      ·exact .inr ⟨by omega,h⟩
    ·have l:iter (nr s) 1=some (.inr false):=l;rw[l];refine⟨false,rfl,A1,λw=>x4 (λi n hi c a=>?_) hnot⟩;rcases w.2.2 i c a with h | h
     ·exact .inl h
     ·exact .inr h.2
    ·intro i n hi _ j;unfold nr;have a:s[i]?=some s[i]:=cn hi;rw[Ϙ (by simp[hi])];simp only[zr a,gy,FP,Gj];have r:aB ((i:Int)+1)=((i+1:Nat):Int):=ψ
     unfold qo;rcases j _ a with h | h | h
     ·simp[h,r]
     ·simp[h,r]
     ·simp[h,r]
    ·intro i n hi _ j;unfold nr;have a:s[i]?=some s[i]:=cn hi;rw[Ϙ (by simp[hi])];simp only[zr a,gy,FP,Gj];unfold qo;have d:¬(iH s[i]=true\/iq s[i]=true\/(s[i].toNat:Int)=95):=λh=>j λc f=>by rw[a]at f;injection f with f;rw[←f];exact h
     simp only[not_or,Bool.not_eq_true]at d;simp[d.1,d.2.1,d.2.2]
    ·intro _;unfold nr;rw[ϙ si]
def zz0(s:List UInt8)(h:s.length<=2000000):∃b,mc s=some b/\(b=true↔mq s):=by
 have f:∀(i:Nat)(c:UInt8),s[i]?=some c->nt s (i:Int)=kJ (i:Int) c (iH c):=by
  intro i c d;have hi:=zz d;unfold nt;rw[Ϙ (by simp[hi])];simp only[zr d,gy];unfold iH;by_cases z:97<=(c.toNat:Int)<;>by_cases B:(c.toNat:Int)<=122<;>by_cases D:65<=(c.toNat:Int)<;>by_cases C:(c.toNat:Int)<=90<;>simp[*]<;>omega
 unfold mc MJ;have key:=ko (λi=>(i:Int)) 0 s.length (λi=>∀c,s[i]?=some c->iH c=true\/(1<=i/\(iq c=true\/(c.toNat:Int)=95))) (nt s) om ?_ ?_ ?_;rcases key with⟨l,w⟩ |⟨l,hnot⟩
 ·have l:iter (nt s) 0=some (.inl ()):=l;rw[l];by_cases z:1<=s.length
  ·refine⟨((s.length:Int)<=12:Ϛ),π,?_⟩;simp only[ϛ];exact⟨λB=>⟨z,by omega,λi c d=>w i om (zz d) c d⟩,λv=>by have:=v.2.1;omega⟩
  ·refine⟨false,by simp;intro h;omega,A1,λv=>x4 v.1 z⟩
 ·have l:iter (nt s) 0=some (.inr false):=l;rw[l];exact⟨false,rfl,A1,λv=>x4 (λi _ hi c d=>v.2.2 i c d) hnot⟩
 ·intro i y hi _ m;have d:s[i]?=some s[i]:=cn hi;rw[f i _ d];have u:aB ((i:Int)+1)=((i+1:Nat):Int):=ψ
  unfold kJ lW;rcases m _ d with h |⟨h0,h | h⟩
  ·simp[h,u]
  ·unfold iq at h;simp at h;cases A:iH s[i]with
   | true=>simp[u]
   | false=>
    have n:¬((i:Int)=0):=by omega
    have r:¬((s[i].toNat:Int)<48):=by omega
    have x:¬((s[i].toNat:Int)>57):=by omega
    simp only[n,r,x,ϡ];simp[u]
  ·cases A:iH s[i]with
   | true=>simp[u]
   | false=>
    have n:¬((i:Int)=0):=by omega
    have r:¬((s[i].toNat:Int)<48):=by omega
    have x:((s[i].toNat:Int)>57):=by omega
    simp only[n,r,x,ϡ,Ϟ,h];simp[u]
 ·intro i y hi _ m;have d:s[i]?=some s[i]:=cn hi;rw[f i _ d];unfold kJ lW;have k:¬(iH s[i]=true\/(1<=i/\(iq s[i]=true\/(s[i].toNat:Int)=95))):=λh=>m λc j=>by rw[d]at j;injection j with j;rw[←j];exact h
  rw[not_or]at k;have A:iH s[i]=false:=϶ k.1
  rw[A];by_cases n:(i:Int)=0
  ·simp[n]
  ·have a:¬(iq s[i]=true\/(s[i].toNat:Int)=95):=λh=>k.2 ⟨by omega,h⟩;rw[not_or]at a;have hd:=a.1;unfold iq at hd;simp at hd;by_cases r:(s[i].toNat:Int)<48
   ·simp only[n,r,ϡ,Ϟ,a.2];simp
   ·have x:(s[i].toNat:Int)>57:=by omega
    simp only[n,r,x,ϡ,Ϟ,a.2];simp
 ·intro _;unfold nt;rw[ϙ si]
theorem ki(s:List UInt8)(h:s.length<=2000000):∃b,mc s=some b/\ma s=some b/\(b=true↔mq s):=by
 obtain⟨a,c,d⟩:=zz0 s h;obtain⟨b,f,i⟩:=zzq s h;have:a=b:=by
  cases a<;>cases b<;>simp_all
 subst this;exact⟨a,c,f,d⟩
def gS a b c:gZ a b c=some (b<=a/\a<=c:Ϛ):=by
 unfold gZ;by_cases d:a≥b<;>by_cases f:a<=c<;>simp[*]<;>omega
def hP a b c:fX a b c=some (b<=a/\a<=c:Ϛ):=by
 unfold fX;by_cases d:a≥b<;>by_cases f:a<=c<;>simp[*]<;>omega
def GlueOk(set:TSet)(i:Nat):Prop:=∀g,set.1[i]?=some g->mq g.1/\1<=g.2/\g.2<=4/\∀(j:Nat)(g':Gl),j<i->set.1[j]?=some g'->g'.1≠g.1
def TileOk(set:TSet)(i:Nat):Prop:=∀t,set.2[i]?=some t->mq t.1/\t.2.length=4/\(∀(j:Nat)(t':Tl),j<i->set.2[j]?=some t'->t'.1≠t.1)/\∀x∈t.2,0<=x/\x<=set.1.length
structure SetOk(set:TSet):Prop where
 glues:set.1.length<=200
 tiles1:1<=set.2.length
 tiles:set.2.length<=160
 glue:∀i,i<set.1.length->GlueOk set i
 tile:∀i,i<set.2.length->TileOk set i
structure Tame(set:TSet):Prop where
 g:set.1.length<=1048576
 t:set.2.length<=1048576
 gn:∀x∈set.1,x.1.length<=1048576
 tn:∀x∈set.2,x.1.length<=1048576
 ts:∀x∈set.2,x.2.length<=1048576
def Bp{a:Type}(l:List (List UInt8×a))s:(b_ (l.map λg=>(g.1,true)) s).getD false=true↔∃g∈l,g.1=s:=by
 induction l with
 | nil=>simp[b_]
 | cons g l ih=>
  unfold b_ at ih ⊢;rw[ep,List.find?_cons];by_cases h:g.1=s
  ·simp[h]
  ·simp only[h,ϡ];rw[ih];simp[h]
def PO{a:Type}(l:List (List UInt8×a))s:cW (l.map λg=>(g.1,true)) s=true↔∃g∈l,g.1=s:=by
 rw[OW];simp
def NH{a:Type}{l:List (List UInt8×a)}{g:List UInt8×a}(h:¬ ∃g'∈l,g'.1=g.1):bS (l.map λg=>(g.1,true)) g.1 true=(l++[g]).map λg=>(g.1,true):=by
 rw[OU (by cases hh:cW (l.map λg=>(g.1,true)) g.1 with | false=>rfl | true=>exact x4 ((PO l g.1).1 hh) h)];simp
def kg{a:Type}{l:List a}{x:a}{i}(h:l[i]?=some x):l.take (i+1)=l.take i++[x]:=by
 rw[fu,h];rfl
def Bl{d:Type}{l:List d}{P:d->Prop}{i}(hi:i<=l.length):(∃g∈l.take i,P g)↔∃(j:Nat)(g:d),j<i/\l[j]?=some g/\P g:=by
 constructor
 ·rintro⟨g,c,b⟩;obtain⟨j,a⟩:=cz c;have:=zz a;rw[ef]at this;rw[dl,Ϙ om]at a;exact⟨j,g,by omega,a,b⟩
 ·rintro⟨j,g,a,c,b⟩;exact⟨g,fe (i:=j) (by rw[dl,Ϙ a];exact c),b⟩
def mp(l:List Int)(m:Int):Bool:=l.all λx=>(0<=x/\x<=m:Ϛ)
def Bo{l m}:mp l m=true↔∀x∈l,0<=x/\x<=m:=by
 unfold mp;simp
def MM(l:List Int)(hl:l.length<=1048576)(set:TSet):wM l (λq0=>nu q0 set)=some (!mp l set.1.length):=by
 unfold wM DZ JM;have hp:∀b∈l,(λq0=>nu q0 set) b=some (!(0<=b/\b<=(set.1.length:Int):Ϛ)):=by
  intro b _;simp only[nu,gS,gy]
 rcases kX l om (λq0=>nu q0 set) (λb=>!(0<=b/\b<=(set.1.length:Int):Ϛ)) hp (Ju l λq0=>nu q0 set) (λi=>rfl)with⟨c,a⟩ |⟨k,c,hk,_,b,hb,hq⟩
 ·rw[c];have:mp l set.1.length=true:=by
   rw[Bo];intro x d;have:=a x d;exact w8
  simp[this]
 ·rw[c];have:mp l set.1.length=false:=by
   cases h:mp l set.1.length with
   | false=>rfl
   | true=>
    have f:=Bo.1 h b<|fe hb;simp at hq;omega
  simp[this]
def zxn(set:TSet)(hT:Tame set):∃b,uu set=some b/\(b=true↔SetOk set):=by
 unfold uu yI;by_cases H:(set.1.length:Int)>200
 ·rw[Ϙ so,Ϙ rfl];exact⟨_,rfl,A9,λh=>by have:=h.glues;omega⟩
 rw[ϙ so,gS];simp only[gy];by_cases G:1<=(set.2.length:Int)/\(set.2.length:Int)<=160
 rotate_left
 ·rw[Ϙ so];exact⟨_,rfl,A9,λh=>x4 ⟨by have:=h.tiles1;omega,by have:=h.tiles;omega⟩ G⟩
 rw[ϙ so];have key:=ko (λi=>((i:Int),(set.1.take i).map λg=>(g.1,true))) 0 set.1.length (GlueOk set) (ni set) om ?_ ?_ ?_;rcases key with⟨v,A⟩ |⟨v,hnot⟩
 ·have v:iter (ni set) (0,[])=some (.inl ()):=v;rw[v];simp only[gy];unfold Ms Mr;have key:=ko (λi=>((i:Int),(set.2.take i).map λg=>(g.1,true))) 0 set.2.length (TileOk set) (nh set) om ?_ ?_ ?_;rcases key with⟨f,y⟩ |⟨f,hnot2⟩
  ·have f:iter (nh set) (0,[])=some (.inl ()):=f;rw[f];exact Q8 A y
  ·have f:iter (nh set) (0,[])=some (.inr false):=f;rw[f];exact T7
  ·intro i _ hi _ k;have m:set.2[i]?=some set.2[i]:=cn hi;obtain⟨o1,o2,D,E⟩:=k _ m;obtain⟨b,r,_,l⟩:=F5;have z:b=true:=l.2 o1;subst z;have a:¬ ∃g∈set.2.take i,g.1=set.2[i].1:=by
    rw[Bl om];rintro⟨j,g,x,u,e⟩;exact D j g x u e
   have c:(b_ ((set.2.take i).map λg=>(g.1,true)) set.2[i].1).getD false=false:=by
    cases hh:(b_ ((set.2.take i).map λg=>(g.1,true)) set.2[i].1).getD false with
    | false=>rfl
    | true=>exact x4 ((Bp _ _).1 hh) a
   have C:aB ((i:Int)+1)=((i+1:Nat):Int):=ψ
   unfold nh qm;rw[Ϙ (by simp[hi])];simp only[zr m,gy,r,c,MM _ (by omega:set.2[i].2.length<=1048576),C,NH a,←kg m,o2];have:mp set.2[i].2 set.1.length=true:=Bo.2 E;simp[this]
  ·intro i _ hi _ k;have m:set.2[i]?=some set.2[i]:=cn hi;obtain⟨b,r,_,l⟩:=F5;unfold nh qm;rw[Ϙ (by simp[hi])];simp only[zr m,gy,r];cases b with
   | false=>simp
   | true=>
    rw[ϙ si];have d:=l.1 rfl;cases c:(b_ ((set.2.take i).map λg=>(g.1,true)) set.2[i].1).getD false with
    | true=>simp
    | false=>
     rw[ϙ si];have a:¬ ∃g∈set.2.take i,g.1=set.2[i].1:=λh=>by
      rw[(Bp _ _).2 h]at c;cases c
     rw[Bl om]at a;by_cases F:set.2[i].2.length=4
     ·simp only[F];rw[ϙ si,MM _ om];have:¬mp set.2[i].2 set.1.length=true:=λB=>k λt n=>by
       rw[m]at n;injection n with n;subst n
       exact⟨d,F,λj t' x w e=>a ⟨j,t',x,w,e⟩,Bo.1 B⟩
      simp[this]
     ·rw[Ϙ so]
  ·intro _;unfold nh;rw[ϙ si]
 ·have v:iter (ni set) (0,[])=some (.inr false):=v;rw[v];exact⟨false,rfl,A9,λh=>x4 (λi _ hi=>h.glue i hi) hnot⟩
 ·intro i _ hi _ k;have m:set.1[i]?=some set.1[i]:=cn hi;obtain⟨o1,o2,D,E⟩:=k _ m;obtain⟨b,r,_,l⟩:=I0;have z:b=true:=l.2 o1;subst z;have a:¬ ∃g∈set.1.take i,g.1=set.1[i].1:=by
   rw[Bl om];rintro⟨j,g,x,u,e⟩;exact E j g x u e
  have c:(b_ ((set.1.take i).map λg=>(g.1,true)) set.1[i].1).getD false=false:=by
   cases hh:(b_ ((set.1.take i).map λg=>(g.1,true)) set.1[i].1).getD false with
   | false=>rfl
   | true=>exact x4 ((Bp _ _).1 hh) a
  have C:aB ((i:Int)+1)=((i+1:Nat):Int):=ψ
  unfold ni qk;rw[Ϙ (by simp[hi])];simp only[zr m,gy,r,c,gS,C,NH a,←kg m];simp[o2,D]
 ·intro i _ hi _ k;have m:set.1[i]?=some set.1[i]:=cn hi;obtain⟨b,r,_,l⟩:=I0;unfold ni qk;rw[Ϙ (by simp[hi])];simp only[zr m,gy,r,gS];cases b with
  | false=>simp
  | true=>
   rw[ϙ si];have d:=l.1 rfl;cases c:(b_ ((set.1.take i).map λg=>(g.1,true)) set.1[i].1).getD false with
   | true=>simp
   | false=>
    rw[ϙ si];have a:¬ ∃g∈set.1.take i,g.1=set.1[i].1:=λh=>by
     rw[(Bp _ _).2 h]at c;cases c
    rw[Bl om]at a;have:¬(1<=set.1[i].2/\set.1[i].2<=4):=λB=>k λt n=>by
     rw[m]at n;injection n with n;subst n
     exact⟨d,B.1,B.2,λj t' x w e=>a ⟨j,t',x,w,e⟩⟩
    simp[this]
 ·intro _;unfold ni;rw[ϙ si]
def uT(set:TSet)(h:set.1.length<=1048576)s:
  (iA set s=some 0/\∀g∈set.1,g.1≠s)\/∃k:Nat,iA set s=some ((k:Int)+1)/\k<set.1.length/\(∀(j:Nat) g,j<k->set.1[j]?=some g->g.1≠s)/\∃g,set.1[k]?=some g/\g.1=s:=by
 unfold iA MA;have key:=zy (F:=EA set s) (λi=>0<=i/\i<=set.1.length/\∀(j:Nat) g,(j:Int)<i->set.1[j]?=some g->g.1≠s) (λi=>(set.1.length - i).toNat)
  (λz=>match z with | .inl _=>∀g∈set.1,g.1≠s | .inr i=>∃k:Nat,i=(k:Int)+1/\k<set.1.length/\(∀(j:Nat) g,j<k->set.1[j]?=some g->g.1≠s)/\∃g,set.1[k]?=some g/\g.1=s) ?_ 0 ⟨by omega,by omega,λj b f=>by omega⟩
 ·obtain⟨z,v,n⟩:=key;rw[v];cases z with
  | inl z=>exact .inl ⟨rfl,n⟩
  | inr i=>
   obtain⟨k,rfl,d⟩:=n;exact .inr ⟨k,rfl,d⟩
 ·rintro i ⟨u,w,a⟩;obtain⟨k,rfl⟩:=ba u;unfold EA;by_cases hlt:k<set.1.length
  ·have d:set.1[k]?=some set.1[k]:=cn hlt;have r:aB ((k:Int)+1)=(k:Int)+1:=zt om om;rw[Ϙ (by simp[hlt])];simp only[zr d,gy,r];by_cases l:set.1[k].1=s
   ·right;rw[Ϙ (by simp[l])];exact⟨_,rfl,k,rfl,hlt,λj b f=>a j b om,_,d,l⟩
   ·left;rw[ϙ (by simp[l])];refine⟨_,rfl,⟨by omega,by omega,λj b f c=>?_⟩,by omega⟩;by_cases m:j=k
    ·subst m;rw[d]at c;injection c with c;rw[←c];exact l
    ·exact a j b om c
  ·right;rw[ϙ so];refine⟨_,rfl,?_⟩;intro b c;obtain⟨j,f⟩:=cz c;exact a j b (C2 f) f
def mj(set:TSet)(h:set.2.length<=1048576)s:
  (il set s=some (-1)/\∀g∈set.2,g.1≠s)\/∃k:Nat,il set s=some (k:Int)/\k<set.2.length/\(∀(j:Nat) g,j<k->set.2[j]?=some g->g.1≠s)/\∃g,set.2[k]?=some g/\g.1=s:=by
 unfold il EZ;rcases kX set.2 om (λt=>some<|(t.1=s:Ϛ)) (λt=>(t.1=s:Ϛ)) (λ_ _=>rfl) (yc set s) (λi=>rfl)with⟨d,a⟩ |⟨k,d,hk,hlow,b,hb,hq⟩
 ·rw[d];exact .inl ⟨rfl,λg c=>by simpa using a g c⟩
 ·rw[d];exact .inr ⟨k,rfl,hk,λj g f c=>by simpa using hlow j g f c,b,hb,϶ hq⟩
def NQ(set:TSet)(t:Tl)(h4:t.2.length=4):(iter (ui set t) 0=some (.inl ())/\∀x∈t.2,0<=x/\x<=(set.1.length:Int))\/(iter (ui set t) 0=some (.inr (.inr (.inr false)))/\¬ ∀x∈t.2,0<=x/\x<=(set.1.length:Int)):=by
 have key:=zy (F:=ui set t) (λi=>0<=i/\i<=4/\∀(j:Nat) x,(j:Int)<i->t.2[j]?=some x->0<=x/\x<=(set.1.length:Int)) (λi=>(4 - i).toNat)
  (λz=>(z=.inl ()/\∀x∈t.2,0<=x/\x<=(set.1.length:Int))\/(z=.inr (.inr<|.inr false)/\¬ ∀x∈t.2,0<=x/\x<=(set.1.length:Int))) ?_ 0 ⟨by omega,by omega,λj b f=>by omega⟩
 ·obtain⟨z,n,u⟩:=key;rcases u with⟨rfl,h⟩ |⟨rfl,h⟩
  ·exact .inl ⟨n,h⟩
  ·exact .inr ⟨n,h⟩
 ·rintro i ⟨v,w,a⟩;obtain⟨k,rfl⟩:=ba v;unfold ui;by_cases hlt:(k:Int)<4
  ·have l:t.2[k]?=some (t.2[k]'om):=cn om;have r:aB ((k:Int)+1)=(k:Int)+1:=zt om om;rw[Ϙ (by simpa using hlt)];simp only[zr l,gy,r,hP];by_cases d:0<=t.2[k]'om/\t.2[k]'om<=(set.1.length:Int)
   ·left;rw[ϙ (by simp[d])];refine⟨_,rfl,⟨by omega,by omega,λj b f c=>?_⟩,by omega⟩;by_cases m:j=k
    ·subst m;rw[l]at c;injection c with c;rw[←c];exact d
    ·exact a j b om c
   ·right;rw[Ϙ (by simp only[d,ϡ];rfl)];exact⟨_,rfl,.inr ⟨rfl,λh=>d<|h _<|fe l⟩⟩
  ·right;rw[ϙ (by simpa using hlt)];refine⟨_,rfl,.inl ⟨rfl,?_⟩⟩;intro b c;obtain⟨j,f⟩:=cz c;exact a j b (C2 f) f
def zxg(set:TSet)(hT:Tame set):∃b,qJ set=some b/\(b=true↔SetOk set):=by
 unfold qJ um;by_cases H:(set.1.length:Int)>200
 ·rw[Ϙ so,Ϙ rfl];exact⟨_,rfl,λh=>(by cases h),λh=>by have:=h.glues;omega⟩
 rw[ϙ so];by_cases F:(set.2.length:Int)<1
 ·rw[Ϙ (by simpa using F),Ϙ rfl];exact⟨_,rfl,λh=>(by cases h),λh=>by have:=h.tiles1;omega⟩
 rw[ϙ (by simpa using F)];by_cases G:(set.2.length:Int)>160
 ·rw[Ϙ (by simpa using G)];exact⟨_,rfl,λh=>(by cases h),λh=>by have:=h.tiles;omega⟩
 rw[ϙ (by simpa using G)];have key:=ko (λi=>(i:Int)) 0 set.1.length (GlueOk set) (nB set) om ?_ ?_ ?_;rcases key with⟨r,z⟩ |⟨r,hnot⟩
 ·have r:iter (nB set) 0=some (.inl ()):=r;rw[r];simp only[gy];unfold MU MT;have key:=ko (λi=>(i:Int)) 0 set.2.length (TileOk set) (nA set) om ?_ ?_ ?_;rcases key with⟨c,v⟩ |⟨c,hnot2⟩
  ·have c:iter (nA set) 0=some (.inl ()):=c;rw[c];exact⟨true,rfl,λ_=>⟨by omega,by omega,by omega,λi hi=>z i om hi,λi hi=>v i om hi⟩,λ_=>rfl⟩
  ·have c:iter (nA set) 0=some (.inr false):=c;rw[c];exact⟨false,rfl,λh=>(by cases h),λh=>x4 (λi _ hi=>h.tile i hi) hnot2⟩
  ·intro i _ hi _ d;have m:set.2[i]?=some set.2[i]:=cn hi;obtain⟨o1,o2,C,D⟩:=d _ m;obtain⟨b,_,n,f⟩:=ki set.2[i].1 ((by have:=hT.tn _<|dm hi;omega));have w:b=true:=f.2 o1;subst w;have y:aB ((i:Int)+1)=((i+1:Nat):Int):=(by rw[zt om om];omega)
   have l:il set set.2[i].1=some (i:Int):=by
    rcases mj set hT.t set.2[i].1 with⟨_,h⟩ |⟨k,hk,hkl,hlow,g,hg',e⟩
    ·exact x4 rfl<|h _<|dm hi
    ·rw[hk];congr 2;rcases gm k i with h | h | h
     ·exact x4 e<|C k g h hg'
     ·exact h
     ·exact x4 rfl<|hlow i _ h m
   unfold nA qy Fx;rw[Ϙ (by simp[hi])];rcases NQ set set.2[i] o2 with⟨hs,_⟩ |⟨_,hs⟩
   ·simp[zr m,n,o2,l,hs,y]
   ·exact x4 D hs
  ·intro i _ hi _ d;have m:set.2[i]?=some set.2[i]:=cn hi;obtain⟨b,_,n,f⟩:=ki set.2[i].1 ((by have:=hT.tn _<|dm hi;omega));unfold nA qy Fx;rw[Ϙ (by simp[hi])];simp only[zr m,gy,n];cases b with
   | false=>simp
   | true=>
    rw[ϙ si];have a:=f.1 rfl;by_cases B:set.2[i].2.length=4
    rotate_left
    ·rw[Ϙ so];rfl
    rw[ϙ (by simp[B])];rcases mj set hT.t set.2[i].1 with⟨_,h⟩ |⟨k,hk,hkl,hlow,g,hg',e⟩
    ·exact x4 rfl<|h _<|dm hi
    ·simp only[hk,gy];by_cases x:k=i
     ·subst x;rw[ϙ si];rcases NQ set set.2[k] B with⟨_,hs⟩ |⟨hs,_⟩
      ·refine x4 (λt l=>?_) d;rw[m]at l;injection l with l;subst l
       exact⟨a,B,λj t' E u=>hlow j t' E u,hs⟩
      ·simp[hs]
     ·rw[Ϙ so]
  ·intro _;unfold nA;rw[ϙ si]
 ·have r:iter (nB set) 0=some (.inr false):=r;rw[r];exact⟨false,rfl,λh=>(by cases h),λh=>x4 (λi _ hi=>h.glue i hi) hnot⟩
 ·intro i _ hi _ d;have m:set.1[i]?=some set.1[i]:=cn hi;obtain⟨o1,o2,C,D⟩:=d _ m;obtain⟨b,_,n,f⟩:=ki set.1[i].1 ((by have:=hT.gn _<|dm hi;omega));have w:b=true:=f.2 o1;subst w;have y:aB ((i:Int)+1)=((i+1:Nat):Int):=(by rw[zt om om];omega)
  have l:iA set set.1[i].1=some ((i+1:Nat):Int):=by
   rcases uT set hT.g set.1[i].1 with⟨_,h⟩ |⟨k,hk,hkl,hlow,g,hg',e⟩
   ·exact x4 rfl<|h _<|dm hi
   ·rw[hk];congr 1;have:k=i:=by
     rcases gm k i with h | h | h
     ·exact x4 e<|D k g h hg'
     ·exact h
     ·exact x4 rfl<|hlow i _ h m
    omega
  unfold nB qx;rw[Ϙ (by simp[hi])];simp[zr m,n,l,y,hP,o2,C]
 ·intro i _ hi _ d;have m:set.1[i]?=some set.1[i]:=cn hi;obtain⟨b,_,n,f⟩:=ki set.1[i].1 ((by have:=hT.gn _<|dm hi;omega));have y:aB ((i:Int)+1)=((i+1:Nat):Int):=(by rw[zt om om];omega)
  unfold nB qx;rw[Ϙ (by simp[hi])];simp only[zr m,gy,n,hP];cases b with
  | false=>simp
  | true=>
   rw[ϙ si];have a:=f.1 rfl;by_cases A:1<=set.1[i].2/\set.1[i].2<=4
   rotate_left
   ·rw[Ϙ (by simp only[A,ϡ];rfl)];rfl
   rw[ϙ (by simp[A])];rcases uT set hT.g set.1[i].1 with⟨_,h⟩ |⟨k,hk,hkl,hlow,g,hg',e⟩
   ·exact x4 rfl<|h _<|dm hi
   ·simp only[hk,gy,y];have x:k≠i:=λh=>by
     subst h;exact d λt l=>by
      rw[m]at l;injection l with l;subst l
      exact⟨a,A.1,A.2,λj t' E u=>hlow j t' E u⟩
    rw[Ϙ so]
 ·intro _;unfold nB;rw[ϙ si]
theorem FU(set:TSet)(hT:Tame set):∃b,uu set=some b/\qJ set=some b/\(b=true↔SetOk set):=by
 obtain⟨a,c,d⟩:=zxn set hT;obtain⟨b,f,h⟩:=zxg set hT;have:a=b:=by
  cases a<;>cases b<;>simp_all
 subst this;exact⟨a,c,f,d⟩
end Go.Lf
