import Derived.Test.YtiobnnnacoginaaGreatDoorC
set_option linter.all false
namespace Go.Lf
open Go
def zgX{α:Type}{l:List α}{i:Int}{x:α}(h0:0<=i)(h:l[i.toNat]?=some x):idx l i=some x:=by
 unfold idx;rw[if_pos h0];exact h
def zy6{α:Type}{l:List α}{i:Int}(h0:0<=i)(h1:i<l.length):idx l i=some (l[i.toNat]'om):=
 zgX h0 (by rw[cz om])
def zR{α:Type}{l:List α}{i:Int}(h0:0<=i)(h1:i<l.length):∃x,idx l i=some x/\l[i.toNat]?=some x:=
 ⟨_,zy6 h0 h1,by rw[cz om]⟩
def zai{α:Type}{bytes:Nat}{l l2:List α}(h:(l.length+l2.length)*bytes<=140737488355328)(h2:l.length+l2.length<=9223372036854775807):app bytes l l2=some (l++l2):=by
 unfold app;rw[if_pos ⟨h,h2⟩]
def znR{α:Type}{bytes:Nat}{n:Int}{z:α}(h0:0<=n)(h1:n<=2000000)(hb:bytes<=1000):mkl bytes n z=some (List.replicate n.toNat z):=by
 have a:n*bytes<=2000000*1000:=Int.mul_le_mul h1 om om om;unfold mkl;rw[if_pos ⟨h0,by omega,by omega⟩]
def zu{n:Int}(h0 : -1000000000000<=n)(h1:n<=1000000000000):w64 n=n:=zax ⟨by omega,by omega⟩
def zU{α:Type}{l:List α}{i:Nat}{x:α}(h:i<l.length):(l.set i x)[i]?=some x:=by simp[h]
def zL{α:Type}{l:List α}{i j:Nat}{x:α}(h:i≠j):(l.set i x)[j]?=l[j]?:=by simp[h]
def zA{α:Type}{l:List α}{i:Nat}{x:α}(h:l[i]?=some x):i<l.length:=(dg.1 h).1
def zmY{α:Type}(p:α->Bool):∀{l:List α} {i:Nat} {x y:α},l[i]?=some x->p x=true->p y=false->(l.set i y).countP p+1=l.countP p
 |[],i,x,y,h,_,_=>by simp at h
 | a::l,0,x,y,h,hx,hy=>by
  simp at h;subst h;simp[hx,hy]
 | a::l,i+1,x,y,h,hx,hy=>by
  simp at h;have:=zmY p h hx hy;simp only[List.set_cons_succ,List.countP_cons];omega
abbrev Bd:=Int×Int×Int
def ind(b:Bool):Int:=if b=true then 1 else 0
def zgr(S:Int->Bool):List Bd->Int
 |[]=>0
 | b::bs=>(if S b.1=S b.2.1 then 0 else b.2.2)+zgr S bs
def zdv(S:Int->Bool):List Bd->List Int->Int
 | b::bs,f::fl=>f*(ind (S b.1) - ind (S b.2.1))+zdv S bs fl
 | _,_=>0
def zqd{S:Int->Bool}:∀{bs:List Bd} {fl:List Int},fl.length=bs.length->(∀(k:Nat)(b:Bd)(f:Int),bs[k]?=some b->fl[k]?=some f -> -b.2.2<=f/\f<=b.2.2)->zdv S bs fl<=zgr S bs
 |[],fl,_,_=>by simp[zdv,zgr]
 | b::bs,[],h,_=>by simp at h
 | b::bs,f::fl,h,hf=>by
  have i:=hf 0 b f rfl rfl;have g:=zqd (S:=S) (bs:=bs) (fl:=fl) (by simpa using h) (λk d c e a=>hf (k+1) d c e a);simp only[zdv,zgr];cases hA:S b.1<;>cases hB:S b.2.1<;>simp[ind]<;>omega
def ztu{S:Int->Bool}:∀{bs:List Bd} {fl:List Int},fl.length=bs.length->
  (∀(k:Nat)(b:Bd)(f:Int),bs[k]?=some b->fl[k]?=some f->(S b.1=true->S b.2.1=false->f=b.2.2)/\(S b.1=false->S b.2.1=true->f = -b.2.2))->zdv S bs fl=zgr S bs
 |[],fl,_,_=>by simp[zdv,zgr]
 | b::bs,[],h,_=>by simp at h
 | b::bs,f::fl,h,hf=>by
  have c:=hf 0 b f rfl rfl;have d:=ztu (S:=S) (bs:=bs) (fl:=fl) (by simpa using h) (λk g e i a=>hf (k+1) g e i a);simp only[zdv,zgr,d];cases hA:S b.1<;>cases hB:S b.2.1<;>simp[ind]
  ·have:=c.2 hA hB;omega
  ·have:=c.1 hA hB;omega
def zuU{S:Int->Bool}:∀{bs:List Bd} {fl:List Int} {k:Nat} {b:Bd} {f f':Int},bs[k]?=some b->fl[k]?=some f->
  zdv S bs (fl.set k f')=zdv S bs fl+(f' - f)*(ind (S b.1) - ind (S b.2.1))
 |[],_,k,b,f,f',h,_=>by simp at h
 | _::_,[],k,b,f,f',_,h=>by simp at h
 | b0::bs,f0::fl,0,b,f,f',h,h'=>by
  simp at h h';subst h;subst h';simp only[List.set_cons_zero,zdv];rw[Int.sub_mul];omega
 | b0::bs,f0::fl,k+1,b,f,f',h,h'=>by
  simp at h h';simp only[List.set_cons_succ,zdv];rw[zuU h h'];omega
def zvO{S:Int->Bool}:∀{bs:List Bd} {m:Nat},zdv S bs (List.replicate m 0)=0
 |[],m=>by cases m<;>simp[zdv]
 | b::bs,0=>by simp[zdv]
 | b::bs,m+1=>by rw[List.replicate_succ];simp only[zdv];rw[zvO];simp
def zyE{S:Int->Bool}:∀{bs:List Bd},(∀b∈bs,0<=b.2.2/\b.2.2<=1000)->zgr S bs<=1000*bs.length
 |[],_=>by simp[zgr]
 | b::bs,h=>by
  have d:=h b si;have e:=zyE (S:=S) (bs:=bs) (λc a=>h c (by simp[a]));simp only[zgr,dz];split<;>omega
structure Net(n:Int)(bs:List Bd)(at_:List (List Int))(fl:List Int):Prop where
 n0:0<=n
 n1:n<=100000
 bn:bs.length<=100000
 wb:∀(k:Nat)(b:Bd),bs[k]?=some b->0<=b.1/\b.1<n/\0<=b.2.1/\b.2.1<n/\b.1≠b.2.1/\0<=b.2.2/\b.2.2<=1000
 alen:at_.length=n.toNat
 amem:∀(v:Nat)(l:List Int),at_[v]?=some l->l.length<=100000/\∀k:Int,k∈l↔(0<=k/\∃b:Bd,bs[k.toNat]?=some b/\(b.1=v\/b.2.1=v))
 flen:fl.length=bs.length
 fok:∀(k:Nat)(b:Bd)(f:Int),bs[k]?=some b->fl[k]?=some f -> -b.2.2<=f/\f<=b.2.2
def res(b:Bd)(f v:Int):Int:=if b.1=v then b.2.2 - f else b.2.2+f
def oth(b:Bd)(v:Int):Int:=if b.1=v then b.2.1 else b.1
section
variable {n:Int} {bs:List Bd} {at_:List (List Int)} {fl:List Int}
def Net.bond(h:Net n bs at_ fl){k:Int}{b:Bd}(h0:0<=k)(hb:bs[k.toNat]?=some b):∃f,fl[k.toNat]?=some f/\idx bs k=some b/\idx fl k=some f /\ -b.2.2<=f/\f<=b.2.2:=by
 have d:=zA hb;have a:k.toNat<fl.length:=by rw[h.flen];exact d
 have c:fl[k.toNat]?=some fl[k.toNat]:=cz a;exact⟨_,c,zgX h0 hb,zgX h0 c,h.fok _ _ _ hb c⟩
def zyT(h:Net n bs at_ fl){k v:Int}{b:Bd}{f:Int}(h0:0<=k)(hb:bs[k.toNat]?=some b)(hf:fl[k.toNat]?=some f):
  zeG (n,bs,at_,fl) v k=some (res b f v,oth b v,(n,bs,at_,fl)):=by
 obtain⟨j,a,hi,c,i,g⟩:=h.bond h0 hb;rw[a]at hf;obtain rfl:=Option.some.inj hf;have e:=h.wb _ _ hb;unfold zeG res oth;simp only[hi,ic,c];by_cases d:b.1=v
 ·simp only[d,decide_true,if_true];rw[zu om om]
 ·simp only[d,decide_false,if_false,az];rw[zu om om]
structure Dist(n:Int)(bs:List Bd)(fl:List Int)(y:Int)(L:List Int):Prop where
 len:L.length=n.toNat
 goal:L[y.toNat]?=some 0
 low:∀(v:Nat)(d:Int),L[v]?=some d -> -1<=d/\d<=n
 closed:∀(k:Nat)(b:Bd)(f:Int)(t:Nat)(d e:Int),bs[k]?=some b->fl[k]?=some f->(b.1=t\/b.2.1=t)->L[t]?=some d->0<=d->0<res b f (oth b t)->L[(oth b t).toNat]?=some e->0<=e
 parent:∀(v:Nat)(d:Int),L[v]?=some d->0<=d->(v:Int)≠y->∃(k:Nat)(b:Bd)(f:Int),bs[k]?=some b/\fl[k]?=some f/\(b.1=v\/b.2.1=v)/\0<res b f v/\L[(oth b v).toNat]?=some (d - 1)/\0<=d - 1
end
def zxq{j:Nat}{i:Int}(h0:0<=i)(h1:j<(i+1).toNat)(h2:¬j<i.toNat):j=i.toNat:=by omega
def isNeg(x:Int):Bool:=decide (x<0)
structure BInv(n:Int)(bs:List Bd)(fl:List Int)(y:Int)(L q:List Int):Prop where
 len:L.length=n.toNat
 goal:L[y.toNat]?=some 0
 low:∀(v:Nat)(d:Int),L[v]?=some d -> -1<=d/\d<q.length
 qlab:∀v∈q,0<=v/\∃d,L[v.toNat]?=some d/\0<=d
 labq:∀(v:Nat)(d:Int),L[v]?=some d->0<=d->(v:Int)∈q
 count:q.length+L.countP isNeg=n.toNat
 parent:∀(v:Nat)(d:Int),L[v]?=some d->0<=d->(v:Int)≠y->∃(k:Nat)(b:Bd)(f:Int),bs[k]?=some b/\fl[k]?=some f/\(b.1=v\/b.2.1=v)/\0<res b f v/\L[(oth b v).toNat]?=some (d - 1)/\0<=d - 1
def BClosed(bs:List Bd)(fl L:List Int)(t:Int)(k:Int):Prop:=
 ∀(b:Bd)(f:Int),bs[k.toNat]?=some b->fl[k.toNat]?=some f->0<res b f (oth b t)->∃e,L[(oth b t).toNat]?=some e/\0<=e
def BClosed.mono{bs:List Bd}{fl L L':List Int}{t k:Int}(h:BClosed bs fl L t k)(hm:∀(v:Nat)(d:Int),L[v]?=some d->0<=d->L'[v]?=some d):BClosed bs fl L' t k:=by
 intro b f j c g;obtain⟨e,i,a⟩:=h b f j c g;exact⟨e,hm _ _ i a,a⟩
section
variable {n:Int} {bs:List Bd} {at_:List (List Int)} {fl:List Int} {y:Int}
def Net.ends(h:Net n bs at_ fl){k:Nat}{b:Bd}(hb:bs[k]?=some b)(v:Int):0<=oth b v/\oth b v<n:=by
 have:=h.wb _ _ hb;unfold oth;split<;>omega
def zBV(h:Net n bs at_ fl){k:Nat}{b:Bd}(hb:bs[k]?=some b){v:Int}(hv:b.1=v\/b.2.1=v):w64 (w64 (b.1+b.2.1) - v)=oth b v:=by
 have a:=h.wb _ _ hb;have c:=h.n1;have e:b.1+b.2.1 - v=oth b v:=by
  unfold oth;rcases hv with rfl | rfl
  ·rw[if_pos rfl];omega
  ·rw[if_neg om];omega
 rw[zu (n:=b.1+b.2.1) om om,zu om om,e]
def zAf(h:Net n bs at_ fl){L q:List Int}(hB:BInv n bs fl y L q){k:Int}{b:Bd}{f t d:Int}(hb:bs[k.toNat]?=some b)(hf:fl[k.toNat]?=some f)(ht0:0<=t)(ht:b.1=t\/b.2.1=t)(hd:L[t.toNat]?=some d)(hd0:0<=d)(hneg:∃e,L[(oth b t).toNat]?=some e/\e<0)(hr:0<res b f (oth b t)):
  BInv n bs fl y (L.set (oth b t).toNat (d+1)) (q++[oth b t])/\(∀(v:Nat)(i:Int),L[v]?=some i->0<=i->(L.set (oth b t).toNat (d+1))[v]?=some i):=by
 obtain⟨e,u,w⟩:=hneg;have p:=h.ends hb t;have l:=zA u;have c:∀(v:Nat)(i:Int),L[v]?=some i->0<=i->(L.set (oth b t).toNat (d+1))[v]?=some i:=by
  intro v i a j;rw[zL]
  ·exact a
  ·intro F;rw[F]at u;rw[u]at a;injection a;omega
 refine⟨⟨by rw[ep];exact hB.len,c _ _ hB.goal om,?_,?_,?_,?_,?_⟩,c⟩
 ·intro v i a;by_cases g:(oth b t).toNat=v
  ·subst g;rw[zU l]at a;have:=(hB.low _ _ hd).2;injection a with a
   rw[dy];simp;omega
  ·rw[zL g]at a;have:=hB.low _ _ a;rw[dy];simp;omega
 ·intro v a;rcases fe.1 a with a | a
  ·obtain⟨B,i,r,s⟩:=hB.qlab v a;exact⟨B,i,c _ _ r s,s⟩
  ·have:v=oth b t:=by simpa using a
   subst this;exact⟨p.1,d+1,zU l,by omega⟩
 ·intro v i a j;by_cases g:(oth b t).toNat=v
  ·exact fe.2 (.inr so)
  ·rw[zL g]at a;exact fe.2 (.inl (hB.labq v i a j))
 ·have:=zmY isNeg u (by simp[isNeg,w]) (by simp[isNeg];omega:isNeg (d+1)=false);have:=hB.count;rw[dy];simp;omega
 ·intro v i a j x;by_cases g:(oth b t).toNat=v
  ·have m:(v:Int)=oth b t:=by omega
   subst g;rw[zU l]at a;injection a with a
   subst a;have J:=h.wb _ _ hb;have z:oth b (oth b t)=t:=by
    unfold oth;rcases ht with rfl | rfl
    ·rw[if_pos rfl,if_neg om]
    ·by_cases r:b.1=b.2.1
     ·omega
     ·rw[if_neg r,if_pos rfl]
   refine⟨k.toNat,b,f,hb,hf,?_,by rw[m];exact hr,?_,by omega⟩
   ·rw[m];unfold oth;split
    ·exact .inr rfl
    ·exact .inl rfl
   ·rw[m,z];rw[c _ _ hd hd0];congr 1;omega
  ·rw[zL g]at a;obtain⟨G,C,H,r,s,I,D,E,A⟩:=hB.parent v i a j x;exact⟨G,C,H,r,s,I,D,c _ _ E A,A⟩
def zwY(h:Net n bs at_ fl){t:Int}{al:List Int}(ht0:0<=t)(hal:at_[t.toNat]?=some al)(L0 q0:List Int)(hB0:BInv n bs fl y L0 q0)(htq:∃d,L0[t.toNat]?=some d/\0<=d):
  ∃L q,iter (zbS (n,bs,at_,fl) t) (L0,q0,0,fl)=some (L,q,fl)/\BInv n bs fl y L q/\(∀(v:Nat)(d:Int),L0[v]?=some d->0<=d->L[v]?=some d)/\
   (∃r,q=q0++r)/\∀k∈al,BClosed bs fl L t k:=by
 obtain⟨a9,P⟩:=h.amem _ _ hal;have a7:((t.toNat:Nat):Int)=t:=by omega
 have key:=zz (F:=zbS (n,bs,at_,fl) t) (λs=>∃L q i,s=(L,q,i,fl)/\0<=i/\i<=al.length/\BInv n bs fl y L q/\(∀(v:Nat)(d:Int),L0[v]?=some d->0<=d->L[v]?=some d)/\(∃r,q=q0++r)/\
   ∀j k,j<i.toNat->al[j]?=some k->BClosed bs fl L t k) (λs=>(al.length - s.2.2.1).toNat)
  (λx=>∃L q,x=(L,q,fl)/\BInv n bs fl y L q/\(∀(v:Nat)(d:Int),L0[v]?=some d->0<=d->L[v]?=some d)/\(∃r,q=q0++r)/\∀k∈al,BClosed bs fl L t k) ?_
  (L0,q0,0,fl) ⟨L0,q0,0,rfl,by omega,by omega,hB0,λ_ _ h _=>h,⟨[],by simp⟩,λj k R=>by simp at R⟩
 ·obtain⟨x,hx,L,q,rfl,h1,h2,h3,h4⟩:=key;exact⟨L,q,hx,h1,h2,h3,h4⟩
 ·rintro s ⟨L,q,i,rfl,a1,b0,N,m,⟨r,hr⟩,J⟩;unfold zbS;simp only[zgX ht0 hal,ic];by_cases C:i<al.length
  ·left;rw[if_pos (by simp[C])];obtain⟨k,Z,E⟩:=zR a1 C;have Y:k∈al:=fo E;obtain⟨Q,b,D,H⟩:=(P k).1 Y;rw[a7]at H;obtain⟨f,hf,a0,c4,c3,B⟩:=h.bond Q D;have U:=zBV h D H;have M:=h.ends D t;obtain⟨e,T,p⟩:=zR (l:=L) M.1 (by rw[N.len];omega);simp only[Z,a0,ic,U,zyT h Q D hf,T];have g:w64 (i+1)=i+1:=zu om om;have a:(∃X,L[(oth b t).toNat]?=some X/\(0<=X\/¬0<res b f (oth b t)))->
     (∃s',zaR t (L,q,i,fl) b b (res b f (oth b t),oth b (oth b t),(n,bs,at_,fl)) false=some (.inl s')/\
      (∃L q i,s'=(L,q,i,fl)/\0<=i/\i<=al.length/\BInv n bs fl y L q/\(∀(v:Nat)(d:Int),L0[v]?=some d->0<=d->L[v]?=some d)/\(∃r,q=q0++r)/\∀j k,j<i.toNat->al[j]?=some k->BClosed bs fl L t k)/\
      (al.length - s'.2.2.1).toNat<(al.length - i).toNat):=by
    rintro⟨X,a2,a8⟩;refine⟨_,by unfold zaR zbV;rfl,⟨L,q,i+1,by rw[g],by omega,by omega,N,m,⟨r,hr⟩,?_⟩,?_⟩
    ·intro j k2 R c;by_cases G:j<i.toNat
     ·exact J j k2 G c
     ·have:j=i.toNat:=by omega
      subst this;rw[E]at c;obtain rfl:=Option.some.inj c;intro b2 f2 z B O;rw[D]at z;obtain rfl:=Option.some.inj z;rw[hf]at B;obtain rfl:=Option.some.inj B;exact⟨X,a2,a8.resolve_right (λhn=>hn O)⟩
    ·simp only[g];omega
   by_cases A:e<0
   ·rw[if_pos (by simp[A])];by_cases u:res b f (oth b t)>0
    ·obtain⟨d,hd,V⟩:=htq;have I:=m _ _ hd V;have c5:=N.low _ _ I;have b1:(q.length:Int)<=n:=by have:=N.count;have:=h.n0;omega
     obtain⟨a4,w⟩:=zAf h N D hf ht0 H I V ⟨e,p,A⟩ u;have b4:=h.n1;refine⟨(L.set (oth b t).toNat (d+1),q++[oth b t],i+1,fl),?_,⟨_,_,i+1,rfl,by omega,by omega,a4,?_,⟨r++[oth b t],by rw[hr,bl]⟩,?_⟩,?_⟩
     ·unfold zaR zbV;rw[if_pos (by simp[u])];simp only[zgX ht0 I,ic,U,T];rw[zu om om,zai so so];simp only[ic,g]
     ·intro v d' hv S;exact w _ _ (m _ _ hv S) S
     ·intro j k2 R c;by_cases G:j<i.toNat
      ·exact(J j k2 G c).mono w
      ·have:j=i.toNat:=by omega
       subst this;rw[E]at c;obtain rfl:=Option.some.inj c;intro b2 f2 z B O;rw[D]at z;obtain rfl:=Option.some.inj z;exact⟨d+1,zU (zA p),by omega⟩
     ·simp only[];omega
    ·have:=a ⟨e,p,.inr u⟩;simpa[u]using this
   ·rw[if_neg (by simp[A])];exact a ⟨e,p,.inl om⟩
  ·right;rw[if_neg (by simp[C])];refine⟨_,rfl,L,q,rfl,N,m,⟨r,hr⟩,λk Z=>?_⟩;obtain⟨j,R,a5⟩:=List.mem_iff_getElem.1 Z;exact J j k om (by rw[cz R,a5])
def zwX(h:Net n bs at_ fl)(L0 q0:List Int)(hB0:BInv n bs fl y L0 q0):
  ∃L,iter (zbT (n,bs,at_,fl)) (L0,q0,0,fl)=some (L,fl)/\Dist n bs fl y L:=by
 have key:=zz (F:=zbT (n,bs,at_,fl)) (λs=>∃L q i,s=(L,q,i,fl)/\0<=i/\i<=q.length/\BInv n bs fl y L q/\
   ∀(j:Nat)(t:Int),j<i.toNat->q[j]?=some t->∀(k:Nat)(b:Bd),bs[k]?=some b->(b.1=t\/b.2.1=t)->BClosed bs fl L t k) (λs=>(n - s.2.2.1).toNat)
  (λx=>∃L,x=(L,fl)/\Dist n bs fl y L) ?_ (L0,q0,0,fl) ⟨L0,q0,0,rfl,by omega,by omega,hB0,λj t G=>by simp at G⟩
 ·obtain⟨x,hx,L,rfl,Y⟩:=key;exact⟨L,hx,Y⟩
 ·rintro s ⟨L,q,i,rfl,A,T,l,I⟩;have U:(q.length:Int)<=n:=by have:=l.count;have:=h.n0;omega
  have X:=h.n1;unfold zbT;by_cases m:i<q.length
  ·left;rw[if_pos (by simp[m])];obtain⟨t,V,C⟩:=zR A m;have R:t∈q:=fo C;obtain⟨J,d,hd,u⟩:=l.qlab t R;have M:t.toNat<at_.length:=by rw[h.alen,←l.len];exact zA hd
   have H:at_[t.toNat]?=some at_[t.toNat]:=cz M;obtain⟨L',q',D,N,w,⟨r,E⟩,hc⟩:=zwY h J H L q l ⟨d,hd,u⟩;simp only[V,ic,D];have a:w64 (i+1)=i+1:=zu om om;refine⟨_,rfl,⟨L',q',i+1,by rw[a],by omega,?_,N,?_⟩,?_⟩
   ·rw[E,dy];omega
   ·intro j S G g k b z c;by_cases B:j<i.toNat
    ·have:q[j]?=some S:=by
      rw[E,cq om]at g;exact g
     exact(I j S B this k b z c).mono w
    ·obtain rfl:=zxq A G B;rw[E,cq om,C]at g;obtain rfl:=Option.some.inj g;have P:((t.toNat:Nat):Int)=t:=bh J;have:=(h.amem _ _ H).2 k;exact hc k (this.2 ⟨Int.natCast_nonneg k,b,by simpa using z,by rw[P];exact c⟩)
   ·simp only[a];omega
  ·right;rw[if_neg (by simp[m])];refine⟨_,rfl,L,rfl,l.len,l.goal,?_,?_,l.parent⟩
   ·intro v d hv;have:=l.low _ _ hv;omega
   ·intro k b f t d e z Z c hd u E he;have Q:=l.labq t d hd u;obtain⟨j,G,O⟩:=List.mem_iff_getElem.1 Q;have:=I j t om (by rw[cz G,O]) k b z c b f (by simpa using z) (by simpa using Z) E;obtain⟨e',p,hp⟩:=this;rw[he]at p;injection p with p
    omega
def zwZ(h:Net n bs at_ fl):iter (zbU (n,bs,at_,fl)) ([],0)=some (List.replicate n.toNat (-1)):=by
 have key:=zz (F:=zbU (n,bs,at_,fl)) (λs=>∃i:Nat,s=(List.replicate i (-1),(i:Int))/\i<=n.toNat) (λs=>(n - s.2).toNat)
  (λx=>x=List.replicate n.toNat (-1)) ?_ ([],0) ⟨0,rfl,by omega⟩
 ·obtain⟨x,c,rfl⟩:=key;exact c
 ·rintro s ⟨i,rfl,hi⟩;have d:=h.n1;unfold zbU;by_cases a:(i:Int)<n
  ·left;rw[if_pos (by simp[a]),zai so so];refine⟨_,rfl,⟨i+1,?_,by omega⟩,?_⟩
   ·rw[zu om om,List.replicate_succ'];rfl
   ·simp only[];rw[zu om om];omega
  ·right;rw[if_neg (by simp[a])];have b:i=n.toNat:=by have:=h.n0;omega
   subst b;exact⟨_,rfl,rfl⟩
def zud(h:Net n bs at_ fl)(hy0:0<=y)(hy:y<n):∃L,zdN (n,bs,at_,fl) y=some (L,n,bs,at_,fl)/\Dist n bs fl y L:=by
 have hlen:(List.replicate n.toNat (-1:Int)).length=n.toNat:=by simp
 obtain⟨z,p,b⟩:=zR (l:=List.replicate n.toNat (-1:Int)) hy0 (by rw[hlen];omega);have g:z = -1:=by
  rw[dm]at b;split at b
  ·injection b with b;exact b.symm
  ·cases b
 have c:=zA b;have i:BInv n bs fl y ((List.replicate n.toNat (-1:Int)).set y.toNat 0) [y]:=by
  refine⟨by simp,zU c,?_,?_,?_,?_,?_⟩
  ·intro v d a;by_cases e:y.toNat=v
   ·subst e;rw[zU c]at a;injection a with a;subst a;simp
   ·rw[zL e,dm]at a;split at a
    ·injection a with a;subst a;simp
    ·cases a
  ·intro v a;have:v=y:=by simpa using a
   subst this;exact⟨hy0,0,zU c,by omega⟩
  ·intro v d a hd;by_cases e:y.toNat=v
   ·simp;omega
   ·rw[zL e,dm]at a;split at a
    ·injection a with a;omega
    ·cases a
  ·have:=zmY isNeg (y:=(0:Int)) b (by rw[g];rfl) rfl;have j:(List.replicate n.toNat (-1:Int)).countP isNeg=n.toNat:=by
    rw[List.countP_replicate];simp[isNeg]
   rw[j]at this;simp;omega
  ·intro v d a hd k;by_cases e:y.toNat=v
   ·omega
   ·rw[zL e,dm]at a;split at a
    ·injection a with a;omega
    ·cases a
 obtain⟨L,f,m⟩:=zwX h _ _ i;refine⟨L,?_,m⟩;unfold zdN zgx zgw;rw[zwZ h];simp only[ic,p,f]
end
section
variable {n:Int} {bs:List Bd} {at_:List (List Int)} {fl:List Int} {x y:Int}
def zyR(h:Net n bs at_ fl){k:Nat}{b:Bd}{f f':Int}(hb:bs[k]?=some b)(hf:fl[k]?=some f)(h1 : -b.2.2<=f')(h2:f'<=b.2.2):Net n bs at_ (fl.set k f'):=by
 refine⟨h.n0,h.n1,h.bn,h.wb,h.alen,h.amem,by rw[ep];exact h.flen,λj c g d a=>?_⟩;by_cases e:k=j
 ·subst e;rw[zU (zA hf)]at a;rw[hb]at d;obtain rfl:=Option.some.inj d;obtain rfl:=Option.some.inj a;exact⟨h1,h2⟩
 ·rw[zL e]at a;exact h.fok _ _ _ d a
def zB5(h:Net n bs at_ fl){v k:Int}{b:Bd}{f:Int}(h0:0<=k)(hb:bs[k.toNat]?=some b)(hf:fl[k.toNat]?=some f)(hv:b.1=v\/b.2.1=v)(hr:0<res b f v):
  ∃f',zg8 (n,bs,at_,fl) v k=some (n,bs,at_,fl.set k.toNat f')/\Net n bs at_ (fl.set k.toNat f')/\∀S,zdv S bs (fl.set k.toNat f')=zdv S bs fl+(ind (S v) - ind (S (oth b v))):=by
 obtain⟨d,a,hi,e,j,i⟩:=h.bond h0 hb;rw[a]at hf;obtain rfl:=Option.some.inj hf;have g:=h.wb _ _ hb;unfold zg8;simp only[hi,ic,e];unfold res at hr;by_cases c:b.1=v
 ·rw[if_pos c]at hr;simp only[c,decide_true,if_true];rw[zu om om];refine⟨d+1,rfl,zyR h hb a om om,λS=>?_⟩;rw[zuU hb a];unfold oth;rw[if_pos c,c];have:d+1 - d=1:=by omega
  rw[this,Int.one_mul]
 ·rw[if_neg c]at hr;simp only[c,decide_false,if_false,az];rw[zu om om];refine⟨d - 1,rfl,zyR h hb a om om,λS=>?_⟩;rw[zuU hb a];unfold oth;rw[if_neg c,←hv.resolve_left c];have:d - 1 - d = -1:=by omega
  rw[this];omega
def zyt(h:Net n bs at_ fl){L:List Int}{x23:(List Int)×(Int×(List Bd)×(List (List Int))×(List Int))}(hx:x23.1=L){fl0:List Int}(hD:Dist n bs fl0 y L){t d:Int}(ht0:0<=t)(hd:L[t.toNat]?=some d)(hd0:0<d)(hsame:∀(k:Nat)(b:Bd),bs[k]?=some b->(b.1=t\/b.2.1=t)->L[(oth b t).toNat]?=some (d - 1)->fl[k]?=fl0[k]?)(hty:t≠y):
  ∃nx a b f,iter (zcx (n,bs,at_,fl0) x23 (t,fl)) ((-1),0,0,fl)=some (nx,a,fl)/\0<=a/\bs[a.toNat]?=some b/\fl[a.toNat]?=some f/\
   (b.1=t\/b.2.1=t)/\0<res b f t/\nx=oth b t/\L[nx.toNat]?=some (d - 1):=by
 have p:=zA hd;have X:t.toNat<at_.length:=by rw[h.alen,←hD.len];exact p
 have w:at_[t.toNat]?=some at_[t.toNat]:=cz X;generalize at_[t.toNat]=al at w;obtain⟨a4,q⟩:=h.amem _ _ w;have I:((t.toNat:Nat):Int)=t:=bh ht0;rw[I]at q;obtain⟨v,bw,fw,J,Y,E,O,M,a8⟩:=hD.parent t.toNat d hd om (by rw[I];exact hty);rw[I]at E O M;have b8:=hD.low _ _ hd;have b0:=h.n1;let Ok:Int->Int->Prop:=λnx a=>0<=a/\∃b f,bs[a.toNat]?=some b/\fl[a.toNat]?=some f/\(b.1=t\/b.2.1=t)/\0<res b f t/\nx=oth b t/\L[nx.toNat]?=some (d - 1);have key:=zz (F:=zcx (n,bs,at_,fl0) x23 (t,fl)) (λs=>∃nx a i,s=(nx,a,i,fl)/\0<=i/\i<=al.length/\(nx<0\/0<=nx/\Ok nx a)/\(∀j:Nat,j<i.toNat->al[j]?=some (v:Int)->0<=nx))
  (λs=>(al.length - s.2.2.1).toNat) (λz=>∃nx a,z=(nx,a,fl)/\Ok nx a) ?_ ((-1),0,0,fl) ⟨-1,0,0,rfl,by omega,by omega,.inl om,λj U=>by simp at U⟩
 ·obtain⟨z,hz,nx,a,rfl,h0,b,f,h1,h2,h3,h4,h5,h6⟩:=key;exact⟨nx,a,b,f,hz,h0,h1,h2,h3,h4,h5,h6⟩
 ·rintro s ⟨nx,a,i,rfl,Q,a6,V,A⟩;unfold zcx;simp only[zgX ht0 w,ic];by_cases p:i<al.length
  ·left;rw[if_pos (by simp[p])];obtain⟨k,hk,P⟩:=zR Q p;obtain⟨H,b,G,a0⟩:=(q k).1 (fo P);obtain⟨f,S,b2,c3,c2,c1⟩:=h.bond H G;have g:=h.ends G t;obtain⟨e,a3,u⟩:=zR (l:=L) g.1 (by rw[hD.len];omega);simp only[hk,ic,zyT h H G S];have c:w64 (i+1)=i+1:=zu om om;have r:(k=v->¬(0<res b f t/\e=d - 1)  \/ 0<=nx)->∃s',zac (n,bs,at_,fl0) (t,fl) (nx,a,i,fl) al k (res b f t,oth b t,(n,bs,at_,fl)) false=some (.inl s')/\
     (∃nx a i,s'=(nx,a,i,fl)/\0<=i/\i<=al.length/\(nx<0\/0<=nx/\Ok nx a)/\(∀j:Nat,j<i.toNat->al[j]?=some (v:Int)->0<=nx))/\(al.length - s'.2.2.1).toNat<(al.length - i).toNat:=by
    intro a2;refine⟨_,by unfold zac zcz;rfl,⟨nx,a,i+1,by rw[c],by omega,by omega,V,?_⟩,by simp only[c];omega⟩;intro j U D;by_cases R:j<i.toNat
    ·exact A j R D
    ·obtain rfl:=zxq Q U R;rw[P]at D;have C:=Option.some.inj D;refine(a2 C).resolve_left (λhn=>hn ?_);subst C;simp only[bg]at G S;rw[J]at G;obtain rfl:=Option.some.inj G;have:fl[v]?=fl0[v]?:=hsame v _ J E M;rw[this,Y]at S;obtain rfl:=Option.some.inj S;rw[M]at u;exact⟨O,(Option.some.inj u).symm⟩
   by_cases m:res b f t>0
   ·rw[if_pos (by simp[m])];simp only[a3,zgX ht0 hd,hx,ic];rw[zu om om];by_cases x:e=d - 1
    ·rw[if_pos (by simp[x])];have take:∃s',zac (n,bs,at_,fl0) (t,fl) (nx,a,i,fl) al k (res b f t,oth b t,(n,bs,at_,fl)) true=some (.inl s')/\
       (∃nx a i,s'=(nx,a,i,fl)/\0<=i/\i<=al.length/\(nx<0\/0<=nx/\Ok nx a)/\(∀j:Nat,j<i.toNat->al[j]?=some (v:Int)->0<=nx))/\(al.length - s'.2.2.1).toNat<(al.length - i).toNat:=by
      refine⟨(oth b t,k,i+1,fl),?_,⟨oth b t,k,i+1,rfl,by omega,by omega,.inr ⟨g.1,H,b,f,G,S,a0,m,rfl,by rw[u,x]⟩,λ_ _ _=>g.1⟩,by simp only[];omega⟩;unfold zac zcz;simp only[if_true,zgX ht0 w,ic,hk,c]
     by_cases T:nx<0
     ·rw[if_pos (by simp[T])];exact take
     ·rw[if_neg (by simp[T])];by_cases B:oth b t<nx
      ·simp only[B,decide_true];exact take
      ·simp only[B,decide_false];exact r λ_=>.inr om
    ·rw[if_neg (by simp[x])];exact r λ_=>.inl λN=>x N.2
   ·rw[if_neg (by simp[m])];exact r λ_=>.inl λN=>m N.1
  ·right;rw[if_neg (by simp[p])];refine⟨_,rfl,nx,a,rfl,?_⟩;have Z:(v:Int)∈al:=(q v).2 ⟨Int.natCast_nonneg v,bw,by simpa using J,E⟩;obtain⟨j,U,a1⟩:=List.mem_iff_getElem.1 Z;have:=A j om (by rw[cz U,a1]);rcases V with N | N
   ·omega
   ·exact N.2
def zzW(h:Net n bs at_ fl){L:List Int}{x23:(List Int)×(Int×(List Bd)×(List (List Int))×(List Int))}(hx:x23.1=L)(hD:Dist n bs fl y L)(hx0:0<=x){d:Int}(hd:L[x.toNat]?=some d)(hd0:0<=d):
  ∃a,iter (zcy (n,bs,at_,fl) y x23) (x,fl)=some a/\Net n bs at_ a/\∀S,zdv S bs a=zdv S bs fl+(ind (S x) - ind (S y)):=by
 have key:=zz (F:=zcy (n,bs,at_,fl) y x23) (λs=>∃t g e,s=(t,g)/\0<=t/\L[t.toNat]?=some e/\0<=e/\Net n bs at_ g/\(∀S,zdv S bs g=zdv S bs fl+(ind (S x) - ind (S t)))/\
   ∀(k:Nat)(b:Bd)(I H:Int),bs[k]?=some b->L[b.1.toNat]?=some I->L[b.2.1.toNat]?=some H->I<=e->H<=e->g[k]?=fl[k]?)
  (λs=>((L[s.1.toNat]?).getD 0).toNat) (λz=>∃a,z=a/\Net n bs at_ a/\∀S,zdv S bs a=zdv S bs fl+(ind (S x) - ind (S y))) ?_
  (x,fl) ⟨x,fl,d,rfl,hx0,hd,hd0,h,λS=>by omega,λ_ _ _ _ _ _ _ _ _=>rfl⟩
 ·obtain⟨z,Y,a,ez,v,r⟩:=key;subst ez;exact⟨_,Y,v,r⟩
 ·rintro s ⟨t,g,e,rfl,E,p,J,R,C,i⟩;unfold zcy;by_cases l:t=y
  ·right;subst l;rw[if_neg si];exact⟨_,rfl,g,rfl,R,C⟩
  ·left;rw[if_pos (by simp[l])];have P:((t.toNat:Nat):Int)=t:=bh E;have Q:0<e:=by
    obtain⟨k,b,f,_,_,_,_,_,h6⟩:=hD.parent t.toNat e p J (by rw[P];exact l);omega
   have u:∀(k:Nat)(b:Bd),bs[k]?=some b->(b.1=t\/b.2.1=t)->L[(oth b t).toNat]?=some (e - 1)->g[k]?=fl[k]?:=by
    intro k b m j G;rcases j with rfl | rfl
    ·have O:oth b b.1=b.2.1:=by unfold oth;rw[if_pos rfl]
     rw[O]at G;exact i k b e (e - 1) m p G om om
    ·have Z:=h.wb _ _ m;have O:oth b b.2.1=b.1:=by unfold oth;rw[if_neg Z.2.2.2.2.1]
     rw[O]at G;exact i k b (e - 1) e m G p om om
   obtain⟨nx,w,b,f,A,N,m,hf,j,hr,B,D⟩:=zyt (fl0:=fl) (y:=y) R hx hD E p Q u l
   ·obtain⟨f',hp,M,hS⟩:=zB5 R N m hf j hr;have q:=h.ends m t;refine⟨(nx,g.set w.toNat f'),?_,⟨nx,_,e - 1,rfl,by rw[B];exact q.1,D,by omega,M,?_,?_⟩,?_⟩
    ·rw[A];simp only[ic,zhz,hp]
    ·intro S;rw[hS,C,B];omega
    ·intro k c I H T v r X V;by_cases U:w.toNat=k
     ·subst U;rw[m]at T;obtain rfl:=Option.some.inj T;rcases j with rfl | rfl
      ·rw[p]at v;injection v;omega
      ·rw[p]at r;injection r;omega
     ·rw[zL U];exact i k c I H T v r om om
    ·simp only[D,p,ie];omega
def zzX(h:Net n bs at_ fl)(hx0:0<=x)(hx:x<n)(hy0:0<=y)(hy:y<n):
  (zeH (n,bs,at_,fl) x y=some (false,n,bs,at_,fl)/\∃S:Int->Bool,S x=true/\S y=false/\zdv S bs fl=zgr S bs) \/
  ∃c,zeH (n,bs,at_,fl) x y=some (true,n,bs,at_,c)/\Net n bs at_ c/\∀S,zdv S bs c=zdv S bs fl+(ind (S x) - ind (S y)):=by
 obtain⟨L,hs,q⟩:=zud h hy0 hy;obtain⟨d,hd,B⟩:=zR (l:=L) hx0 (by rw[q.len];omega);unfold zeH;simp only[hs,ic,hd];by_cases g:d<0
 ·left;rw[if_pos (by simp[g])];refine⟨rfl,λv=>decide (∃e,L[v.toNat]?=some e/\e<0),?_,?_,?_⟩
  ·simp only[decide_eq_true_eq];exact⟨d,B,g⟩
  ·simp only[decide_eq_false_iff_not];rintro⟨e,m,t⟩;rw[q.goal]at m;injection m;omega
  ·refine ztu h.flen λk b f C D=>?_;have r:=h.wb _ _ C;have G:=h.fok _ _ _ C D;have hlen:=q.len;obtain⟨A,_,j⟩:=zR (l:=L) r.1 om;obtain⟨u,_,i⟩:=zR (l:=L) r.2.2.1 om;simp only[decide_eq_true_eq,decide_eq_false_iff_not];have E:oth b b.1=b.2.1:=by unfold oth;rw[if_pos rfl]
   have F:oth b b.2.1=b.1:=by unfold oth;rw[if_neg r.2.2.2.2.1]
   refine⟨?_,?_⟩
   ·rintro⟨e,m,t⟩ p;rw[j]at m;obtain rfl:=Option.some.inj m;have z:0<=u:=by
     rcases Int.lt_or_le u 0 with h1 | h1
     ·exact absurd ⟨u,i,h1⟩ p
     ·exact h1
    have a:((b.2.1.toNat:Nat):Int)=b.2.1:=bh r.2.2.1;have:=q.closed k b f b.2.1.toNat u A C D (.inr a.symm) i z;rw[a,F]at this;rcases Int.lt_or_le 0 (res b f b.1)with hr | hr
    ·have:=this hr j;omega
    ·unfold res at hr;rw[if_pos rfl]at hr;omega
   ·rintro p ⟨e,m,t⟩;rw[i]at m;obtain rfl:=Option.some.inj m;have s:0<=A:=by
     rcases Int.lt_or_le A 0 with h1 | h1
     ·exact absurd ⟨A,j,h1⟩ p
     ·exact h1
    have a:((b.1.toNat:Nat):Int)=b.1:=bh r.1;have:=q.closed k b f b.1.toNat A u C D (.inl a.symm) j s;rw[a,E]at this;rcases Int.lt_or_le 0 (res b f b.2.1)with hr | hr
    ·have:=this hr i;omega
    ·unfold res at hr;rw[if_neg r.2.2.2.2.1]at hr;omega
 ·right;rw[if_neg (by simp[g])];obtain⟨c,w,H,hS⟩:=zzW (x23:=(L,n,bs,at_,fl)) h rfl q hx0 B om;refine⟨c,?_,H,hS⟩;rw[w];rfl
def zm4(bs:List Bd)(x y:Int)(v:Int):Prop:=
 (∀S:Int->Bool,S x=true->S y=false->v<=zgr S bs)/\∃S:Int->Bool,S x=true/\S y=false/\v=zgr S bs
def zz3(h:Net n bs at_ fl)(hx0:0<=x)(hx:x<n)(hy0:0<=y)(hy:y<n)(hxy:x≠y)(h0:∀S,zdv S bs fl=0):
  ∃v a,iter (zfC x y (n,bs,at_,fl)) (0,fl)=some (v,a)/\Net n bs at_ a/\0<=v/\v<=100000000/\zm4 bs x y v:=by
 let S0:Int->Bool:=λv=>decide (v=x);have d:S0 x=true:=by simp[S0]
 have f:S0 y=false:=by simp[S0];omega
 have w:zgr S0 bs<=100000000:=by
  have:=zyE (S:=S0) (bs:=bs) (λb D=>by
   obtain⟨k,E,t⟩:=List.mem_iff_getElem.1 D;have:=h.wb k b (by rw[cz E,t]);omega)
  have:=h.bn;omega
 have key:=zz (F:=zfC x y (n,bs,at_,fl)) (λs=>∃v c,s=(v,c)/\0<=v/\Net n bs at_ c/\∀S:Int->Bool,S x=true->S y=false->zdv S bs c=v)
  (λs=>(zgr S0 bs - s.1).toNat) (λz=>∃v a,z=(v,a)/\Net n bs at_ a/\0<=v/\v<=100000000/\zm4 bs x y v) ?_
  (0,fl) ⟨0,fl,rfl,by omega,h,λS _ _=>h0 S⟩
 ·obtain⟨z,H,v,a,rfl,j,i,I,G⟩:=key;exact⟨v,a,H,j,i,I,G⟩
 ·rintro s ⟨v,c,rfl,u,q,g⟩;have m:∀S:Int->Bool,S x=true->S y=false->v<=zgr S bs:=λS j i=>by rw[←g S j i];exact zqd q.flen q.fok
  have C:=m S0 d f;unfold zfC;rcases zzX q hx0 hx hy0 hy with⟨r,S,l,p,hS⟩ |⟨a,r,hN',hS⟩
  ·right;rw[r];refine⟨_,rfl,v,c,rfl,q,u,by omega,m,S,l,p,?_⟩;rw[←hS,g S l p]
  ·left;rw[r];have e:∀S:Int->Bool,S x=true->S y=false->zdv S bs a=v+1:=λS j i=>by
    rw[hS,g S j i,j,i];simp[ind]
   have B:v+1<=zgr S0 bs:=by rw[←e S0 d f];exact zqd hN'.flen hN'.fok
   have A:w64 (v+1)=v+1:=zu om om;refine⟨_,rfl,⟨v+1,a,by rw[A],by omega,hN',e⟩,?_⟩;simp only[A];omega
end
def zxF:List (List Int)->List (Int×Int×Int)->Int->Option (List (List Int))
 | t,[],_=>some t
 | t,b::bs,i=>(idx t b.1).bind λx=>(app 8 x [i]).bind λy=>(idx (t.set b.1.toNat y) b.2.1).bind λz=>(app 8 z [i]).bind λw=>zxF ((t.set b.1.toNat y).set b.2.1.toNat w) bs (i+1)
def zxp(all:List (Int×Int×Int))(hlen:all.length<=100000):∀(rest:List (Int×Int×Int))(i:Nat)(t t':List (List Int)),all.drop i=rest->zxF t rest i=some t'->iter (zdc all) ((i:Int),t)=some t'
 |[],i,t,t',hd,h=>by
  have hi:all.length<=i:=by
   have:=congrArg List.length hd;simp at this;omega
  have:t'=t:=by injection h with h;exact h.symm
  subst this;refine zC ?_;unfold zdc;rw[if_neg so]
 | b::rest,i,t,t',hd,h=>by
  have hi:i<all.length:=by
   have:=congrArg List.length hd;simp at this;omega
  have g:idx all (i:Int)=some b:=by
   unfold idx;rw[if_pos om];have:all[i]?=some b:=by
    have d:(all.drop i)[0]?=some b:=by rw[hd];rfl
    rw[cw]at d;simpa using d
   simpa using this
  unfold zxF at h;obtain⟨x,j,h⟩:=ib.1 h;obtain⟨y,f,h⟩:=ib.1 h;obtain⟨z,k,h⟩:=ib.1 h;obtain⟨w,e,h⟩:=ib.1 h;have c:w64 ((i:Int)+1)=((i+1:Nat):Int):=by rw[zu om om];omega
  have a:zdc all ((i:Int),t)=some (.inl (((i+1:Nat):Int),(t.set b.1.toNat y).set b.2.1.toNat w)):=by
   unfold zdc;rw[if_pos so];simp only[g,ic,j,f,k,e,c]
  rw[zv a];refine zxp all hlen rest (i+1) _ t' ?_ (by simpa using h);have:=congrArg (List.drop 1) hd;rw[List.drop_drop]at this;simpa[Nat.add_comm]using this
def WBs(n:Int)(bs:List Bd):Prop:=∀(k:Nat)(b:Bd),bs[k]?=some b->0<=b.1/\b.1<n/\0<=b.2.1/\b.2.1<n/\b.1≠b.2.1/\0<=b.2.2/\b.2.2<=1000
def zuN{n:Int}(hn:0<=n)(all:List Bd)(hw:WBs n all)(hlen:all.length<=100000):∀(rest:List Bd)(i:Nat)(t:List (List Int)),all.drop i=rest->i+rest.length=all.length->t.length=n.toNat->
  (∀(v:Nat)(l:List Int),t[v]?=some l->l.length<=i/\∀k:Int,k∈l↔(0<=k/\k<i/\∃b:Bd,all[k.toNat]?=some b/\(b.1=v\/b.2.1=v)))->
  ∃t',zxF t rest i=some t'/\t'.length=n.toNat/\∀(v:Nat)(l:List Int),t'[v]?=some l->l.length<=100000/\∀k:Int,k∈l↔(0<=k/\∃b:Bd,all[k.toNat]?=some b/\(b.1=v\/b.2.1=v))
 |[],i,t,hd,hl,ht,hm=>by
  refine⟨t,rfl,ht,λv l d=>?_⟩;obtain⟨B,s⟩:=hm v l d;refine⟨by omega,λk=>(s k).trans ?_⟩;constructor
  ·rintro⟨y,_,h⟩;exact⟨y,h⟩
  ·rintro⟨y,b,e,h⟩;have:=zA e;simp at hl;exact⟨y,by omega,b,e,h⟩
 | b::rest,i,t,hd,hl,ht,hm=>by
  have e:all[i]?=some b:=by
   have:=congrArg (λl=>l[0]?) hd;simpa using this
  have g:=hw _ _ e;have hi:=zA e;obtain⟨x,G,m⟩:=zR (l:=t) g.1 om;obtain⟨E,r⟩:=hm _ _ m;have w:b.1.toNat≠b.2.1.toNat:=by omega
  obtain⟨z,I,j⟩:=zR (l:=t) g.2.2.1 om;obtain⟨F,p⟩:=hm _ _ j;have D:idx (t.set b.1.toNat (x++[(i:Int)])) b.2.1=some z:=zgX g.2.2.1 (by rw[zL w];exact j);unfold zxF;rw[G];simp only[ic];rw[zai so so];simp only[ic,D];rw[zai so so];simp only[ic];refine zuN hn all hw hlen rest (i+1) _ ?_ (by simp at hl;omega) (by simp[ht]) ?_
  ·rw[←List.drop_drop,hd];rfl
  ·intro v l d;by_cases s:b.2.1.toNat=v
   ·subst s;rw[zU (by rw[ep];exact zA j)]at d;obtain rfl:=Option.some.inj d;refine⟨by simp;omega,λk=>?_⟩;rw[fe];constructor
    ·rintro(h | h)
     ·obtain⟨f,q,a⟩:=(p k).1 h;exact⟨f,by omega,a⟩
     ·have:k=i:=by simpa using h
      subst this;exact⟨by omega,by omega,b,by simpa using e,.inr om⟩
    ·rintro⟨f,q,a⟩;by_cases A:k=i
     ·right;simp[A]
     ·left;exact(p k).2 ⟨f,by omega,a⟩
   ·rw[zL s]at d;by_cases B:b.1.toNat=v
    ·subst B;rw[zU (zA m)]at d;obtain rfl:=Option.some.inj d;refine⟨by simp;omega,λk=>?_⟩;rw[fe];constructor
     ·rintro(h | h)
      ·obtain⟨f,q,a⟩:=(r k).1 h;exact⟨f,by omega,a⟩
      ·have:k=i:=by simpa using h
       subst this;exact⟨by omega,by omega,b,by simpa using e,.inl om⟩
     ·rintro⟨f,q,a⟩;by_cases A:k=i
      ·right;simp[A]
      ·left;exact(r k).2 ⟨f,by omega,a⟩
    ·rw[zL B]at d;obtain⟨f,q⟩:=hm v l d;refine⟨by omega,λk=>(q k).trans ?_⟩;constructor
     ·rintro⟨a,H,C⟩;exact⟨a,by omega,C⟩
     ·rintro⟨a,H,c,u,C⟩;refine⟨a,?_,c,u,C⟩;rcases Int.lt_or_le k i with h8 | h8
      ·exact h8
      ·have:k=i:=by omega
       subst this;simp at u;rw[e]at u;obtain rfl:=Option.some.inj u;omega
section
variable {n:Int} {bs:List Bd} {x y:Int}
def zA3(hn0:0<=n)(hn1:n<=100000)(d:bs.length<=100000)(hw:WBs n bs):∃at_ fl,zne n bs=some (n,bs,at_,fl)/\Net n bs at_ fl/\∀S,zdv S bs fl=0:=by
 obtain⟨t',j,i,g⟩:=zuN hn0 bs hw d bs 0 (List.replicate n.toNat []) si om si (by
  intro v l c;rw[dm]at c;split at c
  ·injection c with c;subst c
   refine⟨by simp,λk=>?_⟩;constructor
   ·intro h;cases h
   ·rintro⟨p,m,_⟩;omega
  ·cases c)
 refine⟨t',List.replicate bs.length 0,?_,⟨hn0,hn1,d,hw,i,g,by simp,?_⟩,λS=>zvO⟩
 ·unfold zne;rw[znR hn0 om om,znR om om om];simp only[ic,bg];have e:iter (zdc bs) (0,List.replicate n.toNat [])=some t':=zxp bs d bs 0 _ t' si j;rw[e];rfl
 ·intro k b f d a;rw[dm]at a;have:=hw _ _ d;split at a
  ·injection a with a;subst a;omega
  ·cases a
def zz2(hn1:n<=100000)(hb:bs.length<=100000)(hw:WBs n bs)(hx0:0<=x)(hx:x<n)(hy0:0<=y)(hy:y<n)(hxy:x≠y):
  ∃v at_ fl,zlO n bs x y=some ((n,bs,at_,fl),v)/\Net n bs at_ fl/\0<=v/\v<=100000000/\zm4 bs x y v:=by
 obtain⟨at_,fl,b,i,g⟩:=zA3 om hn1 hb hw;obtain⟨v,d,a,c,f,e,h⟩:=zz3 i hx0 hx hy0 hy hxy g;refine⟨v,at_,d,?_,c,f,e,h⟩;unfold zlO zld;rw[b];simp only[ic];rw[a];rfl
def zzs{at_:List (List Int)}{fl:List Int}(h:Net n bs at_ fl)(hy0:0<=y)(hy:y<n):∃p,zg7 (n,bs,at_,fl) y=some (p,n,bs,at_,fl)/\p.length<=100000:=by
 obtain⟨L,hs,g⟩:=zud h hy0 hy;have f:=h.n1;have hlen:=g.len;have key:=zz (F:=zev (n,bs,at_,fl) (L,n,bs,at_,fl)) (λs=>0<=s.2/\s.2<=n/\s.1.length<=s.2.toNat) (λs=>(n - s.2).toNat) (λp=>p.length<=100000) ?_ ([],0) ⟨by omega,by omega,by simp⟩
 ·obtain⟨p,hp,e⟩:=key;refine⟨p,?_,e⟩;unfold zg7 zhy;rw[hs];simp only[ic,hp]
 ·rintro⟨p,i⟩ ⟨hi0,hi1,e⟩;simp only at hi0 hi1 e;unfold zev zew;by_cases b:i<n
  ·left;rw[if_pos (by simp[b])];obtain⟨d,hd,_⟩:=zR (l:=L) hi0 om;simp only[hd,ic];have a:w64 (i+1)=i+1:=zu om om;by_cases c:d≥0
   ·rw[if_pos (by simp[c]),zai so so];refine⟨_,rfl,⟨by simp only[a];omega,by simp only[a];omega,?_⟩,by simp only[a];omega⟩;simp only[a,dy,dz,eh];omega
   ·rw[if_neg (by simp[c])];exact⟨_,rfl,⟨by simp only[a];omega,by simp only[a];omega,by simp only[a];omega⟩,by simp only[a];omega⟩
  ·right;rw[if_neg (by simp[b])];exact⟨_,rfl,by simp only[];omega⟩
def zx2(v w:Int)(p q:List Int)(hp:p.length<=100000):∃b,zi7 v p w q=some b/\(v<w->b=true)/\(w<v->b=false):=by
 unfold zi7;by_cases f:v=w
 ·rw[if_neg (by simp[f])];by_cases j:p.length=q.length
  ·rw[if_neg (by simp[j])];have key:=zz (F:=zge p q) (λi=>0<=i/\i<=p.length) (λi=>(p.length - i).toNat) (λ_=>True) ?_ 0 ⟨by omega,by omega⟩
   ·obtain⟨z,m,_⟩:=key;rw[m];cases z with
    | inl z=>exact⟨false,rfl,by omega,by omega⟩
    | inr z=>exact⟨z,rfl,by omega,by omega⟩
   ·rintro i ⟨e,g⟩;unfold zge;by_cases c:i<p.length
    ·rw[if_pos (by simp[c])];obtain⟨a,h,_⟩:=zR (l:=p) e c;obtain⟨b,k,_⟩:=zR (l:=q) e om;simp only[h,k,ic];by_cases d:a=b
     ·left;rw[if_neg (by simp[d]),zu om om];exact⟨_,rfl,⟨by omega,by omega⟩,by omega⟩
     ·right;rw[if_pos (by simp[d])];exact⟨_,rfl,trivial⟩
    ·right;rw[if_neg (by simp[c])];exact⟨_,rfl,trivial⟩
  ·rw[if_pos so];exact⟨_,rfl,by omega,by omega⟩
 ·rw[if_pos (by simp[f])];exact⟨_,rfl,by simp,by simp;omega⟩
def Holds(n:Int)(bs:List Bd)(t:Int):Prop:=∀S:Int->Bool,S 0=true->(∃y,1<=y/\y<n/\S y=false)->t<=zgr S bs
def zv4(hn2:2<=n)(hn1:n<=100000)(hb:bs.length<=100000)(hw:WBs n bs):∃v p,zib n bs=some (v,p)/\∀t,t<=v↔Holds n bs t:=by
 have key:=zz (F:=zfj n bs)
  (λs=>1<=s.2.2/\s.2.2<=n/\s.2.1.length<=100000/\(s.2.2=1/\s.1 = -1\/1<s.2.2/\0<=s.1/\(∃y,1<=y/\y<s.2.2/\zm4 bs 0 y s.1)/\∀y,1<=y->y<s.2.2->∃v,zm4 bs 0 y v/\s.1<=v))
  (λs=>(n - s.2.2).toNat) (λz=>(∃y,1<=y/\y<n/\zm4 bs 0 y z.1)/\∀y,1<=y->y<n->∃v,zm4 bs 0 y v/\z.1<=v) ?_ ((-1),[],1) ⟨by show(1:Int)<=1;omega,by show(1:Int)<=n;omega,by simp,.inl ⟨rfl,rfl⟩⟩
 ·obtain⟨⟨v,p⟩,N,⟨y,f,k,hm⟩,w⟩:=key;refine⟨v,p,?_,λt=>⟨λht S hS0 ⟨z,c,d,hSz⟩=>?_,λP=>?_⟩⟩
  ·unfold zib ziy;rw[N];rfl
  ·obtain⟨u,H,g⟩:=w z c d;have:=H.1 S hS0 hSz;simp only at g;omega
  ·obtain⟨S,l,j,B⟩:=hm.2;have:=P S l ⟨y,f,k,j⟩;simp only at B;omega
 ·rintro⟨a,part,y⟩ ⟨f,k,hpl,hor⟩;simp only at f k hpl hor;unfold zfj;by_cases e:y<n
  ·left;rw[if_pos (by simp[e])];obtain⟨v,at_,fl,O,Q,E,M,hm⟩:=zz2 (x:=0) (y:=y) hn1 hb hw om om om e om;obtain⟨p,hp,i⟩:=zzs (y:=y) Q om e;simp only[O,hp,ic];have r:w64 (y+1)=y+1:=zu om om;have take:(s1:a<0\/v<=a)->∃s',zaM (a,part,y) ((n,bs,at_,fl),v) (p,n,bs,at_,fl) true=some (.inl s')/\
     (1<=s'.2.2/\s'.2.2<=n/\s'.2.1.length<=100000/\(s'.2.2=1/\s'.1 = -1\/1<s'.2.2/\0<=s'.1/\(∃y,1<=y/\y<s'.2.2/\zm4 bs 0 y s'.1)/\∀y,1<=y->y<s'.2.2->∃v,zm4 bs 0 y v/\s'.1<=v))/\(n - s'.2.2).toNat<(n - y).toNat:=by
    intro g;refine⟨(v,p,y+1),by unfold zaM zdb;simp[r],⟨by simp only[];omega,by simp only[];omega,i,.inr ⟨by simp only[];omega,E,⟨y,f,by simp only[];omega,hm⟩,?_⟩⟩,by simp only[];omega⟩;intro z c d;simp only at d;by_cases m:z=y
    ·subst m;exact⟨v,hm,by simp only[];omega⟩
    ·rcases hor with⟨l,j⟩ |⟨l,j,B,h4⟩
     ·omega
     ·obtain⟨u,H,L⟩:=h4 z c om;exact⟨u,H,by simp only[];omega⟩
   have A:0<=a->a<=v->∃s',zaM (a,part,y) ((n,bs,at_,fl),v) (p,n,bs,at_,fl) false=some (.inl s')/\
     (1<=s'.2.2/\s'.2.2<=n/\s'.2.1.length<=100000/\(s'.2.2=1/\s'.1 = -1\/1<s'.2.2/\0<=s'.1/\(∃y,1<=y/\y<s'.2.2/\zm4 bs 0 y s'.1)/\∀y,1<=y->y<s'.2.2->∃v,zm4 bs 0 y v/\s'.1<=v))/\(n - s'.2.2).toNat<(n - y).toNat:=by
    intro D g;rcases hor with⟨l,j⟩ |⟨l,j,⟨y',h5,h6,h7⟩,h4⟩
    ·omega
    ·refine⟨(a,part,y+1),by unfold zaM zdb;simp[r],⟨by simp only[];omega,by simp only[];omega,hpl,.inr ⟨by simp only[];omega,D,⟨y',h5,by simp only[];omega,h7⟩,?_⟩⟩,by simp only[];omega⟩;intro z c d;simp only at d;by_cases m:z=y
     ·subst m;exact⟨v,hm,g⟩
     ·exact h4 z c om
   by_cases q:a<0
   ·rw[if_pos (by simp[q])];exact take (.inl q)
   ·rw[if_neg (by simp[q])];obtain⟨b,G,J,I⟩:=zx2 v a p part i;simp only[G,ic];cases b with
    | true=>exact take (.inr (by
      rcases Int.lt_or_le a v with h | h
      ·have:=I h;cases this
      ·exact h))
    | false=>exact A om (by
      rcases Int.lt_or_le v a with h | h
      ·have:=J h;cases this
      ·exact h)
  ·right;rw[if_neg (by simp[e])];refine⟨_,rfl,?_⟩;have C:y=n:=by omega
   subst C;rcases hor with⟨l,j⟩ |⟨l,j,B,h4⟩
   ·omega
   ·exact⟨B,h4⟩
end
def zc7:Nat->(Nat->Int)->Int
 | 0,_=>0
 | n+1,f=>zc7 n f+f n
def zc6{f g:Nat->Int}:∀{n:Nat},(∀i,i<n->f i=g i)->zc7 n f=zc7 n g
 | 0,_=>rfl
 | n+1,h=>by
  unfold zc7;rw[zc6 (n:=n) λi hi=>h i om,h n om]
def zrB(f g:Nat->Int):∀(n:Nat),zc7 n (λi=>f i+g i)=zc7 n f+zc7 n g
 | 0=>rfl
 | n+1=>by
  unfold zc7;rw[zrB f g n];simp only[Int.add_assoc,Int.add_left_comm,Int.add_comm]
def zqk:∀(n:Nat),zc7 n (λ_=>0)=0
 | 0=>rfl
 | n+1=>by unfold zc7;rw[zqk n];rfl
def zub(f:Nat->Int):∀(n:Nat),zc7 n (λi => - f i) = - zc7 n f
 | 0=>rfl
 | n+1=>by unfold zc7;rw[zub f n];show - zc7 n f + - f n = - (zc7 n f+f n);omega
def zwb{f g:Nat->Int}:∀{n:Nat},(∀i,i<n->f i<=g i)->zc7 n f<=zc7 n g
 | 0,_=>Int.le_refl _
 | n+1,h=>by
  unfold zc7;have a:=zwb (n:=n) λi hi=>h i om;have b:=h n om;omega
def zvx(f:Nat->Nat->Int)(m:Nat):∀(n:Nat),zc7 n (λi=>zc7 m (λj=>f i j))=zc7 m (λj=>zc7 n (λi=>f i j))
 | 0=>by
  show(0:Int)=zc7 m (λ_=>0);rw[zqk]
 | n+1=>by
  show zc7 n (λi=>zc7 m (λj=>f i j))+zc7 m (λj=>f n j)=zc7 m (λj=>zc7 n (λi=>f i j)+f n j);rw[zvx f m n,zrB]
def zua{f g:Nat->Int}{a:Nat}{d:Int}:∀{n:Nat},a<n->(∀i,i<n->i≠a->g i=f i)->g a=f a+d->zc7 n g=zc7 n f+d
 | 0,h,_,_=>by omega
 | n+1,h,he,ha=>by
  unfold zc7;by_cases b:a=n
  ·subst b;rw[zc6 (f:=g) (g:=f) λi hi=>he i om om,ha];omega
  ·rw[zua (n:=n) om (λi hi=>he i om) ha,he n om om];omega
def mid(n:Nat)(S:Int->Bool)(F:Nat->Nat->Int):Int:=zc7 n λu=>zc7 n λv=>ind (S u)*F u v
def znS(n:Nat)(S:Int->Bool)(R:Nat->Nat->Int):Int:=zc7 n λu=>zc7 n λv=>ind (S u)*(1 - ind (S v))*R u v
def zvL{n:Nat}{S:Int->Bool}{F:Nat->Nat->Int}(ha:∀u v,u<n->v<n->F u v = - F v u):mid n S F=znS n S F:=by
 obtain⟨T,a⟩:∃T,T=zc7 n λu=>zc7 n λv=>ind (S u)*ind (S v)*F u v:=⟨_,rfl⟩;have e:mid n S F=znS n S F+T:=by
  unfold mid znS;rw[a,←zrB];refine zc6 λu c=>?_;rw[←zrB];refine zc6 λv b=>?_;rw[Int.mul_sub,Int.sub_mul,Int.mul_one];omega
 have d:T = - T:=by
  calc T=zc7 n λv=>zc7 n λu=>ind (S u)*ind (S v)*F u v:=by rw[a,zvx]
   _=zc7 n λv => - zc7 n λu=>ind (S v)*ind (S u)*F v u:=by
     refine zc6 λv b=>?_;rw[←zub];refine zc6 λu c=>?_;rw[ha u v c b,Int.mul_neg,Int.mul_comm (ind (S u))]
   _ = - T:=by rw[zub,←a]
 omega
def zCj{n:Nat}{S:Int->Bool}{F R:Nat->Nat->Int}(h:∀u v,u<n->v<n->F u v<=R u v):znS n S F<=znS n S R:=by
 refine zwb λu b=>zwb λv a=>?_;have:=h u v b a;unfold ind;split<;>split<;>omega
def zCk{n:Nat}{S:Int->Bool}{F R:Nat->Nat->Int}(h:∀u v:Nat,u<n->v<n->S u=true->S v=false->F u v=R u v):znS n S F=znS n S R:=by
 refine zc6 λu b=>zc6 λv a=>?_;have:=h u v b a;unfold ind;cases hS:S u<;>cases hV:S v<;>simp[hS,hV]at this ⊢;exact this
def zst{n:Nat}{c:Nat->Nat->Int}{F G:Nat->Nat->Int}{a b:Nat}{d:Int}(ha:a<n)(hb:b<n)(he:∀u v,u<n->v<n->(u≠a\/v≠b)->G u v=F u v)(h:G a b=F a b+d):
  (zc7 n λu=>zc7 n λv=>c u v*G u v)=(zc7 n λu=>zc7 n λv=>c u v*F u v)+c a b*d:=by
 refine zua ha (λu g e=>zc6 λv f=>by rw[he u v g f (.inl e)]) ?_;refine zua hb (λv f e=>by rw[he a v ha f (.inr e)]) ?_;rw[h,Int.mul_add]
def ent(F:List (List Int))(u v:Nat):Int:=((F[u]?.getD [])[v]?).getD 0
structure Sq(n:Nat)(F:List (List Int)):Prop where
 len:F.length=n
 row:∀(u:Nat)(r:List Int),F[u]?=some r->r.length=n
section
variable {n:Nat} {F:List (List Int)}
def Sq.get(h:Sq n F){u v:Nat}(hu:u<n)(hv:v<n):∃r,F[u]?=some r/\r.length=n/\r[v]?=some (ent F u v):=by
 have b:u<F.length:=by rw[h.len];exact hu
 have a:F[u]?=some F[u]:=cz b;have c:=h.row u _ a;refine⟨F[u],a,c,?_⟩;unfold ent;rw[a];simp only[ie];rw[cz om];rfl
def Sq.idx(h:Sq n F){u v:Int}(hu0:0<=u)(hu:u<n)(hv0:0<=v)(hv:v<n):∃r,idx F u=some r/\r.length=n/\F[u.toNat]?=some r/\Lf.idx r v=some (ent F u.toNat v.toNat):=by
 obtain⟨r,a,b,c⟩:=h.get (u:=u.toNat) (v:=v.toNat) om om;exact⟨r,zgX hu0 a,b,a,zgX hv0 c⟩
def Sq.set(h:Sq n F){u v:Nat}{r:List Int}{e:Int}(hr:F[u]?=some r)(hv:v<n):Sq n (F.set u (r.set v e))/\∀i j,ent (F.set u (r.set v e)) i j=if i=u/\j=v then e else ent F i j:=by
 have d:=zA hr;have c:=h.row u r hr;refine⟨⟨by rw[ep];exact h.len,λi x a=>?_⟩,λi j=>?_⟩
 ·by_cases hi:u=i
  ·subst hi;rw[zU d]at a;injection a with a
   rw[←a,ep];exact c
  ·rw[zL hi]at a;exact h.row i x a
 ·unfold ent;by_cases hi:u=i
  ·subst hi;rw[zU d,hr];simp only[ie,true_and];by_cases b:v=j
   ·subst b;rw[zU om,if_pos rfl];rfl
   ·rw[zL b,if_neg (λe=>b e.symm)]
  ·rw[zL hi,if_neg (λe=>hi e.1.symm)]
end
def zt3{n:Int}(h0:0<=n)(h1:n<=100000):mkl 8 n (0:Int)=some (List.replicate n.toNat 0):=znR h0 om om
def zBY(n:Nat):Sq n (List.replicate n (List.replicate n 0))/\∀u v,ent (List.replicate n (List.replicate n 0)) u v=0:=by
 refine⟨⟨by simp,λu r b=>?_⟩,λu v=>?_⟩
 ·have:=dm (a:=List.replicate n (0:Int)) (n:=n) (i:=u);rw[this]at b;split at b
  ·injection b with b;rw[←b];simp
  ·cases b
 ·unfold ent;rw[dm];split
  ·simp only[ie];rw[dm];split<;>rfl
  ·simp
section
variable {n:Int} {bs:List Bd}
def zuy(h0:0<=n)(h1:n<=1000):iter (zeh n) (0,[],[])=some (List.replicate n.toNat (List.replicate n.toNat 0),List.replicate n.toNat (List.replicate n.toNat 0)):=by
 have key:=zz (F:=zeh n)
  (λs=>0<=s.1/\s.1<=n/\s.2.1=List.replicate s.1.toNat (List.replicate n.toNat 0)/\s.2.2=List.replicate s.1.toNat (List.replicate n.toNat 0)) (λs=>(n - s.1).toNat)
  (λz=>z=(List.replicate n.toNat (List.replicate n.toNat 0),List.replicate n.toNat (List.replicate n.toNat 0))) ?_ (0,[],[]) ⟨by simp,h0,by simp,by simp⟩
 ·obtain⟨z,e,rfl⟩:=key;exact e
 ·rintro⟨i,A,B⟩ ⟨hi0,hi1,hA,hB⟩;simp only at hi0 hi1 hA hB;unfold zeh;by_cases b:i<n
  ·left;have c:∀X,X=List.replicate i.toNat (List.replicate n.toNat (0:Int))->app 24 X [List.replicate n.toNat 0]=some (List.replicate (i+1).toNat (List.replicate n.toNat 0)):=by
    intro X d;have hlen:X.length=i.toNat:=by rw[d];simp
    rw[zai (by rw[hlen];simp;omega) (by rw[hlen];simp;omega),d];have:(i+1).toNat=i.toNat+1:=by omega
    rw[this,List.replicate_succ']
   simp only[b,decide_true,if_true,zt3 h0 om,ic,c A hA,c B hB];have a:w64 (i+1)=i+1:=zu om om;exact⟨_,rfl,⟨by simp only[a];omega,by simp only[a];omega,by simp only[a],by simp only[a]⟩,by simp only[a];omega⟩
  ·right;simp only[b,decide_false];have:i=n:=by omega
   subst this;exact⟨_,rfl,by rw[hA,hB]⟩
def zzL{m:Nat}{S:Int->Bool}{R R1 R2:Nat->Nat->Int}{a b:Nat}{d:Int}(ha:a<m)(hb:b<m)(hab:a≠b)(h1:∀u v,R1 u v=if u=a/\v=b then R a b+d else R u v)(h2:∀u v,R2 u v=if u=b/\v=a then R1 b a+d else R1 u v):
  znS m S R2=znS m S R+(if S a=S b then 0 else d):=by
 unfold znS;rw[zst (c:=λu v=>ind (S u)*(1 - ind (S v))) (F:=R1) (G:=R2) hb ha (d:=d) (λu v _ _ e=>by rw[h2,if_neg om]) (by rw[h2,if_pos ⟨rfl,rfl⟩]),
  zst (c:=λu v=>ind (S u)*(1 - ind (S v))) (F:=R) (G:=R1) ha hb (d:=d) (λu v _ _ e=>by rw[h1,if_neg om]) (by rw[h1,if_pos ⟨rfl,rfl⟩])]
 unfold ind;cases S a<;>cases S b<;>simp
def ztH(h0:0<=n)(h1:n<=1000)(hb:bs.length<=100000)(hw:WBs n bs)(A:List (List Int))(hA:Sq n.toNat A)(hA0:∀u v,ent A u v=0):
  ∃R,iter (zeg bs) (0,A)=some R/\Sq n.toNat R/\(∀u v,0<=ent R u v/\ent R u v<=2000*bs.length)/\∀S,znS n.toNat S (ent R)=zgr S bs:=by
 have key:=zz (F:=zeg bs)
  (λs=>0<=s.1/\s.1<=bs.length/\Sq n.toNat s.2/\(∀u v,0<=ent s.2 u v/\ent s.2 u v<=2000*s.1)/\∀S,znS n.toNat S (ent s.2)=zgr S (bs.take s.1.toNat)) (λs=>(bs.length - s.1).toNat)
  (λR=>Sq n.toNat R/\(∀u v,0<=ent R u v/\ent R u v<=2000*bs.length)/\∀S,znS n.toNat S (ent R)=zgr S bs) ?_ (0,A) ⟨by simp,by simp,hA,λu v=>by rw[hA0];simp,λS=>?_⟩
 ·exact key
 ·rintro⟨i,A⟩ ⟨hi0,hi1,hA,hbd,hc⟩;simp only at hi0 hi1 hA hbd hc;unfold zeg;by_cases h:i<bs.length
  ·left;obtain⟨⟨x,y,s⟩,B,t⟩:=zR (l:=bs) hi0 h;obtain⟨C,w2,D,O,U,Q,T⟩:=hw _ _ t;simp only at C w2 D O U Q T;obtain⟨r,Y,g2,g3,X⟩:=hA.idx (u:=x) (v:=y) C om D om;obtain⟨q,p⟩:=hA.set (e:=ent A x.toNat y.toNat+s) g3 (v:=y.toNat) om;obtain⟨P,k1,k2,k3,N⟩:=q.idx (u:=y) (v:=x) D om C om;have a2:=hbd x.toNat y.toNat;have w:ent (A.set x.toNat (r.set y.toNat (ent A x.toNat y.toNat+s))) y.toNat x.toNat=ent A y.toNat x.toNat:=by rw[p,if_neg om]
   have a0:=hbd y.toNat x.toNat;rw[w]at N;obtain⟨J,z⟩:=q.set (e:=ent A y.toNat x.toNat+s) k3 (v:=x.toNat) om;have L:w64 (ent A x.toNat y.toNat+s)=ent A x.toNat y.toNat+s:=zu om om;have I:w64 (ent A y.toNat x.toNat+s)=ent A y.toNat x.toNat+s:=zu om om;have G:w64 (i+1)=i+1:=zu om om;simp only[h,decide_true,if_true,B,ic,Y,X,L,k1,N,I,G];refine⟨_,rfl,⟨by simp only[];omega,by simp only[];omega,J,λu v=>?_,λS=>?_⟩,by simp only[];omega⟩
   ·simp only;rw[z];split
    ·omega
    ·rw[p];split
     ·omega
     ·have:=hbd u v;omega
   ·simp only;have H:(i+1).toNat=i.toNat+1:=by omega
    have E:bs.take (i+1).toNat=bs.take i.toNat++[(x,y,s)]:=by
     rw[H,gc,t];rfl
    rw[E];have j:∀(l:List Bd)(b:Bd),zgr S (l++[b])=zgr S l+(if S b.1=S b.2.1 then 0 else b.2.2):=by
     intro l b
     induction l with
     | nil=>simp[zgr]
     | cons c l ih=>simp only[List.cons_append,zgr,ih];omega
    rw[j,←hc S];have hx:((x.toNat:Nat):Int)=x:=by omega
    have Z:((y.toNat:Nat):Int)=y:=by omega
    have:=zzL (m:=n.toNat) (S:=S) (R:=ent A) (R1:=ent (A.set x.toNat (r.set y.toNat (ent A x.toNat y.toNat+s)))) (a:=x.toNat) (b:=y.toNat) (d:=s) om om om p (R2:=ent ((A.set x.toNat (r.set y.toNat (ent A x.toNat y.toNat+s))).set y.toNat (P.set x.toNat (ent A y.toNat x.toNat+s)))) (by intro u v;rw[z,w]);rw[hx,Z]at this;exact this
  ·right;simp only[h,decide_false];have:i=bs.length:=by omega
   refine⟨_,rfl,hA,λu v=>by rw[←this];exact hbd u v,λS=>?_⟩;rw[hc S,this];simp
 ·simp only[zgr,List.take_zero,Int.toNat_zero];unfold znS;have M:∀(k:Nat)(f:Nat->Int),(∀i,f i=0)->zc7 k f=0:=λk f V=>by
   rw[zc6 (g:=λ_=>0) λi _=>V i,zqk]
  refine M _ _ λu=>M _ _ λv=>by rw[hA0];simp
def zux(h0:0<=n)(h1:n<=1000)(hb:bs.length<=100000)(hw:WBs n bs):
  ∃R F,zjN n bs=some (R,F)/\Sq n.toNat R/\Sq n.toNat F/\(∀u v,ent F u v=0)/\(∀u v,0<=ent R u v/\ent R u v<=2000*bs.length)/\∀S,znS n.toNat S (ent R)=zgr S bs:=by
 obtain⟨b,a⟩:=zBY n.toNat;obtain⟨R,e,c,f,d⟩:=ztH h0 h1 hb hw _ b a;refine⟨R,_,?_,c,b,a,f,d⟩;unfold zjN zjM zjL;rw[zuy h0 h1];simp only[ic];rw[e];rfl
end
def Inj{α:Type}(Q:List α):Prop:=∀(i j:Nat)(x:α),Q[i]?=some x->Q[j]?=some x->i=j
def Inj.snoc{α:Type}{Q:List α}{x:α}(h:Inj Q)(hx:x∉Q):Inj (Q++[x]):=by
 intro i j y hi l;have key:∀k:Nat,(Q++[x])[k]?=some y->(k<Q.length/\Q[k]?=some y)\/(k=Q.length/\y=x):=by
  intro k e;by_cases f:k<Q.length
  ·rw[cq f]at e;exact .inl ⟨f,e⟩
  ·rw[cv om]at e;have g:=zA e;simp at g;have:k=Q.length:=by omega
   subst this;simp at e;exact .inr ⟨rfl,e.symm⟩
 rcases key i hi with⟨a,b⟩ |⟨a,b⟩<;>rcases key j l with⟨c,d⟩ |⟨c,d⟩
 ·exact h i j y b d
 ·exact absurd (d▸fo b:x∈Q) hx
 ·exact absurd (b▸fo d:x∈Q) hx
 ·omega
def zzc{α:Type}{l l2:List α}{lo:Nat}(h:lo<=l.length)(j:Nat):(cpy l lo l2)[j]?=if j<lo then l[j]? else if j - lo<min l2.length (l.length - lo)then l2[j - lo]? else l[j]?:=by
 unfold cpy;have a:(l.take lo).length=lo:=by rw[ey];omega
 have b:(l2.take (l.length - lo)).length=min l2.length (l.length - lo):=by rw[ey];omega
 split
 ·rename_i hj;rw[cq (by rw[dy,a];omega),cq om,dv,if_pos hj]
 ·split
  ·rename_i hj hk;rw[cq (by rw[dy,a,b];omega),cv om,a,dv,if_pos om]
  ·rename_i hj hk;rw[cv (by rw[dy,a,b];omega),dy,a,b,cw];congr 1;omega
def zxh{n:Int}(i:1<=n)(b:n<=100000):zgi [(-1)] n=some (List.replicate n.toNat (-1)):=by
 unfold zgi;rw[if_neg so];have e:IntKind.wrap .u64 (([(-1:Int)].length:Nat):Int)=1:=by decide
 have q:IntKind.wrap .u64 n=n:=by
  have:∀m:Int,0<=m->m<18446744073709551616->IntKind.wrap .u64 m=m:=by
   intro m i b;show m % 18446744073709551616=m;omega
  exact this n om om
 rw[e,q];have f:zh3 1 n=some (0,n):=by
  unfold zh3;rw[if_pos om];simp;omega
 rw[f];simp only[ic];rw[if_neg si];unfold zd1;have hd:decide (n>9223372036854775807)=false:=by simp;omega
 rw[hd];simp only[zu (n:=n) om om,zt3 (n:=n) om b,ic];have key:=zz (F:=zd0) (λs=>s.1.length=n.toNat/\1<=s.2/\s.2<=n/\∀j:Nat,j<s.2.toNat->s.1[j]?=some (-1)) (λs=>(n - s.2).toNat) (λz=>z=List.replicate n.toNat (-1)) ?_
  (cpy (List.replicate n.toNat 0) 0 [-1],((min [(-1:Int)].length (List.replicate n.toNat (0:Int)).length:Nat):Int)) ?_
 ·obtain⟨z,r,rfl⟩:=key;rw[r];rfl
 ·rintro⟨l,k⟩ ⟨hl,hk0,hk1,hall⟩;simp only at hl hk0 hk1 hall;unfold zd0;by_cases a:k<(l.length:Int)
  ·left;have p:zlK l k l.length=some ((l.take (l.length:Int).toNat).drop k.toNat):=by unfold zlK;rw[if_pos ⟨by omega,by omega,by omega⟩]
   have g:zlK l 0 k=some ((l.take k.toNat).drop (0:Int).toNat):=by unfold zlK;rw[if_pos ⟨by omega,by omega,by omega⟩]
   simp only[a,decide_true,if_true,p,g,ic];have hlen:((l.take k.toNat).drop (0:Int).toNat).length=k.toNat:=by
    rw[ec,ey];simp;omega
   rw[hlen];have d:w64 (k+((min k.toNat (l.length - k.toNat):Nat):Int))=k+((min k.toNat (l.length - k.toNat):Nat):Int):=zu om om;rw[d];refine⟨_,rfl,⟨?_,by simp only[];omega,by simp only[];omega,?_⟩,by simp only[];omega⟩
   ·simp only;rw[zwJ om];exact hl
   ·intro j c;simp only at c ⊢;rw[zzc om];split
    ·rename_i h;exact hall j h
    ·split
     ·rename_i b h2;rw[cw,dv];simp only[Int.toNat_zero,ia];rw[if_pos om];exact hall _ om
     ·rename_i b h2;rw[hlen]at h2;omega
  ·right;simp only[a,decide_false];refine⟨_,rfl,?_⟩;apply ca;intro j;rw[dm];split
   ·exact hall j om
   ·exact df om
 ·have hm:((min [(-1:Int)].length (List.replicate n.toNat (0:Int)).length:Nat):Int)=1:=by simp;omega
  refine⟨by simp only[];rw[zwJ si];simp,by simp only[hm];omega,by simp only[hm];omega,λj c=>?_⟩;simp only[hm]at c;have:j=0:=by omega
  subst this;simp only;rw[zzc si,if_neg om,if_pos so];rfl
def Fr(R F:List (List Int))(u v:Int):Prop:=ent F u.toNat v.toNat<ent R u.toNat v.toNat
section
variable {n:Nat} {R F:List (List Int)}
def zCq(hR:Sq n R)(hF:Sq n F){u v:Int}(hu0:0<=u)(hu:u<n)(hv0:0<=v)(hv:v<n):∃b,zgo (R,F) u v=some b/\(b=true↔Fr R F u v):=by
 obtain⟨r,c,e,g,a⟩:=hR.idx hu0 hu hv0 hv;obtain⟨f,k1,k2,k3,d⟩:=hF.idx hu0 hu hv0 hv;unfold zgo;simp only[c,a,k1,d,ic];exact⟨_,rfl,by unfold Fr;simp⟩
structure WInv(n:Nat)(R F:List (List Int))(a:Int)(par Q:List Int)(k:Nat):Prop where
 len:par.length=n
 inj:Inj Q
 hd:Q[0]?=some a
 kle:k<=Q.length
 rng:∀x∈Q,0<=x/\x<n
 neg:Q.length+par.countP isNeg=n
 mem:∀(v:Nat)(p:Int),par[v]?=some p->((v:Int)∈Q↔0<=p)
 src:∀(i:Nat)(x:Int),Q[i]?=some x->i≠0->∃(j:Nat)(p:Int),j<i/\Q[j]?=some p/\par[x.toNat]?=some p/\Fr R F p x
 cls:∀(j:Nat)(u:Int),j<k->Q[j]?=some u->∀v:Nat,v<n->Fr R F u v->(v:Int)∈Q
variable {a b:Int} {par Q:List Int} {k:Nat}
def zzh(hn:n<=1000)(hR:Sq n R)(hF:Sq n F)(h:WInv n R F a par Q k){u:Int}(hu:Q[k]?=some u)(rest:List Int):
  ∃par' J,iter (zcG (R,F) (u,rest)) (par,0,Q.drop (k+1))=some (par',J)/\∃Q',WInv n R F a par' Q' (k+1)/\J=Q'.drop (k+1):=by
 have t:=h.rng u (fo hu);have key:=zz (F:=zcG (R,F) (u,rest))
  (λs=>0<=s.2.1/\s.2.1<=n/\∃Q',WInv n R F a s.1 Q' k/\s.2.2=Q'.drop (k+1)/\Q'[k]?=some u/\∀v:Nat,(v:Int)<s.2.1->Fr R F u v->(v:Int)∈Q')
  (λs=>(n - s.2.1).toNat) (λz=>∃Q',WInv n R F a z.1 Q' (k+1)/\z.2=Q'.drop (k+1)) ?_ (par,0,Q.drop (k+1)) ⟨by simp,by simp,Q,h,rfl,hu,λv hv=>by simp only at hv;omega⟩
 ·obtain⟨⟨H,J⟩,hz,L⟩:=key;exact⟨H,J,hz,L⟩
 ·rintro⟨par,v,q⟩ ⟨hv0,hv1,Q,hW,hq,hk,hcl⟩;simp only at hv0 hv1 hW hq hcl;unfold zcG;simp only[hR.len];by_cases r:v<n
  ·left;rw[if_pos (by simp[r])];obtain⟨p,hp,C⟩:=zR (l:=par) hv0 (by rw[hW.len];omega);have g:=hW.mem v.toNat p C;have E:((v.toNat:Nat):Int)=v:=by omega
   rw[E]at g;have Y:w64 (v+1)=v+1:=zu om om;simp only[hp,ic];have A:(Fr R F u v->v∈Q)->∃s',zbi (R,F) (u,rest) (par,v,q) false=some (.inl s')/\(0<=s'.2.1/\s'.2.1<=n/\∃Q',WInv n R F a s'.1 Q' k/\s'.2.2=Q'.drop (k+1)/\Q'[k]?=some u/\∀v:Nat,(v:Int)<s'.2.1->Fr R F u v->(v:Int)∈Q')/\(n - s'.2.1).toNat<(n - v).toNat:=by
    intro P;unfold zbi zcI;simp only[Y];refine⟨_,rfl,⟨by simp only[];omega,by simp only[];omega,Q,hW,hq,hk,λx c f=>?_⟩,by simp only[];omega⟩;simp only at c;by_cases d:(x:Int)=v
    ·rw[d]at f ⊢;exact P f
    ·exact hcl x om f
   by_cases m:p<0
   ·rw[if_pos (by simp[m])];obtain⟨b,hb,D⟩:=zCq hR hF t.1 t.2 hv0 r;simp only[hb,ic];cases b with
    | false=>exact A λP=>absurd (D.2 P) si
    | true=>
     have f:Fr R F u v:=D.1 rfl;have I:v∉Q:=λhm=>by have:=g.1 hm;omega
     have hc:(par.set v.toNat u).countP isNeg+1=par.countP isNeg:=zmY isNeg C (by simp[isNeg,m]) (by simp[isNeg];exact t.1);have M:=hW.neg;have B:k<Q.length:=zA hk;have X:q.length<n:=by rw[hq,ec];omega
     unfold zbi zcI;simp only[if_true,hp,ic,hR.len];have hs:ztv ((n:Int).toNat) q v=some (q++[v]):=by unfold ztv;rw[if_pos (by simpa using X)]
     simp only[hs,ic,Y];have G:v.toNat<par.length:=zA C;refine⟨_,rfl,⟨by simp only[];omega,by simp only[];omega,Q++[v],?_,?_,?_,?_⟩,by simp only[];omega⟩
     ·refine⟨by simp only[ep];exact hW.len,hW.inj.snoc I,?_,by rw[dy];exact Nat.le_add_right_of_le hW.kle,?_,?_,?_,?_,?_⟩
      ·have h0:=zA hW.hd;rw[cq h0];exact hW.hd
      ·intro x c;rcases fe.1 c with c | c
       ·exact hW.rng x c
       ·rw[fq.1 c];exact⟨hv0,r⟩
      ·simp only[dy,dz,eh];omega
      ·intro x H c;simp only at c;by_cases d:x=v.toNat
       ·subst d;rw[zU G]at c;injection c with c
        subst c;rw[E];simp[t.1]
       ·rw[zL (λe=>d e.symm)]at c;rw[←hW.mem x H c,fe,fq];exact⟨λe=>e.resolve_right om,.inl⟩
      ·intro i x hi O;by_cases U:i<Q.length
       ·rw[cq U]at hi;obtain⟨j,H,h1,L,h3,h4⟩:=hW.src i x hi O;refine⟨j,H,h1,by rw[cq om];exact L,?_,h4⟩;simp only;rw[zL]
        ·exact h3
        ·intro e;have a2:=hW.rng x (fo hi);have d:x=v:=by omega
         exact I (d▸fo hi)
       ·rw[cv om]at hi;have:=zA hi;simp at this;have T:i - Q.length=0:=by omega
        rw[T]at hi;simp at hi;subst hi;exact⟨k,u,by omega,by rw[cq B];exact hk,by simp only[];rw[zU G],f⟩
      ·intro j x Z c y S w;rw[cq om]at c;exact fg _ (hW.cls j x Z c y S w)
     ·simp only;rw[List.drop_append_of_le_length om,hq]
     ·rw[cq B];exact hk
     ·intro x c V;simp only at c;by_cases d:(x:Int)=v
      ·rw[d];simp
      ·exact fg _ (hcl x om V)
   ·rw[if_neg (by simp[m])];exact A λ_=>g.2 om
  ·right;rw[if_neg (by simp[r])];have B:k<Q.length:=zA hk;refine⟨_,rfl,Q,⟨hW.len,hW.inj,hW.hd,by omega,hW.rng,hW.neg,hW.mem,hW.src,λj x Z c y S w=>?_⟩,hq⟩;by_cases N:j=k
   ·subst N;rw[hk]at c;injection c with c
    subst c;exact hcl y om w
   ·exact hW.cls j x om c y S w
def zzg(hn:n<=1000)(hR:Sq n R)(hF:Sq n F)(h:WInv n R F a par Q 0):
  ∃b,iter (zcH (R,F)) (par,Q)=some b/\∃Q',WInv n R F a b Q' Q'.length:=by
 have key:=zz (F:=zcH (R,F))
  (λs=>∃Q' k,WInv n R F a s.1 Q' k/\s.2=Q'.drop k)
  (λs=>s.2.length+s.1.countP isNeg) (λz=>∃Q',WInv n R F a z Q' Q'.length) ?_ (par,Q) ⟨Q,0,h,rfl⟩
 ·exact key
 ·rintro⟨par,q⟩ ⟨Q,k,hW,hq⟩;simp only at hW hq;unfold zcH;have j:=hW.neg;have l:=hW.kle;have i:q.length=Q.length - k:=by rw[hq,ec]
  have t:zAc q=some (q.length:Int):=by unfold zAc;rw[if_pos om]
  simp only[t,ic];by_cases c:k<Q.length
  ·left;rw[if_pos so];obtain⟨u,e⟩:∃u,Q[k]?=some u:=⟨_,cz c⟩;have hd:Q.drop k=u::Q.drop (k+1):=by
    rw[br c];rw[cz c]at e;injection e with e
    rw[e]
   have p:=hW.rng u (fo e);have m:zzb q=some (u,Q.drop (k+1)):=by
    rw[hq,hd];show(if -9223372036854775808<=u/\u<=9223372036854775807 then some (u,Q.drop (k+1))else none)=_;rw[if_pos ⟨by omega,by omega⟩]
   obtain⟨b,r,g,Q',d,f⟩:=zzh hn hR hF hW e (Q.drop (k+1));simp only[m,ic,g];unfold zhQ;refine⟨_,rfl,⟨Q',k+1,d,f⟩,?_⟩;have w:=d.neg;have v:=d.kle;show r.length+b.countP isNeg<q.length+par.countP isNeg;rw[f,i,ec];omega
  ·right;rw[if_neg (by simp only[decide_eq_true_eq];omega)];refine⟨_,rfl,Q,?_⟩;have:k=Q.length:=by omega
   rw[←this];exact hW
structure Way(n:Nat)(R F:List (List Int))(a b:Int)(w:List Int):Prop where
 pos:1<=w.length
 hd:w[0]?=some a
 lst:w[w.length - 1]?=some b
 inj:Inj w
 rng:∀x∈w,0<=x/\x<n
 most:w.length<=n
 edge:∀(i:Nat)(x y:Int),w[i]?=some x->w[i+1]?=some y->Fr R F x y
def zAm(hn:n<=1000)(h:WInv n R F a par Q k):∀(p:Nat)(x:Int)(out:List Int),Q[p]?=some x->1<=out.length->out[0]?=some b->out[out.length - 1]?=some x->Inj out->
  (∀y∈out,∃j,p<=j/\Q[j]?=some y)->out.length+p<=Q.length->(∀(i:Nat)(x y:Int),out[i]?=some x->out[i+1]?=some y->Fr R F y x)->
  ∃w,iter (zbh a par) (out,x)=some w/\1<=w.length/\w[0]?=some b/\w[w.length - 1]?=some a/\Inj w/\(∀x∈w,0<=x/\x<n)/\w.length<=n/\∀(i:Nat)(x y:Int),w[i]?=some x->w[i+1]?=some y->Fr R F y x:=by
 intro p
 induction p using Nat.strongRecOn with
 | _ p ih=>
  intro x out u T N d m f V c;have O:=h.neg;by_cases l:x=a
  ·refine⟨out,zC ?_,T,N,by rw[d,l],m,λy g=>?_,by omega,c⟩
   ·unfold zbh;simp[l]
   ·obtain⟨j,_,M⟩:=f y g;exact h.rng y (fo M)
  ·have J:p≠0:=λe=>by
    subst e;rw[h.hd]at u;injection u with u;exact l u.symm
   obtain⟨j,q,M,E,v,C⟩:=h.src p x u J;have D:=h.rng x (fo u);have s:zbh a par (out,x)=some (.inl (out++[q],q)):=by
    unfold zbh;simp only[l,decide_false,Bool.not_false,if_true,zgX D.1 v,ic];rw[zai so so];rfl
   rw[zv s];have B:q∉out:=λhm=>by
    obtain⟨i,hi,L⟩:=f q hm;have:=h.inj i j q L E;omega
   have r:∀(i:Nat)(y:Int),(out++[q])[i]?=some y->(i<out.length/\out[i]?=some y)\/(i=out.length/\y=q):=by
    intro i y hi;by_cases A:i<out.length
    ·rw[cq A]at hi;exact .inl ⟨A,hi⟩
    ·rw[cv om]at hi;have:=zA hi;simp at this;have I:i - out.length=0:=by omega
     rw[I]at hi;simp at hi;exact .inr ⟨by omega,hi.symm⟩
   refine ih j M q (out++[q]) E si (by rw[cq om];exact N) si (m.snoc B) ?_ so ?_
   ·intro y g;rcases fe.1 g with g | g
    ·obtain⟨i,hi,G⟩:=f y g;exact⟨i,by omega,G⟩
    ·rw[fq.1 g];exact⟨j,gl _,E⟩
   ·intro i y z g S;rcases r i y g with⟨P,t⟩ |⟨P,t⟩<;>rcases r (i+1) z S with⟨U,H⟩ |⟨U,H⟩
    ·exact c i y z t H
    ·have:i=out.length - 1:=by omega
     rw[this,d]at t;injection t with t
     rw[←t,H];exact C
    ·omega
    ·omega
def zAl(hn1:1<=n)(hn:n<=1000)(hR:Sq n R)(hF:Sq n F)(ha0:0<=a)(ha:a<n)(hb0:0<=b)(hb:b<n):
  ∃w,zhr (R,F) a b=some w/\(Way n R F a b w\/(w=[]/\∃S:Int->Bool,S a=true/\S b=false/\∀u v:Nat,u<n->v<n->S u=true->S v=false->¬Fr R F u v)):=by
 have A:=zxh (n:=(n:Int)) om om;have H:mkc 8 (n:Int)=some []:=by unfold mkc;rw[if_pos ⟨by omega,by omega,by omega⟩]
 have r:ztv ((n:Int).toNat) [] a=some [a]:=by unfold ztv;rw[if_pos so];rfl
 have m:(List.replicate (n:Int).toNat (-1:Int)).length=n:=by simp
 have B:∀(v:Nat)(p:Int),((List.replicate (n:Int).toNat (-1:Int)).set a.toNat a)[v]?=some p->v<n/\((v=a.toNat/\p=a)\/(v≠a.toNat/\p = -1)):=by
  intro v p f;have k:=zA f;rw[ep,m]at k;refine⟨k,?_⟩;by_cases s:v=a.toNat
  ·subst s;rw[zU (by rw[m];exact k)]at f;injection f with f
   exact .inl ⟨rfl,f.symm⟩
  ·rw[zL (λe=>s e.symm),dm]at f;split at f
   ·injection f with f;exact .inr ⟨s,f.symm⟩
   ·cases f
 have T:(List.replicate (n:Int).toNat (-1:Int)).countP isNeg=n:=by
  rw[List.countP_replicate];simp[isNeg]
 have V:WInv n R F a ((List.replicate (n:Int).toNat (-1)).set a.toNat a) [a] 0:=by
  refine⟨by rw[ep,m],?_,rfl,by simp,?_,?_,?_,?_,λj u c=>by omega⟩
  ·intro i j x hi c;have t:=zA hi;have g:=zA c;simp at t g;omega
  ·intro x I;rw[fq.1 I];exact⟨ha0,ha⟩
  ·have Y:(List.replicate (n:Int).toNat (-1:Int))[a.toNat]?=some (-1):=by
    rw[dm,if_pos om]
   have:=zmY isNeg Y (y:=a) (by simp[isNeg]) (by simp[isNeg];exact ha0);simp only[dz,eh];omega
  ·intro v p f;obtain⟨k,⟨e1,G⟩ |⟨e1,G⟩⟩:=B v p f
   ·subst G;rw[fq];omega
   ·subst G;rw[fq];omega
  ·intro i x hi a7;have:=zA hi;simp at this;omega
 obtain⟨par,D,Q,z⟩:=zzg hn hR hF V;have M:∃x,idx (List.replicate (n:Int).toNat (-1:Int)) a=some x:=⟨_,zy6 ha0 (by rw[m];exact ha)⟩;obtain⟨x0,L⟩:=M;unfold zhr;simp only[hR.len,A,H,r,L,D,ic];unfold zhS;obtain⟨p,hp,E⟩:=zR (l:=par) hb0 (by rw[z.len];exact hb);have h:=z.mem b.toNat p E;have J:((b.toNat:Nat):Int)=b:=by omega
 rw[J]at h;simp only[hp,ic];by_cases q:p<0
 ·rw[if_pos (by simp[q])];refine⟨_,rfl,.inr ⟨rfl,λx=>decide (x∈Q),?_,?_,?_⟩⟩
  ·simp;exact fo z.hd
  ·simp;intro hm;have:=h.1 hm;omega
  ·intro u v hu f hS N hf;simp at hS N;obtain⟨j,c⟩:=dj hS;exact N (z.cls j u (zA c) c v f hf)
 ·rw[if_neg (by simp[q])];obtain⟨j,c⟩:=dj (h.2 om);have a0:=zA c;obtain⟨w,hw,P,w2,U,O,w5,X,Z⟩:=zAm (b:=b) hn z j b [b] c si rfl rfl (by
   intro i j x hi c;have t:=zA hi;have g:=zA c;simp at t g;omega) (by intro y hy;rw[fq.1 hy];exact⟨j,gl _,c⟩) so (by
   intro i x y hi c;have g:=zA c;simp at g)
  rw[hw];simp only[ic];unfold zhR ziA;have C:ne w.reverse=some w.reverse:=by
   unfold ne;cases hr:w.reverse with
   | nil=>have:w.length=0:=(by rw[←List.length_reverse,hr];rfl);omega
   | cons x l=>rfl
  simp only[C,ic];have d:∀(i:Nat),i<w.length->w.reverse[i]?=w[w.length - 1 - i]?:=λi hi=>List.getElem?_reverse hi;refine⟨_,rfl,.inl ⟨by simpa using P,by rw[d 0 om];exact U,?_,?_,λx I=>w5 x (by simpa using I),by simpa using X,?_⟩⟩
  ·rw[List.length_reverse,d _ om];have:w.length - 1 - (w.length - 1)=0:=by omega
   rw[this];exact w2
  ·intro i j x hi c;have t:=zA hi;have g:=zA c;rw[List.length_reverse]at t g;rw[d _ t]at hi;rw[d _ g]at c;have:=O _ _ _ hi c;omega
  ·intro i x y hi c;have g:=zA c;rw[List.length_reverse]at g;rw[d _ om]at hi;rw[d _ g]at c;have:w.length - 1 - i=w.length - 1 - (i+1)+1:=by omega
   rw[this]at hi;exact Z _ _ _ c hi
end
structure FI(n:Nat)(R F:List (List Int)):Prop where
 sq:Sq n F
 anti:∀u v,u<n->v<n->ent F u v = - ent F v u
 le:∀u v,u<n->v<n->ent F u v<=ent R u v
section
variable {n:Nat} {R F:List (List Int)} {a b:Int} {w:List Int}
def zzx(hn:n<=1000)(hR:∀u v,0<=ent R u v/\ent R u v<=1000000000)(hw:Way n R F a b w)(hF:FI n R F):
  ∃F',iter (zbZ w) (1,F)=some F'/\FI n R F'/\∀S,mid n S (ent F')=mid n S (ent F)+ind (S a) - ind (S b):=by
 have key:=zz (F:=zbZ w)
  (λs=>1<=s.1/\s.1<=w.length/\FI n R s.2/\(∀u v:Nat,u<n->v<n->(v:Int)∉w.take s.1.toNat->ent s.2 u v=ent F u v)/\
   ∃x,w[s.1.toNat - 1]?=some x/\∀S,mid n S (ent s.2)=mid n S (ent F)+ind (S a) - ind (S x))
  (λs=>(w.length - s.1).toNat) (λF'=>FI n R F'/\∀S,mid n S (ent F')=mid n S (ent F)+ind (S a) - ind (S b)) ?_ (1,F)
  ⟨by simp,by have:=hw.pos;simp only[];omega,hF,λ_ _ _ _ _=>rfl,a,hw.hd,λS=>by simp only[];omega⟩
 ·exact key
 ·rintro⟨i,G⟩ ⟨hi0,hi1,hG,hsame,x,hx,hmid⟩;simp only at hi0 hi1 hG hsame hx hmid;unfold zbZ;have a9:=hw.most;by_cases k:i<w.length
  ·left;obtain⟨y,M,z⟩:=zR (l:=w) (i:=i) om k;have U:w64 (i - 1)=i - 1:=zu om om;have O:w64 (i+1)=i+1:=zu om om;have I:idx w (i - 1)=some x:=zgX om (by rw[←hx];congr 1;omega);have f:=hw.rng x (fo hx);have g:=hw.rng y (fo z);have a6:x≠y:=λe=>by
    subst e;have:=hw.inj _ _ _ hx z;omega
   have a1:x.toNat≠y.toNat:=by omega
   obtain⟨r,g1,g2,g3,g4⟩:=hG.sq.idx (u:=x) (v:=y) f.1 f.2 g.1 g.2;have m:=hw.edge (i.toNat - 1) x y hx (by rw[←z];congr 1;omega);unfold Fr at m;have A:((y.toNat:Nat):Int)∉w.take i.toNat:=by
    intro hm;obtain⟨j,H⟩:=dj hm;have Q:=zA H;rw[ey]at Q;rw[dv,if_pos om]at H;have p:((y.toNat:Nat):Int)=y:=by omega
    rw[p]at H;have:=hw.inj _ _ _ H z;omega
   have a0:=hsame x.toNat y.toNat om om A;have b1:=hG.anti x.toNat y.toNat om om;have b2:=hG.le y.toNat x.toNat om om;have b3:=hR y.toNat x.toNat;have b4:=hR x.toNat y.toNat;have L:w64 (ent G x.toNat y.toNat+1)=ent G x.toNat y.toNat+1:=zu om om;obtain⟨E,h⟩:=hG.sq.set (e:=ent G x.toNat y.toNat+1) g3 (v:=y.toNat) om;obtain⟨Y,k1,k2,k3,k4⟩:=E.idx (u:=y) (v:=x) g.1 g.2 f.1 f.2;have B:ent (G.set x.toNat (r.set y.toNat (ent G x.toNat y.toNat+1))) y.toNat x.toNat=ent G y.toNat x.toNat:=by rw[h,if_neg om]
   rw[B]at k4;have P:w64 (ent G y.toNat x.toNat - 1)=ent G y.toNat x.toNat - 1:=zu om om;obtain⟨X,t⟩:=E.set (e:=ent G y.toNat x.toNat - 1) k3 (v:=x.toNat) om;simp only[k,decide_true,if_true,U,I,M,g1,g4,ic,L,k1,k4,P,O];have d:∀u v,ent ((G.set x.toNat (r.set y.toNat (ent G x.toNat y.toNat+1))).set y.toNat (Y.set x.toNat (ent G y.toNat x.toNat - 1))) u v =
     if u=y.toNat/\v=x.toNat then ent G y.toNat x.toNat - 1 else if u=x.toNat/\v=y.toNat then ent G x.toNat y.toNat+1 else ent G u v:=λu v=>by rw[t,h]
   refine⟨_,rfl,⟨by simp only[];omega,by simp only[];omega,⟨X,?_,?_⟩,?_,y,?_,?_⟩,by simp only[];omega⟩
   ·intro u v C D;simp only;rw[d,d];have h1:=hG.anti u v C D;by_cases Z:u=y.toNat/\v=x.toNat
    ·obtain⟨rfl,rfl⟩:=Z;rw[if_pos ⟨rfl,rfl⟩,if_neg om,if_pos ⟨rfl,rfl⟩];omega
    ·rw[if_neg Z];by_cases c2:u=x.toNat/\v=y.toNat
     ·obtain⟨rfl,rfl⟩:=c2;rw[if_pos ⟨rfl,rfl⟩,if_pos ⟨rfl,rfl⟩];omega
     ·rw[if_neg c2,if_neg om,if_neg om];exact h1
   ·intro u v C D;simp only;rw[d];split
    ·rename_i c;obtain⟨rfl,rfl⟩:=c;omega
    ·split
     ·rename_i c;obtain⟨rfl,rfl⟩:=c;omega
     ·exact hG.le u v C D
   ·intro u v C D hm;simp only at hm ⊢;have N:(i+1).toNat=i.toNat+1:=by omega
    rw[N,gc,z]at hm;simp only[Option.toList_some,fe,fq,not_or]at hm;have a3:v≠x.toNat:=λe=>by
     subst e;apply hm.1;have q:((x.toNat:Nat):Int)=x:=by omega
     rw[q];have:(w.take i.toNat)[i.toNat - 1]?=some x:=by rw[dv,if_pos om];exact hx
     exact fo this
    rw[d,if_neg om,if_neg om];exact hsame u v C D hm.1
   ·simp only;rw[←z];congr 1;omega
   ·intro S;simp only;have q:((x.toNat:Nat):Int)=x:=by omega
    have p:((y.toNat:Nat):Int)=y:=by omega
    have e1:mid n S (ent (G.set x.toNat (r.set y.toNat (ent G x.toNat y.toNat+1))))=mid n S (ent G)+ind (S ((x.toNat:Nat):Int))*1:=by
     unfold mid;exact zst (c:=λu _=>ind (S u)) (a:=x.toNat) (b:=y.toNat) om om (λu v _ _ J=>by rw[h,if_neg om]) (by rw[h,if_pos ⟨rfl,rfl⟩])
    have e2:mid n S (ent ((G.set x.toNat (r.set y.toNat (ent G x.toNat y.toNat+1))).set y.toNat (Y.set x.toNat (ent G y.toNat x.toNat - 1))))=mid n S (ent (G.set x.toNat (r.set y.toNat (ent G x.toNat y.toNat+1))))+ind (S ((y.toNat:Nat):Int))*(-1):=by
     unfold mid;exact zst (c:=λu _=>ind (S u)) (a:=y.toNat) (b:=x.toNat) om om (λu v _ _ J=>by rw[t,if_neg om]) (by rw[t,if_pos ⟨rfl,rfl⟩,B];omega)
    rw[e2,e1,hmid S,q,p];omega
  ·right;rw[if_neg (by simp[k])];have V:i=w.length:=by omega
   have T:x=b:=by
    have:=hw.lst;rw[V]at hx;have e:((w.length:Nat):Int).toNat=w.length:=by omega
    rw[e,this]at hx;injection hx with hx
    exact hx.symm
   exact⟨_,rfl,hG,λS=>by rw[hmid S,T]⟩
def zzt(hn1:1<=n)(hn:n<=1000)(hsq:Sq n R)(hR:∀u v,0<=ent R u v/\ent R u v<=1000000000)(hC:∀S,znS n S (ent R)<=1000000000)(hF:FI n R F)(hF0:∀u v,ent F u v=0)(ha0:0<=a)(ha:a<n)(hb0:0<=b)(hb:b<n)(hab:a≠b)(most:Int):
  ∃v F',zgn (R,F) a b most=some (v,(R,F'))/\0<=v/\FI n R F'/\(∀S:Int->Bool,S a=true->S b=false->mid n S (ent F')=v)/\(∀S:Int->Bool,S a=true->S b=false->v<=znS n S (ent R))/\
   (v<most->∃S:Int->Bool,S a=true/\S b=false/\znS n S (ent R)=v):=by
 have hA:∀(G:List (List Int))(v:Int),FI n R G->(∀S:Int->Bool,S a=true->S b=false->mid n S (ent G)=v)->∀S:Int->Bool,S a=true->S b=false->v<=znS n S (ent R):=by
  intro G v c hm S j d;rw[←hm S j d,zvL c.anti];exact zCj c.le
 have A:(λx:Int=>decide (x=a)) a=true:=by simp
 have B:(λx:Int=>decide (x=a)) b=false:=by simp;exact λe=>hab e.symm
 have key:=zz (F:=zef (R,F) a b most)
  (λs=>0<=s.1/\FI n R s.2/\∀S:Int->Bool,S a=true->S b=false->mid n S (ent s.2)=s.1) (λs=>(znS n (λx:Int=>decide (x=a)) (ent R) - s.1).toNat)
  (λz=>z.2.1=R/\0<=z.1/\FI n R z.2.2/\(∀S:Int->Bool,S a=true->S b=false->mid n S (ent z.2.2)=z.1)/\(z.1<most->∃S:Int->Bool,S a=true/\S b=false/\znS n S (ent R)=z.1)) ?_ (0,F)
  ⟨by simp,hF,λS _ _=>?_⟩
 ·obtain⟨⟨v,P,F'⟩,q,j,d,D,y,H⟩:=key;simp only at j d D y H;subst j;refine⟨v,F',?_,d,D,y,hA F' v D y,H⟩;unfold zgn;simp only[q,ic]
 ·rintro⟨v,G⟩ ⟨hv0,c,hm⟩;simp only at hv0 c hm;unfold zef;obtain⟨w,L,E⟩:=zAl hn1 hn hsq c.sq ha0 ha hb0 hb;simp only[L,ic];rcases E with hW |⟨hnil,S,s1,s2,s3⟩
  ·have r:w≠[]:=λe=>by have:=hW.pos;rw[e]at this;simp at this
   rw[if_neg (by simp[r])];unfold zb0;by_cases m:v≥most
   ·right;rw[if_pos (by simp[m])];exact⟨_,rfl,rfl,hv0,c,hm,λh=>by simp only at h;omega⟩
   ·left;rw[if_neg (by simp[m])];obtain⟨G',t,p,hm'⟩:=zzx hn hR hW c;simp only[t,ic];unfold zgO;have l:∀S:Int->Bool,S a=true->S b=false->mid n S (ent G')=v+1:=by
     intro S j d;rw[hm' S,hm S j d,j,d];simp[ind]
    have N:=hA G' (v+1) p l (λx:Int=>decide (x=a)) A B;have O:=hC (λx:Int=>decide (x=a));have C:w64 (v+1)=v+1:=zu om om;simp only[C];exact⟨_,rfl,⟨by simp only[];omega,p,l⟩,by simp only[];omega⟩
  ·right;rw[if_pos (by simp[hnil])];unfold zb0;rw[if_pos rfl];refine⟨_,rfl,rfl,hv0,c,hm,λ_=>⟨S,s1,s2,?_⟩⟩;simp only;rw[←hm S s1 s2,zvL c.anti];symm;refine zCk λu v I J j d=>?_;have:=s3 u v I J j d;unfold Fr at this;simp only[bg]at this;have:=c.le u v I J;omega
 ·simp only;unfold mid;have q:∀(k:Nat)(f:Nat->Int),(∀i,f i=0)->zc7 k f=0:=λk f M=>by
   rw[zc6 (g:=λ_=>0) λi _=>M i,zqk]
  exact q _ _ λu=>q _ _ λv=>by rw[hF0];simp
end
def zyr{n:Int}{bs:List Bd}(hn1:1<=n)(hn:n<=1000)(p:bs.length<=100000)(hw:WBs n bs)(t:Int):
  ∃b,zo0 n bs t=some b/\(b=true↔Holds n bs t):=by
 have j:∀S,zgr S bs<=1000*bs.length:=λS=>zyE λb p=>by
  obtain⟨k,G⟩:=dj p;obtain⟨_,_,_,_,_,m,U⟩:=hw k b G;omega
 have key:=zz (F:=zkP n bs t)
  (λy=>1<=y/\y<=n/\∀z,1<=z->z<y->∀S:Int->Bool,S 0=true->S z=false->t<=zgr S bs) (λy=>(n - y).toNat)
  (λz=>match z with | .inl _=>Holds n bs t | .inr b=>b=false/\¬Holds n bs t) ?_ 1 ⟨by simp,hn1,λz B A=>by omega⟩
 ·obtain⟨z,I,r⟩:=key;unfold zo0;rw[I];cases z with
  | inl z=>exact⟨true,rfl,λ_=>r,λ_=>rfl⟩
  | inr z=>
   have w:z=false:=r.1;exact⟨z,rfl,⟨λh=>by(rw[w]at h;cases h),λh=>absurd h r.2⟩⟩
 ·rintro y ⟨x,E,d⟩;unfold zkP;by_cases f:y<n
  ·rw[if_pos (by simp[f])];obtain⟨R,F,B,A,N,l,C,m⟩:=zux (n:=n) om hn p hw;have Q:((n.toNat:Nat):Int)=n:=by omega
   obtain⟨v,F',J,T,X,V,O,D⟩:=zzt (n:=n.toNat) (R:=R) (F:=F) (a:=0) (b:=y) om om A (λu v=>by have:=C u v;omega) (λS=>by rw[m];have:=j S;omega)
    ⟨N,λu v _ _=>by rw[l,l];rfl,λu v _ _=>by rw[l];exact(C u v).1⟩ l om om om om om t
   simp only[B,J,ic];by_cases e:v<t
   ·right;rw[if_pos (by simp[e])];refine⟨_,rfl,rfl,λL=>?_⟩;obtain⟨S,M,H,P⟩:=D e;have:=L S M ⟨y,x,f,H⟩;rw[m]at P;omega
   ·left;rw[if_neg (by simp[e]),zu om om];refine⟨_,rfl,⟨by omega,by omega,λz g q S c i=>?_⟩,by omega⟩;by_cases s:z=y
    ·subst s;have:=O S c i;rw[m]at this;omega
    ·exact d z g om S c i
  ·right;rw[if_neg (by simp[f])];refine⟨_,rfl,λS c ⟨z,g,q,hz3⟩=>d z g om S c hz3⟩
def ziR{A B:Type}{F:A×Int->Option ((A×Int) ⊕ A)}(l:List B)(f:A->B->A)(a0:A)(hlen:l.length<=2000000)(step:∀(a:A)(i:Nat)(x:B),l[i]?=some x->a=(l.take i).foldl f a0->F (a,(i:Int))=some (.inl (f a x,w64 ((i:Int)+1))))(stop:∀a,a=l.foldl f a0->F (a,(l.length:Int))=some (.inr a)):iter F (a0,0)=some (l.foldl f a0):=by
 have key:=zz (F:=F) (λs=>0<=s.2/\s.2<=l.length/\s.1=(l.take s.2.toNat).foldl f a0) (λs=>(l.length - s.2).toNat) (λz=>z=l.foldl f a0) ?_ (a0,0) ⟨by simp,by simp,by simp⟩
 ·obtain⟨z,g,rfl⟩:=key;exact g
 ·rintro⟨a,i⟩ ⟨h0,h1,ha⟩;simp only at h0 h1 ha;obtain⟨k,rfl⟩:=bf h0;simp only[bg]at ha;by_cases c:k<l.length
  ·left;have d:l[k]?=some l[k]:=cz c;have b:w64 ((k:Int)+1)=(k:Int)+1:=zu om om;refine⟨_,step a k _ d ha,?_,?_⟩
   ·refine⟨by simp only[b];omega,by simp only[b];omega,?_⟩;simp only[b];have:((k:Int)+1).toNat=k+1:=by omega
    rw[this,gc,d,List.foldl_append,←ha];rfl
   ·simp only[b];omega
  ·right;have e:k=l.length:=by omega
   subst e;rw[gd]at ha;exact⟨a,stop a ha,ha⟩
def zrb{A B:Type}{F:Int×A->Option ((Int×A) ⊕ A)}(l:List B)(f:A->B->A)(a0:A)(hlen:l.length<=2000000)(step:∀(a:A)(i:Nat)(x:B),l[i]?=some x->a=(l.take i).foldl f a0->F ((i:Int),a)=some (.inl (w64 ((i:Int)+1),f a x)))(stop:∀a,a=l.foldl f a0->F ((l.length:Int),a)=some (.inr a)):iter F (0,a0)=some (l.foldl f a0):=by
 have key:=zz (F:=F) (λs=>0<=s.1/\s.1<=l.length/\s.2=(l.take s.1.toNat).foldl f a0) (λs=>(l.length - s.1).toNat) (λz=>z=l.foldl f a0) ?_ (0,a0) ⟨by simp,by simp,by simp⟩
 ·obtain⟨z,g,rfl⟩:=key;exact g
 ·rintro⟨i,a⟩ ⟨h0,h1,ha⟩;simp only at h0 h1 ha;obtain⟨k,rfl⟩:=bf h0;simp only[bg]at ha;by_cases c:k<l.length
  ·left;have d:l[k]?=some l[k]:=cz c;have b:w64 ((k:Int)+1)=(k:Int)+1:=zu om om;refine⟨_,step a k _ d ha,?_,?_⟩
   ·refine⟨by simp only[b];omega,by simp only[b];omega,?_⟩;simp only[b];have:((k:Int)+1).toNat=k+1:=by omega
    rw[this,gc,d,List.foldl_append,←ha];rfl
   ·simp only[b];omega
  ·right;have e:k=l.length:=by omega
   subst e;rw[gd]at ha;exact⟨a,stop a ha,ha⟩
def zq{α:Type}{l:List α}{i:Nat}{x:α}(h:l[i]?=some x):idx l (i:Int)=some x:=by
 unfold idx;rw[if_pos om];simpa using h
def za1{α β:Type}(p:α->Bool)(g:α->β):∀(l:List α)(a:List β),l.foldl (λa x=>if p x then a++[g x]else a) a=a++(l.filter p).map g
 |[],a=>by simp
 | x::l,a=>by
  rw[co,za1 p g l];by_cases hp:p x=true
  ·rw[if_pos hp,ci hp];simp
  ·rw[if_neg hp,cg hp]
structure Lead(n:Nat)(L nm:List Int):Prop where
 len:L.length=n
 nlen:nm.length=n
 low:∀(i:Nat)(p:Int),L[i]?=some p -> -1<=p/\p<i
 root:∀(i:Nat)(r:Int),nm[i]?=some r->0<=r/\r<=i/\iter (gstep L) (i:Int)=some r/\∃q,L[r.toNat]?=some q/\q<0
def zmW{L:List Int}{i:Int}{p:Int}(h0:0<=i)(h:L[i.toNat]?=some p)(hp:p<0):iter (gstep L) i=some i:=by
 apply zC;unfold gstep;rw[zgX h0 h];simp only[ic];rw[if_pos hp]
def zuQ{L:List Int}{i:Int}{p:Int}(h0:0<=i)(h:L[i.toNat]?=some p)(hp:0<=p):iter (gstep L) i=iter (gstep L) p:=by
 apply zv;unfold gstep;rw[zgX h0 h];simp only[ic];rw[if_neg om]
def zAM{L:List Int}(hL:∀(i:Nat)(p:Int),L[i]?=some p -> -1<=p/\p<i){m k:Int}(hm0:0<=m)(hk0:0<=k)(hkm:k<m){q q':Int}(hm:L[m.toNat]?=some q)(hq:q<0)(hk:L[k.toNat]?=some q')(hq':q'<0):
  ∀(i:Nat)(r:Int),i<L.length->iter (gstep L) (i:Int)=some r->iter (gstep (L.set m.toNat k)) (i:Int)=some (if r=m then k else r):=by
 intro i
 induction i using Nat.strongRecOn with
 | _ i ih=>
  intro r hi c;have g:=zA hm;obtain⟨p,hp⟩:∃p,L[i]?=some p:=⟨_,cz hi⟩;have h:=hL i p hp;have d:L[(i:Int).toNat]?=some p:=by simpa using hp
  by_cases b:p<0
  ·rw[zmW om d b]at c;injection c with c
   subst c;by_cases a:(i:Int)=m
   ·subst a;simp only[bg]at *;rw[if_pos trivial];rw[zuQ (p:=k) om (by simp only[bg];rw[zU g]) hk0];exact zmW hk0 (by rw[zL om];exact hk) hq'
   ·rw[if_neg a];exact zmW om (by simp only[bg];rw[zL om];exact hp) b
  ·have a:m.toNat≠i:=λe=>by
    rw[e,hp]at hm;injection hm with hm;omega
   rw[zuQ om d om]at c;rw[zuQ (p:=p) om (by simp only[bg];rw[zL a];exact hp) om];have f:((p.toNat:Nat):Int)=p:=by omega
   rw[←f]at c ⊢;exact ih p.toNat om r om c
def ren(x y:Int)(z:Int):Int:=if z=max x y then min x y else z
def zzN{n:Nat}{L nm:List Int}(h:Lead n L nm){i j:Nat}{x y:Int}(hi:nm[i]?=some x)(hj:nm[j]?=some y):
  Lead n (if x<y then L.set y.toNat x else if y<x then L.set x.toNat y else L) (nm.map (ren x y)):=by
 obtain⟨C,x1,X,H,E,D⟩:=h.root i x hi;obtain⟨y0,U,Y,J,G,I⟩:=h.root j y hj;have A:=zA hi;have t:=zA hj;have c:∀(m k:Int)(q g:Int),0<=m->0<=k->k<m->m<=(n:Int)->L[m.toNat]?=some q->q<0->L[k.toNat]?=some g->g<0->Lead n (L.set m.toNat k) (nm.map λz=>if z=m then k else z):=by
  intro m k q g w u s Q hm P F f;refine⟨by rw[ep];exact h.len,by rw[ef];exact h.nlen,λa p hp=>?_,λa r b=>?_⟩
  ·by_cases M:m.toNat=a
   ·subst M;rw[zU (zA hm)]at hp;injection hp with hp
    omega
   ·rw[zL M]at hp;exact h.low a p hp
  ·rw[dh]at b;cases hz:nm[a]? with
   | none=>rw[hz]at b;cases b
   | some z=>
    rw[hz]at b;simp only[Option.map_some]at b;injection b with b
    obtain⟨V,T,R,S,N,O⟩:=h.root a z hz;have B:a<L.length:=by have:=zA hz;rw[h.nlen]at this;rw[h.len];exact this
    have:=zAM h.low w u s hm P F f a z B R;rw[b]at this;subst b;refine⟨?_,?_,this,?_⟩
    ·split<;>omega
    ·split<;>omega
    ·by_cases d:z=m
     ·rw[if_pos d];exact⟨g,by rw[zL om];exact F,f⟩
     ·rw[if_neg d];exact⟨S,by rw[zL om];exact N,O⟩
 rw[h.nlen]at A t;by_cases v:x<y
 ·rw[if_pos v];have e:nm.map (ren x y)=nm.map λz=>if z=y then x else z:=by
   apply fc;intro z _;unfold ren;rw[show max x y=y by omega,show min x y=x by omega]
  rw[e];exact c y x J H y0 C v om G I E D
 ·rw[if_neg v];by_cases l:y<x
  ·rw[if_pos l];have e:nm.map (ren x y)=nm.map λz=>if z=x then y else z:=by
    apply fc;intro z _;unfold ren;rw[show max x y=x by omega,show min x y=y by omega]
   rw[e];exact c x y H J C y0 l om E D G I
  ·rw[if_neg l];have:x=y:=by omega
   subst this;have e:nm.map (ren x x)=nm:=by
    have:ren x x=id:=by
     funext z;unfold ren;rw[Int.max_self,Int.min_self];split
     ·rename_i hz;exact hz.symm
     ·rfl
    rw[this,List.map_id]
   rw[e];exact h
def zk5(bs:List Bd)(nm:List Int):List Int:=bs.foldl (λnm b=>nm.map (ren (nm.getD b.1.toNat 0) (nm.getD b.2.1.toNat 0))) nm
def zkR{l:List Int}{i:Nat}{x:Int}(h:l[i]?=some x):l.getD i 0=x:=by
 rw[List.getD_eq_getElem?_getD,h];rfl
section
variable {n:Nat} {bs:List Bd}
def zqc(hb:bs.length<=100000)(hw:WBs n bs){L nm:List Int}(h:Lead n L nm):
  ∃L',iter (ze5 bs) (0,L)=some L'/\Lead n L' (zk5 bs nm):=by
 have key:=zz (F:=ze5 bs) (λs=>0<=s.1/\s.1<=bs.length/\Lead n s.2 (zk5 (bs.take s.1.toNat) nm)) (λs=>(bs.length - s.1).toNat)
  (λL'=>Lead n L' (zk5 bs nm)) ?_ (0,L) ⟨by simp,by simp,by simpa[zk5]using h⟩
 ·exact key
 ·rintro⟨i,L⟩ ⟨h0,h1,hL⟩;simp only at h0 h1 hL;unfold ze5;by_cases c:i<bs.length
  ·left;obtain⟨⟨x,y,s⟩,m,j⟩:=zR (l:=bs) h0 c;obtain⟨A,D,B,w,H,E,G⟩:=hw _ _ j;simp only at A D B w H E G;obtain⟨g,b⟩:∃z,z=zk5 (bs.take i.toNat) nm:=⟨_,rfl⟩;rw[←b]at hL;obtain⟨u,f⟩:∃r,g[x.toNat]?=some r:=⟨_,cz (by rw[hL.nlen];omega)⟩;obtain⟨v,d⟩:∃r,g[y.toNat]?=some r:=⟨_,cz (by rw[hL.nlen];omega)⟩;obtain⟨I,p,_⟩:=zR (l:=L) A (by rw[hL.len];exact D);obtain⟨J,t,_⟩:=zR (l:=L) B (by rw[hL.len];exact w);obtain⟨_,_,ix,_⟩:=hL.root _ _ f;obtain⟨_,_,C,_⟩:=hL.root _ _ d;rw[show((x.toNat:Nat):Int)=x by omega]at ix;rw[show((y.toNat:Nat):Int)=y by omega]at C;have q:w64 (i+1)=i+1:=zu om om;have e:=zzN hL f d;have a:zk5 (bs.take (i+1).toNat) nm=g.map (ren u v):=by
    have:(i+1).toNat=i.toNat+1:=by omega
    rw[this,gc,j];unfold zk5 at b ⊢;rw[List.foldl_append,←b];simp only[Option.toList_some,co,List.foldl_nil];rw[zkR f,zkR d]
   simp only[c,decide_true,if_true,m,p,ix,t,C,ic];unfold ze7;simp only[q];by_cases k:u<v
   ·rw[if_pos (by simp[k])];rw[if_pos k]at e;exact⟨_,rfl,⟨by simp only[];omega,by simp only[];omega,by simp only[];rw[a];exact e⟩,by simp only[];omega⟩
   ·rw[if_neg (by simp[k])];rw[if_neg k]at e;by_cases c2:v<u
    ·rw[if_pos (by simp[c2])];rw[if_pos c2]at e;exact⟨_,rfl,⟨by simp only[];omega,by simp only[];omega,by simp only[];rw[a];exact e⟩,by simp only[];omega⟩
    ·rw[if_neg (by simp[c2])];rw[if_neg c2]at e;exact⟨_,rfl,⟨by simp only[];omega,by simp only[];omega,by simp only[];rw[a];exact e⟩,by simp only[];omega⟩
  ·right;rw[if_neg (by simp[c])];refine⟨_,rfl,?_⟩;rw[show i.toNat=bs.length by omega,gd]at hL;exact hL
def zzF(bs:List Bd):∀(nm:List Int),(zk5 bs nm).length=nm.length:=by
 induction bs with
 | nil=>intro nm;rfl
 | cons b bs ih=>intro nm;unfold zk5 at ih ⊢;rw[co,ih,ef]
def zw2{x y:Int}(nm:List Int)(hn:nm.length<=100000):iter (zdO x y) (nm,0)=some (nm.map (ren x y)):=by
 have key:=zz (F:=zdO x y) (λs=>0<=s.2/\s.2<=nm.length/\s.1=(nm.take s.2.toNat).map (ren x y)++nm.drop s.2.toNat) (λs=>(nm.length - s.2).toNat)
  (λz=>z=nm.map (ren x y)) ?_ (nm,0) ⟨by simp,by simp,by simp⟩
 ·obtain⟨z,h,rfl⟩:=key;exact h
 ·rintro⟨l,i⟩ ⟨h0,h1,hl⟩;simp only at h0 h1 hl;obtain⟨k,rfl⟩:=bf h0;simp only[bg]at hl;have c:((nm.take k).map (ren x y)).length=k:=by rw[ef,ey];omega
  have q:l.length=nm.length:=by rw[hl,dy,c,ec];omega
  unfold zdO;by_cases m:(k:Int)<l.length
  ·left;obtain⟨z,h⟩:∃z,nm[k]?=some z:=⟨_,cz om⟩;have d:l[k]?=some z:=by rw[hl,cv om,c,Nat.sub_self,cw];simpa using h
   have g:zdW x y=some (max x y):=by unfold zdW;split<;>simp_all<;>omega
   have e:zgB x y=some (min x y):=by unfold zgB;split<;>simp_all<;>omega
   have p:w64 ((k:Int)+1)=(k:Int)+1:=zu om om;simp only[m,decide_true,if_true,zq d,g,e,ic];unfold zgf;simp only[p];have b:l.set k (ren x y z)=(nm.take (k+1)).map (ren x y)++nm.drop (k+1):=by
    rw[hl,List.set_append_right _ _ om,c,Nat.sub_self,br om,List.set_cons_zero,gc,h];simp
   have f:((k:Int)+1).toNat=k+1:=by omega
   by_cases a:z=max x y
   ·rw[if_pos (by simp[a])];refine⟨_,rfl,⟨by simp only[];omega,by simp only[];omega,?_⟩,by simp only[];omega⟩;simp only[f,bg];rw[←b];unfold ren;rw[if_pos a]
   ·rw[if_neg (by simp[a])];refine⟨_,rfl,⟨by simp only[];omega,by simp only[];omega,?_⟩,by simp only[];omega⟩;simp only[f];rw[←b];unfold ren;rw[if_neg a];apply ca;intro j;by_cases n:k=j
    ·subst n;rw[zU (zA d),d]
    ·rw[zL n]
  ·right;rw[if_neg so];refine⟨_,rfl,?_⟩;rw[hl,show k=nm.length by omega];simp
def zx8(hb:bs.length<=100000)(hw:WBs n bs)(nm:List Int)(hn:nm.length=n)(hn1:n<=100000):iter (zdR bs) (nm,0)=some (zk5 bs nm):=by
 refine ziR bs _ nm om ?_ ?_
 ·intro a i b c k;obtain⟨j,s,m,q,u,t,w⟩:=hw _ _ c;have p:a.length=n:=by rw[k];exact(zzF _ _).trans hn
  unfold zdR;obtain⟨v,h,e⟩:=zR (l:=a) j om;obtain⟨r,f,d⟩:=zR (l:=a) m om;have g:=zA c;rw[if_pos (by simp[g])];simp only[zq c,h,f,ic,zw2 a om];unfold zi8;rw[zkR e,zkR d]
 ·intro a _;unfold zdR;rw[if_neg si]
end
def grp(nm:List Int)(i:Nat)(r:Int):List Int:=((List.range i).filter λ(k:Nat)=>decide (nm[k]?=some r)).map λ(k:Nat)=>(k:Int)
def zaX(nm:List Int)(i:Nat):List Int:=((List.range i).filter λ(k:Nat)=>decide (nm[k]?=some (k:Int))).map λ(k:Nat)=>(k:Int)
def zmX(nm:List Int)(i:Nat)(r:Int):grp nm (i+1) r=grp nm i r++if nm[i]?=some r then[(i:Int)]else[]:=by
 unfold grp;rw[fz,ce,fa];congr 1;by_cases h:nm[i]?=some r
 ·rw[if_pos h,ci (by simp[h])];rfl
 ·rw[if_neg h,cg (by simp[h])];rfl
def zgI(nm:List Int)(i:Nat):zaX nm (i+1)=zaX nm i++if nm[i]?=some (i:Int)then[(i:Int)]else[]:=by
 unfold zaX;rw[fz,ce,fa];congr 1;by_cases h:nm[i]?=some (i:Int)
 ·rw[if_pos h,ci (by simp[h])];rfl
 ·rw[if_neg h,cg (by simp[h])];rfl
def zt5(nm:List Int)(r:Int):∀i,(grp nm i r).length<=i
 | 0=>by simp[grp]
 | i+1=>by
  have:=zt5 nm r i;rw[zmX,dy];split<;>simp<;>omega
def zql(nm:List Int):∀i,(zaX nm i).length<=i
 | 0=>by simp[zaX]
 | i+1=>by
  have:=zql nm i;rw[zgI,dy];split<;>simp<;>omega
def zt4{nm:List Int}{i:Nat}{r x:Int}:x∈grp nm i r↔0<=x/\x<i/\nm[x.toNat]?=some r:=by
 unfold grp;simp only[fj,fi,fp,decide_eq_true_eq];constructor
 ·rintro⟨k,⟨b,a⟩,rfl⟩;exact⟨by omega,by omega,by simpa using a⟩
 ·rintro⟨b,a,c⟩;exact⟨x.toNat,⟨by omega,c⟩,by omega⟩
def zon{nm:List Int}{i:Nat}{x:Int}:x∈zaX nm i↔0<=x/\x<i/\nm[x.toNat]?=some x:=by
 unfold zaX;simp only[fj,fi,fp,decide_eq_true_eq];constructor
 ·rintro⟨k,⟨b,a⟩,rfl⟩;exact⟨by omega,by omega,by simpa using a⟩
 ·rintro⟨b,a,c⟩;exact⟨x.toNat,⟨by omega,by rw[c];congr 1;omega⟩,by omega⟩
def zsU(nm:List Int):∀i,Inj (zaX nm i)
 | 0=>by intro i j x h;simp[zaX]at h
 | i+1=>by
  rw[zgI];split
  ·refine(zsU nm i).snoc λh=>?_;have:=(zon.1 h).2.1;omega
  ·rw[bp];exact zsU nm i
def zj3(nm:List Int)(n:Nat):List (List Int):=(zaX nm n).map (grp nm n)
section
variable {n:Nat} {nm:List Int}
def zsQ(hn:n<=100000)(hlen:nm.length=n)(hlow:∀(i:Nat)(r:Int),nm[i]?=some r->0<=r/\r<=i){out:List (List Int)}{i:Nat}(hi:i<n):
  iter (zdP n nm (out,i)) ([],(i:Int))=some (grp nm n i):=by
 have c:grp nm i (i:Int)=[]:=by
  rw[bu];intro x m;obtain⟨g,p,j⟩:=zt4.1 m;have:=hlow _ _ j;omega
 have key:=zz (F:=zdP n nm (out,i)) (λs=>(i:Int)<=s.2/\s.2<=n/\s.1=grp nm s.2.toNat i) (λs=>((n:Int) - s.2).toNat)
  (λz=>z=grp nm n i) ?_ ([],(i:Int)) ⟨by simp,by simp only[];omega,by simp[c]⟩
 ·obtain⟨z,e,rfl⟩:=key;exact e
 ·rintro⟨a,k⟩ ⟨h0,g,ha⟩;simp only at h0 g ha;obtain⟨k,rfl⟩:=bf (show 0<=k by omega);simp only[bg]at ha;unfold zdP;by_cases f:(k:Int)<n
  ·left;obtain⟨z,e⟩:∃z,nm[k]?=some z:=⟨_,cz om⟩;have h:w64 ((k:Int)+1)=(k:Int)+1:=zu om om;have d:((k:Int)+1).toNat=k+1:=by omega
   have l:=zt5 nm i k;simp only[f,decide_true,if_true,zq e,ic];unfold zgg;simp only[h];by_cases b:z=i
   ·rw[if_pos (by simp[b]),zai (by rw[ha];simp;omega) (by rw[ha];simp;omega)];refine⟨_,rfl,⟨by simp only[];omega,by simp only[];omega,?_⟩,by simp only[];omega⟩;simp only[d];rw[zmX,e,if_pos (by rw[b]),ha]
   ·rw[if_neg (by simp[b])];refine⟨_,rfl,⟨by simp only[];omega,by simp only[];omega,?_⟩,by simp only[];omega⟩;simp only[d];rw[zmX,e,if_neg (by simpa using b),ha,bp]
  ·right;rw[if_neg so];exact⟨_,rfl,by rw[ha,show k=n by omega]⟩
def ztF(hn:n<=100000)(hlen:nm.length=n)(hlow:∀(i:Nat)(r:Int),nm[i]?=some r->0<=r/\r<=i):
  iter (zdQ n nm) ([],0)=some (zj3 nm n):=by
 have key:=zz (F:=zdQ n nm) (λs=>0<=s.2/\s.2<=n/\s.1=(zaX nm s.2.toNat).map (grp nm n)) (λs=>((n:Int) - s.2).toNat)
  (λz=>z=zj3 nm n) ?_ ([],0) ⟨by simp,by simp,by simp[zaX]⟩
 ·obtain⟨z,d,rfl⟩:=key;exact d
 ·rintro⟨a,k⟩ ⟨h0,h1,ha⟩;simp only at h0 h1 ha;obtain⟨k,rfl⟩:=bf h0;simp only[bg]at ha;unfold zdQ;by_cases e:(k:Int)<n
  ·left;obtain⟨z,d⟩:∃z,nm[k]?=some z:=⟨_,cz om⟩;have g:w64 ((k:Int)+1)=(k:Int)+1:=zu om om;have c:((k:Int)+1).toNat=k+1:=by omega
   simp only[e,decide_true,if_true,zq d,ic];have f:=zql nm k;have h:a.length<=k:=by rw[ha,ef];exact f
   by_cases b:z=k
   ·rw[if_neg (by simp[b]),zsQ hn hlen hlow om];simp only[ic];unfold zi9 zdT;rw[zai so so];simp only[ic,g];refine⟨_,rfl,⟨by simp only[];omega,by simp only[];omega,?_⟩,by simp only[];omega⟩;simp only[c];rw[zgI,d,if_pos (by rw[b]),ha,fa];rfl
   ·rw[if_pos (by simp[b])];unfold zdT;simp only[g];refine⟨_,rfl,⟨by simp only[];omega,by simp only[];omega,?_⟩,by simp only[];omega⟩;simp only[c];rw[zgI,d,if_neg (by simpa using b),ha,bp]
  ·right;rw[if_neg so];exact⟨_,rfl,by rw[ha,show k=n by omega];rfl⟩
end
section
variable {n:Nat} {nm:List Int}
def zDH(nm:List Int)(i:Nat)(pl:List (Int×Int)):Prop:=
 ∀r:Int,(r∈zaX nm i->zhK pl r=true/\∃j:Nat,zdw pl r=some (j:Int)/\(zaX nm i)[j]?=some r)/\(r∉zaX nm i->zhK pl r=false)
def zxw{α β:Type}[DecidableEq α]{m:List (α×β)}{k:α}:zhK m k=true↔∃p∈m,p.1=k:=by
 unfold zhK;simp
def zxt{α β:Type}[DecidableEq α]{m:List (α×β)}{k:α}{v:β}(h:zhK m k=false):zbX m k v=m++[(k,v)]:=by
 unfold zbX;rw[if_neg (by simp[h])]
def zzI{α β:Type}[DecidableEq α]{m:List (α×β)}{k k':α}{v:β}(h:zhK m k=false):zdw (m++[(k,v)]) k'=if k'=k then some v else zdw m k':=by
 unfold zdw;rw[List.find?_append];by_cases a:k'=k
 ·subst a;rw[if_pos rfl];have b:m.find? (λp=>decide (p.1=k'))=none:=by
   rw[List.find?_eq_none];intro p hp hd;have:zhK m k'=true:=zxw.2 ⟨p,hp,by simpa using hd⟩;rw[h]at this;cases this
  rw[b];simp
 ·rw[if_neg a];cases m.find? (λp=>decide (p.1=k'))with
  | some p=>simp
  | none=>simp[show ¬k=k' from λe=>a e.symm]
def zvM{α β:Type}[DecidableEq α]{m:List (α×β)}{k k':α}{v:β}:zhK (m++[(k,v)]) k'=(zhK m k'||decide (k=k')):=by
 unfold zhK;rw[List.any_append];simp
def ztW{L:List Int}(hn:n<=100000)(hL:Lead n L nm):iter (ze4 n L) ([],0,([]:List (Int×Int)))=some (zj3 nm n):=by
 have t:∀(i:Nat)(r:Int),nm[i]?=some r->0<=r/\r<=i:=λi r h=>⟨(hL.root i r h).1,(hL.root i r h).2.1⟩;have key:=zz (F:=ze4 n L)
  (λs=>0<=s.2.1/\s.2.1<=n/\s.1=(zaX nm s.2.1.toNat).map (grp nm s.2.1.toNat)/\zDH nm s.2.1.toNat s.2.2) (λs=>((n:Int) - s.2.1).toNat)
  (λz=>z=zj3 nm n) ?_ ([],0,[]) ⟨by simp,by simp,by simp[zaX],λr=>⟨λh=>by simp[zaX]at h,λ_=>rfl⟩⟩
 ·obtain⟨z,U,rfl⟩:=key;exact U
 ·rintro⟨a,k,pl⟩ ⟨h0,M,ha,hpl⟩;simp only at h0 M ha hpl;obtain⟨k,rfl⟩:=bf h0;simp only[bg]at ha hpl;unfold ze4;simp only[bg];by_cases A:(k:Int)<n
  ·left;obtain⟨r,d⟩:∃r,nm[k]?=some r:=⟨_,cz (by rw[hL.nlen];omega)⟩;obtain⟨p,hp⟩:∃p,L[k]?=some p:=⟨_,cz (by rw[hL.len];omega)⟩;obtain⟨T,r1,Y,q,O,Q⟩:=hL.root k r d;have N:w64 ((k:Int)+1)=(k:Int)+1:=zu om om;have b:((k:Int)+1).toNat=k+1:=by omega
   have V:=zql nm k;have H:a.length=(zaX nm k).length:=by rw[ha,ef]
   simp only[A,decide_true,if_true,zq hp,Y,ic];by_cases f:r=k
   ·subst f;have c:(k:Int)∉zaX nm k:=λh=>by have:=(zon.1 h).2.1;omega
    have g:=(hpl k).2 c;rw[if_pos (by simp[g]),zai so so,zxt g];simp only[ic];unfold ze8;have y:idx (a++[([]:List Int)]) (a.length:Int)=some []:=zq (by rw[cv (gl _),Nat.sub_self];rfl);simp only[y,ic,zai (α:=Int) (bytes:=8) (l:=[]) (l2:=[(k:Int)]) si si,N,bg];refine⟨_,rfl,⟨by simp only[];omega,by simp only[];omega,?_,?_⟩,by simp only[];omega⟩
    ·simp only[b];rw[zgI,d,if_pos rfl,fa];rw[List.set_append_right _ _ (gl _),Nat.sub_self];simp only[List.set_cons_zero,fd,List.map_nil,ft];have P:grp nm (k+1) k=[(k:Int)]:=by
      have v:grp nm k (k:Int)=[]:=by
       rw[bu];intro x w;obtain⟨M,h2,X⟩:=zt4.1 w;have:=t _ _ X;omega
      rw[zmX,d,if_pos rfl,v];rfl
     rw[P,ha];congr 1;apply fc;intro x w;rw[zmX,d,if_neg,bp];intro e;injection e with e
     have:=(zon.1 w).2.1;omega
    ·simp only[b];unfold zDH;rw[zgI,d,if_pos rfl];intro r;constructor
     ·intro hm;rw[zvM,zzI g];rcases fe.1 hm with hm | hm
      ·obtain⟨D,j,C,m⟩:=(hpl r).1 hm;refine⟨by rw[D];rfl,j,?_,by rw[cq (zA m)];exact m⟩;rw[if_neg (by intro e;subst e;exact c hm)];exact C
      ·rw[fq]at hm;subst hm;refine⟨by simp,a.length,by rw[if_pos rfl],?_⟩;rw[H,cv (gl _),Nat.sub_self];rfl
     ·intro hm;rw[fe,fq,not_or]at hm;rw[zvM,(hpl r).2 hm.1];simp;intro e;exact hm.2 e.symm
   ·have E:r∈zaX nm k:=by
     refine zon.2 ⟨T,by omega,?_⟩;have c:r.toNat<nm.length:=by rw[hL.nlen];omega
     obtain⟨J,u⟩:∃J,nm[r.toNat]?=some J:=⟨_,cz c⟩;obtain⟨_,_,B,_⟩:=hL.root _ _ u;have:=zmW (L:=L) (i:=((r.toNat:Nat):Int)) om (by rw[bg];exact O) Q;rw[this]at B;injection B with B
     rw[u];congr 1;omega
    obtain⟨D,j,C,m⟩:=(hpl r).1 E;rw[if_neg (by simp[D]),C];simp only[ie];unfold ze8;have S:=zA m;have y:a[j]?=some (grp nm k r):=by rw[ha,dh,m];rfl
    have Z:=zt5 nm r k;simp only[zq y,ic,zai (bytes:=8) (l:=grp nm k r) (l2:=[(k:Int)]) so so,N,bg];refine⟨_,rfl,⟨by simp only[];omega,by simp only[];omega,?_,?_⟩,by simp only[];omega⟩
    ·simp only[b];rw[zgI,d,if_neg (by intro e;injection e with e;exact f e),bp];apply ca;intro I;rw[dh];by_cases G:j=I
     ·subst G;rw[zU (zA y),m];simp only[Option.map_some];rw[zmX,d,if_pos rfl]
     ·rw[zL G,ha,dh];cases w:(zaX nm k)[I]? with
      | none=>rfl
      | some x=>
       simp only[Option.map_some];rw[zmX,d,if_neg,bp];intro e;injection e with e
       subst e;exact G (zsU nm k _ _ _ m w)
    ·simp only[b];unfold zDH;rw[zgI,d,if_neg (by intro e;injection e with e;exact f e),bp];exact hpl
  ·right;rw[if_neg so];have R:k=n:=by omega
   subst R;exact⟨_,rfl,ha⟩
def zz0{n:Nat}(hn:n<=100000):iter (ze6 n) (0,[])=some (List.replicate n (-1)):=by
 have key:=zz (F:=ze6 n) (λs=>0<=s.1/\s.1<=n/\s.2=List.replicate s.1.toNat (-1)) (λs=>((n:Int) - s.1).toNat) (λz=>z=List.replicate n (-1)) ?_ (0,[]) ⟨by simp,by simp,by simp⟩
 ·obtain⟨z,d,rfl⟩:=key;exact d
 ·rintro⟨i,L⟩ ⟨h0,h1,hL⟩;simp only at h0 h1 hL;unfold ze6;simp only[bg];have e:L.length=i.toNat:=by rw[hL];simp
  by_cases a:i<n
  ·left;have b:w64 (i+1)=i+1:=zu om om;have c:zuS n L i=some (L++[-1]):=by unfold zuS;rw[if_pos ⟨by omega,by omega⟩]
   simp only[a,decide_true,if_true,c,b,ic];refine⟨_,rfl,⟨by simp only[];omega,by simp only[];omega,?_⟩,by simp only[];omega⟩;simp only;rw[hL,show(i+1).toNat=i.toNat+1 by omega,List.replicate_succ']
  ·right;rw[if_neg so];exact⟨_,rfl,by rw[hL,show i.toNat=n by omega]⟩
def zf5(n:Nat):List Int:=(List.range n).map λ(k:Nat)=>(k:Int)
def zw6{n:Nat}(hn:n<=100000):iter (zdS n) ([],0)=some (zf5 n):=by
 have key:=zz (F:=zdS n) (λs=>0<=s.2/\s.2<=n/\s.1=zf5 s.2.toNat) (λs=>((n:Int) - s.2).toNat) (λz=>z=zf5 n) ?_ ([],0) ⟨by simp,by simp,by simp[zf5]⟩
 ·obtain⟨z,d,rfl⟩:=key;exact d
 ·rintro⟨a,i⟩ ⟨h0,h1,hL⟩;simp only at h0 h1 hL;unfold zdS;have e:a.length=i.toNat:=by rw[hL];simp[zf5]
  by_cases b:i<n
  ·left;have c:w64 (i+1)=i+1:=zu om om;simp only[b,decide_true,if_true,zai (α:=Int) (bytes:=8) (l:=a) (l2:=[i]) so so,c,ic];refine⟨_,rfl,⟨by simp only[];omega,by simp only[];omega,?_⟩,by simp only[];omega⟩;simp only;rw[hL,show(i+1).toNat=i.toNat+1 by omega];unfold zf5;rw[fz,fa];congr 1;simp only[fd,List.map_nil];congr 1;omega
  ·right;rw[if_neg so];exact⟨_,rfl,by rw[hL,show i.toNat=n by omega]⟩
def zCT(n:Nat):Lead n (List.replicate n (-1)) (zf5 n):=by
 have b:∀(i:Nat)(p:Int),(List.replicate n (-1:Int))[i]?=some p->p = -1:=by
  intro i p h;rw[dm]at h;split at h
  ·injection h with h;exact h.symm
  ·cases h
 refine⟨by simp,by simp[zf5],λi p h=>by rw[b i p h];omega,λi r h=>?_⟩;have hi:=zA h;simp[zf5]at hi;have c:r=i:=by
  simp[zf5,dh,dl hi]at h;exact h.symm
 subst c;have a:(List.replicate n (-1:Int))[i]?=some (-1):=by rw[dm,if_pos hi]
 exact⟨by omega,by omega,zmW om (by simpa using a) om,-1,by simpa using a,by omega⟩
def zzY{n:Nat}{bs:List Bd}(hn:n<=100000)(hb:bs.length<=100000)(hw:WBs n bs):
  zkQ n bs=some (zj3 (zk5 bs (zf5 n)) n)/\zjd n bs=some (zj3 (zk5 bs (zf5 n)) n):=by
 obtain⟨L,b,a⟩:=zqc hb hw (zCT n);constructor
 ·unfold zkQ zkv zku zkt;have c:fmk 8 (n:Int)=some []:=by unfold fmk;rw[if_pos ⟨by omega,by omega,by omega⟩]
  simp only[c,ic,zz0 hn,b,ztW hn a]
 ·unfold zjd zjc zjb zja;simp only[ic,zw6 hn];rw[zx8 hb hw _ (by simp[zf5]) hn];simp only[ic];rw[ztF hn a.nlen λi r h=>⟨(a.root i r h).1,(a.root i r h).2.1⟩];simp only[ic]
def ztw(l:List Bd)(h:l.length<=2000000):zc3 l=some l:=by
 unfold zc3 zcC;rw[if_neg si,zai so so];rfl
def zvk(l:List Bd)(h:l.length<=2000000)(p:Bd->Option Bool)(q:Bd->Bool)(hp:∀b∈l,p b=some (q b)):
  ∃i:Int,zd3 l p=some i/\((i = -1/\∀b∈l,q b=false)\/(∃k:Nat,i=k/\k<l.length/\(∀(j:Nat) b,j<k->l[j]?=some b->q b=false)/\∃b,l[k]?=some b/\q b=true)):=by
 have key:=zz (F:=zcb l p) (λi=>0<=i/\i<=l.length/\∀(j:Nat) b,(j:Int)<i->l[j]?=some b->q b=false) (λi=>(l.length - i).toNat)
  (λz=>match z with | .inl _=>∀b∈l,q b=false | .inr i=>∃k:Nat,i=k/\k<l.length/\(∀(j:Nat) b,j<k->l[j]?=some b->q b=false)/\∃b,l[k]?=some b/\q b=true) ?_ 0 ⟨by omega,by omega,λj b e=>by omega⟩
 ·obtain⟨z,t,n⟩:=key;unfold zd3;rw[t];cases z with
  | inl z=>exact⟨-1,rfl,.inl ⟨rfl,n⟩⟩
  | inr i=>exact⟨i,rfl,.inr n⟩
 ·rintro i ⟨s,u,a⟩;obtain⟨k,rfl⟩:=bf s;unfold zcb;by_cases c:k<l.length
  ·have f:l[k]?=some l[k]:=cz c;have g:=hp l[k] (dx c);have r:w64 ((k:Int)+1)=(k:Int)+1:=zu om om;have hd:((k:Int)<(l.length:Int)):=by omega
   simp only[hd,decide_true,if_true,zq f,ic,g,r];cases hq:q l[k]with
   | true=>right;exact⟨_,rfl,k,rfl,c,λj b e=>a j b om,_,f,hq⟩
   | false=>
    left;refine⟨_,rfl,⟨by omega,by omega,λj b e d=>?_⟩,by omega⟩;by_cases m:j=k
    ·subst m;rw[f]at d;injection d with d;rw[←d];exact hq
    ·exact a j b om d
  ·right;have hd:¬((k:Int)<(l.length:Int)):=by omega
   simp only[hd,decide_false];refine⟨_,rfl,?_⟩;intro b d;obtain⟨j,e⟩:=dj d;exact a j b (by have:=zA e;omega) e
def zpk{α:Type}{p:α->Bool}{l:List α}{k:Nat}(h:∀(j:Nat) b,j<k->l[j]?=some b->p b=true):(l.take k).filter p=l.take k:=by
 rw[cj];intro b c;obtain⟨j,a⟩:=dj c;have:=zA a;rw[ey]at this;rw[dv,if_pos om]at a;exact h j b om a
def zsv(l:List Bd)(h:l.length<=2000000)(p:Bd->Option Bool)(q:Bd->Bool)(hp:∀b∈l,p b=some (q b)):
  zbq l p=some (l.filter λb=>!q b):=by
 obtain⟨i,hi,u⟩:=zvk l h p q hp;unfold zbq;simp only[hi,ic];rcases u with⟨rfl,e⟩ |⟨k,rfl,hk,hlow,b,g,hq⟩
 ·rw[if_pos si];congr 1;symm;rw[cj];intro b g;rw[e b g];rfl
 ·rw[if_neg si];have x:w64 ((k:Int)+1)=(k:Int)+1:=zu om om;rw[x];have key:=zz (F:=zbL p) (λs=>(k:Int)<s.2.2/\s.2.2<=l.length/\s.1.length=l.length/\0<=s.2.1/\s.2.1<s.2.2/\s.1.take s.2.1.toNat=(l.take s.2.2.toNat).filter (λb=>!q b)/\∀j,s.2.2.toNat<=j->s.1[j]?=l[j]?)
   (λs=>(l.length - s.2.2).toNat) (λz=>z.1.length=l.length/\0<=z.2/\z.2<=l.length/\z.1.take z.2.toNat=l.filter (λb=>!q b)) ?_ (l,(k:Int),(k:Int)+1) ?_
  ·obtain⟨⟨y,m⟩,G,E,C,J,A⟩:=key;simp only at E C J A;rw[G];simp only[ic];unfold zeq;have L:clr y m ((0,0,0):Bd)=some (y.take m.toNat++List.replicate (y.length - m.toNat) (0,0,0)):=by unfold clr;rw[if_pos ⟨by omega,by omega⟩]
   have I:(y.take m.toNat).length=m.toNat:=by rw[ey];omega
   have hs:zlK (y.take m.toNat++List.replicate (y.length - m.toNat) ((0,0,0):Bd)) 0 m=some (y.take m.toNat):=by
    unfold zlK;rw[if_pos ⟨by omega,by omega,by rw[dy,I,ek];omega⟩];simp only[Int.toNat_zero,List.drop_zero];rw[List.take_append_of_le_length om,gg om]
   rw[L];simp only[ic,hs];rw[A]
  ·rintro⟨y,m,j⟩ ⟨g1,g2,g3,g4,g5,g6,g7⟩;simp only at g1 g2 g3 g4 g5 g6 g7;obtain⟨j,rfl⟩:=bf (show 0<=j by omega);obtain⟨m,rfl⟩:=bf g4;simp only[bg]at g6 g7;unfold zbL zbM;by_cases d:j<l.length
   ·left;have c:l[j]?=some l[j]:=cz d;have f:y[j]?=some l[j]:=by rw[g7 j (gl _)];exact c
    have t:=hp l[j] (dx d);have H:w64 ((j:Int)+1)=(j:Int)+1:=zu om om;have n:w64 ((m:Int)+1)=(m:Int)+1:=zu om om;have w:y[m]?=some y[m]:=cz om;have a:((j:Int)+1).toNat=j+1:=by omega
    have r:((m:Int)+1).toNat=m+1:=by omega
    rw[if_pos so];simp only[zq f,ic,t,H,n,zq w,bg];cases hq:q l[j]with
    | false=>
     rw[if_pos si];refine⟨_,rfl,⟨by simp only[];omega,by simp only[];omega,by simp only[ep];exact g3,by simp only[];omega,by simp only[];omega,?_,λi hi=>?_⟩,by simp only[];omega⟩
     ·simp only[a,r];rw[gc,zU om,gc,c,ce,List.take_set_of_le om,g6];simp[hq]
     ·simp only[a]at hi ⊢;rw[zL om];exact g7 i om
    | true=>
     rw[if_neg si];refine⟨_,rfl,⟨by simp only[];omega,by simp only[];omega,g3,by simp only[];omega,by simp only[];omega,?_,λi hi=>?_⟩,by simp only[];omega⟩
     ·simp only[a,bg];rw[g6,gc,c,ce];simp[hq]
     ·simp only[a]at hi ⊢;exact g7 i om
   ·right;rw[if_neg so];refine⟨_,rfl,g3,by simp only[];omega,by simp only[];omega,?_⟩;simp only[bg];rw[g6,show j=l.length by omega,gd]
  ·refine⟨by simp only[];omega,by simp only[];omega,rfl,by simp only[];omega,by simp only[];omega,?_,λj B=>rfl⟩;simp only[bg];rw[show((k:Int)+1).toNat=k+1 by omega,gc,g,ce,zpk λj D B v=>by rw[hlow j D B v];rfl];simp[hq]
end
def WB(n:Int)(b:Bd):Prop:=0<=b.1/\b.1<n/\0<=b.2.1/\b.2.1<n/\b.1≠b.2.1/\0<=b.2.2/\b.2.2<=1000
def zqh{n:Int}{bs:List Bd}:WBs n bs↔∀b∈bs,WB n b:=by
 constructor
 ·intro h b c;obtain⟨k,a⟩:=dj c;exact h k b a
 ·intro h k b a;exact h b (fo a)
section
variable {n:Nat} {bs:List Bd}
def zw1(hb:bs.length<=100000)(t:Int):iter (zdM bs t) ([],0)=some (bs.filter λb=>!decide (b.2.2<t)):=by
 have e:(bs.filter λb=>!decide (b.2.2<t))=bs.foldl (λa x=>if(!decide (x.2.2<t))then a++[x]else a) []:=by
  rw[za1 (p:=λx:Bd=>!decide (x.2.2<t)) (g:=λx=>x)];simp
 rw[e];refine ziR bs _ [] om ?_ ?_
 ·intro a i b c j;have d:=zA c;have f:a.length<=i:=by
   rw[j,za1 (p:=λx:Bd=>!decide (x.2.2<t)) (g:=λx=>x)];simp only[ft,ef];exact gm (ed _ _) (by rw[ey];omega)
  unfold zdM zgc;rw[if_pos (by simp[d])];simp only[zq c,ic,zai (bytes:=24) (l:=a) (l2:=[b]) so so];by_cases h:b.2.2<t
  ·rw[if_neg so,if_neg (by simp[h])]
  ·rw[if_pos so,if_pos so]
 ·intro a _;unfold zdM;rw[if_neg si]
def zAt(G:List (List Int)):zaO G=zgb G:=by
 funext s;unfold zaO zgb;by_cases h:s.2<(G.length:Int)
 ·rw[if_pos (by simp[h]),if_pos (by simp[h])];cases hx:idx G s.2 with
  | none=>
   have:zb8 G s (s.1,0)=none:=by unfold zb8;rw[hx];rfl
   rw[zzR this];rfl
  | some g=>
   have:zbF s g=zb8 G s:=by
    funext r;unfold zbF zb8;rw[hx];rfl
   simp only[ic,this];rfl
 ·rw[if_neg (by simp[h]),if_neg (by simp[h])]
def zzj{G:List (List Int)}(hn:n<=100000)(hG:G.length<=100000)(hG1:1<=G.length)(hg:∀g∈G,g.length<=100000/\∀x∈g,0<=x/\x<n):
  ∃tab,iter (zaO G) (List.replicate n 0,0)=some tab/\tab.length=n/\∀x∈tab,0<=x/\x<G.length:=by
 have m:∀(tab:List Int)(k:Nat)(v:Int),(∀x∈tab,0<=x/\x<(G.length:Int))->0<=v->v<G.length->∀x∈tab.set k v,0<=x/\x<(G.length:Int):=by
  intro tab k v h d e x c;rcases List.mem_or_eq_of_mem_set c with c | c
  ·exact h x c
  ·rw[c];exact⟨d,e⟩
 refine zz (F:=zaO G) (λs=>0<=s.2/\s.2<=G.length/\s.1.length=n/\∀x∈s.1,0<=x/\x<G.length) (λs=>(G.length - s.2).toNat)
  (λtab=>tab.length=n/\∀x∈tab,0<=x/\x<G.length) ?_ (List.replicate n 0,0) ⟨by simp,by simp,by simp,λx c=>by rw[(List.mem_replicate.1 c).2];omega⟩
 rintro⟨tab,i⟩ ⟨d,e,hl,hv⟩;simp only at d e hl hv;unfold zaO;by_cases b:i<G.length
 ·left;obtain⟨g,q,t⟩:=zR (l:=G) d b;obtain⟨B,w⟩:=hg g (fo t);rw[if_pos (by simp[b])];simp only[q,ic];have key:=zz (F:=zbF (tab,i) g) (λs=>0<=s.2/\s.2<=g.length/\s.1.length=n/\∀x∈s.1,0<=x/\x<G.length) (λs=>(g.length - s.2).toNat)
   (λtab=>tab.length=n/\∀x∈tab,0<=x/\x<G.length) ?_ (tab,0) ⟨by simp,by simp,hl,hv⟩
  ·obtain⟨u,A,k1,k2⟩:=key;have p:w64 (i+1)=i+1:=zu om om;rw[A];simp only[ic];unfold ziG;simp only[p];exact⟨_,rfl,⟨by simp only[];omega,by simp only[];omega,k1,k2⟩,by simp only[];omega⟩
  ·rintro⟨tab,j⟩ ⟨d,e,hl,hv⟩;simp only at d e hl hv;unfold zbF;by_cases a:j<g.length
   ·left;obtain⟨x,c,r⟩:=zR (l:=g) d a;have f:=w x (fo r);obtain⟨y,z,_⟩:=zR (l:=tab) f.1 (by rw[hl];exact f.2);have p:w64 (j+1)=j+1:=zu om om;rw[if_pos (by simp[a])];simp only[c,z,ic,p];exact⟨_,rfl,⟨by simp only[];omega,by simp only[];omega,by simp only[ep];exact hl,m _ _ _ hv om b⟩,by simp only[];omega⟩
   ·right;rw[if_neg (by simp[a])];exact⟨_,rfl,hl,hv⟩
 ·right;rw[if_neg (by simp[b])];exact⟨_,rfl,hl,hv⟩
def zrz(tab:List Int)(b:Bd):Bool:=!decide (tab.getD b.1.toNat 0=tab.getD b.2.1.toNat 0)
def zvu(tab:List Int)(b:Bd):Bd:=(tab.getD b.1.toNat 0,tab.getD b.2.1.toNat 0,b.2.2)
def zup(tab:List Int)(b:Bd):Bd:=(min (tab.getD b.1.toNat 0) (tab.getD b.2.1.toNat 0),max (tab.getD b.1.toNat 0) (tab.getD b.2.1.toNat 0),b.2.2)
def zxN{β:Type}(p:Bd->Bool)(g:Bd->β)(l:List Bd)(i:Nat)(hi:i<=l.length):((l.take i).foldl (λa x=>if p x then a++[g x]else a) []).length<=i:=by
 rw[za1];simp only[ft,ef];exact gm (ed _ _) (by rw[ey];omega)
def zwz(hb:bs.length<=100000)(hw:WBs n bs){tab:List Int}(ht:tab.length=n):iter (zdk bs tab) ([],0)=some ((bs.filter (zrz tab)).map (zvu tab)):=by
 have e:=za1 (zrz tab) (zvu tab) bs [];rw[ft]at e;rw[←e];refine ziR bs _ [] om ?_ ?_
 ·intro a i b c k;have g:=zA c;have q:a.length<=i:=by rw[k];exact zxN _ _ _ _ om
  obtain⟨j,t,p,s,v,u,w⟩:=hw _ _ c;obtain⟨x,r,d⟩:=zR (l:=tab) j om;obtain⟨y,m,f⟩:=zR (l:=tab) p om;unfold zdk zfu;rw[if_pos (by simp[g])];simp only[zq c,r,m,ic,zai (bytes:=24) (l:=a) (l2:=[(x,y,b.2.2)]) so so];unfold zrz zvu;rw[zkR d,zkR f];by_cases h:x=y
  ·rw[if_neg (by simp[h]),if_neg (by simp[h])]
  ·rw[if_pos (by simp[h]),if_pos (by simp[h])]
 ·intro a _;unfold zdk;rw[if_neg si]
def zwc(hb:bs.length<=100000)(hw:WBs n bs){tab:List Int}(ht:tab.length=n):iter (zdL bs tab) ([],0)=some ((bs.filter (zrz tab)).map (zup tab)):=by
 have e:=za1 (zrz tab) (zup tab) bs [];rw[ft]at e;rw[←e];refine ziR bs _ [] om ?_ ?_
 ·intro a i b c p;have k:=zA c;have s:a.length<=i:=by rw[p];exact zxN _ _ _ _ om
  obtain⟨m,v,r,u,z,w,A⟩:=hw _ _ c;obtain⟨x,t,g⟩:=zR (l:=tab) m om;obtain⟨y,q,j⟩:=zR (l:=tab) r om;have f:zdW x y=some (max x y):=by unfold zdW;split<;>simp_all<;>omega
  have d:zgB x y=some (min x y):=by unfold zgB;split<;>simp_all<;>omega
  unfold zdL zgd;rw[if_pos (by simp[k])];simp only[zq c,t,q,f,d,ic,zai (bytes:=24) (l:=a) (l2:=[(min x y,max x y,b.2.2)]) so so];unfold zrz zup;rw[zkR g,zkR j];by_cases h:x=y
  ·rw[if_neg (by simp[h]),if_neg (by simp[h])]
  ·rw[if_pos (by simp[h]),if_pos (by simp[h])]
 ·intro a _;unfold zdL;rw[if_neg si]
def zxZ(S:Int->Bool)(tab:List Int):∀(l:List Bd),zgr S (l.map (zvu tab))=zgr S (l.map (zup tab))
 |[]=>rfl
 | b::l=>by
  simp only[fd,zgr,zxZ S tab l];congr 1;unfold zvu zup;simp only;rcases Int.le_total (tab.getD b.1.toNat 0) (tab.getD b.2.1.toNat 0)with h | h
  ·rw[Int.min_eq_left h,Int.max_eq_right h]
  ·rw[Int.min_eq_right h,Int.max_eq_left h];by_cases e:S (tab.getD b.1.toNat 0)=S (tab.getD b.2.1.toNat 0)
   ·rw[if_pos e,if_pos e.symm]
   ·rw[if_neg e,if_neg λx=>e x.symm]
def zvr(hn0:1<=n)(hn:n<=100000)(a:bs.length<=100000)(hw:WBs n bs)(t:Int):
  ∃(m:Nat)(b1 b2:List Bd),zin n bs t=some ((m:Int),b1)/\zi6 n bs t=some ((m:Int),b2)/\1<=m/\m<=n/\WBs m b1/\WBs m b2/\b1.length<=100000/\b2.length<=100000/\∀S,zgr S b1=zgr S b2:=by
 obtain⟨e,d⟩:∃z,z=bs.filter λb=>!decide (b.2.2<t):=⟨_,rfl⟩;have a7:e.length<=bs.length:=by rw[d];exact ed _ _
 have u:WBs n e:=zqh.2 λb a=>zqh.1 hw b (by rw[d]at a;exact(fi.1 a).1);obtain⟨X,P⟩:=zzY hn (by omega:e.length<=100000) u;obtain⟨G,H⟩:∃z,z=zj3 (zk5 e (zf5 n)) n:=⟨_,rfl⟩;rw[←H]at X P;have h:G.length=(zaX (zk5 e (zf5 n)) n).length:=by rw[H];unfold zj3;rw[ef]
 have E:G.length<=n:=by rw[h];exact zql _ _
 obtain⟨L,_,R⟩:=zqc (by omega:e.length<=100000) u (zCT n);have q:1<=G.length:=by
  rw[h];obtain⟨r,Y⟩:∃r,(zk5 e (zf5 n))[0]?=some r:=⟨_,cz (by rw[R.nlen];omega)⟩;obtain⟨r0,r1,_⟩:=R.root 0 r Y;have D:r=0:=by omega
  have:(0:Int)∈zaX (zk5 e (zf5 n)) n:=zon.2 ⟨by omega,by omega,by simpa[D]using Y⟩;exact List.length_pos_of_mem this
 have I:∀g∈G,g.length<=100000/\∀x∈g,0<=x/\x<n:=by
  intro g B;rw[H]at B;unfold zj3 at B;obtain⟨r,_,rfl⟩:=fj.1 B;have:=zt5 (zk5 e (zf5 n)) r n;exact⟨by omega,λx F=>⟨(zt4.1 F).1,(zt4.1 F).2.1⟩⟩
 obtain⟨tab,O,j,k⟩:=zzj hn om q I;have i:∀(g:Bd->Bd),((bs.filter (zrz tab)).map g).length<=100000:=λg=>by
  rw[ef];exact gm (ed _ _) a
 have f:∀b∈bs.filter (zrz tab),WB n b/\0<=tab.getD b.1.toNat 0/\tab.getD b.1.toNat 0<G.length/\0<=tab.getD b.2.1.toNat 0/\tab.getD b.2.1.toNat 0<G.length/\tab.getD b.1.toNat 0≠tab.getD b.2.1.toNat 0:=by
  intro b a;obtain⟨h1,A⟩:=fi.1 a;have C:=zqh.1 hw b h1;obtain⟨M,w2,N,w4,w5,v,w⟩:=C;obtain⟨x,F,s⟩:=zR (l:=tab) M om;obtain⟨y,hy,p⟩:=zR (l:=tab) N om;have Z:=k x (fo s);have T:=k y (fo p);unfold zrz at A;rw[zkR s,zkR p]at A ⊢;exact⟨⟨M,w2,N,w4,w5,v,w⟩,Z.1,Z.2,T.1,T.2,by simpa using A⟩
 refine⟨G.length,_,_,?_,?_,q,E,?_,?_,i (zvu tab),i (zup tab),λS=>zxZ S tab _⟩
 ·unfold zin ziI ziH;have hd:=zsv bs om (λq0=>ziJ q0 t) (λb=>decide (b.2.2<t)) (λb _=>rfl);rw[ztw bs om];simp only[ic];rw[hd,←d];simp only[ic,X,zt3 (n:=(n:Int)) om om,bg,O,zwz a hw j]
 ·unfold zi6 zi5 zi4 zi3;rw[zw1 a t,←d];simp only[ic,P,zt3 (n:=(n:Int)) om om,bg];rw[←zAt G];simp only[O,ic,zwc a hw j]
 ·rw[zqh];intro b a;obtain⟨c,J,rfl⟩:=fj.1 a;obtain⟨⟨_,_,_,_,_,v,w⟩,a1,a2,Q,V,U⟩:=f c J;exact⟨a1,a2,Q,V,U,v,w⟩
 ·rw[zqh];intro b a;obtain⟨c,J,rfl⟩:=fj.1 a;obtain⟨⟨_,_,_,_,_,v,w⟩,a1,a2,Q,V,U⟩:=f c J;unfold zup WB;simp only;omega
def zxM{m:Int}{b1 b2:List Bd}{t:Int}(h:∀S,zgr S b1=zgr S b2):Holds m b1 t↔Holds m b2 t:=by
 unfold Holds;constructor
 ·intro a S hS b;rw[←h S];exact a S hS b
 ·intro a S hS b;rw[h S];exact a S hS b
def zzn{p0:(List ((List UInt8)×Int))×(List ((List UInt8)×(List Int)))}{p1:List ((Int×Int)×Int)}(hn0:1<=p1.length)(hn:p1.length<=100000)(hb:bs.length<=100000)(hw:WBs p1.length bs)(h1:zaP p0 p1=some bs)(h2:zen p0 p1=some bs)(t:Int):
  ∃a b c d,zeC p0 p1 t=some (a,b)/\zi2 p0 p1 t=some (c,d)/\(if !b then(false,(4:Int))else(a,0))=(c,d):=by
 obtain⟨m,A,C,u,q,D,B,w,k,r,s,l⟩:=zvr hn0 hn hb hw t;unfold zeC zi2;simp only[h1,h2,u,q,ic];by_cases e:(m:Int)>64
 ·rw[if_pos (by simpa using e),if_pos (by simpa using e)];exact⟨_,_,_,_,rfl,rfl,rfl⟩
 ·rw[if_neg (by simpa using e),if_neg (by simpa using e)];obtain⟨a,z,f⟩:=zyr (n:=(m:Int)) om om r w t;simp only[z,ic];by_cases g:(m:Int)<2
  ·rw[if_pos (by simpa using g)];have:a=true:=f.2 λS hS ⟨y,hy1,hy2,_⟩=>by omega
   subst this;exact⟨_,_,_,_,rfl,rfl,rfl⟩
  ·rw[if_neg (by simpa using g)];obtain⟨v,p,x,i⟩:=zv4 (n:=(m:Int)) om om s k;simp only[x,ic];refine⟨_,_,_,_,rfl,rfl,?_⟩;have:a=decide (v≥t):=by
    have j:=(i t).trans (zxM l).symm;cases a with
    | true=>symm;simpa using j.2 (f.1 rfl)
    | false=>
     symm;simp only[decide_eq_false_iff_not];intro h;have:=f.2 (j.1 h);cases this
   rw[this];rfl
end
def zkU{S:Type}(st:Nat->S)(i0 N:Nat)(ok:Nat->Prop)(F:S->Option (S ⊕ (Unit ⊕ Bool)))(h0:i0<=N)(step:∀i,i0<=i->i<N->(∀j,i0<=j->j<i->ok j)->ok i->F (st i)=some (.inl (st (i+1))))(fail:∀i,i0<=i->i<N->(∀j,i0<=j->j<i->ok j)->¬ok i->F (st i)=some (.inr (.inr false)))(stop:(∀j,i0<=j->j<N->ok j)->F (st N)=some (.inr (.inl ()))):
  (iter F (st i0)=some (.inl ())/\∀i,i0<=i->i<N->ok i)\/(iter F (st i0)=some (.inr false)/\¬ ∀i,i0<=i->i<N->ok i):=by
 classical
 have key:∀d i,i+d=N->i0<=i->(∀j,i0<=j->j<i->ok j)->(iter F (st i)=some (.inl ())/\∀i,i0<=i->i<N->ok i)\/(iter F (st i)=some (.inr false)/\¬ ∀i,i0<=i->i<N->ok i):=by
  intro d
  induction d with
  | zero=>
   intro i hi c a;have:i=N:=by omega
   subst this;exact .inl ⟨zC (stop a),a⟩
  | succ d ih=>
   intro i hi c a;by_cases b:ok i
   ·rw[zv (step i c om a b)];exact ih (i+1) om om λj e g=>by
     by_cases f:j=i
     ·subst f;exact b
     ·exact a j e om
   ·exact .inr ⟨zC (fail i c om a b),λh=>b (h i c om)⟩
 exact key (N - i0) i0 om (gl _) λj l k=>by omega
def zks{α:Type}(l:List α)(h:l.length<=2000000)(p:α->Option Bool)(q:α->Bool)(hp:∀b∈l,p b=some (q b))(F:Int->Option (Int ⊕ (Unit ⊕ Int)))(hF:∀i,F i=if decide (i<(l.length:Int))then((idx l i).bind λx=>(p x).bind λb=>if b then(some (.inr (.inr i)))else(some (.inl (w64 (i+1)))))else(some (.inr (.inl ())))):
  (iter F 0=some (.inl ())/\∀b∈l,q b=false)\/(∃k:Nat,iter F 0=some (.inr (k:Int))/\k<l.length/\(∀(j:Nat) b,j<k->l[j]?=some b->q b=false)/\∃b,l[k]?=some b/\q b=true):=by
 have key:=zz (F:=F) (λi=>0<=i/\i<=l.length/\∀(j:Nat) b,(j:Int)<i->l[j]?=some b->q b=false) (λi=>(l.length - i).toNat)
  (λz=>match z with | .inl _=>∀b∈l,q b=false | .inr i=>∃k:Nat,i=k/\k<l.length/\(∀(j:Nat) b,j<k->l[j]?=some b->q b=false)/\∃b,l[k]?=some b/\q b=true) ?_ 0 ⟨by omega,by omega,λj b f=>by omega⟩
 ·obtain⟨z,r,n⟩:=key;cases z with
  | inl z=>exact .inl ⟨r,n⟩
  | inr i=>
   obtain⟨k,rfl,e⟩:=n;exact .inr ⟨k,r,e⟩
 ·rintro i ⟨t,u,a⟩;obtain⟨k,rfl⟩:=bf t;rw[hF];by_cases c:k<l.length
  ·have e:l[k]?=some l[k]:=cz c;have g:=hp l[k] (dx c);have s:w64 ((k:Int)+1)=(k:Int)+1:=zu om om;have hd:((k:Int)<(l.length:Int)):=by omega
   simp only[hd,decide_true,if_true,zq e,ic,g,s];cases hq:q l[k]with
   | true=>right;exact⟨_,rfl,k,rfl,c,λj b f=>a j b om,_,e,hq⟩
   | false=>
    left;refine⟨_,rfl,⟨by omega,by omega,λj b f d=>?_⟩,by omega⟩;by_cases m:j=k
    ·subst m;rw[e]at d;injection d with d;rw[←d];exact hq
    ·exact a j b om d
  ·right;have hd:¬((k:Int)<(l.length:Int)):=by omega
   simp only[hd,decide_false];refine⟨_,rfl,?_⟩;intro b d;obtain⟨j,f⟩:=dj d;exact a j b (by have:=zA f;omega) f
abbrev Gl:=List UInt8×Int
abbrev Tl:=List UInt8×List Int
abbrev TSet:=List Gl×List Tl
abbrev Pt:=Int×Int
abbrev Plc:=(Int×Int)×Int
def zhj(c:UInt8):Bool:=(decide (97<=(c.toNat:Int))&&decide ((c.toNat:Int)<=122))||(decide (65<=(c.toNat:Int))&&decide ((c.toNat:Int)<=90))
def zn9(c:UInt8):Bool:=decide (48<=(c.toNat:Int))&&decide ((c.toNat:Int)<=57)
def NameOk(s:List UInt8):Prop:=1<=s.length/\s.length<=12/\∀(i:Nat)(c:UInt8),s[i]?=some c->zhj c=true\/(1<=i/\(zn9 c=true\/(c.toNat:Int)=95))
def zpz(c:UInt8):zgA (c.toNat:Int)=some (zhj c):=by
 unfold zgA zhj;by_cases a:97<=(c.toNat:Int)<;>by_cases b:(c.toNat:Int)<=122<;>by_cases e:65<=(c.toNat:Int)<;>by_cases d:(c.toNat:Int)<=90<;>simp[*]<;>omega
def zun(c:UInt8):zkJ (c.toNat:Int)=some (zn9 c):=by
 unfold zkJ zn9;by_cases a:48<=(c.toNat:Int)<;>by_cases b:(c.toNat:Int)<=57<;>simp[*]<;>omega
def zw7(s:List UInt8)(h:s.length<=2000000):∃b,zgE s=some b/\(b=true↔NameOk s):=by
 unfold zgE zgD;by_cases t:s.length<1
 ·rw[if_pos so,if_pos rfl];exact⟨_,rfl,by simp;unfold NameOk;omega⟩
 ·rw[if_neg so];by_cases r:s.length>12
  ·rw[if_pos so,if_pos rfl];exact⟨_,rfl,by simp;unfold NameOk;omega⟩
  ·rw[if_neg so];have g:s[0]?=some s[0]:=cz om;have n:idx s 0=some s[0]:=zq (i:=0) g;simp only[n,ic,zpz];cases hl:zhj s[0]with
   | false=>
    refine⟨false,rfl,by simp;rintro⟨_,_,p⟩;have:=p 0 _ g;rw[hl]at this;simp at this⟩
   | true=>
    rw[if_neg si];have key:=zkU (λi=>(i:Int)) 1 s.length (λi=>∀c,s[i]?=some c->zhj c=true\/zn9 c=true\/(c.toNat:Int)=95) (zbW s) om ?_ ?_ ?_;rcases key with⟨j,k⟩ |⟨j,hnot⟩
    ·have j:iter (zbW s) 1=some (.inl ()):=j;rw[j];refine⟨true,rfl,λ_=>⟨by omega,by omega,λi c a=>?_⟩,λ_=>rfl⟩;cases i with
     | zero=>rw[g]at a;injection a with a;rw[←a];exact .inl hl
     | succ i=>
      rcases k (i+1) om (zA a) c a with h | h
      ·exact .inl h
      ·exact .inr ⟨by omega,h⟩
    ·have j:iter (zbW s) 1=some (.inr false):=j;rw[j];refine⟨false,rfl,λh=>(by cases h),λq=>absurd (λi l hi c a=>?_) hnot⟩;rcases q.2.2 i c a with h | h
     ·exact .inl h
     ·exact .inr h.2
    ·intro i l hi _ f;unfold zbW;have a:s[i]?=some s[i]:=cz hi;rw[if_pos (by simp[hi])];simp only[zq a,ic,zpz,zun];have m:w64 ((i:Int)+1)=((i+1:Nat):Int):=by rw[zu om om];omega
     unfold zeP;rcases f _ a with h | h | h
     ·simp[h,m]
     ·simp[h,m]
     ·simp[h,m]
    ·intro i l hi _ f;unfold zbW;have a:s[i]?=some s[i]:=cz hi;rw[if_pos (by simp[hi])];simp only[zq a,ic,zpz,zun];unfold zeP;have d:¬(zhj s[i]=true\/zn9 s[i]=true\/(s[i].toNat:Int)=95):=λh=>f λc e=>by rw[a]at e;injection e with e;rw[←e];exact h
     simp only[not_or,Bool.not_eq_true]at d;simp[d.1,d.2.1,d.2.2]
    ·intro _;unfold zbW;rw[if_neg si]
def zxL(s:List UInt8)(h:s.length<=2000000):∃b,zgW s=some b/\(b=true↔NameOk s):=by
 have e:∀(i:Nat)(c:UInt8),s[i]?=some c->zb2 s (i:Int)=zbd (i:Int) c (zhj c):=by
  intro i c d;have hi:=zA d;unfold zb2;rw[if_pos (by simp[hi])];simp only[zq d,ic];unfold zhj;by_cases t:97<=(c.toNat:Int)<;>by_cases w:(c.toNat:Int)<=122<;>by_cases y:65<=(c.toNat:Int)<;>by_cases x:(c.toNat:Int)<=90<;>simp[*]<;>omega
 unfold zgW zmT;have key:=zkU (λi=>(i:Int)) 0 s.length (λi=>∀c,s[i]?=some c->zhj c=true\/(1<=i/\(zn9 c=true\/(c.toNat:Int)=95))) (zb2 s) om ?_ ?_ ?_;rcases key with⟨j,q⟩ |⟨j,hnot⟩
 ·have j:iter (zb2 s) 0=some (.inl ()):=j;rw[j];by_cases t:1<=s.length
  ·refine⟨decide ((s.length:Int)<=12),by simp;omega,?_⟩;simp only[decide_eq_true_eq];exact⟨λw=>⟨t,by omega,λi c d=>q i om (zA d) c d⟩,λp=>by have:=p.2.1;omega⟩
  ·refine⟨false,by simp;intro h;omega,λh=>(by cases h),λp=>absurd p.1 t⟩
 ·have j:iter (zb2 s) 0=some (.inr false):=j;rw[j];exact⟨false,rfl,λh=>(by cases h),λp=>absurd (λi _ hi c d=>p.2.2 i c d) hnot⟩
 ·intro i v hi _ k;have d:s[i]?=some s[i]:=cz hi;rw[e i _ d];have n:w64 ((i:Int)+1)=((i+1:Nat):Int):=by rw[zu om om];omega
  unfold zbd zb3;rcases k _ d with h |⟨h0,h | h⟩
  ·simp[h,n]
  ·unfold zn9 at h;simp at h;cases u:zhj s[i]with
   | true=>simp[n]
   | false=>
    have l:¬((i:Int)=0):=by omega
    have m:¬((s[i].toNat:Int)<48):=by omega
    have r:¬((s[i].toNat:Int)>57):=by omega
    simp only[l,m,r,decide_false];simp[n]
  ·cases u:zhj s[i]with
   | true=>simp[n]
   | false=>
    have l:¬((i:Int)=0):=by omega
    have m:¬((s[i].toNat:Int)<48):=by omega
    have r:((s[i].toNat:Int)>57):=by omega
    simp only[l,m,r,decide_false,decide_true,h];simp[n]
 ·intro i v hi _ k;have d:s[i]?=some s[i]:=cz hi;rw[e i _ d];unfold zbd zb3;have g:¬(zhj s[i]=true\/(1<=i/\(zn9 s[i]=true\/(s[i].toNat:Int)=95))):=λh=>k λc f=>by rw[d]at f;injection f with f;rw[←f];exact h
  rw[not_or]at g;have u:zhj s[i]=false:=by simpa using g.1
  rw[u];by_cases l:(i:Int)=0
  ·simp[l]
  ·have a:¬(zn9 s[i]=true\/(s[i].toNat:Int)=95):=λh=>g.2 ⟨by omega,h⟩;rw[not_or]at a;have hd:=a.1;unfold zn9 at hd;simp at hd;by_cases m:(s[i].toNat:Int)<48
   ·simp only[l,m,decide_false,decide_true,a.2];simp
   ·have r:(s[i].toNat:Int)>57:=by omega
    simp only[l,m,r,decide_false,decide_true,a.2];simp
 ·intro _;unfold zb2;rw[if_neg si]
def zho(s:List UInt8)(h:s.length<=2000000):∃b,zgW s=some b/\zgE s=some b/\(b=true↔NameOk s):=by
 obtain⟨a,c,d⟩:=zxL s h;obtain⟨b,e,f⟩:=zw7 s h;have:a=b:=by
  cases a<;>cases b<;>simp_all
 subst this;exact⟨a,c,e,d⟩
def zbe(a b c:Int):zaA a b c=some (decide (b<=a/\a<=c)):=by
 unfold zaA;by_cases d:a≥b<;>by_cases e:a<=c<;>simp[*]<;>omega
def zdh(a b c:Int):zaq a b c=some (decide (b<=a/\a<=c)):=by
 unfold zaq;by_cases d:a≥b<;>by_cases e:a<=c<;>simp[*]<;>omega
def GlueOk(set:TSet)(i:Nat):Prop:=∀g,set.1[i]?=some g->NameOk g.1/\1<=g.2/\g.2<=4/\∀(j:Nat)(g':Gl),j<i->set.1[j]?=some g'->g'.1≠g.1
def TileOk(set:TSet)(i:Nat):Prop:=∀t,set.2[i]?=some t->NameOk t.1/\t.2.length=4/\(∀(j:Nat)(t':Tl),j<i->set.2[j]?=some t'->t'.1≠t.1)/\∀x∈t.2,0<=x/\x<=set.1.length
structure SetOk(set:TSet):Prop where
 glues:set.1.length<=200
 tiles1:1<=set.2.length
 tiles:set.2.length<=160
 glue:∀i,i<set.1.length->GlueOk set i
 tile:∀i,i<set.2.length->TileOk set i
structure Tame(set:TSet):Prop where
 g:set.1.length<=1048576
 t:set.2.length<=1048576
 gn:∀x∈set.1,x.1.length<=1048576
 tn:∀x∈set.2,x.1.length<=1048576
 ts:∀x∈set.2,x.2.length<=1048576
def zoM{α:Type}(l:List (List UInt8×α))(s:List UInt8):(zdw (l.map λg=>(g.1,true)) s).getD false=true↔∃g∈l,g.1=s:=by
 induction l with
 | nil=>simp[zdw]
 | cons g l ih=>
  unfold zdw at ih ⊢;rw[fd,List.find?_cons];by_cases h:g.1=s
  ·simp[h]
  ·simp only[h,decide_false];rw[ih];simp[h]
def zym{α:Type}(l:List (List UInt8×α))(s:List UInt8):zhK (l.map λg=>(g.1,true)) s=true↔∃g∈l,g.1=s:=by
 rw[zxw];simp
def zuA{α:Type}{l:List (List UInt8×α)}{g:List UInt8×α}(h:¬ ∃g'∈l,g'.1=g.1):zbX (l.map λg=>(g.1,true)) g.1 true=(l++[g]).map λg=>(g.1,true):=by
 rw[zxt (by cases hh:zhK (l.map λg=>(g.1,true)) g.1 with | false=>rfl | true=>exact absurd ((zym l g.1).1 hh) h)];simp
def zoa{α:Type}{l:List α}{i:Nat}{x:α}(h:l[i]?=some x):l.take (i+1)=l.take i++[x]:=by
 rw[gc,h];rfl
def znB{α:Type}{l:List α}{i:Nat}{P:α->Prop}(hi:i<=l.length):(∃g∈l.take i,P g)↔∃(j:Nat)(g:α),j<i/\l[j]?=some g/\P g:=by
 constructor
 ·rintro⟨g,c,b⟩;obtain⟨j,a⟩:=dj c;have:=zA a;rw[ey]at this;rw[dv,if_pos om]at a;exact⟨j,g,by omega,a,b⟩
 ·rintro⟨j,g,a,c,b⟩;exact⟨g,fo (i:=j) (by rw[dv,if_pos a];exact c),b⟩
def zpN(l:List Int)(m:Int):Bool:=l.all λx=>decide (0<=x/\x<=m)
def zoI{l:List Int}{m:Int}:zpN l m=true↔∀x∈l,0<=x/\x<=m:=by
 unfold zpN;simp
def zqe(l:List Int)(hl:l.length<=1048576)(set:TSet):zce l (λq0=>zbG q0 set)=some (!zpN l set.1.length):=by
 unfold zce zgF zeT;have hp:∀b∈l,(λq0=>zbG q0 set) b=some (!decide (0<=b/\b<=(set.1.length:Int))):=by
  intro b _;simp only[zbG,zbe,ic]
 rcases zks l om (λq0=>zbG q0 set) (λb=>!decide (0<=b/\b<=(set.1.length:Int))) hp (zeS l λq0=>zbG q0 set) (λi=>rfl)with⟨c,a⟩ |⟨k,c,hk,_,b,hb,hq⟩
 ·rw[c];have:zpN l set.1.length=true:=by
   rw[zoI];intro x d;have:=a x d;simpa using this
  simp[this]
 ·rw[c];have:zpN l set.1.length=false:=by
   cases h:zpN l set.1.length with
   | false=>rfl
   | true=>
    have e:=zoI.1 h b (fo hb);simp at hq;omega
  simp[this]
def zvm(set:TSet)(hT:Tame set):∃b,zh5 set=some b/\(b=true↔SetOk set):=by
 unfold zh5 zht;by_cases E:(set.1.length:Int)>200
 ·rw[if_pos so,if_pos rfl];exact⟨_,rfl,λh=>(by cases h),λh=>by have:=h.glues;omega⟩
 rw[if_neg so,zbe];simp only[ic];by_cases D:1<=(set.2.length:Int)/\(set.2.length:Int)<=160
 rotate_left
 ·rw[if_pos so];exact⟨_,rfl,λh=>(by cases h),λh=>absurd ⟨by have:=h.tiles1;omega,by have:=h.tiles;omega⟩ D⟩
 rw[if_neg so];have key:=zkU (λi=>((i:Int),(set.1.take i).map λg=>(g.1,true))) 0 set.1.length (GlueOk set) (zaW set) om ?_ ?_ ?_;rcases key with⟨r,x⟩ |⟨r,hnot⟩
 ·have r:iter (zaW set) (0,[])=some (.inl ()):=r;rw[r];simp only[ic];unfold zkx zkw;have key:=zkU (λi=>((i:Int),(set.2.take i).map λg=>(g.1,true))) 0 set.2.length (TileOk set) (zaV set) om ?_ ?_ ?_;rcases key with⟨f,v⟩ |⟨f,hnot2⟩
  ·have f:iter (zaV set) (0,[])=some (.inl ()):=f;rw[f];exact⟨true,rfl,λ_=>⟨by omega,by omega,by omega,λi hi=>x i om hi,λi hi=>v i om hi⟩,λ_=>rfl⟩
  ·have f:iter (zaV set) (0,[])=some (.inr false):=f;rw[f];exact⟨false,rfl,λh=>(by cases h),λh=>absurd (λi _ hi=>h.tile i hi) hnot2⟩
  ·intro i _ hi _ k;have m:set.2[i]?=some set.2[i]:=cz hi;obtain⟨o1,o2,A,B⟩:=k _ m;obtain⟨b,p,_,l⟩:=zho set.2[i].1 (by have:=hT.tn _ (dx hi);omega);have w:b=true:=l.2 o1;subst w;have a:¬ ∃g∈set.2.take i,g.1=set.2[i].1:=by
    rw[znB om];rintro⟨j,g,u,q,e⟩;exact A j g u q e
   have c:(zdw ((set.2.take i).map λg=>(g.1,true)) set.2[i].1).getD false=false:=by
    cases hh:(zdw ((set.2.take i).map λg=>(g.1,true)) set.2[i].1).getD false with
    | false=>rfl
    | true=>exact absurd ((zoM _ _).1 hh) a
   have z:w64 ((i:Int)+1)=((i+1:Nat):Int):=by rw[zu om om];omega
   unfold zaV zc5;rw[if_pos (by simp[hi])];simp only[zq m,ic,p,c,zqe _ (by omega:set.2[i].2.length<=1048576),z,zuA a,←zoa m,o2];have:zpN set.2[i].2 set.1.length=true:=zoI.2 B;simp[this]
  ·intro i _ hi _ k;have m:set.2[i]?=some set.2[i]:=cz hi;obtain⟨b,p,_,l⟩:=zho set.2[i].1 (by have:=hT.tn _ (dx hi);omega);unfold zaV zc5;rw[if_pos (by simp[hi])];simp only[zq m,ic,p];cases b with
   | false=>simp
   | true=>
    rw[if_neg si];have d:=l.1 rfl;cases c:(zdw ((set.2.take i).map λg=>(g.1,true)) set.2[i].1).getD false with
    | true=>simp
    | false=>
     rw[if_neg si];have a:¬ ∃g∈set.2.take i,g.1=set.2[i].1:=λh=>by
      rw[(zoM _ _).2 h]at c;cases c
     rw[znB om]at a;by_cases C:set.2[i].2.length=4
     ·simp only[C];rw[if_neg si,zqe _ om];have:¬zpN set.2[i].2 set.1.length=true:=λy=>k λt n=>by
       rw[m]at n;injection n with n;subst n
       exact⟨d,C,λj t' u s e=>a ⟨j,t',u,s,e⟩,zoI.1 y⟩
      simp[this]
     ·rw[if_pos so]
  ·intro _;unfold zaV;rw[if_neg si]
 ·have r:iter (zaW set) (0,[])=some (.inr false):=r;rw[r];exact⟨false,rfl,λh=>(by cases h),λh=>absurd (λi _ hi=>h.glue i hi) hnot⟩
 ·intro i _ hi _ k;have m:set.1[i]?=some set.1[i]:=cz hi;obtain⟨o1,o2,A,B⟩:=k _ m;obtain⟨b,p,_,l⟩:=zho set.1[i].1 (by have:=hT.gn _ (dx hi);omega);have w:b=true:=l.2 o1;subst w;have a:¬ ∃g∈set.1.take i,g.1=set.1[i].1:=by
   rw[znB om];rintro⟨j,g,u,q,e⟩;exact B j g u q e
  have c:(zdw ((set.1.take i).map λg=>(g.1,true)) set.1[i].1).getD false=false:=by
   cases hh:(zdw ((set.1.take i).map λg=>(g.1,true)) set.1[i].1).getD false with
   | false=>rfl
   | true=>exact absurd ((zoM _ _).1 hh) a
  have z:w64 ((i:Int)+1)=((i+1:Nat):Int):=by rw[zu om om];omega
  unfold zaW zc4;rw[if_pos (by simp[hi])];simp only[zq m,ic,p,c,zbe,z,zuA a,←zoa m];simp[o2,A]
 ·intro i _ hi _ k;have m:set.1[i]?=some set.1[i]:=cz hi;obtain⟨b,p,_,l⟩:=zho set.1[i].1 (by have:=hT.gn _ (dx hi);omega);unfold zaW zc4;rw[if_pos (by simp[hi])];simp only[zq m,ic,p,zbe];cases b with
  | false=>simp
  | true=>
   rw[if_neg si];have d:=l.1 rfl;cases c:(zdw ((set.1.take i).map λg=>(g.1,true)) set.1[i].1).getD false with
   | true=>simp
   | false=>
    rw[if_neg si];have a:¬ ∃g∈set.1.take i,g.1=set.1[i].1:=λh=>by
     rw[(zoM _ _).2 h]at c;cases c
    rw[znB om]at a;have:¬(1<=set.1[i].2/\set.1[i].2<=4):=λy=>k λt n=>by
     rw[m]at n;injection n with n;subst n
     exact⟨d,y.1,y.2,λj t' u s e=>a ⟨j,t',u,s,e⟩⟩
    simp[this]
 ·intro _;unfold zaW;rw[if_neg si]
def zvB(set:TSet)(h:set.1.length<=1048576)(s:List UInt8):
  (zhe set s=some 0/\∀g∈set.1,g.1≠s)\/∃k:Nat,zhe set s=some ((k:Int)+1)/\k<set.1.length/\(∀(j:Nat) g,j<k->set.1[j]?=some g->g.1≠s)/\∃g,set.1[k]?=some g/\g.1=s:=by
 unfold zhe zli;have key:=zz (F:=zic set s) (λi=>0<=i/\i<=set.1.length/\∀(j:Nat) g,(j:Int)<i->set.1[j]?=some g->g.1≠s) (λi=>(set.1.length - i).toNat)
  (λz=>match z with | .inl _=>∀g∈set.1,g.1≠s | .inr i=>∃k:Nat,i=(k:Int)+1/\k<set.1.length/\(∀(j:Nat) g,j<k->set.1[j]?=some g->g.1≠s)/\∃g,set.1[k]?=some g/\g.1=s) ?_ 0 ⟨by omega,by omega,λj b f=>by omega⟩
 ·obtain⟨z,r,n⟩:=key;rw[r];cases z with
  | inl z=>exact .inl ⟨rfl,n⟩
  | inr i=>
   obtain⟨k,rfl,e⟩:=n;exact .inr ⟨k,rfl,e⟩
 ·rintro i ⟨q,t,a⟩;obtain⟨k,rfl⟩:=bf q;unfold zic;by_cases c:k<set.1.length
  ·have e:set.1[k]?=some set.1[k]:=cz c;have p:w64 ((k:Int)+1)=(k:Int)+1:=zu om om;rw[if_pos (by simp[c])];simp only[zq e,ic,p];by_cases l:set.1[k].1=s
   ·right;rw[if_pos (by simp[l])];exact⟨_,rfl,k,rfl,c,λj b f=>a j b om,_,e,l⟩
   ·left;rw[if_neg (by simp[l])];refine⟨_,rfl,⟨by omega,by omega,λj b f d=>?_⟩,by omega⟩;by_cases m:j=k
    ·subst m;rw[e]at d;injection d with d;rw[←d];exact l
    ·exact a j b om d
  ·right;rw[if_neg so];refine⟨_,rfl,?_⟩;intro b d;obtain⟨j,f⟩:=dj d;exact a j b (by have:=zA f;omega) f
def zvy(set:TSet)(h:set.2.length<=1048576)(s:List UInt8):
  (zhd set s=some (-1)/\∀g∈set.2,g.1≠s)\/∃k:Nat,zhd set s=some (k:Int)/\k<set.2.length/\(∀(j:Nat) g,j<k->set.2[j]?=some g->g.1≠s)/\∃g,set.2[k]?=some g/\g.1=s:=by
 unfold zhd zlh;rcases zks set.2 om (λt=>some (decide (t.1=s))) (λt=>decide (t.1=s)) (λ_ _=>rfl) (zlg set s) (λi=>rfl)with⟨d,a⟩ |⟨k,d,hk,hlow,b,hb,hq⟩
 ·rw[d];exact .inl ⟨rfl,λg c=>by simpa using a g c⟩
 ·rw[d];exact .inr ⟨k,rfl,hk,λj g e c=>by simpa using hlow j g e c,b,hb,by simpa using hq⟩
def zue(set:TSet)(t:Tl)(h4:t.2.length=4):(iter (zfY set t) 0=some (.inl ())/\∀x∈t.2,0<=x/\x<=(set.1.length:Int))\/(iter (zfY set t) 0=some (.inr (.inr (.inr false)))/\¬ ∀x∈t.2,0<=x/\x<=(set.1.length:Int)):=by
 have key:=zz (F:=zfY set t) (λi=>0<=i/\i<=4/\∀(j:Nat) x,(j:Int)<i->t.2[j]?=some x->0<=x/\x<=(set.1.length:Int)) (λi=>(4 - i).toNat)
  (λz=>(z=.inl ()/\∀x∈t.2,0<=x/\x<=(set.1.length:Int))\/(z=.inr (.inr (.inr false))/\¬ ∀x∈t.2,0<=x/\x<=(set.1.length:Int))) ?_ 0 ⟨by omega,by omega,λj b f=>by omega⟩
 ·obtain⟨z,m,p⟩:=key;rcases p with⟨rfl,h⟩ |⟨rfl,h⟩
  ·exact .inl ⟨m,h⟩
  ·exact .inr ⟨m,h⟩
 ·rintro i ⟨q,r,a⟩;obtain⟨k,rfl⟩:=bf q;unfold zfY;by_cases d:(k:Int)<4
  ·have g:t.2[k]?=some (t.2[k]'om):=cz om;have n:w64 ((k:Int)+1)=(k:Int)+1:=zu om om;rw[if_pos (by simpa using d)];simp only[zq g,ic,n,zdh];by_cases e:0<=t.2[k]'om/\t.2[k]'om<=(set.1.length:Int)
   ·left;rw[if_neg (by simp[e])];refine⟨_,rfl,⟨by omega,by omega,λj b f c=>?_⟩,by omega⟩;by_cases l:j=k
    ·subst l;rw[g]at c;injection c with c;rw[←c];exact e
    ·exact a j b om c
   ·right;rw[if_pos (by simp only[e,decide_false];rfl)];exact⟨_,rfl,.inr ⟨rfl,λh=>e (h _ (fo g))⟩⟩
  ·right;rw[if_neg (by simpa using d)];refine⟨_,rfl,.inl ⟨rfl,?_⟩⟩;intro b c;obtain⟨j,f⟩:=dj c;exact a j b (by have:=zA f;omega) f
def zvc(set:TSet)(hT:Tame set):∃b,zki set=some b/\(b=true↔SetOk set):=by
 unfold zki zhZ;by_cases E:(set.1.length:Int)>200
 ·rw[if_pos so,if_pos rfl];exact⟨_,rfl,λh=>(by cases h),λh=>by have:=h.glues;omega⟩
 rw[if_neg so];by_cases C:(set.2.length:Int)<1
 ·rw[if_pos (by simpa using C),if_pos rfl];exact⟨_,rfl,λh=>(by cases h),λh=>by have:=h.tiles1;omega⟩
 rw[if_neg (by simpa using C)];by_cases D:(set.2.length:Int)>160
 ·rw[if_pos (by simpa using D)];exact⟨_,rfl,λh=>(by cases h),λh=>by have:=h.tiles;omega⟩
 rw[if_neg (by simpa using D)];have key:=zkU (λi=>(i:Int)) 0 set.1.length (GlueOk set) (zcW set) om ?_ ?_ ?_;rcases key with⟨p,w⟩ |⟨p,hnot⟩
 ·have p:iter (zcW set) 0=some (.inl ()):=p;rw[p];simp only[ic];unfold znM znL;have key:=zkU (λi=>(i:Int)) 0 set.2.length (TileOk set) (zcV set) om ?_ ?_ ?_;rcases key with⟨c,r⟩ |⟨c,hnot2⟩
  ·have c:iter (zcV set) 0=some (.inl ()):=c;rw[c];exact⟨true,rfl,λ_=>⟨by omega,by omega,by omega,λi hi=>w i om hi,λi hi=>r i om hi⟩,λ_=>rfl⟩
  ·have c:iter (zcV set) 0=some (.inr false):=c;rw[c];exact⟨false,rfl,λh=>(by cases h),λh=>absurd (λi _ hi=>h.tile i hi) hnot2⟩
  ·intro i _ hi _ d;have m:set.2[i]?=some set.2[i]:=cz hi;obtain⟨o1,o2,z,A⟩:=d _ m;obtain⟨b,_,n,f⟩:=zho set.2[i].1 (by have:=hT.tn _ (dx hi);omega);have s:b=true:=f.2 o1;subst s;have v:w64 ((i:Int)+1)=((i+1:Nat):Int):=by rw[zu om om];omega
   have l:zhd set set.2[i].1=some (i:Int):=by
    rcases zvy set hT.t set.2[i].1 with⟨_,h⟩ |⟨k,hk,hkl,hlow,g,hg',e⟩
    ·exact absurd rfl (h _ (dx hi))
    ·rw[hk];congr 2;rcases gv k i with h | h | h
     ·exact absurd e (z k g h hg')
     ·exact h
     ·exact absurd rfl (hlow i _ h m)
   unfold zcV zf0 zkI;rw[if_pos (by simp[hi])];rcases zue set set.2[i] o2 with⟨hs,_⟩ |⟨_,hs⟩
   ·simp[zq m,n,o2,l,hs,v]
   ·exact absurd A hs
  ·intro i _ hi _ d;have m:set.2[i]?=some set.2[i]:=cz hi;obtain⟨b,_,n,f⟩:=zho set.2[i].1 (by have:=hT.tn _ (dx hi);omega);unfold zcV zf0 zkI;rw[if_pos (by simp[hi])];simp only[zq m,ic,n];cases b with
   | false=>simp
   | true=>
    rw[if_neg si];have a:=f.1 rfl;by_cases y:set.2[i].2.length=4
    rotate_left
    ·rw[if_pos so];rfl
    rw[if_neg (by simp[y])];rcases zvy set hT.t set.2[i].1 with⟨_,h⟩ |⟨k,hk,hkl,hlow,g,hg',e⟩
    ·exact absurd rfl (h _ (dx hi))
    ·simp only[hk,ic];by_cases u:k=i
     ·subst u;rw[if_neg si];rcases zue set set.2[k] y with⟨_,hs⟩ |⟨hs,_⟩
      ·refine absurd (λt l=>?_) d;rw[m]at l;injection l with l;subst l
       exact⟨a,y,λj t' B q=>hlow j t' B q,hs⟩
      ·simp[hs]
     ·rw[if_pos so]
  ·intro _;unfold zcV;rw[if_neg si]
 ·have p:iter (zcW set) 0=some (.inr false):=p;rw[p];exact⟨false,rfl,λh=>(by cases h),λh=>absurd (λi _ hi=>h.glue i hi) hnot⟩
 ·intro i _ hi _ d;have m:set.1[i]?=some set.1[i]:=cz hi;obtain⟨o1,o2,z,A⟩:=d _ m;obtain⟨b,_,n,f⟩:=zho set.1[i].1 (by have:=hT.gn _ (dx hi);omega);have s:b=true:=f.2 o1;subst s;have v:w64 ((i:Int)+1)=((i+1:Nat):Int):=by rw[zu om om];omega
  have l:zhe set set.1[i].1=some ((i+1:Nat):Int):=by
   rcases zvB set hT.g set.1[i].1 with⟨_,h⟩ |⟨k,hk,hkl,hlow,g,hg',e⟩
   ·exact absurd rfl (h _ (dx hi))
   ·rw[hk];congr 1;have:k=i:=by
     rcases gv k i with h | h | h
     ·exact absurd e (A k g h hg')
     ·exact h
     ·exact absurd rfl (hlow i _ h m)
    omega
  unfold zcW zfZ;rw[if_pos (by simp[hi])];simp[zq m,n,l,v,zdh,o2,z]
 ·intro i _ hi _ d;have m:set.1[i]?=some set.1[i]:=cz hi;obtain⟨b,_,n,f⟩:=zho set.1[i].1 (by have:=hT.gn _ (dx hi);omega);have v:w64 ((i:Int)+1)=((i+1:Nat):Int):=by rw[zu om om];omega
  unfold zcW zfZ;rw[if_pos (by simp[hi])];simp only[zq m,ic,n,zdh];cases b with
  | false=>simp
  | true=>
   rw[if_neg si];have a:=f.1 rfl;by_cases x:1<=set.1[i].2/\set.1[i].2<=4
   rotate_left
   ·rw[if_pos (by simp only[x,decide_false];rfl)];rfl
   rw[if_neg (by simp[x])];rcases zvB set hT.g set.1[i].1 with⟨_,h⟩ |⟨k,hk,hkl,hlow,g,hg',e⟩
   ·exact absurd rfl (h _ (dx hi))
   ·simp only[hk,ic,v];have u:k≠i:=λh=>by
     subst h;exact d λt l=>by
      rw[m]at l;injection l with l;subst l
      exact⟨a,x.1,x.2,λj t' B q=>hlow j t' B q⟩
    rw[if_pos so]
 ·intro _;unfold zcW;rw[if_neg si]
def zpw(set:TSet)(hT:Tame set):∃b,zh5 set=some b/\zki set=some b/\(b=true↔SetOk set):=by
 obtain⟨a,c,d⟩:=zvm set hT;obtain⟨b,e,f⟩:=zvc set hT;have:a=b:=by
  cases a<;>cases b<;>simp_all
 subst this;exact⟨a,c,e,d⟩
end Go.Lf
