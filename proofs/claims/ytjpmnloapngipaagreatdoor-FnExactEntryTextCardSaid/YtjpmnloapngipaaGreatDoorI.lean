import Derived.Test.YtjpmnloapngipaaGreatDoorC
set_option linter.all false
namespace Go.Lf
open Go
theorem zgA {α:Type} {l:List α} {i:Int} {x:α} (h0:0<=i) (h:l[i.toNat]?=some x):idx l i=some x:=by
 unfold idx;rw [if_pos h0];exact h
theorem zxv {α:Type} {l:List α} {i:Int} (h0:0<=i) (h1:i<l.length):idx l i=some (l[i.toNat]'(by omega)):=
 zgA h0 (by rw [cm (by omega)])
theorem zR {α:Type} {l:List α} {i:Int} (h0:0<=i) (h1:i<l.length):∃ x,idx l i=some x/\l[i.toNat]?=some x:=
 ⟨_,zxv h0 h1,by rw [cm (by omega)]⟩
theorem zaf {α:Type} {bytes:Nat} {l l2:List α} (h:(l.length+l2.length)*bytes<=140737488355328) (h2:l.length+l2.length<=9223372036854775807):app bytes l l2=some (l++l2):=by
 unfold app;rw [if_pos ⟨h,h2⟩]
theorem zm0 {α:Type} {bytes:Nat} {n:Int} {z:α} (h0:0<=n) (h1:n<=2000000) (hb:bytes<=1000):mkl bytes n z=some (List.replicate n.toNat z):=by
 have a:n*bytes<=2000000*1000:=Int.mul_le_mul h1 (by omega) (by omega) (by omega);unfold mkl;rw [if_pos ⟨h0,by omega,by omega⟩]
theorem zu {n:Int} (h0 : -1000000000000<=n) (h1:n<=1000000000000):w64 n=n:=zmL ⟨by omega,by omega⟩
theorem zX {α:Type} {l:List α} {i:Nat} {x:α} (h:i<l.length):(l.set i x)[i]?=some x:=by simp [h]
theorem zL {α:Type} {l:List α} {i j:Nat} {x:α} (h:i≠j):(l.set i x)[j]?=l[j]?:=by simp [h]
theorem zy {α:Type} {l:List α} {i:Nat} {x:α} (h:l[i]?=some x):i<l.length:=(co.1 h).1
theorem zl7 {α:Type} (p:α->Bool):∀ {l:List α} {i:Nat} {x y:α},l[i]?=some x->p x=true->p y=false->(l.set i y).countP p+1=l.countP p
 | [],i,x,y,h,_,_=>by simp at h
 | a::l,0,x,y,h,hx,hy=>by
  simp at h;subst h;simp [hx,hy]
 | a::l,i+1,x,y,h,hx,hy=>by
  simp at h;have:=zl7 p h hx hy;simp only [List.set_cons_succ,List.countP_cons];omega
abbrev Bd:=Int×Int×Int
def ind (b:Bool):Int:=if b=true then 1 else 0
def zf6 (S:Int->Bool):List Bd->Int
 | []=>0
 | b::bs=>(if S b.1=S b.2.1 then 0 else b.2.2)+zf6 S bs
def zdi (S:Int->Bool):List Bd->List Int->Int
 | b::bs,f::fl=>f*(ind (S b.1) - ind (S b.2.1))+zdi S bs fl
 | _,_=>0
theorem zo4 {S:Int->Bool}:∀ {bs:List Bd} {fl:List Int},fl.length=bs.length->(∀ (k:Nat) (b:Bd) (f:Int),bs[k]?=some b->fl[k]?=some f -> -b.2.2<=f/\f<=b.2.2)->zdi S bs fl<=zf6 S bs
 | [],fl,_,_=>by simp [zdi,zf6]
 | b::bs,[],h,_=>by simp at h
 | b::bs,f::fl,h,hf=>by
  have i:=hf 0 b f rfl rfl;have g:=zo4 (S:=S) (bs:=bs) (fl:=fl) (by simpa using h) (fun k d c e a=>hf (k+1) d c e a);simp only [zdi,zf6];cases hA:S b.1<;>cases hB:S b.2.1<;>simp [ind]<;>omega
theorem zr9 {S:Int->Bool}:∀ {bs:List Bd} {fl:List Int},fl.length=bs.length->
  (∀ (k:Nat) (b:Bd) (f:Int),bs[k]?=some b->fl[k]?=some f->(S b.1=true->S b.2.1=false->f=b.2.2)/\(S b.1=false->S b.2.1=true->f = -b.2.2))->zdi S bs fl=zf6 S bs
 | [],fl,_,_=>by simp [zdi,zf6]
 | b::bs,[],h,_=>by simp at h
 | b::bs,f::fl,h,hf=>by
  have c:=hf 0 b f rfl rfl;have d:=zr9 (S:=S) (bs:=bs) (fl:=fl) (by simpa using h) (fun k g e i a=>hf (k+1) g e i a);simp only [zdi,zf6,d];cases hA:S b.1<;>cases hB:S b.2.1<;>simp [ind]
  ·have:=c.2 hA hB;omega
  ·have:=c.1 hA hB;omega
theorem ztx {S:Int->Bool}:∀ {bs:List Bd} {fl:List Int} {k:Nat} {b:Bd} {f f':Int},bs[k]?=some b->fl[k]?=some f->
  zdi S bs (fl.set k f')=zdi S bs fl+(f' - f)*(ind (S b.1) - ind (S b.2.1))
 | [],_,k,b,f,f',h,_=>by simp at h
 | _::_,[],k,b,f,f',_,h=>by simp at h
 | b0::bs,f0::fl,0,b,f,f',h,h'=>by
  simp at h h';subst h;subst h';simp only [List.set_cons_zero,zdi];rw [Int.sub_mul];omega
 | b0::bs,f0::fl,k+1,b,f,f',h,h'=>by
  simp at h h';simp only [List.set_cons_succ,zdi];rw [ztx h h'];omega
theorem zuo {S:Int->Bool}:∀ {bs:List Bd} {m:Nat},zdi S bs (List.replicate m 0)=0
 | [],m=>by cases m<;>simp [zdi]
 | b::bs,0=>by simp [zdi]
 | b::bs,m+1=>by rw [List.replicate_succ];simp only [zdi];rw [zuo];simp
theorem zw5 {S:Int->Bool}:∀ {bs:List Bd},(∀ b∈bs,0<=b.2.2/\b.2.2<=1000)->zf6 S bs<=1000*bs.length
 | [],_=>by simp [zf6]
 | b::bs,h=>by
  have d:=h b (by simp);have e:=zw5 (S:=S) (bs:=bs) (fun c a=>h c (by simp [a]));simp only [zf6,dm];split<;>omega
structure Net (n:Int) (bs:List Bd) (at_:List (List Int)) (fl:List Int):Prop where
 n0:0<=n
 n1:n<=100000
 bn:bs.length<=100000
 wb:∀ (k:Nat) (b:Bd),bs[k]?=some b->0<=b.1/\b.1<n/\0<=b.2.1/\b.2.1<n/\b.1≠b.2.1/\0<=b.2.2/\b.2.2<=1000
 alen:at_.length=n.toNat
 amem:∀ (v:Nat) (l:List Int),at_[v]?=some l->l.length<=100000/\∀ k:Int,k∈l↔(0<=k/\∃ b:Bd,bs[k.toNat]?=some b/\(b.1=v\/b.2.1=v))
 flen:fl.length=bs.length
 fok:∀ (k:Nat) (b:Bd) (f:Int),bs[k]?=some b->fl[k]?=some f -> -b.2.2<=f/\f<=b.2.2
def res (b:Bd) (f v:Int):Int:=if b.1=v then b.2.2 - f else b.2.2+f
def oth (b:Bd) (v:Int):Int:=if b.1=v then b.2.1 else b.1
section
variable {n:Int} {bs:List Bd} {at_:List (List Int)} {fl:List Int}
theorem Net.bond (h:Net n bs at_ fl) {k:Int} {b:Bd} (h0:0<=k) (hb:bs[k.toNat]?=some b):∃ f,fl[k.toNat]?=some f/\idx bs k=some b/\idx fl k=some f /\ -b.2.2<=f/\f<=b.2.2:=by
 have d:=zy hb;have a:k.toNat<fl.length:=by rw [h.flen];exact d
 have c:fl[k.toNat]?=some fl[k.toNat]:=cm a;exact ⟨_,c,zgA h0 hb,zgA h0 c,h.fok _ _ _ hb c⟩
theorem zxj (h:Net n bs at_ fl) {k v:Int} {b:Bd} {f:Int} (h0:0<=k) (hb:bs[k.toNat]?=some b) (hf:fl[k.toNat]?=some f) :
  zeq (n,bs,at_,fl) v k=some (res b f v,oth b v,(n,bs,at_,fl)):=by
 obtain ⟨j,a,hi,c,i,g⟩:=h.bond h0 hb;rw [a] at hf;obtain rfl:=Option.some.inj hf;have e:=h.wb _ _ hb;unfold zeq res oth;simp only [hi,gq,c];by_cases d:b.1=v
 ·simp only [d,decide_true,if_true];rw [zu (by omega) (by omega)]
 ·simp only [d,decide_false,if_false,ap];rw [zu (by omega) (by omega)]
structure Dist (n:Int) (bs:List Bd) (fl:List Int) (y:Int) (L:List Int):Prop where
 len:L.length=n.toNat
 goal:L[y.toNat]?=some 0
 low:∀ (v:Nat) (d:Int),L[v]?=some d -> -1<=d/\d<=n
 closed:∀ (k:Nat) (b:Bd) (f:Int) (t:Nat) (d e:Int),bs[k]?=some b->fl[k]?=some f->(b.1=t\/b.2.1=t)->L[t]?=some d->0<=d->0<res b f (oth b t)->L[(oth b t).toNat]?=some e->0<=e
 parent:∀ (v:Nat) (d:Int),L[v]?=some d->0<=d->(v:Int)≠y->∃ (k:Nat) (b:Bd) (f:Int),bs[k]?=some b/\fl[k]?=some f/\(b.1=v\/b.2.1=v)/\0<res b f v/\L[(oth b v).toNat]?=some (d - 1)/\0<=d - 1
end
theorem zvY {j:Nat} {i:Int} (h0:0<=i) (h1:j<(i+1).toNat) (h2:¬j<i.toNat):j=i.toNat:=by omega
def isNeg (x:Int):Bool:=decide (x<0)
structure BInv (n:Int) (bs:List Bd) (fl:List Int) (y:Int) (L q:List Int):Prop where
 len:L.length=n.toNat
 goal:L[y.toNat]?=some 0
 low:∀ (v:Nat) (d:Int),L[v]?=some d -> -1<=d/\d<q.length
 qlab:∀ v∈q,0<=v/\∃ d,L[v.toNat]?=some d/\0<=d
 labq:∀ (v:Nat) (d:Int),L[v]?=some d->0<=d->(v:Int)∈q
 count:q.length+L.countP isNeg=n.toNat
 parent:∀ (v:Nat) (d:Int),L[v]?=some d->0<=d->(v:Int)≠y->∃ (k:Nat) (b:Bd) (f:Int),bs[k]?=some b/\fl[k]?=some f/\(b.1=v\/b.2.1=v)/\0<res b f v/\L[(oth b v).toNat]?=some (d - 1)/\0<=d - 1
def BClosed (bs:List Bd) (fl L:List Int) (t:Int) (k:Int):Prop:=
 ∀ (b:Bd) (f:Int),bs[k.toNat]?=some b->fl[k.toNat]?=some f->0<res b f (oth b t)->∃ e,L[(oth b t).toNat]?=some e/\0<=e
theorem BClosed.mono {bs:List Bd} {fl L L':List Int} {t k:Int} (h:BClosed bs fl L t k) (hm:∀ (v:Nat) (d:Int),L[v]?=some d->0<=d->L'[v]?=some d):BClosed bs fl L' t k:=by
 intro b f j c g;obtain ⟨e,i,a⟩:=h b f j c g;exact ⟨e,hm _ _ i a,a⟩
section
variable {n:Int} {bs:List Bd} {at_:List (List Int)} {fl:List Int} {y:Int}
theorem Net.ends (h:Net n bs at_ fl) {k:Nat} {b:Bd} (hb:bs[k]?=some b) (v:Int):0<=oth b v/\oth b v<n:=by
 have:=h.wb _ _ hb;unfold oth;split<;>omega
theorem zz8 (h:Net n bs at_ fl) {k:Nat} {b:Bd} (hb:bs[k]?=some b) {v:Int} (hv:b.1=v\/b.2.1=v):w64 (w64 (b.1+b.2.1) - v)=oth b v:=by
 have a:=h.wb _ _ hb;have c:=h.n1;have e:b.1+b.2.1 - v=oth b v:=by
  unfold oth;rcases hv with rfl | rfl
  ·rw [if_pos rfl];omega
  ·rw [if_neg (by omega)];omega
 rw [zu (n:=b.1+b.2.1) (by omega) (by omega),zu (by omega) (by omega),e]
theorem zyz (h:Net n bs at_ fl) {L q:List Int} (hB:BInv n bs fl y L q) {k:Int} {b:Bd} {f t d:Int} (hb:bs[k.toNat]?=some b) (hf:fl[k.toNat]?=some f)
  (ht0:0<=t) (ht:b.1=t\/b.2.1=t) (hd:L[t.toNat]?=some d) (hd0:0<=d) (hneg:∃ e,L[(oth b t).toNat]?=some e/\e<0) (hr:0<res b f (oth b t)) :
  BInv n bs fl y (L.set (oth b t).toNat (d+1)) (q++[oth b t])/\(∀ (v:Nat) (i:Int),L[v]?=some i->0<=i->(L.set (oth b t).toNat (d+1))[v]?=some i):=by
 obtain ⟨e,u,w⟩:=hneg;have p:=h.ends hb t;have l:=zy u;have c:∀ (v:Nat) (i:Int),L[v]?=some i->0<=i->(L.set (oth b t).toNat (d+1))[v]?=some i:=by
  intro v i a j;rw [zL]
  ·exact a
  ·intro F;rw [F] at u;rw [u] at a;injection a;omega
 refine ⟨⟨by rw [dz];exact hB.len,c _ _ hB.goal (by omega),?_,?_,?_,?_,?_⟩,c⟩
 ·intro v i a;by_cases g:(oth b t).toNat=v
  ·subst g;rw [zX l] at a;have:=(hB.low _ _ hd).2;injection a with a
   rw [dl];simp;omega
  ·rw [zL g] at a;have:=hB.low _ _ a;rw [dl];simp;omega
 ·intro v a;rcases ep.1 a with a | a
  ·obtain ⟨B,i,r,s⟩:=hB.qlab v a;exact ⟨B,i,c _ _ r s,s⟩
  ·have:v=oth b t:=by simpa using a
   subst this;exact ⟨p.1,d+1,zX l,by omega⟩
 ·intro v i a j;by_cases g:(oth b t).toNat=v
  ·exact ep.2 (.inr (by simp;omega))
  ·rw [zL g] at a;exact ep.2 (.inl (hB.labq v i a j))
 ·have:=zl7 isNeg u (by simp [isNeg,w]) (by simp [isNeg];omega:isNeg (d+1)=false);have:=hB.count;rw [dl];simp;omega
 ·intro v i a j x;by_cases g:(oth b t).toNat=v
  ·have m:(v:Int)=oth b t:=by omega
   subst g;rw [zX l] at a;injection a with a
   subst a;have J:=h.wb _ _ hb;have z:oth b (oth b t)=t:=by
    unfold oth;rcases ht with rfl | rfl
    ·rw [if_pos rfl,if_neg (by omega)]
    ·by_cases r:b.1=b.2.1
     ·omega
     ·rw [if_neg r,if_pos rfl]
   refine ⟨k.toNat,b,f,hb,hf,?_,by rw [m];exact hr,?_,by omega⟩
   ·rw [m];unfold oth;split
    ·exact .inr rfl
    ·exact .inl rfl
   ·rw [m,z];rw [c _ _ hd hd0];congr 1;omega
  ·rw [zL g] at a;obtain ⟨G,C,H,r,s,I,D,E,A⟩:=hB.parent v i a j x;exact ⟨G,C,H,r,s,I,D,c _ _ E A,A⟩
theorem zvw (h:Net n bs at_ fl) {t:Int} {al:List Int} (ht0:0<=t) (hal:at_[t.toNat]?=some al) (L0 q0:List Int) (hB0:BInv n bs fl y L0 q0) (htq:∃ d,L0[t.toNat]?=some d/\0<=d) :
  ∃ L q,iter (zbK (n,bs,at_,fl) t) (L0,q0,0,fl)=some (L,q,fl)/\BInv n bs fl y L q/\(∀ (v:Nat) (d:Int),L0[v]?=some d->0<=d->L[v]?=some d)/\
   (∃ r,q=q0++r)/\∀ k∈al,BClosed bs fl L t k:=by
 obtain ⟨a9,P⟩:=h.amem _ _ hal;have a7:((t.toNat:Nat):Int)=t:=by omega
 have key:=zA (F:=zbK (n,bs,at_,fl) t) (fun s=>∃ L q i,s=(L,q,i,fl)/\0<=i/\i<=al.length/\BInv n bs fl y L q/\(∀ (v:Nat) (d:Int),L0[v]?=some d->0<=d->L[v]?=some d)/\(∃ r,q=q0++r)/\
   ∀ j k,j<i.toNat->al[j]?=some k->BClosed bs fl L t k) (fun s=>(al.length - s.2.2.1).toNat)
  (fun x=>∃ L q,x=(L,q,fl)/\BInv n bs fl y L q/\(∀ (v:Nat) (d:Int),L0[v]?=some d->0<=d->L[v]?=some d)/\(∃ r,q=q0++r)/\∀ k∈al,BClosed bs fl L t k) ?_
  (L0,q0,0,fl) ⟨L0,q0,0,rfl,by omega,by omega,hB0,fun _ _ h _=>h,⟨[],by simp⟩,fun j k R=>by simp at R⟩
 ·obtain ⟨x,hx,L,q,rfl,h1,h2,h3,h4⟩:=key;exact ⟨L,q,hx,h1,h2,h3,h4⟩
 ·rintro s ⟨L,q,i,rfl,a1,b0,N,m,⟨r,hr⟩,J⟩;unfold zbK;simp only [zgA ht0 hal,gq];by_cases C:i<al.length
  ·left;rw [if_pos (by simp [C])];obtain ⟨k,Z,E⟩:=zR a1 C;have Y:k∈al:=fd E;obtain ⟨Q,b,D,H⟩:=(P k).1 Y;rw [a7] at H;obtain ⟨f,hf,a0,c4,c3,B⟩:=h.bond Q D;have U:=zz8 h D H;have M:=h.ends D t;obtain ⟨e,T,p⟩:=zR (l:=L) M.1 (by rw [N.len];omega);simp only [Z,a0,gq,U,zxj h Q D hf,T];have g:w64 (i+1)=i+1:=zu (by omega) (by omega);have a:(∃ X,L[(oth b t).toNat]?=some X/\(0<=X\/¬0<res b f (oth b t)))->
     (∃ s',zaL t (L,q,i,fl) b b (res b f (oth b t),oth b (oth b t),(n,bs,at_,fl)) false=some (.inl s')/\
      (∃ L q i,s'=(L,q,i,fl)/\0<=i/\i<=al.length/\BInv n bs fl y L q/\(∀ (v:Nat) (d:Int),L0[v]?=some d->0<=d->L[v]?=some d)/\(∃ r,q=q0++r)/\∀ j k,j<i.toNat->al[j]?=some k->BClosed bs fl L t k)/\
      (al.length - s'.2.2.1).toNat<(al.length - i).toNat):=by
    rintro ⟨X,a2,a8⟩;refine ⟨_,by unfold zaL zbN;rfl,⟨L,q,i+1,by rw [g],by omega,by omega,N,m,⟨r,hr⟩,?_⟩,?_⟩
    ·intro j k2 R c;by_cases G:j<i.toNat
     ·exact J j k2 G c
     ·have:j=i.toNat:=by omega
      subst this;rw [E] at c;obtain rfl:=Option.some.inj c;intro b2 f2 z B O;rw [D] at z;obtain rfl:=Option.some.inj z;rw [hf] at B;obtain rfl:=Option.some.inj B;exact ⟨X,a2,a8.resolve_right (fun hn=>hn O)⟩
    ·simp only [g];omega
   by_cases A:e<0
   ·rw [if_pos (by simp [A])];by_cases u:res b f (oth b t)>0
    ·obtain ⟨d,hd,V⟩:=htq;have I:=m _ _ hd V;have c5:=N.low _ _ I;have b1:(q.length:Int)<=n:=by have:=N.count;have:=h.n0;omega
     obtain ⟨a4,w⟩:=zyz h N D hf ht0 H I V ⟨e,p,A⟩ u;have b4:=h.n1;refine ⟨(L.set (oth b t).toNat (d+1),q++[oth b t],i+1,fl),?_,⟨_,_,i+1,rfl,by omega,by omega,a4,?_,⟨r++[oth b t],by rw [hr,be]⟩,?_⟩,?_⟩
     ·unfold zaL zbN;rw [if_pos (by simp [u])];simp only [zgA ht0 I,gq,U,T];rw [zu (by omega) (by omega),zaf (by simp;omega) (by simp;omega)];simp only [gq,g]
     ·intro v d' hv S;exact w _ _ (m _ _ hv S) S
     ·intro j k2 R c;by_cases G:j<i.toNat
      ·exact (J j k2 G c).mono w
      ·have:j=i.toNat:=by omega
       subst this;rw [E] at c;obtain rfl:=Option.some.inj c;intro b2 f2 z B O;rw [D] at z;obtain rfl:=Option.some.inj z;exact ⟨d+1,zX (zy p),by omega⟩
     ·simp only [];omega
    ·have:=a ⟨e,p,.inr u⟩;simpa [u] using this
   ·rw [if_neg (by simp [A])];exact a ⟨e,p,.inl (by omega)⟩
  ·right;rw [if_neg (by simp [C])];refine ⟨_,rfl,L,q,rfl,N,m,⟨r,hr⟩,fun k Z=>?_⟩;obtain ⟨j,R,a5⟩:=List.mem_iff_getElem.1 Z;exact J j k (by omega) (by rw [cm R,a5])
theorem zvv (h:Net n bs at_ fl) (L0 q0:List Int) (hB0:BInv n bs fl y L0 q0) :
  ∃ L,iter (zbL (n,bs,at_,fl)) (L0,q0,0,fl)=some (L,fl)/\Dist n bs fl y L:=by
 have key:=zA (F:=zbL (n,bs,at_,fl)) (fun s=>∃ L q i,s=(L,q,i,fl)/\0<=i/\i<=q.length/\BInv n bs fl y L q/\
   ∀ (j:Nat) (t:Int),j<i.toNat->q[j]?=some t->∀ (k:Nat) (b:Bd),bs[k]?=some b->(b.1=t\/b.2.1=t)->BClosed bs fl L t k) (fun s=>(n - s.2.2.1).toNat)
  (fun x=>∃ L,x=(L,fl)/\Dist n bs fl y L) ?_ (L0,q0,0,fl) ⟨L0,q0,0,rfl,by omega,by omega,hB0,fun j t G=>by simp at G⟩
 ·obtain ⟨x,hx,L,rfl,Y⟩:=key;exact ⟨L,hx,Y⟩
 ·rintro s ⟨L,q,i,rfl,A,T,l,I⟩;have U:(q.length:Int)<=n:=by have:=l.count;have:=h.n0;omega
  have X:=h.n1;unfold zbL;by_cases m:i<q.length
  ·left;rw [if_pos (by simp [m])];obtain ⟨t,V,C⟩:=zR A m;have R:t∈q:=fd C;obtain ⟨J,d,hd,u⟩:=l.qlab t R;have M:t.toNat<at_.length:=by rw [h.alen,←l.len];exact zy hd
   have H:at_[t.toNat]?=some at_[t.toNat]:=cm M;obtain ⟨L',q',D,N,w,⟨r,E⟩,hc⟩:=zvw h J H L q l ⟨d,hd,u⟩;simp only [V,gq,D];have a:w64 (i+1)=i+1:=zu (by omega) (by omega);refine ⟨_,rfl,⟨L',q',i+1,by rw [a],by omega,?_,N,?_⟩,?_⟩
   ·rw [E,dl];omega
   ·intro j S G g k b z c;by_cases B:j<i.toNat
    ·have:q[j]?=some S:=by
      rw [E,cg (by omega)] at g;exact g
     exact (I j S B this k b z c).mono w
    ·obtain rfl:=zvY A G B;rw [E,cg (by omega),C] at g;obtain rfl:=Option.some.inj g;have P:((t.toNat:Nat):Int)=t:=bb J;have:=(h.amem _ _ H).2 k;exact hc k (this.2 ⟨Int.natCast_nonneg k,b,by simpa using z,by rw [P];exact c⟩)
   ·simp only [a];omega
  ·right;rw [if_neg (by simp [m])];refine ⟨_,rfl,L,rfl,l.len,l.goal,?_,?_,l.parent⟩
   ·intro v d hv;have:=l.low _ _ hv;omega
   ·intro k b f t d e z Z c hd u E he;have Q:=l.labq t d hd u;obtain ⟨j,G,O⟩:=List.mem_iff_getElem.1 Q;have:=I j t (by omega) (by rw [cm G,O]) k b z c b f (by simpa using z) (by simpa using Z) E;obtain ⟨e',p,hp⟩:=this;rw [he] at p;injection p with p
    omega
theorem zvx (h:Net n bs at_ fl):iter (zbM (n,bs,at_,fl)) ([],0)=some (List.replicate n.toNat (-1)):=by
 have key:=zA (F:=zbM (n,bs,at_,fl)) (fun s=>∃ i:Nat,s=(List.replicate i (-1),(i:Int))/\i<=n.toNat) (fun s=>(n - s.2).toNat)
  (fun x=>x=List.replicate n.toNat (-1)) ?_ ([],0) ⟨0,rfl,by omega⟩
 ·obtain ⟨x,c,rfl⟩:=key;exact c
 ·rintro s ⟨i,rfl,hi⟩;have d:=h.n1;unfold zbM;by_cases a:(i:Int)<n
  ·left;rw [if_pos (by simp [a]),zaf (by simp;omega) (by simp;omega)];refine ⟨_,rfl,⟨i+1,?_,by omega⟩,?_⟩
   ·rw [zu (by omega) (by omega),List.replicate_succ'];rfl
   ·simp only [];rw [zu (by omega) (by omega)];omega
  ·right;rw [if_neg (by simp [a])];have b:i=n.toNat:=by have:=h.n0;omega
   subst b;exact ⟨_,rfl,rfl⟩
theorem zsS (h:Net n bs at_ fl) (hy0:0<=y) (hy:y<n):∃ L,zdz (n,bs,at_,fl) y=some (L,n,bs,at_,fl)/\Dist n bs fl y L:=by
 have hlen:(List.replicate n.toNat (-1:Int)).length=n.toNat:=by simp
 obtain ⟨z,p,b⟩:=zR (l:=List.replicate n.toNat (-1:Int)) hy0 (by rw [hlen];omega);have g:z = -1:=by
  rw [cz] at b;split at b
  ·injection b with b;exact b.symm
  ·cases b
 have c:=zy b;have i:BInv n bs fl y ((List.replicate n.toNat (-1:Int)).set y.toNat 0) [y]:=by
  refine ⟨by simp,zX c,?_,?_,?_,?_,?_⟩
  ·intro v d a;by_cases e:y.toNat=v
   ·subst e;rw [zX c] at a;injection a with a;subst a;simp
   ·rw [zL e,cz] at a;split at a
    ·injection a with a;subst a;simp
    ·cases a
  ·intro v a;have:v=y:=by simpa using a
   subst this;exact ⟨hy0,0,zX c,by omega⟩
  ·intro v d a hd;by_cases e:y.toNat=v
   ·simp;omega
   ·rw [zL e,cz] at a;split at a
    ·injection a with a;omega
    ·cases a
  ·have:=zl7 isNeg (y:=(0:Int)) b (by rw [g];rfl) rfl;have j:(List.replicate n.toNat (-1:Int)).countP isNeg=n.toNat:=by
    rw [List.countP_replicate];simp [isNeg]
   rw [j] at this;simp;omega
  ·intro v d a hd k;by_cases e:y.toNat=v
   ·omega
   ·rw [zL e,cz] at a;split at a
    ·injection a with a;omega
    ·cases a
 obtain ⟨L,f,m⟩:=zvv h _ _ i;refine ⟨L,?_,m⟩;unfold zdz zgc zgb;rw [zvx h];simp only [gq,p,f]
end
section
variable {n:Int} {bs:List Bd} {at_:List (List Int)} {fl:List Int} {x y:Int}
theorem zxh (h:Net n bs at_ fl) {k:Nat} {b:Bd} {f f':Int} (hb:bs[k]?=some b) (hf:fl[k]?=some f) (h1 : -b.2.2<=f') (h2:f'<=b.2.2):Net n bs at_ (fl.set k f'):=by
 refine ⟨h.n0,h.n1,h.bn,h.wb,h.alen,h.amem,by rw [dz];exact h.flen,fun j c g d a=>?_⟩;by_cases e:k=j
 ·subst e;rw [zX (zy hf)] at a;rw [hb] at d;obtain rfl:=Option.some.inj d;obtain rfl:=Option.some.inj a;exact ⟨h1,h2⟩
 ·rw [zL e] at a;exact h.fok _ _ _ d a
theorem zAi (h:Net n bs at_ fl) {v k:Int} {b:Bd} {f:Int} (h0:0<=k) (hb:bs[k.toNat]?=some b) (hf:fl[k.toNat]?=some f) (hv:b.1=v\/b.2.1=v) (hr:0<res b f v) :
  ∃ f',zgL (n,bs,at_,fl) v k=some (n,bs,at_,fl.set k.toNat f')/\Net n bs at_ (fl.set k.toNat f')/\∀ S,zdi S bs (fl.set k.toNat f')=zdi S bs fl+(ind (S v) - ind (S (oth b v))):=by
 obtain ⟨d,a,hi,e,j,i⟩:=h.bond h0 hb;rw [a] at hf;obtain rfl:=Option.some.inj hf;have g:=h.wb _ _ hb;unfold zgL;simp only [hi,gq,e];unfold res at hr;by_cases c:b.1=v
 ·rw [if_pos c] at hr;simp only [c,decide_true,if_true];rw [zu (by omega) (by omega)];refine ⟨d+1,rfl,zxh h hb a (by omega) (by omega),fun S=>?_⟩;rw [ztx hb a];unfold oth;rw [if_pos c,c];have:d+1 - d=1:=by omega
  rw [this,Int.one_mul]
 ·rw [if_neg c] at hr;simp only [c,decide_false,if_false,ap];rw [zu (by omega) (by omega)];refine ⟨d - 1,rfl,zxh h hb a (by omega) (by omega),fun S=>?_⟩;rw [ztx hb a];unfold oth;rw [if_neg c,←hv.resolve_left c];have:d - 1 - d = -1:=by omega
  rw [this];omega
theorem zwV (h:Net n bs at_ fl) {L:List Int} {x23:(List Int)×(Int×(List Bd)×(List (List Int))×(List Int))} (hx:x23.1=L) {fl0:List Int} (hD:Dist n bs fl0 y L) {t d:Int} (ht0:0<=t) (hd:L[t.toNat]?=some d) (hd0:0<d)
  (hsame:∀ (k:Nat) (b:Bd),bs[k]?=some b->(b.1=t\/b.2.1=t)->L[(oth b t).toNat]?=some (d - 1)->fl[k]?=fl0[k]?) (hty:t≠y) :
  ∃ nx a b f,iter (zcp (n,bs,at_,fl0) x23 (t,fl)) ((-1),0,0,fl)=some (nx,a,fl)/\0<=a/\bs[a.toNat]?=some b/\fl[a.toNat]?=some f/\
   (b.1=t\/b.2.1=t)/\0<res b f t/\nx=oth b t/\L[nx.toNat]?=some (d - 1):=by
 have p:=zy hd;have X:t.toNat<at_.length:=by rw [h.alen,←hD.len];exact p
 have w:at_[t.toNat]?=some at_[t.toNat]:=cm X;generalize at_[t.toNat]=al at w;obtain ⟨a4,q⟩:=h.amem _ _ w;have I:((t.toNat:Nat):Int)=t:=bb ht0;rw [I] at q;obtain ⟨v,bw,fw,J,Y,E,O,M,a8⟩:=hD.parent t.toNat d hd (by omega) (by rw [I];exact hty);rw [I] at E O M;have b8:=hD.low _ _ hd;have b0:=h.n1;let Ok:Int->Int->Prop:=fun nx a=>0<=a/\∃ b f,bs[a.toNat]?=some b/\fl[a.toNat]?=some f/\(b.1=t\/b.2.1=t)/\0<res b f t/\nx=oth b t/\L[nx.toNat]?=some (d - 1);have key:=zA (F:=zcp (n,bs,at_,fl0) x23 (t,fl)) (fun s=>∃ nx a i,s=(nx,a,i,fl)/\0<=i/\i<=al.length/\(nx<0\/0<=nx/\Ok nx a)/\(∀ j:Nat,j<i.toNat->al[j]?=some (v:Int)->0<=nx))
  (fun s=>(al.length - s.2.2.1).toNat) (fun z=>∃ nx a,z=(nx,a,fl)/\Ok nx a) ?_ ((-1),0,0,fl) ⟨-1,0,0,rfl,by omega,by omega,.inl (by omega),fun j U=>by simp at U⟩
 ·obtain ⟨z,hz,nx,a,rfl,h0,b,f,h1,h2,h3,h4,h5,h6⟩:=key;exact ⟨nx,a,b,f,hz,h0,h1,h2,h3,h4,h5,h6⟩
 ·rintro s ⟨nx,a,i,rfl,Q,a6,V,A⟩;unfold zcp;simp only [zgA ht0 w,gq];by_cases p:i<al.length
  ·left;rw [if_pos (by simp [p])];obtain ⟨k,hk,P⟩:=zR Q p;obtain ⟨H,b,G,a0⟩:=(q k).1 (fd P);obtain ⟨f,S,b2,c3,c2,c1⟩:=h.bond H G;have g:=h.ends G t;obtain ⟨e,a3,u⟩:=zR (l:=L) g.1 (by rw [hD.len];omega);simp only [hk,gq,zxj h H G S];have c:w64 (i+1)=i+1:=zu (by omega) (by omega);have r:(k=v->¬(0<res b f t/\e=d - 1)  \/ 0<=nx)->∃ s',z8 (n,bs,at_,fl0) (t,fl) (nx,a,i,fl) al k (res b f t,oth b t,(n,bs,at_,fl)) false=some (.inl s')/\
     (∃ nx a i,s'=(nx,a,i,fl)/\0<=i/\i<=al.length/\(nx<0\/0<=nx/\Ok nx a)/\(∀ j:Nat,j<i.toNat->al[j]?=some (v:Int)->0<=nx))/\(al.length - s'.2.2.1).toNat<(al.length - i).toNat:=by
    intro a2;refine ⟨_,by unfold z8 zcr;rfl,⟨nx,a,i+1,by rw [c],by omega,by omega,V,?_⟩,by simp only [c];omega⟩;intro j U D;by_cases R:j<i.toNat
    ·exact A j R D
    ·obtain rfl:=zvY Q U R;rw [P] at D;have C:=Option.some.inj D;refine (a2 C).resolve_left (fun hn=>hn ?_);subst C;simp only [ba] at G S;rw [J] at G;obtain rfl:=Option.some.inj G;have:fl[v]?=fl0[v]?:=hsame v _ J E M;rw [this,Y] at S;obtain rfl:=Option.some.inj S;rw [M] at u;exact ⟨O,(Option.some.inj u).symm⟩
   by_cases m:res b f t>0
   ·rw [if_pos (by simp [m])];simp only [a3,zgA ht0 hd,hx,gq];rw [zu (by omega) (by omega)];by_cases x:e=d - 1
    ·rw [if_pos (by simp [x])];have take:∃ s',z8 (n,bs,at_,fl0) (t,fl) (nx,a,i,fl) al k (res b f t,oth b t,(n,bs,at_,fl)) true=some (.inl s')/\
       (∃ nx a i,s'=(nx,a,i,fl)/\0<=i/\i<=al.length/\(nx<0\/0<=nx/\Ok nx a)/\(∀ j:Nat,j<i.toNat->al[j]?=some (v:Int)->0<=nx))/\(al.length - s'.2.2.1).toNat<(al.length - i).toNat:=by
      refine ⟨(oth b t,k,i+1,fl),?_,⟨oth b t,k,i+1,rfl,by omega,by omega,.inr ⟨g.1,H,b,f,G,S,a0,m,rfl,by rw [u,x]⟩,fun _ _ _=>g.1⟩,by simp only [];omega⟩;unfold z8 zcr;simp only [if_true,zgA ht0 w,gq,hk,c]
     by_cases T:nx<0
     ·rw [if_pos (by simp [T])];exact take
     ·rw [if_neg (by simp [T])];by_cases B:oth b t<nx
      ·simp only [B,decide_true];exact take
      ·simp only [B,decide_false];exact r fun _=>.inr (by omega)
    ·rw [if_neg (by simp [x])];exact r fun _=>.inl fun N=>x N.2
   ·rw [if_neg (by simp [m])];exact r fun _=>.inl fun N=>m N.1
  ·right;rw [if_neg (by simp [p])];refine ⟨_,rfl,nx,a,rfl,?_⟩;have Z:(v:Int)∈al:=(q v).2 ⟨Int.natCast_nonneg v,bw,by simpa using J,E⟩;obtain ⟨j,U,a1⟩:=List.mem_iff_getElem.1 Z;have:=A j (by omega) (by rw [cm U,a1]);rcases V with N | N
   ·omega
   ·exact N.2
theorem zyh (h:Net n bs at_ fl) {L:List Int} {x23:(List Int)×(Int×(List Bd)×(List (List Int))×(List Int))} (hx:x23.1=L) (hD:Dist n bs fl y L) (hx0:0<=x) {d:Int} (hd:L[x.toNat]?=some d) (hd0:0<=d) :
  ∃ a,iter (zcq (n,bs,at_,fl) y x23) (x,fl)=some a/\Net n bs at_ a/\∀ S,zdi S bs a=zdi S bs fl+(ind (S x) - ind (S y)):=by
 have key:=zA (F:=zcq (n,bs,at_,fl) y x23) (fun s=>∃ t g e,s=(t,g)/\0<=t/\L[t.toNat]?=some e/\0<=e/\Net n bs at_ g/\(∀ S,zdi S bs g=zdi S bs fl+(ind (S x) - ind (S t)))/\
   ∀ (k:Nat) (b:Bd) (I H:Int),bs[k]?=some b->L[b.1.toNat]?=some I->L[b.2.1.toNat]?=some H->I<=e->H<=e->g[k]?=fl[k]?)
  (fun s=>((L[s.1.toNat]?).getD 0).toNat) (fun z=>∃ a,z=a/\Net n bs at_ a/\∀ S,zdi S bs a=zdi S bs fl+(ind (S x) - ind (S y))) ?_
  (x,fl) ⟨x,fl,d,rfl,hx0,hd,hd0,h,fun S=>by omega,fun _ _ _ _ _ _ _ _ _=>rfl⟩
 ·obtain ⟨z,Y,a,ez,v,r⟩:=key;subst ez;exact ⟨_,Y,v,r⟩
 ·rintro s ⟨t,g,e,rfl,E,p,J,R,C,i⟩;unfold zcq;by_cases l:t=y
  ·right;subst l;rw [if_neg (by simp)];exact ⟨_,rfl,g,rfl,R,C⟩
  ·left;rw [if_pos (by simp [l])];have P:((t.toNat:Nat):Int)=t:=bb E;have Q:0<e:=by
    obtain ⟨k,b,f,_,_,_,_,_,h6⟩:=hD.parent t.toNat e p J (by rw [P];exact l);omega
   have u:∀ (k:Nat) (b:Bd),bs[k]?=some b->(b.1=t\/b.2.1=t)->L[(oth b t).toNat]?=some (e - 1)->g[k]?=fl[k]?:=by
    intro k b m j G;rcases j with rfl | rfl
    ·have O:oth b b.1=b.2.1:=by unfold oth;rw [if_pos rfl]
     rw [O] at G;exact i k b e (e - 1) m p G (by omega) (by omega)
    ·have Z:=h.wb _ _ m;have O:oth b b.2.1=b.1:=by unfold oth;rw [if_neg Z.2.2.2.2.1]
     rw [O] at G;exact i k b (e - 1) e m G p (by omega) (by omega)
   obtain ⟨nx,w,b,f,A,N,m,hf,j,hr,B,D⟩:=zwV (fl0:=fl) (y:=y) R hx hD E p Q u l
   ·obtain ⟨f',hp,M,hS⟩:=zAi R N m hf j hr;have q:=h.ends m t;refine ⟨(nx,g.set w.toNat f'),?_,⟨nx,_,e - 1,rfl,by rw [B];exact q.1,D,by omega,M,?_,?_⟩,?_⟩
    ·rw [A];simp only [gq,zg9,hp]
    ·intro S;rw [hS,C,B];omega
    ·intro k c I H T v r X V;by_cases U:w.toNat=k
     ·subst U;rw [m] at T;obtain rfl:=Option.some.inj T;rcases j with rfl | rfl
      ·rw [p] at v;injection v;omega
      ·rw [p] at r;injection r;omega
     ·rw [zL U];exact i k c I H T v r (by omega) (by omega)
    ·simp only [D,p,gt];omega
theorem zyi (h:Net n bs at_ fl) (hx0:0<=x) (hx:x<n) (hy0:0<=y) (hy:y<n) :
  (zer (n,bs,at_,fl) x y=some (false,n,bs,at_,fl)/\∃ S:Int->Bool,S x=true/\S y=false/\zdi S bs fl=zf6 S bs) \/
  ∃ c,zer (n,bs,at_,fl) x y=some (true,n,bs,at_,c)/\Net n bs at_ c/\∀ S,zdi S bs c=zdi S bs fl+(ind (S x) - ind (S y)):=by
 obtain ⟨L,hs,q⟩:=zsS h hy0 hy;obtain ⟨d,hd,B⟩:=zR (l:=L) hx0 (by rw [q.len];omega);unfold zer;simp only [hs,gq,hd];by_cases g:d<0
 ·left;rw [if_pos (by simp [g])];refine ⟨rfl,fun v=>decide (∃ e,L[v.toNat]?=some e/\e<0),?_,?_,?_⟩
  ·simp only [decide_eq_true_eq];exact ⟨d,B,g⟩
  ·simp only [decide_eq_false_iff_not];rintro ⟨e,m,t⟩;rw [q.goal] at m;injection m;omega
  ·refine zr9 h.flen fun k b f C D=>?_;have r:=h.wb _ _ C;have G:=h.fok _ _ _ C D;have hlen:=q.len;obtain ⟨A,_,j⟩:=zR (l:=L) r.1 (by omega);obtain ⟨u,_,i⟩:=zR (l:=L) r.2.2.1 (by omega);simp only [decide_eq_true_eq,decide_eq_false_iff_not];have E:oth b b.1=b.2.1:=by unfold oth;rw [if_pos rfl]
   have F:oth b b.2.1=b.1:=by unfold oth;rw [if_neg r.2.2.2.2.1]
   refine ⟨?_,?_⟩
   ·rintro ⟨e,m,t⟩ p;rw [j] at m;obtain rfl:=Option.some.inj m;have z:0<=u:=by
     rcases Int.lt_or_le u 0 with h1 | h1
     ·exact absurd ⟨u,i,h1⟩ p
     ·exact h1
    have a:((b.2.1.toNat:Nat):Int)=b.2.1:=bb r.2.2.1;have:=q.closed k b f b.2.1.toNat u A C D (.inr a.symm) i z;rw [a,F] at this;rcases Int.lt_or_le 0 (res b f b.1) with hr | hr
    ·have:=this hr j;omega
    ·unfold res at hr;rw [if_pos rfl] at hr;omega
   ·rintro p ⟨e,m,t⟩;rw [i] at m;obtain rfl:=Option.some.inj m;have s:0<=A:=by
     rcases Int.lt_or_le A 0 with h1 | h1
     ·exact absurd ⟨A,j,h1⟩ p
     ·exact h1
    have a:((b.1.toNat:Nat):Int)=b.1:=bb r.1;have:=q.closed k b f b.1.toNat A u C D (.inl a.symm) j s;rw [a,E] at this;rcases Int.lt_or_le 0 (res b f b.2.1) with hr | hr
    ·have:=this hr i;omega
    ·unfold res at hr;rw [if_neg r.2.2.2.2.1] at hr;omega
 ·right;rw [if_neg (by simp [g])];obtain ⟨c,w,H,hS⟩:=zyh (x23:=(L,n,bs,at_,fl)) h rfl q hx0 B (by omega);refine ⟨c,?_,H,hS⟩;rw [w];rfl
def zme (bs:List Bd) (x y:Int) (v:Int):Prop:=
 (∀ S:Int->Bool,S x=true->S y=false->v<=zf6 S bs)/\∃ S:Int->Bool,S x=true/\S y=false/\v=zf6 S bs
theorem zyo (h:Net n bs at_ fl) (hx0:0<=x) (hx:x<n) (hy0:0<=y) (hy:y<n) (hxy:x≠y) (h0:∀ S,zdi S bs fl=0) :
  ∃ v a,iter (zfl x y (n,bs,at_,fl)) (0,fl)=some (v,a)/\Net n bs at_ a/\0<=v/\v<=100000000/\zme bs x y v:=by
 let S0:Int->Bool:=fun v=>decide (v=x);have d:S0 x=true:=by simp [S0]
 have f:S0 y=false:=by simp [S0];omega
 have w:zf6 S0 bs<=100000000:=by
  have:=zw5 (S:=S0) (bs:=bs) (fun b D=>by
   obtain ⟨k,E,t⟩:=List.mem_iff_getElem.1 D;have:=h.wb k b (by rw [cm E,t]);omega)
  have:=h.bn;omega
 have key:=zA (F:=zfl x y (n,bs,at_,fl)) (fun s=>∃ v c,s=(v,c)/\0<=v/\Net n bs at_ c/\∀ S:Int->Bool,S x=true->S y=false->zdi S bs c=v)
  (fun s=>(zf6 S0 bs - s.1).toNat) (fun z=>∃ v a,z=(v,a)/\Net n bs at_ a/\0<=v/\v<=100000000/\zme bs x y v) ?_
  (0,fl) ⟨0,fl,rfl,by omega,h,fun S _ _=>h0 S⟩
 ·obtain ⟨z,H,v,a,rfl,j,i,I,G⟩:=key;exact ⟨v,a,H,j,i,I,G⟩
 ·rintro s ⟨v,c,rfl,u,q,g⟩;have m:∀ S:Int->Bool,S x=true->S y=false->v<=zf6 S bs:=fun S j i=>by rw [←g S j i];exact zo4 q.flen q.fok
  have C:=m S0 d f;unfold zfl;rcases zyi q hx0 hx hy0 hy with ⟨r,S,l,p,hS⟩ | ⟨a,r,hN',hS⟩
  ·right;rw [r];refine ⟨_,rfl,v,c,rfl,q,u,by omega,m,S,l,p,?_⟩;rw [←hS,g S l p]
  ·left;rw [r];have e:∀ S:Int->Bool,S x=true->S y=false->zdi S bs a=v+1:=fun S j i=>by
    rw [hS,g S j i,j,i];simp [ind]
   have B:v+1<=zf6 S0 bs:=by rw [←e S0 d f];exact zo4 hN'.flen hN'.fok
   have A:w64 (v+1)=v+1:=zu (by omega) (by omega);refine ⟨_,rfl,⟨v+1,a,by rw [A],by omega,hN',e⟩,?_⟩;simp only [A];omega
end
def zv9:List (List Int)->List (Int×Int×Int)->Int->Option (List (List Int))
 | t,[],_=>some t
 | t,b::bs,i=>(idx t b.1).bind fun x=>(app 8 x [i]).bind fun y=>(idx (t.set b.1.toNat y) b.2.1).bind fun z=>(app 8 z [i]).bind fun w=>zv9 ((t.set b.1.toNat y).set b.2.1.toNat w) bs (i+1)
theorem zvX (all:List (Int×Int×Int)) (hlen:all.length<=100000):∀ (rest:List (Int×Int×Int)) (i:Nat) (t t':List (List Int)),all.drop i=rest->zv9 t rest i=some t'->iter (zc0 all) ((i:Int),t)=some t'
 | [],i,t,t',hd,h=>by
  have hi:all.length<=i:=by
   have:=congrArg List.length hd;simp at this;omega
  have:t'=t:=by injection h with h;exact h.symm
  subst this;refine zC ?_;unfold zc0;rw [if_neg (by simp;omega)]
 | b::rest,i,t,t',hd,h=>by
  have hi:i<all.length:=by
   have:=congrArg List.length hd;simp at this;omega
  have g:idx all (i:Int)=some b:=by
   unfold idx;rw [if_pos (by omega)];have:all[i]?=some b:=by
    have d:(all.drop i)[0]?=some b:=by rw [hd];rfl
    rw [cj] at d;simpa using d
   simpa using this
  unfold zv9 at h;obtain ⟨x,j,h⟩:=gp.1 h;obtain ⟨y,f,h⟩:=gp.1 h;obtain ⟨z,k,h⟩:=gp.1 h;obtain ⟨w,e,h⟩:=gp.1 h;have c:w64 ((i:Int)+1)=((i+1:Nat):Int):=by rw [zu (by omega) (by omega)];omega
  have a:zc0 all ((i:Int),t)=some (.inl (((i+1:Nat):Int),(t.set b.1.toNat y).set b.2.1.toNat w)):=by
   unfold zc0;rw [if_pos (by simp;omega)];simp only [g,gq,j,f,k,e,c]
  rw [zv a];refine zvX all hlen rest (i+1) _ t' ?_ (by simpa using h);have:=congrArg (List.drop 1) hd;rw [List.drop_drop] at this;simpa [Nat.add_comm] using this
def WBs (n:Int) (bs:List Bd):Prop:=∀ (k:Nat) (b:Bd),bs[k]?=some b->0<=b.1/\b.1<n/\0<=b.2.1/\b.2.1<n/\b.1≠b.2.1/\0<=b.2.2/\b.2.2<=1000
theorem ztq {n:Int} (hn:0<=n) (all:List Bd) (hw:WBs n all) (hlen:all.length<=100000):∀ (rest:List Bd) (i:Nat) (t:List (List Int)),all.drop i=rest->i+rest.length=all.length->t.length=n.toNat->
  (∀ (v:Nat) (l:List Int),t[v]?=some l->l.length<=i/\∀ k:Int,k∈l↔(0<=k/\k<i/\∃ b:Bd,all[k.toNat]?=some b/\(b.1=v\/b.2.1=v)))->
  ∃ t',zv9 t rest i=some t'/\t'.length=n.toNat/\∀ (v:Nat) (l:List Int),t'[v]?=some l->l.length<=100000/\∀ k:Int,k∈l↔(0<=k/\∃ b:Bd,all[k.toNat]?=some b/\(b.1=v\/b.2.1=v))
 | [],i,t,hd,hl,ht,hm=>by
  refine ⟨t,rfl,ht,fun v l d=>?_⟩;obtain ⟨B,s⟩:=hm v l d;refine ⟨by omega,fun k=>(s k).trans ?_⟩;constructor
  ·rintro ⟨y,_,h⟩;exact ⟨y,h⟩
  ·rintro ⟨y,b,e,h⟩;have:=zy e;simp at hl;exact ⟨y,by omega,b,e,h⟩
 | b::rest,i,t,hd,hl,ht,hm=>by
  have e:all[i]?=some b:=by
   have:=congrArg (fun l=>l[0]?) hd;simpa using this
  have g:=hw _ _ e;have hi:=zy e;obtain ⟨x,G,m⟩:=zR (l:=t) g.1 (by omega);obtain ⟨E,r⟩:=hm _ _ m;have w:b.1.toNat≠b.2.1.toNat:=by omega
  obtain ⟨z,I,j⟩:=zR (l:=t) g.2.2.1 (by omega);obtain ⟨F,p⟩:=hm _ _ j;have D:idx (t.set b.1.toNat (x++[(i:Int)])) b.2.1=some z:=zgA g.2.2.1 (by rw [zL w];exact j);unfold zv9;rw [G];simp only [gq];rw [zaf (by simp;omega) (by simp;omega)];simp only [gq,D];rw [zaf (by simp;omega) (by simp;omega)];simp only [gq];refine ztq hn all hw hlen rest (i+1) _ ?_ (by simp at hl;omega) (by simp [ht]) ?_
  ·rw [←List.drop_drop,hd];rfl
  ·intro v l d;by_cases s:b.2.1.toNat=v
   ·subst s;rw [zX (by rw [dz];exact zy j)] at d;obtain rfl:=Option.some.inj d;refine ⟨by simp;omega,fun k=>?_⟩;rw [ep];constructor
    ·rintro (h | h)
     ·obtain ⟨f,q,a⟩:=(p k).1 h;exact ⟨f,by omega,a⟩
     ·have:k=i:=by simpa using h
      subst this;exact ⟨by omega,by omega,b,by simpa using e,.inr (by omega)⟩
    ·rintro ⟨f,q,a⟩;by_cases A:k=i
     ·right;simp [A]
     ·left;exact (p k).2 ⟨f,by omega,a⟩
   ·rw [zL s] at d;by_cases B:b.1.toNat=v
    ·subst B;rw [zX (zy m)] at d;obtain rfl:=Option.some.inj d;refine ⟨by simp;omega,fun k=>?_⟩;rw [ep];constructor
     ·rintro (h | h)
      ·obtain ⟨f,q,a⟩:=(r k).1 h;exact ⟨f,by omega,a⟩
      ·have:k=i:=by simpa using h
       subst this;exact ⟨by omega,by omega,b,by simpa using e,.inl (by omega)⟩
     ·rintro ⟨f,q,a⟩;by_cases A:k=i
      ·right;simp [A]
      ·left;exact (r k).2 ⟨f,by omega,a⟩
    ·rw [zL B] at d;obtain ⟨f,q⟩:=hm v l d;refine ⟨by omega,fun k=>(q k).trans ?_⟩;constructor
     ·rintro ⟨a,H,C⟩;exact ⟨a,by omega,C⟩
     ·rintro ⟨a,H,c,u,C⟩;refine ⟨a,?_,c,u,C⟩;rcases Int.lt_or_le k i with h8 | h8
      ·exact h8
      ·have:k=i:=by omega
       subst this;simp at u;rw [e] at u;obtain rfl:=Option.some.inj u;omega
section
variable {n:Int} {bs:List Bd} {x y:Int}
theorem zzk (hn0:0<=n) (hn1:n<=100000) (d:bs.length<=100000) (hw:WBs n bs):∃ at_ fl,zmo n bs=some (n,bs,at_,fl)/\Net n bs at_ fl/\∀ S,zdi S bs fl=0:=by
 obtain ⟨t',j,i,g⟩:=ztq hn0 bs hw d bs 0 (List.replicate n.toNat []) (by simp) (by omega) (by simp) (by
  intro v l c;rw [cz] at c;split at c
  ·injection c with c;subst c
   refine ⟨by simp,fun k=>?_⟩;constructor
   ·intro h;cases h
   ·rintro ⟨p,m,_⟩;omega
  ·cases c)
 refine ⟨t',List.replicate bs.length 0,?_,⟨hn0,hn1,d,hw,i,g,by simp,?_⟩,fun S=>zuo⟩
 ·unfold zmo;rw [zm0 hn0 (by omega) (by omega),zm0 (by omega) (by omega) (by omega)];simp only [gq,ba];have e:iter (zc0 bs) (0,List.replicate n.toNat [])=some t':=zvX bs d bs 0 _ t' (by simp) j;rw [e];rfl
 ·intro k b f d a;rw [cz] at a;have:=hw _ _ d;split at a
  ·injection a with a;subst a;omega
  ·cases a
theorem zyn (hn1:n<=100000) (hb:bs.length<=100000) (hw:WBs n bs) (hx0:0<=x) (hx:x<n) (hy0:0<=y) (hy:y<n) (hxy:x≠y) :
  ∃ v at_ fl,zk1 n bs x y=some ((n,bs,at_,fl),v)/\Net n bs at_ fl/\0<=v/\v<=100000000/\zme bs x y v:=by
 obtain ⟨at_,fl,b,i,g⟩:=zzk (by omega) hn1 hb hw;obtain ⟨v,d,a,c,f,e,h⟩:=zyo i hx0 hx hy0 hy hxy g;refine ⟨v,at_,d,?_,c,f,e,h⟩;unfold zk1 zkv;rw [b];simp only [gq];rw [a];rfl
theorem zxP {at_:List (List Int)} {fl:List Int} (h:Net n bs at_ fl) (hy0:0<=y) (hy:y<n):∃ p,zgK (n,bs,at_,fl) y=some (p,n,bs,at_,fl)/\p.length<=100000:=by
 obtain ⟨L,hs,g⟩:=zsS h hy0 hy;have f:=h.n1;have hlen:=g.len;have key:=zA (F:=zef (n,bs,at_,fl) (L,n,bs,at_,fl)) (fun s=>0<=s.2/\s.2<=n/\s.1.length<=s.2.toNat) (fun s=>(n - s.2).toNat) (fun p=>p.length<=100000) ?_ ([],0) ⟨by omega,by omega,by simp⟩
 ·obtain ⟨p,hp,e⟩:=key;refine ⟨p,?_,e⟩;unfold zgK zg8;rw [hs];simp only [gq,hp]
 ·rintro ⟨p,i⟩ ⟨hi0,hi1,e⟩;simp only at hi0 hi1 e;unfold zef zeg;by_cases b:i<n
  ·left;rw [if_pos (by simp [b])];obtain ⟨d,hd,_⟩:=zR (l:=L) hi0 (by omega);simp only [hd,gq];have a:w64 (i+1)=i+1:=zu (by omega) (by omega);by_cases c:d≥0
   ·rw [if_pos (by simp [c]),zaf (by simp;omega) (by simp;omega)];refine ⟨_,rfl,⟨by simp only [a];omega,by simp only [a];omega,?_⟩,by simp only [a];omega⟩;simp only [a,dl,dm,dx];omega
   ·rw [if_neg (by simp [c])];exact ⟨_,rfl,⟨by simp only [a];omega,by simp only [a];omega,by simp only [a];omega⟩,by simp only [a];omega⟩
  ·right;rw [if_neg (by simp [b])];exact ⟨_,rfl,by simp only [];omega⟩
theorem zwv (v w:Int) (p q:List Int) (hp:p.length<=100000):∃ b,ziA v p w q=some b/\(v<w->b=true)/\(w<v->b=false):=by
 unfold ziA;by_cases f:v=w
 ·rw [if_neg (by simp [f])];by_cases j:p.length=q.length
  ·rw [if_neg (by simp [j])];have key:=zA (F:=zfV p q) (fun i=>0<=i/\i<=p.length) (fun i=>(p.length - i).toNat) (fun _=>True) ?_ 0 ⟨by omega,by omega⟩
   ·obtain ⟨z,m,_⟩:=key;rw [m];cases z with
    | inl z=>exact ⟨false,rfl,by omega,by omega⟩
    | inr z=>exact ⟨z,rfl,by omega,by omega⟩
   ·rintro i ⟨e,g⟩;unfold zfV;by_cases c:i<p.length
    ·rw [if_pos (by simp [c])];obtain ⟨a,h,_⟩:=zR (l:=p) e c;obtain ⟨b,k,_⟩:=zR (l:=q) e (by omega);simp only [h,k,gq];by_cases d:a=b
     ·left;rw [if_neg (by simp [d]),zu (by omega) (by omega)];exact ⟨_,rfl,⟨by omega,by omega⟩,by omega⟩
     ·right;rw [if_pos (by simp [d])];exact ⟨_,rfl,trivial⟩
    ·right;rw [if_neg (by simp [c])];exact ⟨_,rfl,trivial⟩
  ·rw [if_pos (by simp;omega)];exact ⟨_,rfl,by omega,by omega⟩
 ·rw [if_pos (by simp [f])];exact ⟨_,rfl,by simp,by simp;omega⟩
def Holds (n:Int) (bs:List Bd) (t:Int):Prop:=∀ S:Int->Bool,S 0=true->(∃ y,1<=y/\y<n/\S y=false)->t<=zf6 S bs
theorem zuE (hn2:2<=n) (hn1:n<=100000) (hb:bs.length<=100000) (hw:WBs n bs):∃ v p,zhG n bs=some (v,p)/\∀ t,t<=v↔Holds n bs t:=by
 have key:=zA (F:=ze2 n bs)
  (fun s=>1<=s.2.2/\s.2.2<=n/\s.2.1.length<=100000/\(s.2.2=1/\s.1 = -1\/1<s.2.2/\0<=s.1/\(∃ y,1<=y/\y<s.2.2/\zme bs 0 y s.1)/\∀ y,1<=y->y<s.2.2->∃ v,zme bs 0 y v/\s.1<=v))
  (fun s=>(n - s.2.2).toNat) (fun z=>(∃ y,1<=y/\y<n/\zme bs 0 y z.1)/\∀ y,1<=y->y<n->∃ v,zme bs 0 y v/\z.1<=v) ?_ ((-1),[],1) ⟨by show (1:Int)<=1;omega,by show (1:Int)<=n;omega,by simp,.inl ⟨rfl,rfl⟩⟩
 ·obtain ⟨⟨v,p⟩,N,⟨y,f,k,hm⟩,w⟩:=key;refine ⟨v,p,?_,fun t=>⟨fun ht S hS0 ⟨z,c,d,hSz⟩=>?_,fun P=>?_⟩⟩
  ·unfold zhG zh2;rw [N];rfl
  ·obtain ⟨u,H,g⟩:=w z c d;have:=H.1 S hS0 hSz;simp only at g;omega
  ·obtain ⟨S,l,j,B⟩:=hm.2;have:=P S l ⟨y,f,k,j⟩;simp only at B;omega
 ·rintro ⟨a,part,y⟩ ⟨f,k,hpl,hor⟩;simp only at f k hpl hor;unfold ze2;by_cases e:y<n
  ·left;rw [if_pos (by simp [e])];obtain ⟨v,at_,fl,O,Q,E,M,hm⟩:=zyn (x:=0) (y:=y) hn1 hb hw (by omega) (by omega) (by omega) e (by omega);obtain ⟨p,hp,i⟩:=zxP (y:=y) Q (by omega) e;simp only [O,hp,gq];have r:w64 (y+1)=y+1:=zu (by omega) (by omega);have take:(s1:a<0\/v<=a)->∃ s',zaG (a,part,y) ((n,bs,at_,fl),v) (p,n,bs,at_,fl) true=some (.inl s')/\
     (1<=s'.2.2/\s'.2.2<=n/\s'.2.1.length<=100000/\(s'.2.2=1/\s'.1 = -1\/1<s'.2.2/\0<=s'.1/\(∃ y,1<=y/\y<s'.2.2/\zme bs 0 y s'.1)/\∀ y,1<=y->y<s'.2.2->∃ v,zme bs 0 y v/\s'.1<=v))/\(n - s'.2.2).toNat<(n - y).toNat:=by
    intro g;refine ⟨(v,p,y+1),by unfold zaG zcZ;simp [r],⟨by simp only [];omega,by simp only [];omega,i,.inr ⟨by simp only [];omega,E,⟨y,f,by simp only [];omega,hm⟩,?_⟩⟩,by simp only [];omega⟩;intro z c d;simp only at d;by_cases m:z=y
    ·subst m;exact ⟨v,hm,by simp only [];omega⟩
    ·rcases hor with ⟨l,j⟩ | ⟨l,j,B,h4⟩
     ·omega
     ·obtain ⟨u,H,L⟩:=h4 z c (by omega);exact ⟨u,H,by simp only [];omega⟩
   have A:0<=a->a<=v->∃ s',zaG (a,part,y) ((n,bs,at_,fl),v) (p,n,bs,at_,fl) false=some (.inl s')/\
     (1<=s'.2.2/\s'.2.2<=n/\s'.2.1.length<=100000/\(s'.2.2=1/\s'.1 = -1\/1<s'.2.2/\0<=s'.1/\(∃ y,1<=y/\y<s'.2.2/\zme bs 0 y s'.1)/\∀ y,1<=y->y<s'.2.2->∃ v,zme bs 0 y v/\s'.1<=v))/\(n - s'.2.2).toNat<(n - y).toNat:=by
    intro D g;rcases hor with ⟨l,j⟩ | ⟨l,j,⟨y',h5,h6,h7⟩,h4⟩
    ·omega
    ·refine ⟨(a,part,y+1),by unfold zaG zcZ;simp [r],⟨by simp only [];omega,by simp only [];omega,hpl,.inr ⟨by simp only [];omega,D,⟨y',h5,by simp only [];omega,h7⟩,?_⟩⟩,by simp only [];omega⟩;intro z c d;simp only at d;by_cases m:z=y
     ·subst m;exact ⟨v,hm,g⟩
     ·exact h4 z c (by omega)
   by_cases q:a<0
   ·rw [if_pos (by simp [q])];exact take (.inl q)
   ·rw [if_neg (by simp [q])];obtain ⟨b,G,J,I⟩:=zwv v a p part i;simp only [G,gq];cases b with
    | true=>exact take (.inr (by
      rcases Int.lt_or_le a v with h | h
      ·have:=I h;cases this
      ·exact h))
    | false=>exact A (by omega) (by
      rcases Int.lt_or_le v a with h | h
      ·have:=J h;cases this
      ·exact h)
  ·right;rw [if_neg (by simp [e])];refine ⟨_,rfl,?_⟩;have C:y=n:=by omega
   subst C;rcases hor with ⟨l,j⟩ | ⟨l,j,B,h4⟩
   ·omega
   ·exact ⟨B,h4⟩
end
def zcV:Nat->(Nat->Int)->Int
 | 0,_=>0
 | n+1,f=>zcV n f+f n
theorem zcU {f g:Nat->Int}:∀ {n:Nat},(∀ i,i<n->f i=g i)->zcV n f=zcV n g
 | 0,_=>rfl
 | n+1,h=>by
  unfold zcV;rw [zcU (n:=n) fun i hi=>h i (by omega),h n (by omega)]
theorem zqk (f g:Nat->Int):∀ (n:Nat),zcV n (fun i=>f i+g i)=zcV n f+zcV n g
 | 0=>rfl
 | n+1=>by
  unfold zcV;rw [zqk f g n];simp only [Int.add_assoc,Int.add_left_comm,Int.add_comm]
theorem zpb:∀ (n:Nat),zcV n (fun _=>0)=0
 | 0=>rfl
 | n+1=>by unfold zcV;rw [zpb n];rfl
theorem zsQ (f:Nat->Int):∀ (n:Nat),zcV n (fun i => - f i) = - zcV n f
 | 0=>rfl
 | n+1=>by unfold zcV;rw [zsQ f n];show - zcV n f + - f n = - (zcV n f+f n);omega
theorem zuM {f g:Nat->Int}:∀ {n:Nat},(∀ i,i<n->f i<=g i)->zcV n f<=zcV n g
 | 0,_=>Int.le_refl _
 | n+1,h=>by
  unfold zcV;have a:=zuM (n:=n) fun i hi=>h i (by omega);have b:=h n (by omega);omega
theorem zt7 (f:Nat->Nat->Int) (m:Nat):∀ (n:Nat),zcV n (fun i=>zcV m (fun j=>f i j))=zcV m (fun j=>zcV n (fun i=>f i j))
 | 0=>by
  show (0:Int)=zcV m (fun _=>0);rw [zpb]
 | n+1=>by
  show zcV n (fun i=>zcV m (fun j=>f i j))+zcV m (fun j=>f n j)=zcV m (fun j=>zcV n (fun i=>f i j)+f n j);rw [zt7 f m n,zqk]
theorem zsP {f g:Nat->Int} {a:Nat} {d:Int}:∀ {n:Nat},a<n->(∀ i,i<n->i≠a->g i=f i)->g a=f a+d->zcV n g=zcV n f+d
 | 0,h,_,_=>by omega
 | n+1,h,he,ha=>by
  unfold zcV;by_cases b:a=n
  ·subst b;rw [zcU (f:=g) (g:=f) fun i hi=>he i (by omega) (by omega),ha];omega
  ·rw [zsP (n:=n) (by omega) (fun i hi=>he i (by omega)) ha,he n (by omega) (by omega)];omega
def mid (n:Nat) (S:Int->Bool) (F:Nat->Nat->Int):Int:=zcV n fun u=>zcV n fun v=>ind (S u)*F u v
def zm1 (n:Nat) (S:Int->Bool) (R:Nat->Nat->Int):Int:=zcV n fun u=>zcV n fun v=>ind (S u)*(1 - ind (S v))*R u v
theorem zul {n:Nat} {S:Int->Bool} {F:Nat->Nat->Int} (ha:∀ u v,u<n->v<n->F u v = - F v u):mid n S F=zm1 n S F:=by
 obtain ⟨T,a⟩:∃ T,T=zcV n fun u=>zcV n fun v=>ind (S u)*ind (S v)*F u v:=⟨_,rfl⟩;have e:mid n S F=zm1 n S F+T:=by
  unfold mid zm1;rw [a,←zqk];refine zcU fun u c=>?_;rw [←zqk];refine zcU fun v b=>?_;rw [Int.mul_sub,Int.sub_mul,Int.mul_one];omega
 have d:T = - T:=by
  calc T=zcV n fun v=>zcV n fun u=>ind (S u)*ind (S v)*F u v:=by rw [a,zt7]
   _=zcV n fun v => - zcV n fun u=>ind (S v)*ind (S u)*F v u:=by
     refine zcU fun v b=>?_;rw [←zsQ];refine zcU fun u c=>?_;rw [ha u v c b,Int.mul_neg,Int.mul_comm (ind (S u))]
   _ = - T:=by rw [zsQ,←a]
 omega
theorem zAw {n:Nat} {S:Int->Bool} {F R:Nat->Nat->Int} (h:∀ u v,u<n->v<n->F u v<=R u v):zm1 n S F<=zm1 n S R:=by
 refine zuM fun u b=>zuM fun v a=>?_;have:=h u v b a;unfold ind;split<;>split<;>omega
theorem zAx {n:Nat} {S:Int->Bool} {F R:Nat->Nat->Int} (h:∀ u v:Nat,u<n->v<n->S u=true->S v=false->F u v=R u v):zm1 n S F=zm1 n S R:=by
 refine zcU fun u b=>zcU fun v a=>?_;have:=h u v b a;unfold ind;cases hS:S u<;>cases hV:S v<;>simp [hS,hV] at this ⊢;exact this
theorem zq8 {n:Nat} {c:Nat->Nat->Int} {F G:Nat->Nat->Int} {a b:Nat} {d:Int} (ha:a<n) (hb:b<n) (he:∀ u v,u<n->v<n->(u≠a\/v≠b)->G u v=F u v) (h:G a b=F a b+d) :
  (zcV n fun u=>zcV n fun v=>c u v*G u v)=(zcV n fun u=>zcV n fun v=>c u v*F u v)+c a b*d:=by
 refine zsP ha (fun u g e=>zcU fun v f=>by rw [he u v g f (.inl e)]) ?_;refine zsP hb (fun v f e=>by rw [he a v ha f (.inr e)]) ?_;rw [h,Int.mul_add]
def ent (F:List (List Int)) (u v:Nat):Int:=((F[u]?.getD [])[v]?).getD 0
structure Sq (n:Nat) (F:List (List Int)):Prop where
 len:F.length=n
 row:∀ (u:Nat) (r:List Int),F[u]?=some r->r.length=n
section
variable {n:Nat} {F:List (List Int)}
theorem Sq.get (h:Sq n F) {u v:Nat} (hu:u<n) (hv:v<n):∃ r,F[u]?=some r/\r.length=n/\r[v]?=some (ent F u v):=by
 have b:u<F.length:=by rw [h.len];exact hu
 have a:F[u]?=some F[u]:=cm b;have c:=h.row u _ a;refine ⟨F[u],a,c,?_⟩;unfold ent;rw [a];simp only [gt];rw [cm (by omega)];rfl
theorem Sq.idx (h:Sq n F) {u v:Int} (hu0:0<=u) (hu:u<n) (hv0:0<=v) (hv:v<n):∃ r,idx F u=some r/\r.length=n/\F[u.toNat]?=some r/\Lf.idx r v=some (ent F u.toNat v.toNat):=by
 obtain ⟨r,a,b,c⟩:=h.get (u:=u.toNat) (v:=v.toNat) (by omega) (by omega);exact ⟨r,zgA hu0 a,b,a,zgA hv0 c⟩
theorem Sq.set (h:Sq n F) {u v:Nat} {r:List Int} {e:Int} (hr:F[u]?=some r) (hv:v<n):Sq n (F.set u (r.set v e))/\∀ i j,ent (F.set u (r.set v e)) i j=if i=u/\j=v then e else ent F i j:=by
 have d:=zy hr;have c:=h.row u r hr;refine ⟨⟨by rw [dz];exact h.len,fun i x a=>?_⟩,fun i j=>?_⟩
 ·by_cases hi:u=i
  ·subst hi;rw [zX d] at a;injection a with a
   rw [←a,dz];exact c
  ·rw [zL hi] at a;exact h.row i x a
 ·unfold ent;by_cases hi:u=i
  ·subst hi;rw [zX d,hr];simp only [gt,true_and];by_cases b:v=j
   ·subst b;rw [zX (by omega),if_pos rfl];rfl
   ·rw [zL b,if_neg (fun e=>b e.symm)]
  ·rw [zL hi,if_neg (fun e=>hi e.1.symm)]
end
theorem zsI {n:Int} (h0:0<=n) (h1:n<=100000):mkl 8 n (0:Int)=some (List.replicate n.toNat 0):=zm0 h0 (by omega) (by omega)
theorem zAb (n:Nat):Sq n (List.replicate n (List.replicate n 0))/\∀ u v,ent (List.replicate n (List.replicate n 0)) u v=0:=by
 refine ⟨⟨by simp,fun u r b=>?_⟩,fun u v=>?_⟩
 ·have:=cz (a:=List.replicate n (0:Int)) (n:=n) (i:=u);rw [this] at b;split at b
  ·injection b with b;rw [←b];simp
  ·cases b
 ·unfold ent;rw [cz];split
  ·simp only [gt];rw [cz];split<;>rfl
  ·simp
section
variable {n:Int} {bs:List Bd}
theorem ztc (h0:0<=n) (h1:n<=1000):iter (zd1 n) (0,[],[])=some (List.replicate n.toNat (List.replicate n.toNat 0),List.replicate n.toNat (List.replicate n.toNat 0)):=by
 have key:=zA (F:=zd1 n)
  (fun s=>0<=s.1/\s.1<=n/\s.2.1=List.replicate s.1.toNat (List.replicate n.toNat 0)/\s.2.2=List.replicate s.1.toNat (List.replicate n.toNat 0)) (fun s=>(n - s.1).toNat)
  (fun z=>z=(List.replicate n.toNat (List.replicate n.toNat 0),List.replicate n.toNat (List.replicate n.toNat 0))) ?_ (0,[],[]) ⟨by simp,h0,by simp,by simp⟩
 ·obtain ⟨z,e,rfl⟩:=key;exact e
 ·rintro ⟨i,A,B⟩ ⟨hi0,hi1,hA,hB⟩;simp only at hi0 hi1 hA hB;unfold zd1;by_cases b:i<n
  ·left;have c:∀ X,X=List.replicate i.toNat (List.replicate n.toNat (0:Int))->app 24 X [List.replicate n.toNat 0]=some (List.replicate (i+1).toNat (List.replicate n.toNat 0)):=by
    intro X d;have hlen:X.length=i.toNat:=by rw [d];simp
    rw [zaf (by rw [hlen];simp;omega) (by rw [hlen];simp;omega),d];have:(i+1).toNat=i.toNat+1:=by omega
    rw [this,List.replicate_succ']
   simp only [b,decide_true,if_true,zsI h0 (by omega),gq,c A hA,c B hB];have a:w64 (i+1)=i+1:=zu (by omega) (by omega);exact ⟨_,rfl,⟨by simp only [a];omega,by simp only [a];omega,by simp only [a],by simp only [a]⟩,by simp only [a];omega⟩
  ·right;simp only [b,decide_false];have:i=n:=by omega
   subst this;exact ⟨_,rfl,by rw [hA,hB]⟩
theorem zx8 {m:Nat} {S:Int->Bool} {R R1 R2:Nat->Nat->Int} {a b:Nat} {d:Int} (ha:a<m) (hb:b<m) (hab:a≠b)
  (h1:∀ u v,R1 u v=if u=a/\v=b then R a b+d else R u v) (h2:∀ u v,R2 u v=if u=b/\v=a then R1 b a+d else R1 u v) :
  zm1 m S R2=zm1 m S R+(if S a=S b then 0 else d):=by
 unfold zm1;rw [zq8 (c:=fun u v=>ind (S u)*(1 - ind (S v))) (F:=R1) (G:=R2) hb ha (d:=d) (fun u v _ _ e=>by rw [h2,if_neg (by omega)]) (by rw [h2,if_pos ⟨rfl,rfl⟩]),
  zq8 (c:=fun u v=>ind (S u)*(1 - ind (S v))) (F:=R) (G:=R1) ha hb (d:=d) (fun u v _ _ e=>by rw [h1,if_neg (by omega)]) (by rw [h1,if_pos ⟨rfl,rfl⟩])]
 unfold ind;cases S a<;>cases S b<;>simp
theorem zsl (h0:0<=n) (h1:n<=1000) (hb:bs.length<=100000) (hw:WBs n bs) (A:List (List Int)) (hA:Sq n.toNat A) (hA0:∀ u v,ent A u v=0) :
  ∃ R,iter (zd0 bs) (0,A)=some R/\Sq n.toNat R/\(∀ u v,0<=ent R u v/\ent R u v<=2000*bs.length)/\∀ S,zm1 n.toNat S (ent R)=zf6 S bs:=by
 have key:=zA (F:=zd0 bs)
  (fun s=>0<=s.1/\s.1<=bs.length/\Sq n.toNat s.2/\(∀ u v,0<=ent s.2 u v/\ent s.2 u v<=2000*s.1)/\∀ S,zm1 n.toNat S (ent s.2)=zf6 S (bs.take s.1.toNat)) (fun s=>(bs.length - s.1).toNat)
  (fun R=>Sq n.toNat R/\(∀ u v,0<=ent R u v/\ent R u v<=2000*bs.length)/\∀ S,zm1 n.toNat S (ent R)=zf6 S bs) ?_ (0,A) ⟨by simp,by simp,hA,fun u v=>by rw [hA0];simp,fun S=>?_⟩
 ·exact key
 ·rintro ⟨i,A⟩ ⟨hi0,hi1,hA,hbd,hc⟩;simp only at hi0 hi1 hA hbd hc;unfold zd0;by_cases h:i<bs.length
  ·left;obtain ⟨⟨x,y,s⟩,B,t⟩:=zR (l:=bs) hi0 h;obtain ⟨C,w2,D,O,U,Q,T⟩:=hw _ _ t;simp only at C w2 D O U Q T;obtain ⟨r,Y,g2,g3,X⟩:=hA.idx (u:=x) (v:=y) C (by omega) D (by omega);obtain ⟨q,p⟩:=hA.set (e:=ent A x.toNat y.toNat+s) g3 (v:=y.toNat) (by omega);obtain ⟨P,k1,k2,k3,N⟩:=q.idx (u:=y) (v:=x) D (by omega) C (by omega);have a2:=hbd x.toNat y.toNat;have w:ent (A.set x.toNat (r.set y.toNat (ent A x.toNat y.toNat+s))) y.toNat x.toNat=ent A y.toNat x.toNat:=by rw [p,if_neg (by omega)]
   have a0:=hbd y.toNat x.toNat;rw [w] at N;obtain ⟨J,z⟩:=q.set (e:=ent A y.toNat x.toNat+s) k3 (v:=x.toNat) (by omega);have L:w64 (ent A x.toNat y.toNat+s)=ent A x.toNat y.toNat+s:=zu (by omega) (by omega);have I:w64 (ent A y.toNat x.toNat+s)=ent A y.toNat x.toNat+s:=zu (by omega) (by omega);have G:w64 (i+1)=i+1:=zu (by omega) (by omega);simp only [h,decide_true,if_true,B,gq,Y,X,L,k1,N,I,G];refine ⟨_,rfl,⟨by simp only [];omega,by simp only [];omega,J,fun u v=>?_,fun S=>?_⟩,by simp only [];omega⟩
   ·simp only;rw [z];split
    ·omega
    ·rw [p];split
     ·omega
     ·have:=hbd u v;omega
   ·simp only;have H:(i+1).toNat=i.toNat+1:=by omega
    have E:bs.take (i+1).toNat=bs.take i.toNat++[(x,y,s)]:=by
     rw [H,fq,t];rfl
    rw [E];have j:∀ (l:List Bd) (b:Bd),zf6 S (l++[b])=zf6 S l+(if S b.1=S b.2.1 then 0 else b.2.2):=by
     intro l b
     induction l with
     | nil=>simp [zf6]
     | cons c l ih=>simp only [List.cons_append,zf6,ih];omega
    rw [j,←hc S];have hx:((x.toNat:Nat):Int)=x:=by omega
    have Z:((y.toNat:Nat):Int)=y:=by omega
    have:=zx8 (m:=n.toNat) (S:=S) (R:=ent A) (R1:=ent (A.set x.toNat (r.set y.toNat (ent A x.toNat y.toNat+s)))) (a:=x.toNat) (b:=y.toNat) (d:=s) (by omega) (by omega) (by omega) p (R2:=ent ((A.set x.toNat (r.set y.toNat (ent A x.toNat y.toNat+s))).set y.toNat (P.set x.toNat (ent A y.toNat x.toNat+s)))) (by intro u v;rw [z,w]);rw [hx,Z] at this;exact this
  ·right;simp only [h,decide_false];have:i=bs.length:=by omega
   refine ⟨_,rfl,hA,fun u v=>by rw [←this];exact hbd u v,fun S=>?_⟩;rw [hc S,this];simp
 ·simp only [zf6,List.take_zero,Int.toNat_zero];unfold zm1;have M:∀ (k:Nat) (f:Nat->Int),(∀ i,f i=0)->zcV k f=0:=fun k f V=>by
   rw [zcU (g:=fun _=>0) fun i _=>V i,zpb]
  refine M _ _ fun u=>M _ _ fun v=>by rw [hA0];simp
theorem ztb (h0:0<=n) (h1:n<=1000) (hb:bs.length<=100000) (hw:WBs n bs) :
  ∃ R F,zi9 n bs=some (R,F)/\Sq n.toNat R/\Sq n.toNat F/\(∀ u v,ent F u v=0)/\(∀ u v,0<=ent R u v/\ent R u v<=2000*bs.length)/\∀ S,zm1 n.toNat S (ent R)=zf6 S bs:=by
 obtain ⟨b,a⟩:=zAb n.toNat;obtain ⟨R,e,c,f,d⟩:=zsl h0 h1 hb hw _ b a;refine ⟨R,_,?_,c,b,a,f,d⟩;unfold zi9 zi8 zi7;rw [ztc h0 h1];simp only [gq];rw [e];rfl
end
def Inj {α:Type} (Q:List α):Prop:=∀ (i j:Nat) (x:α),Q[i]?=some x->Q[j]?=some x->i=j
theorem Inj.snoc {α:Type} {Q:List α} {x:α} (h:Inj Q) (hx:x∉Q):Inj (Q++[x]):=by
 intro i j y hi l;have key:∀ k:Nat,(Q++[x])[k]?=some y->(k<Q.length/\Q[k]?=some y)\/(k=Q.length/\y=x):=by
  intro k e;by_cases f:k<Q.length
  ·rw [cg f] at e;exact .inl ⟨f,e⟩
  ·rw [ci (by omega)] at e;have g:=zy e;simp at g;have:k=Q.length:=by omega
   subst this;simp at e;exact .inr ⟨rfl,e.symm⟩
 rcases key i hi with ⟨a,b⟩ | ⟨a,b⟩<;>rcases key j l with ⟨c,d⟩ | ⟨c,d⟩
 ·exact h i j y b d
 ·exact absurd (d▸fd b:x∈Q) hx
 ·exact absurd (b▸fd d:x∈Q) hx
 ·omega
theorem zxA {α:Type} {l l2:List α} {lo:Nat} (h:lo<=l.length) (j:Nat):(cpy l lo l2)[j]?=if j<lo then l[j]? else if j - lo<min l2.length (l.length - lo) then l2[j - lo]? else l[j]?:=by
 unfold cpy;have a:(l.take lo).length=lo:=by rw [ed];omega
 have b:(l2.take (l.length - lo)).length=min l2.length (l.length - lo):=by rw [ed];omega
 split
 ·rename_i hj;rw [cg (by rw [dl,a];omega),cg (by omega),dh,if_pos hj]
 ·split
  ·rename_i hj hk;rw [cg (by rw [dl,a,b];omega),ci (by omega),a,dh,if_pos (by omega)]
  ·rename_i hj hk;rw [ci (by rw [dl,a,b];omega),dl,a,b,cj];congr 1;omega
theorem zvP {n:Int} (i:1<=n) (b:n<=100000):zfZ [(-1)] n=some (List.replicate n.toNat (-1)):=by
 unfold zfZ;rw [if_neg (by simp;omega)];have e:IntKind.wrap .u64 (([(-1:Int)].length:Nat):Int)=1:=by decide
 have q:IntKind.wrap .u64 n=n:=by
  have:∀ m:Int,0<=m->m<18446744073709551616->IntKind.wrap .u64 m=m:=by
   intro m i b;show m % 18446744073709551616=m;omega
  exact this n (by omega) (by omega)
 rw [e,q];have f:zhy 1 n=some (0,n):=by
  unfold zhy;rw [if_pos (by omega)];simp;omega
 rw [f];simp only [gq];rw [if_neg (by simp)];unfold zdN;have hd:decide (n>9223372036854775807)=false:=by simp;omega
 rw [hd];simp only [zu (n:=n) (by omega) (by omega),zsI (n:=n) (by omega) b,gq];have key:=zA (F:=zdM) (fun s=>s.1.length=n.toNat/\1<=s.2/\s.2<=n/\∀ j:Nat,j<s.2.toNat->s.1[j]?=some (-1)) (fun s=>(n - s.2).toNat) (fun z=>z=List.replicate n.toNat (-1)) ?_
  (cpy (List.replicate n.toNat 0) 0 [-1],((min [(-1:Int)].length (List.replicate n.toNat (0:Int)).length:Nat):Int)) ?_
 ·obtain ⟨z,r,rfl⟩:=key;rw [r];rfl
 ·rintro ⟨l,k⟩ ⟨hl,hk0,hk1,hall⟩;simp only at hl hk0 hk1 hall;unfold zdM;by_cases a:k<(l.length:Int)
  ·left;have p:zkY l k l.length=some ((l.take (l.length:Int).toNat).drop k.toNat):=by unfold zkY;rw [if_pos ⟨by omega,by omega,by omega⟩]
   have g:zkY l 0 k=some ((l.take k.toNat).drop (0:Int).toNat):=by unfold zkY;rw [if_pos ⟨by omega,by omega,by omega⟩]
   simp only [a,decide_true,if_true,p,g,gq];have hlen:((l.take k.toNat).drop (0:Int).toNat).length=k.toNat:=by
    rw [dt,ed];simp;omega
   rw [hlen];have d:w64 (k+((min k.toNat (l.length - k.toNat):Nat):Int))=k+((min k.toNat (l.length - k.toNat):Nat):Int):=zu (by omega) (by omega);rw [d];refine ⟨_,rfl,⟨?_,by simp only [];omega,by simp only [];omega,?_⟩,by simp only [];omega⟩
   ·simp only;rw [zvg (by omega)];exact hl
   ·intro j c;simp only at c ⊢;rw [zxA (by omega)];split
    ·rename_i h;exact hall j h
    ·split
     ·rename_i b h2;rw [cj,dh];simp only [Int.toNat_zero,gm];rw [if_pos (by omega)];exact hall _ (by omega)
     ·rename_i b h2;rw [hlen] at h2;omega
  ·right;simp only [a,decide_false];refine ⟨_,rfl,?_⟩;apply bl;intro j;rw [cz];split
   ·exact hall j (by omega)
   ·exact cn (by omega)
 ·have hm:((min [(-1:Int)].length (List.replicate n.toNat (0:Int)).length:Nat):Int)=1:=by simp;omega
  refine ⟨by simp only [];rw [zvg (by simp)];simp,by simp only [hm];omega,by simp only [hm];omega,fun j c=>?_⟩;simp only [hm] at c;have:j=0:=by omega
  subst this;simp only;rw [zxA (by simp),if_neg (by omega),if_pos (by simp;omega)];rfl
def Fr (R F:List (List Int)) (u v:Int):Prop:=ent F u.toNat v.toNat<ent R u.toNat v.toNat
section
variable {n:Nat} {R F:List (List Int)}
theorem zAD (hR:Sq n R) (hF:Sq n F) {u v:Int} (hu0:0<=u) (hu:u<n) (hv0:0<=v) (hv:v<n):∃ b,zf3 (R,F) u v=some b/\(b=true↔Fr R F u v):=by
 obtain ⟨r,c,e,g,a⟩:=hR.idx hu0 hu hv0 hv;obtain ⟨f,k1,k2,k3,d⟩:=hF.idx hu0 hu hv0 hv;unfold zf3;simp only [c,a,k1,d,gq];exact ⟨_,rfl,by unfold Fr;simp⟩
structure WInv (n:Nat) (R F:List (List Int)) (a:Int) (par Q:List Int) (k:Nat):Prop where
 len:par.length=n
 inj:Inj Q
 hd:Q[0]?=some a
 kle:k<=Q.length
 rng:∀ x∈Q,0<=x/\x<n
 neg:Q.length+par.countP isNeg=n
 mem:∀ (v:Nat) (p:Int),par[v]?=some p->((v:Int)∈Q↔0<=p)
 src:∀ (i:Nat) (x:Int),Q[i]?=some x->i≠0->∃ (j:Nat) (p:Int),j<i/\Q[j]?=some p/\par[x.toNat]?=some p/\Fr R F p x
 cls:∀ (j:Nat) (u:Int),j<k->Q[j]?=some u->∀ v:Nat,v<n->Fr R F u v->(v:Int)∈Q
variable {a b:Int} {par Q:List Int} {k:Nat}
theorem zxF (hn:n<=1000) (hR:Sq n R) (hF:Sq n F) (h:WInv n R F a par Q k) {u:Int} (hu:Q[k]?=some u) (rest:List Int) :
  ∃ par' J,iter (zcx (R,F) (u,rest)) (par,0,Q.drop (k+1))=some (par',J)/\∃ Q',WInv n R F a par' Q' (k+1)/\J=Q'.drop (k+1):=by
 have t:=h.rng u (fd hu);have key:=zA (F:=zcx (R,F) (u,rest))
  (fun s=>0<=s.2.1/\s.2.1<=n/\∃ Q',WInv n R F a s.1 Q' k/\s.2.2=Q'.drop (k+1)/\Q'[k]?=some u/\∀ v:Nat,(v:Int)<s.2.1->Fr R F u v->(v:Int)∈Q')
  (fun s=>(n - s.2.1).toNat) (fun z=>∃ Q',WInv n R F a z.1 Q' (k+1)/\z.2=Q'.drop (k+1)) ?_ (par,0,Q.drop (k+1)) ⟨by simp,by simp,Q,h,rfl,hu,fun v hv=>by simp only at hv;omega⟩
 ·obtain ⟨⟨H,J⟩,hz,L⟩:=key;exact ⟨H,J,hz,L⟩
 ·rintro ⟨par,v,q⟩ ⟨hv0,hv1,Q,hW,hq,hk,hcl⟩;simp only at hv0 hv1 hW hq hcl;unfold zcx;simp only [hR.len];by_cases r:v<n
  ·left;rw [if_pos (by simp [r])];obtain ⟨p,hp,C⟩:=zR (l:=par) hv0 (by rw [hW.len];omega);have g:=hW.mem v.toNat p C;have E:((v.toNat:Nat):Int)=v:=by omega
   rw [E] at g;have Y:w64 (v+1)=v+1:=zu (by omega) (by omega);simp only [hp,gq];have A:(Fr R F u v->v∈Q)->∃ s',zbb (R,F) (u,rest) (par,v,q) false=some (.inl s')/\(0<=s'.2.1/\s'.2.1<=n/\∃ Q',WInv n R F a s'.1 Q' k/\s'.2.2=Q'.drop (k+1)/\Q'[k]?=some u/\∀ v:Nat,(v:Int)<s'.2.1->Fr R F u v->(v:Int)∈Q')/\(n - s'.2.1).toNat<(n - v).toNat:=by
    intro P;unfold zbb zcz;simp only [Y];refine ⟨_,rfl,⟨by simp only [];omega,by simp only [];omega,Q,hW,hq,hk,fun x c f=>?_⟩,by simp only [];omega⟩;simp only at c;by_cases d:(x:Int)=v
    ·rw [d] at f ⊢;exact P f
    ·exact hcl x (by omega) f
   by_cases m:p<0
   ·rw [if_pos (by simp [m])];obtain ⟨b,hb,D⟩:=zAD hR hF t.1 t.2 hv0 r;simp only [hb,gq];cases b with
    | false=>exact A fun P=>absurd (D.2 P) (by simp)
    | true=>
     have f:Fr R F u v:=D.1 rfl;have I:v∉Q:=fun hm=>by have:=g.1 hm;omega
     have hc:(par.set v.toNat u).countP isNeg+1=par.countP isNeg:=zl7 isNeg C (by simp [isNeg,m]) (by simp [isNeg];exact t.1);have M:=hW.neg;have B:k<Q.length:=zy hk;have X:q.length<n:=by rw [hq,dt];omega
     unfold zbb zcz;simp only [if_true,hp,gq,hR.len];have hs:zsa ((n:Int).toNat) q v=some (q++[v]):=by unfold zsa;rw [if_pos (by simpa using X)]
     simp only [hs,gq,Y];have G:v.toNat<par.length:=zy C;refine ⟨_,rfl,⟨by simp only [];omega,by simp only [];omega,Q++[v],?_,?_,?_,?_⟩,by simp only [];omega⟩
     ·refine ⟨by simp only [dz];exact hW.len,hW.inj.snoc I,?_,by rw [dl];exact Nat.le_add_right_of_le hW.kle,?_,?_,?_,?_,?_⟩
      ·have h0:=zy hW.hd;rw [cg h0];exact hW.hd
      ·intro x c;rcases ep.1 c with c | c
       ·exact hW.rng x c
       ·rw [fg.1 c];exact ⟨hv0,r⟩
      ·simp only [dl,dm,dx];omega
      ·intro x H c;simp only at c;by_cases d:x=v.toNat
       ·subst d;rw [zX G] at c;injection c with c
        subst c;rw [E];simp [t.1]
       ·rw [zL (fun e=>d e.symm)] at c;rw [←hW.mem x H c,ep,fg];exact ⟨fun e=>e.resolve_right (by omega),.inl⟩
      ·intro i x hi O;by_cases U:i<Q.length
       ·rw [cg U] at hi;obtain ⟨j,H,h1,L,h3,h4⟩:=hW.src i x hi O;refine ⟨j,H,h1,by rw [cg (by omega)];exact L,?_,h4⟩;simp only;rw [zL]
        ·exact h3
        ·intro e;have a2:=hW.rng x (fd hi);have d:x=v:=by omega
         exact I (d▸fd hi)
       ·rw [ci (by omega)] at hi;have:=zy hi;simp at this;have T:i - Q.length=0:=by omega
        rw [T] at hi;simp at hi;subst hi;exact ⟨k,u,by omega,by rw [cg B];exact hk,by simp only [];rw [zX G],f⟩
      ·intro j x Z c y S w;rw [cg (by omega)] at c;exact er _ (hW.cls j x Z c y S w)
     ·simp only;rw [List.drop_append_of_le_length (by omega),hq]
     ·rw [cg B];exact hk
     ·intro x c V;simp only at c;by_cases d:(x:Int)=v
      ·rw [d];simp
      ·exact er _ (hcl x (by omega) V)
   ·rw [if_neg (by simp [m])];exact A fun _=>g.2 (by omega)
  ·right;rw [if_neg (by simp [r])];have B:k<Q.length:=zy hk;refine ⟨_,rfl,Q,⟨hW.len,hW.inj,hW.hd,by omega,hW.rng,hW.neg,hW.mem,hW.src,fun j x Z c y S w=>?_⟩,hq⟩;by_cases N:j=k
   ·subst N;rw [hk] at c;injection c with c
    subst c;exact hcl y (by omega) w
   ·exact hW.cls j x (by omega) c y S w
theorem zxE (hn:n<=1000) (hR:Sq n R) (hF:Sq n F) (h:WInv n R F a par Q 0) :
  ∃ b,iter (zcy (R,F)) (par,Q)=some b/\∃ Q',WInv n R F a b Q' Q'.length:=by
 have key:=zA (F:=zcy (R,F))
  (fun s=>∃ Q' k,WInv n R F a s.1 Q' k/\s.2=Q'.drop k)
  (fun s=>s.2.length+s.1.countP isNeg) (fun z=>∃ Q',WInv n R F a z Q' Q'.length) ?_ (par,Q) ⟨Q,0,h,rfl⟩
 ·exact key
 ·rintro ⟨par,q⟩ ⟨Q,k,hW,hq⟩;simp only at hW hq;unfold zcy;have j:=hW.neg;have l:=hW.kle;have i:q.length=Q.length - k:=by rw [hq,dt]
  have t:zyw q=some (q.length:Int):=by unfold zyw;rw [if_pos (by omega)]
  simp only [t,gq];by_cases c:k<Q.length
  ·left;rw [if_pos (by simp;omega)];obtain ⟨u,e⟩:∃ u,Q[k]?=some u:=⟨_,cm c⟩;have hd:Q.drop k=u::Q.drop (k+1):=by
    rw [bh c];rw [cm c] at e;injection e with e
    rw [e]
   have p:=hW.rng u (fd e);have m:zxz q=some (u,Q.drop (k+1)):=by
    rw [hq,hd];show (if -9223372036854775808<=u/\u<=9223372036854775807 then some (u,Q.drop (k+1)) else none)=_;rw [if_pos ⟨by omega,by omega⟩]
   obtain ⟨b,r,g,Q',d,f⟩:=zxF hn hR hF hW e (Q.drop (k+1));simp only [m,gq,g];unfold zhm;refine ⟨_,rfl,⟨Q',k+1,d,f⟩,?_⟩;have w:=d.neg;have v:=d.kle;show r.length+b.countP isNeg<q.length+par.countP isNeg;rw [f,i,dt];omega
  ·right;rw [if_neg (by simp only [decide_eq_true_eq];omega)];refine ⟨_,rfl,Q,?_⟩;have:k=Q.length:=by omega
   rw [←this];exact hW
structure Way (n:Nat) (R F:List (List Int)) (a b:Int) (w:List Int):Prop where
 pos:1<=w.length
 hd:w[0]?=some a
 lst:w[w.length - 1]?=some b
 inj:Inj w
 rng:∀ x∈w,0<=x/\x<n
 most:w.length<=n
 edge:∀ (i:Nat) (x y:Int),w[i]?=some x->w[i+1]?=some y->Fr R F x y
theorem zyE (hn:n<=1000) (h:WInv n R F a par Q k):∀ (p:Nat) (x:Int) (out:List Int),Q[p]?=some x->1<=out.length->out[0]?=some b->out[out.length - 1]?=some x->Inj out->
  (∀ y∈out,∃ j,p<=j/\Q[j]?=some y)->out.length+p<=Q.length->(∀ (i:Nat) (x y:Int),out[i]?=some x->out[i+1]?=some y->Fr R F y x)->
  ∃ w,iter (zba a par) (out,x)=some w/\1<=w.length/\w[0]?=some b/\w[w.length - 1]?=some a/\Inj w/\(∀ x∈w,0<=x/\x<n)/\w.length<=n/\∀ (i:Nat) (x y:Int),w[i]?=some x->w[i+1]?=some y->Fr R F y x:=by
 intro p
 induction p using Nat.strongRecOn with
 | _ p ih=>
  intro x out u T N d m f V c;have O:=h.neg;by_cases l:x=a
  ·refine ⟨out,zC ?_,T,N,by rw [d,l],m,fun y g=>?_,by omega,c⟩
   ·unfold zba;simp [l]
   ·obtain ⟨j,_,M⟩:=f y g;exact h.rng y (fd M)
  ·have J:p≠0:=fun e=>by
    subst e;rw [h.hd] at u;injection u with u;exact l u.symm
   obtain ⟨j,q,M,E,v,C⟩:=h.src p x u J;have D:=h.rng x (fd u);have s:zba a par (out,x)=some (.inl (out++[q],q)):=by
    unfold zba;simp only [l,decide_false,Bool.not_false,if_true,zgA D.1 v,gq];rw [zaf (by simp;omega) (by simp;omega)];rfl
   rw [zv s];have B:q∉out:=fun hm=>by
    obtain ⟨i,hi,L⟩:=f q hm;have:=h.inj i j q L E;omega
   have r:∀ (i:Nat) (y:Int),(out++[q])[i]?=some y->(i<out.length/\out[i]?=some y)\/(i=out.length/\y=q):=by
    intro i y hi;by_cases A:i<out.length
    ·rw [cg A] at hi;exact .inl ⟨A,hi⟩
    ·rw [ci (by omega)] at hi;have:=zy hi;simp at this;have I:i - out.length=0:=by omega
     rw [I] at hi;simp at hi;exact .inr ⟨by omega,hi.symm⟩
   refine ih j M q (out++[q]) E (by simp) (by rw [cg (by omega)];exact N) (by simp) (m.snoc B) ?_ (by simp;omega) ?_
   ·intro y g;rcases ep.1 g with g | g
    ·obtain ⟨i,hi,G⟩:=f y g;exact ⟨i,by omega,G⟩
    ·rw [fg.1 g];exact ⟨j,ga _,E⟩
   ·intro i y z g S;rcases r i y g with ⟨P,t⟩ | ⟨P,t⟩<;>rcases r (i+1) z S with ⟨U,H⟩ | ⟨U,H⟩
    ·exact c i y z t H
    ·have:i=out.length - 1:=by omega
     rw [this,d] at t;injection t with t
     rw [←t,H];exact C
    ·omega
    ·omega
theorem zyD (hn1:1<=n) (hn:n<=1000) (hR:Sq n R) (hF:Sq n F) (ha0:0<=a) (ha:a<n) (hb0:0<=b) (hb:b<n) :
  ∃ w,zg0 (R,F) a b=some w/\(Way n R F a b w\/(w=[]/\∃ S:Int->Bool,S a=true/\S b=false/\∀ u v:Nat,u<n->v<n->S u=true->S v=false->¬Fr R F u v)):=by
 have A:=zvP (n:=(n:Int)) (by omega) (by omega);have H:mkc 8 (n:Int)=some []:=by unfold mkc;rw [if_pos ⟨by omega,by omega,by omega⟩]
 have r:zsa ((n:Int).toNat) [] a=some [a]:=by unfold zsa;rw [if_pos (by simp;omega)];rfl
 have m:(List.replicate (n:Int).toNat (-1:Int)).length=n:=by simp
 have B:∀ (v:Nat) (p:Int),((List.replicate (n:Int).toNat (-1:Int)).set a.toNat a)[v]?=some p->v<n/\((v=a.toNat/\p=a)\/(v≠a.toNat/\p = -1)):=by
  intro v p f;have k:=zy f;rw [dz,m] at k;refine ⟨k,?_⟩;by_cases s:v=a.toNat
  ·subst s;rw [zX (by rw [m];exact k)] at f;injection f with f
   exact .inl ⟨rfl,f.symm⟩
  ·rw [zL (fun e=>s e.symm),cz] at f;split at f
   ·injection f with f;exact .inr ⟨s,f.symm⟩
   ·cases f
 have T:(List.replicate (n:Int).toNat (-1:Int)).countP isNeg=n:=by
  rw [List.countP_replicate];simp [isNeg]
 have V:WInv n R F a ((List.replicate (n:Int).toNat (-1)).set a.toNat a) [a] 0:=by
  refine ⟨by rw [dz,m],?_,rfl,by simp,?_,?_,?_,?_,fun j u c=>by omega⟩
  ·intro i j x hi c;have t:=zy hi;have g:=zy c;simp at t g;omega
  ·intro x I;rw [fg.1 I];exact ⟨ha0,ha⟩
  ·have Y:(List.replicate (n:Int).toNat (-1:Int))[a.toNat]?=some (-1):=by
    rw [cz,if_pos (by omega)]
   have:=zl7 isNeg Y (y:=a) (by simp [isNeg]) (by simp [isNeg];exact ha0);simp only [dm,dx];omega
  ·intro v p f;obtain ⟨k,⟨e1,G⟩ | ⟨e1,G⟩⟩:=B v p f
   ·subst G;rw [fg];omega
   ·subst G;rw [fg];omega
  ·intro i x hi a7;have:=zy hi;simp at this;omega
 obtain ⟨par,D,Q,z⟩:=zxE hn hR hF V;have M:∃ x,idx (List.replicate (n:Int).toNat (-1:Int)) a=some x:=⟨_,zxv ha0 (by rw [m];exact ha)⟩;obtain ⟨x0,L⟩:=M;unfold zg0;simp only [hR.len,A,H,r,L,D,gq];unfold zho;obtain ⟨p,hp,E⟩:=zR (l:=par) hb0 (by rw [z.len];exact hb);have h:=z.mem b.toNat p E;have J:((b.toNat:Nat):Int)=b:=by omega
 rw [J] at h;simp only [hp,gq];by_cases q:p<0
 ·rw [if_pos (by simp [q])];refine ⟨_,rfl,.inr ⟨rfl,fun x=>decide (x∈Q),?_,?_,?_⟩⟩
  ·simp;exact fd z.hd
  ·simp;intro hm;have:=h.1 hm;omega
  ·intro u v hu f hS N hf;simp at hS N;obtain ⟨j,c⟩:=cv hS;exact N (z.cls j u (zy c) c v f hf)
 ·rw [if_neg (by simp [q])];obtain ⟨j,c⟩:=cv (h.2 (by omega));have a0:=zy c;obtain ⟨w,hw,P,w2,U,O,w5,X,Z⟩:=zyE (b:=b) hn z j b [b] c (by simp) rfl rfl (by
   intro i j x hi c;have t:=zy hi;have g:=zy c;simp at t g;omega) (by intro y hy;rw [fg.1 hy];exact ⟨j,ga _,c⟩) (by simp;omega) (by
   intro i x y hi c;have g:=zy c;simp at g)
  rw [hw];simp only [gq];unfold zhn zh4;have C:ne w.reverse=some w.reverse:=by
   unfold ne;cases hr:w.reverse with
   | nil=>have:w.length=0:=(by rw [←List.length_reverse,hr];rfl);omega
   | cons x l=>rfl
  simp only [C,gq];have d:∀ (i:Nat),i<w.length->w.reverse[i]?=w[w.length - 1 - i]?:=fun i hi=>List.getElem?_reverse hi;refine ⟨_,rfl,.inl ⟨by simpa using P,by rw [d 0 (by omega)];exact U,?_,?_,fun x I=>w5 x (by simpa using I),by simpa using X,?_⟩⟩
  ·rw [List.length_reverse,d _ (by omega)];have:w.length - 1 - (w.length - 1)=0:=by omega
   rw [this];exact w2
  ·intro i j x hi c;have t:=zy hi;have g:=zy c;rw [List.length_reverse] at t g;rw [d _ t] at hi;rw [d _ g] at c;have:=O _ _ _ hi c;omega
  ·intro i x y hi c;have g:=zy c;rw [List.length_reverse] at g;rw [d _ (by omega)] at hi;rw [d _ g] at c;have:w.length - 1 - i=w.length - 1 - (i+1)+1:=by omega
   rw [this] at hi;exact Z _ _ _ c hi
end
structure FI (n:Nat) (R F:List (List Int)):Prop where
 sq:Sq n F
 anti:∀ u v,u<n->v<n->ent F u v = - ent F v u
 le:∀ u v,u<n->v<n->ent F u v<=ent R u v
section
variable {n:Nat} {R F:List (List Int)} {a b:Int} {w:List Int}
theorem zxU (hn:n<=1000) (hR:∀ u v,0<=ent R u v/\ent R u v<=1000000000) (hw:Way n R F a b w) (hF:FI n R F) :
  ∃ F',iter (zbR w) (1,F)=some F'/\FI n R F'/\∀ S,mid n S (ent F')=mid n S (ent F)+ind (S a) - ind (S b):=by
 have key:=zA (F:=zbR w)
  (fun s=>1<=s.1/\s.1<=w.length/\FI n R s.2/\(∀ u v:Nat,u<n->v<n->(v:Int)∉w.take s.1.toNat->ent s.2 u v=ent F u v)/\
   ∃ x,w[s.1.toNat - 1]?=some x/\∀ S,mid n S (ent s.2)=mid n S (ent F)+ind (S a) - ind (S x))
  (fun s=>(w.length - s.1).toNat) (fun F'=>FI n R F'/\∀ S,mid n S (ent F')=mid n S (ent F)+ind (S a) - ind (S b)) ?_ (1,F)
  ⟨by simp,by have:=hw.pos;simp only [];omega,hF,fun _ _ _ _ _=>rfl,a,hw.hd,fun S=>by simp only [];omega⟩
 ·exact key
 ·rintro ⟨i,G⟩ ⟨hi0,hi1,hG,hsame,x,hx,hmid⟩;simp only at hi0 hi1 hG hsame hx hmid;unfold zbR;have a9:=hw.most;by_cases k:i<w.length
  ·left;obtain ⟨y,M,z⟩:=zR (l:=w) (i:=i) (by omega) k;have U:w64 (i - 1)=i - 1:=zu (by omega) (by omega);have O:w64 (i+1)=i+1:=zu (by omega) (by omega);have I:idx w (i - 1)=some x:=zgA (by omega) (by rw [←hx];congr 1;omega);have f:=hw.rng x (fd hx);have g:=hw.rng y (fd z);have a6:x≠y:=fun e=>by
    subst e;have:=hw.inj _ _ _ hx z;omega
   have a1:x.toNat≠y.toNat:=by omega
   obtain ⟨r,g1,g2,g3,g4⟩:=hG.sq.idx (u:=x) (v:=y) f.1 f.2 g.1 g.2;have m:=hw.edge (i.toNat - 1) x y hx (by rw [←z];congr 1;omega);unfold Fr at m;have A:((y.toNat:Nat):Int)∉w.take i.toNat:=by
    intro hm;obtain ⟨j,H⟩:=cv hm;have Q:=zy H;rw [ed] at Q;rw [dh,if_pos (by omega)] at H;have p:((y.toNat:Nat):Int)=y:=by omega
    rw [p] at H;have:=hw.inj _ _ _ H z;omega
   have a0:=hsame x.toNat y.toNat (by omega) (by omega) A;have b1:=hG.anti x.toNat y.toNat (by omega) (by omega);have b2:=hG.le y.toNat x.toNat (by omega) (by omega);have b3:=hR y.toNat x.toNat;have b4:=hR x.toNat y.toNat;have L:w64 (ent G x.toNat y.toNat+1)=ent G x.toNat y.toNat+1:=zu (by omega) (by omega);obtain ⟨E,h⟩:=hG.sq.set (e:=ent G x.toNat y.toNat+1) g3 (v:=y.toNat) (by omega);obtain ⟨Y,k1,k2,k3,k4⟩:=E.idx (u:=y) (v:=x) g.1 g.2 f.1 f.2;have B:ent (G.set x.toNat (r.set y.toNat (ent G x.toNat y.toNat+1))) y.toNat x.toNat=ent G y.toNat x.toNat:=by rw [h,if_neg (by omega)]
   rw [B] at k4;have P:w64 (ent G y.toNat x.toNat - 1)=ent G y.toNat x.toNat - 1:=zu (by omega) (by omega);obtain ⟨X,t⟩:=E.set (e:=ent G y.toNat x.toNat - 1) k3 (v:=x.toNat) (by omega);simp only [k,decide_true,if_true,U,I,M,g1,g4,gq,L,k1,k4,P,O];have d:∀ u v,ent ((G.set x.toNat (r.set y.toNat (ent G x.toNat y.toNat+1))).set y.toNat (Y.set x.toNat (ent G y.toNat x.toNat - 1))) u v =
     if u=y.toNat/\v=x.toNat then ent G y.toNat x.toNat - 1 else if u=x.toNat/\v=y.toNat then ent G x.toNat y.toNat+1 else ent G u v:=fun u v=>by rw [t,h]
   refine ⟨_,rfl,⟨by simp only [];omega,by simp only [];omega,⟨X,?_,?_⟩,?_,y,?_,?_⟩,by simp only [];omega⟩
   ·intro u v C D;simp only;rw [d,d];have h1:=hG.anti u v C D;by_cases Z:u=y.toNat/\v=x.toNat
    ·obtain ⟨rfl,rfl⟩:=Z;rw [if_pos ⟨rfl,rfl⟩,if_neg (by omega),if_pos ⟨rfl,rfl⟩];omega
    ·rw [if_neg Z];by_cases c2:u=x.toNat/\v=y.toNat
     ·obtain ⟨rfl,rfl⟩:=c2;rw [if_pos ⟨rfl,rfl⟩,if_pos ⟨rfl,rfl⟩];omega
     ·rw [if_neg c2,if_neg (by omega),if_neg (by omega)];exact h1
   ·intro u v C D;simp only;rw [d];split
    ·rename_i c;obtain ⟨rfl,rfl⟩:=c;omega
    ·split
     ·rename_i c;obtain ⟨rfl,rfl⟩:=c;omega
     ·exact hG.le u v C D
   ·intro u v C D hm;simp only at hm ⊢;have N:(i+1).toNat=i.toNat+1:=by omega
    rw [N,fq,z] at hm;simp only [Option.toList_some,ep,fg,not_or] at hm;have a3:v≠x.toNat:=fun e=>by
     subst e;apply hm.1;have q:((x.toNat:Nat):Int)=x:=by omega
     rw [q];have:(w.take i.toNat)[i.toNat - 1]?=some x:=by rw [dh,if_pos (by omega)];exact hx
     exact fd this
    rw [d,if_neg (by omega),if_neg (by omega)];exact hsame u v C D hm.1
   ·simp only;rw [←z];congr 1;omega
   ·intro S;simp only;have q:((x.toNat:Nat):Int)=x:=by omega
    have p:((y.toNat:Nat):Int)=y:=by omega
    have e1:mid n S (ent (G.set x.toNat (r.set y.toNat (ent G x.toNat y.toNat+1))))=mid n S (ent G)+ind (S ((x.toNat:Nat):Int))*1:=by
     unfold mid;exact zq8 (c:=fun u _=>ind (S u)) (a:=x.toNat) (b:=y.toNat) (by omega) (by omega) (fun u v _ _ J=>by rw [h,if_neg (by omega)]) (by rw [h,if_pos ⟨rfl,rfl⟩])
    have e2:mid n S (ent ((G.set x.toNat (r.set y.toNat (ent G x.toNat y.toNat+1))).set y.toNat (Y.set x.toNat (ent G y.toNat x.toNat - 1))))=mid n S (ent (G.set x.toNat (r.set y.toNat (ent G x.toNat y.toNat+1))))+ind (S ((y.toNat:Nat):Int))*(-1):=by
     unfold mid;exact zq8 (c:=fun u _=>ind (S u)) (a:=y.toNat) (b:=x.toNat) (by omega) (by omega) (fun u v _ _ J=>by rw [t,if_neg (by omega)]) (by rw [t,if_pos ⟨rfl,rfl⟩,B];omega)
    rw [e2,e1,hmid S,q,p];omega
  ·right;rw [if_neg (by simp [k])];have V:i=w.length:=by omega
   have T:x=b:=by
    have:=hw.lst;rw [V] at hx;have e:((w.length:Nat):Int).toNat=w.length:=by omega
    rw [e,this] at hx;injection hx with hx
    exact hx.symm
   exact ⟨_,rfl,hG,fun S=>by rw [hmid S,T]⟩
theorem zxQ (hn1:1<=n) (hn:n<=1000) (hsq:Sq n R) (hR:∀ u v,0<=ent R u v/\ent R u v<=1000000000) (hC:∀ S,zm1 n S (ent R)<=1000000000) (hF:FI n R F) (hF0:∀ u v,ent F u v=0)
  (ha0:0<=a) (ha:a<n) (hb0:0<=b) (hb:b<n) (hab:a≠b) (most:Int) :
  ∃ v F',zf2 (R,F) a b most=some (v,(R,F'))/\0<=v/\FI n R F'/\(∀ S:Int->Bool,S a=true->S b=false->mid n S (ent F')=v)/\(∀ S:Int->Bool,S a=true->S b=false->v<=zm1 n S (ent R))/\
   (v<most->∃ S:Int->Bool,S a=true/\S b=false/\zm1 n S (ent R)=v):=by
 have hA:∀ (G:List (List Int)) (v:Int),FI n R G->(∀ S:Int->Bool,S a=true->S b=false->mid n S (ent G)=v)->∀ S:Int->Bool,S a=true->S b=false->v<=zm1 n S (ent R):=by
  intro G v c hm S j d;rw [←hm S j d,zul c.anti];exact zAw c.le
 have A:(fun x:Int=>decide (x=a)) a=true:=by simp
 have B:(fun x:Int=>decide (x=a)) b=false:=by simp;exact fun e=>hab e.symm
 have key:=zA (F:=zdZ (R,F) a b most)
  (fun s=>0<=s.1/\FI n R s.2/\∀ S:Int->Bool,S a=true->S b=false->mid n S (ent s.2)=s.1) (fun s=>(zm1 n (fun x:Int=>decide (x=a)) (ent R) - s.1).toNat)
  (fun z=>z.2.1=R/\0<=z.1/\FI n R z.2.2/\(∀ S:Int->Bool,S a=true->S b=false->mid n S (ent z.2.2)=z.1)/\(z.1<most->∃ S:Int->Bool,S a=true/\S b=false/\zm1 n S (ent R)=z.1)) ?_ (0,F)
  ⟨by simp,hF,fun S _ _=>?_⟩
 ·obtain ⟨⟨v,P,F'⟩,q,j,d,D,y,H⟩:=key;simp only at j d D y H;subst j;refine ⟨v,F',?_,d,D,y,hA F' v D y,H⟩;unfold zf2;simp only [q,gq]
 ·rintro ⟨v,G⟩ ⟨hv0,c,hm⟩;simp only at hv0 c hm;unfold zdZ;obtain ⟨w,L,E⟩:=zyD hn1 hn hsq c.sq ha0 ha hb0 hb;simp only [L,gq];rcases E with hW | ⟨hnil,S,s1,s2,s3⟩
  ·have r:w≠[]:=fun e=>by have:=hW.pos;rw [e] at this;simp at this
   rw [if_neg (by simp [r])];unfold zbS;by_cases m:v≥most
   ·right;rw [if_pos (by simp [m])];exact ⟨_,rfl,rfl,hv0,c,hm,fun h=>by simp only at h;omega⟩
   ·left;rw [if_neg (by simp [m])];obtain ⟨G',t,p,hm'⟩:=zxU hn hR hW c;simp only [t,gq];unfold zgs;have l:∀ S:Int->Bool,S a=true->S b=false->mid n S (ent G')=v+1:=by
     intro S j d;rw [hm' S,hm S j d,j,d];simp [ind]
    have N:=hA G' (v+1) p l (fun x:Int=>decide (x=a)) A B;have O:=hC (fun x:Int=>decide (x=a));have C:w64 (v+1)=v+1:=zu (by omega) (by omega);simp only [C];exact ⟨_,rfl,⟨by simp only [];omega,p,l⟩,by simp only [];omega⟩
  ·right;rw [if_pos (by simp [hnil])];unfold zbS;rw [if_pos rfl];refine ⟨_,rfl,rfl,hv0,c,hm,fun _=>⟨S,s1,s2,?_⟩⟩;simp only;rw [←hm S s1 s2,zul c.anti];symm;refine zAx fun u v I J j d=>?_;have:=s3 u v I J j d;unfold Fr at this;simp only [ba] at this;have:=c.le u v I J;omega
 ·simp only;unfold mid;have q:∀ (k:Nat) (f:Nat->Int),(∀ i,f i=0)->zcV k f=0:=fun k f M=>by
   rw [zcU (g:=fun _=>0) fun i _=>M i,zpb]
  exact q _ _ fun u=>q _ _ fun v=>by rw [hF0];simp
end
theorem zwT {n:Int} {bs:List Bd} (hn1:1<=n) (hn:n<=1000) (p:bs.length<=100000) (hw:WBs n bs) (t:Int) :
  ∃ b,zn0 n bs t=some b/\(b=true↔Holds n bs t):=by
 have j:∀ S,zf6 S bs<=1000*bs.length:=fun S=>zw5 fun b p=>by
  obtain ⟨k,G⟩:=cv p;obtain ⟨_,_,_,_,_,m,U⟩:=hw k b G;omega
 have key:=zA (F:=zj8 n bs t)
  (fun y=>1<=y/\y<=n/\∀ z,1<=z->z<y->∀ S:Int->Bool,S 0=true->S z=false->t<=zf6 S bs) (fun y=>(n - y).toNat)
  (fun z=>match z with | .inl _=>Holds n bs t | .inr b=>b=false/\¬Holds n bs t) ?_ 1 ⟨by simp,hn1,fun z B A=>by omega⟩
 ·obtain ⟨z,I,r⟩:=key;unfold zn0;rw [I];cases z with
  | inl z=>exact ⟨true,rfl,fun _=>r,fun _=>rfl⟩
  | inr z=>
   have w:z=false:=r.1;exact ⟨z,rfl,⟨fun h=>by (rw [w] at h;cases h),fun h=>absurd h r.2⟩⟩
 ·rintro y ⟨x,E,d⟩;unfold zj8;by_cases f:y<n
  ·rw [if_pos (by simp [f])];obtain ⟨R,F,B,A,N,l,C,m⟩:=ztb (n:=n) (by omega) hn p hw;have Q:((n.toNat:Nat):Int)=n:=by omega
   obtain ⟨v,F',J,T,X,V,O,D⟩:=zxQ (n:=n.toNat) (R:=R) (F:=F) (a:=0) (b:=y) (by omega) (by omega) A (fun u v=>by have:=C u v;omega) (fun S=>by rw [m];have:=j S;omega)
    ⟨N,fun u v _ _=>by rw [l,l];rfl,fun u v _ _=>by rw [l];exact (C u v).1⟩ l (by omega) (by omega) (by omega) (by omega) (by omega) t
   simp only [B,J,gq];by_cases e:v<t
   ·right;rw [if_pos (by simp [e])];refine ⟨_,rfl,rfl,fun L=>?_⟩;obtain ⟨S,M,H,P⟩:=D e;have:=L S M ⟨y,x,f,H⟩;rw [m] at P;omega
   ·left;rw [if_neg (by simp [e]),zu (by omega) (by omega)];refine ⟨_,rfl,⟨by omega,by omega,fun z g q S c i=>?_⟩,by omega⟩;by_cases s:z=y
    ·subst s;have:=O S c i;rw [m] at this;omega
    ·exact d z g (by omega) S c i
  ·right;rw [if_neg (by simp [f])];refine ⟨_,rfl,fun S c ⟨z,g,q,hz3⟩=>d z g (by omega) S c hz3⟩
theorem zij {A B:Type} {F:A×Int->Option ((A×Int) ⊕ A)} (l:List B) (f:A->B->A) (a0:A) (hlen:l.length<=2000000)
  (step:∀ (a:A) (i:Nat) (x:B),l[i]?=some x->a=(l.take i).foldl f a0->F (a,(i:Int))=some (.inl (f a x,w64 ((i:Int)+1))))
  (stop:∀ a,a=l.foldl f a0->F (a,(l.length:Int))=some (.inr a)):iter F (a0,0)=some (l.foldl f a0):=by
 have key:=zA (F:=F) (fun s=>0<=s.2/\s.2<=l.length/\s.1=(l.take s.2.toNat).foldl f a0) (fun s=>(l.length - s.2).toNat) (fun z=>z=l.foldl f a0) ?_ (a0,0) ⟨by simp,by simp,by simp⟩
 ·obtain ⟨z,g,rfl⟩:=key;exact g
 ·rintro ⟨a,i⟩ ⟨h0,h1,ha⟩;simp only at h0 h1 ha;obtain ⟨k,rfl⟩:=az h0;simp only [ba] at ha;by_cases c:k<l.length
  ·left;have d:l[k]?=some l[k]:=cm c;have b:w64 ((k:Int)+1)=(k:Int)+1:=zu (by omega) (by omega);refine ⟨_,step a k _ d ha,?_,?_⟩
   ·refine ⟨by simp only [b];omega,by simp only [b];omega,?_⟩;simp only [b];have:((k:Int)+1).toNat=k+1:=by omega
    rw [this,fq,d,List.foldl_append,←ha];rfl
   ·simp only [b];omega
  ·right;have e:k=l.length:=by omega
   subst e;rw [ft] at ha;exact ⟨a,stop a ha,ha⟩
theorem zpU {A B:Type} {F:Int×A->Option ((Int×A) ⊕ A)} (l:List B) (f:A->B->A) (a0:A) (hlen:l.length<=2000000)
  (step:∀ (a:A) (i:Nat) (x:B),l[i]?=some x->a=(l.take i).foldl f a0->F ((i:Int),a)=some (.inl (w64 ((i:Int)+1),f a x)))
  (stop:∀ a,a=l.foldl f a0->F ((l.length:Int),a)=some (.inr a)):iter F (0,a0)=some (l.foldl f a0):=by
 have key:=zA (F:=F) (fun s=>0<=s.1/\s.1<=l.length/\s.2=(l.take s.1.toNat).foldl f a0) (fun s=>(l.length - s.1).toNat) (fun z=>z=l.foldl f a0) ?_ (0,a0) ⟨by simp,by simp,by simp⟩
 ·obtain ⟨z,g,rfl⟩:=key;exact g
 ·rintro ⟨i,a⟩ ⟨h0,h1,ha⟩;simp only at h0 h1 ha;obtain ⟨k,rfl⟩:=az h0;simp only [ba] at ha;by_cases c:k<l.length
  ·left;have d:l[k]?=some l[k]:=cm c;have b:w64 ((k:Int)+1)=(k:Int)+1:=zu (by omega) (by omega);refine ⟨_,step a k _ d ha,?_,?_⟩
   ·refine ⟨by simp only [b];omega,by simp only [b];omega,?_⟩;simp only [b];have:((k:Int)+1).toNat=k+1:=by omega
    rw [this,fq,d,List.foldl_append,←ha];rfl
   ·simp only [b];omega
  ·right;have e:k=l.length:=by omega
   subst e;rw [ft] at ha;exact ⟨a,stop a ha,ha⟩
theorem zq {α:Type} {l:List α} {i:Nat} {x:α} (h:l[i]?=some x):idx l (i:Int)=some x:=by
 unfold idx;rw [if_pos (by omega)];simpa using h
theorem zaV {α β:Type} (p:α->Bool) (g:α->β):∀ (l:List α) (a:List β),l.foldl (fun a x=>if p x then a++[g x] else a) a=a++(l.filter p).map g
 | [],a=>by simp
 | x::l,a=>by
  rw [ce,zaV p g l];by_cases hp:p x=true
  ·rw [if_pos hp,br hp];simp
  ·rw [if_neg hp,bq hp]
structure Lead (n:Nat) (L nm:List Int):Prop where
 len:L.length=n
 nlen:nm.length=n
 low:∀ (i:Nat) (p:Int),L[i]?=some p -> -1<=p/\p<i
 root:∀ (i:Nat) (r:Int),nm[i]?=some r->0<=r/\r<=i/\iter (gstep L) (i:Int)=some r/\∃ q,L[r.toNat]?=some q/\q<0
theorem zl5 {L:List Int} {i:Int} {p:Int} (h0:0<=i) (h:L[i.toNat]?=some p) (hp:p<0):iter (gstep L) i=some i:=by
 apply zC;unfold gstep;rw [zgA h0 h];simp only [gq];rw [if_pos hp]
theorem ztt {L:List Int} {i:Int} {p:Int} (h0:0<=i) (h:L[i.toNat]?=some p) (hp:0<=p):iter (gstep L) i=iter (gstep L) p:=by
 apply zv;unfold gstep;rw [zgA h0 h];simp only [gq];rw [if_neg (by omega)]
theorem zy3 {L:List Int} (hL:∀ (i:Nat) (p:Int),L[i]?=some p -> -1<=p/\p<i) {m k:Int} (hm0:0<=m) (hk0:0<=k) (hkm:k<m) {q q':Int} (hm:L[m.toNat]?=some q) (hq:q<0) (hk:L[k.toNat]?=some q') (hq':q'<0) :
  ∀ (i:Nat) (r:Int),i<L.length->iter (gstep L) (i:Int)=some r->iter (gstep (L.set m.toNat k)) (i:Int)=some (if r=m then k else r):=by
 intro i
 induction i using Nat.strongRecOn with
 | _ i ih=>
  intro r hi c;have g:=zy hm;obtain ⟨p,hp⟩:∃ p,L[i]?=some p:=⟨_,cm hi⟩;have h:=hL i p hp;have d:L[(i:Int).toNat]?=some p:=by simpa using hp
  by_cases b:p<0
  ·rw [zl5 (by omega) d b] at c;injection c with c
   subst c;by_cases a:(i:Int)=m
   ·subst a;simp only [ba] at *;rw [if_pos trivial];rw [ztt (p:=k) (by omega) (by simp only [ba];rw [zX g]) hk0];exact zl5 hk0 (by rw [zL (by omega)];exact hk) hq'
   ·rw [if_neg a];exact zl5 (by omega) (by simp only [ba];rw [zL (by omega)];exact hp) b
  ·have a:m.toNat≠i:=fun e=>by
    rw [e,hp] at hm;injection hm with hm;omega
   rw [ztt (by omega) d (by omega)] at c;rw [ztt (p:=p) (by omega) (by simp only [ba];rw [zL a];exact hp) (by omega)];have f:((p.toNat:Nat):Int)=p:=by omega
   rw [←f] at c ⊢;exact ih p.toNat (by omega) r (by omega) c
def ren (x y:Int) (z:Int):Int:=if z=max x y then min x y else z
theorem zya {n:Nat} {L nm:List Int} (h:Lead n L nm) {i j:Nat} {x y:Int} (hi:nm[i]?=some x) (hj:nm[j]?=some y) :
  Lead n (if x<y then L.set y.toNat x else if y<x then L.set x.toNat y else L) (nm.map (ren x y)):=by
 obtain ⟨C,x1,X,H,E,D⟩:=h.root i x hi;obtain ⟨y0,U,Y,J,G,I⟩:=h.root j y hj;have A:=zy hi;have t:=zy hj;have c:∀ (m k:Int) (q g:Int),0<=m->0<=k->k<m->m<=(n:Int)->L[m.toNat]?=some q->q<0->L[k.toNat]?=some g->g<0->Lead n (L.set m.toNat k) (nm.map fun z=>if z=m then k else z):=by
  intro m k q g w u s Q hm P F f;refine ⟨by rw [dz];exact h.len,by rw [dv];exact h.nlen,fun a p hp=>?_,fun a r b=>?_⟩
  ·by_cases M:m.toNat=a
   ·subst M;rw [zX (zy hm)] at hp;injection hp with hp
    omega
   ·rw [zL M] at hp;exact h.low a p hp
  ·rw [cq] at b;cases hz:nm[a]? with
   | none=>rw [hz] at b;cases b
   | some z=>
    rw [hz] at b;simp only [Option.map_some] at b;injection b with b
    obtain ⟨V,T,R,S,N,O⟩:=h.root a z hz;have B:a<L.length:=by have:=zy hz;rw [h.nlen] at this;rw [h.len];exact this
    have:=zy3 h.low w u s hm P F f a z B R;rw [b] at this;subst b;refine ⟨?_,?_,this,?_⟩
    ·split<;>omega
    ·split<;>omega
    ·by_cases d:z=m
     ·rw [if_pos d];exact ⟨g,by rw [zL (by omega)];exact F,f⟩
     ·rw [if_neg d];exact ⟨S,by rw [zL (by omega)];exact N,O⟩
 rw [h.nlen] at A t;by_cases v:x<y
 ·rw [if_pos v];have e:nm.map (ren x y)=nm.map fun z=>if z=y then x else z:=by
   apply eh;intro z _;unfold ren;rw [show max x y=y by omega,show min x y=x by omega]
  rw [e];exact c y x J H y0 C v (by omega) G I E D
 ·rw [if_neg v];by_cases l:y<x
  ·rw [if_pos l];have e:nm.map (ren x y)=nm.map fun z=>if z=x then y else z:=by
    apply eh;intro z _;unfold ren;rw [show max x y=x by omega,show min x y=y by omega]
   rw [e];exact c x y H J C y0 l (by omega) E D G I
  ·rw [if_neg l];have:x=y:=by omega
   subst this;have e:nm.map (ren x x)=nm:=by
    have:ren x x=id:=by
     funext z;unfold ren;rw [Int.max_self,Int.min_self];split
     ·rename_i hz;exact hz.symm
     ·rfl
    rw [this,List.map_id]
   rw [e];exact h
def zkn (bs:List Bd) (nm:List Int):List Int:=bs.foldl (fun nm b=>nm.map (ren (nm.getD b.1.toNat 0) (nm.getD b.2.1.toNat 0))) nm
theorem zka {l:List Int} {i:Nat} {x:Int} (h:l[i]?=some x):l.getD i 0=x:=by
 rw [List.getD_eq_getElem?_getD,h];rfl
section
variable {n:Nat} {bs:List Bd}
theorem zo3 (hb:bs.length<=100000) (hw:WBs n bs) {L nm:List Int} (h:Lead n L nm) :
  ∃ L',iter (zeP bs) (0,L)=some L'/\Lead n L' (zkn bs nm):=by
 have key:=zA (F:=zeP bs) (fun s=>0<=s.1/\s.1<=bs.length/\Lead n s.2 (zkn (bs.take s.1.toNat) nm)) (fun s=>(bs.length - s.1).toNat)
  (fun L'=>Lead n L' (zkn bs nm)) ?_ (0,L) ⟨by simp,by simp,by simpa [zkn] using h⟩
 ·exact key
 ·rintro ⟨i,L⟩ ⟨h0,h1,hL⟩;simp only at h0 h1 hL;unfold zeP;by_cases c:i<bs.length
  ·left;obtain ⟨⟨x,y,s⟩,m,j⟩:=zR (l:=bs) h0 c;obtain ⟨A,D,B,w,H,E,G⟩:=hw _ _ j;simp only at A D B w H E G;obtain ⟨g,b⟩:∃ z,z=zkn (bs.take i.toNat) nm:=⟨_,rfl⟩;rw [←b] at hL;obtain ⟨u,f⟩:∃ r,g[x.toNat]?=some r:=⟨_,cm (by rw [hL.nlen];omega)⟩;obtain ⟨v,d⟩:∃ r,g[y.toNat]?=some r:=⟨_,cm (by rw [hL.nlen];omega)⟩;obtain ⟨I,p,_⟩:=zR (l:=L) A (by rw [hL.len];exact D);obtain ⟨J,t,_⟩:=zR (l:=L) B (by rw [hL.len];exact w);obtain ⟨_,_,ix,_⟩:=hL.root _ _ f;obtain ⟨_,_,C,_⟩:=hL.root _ _ d;rw [show ((x.toNat:Nat):Int)=x by omega] at ix;rw [show ((y.toNat:Nat):Int)=y by omega] at C;have q:w64 (i+1)=i+1:=zu (by omega) (by omega);have e:=zya hL f d;have a:zkn (bs.take (i+1).toNat) nm=g.map (ren u v):=by
    have:(i+1).toNat=i.toNat+1:=by omega
    rw [this,fq,j];unfold zkn at b ⊢;rw [List.foldl_append,←b];simp only [Option.toList_some,ce,List.foldl_nil];rw [zka f,zka d]
   simp only [c,decide_true,if_true,m,p,ix,t,C,gq];unfold zeR;simp only [q];by_cases k:u<v
   ·rw [if_pos (by simp [k])];rw [if_pos k] at e;exact ⟨_,rfl,⟨by simp only [];omega,by simp only [];omega,by simp only [];rw [a];exact e⟩,by simp only [];omega⟩
   ·rw [if_neg (by simp [k])];rw [if_neg k] at e;by_cases c2:v<u
    ·rw [if_pos (by simp [c2])];rw [if_pos c2] at e;exact ⟨_,rfl,⟨by simp only [];omega,by simp only [];omega,by simp only [];rw [a];exact e⟩,by simp only [];omega⟩
    ·rw [if_neg (by simp [c2])];rw [if_neg c2] at e;exact ⟨_,rfl,⟨by simp only [];omega,by simp only [];omega,by simp only [];rw [a];exact e⟩,by simp only [];omega⟩
  ·right;rw [if_neg (by simp [c])];refine ⟨_,rfl,?_⟩;rw [show i.toNat=bs.length by omega,ft] at hL;exact hL
theorem zx2 (bs:List Bd):∀ (nm:List Int),(zkn bs nm).length=nm.length:=by
 induction bs with
 | nil=>intro nm;rfl
 | cons b bs ih=>intro nm;unfold zkn at ih ⊢;rw [ce,ih,dv]
theorem zvA {x y:Int} (nm:List Int) (hn:nm.length<=100000):iter (zdA x y) (nm,0)=some (nm.map (ren x y)):=by
 have key:=zA (F:=zdA x y) (fun s=>0<=s.2/\s.2<=nm.length/\s.1=(nm.take s.2.toNat).map (ren x y)++nm.drop s.2.toNat) (fun s=>(nm.length - s.2).toNat)
  (fun z=>z=nm.map (ren x y)) ?_ (nm,0) ⟨by simp,by simp,by simp⟩
 ·obtain ⟨z,h,rfl⟩:=key;exact h
 ·rintro ⟨l,i⟩ ⟨h0,h1,hl⟩;simp only at h0 h1 hl;obtain ⟨k,rfl⟩:=az h0;simp only [ba] at hl;have c:((nm.take k).map (ren x y)).length=k:=by rw [dv,ed];omega
  have q:l.length=nm.length:=by rw [hl,dl,c,dt];omega
  unfold zdA;by_cases m:(k:Int)<l.length
  ·left;obtain ⟨z,h⟩:∃ z,nm[k]?=some z:=⟨_,cm (by omega)⟩;have d:l[k]?=some z:=by rw [hl,ci (by omega),c,Nat.sub_self,cj];simpa using h
   have g:zdI x y=some (max x y):=by unfold zdI;split<;>simp_all<;>omega
   have e:zgg x y=some (min x y):=by unfold zgg;split<;>simp_all<;>omega
   have p:w64 ((k:Int)+1)=(k:Int)+1:=zu (by omega) (by omega);simp only [m,decide_true,if_true,zq d,g,e,gq];unfold zfW;simp only [p];have b:l.set k (ren x y z)=(nm.take (k+1)).map (ren x y)++nm.drop (k+1):=by
    rw [hl,List.set_append_right _ _ (by omega),c,Nat.sub_self,bh (by omega),List.set_cons_zero,fq,h];simp
   have f:((k:Int)+1).toNat=k+1:=by omega
   by_cases a:z=max x y
   ·rw [if_pos (by simp [a])];refine ⟨_,rfl,⟨by simp only [];omega,by simp only [];omega,?_⟩,by simp only [];omega⟩;simp only [f,ba];rw [←b];unfold ren;rw [if_pos a]
   ·rw [if_neg (by simp [a])];refine ⟨_,rfl,⟨by simp only [];omega,by simp only [];omega,?_⟩,by simp only [];omega⟩;simp only [f];rw [←b];unfold ren;rw [if_neg a];apply bl;intro j;by_cases n:k=j
    ·subst n;rw [zX (zy d),d]
    ·rw [zL n]
  ·right;rw [if_neg (by simp;omega)];refine ⟨_,rfl,?_⟩;rw [hl,show k=nm.length by omega];simp
theorem zwB (hb:bs.length<=100000) (hw:WBs n bs) (nm:List Int) (hn:nm.length=n) (hn1:n<=100000):iter (zdD bs) (nm,0)=some (zkn bs nm):=by
 refine zij bs _ nm (by omega) ?_ ?_
 ·intro a i b c k;obtain ⟨j,s,m,q,u,t,w⟩:=hw _ _ c;have p:a.length=n:=by rw [k];exact (zx2 _ _).trans hn
  unfold zdD;obtain ⟨v,h,e⟩:=zR (l:=a) j (by omega);obtain ⟨r,f,d⟩:=zR (l:=a) m (by omega);have g:=zy c;rw [if_pos (by simp [g])];simp only [zq c,h,f,gq,zvA a (by omega)];unfold ziB;rw [zka e,zka d]
 ·intro a _;unfold zdD;rw [if_neg (by simp)]
end
def grp (nm:List Int) (i:Nat) (r:Int):List Int:=((List.range i).filter fun (k:Nat)=>decide (nm[k]?=some r)).map fun (k:Nat)=>(k:Int)
def zaR (nm:List Int) (i:Nat):List Int:=((List.range i).filter fun (k:Nat)=>decide (nm[k]?=some (k:Int))).map fun (k:Nat)=>(k:Int)
theorem zl6 (nm:List Int) (i:Nat) (r:Int):grp nm (i+1) r=grp nm i r++if nm[i]?=some r then [(i:Int)] else []:=by
 unfold grp;rw [fo,bp,ef];congr 1;by_cases h:nm[i]?=some r
 ·rw [if_pos h,br (by simp [h])];rfl
 ·rw [if_neg h,bq (by simp [h])];rfl
theorem zgo (nm:List Int) (i:Nat):zaR nm (i+1)=zaR nm i++if nm[i]?=some (i:Int) then [(i:Int)] else []:=by
 unfold zaR;rw [fo,bp,ef];congr 1;by_cases h:nm[i]?=some (i:Int)
 ·rw [if_pos h,br (by simp [h])];rfl
 ·rw [if_neg h,bq (by simp [h])];rfl
theorem zsK (nm:List Int) (r:Int):∀ i,(grp nm i r).length<=i
 | 0=>by simp [grp]
 | i+1=>by
  have:=zsK nm r i;rw [zl6,dl];split<;>simp<;>omega
theorem zpd (nm:List Int):∀ i,(zaR nm i).length<=i
 | 0=>by simp [zaR]
 | i+1=>by
  have:=zpd nm i;rw [zgo,dl];split<;>simp<;>omega
theorem zsJ {nm:List Int} {i:Nat} {r x:Int}:x∈grp nm i r↔0<=x/\x<i/\nm[x.toNat]?=some r:=by
 unfold grp;simp only [fa,ey,fe,decide_eq_true_eq];constructor
 ·rintro ⟨k,⟨b,a⟩,rfl⟩;exact ⟨by omega,by omega,by simpa using a⟩
 ·rintro ⟨b,a,c⟩;exact ⟨x.toNat,⟨by omega,c⟩,by omega⟩
theorem znv {nm:List Int} {i:Nat} {x:Int}:x∈zaR nm i↔0<=x/\x<i/\nm[x.toNat]?=some x:=by
 unfold zaR;simp only [fa,ey,fe,decide_eq_true_eq];constructor
 ·rintro ⟨k,⟨b,a⟩,rfl⟩;exact ⟨by omega,by omega,by simpa using a⟩
 ·rintro ⟨b,a,c⟩;exact ⟨x.toNat,⟨by omega,by rw [c];congr 1;omega⟩,by omega⟩
theorem zrx (nm:List Int):∀ i,Inj (zaR nm i)
 | 0=>by intro i j x h;simp [zaR] at h
 | i+1=>by
  rw [zgo];split
  ·refine (zrx nm i).snoc fun h=>?_;have:=(znv.1 h).2.1;omega
  ·rw [bf];exact zrx nm i
def zjo (nm:List Int) (n:Nat):List (List Int):=(zaR nm n).map (grp nm n)
section
variable {n:Nat} {nm:List Int}
theorem zrt (hn:n<=100000) (hlen:nm.length=n) (hlow:∀ (i:Nat) (r:Int),nm[i]?=some r->0<=r/\r<=i) {out:List (List Int)} {i:Nat} (hi:i<n) :
  iter (zdB n nm (out,i)) ([],(i:Int))=some (grp nm n i):=by
 have c:grp nm i (i:Int)=[]:=by
  rw [bi];intro x m;obtain ⟨g,p,j⟩:=zsJ.1 m;have:=hlow _ _ j;omega
 have key:=zA (F:=zdB n nm (out,i)) (fun s=>(i:Int)<=s.2/\s.2<=n/\s.1=grp nm s.2.toNat i) (fun s=>((n:Int) - s.2).toNat)
  (fun z=>z=grp nm n i) ?_ ([],(i:Int)) ⟨by simp,by simp only [];omega,by simp [c]⟩
 ·obtain ⟨z,e,rfl⟩:=key;exact e
 ·rintro ⟨a,k⟩ ⟨h0,g,ha⟩;simp only at h0 g ha;obtain ⟨k,rfl⟩:=az (show 0<=k by omega);simp only [ba] at ha;unfold zdB;by_cases f:(k:Int)<n
  ·left;obtain ⟨z,e⟩:∃ z,nm[k]?=some z:=⟨_,cm (by omega)⟩;have h:w64 ((k:Int)+1)=(k:Int)+1:=zu (by omega) (by omega);have d:((k:Int)+1).toNat=k+1:=by omega
   have l:=zsK nm i k;simp only [f,decide_true,if_true,zq e,gq];unfold zfX;simp only [h];by_cases b:z=i
   ·rw [if_pos (by simp [b]),zaf (by rw [ha];simp;omega) (by rw [ha];simp;omega)];refine ⟨_,rfl,⟨by simp only [];omega,by simp only [];omega,?_⟩,by simp only [];omega⟩;simp only [d];rw [zl6,e,if_pos (by rw [b]),ha]
   ·rw [if_neg (by simp [b])];refine ⟨_,rfl,⟨by simp only [];omega,by simp only [];omega,?_⟩,by simp only [];omega⟩;simp only [d];rw [zl6,e,if_neg (by simpa using b),ha,bf]
  ·right;rw [if_neg (by simp;omega)];exact ⟨_,rfl,by rw [ha,show k=n by omega]⟩
theorem zsk (hn:n<=100000) (hlen:nm.length=n) (hlow:∀ (i:Nat) (r:Int),nm[i]?=some r->0<=r/\r<=i) :
  iter (zdC n nm) ([],0)=some (zjo nm n):=by
 have key:=zA (F:=zdC n nm) (fun s=>0<=s.2/\s.2<=n/\s.1=(zaR nm s.2.toNat).map (grp nm n)) (fun s=>((n:Int) - s.2).toNat)
  (fun z=>z=zjo nm n) ?_ ([],0) ⟨by simp,by simp,by simp [zaR]⟩
 ·obtain ⟨z,d,rfl⟩:=key;exact d
 ·rintro ⟨a,k⟩ ⟨h0,h1,ha⟩;simp only at h0 h1 ha;obtain ⟨k,rfl⟩:=az h0;simp only [ba] at ha;unfold zdC;by_cases e:(k:Int)<n
  ·left;obtain ⟨z,d⟩:∃ z,nm[k]?=some z:=⟨_,cm (by omega)⟩;have g:w64 ((k:Int)+1)=(k:Int)+1:=zu (by omega) (by omega);have c:((k:Int)+1).toNat=k+1:=by omega
   simp only [e,decide_true,if_true,zq d,gq];have f:=zpd nm k;have h:a.length<=k:=by rw [ha,dv];exact f
   by_cases b:z=k
   ·rw [if_neg (by simp [b]),zrt hn hlen hlow (by omega)];simp only [gq];unfold ziC zdF;rw [zaf (by simp;omega) (by simp;omega)];simp only [gq,g];refine ⟨_,rfl,⟨by simp only [];omega,by simp only [];omega,?_⟩,by simp only [];omega⟩;simp only [c];rw [zgo,d,if_pos (by rw [b]),ha,ef];rfl
   ·rw [if_pos (by simp [b])];unfold zdF;simp only [g];refine ⟨_,rfl,⟨by simp only [];omega,by simp only [];omega,?_⟩,by simp only [];omega⟩;simp only [c];rw [zgo,d,if_neg (by simpa using b),ha,bf]
  ·right;rw [if_neg (by simp;omega)];exact ⟨_,rfl,by rw [ha,show k=n by omega];rfl⟩
end
section
variable {n:Nat} {nm:List Int}
def zBR (nm:List Int) (i:Nat) (pl:List (Int×Int)):Prop:=
 ∀ r:Int,(r∈zaR nm i->zhi pl r=true/\∃ j:Nat,zdj pl r=some (j:Int)/\(zaR nm i)[j]?=some r)/\(r∉zaR nm i->zhi pl r=false)
theorem zv5 {α β:Type} [DecidableEq α] {m:List (α×β)} {k:α}:zhi m k=true↔∃ p∈m,p.1=k:=by
 unfold zhi;simp
theorem zv1 {α β:Type} [DecidableEq α] {m:List (α×β)} {k:α} {v:β} (h:zhi m k=false):zbP m k v=m++[(k,v)]:=by
 unfold zbP;rw [if_neg (by simp [h])]
theorem zx5 {α β:Type} [DecidableEq α] {m:List (α×β)} {k k':α} {v:β} (h:zhi m k=false):zdj (m++[(k,v)]) k'=if k'=k then some v else zdj m k':=by
 unfold zdj;rw [List.find?_append];by_cases a:k'=k
 ·subst a;rw [if_pos rfl];have b:m.find? (fun p=>decide (p.1=k'))=none:=by
   rw [List.find?_eq_none];intro p hp hd;have:zhi m k'=true:=zv5.2 ⟨p,hp,by simpa using hd⟩;rw [h] at this;cases this
  rw [b];simp
 ·rw [if_neg a];cases m.find? (fun p=>decide (p.1=k')) with
  | some p=>simp
  | none=>simp [show ¬k=k' from fun e=>a e.symm]
theorem zum {α β:Type} [DecidableEq α] {m:List (α×β)} {k k':α} {v:β}:zhi (m++[(k,v)]) k'=(zhi m k'||decide (k=k')):=by
 unfold zhi;rw [List.any_append];simp
theorem zsA {L:List Int} (hn:n<=100000) (hL:Lead n L nm):iter (zeO n L) ([],0,([]:List (Int×Int)))=some (zjo nm n):=by
 have t:∀ (i:Nat) (r:Int),nm[i]?=some r->0<=r/\r<=i:=fun i r h=>⟨(hL.root i r h).1,(hL.root i r h).2.1⟩;have key:=zA (F:=zeO n L)
  (fun s=>0<=s.2.1/\s.2.1<=n/\s.1=(zaR nm s.2.1.toNat).map (grp nm s.2.1.toNat)/\zBR nm s.2.1.toNat s.2.2) (fun s=>((n:Int) - s.2.1).toNat)
  (fun z=>z=zjo nm n) ?_ ([],0,[]) ⟨by simp,by simp,by simp [zaR],fun r=>⟨fun h=>by simp [zaR] at h,fun _=>rfl⟩⟩
 ·obtain ⟨z,U,rfl⟩:=key;exact U
 ·rintro ⟨a,k,pl⟩ ⟨h0,M,ha,hpl⟩;simp only at h0 M ha hpl;obtain ⟨k,rfl⟩:=az h0;simp only [ba] at ha hpl;unfold zeO;simp only [ba];by_cases A:(k:Int)<n
  ·left;obtain ⟨r,d⟩:∃ r,nm[k]?=some r:=⟨_,cm (by rw [hL.nlen];omega)⟩;obtain ⟨p,hp⟩:∃ p,L[k]?=some p:=⟨_,cm (by rw [hL.len];omega)⟩;obtain ⟨T,r1,Y,q,O,Q⟩:=hL.root k r d;have N:w64 ((k:Int)+1)=(k:Int)+1:=zu (by omega) (by omega);have b:((k:Int)+1).toNat=k+1:=by omega
   have V:=zpd nm k;have H:a.length=(zaR nm k).length:=by rw [ha,dv]
   simp only [A,decide_true,if_true,zq hp,Y,gq];by_cases f:r=k
   ·subst f;have c:(k:Int)∉zaR nm k:=fun h=>by have:=(znv.1 h).2.1;omega
    have g:=(hpl k).2 c;rw [if_pos (by simp [g]),zaf (by simp;omega) (by simp;omega),zv1 g];simp only [gq];unfold zeS;have y:idx (a++[([]:List Int)]) (a.length:Int)=some []:=zq (by rw [ci (ga _),Nat.sub_self];rfl);simp only [y,gq,zaf (α:=Int) (bytes:=8) (l:=[]) (l2:=[(k:Int)]) (by simp) (by simp),N,ba];refine ⟨_,rfl,⟨by simp only [];omega,by simp only [];omega,?_,?_⟩,by simp only [];omega⟩
    ·simp only [b];rw [zgo,d,if_pos rfl,ef];rw [List.set_append_right _ _ (ga _),Nat.sub_self];simp only [List.set_cons_zero,ek,List.map_nil,fh];have P:grp nm (k+1) k=[(k:Int)]:=by
      have v:grp nm k (k:Int)=[]:=by
       rw [bi];intro x w;obtain ⟨M,h2,X⟩:=zsJ.1 w;have:=t _ _ X;omega
      rw [zl6,d,if_pos rfl,v];rfl
     rw [P,ha];congr 1;apply eh;intro x w;rw [zl6,d,if_neg,bf];intro e;injection e with e
     have:=(znv.1 w).2.1;omega
    ·simp only [b];unfold zBR;rw [zgo,d,if_pos rfl];intro r;constructor
     ·intro hm;rw [zum,zx5 g];rcases ep.1 hm with hm | hm
      ·obtain ⟨D,j,C,m⟩:=(hpl r).1 hm;refine ⟨by rw [D];rfl,j,?_,by rw [cg (zy m)];exact m⟩;rw [if_neg (by intro e;subst e;exact c hm)];exact C
      ·rw [fg] at hm;subst hm;refine ⟨by simp,a.length,by rw [if_pos rfl],?_⟩;rw [H,ci (ga _),Nat.sub_self];rfl
     ·intro hm;rw [ep,fg,not_or] at hm;rw [zum,(hpl r).2 hm.1];simp;intro e;exact hm.2 e.symm
   ·have E:r∈zaR nm k:=by
     refine znv.2 ⟨T,by omega,?_⟩;have c:r.toNat<nm.length:=by rw [hL.nlen];omega
     obtain ⟨J,u⟩:∃ J,nm[r.toNat]?=some J:=⟨_,cm c⟩;obtain ⟨_,_,B,_⟩:=hL.root _ _ u;have:=zl5 (L:=L) (i:=((r.toNat:Nat):Int)) (by omega) (by rw [ba];exact O) Q;rw [this] at B;injection B with B
     rw [u];congr 1;omega
    obtain ⟨D,j,C,m⟩:=(hpl r).1 E;rw [if_neg (by simp [D]),C];simp only [gt];unfold zeS;have S:=zy m;have y:a[j]?=some (grp nm k r):=by rw [ha,cq,m];rfl
    have Z:=zsK nm r k;simp only [zq y,gq,zaf (bytes:=8) (l:=grp nm k r) (l2:=[(k:Int)]) (by simp;omega) (by simp;omega),N,ba];refine ⟨_,rfl,⟨by simp only [];omega,by simp only [];omega,?_,?_⟩,by simp only [];omega⟩
    ·simp only [b];rw [zgo,d,if_neg (by intro e;injection e with e;exact f e),bf];apply bl;intro I;rw [cq];by_cases G:j=I
     ·subst G;rw [zX (zy y),m];simp only [Option.map_some];rw [zl6,d,if_pos rfl]
     ·rw [zL G,ha,cq];cases w:(zaR nm k)[I]? with
      | none=>rfl
      | some x=>
       simp only [Option.map_some];rw [zl6,d,if_neg,bf];intro e;injection e with e
       subst e;exact G (zrx nm k _ _ _ m w)
    ·simp only [b];unfold zBR;rw [zgo,d,if_neg (by intro e;injection e with e;exact f e),bf];exact hpl
  ·right;rw [if_neg (by simp;omega)];have R:k=n:=by omega
   subst R;exact ⟨_,rfl,ha⟩
theorem zyl {n:Nat} (hn:n<=100000):iter (zeQ n) (0,[])=some (List.replicate n (-1)):=by
 have key:=zA (F:=zeQ n) (fun s=>0<=s.1/\s.1<=n/\s.2=List.replicate s.1.toNat (-1)) (fun s=>((n:Int) - s.1).toNat) (fun z=>z=List.replicate n (-1)) ?_ (0,[]) ⟨by simp,by simp,by simp⟩
 ·obtain ⟨z,d,rfl⟩:=key;exact d
 ·rintro ⟨i,L⟩ ⟨h0,h1,hL⟩;simp only at h0 h1 hL;unfold zeQ;simp only [ba];have e:L.length=i.toNat:=by rw [hL];simp
  by_cases a:i<n
  ·left;have b:w64 (i+1)=i+1:=zu (by omega) (by omega);have c:ztv n L i=some (L++[-1]):=by unfold ztv;rw [if_pos ⟨by omega,by omega⟩]
   simp only [a,decide_true,if_true,c,b,gq];refine ⟨_,rfl,⟨by simp only [];omega,by simp only [];omega,?_⟩,by simp only [];omega⟩;simp only;rw [hL,show (i+1).toNat=i.toNat+1 by omega,List.replicate_succ']
  ·right;rw [if_neg (by simp;omega)];exact ⟨_,rfl,by rw [hL,show i.toNat=n by omega]⟩
def zfM (n:Nat):List Int:=(List.range n).map fun (k:Nat)=>(k:Int)
theorem zvE {n:Nat} (hn:n<=100000):iter (zdE n) ([],0)=some (zfM n):=by
 have key:=zA (F:=zdE n) (fun s=>0<=s.2/\s.2<=n/\s.1=zfM s.2.toNat) (fun s=>((n:Int) - s.2).toNat) (fun z=>z=zfM n) ?_ ([],0) ⟨by simp,by simp,by simp [zfM]⟩
 ·obtain ⟨z,d,rfl⟩:=key;exact d
 ·rintro ⟨a,i⟩ ⟨h0,h1,hL⟩;simp only at h0 h1 hL;unfold zdE;have e:a.length=i.toNat:=by rw [hL];simp [zfM]
  by_cases b:i<n
  ·left;have c:w64 (i+1)=i+1:=zu (by omega) (by omega);simp only [b,decide_true,if_true,zaf (α:=Int) (bytes:=8) (l:=a) (l2:=[i]) (by simp;omega) (by simp;omega),c,gq];refine ⟨_,rfl,⟨by simp only [];omega,by simp only [];omega,?_⟩,by simp only [];omega⟩;simp only;rw [hL,show (i+1).toNat=i.toNat+1 by omega];unfold zfM;rw [fo,ef];congr 1;simp only [ek,List.map_nil];congr 1;omega
  ·right;rw [if_neg (by simp;omega)];exact ⟨_,rfl,by rw [hL,show i.toNat=n by omega]⟩
theorem zA3 (n:Nat):Lead n (List.replicate n (-1)) (zfM n):=by
 have b:∀ (i:Nat) (p:Int),(List.replicate n (-1:Int))[i]?=some p->p = -1:=by
  intro i p h;rw [cz] at h;split at h
  ·injection h with h;exact h.symm
  ·cases h
 refine ⟨by simp,by simp [zfM],fun i p h=>by rw [b i p h];omega,fun i r h=>?_⟩;have hi:=zy h;simp [zfM] at hi;have c:r=i:=by
  simp [zfM,cq,cw hi] at h;exact h.symm
 subst c;have a:(List.replicate n (-1:Int))[i]?=some (-1):=by rw [cz,if_pos hi]
 exact ⟨by omega,by omega,zl5 (by omega) (by simpa using a) (by omega),-1,by simpa using a,by omega⟩
theorem zyj {n:Nat} {bs:List Bd} (hn:n<=100000) (hb:bs.length<=100000) (hw:WBs n bs) :
  zj9 n bs=some (zjo (zkn bs (zfM n)) n)/\ziG n bs=some (zjo (zkn bs (zfM n)) n):=by
 obtain ⟨L,b,a⟩:=zo3 hb hw (zA3 n);constructor
 ·unfold zj9 zjP zjO zjN;have c:fmk 8 (n:Int)=some []:=by unfold fmk;rw [if_pos ⟨by omega,by omega,by omega⟩]
  simp only [c,gq,zyl hn,b,zsA hn a]
 ·unfold ziG ziF ziE ziD;simp only [gq,zvE hn];rw [zwB hb hw _ (by simp [zfM]) hn];simp only [gq];rw [zsk hn a.nlen fun i r h=>⟨(a.root i r h).1,(a.root i r h).2.1⟩];simp only [gq]
theorem zsb (l:List Bd) (h:l.length<=2000000):zcR l=some l:=by
 unfold zcR zcu;rw [if_neg (by simp),zaf (by simp;omega) (by simp;omega)];rfl
theorem ztV (l:List Bd) (h:l.length<=2000000) (p:Bd->Option Bool) (q:Bd->Bool) (hp:∀ b∈l,p b=some (q b)) :
  ∃ i:Int,zdP l p=some i/\((i = -1/\∀ b∈l,q b=false)\/(∃ k:Nat,i=k/\k<l.length/\(∀ (j:Nat) b,j<k->l[j]?=some b->q b=false)/\∃ b,l[k]?=some b/\q b=true)):=by
 have key:=zA (F:=zb3 l p) (fun i=>0<=i/\i<=l.length/\∀ (j:Nat) b,(j:Int)<i->l[j]?=some b->q b=false) (fun i=>(l.length - i).toNat)
  (fun z=>match z with | .inl _=>∀ b∈l,q b=false | .inr i=>∃ k:Nat,i=k/\k<l.length/\(∀ (j:Nat) b,j<k->l[j]?=some b->q b=false)/\∃ b,l[k]?=some b/\q b=true) ?_ 0 ⟨by omega,by omega,fun j b e=>by omega⟩
 ·obtain ⟨z,t,n⟩:=key;unfold zdP;rw [t];cases z with
  | inl z=>exact ⟨-1,rfl,.inl ⟨rfl,n⟩⟩
  | inr i=>exact ⟨i,rfl,.inr n⟩
 ·rintro i ⟨s,u,a⟩;obtain ⟨k,rfl⟩:=az s;unfold zb3;by_cases c:k<l.length
  ·have f:l[k]?=some l[k]:=cm c;have g:=hp l[k] (dj c);have r:w64 ((k:Int)+1)=(k:Int)+1:=zu (by omega) (by omega);have hd:((k:Int)<(l.length:Int)):=by omega
   simp only [hd,decide_true,if_true,zq f,gq,g,r];cases hq:q l[k] with
   | true=>right;exact ⟨_,rfl,k,rfl,c,fun j b e=>a j b (by omega),_,f,hq⟩
   | false=>
    left;refine ⟨_,rfl,⟨by omega,by omega,fun j b e d=>?_⟩,by omega⟩;by_cases m:j=k
    ·subst m;rw [f] at d;injection d with d;rw [←d];exact hq
    ·exact a j b (by omega) d
  ·right;have hd:¬((k:Int)<(l.length:Int)):=by omega
   simp only [hd,decide_false];refine ⟨_,rfl,?_⟩;intro b d;obtain ⟨j,e⟩:=cv d;exact a j b (by have:=zy e;omega) e
theorem zog {α:Type} {p:α->Bool} {l:List α} {k:Nat} (h:∀ (j:Nat) b,j<k->l[j]?=some b->p b=true):(l.take k).filter p=l.take k:=by
 rw [bu];intro b c;obtain ⟨j,a⟩:=cv c;have:=zy a;rw [ed] at this;rw [dh,if_pos (by omega)] at a;exact h j b (by omega) a
theorem zra (l:List Bd) (h:l.length<=2000000) (p:Bd->Option Bool) (q:Bd->Bool) (hp:∀ b∈l,p b=some (q b)) :
  zbk l p=some (l.filter fun b=>!q b):=by
 obtain ⟨i,hi,u⟩:=ztV l h p q hp;unfold zbk;simp only [hi,gq];rcases u with ⟨rfl,e⟩ | ⟨k,rfl,hk,hlow,b,g,hq⟩
 ·rw [if_pos (by simp)];congr 1;symm;rw [bu];intro b g;rw [e b g];rfl
 ·rw [if_neg (by simp)];have x:w64 ((k:Int)+1)=(k:Int)+1:=zu (by omega) (by omega);rw [x];have key:=zA (F:=zbE p) (fun s=>(k:Int)<s.2.2/\s.2.2<=l.length/\s.1.length=l.length/\0<=s.2.1/\s.2.1<s.2.2/\s.1.take s.2.1.toNat=(l.take s.2.2.toNat).filter (fun b=>!q b)/\∀ j,s.2.2.toNat<=j->s.1[j]?=l[j]?)
   (fun s=>(l.length - s.2.2).toNat) (fun z=>z.1.length=l.length/\0<=z.2/\z.2<=l.length/\z.1.take z.2.toNat=l.filter (fun b=>!q b)) ?_ (l,(k:Int),(k:Int)+1) ?_
  ·obtain ⟨⟨y,m⟩,G,E,C,J,A⟩:=key;simp only at E C J A;rw [G];simp only [gq];unfold zea;have L:clr y m ((0,0,0):Bd)=some (y.take m.toNat++List.replicate (y.length - m.toNat) (0,0,0)):=by unfold clr;rw [if_pos ⟨by omega,by omega⟩]
   have I:(y.take m.toNat).length=m.toNat:=by rw [ed];omega
   have hs:zkY (y.take m.toNat++List.replicate (y.length - m.toNat) ((0,0,0):Bd)) 0 m=some (y.take m.toNat):=by
    unfold zkY;rw [if_pos ⟨by omega,by omega,by rw [dl,I,dy];omega⟩];simp only [Int.toNat_zero,List.drop_zero];rw [List.take_append_of_le_length (by omega),fu (by omega)]
   rw [L];simp only [gq,hs];rw [A]
  ·rintro ⟨y,m,j⟩ ⟨g1,g2,g3,g4,g5,g6,g7⟩;simp only at g1 g2 g3 g4 g5 g6 g7;obtain ⟨j,rfl⟩:=az (show 0<=j by omega);obtain ⟨m,rfl⟩:=az g4;simp only [ba] at g6 g7;unfold zbE zbF;by_cases d:j<l.length
   ·left;have c:l[j]?=some l[j]:=cm d;have f:y[j]?=some l[j]:=by rw [g7 j (ga _)];exact c
    have t:=hp l[j] (dj d);have H:w64 ((j:Int)+1)=(j:Int)+1:=zu (by omega) (by omega);have n:w64 ((m:Int)+1)=(m:Int)+1:=zu (by omega) (by omega);have w:y[m]?=some y[m]:=cm (by omega);have a:((j:Int)+1).toNat=j+1:=by omega
    have r:((m:Int)+1).toNat=m+1:=by omega
    rw [if_pos (by simp;omega)];simp only [zq f,gq,t,H,n,zq w,ba];cases hq:q l[j] with
    | false=>
     rw [if_pos (by simp)];refine ⟨_,rfl,⟨by simp only [];omega,by simp only [];omega,by simp only [dz];exact g3,by simp only [];omega,by simp only [];omega,?_,fun i hi=>?_⟩,by simp only [];omega⟩
     ·simp only [a,r];rw [fq,zX (by omega),fq,c,bp,List.take_set_of_le (by omega),g6];simp [hq]
     ·simp only [a] at hi ⊢;rw [zL (by omega)];exact g7 i (by omega)
    | true=>
     rw [if_neg (by simp)];refine ⟨_,rfl,⟨by simp only [];omega,by simp only [];omega,g3,by simp only [];omega,by simp only [];omega,?_,fun i hi=>?_⟩,by simp only [];omega⟩
     ·simp only [a,ba];rw [g6,fq,c,bp];simp [hq]
     ·simp only [a] at hi ⊢;exact g7 i (by omega)
   ·right;rw [if_neg (by simp;omega)];refine ⟨_,rfl,g3,by simp only [];omega,by simp only [];omega,?_⟩;simp only [ba];rw [g6,show j=l.length by omega,ft]
  ·refine ⟨by simp only [];omega,by simp only [];omega,rfl,by simp only [];omega,by simp only [];omega,?_,fun j B=>rfl⟩;simp only [ba];rw [show ((k:Int)+1).toNat=k+1 by omega,fq,g,bp,zog fun j D B v=>by rw [hlow j D B v];rfl];simp [hq]
end
def WB (n:Int) (b:Bd):Prop:=0<=b.1/\b.1<n/\0<=b.2.1/\b.2.1<n/\b.1≠b.2.1/\0<=b.2.2/\b.2.2<=1000
theorem zo8 {n:Int} {bs:List Bd}:WBs n bs↔∀ b∈bs,WB n b:=by
 constructor
 ·intro h b c;obtain ⟨k,a⟩:=cv c;exact h k b a
 ·intro h k b a;exact h b (fd a)
section
variable {n:Nat} {bs:List Bd}
theorem zvz (hb:bs.length<=100000) (t:Int):iter (zdy bs t) ([],0)=some (bs.filter fun b=>!decide (b.2.2<t)):=by
 have e:(bs.filter fun b=>!decide (b.2.2<t))=bs.foldl (fun a x=>if (!decide (x.2.2<t)) then a++[x] else a) []:=by
  rw [zaV (p:=fun x:Bd=>!decide (x.2.2<t)) (g:=fun x=>x)];simp
 rw [e];refine zij bs _ [] (by omega) ?_ ?_
 ·intro a i b c j;have d:=zy c;have f:a.length<=i:=by
   rw [j,zaV (p:=fun x:Bd=>!decide (x.2.2<t)) (g:=fun x=>x)];simp only [fh,dv];exact gc (du _ _) (by rw [ed];omega)
  unfold zdy zfT;rw [if_pos (by simp [d])];simp only [zq c,gq,zaf (bytes:=24) (l:=a) (l2:=[b]) (by simp;omega) (by simp;omega)];by_cases h:b.2.2<t
  ·rw [if_neg (by simp;omega),if_neg (by simp [h])]
  ·rw [if_pos (by simp;omega),if_pos (by simp;omega)]
 ·intro a _;unfold zdy;rw [if_neg (by simp)]
theorem zyL (G:List (List Int)):zaI G=zfS G:=by
 funext s;unfold zaI zfS;by_cases h:s.2<(G.length:Int)
 ·rw [if_pos (by simp [h]),if_pos (by simp [h])];cases hx:idx G s.2 with
  | none=>
   have:zb0 G s (s.1,0)=none:=by unfold zb0;rw [hx];rfl
   rw [zyc this];rfl
  | some g=>
   have:zby s g=zb0 G s:=by
    funext r;unfold zby zb0;rw [hx];rfl
   simp only [gq,this];rfl
 ·rw [if_neg (by simp [h]),if_neg (by simp [h])]
theorem zxH {G:List (List Int)} (hn:n<=100000) (hG:G.length<=100000) (hG1:1<=G.length) (hg:∀ g∈G,g.length<=100000/\∀ x∈g,0<=x/\x<n) :
  ∃ tab,iter (zaI G) (List.replicate n 0,0)=some tab/\tab.length=n/\∀ x∈tab,0<=x/\x<G.length:=by
 have m:∀ (tab:List Int) (k:Nat) (v:Int),(∀ x∈tab,0<=x/\x<(G.length:Int))->0<=v->v<G.length->∀ x∈tab.set k v,0<=x/\x<(G.length:Int):=by
  intro tab k v h d e x c;rcases List.mem_or_eq_of_mem_set c with c | c
  ·exact h x c
  ·rw [c];exact ⟨d,e⟩
 refine zA (F:=zaI G) (fun s=>0<=s.2/\s.2<=G.length/\s.1.length=n/\∀ x∈s.1,0<=x/\x<G.length) (fun s=>(G.length - s.2).toNat)
  (fun tab=>tab.length=n/\∀ x∈tab,0<=x/\x<G.length) ?_ (List.replicate n 0,0) ⟨by simp,by simp,by simp,fun x c=>by rw [(List.mem_replicate.1 c).2];omega⟩
 rintro ⟨tab,i⟩ ⟨d,e,hl,hv⟩;simp only at d e hl hv;unfold zaI;by_cases b:i<G.length
 ·left;obtain ⟨g,q,t⟩:=zR (l:=G) d b;obtain ⟨B,w⟩:=hg g (fd t);rw [if_pos (by simp [b])];simp only [q,gq];have key:=zA (F:=zby (tab,i) g) (fun s=>0<=s.2/\s.2<=g.length/\s.1.length=n/\∀ x∈s.1,0<=x/\x<G.length) (fun s=>(g.length - s.2).toNat)
   (fun tab=>tab.length=n/\∀ x∈tab,0<=x/\x<G.length) ?_ (tab,0) ⟨by simp,by simp,hl,hv⟩
  ·obtain ⟨u,A,k1,k2⟩:=key;have p:w64 (i+1)=i+1:=zu (by omega) (by omega);rw [A];simp only [gq];unfold zh9;simp only [p];exact ⟨_,rfl,⟨by simp only [];omega,by simp only [];omega,k1,k2⟩,by simp only [];omega⟩
  ·rintro ⟨tab,j⟩ ⟨d,e,hl,hv⟩;simp only at d e hl hv;unfold zby;by_cases a:j<g.length
   ·left;obtain ⟨x,c,r⟩:=zR (l:=g) d a;have f:=w x (fd r);obtain ⟨y,z,_⟩:=zR (l:=tab) f.1 (by rw [hl];exact f.2);have p:w64 (j+1)=j+1:=zu (by omega) (by omega);rw [if_pos (by simp [a])];simp only [c,z,gq,p];exact ⟨_,rfl,⟨by simp only [];omega,by simp only [];omega,by simp only [dz];exact hl,m _ _ _ hv (by omega) b⟩,by simp only [];omega⟩
   ·right;rw [if_neg (by simp [a])];exact ⟨_,rfl,hl,hv⟩
 ·right;rw [if_neg (by simp [b])];exact ⟨_,rfl,hl,hv⟩
def zqi (tab:List Int) (b:Bd):Bool:=!decide (tab.getD b.1.toNat 0=tab.getD b.2.1.toNat 0)
def zt4 (tab:List Int) (b:Bd):Bd:=(tab.getD b.1.toNat 0,tab.getD b.2.1.toNat 0,b.2.2)
def zs3 (tab:List Int) (b:Bd):Bd:=(min (tab.getD b.1.toNat 0) (tab.getD b.2.1.toNat 0),max (tab.getD b.1.toNat 0) (tab.getD b.2.1.toNat 0),b.2.2)
theorem zwh {β:Type} (p:Bd->Bool) (g:Bd->β) (l:List Bd) (i:Nat) (hi:i<=l.length):((l.take i).foldl (fun a x=>if p x then a++[g x] else a) []).length<=i:=by
 rw [zaV];simp only [fh,dv];exact gc (du _ _) (by rw [ed];omega)
theorem zu6 (hb:bs.length<=100000) (hw:WBs n bs) {tab:List Int} (ht:tab.length=n):iter (zc7 bs tab) ([],0)=some ((bs.filter (zqi tab)).map (zt4 tab)):=by
 have e:=zaV (zqi tab) (zt4 tab) bs [];rw [fh] at e;rw [←e];refine zij bs _ [] (by omega) ?_ ?_
 ·intro a i b c k;have g:=zy c;have q:a.length<=i:=by rw [k];exact zwh _ _ _ _ (by omega)
  obtain ⟨j,t,p,s,v,u,w⟩:=hw _ _ c;obtain ⟨x,r,d⟩:=zR (l:=tab) j (by omega);obtain ⟨y,m,f⟩:=zR (l:=tab) p (by omega);unfold zc7 zfe;rw [if_pos (by simp [g])];simp only [zq c,r,m,gq,zaf (bytes:=24) (l:=a) (l2:=[(x,y,b.2.2)]) (by simp;omega) (by simp;omega)];unfold zqi zt4;rw [zka d,zka f];by_cases h:x=y
  ·rw [if_neg (by simp [h]),if_neg (by simp [h])]
  ·rw [if_pos (by simp [h]),if_pos (by simp [h])]
 ·intro a _;unfold zc7;rw [if_neg (by simp)]
theorem zuN (hb:bs.length<=100000) (hw:WBs n bs) {tab:List Int} (ht:tab.length=n):iter (zdx bs tab) ([],0)=some ((bs.filter (zqi tab)).map (zs3 tab)):=by
 have e:=zaV (zqi tab) (zs3 tab) bs [];rw [fh] at e;rw [←e];refine zij bs _ [] (by omega) ?_ ?_
 ·intro a i b c p;have k:=zy c;have s:a.length<=i:=by rw [p];exact zwh _ _ _ _ (by omega)
  obtain ⟨m,v,r,u,z,w,A⟩:=hw _ _ c;obtain ⟨x,t,g⟩:=zR (l:=tab) m (by omega);obtain ⟨y,q,j⟩:=zR (l:=tab) r (by omega);have f:zdI x y=some (max x y):=by unfold zdI;split<;>simp_all<;>omega
  have d:zgg x y=some (min x y):=by unfold zgg;split<;>simp_all<;>omega
  unfold zdx zfU;rw [if_pos (by simp [k])];simp only [zq c,t,q,f,d,gq,zaf (bytes:=24) (l:=a) (l2:=[(min x y,max x y,b.2.2)]) (by simp;omega) (by simp;omega)];unfold zqi zs3;rw [zka g,zka j];by_cases h:x=y
  ·rw [if_neg (by simp [h]),if_neg (by simp [h])]
  ·rw [if_pos (by simp [h]),if_pos (by simp [h])]
 ·intro a _;unfold zdx;rw [if_neg (by simp)]
theorem zws (S:Int->Bool) (tab:List Int):∀ (l:List Bd),zf6 S (l.map (zt4 tab))=zf6 S (l.map (zs3 tab))
 | []=>rfl
 | b::l=>by
  simp only [ek,zf6,zws S tab l];congr 1;unfold zt4 zs3;simp only;rcases Int.le_total (tab.getD b.1.toNat 0) (tab.getD b.2.1.toNat 0) with h | h
  ·rw [Int.min_eq_left h,Int.max_eq_right h]
  ·rw [Int.min_eq_right h,Int.max_eq_left h];by_cases e:S (tab.getD b.1.toNat 0)=S (tab.getD b.2.1.toNat 0)
   ·rw [if_pos e,if_pos e.symm]
   ·rw [if_neg e,if_neg fun x=>e x.symm]
theorem zt1 (hn0:1<=n) (hn:n<=100000) (a:bs.length<=100000) (hw:WBs n bs) (t:Int) :
  ∃ (m:Nat) (b1 b2:List Bd),zhR n bs t=some ((m:Int),b1)/\ziz n bs t=some ((m:Int),b2)/\1<=m/\m<=n/\WBs m b1/\WBs m b2/\b1.length<=100000/\b2.length<=100000/\∀ S,zf6 S b1=zf6 S b2:=by
 obtain ⟨e,d⟩:∃ z,z=bs.filter fun b=>!decide (b.2.2<t):=⟨_,rfl⟩;have a7:e.length<=bs.length:=by rw [d];exact du _ _
 have u:WBs n e:=zo8.2 fun b a=>zo8.1 hw b (by rw [d] at a;exact (ey.1 a).1);obtain ⟨X,P⟩:=zyj hn (by omega:e.length<=100000) u;obtain ⟨G,H⟩:∃ z,z=zjo (zkn e (zfM n)) n:=⟨_,rfl⟩;rw [←H] at X P;have h:G.length=(zaR (zkn e (zfM n)) n).length:=by rw [H];unfold zjo;rw [dv]
 have E:G.length<=n:=by rw [h];exact zpd _ _
 obtain ⟨L,_,R⟩:=zo3 (by omega:e.length<=100000) u (zA3 n);have q:1<=G.length:=by
  rw [h];obtain ⟨r,Y⟩:∃ r,(zkn e (zfM n))[0]?=some r:=⟨_,cm (by rw [R.nlen];omega)⟩;obtain ⟨r0,r1,_⟩:=R.root 0 r Y;have D:r=0:=by omega
  have:(0:Int)∈zaR (zkn e (zfM n)) n:=znv.2 ⟨by omega,by omega,by simpa [D] using Y⟩;exact List.length_pos_of_mem this
 have I:∀ g∈G,g.length<=100000/\∀ x∈g,0<=x/\x<n:=by
  intro g B;rw [H] at B;unfold zjo at B;obtain ⟨r,_,rfl⟩:=fa.1 B;have:=zsK (zkn e (zfM n)) r n;exact ⟨by omega,fun x F=>⟨(zsJ.1 F).1,(zsJ.1 F).2.1⟩⟩
 obtain ⟨tab,O,j,k⟩:=zxH hn (by omega) q I;have i:∀ (g:Bd->Bd),((bs.filter (zqi tab)).map g).length<=100000:=fun g=>by
  rw [dv];exact gc (du _ _) a
 have f:∀ b∈bs.filter (zqi tab),WB n b/\0<=tab.getD b.1.toNat 0/\tab.getD b.1.toNat 0<G.length/\0<=tab.getD b.2.1.toNat 0/\tab.getD b.2.1.toNat 0<G.length/\tab.getD b.1.toNat 0≠tab.getD b.2.1.toNat 0:=by
  intro b a;obtain ⟨h1,A⟩:=ey.1 a;have C:=zo8.1 hw b h1;obtain ⟨M,w2,N,w4,w5,v,w⟩:=C;obtain ⟨x,F,s⟩:=zR (l:=tab) M (by omega);obtain ⟨y,hy,p⟩:=zR (l:=tab) N (by omega);have Z:=k x (fd s);have T:=k y (fd p);unfold zqi at A;rw [zka s,zka p] at A ⊢;exact ⟨⟨M,w2,N,w4,w5,v,w⟩,Z.1,Z.2,T.1,T.2,by simpa using A⟩
 refine ⟨G.length,_,_,?_,?_,q,E,?_,?_,i (zt4 tab),i (zs3 tab),fun S=>zws S tab _⟩
 ·unfold zhR zib zia;have hd:=zra bs (by omega) (fun q0=>zic q0 t) (fun b=>decide (b.2.2<t)) (fun b _=>rfl);rw [zsb bs (by omega)];simp only [gq];rw [hd,←d];simp only [gq,X,zsI (n:=(n:Int)) (by omega) (by omega),ba,O,zu6 a hw j]
 ·unfold ziz ziy zix ziw;rw [zvz a t,←d];simp only [gq,P,zsI (n:=(n:Int)) (by omega) (by omega),ba];rw [←zyL G];simp only [O,gq,zuN a hw j]
 ·rw [zo8];intro b a;obtain ⟨c,J,rfl⟩:=fa.1 a;obtain ⟨⟨_,_,_,_,_,v,w⟩,a1,a2,Q,V,U⟩:=f c J;exact ⟨a1,a2,Q,V,U,v,w⟩
 ·rw [zo8];intro b a;obtain ⟨c,J,rfl⟩:=fa.1 a;obtain ⟨⟨_,_,_,_,_,v,w⟩,a1,a2,Q,V,U⟩:=f c J;unfold zs3 WB;simp only;omega
theorem zwg {m:Int} {b1 b2:List Bd} {t:Int} (h:∀ S,zf6 S b1=zf6 S b2):Holds m b1 t↔Holds m b2 t:=by
 unfold Holds;constructor
 ·intro a S hS b;rw [←h S];exact a S hS b
 ·intro a S hS b;rw [h S];exact a S hS b
theorem zxK {p0:(List ((List UInt8)×Int))×(List ((List UInt8)×(List Int)))} {p1:List ((Int×Int)×Int)} (hn0:1<=p1.length) (hn:p1.length<=100000) (hb:bs.length<=100000) (hw:WBs p1.length bs)
  (h1:zaJ p0 p1=some bs) (h2:zd7 p0 p1=some bs) (t:Int) :
  ∃ a b c d,zem p0 p1 t=some (a,b)/\ziv p0 p1 t=some (c,d)/\(if !b then (false,(4:Int)) else (a,0))=(c,d):=by
 obtain ⟨m,A,C,u,q,D,B,w,k,r,s,l⟩:=zt1 hn0 hn hb hw t;unfold zem ziv;simp only [h1,h2,u,q,gq];by_cases e:(m:Int)>64
 ·rw [if_pos (by simpa using e),if_pos (by simpa using e)];exact ⟨_,_,_,_,rfl,rfl,rfl⟩
 ·rw [if_neg (by simpa using e),if_neg (by simpa using e)];obtain ⟨a,z,f⟩:=zwT (n:=(m:Int)) (by omega) (by omega) r w t;simp only [z,gq];by_cases g:(m:Int)<2
  ·rw [if_pos (by simpa using g)];have:a=true:=f.2 fun S hS ⟨y,hy1,hy2,_⟩=>by omega
   subst this;exact ⟨_,_,_,_,rfl,rfl,rfl⟩
  ·rw [if_neg (by simpa using g)];obtain ⟨v,p,x,i⟩:=zuE (n:=(m:Int)) (by omega) (by omega) s k;simp only [x,gq];refine ⟨_,_,_,_,rfl,rfl,?_⟩;have:a=decide (v≥t):=by
    have j:=(i t).trans (zwg l).symm;cases a with
    | true=>symm;simpa using j.2 (f.1 rfl)
    | false=>
     symm;simp only [decide_eq_false_iff_not];intro h;have:=f.2 (j.1 h);cases this
   rw [this];rfl
end
theorem zkd {S:Type} (st:Nat->S) (i0 N:Nat) (ok:Nat->Prop) (F:S->Option (S ⊕ (Unit ⊕ Bool))) (h0:i0<=N)
  (step:∀ i,i0<=i->i<N->(∀ j,i0<=j->j<i->ok j)->ok i->F (st i)=some (.inl (st (i+1))))
  (fail:∀ i,i0<=i->i<N->(∀ j,i0<=j->j<i->ok j)->¬ok i->F (st i)=some (.inr (.inr false)))
  (stop:(∀ j,i0<=j->j<N->ok j)->F (st N)=some (.inr (.inl ()))) :
  (iter F (st i0)=some (.inl ())/\∀ i,i0<=i->i<N->ok i)\/(iter F (st i0)=some (.inr false)/\¬ ∀ i,i0<=i->i<N->ok i):=by
 classical
 have key:∀ d i,i+d=N->i0<=i->(∀ j,i0<=j->j<i->ok j)->(iter F (st i)=some (.inl ())/\∀ i,i0<=i->i<N->ok i)\/(iter F (st i)=some (.inr false)/\¬ ∀ i,i0<=i->i<N->ok i):=by
  intro d
  induction d with
  | zero=>
   intro i hi c a;have:i=N:=by omega
   subst this;exact .inl ⟨zC (stop a),a⟩
  | succ d ih=>
   intro i hi c a;by_cases b:ok i
   ·rw [zv (step i c (by omega) a b)];exact ih (i+1) (by omega) (by omega) fun j e g=>by
     by_cases f:j=i
     ·subst f;exact b
     ·exact a j e (by omega)
   ·exact .inr ⟨zC (fail i c (by omega) a b),fun h=>b (h i c (by omega))⟩
 exact key (N - i0) i0 (by omega) (ga _) fun j l k=>by omega
theorem zjM {α:Type} (l:List α) (h:l.length<=2000000) (p:α->Option Bool) (q:α->Bool) (hp:∀ b∈l,p b=some (q b)) (F:Int->Option (Int ⊕ (Unit ⊕ Int)))
  (hF:∀ i,F i=if decide (i<(l.length:Int)) then ((idx l i).bind fun x=>(p x).bind fun b=>if b then (some (.inr (.inr i))) else (some (.inl (w64 (i+1))))) else (some (.inr (.inl ())))) :
  (iter F 0=some (.inl ())/\∀ b∈l,q b=false)\/(∃ k:Nat,iter F 0=some (.inr (k:Int))/\k<l.length/\(∀ (j:Nat) b,j<k->l[j]?=some b->q b=false)/\∃ b,l[k]?=some b/\q b=true):=by
 have key:=zA (F:=F) (fun i=>0<=i/\i<=l.length/\∀ (j:Nat) b,(j:Int)<i->l[j]?=some b->q b=false) (fun i=>(l.length - i).toNat)
  (fun z=>match z with | .inl _=>∀ b∈l,q b=false | .inr i=>∃ k:Nat,i=k/\k<l.length/\(∀ (j:Nat) b,j<k->l[j]?=some b->q b=false)/\∃ b,l[k]?=some b/\q b=true) ?_ 0 ⟨by omega,by omega,fun j b f=>by omega⟩
 ·obtain ⟨z,r,n⟩:=key;cases z with
  | inl z=>exact .inl ⟨r,n⟩
  | inr i=>
   obtain ⟨k,rfl,e⟩:=n;exact .inr ⟨k,r,e⟩
 ·rintro i ⟨t,u,a⟩;obtain ⟨k,rfl⟩:=az t;rw [hF];by_cases c:k<l.length
  ·have e:l[k]?=some l[k]:=cm c;have g:=hp l[k] (dj c);have s:w64 ((k:Int)+1)=(k:Int)+1:=zu (by omega) (by omega);have hd:((k:Int)<(l.length:Int)):=by omega
   simp only [hd,decide_true,if_true,zq e,gq,g,s];cases hq:q l[k] with
   | true=>right;exact ⟨_,rfl,k,rfl,c,fun j b f=>a j b (by omega),_,e,hq⟩
   | false=>
    left;refine ⟨_,rfl,⟨by omega,by omega,fun j b f d=>?_⟩,by omega⟩;by_cases m:j=k
    ·subst m;rw [e] at d;injection d with d;rw [←d];exact hq
    ·exact a j b (by omega) d
  ·right;have hd:¬((k:Int)<(l.length:Int)):=by omega
   simp only [hd,decide_false];refine ⟨_,rfl,?_⟩;intro b d;obtain ⟨j,f⟩:=cv d;exact a j b (by have:=zy f;omega) f
abbrev Gl:=List UInt8×Int
abbrev Tl:=List UInt8×List Int
abbrev TSet:=List Gl×List Tl
abbrev Pt:=Int×Int
abbrev Plc:=(Int×Int)×Int
def zgV (c:UInt8):Bool:=(decide (97<=(c.toNat:Int))&&decide ((c.toNat:Int)<=122))||(decide (65<=(c.toNat:Int))&&decide ((c.toNat:Int)<=90))
def zni (c:UInt8):Bool:=decide (48<=(c.toNat:Int))&&decide ((c.toNat:Int)<=57)
def NameOk (s:List UInt8):Prop:=1<=s.length/\s.length<=12/\∀ (i:Nat) (c:UInt8),s[i]?=some c->zgV c=true\/(1<=i/\(zni c=true\/(c.toNat:Int)=95))
theorem zou (c:UInt8):zgf (c.toNat:Int)=some (zgV c):=by
 unfold zgf zgV;by_cases a:97<=(c.toNat:Int)<;>by_cases b:(c.toNat:Int)<=122<;>by_cases e:65<=(c.toNat:Int)<;>by_cases d:(c.toNat:Int)<=90<;>simp [*]<;>omega
theorem zs1 (c:UInt8):zj3 (c.toNat:Int)=some (zni c):=by
 unfold zj3 zni;by_cases a:48<=(c.toNat:Int)<;>by_cases b:(c.toNat:Int)<=57<;>simp [*]<;>omega
theorem zvF (s:List UInt8) (h:s.length<=2000000):∃ b,zgj s=some b/\(b=true↔NameOk s):=by
 unfold zgj zgi;by_cases t:s.length<1
 ·rw [if_pos (by simp;omega),if_pos rfl];exact ⟨_,rfl,by simp;unfold NameOk;omega⟩
 ·rw [if_neg (by simp;omega)];by_cases r:s.length>12
  ·rw [if_pos (by simp;omega),if_pos rfl];exact ⟨_,rfl,by simp;unfold NameOk;omega⟩
  ·rw [if_neg (by simp;omega)];have g:s[0]?=some s[0]:=cm (by omega);have n:idx s 0=some s[0]:=zq (i:=0) g;simp only [n,gq,zou];cases hl:zgV s[0] with
   | false=>
    refine ⟨false,rfl,by simp;rintro ⟨_,_,p⟩;have:=p 0 _ g;rw [hl] at this;simp at this⟩
   | true=>
    rw [if_neg (by simp)];have key:=zkd (fun i=>(i:Int)) 1 s.length (fun i=>∀ c,s[i]?=some c->zgV c=true\/zni c=true\/(c.toNat:Int)=95) (zbO s) (by omega) ?_ ?_ ?_;rcases key with ⟨j,k⟩ | ⟨j,hnot⟩
    ·have j:iter (zbO s) 1=some (.inl ()):=j;rw [j];refine ⟨true,rfl,fun _=>⟨by omega,by omega,fun i c a=>?_⟩,fun _=>rfl⟩;cases i with
     | zero=>rw [g] at a;injection a with a;rw [←a];exact .inl hl
     | succ i=>
      rcases k (i+1) (by omega) (zy a) c a with h | h
      ·exact .inl h
      ·exact .inr ⟨by omega,h⟩
    ·have j:iter (zbO s) 1=some (.inr false):=j;rw [j];refine ⟨false,rfl,fun h=>(by cases h),fun q=>absurd (fun i l hi c a=>?_) hnot⟩;rcases q.2.2 i c a with h | h
     ·exact .inl h
     ·exact .inr h.2
    ·intro i l hi _ f;unfold zbO;have a:s[i]?=some s[i]:=cm hi;rw [if_pos (by simp [hi])];simp only [zq a,gq,zou,zs1];have m:w64 ((i:Int)+1)=((i+1:Nat):Int):=by rw [zu (by omega) (by omega)];omega
     unfold zez;rcases f _ a with h | h | h
     ·simp [h,m]
     ·simp [h,m]
     ·simp [h,m]
    ·intro i l hi _ f;unfold zbO;have a:s[i]?=some s[i]:=cm hi;rw [if_pos (by simp [hi])];simp only [zq a,gq,zou,zs1];unfold zez;have d:¬(zgV s[i]=true\/zni s[i]=true\/(s[i].toNat:Int)=95):=fun h=>f fun c e=>by rw [a] at e;injection e with e;rw [←e];exact h
     simp only [not_or,Bool.not_eq_true] at d;simp [d.1,d.2.1,d.2.2]
    ·intro _;unfold zbO;rw [if_neg (by simp)]
theorem zwf (s:List UInt8) (h:s.length<=2000000):∃ b,zgz s=some b/\(b=true↔NameOk s):=by
 have e:∀ (i:Nat) (c:UInt8),s[i]?=some c->zbU s (i:Int)=za5 (i:Int) c (zgV c):=by
  intro i c d;have hi:=zy d;unfold zbU;rw [if_pos (by simp [hi])];simp only [zq d,gq];unfold zgV;by_cases t:97<=(c.toNat:Int)<;>by_cases w:(c.toNat:Int)<=122<;>by_cases y:65<=(c.toNat:Int)<;>by_cases x:(c.toNat:Int)<=90<;>simp [*]<;>omega
 unfold zgz zl3;have key:=zkd (fun i=>(i:Int)) 0 s.length (fun i=>∀ c,s[i]?=some c->zgV c=true\/(1<=i/\(zni c=true\/(c.toNat:Int)=95))) (zbU s) (by omega) ?_ ?_ ?_;rcases key with ⟨j,q⟩ | ⟨j,hnot⟩
 ·have j:iter (zbU s) 0=some (.inl ()):=j;rw [j];by_cases t:1<=s.length
  ·refine ⟨decide ((s.length:Int)<=12),by simp;omega,?_⟩;simp only [decide_eq_true_eq];exact ⟨fun w=>⟨t,by omega,fun i c d=>q i (by omega) (zy d) c d⟩,fun p=>by have:=p.2.1;omega⟩
  ·refine ⟨false,by simp;intro h;omega,fun h=>(by cases h),fun p=>absurd p.1 t⟩
 ·have j:iter (zbU s) 0=some (.inr false):=j;rw [j];exact ⟨false,rfl,fun h=>(by cases h),fun p=>absurd (fun i _ hi c d=>p.2.2 i c d) hnot⟩
 ·intro i v hi _ k;have d:s[i]?=some s[i]:=cm hi;rw [e i _ d];have n:w64 ((i:Int)+1)=((i+1:Nat):Int):=by rw [zu (by omega) (by omega)];omega
  unfold za5 zbV;rcases k _ d with h | ⟨h0,h | h⟩
  ·simp [h,n]
  ·unfold zni at h;simp at h;cases u:zgV s[i] with
   | true=>simp [n]
   | false=>
    have l:¬((i:Int)=0):=by omega
    have m:¬((s[i].toNat:Int)<48):=by omega
    have r:¬((s[i].toNat:Int)>57):=by omega
    simp only [l,m,r,decide_false];simp [n]
  ·cases u:zgV s[i] with
   | true=>simp [n]
   | false=>
    have l:¬((i:Int)=0):=by omega
    have m:¬((s[i].toNat:Int)<48):=by omega
    have r:((s[i].toNat:Int)>57):=by omega
    simp only [l,m,r,decide_false,decide_true,h];simp [n]
 ·intro i v hi _ k;have d:s[i]?=some s[i]:=cm hi;rw [e i _ d];unfold za5 zbV;have g:¬(zgV s[i]=true\/(1<=i/\(zni s[i]=true\/(s[i].toNat:Int)=95))):=fun h=>k fun c f=>by rw [d] at f;injection f with f;rw [←f];exact h
  rw [not_or] at g;have u:zgV s[i]=false:=by simpa using g.1
  rw [u];by_cases l:(i:Int)=0
  ·simp [l]
  ·have a:¬(zni s[i]=true\/(s[i].toNat:Int)=95):=fun h=>g.2 ⟨by omega,h⟩;rw [not_or] at a;have hd:=a.1;unfold zni at hd;simp at hd;by_cases m:(s[i].toNat:Int)<48
   ·simp only [l,m,decide_false,decide_true,a.2];simp
   ·have r:(s[i].toNat:Int)>57:=by omega
    simp only [l,m,r,decide_false,decide_true,a.2];simp
 ·intro _;unfold zbU;rw [if_neg (by simp)]
theorem zgX (s:List UInt8) (h:s.length<=2000000):∃ b,zgz s=some b/\zgj s=some b/\(b=true↔NameOk s):=by
 obtain ⟨a,c,d⟩:=zwf s h;obtain ⟨b,e,f⟩:=zvF s h;have:a=b:=by
  cases a<;>cases b<;>simp_all
 subst this;exact ⟨a,c,e,d⟩
theorem za7 (a b c:Int):zav a b c=some (decide (b<=a/\a<=c)):=by
 unfold zav;by_cases d:a≥b<;>by_cases e:a<=c<;>simp [*]<;>omega
theorem zc4 (a b c:Int):zao a b c=some (decide (b<=a/\a<=c)):=by
 unfold zao;by_cases d:a≥b<;>by_cases e:a<=c<;>simp [*]<;>omega
def GlueOk (set:TSet) (i:Nat):Prop:=∀ g,set.1[i]?=some g->NameOk g.1/\1<=g.2/\g.2<=4/\∀ (j:Nat) (g':Gl),j<i->set.1[j]?=some g'->g'.1≠g.1
def TileOk (set:TSet) (i:Nat):Prop:=∀ t,set.2[i]?=some t->NameOk t.1/\t.2.length=4/\(∀ (j:Nat) (t':Tl),j<i->set.2[j]?=some t'->t'.1≠t.1)/\∀ x∈t.2,0<=x/\x<=set.1.length
structure SetOk (set:TSet):Prop where
 glues:set.1.length<=200
 tiles1:1<=set.2.length
 tiles:set.2.length<=160
 glue:∀ i,i<set.1.length->GlueOk set i
 tile:∀ i,i<set.2.length->TileOk set i
structure Tame (set:TSet):Prop where
 g:set.1.length<=1048576
 t:set.2.length<=1048576
 gn:∀ x∈set.1,x.1.length<=1048576
 tn:∀ x∈set.2,x.1.length<=1048576
 ts:∀ x∈set.2,x.2.length<=1048576
theorem znN {α:Type} (l:List (List UInt8×α)) (s:List UInt8):(zdj (l.map fun g=>(g.1,true)) s).getD false=true↔∃ g∈l,g.1=s:=by
 induction l with
 | nil=>simp [zdj]
 | cons g l ih=>
  unfold zdj at ih ⊢;rw [ek,List.find?_cons];by_cases h:g.1=s
  ·simp [h]
  ·simp only [h,decide_false];rw [ih];simp [h]
theorem zwP {α:Type} (l:List (List UInt8×α)) (s:List UInt8):zhi (l.map fun g=>(g.1,true)) s=true↔∃ g∈l,g.1=s:=by
 rw [zv5];simp
theorem zte {α:Type} {l:List (List UInt8×α)} {g:List UInt8×α} (h:¬ ∃ g'∈l,g'.1=g.1):zbP (l.map fun g=>(g.1,true)) g.1 true=(l++[g]).map fun g=>(g.1,true):=by
 rw [zv1 (by cases hh:zhi (l.map fun g=>(g.1,true)) g.1 with | false=>rfl | true=>exact absurd ((zwP l g.1).1 hh) h)];simp
theorem znj {α:Type} {l:List α} {i:Nat} {x:α} (h:l[i]?=some x):l.take (i+1)=l.take i++[x]:=by
 rw [fq,h];rfl
theorem zmJ {α:Type} {l:List α} {i:Nat} {P:α->Prop} (hi:i<=l.length):(∃ g∈l.take i,P g)↔∃ (j:Nat) (g:α),j<i/\l[j]?=some g/\P g:=by
 constructor
 ·rintro ⟨g,c,b⟩;obtain ⟨j,a⟩:=cv c;have:=zy a;rw [ed] at this;rw [dh,if_pos (by omega)] at a;exact ⟨j,g,by omega,a,b⟩
 ·rintro ⟨j,g,a,c,b⟩;exact ⟨g,fd (i:=j) (by rw [dh,if_pos a];exact c),b⟩
def zoF (l:List Int) (m:Int):Bool:=l.all fun x=>decide (0<=x/\x<=m)
theorem znK {l:List Int} {m:Int}:zoF l m=true↔∀ x∈l,0<=x/\x<=m:=by
 unfold zoF;simp
theorem zo5 (l:List Int) (hl:l.length<=1048576) (set:TSet):zb6 l (fun q0=>zbz q0 set)=some (!zoF l set.1.length):=by
 unfold zb6 zgk zeD;have hp:∀ b∈l,(fun q0=>zbz q0 set) b=some (!decide (0<=b/\b<=(set.1.length:Int))):=by
  intro b _;simp only [zbz,za7,gq]
 rcases zjM l (by omega) (fun q0=>zbz q0 set) (fun b=>!decide (0<=b/\b<=(set.1.length:Int))) hp (zeC l fun q0=>zbz q0 set) (fun i=>rfl) with ⟨c,a⟩ | ⟨k,c,hk,_,b,hb,hq⟩
 ·rw [c];have:zoF l set.1.length=true:=by
   rw [znK];intro x d;have:=a x d;simpa using this
  simp [this]
 ·rw [c];have:zoF l set.1.length=false:=by
   cases h:zoF l set.1.length with
   | false=>rfl
   | true=>
    have e:=znK.1 h b (fd hb);simp at hq;omega
  simp [this]
theorem ztX (set:TSet) (hT:Tame set):∃ b,zhA set=some b/\(b=true↔SetOk set):=by
 unfold zhA zg2;by_cases E:(set.1.length:Int)>200
 ·rw [if_pos (by simp;omega),if_pos rfl];exact ⟨_,rfl,fun h=>(by cases h),fun h=>by have:=h.glues;omega⟩
 rw [if_neg (by simp;omega),za7];simp only [gq];by_cases D:1<=(set.2.length:Int)/\(set.2.length:Int)<=160
 rotate_left
 ·rw [if_pos (by simp;omega)];exact ⟨_,rfl,fun h=>(by cases h),fun h=>absurd ⟨by have:=h.tiles1;omega,by have:=h.tiles;omega⟩ D⟩
 rw [if_neg (by simp;omega)];have key:=zkd (fun i=>((i:Int),(set.1.take i).map fun g=>(g.1,true))) 0 set.1.length (GlueOk set) (zaQ set) (by omega) ?_ ?_ ?_;rcases key with ⟨r,x⟩ | ⟨r,hnot⟩
 ·have r:iter (zaQ set) (0,[])=some (.inl ()):=r;rw [r];simp only [gq];unfold zjR zjQ;have key:=zkd (fun i=>((i:Int),(set.2.take i).map fun g=>(g.1,true))) 0 set.2.length (TileOk set) (zaP set) (by omega) ?_ ?_ ?_;rcases key with ⟨f,v⟩ | ⟨f,hnot2⟩
  ·have f:iter (zaP set) (0,[])=some (.inl ()):=f;rw [f];exact ⟨true,rfl,fun _=>⟨by omega,by omega,by omega,fun i hi=>x i (by omega) hi,fun i hi=>v i (by omega) hi⟩,fun _=>rfl⟩
  ·have f:iter (zaP set) (0,[])=some (.inr false):=f;rw [f];exact ⟨false,rfl,fun h=>(by cases h),fun h=>absurd (fun i _ hi=>h.tile i hi) hnot2⟩
  ·intro i _ hi _ k;have m:set.2[i]?=some set.2[i]:=cm hi;obtain ⟨o1,o2,A,B⟩:=k _ m;obtain ⟨b,p,_,l⟩:=zgX set.2[i].1 (by have:=hT.tn _ (dj hi);omega);have w:b=true:=l.2 o1;subst w;have a:¬ ∃ g∈set.2.take i,g.1=set.2[i].1:=by
    rw [zmJ (by omega)];rintro ⟨j,g,u,q,e⟩;exact A j g u q e
   have c:(zdj ((set.2.take i).map fun g=>(g.1,true)) set.2[i].1).getD false=false:=by
    cases hh:(zdj ((set.2.take i).map fun g=>(g.1,true)) set.2[i].1).getD false with
    | false=>rfl
    | true=>exact absurd ((znN _ _).1 hh) a
   have z:w64 ((i:Int)+1)=((i+1:Nat):Int):=by rw [zu (by omega) (by omega)];omega
   unfold zaP zcT;rw [if_pos (by simp [hi])];simp only [zq m,gq,p,c,zo5 _ (by omega:set.2[i].2.length<=1048576),z,zte a,←znj m,o2];have:zoF set.2[i].2 set.1.length=true:=znK.2 B;simp [this]
  ·intro i _ hi _ k;have m:set.2[i]?=some set.2[i]:=cm hi;obtain ⟨b,p,_,l⟩:=zgX set.2[i].1 (by have:=hT.tn _ (dj hi);omega);unfold zaP zcT;rw [if_pos (by simp [hi])];simp only [zq m,gq,p];cases b with
   | false=>simp
   | true=>
    rw [if_neg (by simp)];have d:=l.1 rfl;cases c:(zdj ((set.2.take i).map fun g=>(g.1,true)) set.2[i].1).getD false with
    | true=>simp
    | false=>
     rw [if_neg (by simp)];have a:¬ ∃ g∈set.2.take i,g.1=set.2[i].1:=fun h=>by
      rw [(znN _ _).2 h] at c;cases c
     rw [zmJ (by omega)] at a;by_cases C:set.2[i].2.length=4
     ·simp only [C];rw [if_neg (by simp),zo5 _ (by omega)];have:¬zoF set.2[i].2 set.1.length=true:=fun y=>k fun t n=>by
       rw [m] at n;injection n with n;subst n
       exact ⟨d,C,fun j t' u s e=>a ⟨j,t',u,s,e⟩,znK.1 y⟩
      simp [this]
     ·rw [if_pos (by simp;omega)]
  ·intro _;unfold zaP;rw [if_neg (by simp)]
 ·have r:iter (zaQ set) (0,[])=some (.inr false):=r;rw [r];exact ⟨false,rfl,fun h=>(by cases h),fun h=>absurd (fun i _ hi=>h.glue i hi) hnot⟩
 ·intro i _ hi _ k;have m:set.1[i]?=some set.1[i]:=cm hi;obtain ⟨o1,o2,A,B⟩:=k _ m;obtain ⟨b,p,_,l⟩:=zgX set.1[i].1 (by have:=hT.gn _ (dj hi);omega);have w:b=true:=l.2 o1;subst w;have a:¬ ∃ g∈set.1.take i,g.1=set.1[i].1:=by
   rw [zmJ (by omega)];rintro ⟨j,g,u,q,e⟩;exact B j g u q e
  have c:(zdj ((set.1.take i).map fun g=>(g.1,true)) set.1[i].1).getD false=false:=by
   cases hh:(zdj ((set.1.take i).map fun g=>(g.1,true)) set.1[i].1).getD false with
   | false=>rfl
   | true=>exact absurd ((znN _ _).1 hh) a
  have z:w64 ((i:Int)+1)=((i+1:Nat):Int):=by rw [zu (by omega) (by omega)];omega
  unfold zaQ zcS;rw [if_pos (by simp [hi])];simp only [zq m,gq,p,c,za7,z,zte a,←znj m];simp [o2,A]
 ·intro i _ hi _ k;have m:set.1[i]?=some set.1[i]:=cm hi;obtain ⟨b,p,_,l⟩:=zgX set.1[i].1 (by have:=hT.gn _ (dj hi);omega);unfold zaQ zcS;rw [if_pos (by simp [hi])];simp only [zq m,gq,p,za7];cases b with
  | false=>simp
  | true=>
   rw [if_neg (by simp)];have d:=l.1 rfl;cases c:(zdj ((set.1.take i).map fun g=>(g.1,true)) set.1[i].1).getD false with
   | true=>simp
   | false=>
    rw [if_neg (by simp)];have a:¬ ∃ g∈set.1.take i,g.1=set.1[i].1:=fun h=>by
     rw [(znN _ _).2 h] at c;cases c
    rw [zmJ (by omega)] at a;have:¬(1<=set.1[i].2/\set.1[i].2<=4):=fun y=>k fun t n=>by
     rw [m] at n;injection n with n;subst n
     exact ⟨d,y.1,y.2,fun j t' u s e=>a ⟨j,t',u,s,e⟩⟩
    simp [this]
 ·intro _;unfold zaQ;rw [if_neg (by simp)]
theorem zub (set:TSet) (h:set.1.length<=1048576) (s:List UInt8) :
  (zgR set s=some 0/\∀ g∈set.1,g.1≠s)\/∃ k:Nat,zgR set s=some ((k:Int)+1)/\k<set.1.length/\(∀ (j:Nat) g,j<k->set.1[j]?=some g->g.1≠s)/\∃ g,set.1[k]?=some g/\g.1=s:=by
 unfold zgR zkA;have key:=zA (F:=zhH set s) (fun i=>0<=i/\i<=set.1.length/\∀ (j:Nat) g,(j:Int)<i->set.1[j]?=some g->g.1≠s) (fun i=>(set.1.length - i).toNat)
  (fun z=>match z with | .inl _=>∀ g∈set.1,g.1≠s | .inr i=>∃ k:Nat,i=(k:Int)+1/\k<set.1.length/\(∀ (j:Nat) g,j<k->set.1[j]?=some g->g.1≠s)/\∃ g,set.1[k]?=some g/\g.1=s) ?_ 0 ⟨by omega,by omega,fun j b f=>by omega⟩
 ·obtain ⟨z,r,n⟩:=key;rw [r];cases z with
  | inl z=>exact .inl ⟨rfl,n⟩
  | inr i=>
   obtain ⟨k,rfl,e⟩:=n;exact .inr ⟨k,rfl,e⟩
 ·rintro i ⟨q,t,a⟩;obtain ⟨k,rfl⟩:=az q;unfold zhH;by_cases c:k<set.1.length
  ·have e:set.1[k]?=some set.1[k]:=cm c;have p:w64 ((k:Int)+1)=(k:Int)+1:=zu (by omega) (by omega);rw [if_pos (by simp [c])];simp only [zq e,gq,p];by_cases l:set.1[k].1=s
   ·right;rw [if_pos (by simp [l])];exact ⟨_,rfl,k,rfl,c,fun j b f=>a j b (by omega),_,e,l⟩
   ·left;rw [if_neg (by simp [l])];refine ⟨_,rfl,⟨by omega,by omega,fun j b f d=>?_⟩,by omega⟩;by_cases m:j=k
    ·subst m;rw [e] at d;injection d with d;rw [←d];exact l
    ·exact a j b (by omega) d
  ·right;rw [if_neg (by simp;omega)];refine ⟨_,rfl,?_⟩;intro b d;obtain ⟨j,f⟩:=cv d;exact a j b (by have:=zy f;omega) f
theorem zt8 (set:TSet) (h:set.2.length<=1048576) (s:List UInt8) :
  (zgQ set s=some (-1)/\∀ g∈set.2,g.1≠s)\/∃ k:Nat,zgQ set s=some (k:Int)/\k<set.2.length/\(∀ (j:Nat) g,j<k->set.2[j]?=some g->g.1≠s)/\∃ g,set.2[k]?=some g/\g.1=s:=by
 unfold zgQ zkz;rcases zjM set.2 (by omega) (fun t=>some (decide (t.1=s))) (fun t=>decide (t.1=s)) (fun _ _=>rfl) (zky set s) (fun i=>rfl) with ⟨d,a⟩ | ⟨k,d,hk,hlow,b,hb,hq⟩
 ·rw [d];exact .inl ⟨rfl,fun g c=>by simpa using a g c⟩
 ·rw [d];exact .inr ⟨k,rfl,hk,fun j g e c=>by simpa using hlow j g e c,b,hb,by simpa using hq⟩
theorem zsT (set:TSet) (t:Tl) (h4:t.2.length=4):(iter (zfE set t) 0=some (.inl ())/\∀ x∈t.2,0<=x/\x<=(set.1.length:Int))\/(iter (zfE set t) 0=some (.inr (.inr (.inr false)))/\¬ ∀ x∈t.2,0<=x/\x<=(set.1.length:Int)):=by
 have key:=zA (F:=zfE set t) (fun i=>0<=i/\i<=4/\∀ (j:Nat) x,(j:Int)<i->t.2[j]?=some x->0<=x/\x<=(set.1.length:Int)) (fun i=>(4 - i).toNat)
  (fun z=>(z=.inl ()/\∀ x∈t.2,0<=x/\x<=(set.1.length:Int))\/(z=.inr (.inr (.inr false))/\¬ ∀ x∈t.2,0<=x/\x<=(set.1.length:Int))) ?_ 0 ⟨by omega,by omega,fun j b f=>by omega⟩
 ·obtain ⟨z,m,p⟩:=key;rcases p with ⟨rfl,h⟩ | ⟨rfl,h⟩
  ·exact .inl ⟨m,h⟩
  ·exact .inr ⟨m,h⟩
 ·rintro i ⟨q,r,a⟩;obtain ⟨k,rfl⟩:=az q;unfold zfE;by_cases d:(k:Int)<4
  ·have g:t.2[k]?=some (t.2[k]'(by omega)):=cm (by omega);have n:w64 ((k:Int)+1)=(k:Int)+1:=zu (by omega) (by omega);rw [if_pos (by simpa using d)];simp only [zq g,gq,n,zc4];by_cases e:0<=t.2[k]'(by omega)/\t.2[k]'(by omega)<=(set.1.length:Int)
   ·left;rw [if_neg (by simp [e])];refine ⟨_,rfl,⟨by omega,by omega,fun j b f c=>?_⟩,by omega⟩;by_cases l:j=k
    ·subst l;rw [g] at c;injection c with c;rw [←c];exact e
    ·exact a j b (by omega) c
   ·right;rw [if_pos (by simp only [e,decide_false];rfl)];exact ⟨_,rfl,.inr ⟨rfl,fun h=>e (h _ (fd g))⟩⟩
  ·right;rw [if_neg (by simpa using d)];refine ⟨_,rfl,.inl ⟨rfl,?_⟩⟩;intro b c;obtain ⟨j,f⟩:=cv c;exact a j b (by have:=zy f;omega) f
theorem ztR (set:TSet) (hT:Tame set):∃ b,zjD set=some b/\(b=true↔SetOk set):=by
 unfold zjD zhu;by_cases E:(set.1.length:Int)>200
 ·rw [if_pos (by simp;omega),if_pos rfl];exact ⟨_,rfl,fun h=>(by cases h),fun h=>by have:=h.glues;omega⟩
 rw [if_neg (by simp;omega)];by_cases C:(set.2.length:Int)<1
 ·rw [if_pos (by simpa using C),if_pos rfl];exact ⟨_,rfl,fun h=>(by cases h),fun h=>by have:=h.tiles1;omega⟩
 rw [if_neg (by simpa using C)];by_cases D:(set.2.length:Int)>160
 ·rw [if_pos (by simpa using D)];exact ⟨_,rfl,fun h=>(by cases h),fun h=>by have:=h.tiles;omega⟩
 rw [if_neg (by simpa using D)];have key:=zkd (fun i=>(i:Int)) 0 set.1.length (GlueOk set) (zcL set) (by omega) ?_ ?_ ?_;rcases key with ⟨p,w⟩ | ⟨p,hnot⟩
 ·have p:iter (zcL set) 0=some (.inl ()):=p;rw [p];simp only [gq];unfold zmV zmU;have key:=zkd (fun i=>(i:Int)) 0 set.2.length (TileOk set) (zcK set) (by omega) ?_ ?_ ?_;rcases key with ⟨c,r⟩ | ⟨c,hnot2⟩
  ·have c:iter (zcK set) 0=some (.inl ()):=c;rw [c];exact ⟨true,rfl,fun _=>⟨by omega,by omega,by omega,fun i hi=>w i (by omega) hi,fun i hi=>r i (by omega) hi⟩,fun _=>rfl⟩
  ·have c:iter (zcK set) 0=some (.inr false):=c;rw [c];exact ⟨false,rfl,fun h=>(by cases h),fun h=>absurd (fun i _ hi=>h.tile i hi) hnot2⟩
  ·intro i _ hi _ d;have m:set.2[i]?=some set.2[i]:=cm hi;obtain ⟨o1,o2,z,A⟩:=d _ m;obtain ⟨b,_,n,f⟩:=zgX set.2[i].1 (by have:=hT.tn _ (dj hi);omega);have s:b=true:=f.2 o1;subst s;have v:w64 ((i:Int)+1)=((i+1:Nat):Int):=by rw [zu (by omega) (by omega)];omega
   have l:zgQ set set.2[i].1=some (i:Int):=by
    rcases zt8 set hT.t set.2[i].1 with ⟨_,h⟩ | ⟨k,hk,hkl,hlow,g,hg',e⟩
    ·exact absurd rfl (h _ (dj hi))
    ·rw [hk];congr 2;rcases gj k i with h | h | h
     ·exact absurd e (z k g h hg')
     ·exact h
     ·exact absurd rfl (hlow i _ h m)
   unfold zcK zfG zj2;rw [if_pos (by simp [hi])];rcases zsT set set.2[i] o2 with ⟨hs,_⟩ | ⟨_,hs⟩
   ·simp [zq m,n,o2,l,hs,v]
   ·exact absurd A hs
  ·intro i _ hi _ d;have m:set.2[i]?=some set.2[i]:=cm hi;obtain ⟨b,_,n,f⟩:=zgX set.2[i].1 (by have:=hT.tn _ (dj hi);omega);unfold zcK zfG zj2;rw [if_pos (by simp [hi])];simp only [zq m,gq,n];cases b with
   | false=>simp
   | true=>
    rw [if_neg (by simp)];have a:=f.1 rfl;by_cases y:set.2[i].2.length=4
    rotate_left
    ·rw [if_pos (by simp;omega)];rfl
    rw [if_neg (by simp [y])];rcases zt8 set hT.t set.2[i].1 with ⟨_,h⟩ | ⟨k,hk,hkl,hlow,g,hg',e⟩
    ·exact absurd rfl (h _ (dj hi))
    ·simp only [hk,gq];by_cases u:k=i
     ·subst u;rw [if_neg (by simp)];rcases zsT set set.2[k] y with ⟨_,hs⟩ | ⟨hs,_⟩
      ·refine absurd (fun t l=>?_) d;rw [m] at l;injection l with l;subst l
       exact ⟨a,y,fun j t' B q=>hlow j t' B q,hs⟩
      ·simp [hs]
     ·rw [if_pos (by simp;omega)]
  ·intro _;unfold zcK;rw [if_neg (by simp)]
 ·have p:iter (zcL set) 0=some (.inr false):=p;rw [p];exact ⟨false,rfl,fun h=>(by cases h),fun h=>absurd (fun i _ hi=>h.glue i hi) hnot⟩
 ·intro i _ hi _ d;have m:set.1[i]?=some set.1[i]:=cm hi;obtain ⟨o1,o2,z,A⟩:=d _ m;obtain ⟨b,_,n,f⟩:=zgX set.1[i].1 (by have:=hT.gn _ (dj hi);omega);have s:b=true:=f.2 o1;subst s;have v:w64 ((i:Int)+1)=((i+1:Nat):Int):=by rw [zu (by omega) (by omega)];omega
  have l:zgR set set.1[i].1=some ((i+1:Nat):Int):=by
   rcases zub set hT.g set.1[i].1 with ⟨_,h⟩ | ⟨k,hk,hkl,hlow,g,hg',e⟩
   ·exact absurd rfl (h _ (dj hi))
   ·rw [hk];congr 1;have:k=i:=by
     rcases gj k i with h | h | h
     ·exact absurd e (A k g h hg')
     ·exact h
     ·exact absurd rfl (hlow i _ h m)
    omega
  unfold zcL zfF;rw [if_pos (by simp [hi])];simp [zq m,n,l,v,zc4,o2,z]
 ·intro i _ hi _ d;have m:set.1[i]?=some set.1[i]:=cm hi;obtain ⟨b,_,n,f⟩:=zgX set.1[i].1 (by have:=hT.gn _ (dj hi);omega);have v:w64 ((i:Int)+1)=((i+1:Nat):Int):=by rw [zu (by omega) (by omega)];omega
  unfold zcL zfF;rw [if_pos (by simp [hi])];simp only [zq m,gq,n,zc4];cases b with
  | false=>simp
  | true=>
   rw [if_neg (by simp)];have a:=f.1 rfl;by_cases x:1<=set.1[i].2/\set.1[i].2<=4
   rotate_left
   ·rw [if_pos (by simp only [x,decide_false];rfl)];rfl
   rw [if_neg (by simp [x])];rcases zub set hT.g set.1[i].1 with ⟨_,h⟩ | ⟨k,hk,hkl,hlow,g,hg',e⟩
   ·exact absurd rfl (h _ (dj hi))
   ·simp only [hk,gq,v];have u:k≠i:=fun h=>by
     subst h;exact d fun t l=>by
      rw [m] at l;injection l with l;subst l
      exact ⟨a,x.1,x.2,fun j t' B q=>hlow j t' B q⟩
    rw [if_pos (by simp;omega)]
 ·intro _;unfold zcL;rw [if_neg (by simp)]
theorem zor (set:TSet) (hT:Tame set):∃ b,zhA set=some b/\zjD set=some b/\(b=true↔SetOk set):=by
 obtain ⟨a,c,d⟩:=ztX set hT;obtain ⟨b,e,f⟩:=ztR set hT;have:a=b:=by
  cases a<;>cases b<;>simp_all
 subst this;exact ⟨a,c,e,d⟩
end Go.Lf
