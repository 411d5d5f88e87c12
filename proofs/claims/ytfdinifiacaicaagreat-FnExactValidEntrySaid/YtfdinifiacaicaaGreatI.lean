import Derived.Test.YtfdinifiacaicaaGreatC
set_option linter.all false
namespace Go.Lf
open Go
theorem zfM {α:Type} {l:List α} {i:Int} {x:α} (h0:0<=i) (h:l[i.toNat]?=some x):idx l i=some x:=by
 unfold idx;rw [if_pos h0];exact h
theorem zuX {α:Type} {l:List α} {i:Int} (h0:0<=i) (h1:i<l.length):idx l i=some (l[i.toNat]'(by omega)):=
 zfM h0 (by rw [cm (by omega)])
theorem zS {α:Type} {l:List α} {i:Int} (h0:0<=i) (h1:i<l.length):∃ x,idx l i=some x/\l[i.toNat]?=some x:=
 ⟨_,zuX h0 h1,by rw [cm (by omega)]⟩
theorem zac {α:Type} {bytes:Nat} {l l2:List α} (h:(l.length+l2.length)*bytes<=140737488355328) (h2:l.length+l2.length<=9223372036854775807):app bytes l l2=some (l++l2):=by
 unfold app;rw [if_pos ⟨h,h2⟩]
theorem zlq {α:Type} {bytes:Nat} {n:Int} {z:α} (h0:0<=n) (h1:n<=2000000) (hb:bytes<=1000):mkl bytes n z=some (List.replicate n.toNat z):=by
 have a:n*bytes<=2000000*1000:=Int.mul_le_mul h1 (by omega) (by omega) (by omega)
 unfold mkl
 rw [if_pos ⟨h0,by omega,by omega⟩]
theorem zw {n:Int} (h0 : -1000000000000<=n) (h1:n<=1000000000000):w64 n=n:=zsr ⟨by omega,by omega⟩
theorem zW {α:Type} {l:List α} {i:Nat} {x:α} (h:i<l.length):(l.set i x)[i]?=some x:=by simp [h]
theorem zN {α:Type} {l:List α} {i j:Nat} {x:α} (h:i≠j):(l.set i x)[j]?=l[j]?:=by simp [h]
theorem zz {α:Type} {l:List α} {i:Nat} {x:α} (h:l[i]?=some x):i<l.length:=(co.1 h).1
theorem zkF {α:Type} (p:α->Bool):∀ {l:List α} {i:Nat} {x y:α},l[i]?=some x->p x=true->p y=false->(l.set i y).countP p+1=l.countP p
 | [],i,x,y,h,_,_=>by simp at h
 | a::l,0,x,y,h,hx,hy=>by
  simp at h;subst h
  simp [hx,hy]
 | a::l,i+1,x,y,h,hx,hy=>by
  simp at h
  have:=zkF p h hx hy
  simp only [List.set_cons_succ,List.countP_cons]
  omega
abbrev Bd:=Int×Int×Int
def ind (b:Bool):Int:=if b=true then 1 else 0
def zfn (S:Int->Bool):List Bd->Int
 | []=>0
 | b::bs=>(if S b.1=S b.2.1 then 0 else b.2.2)+zfn S bs
def zcS (S:Int->Bool):List Bd->List Int->Int
 | b::bs,f::fl=>f*(ind (S b.1) - ind (S b.2.1))+zcS S bs fl
 | _,_=>0
theorem znm {S:Int->Bool}:∀ {bs:List Bd} {fl:List Int},fl.length=bs.length->(∀ (k:Nat) (b:Bd) (f:Int),bs[k]?=some b->fl[k]?=some f -> -b.2.2<=f/\f<=b.2.2)->zcS S bs fl<=zfn S bs
 | [],fl,_,_=>by simp [zcS,zfn]
 | b::bs,[],h,_=>by simp at h
 | b::bs,f::fl,h,hf=>by
  have i:=hf 0 b f rfl rfl
  have g:=znm (S:=S) (bs:=bs) (fl:=fl) (by simpa using h) (fun k d c e a=>hf (k+1) d c e a)
  simp only [zcS,zfn]
  cases hA:S b.1<;>cases hB:S b.2.1<;>simp [ind]<;>omega
theorem zqa {S:Int->Bool}:∀ {bs:List Bd} {fl:List Int},fl.length=bs.length->
  (∀ (k:Nat) (b:Bd) (f:Int),bs[k]?=some b->fl[k]?=some f->(S b.1=true->S b.2.1=false->f=b.2.2)/\(S b.1=false->S b.2.1=true->f = -b.2.2))->zcS S bs fl=zfn S bs
 | [],fl,_,_=>by simp [zcS,zfn]
 | b::bs,[],h,_=>by simp at h
 | b::bs,f::fl,h,hf=>by
  have c:=hf 0 b f rfl rfl
  have d:=zqa (S:=S) (bs:=bs) (fl:=fl) (by simpa using h) (fun k g e i a=>hf (k+1) g e i a)
  simp only [zcS,zfn,d]
  cases hA:S b.1<;>cases hB:S b.2.1<;>simp [ind]
  ·have:=c.2 hA hB;omega
  ·have:=c.1 hA hB;omega
theorem zrs {S:Int->Bool}:∀ {bs:List Bd} {fl:List Int} {k:Nat} {b:Bd} {f f':Int},bs[k]?=some b->fl[k]?=some f->
  zcS S bs (fl.set k f')=zcS S bs fl+(f' - f)*(ind (S b.1) - ind (S b.2.1))
 | [],_,k,b,f,f',h,_=>by simp at h
 | _::_,[],k,b,f,f',_,h=>by simp at h
 | b0::bs,f0::fl,0,b,f,f',h,h'=>by
  simp at h h';subst h;subst h'
  simp only [List.set_cons_zero,zcS]
  rw [Int.sub_mul];omega
 | b0::bs,f0::fl,k+1,b,f,f',h,h'=>by
  simp at h h'
  simp only [List.set_cons_succ,zcS]
  rw [zrs h h'];omega
theorem zsa {S:Int->Bool}:∀ {bs:List Bd} {m:Nat},zcS S bs (List.replicate m 0)=0
 | [],m=>by cases m<;>simp [zcS]
 | b::bs,0=>by simp [zcS]
 | b::bs,m+1=>by rw [List.replicate_succ];simp only [zcS];rw [zsa];simp
theorem zuy {S:Int->Bool}:∀ {bs:List Bd},(∀ b∈bs,0<=b.2.2/\b.2.2<=1000)->zfn S bs<=1000*bs.length
 | [],_=>by simp [zfn]
 | b::bs,h=>by
  have d:=h b (by simp)
  have e:=zuy (S:=S) (bs:=bs) (fun c a=>h c (by simp [a]))
  simp only [zfn,dm];split<;>omega
structure Net (n:Int) (bs:List Bd) (at_:List (List Int)) (fl:List Int):Prop where
 n0:0<=n
 n1:n<=100000
 bn:bs.length<=100000
 wb:∀ (k:Nat) (b:Bd),bs[k]?=some b->0<=b.1/\b.1<n/\0<=b.2.1/\b.2.1<n/\b.1≠b.2.1/\0<=b.2.2/\b.2.2<=1000
 alen:at_.length=n.toNat
 amem:∀ (v:Nat) (l:List Int),at_[v]?=some l->l.length<=100000/\∀ k:Int,k∈l↔(0<=k/\∃ b:Bd,bs[k.toNat]?=some b/\(b.1=v\/b.2.1=v))
 flen:fl.length=bs.length
 fok:∀ (k:Nat) (b:Bd) (f:Int),bs[k]?=some b->fl[k]?=some f -> -b.2.2<=f/\f<=b.2.2
def res (b:Bd) (f v:Int):Int:=if b.1=v then b.2.2 - f else b.2.2+f
def oth (b:Bd) (v:Int):Int:=if b.1=v then b.2.1 else b.1
section
variable {n:Int} {bs:List Bd} {at_:List (List Int)} {fl:List Int}
theorem Net.bond (h:Net n bs at_ fl) {k:Int} {b:Bd} (h0:0<=k) (hb:bs[k.toNat]?=some b):∃ f,fl[k.toNat]?=some f/\idx bs k=some b/\idx fl k=some f /\ -b.2.2<=f/\f<=b.2.2:=by
 have d:=zz hb
 have a:k.toNat<fl.length:=by rw [h.flen];exact d
 have c:fl[k.toNat]?=some fl[k.toNat]:=cm a
 exact ⟨_,c,zfM h0 hb,zfM h0 c,h.fok _ _ _ hb c⟩
theorem zuM (h:Net n bs at_ fl) {k v:Int} {b:Bd} {f:Int} (h0:0<=k) (hb:bs[k.toNat]?=some b) (hf:fl[k.toNat]?=some f) :
  zdQ (n,bs,at_,fl) v k=some (res b f v,oth b v,(n,bs,at_,fl)):=by
 obtain ⟨j,a,hi,c,i,g⟩:=h.bond h0 hb
 rw [a] at hf
 obtain rfl:=Option.some.inj hf
 have e:=h.wb _ _ hb
 unfold zdQ res oth
 simp only [hi,gp,c]
 by_cases d:b.1=v
 ·simp only [d,decide_true,if_true]
  rw [zw (by omega) (by omega)]
 ·simp only [d,decide_false,if_false,ap]
  rw [zw (by omega) (by omega)]
structure Dist (n:Int) (bs:List Bd) (fl:List Int) (y:Int) (L:List Int):Prop where
 len:L.length=n.toNat
 goal:L[y.toNat]?=some 0
 low:∀ (v:Nat) (d:Int),L[v]?=some d -> -1<=d/\d<=n
 closed:∀ (k:Nat) (b:Bd) (f:Int) (t:Nat) (d e:Int),bs[k]?=some b->fl[k]?=some f->(b.1=t\/b.2.1=t)->L[t]?=some d->0<=d->0<res b f (oth b t)->L[(oth b t).toNat]?=some e->0<=e
 parent:∀ (v:Nat) (d:Int),L[v]?=some d->0<=d->(v:Int)≠y->∃ (k:Nat) (b:Bd) (f:Int),bs[k]?=some b/\fl[k]?=some f/\(b.1=v\/b.2.1=v)/\0<res b f v/\L[(oth b v).toNat]?=some (d - 1)/\0<=d - 1
end
theorem ztz {j:Nat} {i:Int} (h0:0<=i) (h1:j<(i+1).toNat) (h2:¬j<i.toNat):j=i.toNat:=by omega
def isNeg (x:Int):Bool:=decide (x<0)
structure BInv (n:Int) (bs:List Bd) (fl:List Int) (y:Int) (L q:List Int):Prop where
 len:L.length=n.toNat
 goal:L[y.toNat]?=some 0
 low:∀ (v:Nat) (d:Int),L[v]?=some d -> -1<=d/\d<q.length
 qlab:∀ v∈q,0<=v/\∃ d,L[v.toNat]?=some d/\0<=d
 labq:∀ (v:Nat) (d:Int),L[v]?=some d->0<=d->(v:Int)∈q
 count:q.length+L.countP isNeg=n.toNat
 parent:∀ (v:Nat) (d:Int),L[v]?=some d->0<=d->(v:Int)≠y->∃ (k:Nat) (b:Bd) (f:Int),bs[k]?=some b/\fl[k]?=some f/\(b.1=v\/b.2.1=v)/\0<res b f v/\L[(oth b v).toNat]?=some (d - 1)/\0<=d - 1
def BClosed (bs:List Bd) (fl L:List Int) (t:Int) (k:Int):Prop:=
 ∀ (b:Bd) (f:Int),bs[k.toNat]?=some b->fl[k.toNat]?=some f->0<res b f (oth b t)->∃ e,L[(oth b t).toNat]?=some e/\0<=e
theorem BClosed.mono {bs:List Bd} {fl L L':List Int} {t k:Int} (h:BClosed bs fl L t k) (hm:∀ (v:Nat) (d:Int),L[v]?=some d->0<=d->L'[v]?=some d):BClosed bs fl L' t k:=by
 intro b f j c g
 obtain ⟨e,i,a⟩:=h b f j c g
 exact ⟨e,hm _ _ i a,a⟩
section
variable {n:Int} {bs:List Bd} {at_:List (List Int)} {fl:List Int} {y:Int}
theorem Net.ends (h:Net n bs at_ fl) {k:Nat} {b:Bd} (hb:bs[k]?=some b) (v:Int):0<=oth b v/\oth b v<n:=by
 have:=h.wb _ _ hb
 unfold oth;split<;>omega
theorem zxo (h:Net n bs at_ fl) {k:Nat} {b:Bd} (hb:bs[k]?=some b) {v:Int} (hv:b.1=v\/b.2.1=v):w64 (w64 (b.1+b.2.1) - v)=oth b v:=by
 have a:=h.wb _ _ hb
 have c:=h.n1
 have e:b.1+b.2.1 - v=oth b v:=by
  unfold oth
  rcases hv with rfl | rfl
  ·rw [if_pos rfl];omega
  ·rw [if_neg (by omega)];omega
 rw [zw (n:=b.1+b.2.1) (by omega) (by omega),zw (by omega) (by omega),e]
theorem zvU (h:Net n bs at_ fl) {L q:List Int} (hB:BInv n bs fl y L q) {k:Int} {b:Bd} {f t d:Int} (hb:bs[k.toNat]?=some b) (hf:fl[k.toNat]?=some f)
  (ht0:0<=t) (ht:b.1=t\/b.2.1=t) (hd:L[t.toNat]?=some d) (hd0:0<=d) (hneg:∃ e,L[(oth b t).toNat]?=some e/\e<0) (hr:0<res b f (oth b t)) :
  BInv n bs fl y (L.set (oth b t).toNat (d+1)) (q++[oth b t])/\(∀ (v:Nat) (i:Int),L[v]?=some i->0<=i->(L.set (oth b t).toNat (d+1))[v]?=some i):=by
 obtain ⟨e,u,w⟩:=hneg
 have p:=h.ends hb t
 have l:=zz u
 have c:∀ (v:Nat) (i:Int),L[v]?=some i->0<=i->(L.set (oth b t).toNat (d+1))[v]?=some i:=by
  intro v i a j
  rw [zN]
  ·exact a
  ·intro F;rw [F] at u;rw [u] at a;injection a;omega
 refine ⟨⟨by rw [dz];exact hB.len,c _ _ hB.goal (by omega),?_,?_,?_,?_,?_⟩,c⟩
 ·intro v i a
  by_cases g:(oth b t).toNat=v
  ·subst g
   rw [zW l] at a
   have:=(hB.low _ _ hd).2
   injection a with a
   rw [dl];simp;omega
  ·rw [zN g] at a
   have:=hB.low _ _ a
   rw [dl];simp;omega
 ·intro v a
  rcases ek.1 a with a | a
  ·obtain ⟨B,i,r,s⟩:=hB.qlab v a
   exact ⟨B,i,c _ _ r s,s⟩
  ·have:v=oth b t:=by simpa using a
   subst this
   exact ⟨p.1,d+1,zW l,by omega⟩
 ·intro v i a j
  by_cases g:(oth b t).toNat=v
  ·exact ek.2 (.inr (by simp;omega))
  ·rw [zN g] at a
   exact ek.2 (.inl (hB.labq v i a j))
 ·have:=zkF isNeg u (by simp [isNeg,w]) (by simp [isNeg];omega:isNeg (d+1)=false)
  have:=hB.count
  rw [dl];simp;omega
 ·intro v i a j x
  by_cases g:(oth b t).toNat=v
  ·have m:(v:Int)=oth b t:=by omega
   subst g
   rw [zW l] at a
   injection a with a
   subst a
   have J:=h.wb _ _ hb
   have z:oth b (oth b t)=t:=by
    unfold oth
    rcases ht with rfl | rfl
    ·rw [if_pos rfl,if_neg (by omega)]
    ·by_cases r:b.1=b.2.1
     ·omega
     ·rw [if_neg r,if_pos rfl]
   refine ⟨k.toNat,b,f,hb,hf,?_,by rw [m];exact hr,?_,by omega⟩
   ·rw [m];unfold oth
    split
    ·exact .inr rfl
    ·exact .inl rfl
   ·rw [m,z]
    rw [c _ _ hd hd0];congr 1;omega
  ·rw [zN g] at a
   obtain ⟨G,C,H,r,s,I,D,E,A⟩:=hB.parent v i a j x
   exact ⟨G,C,H,r,s,I,D,c _ _ E A,A⟩
theorem ztc (h:Net n bs at_ fl) {t:Int} {al:List Int} (ht0:0<=t) (hal:at_[t.toNat]?=some al) (L0 q0:List Int) (hB0:BInv n bs fl y L0 q0) (htq:∃ d,L0[t.toNat]?=some d/\0<=d) :
  ∃ L q,iter (zbx (n,bs,at_,fl) t) (L0,q0,0,fl)=some (L,q,fl)/\BInv n bs fl y L q/\(∀ (v:Nat) (d:Int),L0[v]?=some d->0<=d->L[v]?=some d)/\
   (∃ r,q=q0++r)/\∀ k∈al,BClosed bs fl L t k:=by
 obtain ⟨a9,P⟩:=h.amem _ _ hal
 have a7:((t.toNat:Nat):Int)=t:=by omega
 have key:=zA (F:=zbx (n,bs,at_,fl) t) (fun s=>∃ L q i,s=(L,q,i,fl)/\0<=i/\i<=al.length/\BInv n bs fl y L q/\(∀ (v:Nat) (d:Int),L0[v]?=some d->0<=d->L[v]?=some d)/\(∃ r,q=q0++r)/\
   ∀ j k,j<i.toNat->al[j]?=some k->BClosed bs fl L t k) (fun s=>(al.length - s.2.2.1).toNat)
  (fun x=>∃ L q,x=(L,q,fl)/\BInv n bs fl y L q/\(∀ (v:Nat) (d:Int),L0[v]?=some d->0<=d->L[v]?=some d)/\(∃ r,q=q0++r)/\∀ k∈al,BClosed bs fl L t k) ?_
  (L0,q0,0,fl) ⟨L0,q0,0,rfl,by omega,by omega,hB0,fun _ _ h _=>h,⟨[],by simp⟩,fun j k R=>by simp at R⟩
 ·obtain ⟨x,hx,L,q,rfl,h1,h2,h3,h4⟩:=key
  exact ⟨L,q,hx,h1,h2,h3,h4⟩
 ·rintro s ⟨L,q,i,rfl,a1,b0,N,m,⟨r,hr⟩,J⟩
  unfold zbx
  simp only [zfM ht0 hal,gp]
  by_cases C:i<al.length
  ·left
   rw [if_pos (by simp [C])]
   obtain ⟨k,Z,E⟩:=zS a1 C
   have Y:k∈al:=fc E
   obtain ⟨Q,b,D,H⟩:=(P k).1 Y
   rw [a7] at H
   obtain ⟨f,hf,a0,c4,c3,B⟩:=h.bond Q D
   have U:=zxo h D H
   have M:=h.ends D t
   obtain ⟨e,T,p⟩:=zS (l:=L) M.1 (by rw [N.len];omega)
   simp only [Z,a0,gp,U,zuM h Q D hf,T]
   have g:w64 (i+1)=i+1:=zw (by omega) (by omega)
   have a:(∃ X,L[(oth b t).toNat]?=some X/\(0<=X\/¬0<res b f (oth b t)))->
     (∃ s',zaF t (L,q,i,fl) b b (res b f (oth b t),oth b (oth b t),(n,bs,at_,fl)) false=some (.inl s')/\
      (∃ L q i,s'=(L,q,i,fl)/\0<=i/\i<=al.length/\BInv n bs fl y L q/\(∀ (v:Nat) (d:Int),L0[v]?=some d->0<=d->L[v]?=some d)/\(∃ r,q=q0++r)/\∀ j k,j<i.toNat->al[j]?=some k->BClosed bs fl L t k)/\
      (al.length - s'.2.2.1).toNat<(al.length - i).toNat):=by
    rintro ⟨X,a2,a8⟩
    refine ⟨_,by unfold zaF zbA;rfl,⟨L,q,i+1,by rw [g],by omega,by omega,N,m,⟨r,hr⟩,?_⟩,?_⟩
    ·intro j k2 R c
     by_cases G:j<i.toNat
     ·exact J j k2 G c
     ·have:j=i.toNat:=by omega
      subst this
      rw [E] at c
      obtain rfl:=Option.some.inj c
      intro b2 f2 z B O
      rw [D] at z;obtain rfl:=Option.some.inj z
      rw [hf] at B;obtain rfl:=Option.some.inj B
      exact ⟨X,a2,a8.resolve_right (fun hn=>hn O)⟩
    ·simp only [g];omega
   by_cases A:e<0
   ·rw [if_pos (by simp [A])]
    by_cases u:res b f (oth b t)>0
    ·obtain ⟨d,hd,V⟩:=htq
     have I:=m _ _ hd V
     have c5:=N.low _ _ I
     have b1:(q.length:Int)<=n:=by have:=N.count;have:=h.n0;omega
     obtain ⟨a4,w⟩:=zvU h N D hf ht0 H I V ⟨e,p,A⟩ u
     have b4:=h.n1
     refine ⟨(L.set (oth b t).toNat (d+1),q++[oth b t],i+1,fl),?_,⟨_,_,i+1,rfl,by omega,by omega,a4,?_,⟨r++[oth b t],by rw [hr,be]⟩,?_⟩,?_⟩
     ·unfold zaF zbA
      rw [if_pos (by simp [u])]
      simp only [zfM ht0 I,gp,U,T]
      rw [zw (by omega) (by omega),zac (by simp;omega) (by simp;omega)]
      simp only [gp,g]
     ·intro v d' hv S;exact w _ _ (m _ _ hv S) S
     ·intro j k2 R c
      by_cases G:j<i.toNat
      ·exact (J j k2 G c).mono w
      ·have:j=i.toNat:=by omega
       subst this
       rw [E] at c
       obtain rfl:=Option.some.inj c
       intro b2 f2 z B O
       rw [D] at z;obtain rfl:=Option.some.inj z
       exact ⟨d+1,zW (zz p),by omega⟩
     ·simp only [];omega
    ·have:=a ⟨e,p,.inr u⟩
     simpa [u] using this
   ·rw [if_neg (by simp [A])]
    exact a ⟨e,p,.inl (by omega)⟩
  ·right
   rw [if_neg (by simp [C])]
   refine ⟨_,rfl,L,q,rfl,N,m,⟨r,hr⟩,fun k Z=>?_⟩
   obtain ⟨j,R,a5⟩:=List.mem_iff_getElem.1 Z
   exact J j k (by omega) (by rw [cm R,a5])
theorem ztb (h:Net n bs at_ fl) (L0 q0:List Int) (hB0:BInv n bs fl y L0 q0) :
  ∃ L,iter (zby (n,bs,at_,fl)) (L0,q0,0,fl)=some (L,fl)/\Dist n bs fl y L:=by
 have key:=zA (F:=zby (n,bs,at_,fl)) (fun s=>∃ L q i,s=(L,q,i,fl)/\0<=i/\i<=q.length/\BInv n bs fl y L q/\
   ∀ (j:Nat) (t:Int),j<i.toNat->q[j]?=some t->∀ (k:Nat) (b:Bd),bs[k]?=some b->(b.1=t\/b.2.1=t)->BClosed bs fl L t k) (fun s=>(n - s.2.2.1).toNat)
  (fun x=>∃ L,x=(L,fl)/\Dist n bs fl y L) ?_ (L0,q0,0,fl) ⟨L0,q0,0,rfl,by omega,by omega,hB0,fun j t G=>by simp at G⟩
 ·obtain ⟨x,hx,L,rfl,Y⟩:=key
  exact ⟨L,hx,Y⟩
 ·rintro s ⟨L,q,i,rfl,A,T,l,I⟩
  have U:(q.length:Int)<=n:=by have:=l.count;have:=h.n0;omega
  have X:=h.n1
  unfold zby
  by_cases m:i<q.length
  ·left
   rw [if_pos (by simp [m])]
   obtain ⟨t,V,C⟩:=zS A m
   have R:t∈q:=fc C
   obtain ⟨J,d,hd,u⟩:=l.qlab t R
   have M:t.toNat<at_.length:=by rw [h.alen,←l.len];exact zz hd
   have H:at_[t.toNat]?=some at_[t.toNat]:=cm M
   obtain ⟨L',q',D,N,w,⟨r,E⟩,hc⟩:=ztc h J H L q l ⟨d,hd,u⟩
   simp only [V,gp,D]
   have a:w64 (i+1)=i+1:=zw (by omega) (by omega)
   refine ⟨_,rfl,⟨L',q',i+1,by rw [a],by omega,?_,N,?_⟩,?_⟩
   ·rw [E,dl];omega
   ·intro j S G g k b z c
    by_cases B:j<i.toNat
    ·have:q[j]?=some S:=by
      rw [E,cg (by omega)] at g;exact g
     exact (I j S B this k b z c).mono w
    ·obtain rfl:=ztz A G B
     rw [E,cg (by omega),C] at g
     obtain rfl:=Option.some.inj g
     have P:((t.toNat:Nat):Int)=t:=bb J
     have:=(h.amem _ _ H).2 k
     exact hc k (this.2 ⟨Int.natCast_nonneg k,b,by simpa using z,by rw [P];exact c⟩)
   ·simp only [a];omega
  ·right
   rw [if_neg (by simp [m])]
   refine ⟨_,rfl,L,rfl,l.len,l.goal,?_,?_,l.parent⟩
   ·intro v d hv
    have:=l.low _ _ hv;omega
   ·intro k b f t d e z Z c hd u E he
    have Q:=l.labq t d hd u
    obtain ⟨j,G,O⟩:=List.mem_iff_getElem.1 Q
    have:=I j t (by omega) (by rw [cm G,O]) k b z c b f (by simpa using z) (by simpa using Z) E
    obtain ⟨e',p,hp⟩:=this
    rw [he] at p
    injection p with p
    omega
theorem ztd (h:Net n bs at_ fl):iter (zbz (n,bs,at_,fl)) ([],0)=some (List.replicate n.toNat (-1)):=by
 have key:=zA (F:=zbz (n,bs,at_,fl)) (fun s=>∃ i:Nat,s=(List.replicate i (-1),(i:Int))/\i<=n.toNat) (fun s=>(n - s.2).toNat)
  (fun x=>x=List.replicate n.toNat (-1)) ?_ ([],0) ⟨0,rfl,by omega⟩
 ·obtain ⟨x,c,rfl⟩:=key;exact c
 ·rintro s ⟨i,rfl,hi⟩
  have d:=h.n1
  unfold zbz
  by_cases a:(i:Int)<n
  ·left
   rw [if_pos (by simp [a]),zac (by simp;omega) (by simp;omega)]
   refine ⟨_,rfl,⟨i+1,?_,by omega⟩,?_⟩
   ·rw [zw (by omega) (by omega),List.replicate_succ'];rfl
   ·simp only []
    rw [zw (by omega) (by omega)];omega
  ·right
   rw [if_neg (by simp [a])]
   have b:i=n.toNat:=by have:=h.n0;omega
   subst b
   exact ⟨_,rfl,rfl⟩
theorem zqS (h:Net n bs at_ fl) (hy0:0<=y) (hy:y<n):∃ L,zc4 (n,bs,at_,fl) y=some (L,n,bs,at_,fl)/\Dist n bs fl y L:=by
 have hlen:(List.replicate n.toNat (-1:Int)).length=n.toNat:=by simp
 obtain ⟨z,p,b⟩:=zS (l:=List.replicate n.toNat (-1:Int)) hy0 (by rw [hlen];omega)
 have g:z = -1:=by
  rw [cz] at b
  split at b
  ·injection b with b;exact b.symm
  ·cases b
 have c:=zz b
 have i:BInv n bs fl y ((List.replicate n.toNat (-1:Int)).set y.toNat 0) [y]:=by
  refine ⟨by simp,zW c,?_,?_,?_,?_,?_⟩
  ·intro v d a
   by_cases e:y.toNat=v
   ·subst e;rw [zW c] at a;injection a with a;subst a;simp
   ·rw [zN e,cz] at a
    split at a
    ·injection a with a;subst a;simp
    ·cases a
  ·intro v a
   have:v=y:=by simpa using a
   subst this
   exact ⟨hy0,0,zW c,by omega⟩
  ·intro v d a hd
   by_cases e:y.toNat=v
   ·simp;omega
   ·rw [zN e,cz] at a
    split at a
    ·injection a with a;omega
    ·cases a
  ·have:=zkF isNeg (y:=(0:Int)) b (by rw [g];rfl) rfl
   have j:(List.replicate n.toNat (-1:Int)).countP isNeg=n.toNat:=by
    rw [List.countP_replicate];simp [isNeg]
   rw [j] at this
   simp;omega
  ·intro v d a hd k
   by_cases e:y.toNat=v
   ·omega
   ·rw [zN e,cz] at a
    split at a
    ·injection a with a;omega
    ·cases a
 obtain ⟨L,f,m⟩:=ztb h _ _ i
 refine ⟨L,?_,m⟩
 unfold zc4 zfs zfr
 rw [ztd h]
 simp only [gp,p,f]
end
section
variable {n:Int} {bs:List Bd} {at_:List (List Int)} {fl:List Int} {x y:Int}
theorem zuK (h:Net n bs at_ fl) {k:Nat} {b:Bd} {f f':Int} (hb:bs[k]?=some b) (hf:fl[k]?=some f) (h1 : -b.2.2<=f') (h2:f'<=b.2.2):Net n bs at_ (fl.set k f'):=by
 refine ⟨h.n0,h.n1,h.bn,h.wb,h.alen,h.amem,by rw [dz];exact h.flen,fun j c g d a=>?_⟩
 by_cases e:k=j
 ·subst e
  rw [zW (zz hf)] at a
  rw [hb] at d
  obtain rfl:=Option.some.inj d
  obtain rfl:=Option.some.inj a
  exact ⟨h1,h2⟩
 ·rw [zN e] at a
  exact h.fok _ _ _ d a
theorem zxy (h:Net n bs at_ fl) {v k:Int} {b:Bd} {f:Int} (h0:0<=k) (hb:bs[k.toNat]?=some b) (hf:fl[k.toNat]?=some f) (hv:b.1=v\/b.2.1=v) (hr:0<res b f v) :
  ∃ f',zfW (n,bs,at_,fl) v k=some (n,bs,at_,fl.set k.toNat f')/\Net n bs at_ (fl.set k.toNat f')/\∀ S,zcS S bs (fl.set k.toNat f')=zcS S bs fl+(ind (S v) - ind (S (oth b v))):=by
 obtain ⟨d,a,hi,e,j,i⟩:=h.bond h0 hb
 rw [a] at hf
 obtain rfl:=Option.some.inj hf
 have g:=h.wb _ _ hb
 unfold zfW
 simp only [hi,gp,e]
 unfold res at hr
 by_cases c:b.1=v
 ·rw [if_pos c] at hr
  simp only [c,decide_true,if_true]
  rw [zw (by omega) (by omega)]
  refine ⟨d+1,rfl,zuK h hb a (by omega) (by omega),fun S=>?_⟩
  rw [zrs hb a]
  unfold oth
  rw [if_pos c,c]
  have:d+1 - d=1:=by omega
  rw [this,Int.one_mul]
 ·rw [if_neg c] at hr
  simp only [c,decide_false,if_false,ap]
  rw [zw (by omega) (by omega)]
  refine ⟨d - 1,rfl,zuK h hb a (by omega) (by omega),fun S=>?_⟩
  rw [zrs hb a]
  unfold oth
  rw [if_neg c,←hv.resolve_left c]
  have:d - 1 - d = -1:=by omega
  rw [this];omega
theorem zup (h:Net n bs at_ fl) {L:List Int} {x23:(List Int)×(Int×(List Bd)×(List (List Int))×(List Int))} (hx:x23.1=L) {fl0:List Int} (hD:Dist n bs fl0 y L) {t d:Int} (ht0:0<=t) (hd:L[t.toNat]?=some d) (hd0:0<d)
  (hsame:∀ (k:Nat) (b:Bd),bs[k]?=some b->(b.1=t\/b.2.1=t)->L[(oth b t).toNat]?=some (d - 1)->fl[k]?=fl0[k]?) (hty:t≠y) :
  ∃ nx a b f,iter (zb5 (n,bs,at_,fl0) x23 (t,fl)) ((-1),0,0,fl)=some (nx,a,fl)/\0<=a/\bs[a.toNat]?=some b/\fl[a.toNat]?=some f/\
   (b.1=t\/b.2.1=t)/\0<res b f t/\nx=oth b t/\L[nx.toNat]?=some (d - 1):=by
 have p:=zz hd
 have X:t.toNat<at_.length:=by rw [h.alen,←hD.len];exact p
 have w:at_[t.toNat]?=some at_[t.toNat]:=cm X
 generalize at_[t.toNat]=al at w
 obtain ⟨a4,q⟩:=h.amem _ _ w
 have I:((t.toNat:Nat):Int)=t:=bb ht0
 rw [I] at q
 obtain ⟨v,bw,fw,J,Y,E,O,M,a8⟩:=hD.parent t.toNat d hd (by omega) (by rw [I];exact hty)
 rw [I] at E O M
 have b8:=hD.low _ _ hd
 have b0:=h.n1
 let Ok:Int->Int->Prop:=fun nx a=>0<=a/\∃ b f,bs[a.toNat]?=some b/\fl[a.toNat]?=some f/\(b.1=t\/b.2.1=t)/\0<res b f t/\nx=oth b t/\L[nx.toNat]?=some (d - 1)
 have key:=zA (F:=zb5 (n,bs,at_,fl0) x23 (t,fl)) (fun s=>∃ nx a i,s=(nx,a,i,fl)/\0<=i/\i<=al.length/\(nx<0\/0<=nx/\Ok nx a)/\(∀ j:Nat,j<i.toNat->al[j]?=some (v:Int)->0<=nx))
  (fun s=>(al.length - s.2.2.1).toNat) (fun z=>∃ nx a,z=(nx,a,fl)/\Ok nx a) ?_ ((-1),0,0,fl) ⟨-1,0,0,rfl,by omega,by omega,.inl (by omega),fun j U=>by simp at U⟩
 ·obtain ⟨z,hz,nx,a,rfl,h0,b,f,h1,h2,h3,h4,h5,h6⟩:=key
  exact ⟨nx,a,b,f,hz,h0,h1,h2,h3,h4,h5,h6⟩
 ·rintro s ⟨nx,a,i,rfl,Q,a6,V,A⟩
  unfold zb5
  simp only [zfM ht0 w,gp]
  by_cases p:i<al.length
  ·left
   rw [if_pos (by simp [p])]
   obtain ⟨k,hk,P⟩:=zS Q p
   obtain ⟨H,b,G,a0⟩:=(q k).1 (fc P)
   obtain ⟨f,S,b2,c3,c2,c1⟩:=h.bond H G
   have g:=h.ends G t
   obtain ⟨e,a3,u⟩:=zS (l:=L) g.1 (by rw [hD.len];omega)
   simp only [hk,gp,zuM h H G S]
   have c:w64 (i+1)=i+1:=zw (by omega) (by omega)
   have r:(k=v->¬(0<res b f t/\e=d - 1)  \/ 0<=nx)->∃ s',z6 (n,bs,at_,fl0) (t,fl) (nx,a,i,fl) al k (res b f t,oth b t,(n,bs,at_,fl)) false=some (.inl s')/\
     (∃ nx a i,s'=(nx,a,i,fl)/\0<=i/\i<=al.length/\(nx<0\/0<=nx/\Ok nx a)/\(∀ j:Nat,j<i.toNat->al[j]?=some (v:Int)->0<=nx))/\(al.length - s'.2.2.1).toNat<(al.length - i).toNat:=by
    intro a2
    refine ⟨_,by unfold z6 zb7;rfl,⟨nx,a,i+1,by rw [c],by omega,by omega,V,?_⟩,by simp only [c];omega⟩
    intro j U D
    by_cases R:j<i.toNat
    ·exact A j R D
    ·obtain rfl:=ztz Q U R
     rw [P] at D
     have C:=Option.some.inj D
     refine (a2 C).resolve_left (fun hn=>hn ?_)
     subst C
     simp only [ba] at G S
     rw [J] at G
     obtain rfl:=Option.some.inj G
     have:fl[v]?=fl0[v]?:=hsame v _ J E M
     rw [this,Y] at S
     obtain rfl:=Option.some.inj S
     rw [M] at u
     exact ⟨O,(Option.some.inj u).symm⟩
   by_cases m:res b f t>0
   ·rw [if_pos (by simp [m])]
    simp only [a3,zfM ht0 hd,hx,gp]
    rw [zw (by omega) (by omega)]
    by_cases x:e=d - 1
    ·rw [if_pos (by simp [x])]
     have take:∃ s',z6 (n,bs,at_,fl0) (t,fl) (nx,a,i,fl) al k (res b f t,oth b t,(n,bs,at_,fl)) true=some (.inl s')/\
       (∃ nx a i,s'=(nx,a,i,fl)/\0<=i/\i<=al.length/\(nx<0\/0<=nx/\Ok nx a)/\(∀ j:Nat,j<i.toNat->al[j]?=some (v:Int)->0<=nx))/\(al.length - s'.2.2.1).toNat<(al.length - i).toNat:=by
      refine ⟨(oth b t,k,i+1,fl),?_,⟨oth b t,k,i+1,rfl,by omega,by omega,.inr ⟨g.1,H,b,f,G,S,a0,m,rfl,by rw [u,x]⟩,fun _ _ _=>g.1⟩,by simp only [];omega⟩
      unfold z6 zb7
      simp only [if_true,zfM ht0 w,gp,hk,c]
     by_cases T:nx<0
     ·rw [if_pos (by simp [T])];exact take
     ·rw [if_neg (by simp [T])]
      by_cases B:oth b t<nx
      ·simp only [B,decide_true];exact take
      ·simp only [B,decide_false];exact r fun _=>.inr (by omega)
    ·rw [if_neg (by simp [x])]
     exact r fun _=>.inl fun N=>x N.2
   ·rw [if_neg (by simp [m])]
    exact r fun _=>.inl fun N=>m N.1
  ·right
   rw [if_neg (by simp [p])]
   refine ⟨_,rfl,nx,a,rfl,?_⟩
   have Z:(v:Int)∈al:=(q v).2 ⟨Int.natCast_nonneg v,bw,by simpa using J,E⟩
   obtain ⟨j,U,a1⟩:=List.mem_iff_getElem.1 Z
   have:=A j (by omega) (by rw [cm U,a1])
   rcases V with N | N
   ·omega
   ·exact N.2
theorem zvE (h:Net n bs at_ fl) {L:List Int} {x23:(List Int)×(Int×(List Bd)×(List (List Int))×(List Int))} (hx:x23.1=L) (hD:Dist n bs fl y L) (hx0:0<=x) {d:Int} (hd:L[x.toNat]?=some d) (hd0:0<=d) :
  ∃ a,iter (zb6 (n,bs,at_,fl) y x23) (x,fl)=some a/\Net n bs at_ a/\∀ S,zcS S bs a=zcS S bs fl+(ind (S x) - ind (S y)):=by
 have key:=zA (F:=zb6 (n,bs,at_,fl) y x23) (fun s=>∃ t g e,s=(t,g)/\0<=t/\L[t.toNat]?=some e/\0<=e/\Net n bs at_ g/\(∀ S,zcS S bs g=zcS S bs fl+(ind (S x) - ind (S t)))/\
   ∀ (k:Nat) (b:Bd) (I H:Int),bs[k]?=some b->L[b.1.toNat]?=some I->L[b.2.1.toNat]?=some H->I<=e->H<=e->g[k]?=fl[k]?)
  (fun s=>((L[s.1.toNat]?).getD 0).toNat) (fun z=>∃ a,z=a/\Net n bs at_ a/\∀ S,zcS S bs a=zcS S bs fl+(ind (S x) - ind (S y))) ?_
  (x,fl) ⟨x,fl,d,rfl,hx0,hd,hd0,h,fun S=>by omega,fun _ _ _ _ _ _ _ _ _=>rfl⟩
 ·obtain ⟨z,Y,a,ez,v,r⟩:=key
  subst ez
  exact ⟨_,Y,v,r⟩
 ·rintro s ⟨t,g,e,rfl,E,p,J,R,C,i⟩
  unfold zb6
  by_cases l:t=y
  ·right
   subst l
   rw [if_neg (by simp)]
   exact ⟨_,rfl,g,rfl,R,C⟩
  ·left
   rw [if_pos (by simp [l])]
   have P:((t.toNat:Nat):Int)=t:=bb E
   have Q:0<e:=by
    obtain ⟨k,b,f,_,_,_,_,_,h6⟩:=hD.parent t.toNat e p J (by rw [P];exact l)
    omega
   have u:∀ (k:Nat) (b:Bd),bs[k]?=some b->(b.1=t\/b.2.1=t)->L[(oth b t).toNat]?=some (e - 1)->g[k]?=fl[k]?:=by
    intro k b m j G
    rcases j with rfl | rfl
    ·have O:oth b b.1=b.2.1:=by unfold oth;rw [if_pos rfl]
     rw [O] at G
     exact i k b e (e - 1) m p G (by omega) (by omega)
    ·have Z:=h.wb _ _ m
     have O:oth b b.2.1=b.1:=by unfold oth;rw [if_neg Z.2.2.2.2.1]
     rw [O] at G
     exact i k b (e - 1) e m G p (by omega) (by omega)
   obtain ⟨nx,w,b,f,A,N,m,hf,j,hr,B,D⟩:=zup (fl0:=fl) (y:=y) R hx hD E p Q u l
   ·obtain ⟨f',hp,M,hS⟩:=zxy R N m hf j hr
    have q:=h.ends m t
    refine ⟨(nx,g.set w.toNat f'),?_,⟨nx,_,e - 1,rfl,by rw [B];exact q.1,D,by omega,M,?_,?_⟩,?_⟩
    ·rw [A]
     simp only [gp,zgh,hp]
    ·intro S
     rw [hS,C,B];omega
    ·intro k c I H T v r X V
     by_cases U:w.toNat=k
     ·subst U
      rw [m] at T
      obtain rfl:=Option.some.inj T
      rcases j with rfl | rfl
      ·rw [p] at v;injection v;omega
      ·rw [p] at r;injection r;omega
     ·rw [zN U]
      exact i k c I H T v r (by omega) (by omega)
    ·simp only [D,p,gq];omega
theorem zvF (h:Net n bs at_ fl) (hx0:0<=x) (hx:x<n) (hy0:0<=y) (hy:y<n) :
  (zdR (n,bs,at_,fl) x y=some (false,n,bs,at_,fl)/\∃ S:Int->Bool,S x=true/\S y=false/\zcS S bs fl=zfn S bs) \/
  ∃ c,zdR (n,bs,at_,fl) x y=some (true,n,bs,at_,c)/\Net n bs at_ c/\∀ S,zcS S bs c=zcS S bs fl+(ind (S x) - ind (S y)):=by
 obtain ⟨L,hs,q⟩:=zqS h hy0 hy
 obtain ⟨d,hd,B⟩:=zS (l:=L) hx0 (by rw [q.len];omega)
 unfold zdR
 simp only [hs,gp,hd]
 by_cases g:d<0
 ·left
  rw [if_pos (by simp [g])]
  refine ⟨rfl,fun v=>decide (∃ e,L[v.toNat]?=some e/\e<0),?_,?_,?_⟩
  ·simp only [decide_eq_true_eq];exact ⟨d,B,g⟩
  ·simp only [decide_eq_false_iff_not]
   rintro ⟨e,m,t⟩
   rw [q.goal] at m;injection m;omega
  ·refine zqa h.flen fun k b f C D=>?_
   have r:=h.wb _ _ C
   have G:=h.fok _ _ _ C D
   have hlen:=q.len
   obtain ⟨A,_,j⟩:=zS (l:=L) r.1 (by omega)
   obtain ⟨u,_,i⟩:=zS (l:=L) r.2.2.1 (by omega)
   simp only [decide_eq_true_eq,decide_eq_false_iff_not]
   have E:oth b b.1=b.2.1:=by unfold oth;rw [if_pos rfl]
   have F:oth b b.2.1=b.1:=by unfold oth;rw [if_neg r.2.2.2.2.1]
   refine ⟨?_,?_⟩
   ·rintro ⟨e,m,t⟩ p
    rw [j] at m;obtain rfl:=Option.some.inj m
    have z:0<=u:=by
     rcases Int.lt_or_le u 0 with h1 | h1
     ·exact absurd ⟨u,i,h1⟩ p
     ·exact h1
    have a:((b.2.1.toNat:Nat):Int)=b.2.1:=bb r.2.2.1
    have:=q.closed k b f b.2.1.toNat u A C D (.inr a.symm) i z
    rw [a,F] at this
    rcases Int.lt_or_le 0 (res b f b.1) with hr | hr
    ·have:=this hr j;omega
    ·unfold res at hr;rw [if_pos rfl] at hr;omega
   ·rintro p ⟨e,m,t⟩
    rw [i] at m;obtain rfl:=Option.some.inj m
    have s:0<=A:=by
     rcases Int.lt_or_le A 0 with h1 | h1
     ·exact absurd ⟨A,j,h1⟩ p
     ·exact h1
    have a:((b.1.toNat:Nat):Int)=b.1:=bb r.1
    have:=q.closed k b f b.1.toNat A u C D (.inl a.symm) j s
    rw [a,E] at this
    rcases Int.lt_or_le 0 (res b f b.2.1) with hr | hr
    ·have:=this hr i;omega
    ·unfold res at hr;rw [if_neg r.2.2.2.2.1] at hr;omega
 ·right
  rw [if_neg (by simp [g])]
  obtain ⟨c,w,H,hS⟩:=zvE (x23:=(L,n,bs,at_,fl)) h rfl q hx0 B (by omega)
  refine ⟨c,?_,H,hS⟩
  rw [w]
  rfl
def zkK (bs:List Bd) (x y:Int) (v:Int):Prop:=
 (∀ S:Int->Bool,S x=true->S y=false->v<=zfn S bs)/\∃ S:Int->Bool,S x=true/\S y=false/\v=zfn S bs
theorem zvK (h:Net n bs at_ fl) (hx0:0<=x) (hx:x<n) (hy0:0<=y) (hy:y<n) (hxy:x≠y) (h0:∀ S,zcS S bs fl=0) :
  ∃ v a,iter (zeB x y (n,bs,at_,fl)) (0,fl)=some (v,a)/\Net n bs at_ a/\0<=v/\v<=100000000/\zkK bs x y v:=by
 let S0:Int->Bool:=fun v=>decide (v=x)
 have d:S0 x=true:=by simp [S0]
 have f:S0 y=false:=by simp [S0];omega
 have w:zfn S0 bs<=100000000:=by
  have:=zuy (S:=S0) (bs:=bs) (fun b D=>by
   obtain ⟨k,E,t⟩:=List.mem_iff_getElem.1 D
   have:=h.wb k b (by rw [cm E,t])
   omega)
  have:=h.bn;omega
 have key:=zA (F:=zeB x y (n,bs,at_,fl)) (fun s=>∃ v c,s=(v,c)/\0<=v/\Net n bs at_ c/\∀ S:Int->Bool,S x=true->S y=false->zcS S bs c=v)
  (fun s=>(zfn S0 bs - s.1).toNat) (fun z=>∃ v a,z=(v,a)/\Net n bs at_ a/\0<=v/\v<=100000000/\zkK bs x y v) ?_
  (0,fl) ⟨0,fl,rfl,by omega,h,fun S _ _=>h0 S⟩
 ·obtain ⟨z,H,v,a,rfl,j,i,I,G⟩:=key
  exact ⟨v,a,H,j,i,I,G⟩
 ·rintro s ⟨v,c,rfl,u,q,g⟩
  have m:∀ S:Int->Bool,S x=true->S y=false->v<=zfn S bs:=fun S j i=>by rw [←g S j i];exact znm q.flen q.fok
  have C:=m S0 d f
  unfold zeB
  rcases zvF q hx0 hx hy0 hy with ⟨r,S,l,p,hS⟩ | ⟨a,r,hN',hS⟩
  ·right
   rw [r]
   refine ⟨_,rfl,v,c,rfl,q,u,by omega,m,S,l,p,?_⟩
   rw [←hS,g S l p]
  ·left
   rw [r]
   have e:∀ S:Int->Bool,S x=true->S y=false->zcS S bs a=v+1:=fun S j i=>by
    rw [hS,g S j i,j,i];simp [ind]
   have B:v+1<=zfn S0 bs:=by rw [←e S0 d f];exact znm hN'.flen hN'.fok
   have A:w64 (v+1)=v+1:=zw (by omega) (by omega)
   refine ⟨_,rfl,⟨v+1,a,by rw [A],by omega,hN',e⟩,?_⟩
   simp only [A];omega
end
def ztK:List (List Int)->List (Int×Int×Int)->Int->Option (List (List Int))
 | t,[],_=>some t
 | t,b::bs,i=>(idx t b.1).bind fun x=>(app 8 x [i]).bind fun y=>(idx (t.set b.1.toNat y) b.2.1).bind fun z=>(app 8 z [i]).bind fun w=>ztK ((t.set b.1.toNat y).set b.2.1.toNat w) bs (i+1)
theorem zty (all:List (Int×Int×Int)) (hlen:all.length<=100000):∀ (rest:List (Int×Int×Int)) (i:Nat) (t t':List (List Int)),all.drop i=rest->ztK t rest i=some t'->iter (zcC all) ((i:Int),t)=some t'
 | [],i,t,t',hd,h=>by
  have hi:all.length<=i:=by
   have:=congrArg List.length hd
   simp at this;omega
  have:t'=t:=by injection h with h;exact h.symm
  subst this
  refine zF ?_
  unfold zcC
  rw [if_neg (by simp;omega)]
 | b::rest,i,t,t',hd,h=>by
  have hi:i<all.length:=by
   have:=congrArg List.length hd
   simp at this;omega
  have g:idx all (i:Int)=some b:=by
   unfold idx
   rw [if_pos (by omega)]
   have:all[i]?=some b:=by
    have d:(all.drop i)[0]?=some b:=by rw [hd];rfl
    rw [cj] at d
    simpa using d
   simpa using this
  unfold ztK at h
  obtain ⟨x,j,h⟩:=gm.1 h
  obtain ⟨y,f,h⟩:=gm.1 h
  obtain ⟨z,k,h⟩:=gm.1 h
  obtain ⟨w,e,h⟩:=gm.1 h
  have c:w64 ((i:Int)+1)=((i+1:Nat):Int):=by rw [zw (by omega) (by omega)];omega
  have a:zcC all ((i:Int),t)=some (.inl (((i+1:Nat):Int),(t.set b.1.toNat y).set b.2.1.toNat w)):=by
   unfold zcC
   rw [if_pos (by simp;omega)]
   simp only [g,gp,j,f,k,e,c]
  rw [zx a]
  refine zty all hlen rest (i+1) _ t' ?_ (by simpa using h)
  have:=congrArg (List.drop 1) hd
  rw [List.drop_drop] at this
  simpa [Nat.add_comm] using this
def WBs (n:Int) (bs:List Bd):Prop:=∀ (k:Nat) (b:Bd),bs[k]?=some b->0<=b.1/\b.1<n/\0<=b.2.1/\b.2.1<n/\b.1≠b.2.1/\0<=b.2.2/\b.2.2<=1000
theorem zrl {n:Int} (hn:0<=n) (all:List Bd) (hw:WBs n all) (hlen:all.length<=100000):∀ (rest:List Bd) (i:Nat) (t:List (List Int)),all.drop i=rest->i+rest.length=all.length->t.length=n.toNat->
  (∀ (v:Nat) (l:List Int),t[v]?=some l->l.length<=i/\∀ k:Int,k∈l↔(0<=k/\k<i/\∃ b:Bd,all[k.toNat]?=some b/\(b.1=v\/b.2.1=v)))->
  ∃ t',ztK t rest i=some t'/\t'.length=n.toNat/\∀ (v:Nat) (l:List Int),t'[v]?=some l->l.length<=100000/\∀ k:Int,k∈l↔(0<=k/\∃ b:Bd,all[k.toNat]?=some b/\(b.1=v\/b.2.1=v))
 | [],i,t,hd,hl,ht,hm=>by
  refine ⟨t,rfl,ht,fun v l d=>?_⟩
  obtain ⟨B,s⟩:=hm v l d
  refine ⟨by omega,fun k=>(s k).trans ?_⟩
  constructor
  ·rintro ⟨y,_,h⟩;exact ⟨y,h⟩
  ·rintro ⟨y,b,e,h⟩
   have:=zz e
   simp at hl
   exact ⟨y,by omega,b,e,h⟩
 | b::rest,i,t,hd,hl,ht,hm=>by
  have e:all[i]?=some b:=by
   have:=congrArg (fun l=>l[0]?) hd
   simpa using this
  have g:=hw _ _ e
  have hi:=zz e
  obtain ⟨x,G,m⟩:=zS (l:=t) g.1 (by omega)
  obtain ⟨E,r⟩:=hm _ _ m
  have w:b.1.toNat≠b.2.1.toNat:=by omega
  obtain ⟨z,I,j⟩:=zS (l:=t) g.2.2.1 (by omega)
  obtain ⟨F,p⟩:=hm _ _ j
  have D:idx (t.set b.1.toNat (x++[(i:Int)])) b.2.1=some z:=zfM g.2.2.1 (by rw [zN w];exact j)
  unfold ztK
  rw [G]
  simp only [gp]
  rw [zac (by simp;omega) (by simp;omega)]
  simp only [gp,D]
  rw [zac (by simp;omega) (by simp;omega)]
  simp only [gp]
  refine zrl hn all hw hlen rest (i+1) _ ?_ (by simp at hl;omega) (by simp [ht]) ?_
  ·rw [←List.drop_drop,hd];rfl
  ·intro v l d
   by_cases s:b.2.1.toNat=v
   ·subst s
    rw [zW (by rw [dz];exact zz j)] at d
    obtain rfl:=Option.some.inj d
    refine ⟨by simp;omega,fun k=>?_⟩
    rw [ek]
    constructor
    ·rintro (h | h)
     ·obtain ⟨f,q,a⟩:=(p k).1 h;exact ⟨f,by omega,a⟩
     ·have:k=i:=by simpa using h
      subst this
      exact ⟨by omega,by omega,b,by simpa using e,.inr (by omega)⟩
    ·rintro ⟨f,q,a⟩
     by_cases A:k=i
     ·right;simp [A]
     ·left;exact (p k).2 ⟨f,by omega,a⟩
   ·rw [zN s] at d
    by_cases B:b.1.toNat=v
    ·subst B
     rw [zW (zz m)] at d
     obtain rfl:=Option.some.inj d
     refine ⟨by simp;omega,fun k=>?_⟩
     rw [ek]
     constructor
     ·rintro (h | h)
      ·obtain ⟨f,q,a⟩:=(r k).1 h;exact ⟨f,by omega,a⟩
      ·have:k=i:=by simpa using h
       subst this
       exact ⟨by omega,by omega,b,by simpa using e,.inl (by omega)⟩
     ·rintro ⟨f,q,a⟩
      by_cases A:k=i
      ·right;simp [A]
      ·left;exact (r k).2 ⟨f,by omega,a⟩
    ·rw [zN B] at d
     obtain ⟨f,q⟩:=hm v l d
     refine ⟨by omega,fun k=>(q k).trans ?_⟩
     constructor
     ·rintro ⟨a,H,C⟩;exact ⟨a,by omega,C⟩
     ·rintro ⟨a,H,c,u,C⟩
      refine ⟨a,?_,c,u,C⟩
      rcases Int.lt_or_le k i with h8 | h8
      ·exact h8
      ·have:k=i:=by omega
       subst this
       simp at u
       rw [e] at u
       obtain rfl:=Option.some.inj u
       omega
section
variable {n:Int} {bs:List Bd} {x y:Int}
theorem zwC (hn0:0<=n) (hn1:n<=100000) (d:bs.length<=100000) (hw:WBs n bs):∃ at_ fl,zkT n bs=some (n,bs,at_,fl)/\Net n bs at_ fl/\∀ S,zcS S bs fl=0:=by
 obtain ⟨t',j,i,g⟩:=zrl hn0 bs hw d bs 0 (List.replicate n.toNat []) (by simp) (by omega) (by simp) (by
  intro v l c
  rw [cz] at c
  split at c
  ·injection c with c;subst c
   refine ⟨by simp,fun k=>?_⟩
   constructor
   ·intro h;cases h
   ·rintro ⟨p,m,_⟩;omega
  ·cases c)
 refine ⟨t',List.replicate bs.length 0,?_,⟨hn0,hn1,d,hw,i,g,by simp,?_⟩,fun S=>zsa⟩
 ·unfold zkT
  rw [zlq hn0 (by omega) (by omega),zlq (by omega) (by omega) (by omega)]
  simp only [gp,ba]
  have e:iter (zcC bs) (0,List.replicate n.toNat [])=some t':=zty bs d bs 0 _ t' (by simp) j
  rw [e]
  rfl
 ·intro k b f d a
  rw [cz] at a
  have:=hw _ _ d
  split at a
  ·injection a with a;subst a;omega
  ·cases a
theorem zvJ (hn1:n<=100000) (hb:bs.length<=100000) (hw:WBs n bs) (hx0:0<=x) (hx:x<n) (hy0:0<=y) (hy:y<n) (hxy:x≠y) :
  ∃ v at_ fl,zjL n bs x y=some ((n,bs,at_,fl),v)/\Net n bs at_ fl/\0<=v/\v<=100000000/\zkK bs x y v:=by
 obtain ⟨at_,fl,b,i,g⟩:=zwC (by omega) hn1 hb hw
 obtain ⟨v,d,a,c,f,e,h⟩:=zvK i hx0 hx hy0 hy hxy g
 refine ⟨v,at_,d,?_,c,f,e,h⟩
 unfold zjL zjk
 rw [b]
 simp only [gp]
 rw [a]
 rfl
theorem zve {at_:List (List Int)} {fl:List Int} (h:Net n bs at_ fl) (hy0:0<=y) (hy:y<n):∃ p,zfV (n,bs,at_,fl) y=some (p,n,bs,at_,fl)/\p.length<=100000:=by
 obtain ⟨L,hs,g⟩:=zqS h hy0 hy
 have f:=h.n1
 have hlen:=g.len
 have key:=zA (F:=zdI (n,bs,at_,fl) (L,n,bs,at_,fl)) (fun s=>0<=s.2/\s.2<=n/\s.1.length<=s.2.toNat) (fun s=>(n - s.2).toNat) (fun p=>p.length<=100000) ?_ ([],0) ⟨by omega,by omega,by simp⟩
 ·obtain ⟨p,hp,e⟩:=key
  refine ⟨p,?_,e⟩
  unfold zfV zgg
  rw [hs]
  simp only [gp,hp]
 ·rintro ⟨p,i⟩ ⟨hi0,hi1,e⟩
  simp only at hi0 hi1 e
  unfold zdI zdJ
  by_cases b:i<n
  ·left
   rw [if_pos (by simp [b])]
   obtain ⟨d,hd,_⟩:=zS (l:=L) hi0 (by omega)
   simp only [hd,gp]
   have a:w64 (i+1)=i+1:=zw (by omega) (by omega)
   by_cases c:d≥0
   ·rw [if_pos (by simp [c]),zac (by simp;omega) (by simp;omega)]
    refine ⟨_,rfl,⟨by simp only [a];omega,by simp only [a];omega,?_⟩,by simp only [a];omega⟩
    simp only [a,dl,dm,dx];omega
   ·rw [if_neg (by simp [c])]
    exact ⟨_,rfl,⟨by simp only [a];omega,by simp only [a];omega,by simp only [a];omega⟩,by simp only [a];omega⟩
  ·right
   rw [if_neg (by simp [b])]
   exact ⟨_,rfl,by simp only [];omega⟩
theorem zt1 (v w:Int) (p q:List Int) (hp:p.length<=100000):∃ b,zhy v p w q=some b/\(v<w->b=true)/\(w<v->b=false):=by
 unfold zhy
 by_cases f:v=w
 ·rw [if_neg (by simp [f])]
  by_cases j:p.length=q.length
  ·rw [if_neg (by simp [j])]
   have key:=zA (F:=zfb p q) (fun i=>0<=i/\i<=p.length) (fun i=>(p.length - i).toNat) (fun _=>True) ?_ 0 ⟨by omega,by omega⟩
   ·obtain ⟨z,m,_⟩:=key
    rw [m]
    cases z with
    | inl z=>exact ⟨false,rfl,by omega,by omega⟩
    | inr z=>exact ⟨z,rfl,by omega,by omega⟩
   ·rintro i ⟨e,g⟩
    unfold zfb
    by_cases c:i<p.length
    ·rw [if_pos (by simp [c])]
     obtain ⟨a,h,_⟩:=zS (l:=p) e c
     obtain ⟨b,k,_⟩:=zS (l:=q) e (by omega)
     simp only [h,k,gp]
     by_cases d:a=b
     ·left
      rw [if_neg (by simp [d]),zw (by omega) (by omega)]
      exact ⟨_,rfl,⟨by omega,by omega⟩,by omega⟩
     ·right
      rw [if_pos (by simp [d])]
      exact ⟨_,rfl,trivial⟩
    ·right
     rw [if_neg (by simp [c])]
     exact ⟨_,rfl,trivial⟩
  ·rw [if_pos (by simp;omega)]
   exact ⟨_,rfl,by omega,by omega⟩
 ·rw [if_pos (by simp [f])]
  exact ⟨_,rfl,by simp,by simp;omega⟩
def Holds (n:Int) (bs:List Bd) (t:Int):Prop:=∀ S:Int->Bool,S 0=true->(∃ y,1<=y/\y<n/\S y=false)->t<=zfn S bs
theorem zsq (hn2:2<=n) (hn1:n<=100000) (hb:bs.length<=100000) (hw:WBs n bs):∃ v p,zgJ n bs=some (v,p)/\∀ t,t<=v↔Holds n bs t:=by
 have key:=zA (F:=zei n bs)
  (fun s=>1<=s.2.2/\s.2.2<=n/\s.2.1.length<=100000/\(s.2.2=1/\s.1 = -1\/1<s.2.2/\0<=s.1/\(∃ y,1<=y/\y<s.2.2/\zkK bs 0 y s.1)/\∀ y,1<=y->y<s.2.2->∃ v,zkK bs 0 y v/\s.1<=v))
  (fun s=>(n - s.2.2).toNat) (fun z=>(∃ y,1<=y/\y<n/\zkK bs 0 y z.1)/\∀ y,1<=y->y<n->∃ v,zkK bs 0 y v/\z.1<=v) ?_ ((-1),[],1) ⟨by show (1:Int)<=1;omega,by show (1:Int)<=n;omega,by simp,.inl ⟨rfl,rfl⟩⟩
 ·obtain ⟨⟨v,p⟩,N,⟨y,f,k,hm⟩,w⟩:=key
  refine ⟨v,p,?_,fun t=>⟨fun ht S hS0 ⟨z,c,d,hSz⟩=>?_,fun P=>?_⟩⟩
  ·unfold zgJ zg2;rw [N];rfl
  ·obtain ⟨u,H,g⟩:=w z c d
   have:=H.1 S hS0 hSz
   simp only at g
   omega
  ·obtain ⟨S,l,j,B⟩:=hm.2
   have:=P S l ⟨y,f,k,j⟩
   simp only at B
   omega
 ·rintro ⟨a,part,y⟩ ⟨f,k,hpl,hor⟩
  simp only at f k hpl hor
  unfold zei
  by_cases e:y<n
  ·left
   rw [if_pos (by simp [e])]
   obtain ⟨v,at_,fl,O,Q,E,M,hm⟩:=zvJ (x:=0) (y:=y) hn1 hb hw (by omega) (by omega) (by omega) e (by omega)
   obtain ⟨p,hp,i⟩:=zve (y:=y) Q (by omega) e
   simp only [O,hp,gp]
   have r:w64 (y+1)=y+1:=zw (by omega) (by omega)
   have take:(s1:a<0\/v<=a)->∃ s',zaC (a,part,y) ((n,bs,at_,fl),v) (p,n,bs,at_,fl) true=some (.inl s')/\
     (1<=s'.2.2/\s'.2.2<=n/\s'.2.1.length<=100000/\(s'.2.2=1/\s'.1 = -1\/1<s'.2.2/\0<=s'.1/\(∃ y,1<=y/\y<s'.2.2/\zkK bs 0 y s'.1)/\∀ y,1<=y->y<s'.2.2->∃ v,zkK bs 0 y v/\s'.1<=v))/\(n - s'.2.2).toNat<(n - y).toNat:=by
    intro g
    refine ⟨(v,p,y+1),by unfold zaC zcB;simp [r],⟨by simp only [];omega,by simp only [];omega,i,.inr ⟨by simp only [];omega,E,⟨y,f,by simp only [];omega,hm⟩,?_⟩⟩,by simp only [];omega⟩
    intro z c d
    simp only at d
    by_cases m:z=y
    ·subst m;exact ⟨v,hm,by simp only [];omega⟩
    ·rcases hor with ⟨l,j⟩ | ⟨l,j,B,h4⟩
     ·omega
     ·obtain ⟨u,H,L⟩:=h4 z c (by omega)
      exact ⟨u,H,by simp only [];omega⟩
   have A:0<=a->a<=v->∃ s',zaC (a,part,y) ((n,bs,at_,fl),v) (p,n,bs,at_,fl) false=some (.inl s')/\
     (1<=s'.2.2/\s'.2.2<=n/\s'.2.1.length<=100000/\(s'.2.2=1/\s'.1 = -1\/1<s'.2.2/\0<=s'.1/\(∃ y,1<=y/\y<s'.2.2/\zkK bs 0 y s'.1)/\∀ y,1<=y->y<s'.2.2->∃ v,zkK bs 0 y v/\s'.1<=v))/\(n - s'.2.2).toNat<(n - y).toNat:=by
    intro D g
    rcases hor with ⟨l,j⟩ | ⟨l,j,⟨y',h5,h6,h7⟩,h4⟩
    ·omega
    ·refine ⟨(a,part,y+1),by unfold zaC zcB;simp [r],⟨by simp only [];omega,by simp only [];omega,hpl,.inr ⟨by simp only [];omega,D,⟨y',h5,by simp only [];omega,h7⟩,?_⟩⟩,by simp only [];omega⟩
     intro z c d
     simp only at d
     by_cases m:z=y
     ·subst m;exact ⟨v,hm,g⟩
     ·exact h4 z c (by omega)
   by_cases q:a<0
   ·rw [if_pos (by simp [q])]
    exact take (.inl q)
   ·rw [if_neg (by simp [q])]
    obtain ⟨b,G,J,I⟩:=zt1 v a p part i
    simp only [G,gp]
    cases b with
    | true=>exact take (.inr (by
      rcases Int.lt_or_le a v with h | h
      ·have:=I h;cases this
      ·exact h))
    | false=>exact A (by omega) (by
      rcases Int.lt_or_le v a with h | h
      ·have:=J h;cases this
      ·exact h)
  ·right
   rw [if_neg (by simp [e])]
   refine ⟨_,rfl,?_⟩
   have C:y=n:=by omega
   subst C
   rcases hor with ⟨l,j⟩ | ⟨l,j,B,h4⟩
   ·omega
   ·exact ⟨B,h4⟩
end
def zcy:Nat->(Nat->Int)->Int
 | 0,_=>0
 | n+1,f=>zcy n f+f n
theorem zcx {f g:Nat->Int}:∀ {n:Nat},(∀ i,i<n->f i=g i)->zcy n f=zcy n g
 | 0,_=>rfl
 | n+1,h=>by
  unfold zcy
  rw [zcx (n:=n) fun i hi=>h i (by omega),h n (by omega)]
theorem zoA (f g:Nat->Int):∀ (n:Nat),zcy n (fun i=>f i+g i)=zcy n f+zcy n g
 | 0=>rfl
 | n+1=>by
  unfold zcy
  rw [zoA f g n]
  simp only [Int.add_assoc,Int.add_left_comm,Int.add_comm]
theorem znt:∀ (n:Nat),zcy n (fun _=>0)=0
 | 0=>rfl
 | n+1=>by unfold zcy;rw [znt n];rfl
theorem zqQ (f:Nat->Int):∀ (n:Nat),zcy n (fun i => - f i) = - zcy n f
 | 0=>rfl
 | n+1=>by unfold zcy;rw [zqQ f n];show - zcy n f + - f n = - (zcy n f+f n);omega
theorem zsy {f g:Nat->Int}:∀ {n:Nat},(∀ i,i<n->f i<=g i)->zcy n f<=zcy n g
 | 0,_=>Int.le_refl _
 | n+1,h=>by
  unfold zcy
  have a:=zsy (n:=n) fun i hi=>h i (by omega)
  have b:=h n (by omega)
  omega
theorem zrW (f:Nat->Nat->Int) (m:Nat):∀ (n:Nat),zcy n (fun i=>zcy m (fun j=>f i j))=zcy m (fun j=>zcy n (fun i=>f i j))
 | 0=>by
  show (0:Int)=zcy m (fun _=>0)
  rw [znt]
 | n+1=>by
  show zcy n (fun i=>zcy m (fun j=>f i j))+zcy m (fun j=>f n j)=zcy m (fun j=>zcy n (fun i=>f i j)+f n j)
  rw [zrW f m n,zoA]
theorem zqP {f g:Nat->Int} {a:Nat} {d:Int}:∀ {n:Nat},a<n->(∀ i,i<n->i≠a->g i=f i)->g a=f a+d->zcy n g=zcy n f+d
 | 0,h,_,_=>by omega
 | n+1,h,he,ha=>by
  unfold zcy
  by_cases b:a=n
  ·subst b
   rw [zcx (f:=g) (g:=f) fun i hi=>he i (by omega) (by omega),ha]
   omega
  ·rw [zqP (n:=n) (by omega) (fun i hi=>he i (by omega)) ha,he n (by omega) (by omega)]
   omega
def mid (n:Nat) (S:Int->Bool) (F:Nat->Nat->Int):Int:=zcy n fun u=>zcy n fun v=>ind (S u)*F u v
def zlr (n:Nat) (S:Int->Bool) (R:Nat->Nat->Int):Int:=zcy n fun u=>zcy n fun v=>ind (S u)*(1 - ind (S v))*R u v
theorem zr7 {n:Nat} {S:Int->Bool} {F:Nat->Nat->Int} (ha:∀ u v,u<n->v<n->F u v = - F v u):mid n S F=zlr n S F:=by
 obtain ⟨T,a⟩:∃ T,T=zcy n fun u=>zcy n fun v=>ind (S u)*ind (S v)*F u v:=⟨_,rfl⟩
 have e:mid n S F=zlr n S F+T:=by
  unfold mid zlr
  rw [a,←zoA]
  refine zcx fun u c=>?_
  rw [←zoA]
  refine zcx fun v b=>?_
  rw [Int.mul_sub,Int.sub_mul,Int.mul_one]
  omega
 have d:T = - T:=by
  calc T=zcy n fun v=>zcy n fun u=>ind (S u)*ind (S v)*F u v:=by rw [a,zrW]
   _=zcy n fun v => - zcy n fun u=>ind (S v)*ind (S u)*F v u:=by
     refine zcx fun v b=>?_
     rw [←zqQ]
     refine zcx fun u c=>?_
     rw [ha u v c b,Int.mul_neg,Int.mul_comm (ind (S u))]
   _ = - T:=by rw [zqQ,←a]
 omega
theorem zxL {n:Nat} {S:Int->Bool} {F R:Nat->Nat->Int} (h:∀ u v,u<n->v<n->F u v<=R u v):zlr n S F<=zlr n S R:=by
 refine zsy fun u b=>zsy fun v a=>?_
 have:=h u v b a
 unfold ind
 split<;>split<;>omega
theorem zxM {n:Nat} {S:Int->Bool} {F R:Nat->Nat->Int} (h:∀ u v:Nat,u<n->v<n->S u=true->S v=false->F u v=R u v):zlr n S F=zlr n S R:=by
 refine zcx fun u b=>zcx fun v a=>?_
 have:=h u v b a
 unfold ind
 cases hS:S u<;>cases hV:S v<;>simp [hS,hV] at this ⊢
 exact this
theorem zpe {n:Nat} {c:Nat->Nat->Int} {F G:Nat->Nat->Int} {a b:Nat} {d:Int} (ha:a<n) (hb:b<n) (he:∀ u v,u<n->v<n->(u≠a\/v≠b)->G u v=F u v) (h:G a b=F a b+d) :
  (zcy n fun u=>zcy n fun v=>c u v*G u v)=(zcy n fun u=>zcy n fun v=>c u v*F u v)+c a b*d:=by
 refine zqP ha (fun u g e=>zcx fun v f=>by rw [he u v g f (.inl e)]) ?_
 refine zqP hb (fun v f e=>by rw [he a v ha f (.inr e)]) ?_
 rw [h,Int.mul_add]
def ent (F:List (List Int)) (u v:Nat):Int:=((F[u]?.getD [])[v]?).getD 0
structure Sq (n:Nat) (F:List (List Int)):Prop where
 len:F.length=n
 row:∀ (u:Nat) (r:List Int),F[u]?=some r->r.length=n
section
variable {n:Nat} {F:List (List Int)}
theorem Sq.get (h:Sq n F) {u v:Nat} (hu:u<n) (hv:v<n):∃ r,F[u]?=some r/\r.length=n/\r[v]?=some (ent F u v):=by
 have b:u<F.length:=by rw [h.len];exact hu
 have a:F[u]?=some F[u]:=cm b
 have c:=h.row u _ a
 refine ⟨F[u],a,c,?_⟩
 unfold ent
 rw [a]
 simp only [gq]
 rw [cm (by omega)]
 rfl
theorem Sq.idx (h:Sq n F) {u v:Int} (hu0:0<=u) (hu:u<n) (hv0:0<=v) (hv:v<n):∃ r,idx F u=some r/\r.length=n/\F[u.toNat]?=some r/\Lf.idx r v=some (ent F u.toNat v.toNat):=by
 obtain ⟨r,a,b,c⟩:=h.get (u:=u.toNat) (v:=v.toNat) (by omega) (by omega)
 exact ⟨r,zfM hu0 a,b,a,zfM hv0 c⟩
theorem Sq.set (h:Sq n F) {u v:Nat} {r:List Int} {e:Int} (hr:F[u]?=some r) (hv:v<n):Sq n (F.set u (r.set v e))/\∀ i j,ent (F.set u (r.set v e)) i j=if i=u/\j=v then e else ent F i j:=by
 have d:=zz hr
 have c:=h.row u r hr
 refine ⟨⟨by rw [dz];exact h.len,fun i x a=>?_⟩,fun i j=>?_⟩
 ·by_cases hi:u=i
  ·subst hi
   rw [zW d] at a
   injection a with a
   rw [←a,dz];exact c
  ·rw [zN hi] at a
   exact h.row i x a
 ·unfold ent
  by_cases hi:u=i
  ·subst hi
   rw [zW d,hr]
   simp only [gq,true_and]
   by_cases b:v=j
   ·subst b
    rw [zW (by omega),if_pos rfl];rfl
   ·rw [zN b,if_neg (fun e=>b e.symm)]
  ·rw [zN hi,if_neg (fun e=>hi e.1.symm)]
end
theorem zqH {n:Int} (h0:0<=n) (h1:n<=100000):mkl 8 n (0:Int)=some (List.replicate n.toNat 0):=zlq h0 (by omega) (by omega)
theorem zxr (n:Nat):Sq n (List.replicate n (List.replicate n 0))/\∀ u v,ent (List.replicate n (List.replicate n 0)) u v=0:=by
 refine ⟨⟨by simp,fun u r b=>?_⟩,fun u v=>?_⟩
 ·have:=cz (a:=List.replicate n (0:Int)) (n:=n) (i:=u)
  rw [this] at b
  split at b
  ·injection b with b;rw [←b];simp
  ·cases b
 ·unfold ent
  rw [cz]
  split
  ·simp only [gq]
   rw [cz]
   split<;>rfl
  ·simp
section
variable {n:Int} {bs:List Bd}
theorem zq9 (h0:0<=n) (h1:n<=1000):iter (zdw n) (0,[],[])=some (List.replicate n.toNat (List.replicate n.toNat 0),List.replicate n.toNat (List.replicate n.toNat 0)):=by
 have key:=zA (F:=zdw n)
  (fun s=>0<=s.1/\s.1<=n/\s.2.1=List.replicate s.1.toNat (List.replicate n.toNat 0)/\s.2.2=List.replicate s.1.toNat (List.replicate n.toNat 0)) (fun s=>(n - s.1).toNat)
  (fun z=>z=(List.replicate n.toNat (List.replicate n.toNat 0),List.replicate n.toNat (List.replicate n.toNat 0))) ?_ (0,[],[]) ⟨by simp,h0,by simp,by simp⟩
 ·obtain ⟨z,e,rfl⟩:=key;exact e
 ·rintro ⟨i,A,B⟩ ⟨hi0,hi1,hA,hB⟩
  simp only at hi0 hi1 hA hB
  unfold zdw
  by_cases b:i<n
  ·left
   have c:∀ X,X=List.replicate i.toNat (List.replicate n.toNat (0:Int))->app 24 X [List.replicate n.toNat 0]=some (List.replicate (i+1).toNat (List.replicate n.toNat 0)):=by
    intro X d
    have hlen:X.length=i.toNat:=by rw [d];simp
    rw [zac (by rw [hlen];simp;omega) (by rw [hlen];simp;omega),d]
    have:(i+1).toNat=i.toNat+1:=by omega
    rw [this,List.replicate_succ']
   simp only [b,decide_true,if_true,zqH h0 (by omega),gp,c A hA,c B hB]
   have a:w64 (i+1)=i+1:=zw (by omega) (by omega)
   exact ⟨_,rfl,⟨by simp only [a];omega,by simp only [a];omega,by simp only [a],by simp only [a]⟩,by simp only [a];omega⟩
  ·right
   simp only [b,decide_false]
   have:i=n:=by omega
   subst this
   exact ⟨_,rfl,by rw [hA,hB]⟩
theorem zvx {m:Nat} {S:Int->Bool} {R R1 R2:Nat->Nat->Int} {a b:Nat} {d:Int} (ha:a<m) (hb:b<m) (hab:a≠b)
  (h1:∀ u v,R1 u v=if u=a/\v=b then R a b+d else R u v) (h2:∀ u v,R2 u v=if u=b/\v=a then R1 b a+d else R1 u v) :
  zlr m S R2=zlr m S R+(if S a=S b then 0 else d):=by
 unfold zlr
 rw [zpe (c:=fun u v=>ind (S u)*(1 - ind (S v))) (F:=R1) (G:=R2) hb ha (d:=d) (fun u v _ _ e=>by rw [h2,if_neg (by omega)]) (by rw [h2,if_pos ⟨rfl,rfl⟩]),
  zpe (c:=fun u v=>ind (S u)*(1 - ind (S v))) (F:=R) (G:=R1) ha hb (d:=d) (fun u v _ _ e=>by rw [h1,if_neg (by omega)]) (by rw [h1,if_pos ⟨rfl,rfl⟩])]
 unfold ind
 cases S a<;>cases S b<;>simp
theorem zql (h0:0<=n) (h1:n<=1000) (hb:bs.length<=100000) (hw:WBs n bs) (A:List (List Int)) (hA:Sq n.toNat A) (hA0:∀ u v,ent A u v=0) :
  ∃ R,iter (zdv bs) (0,A)=some R/\Sq n.toNat R/\(∀ u v,0<=ent R u v/\ent R u v<=2000*bs.length)/\∀ S,zlr n.toNat S (ent R)=zfn S bs:=by
 have key:=zA (F:=zdv bs)
  (fun s=>0<=s.1/\s.1<=bs.length/\Sq n.toNat s.2/\(∀ u v,0<=ent s.2 u v/\ent s.2 u v<=2000*s.1)/\∀ S,zlr n.toNat S (ent s.2)=zfn S (bs.take s.1.toNat)) (fun s=>(bs.length - s.1).toNat)
  (fun R=>Sq n.toNat R/\(∀ u v,0<=ent R u v/\ent R u v<=2000*bs.length)/\∀ S,zlr n.toNat S (ent R)=zfn S bs) ?_ (0,A) ⟨by simp,by simp,hA,fun u v=>by rw [hA0];simp,fun S=>?_⟩
 ·exact key
 ·rintro ⟨i,A⟩ ⟨hi0,hi1,hA,hbd,hc⟩
  simp only at hi0 hi1 hA hbd hc
  unfold zdv
  by_cases h:i<bs.length
  ·left
   obtain ⟨⟨x,y,s⟩,B,t⟩:=zS (l:=bs) hi0 h
   obtain ⟨C,w2,D,O,U,Q,T⟩:=hw _ _ t
   simp only at C w2 D O U Q T
   obtain ⟨r,Y,g2,g3,X⟩:=hA.idx (u:=x) (v:=y) C (by omega) D (by omega)
   obtain ⟨q,p⟩:=hA.set (e:=ent A x.toNat y.toNat+s) g3 (v:=y.toNat) (by omega)
   obtain ⟨P,k1,k2,k3,N⟩:=q.idx (u:=y) (v:=x) D (by omega) C (by omega)
   have a2:=hbd x.toNat y.toNat
   have w:ent (A.set x.toNat (r.set y.toNat (ent A x.toNat y.toNat+s))) y.toNat x.toNat=ent A y.toNat x.toNat:=by rw [p,if_neg (by omega)]
   have a0:=hbd y.toNat x.toNat
   rw [w] at N
   obtain ⟨J,z⟩:=q.set (e:=ent A y.toNat x.toNat+s) k3 (v:=x.toNat) (by omega)
   have L:w64 (ent A x.toNat y.toNat+s)=ent A x.toNat y.toNat+s:=zw (by omega) (by omega)
   have I:w64 (ent A y.toNat x.toNat+s)=ent A y.toNat x.toNat+s:=zw (by omega) (by omega)
   have G:w64 (i+1)=i+1:=zw (by omega) (by omega)
   simp only [h,decide_true,if_true,B,gp,Y,X,L,k1,N,I,G]
   refine ⟨_,rfl,⟨by simp only [];omega,by simp only [];omega,J,fun u v=>?_,fun S=>?_⟩,by simp only [];omega⟩
   ·simp only
    rw [z]
    split
    ·omega
    ·rw [p]
     split
     ·omega
     ·have:=hbd u v;omega
   ·simp only
    have H:(i+1).toNat=i.toNat+1:=by omega
    have E:bs.take (i+1).toNat=bs.take i.toNat++[(x,y,s)]:=by
     rw [H,fp,t];rfl
    rw [E]
    have j:∀ (l:List Bd) (b:Bd),zfn S (l++[b])=zfn S l+(if S b.1=S b.2.1 then 0 else b.2.2):=by
     intro l b
     induction l with
     | nil=>simp [zfn]
     | cons c l ih=>simp only [List.cons_append,zfn,ih];omega
    rw [j,←hc S]
    have hx:((x.toNat:Nat):Int)=x:=by omega
    have Z:((y.toNat:Nat):Int)=y:=by omega
    have:=zvx (m:=n.toNat) (S:=S) (R:=ent A) (R1:=ent (A.set x.toNat (r.set y.toNat (ent A x.toNat y.toNat+s)))) (a:=x.toNat) (b:=y.toNat) (d:=s) (by omega) (by omega) (by omega) p (R2:=ent ((A.set x.toNat (r.set y.toNat (ent A x.toNat y.toNat+s))).set y.toNat (P.set x.toNat (ent A y.toNat x.toNat+s)))) (by intro u v;rw [z,w])
    rw [hx,Z] at this
    exact this
  ·right
   simp only [h,decide_false]
   have:i=bs.length:=by omega
   refine ⟨_,rfl,hA,fun u v=>by rw [←this];exact hbd u v,fun S=>?_⟩
   rw [hc S,this]
   simp
 ·simp only [zfn,List.take_zero,Int.toNat_zero]
  unfold zlr
  have M:∀ (k:Nat) (f:Nat->Int),(∀ i,f i=0)->zcy k f=0:=fun k f V=>by
   rw [zcx (g:=fun _=>0) fun i _=>V i,znt]
  refine M _ _ fun u=>M _ _ fun v=>by rw [hA0];simp
theorem zq8 (h0:0<=n) (h1:n<=1000) (hb:bs.length<=100000) (hw:WBs n bs) :
  ∃ R F,zh6 n bs=some (R,F)/\Sq n.toNat R/\Sq n.toNat F/\(∀ u v,ent F u v=0)/\(∀ u v,0<=ent R u v/\ent R u v<=2000*bs.length)/\∀ S,zlr n.toNat S (ent R)=zfn S bs:=by
 obtain ⟨b,a⟩:=zxr n.toNat
 obtain ⟨R,e,c,f,d⟩:=zql h0 h1 hb hw _ b a
 refine ⟨R,_,?_,c,b,a,f,d⟩
 unfold zh6 zh5 zh4
 rw [zq9 h0 h1]
 simp only [gp]
 rw [e]
 rfl
end
def Inj {α:Type} (Q:List α):Prop:=∀ (i j:Nat) (x:α),Q[i]?=some x->Q[j]?=some x->i=j
theorem Inj.snoc {α:Type} {Q:List α} {x:α} (h:Inj Q) (hx:x∉Q):Inj (Q++[x]):=by
 intro i j y hi l
 have key:∀ k:Nat,(Q++[x])[k]?=some y->(k<Q.length/\Q[k]?=some y)\/(k=Q.length/\y=x):=by
  intro k e
  by_cases f:k<Q.length
  ·rw [cg f] at e;exact .inl ⟨f,e⟩
  ·rw [ci (by omega)] at e
   have g:=zz e
   simp at g
   have:k=Q.length:=by omega
   subst this
   simp at e
   exact .inr ⟨rfl,e.symm⟩
 rcases key i hi with ⟨a,b⟩ | ⟨a,b⟩<;>rcases key j l with ⟨c,d⟩ | ⟨c,d⟩
 ·exact h i j y b d
 ·exact absurd (d▸fc b:x∈Q) hx
 ·exact absurd (b▸fc d:x∈Q) hx
 ·omega
theorem zu2 {α:Type} {l l2:List α} {lo:Nat} (h:lo<=l.length) (j:Nat):(cpy l lo l2)[j]?=if j<lo then l[j]? else if j - lo<min l2.length (l.length - lo) then l2[j - lo]? else l[j]?:=by
 unfold cpy
 have a:(l.take lo).length=lo:=by rw [ed];omega
 have b:(l2.take (l.length - lo)).length=min l2.length (l.length - lo):=by rw [ed];omega
 split
 ·rename_i hj
  rw [cg (by rw [dl,a];omega),cg (by omega),dh,if_pos hj]
 ·split
  ·rename_i hj hk
   rw [cg (by rw [dl,a,b];omega),ci (by omega),a,dh,if_pos (by omega)]
  ·rename_i hj hk
   rw [ci (by rw [dl,a,b];omega),dl,a,b,cj]
   congr 1
   omega
theorem ztr {n:Int} (i:1<=n) (b:n<=100000):zff [(-1)] n=some (List.replicate n.toNat (-1)):=by
 unfold zff
 rw [if_neg (by simp;omega)]
 have e:IntKind.wrap .u64 (([(-1:Int)].length:Nat):Int)=1:=by decide
 have q:IntKind.wrap .u64 n=n:=by
  have:∀ m:Int,0<=m->m<18446744073709551616->IntKind.wrap .u64 m=m:=by
   intro m i b
   show m % 18446744073709551616=m
   omega
  exact this n (by omega) (by omega)
 rw [e,q]
 have f:zgC 1 n=some (0,n):=by
  unfold zgC
  rw [if_pos (by omega)]
  simp
  omega
 rw [f]
 simp only [gp]
 rw [if_neg (by simp)]
 unfold zdi
 have hd:decide (n>9223372036854775807)=false:=by simp;omega
 rw [hd]
 simp only [zw (n:=n) (by omega) (by omega),zqH (n:=n) (by omega) b,gp]
 have key:=zA (F:=zdh) (fun s=>s.1.length=n.toNat/\1<=s.2/\s.2<=n/\∀ j:Nat,j<s.2.toNat->s.1[j]?=some (-1)) (fun s=>(n - s.2).toNat) (fun z=>z=List.replicate n.toNat (-1)) ?_
  (cpy (List.replicate n.toNat 0) 0 [-1],((min [(-1:Int)].length (List.replicate n.toNat (0:Int)).length:Nat):Int)) ?_
 ·obtain ⟨z,r,rfl⟩:=key
  rw [r];rfl
 ·rintro ⟨l,k⟩ ⟨hl,hk0,hk1,hall⟩
  simp only at hl hk0 hk1 hall
  unfold zdh
  by_cases a:k<(l.length:Int)
  ·left
   have p:zjI l k l.length=some ((l.take (l.length:Int).toNat).drop k.toNat):=by unfold zjI;rw [if_pos ⟨by omega,by omega,by omega⟩]
   have g:zjI l 0 k=some ((l.take k.toNat).drop (0:Int).toNat):=by unfold zjI;rw [if_pos ⟨by omega,by omega,by omega⟩]
   simp only [a,decide_true,if_true,p,g,gp]
   have hlen:((l.take k.toNat).drop (0:Int).toNat).length=k.toNat:=by
    rw [dt,ed];simp;omega
   rw [hlen]
   have d:w64 (k+((min k.toNat (l.length - k.toNat):Nat):Int))=k+((min k.toNat (l.length - k.toNat):Nat):Int):=zw (by omega) (by omega)
   rw [d]
   refine ⟨_,rfl,⟨?_,by simp only [];omega,by simp only [];omega,?_⟩,by simp only [];omega⟩
   ·simp only
    rw [zsX (by omega)]
    exact hl
   ·intro j c
    simp only at c ⊢
    rw [zu2 (by omega)]
    split
    ·rename_i h;exact hall j h
    ·split
     ·rename_i b h2
      rw [cj,dh]
      simp only [Int.toNat_zero,gl]
      rw [if_pos (by omega)]
      exact hall _ (by omega)
     ·rename_i b h2
      rw [hlen] at h2
      omega
  ·right
   simp only [a,decide_false]
   refine ⟨_,rfl,?_⟩
   apply bl
   intro j
   rw [cz]
   split
   ·exact hall j (by omega)
   ·exact cn (by omega)
 ·have hm:((min [(-1:Int)].length (List.replicate n.toNat (0:Int)).length:Nat):Int)=1:=by simp;omega
  refine ⟨by simp only [];rw [zsX (by simp)];simp,by simp only [hm];omega,by simp only [hm];omega,fun j c=>?_⟩
  simp only [hm] at c
  have:j=0:=by omega
  subst this
  simp only
  rw [zu2 (by simp),if_neg (by omega),if_pos (by simp;omega)]
  rfl
def Fr (R F:List (List Int)) (u v:Int):Prop:=ent F u.toNat v.toNat<ent R u.toNat v.toNat
section
variable {n:Nat} {R F:List (List Int)}
theorem zxS (hR:Sq n R) (hF:Sq n F) {u v:Int} (hu0:0<=u) (hu:u<n) (hv0:0<=v) (hv:v<n):∃ b,zfj (R,F) u v=some b/\(b=true↔Fr R F u v):=by
 obtain ⟨r,c,e,g,a⟩:=hR.idx hu0 hu hv0 hv
 obtain ⟨f,k1,k2,k3,d⟩:=hF.idx hu0 hu hv0 hv
 unfold zfj
 simp only [c,a,k1,d,gp]
 exact ⟨_,rfl,by unfold Fr;simp⟩
structure WInv (n:Nat) (R F:List (List Int)) (a:Int) (par Q:List Int) (k:Nat):Prop where
 len:par.length=n
 inj:Inj Q
 hd:Q[0]?=some a
 kle:k<=Q.length
 rng:∀ x∈Q,0<=x/\x<n
 neg:Q.length+par.countP isNeg=n
 mem:∀ (v:Nat) (p:Int),par[v]?=some p->((v:Int)∈Q↔0<=p)
 src:∀ (i:Nat) (x:Int),Q[i]?=some x->i≠0->∃ (j:Nat) (p:Int),j<i/\Q[j]?=some p/\par[x.toNat]?=some p/\Fr R F p x
 cls:∀ (j:Nat) (u:Int),j<k->Q[j]?=some u->∀ v:Nat,v<n->Fr R F u v->(v:Int)∈Q
variable {a b:Int} {par Q:List Int} {k:Nat}
theorem zu7 (hn:n<=1000) (hR:Sq n R) (hF:Sq n F) (h:WInv n R F a par Q k) {u:Int} (hu:Q[k]?=some u) (rest:List Int) :
  ∃ par' J,iter (zcb (R,F) (u,rest)) (par,0,Q.drop (k+1))=some (par',J)/\∃ Q',WInv n R F a par' Q' (k+1)/\J=Q'.drop (k+1):=by
 have t:=h.rng u (fc hu)
 have key:=zA (F:=zcb (R,F) (u,rest))
  (fun s=>0<=s.2.1/\s.2.1<=n/\∃ Q',WInv n R F a s.1 Q' k/\s.2.2=Q'.drop (k+1)/\Q'[k]?=some u/\∀ v:Nat,(v:Int)<s.2.1->Fr R F u v->(v:Int)∈Q')
  (fun s=>(n - s.2.1).toNat) (fun z=>∃ Q',WInv n R F a z.1 Q' (k+1)/\z.2=Q'.drop (k+1)) ?_ (par,0,Q.drop (k+1)) ⟨by simp,by simp,Q,h,rfl,hu,fun v hv=>by simp only at hv;omega⟩
 ·obtain ⟨⟨H,J⟩,hz,L⟩:=key
  exact ⟨H,J,hz,L⟩
 ·rintro ⟨par,v,q⟩ ⟨hv0,hv1,Q,hW,hq,hk,hcl⟩
  simp only at hv0 hv1 hW hq hcl
  unfold zcb
  simp only [hR.len]
  by_cases r:v<n
  ·left
   rw [if_pos (by simp [r])]
   obtain ⟨p,hp,C⟩:=zS (l:=par) hv0 (by rw [hW.len];omega)
   have g:=hW.mem v.toNat p C
   have E:((v.toNat:Nat):Int)=v:=by omega
   rw [E] at g
   have Y:w64 (v+1)=v+1:=zw (by omega) (by omega)
   simp only [hp,gp]
   have A:(Fr R F u v->v∈Q)->∃ s',za2 (R,F) (u,rest) (par,v,q) false=some (.inl s')/\(0<=s'.2.1/\s'.2.1<=n/\∃ Q',WInv n R F a s'.1 Q' k/\s'.2.2=Q'.drop (k+1)/\Q'[k]?=some u/\∀ v:Nat,(v:Int)<s'.2.1->Fr R F u v->(v:Int)∈Q')/\(n - s'.2.1).toNat<(n - v).toNat:=by
    intro P
    unfold za2 zcd
    simp only [Y]
    refine ⟨_,rfl,⟨by simp only [];omega,by simp only [];omega,Q,hW,hq,hk,fun x c f=>?_⟩,by simp only [];omega⟩
    simp only at c
    by_cases d:(x:Int)=v
    ·rw [d] at f ⊢;exact P f
    ·exact hcl x (by omega) f
   by_cases m:p<0
   ·rw [if_pos (by simp [m])]
    obtain ⟨b,hb,D⟩:=zxS hR hF t.1 t.2 hv0 r
    simp only [hb,gp]
    cases b with
    | false=>exact A fun P=>absurd (D.2 P) (by simp)
    | true=>
     have f:Fr R F u v:=D.1 rfl
     have I:v∉Q:=fun hm=>by have:=g.1 hm;omega
     have hc:(par.set v.toNat u).countP isNeg+1=par.countP isNeg:=zkF isNeg C (by simp [isNeg,m]) (by simp [isNeg];exact t.1)
     have M:=hW.neg
     have B:k<Q.length:=zz hk
     have X:q.length<n:=by rw [hq,dt];omega
     unfold za2 zcd
     simp only [if_true,hp,gp,hR.len]
     have hs:zqb ((n:Int).toNat) q v=some (q++[v]):=by unfold zqb;rw [if_pos (by simpa using X)]
     simp only [hs,gp,Y]
     have G:v.toNat<par.length:=zz C
     refine ⟨_,rfl,⟨by simp only [];omega,by simp only [];omega,Q++[v],?_,?_,?_,?_⟩,by simp only [];omega⟩
     ·refine ⟨by simp only [dz];exact hW.len,hW.inj.snoc I,?_,by rw [dl];exact Nat.le_add_right_of_le hW.kle,?_,?_,?_,?_,?_⟩
      ·have h0:=zz hW.hd
       rw [cg h0];exact hW.hd
      ·intro x c
       rcases ek.1 c with c | c
       ·exact hW.rng x c
       ·rw [fe.1 c];exact ⟨hv0,r⟩
      ·simp only [dl,dm,dx];omega
      ·intro x H c
       simp only at c
       by_cases d:x=v.toNat
       ·subst d
        rw [zW G] at c
        injection c with c
        subst c
        rw [E]
        simp [t.1]
       ·rw [zN (fun e=>d e.symm)] at c
        rw [←hW.mem x H c,ek,fe]
        exact ⟨fun e=>e.resolve_right (by omega),.inl⟩
      ·intro i x hi O
       by_cases U:i<Q.length
       ·rw [cg U] at hi
        obtain ⟨j,H,h1,L,h3,h4⟩:=hW.src i x hi O
        refine ⟨j,H,h1,by rw [cg (by omega)];exact L,?_,h4⟩
        simp only
        rw [zN]
        ·exact h3
        ·intro e
         have a2:=hW.rng x (fc hi)
         have d:x=v:=by omega
         exact I (d▸fc hi)
       ·rw [ci (by omega)] at hi
        have:=zz hi
        simp at this
        have T:i - Q.length=0:=by omega
        rw [T] at hi
        simp at hi
        subst hi
        exact ⟨k,u,by omega,by rw [cg B];exact hk,by simp only [];rw [zW G],f⟩
      ·intro j x Z c y S w
       rw [cg (by omega)] at c
       exact ep _ (hW.cls j x Z c y S w)
     ·simp only
      rw [List.drop_append_of_le_length (by omega),hq]
     ·rw [cg B];exact hk
     ·intro x c V
      simp only at c
      by_cases d:(x:Int)=v
      ·rw [d];simp
      ·exact ep _ (hcl x (by omega) V)
   ·rw [if_neg (by simp [m])]
    exact A fun _=>g.2 (by omega)
  ·right
   rw [if_neg (by simp [r])]
   have B:k<Q.length:=zz hk
   refine ⟨_,rfl,Q,⟨hW.len,hW.inj,hW.hd,by omega,hW.rng,hW.neg,hW.mem,hW.src,fun j x Z c y S w=>?_⟩,hq⟩
   by_cases N:j=k
   ·subst N
    rw [hk] at c
    injection c with c
    subst c
    exact hcl y (by omega) w
   ·exact hW.cls j x (by omega) c y S w
theorem zu6 (hn:n<=1000) (hR:Sq n R) (hF:Sq n F) (h:WInv n R F a par Q 0) :
  ∃ b,iter (zcc (R,F)) (par,Q)=some b/\∃ Q',WInv n R F a b Q' Q'.length:=by
 have key:=zA (F:=zcc (R,F))
  (fun s=>∃ Q' k,WInv n R F a s.1 Q' k/\s.2=Q'.drop k)
  (fun s=>s.2.length+s.1.countP isNeg) (fun z=>∃ Q',WInv n R F a z Q' Q'.length) ?_ (par,Q) ⟨Q,0,h,rfl⟩
 ·exact key
 ·rintro ⟨par,q⟩ ⟨Q,k,hW,hq⟩
  simp only at hW hq
  unfold zcc
  have j:=hW.neg
  have l:=hW.kle
  have i:q.length=Q.length - k:=by rw [hq,dt]
  have t:zvS q=some (q.length:Int):=by unfold zvS;rw [if_pos (by omega)]
  simp only [t,gp]
  by_cases c:k<Q.length
  ·left
   rw [if_pos (by simp;omega)]
   obtain ⟨u,e⟩:∃ u,Q[k]?=some u:=⟨_,cm c⟩
   have hd:Q.drop k=u::Q.drop (k+1):=by
    rw [bh c]
    rw [cm c] at e
    injection e with e
    rw [e]
   have p:=hW.rng u (fc e)
   have m:zu1 q=some (u,Q.drop (k+1)):=by
    rw [hq,hd];show (if -9223372036854775808<=u/\u<=9223372036854775807 then some (u,Q.drop (k+1)) else none)=_;rw [if_pos ⟨by omega,by omega⟩]
   obtain ⟨b,r,g,Q',d,f⟩:=zu7 hn hR hF hW e (Q.drop (k+1))
   simp only [m,gp,g]
   unfold zgp
   refine ⟨_,rfl,⟨Q',k+1,d,f⟩,?_⟩
   have w:=d.neg
   have v:=d.kle
   show r.length+b.countP isNeg<q.length+par.countP isNeg
   rw [f,i,dt]
   omega
  ·right
   rw [if_neg (by simp only [decide_eq_true_eq];omega)]
   refine ⟨_,rfl,Q,?_⟩
   have:k=Q.length:=by omega
   rw [←this];exact hW
structure Way (n:Nat) (R F:List (List Int)) (a b:Int) (w:List Int):Prop where
 pos:1<=w.length
 hd:w[0]?=some a
 lst:w[w.length - 1]?=some b
 inj:Inj w
 rng:∀ x∈w,0<=x/\x<n
 most:w.length<=n
 edge:∀ (i:Nat) (x y:Int),w[i]?=some x->w[i+1]?=some y->Fr R F x y
theorem zvZ (hn:n<=1000) (h:WInv n R F a par Q k):∀ (p:Nat) (x:Int) (out:List Int),Q[p]?=some x->1<=out.length->out[0]?=some b->out[out.length - 1]?=some x->Inj out->
  (∀ y∈out,∃ j,p<=j/\Q[j]?=some y)->out.length+p<=Q.length->(∀ (i:Nat) (x y:Int),out[i]?=some x->out[i+1]?=some y->Fr R F y x)->
  ∃ w,iter (za1 a par) (out,x)=some w/\1<=w.length/\w[0]?=some b/\w[w.length - 1]?=some a/\Inj w/\(∀ x∈w,0<=x/\x<n)/\w.length<=n/\∀ (i:Nat) (x y:Int),w[i]?=some x->w[i+1]?=some y->Fr R F y x:=by
 intro p
 induction p using Nat.strongRecOn with
 | _ p ih=>
  intro x out u T N d m f V c
  have O:=h.neg
  by_cases l:x=a
  ·refine ⟨out,zF ?_,T,N,by rw [d,l],m,fun y g=>?_,by omega,c⟩
   ·unfold za1
    simp [l]
   ·obtain ⟨j,_,M⟩:=f y g
    exact h.rng y (fc M)
  ·have J:p≠0:=fun e=>by
    subst e;rw [h.hd] at u;injection u with u;exact l u.symm
   obtain ⟨j,q,M,E,v,C⟩:=h.src p x u J
   have D:=h.rng x (fc u)
   have s:za1 a par (out,x)=some (.inl (out++[q],q)):=by
    unfold za1
    simp only [l,decide_false,Bool.not_false,if_true,zfM D.1 v,gp]
    rw [zac (by simp;omega) (by simp;omega)]
    rfl
   rw [zx s]
   have B:q∉out:=fun hm=>by
    obtain ⟨i,hi,L⟩:=f q hm
    have:=h.inj i j q L E
    omega
   have r:∀ (i:Nat) (y:Int),(out++[q])[i]?=some y->(i<out.length/\out[i]?=some y)\/(i=out.length/\y=q):=by
    intro i y hi
    by_cases A:i<out.length
    ·rw [cg A] at hi;exact .inl ⟨A,hi⟩
    ·rw [ci (by omega)] at hi
     have:=zz hi
     simp at this
     have I:i - out.length=0:=by omega
     rw [I] at hi
     simp at hi
     exact .inr ⟨by omega,hi.symm⟩
   refine ih j M q (out++[q]) E (by simp) (by rw [cg (by omega)];exact N) (by simp) (m.snoc B) ?_ (by simp;omega) ?_
   ·intro y g
    rcases ek.1 g with g | g
    ·obtain ⟨i,hi,G⟩:=f y g
     exact ⟨i,by omega,G⟩
    ·rw [fe.1 g];exact ⟨j,fz _,E⟩
   ·intro i y z g S
    rcases r i y g with ⟨P,t⟩ | ⟨P,t⟩<;>rcases r (i+1) z S with ⟨U,H⟩ | ⟨U,H⟩
    ·exact c i y z t H
    ·have:i=out.length - 1:=by omega
     rw [this,d] at t
     injection t with t
     rw [←t,H];exact C
    ·omega
    ·omega
theorem zvY (hn1:1<=n) (hn:n<=1000) (hR:Sq n R) (hF:Sq n F) (ha0:0<=a) (ha:a<n) (hb0:0<=b) (hb:b<n) :
  ∃ w,zf8 (R,F) a b=some w/\(Way n R F a b w\/(w=[]/\∃ S:Int->Bool,S a=true/\S b=false/\∀ u v:Nat,u<n->v<n->S u=true->S v=false->¬Fr R F u v)):=by
 have A:=ztr (n:=(n:Int)) (by omega) (by omega)
 have H:mkc 8 (n:Int)=some []:=by unfold mkc;rw [if_pos ⟨by omega,by omega,by omega⟩]
 have r:zqb ((n:Int).toNat) [] a=some [a]:=by unfold zqb;rw [if_pos (by simp;omega)];rfl
 have m:(List.replicate (n:Int).toNat (-1:Int)).length=n:=by simp
 have B:∀ (v:Nat) (p:Int),((List.replicate (n:Int).toNat (-1:Int)).set a.toNat a)[v]?=some p->v<n/\((v=a.toNat/\p=a)\/(v≠a.toNat/\p = -1)):=by
  intro v p f
  have k:=zz f
  rw [dz,m] at k
  refine ⟨k,?_⟩
  by_cases s:v=a.toNat
  ·subst s
   rw [zW (by rw [m];exact k)] at f
   injection f with f
   exact .inl ⟨rfl,f.symm⟩
  ·rw [zN (fun e=>s e.symm),cz] at f
   split at f
   ·injection f with f;exact .inr ⟨s,f.symm⟩
   ·cases f
 have T:(List.replicate (n:Int).toNat (-1:Int)).countP isNeg=n:=by
  rw [List.countP_replicate];simp [isNeg]
 have V:WInv n R F a ((List.replicate (n:Int).toNat (-1)).set a.toNat a) [a] 0:=by
  refine ⟨by rw [dz,m],?_,rfl,by simp,?_,?_,?_,?_,fun j u c=>by omega⟩
  ·intro i j x hi c
   have t:=zz hi
   have g:=zz c
   simp at t g
   omega
  ·intro x I
   rw [fe.1 I];exact ⟨ha0,ha⟩
  ·have Y:(List.replicate (n:Int).toNat (-1:Int))[a.toNat]?=some (-1):=by
    rw [cz,if_pos (by omega)]
   have:=zkF isNeg Y (y:=a) (by simp [isNeg]) (by simp [isNeg];exact ha0)
   simp only [dm,dx]
   omega
  ·intro v p f
   obtain ⟨k,⟨e1,G⟩ | ⟨e1,G⟩⟩:=B v p f
   ·subst G
    rw [fe]
    omega
   ·subst G
    rw [fe]
    omega
  ·intro i x hi a7
   have:=zz hi
   simp at this
   omega
 obtain ⟨par,D,Q,z⟩:=zu6 hn hR hF V
 have M:∃ x,idx (List.replicate (n:Int).toNat (-1:Int)) a=some x:=⟨_,zuX ha0 (by rw [m];exact ha)⟩
 obtain ⟨x0,L⟩:=M
 unfold zf8
 simp only [hR.len,A,H,r,L,D,gp]
 unfold zgr
 obtain ⟨p,hp,E⟩:=zS (l:=par) hb0 (by rw [z.len];exact hb)
 have h:=z.mem b.toNat p E
 have J:((b.toNat:Nat):Int)=b:=by omega
 rw [J] at h
 simp only [hp,gp]
 by_cases q:p<0
 ·rw [if_pos (by simp [q])]
  refine ⟨_,rfl,.inr ⟨rfl,fun x=>decide (x∈Q),?_,?_,?_⟩⟩
  ·simp;exact fc z.hd
  ·simp;intro hm;have:=h.1 hm;omega
  ·intro u v hu f hS N hf
   simp at hS N
   obtain ⟨j,c⟩:=cv hS
   exact N (z.cls j u (zz c) c v f hf)
 ·rw [if_neg (by simp [q])]
  obtain ⟨j,c⟩:=cv (h.2 (by omega))
  have a0:=zz c
  obtain ⟨w,hw,P,w2,U,O,w5,X,Z⟩:=zvZ (b:=b) hn z j b [b] c (by simp) rfl rfl (by
   intro i j x hi c
   have t:=zz hi
   have g:=zz c
   simp at t g
   omega) (by intro y hy;rw [fe.1 hy];exact ⟨j,fz _,c⟩) (by simp;omega) (by
   intro i x y hi c
   have g:=zz c
   simp at g)
  rw [hw]
  simp only [gp]
  unfold zgq zg4
  have C:ne w.reverse=some w.reverse:=by
   unfold ne
   cases hr:w.reverse with
   | nil=>have:w.length=0:=(by rw [←List.length_reverse,hr];rfl);omega
   | cons x l=>rfl
  simp only [C,gp]
  have d:∀ (i:Nat),i<w.length->w.reverse[i]?=w[w.length - 1 - i]?:=fun i hi=>List.getElem?_reverse hi
  refine ⟨_,rfl,.inl ⟨by simpa using P,by rw [d 0 (by omega)];exact U,?_,?_,fun x I=>w5 x (by simpa using I),by simpa using X,?_⟩⟩
  ·rw [List.length_reverse,d _ (by omega)]
   have:w.length - 1 - (w.length - 1)=0:=by omega
   rw [this];exact w2
  ·intro i j x hi c
   have t:=zz hi
   have g:=zz c
   rw [List.length_reverse] at t g
   rw [d _ t] at hi
   rw [d _ g] at c
   have:=O _ _ _ hi c
   omega
  ·intro i x y hi c
   have g:=zz c
   rw [List.length_reverse] at g
   rw [d _ (by omega)] at hi
   rw [d _ g] at c
   have:w.length - 1 - i=w.length - 1 - (i+1)+1:=by omega
   rw [this] at hi
   exact Z _ _ _ c hi
end
structure FI (n:Nat) (R F:List (List Int)):Prop where
 sq:Sq n F
 anti:∀ u v,u<n->v<n->ent F u v = - ent F v u
 le:∀ u v,u<n->v<n->ent F u v<=ent R u v
section
variable {n:Nat} {R F:List (List Int)} {a b:Int} {w:List Int}
theorem zvj (hn:n<=1000) (hR:∀ u v,0<=ent R u v/\ent R u v<=1000000000) (hw:Way n R F a b w) (hF:FI n R F) :
  ∃ z,iter (zbD w) (1,F)=some z/\FI n R z/\∀ S,mid n S (ent z)=mid n S (ent F)+ind (S a) - ind (S b):=by
 have key:=zA (F:=zbD w)
  (fun s=>1<=s.1/\s.1<=w.length/\FI n R s.2/\(∀ u v:Nat,u<n->v<n->(v:Int)∉w.take s.1.toNat->ent s.2 u v=ent F u v)/\
   ∃ x,w[s.1.toNat - 1]?=some x/\∀ S,mid n S (ent s.2)=mid n S (ent F)+ind (S a) - ind (S x))
  (fun s=>(w.length - s.1).toNat) (fun z=>FI n R z/\∀ S,mid n S (ent z)=mid n S (ent F)+ind (S a) - ind (S b)) ?_ (1,F)
  ⟨by simp,by have:=hw.pos;simp only [];omega,hF,fun _ _ _ _ _=>rfl,a,hw.hd,fun S=>by simp only [];omega⟩
 ·exact key
 ·rintro ⟨i,G⟩ ⟨hi0,hi1,hG,hsame,x,hx,hmid⟩
  simp only at hi0 hi1 hG hsame hx hmid
  unfold zbD
  have b0:=hw.most
  by_cases k:i<w.length
  ·left
   obtain ⟨y,N,A⟩:=zS (l:=w) (i:=i) (by omega) k
   have V:w64 (i - 1)=i - 1:=zw (by omega) (by omega)
   have P:w64 (i+1)=i+1:=zw (by omega) (by omega)
   have J:idx w (i - 1)=some x:=zfM (by omega) (by rw [←hx];congr 1;omega)
   have f:=hw.rng x (fc hx)
   have g:=hw.rng y (fc A)
   have a7:x≠y:=fun e=>by
    subst e
    have:=hw.inj _ _ _ hx A
    omega
   have a2:x.toNat≠y.toNat:=by omega
   obtain ⟨r,g1,g2,g3,g4⟩:=hG.sq.idx (u:=x) (v:=y) f.1 f.2 g.1 g.2
   have m:=hw.edge (i.toNat - 1) x y hx (by rw [←A];congr 1;omega)
   unfold Fr at m
   have B:((y.toNat:Nat):Int)∉w.take i.toNat:=by
    intro hm
    obtain ⟨j,I⟩:=cv hm
    have T:=zz I
    rw [ed] at T
    rw [dh,if_pos (by omega)] at I
    have p:((y.toNat:Nat):Int)=y:=by omega
    rw [p] at I
    have:=hw.inj _ _ _ I A
    omega
   have a1:=hsame x.toNat y.toNat (by omega) (by omega) B
   have b1:=hG.anti x.toNat y.toNat (by omega) (by omega)
   have b2:=hG.le y.toNat x.toNat (by omega) (by omega)
   have b3:=hR y.toNat x.toNat
   have b4:=hR x.toNat y.toNat
   have M:w64 (ent G x.toNat y.toNat+1)=ent G x.toNat y.toNat+1:=zw (by omega) (by omega)
   obtain ⟨H,h⟩:=hG.sq.set (e:=ent G x.toNat y.toNat+1) g3 (v:=y.toNat) (by omega)
   obtain ⟨Z,k1,k2,k3,k4⟩:=H.idx (u:=y) (v:=x) g.1 g.2 f.1 f.2
   have C:ent (G.set x.toNat (r.set y.toNat (ent G x.toNat y.toNat+1))) y.toNat x.toNat=ent G y.toNat x.toNat:=by rw [h,if_neg (by omega)]
   rw [C] at k4
   have Q:w64 (ent G y.toNat x.toNat - 1)=ent G y.toNat x.toNat - 1:=zw (by omega) (by omega)
   obtain ⟨Y,t⟩:=H.set (e:=ent G y.toNat x.toNat - 1) k3 (v:=x.toNat) (by omega)
   simp only [k,decide_true,if_true,V,J,N,g1,g4,gp,M,k1,k4,Q,P]
   have d:∀ u v,ent ((G.set x.toNat (r.set y.toNat (ent G x.toNat y.toNat+1))).set y.toNat (Z.set x.toNat (ent G y.toNat x.toNat - 1))) u v =
     if u=y.toNat/\v=x.toNat then ent G y.toNat x.toNat - 1 else if u=x.toNat/\v=y.toNat then ent G x.toNat y.toNat+1 else ent G u v:=fun u v=>by rw [t,h]
   refine ⟨_,rfl,⟨by simp only [];omega,by simp only [];omega,⟨Y,?_,?_⟩,?_,y,?_,?_⟩,by simp only [];omega⟩
   ·intro u v D E
    simp only
    rw [d,d]
    have h1:=hG.anti u v D E
    by_cases c1:u=y.toNat/\v=x.toNat
    ·obtain ⟨rfl,rfl⟩:=c1
     rw [if_pos ⟨rfl,rfl⟩,if_neg (by omega),if_pos ⟨rfl,rfl⟩];omega
    ·rw [if_neg c1]
     by_cases c2:u=x.toNat/\v=y.toNat
     ·obtain ⟨rfl,rfl⟩:=c2
      rw [if_pos ⟨rfl,rfl⟩,if_pos ⟨rfl,rfl⟩];omega
     ·rw [if_neg c2,if_neg (by omega),if_neg (by omega)];exact h1
   ·intro u v D E
    simp only
    rw [d]
    split
    ·rename_i c;obtain ⟨rfl,rfl⟩:=c;omega
    ·split
     ·rename_i c;obtain ⟨rfl,rfl⟩:=c;omega
     ·exact hG.le u v D E
   ·intro u v D E hm
    simp only at hm ⊢
    have O:(i+1).toNat=i.toNat+1:=by omega
    rw [O,fp,A] at hm
    simp only [Option.toList_some,ek,fe,not_or] at hm
    have a4:v≠x.toNat:=fun e=>by
     subst e
     apply hm.1
     have q:((x.toNat:Nat):Int)=x:=by omega
     rw [q]
     have:(w.take i.toNat)[i.toNat - 1]?=some x:=by rw [dh,if_pos (by omega)];exact hx
     exact fc this
    rw [d,if_neg (by omega),if_neg (by omega)]
    exact hsame u v D E hm.1
   ·simp only
    rw [←A];congr 1;omega
   ·intro S
    simp only
    have q:((x.toNat:Nat):Int)=x:=by omega
    have p:((y.toNat:Nat):Int)=y:=by omega
    have e1:mid n S (ent (G.set x.toNat (r.set y.toNat (ent G x.toNat y.toNat+1))))=mid n S (ent G)+ind (S ((x.toNat:Nat):Int))*1:=by
     unfold mid
     exact zpe (c:=fun u _=>ind (S u)) (a:=x.toNat) (b:=y.toNat) (by omega) (by omega) (fun u v _ _ L=>by rw [h,if_neg (by omega)]) (by rw [h,if_pos ⟨rfl,rfl⟩])
    have e2:mid n S (ent ((G.set x.toNat (r.set y.toNat (ent G x.toNat y.toNat+1))).set y.toNat (Z.set x.toNat (ent G y.toNat x.toNat - 1))))=mid n S (ent (G.set x.toNat (r.set y.toNat (ent G x.toNat y.toNat+1))))+ind (S ((y.toNat:Nat):Int))*(-1):=by
     unfold mid
     exact zpe (c:=fun u _=>ind (S u)) (a:=y.toNat) (b:=x.toNat) (by omega) (by omega) (fun u v _ _ L=>by rw [t,if_neg (by omega)]) (by rw [t,if_pos ⟨rfl,rfl⟩,C];omega)
    rw [e2,e1,hmid S,q,p]
    omega
  ·right
   rw [if_neg (by simp [k])]
   have X:i=w.length:=by omega
   have U:x=b:=by
    have:=hw.lst
    rw [X] at hx
    have e:((w.length:Nat):Int).toNat=w.length:=by omega
    rw [e,this] at hx
    injection hx with hx
    exact hx.symm
   exact ⟨_,rfl,hG,fun S=>by rw [hmid S,U]⟩
theorem zvf (hn1:1<=n) (hn:n<=1000) (hsq:Sq n R) (hR:∀ u v,0<=ent R u v/\ent R u v<=1000000000) (hC:∀ S,zlr n S (ent R)<=1000000000) (hF:FI n R F) (hF0:∀ u v,ent F u v=0)
  (ha0:0<=a) (ha:a<n) (hb0:0<=b) (hb:b<n) (hab:a≠b) (most:Int) :
  ∃ v l,zfi (R,F) a b most=some (v,(R,l))/\0<=v/\FI n R l/\(∀ S:Int->Bool,S a=true->S b=false->mid n S (ent l)=v)/\(∀ S:Int->Bool,S a=true->S b=false->v<=zlr n S (ent R))/\
   (v<most->∃ S:Int->Bool,S a=true/\S b=false/\zlr n S (ent R)=v):=by
 have hA:∀ (G:List (List Int)) (v:Int),FI n R G->(∀ S:Int->Bool,S a=true->S b=false->mid n S (ent G)=v)->∀ S:Int->Bool,S a=true->S b=false->v<=zlr n S (ent R):=by
  intro G v c hm S j d
  rw [←hm S j d,zr7 c.anti]
  exact zxL c.le
 have B:(fun x:Int=>decide (x=a)) a=true:=by simp
 have C:(fun x:Int=>decide (x=a)) b=false:=by simp;exact fun e=>hab e.symm
 have key:=zA (F:=zdu (R,F) a b most)
  (fun s=>0<=s.1/\FI n R s.2/\∀ S:Int->Bool,S a=true->S b=false->mid n S (ent s.2)=s.1) (fun s=>(zlr n (fun x:Int=>decide (x=a)) (ent R) - s.1).toNat)
  (fun z=>z.2.1=R/\0<=z.1/\FI n R z.2.2/\(∀ S:Int->Bool,S a=true->S b=false->mid n S (ent z.2.2)=z.1)/\(z.1<most->∃ S:Int->Bool,S a=true/\S b=false/\zlr n S (ent R)=z.1)) ?_ (0,F)
  ⟨by simp,hF,fun S _ _=>?_⟩
 ·obtain ⟨⟨v,T,l⟩,r,j,d,E,A,J⟩:=key
  simp only at j d E A J
  subst j
  refine ⟨v,l,?_,d,E,A,hA l v E A,J⟩
  unfold zfi
  simp only [r,gp]
 ·rintro ⟨v,G⟩ ⟨hv0,c,hm⟩
  simp only at hv0 c hm
  unfold zdu
  obtain ⟨w,N,H⟩:=zvY hn1 hn hsq c.sq ha0 ha hb0 hb
  simp only [N,gp]
  rcases H with hW | ⟨hnil,S,s1,s2,s3⟩
  ·have t:w≠[]:=fun e=>by have:=hW.pos;rw [e] at this;simp at this
   rw [if_neg (by simp [t])]
   unfold zbE
   by_cases p:v≥most
   ·right
    rw [if_pos (by simp [p])]
    exact ⟨_,rfl,rfl,hv0,c,hm,fun h=>by simp only at h;omega⟩
   ·left
    rw [if_neg (by simp [p])]
    obtain ⟨I,y,q,hm'⟩:=zvj hn hR hW c
    simp only [y,gp]
    unfold zfF
    have m:∀ S:Int->Bool,S a=true->S b=false->mid n S (ent I)=v+1:=by
     intro S j d
     rw [hm' S,hm S j d,j,d]
     simp [ind]
    have P:=hA I (v+1) q m (fun x:Int=>decide (x=a)) B C
    have Q:=hC (fun x:Int=>decide (x=a))
    have D:w64 (v+1)=v+1:=zw (by omega) (by omega)
    simp only [D]
    exact ⟨_,rfl,⟨by simp only [];omega,q,m⟩,by simp only [];omega⟩
  ·right
   rw [if_pos (by simp [hnil])]
   unfold zbE
   rw [if_pos rfl]
   refine ⟨_,rfl,rfl,hv0,c,hm,fun _=>⟨S,s1,s2,?_⟩⟩
   simp only
   rw [←hm S s1 s2,zr7 c.anti]
   symm
   refine zxM fun u v L M j d=>?_
   have:=s3 u v L M j d
   unfold Fr at this
   simp only [ba] at this
   have:=c.le u v L M
   omega
 ·simp only
  unfold mid
  have r:∀ (k:Nat) (f:Nat->Int),(∀ i,f i=0)->zcy k f=0:=fun k f O=>by
   rw [zcx (g:=fun _=>0) fun i _=>O i,znt]
  exact r _ _ fun u=>r _ _ fun v=>by rw [hF0];simp
end
theorem zun {n:Int} {bs:List Bd} (hn1:1<=n) (hn:n<=1000) (p:bs.length<=100000) (hw:WBs n bs) (t:Int) :
  ∃ b,zmq n bs t=some b/\(b=true↔Holds n bs t):=by
 have j:∀ S,zfn S bs<=1000*bs.length:=fun S=>zuy fun b p=>by
  obtain ⟨k,G⟩:=cv p
  obtain ⟨_,_,_,_,_,m,V⟩:=hw k b G
  omega
 have key:=zA (F:=ziZ n bs t)
  (fun y=>1<=y/\y<=n/\∀ z,1<=z->z<y->∀ S:Int->Bool,S 0=true->S z=false->t<=zfn S bs) (fun y=>(n - y).toNat)
  (fun z=>match z with | .inl _=>Holds n bs t | .inr b=>b=false/\¬Holds n bs t) ?_ 1 ⟨by simp,hn1,fun z B A=>by omega⟩
 ·obtain ⟨z,I,r⟩:=key
  unfold zmq
  rw [I]
  cases z with
  | inl z=>exact ⟨true,rfl,fun _=>r,fun _=>rfl⟩
  | inr z=>
   have w:z=false:=r.1
   exact ⟨z,rfl,⟨fun h=>by (rw [w] at h;cases h),fun h=>absurd h r.2⟩⟩
 ·rintro y ⟨x,E,d⟩
  unfold ziZ
  by_cases f:y<n
  ·rw [if_pos (by simp [f])]
   obtain ⟨R,F,B,A,N,l,C,m⟩:=zq8 (n:=n) (by omega) hn p hw
   have Q:((n.toNat:Nat):Int)=n:=by omega
   obtain ⟨v,U,J,T,Y,X,O,D⟩:=zvf (n:=n.toNat) (R:=R) (F:=F) (a:=0) (b:=y) (by omega) (by omega) A (fun u v=>by have:=C u v;omega) (fun S=>by rw [m];have:=j S;omega)
    ⟨N,fun u v _ _=>by rw [l,l];rfl,fun u v _ _=>by rw [l];exact (C u v).1⟩ l (by omega) (by omega) (by omega) (by omega) (by omega) t
   simp only [B,J,gp]
   by_cases e:v<t
   ·right
    rw [if_pos (by simp [e])]
    refine ⟨_,rfl,rfl,fun L=>?_⟩
    obtain ⟨S,M,H,P⟩:=D e
    have:=L S M ⟨y,x,f,H⟩
    rw [m] at P
    omega
   ·left
    rw [if_neg (by simp [e]),zw (by omega) (by omega)]
    refine ⟨_,rfl,⟨by omega,by omega,fun z g q S c i=>?_⟩,by omega⟩
    by_cases s:z=y
    ·subst s
     have:=O S c i
     rw [m] at this
     omega
    ·exact d z g (by omega) S c i
  ·right
   rw [if_neg (by simp [f])]
   refine ⟨_,rfl,fun S c ⟨z,g,q,hz3⟩=>d z g (by omega) S c hz3⟩
theorem zhl {A B:Type} {F:A×Int->Option ((A×Int) ⊕ A)} (l:List B) (f:A->B->A) (a0:A) (hlen:l.length<=2000000)
  (step:∀ (a:A) (i:Nat) (x:B),l[i]?=some x->a=(l.take i).foldl f a0->F (a,(i:Int))=some (.inl (f a x,w64 ((i:Int)+1))))
  (stop:∀ a,a=l.foldl f a0->F (a,(l.length:Int))=some (.inr a)):iter F (a0,0)=some (l.foldl f a0):=by
 have key:=zA (F:=F) (fun s=>0<=s.2/\s.2<=l.length/\s.1=(l.take s.2.toNat).foldl f a0) (fun s=>(l.length - s.2).toNat) (fun z=>z=l.foldl f a0) ?_ (a0,0) ⟨by simp,by simp,by simp⟩
 ·obtain ⟨z,g,rfl⟩:=key;exact g
 ·rintro ⟨a,i⟩ ⟨h0,h1,ha⟩
  simp only at h0 h1 ha
  obtain ⟨k,rfl⟩:=az h0
  simp only [ba] at ha
  by_cases c:k<l.length
  ·left
   have d:l[k]?=some l[k]:=cm c
   have b:w64 ((k:Int)+1)=(k:Int)+1:=zw (by omega) (by omega)
   refine ⟨_,step a k _ d ha,?_,?_⟩
   ·refine ⟨by simp only [b];omega,by simp only [b];omega,?_⟩
    simp only [b]
    have:((k:Int)+1).toNat=k+1:=by omega
    rw [this,fp,d,List.foldl_append,←ha]
    rfl
   ·simp only [b];omega
  ·right
   have e:k=l.length:=by omega
   subst e
   rw [fq] at ha
   exact ⟨a,stop a ha,ha⟩
theorem zn9 {A B:Type} {F:Int×A->Option ((Int×A) ⊕ A)} (l:List B) (f:A->B->A) (a0:A) (hlen:l.length<=2000000)
  (step:∀ (a:A) (i:Nat) (x:B),l[i]?=some x->a=(l.take i).foldl f a0->F ((i:Int),a)=some (.inl (w64 ((i:Int)+1),f a x)))
  (stop:∀ a,a=l.foldl f a0->F ((l.length:Int),a)=some (.inr a)):iter F (0,a0)=some (l.foldl f a0):=by
 have key:=zA (F:=F) (fun s=>0<=s.1/\s.1<=l.length/\s.2=(l.take s.1.toNat).foldl f a0) (fun s=>(l.length - s.1).toNat) (fun z=>z=l.foldl f a0) ?_ (0,a0) ⟨by simp,by simp,by simp⟩
 ·obtain ⟨z,g,rfl⟩:=key;exact g
 ·rintro ⟨i,a⟩ ⟨h0,h1,ha⟩
  simp only at h0 h1 ha
  obtain ⟨k,rfl⟩:=az h0
  simp only [ba] at ha
  by_cases c:k<l.length
  ·left
   have d:l[k]?=some l[k]:=cm c
   have b:w64 ((k:Int)+1)=(k:Int)+1:=zw (by omega) (by omega)
   refine ⟨_,step a k _ d ha,?_,?_⟩
   ·refine ⟨by simp only [b];omega,by simp only [b];omega,?_⟩
    simp only [b]
    have:((k:Int)+1).toNat=k+1:=by omega
    rw [this,fp,d,List.foldl_append,←ha]
    rfl
   ·simp only [b];omega
  ·right
   have e:k=l.length:=by omega
   subst e
   rw [fq] at ha
   exact ⟨a,stop a ha,ha⟩
theorem zu {α:Type} {l:List α} {i:Nat} {x:α} (h:l[i]?=some x):idx l (i:Int)=some x:=by
 unfold idx
 rw [if_pos (by omega)]
 simpa using h
theorem zaP {α β:Type} (p:α->Bool) (g:α->β):∀ (l:List α) (a:List β),l.foldl (fun a x=>if p x then a++[g x] else a) a=a++(l.filter p).map g
 | [],a=>by simp
 | x::l,a=>by
  rw [ce,zaP p g l]
  by_cases hp:p x=true
  ·rw [if_pos hp,br hp];simp
  ·rw [if_neg hp,bq hp]
structure Lead (n:Nat) (L nm:List Int):Prop where
 len:L.length=n
 nlen:nm.length=n
 low:∀ (i:Nat) (p:Int),L[i]?=some p -> -1<=p/\p<i
 root:∀ (i:Nat) (r:Int),nm[i]?=some r->0<=r/\r<=i/\iter (gstep L) (i:Int)=some r/\∃ q,L[r.toNat]?=some q/\q<0
theorem zkD {L:List Int} {i:Int} {p:Int} (h0:0<=i) (h:L[i.toNat]?=some p) (hp:p<0):iter (gstep L) i=some i:=by
 apply zF
 unfold gstep
 rw [zfM h0 h]
 simp only [gp]
 rw [if_pos hp]
theorem zro {L:List Int} {i:Int} {p:Int} (h0:0<=i) (h:L[i.toNat]?=some p) (hp:0<=p):iter (gstep L) i=iter (gstep L) p:=by
 apply zx
 unfold gstep
 rw [zfM h0 h]
 simp only [gp]
 rw [if_neg (by omega)]
theorem zwn {L:List Int} (hL:∀ (i:Nat) (p:Int),L[i]?=some p -> -1<=p/\p<i) {m k:Int} (hm0:0<=m) (hk0:0<=k) (hkm:k<m) {q q':Int} (hm:L[m.toNat]?=some q) (hq:q<0) (hk:L[k.toNat]?=some q') (hq':q'<0) :
  ∀ (i:Nat) (r:Int),i<L.length->iter (gstep L) (i:Int)=some r->iter (gstep (L.set m.toNat k)) (i:Int)=some (if r=m then k else r):=by
 intro i
 induction i using Nat.strongRecOn with
 | _ i ih=>
  intro r hi c
  have g:=zz hm
  obtain ⟨p,hp⟩:∃ p,L[i]?=some p:=⟨_,cm hi⟩
  have h:=hL i p hp
  have d:L[(i:Int).toNat]?=some p:=by simpa using hp
  by_cases b:p<0
  ·rw [zkD (by omega) d b] at c
   injection c with c
   subst c
   by_cases a:(i:Int)=m
   ·subst a
    simp only [ba] at *
    rw [if_pos trivial]
    rw [zro (p:=k) (by omega) (by simp only [ba];rw [zW g]) hk0]
    exact zkD hk0 (by rw [zN (by omega)];exact hk) hq'
   ·rw [if_neg a]
    exact zkD (by omega) (by simp only [ba];rw [zN (by omega)];exact hp) b
  ·have a:m.toNat≠i:=fun e=>by
    rw [e,hp] at hm;injection hm with hm;omega
   rw [zro (by omega) d (by omega)] at c
   rw [zro (p:=p) (by omega) (by simp only [ba];rw [zN a];exact hp) (by omega)]
   have f:((p.toNat:Nat):Int)=p:=by omega
   rw [←f] at c ⊢
   exact ih p.toNat (by omega) r (by omega) c
def ren (x y:Int) (z:Int):Int:=if z=max x y then min x y else z
theorem zvz {n:Nat} {L nm:List Int} (h:Lead n L nm) {i j:Nat} {x y:Int} (hi:nm[i]?=some x) (hj:nm[j]?=some y) :
  Lead n (if x<y then L.set y.toNat x else if y<x then L.set x.toNat y else L) (nm.map (ren x y)):=by
 obtain ⟨C,x1,X,H,E,D⟩:=h.root i x hi
 obtain ⟨y0,U,Y,J,G,I⟩:=h.root j y hj
 have A:=zz hi
 have t:=zz hj
 have c:∀ (m k:Int) (q g:Int),0<=m->0<=k->k<m->m<=(n:Int)->L[m.toNat]?=some q->q<0->L[k.toNat]?=some g->g<0->Lead n (L.set m.toNat k) (nm.map fun z=>if z=m then k else z):=by
  intro m k q g w u s Q hm P F f
  refine ⟨by rw [dz];exact h.len,by rw [dv];exact h.nlen,fun a p hp=>?_,fun a r b=>?_⟩
  ·by_cases M:m.toNat=a
   ·subst M
    rw [zW (zz hm)] at hp
    injection hp with hp
    omega
   ·rw [zN M] at hp
    exact h.low a p hp
  ·rw [cq] at b
   cases hz:nm[a]? with
   | none=>rw [hz] at b;cases b
   | some z=>
    rw [hz] at b
    simp only [Option.map_some] at b
    injection b with b
    obtain ⟨V,T,R,S,N,O⟩:=h.root a z hz
    have B:a<L.length:=by have:=zz hz;rw [h.nlen] at this;rw [h.len];exact this
    have:=zwn h.low w u s hm P F f a z B R
    rw [b] at this
    subst b
    refine ⟨?_,?_,this,?_⟩
    ·split<;>omega
    ·split<;>omega
    ·by_cases d:z=m
     ·rw [if_pos d]
      exact ⟨g,by rw [zN (by omega)];exact F,f⟩
     ·rw [if_neg d]
      exact ⟨S,by rw [zN (by omega)];exact N,O⟩
 rw [h.nlen] at A t
 by_cases v:x<y
 ·rw [if_pos v]
  have e:nm.map (ren x y)=nm.map fun z=>if z=y then x else z:=by
   apply ef
   intro z _
   unfold ren
   rw [show max x y=y by omega,show min x y=x by omega]
  rw [e]
  exact c y x J H y0 C v (by omega) G I E D
 ·rw [if_neg v]
  by_cases l:y<x
  ·rw [if_pos l]
   have e:nm.map (ren x y)=nm.map fun z=>if z=x then y else z:=by
    apply ef
    intro z _
    unfold ren
    rw [show max x y=x by omega,show min x y=y by omega]
   rw [e]
   exact c x y H J C y0 l (by omega) E D G I
  ·rw [if_neg l]
   have:x=y:=by omega
   subst this
   have e:nm.map (ren x x)=nm:=by
    have:ren x x=id:=by
     funext z;unfold ren
     rw [Int.max_self,Int.min_self]
     split
     ·rename_i hz;exact hz.symm
     ·rfl
    rw [this,List.map_id]
   rw [e];exact h
def zjc (bs:List Bd) (nm:List Int):List Int:=bs.foldl (fun nm b=>nm.map (ren (nm.getD b.1.toNat 0) (nm.getD b.2.1.toNat 0))) nm
theorem zi1 {l:List Int} {i:Nat} {x:Int} (h:l[i]?=some x):l.getD i 0=x:=by
 rw [List.getD_eq_getElem?_getD,h];rfl
section
variable {n:Nat} {bs:List Bd}
theorem znl (hb:bs.length<=100000) (hw:WBs n bs) {L nm:List Int} (h:Lead n L nm) :
  ∃ L',iter (zd6 bs) (0,L)=some L'/\Lead n L' (zjc bs nm):=by
 have key:=zA (F:=zd6 bs) (fun s=>0<=s.1/\s.1<=bs.length/\Lead n s.2 (zjc (bs.take s.1.toNat) nm)) (fun s=>(bs.length - s.1).toNat)
  (fun L'=>Lead n L' (zjc bs nm)) ?_ (0,L) ⟨by simp,by simp,by simpa [zjc] using h⟩
 ·exact key
 ·rintro ⟨i,L⟩ ⟨h0,h1,hL⟩
  simp only at h0 h1 hL
  unfold zd6
  by_cases c:i<bs.length
  ·left
   obtain ⟨⟨x,y,s⟩,m,j⟩:=zS (l:=bs) h0 c
   obtain ⟨A,D,B,w,H,E,G⟩:=hw _ _ j
   simp only at A D B w H E G
   obtain ⟨g,b⟩:∃ z,z=zjc (bs.take i.toNat) nm:=⟨_,rfl⟩
   rw [←b] at hL
   obtain ⟨u,f⟩:∃ r,g[x.toNat]?=some r:=⟨_,cm (by rw [hL.nlen];omega)⟩
   obtain ⟨v,d⟩:∃ r,g[y.toNat]?=some r:=⟨_,cm (by rw [hL.nlen];omega)⟩
   obtain ⟨I,p,_⟩:=zS (l:=L) A (by rw [hL.len];exact D)
   obtain ⟨J,t,_⟩:=zS (l:=L) B (by rw [hL.len];exact w)
   obtain ⟨_,_,ix,_⟩:=hL.root _ _ f
   obtain ⟨_,_,C,_⟩:=hL.root _ _ d
   rw [show ((x.toNat:Nat):Int)=x by omega] at ix
   rw [show ((y.toNat:Nat):Int)=y by omega] at C
   have q:w64 (i+1)=i+1:=zw (by omega) (by omega)
   have e:=zvz hL f d
   have a:zjc (bs.take (i+1).toNat) nm=g.map (ren u v):=by
    have:(i+1).toNat=i.toNat+1:=by omega
    rw [this,fp,j]
    unfold zjc at b ⊢
    rw [List.foldl_append,←b]
    simp only [Option.toList_some,ce,List.foldl_nil]
    rw [zi1 f,zi1 d]
   simp only [c,decide_true,if_true,m,p,ix,t,C,gp]
   unfold zd8
   simp only [q]
   by_cases k:u<v
   ·rw [if_pos (by simp [k])]
    rw [if_pos k] at e
    exact ⟨_,rfl,⟨by simp only [];omega,by simp only [];omega,by simp only [];rw [a];exact e⟩,by simp only [];omega⟩
   ·rw [if_neg (by simp [k])]
    rw [if_neg k] at e
    by_cases c2:v<u
    ·rw [if_pos (by simp [c2])]
     rw [if_pos c2] at e
     exact ⟨_,rfl,⟨by simp only [];omega,by simp only [];omega,by simp only [];rw [a];exact e⟩,by simp only [];omega⟩
    ·rw [if_neg (by simp [c2])]
     rw [if_neg c2] at e
     exact ⟨_,rfl,⟨by simp only [];omega,by simp only [];omega,by simp only [];rw [a];exact e⟩,by simp only [];omega⟩
  ·right
   rw [if_neg (by simp [c])]
   refine ⟨_,rfl,?_⟩
   rw [show i.toNat=bs.length by omega,fq] at hL
   exact hL
theorem zvr (bs:List Bd):∀ (nm:List Int),(zjc bs nm).length=nm.length:=by
 induction bs with
 | nil=>intro nm;rfl
 | cons b bs ih=>intro nm;unfold zjc at ih ⊢;rw [ce,ih,dv]
theorem ztg {x y:Int} (nm:List Int) (hn:nm.length<=100000):iter (zc5 x y) (nm,0)=some (nm.map (ren x y)):=by
 have key:=zA (F:=zc5 x y) (fun s=>0<=s.2/\s.2<=nm.length/\s.1=(nm.take s.2.toNat).map (ren x y)++nm.drop s.2.toNat) (fun s=>(nm.length - s.2).toNat)
  (fun z=>z=nm.map (ren x y)) ?_ (nm,0) ⟨by simp,by simp,by simp⟩
 ·obtain ⟨z,h,rfl⟩:=key;exact h
 ·rintro ⟨l,i⟩ ⟨h0,h1,hl⟩
  simp only at h0 h1 hl
  obtain ⟨k,rfl⟩:=az h0
  simp only [ba] at hl
  have c:((nm.take k).map (ren x y)).length=k:=by rw [dv,ed];omega
  have q:l.length=nm.length:=by rw [hl,dl,c,dt];omega
  unfold zc5
  by_cases m:(k:Int)<l.length
  ·left
   obtain ⟨z,h⟩:∃ z,nm[k]?=some z:=⟨_,cm (by omega)⟩
   have d:l[k]?=some z:=by rw [hl,ci (by omega),c,Nat.sub_self,cj];simpa using h
   have g:zdd x y=some (max x y):=by unfold zdd;split<;>simp_all<;>omega
   have e:zfw x y=some (min x y):=by unfold zfw;split<;>simp_all<;>omega
   have p:w64 ((k:Int)+1)=(k:Int)+1:=zw (by omega) (by omega)
   simp only [m,decide_true,if_true,zu d,g,e,gp]
   unfold zfc
   simp only [p]
   have b:l.set k (ren x y z)=(nm.take (k+1)).map (ren x y)++nm.drop (k+1):=by
    rw [hl,List.set_append_right _ _ (by omega),c,Nat.sub_self,bh (by omega),List.set_cons_zero,fp,h]
    simp
   have f:((k:Int)+1).toNat=k+1:=by omega
   by_cases a:z=max x y
   ·rw [if_pos (by simp [a])]
    refine ⟨_,rfl,⟨by simp only [];omega,by simp only [];omega,?_⟩,by simp only [];omega⟩
    simp only [f,ba]
    rw [←b];unfold ren;rw [if_pos a]
   ·rw [if_neg (by simp [a])]
    refine ⟨_,rfl,⟨by simp only [];omega,by simp only [];omega,?_⟩,by simp only [];omega⟩
    simp only [f]
    rw [←b];unfold ren;rw [if_neg a]
    apply bl
    intro j
    by_cases n:k=j
    ·subst n;rw [zW (zz d),d]
    ·rw [zN n]
  ·right
   rw [if_neg (by simp;omega)]
   refine ⟨_,rfl,?_⟩
   rw [hl,show k=nm.length by omega]
   simp
theorem zt7 (hb:bs.length<=100000) (hw:WBs n bs) (nm:List Int) (hn:nm.length=n) (hn1:n<=100000):iter (zc8 bs) (nm,0)=some (zjc bs nm):=by
 refine zhl bs _ nm (by omega) ?_ ?_
 ·intro a i b c k
  obtain ⟨j,s,m,q,u,t,w⟩:=hw _ _ c
  have p:a.length=n:=by rw [k];exact (zvr _ _).trans hn
  unfold zc8
  obtain ⟨v,h,e⟩:=zS (l:=a) j (by omega)
  obtain ⟨r,f,d⟩:=zS (l:=a) m (by omega)
  have g:=zz c
  rw [if_pos (by simp [g])]
  simp only [zu c,h,f,gp,ztg a (by omega)]
  unfold zhz
  rw [zi1 e,zi1 d]
 ·intro a _
  unfold zc8
  rw [if_neg (by simp)]
end
def grp (nm:List Int) (i:Nat) (r:Int):List Int:=((List.range i).filter fun (k:Nat)=>decide (nm[k]?=some r)).map fun (k:Nat)=>(k:Int)
def zaM (nm:List Int) (i:Nat):List Int:=((List.range i).filter fun (k:Nat)=>decide (nm[k]?=some (k:Int))).map fun (k:Nat)=>(k:Int)
theorem zkE (nm:List Int) (i:Nat) (r:Int):grp nm (i+1) r=grp nm i r++if nm[i]?=some r then [(i:Int)] else []:=by
 unfold grp
 rw [fm,bp,ee]
 congr 1
 by_cases h:nm[i]?=some r
 ·rw [if_pos h,br (by simp [h])];rfl
 ·rw [if_neg h,bq (by simp [h])];rfl
theorem zfB (nm:List Int) (i:Nat):zaM nm (i+1)=zaM nm i++if nm[i]?=some (i:Int) then [(i:Int)] else []:=by
 unfold zaM
 rw [fm,bp,ee]
 congr 1
 by_cases h:nm[i]?=some (i:Int)
 ·rw [if_pos h,br (by simp [h])];rfl
 ·rw [if_neg h,bq (by simp [h])];rfl
theorem zqJ (nm:List Int) (r:Int):∀ i,(grp nm i r).length<=i
 | 0=>by simp [grp]
 | i+1=>by
  have:=zqJ nm r i
  rw [zkE,dl]
  split<;>simp<;>omega
theorem znu (nm:List Int):∀ i,(zaM nm i).length<=i
 | 0=>by simp [zaM]
 | i+1=>by
  have:=znu nm i
  rw [zfB,dl]
  split<;>simp<;>omega
theorem zqI {nm:List Int} {i:Nat} {r x:Int}:x∈grp nm i r↔0<=x/\x<i/\nm[x.toNat]?=some r:=by
 unfold grp
 simp only [ey,eu,fd,decide_eq_true_eq]
 constructor
 ·rintro ⟨k,⟨b,a⟩,rfl⟩
  exact ⟨by omega,by omega,by simpa using a⟩
 ·rintro ⟨b,a,c⟩
  exact ⟨x.toNat,⟨by omega,c⟩,by omega⟩
theorem zlV {nm:List Int} {i:Nat} {x:Int}:x∈zaM nm i↔0<=x/\x<i/\nm[x.toNat]?=some x:=by
 unfold zaM
 simp only [ey,eu,fd,decide_eq_true_eq]
 constructor
 ·rintro ⟨k,⟨b,a⟩,rfl⟩
  exact ⟨by omega,by omega,by simpa using a⟩
 ·rintro ⟨b,a,c⟩
  exact ⟨x.toNat,⟨by omega,by rw [c];congr 1;omega⟩,by omega⟩
theorem zpD (nm:List Int):∀ i,Inj (zaM nm i)
 | 0=>by intro i j x h;simp [zaM] at h
 | i+1=>by
  rw [zfB]
  split
  ·refine (zpD nm i).snoc fun h=>?_
   have:=(zlV.1 h).2.1
   omega
  ·rw [bf];exact zpD nm i
def zif (nm:List Int) (n:Nat):List (List Int):=(zaM nm n).map (grp nm n)
section
variable {n:Nat} {nm:List Int}
theorem zpA (hn:n<=100000) (hlen:nm.length=n) (hlow:∀ (i:Nat) (r:Int),nm[i]?=some r->0<=r/\r<=i) {out:List (List Int)} {i:Nat} (hi:i<n) :
  iter (zc6 n nm (out,i)) ([],(i:Int))=some (grp nm n i):=by
 have c:grp nm i (i:Int)=[]:=by
  rw [bi]
  intro x m
  obtain ⟨g,p,j⟩:=zqI.1 m
  have:=hlow _ _ j
  omega
 have key:=zA (F:=zc6 n nm (out,i)) (fun s=>(i:Int)<=s.2/\s.2<=n/\s.1=grp nm s.2.toNat i) (fun s=>((n:Int) - s.2).toNat)
  (fun z=>z=grp nm n i) ?_ ([],(i:Int)) ⟨by simp,by simp only [];omega,by simp [c]⟩
 ·obtain ⟨z,e,rfl⟩:=key;exact e
 ·rintro ⟨a,k⟩ ⟨h0,g,ha⟩
  simp only at h0 g ha
  obtain ⟨k,rfl⟩:=az (show 0<=k by omega)
  simp only [ba] at ha
  unfold zc6
  by_cases f:(k:Int)<n
  ·left
   obtain ⟨z,e⟩:∃ z,nm[k]?=some z:=⟨_,cm (by omega)⟩
   have h:w64 ((k:Int)+1)=(k:Int)+1:=zw (by omega) (by omega)
   have d:((k:Int)+1).toNat=k+1:=by omega
   have l:=zqJ nm i k
   simp only [f,decide_true,if_true,zu e,gp]
   unfold zfd
   simp only [h]
   by_cases b:z=i
   ·rw [if_pos (by simp [b]),zac (by rw [ha];simp;omega) (by rw [ha];simp;omega)]
    refine ⟨_,rfl,⟨by simp only [];omega,by simp only [];omega,?_⟩,by simp only [];omega⟩
    simp only [d]
    rw [zkE,e,if_pos (by rw [b]),ha]
   ·rw [if_neg (by simp [b])]
    refine ⟨_,rfl,⟨by simp only [];omega,by simp only [];omega,?_⟩,by simp only [];omega⟩
    simp only [d]
    rw [zkE,e,if_neg (by simpa using b),ha,bf]
  ·right
   rw [if_neg (by simp;omega)]
   exact ⟨_,rfl,by rw [ha,show k=n by omega]⟩
theorem zqk (hn:n<=100000) (hlen:nm.length=n) (hlow:∀ (i:Nat) (r:Int),nm[i]?=some r->0<=r/\r<=i) :
  iter (zc7 n nm) ([],0)=some (zif nm n):=by
 have key:=zA (F:=zc7 n nm) (fun s=>0<=s.2/\s.2<=n/\s.1=(zaM nm s.2.toNat).map (grp nm n)) (fun s=>((n:Int) - s.2).toNat)
  (fun z=>z=zif nm n) ?_ ([],0) ⟨by simp,by simp,by simp [zaM]⟩
 ·obtain ⟨z,d,rfl⟩:=key;exact d
 ·rintro ⟨a,k⟩ ⟨h0,h1,ha⟩
  simp only at h0 h1 ha
  obtain ⟨k,rfl⟩:=az h0
  simp only [ba] at ha
  unfold zc7
  by_cases e:(k:Int)<n
  ·left
   obtain ⟨z,d⟩:∃ z,nm[k]?=some z:=⟨_,cm (by omega)⟩
   have g:w64 ((k:Int)+1)=(k:Int)+1:=zw (by omega) (by omega)
   have c:((k:Int)+1).toNat=k+1:=by omega
   simp only [e,decide_true,if_true,zu d,gp]
   have f:=znu nm k
   have h:a.length<=k:=by rw [ha,dv];exact f
   by_cases b:z=k
   ·rw [if_neg (by simp [b]),zpA hn hlen hlow (by omega)]
    simp only [gp]
    unfold zhA zda
    rw [zac (by simp;omega) (by simp;omega)]
    simp only [gp,g]
    refine ⟨_,rfl,⟨by simp only [];omega,by simp only [];omega,?_⟩,by simp only [];omega⟩
    simp only [c]
    rw [zfB,d,if_pos (by rw [b]),ha,ee];rfl
   ·rw [if_pos (by simp [b])]
    unfold zda
    simp only [g]
    refine ⟨_,rfl,⟨by simp only [];omega,by simp only [];omega,?_⟩,by simp only [];omega⟩
    simp only [c]
    rw [zfB,d,if_neg (by simpa using b),ha,bf]
  ·right
   rw [if_neg (by simp;omega)]
   exact ⟨_,rfl,by rw [ha,show k=n by omega];rfl⟩
end
section
variable {n:Nat} {nm:List Int}
def zy1 (nm:List Int) (i:Nat) (pl:List (Int×Int)):Prop:=
 ∀ r:Int,(r∈zaM nm i->zgm pl r=true/\∃ j:Nat,zcT pl r=some (j:Int)/\(zaM nm i)[j]?=some r)/\(r∉zaM nm i->zgm pl r=false)
theorem ztG {α β:Type} [DecidableEq α] {m:List (α×β)} {k:α}:zgm m k=true↔∃ p∈m,p.1=k:=by
 unfold zgm
 simp
theorem ztC {α β:Type} [DecidableEq α] {m:List (α×β)} {k:α} {v:β} (h:zgm m k=false):zbC m k v=m++[(k,v)]:=by
 unfold zbC
 rw [if_neg (by simp [h])]
theorem zvu {α β:Type} [DecidableEq α] {m:List (α×β)} {k k':α} {v:β} (h:zgm m k=false):zcT (m++[(k,v)]) k'=if k'=k then some v else zcT m k':=by
 unfold zcT
 rw [List.find?_append]
 by_cases a:k'=k
 ·subst a
  rw [if_pos rfl]
  have b:m.find? (fun p=>decide (p.1=k'))=none:=by
   rw [List.find?_eq_none]
   intro p hp hd
   have:zgm m k'=true:=ztG.2 ⟨p,hp,by simpa using hd⟩
   rw [h] at this;cases this
  rw [b]
  simp
 ·rw [if_neg a]
  cases m.find? (fun p=>decide (p.1=k')) with
  | some p=>simp
  | none=>simp [show ¬k=k' from fun e=>a e.symm]
theorem zr8 {α β:Type} [DecidableEq α] {m:List (α×β)} {k k':α} {v:β}:zgm (m++[(k,v)]) k'=(zgm m k'||decide (k=k')):=by
 unfold zgm
 rw [List.any_append]
 simp
theorem zqz {L:List Int} (hn:n<=100000) (hL:Lead n L nm):iter (zd5 n L) ([],0,([]:List (Int×Int)))=some (zif nm n):=by
 have t:∀ (i:Nat) (r:Int),nm[i]?=some r->0<=r/\r<=i:=fun i r h=>⟨(hL.root i r h).1,(hL.root i r h).2.1⟩
 have key:=zA (F:=zd5 n L)
  (fun s=>0<=s.2.1/\s.2.1<=n/\s.1=(zaM nm s.2.1.toNat).map (grp nm s.2.1.toNat)/\zy1 nm s.2.1.toNat s.2.2) (fun s=>((n:Int) - s.2.1).toNat)
  (fun z=>z=zif nm n) ?_ ([],0,[]) ⟨by simp,by simp,by simp [zaM],fun r=>⟨fun h=>by simp [zaM] at h,fun _=>rfl⟩⟩
 ·obtain ⟨z,U,rfl⟩:=key;exact U
 ·rintro ⟨a,k,pl⟩ ⟨h0,M,ha,hpl⟩
  simp only at h0 M ha hpl
  obtain ⟨k,rfl⟩:=az h0
  simp only [ba] at ha hpl
  unfold zd5
  simp only [ba]
  by_cases A:(k:Int)<n
  ·left
   obtain ⟨r,d⟩:∃ r,nm[k]?=some r:=⟨_,cm (by rw [hL.nlen];omega)⟩
   obtain ⟨p,hp⟩:∃ p,L[k]?=some p:=⟨_,cm (by rw [hL.len];omega)⟩
   obtain ⟨T,r1,Y,q,O,Q⟩:=hL.root k r d
   have N:w64 ((k:Int)+1)=(k:Int)+1:=zw (by omega) (by omega)
   have b:((k:Int)+1).toNat=k+1:=by omega
   have V:=znu nm k
   have H:a.length=(zaM nm k).length:=by rw [ha,dv]
   simp only [A,decide_true,if_true,zu hp,Y,gp]
   by_cases f:r=k
   ·subst f
    have c:(k:Int)∉zaM nm k:=fun h=>by have:=(zlV.1 h).2.1;omega
    have g:=(hpl k).2 c
    rw [if_pos (by simp [g]),zac (by simp;omega) (by simp;omega),ztC g]
    simp only [gp]
    unfold zd9
    have y:idx (a++[([]:List Int)]) (a.length:Int)=some []:=zu (by rw [ci (fz _),Nat.sub_self];rfl)
    simp only [y,gp,zac (α:=Int) (bytes:=8) (l:=[]) (l2:=[(k:Int)]) (by simp) (by simp),N,ba]
    refine ⟨_,rfl,⟨by simp only [];omega,by simp only [];omega,?_,?_⟩,by simp only [];omega⟩
    ·simp only [b]
     rw [zfB,d,if_pos rfl,ee]
     rw [List.set_append_right _ _ (fz _),Nat.sub_self]
     simp only [List.set_cons_zero,eh,List.map_nil,fg]
     have P:grp nm (k+1) k=[(k:Int)]:=by
      have v:grp nm k (k:Int)=[]:=by
       rw [bi]
       intro x w
       obtain ⟨M,h2,X⟩:=zqI.1 w
       have:=t _ _ X
       omega
      rw [zkE,d,if_pos rfl,v];rfl
     rw [P,ha]
     congr 1
     apply ef
     intro x w
     rw [zkE,d,if_neg,bf]
     intro e
     injection e with e
     have:=(zlV.1 w).2.1
     omega
    ·simp only [b]
     unfold zy1
     rw [zfB,d,if_pos rfl]
     intro r
     constructor
     ·intro hm
      rw [zr8,zvu g]
      rcases ek.1 hm with hm | hm
      ·obtain ⟨D,j,C,m⟩:=(hpl r).1 hm
       refine ⟨by rw [D];rfl,j,?_,by rw [cg (zz m)];exact m⟩
       rw [if_neg (by intro e;subst e;exact c hm)];exact C
      ·rw [fe] at hm
       subst hm
       refine ⟨by simp,a.length,by rw [if_pos rfl],?_⟩
       rw [H,ci (fz _),Nat.sub_self];rfl
     ·intro hm
      rw [ek,fe,not_or] at hm
      rw [zr8,(hpl r).2 hm.1]
      simp
      intro e;exact hm.2 e.symm
   ·have E:r∈zaM nm k:=by
     refine zlV.2 ⟨T,by omega,?_⟩
     have c:r.toNat<nm.length:=by rw [hL.nlen];omega
     obtain ⟨J,u⟩:∃ J,nm[r.toNat]?=some J:=⟨_,cm c⟩
     obtain ⟨_,_,B,_⟩:=hL.root _ _ u
     have:=zkD (L:=L) (i:=((r.toNat:Nat):Int)) (by omega) (by rw [ba];exact O) Q
     rw [this] at B
     injection B with B
     rw [u];congr 1;omega
    obtain ⟨D,j,C,m⟩:=(hpl r).1 E
    rw [if_neg (by simp [D]),C]
    simp only [gq]
    unfold zd9
    have S:=zz m
    have y:a[j]?=some (grp nm k r):=by rw [ha,cq,m];rfl
    have Z:=zqJ nm r k
    simp only [zu y,gp,zac (bytes:=8) (l:=grp nm k r) (l2:=[(k:Int)]) (by simp;omega) (by simp;omega),N,ba]
    refine ⟨_,rfl,⟨by simp only [];omega,by simp only [];omega,?_,?_⟩,by simp only [];omega⟩
    ·simp only [b]
     rw [zfB,d,if_neg (by intro e;injection e with e;exact f e),bf]
     apply bl
     intro I
     rw [cq]
     by_cases G:j=I
     ·subst G
      rw [zW (zz y),m]
      simp only [Option.map_some]
      rw [zkE,d,if_pos rfl]
     ·rw [zN G,ha,cq]
      cases w:(zaM nm k)[I]? with
      | none=>rfl
      | some x=>
       simp only [Option.map_some]
       rw [zkE,d,if_neg,bf]
       intro e
       injection e with e
       subst e
       exact G (zpD nm k _ _ _ m w)
    ·simp only [b]
     unfold zy1
     rw [zfB,d,if_neg (by intro e;injection e with e;exact f e),bf]
     exact hpl
  ·right
   rw [if_neg (by simp;omega)]
   have R:k=n:=by omega
   subst R
   exact ⟨_,rfl,ha⟩
theorem zvH {n:Nat} (hn:n<=100000):iter (zd7 n) (0,[])=some (List.replicate n (-1)):=by
 have key:=zA (F:=zd7 n) (fun s=>0<=s.1/\s.1<=n/\s.2=List.replicate s.1.toNat (-1)) (fun s=>((n:Int) - s.1).toNat) (fun z=>z=List.replicate n (-1)) ?_ (0,[]) ⟨by simp,by simp,by simp⟩
 ·obtain ⟨z,d,rfl⟩:=key;exact d
 ·rintro ⟨i,L⟩ ⟨h0,h1,hL⟩
  simp only at h0 h1 hL
  unfold zd7
  simp only [ba]
  have e:L.length=i.toNat:=by rw [hL];simp
  by_cases a:i<n
  ·left
   have b:w64 (i+1)=i+1:=zw (by omega) (by omega)
   have c:zrq n L i=some (L++[-1]):=by unfold zrq;rw [if_pos ⟨by omega,by omega⟩]
   simp only [a,decide_true,if_true,c,b,gp]
   refine ⟨_,rfl,⟨by simp only [];omega,by simp only [];omega,?_⟩,by simp only [];omega⟩
   simp only
   rw [hL,show (i+1).toNat=i.toNat+1 by omega,List.replicate_succ']
  ·right
   rw [if_neg (by simp;omega)]
   exact ⟨_,rfl,by rw [hL,show i.toNat=n by omega]⟩
def ze4 (n:Nat):List Int:=(List.range n).map fun (k:Nat)=>(k:Int)
theorem zti {n:Nat} (hn:n<=100000):iter (zc9 n) ([],0)=some (ze4 n):=by
 have key:=zA (F:=zc9 n) (fun s=>0<=s.2/\s.2<=n/\s.1=ze4 s.2.toNat) (fun s=>((n:Int) - s.2).toNat) (fun z=>z=ze4 n) ?_ ([],0) ⟨by simp,by simp,by simp [ze4]⟩
 ·obtain ⟨z,d,rfl⟩:=key;exact d
 ·rintro ⟨a,i⟩ ⟨h0,h1,hL⟩
  simp only at h0 h1 hL
  unfold zc9
  have e:a.length=i.toNat:=by rw [hL];simp [ze4]
  by_cases b:i<n
  ·left
   have c:w64 (i+1)=i+1:=zw (by omega) (by omega)
   simp only [b,decide_true,if_true,zac (α:=Int) (bytes:=8) (l:=a) (l2:=[i]) (by simp;omega) (by simp;omega),c,gp]
   refine ⟨_,rfl,⟨by simp only [];omega,by simp only [];omega,?_⟩,by simp only [];omega⟩
   simp only
   rw [hL,show (i+1).toNat=i.toNat+1 by omega]
   unfold ze4
   rw [fm,ee]
   congr 1
   simp only [eh,List.map_nil]
   congr 1
   omega
  ·right
   rw [if_neg (by simp;omega)]
   exact ⟨_,rfl,by rw [hL,show i.toNat=n by omega]⟩
theorem zyg (n:Nat):Lead n (List.replicate n (-1)) (ze4 n):=by
 have b:∀ (i:Nat) (p:Int),(List.replicate n (-1:Int))[i]?=some p->p = -1:=by
  intro i p h
  rw [cz] at h
  split at h
  ·injection h with h;exact h.symm
  ·cases h
 refine ⟨by simp,by simp [ze4],fun i p h=>by rw [b i p h];omega,fun i r h=>?_⟩
 have hi:=zz h
 simp [ze4] at hi
 have c:r=i:=by
  simp [ze4,cq,cw hi] at h
  exact h.symm
 subst c
 have a:(List.replicate n (-1:Int))[i]?=some (-1):=by rw [cz,if_pos hi]
 exact ⟨by omega,by omega,zkD (by omega) (by simpa using a) (by omega),-1,by simpa using a,by omega⟩
theorem zvG {n:Nat} {bs:List Bd} (hn:n<=100000) (hb:bs.length<=100000) (hw:WBs n bs) :
  zi0 n bs=some (zif (zjc bs (ze4 n)) n)/\zhE n bs=some (zif (zjc bs (ze4 n)) n):=by
 obtain ⟨L,b,a⟩:=znl hb hw (zyg n)
 constructor
 ·unfold zi0 ziI ziH ziG
  have c:fmk 8 (n:Int)=some []:=by unfold fmk;rw [if_pos ⟨by omega,by omega,by omega⟩]
  simp only [c,gp,zvH hn,b,zqz hn a]
 ·unfold zhE zhD zhC zhB
  simp only [gp,zti hn]
  rw [zt7 hb hw _ (by simp [ze4]) hn]
  simp only [gp]
  rw [zqk hn a.nlen fun i r h=>⟨(a.root i r h).1,(a.root i r h).2.1⟩]
  simp only [gp]
theorem zqc (l:List Bd) (h:l.length<=2000000):zcu l=some l:=by
 unfold zcu zca
 rw [if_neg (by simp),zac (by simp;omega) (by simp;omega)]
 rfl
theorem zrL (l:List Bd) (h:l.length<=2000000) (p:Bd->Option Bool) (q:Bd->Bool) (hp:∀ b∈l,p b=some (q b)) :
  ∃ i:Int,zdk l p=some i/\((i = -1/\∀ b∈l,q b=false)\/(∃ k:Nat,i=k/\k<l.length/\(∀ (j:Nat) b,j<k->l[j]?=some b->q b=false)/\∃ b,l[k]?=some b/\q b=true)):=by
 have key:=zA (F:=zbP l p) (fun i=>0<=i/\i<=l.length/\∀ (j:Nat) b,(j:Int)<i->l[j]?=some b->q b=false) (fun i=>(l.length - i).toNat)
  (fun z=>match z with | .inl _=>∀ b∈l,q b=false | .inr i=>∃ k:Nat,i=k/\k<l.length/\(∀ (j:Nat) b,j<k->l[j]?=some b->q b=false)/\∃ b,l[k]?=some b/\q b=true) ?_ 0 ⟨by omega,by omega,fun j b e=>by omega⟩
 ·obtain ⟨z,t,n⟩:=key
  unfold zdk
  rw [t]
  cases z with
  | inl z=>exact ⟨-1,rfl,.inl ⟨rfl,n⟩⟩
  | inr i=>exact ⟨i,rfl,.inr n⟩
 ·rintro i ⟨s,u,a⟩
  obtain ⟨k,rfl⟩:=az s
  unfold zbP
  by_cases c:k<l.length
  ·have f:l[k]?=some l[k]:=cm c
   have g:=hp l[k] (dj c)
   have r:w64 ((k:Int)+1)=(k:Int)+1:=zw (by omega) (by omega)
   have hd:((k:Int)<(l.length:Int)):=by omega
   simp only [hd,decide_true,if_true,zu f,gp,g,r]
   cases hq:q l[k] with
   | true=>right;exact ⟨_,rfl,k,rfl,c,fun j b e=>a j b (by omega),_,f,hq⟩
   | false=>
    left
    refine ⟨_,rfl,⟨by omega,by omega,fun j b e d=>?_⟩,by omega⟩
    by_cases m:j=k
    ·subst m;rw [f] at d;injection d with d;rw [←d];exact hq
    ·exact a j b (by omega) d
  ·right
   have hd:¬((k:Int)<(l.length:Int)):=by omega
   simp only [hd,decide_false]
   refine ⟨_,rfl,?_⟩
   intro b d
   obtain ⟨j,e⟩:=cv d
   exact a j b (by have:=zz e;omega) e
theorem zmF {α:Type} {p:α->Bool} {l:List α} {k:Nat} (h:∀ (j:Nat) b,j<k->l[j]?=some b->p b=true):(l.take k).filter p=l.take k:=by
 rw [bu]
 intro b c
 obtain ⟨j,a⟩:=cv c
 have:=zz a
 rw [ed] at this
 rw [dh,if_pos (by omega)] at a
 exact h j b (by omega) a
theorem zpg (l:List Bd) (h:l.length<=2000000) (p:Bd->Option Bool) (q:Bd->Bool) (hp:∀ b∈l,p b=some (q b)) :
  zba l p=some (l.filter fun b=>!q b):=by
 obtain ⟨i,hi,u⟩:=zrL l h p q hp
 unfold zba
 simp only [hi,gp]
 rcases u with ⟨rfl,e⟩ | ⟨k,rfl,hk,hlow,b,g,hq⟩
 ·rw [if_pos (by simp)]
  congr 1
  symm
  rw [bu]
  intro b g;rw [e b g];rfl
 ·rw [if_neg (by simp)]
  have x:w64 ((k:Int)+1)=(k:Int)+1:=zw (by omega) (by omega)
  rw [x]
  have key:=zA (F:=zbr p) (fun s=>(k:Int)<s.2.2/\s.2.2<=l.length/\s.1.length=l.length/\0<=s.2.1/\s.2.1<s.2.2/\s.1.take s.2.1.toNat=(l.take s.2.2.toNat).filter (fun b=>!q b)/\∀ j,s.2.2.toNat<=j->s.1[j]?=l[j]?)
   (fun s=>(l.length - s.2.2).toNat) (fun z=>z.1.length=l.length/\0<=z.2/\z.2<=l.length/\z.1.take z.2.toNat=l.filter (fun b=>!q b)) ?_ (l,(k:Int),(k:Int)+1) ?_
  ·obtain ⟨⟨y,m⟩,G,E,C,J,A⟩:=key
   simp only at E C J A
   rw [G]
   simp only [gp]
   unfold zdD
   have L:clr y m ((0,0,0):Bd)=some (y.take m.toNat++List.replicate (y.length - m.toNat) (0,0,0)):=by unfold clr;rw [if_pos ⟨by omega,by omega⟩]
   have I:(y.take m.toNat).length=m.toNat:=by rw [ed];omega
   have hs:zjI (y.take m.toNat++List.replicate (y.length - m.toNat) ((0,0,0):Bd)) 0 m=some (y.take m.toNat):=by
    unfold zjI
    rw [if_pos ⟨by omega,by omega,by rw [dl,I,dy];omega⟩]
    simp only [Int.toNat_zero,List.drop_zero]
    rw [List.take_append_of_le_length (by omega),ft (by omega)]
   rw [L]
   simp only [gp,hs]
   rw [A]
  ·rintro ⟨y,m,j⟩ ⟨g1,g2,g3,g4,g5,g6,g7⟩
   simp only at g1 g2 g3 g4 g5 g6 g7
   obtain ⟨j,rfl⟩:=az (show 0<=j by omega)
   obtain ⟨m,rfl⟩:=az g4
   simp only [ba] at g6 g7
   unfold zbr zbs
   by_cases d:j<l.length
   ·left
    have c:l[j]?=some l[j]:=cm d
    have f:y[j]?=some l[j]:=by rw [g7 j (fz _)];exact c
    have t:=hp l[j] (dj d)
    have H:w64 ((j:Int)+1)=(j:Int)+1:=zw (by omega) (by omega)
    have n:w64 ((m:Int)+1)=(m:Int)+1:=zw (by omega) (by omega)
    have w:y[m]?=some y[m]:=cm (by omega)
    have a:((j:Int)+1).toNat=j+1:=by omega
    have r:((m:Int)+1).toNat=m+1:=by omega
    rw [if_pos (by simp;omega)]
    simp only [zu f,gp,t,H,n,zu w,ba]
    cases hq:q l[j] with
    | false=>
     rw [if_pos (by simp)]
     refine ⟨_,rfl,⟨by simp only [];omega,by simp only [];omega,by simp only [dz];exact g3,by simp only [];omega,by simp only [];omega,?_,fun i hi=>?_⟩,by simp only [];omega⟩
     ·simp only [a,r]
      rw [fp,zW (by omega),fp,c,bp,List.take_set_of_le (by omega),g6]
      simp [hq]
     ·simp only [a] at hi ⊢
      rw [zN (by omega)]
      exact g7 i (by omega)
    | true=>
     rw [if_neg (by simp)]
     refine ⟨_,rfl,⟨by simp only [];omega,by simp only [];omega,g3,by simp only [];omega,by simp only [];omega,?_,fun i hi=>?_⟩,by simp only [];omega⟩
     ·simp only [a,ba]
      rw [g6,fp,c,bp]
      simp [hq]
     ·simp only [a] at hi ⊢
      exact g7 i (by omega)
   ·right
    rw [if_neg (by simp;omega)]
    refine ⟨_,rfl,g3,by simp only [];omega,by simp only [];omega,?_⟩
    simp only [ba]
    rw [g6,show j=l.length by omega,fq]
  ·refine ⟨by simp only [];omega,by simp only [];omega,rfl,by simp only [];omega,by simp only [];omega,?_,fun j B=>rfl⟩
   simp only [ba]
   rw [show ((k:Int)+1).toNat=k+1 by omega,fp,g,bp,zmF fun j D B v=>by rw [hlow j D B v];rfl]
   simp [hq]
end
def WB (n:Int) (b:Bd):Prop:=0<=b.1/\b.1<n/\0<=b.2.1/\b.2.1<n/\b.1≠b.2.1/\0<=b.2.2/\b.2.2<=1000
theorem znr {n:Int} {bs:List Bd}:WBs n bs↔∀ b∈bs,WB n b:=by
 constructor
 ·intro h b c
  obtain ⟨k,a⟩:=cv c
  exact h k b a
 ·intro h k b a
  exact h b (fc a)
section
variable {n:Nat} {bs:List Bd}
theorem ztf (hb:bs.length<=100000) (t:Int):iter (zc3 bs t) ([],0)=some (bs.filter fun b=>!decide (b.2.2<t)):=by
 have e:(bs.filter fun b=>!decide (b.2.2<t))=bs.foldl (fun a x=>if (!decide (x.2.2<t)) then a++[x] else a) []:=by
  rw [zaP (p:=fun x:Bd=>!decide (x.2.2<t)) (g:=fun x=>x)]
  simp
 rw [e]
 refine zhl bs _ [] (by omega) ?_ ?_
 ·intro a i b c j
  have d:=zz c
  have f:a.length<=i:=by
   rw [j,zaP (p:=fun x:Bd=>!decide (x.2.2<t)) (g:=fun x=>x)]
   simp only [fg,dv]
   exact ga (du _ _) (by rw [ed];omega)
  unfold zc3 ze9
  rw [if_pos (by simp [d])]
  simp only [zu c,gp,zac (bytes:=24) (l:=a) (l2:=[b]) (by simp;omega) (by simp;omega)]
  by_cases h:b.2.2<t
  ·rw [if_neg (by simp;omega),if_neg (by simp [h])]
  ·rw [if_pos (by simp;omega),if_pos (by simp;omega)]
 ·intro a _
  unfold zc3
  rw [if_neg (by simp)]
theorem zv6 (G:List (List Int)):zaD G=ze8 G:=by
 funext s
 unfold zaD ze8
 by_cases h:s.2<(G.length:Int)
 ·rw [if_pos (by simp [h]),if_pos (by simp [h])]
  cases hx:idx G s.2 with
  | none=>
   have:zbM G s (s.1,0)=none:=by unfold zbM;rw [hx];rfl
   rw [zvB this];rfl
  | some g=>
   have:zbl s g=zbM G s:=by
    funext r
    unfold zbl zbM
    rw [hx]
    rfl
   simp only [gp,this]
   rfl
 ·rw [if_neg (by simp [h]),if_neg (by simp [h])]
theorem zu8 {G:List (List Int)} (hn:n<=100000) (hG:G.length<=100000) (hG1:1<=G.length) (hg:∀ g∈G,g.length<=100000/\∀ x∈g,0<=x/\x<n) :
  ∃ a,iter (zaD G) (List.replicate n 0,0)=some a/\a.length=n/\∀ x∈a,0<=x/\x<G.length:=by
 have p:∀ (a:List Int) (k:Nat) (v:Int),(∀ x∈a,0<=x/\x<(G.length:Int))->0<=v->v<G.length->∀ x∈a.set k v,0<=x/\x<(G.length:Int):=by
  intro a k v h e f x d
  rcases List.mem_or_eq_of_mem_set d with d | d
  ·exact h x d
  ·rw [d];exact ⟨e,f⟩
 refine zA (F:=zaD G) (fun s=>0<=s.2/\s.2<=G.length/\s.1.length=n/\∀ x∈s.1,0<=x/\x<G.length) (fun s=>(G.length - s.2).toNat)
  (fun a=>a.length=n/\∀ x∈a,0<=x/\x<G.length) ?_ (List.replicate n 0,0) ⟨by simp,by simp,by simp,fun x d=>by rw [(List.mem_replicate.1 d).2];omega⟩
 rintro ⟨a,i⟩ ⟨e,f,hl,hv⟩
 simp only at e f hl hv
 unfold zaD
 by_cases c:i<G.length
 ·left
  obtain ⟨g,r,u⟩:=zS (l:=G) e c
  obtain ⟨C,z⟩:=hg g (fc u)
  rw [if_pos (by simp [c])]
  simp only [r,gp]
  have key:=zA (F:=zbl (a,i) g) (fun s=>0<=s.2/\s.2<=g.length/\s.1.length=n/\∀ x∈s.1,0<=x/\x<G.length) (fun s=>(g.length - s.2).toNat)
   (fun a=>a.length=n/\∀ x∈a,0<=x/\x<G.length) ?_ (a,0) ⟨by simp,by simp,hl,hv⟩
  ·obtain ⟨w,B,k1,k2⟩:=key
   have q:w64 (i+1)=i+1:=zw (by omega) (by omega)
   rw [B]
   simp only [gp]
   unfold zhc
   simp only [q]
   exact ⟨_,rfl,⟨by simp only [];omega,by simp only [];omega,k1,k2⟩,by simp only [];omega⟩
  ·rintro ⟨a,j⟩ ⟨e,f,hl,hv⟩
   simp only at e f hl hv
   unfold zbl
   by_cases b:j<g.length
   ·left
    obtain ⟨x,d,t⟩:=zS (l:=g) e b
    have m:=z x (fc t)
    obtain ⟨y,A,_⟩:=zS (l:=a) m.1 (by rw [hl];exact m.2)
    have q:w64 (j+1)=j+1:=zw (by omega) (by omega)
    rw [if_pos (by simp [b])]
    simp only [d,A,gp,q]
    exact ⟨_,rfl,⟨by simp only [];omega,by simp only [];omega,by simp only [dz];exact hl,p _ _ _ hv (by omega) c⟩,by simp only [];omega⟩
   ·right
    rw [if_neg (by simp [b])]
    exact ⟨_,rfl,hl,hv⟩
 ·right
  rw [if_neg (by simp [c])]
  exact ⟨_,rfl,hl,hv⟩
def zoy (tab:List Int) (b:Bd):Bool:=!decide (tab.getD b.1.toNat 0=tab.getD b.2.1.toNat 0)
def zrU (tab:List Int) (b:Bd):Bd:=(tab.getD b.1.toNat 0,tab.getD b.2.1.toNat 0,b.2.2)
def zq2 (tab:List Int) (b:Bd):Bd:=(min (tab.getD b.1.toNat 0) (tab.getD b.2.1.toNat 0),max (tab.getD b.1.toNat 0) (tab.getD b.2.1.toNat 0),b.2.2)
theorem ztO {β:Type} (p:Bd->Bool) (g:Bd->β) (l:List Bd) (i:Nat) (hi:i<=l.length):((l.take i).foldl (fun a x=>if p x then a++[g x] else a) []).length<=i:=by
 rw [zaP]
 simp only [fg,dv]
 exact ga (du _ _) (by rw [ed];omega)
theorem zsQ (hb:bs.length<=100000) (hw:WBs n bs) {tab:List Int} (ht:tab.length=n):iter (zcJ bs tab) ([],0)=some ((bs.filter (zoy tab)).map (zrU tab)):=by
 have e:=zaP (zoy tab) (zrU tab) bs []
 rw [fg] at e
 rw [←e]
 refine zhl bs _ [] (by omega) ?_ ?_
 ·intro a i b c k
  have g:=zz c
  have q:a.length<=i:=by rw [k];exact ztO _ _ _ _ (by omega)
  obtain ⟨j,t,p,s,v,u,w⟩:=hw _ _ c
  obtain ⟨x,r,d⟩:=zS (l:=tab) j (by omega)
  obtain ⟨y,m,f⟩:=zS (l:=tab) p (by omega)
  unfold zcJ zex
  rw [if_pos (by simp [g])]
  simp only [zu c,r,m,gp,zac (bytes:=24) (l:=a) (l2:=[(x,y,b.2.2)]) (by simp;omega) (by simp;omega)]
  unfold zoy zrU
  rw [zi1 d,zi1 f]
  by_cases h:x=y
  ·rw [if_neg (by simp [h]),if_neg (by simp [h])]
  ·rw [if_pos (by simp [h]),if_pos (by simp [h])]
 ·intro a _
  unfold zcJ
  rw [if_neg (by simp)]
theorem zsz (hb:bs.length<=100000) (hw:WBs n bs) {tab:List Int} (ht:tab.length=n):iter (zc2 bs tab) ([],0)=some ((bs.filter (zoy tab)).map (zq2 tab)):=by
 have e:=zaP (zoy tab) (zq2 tab) bs []
 rw [fg] at e
 rw [←e]
 refine zhl bs _ [] (by omega) ?_ ?_
 ·intro a i b c p
  have k:=zz c
  have s:a.length<=i:=by rw [p];exact ztO _ _ _ _ (by omega)
  obtain ⟨m,v,r,u,z,w,A⟩:=hw _ _ c
  obtain ⟨x,t,g⟩:=zS (l:=tab) m (by omega)
  obtain ⟨y,q,j⟩:=zS (l:=tab) r (by omega)
  have f:zdd x y=some (max x y):=by unfold zdd;split<;>simp_all<;>omega
  have d:zfw x y=some (min x y):=by unfold zfw;split<;>simp_all<;>omega
  unfold zc2 zfa
  rw [if_pos (by simp [k])]
  simp only [zu c,t,q,f,d,gp,zac (bytes:=24) (l:=a) (l2:=[(min x y,max x y,b.2.2)]) (by simp;omega) (by simp;omega)]
  unfold zoy zq2
  rw [zi1 g,zi1 j]
  by_cases h:x=y
  ·rw [if_neg (by simp [h]),if_neg (by simp [h])]
  ·rw [if_pos (by simp [h]),if_pos (by simp [h])]
 ·intro a _
  unfold zc2
  rw [if_neg (by simp)]
theorem ztY (S:Int->Bool) (tab:List Int):∀ (l:List Bd),zfn S (l.map (zrU tab))=zfn S (l.map (zq2 tab))
 | []=>rfl
 | b::l=>by
  simp only [eh,zfn,ztY S tab l]
  congr 1
  unfold zrU zq2
  simp only
  rcases Int.le_total (tab.getD b.1.toNat 0) (tab.getD b.2.1.toNat 0) with h | h
  ·rw [Int.min_eq_left h,Int.max_eq_right h]
  ·rw [Int.min_eq_right h,Int.max_eq_left h]
   by_cases e:S (tab.getD b.1.toNat 0)=S (tab.getD b.2.1.toNat 0)
   ·rw [if_pos e,if_pos e.symm]
   ·rw [if_neg e,if_neg fun x=>e x.symm]
theorem zrR (hn0:1<=n) (hn:n<=100000) (d:bs.length<=100000) (hw:WBs n bs) (t:Int) :
  ∃ (m:Nat) (b1 b2:List Bd),zgS n bs t=some ((m:Int),b1)/\zhx n bs t=some ((m:Int),b2)/\1<=m/\m<=n/\WBs m b1/\WBs m b2/\b1.length<=100000/\b2.length<=100000/\∀ S,zfn S b1=zfn S b2:=by
 obtain ⟨f,e⟩:∃ z,z=bs.filter fun b=>!decide (b.2.2<t):=⟨_,rfl⟩
 have a8:f.length<=bs.length:=by rw [e];exact du _ _
 have v:WBs n f:=znr.2 fun b d=>znr.1 hw b (by rw [e] at d;exact (eu.1 d).1)
 obtain ⟨Y,Q⟩:=zvG hn (by omega:f.length<=100000) v
 obtain ⟨G,I⟩:∃ z,z=zif (zjc f (ze4 n)) n:=⟨_,rfl⟩
 rw [←I] at Y Q
 have i:G.length=(zaM (zjc f (ze4 n)) n).length:=by rw [I];unfold zif;rw [dv]
 have F:G.length<=n:=by rw [i];exact znu _ _
 obtain ⟨L,_,T⟩:=znl (by omega:f.length<=100000) v (zyg n)
 have s:1<=G.length:=by
  rw [i]
  obtain ⟨r,Z⟩:∃ r,(zjc f (ze4 n))[0]?=some r:=⟨_,cm (by rw [T.nlen];omega)⟩
  obtain ⟨r0,r1,_⟩:=T.root 0 r Z
  have E:r=0:=by omega
  have:(0:Int)∈zaM (zjc f (ze4 n)) n:=zlV.2 ⟨by omega,by omega,by simpa [E] using Z⟩
  exact List.length_pos_of_mem this
 have J:∀ g∈G,g.length<=100000/\∀ x∈g,0<=x/\x<n:=by
  intro g C
  rw [I] at C
  unfold zif at C
  obtain ⟨r,_,rfl⟩:=ey.1 C
  have:=zqJ (zjc f (ze4 n)) r n
  exact ⟨by omega,fun x H=>⟨(zqI.1 H).1,(zqI.1 H).2.1⟩⟩
 obtain ⟨a,P,k,p⟩:=zu8 hn (by omega) s J
 have j:∀ (g:Bd->Bd),((bs.filter (zoy a)).map g).length<=100000:=fun g=>by
  rw [dv];exact ga (du _ _) d
 have h:∀ b∈bs.filter (zoy a),WB n b/\0<=a.getD b.1.toNat 0/\a.getD b.1.toNat 0<G.length/\0<=a.getD b.2.1.toNat 0/\a.getD b.2.1.toNat 0<G.length/\a.getD b.1.toNat 0≠a.getD b.2.1.toNat 0:=by
  intro b d
  obtain ⟨h1,B⟩:=eu.1 d
  have D:=znr.1 hw b h1
  obtain ⟨N,w2,O,w4,w5,w,A⟩:=D
  obtain ⟨x,H,u⟩:=zS (l:=a) N (by omega)
  obtain ⟨y,hy,q⟩:=zS (l:=a) O (by omega)
  have e1:=p x (fc u)
  have U:=p y (fc q)
  unfold zoy at B
  rw [zi1 u,zi1 q] at B ⊢
  exact ⟨⟨N,w2,O,w4,w5,w,A⟩,e1.1,e1.2,U.1,U.2,by simpa using B⟩
 refine ⟨G.length,_,_,?_,?_,s,F,?_,?_,j (zrU a),j (zq2 a),fun S=>ztY S a _⟩
 ·unfold zgS zhe zhd
  have hd:=zpg bs (by omega) (fun q0=>zhf q0 t) (fun b=>decide (b.2.2<t)) (fun b _=>rfl)
  rw [zqc bs (by omega)]
  simp only [gp]
  rw [hd,←e]
  simp only [gp,Y,zqH (n:=(n:Int)) (by omega) (by omega),ba,P,zsQ d hw k]
 ·unfold zhx zhw zhv zhu
  rw [ztf d t,←e]
  simp only [gp,Q,zqH (n:=(n:Int)) (by omega) (by omega),ba]
  rw [←zv6 G]
  simp only [P,gp,zsz d hw k]
 ·rw [znr]
  intro b d
  obtain ⟨c,M,rfl⟩:=ey.1 d
  obtain ⟨⟨_,_,_,_,_,w,A⟩,a1,a2,R,X,V⟩:=h c M
  exact ⟨a1,a2,R,X,V,w,A⟩
 ·rw [znr]
  intro b d
  obtain ⟨c,M,rfl⟩:=ey.1 d
  obtain ⟨⟨_,_,_,_,_,w,A⟩,a1,a2,R,X,V⟩:=h c M
  unfold zq2 WB
  simp only
  omega
theorem ztN {m:Int} {b1 b2:List Bd} {t:Int} (h:∀ S,zfn S b1=zfn S b2):Holds m b1 t↔Holds m b2 t:=by
 unfold Holds
 constructor
 ·intro a S hS b;rw [←h S];exact a S hS b
 ·intro a S hS b;rw [h S];exact a S hS b
theorem zvb {p0:(List ((List UInt8)×Int))×(List ((List UInt8)×(List Int)))} {p1:List ((Int×Int)×Int)} (hn0:1<=p1.length) (hn:p1.length<=100000) (hb:bs.length<=100000) (hw:WBs p1.length bs)
  (h1:zaE p0 p1=some bs) (h2:zdB p0 p1=some bs) (t:Int) :
  ∃ a b c d,zdP p0 p1 t=some (a,b)/\zht p0 p1 t=some (c,d)/\(if !b then (false,(4:Int)) else (a,0))=(c,d):=by
 obtain ⟨m,A,C,u,q,D,B,w,k,r,s,l⟩:=zrR hn0 hn hb hw t
 unfold zdP zht
 simp only [h1,h2,u,q,gp]
 by_cases e:(m:Int)>64
 ·rw [if_pos (by simpa using e),if_pos (by simpa using e)]
  exact ⟨_,_,_,_,rfl,rfl,rfl⟩
 ·rw [if_neg (by simpa using e),if_neg (by simpa using e)]
  obtain ⟨a,z,f⟩:=zun (n:=(m:Int)) (by omega) (by omega) r w t
  simp only [z,gp]
  by_cases g:(m:Int)<2
  ·rw [if_pos (by simpa using g)]
   have:a=true:=f.2 fun S hS ⟨y,hy1,hy2,_⟩=>by omega
   subst this
   exact ⟨_,_,_,_,rfl,rfl,rfl⟩
  ·rw [if_neg (by simpa using g)]
   obtain ⟨v,p,x,i⟩:=zsq (n:=(m:Int)) (by omega) (by omega) s k
   simp only [x,gp]
   refine ⟨_,_,_,_,rfl,rfl,?_⟩
   have:a=decide (v≥t):=by
    have j:=(i t).trans (ztN l).symm
    cases a with
    | true=>symm;simpa using j.2 (f.1 rfl)
    | false=>
     symm
     simp only [decide_eq_false_iff_not]
     intro h
     have:=f.2 (j.1 h)
     cases this
   rw [this];rfl
end
theorem zi3 {S:Type} (st:Nat->S) (i0 N:Nat) (ok:Nat->Prop) (F:S->Option (S ⊕ (Unit ⊕ Bool))) (h0:i0<=N)
  (step:∀ i,i0<=i->i<N->(∀ j,i0<=j->j<i->ok j)->ok i->F (st i)=some (.inl (st (i+1))))
  (fail:∀ i,i0<=i->i<N->(∀ j,i0<=j->j<i->ok j)->¬ok i->F (st i)=some (.inr (.inr false)))
  (stop:(∀ j,i0<=j->j<N->ok j)->F (st N)=some (.inr (.inl ()))) :
  (iter F (st i0)=some (.inl ())/\∀ i,i0<=i->i<N->ok i)\/(iter F (st i0)=some (.inr false)/\¬ ∀ i,i0<=i->i<N->ok i):=by
 classical
 have key:∀ d i,i+d=N->i0<=i->(∀ j,i0<=j->j<i->ok j)->(iter F (st i)=some (.inl ())/\∀ i,i0<=i->i<N->ok i)\/(iter F (st i)=some (.inr false)/\¬ ∀ i,i0<=i->i<N->ok i):=by
  intro d
  induction d with
  | zero=>
   intro i hi c a
   have:i=N:=by omega
   subst this
   exact .inl ⟨zF (stop a),a⟩
  | succ d ih=>
   intro i hi c a
   by_cases b:ok i
   ·rw [zx (step i c (by omega) a b)]
    exact ih (i+1) (by omega) (by omega) fun j e g=>by
     by_cases f:j=i
     ·subst f;exact b
     ·exact a j e (by omega)
   ·exact .inr ⟨zF (fail i c (by omega) a b),fun h=>b (h i c (by omega))⟩
 exact key (N - i0) i0 (by omega) (fz _) fun j l k=>by omega
theorem ziF {α:Type} (l:List α) (h:l.length<=2000000) (p:α->Option Bool) (q:α->Bool) (hp:∀ b∈l,p b=some (q b)) (F:Int->Option (Int ⊕ (Unit ⊕ Int)))
  (hF:∀ i,F i=if decide (i<(l.length:Int)) then ((idx l i).bind fun x=>(p x).bind fun b=>if b then (some (.inr (.inr i))) else (some (.inl (w64 (i+1))))) else (some (.inr (.inl ())))) :
  (iter F 0=some (.inl ())/\∀ b∈l,q b=false)\/(∃ k:Nat,iter F 0=some (.inr (k:Int))/\k<l.length/\(∀ (j:Nat) b,j<k->l[j]?=some b->q b=false)/\∃ b,l[k]?=some b/\q b=true):=by
 have key:=zA (F:=F) (fun i=>0<=i/\i<=l.length/\∀ (j:Nat) b,(j:Int)<i->l[j]?=some b->q b=false) (fun i=>(l.length - i).toNat)
  (fun z=>match z with | .inl _=>∀ b∈l,q b=false | .inr i=>∃ k:Nat,i=k/\k<l.length/\(∀ (j:Nat) b,j<k->l[j]?=some b->q b=false)/\∃ b,l[k]?=some b/\q b=true) ?_ 0 ⟨by omega,by omega,fun j b f=>by omega⟩
 ·obtain ⟨z,r,n⟩:=key
  cases z with
  | inl z=>exact .inl ⟨r,n⟩
  | inr i=>
   obtain ⟨k,rfl,e⟩:=n
   exact .inr ⟨k,r,e⟩
 ·rintro i ⟨t,u,a⟩
  obtain ⟨k,rfl⟩:=az t
  rw [hF]
  by_cases c:k<l.length
  ·have e:l[k]?=some l[k]:=cm c
   have g:=hp l[k] (dj c)
   have s:w64 ((k:Int)+1)=(k:Int)+1:=zw (by omega) (by omega)
   have hd:((k:Int)<(l.length:Int)):=by omega
   simp only [hd,decide_true,if_true,zu e,gp,g,s]
   cases hq:q l[k] with
   | true=>right;exact ⟨_,rfl,k,rfl,c,fun j b f=>a j b (by omega),_,e,hq⟩
   | false=>
    left
    refine ⟨_,rfl,⟨by omega,by omega,fun j b f d=>?_⟩,by omega⟩
    by_cases m:j=k
    ·subst m;rw [e] at d;injection d with d;rw [←d];exact hq
    ·exact a j b (by omega) d
  ·right
   have hd:¬((k:Int)<(l.length:Int)):=by omega
   simp only [hd,decide_false]
   refine ⟨_,rfl,?_⟩
   intro b d
   obtain ⟨j,f⟩:=cv d
   exact a j b (by have:=zz f;omega) f
abbrev Gl:=List UInt8×Int
abbrev Tl:=List UInt8×List Int
abbrev TSet:=List Gl×List Tl
abbrev Pt:=Int×Int
abbrev Plc:=(Int×Int)×Int
def zf3 (c:UInt8):Bool:=(decide (97<=(c.toNat:Int))&&decide ((c.toNat:Int)<=122))||(decide (65<=(c.toNat:Int))&&decide ((c.toNat:Int)<=90))
def zlI (c:UInt8):Bool:=decide (48<=(c.toNat:Int))&&decide ((c.toNat:Int)<=57)
def zou (s:List UInt8):Prop:=1<=s.length/\s.length<=12/\∀ (i:Nat) (c:UInt8),s[i]?=some c->zf3 c=true\/(1<=i/\(zlI c=true\/(c.toNat:Int)=95))
theorem zmR (c:UInt8):zfv (c.toNat:Int)=some (zf3 c):=by
 unfold zfv zf3
 by_cases a:97<=(c.toNat:Int)<;>by_cases b:(c.toNat:Int)<=122<;>by_cases e:65<=(c.toNat:Int)<;>by_cases d:(c.toNat:Int)<=90<;>simp [*]<;>omega
theorem zq0 (c:UInt8):ziT (c.toNat:Int)=some (zlI c):=by
 unfold ziT zlI
 by_cases a:48<=(c.toNat:Int)<;>by_cases b:(c.toNat:Int)<=57<;>simp [*]<;>omega
theorem ztj (s:List UInt8) (h:s.length<=2000000):∃ b,zfy s=some b/\(b=true↔zou s):=by
 unfold zfy zfx
 by_cases t:s.length<1
 ·rw [if_pos (by simp;omega),if_pos rfl]
  exact ⟨_,rfl,by simp;unfold zou;omega⟩
 ·rw [if_neg (by simp;omega)]
  by_cases r:s.length>12
  ·rw [if_pos (by simp;omega),if_pos rfl]
   exact ⟨_,rfl,by simp;unfold zou;omega⟩
  ·rw [if_neg (by simp;omega)]
   have g:s[0]?=some s[0]:=cm (by omega)
   have n:idx s 0=some s[0]:=zu (i:=0) g
   simp only [n,gp,zmR]
   cases hl:zf3 s[0] with
   | false=>
    refine ⟨false,rfl,by simp;rintro ⟨_,_,p⟩;have:=p 0 _ g;rw [hl] at this;simp at this⟩
   | true=>
    rw [if_neg (by simp)]
    have key:=zi3 (fun i=>(i:Int)) 1 s.length (fun i=>∀ c,s[i]?=some c->zf3 c=true\/zlI c=true\/(c.toNat:Int)=95) (zbB s) (by omega) ?_ ?_ ?_
    rcases key with ⟨j,k⟩ | ⟨j,hnot⟩
    ·have j:iter (zbB s) 1=some (.inl ()):=j
     rw [j]
     refine ⟨true,rfl,fun _=>⟨by omega,by omega,fun i c a=>?_⟩,fun _=>rfl⟩
     cases i with
     | zero=>rw [g] at a;injection a with a;rw [←a];exact .inl hl
     | succ i=>
      rcases k (i+1) (by omega) (zz a) c a with h | h
      ·exact .inl h
      ·exact .inr ⟨by omega,h⟩
    ·have j:iter (zbB s) 1=some (.inr false):=j
     rw [j]
     refine ⟨false,rfl,fun h=>(by cases h),fun q=>absurd (fun i l hi c a=>?_) hnot⟩
     rcases q.2.2 i c a with h | h
     ·exact .inl h
     ·exact .inr h.2
    ·intro i l hi _ f
     unfold zbB
     have a:s[i]?=some s[i]:=cm hi
     rw [if_pos (by simp [hi])]
     simp only [zu a,gp,zmR,zq0]
     have m:w64 ((i:Int)+1)=((i+1:Nat):Int):=by rw [zw (by omega) (by omega)];omega
     unfold zdW
     rcases f _ a with h | h | h
     ·simp [h,m]
     ·simp [h,m]
     ·simp [h,m]
    ·intro i l hi _ f
     unfold zbB
     have a:s[i]?=some s[i]:=cm hi
     rw [if_pos (by simp [hi])]
     simp only [zu a,gp,zmR,zq0]
     unfold zdW
     have d:¬(zf3 s[i]=true\/zlI s[i]=true\/(s[i].toNat:Int)=95):=fun h=>f fun c e=>by rw [a] at e;injection e with e;rw [←e];exact h
     simp only [not_or,Bool.not_eq_true] at d
     simp [d.1,d.2.1,d.2.2]
    ·intro _
     unfold zbB
     rw [if_neg (by simp)]
theorem ztM (s:List UInt8) (h:s.length<=2000000):∃ b,zfL s=some b/\(b=true↔zou s):=by
 have e:∀ (i:Nat) (c:UInt8),s[i]?=some c->zbG s (i:Int)=zaY (i:Int) c (zf3 c):=by
  intro i c d
  have hi:=zz d
  unfold zbG
  rw [if_pos (by simp [hi])]
  simp only [zu d,gp]
  unfold zf3
  by_cases t:97<=(c.toNat:Int)<;>by_cases w:(c.toNat:Int)<=122<;>by_cases y:65<=(c.toNat:Int)<;>by_cases x:(c.toNat:Int)<=90<;>simp [*]<;>omega
 unfold zfL zkB
 have key:=zi3 (fun i=>(i:Int)) 0 s.length (fun i=>∀ c,s[i]?=some c->zf3 c=true\/(1<=i/\(zlI c=true\/(c.toNat:Int)=95))) (zbG s) (by omega) ?_ ?_ ?_
 rcases key with ⟨j,q⟩ | ⟨j,hnot⟩
 ·have j:iter (zbG s) 0=some (.inl ()):=j
  rw [j]
  by_cases t:1<=s.length
  ·refine ⟨decide ((s.length:Int)<=12),by simp;omega,?_⟩
   simp only [decide_eq_true_eq]
   exact ⟨fun w=>⟨t,by omega,fun i c d=>q i (by omega) (zz d) c d⟩,fun p=>by have:=p.2.1;omega⟩
  ·refine ⟨false,by simp;intro h;omega,fun h=>(by cases h),fun p=>absurd p.1 t⟩
 ·have j:iter (zbG s) 0=some (.inr false):=j
  rw [j]
  exact ⟨false,rfl,fun h=>(by cases h),fun p=>absurd (fun i _ hi c d=>p.2.2 i c d) hnot⟩
 ·intro i v hi _ k
  have d:s[i]?=some s[i]:=cm hi
  rw [e i _ d]
  have n:w64 ((i:Int)+1)=((i+1:Nat):Int):=by rw [zw (by omega) (by omega)];omega
  unfold zaY zbH
  rcases k _ d with h | ⟨h0,h | h⟩
  ·simp [h,n]
  ·unfold zlI at h
   simp at h
   cases u:zf3 s[i] with
   | true=>simp [n]
   | false=>
    have l:¬((i:Int)=0):=by omega
    have m:¬((s[i].toNat:Int)<48):=by omega
    have r:¬((s[i].toNat:Int)>57):=by omega
    simp only [l,m,r,decide_false];simp [n]
  ·cases u:zf3 s[i] with
   | true=>simp [n]
   | false=>
    have l:¬((i:Int)=0):=by omega
    have m:¬((s[i].toNat:Int)<48):=by omega
    have r:((s[i].toNat:Int)>57):=by omega
    simp only [l,m,r,decide_false,decide_true,h];simp [n]
 ·intro i v hi _ k
  have d:s[i]?=some s[i]:=cm hi
  rw [e i _ d]
  unfold zaY zbH
  have g:¬(zf3 s[i]=true\/(1<=i/\(zlI s[i]=true\/(s[i].toNat:Int)=95))):=fun h=>k fun c f=>by rw [d] at f;injection f with f;rw [←f];exact h
  rw [not_or] at g
  have u:zf3 s[i]=false:=by simpa using g.1
  rw [u]
  by_cases l:(i:Int)=0
  ·simp [l]
  ·have a:¬(zlI s[i]=true\/(s[i].toNat:Int)=95):=fun h=>g.2 ⟨by omega,h⟩
   rw [not_or] at a
   have hd:=a.1
   unfold zlI at hd
   simp at hd
   by_cases m:(s[i].toNat:Int)<48
   ·simp only [l,m,decide_false,decide_true,a.2];simp
   ·have r:(s[i].toNat:Int)>57:=by omega
    simp only [l,m,r,decide_false,decide_true,a.2];simp
 ·intro _
  unfold zbG
  rw [if_neg (by simp)]
theorem zf5 (s:List UInt8) (h:s.length<=2000000):∃ b,zfL s=some b/\zfy s=some b/\(b=true↔zou s):=by
 obtain ⟨a,c,d⟩:=ztM s h
 obtain ⟨b,e,f⟩:=ztj s h
 have:a=b:=by
  cases a<;>cases b<;>simp_all
 subst this
 exact ⟨a,c,e,d⟩
theorem zbK (a b c:Int):zaI a b c=some (decide (b<=a/\a<=c)):=by
 unfold zaI
 by_cases d:a≥b<;>by_cases e:a<=c<;>simp [*]<;>omega
theorem zds (a b c:Int):zat a b c=some (decide (b<=a/\a<=c)):=by
 unfold zat
 by_cases d:a≥b<;>by_cases e:a<=c<;>simp [*]<;>omega
def GlueOk (set:TSet) (i:Nat):Prop:=∀ g,set.1[i]?=some g->zou g.1/\1<=g.2/\g.2<=4/\∀ (j:Nat) (g':Gl),j<i->set.1[j]?=some g'->g'.1≠g.1
def TileOk (set:TSet) (i:Nat):Prop:=∀ t,set.2[i]?=some t->zou t.1/\t.2.length=4/\(∀ (j:Nat) (t':Tl),j<i->set.2[j]?=some t'->t'.1≠t.1)/\∀ x∈t.2,0<=x/\x<=set.1.length
structure SetOk (set:TSet):Prop where
 glues:set.1.length<=200
 tiles1:1<=set.2.length
 tiles:set.2.length<=160
 glue:∀ i,i<set.1.length->GlueOk set i
 tile:∀ i,i<set.2.length->TileOk set i
structure Tame (set:TSet):Prop where
 g:set.1.length<=1048576
 t:set.2.length<=1048576
 gn:∀ x∈set.1,x.1.length<=1048576
 tn:∀ x∈set.2,x.1.length<=1048576
 ts:∀ x∈set.2,x.2.length<=1048576
theorem zme {α:Type} (l:List (List UInt8×α)) (s:List UInt8):(zcT (l.map fun g=>(g.1,true)) s).getD false=true↔∃ g∈l,g.1=s:=by
 induction l with
 | nil=>simp [zcT]
 | cons g l ih=>
  unfold zcT at ih ⊢
  rw [eh,List.find?_cons]
  by_cases h:g.1=s
  ·simp [h]
  ·simp only [h,decide_false]
   rw [ih]
   simp [h]
theorem zuj {α:Type} (l:List (List UInt8×α)) (s:List UInt8):zgm (l.map fun g=>(g.1,true)) s=true↔∃ g∈l,g.1=s:=by
 rw [ztG]
 simp
theorem zra {α:Type} {l:List (List UInt8×α)} {g:List UInt8×α} (h:¬ ∃ g'∈l,g'.1=g.1):zbC (l.map fun g=>(g.1,true)) g.1 true=(l++[g]).map fun g=>(g.1,true):=by
 rw [ztC (by cases hh:zgm (l.map fun g=>(g.1,true)) g.1 with | false=>rfl | true=>exact absurd ((zuj l g.1).1 hh) h)]
 simp
theorem zlK {α:Type} {l:List α} {i:Nat} {x:α} (h:l[i]?=some x):l.take (i+1)=l.take i++[x]:=by
 rw [fp,h];rfl
theorem zla {α:Type} {l:List α} {i:Nat} {P:α->Prop} (hi:i<=l.length):(∃ g∈l.take i,P g)↔∃ (j:Nat) (g:α),j<i/\l[j]?=some g/\P g:=by
 constructor
 ·rintro ⟨g,c,b⟩
  obtain ⟨j,a⟩:=cv c
  have:=zz a
  rw [ed] at this
  rw [dh,if_pos (by omega)] at a
  exact ⟨j,g,by omega,a,b⟩
 ·rintro ⟨j,g,a,c,b⟩
  exact ⟨g,fc (i:=j) (by rw [dh,if_pos a];exact c),b⟩
def zm1 (l:List Int) (m:Int):Bool:=l.all fun x=>decide (0<=x/\x<=m)
theorem zmb {l:List Int} {m:Int}:zm1 l m=true↔∀ x∈l,0<=x/\x<=m:=by
 unfold zm1;simp
theorem znn (l:List Int) (hl:l.length<=1048576) (set:TSet):zbS l (fun q0=>zbm q0 set)=some (!zm1 l set.1.length):=by
 unfold zbS zfz zd0
 have hp:∀ b∈l,(fun q0=>zbm q0 set) b=some (!decide (0<=b/\b<=(set.1.length:Int))):=by
  intro b _
  simp only [zbm,zbK,gp]
 rcases ziF l (by omega) (fun q0=>zbm q0 set) (fun b=>!decide (0<=b/\b<=(set.1.length:Int))) hp (zdZ l fun q0=>zbm q0 set) (fun i=>rfl) with ⟨c,a⟩ | ⟨k,c,hk,_,b,hb,hq⟩
 ·rw [c]
  have:zm1 l set.1.length=true:=by
   rw [zmb]
   intro x d;have:=a x d;simpa using this
  simp [this]
 ·rw [c]
  have:zm1 l set.1.length=false:=by
   cases h:zm1 l set.1.length with
   | false=>rfl
   | true=>
    have e:=zmb.1 h b (fc hb)
    simp at hq
    omega
  simp [this]
theorem zrN (set:TSet) (hT:Tame set):∃ b,zgE set=some b/\(b=true↔SetOk set):=by
 unfold zgE zga
 by_cases E:(set.1.length:Int)>200
 ·rw [if_pos (by simp;omega),if_pos rfl]
  exact ⟨_,rfl,fun h=>(by cases h),fun h=>by have:=h.glues;omega⟩
 rw [if_neg (by simp;omega),zbK]
 simp only [gp]
 by_cases D:1<=(set.2.length:Int)/\(set.2.length:Int)<=160
 rotate_left
 ·rw [if_pos (by simp;omega)]
  exact ⟨_,rfl,fun h=>(by cases h),fun h=>absurd ⟨by have:=h.tiles1;omega,by have:=h.tiles;omega⟩ D⟩
 rw [if_neg (by simp;omega)]
 have key:=zi3 (fun i=>((i:Int),(set.1.take i).map fun g=>(g.1,true))) 0 set.1.length (GlueOk set) (zaL set) (by omega) ?_ ?_ ?_
 rcases key with ⟨r,x⟩ | ⟨r,hnot⟩
 ·have r:iter (zaL set) (0,[])=some (.inl ()):=r
  rw [r]
  simp only [gp]
  unfold ziK ziJ
  have key:=zi3 (fun i=>((i:Int),(set.2.take i).map fun g=>(g.1,true))) 0 set.2.length (TileOk set) (zaK set) (by omega) ?_ ?_ ?_
  rcases key with ⟨f,v⟩ | ⟨f,hnot2⟩
  ·have f:iter (zaK set) (0,[])=some (.inl ()):=f
   rw [f]
   exact ⟨true,rfl,fun _=>⟨by omega,by omega,by omega,fun i hi=>x i (by omega) hi,fun i hi=>v i (by omega) hi⟩,fun _=>rfl⟩
  ·have f:iter (zaK set) (0,[])=some (.inr false):=f
   rw [f]
   exact ⟨false,rfl,fun h=>(by cases h),fun h=>absurd (fun i _ hi=>h.tile i hi) hnot2⟩
  ·intro i _ hi _ k
   have m:set.2[i]?=some set.2[i]:=cm hi
   obtain ⟨o1,o2,A,B⟩:=k _ m
   obtain ⟨b,p,_,l⟩:=zf5 set.2[i].1 (by have:=hT.tn _ (dj hi);omega)
   have w:b=true:=l.2 o1
   subst w
   have a:¬ ∃ g∈set.2.take i,g.1=set.2[i].1:=by
    rw [zla (by omega)]
    rintro ⟨j,g,u,q,e⟩
    exact A j g u q e
   have c:(zcT ((set.2.take i).map fun g=>(g.1,true)) set.2[i].1).getD false=false:=by
    cases hh:(zcT ((set.2.take i).map fun g=>(g.1,true)) set.2[i].1).getD false with
    | false=>rfl
    | true=>exact absurd ((zme _ _).1 hh) a
   have z:w64 ((i:Int)+1)=((i+1:Nat):Int):=by rw [zw (by omega) (by omega)];omega
   unfold zaK zcw
   rw [if_pos (by simp [hi])]
   simp only [zu m,gp,p,c,znn _ (by omega:set.2[i].2.length<=1048576),z,zra a,←zlK m,o2]
   have:zm1 set.2[i].2 set.1.length=true:=zmb.2 B
   simp [this]
  ·intro i _ hi _ k
   have m:set.2[i]?=some set.2[i]:=cm hi
   obtain ⟨b,p,_,l⟩:=zf5 set.2[i].1 (by have:=hT.tn _ (dj hi);omega)
   unfold zaK zcw
   rw [if_pos (by simp [hi])]
   simp only [zu m,gp,p]
   cases b with
   | false=>simp
   | true=>
    rw [if_neg (by simp)]
    have d:=l.1 rfl
    cases c:(zcT ((set.2.take i).map fun g=>(g.1,true)) set.2[i].1).getD false with
    | true=>simp
    | false=>
     rw [if_neg (by simp)]
     have a:¬ ∃ g∈set.2.take i,g.1=set.2[i].1:=fun h=>by
      rw [(zme _ _).2 h] at c;cases c
     rw [zla (by omega)] at a
     by_cases C:set.2[i].2.length=4
     ·simp only [C]
      rw [if_neg (by simp),znn _ (by omega)]
      have:¬zm1 set.2[i].2 set.1.length=true:=fun y=>k fun t n=>by
       rw [m] at n;injection n with n;subst n
       exact ⟨d,C,fun j t' u s e=>a ⟨j,t',u,s,e⟩,zmb.1 y⟩
      simp [this]
     ·rw [if_pos (by simp;omega)]
  ·intro _
   unfold zaK
   rw [if_neg (by simp)]
 ·have r:iter (zaL set) (0,[])=some (.inr false):=r
  rw [r]
  exact ⟨false,rfl,fun h=>(by cases h),fun h=>absurd (fun i _ hi=>h.glue i hi) hnot⟩
 ·intro i _ hi _ k
  have m:set.1[i]?=some set.1[i]:=cm hi
  obtain ⟨o1,o2,A,B⟩:=k _ m
  obtain ⟨b,p,_,l⟩:=zf5 set.1[i].1 (by have:=hT.gn _ (dj hi);omega)
  have w:b=true:=l.2 o1
  subst w
  have a:¬ ∃ g∈set.1.take i,g.1=set.1[i].1:=by
   rw [zla (by omega)]
   rintro ⟨j,g,u,q,e⟩
   exact B j g u q e
  have c:(zcT ((set.1.take i).map fun g=>(g.1,true)) set.1[i].1).getD false=false:=by
   cases hh:(zcT ((set.1.take i).map fun g=>(g.1,true)) set.1[i].1).getD false with
   | false=>rfl
   | true=>exact absurd ((zme _ _).1 hh) a
  have z:w64 ((i:Int)+1)=((i+1:Nat):Int):=by rw [zw (by omega) (by omega)];omega
  unfold zaL zcv
  rw [if_pos (by simp [hi])]
  simp only [zu m,gp,p,c,zbK,z,zra a,←zlK m]
  simp [o2,A]
 ·intro i _ hi _ k
  have m:set.1[i]?=some set.1[i]:=cm hi
  obtain ⟨b,p,_,l⟩:=zf5 set.1[i].1 (by have:=hT.gn _ (dj hi);omega)
  unfold zaL zcv
  rw [if_pos (by simp [hi])]
  simp only [zu m,gp,p,zbK]
  cases b with
  | false=>simp
  | true=>
   rw [if_neg (by simp)]
   have d:=l.1 rfl
   cases c:(zcT ((set.1.take i).map fun g=>(g.1,true)) set.1[i].1).getD false with
   | true=>simp
   | false=>
    rw [if_neg (by simp)]
    have a:¬ ∃ g∈set.1.take i,g.1=set.1[i].1:=fun h=>by
     rw [(zme _ _).2 h] at c;cases c
    rw [zla (by omega)] at a
    have:¬(1<=set.1[i].2/\set.1[i].2<=4):=fun y=>k fun t n=>by
     rw [m] at n;injection n with n;subst n
     exact ⟨d,y.1,y.2,fun j t' u s e=>a ⟨j,t',u,s,e⟩⟩
    simp [this]
 ·intro _
  unfold zaL
  rw [if_neg (by simp)]
theorem zrY (set:TSet) (h:set.1.length<=1048576) (s:List UInt8) :
  (zf1 set s=some 0/\∀ g∈set.1,g.1≠s)\/∃ k:Nat,zf1 set s=some ((k:Int)+1)/\k<set.1.length/\(∀ (j:Nat) g,j<k->set.1[j]?=some g->g.1≠s)/\∃ g,set.1[k]?=some g/\g.1=s:=by
 unfold zf1 zjp
 have key:=zA (F:=zgK set s) (fun i=>0<=i/\i<=set.1.length/\∀ (j:Nat) g,(j:Int)<i->set.1[j]?=some g->g.1≠s) (fun i=>(set.1.length - i).toNat)
  (fun z=>match z with | .inl _=>∀ g∈set.1,g.1≠s | .inr i=>∃ k:Nat,i=(k:Int)+1/\k<set.1.length/\(∀ (j:Nat) g,j<k->set.1[j]?=some g->g.1≠s)/\∃ g,set.1[k]?=some g/\g.1=s) ?_ 0 ⟨by omega,by omega,fun j b f=>by omega⟩
 ·obtain ⟨z,r,n⟩:=key
  rw [r]
  cases z with
  | inl z=>exact .inl ⟨rfl,n⟩
  | inr i=>
   obtain ⟨k,rfl,e⟩:=n
   exact .inr ⟨k,rfl,e⟩
 ·rintro i ⟨q,t,a⟩
  obtain ⟨k,rfl⟩:=az q
  unfold zgK
  by_cases c:k<set.1.length
  ·have e:set.1[k]?=some set.1[k]:=cm c
   have p:w64 ((k:Int)+1)=(k:Int)+1:=zw (by omega) (by omega)
   rw [if_pos (by simp [c])]
   simp only [zu e,gp,p]
   by_cases l:set.1[k].1=s
   ·right
    rw [if_pos (by simp [l])]
    exact ⟨_,rfl,k,rfl,c,fun j b f=>a j b (by omega),_,e,l⟩
   ·left
    rw [if_neg (by simp [l])]
    refine ⟨_,rfl,⟨by omega,by omega,fun j b f d=>?_⟩,by omega⟩
    by_cases m:j=k
    ·subst m;rw [e] at d;injection d with d;rw [←d];exact l
    ·exact a j b (by omega) d
  ·right
   rw [if_neg (by simp;omega)]
   refine ⟨_,rfl,?_⟩
   intro b d
   obtain ⟨j,f⟩:=cv d
   exact a j b (by have:=zz f;omega) f
theorem zrX (set:TSet) (h:set.2.length<=1048576) (s:List UInt8) :
  (zf0 set s=some (-1)/\∀ g∈set.2,g.1≠s)\/∃ k:Nat,zf0 set s=some (k:Int)/\k<set.2.length/\(∀ (j:Nat) g,j<k->set.2[j]?=some g->g.1≠s)/\∃ g,set.2[k]?=some g/\g.1=s:=by
 unfold zf0 zjo
 rcases ziF set.2 (by omega) (fun t=>some (decide (t.1=s))) (fun t=>decide (t.1=s)) (fun _ _=>rfl) (zjn set s) (fun i=>rfl) with ⟨d,a⟩ | ⟨k,d,hk,hlow,b,hb,hq⟩
 ·rw [d]
  exact .inl ⟨rfl,fun g c=>by simpa using a g c⟩
 ·rw [d]
  exact .inr ⟨k,rfl,hk,fun j g e c=>by simpa using hlow j g e c,b,hb,by simpa using hq⟩
theorem zqT (set:TSet) (t:Tl) (h4:t.2.length=4):(iter (zeU set t) 0=some (.inl ())/\∀ x∈t.2,0<=x/\x<=(set.1.length:Int))\/(iter (zeU set t) 0=some (.inr (.inr (.inr false)))/\¬ ∀ x∈t.2,0<=x/\x<=(set.1.length:Int)):=by
 have key:=zA (F:=zeU set t) (fun i=>0<=i/\i<=4/\∀ (j:Nat) x,(j:Int)<i->t.2[j]?=some x->0<=x/\x<=(set.1.length:Int)) (fun i=>(4 - i).toNat)
  (fun z=>(z=.inl ()/\∀ x∈t.2,0<=x/\x<=(set.1.length:Int))\/(z=.inr (.inr (.inr false))/\¬ ∀ x∈t.2,0<=x/\x<=(set.1.length:Int))) ?_ 0 ⟨by omega,by omega,fun j b f=>by omega⟩
 ·obtain ⟨z,m,p⟩:=key
  rcases p with ⟨rfl,h⟩ | ⟨rfl,h⟩
  ·exact .inl ⟨m,h⟩
  ·exact .inr ⟨m,h⟩
 ·rintro i ⟨q,r,a⟩
  obtain ⟨k,rfl⟩:=az q
  unfold zeU
  by_cases d:(k:Int)<4
  ·have g:t.2[k]?=some (t.2[k]'(by omega)):=cm (by omega)
   have n:w64 ((k:Int)+1)=(k:Int)+1:=zw (by omega) (by omega)
   rw [if_pos (by simpa using d)]
   simp only [zu g,gp,n,zds]
   by_cases e:0<=t.2[k]'(by omega)/\t.2[k]'(by omega)<=(set.1.length:Int)
   ·left
    rw [if_neg (by simp [e])]
    refine ⟨_,rfl,⟨by omega,by omega,fun j b f c=>?_⟩,by omega⟩
    by_cases l:j=k
    ·subst l;rw [g] at c;injection c with c;rw [←c];exact e
    ·exact a j b (by omega) c
   ·right
    rw [if_pos (by simp only [e,decide_false];rfl)]
    exact ⟨_,rfl,.inr ⟨rfl,fun h=>e (h _ (fc g))⟩⟩
  ·right
   rw [if_neg (by simpa using d)]
   refine ⟨_,rfl,.inl ⟨rfl,?_⟩⟩
   intro b c
   obtain ⟨j,f⟩:=cv c
   exact a j b (by have:=zz f;omega) f
theorem zrI (set:TSet) (hT:Tame set):∃ b,ziu set=some b/\(b=true↔SetOk set):=by
 unfold ziu zgy
 by_cases E:(set.1.length:Int)>200
 ·rw [if_pos (by simp;omega),if_pos rfl]
  exact ⟨_,rfl,fun h=>(by cases h),fun h=>by have:=h.glues;omega⟩
 rw [if_neg (by simp;omega)]
 by_cases C:(set.2.length:Int)<1
 ·rw [if_pos (by simpa using C),if_pos rfl]
  exact ⟨_,rfl,fun h=>(by cases h),fun h=>by have:=h.tiles1;omega⟩
 rw [if_neg (by simpa using C)]
 by_cases D:(set.2.length:Int)>160
 ·rw [if_pos (by simpa using D)]
  exact ⟨_,rfl,fun h=>(by cases h),fun h=>by have:=h.tiles;omega⟩
 rw [if_neg (by simpa using D)]
 have key:=zi3 (fun i=>(i:Int)) 0 set.1.length (GlueOk set) (zcp set) (by omega) ?_ ?_ ?_
 rcases key with ⟨p,w⟩ | ⟨p,hnot⟩
 ·have p:iter (zcp set) 0=some (.inl ()):=p
  rw [p]
  simp only [gp]
  unfold zlm zll
  have key:=zi3 (fun i=>(i:Int)) 0 set.2.length (TileOk set) (zco set) (by omega) ?_ ?_ ?_
  rcases key with ⟨c,r⟩ | ⟨c,hnot2⟩
  ·have c:iter (zco set) 0=some (.inl ()):=c
   rw [c]
   exact ⟨true,rfl,fun _=>⟨by omega,by omega,by omega,fun i hi=>w i (by omega) hi,fun i hi=>r i (by omega) hi⟩,fun _=>rfl⟩
  ·have c:iter (zco set) 0=some (.inr false):=c
   rw [c]
   exact ⟨false,rfl,fun h=>(by cases h),fun h=>absurd (fun i _ hi=>h.tile i hi) hnot2⟩
  ·intro i _ hi _ d
   have m:set.2[i]?=some set.2[i]:=cm hi
   obtain ⟨o1,o2,z,A⟩:=d _ m
   obtain ⟨b,_,n,f⟩:=zf5 set.2[i].1 (by have:=hT.tn _ (dj hi);omega)
   have s:b=true:=f.2 o1
   subst s
   have v:w64 ((i:Int)+1)=((i+1:Nat):Int):=by rw [zw (by omega) (by omega)];omega
   have l:zf0 set set.2[i].1=some (i:Int):=by
    rcases zrX set hT.t set.2[i].1 with ⟨_,h⟩ | ⟨k,hk,hkl,hlow,g,hg',e⟩
    ·exact absurd rfl (h _ (dj hi))
    ·rw [hk]
     congr 2
     rcases gi k i with h | h | h
     ·exact absurd e (z k g h hg')
     ·exact h
     ·exact absurd rfl (hlow i _ h m)
   unfold zco zeW ziS
   rw [if_pos (by simp [hi])]
   rcases zqT set set.2[i] o2 with ⟨hs,_⟩ | ⟨_,hs⟩
   ·simp [zu m,n,o2,l,hs,v]
   ·exact absurd A hs
  ·intro i _ hi _ d
   have m:set.2[i]?=some set.2[i]:=cm hi
   obtain ⟨b,_,n,f⟩:=zf5 set.2[i].1 (by have:=hT.tn _ (dj hi);omega)
   unfold zco zeW ziS
   rw [if_pos (by simp [hi])]
   simp only [zu m,gp,n]
   cases b with
   | false=>simp
   | true=>
    rw [if_neg (by simp)]
    have a:=f.1 rfl
    by_cases y:set.2[i].2.length=4
    rotate_left
    ·rw [if_pos (by simp;omega)];rfl
    rw [if_neg (by simp [y])]
    rcases zrX set hT.t set.2[i].1 with ⟨_,h⟩ | ⟨k,hk,hkl,hlow,g,hg',e⟩
    ·exact absurd rfl (h _ (dj hi))
    ·simp only [hk,gp]
     by_cases u:k=i
     ·subst u
      rw [if_neg (by simp)]
      rcases zqT set set.2[k] y with ⟨_,hs⟩ | ⟨hs,_⟩
      ·refine absurd (fun t l=>?_) d
       rw [m] at l;injection l with l;subst l
       exact ⟨a,y,fun j t' B q=>hlow j t' B q,hs⟩
      ·simp [hs]
     ·rw [if_pos (by simp;omega)]
  ·intro _
   unfold zco
   rw [if_neg (by simp)]
 ·have p:iter (zcp set) 0=some (.inr false):=p
  rw [p]
  exact ⟨false,rfl,fun h=>(by cases h),fun h=>absurd (fun i _ hi=>h.glue i hi) hnot⟩
 ·intro i _ hi _ d
  have m:set.1[i]?=some set.1[i]:=cm hi
  obtain ⟨o1,o2,z,A⟩:=d _ m
  obtain ⟨b,_,n,f⟩:=zf5 set.1[i].1 (by have:=hT.gn _ (dj hi);omega)
  have s:b=true:=f.2 o1
  subst s
  have v:w64 ((i:Int)+1)=((i+1:Nat):Int):=by rw [zw (by omega) (by omega)];omega
  have l:zf1 set set.1[i].1=some ((i+1:Nat):Int):=by
   rcases zrY set hT.g set.1[i].1 with ⟨_,h⟩ | ⟨k,hk,hkl,hlow,g,hg',e⟩
   ·exact absurd rfl (h _ (dj hi))
   ·rw [hk]
    congr 1
    have:k=i:=by
     rcases gi k i with h | h | h
     ·exact absurd e (A k g h hg')
     ·exact h
     ·exact absurd rfl (hlow i _ h m)
    omega
  unfold zcp zeV
  rw [if_pos (by simp [hi])]
  simp [zu m,n,l,v,zds,o2,z]
 ·intro i _ hi _ d
  have m:set.1[i]?=some set.1[i]:=cm hi
  obtain ⟨b,_,n,f⟩:=zf5 set.1[i].1 (by have:=hT.gn _ (dj hi);omega)
  have v:w64 ((i:Int)+1)=((i+1:Nat):Int):=by rw [zw (by omega) (by omega)];omega
  unfold zcp zeV
  rw [if_pos (by simp [hi])]
  simp only [zu m,gp,n,zds]
  cases b with
  | false=>simp
  | true=>
   rw [if_neg (by simp)]
   have a:=f.1 rfl
   by_cases x:1<=set.1[i].2/\set.1[i].2<=4
   rotate_left
   ·rw [if_pos (by simp only [x,decide_false];rfl)];rfl
   rw [if_neg (by simp [x])]
   rcases zrY set hT.g set.1[i].1 with ⟨_,h⟩ | ⟨k,hk,hkl,hlow,g,hg',e⟩
   ·exact absurd rfl (h _ (dj hi))
   ·simp only [hk,gp,v]
    have u:k≠i:=fun h=>by
     subst h
     exact d fun t l=>by
      rw [m] at l;injection l with l;subst l
      exact ⟨a,x.1,x.2,fun j t' B q=>hlow j t' B q⟩
    rw [if_pos (by simp;omega)]
 ·intro _
  unfold zcp
  rw [if_neg (by simp)]
theorem zmP (set:TSet) (hT:Tame set):∃ b,zgE set=some b/\ziu set=some b/\(b=true↔SetOk set):=by
 obtain ⟨a,c,d⟩:=zrN set hT
 obtain ⟨b,e,f⟩:=zrI set hT
 have:a=b:=by
  cases a<;>cases b<;>simp_all
 subst this
 exact ⟨a,c,e,d⟩
end Go.Lf
