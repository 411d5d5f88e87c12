import Derived.Test.YtinhknndegdcfaaGreatDoorC
set_option linter.all false
namespace Go.Lf
open Go
theorem zf4 {α:Type} {l:List α} {i:Int} {x:α} (h0:0<=i) (h:l[i.toNat]?=some x):idx l i=some x:=by
 unfold idx;rw [if_pos h0];exact h
theorem zvr {α:Type} {l:List α} {i:Int} (h0:0<=i) (h1:i<l.length):idx l i=some (l[i.toNat]'(by omega)):=
 zf4 h0 (by rw [cq (by omega)])
theorem zab {α:Type} {l:List α} {i:Int} (h0:0<=i) (h1:i<l.length):∃ x,idx l i=some x/\l[i.toNat]?=some x:=
 ⟨_,zvr h0 h1,by rw [cq (by omega)]⟩
theorem zQ {α:Type} {bytes:Nat} {l l2:List α} (h:(l.length+l2.length)*bytes<=140737488355328) (h2:l.length+l2.length<=9223372036854775807):app bytes l l2=some (l++l2):=by
 unfold app;rw [if_pos ⟨h,h2⟩]
theorem znj {α:Type} {bytes:Nat} {n:Int} {z:α} (h0:0<=n) (h1:n<=2000000) (hb:bytes<=1000):mkl bytes n z=some (List.replicate n.toNat z):=by
 have a:n*bytes<=2000000*1000:=Int.mul_le_mul h1 (by omega) (by omega) (by omega);unfold mkl;rw [if_pos ⟨h0,by omega,by omega⟩]
theorem zt {n:Int} (h0 : -1000000000000<=n) (h1:n<=1000000000000):w64 n=n:=zas ⟨by omega,by omega⟩
theorem zR {α:Type} {l:List α} {i:Nat} {x:α} (h:i<l.length):(l.set i x)[i]?=some x:=by simp [h]
theorem zJ {α:Type} {l:List α} {i j:Nat} {x:α} (h:i≠j):(l.set i x)[j]?=l[j]?:=by simp [h]
theorem zu {α:Type} {l:List α} {i:Nat} {x:α} (h:l[i]?=some x):i<l.length:=(cv.1 h).1
theorem zkU {α:Type} (p:α->Bool):∀ {l:List α} {i:Nat} {x y:α},l[i]?=some x->p x=true->p y=false->(l.set i y).countP p+1=l.countP p
 | [],i,x,y,h,_,_=>by simp at h
 | a::l,0,x,y,h,hx,hy=>by
  simp at h;subst h;simp [hx,hy]
 | a::l,i+1,x,y,h,hx,hy=>by
  simp at h;have:=zkU p h hx hy;simp only [List.set_cons_succ,List.countP_cons];omega
abbrev Bd:=Int×Int×Int
def ind (b:Bool):Int:=if b=true then 1 else 0
def zfG (S:Int->Bool):List Bd->Int
 | []=>0
 | b::bs=>(if S b.1=S b.2.1 then 0 else b.2.2)+zfG S bs
def zc6 (S:Int->Bool):List Bd->List Int->Int
 | b::bs,f::fl=>f*(ind (S b.1) - ind (S b.2.1))+zc6 S bs fl
 | _,_=>0
theorem znz {S:Int->Bool}:∀ {bs:List Bd} {fl:List Int},fl.length=bs.length->(∀ (k:Nat) (b:Bd) (f:Int),bs[k]?=some b->fl[k]?=some f -> -b.2.2<=f/\f<=b.2.2)->zc6 S bs fl<=zfG S bs
 | [],fl,_,_=>by simp [zc6,zfG]
 | b::bs,[],h,_=>by simp at h
 | b::bs,f::fl,h,hf=>by
  have j:=hf 0 b f rfl rfl;have g:=znz (S:=S) (bs:=bs) (fl:=fl) (by simpa using h) (fun k d c e a=>hf (k+1) d c e a);simp only [zc6,zfG];cases hA:S b.1<;>cases hB:S b.2.1<;>simp [ind]<;>omega
theorem zqm {S:Int->Bool}:∀ {bs:List Bd} {fl:List Int},fl.length=bs.length->
  (∀ (k:Nat) (b:Bd) (f:Int),bs[k]?=some b->fl[k]?=some f->(S b.1=true->S b.2.1=false->f=b.2.2)/\(S b.1=false->S b.2.1=true->f = -b.2.2))->zc6 S bs fl=zfG S bs
 | [],fl,_,_=>by simp [zc6,zfG]
 | b::bs,[],h,_=>by simp at h
 | b::bs,f::fl,h,hf=>by
  have c:=hf 0 b f rfl rfl;have d:=zqm (S:=S) (bs:=bs) (fl:=fl) (by simpa using h) (fun k g e j a=>hf (k+1) g e j a);simp only [zc6,zfG,d];cases hA:S b.1<;>cases hB:S b.2.1<;>simp [ind]
  ·have:=c.2 hA hB;omega
  ·have:=c.1 hA hB;omega
theorem zrI {S:Int->Bool}:∀ {bs:List Bd} {fl:List Int} {k:Nat} {b:Bd} {f f':Int},bs[k]?=some b->fl[k]?=some f->
  zc6 S bs (fl.set k f')=zc6 S bs fl+(f' - f)*(ind (S b.1) - ind (S b.2.1))
 | [],_,k,b,f,f',h,_=>by simp at h
 | _::_,[],k,b,f,f',_,h=>by simp at h
 | b0::bs,f0::fl,0,b,f,f',h,h'=>by
  simp at h h';subst h;subst h';simp only [List.set_cons_zero,zc6];rw [Int.sub_mul];omega
 | b0::bs,f0::fl,k+1,b,f,f',h,h'=>by
  simp at h h';simp only [List.set_cons_succ,zc6];rw [zrI h h'];omega
theorem zsE {S:Int->Bool}:∀ {bs:List Bd} {m:Nat},zc6 S bs (List.replicate m 0)=0
 | [],m=>by cases m<;>simp [zc6]
 | b::bs,0=>by simp [zc6]
 | b::bs,m+1=>by rw [List.replicate_succ];simp only [zc6];rw [zsE];simp
theorem zu0 {S:Int->Bool}:∀ {bs:List Bd},(∀ b∈bs,0<=b.2.2/\b.2.2<=1000)->zfG S bs<=1000*bs.length
 | [],_=>by simp [zfG]
 | b::bs,h=>by
  have a:=h b (by simp);have d:=zu0 (S:=S) (bs:=bs) (fun c hc=>h c (by simp [hc]));simp only [zfG,dv];split<;>omega
structure Net (n:Int) (bs:List Bd) (at_:List (List Int)) (fl:List Int):Prop where
 n0:0<=n
 n1:n<=100000
 bn:bs.length<=100000
 wb:∀ (k:Nat) (b:Bd),bs[k]?=some b->0<=b.1/\b.1<n/\0<=b.2.1/\b.2.1<n/\b.1≠b.2.1/\0<=b.2.2/\b.2.2<=1000
 alen:at_.length=n.toNat
 amem:∀ (v:Nat) (l:List Int),at_[v]?=some l->l.length<=100000/\∀ k:Int,k∈l↔(0<=k/\∃ b:Bd,bs[k.toNat]?=some b/\(b.1=v\/b.2.1=v))
 flen:fl.length=bs.length
 fok:∀ (k:Nat) (b:Bd) (f:Int),bs[k]?=some b->fl[k]?=some f -> -b.2.2<=f/\f<=b.2.2
def res (b:Bd) (f v:Int):Int:=if b.1=v then b.2.2 - f else b.2.2+f
def oth (b:Bd) (v:Int):Int:=if b.1=v then b.2.1 else b.1
section
variable {n:Int} {bs:List Bd} {at_:List (List Int)} {fl:List Int}
theorem Net.bond (h:Net n bs at_ fl) {k:Int} {b:Bd} (h0:0<=k) (hb:bs[k.toNat]?=some b):∃ f,fl[k.toNat]?=some f/\idx bs k=some b/\idx fl k=some f /\ -b.2.2<=f/\f<=b.2.2:=by
 have d:=zu hb;have a:k.toNat<fl.length:=by rw [h.flen];exact d
 have c:fl[k.toNat]?=some fl[k.toNat]:=cq a;exact ⟨_,c,zf4 h0 hb,zf4 h0 c,h.fok _ _ _ hb c⟩
theorem zvf (h:Net n bs at_ fl) {k v:Int} {b:Bd} {f:Int} (h0:0<=k) (hb:bs[k.toNat]?=some b) (hf:fl[k.toNat]?=some f) :
  zeh (n,bs,at_,fl) v k=some (res b f v,oth b v,(n,bs,at_,fl)):=by
 obtain ⟨m,a,hi,c,j,g⟩:=h.bond h0 hb;rw [a] at hf;obtain rfl:=Option.some.inj hf;have e:=h.wb _ _ hb;unfold zeh res oth;simp only [hi,gp,c];by_cases d:b.1=v
 ·simp only [d,decide_true,if_true];rw [zt (by omega) (by omega)]
 ·simp only [d,decide_false,if_false,aq];rw [zt (by omega) (by omega)]
structure Dist (n:Int) (bs:List Bd) (fl:List Int) (y:Int) (L:List Int):Prop where
 len:L.length=n.toNat
 goal:L[y.toNat]?=some 0
 low:∀ (v:Nat) (d:Int),L[v]?=some d -> -1<=d/\d<=n
 closed:∀ (k:Nat) (b:Bd) (f:Int) (t:Nat) (d e:Int),bs[k]?=some b->fl[k]?=some f->(b.1=t\/b.2.1=t)->L[t]?=some d->0<=d->0<res b f (oth b t)->L[(oth b t).toNat]?=some e->0<=e
 parent:∀ (v:Nat) (d:Int),L[v]?=some d->0<=d->(v:Int)≠y->∃ (k:Nat) (b:Bd) (f:Int),bs[k]?=some b/\fl[k]?=some f/\(b.1=v\/b.2.1=v)/\0<res b f v/\L[(oth b v).toNat]?=some (d - 1)/\0<=d - 1
end
theorem ztS {j:Nat} {i:Int} (h0:0<=i) (h1:j<(i+1).toNat) (h2:¬j<i.toNat):j=i.toNat:=by omega
def isNeg (x:Int):Bool:=decide (x<0)
structure BInv (n:Int) (bs:List Bd) (fl:List Int) (y:Int) (L q:List Int):Prop where
 len:L.length=n.toNat
 goal:L[y.toNat]?=some 0
 low:∀ (v:Nat) (d:Int),L[v]?=some d -> -1<=d/\d<q.length
 qlab:∀ v∈q,0<=v/\∃ d,L[v.toNat]?=some d/\0<=d
 labq:∀ (v:Nat) (d:Int),L[v]?=some d->0<=d->(v:Int)∈q
 count:q.length+L.countP isNeg=n.toNat
 parent:∀ (v:Nat) (d:Int),L[v]?=some d->0<=d->(v:Int)≠y->∃ (k:Nat) (b:Bd) (f:Int),bs[k]?=some b/\fl[k]?=some f/\(b.1=v\/b.2.1=v)/\0<res b f v/\L[(oth b v).toNat]?=some (d - 1)/\0<=d - 1
def BClosed (bs:List Bd) (fl L:List Int) (t:Int) (k:Int):Prop:=
 ∀ (b:Bd) (f:Int),bs[k.toNat]?=some b->fl[k.toNat]?=some f->0<res b f (oth b t)->∃ e,L[(oth b t).toNat]?=some e/\0<=e
theorem BClosed.mono {bs:List Bd} {fl L L':List Int} {t k:Int} (h:BClosed bs fl L t k) (hm:∀ (v:Nat) (d:Int),L[v]?=some d->0<=d->L'[v]?=some d):BClosed bs fl L' t k:=by
 intro b f m c g;obtain ⟨e,j,a⟩:=h b f m c g;exact ⟨e,hm _ _ j a,a⟩
section
variable {n:Int} {bs:List Bd} {at_:List (List Int)} {fl:List Int} {y:Int}
theorem Net.ends (h:Net n bs at_ fl) {k:Nat} {b:Bd} (hb:bs[k]?=some b) (v:Int):0<=oth b v/\oth b v<n:=by
 have:=h.wb _ _ hb;unfold oth;split<;>omega
theorem zxT (h:Net n bs at_ fl) {k:Nat} {b:Bd} (hb:bs[k]?=some b) {v:Int} (hv:b.1=v\/b.2.1=v):w64 (w64 (b.1+b.2.1) - v)=oth b v:=by
 have a:=h.wb _ _ hb;have c:=h.n1;have e:b.1+b.2.1 - v=oth b v:=by
  unfold oth;rcases hv with rfl | rfl
  ·rw [if_pos rfl];omega
  ·rw [if_neg (by omega)];omega
 rw [zt (n:=b.1+b.2.1) (by omega) (by omega),zt (by omega) (by omega),e]
theorem zwn (h:Net n bs at_ fl) {L q:List Int} (hB:BInv n bs fl y L q) {k:Int} {b:Bd} {f t d:Int} (hb:bs[k.toNat]?=some b) (hf:fl[k.toNat]?=some f)
  (ht0:0<=t) (ht:b.1=t\/b.2.1=t) (hd:L[t.toNat]?=some d) (hd0:0<=d) (hneg:∃ e,L[(oth b t).toNat]?=some e/\e<0) (hr:0<res b f (oth b t)) :
  BInv n bs fl y (L.set (oth b t).toNat (d+1)) (q++[oth b t])/\(∀ (v:Nat) (j:Int),L[v]?=some j->0<=j->(L.set (oth b t).toNat (d+1))[v]?=some j):=by
 obtain ⟨e,x,A⟩:=hneg;have s:=h.ends hb t;have p:=zu x;have c:∀ (v:Nat) (j:Int),L[v]?=some j->0<=j->(L.set (oth b t).toNat (d+1))[v]?=some j:=by
  intro v j a m;rw [zJ]
  ·exact a
  ·intro I;rw [I] at x;rw [x] at a;injection a;omega
 refine ⟨⟨by rw [ee];exact hB.len,c _ _ hB.goal (by omega),?_,?_,?_,?_,?_⟩,c⟩
 ·intro v j a;by_cases g:(oth b t).toNat=v
  ·subst g;rw [zR p] at a;have:=(hB.low _ _ hd).2;injection a with a
   rw [du];simp;omega
  ·rw [zJ g] at a;have:=hB.low _ _ a;rw [du];simp;omega
 ·intro v a;rcases ep.1 a with a | a
  ·obtain ⟨E,j,u,w⟩:=hB.qlab v a;exact ⟨E,j,c _ _ u w,w⟩
  ·have:v=oth b t:=by simpa using a
   subst this;exact ⟨s.1,d+1,zR p,by omega⟩
 ·intro v j a m;by_cases g:(oth b t).toNat=v
  ·exact ep.2 (.inr (by simp;omega))
  ·rw [zJ g] at a;exact ep.2 (.inl (hB.labq v j a m))
 ·have:=zkU isNeg x (by simp [isNeg,A]) (by simp [isNeg];omega:isNeg (d+1)=false);have:=hB.count;rw [du];simp;omega
 ·intro v j a m B;by_cases g:(oth b t).toNat=v
  ·have r:(v:Int)=oth b t:=by omega
   subst g;rw [zR p] at a;injection a with a
   subst a;have O:=h.wb _ _ hb;have C:oth b (oth b t)=t:=by
    unfold oth;rcases ht with rfl | rfl
    ·rw [if_pos rfl,if_neg (by omega)]
    ·by_cases u:b.1=b.2.1
     ·omega
     ·rw [if_neg u,if_pos rfl]
   refine ⟨k.toNat,b,f,hb,hf,?_,by rw [r];exact hr,?_,by omega⟩
   ·rw [r];unfold oth;split
    ·exact .inr rfl
    ·exact .inl rfl
   ·rw [r,C];rw [c _ _ hd hd0];congr 1;omega
  ·rw [zJ g] at a;obtain ⟨J,F,M,u,w,N,G,H,D⟩:=hB.parent v j a m B;exact ⟨J,F,M,u,w,N,G,c _ _ H D,D⟩
theorem ztx (h:Net n bs at_ fl) {t:Int} {al:List Int} (ht0:0<=t) (hal:at_[t.toNat]?=some al) (L0 q0:List Int) (hB0:BInv n bs fl y L0 q0) (htq:∃ d,L0[t.toNat]?=some d/\0<=d) :
  ∃ L q,iter (zbP (n,bs,at_,fl) t) (L0,q0,0,fl)=some (L,q,fl)/\BInv n bs fl y L q/\(∀ (v:Nat) (d:Int),L0[v]?=some d->0<=d->L[v]?=some d)/\
   (∃ r,q=q0++r)/\∀ k∈al,BClosed bs fl L t k:=by
 obtain ⟨b0,Q⟩:=h.amem _ _ hal;have a8:((t.toNat:Nat):Int)=t:=by omega
 have key:=zz (F:=zbP (n,bs,at_,fl) t) (fun s=>∃ L q i,s=(L,q,i,fl)/\0<=i/\i<=al.length/\BInv n bs fl y L q/\(∀ (v:Nat) (d:Int),L0[v]?=some d->0<=d->L[v]?=some d)/\(∃ r,q=q0++r)/\
   ∀ j k,j<i.toNat->al[j]?=some k->BClosed bs fl L t k) (fun s=>(al.length - s.2.2.1).toNat)
  (fun x=>∃ L q,x=(L,q,fl)/\BInv n bs fl y L q/\(∀ (v:Nat) (d:Int),L0[v]?=some d->0<=d->L[v]?=some d)/\(∃ r,q=q0++r)/\∀ k∈al,BClosed bs fl L t k) ?_
  (L0,q0,0,fl) ⟨L0,q0,0,rfl,by omega,by omega,hB0,fun _ _ h _=>h,⟨[],by simp⟩,fun j k S=>by simp at S⟩
 ·obtain ⟨x,hx,L,q,rfl,h1,h2,h3,h4⟩:=key;exact ⟨L,q,hx,h1,h2,h3,h4⟩
 ·rintro s ⟨L,q,i,rfl,a2,b1,O,m,⟨r,hr⟩,M⟩;unfold zbP;simp only [zf4 ht0 hal,gp];by_cases D:i<al.length
  ·left;rw [if_pos (by simp [D])];obtain ⟨k,hk,G⟩:=zab a2 D;have Z:k∈al:=fd G;obtain ⟨R,b,E,I⟩:=(Q k).1 Z;rw [a8] at I;obtain ⟨f,hf,a1,c5,c4,C⟩:=h.bond R E;have V:=zxT h E I;have N:=h.ends E t;obtain ⟨e,U,p⟩:=zab (l:=L) N.1 (by rw [O.len];omega);simp only [hk,a1,gp,V,zvf h R E hf,U];have g:w64 (i+1)=i+1:=zt (by omega) (by omega);have a:(∃ Y,L[(oth b t).toNat]?=some Y/\(0<=Y\/¬0<res b f (oth b t)))->
     (∃ s',zaM t (L,q,i,fl) b b (res b f (oth b t),oth b (oth b t),(n,bs,at_,fl)) false=some (.inl s')/\
      (∃ L q i,s'=(L,q,i,fl)/\0<=i/\i<=al.length/\BInv n bs fl y L q/\(∀ (v:Nat) (d:Int),L0[v]?=some d->0<=d->L[v]?=some d)/\(∃ r,q=q0++r)/\∀ j k,j<i.toNat->al[j]?=some k->BClosed bs fl L t k)/\
      (al.length - s'.2.2.1).toNat<(al.length - i).toNat):=by
    rintro ⟨Y,a3,a9⟩;refine ⟨_,by unfold zaM zbS;rfl,⟨L,q,i+1,by rw [g],by omega,by omega,O,m,⟨r,hr⟩,?_⟩,?_⟩
    ·intro j k2 S c;by_cases H:j<i.toNat
     ·exact M j k2 H c
     ·have:j=i.toNat:=by omega
      subst this;rw [G] at c;obtain rfl:=Option.some.inj c;intro b2 f2 A C P;rw [E] at A;obtain rfl:=Option.some.inj A;rw [hf] at C;obtain rfl:=Option.some.inj C;exact ⟨Y,a3,a9.resolve_right (fun hn=>hn P)⟩
    ·simp only [g];omega
   by_cases B:e<0
   ·rw [if_pos (by simp [B])];by_cases u:res b f (oth b t)>0
    ·obtain ⟨d,hd,X⟩:=htq;have J:=m _ _ hd X;have c6:=O.low _ _ J;have b3:(q.length:Int)<=n:=by have:=O.count;have:=h.n0;omega
     obtain ⟨a5,w⟩:=zwn h O E hf ht0 I J X ⟨e,p,B⟩ u;have b5:=h.n1;refine ⟨(L.set (oth b t).toNat (d+1),q++[oth b t],i+1,fl),?_,⟨_,_,i+1,rfl,by omega,by omega,a5,?_,⟨r++[oth b t],by rw [hr,bg]⟩,?_⟩,?_⟩
     ·unfold zaM zbS;rw [if_pos (by simp [u])];simp only [zf4 ht0 J,gp,V,U];rw [zt (by omega) (by omega),zQ (by simp;omega) (by simp;omega)];simp only [gp,g]
     ·intro v d' hv T;exact w _ _ (m _ _ hv T) T
     ·intro j k2 S c;by_cases H:j<i.toNat
      ·exact (M j k2 H c).mono w
      ·have:j=i.toNat:=by omega
       subst this;rw [G] at c;obtain rfl:=Option.some.inj c;intro b2 f2 A C P;rw [E] at A;obtain rfl:=Option.some.inj A;exact ⟨d+1,zR (zu p),by omega⟩
     ·simp only [];omega
    ·have:=a ⟨e,p,.inr u⟩;simpa [u] using this
   ·rw [if_neg (by simp [B])];exact a ⟨e,p,.inl (by omega)⟩
  ·right;rw [if_neg (by simp [D])];refine ⟨_,rfl,L,q,rfl,O,m,⟨r,hr⟩,fun k hk=>?_⟩;obtain ⟨j,S,a6⟩:=List.mem_iff_getElem.1 hk;exact M j k (by omega) (by rw [cq S,a6])
theorem ztw (h:Net n bs at_ fl) (L0 q0:List Int) (hB0:BInv n bs fl y L0 q0) :
  ∃ L,iter (zbQ (n,bs,at_,fl)) (L0,q0,0,fl)=some (L,fl)/\Dist n bs fl y L:=by
 have key:=zz (F:=zbQ (n,bs,at_,fl)) (fun s=>∃ L q i,s=(L,q,i,fl)/\0<=i/\i<=q.length/\BInv n bs fl y L q/\
   ∀ (j:Nat) (t:Int),j<i.toNat->q[j]?=some t->∀ (k:Nat) (b:Bd),bs[k]?=some b->(b.1=t\/b.2.1=t)->BClosed bs fl L t k) (fun s=>(n - s.2.2.1).toNat)
  (fun x=>∃ L,x=(L,fl)/\Dist n bs fl y L) ?_ (L0,q0,0,fl) ⟨L0,q0,0,rfl,by omega,by omega,hB0,fun j t H=>by simp at H⟩
 ·obtain ⟨x,hx,L,rfl,h1⟩:=key;exact ⟨L,hx,h1⟩
 ·rintro s ⟨L,q,i,rfl,N,V,m,J⟩;have X:(q.length:Int)<=n:=by have:=m.count;have:=h.n0;omega
  have Z:=h.n1;unfold zbQ;by_cases p:i<q.length
  ·left;rw [if_pos (by simp [p])];obtain ⟨t,Y,D⟩:=zab N p;have T:t∈q:=fd D;obtain ⟨M,d,hd,w⟩:=m.qlab t T;have O:t.toNat<at_.length:=by rw [h.alen,←m.len];exact zu hd
   have I:at_[t.toNat]?=some at_[t.toNat]:=cq O;obtain ⟨L',q',E,P,A,⟨r,G⟩,hc⟩:=ztx h M I L q m ⟨d,hd,w⟩;simp only [Y,gp,E];have a:w64 (i+1)=i+1:=zt (by omega) (by omega);refine ⟨_,rfl,⟨L',q',i+1,by rw [a],by omega,?_,P,?_⟩,?_⟩
   ·rw [G,du];omega
   ·intro j U H g k b B c;by_cases C:j<i.toNat
    ·have:q[j]?=some U:=by
      rw [G,cj (by omega)] at g;exact g
     exact (J j U C this k b B c).mono A
    ·obtain rfl:=ztS N H C;rw [G,cj (by omega),D] at g;obtain rfl:=Option.some.inj g;have R:((t.toNat:Nat):Int)=t:=bc M;have:=(h.amem _ _ I).2 k;exact hc k (this.2 ⟨Int.natCast_nonneg k,b,by simpa using B,by rw [R];exact c⟩)
   ·simp only [a];omega
  ·right;rw [if_neg (by simp [p])];refine ⟨_,rfl,L,rfl,m.len,m.goal,?_,?_,m.parent⟩
   ·intro v d hv;have:=m.low _ _ hv;omega
   ·intro k b f t d e B hf c hd w G he;have S:=m.labq t d hd w;obtain ⟨j,H,Q⟩:=List.mem_iff_getElem.1 S;have:=J j t (by omega) (by rw [cq H,Q]) k b B c b f (by simpa using B) (by simpa using hf) G;obtain ⟨e',u,hp⟩:=this;rw [he] at u;injection u with u
    omega
theorem zty (h:Net n bs at_ fl):iter (zbR (n,bs,at_,fl)) ([],0)=some (List.replicate n.toNat (-1)):=by
 have key:=zz (F:=zbR (n,bs,at_,fl)) (fun s=>∃ i:Nat,s=(List.replicate i (-1),(i:Int))/\i<=n.toNat) (fun s=>(n - s.2).toNat)
  (fun x=>x=List.replicate n.toNat (-1)) ?_ ([],0) ⟨0,rfl,by omega⟩
 ·obtain ⟨x,c,rfl⟩:=key;exact c
 ·rintro s ⟨i,rfl,hi⟩;have d:=h.n1;unfold zbR;by_cases a:(i:Int)<n
  ·left;rw [if_pos (by simp [a]),zQ (by simp;omega) (by simp;omega)];refine ⟨_,rfl,⟨i+1,?_,by omega⟩,?_⟩
   ·rw [zt (by omega) (by omega),List.replicate_succ'];rfl
   ·simp only [];rw [zt (by omega) (by omega)];omega
  ·right;rw [if_neg (by simp [a])];have b:i=n.toNat:=by have:=h.n0;omega
   subst b;exact ⟨_,rfl,rfl⟩
theorem zq0 (h:Net n bs at_ fl) (hy0:0<=y) (hy:y<n):∃ L,zdo (n,bs,at_,fl) y=some (L,n,bs,at_,fl)/\Dist n bs fl y L:=by
 have g:(List.replicate n.toNat (-1:Int)).length=n.toNat:=by simp
 obtain ⟨z,q,b⟩:=zab (l:=List.replicate n.toNat (-1:Int)) hy0 (by rw [g];omega);have j:z = -1:=by
  rw [dg] at b;split at b
  ·injection b with b;exact b.symm
  ·cases b
 have c:=zu b;have k:BInv n bs fl y ((List.replicate n.toNat (-1:Int)).set y.toNat 0) [y]:=by
  refine ⟨by simp,zR c,?_,?_,?_,?_,?_⟩
  ·intro v d a;by_cases e:y.toNat=v
   ·subst e;rw [zR c] at a;injection a with a;subst a;simp
   ·rw [zJ e,dg] at a;split at a
    ·injection a with a;subst a;simp
    ·cases a
  ·intro v a;have:v=y:=by simpa using a
   subst this;exact ⟨hy0,0,zR c,by omega⟩
  ·intro v d a hd;by_cases e:y.toNat=v
   ·simp;omega
   ·rw [zJ e,dg] at a;split at a
    ·injection a with a;omega
    ·cases a
  ·have:=zkU isNeg (y:=(0:Int)) b (by rw [j];rfl) rfl;have hc:(List.replicate n.toNat (-1:Int)).countP isNeg=n.toNat:=by
    rw [List.countP_replicate];simp [isNeg]
   rw [hc] at this;simp;omega
  ·intro v d a hd m;by_cases e:y.toNat=v
   ·omega
   ·rw [zJ e,dg] at a;split at a
    ·injection a with a;omega
    ·cases a
 obtain ⟨L,f,p⟩:=ztw h _ _ k;refine ⟨L,?_,p⟩;unfold zdo zfL zfK;rw [zty h];simp only [gp,q,f]
end
section
variable {n:Int} {bs:List Bd} {at_:List (List Int)} {fl:List Int} {x y:Int}
theorem zvc (h:Net n bs at_ fl) {k:Nat} {b:Bd} {f f':Int} (hb:bs[k]?=some b) (hf:fl[k]?=some f) (h1 : -b.2.2<=f') (h2:f'<=b.2.2):Net n bs at_ (fl.set k f'):=by
 refine ⟨h.n0,h.n1,h.bn,h.wb,h.alen,h.amem,by rw [ee];exact h.flen,fun j c g hc a=>?_⟩;by_cases d:k=j
 ·subst d;rw [zR (zu hf)] at a;rw [hb] at hc;obtain rfl:=Option.some.inj hc;obtain rfl:=Option.some.inj a;exact ⟨h1,h2⟩
 ·rw [zJ d] at a;exact h.fok _ _ _ hc a
theorem zx3 (h:Net n bs at_ fl) {v k:Int} {b:Bd} {f:Int} (h0:0<=k) (hb:bs[k.toNat]?=some b) (hf:fl[k.toNat]?=some f) (hv:b.1=v\/b.2.1=v) (hr:0<res b f v) :
  ∃ f',zgk (n,bs,at_,fl) v k=some (n,bs,at_,fl.set k.toNat f')/\Net n bs at_ (fl.set k.toNat f')/\∀ S,zc6 S bs (fl.set k.toNat f')=zc6 S bs fl+(ind (S v) - ind (S (oth b v))):=by
 obtain ⟨d,a,hi,e,m,j⟩:=h.bond h0 hb;rw [a] at hf;obtain rfl:=Option.some.inj hf;have g:=h.wb _ _ hb;unfold zgk;simp only [hi,gp,e];unfold res at hr;by_cases c:b.1=v
 ·rw [if_pos c] at hr;simp only [c,decide_true,if_true];rw [zt (by omega) (by omega)];refine ⟨d+1,rfl,zvc h hb a (by omega) (by omega),fun S=>?_⟩;rw [zrI hb a];unfold oth;rw [if_pos c,c];have:d+1 - d=1:=by omega
  rw [this,Int.one_mul]
 ·rw [if_neg c] at hr;simp only [c,decide_false,if_false,aq];rw [zt (by omega) (by omega)];refine ⟨d - 1,rfl,zvc h hb a (by omega) (by omega),fun S=>?_⟩;rw [zrI hb a];unfold oth;rw [if_neg c,←hv.resolve_left c];have:d - 1 - d = -1:=by omega
  rw [this];omega
theorem zuQ (h:Net n bs at_ fl) {L:List Int} {x23:(List Int)×(Int×(List Bd)×(List (List Int))×(List Int))} (hx:x23.1=L) {fl0:List Int} (hD:Dist n bs fl0 y L) {t d:Int} (ht0:0<=t) (hd:L[t.toNat]?=some d) (hd0:0<d)
  (hsame:∀ (k:Nat) (b:Bd),bs[k]?=some b->(b.1=t\/b.2.1=t)->L[(oth b t).toNat]?=some (d - 1)->fl[k]?=fl0[k]?) (hty:t≠y) :
  ∃ nx a b f,iter (zcg (n,bs,at_,fl0) x23 (t,fl)) ((-1),0,0,fl)=some (nx,a,fl)/\0<=a/\bs[a.toNat]?=some b/\fl[a.toNat]?=some f/\
   (b.1=t\/b.2.1=t)/\0<res b f t/\nx=oth b t/\L[nx.toNat]?=some (d - 1):=by
 have p:=zu hd;have V:t.toNat<at_.length:=by rw [h.alen,←hD.len];exact p
 have w:at_[t.toNat]?=some at_[t.toNat]:=cq V;generalize at_[t.toNat]=al at w;obtain ⟨a3,q⟩:=h.amem _ _ w;have I:((t.toNat:Nat):Int)=t:=bc ht0;rw [I] at q;obtain ⟨v,bw,fw,J,X,E,N,M,a7⟩:=hD.parent t.toNat d hd (by omega) (by rw [I];exact hty);rw [I] at E N M;have b7:=hD.low _ _ hd;have a9:=h.n1;let Ok:Int->Int->Prop:=fun nx a=>0<=a/\∃ b f,bs[a.toNat]?=some b/\fl[a.toNat]?=some f/\(b.1=t\/b.2.1=t)/\0<res b f t/\nx=oth b t/\L[nx.toNat]?=some (d - 1);have key:=zz (F:=zcg (n,bs,at_,fl0) x23 (t,fl)) (fun s=>∃ nx a i,s=(nx,a,i,fl)/\0<=i/\i<=al.length/\(nx<0\/0<=nx/\Ok nx a)/\(∀ j:Nat,j<i.toNat->al[j]?=some (v:Int)->0<=nx))
  (fun s=>(al.length - s.2.2.1).toNat) (fun z=>∃ nx a,z=(nx,a,fl)/\Ok nx a) ?_ ((-1),0,0,fl) ⟨-1,0,0,rfl,by omega,by omega,.inl (by omega),fun j T=>by simp at T⟩
 ·obtain ⟨z,hz,nx,a,rfl,h0,b,f,h1,h2,h3,h4,h5,h6⟩:=key;exact ⟨nx,a,b,f,hz,h0,h1,h2,h3,h4,h5,h6⟩
 ·rintro s ⟨nx,a,i,rfl,P,a5,U,A⟩;unfold zcg;simp only [zf4 ht0 w,gp];by_cases p:i<al.length
  ·left;rw [if_pos (by simp [p])];obtain ⟨k,hk,O⟩:=zab P p;obtain ⟨H,b,G,Z⟩:=(q k).1 (fd O);obtain ⟨f,R,b1,c2,c1,c0⟩:=h.bond H G;have g:=h.ends G t;obtain ⟨e,a2,u⟩:=zab (l:=L) g.1 (by rw [hD.len];omega);simp only [hk,gp,zvf h H G R];have c:w64 (i+1)=i+1:=zt (by omega) (by omega);have r:(k=v->¬(0<res b f t/\e=d - 1)  \/ 0<=nx)->∃ s',zU (n,bs,at_,fl0) (t,fl) (nx,a,i,fl) al k (res b f t,oth b t,(n,bs,at_,fl)) false=some (.inl s')/\
     (∃ nx a i,s'=(nx,a,i,fl)/\0<=i/\i<=al.length/\(nx<0\/0<=nx/\Ok nx a)/\(∀ j:Nat,j<i.toNat->al[j]?=some (v:Int)->0<=nx))/\(al.length - s'.2.2.1).toNat<(al.length - i).toNat:=by
    intro a1;refine ⟨_,by unfold zU zci;rfl,⟨nx,a,i+1,by rw [c],by omega,by omega,U,?_⟩,by simp only [c];omega⟩;intro j T D;by_cases Q:j<i.toNat
    ·exact A j Q D
    ·obtain rfl:=ztS P T Q;rw [O] at D;have C:=Option.some.inj D;refine (a1 C).resolve_left (fun hn=>hn ?_);subst C;simp only [bb] at G R;rw [J] at G;obtain rfl:=Option.some.inj G;have:fl[v]?=fl0[v]?:=hsame v _ J E M;rw [this,X] at R;obtain rfl:=Option.some.inj R;rw [M] at u;exact ⟨N,(Option.some.inj u).symm⟩
   by_cases m:res b f t>0
   ·rw [if_pos (by simp [m])];simp only [a2,zf4 ht0 hd,hx,gp];rw [zt (by omega) (by omega)];by_cases x:e=d - 1
    ·rw [if_pos (by simp [x])];have take:∃ s',zU (n,bs,at_,fl0) (t,fl) (nx,a,i,fl) al k (res b f t,oth b t,(n,bs,at_,fl)) true=some (.inl s')/\
       (∃ nx a i,s'=(nx,a,i,fl)/\0<=i/\i<=al.length/\(nx<0\/0<=nx/\Ok nx a)/\(∀ j:Nat,j<i.toNat->al[j]?=some (v:Int)->0<=nx))/\(al.length - s'.2.2.1).toNat<(al.length - i).toNat:=by
      refine ⟨(oth b t,k,i+1,fl),?_,⟨oth b t,k,i+1,rfl,by omega,by omega,.inr ⟨g.1,H,b,f,G,R,Z,m,rfl,by rw [u,x]⟩,fun _ _ _=>g.1⟩,by simp only [];omega⟩;unfold zU zci;simp only [if_true,zf4 ht0 w,gp,hk,c]
     by_cases S:nx<0
     ·rw [if_pos (by simp [S])];exact take
     ·rw [if_neg (by simp [S])];by_cases B:oth b t<nx
      ·simp only [B,decide_true];exact take
      ·simp only [B,decide_false];exact r fun _=>.inr (by omega)
    ·rw [if_neg (by simp [x])];exact r fun _=>.inl fun hc=>x hc.2
   ·rw [if_neg (by simp [m])];exact r fun _=>.inl fun hc=>m hc.1
  ·right;rw [if_neg (by simp [p])];refine ⟨_,rfl,nx,a,rfl,?_⟩;have Y:(v:Int)∈al:=(q v).2 ⟨Int.natCast_nonneg v,bw,by simpa using J,E⟩;obtain ⟨j,T,a0⟩:=List.mem_iff_getElem.1 Y;have:=A j (by omega) (by rw [cq T,a0]);rcases U with hc | hc
   ·omega
   ·exact hc.2
theorem zv7 (h:Net n bs at_ fl) {L:List Int} {x23:(List Int)×(Int×(List Bd)×(List (List Int))×(List Int))} (hx:x23.1=L) (hD:Dist n bs fl y L) (hx0:0<=x) {d:Int} (hd:L[x.toNat]?=some d) (hd0:0<=d) :
  ∃ a,iter (zch (n,bs,at_,fl) y x23) (x,fl)=some a/\Net n bs at_ a/\∀ S,zc6 S bs a=zc6 S bs fl+(ind (S x) - ind (S y)):=by
 have key:=zz (F:=zch (n,bs,at_,fl) y x23) (fun s=>∃ t g e,s=(t,g)/\0<=t/\L[t.toNat]?=some e/\0<=e/\Net n bs at_ g/\(∀ S,zc6 S bs g=zc6 S bs fl+(ind (S x) - ind (S t)))/\
   ∀ (k:Nat) (b:Bd) (M J:Int),bs[k]?=some b->L[b.1.toNat]?=some M->L[b.2.1.toNat]?=some J->M<=e->J<=e->g[k]?=fl[k]?)
  (fun s=>((L[s.1.toNat]?).getD 0).toNat) (fun z=>∃ a,z=a/\Net n bs at_ a/\∀ S,zc6 S bs a=zc6 S bs fl+(ind (S x) - ind (S y))) ?_
  (x,fl) ⟨x,fl,d,rfl,hx0,hd,hd0,h,fun S=>by omega,fun _ _ _ _ _ _ _ _ _=>rfl⟩
 ·obtain ⟨z,Y,a,ez,A,v⟩:=key;subst ez;exact ⟨_,Y,A,v⟩
 ·rintro s ⟨t,g,e,rfl,H,r,N,hN,E,j⟩;unfold zch;by_cases p:t=y
  ·right;subst p;rw [if_neg (by simp)];exact ⟨_,rfl,g,rfl,hN,E⟩
  ·left;rw [if_pos (by simp [p])];have R:((t.toNat:Nat):Int)=t:=bc H;have T:0<e:=by
    obtain ⟨k,b,f,_,_,_,_,_,h6⟩:=hD.parent t.toNat e r N (by rw [R];exact p);omega
   have w:∀ (k:Nat) (b:Bd),bs[k]?=some b->(b.1=t\/b.2.1=t)->L[(oth b t).toNat]?=some (e - 1)->g[k]?=fl[k]?:=by
    intro k b q m I;rcases m with rfl | rfl
    ·have Q:oth b b.1=b.2.1:=by unfold oth;rw [if_pos rfl]
     rw [Q] at I;exact j k b e (e - 1) q r I (by omega) (by omega)
    ·have Z:=h.wb _ _ q;have Q:oth b b.2.1=b.1:=by unfold oth;rw [if_neg Z.2.2.2.2.1]
     rw [Q] at I;exact j k b (e - 1) e q I r (by omega) (by omega)
   obtain ⟨nx,B,b,f,C,P,q,hf,m,hr,D,G⟩:=zuQ (fl0:=fl) (y:=y) hN hx hD H r T w p
   ·obtain ⟨f',hp,O,hS⟩:=zx3 hN P q hf m hr;have u:=h.ends q t;refine ⟨(nx,g.set B.toNat f'),?_,⟨nx,_,e - 1,rfl,by rw [D];exact u.1,G,by omega,O,?_,?_⟩,?_⟩
    ·rw [C];simp only [gp,zgM,hp]
    ·intro S;rw [hS,E,D];omega
    ·intro k c M J hc A v X V;by_cases U:B.toNat=k
     ·subst U;rw [q] at hc;obtain rfl:=Option.some.inj hc;rcases m with rfl | rfl
      ·rw [r] at A;injection A;omega
      ·rw [r] at v;injection v;omega
     ·rw [zJ U];exact j k c M J hc A v (by omega) (by omega)
    ·simp only [G,r,gq];omega
theorem zv8 (h:Net n bs at_ fl) (hx0:0<=x) (hx:x<n) (hy0:0<=y) (hy:y<n) :
  (zei (n,bs,at_,fl) x y=some (false,n,bs,at_,fl)/\∃ S:Int->Bool,S x=true/\S y=false/\zc6 S bs fl=zfG S bs) \/
  ∃ c,zei (n,bs,at_,fl) x y=some (true,n,bs,at_,c)/\Net n bs at_ c/\∀ S,zc6 S bs c=zc6 S bs fl+(ind (S x) - ind (S y)):=by
 obtain ⟨L,hs,r⟩:=zq0 h hy0 hy;obtain ⟨d,hd,D⟩:=zab (l:=L) hx0 (by rw [r.len];omega);unfold zei;simp only [hs,gp,hd];by_cases g:d<0
 ·left;rw [if_pos (by simp [g])];refine ⟨rfl,fun v=>decide (∃ e,L[v.toNat]?=some e/\e<0),?_,?_,?_⟩
  ·simp only [decide_eq_true_eq];exact ⟨d,D,g⟩
  ·simp only [decide_eq_false_iff_not];rintro ⟨e,p,u⟩;rw [r.goal] at p;injection p;omega
  ·refine zqm h.flen fun k b f E F=>?_;have s:=h.wb _ _ E;have J:=h.fok _ _ _ E F;have I:=r.len;obtain ⟨C,_,m⟩:=zab (l:=L) s.1 (by omega);obtain ⟨w,_,j⟩:=zab (l:=L) s.2.2.1 (by omega);simp only [decide_eq_true_eq,decide_eq_false_iff_not];have G:oth b b.1=b.2.1:=by unfold oth;rw [if_pos rfl]
   have H:oth b b.2.1=b.1:=by unfold oth;rw [if_neg s.2.2.2.2.1]
   refine ⟨?_,?_⟩
   ·rintro ⟨e,p,u⟩ q;rw [m] at p;obtain rfl:=Option.some.inj p;have B:0<=w:=by
     rcases Int.lt_or_le w 0 with h1 | h1
     ·exact absurd ⟨w,j,h1⟩ q
     ·exact h1
    have a:((b.2.1.toNat:Nat):Int)=b.2.1:=bc s.2.2.1;have:=r.closed k b f b.2.1.toNat w C E F (.inr a.symm) j B;rw [a,H] at this;rcases Int.lt_or_le 0 (res b f b.1) with hr | hr
    ·have:=this hr m;omega
    ·unfold res at hr;rw [if_pos rfl] at hr;omega
   ·rintro q ⟨e,p,u⟩;rw [j] at p;obtain rfl:=Option.some.inj p;have t:0<=C:=by
     rcases Int.lt_or_le C 0 with h1 | h1
     ·exact absurd ⟨C,m,h1⟩ q
     ·exact h1
    have a:((b.1.toNat:Nat):Int)=b.1:=bc s.1;have:=r.closed k b f b.1.toNat C w E F (.inl a.symm) m t;rw [a,G] at this;rcases Int.lt_or_le 0 (res b f b.2.1) with hr | hr
    ·have:=this hr j;omega
    ·unfold res at hr;rw [if_neg s.2.2.2.2.1] at hr;omega
 ·right;rw [if_neg (by simp [g])];obtain ⟨c,A,hN,hS⟩:=zv7 (x23:=(L,n,bs,at_,fl)) h rfl r hx0 D (by omega);refine ⟨c,?_,hN,hS⟩;rw [A];rfl
def zkZ (bs:List Bd) (x y:Int) (v:Int):Prop:=
 (∀ S:Int->Bool,S x=true->S y=false->v<=zfG S bs)/\∃ S:Int->Bool,S x=true/\S y=false/\v=zfG S bs
theorem zwd (h:Net n bs at_ fl) (hx0:0<=x) (hx:x<n) (hy0:0<=y) (hy:y<n) (hxy:x≠y) (h0:∀ S,zc6 S bs fl=0) :
  ∃ v a,iter (ze1 x y (n,bs,at_,fl)) (0,fl)=some (v,a)/\Net n bs at_ a/\0<=v/\v<=100000000/\zkZ bs x y v:=by
 let S0:Int->Bool:=fun v=>decide (v=x);have d:S0 x=true:=by simp [S0]
 have f:S0 y=false:=by simp [S0];omega
 have A:zfG S0 bs<=100000000:=by
  have:=zu0 (S:=S0) (bs:=bs) (fun b E=>by
   obtain ⟨k,G,u⟩:=List.mem_iff_getElem.1 E;have:=h.wb k b (by rw [cq G,u]);omega)
  have:=h.bn;omega
 have key:=zz (F:=ze1 x y (n,bs,at_,fl)) (fun s=>∃ v c,s=(v,c)/\0<=v/\Net n bs at_ c/\∀ S:Int->Bool,S x=true->S y=false->zc6 S bs c=v)
  (fun s=>(zfG S0 bs - s.1).toNat) (fun z=>∃ v a,z=(v,a)/\Net n bs at_ a/\0<=v/\v<=100000000/\zkZ bs x y v) ?_
  (0,fl) ⟨0,fl,rfl,by omega,h,fun S _ _=>h0 S⟩
 ·obtain ⟨z,I,v,a,rfl,m,j,J,H⟩:=key;exact ⟨v,a,I,m,j,J,H⟩
 ·rintro s ⟨v,c,rfl,w,hN,g⟩;have q:∀ S:Int->Bool,S x=true->S y=false->v<=zfG S bs:=fun S m j=>by rw [←g S m j];exact znz hN.flen hN.fok
  have D:=q S0 d f;unfold ze1;rcases zv8 hN hx0 hx hy0 hy with ⟨t,S,p,r,hS⟩ | ⟨a,t,hN',hS⟩
  ·right;rw [t];refine ⟨_,rfl,v,c,rfl,hN,w,by omega,q,S,p,r,?_⟩;rw [←hS,g S p r]
  ·left;rw [t];have e:∀ S:Int->Bool,S x=true->S y=false->zc6 S bs a=v+1:=fun S m j=>by
    rw [hS,g S m j,m,j];simp [ind]
   have C:v+1<=zfG S0 bs:=by rw [←e S0 d f];exact znz hN'.flen hN'.fok
   have B:w64 (v+1)=v+1:=zt (by omega) (by omega);refine ⟨_,rfl,⟨v+1,a,by rw [B],by omega,hN',e⟩,?_⟩;simp only [B];omega
end
def zt4:List (List Int)->List (Int×Int×Int)->Int->Option (List (List Int))
 | t,[],_=>some t
 | t,b::bs,i=>(idx t b.1).bind fun x=>(app 8 x [i]).bind fun y=>(idx (t.set b.1.toNat y) b.2.1).bind fun z=>(app 8 z [i]).bind fun w=>zt4 ((t.set b.1.toNat y).set b.2.1.toNat w) bs (i+1)
theorem ztR (all:List (Int×Int×Int)) (hlen:all.length<=100000):∀ (rest:List (Int×Int×Int)) (i:Nat) (t t':List (List Int)),all.drop i=rest->zt4 t rest i=some t'->iter (zcQ all) ((i:Int),t)=some t'
 | [],i,t,t',hd,h=>by
  have hi:all.length<=i:=by
   have:=congrArg List.length hd;simp at this;omega
  have:t'=t:=by injection h with h;exact h.symm
  subst this;refine zI ?_;unfold zcQ;rw [if_neg (by simp;omega)]
 | b::rest,i,t,t',hd,h=>by
  have hi:i<all.length:=by
   have:=congrArg List.length hd;simp at this;omega
  have g:idx all (i:Int)=some b:=by
   unfold idx;rw [if_pos (by omega)];have:all[i]?=some b:=by
    have d:(all.drop i)[0]?=some b:=by rw [hd];rfl
    rw [co] at d;simpa using d
   simpa using this
  unfold zt4 at h;obtain ⟨x,j,h⟩:=gm.1 h;obtain ⟨y,f,h⟩:=gm.1 h;obtain ⟨z,k,h⟩:=gm.1 h;obtain ⟨w,e,h⟩:=gm.1 h;have c:w64 ((i:Int)+1)=((i+1:Nat):Int):=by rw [zt (by omega) (by omega)];omega
  have a:zcQ all ((i:Int),t)=some (.inl (((i+1:Nat):Int),(t.set b.1.toNat y).set b.2.1.toNat w)):=by
   unfold zcQ;rw [if_pos (by simp;omega)];simp only [g,gp,j,f,k,e,c]
  rw [zD a];refine ztR all hlen rest (i+1) _ t' ?_ (by simpa using h);have:=congrArg (List.drop 1) hd;rw [List.drop_drop] at this;simpa [Nat.add_comm] using this
def WBs (n:Int) (bs:List Bd):Prop:=∀ (k:Nat) (b:Bd),bs[k]?=some b->0<=b.1/\b.1<n/\0<=b.2.1/\b.2.1<n/\b.1≠b.2.1/\0<=b.2.2/\b.2.2<=1000
theorem zrA {n:Int} (hn:0<=n) (all:List Bd) (hw:WBs n all) (hlen:all.length<=100000):∀ (rest:List Bd) (i:Nat) (t:List (List Int)),all.drop i=rest->i+rest.length=all.length->t.length=n.toNat->
  (∀ (v:Nat) (l:List Int),t[v]?=some l->l.length<=i/\∀ k:Int,k∈l↔(0<=k/\k<i/\∃ b:Bd,all[k.toNat]?=some b/\(b.1=v\/b.2.1=v)))->
  ∃ t',zt4 t rest i=some t'/\t'.length=n.toNat/\∀ (v:Nat) (l:List Int),t'[v]?=some l->l.length<=100000/\∀ k:Int,k∈l↔(0<=k/\∃ b:Bd,all[k.toNat]?=some b/\(b.1=v\/b.2.1=v))
 | [],i,t,hd,hl,ht,hm=>by
  refine ⟨t,rfl,ht,fun v l d=>?_⟩;obtain ⟨A,s⟩:=hm v l d;refine ⟨by omega,fun k=>(s k).trans ?_⟩;constructor
  ·rintro ⟨w,_,h⟩;exact ⟨w,h⟩
  ·rintro ⟨w,b,e,h⟩;have:=zu e;simp at hl;exact ⟨w,by omega,b,e,h⟩
 | b::rest,i,t,hd,hl,ht,hm=>by
  have e:all[i]?=some b:=by
   have:=congrArg (fun l=>l[0]?) hd;simpa using this
  have g:=hw _ _ e;have hi:=zu e;obtain ⟨x,F,m⟩:=zab (l:=t) g.1 (by omega);obtain ⟨D,r⟩:=hm _ _ m;have u:b.1.toNat≠b.2.1.toNat:=by omega
  obtain ⟨z,H,j⟩:=zab (l:=t) g.2.2.1 (by omega);obtain ⟨E,p⟩:=hm _ _ j;have C:idx (t.set b.1.toNat (x++[(i:Int)])) b.2.1=some z:=zf4 g.2.2.1 (by rw [zJ u];exact j);unfold zt4;rw [F];simp only [gp];rw [zQ (by simp;omega) (by simp;omega)];simp only [gp,C];rw [zQ (by simp;omega) (by simp;omega)];simp only [gp];refine zrA hn all hw hlen rest (i+1) _ ?_ (by simp at hl;omega) (by simp [ht]) ?_
  ·rw [←List.drop_drop,hd];rfl
  ·intro v l d;by_cases s:b.2.1.toNat=v
   ·subst s;rw [zR (by rw [ee];exact zu j)] at d;obtain rfl:=Option.some.inj d;refine ⟨by simp;omega,fun k=>?_⟩;rw [ep];constructor
    ·rintro (h | h)
     ·obtain ⟨f,q,a⟩:=(p k).1 h;exact ⟨f,by omega,a⟩
     ·have:k=i:=by simpa using h
      subst this;exact ⟨by omega,by omega,b,by simpa using e,.inr (by omega)⟩
    ·rintro ⟨f,q,a⟩;by_cases y:k=i
     ·right;simp [y]
     ·left;exact (p k).2 ⟨f,by omega,a⟩
   ·rw [zJ s] at d;by_cases A:b.1.toNat=v
    ·subst A;rw [zR (zu m)] at d;obtain rfl:=Option.some.inj d;refine ⟨by simp;omega,fun k=>?_⟩;rw [ep];constructor
     ·rintro (h | h)
      ·obtain ⟨f,q,a⟩:=(r k).1 h;exact ⟨f,by omega,a⟩
      ·have:k=i:=by simpa using h
       subst this;exact ⟨by omega,by omega,b,by simpa using e,.inl (by omega)⟩
     ·rintro ⟨f,q,a⟩;by_cases y:k=i
      ·right;simp [y]
      ·left;exact (r k).2 ⟨f,by omega,a⟩
    ·rw [zJ A] at d;obtain ⟨f,q⟩:=hm v l d;refine ⟨by omega,fun k=>(q k).trans ?_⟩;constructor
     ·rintro ⟨a,G,B⟩;exact ⟨a,by omega,B⟩
     ·rintro ⟨a,G,c,hc,B⟩;refine ⟨a,?_,c,hc,B⟩;rcases Int.lt_or_le k i with h8 | h8
      ·exact h8
      ·have:k=i:=by omega
       subst this;simp at hc;rw [e] at hc;obtain rfl:=Option.some.inj hc;omega
section
variable {n:Int} {bs:List Bd} {x y:Int}
theorem zw8 (hn0:0<=n) (hn1:n<=100000) (d:bs.length<=100000) (hw:WBs n bs):∃ at_ fl,zk9 n bs=some (n,bs,at_,fl)/\Net n bs at_ fl/\∀ S,zc6 S bs fl=0:=by
 obtain ⟨t',m,j,g⟩:=zrA hn0 bs hw d bs 0 (List.replicate n.toNat []) (by simp) (by omega) (by simp) (by
  intro v l c;rw [dg] at c;split at c
  ·injection c with c;subst c
   refine ⟨by simp,fun k=>?_⟩;constructor
   ·intro h;cases h
   ·rintro ⟨q,p,_⟩;omega
  ·cases c)
 refine ⟨t',List.replicate bs.length 0,?_,⟨hn0,hn1,d,hw,j,g,by simp,?_⟩,fun S=>zsE⟩
 ·unfold zk9;rw [znj hn0 (by omega) (by omega),znj (by omega) (by omega) (by omega)];simp only [gp,bb];have e:iter (zcQ bs) (0,List.replicate n.toNat [])=some t':=ztR bs d bs 0 _ t' (by simp) m;rw [e];rfl
 ·intro k b f d a;rw [dg] at a;have:=hw _ _ d;split at a
  ·injection a with a;subst a;omega
  ·cases a
theorem zwc (hn1:n<=100000) (hb:bs.length<=100000) (hw:WBs n bs) (hx0:0<=x) (hx:x<n) (hy0:0<=y) (hy:y<n) (hxy:x≠y) :
  ∃ v at_ fl,zj9 n bs x y=some ((n,bs,at_,fl),v)/\Net n bs at_ fl/\0<=v/\v<=100000000/\zkZ bs x y v:=by
 obtain ⟨at_,fl,b,hN,g⟩:=zw8 (by omega) hn1 hb hw;obtain ⟨v,d,a,c,f,e,h⟩:=zwd hN hx0 hx hy0 hy hxy g;refine ⟨v,at_,d,?_,c,f,e,h⟩;unfold zj9 zjH;rw [b];simp only [gp];rw [a];rfl
theorem zvJ {at_:List (List Int)} {fl:List Int} (h:Net n bs at_ fl) (hy0:0<=y) (hy:y<n):∃ p,zgj (n,bs,at_,fl) y=some (p,n,bs,at_,fl)/\p.length<=100000:=by
 obtain ⟨L,hs,k⟩:=zq0 h hy0 hy;have j:=h.n1;have f:=k.len;have key:=zz (F:=zd3 (n,bs,at_,fl) (L,n,bs,at_,fl)) (fun s=>0<=s.2/\s.2<=n/\s.1.length<=s.2.toNat) (fun s=>(n - s.2).toNat) (fun p=>p.length<=100000) ?_ ([],0) ⟨by omega,by omega,by simp⟩
 ·obtain ⟨p,g,e⟩:=key;refine ⟨p,?_,e⟩;unfold zgj zgL;rw [hs];simp only [gp,g]
 ·rintro ⟨p,i⟩ ⟨hi0,hi1,e⟩;simp only at hi0 hi1 e;unfold zd3 zd4;by_cases b:i<n
  ·left;rw [if_pos (by simp [b])];obtain ⟨d,hd,_⟩:=zab (l:=L) hi0 (by omega);simp only [hd,gp];have a:w64 (i+1)=i+1:=zt (by omega) (by omega);by_cases c:d≥0
   ·rw [if_pos (by simp [c]),zQ (by simp;omega) (by simp;omega)];refine ⟨_,rfl,⟨by simp only [a];omega,by simp only [a];omega,?_⟩,by simp only [a];omega⟩;simp only [a,du,dv,ec];omega
   ·rw [if_neg (by simp [c])];exact ⟨_,rfl,⟨by simp only [a];omega,by simp only [a];omega,by simp only [a];omega⟩,by simp only [a];omega⟩
  ·right;rw [if_neg (by simp [b])];exact ⟨_,rfl,by simp only [];omega⟩
theorem zul (v w:Int) (p q:List Int) (hp:p.length<=100000):∃ b,zh6 v p w q=some b/\(v<w->b=true)/\(w<v->b=false):=by
 unfold zh6;by_cases f:v=w
 ·rw [if_neg (by simp [f])];by_cases j:p.length=q.length
  ·rw [if_neg (by simp [j])];have key:=zz (F:=zfw p q) (fun i=>0<=i/\i<=p.length) (fun i=>(p.length - i).toNat) (fun _=>True) ?_ 0 ⟨by omega,by omega⟩
   ·obtain ⟨z,m,_⟩:=key;rw [m];cases z with
    | inl z=>exact ⟨false,rfl,by omega,by omega⟩
    | inr z=>exact ⟨z,rfl,by omega,by omega⟩
   ·rintro i ⟨e,g⟩;unfold zfw;by_cases c:i<p.length
    ·rw [if_pos (by simp [c])];obtain ⟨a,h,_⟩:=zab (l:=p) e c;obtain ⟨b,k,_⟩:=zab (l:=q) e (by omega);simp only [h,k,gp];by_cases d:a=b
     ·left;rw [if_neg (by simp [d]),zt (by omega) (by omega)];exact ⟨_,rfl,⟨by omega,by omega⟩,by omega⟩
     ·right;rw [if_pos (by simp [d])];exact ⟨_,rfl,trivial⟩
    ·right;rw [if_neg (by simp [c])];exact ⟨_,rfl,trivial⟩
  ·rw [if_pos (by simp;omega)];exact ⟨_,rfl,by omega,by omega⟩
 ·rw [if_pos (by simp [f])];exact ⟨_,rfl,by simp,by simp;omega⟩
def Holds (n:Int) (bs:List Bd) (t:Int):Prop:=∀ S:Int->Bool,S 0=true->(∃ y,1<=y/\y<n/\S y=false)->t<=zfG S bs
theorem zsR (hn2:2<=n) (hn1:n<=100000) (hb:bs.length<=100000) (hw:WBs n bs):∃ v p,zhg n bs=some (v,p)/\∀ t,t<=v↔Holds n bs t:=by
 have key:=zz (F:=zeJ n bs)
  (fun s=>1<=s.2.2/\s.2.2<=n/\s.2.1.length<=100000/\(s.2.2=1/\s.1 = -1\/1<s.2.2/\0<=s.1/\(∃ y,1<=y/\y<s.2.2/\zkZ bs 0 y s.1)/\∀ y,1<=y->y<s.2.2->∃ v,zkZ bs 0 y v/\s.1<=v))
  (fun s=>(n - s.2.2).toNat) (fun z=>(∃ y,1<=y/\y<n/\zkZ bs 0 y z.1)/\∀ y,1<=y->y<n->∃ v,zkZ bs 0 y v/\z.1<=v) ?_ ((-1),[],1) ⟨by show (1:Int)<=1;omega,by show (1:Int)<=n;omega,by simp,.inl ⟨rfl,rfl⟩⟩
 ·obtain ⟨⟨v,p⟩,P,⟨y,f,m,hm⟩,B⟩:=key;refine ⟨v,p,?_,fun t=>⟨fun ht S hS0 ⟨z,c,d,hSz⟩=>?_,fun T=>?_⟩⟩
  ·unfold zhg zhq;rw [P];rfl
  ·obtain ⟨u,J,g⟩:=B z c d;have:=J.1 S hS0 hSz;simp only at g;omega
  ·obtain ⟨S,q,k,D⟩:=hm.2;have:=T S q ⟨y,f,m,k⟩;simp only at D;omega
 ·rintro ⟨a,part,y⟩ ⟨f,m,hpl,hor⟩;simp only at f m hpl hor;unfold zeJ;by_cases e:y<n
  ·left;rw [if_pos (by simp [e])];obtain ⟨v,at_,fl,R,hN,H,O,hm⟩:=zwc (x:=0) (y:=y) hn1 hb hw (by omega) (by omega) (by omega) e (by omega);obtain ⟨p,Q,j⟩:=zvJ (y:=y) hN (by omega) e;simp only [R,Q,gp];have A:w64 (y+1)=y+1:=zt (by omega) (by omega);have take:(s1:a<0\/v<=a)->∃ s',zaI (a,part,y) ((n,bs,at_,fl),v) (p,n,bs,at_,fl) true=some (.inl s')/\
     (1<=s'.2.2/\s'.2.2<=n/\s'.2.1.length<=100000/\(s'.2.2=1/\s'.1 = -1\/1<s'.2.2/\0<=s'.1/\(∃ y,1<=y/\y<s'.2.2/\zkZ bs 0 y s'.1)/\∀ y,1<=y->y<s'.2.2->∃ v,zkZ bs 0 y v/\s'.1<=v))/\(n - s'.2.2).toNat<(n - y).toNat:=by
    intro g;refine ⟨(v,p,y+1),by unfold zaI zcP;simp [A],⟨by simp only [];omega,by simp only [];omega,j,.inr ⟨by simp only [];omega,H,⟨y,f,by simp only [];omega,hm⟩,?_⟩⟩,by simp only [];omega⟩;intro z c d;simp only at d;by_cases r:z=y
    ·subst r;exact ⟨v,hm,by simp only [];omega⟩
    ·rcases hor with ⟨q,k⟩ | ⟨q,k,D,h4⟩
     ·omega
     ·obtain ⟨u,J,N⟩:=h4 z c (by omega);exact ⟨u,J,by simp only [];omega⟩
   have C:0<=a->a<=v->∃ s',zaI (a,part,y) ((n,bs,at_,fl),v) (p,n,bs,at_,fl) false=some (.inl s')/\
     (1<=s'.2.2/\s'.2.2<=n/\s'.2.1.length<=100000/\(s'.2.2=1/\s'.1 = -1\/1<s'.2.2/\0<=s'.1/\(∃ y,1<=y/\y<s'.2.2/\zkZ bs 0 y s'.1)/\∀ y,1<=y->y<s'.2.2->∃ v,zkZ bs 0 y v/\s'.1<=v))/\(n - s'.2.2).toNat<(n - y).toNat:=by
    intro G g;rcases hor with ⟨q,k⟩ | ⟨q,k,⟨y',h5,h6,h7⟩,h4⟩
    ·omega
    ·refine ⟨(a,part,y+1),by unfold zaI zcP;simp [A],⟨by simp only [];omega,by simp only [];omega,hpl,.inr ⟨by simp only [];omega,G,⟨y',h5,by simp only [];omega,h7⟩,?_⟩⟩,by simp only [];omega⟩;intro z c d;simp only at d;by_cases r:z=y
     ·subst r;exact ⟨v,hm,g⟩
     ·exact h4 z c (by omega)
   by_cases w:a<0
   ·rw [if_pos (by simp [w])];exact take (.inl w)
   ·rw [if_neg (by simp [w])];obtain ⟨b,I,M,L⟩:=zul v a p part j;simp only [I,gp];cases b with
    | true=>exact take (.inr (by
      rcases Int.lt_or_le a v with h | h
      ·have:=L h;cases this
      ·exact h))
    | false=>exact C (by omega) (by
      rcases Int.lt_or_le v a with h | h
      ·have:=M h;cases this
      ·exact h)
  ·right;rw [if_neg (by simp [e])];refine ⟨_,rfl,?_⟩;have E:y=n:=by omega
   subst E;rcases hor with ⟨q,k⟩ | ⟨q,k,D,h4⟩
   ·omega
   ·exact ⟨D,h4⟩
end
def zcN:Nat->(Nat->Int)->Int
 | 0,_=>0
 | n+1,f=>zcN n f+f n
theorem zcM {f g:Nat->Int}:∀ {n:Nat},(∀ i,i<n->f i=g i)->zcN n f=zcN n g
 | 0,_=>rfl
 | n+1,h=>by
  unfold zcN;rw [zcM (n:=n) fun i hi=>h i (by omega),h n (by omega)]
theorem zoN (f g:Nat->Int):∀ (n:Nat),zcN n (fun i=>f i+g i)=zcN n f+zcN n g
 | 0=>rfl
 | n+1=>by
  unfold zcN;rw [zoN f g n];simp only [Int.add_assoc,Int.add_left_comm,Int.add_comm]
theorem znF:∀ (n:Nat),zcN n (fun _=>0)=0
 | 0=>rfl
 | n+1=>by unfold zcN;rw [znF n];rfl
theorem zqZ (f:Nat->Int):∀ (n:Nat),zcN n (fun i => - f i) = - zcN n f
 | 0=>rfl
 | n+1=>by unfold zcN;rw [zqZ f n];show - zcN n f + - f n = - (zcN n f+f n);omega
theorem zsW {f g:Nat->Int}:∀ {n:Nat},(∀ i,i<n->f i<=g i)->zcN n f<=zcN n g
 | 0,_=>Int.le_refl _
 | n+1,h=>by
  unfold zcN;have a:=zsW (n:=n) fun i hi=>h i (by omega);have b:=h n (by omega);omega
theorem zsk (f:Nat->Nat->Int) (m:Nat):∀ (n:Nat),zcN n (fun i=>zcN m (fun j=>f i j))=zcN m (fun j=>zcN n (fun i=>f i j))
 | 0=>by
  show (0:Int)=zcN m (fun _=>0);rw [znF]
 | n+1=>by
  show zcN n (fun i=>zcN m (fun j=>f i j))+zcN m (fun j=>f n j)=zcN m (fun j=>zcN n (fun i=>f i j)+f n j);rw [zsk f m n,zoN]
theorem zqY {f g:Nat->Int} {a:Nat} {d:Int}:∀ {n:Nat},a<n->(∀ i,i<n->i≠a->g i=f i)->g a=f a+d->zcN n g=zcN n f+d
 | 0,h,_,_=>by omega
 | n+1,h,he,ha=>by
  unfold zcN;by_cases b:a=n
  ·subst b;rw [zcM (f:=g) (g:=f) fun i hi=>he i (by omega) (by omega),ha];omega
  ·rw [zqY (n:=n) (by omega) (fun i hi=>he i (by omega)) ha,he n (by omega) (by omega)];omega
def mid (n:Nat) (S:Int->Bool) (F:Nat->Nat->Int):Int:=zcN n fun u=>zcN n fun v=>ind (S u)*F u v
def zlD (n:Nat) (S:Int->Bool) (R:Nat->Nat->Int):Int:=zcN n fun u=>zcN n fun v=>ind (S u)*(1 - ind (S v))*R u v
theorem zsA {n:Nat} {S:Int->Bool} {F:Nat->Nat->Int} (ha:∀ u v,u<n->v<n->F u v = - F v u):mid n S F=zlD n S F:=by
 obtain ⟨T,a⟩:∃ T,T=zcN n fun u=>zcN n fun v=>ind (S u)*ind (S v)*F u v:=⟨_,rfl⟩;have e:mid n S F=zlD n S F+T:=by
  unfold mid zlD;rw [a,←zoN];refine zcM fun u c=>?_;rw [←zoN];refine zcM fun v b=>?_;rw [Int.mul_sub,Int.sub_mul,Int.mul_one];omega
 have d:T = - T:=by
  calc T=zcN n fun v=>zcN n fun u=>ind (S u)*ind (S v)*F u v:=by rw [a,zsk]
   _=zcN n fun v => - zcN n fun u=>ind (S v)*ind (S u)*F v u:=by
     refine zcM fun v b=>?_;rw [←zqZ];refine zcM fun u c=>?_;rw [ha u v c b,Int.mul_neg,Int.mul_comm (ind (S u))]
   _ = - T:=by rw [zqZ,←a]
 omega
theorem zyc {n:Nat} {S:Int->Bool} {F R:Nat->Nat->Int} (h:∀ u v,u<n->v<n->F u v<=R u v):zlD n S F<=zlD n S R:=by
 refine zsW fun u b=>zsW fun v a=>?_;have:=h u v b a;unfold ind;split<;>split<;>omega
theorem zyd {n:Nat} {S:Int->Bool} {F R:Nat->Nat->Int} (h:∀ u v:Nat,u<n->v<n->S u=true->S v=false->F u v=R u v):zlD n S F=zlD n S R:=by
 refine zcM fun u b=>zcM fun v a=>?_;have:=h u v b a;unfold ind;cases hS:S u<;>cases hV:S v<;>simp [hS,hV] at this ⊢;exact this
theorem zpp {n:Nat} {c:Nat->Nat->Int} {F G:Nat->Nat->Int} {a b:Nat} {d:Int} (ha:a<n) (hb:b<n) (he:∀ u v,u<n->v<n->(u≠a\/v≠b)->G u v=F u v) (h:G a b=F a b+d) :
  (zcN n fun u=>zcN n fun v=>c u v*G u v)=(zcN n fun u=>zcN n fun v=>c u v*F u v)+c a b*d:=by
 refine zqY ha (fun u g e=>zcM fun v f=>by rw [he u v g f (.inl e)]) ?_;refine zqY hb (fun v f e=>by rw [he a v ha f (.inr e)]) ?_;rw [h,Int.mul_add]
def ent (F:List (List Int)) (u v:Nat):Int:=((F[u]?.getD [])[v]?).getD 0
structure Sq (n:Nat) (F:List (List Int)):Prop where
 len:F.length=n
 row:∀ (u:Nat) (r:List Int),F[u]?=some r->r.length=n
section
variable {n:Nat} {F:List (List Int)}
theorem Sq.get (h:Sq n F) {u v:Nat} (hu:u<n) (hv:v<n):∃ r,F[u]?=some r/\r.length=n/\r[v]?=some (ent F u v):=by
 have b:u<F.length:=by rw [h.len];exact hu
 have a:F[u]?=some F[u]:=cq b;have c:=h.row u _ a;refine ⟨F[u],a,c,?_⟩;unfold ent;rw [a];simp only [gq];rw [cq (by omega)];rfl
theorem Sq.idx (h:Sq n F) {u v:Int} (hu0:0<=u) (hu:u<n) (hv0:0<=v) (hv:v<n):∃ r,idx F u=some r/\r.length=n/\F[u.toNat]?=some r/\Lf.idx r v=some (ent F u.toNat v.toNat):=by
 obtain ⟨r,a,b,c⟩:=h.get (u:=u.toNat) (v:=v.toNat) (by omega) (by omega);exact ⟨r,zf4 hu0 a,b,a,zf4 hv0 c⟩
theorem Sq.set (h:Sq n F) {u v:Nat} {r:List Int} {e:Int} (hr:F[u]?=some r) (hv:v<n):Sq n (F.set u (r.set v e))/\∀ i j,ent (F.set u (r.set v e)) i j=if i=u/\j=v then e else ent F i j:=by
 have d:=zu hr;have c:=h.row u r hr;refine ⟨⟨by rw [ee];exact h.len,fun i x a=>?_⟩,fun i j=>?_⟩
 ·by_cases hi:u=i
  ·subst hi;rw [zR d] at a;injection a with a
   rw [←a,ee];exact c
  ·rw [zJ hi] at a;exact h.row i x a
 ·unfold ent;by_cases hi:u=i
  ·subst hi;rw [zR d,hr];simp only [gq,true_and];by_cases b:v=j
   ·subst b;rw [zR (by omega),if_pos rfl];rfl
   ·rw [zJ b,if_neg (fun e=>b e.symm)]
  ·rw [zJ hi,if_neg (fun e=>hi e.1.symm)]
end
theorem zqL {n:Int} (h0:0<=n) (h1:n<=100000):mkl 8 n (0:Int)=some (List.replicate n.toNat 0):=znj h0 (by omega) (by omega)
theorem zxW (n:Nat):Sq n (List.replicate n (List.replicate n 0))/\∀ u v,ent (List.replicate n (List.replicate n 0)) u v=0:=by
 refine ⟨⟨by simp,fun u r b=>?_⟩,fun u v=>?_⟩
 ·have:=dg (a:=List.replicate n (0:Int)) (n:=n) (i:=u);rw [this] at b;split at b
  ·injection b with b;rw [←b];simp
  ·cases b
 ·unfold ent;rw [dg];split
  ·simp only [gq];rw [dg];split<;>rfl
  ·simp
section
variable {n:Int} {bs:List Bd}
theorem zrm (h0:0<=n) (h1:n<=1000):iter (zdJ n) (0,[],[])=some (List.replicate n.toNat (List.replicate n.toNat 0),List.replicate n.toNat (List.replicate n.toNat 0)):=by
 have key:=zz (F:=zdJ n)
  (fun s=>0<=s.1/\s.1<=n/\s.2.1=List.replicate s.1.toNat (List.replicate n.toNat 0)/\s.2.2=List.replicate s.1.toNat (List.replicate n.toNat 0)) (fun s=>(n - s.1).toNat)
  (fun z=>z=(List.replicate n.toNat (List.replicate n.toNat 0),List.replicate n.toNat (List.replicate n.toNat 0))) ?_ (0,[],[]) ⟨by simp,h0,by simp,by simp⟩
 ·obtain ⟨z,f,rfl⟩:=key;exact f
 ·rintro ⟨i,A,B⟩ ⟨hi0,hi1,hA,hB⟩;simp only at hi0 hi1 hA hB;unfold zdJ;by_cases c:i<n
  ·left;have d:∀ X,X=List.replicate i.toNat (List.replicate n.toNat (0:Int))->app 24 X [List.replicate n.toNat 0]=some (List.replicate (i+1).toNat (List.replicate n.toNat 0)):=by
    intro X e;have a:X.length=i.toNat:=by rw [e];simp
    rw [zQ (by rw [a];simp;omega) (by rw [a];simp;omega),e];have:(i+1).toNat=i.toNat+1:=by omega
    rw [this,List.replicate_succ']
   simp only [c,decide_true,if_true,zqL h0 (by omega),gp,d A hA,d B hB];have b:w64 (i+1)=i+1:=zt (by omega) (by omega);exact ⟨_,rfl,⟨by simp only [b];omega,by simp only [b];omega,by simp only [b],by simp only [b]⟩,by simp only [b];omega⟩
  ·right;simp only [c,decide_false];have:i=n:=by omega
   subst this;exact ⟨_,rfl,by rw [hA,hB]⟩
theorem zvZ {m:Nat} {S:Int->Bool} {R R1 R2:Nat->Nat->Int} {a b:Nat} {d:Int} (ha:a<m) (hb:b<m) (hab:a≠b)
  (h1:∀ u v,R1 u v=if u=a/\v=b then R a b+d else R u v) (h2:∀ u v,R2 u v=if u=b/\v=a then R1 b a+d else R1 u v) :
  zlD m S R2=zlD m S R+(if S a=S b then 0 else d):=by
 unfold zlD;rw [zpp (c:=fun u v=>ind (S u)*(1 - ind (S v))) (F:=R1) (G:=R2) hb ha (d:=d) (fun u v _ _ e=>by rw [h2,if_neg (by omega)]) (by rw [h2,if_pos ⟨rfl,rfl⟩]),
  zpp (c:=fun u v=>ind (S u)*(1 - ind (S v))) (F:=R) (G:=R1) ha hb (d:=d) (fun u v _ _ e=>by rw [h1,if_neg (by omega)]) (by rw [h1,if_pos ⟨rfl,rfl⟩])]
 unfold ind;cases S a<;>cases S b<;>simp
theorem zqx (h0:0<=n) (h1:n<=1000) (hb:bs.length<=100000) (hw:WBs n bs) (A:List (List Int)) (hA:Sq n.toNat A) (hA0:∀ u v,ent A u v=0) :
  ∃ R,iter (zdI bs) (0,A)=some R/\Sq n.toNat R/\(∀ u v,0<=ent R u v/\ent R u v<=2000*bs.length)/\∀ S,zlD n.toNat S (ent R)=zfG S bs:=by
 have key:=zz (F:=zdI bs)
  (fun s=>0<=s.1/\s.1<=bs.length/\Sq n.toNat s.2/\(∀ u v,0<=ent s.2 u v/\ent s.2 u v<=2000*s.1)/\∀ S,zlD n.toNat S (ent s.2)=zfG S (bs.take s.1.toNat)) (fun s=>(bs.length - s.1).toNat)
  (fun R=>Sq n.toNat R/\(∀ u v,0<=ent R u v/\ent R u v<=2000*bs.length)/\∀ S,zlD n.toNat S (ent R)=zfG S bs) ?_ (0,A) ⟨by simp,by simp,hA,fun u v=>by rw [hA0];simp,fun S=>?_⟩
 ·exact key
 ·rintro ⟨i,A⟩ ⟨hi0,hi1,hA,hbd,hc⟩;simp only at hi0 hi1 hA hbd hc;unfold zdI;by_cases h:i<bs.length
  ·left;obtain ⟨⟨x,y,s⟩,C,t⟩:=zab (l:=bs) hi0 h;obtain ⟨D,w2,E,P,X,T,U⟩:=hw _ _ t;simp only at D w2 E P X T U;obtain ⟨r,g1,g2,g3,Z⟩:=hA.idx (u:=x) (v:=y) D (by omega) E (by omega);obtain ⟨q,p⟩:=hA.set (e:=ent A x.toNat y.toNat+s) g3 (v:=y.toNat) (by omega);obtain ⟨Q,k1,k2,V,O⟩:=q.idx (u:=y) (v:=x) E (by omega) D (by omega);have a4:=hbd x.toNat y.toNat;have w:ent (A.set x.toNat (r.set y.toNat (ent A x.toNat y.toNat+s))) y.toNat x.toNat=ent A y.toNat x.toNat:=by rw [p,if_neg (by omega)]
   have a2:=hbd y.toNat x.toNat;rw [w] at O;obtain ⟨L,B⟩:=q.set (e:=ent A y.toNat x.toNat+s) V (v:=x.toNat) (by omega);have M:w64 (ent A x.toNat y.toNat+s)=ent A x.toNat y.toNat+s:=zt (by omega) (by omega);have J:w64 (ent A y.toNat x.toNat+s)=ent A y.toNat x.toNat+s:=zt (by omega) (by omega);have H:w64 (i+1)=i+1:=zt (by omega) (by omega);simp only [h,decide_true,if_true,C,gp,g1,Z,M,k1,O,J,H];refine ⟨_,rfl,⟨by simp only [];omega,by simp only [];omega,L,fun u v=>?_,fun S=>?_⟩,by simp only [];omega⟩
   ·simp only;rw [B];split
    ·omega
    ·rw [p];split
     ·omega
     ·have:=hbd u v;omega
   ·simp only;have I:(i+1).toNat=i.toNat+1:=by omega
    have G:bs.take (i+1).toNat=bs.take i.toNat++[(x,y,s)]:=by
     rw [I,fp,t];rfl
    rw [G];have j:∀ (l:List Bd) (b:Bd),zfG S (l++[b])=zfG S l+(if S b.1=S b.2.1 then 0 else b.2.2):=by
     intro l b
     induction l with
     | nil=>simp [zfG]
     | cons c l ih=>simp only [List.cons_append,zfG,ih];omega
    rw [j,←hc S];have hx:((x.toNat:Nat):Int)=x:=by omega
    have hy:((y.toNat:Nat):Int)=y:=by omega
    have:=zvZ (m:=n.toNat) (S:=S) (R:=ent A) (R1:=ent (A.set x.toNat (r.set y.toNat (ent A x.toNat y.toNat+s)))) (a:=x.toNat) (b:=y.toNat) (d:=s) (by omega) (by omega) (by omega) p (R2:=ent ((A.set x.toNat (r.set y.toNat (ent A x.toNat y.toNat+s))).set y.toNat (Q.set x.toNat (ent A y.toNat x.toNat+s)))) (by intro u v;rw [B,w]);rw [hx,hy] at this;exact this
  ·right;simp only [h,decide_false];have:i=bs.length:=by omega
   refine ⟨_,rfl,hA,fun u v=>by rw [←this];exact hbd u v,fun S=>?_⟩;rw [hc S,this];simp
 ·simp only [zfG,List.take_zero,Int.toNat_zero];unfold zlD;have N:∀ (k:Nat) (f:Nat->Int),(∀ i,f i=0)->zcN k f=0:=fun k f Y=>by
   rw [zcM (g:=fun _=>0) fun i _=>Y i,znF]
  refine N _ _ fun u=>N _ _ fun v=>by rw [hA0];simp
theorem zrl (h0:0<=n) (h1:n<=1000) (hb:bs.length<=100000) (hw:WBs n bs) :
  ∃ R F,ziy n bs=some (R,F)/\Sq n.toNat R/\Sq n.toNat F/\(∀ u v,ent F u v=0)/\(∀ u v,0<=ent R u v/\ent R u v<=2000*bs.length)/\∀ S,zlD n.toNat S (ent R)=zfG S bs:=by
 obtain ⟨b,a⟩:=zxW n.toNat;obtain ⟨R,e,c,f,d⟩:=zqx h0 h1 hb hw _ b a;refine ⟨R,_,?_,c,b,a,f,d⟩;unfold ziy zix ziw;rw [zrm h0 h1];simp only [gp];rw [e];rfl
end
def Inj {α:Type} (Q:List α):Prop:=∀ (i j:Nat) (x:α),Q[i]?=some x->Q[j]?=some x->i=j
theorem Inj.snoc {α:Type} {Q:List α} {x:α} (h:Inj Q) (hx:x∉Q):Inj (Q++[x]):=by
 intro i j y hi m;have key:∀ k:Nat,(Q++[x])[k]?=some y->(k<Q.length/\Q[k]?=some y)\/(k=Q.length/\y=x):=by
  intro k e;by_cases f:k<Q.length
  ·rw [cj f] at e;exact .inl ⟨f,e⟩
  ·rw [cn (by omega)] at e;have g:=zu e;simp at g;have:k=Q.length:=by omega
   subst this;simp at e;exact .inr ⟨rfl,e.symm⟩
 rcases key i hi with ⟨a,b⟩ | ⟨a,b⟩<;>rcases key j m with ⟨c,d⟩ | ⟨c,d⟩
 ·exact h i j y b d
 ·exact absurd (d▸fd b:x∈Q) hx
 ·exact absurd (b▸fd d:x∈Q) hx
 ·omega
theorem zvv {α:Type} {l l2:List α} {lo:Nat} (h:lo<=l.length) (j:Nat):(cpy l lo l2)[j]?=if j<lo then l[j]? else if j - lo<min l2.length (l.length - lo) then l2[j - lo]? else l[j]?:=by
 unfold cpy;have a:(l.take lo).length=lo:=by rw [ef];omega
 have b:(l2.take (l.length - lo)).length=min l2.length (l.length - lo):=by rw [ef];omega
 split
 ·rename_i hj;rw [cj (by rw [du,a];omega),cj (by omega),dm,if_pos hj]
 ·split
  ·rename_i hj hk;rw [cj (by rw [du,a,b];omega),cn (by omega),a,dm,if_pos (by omega)]
  ·rename_i hj hk;rw [cn (by rw [du,a,b];omega),du,a,b,co];congr 1;omega
theorem ztJ {n:Int} (q:1<=n) (c:n<=100000):zfA [(-1)] n=some (List.replicate n.toNat (-1)):=by
 unfold zfA;rw [if_neg (by simp;omega)];have f:IntKind.wrap .u64 (([(-1:Int)].length:Nat):Int)=1:=by decide
 have t:IntKind.wrap .u64 n=n:=by
  have:∀ m:Int,0<=m->m<18446744073709551616->IntKind.wrap .u64 m=m:=by
   intro m q c;show m % 18446744073709551616=m;omega
  exact this n (by omega) (by omega)
 rw [f,t];have g:zg4 1 n=some (0,n):=by
  unfold zg4;rw [if_pos (by omega)];simp;omega
 rw [g];simp only [gp];rw [if_neg (by simp)];unfold zdx;have hd:decide (n>9223372036854775807)=false:=by simp;omega
 rw [hd];simp only [zt (n:=n) (by omega) (by omega),zqL (n:=n) (by omega) c,gp];have key:=zz (F:=zdw) (fun s=>s.1.length=n.toNat/\1<=s.2/\s.2<=n/\∀ j:Nat,j<s.2.toNat->s.1[j]?=some (-1)) (fun s=>(n - s.2).toNat) (fun z=>z=List.replicate n.toNat (-1)) ?_
  (cpy (List.replicate n.toNat 0) 0 [-1],((min [(-1:Int)].length (List.replicate n.toNat (0:Int)).length:Nat):Int)) ?_
 ·obtain ⟨z,u,rfl⟩:=key;rw [u];rfl
 ·rintro ⟨l,k⟩ ⟨hl,hk0,hk1,hall⟩;simp only at hl hk0 hk1 hall;unfold zdw;by_cases b:k<(l.length:Int)
  ·left;have r:zf7 l k l.length=some ((l.take (l.length:Int).toNat).drop k.toNat):=by unfold zf7;rw [if_pos ⟨by omega,by omega,by omega⟩]
   have p:zf7 l 0 k=some ((l.take k.toNat).drop (0:Int).toNat):=by unfold zf7;rw [if_pos ⟨by omega,by omega,by omega⟩]
   simp only [b,decide_true,if_true,r,p,gp];have a:((l.take k.toNat).drop (0:Int).toNat).length=k.toNat:=by
    rw [dx,ef];simp;omega
   rw [a];have e:w64 (k+((min k.toNat (l.length - k.toNat):Nat):Int))=k+((min k.toNat (l.length - k.toNat):Nat):Int):=zt (by omega) (by omega);rw [e];refine ⟨_,rfl,⟨?_,by simp only [];omega,by simp only [];omega,?_⟩,by simp only [];omega⟩
   ·simp only;rw [ztq (by omega)];exact hl
   ·intro j d;simp only at d ⊢;rw [zvv (by omega)];split
    ·rename_i h;exact hall j h
    ·split
     ·rename_i c h2;rw [co,dm];simp only [Int.toNat_zero,gl];rw [if_pos (by omega)];exact hall _ (by omega)
     ·rename_i c h2;rw [a] at h2;omega
  ·right;simp only [b,decide_false];refine ⟨_,rfl,?_⟩;apply bq;intro j;rw [dg];split
   ·exact hall j (by omega)
   ·exact cu (by omega)
 ·have hm:((min [(-1:Int)].length (List.replicate n.toNat (0:Int)).length:Nat):Int)=1:=by simp;omega
  refine ⟨by simp only [];rw [ztq (by simp)];simp,by simp only [hm];omega,by simp only [hm];omega,fun j d=>?_⟩;simp only [hm] at d;have:j=0:=by omega
  subst this;simp only;rw [zvv (by simp),if_neg (by omega),if_pos (by simp;omega)];rfl
def Fr (R F:List (List Int)) (u v:Int):Prop:=ent F u.toNat v.toNat<ent R u.toNat v.toNat
section
variable {n:Nat} {R F:List (List Int)}
theorem zyl (hR:Sq n R) (hF:Sq n F) {u v:Int} (hu0:0<=u) (hu:u<n) (hv0:0<=v) (hv:v<n):∃ b,zfE (R,F) u v=some b/\(b=true↔Fr R F u v):=by
 obtain ⟨r,c,e,h,a⟩:=hR.idx hu0 hu hv0 hv;obtain ⟨f,k1,k2,g,d⟩:=hF.idx hu0 hu hv0 hv;unfold zfE;simp only [c,a,k1,d,gp];exact ⟨_,rfl,by unfold Fr;simp⟩
structure WInv (n:Nat) (R F:List (List Int)) (a:Int) (par Q:List Int) (k:Nat):Prop where
 len:par.length=n
 inj:Inj Q
 hd:Q[0]?=some a
 kle:k<=Q.length
 rng:∀ x∈Q,0<=x/\x<n
 neg:Q.length+par.countP isNeg=n
 mem:∀ (v:Nat) (p:Int),par[v]?=some p->((v:Int)∈Q↔0<=p)
 src:∀ (i:Nat) (x:Int),Q[i]?=some x->i≠0->∃ (j:Nat) (p:Int),j<i/\Q[j]?=some p/\par[x.toNat]?=some p/\Fr R F p x
 cls:∀ (j:Nat) (u:Int),j<k->Q[j]?=some u->∀ v:Nat,v<n->Fr R F u v->(v:Int)∈Q
variable {a b:Int} {par Q:List Int} {k:Nat}
theorem zvD (hn:n<=1000) (hR:Sq n R) (hF:Sq n F) (h:WInv n R F a par Q k) {u:Int} (hu:Q[k]?=some u) (rest:List Int) :
  ∃ par' J,iter (zcn (R,F) (u,rest)) (par,0,Q.drop (k+1))=some (par',J)/\∃ Q',WInv n R F a par' Q' (k+1)/\J=Q'.drop (k+1):=by
 have t:=h.rng u (fd hu);have key:=zz (F:=zcn (R,F) (u,rest))
  (fun s=>0<=s.2.1/\s.2.1<=n/\∃ Q',WInv n R F a s.1 Q' k/\s.2.2=Q'.drop (k+1)/\Q'[k]?=some u/\∀ v:Nat,(v:Int)<s.2.1->Fr R F u v->(v:Int)∈Q')
  (fun s=>(n - s.2.1).toNat) (fun z=>∃ Q',WInv n R F a z.1 Q' (k+1)/\z.2=Q'.drop (k+1)) ?_ (par,0,Q.drop (k+1)) ⟨by simp,by simp,Q,h,rfl,hu,fun v hv=>by simp only at hv;omega⟩
 ·obtain ⟨⟨H,J⟩,hz,L⟩:=key;exact ⟨H,J,hz,L⟩
 ·rintro ⟨par,v,q⟩ ⟨hv0,hv1,Q,hW,hq,hk,hcl⟩;simp only at hv0 hv1 hW hq hcl;unfold zcn;simp only [hR.len];by_cases r:v<n
  ·left;rw [if_pos (by simp [r])];obtain ⟨p,Z,C⟩:=zab (l:=par) hv0 (by rw [hW.len];omega);have g:=hW.mem v.toNat p C;have E:((v.toNat:Nat):Int)=v:=by omega
   rw [E] at g;have Y:w64 (v+1)=v+1:=zt (by omega) (by omega);simp only [Z,gp];have A:(Fr R F u v->v∈Q)->∃ s',zbd (R,F) (u,rest) (par,v,q) false=some (.inl s')/\(0<=s'.2.1/\s'.2.1<=n/\∃ Q',WInv n R F a s'.1 Q' k/\s'.2.2=Q'.drop (k+1)/\Q'[k]?=some u/\∀ v:Nat,(v:Int)<s'.2.1->Fr R F u v->(v:Int)∈Q')/\(n - s'.2.1).toNat<(n - v).toNat:=by
    intro O;unfold zbd zcp;simp only [Y];refine ⟨_,rfl,⟨by simp only [];omega,by simp only [];omega,Q,hW,hq,hk,fun x c f=>?_⟩,by simp only [];omega⟩;simp only at c;by_cases d:(x:Int)=v
    ·rw [d] at f ⊢;exact O f
    ·exact hcl x (by omega) f
   by_cases m:p<0
   ·rw [if_pos (by simp [m])];obtain ⟨b,hb,D⟩:=zyl hR hF t.1 t.2 hv0 r;simp only [hb,gp];cases b with
    | false=>exact A fun O=>absurd (D.2 O) (by simp)
    | true=>
     have f:Fr R F u v:=D.1 rfl;have I:v∉Q:=fun hm=>by have:=g.1 hm;omega
     have hc:(par.set v.toNat u).countP isNeg+1=par.countP isNeg:=zkU isNeg C (by simp [isNeg,m]) (by simp [isNeg];exact t.1);have M:=hW.neg;have B:k<Q.length:=zu hk;have X:q.length<n:=by rw [hq,dx];omega
     unfold zbd zcp;simp only [if_true,Z,gp,hR.len];have hs:zqo ((n:Int).toNat) q v=some (q++[v]):=by unfold zqo;rw [if_pos (by simpa using X)]
     simp only [hs,gp,Y];have G:v.toNat<par.length:=zu C;refine ⟨_,rfl,⟨by simp only [];omega,by simp only [];omega,Q++[v],?_,?_,?_,?_⟩,by simp only [];omega⟩
     ·refine ⟨by simp only [ee];exact hW.len,hW.inj.snoc I,?_,by rw [du];exact Nat.le_add_right_of_le hW.kle,?_,?_,?_,?_,?_⟩
      ·have h0:=zu hW.hd;rw [cj h0];exact hW.hd
      ·intro x c;rcases ep.1 c with c | c
       ·exact hW.rng x c
       ·rw [fg.1 c];exact ⟨hv0,r⟩
      ·simp only [du,dv,ec];omega
      ·intro x H c;simp only at c;by_cases d:x=v.toNat
       ·subst d;rw [zR G] at c;injection c with c
        subst c;rw [E];simp [t.1]
       ·rw [zJ (fun e=>d e.symm)] at c;rw [←hW.mem x H c,ep,fg];exact ⟨fun e=>e.resolve_right (by omega),.inl⟩
      ·intro i x hi V;by_cases T:i<Q.length
       ·rw [cj T] at hi;obtain ⟨j,H,h1,L,h3,h4⟩:=hW.src i x hi V;refine ⟨j,H,h1,by rw [cj (by omega)];exact L,?_,h4⟩;simp only;rw [zJ]
        ·exact h3
        ·intro e;have a3:=hW.rng x (fd hi);have d:x=v:=by omega
         exact I (d▸fd hi)
       ·rw [cn (by omega)] at hi;have:=zu hi;simp at this;have S:i - Q.length=0:=by omega
        rw [S] at hi;simp at hi;subst hi;exact ⟨k,u,by omega,by rw [cj B];exact hk,by simp only [];rw [zR G],f⟩
      ·intro j x hj c y P w;rw [cj (by omega)] at c;exact er _ (hW.cls j x hj c y P w)
     ·simp only;rw [List.drop_append_of_le_length (by omega),hq]
     ·rw [cj B];exact hk
     ·intro x c U;simp only at c;by_cases d:(x:Int)=v
      ·rw [d];simp
      ·exact er _ (hcl x (by omega) U)
   ·rw [if_neg (by simp [m])];exact A fun _=>g.2 (by omega)
  ·right;rw [if_neg (by simp [r])];have B:k<Q.length:=zu hk;refine ⟨_,rfl,Q,⟨hW.len,hW.inj,hW.hd,by omega,hW.rng,hW.neg,hW.mem,hW.src,fun j x hj c y P w=>?_⟩,hq⟩;by_cases N:j=k
   ·subst N;rw [hk] at c;injection c with c
    subst c;exact hcl y (by omega) w
   ·exact hW.cls j x (by omega) c y P w
theorem zvC (hn:n<=1000) (hR:Sq n R) (hF:Sq n F) (h:WInv n R F a par Q 0) :
  ∃ b,iter (zco (R,F)) (par,Q)=some b/\∃ Q',WInv n R F a b Q' Q'.length:=by
 have key:=zz (F:=zco (R,F))
  (fun s=>∃ Q' k,WInv n R F a s.1 Q' k/\s.2=Q'.drop k)
  (fun s=>s.2.length+s.1.countP isNeg) (fun z=>∃ Q',WInv n R F a z Q' Q'.length) ?_ (par,Q) ⟨Q,0,h,rfl⟩
 ·exact key
 ·rintro ⟨par,q⟩ ⟨Q,k,hW,hq⟩;simp only at hW hq;unfold zco;have m:=hW.neg;have p:=hW.kle;have j:q.length=Q.length - k:=by rw [hq,dx]
  have hc:zwl q=some (q.length:Int):=by unfold zwl;rw [if_pos (by omega)]
  simp only [hc,gp];by_cases c:k<Q.length
  ·left;rw [if_pos (by simp;omega)];obtain ⟨u,e⟩:∃ u,Q[k]?=some u:=⟨_,cq c⟩;have hd:Q.drop k=u::Q.drop (k+1):=by
    rw [bj c];rw [cq c] at e;injection e with e
    rw [e]
   have t:=hW.rng u (fd e);have r:zvu q=some (u,Q.drop (k+1)):=by
    rw [hq,hd];show (if -9223372036854775808<=u/\u<=9223372036854775807 then some (u,Q.drop (k+1)) else none)=_;rw [if_pos ⟨by omega,by omega⟩]
   obtain ⟨b,v,g,Q',d,f⟩:=zvD hn hR hF hW e (Q.drop (k+1));simp only [r,gp,g];unfold zgR;refine ⟨_,rfl,⟨Q',k+1,d,f⟩,?_⟩;have x:=d.neg;have w:=d.kle;show v.length+b.countP isNeg<q.length+par.countP isNeg;rw [f,j,dx];omega
  ·right;rw [if_neg (by simp only [decide_eq_true_eq];omega)];refine ⟨_,rfl,Q,?_⟩;have:k=Q.length:=by omega
   rw [←this];exact hW
structure Way (n:Nat) (R F:List (List Int)) (a b:Int) (w:List Int):Prop where
 pos:1<=w.length
 hd:w[0]?=some a
 lst:w[w.length - 1]?=some b
 inj:Inj w
 rng:∀ x∈w,0<=x/\x<n
 most:w.length<=n
 edge:∀ (i:Nat) (x y:Int),w[i]?=some x->w[i+1]?=some y->Fr R F x y
theorem zwr (hn:n<=1000) (h:WInv n R F a par Q k):∀ (p:Nat) (x:Int) (out:List Int),Q[p]?=some x->1<=out.length->out[0]?=some b->out[out.length - 1]?=some x->Inj out->
  (∀ y∈out,∃ j,p<=j/\Q[j]?=some y)->out.length+p<=Q.length->(∀ (i:Nat) (x y:Int),out[i]?=some x->out[i+1]?=some y->Fr R F y x)->
  ∃ w,iter (zbc a par) (out,x)=some w/\1<=w.length/\w[0]?=some b/\w[w.length - 1]?=some a/\Inj w/\(∀ x∈w,0<=x/\x<n)/\w.length<=n/\∀ (i:Nat) (x y:Int),w[i]?=some x->w[i+1]?=some y->Fr R F y x:=by
 intro p
 induction p using Nat.strongRecOn with
 | _ p ih=>
  intro x out v U O d r f X c;have P:=h.neg;by_cases m:x=a
  ·refine ⟨out,zI ?_,U,O,by rw [d,m],r,fun y g=>?_,by omega,c⟩
   ·unfold zbc;simp [m]
   ·obtain ⟨j,_,N⟩:=f y g;exact h.rng y (fd N)
  ·have L:p≠0:=fun e=>by
    subst e;rw [h.hd] at v;injection v with v;exact m v.symm
   obtain ⟨j,q,N,G,A,D⟩:=h.src p x v L;have E:=h.rng x (fd v);have t:zbc a par (out,x)=some (.inl (out++[q],q)):=by
    unfold zbc;simp only [m,decide_false,Bool.not_false,if_true,zf4 E.1 A,gp];rw [zQ (by simp;omega) (by simp;omega)];rfl
   rw [zD t];have C:q∉out:=fun hm=>by
    obtain ⟨i,hi,M⟩:=f q hm;have:=h.inj i j q M G;omega
   have s:∀ (i:Nat) (y:Int),(out++[q])[i]?=some y->(i<out.length/\out[i]?=some y)\/(i=out.length/\y=q):=by
    intro i y hi;by_cases B:i<out.length
    ·rw [cj B] at hi;exact .inl ⟨B,hi⟩
    ·rw [cn (by omega)] at hi;have:=zu hi;simp at this;have J:i - out.length=0:=by omega
     rw [J] at hi;simp at hi;exact .inr ⟨by omega,hi.symm⟩
   refine ih j N q (out++[q]) G (by simp) (by rw [cj (by omega)];exact O) (by simp) (r.snoc C) ?_ (by simp;omega) ?_
   ·intro y g;rcases ep.1 g with g | g
    ·obtain ⟨i,hi,H⟩:=f y g;exact ⟨i,by omega,H⟩
    ·rw [fg.1 g];exact ⟨j,fy _,G⟩
   ·intro i y z g T;rcases s i y g with ⟨S,u⟩ | ⟨S,u⟩<;>rcases s (i+1) z T with ⟨V,I⟩ | ⟨V,I⟩
    ·exact c i y z u I
    ·have:i=out.length - 1:=by omega
     rw [this,d] at u;injection u with u
     rw [←u,I];exact D
    ·omega
    ·omega
theorem zwq (hn1:1<=n) (hn:n<=1000) (hR:Sq n R) (hF:Sq n F) (ha0:0<=a) (ha:a<n) (hb0:0<=b) (hb:b<n) :
  ∃ w,zgB (R,F) a b=some w/\(Way n R F a b w\/(w=[]/\∃ S:Int->Bool,S a=true/\S b=false/\∀ u v:Nat,u<n->v<n->S u=true->S v=false->¬Fr R F u v)):=by
 have B:=ztJ (n:=(n:Int)) (by omega) (by omega);have I:mkc 8 (n:Int)=some []:=by unfold mkc;rw [if_pos ⟨by omega,by omega,by omega⟩]
 have r:zqo ((n:Int).toNat) [] a=some [a]:=by unfold zqo;rw [if_pos (by simp;omega)];rfl
 have m:(List.replicate (n:Int).toNat (-1:Int)).length=n:=by simp
 have C:∀ (v:Nat) (p:Int),((List.replicate (n:Int).toNat (-1:Int)).set a.toNat a)[v]?=some p->v<n/\((v=a.toNat/\p=a)\/(v≠a.toNat/\p = -1)):=by
  intro v p f;have k:=zu f;rw [ee,m] at k;refine ⟨k,?_⟩;by_cases s:v=a.toNat
  ·subst s;rw [zR (by rw [m];exact k)] at f;injection f with f
   exact .inl ⟨rfl,f.symm⟩
  ·rw [zJ (fun e=>s e.symm),dg] at f;split at f
   ·injection f with f;exact .inr ⟨s,f.symm⟩
   ·cases f
 have U:(List.replicate (n:Int).toNat (-1:Int)).countP isNeg=n:=by
  rw [List.countP_replicate];simp [isNeg]
 have X:WInv n R F a ((List.replicate (n:Int).toNat (-1)).set a.toNat a) [a] 0:=by
  refine ⟨by rw [ee,m],?_,rfl,by simp,?_,?_,?_,?_,fun j u c=>by omega⟩
  ·intro i j x hi c;have t:=zu hi;have g:=zu c;simp at t g;omega
  ·intro x J;rw [fg.1 J];exact ⟨ha0,ha⟩
  ·have Z:(List.replicate (n:Int).toNat (-1:Int))[a.toNat]?=some (-1):=by
    rw [dg,if_pos (by omega)]
   have:=zkU isNeg Z (y:=a) (by simp [isNeg]) (by simp [isNeg];exact ha0);simp only [dv,ec];omega
  ·intro v p f;obtain ⟨k,⟨e1,H⟩ | ⟨e1,H⟩⟩:=C v p f
   ·subst H;rw [fg];omega
   ·subst H;rw [fg];omega
  ·intro i x hi a9;have:=zu hi;simp at this;omega
 obtain ⟨par,E,Q,A⟩:=zvC hn hR hF X;have N:∃ x,idx (List.replicate (n:Int).toNat (-1:Int)) a=some x:=⟨_,zvr ha0 (by rw [m];exact ha)⟩;obtain ⟨x0,M⟩:=N;unfold zgB;simp only [hR.len,B,I,r,M,E,gp];unfold zgT;obtain ⟨p,hp,G⟩:=zab (l:=par) hb0 (by rw [A.len];exact hb);have h:=A.mem b.toNat p G;have L:((b.toNat:Nat):Int)=b:=by omega
 rw [L] at h;simp only [hp,gp];by_cases q:p<0
 ·rw [if_pos (by simp [q])];refine ⟨_,rfl,.inr ⟨rfl,fun x=>decide (x∈Q),?_,?_,?_⟩⟩
  ·simp;exact fd A.hd
  ·simp;intro hm;have:=h.1 hm;omega
  ·intro u v hu f hS O hf;simp at hS O;obtain ⟨j,c⟩:=cy hS;exact O (A.cls j u (zu c) c v f hf)
 ·rw [if_neg (by simp [q])];obtain ⟨j,c⟩:=cy (h.2 (by omega));have a1:=zu c;obtain ⟨w,hw,T,w2,V,P,w5,Y,w7⟩:=zwr (b:=b) hn A j b [b] c (by simp) rfl rfl (by
   intro i j x hi c;have t:=zu hi;have g:=zu c;simp at t g;omega) (by intro y hy;rw [fg.1 hy];exact ⟨j,fy _,c⟩) (by simp;omega) (by
   intro i x y hi c;have g:=zu c;simp at g)
  rw [hw];simp only [gp];unfold zgS zhs;have D:ne w.reverse=some w.reverse:=by
   unfold ne;cases hr:w.reverse with
   | nil=>have:w.length=0:=(by rw [←List.length_reverse,hr];rfl);omega
   | cons x l=>rfl
  simp only [D,gp];have d:∀ (i:Nat),i<w.length->w.reverse[i]?=w[w.length - 1 - i]?:=fun i hi=>List.getElem?_reverse hi;refine ⟨_,rfl,.inl ⟨by simpa using T,by rw [d 0 (by omega)];exact V,?_,?_,fun x J=>w5 x (by simpa using J),by simpa using Y,?_⟩⟩
  ·rw [List.length_reverse,d _ (by omega)];have:w.length - 1 - (w.length - 1)=0:=by omega
   rw [this];exact w2
  ·intro i j x hi c;have t:=zu hi;have g:=zu c;rw [List.length_reverse] at t g;rw [d _ t] at hi;rw [d _ g] at c;have:=P _ _ _ hi c;omega
  ·intro i x y hi c;have g:=zu c;rw [List.length_reverse] at g;rw [d _ (by omega)] at hi;rw [d _ g] at c;have:w.length - 1 - i=w.length - 1 - (i+1)+1:=by omega
   rw [this] at hi;exact w7 _ _ _ c hi
end
structure FI (n:Nat) (R F:List (List Int)):Prop where
 sq:Sq n F
 anti:∀ u v,u<n->v<n->ent F u v = - ent F v u
 le:∀ u v,u<n->v<n->ent F u v<=ent R u v
section
variable {n:Nat} {R F:List (List Int)} {a b:Int} {w:List Int}
theorem zvN (hn:n<=1000) (hR:∀ u v,0<=ent R u v/\ent R u v<=1000000000) (hw:Way n R F a b w) (hF:FI n R F) :
  ∃ F',iter (zbV w) (1,F)=some F'/\FI n R F'/\∀ S,mid n S (ent F')=mid n S (ent F)+ind (S a) - ind (S b):=by
 have key:=zz (F:=zbV w)
  (fun s=>1<=s.1/\s.1<=w.length/\FI n R s.2/\(∀ u v:Nat,u<n->v<n->(v:Int)∉w.take s.1.toNat->ent s.2 u v=ent F u v)/\
   ∃ x,w[s.1.toNat - 1]?=some x/\∀ S,mid n S (ent s.2)=mid n S (ent F)+ind (S a) - ind (S x))
  (fun s=>(w.length - s.1).toNat) (fun F'=>FI n R F'/\∀ S,mid n S (ent F')=mid n S (ent F)+ind (S a) - ind (S b)) ?_ (1,F)
  ⟨by simp,by have:=hw.pos;simp only [];omega,hF,fun _ _ _ _ _=>rfl,a,hw.hd,fun S=>by simp only [];omega⟩
 ·exact key
 ·rintro ⟨i,G⟩ ⟨hi0,hi1,hG,hsame,x,hx,hmid⟩;simp only at hi0 hi1 hG hsame hx hmid;unfold zbV;have b5:=hw.most;by_cases k:i<w.length
  ·left;obtain ⟨y,N,A⟩:=zab (l:=w) (i:=i) (by omega) k;have V:w64 (i - 1)=i - 1:=zt (by omega) (by omega);have P:w64 (i+1)=i+1:=zt (by omega) (by omega);have J:idx w (i - 1)=some x:=zf4 (by omega) (by rw [←hx];congr 1;omega);have f:=hw.rng x (fd hx);have g:=hw.rng y (fd A);have a8:x≠y:=fun e=>by
    subst e;have:=hw.inj _ _ _ hx A;omega
   have a2:x.toNat≠y.toNat:=by omega
   obtain ⟨r,g1,g2,g3,g4⟩:=hG.sq.idx (u:=x) (v:=y) f.1 f.2 g.1 g.2;have m:=hw.edge (i.toNat - 1) x y hx (by rw [←A];congr 1;omega);unfold Fr at m;have B:((y.toNat:Nat):Int)∉w.take i.toNat:=by
    intro hm;obtain ⟨j,I⟩:=cy hm;have T:=zu I;rw [ef] at T;rw [dm,if_pos (by omega)] at I;have p:((y.toNat:Nat):Int)=y:=by omega
    rw [p] at I;have:=hw.inj _ _ _ I A;omega
   have a1:=hsame x.toNat y.toNat (by omega) (by omega) B;have b1:=hG.anti x.toNat y.toNat (by omega) (by omega);have b2:=hG.le y.toNat x.toNat (by omega) (by omega);have b3:=hR y.toNat x.toNat;have b4:=hR x.toNat y.toNat;have M:w64 (ent G x.toNat y.toNat+1)=ent G x.toNat y.toNat+1:=zt (by omega) (by omega);obtain ⟨H,h⟩:=hG.sq.set (e:=ent G x.toNat y.toNat+1) g3 (v:=y.toNat) (by omega);obtain ⟨Z,k1,k2,k3,k4⟩:=H.idx (u:=y) (v:=x) g.1 g.2 f.1 f.2;have C:ent (G.set x.toNat (r.set y.toNat (ent G x.toNat y.toNat+1))) y.toNat x.toNat=ent G y.toNat x.toNat:=by rw [h,if_neg (by omega)]
   rw [C] at k4;have Q:w64 (ent G y.toNat x.toNat - 1)=ent G y.toNat x.toNat - 1:=zt (by omega) (by omega);obtain ⟨Y,t⟩:=H.set (e:=ent G y.toNat x.toNat - 1) k3 (v:=x.toNat) (by omega);simp only [k,decide_true,if_true,V,J,N,g1,g4,gp,M,k1,k4,Q,P];have d:∀ u v,ent ((G.set x.toNat (r.set y.toNat (ent G x.toNat y.toNat+1))).set y.toNat (Z.set x.toNat (ent G y.toNat x.toNat - 1))) u v =
     if u=y.toNat/\v=x.toNat then ent G y.toNat x.toNat - 1 else if u=x.toNat/\v=y.toNat then ent G x.toNat y.toNat+1 else ent G u v:=fun u v=>by rw [t,h]
   refine ⟨_,rfl,⟨by simp only [];omega,by simp only [];omega,⟨Y,?_,?_⟩,?_,y,?_,?_⟩,by simp only [];omega⟩
   ·intro u v D E;simp only;rw [d,d];have h1:=hG.anti u v D E;by_cases c1:u=y.toNat/\v=x.toNat
    ·obtain ⟨rfl,rfl⟩:=c1;rw [if_pos ⟨rfl,rfl⟩,if_neg (by omega),if_pos ⟨rfl,rfl⟩];omega
    ·rw [if_neg c1];by_cases c2:u=x.toNat/\v=y.toNat
     ·obtain ⟨rfl,rfl⟩:=c2;rw [if_pos ⟨rfl,rfl⟩,if_pos ⟨rfl,rfl⟩];omega
     ·rw [if_neg c2,if_neg (by omega),if_neg (by omega)];exact h1
   ·intro u v D E;simp only;rw [d];split
    ·rename_i c;obtain ⟨rfl,rfl⟩:=c;omega
    ·split
     ·rename_i c;obtain ⟨rfl,rfl⟩:=c;omega
     ·exact hG.le u v D E
   ·intro u v D E hm;simp only at hm ⊢;have O:(i+1).toNat=i.toNat+1:=by omega
    rw [O,fp,A] at hm;simp only [Option.toList_some,ep,fg,not_or] at hm;have a5:v≠x.toNat:=fun e=>by
     subst e;apply hm.1;have q:((x.toNat:Nat):Int)=x:=by omega
     rw [q];have:(w.take i.toNat)[i.toNat - 1]?=some x:=by rw [dm,if_pos (by omega)];exact hx
     exact fd this
    rw [d,if_neg (by omega),if_neg (by omega)];exact hsame u v D E hm.1
   ·simp only;rw [←A];congr 1;omega
   ·intro S;simp only;have q:((x.toNat:Nat):Int)=x:=by omega
    have p:((y.toNat:Nat):Int)=y:=by omega
    have e1:mid n S (ent (G.set x.toNat (r.set y.toNat (ent G x.toNat y.toNat+1))))=mid n S (ent G)+ind (S ((x.toNat:Nat):Int))*1:=by
     unfold mid;exact zpp (c:=fun u _=>ind (S u)) (a:=x.toNat) (b:=y.toNat) (by omega) (by omega) (fun u v _ _ L=>by rw [h,if_neg (by omega)]) (by rw [h,if_pos ⟨rfl,rfl⟩])
    have e2:mid n S (ent ((G.set x.toNat (r.set y.toNat (ent G x.toNat y.toNat+1))).set y.toNat (Z.set x.toNat (ent G y.toNat x.toNat - 1))))=mid n S (ent (G.set x.toNat (r.set y.toNat (ent G x.toNat y.toNat+1))))+ind (S ((y.toNat:Nat):Int))*(-1):=by
     unfold mid;exact zpp (c:=fun u _=>ind (S u)) (a:=y.toNat) (b:=x.toNat) (by omega) (by omega) (fun u v _ _ L=>by rw [t,if_neg (by omega)]) (by rw [t,if_pos ⟨rfl,rfl⟩,C];omega)
    rw [e2,e1,hmid S,q,p];omega
  ·right;rw [if_neg (by simp [k])];have X:i=w.length:=by omega
   have U:x=b:=by
    have:=hw.lst;rw [X] at hx;have e:((w.length:Nat):Int).toNat=w.length:=by omega
    rw [e,this] at hx;injection hx with hx
    exact hx.symm
   exact ⟨_,rfl,hG,fun S=>by rw [hmid S,U]⟩
theorem zvK (hn1:1<=n) (hn:n<=1000) (hsq:Sq n R) (hR:∀ u v,0<=ent R u v/\ent R u v<=1000000000) (hC:∀ S,zlD n S (ent R)<=1000000000) (hF:FI n R F) (hF0:∀ u v,ent F u v=0)
  (ha0:0<=a) (ha:a<n) (hb0:0<=b) (hb:b<n) (hab:a≠b) (most:Int) :
  ∃ v F',zfD (R,F) a b most=some (v,(R,F'))/\0<=v/\FI n R F'/\(∀ S:Int->Bool,S a=true->S b=false->mid n S (ent F')=v)/\(∀ S:Int->Bool,S a=true->S b=false->v<=zlD n S (ent R))/\
   (v<most->∃ S:Int->Bool,S a=true/\S b=false/\zlD n S (ent R)=v):=by
 have J:∀ (G:List (List Int)) (v:Int),FI n R G->(∀ S:Int->Bool,S a=true->S b=false->mid n S (ent G)=v)->∀ S:Int->Bool,S a=true->S b=false->v<=zlD n S (ent R):=by
  intro G v c hm S j d;rw [←hm S j d,zsA c.anti];exact zyc c.le
 have B:(fun x:Int=>decide (x=a)) a=true:=by simp
 have C:(fun x:Int=>decide (x=a)) b=false:=by simp;exact fun e=>hab e.symm
 have key:=zz (F:=zdH (R,F) a b most)
  (fun s=>0<=s.1/\FI n R s.2/\∀ S:Int->Bool,S a=true->S b=false->mid n S (ent s.2)=s.1) (fun s=>(zlD n (fun x:Int=>decide (x=a)) (ent R) - s.1).toNat)
  (fun z=>z.2.1=R/\0<=z.1/\FI n R z.2.2/\(∀ S:Int->Bool,S a=true->S b=false->mid n S (ent z.2.2)=z.1)/\(z.1<most->∃ S:Int->Bool,S a=true/\S b=false/\zlD n S (ent R)=z.1)) ?_ (0,F)
  ⟨by simp,hF,fun S _ _=>?_⟩
 ·obtain ⟨⟨v,T,F'⟩,r,j,d,E,A,I⟩:=key;simp only at j d E A I;subst j;refine ⟨v,F',?_,d,E,A,J F' v E A,I⟩;unfold zfD;simp only [r,gp]
 ·rintro ⟨v,G⟩ ⟨hv0,c,hm⟩;simp only at hv0 c hm;unfold zdH;obtain ⟨w,N,H⟩:=zwq hn1 hn hsq c.sq ha0 ha hb0 hb;simp only [N,gp];rcases H with hW | ⟨hnil,S,s1,s2,s3⟩
  ·have t:w≠[]:=fun e=>by have:=hW.pos;rw [e] at this;simp at this
   rw [if_neg (by simp [t])];unfold zbW;by_cases p:v≥most
   ·right;rw [if_pos (by simp [p])];exact ⟨_,rfl,rfl,hv0,c,hm,fun h=>by simp only at h;omega⟩
   ·left;rw [if_neg (by simp [p])];obtain ⟨G',y,q,hm'⟩:=zvN hn hR hW c;simp only [y,gp];unfold zfY;have m:∀ S:Int->Bool,S a=true->S b=false->mid n S (ent G')=v+1:=by
     intro S j d;rw [hm' S,hm S j d,j,d];simp [ind]
    have P:=J G' (v+1) q m (fun x:Int=>decide (x=a)) B C;have Q:=hC (fun x:Int=>decide (x=a));have D:w64 (v+1)=v+1:=zt (by omega) (by omega);simp only [D];exact ⟨_,rfl,⟨by simp only [];omega,q,m⟩,by simp only [];omega⟩
  ·right;rw [if_pos (by simp [hnil])];unfold zbW;rw [if_pos rfl];refine ⟨_,rfl,rfl,hv0,c,hm,fun _=>⟨S,s1,s2,?_⟩⟩;simp only;rw [←hm S s1 s2,zsA c.anti];symm;refine zyd fun u v L M j d=>?_;have:=s3 u v L M j d;unfold Fr at this;simp only [bb] at this;have:=c.le u v L M;omega
 ·simp only;unfold mid;have r:∀ (k:Nat) (f:Nat->Int),(∀ i,f i=0)->zcN k f=0:=fun k f O=>by
   rw [zcM (g:=fun _=>0) fun i _=>O i,znF]
  exact r _ _ fun u=>r _ _ fun v=>by rw [hF0];simp
end
theorem zuP {n:Int} {bs:List Bd} (hn1:1<=n) (hn:n<=1000) (r:bs.length<=100000) (hw:WBs n bs) (t:Int) :
  ∃ b,zmx n bs t=some b/\(b=true↔Holds n bs t):=by
 have m:∀ S,zfG S bs<=1000*bs.length:=fun S=>zu0 fun b r=>by
  obtain ⟨k,I⟩:=cy r;obtain ⟨_,_,_,_,_,q,X⟩:=hw k b I;omega
 have key:=zz (F:=zjp n bs t)
  (fun y=>1<=y/\y<=n/\∀ z,1<=z->z<y->∀ S:Int->Bool,S 0=true->S z=false->t<=zfG S bs) (fun y=>(n - y).toNat)
  (fun z=>match z with | .inl _=>Holds n bs t | .inr b=>b=false/\¬Holds n bs t) ?_ 1 ⟨by simp,hn1,fun z D C=>by omega⟩
 ·obtain ⟨z,L,w⟩:=key;unfold zmx;rw [L];cases z with
  | inl z=>exact ⟨true,rfl,fun _=>w,fun _=>rfl⟩
  | inr z=>
   have A:z=false:=w.1;exact ⟨z,rfl,⟨fun h=>by (rw [A] at h;cases h),fun h=>absurd h w.2⟩⟩
 ·rintro y ⟨B,H,d⟩;unfold zjp;by_cases f:y<n
  ·rw [if_pos (by simp [f])];obtain ⟨R,F,D,C,P,p,E,q⟩:=zrl (n:=n) (by omega) hn r hw;have U:((n.toNat:Nat):Int)=n:=by omega
   obtain ⟨v,F',M,V,Z,Y,Q,G⟩:=zvK (n:=n.toNat) (R:=R) (F:=F) (a:=0) (b:=y) (by omega) (by omega) C (fun u v=>by have:=E u v;omega) (fun S=>by rw [q];have:=m S;omega)
    ⟨P,fun u v _ _=>by rw [p,p];rfl,fun u v _ _=>by rw [p];exact (E u v).1⟩ p (by omega) (by omega) (by omega) (by omega) (by omega) t
   simp only [D,M,gp];by_cases e:v<t
   ·right;rw [if_pos (by simp [e])];refine ⟨_,rfl,rfl,fun N=>?_⟩;obtain ⟨S,O,J,T⟩:=G e;have:=N S O ⟨y,B,f,J⟩;rw [q] at T;omega
   ·left;rw [if_neg (by simp [e]),zt (by omega) (by omega)];refine ⟨_,rfl,⟨by omega,by omega,fun z g s S c j=>?_⟩,by omega⟩;by_cases x:z=y
    ·subst x;have:=Q S c j;rw [q] at this;omega
    ·exact d z g (by omega) S c j
  ·right;rw [if_neg (by simp [f])];refine ⟨_,rfl,fun S c ⟨z,g,s,hz3⟩=>d z g (by omega) S c hz3⟩
theorem zae {A B:Type} {F:A×Int->Option ((A×Int) ⊕ A)} (l:List B) (f:A->B->A) (a0:A) (hlen:l.length<=2000000)
  (step:∀ (a:A) (i:Nat) (x:B),l[i]?=some x->a=(l.take i).foldl f a0->F (a,(i:Int))=some (.inl (f a x,w64 ((i:Int)+1))))
  (stop:∀ a,a=l.foldl f a0->F (a,(l.length:Int))=some (.inr a)):iter F (a0,0)=some (l.foldl f a0):=by
 have key:=zz (F:=F) (fun s=>0<=s.2/\s.2<=l.length/\s.1=(l.take s.2.toNat).foldl f a0) (fun s=>(l.length - s.2).toNat) (fun z=>z=l.foldl f a0) ?_ (a0,0) ⟨by simp,by simp,by simp⟩
 ·obtain ⟨z,g,rfl⟩:=key;exact g
 ·rintro ⟨a,i⟩ ⟨h0,h1,ha⟩;simp only at h0 h1 ha;obtain ⟨k,rfl⟩:=ba h0;simp only [bb] at ha;by_cases c:k<l.length
  ·left;have d:l[k]?=some l[k]:=cq c;have b:w64 ((k:Int)+1)=(k:Int)+1:=zt (by omega) (by omega);refine ⟨_,step a k _ d ha,?_,?_⟩
   ·refine ⟨by simp only [b];omega,by simp only [b];omega,?_⟩;simp only [b];have:((k:Int)+1).toNat=k+1:=by omega
    rw [this,fp,d,List.foldl_append,←ha];rfl
   ·simp only [b];omega
  ·right;have e:k=l.length:=by omega
   subst e;rw [fq] at ha;exact ⟨a,stop a ha,ha⟩
theorem zbx {A B:Type} {F:Int×A->Option ((Int×A) ⊕ A)} (l:List B) (f:A->B->A) (a0:A) (hlen:l.length<=2000000)
  (step:∀ (a:A) (i:Nat) (x:B),l[i]?=some x->a=(l.take i).foldl f a0->F ((i:Int),a)=some (.inl (w64 ((i:Int)+1),f a x)))
  (stop:∀ a,a=l.foldl f a0->F ((l.length:Int),a)=some (.inr a)):iter F (0,a0)=some (l.foldl f a0):=by
 have key:=zz (F:=F) (fun s=>0<=s.1/\s.1<=l.length/\s.2=(l.take s.1.toNat).foldl f a0) (fun s=>(l.length - s.1).toNat) (fun z=>z=l.foldl f a0) ?_ (0,a0) ⟨by simp,by simp,by simp⟩
 ·obtain ⟨z,g,rfl⟩:=key;exact g
 ·rintro ⟨i,a⟩ ⟨h0,h1,ha⟩;simp only at h0 h1 ha;obtain ⟨k,rfl⟩:=ba h0;simp only [bb] at ha;by_cases c:k<l.length
  ·left;have d:l[k]?=some l[k]:=cq c;have b:w64 ((k:Int)+1)=(k:Int)+1:=zt (by omega) (by omega);refine ⟨_,step a k _ d ha,?_,?_⟩
   ·refine ⟨by simp only [b];omega,by simp only [b];omega,?_⟩;simp only [b];have:((k:Int)+1).toNat=k+1:=by omega
    rw [this,fp,d,List.foldl_append,←ha];rfl
   ·simp only [b];omega
  ·right;have e:k=l.length:=by omega
   subst e;rw [fq] at ha;exact ⟨a,stop a ha,ha⟩
theorem zr {α:Type} {l:List α} {i:Nat} {x:α} (h:l[i]?=some x):idx l (i:Int)=some x:=by
 unfold idx;rw [if_pos (by omega)];simpa using h
theorem zcz {α β:Type} (p:α->Bool) (g:α->β):∀ (l:List α) (a:List β),l.foldl (fun a x=>if p x then a++[g x] else a) a=a++(l.filter p).map g
 | [],a=>by simp
 | x::l,a=>by
  rw [ci,zcz p g l];by_cases b:p x=true
  ·rw [if_pos b,bx b];simp
  ·rw [if_neg b,bu b]
structure Lead (n:Nat) (L nm:List Int):Prop where
 len:L.length=n
 nlen:nm.length=n
 low:∀ (i:Nat) (p:Int),L[i]?=some p -> -1<=p/\p<i
 root:∀ (i:Nat) (r:Int),nm[i]?=some r->0<=r/\r<=i/\iter (gstep L) (i:Int)=some r/\∃ q,L[r.toNat]?=some q/\q<0
theorem zkQ {L:List Int} {i:Int} {p:Int} (h0:0<=i) (h:L[i.toNat]?=some p) (hp:p<0):iter (gstep L) i=some i:=by
 apply zI;unfold gstep;rw [zf4 h0 h];simp only [gp];rw [if_pos hp]
theorem zrF {L:List Int} {i:Int} {p:Int} (h0:0<=i) (h:L[i.toNat]?=some p) (hp:0<=p):iter (gstep L) i=iter (gstep L) p:=by
 apply zD;unfold gstep;rw [zf4 h0 h];simp only [gp];rw [if_neg (by omega)]
theorem zwU {L:List Int} (hL:∀ (i:Nat) (p:Int),L[i]?=some p -> -1<=p/\p<i) {m k:Int} (hm0:0<=m) (hk0:0<=k) (hkm:k<m) {q q':Int} (hm:L[m.toNat]?=some q) (hq:q<0) (hk:L[k.toNat]?=some q') (hq':q'<0) :
  ∀ (i:Nat) (r:Int),i<L.length->iter (gstep L) (i:Int)=some r->iter (gstep (L.set m.toNat k)) (i:Int)=some (if r=m then k else r):=by
 intro i
 induction i using Nat.strongRecOn with
 | _ i ih=>
  intro r hi c;have h:=zu hm;obtain ⟨p,d⟩:∃ p,L[i]?=some p:=⟨_,cq hi⟩;have j:=hL i p d;have f:L[(i:Int).toNat]?=some p:=by simpa using d
  by_cases b:p<0
  ·rw [zkQ (by omega) f b] at c;injection c with c
   subst c;by_cases a:(i:Int)=m
   ·subst a;simp only [bb] at *;rw [if_pos trivial];rw [zrF (p:=k) (by omega) (by simp only [bb];rw [zR h]) hk0];exact zkQ hk0 (by rw [zJ (by omega)];exact hk) hq'
   ·rw [if_neg a];exact zkQ (by omega) (by simp only [bb];rw [zJ (by omega)];exact d) b
  ·have a:m.toNat≠i:=fun e=>by
    rw [e,d] at hm;injection hm with hm;omega
   rw [zrF (by omega) f (by omega)] at c;rw [zrF (p:=p) (by omega) (by simp only [bb];rw [zJ a];exact d) (by omega)];have g:((p.toNat:Nat):Int)=p:=by omega
   rw [←g] at c ⊢;exact ih p.toNat (by omega) r (by omega) c
def ren (x y:Int) (z:Int):Int:=if z=max x y then min x y else z
theorem zv1 {n:Nat} {L nm:List Int} (h:Lead n L nm) {i j:Nat} {x y:Int} (hi:nm[i]?=some x) (hj:nm[j]?=some y) :
  Lead n (if x<y then L.set y.toNat x else if y<x then L.set x.toNat y else L) (nm.map (ren x y)):=by
 obtain ⟨E,x1,Z,J,G,F⟩:=h.root i x hi;obtain ⟨y0,X,y2,N,I,M⟩:=h.root j y hj;have C:=zu hi;have v:=zu hj;have c:∀ (m k:Int) (q s:Int),0<=m->0<=k->k<m->m<=(n:Int)->L[m.toNat]?=some q->q<0->L[k.toNat]?=some s->s<0->Lead n (L.set m.toNat k) (nm.map fun z=>if z=m then k else z):=by
  intro m k q s B w u S hm R H g;refine ⟨by rw [ee];exact h.len,by rw [dz];exact h.nlen,fun a p f=>?_,fun a r b=>?_⟩
  ·by_cases O:m.toNat=a
   ·subst O;rw [zR (zu hm)] at f;injection f with f
    omega
   ·rw [zJ O] at f;exact h.low a p f
  ·rw [cw] at b;cases hz:nm[a]? with
   | none=>rw [hz] at b;cases b
   | some z=>
    rw [hz] at b;simp only [Option.map_some] at b;injection b with b
    obtain ⟨Y,V,T,U,P,Q⟩:=h.root a z hz;have D:a<L.length:=by have:=zu hz;rw [h.nlen] at this;rw [h.len];exact this
    have:=zwU h.low B w u hm R H g a z D T;rw [b] at this;subst b;refine ⟨?_,?_,this,?_⟩
    ·split<;>omega
    ·split<;>omega
    ·by_cases d:z=m
     ·rw [if_pos d];exact ⟨s,by rw [zJ (by omega)];exact H,g⟩
     ·rw [if_neg d];exact ⟨U,by rw [zJ (by omega)];exact P,Q⟩
 rw [h.nlen] at C v;by_cases A:x<y
 ·rw [if_pos A];have e:nm.map (ren x y)=nm.map fun z=>if z=y then x else z:=by
   apply ej;intro z _;unfold ren;rw [show max x y=y by omega,show min x y=x by omega]
  rw [e];exact c y x N J y0 E A (by omega) I M G F
 ·rw [if_neg A];by_cases t:y<x
  ·rw [if_pos t];have e:nm.map (ren x y)=nm.map fun z=>if z=x then y else z:=by
    apply ej;intro z _;unfold ren;rw [show max x y=x by omega,show min x y=y by omega]
   rw [e];exact c x y J N E y0 t (by omega) G F I M
  ·rw [if_neg t];have:x=y:=by omega
   subst this;have e:nm.map (ren x x)=nm:=by
    have:ren x x=id:=by
     funext z;unfold ren;rw [Int.max_self,Int.min_self];split
     ·rename_i hz;exact hz.symm
     ·rfl
    rw [this,List.map_id]
   rw [e];exact h
def zjC (bs:List Bd) (nm:List Int):List Int:=bs.foldl (fun nm b=>nm.map (ren (nm.getD b.1.toNat 0) (nm.getD b.2.1.toNat 0))) nm
theorem zjs {l:List Int} {i:Nat} {x:Int} (h:l[i]?=some x):l.getD i 0=x:=by
 rw [List.getD_eq_getElem?_getD,h];rfl
section
variable {n:Nat} {bs:List Bd}
theorem znx (hb:bs.length<=100000) (hw:WBs n bs) {L nm:List Int} (h:Lead n L nm) :
  ∃ L',iter (zeA bs) (0,L)=some L'/\Lead n L' (zjC bs nm):=by
 have key:=zz (F:=zeA bs) (fun s=>0<=s.1/\s.1<=bs.length/\Lead n s.2 (zjC (bs.take s.1.toNat) nm)) (fun s=>(bs.length - s.1).toNat)
  (fun L'=>Lead n L' (zjC bs nm)) ?_ (0,L) ⟨by simp,by simp,by simpa [zjC] using h⟩
 ·exact key
 ·rintro ⟨i,L⟩ ⟨h0,h1,hL⟩;simp only at h0 h1 hL;unfold zeA;by_cases c:i<bs.length
  ·left;obtain ⟨⟨x,y,s⟩,m,j⟩:=zab (l:=bs) h0 c;obtain ⟨A,D,B,w,H,E,G⟩:=hw _ _ j;simp only at A D B w H E G;obtain ⟨g,b⟩:∃ z,z=zjC (bs.take i.toNat) nm:=⟨_,rfl⟩;rw [←b] at hL;obtain ⟨u,f⟩:∃ r,g[x.toNat]?=some r:=⟨_,cq (by rw [hL.nlen];omega)⟩;obtain ⟨v,d⟩:∃ r,g[y.toNat]?=some r:=⟨_,cq (by rw [hL.nlen];omega)⟩;obtain ⟨I,p,_⟩:=zab (l:=L) A (by rw [hL.len];exact D);obtain ⟨J,t,_⟩:=zab (l:=L) B (by rw [hL.len];exact w);obtain ⟨_,_,ix,_⟩:=hL.root _ _ f;obtain ⟨_,_,C,_⟩:=hL.root _ _ d;rw [show ((x.toNat:Nat):Int)=x by omega] at ix;rw [show ((y.toNat:Nat):Int)=y by omega] at C;have q:w64 (i+1)=i+1:=zt (by omega) (by omega);have e:=zv1 hL f d;have a:zjC (bs.take (i+1).toNat) nm=g.map (ren u v):=by
    have:(i+1).toNat=i.toNat+1:=by omega
    rw [this,fp,j];unfold zjC at b ⊢;rw [List.foldl_append,←b];simp only [Option.toList_some,ci,List.foldl_nil];rw [zjs f,zjs d]
   simp only [c,decide_true,if_true,m,p,ix,t,C,gp];unfold zeC;simp only [q];by_cases k:u<v
   ·rw [if_pos (by simp [k])];rw [if_pos k] at e;exact ⟨_,rfl,⟨by simp only [];omega,by simp only [];omega,by simp only [];rw [a];exact e⟩,by simp only [];omega⟩
   ·rw [if_neg (by simp [k])];rw [if_neg k] at e;by_cases c2:v<u
    ·rw [if_pos (by simp [c2])];rw [if_pos c2] at e;exact ⟨_,rfl,⟨by simp only [];omega,by simp only [];omega,by simp only [];rw [a];exact e⟩,by simp only [];omega⟩
    ·rw [if_neg (by simp [c2])];rw [if_neg c2] at e;exact ⟨_,rfl,⟨by simp only [];omega,by simp only [];omega,by simp only [];rw [a];exact e⟩,by simp only [];omega⟩
  ·right;rw [if_neg (by simp [c])];refine ⟨_,rfl,?_⟩;rw [show i.toNat=bs.length by omega,fq] at hL;exact hL
theorem zvW (bs:List Bd):∀ (nm:List Int),(zjC bs nm).length=nm.length:=by
 induction bs with
 | nil=>intro nm;rfl
 | cons b bs ih=>intro nm;unfold zjC at ih ⊢;rw [ci,ih,dz]
theorem ztB {x y:Int} (nm:List Int) (hn:nm.length<=100000):iter (zdp x y) (nm,0)=some (nm.map (ren x y)):=by
 have key:=zz (F:=zdp x y) (fun s=>0<=s.2/\s.2<=nm.length/\s.1=(nm.take s.2.toNat).map (ren x y)++nm.drop s.2.toNat) (fun s=>(nm.length - s.2).toNat)
  (fun z=>z=nm.map (ren x y)) ?_ (nm,0) ⟨by simp,by simp,by simp⟩
 ·obtain ⟨z,h,rfl⟩:=key;exact h
 ·rintro ⟨l,i⟩ ⟨h0,h1,hl⟩;simp only at h0 h1 hl;obtain ⟨k,rfl⟩:=ba h0;simp only [bb] at hl;have c:((nm.take k).map (ren x y)).length=k:=by rw [dz,ef];omega
  have q:l.length=nm.length:=by rw [hl,du,c,dx];omega
  unfold zdp;by_cases m:(k:Int)<l.length
  ·left;obtain ⟨z,h⟩:∃ z,nm[k]?=some z:=⟨_,cq (by omega)⟩;have d:l[k]?=some z:=by rw [hl,cn (by omega),c,Nat.sub_self,co];simpa using h
   have g:zfQ x y=some (max x y):=by unfold zfQ;split<;>simp_all<;>omega
   have e:zfP x y=some (min x y):=by unfold zfP;split<;>simp_all<;>omega
   have p:w64 ((k:Int)+1)=(k:Int)+1:=zt (by omega) (by omega);simp only [m,decide_true,if_true,zr d,g,e,gp];unfold zfx;simp only [p];have b:l.set k (ren x y z)=(nm.take (k+1)).map (ren x y)++nm.drop (k+1):=by
    rw [hl,List.set_append_right _ _ (by omega),c,Nat.sub_self,bj (by omega),List.set_cons_zero,fp,h];simp
   have f:((k:Int)+1).toNat=k+1:=by omega
   by_cases a:z=max x y
   ·rw [if_pos (by simp [a])];refine ⟨_,rfl,⟨by simp only [];omega,by simp only [];omega,?_⟩,by simp only [];omega⟩;simp only [f,bb];rw [←b];unfold ren;rw [if_pos a]
   ·rw [if_neg (by simp [a])];refine ⟨_,rfl,⟨by simp only [];omega,by simp only [];omega,?_⟩,by simp only [];omega⟩;simp only [f];rw [←b];unfold ren;rw [if_neg a];apply bq;intro j;by_cases n:k=j
    ·subst n;rw [zR (zu d),d]
    ·rw [zJ n]
  ·right;rw [if_neg (by simp;omega)];refine ⟨_,rfl,?_⟩;rw [hl,show k=nm.length by omega];simp
theorem zus (hb:bs.length<=100000) (hw:WBs n bs) (nm:List Int) (hn:nm.length=n) (hn1:n<=100000):iter (zds bs) (nm,0)=some (zjC bs nm):=by
 refine zae bs _ nm (by omega) ?_ ?_
 ·intro a i b c k;obtain ⟨j,s,m,q,u,t,w⟩:=hw _ _ c;have p:a.length=n:=by rw [k];exact (zvW _ _).trans hn
  unfold zds;obtain ⟨v,h,e⟩:=zab (l:=a) j (by omega);obtain ⟨r,f,d⟩:=zab (l:=a) m (by omega);have g:=zu c;rw [if_pos (by simp [g])];simp only [zr c,h,f,gp,ztB a (by omega)];unfold zh7;rw [zjs e,zjs d]
 ·intro a _;unfold zds;rw [if_neg (by simp)]
end
def grp (nm:List Int) (i:Nat) (r:Int):List Int:=((List.range i).filter fun (k:Nat)=>decide (nm[k]?=some r)).map fun (k:Nat)=>(k:Int)
def zaY (nm:List Int) (i:Nat):List Int:=((List.range i).filter fun (k:Nat)=>decide (nm[k]?=some (k:Int))).map fun (k:Nat)=>(k:Int)
theorem zkR (nm:List Int) (i:Nat) (r:Int):grp nm (i+1) r=grp nm i r++if nm[i]?=some r then [(i:Int)] else []:=by
 unfold grp;rw [fm,br,eh];congr 1;by_cases h:nm[i]?=some r
 ·rw [if_pos h,bx (by simp [h])];rfl
 ·rw [if_neg h,bu (by simp [h])];rfl
theorem zfU (nm:List Int) (i:Nat):zaY nm (i+1)=zaY nm i++if nm[i]?=some (i:Int) then [(i:Int)] else []:=by
 unfold zaY;rw [fm,br,eh];congr 1;by_cases h:nm[i]?=some (i:Int)
 ·rw [if_pos h,bx (by simp [h])];rfl
 ·rw [if_neg h,bu (by simp [h])];rfl
theorem zqN (nm:List Int) (r:Int):∀ i,(grp nm i r).length<=i
 | 0=>by simp [grp]
 | i+1=>by
  have:=zqN nm r i;rw [zkR,du];split<;>simp<;>omega
theorem znI (nm:List Int):∀ i,(zaY nm i).length<=i
 | 0=>by simp [zaY]
 | i+1=>by
  have:=znI nm i;rw [zfU,du];split<;>simp<;>omega
theorem zqM {nm:List Int} {i:Nat} {r x:Int}:x∈grp nm i r↔0<=x/\x<i/\nm[x.toNat]?=some r:=by
 unfold grp;simp only [fa,ey,fe,decide_eq_true_eq];constructor
 ·rintro ⟨k,⟨b,a⟩,rfl⟩;exact ⟨by omega,by omega,by simpa using a⟩
 ·rintro ⟨b,a,c⟩;exact ⟨x.toNat,⟨by omega,c⟩,by omega⟩
theorem zl1 {nm:List Int} {i:Nat} {x:Int}:x∈zaY nm i↔0<=x/\x<i/\nm[x.toNat]?=some x:=by
 unfold zaY;simp only [fa,ey,fe,decide_eq_true_eq];constructor
 ·rintro ⟨k,⟨b,a⟩,rfl⟩;exact ⟨by omega,by omega,by simpa using a⟩
 ·rintro ⟨b,a,c⟩;exact ⟨x.toNat,⟨by omega,by rw [c];congr 1;omega⟩,by omega⟩
theorem zpJ (nm:List Int):∀ i,Inj (zaY nm i)
 | 0=>by intro i j x h;simp [zaY] at h
 | i+1=>by
  rw [zfU];split
  ·refine (zpJ nm i).snoc fun h=>?_;have:=(zl1.1 h).2.1;omega
  ·rw [bh];exact zpJ nm i
def ziE (nm:List Int) (n:Nat):List (List Int):=(zaY nm n).map (grp nm n)
section
variable {n:Nat} {nm:List Int}
theorem zpG (hn:n<=100000) (hlen:nm.length=n) (hlow:∀ (i:Nat) (r:Int),nm[i]?=some r->0<=r/\r<=i) {out:List (List Int)} {i:Nat} (hi:i<n) :
  iter (zdq n nm (out,i)) ([],(i:Int))=some (grp nm n i):=by
 have c:grp nm i (i:Int)=[]:=by
  rw [bl];intro x p;obtain ⟨g,q,j⟩:=zqM.1 p;have:=hlow _ _ j;omega
 have key:=zz (F:=zdq n nm (out,i)) (fun s=>(i:Int)<=s.2/\s.2<=n/\s.1=grp nm s.2.toNat i) (fun s=>((n:Int) - s.2).toNat)
  (fun z=>z=grp nm n i) ?_ ([],(i:Int)) ⟨by simp,by simp only [];omega,by simp [c]⟩
 ·obtain ⟨z,e,rfl⟩:=key;exact e
 ·rintro ⟨a,k⟩ ⟨h0,g,ha⟩;simp only at h0 g ha;obtain ⟨k,rfl⟩:=ba (show 0<=k by omega);simp only [bb] at ha;unfold zdq;by_cases f:(k:Int)<n
  ·left;obtain ⟨z,e⟩:∃ z,nm[k]?=some z:=⟨_,cq (by omega)⟩;have h:w64 ((k:Int)+1)=(k:Int)+1:=zt (by omega) (by omega);have d:((k:Int)+1).toNat=k+1:=by omega
   have m:=zqN nm i k;simp only [f,decide_true,if_true,zr e,gp];unfold zfy;simp only [h];by_cases b:z=i
   ·rw [if_pos (by simp [b]),zQ (by rw [ha];simp;omega) (by rw [ha];simp;omega)];refine ⟨_,rfl,⟨by simp only [];omega,by simp only [];omega,?_⟩,by simp only [];omega⟩;simp only [d];rw [zkR,e,if_pos (by rw [b]),ha]
   ·rw [if_neg (by simp [b])];refine ⟨_,rfl,⟨by simp only [];omega,by simp only [];omega,?_⟩,by simp only [];omega⟩;simp only [d];rw [zkR,e,if_neg (by simpa using b),ha,bh]
  ·right;rw [if_neg (by simp;omega)];exact ⟨_,rfl,by rw [ha,show k=n by omega]⟩
theorem zqu (hn:n<=100000) (hlen:nm.length=n) (hlow:∀ (i:Nat) (r:Int),nm[i]?=some r->0<=r/\r<=i) :
  iter (zdr n nm) ([],0)=some (ziE nm n):=by
 have key:=zz (F:=zdr n nm) (fun s=>0<=s.2/\s.2<=n/\s.1=(zaY nm s.2.toNat).map (grp nm n)) (fun s=>((n:Int) - s.2).toNat)
  (fun z=>z=ziE nm n) ?_ ([],0) ⟨by simp,by simp,by simp [zaY]⟩
 ·obtain ⟨z,d,rfl⟩:=key;exact d
 ·rintro ⟨a,k⟩ ⟨h0,h1,ha⟩;simp only at h0 h1 ha;obtain ⟨k,rfl⟩:=ba h0;simp only [bb] at ha;unfold zdr;by_cases e:(k:Int)<n
  ·left;obtain ⟨z,d⟩:∃ z,nm[k]?=some z:=⟨_,cq (by omega)⟩;have g:w64 ((k:Int)+1)=(k:Int)+1:=zt (by omega) (by omega);have c:((k:Int)+1).toNat=k+1:=by omega
   simp only [e,decide_true,if_true,zr d,gp];have f:=znI nm k;have h:a.length<=k:=by rw [ha,dz];exact f
   by_cases b:z=k
   ·rw [if_neg (by simp [b]),zpG hn hlen hlow (by omega)];simp only [gp];unfold zh8 zdu;rw [zQ (by simp;omega) (by simp;omega)];simp only [gp,g];refine ⟨_,rfl,⟨by simp only [];omega,by simp only [];omega,?_⟩,by simp only [];omega⟩;simp only [c];rw [zfU,d,if_pos (by rw [b]),ha,eh];rfl
   ·rw [if_pos (by simp [b])];unfold zdu;simp only [g];refine ⟨_,rfl,⟨by simp only [];omega,by simp only [];omega,?_⟩,by simp only [];omega⟩;simp only [c];rw [zfU,d,if_neg (by simpa using b),ha,bh]
  ·right;rw [if_neg (by simp;omega)];exact ⟨_,rfl,by rw [ha,show k=n by omega];rfl⟩
end
section
variable {n:Nat} {nm:List Int}
def zzG (nm:List Int) (i:Nat) (pl:List (Int×Int)):Prop:=
 ∀ r:Int,(r∈zaY nm i->mhas pl r=true/\∃ j:Nat,mget pl r=some (j:Int)/\(zaY nm i)[j]?=some r)/\(r∉zaY nm i->mhas pl r=false)
theorem ztY {α β:Type} [DecidableEq α] {m:List (α×β)} {k:α}:mhas m k=true↔∃ p∈m,p.1=k:=by
 unfold mhas;simp
theorem zro {α β:Type} [DecidableEq α] {m:List (α×β)} {k:α} {v:β} (h:mhas m k=false):zgv m k v=m++[(k,v)]:=by
 unfold zgv;rw [if_neg (by simp [h])]
theorem zpP {α β:Type} [DecidableEq α] {m:List (α×β)} {k k':α} {v:β} (h:mhas m k=false):mget (m++[(k,v)]) k'=if k'=k then some v else mget m k':=by
 unfold mget;rw [List.find?_append];by_cases a:k'=k
 ·subst a;rw [if_pos rfl];have c:m.find? (fun p=>decide (p.1=k'))=none:=by
   rw [List.find?_eq_none];intro p b hd;have:mhas m k'=true:=ztY.2 ⟨p,b,by simpa using hd⟩;rw [h] at this;cases this
  rw [c];simp
 ·rw [if_neg a];cases m.find? (fun p=>decide (p.1=k')) with
  | some p=>simp
  | none=>simp [show ¬k=k' from fun e=>a e.symm]
theorem zpO {α β:Type} [DecidableEq α] {m:List (α×β)} {k k':α} {v:β}:mhas (m++[(k,v)]) k'=(mhas m k'||decide (k=k')):=by
 unfold mhas;rw [List.any_append];simp
theorem zqE {L:List Int} (hn:n<=100000) (hL:Lead n L nm):iter (zez n L) ([],0,([]:List (Int×Int)))=some (ziE nm n):=by
 have t:∀ (i:Nat) (r:Int),nm[i]?=some r->0<=r/\r<=i:=fun i r h=>⟨(hL.root i r h).1,(hL.root i r h).2.1⟩;have key:=zz (F:=zez n L)
  (fun s=>0<=s.2.1/\s.2.1<=n/\s.1=(zaY nm s.2.1.toNat).map (grp nm s.2.1.toNat)/\zzG nm s.2.1.toNat s.2.2) (fun s=>((n:Int) - s.2.1).toNat)
  (fun z=>z=ziE nm n) ?_ ([],0,[]) ⟨by simp,by simp,by simp [zaY],fun r=>⟨fun h=>by simp [zaY] at h,fun _=>rfl⟩⟩
 ·obtain ⟨z,U,rfl⟩:=key;exact U
 ·rintro ⟨a,k,pl⟩ ⟨h0,M,ha,hpl⟩;simp only at h0 M ha hpl;obtain ⟨k,rfl⟩:=ba h0;simp only [bb] at ha hpl;unfold zez;simp only [bb];by_cases A:(k:Int)<n
  ·left;obtain ⟨r,d⟩:∃ r,nm[k]?=some r:=⟨_,cq (by rw [hL.nlen];omega)⟩;obtain ⟨p,V⟩:∃ p,L[k]?=some p:=⟨_,cq (by rw [hL.len];omega)⟩;obtain ⟨T,r1,Z,q,O,Q⟩:=hL.root k r d;have N:w64 ((k:Int)+1)=(k:Int)+1:=zt (by omega) (by omega);have b:((k:Int)+1).toNat=k+1:=by omega
   have X:=znI nm k;have H:a.length=(zaY nm k).length:=by rw [ha,dz]
   simp only [A,decide_true,if_true,zr V,Z,gp];by_cases f:r=k
   ·subst f;have c:(k:Int)∉zaY nm k:=fun h=>by have:=(zl1.1 h).2.1;omega
    have g:=(hpl k).2 c;rw [if_pos (by simp [g]),zQ (by simp;omega) (by simp;omega),zro g];simp only [gp];unfold zeD;have y:idx (a++[([]:List Int)]) (a.length:Int)=some []:=zr (by rw [cn (fy _),Nat.sub_self];rfl);simp only [y,gp,zQ (α:=Int) (bytes:=8) (l:=[]) (l2:=[(k:Int)]) (by simp) (by simp),N,bb];refine ⟨_,rfl,⟨by simp only [];omega,by simp only [];omega,?_,?_⟩,by simp only [];omega⟩
    ·simp only [b];rw [zfU,d,if_pos rfl,eh];rw [List.set_append_right _ _ (fy _),Nat.sub_self];simp only [List.set_cons_zero,ek,List.map_nil,fh];have P:grp nm (k+1) k=[(k:Int)]:=by
      have v:grp nm k (k:Int)=[]:=by
       rw [bl];intro x w;obtain ⟨M,h2,Y⟩:=zqM.1 w;have:=t _ _ Y;omega
      rw [zkR,d,if_pos rfl,v];rfl
     rw [P,ha];congr 1;apply ej;intro x w;rw [zkR,d,if_neg,bh];intro e;injection e with e
     have:=(zl1.1 w).2.1;omega
    ·simp only [b];unfold zzG;rw [zfU,d,if_pos rfl];intro r;constructor
     ·intro hm;rw [zpO,zpP g];rcases ep.1 hm with hm | hm
      ·obtain ⟨D,j,C,m⟩:=(hpl r).1 hm;refine ⟨by rw [D];rfl,j,?_,by rw [cj (zu m)];exact m⟩;rw [if_neg (by intro e;subst e;exact c hm)];exact C
      ·rw [fg] at hm;subst hm;refine ⟨by simp,a.length,by rw [if_pos rfl],?_⟩;rw [H,cn (fy _),Nat.sub_self];rfl
     ·intro hm;rw [ep,fg,not_or] at hm;rw [zpO,(hpl r).2 hm.1];simp;intro e;exact hm.2 e.symm
   ·have E:r∈zaY nm k:=by
     refine zl1.2 ⟨T,by omega,?_⟩;have c:r.toNat<nm.length:=by rw [hL.nlen];omega
     obtain ⟨J,u⟩:∃ J,nm[r.toNat]?=some J:=⟨_,cq c⟩;obtain ⟨_,_,B,_⟩:=hL.root _ _ u;have:=zkQ (L:=L) (i:=((r.toNat:Nat):Int)) (by omega) (by rw [bb];exact O) Q;rw [this] at B;injection B with B
     rw [u];congr 1;omega
    obtain ⟨D,j,C,m⟩:=(hpl r).1 E;rw [if_neg (by simp [D]),C];simp only [gq];unfold zeD;have S:=zu m;have y:a[j]?=some (grp nm k r):=by rw [ha,cw,m];rfl
    have a0:=zqN nm r k;simp only [zr y,gp,zQ (bytes:=8) (l:=grp nm k r) (l2:=[(k:Int)]) (by simp;omega) (by simp;omega),N,bb];refine ⟨_,rfl,⟨by simp only [];omega,by simp only [];omega,?_,?_⟩,by simp only [];omega⟩
    ·simp only [b];rw [zfU,d,if_neg (by intro e;injection e with e;exact f e),bh];apply bq;intro I;rw [cw];by_cases G:j=I
     ·subst G;rw [zR (zu y),m];simp only [Option.map_some];rw [zkR,d,if_pos rfl]
     ·rw [zJ G,ha,cw];cases w:(zaY nm k)[I]? with
      | none=>rfl
      | some x=>
       simp only [Option.map_some];rw [zkR,d,if_neg,bh];intro e;injection e with e
       subst e;exact G (zpJ nm k _ _ _ m w)
    ·simp only [b];unfold zzG;rw [zfU,d,if_neg (by intro e;injection e with e;exact f e),bh];exact hpl
  ·right;rw [if_neg (by simp;omega)];have R:k=n:=by omega
   subst R;exact ⟨_,rfl,ha⟩
theorem zwa {n:Nat} (hn:n<=100000):iter (zeB n) (0,[])=some (List.replicate n (-1)):=by
 have key:=zz (F:=zeB n) (fun s=>0<=s.1/\s.1<=n/\s.2=List.replicate s.1.toNat (-1)) (fun s=>((n:Int) - s.1).toNat) (fun z=>z=List.replicate n (-1)) ?_ (0,[]) ⟨by simp,by simp,by simp⟩
 ·obtain ⟨z,d,rfl⟩:=key;exact d
 ·rintro ⟨i,L⟩ ⟨h0,h1,hL⟩;simp only at h0 h1 hL;unfold zeB;simp only [bb];have e:L.length=i.toNat:=by rw [hL];simp
  by_cases a:i<n
  ·left;have b:w64 (i+1)=i+1:=zt (by omega) (by omega);have c:zrH n L i=some (L++[-1]):=by unfold zrH;rw [if_pos ⟨by omega,by omega⟩]
   simp only [a,decide_true,if_true,c,b,gp];refine ⟨_,rfl,⟨by simp only [];omega,by simp only [];omega,?_⟩,by simp only [];omega⟩;simp only;rw [hL,show (i+1).toNat=i.toNat+1 by omega,List.replicate_succ']
  ·right;rw [if_neg (by simp;omega)];exact ⟨_,rfl,by rw [hL,show i.toNat=n by omega]⟩
def zfm (n:Nat):List Int:=(List.range n).map fun (k:Nat)=>(k:Int)
theorem ztD {n:Nat} (hn:n<=100000):iter (zdt n) ([],0)=some (zfm n):=by
 have key:=zz (F:=zdt n) (fun s=>0<=s.2/\s.2<=n/\s.1=zfm s.2.toNat) (fun s=>((n:Int) - s.2).toNat) (fun z=>z=zfm n) ?_ ([],0) ⟨by simp,by simp,by simp [zfm]⟩
 ·obtain ⟨z,d,rfl⟩:=key;exact d
 ·rintro ⟨a,i⟩ ⟨h0,h1,hL⟩;simp only at h0 h1 hL;unfold zdt;have e:a.length=i.toNat:=by rw [hL];simp [zfm]
  by_cases b:i<n
  ·left;have c:w64 (i+1)=i+1:=zt (by omega) (by omega);simp only [b,decide_true,if_true,zQ (α:=Int) (bytes:=8) (l:=a) (l2:=[i]) (by simp;omega) (by simp;omega),c,gp];refine ⟨_,rfl,⟨by simp only [];omega,by simp only [];omega,?_⟩,by simp only [];omega⟩;simp only;rw [hL,show (i+1).toNat=i.toNat+1 by omega];unfold zfm;rw [fm,eh];congr 1;simp only [ek,List.map_nil];congr 1;omega
  ·right;rw [if_neg (by simp;omega)];exact ⟨_,rfl,by rw [hL,show i.toNat=n by omega]⟩
theorem zyQ (n:Nat):Lead n (List.replicate n (-1)) (zfm n):=by
 have b:∀ (i:Nat) (p:Int),(List.replicate n (-1:Int))[i]?=some p->p = -1:=by
  intro i p h;rw [dg] at h;split at h
  ·injection h with h;exact h.symm
  ·cases h
 refine ⟨by simp,by simp [zfm],fun i p h=>by rw [b i p h];omega,fun i r h=>?_⟩;have hi:=zu h;simp [zfm] at hi;have c:r=i:=by
  simp [zfm,cw,df hi] at h;exact h.symm
 subst c;have a:(List.replicate n (-1:Int))[i]?=some (-1):=by rw [dg,if_pos hi]
 exact ⟨by omega,by omega,zkQ (by omega) (by simpa using a) (by omega),-1,by simpa using a,by omega⟩
theorem zv9 {n:Nat} {bs:List Bd} (hn:n<=100000) (hb:bs.length<=100000) (hw:WBs n bs) :
  zjq n bs=some (ziE (zjC bs (zfm n)) n)/\zic n bs=some (ziE (zjC bs (zfm n)) n):=by
 obtain ⟨L,b,a⟩:=znx hb hw (zyQ n);constructor
 ·unfold zjq zi5 zi4 zi3;have c:fmk 8 (n:Int)=some []:=by unfold fmk;rw [if_pos ⟨by omega,by omega,by omega⟩]
  simp only [c,gp,zwa hn,b,zqE hn a]
 ·unfold zic zib zia zh9;simp only [gp,ztD hn];rw [zus hb hw _ (by simp [zfm]) hn];simp only [gp];rw [zqu hn a.nlen fun i r h=>⟨(a.root i r h).1,(a.root i r h).2.1⟩];simp only [gp]
theorem zui (l:List Bd) (h:l.length<=2000000):zes l=some l:=by
 unfold zes zck;rw [if_neg (by simp),zQ (by simp;omega) (by simp;omega)];rfl
theorem zr9 (l:List Bd) (h:l.length<=2000000) (p:Bd->Option Bool) (q:Bd->Bool) (hp:∀ b∈l,p b=some (q b)) :
  ∃ i:Int,zdy l p=some i/\((i = -1/\∀ b∈l,q b=false)\/(∃ k:Nat,i=k/\k<l.length/\(∀ (j:Nat) b,j<k->l[j]?=some b->q b=false)/\∃ b,l[k]?=some b/\q b=true)):=by
 have key:=zz (F:=zb3 l p) (fun i=>0<=i/\i<=l.length/\∀ (j:Nat) b,(j:Int)<i->l[j]?=some b->q b=false) (fun i=>(l.length - i).toNat)
  (fun z=>match z with | .inl _=>∀ b∈l,q b=false | .inr i=>∃ k:Nat,i=k/\k<l.length/\(∀ (j:Nat) b,j<k->l[j]?=some b->q b=false)/\∃ b,l[k]?=some b/\q b=true) ?_ 0 ⟨by omega,by omega,fun j b e=>by omega⟩
 ·obtain ⟨z,t,n⟩:=key;unfold zdy;rw [t];cases z with
  | inl z=>exact ⟨-1,rfl,.inl ⟨rfl,n⟩⟩
  | inr i=>exact ⟨i,rfl,.inr n⟩
 ·rintro i ⟨s,u,a⟩;obtain ⟨k,rfl⟩:=ba s;unfold zb3;by_cases c:k<l.length
  ·have f:l[k]?=some l[k]:=cq c;have g:=hp l[k] (dt c);have r:w64 ((k:Int)+1)=(k:Int)+1:=zt (by omega) (by omega);have hd:((k:Int)<(l.length:Int)):=by omega
   simp only [hd,decide_true,if_true,zr f,gp,g,r];cases hq:q l[k] with
   | true=>right;exact ⟨_,rfl,k,rfl,c,fun j b e=>a j b (by omega),_,f,hq⟩
   | false=>
    left;refine ⟨_,rfl,⟨by omega,by omega,fun j b e d=>?_⟩,by omega⟩;by_cases m:j=k
    ·subst m;rw [f] at d;injection d with d;rw [←d];exact hq
    ·exact a j b (by omega) d
  ·right;have hd:¬((k:Int)<(l.length:Int)):=by omega
   simp only [hd,decide_false];refine ⟨_,rfl,?_⟩;intro b d;obtain ⟨j,e⟩:=cy d;exact a j b (by have:=zu e;omega) e
theorem zmQ {α:Type} {p:α->Bool} {l:List α} {k:Nat} (h:∀ (j:Nat) b,j<k->l[j]?=some b->p b=true):(l.take k).filter p=l.take k:=by
 rw [bz];intro b c;obtain ⟨j,a⟩:=cy c;have:=zu a;rw [ef] at this;rw [dm,if_pos (by omega)] at a;exact h j b (by omega) a
theorem ztn (l:List Bd) (h:l.length<=2000000) (p:Bd->Option Bool) (q:Bd->Bool) (hp:∀ b∈l,p b=some (q b)) :
  zc0 l p=some (l.filter fun b=>!q b):=by
 obtain ⟨i,hi,u⟩:=zr9 l h p q hp;unfold zc0;simp only [hi,gp];rcases u with ⟨rfl,e⟩ | ⟨k,rfl,hk,hlow,b,g,hq⟩
 ·rw [if_pos (by simp)];congr 1;symm;rw [bz];intro b g;rw [e b g];rfl
 ·rw [if_neg (by simp)];have x:w64 ((k:Int)+1)=(k:Int)+1:=zt (by omega) (by omega);rw [x];have key:=zz (F:=zbH p) (fun s=>(k:Int)<s.2.2/\s.2.2<=l.length/\s.1.length=l.length/\0<=s.2.1/\s.2.1<s.2.2/\s.1.take s.2.1.toNat=(l.take s.2.2.toNat).filter (fun b=>!q b)/\∀ j,s.2.2.toNat<=j->s.1[j]?=l[j]?)
   (fun s=>(l.length - s.2.2).toNat) (fun z=>z.1.length=l.length/\0<=z.2/\z.2<=l.length/\z.1.take z.2.toNat=l.filter (fun b=>!q b)) ?_ (l,(k:Int),(k:Int)+1) ?_
  ·obtain ⟨⟨y,m⟩,G,E,C,J,A⟩:=key;simp only at E C J A;rw [G];simp only [gp];unfold zdR;have hc:clr y m ((0,0,0):Bd)=some (y.take m.toNat++List.replicate (y.length - m.toNat) (0,0,0)):=by unfold clr;rw [if_pos ⟨by omega,by omega⟩]
   have I:(y.take m.toNat).length=m.toNat:=by rw [ef];omega
   have hs:zf7 (y.take m.toNat++List.replicate (y.length - m.toNat) ((0,0,0):Bd)) 0 m=some (y.take m.toNat):=by
    unfold zf7;rw [if_pos ⟨by omega,by omega,by rw [du,I,ed];omega⟩];simp only [Int.toNat_zero,List.drop_zero];rw [List.take_append_of_le_length (by omega),ft (by omega)]
   rw [hc];simp only [gp,hs];rw [A]
  ·rintro ⟨y,m,j⟩ ⟨g1,g2,g3,g4,g5,g6,g7⟩;simp only at g1 g2 g3 g4 g5 g6 g7;obtain ⟨j,rfl⟩:=ba (show 0<=j by omega);obtain ⟨m,rfl⟩:=ba g4;simp only [bb] at g6 g7;unfold zbH zbI;by_cases d:j<l.length
   ·left;have c:l[j]?=some l[j]:=cq d;have f:y[j]?=some l[j]:=by rw [g7 j (fy _)];exact c
    have t:=hp l[j] (dt d);have H:w64 ((j:Int)+1)=(j:Int)+1:=zt (by omega) (by omega);have n:w64 ((m:Int)+1)=(m:Int)+1:=zt (by omega) (by omega);have w:y[m]?=some y[m]:=cq (by omega);have a:((j:Int)+1).toNat=j+1:=by omega
    have r:((m:Int)+1).toNat=m+1:=by omega
    rw [if_pos (by simp;omega)];simp only [zr f,gp,t,H,n,zr w,bb];cases hq:q l[j] with
    | false=>
     rw [if_pos (by simp)];refine ⟨_,rfl,⟨by simp only [];omega,by simp only [];omega,by simp only [ee];exact g3,by simp only [];omega,by simp only [];omega,?_,fun i hi=>?_⟩,by simp only [];omega⟩
     ·simp only [a,r];rw [fp,zR (by omega),fp,c,br,List.take_set_of_le (by omega),g6];simp [hq]
     ·simp only [a] at hi ⊢;rw [zJ (by omega)];exact g7 i (by omega)
    | true=>
     rw [if_neg (by simp)];refine ⟨_,rfl,⟨by simp only [];omega,by simp only [];omega,g3,by simp only [];omega,by simp only [];omega,?_,fun i hi=>?_⟩,by simp only [];omega⟩
     ·simp only [a,bb];rw [g6,fp,c,br];simp [hq]
     ·simp only [a] at hi ⊢;exact g7 i (by omega)
   ·right;rw [if_neg (by simp;omega)];refine ⟨_,rfl,g3,by simp only [];omega,by simp only [];omega,?_⟩;simp only [bb];rw [g6,show j=l.length by omega,fq]
  ·refine ⟨by simp only [];omega,by simp only [];omega,rfl,by simp only [];omega,by simp only [];omega,?_,fun j B=>rfl⟩;simp only [bb];rw [show ((k:Int)+1).toNat=k+1 by omega,fp,g,br,zmQ fun j D B v=>by rw [hlow j D B v];rfl];simp [hq]
end
def WB (n:Int) (b:Bd):Prop:=0<=b.1/\b.1<n/\0<=b.2.1/\b.2.1<n/\b.1≠b.2.1/\0<=b.2.2/\b.2.2<=1000
theorem znE {n:Int} {bs:List Bd}:WBs n bs↔∀ b∈bs,WB n b:=by
 constructor
 ·intro h b c;obtain ⟨k,a⟩:=cy c;exact h k b a
 ·intro h k b a;exact h b (fd a)
section
variable {n:Nat} {bs:List Bd}
theorem ztA (hb:bs.length<=100000) (t:Int):iter (zdn bs t) ([],0)=some (bs.filter fun b=>!decide (b.2.2<t)):=by
 have e:(bs.filter fun b=>!decide (b.2.2<t))=bs.foldl (fun a x=>if (!decide (x.2.2<t)) then a++[x] else a) []:=by
  rw [zcz (p:=fun x:Bd=>!decide (x.2.2<t)) (g:=fun x=>x)];simp
 rw [e];refine zae bs _ [] (by omega) ?_ ?_
 ·intro a i b c j;have d:=zu c;have f:a.length<=i:=by
   rw [j,zcz (p:=fun x:Bd=>!decide (x.2.2<t)) (g:=fun x=>x)];simp only [fh,dz];exact fz (dy _ _) (by rw [ef];omega)
  unfold zdn zfu;rw [if_pos (by simp [d])];simp only [zr c,gp,zQ (bytes:=24) (l:=a) (l2:=[b]) (by simp;omega) (by simp;omega)];by_cases h:b.2.2<t
  ·rw [if_neg (by simp;omega),if_neg (by simp [h])]
  ·rw [if_pos (by simp;omega),if_pos (by simp;omega)]
 ·intro a _;unfold zdn;rw [if_neg (by simp)]
theorem zwy (G:List (List Int)):zaK G=zft G:=by
 funext s;unfold zaK zft;by_cases h:s.2<(G.length:Int)
 ·rw [if_pos (by simp [h]),if_pos (by simp [h])];cases hx:idx G s.2 with
  | none=>
   have:zb2 G s (s.1,0)=none:=by unfold zb2;rw [hx];rfl
   rw [zv5 this];rfl
  | some g=>
   have:zbA s g=zb2 G s:=by
    funext r;unfold zbA zb2;rw [hx];rfl
   simp only [gp,this];rfl
 ·rw [if_neg (by simp [h]),if_neg (by simp [h])]
theorem zvE {G:List (List Int)} (hn:n<=100000) (hG:G.length<=100000) (hG1:1<=G.length) (hg:∀ g∈G,g.length<=100000/\∀ x∈g,0<=x/\x<n) :
  ∃ tab,iter (zaK G) (List.replicate n 0,0)=some tab/\tab.length=n/\∀ x∈tab,0<=x/\x<G.length:=by
 have m:∀ (tab:List Int) (k:Nat) (v:Int),(∀ x∈tab,0<=x/\x<(G.length:Int))->0<=v->v<G.length->∀ x∈tab.set k v,0<=x/\x<(G.length:Int):=by
  intro tab k v h d e x c;rcases List.mem_or_eq_of_mem_set c with c | c
  ·exact h x c
  ·rw [c];exact ⟨d,e⟩
 refine zz (F:=zaK G) (fun s=>0<=s.2/\s.2<=G.length/\s.1.length=n/\∀ x∈s.1,0<=x/\x<G.length) (fun s=>(G.length - s.2).toNat)
  (fun tab=>tab.length=n/\∀ x∈tab,0<=x/\x<G.length) ?_ (List.replicate n 0,0) ⟨by simp,by simp,by simp,fun x c=>by rw [(List.mem_replicate.1 c).2];omega⟩
 rintro ⟨tab,i⟩ ⟨d,e,hl,hv⟩;simp only at d e hl hv;unfold zaK;by_cases b:i<G.length
 ·left;obtain ⟨g,q,t⟩:=zab (l:=G) d b;obtain ⟨C,w⟩:=hg g (fd t);rw [if_pos (by simp [b])];simp only [q,gp];have key:=zz (F:=zbA (tab,i) g) (fun s=>0<=s.2/\s.2<=g.length/\s.1.length=n/\∀ x∈s.1,0<=x/\x<G.length) (fun s=>(g.length - s.2).toNat)
   (fun tab=>tab.length=n/\∀ x∈tab,0<=x/\x<G.length) ?_ (tab,0) ⟨by simp,by simp,hl,hv⟩
  ·obtain ⟨u,B,k1,k2⟩:=key;have p:w64 (i+1)=i+1:=zt (by omega) (by omega);rw [B];simp only [gp];unfold zhz;simp only [p];exact ⟨_,rfl,⟨by simp only [];omega,by simp only [];omega,k1,k2⟩,by simp only [];omega⟩
  ·rintro ⟨tab,j⟩ ⟨d,e,hl,hv⟩;simp only at d e hl hv;unfold zbA;by_cases a:j<g.length
   ·left;obtain ⟨x,c,r⟩:=zab (l:=g) d a;have f:=w x (fd r);obtain ⟨y,A,_⟩:=zab (l:=tab) f.1 (by rw [hl];exact f.2);have p:w64 (j+1)=j+1:=zt (by omega) (by omega);rw [if_pos (by simp [a])];simp only [c,A,gp,p];exact ⟨_,rfl,⟨by simp only [];omega,by simp only [];omega,by simp only [ee];exact hl,m _ _ _ hv (by omega) b⟩,by simp only [];omega⟩
   ·right;rw [if_neg (by simp [a])];exact ⟨_,rfl,hl,hv⟩
 ·right;rw [if_neg (by simp [b])];exact ⟨_,rfl,hl,hv⟩
def zoL (tab:List Int) (b:Bd):Bool:=!decide (tab.getD b.1.toNat 0=tab.getD b.2.1.toNat 0)
def zsg (tab:List Int) (b:Bd):Bd:=(tab.getD b.1.toNat 0,tab.getD b.2.1.toNat 0,b.2.2)
def zrb (tab:List Int) (b:Bd):Bd:=(min (tab.getD b.1.toNat 0) (tab.getD b.2.1.toNat 0),max (tab.getD b.1.toNat 0) (tab.getD b.2.1.toNat 0),b.2.2)
theorem zua {β:Type} (p:Bd->Bool) (g:Bd->β) (l:List Bd) (i:Nat) (hi:i<=l.length):((l.take i).foldl (fun a x=>if p x then a++[g x] else a) []).length<=i:=by
 rw [zcz];simp only [fh,dz];exact fz (dy _ _) (by rw [ef];omega)
theorem zth (hb:bs.length<=100000) (hw:WBs n bs) {tab:List Int} (ht:tab.length=n):iter (zcW bs tab) ([],0)=some ((bs.filter (zoL tab)).map (zsg tab)):=by
 have e:=zcz (zoL tab) (zsg tab) bs [];rw [fh] at e;rw [←e];refine zae bs _ [] (by omega) ?_ ?_
 ·intro a i b c k;have g:=zu c;have q:a.length<=i:=by rw [k];exact zua _ _ _ _ (by omega)
  obtain ⟨j,t,p,s,v,u,w⟩:=hw _ _ c;obtain ⟨x,r,d⟩:=zab (l:=tab) j (by omega);obtain ⟨y,m,f⟩:=zab (l:=tab) p (by omega);unfold zcW zeV;rw [if_pos (by simp [g])];simp only [zr c,r,m,gp,zQ (bytes:=24) (l:=a) (l2:=[(x,y,b.2.2)]) (by simp;omega) (by simp;omega)];unfold zoL zsg;rw [zjs d,zjs f];by_cases h:x=y
  ·rw [if_neg (by simp [h]),if_neg (by simp [h])]
  ·rw [if_pos (by simp [h]),if_pos (by simp [h])]
 ·intro a _;unfold zcW;rw [if_neg (by simp)]
theorem zsY (hb:bs.length<=100000) (hw:WBs n bs) {tab:List Int} (ht:tab.length=n):iter (zdm bs tab) ([],0)=some ((bs.filter (zoL tab)).map (zrb tab)):=by
 have e:=zcz (zoL tab) (zrb tab) bs [];rw [fh] at e;rw [←e];refine zae bs _ [] (by omega) ?_ ?_
 ·intro a i b c p;have k:=zu c;have s:a.length<=i:=by rw [p];exact zua _ _ _ _ (by omega)
  obtain ⟨m,v,r,u,A,w,B⟩:=hw _ _ c;obtain ⟨x,t,g⟩:=zab (l:=tab) m (by omega);obtain ⟨y,q,j⟩:=zab (l:=tab) r (by omega);have f:zfQ x y=some (max x y):=by unfold zfQ;split<;>simp_all<;>omega
  have d:zfP x y=some (min x y):=by unfold zfP;split<;>simp_all<;>omega
  unfold zdm zfv;rw [if_pos (by simp [k])];simp only [zr c,t,q,f,d,gp,zQ (bytes:=24) (l:=a) (l2:=[(min x y,max x y,b.2.2)]) (by simp;omega) (by simp;omega)];unfold zoL zrb;rw [zjs g,zjs j];by_cases h:x=y
  ·rw [if_neg (by simp [h]),if_neg (by simp [h])]
  ·rw [if_pos (by simp [h]),if_pos (by simp [h])]
 ·intro a _;unfold zdm;rw [if_neg (by simp)]
theorem zuj (S:Int->Bool) (tab:List Int):∀ (l:List Bd),zfG S (l.map (zsg tab))=zfG S (l.map (zrb tab))
 | []=>rfl
 | b::l=>by
  simp only [ek,zfG,zuj S tab l];congr 1;unfold zsg zrb;simp only;rcases Int.le_total (tab.getD b.1.toNat 0) (tab.getD b.2.1.toNat 0) with h | h
  ·rw [Int.min_eq_left h,Int.max_eq_right h]
  ·rw [Int.min_eq_right h,Int.max_eq_left h];by_cases e:S (tab.getD b.1.toNat 0)=S (tab.getD b.2.1.toNat 0)
   ·rw [if_pos e,if_pos e.symm]
   ·rw [if_neg e,if_neg fun x=>e x.symm]
theorem zsc (hn0:1<=n) (hn:n<=100000) (a:bs.length<=100000) (hw:WBs n bs) (t:Int) :
  ∃ (m:Nat) (b1 b2:List Bd),zhn n bs t=some ((m:Int),b1)/\zh5 n bs t=some ((m:Int),b2)/\1<=m/\m<=n/\WBs m b1/\WBs m b2/\b1.length<=100000/\b2.length<=100000/\∀ S,zfG S b1=zfG S b2:=by
 obtain ⟨e,d⟩:∃ z,z=bs.filter fun b=>!decide (b.2.2<t):=⟨_,rfl⟩;have a7:e.length<=bs.length:=by rw [d];exact dy _ _
 have u:WBs n e:=znE.2 fun b a=>znE.1 hw b (by rw [d] at a;exact (ey.1 a).1);obtain ⟨X,P⟩:=zv9 hn (by omega:e.length<=100000) u;obtain ⟨G,I⟩:∃ z,z=ziE (zjC e (zfm n)) n:=⟨_,rfl⟩;rw [←I] at X P;have h:G.length=(zaY (zjC e (zfm n)) n).length:=by rw [I];unfold ziE;rw [dz]
 have F:G.length<=n:=by rw [h];exact znI _ _
 obtain ⟨L,_,R⟩:=znx (by omega:e.length<=100000) u (zyQ n);have v:1<=G.length:=by
  rw [h];obtain ⟨r,Y⟩:∃ r,(zjC e (zfm n))[0]?=some r:=⟨_,cq (by rw [R.nlen];omega)⟩;obtain ⟨r0,r1,_⟩:=R.root 0 r Y;have E:r=0:=by omega
  have:(0:Int)∈zaY (zjC e (zfm n)) n:=zl1.2 ⟨by omega,by omega,by simpa [E] using Y⟩;exact List.length_pos_of_mem this
 have J:∀ g∈G,g.length<=100000/\∀ x∈g,0<=x/\x<n:=by
  intro g C;rw [I] at C;unfold ziE at C;obtain ⟨r,_,rfl⟩:=fa.1 C;have:=zqN (zjC e (zfm n)) r n;exact ⟨by omega,fun x H=>⟨(zqM.1 H).1,(zqM.1 H).2.1⟩⟩
 obtain ⟨tab,O,k,p⟩:=zvE hn (by omega) v J;have j:∀ (g:Bd->Bd),((bs.filter (zoL tab)).map g).length<=100000:=fun g=>by
  rw [dz];exact fz (dy _ _) a
 have f:∀ b∈bs.filter (zoL tab),WB n b/\0<=tab.getD b.1.toNat 0/\tab.getD b.1.toNat 0<G.length/\0<=tab.getD b.2.1.toNat 0/\tab.getD b.2.1.toNat 0<G.length/\tab.getD b.1.toNat 0≠tab.getD b.2.1.toNat 0:=by
  intro b a;obtain ⟨h1,B⟩:=ey.1 a;have D:=znE.1 hw b h1;obtain ⟨M,w2,N,w4,w5,w,A⟩:=D;obtain ⟨x,H,s⟩:=zab (l:=tab) M (by omega);obtain ⟨y,hy,q⟩:=zab (l:=tab) N (by omega);have Z:=p x (fd s);have T:=p y (fd q);unfold zoL at B;rw [zjs s,zjs q] at B ⊢;exact ⟨⟨M,w2,N,w4,w5,w,A⟩,Z.1,Z.2,T.1,T.2,by simpa using B⟩
 refine ⟨G.length,_,_,?_,?_,v,F,?_,?_,j (zsg tab),j (zrb tab),fun S=>zuj S tab _⟩
 ·unfold zhn zhB zhA;have hd:=ztn bs (by omega) (fun q0=>zhC q0 t) (fun b=>decide (b.2.2<t)) (fun b _=>rfl);rw [zui bs (by omega)];simp only [gp];rw [hd,←d];simp only [gp,X,zqL (n:=(n:Int)) (by omega) (by omega),bb,O,zth a hw k]
 ·unfold zh5 zh4 zh3 zh2;rw [ztA a t,←d];simp only [gp,P,zqL (n:=(n:Int)) (by omega) (by omega),bb];rw [←zwy G];simp only [O,gp,zsY a hw k]
 ·rw [znE];intro b a;obtain ⟨c,hc,rfl⟩:=fa.1 a;obtain ⟨⟨_,_,_,_,_,w,A⟩,a1,a2,Q,V,U⟩:=f c hc;exact ⟨a1,a2,Q,V,U,w,A⟩
 ·rw [znE];intro b a;obtain ⟨c,hc,rfl⟩:=fa.1 a;obtain ⟨⟨_,_,_,_,_,w,A⟩,a1,a2,Q,V,U⟩:=f c hc;unfold zrb WB;simp only;omega
theorem zt9 {m:Int} {b1 b2:List Bd} {t:Int} (h:∀ S,zfG S b1=zfG S b2):Holds m b1 t↔Holds m b2 t:=by
 unfold Holds;constructor
 ·intro a S hS b;rw [←h S];exact a S hS b
 ·intro a S hS b;rw [h S];exact a S hS b
theorem zvH {p0:(List ((List UInt8)×Int))×(List ((List UInt8)×(List Int)))} {p1:List ((Int×Int)×Int)} (hn0:1<=p1.length) (hn:p1.length<=100000) (hb:bs.length<=100000) (hw:WBs p1.length bs)
  (h1:zcX p0 p1=some bs) (h2:zg0 p0 p1=some bs) (t:Int) :
  ∃ a b c d,zd9 p0 p1 t=some (a,b)/\zh1 p0 p1 t=some (c,d)/\(if !b then (false,(4:Int)) else (a,0))=(c,d):=by
 obtain ⟨m,D,F,x,s,G,E,A,q,u,w,r⟩:=zsc hn0 hn hb hw t;unfold zd9 zh1;simp only [h1,h2,x,s,gp];by_cases e:(m:Int)>64
 ·rw [if_pos (by simpa using e),if_pos (by simpa using e)];exact ⟨_,_,_,_,rfl,rfl,rfl⟩
 ·rw [if_neg (by simpa using e),if_neg (by simpa using e)];obtain ⟨a,C,f⟩:=zuP (n:=(m:Int)) (by omega) (by omega) u A t;simp only [C,gp];by_cases g:(m:Int)<2
  ·rw [if_pos (by simpa using g)];have:a=true:=f.2 fun S hS ⟨y,hy1,hy2,_⟩=>by omega
   subst this;exact ⟨_,_,_,_,rfl,rfl,rfl⟩
  ·rw [if_neg (by simpa using g)];obtain ⟨v,p,B,j⟩:=zsR (n:=(m:Int)) (by omega) (by omega) w q;simp only [B,gp];refine ⟨_,_,_,_,rfl,rfl,?_⟩;have:a=decide (v≥t):=by
    have k:=(j t).trans (zt9 r).symm;cases a with
    | true=>symm;simpa using k.2 (f.1 rfl)
    | false=>
     symm;simp only [decide_eq_false_iff_not];intro h;have:=f.2 (k.1 h);cases this
   rw [this];rfl
end
theorem zkm {S:Type} (st:Nat->S) (i0 N:Nat) (ok:Nat->Prop) (F:S->Option (S ⊕ (Unit ⊕ Bool))) (h0:i0<=N)
  (step:∀ i,i0<=i->i<N->(∀ j,i0<=j->j<i->ok j)->ok i->F (st i)=some (.inl (st (i+1))))
  (fail:∀ i,i0<=i->i<N->(∀ j,i0<=j->j<i->ok j)->¬ok i->F (st i)=some (.inr (.inr false)))
  (stop:(∀ j,i0<=j->j<N->ok j)->F (st N)=some (.inr (.inl ()))) :
  (iter F (st i0)=some (.inl ())/\∀ i,i0<=i->i<N->ok i)\/(iter F (st i0)=some (.inr false)/\¬ ∀ i,i0<=i->i<N->ok i):=by
 classical
 have key:∀ d i,i+d=N->i0<=i->(∀ j,i0<=j->j<i->ok j)->(iter F (st i)=some (.inl ())/\∀ i,i0<=i->i<N->ok i)\/(iter F (st i)=some (.inr false)/\¬ ∀ i,i0<=i->i<N->ok i):=by
  intro d
  induction d with
  | zero=>
   intro i hi c a;have:i=N:=by omega
   subst this;exact .inl ⟨zI (stop a),a⟩
  | succ d ih=>
   intro i hi c a;by_cases b:ok i
   ·rw [zD (step i c (by omega) a b)];exact ih (i+1) (by omega) (by omega) fun j e g=>by
     by_cases f:j=i
     ·subst f;exact b
     ·exact a j e (by omega)
   ·exact .inr ⟨zI (fail i c (by omega) a b),fun h=>b (h i c (by omega))⟩
 exact key (N - i0) i0 (by omega) (fy _) fun j m k=>by omega
theorem zp2 {α:Type} (l:List α) (h:l.length<=2000000) (p:α->Option Bool) (q:α->Bool) (hp:∀ b∈l,p b=some (q b)) (F:Int->Option (Int ⊕ (Unit ⊕ Int)))
  (hF:∀ i,F i=if decide (i<(l.length:Int)) then ((idx l i).bind fun x=>(p x).bind fun b=>if b then (some (.inr (.inr i))) else (some (.inl (w64 (i+1))))) else (some (.inr (.inl ())))) :
  (iter F 0=some (.inl ())/\∀ b∈l,q b=false)\/(∃ k:Nat,iter F 0=some (.inr (k:Int))/\k<l.length/\(∀ (j:Nat) b,j<k->l[j]?=some b->q b=false)/\∃ b,l[k]?=some b/\q b=true):=by
 have key:=zz (F:=F) (fun i=>0<=i/\i<=l.length/\∀ (j:Nat) b,(j:Int)<i->l[j]?=some b->q b=false) (fun i=>(l.length - i).toNat)
  (fun z=>match z with | .inl _=>∀ b∈l,q b=false | .inr i=>∃ k:Nat,i=k/\k<l.length/\(∀ (j:Nat) b,j<k->l[j]?=some b->q b=false)/\∃ b,l[k]?=some b/\q b=true) ?_ 0 ⟨by omega,by omega,fun j b f=>by omega⟩
 ·obtain ⟨z,r,n⟩:=key;cases z with
  | inl z=>exact .inl ⟨r,n⟩
  | inr i=>
   obtain ⟨k,rfl,e⟩:=n;exact .inr ⟨k,r,e⟩
 ·rintro i ⟨t,u,a⟩;obtain ⟨k,rfl⟩:=ba t;rw [hF];by_cases c:k<l.length
  ·have e:l[k]?=some l[k]:=cq c;have g:=hp l[k] (dt c);have s:w64 ((k:Int)+1)=(k:Int)+1:=zt (by omega) (by omega);have hd:((k:Int)<(l.length:Int)):=by omega
   simp only [hd,decide_true,if_true,zr e,gp,g,s];cases hq:q l[k] with
   | true=>right;exact ⟨_,rfl,k,rfl,c,fun j b f=>a j b (by omega),_,e,hq⟩
   | false=>
    left;refine ⟨_,rfl,⟨by omega,by omega,fun j b f d=>?_⟩,by omega⟩;by_cases m:j=k
    ·subst m;rw [e] at d;injection d with d;rw [←d];exact hq
    ·exact a j b (by omega) d
  ·right;have hd:¬((k:Int)<(l.length:Int)):=by omega
   simp only [hd,decide_false];refine ⟨_,rfl,?_⟩;intro b d;obtain ⟨j,f⟩:=cy d;exact a j b (by have:=zu f;omega) f
abbrev Gl:=List UInt8×Int
abbrev Tl:=List UInt8×List Int
abbrev TSet:=List Gl×List Tl
abbrev Pt:=Int×Int
def zgy (c:UInt8):Bool:=(decide (97<=(c.toNat:Int))&&decide ((c.toNat:Int)<=122))||(decide (65<=(c.toNat:Int))&&decide ((c.toNat:Int)<=90))
def zlS (c:UInt8):Bool:=decide (48<=(c.toNat:Int))&&decide ((c.toNat:Int)<=57)
def zoI (s:List UInt8):Prop:=1<=s.length/\s.length<=12/\∀ (i:Nat) (c:UInt8),s[i]?=some c->zgy c=true\/(1<=i/\(zlS c=true\/(c.toNat:Int)=95))
theorem zm3 (c:UInt8):zfO (c.toNat:Int)=some (zgy c):=by
 unfold zfO zgy;by_cases a:97<=(c.toNat:Int)<;>by_cases b:(c.toNat:Int)<=122<;>by_cases e:65<=(c.toNat:Int)<;>by_cases d:(c.toNat:Int)<=90<;>simp [*]<;>omega
theorem zra (c:UInt8):zjg (c.toNat:Int)=some (zlS c):=by
 unfold zjg zlS;by_cases a:48<=(c.toNat:Int)<;>by_cases b:(c.toNat:Int)<=57<;>simp [*]<;>omega
theorem ztE (s:List UInt8) (h:s.length<=2000000):∃ b,zhK s=some b/\(b=true↔zoI s):=by
 unfold zhK zfR;by_cases t:s.length<1
 ·rw [if_pos (by simp;omega),if_pos rfl];exact ⟨_,rfl,by simp;unfold zoI;omega⟩
 ·rw [if_neg (by simp;omega)];by_cases r:s.length>12
  ·rw [if_pos (by simp;omega),if_pos rfl];exact ⟨_,rfl,by simp;unfold zoI;omega⟩
  ·rw [if_neg (by simp;omega)];have f:s[0]?=some s[0]:=cq (by omega);have n:idx s 0=some s[0]:=zr (i:=0) f;simp only [n,gp,zm3];cases hl:zgy s[0] with
   | false=>
    refine ⟨false,rfl,by simp;rintro ⟨_,_,p⟩;have:=p 0 _ f;rw [hl] at this;simp at this⟩
   | true=>
    rw [if_neg (by simp)];have key:=zkm (fun i=>(i:Int)) 1 s.length (fun i=>∀ c,s[i]?=some c->zgy c=true\/zlS c=true\/(c.toNat:Int)=95) (zbT s) (by omega) ?_ ?_ ?_;rcases key with ⟨g,j⟩ | ⟨g,hnot⟩
    ·have g:iter (zbT s) 1=some (.inl ()):=g;rw [g];refine ⟨true,rfl,fun _=>⟨by omega,by omega,fun i c hc=>?_⟩,fun _=>rfl⟩;cases i with
     | zero=>rw [f] at hc;injection hc with hc;rw [←hc];exact .inl hl
     | succ i=>
      rcases j (i+1) (by omega) (zu hc) c hc with h | h
      ·exact .inl h
      ·exact .inr ⟨by omega,h⟩
    ·have g:iter (zbT s) 1=some (.inr false):=g;rw [g];refine ⟨false,rfl,fun h=>(by cases h),fun q=>absurd (fun i k hi c hc=>?_) hnot⟩;rcases q.2.2 i c hc with h | h
     ·exact .inl h
     ·exact .inr h.2
    ·intro i k hi _ e;unfold zbT;have hc:s[i]?=some s[i]:=cq hi;rw [if_pos (by simp [hi])];simp only [zr hc,gp,zm3,zra];have m:w64 ((i:Int)+1)=((i+1:Nat):Int):=by rw [zt (by omega) (by omega)];omega
     unfold zen;rcases e _ hc with h | h | h
     ·simp [h,m]
     ·simp [h,m]
     ·simp [h,m]
    ·intro i k hi _ e;unfold zbT;have hc:s[i]?=some s[i]:=cq hi;rw [if_pos (by simp [hi])];simp only [zr hc,gp,zm3,zra];unfold zen;have a:¬(zgy s[i]=true\/zlS s[i]=true\/(s[i].toNat:Int)=95):=fun h=>e fun c d=>by rw [hc] at d;injection d with d;rw [←d];exact h
     simp only [not_or,Bool.not_eq_true] at a;simp [a.1,a.2.1,a.2.2]
    ·intro _;unfold zbT;rw [if_neg (by simp)]
theorem zt8 (s:List UInt8) (h:s.length<=2000000):∃ b,zhR s=some b/\(b=true↔zoI s):=by
 have d:∀ (i:Nat) (c:UInt8),s[i]?=some c->zbY s (i:Int)=za9 (i:Int) c (zgy c):=by
  intro i c hc;have hi:=zu hc;unfold zbY;rw [if_pos (by simp [hi])];simp only [zr hc,gp];unfold zgy;by_cases u:97<=(c.toNat:Int)<;>by_cases w:(c.toNat:Int)<=122<;>by_cases y:65<=(c.toNat:Int)<;>by_cases x:(c.toNat:Int)<=90<;>simp [*]<;>omega
 unfold zhR zkO;have key:=zkm (fun i=>(i:Int)) 0 s.length (fun i=>∀ c,s[i]?=some c->zgy c=true\/(1<=i/\(zlS c=true\/(c.toNat:Int)=95))) (zbY s) (by omega) ?_ ?_ ?_;rcases key with ⟨k,p⟩ | ⟨k,hnot⟩
 ·have k:iter (zbY s) 0=some (.inl ()):=k;rw [k];by_cases u:1<=s.length
  ·refine ⟨decide ((s.length:Int)<=12),by simp;omega,?_⟩;simp only [decide_eq_true_eq];exact ⟨fun w=>⟨u,by omega,fun i c hc=>p i (by omega) (zu hc) c hc⟩,fun r=>by have:=r.2.1;omega⟩
  ·refine ⟨false,by simp;intro h;omega,fun h=>(by cases h),fun r=>absurd r.1 u⟩
 ·have k:iter (zbY s) 0=some (.inr false):=k;rw [k];exact ⟨false,rfl,fun h=>(by cases h),fun r=>absurd (fun i _ hi c hc=>r.2.2 i c hc) hnot⟩
 ·intro i v hi _ g;have hc:s[i]?=some s[i]:=cq hi;rw [d i _ hc];have n:w64 ((i:Int)+1)=((i+1:Nat):Int):=by rw [zt (by omega) (by omega)];omega
  unfold za9 zbZ;rcases g _ hc with h | ⟨h0,h | h⟩
  ·simp [h,n]
  ·unfold zlS at h;simp at h;cases t:zgy s[i] with
   | true=>simp [n]
   | false=>
    have j:¬((i:Int)=0):=by omega
    have m:¬((s[i].toNat:Int)<48):=by omega
    have q:¬((s[i].toNat:Int)>57):=by omega
    simp only [j,m,q,decide_false];simp [n]
  ·cases t:zgy s[i] with
   | true=>simp [n]
   | false=>
    have j:¬((i:Int)=0):=by omega
    have m:¬((s[i].toNat:Int)<48):=by omega
    have q:((s[i].toNat:Int)>57):=by omega
    simp only [j,m,q,decide_false,decide_true,h];simp [n]
 ·intro i v hi _ g;have hc:s[i]?=some s[i]:=cq hi;rw [d i _ hc];unfold za9 zbZ;have f:¬(zgy s[i]=true\/(1<=i/\(zlS s[i]=true\/(s[i].toNat:Int)=95))):=fun h=>g fun c e=>by rw [hc] at e;injection e with e;rw [←e];exact h
  rw [not_or] at f;have t:zgy s[i]=false:=by simpa using f.1
  rw [t];by_cases j:(i:Int)=0
  ·simp [j]
  ·have a:¬(zlS s[i]=true\/(s[i].toNat:Int)=95):=fun h=>f.2 ⟨by omega,h⟩;rw [not_or] at a;have hd:=a.1;unfold zlS at hd;simp at hd;by_cases m:(s[i].toNat:Int)<48
   ·simp only [j,m,decide_false,decide_true,a.2];simp
   ·have q:(s[i].toNat:Int)>57:=by omega
    simp only [j,m,q,decide_false,decide_true,a.2];simp
 ·intro _;unfold zbY;rw [if_neg (by simp)]
theorem zhO (s:List UInt8) (h:s.length<=2000000):∃ b,zhR s=some b/\zhK s=some b/\(b=true↔zoI s):=by
 obtain ⟨a,c,d⟩:=zt8 s h;obtain ⟨b,e,f⟩:=ztE s h;have:a=b:=by
  cases a<;>cases b<;>simp_all
 subst this;exact ⟨a,c,e,d⟩
theorem zc9 (a b c:Int):zbk a b c=some (decide (b<=a/\a<=c)):=by
 unfold zbk;by_cases d:a≥b<;>by_cases e:a<=c<;>simp [*]<;>omega
theorem zg6 (a b c:Int):zbv a b c=some (decide (b<=a/\a<=c)):=by
 unfold zbv;by_cases d:a≥b<;>by_cases e:a<=c<;>simp [*]<;>omega
def GlueOk (set:TSet) (i:Nat):Prop:=∀ g,set.1[i]?=some g->zoI g.1/\1<=g.2/\g.2<=4/\∀ (j:Nat) (g':Gl),j<i->set.1[j]?=some g'->g'.1≠g.1
def TileOk (set:TSet) (i:Nat):Prop:=∀ t,set.2[i]?=some t->zoI t.1/\t.2.length=4/\(∀ (j:Nat) (t':Tl),j<i->set.2[j]?=some t'->t'.1≠t.1)/\∀ x∈t.2,0<=x/\x<=set.1.length
structure SetOk (set:TSet):Prop where
 glues:set.1.length<=200
 tiles1:1<=set.2.length
 tiles:set.2.length<=160
 glue:∀ i,i<set.1.length->GlueOk set i
 tile:∀ i,i<set.2.length->TileOk set i
structure Tame (set:TSet):Prop where
 g:set.1.length<=1048576
 t:set.2.length<=1048576
 gn:∀ x∈set.1,x.1.length<=1048576
 tn:∀ x∈set.2,x.1.length<=1048576
 ts:∀ x∈set.2,x.2.length<=1048576
theorem zms {α:Type} (l:List (List UInt8×α)) (s:List UInt8):(mget (l.map fun g=>(g.1,true)) s).getD false=true↔∃ g∈l,g.1=s:=by
 induction l with
 | nil=>simp [mget]
 | cons g l ih=>
  unfold mget at ih ⊢;rw [ek,List.find?_cons];by_cases h:g.1=s
  ·simp [h]
  ·simp only [h,decide_false];rw [ih];simp [h]
theorem zuC {α:Type} (l:List (List UInt8×α)) (s:List UInt8):mhas (l.map fun g=>(g.1,true)) s=true↔∃ g∈l,g.1=s:=by
 rw [ztY];simp
theorem zrp {α:Type} {l:List (List UInt8×α)} {g:List UInt8×α} (h:¬ ∃ g'∈l,g'.1=g.1):zgv (l.map fun g=>(g.1,true)) g.1 true=(l++[g]).map fun g=>(g.1,true):=by
 rw [zro (by cases hh:mhas (l.map fun g=>(g.1,true)) g.1 with | false=>rfl | true=>exact absurd ((zuC l g.1).1 hh) h)];simp
theorem zsh {α:Type} {l:List α} {i:Nat} {x:α} (h:l[i]?=some x):l.take (i+1)=l.take i++[x]:=by
 rw [fp,h];rfl
theorem zlp {α:Type} {l:List α} {i:Nat} {P:α->Prop} (hi:i<=l.length):(∃ g∈l.take i,P g)↔∃ (j:Nat) (g:α),j<i/\l[j]?=some g/\P g:=by
 constructor
 ·rintro ⟨g,c,b⟩;obtain ⟨j,a⟩:=cy c;have:=zu a;rw [ef] at this;rw [dm,if_pos (by omega)] at a;exact ⟨j,g,by omega,a,b⟩
 ·rintro ⟨j,g,a,c,b⟩;exact ⟨g,fd (i:=j) (by rw [dm,if_pos a];exact c),b⟩
def zne (l:List Int) (m:Int):Bool:=l.all fun x=>decide (0<=x/\x<=m)
theorem zmn {l:List Int} {m:Int}:zne l m=true↔∀ x∈l,0<=x/\x<=m:=by
 unfold zne;simp
theorem znB (l:List Int) (hl:l.length<=1048576) (set:TSet):zb4 l (fun q0=>zbC q0 set)=some (!zne l set.1.length):=by
 unfold zb4 zfS zep;have d:∀ b∈l,(fun q0=>zbC q0 set) b=some (!decide (0<=b/\b<=(set.1.length:Int))):=by
  intro b _;simp only [zbC,zc9,gp]
 rcases zp2 l (by omega) (fun q0=>zbC q0 set) (fun b=>!decide (0<=b/\b<=(set.1.length:Int))) d (zeo l fun q0=>zbC q0 set) (fun i=>rfl) with ⟨c,a⟩ | ⟨k,c,hk,_,b,hb,hq⟩
 ·rw [c];have:zne l set.1.length=true:=by
   rw [zmn];intro x e;have:=a x e;simpa using this
  simp [this]
 ·rw [c];have:zne l set.1.length=false:=by
   cases h:zne l set.1.length with
   | false=>rfl
   | true=>
    have f:=zmn.1 h b (fd hb);simp at hq;omega
  simp [this]
theorem zsa (set:TSet) (hT:Tame set):∃ b,zhc set=some b/\(b=true↔SetOk set):=by
 unfold zhc zgF;by_cases G:(set.1.length:Int)>200
 ·rw [if_pos (by simp;omega),if_pos rfl];exact ⟨_,rfl,fun h=>(by cases h),fun h=>by have:=h.glues;omega⟩
 rw [if_neg (by simp;omega),zc9];simp only [gp];by_cases F:1<=(set.2.length:Int)/\(set.2.length:Int)<=160
 rotate_left
 ·rw [if_pos (by simp;omega)];exact ⟨_,rfl,fun h=>(by cases h),fun h=>absurd ⟨by have:=h.tiles1;omega,by have:=h.tiles;omega⟩ F⟩
 rw [if_neg (by simp;omega)];have key:=zkm (fun i=>((i:Int),(set.1.take i).map fun g=>(g.1,true))) 0 set.1.length (GlueOk set) (zaW set) (by omega) ?_ ?_ ?_;rcases key with ⟨s,y⟩ | ⟨s,hnot⟩
 ·have s:iter (zaW set) (0,[])=some (.inl ()):=s;rw [s];simp only [gp];unfold zi7 zi6;have key:=zkm (fun i=>((i:Int),(set.2.take i).map fun g=>(g.1,true))) 0 set.2.length (TileOk set) (zaV set) (by omega) ?_ ?_ ?_;rcases key with ⟨f,w⟩ | ⟨f,hnot2⟩
  ·have f:iter (zaV set) (0,[])=some (.inl ()):=f;rw [f];exact ⟨true,rfl,fun _=>⟨by omega,by omega,by omega,fun i hi=>y i (by omega) hi,fun i hi=>w i (by omega) hi⟩,fun _=>rfl⟩
  ·have f:iter (zaV set) (0,[])=some (.inr false):=f;rw [f];exact ⟨false,rfl,fun h=>(by cases h),fun h=>absurd (fun i _ hi=>h.tile i hi) hnot2⟩
  ·intro i _ hi _ k;have n:set.2[i]?=some set.2[i]:=cq hi;obtain ⟨o1,o2,C,D⟩:=k _ n;obtain ⟨b,q,_,m⟩:=zhO set.2[i].1 (by have:=hT.tn _ (dt hi);omega);have x:b=true:=m.2 o1;subst x;have a:¬ ∃ g∈set.2.take i,g.1=set.2[i].1:=by
    rw [zlp (by omega)];rintro ⟨j,g,v,r,e⟩;exact C j g v r e
   have c:(mget ((set.2.take i).map fun g=>(g.1,true)) set.2[i].1).getD false=false:=by
    cases hh:(mget ((set.2.take i).map fun g=>(g.1,true)) set.2[i].1).getD false with
    | false=>rfl
    | true=>exact absurd ((zms _ _).1 hh) a
   have B:w64 ((i:Int)+1)=((i+1:Nat):Int):=by rw [zt (by omega) (by omega)];omega
   unfold zaV zcL;rw [if_pos (by simp [hi])];simp only [zr n,gp,q,c,znB _ (by omega:set.2[i].2.length<=1048576),B,zrp a,←zsh n,o2];have:zne set.2[i].2 set.1.length=true:=zmn.2 D;simp [this]
  ·intro i _ hi _ k;have n:set.2[i]?=some set.2[i]:=cq hi;obtain ⟨b,q,_,m⟩:=zhO set.2[i].1 (by have:=hT.tn _ (dt hi);omega);unfold zaV zcL;rw [if_pos (by simp [hi])];simp only [zr n,gp,q];cases b with
   | false=>simp
   | true=>
    rw [if_neg (by simp)];have d:=m.1 rfl;cases c:(mget ((set.2.take i).map fun g=>(g.1,true)) set.2[i].1).getD false with
    | true=>simp
    | false=>
     rw [if_neg (by simp)];have a:¬ ∃ g∈set.2.take i,g.1=set.2[i].1:=fun h=>by
      rw [(zms _ _).2 h] at c;cases c
     rw [zlp (by omega)] at a;by_cases E:set.2[i].2.length=4
     ·simp only [E];rw [if_neg (by simp),znB _ (by omega)];have:¬zne set.2[i].2 set.1.length=true:=fun A=>k fun t p=>by
       rw [n] at p;injection p with p;subst p
       exact ⟨d,E,fun j t' v u e=>a ⟨j,t',v,u,e⟩,zmn.1 A⟩
      simp [this]
     ·rw [if_pos (by simp;omega)]
  ·intro _;unfold zaV;rw [if_neg (by simp)]
 ·have s:iter (zaW set) (0,[])=some (.inr false):=s;rw [s];exact ⟨false,rfl,fun h=>(by cases h),fun h=>absurd (fun i _ hi=>h.glue i hi) hnot⟩
 ·intro i _ hi _ k;have n:set.1[i]?=some set.1[i]:=cq hi;obtain ⟨o1,o2,C,D⟩:=k _ n;obtain ⟨b,q,_,m⟩:=zhO set.1[i].1 (by have:=hT.gn _ (dt hi);omega);have x:b=true:=m.2 o1;subst x;have a:¬ ∃ g∈set.1.take i,g.1=set.1[i].1:=by
   rw [zlp (by omega)];rintro ⟨j,g,v,r,e⟩;exact D j g v r e
  have c:(mget ((set.1.take i).map fun g=>(g.1,true)) set.1[i].1).getD false=false:=by
   cases hh:(mget ((set.1.take i).map fun g=>(g.1,true)) set.1[i].1).getD false with
   | false=>rfl
   | true=>exact absurd ((zms _ _).1 hh) a
  have B:w64 ((i:Int)+1)=((i+1:Nat):Int):=by rw [zt (by omega) (by omega)];omega
  unfold zaW zcK;rw [if_pos (by simp [hi])];simp only [zr n,gp,q,c,zc9,B,zrp a,←zsh n];simp [o2,C]
 ·intro i _ hi _ k;have n:set.1[i]?=some set.1[i]:=cq hi;obtain ⟨b,q,_,m⟩:=zhO set.1[i].1 (by have:=hT.gn _ (dt hi);omega);unfold zaW zcK;rw [if_pos (by simp [hi])];simp only [zr n,gp,q,zc9];cases b with
  | false=>simp
  | true=>
   rw [if_neg (by simp)];have d:=m.1 rfl;cases c:(mget ((set.1.take i).map fun g=>(g.1,true)) set.1[i].1).getD false with
   | true=>simp
   | false=>
    rw [if_neg (by simp)];have a:¬ ∃ g∈set.1.take i,g.1=set.1[i].1:=fun h=>by
     rw [(zms _ _).2 h] at c;cases c
    rw [zlp (by omega)] at a;have:¬(1<=set.1[i].2/\set.1[i].2<=4):=fun A=>k fun t p=>by
     rw [n] at p;injection p with p;subst p
     exact ⟨d,A.1,A.2,fun j t' v u e=>a ⟨j,t',v,u,e⟩⟩
    simp [this]
 ·intro _;unfold zaW;rw [if_neg (by simp)]
theorem zsm (set:TSet) (h:set.1.length<=1048576) (s:List UInt8) :
  (zgo set s=some 0/\∀ g∈set.1,g.1≠s)\/∃ k:Nat,zgo set s=some ((k:Int)+1)/\k<set.1.length/\(∀ (j:Nat) g,j<k->set.1[j]?=some g->g.1≠s)/\∃ g,set.1[k]?=some g/\g.1=s:=by
 unfold zgo zjL;have key:=zz (F:=zhh set s) (fun i=>0<=i/\i<=set.1.length/\∀ (j:Nat) g,(j:Int)<i->set.1[j]?=some g->g.1≠s) (fun i=>(set.1.length - i).toNat)
  (fun z=>match z with | .inl _=>∀ g∈set.1,g.1≠s | .inr i=>∃ k:Nat,i=(k:Int)+1/\k<set.1.length/\(∀ (j:Nat) g,j<k->set.1[j]?=some g->g.1≠s)/\∃ g,set.1[k]?=some g/\g.1=s) ?_ 0 ⟨by omega,by omega,fun j b f=>by omega⟩
 ·obtain ⟨z,t,p⟩:=key;rw [t];cases z with
  | inl z=>exact .inl ⟨rfl,p⟩
  | inr i=>
   obtain ⟨k,rfl,e⟩:=p;exact .inr ⟨k,rfl,e⟩
 ·rintro i ⟨r,u,a⟩;obtain ⟨k,rfl⟩:=ba r;unfold zhh;by_cases c:k<set.1.length
  ·have e:set.1[k]?=some set.1[k]:=cq c;have q:w64 ((k:Int)+1)=(k:Int)+1:=zt (by omega) (by omega);rw [if_pos (by simp [c])];simp only [zr e,gp,q];by_cases m:set.1[k].1=s
   ·right;rw [if_pos (by simp [m])];exact ⟨_,rfl,k,rfl,c,fun j b f=>a j b (by omega),_,e,m⟩
   ·left;rw [if_neg (by simp [m])];refine ⟨_,rfl,⟨by omega,by omega,fun j b f d=>?_⟩,by omega⟩;by_cases n:j=k
    ·subst n;rw [e] at d;injection d with d;rw [←d];exact m
    ·exact a j b (by omega) d
  ·right;rw [if_neg (by simp;omega)];refine ⟨_,rfl,?_⟩;intro b d;obtain ⟨j,f⟩:=cy d;exact a j b (by have:=zu f;omega) f
theorem zsl (set:TSet) (h:set.2.length<=1048576) (s:List UInt8) :
  (zgn set s=some (-1)/\∀ g∈set.2,g.1≠s)\/∃ k:Nat,zgn set s=some (k:Int)/\k<set.2.length/\(∀ (j:Nat) g,j<k->set.2[j]?=some g->g.1≠s)/\∃ g,set.2[k]?=some g/\g.1=s:=by
 unfold zgn zjK;rcases zp2 set.2 (by omega) (fun t=>some (decide (t.1=s))) (fun t=>decide (t.1=s)) (fun _ _=>rfl) (zjJ set s) (fun i=>rfl) with ⟨d,a⟩ | ⟨k,d,hk,hlow,b,hb,hq⟩
 ·rw [d];exact .inl ⟨rfl,fun g c=>by simpa using a g c⟩
 ·rw [d];exact .inr ⟨k,rfl,hk,fun j g e c=>by simpa using hlow j g e c,b,hb,by simpa using hq⟩
theorem zq3 (set:TSet) (t:Tl) (h4:t.2.length=4):(iter (zfg set t) 0=some (.inl ())/\∀ x∈t.2,0<=x/\x<=(set.1.length:Int))\/(iter (zfg set t) 0=some (.inr (.inr (.inr false)))/\¬ ∀ x∈t.2,0<=x/\x<=(set.1.length:Int)):=by
 have key:=zz (F:=zfg set t) (fun i=>0<=i/\i<=4/\∀ (j:Nat) x,(j:Int)<i->t.2[j]?=some x->0<=x/\x<=(set.1.length:Int)) (fun i=>(4 - i).toNat)
  (fun z=>(z=.inl ()/\∀ x∈t.2,0<=x/\x<=(set.1.length:Int))\/(z=.inr (.inr (.inr false))/\¬ ∀ x∈t.2,0<=x/\x<=(set.1.length:Int))) ?_ 0 ⟨by omega,by omega,fun j b f=>by omega⟩
 ·obtain ⟨z,n,q⟩:=key;rcases q with ⟨rfl,h⟩ | ⟨rfl,h⟩
  ·exact .inl ⟨n,h⟩
  ·exact .inr ⟨n,h⟩
 ·rintro i ⟨r,s,a⟩;obtain ⟨k,rfl⟩:=ba r;unfold zfg;by_cases d:(k:Int)<4
  ·have g:t.2[k]?=some (t.2[k]'(by omega)):=cq (by omega);have p:w64 ((k:Int)+1)=(k:Int)+1:=zt (by omega) (by omega);rw [if_pos (by simpa using d)];simp only [zr g,gp,p,zg6];by_cases e:0<=t.2[k]'(by omega)/\t.2[k]'(by omega)<=(set.1.length:Int)
   ·left;rw [if_neg (by simp [e])];refine ⟨_,rfl,⟨by omega,by omega,fun j b f c=>?_⟩,by omega⟩;by_cases m:j=k
    ·subst m;rw [g] at c;injection c with c;rw [←c];exact e
    ·exact a j b (by omega) c
   ·right;rw [if_pos (by simp only [e,decide_false];rfl)];exact ⟨_,rfl,.inr ⟨rfl,fun h=>e (h _ (fd g))⟩⟩
  ·right;rw [if_neg (by simpa using d)];refine ⟨_,rfl,.inl ⟨rfl,?_⟩⟩;intro b c;obtain ⟨j,f⟩:=cy c;exact a j b (by have:=zu f;omega) f
theorem zrZ (set:TSet) (hT:Tame set):∃ b,zkt set=some b/\(b=true↔SetOk set):=by
 unfold zkt zg1;by_cases G:(set.1.length:Int)>200
 ·rw [if_pos (by simp;omega),if_pos rfl];exact ⟨_,rfl,fun h=>(by cases h),fun h=>by have:=h.glues;omega⟩
 rw [if_neg (by simp;omega)];by_cases E:(set.2.length:Int)<1
 ·rw [if_pos (by simpa using E),if_pos rfl];exact ⟨_,rfl,fun h=>(by cases h),fun h=>by have:=h.tiles1;omega⟩
 rw [if_neg (by simpa using E)];by_cases F:(set.2.length:Int)>160
 ·rw [if_pos (by simpa using F)];exact ⟨_,rfl,fun h=>(by cases h),fun h=>by have:=h.tiles;omega⟩
 rw [if_neg (by simpa using F)];have key:=zkm (fun i=>(i:Int)) 0 set.1.length (GlueOk set) (zcx set) (by omega) ?_ ?_ ?_;rcases key with ⟨q,x⟩ | ⟨q,hnot⟩
 ·have q:iter (zcx set) 0=some (.inl ()):=q;rw [q];simp only [gp];unfold zly zlx;have key:=zkm (fun i=>(i:Int)) 0 set.2.length (TileOk set) (zcw set) (by omega) ?_ ?_ ?_;rcases key with ⟨c,s⟩ | ⟨c,hnot2⟩
  ·have c:iter (zcw set) 0=some (.inl ()):=c;rw [c];exact ⟨true,rfl,fun _=>⟨by omega,by omega,by omega,fun i hi=>x i (by omega) hi,fun i hi=>s i (by omega) hi⟩,fun _=>rfl⟩
  ·have c:iter (zcw set) 0=some (.inr false):=c;rw [c];exact ⟨false,rfl,fun h=>(by cases h),fun h=>absurd (fun i _ hi=>h.tile i hi) hnot2⟩
  ·intro i _ hi _ d;have n:set.2[i]?=some set.2[i]:=cq hi;obtain ⟨o1,o2,B,C⟩:=d _ n;obtain ⟨b,_,p,f⟩:=zhO set.2[i].1 (by have:=hT.tn _ (dt hi);omega);have u:b=true:=f.2 o1;subst u;have w:w64 ((i:Int)+1)=((i+1:Nat):Int):=by rw [zt (by omega) (by omega)];omega
   have m:zgn set set.2[i].1=some (i:Int):=by
    rcases zsl set hT.t set.2[i].1 with ⟨_,h⟩ | ⟨k,hk,hkl,hlow,g,hg',e⟩
    ·exact absurd rfl (h _ (dt hi))
    ·rw [hk];congr 2;rcases gi k i with h | h | h
     ·exact absurd e (B k g h hg')
     ·exact h
     ·exact absurd rfl (hlow i _ h n)
   unfold zcw zfi zjf;rw [if_pos (by simp [hi])];rcases zq3 set set.2[i] o2 with ⟨hs,_⟩ | ⟨_,hs⟩
   ·simp [zr n,p,o2,m,hs,w]
   ·exact absurd C hs
  ·intro i _ hi _ d;have n:set.2[i]?=some set.2[i]:=cq hi;obtain ⟨b,_,p,f⟩:=zhO set.2[i].1 (by have:=hT.tn _ (dt hi);omega);unfold zcw zfi zjf;rw [if_pos (by simp [hi])];simp only [zr n,gp,p];cases b with
   | false=>simp
   | true=>
    rw [if_neg (by simp)];have a:=f.1 rfl;by_cases A:set.2[i].2.length=4
    rotate_left
    ·rw [if_pos (by simp;omega)];rfl
    rw [if_neg (by simp [A])];rcases zsl set hT.t set.2[i].1 with ⟨_,h⟩ | ⟨k,hk,hkl,hlow,g,hg',e⟩
    ·exact absurd rfl (h _ (dt hi))
    ·simp only [hk,gp];by_cases v:k=i
     ·subst v;rw [if_neg (by simp)];rcases zq3 set set.2[k] A with ⟨_,hs⟩ | ⟨hs,_⟩
      ·refine absurd (fun t m=>?_) d;rw [n] at m;injection m with m;subst m
       exact ⟨a,A,fun j t' D r=>hlow j t' D r,hs⟩
      ·simp [hs]
     ·rw [if_pos (by simp;omega)]
  ·intro _;unfold zcw;rw [if_neg (by simp)]
 ·have q:iter (zcx set) 0=some (.inr false):=q;rw [q];exact ⟨false,rfl,fun h=>(by cases h),fun h=>absurd (fun i _ hi=>h.glue i hi) hnot⟩
 ·intro i _ hi _ d;have n:set.1[i]?=some set.1[i]:=cq hi;obtain ⟨o1,o2,B,C⟩:=d _ n;obtain ⟨b,_,p,f⟩:=zhO set.1[i].1 (by have:=hT.gn _ (dt hi);omega);have u:b=true:=f.2 o1;subst u;have w:w64 ((i:Int)+1)=((i+1:Nat):Int):=by rw [zt (by omega) (by omega)];omega
  have m:zgo set set.1[i].1=some ((i+1:Nat):Int):=by
   rcases zsm set hT.g set.1[i].1 with ⟨_,h⟩ | ⟨k,hk,hkl,hlow,g,hg',e⟩
   ·exact absurd rfl (h _ (dt hi))
   ·rw [hk];congr 1;have:k=i:=by
     rcases gi k i with h | h | h
     ·exact absurd e (C k g h hg')
     ·exact h
     ·exact absurd rfl (hlow i _ h n)
    omega
  unfold zcx zfh;rw [if_pos (by simp [hi])];simp [zr n,p,m,w,zg6,o2,B]
 ·intro i _ hi _ d;have n:set.1[i]?=some set.1[i]:=cq hi;obtain ⟨b,_,p,f⟩:=zhO set.1[i].1 (by have:=hT.gn _ (dt hi);omega);have w:w64 ((i:Int)+1)=((i+1:Nat):Int):=by rw [zt (by omega) (by omega)];omega
  unfold zcx zfh;rw [if_pos (by simp [hi])];simp only [zr n,gp,p,zg6];cases b with
  | false=>simp
  | true=>
   rw [if_neg (by simp)];have a:=f.1 rfl;by_cases y:1<=set.1[i].2/\set.1[i].2<=4
   rotate_left
   ·rw [if_pos (by simp only [y,decide_false];rfl)];rfl
   rw [if_neg (by simp [y])];rcases zsm set hT.g set.1[i].1 with ⟨_,h⟩ | ⟨k,hk,hkl,hlow,g,hg',e⟩
   ·exact absurd rfl (h _ (dt hi))
   ·simp only [hk,gp,w];have v:k≠i:=fun h=>by
     subst h;exact d fun t m=>by
      rw [n] at m;injection m with m;subst m
      exact ⟨a,y.1,y.2,fun j t' D r=>hlow j t' D r⟩
    rw [if_pos (by simp;omega)]
 ·intro _;unfold zcx;rw [if_neg (by simp)]
theorem zqi (set:TSet) (hT:Tame set):∃ b,zhc set=some b/\zkt set=some b/\(b=true↔SetOk set):=by
 obtain ⟨a,c,d⟩:=zsa set hT;obtain ⟨b,e,f⟩:=zrZ set hT;have:a=b:=by
  cases a<;>cases b<;>simp_all
 subst this;exact ⟨a,c,e,d⟩
end Go.Lf
