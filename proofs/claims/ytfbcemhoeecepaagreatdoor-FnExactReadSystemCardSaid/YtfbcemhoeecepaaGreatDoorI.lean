import Derived.Test.YtfbcemhoeecepaaGreatDoorB
set_option linter.all false
namespace Go.Lf
open Go
theorem zdM {α:Type} {l:List α} {i:Int} {x:α} (h0:0<=i) (h:l[i.toNat]?=some x):idx l i=some x:=by
 unfold idx;rw [if_pos h0];exact h
theorem zqD {α:Type} {l:List α} {i:Int} (h0:0<=i) (h1:i<l.length):idx l i=some (l[i.toNat]'(by omega)):=
 zdM h0 (by rw [List.getElem?_eq_getElem (by omega)])
theorem zae {α:Type} {l:List α} {i:Int} (h0:0<=i) (h1:i<l.length):∃ x,idx l i=some x/\l[i.toNat]?=some x:=
 ⟨_,zqD h0 h1,by rw [List.getElem?_eq_getElem (by omega)]⟩
theorem zaj {α:Type} {bytes:Nat} {l l2:List α} (h:(l.length+l2.length)*bytes<=140737488355328) (h2:l.length+l2.length<=9223372036854775807):app bytes l l2=some (l++l2):=by
 unfold app;rw [if_pos ⟨h,h2⟩]
theorem zpT {α:Type} {bytes:Nat} {n:Int} {z:α} (h0:0<=n) (h1:n<=1000000) (hb:bytes<=1000):mkl bytes n z=some (List.replicate n.toNat z):=by
 have hb':n*bytes<=1000000*1000:=Int.mul_le_mul h1 (by omega) (by omega) (by omega)
 unfold mkl
 rw [if_pos ⟨h0,by omega,by omega⟩]
theorem zp {n:Int} (h0 : -1000000000000<=n) (h1:n<=1000000000000):w64 n=n:=ztE ⟨by omega,by omega⟩
theorem zN {α:Type} {l:List α} {i:Nat} {x:α} (h:i<l.length):(l.set i x)[i]?=some x:=by simp [h]
theorem zG {α:Type} {l:List α} {i j:Nat} {x:α} (h:i≠j):(l.set i x)[j]?=l[j]?:=by simp [h]
theorem zy {α:Type} {l:List α} {i:Nat} {x:α} (h:l[i]?=some x):i<l.length:=(List.getElem?_eq_some_iff.1 h).1
theorem zhM {α:Type} (p:α->Bool):∀ {l:List α} {i:Nat} {x y:α},l[i]?=some x->p x=true->p y=false->(l.set i y).countP p+1=l.countP p
 | [],i,x,y,h,_,_=>by simp at h
 | a::l,0,x,y,h,hx,hy=>by
  simp at h;subst h
  simp [hx,hy]
 | a::l,i+1,x,y,h,hx,hy=>by
  simp at h
  have:=zhM p h hx hy
  simp only [List.set_cons_succ,List.countP_cons]
  omega
abbrev Bd:=Int×Int×Int
def ind (b:Bool):Int:=if b=true then 1 else 0
def zd2 (S:Int->Bool):List Bd->Int
 | []=>0
 | b::bs=>(if S b.1=S b.2.1 then 0 else b.2.2)+zd2 S bs
def zcd (S:Int->Bool):List Bd->List Int->Int
 | b::bs,f::fl=>f*(ind (S b.1) - ind (S b.2.1))+zcd S bs fl
 | _,_=>0
theorem zjS {S:Int->Bool}:∀ {bs:List Bd} {fl:List Int},fl.length=bs.length->(∀ (k:Nat) (b:Bd) (f:Int),bs[k]?=some b->fl[k]?=some f -> -b.2.2<=f/\f<=b.2.2)->zcd S bs fl<=zd2 S bs
 | [],fl,_,_=>by simp [zcd,zd2]
 | b::bs,[],h,_=>by simp at h
 | b::bs,f::fl,h,hf=>by
  have h1:=hf 0 b f rfl rfl
  have h2:=zjS (S:=S) (bs:=bs) (fl:=fl) (by simpa using h) (fun k b' f' hb hf'=>hf (k+1) b' f' hb hf')
  simp only [zcd,zd2]
  cases hA:S b.1<;>cases hB:S b.2.1<;>simp [ind]<;>omega
theorem zmh {S:Int->Bool}:∀ {bs:List Bd} {fl:List Int},fl.length=bs.length->
  (∀ (k:Nat) (b:Bd) (f:Int),bs[k]?=some b->fl[k]?=some f->(S b.1=true->S b.2.1=false->f=b.2.2)/\(S b.1=false->S b.2.1=true->f = -b.2.2))->zcd S bs fl=zd2 S bs
 | [],fl,_,_=>by simp [zcd,zd2]
 | b::bs,[],h,_=>by simp at h
 | b::bs,f::fl,h,hf=>by
  have h1:=hf 0 b f rfl rfl
  have h2:=zmh (S:=S) (bs:=bs) (fl:=fl) (by simpa using h) (fun k b' f' hb hf'=>hf (k+1) b' f' hb hf')
  simp only [zcd,zd2,h2]
  cases hA:S b.1<;>cases hB:S b.2.1<;>simp [ind]
  ·have:=h1.2 hA hB;omega
  ·have:=h1.1 hA hB;omega
theorem znh {S:Int->Bool}:∀ {bs:List Bd} {fl:List Int} {k:Nat} {b:Bd} {f f':Int},bs[k]?=some b->fl[k]?=some f->
  zcd S bs (fl.set k f')=zcd S bs fl+(f' - f)*(ind (S b.1) - ind (S b.2.1))
 | [],_,k,b,f,f',h,_=>by simp at h
 | _::_,[],k,b,f,f',_,h=>by simp at h
 | b0::bs,f0::fl,0,b,f,f',h,h'=>by
  simp at h h';subst h;subst h'
  simp only [List.set_cons_zero,zcd]
  rw [Int.sub_mul];omega
 | b0::bs,f0::fl,k+1,b,f,f',h,h'=>by
  simp at h h'
  simp only [List.set_cons_succ,zcd]
  rw [znh h h'];omega
theorem znW {S:Int->Bool}:∀ {bs:List Bd} {m:Nat},zcd S bs (List.replicate m 0)=0
 | [],m=>by cases m<;>simp [zcd]
 | b::bs,0=>by simp [zcd]
 | b::bs,m+1=>by rw [List.replicate_succ];simp only [zcd];rw [znW];simp
theorem zqi {S:Int->Bool}:∀ {bs:List Bd},(∀ b∈bs,0<=b.2.2/\b.2.2<=1000)->zd2 S bs<=1000*bs.length
 | [],_=>by simp [zd2]
 | b::bs,h=>by
  have h1:=h b (by simp)
  have h2:=zqi (S:=S) (bs:=bs) (fun c hc=>h c (by simp [hc]))
  simp only [zd2,List.length_cons];split<;>omega
structure Net (n:Int) (bs:List Bd) (at_:List (List Int)) (fl:List Int):Prop where
 n0:0<=n
 n1:n<=100000
 bn:bs.length<=100000
 wb:∀ (k:Nat) (b:Bd),bs[k]?=some b->0<=b.1/\b.1<n/\0<=b.2.1/\b.2.1<n/\b.1≠b.2.1/\0<=b.2.2/\b.2.2<=1000
 alen:at_.length=n.toNat
 amem:∀ (v:Nat) (l:List Int),at_[v]?=some l->l.length<=100000/\∀ k:Int,k∈l↔(0<=k/\∃ b:Bd,bs[k.toNat]?=some b/\(b.1=v\/b.2.1=v))
 flen:fl.length=bs.length
 fok:∀ (k:Nat) (b:Bd) (f:Int),bs[k]?=some b->fl[k]?=some f -> -b.2.2<=f/\f<=b.2.2
def res (b:Bd) (f v:Int):Int:=if b.1=v then b.2.2 - f else b.2.2+f
def oth (b:Bd) (v:Int):Int:=if b.1=v then b.2.1 else b.1
section
variable {n:Int} {bs:List Bd} {at_:List (List Int)} {fl:List Int}
theorem Net.bond (h:Net n bs at_ fl) {k:Int} {b:Bd} (h0:0<=k) (hb:bs[k.toNat]?=some b):∃ f,fl[k.toNat]?=some f/\idx bs k=some b/\idx fl k=some f /\ -b.2.2<=f/\f<=b.2.2:=by
 have hl:=zy hb
 have hl':k.toNat<fl.length:=by rw [h.flen];exact hl
 have hf:fl[k.toNat]?=some fl[k.toNat]:=List.getElem?_eq_getElem hl'
 exact ⟨_,hf,zdM h0 hb,zdM h0 hf,h.fok _ _ _ hb hf⟩
theorem zqw (h:Net n bs at_ fl) {k v:Int} {b:Bd} {f:Int} (h0:0<=k) (hb:bs[k.toNat]?=some b) (hf:fl[k.toNat]?=some f) :
  zcT (n,bs,at_,fl) v k=some (res b f v,oth b v,(n,bs,at_,fl)):=by
 obtain ⟨f',hf',hi,hfi,h1,h2⟩:=h.bond h0 hb
 rw [hf'] at hf
 obtain rfl:=Option.some.inj hf
 have hw:=h.wb _ _ hb
 unfold zcT res oth
 simp only [hi,Option.bind_some,hfi]
 by_cases he:b.1=v
 ·simp only [he,decide_true,if_true]
  rw [zp (by omega) (by omega)]
 ·simp only [he,decide_false,if_false,Bool.false_eq_true]
  rw [zp (by omega) (by omega)]
structure Dist (n:Int) (bs:List Bd) (fl:List Int) (y:Int) (L:List Int):Prop where
 len:L.length=n.toNat
 goal:L[y.toNat]?=some 0
 low:∀ (v:Nat) (d:Int),L[v]?=some d -> -1<=d/\d<=n
 closed:∀ (k:Nat) (b:Bd) (f:Int) (t:Nat) (d e:Int),bs[k]?=some b->fl[k]?=some f->(b.1=t\/b.2.1=t)->L[t]?=some d->0<=d->0<res b f (oth b t)->L[(oth b t).toNat]?=some e->0<=e
 parent:∀ (v:Nat) (d:Int),L[v]?=some d->0<=d->(v:Int)≠y->∃ (k:Nat) (b:Bd) (f:Int),bs[k]?=some b/\fl[k]?=some f/\(b.1=v\/b.2.1=v)/\0<res b f v/\L[(oth b v).toNat]?=some (d - 1)/\0<=d - 1
end
theorem zo3 {j:Nat} {i:Int} (h0:0<=i) (h1:j<(i+1).toNat) (h2:¬j<i.toNat):j=i.toNat:=by omega
def isNeg (x:Int):Bool:=decide (x<0)
structure BInv (n:Int) (bs:List Bd) (fl:List Int) (y:Int) (L q:List Int):Prop where
 len:L.length=n.toNat
 goal:L[y.toNat]?=some 0
 low:∀ (v:Nat) (d:Int),L[v]?=some d -> -1<=d/\d<q.length
 qlab:∀ v∈q,0<=v/\∃ d,L[v.toNat]?=some d/\0<=d
 labq:∀ (v:Nat) (d:Int),L[v]?=some d->0<=d->(v:Int)∈q
 count:q.length+L.countP isNeg=n.toNat
 parent:∀ (v:Nat) (d:Int),L[v]?=some d->0<=d->(v:Int)≠y->∃ (k:Nat) (b:Bd) (f:Int),bs[k]?=some b/\fl[k]?=some f/\(b.1=v\/b.2.1=v)/\0<res b f v/\L[(oth b v).toNat]?=some (d - 1)/\0<=d - 1
def BClosed (bs:List Bd) (fl L:List Int) (t:Int) (k:Int):Prop:=
 ∀ (b:Bd) (f:Int),bs[k.toNat]?=some b->fl[k.toNat]?=some f->0<res b f (oth b t)->∃ e,L[(oth b t).toNat]?=some e/\0<=e
theorem BClosed.mono {bs:List Bd} {fl L L':List Int} {t k:Int} (h:BClosed bs fl L t k) (hm:∀ (v:Nat) (d:Int),L[v]?=some d->0<=d->L'[v]?=some d):BClosed bs fl L' t k:=by
 intro b f hb hf hr
 obtain ⟨e,h1,h2⟩:=h b f hb hf hr
 exact ⟨e,hm _ _ h1 h2,h2⟩
section
variable {n:Int} {bs:List Bd} {at_:List (List Int)} {fl:List Int} {y:Int}
theorem Net.ends (h:Net n bs at_ fl) {k:Nat} {b:Bd} (hb:bs[k]?=some b) (v:Int):0<=oth b v/\oth b v<n:=by
 have:=h.wb _ _ hb
 unfold oth;split<;>omega
theorem zsL (h:Net n bs at_ fl) {k:Nat} {b:Bd} (hb:bs[k]?=some b) {v:Int} (hv:b.1=v\/b.2.1=v):w64 (w64 (b.1+b.2.1) - v)=oth b v:=by
 have hw:=h.wb _ _ hb
 have hn:=h.n1
 have e:b.1+b.2.1 - v=oth b v:=by
  unfold oth
  rcases hv with rfl | rfl
  ·rw [if_pos rfl];omega
  ·rw [if_neg (by omega)];omega
 rw [zp (n:=b.1+b.2.1) (by omega) (by omega),zp (by omega) (by omega),e]
theorem zrv (h:Net n bs at_ fl) {L q:List Int} (hB:BInv n bs fl y L q) {k:Int} {b:Bd} {f t d:Int} (hb:bs[k.toNat]?=some b) (hf:fl[k.toNat]?=some f)
  (ht0:0<=t) (ht:b.1=t\/b.2.1=t) (hd:L[t.toNat]?=some d) (hd0:0<=d) (hneg:∃ e,L[(oth b t).toNat]?=some e/\e<0) (hr:0<res b f (oth b t)) :
  BInv n bs fl y (L.set (oth b t).toNat (d+1)) (q++[oth b t])/\(∀ (v:Nat) (d':Int),L[v]?=some d'->0<=d'->(L.set (oth b t).toNat (d+1))[v]?=some d'):=by
 obtain ⟨e,he,hel⟩:=hneg
 have hends:=h.ends hb t
 have hlt:=zy he
 have hkeep:∀ (v:Nat) (d':Int),L[v]?=some d'->0<=d'->(L.set (oth b t).toNat (d+1))[v]?=some d':=by
  intro v d' hv hd'
  rw [zG]
  ·exact hv
  ·intro e';rw [e'] at he;rw [he] at hv;injection hv;omega
 refine ⟨⟨by rw [List.length_set];exact hB.len,hkeep _ _ hB.goal (by omega),?_,?_,?_,?_,?_⟩,hkeep⟩
 ·intro v d' hv
  by_cases hvo:(oth b t).toNat=v
  ·subst hvo
   rw [zN hlt] at hv
   have:=(hB.low _ _ hd).2
   injection hv with hv
   rw [List.length_append];simp;omega
  ·rw [zG hvo] at hv
   have:=hB.low _ _ hv
   rw [List.length_append];simp;omega
 ·intro v hv
  rcases List.mem_append.1 hv with hv | hv
  ·obtain ⟨h0,d',h1,h2⟩:=hB.qlab v hv
   exact ⟨h0,d',hkeep _ _ h1 h2,h2⟩
  ·have:v=oth b t:=by simpa using hv
   subst this
   exact ⟨hends.1,d+1,zN hlt,by omega⟩
 ·intro v d' hv hd'
  by_cases hvo:(oth b t).toNat=v
  ·exact List.mem_append.2 (.inr (by simp;omega))
  ·rw [zG hvo] at hv
   exact List.mem_append.2 (.inl (hB.labq v d' hv hd'))
 ·have:=zhM isNeg he (by simp [isNeg,hel]) (by simp [isNeg];omega:isNeg (d+1)=false)
  have:=hB.count
  rw [List.length_append];simp;omega
 ·intro v d' hv hd' hvy
  by_cases hvo:(oth b t).toNat=v
  ·have hvi:(v:Int)=oth b t:=by omega
   subst hvo
   rw [zN hlt] at hv
   injection hv with hv
   subst hv
   have hw:=h.wb _ _ hb
   have hoo:oth b (oth b t)=t:=by
    unfold oth
    rcases ht with rfl | rfl
    ·rw [if_pos rfl,if_neg (by omega)]
    ·by_cases h1:b.1=b.2.1
     ·omega
     ·rw [if_neg h1,if_pos rfl]
   refine ⟨k.toNat,b,f,hb,hf,?_,by rw [hvi];exact hr,?_,by omega⟩
   ·rw [hvi];unfold oth
    split
    ·exact .inr rfl
    ·exact .inl rfl
   ·rw [hvi,hoo]
    rw [hkeep _ _ hd hd0];congr 1;omega
  ·rw [zG hvo] at hv
   obtain ⟨k',b',f',h1,h2,h3,h4,h5,h6⟩:=hB.parent v d' hv hd' hvy
   exact ⟨k',b',f',h1,h2,h3,h4,hkeep _ _ h5 h6,h6⟩
theorem zoJ (h:Net n bs at_ fl) {t:Int} {al:List Int} (ht0:0<=t) (hal:at_[t.toNat]?=some al) (L0 q0:List Int) (hB0:BInv n bs fl y L0 q0) (htq:∃ d,L0[t.toNat]?=some d/\0<=d) :
  ∃ L q,iter (zbc (n,bs,at_,fl) t) (L0,q0,0,fl)=some (L,q,fl)/\BInv n bs fl y L q/\(∀ (v:Nat) (d:Int),L0[v]?=some d->0<=d->L[v]?=some d)/\
   (∃ r,q=q0++r)/\∀ k∈al,BClosed bs fl L t k:=by
 obtain ⟨hal1,hal2⟩:=h.amem _ _ hal
 have hti:((t.toNat:Nat):Int)=t:=by omega
 have key:=zw (F:=zbc (n,bs,at_,fl) t) (fun s=>∃ L q i,s=(L,q,i,fl)/\0<=i/\i<=al.length/\BInv n bs fl y L q/\(∀ (v:Nat) (d:Int),L0[v]?=some d->0<=d->L[v]?=some d)/\(∃ r,q=q0++r)/\
   ∀ j k,j<i.toNat->al[j]?=some k->BClosed bs fl L t k) (fun s=>(al.length - s.2.2.1).toNat)
  (fun x=>∃ L q,x=(L,q,fl)/\BInv n bs fl y L q/\(∀ (v:Nat) (d:Int),L0[v]?=some d->0<=d->L[v]?=some d)/\(∃ r,q=q0++r)/\∀ k∈al,BClosed bs fl L t k) ?_
  (L0,q0,0,fl) ⟨L0,q0,0,rfl,by omega,by omega,hB0,fun _ _ h _=>h,⟨[],by simp⟩,fun j k hj=>by simp at hj⟩
 ·obtain ⟨x,hx,L,q,rfl,h1,h2,h3,h4⟩:=key
  exact ⟨L,q,hx,h1,h2,h3,h4⟩
 ·rintro s ⟨L,q,i,rfl,hi0,hi1,hB,hmon,⟨r,hr⟩,hcl⟩
  unfold zbc
  simp only [zdM ht0 hal,Option.bind_some]
  by_cases hlt:i<al.length
  ·left
   rw [if_pos (by simp [hlt])]
   obtain ⟨k,hk,hk'⟩:=zae hi0 hlt
   have hkm:k∈al:=List.mem_of_getElem? hk'
   obtain ⟨hk0,b,hb,hbt⟩:=(hal2 k).1 hkm
   rw [hti] at hbt
   obtain ⟨f,hf,hib,hif,hf1,hf2⟩:=h.bond hk0 hb
   have hso:=zsL h hb hbt
   have hends:=h.ends hb t
   obtain ⟨e,hie,hie'⟩:=zae (l:=L) hends.1 (by rw [hB.len];omega)
   simp only [hk,hib,Option.bind_some,hso,zqw h hk0 hb hf,hie]
   have hnext:w64 (i+1)=i+1:=zp (by omega) (by omega)
   have nothing:(∃ e',L[(oth b t).toNat]?=some e'/\(0<=e'\/¬0<res b f (oth b t)))->
     (∃ s',zaG t (L,q,i,fl) b b (res b f (oth b t),oth b (oth b t),(n,bs,at_,fl)) false=some (.inl s')/\
      (∃ L q i,s'=(L,q,i,fl)/\0<=i/\i<=al.length/\BInv n bs fl y L q/\(∀ (v:Nat) (d:Int),L0[v]?=some d->0<=d->L[v]?=some d)/\(∃ r,q=q0++r)/\∀ j k,j<i.toNat->al[j]?=some k->BClosed bs fl L t k)/\
      (al.length - s'.2.2.1).toNat<(al.length - i).toNat):=by
    rintro ⟨e',he',hor⟩
    refine ⟨_,by unfold zaG zbf;rfl,⟨L,q,i+1,by rw [hnext],by omega,by omega,hB,hmon,⟨r,hr⟩,?_⟩,?_⟩
    ·intro j k2 hj hk2
     by_cases hji:j<i.toNat
     ·exact hcl j k2 hji hk2
     ·have:j=i.toNat:=by omega
      subst this
      rw [hk'] at hk2
      obtain rfl:=Option.some.inj hk2
      intro b2 f2 hb2 hf2 hr2
      rw [hb] at hb2;obtain rfl:=Option.some.inj hb2
      rw [hf] at hf2;obtain rfl:=Option.some.inj hf2
      exact ⟨e',he',hor.resolve_right (fun hn=>hn hr2)⟩
    ·simp only [hnext];omega
   by_cases hneg:e<0
   ·rw [if_pos (by simp [hneg])]
    by_cases hres:res b f (oth b t)>0
    ·obtain ⟨d,hd,hd0⟩:=htq
     have hdL:=hmon _ _ hd hd0
     have hdb:=hB.low _ _ hdL
     have hqn:(q.length:Int)<=n:=by have:=hB.count;have:=h.n0;omega
     obtain ⟨hB',hkeep⟩:=zrv h hB hb hf ht0 hbt hdL hd0 ⟨e,hie',hneg⟩ hres
     have hn1:=h.n1
     refine ⟨(L.set (oth b t).toNat (d+1),q++[oth b t],i+1,fl),?_,⟨_,_,i+1,rfl,by omega,by omega,hB',?_,⟨r++[oth b t],by rw [hr,List.append_assoc]⟩,?_⟩,?_⟩
     ·unfold zaG zbf
      rw [if_pos (by simp [hres])]
      simp only [zdM ht0 hdL,Option.bind_some,hso,hie]
      rw [zp (by omega) (by omega),zaj (by simp;omega) (by simp;omega)]
      simp only [Option.bind_some,hnext]
     ·intro v d' hv hd';exact hkeep _ _ (hmon _ _ hv hd') hd'
     ·intro j k2 hj hk2
      by_cases hji:j<i.toNat
      ·exact (hcl j k2 hji hk2).mono hkeep
      ·have:j=i.toNat:=by omega
       subst this
       rw [hk'] at hk2
       obtain rfl:=Option.some.inj hk2
       intro b2 f2 hb2 hf2 hr2
       rw [hb] at hb2;obtain rfl:=Option.some.inj hb2
       exact ⟨d+1,zN (zy hie'),by omega⟩
     ·simp only [];omega
    ·have:=nothing ⟨e,hie',.inr hres⟩
     simpa [hres] using this
   ·rw [if_neg (by simp [hneg])]
    exact nothing ⟨e,hie',.inl (by omega)⟩
  ·right
   rw [if_neg (by simp [hlt])]
   refine ⟨_,rfl,L,q,rfl,hB,hmon,⟨r,hr⟩,fun k hk=>?_⟩
   obtain ⟨j,hj,hj'⟩:=List.mem_iff_getElem.1 hk
   exact hcl j k (by omega) (by rw [List.getElem?_eq_getElem hj,hj'])
theorem zoI (h:Net n bs at_ fl) (L0 q0:List Int) (hB0:BInv n bs fl y L0 q0) :
  ∃ L,iter (zbd (n,bs,at_,fl)) (L0,q0,0,fl)=some (L,fl)/\Dist n bs fl y L:=by
 have key:=zw (F:=zbd (n,bs,at_,fl)) (fun s=>∃ L q i,s=(L,q,i,fl)/\0<=i/\i<=q.length/\BInv n bs fl y L q/\
   ∀ (j:Nat) (t:Int),j<i.toNat->q[j]?=some t->∀ (k:Nat) (b:Bd),bs[k]?=some b->(b.1=t\/b.2.1=t)->BClosed bs fl L t k) (fun s=>(n - s.2.2.1).toNat)
  (fun x=>∃ L,x=(L,fl)/\Dist n bs fl y L) ?_ (L0,q0,0,fl) ⟨L0,q0,0,rfl,by omega,by omega,hB0,fun j t hj=>by simp at hj⟩
 ·obtain ⟨x,hx,L,rfl,h1⟩:=key
  exact ⟨L,hx,h1⟩
 ·rintro s ⟨L,q,i,rfl,hi0,hi1,hB,hcl⟩
  have hqn:(q.length:Int)<=n:=by have:=hB.count;have:=h.n0;omega
  have hn1:=h.n1
  unfold zbd
  by_cases hlt:i<q.length
  ·left
   rw [if_pos (by simp [hlt])]
   obtain ⟨t,ht,ht'⟩:=zae hi0 hlt
   have htm:t∈q:=List.mem_of_getElem? ht'
   obtain ⟨ht0,d,hd,hd0⟩:=hB.qlab t htm
   have htl:t.toNat<at_.length:=by rw [h.alen,←hB.len];exact zy hd
   have hal:at_[t.toNat]?=some at_[t.toNat]:=List.getElem?_eq_getElem htl
   obtain ⟨L',q',hrun,hB',hmon,⟨r,hr⟩,hc⟩:=zoJ h ht0 hal L q hB ⟨d,hd,hd0⟩
   simp only [ht,Option.bind_some,hrun]
   have hnext:w64 (i+1)=i+1:=zp (by omega) (by omega)
   refine ⟨_,rfl,⟨L',q',i+1,by rw [hnext],by omega,?_,hB',?_⟩,?_⟩
   ·rw [hr,List.length_append];omega
   ·intro j t2 hj ht2 k b hb hbt
    by_cases hji:j<i.toNat
    ·have:q[j]?=some t2:=by
      rw [hr,List.getElem?_append_left (by omega)] at ht2;exact ht2
     exact (hcl j t2 hji this k b hb hbt).mono hmon
    ·obtain rfl:=zo3 hi0 hj hji
     rw [hr,List.getElem?_append_left (by omega),ht'] at ht2
     obtain rfl:=Option.some.inj ht2
     have hti:((t.toNat:Nat):Int)=t:=Int.toNat_of_nonneg ht0
     have:=(h.amem _ _ hal).2 k
     exact hc k (this.2 ⟨Int.natCast_nonneg k,b,by simpa using hb,by rw [hti];exact hbt⟩)
   ·simp only [hnext];omega
  ·right
   rw [if_neg (by simp [hlt])]
   refine ⟨_,rfl,L,rfl,hB.len,hB.goal,?_,?_,hB.parent⟩
   ·intro v d hv
    have:=hB.low _ _ hv;omega
   ·intro k b f t d e hb hf hbt hd hd0 hr he
    have htq:=hB.labq t d hd hd0
    obtain ⟨j,hj,hj'⟩:=List.mem_iff_getElem.1 htq
    have:=hcl j t (by omega) (by rw [List.getElem?_eq_getElem hj,hj']) k b hb hbt b f (by simpa using hb) (by simpa using hf) hr
    obtain ⟨e',he',hp⟩:=this
    rw [he] at he'
    injection he' with he'
    omega
theorem zoK (h:Net n bs at_ fl):iter (zbe (n,bs,at_,fl)) ([],0)=some (List.replicate n.toNat (-1)):=by
 have key:=zw (F:=zbe (n,bs,at_,fl)) (fun s=>∃ i:Nat,s=(List.replicate i (-1),(i:Int))/\i<=n.toNat) (fun s=>(n - s.2).toNat)
  (fun x=>x=List.replicate n.toNat (-1)) ?_ ([],0) ⟨0,rfl,by omega⟩
 ·obtain ⟨x,hx,rfl⟩:=key;exact hx
 ·rintro s ⟨i,rfl,hi⟩
  have hn1:=h.n1
  unfold zbe
  by_cases hlt:(i:Int)<n
  ·left
   rw [if_pos (by simp [hlt]),zaj (by simp;omega) (by simp;omega)]
   refine ⟨_,rfl,⟨i+1,?_,by omega⟩,?_⟩
   ·rw [zp (by omega) (by omega),List.replicate_succ'];rfl
   ·simp only []
    rw [zp (by omega) (by omega)];omega
  ·right
   rw [if_neg (by simp [hlt])]
   have hin:i=n.toNat:=by have:=h.n0;omega
   subst hin
   exact ⟨_,rfl,rfl⟩
theorem zmM (h:Net n bs at_ fl) (hy0:0<=y) (hy:y<n):∃ L,zco (n,bs,at_,fl) y=some (L,n,bs,at_,fl)/\Dist n bs fl y L:=by
 have hlen:(List.replicate n.toNat (-1:Int)).length=n.toNat:=by simp
 obtain ⟨z,hz,hz'⟩:=zae (l:=List.replicate n.toNat (-1:Int)) hy0 (by rw [hlen];omega)
 have hzz:z = -1:=by
  rw [List.getElem?_replicate] at hz'
  split at hz'
  ·injection hz' with hz';exact hz'.symm
  ·cases hz'
 have hyl:=zy hz'
 have hB:BInv n bs fl y ((List.replicate n.toNat (-1:Int)).set y.toNat 0) [y]:=by
  refine ⟨by simp,zN hyl,?_,?_,?_,?_,?_⟩
  ·intro v d hv
   by_cases e:y.toNat=v
   ·subst e;rw [zN hyl] at hv;injection hv with hv;subst hv;simp
   ·rw [zG e,List.getElem?_replicate] at hv
    split at hv
    ·injection hv with hv;subst hv;simp
    ·cases hv
  ·intro v hv
   have:v=y:=by simpa using hv
   subst this
   exact ⟨hy0,0,zN hyl,by omega⟩
  ·intro v d hv hd
   by_cases e:y.toNat=v
   ·simp;omega
   ·rw [zG e,List.getElem?_replicate] at hv
    split at hv
    ·injection hv with hv;omega
    ·cases hv
  ·have:=zhM isNeg (y:=(0:Int)) hz' (by rw [hzz];rfl) rfl
   have hc:(List.replicate n.toNat (-1:Int)).countP isNeg=n.toNat:=by
    rw [List.countP_replicate];simp [isNeg]
   rw [hc] at this
   simp;omega
  ·intro v d hv hd hvy
   by_cases e:y.toNat=v
   ·omega
   ·rw [zG e,List.getElem?_replicate] at hv
    split at hv
    ·injection hv with hv;omega
    ·cases hv
 obtain ⟨L,hrun,hD⟩:=zoI h _ _ hB
 refine ⟨L,?_,hD⟩
 unfold zco zd5 zd4
 rw [zoK h]
 simp only [Option.bind_some,hz,hrun]
end
section
variable {n:Int} {bs:List Bd} {at_:List (List Int)} {fl:List Int} {x y:Int}
theorem zqv (h:Net n bs at_ fl) {k:Nat} {b:Bd} {f f':Int} (hb:bs[k]?=some b) (hf:fl[k]?=some f) (h1 : -b.2.2<=f') (h2:f'<=b.2.2):Net n bs at_ (fl.set k f'):=by
 refine ⟨h.n0,h.n1,h.bn,h.wb,h.alen,h.amem,by rw [List.length_set];exact h.flen,fun j c g hc hg=>?_⟩
 by_cases hj:k=j
 ·subst hj
  rw [zN (zy hf)] at hg
  rw [hb] at hc
  obtain rfl:=Option.some.inj hc
  obtain rfl:=Option.some.inj hg
  exact ⟨h1,h2⟩
 ·rw [zG hj] at hg
  exact h.fok _ _ _ hc hg
theorem zsV (h:Net n bs at_ fl) {v k:Int} {b:Bd} {f:Int} (h0:0<=k) (hb:bs[k.toNat]?=some b) (hf:fl[k.toNat]?=some f) (hv:b.1=v\/b.2.1=v) (hr:0<res b f v) :
  ∃ f',zer (n,bs,at_,fl) v k=some (n,bs,at_,fl.set k.toNat f')/\Net n bs at_ (fl.set k.toNat f')/\∀ S,zcd S bs (fl.set k.toNat f')=zcd S bs fl+(ind (S v) - ind (S (oth b v))):=by
 obtain ⟨f2,hf2,hi,hfi,h1,h2⟩:=h.bond h0 hb
 rw [hf2] at hf
 obtain rfl:=Option.some.inj hf
 have hw:=h.wb _ _ hb
 unfold zer
 simp only [hi,Option.bind_some,hfi]
 unfold res at hr
 by_cases he:b.1=v
 ·rw [if_pos he] at hr
  simp only [he,decide_true,if_true]
  rw [zp (by omega) (by omega)]
  refine ⟨f2+1,rfl,zqv h hb hf2 (by omega) (by omega),fun S=>?_⟩
  rw [znh hb hf2]
  unfold oth
  rw [if_pos he,he]
  have:f2+1 - f2=1:=by omega
  rw [this,Int.one_mul]
 ·rw [if_neg he] at hr
  simp only [he,decide_false,if_false,Bool.false_eq_true]
  rw [zp (by omega) (by omega)]
  refine ⟨f2 - 1,rfl,zqv h hb hf2 (by omega) (by omega),fun S=>?_⟩
  rw [znh hb hf2]
  unfold oth
  rw [if_neg he,←hv.resolve_left he]
  have:f2 - 1 - f2 = -1:=by omega
  rw [this];omega
theorem zp7 (h:Net n bs at_ fl) {L:List Int} {x23:(List Int)×(Int×(List Bd)×(List (List Int))×(List Int))} (hx:x23.1=L) {fl0:List Int} (hD:Dist n bs fl0 y L) {t d:Int} (ht0:0<=t) (hd:L[t.toNat]?=some d) (hd0:0<d)
  (hsame:∀ (k:Nat) (b:Bd),bs[k]?=some b->(b.1=t\/b.2.1=t)->L[(oth b t).toNat]?=some (d - 1)->fl[k]?=fl0[k]?) (hty:t≠y) :
  ∃ nx by_ b f,iter (zbD (n,bs,at_,fl0) x23 (t,fl)) ((-1),0,0,fl)=some (nx,by_,fl)/\0<=by_/\bs[by_.toNat]?=some b/\fl[by_.toNat]?=some f/\
   (b.1=t\/b.2.1=t)/\0<res b f t/\nx=oth b t/\L[nx.toNat]?=some (d - 1):=by
 have hlt:=zy hd
 have htl:t.toNat<at_.length:=by rw [h.alen,←hD.len];exact hlt
 have hal:at_[t.toNat]?=some at_[t.toNat]:=List.getElem?_eq_getElem htl
 generalize at_[t.toNat]=al at hal
 obtain ⟨hal1,hal2⟩:=h.amem _ _ hal
 have hti:((t.toNat:Nat):Int)=t:=Int.toNat_of_nonneg ht0
 rw [hti] at hal2
 obtain ⟨ks,bw,fw,hw1,hw2,hw3,hw4,hw5,hw6⟩:=hD.parent t.toNat d hd (by omega) (by rw [hti];exact hty)
 rw [hti] at hw3 hw4 hw5
 have hdn:=hD.low _ _ hd
 have hn1:=h.n1
 let Ok:Int->Int->Prop:=fun nx by_=>0<=by_/\∃ b f,bs[by_.toNat]?=some b/\fl[by_.toNat]?=some f/\(b.1=t\/b.2.1=t)/\0<res b f t/\nx=oth b t/\L[nx.toNat]?=some (d - 1)
 have key:=zw (F:=zbD (n,bs,at_,fl0) x23 (t,fl)) (fun s=>∃ nx by_ i,s=(nx,by_,i,fl)/\0<=i/\i<=al.length/\(nx<0\/0<=nx/\Ok nx by_)/\(∀ j:Nat,j<i.toNat->al[j]?=some (ks:Int)->0<=nx))
  (fun s=>(al.length - s.2.2.1).toNat) (fun z=>∃ nx by_,z=(nx,by_,fl)/\Ok nx by_) ?_ ((-1),0,0,fl) ⟨-1,0,0,rfl,by omega,by omega,.inl (by omega),fun j hj=>by simp at hj⟩
 ·obtain ⟨z,hz,nx,by_,rfl,h0,b,f,h1,h2,h3,h4,h5,h6⟩:=key
  exact ⟨nx,by_,b,f,hz,h0,h1,h2,h3,h4,h5,h6⟩
 ·rintro s ⟨nx,by_,i,rfl,hi0,hi1,hch,hwit⟩
  unfold zbD
  simp only [zdM ht0 hal,Option.bind_some]
  by_cases hlt:i<al.length
  ·left
   rw [if_pos (by simp [hlt])]
   obtain ⟨k,hk,hk'⟩:=zae hi0 hlt
   obtain ⟨hk0,b,hb,hbt⟩:=(hal2 k).1 (List.mem_of_getElem? hk')
   obtain ⟨f,hf,hib,hif,hf1,hf2⟩:=h.bond hk0 hb
   have hends:=h.ends hb t
   obtain ⟨e,hie,hie'⟩:=zae (l:=L) hends.1 (by rw [hD.len];omega)
   simp only [hk,Option.bind_some,zqw h hk0 hb hf]
   have hnext:w64 (i+1)=i+1:=zp (by omega) (by omega)
   have stay:(k=ks->¬(0<res b f t/\e=d - 1)  \/ 0<=nx)->∃ s',zW (n,bs,at_,fl0) (t,fl) (nx,by_,i,fl) al k (res b f t,oth b t,(n,bs,at_,fl)) false=some (.inl s')/\
     (∃ nx by_ i,s'=(nx,by_,i,fl)/\0<=i/\i<=al.length/\(nx<0\/0<=nx/\Ok nx by_)/\(∀ j:Nat,j<i.toNat->al[j]?=some (ks:Int)->0<=nx))/\(al.length - s'.2.2.1).toNat<(al.length - i).toNat:=by
    intro hor
    refine ⟨_,by unfold zW zbF;rfl,⟨nx,by_,i+1,by rw [hnext],by omega,by omega,hch,?_⟩,by simp only [hnext];omega⟩
    intro j hj hjk
    by_cases hji:j<i.toNat
    ·exact hwit j hji hjk
    ·obtain rfl:=zo3 hi0 hj hji
     rw [hk'] at hjk
     have hkks:=Option.some.inj hjk
     refine (hor hkks).resolve_left (fun hn=>hn ?_)
     subst hkks
     simp only [Int.toNat_natCast] at hb hf
     rw [hw1] at hb
     obtain rfl:=Option.some.inj hb
     have:fl[ks]?=fl0[ks]?:=hsame ks _ hw1 hw3 hw5
     rw [this,hw2] at hf
     obtain rfl:=Option.some.inj hf
     rw [hw5] at hie'
     exact ⟨hw4,(Option.some.inj hie').symm⟩
   by_cases hres:res b f t>0
   ·rw [if_pos (by simp [hres])]
    simp only [hie,zdM ht0 hd,hx,Option.bind_some]
    rw [zp (by omega) (by omega)]
    by_cases hed:e=d - 1
    ·rw [if_pos (by simp [hed])]
     have take:∃ s',zW (n,bs,at_,fl0) (t,fl) (nx,by_,i,fl) al k (res b f t,oth b t,(n,bs,at_,fl)) true=some (.inl s')/\
       (∃ nx by_ i,s'=(nx,by_,i,fl)/\0<=i/\i<=al.length/\(nx<0\/0<=nx/\Ok nx by_)/\(∀ j:Nat,j<i.toNat->al[j]?=some (ks:Int)->0<=nx))/\(al.length - s'.2.2.1).toNat<(al.length - i).toNat:=by
      refine ⟨(oth b t,k,i+1,fl),?_,⟨oth b t,k,i+1,rfl,by omega,by omega,.inr ⟨hends.1,hk0,b,f,hb,hf,hbt,hres,rfl,by rw [hie',hed]⟩,fun _ _ _=>hends.1⟩,by simp only [];omega⟩
      unfold zW zbF
      simp only [if_true,zdM ht0 hal,Option.bind_some,hk,hnext]
     by_cases hnx:nx<0
     ·rw [if_pos (by simp [hnx])];exact take
     ·rw [if_neg (by simp [hnx])]
      by_cases hlt2:oth b t<nx
      ·simp only [hlt2,decide_true];exact take
      ·simp only [hlt2,decide_false];exact stay fun _=>.inr (by omega)
    ·rw [if_neg (by simp [hed])]
     exact stay fun _=>.inl fun hc=>hed hc.2
   ·rw [if_neg (by simp [hres])]
    exact stay fun _=>.inl fun hc=>hres hc.1
  ·right
   rw [if_neg (by simp [hlt])]
   refine ⟨_,rfl,nx,by_,rfl,?_⟩
   have hks:(ks:Int)∈al:=(hal2 ks).2 ⟨Int.natCast_nonneg ks,bw,by simpa using hw1,hw3⟩
   obtain ⟨j,hj,hj'⟩:=List.mem_iff_getElem.1 hks
   have:=hwit j (by omega) (by rw [List.getElem?_eq_getElem hj,hj'])
   rcases hch with hc | hc
   ·omega
   ·exact hc.2
theorem zri (h:Net n bs at_ fl) {L:List Int} {x23:(List Int)×(Int×(List Bd)×(List (List Int))×(List Int))} (hx:x23.1=L) (hD:Dist n bs fl y L) (hx0:0<=x) {d:Int} (hd:L[x.toNat]?=some d) (hd0:0<=d) :
  ∃ fl',iter (zbE (n,bs,at_,fl) y x23) (x,fl)=some fl'/\Net n bs at_ fl'/\∀ S,zcd S bs fl'=zcd S bs fl+(ind (S x) - ind (S y)):=by
 have key:=zw (F:=zbE (n,bs,at_,fl) y x23) (fun s=>∃ t fl1 e,s=(t,fl1)/\0<=t/\L[t.toNat]?=some e/\0<=e/\Net n bs at_ fl1/\(∀ S,zcd S bs fl1=zcd S bs fl+(ind (S x) - ind (S t)))/\
   ∀ (k:Nat) (b:Bd) (e1 e2:Int),bs[k]?=some b->L[b.1.toNat]?=some e1->L[b.2.1.toNat]?=some e2->e1<=e->e2<=e->fl1[k]?=fl[k]?)
  (fun s=>((L[s.1.toNat]?).getD 0).toNat) (fun z=>∃ fl',z=fl'/\Net n bs at_ fl'/\∀ S,zcd S bs fl'=zcd S bs fl+(ind (S x) - ind (S y))) ?_
  (x,fl) ⟨x,fl,d,rfl,hx0,hd,hd0,h,fun S=>by omega,fun _ _ _ _ _ _ _ _ _=>rfl⟩
 ·obtain ⟨z,hz,fl',ez,h1,h2⟩:=key
  subst ez
  exact ⟨_,hz,h1,h2⟩
 ·rintro s ⟨t,fl1,e,rfl,ht0,he,he0,hN,hfl,hsame⟩
  unfold zbE
  by_cases hty:t=y
  ·right
   subst hty
   rw [if_neg (by simp)]
   exact ⟨_,rfl,fl1,rfl,hN,hfl⟩
  ·left
   rw [if_pos (by simp [hty])]
   have hti:((t.toNat:Nat):Int)=t:=Int.toNat_of_nonneg ht0
   have hep:0<e:=by
    obtain ⟨k,b,f,_,_,_,_,_,h6⟩:=hD.parent t.toNat e he he0 (by rw [hti];exact hty)
    omega
   have hpar:∀ (k:Nat) (b:Bd),bs[k]?=some b->(b.1=t\/b.2.1=t)->L[(oth b t).toNat]?=some (e - 1)->fl1[k]?=fl[k]?:=by
    intro k b hb hbt hL
    rcases hbt with rfl | rfl
    ·have ho:oth b b.1=b.2.1:=by unfold oth;rw [if_pos rfl]
     rw [ho] at hL
     exact hsame k b e (e - 1) hb he hL (by omega) (by omega)
    ·have hw:=h.wb _ _ hb
     have ho:oth b b.2.1=b.1:=by unfold oth;rw [if_neg hw.2.2.2.2.1]
     rw [ho] at hL
     exact hsame k b (e - 1) e hb hL he (by omega) (by omega)
   obtain ⟨nx,by_,b,f,hrun,hb0,hb,hf,hbt,hr,hnx,hLn⟩:=zp7 (fl0:=fl) (y:=y) hN hx hD ht0 he hep hpar hty
   ·obtain ⟨f',hp,hN',hS⟩:=zsV hN hb0 hb hf hbt hr
    have hends:=h.ends hb t
    refine ⟨(nx,fl1.set by_.toNat f'),?_,⟨nx,_,e - 1,rfl,by rw [hnx];exact hends.1,hLn,by omega,hN',?_,?_⟩,?_⟩
    ·rw [hrun]
     simp only [Option.bind_some,zeL,hp]
    ·intro S
     rw [hS,hfl,hnx];omega
    ·intro k c e1 e2 hc h1 h2 hle1 hle2
     by_cases hk:by_.toNat=k
     ·subst hk
      rw [hb] at hc
      obtain rfl:=Option.some.inj hc
      rcases hbt with rfl | rfl
      ·rw [he] at h1;injection h1;omega
      ·rw [he] at h2;injection h2;omega
     ·rw [zG hk]
      exact hsame k c e1 e2 hc h1 h2 (by omega) (by omega)
    ·simp only [hLn,he,Option.getD_some];omega
theorem zrj (h:Net n bs at_ fl) (hx0:0<=x) (hx:x<n) (hy0:0<=y) (hy:y<n) :
  (zcU (n,bs,at_,fl) x y=some (false,n,bs,at_,fl)/\∃ S:Int->Bool,S x=true/\S y=false/\zcd S bs fl=zd2 S bs) \/
  ∃ fl',zcU (n,bs,at_,fl) x y=some (true,n,bs,at_,fl')/\Net n bs at_ fl'/\∀ S,zcd S bs fl'=zcd S bs fl+(ind (S x) - ind (S y)):=by
 obtain ⟨L,hs,hD⟩:=zmM h hy0 hy
 obtain ⟨d,hd,hd'⟩:=zae (l:=L) hx0 (by rw [hD.len];omega)
 unfold zcU
 simp only [hs,Option.bind_some,hd]
 by_cases hneg:d<0
 ·left
  rw [if_pos (by simp [hneg])]
  refine ⟨rfl,fun v=>decide (∃ e,L[v.toNat]?=some e/\e<0),?_,?_,?_⟩
  ·simp only [decide_eq_true_eq];exact ⟨d,hd',hneg⟩
  ·simp only [decide_eq_false_iff_not]
   rintro ⟨e,he,hel⟩
   rw [hD.goal] at he;injection he;omega
  ·refine zmh h.flen fun k b f hb hf=>?_
   have hw:=h.wb _ _ hb
   have hfo:=h.fok _ _ _ hb hf
   have hlen:=hD.len
   obtain ⟨e1,_,he1⟩:=zae (l:=L) hw.1 (by omega)
   obtain ⟨e2,_,he2⟩:=zae (l:=L) hw.2.2.1 (by omega)
   simp only [decide_eq_true_eq,decide_eq_false_iff_not]
   have ho1:oth b b.1=b.2.1:=by unfold oth;rw [if_pos rfl]
   have ho2:oth b b.2.1=b.1:=by unfold oth;rw [if_neg hw.2.2.2.2.1]
   refine ⟨?_,?_⟩
   ·rintro ⟨e,he,hel⟩ hno
    rw [he1] at he;obtain rfl:=Option.some.inj he
    have he20:0<=e2:=by
     rcases Int.lt_or_le e2 0 with h1 | h1
     ·exact absurd ⟨e2,he2,h1⟩ hno
     ·exact h1
    have hti:((b.2.1.toNat:Nat):Int)=b.2.1:=Int.toNat_of_nonneg hw.2.2.1
    have:=hD.closed k b f b.2.1.toNat e2 e1 hb hf (.inr hti.symm) he2 he20
    rw [hti,ho2] at this
    rcases Int.lt_or_le 0 (res b f b.1) with hr | hr
    ·have:=this hr he1;omega
    ·unfold res at hr;rw [if_pos rfl] at hr;omega
   ·rintro hno ⟨e,he,hel⟩
    rw [he2] at he;obtain rfl:=Option.some.inj he
    have he10:0<=e1:=by
     rcases Int.lt_or_le e1 0 with h1 | h1
     ·exact absurd ⟨e1,he1,h1⟩ hno
     ·exact h1
    have hti:((b.1.toNat:Nat):Int)=b.1:=Int.toNat_of_nonneg hw.1
    have:=hD.closed k b f b.1.toNat e1 e2 hb hf (.inl hti.symm) he1 he10
    rw [hti,ho1] at this
    rcases Int.lt_or_le 0 (res b f b.2.1) with hr | hr
    ·have:=this hr he2;omega
    ·unfold res at hr;rw [if_neg hw.2.2.2.2.1] at hr;omega
 ·right
  rw [if_neg (by simp [hneg])]
  obtain ⟨fl',hrun,hN,hS⟩:=zri (x23:=(L,n,bs,at_,fl)) h rfl hD hx0 hd' (by omega)
  refine ⟨fl',?_,hN,hS⟩
  rw [hrun]
  rfl
def zhP (bs:List Bd) (x y:Int) (v:Int):Prop:=
 (∀ S:Int->Bool,S x=true->S y=false->v<=zd2 S bs)/\∃ S:Int->Bool,S x=true/\S y=false/\v=zd2 S bs
theorem zro (h:Net n bs at_ fl) (hx0:0<=x) (hx:x<n) (hy0:0<=y) (hy:y<n) (hxy:x≠y) (h0:∀ S,zcd S bs fl=0) :
  ∃ v fl',iter (zdw x y (n,bs,at_,fl)) (0,fl)=some (v,fl')/\Net n bs at_ fl'/\0<=v/\v<=100000000/\zhP bs x y v:=by
 let S0:Int->Bool:=fun v=>decide (v=x)
 have hS0x:S0 x=true:=by simp [S0]
 have hS0y:S0 y=false:=by simp [S0];omega
 have hcap:zd2 S0 bs<=100000000:=by
  have:=zqi (S:=S0) (bs:=bs) (fun b hb=>by
   obtain ⟨k,hk,hk'⟩:=List.mem_iff_getElem.1 hb
   have:=h.wb k b (by rw [List.getElem?_eq_getElem hk,hk'])
   omega)
  have:=h.bn;omega
 have key:=zw (F:=zdw x y (n,bs,at_,fl)) (fun s=>∃ v fl1,s=(v,fl1)/\0<=v/\Net n bs at_ fl1/\∀ S:Int->Bool,S x=true->S y=false->zcd S bs fl1=v)
  (fun s=>(zd2 S0 bs - s.1).toNat) (fun z=>∃ v fl',z=(v,fl')/\Net n bs at_ fl'/\0<=v/\v<=100000000/\zhP bs x y v) ?_
  (0,fl) ⟨0,fl,rfl,by omega,h,fun S _ _=>h0 S⟩
 ·obtain ⟨z,hz,v,fl',rfl,h1,h2,h3,h4⟩:=key
  exact ⟨v,fl',hz,h1,h2,h3,h4⟩
 ·rintro s ⟨v,fl1,rfl,hv0,hN,hfl⟩
  have hle:∀ S:Int->Bool,S x=true->S y=false->v<=zd2 S bs:=fun S h1 h2=>by rw [←hfl S h1 h2];exact zjS hN.flen hN.fok
  have hvc:=hle S0 hS0x hS0y
  unfold zdw
  rcases zrj hN hx0 hx hy0 hy with ⟨hg,S,hSx,hSy,hS⟩ | ⟨fl',hg,hN',hS⟩
  ·right
   rw [hg]
   refine ⟨_,rfl,v,fl1,rfl,hN,hv0,by omega,hle,S,hSx,hSy,?_⟩
   rw [←hS,hfl S hSx hSy]
  ·left
   rw [hg]
   have hnew:∀ S:Int->Bool,S x=true->S y=false->zcd S bs fl'=v+1:=fun S h1 h2=>by
    rw [hS,hfl S h1 h2,h1,h2];simp [ind]
   have hvc':v+1<=zd2 S0 bs:=by rw [←hnew S0 hS0x hS0y];exact zjS hN'.flen hN'.fok
   have hw:w64 (v+1)=v+1:=zp (by omega) (by omega)
   refine ⟨_,rfl,⟨v+1,fl',by rw [hw],by omega,hN',hnew⟩,?_⟩
   simp only [hw];omega
end
def zpd:List (List Int)->List (Int×Int×Int)->Int->Option (List (List Int))
 | t,[],_=>some t
 | t,b::bs,i=>(idx t b.1).bind fun x=>(app 8 x [i]).bind fun y=>(idx (t.set b.1.toNat y) b.2.1).bind fun z=>(app 8 z [i]).bind fun w=>zpd ((t.set b.1.toNat y).set b.2.1.toNat w) bs (i+1)
theorem zo2 (all:List (Int×Int×Int)) (hlen:all.length<=100000):∀ (rest:List (Int×Int×Int)) (i:Nat) (t t':List (List Int)),all.drop i=rest->zpd t rest i=some t'->iter (zb3 all) ((i:Int),t)=some t'
 | [],i,t,t',hd,h=>by
  have hi:all.length<=i:=by
   have:=congrArg List.length hd
   simp at this;omega
  have:t'=t:=by injection h with h;exact h.symm
  subst this
  refine zD ?_
  unfold zb3
  rw [if_neg (by simp;omega)]
 | b::rest,i,t,t',hd,h=>by
  have hi:i<all.length:=by
   have:=congrArg List.length hd
   simp at this;omega
  have hb:idx all (i:Int)=some b:=by
   unfold idx
   rw [if_pos (by omega)]
   have:all[i]?=some b:=by
    have h1:(all.drop i)[0]?=some b:=by rw [hd];rfl
    rw [List.getElem?_drop] at h1
    simpa using h1
   simpa using this
  unfold zpd at h
  obtain ⟨x,hx,h⟩:=Option.bind_eq_some_iff.1 h
  obtain ⟨y,hy,h⟩:=Option.bind_eq_some_iff.1 h
  obtain ⟨z,hz,h⟩:=Option.bind_eq_some_iff.1 h
  obtain ⟨w,hw,h⟩:=Option.bind_eq_some_iff.1 h
  have hw64:w64 ((i:Int)+1)=((i+1:Nat):Int):=by rw [zp (by omega) (by omega)];omega
  have hstep:zb3 all ((i:Int),t)=some (.inl (((i+1:Nat):Int),(t.set b.1.toNat y).set b.2.1.toNat w)):=by
   unfold zb3
   rw [if_pos (by simp;omega)]
   simp only [hb,Option.bind_some,hx,hy,hz,hw,hw64]
  rw [zI hstep]
  refine zo2 all hlen rest (i+1) _ t' ?_ (by simpa using h)
  have:=congrArg (List.drop 1) hd
  rw [List.drop_drop] at this
  simpa [Nat.add_comm] using this
def WBs (n:Int) (bs:List Bd):Prop:=∀ (k:Nat) (b:Bd),bs[k]?=some b->0<=b.1/\b.1<n/\0<=b.2.1/\b.2.1<n/\b.1≠b.2.1/\0<=b.2.2/\b.2.2<=1000
theorem zm8 {n:Int} (hn:0<=n) (all:List Bd) (hw:WBs n all) (hlen:all.length<=100000):∀ (rest:List Bd) (i:Nat) (t:List (List Int)),all.drop i=rest->i+rest.length=all.length->t.length=n.toNat->
  (∀ (v:Nat) (l:List Int),t[v]?=some l->l.length<=i/\∀ k:Int,k∈l↔(0<=k/\k<i/\∃ b:Bd,all[k.toNat]?=some b/\(b.1=v\/b.2.1=v)))->
  ∃ t',zpd t rest i=some t'/\t'.length=n.toNat/\∀ (v:Nat) (l:List Int),t'[v]?=some l->l.length<=100000/\∀ k:Int,k∈l↔(0<=k/\∃ b:Bd,all[k.toNat]?=some b/\(b.1=v\/b.2.1=v))
 | [],i,t,hd,hl,ht,hm=>by
  refine ⟨t,rfl,ht,fun v l hv=>?_⟩
  obtain ⟨h1,h2⟩:=hm v l hv
  refine ⟨by omega,fun k=>(h2 k).trans ?_⟩
  constructor
  ·rintro ⟨h0,_,h⟩;exact ⟨h0,h⟩
  ·rintro ⟨h0,b,hb,h⟩
   have:=zy hb
   simp at hl
   exact ⟨h0,by omega,b,hb,h⟩
 | b::rest,i,t,hd,hl,ht,hm=>by
  have hb:all[i]?=some b:=by
   have:=congrArg (fun l=>l[0]?) hd
   simpa using this
  have hwb:=hw _ _ hb
  have hi:=zy hb
  obtain ⟨x,hx,hx'⟩:=zae (l:=t) hwb.1 (by omega)
  obtain ⟨hxl,hxm⟩:=hm _ _ hx'
  have hne:b.1.toNat≠b.2.1.toNat:=by omega
  obtain ⟨z,hz,hz'⟩:=zae (l:=t) hwb.2.2.1 (by omega)
  obtain ⟨hzl,hzm⟩:=hm _ _ hz'
  have hz2:idx (t.set b.1.toNat (x++[(i:Int)])) b.2.1=some z:=zdM hwb.2.2.1 (by rw [zG hne];exact hz')
  unfold zpd
  rw [hx]
  simp only [Option.bind_some]
  rw [zaj (by simp;omega) (by simp;omega)]
  simp only [Option.bind_some,hz2]
  rw [zaj (by simp;omega) (by simp;omega)]
  simp only [Option.bind_some]
  refine zm8 hn all hw hlen rest (i+1) _ ?_ (by simp at hl;omega) (by simp [ht]) ?_
  ·rw [←List.drop_drop,hd];rfl
  ·intro v l hv
   by_cases h2:b.2.1.toNat=v
   ·subst h2
    rw [zN (by rw [List.length_set];exact zy hz')] at hv
    obtain rfl:=Option.some.inj hv
    refine ⟨by simp;omega,fun k=>?_⟩
    rw [List.mem_append]
    constructor
    ·rintro (h | h)
     ·obtain ⟨h3,h4,h5⟩:=(hzm k).1 h;exact ⟨h3,by omega,h5⟩
     ·have:k=i:=by simpa using h
      subst this
      exact ⟨by omega,by omega,b,by simpa using hb,.inr (by omega)⟩
    ·rintro ⟨h3,h4,h5⟩
     by_cases hk:k=i
     ·right;simp [hk]
     ·left;exact (hzm k).2 ⟨h3,by omega,h5⟩
   ·rw [zG h2] at hv
    by_cases h1:b.1.toNat=v
    ·subst h1
     rw [zN (zy hx')] at hv
     obtain rfl:=Option.some.inj hv
     refine ⟨by simp;omega,fun k=>?_⟩
     rw [List.mem_append]
     constructor
     ·rintro (h | h)
      ·obtain ⟨h3,h4,h5⟩:=(hxm k).1 h;exact ⟨h3,by omega,h5⟩
      ·have:k=i:=by simpa using h
       subst this
       exact ⟨by omega,by omega,b,by simpa using hb,.inl (by omega)⟩
     ·rintro ⟨h3,h4,h5⟩
      by_cases hk:k=i
      ·right;simp [hk]
      ·left;exact (hxm k).2 ⟨h3,by omega,h5⟩
    ·rw [zG h1] at hv
     obtain ⟨h3,h4⟩:=hm v l hv
     refine ⟨by omega,fun k=>(h4 k).trans ?_⟩
     constructor
     ·rintro ⟨h5,h6,h7⟩;exact ⟨h5,by omega,h7⟩
     ·rintro ⟨h5,h6,c,hc,h7⟩
      refine ⟨h5,?_,c,hc,h7⟩
      rcases Int.lt_or_le k i with h8 | h8
      ·exact h8
      ·have:k=i:=by omega
       subst this
       simp at hc
       rw [hb] at hc
       obtain rfl:=Option.some.inj hc
       omega
section
variable {n:Int} {bs:List Bd} {x y:Int}
theorem zr8 (hn0:0<=n) (hn1:n<=100000) (hb:bs.length<=100000) (hw:WBs n bs):∃ at_ fl,zhW n bs=some (n,bs,at_,fl)/\Net n bs at_ fl/\∀ S,zcd S bs fl=0:=by
 obtain ⟨t',ht,htl,htm⟩:=zm8 hn0 bs hw hb bs 0 (List.replicate n.toNat []) (by simp) (by omega) (by simp) (by
  intro v l hv
  rw [List.getElem?_replicate] at hv
  split at hv
  ·injection hv with hv;subst hv
   refine ⟨by simp,fun k=>?_⟩
   constructor
   ·intro h;cases h
   ·rintro ⟨h1,h2,_⟩;omega
  ·cases hv)
 refine ⟨t',List.replicate bs.length 0,?_,⟨hn0,hn1,hb,hw,htl,htm,by simp,?_⟩,fun S=>znW⟩
 ·unfold zhW
  rw [zpT hn0 (by omega) (by omega),zpT (by omega) (by omega) (by omega)]
  simp only [Option.bind_some,Int.toNat_natCast]
  have ht':iter (zb3 bs) (0,List.replicate n.toNat [])=some t':=zo2 bs hb bs 0 _ t' (by simp) ht
  rw [ht']
  rfl
 ·intro k b f hb hf
  rw [List.getElem?_replicate] at hf
  have:=hw _ _ hb
  split at hf
  ·injection hf with hf;subst hf;omega
  ·cases hf
theorem zrn (hn1:n<=100000) (hb:bs.length<=100000) (hw:WBs n bs) (hx0:0<=x) (hx:x<n) (hy0:0<=y) (hy:y<n) (hxy:x≠y) :
  ∃ v at_ fl,zhh n bs x y=some ((n,bs,at_,fl),v)/\Net n bs at_ fl/\0<=v/\v<=100000000/\zhP bs x y v:=by
 obtain ⟨at_,fl,hnew,hN,h0⟩:=zr8 (by omega) hn1 hb hw
 obtain ⟨v,fl',hrun,hN',h1,h2,h3⟩:=zro hN hx0 hx hy0 hy hxy h0
 refine ⟨v,at_,fl',?_,hN',h1,h2,h3⟩
 unfold zhh zgZ
 rw [hnew]
 simp only [Option.bind_some]
 rw [hrun]
 rfl
theorem zqU {at_:List (List Int)} {fl:List Int} (h:Net n bs at_ fl) (hy0:0<=y) (hy:y<n):∃ p,zeq (n,bs,at_,fl) y=some (p,n,bs,at_,fl)/\p.length<=100000:=by
 obtain ⟨L,hs,hD⟩:=zmM h hy0 hy
 have hn1:=h.n1
 have hlen:=hD.len
 have key:=zw (F:=zcJ (n,bs,at_,fl) (L,n,bs,at_,fl)) (fun s=>0<=s.2/\s.2<=n/\s.1.length<=s.2.toNat) (fun s=>(n - s.2).toNat) (fun p=>p.length<=100000) ?_ ([],0) ⟨by omega,by omega,by simp⟩
 ·obtain ⟨p,hp,hl⟩:=key
  refine ⟨p,?_,hl⟩
  unfold zeq zeK
  rw [hs]
  simp only [Option.bind_some,hp]
 ·rintro ⟨p,i⟩ ⟨hi0,hi1,hl⟩
  simp only at hi0 hi1 hl
  unfold zcJ zcK
  by_cases hlt:i<n
  ·left
   rw [if_pos (by simp [hlt])]
   obtain ⟨d,hd,_⟩:=zae (l:=L) hi0 (by omega)
   simp only [hd,Option.bind_some]
   have hw:w64 (i+1)=i+1:=zp (by omega) (by omega)
   by_cases hd0:d≥0
   ·rw [if_pos (by simp [hd0]),zaj (by simp;omega) (by simp;omega)]
    refine ⟨_,rfl,⟨by simp only [hw];omega,by simp only [hw];omega,?_⟩,by simp only [hw];omega⟩
    simp only [hw,List.length_append,List.length_cons,List.length_nil];omega
   ·rw [if_neg (by simp [hd0])]
    exact ⟨_,rfl,⟨by simp only [hw];omega,by simp only [hw];omega,by simp only [hw];omega⟩,by simp only [hw];omega⟩
  ·right
   rw [if_neg (by simp [hlt])]
   exact ⟨_,rfl,by simp only [];omega⟩
theorem zpC (v w:Int) (p q:List Int) (hp:p.length<=100000):∃ b,zfL v p w q=some b/\(v<w->b=true)/\(w<v->b=false):=by
 unfold zfL
 by_cases h1:v=w
 ·rw [if_neg (by simp [h1])]
  by_cases h2:p.length=q.length
  ·rw [if_neg (by simp [h2])]
   have key:=zw (F:=zdR p q) (fun i=>0<=i/\i<=p.length) (fun i=>(p.length - i).toNat) (fun _=>True) ?_ 0 ⟨by omega,by omega⟩
   ·obtain ⟨z,hz,_⟩:=key
    rw [hz]
    cases z with
    | inl z=>exact ⟨false,rfl,by omega,by omega⟩
    | inr z=>exact ⟨z,rfl,by omega,by omega⟩
   ·rintro i ⟨hi0,hi1⟩
    unfold zdR
    by_cases hlt:i<p.length
    ·rw [if_pos (by simp [hlt])]
     obtain ⟨a,ha,_⟩:=zae (l:=p) hi0 hlt
     obtain ⟨b,hb,_⟩:=zae (l:=q) hi0 (by omega)
     simp only [ha,hb,Option.bind_some]
     by_cases hab:a=b
     ·left
      rw [if_neg (by simp [hab]),zp (by omega) (by omega)]
      exact ⟨_,rfl,⟨by omega,by omega⟩,by omega⟩
     ·right
      rw [if_pos (by simp [hab])]
      exact ⟨_,rfl,trivial⟩
    ·right
     rw [if_neg (by simp [hlt])]
     exact ⟨_,rfl,trivial⟩
  ·rw [if_pos (by simp;omega)]
   exact ⟨_,rfl,by omega,by omega⟩
 ·rw [if_pos (by simp [h1])]
  exact ⟨_,rfl,by simp,by simp;omega⟩
def Holds (n:Int) (bs:List Bd) (t:Int):Prop:=∀ S:Int->Bool,S 0=true->(∃ y,1<=y/\y<n/\S y=false)->t<=zd2 S bs
theorem zn3 (hn2:2<=n) (hn1:n<=100000) (hb:bs.length<=100000) (hw:WBs n bs):∃ v p,ze5 n bs=some (v,p)/\∀ t,t<=v↔Holds n bs t:=by
 have key:=zw (F:=zdj n bs)
  (fun s=>1<=s.2.2/\s.2.2<=n/\s.2.1.length<=100000/\(s.2.2=1/\s.1 = -1\/1<s.2.2/\0<=s.1/\(∃ y,1<=y/\y<s.2.2/\zhP bs 0 y s.1)/\∀ y,1<=y->y<s.2.2->∃ v,zhP bs 0 y v/\s.1<=v))
  (fun s=>(n - s.2.2).toNat) (fun z=>(∃ y,1<=y/\y<n/\zhP bs 0 y z.1)/\∀ y,1<=y->y<n->∃ v,zhP bs 0 y v/\z.1<=v) ?_ ((-1),[],1) ⟨by show (1:Int)<=1;omega,by show (1:Int)<=n;omega,by simp,.inl ⟨rfl,rfl⟩⟩
 ·obtain ⟨⟨v,p⟩,hz,⟨y,hy1,hy2,hm⟩,hall⟩:=key
  refine ⟨v,p,?_,fun t=>⟨fun ht S hS0 ⟨z,hz1,hz2,hSz⟩=>?_,fun hh=>?_⟩⟩
  ·unfold ze5 zfj;rw [hz];rfl
  ·obtain ⟨u,hu,hle⟩:=hall z hz1 hz2
   have:=hu.1 S hS0 hSz
   simp only at hle
   omega
  ·obtain ⟨S,h1,h2,h3⟩:=hm.2
   have:=hh S h1 ⟨y,hy1,hy2,h2⟩
   simp only at h3
   omega
 ·rintro ⟨best,part,y⟩ ⟨hy1,hy2,hpl,hor⟩
  simp only at hy1 hy2 hpl hor
  unfold zdj
  by_cases hlt:y<n
  ·left
   rw [if_pos (by simp [hlt])]
   obtain ⟨v,at_,fl,hf,hN,hv0,hv1,hm⟩:=zrn (x:=0) (y:=y) hn1 hb hw (by omega) (by omega) (by omega) hlt (by omega)
   obtain ⟨p,hp,hpl2⟩:=zqU (y:=y) hN (by omega) hlt
   simp only [hf,hp,Option.bind_some]
   have hww:w64 (y+1)=y+1:=zp (by omega) (by omega)
   have take:(s1:best<0\/v<=best)->∃ s',zaC (best,part,y) ((n,bs,at_,fl),v) (p,n,bs,at_,fl) true=some (.inl s')/\
     (1<=s'.2.2/\s'.2.2<=n/\s'.2.1.length<=100000/\(s'.2.2=1/\s'.1 = -1\/1<s'.2.2/\0<=s'.1/\(∃ y,1<=y/\y<s'.2.2/\zhP bs 0 y s'.1)/\∀ y,1<=y->y<s'.2.2->∃ v,zhP bs 0 y v/\s'.1<=v))/\(n - s'.2.2).toNat<(n - y).toNat:=by
    intro hle
    refine ⟨(v,p,y+1),by unfold zaC zb2;simp [hww],⟨by simp only [];omega,by simp only [];omega,hpl2,.inr ⟨by simp only [];omega,hv0,⟨y,hy1,by simp only [];omega,hm⟩,?_⟩⟩,by simp only [];omega⟩
    intro z hz1 hz2
    simp only at hz2
    by_cases hzy:z=y
    ·subst hzy;exact ⟨v,hm,by simp only [];omega⟩
    ·rcases hor with ⟨h1,h2⟩ | ⟨h1,h2,h3,h4⟩
     ·omega
     ·obtain ⟨u,hu,hle2⟩:=h4 z hz1 (by omega)
      exact ⟨u,hu,by simp only [];omega⟩
   have keep:0<=best->best<=v->∃ s',zaC (best,part,y) ((n,bs,at_,fl),v) (p,n,bs,at_,fl) false=some (.inl s')/\
     (1<=s'.2.2/\s'.2.2<=n/\s'.2.1.length<=100000/\(s'.2.2=1/\s'.1 = -1\/1<s'.2.2/\0<=s'.1/\(∃ y,1<=y/\y<s'.2.2/\zhP bs 0 y s'.1)/\∀ y,1<=y->y<s'.2.2->∃ v,zhP bs 0 y v/\s'.1<=v))/\(n - s'.2.2).toNat<(n - y).toNat:=by
    intro hb0 hle
    rcases hor with ⟨h1,h2⟩ | ⟨h1,h2,⟨y',h5,h6,h7⟩,h4⟩
    ·omega
    ·refine ⟨(best,part,y+1),by unfold zaC zb2;simp [hww],⟨by simp only [];omega,by simp only [];omega,hpl,.inr ⟨by simp only [];omega,hb0,⟨y',h5,by simp only [];omega,h7⟩,?_⟩⟩,by simp only [];omega⟩
     intro z hz1 hz2
     simp only at hz2
     by_cases hzy:z=y
     ·subst hzy;exact ⟨v,hm,hle⟩
     ·exact h4 z hz1 (by omega)
   by_cases hbn:best<0
   ·rw [if_pos (by simp [hbn])]
    exact take (.inl hbn)
   ·rw [if_neg (by simp [hbn])]
    obtain ⟨b,hbb,hb1,hb2⟩:=zpC v best p part hpl2
    simp only [hbb,Option.bind_some]
    cases b with
    | true=>exact take (.inr (by
      rcases Int.lt_or_le best v with h | h
      ·have:=hb2 h;cases this
      ·exact h))
    | false=>exact keep (by omega) (by
      rcases Int.lt_or_le v best with h | h
      ·have:=hb1 h;cases this
      ·exact h)
  ·right
   rw [if_neg (by simp [hlt])]
   refine ⟨_,rfl,?_⟩
   have hyn:y=n:=by omega
   subst hyn
   rcases hor with ⟨h1,h2⟩ | ⟨h1,h2,h3,h4⟩
   ·omega
   ·exact ⟨h3,h4⟩
end
def zb1:Nat->(Nat->Int)->Int
 | 0,_=>0
 | n+1,f=>zb1 n f+f n
theorem zb0 {f g:Nat->Int}:∀ {n:Nat},(∀ i,i<n->f i=g i)->zb1 n f=zb1 n g
 | 0,_=>rfl
 | n+1,h=>by
  unfold zb1
  rw [zb0 (n:=n) fun i hi=>h i (by omega),h n (by omega)]
theorem zk5 (f g:Nat->Int):∀ (n:Nat),zb1 n (fun i=>f i+g i)=zb1 n f+zb1 n g
 | 0=>rfl
 | n+1=>by
  unfold zb1
  rw [zk5 f g n]
  simp only [Int.add_assoc,Int.add_left_comm,Int.add_comm]
theorem zjZ:∀ (n:Nat),zb1 n (fun _=>0)=0
 | 0=>rfl
 | n+1=>by unfold zb1;rw [zjZ n];rfl
theorem zmK (f:Nat->Int):∀ (n:Nat),zb1 n (fun i => - f i) = - zb1 n f
 | 0=>rfl
 | n+1=>by unfold zb1;rw [zmK f n];show - zb1 n f + - f n = - (zb1 n f+f n);omega
theorem zn6 {f g:Nat->Int}:∀ {n:Nat},(∀ i,i<n->f i<=g i)->zb1 n f<=zb1 n g
 | 0,_=>Int.le_refl _
 | n+1,h=>by
  unfold zb1
  have h1:=zn6 (n:=n) fun i hi=>h i (by omega)
  have h2:=h n (by omega)
  omega
theorem znN (f:Nat->Nat->Int) (m:Nat):∀ (n:Nat),zb1 n (fun i=>zb1 m (fun j=>f i j))=zb1 m (fun j=>zb1 n (fun i=>f i j))
 | 0=>by
  show (0:Int)=zb1 m (fun _=>0)
  rw [zjZ]
 | n+1=>by
  show zb1 n (fun i=>zb1 m (fun j=>f i j))+zb1 m (fun j=>f n j)=zb1 m (fun j=>zb1 n (fun i=>f i j)+f n j)
  rw [znN f m n,zk5]
theorem zmJ {f g:Nat->Int} {a:Nat} {d:Int}:∀ {n:Nat},a<n->(∀ i,i<n->i≠a->g i=f i)->g a=f a+d->zb1 n g=zb1 n f+d
 | 0,h,_,_=>by omega
 | n+1,h,he,ha=>by
  unfold zb1
  by_cases hn:a=n
  ·subst hn
   rw [zb0 (f:=g) (g:=f) fun i hi=>he i (by omega) (by omega),ha]
   omega
  ·rw [zmJ (n:=n) (by omega) (fun i hi=>he i (by omega)) ha,he n (by omega) (by omega)]
   omega
def mid (n:Nat) (S:Int->Bool) (F:Nat->Nat->Int):Int:=zb1 n fun u=>zb1 n fun v=>ind (S u)*F u v
def zib (n:Nat) (S:Int->Bool) (R:Nat->Nat->Int):Int:=zb1 n fun u=>zb1 n fun v=>ind (S u)*(1 - ind (S v))*R u v
theorem znR {n:Nat} {S:Int->Bool} {F:Nat->Nat->Int} (ha:∀ u v,u<n->v<n->F u v = - F v u):mid n S F=zib n S F:=by
 obtain ⟨T,hT⟩:∃ T,T=zb1 n fun u=>zb1 n fun v=>ind (S u)*ind (S v)*F u v:=⟨_,rfl⟩
 have h1:mid n S F=zib n S F+T:=by
  unfold mid zib
  rw [hT,←zk5]
  refine zb0 fun u hu=>?_
  rw [←zk5]
  refine zb0 fun v hv=>?_
  rw [Int.mul_sub,Int.sub_mul,Int.mul_one]
  omega
 have h2:T = - T:=by
  calc T=zb1 n fun v=>zb1 n fun u=>ind (S u)*ind (S v)*F u v:=by rw [hT,znN]
   _=zb1 n fun v => - zb1 n fun u=>ind (S v)*ind (S u)*F v u:=by
     refine zb0 fun v hv=>?_
     rw [←zmK]
     refine zb0 fun u hu=>?_
     rw [ha u v hu hv,Int.mul_neg,Int.mul_comm (ind (S u))]
   _ = - T:=by rw [zmK,←hT]
 omega
theorem zs3 {n:Nat} {S:Int->Bool} {F R:Nat->Nat->Int} (h:∀ u v,u<n->v<n->F u v<=R u v):zib n S F<=zib n S R:=by
 refine zn6 fun u hu=>zn6 fun v hv=>?_
 have:=h u v hu hv
 unfold ind
 split<;>split<;>omega
theorem zs4 {n:Nat} {S:Int->Bool} {F R:Nat->Nat->Int} (h:∀ u v:Nat,u<n->v<n->S u=true->S v=false->F u v=R u v):zib n S F=zib n S R:=by
 refine zb0 fun u hu=>zb0 fun v hv=>?_
 have:=h u v hu hv
 unfold ind
 cases hS:S u<;>cases hV:S v<;>simp [hS,hV] at this ⊢
 exact this
theorem zlv {n:Nat} {c:Nat->Nat->Int} {F G:Nat->Nat->Int} {a b:Nat} {d:Int} (ha:a<n) (hb:b<n) (he:∀ u v,u<n->v<n->(u≠a\/v≠b)->G u v=F u v) (h:G a b=F a b+d) :
  (zb1 n fun u=>zb1 n fun v=>c u v*G u v)=(zb1 n fun u=>zb1 n fun v=>c u v*F u v)+c a b*d:=by
 refine zmJ ha (fun u hu hne=>zb0 fun v hv=>by rw [he u v hu hv (.inl hne)]) ?_
 refine zmJ hb (fun v hv hne=>by rw [he a v ha hv (.inr hne)]) ?_
 rw [h,Int.mul_add]
def ent (F:List (List Int)) (u v:Nat):Int:=((F[u]?.getD [])[v]?).getD 0
structure Sq (n:Nat) (F:List (List Int)):Prop where
 len:F.length=n
 row:∀ (u:Nat) (r:List Int),F[u]?=some r->r.length=n
section
variable {n:Nat} {F:List (List Int)}
theorem Sq.get (h:Sq n F) {u v:Nat} (hu:u<n) (hv:v<n):∃ r,F[u]?=some r/\r.length=n/\r[v]?=some (ent F u v):=by
 have h1:u<F.length:=by rw [h.len];exact hu
 have h2:F[u]?=some F[u]:=List.getElem?_eq_getElem h1
 have h3:=h.row u _ h2
 refine ⟨F[u],h2,h3,?_⟩
 unfold ent
 rw [h2]
 simp only [Option.getD_some]
 rw [List.getElem?_eq_getElem (by omega)]
 rfl
theorem Sq.idx (h:Sq n F) {u v:Int} (hu0:0<=u) (hu:u<n) (hv0:0<=v) (hv:v<n):∃ r,idx F u=some r/\r.length=n/\F[u.toNat]?=some r/\Lf.idx r v=some (ent F u.toNat v.toNat):=by
 obtain ⟨r,h1,h2,h3⟩:=h.get (u:=u.toNat) (v:=v.toNat) (by omega) (by omega)
 exact ⟨r,zdM hu0 h1,h2,h1,zdM hv0 h3⟩
theorem Sq.set (h:Sq n F) {u v:Nat} {r:List Int} {e:Int} (hr:F[u]?=some r) (hv:v<n):Sq n (F.set u (r.set v e))/\∀ i j,ent (F.set u (r.set v e)) i j=if i=u/\j=v then e else ent F i j:=by
 have hu:=zy hr
 have hrl:=h.row u r hr
 refine ⟨⟨by rw [List.length_set];exact h.len,fun i x hx=>?_⟩,fun i j=>?_⟩
 ·by_cases hi:u=i
  ·subst hi
   rw [zN hu] at hx
   injection hx with hx
   rw [←hx,List.length_set];exact hrl
  ·rw [zG hi] at hx
   exact h.row i x hx
 ·unfold ent
  by_cases hi:u=i
  ·subst hi
   rw [zN hu,hr]
   simp only [Option.getD_some,true_and]
   by_cases hj:v=j
   ·subst hj
    rw [zN (by omega),if_pos rfl];rfl
   ·rw [zG hj,if_neg (fun e=>hj e.symm)]
  ·rw [zG hi,if_neg (fun e=>hi e.1.symm)]
end
theorem zmD {n:Int} (h0:0<=n) (h1:n<=100000):mkl 8 n (0:Int)=some (List.replicate n.toNat 0):=zpT h0 (by omega) (by omega)
theorem zsO (n:Nat):Sq n (List.replicate n (List.replicate n 0))/\∀ u v,ent (List.replicate n (List.replicate n 0)) u v=0:=by
 refine ⟨⟨by simp,fun u r hr=>?_⟩,fun u v=>?_⟩
 ·have:=List.getElem?_replicate (a:=List.replicate n (0:Int)) (n:=n) (i:=u)
  rw [this] at hr
  split at hr
  ·injection hr with hr;rw [←hr];simp
  ·cases hr
 ·unfold ent
  rw [List.getElem?_replicate]
  split
  ·simp only [Option.getD_some]
   rw [List.getElem?_replicate]
   split<;>rfl
  ·simp
section
variable {n:Int} {bs:List Bd}
theorem zmZ (h0:0<=n) (h1:n<=1000):iter (zcD n) (0,[],[])=some (List.replicate n.toNat (List.replicate n.toNat 0),List.replicate n.toNat (List.replicate n.toNat 0)):=by
 have key:=zw (F:=zcD n)
  (fun s=>0<=s.1/\s.1<=n/\s.2.1=List.replicate s.1.toNat (List.replicate n.toNat 0)/\s.2.2=List.replicate s.1.toNat (List.replicate n.toNat 0)) (fun s=>(n - s.1).toNat)
  (fun z=>z=(List.replicate n.toNat (List.replicate n.toNat 0),List.replicate n.toNat (List.replicate n.toNat 0))) ?_ (0,[],[]) ⟨by simp,h0,by simp,by simp⟩
 ·obtain ⟨z,hz,rfl⟩:=key;exact hz
 ·rintro ⟨i,A,B⟩ ⟨hi0,hi1,hA,hB⟩
  simp only at hi0 hi1 hA hB
  unfold zcD
  by_cases hlt:i<n
  ·left
   have hl:∀ X,X=List.replicate i.toNat (List.replicate n.toNat (0:Int))->app 24 X [List.replicate n.toNat 0]=some (List.replicate (i+1).toNat (List.replicate n.toNat 0)):=by
    intro X hX
    have hlen:X.length=i.toNat:=by rw [hX];simp
    rw [zaj (by rw [hlen];simp;omega) (by rw [hlen];simp;omega),hX]
    have:(i+1).toNat=i.toNat+1:=by omega
    rw [this,List.replicate_succ']
   simp only [hlt,decide_true,if_true,zmD h0 (by omega),Option.bind_some,hl A hA,hl B hB]
   have hw:w64 (i+1)=i+1:=zp (by omega) (by omega)
   exact ⟨_,rfl,⟨by simp only [hw];omega,by simp only [hw];omega,by simp only [hw],by simp only [hw]⟩,by simp only [hw];omega⟩
  ·right
   simp only [hlt,decide_false]
   have:i=n:=by omega
   subst this
   exact ⟨_,rfl,by rw [hA,hB]⟩
theorem zra {m:Nat} {S:Int->Bool} {R R1 R2:Nat->Nat->Int} {a b:Nat} {d:Int} (ha:a<m) (hb:b<m) (hab:a≠b)
  (h1:∀ u v,R1 u v=if u=a/\v=b then R a b+d else R u v) (h2:∀ u v,R2 u v=if u=b/\v=a then R1 b a+d else R1 u v) :
  zib m S R2=zib m S R+(if S a=S b then 0 else d):=by
 unfold zib
 rw [zlv (c:=fun u v=>ind (S u)*(1 - ind (S v))) (F:=R1) (G:=R2) hb ha (d:=d) (fun u v _ _ hne=>by rw [h2,if_neg (by omega)]) (by rw [h2,if_pos ⟨rfl,rfl⟩]),
  zlv (c:=fun u v=>ind (S u)*(1 - ind (S v))) (F:=R) (G:=R1) ha hb (d:=d) (fun u v _ _ hne=>by rw [h1,if_neg (by omega)]) (by rw [h1,if_pos ⟨rfl,rfl⟩])]
 unfold ind
 cases S a<;>cases S b<;>simp
theorem zmr (h0:0<=n) (h1:n<=1000) (hb:bs.length<=100000) (hw:WBs n bs) (A:List (List Int)) (hA:Sq n.toNat A) (hA0:∀ u v,ent A u v=0) :
  ∃ R,iter (zcC bs) (0,A)=some R/\Sq n.toNat R/\(∀ u v,0<=ent R u v/\ent R u v<=2000*bs.length)/\∀ S,zib n.toNat S (ent R)=zd2 S bs:=by
 have key:=zw (F:=zcC bs)
  (fun s=>0<=s.1/\s.1<=bs.length/\Sq n.toNat s.2/\(∀ u v,0<=ent s.2 u v/\ent s.2 u v<=2000*s.1)/\∀ S,zib n.toNat S (ent s.2)=zd2 S (bs.take s.1.toNat)) (fun s=>(bs.length - s.1).toNat)
  (fun R=>Sq n.toNat R/\(∀ u v,0<=ent R u v/\ent R u v<=2000*bs.length)/\∀ S,zib n.toNat S (ent R)=zd2 S bs) ?_ (0,A) ⟨by simp,by simp,hA,fun u v=>by rw [hA0];simp,fun S=>?_⟩
 ·exact key
 ·rintro ⟨i,A⟩ ⟨hi0,hi1,hA,hbd,hc⟩
  simp only at hi0 hi1 hA hbd hc
  unfold zcC
  by_cases hlt:i<bs.length
  ·left
   obtain ⟨⟨x,y,s⟩,hix,hib⟩:=zae (l:=bs) hi0 hlt
   obtain ⟨w1,w2,w3,w4,w5,w6,w7⟩:=hw _ _ hib
   simp only at w1 w2 w3 w4 w5 w6 w7
   obtain ⟨r,g1,g2,g3,g4⟩:=hA.idx (u:=x) (v:=y) w1 (by omega) w3 (by omega)
   obtain ⟨hA1,he1⟩:=hA.set (e:=ent A x.toNat y.toNat+s) g3 (v:=y.toNat) (by omega)
   obtain ⟨r1,k1,k2,k3,k4⟩:=hA1.idx (u:=y) (v:=x) w3 (by omega) w1 (by omega)
   have hb1:=hbd x.toNat y.toNat
   have hxy:ent (A.set x.toNat (r.set y.toNat (ent A x.toNat y.toNat+s))) y.toNat x.toNat=ent A y.toNat x.toNat:=by rw [he1,if_neg (by omega)]
   have hb2:=hbd y.toNat x.toNat
   rw [hxy] at k4
   obtain ⟨hA2,he2⟩:=hA1.set (e:=ent A y.toNat x.toNat+s) k3 (v:=x.toNat) (by omega)
   have hw1:w64 (ent A x.toNat y.toNat+s)=ent A x.toNat y.toNat+s:=zp (by omega) (by omega)
   have hw2:w64 (ent A y.toNat x.toNat+s)=ent A y.toNat x.toNat+s:=zp (by omega) (by omega)
   have hw3:w64 (i+1)=i+1:=zp (by omega) (by omega)
   simp only [hlt,decide_true,if_true,hix,Option.bind_some,g1,g4,hw1,k1,k4,hw2,hw3]
   refine ⟨_,rfl,⟨by simp only [];omega,by simp only [];omega,hA2,fun u v=>?_,fun S=>?_⟩,by simp only [];omega⟩
   ·simp only
    rw [he2]
    split
    ·omega
    ·rw [he1]
     split
     ·omega
     ·have:=hbd u v;omega
   ·simp only
    have hn1:(i+1).toNat=i.toNat+1:=by omega
    have htk:bs.take (i+1).toNat=bs.take i.toNat++[(x,y,s)]:=by
     rw [hn1,List.take_add_one,hib];rfl
    rw [htk]
    have hcapp:∀ (l:List Bd) (b:Bd),zd2 S (l++[b])=zd2 S l+(if S b.1=S b.2.1 then 0 else b.2.2):=by
     intro l b
     induction l with
     | nil=>simp [zd2]
     | cons c l ih=>simp only [List.cons_append,zd2,ih];omega
    rw [hcapp,←hc S]
    have hx:((x.toNat:Nat):Int)=x:=by omega
    have hy:((y.toNat:Nat):Int)=y:=by omega
    have:=zra (m:=n.toNat) (S:=S) (R:=ent A) (R1:=ent (A.set x.toNat (r.set y.toNat (ent A x.toNat y.toNat+s)))) (a:=x.toNat) (b:=y.toNat) (d:=s) (by omega) (by omega) (by omega) he1 (R2:=ent ((A.set x.toNat (r.set y.toNat (ent A x.toNat y.toNat+s))).set y.toNat (r1.set x.toNat (ent A y.toNat x.toNat+s)))) (by intro u v;rw [he2,hxy])
    rw [hx,hy] at this
    exact this
  ·right
   simp only [hlt,decide_false]
   have:i=bs.length:=by omega
   refine ⟨_,rfl,hA,fun u v=>by rw [←this];exact hbd u v,fun S=>?_⟩
   rw [hc S,this]
   simp
 ·simp only [zd2,List.take_zero,Int.toNat_zero]
  unfold zib
  have hz:∀ (k:Nat) (f:Nat->Int),(∀ i,f i=0)->zb1 k f=0:=fun k f hf=>by
   rw [zb0 (g:=fun _=>0) fun i _=>hf i,zjZ]
  refine hz _ _ fun u=>hz _ _ fun v=>by rw [hA0];simp
theorem zmY (h0:0<=n) (h1:n<=1000) (hb:bs.length<=100000) (hw:WBs n bs) :
  ∃ R F,zf9 n bs=some (R,F)/\Sq n.toNat R/\Sq n.toNat F/\(∀ u v,ent F u v=0)/\(∀ u v,0<=ent R u v/\ent R u v<=2000*bs.length)/\∀ S,zib n.toNat S (ent R)=zd2 S bs:=by
 obtain ⟨hz,hz0⟩:=zsO n.toNat
 obtain ⟨R,hR,h2,h3,h4⟩:=zmr h0 h1 hb hw _ hz hz0
 refine ⟨R,_,?_,h2,hz,hz0,h3,h4⟩
 unfold zf9 zf8 zf7
 rw [zmZ h0 h1]
 simp only [Option.bind_some]
 rw [hR]
 rfl
end
def Inj {α:Type} (Q:List α):Prop:=∀ (i j:Nat) (x:α),Q[i]?=some x->Q[j]?=some x->i=j
theorem Inj.snoc {α:Type} {Q:List α} {x:α} (h:Inj Q) (hx:x∉Q):Inj (Q++[x]):=by
 intro i j y hi hj
 have key:∀ k:Nat,(Q++[x])[k]?=some y->(k<Q.length/\Q[k]?=some y)\/(k=Q.length/\y=x):=by
  intro k hk
  by_cases hlt:k<Q.length
  ·rw [List.getElem?_append_left hlt] at hk;exact .inl ⟨hlt,hk⟩
  ·rw [List.getElem?_append_right (by omega)] at hk
   have hk2:=zy hk
   simp at hk2
   have:k=Q.length:=by omega
   subst this
   simp at hk
   exact .inr ⟨rfl,hk.symm⟩
 rcases key i hi with ⟨a,b⟩ | ⟨a,b⟩<;>rcases key j hj with ⟨c,d⟩ | ⟨c,d⟩
 ·exact h i j y b d
 ·exact absurd (d▸List.mem_of_getElem? b:x∈Q) hx
 ·exact absurd (b▸List.mem_of_getElem? d:x∈Q) hx
 ·omega
theorem zqH {α:Type} {l l2:List α} {lo:Nat} (h:lo<=l.length) (j:Nat):(cpy l lo l2)[j]?=if j<lo then l[j]? else if j - lo<min l2.length (l.length - lo) then l2[j - lo]? else l[j]?:=by
 unfold cpy
 have h1:(l.take lo).length=lo:=by rw [List.length_take];omega
 have h2:(l2.take (l.length - lo)).length=min l2.length (l.length - lo):=by rw [List.length_take];omega
 split
 ·rename_i hj
  rw [List.getElem?_append_left (by rw [List.length_append,h1];omega),List.getElem?_append_left (by omega),List.getElem?_take,if_pos hj]
 ·split
  ·rename_i hj hk
   rw [List.getElem?_append_left (by rw [List.length_append,h1,h2];omega),List.getElem?_append_right (by omega),h1,List.getElem?_take,if_pos (by omega)]
  ·rename_i hj hk
   rw [List.getElem?_append_right (by rw [List.length_append,h1,h2];omega),List.length_append,h1,h2,List.getElem?_drop]
   congr 1
   omega
theorem zoU {n:Int} (h0:1<=n) (h1:n<=100000):zdV [(-1)] n=some (List.replicate n.toNat (-1)):=by
 unfold zdV
 rw [if_neg (by simp;omega)]
 have e1:IntKind.wrap .u64 (([(-1:Int)].length:Nat):Int)=1:=by decide
 have e2:IntKind.wrap .u64 n=n:=by
  have:∀ m:Int,0<=m->m<18446744073709551616->IntKind.wrap .u64 m=m:=by
   intro m h0 h1
   show m % 18446744073709551616=m
   omega
  exact this n (by omega) (by omega)
 rw [e1,e2]
 have e3:ze0 1 n=some (0,n):=by
  unfold ze0
  rw [if_pos (by omega)]
  simp
  omega
 rw [e3]
 simp only [Option.bind_some]
 rw [if_neg (by simp)]
 unfold zcx
 have hd:decide (n>9223372036854775807)=false:=by simp;omega
 rw [hd]
 simp only [zp (n:=n) (by omega) (by omega),zmD (n:=n) (by omega) h1,Option.bind_some]
 have key:=zw (F:=zcw) (fun s=>s.1.length=n.toNat/\1<=s.2/\s.2<=n/\∀ j:Nat,j<s.2.toNat->s.1[j]?=some (-1)) (fun s=>(n - s.2).toNat) (fun z=>z=List.replicate n.toNat (-1)) ?_
  (cpy (List.replicate n.toNat 0) 0 [-1],((min [(-1:Int)].length (List.replicate n.toNat (0:Int)).length:Nat):Int)) ?_
 ·obtain ⟨z,hz,rfl⟩:=key
  rw [hz];rfl
 ·rintro ⟨l,k⟩ ⟨hl,hk0,hk1,hall⟩
  simp only at hl hk0 hk1 hall
  unfold zcw
  by_cases hlt:k<(l.length:Int)
  ·left
   have s1:zaL l k l.length=some ((l.take (l.length:Int).toNat).drop k.toNat):=by unfold zaL;rw [if_pos ⟨by omega,by omega,by omega⟩]
   have s2:zaL l 0 k=some ((l.take k.toNat).drop (0:Int).toNat):=by unfold zaL;rw [if_pos ⟨by omega,by omega,by omega⟩]
   simp only [hlt,decide_true,if_true,s1,s2,Option.bind_some]
   have hlen:((l.take k.toNat).drop (0:Int).toNat).length=k.toNat:=by
    rw [List.length_drop,List.length_take];simp;omega
   rw [hlen]
   have hw:w64 (k+((min k.toNat (l.length - k.toNat):Nat):Int))=k+((min k.toNat (l.length - k.toNat):Nat):Int):=zp (by omega) (by omega)
   rw [hw]
   refine ⟨_,rfl,⟨?_,by simp only [];omega,by simp only [];omega,?_⟩,by simp only [];omega⟩
   ·simp only
    rw [zov (by omega)]
    exact hl
   ·intro j hj
    simp only at hj ⊢
    rw [zqH (by omega)]
    split
    ·rename_i h;exact hall j h
    ·split
     ·rename_i h1 h2
      rw [List.getElem?_drop,List.getElem?_take]
      simp only [Int.toNat_zero,Nat.zero_add]
      rw [if_pos (by omega)]
      exact hall _ (by omega)
     ·rename_i h1 h2
      rw [hlen] at h2
      omega
  ·right
   simp only [hlt,decide_false]
   refine ⟨_,rfl,?_⟩
   apply List.ext_getElem?
   intro j
   rw [List.getElem?_replicate]
   split
   ·exact hall j (by omega)
   ·exact List.getElem?_eq_none (by omega)
 ·have hm:((min [(-1:Int)].length (List.replicate n.toNat (0:Int)).length:Nat):Int)=1:=by simp;omega
  refine ⟨by simp only [];rw [zov (by simp)];simp,by simp only [hm];omega,by simp only [hm];omega,fun j hj=>?_⟩
  simp only [hm] at hj
  have:j=0:=by omega
  subst this
  simp only
  rw [zqH (by simp),if_neg (by omega),if_pos (by simp;omega)]
  rfl
def Fr (R F:List (List Int)) (u v:Int):Prop:=ent F u.toNat v.toNat<ent R u.toNat v.toNat
section
variable {n:Nat} {R F:List (List Int)}
theorem ztd (hR:Sq n R) (hF:Sq n F) {u v:Int} (hu0:0<=u) (hu:u<n) (hv0:0<=v) (hv:v<n):∃ b,zdZ (R,F) u v=some b/\(b=true↔Fr R F u v):=by
 obtain ⟨r,g1,g2,g3,g4⟩:=hR.idx hu0 hu hv0 hv
 obtain ⟨f,k1,k2,k3,k4⟩:=hF.idx hu0 hu hv0 hv
 unfold zdZ
 simp only [g1,g4,k1,k4,Option.bind_some]
 exact ⟨_,rfl,by unfold Fr;simp⟩
structure WInv (n:Nat) (R F:List (List Int)) (a:Int) (par Q:List Int) (k:Nat):Prop where
 len:par.length=n
 inj:Inj Q
 hd:Q[0]?=some a
 kle:k<=Q.length
 rng:∀ x∈Q,0<=x/\x<n
 neg:Q.length+par.countP isNeg=n
 mem:∀ (v:Nat) (p:Int),par[v]?=some p->((v:Int)∈Q↔0<=p)
 src:∀ (i:Nat) (x:Int),Q[i]?=some x->i≠0->∃ (j:Nat) (p:Int),j<i/\Q[j]?=some p/\par[x.toNat]?=some p/\Fr R F p x
 cls:∀ (j:Nat) (u:Int),j<k->Q[j]?=some u->∀ v:Nat,v<n->Fr R F u v->(v:Int)∈Q
variable {a b:Int} {par Q:List Int} {k:Nat}
theorem zqN (hn:n<=1000) (hR:Sq n R) (hF:Sq n F) (h:WInv n R F a par Q k) {u:Int} (hu:Q[k]?=some u) (rest:List Int) :
  ∃ par' q',iter (zbK (R,F) (u,rest)) (par,0,Q.drop (k+1))=some (par',q')/\∃ Q',WInv n R F a par' Q' (k+1)/\q'=Q'.drop (k+1):=by
 have hur:=h.rng u (List.mem_of_getElem? hu)
 have key:=zw (F:=zbK (R,F) (u,rest))
  (fun s=>0<=s.2.1/\s.2.1<=n/\∃ Q',WInv n R F a s.1 Q' k/\s.2.2=Q'.drop (k+1)/\Q'[k]?=some u/\∀ v:Nat,(v:Int)<s.2.1->Fr R F u v->(v:Int)∈Q')
  (fun s=>(n - s.2.1).toNat) (fun z=>∃ Q',WInv n R F a z.1 Q' (k+1)/\z.2=Q'.drop (k+1)) ?_ (par,0,Q.drop (k+1)) ⟨by simp,by simp,Q,h,rfl,hu,fun v hv=>by simp only at hv;omega⟩
 ·obtain ⟨⟨p',q'⟩,hz,h2⟩:=key
  exact ⟨p',q',hz,h2⟩
 ·rintro ⟨par,v,q⟩ ⟨hv0,hv1,Q,hW,hq,hk,hcl⟩
  simp only at hv0 hv1 hW hq hcl
  unfold zbK
  simp only [hR.len]
  by_cases hlt:v<n
  ·left
   rw [if_pos (by simp [hlt])]
   obtain ⟨p,hp,hpp⟩:=zae (l:=par) hv0 (by rw [hW.len];omega)
   have hmem:=hW.mem v.toNat p hpp
   have hvn:((v.toNat:Nat):Int)=v:=by omega
   rw [hvn] at hmem
   have hw:w64 (v+1)=v+1:=zp (by omega) (by omega)
   simp only [hp,Option.bind_some]
   have keep:(Fr R F u v->v∈Q)->∃ s',zaT (R,F) (u,rest) (par,v,q) false=some (.inl s')/\(0<=s'.2.1/\s'.2.1<=n/\∃ Q',WInv n R F a s'.1 Q' k/\s'.2.2=Q'.drop (k+1)/\Q'[k]?=some u/\∀ v:Nat,(v:Int)<s'.2.1->Fr R F u v->(v:Int)∈Q')/\(n - s'.2.1).toNat<(n - v).toNat:=by
    intro hf
    unfold zaT zbM
    simp only [hw]
    refine ⟨_,rfl,⟨by simp only [];omega,by simp only [];omega,Q,hW,hq,hk,fun x hx hfr=>?_⟩,by simp only [];omega⟩
    simp only at hx
    by_cases hxv:(x:Int)=v
    ·rw [hxv] at hfr ⊢;exact hf hfr
    ·exact hcl x (by omega) hfr
   by_cases hneg:p<0
   ·rw [if_pos (by simp [hneg])]
    obtain ⟨b,hb,hbf⟩:=ztd hR hF hur.1 hur.2 hv0 hlt
    simp only [hb,Option.bind_some]
    cases b with
    | false=>exact keep fun hf=>absurd (hbf.2 hf) (by simp)
    | true=>
     have hfr:Fr R F u v:=hbf.1 rfl
     have hnm:v∉Q:=fun hm=>by have:=hmem.1 hm;omega
     have hc:(par.set v.toNat u).countP isNeg+1=par.countP isNeg:=zhM isNeg hpp (by simp [isNeg,hneg]) (by simp [isNeg];exact hur.1)
     have hneg':=hW.neg
     have hkl:k<Q.length:=zy hk
     have hql:q.length<n:=by rw [hq,List.length_drop];omega
     unfold zaT zbM
     simp only [if_true,hp,Option.bind_some,hR.len]
     have hs:zmi ((n:Int).toNat) q v=some (q++[v]):=by unfold zmi;rw [if_pos (by simpa using hql)]
     simp only [hs,Option.bind_some,hw]
     have hvp:v.toNat<par.length:=zy hpp
     refine ⟨_,rfl,⟨by simp only [];omega,by simp only [];omega,Q++[v],?_,?_,?_,?_⟩,by simp only [];omega⟩
     ·refine ⟨by simp only [List.length_set];exact hW.len,hW.inj.snoc hnm,?_,by rw [List.length_append];exact Nat.le_add_right_of_le hW.kle,?_,?_,?_,?_,?_⟩
      ·have h0:=zy hW.hd
       rw [List.getElem?_append_left h0];exact hW.hd
      ·intro x hx
       rcases List.mem_append.1 hx with hx | hx
       ·exact hW.rng x hx
       ·rw [List.mem_singleton.1 hx];exact ⟨hv0,hlt⟩
      ·simp only [List.length_append,List.length_cons,List.length_nil];omega
      ·intro x p' hx
       simp only at hx
       by_cases hxv:x=v.toNat
       ·subst hxv
        rw [zN hvp] at hx
        injection hx with hx
        subst hx
        rw [hvn]
        simp [hur.1]
       ·rw [zG (fun e=>hxv e.symm)] at hx
        rw [←hW.mem x p' hx,List.mem_append,List.mem_singleton]
        exact ⟨fun e=>e.resolve_right (by omega),.inl⟩
      ·intro i x hi hi0
       by_cases hil:i<Q.length
       ·rw [List.getElem?_append_left hil] at hi
        obtain ⟨j,p',h1,h2,h3,h4⟩:=hW.src i x hi hi0
        refine ⟨j,p',h1,by rw [List.getElem?_append_left (by omega)];exact h2,?_,h4⟩
        simp only
        rw [zG]
        ·exact h3
        ·intro e
         have hxr:=hW.rng x (List.mem_of_getElem? hi)
         have hxv:x=v:=by omega
         exact hnm (hxv▸List.mem_of_getElem? hi)
       ·rw [List.getElem?_append_right (by omega)] at hi
        have:=zy hi
        simp at this
        have hii:i - Q.length=0:=by omega
        rw [hii] at hi
        simp at hi
        subst hi
        exact ⟨k,u,by omega,by rw [List.getElem?_append_left hkl];exact hk,by simp only [];rw [zN hvp],hfr⟩
      ·intro j x hj hx y hy hfy
       rw [List.getElem?_append_left (by omega)] at hx
       exact List.mem_append_left _ (hW.cls j x hj hx y hy hfy)
     ·simp only
      rw [List.drop_append_of_le_length (by omega),hq]
     ·rw [List.getElem?_append_left hkl];exact hk
     ·intro x hx hfx
      simp only at hx
      by_cases hxv:(x:Int)=v
      ·rw [hxv];simp
      ·exact List.mem_append_left _ (hcl x (by omega) hfx)
   ·rw [if_neg (by simp [hneg])]
    exact keep fun _=>hmem.2 (by omega)
  ·right
   rw [if_neg (by simp [hlt])]
   have hkl:k<Q.length:=zy hk
   refine ⟨_,rfl,Q,⟨hW.len,hW.inj,hW.hd,by omega,hW.rng,hW.neg,hW.mem,hW.src,fun j x hj hx y hy hfy=>?_⟩,hq⟩
   by_cases hjk:j=k
   ·subst hjk
    rw [hk] at hx
    injection hx with hx
    subst hx
    exact hcl y (by omega) hfy
   ·exact hW.cls j x (by omega) hx y hy hfy
theorem zqM (hn:n<=1000) (hR:Sq n R) (hF:Sq n F) (h:WInv n R F a par Q 0) :
  ∃ par',iter (zbL (R,F)) (par,Q)=some par'/\∃ Q',WInv n R F a par' Q' Q'.length:=by
 have key:=zw (F:=zbL (R,F))
  (fun s=>∃ Q' k,WInv n R F a s.1 Q' k/\s.2=Q'.drop k)
  (fun s=>s.2.length+s.1.countP isNeg) (fun z=>∃ Q',WInv n R F a z Q' Q'.length) ?_ (par,Q) ⟨Q,0,h,rfl⟩
 ·exact key
 ·rintro ⟨par,q⟩ ⟨Q,k,hW,hq⟩
  simp only at hW hq
  unfold zbL
  have hneg:=hW.neg
  have hkl:=hW.kle
  have hql:q.length=Q.length - k:=by rw [hq,List.length_drop]
  have hc:zru q=some (q.length:Int):=by unfold zru;rw [if_pos (by omega)]
  simp only [hc,Option.bind_some]
  by_cases hlt:k<Q.length
  ·left
   rw [if_pos (by simp;omega)]
   obtain ⟨u,hu⟩:∃ u,Q[k]?=some u:=⟨_,List.getElem?_eq_getElem hlt⟩
   have hd:Q.drop k=u::Q.drop (k+1):=by
    rw [List.drop_eq_getElem_cons hlt]
    rw [List.getElem?_eq_getElem hlt] at hu
    injection hu with hu
    rw [hu]
   have hur:=hW.rng u (List.mem_of_getElem? hu)
   have hr:zqG q=some (u,Q.drop (k+1)):=by
    rw [hq,hd];show (if -9223372036854775808<=u/\u<=9223372036854775807 then some (u,Q.drop (k+1)) else none)=_;rw [if_pos ⟨by omega,by omega⟩]
   obtain ⟨par',q',hit,Q',hW',hq'⟩:=zqN hn hR hF hW hu (Q.drop (k+1))
   simp only [hr,Option.bind_some,hit]
   unfold zeP
   refine ⟨_,rfl,⟨Q',k+1,hW',hq'⟩,?_⟩
   have h1:=hW'.neg
   have h2:=hW'.kle
   show q'.length+par'.countP isNeg<q.length+par.countP isNeg
   rw [hq',hql,List.length_drop]
   omega
  ·right
   rw [if_neg (by simp only [decide_eq_true_eq];omega)]
   refine ⟨_,rfl,Q,?_⟩
   have:k=Q.length:=by omega
   rw [←this];exact hW
structure Way (n:Nat) (R F:List (List Int)) (a b:Int) (w:List Int):Prop where
 pos:1<=w.length
 hd:w[0]?=some a
 lst:w[w.length - 1]?=some b
 inj:Inj w
 rng:∀ x∈w,0<=x/\x<n
 most:w.length<=n
 edge:∀ (i:Nat) (x y:Int),w[i]?=some x->w[i+1]?=some y->Fr R F x y
theorem zrz (hn:n<=1000) (h:WInv n R F a par Q k):∀ (p:Nat) (x:Int) (out:List Int),Q[p]?=some x->1<=out.length->out[0]?=some b->out[out.length - 1]?=some x->Inj out->
  (∀ y∈out,∃ j,p<=j/\Q[j]?=some y)->out.length+p<=Q.length->(∀ (i:Nat) (x y:Int),out[i]?=some x->out[i+1]?=some y->Fr R F y x)->
  ∃ w,iter (zaS a par) (out,x)=some w/\1<=w.length/\w[0]?=some b/\w[w.length - 1]?=some a/\Inj w/\(∀ x∈w,0<=x/\x<n)/\w.length<=n/\∀ (i:Nat) (x y:Int),w[i]?=some x->w[i+1]?=some y->Fr R F y x:=by
 intro p
 induction p using Nat.strongRecOn with
 | _ p ih=>
  intro x out hx hl h0 hlast hinj hpos hle hedge
  have hQn:=h.neg
  by_cases hxa:x=a
  ·refine ⟨out,zD ?_,hl,h0,by rw [hlast,hxa],hinj,fun y hy=>?_,by omega,hedge⟩
   ·unfold zaS
    simp [hxa]
   ·obtain ⟨j,_,hj⟩:=hpos y hy
    exact h.rng y (List.mem_of_getElem? hj)
  ·have hp0:p≠0:=fun e=>by
    subst e;rw [h.hd] at hx;injection hx with hx;exact hxa hx.symm
   obtain ⟨j,q,hj,hq,hpar,hfr⟩:=h.src p x hx hp0
   have hxr:=h.rng x (List.mem_of_getElem? hx)
   have hstep:zaS a par (out,x)=some (.inl (out++[q],q)):=by
    unfold zaS
    simp only [hxa,decide_false,Bool.not_false,if_true,zdM hxr.1 hpar,Option.bind_some]
    rw [zaj (by simp;omega) (by simp;omega)]
    rfl
   rw [zI hstep]
   have hqn:q∉out:=fun hm=>by
    obtain ⟨i,hi,hqi⟩:=hpos q hm
    have:=h.inj i j q hqi hq
    omega
   have hget:∀ (i:Nat) (y:Int),(out++[q])[i]?=some y->(i<out.length/\out[i]?=some y)\/(i=out.length/\y=q):=by
    intro i y hi
    by_cases hil:i<out.length
    ·rw [List.getElem?_append_left hil] at hi;exact .inl ⟨hil,hi⟩
    ·rw [List.getElem?_append_right (by omega)] at hi
     have:=zy hi
     simp at this
     have hii:i - out.length=0:=by omega
     rw [hii] at hi
     simp at hi
     exact .inr ⟨by omega,hi.symm⟩
   refine ih j hj q (out++[q]) hq (by simp) (by rw [List.getElem?_append_left (by omega)];exact h0) (by simp) (hinj.snoc hqn) ?_ (by simp;omega) ?_
   ·intro y hy
    rcases List.mem_append.1 hy with hy | hy
    ·obtain ⟨i,hi,hyi⟩:=hpos y hy
     exact ⟨i,by omega,hyi⟩
    ·rw [List.mem_singleton.1 hy];exact ⟨j,Nat.le_refl _,hq⟩
   ·intro i y z hy hz
    rcases hget i y hy with ⟨h1,h2⟩ | ⟨h1,h2⟩<;>rcases hget (i+1) z hz with ⟨h3,h4⟩ | ⟨h3,h4⟩
    ·exact hedge i y z h2 h4
    ·have:i=out.length - 1:=by omega
     rw [this,hlast] at h2
     injection h2 with h2
     rw [←h2,h4];exact hfr
    ·omega
    ·omega
theorem zry (hn1:1<=n) (hn:n<=1000) (hR:Sq n R) (hF:Sq n F) (ha0:0<=a) (ha:a<n) (hb0:0<=b) (hb:b<n) :
  ∃ w,zeC (R,F) a b=some w/\(Way n R F a b w\/(w=[]/\∃ S:Int->Bool,S a=true/\S b=false/\∀ u v:Nat,u<n->v<n->S u=true->S v=false->¬Fr R F u v)):=by
 have hrep:=zoU (n:=(n:Int)) (by omega) (by omega)
 have hmk:mkc 8 (n:Int)=some []:=by unfold mkc;rw [if_pos ⟨by omega,by omega,by omega⟩]
 have hsend:zmi ((n:Int).toNat) [] a=some [a]:=by unfold zmi;rw [if_pos (by simp;omega)];rfl
 have hrl:(List.replicate (n:Int).toNat (-1:Int)).length=n:=by simp
 have hget:∀ (v:Nat) (p:Int),((List.replicate (n:Int).toNat (-1:Int)).set a.toNat a)[v]?=some p->v<n/\((v=a.toNat/\p=a)\/(v≠a.toNat/\p = -1)):=by
  intro v p hv
  have hvl:=zy hv
  rw [List.length_set,hrl] at hvl
  refine ⟨hvl,?_⟩
  by_cases hva:v=a.toNat
  ·subst hva
   rw [zN (by rw [hrl];exact hvl)] at hv
   injection hv with hv
   exact .inl ⟨rfl,hv.symm⟩
  ·rw [zG (fun e=>hva e.symm),List.getElem?_replicate] at hv
   split at hv
   ·injection hv with hv;exact .inr ⟨hva,hv.symm⟩
   ·cases hv
 have hcp:(List.replicate (n:Int).toNat (-1:Int)).countP isNeg=n:=by
  rw [List.countP_replicate];simp [isNeg]
 have h0:WInv n R F a ((List.replicate (n:Int).toNat (-1)).set a.toNat a) [a] 0:=by
  refine ⟨by rw [List.length_set,hrl],?_,rfl,by simp,?_,?_,?_,?_,fun j u hj=>by omega⟩
  ·intro i j x hi hj
   have h1:=zy hi
   have h2:=zy hj
   simp at h1 h2
   omega
  ·intro x hx
   rw [List.mem_singleton.1 hx];exact ⟨ha0,ha⟩
  ·have hg:(List.replicate (n:Int).toNat (-1:Int))[a.toNat]?=some (-1):=by
    rw [List.getElem?_replicate,if_pos (by omega)]
   have:=zhM isNeg hg (y:=a) (by simp [isNeg]) (by simp [isNeg];exact ha0)
   simp only [List.length_cons,List.length_nil]
   omega
  ·intro v p hv
   obtain ⟨hvl,⟨e1,e2⟩ | ⟨e1,e2⟩⟩:=hget v p hv
   ·subst e2
    rw [List.mem_singleton]
    omega
   ·subst e2
    rw [List.mem_singleton]
    omega
  ·intro i x hi hi0
   have:=zy hi
   simp at this
   omega
 obtain ⟨par,hit,Q,hW⟩:=zqM hn hR hF h0
 have hax:∃ x,idx (List.replicate (n:Int).toNat (-1:Int)) a=some x:=⟨_,zqD ha0 (by rw [hrl];exact ha)⟩
 obtain ⟨x0,hx0⟩:=hax
 unfold zeC
 simp only [hR.len,hrep,hmk,hsend,hx0,hit,Option.bind_some]
 unfold zeR
 obtain ⟨p,hp,hpp⟩:=zae (l:=par) hb0 (by rw [hW.len];exact hb)
 have hmem:=hW.mem b.toNat p hpp
 have hbn:((b.toNat:Nat):Int)=b:=by omega
 rw [hbn] at hmem
 simp only [hp,Option.bind_some]
 by_cases hneg:p<0
 ·rw [if_pos (by simp [hneg])]
  refine ⟨_,rfl,.inr ⟨rfl,fun x=>decide (x∈Q),?_,?_,?_⟩⟩
  ·simp;exact List.mem_of_getElem? hW.hd
  ·simp;intro hm;have:=hmem.1 hm;omega
  ·intro u v hu hv hS hV hf
   simp at hS hV
   obtain ⟨j,hj⟩:=List.getElem?_of_mem hS
   exact hV (hW.cls j u (zy hj) hj v hv hf)
 ·rw [if_neg (by simp [hneg])]
  obtain ⟨j,hj⟩:=List.getElem?_of_mem (hmem.2 (by omega))
  have hjl:=zy hj
  obtain ⟨w,hw,w1,w2,w3,w4,w5,w6,w7⟩:=zrz (b:=b) hn hW j b [b] hj (by simp) rfl rfl (by
   intro i j x hi hj
   have h1:=zy hi
   have h2:=zy hj
   simp at h1 h2
   omega) (by intro y hy;rw [List.mem_singleton.1 hy];exact ⟨j,Nat.le_refl _,hj⟩) (by simp;omega) (by
   intro i x y hi hj
   have h2:=zy hj
   simp at h2)
  rw [hw]
  simp only [Option.bind_some]
  unfold zeQ zfl
  have hne:ne w.reverse=some w.reverse:=by
   unfold ne
   cases hr:w.reverse with
   | nil=>have:w.length=0:=(by rw [←List.length_reverse,hr];rfl);omega
   | cons x l=>rfl
  simp only [hne,Option.bind_some]
  have hrev:∀ (i:Nat),i<w.length->w.reverse[i]?=w[w.length - 1 - i]?:=fun i hi=>List.getElem?_reverse hi
  refine ⟨_,rfl,.inl ⟨by simpa using w1,by rw [hrev 0 (by omega)];exact w3,?_,?_,fun x hx=>w5 x (by simpa using hx),by simpa using w6,?_⟩⟩
  ·rw [List.length_reverse,hrev _ (by omega)]
   have:w.length - 1 - (w.length - 1)=0:=by omega
   rw [this];exact w2
  ·intro i j x hi hj
   have h1:=zy hi
   have h2:=zy hj
   rw [List.length_reverse] at h1 h2
   rw [hrev _ h1] at hi
   rw [hrev _ h2] at hj
   have:=w4 _ _ _ hi hj
   omega
  ·intro i x y hi hj
   have h2:=zy hj
   rw [List.length_reverse] at h2
   rw [hrev _ (by omega)] at hi
   rw [hrev _ h2] at hj
   have:w.length - 1 - i=w.length - 1 - (i+1)+1:=by omega
   rw [this] at hi
   exact w7 _ _ _ hj hi
end
structure FI (n:Nat) (R F:List (List Int)):Prop where
 sq:Sq n F
 anti:∀ u v,u<n->v<n->ent F u v = - ent F v u
 le:∀ u v,u<n->v<n->ent F u v<=ent R u v
section
variable {n:Nat} {R F:List (List Int)} {a b:Int} {w:List Int}
theorem zqZ (hn:n<=1000) (hR:∀ u v,0<=ent R u v/\ent R u v<=1000000000) (hw:Way n R F a b w) (hF:FI n R F) :
  ∃ F',iter (zbj w) (1,F)=some F'/\FI n R F'/\∀ S,mid n S (ent F')=mid n S (ent F)+ind (S a) - ind (S b):=by
 have key:=zw (F:=zbj w)
  (fun s=>1<=s.1/\s.1<=w.length/\FI n R s.2/\(∀ u v:Nat,u<n->v<n->(v:Int)∉w.take s.1.toNat->ent s.2 u v=ent F u v)/\
   ∃ x,w[s.1.toNat - 1]?=some x/\∀ S,mid n S (ent s.2)=mid n S (ent F)+ind (S a) - ind (S x))
  (fun s=>(w.length - s.1).toNat) (fun F'=>FI n R F'/\∀ S,mid n S (ent F')=mid n S (ent F)+ind (S a) - ind (S b)) ?_ (1,F)
  ⟨by simp,by have:=hw.pos;simp only [];omega,hF,fun _ _ _ _ _=>rfl,a,hw.hd,fun S=>by simp only [];omega⟩
 ·exact key
 ·rintro ⟨i,G⟩ ⟨hi0,hi1,hG,hsame,x,hx,hmid⟩
  simp only at hi0 hi1 hG hsame hx hmid
  unfold zbj
  have hml:=hw.most
  by_cases hlt:i<w.length
  ·left
   obtain ⟨y,hiy,hy⟩:=zae (l:=w) (i:=i) (by omega) hlt
   have hw1:w64 (i - 1)=i - 1:=zp (by omega) (by omega)
   have hw2:w64 (i+1)=i+1:=zp (by omega) (by omega)
   have hix:idx w (i - 1)=some x:=zdM (by omega) (by rw [←hx];congr 1;omega)
   have hxr:=hw.rng x (List.mem_of_getElem? hx)
   have hyr:=hw.rng y (List.mem_of_getElem? hy)
   have hxy:x≠y:=fun e=>by
    subst e
    have:=hw.inj _ _ _ hx hy
    omega
   have hxyn:x.toNat≠y.toNat:=by omega
   obtain ⟨r,g1,g2,g3,g4⟩:=hG.sq.idx (u:=x) (v:=y) hxr.1 hxr.2 hyr.1 hyr.2
   have hfree:=hw.edge (i.toNat - 1) x y hx (by rw [←hy];congr 1;omega)
   unfold Fr at hfree
   have hynt:((y.toNat:Nat):Int)∉w.take i.toNat:=by
    intro hm
    obtain ⟨j,hj⟩:=List.getElem?_of_mem hm
    have hjl:=zy hj
    rw [List.length_take] at hjl
    rw [List.getElem?_take,if_pos (by omega)] at hj
    have hyy:((y.toNat:Nat):Int)=y:=by omega
    rw [hyy] at hj
    have:=hw.inj _ _ _ hj hy
    omega
   have hexy:=hsame x.toNat y.toNat (by omega) (by omega) hynt
   have b1:=hG.anti x.toNat y.toNat (by omega) (by omega)
   have b2:=hG.le y.toNat x.toNat (by omega) (by omega)
   have b3:=hR y.toNat x.toNat
   have b4:=hR x.toNat y.toNat
   have hv1:w64 (ent G x.toNat y.toNat+1)=ent G x.toNat y.toNat+1:=zp (by omega) (by omega)
   obtain ⟨hG1,he1⟩:=hG.sq.set (e:=ent G x.toNat y.toNat+1) g3 (v:=y.toNat) (by omega)
   obtain ⟨r1,k1,k2,k3,k4⟩:=hG1.idx (u:=y) (v:=x) hyr.1 hyr.2 hxr.1 hxr.2
   have hyx:ent (G.set x.toNat (r.set y.toNat (ent G x.toNat y.toNat+1))) y.toNat x.toNat=ent G y.toNat x.toNat:=by rw [he1,if_neg (by omega)]
   rw [hyx] at k4
   have hv2:w64 (ent G y.toNat x.toNat - 1)=ent G y.toNat x.toNat - 1:=zp (by omega) (by omega)
   obtain ⟨hG2,he2⟩:=hG1.set (e:=ent G y.toNat x.toNat - 1) k3 (v:=x.toNat) (by omega)
   simp only [hlt,decide_true,if_true,hw1,hix,hiy,g1,g4,Option.bind_some,hv1,k1,k4,hv2,hw2]
   have hfin:∀ u v,ent ((G.set x.toNat (r.set y.toNat (ent G x.toNat y.toNat+1))).set y.toNat (r1.set x.toNat (ent G y.toNat x.toNat - 1))) u v =
     if u=y.toNat/\v=x.toNat then ent G y.toNat x.toNat - 1 else if u=x.toNat/\v=y.toNat then ent G x.toNat y.toNat+1 else ent G u v:=fun u v=>by rw [he2,he1]
   refine ⟨_,rfl,⟨by simp only [];omega,by simp only [];omega,⟨hG2,?_,?_⟩,?_,y,?_,?_⟩,by simp only [];omega⟩
   ·intro u v hu hv
    simp only
    rw [hfin,hfin]
    have h1:=hG.anti u v hu hv
    by_cases c1:u=y.toNat/\v=x.toNat
    ·obtain ⟨rfl,rfl⟩:=c1
     rw [if_pos ⟨rfl,rfl⟩,if_neg (by omega),if_pos ⟨rfl,rfl⟩];omega
    ·rw [if_neg c1]
     by_cases c2:u=x.toNat/\v=y.toNat
     ·obtain ⟨rfl,rfl⟩:=c2
      rw [if_pos ⟨rfl,rfl⟩,if_pos ⟨rfl,rfl⟩];omega
     ·rw [if_neg c2,if_neg (by omega),if_neg (by omega)];exact h1
   ·intro u v hu hv
    simp only
    rw [hfin]
    split
    ·rename_i c;obtain ⟨rfl,rfl⟩:=c;omega
    ·split
     ·rename_i c;obtain ⟨rfl,rfl⟩:=c;omega
     ·exact hG.le u v hu hv
   ·intro u v hu hv hm
    simp only at hm ⊢
    have hn1:(i+1).toNat=i.toNat+1:=by omega
    rw [hn1,List.take_add_one,hy] at hm
    simp only [Option.toList_some,List.mem_append,List.mem_singleton,not_or] at hm
    have hvx:v≠x.toNat:=fun e=>by
     subst e
     apply hm.1
     have hxx:((x.toNat:Nat):Int)=x:=by omega
     rw [hxx]
     have:(w.take i.toNat)[i.toNat - 1]?=some x:=by rw [List.getElem?_take,if_pos (by omega)];exact hx
     exact List.mem_of_getElem? this
    rw [hfin,if_neg (by omega),if_neg (by omega)]
    exact hsame u v hu hv hm.1
   ·simp only
    rw [←hy];congr 1;omega
   ·intro S
    simp only
    have hxx:((x.toNat:Nat):Int)=x:=by omega
    have hyy:((y.toNat:Nat):Int)=y:=by omega
    have e1:mid n S (ent (G.set x.toNat (r.set y.toNat (ent G x.toNat y.toNat+1))))=mid n S (ent G)+ind (S ((x.toNat:Nat):Int))*1:=by
     unfold mid
     exact zlv (c:=fun u _=>ind (S u)) (a:=x.toNat) (b:=y.toNat) (by omega) (by omega) (fun u v _ _ hne=>by rw [he1,if_neg (by omega)]) (by rw [he1,if_pos ⟨rfl,rfl⟩])
    have e2:mid n S (ent ((G.set x.toNat (r.set y.toNat (ent G x.toNat y.toNat+1))).set y.toNat (r1.set x.toNat (ent G y.toNat x.toNat - 1))))=mid n S (ent (G.set x.toNat (r.set y.toNat (ent G x.toNat y.toNat+1))))+ind (S ((y.toNat:Nat):Int))*(-1):=by
     unfold mid
     exact zlv (c:=fun u _=>ind (S u)) (a:=y.toNat) (b:=x.toNat) (by omega) (by omega) (fun u v _ _ hne=>by rw [he2,if_neg (by omega)]) (by rw [he2,if_pos ⟨rfl,rfl⟩,hyx];omega)
    rw [e2,e1,hmid S,hxx,hyy]
    omega
  ·right
   rw [if_neg (by simp [hlt])]
   have hil:i=w.length:=by omega
   have hxb:x=b:=by
    have:=hw.lst
    rw [hil] at hx
    have e:((w.length:Nat):Int).toNat=w.length:=by omega
    rw [e,this] at hx
    injection hx with hx
    exact hx.symm
   exact ⟨_,rfl,hG,fun S=>by rw [hmid S,hxb]⟩
theorem zqV (hn1:1<=n) (hn:n<=1000) (hsq:Sq n R) (hR:∀ u v,0<=ent R u v/\ent R u v<=1000000000) (hC:∀ S,zib n S (ent R)<=1000000000) (hF:FI n R F) (hF0:∀ u v,ent F u v=0)
  (ha0:0<=a) (ha:a<n) (hb0:0<=b) (hb:b<n) (hab:a≠b) (most:Int) :
  ∃ v F',zdY (R,F) a b most=some (v,(R,F'))/\0<=v/\FI n R F'/\(∀ S:Int->Bool,S a=true->S b=false->mid n S (ent F')=v)/\(∀ S:Int->Bool,S a=true->S b=false->v<=zib n S (ent R))/\
   (v<most->∃ S:Int->Bool,S a=true/\S b=false/\zib n S (ent R)=v):=by
 have hA:∀ (G:List (List Int)) (v:Int),FI n R G->(∀ S:Int->Bool,S a=true->S b=false->mid n S (ent G)=v)->∀ S:Int->Bool,S a=true->S b=false->v<=zib n S (ent R):=by
  intro G v hG hm S h1 h2
  rw [←hm S h1 h2,znR hG.anti]
  exact zs3 hG.le
 have hS0:(fun x:Int=>decide (x=a)) a=true:=by simp
 have hS1:(fun x:Int=>decide (x=a)) b=false:=by simp;exact fun e=>hab e.symm
 have key:=zw (F:=zcB (R,F) a b most)
  (fun s=>0<=s.1/\FI n R s.2/\∀ S:Int->Bool,S a=true->S b=false->mid n S (ent s.2)=s.1) (fun s=>(zib n (fun x:Int=>decide (x=a)) (ent R) - s.1).toNat)
  (fun z=>z.2.1=R/\0<=z.1/\FI n R z.2.2/\(∀ S:Int->Bool,S a=true->S b=false->mid n S (ent z.2.2)=z.1)/\(z.1<most->∃ S:Int->Bool,S a=true/\S b=false/\zib n S (ent R)=z.1)) ?_ (0,F)
  ⟨by simp,hF,fun S _ _=>?_⟩
 ·obtain ⟨⟨v,R',F'⟩,hz,h1,h2,h3,h4,h5⟩:=key
  simp only at h1 h2 h3 h4 h5
  subst h1
  refine ⟨v,F',?_,h2,h3,h4,hA F' v h3 h4,h5⟩
  unfold zdY
  simp only [hz,Option.bind_some]
 ·rintro ⟨v,G⟩ ⟨hv0,hG,hm⟩
  simp only at hv0 hG hm
  unfold zcB
  obtain ⟨w,hw,hor⟩:=zry hn1 hn hsq hG.sq ha0 ha hb0 hb
  simp only [hw,Option.bind_some]
  rcases hor with hW | ⟨hnil,S,s1,s2,s3⟩
  ·have hne:w≠[]:=fun e=>by have:=hW.pos;rw [e] at this;simp at this
   rw [if_neg (by simp [hne])]
   unfold zbk
   by_cases hvm:v≥most
   ·right
    rw [if_pos (by simp [hvm])]
    exact ⟨_,rfl,rfl,hv0,hG,hm,fun h=>by simp only at h;omega⟩
   ·left
    rw [if_neg (by simp [hvm])]
    obtain ⟨G',hit,hG',hm'⟩:=zqZ hn hR hW hG
    simp only [hit,Option.bind_some]
    unfold zek
    have hmv:∀ S:Int->Bool,S a=true->S b=false->mid n S (ent G')=v+1:=by
     intro S h1 h2
     rw [hm' S,hm S h1 h2,h1,h2]
     simp [ind]
    have hle:=hA G' (v+1) hG' hmv (fun x:Int=>decide (x=a)) hS0 hS1
    have hCv:=hC (fun x:Int=>decide (x=a))
    have hw1:w64 (v+1)=v+1:=zp (by omega) (by omega)
    simp only [hw1]
    exact ⟨_,rfl,⟨by simp only [];omega,hG',hmv⟩,by simp only [];omega⟩
  ·right
   rw [if_pos (by simp [hnil])]
   unfold zbk
   rw [if_pos rfl]
   refine ⟨_,rfl,rfl,hv0,hG,hm,fun _=>⟨S,s1,s2,?_⟩⟩
   simp only
   rw [←hm S s1 s2,znR hG.anti]
   symm
   refine zs4 fun u v hu hv h1 h2=>?_
   have:=s3 u v hu hv h1 h2
   unfold Fr at this
   simp only [Int.toNat_natCast] at this
   have:=hG.le u v hu hv
   omega
 ·simp only
  unfold mid
  have hz:∀ (k:Nat) (f:Nat->Int),(∀ i,f i=0)->zb1 k f=0:=fun k f hf=>by
   rw [zb0 (g:=fun _=>0) fun i _=>hf i,zjZ]
  exact hz _ _ fun u=>hz _ _ fun v=>by rw [hF0];simp
end
theorem zp4 {n:Int} {bs:List Bd} (hn1:1<=n) (hn:n<=1000) (hb:bs.length<=100000) (hw:WBs n bs) (t:Int) :
  ∃ b,ziV n bs t=some b/\(b=true↔Holds n bs t):=by
 have hcap:∀ S,zd2 S bs<=1000*bs.length:=fun S=>zqi fun b hb=>by
  obtain ⟨k,hk⟩:=List.getElem?_of_mem hb
  obtain ⟨_,_,_,_,_,h6,h7⟩:=hw k b hk
  omega
 have key:=zw (F:=zgM n bs t)
  (fun y=>1<=y/\y<=n/\∀ z,1<=z->z<y->∀ S:Int->Bool,S 0=true->S z=false->t<=zd2 S bs) (fun y=>(n - y).toNat)
  (fun z=>match z with | .inl _=>Holds n bs t | .inr b=>b=false/\¬Holds n bs t) ?_ 1 ⟨by simp,hn1,fun z h1 h2=>by omega⟩
 ·obtain ⟨z,hz,hr⟩:=key
  unfold ziV
  rw [hz]
  cases z with
  | inl z=>exact ⟨true,rfl,fun _=>hr,fun _=>rfl⟩
  | inr z=>
   have hr1:z=false:=hr.1
   exact ⟨z,rfl,⟨fun h=>by (rw [hr1] at h;cases h),fun h=>absurd h hr.2⟩⟩
 ·rintro y ⟨hy0,hy1,hall⟩
  unfold zgM
  by_cases hlt:y<n
  ·rw [if_pos (by simp [hlt])]
   obtain ⟨R,F,h1,h2,h3,h4,h5,h6⟩:=zmY (n:=n) (by omega) hn hb hw
   have hnn:((n.toNat:Nat):Int)=n:=by omega
   obtain ⟨v,F',g1,g2,g3,g4,g5,g6⟩:=zqV (n:=n.toNat) (R:=R) (F:=F) (a:=0) (b:=y) (by omega) (by omega) h2 (fun u v=>by have:=h5 u v;omega) (fun S=>by rw [h6];have:=hcap S;omega)
    ⟨h3,fun u v _ _=>by rw [h4,h4];rfl,fun u v _ _=>by rw [h4];exact (h5 u v).1⟩ h4 (by omega) (by omega) (by omega) (by omega) (by omega) t
   simp only [h1,g1,Option.bind_some]
   by_cases hvt:v<t
   ·right
    rw [if_pos (by simp [hvt])]
    refine ⟨_,rfl,rfl,fun hh=>?_⟩
    obtain ⟨S,s1,s2,s3⟩:=g6 hvt
    have:=hh S s1 ⟨y,hy0,hlt,s2⟩
    rw [h6] at s3
    omega
   ·left
    rw [if_neg (by simp [hvt]),zp (by omega) (by omega)]
    refine ⟨_,rfl,⟨by omega,by omega,fun z hz1 hz2 S hS0 hSz=>?_⟩,by omega⟩
    by_cases hzy:z=y
    ·subst hzy
     have:=g5 S hS0 hSz
     rw [h6] at this
     omega
    ·exact hall z hz1 (by omega) S hS0 hSz
  ·right
   rw [if_neg (by simp [hlt])]
   refine ⟨_,rfl,fun S hS0 ⟨z,hz1,hz2,hz3⟩=>hall z hz1 (by omega) S hS0 hz3⟩
theorem zj3 {A B:Type} {F:A×Int->Option ((A×Int) ⊕ A)} (l:List B) (f:A->B->A) (a0:A) (hlen:l.length<=1000000)
  (step:∀ (a:A) (i:Nat) (x:B),l[i]?=some x->a=(l.take i).foldl f a0->F (a,(i:Int))=some (.inl (f a x,w64 ((i:Int)+1))))
  (stop:∀ a,a=l.foldl f a0->F (a,(l.length:Int))=some (.inr a)):iter F (a0,0)=some (l.foldl f a0):=by
 have key:=zw (F:=F) (fun s=>0<=s.2/\s.2<=l.length/\s.1=(l.take s.2.toNat).foldl f a0) (fun s=>(l.length - s.2).toNat) (fun z=>z=l.foldl f a0) ?_ (a0,0) ⟨by simp,by simp,by simp⟩
 ·obtain ⟨z,hz,rfl⟩:=key;exact hz
 ·rintro ⟨a,i⟩ ⟨h0,h1,ha⟩
  simp only at h0 h1 ha
  obtain ⟨k,rfl⟩:=Int.eq_ofNat_of_zero_le h0
  simp only [Int.toNat_natCast] at ha
  by_cases hlt:k<l.length
  ·left
   have hx:l[k]?=some l[k]:=List.getElem?_eq_getElem hlt
   have hw:w64 ((k:Int)+1)=(k:Int)+1:=zp (by omega) (by omega)
   refine ⟨_,step a k _ hx ha,?_,?_⟩
   ·refine ⟨by simp only [hw];omega,by simp only [hw];omega,?_⟩
    simp only [hw]
    have:((k:Int)+1).toNat=k+1:=by omega
    rw [this,List.take_add_one,hx,List.foldl_append,←ha]
    rfl
   ·simp only [hw];omega
  ·right
   have hk:k=l.length:=by omega
   subst hk
   rw [List.take_length] at ha
   exact ⟨a,stop a ha,ha⟩
theorem zu {α:Type} {l:List α} {i:Nat} {x:α} (h:l[i]?=some x):idx l (i:Int)=some x:=by
 unfold idx
 rw [if_pos (by omega)]
 simpa using h
theorem zdJ {α β:Type} (p:α->Bool) (g:α->β):∀ (l:List α) (a:List β),l.foldl (fun a x=>if p x then a++[g x] else a) a=a++(l.filter p).map g
 | [],a=>by simp
 | x::l,a=>by
  rw [List.foldl_cons,zdJ p g l]
  by_cases hp:p x=true
  ·rw [if_pos hp,List.filter_cons_of_pos hp];simp
  ·rw [if_neg hp,List.filter_cons_of_neg hp]
structure Lead (n:Nat) (L nm:List Int):Prop where
 len:L.length=n
 nlen:nm.length=n
 low:∀ (i:Nat) (p:Int),L[i]?=some p -> -1<=p/\p<i
 root:∀ (i:Nat) (r:Int),nm[i]?=some r->0<=r/\r<=i/\iter (gstep L) (i:Int)=some r/\∃ q,L[r.toNat]?=some q/\q<0
theorem zhJ {L:List Int} {i:Int} {p:Int} (h0:0<=i) (h:L[i.toNat]?=some p) (hp:p<0):iter (gstep L) i=some i:=by
 apply zD
 unfold gstep
 rw [zdM h0 h]
 simp only [Option.bind_some]
 rw [if_pos hp]
theorem zne {L:List Int} {i:Int} {p:Int} (h0:0<=i) (h:L[i.toNat]?=some p) (hp:0<=p):iter (gstep L) i=iter (gstep L) p:=by
 apply zI
 unfold gstep
 rw [zdM h0 h]
 simp only [Option.bind_some]
 rw [if_neg (by omega)]
theorem zrW {L:List Int} (hL:∀ (i:Nat) (p:Int),L[i]?=some p -> -1<=p/\p<i) {m k:Int} (hm0:0<=m) (hk0:0<=k) (hkm:k<m) {q q':Int} (hm:L[m.toNat]?=some q) (hq:q<0) (hk:L[k.toNat]?=some q') (hq':q'<0) :
  ∀ (i:Nat) (r:Int),i<L.length->iter (gstep L) (i:Int)=some r->iter (gstep (L.set m.toNat k)) (i:Int)=some (if r=m then k else r):=by
 intro i
 induction i using Nat.strongRecOn with
 | _ i ih=>
  intro r hi hr
  have hml:=zy hm
  obtain ⟨p,hp⟩:∃ p,L[i]?=some p:=⟨_,List.getElem?_eq_getElem hi⟩
  have hpl:=hL i p hp
  have hp':L[(i:Int).toNat]?=some p:=by simpa using hp
  by_cases hneg:p<0
  ·rw [zhJ (by omega) hp' hneg] at hr
   injection hr with hr
   subst hr
   by_cases him:(i:Int)=m
   ·subst him
    simp only [Int.toNat_natCast] at *
    rw [if_pos trivial]
    rw [zne (p:=k) (by omega) (by simp only [Int.toNat_natCast];rw [zN hml]) hk0]
    exact zhJ hk0 (by rw [zG (by omega)];exact hk) hq'
   ·rw [if_neg him]
    exact zhJ (by omega) (by simp only [Int.toNat_natCast];rw [zG (by omega)];exact hp) hneg
  ·have him:m.toNat≠i:=fun e=>by
    rw [e,hp] at hm;injection hm with hm;omega
   rw [zne (by omega) hp' (by omega)] at hr
   rw [zne (p:=p) (by omega) (by simp only [Int.toNat_natCast];rw [zG him];exact hp) (by omega)]
   have hpn:((p.toNat:Nat):Int)=p:=by omega
   rw [←hpn] at hr ⊢
   exact ih p.toNat (by omega) r (by omega) hr
def ren (x y:Int) (z:Int):Int:=if z=max x y then min x y else z
theorem zrd {n:Nat} {L nm:List Int} (h:Lead n L nm) {i j:Nat} {x y:Int} (hi:nm[i]?=some x) (hj:nm[j]?=some y) :
  Lead n (if x<y then L.set y.toNat x else if y<x then L.set x.toNat y else L) (nm.map (ren x y)):=by
 obtain ⟨x0,x1,x2,qx,x3,x4⟩:=h.root i x hi
 obtain ⟨y0,y1,y2,qy,y3,y4⟩:=h.root j y hj
 have hil:=zy hi
 have hjl:=zy hj
 have main:∀ (m k:Int) (q q':Int),0<=m->0<=k->k<m->m<=(n:Int)->L[m.toNat]?=some q->q<0->L[k.toNat]?=some q'->q'<0->Lead n (L.set m.toNat k) (nm.map fun z=>if z=m then k else z):=by
  intro m k q q' hm0 hk0 hkm hmn hm hq hk hq'
  refine ⟨by rw [List.length_set];exact h.len,by rw [List.length_map];exact h.nlen,fun a p hp=>?_,fun a r hr=>?_⟩
  ·by_cases ha:m.toNat=a
   ·subst ha
    rw [zN (zy hm)] at hp
    injection hp with hp
    omega
   ·rw [zG ha] at hp
    exact h.low a p hp
  ·rw [List.getElem?_map] at hr
   cases hz:nm[a]? with
   | none=>rw [hz] at hr;cases hr
   | some z=>
    rw [hz] at hr
    simp only [Option.map_some] at hr
    injection hr with hr
    obtain ⟨r0,r1,r2,q2,r3,r4⟩:=h.root a z hz
    have hal:a<L.length:=by have:=zy hz;rw [h.nlen] at this;rw [h.len];exact this
    have:=zrW h.low hm0 hk0 hkm hm hq hk hq' a z hal r2
    rw [hr] at this
    subst hr
    refine ⟨?_,?_,this,?_⟩
    ·split<;>omega
    ·split<;>omega
    ·by_cases hzm:z=m
     ·rw [if_pos hzm]
      exact ⟨q',by rw [zG (by omega)];exact hk,hq'⟩
     ·rw [if_neg hzm]
      exact ⟨q2,by rw [zG (by omega)];exact r3,r4⟩
 rw [h.nlen] at hil hjl
 by_cases h1:x<y
 ·rw [if_pos h1]
  have e:nm.map (ren x y)=nm.map fun z=>if z=y then x else z:=by
   apply List.map_congr_left
   intro z _
   unfold ren
   rw [show max x y=y by omega,show min x y=x by omega]
  rw [e]
  exact main y x qy qx y0 x0 h1 (by omega) y3 y4 x3 x4
 ·rw [if_neg h1]
  by_cases h2:y<x
  ·rw [if_pos h2]
   have e:nm.map (ren x y)=nm.map fun z=>if z=x then y else z:=by
    apply List.map_congr_left
    intro z _
    unfold ren
    rw [show max x y=x by omega,show min x y=y by omega]
   rw [e]
   exact main x y qx qy x0 y0 h2 (by omega) x3 x4 y3 y4
  ·rw [if_neg h2]
   have:x=y:=by omega
   subst this
   have e:nm.map (ren x x)=nm:=by
    have:ren x x=id:=by
     funext z;unfold ren
     rw [Int.max_self,Int.min_self]
     split
     ·rename_i hz;exact hz.symm
     ·rfl
    rw [this,List.map_id]
   rw [e];exact h
def zgV (bs:List Bd) (nm:List Int):List Int:=bs.foldl (fun nm b=>nm.map (ren (nm.getD b.1.toNat 0) (nm.getD b.2.1.toNat 0))) nm
theorem zgO {l:List Int} {i:Nat} {x:Int} (h:l[i]?=some x):l.getD i 0=x:=by
 rw [List.getD_eq_getElem?_getD,h];rfl
section
variable {n:Nat} {bs:List Bd}
theorem zjR (hb:bs.length<=100000) (hw:WBs n bs) {L nm:List Int} (h:Lead n L nm) :
  ∃ L',iter (zdc bs) (0,L)=some L'/\Lead n L' (zgV bs nm):=by
 have key:=zw (F:=zdc bs) (fun s=>0<=s.1/\s.1<=bs.length/\Lead n s.2 (zgV (bs.take s.1.toNat) nm)) (fun s=>(bs.length - s.1).toNat)
  (fun L'=>Lead n L' (zgV bs nm)) ?_ (0,L) ⟨by simp,by simp,by simpa [zgV] using h⟩
 ·exact key
 ·rintro ⟨i,L⟩ ⟨h0,h1,hL⟩
  simp only at h0 h1 hL
  unfold zdc
  by_cases hlt:i<bs.length
  ·left
   obtain ⟨⟨x,y,s⟩,hix,hib⟩:=zae (l:=bs) h0 hlt
   obtain ⟨w1,w2,w3,w4,w5,w6,w7⟩:=hw _ _ hib
   simp only at w1 w2 w3 w4 w5 w6 w7
   obtain ⟨nm',hnm'⟩:∃ z,z=zgV (bs.take i.toNat) nm:=⟨_,rfl⟩
   rw [←hnm'] at hL
   obtain ⟨rx,hrx⟩:∃ r,nm'[x.toNat]?=some r:=⟨_,List.getElem?_eq_getElem (by rw [hL.nlen];omega)⟩
   obtain ⟨ry,hry⟩:∃ r,nm'[y.toNat]?=some r:=⟨_,List.getElem?_eq_getElem (by rw [hL.nlen];omega)⟩
   obtain ⟨lx,hlx,_⟩:=zae (l:=L) w1 (by rw [hL.len];exact w2)
   obtain ⟨ly,hly,_⟩:=zae (l:=L) w3 (by rw [hL.len];exact w4)
   obtain ⟨_,_,ix,_⟩:=hL.root _ _ hrx
   obtain ⟨_,_,iy,_⟩:=hL.root _ _ hry
   rw [show ((x.toNat:Nat):Int)=x by omega] at ix
   rw [show ((y.toNat:Nat):Int)=y by omega] at iy
   have hww:w64 (i+1)=i+1:=zp (by omega) (by omega)
   have hj:=zrd hL hrx hry
   have hnames:zgV (bs.take (i+1).toNat) nm=nm'.map (ren rx ry):=by
    have:(i+1).toNat=i.toNat+1:=by omega
    rw [this,List.take_add_one,hib]
    unfold zgV at hnm' ⊢
    rw [List.foldl_append,←hnm']
    simp only [Option.toList_some,List.foldl_cons,List.foldl_nil]
    rw [zgO hrx,zgO hry]
   simp only [hlt,decide_true,if_true,hix,hlx,ix,hly,iy,Option.bind_some]
   unfold zde
   simp only [hww]
   by_cases c1:rx<ry
   ·rw [if_pos (by simp [c1])]
    rw [if_pos c1] at hj
    exact ⟨_,rfl,⟨by simp only [];omega,by simp only [];omega,by simp only [];rw [hnames];exact hj⟩,by simp only [];omega⟩
   ·rw [if_neg (by simp [c1])]
    rw [if_neg c1] at hj
    by_cases c2:ry<rx
    ·rw [if_pos (by simp [c2])]
     rw [if_pos c2] at hj
     exact ⟨_,rfl,⟨by simp only [];omega,by simp only [];omega,by simp only [];rw [hnames];exact hj⟩,by simp only [];omega⟩
    ·rw [if_neg (by simp [c2])]
     rw [if_neg c2] at hj
     exact ⟨_,rfl,⟨by simp only [];omega,by simp only [];omega,by simp only [];rw [hnames];exact hj⟩,by simp only [];omega⟩
  ·right
   rw [if_neg (by simp [hlt])]
   refine ⟨_,rfl,?_⟩
   rw [show i.toNat=bs.length by omega,List.take_length] at hL
   exact hL
theorem zq7 (bs:List Bd):∀ (nm:List Int),(zgV bs nm).length=nm.length:=by
 induction bs with
 | nil=>intro nm;rfl
 | cons b bs ih=>intro nm;unfold zgV at ih ⊢;rw [List.foldl_cons,ih,List.length_map]
theorem zoP {x y:Int} (nm:List Int) (hn:nm.length<=100000):iter (zcp x y) (nm,0)=some (nm.map (ren x y)):=by
 have key:=zw (F:=zcp x y) (fun s=>0<=s.2/\s.2<=nm.length/\s.1=(nm.take s.2.toNat).map (ren x y)++nm.drop s.2.toNat) (fun s=>(nm.length - s.2).toNat)
  (fun z=>z=nm.map (ren x y)) ?_ (nm,0) ⟨by simp,by simp,by simp⟩
 ·obtain ⟨z,hz,rfl⟩:=key;exact hz
 ·rintro ⟨l,i⟩ ⟨h0,h1,hl⟩
  simp only at h0 h1 hl
  obtain ⟨k,rfl⟩:=Int.eq_ofNat_of_zero_le h0
  simp only [Int.toNat_natCast] at hl
  have htl:((nm.take k).map (ren x y)).length=k:=by rw [List.length_map,List.length_take];omega
  have hll:l.length=nm.length:=by rw [hl,List.length_append,htl,List.length_drop];omega
  unfold zcp
  by_cases hlt:(k:Int)<l.length
  ·left
   obtain ⟨z,hz⟩:∃ z,nm[k]?=some z:=⟨_,List.getElem?_eq_getElem (by omega)⟩
   have hlz:l[k]?=some z:=by rw [hl,List.getElem?_append_right (by omega),htl,Nat.sub_self,List.getElem?_drop];simpa using hz
   have hmax:zea x y=some (max x y):=by unfold zea;split<;>simp_all<;>omega
   have hmin:zd9 x y=some (min x y):=by unfold zd9;split<;>simp_all<;>omega
   have hw:w64 ((k:Int)+1)=(k:Int)+1:=zp (by omega) (by omega)
   simp only [hlt,decide_true,if_true,zu hlz,hmax,hmin,Option.bind_some]
   unfold zdS
   simp only [hw]
   have hset:l.set k (ren x y z)=(nm.take (k+1)).map (ren x y)++nm.drop (k+1):=by
    rw [hl,List.set_append_right _ _ (by omega),htl,Nat.sub_self,List.drop_eq_getElem_cons (by omega),List.set_cons_zero,List.take_add_one,hz]
    simp
   have hk1:((k:Int)+1).toNat=k+1:=by omega
   by_cases hzm:z=max x y
   ·rw [if_pos (by simp [hzm])]
    refine ⟨_,rfl,⟨by simp only [];omega,by simp only [];omega,?_⟩,by simp only [];omega⟩
    simp only [hk1,Int.toNat_natCast]
    rw [←hset];unfold ren;rw [if_pos hzm]
   ·rw [if_neg (by simp [hzm])]
    refine ⟨_,rfl,⟨by simp only [];omega,by simp only [];omega,?_⟩,by simp only [];omega⟩
    simp only [hk1]
    rw [←hset];unfold ren;rw [if_neg hzm]
    apply List.ext_getElem?
    intro j
    by_cases hj:k=j
    ·subst hj;rw [zN (zy hlz),hlz]
    ·rw [zG hj]
  ·right
   rw [if_neg (by simp;omega)]
   refine ⟨_,rfl,?_⟩
   rw [hl,show k=nm.length by omega]
   simp
theorem zpL (hb:bs.length<=100000) (hw:WBs n bs) (nm:List Int) (hn:nm.length=n) (hn1:n<=100000):iter (zcs bs) (nm,0)=some (zgV bs nm):=by
 refine zj3 bs _ nm (by omega) ?_ ?_
 ·intro a i b hib ha
  obtain ⟨w1,w2,w3,w4,w5,w6,w7⟩:=hw _ _ hib
  have hal:a.length=n:=by rw [ha];exact (zq7 _ _).trans hn
  unfold zcs
  obtain ⟨rx,hrx,hrx2⟩:=zae (l:=a) w1 (by omega)
  obtain ⟨ry,hry,hry2⟩:=zae (l:=a) w3 (by omega)
  have hil:=zy hib
  rw [if_pos (by simp [hil])]
  simp only [zu hib,hrx,hry,Option.bind_some,zoP a (by omega)]
  unfold zfM
  rw [zgO hrx2,zgO hry2]
 ·intro a _
  unfold zcs
  rw [if_neg (by simp)]
end
def grp (nm:List Int) (i:Nat) (r:Int):List Int:=((List.range i).filter fun (k:Nat)=>decide (nm[k]?=some r)).map fun (k:Nat)=>(k:Int)
def zaK (nm:List Int) (i:Nat):List Int:=((List.range i).filter fun (k:Nat)=>decide (nm[k]?=some (k:Int))).map fun (k:Nat)=>(k:Int)
theorem zhK (nm:List Int) (i:Nat) (r:Int):grp nm (i+1) r=grp nm i r++if nm[i]?=some r then [(i:Int)] else []:=by
 unfold grp
 rw [List.range_succ,List.filter_append,List.map_append]
 congr 1
 by_cases h:nm[i]?=some r
 ·rw [if_pos h,List.filter_cons_of_pos (by simp [h])];rfl
 ·rw [if_neg h,List.filter_cons_of_neg (by simp [h])];rfl
theorem zeh (nm:List Int) (i:Nat):zaK nm (i+1)=zaK nm i++if nm[i]?=some (i:Int) then [(i:Int)] else []:=by
 unfold zaK
 rw [List.range_succ,List.filter_append,List.map_append]
 congr 1
 by_cases h:nm[i]?=some (i:Int)
 ·rw [if_pos h,List.filter_cons_of_pos (by simp [h])];rfl
 ·rw [if_neg h,List.filter_cons_of_neg (by simp [h])];rfl
theorem zmF (nm:List Int) (r:Int):∀ i,(grp nm i r).length<=i
 | 0=>by simp [grp]
 | i+1=>by
  have:=zmF nm r i
  rw [zhK,List.length_append]
  split<;>simp<;>omega
theorem zj2 (nm:List Int):∀ i,(zaK nm i).length<=i
 | 0=>by simp [zaK]
 | i+1=>by
  have:=zj2 nm i
  rw [zeh,List.length_append]
  split<;>simp<;>omega
theorem zmE {nm:List Int} {i:Nat} {r x:Int}:x∈grp nm i r↔0<=x/\x<i/\nm[x.toNat]?=some r:=by
 unfold grp
 simp only [List.mem_map,List.mem_filter,List.mem_range,decide_eq_true_eq]
 constructor
 ·rintro ⟨k,⟨h1,h2⟩,rfl⟩
  exact ⟨by omega,by omega,by simpa using h2⟩
 ·rintro ⟨h1,h2,h3⟩
  exact ⟨x.toNat,⟨by omega,h3⟩,by omega⟩
theorem ziy {nm:List Int} {i:Nat} {x:Int}:x∈zaK nm i↔0<=x/\x<i/\nm[x.toNat]?=some x:=by
 unfold zaK
 simp only [List.mem_map,List.mem_filter,List.mem_range,decide_eq_true_eq]
 constructor
 ·rintro ⟨k,⟨h1,h2⟩,rfl⟩
  exact ⟨by omega,by omega,by simpa using h2⟩
 ·rintro ⟨h1,h2,h3⟩
  exact ⟨x.toNat,⟨by omega,by rw [h3];congr 1;omega⟩,by omega⟩
theorem zlL (nm:List Int):∀ i,Inj (zaK nm i)
 | 0=>by intro i j x h;simp [zaK] at h
 | i+1=>by
  rw [zeh]
  split
  ·refine (zlL nm i).snoc fun h=>?_
   have:=(ziy.1 h).2.1
   omega
  ·rw [List.append_nil];exact zlL nm i
def zgc (nm:List Int) (n:Nat):List (List Int):=(zaK nm n).map (grp nm n)
section
variable {n:Nat} {nm:List Int}
theorem zlI (hn:n<=100000) (hlen:nm.length=n) (hlow:∀ (i:Nat) (r:Int),nm[i]?=some r->0<=r/\r<=i) {out:List (List Int)} {i:Nat} (hi:i<n) :
  iter (zcq n nm (out,i)) ([],(i:Int))=some (grp nm n i):=by
 have hnil:grp nm i (i:Int)=[]:=by
  rw [List.eq_nil_iff_forall_not_mem]
  intro x hx
  obtain ⟨h1,h2,h3⟩:=zmE.1 hx
  have:=hlow _ _ h3
  omega
 have key:=zw (F:=zcq n nm (out,i)) (fun s=>(i:Int)<=s.2/\s.2<=n/\s.1=grp nm s.2.toNat i) (fun s=>((n:Int) - s.2).toNat)
  (fun z=>z=grp nm n i) ?_ ([],(i:Int)) ⟨by simp,by simp only [];omega,by simp [hnil]⟩
 ·obtain ⟨z,hz,rfl⟩:=key;exact hz
 ·rintro ⟨a,k⟩ ⟨h0,h1,ha⟩
  simp only at h0 h1 ha
  obtain ⟨k,rfl⟩:=Int.eq_ofNat_of_zero_le (show 0<=k by omega)
  simp only [Int.toNat_natCast] at ha
  unfold zcq
  by_cases hlt:(k:Int)<n
  ·left
   obtain ⟨z,hz⟩:∃ z,nm[k]?=some z:=⟨_,List.getElem?_eq_getElem (by omega)⟩
   have hw:w64 ((k:Int)+1)=(k:Int)+1:=zp (by omega) (by omega)
   have hk1:((k:Int)+1).toNat=k+1:=by omega
   have hgl:=zmF nm i k
   simp only [hlt,decide_true,if_true,zu hz,Option.bind_some]
   unfold zdT
   simp only [hw]
   by_cases hzi:z=i
   ·rw [if_pos (by simp [hzi]),zaj (by rw [ha];simp;omega) (by rw [ha];simp;omega)]
    refine ⟨_,rfl,⟨by simp only [];omega,by simp only [];omega,?_⟩,by simp only [];omega⟩
    simp only [hk1]
    rw [zhK,hz,if_pos (by rw [hzi]),ha]
   ·rw [if_neg (by simp [hzi])]
    refine ⟨_,rfl,⟨by simp only [];omega,by simp only [];omega,?_⟩,by simp only [];omega⟩
    simp only [hk1]
    rw [zhK,hz,if_neg (by simpa using hzi),ha,List.append_nil]
  ·right
   rw [if_neg (by simp;omega)]
   exact ⟨_,rfl,by rw [ha,show k=n by omega]⟩
theorem zmp (hn:n<=100000) (hlen:nm.length=n) (hlow:∀ (i:Nat) (r:Int),nm[i]?=some r->0<=r/\r<=i) :
  iter (zcr n nm) ([],0)=some (zgc nm n):=by
 have key:=zw (F:=zcr n nm) (fun s=>0<=s.2/\s.2<=n/\s.1=(zaK nm s.2.toNat).map (grp nm n)) (fun s=>((n:Int) - s.2).toNat)
  (fun z=>z=zgc nm n) ?_ ([],0) ⟨by simp,by simp,by simp [zaK]⟩
 ·obtain ⟨z,hz,rfl⟩:=key;exact hz
 ·rintro ⟨a,k⟩ ⟨h0,h1,ha⟩
  simp only at h0 h1 ha
  obtain ⟨k,rfl⟩:=Int.eq_ofNat_of_zero_le h0
  simp only [Int.toNat_natCast] at ha
  unfold zcr
  by_cases hlt:(k:Int)<n
  ·left
   obtain ⟨z,hz⟩:∃ z,nm[k]?=some z:=⟨_,List.getElem?_eq_getElem (by omega)⟩
   have hw:w64 ((k:Int)+1)=(k:Int)+1:=zp (by omega) (by omega)
   have hk1:((k:Int)+1).toNat=k+1:=by omega
   simp only [hlt,decide_true,if_true,zu hz,Option.bind_some]
   have hrl:=zj2 nm k
   have hal:a.length<=k:=by rw [ha,List.length_map];exact hrl
   by_cases hzi:z=k
   ·rw [if_neg (by simp [hzi]),zlI hn hlen hlow (by omega)]
    simp only [Option.bind_some]
    unfold zfN zcu
    rw [zaj (by simp;omega) (by simp;omega)]
    simp only [Option.bind_some,hw]
    refine ⟨_,rfl,⟨by simp only [];omega,by simp only [];omega,?_⟩,by simp only [];omega⟩
    simp only [hk1]
    rw [zeh,hz,if_pos (by rw [hzi]),ha,List.map_append];rfl
   ·rw [if_pos (by simp [hzi])]
    unfold zcu
    simp only [hw]
    refine ⟨_,rfl,⟨by simp only [];omega,by simp only [];omega,?_⟩,by simp only [];omega⟩
    simp only [hk1]
    rw [zeh,hz,if_neg (by simpa using hzi),ha,List.append_nil]
  ·right
   rw [if_neg (by simp;omega)]
   exact ⟨_,rfl,by rw [ha,show k=n by omega];rfl⟩
end
section
variable {n:Nat} {nm:List Int}
def ztZ (nm:List Int) (i:Nat) (pl:List (Int×Int)):Prop:=
 ∀ r:Int,(r∈zaK nm i->zfm pl r=true/\∃ j:Nat,zd1 pl r=some (j:Int)/\(zaK nm i)[j]?=some r)/\(r∉zaK nm i->zfm pl r=false)
theorem zo9 {α β:Type} [DecidableEq α] {m:List (α×β)} {k:α}:zfm m k=true↔∃ p∈m,p.1=k:=by
 unfold zfm
 simp
theorem zo6 {α β:Type} [DecidableEq α] {m:List (α×β)} {k:α} {v:β} (h:zfm m k=false):zix m k v=m++[(k,v)]:=by
 unfold zix
 rw [if_neg (by simp [h])]
theorem zq8 {α β:Type} [DecidableEq α] {m:List (α×β)} {k k':α} {v:β} (h:zfm m k=false):zd1 (m++[(k,v)]) k'=if k'=k then some v else zd1 m k':=by
 unfold zd1
 rw [List.find?_append]
 by_cases hk:k'=k
 ·subst hk
  rw [if_pos rfl]
  have hn:m.find? (fun p=>decide (p.1=k'))=none:=by
   rw [List.find?_eq_none]
   intro p hp hd
   have:zfm m k'=true:=zo9.2 ⟨p,hp,by simpa using hd⟩
   rw [h] at this;cases this
  rw [hn]
  simp
 ·rw [if_neg hk]
  cases m.find? (fun p=>decide (p.1=k')) with
  | some p=>simp
  | none=>simp [show ¬k=k' from fun e=>hk e.symm]
theorem znS {α β:Type} [DecidableEq α] {m:List (α×β)} {k k':α} {v:β}:zfm (m++[(k,v)]) k'=(zfm m k'||decide (k=k')):=by
 unfold zfm
 rw [List.any_append]
 simp
theorem zmy {L:List Int} (hn:n<=100000) (hL:Lead n L nm):iter (zdb n L) ([],0,([]:List (Int×Int)))=some (zgc nm n):=by
 have hlow:∀ (i:Nat) (r:Int),nm[i]?=some r->0<=r/\r<=i:=fun i r h=>⟨(hL.root i r h).1,(hL.root i r h).2.1⟩
 have key:=zw (F:=zdb n L)
  (fun s=>0<=s.2.1/\s.2.1<=n/\s.1=(zaK nm s.2.1.toNat).map (grp nm s.2.1.toNat)/\ztZ nm s.2.1.toNat s.2.2) (fun s=>((n:Int) - s.2.1).toNat)
  (fun z=>z=zgc nm n) ?_ ([],0,[]) ⟨by simp,by simp,by simp [zaK],fun r=>⟨fun h=>by simp [zaK] at h,fun _=>rfl⟩⟩
 ·obtain ⟨z,hz,rfl⟩:=key;exact hz
 ·rintro ⟨a,k,pl⟩ ⟨h0,h1,ha,hpl⟩
  simp only at h0 h1 ha hpl
  obtain ⟨k,rfl⟩:=Int.eq_ofNat_of_zero_le h0
  simp only [Int.toNat_natCast] at ha hpl
  unfold zdb
  simp only [Int.toNat_natCast]
  by_cases hlt:(k:Int)<n
  ·left
   obtain ⟨r,hr⟩:∃ r,nm[k]?=some r:=⟨_,List.getElem?_eq_getElem (by rw [hL.nlen];omega)⟩
   obtain ⟨p,hp⟩:∃ p,L[k]?=some p:=⟨_,List.getElem?_eq_getElem (by rw [hL.len];omega)⟩
   obtain ⟨r0,r1,r2,q,r3,r4⟩:=hL.root k r hr
   have hw:w64 ((k:Int)+1)=(k:Int)+1:=zp (by omega) (by omega)
   have hk1:((k:Int)+1).toNat=k+1:=by omega
   have hrl:=zj2 nm k
   have hal:a.length=(zaK nm k).length:=by rw [ha,List.length_map]
   simp only [hlt,decide_true,if_true,zu hp,r2,Option.bind_some]
   by_cases hrk:r=k
   ·subst hrk
    have hnr:(k:Int)∉zaK nm k:=fun h=>by have:=(ziy.1 h).2.1;omega
    have hnh:=(hpl k).2 hnr
    rw [if_pos (by simp [hnh]),zaj (by simp;omega) (by simp;omega),zo6 hnh]
    simp only [Option.bind_some]
    unfold zdf
    have e1:idx (a++[([]:List Int)]) (a.length:Int)=some []:=zu (by rw [List.getElem?_append_right (Nat.le_refl _),Nat.sub_self];rfl)
    simp only [e1,Option.bind_some,zaj (α:=Int) (bytes:=8) (l:=[]) (l2:=[(k:Int)]) (by simp) (by simp),hw,Int.toNat_natCast]
    refine ⟨_,rfl,⟨by simp only [];omega,by simp only [];omega,?_,?_⟩,by simp only [];omega⟩
    ·simp only [hk1]
     rw [zeh,hr,if_pos rfl,List.map_append]
     rw [List.set_append_right _ _ (Nat.le_refl _),Nat.sub_self]
     simp only [List.set_cons_zero,List.map_cons,List.map_nil,List.nil_append]
     have hg:grp nm (k+1) k=[(k:Int)]:=by
      have hnil:grp nm k (k:Int)=[]:=by
       rw [List.eq_nil_iff_forall_not_mem]
       intro x hx
       obtain ⟨h1,h2,h3⟩:=zmE.1 hx
       have:=hlow _ _ h3
       omega
      rw [zhK,hr,if_pos rfl,hnil];rfl
     rw [hg,ha]
     congr 1
     apply List.map_congr_left
     intro x hx
     rw [zhK,hr,if_neg,List.append_nil]
     intro e
     injection e with e
     have:=(ziy.1 hx).2.1
     omega
    ·simp only [hk1]
     unfold ztZ
     rw [zeh,hr,if_pos rfl]
     intro r
     constructor
     ·intro hm
      rw [znS,zq8 hnh]
      rcases List.mem_append.1 hm with hm | hm
      ·obtain ⟨g1,j,g2,g3⟩:=(hpl r).1 hm
       refine ⟨by rw [g1];rfl,j,?_,by rw [List.getElem?_append_left (zy g3)];exact g3⟩
       rw [if_neg (by intro e;subst e;exact hnr hm)];exact g2
      ·rw [List.mem_singleton] at hm
       subst hm
       refine ⟨by simp,a.length,by rw [if_pos rfl],?_⟩
       rw [hal,List.getElem?_append_right (Nat.le_refl _),Nat.sub_self];rfl
     ·intro hm
      rw [List.mem_append,List.mem_singleton,not_or] at hm
      rw [znS,(hpl r).2 hm.1]
      simp
      intro e;exact hm.2 e.symm
   ·have hmr:r∈zaK nm k:=by
     refine ziy.2 ⟨r0,by omega,?_⟩
     have hnr:r.toNat<nm.length:=by rw [hL.nlen];omega
     obtain ⟨r',hr'⟩:∃ r',nm[r.toNat]?=some r':=⟨_,List.getElem?_eq_getElem hnr⟩
     obtain ⟨_,_,x3,_⟩:=hL.root _ _ hr'
     have:=zhJ (L:=L) (i:=((r.toNat:Nat):Int)) (by omega) (by rw [Int.toNat_natCast];exact r3) r4
     rw [this] at x3
     injection x3 with x3
     rw [hr'];congr 1;omega
    obtain ⟨g1,j,g2,g3⟩:=(hpl r).1 hmr
    rw [if_neg (by simp [g1]),g2]
    simp only [Option.getD_some]
    unfold zdf
    have hjl:=zy g3
    have e1:a[j]?=some (grp nm k r):=by rw [ha,List.getElem?_map,g3];rfl
    have hgl:=zmF nm r k
    simp only [zu e1,Option.bind_some,zaj (bytes:=8) (l:=grp nm k r) (l2:=[(k:Int)]) (by simp;omega) (by simp;omega),hw,Int.toNat_natCast]
    refine ⟨_,rfl,⟨by simp only [];omega,by simp only [];omega,?_,?_⟩,by simp only [];omega⟩
    ·simp only [hk1]
     rw [zeh,hr,if_neg (by intro e;injection e with e;exact hrk e),List.append_nil]
     apply List.ext_getElem?
     intro j'
     rw [List.getElem?_map]
     by_cases hj:j=j'
     ·subst hj
      rw [zN (zy e1),g3]
      simp only [Option.map_some]
      rw [zhK,hr,if_pos rfl]
     ·rw [zG hj,ha,List.getElem?_map]
      cases hx:(zaK nm k)[j']? with
      | none=>rfl
      | some x=>
       simp only [Option.map_some]
       rw [zhK,hr,if_neg,List.append_nil]
       intro e
       injection e with e
       subst e
       exact hj (zlL nm k _ _ _ g3 hx)
    ·simp only [hk1]
     unfold ztZ
     rw [zeh,hr,if_neg (by intro e;injection e with e;exact hrk e),List.append_nil]
     exact hpl
  ·right
   rw [if_neg (by simp;omega)]
   have hk:k=n:=by omega
   subst hk
   exact ⟨_,rfl,ha⟩
theorem zrl {n:Nat} (hn:n<=100000):iter (zdd n) (0,[])=some (List.replicate n (-1)):=by
 have key:=zw (F:=zdd n) (fun s=>0<=s.1/\s.1<=n/\s.2=List.replicate s.1.toNat (-1)) (fun s=>((n:Int) - s.1).toNat) (fun z=>z=List.replicate n (-1)) ?_ (0,[]) ⟨by simp,by simp,by simp⟩
 ·obtain ⟨z,hz,rfl⟩:=key;exact hz
 ·rintro ⟨i,L⟩ ⟨h0,h1,hL⟩
  simp only at h0 h1 hL
  unfold zdd
  simp only [Int.toNat_natCast]
  have hl:L.length=i.toNat:=by rw [hL];simp
  by_cases hlt:i<n
  ·left
   have hw:w64 (i+1)=i+1:=zp (by omega) (by omega)
   have hf:zng n L i=some (L++[-1]):=by unfold zng;rw [if_pos ⟨by omega,by omega⟩]
   simp only [hlt,decide_true,if_true,hf,hw,Option.bind_some]
   refine ⟨_,rfl,⟨by simp only [];omega,by simp only [];omega,?_⟩,by simp only [];omega⟩
   simp only
   rw [hL,show (i+1).toNat=i.toNat+1 by omega,List.replicate_succ']
  ·right
   rw [if_neg (by simp;omega)]
   exact ⟨_,rfl,by rw [hL,show i.toNat=n by omega]⟩
def zdK (n:Nat):List Int:=(List.range n).map fun (k:Nat)=>(k:Int)
theorem zoQ {n:Nat} (hn:n<=100000):iter (zct n) ([],0)=some (zdK n):=by
 have key:=zw (F:=zct n) (fun s=>0<=s.2/\s.2<=n/\s.1=zdK s.2.toNat) (fun s=>((n:Int) - s.2).toNat) (fun z=>z=zdK n) ?_ ([],0) ⟨by simp,by simp,by simp [zdK]⟩
 ·obtain ⟨z,hz,rfl⟩:=key;exact hz
 ·rintro ⟨a,i⟩ ⟨h0,h1,hL⟩
  simp only at h0 h1 hL
  unfold zct
  have hl:a.length=i.toNat:=by rw [hL];simp [zdK]
  by_cases hlt:i<n
  ·left
   have hw:w64 (i+1)=i+1:=zp (by omega) (by omega)
   simp only [hlt,decide_true,if_true,zaj (α:=Int) (bytes:=8) (l:=a) (l2:=[i]) (by simp;omega) (by simp;omega),hw,Option.bind_some]
   refine ⟨_,rfl,⟨by simp only [];omega,by simp only [];omega,?_⟩,by simp only [];omega⟩
   simp only
   rw [hL,show (i+1).toNat=i.toNat+1 by omega]
   unfold zdK
   rw [List.range_succ,List.map_append]
   congr 1
   simp only [List.map_cons,List.map_nil]
   congr 1
   omega
  ·right
   rw [if_neg (by simp;omega)]
   exact ⟨_,rfl,by rw [hL,show i.toNat=n by omega]⟩
theorem zty (n:Nat):Lead n (List.replicate n (-1)) (zdK n):=by
 have hL:∀ (i:Nat) (p:Int),(List.replicate n (-1:Int))[i]?=some p->p = -1:=by
  intro i p h
  rw [List.getElem?_replicate] at h
  split at h
  ·injection h with h;exact h.symm
  ·cases h
 refine ⟨by simp,by simp [zdK],fun i p h=>by rw [hL i p h];omega,fun i r h=>?_⟩
 have hi:=zy h
 simp [zdK] at hi
 have hr:r=i:=by
  simp [zdK,List.getElem?_map,List.getElem?_range hi] at h
  exact h.symm
 subst hr
 have hg:(List.replicate n (-1:Int))[i]?=some (-1):=by rw [List.getElem?_replicate,if_pos hi]
 exact ⟨by omega,by omega,zhJ (by omega) (by simpa using hg) (by omega),-1,by simpa using hg,by omega⟩
theorem zrk {n:Nat} {bs:List Bd} (hn:n<=100000) (hb:bs.length<=100000) (hw:WBs n bs) :
  zgN n bs=some (zgc (zgV bs (zdK n)) n)/\zfR n bs=some (zgc (zgV bs (zdK n)) n):=by
 obtain ⟨L,hit,hL⟩:=zjR hb hw (zty n)
 constructor
 ·unfold zgN zgx zgw zgv
  have hf:fmk 8 (n:Int)=some []:=by unfold fmk;rw [if_pos ⟨by omega,by omega,by omega⟩]
  simp only [hf,Option.bind_some,zrl hn,hit,zmy hn hL]
 ·unfold zfR zfQ zfP zfO
  simp only [Option.bind_some,zoQ hn]
  rw [zpL hb hw _ (by simp [zdK]) hn]
  simp only [Option.bind_some]
  rw [zmp hn hL.nlen fun i r h=>⟨(hL.root i r h).1,(hL.root i r h).2.1⟩]
  simp only [Option.bind_some]
theorem zpz (l:List Bd) (h:l.length<=1000000):zc8 l=some l:=by
 unfold zc8 zbI
 rw [if_neg (by simp),zaj (by simp;omega) (by simp;omega)]
 rfl
theorem znD (l:List Bd) (h:l.length<=1000000) (p:Bd->Option Bool) (q:Bd->Bool) (hp:∀ b∈l,p b=some (q b)) :
  ∃ i:Int,zcy l p=some i/\((i = -1/\∀ b∈l,q b=false)\/(∃ k:Nat,i=k/\k<l.length/\(∀ (j:Nat) b,j<k->l[j]?=some b->q b=false)/\∃ b,l[k]?=some b/\q b=true)):=by
 have key:=zw (F:=zbq l p) (fun i=>0<=i/\i<=l.length/\∀ (j:Nat) b,(j:Int)<i->l[j]?=some b->q b=false) (fun i=>(l.length - i).toNat)
  (fun z=>match z with | .inl _=>∀ b∈l,q b=false | .inr i=>∃ k:Nat,i=k/\k<l.length/\(∀ (j:Nat) b,j<k->l[j]?=some b->q b=false)/\∃ b,l[k]?=some b/\q b=true) ?_ 0 ⟨by omega,by omega,fun j b hj=>by omega⟩
 ·obtain ⟨z,hz,hr⟩:=key
  unfold zcy
  rw [hz]
  cases z with
  | inl z=>exact ⟨-1,rfl,.inl ⟨rfl,hr⟩⟩
  | inr i=>exact ⟨i,rfl,.inr hr⟩
 ·rintro i ⟨h0,h1,hall⟩
  obtain ⟨k,rfl⟩:=Int.eq_ofNat_of_zero_le h0
  unfold zbq
  by_cases hlt:k<l.length
  ·have hk:l[k]?=some l[k]:=List.getElem?_eq_getElem hlt
   have hpk:=hp l[k] (List.getElem_mem hlt)
   have hw:w64 ((k:Int)+1)=(k:Int)+1:=zp (by omega) (by omega)
   have hd:((k:Int)<(l.length:Int)):=by omega
   simp only [hd,decide_true,if_true,zu hk,Option.bind_some,hpk,hw]
   cases hq:q l[k] with
   | true=>right;exact ⟨_,rfl,k,rfl,hlt,fun j b hj=>hall j b (by omega),_,hk,hq⟩
   | false=>
    left
    refine ⟨_,rfl,⟨by omega,by omega,fun j b hj hb=>?_⟩,by omega⟩
    by_cases hjk:j=k
    ·subst hjk;rw [hk] at hb;injection hb with hb;rw [←hb];exact hq
    ·exact hall j b (by omega) hb
  ·right
   have hd:¬((k:Int)<(l.length:Int)):=by omega
   simp only [hd,decide_false]
   refine ⟨_,rfl,?_⟩
   intro b hb
   obtain ⟨j,hj⟩:=List.getElem?_of_mem hb
   exact hall j b (by have:=zy hj;omega) hj
theorem zmA {α:Type} {p:α->Bool} {l:List α} {k:Nat} (h:∀ (j:Nat) b,j<k->l[j]?=some b->p b=true):(l.take k).filter p=l.take k:=by
 rw [List.filter_eq_self]
 intro b hb
 obtain ⟨j,hj⟩:=List.getElem?_of_mem hb
 have:=zy hj
 rw [List.length_take] at this
 rw [List.getElem?_take,if_pos (by omega)] at hj
 exact h j b (by omega) hj
theorem zos (l:List Bd) (h:l.length<=1000000) (p:Bd->Option Bool) (q:Bd->Bool) (hp:∀ b∈l,p b=some (q b)) :
  zb9 l p=some (l.filter fun b=>!q b):=by
 obtain ⟨i,hi,hor⟩:=znD l h p q hp
 unfold zb9
 simp only [hi,Option.bind_some]
 rcases hor with ⟨rfl,hall⟩ | ⟨k,rfl,hk,hlow,b,hb,hq⟩
 ·rw [if_pos (by simp)]
  congr 1
  symm
  rw [List.filter_eq_self]
  intro b hb;rw [hall b hb];rfl
 ·rw [if_neg (by simp)]
  have hw0:w64 ((k:Int)+1)=(k:Int)+1:=zp (by omega) (by omega)
  rw [hw0]
  have key:=zw (F:=za9 p) (fun s=>(k:Int)<s.2.2/\s.2.2<=l.length/\s.1.length=l.length/\0<=s.2.1/\s.2.1<s.2.2/\s.1.take s.2.1.toNat=(l.take s.2.2.toNat).filter (fun b=>!q b)/\∀ j,s.2.2.toNat<=j->s.1[j]?=l[j]?)
   (fun s=>(l.length - s.2.2).toNat) (fun z=>z.1.length=l.length/\0<=z.2/\z.2<=l.length/\z.1.take z.2.toNat=l.filter (fun b=>!q b)) ?_ (l,(k:Int),(k:Int)+1) ?_
  ·obtain ⟨⟨y,m⟩,hz,h1,h2,h3,h4⟩:=key
   simp only at h1 h2 h3 h4
   rw [hz]
   simp only [Option.bind_some]
   unfold zcF
   have hc:clr y m ((0,0,0):Bd)=some (y.take m.toNat++List.replicate (y.length - m.toNat) (0,0,0)):=by unfold clr;rw [if_pos ⟨by omega,by omega⟩]
   have hl:(y.take m.toNat).length=m.toNat:=by rw [List.length_take];omega
   have hs:zaL (y.take m.toNat++List.replicate (y.length - m.toNat) ((0,0,0):Bd)) 0 m=some (y.take m.toNat):=by
    unfold zaL
    rw [if_pos ⟨by omega,by omega,by rw [List.length_append,hl,List.length_replicate];omega⟩]
    simp only [Int.toNat_zero,List.drop_zero]
    rw [List.take_append_of_le_length (by omega),List.take_of_length_le (by omega)]
   rw [hc]
   simp only [Option.bind_some,hs]
   rw [h4]
  ·rintro ⟨y,m,j⟩ ⟨g1,g2,g3,g4,g5,g6,g7⟩
   simp only at g1 g2 g3 g4 g5 g6 g7
   obtain ⟨j,rfl⟩:=Int.eq_ofNat_of_zero_le (show 0<=j by omega)
   obtain ⟨m,rfl⟩:=Int.eq_ofNat_of_zero_le g4
   simp only [Int.toNat_natCast] at g6 g7
   unfold za9 zba
   by_cases hlt:j<l.length
   ·left
    have hlj:l[j]?=some l[j]:=List.getElem?_eq_getElem hlt
    have hyj:y[j]?=some l[j]:=by rw [g7 j (Nat.le_refl _)];exact hlj
    have hpj:=hp l[j] (List.getElem_mem hlt)
    have hw:w64 ((j:Int)+1)=(j:Int)+1:=zp (by omega) (by omega)
    have hw2:w64 ((m:Int)+1)=(m:Int)+1:=zp (by omega) (by omega)
    have hym:y[m]?=some y[m]:=List.getElem?_eq_getElem (by omega)
    have hj1:((j:Int)+1).toNat=j+1:=by omega
    have hm1:((m:Int)+1).toNat=m+1:=by omega
    rw [if_pos (by simp;omega)]
    simp only [zu hyj,Option.bind_some,hpj,hw,hw2,zu hym,Int.toNat_natCast]
    cases hq:q l[j] with
    | false=>
     rw [if_pos (by simp)]
     refine ⟨_,rfl,⟨by simp only [];omega,by simp only [];omega,by simp only [List.length_set];exact g3,by simp only [];omega,by simp only [];omega,?_,fun i hi=>?_⟩,by simp only [];omega⟩
     ·simp only [hj1,hm1]
      rw [List.take_add_one,zN (by omega),List.take_add_one,hlj,List.filter_append,List.take_set_of_le (by omega),g6]
      simp [hq]
     ·simp only [hj1] at hi ⊢
      rw [zG (by omega)]
      exact g7 i (by omega)
    | true=>
     rw [if_neg (by simp)]
     refine ⟨_,rfl,⟨by simp only [];omega,by simp only [];omega,g3,by simp only [];omega,by simp only [];omega,?_,fun i hi=>?_⟩,by simp only [];omega⟩
     ·simp only [hj1,Int.toNat_natCast]
      rw [g6,List.take_add_one,hlj,List.filter_append]
      simp [hq]
     ·simp only [hj1] at hi ⊢
      exact g7 i (by omega)
   ·right
    rw [if_neg (by simp;omega)]
    refine ⟨_,rfl,g3,by simp only [];omega,by simp only [];omega,?_⟩
    simp only [Int.toNat_natCast]
    rw [g6,show j=l.length by omega,List.take_length]
  ·refine ⟨by simp only [];omega,by simp only [];omega,rfl,by simp only [];omega,by simp only [];omega,?_,fun j hj=>rfl⟩
   simp only [Int.toNat_natCast]
   rw [show ((k:Int)+1).toNat=k+1 by omega,List.take_add_one,hb,List.filter_append,zmA fun j b' hj hb'=>by rw [hlow j b' hj hb'];rfl]
   simp [hq]
end
def WB (n:Int) (b:Bd):Prop:=0<=b.1/\b.1<n/\0<=b.2.1/\b.2.1<n/\b.1≠b.2.1/\0<=b.2.2/\b.2.2<=1000
theorem zjX {n:Int} {bs:List Bd}:WBs n bs↔∀ b∈bs,WB n b:=by
 constructor
 ·intro h b hb
  obtain ⟨k,hk⟩:=List.getElem?_of_mem hb
  exact h k b hk
 ·intro h k b hk
  exact h b (List.mem_of_getElem? hk)
section
variable {n:Nat} {bs:List Bd}
theorem zoN (hb:bs.length<=100000) (t:Int):iter (zcn bs t) ([],0)=some (bs.filter fun b=>!decide (b.2.2<t)):=by
 have e:(bs.filter fun b=>!decide (b.2.2<t))=bs.foldl (fun a x=>if (!decide (x.2.2<t)) then a++[x] else a) []:=by
  rw [zdJ (p:=fun x:Bd=>!decide (x.2.2<t)) (g:=fun x=>x)]
  simp
 rw [e]
 refine zj3 bs _ [] (by omega) ?_ ?_
 ·intro a i b hib ha
  have hil:=zy hib
  have hal:a.length<=i:=by
   rw [ha,zdJ (p:=fun x:Bd=>!decide (x.2.2<t)) (g:=fun x=>x)]
   simp only [List.nil_append,List.length_map]
   exact Nat.le_trans (List.length_filter_le _ _) (by rw [List.length_take];omega)
  unfold zcn zdP
  rw [if_pos (by simp [hil])]
  simp only [zu hib,Option.bind_some,zaj (bytes:=24) (l:=a) (l2:=[b]) (by simp;omega) (by simp;omega)]
  by_cases h:b.2.2<t
  ·rw [if_neg (by simp;omega),if_neg (by simp [h])]
  ·rw [if_pos (by simp;omega),if_pos (by simp;omega)]
 ·intro a _
  unfold zcn
  rw [if_neg (by simp)]
theorem zrH (G:List (List Int)):zaE G=zdO G:=by
 funext s
 unfold zaE zdO
 by_cases h:s.2<(G.length:Int)
 ·rw [if_pos (by simp [h]),if_pos (by simp [h])]
  cases hx:idx G s.2 with
  | none=>
   have:zbp G s (s.1,0)=none:=by unfold zbp;rw [hx];rfl
   rw [zrf this];rfl
  | some g=>
   have:za5 s g=zbp G s:=by
    funext r
    unfold za5 zbp
    rw [hx]
    rfl
   simp only [Option.bind_some,this]
   rfl
 ·rw [if_neg (by simp [h]),if_neg (by simp [h])]
theorem zqP {G:List (List Int)} (hn:n<=100000) (hG:G.length<=100000) (hG1:1<=G.length) (hg:∀ g∈G,g.length<=100000/\∀ x∈g,0<=x/\x<n) :
  ∃ tab,iter (zaE G) (List.replicate n 0,0)=some tab/\tab.length=n/\∀ x∈tab,0<=x/\x<G.length:=by
 have hset:∀ (tab:List Int) (k:Nat) (v:Int),(∀ x∈tab,0<=x/\x<(G.length:Int))->0<=v->v<G.length->∀ x∈tab.set k v,0<=x/\x<(G.length:Int):=by
  intro tab k v h h0 h1 x hx
  rcases List.mem_or_eq_of_mem_set hx with hx | hx
  ·exact h x hx
  ·rw [hx];exact ⟨h0,h1⟩
 refine zw (F:=zaE G) (fun s=>0<=s.2/\s.2<=G.length/\s.1.length=n/\∀ x∈s.1,0<=x/\x<G.length) (fun s=>(G.length - s.2).toNat)
  (fun tab=>tab.length=n/\∀ x∈tab,0<=x/\x<G.length) ?_ (List.replicate n 0,0) ⟨by simp,by simp,by simp,fun x hx=>by rw [(List.mem_replicate.1 hx).2];omega⟩
 rintro ⟨tab,i⟩ ⟨h0,h1,hl,hv⟩
 simp only at h0 h1 hl hv
 unfold zaE
 by_cases hlt:i<G.length
 ·left
  obtain ⟨g,hgi,hgg⟩:=zae (l:=G) h0 hlt
  obtain ⟨g1,g2⟩:=hg g (List.mem_of_getElem? hgg)
  rw [if_pos (by simp [hlt])]
  simp only [hgi,Option.bind_some]
  have key:=zw (F:=za5 (tab,i) g) (fun s=>0<=s.2/\s.2<=g.length/\s.1.length=n/\∀ x∈s.1,0<=x/\x<G.length) (fun s=>(g.length - s.2).toNat)
   (fun tab=>tab.length=n/\∀ x∈tab,0<=x/\x<G.length) ?_ (tab,0) ⟨by simp,by simp,hl,hv⟩
  ·obtain ⟨tab',ht,k1,k2⟩:=key
   have hw:w64 (i+1)=i+1:=zp (by omega) (by omega)
   rw [ht]
   simp only [Option.bind_some]
   unfold zfq
   simp only [hw]
   exact ⟨_,rfl,⟨by simp only [];omega,by simp only [];omega,k1,k2⟩,by simp only [];omega⟩
  ·rintro ⟨tab,j⟩ ⟨h0,h1,hl,hv⟩
   simp only at h0 h1 hl hv
   unfold za5
   by_cases hlt2:j<g.length
   ·left
    obtain ⟨x,hx,hxx⟩:=zae (l:=g) h0 hlt2
    have hxr:=g2 x (List.mem_of_getElem? hxx)
    obtain ⟨y,hy,_⟩:=zae (l:=tab) hxr.1 (by rw [hl];exact hxr.2)
    have hw:w64 (j+1)=j+1:=zp (by omega) (by omega)
    rw [if_pos (by simp [hlt2])]
    simp only [hx,hy,Option.bind_some,hw]
    exact ⟨_,rfl,⟨by simp only [];omega,by simp only [];omega,by simp only [List.length_set];exact hl,hset _ _ _ hv (by omega) hlt⟩,by simp only [];omega⟩
   ·right
    rw [if_neg (by simp [hlt2])]
    exact ⟨_,rfl,hl,hv⟩
 ·right
  rw [if_neg (by simp [hlt])]
  exact ⟨_,rfl,hl,hv⟩
def zk4 (tab:List Int) (b:Bd):Bool:=!decide (tab.getD b.1.toNat 0=tab.getD b.2.1.toNat 0)
def znL (tab:List Int) (b:Bd):Bd:=(tab.getD b.1.toNat 0,tab.getD b.2.1.toNat 0,b.2.2)
def zmT (tab:List Int) (b:Bd):Bd:=(min (tab.getD b.1.toNat 0) (tab.getD b.2.1.toNat 0),max (tab.getD b.1.toNat 0) (tab.getD b.2.1.toNat 0),b.2.2)
theorem zpl {β:Type} (p:Bd->Bool) (g:Bd->β) (l:List Bd) (i:Nat) (hi:i<=l.length):((l.take i).foldl (fun a x=>if p x then a++[g x] else a) []).length<=i:=by
 rw [zdJ]
 simp only [List.nil_append,List.length_map]
 exact Nat.le_trans (List.length_filter_le _ _) (by rw [List.length_take];omega)
theorem zol (hb:bs.length<=100000) (hw:WBs n bs) {tab:List Int} (ht:tab.length=n):iter (zb5 bs tab) ([],0)=some ((bs.filter (zk4 tab)).map (znL tab)):=by
 have e:=zdJ (zk4 tab) (znL tab) bs []
 rw [List.nil_append] at e
 rw [←e]
 refine zj3 bs _ [] (by omega) ?_ ?_
 ·intro a i b hib ha
  have hil:=zy hib
  have hal:a.length<=i:=by rw [ha];exact zpl _ _ _ _ (by omega)
  obtain ⟨w1,w2,w3,w4,w5,w6,w7⟩:=hw _ _ hib
  obtain ⟨x,hx,hxx⟩:=zae (l:=tab) w1 (by omega)
  obtain ⟨y,hy,hyy⟩:=zae (l:=tab) w3 (by omega)
  unfold zb5 zdr
  rw [if_pos (by simp [hil])]
  simp only [zu hib,hx,hy,Option.bind_some,zaj (bytes:=24) (l:=a) (l2:=[(x,y,b.2.2)]) (by simp;omega) (by simp;omega)]
  unfold zk4 znL
  rw [zgO hxx,zgO hyy]
  by_cases h:x=y
  ·rw [if_neg (by simp [h]),if_neg (by simp [h])]
  ·rw [if_pos (by simp [h]),if_pos (by simp [h])]
 ·intro a _
  unfold zb5
  rw [if_neg (by simp)]
theorem zn8 (hb:bs.length<=100000) (hw:WBs n bs) {tab:List Int} (ht:tab.length=n):iter (zcm bs tab) ([],0)=some ((bs.filter (zk4 tab)).map (zmT tab)):=by
 have e:=zdJ (zk4 tab) (zmT tab) bs []
 rw [List.nil_append] at e
 rw [←e]
 refine zj3 bs _ [] (by omega) ?_ ?_
 ·intro a i b hib ha
  have hil:=zy hib
  have hal:a.length<=i:=by rw [ha];exact zpl _ _ _ _ (by omega)
  obtain ⟨w1,w2,w3,w4,w5,w6,w7⟩:=hw _ _ hib
  obtain ⟨x,hx,hxx⟩:=zae (l:=tab) w1 (by omega)
  obtain ⟨y,hy,hyy⟩:=zae (l:=tab) w3 (by omega)
  have hmax:zea x y=some (max x y):=by unfold zea;split<;>simp_all<;>omega
  have hmin:zd9 x y=some (min x y):=by unfold zd9;split<;>simp_all<;>omega
  unfold zcm zdQ
  rw [if_pos (by simp [hil])]
  simp only [zu hib,hx,hy,hmax,hmin,Option.bind_some,zaj (bytes:=24) (l:=a) (l2:=[(min x y,max x y,b.2.2)]) (by simp;omega) (by simp;omega)]
  unfold zk4 zmT
  rw [zgO hxx,zgO hyy]
  by_cases h:x=y
  ·rw [if_neg (by simp [h]),if_neg (by simp [h])]
  ·rw [if_pos (by simp [h]),if_pos (by simp [h])]
 ·intro a _
  unfold zcm
  rw [if_neg (by simp)]
theorem zpA (S:Int->Bool) (tab:List Int):∀ (l:List Bd),zd2 S (l.map (znL tab))=zd2 S (l.map (zmT tab))
 | []=>rfl
 | b::l=>by
  simp only [List.map_cons,zd2,zpA S tab l]
  congr 1
  unfold znL zmT
  simp only
  rcases Int.le_total (tab.getD b.1.toNat 0) (tab.getD b.2.1.toNat 0) with h | h
  ·rw [Int.min_eq_left h,Int.max_eq_right h]
  ·rw [Int.min_eq_right h,Int.max_eq_left h]
   by_cases e:S (tab.getD b.1.toNat 0)=S (tab.getD b.2.1.toNat 0)
   ·rw [if_pos e,if_pos e.symm]
   ·rw [if_neg e,if_neg fun x=>e x.symm]
theorem znJ (hn0:1<=n) (hn:n<=100000) (hb:bs.length<=100000) (hw:WBs n bs) (t:Int) :
  ∃ (m:Nat) (b1 b2:List Bd),zfe n bs t=some ((m:Int),b1)/\zfK n bs t=some ((m:Int),b2)/\1<=m/\m<=n/\WBs m b1/\WBs m b2/\b1.length<=100000/\b2.length<=100000/\∀ S,zd2 S b1=zd2 S b2:=by
 obtain ⟨sb,hsb⟩:∃ z,z=bs.filter fun b=>!decide (b.2.2<t):=⟨_,rfl⟩
 have hsl:sb.length<=bs.length:=by rw [hsb];exact List.length_filter_le _ _
 have hsw:WBs n sb:=zjX.2 fun b hb=>zjX.1 hw b (by rw [hsb] at hb;exact (List.mem_filter.1 hb).1)
 obtain ⟨g1,g2⟩:=zrk hn (by omega:sb.length<=100000) hsw
 obtain ⟨G,hG⟩:∃ z,z=zgc (zgV sb (zdK n)) n:=⟨_,rfl⟩
 rw [←hG] at g1 g2
 have hGl:G.length=(zaK (zgV sb (zdK n)) n).length:=by rw [hG];unfold zgc;rw [List.length_map]
 have hGn:G.length<=n:=by rw [hGl];exact zj2 _ _
 obtain ⟨L,_,hL⟩:=zjR (by omega:sb.length<=100000) hsw (zty n)
 have hG1:1<=G.length:=by
  rw [hGl]
  obtain ⟨r,hr⟩:∃ r,(zgV sb (zdK n))[0]?=some r:=⟨_,List.getElem?_eq_getElem (by rw [hL.nlen];omega)⟩
  obtain ⟨r0,r1,_⟩:=hL.root 0 r hr
  have hr0:r=0:=by omega
  have:(0:Int)∈zaK (zgV sb (zdK n)) n:=ziy.2 ⟨by omega,by omega,by simpa [hr0] using hr⟩
  exact List.length_pos_of_mem this
 have hGg:∀ g∈G,g.length<=100000/\∀ x∈g,0<=x/\x<n:=by
  intro g hg
  rw [hG] at hg
  unfold zgc at hg
  obtain ⟨r,_,rfl⟩:=List.mem_map.1 hg
  have:=zmF (zgV sb (zdK n)) r n
  exact ⟨by omega,fun x hx=>⟨(zmE.1 hx).1,(zmE.1 hx).2.1⟩⟩
 obtain ⟨tab,ht,htl,htv⟩:=zqP hn (by omega) hG1 hGg
 have hbl:∀ (g:Bd->Bd),((bs.filter (zk4 tab)).map g).length<=100000:=fun g=>by
  rw [List.length_map];exact Nat.le_trans (List.length_filter_le _ _) hb
 have hval:∀ b∈bs.filter (zk4 tab),WB n b/\0<=tab.getD b.1.toNat 0/\tab.getD b.1.toNat 0<G.length/\0<=tab.getD b.2.1.toNat 0/\tab.getD b.2.1.toNat 0<G.length/\tab.getD b.1.toNat 0≠tab.getD b.2.1.toNat 0:=by
  intro b hb
  obtain ⟨h1,h2⟩:=List.mem_filter.1 hb
  have hwb:=zjX.1 hw b h1
  obtain ⟨w1,w2,w3,w4,w5,w6,w7⟩:=hwb
  obtain ⟨x,hx,hxx⟩:=zae (l:=tab) w1 (by omega)
  obtain ⟨y,hy,hyy⟩:=zae (l:=tab) w3 (by omega)
  have e1:=htv x (List.mem_of_getElem? hxx)
  have e2:=htv y (List.mem_of_getElem? hyy)
  unfold zk4 at h2
  rw [zgO hxx,zgO hyy] at h2 ⊢
  exact ⟨⟨w1,w2,w3,w4,w5,w6,w7⟩,e1.1,e1.2,e2.1,e2.2,by simpa using h2⟩
 refine ⟨G.length,_,_,?_,?_,hG1,hGn,?_,?_,hbl (znL tab),hbl (zmT tab),fun S=>zpA S tab _⟩
 ·unfold zfe zfs zfr
  have hd:=zos bs (by omega) (fun q0=>zft q0 t) (fun b=>decide (b.2.2<t)) (fun b _=>rfl)
  rw [zpz bs (by omega)]
  simp only [Option.bind_some]
  rw [hd,←hsb]
  simp only [Option.bind_some,g1,zmD (n:=(n:Int)) (by omega) (by omega),Int.toNat_natCast,ht,zol hb hw htl]
 ·unfold zfK zfJ zfI zfH
  rw [zoN hb t,←hsb]
  simp only [Option.bind_some,g2,zmD (n:=(n:Int)) (by omega) (by omega),Int.toNat_natCast]
  rw [←zrH G]
  simp only [ht,Option.bind_some,zn8 hb hw htl]
 ·rw [zjX]
  intro b hb
  obtain ⟨c,hc,rfl⟩:=List.mem_map.1 hb
  obtain ⟨⟨_,_,_,_,_,w6,w7⟩,a1,a2,a3,a4,a5⟩:=hval c hc
  exact ⟨a1,a2,a3,a4,a5,w6,w7⟩
 ·rw [zjX]
  intro b hb
  obtain ⟨c,hc,rfl⟩:=List.mem_map.1 hb
  obtain ⟨⟨_,_,_,_,_,w6,w7⟩,a1,a2,a3,a4,a5⟩:=hval c hc
  unfold zmT WB
  simp only
  omega
theorem zpi {m:Int} {b1 b2:List Bd} {t:Int} (h:∀ S,zd2 S b1=zd2 S b2):Holds m b1 t↔Holds m b2 t:=by
 unfold Holds
 constructor
 ·intro h1 S hS hy;rw [←h S];exact h1 S hS hy
 ·intro h1 S hS hy;rw [h S];exact h1 S hS hy
theorem zqR {p0:(List ((List UInt8)×Int))×(List ((List UInt8)×(List Int)))} {p1:List ((Int×Int)×Int)} (hn0:1<=p1.length) (hn:p1.length<=100000) (hb:bs.length<=100000) (hw:WBs p1.length bs)
  (h1:zb7 p0 p1=some bs) (h2:zeU p0 p1=some bs) (t:Int) :
  ∃ a b c d,zcQ p0 p1 t=some (a,b)/\zfG p0 p1 t=some (c,d)/\(if !b then (false,(4:Int)) else (a,0))=(c,d):=by
 obtain ⟨m,b1,b2,g1,g2,g3,g4,g5,g6,g7,g8,g9⟩:=znJ hn0 hn hb hw t
 unfold zcQ zfG
 simp only [h1,h2,g1,g2,Option.bind_some]
 by_cases h64:(m:Int)>64
 ·rw [if_pos (by simpa using h64),if_pos (by simpa using h64)]
  exact ⟨_,_,_,_,rfl,rfl,rfl⟩
 ·rw [if_neg (by simpa using h64),if_neg (by simpa using h64)]
  obtain ⟨a,ha,hah⟩:=zp4 (n:=(m:Int)) (by omega) (by omega) g7 g5 t
  simp only [ha,Option.bind_some]
  by_cases h2':(m:Int)<2
  ·rw [if_pos (by simpa using h2')]
   have:a=true:=hah.2 fun S hS ⟨y,hy1,hy2,_⟩=>by omega
   subst this
   exact ⟨_,_,_,_,rfl,rfl,rfl⟩
  ·rw [if_neg (by simpa using h2')]
   obtain ⟨v,p,hv,hvt⟩:=zn3 (n:=(m:Int)) (by omega) (by omega) g8 g6
   simp only [hv,Option.bind_some]
   refine ⟨_,_,_,_,rfl,rfl,?_⟩
   have:a=decide (v≥t):=by
    have h3:=(hvt t).trans (zpi g9).symm
    cases a with
    | true=>symm;simpa using h3.2 (hah.1 rfl)
    | false=>
     symm
     simp only [decide_eq_false_iff_not]
     intro hge
     have:=hah.2 (h3.1 hge)
     cases this
   rw [this];rfl
end
theorem zeH {S:Type} (st:Nat->S) (i0 N:Nat) (ok:Nat->Prop) (F:S->Option (S ⊕ (Unit ⊕ Bool))) (h0:i0<=N)
  (step:∀ i,i0<=i->i<N->(∀ j,i0<=j->j<i->ok j)->ok i->F (st i)=some (.inl (st (i+1))))
  (fail:∀ i,i0<=i->i<N->(∀ j,i0<=j->j<i->ok j)->¬ok i->F (st i)=some (.inr (.inr false)))
  (stop:(∀ j,i0<=j->j<N->ok j)->F (st N)=some (.inr (.inl ()))) :
  (iter F (st i0)=some (.inl ())/\∀ i,i0<=i->i<N->ok i)\/(iter F (st i0)=some (.inr false)/\¬ ∀ i,i0<=i->i<N->ok i):=by
 classical
 have key:∀ d i,i+d=N->i0<=i->(∀ j,i0<=j->j<i->ok j)->(iter F (st i)=some (.inl ())/\∀ i,i0<=i->i<N->ok i)\/(iter F (st i)=some (.inr false)/\¬ ∀ i,i0<=i->i<N->ok i):=by
  intro d
  induction d with
  | zero=>
   intro i hi hi0 hall
   have:i=N:=by omega
   subst this
   exact .inl ⟨zD (stop hall),hall⟩
  | succ d ih=>
   intro i hi hi0 hall
   by_cases hok:ok i
   ·rw [zI (step i hi0 (by omega) hall hok)]
    exact ih (i+1) (by omega) (by omega) fun j hj0 hj=>by
     by_cases hji:j=i
     ·subst hji;exact hok
     ·exact hall j hj0 (by omega)
   ·exact .inr ⟨zD (fail i hi0 (by omega) hall hok),fun h=>hok (h i hi0 (by omega))⟩
 exact key (N - i0) i0 (by omega) (Nat.le_refl _) fun j h1 h2=>by omega
theorem ziA {α:Type} (l:List α) (h:l.length<=1000000) (p:α->Option Bool) (q:α->Bool) (hp:∀ b∈l,p b=some (q b)) (F:Int->Option (Int ⊕ (Unit ⊕ Int)))
  (hF:∀ i,F i=if decide (i<(l.length:Int)) then ((idx l i).bind fun x=>(p x).bind fun b=>if b then (some (.inr (.inr i))) else (some (.inl (w64 (i+1))))) else (some (.inr (.inl ())))) :
  (iter F 0=some (.inl ())/\∀ b∈l,q b=false)\/(∃ k:Nat,iter F 0=some (.inr (k:Int))/\k<l.length/\(∀ (j:Nat) b,j<k->l[j]?=some b->q b=false)/\∃ b,l[k]?=some b/\q b=true):=by
 have key:=zw (F:=F) (fun i=>0<=i/\i<=l.length/\∀ (j:Nat) b,(j:Int)<i->l[j]?=some b->q b=false) (fun i=>(l.length - i).toNat)
  (fun z=>match z with | .inl _=>∀ b∈l,q b=false | .inr i=>∃ k:Nat,i=k/\k<l.length/\(∀ (j:Nat) b,j<k->l[j]?=some b->q b=false)/\∃ b,l[k]?=some b/\q b=true) ?_ 0 ⟨by omega,by omega,fun j b hj=>by omega⟩
 ·obtain ⟨z,hz,hr⟩:=key
  cases z with
  | inl z=>exact .inl ⟨hz,hr⟩
  | inr i=>
   obtain ⟨k,rfl,hk⟩:=hr
   exact .inr ⟨k,hz,hk⟩
 ·rintro i ⟨h0,h1,hall⟩
  obtain ⟨k,rfl⟩:=Int.eq_ofNat_of_zero_le h0
  rw [hF]
  by_cases hlt:k<l.length
  ·have hk:l[k]?=some l[k]:=List.getElem?_eq_getElem hlt
   have hpk:=hp l[k] (List.getElem_mem hlt)
   have hw:w64 ((k:Int)+1)=(k:Int)+1:=zp (by omega) (by omega)
   have hd:((k:Int)<(l.length:Int)):=by omega
   simp only [hd,decide_true,if_true,zu hk,Option.bind_some,hpk,hw]
   cases hq:q l[k] with
   | true=>right;exact ⟨_,rfl,k,rfl,hlt,fun j b hj=>hall j b (by omega),_,hk,hq⟩
   | false=>
    left
    refine ⟨_,rfl,⟨by omega,by omega,fun j b hj hb=>?_⟩,by omega⟩
    by_cases hjk:j=k
    ·subst hjk;rw [hk] at hb;injection hb with hb;rw [←hb];exact hq
    ·exact hall j b (by omega) hb
  ·right
   have hd:¬((k:Int)<(l.length:Int)):=by omega
   simp only [hd,decide_false]
   refine ⟨_,rfl,?_⟩
   intro b hb
   obtain ⟨j,hj⟩:=List.getElem?_of_mem hb
   exact hall j b (by have:=zy hj;omega) hj
abbrev Gl:=List UInt8×Int
abbrev Tl:=List UInt8×List Int
abbrev TSet:=List Gl×List Tl
abbrev Pt:=Int×Int
abbrev Plc:=(Int×Int)×Int
def zey (c:UInt8):Bool:=(decide (97<=(c.toNat:Int))&&decide ((c.toNat:Int)<=122))||(decide (65<=(c.toNat:Int))&&decide ((c.toNat:Int)<=90))
def zgd (c:UInt8):Bool:=decide (48<=(c.toNat:Int))&&decide ((c.toNat:Int)<=57)
def zkZ (s:List UInt8):Prop:=1<=s.length/\s.length<=12/\∀ (i:Nat) (c:UInt8),s[i]?=some c->zey c=true\/(1<=i/\(zgd c=true\/(c.toNat:Int)=95))
theorem zjq (c:UInt8):zd8 (c.toNat:Int)=some (zey c):=by
 unfold zd8 zey
 by_cases h1:97<=(c.toNat:Int)<;>by_cases h2:(c.toNat:Int)<=122<;>by_cases h3:65<=(c.toNat:Int)<;>by_cases h4:(c.toNat:Int)<=90<;>simp [*]<;>omega
theorem zkw (c:UInt8):zeY (c.toNat:Int)=some (zgd c):=by
 unfold zeY zgd
 by_cases h1:48<=(c.toNat:Int)<;>by_cases h2:(c.toNat:Int)<=57<;>simp [*]<;>omega
theorem zoR (s:List UInt8) (h:s.length<=1000000):∃ b,zfv s=some b/\(b=true↔zkZ s):=by
 unfold zfv zeb
 by_cases h1:s.length<1
 ·rw [if_pos (by simp;omega),if_pos rfl]
  exact ⟨_,rfl,by simp;unfold zkZ;omega⟩
 ·rw [if_neg (by simp;omega)]
  by_cases h2:s.length>12
  ·rw [if_pos (by simp;omega),if_pos rfl]
   exact ⟨_,rfl,by simp;unfold zkZ;omega⟩
  ·rw [if_neg (by simp;omega)]
   have hc0:s[0]?=some s[0]:=List.getElem?_eq_getElem (by omega)
   have e0:idx s 0=some s[0]:=zu (i:=0) hc0
   simp only [e0,Option.bind_some,zjq]
   cases hl:zey s[0] with
   | false=>
    refine ⟨false,rfl,by simp;rintro ⟨_,_,h3⟩;have:=h3 0 _ hc0;rw [hl] at this;simp at this⟩
   | true=>
    rw [if_neg (by simp)]
    have key:=zeH (fun i=>(i:Int)) 1 s.length (fun i=>∀ c,s[i]?=some c->zey c=true\/zgd c=true\/(c.toNat:Int)=95) (zbg s) (by omega) ?_ ?_ ?_
    rcases key with ⟨hz,hall⟩ | ⟨hz,hnot⟩
    ·have hz:iter (zbg s) 1=some (.inl ()):=hz
     rw [hz]
     refine ⟨true,rfl,fun _=>⟨by omega,by omega,fun i c hc=>?_⟩,fun _=>rfl⟩
     cases i with
     | zero=>rw [hc0] at hc;injection hc with hc;rw [←hc];exact .inl hl
     | succ i=>
      rcases hall (i+1) (by omega) (zy hc) c hc with h | h
      ·exact .inl h
      ·exact .inr ⟨by omega,h⟩
    ·have hz:iter (zbg s) 1=some (.inr false):=hz
     rw [hz]
     refine ⟨false,rfl,fun h=>(by cases h),fun hn=>absurd (fun i hi0 hi c hc=>?_) hnot⟩
     rcases hn.2.2 i c hc with h | h
     ·exact .inl h
     ·exact .inr h.2
    ·intro i hi0 hi _ hok
     unfold zbg
     have hc:s[i]?=some s[i]:=List.getElem?_eq_getElem hi
     rw [if_pos (by simp [hi])]
     simp only [zu hc,Option.bind_some,zjq,zkw]
     have hw:w64 ((i:Int)+1)=((i+1:Nat):Int):=by rw [zp (by omega) (by omega)];omega
     unfold zc1
     rcases hok _ hc with h | h | h
     ·simp [h,hw]
     ·simp [h,hw]
     ·simp [h,hw]
    ·intro i hi0 hi _ hok
     unfold zbg
     have hc:s[i]?=some s[i]:=List.getElem?_eq_getElem hi
     rw [if_pos (by simp [hi])]
     simp only [zu hc,Option.bind_some,zjq,zkw]
     unfold zc1
     have hno:¬(zey s[i]=true\/zgd s[i]=true\/(s[i].toNat:Int)=95):=fun h=>hok fun c hc'=>by rw [hc] at hc';injection hc' with hc';rw [←hc'];exact h
     simp only [not_or,Bool.not_eq_true] at hno
     simp [hno.1,hno.2.1,hno.2.2]
    ·intro _
     unfold zbg
     rw [if_neg (by simp)]
theorem zpg (s:List UInt8) (h:s.length<=1000000):∃ b,zfB s=some b/\(b=true↔zkZ s):=by
 have hstep:∀ (i:Nat) (c:UInt8),s[i]?=some c->zbl s (i:Int)=zaR (i:Int) c (zey c):=by
  intro i c hc
  have hi:=zy hc
  unfold zbl
  rw [if_pos (by simp [hi])]
  simp only [zu hc,Option.bind_some]
  unfold zey
  by_cases h1:97<=(c.toNat:Int)<;>by_cases h2:(c.toNat:Int)<=122<;>by_cases h3:65<=(c.toNat:Int)<;>by_cases h4:(c.toNat:Int)<=90<;>simp [*]<;>omega
 unfold zfB zhH
 have key:=zeH (fun i=>(i:Int)) 0 s.length (fun i=>∀ c,s[i]?=some c->zey c=true\/(1<=i/\(zgd c=true\/(c.toNat:Int)=95))) (zbl s) (by omega) ?_ ?_ ?_
 rcases key with ⟨hz,hall⟩ | ⟨hz,hnot⟩
 ·have hz:iter (zbl s) 0=some (.inl ()):=hz
  rw [hz]
  by_cases h1:1<=s.length
  ·refine ⟨decide ((s.length:Int)<=12),by simp;omega,?_⟩
   simp only [decide_eq_true_eq]
   exact ⟨fun h2=>⟨h1,by omega,fun i c hc=>hall i (by omega) (zy hc) c hc⟩,fun hn=>by have:=hn.2.1;omega⟩
  ·refine ⟨false,by simp;intro h;omega,fun h=>(by cases h),fun hn=>absurd hn.1 h1⟩
 ·have hz:iter (zbl s) 0=some (.inr false):=hz
  rw [hz]
  exact ⟨false,rfl,fun h=>(by cases h),fun hn=>absurd (fun i _ hi c hc=>hn.2.2 i c hc) hnot⟩
 ·intro i hi0 hi _ hok
  have hc:s[i]?=some s[i]:=List.getElem?_eq_getElem hi
  rw [hstep i _ hc]
  have hw:w64 ((i:Int)+1)=((i+1:Nat):Int):=by rw [zp (by omega) (by omega)];omega
  unfold zaR zbm
  rcases hok _ hc with h | ⟨h0,h | h⟩
  ·simp [h,hw]
  ·unfold zgd at h
   simp at h
   cases hl:zey s[i] with
   | true=>simp [hw]
   | false=>
    have e1:¬((i:Int)=0):=by omega
    have e2:¬((s[i].toNat:Int)<48):=by omega
    have e3:¬((s[i].toNat:Int)>57):=by omega
    simp only [e1,e2,e3,decide_false];simp [hw]
  ·cases hl:zey s[i] with
   | true=>simp [hw]
   | false=>
    have e1:¬((i:Int)=0):=by omega
    have e2:¬((s[i].toNat:Int)<48):=by omega
    have e3:((s[i].toNat:Int)>57):=by omega
    simp only [e1,e2,e3,decide_false,decide_true,h];simp [hw]
 ·intro i hi0 hi _ hok
  have hc:s[i]?=some s[i]:=List.getElem?_eq_getElem hi
  rw [hstep i _ hc]
  unfold zaR zbm
  have hno:¬(zey s[i]=true\/(1<=i/\(zgd s[i]=true\/(s[i].toNat:Int)=95))):=fun h=>hok fun c hc'=>by rw [hc] at hc';injection hc' with hc';rw [←hc'];exact h
  rw [not_or] at hno
  have hl:zey s[i]=false:=by simpa using hno.1
  rw [hl]
  by_cases e1:(i:Int)=0
  ·simp [e1]
  ·have hno2:¬(zgd s[i]=true\/(s[i].toNat:Int)=95):=fun h=>hno.2 ⟨by omega,h⟩
   rw [not_or] at hno2
   have hd:=hno2.1
   unfold zgd at hd
   simp at hd
   by_cases e2:(s[i].toNat:Int)<48
   ·simp only [e1,e2,decide_false,decide_true,hno2.2];simp
   ·have e3:(s[i].toNat:Int)>57:=by omega
    simp only [e1,e2,e3,decide_false,decide_true,hno2.2];simp
 ·intro _
  unfold zbl
  rw [if_neg (by simp)]
theorem zfA (s:List UInt8) (h:s.length<=1000000):∃ b,zfB s=some b/\zfv s=some b/\(b=true↔zkZ s):=by
 obtain ⟨a,h1,h2⟩:=zpg s h
 obtain ⟨b,h3,h4⟩:=zoR s h
 have:a=b:=by
  cases a<;>cases b<;>simp_all
 subst this
 exact ⟨a,h1,h3,h2⟩
theorem zdD (a b c:Int):zbi a b c=some (decide (b<=a/\a<=c)):=by
 unfold zbi
 by_cases h1:a≥b<;>by_cases h2:a<=c<;>simp [*]<;>omega
theorem zf6 (a b c:Int):zbz a b c=some (decide (b<=a/\a<=c)):=by
 unfold zbz
 by_cases h1:a≥b<;>by_cases h2:a<=c<;>simp [*]<;>omega
def GlueOk (set:TSet) (i:Nat):Prop:=∀ g,set.1[i]?=some g->zkZ g.1/\1<=g.2/\g.2<=4/\∀ (j:Nat) (g':Gl),j<i->set.1[j]?=some g'->g'.1≠g.1
def TileOk (set:TSet) (i:Nat):Prop:=∀ t,set.2[i]?=some t->zkZ t.1/\t.2.length=4/\(∀ (j:Nat) (t':Tl),j<i->set.2[j]?=some t'->t'.1≠t.1)/\∀ x∈t.2,0<=x/\x<=set.1.length
structure SetOk (set:TSet):Prop where
 glues:set.1.length<=200
 tiles1:1<=set.2.length
 tiles:set.2.length<=160
 glue:∀ i,i<set.1.length->GlueOk set i
 tile:∀ i,i<set.2.length->TileOk set i
structure Tame (set:TSet):Prop where
 g:set.1.length<=100000
 t:set.2.length<=100000
 gn:∀ x∈set.1,x.1.length<=100000
 tn:∀ x∈set.2,x.1.length<=100000
 ts:∀ x∈set.2,x.2.length<=100000
theorem ziQ {α:Type} (l:List (List UInt8×α)) (s:List UInt8):(zd1 (l.map fun g=>(g.1,true)) s).getD false=true↔∃ g∈l,g.1=s:=by
 induction l with
 | nil=>simp [zd1]
 | cons g l ih=>
  unfold zd1 at ih ⊢
  rw [List.map_cons,List.find?_cons]
  by_cases h:g.1=s
  ·simp [h]
  ·simp only [h,decide_false]
   rw [ih]
   simp [h]
theorem zpU {α:Type} (l:List (List UInt8×α)) (s:List UInt8):zfm (l.map fun g=>(g.1,true)) s=true↔∃ g∈l,g.1=s:=by
 rw [zo9]
 simp
theorem zm0 {α:Type} {l:List (List UInt8×α)} {g:List UInt8×α} (h:¬ ∃ g'∈l,g'.1=g.1):zix (l.map fun g=>(g.1,true)) g.1 true=(l++[g]).map fun g=>(g.1,true):=by
 rw [zo6 (by cases hh:zfm (l.map fun g=>(g.1,true)) g.1 with | false=>rfl | true=>exact absurd ((zpU l g.1).1 hh) h)]
 simp
theorem zgg {α:Type} {l:List α} {i:Nat} {x:α} (h:l[i]?=some x):l.take (i+1)=l.take i++[x]:=by
 rw [List.take_add_one,h];rfl
theorem zh2 {α:Type} {l:List α} {i:Nat} {P:α->Prop} (hi:i<=l.length):(∃ g∈l.take i,P g)↔∃ (j:Nat) (g:α),j<i/\l[j]?=some g/\P g:=by
 constructor
 ·rintro ⟨g,hg,hP⟩
  obtain ⟨j,hj⟩:=List.getElem?_of_mem hg
  have:=zy hj
  rw [List.length_take] at this
  rw [List.getElem?_take,if_pos (by omega)] at hj
  exact ⟨j,g,by omega,hj,hP⟩
 ·rintro ⟨j,g,hj,hg,hP⟩
  exact ⟨g,List.mem_of_getElem? (i:=j) (by rw [List.getElem?_take,if_pos hj];exact hg),hP⟩
def zjy (l:List Int) (m:Int):Bool:=l.all fun x=>decide (0<=x/\x<=m)
theorem ziJ {l:List Int} {m:Int}:zjy l m=true↔∀ x∈l,0<=x/\x<=m:=by
 unfold zjy;simp
theorem zjV (l:List Int) (hl:l.length<=100000) (set:TSet):zbt l (fun q0=>za6 q0 set)=some (!zjy l set.1.length):=by
 unfold zbt zec zc3
 have hp:∀ b∈l,(fun q0=>za6 q0 set) b=some (!decide (0<=b/\b<=(set.1.length:Int))):=by
  intro b _
  simp only [za6,zdD,Option.bind_some]
 rcases ziA l (by omega) (fun q0=>za6 q0 set) (fun b=>!decide (0<=b/\b<=(set.1.length:Int))) hp (zc2 l fun q0=>za6 q0 set) (fun i=>rfl) with ⟨hz,hall⟩ | ⟨k,hz,hk,_,b,hb,hq⟩
 ·rw [hz]
  have:zjy l set.1.length=true:=by
   rw [ziJ]
   intro x hx;have:=hall x hx;simpa using this
  simp [this]
 ·rw [hz]
  have:zjy l set.1.length=false:=by
   cases h:zjy l set.1.length with
   | false=>rfl
   | true=>
    have h1:=ziJ.1 h b (List.mem_of_getElem? hb)
    simp at hq
    omega
  simp [this]
theorem znE (set:TSet) (hT:Tame set):∃ b,ze1 set=some b/\(b=true↔SetOk set):=by
 unfold ze1 zeF
 by_cases h1:(set.1.length:Int)>200
 ·rw [if_pos (by simp;omega),if_pos rfl]
  exact ⟨_,rfl,fun h=>(by cases h),fun h=>by have:=h.glues;omega⟩
 rw [if_neg (by simp;omega),zdD]
 simp only [Option.bind_some]
 by_cases h2:1<=(set.2.length:Int)/\(set.2.length:Int)<=160
 rotate_left
 ·rw [if_pos (by simp;omega)]
  exact ⟨_,rfl,fun h=>(by cases h),fun h=>absurd ⟨by have:=h.tiles1;omega,by have:=h.tiles;omega⟩ h2⟩
 rw [if_neg (by simp;omega)]
 have key:=zeH (fun i=>((i:Int),(set.1.take i).map fun g=>(g.1,true))) 0 set.1.length (GlueOk set) (zaJ set) (by omega) ?_ ?_ ?_
 rcases key with ⟨hz,hall⟩ | ⟨hz,hnot⟩
 ·have hz:iter (zaJ set) (0,[])=some (.inl ()):=hz
  rw [hz]
  simp only [Option.bind_some]
  unfold zgB zgA
  have key:=zeH (fun i=>((i:Int),(set.2.take i).map fun g=>(g.1,true))) 0 set.2.length (TileOk set) (zaI set) (by omega) ?_ ?_ ?_
  rcases key with ⟨hz2,hall2⟩ | ⟨hz2,hnot2⟩
  ·have hz2:iter (zaI set) (0,[])=some (.inl ()):=hz2
   rw [hz2]
   exact ⟨true,rfl,fun _=>⟨by omega,by omega,by omega,fun i hi=>hall i (by omega) hi,fun i hi=>hall2 i (by omega) hi⟩,fun _=>rfl⟩
  ·have hz2:iter (zaI set) (0,[])=some (.inr false):=hz2
   rw [hz2]
   exact ⟨false,rfl,fun h=>(by cases h),fun h=>absurd (fun i _ hi=>h.tile i hi) hnot2⟩
  ·intro i _ hi _ hok
   have hg:set.2[i]?=some set.2[i]:=List.getElem?_eq_getElem hi
   obtain ⟨o1,o2,o3,o4⟩:=hok _ hg
   obtain ⟨b,hb,_,hbn⟩:=zfA set.2[i].1 (by have:=hT.tn _ (List.getElem_mem hi);omega)
   have hb1:b=true:=hbn.2 o1
   subst hb1
   have hnew:¬ ∃ g∈set.2.take i,g.1=set.2[i].1:=by
    rw [zh2 (by omega)]
    rintro ⟨j,g,hj,hg',e⟩
    exact o3 j g hj hg' e
   have hget:(zd1 ((set.2.take i).map fun g=>(g.1,true)) set.2[i].1).getD false=false:=by
    cases hh:(zd1 ((set.2.take i).map fun g=>(g.1,true)) set.2[i].1).getD false with
    | false=>rfl
    | true=>exact absurd ((ziQ _ _).1 hh) hnew
   have hw:w64 ((i:Int)+1)=((i+1:Nat):Int):=by rw [zp (by omega) (by omega)];omega
   unfold zaI zbZ
   rw [if_pos (by simp [hi])]
   simp only [zu hg,Option.bind_some,hb,hget,zjV _ (by omega:set.2[i].2.length<=100000),hw,zm0 hnew,←zgg hg,o2]
   have:zjy set.2[i].2 set.1.length=true:=ziJ.2 o4
   simp [this]
  ·intro i _ hi _ hok
   have hg:set.2[i]?=some set.2[i]:=List.getElem?_eq_getElem hi
   obtain ⟨b,hb,_,hbn⟩:=zfA set.2[i].1 (by have:=hT.tn _ (List.getElem_mem hi);omega)
   unfold zaI zbZ
   rw [if_pos (by simp [hi])]
   simp only [zu hg,Option.bind_some,hb]
   cases b with
   | false=>simp
   | true=>
    rw [if_neg (by simp)]
    have hname:=hbn.1 rfl
    cases hget:(zd1 ((set.2.take i).map fun g=>(g.1,true)) set.2[i].1).getD false with
    | true=>simp
    | false=>
     rw [if_neg (by simp)]
     have hnew:¬ ∃ g∈set.2.take i,g.1=set.2[i].1:=fun h=>by
      rw [(ziQ _ _).2 h] at hget;cases hget
     rw [zh2 (by omega)] at hnew
     by_cases h4:set.2[i].2.length=4
     ·simp only [h4]
      rw [if_neg (by simp),zjV _ (by omega)]
      have:¬zjy set.2[i].2 set.1.length=true:=fun hx=>hok fun t ht=>by
       rw [hg] at ht;injection ht with ht;subst ht
       exact ⟨hname,h4,fun j t' hj ht' e=>hnew ⟨j,t',hj,ht',e⟩,ziJ.1 hx⟩
      simp [this]
     ·rw [if_pos (by simp;omega)]
  ·intro _
   unfold zaI
   rw [if_neg (by simp)]
 ·have hz:iter (zaJ set) (0,[])=some (.inr false):=hz
  rw [hz]
  exact ⟨false,rfl,fun h=>(by cases h),fun h=>absurd (fun i _ hi=>h.glue i hi) hnot⟩
 ·intro i _ hi _ hok
  have hg:set.1[i]?=some set.1[i]:=List.getElem?_eq_getElem hi
  obtain ⟨o1,o2,o3,o4⟩:=hok _ hg
  obtain ⟨b,hb,_,hbn⟩:=zfA set.1[i].1 (by have:=hT.gn _ (List.getElem_mem hi);omega)
  have hb1:b=true:=hbn.2 o1
  subst hb1
  have hnew:¬ ∃ g∈set.1.take i,g.1=set.1[i].1:=by
   rw [zh2 (by omega)]
   rintro ⟨j,g,hj,hg',e⟩
   exact o4 j g hj hg' e
  have hget:(zd1 ((set.1.take i).map fun g=>(g.1,true)) set.1[i].1).getD false=false:=by
   cases hh:(zd1 ((set.1.take i).map fun g=>(g.1,true)) set.1[i].1).getD false with
   | false=>rfl
   | true=>exact absurd ((ziQ _ _).1 hh) hnew
  have hw:w64 ((i:Int)+1)=((i+1:Nat):Int):=by rw [zp (by omega) (by omega)];omega
  unfold zaJ zbY
  rw [if_pos (by simp [hi])]
  simp only [zu hg,Option.bind_some,hb,hget,zdD,hw,zm0 hnew,←zgg hg]
  simp [o2,o3]
 ·intro i _ hi _ hok
  have hg:set.1[i]?=some set.1[i]:=List.getElem?_eq_getElem hi
  obtain ⟨b,hb,_,hbn⟩:=zfA set.1[i].1 (by have:=hT.gn _ (List.getElem_mem hi);omega)
  unfold zaJ zbY
  rw [if_pos (by simp [hi])]
  simp only [zu hg,Option.bind_some,hb,zdD]
  cases b with
  | false=>simp
  | true=>
   rw [if_neg (by simp)]
   have hname:=hbn.1 rfl
   cases hget:(zd1 ((set.1.take i).map fun g=>(g.1,true)) set.1[i].1).getD false with
   | true=>simp
   | false=>
    rw [if_neg (by simp)]
    have hnew:¬ ∃ g∈set.1.take i,g.1=set.1[i].1:=fun h=>by
     rw [(ziQ _ _).2 h] at hget;cases hget
    rw [zh2 (by omega)] at hnew
    have:¬(1<=set.1[i].2/\set.1[i].2<=4):=fun hx=>hok fun t ht=>by
     rw [hg] at ht;injection ht with ht;subst ht
     exact ⟨hname,hx.1,hx.2,fun j t' hj ht' e=>hnew ⟨j,t',hj,ht',e⟩⟩
    simp [this]
 ·intro _
  unfold zaJ
  rw [if_neg (by simp)]
theorem ziq (set:TSet) (h:set.1.length<=100000) (s:List UInt8) :
  (zaz set s=some 0/\∀ g∈set.1,g.1≠s)\/∃ k:Nat,zaz set s=some ((k:Int)+1)/\k<set.1.length/\(∀ (j:Nat) g,j<k->set.1[j]?=some g->g.1≠s)/\∃ g,set.1[k]?=some g/\g.1=s:=by
 unfold zaz zg3
 have key:=zw (F:=ze7 set s) (fun i=>0<=i/\i<=set.1.length/\∀ (j:Nat) g,(j:Int)<i->set.1[j]?=some g->g.1≠s) (fun i=>(set.1.length - i).toNat)
  (fun z=>match z with | .inl _=>∀ g∈set.1,g.1≠s | .inr i=>∃ k:Nat,i=(k:Int)+1/\k<set.1.length/\(∀ (j:Nat) g,j<k->set.1[j]?=some g->g.1≠s)/\∃ g,set.1[k]?=some g/\g.1=s) ?_ 0 ⟨by omega,by omega,fun j b hj=>by omega⟩
 ·obtain ⟨z,hz,hr⟩:=key
  rw [hz]
  cases z with
  | inl z=>exact .inl ⟨rfl,hr⟩
  | inr i=>
   obtain ⟨k,rfl,hk⟩:=hr
   exact .inr ⟨k,rfl,hk⟩
 ·rintro i ⟨h0,h1,hall⟩
  obtain ⟨k,rfl⟩:=Int.eq_ofNat_of_zero_le h0
  unfold ze7
  by_cases hlt:k<set.1.length
  ·have hk:set.1[k]?=some set.1[k]:=List.getElem?_eq_getElem hlt
   have hw:w64 ((k:Int)+1)=(k:Int)+1:=zp (by omega) (by omega)
   rw [if_pos (by simp [hlt])]
   simp only [zu hk,Option.bind_some,hw]
   by_cases hq:set.1[k].1=s
   ·right
    rw [if_pos (by simp [hq])]
    exact ⟨_,rfl,k,rfl,hlt,fun j b hj=>hall j b (by omega),_,hk,hq⟩
   ·left
    rw [if_neg (by simp [hq])]
    refine ⟨_,rfl,⟨by omega,by omega,fun j b hj hb=>?_⟩,by omega⟩
    by_cases hjk:j=k
    ·subst hjk;rw [hk] at hb;injection hb with hb;rw [←hb];exact hq
    ·exact hall j b (by omega) hb
  ·right
   rw [if_neg (by simp;omega)]
   refine ⟨_,rfl,?_⟩
   intro b hb
   obtain ⟨j,hj⟩:=List.getElem?_of_mem hb
   exact hall j b (by have:=zy hj;omega) hj
theorem zhu (set:TSet) (h:set.2.length<=100000) (s:List UInt8) :
  (zay set s=some (-1)/\∀ g∈set.2,g.1≠s)\/∃ k:Nat,zay set s=some (k:Int)/\k<set.2.length/\(∀ (j:Nat) g,j<k->set.2[j]?=some g->g.1≠s)/\∃ g,set.2[k]?=some g/\g.1=s:=by
 unfold zay ze6
 rcases ziA set.2 (by omega) (fun t=>some (decide (t.1=s))) (fun t=>decide (t.1=s)) (fun _ _=>rfl) (zdx set s) (fun i=>rfl) with ⟨hz,hall⟩ | ⟨k,hz,hk,hlow,b,hb,hq⟩
 ·rw [hz]
  exact .inl ⟨rfl,fun g hg=>by simpa using hall g hg⟩
 ·rw [hz]
  exact .inr ⟨k,rfl,hk,fun j g hj hg=>by simpa using hlow j g hj hg,b,hb,by simpa using hq⟩
theorem zmO (set:TSet) (t:Tl) (h4:t.2.length=4):(iter (zdG set t) 0=some (.inl ())/\∀ x∈t.2,0<=x/\x<=(set.1.length:Int))\/(iter (zdG set t) 0=some (.inr (.inr (.inr false)))/\¬ ∀ x∈t.2,0<=x/\x<=(set.1.length:Int)):=by
 have key:=zw (F:=zdG set t) (fun i=>0<=i/\i<=4/\∀ (j:Nat) x,(j:Int)<i->t.2[j]?=some x->0<=x/\x<=(set.1.length:Int)) (fun i=>(4 - i).toNat)
  (fun z=>(z=.inl ()/\∀ x∈t.2,0<=x/\x<=(set.1.length:Int))\/(z=.inr (.inr (.inr false))/\¬ ∀ x∈t.2,0<=x/\x<=(set.1.length:Int))) ?_ 0 ⟨by omega,by omega,fun j b hj=>by omega⟩
 ·obtain ⟨z,hz,hr⟩:=key
  rcases hr with ⟨rfl,h⟩ | ⟨rfl,h⟩
  ·exact .inl ⟨hz,h⟩
  ·exact .inr ⟨hz,h⟩
 ·rintro i ⟨h0,h1,hall⟩
  obtain ⟨k,rfl⟩:=Int.eq_ofNat_of_zero_le h0
  unfold zdG
  by_cases hlt:(k:Int)<4
  ·have hk:t.2[k]?=some (t.2[k]'(by omega)):=List.getElem?_eq_getElem (by omega)
   have hw:w64 ((k:Int)+1)=(k:Int)+1:=zp (by omega) (by omega)
   rw [if_pos (by simpa using hlt)]
   simp only [zu hk,Option.bind_some,hw,zf6]
   by_cases hq:0<=t.2[k]'(by omega)/\t.2[k]'(by omega)<=(set.1.length:Int)
   ·left
    rw [if_neg (by simp [hq])]
    refine ⟨_,rfl,⟨by omega,by omega,fun j b hj hb=>?_⟩,by omega⟩
    by_cases hjk:j=k
    ·subst hjk;rw [hk] at hb;injection hb with hb;rw [←hb];exact hq
    ·exact hall j b (by omega) hb
   ·right
    rw [if_pos (by simp only [hq,decide_false];rfl)]
    exact ⟨_,rfl,.inr ⟨rfl,fun h=>hq (h _ (List.mem_of_getElem? hk))⟩⟩
  ·right
   rw [if_neg (by simpa using hlt)]
   refine ⟨_,rfl,.inl ⟨rfl,?_⟩⟩
   intro b hb
   obtain ⟨j,hj⟩:=List.getElem?_of_mem hb
   exact hall j b (by have:=zy hj;omega) hj
theorem znu (set:TSet) (hT:Tame set):∃ b,zhy set=some b/\(b=true↔SetOk set):=by
 unfold zhy zeW
 by_cases h1:(set.1.length:Int)>200
 ·rw [if_pos (by simp;omega),if_pos rfl]
  exact ⟨_,rfl,fun h=>(by cases h),fun h=>by have:=h.glues;omega⟩
 rw [if_neg (by simp;omega)]
 by_cases h2:(set.2.length:Int)<1
 ·rw [if_pos (by simpa using h2),if_pos rfl]
  exact ⟨_,rfl,fun h=>(by cases h),fun h=>by have:=h.tiles1;omega⟩
 rw [if_neg (by simpa using h2)]
 by_cases h3:(set.2.length:Int)>160
 ·rw [if_pos (by simpa using h3)]
  exact ⟨_,rfl,fun h=>(by cases h),fun h=>by have:=h.tiles;omega⟩
 rw [if_neg (by simpa using h3)]
 have key:=zeH (fun i=>(i:Int)) 0 set.1.length (GlueOk set) (zbV set) (by omega) ?_ ?_ ?_
 rcases key with ⟨hz,hall⟩ | ⟨hz,hnot⟩
 ·have hz:iter (zbV set) 0=some (.inl ()):=hz
  rw [hz]
  simp only [Option.bind_some]
  unfold zh8 zh7
  have key:=zeH (fun i=>(i:Int)) 0 set.2.length (TileOk set) (zbU set) (by omega) ?_ ?_ ?_
  rcases key with ⟨hz2,hall2⟩ | ⟨hz2,hnot2⟩
  ·have hz2:iter (zbU set) 0=some (.inl ()):=hz2
   rw [hz2]
   exact ⟨true,rfl,fun _=>⟨by omega,by omega,by omega,fun i hi=>hall i (by omega) hi,fun i hi=>hall2 i (by omega) hi⟩,fun _=>rfl⟩
  ·have hz2:iter (zbU set) 0=some (.inr false):=hz2
   rw [hz2]
   exact ⟨false,rfl,fun h=>(by cases h),fun h=>absurd (fun i _ hi=>h.tile i hi) hnot2⟩
  ·intro i _ hi _ hok
   have hg:set.2[i]?=some set.2[i]:=List.getElem?_eq_getElem hi
   obtain ⟨o1,o2,o3,o4⟩:=hok _ hg
   obtain ⟨b,_,hb,hbn⟩:=zfA set.2[i].1 (by have:=hT.tn _ (List.getElem_mem hi);omega)
   have hb1:b=true:=hbn.2 o1
   subst hb1
   have hw:w64 ((i:Int)+1)=((i+1:Nat):Int):=by rw [zp (by omega) (by omega)];omega
   have ht:zay set set.2[i].1=some (i:Int):=by
    rcases zhu set hT.t set.2[i].1 with ⟨_,h⟩ | ⟨k,hk,hkl,hlow,g,hg',e⟩
    ·exact absurd rfl (h _ (List.getElem_mem hi))
    ·rw [hk]
     congr 2
     rcases Nat.lt_trichotomy k i with h | h | h
     ·exact absurd e (o3 k g h hg')
     ·exact h
     ·exact absurd rfl (hlow i _ h hg)
   unfold zbU zdI zgF
   rw [if_pos (by simp [hi])]
   rcases zmO set set.2[i] o2 with ⟨hs,_⟩ | ⟨_,hs⟩
   ·simp [zu hg,hb,o2,ht,hs,hw]
   ·exact absurd o4 hs
  ·intro i _ hi _ hok
   have hg:set.2[i]?=some set.2[i]:=List.getElem?_eq_getElem hi
   obtain ⟨b,_,hb,hbn⟩:=zfA set.2[i].1 (by have:=hT.tn _ (List.getElem_mem hi);omega)
   unfold zbU zdI zgF
   rw [if_pos (by simp [hi])]
   simp only [zu hg,Option.bind_some,hb]
   cases b with
   | false=>simp
   | true=>
    rw [if_neg (by simp)]
    have hname:=hbn.1 rfl
    by_cases h4:set.2[i].2.length=4
    rotate_left
    ·rw [if_pos (by simp;omega)];rfl
    rw [if_neg (by simp [h4])]
    rcases zhu set hT.t set.2[i].1 with ⟨_,h⟩ | ⟨k,hk,hkl,hlow,g,hg',e⟩
    ·exact absurd rfl (h _ (List.getElem_mem hi))
    ·simp only [hk,Option.bind_some]
     by_cases hki:k=i
     ·subst hki
      rw [if_neg (by simp)]
      rcases zmO set set.2[k] h4 with ⟨_,hs⟩ | ⟨hs,_⟩
      ·refine absurd (fun t ht=>?_) hok
       rw [hg] at ht;injection ht with ht;subst ht
       exact ⟨hname,h4,fun j t' hj ht'=>hlow j t' hj ht',hs⟩
      ·simp [hs]
     ·rw [if_pos (by simp;omega)]
  ·intro _
   unfold zbU
   rw [if_neg (by simp)]
 ·have hz:iter (zbV set) 0=some (.inr false):=hz
  rw [hz]
  exact ⟨false,rfl,fun h=>(by cases h),fun h=>absurd (fun i _ hi=>h.glue i hi) hnot⟩
 ·intro i _ hi _ hok
  have hg:set.1[i]?=some set.1[i]:=List.getElem?_eq_getElem hi
  obtain ⟨o1,o2,o3,o4⟩:=hok _ hg
  obtain ⟨b,_,hb,hbn⟩:=zfA set.1[i].1 (by have:=hT.gn _ (List.getElem_mem hi);omega)
  have hb1:b=true:=hbn.2 o1
  subst hb1
  have hw:w64 ((i:Int)+1)=((i+1:Nat):Int):=by rw [zp (by omega) (by omega)];omega
  have ht:zaz set set.1[i].1=some ((i+1:Nat):Int):=by
   rcases ziq set hT.g set.1[i].1 with ⟨_,h⟩ | ⟨k,hk,hkl,hlow,g,hg',e⟩
   ·exact absurd rfl (h _ (List.getElem_mem hi))
   ·rw [hk]
    congr 1
    have:k=i:=by
     rcases Nat.lt_trichotomy k i with h | h | h
     ·exact absurd e (o4 k g h hg')
     ·exact h
     ·exact absurd rfl (hlow i _ h hg)
    omega
  unfold zbV zdH
  rw [if_pos (by simp [hi])]
  simp [zu hg,hb,ht,hw,zf6,o2,o3]
 ·intro i _ hi _ hok
  have hg:set.1[i]?=some set.1[i]:=List.getElem?_eq_getElem hi
  obtain ⟨b,_,hb,hbn⟩:=zfA set.1[i].1 (by have:=hT.gn _ (List.getElem_mem hi);omega)
  have hw:w64 ((i:Int)+1)=((i+1:Nat):Int):=by rw [zp (by omega) (by omega)];omega
  unfold zbV zdH
  rw [if_pos (by simp [hi])]
  simp only [zu hg,Option.bind_some,hb,zf6]
  cases b with
  | false=>simp
  | true=>
   rw [if_neg (by simp)]
   have hname:=hbn.1 rfl
   by_cases hq:1<=set.1[i].2/\set.1[i].2<=4
   rotate_left
   ·rw [if_pos (by simp only [hq,decide_false];rfl)];rfl
   rw [if_neg (by simp [hq])]
   rcases ziq set hT.g set.1[i].1 with ⟨_,h⟩ | ⟨k,hk,hkl,hlow,g,hg',e⟩
   ·exact absurd rfl (h _ (List.getElem_mem hi))
   ·simp only [hk,Option.bind_some,hw]
    have hki:k≠i:=fun h=>by
     subst h
     exact hok fun t ht=>by
      rw [hg] at ht;injection ht with ht;subst ht
      exact ⟨hname,hq.1,hq.2,fun j t' hj ht'=>hlow j t' hj ht'⟩
    rw [if_pos (by simp;omega)]
 ·intro _
  unfold zbV
  rw [if_neg (by simp)]
theorem zl7 (set:TSet) (hT:Tame set):∃ b,ze1 set=some b/\zhy set=some b/\(b=true↔SetOk set):=by
 obtain ⟨a,h1,h2⟩:=znE set hT
 obtain ⟨b,h3,h4⟩:=znu set hT
 have:a=b:=by
  cases a<;>cases b<;>simp_all
 subst this
 exact ⟨a,h1,h3,h2⟩
end Go.Lf
