import Derived.Test.YtaalegfhglhnjaaGreatDoorA
import Derived.Conc.SmallLaws
import Derived.Lib.SliceRun
import Derived.Sort.Row
import Derived.RangeFuncSeq
import Derived.RangeFuncLeaves
import Derived.Laws.Append
import Derived.Maps.RangeRun
import Derived.Shelf.SlSortCmp.WholeK
import Derived.Shelf.SlSortCmp.NoneTotal
import Derived.Lib.UnsafeStr
import Derived.Lib.AppendZerosOnto
set_option linter.all false
set_option maxRecDepth 100000
set_option maxHeartbeats 1000000
namespace Go.Lf
open Go
section
variable{p:Prop}{α:Sort _}(x:α){β:Sort _}(y:β){γ:Sort _}(z:γ){δ:Sort _}(u:δ){ε:Sort _}(v:ε){ζ:Sort _}(w:ζ){η:Sort _}(t:η){θ:Sort _}(s:θ){ι:Sort _}(q:ι){ν:Sort _}(n:ν){ξ:Sort _}(m:ξ){ο:Sort _}(k:ο){ρ:Sort _}(g:ρ){φ:Sort _}(c:φ)
def N3(h:p:=by exact λg b d=>hn ((h.lt g b).2.1.symm.trans (h'.lt g d).2.1)):=h
def B8(h:let x:=x;p:=by intro x;rw[←h.len];exact x):=h
def K2(h:p:=by exact bY.ok (hk b (off+ix.toNat*t.size)) d hp):=h
def M4(h:p:=by exact bY.ok (hk b (0+ix.toNat*t.size)) d hp):=h
def V2(h:let x:=x;p:=by intro x;exact pdq_sorts x hO l.toArray 0 l.length (Lib.bitLen l.length) true true (Ϧ _) si<|Or.inl rfl):=h
def V1(h:p:=by simp only[List.getElem_map,Array.getElem_toList,L,I]at this;omega):=h
def I9(h:p:=by exact s.2.1 b (by rw[e];exact c) si):=h
def W6(h:p:=by exact λg b c=>hn<|(h.mem g b).2.1.symm.trans (h'.lt g c).2.1):=h
def L1(h:p:=by exact h.step s (λ_ _=>by simp)):=h
def K0(h:p:=by rw[m];simpa using i):=h
def O2(h:p:=by exact(u.lt b (by rw[m];simp)).2.1.trans x.2.1.symm):=h
end
section
variable {P:Program} {s:Type} {t:Ty s} {p:K} {e T:TypeId} {a:Option Addr} {cp:Nat} {l r:List s} {X:aN} {pub:Bool}
def bA.take:∀{l:List s} {xs:List Value} (i:Nat),bA t p xs l->bA t p (xs.take (i*t.size)) (l.take i)
 |[],xs,i,h=>by
  have:xs=[]:=h;subst this;simp[bA]
 | x::l,xs,0,h=>by simp[bA]
 | x::l,xs,i+1,⟨c,xs',e,ho,hr⟩=>by
  subst e;rw[List.take_succ_cons];refine⟨c,xs'.take (i*t.size),?_,ho,hr.take i⟩;have a:=t.len ho;rw[List.take_append,fx (by rw[a,fz];omega)];congr 1;rw[a,fz];exact v8
def Gr.cap(h:Gr t pub X p e a cp l):l.length<=cp:=by
 rcases h.body with⟨_,b⟩ |⟨g,cur,xs,ha,hr,hH,h1,_⟩
 ·rw[b];simp
 ·exact h1
def Gr.take(h:Gr t false X p e a cp l)i:Gr t false X p e a cp (l.take i):=by
 refine⟨gg (by rw[ef];exact Nat.min_le_right _ _) h.most,?_⟩;rcases h.body with⟨b,c⟩ |⟨g,cur,xs,ha,hr,hH,h1,h2,h3,h4,h5,h6,h7⟩
 ·exact .inl ⟨b,by rw[c];simp⟩
 ·refine .inr ⟨g,cur,xs.take (i*t.size),ha,hr.take i,hH,by rw[ef];exact gg (Nat.min_le_right _ _) h1,h2,h3,?_,h5,h6,h7⟩;rw[←h4,List.take_take,ef];congr 1;rcases Nat.le_total i l.length with hi | hi
  ·rw[Nat.min_eq_left hi,Nat.min_eq_left<|gq _ hi]
  ·rw[Nat.min_eq_right hi,Nat.min_eq_right<|gq _ hi]
def AN{lo hi:Option Int}(hT:zH P T=some e)(hs:zL P e=some t.size)(c:l.length<=cp)(hx:bB l (lo.getD 0) (hi.getD l.length)=some r)w:
  (Instr.sliceAt T (.slice a l.length cp) (dQ lo) (dQ hi) none).run P w=.ok (.slice (if cp=(lo.getD 0).toNat then a else a.map (·.add ((lo.getD 0).toNat*t.size))) r.length (cp - (lo.getD 0).toNat)) w:=by
 have b:=mh hT;obtain⟨m,k,i,f⟩:=kY hx;have n:=c;have hlen:r.length=(hi.getD l.length).toNat - (lo.getD 0).toNat:=by
  rw[f,dv,ef];omega
 have c:(hi.getD l.length).toNat<=cp:=by omega
 unfold Instr.sliceAt Instr.slice Instr.sliceBounds;rw[hlen];cases lo with
 | none=>
  cases hi with
  | none=>simp[zw b,dQ,fY hs]
  | some hv=>
   simp only[gz,ϲ]at *;have d:0<=hv/\hv<=(cp:Int):=by omega
   simp[zw b,dQ,fY hs,Instr.sliceBound,asIntOf,d]
 | some lv=>
  cases hi with
  | none=>
   simp only[gz,ϲ]at *;have d:0<=lv/\lv<=(l.length:Int):=by omega
   simp[zw b,dQ,fY hs,Instr.sliceBound,asIntOf,d]
  | some hv=>
   simp only[gz]at *;have d:0<=hv/\hv<=(cp:Int):=by omega
   have h:0<=lv/\lv<=(hv.toNat:Int):=by omega
   simp[zw b,dQ,fY hs,Instr.sliceBound,asIntOf,d,h];intro j;omega
def add_zero(a:Option Addr)c:(if c=0 then a else a.map (·.add 0))=a:=by
 split
 ·rfl
 ·cases a with
  | none=>rfl
  | some x=>cases x with
   | mk b o r=>
    cases r with
    | none=>rfl
    | some q=>rfl
def js{s:Type}(l:List s)(lo:Int)(z:s):Option (List s):=if 0<=lo/\lo<=l.length then some (l.take lo.toNat++List.replicate (l.length - lo.toNat) z)else none
def GK{lo:Int}{z:s}(h:js l lo z=some r):0<=lo/\lo<=l.length/\r=l.take lo.toNat++List.replicate (l.length - lo.toNat) z:=by
 unfold js at h;split at h
 ·rename_i h0;exact⟨h0.1,h0.2,(A5 h).symm⟩
 ·cases h
def SY{ty:TypeId}{zs:List Value}{z:s}{lo:Int}(hT:zH P T=some e)(hz:(eX P e).map Value.cells=some zs.toArray)(hzo:t.own p zs z)(h:Gr t false X p e a cp l)(H:js l lo z=some r)[Fb](C:Cx)d:
  ∃p',(Builtin.clear_ #[T] ty #[.slice (if cp=lo.toNat then a else a.map (·.add (lo.toNat*t.size))) (l.length - lo.toNat) (cp - lo.toNat)]).run P (W C p d)=.ok (.tuple #[]) (W C p' d)/\Step (aD a cp) p p'/\Gr t false X p' e a cp r:=by
 obtain⟨R,S,rfl⟩:=GK H;have w:=mh hT;by_cases A:l.length - lo.toNat=0
 ·refine⟨p,?_,u4,?_⟩
  ·rw[A];generalize (if cp=lo.toNat then a else a.map (·.add (lo.toNat*t.size)))=aa;cases aa<;>simp[Builtin.clear_,zw w]
  ·rw[A];have:l.take lo.toNat=l:=fx om;rw[this];simpa using h
 ·rcases h.body with⟨U,N⟩ |⟨g,cur,xs,ha,hr,hH,h2,h3,h4,h5,h6,h7,h8⟩
  ·rw[N]at A;simp at A
  ·subst ha;obtain⟨V,E,G⟩:=ia.1 hz;have f:aI X p g cur.toList e:=⟨϶ hH,by rw[h6];simp,h7,h8⟩;have F:=t.len hzo;have u:bA t p (Builtin.zeroCells zs.toArray<|l.length - lo.toNat).toList (List.replicate (l.length - lo.toNat) z):=by
    have:=OM hzo<|l.length - lo.toNat;have M:(Builtin.zeroCells zs.toArray<|l.length - lo.toNat).toList=(List.range<|(l.length - lo.toNat)*t.size).map λi=>(zs.toArray)[i % zs.toArray.size]!:=by
     simp[Builtin.zeroCells,F]
    rw[M];exact this
   have c:=u.length;rw[ec]at c;have v:cur.toList.length=cp*t.size:=϶ h4
   have J:lo.toNat*t.size+(l.length - lo.toNat)*t.size=l.length*t.size:=by rw[←fz];congr 1;omega
   have Q:l.length*t.size<=cp*t.size:=gq _ h2;have b:Step [g] p (p.setB g (splice cur.toList (lo.toNat*t.size) (Builtin.zeroCells zs.toArray<|l.length - lo.toNat).toList) e):=mi f;refine⟨p.setB g (splice cur.toList (lo.toNat*t.size) (Builtin.zeroCells zs.toArray<|l.length - lo.toNat).toList) e,?_,b.mono (λx H=>by rw[fh.1 H];exact E8),?_⟩
   ·have D:¬cp=lo.toNat:=by omega
    rw[ϙ D];have O:(Option.map (λx=>Addr.add x (lo.toNat*t.size))<|some (⟨g,0,none⟩:Addr))=some ⟨g,lo.toNat*t.size,none⟩:=by simp[jE]
    rw[O];have n:=Fh (P:=P) (C:=C) (d:=d) (off:=lo.toNat*t.size) (Builtin.zeroCells zs.toArray<|l.length - lo.toNat).toList 0 p cur.toList f u.one (by rw[c,v];omega);rw[Ϩ]at n;obtain⟨m,hm⟩:∃m,l.length - lo.toNat=m+1:=⟨l.length - lo.toNat - 1,by omega⟩;rw[hm]at n ⊢;simp[Builtin.clear_,zw w,qA E,G];rw[show(Builtin.zeroCells zs.toArray (m+1)).toList=(Builtin.zeroCells zs.toArray (m+1)).toList from rfl,n];simp
   ·have hlen:(l.take lo.toNat++List.replicate (l.length - lo.toNat) z).length=l.length:=by
     rw[dt,ef,ec];omega
    have L:(l.take lo.toNat).length=lo.toNat:=A2
    refine⟨by rw[hlen];exact h.most,.inr ⟨g,_,xs.take (lo.toNat*t.size)++(Builtin.zeroCells zs.toArray<|l.length - lo.toNat).toList,rfl,(hr.take _ |>.step b).append<|u.step b,(lc f).obj,by rw[hlen];exact h2,h3,by rw[fq,qu,v],?_,h6,h7,h8⟩⟩;rw[hlen];apply bp;intro j;rw[dl];have B:=hr.length;have k:(xs.take (lo.toNat*t.size)).length=lo.toNat*t.size:=by rw[ef,B];omega
    by_cases I:j<l.length*t.size
    ·rw[Ϙ I];simp only[List.toList_toArray]at *;rw[nQ _ _ _ _ (by rw[c,v];omega),c];by_cases y:j<lo.toNat*t.size
     ·rw[ϙ om,ci (by rw[k];exact y),dl,Ϙ y,←h5,dl,Ϙ I]
     ·rw[Ϙ om,cj (by rw[k];omega),k]
    ·rw[ϙ I,co];rw[dt,k,c];omega
end
section
variable [Fc] [Fb] {P:Program} {n:Nat} {c:Code} {i:Nat} {Q:bH} {E:aK} {g:K} {p:Type} {t:Ty p} {o:aN} {e T:TypeId} {a:Option Addr} {cp:Nat} {l r:List p}
def HJ d{hi}(hg:Gr t false o g e a cp l)(hx:bB l 0 hi=some r)(hk:Gr t false o g e a cp r->aS P n c (i+1) Q (aR E d (.slice a r.length cp)) g)(h:st c i n E (some d)=true:=by kernel_rfl)(ho:execOp (ev E) (zv c i)=aY (Instr.sliceAt T (.slice a l.length cp) none (dQ (some hi)) none):=by kernel_rfl)(hT:zH P T=some e:=by kernel_rfl)(hs:zL P e=some t.size:=by kernel_rfl):aS P n c i Q E g:=by
 have b:=(kY hx).2.2.2;refine jc _ h (λC j=>by rw[ho];exact zD<|AN (lo:=none) (hi:=some hi) hT hs hg.cap hx _) ?_;have f:((Option.getD none 0:Int).toNat)=0:=rfl;rw[f,Nat.zero_mul,add_zero,Nat.sub_zero];refine hk ?_;rw[b];exact hg.take _
def Jm d d2{lo:Int}(zs:List Value){z:p}(hg:Gr t false o g e a cp l)(hzo:t.own g zs z)(hx:js l lo z=some r)(hk:∀g',Step (aD a cp) g g'->Gr t false o g' e a cp r->aS P n c (i+1+1) Q (aR E d (.slice (if cp=lo.toNat then a else a.map (·.add (lo.toNat*t.size))) (l.length - lo.toNat) (cp - lo.toNat))) g')(h:st c i n E (some d)=true:=by kernel_rfl)(ho:execOp (ev E) (zv c i)=aY (Instr.sliceAt T (.slice a l.length cp) (dQ (some lo)) none none):=by kernel_rfl)(h2:∀v,st c (i+1) n (aR E d v) none=true:=by intro _;kernel_rfl)(ho2:∀v,execOp (ev (aR E d v)) (zv c (i+1))=aY (Builtin.clear_ #[T] d2 #[v]):=by intro _;kernel_rfl)(hT:zH P T=some e:=by kernel_rfl)(hs:zL P e=some t.size:=by kernel_rfl)(hz:(eX P e).map Value.cells=some zs.toArray:=by kernel_rfl):aS P n c i Q E g:=by
 obtain⟨x,w,A⟩:=GK hx;have f:bB l (Option.getD (some lo) 0) (Option.getD none (l.length:Int))=some (l.drop lo.toNat):=by
  unfold bB;simp only[gz,ϲ];rw[Ϙ ⟨x,w,by omega⟩];simp
 refine jc _ h (λC k=>by rw[ho];exact zD<|AN (lo:=some lo) (hi:=none) hT hs hg.cap f _) ?_;simp only[gz];rw[dv];refine mo (h2 _) (λC k a' u=>?_);obtain⟨g',b,j,m⟩:=SY (ty:=d2) hT hz hzo hg hx C k;obtain⟨_,_,y,_⟩:=jb<|h2<|.slice (if cp=lo.toNat then a else a.map (·.add (lo.toNat*t.size))) (l.length - lo.toNat)<|cp - lo.toNat;refine kl (by rw[u.eval,ho2];exact zD b) ?_;rw[y];exact hk g' j m C k _ u
end
def Ig{c:Type}{l r:List c}{z:c}{lo}(h:js l lo z=some r):r.length=l.length:=by
 obtain⟨b,a,rfl⟩:=GK h;rw[dt,ef,ec];omega
section
variable {P:Program} {f:FuncId} {args:Array Value} {p:K} {s:Type} {t:Ty s} {q:aN} {e:TypeId} {a:Option Addr} {c:Nat} {l:List s}
def K.frB(p:K)(g m:Nat):K:=⟨p.H,λb=>if b=g then m else p.fr b,p.tag⟩
def Fn.borrow{B:Value->Prop}(hg:Gr t false q p e a c l)(h:∀p1,p1.H=p.H->Step (aD a c) p p1->Gr t true q p1 e a c l->Fn P f args p1 (λv p'=>Step [] p1 p'/\B v)):Fn P f args p (λv p'=>Step [] p p'/\B v):=by
 by_cases hp:∃g,aD a c=[g]
 ·obtain⟨g,m⟩:=hp;obtain⟨p1,j,k,u⟩:=hg.publish;have H:=h p1 j k u;intro C d;have E:W C p d=W C p1 d:=by unfold W;rw[j]
  rw[E];refine(H C d).mono ?_;rintro ex w' ⟨v,p2,D,r,A,hs,F⟩;refine⟨v,K.frB p2 g<|p.fr g,D,r,by rw[A];unfold W K.frB;rfl,?_,F⟩;have x:=hg.lt g (by rw[m];simp);have w:∀b,b<p.H.size->(K.frB p2 g<|p.fr g).shp b=p.shp b:=λb hlt=>by
   show p2.shp b=p.shp b;unfold K.shp;rw[(hs.2.1 b (by rw[j];exact hlt) si).1,j]
  have G:∀b,b<p.H.size->(K.frB p2 g<|p.fr g).tag b=p.tag b:=λb hlt=>by
   show p2.tag b=p.tag b;rw[(hs.2.1 b (by rw[j];exact hlt) si).2.2];by_cases i:b=g
   ·subst i;exact O2
   ·exact(k.2.1 b hlt K0).2.2
  refine⟨by rw[←j];exact hs.1,λb hlt _=>?_,λb hlt=>?_,λb hlt _=>⟨G b hlt,w b hlt⟩⟩
  ·have n:=hs.2.1 b (by rw[j];exact hlt) si;have I:(K.frB p2 g<|p.fr g).H[b]?=p.H[b]?:=by
    show p2.H[b]?=p.H[b]?;rw[n.1,j]
   by_cases i:b=g
   ·subst i;refine⟨I,by simp[K.frB],?_⟩;show p2.tag b=p.tag b;rw[n.2.2];exact O2
   ·have y:=k.2.1 b hlt K0;refine⟨I,?_,?_⟩
    ·simp only[K.frB,ϙ i];rw[n.2.1,y.2.1]
    ·show p2.tag b=p.tag b;rw[n.2.2,y.2.2]
  ·have n:=hs.2.1 b (by rw[j];exact hlt) si;have z:∀o,(K.frB p2 g<|p.fr g).cell b o=p.cell b o:=λo=>by
    show K.cell p2 b o=K.cell p b o;unfold K.cell;rw[n.1,j]
   refine⟨?_,λo _=>z o⟩;by_cases i:b=g
   ·subst i;simp[K.frB]
   ·have y:=k.2.1 b hlt K0;simp only[K.frB,ϙ i];rw[n.2.1,y.2.1];exact gd _
 ·have m:aD a c=[]:=by
   cases a with
   | none=>rfl
   | some ad=>
    by_cases z:c=0
    ·rw[z,GZ]
    ·exact x4 ⟨ad.block,by simp[aD,z]⟩ hp
  obtain⟨p1,j,k,u⟩:=hg.publish;have H:=h p1 j k u;intro C d;have E:W C p d=W C p1 d:=by unfold W;rw[j]
  rw[E];rw[m]at k;refine(H C d).mono ?_;rintro ex w' ⟨v,p2,D,r,A,hs,F⟩;exact⟨v,p2,D,r,A,k.trans hs,F⟩
end
def Gr.any{i:Type}{t:Ty i}{pub d}(d':aN){e:TypeId}{l:List i}{f a c}(h:Gr t pub d f e a c l)(hb:aD a c=[]):Gr t pub d' f e a c l:=by
 refine⟨h.most,?_⟩;rcases h.body with h1 |⟨g,cur,xs,ha,hr,hH,h1,_⟩
 ·exact .inl h1
 ·have b:c=0:=by
   subst ha;by_cases b:c=0
   ·exact b
   ·simp[aD,b]at hb
  exact .inl ⟨b,bl om⟩
def Gr.lo{j:Type}{t:Ty j}{f:K}{e:TypeId}{l:List j}{pub i a c}(h:Gr t pub i f e a c l):i.1<f.H.size\/aD a c=[]:=by
 by_cases b:aD a c=[]
 ·exact .inr b
 ·obtain⟨g,d⟩:=List.exists_mem_of_ne_nil _ b;have:=h.lt g d;exact .inl<|ϣ this.2.2 this.1
def Gr.low{d:Type}{t:Ty d}{b:K}{e:TypeId}{l:List d}{pub N i m a c}(h:Gr t pub (N,i) b e a c l)(go:m<=N)(hb:m<b.H.size):
  ∃N',m<=N'/\N'<b.H.size/\Gr t pub (N',i) b e a c l:=by
 rcases h.lo with h1 | h1
 ·exact⟨N,go,h1,h⟩
 ·exact⟨m,gd _,hb,h.any _ h1⟩
abbrev Hd:=Option Addr×Nat×Nat
def tH:Ty Hd:=⟨1,λ_ cs h=>cs=[.slice h.1 h.2.1 h.2.2],λh=>by rw[h];rfl,λ_ h=>h,λh v hv=>by rw[h]at hv;simp at hv;subst hv;rfl⟩
def gJ(h:Hd):List Nat:=aD h.1 h.2.2
def mblk(a:Option Addr)(c:Nat)(hs:List Hd):List Nat:=aD a c++hs.flatMap gJ
def By(a:Option Addr)c:(aD a c).Nodup:=by
 unfold aD;cases a with
 | none=>simp
 | some x=>simp only[];split<;>simp
structure aZ{b:Type}(t:Ty b)(pub:Bool)(e:aN)(d:K)(eo ei:TypeId)(a:Option Addr)(c:Nat)(hm hs:List Hd)(L:List (List b)):Prop where
 out:Gr tH false e d eo a c hm
 len:hs.length=L.length
 rows:∀(i:Nat)(h:Hd)(l:List b),hs[i]?=some h->L[i]?=some l->h.2.1=l.length/\Gr t pub e d ei h.1 h.2.2 l
 nd:(mblk a c hs).Nodup
section
variable {q:Type} {t:Ty q} {pub:Bool} {τ:aN} {p p':K} {eo ei:TypeId} {a:Option Addr} {c:Nat} {hm hs:List Hd} {L:List (List q)} {M:List Nat}
def uZ{g:Nat}:g∈mblk a c hs↔g∈aD a c\/∃(i:Nat)(h:Hd),hs[i]?=some h/\g∈gJ h:=by
 unfold mblk;rw[er,ϭ];constructor
 ·rintro(h |⟨x,d,b⟩)
  ·exact .inl h
  ·obtain⟨i,hi⟩:=cz d;exact .inr ⟨i,x,hi,b⟩
 ·rintro(h |⟨i,x,d,b⟩)
  ·exact .inl h
  ·exact .inr ⟨x,fe d,b⟩
def aZ.row_at(h:aZ t pub τ p eo ei a c hm hs L){i:Nat}{hd:Hd}(hi:hs[i]?=some hd):∃l,L[i]?=some l/\hd.2.1=l.length/\Gr t pub τ p ei hd.1 hd.2.2 l:=by
 have hlt:i<L.length:=by rw[←h.len];exact(cv.1 hi).1
 have b:L[i]?=some L[i]:=by simp[hlt]
 exact⟨L[i],b,h.rows i hd _ hi b⟩
def aZ.lt(h:aZ t pub τ p eo ei a c hm hs L):∀g∈mblk a c hs,g<p.H.size/\p.tag g=τ/\τ.1<=g:=by
 intro g b;rcases uZ.1 b with b |⟨i,hd,hi,b⟩
 ·exact h.out.lt g b
 ·obtain⟨l,_,_,d⟩:=h.row_at hi;exact d.lt g b
def aZ.step(s:Step M p p')(hM:∀g∈mblk a c hs,g∉M)(h:aZ t pub τ p eo ei a c hm hs L):aZ t pub τ p' eo ei a c hm hs L:=⟨h.out.step s (λg b=>hM g<|uZ.2<|.inl b),h.len,λi hd l hi d=>⟨(h.rows i hd l hi d).1,(h.rows i hd l hi d).2.step s (λg b=>hM g<|uZ.2<|.inr ⟨i,hd,hi,b⟩)⟩,h.nd⟩
def aZ.step0(s:Step [] p p')(h:aZ t pub τ p eo ei a c hm hs L):aZ t pub τ p' eo ei a c hm hs L:=D6
def aZ.most(h:aZ t pub τ p eo ei a c hs hs L):L.length<=9223372036854775807:=by rw[←h.len];exact Ci h.out.most
def aZ.idx{ix:Int}{l:List q}(h:aZ t pub τ p eo ei a c hs hs L)(hx:idx L ix=some l):
  ∃b ah ch,a=some ⟨b,0,none⟩/\0<=ix/\ix<(L.length:Int)/\hs[ix.toNat]?=some (ah,l.length,ch)/\At p b (0+ix.toNat*1) [.slice ah l.length ch]/\Gr t pub τ p ei ah ch l:=by
 obtain⟨k,v,u⟩:=i' hx;have hlt:ix.toNat<hs.length:=by rw[h.len];omega
 have i:hs[ix.toNat]?=some hs[ix.toNat]:=by simp[hlt]
 obtain⟨j,n⟩:=h.rows _ _ _ i u;have f:Lf.idx hs ix=some hs[ix.toNat]:=by unfold Lf.idx;rw[Ϙ k];exact i
 obtain⟨b,r,_,_,cs,d,m⟩:=h.out.idx f;refine⟨b,hs[ix.toNat].1,hs[ix.toNat].2.2,r,k,v,?_,?_,n⟩
 ·rw[i,←j]
 ·have:cs=[.slice hs[ix.toNat].1 hs[ix.toNat].2.1 hs[ix.toNat].2.2]:=m;rw[this,j]at d;exact d
def aZ.made{n}(h:Gr tH false τ p eo a c (List.replicate n (none,0,0))):aZ t pub τ p eo ei a c (List.replicate n (none,0,0)) (List.replicate n (none,0,0)) (List.replicate n ([]:List q)):=by
 refine⟨h,by simp,λi hd l hi d=>?_,?_⟩
 ·have b:hd=(none,0,0):=List.eq_of_mem_replicate<|fe hi;have f:l=[]:=List.eq_of_mem_replicate<|fe d;subst b;subst f;exact⟨rfl,Gr.nil⟩
 ·unfold mblk;have:(List.replicate n ((none,0,0):Hd)).flatMap gJ=[]:=by
   rw[List.flatMap_eq_nil_iff];intro x j;rw[List.eq_of_mem_replicate j];rfl
  rw[this,bg];exact By a c
def zz5{i hd h'}(hi:hs[i]?=some hd):∃X Y,hs.flatMap gJ=X++gJ hd++Y/\(hs.set i h').flatMap gJ=X++gJ h'++Y:=by
 have hlt:=(cv.1 hi).1;have a:=(cv.1 hi).2;refine⟨(hs.take i).flatMap gJ,(hs.drop (i+1)).flatMap gJ,?_,?_⟩
 ·have:hs=hs.take i++hd::hs.drop (i+1):=by
   rw[←a,List.getElem_cons_drop,K7]
  conv=>lhs;rw[this]
  simp[ca,ce,bf]
 ·rw[List.set_eq_take_append_cons_drop,Ϙ hlt];simp[ca,ce,bf]
def Oh{B':List Nat}{A X B Y n}(h:(A++(X++B++Y)).Nodup)(hb:B'.Nodup)(hlt:∀g∈A++(X++B++Y),g<n)(hw:∀g∈B',g∈B\/n<=g):(A++(X++B'++Y)).Nodup:=by
 simp only[fj,er]at h hlt ⊢;obtain⟨j,⟨⟨f,l,i⟩,k,d⟩,c⟩:=h;refine⟨j,⟨⟨f,hb,λx b y a=>?_⟩,k,λx b y a=>?_⟩,λx b y a=>?_⟩
 ·rcases hw y a with hyb | hyn
  ·exact i x b y hyb
  ·have:=hlt x<|.inr<|.inl<|.inl b;omega
 ·rcases b with b | b
  ·exact d x (.inl b) y a
  ·rcases hw x b with hxb | hxn
   ·exact d x (.inr hxb) y a
   ·have:=hlt y<|.inr<|.inr a;omega
 ·rcases a with(a | a) | a
  ·exact c x b y<|.inl<|.inl a
  ·rcases hw y a with hyb | hyn
   ·exact c x b y<|.inl<|.inr hyb
   ·have:=hlt x<|.inl b;omega
  ·exact c x b y<|.inr a
def aZ.row(h:aZ t pub τ p eo ei a c hm hs L){l':List q}{i hd a' c'}(hi:hs[i]?=some hd)(s:Step (gJ hd) p p')(g:Gr t pub τ p' ei a' c' l')(hw:∀x∈aD a' c',x∈gJ hd\/p.H.size<=x):aZ t pub τ p' eo ei a c hm (hs.set i (a',l'.length,c')) (L.set i l'):=by
 have hlt:=(cv.1 hi).1;obtain⟨X,Y,y,B⟩:=zz5 (h':=(a',l'.length,c')) hi;have f:=h.nd;unfold mblk at f;refine⟨h.out.step s (λx m w=>?_),by rw[ed,ed];exact h.len,λj A l b d=>?_,?_⟩
 ·rw[fj]at f;exact f.2.2 x m x (by rw[y];simp[w]) rfl
 ·by_cases k:i=j
  ·subst k;rw[dj hlt]at b;rw[dj (by rw[←h.len];exact hlt)]at d;injection b with b;injection d with d
   subst b;subst d;exact⟨rfl,g⟩
  ·rw[dh k]at b d;refine⟨(h.rows j A l b d).1,(h.rows j A l b d).2.step s (λx m w=>?_)⟩;have z:=(fj.1 f).2.1;have hp:=(List.pairwise_flatMap.1 z).2;have r:=(cv.1 b).1;have u:=fo.1 hp;have ei':=(cv.1 hi).2;have v:=(cv.1 b).2;rcases gk k with hlt' | hlt'
   ·have:=u i j hlt r hlt';rw[ei',v]at this;exact this x w x m rfl
   ·have:=u j i r hlt hlt';rw[ei',v]at this;exact this x m x w rfl
 ·unfold mblk;rw[B];rw[y]at f;refine Oh f (By a' c') (n:=p.H.size) (λx m=>?_) hw;have:x∈mblk a c hs:=by unfold mblk;rw[y];exact m
  exact(h.lt x this).1
def aZ.outer(h:aZ t pub τ p eo ei a c hm hs L){a' c' hm'}(s:Step (aD a c) p p')(g:Gr tH false τ p' eo a' c' hm')(hw:∀x∈aD a' c',x∈aD a c\/p.H.size<=x):aZ t pub τ p' eo ei a' c' hm' hs L:=by
 have b:=h.nd;unfold mblk at b;refine⟨g,h.len,λi hd l hi f=>⟨(h.rows i hd l hi f).1,(h.rows i hd l hi f).2.step s (λx d j=>?_)⟩,?_⟩
 ·exact(fj.1 b).2.2 x j x (ϭ.2 ⟨hd,fe hi,d⟩) rfl
 ·unfold mblk;have:=Oh (A:=[]) (X:=[]) (B:=aD a c) (Y:=hs.flatMap gJ) (B':=aD a' c') (n:=p.H.size) (϶ b) (By a' c') (λx d=>(h.lt x (by simpa[mblk]using d)).1) hw;exact w8
def K.retag(p:K)(B:List Nat)(τ:aN):K:=⟨p.H,p.fr,λb=>if b∈B then τ else p.tag b⟩
def Gr.fr0{e:TypeId}{l:List q}(h:Gr t false τ p e a c l):∀g∈aD a c,p.fr g=0:=by
 intro g b;rcases h.body with⟨d,_⟩ |⟨g',cur,xs,ha,hr,hH,h1,h2,h3,h4,h5,h6,h7⟩
 ·rw[d,GZ]at b;cases b
 ·rw[ha]at b;have:=(Ca b).1;rw[this];simpa using h5
def Gr.retag{e:TypeId}{l:List q}{τ'}(h:Gr t false τ p e a c l)(hle:τ'.1<=τ.1):Gr t false τ' (p.retag (aD a c) τ') e a c l/\Step (aD a c) p (p.retag (aD a c) τ'):=by
 have hs:Step (aD a c) p (p.retag (aD a c) τ'):=⟨gd _,λb f hm=>⟨rfl,rfl,by simp[K.retag,hm]⟩,λb f=>⟨gd _,λo _=>rfl⟩,λb f i=>⟨by
  have:b∉aD a c:=λhm=>by rw[h.fr0 b hm]at i;omega
  simp[K.retag,this],rfl⟩⟩
 refine⟨⟨h.most,?_⟩,hs⟩;rcases h.body with h1 |⟨g,cur,xs,ha,hr,hH,h1,h2,h3,h4,h5,h6,h7⟩
 ·exact .inl h1
 ·by_cases d:c=0
  ·exact .inl ⟨d,bl om⟩
  ·refine .inr ⟨g,cur,xs,ha,hr.step hs,hH,h1,h2,h3,h4,h5,?_,gg hle h7⟩;have:g∈aD a c:=by rw[ha];exact E8
   simp[K.retag,this]
def aZ.snoc{l:List q}{τr ar cr}(h:aZ t false τ p eo ei a c hm hs L)(g:Gr t false τr p ei ar cr l)(hne:τr≠τ)(hle:τ.1<=τr.1):
  ∃p',p'.H=p.H/\Step (aD ar cr) p p'/\aZ t false τ p' eo ei a c hm (hs++[(ar,l.length,cr)]) (L++[l]):=by
 obtain⟨r,s⟩:=g.retag (τ':=τ) hle;have b:∀x∈mblk a c hs,x∉aD ar cr:=λx k u=>hne<|(g.lt x u).2.1.symm.trans (h.lt x k).2.1;have h':=h.step s b;refine⟨p.retag (aD ar cr) τ,rfl,s,h'.out,by rw[dt,dt,h.len];rfl,λi hd l1 hi d=>?_,?_⟩
 ·by_cases hlt:i<hs.length
  ·rw[ci hlt]at hi;rw[ci (by rw[←h.len];exact hlt)]at d;exact h'.rows i hd l1 hi d
  ·rw[cj om]at hi;rw[cj (by rw[←h.len];omega)]at d;have m:i - hs.length=0:=by
    have:=(cv.1 hi).1;exact C4
   rw[m]at hi;rw[←h.len,m]at d;simp at hi d;subst hi;subst d;exact⟨rfl,r⟩
 ·have f:=h.nd;unfold mblk at f ⊢;rw[ca,←bf,fj];refine⟨f,by simpa[gJ]using By ar cr,λx k y n=>?_⟩;have j:y∈aD ar cr:=by simpa[gJ]using n
  intro e;subst e;exact b x k j
end
section
variable {q:Type} {t:Ty q} {pub:Bool} {G:aN} {p p':K} {eo ei:TypeId} {a:Option Addr} {c:Nat} {hm hs:List Hd} {L:List (List q)} {M:List Nat}
def Gr.publish'{e:TypeId}{l:List q}(h:Gr t pub G p e a c l):∃p',p'.H=p.H/\p'.tag=p.tag/\Step (aD a c) p p'/\Gr t true G p' e a c l:=by
 cases pub with
 | true=>exact⟨p,rfl,rfl,u4,h⟩
 | false=>
 rcases h.body with⟨j,i⟩ |⟨g,cur,xs,ha,hr,hH,h1,h2,h3,h4,h5,h6,h7⟩
 ·exact⟨p,rfl,rfl,u4,h.most,.inl ⟨j,i⟩⟩
 ·by_cases d:c=0
  ·exact⟨p,rfl,rfl,u4,h.most,.inl ⟨d,bl om⟩⟩
  have hs:Step (aD a c) p (p.pubB g (l.length*t.size)):=by
   refine⟨gd _,λb f hm=>⟨rfl,?_,rfl⟩,λb f=>⟨?_,λo _=>rfl⟩,λb f _=>⟨rfl,rfl⟩⟩
   ·simp only[K.pubB];exact V4
   ·simp only[K.pubB];split
    ·rename_i e;subst e;rw[h5];simp
    ·exact gd _
  exact⟨p.pubB g (l.length*t.size),rfl,rfl,hs,h.most,.inr ⟨g,cur,xs,ha,hr.step hs,hH,h1,h2,h3,h4,by simp[K.pubB],h6,h7⟩⟩
def ON:∀(hs:List Hd)(L:List (List q))(p:K),hs.length=L.length->(∀(i:Nat)(h:Hd)(l:List q),hs[i]?=some h->L[i]?=some l->h.2.1=l.length/\Gr t pub G p ei h.1 h.2.2 l)->(hs.flatMap gJ).Nodup->
  ∃p',p'.H=p.H/\p'.tag=p.tag/\Step (hs.flatMap gJ) p p'/\∀(i:Nat)(h:Hd)(l:List q),hs[i]?=some h->L[i]?=some l->h.2.1=l.length/\Gr t true G p' ei h.1 h.2.2 l
 |[],L,p,_,_,_=>⟨p,rfl,rfl,u4,λi h l hi=>by simp at hi⟩
 | h::hs,[],p,hl,_,_=>x6 hl
 | h::hs,l::L,p,hl,hr,hn=>by
  rw[ce,fj]at hn;obtain⟨m,y⟩:=hr 0 h l rfl rfl;obtain⟨p1,v,r,j,u⟩:=y.publish';obtain⟨p2,z,n,s2,k⟩:=ON hs L p1 (϶ hl) (λi h' l' hi a=>by
   obtain⟨w,A⟩:=hr (i+1) h' l' hi a;refine⟨w,A.step j (λx f d=>hn.2.2 x d x (ϭ.2 ⟨h',fe hi,f⟩) rfl)⟩) hn.2.1
  refine⟨p2,z.trans v,n.trans r,?_,λi h' l' hi a=>?_⟩
  ·rw[ce];exact(j.mono (λb c=>er.2 (.inl c))).trans (s2.mono (λb c=>er.2 (.inr c)))
  ·cases i with
   | zero=>
    simp at hi a;subst hi;subst a;exact⟨m,u.step s2 (λx f d=>hn.2.2 x f x d rfl)⟩
   | succ i=>exact k i h' l' hi a
def T_{l:List Hd}:∀{xs:List Value} {L:List (List q)},bA tH p xs l->l.length=L.length->(∀(i:Nat)(h:Hd)(r:List q),l[i]?=some h->L[i]?=some r->h.2.1=r.length/\Sl t p h.1 h.2.2 r)->bA (aW t) p xs L:=by
 induction l with
 | nil=>
  intro xs L j b _;cases L with
  | nil=>exact j
  | cons _ _=>simp at b
 | cons h l ih=>
  intro xs L j b a;cases L with
  | nil=>simp at b
  | cons r L=>
   obtain⟨c,d,e,n,f⟩:=j;obtain⟨m,v⟩:=a 0 h r rfl rfl;refine⟨c,d,e,⟨h.1,h.2.2,?_,v⟩,ih f (϶ b) (λi h' u hi k=>a (i+1) h' u hi k)⟩;have:c=[.slice h.1 h.2.1 h.2.2]:=n;rw[this,m]
def aZ.publish(h:aZ t pub G p eo ei a c hs hs L):∃p',p'.H=p.H/\p'.tag=p.tag/\Step (mblk a c hs) p p'/\Gr (aW t) true G p' eo a c L:=by
 have d:=h.nd;unfold mblk at d;rw[fj]at d;obtain⟨p1,A,z,v,D⟩:=ON hs L p h.len h.rows d.2.1;have y:=h.out.step v (λx m j=>d.2.2 x m x j rfl);obtain⟨p2,E,w,s2,u⟩:=y.publish';have k:Step (mblk a c hs) p p2:=(v.mono (λb l=>by unfold mblk;exact er.2<|.inr l)).trans<|s2.mono (λb l=>by unfold mblk;exact er.2<|.inl l);refine⟨p2,E.trans A,w.trans z,k,B8 u.most,?_⟩;rcases u.body with⟨j,B⟩ |⟨g,cur,xs,ha,hr,hH,h1,h2,h3,h4,h5,h6,h7⟩
 ·refine .inl ⟨j,?_⟩;have:=h.len;rw[B]at this;exact bl (by simpa using this.symm)
 ·have f:bA (aW t) p2 xs L:=T_ hr h.len (λi hd r hi n=>by
   obtain⟨C,F⟩:=D i hd r hi n;exact⟨C,(F.step s2 (λx m j=>d.2.2 x j x (ϭ.2 ⟨hd,fe hi,m⟩) rfl)).sl⟩)
  exact .inr ⟨g,cur,xs,ha,f,hH,B8 h1,h2,h3,B8 h4,B8 h5,h6,h7⟩
def K.back(p p':K):K:=⟨p'.H,λb=>if b<p.H.size then p.fr b else p'.fr b,p'.tag⟩
def QB{p1:K}{p2}(e:p1.H=p.H)(et:p1.tag=p.tag)(s:Step [] p1 p2):Step [] p (K.back p p2):=by
 refine⟨by rw[←e];exact s.1,λb c _=>?_,λb c=>?_,λb c _=>?_⟩
 ·have a:=I9;exact⟨by show p2.H[b]?=_;rw[a.1,e],by simp[K.back,c],by show p2.tag b=_;rw[a.2.2,et]⟩
 ·have a:=I9;refine⟨by simp[K.back,c],λo _=>?_⟩;show K.cell p2 b o=K.cell p b o;unfold K.cell;rw[a.1,e]
 ·have a:=I9;refine⟨by show p2.tag b=_;rw[a.2.2,et],?_⟩;show K.shp p2 b=K.shp p b;unfold K.shp;rw[a.1,e]
def Fn.lend{args:Array Value}{R:Value->K->Prop}{p1:K}{P f}(e:p1.H=p.H)(et:p1.tag=p.tag)(h:Fn P f args p1 (λv p'=>Step [] p1 p'/\R v p'))(hR:∀v p2,Step [] p1 p2->R v p2->R v (K.back p p2)):Fn P f args p (λv p'=>Step [] p p'/\R v p'):=by
 intro C d;have i:W C p d=W C p1 d:=by unfold W;rw[e]
 rw[i];refine(h C d).mono ?_;rintro ex w' ⟨v,p2,c,a,b,hs,j⟩;exact⟨v,K.back p p2,c,a,by rw[b];unfold W K.back;rfl,QB e et hs,hR v p2 hs j⟩
def Ip:∀{l:List Int} {xs:List Value},bA tI64 p xs l->bA tI64 p' xs l
 |[],_,h=>h
 | _::_,_,⟨c,xs',e,ho,hr⟩=>⟨c,xs',e,ho,Ip hr⟩
def Gr.back{e:TypeId}{N i l}(h:Gr tI64 pub (N,i) p' e a c l)(hN:p.H.size<=N):Gr tI64 pub (N,i) (K.back p p') e a c l:=by
 refine⟨h.most,?_⟩;rcases h.body with h1 |⟨g,cur,xs,ha,hr,hH,h1,h2,h3,h4,h5,h6,h7⟩
 ·exact .inl h1
 ·refine .inr ⟨g,cur,xs,ha,?_,hH,h1,h2,h3,h4,?_,h6,h7⟩
  ·exact Ip hr
  ·have:¬g<p.H.size:=by
    have:N<=g:=h7;omega
   simp[K.back,this,h5]
end
section
variable [Fc] [Fb] {P:Program} {n:Nat} {c:Code} {i:Nat} {Q:bH} {E:aK} {o:Type} {t:Ty o} {m:aN} {k:K} {eo ei:TypeId} {a:Option Addr} {cp:Nat} {hm hs:List Hd} {L:List (List o)}
def FC{pub}(h:aZ t pub m k eo ei a cp hs hs L)(hk:∀k',Step (mblk a cp hs) k k'->Gr (aW t) true m k' eo a cp L->aO P n c Q E k'):aO P n c Q E k:=by
 obtain⟨k',e,_,s,g⟩:=h.publish;exact OB e<|hk k' s g
def Sf{l:List Hd}{i h}(hi:l[i]?=some h):l.set i h=l:=by
 apply bp;intro j;rw[ϫ];split
 ·rename_i e;subst e;have:=(cv.1 hi).1;rw[Ϙ this,hi]
 ·rfl
def BK{jx:Int}{x':o}{T:TypeId}{vs:List Value}{l:List o}{ix b δ ah ch}(v:Value)(h:st c i n E none=true)(ho:execOp (ev E) (zv c i)=ik (Instr.storeAt T (.pointer (some ⟨b,0+jx.toNat*t.size+δ,none⟩)) v))(ea:ah=some ⟨b,0,none⟩)(hM:aZ t false m k eo ei a cp hm hs L)(hi:hs[ix]?=some (ah,l.length,ch))(hl:L[ix]?=some l)(h0:0<=jx)(h1:jx<(l.length:Int))(hv:v.cells=vs.toArray)(hs':zL P T=some vs.length)(hone:lu vs=true)(hδ:Nat.ble (δ+vs.length) t.size=true)(hnew:∀cs,(∃x,idx l jx=some x/\t.own k cs x)->t.own k (splice cs δ vs) x')(hk:∀k',Step (aD ah ch) k k'->aZ t false m k' eo ei a cp hm hs (L.set ix (l.set jx.toNat x'))->aS P n c (i+1) Q E k'):aS P n c i Q E k:=by
 have d:=(hM.rows ix _ l hi hl).2;refine iG v h ho ea d h0 h1 hv hs' hone hδ hnew (λk' s g=>hk k' s ?_);have:=hM.row hi s g (λx f=>.inl f);rw[ed,Sf hi]at this;exact this
def GV{ix:Int}{T:TypeId}{b hd}(h:st c i n E none=true)(ho:execOp (ev E) (zv c i)=ik (Instr.storeAt T (.pointer (some ⟨b,0+ix.toNat*1+0,none⟩)) (.slice hd.1 hd.2.1 hd.2.2)))(ea:a=some ⟨b,0,none⟩)(hM:aZ t false m k eo ei a cp hm (hm.set ix.toNat hd) L)(h0:0<=ix)(h1:ix<(hm.length:Int))(hs':zL P T=some 1)(hk:∀k',Step (aD a cp) k k'->aZ t false m k' eo ei a cp (hm.set ix.toNat hd) (hm.set ix.toNat hd) L->aS P n c (i+1) Q E k'):aS P n c i Q E k:=by
 refine iG (t:=tH) (x':=hd) (vs:=[.slice hd.1 hd.2.1 hd.2.2]) (δ:=0) _ h ho ea hM.out h0 h1 rfl hs' rfl rfl (λcs f=>?_) (λk' s g=>hk k' s<|hM.outer s g (λx f=>.inl f));obtain⟨x,_,d⟩:=f;have:cs=[.slice x.1 x.2.1 x.2.2]:=d;subst this;rfl
end
section
variable {m n:Type} {t:Ty m} {t':Ty n} {pub pub':Bool} {j j':aN} {k:K} {eo ei eo' ei' e:TypeId} {a a':Option Addr} {c c':Nat} {hm hs hm' hs':List Hd} {L:List (List m)} {L':List (List n)} {b:Nat} {cs:List Value} {T:TypeId}
def aZ.nil:aZ t pub j k eo ei none 0 [] [] ([]:List (List m)):=⟨Gr.nil,rfl,λi h l hi=>by simp at hi,by simp[mblk,aD]⟩
def aZ.own{k0:K}(h:aZ t pub j k eo ei a c hm hs L)(h0:k0.H.size<=j.1):∀b∈mblk a c hs,k0.H.size<=b:=λb d=>gg h0 (h.lt b d).2.2
def aZ.nbo(h:aZ t pub j k eo ei a c hm hs L)(h':dR j' k b)(hn:j≠j'):∀g∈mblk a c hs,g∉[b]:=λg d f=>by
 have i:g=b:=by simpa using f
 subst i;exact hn ((h.lt g d).2.1.symm.trans h'.tag)
def aZ.bno(h:aZ t pub j k eo ei a c hm hs L)(h':dR j' k b)(hn:j'≠j):b∉mblk a c hs:=λd=>hn (h'.tag.symm.trans (h.lt b d).2.1)
def aZ.nb(h:aZ t pub j k eo ei a c hm hs L)(h':aI j' k b cs T)(hn:j≠j'):∀g∈mblk a c hs,g∉[b]:=h.nbo h'.o hn
def aZ.bn(h:aZ t pub j k eo ei a c hm hs L)(h':aI j' k b cs T)(hn:j'≠j):b∉mblk a c hs:=h.bno h'.o hn
def aZ.ng{l':List n}(h:aZ t pub j k eo ei a c hm hs L)(h':Gr t' pub' j' k e a' c' l')(hn:j≠j'):∀g∈mblk a c hs,g∉aD a' c':=N3
def aZ.ngm(h:aZ t pub j k eo ei a c hm hs L)(h':aZ t' pub' j' k eo' ei' a' c' hm' hs' L')(hn:j≠j'):∀g∈mblk a c hs,g∉mblk a' c' hs':=N3
def Gr.ngm{l:List m}(h:Gr t pub j k e a c l)(h':aZ t' pub' j' k eo' ei' a' c' hm' hs' L')(hn:j≠j'):∀g∈aD a c,g∉mblk a' c' hs':=N3
def nW{r:List (List m)}(h:some L=some r)(hM:aZ t pub j k eo ei a c hm hs L):aZ t pub j k eo ei a c hm hs r:=L5 hM
def Cs{l:List m}{ix:Int}{x:m}(h:idx l ix=some x):l[ix.toNat]?=some x:=(i' h).2.2
def qE{i:Nat}{hd:Hd}(hi:hs[i]?=some hd):∀x∈aD hd.1 hd.2.2,x∈mblk a c hs:=λx b=>uZ.2 (.inr ⟨i,hd,hi,b⟩)
def qG:∀x∈aD a c,x∈mblk a c hs:=λx b=>uZ.2 (.inl b)
end
section
variable {g:Type} {t:Ty g} {pub:Bool} {e:aN} {j:K} {eo ei:TypeId} {a:Option Addr} {c:Nat} {hm hs:List Hd} {L:List (List g)} {i:Nat} {hd:Hd}
def aZ.len0(h:aZ t pub e j eo ei a c hm (hm.set i hd) L):hm.length=(L.length):=by rw[←h.len,ed]
def aZ.snocN(h:aZ t pub e j eo ei a c hm hs L):aZ t pub e j eo ei a c hm (hs++[(none,0,0)]) (L++[[]]):=by
 refine⟨h.out,by rw[dt,dt,h.len];rfl,λi hd l1 hi b=>?_,?_⟩
 ·by_cases hlt:i<hs.length
  ·rw[ci hlt]at hi;rw[ci (by rw[←h.len];exact hlt)]at b;exact h.rows i hd l1 hi b
  ·rw[cj om]at hi;rw[cj (by rw[←h.len];omega)]at b;have f:i - hs.length=0:=by
    have:=(cv.1 hi).1;exact C4
   rw[f]at hi;rw[←h.len,f]at b;simp at hi b;subst hi;subst b;exact⟨rfl,Gr.nil⟩
 ·have d:=h.nd;unfold mblk at d ⊢;rw[ca,←bf];simpa[gJ,aD]using d
def Da{H H2:List Hd}{L2 r:List (List g)}{by_}(h:aX by_ L L2=some r)(e1:H.length=L.length)(e2:H2.length=L2.length):aX by_ H H2=some (H++H2)/\r=L++L2/\(H++H2).length=r.length:=by
 obtain⟨b,c,a⟩:=nU h;refine⟨?_,a,by rw[a,dt,dt,e1,e2]⟩;unfold aX;rw[e1,e2,Ϙ ⟨b,c⟩]
end
section
variable [Fc] [Fb] {P:Program} {n:Nat} {c:Code} {i k:Nat} {nq:List Nat} {q0:Nat} {M:List Nat} {p:List Nat} {Q:bH} {E:aK} {o:K}
variable {q:Type} {t:Ty q} {pub:Bool} {τ:aN} {e T:TypeId} {a a2:Option Addr} {cp c2:Nat} {l l2 r:List q}
def Sn{o'}(hq:Nat.beq i q0=true)(hsub:∀x∈aD a cp,x∈M)(h:Step (aD a cp) o o'):ib q0 M i o o':=by
 unfold ib;rw[hq];exact h.mono hsub
def Ng{d bytes}(h:iR c nq i E d=true)(ho:execOp (ev E) (zv c i)=aY (Builtin.append_ #[T,T] 0 #[.slice a l.length cp,.slice a2 l2.length c2]))(hg:Gr t pub τ o e a cp l)(h2:Sl t o a2 c2 l2)(hτ:τ.1<=o.H.size)(hT:hX P T=some (e,t.size,t.size,bytes))(hx:aX bytes l l2=some r)(hq:Nat.beq i q0=true)(hsub:∀x∈aD a cp,x∈M)(hk:∀a' c' o',Step (aD a cp) o o'->Gr t pub τ o' e a' c' r->(∀g∈aD a' c',g∈aD a cp\/o.H.size<=g)->bR P n c k nq q0 M p Q (aR E d (.slice a' r.length c')) o'):bR P n c k nq q0 M (i::p) Q E o:=by
 obtain⟨y,A,m,z⟩:=uI hT;obtain⟨B,hm,rfl⟩:=nU hx;refine qT (λv o'=>∃a' c',v=.slice a' (l++l2).length c'/\Step (aD a cp) o o'/\Gr t pub τ o' e a' c' (l++l2)/\∀g∈aD a' c',g∈aD a cp\/o.H.size<=g) h (λv o' ⟨_,_,_,hs,_⟩=>Sn hq hsub hs) (λC j=>?_) ?_
 ·obtain⟨a',c',o',u,w,hs,b,f⟩:=Ga (P:=P) (T:=T) (ty:=0) hg h2 hτ y A m z B hm C j;exact⟨_,o',u,x8 w,a',c',rfl,hs,b,f⟩
 ·rintro v o' ⟨a',c',rfl,hs,b,f⟩;exact hk a' c' o' hs b f
end
def UY{e:Type}{n:Int}{r:List (List e)}{by_}(h:eM by_ n ([]:List e)=some r):
  eM by_ n ((none,0,0):Hd)=some (List.replicate n.toNat (none,0,0))/\r=List.replicate n.toNat []/\(List.replicate n.toNat ((none,0,0):Hd)).length=r.length:=by
 obtain⟨b,c,d,a⟩:=OV h;refine⟨?_,a,by rw[a];simp⟩;unfold eM;rw[Ϙ ⟨b,c,d⟩]
section
variable [Fc] [Fb] {P:Program} {n:Nat} {c:Code} {i k:Nat} {nq:List Nat} {q0:Nat} {M:List Nat} {f:List Nat} {Q:bH} {E:aK} {b:K}
variable {j:Type} {t:Ty j} {pub:Bool} {τ:aN} {e T:TypeId} {a a2:Option Addr} {cp c2:Nat} {l l2 r:List j}
def Nh{d bytes}ln rn(hln:l.length=ln)(hrn:r.length=rn)(h:iR c nq i E d=true)(ho:execOp (ev E) (zv c i)=aY (Builtin.append_ #[T,T] 0 #[.slice a ln cp,.slice a2 l2.length c2]))(hg:Gr t pub τ b e a cp l)(h2:Sl t b a2 c2 l2)(hτ:τ.1<=b.H.size)(hT:hX P T=some (e,t.size,t.size,bytes))(hx:aX bytes l l2=some r)(hrel:ib q0 M i=Step (aD a cp))(hk:∀a' c' b',Step (aD a cp) b b'->Gr t pub τ b' e a' c' r->(∀g∈aD a' c',g∈aD a cp\/b.H.size<=g)->bR P n c k nq q0 M f Q (aR E d (.slice a' rn c')) b'):bR P n c k nq q0 M (i::f) Q E b:=by
 subst hln;subst hrn;exact iD h ho hg h2 hτ hT hx hrel hk
def Nu{d bytes}ln rn(hln:l.length=ln)(hrn:r.length=rn)(h:st c i n E (some d)=true)(ho:execOp (ev E) (zv c i)=aY (Builtin.append_ #[T,T] 0 #[.slice a ln cp,.slice a2 l2.length c2]))(hg:Gr t pub τ b e a cp l)(h2:Sl t b a2 c2 l2)(hτ:τ.1<=b.H.size)(hT:hX P T=some (e,t.size,t.size,bytes))(hx:aX bytes l l2=some r)(hk:∀a' c' b',Step (aD a cp) b b'->Gr t pub τ b' e a' c' r->(∀g∈aD a' c',g∈aD a cp\/b.H.size<=g)->aS P n c (i+1) Q (aR E d (.slice a' rn c')) b'):aS P n c i Q E b:=by
 subst hln;subst hrn;exact uM h ho hg h2 hτ hT hx hk
end
end Go.Lf
namespace Go.Lf
open Go Go.Conc
def oO(bytes:Nat)(n:Int):Option (List Int):=if 0<=n/\n<=9223372036854775807/\(bytes:Int)*n<=281474976710544 then some []else none
def mw(cap:Nat)(l:List Int)(x:Int):Option (List Int):=if l.length<cap then some (l++[x])else none
def vI:List Int->Option (Int×List Int)
 | x::l=>if -9223372036854775808<=x/\x<=9223372036854775807 then some (x,l)else none
 |[]=>none
def oZ(l:List Int):Option Int:=if l.length<=9223372036854775807 then some (l.length:Int)else none
def RU{bytes n l}(h:oO bytes n=some l):0<=n/\n<=9223372036854775807/\(bytes:Int)*n<=281474976710544/\l=[]:=by
 unfold oO at h;split at h
 ·rename_i h0;exact⟨h0.1,h0.2.1,h0.2.2,(A5 h).symm⟩
 ·cases h
def ND{l:List Int}{cap r x}(h:mw cap l x=some r):l.length<cap/\l++[x]=r:=by
 unfold mw at h;split at h
 ·rename_i h0;exact⟨h0,A5 h⟩
 ·cases h
def QI{l r}(h:vI l=some r):l=r.1::r.2/\aA r.1:=by
 cases l with
 | nil=>cases h
 | cons x l=>
  simp only[vI]at h;by_cases a : -9223372036854775808<=x/\x<=9223372036854775807
  ·rw[Ϙ a]at h;have:=A5 h;subst this;exact⟨rfl,a⟩
  ·rw[ϙ a]at h;cases h
def Rc{l:List Int}{r}(h:oZ l=some r):(l.length:Int)=r/\aA r:=by
 unfold oZ at h;split at h
 ·rename_i h0;have:=A5 h;subst this;exact⟨rfl,E5⟩
 ·cases h
section
variable [Fc] [Fb] {P:Program} {n:Nat} {c:Code} {i:Nat} {Q:bH} {E:aK} {g:K} {p:aN} {b cap:Nat} {l:List Int}
def eO.o(h:eO p g b cap l):dR p g b:=I6
def Cl(P:Program)(T:TypeId):Option Nat:=
 match P.underlying T with
 | some (.chan _ e)=>(P.info? e).map (·.bytes)
 | _=>none
def Uy{m:Int}{d T bytes k}(p:aN)(hτ:p.1<=g.H.size)(hx:oO bytes m=some l)(hk:∀b g',Step [] g g'->eO p g' b m.toNat l->aS P n c (i+1) Q (aR E d (.chan (some b))) g')(hT:Cl P T=some bytes:=by kernel_rfl)(h:st c i n E (some d)=true:=by kernel_rfl)(ho:execOp (ev E) (zv c i)=aY (Instr.makeChan T (.int k m)):=by kernel_rfl):aS P n c i Q E g:=by
 obtain⟨j,z,u,rfl⟩:=RU hx;unfold Cl at hT;split at hT
 ·rename_i dir e hd;obtain⟨x,hi,y⟩:=ia.1 hT;refine jF (λv g'=>∃b,v=.chan (some b)/\Step [] g g'/\eO p g' b m.toNat []) h (λC a=>?_) ?_
  ·have f:=run_makeChan (w:=W C g a) hd hi k m.toNat om (by rw[y];have:((m.toNat:Nat):Int)=m:=bc j;rw[this];exact u);have r:((m.toNat:Nat):Int)=m:=bc j;rw[r]at f;refine⟨_,g.push (.chan m.toNat #[] false 0 0 false) 0 p,a,x8 f,g.H.size,rfl,fZ _ _ _ _,⟨⟨0,0,x7⟩,x7,x7,hτ⟩⟩
  ·rintro v g' ⟨b,rfl,hs,hm⟩;exact hk b g' hs hm
 ·cases hT
def UL{d T r}(h0:eO p g b cap l)(hx:oZ l=some r)(hk:aS P n c (i+1) Q (aR E d (.int .i64 r)) g)(h:st c i n E (some d)=true:=by kernel_rfl)(ho:execOp (ev E) (zv c i)=aY (Builtin.len_ #[T] 0 #[.chan (some b)]):=by kernel_rfl)(hT:(Cl P T).isSome=true:=by kernel_rfl):aS P n c i Q E g:=by
 obtain⟨j,_⟩:=Rc hx;subst j;obtain⟨s,r,a⟩:=h0.obj;unfold Cl at hT;split at hT
 ·rename_i dir e hd;refine jc _ h (λC f=>?_) hk;rw[ho];refine zD ?_;rw[run_len_chan T 0 hd (show(W C g f).heap[b]?=_ from a)];simp[goInt]
 ·cases hT
end
def ne{a:Type}(l:List a):Option (List a):=
 match l with
 |[]=>none
 | x::l=>some (x::l)
def Sz{a:Type}{l r:List a}(h:ne l=some r):l=r/\r≠[]:=by
 cases l with
 | nil=>cases h
 | cons x l=>
  have:=A5 h;subst this;exact⟨rfl,by simp⟩
section
variable {P:Program} {E:aK} {c:Code} {i:Nat} {o:K} {m:Type} {t:Ty m} {pub:Bool} {n:aN} {e T:TypeId} {a:Option Addr} {cp:Nat} {l:List m} {w:World} [DecidableEq m]
def Qr(hg:Gr t pub n o e a cp l)(hn:l=[]->a=none)(h:execOp (ev E) (zv c i)=aY (do eqGuard .eql T (.tmp 0) (.const (.slice none 0 0)) (.slice a l.length cp) (.slice none 0 0);binOp .eql T (.slice a l.length cp) (.slice none 0 0)))(hT:zH P T=some e):(execOp (ev E) (zv c i)).run P w=.ok (.value (.bool (decide (l=[])))) w:=by
 rw[h];refine zD ?_;have k:(eqGuard .eql T (.tmp 0) (.const<|.slice none 0 0) (.slice a l.length cp)<|.slice none 0 0).run P w=.ok () w:=by simp[eqGuard]
 rw[ax,k];simp only[aw];have hd:=mh hT;have j:a.isNone=decide (l=[]):=by
  by_cases b:l=[]
  ·rw[hn b];simp[b]
  ·rcases hg.body with⟨_,f⟩ |⟨g,cur,xs,ha,_⟩
   ·exact x4 f b
   ·rw[ha];simp[b]
 rw[←j];have d:(Op.equal T (.slice a l.length cp)<|.slice none 0 0).run P w=.ok a.isNone w:=by
  show(Op.equalIn (9999+1) T (.slice a l.length cp)<|.slice none 0 0).run P w=_;exact Go.Lib.run_equalIn_slice_nil w 9999 T e a _ _ _ _ hd
 have hb2:binOp .eql T (.slice a l.length cp) (.slice none 0 0)=(do pure (.bool<|←Op.equal T (.slice a l.length cp) (.slice none 0 0))):=rfl;rw[hb2,ax,d];rfl
end
end Go.Lf
namespace Go.Lf
open Go Go.Sort
section
variable {P:Program} {f:FuncId} {args:Array Value} {o:K} {p:aN} {e:TypeId} {a:Option Addr} {c:Nat} {l:List Int}
def Gu:∀{l:List Int} {xs:List Value},bA tI64 o xs l->xs=l.map (Value.int .i64)/\∀x∈l,aA x
 |[],xs,h=>⟨h,λx f=>by cases f⟩
 | x::l,xs,⟨c,xs',e,ho,hr⟩=>by
  obtain⟨b,d⟩:=Gu hr;have:c=[.int .i64 x]:=ho.1;subst this;refine⟨by rw[e,b];rfl,λy a=>?_⟩;rcases ey.1 a with rfl | a
  ·exact ho.2
  ·exact d y a
def IR:∀{l:List Int},(∀x∈l,aA x)->bA tI64 o (l.map (Value.int .i64)) l
 |[],_=>rfl
 | x::l,h=>⟨[.int .i64 x],l.map (Value.int .i64),rfl,⟨rfl,h x si⟩,IR (λy a=>h y (by simp[a]))⟩
def Fn.row_int{r:List Int}(hg:Gr tI64 false p o e a c l)(hlen:r.length=l.length)(hr:∀x∈r,aA x)(hc:∀w g,a=some ⟨g,0,none⟩->Holds (Value.int .i64) w g 0 l.toArray->Calls P f args w λex w'=>ex=.returned (.tuple #[])/\∃n,w'=putRow (Value.int .i64) (Sort.ahead w n) g 0 r.toArray)(h0:l=[]->∀w,Calls P f args w λex w'=>ex=.returned (.tuple #[])/\w'=w):
  Fn P f args o (λv o'=>Step (aD a c) o o'/\v=.tuple #[]/\Gr tI64 false p o' e a c r/\r.length=l.length):=by
 by_cases E:l=[]
 ·intro C d;refine(h0 E<|W C o d).mono ?_;rintro ex w' ⟨A,F⟩;have:r=l:=by subst E;exact bl (϶ hlen)
  exact⟨_,o,d,A,F,u4,rfl,by rw[this];exact hg,hlen⟩
 ·rcases hg.body with⟨_,A⟩ |⟨g,cur,xs,ha,hrp,hH,A,F,h3,h4,h5,h6,h7⟩
  ·exact x4 A E
  ·have O:0<l.length:=ϥ.2 E;obtain⟨J,M⟩:=Gu hrp;have hsz:tI64.size=1:=rfl;rw[hsz,Nat.mul_one]at h3 h4;have u:aI p o g cur.toList e:=⟨϶ hH,by rw[h5];simp,h6,h7⟩;intro C d;have i:∀j (m:j<l.length),cur[j]?=some (Value.int .i64 l[j]):=λj m=>by
    have D:(cur.toList.take l.length)[j]?=(l.map<|Value.int .i64)[j]?:=by rw[h4,J]
    rw[dl,Ϙ m,cw,cn m]at D;simpa using D
   have G:Holds (Value.int .i64) (W C o d) g 0 l.toArray:=λj m=>by
    have h:j<l.length:=϶ m
    refine⟨?_,?_⟩
    ·rw[lm];unfold K.cell;rw[hH];simp only[gv];rw[i j h];simp[h]
    ·unfold World.frozen? W;simp[hH]
   refine(hc (W C o d) g ha G).mono ?_;rintro ex w' ⟨L,n,Q⟩;refine⟨_,o.setB g (splice cur.toList 0<|r.map<|Value.int .i64) e,d+n,L,?_,?_,rfl,?_,hlen⟩
   ·rw[Q];have y:o.H.modify g (onCells<|putCells (Value.int .i64) 0 r.toArray)=(o.setB g (splice cur.toList 0<|r.map<|Value.int .i64) e).H:=by
     have z:g<o.H.size:=(ae.1 hH).1;apply E7;intro k;rw[af];by_cases I:g=k
     ·subst I;rw[Ϙ rfl,hH];simp only[K.setB,ϴ,onCells];rw[ai z];congr 2;apply E7;intro j;have H:(r.map<|Value.int .i64).length=l.length:=A8 hlen
      have B:cur.toList.length=c:=϶ h3
      unfold putCells;rw[Array.getElem?_mapIdx];have R:(splice cur.toList 0<|List.map (Value.int IntKind.i64) r).toArray[j]?=(splice cur.toList 0<|List.map (Value.int IntKind.i64) r)[j]?:=by simp
      rw[R,nQ _ _ _ _ om];by_cases m:j<l.length
      ·rw[Ϙ om,i j m];have h:j<r.length:=by omega
       simp[h,getElem!_pos,cn h]
      ·rw[ϙ om];have h:¬j<r.length:=by omega
       cases hcj:cur[j]? with
       | none=>simp[hcj]
       | some v=>simp[hcj,h]
     ·rw[ϙ I];simp only[K.setB];rw[ag I]
    unfold putRow mapBlock Sort.ahead W;simp only[];rw[y,ϻ]
   ·exact(mi u).mono (λb N=>by rw[fh.1 N,ha];exact jG (a:=⟨g,0,none⟩) om)
   ·have H:(r.map<|Value.int .i64).length=l.length:=A8 hlen
    have B:cur.toList.length=c:=϶ h3
    refine⟨by rw[hlen];exact hg.most,.inr ⟨g,_,r.map<|Value.int .i64,ha,IR hr,(lc u).obj,by rw[hlen];exact A,F,by rw[hsz,fq,qu,B];omega,?_,by simp[K.setB,h5],h6,h7⟩⟩;rw[hsz,Nat.mul_one,hlen];apply bp;intro j;rw[dl];by_cases m:j<l.length
    ·rw[Ϙ m,List.toList_toArray,nQ _ _ _ _ om,Ϙ om];simp
    ·rw[ϙ m,co om]
end
end Go.Lf
namespace Go.Lf
open Go
section
variable {P:Program} {q:Type} {t:Ty q} {o:K} {e T:TypeId} {a:Option Addr} {cp:Nat} {l m:List q} {p:aN}
def bA.drop:∀{l:List q} {xs:List Value} (i:Nat),bA t o xs l->bA t o (xs.drop (i*t.size)) (l.drop i)
 | l,xs,0,h=>϶ h
 |[],xs,i+1,h=>by
  have:xs=[]:=h;subst this;simp[bA]
 | x::l,xs,i+1,⟨c,xs',e,ho,hr⟩=>by
  subst e;rw[List.drop_succ_cons];have a:=t.len ho;have:(c++xs').drop ((i+1)*t.size)=xs'.drop (i*t.size):=by
   rw[List.drop_append,List.drop_of_length_le (by rw[a,fz];omega),fi];congr 1;rw[a,fz];omega
  rw[this];exact hr.drop i
def Gr.splice{cur:List Value}{vs:List Value}{g lo}(hg:Gr t false p o e a cp l)(ha:a=some ⟨g,0,none⟩)(hb:aI p o g cur e)(hl0:0<l.length)(hm:bA t o vs m)(hlo:lo+m.length<=l.length)(hm0:0<m.length):
  lo*t.size+vs.length<=cur.length/\Step (aD a cp) o (o.setB g (splice cur (lo*t.size) vs) e)/\Gr t false p (o.setB g (splice cur (lo*t.size) vs) e) e a cp (l.take lo++m++l.drop (lo+m.length)):=by
 rcases hg.body with⟨_,A⟩ |⟨g',cur',xs,ha',hr,hH,h2,h3,h4,h5,h6,h7,h8⟩
 ·rw[A]at hl0;simp at hl0
 ·rw[ha]at ha';obtain rfl:g=g':=by injection ha' with ha';injection ha'
  have n:cur=cur'.toList:=by
   have:=hb.obj;rw[hH]at this;injection this with this
   injection this with this
   rw[this]
  subst n;have c:=hm.length;have i:cur'.toList.length=cp*t.size:=϶ h4
  have v:lo*t.size+m.length*t.size=(lo+m.length)*t.size:=by rw[fz]
  have w:(lo+m.length)*t.size<=l.length*t.size:=gq _ hlo;have z:l.length*t.size<=cp*t.size:=gq _ h2;have b:Step [g] o (o.setB g (Lf.splice cur'.toList (lo*t.size) vs) e):=mi hb;have hlen:(l.take lo++m++l.drop (lo+m.length)).length=l.length:=by
   rw[dt,dt,ef,dv];omega
  have f:bA t (o.setB g (Lf.splice cur'.toList (lo*t.size) vs) e) (xs.take (lo*t.size)++vs++xs.drop ((lo+m.length)*t.size)) (l.take lo++m++l.drop (lo+m.length)):=(((hr.take lo).step b).append<|hm.step b).append ((hr.drop _).step b)
  refine⟨by rw[c,i];omega,b.mono (λx B=>by rw[fh.1 B,ha];exact E8),by rw[hlen];exact hg.most,.inr ⟨g,_,_,ha,f,(lc hb).obj,by rw[hlen];exact h2,h3,by rw[fq,qu,i],?_,h6,h7,h8⟩⟩;rw[hlen];have r:=hr.length;have d:(xs.take (lo*t.size)).length=lo*t.size:=by rw[ef,r];omega
  apply bp;intro j;rw[dl];by_cases k:j<l.length*t.size
  ·rw[Ϙ k,List.toList_toArray,nQ _ _ _ _ (by rw[c,i];omega),c];have h:∀j,j<l.length*t.size->cur'.toList[j]?=xs[j]?:=λj k=>by rw[←h5,dl,Ϙ k]
   by_cases u:j<lo*t.size
   ·rw[ϙ om,h j k,bf,ci (by rw[d];exact u),dl,Ϙ u]
   ·by_cases y:j<lo*t.size+m.length*t.size
    ·rw[Ϙ om,bf,cj (by rw[d];omega),d,ci (by rw[c];omega)]
    ·rw[ϙ om,h j k,cj (by rw[dt,d,c];omega),dt,d,c,cm];exact v8
  ·rw[ϙ k,co];rw[f.length,hlen];omega
end
section
variable {P:Program} {p:Type} {t:Ty p} {o:K} {e T T2:TypeId} {a a2:Option Addr} {cp c2:Nat} {l l2:List p} {q:aN}
def fB{p:Type}(l:List p)(lo:Nat)(l2:List p):List p:=l.take lo++l2.take (l.length - lo)++l.drop (lo+(l2.take (l.length - lo)).length)
def Hb{l l2:List p}{lo}(h:lo<=l.length):(fB l lo l2).length=l.length:=by
 unfold fB;rw[dt,dt,ef,dv,ef];omega
def Gs{ty:TypeId}{g lo dcap}(hT:zH P T=some e)(hs:zL P e=some t.size)(hg:Gr t false q o e a cp l)(ha:0<l.length->a=some ⟨g,0,none⟩)(hlo:lo<=l.length)src(ys:List Value)(hys:bA t o ys l2){da}(hda:lo<l.length->da=some ⟨g,lo*t.size,none⟩)[Fb](C:Cx)d(hlen:∀w,(Builtin.lenOf src).run P w=.ok l2.length w)(hfirst:∀n,n<=l2.length->(Builtin.firstCells t.size n src).run P (W C o d)=.ok (ys.take (n*t.size)).toArray (W C o d)):
  ∃o',(Builtin.copy_ #[T,T2] ty #[.slice da (l.length - lo) dcap,src]).run P (W C o d)=.ok (.int .i64 (min l2.length (l.length - lo):Nat)) (W C o' d)/\Step (aD a cp) o o'/\Gr t false q o' e a cp (fB l lo l2):=by
 have i:=mh hT;have F:Nat.min l2.length (l.length - lo)<=l2.length:=Nat.min_le_left _ _;by_cases v:Nat.min l2.length (l.length - lo)=0
 ·refine⟨o,?_,u4,?_⟩
  ·have u:=hfirst 0 om;cases hd:da with
   | none=>simp[Builtin.copy_,zw i,hlen,fY hs,v,u,goInt]
   | some x=>simp[Builtin.copy_,zw i,hlen,fY hs,v,u,storeCells,goInt]
  ·have:fB l lo l2=l:=by
    unfold fB;have D:l2.take (l.length - lo)=[]:=by
     rcases Nat.eq_zero_or_pos l2.length with h | h
     ·rw[bl h];simp
     ·have:l.length - lo=0:=by
       have:=v;simp only[Nat.min_def]at this;split at this<;>omega
      rw[this];simp
    rw[D];simp
   rw[this];exact hg
 ·have f:Nat.min l2.length (l.length - lo)=min l2.length (l.length - lo):=rfl;have b:0<l2.length/\lo<l.length:=by
   rw[f]at v;omega
  have r:=ha om;have m:=hda b.2;rcases hg.body with⟨_,B⟩ |⟨g',cur,xs,hga,hr,hH,h2,h3,h4,h5,h6,h7,h8⟩
  ·rw[B]at b;simp at b
  ·have:g=g':=by rw[r]at hga;injection hga with hga;injection hga
   subst this;have c:aI q o g cur.toList e:=⟨϶ hH,by rw[h6];simp,h7,h8⟩;have hm:=hys.take<|min l2.length<|l.length - lo;have k:(l2.take<|min l2.length<|l.length - lo).length=min l2.length (l.length - lo):=A2
   obtain⟨A,E,z⟩:=hg.splice r c om hm (lo:=lo) (by rw[k];omega) (by rw[k];omega);have y:l.take lo++l2.take (min l2.length<|l.length - lo)++l.drop (lo+(l2.take<|min l2.length<|l.length - lo).length)=fB l lo l2:=by
    unfold fB;have:l2.take (min l2.length<|l.length - lo)=l2.take (l.length - lo):=by
     rcases Nat.le_total l2.length (l.length - lo)with h | h
     ·rw[Nat.min_eq_left h,fx<|gd _,fx h]
     ·rw[Nat.min_eq_right h]
    rw[this]
   rw[y]at z;refine⟨_,?_,E,z⟩;have u:=hfirst (min l2.length<|l.length - lo)<|Nat.min_le_left _ _;have j:=Fh (P:=P) (C:=C) (d:=d) (off:=lo*t.size) (ys.take<|min l2.length (l.length - lo)*t.size) 0 o cur.toList c hm.one (϶ A);rw[Ϩ]at j;rw[m];simp[Builtin.copy_,zw i,hlen,fY hs,f,u,j,goInt]
end
structure cC(N i:Nat)(a:K)(b:Nat)(ob:Obj):Prop where
 o:dR (N,i) a b
 obj:a.H[b]?=some ob
def cC.step{M N i b a a' ob}(s:Step M a a')(hm:b∉M)(h:cC N i a b ob):cC N i a' b ob:=by
 have hs:=s.2.1 b h.o.lt hm;exact⟨⟨gi h.o.lt s.1,hs.2.1.trans h.o.fr,hs.2.2.trans h.o.tag,h.o.ge⟩,hs.1.trans h.obj⟩
def cC.step0{N i b a a' ob}(s:Step [] a a')(h:cC N i a b ob):cC N i a' b ob:=D6
def cC.ge{N i b a ob}(h:cC N i a b ob):N<=b:=h.o.ge
def vf{a:K}{N i b ob}(h:cC N i a b ob)(ob':Obj):Step [b] a (a.setO b ob')/\cC N i (a.setO b ob') b ob':=⟨qK h.o.fr,⟨⟨by simp[K.setO];exact h.o.lt,h.o.fr,h.o.tag,h.o.ge⟩,by simp[K.setO,h.o.lt]⟩⟩
def HX[Fb](C:Cx)(a:K)d b(o:Obj):(W C a d).putObj b o=W C (a.setO b o) d:=rfl
def dU(F:Nat)(a:aN):Bool:=Nat.beq a.2 999||Nat.beq (a.2 / 1000) F
def nI(F:Nat)(a:aN):Bool:=!(Nat.beq a.2 998)&&!(dU F a)
def tb(F:Nat)(a:K):List Nat:=(List.range a.H.size).filter λb=>dU F (a.tag b)
def vp{a:K}{F b}:b∈tb F a↔b<a.H.size/\dU F (a.tag b)=true:=by
 unfold tb;rw[fa,fg]
def Dd{F a}(h:nI F a=true):dU F a=false:=by
 unfold nI at h;simp only[an,au]at h;exact h.2
def UO{F a}(h:nI F a=true):a.2≠998:=by
 unfold nI at h;simp only[an,au]at h;intro e;rw[e]at h;simp at h
def UN{F a}(h:nI F a=true):a.2≠999:=by
 have:=Dd h;unfold dU at this;simp only[Bool.or_eq_false_iff]at this;intro e;rw[e]at this;simp at this
section
variable {F:Nat} {κr κ κ1 κ2:K} {M:List Nat} {f:aN}
def Step.trY(h:Step (tb F κr) κr κ1)(hb:∀b∈M,dU F (κ1.tag b)=true)(s:Step M κ1 κ2):Step (tb F κr) κr κ2:=h.trM (λb hm=>by
  by_cases hlt:b<κr.H.size
  ·by_cases a:b∈tb F κr
   ·exact .inl a
   ·have:=h.2.1 b hlt a;have c:=hb b hm;rw[this.2.2]at c;exact .inl<|vp.2 ⟨hlt,c⟩
  ·exact .inr<|I5 hlt) s
def Step.trT(h:Step M κ κ1)(hM:∀b∈tb F κ,b∈M)(s:Step (tb F κ1) κ1 κ2):Step M κ κ2:=h.trM (λb hm=>by
  by_cases hlt:b<κ.H.size
  ·by_cases a:b∈M
   ·exact .inl a
   ·have d:=h.2.1 b hlt a;have c:=(vp.1 hm).2;rw[d.2.2]at c;exact .inl<|hM b<|vp.2 ⟨hlt,c⟩
  ·exact .inr<|I5 hlt) s
def dR.tb1{b}(h:dR f κ b)(ht:dU F f=true):∀x∈[b],dU F (κ.tag x)=true:=λx a=>by
 rw[fh.1 a,h.tag];exact ht
def dR.ntb{b}(h:dR f κ b)(ht:dU F f=false):b∉tb F κ:=λa=>by
 have:=(vp.1 a).2;rw[h.tag,ht]at this;cases this
def aI.ntb{T:TypeId}{b cs}(h:aI f κ b cs T)(ht:dU F f=false):b∉tb F κ:=h.o.ntb ht
def Gr.tb1{d:Type}{t:Ty d}{e:TypeId}{l:List d}{pub a c}(h:Gr t pub f κ e a c l)(ht:dU F f=true):∀x∈aD a c,dU F (κ.tag x)=true:=λx b=>by
 rw[(h.lt x b).2.1];exact ht
def Gr.ntb{g:Type}{t:Ty g}{e:TypeId}{l:List g}{pub a c}(h:Gr t pub f κ e a c l)(ht:dU F f=false):∀x∈aD a c,x∉tb F κ:=λx b d=>by
 have:=(vp.1 d).2;rw[(h.lt x b).2.1,ht]at this;cases this
def Stab{a:Type}(F B:Nat)(J:a->K->Prop):Prop:=∀{s:a} {κ κ':K} {M:List Nat},J s κ->Step M κ κ'->(∀b∈M,b<κ.H.size->nI F (κ.tag b)=true/\B<=b)->J s κ'
def Stab.j0{c:Type}{J:c->K->Prop}{B}(h:Stab F B J){s:c}(hj:J s κ)(st:Step [] κ κ1):J s κ1:=h hj st (λb a=>by cases a)
def Stab.jo{c:Type}{J:c->K->Prop}{B b}(h:Stab F B J){s:c}(hj:J s κ)(st:Step [b] κ κ1)(ho:dR f κ b)(ht:nI F f=true)(hB:B<=b):J s κ1:=h hj st (λx a _=>by rw[fh.1 a,ho.tag];exact⟨ht,hB⟩)
end
def Yl[Fb](P:Program)(l:Nat)(args:Array Value)(a:K)(R:K->Prop):Prop:=∀C d,∃fn tmps assign body,(Instr.yield l args).run P (W C a d)=.ok (.round l fn tmps assign body) (W C a d)/\
  RoundIn Fence.wide 0 P l fn tmps assign body (W C a d) (λe w'=>e=.returned (.bool true)/\∃a' d',w'=W C a' d'/\R a')
section
variable [Fc] [Fb] {P:Program} {n:Nat} {c:Code} {i:Nat} {Q:bH} {E:aK} {g:K}
def Qm{tmps:Array Value}{R:Ending->World->Prop}{m l f assign body w}(h:RoundIn Fence.wide m P l f tmps assign body w R):RoundIn FF m P l f tmps assign body w R:=h
def CN{args:Array Value}{R:K->Prop}{l}d(hy:Yl P l args g R)(hk:∀g',R g'->aS P n c (i+1) Q (aR E d (.bool true)) g')(hr:∀w,(execOp (ev E) (zv c i)).run P w=(Instr.yield l args).run P w:=by intro _;kernel_rfl)(h:st c i n E (some d)=true:=by kernel_rfl):aS P n c i Q E g:=by
 refine mo h λC k a m=>?_;obtain⟨B,A,y,u⟩:=jb h;obtain⟨fn,tmps,b,j,f,v⟩:=hy C k;unfold Oper.wpIn;rw[BJ (nx:=.round l fn tmps b j) (w':=W C g k) (by rw[m.eval,hr];exact f) (λ_ e=>by cases e)];refine⟨B1,λz=>?_,(Qm v).mono ?_⟩
 ·simp[FF,Fence.wide]at z
 ·rintro e w' ⟨rfl,g',x,rfl,r⟩;simp only[y];exact hk g' r C x _<|m.put (u d rfl) _
end
def rA(E:aK):List Nat->List Value->aK
 | p::ps,v::vs=>rA (aR E p v) ps vs
 | _,_=>E
def QV{inst:Fc}{n}(ps:List Nat):∀vs(t:Array Value)E,(∀p∈ps,p<n) -> @Fits inst n {tmps:=t,defers:=inst.ds} E->
  @Fits inst n {tmps:=(ps.zip vs).foldl (λt (p,v)=>t.setIfInBounds p v) t,defers:=inst.ds} (rA E ps vs):=by
 induction ps with
 | nil=>intro vs t E _ h;exact h
 | cons p ps ih=>
  intro vs t E hp h;cases vs with
  | nil=>exact h
  | cons v vs=>
   refine ih vs _ _ (λq a=>hp q (by simp[a])) ?_;exact h.put (hp p si) v
def Jj:Code->Option (Operand×List Nat)
 | .rangeFunc g ps _ _=>some (g,ps.toList)
 | _=>none
def CX[Fc][Fb](P:Program)(n:Nat)(body:Code)(N l:Nat)(o1 o2:Obj)(Q:bH):bH:=λe E a=>
 match e with
 | .normal=>cC N 999 a l o1/\∀a',Step [l] a a'->cC N 999 a' l o2->aO P n body Q E a'
 | _=>False
def Dh(N l:Nat)(o2:Obj)(F:Nat)(κr:K)(J:K->Prop):bH:=λe _ κ=>
 match e with
 | .normal=>cC N 999 κ l o2/\Step (tb F κr) κr κ/\J κ
 | _=>False
def CO[Fc][Fb]{P n body N l o1 o2 Q E a}(h:cC N 999 a l o1)(hk:∀a',Step [l] a a'->cC N 999 a' l o2->aO P n body Q E a'):
  CX P n body N l o1 o2 Q .normal E a:=⟨h,hk⟩
def vD{J:K->Prop}{N l o2 F κr κ E}(h:cC N 999 κ l o2)(hy:Step (tb F κr) κr κ)(hj:J κ):Dh N l o2 F κr J .normal E κ:=⟨h,hy,hj⟩
def rC[Fb](P:Program)(n:Nat)(c:Code)(fn:Func)(R:Value->K->Prop)(E:aK)(b:K):Prop:=∀C d a,@Fits CH n a E->c.wpIn Fence.wide 0 P (bodyPostM Fence.wide 0 P fn (λe w'=>∃v b' d',e=.returned v/\w'=W C b' d'/\R v b')) a (W C b d)
def Du{P:Program}{fn:Func}{args:Array Value}{R:Value->K->Prop}{f e}n M(hf:P.funcs[f]?=some fn)(hn:fn.ntmps=n)(h:Step M e e->rC P n (sub (zu fn) []) fn R (oo args) e)(hb:fn.body=some (zu fn):=by kernel_rfl)(ha:Nat.ble args.size n=true:=by kernel_rfl):Fn P f args e R:=by
 intro C d;have b : @Fits CH n {tmps:=args++Array.replicate (fn.ntmps - args.size) undef,defers:=[]} (oo args):=by
  have i:=gc ha;refine⟨by simp[hn];omega,rfl,λt=>?_⟩;unfold oo;by_cases c:t<args.size
  ·simp[ab,c]
  ·by_cases a:t - args.size<fn.ntmps - args.size
   ·simp[ab,c,a]
   ·simp[ab,c,a]
 exact(callsIn_wide (n:=0)).1 (callsIn_of_wp_marks hf hb trivial<|h u4 C d _ b)
def Dc[Fb](P:Program)(n:Nat)(c:Code)(fn:Func)(R:Value->K->Prop):bH:=λe E a=>
 match e with
 | .normal=>rC P n c fn R E a
 | _=>False
def rq{R:Value->K->Prop}{P n c p fn E g}(hx:aO P n (sub c (0::p)) (Dc P n (sub c (1::p)) fn R) E g)(h:iL (sub c p)=true:=by kernel_rfl):rC P n (sub c p) fn R E g:=by
 have j:sub c (0::p)=eJ 0 (sub c p):=rfl;have k:sub c (1::p)=eJ 1 (sub c p):=rfl;rw[j,k]at hx;clear j k;generalize sub c p=s at *;cases s<;>simp[iL]at h;rename_i x y;intro C d a l;have b:aO P n x (Dc P n y fn R) E g:=hx;refine wpIn_seq<|wpIn_mono (b C d a l) ?_;rintro e a' w' ⟨r,g',m,f,rfl,i⟩;cases e with
 | normal=>exact i C m a' f
 | _=>exact i.elim
def rv{R:Value->K->Prop}{P n c fn E a}(h:rC P n c fn R E a):Dc P n c fn R .normal E a:=h
def Dv[Fb](P:Program)(n:Nat)(b r:Code)(fn:Func)(R:Value->K->Prop)(E:aK)(c:K):Prop:=∀C d a,@Fits CH n a E->b.wpIn Fence.wide 0 P (Exit.then (r.wpIn Fence.wide 0 P<|bodyPostM Fence.wide 0 P fn (λe w'=>∃v c' d',e=.returned v/\w'=W C c' d'/\R v c'))<|bodyPostM Fence.wide 0 P fn (λe w'=>∃v c' d',e=.returned v/\w'=W C c' d'/\R v c')) a (W C c d)
def Db[Fb](P:Program)(n:Nat)(b r:Code)(fn:Func)(R:Value->K->Prop):bH:=λe E a=>
 match e with
 | .normal=>Dv P n b r fn R E a
 | _=>False
def CQ{R:Value->K->Prop}{P n b r fn E a}(h:Dv P n b r fn R E a):Db P n b r fn R .normal E a:=h
def CE{R:Value->K->Prop}{P n c p fn E g}(hx:aO P n (sub c (0::0::p)) (Db P n (sub c (1::0::p)) (sub c (1::p)) fn R) E g)(h:iL (sub c p)=true:=by kernel_rfl)(h':iL (sub c (0::p))=true:=by kernel_rfl):rC P n (sub c p) fn R E g:=by
 have i:sub c (0::0::p)=eJ 0 (eJ 0<|sub c p):=rfl;have m:sub c (1::0::p)=eJ 1 (eJ 0<|sub c p):=rfl;have j:sub c (1::p)=eJ 1 (sub c p):=rfl;have l:sub c (0::p)=eJ 0 (sub c p):=rfl;rw[i,m,j]at hx;rw[l]at h';clear i m j l;generalize sub c p=s at *;cases s<;>simp[iL]at h;rename_i x z;simp only[eJ,Ϡ]at h';cases x<;>simp[iL]at h';rename_i x y;intro C d a r;have b:aO P n x (Db P n y z fn R) E g:=hx;refine wpIn_seq<|wpIn_seq<|wpIn_mono (b C d a r) ?_;rintro e a' w' ⟨v,g',u,f,rfl,k⟩;cases e with
 | normal=>exact k C u a' f
 | _=>exact k.elim
def jO(D:Nat):List Deferred:=[{target:=.collected D,args:=#[]}]
def rB[Fb](P:Program)(fn:Func)(R:Value->K->Prop)(N D:Nat):bH:=λe E a=>
 match e with
 | .normal | .ret=>cC N 998 a D (.deferred (some []))/\∀a',Step [D] a a'->cC N 998 a' D (.deferred none)->ll P fn R e E a'
 | _=>False
def CP{R:Value->K->Prop}{P fn N D E a}(h:cC N 998 a D (.deferred (some [])))(hk:∀a',Step [D] a a'->cC N 998 a' D (.deferred none)->ll P fn R .ret E a'):
  rB P fn R N D .ret E a:=⟨h,hk⟩
def zzU{R:Value->K->Prop}{P n fn N D}[Fb]{inst:Fc}{C e E g d a}(hd:inst.ds=jO D)(hf : @Fits inst n a E)(hq:rB P fn R N D e E g):bodyPostM Fence.wide 0 P fn (λe w'=>∃v g' d',e=.returned v/\w'=W C g' d'/\R v g') e a (W C g d):=by
 have key:∀(h:cC N 998 g D (.deferred<|some []))v,(∀C d,(oX fn E).run P (W C (g.setO D<|.deferred none) d)=.ok v (W C (g.setO D<|.deferred none) d))->R v (g.setO D<|.deferred none)->
   LeavesInM Fence.wide 0 P fn a.tmps (λe w'=>∃v g' d',e=.returned v/\w'=W C g' d'/\R v g') a.defers .returning (W C g d):=by
  intro h v b c;have i:a.defers=jO D:=hf.defers.trans hd;rw[i];refine⟨by simp,.inl ⟨D,W C (g.setO D<|.deferred none) d,rfl,run_takeDeferred (ds:=[]) h.obj,?_⟩⟩;exact⟨v,by rw[Hu hf];exact b C d,v,_,d,rfl,rfl,c⟩
 cases e with
 | normal=>
  obtain⟨h,f⟩:=hq;obtain⟨hs,j⟩:=vf h<|.deferred none;obtain⟨v,b,c⟩:=f _ hs j;exact key h v b c
 | ret=>
  obtain⟨h,f⟩:=hq;obtain⟨hs,j⟩:=vf h<|.deferred none;obtain⟨v,b,c⟩:=f _ hs j;exact key h v b c
 | _=>exact hq.elim
def Up{args:Array Value}{P f w}(hf:gF P f=true):(callFunc f args).run P w=.ok (.enter f args) w:=iC rfl hf
def Ha{σ A:Type}{R:Value->K->Prop}{κ:K}{ps:List Nat}{lb:Array Value}{P n c p pr fn E id g gf}F B(J:σ->K->Prop)(ok:K->A->Prop)(enc:K->A->List Value->Prop)(y:σ->A->Option σ)(s0:σ)(r:σ)(hB:B<=κ.H.size)(hJ:∀{s:σ} {κ κ':K} {M:List Nat},J s κ->Step M κ κ'->(∀b∈M,b<κ.H.size->Nat.beq ((κ.tag b).2 / 1000) F=false/\B<=b)->J s κ')(h0:J s0 κ)(hround:∀{l N:Nat} {o1 o2:Obj} {κ':K} {s L:σ} {a:A} {vs:List Value},κ.H.size<=N->cC N 999 κ' l o1->J s κ'->ok κ' a->enc κ' a vs->y s a=some L->
   vs.length=ps.length/\∀inst:Fc,inst.ds=[] -> @aO inst _ P n (sub c (0::0::p)) (@CX inst _ P n (sub c (1::0::p)) N l o1 o2 (Dh N l o2 F κ' (J L))) (rA E ps vs) κ')(hit:∀{J':σ->K->Prop} {l:Nat} {κ1:K},Step [] κ κ1->Stab F B J'->
   (∀{κ':K} {s L:σ} {a:A} {vs:List Value},J' s κ'->ok κ' a->enc κ' a vs->y s a=some L->Yl P l vs.toArray κ' (λκ''=>Step (tb F κ') κ' κ''/\J' L κ''))->
   J' s0 κ1->Fn P gf (#[.func (.yield l) #[] #[]]++lb) κ1 (λ_ κ2=>J' r κ2))(hafter:∀{N D:Nat} {κ2:K},κ.H.size<=N->cC N 998 κ2 D (.deferred (some []))->J r κ2->∀inst:Fc,inst.ds=jO D -> @aO inst _ P n (sub c pr) (rB P fn R N D) E κ2)(hg:ev E g=.func (.func gf) #[] lb:=by kernel_rfl)(hF:Nat.blt 0 F=true:=by kernel_rfl)(h2:vk (sub c p)=some id:=by kernel_rfl)(h3:Jj (sub c (0::p))=some (g,ps):=by kernel_rfl)(hps:ps.all (λq=>Nat.blt q n)=true:=by kernel_rfl)(hgf:gF P gf=true:=by kernel_rfl):Dv P n (sub c p) (sub c pr) fn R E κ:=by
 have X:∀q∈ps,q<n:=λq hq=>by
  have:=bd.1 hps q hq;exact gc this
 have e2:0<F:=gc hF;have e3:sub c (0::p)=eJ 0 (sub c p):=rfl;have e4:sub c (0::0::p)=eJ 0 (eJ 0<|sub c p):=rfl;have e5:sub c (1::0::p)=eJ 1 (eJ 0<|sub c p):=rfl;simp only[e4,e5]at hround;rw[e3]at h3;clear e3 e4 e5;generalize sub c pr=rest at *;generalize sub c p=s at *;cases s<;>simp[vk]at h2;rename_i id' x;subst h2;simp only[eJ]at h3 hround;cases x<;>simp[Jj]at h3;rename_i g' ps' assign body;obtain⟨rfl,Z⟩:=h3;simp only[eJ,Ϡ]at hround;have I:∀{l N:Nat} {o1 o2:Obj} {κ':K} {s L:σ} {a:A} {vs:List Value},κ.H.size<=N->cC N 999 κ' l o1->J s κ'->ok κ' a->enc κ' a vs->y s a=some L->
   vs.length=ps.length/\∀inst:Fc,inst.ds=[] -> @aO inst _ P n assign (@CX inst _ P n body N l o1 o2<|Dh N l o2 F κ'<|J L) (rA E ps vs) κ':=hround
 have G:∀{N D:Nat} {κ2:K},κ.H.size<=N->cC N 998 κ2 D (.deferred<|some [])->J r κ2->∀inst:Fc,inst.ds=jO D -> @aO inst _ P n rest (rB P fn R N D) E κ2:=hafter;clear hround hafter;intro C d a V;refine wpIn_block ?_;refine wpIn_rangeFunc ?_;intro c2 d5;have b9:Fence.wide.round=none:=rfl;rw[b9];obtain⟨sz,hsz⟩:∃sz,κ.H.size=sz:=u3;obtain⟨f,i⟩:∃f:LoopState->Option Code->Loop,f=λst pe=>{state:=st,pending:=pe,fn:=c2,tmps:=a.tmps,params:=ps',assign,body,defers:=sz}:=u3;obtain⟨κ0,j⟩:∃κ0,κ0=κ.push (.deferred<|some []) 0 (sz,998):=u3;obtain⟨κ1,k⟩:∃κ1,κ1=κ0.push (.loop<|f .ready none) 0 (sz,999):=u3;have c9:Step [] κ κ0:=by rw[j];exact fZ _ _ _ _
 have a7:Step [] κ0 κ1:=by rw[k];exact fZ _ _ _ _
 have s1:Step [] κ κ1:=c9.trans a7;have H:κ0.H.size=sz+1:=by rw[j,←hsz];simp[K.push]
 have b2:cC sz 998 κ0 sz (.deferred<|some []):=by
  refine⟨⟨by rw[H];omega,?_,?_,gd _⟩,?_⟩
  ·rw[j];simp[K.push,hsz]
  ·rw[j];simp[K.push,hsz]
  ·rw[j];simp[K.push,←hsz]
 have rD:cC sz 998 κ1 sz (.deferred<|some []):=b2.step0 a7;have rL:cC sz 999 κ1 (sz+1) (.loop<|f .ready none):=by
  refine⟨⟨by rw[k];simp[K.push,H],?_,?_,by simp⟩,?_⟩
  ·rw[k];simp[K.push,H]
  ·rw[k];simp[K.push,H]
  ·rw[k];simp[K.push,←H]
 have b5:((W C κ d).alloc<|.deferred<|some []).alloc (.loop<|f .ready none)=W C κ1 d:=by rw[k,j];rfl
 have b8:Stab F B (λs κ'=>J s κ'/\cC sz 999 κ' (sz+1) (.loop<|f .ready none)/\cC sz 998 κ' sz (.deferred<|some [])):=by
  intro s κa κb M h st hM;refine⟨hJ h.1 st (λb u hlt=>?_),h.2.1.step st (λu=>?_),h.2.2.step st (λu=>?_)⟩
  ·have:=Dd (hM b u hlt).1;unfold dU at this;simp only[Bool.or_eq_false_iff]at this;exact⟨this.2,(hM b u hlt).2⟩
  ·have:=UN (hM _ u h.2.1.o.lt).1;rw[h.2.1.o.tag]at this;exact this rfl
  ·have:=UO (hM _ u h.2.2.o.lt).1;rw[h.2.2.o.tag]at this;exact this rfl
 have O:Nat.beq (999 / 1000) F=false:=by
  cases u:Nat.beq (999 / 1000) F with
  | false=>rfl
  | true=>have:=ga u;simp at this;omega
 have jl:∀{s:σ} {κa κb:K} {o:Obj},J s κa->Step [sz+1] κa κb->cC sz 999 κa (sz+1) o->J s κb:=λh st hr=>
  hJ h st (λb u _=>by rw[fh.1 u,hr.o.tag];exact⟨O,by omega⟩)
 have c0:a.eval g'=.func (.func gf) #[] lb:=by rw[V.eval];exact hg
 refine⟨sz+1,jO sz,W C κ1 d,{target:=.fn (.func gf) lb,args:=#[.func (.yield (sz+1)) #[] #[]]},W C κ1 d,gf,#[.func (.yield (sz+1)) #[] #[]]++lb,W C κ1 d,?_,?_,?_,?_,λh=>(by simp[Fence.wide]at h),?_⟩
 ·rw[←b5,i,←hsz];exact run_enterLoop_outer _ _ _ _ _
 ·simp only[resolve,c0];simp[go_sem]
 ·intro f' e8;trivial
 ·simp[invoke,go_sem,Up hgf]
 ·refine CallsIn.mono ((callsIn_wide (n:=0 - 1)).2<|hit (J':=λs κ'=>J s κ'/\cC sz 999 κ' (sz+1) (.loop<|f .ready none)/\cC sz 998 κ' sz (.deferred<|some [])) (l:=sz+1) s1 b8 ?_ ⟨hJ h0 s1 (λb u=>by cases u),rL,rD⟩ C d) ?_
  ·
   rintro κ' s L x vs ⟨hj,U,hD⟩ hok henc hy C' d';obtain⟨hlen,b6⟩:=I (o2:=.loop {f .ready none with state:=.busy}) om U hj hok henc hy;have hlt:sz+1<κ'.H.size:=U.o.lt;have a0:=run_yield (P:=P) (w:=W C' κ' d') (args:=vs.toArray) U.obj (by rw[i];simp only[fq];rw[hlen,←Z];simp);rw[i]at a0;refine⟨_,_,_,_,a0,roundIn_of_wpIn trivial ?_⟩;have a4 : @Fits ⟨some (sz+1),[]⟩ n {tmps:=(ps'.zip vs.toArray).foldl (λt (p,v)=>t.setIfInBounds p v) a.tmps,defers:=[]} (rA E ps vs):=by
    have h:=QV (inst:=⟨some (sz+1),[]⟩) ps vs a.tmps E X<|@Fits.mk ⟨some (sz+1),[]⟩ n {tmps:=a.tmps,defers:=[]} E V.size rfl V.tmps;have e:(ps'.zip vs.toArray)=(ps.zip vs).toArray:=by
     rw[←Z];obtain⟨q⟩:=ps';exact List.zip_toArray _ _
    rw[e];simpa using h
   refine wpIn_mono (b6 ⟨some (sz+1),[]⟩ rfl C' d' _ a4) ?_;rintro e a1 w1 ⟨E1,κa,da,c6,rfl,hq⟩;cases e with
   | normal=>
    obtain⟨a6,hk⟩:=hq;obtain⟨c3,b4⟩:=vf a6<|.loop {f .ready none with state:=.busy};refine⟨_,run_beginRound (r:=f .ready none) a6.obj (by rw[i]),?_⟩;rw[HX];refine wpIn_mono (hk _ c3 b4 C' da a1 c6) ?_;rintro e a2 w2 ⟨E2,κb,db,f0,rfl,a8⟩;cases e with
    | normal=>
     obtain⟨m,Q,c8⟩:=a8;obtain⟨T,b3⟩:=vf m<|.loop<|f .ready none;have z:=run_endRound (P:=P) (w:=W C' κb db) (l:=sz+1) none m.obj;refine⟨_,_,z,rfl,κb.setO (sz+1)<|.loop<|f .ready none,db,?_,?_,?_,b3,?_⟩
     ·rw[HX];rw[i];rfl
     ·exact Q.trY (m.o.tb1 rfl) T
     ·exact jl c8 T m
     ·refine hD.step (Q.trY (m.o.tb1 rfl) T)<|hD.o.ntb ?_;unfold dU;have:Nat.beq (998 / 1000) F=false:=O;rw[this];rfl
    | _=>exact a8.elim
   | _=>exact hq.elim
  ·
   rintro e w2 ⟨v,κ2,d2,rfl,rfl,hj,U,hD⟩;obtain⟨S,c1⟩:∃S:Obj,S=.loop {f .ready none with state:=.exhausted}:=u3;obtain⟨Y,m⟩:=vf U S;have z:(Instr.endLoop (sz+1)).run P (W C κ2 d2)=.ok none (W C (κ2.setO (sz+1) S) d2):=by
    have:=run_endLoop (P:=P) (w:=W C κ2 d2) (l:=sz+1) U.obj (by rw[i];simp);rw[this,c1,i];rfl
   refine⟨none,_,z,?_⟩;show(Exit.inBlock id' _) Exit.normal _ _;simp only[Exit.inBlock,Exit.then];have c4:cC sz 998 (κ2.setO (sz+1) S) sz (.deferred<|some []):=hD.step Y si;have d0:J r (κ2.setO (sz+1) S):=jl hj Y U;have a5:Code.wpIn Fence.wide 0 P rest (@cQ ⟨none,jO sz⟩ _ n C<|rB P fn R sz sz) {a with defers:=jO sz++a.defers} (W C (κ2.setO (sz+1) S) d2):=G om c4 d0 ⟨none,jO sz⟩ rfl C d2 {a with defers:=jO sz++a.defers} (@Fits.mk ⟨none,jO sz⟩ n _ E V.size (by rw[V.defers];rfl) V.tmps)
   refine wpIn_mono a5 ?_;rintro e a3 w3 ⟨E3,κ3,d3,b7,rfl,c7⟩;exact zzU (inst:=⟨none,jO sz⟩) rfl b7 c7
section
variable {F B:Nat} {j j1 j2:K} {M M':List Nat} {k:aN}
def Step.trZ(h:Step M j j1)(st:Step M' j1 j2)(hM:∀b∈M',b<j1.H.size->Nat.beq ((j1.tag b).2 / 1000) F=false/\j.H.size<=b):Step M j j2:=h.trM (λb c=>.inr (by
  by_cases a:b<j1.H.size
  ·exact(hM b c a).2
  ·exact gg h.1<|I5 a)) st
def dR.stepZ{b}(h:dR k j b)(hM:∀b∈M,b<j.H.size->Nat.beq ((j.tag b).2 / 1000) F=false/\B<=b)(ht:Nat.beq (k.2 / 1000) F=true):b∉M:=λa=>by
 have:=(hM b a h.lt).1;rw[h.tag,ht]at this;cases this
def aI.stepZ{T:TypeId}{b cs}(h:aI k j b cs T)(st:Step M j j1)(hM:∀b∈M,b<j.H.size->Nat.beq ((j.tag b).2 / 1000) F=false/\B<=b)(ht:Nat.beq (k.2 / 1000) F=true):aI k j1 b cs T:=h.step st (h.o.stepZ hM ht)
def Gr.stepZ{i:Type}{t:Ty i}{e:TypeId}{l:List i}{pub a c}(h:Gr t pub k j e a c l)(st:Step M j j1)(hM:∀b∈M,b<j.H.size->Nat.beq ((j.tag b).2 / 1000) F=false/\B<=b)(ht:Nat.beq (k.2 / 1000) F=true):Gr t pub k j1 e a c l:=h.step st (λg d f=>by
  have:=(hM g f (h.lt g d).1).1;rw[(h.lt g d).2.1,ht]at this;cases this)
def CA{N i}(h:Nat.beq (i / 1000) F=false)(h8:Nat.beq i 998=false:=by kernel_rfl)(h9:Nat.beq i 999=false:=by kernel_rfl):nI F (N,i)=true:=by
 show(!(Nat.beq i 998)&&!(Nat.beq i 999||Nat.beq (i / 1000) F))=true;rw[h,h8,h9];rfl
def Ct{N i}(h:Nat.beq (i / 1000) F=false)(h9:Nat.beq i 999=false:=by kernel_rfl):dU F (N,i)=false:=by
 show(Nat.beq i 999||Nat.beq (i / 1000) F)=false;rw[h,h9];rfl
end
def oU:Ty (Option Nat):=⟨1,λ_ cs x=>cs=[.pointer (x.map λb=>⟨b,0,none⟩)],λh=>by rw[h];rfl,λ_ h=>h,λh v hv=>by rw[h]at hv;simp at hv;subst hv;rfl⟩
def nb(bs:List Nat)(x:Int):Nat:=(bs[x.toNat]?).getD 0
def jR(bs:List Nat)(x:Int):Option Addr:=if x<0 then none else some ⟨nb bs x,0,none⟩
def iP(n:Nat)(bs:List Nat):List (Option Nat):=bs.map some++List.replicate (n - bs.length) none
def lE(a:Option Addr)(n:Nat)(bs:List Nat):List Nat:=aD a n++bs
structure bL(c:aN)(d:K)(eP eG:TypeId)(a:Option Addr)(n:Nat)(bs:List Nat)(L:List Int):Prop where
 vec:Gr oU false c d eP a n (iP n bs)
 le:bs.length<=n
 len:bs.length=L.length
 node:∀(i b:Nat)(x:Int),bs[i]?=some b->L[i]?=some x->aI c d b [.pointer (jR bs x),.int .i64 i] eG
 rng:∀(i:Nat)(x:Int),L[i]?=some x->x.toNat<bs.length
 nd:bs.Nodup
 dis:∀g∈aD a n,g∉bs
def oH(bytes:Nat)(n:Int):Option (List Int):=if 0<=n/\n<=9223372036854775807/\n*bytes<=140737488355328 then some []else none
def ov(n:Nat)(L:List Int)(ix:Int):Option (List Int):=if ix=(L.length:Int)/\L.length<n then some (L++[-1])else none
def gstep(L:List Int)(i:Int):Option (Int ⊕ Int):=(idx L i).bind λp=>if p<0 then some (.inr i)else some (.inl p)
def RM{n:Int}{bytes r}(h:oH bytes n=some r):eM bytes n (none:Option Nat)=some (List.replicate n.toNat none)/\r=[]:=by
 unfold oH at h;split at h
 ·rename_i hc;exact⟨by unfold eM;rw[Ϙ hc],(A5 h).symm⟩
 ·cases h
def NM{L:List Int}{n r ix}(h:ov n L ix=some r):ix=(L.length:Int)/\L.length<n/\r=L++[-1]:=by
 unfold ov at h;split at h
 ·rename_i hc;exact⟨hc.1,hc.2,(A5 h).symm⟩
 ·cases h
def FZ{bs:List Nat}{n}(h:bs.length<=n):(iP n bs).length=n:=by
 unfold iP;simp;omega
section
variable {τ τ':aN} {q q':K} {eP eG:TypeId} {a:Option Addr} {n:Nat} {bs:List Nat} {L:List Int} {M:List Nat}
def qY{x:Int}(h:x.toNat<bs.length):bs[x.toNat]?=some (nb bs x):=by
 unfold nb;rw[cn h];rfl
def bL.mem(h:bL τ q eP eG a n bs L):∀g∈lE a n bs,g<q.H.size/\q.tag g=τ/\τ.1<=g:=by
 intro g b;rcases er.1 b with b | b
 ·exact h.vec.lt g b
 ·obtain⟨i,hi,f⟩:=List.getElem_of_mem b;have d:bs[i]?=some g:=by rw[cn hi,f]
  have c:i<L.length:=B8 hi
  have:=h.node i g _ d<|cn c;exact⟨this.lt,this.tag,this.ge⟩
def bL.step(s:Step M q q')(hm:∀g∈lE a n bs,g∉M)(h:bL τ q eP eG a n bs L):bL τ q' eP eG a n bs L:=⟨h.vec.step s (λg d=>hm g<|eu _ d),h.le,h.len,
  λi b x c f=>(h.node i b x c f).step s<|hm b<|ϝ _<|fe c,h.rng,h.nd,h.dis⟩
def bL.step0(s:Step [] q q')(h:bL τ q eP eG a n bs L):bL τ q' eP eG a n bs L:=L1
def bL.own{q0:K}(h:bL τ q eP eG a n bs L)(h0:q0.H.size<=τ.1):∀b∈lE a n bs,q0.H.size<=b:=λb c=>gg h0 (h.mem b c).2.2
def bL.nb{b}(h:bL τ q eP eG a n bs L)(h':dR τ' q b)(hn:τ'≠τ):b∉lE a n bs:=λc=>hn (h'.tag.symm.trans (h.mem b c).2.1)
def bL.bn{b}(h:bL τ q eP eG a n bs L)(h':dR τ' q b)(hn:τ≠τ'):∀g∈lE a n bs,g∉[b]:=λg c d=>by
 have f:=fh.1 d;subst f;exact hn ((h.mem g c).2.1.symm.trans h'.tag)
def bL.gn{d:Type}{t:Ty d}{e:TypeId}{l:List d}{pub a' c'}(h:bL τ q eP eG a n bs L)(h':Gr t pub τ' q e a' c' l)(hn:τ≠τ'):∀g∈lE a n bs,g∉aD a' c':=W6
def bL.gnm{d:Type}{t:Ty d}{eo ei:TypeId}{l:List (List d)}{pub a' c' hm hs}(h:bL τ q eP eG a n bs L)(h':aZ t pub τ' q eo ei a' c' hm hs l)(hn:τ≠τ'):∀g∈lE a n bs,g∉mblk a' c' hs:=W6
def bL.inb(h:bL τ q eP eG a n bs L){ix:Int}{x}(hx:idx L ix=some x):0<=ix/\ix.toNat<bs.length:=by
 obtain⟨b,c,d⟩:=i' hx;exact⟨b,by rw[h.len];omega⟩
def bL.vcell(h:bL τ q eP eG a n bs L){ix:Int}{x}(hx:idx L ix=some x):
  ∃b,a=some ⟨b,0,none⟩/\0<=ix/\ix<(n:Int)/\At q b (0+ix.toNat*1) [.pointer (some ⟨Lf.nb bs ix,0,none⟩)]:=by
 have f:=h.inb hx;have hp:idx (iP n bs) ix=some (some<|Lf.nb bs ix):=by
  unfold idx;rw[Ϙ f.1];unfold iP;rw[ci (by simpa using f.2),cw,qY f.2];rfl
 obtain⟨b,k,l,i,cs,c,j⟩:=h.vec.idx hp;rw[FZ h.le]at i;refine⟨b,k,l,i,?_⟩;have d:cs=[.pointer<|some ⟨Lf.nb bs ix,0,none⟩]:=j;rw[d]at c;exact c
def bL.ncell(h:bL τ q eP eG a n bs L){ix:Int}(hn:0<=ix/\ix.toNat<bs.length):∃x,idx L ix=some x/\aI τ q (Lf.nb bs ix) [.pointer (jR bs x),.int .i64 ix] eG:=by
 have c:ix.toNat<L.length:=B8 hn.2
 have b:L[ix.toNat]?=some L[ix.toNat]:=cn c;refine⟨L[ix.toNat],by unfold idx;rw[Ϙ hn.1,b],?_⟩;have:=h.node ix.toNat _ _ (qY hn.2) b;rw[bc hn.1]at this;exact this
def bL.num(h:bL τ q eP eG a n bs L){ix:Int}(hn:0<=ix/\ix.toNat<bs.length):q.cell (Lf.nb bs ix) 1=some (.int .i64 ix):=by
 obtain⟨x,_,b⟩:=h.ncell hn;have:=b.at.one (o:=1) rfl;exact w8
def bL.lead(h:bL τ q eP eG a n bs L){ix x}(hx:idx L ix=some x):q.cell (Lf.nb bs ix) 0=some (.pointer (jR bs x)):=by
 obtain⟨x',b,c⟩:=h.ncell<|h.inb hx;rw[hx]at b;injection b with e;subst e
 have:=c.at.one (o:=0) rfl;exact w8
def Hj{r:Int}(h:bL τ q eP eG a n bs L){ix:Int}(hn:0<=ix/\ix.toNat<bs.length)(hr:iter (gstep L) ix=some r):0<=r/\r.toNat<bs.length:=by
 obtain⟨m,hm⟩:=l_.1 hr
 induction m generalizing ix with
 | zero=>cases hm
 | succ m ih=>
  unfold hZ at hm;unfold gstep at hm;cases hx:idx L ix with
  | none=>rw[hx]at hm;cases hm
  | some p=>
   rw[hx]at hm;simp only[gy]at hm;by_cases hp:p<0
   ·rw[Ϙ hp]at hm;injection hm with e;subst e;exact hn
   ·rw[ϙ hp]at hm;exact ih ⟨Int.not_lt.1 hp,h.rng ix.toNat p (i' hx).2.2⟩ (l_.2 ⟨m,hm⟩) hm
def bL.made(h:Gr oU false τ q eP a n (List.replicate n none)):bL τ q eP eG a n [] []:=⟨by unfold iP;simpa using h,by simp,rfl,λi b x d=>by simp at d,λi x c=>by simp at c,by simp,λg _=>by simp⟩
def bL.newat{r}(h:bL τ q eP eG a n bs L){ix}(hx:ov n L ix=some r):∃b,a=some ⟨b,0,none⟩/\0<=ix/\ix<(n:Int):=by
 obtain⟨e,d,_⟩:=NM hx;have hp:idx (iP n bs) 0=some ((iP n bs)[0]'(by rw[FZ h.le];omega)):=by
  unfold idx;rw[Ϙ om];exact cn _
 obtain⟨b,c,_⟩:=h.vec.idx hp;exact⟨b,c,by omega,by omega⟩
def RL{b}(h:bs.length<n):(iP n bs).set bs.length (some b)=iP n (bs++[b]):=by
 unfold iP;rw[List.set_append_right _ _ si];have e:n - bs.length=(n - (bs++[b]).length)+1:=π
 rw[e,List.replicate_succ];simp
def UW{x:Int}{b}(h:x.toNat<bs.length):Lf.nb (bs++[b]) x=Lf.nb bs x:=by
 unfold Lf.nb;rw[ci h]
def Ua{x:Int}{b}(h:x.toNat<bs.length):jR (bs++[b]) x=jR bs x:=by
 unfold jR;rw[UW h]
def S_{T:TypeId}{b cs}(h:aI τ' q b cs T)(hle:τ.1<=τ'.1):aI τ (q.retag [b] τ) b cs T/\Step [b] q (q.retag [b] τ):=⟨⟨h.obj,h.fr,by simp[K.retag],gg hle h.ge⟩,⟨gd _,λx a hm=>⟨rfl,rfl,by simp[K.retag]at hm ⊢;simp[hm]⟩,λx a=>⟨gd _,λo _=>rfl⟩,λx a c=>⟨by
  have:x≠b:=λe=>by rw[e,h.fr]at c;omega
  simp[K.retag,this],rfl⟩⟩⟩
def bL.push{b}(h:bL τ q eP eG a n bs L)(hlt:bs.length<n)(s:Step (aD a n) q q')(hv:Gr oU false τ q' eP a n (iP n (bs++[b])))(hb:aI τ' q b [.pointer none,.int .i64 (L.length:Int)] eG)(hne:τ'≠τ)(hle:τ.1<=τ'.1):
  bL τ (q'.retag [b] τ) eP eG a n (bs++[b]) (L++[-1])/\Step [b] q' (q'.retag [b] τ):=by
 have l:b∉aD a n:=λj=>hne<|hb.tag.symm.trans (h.vec.lt b j).2.1;have m:b∉bs:=λj=>hne<|hb.tag.symm.trans (h.mem b<|ϝ _ j).2.1;have r:=hb.step s l;obtain⟨hb2,s2⟩:=S_ (τ:=τ) r hle;refine⟨⟨hv.step s2 (λg j c=>l (by rw[fh.1 c]at j;exact j)),π,by simp[h.len],?_,?_,?_,?_⟩,s2⟩
 ·intro i w x d f;by_cases hi:i<bs.length
  ·rw[ci hi]at d;have v:i<L.length:=B8 hi
   rw[ci v]at f;have k:w∈bs:=fe d;have:=((h.node i w x d f).step s (λj=>h.dis w j k)).step s2 (λc=>m (by rw[fh.1 c]at k;exact k));rw[Ua<|h.rng i x f];exact this
  ·have u:i=bs.length:=by
    have:=(cv.1 d).1;exact C4
   subst u;rw[cj<|gd _]at d;simp at d;subst d;rw[h.len,cj<|gd _]at f;simp at f;subst f;rw[h.len];exact hb2
 ·intro i x c;by_cases hi:i<L.length
  ·rw[ci hi]at c;have:=h.rng i x c;simp;omega
  ·rw[cj om]at c;have z:=(cv.1 c).1;simp at z;rw[z]at c;simp at c;subst c;simp
 ·rw[fj];exact⟨h.nd,by simp,λx c y A e=>m (by rw[fh.1 A]at e;exact e▸c)⟩
 ·intro g j c;rcases er.1 c with c | c
  ·exact h.dis g j c
  ·rw[fh.1 c]at j;exact l j
def bL.set{ix jx:Int}(h:bL τ q eP eG a n bs L)(hi:0<=ix/\ix.toNat<bs.length)(hj:0<=jx/\jx.toNat<bs.length)(s:Step [Lf.nb bs ix] q q')(hb:aI τ q' (Lf.nb bs ix) [.pointer (some ⟨Lf.nb bs jx,0,none⟩),.int .i64 ix] eG):
  bL τ q' eP eG a n bs (L.set ix.toNat jx):=by
 have k:Lf.nb bs ix∈bs:=fe<|qY hi.2;refine⟨h.vec.step s (λg m f=>h.dis g m (by rw[fh.1 f];exact k)),h.le,B7 h.len,?_,?_,h.nd,h.dis⟩
 ·intro i b x c d;by_cases j:i=ix.toNat
  ·subst j;rw[qY hi.2]at c;injection c with e;subst e
   rw[dj (by rw[←h.len];exact hi.2)]at d;injection d with e;subst e
   have:jR bs jx=some ⟨Lf.nb bs jx,0,none⟩:=by unfold jR;rw[ϙ om]
   rw[this,bc hi.1];exact hb
  ·rw[dh<|Ne.symm j]at d;refine(h.node i b x c d).step s (λf=>j ?_);have e:=fh.1 f;subst e;have l:=(cv.1 c).1;exact(List.getElem?_inj l h.nd).1 (c.trans (qY hi.2).symm)
 ·intro i x f;by_cases j:i=ix.toNat
  ·subst j;rw[dj (by rw[←h.len];exact hi.2)]at f;injection f with e;subst e;exact hj.2
  ·rw[dh<|Ne.symm j]at f;exact h.rng i x f
end
section
variable [Fc] [Fb] {P:Program} {N:Nat} {c:Code} {i:Nat} {Q:bH} {E:aK} {e:K} {τ τ':aN} {eP eG:TypeId} {a:Option Addr} {n:Nat} {bs:List Nat} {L r:List Int}
def UA{T:TypeId}{m:Int}{d bytes k1 k2}(eG:TypeId)(hT:hX P T=some (eP,1,1,bytes))(hz:(eX P eP).map Value.cells=some [.pointer none].toArray)(hx:oH bytes m=some r)(hτ:τ.1<=e.H.size)(hk:∀a' e',Step [] e e'->bL τ e' eP eG a' m.toNat [] r->aS P N c (i+1) Q (aR E d (.slice a' m.toNat m.toNat)) e')(h:st c i N E (some d)=true:=by kernel_rfl)(ho:execOp (ev E) (zv c i)=aY (Instr.makeSlice T (.int k1 m) (.int k2 m)):=by kernel_rfl):aS P N c i Q E e:=by
 obtain⟨hm,rfl⟩:=RM hx;refine mn (pub:=false) (t:=oU) (z:=none) h ho hT hz rfl hm hτ λa' e' s g=>?_;rw[ec]at g ⊢;exact hk a' e' s<|bL.made g
def TJ{ix:Int}{T:TypeId}{bv b}(h:bL τ e eP eG a n bs L)(u:ov n L ix=some r)(ea:a=some ⟨bv,0,none⟩)(hb:aI τ' e b [.pointer none,.int .i64 ix] eG)(hne:τ'≠τ)(hle:τ.1<=τ'.1)(hs:zL P T=some 1)(hk:∀e1 e2,Step (lE a n bs) e e1->Step [b] e1 e2->bL τ e2 eP eG a n (bs++[b]) r->aS P N c (i+1) Q E e2)(hst:st c i N E none=true:=by kernel_rfl)(l:execOp (ev E) (zv c i)=ik (Instr.storeAt T (.pointer (some ⟨bv,0+ix.toNat*1,none⟩)) (.pointer (some ⟨b,0,none⟩))):=by kernel_rfl):aS P N c i Q E e:=by
 obtain⟨f,hlt,rfl⟩:=NM u;have d:bs.length<n:=by rw[h.len];exact hlt
 have k:ix.toNat=bs.length:=by rw[f,h.len];simp
 refine iG (T:=T) (t:=oU) (ix:=ix) (x':=some b) (b:=bv) (δ:=0) (vs:=[.pointer<|some ⟨b,0,none⟩]) (.pointer<|some ⟨b,0,none⟩) hst l ea h.vec om (by rw[FZ h.le];omega) rfl hs rfl rfl
  (λcs u=>by obtain⟨x,_,l⟩:=u;rw[qH<|(oU.len l).trans (by rfl)];rfl) λe' s j=>?_
 rw[k,RL d]at j;have m:aI τ' e b [.pointer none,.int .i64 (L.length:Int)] eG:=by rw[←f];exact hb
 obtain⟨F,s2⟩:=h.push d s j m hne hle;refine kZ (κ':=e'.retag [b] τ) rfl<|hk e' _ (s.mono (λg j=>eu _ j)) s2 F
def Jb{ix jx:Int}{T:TypeId}(h:bL τ e eP eG a n bs L)(hi:0<=ix/\ix.toNat<bs.length)(hj:0<=jx/\jx.toNat<bs.length)(hs:zL P T=some 1)(hk:∀e',Step (lE a n bs) e e'->bL τ e' eP eG a n bs (L.set ix.toNat jx)->aS P N c (i+1) Q E e')(hst:st c i N E none=true:=by kernel_rfl)(ho:execOp (ev E) (zv c i)=ik (Instr.storeAt T (.pointer (some ⟨nb bs ix,0,none⟩)) (.pointer (some ⟨nb bs jx,0,none⟩))):=by kernel_rfl):aS P N c i Q E e:=by
 obtain⟨x,_,j⟩:=h.ncell hi;refine zB (b:=nb bs ix) (off:=0) (T:=T) (.pointer<|some ⟨nb bs jx,0,none⟩) [.pointer<|some ⟨nb bs jx,0,none⟩] [.pointer<|some ⟨nb bs jx,0,none⟩,.int .i64 ix] hst ho j rfl hs rfl rfl rfl λe' s _ d=>?_;refine hk e' (s.mono (λg f=>?_))<|h.set hi hj s d;rw[fh.1 f];exact ϝ _<|fe<|qY hi.2
end
section
variable {P:Program} {E:Type} {t:Ty E} {o:K} {e T T2:TypeId} {a a2:Option Addr} {cp c2:Nat} {l l2 r:List E} {s:aN}
def OI{ys:List Value}{b off n len cap}(h:kp o b off ys)(hn:n*t.size<=ys.length)[Fb](C:Cx)d:
  (Builtin.firstCells t.size n (.slice (some ⟨b,off,none⟩) len cap)).run P (W C o d)=.ok (ys.take (n*t.size)).toArray (W C o d):=by
 refine run_firstCells_some _ t.size n ⟨b,off,none⟩ len cap (ys.take (n*t.size)) A2 (λj v a=>?_);rw[jE];rw[lm];refine h j v ?_;rw[dl]at a;split at a
 ·exact a
 ·cases a
def Oy{src len cap}[Fb](C:Cx)d:(Builtin.firstCells t.size 0 (.slice src len cap)).run P (W C o d)=.ok #[] (W C o d):=by
 cases src<;>simp[Builtin.firstCells,loadCells,loadCellsFrom]
def Sk{ty:TypeId}(hT:zH P T=some e)(hs:zL P e=some t.size)(hg:Gr t false s o e a cp l)(h2:Sl t o a2 c2 l2)[Fb](C:Cx)d:
  ∃o',(Builtin.copy_ #[T,T2] ty #[.slice a l.length cp,.slice a2 l2.length c2]).run P (W C o d)=.ok (.int .i64 (min l2.length l.length:Nat)) (W C o' d)/\Step (aD a cp) o o'/\Gr t false s o' e a cp (fB l 0 l2):=by
 obtain⟨j,f,hp⟩:=bA.of_sl h2;have key:∀g,(0<l.length->a=some ⟨g,0,none⟩)->∃o',(Builtin.copy_ #[T,T2] ty #[.slice a l.length cp,.slice a2 l2.length c2]).run P (W C o d)=.ok (.int .i64 (min l2.length l.length:Nat)) (W C o' d)/\Step (aD a cp) o o'/\Gr t false s o' e a cp (fB l 0 l2):=by
  intro g i;have:=Gs (P:=P) (T:=T) (T2:=T2) (ty:=ty) (dcap:=cp) (lo:=0) (da:=a) hT hs hg i (Ϧ _) (.slice a2 l2.length c2) j f (λh=>by rw[i h];simp) C d (λw=>rfl) (λn r=>by
   by_cases u:l2.length=0
   ·have:n=0:=by omega
    subst this;rw[Oy];simp
   ·obtain⟨b,off,m,c⟩:=hp om;rw[m];exact OI c.2.2 (by rw[f.length];exact gq _ r) C d)
  simpa using this
 rcases hg.body with⟨_,k⟩ |⟨g,cur,xs,i,_⟩
 ·exact key 0 (λh=>by rw[k]at h;simp at h)
 ·exact key g (λ_=>i)
def SU{hi}(hT:zH P T=some e)(hs:zL P e=some t.size)(hcap:l.length<=cp)(hx:bB l 0 hi=some r)w:
  (Instr.sliceAt T (.slice a l.length cp) none (dQ (some hi)) none).run P w=.ok (.slice a r.length cp) w:=by
 have:=AN (P:=P) (T:=T) (a:=a) (lo:=none) (hi:=some hi) hT hs hcap hx w;have c:((Option.getD none 0:Int).toNat)=0:=rfl;rw[c,Nat.zero_mul,Nat.sub_zero]at this;have b:(if cp=0 then a else a.map (·.add 0))=a:=by
  split
  ·rfl
  ·cases a<;>simp[Addr.add]
 rw[b]at this;exact this
def Sj{ty:TypeId}{lo:Int}{q p:List E}{hi}(hT:zH P T=some e)(hs:zL P e=some t.size)(hg:Gr t false s o e a cp l)(hq:bB l lo l.length=some q)(hp:bB l 0 hi=some p)[Fb](C:Cx)d:
  ∃o',(Builtin.copy_ #[T,T2] ty #[.slice (if cp=lo.toNat then a else a.map (·.add (lo.toNat*t.size))) q.length (cp - lo.toNat),.slice a p.length cp]).run P (W C o d)=.ok (.int .i64 (min p.length (l.length - lo.toNat):Nat)) (W C o' d)/\
   Step (aD a cp) o o'/\Gr t false s o' e a cp (fB l lo.toNat p):=by
 obtain⟨B,z,x,rfl⟩:=kY hq;obtain⟨D,y,A,rfl⟩:=kY hp;have m:(List.drop lo.toNat<|List.take (l.length:Int).toNat l).length=l.length - lo.toNat:=by simp
 rw[m];have k:List.drop (0:Int).toNat (List.take hi.toNat l)=l.take hi.toNat:=by simp
 rw[k];have r:=hg.cap;rcases hg.body with⟨u,f⟩ |⟨g,cur,xs,ha,hr,hH,h6,h7,h8,h9,_⟩
 ·have b:bA t o [] (l.take hi.toNat):=by rw[f];simp;rfl
  have:=Gs (P:=P) (T:=T) (T2:=T2) (ty:=ty) (dcap:=cp - lo.toNat) (lo:=lo.toNat) (g:=0) (da:=if cp=lo.toNat then a else a.map (·.add (lo.toNat*t.size))) hT hs hg (λh=>by rw[f]at h;simp at h) om (.slice a (l.take hi.toNat).length cp) [] b (λh=>by rw[f]at h;simp at h) C d (λw=>rfl) (λn i=>by
   have:n=0:=by rw[f]at i;simpa using i
   subst this;rw[Oy];simp)
  exact this
 ·have b:=hr.take hi.toNat;have:=Gs (P:=P) (T:=T) (T2:=T2) (ty:=ty) (dcap:=cp - lo.toNat) (lo:=lo.toNat) (g:=g) (da:=if cp=lo.toNat then a else a.map (·.add (lo.toNat*t.size))) hT hs hg (λ_=>ha) om (.slice a (l.take hi.toNat).length cp) _ b (λh=>by
   rw[ϙ om,ha];simp[jE]) C d (λw=>rfl) (λn i=>by
   rw[ha];refine OI (λj v c=>?_) (by rw[b.length];exact gq _ i) C d;rw[dl]at c;split at c
   ·rw[←h9,dl]at c;split at c
    ·unfold K.cell;rw[hH];simpa using c
    ·cases c
   ·cases c)
  exact this
end
section
variable [Fc] [Fb] {P:Program} {n:Nat} {c:Code} {i k:Nat} {nq:List Nat} {q0:Nat} {M s:List Nat} {Q:bH} {E:aK} {g:K} {u:Type} {t:Ty u} {e T T2:TypeId} {a a2:Option Addr} {cp c2:Nat} {l l2 p q:List u} {o:aN}
def UB{ty:TypeId}{d}(hg:Gr t false o g e a cp l)(h2:Sl t g a2 c2 l2)(hk:∀g',Step (aD a cp) g g'->Gr t false o g' e a cp (fB l 0 l2)->aS P n c (i+1) Q (aR E d (.int .i64 (min l2.length l.length:Nat))) g')(h:st c i n E (some d)=true:=by kernel_rfl)(ho:execOp (ev E) (zv c i)=aY (Builtin.copy_ #[T,T2] ty #[.slice a l.length cp,.slice a2 l2.length c2]):=by kernel_rfl)(hT:zH P T=some e:=by kernel_rfl)(hs:zL P e=some t.size:=by kernel_rfl):aS P n c i Q E g:=by
 refine jF (λv g'=>v=.int .i64 (min l2.length l.length:Nat)/\Step (aD a cp) g g'/\Gr t false o g' e a cp (fB l 0 l2)) h (λC j=>?_) ?_
 ·obtain⟨g',k,b,f⟩:=Sk (P:=P) (T:=T) (T2:=T2) (ty:=ty) hT hs hg h2 C j;exact⟨_,g',j,x8 k,rfl,b,f⟩
 ·rintro v g' ⟨rfl,b,f⟩;exact hk g' b f
def UU{ty:TypeId}{lo:Int}{d hi}(hg:Gr t false o g e a cp l)(hq:bB l lo l.length=some q)(hp:bB l 0 hi=some p)(hrel:ib q0 M i=Step (aD a cp))(hk:∀g',Step (aD a cp) g g'->Gr t false o g' e a cp (fB l lo.toNat p)->bR P n c k nq q0 M s Q (aR E d (.int .i64 (min p.length (l.length - lo.toNat):Nat))) g')(h:iR c nq i E d=true:=by kernel_rfl)(ho:execOp (ev E) (zv c i)=aY (Builtin.copy_ #[T,T2] ty #[.slice (if cp=lo.toNat then a else a.map (·.add (lo.toNat*t.size))) q.length (cp - lo.toNat),.slice a p.length cp]):=by kernel_rfl)(hT:zH P T=some e:=by kernel_rfl)(hs:zL P e=some t.size:=by kernel_rfl):bR P n c k nq q0 M (i::s) Q E g:=by
 refine qT (λv g'=>v=.int .i64 (min p.length (l.length - lo.toNat):Nat)/\Step (aD a cp) g g'/\Gr t false o g' e a cp (fB l lo.toNat p)) h (λv g' m=>by rw[hrel];exact m.2.1) (λC j=>?_) ?_
 ·obtain⟨g',r,b,f⟩:=Sj (P:=P) (T:=T) (T2:=T2) (ty:=ty) hT hs hg hq hp C j;exact⟨_,g',j,x8 r,rfl,b,f⟩
 ·rintro v g' ⟨rfl,b,f⟩;exact hk g' b f
def SI{F}(h:E=F)(hk:bR P n c k nq q0 M s Q F g):bR P n c k nq q0 M s Q E g:=by rw[h];exact hk
def Vj{lo}(h:l.length<=maxLen):aA ((min p.length (l.length - lo):Nat):Int):=by
 rw[nR]at h;unfold aA;omega
def Un(h:l.length<=maxLen):aA ((min l2.length l.length:Nat):Int):=by
 rw[nR]at h;unfold aA;omega
end
def IK{a:Type}{l r:List a}{l2:List a}{lo}(h:some (fB l lo l2)=some r)(hlo:lo<=l.length):r.length=l.length:=by
 injection h with h;rw[←h];exact Hb hlo
def IY{f:Type}{t:Ty f}{e:TypeId}{l r:List f}{pub d b a c}(h:some l=some r)(hg:Gr t pub d b e a c l):Gr t pub d b e a c r:=L5 hg
def SP{c:Type}{l r:List c}{lo:Int}(h:bB l lo l.length=some r):lo.toNat<=l.length:=by
 obtain⟨b,a,_⟩:=kY h;omega
inductive Er where
 | nil | line (l c:Int) | whole | other
def Er.isNil:Er->Bool
 | .nil=>true
 | _=>false
def ErVg(tl ts gw:Nat)(d:K)(v:Value):Er->Prop
 | .nil=>v=.nilIface
 | .line l c=>∃b,v=.iface tl (.pointer (some ⟨b,0,none⟩))/\PubAt d b 0 [.int .i64 l,.int .i64 c]/\aA l/\aA c
 | .whole=>(∃a,v=.iface ts (.pointer (some a)))/\PubAt d gw 0 [v]
 | .other=>∃t b,v=.iface t (.pointer (some ⟨b,0,none⟩))
def ErVg.step{tl ts gw M g g' v e}(s:Step M g g')(h:ErVg tl ts gw g v e):ErVg tl ts gw g' v e:=by
 cases e with
 | nil=>exact h
 | line l c=>obtain⟨b,a,d,f⟩:=h;exact⟨b,a,d.step s,f⟩
 | whole=>exact⟨h.1,h.2.step s⟩
 | other=>exact h
structure Globg(tab:List Int)(ts rt gw ge gsy gra gta nv te:Nat)(b:K):Prop where
 whole:∃a,PubAt b gw 0 [.iface ts (.pointer (some a))]
 syn:∃t p,PubAt b gsy 0 [.iface t p]
 rng:∃t p,PubAt b gra 0 [.iface t p]
 pow:PubAt b gta 0 (tab.map (Value.int .u64))
 psz:0<tab.length/\∃e k,b.shp gta=some (e,tab.length,k)
 ety:PubAt b ge 0 [.iface rt (.agg #[.pointer (some ⟨nv,te,none⟩)])]
def Globg.step{tab ts rt gw ge gsy gra gta nv te M g g'}(s:Step M g g')(h:Globg tab ts rt gw ge gsy gra gta nv te g):Globg tab ts rt gw ge gsy gra gta nv te g':=by
 obtain⟨b,i⟩:=h.whole;obtain⟨t,p,c⟩:=h.syn;obtain⟨t',f,l⟩:=h.rng;obtain⟨j,e,k,d⟩:=h.psz;have a:0<g.fr gta:=by have:=h.pow.2.1;rw[dy]at this;omega
 exact⟨⟨b,i.step s⟩,⟨t,p,c.step s⟩,⟨t',f,l.step s⟩,h.pow.step s,⟨j,e,k,(s.2.2.2 gta h.pow.1 a).2.trans d⟩,h.ety.step s⟩
def GI{e:Er}{tl ts gw f v}(h:ErVg tl ts gw f v e):(v=.nilIface/\e.isNil=true)\/(∃t a,v=.iface t (.pointer (some a))/\e.isNil=false):=by
 cases e with
 | nil=>exact .inl ⟨h,rfl⟩
 | line l c=>obtain⟨b,d,_⟩:=h;exact .inr ⟨_,_,d,rfl⟩
 | whole=>obtain⟨⟨b,d⟩,_⟩:=h;exact .inr ⟨_,b,d,rfl⟩
 | other=>obtain⟨t,b,d⟩:=h;exact .inr ⟨t,_,d,rfl⟩
def aI.pub{f:K}{cs:List Value}{T:TypeId}{g b}(h:aI g f b cs T):Step [b] f (f.pubB b cs.length)/\PubAt (f.pubB b cs.length) b 0 cs:=by
 refine⟨⟨gd _,λx a hm=>⟨rfl,by simp[K.pubB]at hm ⊢;simp[hm],rfl⟩,λx a=>⟨?_,λo d=>rfl⟩,λx a _=>⟨rfl,rfl⟩⟩,h.lt,?_,?_⟩
 ·simp only[K.pubB];split
  ·rename_i e;rw[e,h.fr];omega
  ·exact gd _
 ·simp[K.pubB]
 ·intro j v c;exact h.at.2 j v c
section
variable [Fc] [Fb] {P:Program} {n:Nat} {c:Code} {i:Nat} {Q:bH} {E:aK} {a:K}
def mf{T:TypeId}{d b cs}(h:aI d a b cs T)(hk:∀a',Step [b] a a'->PubAt a' b 0 cs->aS P n c i Q E a'):aS P n c i Q E a:=kZ (κ':=a.pubB b cs.length) rfl (hk _ h.pub.1 h.pub.2)
end
def jK[Fb](P:Program)(c:Code)(i:Nat)(E:aK)(a:K)(v:Value):Prop:=bV c i E=true/\∀C d,(execOp (ev E) (zv c i)).run P (W C a d)=.ok (.value v) (W C a d)
def Dr[Fb](P:Program)(c:Code)(i:Nat)(E:aK)(a a':K):Prop:=bV c i E=true/\∀C d,(execOp (ev E) (zv c i)).run P (W C a d)=.ok .skip (W C a' d)
def iQ(c:Code)(l:List Bool):List Nat:=Region.ready .any (opsOf c) l.toArray
def Ds(c:Code)(n d0 d1 d3:Nat):Bool:=Nat.beq (opsOf c).size 4&&((zv c 0).dst == some d0)&&((zv c 1).dst == some d1)&&((zv c 2).dst == none)&&((zv c 3).dst == some d3)&&Nat.blt d0 n&&Nat.blt d1 n&&Nat.blt d3 n&&!Nat.beq d0 d1 &&
 (iQ c [false,false,false,false] == [0,1])&&(iQ c [true,false,false,false] == [1,2])&&(iQ c [false,true,false,false] == [0])&&(iQ c [true,true,false,false] == [2])&&(iQ c [true,false,true,false] == [1])&&(iQ c [true,true,true,false] == [3])&&(iQ c [true,true,true,true] == [])
def Um[Fc][Fb]{P:Program}{Q:bH}{n c0 p E κ κ' d0 d1 d3 v0 v1 v3}(h:eF (sub c0 p)=some true)(hm:P.follows .mixedOrders=true)(hB:Ds (sub c0 p) n d0 d1 d3=true)(h0:jK P (sub c0 p) 0 E κ v0)(h0':jK P (sub c0 p) 0 (aR E d1 v1) κ v0)(h1:jK P (sub c0 p) 1 E κ v1)(h1':jK P (sub c0 p) 1 (aR E d0 v0) κ v1)(h1'':jK P (sub c0 p) 1 (aR E d0 v0) κ' v1)(h2:Dr P (sub c0 p) 2 (aR E d0 v0) κ κ')(h2':Dr P (sub c0 p) 2 (aR (aR E d0 v0) d1 v1) κ κ')(h3:jK P (sub c0 p) 3 (aR (aR E d0 v0) d1 v1) κ' v3)(w:Q .normal (aR (aR (aR E d0 v0) d1 v1) d3 v3) κ'):aO P n (sub c0 p) Q E κ:=by
 generalize sub c0 p=s at *;obtain⟨id,ops,hs⟩:∃id ops,s=Code.region id ops true:=by
  cases s<;>simp[eF]at h;subst h;exact⟨_,_,rfl⟩
 have k:opsOf s=ops:=by rw[hs];rfl
 unfold Ds iQ at hB;simp only[an,ϱ,au]at hB;obtain⟨⟨⟨⟨⟨⟨⟨⟨⟨⟨⟨⟨⟨⟨⟨q0,N⟩,L⟩,T⟩,Y⟩,V⟩,S⟩,R⟩,O⟩,H⟩,F⟩,J⟩,B⟩,G⟩,I⟩,M⟩:=hB;rw[k]at q0 H F J B G I M;have hsz:ops.size=4:=ga q0;have l0:d0<n:=gc V;have l1:d1<n:=gc S;have X:d3<n:=gc R;have D:d0≠d1:=λe=>by rw[e]at O;simp at O
 have m:aR (aR E d1 v1) d0 v0=aR (aR E d0 v0) d1 v1:=BN D.symm;have val:∀{i:Nat} {dd:Nat} {v:Value} {l:aK} {κa:K} {f:Nat} {lst:Array Bool} {C:Cx} {d:Nat} {a:Act},jK P s i l κa v->i<4->(zv s i).dst=some dd->dd<n->Fits n a l->
   (∀a',Fits n a' (aR l dd v)->wpAnyIn FF 0 P .any ops (cQ n C Q) f (lst.setIfInBounds i true) a' (W C κa d))->wpOpIn FF 0 P ops (cQ n C Q) i (wpAnyIn FF 0 P .any ops (cQ n C Q) f<|lst.setIfInBounds i true) a (W C κa d):=by
  intro i dd v l κa f lst C d a A hi hd hlt c w;have r:ops[i]?=some (zv s i):=by rw[←k];exact ja (by rw[k,hsz];exact hi)
  unfold wpOpIn;rw[r];have x:=iY c s i;rw[k,A.1]at x;simp only[x,Ϡ];refine kl (by rw[c.eval];exact A.2 C d) ?_;rw[hd];exact w _<|c.put hlt v
 have z:∀{l:aK} {f:Nat} {lst:Array Bool} {C:Cx} {d:Nat} {a:Act},Dr P s 2 l κ κ'->Fits n a l->
   (wpAnyIn FF 0 P .any ops (cQ n C Q) f (lst.setIfInBounds 2 true) a<|W C κ' d)->wpOpIn FF 0 P ops (cQ n C Q) 2 (wpAnyIn FF 0 P .any ops (cQ n C Q) f<|lst.setIfInBounds 2 true) a (W C κ d):=by
  intro l f lst C d a A c w;have r:ops[2]?=some (zv s 2):=by rw[←k];exact ja (by rw[k,hsz];omega)
  unfold wpOpIn;rw[r];have x:=iY c s 2;rw[k,A.1]at x;simp only[x,Ϡ];refine BM (by rw[c.eval];exact A.2 C d) ?_;rw[T];exact w
 intro C d a c;rw[hs];refine wpIn_region_any hm ?_;rw[hsz];have u:∀{d:Nat} {a:Act},Fits n a (aR (aR E d0 v0) d1 v1)->wpAnyIn FF 0 P .any ops (cQ n C Q) 1 #[true,true,true,false] a (W C κ' d):=by
  intro d a c;refine⟨λj=>(by rw[I]at j;cases j),λi hi=>?_⟩;rw[I]at hi;have:i=3:=϶ hi
  subst this;refine val h3 om Y X c λa' b=>?_;exact⟨M,_,κ',d,b,rfl,w⟩
 have y:∀{d:Nat} {a:Act},Fits n a (aR (aR E d0 v0) d1 v1)->wpAnyIn FF 0 P .any ops (cQ n C Q) 2 #[true,true,false,false] a (W C κ d):=by
  intro d a c;refine⟨λj=>(by rw[B]at j;cases j),λi hi=>?_⟩;rw[B]at hi;have:i=2:=϶ hi
  subst this;exact z h2' c<|u c
 have U:∀{d:Nat} {a:Act},Fits n a (aR E d0 v0)->wpAnyIn FF 0 P .any ops (cQ n C Q) 3 #[true,false,false,false] a (W C κ d):=by
  intro d a c;refine⟨λj=>(by rw[F]at j;cases j),λi hi=>?_⟩;rw[F]at hi;have:i=1\/i=2:=϶ hi
  rcases this with rfl | rfl
  ·exact val h1' om L l1 c λa' b=>y b
  ·refine z h2 c ?_;refine⟨λj=>(by rw[show(#[true,false,false,false]:Array Bool).setIfInBounds 2 true=#[true,false,true,false]from rfl,G]at j;cases j),λi hi=>?_⟩;rw[show(#[true,false,false,false]:Array Bool).setIfInBounds 2 true=#[true,false,true,false]from rfl,G]at hi;have:i=1:=϶ hi
   subst this;exact val h1'' om L l1 c λa' b=>u b
 have Z:∀{d:Nat} {a:Act},Fits n a (aR E d1 v1)->wpAnyIn FF 0 P .any ops (cQ n C Q) 3 #[false,true,false,false] a (W C κ d):=by
  intro d a c;refine⟨λj=>(by rw[J]at j;cases j),λi hi=>?_⟩;rw[J]at hi;have:i=0:=϶ hi
  subst this;exact val h0' om N l0 c λa' b=>y (by rw[m]at b;exact b)
 have e4:Array.replicate 4 false=#[false,false,false,false]:=rfl;show wpAnyIn FF 0 P .any ops (cQ n C Q) 4 (Array.replicate 4 false) a<|W C κ (d+1);rw[e4];refine⟨λj=>(by rw[H]at j;cases j),λi hi=>?_⟩;rw[H]at hi;have:i=0\/i=1:=϶ hi
 rcases this with rfl | rfl
 ·exact val h0 om N l0 c λa' b=>U b
 ·exact val h1 om L l1 c λa' b=>Z b
def Vy[Fc][Fb]{P:Program}{Q:bH}{cs vs:List Value}{n c0 p E e f b gb T T1 U cs'}d0 d1 d3(v0 v1:Value)(B:aI f e b cs U)(hv1:PubAt e gb 0 [v1])(hk:∀e',Step [b] e e'->aI f e' b cs' U->Q .normal (aR (aR (aR E d0 v0) d1 v1) d3 v1) e')(hv:v0.cells=vs.toArray)(hs:zL P T=some vs.length)(hone:lu vs=true)(hlen:Nat.ble (0+vs.length) cs.length=true)(hcs:splice cs 0 vs=cs')(hag:dw P T1=some false)(g1:∀E':aK,E'=E\/E'=aR E d0 v0->bV (sub c0 p) 1 E'=true/\execOp (ev E') (zv (sub c0 p) 1)=aY (Instr.loadAt T1 (.pointer (some ⟨gb,0,none⟩))))(g2:∀E':aK,E'=aR E d0 v0\/E'=aR (aR E d0 v0) d1 v1->bV (sub c0 p) 2 E'=true/\execOp (ev E') (zv (sub c0 p) 2)=ik (Instr.storeAt T (.pointer (some ⟨b,0,none⟩)) v0))(g0:∀e':K,jK P (sub c0 p) 0 E e' v0/\jK P (sub c0 p) 0 (aR E d1 v1) e' v0)(g3:∀e':K,jK P (sub c0 p) 3 (aR (aR E d0 v0) d1 v1) e' v1)(h:eF (sub c0 p)=some true:=by kernel_rfl)(hm:P.follows .mixedOrders=true:=by kernel_rfl)(hB:Ds (sub c0 p) n d0 d1 d3=true:=by kernel_rfl):aO P n (sub c0 p) Q E e:=by
 have st:=mi (cs':=cs') B;have a:∀C d,(Instr.storeAt T (.pointer<|some ⟨b,0,none⟩) v0).run P (W C e d)=.ok () (W C (e.setB b cs' U) d):=λC d=>by
  rw[←hcs];exact A_ B hv hs hone<|gc hlen
 have l1:∀{e':K} {E':aK},PubAt e' gb 0 [v1]->(E'=E\/E'=aR E d0 v0)->jK P (sub c0 p) 1 E' e' v1:=λhp c=>
  ⟨(g1 _ c).1,λC d=>by rw[(g1 _ c).2];exact zD<|nN hag<|hp.2.2 0 v1 rfl⟩
 refine Um (κ':=e.setB b cs' U) h hm hB (g0 e).1 (g0 e).2 (l1 hv1<|.inl rfl) (l1 hv1<|.inr rfl) (l1 (hv1.step st)<|.inr rfl) ⟨(g2 _<|.inl rfl).1,λC d=>?_⟩ ⟨(g2 _<|.inr rfl).1,λC d=>?_⟩ (g3 _)<|hk _ st<|lc B
 ·rw[(g2 _<|.inl rfl).2];exact qV<|a C d
 ·rw[(g2 _<|.inr rfl).2];exact qV<|a C d
section
variable {B C:Type} {tb:Ty C} {t:Ty B}
def tX(tb:Ty C)(t:Ty B):Ty ((C×List B)×Hd):=⟨tb.size+1,λp cs x=>∃c1,cs=c1++[.slice x.2.1 x.2.2.1 x.2.2.2]/\tb.own p c1 x.1.1/\x.2.2.1=x.1.2.length/\Sl t p x.2.1 x.2.2.2 x.1.2,
  λ⟨c1,h,h1,_⟩=>by rw[h,dt,tb.len h1];rfl,
  λs ⟨c1,h,h1,h2,h3⟩=>⟨c1,h,tb.step s h1,h2,h3.step s⟩,
  λ⟨c1,h,h1,_⟩ v hv=>by
   rw[h,er]at hv;rcases hv with hv | hv
   ·exact tb.one h1 v hv
   ·rw[fh.1 hv];rfl⟩
structure cN(tb:Ty C)(t:Ty B)(S:Nat)(eS:TypeId)(q:aN)(p:K)(e:TypeId)(a:Option Addr)(c:Nat)(L:List (C×List B))(H:List (Hd×Nat)):Prop where
 len:H.length=L.length
 gr:Gr (tX tb t) true q p e a c (L.zip (H.map Prod.fst))
 pw:H.Pairwise (λx y=>0<x.1.2.1->0<y.1.2.1->x.2≠y.2)
 home:∀x∈H,0<x.1.2.1->∃b,x.1.1=some ⟨b,0,none⟩/\b<p.H.size/\p.tag b=(x.2,S)/\x.2<=b/\0<p.fr b/\p.shp b=some (eS,x.1.2.2*t.size,(0,0))/\x.1.2.2<=maxLen
variable {S:Nat} {eS e:TypeId} {q:aN} {p p':K} {a:Option Addr} {c:Nat} {L:List (C×List B)} {H:List (Hd×Nat)} {M:List Nat}
def cN.step(s:Step M p p')(hm:∀g∈aD a c,g∉M)(h:cN tb t S eS q p e a c L H):cN tb t S eS q p' e a c L H:=⟨h.len,h.gr.step s hm,h.pw,λx u n=>by
  obtain⟨b,m,d,r,l,i,j,k⟩:=h.home x u n;have f:=s.2.2.2 b d i;exact⟨b,m,gi d s.1,f.1.trans r,l,gi i (s.2.2.1 b d).1,f.2.trans j,k⟩⟩
def cN.step0(s:Step [] p p')(h:cN tb t S eS q p e a c L H):cN tb t S eS q p' e a c L H:=L1
def cN.nil:cN tb t S eS q p e none 0 ([]:List (C×List B)) []:=⟨rfl,Gr.nil,.nil,λx a=>by cases a⟩
def cN.most(h:cN tb t S eS q p e a c L H):L.length<=maxLen:=by
 have:=h.gr.most;rw[Ϭ,dy,h.len,ϸ]at this;exact this
def cN.hlt(h:cN tb t S eS q p e a c L H):∀x∈H,0<x.1.2.1->x.2<p.H.size:=λx f d=>by
 obtain⟨b,_,i,_,j,_⟩:=h.home x f d;omega
def IQ:∀{L:List (C×List B)} {Hs:List Hd} {xs:List Value},Hs.length=L.length->bA (tX tb t) p xs (L.zip Hs)->bA (dW tb (aW t)) p xs L
 |[],[],xs,_,h=>h
 |[],_::_,xs,hl,_=>x6 hl
 | _::_,[],xs,hl,_=>x6 hl
 | x::L,hd::Hs,xs,hl,h=>by
  obtain⟨cs,a,e,c,i⟩:=h;obtain⟨c1,j,d,k,f⟩:=c;refine⟨cs,a,e,⟨c1,[.slice hd.1 hd.2.1 hd.2.2],j,d,hd.1,hd.2.2,?_,f⟩,IQ (϶ hl) i⟩;have b:hd.2.1=x.2.length:=k;rw[b]
def cN.gr1(h:cN tb t S eS q p e a c L H):Gr (dW tb (aW t)) true q p e a c L:=by
 have b:(L.zip<|H.map Prod.fst).length=L.length:=by rw[Ϭ,dy,h.len,ϸ]
 refine⟨h.most,?_⟩;rcases h.gr.body with⟨f,d⟩ |⟨g,cur,xs,ha,hr,hH,h1,h2,h3,h4,h5,h6,h7⟩
 ·rw[d]at b;exact .inl ⟨f,bl (϶ b.symm)⟩
 ·rw[b]at h1 h4 h5;exact .inr ⟨g,cur,xs,ha,IQ (A8 h.len) hr,hH,h1,h2,h3,h4,h5,h6,h7⟩
def cN.sl(h:cN tb t S eS q p e a c L H):Sl (dW tb (aW t)) p a c L:=h.gr1.sl
def TN{L r:List (C×List B)}{Hs:List Hd}{x:C×List B}{by_ hd}(h:aX by_ L [x]=some r)(hl:Hs.length=L.length):
  aX by_ (L.zip Hs) [(x,hd)]=some (r.zip (Hs++[hd]))/\r=L++[x]:=by
 obtain⟨a,b,rfl⟩:=nU h;have c:(L.zip Hs).length=L.length:=by rw[Ϭ,hl,ϸ]
 refine⟨?_,rfl⟩;unfold aX;rw[Ϙ (by rw[c];exact⟨a,b⟩)];congr 1;rw[List.zip_append hl.symm];rfl
def cN.snoc{x:C×List B}{N hd a' c'}(h:cN tb t S eS q p e a c L H)(s:Step (aD a c) p p')(g:Gr (tX tb t) true q p' e a' c' ((L++[x]).zip (H.map Prod.fst++[hd])))(G:Gr t true (N,S) p eS hd.1 hd.2.2 x.2)(hlen:hd.2.1=x.2.length)(hdis:∀g∈aD hd.1 hd.2.2,g∉aD a c)(hlt:∀y∈H,0<y.1.2.1->y.2<N)(hs:0<t.size):cN tb t S eS q p' e a' c' (L++[x]) (H++[(hd,N)]):=by
 refine⟨by simp[h.len],by rw[eh];exact g,?_,?_⟩
 ·rw[List.pairwise_append];refine⟨h.pw,by simp,λy d z A i _=>?_⟩;rw[fh.1 A];have:=hlt y d i;exact Em this
 ·intro y d i;rcases er.1 d with d | d
  ·obtain⟨b,r,f,m,n,k,l,u⟩:=h.home y d i;have j:=s.2.2.2 b f k;exact⟨b,r,gi f s.1,j.1.trans m,n,gi k (s.2.2.1 b f).1,j.2.trans l,u⟩
  ·rw[fh.1 d]at i ⊢;have w:0<hd.2.1:=i;have G':=G.step s hdis;rcases G'.body with⟨_,v⟩ |⟨b,cur,xs,ha,hr,hH,r,f,m,n,k,l,j⟩
   ·rw[v]at hlen;simp at hlen;omega
   ·refine⟨b,ha,(ae.1 hH).1,l,j,?_,?_,f⟩
    ·rw[k];simp;exact Nat.mul_pos om hs
    ·unfold K.shp;rw[hH];simp[m]
def cX(tb:Ty C)(t:Ty B)(S:Nat)(eS:TypeId)(q:aN)(p:K)(e:TypeId)(a:Option Addr)(c:Nat)(L:List (C×List B)):Prop:=∃H,cN tb t S eS q p e a c L H
def cX.gr1(h:cX tb t S eS q p e a c L):Gr (dW tb (aW t)) true q p e a c L:=h.elim λ_ h=>h.gr1
def cX.nil:cX tb t S eS q p e none 0 ([]:List (C×List B)):=⟨[],cN.nil⟩
def cX.step(s:Step M p p')(hm:∀g∈aD a c,g∉M)(h:cX tb t S eS q p e a c L):cX tb t S eS q p' e a c L:=h.elim λ_ h=>⟨_,h.step s hm⟩
def cX.step0(s:Step [] p p')(h:cX tb t S eS q p e a c L):cX tb t S eS q p' e a c L:=h.elim λ_ h=>⟨_,h.step0 s⟩
def cX.sl(h:cX tb t S eS q p e a c L):Sl (dW tb (aW t)) p a c L:=h.gr1.sl
def cX.own{p0:K}(h:cX tb t S eS q p e a c L)(h0:p0.H.size<=q.1):∀b∈aD a c,p0.H.size<=b:=h.gr1.own h0
def cX.bn{T:TypeId}{b cs q'}(h:cX tb t S eS q p e a c L)(hb:aI q' p b cs T)(hn:q'≠q):b∉aD a c:=h.gr1.bn hb hn
def cX.nb{T:TypeId}{b cs q'}(h:cX tb t S eS q p e a c L)(hb:aI q' p b cs T)(hn:q≠q'):∀g∈aD a c,g∉[b]:=h.gr1.nb hb hn
def cX.ng{b:Type}{t':Ty b}{e':TypeId}{l':List b}{pub' q' a' c'}(h:cX tb t S eS q p e a c L)(h':Gr t' pub' q' p e' a' c' l')(hn:q≠q'):∀g∈aD a c,g∉aD a' c':=h.gr1.ng h' hn
def cN.bn{T:TypeId}{b cs q'}(h:cN tb t S eS q p e a c L H)(hb:aI q' p b cs T)(hn:q'≠q):b∉aD a c:=h.gr1.bn hb hn
def cN.nb{T:TypeId}{b cs q'}(h:cN tb t S eS q p e a c L H)(hb:aI q' p b cs T)(hn:q≠q'):∀g∈aD a c,g∉[b]:=h.gr1.nb hb hn
def cN.ng{b:Type}{t':Ty b}{e':TypeId}{l':List b}{pub' q' a' c'}(h:cN tb t S eS q p e a c L H)(h':Gr t' pub' q' p e' a' c' l')(hn:q≠q'):∀g∈aD a c,g∉aD a' c':=h.gr1.ng h' hn
def Hm(e:TypeId)(c s:Nat)(q:aN)(p:K)(a:Option Addr)(n:Nat):Prop:=0<n->c<=maxLen/\∃b,a=some ⟨b,0,none⟩/\b<p.H.size/\p.tag b=q/\0<p.fr b/\p.shp b=some (e,c*s,(0,0))
def Hm.step{s n}(st:Step M p p')(h:Hm e c s q p a n):Hm e c s q p' a n:=λm=>by
 obtain⟨k,b,l,d,r,i,j⟩:=h m;have f:=st.2.2.2 b d i;exact⟨k,b,l,gi d st.1,f.1.trans r,gi i (st.2.2.1 b d).1,f.2.trans j⟩
def Hm.nil{s}:Hm e c s q p a 0:=λh=>x4 h (Ϸ 0)
def Gr.hm{l:List B}(h:Gr t true q p e a c l)(hs:0<t.size):Hm e c t.size q p a l.length:=λd=>by
 rcases h.body with⟨_,f⟩ |⟨b,cur,xs,ha,hr,hH,h1,h2,h3,h4,h5,h6,h7⟩
 ·rw[f]at d;cases d
 ·refine⟨h2,b,ha,(ae.1 hH).1,h6,?_,?_⟩
  ·rw[h5];simp;exact Nat.mul_pos d hs
  ·unfold K.shp;rw[hH];simp[h3]
def gO(t:Ty B)(e:TypeId)(q:aN)(p:K)(a:Option Addr)(c:Nat)(l:List B):Prop:=Sl t p a c l/\Hm e c t.size q p a l.length
def gO.step{l:List B}(s:Step M p p')(h:gO t e q p a c l):gO t e q p' a c l:=⟨h.1.step s,h.2.step s⟩
def gO.nil:gO t e q p none 0 ([]:List B):=⟨Sl.nil _ _,Hm.nil⟩
def Gr.slO{l:List B}(h:Gr t true q p e a c l)(hs:0<t.size):gO t e q p a c l:=⟨h.sl,h.hm hs⟩
def mC(t:Ty B)(e:TypeId)(S:Nat)(p:K)(a:Option Addr)(c:Nat)(l:List B):Prop:=∃N,gO t e (N,S) p a c l
def mC.step{l:List B}{S}(s:Step M p p')(h:mC t e S p a c l):mC t e S p' a c l:=h.elim λ_ h=>F6
def iO(tb:Ty C)(t:Ty B)(S:Nat)(eS e:TypeId)(q:aN)(p:K)(a:Option Addr)(c:Nat)(L:List (C×List B)):Prop:=∃H:List (Hd×Nat),H.length=L.length/\Sl (tX tb t) p a c (L.zip<|H.map Prod.fst)/\Hm e c (tX tb t).size q p a L.length/\H.Pairwise (λx y=>0<x.1.2.1->0<y.1.2.1->x.2≠y.2)/\∀x∈H,Hm eS x.1.2.2 t.size (x.2,S) p x.1.1 x.1.2.1
def iO.step(s:Step M p p')(h:iO tb t S eS e q p a c L):iO tb t S eS e q p' a c L:=by
 obtain⟨H,f,b,j,d,i⟩:=h;exact⟨H,f,b.step s,j.step s,d,λx k=>(i x k).step s⟩
def UH{L:List (C×List B)}{Hs:List Hd}{c}(hl:Hs.length=L.length)(h:Sl (tX tb t) p a c (L.zip Hs)):Sl (dW tb (aW t)) p a c L:=by
 have z:(L.zip Hs).length=L.length:=by rw[Ϭ,hl,ϸ]
 obtain⟨m,l,n⟩:=h;rw[z]at m l n;refine⟨m,l,λw=>?_⟩;obtain⟨b,o,u,v⟩:=n w;refine⟨b,o,u,λi x r=>?_⟩;have hi:i<L.length:=(cv.1 r).1;have f:i<Hs.length:=hl▸hi;have d:(L.zip Hs)[i]?=some (x,Hs[i]):=by
  rw[Ϻ];exact⟨r,cn f⟩
 obtain⟨cs,j,c1,k1,k2,k3,y⟩:=v i _ d;refine⟨cs,j,?_⟩;have k:(Hs[i]).2.1=x.2.length:=k3;refine⟨c1,[.slice (Hs[i]).1 (Hs[i]).2.1 (Hs[i]).2.2],k1,k2,(Hs[i]).1,(Hs[i]).2.2,?_,y⟩;rw[k]
def iO.sl(h:iO tb t S eS e q p a c L):Sl (dW tb (aW t)) p a c L:=by
 obtain⟨H,b,d,_⟩:=h;exact UH (A8 b) d
def iO.nil:iO tb t S eS e q p none 0 ([]:List (C×List B)):=⟨[],rfl,Sl.nil _ _,Hm.nil,.nil,λx a=>by cases a⟩
def cX.tlO(h:cX tb t S eS q p e a c L):iO tb t S eS e q p a c L:=by
 obtain⟨H,h⟩:=h;have i:(L.zip<|H.map Prod.fst).length=L.length:=by rw[Ϭ,dy,h.len,ϸ]
 refine⟨H,h.len,h.gr.sl,?_,h.pw,λx r m=>?_⟩
 ·have:=h.gr.hm<|Nat.succ_pos _;rw[i]at this;exact this
 ·obtain⟨b,k,j,n,_,l,d,f⟩:=h.home x r m;exact⟨f,b,k,j,n,l,d⟩
end
section
variable [Fc] [Fb] {P:Program} {n:Nat} {c:Code} {i k:Nat} {nq:List Nat} {q0:Nat} {M u:List Nat} {Q:bH} {E:aK} {o:K} {q p:Type} {tb:Ty p} {t:Ty q} {S:Nat} {eS e T:TypeId} {τ τ2:aN} {a a2:Option Addr} {cp c2:Nat} {L r:List (p×List q)} {H:List (Hd×Nat)} {x:p×List q} {hd:Hd} {N:Nat}
def UV{d bytes}(h:iR c nq i E d=true)(ho:execOp (ev E) (zv c i)=aY (Builtin.append_ #[T,T] 0 #[.slice a L.length cp,.slice a2 1 c2]))(F:cN tb t S eS τ o e a cp L H)(lit:Gr (tX tb t) true τ2 o e a2 c2 [(x,hd)])(G:Gr t true (N,S) o eS hd.1 hd.2.2 x.2)(hlen:hd.2.1=x.2.length)(hdis:∀g∈aD hd.1 hd.2.2,g∉aD a cp)(hlt:∀y∈H,0<y.1.2.1->y.2<N)(hτ:τ.1<=o.H.size)(hT:hX P T=some (e,(tX tb t).size,(tX tb t).size,bytes))(hx:aX bytes L [x]=some r)(hrel:ib q0 M i=Step (aD a cp))(hk:∀a' c' o',Step (aD a cp) o o'->cN tb t S eS τ o' e a' c' r (H++[(hd,N)])->(∀g∈aD a' c',g∈aD a cp\/o.H.size<=g)->bR P n c k nq q0 M u Q (aR E d (.slice a' r.length c')) o')(hs:Nat.blt 0 t.size=true:=by kernel_rfl):bR P n c k nq q0 M (i::u) Q E o:=by
 obtain⟨m,rfl⟩:=TN (hd:=hd) hx (Hs:=H.map Prod.fst) (A8 F.len);have j:(L.zip<|H.map Prod.fst).length=L.length:=by rw[Ϭ,dy,F.len,ϸ]
 have b:((L++[x]).zip<|H.map Prod.fst++[hd]).length=(L++[x]).length:=by simp[F.len]
 refine iD (d:=d) (T:=T) (e:=e) (t:=tX tb t) (pub:=true) (τ:=τ) (bytes:=bytes) (a:=a) (cp:=cp) (l:=L.zip<|H.map Prod.fst) (a2:=a2) (c2:=c2) (l2:=[(x,hd)]) h (by rw[j];exact ho) F.gr lit.sl hτ hT m hrel λa' c' o' s g f=>?_;have:=hk a' c' o' s (F.snoc s g G hlen hdis hlt<|gc hs) f;rw[b];exact this
end
def mJ(k:IntKind)(x n:Int):Option Int:=if 0<=n then some (k.wrap (x*2 ^ (min n.toNat k.bits)))else none
def kx(k:IntKind)(x y:Int):Int:=k.wrap ((BitVec.ofInt k.bits x &&& BitVec.ofInt k.bits y).toNat:Int)
def oK(k:IntKind)(x y:Int):Int:=k.wrap ((BitVec.ofInt k.bits x ||| BitVec.ofInt k.bits y).toNat:Int)
def Jr(x y:Int):Int:=if y>x then y else x
def IB x y:aA (oK .i64 x y):=zm _
def mz(k:IntKind)(x n:Int):Option Int:=if 0<=n then some (x.fdiv (2 ^ (min n.toNat k.bits)))else none
section
variable {P:Program} {E:aK} {c:Code} {i:Nat} {T:TypeId} {w:World}
def Cf{k yk x n r}(h:execOp (ev E) (zv c i)=aY (Op.shift .shl k x yk n))(hx:mJ k x n=some r):
  (execOp (ev E) (zv c i)).run P w=.ok (.value (.int k r)) w:=by
 unfold mJ at hx;split at hx
 ·rename_i h0;obtain rfl:=A5 hx;rw[h];refine zD ?_;unfold Op.shift;rw[ϙ om];rfl
 ·cases hx
def Hr{k yk x n r}(h:execOp (ev E) (zv c i)=aY (Op.shift .shr k x yk n))(hx:mz k x n=some r):
  (execOp (ev E) (zv c i)).run P w=.ok (.value (.int k r)) w:=by
 unfold mz at hx;split at hx
 ·rename_i h0;obtain rfl:=A5 hx;rw[h];refine zD ?_;unfold Op.shift;rw[ϙ om];rfl
 ·cases hx
end
def vq(P:Program)(f:Field)(off:Nat):Bool:=(f.name != "_")&&Nat.beq f.offset off&&km P f.type&&(zL P f.type == some 2)&&(dw P f.type == some true)
def BA(P:Program)(T:TypeId):Bool:=(match P.underlying T with | some (.struct _)=>true | _=>false)&&!P.stoodInHeld T&&!P.eqGuardType P.depth T &&
 (match(P.fieldsOf T).toList with |[f,g]=>vq P f 0&&i_ P g 2 | _=>false)
section
variable {P:Program}
def Pk{T:TypeId}(h:km P T=true)d(k1 k2:IntKind)a b a' b' w:
  (Op.equalIn (d+2) T (.agg #[.int k1 a,.int k2 b]) (.agg #[.int k1 a',.int k2 b'])).run P w=.ok (decide (a=a')&&decide (b=b')) w:=by
 unfold km at h;simp only[an,au]at h;obtain⟨⟨⟨n,u⟩,y⟩,i⟩:=h;have x:P.underlying T=some (.struct (P.fieldsOf T)):=by
  unfold Program.fieldsOf;split at n
  ·rename_i fs hfs;simp[hfs]
  ·cases n
 rw[show d+2=(d+1)+1 from rfl,run_equalIn_agg w (d+1) T _ _ x u];split at i
 ·rename_i f g hfg;rw[hfg];simp only[an]at i;obtain⟨c,j⟩:=i;have k:f.name ≠ "_" := by
   have:=c;unfold i_ at this;exact F1
  have l:g.name ≠ "_" := by
   have:=j;unfold i_ at this;exact F1
  simp only[Op.eqFields,Ϙ k,Ϙ l,ax];rw[jZ c (v:=.int k1 a) rfl];simp only[aw];rw[jZ c (v:=.int k1 a') rfl];simp only[aw];rw[uG c];simp only[aw];by_cases m:a=a'
  ·subst m;simp only[BEq.rfl,av,aq,ϟ,Ϟ,Bool.true_and,ax];rw[jZ j (v:=.int k2 b) rfl];simp only[aw];rw[jZ j (v:=.int k2 b') rfl];simp only[aw];rw[uG j];simp only[aw];by_cases r:b=b'
   ·subst r;simp
   ·simp[r]
  ·simp[m]
 ·cases i
def Nk{f:Field}(h:vq P f 0=true)x y z w:(part f.type #[x,y,z] f.offset).run P w=.ok (.agg #[x,y]) w:=by
 unfold vq at h;simp only[an]at h;have b:=ga h.1.1.1.2;have hs:zL P f.type=some 2:=϶ h.1.2
 have a:dw P f.type=some true:=϶ h.2
 unfold part;simp[qL a,b,fY hs,Result.andThen]
def SX{T:TypeId}(h:BA P T=true)(k1 k2 k3:IntKind)a b c a' b' c' w:
  (Op.equalIn 10000 T (.agg #[.int k1 a,.int k2 b,.int k3 c]) (.agg #[.int k1 a',.int k2 b',.int k3 c'])).run P w=.ok ((decide (a=a')&&decide (b=b'))&&decide (c=c')) w:=by
 unfold BA at h;simp only[an,au]at h;obtain⟨⟨⟨r,x⟩,z⟩,i⟩:=h;have y:P.underlying T=some (.struct (P.fieldsOf T)):=by
  unfold Program.fieldsOf;split at r
  ·rename_i fs hfs;simp[hfs]
  ·cases r
 rw[show(10000:Nat)=9999+1 from rfl,run_equalIn_agg w 9999 T _ _ y x];split at i
 ·rename_i f g hfg;rw[hfg];simp only[an]at i;obtain⟨d,j⟩:=i;have k:f.name ≠ "_" := by
   have:=d;unfold vq at this;simp only[an]at this;simpa using this.1.1.1.1
  have l:km P f.type=true:=by
   have:=d;unfold vq at this;simp only[an]at this;exact this.1.1.2
  have m:g.name ≠ "_" := by
   have:=j;unfold i_ at this;exact F1
  simp only[Op.eqFields,Ϙ k,Ϙ m,ax];rw[Nk d];simp only[aw];rw[Nk d];simp only[aw];rw[show(9999:Nat)=9997+2 from rfl,Pk l];simp only[aw];by_cases n:(decide (a=a')&&decide (b=b'))=true
  ·simp only[n,av,aq,ϟ,Bool.true_and,ax];rw[jZ j (v:=.int k3 c) rfl];simp only[aw];rw[jZ j (v:=.int k3 c') rfl];simp only[aw];rw[show(9997+2:Nat)=9998+1 from rfl,uG j];simp only[aw];by_cases u:c=c'
   ·subst u;simp
   ·simp[u]
  ·simp[n]
 ·cases i
def Gb{T:TypeId}{E cd i k1 k2 k3 a b c a' b' c' w}(h:execOp (ev E) (zv cd i)=aY (do eqGuard .neq T (.tmp 0) (.tmp 0) (.agg #[.int k1 a,.int k2 b,.int k3 c]) (.agg #[.int k1 a',.int k2 b',.int k3 c']);binOp .neq T (.agg #[.int k1 a,.int k2 b,.int k3 c]) (.agg #[.int k1 a',.int k2 b',.int k3 c'])))(hT:BA P T=true):(execOp (ev E) (zv cd i)).run P w=.ok (.value (.bool (!((decide (a=a')&&decide (b=b'))&&decide (c=c'))))) w:=by
 rw[h];refine zD ?_;have hm:P.eqGuardType P.depth T=false:=by unfold BA at hT;simp only[an,au]at hT;exact hT.1.2
 rw[ax,run_eqGuard_agg _ _ _ _ _ _ _ hm];simp only[aw];rw[run_neq_struct,SX hT];rfl
end
def eL{a b:Type}[DecidableEq a](m:List (a×b))(k:a):List (a×b):=m.filter (λp=>!decide (p.1=k))
def zyT{d e:Type}[DecidableEq d]{m:List (d×e)}{x:d}{y:e}{j}(hnd:m.Pairwise (λp q=>p.1≠q.1))(hj:m[j]?=some (x,y)):eL m x=m.eraseIdx j:=by
 unfold eL
 induction m generalizing j with
 | nil=>simp at hj
 | cons q m ih=>
  obtain⟨b,c⟩:=fm.1 hnd;cases j with
  | zero=>
   simp at hj;subst hj;rw[List.filter_cons,ϙ si,List.eraseIdx_cons_zero];exact bz.2 λp hp=>by simpa using(b p hp).symm
  | succ j=>
   simp at hj;have a:q.1≠x:=b (x,y)<|fe hj;rw[List.filter_cons,Ϙ (by simpa using a),List.eraseIdx_cons_succ,ih c hj]
section
variable {o q:Type} {kt:KT o} {t:Ty q} {s:aN} {g g':K} {b:Nat} {m:List (o×q)} [DecidableEq o]
def Rw{x:o}(h:cW m x=false):eL m x=m:=by
 unfold eL;refine bz.2 λp hp=>?_;unfold cW at h;rw[List.any_eq_false]at h;simpa using h p hp
def Si{P:Program}{T kd e ty:TypeId}{x:o}(h:Mp kt t s g b m)(hT:io P T=some (kd,e))(hk:KeyOk P kd kt)[Fb](C:Cx)(d:Nat):
  ∃g',(Builtin.delete_ #[T,kd] ty #[.map (some b),kt.enc x]).run P (W C g d)=.ok (.tuple #[]) (W C g' d)/\Step [b] g g'/\g.H.size=g'.H.size/\Mp kt t s g' b (eL m x):=by
 obtain⟨k,c,A,hsz,y,z,r⟩:=h.obj;have w:=rc C g d b A P;have H:∀(a:Array MapEntry),a.size=(eL m x).length->(∀g':K,Step [b] g g'->∀(i:Nat)(p:o×q),(eL m x)[i]?=some p->∃e,a[i]?=some e/\e.key=kt.enc p.1/\t.own g' [e.val] p.2)->
   ((a.toList.map (·.born)).Pairwise (· < ·)/\∀e∈a.toList,e.born<c)->
   Step [b] g (g.setO b<|.map a c)/\g.H.size=(g.setO b<|.map a c).H.size/\Mp kt t s (g.setO b<|.map a c) b (eL m x):=by
  intro a J I M;have v:Step [b] g (g.setO b<|.map a c):=qK h.fr;exact⟨v,D5,⟨a,c,by simp[K.setO,h.lt],J,I _ v,M⟩,List.Pairwise.filter _ h.nd,h.fr,h.tag,h.ge⟩
 rcases Ch h hk x A (W C g d)with⟨L,G,F⟩ |⟨j,en,y',g0,L,G,F,g4,g5,g6⟩
 ·have n:=Rw G;refine⟨g.setO b<|.map k c,?_,H _ ?_ ?_ ⟨z,r⟩⟩
  ·unfold Builtin.delete_;simp[zw<|kP hT,w,hk.check,F,BW C g d b _ A P]
  ·rw[n];exact hsz
  ·intro g' hs i p hp;rw[n]at hp;obtain⟨e,l,f,E⟩:=y i p hp;exact⟨e,l,f,t.step hs E⟩
 ·have hlt:j<k.size:=(ae.1 F).1;have n:eL m x=m.eraseIdx j:=zyT h.nd g0;have el:(k.eraseIdxIfInBounds j).toList=k.toList.eraseIdx j:=by
   unfold Array.eraseIdxIfInBounds;rw[dif_pos hlt,Array.toList_eraseIdx]
  refine⟨g.setO b<|.map (k.eraseIdxIfInBounds j) c,?_,H _ ?_ ?_ ⟨?_,?_⟩⟩
  ·unfold Builtin.delete_;simp[zw<|kP hT,w,hk.check,g6,BW C g d b _ A P]
  ·rw[n,←am,el,List.length_eraseIdx,List.length_eraseIdx,am,hsz]
  ·intro g' hs i p hp;rw[n]at hp;rw[List.getElem?_eraseIdx]at hp;have key:∀B,m[B]?=some p->∃e:MapEntry,k[B]?=some e/\e.key=kt.enc p.1/\t.own g' [e.val] p.2:=λB D=>by
    obtain⟨e,l,f,E⟩:=y B p D;exact⟨e,l,f,t.step hs E⟩
   rw[←aj,el,List.getElem?_eraseIdx];by_cases u:i<j
   ·rw[Ϙ u]at hp ⊢;rw[aj];exact key i hp
   ·rw[ϙ u]at hp ⊢;rw[aj];exact key (i+1) hp
  ·rw[el];exact z.sublist<|(List.eraseIdx_sublist _ _).map _
  ·intro e l;rw[el]at l;exact r e<|List.mem_of_mem_eraseIdx l
end
structure It{c d:Type}(f:aN)(a:K)(r b:Nat)(m:List (c×d))(done:List c)(cur:Option (c×d)):Prop where
 obj:∃(es:Array MapEntry)(clock since:Nat)(seen:Array Nat)(c0:Nat),a.H[b]?=some (.map es clock)/\a.H[r]?=some (.mapIter (some b) since seen c0)/\(∀e∈es.toList,e.born<since)/\since<=c0/\since<=clock/\
  (∀(i:Nat)(p:c×d)(e:MapEntry),m[i]?=some p->es[i]?=some e->(seen.contains e.born=true↔p.1∈done))/\
  (∀p,cur=some p->∃(i:Nat)(e:MapEntry)(seen':Array Nat),m[i]?=some p/\es[i]?=some e/\seen=seen'.push e.born/\c0=clock)
 fr:a.fr r=0
 tag:a.tag r=f
 ge:f.1<=r
section
variable {α β:Type} {kt:KT α} {t:Ty β} {τ τ':aN} {g g':K} {b r:Nat} {m:List (α×β)} {done:List α} {cur:Option (α×β)}
def It.lt(h:It τ g r b m done cur):r<g.H.size:=by
 obtain⟨_,_,_,_,_,_,a,_⟩:=h.obj;exact(ae.1 a).1
def It.o(h:It τ g r b m done cur):dR τ g r:=I6
def It.ltb(h:It τ g r b m done cur):b<g.H.size:=by
 obtain⟨_,_,_,_,_,a,_⟩:=h.obj;exact(ae.1 a).1
def It.step{M}(s:Step M g g')(hr:r∉M)(hb:b∉M)(h:It τ g r b m done cur):It τ g' r b m done cur:=by
 obtain⟨j,d,a,c,l,i,f,k⟩:=h.obj;exact⟨⟨j,d,a,c,l,(s.2.1 b h.ltb hb).1.trans i,(s.2.1 r h.lt hr).1.trans f,k⟩,(s.2.1 r h.lt hr).2.1.trans h.fr,(s.2.1 r h.lt hr).2.2.trans h.tag,h.ge⟩
variable {P:Program}
def Qj{T kd e:TypeId}(h:Mp kt t τ g b m)(hτ:τ'.1<=g.H.size)(hT:io P T=some (kd,e))[Fb](C:Cx)d:
  ∃g',(Instr.range T (.map (some b))).run P (W C g d)=.ok (.pointer (some ⟨g.H.size,0,none⟩)) (W C g' d)/\Step [] g g'/\It τ' g' g.H.size b m [] none:=by
 obtain⟨n,a,j,hsz,k,l,c⟩:=h.obj;have f:=rc C g d b j P;refine⟨g.push (.mapIter (some b) a #[] a) 0 τ',?_,fZ _ _ _ _,⟨⟨n,a,a,#[],a,?_,x7,c,gd _,gd _,λi p e _ _=>by simp,λp hp=>by cases hp⟩,x7,x7,hτ⟩⟩
 ·unfold Instr.range;simp only[ax,zw<|kP hT,aw,f];rfl
 ·have hlt:=h.lt;simp only[K.push];rw[Array.getElem?_push,ϙ om];exact j
def Qq{ty:TypeId}(h:Mp kt t τ g b m)(hi:It τ' g r b m done cur)(hrb:r≠b)[Fb](C:Cx)d:
  ((∀p∈m,p.1∈done)/\(Instr.next (.pointer (some ⟨r,0,none⟩)) false ty).run P (W C g d)=.ok (.tuple #[.bool false]) (W C g d)) \/
  ∃(p:α×β)(v:Value)(g':K)(d':Nat),p∈m/\p.1∉done/\t.own g' [v] p.2/\(Instr.next (.pointer (some ⟨r,0,none⟩)) false ty).run P (W C g d)=.ok (.tuple #[.bool true,kt.enc p.1,v]) (W C g' d')/\
   Step [r] g g'/\g.H.size=g'.H.size/\It τ' g' r b m (p.1::done) (some p):=by
 obtain⟨y,S,Y,hsz,T,a2,a5⟩:=h.obj;obtain⟨a9,b3,c,a,c0,z,hr,E,a3,D,l,_⟩:=hi.obj;rw[Y]at z;injection z with z
 injection z with e1 e2
 subst e1;subst e2;have M:∀e∈y.toList,∃(i:Nat)(p:α×β),m[i]?=some p/\y[i]?=some e/\e.key=kt.enc p.1/\t.own g [e.val] p.2:=by
  intro e n;obtain⟨i,k⟩:=cz n;rw[aj]at k;have hlt:i<m.length:=by rw[←hsz];exact(ae.1 k).1
  obtain⟨F,f,a0,ho⟩:=T i m[i] (by simp[hlt]);rw[k]at f;injection f with f
  subst f;exact⟨i,m[i],by simp[hlt],k,a0,ho⟩
 rcases run_next_at (P:=P) (W C g d) ty r b c c0 a y S hr Y E a3 with⟨h0,x⟩ |⟨e,n,w1,hal,x⟩
 ·refine .inl ⟨λp hp=>?_,x⟩;obtain⟨i,k⟩:=cz hp;obtain⟨e,n,_,_⟩:=T i p k;refine(l i p e k n).1 ?_;by_cases hc:a.contains e.born=true
  ·exact hc
  ·exfalso;have:e∈leftOf y a:=by
    unfold leftOf;rw[Array.mem_filter];exact⟨Array.mem_of_getElem? n,϶ hc⟩
   have:=Array.size_pos_of_mem this;omega
 ·obtain⟨Z,B⟩:=mem_left n;obtain⟨i,p,w,A,hk,ho⟩:=M e Z;have O:Step [r] g (g.setO r<|.mapIter (some b) c (a.push e.born) S):=qK hi.fr;refine .inr ⟨p,e.val,g.setO r<|.mapIter (some b) c (a.push e.born) S,w1.drawn - C.base,fe w,λhd=>?_,t.step O ho,?_,O,D5,⟨⟨y,S,c,a.push e.born,S,?_,by simp[K.setO,hi.lt],E,D,D,?_,?_⟩,?_,?_,hi.ge⟩⟩
  ·rw[(l i p e w A).2 hd]at B;cases B
  ·rw[x,hk];congr 1;rcases hal with rfl | rfl
   ·simp[ChangeMaps.setBlock,W,K.setO]
   ·simp[ChangeMaps.setBlock,W,K.setO,World.drew];omega
  ·simp only[K.setO];rw[ag (λe=>hrb e)];exact Y
  ·intro j q F H f;have X:(a.push e.born).contains F.born=(a.contains F.born||(F.born == e.born)):=by
    rw[Array.contains_push]
   rw[X,Bool.or_eq_true,ey,l j q F H f];have U:j<y.size:=(ae.1 f).1;have V:i<y.size:=(ae.1 A).1;have I:y[j]=F:=(ae.1 f).2;have L:y[i]=e:=(ae.1 A).2;have N:j<m.length:=(cv.1 H).1;have R:i<m.length:=(cv.1 w).1;have J:m[j]=q:=(cv.1 H).2;have G:m[i]=p:=(cv.1 w).2;have h1:F.born=e.born↔i=j:=by
    constructor
    ·intro b0;have u:=fo.1 a2;rcases gm i j with hlt | n | hlt
     ·have:=u i j (϶ V) (϶ U) hlt;exact V1
     ·exact n
     ·have:=u j i (϶ U) (϶ V) hlt;exact V1
    ·intro n;subst n;rw[←I,←L]
   have h2:q.1=p.1↔i=j:=by
    constructor
    ·intro Q;have u:=fo.1 h.nd;rcases gm i j with hlt | n | hlt
     ·have:=u i j R N hlt;rw[G,J]at this;exact x4 Q.symm this
     ·exact n
     ·have:=u j i N R hlt;rw[G,J]at this;exact x4 Q this
    ·intro n;subst n;rw[←J,←G]
   have h3:((F.born == e.born)=true)↔q.1=p.1:=by rw[h2,←h1];simp
   rw[h3];exact or_comm
  ·intro q H;injection H with H
   subst H;exact⟨i,e,a,w,A,rfl,rfl⟩
  ·exact hi.fr
  ·exact hi.tag
def Qk{p:α×β}(h:Mp kt t τ g b m)(hi:It τ' g r b m done (some p))[Fb](C:Cx)d:
  ∃v,t.own g [v] p.2/\(Instr.entry (.pointer (some ⟨r,0,none⟩))).run P (W C g d)=.ok (.tuple #[kt.enc p.1,v]) (W C g d):=by
 obtain⟨E,Q,B,hsz,x,y,F⟩:=h.obj;obtain⟨H,L,f,A,N,c,J,D,M,z,w,l⟩:=hi.obj;rw[B]at c;injection c with c
 injection c with e1 e2
 subst e1;subst e2;obtain⟨i,e,j,u,k,rfl,rfl⟩:=l p rfl;obtain⟨O,a,G,I⟩:=x i p u;rw[k]at a;injection a with a
 subst a;refine⟨e.val,I,?_⟩;have n:e∈E.toList:=by
  rw[←aj]at k;exact fe k
 rw[run_entry_at (P:=P) (W C g d) r b f j E N e J B n<|y.imp λh=>Em h,G]
end
section
variable [Fc] [Fb] {P:Program} {n:Nat} {c:Code} {i k:Nat} {Q:bH} {E:aK} {l:K} {q s:Type} {kt:KT q} {t:Ty s} {o o':aN} {b r:Nat} {m:List (q×s)} {done:List q} {cur:Option (q×s)}
def Sw(R:K->Prop)(h:st c i n E none=true)(hr:∀C b,∃v l' d1,(execOp (ev E) (zv c i)).run P (W C l b)=.ok (.value v) (W C l' d1)/\R l')(hk:∀l',R l'->aS P n c (i+1) Q E l'):aS P n c i Q E l:=by
 refine mo h (λC b a d=>?_);obtain⟨v,l',d1,j,f⟩:=hr C b;obtain⟨_,_,k,_⟩:=jb h;refine kl (by rw[d.eval];exact j) ?_;rw[k];exact hk l' f C d1 _ d
def Jl[DecidableEq q](kt:KT q){x:q}{T kd e ty}(hm:Mp kt t o l b m)(hk:∀l',Step [b] l l'->l.H.size=l'.H.size->Mp kt t o l' b (eL m x)->aS P n c (i+1) Q E l')(hkd:KeyOk P kd kt)(hT:io P T=some (kd,e):=by kernel_rfl)(h:st c i n E none=true:=by kernel_rfl)(ho:execOp (ev E) (zv c i)=aY (Builtin.delete_ #[T,kd] ty #[.map (some b),kt.enc x]):=by kernel_rfl):aS P n c i Q E l:=by
 refine Sw (λl'=>Step [b] l l'/\l.H.size=l'.H.size/\Mp kt t o l' b (eL m x)) h (λC j=>?_) ?_
 ·obtain⟨l',k,d,a,f⟩:=Si hm hT hkd (x:=x) (ty:=ty) C j;exact⟨_,l',j,x8 k,d,a,f⟩
 ·rintro l' ⟨d,a,f⟩;exact hk l' d a f
def Do{d T kd e}(o':aN)(hτ:o'.1<=l.H.size)(hm:Mp kt t o l b m)(hk:∀r l',Step [] l l'->l.H.size<=r->It o' l' r b m [] none->aS P n c (i+1) Q (aR E d (.pointer (some ⟨r,0,none⟩))) l')(hT:io P T=some (kd,e):=by kernel_rfl)(h:st c i n E (some d)=true:=by kernel_rfl)(ho:execOp (ev E) (zv c i)=aY (Instr.range T (.map (some b))):=by kernel_rfl):aS P n c i Q E l:=by
 refine jF (λv l'=>v=.pointer (some ⟨l.H.size,0,none⟩)/\Step [] l l'/\It o' l' l.H.size b m [] none) h (λC j=>?_) ?_
 ·obtain⟨l',k,a,f⟩:=Qj hm hτ hT C j;exact⟨_,l',j,x8 k,rfl,a,f⟩
 ·rintro v l' ⟨rfl,a,f⟩;exact hk _ l' a (gd _) f
def CM{d ty}(hm:Mp kt t o l b m)(hi:It o' l r b m done cur)(hrb:r≠b)(h0:(∀p∈m,p.1∈done)->aS P n c (i+1) Q (aR E d (.tuple #[.bool false])) l)(h1:∀p v l',p∈m->p.1∉done->t.own l' [v] p.2->Step [r] l l'->l.H.size=l'.H.size->It o' l' r b m (p.1::done) (some p)->aS P n c (i+1) Q (aR E d (.tuple #[.bool true,kt.enc p.1,v])) l')(h:st c i n E (some d)=true:=by kernel_rfl)(ho:execOp (ev E) (zv c i)=aY (Instr.next (.pointer (some ⟨r,0,none⟩)) false ty):=by kernel_rfl):aS P n c i Q E l:=by
 refine jF (λv l'=>(v=.tuple #[.bool false]/\l=l'/\∀p∈m,p.1∈done) \/
  ∃p u,v=.tuple #[.bool true,kt.enc p.1,u]/\p∈m/\p.1∉done/\t.own l' [u] p.2/\Step [r] l l'/\l.H.size=l'.H.size/\It o' l' r b m (p.1::done) (some p)) h (λC j=>?_) ?_
 ·rcases Qq (ty:=ty) (P:=P) hm hi hrb C j with⟨f,a⟩ |⟨p,v,l',d',f,a,g3,g4,g5,g6,g7⟩
  ·exact⟨_,l,j,x8 a,.inl ⟨rfl,rfl,f⟩⟩
  ·exact⟨_,l',d',x8 g4,.inr ⟨p,v,rfl,f,a,g3,g5,g6,g7⟩⟩
 ·rintro v l' (⟨rfl,rfl,g⟩ |⟨p,u,rfl,f,a,g3,g4,g5,g6⟩)
  ·exact h0 g
  ·exact h1 p u l' f a g3 g4 g5 g6
def Dp{p:q×s}{d}(hm:Mp kt t o l b m)(hi:It o' l r b m done (some p))(hk:∀v,t.own l [v] p.2->aS P n c (i+1) Q (aR E d (.tuple #[kt.enc p.1,v])) l)(h:st c i n E (some d)=true:=by kernel_rfl)(ho:execOp (ev E) (zv c i)=aY (Instr.entry (.pointer (some ⟨r,0,none⟩))):=by kernel_rfl):aS P n c i Q E l:=by
 refine jF (λv l'=>l=l'/\∃u,v=.tuple #[kt.enc p.1,u]/\t.own l [u] p.2) h (λC f=>?_) ?_
 ·obtain⟨u,a,j⟩:=Qk (P:=P) hm hi C f;exact⟨_,l,f,x8 j,rfl,u,rfl,a⟩
 ·rintro v l' ⟨rfl,u,rfl,a⟩;exact hk u a
def Vx[DecidableEq q](kt:KT q){x:q}{m:List (q×Int)}{d T kd e}(hm:Mp kt tI64 o l b m)(hk:bU P n c k (i+1) Q (aR E d (.tuple #[.int .i64 ((b_ m x).getD 0),.bool (cW m x)])) l)(hkd:KeyOk P kd kt)(hT:io P T=some (kd,e):=by kernel_rfl)(h:dst c k i E d=true:=by kernel_rfl)(ho:execOp (ev E) (zv c i)=aY (Instr.lookup T (.map (some b)) (kt.enc x) true):=by kernel_rfl)(hz:eX P e=some (.int .i64 0):=by kernel_rfl):bU P n c k i Q E l:=by
 refine lk _ h (λC f=>?_) hk;obtain⟨v,a,_,j⟩:=FR (y0:=(0:Int)) hm hT hkd hz ⟨rfl,E5⟩ (x:=x) C f;obtain⟨rfl,_⟩:=BO a;rw[ho];exact zD j
def SE[DecidableEq q]{m:List (q×Int)}{x:q}(hm:Mp kt tI64 o l b m):aA ((b_ m x).getD 0):=by
 cases hg:b_ m x with
 | none=>show aA 0;unfold aA;omega
 | some y=>
  show aA y;unfold b_ at hg;obtain⟨p,hp,rfl⟩:=ia.1 hg;obtain⟨j,c⟩:=cz<|fd hp;obtain⟨h,f,_,_,d,_⟩:=hm.obj;obtain⟨e,_,_,a⟩:=d j p c;exact(BO a).2
end
def pd{b a:Type}(m:List (b×a)):Option Int:=if m.length<=9223372036854775807 then some (m.length:Int)else none
def Rt{b a:Type}{m:List (b×a)}{r}(h:pd m=some r):(m.length:Int)=r/\aA r:=by
 unfold pd at h;split at h
 ·obtain rfl:=A5 h;refine⟨rfl,?_⟩;unfold aA;omega
 ·cases h
section
variable [Fc] [Fb] {P:Program} {n:Nat} {c:Code} {i:Nat} {Q:bH} {E:aK} {g:K} {q o:Type} {kt:KT q} {t:Ty o} {τ τ':aN} {b:Nat} {m:List (q×o)}
def UK{d T k e r}(h0:Mp kt t τ g b m)(hx:pd m=some r)(hk:aS P n c (i+1) Q (aR E d (.int .i64 r)) g)(h:st c i n E (some d)=true:=by kernel_rfl)(ho:execOp (ev E) (zv c i)=aY (Builtin.len_ #[T] 3 #[.map (some b)]):=by kernel_rfl)(hT:io P T=some (k,e):=by kernel_rfl):aS P n c i Q E g:=by
 obtain⟨f,_⟩:=Rt hx;subst f;obtain⟨u,l,j,hsz,_⟩:=h0.obj;refine jc _ h (λC a=>?_) hk;rw[ho];refine zD ?_;unfold Builtin.len_;simp[zw<|kP hT,rc C g a b j P,goInt,hsz]
omit [Fc] [Fb] in
def Mp.retag{τ}(h:Mp kt t τ' g b m)(hle:τ.1<=τ'.1):Mp kt t τ (g.retag [b] τ) b m/\Step [b] g (g.retag [b] τ):=by
 have a:Step [b] g (g.retag [b] τ):=by
  refine⟨gd _,λx _ c=>⟨rfl,rfl,?_⟩,λx _=>⟨gd _,λ_ _=>rfl⟩,λx _ d=>⟨?_,rfl⟩⟩
  ·show(if x∈[b]then τ else g.tag x)=g.tag x;rw[ϙ c]
  ·show(if x∈[b]then τ else g.tag x)=g.tag x;refine ϙ λc=>?_;have:=fh.1 c;subst this;rw[h.fr]at d;omega
 refine⟨?_,a⟩;obtain⟨v,j,u,n,w,r⟩:=h.obj;refine⟨⟨v,j,u,n,λi p hp=>?_,r⟩,h.nd,h.fr,?_,gg hle h.ge⟩
 ·obtain⟨e,l,f,k⟩:=w i p hp;exact⟨e,l,f,t.step a k⟩
 ·show(if b∈[b]then τ else g.tag b)=τ;rw[Ϙ si]
end
end Go.Lf
namespace Go.Lf
open Go Go.Proofs Go.Sort Go.Shelf
def Fn.same[Fb]{args:Array Value}{R:Value->K->Prop}{P f a v}(h:∀w,Calls P f args w λe w'=>e=.returned v/\w'=w)(hR:R v a):Fn P f args a R:=λC d=>(h<|W C a d).mono λ_ _ ⟨he,hw⟩=>⟨v,a,d,he,hw,hR⟩
structure EncOk{a:Type}(t:Ty a)(s:Nat)(enc:a->List Value)(ok:a->Prop):Prop where
 size:t.size=s
 pos:0<s
 len:∀x,(enc x).length=s
 one:∀x,∀v∈enc x,v.oneCell'=true
 own:∀b cs x,t.own b cs x↔cs=enc x/\ok x
section
variable {P:Program} {ρ:Ren} {p:Type} [Inhabited p] {t:Ty p} {s:Nat} {enc:p->List Value} {ok:p->Prop}
def Ov(hs:0<s)(hk:∀x,(enc x).length=s):∀(l:List p)i,i<l.length*s->(l.flatMap enc)[i]?=some ((enc (l[i / s]!))[i % s]!)
 |[],i,h=>x6 h
 | x::l,i,h=>by
  rw[ce];by_cases hi:i<s
  ·rw[ci (by rw[hk];exact hi),Nat.div_eq_of_lt hi,Nat.mod_eq_of_lt hi];have b:i<(enc x).length:=by rw[hk];exact hi
   simp[b]
  ·have a:s<=i:=by omega
   have e:i / s=(i - s) / s+1:=Nat.div_eq_sub_div hs a;have c:i % s=(i - s) % s:=Nat.mod_eq_sub_mod a;rw[cj (by rw[hk];exact a),hk,Ov hs hk l (i - s) (by rw[du,gu]at h;omega),e,c];simp
def Gn(hk:∀x,(enc x).length=s)(l:List p):(l.flatMap enc).length=l.length*s:=by
 induction l with
 | nil=>simp
 | cons x l ih=>rw[ce,dt,ih,hk,du,gu];omega
def Ox(hs:0<s)(hk:∀x,(enc x).length=s)(l:List p):flatK enc s l.toArray=(l.flatMap enc).toArray:=by
 apply Array.toList_inj.1;apply bp;intro i;show(flatK enc s l.toArray).toList[i]?=(l.flatMap enc)[i]?;by_cases hi:i<l.length*s
 ·rw[Ov hs hk l i hi];unfold flatK;rw[Array.toList_map,Array.toList_range,cw,df (by simpa using hi)];simp
 ·rw[co (by rw[am,size_flatK];simpa using hi),co (by rw[Gn hk];omega)]
def Oc(h:EncOk t s enc ok){g}:∀{l:List p} {xs:List Value},bA t g xs l->xs=l.flatMap enc/\∀x∈l,ok x
 |[],xs,a=>⟨a,λx m=>by cases m⟩
 | x::l,xs,a=>by
  obtain⟨c,f,e,d,a⟩:=a;obtain⟨rfl,j⟩:=(h.own g c x).1 d;obtain⟨i,k⟩:=Oc h a;refine⟨by rw[e,i];rfl,λy b=>?_⟩;rcases ey.1 b with rfl | b
  ·exact j
  ·exact k y b
def Ou(h:EncOk t s enc ok){b}:∀{l:List p},(∀x∈l,ok x)->bA t b (l.flatMap enc) l
 |[],_=>rfl
 | x::l,hl=>⟨enc x,_,rfl,(h.own b _ x).2 ⟨rfl,hl x si⟩,Ou h λy a=>hl y (by simp[a])⟩
def Ph(L:SlLaysF0.n6 P ρ)(z:EncOk t s enc ok)(aE:∀w,(isAgg (ρ.t 24)).run P w=.ok true w)(zE:∀w,(Go.sizeOf (ρ.t 24)).run P w=.ok s w){cf:p->p->Int}(hO:SWO (ltOf cf)){gf}(eg:∀args w,(callFunc gf args).run P w=.ok (.enter gf args) w)(hc:∀inst q(x y:p),@Fn inst P gf #[.agg (enc x).toArray,.agg (enc y).toArray] q (λv q'=>Step [] q q'/\v=.int .i64 (cf x y))){l:List p}{q τ a c eT}(hg:Gr t false τ q eT a c l)(hlen:l.length<=4611686018427387900):
  Fn P (ρ.f 6) #[.slice a l.length c,.func (.func gf) #[] #[]] q (λv q'=>Step (aD a c) q q'/\v=.tuple #[]/\Gr t false τ q' eT a c (pdq (ltOf cf) l.toArray 0 l.length (Lib.bitLen l.length) true true).toList):=by
 have hp:=V2 (ltOf cf);obtain⟨r,O⟩:∃r:Array p,r=pdq (ltOf cf) l.toArray 0 l.length (Lib.bitLen l.length) true true:=u3;rw[←O]at hp ⊢;have Q:r.size=l.length:=by have:=hp.1.1;simpa using this
 by_cases hl:0<l.length
 case neg=>
  have h0:l=[]:=bl om;have Z:r.toList=[]:=bl (by rw[am];omega);rw[Z];rw[h0]at hg ⊢;refine(Fn.same (f:=ρ.f 6) (v:=.tuple #[]) (R:=λv q'=>q=q'/\v=.tuple #[]) (λw=>AnyF.slices_SortFunc_none L a c _ w) ⟨rfl,rfl⟩).mono λv q' h=>?_;rw[show q'=q from h.1.symm];exact⟨u4,h.2,hg⟩
 rcases hg.body with⟨_,h⟩ |⟨g,cur,xs,rfl,hr,hH,h1,h2,h3,h4,h5,h6,h7⟩
 ·rw[h]at hl;cases hl
 obtain⟨hx,hI⟩:=Oc z hr;have D:g<q.H.size:=(ae.1 hH).1;have I:(l.flatMap enc).length=l.length*s:=Gn z.len l;have a8:c*s=cur.size:=by rw[h3,z.size]
 have c1:l.length*s<=c*s:=gq s h1;have a6:∀x∈r.toList,ok x:=by
  have N:=hp.1.2.2;intro x hx;refine hI x ?_;have h8:(r.extract 0 l.length).toList=r.toList:=by rw[←Q];simp
  have h9:(l.toArray.extract 0 l.length).toList=l:=by simp
  rw[h8,h9]at N;exact N.mem_iff.1 hx
 intro C d;have J:HoldsK enc s (W C q d) g 0 l.toArray:=by
  unfold HoldsK;rw[Ox z.pos z.len];intro j T;have a0:j<l.length*s:=by rw[fq,I]at T;exact T
  have a7:cur[j]?=(l.flatMap enc)[j]?:=by
   rw[←hx,←h4,z.size,dl,Ϙ a0];simp
  refine⟨?_,?_⟩
  ·rw[lm];unfold K.cell;rw[hH];simp only[gv];rw[a7];have:j<(l.flatMap enc).length:=by omega
   simp;rw[cn this];rfl
  ·unfold World.frozen? W;simp[hH]
 have G:CmpLays P gf #[] enc s cf g 0 l.toArray.size (W C q d):=by
  intro m os dk _ x y;generalize sortWorldK enc s (W C q d) g 0 m dk os=V;have h:=hc ⟨λ_=>true,0,rfl⟩ ⟨V.heap,λ_=>0,λ_=>(0,0)⟩ x y;refine Calls.mono (h (@Cx.mk ⟨λ_=>true,0,rfl⟩ V.os V.tape V.output V.drawn rfl) 0) ?_;rintro e w' ⟨v,q',d',z,Y,s,hv⟩;subst hv;refine⟨z,d',q'.H.extract V.heap.size q'.H.size,?_⟩;rw[Y];unfold W grow World.drewN;simp only[];congr 1;apply E7;intro b;rw[ab];by_cases i:b<V.heap.size
  ·rw[Ϙ i];exact(s.2.1 b i si).1
  ·rw[ϙ i,Array.getElem?_extract];split
   ·congr 1;omega
   ·rw[ϩ (by have:=s.1;simp only at this;omega)]
 refine(AnyQ.slices_SortFunc_eq L s aE zE enc z.len z.one cf hO gf #[] g 0 c l.toArray (W C q d) eg G J D so).mono ?_;rintro e w' ⟨X,n,os,Y⟩;have M:w'=sortWorldK enc s (W C q d) g 0 n r os:=by rw[O];simpa using Y
 have hF:flatK enc s r=(r.toList.flatMap enc).toArray:=by
  have:=Ox z.pos z.len r.toList;exact w8
 have B:r.toList.length=l.length:=by rw[am];exact Q
 have b8:(r.toList.flatMap enc).length=r.toList.length*s:=Gn z.len _;obtain⟨k,u⟩:∃k,k=putCells id 0 (flatK enc s r) cur:=u3;have A:w'.heap=q.H.modify g (onCells<|putCells id 0<|flatK enc s r)++os:=by rw[M];rfl
 have E:∀b,b<q.H.size->w'.heap[b]?=(q.H.modify g<|onCells<|putCells id 0<|flatK enc s r)[b]?:=λb i=>by rw[A,Array.getElem?_append_left (by simpa using i)]
 have F:∀b,b<q.H.size->b≠g->w'.heap[b]?=q.H[b]?:=λb i hn=>by rw[E b i,af,ϙ<|Ne.symm hn]
 have U:w'.heap[g]?=some (.cells k eT (0,0)):=by rw[E g D,af,Ϙ rfl,hH,u];rfl
 have H:q.fr g=0:=϶ h5
 have a2:k.size=cur.size:=by rw[u];unfold putCells;simp
 refine⟨_,⟨w'.heap,λb=>if b<q.H.size then q.fr b else 0,λb=>if b<q.H.size then q.tag b else(0,0)⟩,d+n,X,?_,?_,rfl,?_⟩
 ·rw[M];unfold W;show sortWorldK _ _ _ _ _ _ _ _={heap:=(sortWorldK _ _ _ _ _ _ _ _).heap,tape:=C.tape,drawn:=C.base+(d+n),os:=C.os,output:=C.output};rw[←ϻ];rfl
 ·have a1:∀b,b∉aD (some ⟨g,0,none⟩) c->b≠g:=λb i e=>i (by rw[e];exact E8);refine⟨by rw[A];simp,λb i hn=>⟨F b i<|a1 b hn,Ϙ i,Ϙ i⟩,λb i=>⟨Nat.le_of_eq (Ϙ i).symm,λo ho=>?_⟩,λb i hf=>⟨Ϙ i,?_⟩⟩
  ·have:b≠g:=λe=>by rw[e,H]at ho;cases ho
   unfold K.cell;rw[F b i this]
  ·have:b≠g:=λe=>by rw[e,H]at hf;cases hf
   unfold K.shp;rw[F b i this]
 ·refine⟨by rw[B];exact hg.most,.inr ⟨g,k,r.toList.flatMap enc,rfl,Ou z a6,U,by rw[B];exact h1,h2,by rw[a2];exact h3,?_,?_,(Ϙ D).trans h6,h7⟩⟩
  ·apply bp;intro j;rw[z.size,dl];split
   ·rename_i T;have a5:j<cur.size:=by rw[B]at T;omega
    have S:j<(r.toList.flatMap enc).length:=by omega
    rw[u,hF];unfold putCells;rw[aj,Array.getElem?_mapIdx,ac a5];simp;rw[Ϙ (by rw[←List.length_flatMap];exact S),cn S];rfl
   ·rw[co om]
  ·show(if g<q.H.size then q.fr g else 0)=_;rw[Ϙ D,H];simp
end
end Go.Lf
namespace Go.Lf
open Go
section
variable [Fb] {P:Program} {bJ:K->K->Prop} {c:Code} {i:Nat} {E:aK} {e:K} {R:Value->K->Prop}
def Gw{T:TypeId}(g:aN)(hτ:g.1<=e.H.size)(zs:List Value)(h:bV c i E=true)(ho:execOp (ev E) (zv c i)=aY (Instr.alloc T true (.tuple #[])))(hz:(eX P T).map Value.cells=some zs.toArray)(hk:∀b e',Step [] e e'->aI g e' b zs T->bJ e e'/\R (.pointer (some ⟨b,0,none⟩)) e'):bP P bJ c i E e R:=by
 obtain⟨z,d,a⟩:=ia.1 hz;obtain⟨k,j⟩:=hk e.H.size _ (fZ _ _ _ _)<|BU _ zs T _ hτ;refine Te h λC f=>⟨.pointer<|some ⟨e.H.size,0,none⟩,e.push (.cells zs.toArray T) 0 g,f,?_,k,j⟩;rw[ho];refine zD ?_;unfold Instr.alloc;simp only[ax,qA d,aw];unfold newVar newRow;rw[a];rfl
end
end Go.Lf
namespace Go.Lf
open Go Go.Proofs Go.Sort
section
variable {e:Type} [Inhabited e] {lt:e->e->Bool}
def eH(lt:e->e->Bool)(l:List e):List e:=(pdq lt l.toArray 0 l.length (Lib.bitLen l.length) true true).toList
def iZ(hO:SWO lt)(l:List e):(eH lt l).Perm l/\(eH lt l).Pairwise (λa b=>lt b a=false):=by
 unfold eH;have h:=V2 lt;obtain⟨r,w⟩:∃r:Array e,r=pdq lt l.toArray 0 l.length (Lib.bitLen l.length) true true:=u3;rw[←w]at h ⊢;obtain⟨⟨f,_,m⟩,v⟩:=h;have f:r.size=l.length:=϶ f
 constructor
 ·have n:(r.extract 0 l.length).toList=r.toList:=by rw[←f];simp
  have x:(l.toArray.extract 0 l.length).toList=l:=by simp
  rw[n,x]at m;exact m
 ·rw[fo];intro i j hi u k;have d:i<r.size:=϶ hi
  have c:j<r.size:=϶ u
  have:=v i j om k om;rw[getElem!_pos r i d,getElem!_pos r j c]at this;exact w8
def Tb(hO:SWO lt){l l':List e}(hp:l'.Perm l)(hs:l'.Pairwise (λa b=>lt b a=false))(ht:∀a b,a∈l->b∈l->lt a b=false->lt b a=false->a=b):eH lt l=l':=by
 obtain⟨c,h⟩:=iZ hO l;exact List.Perm.eq_of_pairwise (λa b f j i d=>ht a b (c.mem_iff.1 f) (hp.mem_iff.1 j) d i) h hs<|c.trans hp.symm
def Oe(hO:SWO lt){l l':List e}(hp:l.Perm l')(ht:∀a b,a∈l'->b∈l'->lt a b=false->lt b a=false->a=b):eH lt l=eH lt l':=((Tb hO ((iZ hO l).1.trans hp) (iZ hO l).2 ht)).symm
end
def iz{a b:Type}[DecidableEq a](m:List (a×b))(done:List a):List (a×b):=m.filter λq=>decide (q.1∈done)
def GL{g j:Type}[DecidableEq g]{m:List (g×j)}(hnd:m.Pairwise (λp q=>p.1≠q.1)){p:g×j}{done:List g}(hp:p∈m)(hd:p.1∉done):
  (iz m (p.1::done)).Perm (iz m done++[p]):=by
 unfold iz
 induction m with
 | nil=>cases hp
 | cons x m ih=>
  obtain⟨c,f⟩:=fm.1 hnd;rcases ey.1 hp with rfl | hp
  ·rw[bu si,br (by simpa using hd)];have e:(m.filter λq=>decide (q.1∈p.1::done))=m.filter λq=>decide (q.1∈done):=by
    refine Iw λy i=>?_;have:=c y i;simp[Ne.symm this]
   rw[e];exact(List.perm_append_singleton p _).symm
  ·have d:(x.1∈p.1::done)↔x.1∈done:=by
    have:=c p hp;simp[this]
   have a:=ih f hp;by_cases b:x.1∈done
   ·rw[bu (by simpa using d.2 b),bu (by simpa using b),ϰ];exact a.cons x
   ·rw[br (by rw[ϛ];exact λh=>b<|d.1 h),br (by simpa using b)];exact a
def HW{a b:Type}[DecidableEq a]{m:List (a×b)}{done:List a}(h:∀p∈m,p.1∈done):iz m done=m:=bz.2 λp hp=>by simpa using h p hp
def HV{a b:Type}[DecidableEq a](m:List (a×b)):iz m []=[]:=by unfold iz;simp
def Hc{a b:Type}[DecidableEq a](m:List (a×b))(done:List a):(iz m done).length<=m.length:=dx _ _
def nZ{a b:Type}[DecidableEq a](m:List (a×b))(done:List a):Nat:=m.length - (iz m done).length
def NY{c d:Type}[DecidableEq c]{m:List (c×d)}(hnd:m.Pairwise (λp q=>p.1≠q.1)){p:c×d}{done:List c}(hp:p∈m)(hd:p.1∉done):nZ m (p.1::done)+1=nZ m done:=by
 have a:=(GL hnd hp hd).length_eq;have b:=Hc m (p.1::done);unfold nZ;rw[dt,ee]at a;omega
def Oj{b c:Type}[DecidableEq b]{m:List (b×c)}{x:b}{y:c}:∀p∈bS m x y,p.1=x\/∃q∈m,q.1=p.1:=by
 intro p hp;unfold bS at hp;split at hp
 ·obtain⟨q,a,rfl⟩:=fc.1 hp;by_cases h:q.1=x
  ·rw[Ϙ h];exact .inl rfl
  ·rw[ϙ h];exact .inr ⟨q,a,rfl⟩
 ·rcases er.1 hp with h | h
  ·exact .inr ⟨p,h,rfl⟩
  ·rw[fh.1 h];exact .inl rfl
end Go.Lf
namespace Go.Lf
open Go
section
variable {o q:Type} {kt:KT o} {t:Ty q} {s:aN} {g:K} {b:Nat} {m:List (o×q)} [DecidableEq o]
def IJ{T kd e:TypeId}{x:o}{y:q}{P}(h:Mp kt t s g b m)(hT:io P T=some (kd,e))(hk:KeyOk P kd kt)(hg:b_ m x=some y):
  ∃v,t.own g [v] y/\∀[Fb] (C:Cx) (d:Nat),(Instr.lookup T (.map (some b)) (kt.enc x) false).run P (W C g d)=.ok v (W C g d):=by
 obtain⟨F,E,z,hsz,n,_⟩:=h.obj;obtain⟨p,hp,rfl⟩:=ia.1 hg;have a:p.1=x:=by simpa using List.find?_some hp
 obtain⟨j,w⟩:=cz<|fd hp;obtain⟨B,r,D,A⟩:=n j p w;refine⟨B.val,A,λ{_} C d=>?_⟩;have u:=rc C g d b z P;rcases Ch h hk x z (W C g d)with⟨l,_,_⟩ |⟨j',en',y',g0,l,g2,g3,g4,g5,g6⟩
 ·rw[hg]at l;cases l
 ·have k:j'=j:=by
   have i:=(cv.1 g0);have f:=(cv.1 w);have c:=fo.1 h.nd;rcases gm j' j with hlt | r | hlt
   ·have:=c j' j i.1 f.1 hlt;rw[i.2,f.2]at this;exact x4 a.symm this
   ·exact r
   ·have:=c j j' f.1 i.1 hlt;rw[i.2,f.2]at this;exact x4 a this
  subst k;rw[r]at g3;injection g3 with g3
  subst g3;unfold Instr.lookup;simp[zw<|kP hT,u,hk.check,g6]
variable [Fc] [Fb] {P:Program} {n:Nat} {c:Code} {i k:Nat} {Q:bH} {E:aK}
def Vw{kd e:Nat}{x:o}{d T}v(hr:∀[Fb] (C:Cx) (d:Nat),(Instr.lookup T (.map (some b)) (kt.enc x) false).run P (W C g d)=.ok v (W C g d))(hk:bU P n c k (i+1) Q (aR E d v) g)(h:dst c k i E d=true:=by kernel_rfl)(ho:execOp (ev E) (zv c i)=aY (Instr.lookup T (.map (some b)) (kt.enc x) false):=by kernel_rfl):bU P n c k i Q E g:=by
 refine lk v h (λC a=>?_) hk;rw[ho];exact zD<|hr C a
end
end Go.Lf
namespace Go.Lf
open Go Go.Proofs
section
variable [Fc] [Fb] {P:Program} {n:Nat} {c:Code} {i:Nat} {Q:bH} {E:aK} {b:K}
abbrev vl{b:Type}(a:Option Addr)(l:List b)(c:Nat):Value:=.slice a l.length c
abbrev tt:Value:=.bool true
abbrev ff:Value:=.bool false
def iK n(h : -9223372036854775808<=n/\n<=9223372036854775807:=by decide):aA n:=h
abbrev aJ(E:aK)(L:List (Nat×Value)):aK:=L.foldl (λF p=>aR F p.1 p.2) E
def eY{E:aK}{L:List (Nat×Value)}(h:(L.map λp=>E p.1)=L.map Prod.snd:=by kernel_rfl):E=aJ E L:=by
 have key:∀(L:List (Nat×Value)),(L.map λp=>E p.1)=L.map Prod.snd->aJ E L=E:=by
  intro L
  induction L with
  | nil=>intro _;rfl
  | cons p L ih=>
   intro h;rw[ep,ep]at h;have a:=(List.cons.inj h).1;have e:aR E p.1 p.2=E:=(zb (t:=p.1) rfl a).symm;show aJ (aR E p.1 p.2) L=E;rw[e];exact ih (List.cons.inj h).2
 exact(key L h).symm
def mD(P:Program)(n:Nat)(c:Code):Nat->aK->List (Nat×Value)->Prop
 | _,_,[]=>True
 | i,E,p::L=>st c i n E (some p.1)=true/\(∀w,(execOp (ev E) (zv c i)).run P w=.ok (.value p.2) w)/\mD P n c (i+1) (aR E p.1 p.2) L
def HI:mD P n c i E []:=trivial
def HH{d v L}(h:st c i n E (some d)=true)(hr:∀w,(execOp (ev E) (zv c i)).run P w=.ok (.value v) w)(hl:mD P n c (i+1) (aR E d v) L):mD P n c i E ((d,v)::L):=⟨h,hr,hl⟩
def CL:∀(L:List (Nat×Value))i E,aS P n c (i+L.length) Q (aJ E L) b->mD P n c i E L->aS P n c i Q E b
 |[],_,_,hk,_=>hk
 | p::L,i,E,hk,h=>by
  refine op p.1 p.2 (CL L (i+1) (aR E p.1 p.2) ?_ h.2.2) h.1 h.2.1;rw[show i+1+L.length=i+(p::L).length by rw[du];omega];exact hk
def ol(L:List (Nat×Value))(hk:aS P n c (i+L.length) Q (aJ E L) b)(h:mD P n c i E L:=by repeat (first | exact HI | refine HH (by kernel_rfl) (by intro _;kernel_rfl) ?_)):aS P n c i Q E b:=CL L i E hk h
def Pq:Os:=by constructor<;>first | exact #[] | exact 0 | exact none | exact false | exact[] | exact ByteArray.empty | exact default
def w0:World:=⟨#[],λ_ _=>0,0,Pq,#[]⟩
def jL(P:Program)(c:Code)(i:Nat)(E:aK):Value:=match(execOp (ev E) (zv c i)).run P w0 with
 | .ok (.value v) _=>v
 | _=>undef
def kz(P:Program)(n:Nat)(c:Code):Nat->Nat->aK->Prop
 | 0,_,_=>True
 | k+1,i,E=>(st c i n E (some (dstOf c i))=true/\∀w,(execOp (ev E) (zv c i)).run P w=.ok (.value (jL P c i E)) w)/\kz P n c k (i+1) (aR E (dstOf c i) (jL P c i E))
def lI(P:Program)(c:Code):Nat->Nat->aK->aK
 | 0,_,E=>E
 | k+1,i,E=>lI P c k (i+1) (aR E (dstOf c i) (jL P c i E))
def vC:kz P n c 0 i E:=trivial
def vB{k}(h:st c i n E (some (dstOf c i))=true)(hr:∀w,(execOp (ev E) (zv c i)).run P w=.ok (.value (jL P c i E)) w)(hl:kz P n c k (i+1) (aR E (dstOf c i) (jL P c i E))):kz P n c (k+1) i E:=⟨⟨h,hr⟩,hl⟩
def HG:∀k i E,aS P n c (i+k) Q (lI P c k i E) b->kz P n c k i E->aS P n c i Q E b
 | 0,_,_,hk,_=>hk
 | k+1,i,E,hk,h=>by
  refine op (dstOf c i) (jL P c i E) (HG k (i+1) _ ?_ h.2) h.1.1 h.1.2;rw[show i+1+k=i+(k+1) by omega];exact hk
def od k(hk:aS P n c (i+k) Q (lI P c k i E) b)(h:kz P n c k i E:=by repeat (first | exact vC | refine vB (by kernel_rfl) (by intro _;kernel_rfl) ?_)):aS P n c i Q E b:=HG k i E hk h
def num:Nat->List Value->List (Nat×Value)
 | _,[]=>[]
 | d,v::L=>(d,v)::num (d+1) L
def oR(n:Nat)(c:Code):Nat->aK->List Nat->Prop
 | _,_,[]=>True
 | i,E,d::L=>sk c i n E d=true/\oR n c (i+1) (aR E d undef) L
def Pw:oR n c i E []:=trivial
def Pv{d L}(h:sk c i n E d=true)(hl:oR n c (i+1) (aR E d undef) L):oR n c i E (d::L):=⟨h,hl⟩
abbrev HM(E:aK)(L:List Nat):aK:=L.foldl (λF d=>aR F d undef) E
def HK:∀(L:List Nat)i E,aS P n c (i+L.length) Q (HM E L) b->oR n c i E L->aS P n c i Q E b
 |[],_,_,hk,_=>hk
 | d::L,i,E,hk,h=>by
  refine os d (HK L (i+1) (aR E d undef) ?_ h.2) h.1;rw[show i+1+L.length=i+(d::L).length by rw[du];omega];exact hk
def oz(L:List Nat)(hk:aS P n c (i+L.length) Q (HM E L) b)(h:oR n c i E L:=by repeat (first | exact Pw | refine Pv (by kernel_rfl) ?_)):aS P n c i Q E b:=HK L i E hk h
def dT k{c1}(hq:aO P n c1 Q (lI P c k i E) b)(h:kz P n c k i E:=by repeat (first | exact vC | refine vB (by kernel_rfl) (by intro _;kernel_rfl) ?_))(h2:decide ((opsOf c).size<=i+k)=true:=by kernel_rfl):aS P n c i (im P n c1 Q) E b:=od k (ot hq h2) h
def cO k{c p}(hk:aS P n (sub c (0::p)) (0+k) (im P n (sub c (1::p)) Q) (lI P (sub c (0::p)) k 0 E) b)(h:kz P n (sub c (0::p)) k 0 E:=by repeat (first | exact vC | refine vB (by kernel_rfl) (by intro _;kernel_rfl) ?_))(h0:iL (sub c p)=true:=by kernel_rfl)(h2:eF (sub c (0::p))=some false:=by kernel_rfl):aO P n (sub c p) Q E b:=aM (od k hk h) h0 h2
def cT k{c p}(hq:aO P n (sub c (1::p)) Q (lI P (sub c (0::p)) k 0 E) b)(h:kz P n (sub c (0::p)) k 0 E:=by repeat (first | exact vC | refine vB (by kernel_rfl) (by intro _;kernel_rfl) ?_))(h1:decide ((opsOf (sub c (0::p))).size<=0+k)=true:=by kernel_rfl)(h0:iL (sub c p)=true:=by kernel_rfl)(h2:eF (sub c (0::p))=some false:=by kernel_rfl):aO P n (sub c p) Q E b:=aM (dT k hq h h1) h0 h2
def oF(P:Program)(c:Code)(k:Nat):Nat->Nat->aK->Prop
 | 0,_,_=>True
 | m+1,i,E=>(dst c k i E (dstOf c i)=true/\∀w,(execOp (ev E) (zv c i)).run P w=.ok (.value (jL P c i E)) w)/\oF P c k m (i+1) (aR E (dstOf c i) (jL P c i E))
def Po{k}:oF P c k 0 i E:=trivial
def Pn{k m}(h:dst c k i E (dstOf c i)=true)(hr:∀w,(execOp (ev E) (zv c i)).run P w=.ok (.value (jL P c i E)) w)(hl:oF P c k m (i+1) (aR E (dstOf c i) (jL P c i E))):oF P c k (m+1) i E:=⟨⟨h,hr⟩,hl⟩
def HC{k}:∀m i E,bU P n c k (i+m) Q (lI P c m i E) b->oF P c k m i E->bU P n c k i Q E b
 | 0,_,_,hk,_=>hk
 | m+1,i,E,hk,h=>by
  refine dp (dstOf c i) (jL P c i E) (HC m (i+1) _ ?_ h.2) h.1.1 h.1.2;rw[show i+1+m=i+(m+1) by omega];exact hk
def dd{k}m(hk:bU P n c k (i+m) Q (lI P c m i E) b)(h:oF P c k m i E:=by repeat (first | exact Po | refine Pn (by kernel_rfl) (by intro _;kernel_rfl) ?_)):bU P n c k i Q E b:=HC m i E hk h
def rT{fn:Func}{R:Value->K->Prop}t v(hR:R (nY [v]) b)(h:E t=v:=by kernel_rfl)(hr:fn.results=[ResultVar.tmp t].toArray:=by kernel_rfl):ll P fn R .ret E b:=rt [.tmp t] [v] ⟨h,xO⟩ hR hr
end
def bD{b a:Type}{o:Option b}{f:b->Option a}{r:a}(h:o.bind f=some r):∃x,o=some x/\f x=some r:=bind_some h
def bE{d c:Type}{o:Option d}{f:d->Option c}{r:c}{G:Prop}(h:o.bind f=some r)(k:∀x,o=some x->f x=some r->G):G:=let ⟨x,a,b⟩:=bind_some h;k x a b
class bY{b:Type}(t:Ty b) where
 all:K->b->(List Value->Prop)->Prop
 ok:∀{a x F cs},all a x F->t.own a cs x->F cs
instance:bY tI64:=⟨λ_ n F=>aA n->F [.int .i64 n],λh o=>by rw[o.1];exact h o.2⟩
instance:bY eV:=⟨λ_ n F=>0<=n/\n<=255->F [.int .u8 n],λh o=>by rw[o.1];exact h o.2⟩
instance:bY Ux:=⟨λ_ n F => -2147483648<=n/\n<=2147483647->F [.int .i32 n],λh o=>by rw[o.1];exact h o.2⟩
instance:bY rk:=⟨λ_ b F=>F [.bool b],λh o=>by rw[show _=_ from o];exact h⟩
instance:bY tStr:=⟨λ_ s F=>s.length<=9223372036854775807->F [strV s],λh o=>by rw[o.1];exact h o.2⟩
instance:bY Js:=⟨λ_ v F=>v.oneCell'=true->F [v],λh o=>by rw[o.1];exact h o.2⟩
instance{d:Type}{t:Ty d}:bY (aW t):=⟨λb l F=>∀a c,Sl t b a c l->F [.slice a l.length c],λh o=>by obtain⟨a,c,e,s⟩:=o;rw[e];exact h a c s⟩
instance{c b:Type}{t:Ty c}{u:Ty b}[bY t][bY u]:bY (dW t u):=⟨λa x F=>bY.all t a x.1 λy=>bY.all u a x.2 λz=>F (y++z),λ{a x F cs} h o=>by
  obtain⟨y,z,e,p,q⟩:=o;subst e;have h1:bY.all u a x.2 λz=>F (y++z):=bY.ok (t:=t) (F:=λy=>bY.all u a x.2 λz=>F (y++z)) h p;exact bY.ok (F:=λz=>F (y++z)) h1 q⟩
def cK:Op->TypeId
 | .indexAddr T _ _=>T
 | .load T _=>T
 | .store T _ _=>T
 | .buildSlice T _ _=>T
 | _=>0
def HB(E:aK):Op->Array (Nat×Value)
 | .buildSlice _ _ L=>L.map λp=>(p.1,ev E p.2)
 | _=>#[]
def kB(E:aK):Op->Value
 | .store _ _ v=>ev E v
 | .box _ v=>ev E v
 | _=>undef
section
variable [Fc] [Fb] {P:Program} {n:Nat} {c:Code} {i k:Nat} {nq:List Nat} {q0:Nat} {M:List Nat} {q:List Nat} {Q:bH} {E:aK} {p p0:K}
def oJ{e:Type}{t:Ty e}[bY t]{l:List e}{x:e}{a cp ix}(f:Sl t p a cp l)(hx:idx l ix=some x)(hk:∀b o,bY.all t p x λcs=>PubAt p b o cs->aS P n c (i+1) Q (aR E (dstOf c i) (.pointer (some ⟨b,o,none⟩))) p)(h:st c i n E (some (dstOf c i))=true:=by kernel_rfl)(ho:execOp (ev E) (zv c i)=aY (Instr.indexAt (cK (zv c i).op) (.slice a l.length cp) (.int .i64 ix)):=by kernel_rfl)(hs:(zH P (cK (zv c i).op)).bind (zL P)=some t.size:=by kernel_rfl):aS P n c i Q E p:=by
 obtain⟨b,off,m,r,k,cs,hp,d⟩:=f.idx hx;obtain⟨el,j,u⟩:=bind_some hs;exact oi _ _ el t.size _ _ .i64 ix m r k K2 h ho j u
def dI{e:Type}{t:Ty e}[bY t]{l:List e}{x:e}{a cp ix}(f:Sl t p a cp l)(hx:idx l ix=some x)(hk:∀b o,bY.all t p x λcs=>PubAt p b o cs->bU P n c k (i+1) Q (aR E (dstOf c i) (.pointer (some ⟨b,o,none⟩))) p)(h:dst c k i E (dstOf c i)=true:=by kernel_rfl)(ho:execOp (ev E) (zv c i)=aY (Instr.indexAt (cK (zv c i).op) (.slice a l.length cp) (.int .i64 ix)):=by kernel_rfl)(hs:(zH P (cK (zv c i).op)).bind (zL P)=some t.size:=by kernel_rfl):bU P n c k i Q E p:=by
 obtain⟨b,off,r,u,m,cs,hp,d⟩:=f.idx hx;obtain⟨el,j,v⟩:=bind_some hs;exact di _ _ el t.size _ _ .i64 ix r u m K2 h ho j v
def xI{e:Type}{t:Ty e}[bY t]{l:List e}{x:e}{a cp ix}(f:Sl t p a cp l)(hx:idx l ix=some x)(hk:∀b o,bY.all t p x λcs=>PubAt p b o cs->bR P n c k nq q0 M q Q (aR E (dstOf c i) (.pointer (some ⟨b,o,none⟩))) p)(h:gX c nq i E (dstOf c i)=true:=by kernel_rfl)(ho:execOp (ev E) (zv c i)=aY (Instr.indexAt (cK (zv c i).op) (.slice a l.length cp) (.int .i64 ix)):=by kernel_rfl)(hs:(zH P (cK (zv c i).op)).bind (zL P)=some t.size:=by kernel_rfl):bR P n c k nq q0 M (i::q) Q E p:=by
 obtain⟨b,off,r,u,m,cs,hp,d⟩:=f.idx hx;obtain⟨el,j,v⟩:=bind_some hs;exact xi _ _ el t.size _ _ .i64 ix r u m K2 h ho j v
def oG{g:Type}{t:Ty g}[bY t]{l:List g}{x:g}{pub q e a cp ix}(f:Gr t pub q p e a cp l)(hx:idx l ix=some x)(hk:∀b o,bY.all t p x λcs=>At p b o cs->aS P n c (i+1) Q (aR E (dstOf c i) (.pointer (some ⟨b,o,none⟩))) p)(h:st c i n E (some (dstOf c i))=true:=by kernel_rfl)(ho:execOp (ev E) (zv c i)=aY (Instr.indexAt (cK (zv c i).op) (.slice a l.length cp) (.int .i64 ix)):=by kernel_rfl)(hs:(zH P (cK (zv c i).op)).bind (zL P)=some t.size:=by kernel_rfl):aS P n c i Q E p:=by
 obtain⟨b,m,r,k,cs,hp,d⟩:=f.idx hx;obtain⟨el,j,u⟩:=bind_some hs;exact oi _ _ el t.size _ _ .i64 ix m r k M4 h ho j u
def dG{g:Type}{t:Ty g}[bY t]{l:List g}{x:g}{pub q e a cp ix}(f:Gr t pub q p e a cp l)(hx:idx l ix=some x)(hk:∀b o,bY.all t p x λcs=>At p b o cs->bU P n c k (i+1) Q (aR E (dstOf c i) (.pointer (some ⟨b,o,none⟩))) p)(h:dst c k i E (dstOf c i)=true:=by kernel_rfl)(ho:execOp (ev E) (zv c i)=aY (Instr.indexAt (cK (zv c i).op) (.slice a l.length cp) (.int .i64 ix)):=by kernel_rfl)(hs:(zH P (cK (zv c i).op)).bind (zL P)=some t.size:=by kernel_rfl):bU P n c k i Q E p:=by
 obtain⟨b,r,u,m,cs,hp,d⟩:=f.idx hx;obtain⟨el,j,v⟩:=bind_some hs;exact di _ _ el t.size _ _ .i64 ix r u m M4 h ho j v
def xG{g:Type}{t:Ty g}[bY t]{l:List g}{x:g}{pub s e a cp ix}(f:Gr t pub s p e a cp l)(hx:idx l ix=some x)(hk:∀b o,bY.all t p x λcs=>At p b o cs->bR P n c k nq q0 M q Q (aR E (dstOf c i) (.pointer (some ⟨b,o,none⟩))) p)(h:gX c nq i E (dstOf c i)=true:=by kernel_rfl)(ho:execOp (ev E) (zv c i)=aY (Instr.indexAt (cK (zv c i).op) (.slice a l.length cp) (.int .i64 ix)):=by kernel_rfl)(hs:(zH P (cK (zv c i).op)).bind (zL P)=some t.size:=by kernel_rfl):bR P n c k nq q0 M (i::q) Q E p:=by
 obtain⟨b,r,u,m,cs,hp,d⟩:=f.idx hx;obtain⟨el,j,v⟩:=bind_some hs;exact xi _ _ el t.size _ _ .i64 ix r u m M4 h ho j v
def oL{cs:List Value}{b o}(w:At p b o cs)j m(hk:aS P n c (i+1) Q (aR E (dstOf c i) (.agg ((cs.drop j).take m).toArray)) p)(h:st c i n E (some (dstOf c i))=true:=by kernel_rfl)(ho:execOp (ev E) (zv c i)=aY (Instr.loadAt (cK (zv c i).op) (.pointer (some ⟨b,o+j,none⟩))):=by kernel_rfl)(hT:dw P (cK (zv c i).op)=some true:=by kernel_rfl)(hs:zL P (cK (zv c i).op)=some ((cs.drop j).take m).length:=by kernel_rfl):aS P n c i Q E p:=oN _ _ _ (w.part j m).2 hk h ho hT hs
def dL{cs:List Value}{b o}(w:At p b o cs)j m(hk:bU P n c k (i+1) Q (aR E (dstOf c i) (.agg ((cs.drop j).take m).toArray)) p)(h:dst c k i E (dstOf c i)=true:=by kernel_rfl)(ho:execOp (ev E) (zv c i)=aY (Instr.loadAt (cK (zv c i).op) (.pointer (some ⟨b,o+j,none⟩))):=by kernel_rfl)(hT:dw P (cK (zv c i).op)=some true:=by kernel_rfl)(hs:zL P (cK (zv c i).op)=some ((cs.drop j).take m).length:=by kernel_rfl):bU P n c k i Q E p:=dN _ _ _ (w.part j m).2 hk h ho hT hs
def xL{cs:List Value}{b o}(w:At p b o cs)j m(hk:bR P n c k nq q0 M q Q (aR E (dstOf c i) (.agg ((cs.drop j).take m).toArray)) p)(h:gX c nq i E (dstOf c i)=true:=by kernel_rfl)(ho:execOp (ev E) (zv c i)=aY (Instr.loadAt (cK (zv c i).op) (.pointer (some ⟨b,o+j,none⟩))):=by kernel_rfl)(hT:dw P (cK (zv c i).op)=some true:=by kernel_rfl)(hs:zL P (cK (zv c i).op)=some ((cs.drop j).take m).length:=by kernel_rfl)(hm:jN c i=true:=by kernel_rfl)(hf:frB c q0 i=false:=by kernel_rfl):bR P n c k nq q0 M (i::q) Q E p:=xN _ _ _ w j m rfl hk h ho hT hs hm hf
def Dt{cs:List Value}{j}(hj:Nat.ble (j+1) cs.length=true):cs[j]?=some ((cs[j]?).getD undef):=by
 have:=gc hj;rw[cn (show j<cs.length by omega)];rfl
def oV{cs:List Value}{b o}(w:At p b o cs)j(hk:aS P n c (i+1) Q (aR E (dstOf c i) ((cs[j]?).getD undef)) p)(h:st c i n E (some (dstOf c i))=true:=by kernel_rfl)(ho:execOp (ev E) (zv c i)=aY (Instr.loadAt (cK (zv c i).op) (.pointer (some ⟨b,o+j,none⟩))):=by kernel_rfl)(hT:dw P (cK (zv c i).op)=some false:=by kernel_rfl)(hj:Nat.ble (j+1) cs.length=true:=by kernel_rfl):aS P n c i Q E p:=o1 _ _ _ (w.one (Dt hj)) hk h ho hT
def dV{cs:List Value}{b o}(w:At p b o cs)j(hk:bU P n c k (i+1) Q (aR E (dstOf c i) ((cs[j]?).getD undef)) p)(h:dst c k i E (dstOf c i)=true:=by kernel_rfl)(ho:execOp (ev E) (zv c i)=aY (Instr.loadAt (cK (zv c i).op) (.pointer (some ⟨b,o+j,none⟩))):=by kernel_rfl)(hT:dw P (cK (zv c i).op)=some false:=by kernel_rfl)(hj:Nat.ble (j+1) cs.length=true:=by kernel_rfl):bU P n c k i Q E p:=d1 _ _ _ (w.one (Dt hj)) hk h ho hT
def xV{cs:List Value}{b o}(w:At p b o cs)j(hk:bR P n c k nq q0 M q Q (aR E (dstOf c i) ((cs[j]?).getD undef)) p)(h:gX c nq i E (dstOf c i)=true:=by kernel_rfl)(ho:execOp (ev E) (zv c i)=aY (Instr.loadAt (cK (zv c i).op) (.pointer (some ⟨b,o+j,none⟩))):=by kernel_rfl)(hT:dw P (cK (zv c i).op)=some false:=by kernel_rfl)(hj:Nat.ble (j+1) cs.length=true:=by kernel_rfl)(hm:jN c i=true:=by kernel_rfl)(hf:frB c q0 i=false:=by kernel_rfl):bR P n c k nq q0 M (i::q) Q E p:=x1 _ _ _ w j (Dt hj) hk h ho hT hm hf
variable {N:List Nat}
def oA T t(zs:List Value)(hs:Step N p0 p)(hk:∀b p',Step N p0 p'->Step [] p p'->aI (p0.H.size,t) p' b zs T->aS P n c (i+1) Q (aR E (dstOf c i) (.pointer (some ⟨b,0,none⟩))) p')(h:st c i n E (some (dstOf c i))=true:=by kernel_rfl)(ho:execOp (ev E) (zv c i)=aY (Instr.alloc T true (.tuple #[])):=by kernel_rfl)(hz:(eX P T).map Value.cells=some zs.toArray:=by kernel_rfl):aS P n c i Q E p:=uw (p0.H.size,t) hs.1 zs h ho hz λb p' s B=>hk b p' (hs.tr0 s) s B
def oB T t(cs:List Value)(hs:Step N p0 p)(hk:∀b p',Step N p0 p'->Step [] p p'->aI (p0.H.size,t) p' b cs T->aS P n c (i+1) Q (aR E (dstOf c i) (.pointer (some ⟨b,0,none⟩))) p')(h:st c i n E (some (dstOf c i))=true:=by kernel_rfl)(ho:execOp (ev E) (zv c i)=aY (Instr.box T (kB E (zv c i).op)):=by kernel_rfl)(hv:(kB E (zv c i).op).cells=cs.toArray:=by kernel_rfl):aS P n c i Q E p:=IV (p0.H.size,t) hs.1 _ cs h ho hv λb p' s B=>hk b p' (hs.tr0 s) s B
def oS{U:TypeId}{cs:List Value}{t b}off cs'(hb:aI (p0.H.size,t) p b cs U)(hs:Step N p0 p)(hk:∀p',Step N p0 p'->Step [b] p p'->aI (p0.H.size,t) p' b cs' U->aS P n c (i+1) Q E p')(h:st c i n E none=true:=by kernel_rfl)(ho:execOp (ev E) (zv c i)=ik (Instr.storeAt (cK (zv c i).op) (.pointer (some ⟨b,off,none⟩)) (kB E (zv c i).op)):=by kernel_rfl)(hz:zL P (cK (zv c i).op)=some (kB E (zv c i).op).cells.toList.length:=by kernel_rfl)(hone:lu (kB E (zv c i).op).cells.toList=true:=by kernel_rfl)(hlen:Nat.ble (off+(kB E (zv c i).op).cells.toList.length) cs.length=true:=by kernel_rfl)(hcs:splice cs off (kB E (zv c i).op).cells.toList=cs':=by kernel_rfl):aS P n c i Q E p:=zB _ _ cs' h ho hb si hz hone hlen hcs λp' s _ B=>hk p' (hs.trB hb.ge s) s B
def oC{args:Array Value}{R:Value->K->Prop}{f}(hs:Step N p0 p)(hf:Fn P f args p (λv p'=>Step [] p p'/\R v p'))(hk:∀p',Step [] p p'->Step N p0 p'->∀v,R v p'->aS P n c (i+1) Q (aR E (dstOf c i) v) p')(h:st c i n E (some (dstOf c i))=true:=by kernel_rfl)(hr:∀w,(execOp (ev E) (zv c i)).run P w=.ok (.enter f args) w:=by intro _;kernel_rfl):aS P n c i Q E p:=aQ _ hf (λv p' H=>hk p' H.1 (hs.tr0 H.1) v H.2) h hr
def oW{o:Type}{t:Ty o}{l l':List o}{ix:Int}{x x':o}{vs:List Value}{q e a cp}(f:Gr t false q p e a cp l)(hx:idx l ix=some x)(hl:some (l.set ix.toNat x')=some l')(own:t.own p vs x')(hk:∀b p',Step (aD a cp) p p'->Gr t false q p' e a cp l'->l'.length=l.length->aS P n c (i+2) Q (aR E (dstOf c i) (.pointer (some ⟨b,0+ix.toNat*t.size,none⟩))) p')(h:st c i n E (some (dstOf c i))=true:=by kernel_rfl)(d:execOp (ev E) (zv c i)=aY (Instr.indexAt (cK (zv c i).op) (.slice a l.length cp) (.int .i64 ix)):=by kernel_rfl)(hs:(zH P (cK (zv c i).op)).bind (zL P)=some t.size:=by kernel_rfl)(h2:∀b,st c (i+1) n (aR E (dstOf c i) (.pointer (some ⟨b,0+ix.toNat*t.size,none⟩))) none=true:=by intro _;kernel_rfl)(ho2:∀b,execOp (ev (aR E (dstOf c i) (.pointer (some ⟨b,0+ix.toNat*t.size,none⟩)))) (zv c (i+1))=ik (Instr.storeAt (cK (zv c (i+1)).op) (.pointer (some ⟨b,0+ix.toNat*t.size+0,none⟩)) (kB E (zv c (i+1)).op)):=by intro _;kernel_rfl)(hv:(kB E (zv c (i+1)).op).cells=vs.toArray:=by kernel_rfl)(hz:zL P (cK (zv c (i+1)).op)=some t.size:=by kernel_rfl)(hone:lu vs=true:=by kernel_rfl):aS P n c i Q E p:=by
 obtain⟨b,k,m,j,_⟩:=f.idx hx;obtain⟨el,r,v⟩:=bind_some hs;have hlen:=t.len own;refine oi _ _ el t.size _ _ .i64 ix k m j ?_ h d r v;refine iG _ (h2 b) (ho2 b) k f m j hv (by rw[hz,hlen]) hone ?_ (λcs u=>?_) λp' s g=>hk b p' s (lr hl g)<|gT hl
 ·rw[gv,hlen];exact Nat.ble_self_eq_true _
 ·obtain⟨y,_,d⟩:=u;rw[qH<|(t.len d).trans hlen.symm];exact own
def oT{b:Type}{t:Ty b}{cs}e tg pub(l:List b)(hs:Step N p0 p)(hr:bA t p cs l)(hk:∀a' p',Step N p0 p'->Step [] p p'->Gr t pub (p0.H.size,tg) p' e a' l.length l->aS P n c (i+1) Q (aR E (dstOf c i) (.slice a' l.length l.length)) p')(h:st c i n E (some (dstOf c i))=true:=by kernel_rfl)(ho:execOp (ev E) (zv c i)=aY (Instr.buildSlice (cK (zv c i).op) l.length (HB E (zv c i).op)):=by kernel_rfl)(hi:vt P (cK (zv c i).op) l.length (HB E (zv c i).op)=some (e,t.size,cs):=by kernel_rfl)(hz:Nat.blt 0 t.size=true:=by kernel_rfl)(hm:Nat.ble l.length 1000000=true:=by kernel_rfl):aS P n c i Q E p:=Cg (τ:=(p0.H.size,tg)) h ho hi hz hs.1 rfl hr hm λa' p' s g=>hk a' p' (hs.tr0 s) s g
def oP{d:Type}{t:Ty d}{l l2 r:List d}{pub b e bytes a a2 cp c2}T(hg:Gr t pub b p e a cp l)(h2:Sl t p a2 c2 l2)(hτ:b.1<=p.H.size)(hx:aX bytes l l2=some r)(hk:∀a' c' p',Step (aD a cp) p p'->Gr t pub b p' e a' c' r->(∀g∈aD a' c',g∈aD a cp\/p.H.size<=g)->aS P n c (i+1) Q (aR E (dstOf c i) (.slice a' r.length c')) p')(h:st c i n E (some (dstOf c i))=true:=by kernel_rfl)(ho:execOp (ev E) (zv c i)=aY (Builtin.append_ #[T,T] 0 #[.slice a l.length cp,.slice a2 l2.length c2]):=by kernel_rfl)(hT:hX P T=some (e,t.size,t.size,bytes):=by kernel_rfl):aS P n c i Q E p:=uM h ho hg h2 hτ hT hx hk
end
class bM(a a':K)(A:Prop)(B:outParam Prop):Prop where
 m:Step [] a a'->A->B
section
variable {j j' j0:K} {A B C D F G A' B' C' D' F' G':Prop}
instance{b:Type}{t:Ty b}{a:Option Addr}{c:Nat}{l:List b}:bM j j' (Sl t j a c l) (Sl t j' a c l):=⟨λs h=>h.step s⟩
instance{a:aN}{b:Nat}{cs:List Value}{T:TypeId}:bM j j' (aI a j b cs T) (aI a j' b cs T):=⟨λs h=>h.step0 s⟩
instance{d:Type}{t:Ty d}{p:Bool}{b:aN}{e:Nat}{a:Option Addr}{c:Nat}{l:List d}:bM j j' (Gr t p b j e a c l) (Gr t p b j' e a c l):=⟨λs h=>h.step0 s⟩
instance{d:Type}{t:Ty d}{p:Bool}{b:aN}{eo ei:TypeId}{a:Option Addr}{c:Nat}{hm hs:List Hd}{L:List (List d)}:bM j j' (aZ t p b j eo ei a c hm hs L) (aZ t p b j' eo ei a c hm hs L):=⟨λs h=>h.step0 s⟩
instance{N i b:Nat}{ob:Obj}:bM j j' (cC N i j b ob) (cC N i j' b ob):=⟨λs h=>h.step0 s⟩
instance{d a:Type}{kt:KT d}{t:Ty a}{c:aN}{b:Nat}{m:List (d×a)}:bM j j' (Mp kt t c j b m) (Mp kt t c j' b m):=⟨λs h=>h.step0 s⟩
instance{b:aN}{eP eG:TypeId}{a:Option Addr}{n:Nat}{bs:List Nat}{L:List Int}:bM j j' (bL b j eP eG a n bs L) (bL b j' eP eG a n bs L):=⟨λs h=>h.step0 s⟩
def aV[bM j j' A A'][bM j j' B B'](s:Step [] j j')(a:A)(b:B):A'/\B':=⟨bM.m s a,bM.m s b⟩
def bN[bM j j' A A'][bM j j' B B'][bM j j' C C'](s:Step [] j j')(a:A)(b:B)(c:C):A'/\B'/\C':=⟨bM.m s a,aV s b c⟩
def cD[bM j j' A A'][bM j j' B B'][bM j j' C C'][bM j j' D D'](s:Step [] j j')(a:A)(b:B)(c:C)(d:D):A'/\B'/\C'/\D':=⟨bM.m s a,bN s b c d⟩
def ij[bM j j' A A'][bM j j' B B'][bM j j' C C'][bM j j' D D'][bM j j' F F'](s:Step [] j j')(a:A)(b:B)(c:C)(d:D)(f:F):A'/\B'/\C'/\D'/\F':=⟨bM.m s a,cD s b c d f⟩
def eU[bM j j' A A'][bM j j' B B'][bM j j' C C'][bM j j' D D'][bM j j' F F'][bM j j' G G'](s:Step [] j j')(a:A)(b:B)(c:C)(d:D)(f:F)(g:G):A'/\B'/\C'/\D'/\F'/\G':=⟨bM.m s a,ij s b c d f g⟩
end
def dZ(s:List UInt8):List Int:=s.map λb=>(b.toNat:Int)
def Od{a}:∀s:List UInt8,bA eV a (s.map λb=>Value.int .u8 b.toNat) (dZ s)
 |[]=>rfl
 | b::s=>⟨[.int .u8 b.toNat],_,rfl,⟨rfl,show(0:Int)<=(b.toNat:Int) by omega,show(b.toNat:Int)<=255 by have:=b.toNat_lt;omega⟩,Od s⟩
def vH(P:Program)(T:TypeId):Bool:=match P.underlying T with
 | some .string=>true
 | _=>false
def Sd{P:Program}{T:TypeId}(h:vH P T=true):P.underlying T=some .string:=by
 unfold vH at h;split at h
 ·assumption
 ·cases h
section
variable {pub:Bool} {j:aN} {i:K} {e T T2:TypeId} {a:Option Addr} {cp:Nat} {l r:List Int}
def zzx{ty:TypeId}{P bytes}(h:Gr eV pub j i e a cp l)s(hτ:j.1<=i.H.size)(hT2:vH P T2=true)(hT:zH P T=some e)(hsz:zL P e=some 1)(hz:qW P e=some 1)(hby:nX P e=some bytes)(hb:(l.length+(dZ s).length)*bytes<=140737488355328)(hmax:l.length+(dZ s).length<=9223372036854775807)[Fb](C:Cx)d:
  ∃a' c' i' d',(Builtin.append_ #[T,T2] ty #[.slice a l.length cp,strV s]).run P (W C i d)=.ok (.slice a' (l++dZ s).length c') (W C i' d')/\
   Step (aD a cp) i i'/\Gr eV pub j i' e a' c' (l++dZ s)/\∀g∈aD a' c',g∈aD a cp\/i.H.size<=g:=by
 refine Nt h (Od s) hτ hT hsz hz hby hb hmax C d ?_;have:=Src.ofString (P:=P) (W C i d) (Sd hT2) ⟨s.toArray⟩;have f:(⟨s.toArray⟩:ByteArray).size=(dZ s).length:=by simp[dZ,ByteArray.size]
 have c:byteCells ⟨s.toArray⟩=s.map λb=>Value.int .u8 b.toNat:=by simp[byteCells]
 rw[f,c]at this;exact this
end
section
variable [Fc] [Fb] {P:Program} {n:Nat} {c:Code} {i k:Nat} {nq:List Nat} {q0:Nat} {M:List Nat} {p:List Nat} {Q:bH} {E:aK} {o:K}
variable {pub:Bool} {τ:aN} {e T T2:TypeId} {a:Option Addr} {cp:Nat} {l r:List Int} {s:List UInt8}
def zzJ{d bytes}(h:st c i n E (some d)=true)(ho:execOp (ev E) (zv c i)=aY (Builtin.append_ #[T,T2] 0 #[.slice a l.length cp,strV s]))(hg:Gr eV pub τ o e a cp l)(hτ:τ.1<=o.H.size)(hT:hX P T=some (e,1,1,bytes))(hT2:vH P T2=true)(hx:aX bytes l (dZ s)=some r)(hk:∀a' c' o',Step (aD a cp) o o'->Gr eV pub τ o' e a' c' r->(∀g∈aD a' c',g∈aD a cp\/o.H.size<=g)->aS P n c (i+1) Q (aR E d (.slice a' r.length c')) o'):aS P n c i Q E o:=by
 obtain⟨w,y,k,x⟩:=uI hT;obtain⟨z,hm,rfl⟩:=nU hx;refine jF (λv o'=>∃a' c',v=.slice a' (l++dZ s).length c'/\Step (aD a cp) o o'/\Gr eV pub τ o' e a' c' (l++dZ s)/\∀g∈aD a' c',g∈aD a cp\/o.H.size<=g) h (λC j=>?_) ?_
 ·obtain⟨a',c',o',m,u,hs,b,f⟩:=zzx (P:=P) (T:=T) (ty:=0) hg s hτ hT2 w y k x z hm C j;exact⟨_,o',m,x8 u,a',c',rfl,hs,b,f⟩
 ·rintro v o' ⟨a',c',rfl,hs,b,f⟩;exact hk a' c' o' hs b f
end
section
variable {TB eB:TypeId} {a a':aN} {c c':K} {b:Nat} {l:List Int} {M:List Nat}
end
def pow10s:List Int:=[1,10,100,1000,10000,100000,1000000,10000000,100000000,1000000000,10000000000,100000000000,1000000000000,10000000000000,100000000000000,1000000000000000,10000000000000000,100000000000000000,1000000000000000000,10000000000000000000]
end Go.Lf
namespace Go.Lf
open Go
section
variable {b d:Type} {t:Ty b} {tW:Ty d} {e:TypeId} {S:Nat} {f f':K} {a:Option Addr} {c n:Nat} {l:List b} {M:List Nat} {g:aN}
structure Hz where
 T:Nat->Type
 t:∀i,Ty (T i)
 e:Nat->TypeId
 hd:∀i,T i->List (Nat×Hd)
 inj:∀i j,e i=e j->i=j
 pos:∀i,0<(t i).size
variable {F:Hz} {i:Nat}
end
section
variable [Fb] {P:Program} {F:Hz} {i fn m:Nat} {b:aN} {c:K} {a:Option Addr} {n:Nat} {k B:Int}
end
section
variable [Fc] [Fb] {P:Program} {n:Nat} {c:Code} {i:Nat} {Q:bH} {E:aK} {a:K} {s:List UInt8}
end
section
variable {f g:Type} {t:Ty f} {pub:Bool} {d:aN} {b b':K} {e u:TypeId} {a:Option Addr} {c:Nat} {l:List f} {M:List Nat}
def Uw:Ty (List Int×List Int):=dW (aW eV) (aW eV)
instance:bY Uw:=inferInstanceAs (bY (dW (aW eV) (aW eV)))
variable {L:List (List Int×List Int)} {hs:List (Hd×Hd)}
end
def Jf(c:Code)(n k l:Nat):Bool:=decide (k+1<(opsOf c).size)&&Nat.blt l k&&Dk c&&Dj c n k&&((List.range k).all λj=>Nat.beq j l||cP c k j)&&cP c (k+1) k&&cP c (k+1) l &&
 ((List.range (opsOf c).size).all λt=>!Nat.blt (k+1) t||cP c t (t - 1))&&((zv c k).dst == none)&&((zv c k).guard == none)&&((zv c l).guard == none) &&
 Region.seqB .any (opsOf c) ((opsOf c).size - (k+1)) (k+1) (hU (k+1) (opsOf c).size)
def C_{a b}(h:a<b):Nat.blt a b=true:=A4 h
section
variable [Fc] [Fb] {P:Program} {n:Nat} {Q:bH} {E:aK} {a:K}
end
section
variable {P:Program} {E:aK} {c:Code} {i:Nat} {w:World}
end
end Go.Lf
namespace Go.Lf
open Go Go.Proofs
abbrev CB:=(List UInt8)×Int
abbrev CC:=(List UInt8)×(List Int)
abbrev MkSt:=(List CB)×(List CC)×(List ((List UInt8)×Int))
section
variable {tG:Ty CB} {tT:Ty CC} {TM eG eT:TypeId} {a a':aN} {c c':K} {b:Nat} {q:MkSt} {M:List Nat}
end
section
variable [Fc] [Fb] {P:Program} {n:Nat} {c:Code} {i k:Nat} {nq:List Nat} {q0:Nat} {M:List Nat} {e:List Nat} {Q:bH} {E:aK} {f:K}
variable {a:Type} [DecidableEq a] {kt:KT a} {d:aN} {b:Nat} {m:List (a×Int)}
end
end Go.Lf
namespace Go.Lf
open Go
section
variable [Fc] [Fb] {P:Program} {n:Nat} {Q:bH} {E:aK} {a a2:K}
def Ic{E F o w r}(h:E=F)(hx:(execOp (ev F) o).run P w=r):(execOp (ev E) o).run P w=r:=by rw[h];exact hx
def Vh{a:K}{T U:TypeId}{cs:List Value}{c F o a2 C d b off}(v:Value)(vs cs':List Value)(hb:aI c a b cs U)(e:a2=a.setB b cs' U)(hcs:splice cs off vs=cs')(hv:v.cells=vs.toArray)(ho:execOp (ev F) o=ik (Instr.storeAt T (.pointer (some ⟨b,off,none⟩)) v):=by kernel_rfl)(hs:zL P T=some vs.length:=by kernel_rfl)(hone:lu vs=true:=by kernel_rfl)(hlen:Nat.ble (off+vs.length) cs.length=true:=by kernel_rfl):
  (execOp (ev F) o).run P (W C a d)=.ok .skip (W C a2 d):=by
 subst hcs;subst e;rw[ho];exact qV<|A_ hb hv hs hone<|gc hlen
end
section
variable {P:Program} {a:Type} {t:Ty a} {c:K} {e T T2:TypeId} {b:aN}
end
section
variable {P:Program} {b:Type} {t:Ty b} {c:K} {e T T2 tn:TypeId} {a a2:aN}
end
section
variable {P:Program} {T e:TypeId} {sz len cp:Nat} {a:Option Addr}
end
section
variable [Fc] [Fb] {P:Program} {n:Nat} {c:Code} {i:Nat} {Q:bH} {E:aK} {f:K} {b:Type} {t:Ty b} {e T T2 tn:TypeId} {a:Option Addr} {cp:Nat} {l l2:List b} {d:aN}
end
def CG(i:Nat):Value->Value | .tuple a=>a.getD i undef | v=>v
section
variable [Fc] [Fb] {P:Program} {n:Nat} {Q:bH} {E:aK} {g:K}
def QY{c0 p}k l r(f:Value->Value)ds(Ss:List (Value->K->Prop))(h:eF (sub c0 p)=some true)(hm:P.follows .mixedOrders=true)(hB:(Jf (sub c0 p) n k l&&cP (sub c0 p) l r&&Nat.blt r k)=true)(hds:IX (sub c0 p) k ds=true)(mono:∀i,i<k->∀v g1 g2,Step [] g1 g2->ic Ss i v g1->ic Ss i v g2)(hop:∀i,i<k->∀z g',Step [] g g'->(∀t,mx k ds t=true->z t=E t)->
   (∀j,Nat.blt j k=true->cP (sub c0 p) i j=true->ic Ss j (z (fN ds j)) g')->bP P (Step []) (sub c0 p) i z g' (ic Ss i))(hlr:∀z g',ic Ss r (z (fN ds r)) g'->∀w,(execOp (ev z) (zv (sub c0 p) l)).run P w=.ok (.value (f (z (fN ds r)))) w)(fin:∀z g',Step [] g g'->(∀t,mx k ds t=true->z t=E t)->(∀j,Nat.blt j k=true->Nat.beq j l=false->ic Ss j (z (fN ds j)) g')->
   ∃g2 v,(∀C d,(execOp (ev z) (zv (sub c0 p) k)).run P (W C g' d)=.ok .skip (W C g2 d))/\
    f (z (fN ds r))=v/\aS P n (sub c0 p) (k+1) Q (aR z (fN ds l) v) g2):aO P n (sub c0 p) Q E g:=by
 have hd:∀j,j<k->dstOf (sub c0 p) j=fN ds j:=λj b=>ga<|bd.1 hds j<|fg.2 b;have ho:∀t,(∀j,j<k->t≠dstOf (sub c0 p) j)↔mx k ds t=true:=λt=>by
  unfold mx;rw[bd];constructor
  ·intro h j b;have b:=fg.1 b;have:=h j b;rw[hd j b]at this;cases X:Nat.beq t (fN ds j)with
   | false=>rfl
   | true=>exact x4 (ga X) this
  ·intro h j b e;have:=h j<|fg.2 b;rw[hd j b]at e;rw[←e]at this;simp at this
 generalize sub c0 p=s at *;unfold Jf at hB;simp only[an,ϛ,ϱ]at hB;have M:r<k:=A4 hB.2
 have O:=hB.1.2;replace hB:=hB.1.1;obtain⟨⟨⟨⟨⟨⟨⟨⟨⟨⟨⟨hk,G⟩,S⟩,d4⟩,h6⟩,f0⟩,f8⟩,c4⟩,hkd⟩,f4⟩,d8⟩,e9⟩:=hB;have G:l<k:=A4 G
 have L:∀i,i<k->(zv s i).dst=some (dstOf s i)/\dstOf s i<n/\∀j,j<i->dstOf s j≠dstOf s i:=by
  intro i hi;have D:=w9 d4 i hi;simp only[an,ϱ,ϛ]at D;refine⟨D.1.1,D.1.2,λj b=>?_⟩;have:=w9 D.2 j b;exact w8
 have U:∀i j,i<k->j<k->i≠j->dstOf s i≠dstOf s j:=by
  intro i j hi b g1;rcases gk g1 with h | h
  ·exact(L j b).2.2 i h
  ·exact((L i hi).2.2 j h).symm
 cases s<;>simp[eF]at h;rename_i id ops dr;subst h;simp only[opsOf]at *;generalize hs:Code.region id ops true=s at *;have T:opsOf s=ops:=by rw[←hs];rfl
 have get:∀i,i<ops.size->ops[i]?=some (zv s i):=λi hi=>by have:=ja (c:=s) (i:=i) (by rw[T];exact hi);rwa [T]at this
 have iQ:∀{listed:Array Bool} {i:Nat},i∈Region.ready .any ops listed->i<ops.size/\listed.getD i false=false/\∀j,cP s i j=true->listed.getD j false=true:=by
  intro listed i hi;obtain⟨h7,oi,e3,u⟩:=mem_ready.1 hi;have b0:i<ops.size:=(ae.1 e3).1;refine⟨b0,getD_both h7,λj b=>?_⟩;unfold cP at b;rw[show zv s i=oi from A5<|(get i b0).symm.trans e3]at b;obtain⟨e,he,X⟩:=Array.any_eq_true'.1 b;simp only[an,ϱ]at X;rw[←X.2];exact u e he X.1
 have c6:∀{listed:Array Bool} {i:Nat},i<ops.size->listed.size=ops.size->listed.getD i false=false->(∀j,cP s i j=true->listed.getD j false=true)->i∈Region.ready .any ops listed:=by
  intro listed i hi I Y b;refine mem_ready.2 ⟨getD_in (by rw[I];exact hi) Y,zv s i,get i hi,λe he X=>b _ ?_⟩;unfold cP;exact Array.any_eq_true'.2 ⟨e,he,by simp[X]⟩
 have H:∀i j,i<ops.size->cP s i j=true->j<i:=by
  intro i j hi b;unfold cP at b;obtain⟨e,he,X⟩:=Array.any_eq_true'.1 b;simp only[an,ϱ]at X;unfold Dk at S;rw[T]at S;have D:=w9 S i hi;have h2:=(Array.all_eq_true_iff_forall_mem.1 D) e he;rw[X.1]at h2;simp at h2;omega
 have b2:∀E2 g2 C d (a:Act),Fits n a E2->aS P n s (k+1) Q E2 g2->wpAnyIn FF 0 P .any ops (cQ n C Q) (ops.size - (k+1)) (hU (k+1) ops.size) a (W C g2 d):=by
  intro E2 g2 C d a J a8;have a8:=a8 C d a J;rw[T]at a8;have he:=wpOpsIn_eq_wpListIn (F:=FF) (n:=0) (P:=P) (ops:=ops) (Q:=cQ n C Q) (ops.toList.drop (k+1)) (k+1) F7;have hlen:(ops.toList.drop (k+1)).length=ops.size - (k+1):=by simp
  rw[hlen]at he;have Y:=yY (F:=FF) (n:=0) (P:=P) (md:=.any) (ops:=ops) (Q':=cQ n C Q) (ops.toList.drop (k+1)) (k+1) (hU (k+1) ops.size) a (W C g2 d)
   F7 (by rw[hlen];simpa using e9) (by rw[←he];exact a8)
  rw[hlen]at Y;exact Y
 have b3:∀{listed:Array Bool},listed.size=ops.size->(∀j,j<k+1->listed.getD j false=true)->(∀t,k+1<=t->t<ops.size->listed.getD t true=false)->listed=hU (k+1) ops.size:=by
  intro listed I D h2;apply Array.ext
  ·simp[hU];exact I
  ·intro i hi i1;simp only[hU,Array.getElem_map,Array.getElem_range];by_cases B:i<k+1
   ·have:=D i B;simp[hi]at this;rw[this];simp[B]
   ·have:=h2 i om (by rw[←I];exact hi);simp[hi]at this;rw[this,Ϣ B]
 have a5:∀(z:aK) g' g2 (C:Cx) d (a:Act) (K':Act->World->Prop),Fits n a z->(∀C d,(execOp (ev z)<|zv s k).run P (W C g' d)=.ok .skip (W C g2 d))->K' a (W C g2 d)->wpOpIn FF 0 P ops (cQ n C Q) k K' a (W C g' d):=by
  intro z g' g2 C d a K' J hr hK;unfold wpOpIn;rw[get k om];simp only[];have hw:=iY J s k;rw[T]at hw;rw[hw,show bV s k z=true by unfold bV;rw[f4],Ϙ rfl];refine BM (by rw[J.eval];exact hr C d) ?_;rw[hkd];exact hK
 have e5:∀m listed z g' C d (a:Act),Fits n a z->listed.size=ops.size->(∀t,k<=t->t<ops.size->listed.getD t true=false)->(∀i j,i<k->listed.getD i false=true->cP s i j=true->listed.getD j false=true)->
   Step [] g g'->(∀t,mx k ds t=true->z t=E t)->(∀j,j<k->listed.getD j false=true->ic Ss j (z<|fN ds j) g')->(listed.getD l false=true->z (fN ds l)=f (z<|fN ds r))->fW listed k=m->
   wpAnyIn FF 0 P .any ops (cQ n C Q) (m+(ops.size - k)) listed a (W C g' d):=by
  intro m
  induction m with
  | zero=>
   intro listed z g' C d a J I ht _ a1 N A b6 hu;have u:=GR hu;obtain⟨g2,v,D,h3,h4⟩:=fin z g' a1 N (λj b _=>A j (A4 b)<|u j (A4 b));have g0:aR z (fN ds l) v=z:=(Pc<|(b6<|u l G).trans h3).symm;rw[g0]at h4;rw[show 0+(ops.size - k)=(ops.size - (k+1))+1 by omega];have c9:k∈Region.ready .any ops listed:=c6 om I (getD_both<|ht k (gd _) om) λj b=>u j<|H k j om b;refine⟨D9 c9,λi hi=>?_⟩;obtain⟨r1,r2,r3⟩:=iQ hi;have B:i=k:=by
    rcases gm i k with h | h | h
    ·rw[u i h]at r2;cases r2
    ·exact h
    ·have:cP s i (i - 1)=true:=by
      by_cases e:i=k+1
      ·subst e;exact f0
      ·have:=w9 c4 i r1
       rwa [C_ (by omega:k+1<i)]at this
     have D:=r3 _ this;rw[getD_both<|ht (i - 1) om om]at D;cases D
   subst B;refine a5 z g' g2 C d a _ J D ?_;have b7:=b3 (listed:=listed.setIfInBounds i true) (by simp[I]) (λj b=>by
    by_cases e:j=i
    ·subst e;simp[I,r1]
    ·exact getD_set_true<|u j om) (λt D h2=>by rw[getD_set_ne true om];exact ht t om h2)
   rw[b7];exact b2 z g2 C d a J h4
  | succ m ih=>
   intro listed z g' C d a J I ht f2 a1 N A b6 hu;obtain⟨i0,e8,V,c8⟩:=GX hu;have R:i0∈Region.ready .any ops listed:=c6 om I V λj b=>c8 j<|H i0 j om b;rw[show m+1+(ops.size - k)=(m+(ops.size - k))+1 by omega];refine⟨D9 R,λi hi=>?_⟩;obtain⟨r1,r2,r3⟩:=iQ hi;have B:i<=k:=by
    rcases gj k i with h | h
    ·have:cP s i (i - 1)=true:=by
      by_cases e:i=k+1
      ·subst e;exact f0
      ·have:=w9 c4 i r1
       rwa [C_ (by omega:k+1<i)]at this
     have D:=r3 _ this;rw[getD_both<|ht (i - 1) om om]at D;cases D
    ·exact h
   by_cases f9:i=k
   ·
    subst f9;have u:∀j,j<i->j≠l->listed.getD j false=true:=λj b f5=>by
     have:=w9 h6 j b;rcases Bool.or_eq_true_iff.1 this with h | h
     ·exact x4 (ga h) f5
     ·exact r3 j h
    have Z:listed.getD l false=false:=by
     rcases gm i0 l with h | h | h
     ·rw[u i0 e8 om]at V;cases V
     ·rw[←h];exact V
     ·rw[u i0 e8 om]at V;cases V
    have g2:m=0:=by
     have D:=Cd (k:=i) (i:=l) (listed:=listed) G (by rw[I];omega) Z;have h2:fW (listed.setIfInBounds l true) i=0:=by
      unfold fW;rw[List.length_eq_zero_iff,List.filter_eq_nil_iff];intro j b;have b:=fg.1 b;by_cases e:j=l
      ·subst e;simp[I,show j<ops.size by omega]
      ·simp[getD_set_true<|u j b e]
     omega
    subst g2;obtain⟨g2,v,D,h3,h4⟩:=fin z g' a1 N (λj b X=>A j (A4 b) (u j (A4 b) λe=>by rw[e]at X;simp at X));refine a5 z g' g2 C d a _ J D ?_;rw[show 0+(ops.size - i)=(ops.size - (i+1))+1 by omega];have g6:(listed.setIfInBounds i true).size=ops.size:=by simp[I]
    have e6:(listed.setIfInBounds i true).getD l false=false:=by rw[getD_set_ne false om];exact Z
    have a9:l∈Region.ready .any ops (listed.setIfInBounds i true):=c6 om g6 e6 λj b=>getD_set_true<|u j (by have:=H l j om b;omega) (by have:=H l j om b;omega);refine⟨D9 a9,λq hq=>?_⟩;obtain⟨q1,q2,q3⟩:=iQ hq;have g9:q=l:=by
     rcases gm q i with h | h | h
     ·exact Classical.byContradiction λe=>by rw[getD_set_true<|u q h e]at q2;cases q2
     ·subst h;simp[I,r1]at q2
     ·by_cases e:q=i+1
      ·subst e;have:=q3 l f8;rw[e6]at this;cases this
      ·have:=bd.1 c4 q<|fg.2 q1;rw[C_ (by omega:i+1<q)]at this;have:=q3 (q - 1) (by exact w8);rw[getD_set_ne false om,getD_both<|ht (q - 1) om om]at this;cases this
    subst g9;obtain⟨c2,b9,_⟩:=L q G;unfold wpOpIn;rw[get q om];simp only[];have hw:=iY J s q;rw[T]at hw;rw[hw,show bV s q z=true by unfold bV;rw[d8],Ϙ rfl];refine kl (by rw[J.eval];exact(hlr z g' (A r M (u r M λe=>by subst e;have:=H r r om O;omega)) _).trans (by rw[h3])) ?_;rw[c2,hd q G];have b7:=b3 (listed:=(listed.setIfInBounds i true).setIfInBounds q true) (by simp[I]) (λj b=>by
     by_cases e:j=q
     ·subst e;simp[I,show j<ops.size by omega]
     ·by_cases e2:j=i
      ·subst e2;exact getD_set_true (by simp[I,r1])
      ·exact getD_set_true<|getD_set_true<|u j om e) (λt D h2=>by rw[getD_set_ne true om,getD_set_ne true om];exact ht t om h2)
    rw[b7];exact b2 _ g2 C d _ (J.put (by rw[←hd q G];exact b9) v) h4
   ·have B:i<k:=by omega
    obtain⟨c2,b9,h9⟩:=L i B;have b5:=hop i B z g' a1 N (λj b e1=>A j (A4 b)<|r3 j e1);have a0:∀v g2 d2,Step [] g' g2->ic Ss i v g2->(i=l->v=f (z<|fN ds r))->wpAnyIn FF 0 P .any ops (cQ n C Q) (m+(ops.size - k)) (listed.setIfInBounds i true) (a.put (zv s i).dst v) (W C g2 d2):=by
     intro v g2 d2 d5 hS h5;rw[c2];refine ih _ (aR z (dstOf s i) v) g2 C d2 _ (J.put b9 v) (by simp[I]) (λt D h2=>by rw[getD_set_ne true om];exact ht t D h2) (λx y hx d7 e4=>?_) (a1.trans d5) (λt d0=>?_) (λj b e0=>?_) (λZ=>?_) ?_
     ·by_cases e:x=i
      ·subst e;exact getD_set_true<|r3 y e4
      ·rw[getD_set_ne false<|Ne.symm e]at d7;exact getD_set_true<|f2 x y hx d7 e4
     ·rw[hY,ϙ<|(ho t).2 d0 i B];exact N t d0
     ·by_cases c1:j=i
      ·subst c1;rw[hY,Ϙ (hd j b).symm];exact hS
      ·rw[hY,ϙ (by rw[←hd j b];exact U j i b B c1)];rw[getD_set_ne false<|Ne.symm c1]at e0;exact mono j b _ g' g2 d5<|A j b e0
     ·have i4:r<l:=H l r om O;by_cases e:i=l
      ·subst e;rw[hY,Ϙ (hd i B).symm,hY,ϙ (by rw[←hd r M];exact U r i M B om)];exact h5 rfl
      ·rw[getD_set_ne false e]at Z;have g3:i≠r:=λe2=>by subst e2;rw[f2 l i G Z O]at r2;cases r2
       rw[hY,ϙ (by rw[←hd l G];exact U l i G B<|Ne.symm e),hY,ϙ (by rw[←hd r M];exact U r i M B<|Ne.symm g3)];exact b6 Z
     ·have:=Cd B (by rw[I];omega) r2;omega
    unfold wpOpIn;rw[get i r1];simp only[];have a3:=iY J s i;rw[T]at a3;rw[a3];cases hw:bV s i z with
    | false=>
     rw[ϙ si];exact⟨B1,a0 undef g' d u4 (b5.2 hw) λe=>by subst e;rw[show bV s i z=true by unfold bV;rw[d8]]at hw;cases hw⟩
    | true=>
     rw[Ϙ rfl];have hq:=b5.1 hw C d;rw[←J.eval]at hq;generalize hrr:(execOp a.eval<|zv s i).run P (W C g' d)=r at *;cases r with
     | halt x w'=>exact hq.elim
     | ok nx w'=>
      cases nx with
      | value v=>
       obtain⟨g2,d2,rfl,a4,hS⟩:=hq;exact kl hrr (a0 v g2 d2 a4 hS λe=>by subst e;rw[J.eval,hlr z g'<|A r M<|r3 r O]at hrr;injection hrr with D _;injection D with D;exact D.symm)
      | enter f args=>
       obtain⟨g2,d2,rfl,a4,g7⟩:=hq;refine Bw hrr ?_;refine(g7 C d2).mono ?_;rintro e w2 ⟨v,g3,d3,rfl,rfl,d6,hS⟩;exact a0 v g3 d3 (a4.trans d6) hS λe=>by subst e;rw[J.eval,hlr z g'<|A r M<|r3 r O]at hrr;cases hrr
      | _=>exact hq.elim
 intro C d a J;rw[←hs];refine wpIn_region_any hm ?_;have hu:fW (Array.replicate ops.size false) k=k:=by
  unfold fW;exact O1
 have hm':=e5 k (Array.replicate ops.size false) E g C (d+1) a J si (λt _ ht=>getD_in (϶ ht)<|L7) (λi j _ Y=>E4 Y) u4 (λ_ _=>rfl)
  (λj _ Y=>E4 Y) (λY=>E4 Y) hu
 rw[show k+(ops.size - k)=ops.size by omega]at hm';exact hm'
end
section
variable {A:Type} {t:Ty A} {S N N':Nat} {eS e:TypeId} {q:aN} {p p':K} {a ap a':Option Addr} {c cp c':Nat} {l x:List A} {L:List (List A)} {H:List (Hd×Nat)} {M:List Nat}
structure dX(t:Ty A)(e:TypeId)(S N:Nat)(p:K)(a:Option Addr)(c:Nat)(l:List A):Prop where
 o:gO t e (N,S) p a c l
 lt:0<l.length->N<p.H.size
def dX.step(s:Step M p p')(h:dX t e S N p a c l):dX t e S N p' a c l:=⟨h.o.step s,λb=>gi (h.lt b) s.1⟩
def dX.nil:dX t e S N p none 0 ([]:List A):=⟨gO.nil,λh=>x4 h (Ϸ 0)⟩
def dX.sl(h:dX t e S N p a c l):Sl t p a c l:=h.o.1
def Gr.slN(h:Gr t true (N,S) p e a c l)(hs:0<t.size):dX t e S N p a c l:=⟨h.slO hs,λd=>by
 rcases h.body with⟨_,f⟩ |⟨b,cur,xs,ha,hr,hH,h1,h2,h3,h4,h5,h6,h7⟩
 ·rw[f]at d;cases d
 ·exact ϣ h7 (ae.1 hH).1⟩
structure fQ(t:Ty A)(S:Nat)(eS:TypeId)(p:K)(L:List (List A))(a:Option Addr)(c:Nat)(l:List A)(H:List (Hd×Nat))(N:Nat):Prop where
 len:H.length=L.length
 row:∀(i:Nat)(x:List A)(h:Hd×Nat),L[i]?=some x->H[i]?=some h->h.1.2.1=x.length/\dX t eS S h.2 p h.1.1 h.1.2.2 x
 pw:H.Pairwise (λx y=>0<x.1.2.1->0<y.1.2.1->x.2≠y.2)
 pa:dX t eS S N p a c l
 ne:∀h∈H,0<h.1.2.1->0<l.length->h.2≠N
def fQ.step(s:Step M p p')(h:fQ t S eS p L a c l H N):fQ t S eS p' L a c l H N:=⟨h.len,λi x y b d=>⟨(h.row i x y b d).1,(h.row i x y b d).2.step s⟩,h.pw,h.pa.step s,h.ne⟩
def fQ.lt(h:fQ t S eS p L a c l H N):∀y∈H,0<y.1.2.1->y.2<p.H.size:=λy d f=>by
 obtain⟨i,hi⟩:=cz d;have b:i<L.length:=h.len▸(cv.1 hi).1;have:=h.row i _ y (cn b) hi;exact this.2.lt (this.1▸f)
def fQ.nil:fQ t S eS p [] none 0 [] [] 0:=⟨rfl,λ_ _ _ h=>by simp at h,.nil,dX.nil,λ_ h=>by cases h⟩
def fQ.part(h:fQ t S eS p L a c l H N)(f:dX t eS S N' p a' c' x)(hN:∀y∈H,0<y.1.2.1->y.2<N'):fQ t S eS p L a' c' x H N':=⟨h.len,h.row,h.pw,f,λy b d _=>Em<|hN y b d⟩
def fQ.push(h:fQ t S eS p L a c l H N)(f:dX t eS S N' p a' c' x)(hN:∀y∈H,0<y.1.2.1->y.2<N')(hp:0<l.length->N<N'):fQ t S eS p (L++[x]) a c l (H++[((a',x.length,c'),N')]) N:=by
 refine⟨by simp[h.len],λi y z b d=>?_,?_,h.pa,λy j k b=>?_⟩
 ·rw[List.getElem?_append]at b d;rw[h.len]at d;split at b
  ·rename_i hi;rw[Ϙ hi]at d;exact h.row i y z b d
  ·rename_i hi;rw[ϙ hi]at d;have m:i - L.length=0:=by
    rcases Nat.eq_zero_or_pos (i - L.length)with h | h
    ·exact h
    ·rw[co (show _<=_ from h)]at b;cases b
   rw[m]at b d;obtain rfl:=A5 b;obtain rfl:=A5 d;exact⟨rfl,f⟩
 ·rw[List.pairwise_append];exact⟨h.pw,by simp,λy j z m k _=>by rw[fh.1 m];exact Em<|hN y j k⟩
 ·rcases er.1 j with j | j
  ·exact h.ne y j k b
  ·rw[fh.1 j];exact(Em<|hp b).symm
def CT:∀{L:List (List A)} {H:List (Hd×Nat)} {xs:List Value},H.length=L.length->(∀(i:Nat)(x:List A)(h:Hd×Nat),L[i]?=some x->H[i]?=some h->h.1.2.1=x.length/\Sl t p h.1.1 h.1.2.2 x)->
  bA tH p xs (H.map Prod.fst)->bA (aW t) p xs L
 |[],[],_,_,_,h=>h
 |[],_::_,_,hl,_,_=>x6 hl
 | _::_,[],_,hl,_,_=>x6 hl
 | x::L,y::H,xs,hl,hr,h=>by
  obtain⟨cs,a,e,c,f⟩:=h;have b:=hr 0 x y rfl rfl;refine⟨cs,a,e,⟨y.1.1,y.1.2.2,?_,b.2⟩,CT (϶ hl) (λi z w j d=>hr (i+1) z w (by simpa using j) (by simpa using d)) f⟩;rw[←b.1];exact c
structure fA(t:Ty A)(S:Nat)(eS:TypeId)(q:aN)(p:K)(e:TypeId)(a:Option Addr)(c:Nat)(L:List (List A))(ap:Option Addr)(cp:Nat)(l:List A)(H:List (Hd×Nat))(N:Nat):Prop where
 gr:Gr tH true q p e a c (H.map Prod.fst)
 ro:fQ t S eS p L ap cp l H N
def fA.gr1(h:fA t S eS q p e a c L ap cp l H N):Gr (aW t) true q p e a c L:=by
 have d:(H.map Prod.fst).length=L.length:=A8 h.ro.len
 refine⟨d▸h.gr.most,?_⟩;rcases h.gr.body with⟨j,k⟩ |⟨g,cur,xs,ha,hr,hH,b,f,h3,h4,h5,h6,h7⟩
 ·rw[k]at d;exact .inl ⟨j,bl (϶ d.symm)⟩
 ·rw[d]at b h4 h5;exact .inr ⟨g,cur,xs,ha,CT h.ro.len (λi x y b f=>⟨(h.ro.row i x y b f).1,(h.ro.row i x y b f).2.sl⟩) hr,hH,b,f,h3,h4,h5,h6,h7⟩
def ew(t:Ty A)(S:Nat)(eS:TypeId)(q:aN)(p:K)(e:TypeId)(a:Option Addr)(c:Nat)(L:List (List A))(ap:Option Addr)(cp:Nat)(l:List A):Prop:=∃H N,fA t S eS q p e a c L ap cp l H N
def fA.step(s:Step M p p')(hm:∀g∈aD a c,g∉M)(h:fA t S eS q p e a c L ap cp l H N):fA t S eS q p' e a c L ap cp l H N:=⟨h.gr.step s hm,h.ro.step s⟩
def fA.step0(s:Step [] p p')(h:fA t S eS q p e a c L ap cp l H N):fA t S eS q p' e a c L ap cp l H N:=L1
def ew.step(s:Step M p p')(hm:∀g∈aD a c,g∉M)(h:ew t S eS q p e a c L ap cp l):ew t S eS q p' e a c L ap cp l:=by obtain⟨H,N,h⟩:=h;exact⟨H,N,h.step s hm⟩
def ew.nil:ew t S eS q p e none 0 [] none 0 ([]:List A):=⟨[],0,Gr.nil,fQ.nil⟩
def ew.gr1(h:ew t S eS q p e a c L ap cp l):Gr (aW t) true q p e a c L:=by obtain⟨H,N,h⟩:=h;exact h.gr1
def fA.sl(h:fA t S eS q p e a c L ap cp l H N):Sl (aW t) p a c L:=h.gr1.sl
def ew.own{p0:K}(h:ew t S eS q p e a c L ap cp l)(h0:p0.H.size<=q.1):∀b∈aD a c,p0.H.size<=b:=h.gr1.own h0
def ew.bn{T:TypeId}{b cs q'}(h:ew t S eS q p e a c L ap cp l)(hb:aI q' p b cs T)(hn:q'≠q):b∉aD a c:=h.gr1.bn hb hn
def ew.nb{T:TypeId}{b cs q'}(h:ew t S eS q p e a c L ap cp l)(hb:aI q' p b cs T)(hn:q≠q'):∀g∈aD a c,g∉[b]:=h.gr1.nb hb hn
def fA.bn{T:TypeId}{b cs q'}(h:fA t S eS q p e a c L ap cp l H N)(hb:aI q' p b cs T)(hn:q'≠q):b∉aD a c:=h.gr1.bn hb hn
def fA.nb{T:TypeId}{b cs q'}(h:fA t S eS q p e a c L ap cp l H N)(hb:aI q' p b cs T)(hn:q≠q'):∀g∈aD a c,g∉[b]:=h.gr1.nb hb hn
def fA.ng{b:Type}{t':Ty b}{e':TypeId}{l':List b}{pub' q'}(h:fA t S eS q p e a c L ap cp l H N)(h':Gr t' pub' q' p e' a' c' l')(hn:q≠q'):∀g∈aD a c,g∉aD a' c':=h.gr1.ng h' hn
def iN(t:Ty A)(S:Nat)(eS:TypeId)(S2:Nat)(p:K)(e:TypeId)(a:Option Addr)(c:Nat)(L:List (List A))(ap:Option Addr)(cp:Nat)(l:List A):Prop:=∃H N,mC tH e S2 p a c (H.map Prod.fst)/\fQ t S eS p L ap cp l H N
section
variable {S2:Nat}
def iN.step(s:Step M p p')(h:iN t S eS S2 p e a c L ap cp l):iN t S eS S2 p' e a c L ap cp l:=by obtain⟨H,N,b,d⟩:=h;exact⟨H,N,b.step s,d.step s⟩
def ew.flO(h:ew t S eS (N,S2) p e a c L ap cp l):iN t S eS S2 p e a c L ap cp l:=by obtain⟨H,N,h⟩:=h;exact⟨H,N,⟨_,h.gr.slO (by decide)⟩,h.ro⟩
def iN.nil:iN t S eS S2 p e none 0 [] none 0 ([]:List A):=⟨[],0,⟨0,gO.nil⟩,fQ.nil⟩
def iN.pa(h:iN t S eS S2 p e a c L ap cp l):Sl t p ap cp l:=by obtain⟨H,N,_,b⟩:=h;exact b.pa.sl
def iN.sl(h:iN t S eS S2 p e a c L ap cp l):Sl (aW t) p a c L:=by
 obtain⟨H,N,⟨_,⟨k,j,m⟩,_⟩,d⟩:=h;have u:(H.map Prod.fst).length=L.length:=A8 d.len
 rw[u]at k j m;refine⟨k,j,λy=>?_⟩;obtain⟨b,o,v,w⟩:=m y;refine⟨b,o,v,λi x n=>?_⟩;have hi:i<H.length:=d.len▸(cv.1 n).1;obtain⟨cs,f,r⟩:=w i _ (by rw[cw,cn hi];rfl);have:=d.row i x _ n<|cn hi;exact⟨cs,f,H[i].1.1,H[i].1.2.2,by rw[←this.1];exact r,this.2.sl⟩
end
end
section
variable [Fc] [Fb] {P:Program} {n:Nat} {c:Code} {i:Nat} {Q:bH} {E:aK} {o:K} {q:Type} {t:Ty q} {S N N':Nat} {eS e T:TypeId} {p p2:aN} {a a2 ap a':Option Addr} {cp c2 cq c':Nat} {l x:List q} {L r:List (List q)} {H:List (Hd×Nat)}
def UC{d bytes}(hx:aX bytes L [x]=some r)(F:fA t S eS p o e a cp L ap cq l H N)(lit:Gr tH true p2 o e a2 c2 [(a',x.length,c')])(G:dX t eS S N' o a' c' x)(hN:∀y∈H,0<y.1.2.1->y.2<N')(hp:0<l.length->N<N')(hτ:p.1<=o.H.size)(hk:∀a' c' o',Step (aD a cp) o o'->ew t S eS p o' e a' c' r ap cq l->(∀g∈aD a' c',g∈aD a cp\/o.H.size<=g)->aS P n c (i+1) Q (aR E d (.slice a' r.length c')) o')(h:st c i n E (some d)=true:=by kernel_rfl)(ho:execOp (ev E) (zv c i)=aY (Builtin.append_ #[T,T] 0 #[.slice a L.length cp,.slice a2 1 c2]):=by kernel_rfl)(hT:hX P T=some (e,tH.size,tH.size,bytes):=by kernel_rfl):aS P n c i Q E o:=by
 obtain⟨k,j,rfl⟩:=nU hx;have b:(H.map Prod.fst).length=L.length:=A8 F.ro.len
 have m:aX bytes (H.map Prod.fst) [(a',x.length,c')]=some (H.map Prod.fst++[(a',x.length,c')]):=by
  unfold aX;rw[Ϙ (by rw[b];exact⟨k,j⟩)]
 refine Nu (d:=d) (T:=T) (e:=e) (t:=tH) (pub:=true) (τ:=p) (bytes:=bytes) (a:=a) (cp:=cp) (a2:=a2) (c2:=c2) (l2:=[(a',x.length,c')]) L.length (L++[x]).length b (by simp[F.ro.len]) h ho F.gr lit.sl hτ hT m λa3 c3 o' s g f=>?_;exact hk a3 c3 o' s ⟨H++[((a',x.length,c'),N')],N,by rw[eh];exact g,(F.ro.step s).push (G.step s) hN hp⟩ f
end
def a_[Fc][Fb]{E:aK}{cs:List Value}{T T':TypeId}{P c d a b}(B:aI d c b cs T')(h1:E a=.pointer (some ⟨b,0,none⟩):=by kernel_rfl)(h2:dw P T=some true:=by kernel_rfl)(h3:zL P T=some cs.length:=by kernel_rfl):
  ∃b' off cs',E a=.pointer (some ⟨b',off,none⟩)/\Value.agg cs.toArray=.agg cs'.toArray/\dw P T=some true/\zL P T=some cs'.length/\kp c b' off cs':=⟨b,0,cs,h1,rfl,h2,h3,B.at.2⟩
end Go.Lf
