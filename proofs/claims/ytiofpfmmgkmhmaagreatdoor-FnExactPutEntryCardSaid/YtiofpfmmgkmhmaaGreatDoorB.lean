import Derived.Test.YtiofpfmmgkmhmaaGreatDoorA
import Derived.Conc.SmallLaws
import Derived.Lib.SliceRun
import Derived.Sort.Row
import Derived.RangeFuncSeq
import Derived.RangeFuncLeaves
import Derived.Laws.Append
import Derived.Maps.RangeRun
import Derived.Shelf.SlSortCmp.WholeK
import Derived.Shelf.SlSortCmp.NoneTotal
import Derived.Lib.UnsafeStr
import Derived.Laws.IdiomStrings
set_option linter.all false
set_option maxHeartbeats 1000000
set_option maxRecDepth 100000
namespace Go.Lf
open Go
section
variable {P:Program} {α:Type} {t:Ty α} {κ:K} {e T:TypeId} {a:Option Addr} {cp:Nat} {l r:List α} {τ:aK} {pub:Bool}
def aZ.take:∀{l:List α} {xs:List Value} (i:Nat),aZ t κ xs l->aZ t κ (xs.take (i*t.size)) (l.take i)
 |[],xs,i,h=>by
  have:xs=[]:=h;subst this;simp[aZ]
 | x::l,xs,0,h=>by simp[aZ]
 | x::l,xs,i+1,⟨c,xs',e,ho,hr⟩=>by
  subst e;rw[List.take_succ_cons];refine⟨c,xs'.take (i*t.size),?_,ho,hr.take i⟩;have a:=t.len ho;rw[List.take_append,gp (by rw[a,gq];omega)];congr 1;rw[a,gq];congr 1;omega
def Gr.cap(h:Gr t pub τ κ e a cp l):l.length<=cp:=by
 rcases h.body with⟨_,b⟩ |⟨g,cur,xs,ha,hr,hH,h1,_⟩
 ·rw[b];simp
 ·exact h1
theorem Gr.take(h:Gr t false τ κ e a cp l)i:Gr t false τ κ e a cp (l.take i):=by
 refine⟨gy (by rw[fd];exact Nat.min_le_right _ _) h.most,?_⟩;rcases h.body with⟨b,c⟩ |⟨g,cur,xs,ha,hr,hH,h1,h2,h3,h4,h5,h6,h7⟩
 ·exact .inl ⟨b,by rw[c];simp⟩
 ·refine .inr ⟨g,cur,xs.take (i*t.size),ha,hr.take i,hH,by rw[fd];exact gy (Nat.min_le_right _ _) h1,h2,h3,?_,h5,h6,h7⟩;rw[←h4,List.take_take,fd]
  simp_all
def yP{lo hi:Option Int}(hT:zK P T=some e)(hs:zO P e=some t.size)(c:l.length<=cp)(hx:dR l (lo.getD 0) (hi.getD l.length)=some r)w:
  (Instr.sliceAt T (.slice a l.length cp) (jB lo) (jB hi) none).run P w=.ok (.slice (if cp=(lo.getD 0).toNat then a else a.map (·.add ((lo.getD 0).toNat*t.size))) r.length (cp - (lo.getD 0).toNat)) w:=by
 have b:=lu hT;obtain⟨k,j,h,f⟩:=tG hx;have m:=c;have hlen:r.length=(hi.getD l.length).toNat - (lo.getD 0).toNat:=by
  rw[f,ek,fd];omega
 have c:(hi.getD l.length).toNat<=cp:=by omega
 unfold Instr.sliceAt Instr.slice Instr.sliceBounds;rw[hlen];cases lo with
 | none=>
  cases hi with
  | none=>simp[zG b,jB,gV hs]
  | some hv=>
   simp only[io,Option.getD_none]at *;have d:0<=hv/\hv<=(cp:Int):=by omega
   simp[zG b,jB,gV hs,Instr.sliceBound,asIntOf,d]
 | some lv=>
  cases hi with
  | none=>
   simp only[io,Option.getD_none]at *;have d:0<=lv/\lv<=(l.length:Int):=by omega
   simp[zG b,jB,gV hs,Instr.sliceBound,asIntOf,d]
  | some hv=>
   simp only[io]at *;have d:0<=hv/\hv<=(cp:Int):=by omega
   have g:0<=lv/\lv<=(hv.toNat:Int):=by omega
   simp[zG b,jB,gV hs,Instr.sliceBound,asIntOf,d,g];intro i;omega
def add_zero(a:Option Addr)c:(if c=0 then a else a.map (·.add 0))=a:=by
 split
 ·rfl
 ·cases a with
  | none=>rfl
  | some x=>cases x with
   | mk b o r=>
    cases r with
    | none=>rfl
    | some q=>rfl
def i_{α:Type}(l:List α)(lo:Int)(z:α):Option (List α):=if 0<=lo/\lo<=l.length then some (l.take lo.toNat++List.replicate (l.length - lo.toNat) z)else none
def HZ{lo:Int}{z:α}(h:i_ l lo z=some r):0<=lo/\lo<=l.length/\r=l.take lo.toNat++List.replicate (l.length - lo.toNat) z:=by
 unfold i_ at h;split at h
 ·rename_i h0;exact⟨h0.1,h0.2,(Option.some.inj h).symm⟩
 ·cases h
theorem RM{ty:TypeId}{zs:List Value}{z:α}{lo:Int}(hT:zK P T=some e)(hz:(eJ P e).map Value.cells=some zs.toArray)(hzo:t.own κ zs z)(h:Gr t false τ κ e a cp l)(A:i_ l lo z=some r)[Fb](C:Cx)d:
  ∃κ',(Builtin.clear_ #[T] ty #[.slice (if cp=lo.toNat then a else a.map (·.add (lo.toNat*t.size))) (l.length - lo.toNat) (cp - lo.toNat)]).run P (W C κ d)=.ok (.tuple #[]) (W C κ' d)/\Step (aG a cp) κ κ'/\Gr t false τ κ' e a cp r:=by
 obtain⟨I,J,rfl⟩:=HZ A;have p:=lu hT;by_cases s:l.length - lo.toNat=0
 ·refine⟨κ,?_,Step.refl _ _,?_⟩
  ·rw[s];generalize (if cp=lo.toNat then a else a.map (·.add (lo.toNat*t.size)))=aa;cases aa<;>simp[Builtin.clear_,zG p]
  ·rw[s];have:l.take lo.toNat=l:=gp om;rw[this];simpa using h
 ·rcases h.body with⟨M,F⟩ |⟨g,cur,xs,ha,hr,hH,h2,h3,h4,h5,h6,h7,h8⟩
  ·rw[F]at s;simp at s
  ·subst ha;obtain⟨L,v,y⟩:=ip.1 hz;have c:aI τ κ g cur.toList e:=⟨by simpa using hH,by rw[h6];simp,h7,h8⟩;have w:=t.len hzo;have f:aZ t κ (Builtin.zeroCells zs.toArray<|l.length - lo.toNat).toList (List.replicate (l.length - lo.toNat) z):=by
    have:=OC hzo<|l.length - lo.toNat;have E:(Builtin.zeroCells zs.toArray<|l.length - lo.toNat).toList=(List.range<|(l.length - lo.toNat)*t.size).map λi=>(zs.toArray)[i % zs.toArray.size]!:=by
     simp[Builtin.zeroCells,w]
    rw[E];exact this
   have k:=f.length;rw[ey]at k;have q:cur.toList.length=cp*t.size:=by simpa using h4
   have B:lo.toNat*t.size+(l.length - lo.toNat)*t.size=l.length*t.size:=by rw[←gq];congr 1;omega
   have H:l.length*t.size<=cp*t.size:=ii _ h2;have b:Step [g] κ (κ.setB g (splice cur.toList (lo.toNat*t.size) (Builtin.zeroCells zs.toArray<|l.length - lo.toNat).toList) e):=ly c;refine⟨κ.setB g (splice cur.toList (lo.toNat*t.size) (Builtin.zeroCells zs.toArray<|l.length - lo.toNat).toList) e,?_,b.mono (λx A=>by rw[ga.1 A];exact hE (a:=⟨g,0,none⟩) om),?_⟩
   ·have u:¬cp=lo.toNat:=by omega
    rw[if_neg u];have G:(Option.map (λx=>Addr.add x (lo.toNat*t.size))<|some (⟨g,0,none⟩:Addr))=some ⟨g,lo.toNat*t.size,none⟩:=by simp[js]
    rw[G];have n:=Gb (P:=P) (C:=C) (d:=d) (off:=lo.toNat*t.size) (Builtin.zeroCells zs.toArray<|l.length - lo.toNat).toList 0 κ cur.toList c f.one (by rw[k,q];omega);rw[Nat.add_zero]at n;obtain⟨m,hm⟩:∃m,l.length - lo.toNat=m+1:=⟨l.length - lo.toNat - 1,by omega⟩;rw[hm]at n ⊢;simp[Builtin.clear_,zG p,sO v,y]
    simp_all
   ·have hlen:(l.take lo.toNat++List.replicate (l.length - lo.toNat) z).length=l.length:=by
     rw[ef,fd,ey];omega
    have D:(l.take lo.toNat).length=lo.toNat:=by rw[fd];omega
    refine⟨by rw[hlen];exact h.most,.inr ⟨g,_,xs.take (lo.toNat*t.size)++(Builtin.zeroCells zs.toArray<|l.length - lo.toNat).toList,rfl,(hr.take _ |>.step b).append<|f.step b,(kI c).obj,by rw[hlen];exact h2,h3,by rw[gk,pd,q],?_,h6,h7,h8⟩⟩;rw[hlen];apply ce;intro j
    grind [mV]
end
section
variable [Fc] [Fb] {P:Program} {n:Nat} {c:Code} {i:Nat} {Q:bC} {E:aB} {κ:K} {α:Type} {t:Ty α} {τ:aK} {e T:TypeId} {a:Option Addr} {cp:Nat} {l r:List α}
def IP d{hi}(hg:Gr t false τ κ e a cp l)(hx:dR l 0 hi=some r)(hk:Gr t false τ κ e a cp r->aN P n c (i+1) Q (aQ E d (.slice a r.length cp)) κ)(h:st c i n E (some d)=true:=by kernel_rfl)(ho:execOp (ev E) (zw c i)=aW (Instr.sliceAt T (.slice a l.length cp) none (jB (some hi)) none):=by kernel_rfl)(hT:zK P T=some e:=by kernel_rfl)(hs:zO P e=some t.size:=by kernel_rfl):aN P n c i Q E κ:=by
 have b:=(tG hx).2.2.2;refine iR _ h (λC g=>by rw[ho];exact zI<|yP (lo:=none) (hi:=some hi) hT hs hg.cap hx _) ?_;have f:((Option.getD none 0:Int).toNat)=0:=rfl;rw[f,Nat.zero_mul,add_zero,Nat.sub_zero];refine hk ?_;rw[b];exact hg.take _
theorem Ks d d2{lo:Int}(zs:List Value){z:α}(hg:Gr t false τ κ e a cp l)(hzo:t.own κ zs z)(hx:i_ l lo z=some r)(hk:∀κ',Step (aG a cp) κ κ'->Gr t false τ κ' e a cp r->aN P n c (i+1+1) Q (aQ E d (.slice (if cp=lo.toNat then a else a.map (·.add (lo.toNat*t.size))) (l.length - lo.toNat) (cp - lo.toNat))) κ')(h:st c i n E (some d)=true:=by kernel_rfl)(ho:execOp (ev E) (zw c i)=aW (Instr.sliceAt T (.slice a l.length cp) (jB (some lo)) none none):=by kernel_rfl)(h2:∀v,st c (i+1) n (aQ E d v) none=true:=by intro _;kernel_rfl)(ho2:∀v,execOp (ev (aQ E d v)) (zw c (i+1))=aW (Builtin.clear_ #[T] d2 #[v]):=by intro _;kernel_rfl)(hT:zK P T=some e:=by kernel_rfl)(hs:zO P e=some t.size:=by kernel_rfl)(hz:(eJ P e).map Value.cells=some zs.toArray:=by kernel_rfl):aN P n c i Q E κ:=by
 obtain⟨u,s,q⟩:=HZ hx;have f:dR l (Option.getD (some lo) 0) (Option.getD none (l.length:Int))=some (l.drop lo.toNat):=by
  unfold dR
  simp_all
 refine iR _ h (λC j=>by rw[ho];exact zI<|yP (lo:=some lo) (hi:=none) hT hs hg.cap f _) ?_;simp only[io];rw[ek];refine lD (h2 _) (λC j a' m=>?_);obtain⟨κ',b,g,k⟩:=RM (ty:=d2) hT hz hzo hg hx C j;obtain⟨_,_,p,_⟩:=iU<|h2<|.slice (if cp=lo.toNat then a else a.map (·.add (lo.toNat*t.size))) (l.length - lo.toNat)<|cp - lo.toNat;refine kG (by rw[m.eval,ho2];exact zI b) ?_;rw[p];exact hk κ' g k C j _ m
end
def Jg{α:Type}{l r:List α}{z:α}{lo}(h:i_ l lo z=some r):r.length=l.length:=by
 obtain⟨b,a,rfl⟩:=HZ h;rw[ef,fd,ey];omega
section
variable {P:Program} {f:FuncId} {args:Array Value} {κ:K} {α:Type} {t:Ty α} {τ:aK} {e:TypeId} {a:Option Addr} {c:Nat} {l:List α}
def K.frB(κ:K)(g m:Nat):K:=⟨κ.H,λb=>if b=g then m else κ.fr b,κ.tag⟩
def Fn.borrow{B:Value->Prop}(hg:Gr t false τ κ e a c l)(h:∀κ1,κ1.H=κ.H->Step (aG a c) κ κ1->Gr t true τ κ1 e a c l->Fn P f args κ1 (λv κ'=>Step [] κ1 κ'/\B v)):Fn P f args κ (λv κ'=>Step [] κ κ'/\B v):=by
 by_cases hp:∃g,aG a c=[g]
 ·obtain⟨g,m⟩:=hp;obtain⟨κ1,k,n,r⟩:=hg.publish;have D:=h κ1 k n r;intro C d;have y:W C κ d=W C κ1 d:=by unfold W;rw[k]
  rw[y];refine(D C d).mono ?_;rintro ex w' ⟨v,κ2,F,q,E,hs,G⟩;refine⟨v,K.frB κ2 g<|κ.fr g,F,q,by rw[E];unfold W K.frB;rfl,?_,G⟩;have u:=hg.lt g (by rw[m];simp);have s:∀b,b<κ.H.size->(K.frB κ2 g<|κ.fr g).shp b=κ.shp b:=λb i=>by
   show κ2.shp b=κ.shp b;unfold K.shp;rw[(hs.2.1 b (by rw[k];exact i) si).1,k]
  have A:∀b,b<κ.H.size->(K.frB κ2 g<|κ.fr g).tag b=κ.tag b:=λb i=>by
   show κ2.tag b=κ.tag b;rw[(hs.2.1 b (by rw[k];exact i) si).2.2];by_cases j:b=g
   ·subst j;exact(r.lt b (by rw[m];simp)).2.1.trans u.2.1.symm
   ·exact(n.2.1 b i (by rw[m];simpa using j)).2.2
  refine⟨by rw[←k];exact hs.1,λb i _=>?_,λb i=>?_,λb i _=>⟨A b i,s b i⟩⟩
  ·have p:=hs.2.1 b (by rw[k];exact i) si;have H:(K.frB κ2 g<|κ.fr g).H[b]?=κ.H[b]?:=by
    show κ2.H[b]?=κ.H[b]?;rw[p.1,k]
   by_cases j:b=g
   ·subst j;refine⟨H,by simp[K.frB],?_⟩;show κ2.tag b=κ.tag b;rw[p.2.2];exact(r.lt b (by rw[m];simp)).2.1.trans u.2.1.symm
   ·have w:=n.2.1 b i (by rw[m];simpa using j);refine⟨H,?_,?_⟩
    ·simp only[K.frB,if_neg j];rw[p.2.1,w.2.1]
    ·show κ2.tag b=κ.tag b;rw[p.2.2,w.2.2]
  ·have p:=hs.2.1 b (by rw[k];exact i) si;have x:∀o,(K.frB κ2 g<|κ.fr g).cell b o=κ.cell b o:=λo=>by
    show K.cell κ2 b o=K.cell κ b o;unfold K.cell;rw[p.1,k]
   refine⟨?_,λo _=>x o⟩;by_cases j:b=g
   ·subst j;simp[K.frB]
   ·have w:=n.2.1 b i (by rw[m];simpa using j);simp only[K.frB,if_neg j];rw[p.2.1,w.2.1];exact gv _
 ·have m:aG a c=[]:=by
   cases a with
   | none=>rfl
   | some ad=>
    by_cases x:c=0
    ·rw[x,pO]
    ·exact absurd ⟨ad.block,by simp[aG,x]⟩ hp
  obtain⟨κ1,k,n,r⟩:=hg.publish;have D:=h κ1 k n r;intro C d;have y:W C κ d=W C κ1 d:=by unfold W;rw[k]
  rw[y];rw[m]at n;refine(D C d).mono ?_;rintro ex w' ⟨v,κ2,F,q,E,hs,G⟩;exact⟨v,κ2,F,q,E,n.trans hs,G⟩
end
def Gr.any{α:Type}{t:Ty α}{pub τ}(τ':aK){e:TypeId}{l:List α}{κ a c}(h:Gr t pub τ κ e a c l)(hb:aG a c=[]):Gr t pub τ' κ e a c l:=by
 refine⟨h.most,?_⟩;rcases h.body with h1 |⟨g,cur,xs,ha,hr,hH,h1,_⟩
 ·exact .inl h1
 ·have b:c=0:=by
   subst ha;by_cases b:c=0
   ·exact b
   ·simp[aG,b]at hb
  exact .inl ⟨b,ca om⟩
def Gr.lo{α:Type}{t:Ty α}{κ:K}{e:TypeId}{l:List α}{pub τ a c}(h:Gr t pub τ κ e a c l):τ.1<κ.H.size\/aG a c=[]:=by
 by_cases b:aG a c=[]
 ·exact .inr b
 ·obtain⟨g,d⟩:=List.exists_mem_of_ne_nil _ b;have:=h.lt g d;exact .inl<|Nat.lt_of_le_of_lt this.2.2 this.1
def Gr.low{α:Type}{t:Ty α}{κ:K}{e:TypeId}{l:List α}{pub N i m a c}(h:Gr t pub (N,i) κ e a c l)(go:m<=N)(hb:m<κ.H.size):
  ∃N',m<=N'/\N'<κ.H.size/\Gr t pub (N',i) κ e a c l:=by
 rcases h.lo with h1 | h1
 ·exact⟨N,go,h1,h⟩
 ·exact⟨m,gv _,hb,h.any _ h1⟩
abbrev Hd:=Option Addr×Nat×Nat
def tH:Ty Hd:=⟨1,λ_ cs h=>cs=[.slice h.1 h.2.1 h.2.2],λh=>by rw[h];rfl,λ_ h=>h,λh v hv=>by rw[h]at hv;simp at hv;subst hv;rfl⟩
def fU(h:Hd):List Nat:=aG h.1 h.2.2
def mblk(a:Option Addr)(c:Nat)(hs:List Hd):List Nat:=aG a c++hs.flatMap fU
def AZ(a:Option Addr)c:(aG a c).Nodup:=by
 unfold aG;cases a with
 | none=>simp
 | some x=>simp only[];split<;>simp
structure aX{α:Type}(t:Ty α)(pub:Bool)(τ:aK)(κ:K)(eo ei:TypeId)(a:Option Addr)(c:Nat)(hm hs:List Hd)(L:List (List α)):Prop where
 out:Gr tH false τ κ eo a c hm
 len:hs.length=L.length
 rows:∀(i:Nat)(h:Hd)(l:List α),hs[i]?=some h->L[i]?=some l->h.2.1=l.length/\Gr t pub τ κ ei h.1 h.2.2 l
 nd:(mblk a c hs).Nodup
section
variable {α:Type} {t:Ty α} {pub:Bool} {τ:aK} {κ κ':K} {eo ei:TypeId} {a:Option Addr} {c:Nat} {hm hs:List Hd} {L:List (List α)} {M:List Nat}
theorem tL{g:Nat}:g∈mblk a c hs↔g∈aG a c\/∃(i:Nat)(h:Hd),hs[i]?=some h/\g∈fU h:=by
 unfold mblk;rw[fj,List.mem_flatMap];constructor
 ·rintro(h |⟨x,d,b⟩)
  ·exact .inl h
  ·obtain⟨i,hi⟩:=du d;exact .inr ⟨i,x,hi,b⟩
 all_goals grind
def aX.row_at(h:aX t pub τ κ eo ei a c hm hs L){i:Nat}{hd:Hd}(hi:hs[i]?=some hd):∃l,L[i]?=some l/\hd.2.1=l.length/\Gr t pub τ κ ei hd.1 hd.2.2 l:=by
 have b:i<L.length:=by rw[←h.len];exact(dm.1 hi).1
 have d:L[i]?=some L[i]:=by simp[b]
 exact⟨L[i],d,h.rows i hd _ hi d⟩
def aX.lt(h:aX t pub τ κ eo ei a c hm hs L):∀g∈mblk a c hs,g<κ.H.size/\κ.tag g=τ/\τ.1<=g:=by
 intro g b;rcases tL.1 b with b |⟨i,hd,hi,b⟩
 ·exact h.out.lt g b
 ·obtain⟨l,_,_,d⟩:=h.row_at hi;exact d.lt g b
def aX.step(s:Step M κ κ')(hM:∀g∈mblk a c hs,g∉M)(h:aX t pub τ κ eo ei a c hm hs L):aX t pub τ κ' eo ei a c hm hs L:=⟨h.out.step s (λg b=>hM g<|tL.2<|.inl b),h.len,λi hd l hi d=>⟨(h.rows i hd l hi d).1,(h.rows i hd l hi d).2.step s (λg b=>hM g<|tL.2<|.inr ⟨i,hd,hi,b⟩)⟩,h.nd⟩
def aX.step0(s:Step [] κ κ')(h:aX t pub τ κ eo ei a c hm hs L):aX t pub τ κ' eo ei a c hm hs L:=h.step s si
def aX.most(h:aX t pub τ κ eo ei a c hs hs L):L.length<=9223372036854775807:=by rw[←h.len];exact tO h.out.most
def aX.idx{ix:Int}{l:List α}(h:aX t pub τ κ eo ei a c hs hs L)(hx:idx L ix=some l):
  ∃b ah ch,a=some ⟨b,0,none⟩/\0<=ix/\ix<(L.length:Int)/\hs[ix.toNat]?=some (ah,l.length,ch)/\At κ b (0+ix.toNat*1) [.slice ah l.length ch]/\Gr t pub τ κ ei ah ch l:=by
 obtain⟨j,q,p⟩:=iO hx;have f:ix.toNat<hs.length:=by rw[h.len];omega
 have g:hs[ix.toNat]?=some hs[ix.toNat]:=by simp[f]
 obtain⟨i,m⟩:=h.rows _ _ _ g p;have e:Lf.idx hs ix=some hs[ix.toNat]:=by unfold Lf.idx;rw[if_pos j];exact g
 obtain⟨b,n,_,_,cs,d,k⟩:=h.out.idx e;refine⟨b,hs[ix.toNat].1,hs[ix.toNat].2.2,n,j,q,?_,?_,m⟩
 ·rw[g,←i]
 ·have:cs=[.slice hs[ix.toNat].1 hs[ix.toNat].2.1 hs[ix.toNat].2.2]:=k;rw[this,i]at d;exact d
def aX.made{n}(h:Gr tH false τ κ eo a c (List.replicate n (none,0,0))):aX t pub τ κ eo ei a c (List.replicate n (none,0,0)) (List.replicate n (none,0,0)) (List.replicate n ([]:List α)):=by
 refine⟨h,by simp,λi hd l hi d=>?_,?_⟩
 ·have b:hd=(none,0,0):=List.eq_of_mem_replicate<|fx hi;have e:l=[]:=List.eq_of_mem_replicate<|fx d;subst b;subst e;exact⟨rfl,Gr.nil⟩
 ·unfold mblk;have:(List.replicate n ((none,0,0):Hd)).flatMap fU=[]:=by
   rw[List.flatMap_eq_nil_iff];intro x f;rw[List.eq_of_mem_replicate f];rfl
  rw[this,bq];exact AZ a c
def ZJ{i hd h'}(hi:hs[i]?=some hd):∃X Y,hs.flatMap fU=X++fU hd++Y/\(hs.set i h').flatMap fU=X++fU h'++Y:=by
 have a:=(dm.1 hi).1;have b:=(dm.1 hi).2;refine⟨(hs.take i).flatMap fU,(hs.drop (i+1)).flatMap fU,?_,?_⟩
 ·have:hs=hs.take i++hd::hs.drop (i+1):=by
   rw[←b,List.getElem_cons_drop,List.take_append_drop]
  conv=>lhs;rw[this]
  simp[co,cv,bp]
 ·rw[List.set_eq_take_append_cons_drop,if_pos a];simp[co,cv,bp]
theorem NS{B':List Nat}{A X B Y n}(h:(A++(X++B++Y)).Nodup)(hb:B'.Nodup)(hlt:∀g∈A++(X++B++Y),g<n)(hw:∀g∈B',g∈B\/n<=g):(A++(X++B'++Y)).Nodup:=by
 simp only[gd,fj]at h hlt ⊢
 grind
def aX.row(h:aX t pub τ κ eo ei a c hm hs L){l':List α}{i hd a' c'}(hi:hs[i]?=some hd)(s:Step (fU hd) κ κ')(g:Gr t pub τ κ' ei a' c' l')(hw:∀x∈aG a' c',x∈fU hd\/κ.H.size<=x):aX t pub τ κ' eo ei a c hm (hs.set i (a',l'.length,c')) (L.set i l'):=by
 have f:=(dm.1 hi).1;obtain⟨X,Y,v,A⟩:=ZJ (h':=(a',l'.length,c')) hi;have e:=h.nd;unfold mblk at e;refine⟨h.out.step s (λx m u=>?_),by rw[fa,fa];exact h.len,λj y l b d=>?_,?_⟩
 ·rw[gd]at e;exact e.2.2 x m x (by rw[v];simp[u]) rfl
 ·by_cases k:i=j
  ·subst k;rw[dz f]at b;rw[dz (by rw[←h.len];exact f)]at d;injection b with b;injection d with d
   subst b;subst d;exact⟨rfl,g⟩
  ·rw[dy k]at b d;refine⟨(h.rows j y l b d).1,(h.rows j y l b d).2.step s (λx m u=>?_)⟩;have w:=(gd.1 e).2.1;have hp:=(List.pairwise_flatMap.1 w).2;have p:=(dm.1 b).1;have q:=gi.1 hp;have ei':=(dm.1 hi).2;have r:=(dm.1 b).2;rcases ie k with hlt' | hlt'
   ·have:=q i j f p hlt';rw[ei',r]at this;exact this x u x m rfl
   ·have:=q j i p f hlt';rw[ei',r]at this;exact this x m x u rfl
 ·unfold mblk;rw[A];rw[v]at e;refine NS e (AZ a' c') (n:=κ.H.size) (λx m=>?_) hw;have:x∈mblk a c hs:=by unfold mblk;rw[v];exact m
  exact(h.lt x this).1
def aX.outer(h:aX t pub τ κ eo ei a c hm hs L){a' c' hm'}(s:Step (aG a c) κ κ')(g:Gr tH false τ κ' eo a' c' hm')(hw:∀x∈aG a' c',x∈aG a c\/κ.H.size<=x):aX t pub τ κ' eo ei a' c' hm' hs L:=by
 have b:=h.nd;unfold mblk at b;refine⟨g,h.len,λi hd l hi e=>⟨(h.rows i hd l hi e).1,(h.rows i hd l hi e).2.step s (λx d f=>?_)⟩,?_⟩
 ·exact(gd.1 b).2.2 x f x (List.mem_flatMap.2 ⟨hd,fx hi,d⟩) rfl
 ·unfold mblk;have:=NS (A:=[]) (X:=[]) (B:=aG a c) (Y:=hs.flatMap fU) (B':=aG a' c') (n:=κ.H.size) (by simpa using b) (AZ a' c') (λx d=>(h.lt x (by simpa[mblk]using d)).1) hw;simpa using this
def K.retag(κ:K)(B:List Nat)(τ:aK):K:=⟨κ.H,κ.fr,λb=>if b∈B then τ else κ.tag b⟩
def Gr.fr0{e:TypeId}{l:List α}(h:Gr t false τ κ e a c l):∀g∈aG a c,κ.fr g=0:=by
 intro g b;rcases h.body with⟨d,_⟩ |⟨g',cur,xs,ha,hr,hH,h1,h2,h3,h4,h5,h6,h7⟩
 ·rw[d,pO]at b;cases b
 ·rw[ha]at b;have:=(ub b).1;rw[this];simpa using h5
def Gr.retag{e:TypeId}{l:List α}{τ'}(h:Gr t false τ κ e a c l)(hle:τ'.1<=τ.1):Gr t false τ' (κ.retag (aG a c) τ') e a c l/\Step (aG a c) κ (κ.retag (aG a c) τ'):=by
 have hs:Step (aG a c) κ (κ.retag (aG a c) τ'):=⟨gv _,λb f hm=>⟨rfl,rfl,by simp[K.retag,hm]⟩,λb f=>⟨gv _,λo _=>rfl⟩,λb f i=>⟨by
  have:b∉aG a c:=λhm=>by rw[h.fr0 b hm]at i;omega
  simp[K.retag,this],rfl⟩⟩
 refine⟨⟨h.most,?_⟩,hs⟩;rcases h.body with h1 |⟨g,cur,xs,ha,hr,hH,h1,h2,h3,h4,h5,h6,h7⟩
 ·exact .inl h1
 ·by_cases d:c=0
  ·exact .inl ⟨d,ca om⟩
  ·refine .inr ⟨g,cur,xs,ha,hr.step hs,hH,h1,h2,h3,h4,h5,?_,gy hle h7⟩;have:g∈aG a c:=by rw[ha];exact hE (a:=⟨g,0,none⟩) om
   simp[K.retag,this]
def aX.snoc{l:List α}{τr ar cr}(h:aX t false τ κ eo ei a c hm hs L)(g:Gr t false τr κ ei ar cr l)(hne:τr≠τ)(hle:τ.1<=τr.1):
  ∃κ',κ'.H=κ.H/\Step (aG ar cr) κ κ'/\aX t false τ κ' eo ei a c hm (hs++[(ar,l.length,cr)]) (L++[l]):=by
 obtain⟨q,s⟩:=g.retag (τ':=τ) hle;have b:∀x∈mblk a c hs,x∉aG ar cr:=λx m r=>hne<|(g.lt x r).2.1.symm.trans (h.lt x m).2.1;have h':=h.step s b;refine⟨κ.retag (aG ar cr) τ,rfl,s,h'.out,by rw[ef,ef,h.len];rfl,λi hd l1 hi d=>?_,?_⟩
 ·by_cases f:i<hs.length
  ·rw[df f]at hi;rw[df (by rw[←h.len];exact f)]at d;exact h'.rows i hd l1 hi d
  ·rw[dg om]at hi;rw[dg (by rw[←h.len];omega)]at d;have n:i - hs.length=0:=by
    have:=(dm.1 hi).1;simp at this;omega
   rw[n]at hi;rw[←h.len,n]at d;simp at hi d;subst hi;subst d;exact⟨rfl,q⟩
 ·have j:=h.nd;unfold mblk at j ⊢;rw[co,←bp,gd];refine⟨j,by simpa[fU]using AZ ar cr,λx m y p=>?_⟩;have k:y∈aG ar cr:=by simpa[fU]using p
  intro e;subst e;exact b x m k
end
section
variable {α:Type} {t:Ty α} {pub:Bool} {τ:aK} {κ κ':K} {eo ei:TypeId} {a:Option Addr} {c:Nat} {hm hs:List Hd} {L:List (List α)} {M:List Nat}
def Gr.publish'{e:TypeId}{l:List α}(h:Gr t pub τ κ e a c l):∃κ',κ'.H=κ.H/\κ'.tag=κ.tag/\Step (aG a c) κ κ'/\Gr t true τ κ' e a c l:=by
 cases pub with
 | true=>exact⟨κ,rfl,rfl,Step.refl _ _,h⟩
 | false=>
 rcases h.body with⟨j,i⟩ |⟨g,cur,xs,ha,hr,hH,h1,h2,h3,h4,h5,h6,h7⟩
 ·exact⟨κ,rfl,rfl,Step.refl _ _,h.most,.inl ⟨j,i⟩⟩
 ·by_cases d:c=0
  ·exact⟨κ,rfl,rfl,Step.refl _ _,h.most,.inl ⟨d,ca om⟩⟩
  have hs:Step (aG a c) κ (κ.pubB g (l.length*t.size)):=by
   refine⟨gv _,λb f hm=>⟨rfl,?_,rfl⟩,λb f=>⟨?_,λo _=>rfl⟩,λb f _=>⟨rfl,rfl⟩⟩
   ·simp only[K.pubB];rw[if_neg];intro e;exact hm (by rw[ha,e];exact hE om)
   ·simp only[K.pubB];split
    ·rename_i e;subst e;rw[h5];simp
    ·exact gv _
  exact⟨κ.pubB g (l.length*t.size),rfl,rfl,hs,h.most,.inr ⟨g,cur,xs,ha,hr.step hs,hH,h1,h2,h3,h4,by simp[K.pubB],h6,h7⟩⟩
def OD:∀(hs:List Hd)(L:List (List α))(κ:K),hs.length=L.length->(∀(i:Nat)(h:Hd)(l:List α),hs[i]?=some h->L[i]?=some l->h.2.1=l.length/\Gr t pub τ κ ei h.1 h.2.2 l)->(hs.flatMap fU).Nodup->
  ∃κ',κ'.H=κ.H/\κ'.tag=κ.tag/\Step (hs.flatMap fU) κ κ'/\∀(i:Nat)(h:Hd)(l:List α),hs[i]?=some h->L[i]?=some l->h.2.1=l.length/\Gr t true τ κ' ei h.1 h.2.2 l
 |[],L,κ,_,_,_=>⟨κ,rfl,rfl,Step.refl _ _,λi h l hi=>by simp at hi⟩
 | h::hs,[],κ,hl,_,_=>by simp at hl
 | h::hs,l::L,κ,hl,hr,hn=>by
  rw[cv,gd]at hn;obtain⟨k,s⟩:=hr 0 h l rfl rfl;obtain⟨κ1,q,n,g,p⟩:=s.publish';obtain⟨κ2,u,m,f,j⟩:=OD hs L κ1 (by simpa using hl) (λi h' l' hi a=>by
   obtain⟨r,v⟩:=hr (i+1) h' l' hi a;refine⟨r,v.step g (λx e d=>hn.2.2 x d x (List.mem_flatMap.2 ⟨h',fx hi,e⟩) rfl)⟩) hn.2.1
  refine⟨κ2,u.trans q,m.trans n,?_,λi h' l' hi a=>?_⟩
  ·rw[cv];exact(g.mono (λb c=>fj.2 (.inl c))).trans (f.mono (λb c=>fj.2 (.inr c)))
  ·cases i with
   | zero=>
    simp at hi a;subst hi;subst a;exact⟨k,p.step f (λx e d=>hn.2.2 x e x d rfl)⟩
   | succ i=>exact j i h' l' hi a
def Ta{l:List Hd}:∀{xs:List Value} {L:List (List α)},aZ tH κ xs l->l.length=L.length->(∀(i:Nat)(h:Hd)(r:List α),l[i]?=some h->L[i]?=some r->h.2.1=r.length/\Sl t κ h.1 h.2.2 r)->aZ (tSl t) κ xs L:=by
 induction l with
 | nil=>
  intro xs L g b _;cases L with
  | nil=>exact g
  | cons _ _=>simp at b
 | cons h l ih=>
  intro xs L g b a;cases L with
  | nil=>simp at b
  | cons r L=>
   obtain⟨c,d,e,m,f⟩:=g;obtain⟨k,p⟩:=a 0 h r rfl rfl;refine⟨c,d,e,⟨h.1,h.2.2,?_,p⟩,ih f (by simpa using b) (λi h' n hi j=>a (i+1) h' n hi j)⟩;have:c=[.slice h.1 h.2.1 h.2.2]:=m;rw[this,k]
def aX.publish(h:aX t pub τ κ eo ei a c hs hs L):∃κ',κ'.H=κ.H/\κ'.tag=κ.tag/\Step (mblk a c hs) κ κ'/\Gr (tSl t) true τ κ' eo a c L:=by
 have d:=h.nd;unfold mblk at d;rw[gd]at d;obtain⟨κ1,B,y,q,u⟩:=OD hs L κ h.len h.rows d.2.1;have w:=h.out.step q (λx l f=>d.2.2 x l x f rfl);obtain⟨κ2,v,s,p,n⟩:=w.publish';have k:Step (mblk a c hs) κ κ2:=(q.mono (λb j=>by unfold mblk;exact fj.2<|.inr j)).trans<|p.mono (λb j=>by unfold mblk;exact fj.2<|.inl j);refine⟨κ2,v.trans B,s.trans y,k,by rw[←h.len];exact n.most,?_⟩;rcases n.body with⟨f,A⟩ |⟨g,cur,xs,ha,hr,hH,h1,h2,h3,h4,h5,h6,h7⟩
 ·refine .inl ⟨f,?_⟩;have:=h.len;rw[A]at this;exact ca (by simpa using this.symm)
 ·have e:aZ (tSl t) κ2 xs L:=Ta hr h.len (λi hd r hi m=>by
   obtain⟨C,D⟩:=u i hd r hi m;exact⟨C,(D.step p (λx l f=>d.2.2 x f x (List.mem_flatMap.2 ⟨hd,fx hi,l⟩) rfl)).sl⟩)
  exact .inr ⟨g,cur,xs,ha,e,hH,by rw[←h.len];exact h1,h2,h3,by rw[←h.len];exact h4,by rw[←h.len];exact h5,h6,h7⟩
def K.back(κ κ':K):K:=⟨κ'.H,λb=>if b<κ.H.size then κ.fr b else κ'.fr b,κ'.tag⟩
def PG{κ1:K}{κ2}(e:κ1.H=κ.H)(et:κ1.tag=κ.tag)(s:Step [] κ1 κ2):Step [] κ (K.back κ κ2):=by
 refine⟨by rw[←e];exact s.1,λb c _=>?_,λb c=>?_,λb c _=>?_⟩
 ·have a:=s.2.1 b (by rw[e];exact c) si;exact⟨by show κ2.H[b]?=_;rw[a.1,e],by simp[K.back,c],by show κ2.tag b=_;rw[a.2.2,et]⟩
 ·have a:=s.2.1 b (by rw[e];exact c) si;refine⟨by simp[K.back,c],λo _=>?_⟩;show K.cell κ2 b o=K.cell κ b o;unfold K.cell;rw[a.1,e]
 ·have a:=s.2.1 b (by rw[e];exact c) si;refine⟨by show κ2.tag b=_;rw[a.2.2,et],?_⟩;show K.shp κ2 b=K.shp κ b;unfold K.shp;rw[a.1,e]
def Fn.lend{args:Array Value}{R:Value->K->Prop}{κ1:K}{P f}(e:κ1.H=κ.H)(et:κ1.tag=κ.tag)(h:Fn P f args κ1 (λv κ'=>Step [] κ1 κ'/\R v κ'))(hR:∀v κ2,Step [] κ1 κ2->R v κ2->R v (K.back κ κ2)):Fn P f args κ (λv κ'=>Step [] κ κ'/\R v κ'):=by
 intro C d;have g:W C κ d=W C κ1 d:=by unfold W;rw[e]
 rw[g];refine(h C d).mono ?_;rintro ex w' ⟨v,κ2,c,a,b,hs,i⟩;exact⟨v,K.back κ κ2,c,a,by rw[b];unfold W K.back;rfl,PG e et hs,hR v κ2 hs i⟩
theorem Jn:∀{l:List Int} {xs:List Value},aZ tI64 κ xs l->aZ tI64 κ' xs l
 |[],_,h=>h
 | _::_,_,⟨c,xs',e,ho,hr⟩=>⟨c,xs',e,ho,Jn hr⟩
theorem Gr.back{e:TypeId}{N i l}(h:Gr tI64 pub (N,i) κ' e a c l)(hN:κ.H.size<=N):Gr tI64 pub (N,i) (K.back κ κ') e a c l:=by
 refine⟨h.most,?_⟩;rcases h.body with h1 |⟨g,cur,xs,ha,hr,hH,h1,h2,h3,h4,h5,h6,h7⟩
 ·exact .inl h1
 ·refine .inr ⟨g,cur,xs,ha,?_,hH,h1,h2,h3,h4,?_,h6,h7⟩
  all_goals grind [Jn,K.back]
end
section
variable [Fc] [Fb] {P:Program} {n:Nat} {c:Code} {i:Nat} {Q:bC} {E:aB} {α:Type} {t:Ty α} {τ:aK} {κ:K} {eo ei:TypeId} {a:Option Addr} {cp:Nat} {hm hs:List Hd} {L:List (List α)}
def GS{pub}(h:aX t pub τ κ eo ei a cp hs hs L)(hk:∀κ',Step (mblk a cp hs) κ κ'->Gr (tSl t) true τ κ' eo a cp L->aO P n c Q E κ'):aO P n c Q E κ:=by
 obtain⟨κ',e,_,s,g⟩:=h.publish;exact Ol e<|hk κ' s g
def Rq{l:List Hd}{i h}(hi:l[i]?=some h):l.set i h=l:=by
 apply ce;intro j;rw[List.getElem?_set];split
 ·rename_i e;subst e;have:=(dm.1 hi).1;rw[if_pos this,hi]
 ·rfl
def Bh{jx:Int}{x':α}{T:TypeId}{vs:List Value}{l:List α}{ix b δ ah ch}(v:Value)(h:st c i n E none=true)(ho:execOp (ev E) (zw c i)=gH (Instr.storeAt T (.pointer (some ⟨b,0+jx.toNat*t.size+δ,none⟩)) v))(ea:ah=some ⟨b,0,none⟩)(hM:aX t false τ κ eo ei a cp hm hs L)(hi:hs[ix]?=some (ah,l.length,ch))(hl:L[ix]?=some l)(h0:0<=jx)(h1:jx<(l.length:Int))(hv:v.cells=vs.toArray)(hs':zO P T=some vs.length)(hone:nj vs=true)(hδ:Nat.ble (δ+vs.length) t.size=true)(hnew:∀cs,(∃x,idx l jx=some x/\t.own κ cs x)->t.own κ (splice cs δ vs) x')(hk:∀κ',Step (aG ah ch) κ κ'->aX t false τ κ' eo ei a cp hm hs (L.set ix (l.set jx.toNat x'))->aN P n c (i+1) Q E κ'):aN P n c i Q E κ:=by
 have d:=(hM.rows ix _ l hi hl).2;refine gY v h ho ea d h0 h1 hv hs' hone hδ hnew (λκ' s g=>hk κ' s ?_);have:=hM.row hi s g (λx e=>.inl e);rw[fa,Rq hi]at this;exact this
def HN{ix:Int}{T:TypeId}{b hd}(h:st c i n E none=true)(ho:execOp (ev E) (zw c i)=gH (Instr.storeAt T (.pointer (some ⟨b,0+ix.toNat*1+0,none⟩)) (.slice hd.1 hd.2.1 hd.2.2)))(ea:a=some ⟨b,0,none⟩)(hM:aX t false τ κ eo ei a cp hm (hm.set ix.toNat hd) L)(h0:0<=ix)(h1:ix<(hm.length:Int))(hs':zO P T=some 1)(hk:∀κ',Step (aG a cp) κ κ'->aX t false τ κ' eo ei a cp (hm.set ix.toNat hd) (hm.set ix.toNat hd) L->aN P n c (i+1) Q E κ'):aN P n c i Q E κ:=by
 refine gY (t:=tH) (x':=hd) (vs:=[.slice hd.1 hd.2.1 hd.2.2]) (δ:=0) _ h ho ea hM.out h0 h1 rfl hs' rfl rfl (λcs e=>?_) (λκ' s g=>hk κ' s<|hM.outer s g (λx e=>.inl e));obtain⟨x,_,d⟩:=e;have:cs=[.slice x.1 x.2.1 x.2.2]:=d;subst this;rfl
end
section
variable {α β:Type} {t:Ty α} {t':Ty β} {pub pub':Bool} {τ τ':aK} {κ:K} {eo ei eo' ei' e:TypeId} {a a':Option Addr} {c c':Nat} {hm hs hm' hs':List Hd} {L:List (List α)} {L':List (List β)} {b:Nat} {cs:List Value} {T:TypeId}
def aX.nil:aX t pub τ κ eo ei none 0 [] [] ([]:List (List α)):=⟨Gr.nil,rfl,λi h l hi=>by simp at hi,by simp[mblk,aG]⟩
def aX.own{κ0:K}(h:aX t pub τ κ eo ei a c hm hs L)(h0:κ0.H.size<=τ.1):∀b∈mblk a c hs,κ0.H.size<=b:=λb d=>gy h0 (h.lt b d).2.2
def aX.nbo(h:aX t pub τ κ eo ei a c hm hs L)(h':dF τ' κ b)(hn:τ≠τ'):∀g∈mblk a c hs,g∉[b]:=λg d e=>by
 have f:g=b:=by simpa using e
 subst f;exact hn ((h.lt g d).2.1.symm.trans h'.tag)
def aX.bno(h:aX t pub τ κ eo ei a c hm hs L)(h':dF τ' κ b)(hn:τ'≠τ):b∉mblk a c hs:=λd=>hn (h'.tag.symm.trans (h.lt b d).2.1)
def aX.nb(h:aX t pub τ κ eo ei a c hm hs L)(h':aI τ' κ b cs T)(hn:τ≠τ'):∀g∈mblk a c hs,g∉[b]:=h.nbo h'.o hn
def aX.bn(h:aX t pub τ κ eo ei a c hm hs L)(h':aI τ' κ b cs T)(hn:τ'≠τ):b∉mblk a c hs:=h.bno h'.o hn
def aX.ng{l':List β}(h:aX t pub τ κ eo ei a c hm hs L)(h':Gr t' pub' τ' κ e a' c' l')(hn:τ≠τ'):∀g∈mblk a c hs,g∉aG a' c':=λg b d=>hn ((h.lt g b).2.1.symm.trans (h'.lt g d).2.1)
def aX.ngm(h:aX t pub τ κ eo ei a c hm hs L)(h':aX t' pub' τ' κ eo' ei' a' c' hm' hs' L')(hn:τ≠τ'):∀g∈mblk a c hs,g∉mblk a' c' hs':=λg b d=>hn ((h.lt g b).2.1.symm.trans (h'.lt g d).2.1)
def Gr.ngm{l:List α}(h:Gr t pub τ κ e a c l)(h':aX t' pub' τ' κ eo' ei' a' c' hm' hs' L')(hn:τ≠τ'):∀g∈aG a c,g∉mblk a' c' hs':=λg b d=>hn ((h.lt g b).2.1.symm.trans (h'.lt g d).2.1)
def mZ{r:List (List α)}(h:some L=some r)(hM:aX t pub τ κ eo ei a c hm hs L):aX t pub τ κ eo ei a c hm hs r:=by injection h with h;rw[←h];exact hM
def BC{l:List α}{ix:Int}{x:α}(h:idx l ix=some x):l[ix.toNat]?=some x:=(iO h).2.2
def pv{i:Nat}{hd:Hd}(hi:hs[i]?=some hd):∀x∈aG hd.1 hd.2.2,x∈mblk a c hs:=λx b=>tL.2 (.inr ⟨i,hd,hi,b⟩)
def pu:∀x∈aG a c,x∈mblk a c hs:=λx b=>tL.2 (.inl b)
end
section
variable {α:Type} {t:Ty α} {pub:Bool} {τ:aK} {κ:K} {eo ei:TypeId} {a:Option Addr} {c:Nat} {hm hs:List Hd} {L:List (List α)} {i:Nat} {hd:Hd}
def aX.len0(h:aX t pub τ κ eo ei a c hm (hm.set i hd) L):hm.length=(L.length):=by rw[←h.len,fa]
theorem aX.snocN(h:aX t pub τ κ eo ei a c hm hs L):aX t pub τ κ eo ei a c hm (hs++[(none,0,0)]) (L++[[]]):=by
 refine⟨h.out,by rw[ef,ef,h.len];rfl,λi hd l1 hi d=>?_,?_⟩
 ·by_cases b:i<hs.length
  ·rw[df b]at hi;rw[df (by rw[←h.len];exact b)]at d;exact h.rows i hd l1 hi d
  ·rw[dg om]at hi;rw[dg (by rw[←h.len];omega)]at d;have f:i - hs.length=0:=by
    have:=(dm.1 hi).1;simp at this;omega
   grind [Gr.nil]
 ·have e:=h.nd
  grind [mblk,fU,aG]
theorem Cc{H H2:List Hd}{L2 r:List (List α)}{by_}(h:aU by_ L L2=some r)(e1:H.length=L.length)(e2:H2.length=L2.length):aU by_ H H2=some (H++H2)/\r=L++L2/\(H++H2).length=r.length:=by
 grind [kJ,aU]
end
section
variable [Fc] [Fb] {P:Program} {n:Nat} {c:Code} {i k:Nat} {nq:List Nat} {q0:Nat} {M:List Nat} {π:List Nat} {Q:bC} {E:aB} {κ:K}
variable {α:Type} {t:Ty α} {pub:Bool} {τ:aK} {e T:TypeId} {a a2:Option Addr} {cp c2:Nat} {l l2 r:List α}
def Rw{κ'}(hq:Nat.beq i q0=true)(hsub:∀x∈aG a cp,x∈M)(h:Step (aG a cp) κ κ'):hX q0 M i κ κ':=by
 unfold hX;rw[hq];exact h.mono hsub
def Nk{d bytes}(h:jI c nq i E d=true)(ho:execOp (ev E) (zw c i)=aW (Builtin.append_ #[T,T] 0 #[.slice a l.length cp,.slice a2 l2.length c2]))(hg:Gr t pub τ κ e a cp l)(h2:Sl t κ a2 c2 l2)(hτ:τ.1<=κ.H.size)(hT:gC P T=some (e,t.size,t.size,bytes))(hx:aU bytes l l2=some r)(hq:Nat.beq i q0=true)(hsub:∀x∈aG a cp,x∈M)(hk:∀a' c' κ',Step (aG a cp) κ κ'->Gr t pub τ κ' e a' c' r->(∀g∈aG a' c',g∈aG a cp\/κ.H.size<=g)->bY P n c k nq q0 M π Q (aQ E d (.slice a' r.length c')) κ'):bY P n c k nq q0 M (i::π) Q E κ:=by
 obtain⟨s,w,m,u⟩:=mU hT;obtain⟨y,hm,rfl⟩:=kJ hx;refine tV (λv κ'=>∃a' c',v=.slice a' (l++l2).length c'/\Step (aG a cp) κ κ'/\Gr t pub τ κ' e a' c' (l++l2)/\∀g∈aG a' c',g∈aG a cp\/κ.H.size<=g) h (λv κ' ⟨_,_,_,hs,_⟩=>Rw hq hsub hs) (λC j=>?_) ?_
 ·obtain⟨a',c',κ',p,q,hs,b,f⟩:=AG (P:=P) (T:=T) (ty:=0) hg h2 hτ s w m u y hm C j;exact⟨_,κ',p,by rw[ho];exact zI q,a',c',rfl,hs,b,f⟩
 ·rintro v κ' ⟨a',c',rfl,hs,b,f⟩;exact hk a' c' κ' hs b f
end
theorem SI{α:Type}{n:Int}{r:List (List α)}{by_}(h:cZ by_ n ([]:List α)=some r):
  cZ by_ n ((none,0,0):Hd)=some (List.replicate n.toNat (none,0,0))/\r=List.replicate n.toNat []/\(List.replicate n.toNat ((none,0,0):Hd)).length=r.length:=by
 grind [OK,cZ]
section
variable [Fc] [Fb] {P:Program} {n:Nat} {c:Code} {i k:Nat} {nq:List Nat} {q0:Nat} {M:List Nat} {π:List Nat} {Q:bC} {E:aB} {κ:K}
variable {α:Type} {t:Ty α} {pub:Bool} {τ:aK} {e T:TypeId} {a a2:Option Addr} {cp c2:Nat} {l l2 r:List α}
def Nl{d bytes}ln rn(hln:l.length=ln)(hrn:r.length=rn)(h:jI c nq i E d=true)(ho:execOp (ev E) (zw c i)=aW (Builtin.append_ #[T,T] 0 #[.slice a ln cp,.slice a2 l2.length c2]))(hg:Gr t pub τ κ e a cp l)(h2:Sl t κ a2 c2 l2)(hτ:τ.1<=κ.H.size)(hT:gC P T=some (e,t.size,t.size,bytes))(hx:aU bytes l l2=some r)(hrel:hX q0 M i=Step (aG a cp))(hk:∀a' c' κ',Step (aG a cp) κ κ'->Gr t pub τ κ' e a' c' r->(∀g∈aG a' c',g∈aG a cp\/κ.H.size<=g)->bY P n c k nq q0 M π Q (aQ E d (.slice a' rn c')) κ'):bY P n c k nq q0 M (i::π) Q E κ:=by
 subst hln;subst hrn;exact Zo h ho hg h2 hτ hT hx hrel hk
def YV{d bytes}ln rn(hln:l.length=ln)(hrn:r.length=rn)(h:st c i n E (some d)=true)(ho:execOp (ev E) (zw c i)=aW (Builtin.append_ #[T,T] 0 #[.slice a ln cp,.slice a2 l2.length c2]))(hg:Gr t pub τ κ e a cp l)(h2:Sl t κ a2 c2 l2)(hτ:τ.1<=κ.H.size)(hT:gC P T=some (e,t.size,t.size,bytes))(hx:aU bytes l l2=some r)(hk:∀a' c' κ',Step (aG a cp) κ κ'->Gr t pub τ κ' e a' c' r->(∀g∈aG a' c',g∈aG a cp\/κ.H.size<=g)->aN P n c (i+1) Q (aQ E d (.slice a' rn c')) κ'):aN P n c i Q E κ:=by
 subst hln;subst hrn;exact pG h ho hg h2 hτ hT hx hk
end
end Go.Lf
namespace Go.Lf
open Go Go.Conc
def nE(bytes:Nat)(n:Int):Option (List Int):=if 0<=n/\n<=9223372036854775807/\(bytes:Int)*n<=281474976710544 then some []else none
def lM(cap:Nat)(l:List Int)(x:Int):Option (List Int):=if l.length<cap then some (l++[x])else none
def uz:List Int->Option (Int×List Int)
 | x::l=>if -9223372036854775808<=x/\x<=9223372036854775807 then some (x,l)else none
 |[]=>none
def nL(l:List Int):Option Int:=if l.length<=9223372036854775807 then some (l.length:Int)else none
def Rb{bytes n l}(h:nE bytes n=some l):0<=n/\n<=9223372036854775807/\(bytes:Int)*n<=281474976710544/\l=[]:=by
 unfold nE at h;split at h
 ·rename_i h0;exact⟨h0.1,h0.2.1,h0.2.2,(Option.some.inj h).symm⟩
 ·cases h
def NY{l:List Int}{cap r x}(h:lM cap l x=some r):l.length<cap/\l++[x]=r:=by
 unfold lM at h;split at h
 ·rename_i h0;exact⟨h0,Option.some.inj h⟩
 ·cases h
def PQ{l r}(h:uz l=some r):l=r.1::r.2/\I64 r.1:=by
 cases l with
 | nil=>cases h
 | cons x l=>
  simp only[uz]at h;by_cases a : -9223372036854775808<=x/\x<=9223372036854775807
  ·rw[if_pos a]at h;have:=Option.some.inj h;subst this;exact⟨rfl,a⟩
  ·rw[if_neg a]at h;cases h
def Qi{l:List Int}{r}(h:nL l=some r):(l.length:Int)=r/\I64 r:=by
 unfold nL at h;split at h
 ·rename_i h0;have:=Option.some.inj h;subst this;exact⟨rfl,by unfold I64;omega⟩
 ·cases h
section
variable [Fc] [Fb] {P:Program} {n:Nat} {c:Code} {i:Nat} {Q:bC} {E:aB} {κ:K} {τ:aK} {b cap:Nat} {l:List Int}
def dY.o(h:dY τ κ b cap l):dF τ κ b:=⟨h.lt,h.fr,h.tag,h.ge⟩
def BK(P:Program)(T:TypeId):Option Nat:=
 match P.underlying T with
 | some (.chan _ e)=>(P.info? e).map (·.bytes)
 | _=>none
def TG{m:Int}{d T bytes k}(τ:aK)(hτ:τ.1<=κ.H.size)(hx:nE bytes m=some l)(hk:∀b κ',Step [] κ κ'->dY τ κ' b m.toNat l->aN P n c (i+1) Q (aQ E d (.chan (some b))) κ')(hT:BK P T=some bytes:=by kernel_rfl)(h:st c i n E (some d)=true:=by kernel_rfl)(ho:execOp (ev E) (zw c i)=aW (Instr.makeChan T (.int k m)):=by kernel_rfl):aN P n c i Q E κ:=by
 obtain⟨g,s,p,rfl⟩:=Rb hx;unfold BK at hT;split at hT
 ·rename_i dir e hd;obtain⟨q,hi,r⟩:=ip.1 hT;refine gZ (λv κ'=>∃b,v=.chan (some b)/\Step [] κ κ'/\dY τ κ' b m.toNat []) h (λC a=>?_) ?_
  ·have f:=run_makeChan (w:=W C κ a) hd hi k m.toNat om (by rw[r];have:((m.toNat:Nat):Int)=m:=bi g;rw[this];exact p);have j:((m.toNat:Nat):Int)=m:=bi g;rw[j]at f;refine⟨_,κ.push (.chan m.toNat #[] false 0 0 false) 0 τ,a,by rw[ho];exact zI f,κ.H.size,rfl,gW _ _ _ _,⟨⟨0,0,by simp[K.push]⟩,by simp[K.push],by simp[K.push],hτ⟩⟩
  ·rintro v κ' ⟨b,rfl,hs,hm⟩;exact hk b κ' hs hm
 ·cases hT
def Uf{d T r}(h0:dY τ κ b cap l)(hx:nL l=some r)(hk:aN P n c (i+1) Q (aQ E d (.int .i64 r)) κ)(h:st c i n E (some d)=true:=by kernel_rfl)(ho:execOp (ev E) (zw c i)=aW (Builtin.len_ #[T] 0 #[.chan (some b)]):=by kernel_rfl)(hT:(BK P T).isSome=true:=by kernel_rfl):aN P n c i Q E κ:=by
 obtain⟨g,_⟩:=Qi hx;subst g;obtain⟨s,r,a⟩:=h0.obj;unfold BK at hT;split at hT
 ·rename_i dir e hd;refine iR _ h (λC f=>?_) hk;rw[ho];refine zI ?_;rw[run_len_chan T 0 hd (show(W C κ f).heap[b]?=_ from a)];simp[goInt]
 ·cases hT
end
def ne{α:Type}(l:List α):Option (List α):=
 match l with
 |[]=>none
 | x::l=>some (x::l)
def RV{α:Type}{l r:List α}(h:ne l=some r):l=r/\r≠[]:=by
 cases l with
 | nil=>cases h
 | cons x l=>
  have:=Option.some.inj h;subst this;exact⟨rfl,by simp⟩
section
variable {P:Program} {E:aB} {c:Code} {i:Nat} {κ:K} {α:Type} {t:Ty α} {pub:Bool} {τ:aK} {e T:TypeId} {a:Option Addr} {cp:Nat} {l:List α} {w:World} [DecidableEq α]
def Ps(hg:Gr t pub τ κ e a cp l)(hn:l=[]->a=none)(h:execOp (ev E) (zw c i)=aW (do eqGuard .eql T (.tmp 0) (.const (.slice none 0 0)) (.slice a l.length cp) (.slice none 0 0);binOp .eql T (.slice a l.length cp) (.slice none 0 0)))(hT:zK P T=some e):(execOp (ev E) (zw c i)).run P w=.ok (.value (.bool (decide (l=[])))) w:=by
 rw[h];refine zI ?_;have m:(eqGuard .eql T (.tmp 0) (.const<|.slice none 0 0) (.slice a l.length cp)<|.slice none 0 0).run P w=.ok () w:=by simp[eqGuard]
 rw[be,m];simp only[bd];have hd:=lu hT;have k:a.isNone=decide (l=[]):=by
  by_cases b:l=[]
  ·rw[hn b];simp[b]
  ·rcases hg.body with⟨_,j⟩ |⟨g,cur,xs,ha,_⟩
   ·exact absurd j b
   ·rw[ha];simp[b]
 rw[←k];have f:(Op.equal T (.slice a l.length cp)<|.slice none 0 0).run P w=.ok a.isNone w:=by
  show(Op.equalIn (9999+1) T (.slice a l.length cp)<|.slice none 0 0).run P w=_;exact Go.Lib.run_equalIn_slice_nil w 9999 T e a _ _ _ _ hd
 have d:binOp .eql T (.slice a l.length cp) (.slice none 0 0)=(do pure (.bool<|←Op.equal T (.slice a l.length cp) (.slice none 0 0))):=rfl;rw[d,be,f];rfl
end
end Go.Lf
namespace Go.Lf
open Go Go.Sort
section
variable {P:Program} {f:FuncId} {args:Array Value} {κ:K} {τ:aK} {e:TypeId} {a:Option Addr} {c:Nat} {l:List Int}
def HF:∀{l:List Int} {xs:List Value},aZ tI64 κ xs l->xs=l.map (Value.int .i64)/\∀x∈l,I64 x
 |[],xs,h=>⟨h,λx f=>by cases f⟩
 | x::l,xs,⟨c,xs',e,ho,hr⟩=>by
  obtain⟨b,d⟩:=HF hr;have:c=[.int .i64 x]:=ho.1;subst this;refine⟨by rw[e,b];rfl,λy a=>?_⟩;rcases fq.1 a with rfl | a
  ·exact ho.2
  ·exact d y a
def JM:∀{l:List Int},(∀x∈l,I64 x)->aZ tI64 κ (l.map (Value.int .i64)) l
 |[],_=>rfl
 | x::l,h=>⟨[.int .i64 x],l.map (Value.int .i64),rfl,⟨rfl,h x si⟩,JM (λy a=>h y (by simp[a]))⟩
theorem Fn.row_int{r:List Int}(hg:Gr tI64 false τ κ e a c l)(hlen:r.length=l.length)(hr:∀x∈r,I64 x)(hc:∀w g,a=some ⟨g,0,none⟩->Holds (Value.int .i64) w g 0 l.toArray->Calls P f args w λex w'=>ex=.returned (.tuple #[])/\∃n,w'=putRow (Value.int .i64) (Sort.ahead w n) g 0 r.toArray)(h0:l=[]->∀w,Calls P f args w λex w'=>ex=.returned (.tuple #[])/\w'=w):
  Fn P f args κ (λv κ'=>Step (aG a c) κ κ'/\v=.tuple #[]/\Gr tI64 false τ κ' e a c r/\r.length=l.length):=by
 by_cases u:l=[]
 ·intro C d;refine(h0 u<|W C κ d).mono ?_;rintro ex w' ⟨q,y⟩;have:r=l:=by subst u;exact ca (by simpa using hlen)
  exact⟨_,κ,d,q,y,Step.refl _ _,rfl,by rw[this];exact hg,hlen⟩
 ·rcases hg.body with⟨_,q⟩ |⟨g,cur,xs,ha,hrp,hH,q,y,h3,h4,h5,h6,h7⟩
  ·exact absurd q u
  ·have M:0<l.length:=List.length_pos_iff.2 u;obtain⟨E,H⟩:=HF hrp;have bN:tI64.size=1:=rfl;rw[bN,Nat.mul_one]at h3 h4;have h:aI τ κ g cur.toList e:=⟨by simpa using hH,by rw[h5];simp,h6,h7⟩;intro C d;have m:∀j (G:j<l.length),cur[j]?=some (Value.int .i64 l[j]):=λj G=>by
    have L:(cur.toList.take l.length)[j]?=(l.map<|Value.int .i64)[j]?:=by rw[h4,E]
    grind
   have A:Holds (Value.int .i64) (W C κ d) g 0 l.toArray:=λj G=>by
    have s:j<l.length:=by simpa using G
    refine⟨?_,?_⟩
    ·rw[iu];unfold K.cell;rw[hH];simp only[ik];rw[m j s];simp[s]
    ·unfold World.frozen? W;simp[hH]
   refine(hc (W C κ d) g ha A).mono ?_;rintro ex w' ⟨F,n,J⟩;refine⟨_,κ.setB g (splice cur.toList 0<|r.map<|Value.int .i64) e,d+n,F,?_,?_,rfl,?_,hlen⟩
   ·rw[J];have i:κ.H.modify g (onCells<|putCells (Value.int .i64) 0 r.toArray)=(κ.setB g (splice cur.toList 0<|r.map<|Value.int .i64) e).H:=by
     have p:g<κ.H.size:=(ai.1 hH).1;apply Array.ext_getElem?;intro k;rw[aj];by_cases D:g=k
     ·subst D;rw[if_pos rfl,hH];simp only[K.setB,Option.map_some,onCells];rw[Array.getElem?_setIfInBounds_self_of_lt p];congr 2;apply Array.ext_getElem?;intro j;have B:(r.map<|Value.int .i64).length=l.length:=by rw[er];exact hlen
      have t:cur.toList.length=c:=by simpa using h3
      unfold putCells
      grind [splice,mV]
     ·rw[if_neg D];simp only[K.setB];rw[am D]
    unfold putRow mapBlock Sort.ahead W;simp only[];rw[i,Nat.add_assoc]
   ·exact(ly h).mono (λb I=>by rw[ga.1 I,ha];exact hE (a:=⟨g,0,none⟩) om)
   ·have B:(r.map<|Value.int .i64).length=l.length:=by rw[er];exact hlen
    have t:cur.toList.length=c:=by simpa using h3
    refine⟨by rw[hlen];exact hg.most,.inr ⟨g,_,r.map<|Value.int .i64,ha,JM hr,(kI h).obj,by rw[hlen];exact q,y,by rw[bN,gk,pd,t];omega,?_,by simp[K.setB,h5],h6,h7⟩⟩;rw[bN,Nat.mul_one,hlen];apply ce;intro j
    grind [mV]
end
end Go.Lf
namespace Go.Lf
open Go
section
variable {P:Program} {α:Type} {t:Ty α} {κ:K} {e T:TypeId} {a:Option Addr} {cp:Nat} {l m:List α} {τ:aK}
def aZ.drop:∀{l:List α} {xs:List Value} (i:Nat),aZ t κ xs l->aZ t κ (xs.drop (i*t.size)) (l.drop i)
 | l,xs,0,h=>by simpa using h
 |[],xs,i+1,h=>by
  have:xs=[]:=h;subst this;simp[aZ]
 | x::l,xs,i+1,⟨c,xs',e,ho,hr⟩=>by
  subst e;rw[List.drop_succ_cons];have a:=t.len ho;have:(c++xs').drop ((i+1)*t.size)=xs'.drop (i*t.size):=by
   rw[List.drop_append,List.drop_of_length_le (by rw[a,gq];omega),gc];congr 1;rw[a,gq];omega
  rw[this];exact hr.drop i
def Gr.splice{cur:List Value}{vs:List Value}{g lo}(hg:Gr t false τ κ e a cp l)(ha:a=some ⟨g,0,none⟩)(hb:aI τ κ g cur e)(hl0:0<l.length)(hm:aZ t κ vs m)(hlo:lo+m.length<=l.length)(hm0:0<m.length):
  lo*t.size+vs.length<=cur.length/\Step (aG a cp) κ (κ.setB g (splice cur (lo*t.size) vs) e)/\Gr t false τ (κ.setB g (splice cur (lo*t.size) vs) e) e a cp (l.take lo++m++l.drop (lo+m.length)):=by
 rcases hg.body with⟨_,w⟩ |⟨g',cur',xs,ha',hr,hH,h2,h3,h4,h5,h6,h7,h8⟩
 ·rw[w]at hl0;simp at hl0
 ·rw[ha]at ha';obtain rfl:g=g':=by injection ha' with ha';injection ha'
  have n:cur=cur'.toList:=by
   have:=hb.obj;rw[hH]at this;injection this with this
   injection this with this
   rw[this]
  subst n;have c:=hm.length;have i:cur'.toList.length=cp*t.size:=by simpa using h4
  have r:lo*t.size+m.length*t.size=(lo+m.length)*t.size:=by rw[gq]
  have s:(lo+m.length)*t.size<=l.length*t.size:=ii _ hlo;have v:l.length*t.size<=cp*t.size:=ii _ h2;have b:Step [g] κ (κ.setB g (Lf.splice cur'.toList (lo*t.size) vs) e):=ly hb;have hlen:(l.take lo++m++l.drop (lo+m.length)).length=l.length:=by
   rw[ef,ef,fd,ek];omega
  have f:aZ t (κ.setB g (Lf.splice cur'.toList (lo*t.size) vs) e) (xs.take (lo*t.size)++vs++xs.drop ((lo+m.length)*t.size)) (l.take lo++m++l.drop (lo+m.length)):=(((hr.take lo).step b).append<|hm.step b).append ((hr.drop _).step b)
  refine⟨by rw[c,i];omega,b.mono (λx y=>by rw[ga.1 y,ha];exact hE (a:=⟨g,0,none⟩) om),by rw[hlen];exact hg.most,.inr ⟨g,_,_,ha,f,(kI hb).obj,by rw[hlen];exact h2,h3,by rw[gk,pd,i],?_,h6,h7,h8⟩⟩;rw[hlen];have p:=hr.length;have d:(xs.take (lo*t.size)).length=lo*t.size:=by rw[fd,p];omega
  apply ce;intro j;rw[ec];by_cases k:j<l.length*t.size
  ·rw[if_pos k,List.toList_toArray,mV _ _ _ _ (by rw[c,i];omega),c];have h:∀j,j<l.length*t.size->cur'.toList[j]?=xs[j]?:=λj k=>by rw[←h5,ec,if_pos k]
   by_cases q:j<lo*t.size
   ·rw[if_neg om,h j k,bp,df (by rw[d];exact q),ec,if_pos q]
   ·by_cases u:j<lo*t.size+m.length*t.size
    ·rw[if_pos om,bp,dg (by rw[d];omega),d,df (by rw[c];omega)]
    ·rw[if_neg om,h j k,dg (by rw[ef,d,c];omega),ef,d,c,dh];congr 1;omega
  ·rw[if_neg k,dl];rw[f.length,hlen];omega
end
section
variable {P:Program} {α:Type} {t:Ty α} {κ:K} {e T T2:TypeId} {a a2:Option Addr} {cp c2:Nat} {l l2:List α} {τ:aK}
def eI{α:Type}(l:List α)(lo:Nat)(l2:List α):List α:=l.take lo++l2.take (l.length - lo)++l.drop (lo+(l2.take (l.length - lo)).length)
def Ix{l l2:List α}{lo}(h:lo<=l.length):(eI l lo l2).length=l.length:=by
 unfold eI;rw[ef,ef,fd,ek,fd];omega
def HC{ty:TypeId}{g lo dcap}(hT:zK P T=some e)(hs:zO P e=some t.size)(hg:Gr t false τ κ e a cp l)(ha:0<l.length->a=some ⟨g,0,none⟩)(hlo:lo<=l.length)src(ys:List Value)(hys:aZ t κ ys l2){da}(hda:lo<l.length->da=some ⟨g,lo*t.size,none⟩)[Fb](C:Cx)d(hlen:∀w,(Builtin.lenOf src).run P w=.ok l2.length w)(hfirst:∀n,n<=l2.length->(Builtin.firstCells t.size n src).run P (W C κ d)=.ok (ys.take (n*t.size)).toArray (W C κ d)):
  ∃κ',(Builtin.copy_ #[T,T2] ty #[.slice da (l.length - lo) dcap,src]).run P (W C κ d)=.ok (.int .i64 (min l2.length (l.length - lo):Nat)) (W C κ' d)/\Step (aG a cp) κ κ'/\Gr t false τ κ' e a cp (eI l lo l2):=by
 have i:=lu hT;have D:Nat.min l2.length (l.length - lo)<=l2.length:=Nat.min_le_left _ _;by_cases r:Nat.min l2.length (l.length - lo)=0
 ·refine⟨κ,?_,Step.refl _ _,?_⟩
  ·have q:=hfirst 0 om;cases hd:da with
   | none=>simp[Builtin.copy_,zG i,hlen,gV hs,r,q,goInt]
   | some x=>simp[Builtin.copy_,zG i,hlen,gV hs,r,q,storeCells,goInt]
  ·have:eI l lo l2=l:=by
    unfold eI;have A:l2.take (l.length - lo)=[]:=by
     rcases Nat.eq_zero_or_pos l2.length with h | h
     ·rw[ca h];simp
     ·have:l.length - lo=0:=by
       have:=r;simp only[Nat.min_def]at this;split at this<;>omega
      rw[this];simp
    rw[A];simp
   rw[this];exact hg
 ·have f:Nat.min l2.length (l.length - lo)=min l2.length (l.length - lo):=rfl;have b:0<l2.length/\lo<l.length:=by
   rw[f]at r;omega
  have p:=ha om;have m:=hda b.2;rcases hg.body with⟨_,y⟩ |⟨g',cur,xs,hga,hr,hH,h2,h3,h4,h5,h6,h7,h8⟩
  ·rw[y]at b;simp at b
  ·have:g=g':=by rw[p]at hga;injection hga with hga;injection hga
   subst this;have c:aI τ κ g cur.toList e:=⟨by simpa using hH,by rw[h6];simp,h7,h8⟩;have hm:=hys.take<|min l2.length<|l.length - lo;have k:(l2.take<|min l2.length<|l.length - lo).length=min l2.length (l.length - lo):=by rw[fd];omega
   obtain⟨v,B,u⟩:=hg.splice p c om hm (lo:=lo) (by rw[k];omega) (by rw[k];omega);have s:l.take lo++l2.take (min l2.length<|l.length - lo)++l.drop (lo+(l2.take<|min l2.length<|l.length - lo).length)=eI l lo l2:=by
    unfold eI;have:l2.take (min l2.length<|l.length - lo)=l2.take (l.length - lo):=by
     rcases Nat.le_total l2.length (l.length - lo)with h | h
     ·rw[Nat.min_eq_left h,gp<|gv _,gp h]
     ·rw[Nat.min_eq_right h]
    rw[this]
   rw[s]at u;refine⟨_,?_,B,u⟩;have q:=hfirst (min l2.length<|l.length - lo)<|Nat.min_le_left _ _;have j:=Gb (P:=P) (C:=C) (d:=d) (off:=lo*t.size) (ys.take<|min l2.length (l.length - lo)*t.size) 0 κ cur.toList c hm.one (by simpa using v);rw[Nat.add_zero]at j;rw[m];simp[Builtin.copy_,zG i,hlen,gV hs,f,q,j,goInt]
end
structure cE(N i:Nat)(κ:K)(b:Nat)(ob:Obj):Prop where
 o:dF (N,i) κ b
 obj:κ.H[b]?=some ob
def cE.step{M N i b κ κ' ob}(s:Step M κ κ')(hm:b∉M)(h:cE N i κ b ob):cE N i κ' b ob:=by
 have hs:=s.2.1 b h.o.lt hm;exact⟨⟨ib h.o.lt s.1,hs.2.1.trans h.o.fr,hs.2.2.trans h.o.tag,h.o.ge⟩,hs.1.trans h.obj⟩
def cE.step0{N i b κ κ' ob}(s:Step [] κ κ')(h:cE N i κ b ob):cE N i κ' b ob:=h.step s si
def cE.ge{N i b κ ob}(h:cE N i κ b ob):N<=b:=h.o.ge
def tR{κ:K}{N i b ob}(h:cE N i κ b ob)(ob':Obj):Step [b] κ (κ.setO b ob')/\cE N i (κ.setO b ob') b ob':=⟨pH h.o.fr,⟨⟨by simp[K.setO];exact h.o.lt,h.o.fr,h.o.tag,h.o.ge⟩,by simp[K.setO,h.o.lt]⟩⟩
def Pf[Fb](C:Cx)(κ:K)d b(o:Obj):(W C κ d).putObj b o=W C (κ.setO b o) d:=rfl
def dO(F:Nat)(τ:aK):Bool:=Nat.beq τ.2 999||Nat.beq (τ.2 / 1000) F
def nI(F:Nat)(τ:aK):Bool:=!(Nat.beq τ.2 998)&&!(dO F τ)
def tb(F:Nat)(κ:K):List Nat:=(List.range κ.H.size).filter λb=>dO F (κ.tag b)
def ug{κ:K}{F b}:b∈tb F κ↔b<κ.H.size/\dO F (κ.tag b)=true:=by
 unfold tb;rw[ft,fz]
def Kc{F τ}(h:nI F τ=true):dO F τ=false:=by
 unfold nI at h;simp only[av,bb]at h;exact h.2
def Uh{F τ}(h:nI F τ=true):τ.2≠998:=by
 unfold nI at h;simp only[av,bb]at h;intro e;rw[e]at h;simp at h
def Ug{F τ}(h:nI F τ=true):τ.2≠999:=by
 have:=Kc h;unfold dO at this;simp only[Bool.or_eq_false_iff]at this;intro e;rw[e]at this;simp at this
section
variable {F:Nat} {κr κ κ1 κ2:K} {M:List Nat} {τ:aK}
def Step.trY(h:Step (tb F κr) κr κ1)(hb:∀b∈M,dO F (κ1.tag b)=true)(s:Step M κ1 κ2):Step (tb F κr) κr κ2:=h.trM (λb hm=>by
  by_cases a:b<κr.H.size
  ·by_cases c:b∈tb F κr
   ·exact .inl c
   ·have:=h.2.1 b a c;have d:=hb b hm;rw[this.2.2]at d;exact .inl<|ug.2 ⟨a,d⟩
  ·exact .inr<|Nat.le_of_not_lt a) s
def Step.trT(h:Step M κ κ1)(hM:∀b∈tb F κ,b∈M)(s:Step (tb F κ1) κ1 κ2):Step M κ κ2:=h.trM (λb hm=>by
  by_cases a:b<κ.H.size
  ·by_cases c:b∈M
   ·exact .inl c
   ·have e:=h.2.1 b a c;have d:=(ug.1 hm).2;rw[e.2.2]at d;exact .inl<|hM b<|ug.2 ⟨a,d⟩
  ·exact .inr<|Nat.le_of_not_lt a) s
def dF.tb1{b}(h:dF τ κ b)(ht:dO F τ=true):∀x∈[b],dO F (κ.tag x)=true:=λx a=>by
 rw[ga.1 a,h.tag];exact ht
def dF.ntb{b}(h:dF τ κ b)(ht:dO F τ=false):b∉tb F κ:=λa=>by
 have:=(ug.1 a).2;rw[h.tag,ht]at this;cases this
def aI.ntb{T:TypeId}{b cs}(h:aI τ κ b cs T)(ht:dO F τ=false):b∉tb F κ:=h.o.ntb ht
def Gr.tb1{α:Type}{t:Ty α}{e:TypeId}{l:List α}{pub a c}(h:Gr t pub τ κ e a c l)(ht:dO F τ=true):∀x∈aG a c,dO F (κ.tag x)=true:=λx b=>by
 rw[(h.lt x b).2.1];exact ht
def Gr.ntb{α:Type}{t:Ty α}{e:TypeId}{l:List α}{pub a c}(h:Gr t pub τ κ e a c l)(ht:dO F τ=false):∀x∈aG a c,x∉tb F κ:=λx b d=>by
 have:=(ug.1 d).2;rw[(h.lt x b).2.1,ht]at this;cases this
def Stab{σ:Type}(F B:Nat)(J:σ->K->Prop):Prop:=∀{s:σ} {κ κ':K} {M:List Nat},J s κ->Step M κ κ'->(∀b∈M,b<κ.H.size->nI F (κ.tag b)=true/\B<=b)->J s κ'
def Stab.j0{σ:Type}{J:σ->K->Prop}{B}(h:Stab F B J){s:σ}(hj:J s κ)(st:Step [] κ κ1):J s κ1:=h hj st (λb a=>by cases a)
def Stab.jo{σ:Type}{J:σ->K->Prop}{B b}(h:Stab F B J){s:σ}(hj:J s κ)(st:Step [b] κ κ1)(ho:dF τ κ b)(ht:nI F τ=true)(hB:B<=b):J s κ1:=h hj st (λx a _=>by rw[ga.1 a,ho.tag];exact⟨ht,hB⟩)
end
def Yl[Fb](P:Program)(l:Nat)(args:Array Value)(κ:K)(R:K->Prop):Prop:=∀C d,∃fn tmps assign body,(Instr.yield l args).run P (W C κ d)=.ok (.round l fn tmps assign body) (W C κ d)/\
  RoundIn Fence.wide 0 P l fn tmps assign body (W C κ d) (λe w'=>e=.returned (.bool true)/\∃κ' d',w'=W C κ' d'/\R κ')
section
variable [Fc] [Fb] {P:Program} {n:Nat} {c:Code} {i:Nat} {Q:bC} {E:aB} {κ:K}
def Zx{tmps:Array Value}{R:Ending->World->Prop}{m l f assign body w}(h:RoundIn Fence.wide m P l f tmps assign body w R):RoundIn FF m P l f tmps assign body w R:=h
def IQ{args:Array Value}{R:K->Prop}{l}d(hy:Yl P l args κ R)(hk:∀κ',R κ'->aN P n c (i+1) Q (aQ E d (.bool true)) κ')(hr:∀w,(execOp (ev E) (zw c i)).run P w=(Instr.yield l args).run P w:=by intro _;kernel_rfl)(h:st c i n E (some d)=true:=by kernel_rfl):aN P n c i Q E κ:=by
 refine lD h λC j a k=>?_;obtain⟨v,u,s,p⟩:=iU h;obtain⟨fn,tmps,b,g,f,q⟩:=hy C j;unfold Oper.wpIn;rw[Be (nx:=.round l fn tmps b g) (w':=W C κ j) (by rw[k.eval,hr];exact f) (λ_ e=>by cases e)];refine⟨λ_ _=>trivial,λt=>?_,(Zx q).mono ?_⟩
 ·simp[FF,Fence.wide]at t
 ·rintro e w' ⟨rfl,κ',r,rfl,m⟩;simp only[s];exact hk κ' m C r _<|k.put (p d rfl) _
end
def qj(E:aB):List Nat->List Value->aB
 | p::ps,v::vs=>qj (aQ E p v) ps vs
 | _,_=>E
def QR{inst:Fc}{n}(ps:List Nat):∀vs(t:Array Value)E,(∀p∈ps,p<n) -> @Fits inst n {tmps:=t,defers:=inst.ds} E->
  @Fits inst n {tmps:=(ps.zip vs).foldl (λt (p,v)=>t.setIfInBounds p v) t,defers:=inst.ds} (qj E ps vs):=by
 induction ps with
 | nil=>intro vs t E _ h;exact h
 | cons p ps ih=>
  intro vs t E hp h;cases vs with
  | nil=>exact h
  | cons v vs=>
   refine ih vs _ _ (λq a=>hp q (by simp[a])) ?_;exact h.put (hp p si) v
def Ko:Code->Option (Operand×List Nat)
 | .rangeFunc g ps _ _=>some (g,ps.toList)
 | _=>none
def ID[Fc][Fb](P:Program)(n:Nat)(body:Code)(N l:Nat)(o1 o2:Obj)(Q:bC):bC:=λe E κ=>
 match e with
 | .normal=>cE N 999 κ l o1/\∀κ',Step [l] κ κ'->cE N 999 κ' l o2->aO P n body Q E κ'
 | _=>False
def Cn(N l:Nat)(o2:Obj)(F:Nat)(κr:K)(J:K->Prop):bC:=λe _ κ=>
 match e with
 | .normal=>cE N 999 κ l o2/\Step (tb F κr) κr κ/\J κ
 | _=>False
def IS[Fc][Fb]{P n body N l o1 o2 Q E κ}(h:cE N 999 κ l o1)(hk:∀κ',Step [l] κ κ'->cE N 999 κ' l o2->aO P n body Q E κ'):
  ID P n body N l o1 o2 Q .normal E κ:=⟨h,hk⟩
def BW{J:K->Prop}{N l o2 F κr κ E}(h:cE N 999 κ l o2)(hy:Step (tb F κr) κr κ)(hj:J κ):Cn N l o2 F κr J .normal E κ:=⟨h,hy,hj⟩
def ql[Fb](P:Program)(n:Nat)(c:Code)(fn:Func)(R:Value->K->Prop)(E:aB)(κ:K):Prop:=∀C d a,@Fits BO n a E->c.wpIn Fence.wide 0 P (bodyPostM Fence.wide 0 P fn (λe w'=>∃v κ' d',e=.returned v/\w'=W C κ' d'/\R v κ')) a (W C κ d)
def Kl{P:Program}{fn:Func}{args:Array Value}{R:Value->K->Prop}{f κ}n M(hf:P.funcs[f]?=some fn)(hn:fn.ntmps=n)(h:Step M κ κ->ql P n (sub (zC fn) []) fn R (nu args) κ)(hb:fn.body=some (zC fn):=by kernel_rfl)(ha:Nat.ble args.size n=true:=by kernel_rfl):Fn P f args κ R:=by
 intro C d;have b : @Fits BO n {tmps:=args++Array.replicate (fn.ntmps - args.size) undef,defers:=[]} (nu args):=by
  have e:=gu ha;refine⟨by simp[hn];omega,rfl,λt=>?_⟩;unfold nu;by_cases c:t<args.size
  ·simp[ab,c]
  ·by_cases a:t - args.size<fn.ntmps - args.size
   ·simp[ab,c,a]
   ·simp[ab,c,a]
 exact(callsIn_wide (n:=0)).1 (callsIn_of_wp_marks hf hb trivial<|h (Step.refl _ _) C d _ b)
def Cg[Fb](P:Program)(n:Nat)(c:Code)(fn:Func)(R:Value->K->Prop):bC:=λe E κ=>
 match e with
 | .normal=>ql P n c fn R E κ
 | _=>False
def BM{R:Value->K->Prop}{P n c p fn E κ}(hx:aO P n (sub c (0::p)) (Cg P n (sub c (1::p)) fn R) E κ)(h:iz (sub c p)=true:=by kernel_rfl):ql P n (sub c p) fn R E κ:=by
 have i:sub c (0::p)=dU 0 (sub c p):=rfl;have j:sub c (1::p)=dU 1 (sub c p):=rfl;rw[i,j]at hx;clear i j;generalize sub c p=s at *;cases s<;>simp[iz]at h;rename_i x y;intro C d a k;have b:aO P n x (Cg P n y fn R) E κ:=hx;refine wpIn_seq<|wpIn_mono (b C d a k) ?_;rintro e a' w' ⟨m,κ',l,f,rfl,g⟩;cases e with
 | normal=>exact g C l a' f
 | _=>exact g.elim
def BY{R:Value->K->Prop}{P n c fn E κ}(h:ql P n c fn R E κ):Cg P n c fn R .normal E κ:=h
def CD[Fb](P:Program)(n:Nat)(b r:Code)(fn:Func)(R:Value->K->Prop)(E:aB)(κ:K):Prop:=∀C d a,@Fits BO n a E->b.wpIn Fence.wide 0 P (Exit.then (r.wpIn Fence.wide 0 P<|bodyPostM Fence.wide 0 P fn (λe w'=>∃v κ' d',e=.returned v/\w'=W C κ' d'/\R v κ'))<|bodyPostM Fence.wide 0 P fn (λe w'=>∃v κ' d',e=.returned v/\w'=W C κ' d'/\R v κ')) a (W C κ d)
def Ch[Fb](P:Program)(n:Nat)(b r:Code)(fn:Func)(R:Value->K->Prop):bC:=λe E κ=>
 match e with
 | .normal=>CD P n b r fn R E κ
 | _=>False
def IU{R:Value->K->Prop}{P n b r fn E κ}(h:CD P n b r fn R E κ):Ch P n b r fn R .normal E κ:=h
def II{R:Value->K->Prop}{P n c p fn E κ}(hx:aO P n (sub c (0::0::p)) (Ch P n (sub c (1::0::p)) (sub c (1::p)) fn R) E κ)(h:iz (sub c p)=true:=by kernel_rfl)(h':iz (sub c (0::p))=true:=by kernel_rfl):ql P n (sub c p) fn R E κ:=by
 have g:sub c (0::0::p)=dU 0 (dU 0<|sub c p):=rfl;have l:sub c (1::0::p)=dU 1 (dU 0<|sub c p):=rfl;have i:sub c (1::p)=dU 1 (sub c p):=rfl;have k:sub c (0::p)=dU 0 (sub c p):=rfl;rw[g,l,i]at hx;rw[k]at h';clear g l i k;generalize sub c p=s at *;cases s<;>simp[iz]at h;rename_i x z;simp only[dU,if_true]at h';cases x<;>simp[iz]at h';rename_i x y;intro C d a m;have b:aO P n x (Ch P n y z fn R) E κ:=hx;refine wpIn_seq<|wpIn_seq<|wpIn_mono (b C d a m) ?_;rintro e a' w' ⟨r,κ',q,f,rfl,j⟩;cases e with
 | normal=>exact j C q a' f
 | _=>exact j.elim
def hU(D:Nat):List Deferred:=[{target:=.collected D,args:=#[]}]
def qk[Fb](P:Program)(fn:Func)(R:Value->K->Prop)(N D:Nat):bC:=λe E κ=>
 match e with
 | .normal | .ret=>cE N 998 κ D (.deferred (some []))/\∀κ',Step [D] κ κ'->cE N 998 κ' D (.deferred none)->kN P fn R e E κ'
 | _=>False
def IT{R:Value->K->Prop}{P fn N D E κ}(h:cE N 998 κ D (.deferred (some [])))(hk:∀κ',Step [D] κ κ'->cE N 998 κ' D (.deferred none)->kN P fn R .ret E κ'):
  qk P fn R N D .ret E κ:=⟨h,hk⟩
def YR{R:Value->K->Prop}{P n fn N D}[Fb]{inst:Fc}{C e E κ d a}(hd:inst.ds=hU D)(hf : @Fits inst n a E)(hq:qk P fn R N D e E κ):bodyPostM Fence.wide 0 P fn (λe w'=>∃v κ' d',e=.returned v/\w'=W C κ' d'/\R v κ') e a (W C κ d):=by
 have key:∀(h:cE N 998 κ D (.deferred<|some []))v,(∀C d,(nJ fn E).run P (W C (κ.setO D<|.deferred none) d)=.ok v (W C (κ.setO D<|.deferred none) d))->R v (κ.setO D<|.deferred none)->
   LeavesInM Fence.wide 0 P fn a.tmps (λe w'=>∃v κ' d',e=.returned v/\w'=W C κ' d'/\R v κ') a.defers .returning (W C κ d):=by
  intro h v b c;have g:a.defers=hU D:=hf.defers.trans hd;rw[g];refine⟨by simp,.inl ⟨D,W C (κ.setO D<|.deferred none) d,rfl,run_takeDeferred (ds:=[]) h.obj,?_⟩⟩;exact⟨v,by rw[Ik hf];exact b C d,v,_,d,rfl,rfl,c⟩
 cases e with
 | normal=>
  obtain⟨h,f⟩:=hq;obtain⟨hs,i⟩:=tR h<|.deferred none;obtain⟨v,b,c⟩:=f _ hs i;exact key h v b c
 | ret=>
  obtain⟨h,f⟩:=hq;obtain⟨hs,i⟩:=tR h<|.deferred none;obtain⟨v,b,c⟩:=f _ hs i;exact key h v b c
 | _=>exact hq.elim
def Tm{args:Array Value}{P f w}(hf:fL P f=true):(callFunc f args).run P w=.ok (.enter f args) w:=iF rfl hf
def Je{σ A:Type}{R:Value->K->Prop}{κ:K}{ps:List Nat}{lb:Array Value}{P n c p pr fn E id g gf}F B(J:σ->K->Prop)(ok:K->A->Prop)(enc:K->A->List Value->Prop)(y:σ->A->Option σ)(s0:σ)(r:σ)(hB:B<=κ.H.size)(hJ:∀{s:σ} {κ κ':K} {M:List Nat},J s κ->Step M κ κ'->(∀b∈M,b<κ.H.size->Nat.beq ((κ.tag b).2 / 1000) F=false/\B<=b)->J s κ')(h0:J s0 κ)(hround:∀{l N:Nat} {o1 o2:Obj} {κ':K} {s O:σ} {a:A} {vs:List Value},κ.H.size<=N->cE N 999 κ' l o1->J s κ'->ok κ' a->enc κ' a vs->y s a=some O->
   vs.length=ps.length/\∀inst:Fc,inst.ds=[] -> @aO inst _ P n (sub c (0::0::p)) (@ID inst _ P n (sub c (1::0::p)) N l o1 o2 (Cn N l o2 F κ' (J O))) (qj E ps vs) κ')(hit:∀{J':σ->K->Prop} {l:Nat} {κ1:K},Step [] κ κ1->Stab F B J'->
   (∀{κ':K} {s O:σ} {a:A} {vs:List Value},J' s κ'->ok κ' a->enc κ' a vs->y s a=some O->Yl P l vs.toArray κ' (λκ''=>Step (tb F κ') κ' κ''/\J' O κ''))->
   J' s0 κ1->Fn P gf (#[.func (.yield l) #[] #[]]++lb) κ1 (λ_ κ2=>J' r κ2))(hafter:∀{N D:Nat} {κ2:K},κ.H.size<=N->cE N 998 κ2 D (.deferred (some []))->J r κ2->∀inst:Fc,inst.ds=hU D -> @aO inst _ P n (sub c pr) (qk P fn R N D) E κ2)(hg:ev E g=.func (.func gf) #[] lb:=by kernel_rfl)(hF:Nat.blt 0 F=true:=by kernel_rfl)(h2:ua (sub c p)=some id:=by kernel_rfl)(h3:Ko (sub c (0::p))=some (g,ps):=by kernel_rfl)(hps:ps.all (λq=>Nat.blt q n)=true:=by kernel_rfl)(hgf:fL P gf=true:=by kernel_rfl):CD P n (sub c p) (sub c pr) fn R E κ:=by
 have Z:∀q∈ps,q<n:=λq hq=>by
  have:=bj.1 hps q hq;exact gu this
 have e8:0<F:=gu hF;have e3:sub c (0::p)=dU 0 (sub c p):=rfl;have e4:sub c (0::0::p)=dU 0 (dU 0<|sub c p):=rfl;have e5:sub c (1::0::p)=dU 1 (dU 0<|sub c p):=rfl;simp only[e4,e5]at hround;rw[e3]at h3;clear e3 e4 e5;generalize sub c pr=rest at *;generalize sub c p=s at *;cases s<;>simp[ua]at h2;rename_i id' x;subst h2;simp only[dU]at h3 hround;cases x<;>simp[Ko]at h3;rename_i g' ps' assign body;obtain⟨rfl,a5⟩:=h3;simp only[dU,if_true]at hround;have L:∀{l N:Nat} {o1 o2:Obj} {κ':K} {s O:σ} {a:A} {vs:List Value},κ.H.size<=N->cE N 999 κ' l o1->J s κ'->ok κ' a->enc κ' a vs->y s a=some O->
   vs.length=ps.length/\∀inst:Fc,inst.ds=[] -> @aO inst _ P n assign (@ID inst _ P n body N l o1 o2<|Cn N l o2 F κ'<|J O) (qj E ps vs) κ':=hround
 have H:∀{N D:Nat} {κ2:K},κ.H.size<=N->cE N 998 κ2 D (.deferred<|some [])->J r κ2->∀inst:Fc,inst.ds=hU D -> @aO inst _ P n rest (qk P fn R N D) E κ2:=hafter;clear hround hafter;intro C d a Y;refine wpIn_block ?_;refine wpIn_rangeFunc ?_;intro c5 d8;have c2:Fence.wide.round=none:=rfl;rw[c2];obtain⟨sz,bN⟩:∃sz,κ.H.size=sz:=⟨_,rfl⟩;obtain⟨f,i⟩:∃f:LoopState->Option Code->Loop,f=λst pe=>{state:=st,pending:=pe,fn:=c5,tmps:=a.tmps,params:=ps',assign,body,defers:=sz}:=⟨_,rfl⟩;obtain⟨κ0,j⟩:∃κ0,κ0=κ.push (.deferred<|some []) 0 (sz,998):=⟨_,rfl⟩;obtain⟨κ1,k⟩:∃κ1,κ1=κ0.push (.loop<|f .ready none) 0 (sz,999):=⟨_,rfl⟩;have d5:Step [] κ κ0:=by rw[j];exact gW _ _ _ _
 have b0:Step [] κ0 κ1:=by rw[k];exact gW _ _ _ _
 have s1:Step [] κ κ1:=d5.trans b0;have I:κ0.H.size=sz+1:=by rw[j,←bN];simp[K.push]
 have b5:cE sz 998 κ0 sz (.deferred<|some []):=by
  refine⟨⟨by rw[I];omega,?_,?_,gv _⟩,?_⟩
  ·rw[j];simp[K.push,bN]
  ·rw[j];simp[K.push,bN]
  ·rw[j];simp[K.push,←bN]
 have rD:cE sz 998 κ1 sz (.deferred<|some []):=b5.step0 b0;have rL:cE sz 999 κ1 (sz+1) (.loop<|f .ready none):=by
  refine⟨⟨by rw[k];simp[K.push,I],?_,?_,by simp⟩,?_⟩
  ·rw[k];simp[K.push,I]
  ·rw[k];simp[K.push,I]
  ·rw[k];simp[K.push,←I]
 have b8:((W C κ d).alloc<|.deferred<|some []).alloc (.loop<|f .ready none)=W C κ1 d:=by rw[k,j];rfl
 have c1:Stab F B (λs κ'=>J s κ'/\cE sz 999 κ' (sz+1) (.loop<|f .ready none)/\cE sz 998 κ' sz (.deferred<|some [])):=by
  intro s κa κb M h st hM;refine⟨hJ h.1 st (λb u T=>?_),h.2.1.step st (λu=>?_),h.2.2.step st (λu=>?_)⟩
  ·have:=Kc (hM b u T).1;unfold dO at this;simp only[Bool.or_eq_false_iff]at this;exact⟨this.2,(hM b u T).2⟩
  ·have:=Ug (hM _ u h.2.1.o.lt).1;rw[h.2.1.o.tag]at this;exact this rfl
  ·have:=Uh (hM _ u h.2.2.o.lt).1;rw[h.2.2.o.tag]at this;exact this rfl
 have Q:Nat.beq (999 / 1000) F=false:=by
  cases u:Nat.beq (999 / 1000) F with
  | false=>rfl
  | true=>have:=gt u;simp at this;omega
 have jl:∀{s:σ} {κa κb:K} {o:Obj},J s κa->Step [sz+1] κa κb->cE sz 999 κa (sz+1) o->J s κb:=λh st hr=>
  hJ h st (λb u _=>by rw[ga.1 u,hr.o.tag];exact⟨Q,by omega⟩)
 have c3:a.eval g'=.func (.func gf) #[] lb:=by rw[Y.eval];exact hg
 refine⟨sz+1,hU sz,W C κ1 d,{target:=.fn (.func gf) lb,args:=#[.func (.yield (sz+1)) #[] #[]]},W C κ1 d,gf,#[.func (.yield (sz+1)) #[] #[]]++lb,W C κ1 d,?_,?_,?_,?_,λh=>(by simp[Fence.wide]at h),?_⟩
 ·rw[←b8,i,←bN];exact run_enterLoop_outer _ _ _ _ _
 ·simp only[resolve,c3];simp[go_sem]
 ·intro f' f1;trivial
 ·simp[invoke,go_sem,Tm hgf]
 ·refine CallsIn.mono ((callsIn_wide (n:=0 - 1)).2<|hit (J':=λs κ'=>J s κ'/\cE sz 999 κ' (sz+1) (.loop<|f .ready none)/\cE sz 998 κ' sz (.deferred<|some [])) (l:=sz+1) s1 c1 ?_ ⟨hJ h0 s1 (λb u=>by cases u),rL,rD⟩ C d) ?_
  ·
   rintro κ' s O x vs ⟨hj,X,hD⟩ hok henc hy C' d';obtain⟨hlen,b9⟩:=L (o2:=.loop {f .ready none with state:=.busy}) om X hj hok henc hy;have T:sz+1<κ'.H.size:=X.o.lt;have a6:=run_yield (P:=P) (w:=W C' κ' d') (args:=vs.toArray) X.obj (by rw[i];simp only[gk];rw[hlen,←a5];simp);rw[i]at a6;refine⟨_,_,_,_,a6,roundIn_of_wpIn trivial ?_⟩;have a7 : @Fits ⟨some (sz+1),[]⟩ n {tmps:=(ps'.zip vs.toArray).foldl (λt (p,v)=>t.setIfInBounds p v) a.tmps,defers:=[]} (qj E ps vs):=by
    have h:=QR (inst:=⟨some (sz+1),[]⟩) ps vs a.tmps E Z<|@Fits.mk ⟨some (sz+1),[]⟩ n {tmps:=a.tmps,defers:=[]} E Y.size rfl Y.tmps;have e:(ps'.zip vs.toArray)=(ps.zip vs).toArray:=by
     rw[←a5];obtain⟨q⟩:=ps';exact List.zip_toArray _ _
    rw[e];simpa using h
   refine wpIn_mono (b9 ⟨some (sz+1),[]⟩ rfl C' d' _ a7) ?_;rintro e a1 w1 ⟨E1,κa,da,c9,rfl,hq⟩;cases e with
   | normal=>
    obtain⟨a9,hk⟩:=hq;obtain⟨c6,b7⟩:=tR a9<|.loop {f .ready none with state:=.busy};refine⟨_,run_beginRound (r:=f .ready none) a9.obj (by rw[i]),?_⟩;rw[Pf];refine wpIn_mono (hk _ c6 b7 C' da a1 c9) ?_;rintro e a2 w2 ⟨E2,κb,db,f3,rfl,b1⟩;cases e with
    | normal=>
     obtain⟨m,S,d4⟩:=b1;obtain⟨V,b6⟩:=tR m<|.loop<|f .ready none;have G:=run_endRound (P:=P) (w:=W C' κb db) (l:=sz+1) none m.obj;refine⟨_,_,G,rfl,κb.setO (sz+1)<|.loop<|f .ready none,db,?_,?_,?_,b6,?_⟩
     ·rw[Pf];rw[i];rfl
     ·exact S.trY (m.o.tb1 rfl) V
     ·exact jl d4 V m
     ·refine hD.step (S.trY (m.o.tb1 rfl) V)<|hD.o.ntb ?_;unfold dO;have:Nat.beq (998 / 1000) F=false:=Q;rw[this];rfl
    | _=>exact b1.elim
   | _=>exact hq.elim
  ·
   rintro e w2 ⟨v,κ2,d2,rfl,rfl,hj,X,hD⟩;obtain⟨U,c4⟩:∃U:Obj,U=.loop {f .ready none with state:=.exhausted}:=⟨_,rfl⟩;obtain⟨a4,m⟩:=tR X U;have G:(Instr.endLoop (sz+1)).run P (W C κ2 d2)=.ok none (W C (κ2.setO (sz+1) U) d2):=by
    have:=run_endLoop (P:=P) (w:=W C κ2 d2) (l:=sz+1) X.obj (by rw[i];simp);rw[this,c4,i];rfl
   refine⟨none,_,G,?_⟩;show(Exit.inBlock id' _) Exit.normal _ _;simp only[Exit.inBlock,Exit.then];have c7:cE sz 998 (κ2.setO (sz+1) U) sz (.deferred<|some []):=hD.step a4 si;have d6:J r (κ2.setO (sz+1) U):=jl hj a4 X;have a8:Code.wpIn Fence.wide 0 P rest (@dZ ⟨none,hU sz⟩ _ n C<|qk P fn R sz sz) {a with defers:=hU sz++a.defers} (W C (κ2.setO (sz+1) U) d2):=H om c7 d6 ⟨none,hU sz⟩ rfl C d2 {a with defers:=hU sz++a.defers} (@Fits.mk ⟨none,hU sz⟩ n _ E Y.size (by rw[Y.defers];rfl) Y.tmps)
   refine wpIn_mono a8 ?_;rintro e a3 w3 ⟨E3,κ3,d3,c0,rfl,d0⟩;exact YR (inst:=⟨none,hU sz⟩) rfl c0 d0
section
variable {F B:Nat} {κ κ1 κ2:K} {M M':List Nat} {τ:aK}
def Step.trZ(h:Step M κ κ1)(st:Step M' κ1 κ2)(hM:∀b∈M',b<κ1.H.size->Nat.beq ((κ1.tag b).2 / 1000) F=false/\κ.H.size<=b):Step M κ κ2:=h.trM (λb c=>.inr (by
  by_cases a:b<κ1.H.size
  ·exact(hM b c a).2
  ·exact gy h.1<|Nat.le_of_not_lt a)) st
def dF.stepZ{b}(h:dF τ κ b)(hM:∀b∈M,b<κ.H.size->Nat.beq ((κ.tag b).2 / 1000) F=false/\B<=b)(ht:Nat.beq (τ.2 / 1000) F=true):b∉M:=λa=>by
 have:=(hM b a h.lt).1;rw[h.tag,ht]at this;cases this
def aI.stepZ{T:TypeId}{b cs}(h:aI τ κ b cs T)(st:Step M κ κ1)(hM:∀b∈M,b<κ.H.size->Nat.beq ((κ.tag b).2 / 1000) F=false/\B<=b)(ht:Nat.beq (τ.2 / 1000) F=true):aI τ κ1 b cs T:=h.step st (h.o.stepZ hM ht)
def Gr.stepZ{α:Type}{t:Ty α}{e:TypeId}{l:List α}{pub a c}(h:Gr t pub τ κ e a c l)(st:Step M κ κ1)(hM:∀b∈M,b<κ.H.size->Nat.beq ((κ.tag b).2 / 1000) F=false/\B<=b)(ht:Nat.beq (τ.2 / 1000) F=true):Gr t pub τ κ1 e a c l:=h.step st (λg d f=>by
  have:=(hM g f (h.lt g d).1).1;rw[(h.lt g d).2.1,ht]at this;cases this)
def IE{N i}(h:Nat.beq (i / 1000) F=false)(h8:Nat.beq i 998=false:=by kernel_rfl)(h9:Nat.beq i 999=false:=by kernel_rfl):nI F (N,i)=true:=by
 show(!(Nat.beq i 998)&&!(Nat.beq i 999||Nat.beq (i / 1000) F))=true;rw[h,h8,h9];rfl
def BJ{N i}(h:Nat.beq (i / 1000) F=false)(h9:Nat.beq i 999=false:=by kernel_rfl):dO F (N,i)=false:=by
 show(Nat.beq i 999||Nat.beq (i / 1000) F)=false;rw[h,h9];rfl
end
def nH:Ty (Option Nat):=⟨1,λ_ cs x=>cs=[.pointer (x.map λb=>⟨b,0,none⟩)],λh=>by rw[h];rfl,λ_ h=>h,λh v hv=>by rw[h]at hv;simp at hv;subst hv;rfl⟩
def nb(bs:List Nat)(x:Int):Nat:=(bs[x.toNat]?).getD 0
def jG(bs:List Nat)(x:Int):Option Addr:=if x<0 then none else some ⟨nb bs x,0,none⟩
def iE(n:Nat)(bs:List Nat):List (Option Nat):=bs.map some++List.replicate (n - bs.length) none
def kU(a:Option Addr)(n:Nat)(bs:List Nat):List Nat:=aG a n++bs
structure bG(τ:aK)(κ:K)(eP eG:TypeId)(a:Option Addr)(n:Nat)(bs:List Nat)(L:List Int):Prop where
 vec:Gr nH false τ κ eP a n (iE n bs)
 le:bs.length<=n
 len:bs.length=L.length
 node:∀(i b:Nat)(x:Int),bs[i]?=some b->L[i]?=some x->aI τ κ b [.pointer (jG bs x),.int .i64 i] eG
 rng:∀(i:Nat)(x:Int),L[i]?=some x->x.toNat<bs.length
 nd:bs.Nodup
 dis:∀g∈aG a n,g∉bs
def nC(bytes:Nat)(n:Int):Option (List Int):=if 0<=n/\n<=9223372036854775807/\n*bytes<=140737488355328 then some []else none
def nr(n:Nat)(L:List Int)(ix:Int):Option (List Int):=if ix=(L.length:Int)/\L.length<n then some (L++[-1])else none
def gstep(L:List Int)(i:Int):Option (Int ⊕ Int):=(idx L i).bind λp=>if p<0 then some (.inr i)else some (.inl p)
def Rm{n:Int}{bytes r}(h:nC bytes n=some r):cZ bytes n (none:Option Nat)=some (List.replicate n.toNat none)/\r=[]:=by
 unfold nC at h;split at h
 ·rename_i hc;exact⟨by unfold cZ;rw[if_pos hc],(Option.some.inj h).symm⟩
 ·cases h
def NX{L:List Int}{n r ix}(h:nr n L ix=some r):ix=(L.length:Int)/\L.length<n/\r=L++[-1]:=by
 unfold nr at h;split at h
 ·rename_i hc;exact⟨hc.1,hc.2,(Option.some.inj h).symm⟩
 ·cases h
def Ht{bs:List Nat}{n}(h:bs.length<=n):(iE n bs).length=n:=by
 unfold iE;simp;omega
section
variable {τ τ':aK} {κ κ':K} {eP eG:TypeId} {a:Option Addr} {n:Nat} {bs:List Nat} {L:List Int} {M:List Nat}
def pU{x:Int}(h:x.toNat<bs.length):bs[x.toNat]?=some (nb bs x):=by
 unfold nb;rw[dj h];rfl
def bG.mem(h:bG τ κ eP eG a n bs L):∀g∈kU a n bs,g<κ.H.size/\κ.tag g=τ/\τ.1<=g:=by
 intro g b;rcases fj.1 b with b | b
 ·exact h.vec.lt g b
 ·obtain⟨i,hi,e⟩:=List.getElem_of_mem b;have d:bs[i]?=some g:=by rw[dj hi,e]
  have c:i<L.length:=by rw[←h.len];exact hi
  have:=h.node i g _ d<|dj c;exact⟨this.lt,this.tag,this.ge⟩
def bG.step(s:Step M κ κ')(hm:∀g∈kU a n bs,g∉M)(h:bG τ κ eP eG a n bs L):bG τ κ' eP eG a n bs L:=⟨h.vec.step s (λg d=>hm g<|fp _ d),h.le,h.len,
  λi b x c e=>(h.node i b x c e).step s<|hm b<|List.mem_append_right _<|fx c,h.rng,h.nd,h.dis⟩
def bG.step0(s:Step [] κ κ')(h:bG τ κ eP eG a n bs L):bG τ κ' eP eG a n bs L:=h.step s (λ_ _=>by simp)
def bG.own{κ0:K}(h:bG τ κ eP eG a n bs L)(h0:κ0.H.size<=τ.1):∀b∈kU a n bs,κ0.H.size<=b:=λb c=>gy h0 (h.mem b c).2.2
def bG.nb{b}(h:bG τ κ eP eG a n bs L)(h':dF τ' κ b)(hn:τ'≠τ):b∉kU a n bs:=λc=>hn (h'.tag.symm.trans (h.mem b c).2.1)
def bG.bn{b}(h:bG τ κ eP eG a n bs L)(h':dF τ' κ b)(hn:τ≠τ'):∀g∈kU a n bs,g∉[b]:=λg c d=>by
 have e:=ga.1 d;subst e;exact hn ((h.mem g c).2.1.symm.trans h'.tag)
def bG.gn{α:Type}{t:Ty α}{e:TypeId}{l:List α}{pub a' c'}(h:bG τ κ eP eG a n bs L)(h':Gr t pub τ' κ e a' c' l)(hn:τ≠τ'):∀g∈kU a n bs,g∉aG a' c':=λg b c=>hn<|(h.mem g b).2.1.symm.trans (h'.lt g c).2.1
def bG.gnm{α:Type}{t:Ty α}{eo ei:TypeId}{l:List (List α)}{pub a' c' hm hs}(h:bG τ κ eP eG a n bs L)(h':aX t pub τ' κ eo ei a' c' hm hs l)(hn:τ≠τ'):∀g∈kU a n bs,g∉mblk a' c' hs:=λg b c=>hn<|(h.mem g b).2.1.symm.trans (h'.lt g c).2.1
def bG.inb(h:bG τ κ eP eG a n bs L){ix:Int}{x}(hx:idx L ix=some x):0<=ix/\ix.toNat<bs.length:=by
 obtain⟨b,c,d⟩:=iO hx;exact⟨b,by rw[h.len];omega⟩
def bG.vcell(h:bG τ κ eP eG a n bs L){ix:Int}{x}(hx:idx L ix=some x):
  ∃b,a=some ⟨b,0,none⟩/\0<=ix/\ix<(n:Int)/\At κ b (0+ix.toNat*1) [.pointer (some ⟨Lf.nb bs ix,0,none⟩)]:=by
 have e:=h.inb hx;have hp:idx (iE n bs) ix=some (some<|Lf.nb bs ix):=by
  unfold idx;rw[if_pos e.1];unfold iE;rw[df (by simpa using e.2),dt,pU e.2];rfl
 obtain⟨b,i,j,f,cs,c,g⟩:=h.vec.idx hp;rw[Ht h.le]at f;refine⟨b,i,j,f,?_⟩;have d:cs=[.pointer<|some ⟨Lf.nb bs ix,0,none⟩]:=g;rw[d]at c;exact c
def bG.ncell(h:bG τ κ eP eG a n bs L){ix:Int}(hn:0<=ix/\ix.toNat<bs.length):∃x,idx L ix=some x/\aI τ κ (Lf.nb bs ix) [.pointer (jG bs x),.int .i64 ix] eG:=by
 have c:ix.toNat<L.length:=by rw[←h.len];exact hn.2
 have b:L[ix.toNat]?=some L[ix.toNat]:=dj c;refine⟨L[ix.toNat],by unfold idx;rw[if_pos hn.1,b],?_⟩;have:=h.node ix.toNat _ _ (pU hn.2) b;rw[bi hn.1]at this;exact this
def bG.num(h:bG τ κ eP eG a n bs L){ix:Int}(hn:0<=ix/\ix.toNat<bs.length):κ.cell (Lf.nb bs ix) 1=some (.int .i64 ix):=by
 obtain⟨x,_,b⟩:=h.ncell hn;have:=b.at.one (o:=1) rfl;simpa using this
def bG.lead(h:bG τ κ eP eG a n bs L){ix x}(hx:idx L ix=some x):κ.cell (Lf.nb bs ix) 0=some (.pointer (jG bs x)):=by
 obtain⟨x',b,c⟩:=h.ncell<|h.inb hx;rw[hx]at b;injection b with e;subst e
 have:=c.at.one (o:=0) rfl;simpa using this
def If{r:Int}(h:bG τ κ eP eG a n bs L){ix:Int}(hn:0<=ix/\ix.toNat<bs.length)(hr:iter (gstep L) ix=some r):0<=r/\r.toNat<bs.length:=by
 obtain⟨m,hm⟩:=ls.1 hr
 induction m generalizing ix with
 | zero=>cases hm
 | succ m ih=>
  unfold gE at hm;unfold gstep at hm;cases hx:idx L ix with
  | none=>rw[hx]at hm;cases hm
  | some p=>
   rw[hx]at hm;simp only[im]at hm;by_cases hp:p<0
   ·rw[if_pos hp]at hm;injection hm with e;subst e;exact hn
   ·rw[if_neg hp]at hm;exact ih ⟨Int.not_lt.1 hp,h.rng ix.toNat p (iO hx).2.2⟩ (ls.2 ⟨m,hm⟩) hm
def bG.made(h:Gr nH false τ κ eP a n (List.replicate n none)):bG τ κ eP eG a n [] []:=⟨by unfold iE;simpa using h,by simp,rfl,λi b x d=>by simp at d,λi x c=>by simp at c,by simp,λg _=>by simp⟩
def bG.newat{r}(h:bG τ κ eP eG a n bs L){ix}(hx:nr n L ix=some r):∃b,a=some ⟨b,0,none⟩/\0<=ix/\ix<(n:Int):=by
 obtain⟨e,d,_⟩:=NX hx;have hp:idx (iE n bs) 0=some ((iE n bs)[0]'(by rw[Ht h.le];omega)):=by
  unfold idx;rw[if_pos om];exact dj _
 obtain⟨b,c,_⟩:=h.vec.idx hp;exact⟨b,c,by omega,by omega⟩
def Rk{b}(h:bs.length<n):(iE n bs).set bs.length (some b)=iE n (bs++[b]):=by
 unfold iE;rw[List.set_append_right _ _ si];have e:n - bs.length=(n - (bs++[b]).length)+1:=by simp;omega
 rw[e,List.replicate_succ];simp
def SG{x:Int}{b}(h:x.toNat<bs.length):Lf.nb (bs++[b]) x=Lf.nb bs x:=by
 unfold Lf.nb;rw[df h]
def Sc{x:Int}{b}(h:x.toNat<bs.length):jG (bs++[b]) x=jG bs x:=by
 unfold jG;rw[SG h]
def RO{T:TypeId}{b cs}(h:aI τ' κ b cs T)(hle:τ.1<=τ'.1):aI τ (κ.retag [b] τ) b cs T/\Step [b] κ (κ.retag [b] τ):=⟨⟨h.obj,h.fr,by simp[K.retag],gy hle h.ge⟩,⟨gv _,λx a hm=>⟨rfl,rfl,by simp[K.retag]at hm ⊢;simp[hm]⟩,λx a=>⟨gv _,λo _=>rfl⟩,λx a c=>⟨by
  have:x≠b:=λe=>by rw[e,h.fr]at c;omega
  simp[K.retag,this],rfl⟩⟩⟩
def bG.push{b}(h:bG τ κ eP eG a n bs L)(hlt:bs.length<n)(s:Step (aG a n) κ κ')(hv:Gr nH false τ κ' eP a n (iE n (bs++[b])))(hb:aI τ' κ b [.pointer none,.int .i64 (L.length:Int)] eG)(hne:τ'≠τ)(hle:τ.1<=τ'.1):
  bG τ (κ'.retag [b] τ) eP eG a n (bs++[b]) (L++[-1])/\Step [b] κ' (κ'.retag [b] τ):=by
 have l:b∉aG a n:=λj=>hne<|hb.tag.symm.trans (h.vec.lt b j).2.1;have m:b∉bs:=λj=>hne<|hb.tag.symm.trans (h.mem b<|List.mem_append_right _ j).2.1;have q:=hb.step s l;obtain⟨p,r⟩:=RO (τ:=τ) q hle;refine⟨⟨hv.step r (λg j c=>l (by rw[ga.1 c]at j;exact j)),by simp;omega,by simp[h.len],?_,?_,?_,?_⟩,r⟩
 ·intro i v x d f;by_cases hi:i<bs.length
  ·rw[df hi]at d;have u:i<L.length:=by rw[←h.len];exact hi
   rw[df u]at f;have k:v∈bs:=fx d;have:=((h.node i v x d f).step s (λj=>h.dis v j k)).step r (λc=>m (by rw[ga.1 c]at k;exact k));rw[Sc<|h.rng i x f];exact this
  ·have t:i=bs.length:=by
    have:=(dm.1 d).1;simp at this;omega
   subst t;rw[dg<|gv _]at d;simp at d;subst d;rw[h.len,dg<|gv _]at f;simp at f;subst f;rw[h.len];exact p
 ·intro i x c;by_cases hi:i<L.length
  ·rw[df hi]at c;have:=h.rng i x c;simp;omega
  ·rw[dg om]at c;have w:=(dm.1 c).1;simp at w;rw[w]at c;simp at c;subst c;simp
 ·rw[gd];exact⟨h.nd,by simp,λx c y A e=>m (by rw[ga.1 A]at e;exact e▸c)⟩
 ·intro g j c;rcases fj.1 c with c | c
  ·exact h.dis g j c
  ·rw[ga.1 c]at j;exact l j
def bG.set{ix jx:Int}(h:bG τ κ eP eG a n bs L)(hi:0<=ix/\ix.toNat<bs.length)(hj:0<=jx/\jx.toNat<bs.length)(s:Step [Lf.nb bs ix] κ κ')(hb:aI τ κ' (Lf.nb bs ix) [.pointer (some ⟨Lf.nb bs jx,0,none⟩),.int .i64 ix] eG):
  bG τ κ' eP eG a n bs (L.set ix.toNat jx):=by
 have k:Lf.nb bs ix∈bs:=fx<|pU hi.2;refine⟨h.vec.step s (λg m f=>h.dis g m (by rw[ga.1 f];exact k)),h.le,by rw[fa];exact h.len,?_,?_,h.nd,h.dis⟩
 ·intro i b x c d;by_cases j:i=ix.toNat
  ·subst j;rw[pU hi.2]at c;injection c with e;subst e
   rw[dz (by rw[←h.len];exact hi.2)]at d;injection d with e;subst e
   have:jG bs jx=some ⟨Lf.nb bs jx,0,none⟩:=by unfold jG;rw[if_neg om]
   rw[this,bi hi.1];exact hb
  ·rw[dy<|Ne.symm j]at d;refine(h.node i b x c d).step s (λf=>j ?_);have e:=ga.1 f;subst e;have l:=(dm.1 c).1;exact(List.getElem?_inj l h.nd).1 (c.trans (pU hi.2).symm)
 ·intro i x f;by_cases j:i=ix.toNat
  ·subst j;rw[dz (by rw[←h.len];exact hi.2)]at f;injection f with e;subst e;exact hj.2
  ·rw[dy<|Ne.symm j]at f;exact h.rng i x f
end
section
variable [Fc] [Fb] {P:Program} {N:Nat} {c:Code} {i:Nat} {Q:bC} {E:aB} {κ:K} {τ τ':aK} {eP eG:TypeId} {a:Option Addr} {n:Nat} {bs:List Nat} {L r:List Int}
def TJ{T:TypeId}{m:Int}{d bytes k1 k2}(eG:TypeId)(hT:gC P T=some (eP,1,1,bytes))(hz:(eJ P eP).map Value.cells=some [.pointer none].toArray)(hx:nC bytes m=some r)(hτ:τ.1<=κ.H.size)(hk:∀a' κ',Step [] κ κ'->bG τ κ' eP eG a' m.toNat [] r->aN P N c (i+1) Q (aQ E d (.slice a' m.toNat m.toNat)) κ')(h:st c i N E (some d)=true:=by kernel_rfl)(ho:execOp (ev E) (zw c i)=aW (Instr.makeSlice T (.int k1 m) (.int k2 m)):=by kernel_rfl):aN P N c i Q E κ:=by
 obtain⟨hm,rfl⟩:=Rm hx;refine gB (pub:=false) (t:=nH) (z:=none) h ho hT hz rfl hm hτ λa' κ' s g=>?_;rw[ey]at g ⊢;exact hk a' κ' s<|bG.made g
def SE{ix:Int}{T:TypeId}{bv b}(h:bG τ κ eP eG a n bs L)(p:nr n L ix=some r)(ea:a=some ⟨bv,0,none⟩)(hb:aI τ' κ b [.pointer none,.int .i64 ix] eG)(hne:τ'≠τ)(hle:τ.1<=τ'.1)(hs:zO P T=some 1)(hk:∀κ1 κ2,Step (kU a n bs) κ κ1->Step [b] κ1 κ2->bG τ κ2 eP eG a n (bs++[b]) r->aN P N c (i+1) Q E κ2)(hst:st c i N E none=true:=by kernel_rfl)(l:execOp (ev E) (zw c i)=gH (Instr.storeAt T (.pointer (some ⟨bv,0+ix.toNat*1,none⟩)) (.pointer (some ⟨b,0,none⟩))):=by kernel_rfl):aN P N c i Q E κ:=by
 obtain⟨e,k,rfl⟩:=NX p;have d:bs.length<n:=by rw[h.len];exact k
 have j:ix.toNat=bs.length:=by rw[e,h.len];simp
 refine gY (T:=T) (t:=nH) (ix:=ix) (x':=some b) (b:=bv) (δ:=0) (vs:=[.pointer<|some ⟨b,0,none⟩]) (.pointer<|some ⟨b,0,none⟩) hst l ea h.vec om (by rw[Ht h.le];omega) rfl hs rfl rfl
  (λcs p=>by obtain⟨x,_,l⟩:=p;rw[pC<|(nH.len l).trans (by rfl)];rfl) λκ' s f=>?_
 rw[j,Rk d]at f;have m:aI τ' κ b [.pointer none,.int .i64 (L.length:Int)] eG:=by rw[←e];exact hb
 obtain⟨F,q⟩:=h.push d s f m hne hle;refine iN (κ':=κ'.retag [b] τ) rfl<|hk κ' _ (s.mono (λg f=>fp _ f)) q F
def Ka{ix jx:Int}{T:TypeId}(h:bG τ κ eP eG a n bs L)(hi:0<=ix/\ix.toNat<bs.length)(hj:0<=jx/\jx.toNat<bs.length)(hs:zO P T=some 1)(hk:∀κ',Step (kU a n bs) κ κ'->bG τ κ' eP eG a n bs (L.set ix.toNat jx)->aN P N c (i+1) Q E κ')(hst:st c i N E none=true:=by kernel_rfl)(ho:execOp (ev E) (zw c i)=gH (Instr.storeAt T (.pointer (some ⟨nb bs ix,0,none⟩)) (.pointer (some ⟨nb bs jx,0,none⟩))):=by kernel_rfl):aN P N c i Q E κ:=by
 obtain⟨x,_,f⟩:=h.ncell hi;refine gL (b:=nb bs ix) (off:=0) (T:=T) (.pointer<|some ⟨nb bs jx,0,none⟩) [.pointer<|some ⟨nb bs jx,0,none⟩] [.pointer<|some ⟨nb bs jx,0,none⟩,.int .i64 ix] hst ho f rfl hs rfl rfl rfl λκ' s _ d=>?_;refine hk κ' (s.mono (λg e=>?_))<|h.set hi hj s d;rw[ga.1 e];exact List.mem_append_right _<|fx<|pU hi.2
end
section
variable {P:Program} {α:Type} {t:Ty α} {κ:K} {e T T2:TypeId} {a a2:Option Addr} {cp c2:Nat} {l l2 r:List α} {τ:aK}
def OY{ys:List Value}{b off n len cap}(h:kM κ b off ys)(hn:n*t.size<=ys.length)[Fb](C:Cx)d:
  (Builtin.firstCells t.size n (.slice (some ⟨b,off,none⟩) len cap)).run P (W C κ d)=.ok (ys.take (n*t.size)).toArray (W C κ d):=by
 refine run_firstCells_some _ t.size n ⟨b,off,none⟩ len cap (ys.take (n*t.size)) (by rw[fd];omega) (λj v a=>?_);rw[js];rw[iu];refine h j v ?_;rw[ec]at a;split at a
 ·exact a
 ·cases a
def Oj{src len cap}[Fb](C:Cx)d:(Builtin.firstCells t.size 0 (.slice src len cap)).run P (W C κ d)=.ok #[] (W C κ d):=by
 cases src<;>simp[Builtin.firstCells,loadCells,loadCellsFrom]
def Ru{ty:TypeId}(hT:zK P T=some e)(hs:zO P e=some t.size)(hg:Gr t false τ κ e a cp l)(h2:Sl t κ a2 c2 l2)[Fb](C:Cx)d:
  ∃κ',(Builtin.copy_ #[T,T2] ty #[.slice a l.length cp,.slice a2 l2.length c2]).run P (W C κ d)=.ok (.int .i64 (min l2.length l.length:Nat)) (W C κ' d)/\Step (aG a cp) κ κ'/\Gr t false τ κ' e a cp (eI l 0 l2):=by
 obtain⟨j,f,hp⟩:=aZ.of_sl h2;have key:∀g,(0<l.length->a=some ⟨g,0,none⟩)->∃κ',(Builtin.copy_ #[T,T2] ty #[.slice a l.length cp,.slice a2 l2.length c2]).run P (W C κ d)=.ok (.int .i64 (min l2.length l.length:Nat)) (W C κ' d)/\Step (aG a cp) κ κ'/\Gr t false τ κ' e a cp (eI l 0 l2):=by
  intro g i;have:=HC (P:=P) (T:=T) (T2:=T2) (ty:=ty) (dcap:=cp) (lo:=0) (da:=a) hT hs hg i (Nat.zero_le _) (.slice a2 l2.length c2) j f (λh=>by rw[i h];simp) C d (λw=>rfl) (λn p=>by
   by_cases q:l2.length=0
   ·have:n=0:=by omega
    subst this;rw[Oj];simp
   ·obtain⟨b,off,m,c⟩:=hp om;rw[m];exact OY c.2.2 (by rw[f.length];exact ii _ p) C d)
  simpa using this
 rcases hg.body with⟨_,k⟩ |⟨g,cur,xs,i,_⟩
 ·exact key 0 (λh=>by rw[k]at h;simp at h)
 ·exact key g (λ_=>i)
def RK{hi}(hT:zK P T=some e)(hs:zO P e=some t.size)(hcap:l.length<=cp)(hx:dR l 0 hi=some r)w:
  (Instr.sliceAt T (.slice a l.length cp) none (jB (some hi)) none).run P w=.ok (.slice a r.length cp) w:=by
 have:=yP (P:=P) (T:=T) (a:=a) (lo:=none) (hi:=some hi) hT hs hcap hx w;have c:((Option.getD none 0:Int).toNat)=0:=rfl;rw[c,Nat.zero_mul,Nat.sub_zero]at this;have b:(if cp=0 then a else a.map (·.add 0))=a:=by
  split
  ·rfl
  ·cases a<;>simp[Addr.add]
 rw[b]at this;exact this
def Rt{ty:TypeId}{lo:Int}{q p:List α}{hi}(hT:zK P T=some e)(hs:zO P e=some t.size)(hg:Gr t false τ κ e a cp l)(hq:dR l lo l.length=some q)(hp:dR l 0 hi=some p)[Fb](C:Cx)d:
  ∃κ',(Builtin.copy_ #[T,T2] ty #[.slice (if cp=lo.toNat then a else a.map (·.add (lo.toNat*t.size))) q.length (cp - lo.toNat),.slice a p.length cp]).run P (W C κ d)=.ok (.int .i64 (min p.length (l.length - lo.toNat):Nat)) (W C κ' d)/\
   Step (aG a cp) κ κ'/\Gr t false τ κ' e a cp (eI l lo.toNat p):=by
 obtain⟨B,y,u,rfl⟩:=tG hq;obtain⟨D,x,A,rfl⟩:=tG hp;have m:(List.drop lo.toNat<|List.take (l.length:Int).toNat l).length=l.length - lo.toNat:=by simp
 rw[m];have k:List.drop (0:Int).toNat (List.take hi.toNat l)=l.take hi.toNat:=by simp
 rw[k];have r:=hg.cap;rcases hg.body with⟨s,f⟩ |⟨g,cur,xs,ha,hr,hH,h6,h7,h8,h9,_⟩
 ·have b:aZ t κ [] (l.take hi.toNat):=by rw[f];simp;rfl
  have:=HC (P:=P) (T:=T) (T2:=T2) (ty:=ty) (dcap:=cp - lo.toNat) (lo:=lo.toNat) (g:=0) (da:=if cp=lo.toNat then a else a.map (·.add (lo.toNat*t.size))) hT hs hg (λh=>by rw[f]at h;simp at h) om (.slice a (l.take hi.toNat).length cp) [] b (λh=>by rw[f]at h;simp at h) C d (λw=>rfl) (λn i=>by
   have:n=0:=by rw[f]at i;simpa using i
   subst this;rw[Oj];simp)
  exact this
 ·have b:=hr.take hi.toNat;have:=HC (P:=P) (T:=T) (T2:=T2) (ty:=ty) (dcap:=cp - lo.toNat) (lo:=lo.toNat) (g:=g) (da:=if cp=lo.toNat then a else a.map (·.add (lo.toNat*t.size))) hT hs hg (λ_=>ha) om (.slice a (l.take hi.toNat).length cp) _ b (λh=>by
   rw[if_neg om,ha];simp[js]) C d (λw=>rfl) (λn i=>by
   rw[ha];refine OY (λj v c=>?_) (by rw[b.length];exact ii _ i) C d;rw[ec]at c;split at c
   ·rw[←h9,ec]at c;split at c
    ·unfold K.cell;rw[hH];simpa using c
    ·cases c
   ·cases c)
  exact this
end
section
variable [Fc] [Fb] {P:Program} {n:Nat} {c:Code} {i k:Nat} {nq:List Nat} {q0:Nat} {M π:List Nat} {Q:bC} {E:aB} {κ:K} {α:Type} {t:Ty α} {e T T2:TypeId} {a a2:Option Addr} {cp c2:Nat} {l l2 p q:List α} {τ:aK}
def TK{ty:TypeId}{d}(hg:Gr t false τ κ e a cp l)(h2:Sl t κ a2 c2 l2)(hk:∀κ',Step (aG a cp) κ κ'->Gr t false τ κ' e a cp (eI l 0 l2)->aN P n c (i+1) Q (aQ E d (.int .i64 (min l2.length l.length:Nat))) κ')(h:st c i n E (some d)=true:=by kernel_rfl)(ho:execOp (ev E) (zw c i)=aW (Builtin.copy_ #[T,T2] ty #[.slice a l.length cp,.slice a2 l2.length c2]):=by kernel_rfl)(hT:zK P T=some e:=by kernel_rfl)(hs:zO P e=some t.size:=by kernel_rfl):aN P n c i Q E κ:=by
 refine gZ (λv κ'=>v=.int .i64 (min l2.length l.length:Nat)/\Step (aG a cp) κ κ'/\Gr t false τ κ' e a cp (eI l 0 l2)) h (λC g=>?_) ?_
 ·obtain⟨κ',j,b,f⟩:=Ru (P:=P) (T:=T) (T2:=T2) (ty:=ty) hT hs hg h2 C g;exact⟨_,κ',g,by rw[ho];exact zI j,rfl,b,f⟩
 ·rintro v κ' ⟨rfl,b,f⟩;exact hk κ' b f
def Tx{ty:TypeId}{lo:Int}{d hi}(hg:Gr t false τ κ e a cp l)(hq:dR l lo l.length=some q)(hp:dR l 0 hi=some p)(hrel:hX q0 M i=Step (aG a cp))(hk:∀κ',Step (aG a cp) κ κ'->Gr t false τ κ' e a cp (eI l lo.toNat p)->bY P n c k nq q0 M π Q (aQ E d (.int .i64 (min p.length (l.length - lo.toNat):Nat))) κ')(h:jI c nq i E d=true:=by kernel_rfl)(ho:execOp (ev E) (zw c i)=aW (Builtin.copy_ #[T,T2] ty #[.slice (if cp=lo.toNat then a else a.map (·.add (lo.toNat*t.size))) q.length (cp - lo.toNat),.slice a p.length cp]):=by kernel_rfl)(hT:zK P T=some e:=by kernel_rfl)(hs:zO P e=some t.size:=by kernel_rfl):bY P n c k nq q0 M (i::π) Q E κ:=by
 refine tV (λv κ'=>v=.int .i64 (min p.length (l.length - lo.toNat):Nat)/\Step (aG a cp) κ κ'/\Gr t false τ κ' e a cp (eI l lo.toNat p)) h (λv κ' j=>by rw[hrel];exact j.2.1) (λC g=>?_) ?_
 ·obtain⟨κ',m,b,f⟩:=Rt (P:=P) (T:=T) (T2:=T2) (ty:=ty) hT hs hg hq hp C g;exact⟨_,κ',g,by rw[ho];exact zI m,rfl,b,f⟩
 ·rintro v κ' ⟨rfl,b,f⟩;exact hk κ' b f
def Sp{F}(h:E=F)(hk:bY P n c k nq q0 M π Q F κ):bY P n c k nq q0 M π Q E κ:=by rw[h];exact hk
def TV{lo}(h:l.length<=maxLen):I64 ((min p.length (l.length - lo):Nat):Int):=by
 rw[pJ]at h;unfold I64;omega
def Ti(h:l.length<=maxLen):I64 ((min l2.length l.length:Nat):Int):=by
 rw[pJ]at h;unfold I64;omega
end
def JD{α:Type}{l r:List α}{l2:List α}{lo}(h:some (eI l lo l2)=some r)(hlo:lo<=l.length):r.length=l.length:=by
 injection h with h;rw[←h];exact Ix hlo
def JS{α:Type}{t:Ty α}{e:TypeId}{l r:List α}{pub τ κ a c}(h:some l=some r)(hg:Gr t pub τ κ e a c l):Gr t pub τ κ e a c r:=by injection h with h;rw[←h];exact hg
def SA{α:Type}{l r:List α}{lo:Int}(h:dR l lo l.length=some r):lo.toNat<=l.length:=by
 obtain⟨b,a,_⟩:=tG h;omega
inductive Er where
 | nil | line (l c:Int) | whole | other
structure Globg(tab:List Int)(ts rt gw ge gsy gra gta nv te:Nat)(κ:K):Prop where
 whole:∃a,PubAt κ gw 0 [.iface ts (.pointer (some a))]
 syn:∃t p,PubAt κ gsy 0 [.iface t p]
 rng:∃t p,PubAt κ gra 0 [.iface t p]
 pow:PubAt κ gta 0 (tab.map (Value.int .u64))
 psz:0<tab.length/\∃e k,κ.shp gta=some (e,tab.length,k)
 ety:PubAt κ ge 0 [.iface rt (.agg #[.pointer (some ⟨nv,te,none⟩)])]
section
variable [Fc] [Fb] {P:Program} {n:Nat} {c:Code} {i:Nat} {Q:bC} {E:aB} {κ:K}
end
def uw(c:Code)(l:List Bool):List Nat:=Region.ready .any (opsOf c) l.toArray
section
variable {α β:Type} {tb:Ty β} {t:Ty α}
def tX(tb:Ty β)(t:Ty α):Ty ((β×List α)×Hd):=⟨tb.size+1,λκ cs x=>∃c1,cs=c1++[.slice x.2.1 x.2.2.1 x.2.2.2]/\tb.own κ c1 x.1.1/\x.2.2.1=x.1.2.length/\Sl t κ x.2.1 x.2.2.2 x.1.2,
  λ⟨c1,h,h1,_⟩=>by rw[h,ef,tb.len h1];rfl,
  λs ⟨c1,h,h1,h2,h3⟩=>⟨c1,h,tb.step s h1,h2,h3.step s⟩,
  λ⟨c1,h,h1,_⟩ v hv=>by
   rw[h,fj]at hv;rcases hv with hv | hv
   ·exact tb.one h1 v hv
   ·rw[ga.1 hv];rfl⟩
structure ZO(tb:Ty β)(t:Ty α)(S:Nat)(eS:TypeId)(τ:aK)(κ:K)(e:TypeId)(a:Option Addr)(c:Nat)(L:List (β×List α))(H:List (Hd×Nat)):Prop where
 len:H.length=L.length
 gr:Gr (tX tb t) true τ κ e a c (L.zip (H.map Prod.fst))
 pw:H.Pairwise (λx y=>0<x.1.2.1->0<y.1.2.1->x.2≠y.2)
 home:∀x∈H,0<x.1.2.1->∃b,x.1.1=some ⟨b,0,none⟩/\b<κ.H.size/\κ.tag b=(x.2,S)/\x.2<=b/\0<κ.fr b/\κ.shp b=some (eS,x.1.2.2*t.size,(0,0))/\x.1.2.2<=maxLen
variable {S:Nat} {eS e:TypeId} {τ:aK} {κ κ':K} {a:Option Addr} {c:Nat} {L:List (β×List α)} {H:List (Hd×Nat)} {M:List Nat}
def Hm(e:TypeId)(c s:Nat)(τ:aK)(κ:K)(a:Option Addr)(n:Nat):Prop:=0<n->c<=maxLen/\∃b,a=some ⟨b,0,none⟩/\b<κ.H.size/\κ.tag b=τ/\0<κ.fr b/\κ.shp b=some (e,c*s,(0,0))
def Hm.step{s n}(st:Step M κ κ')(h:Hm e c s τ κ a n):Hm e c s τ κ' a n:=λl=>by
 obtain⟨j,b,k,d,m,g,i⟩:=h l;have f:=st.2.2.2 b d g;exact⟨j,b,k,ib d st.1,f.1.trans m,ib g (st.2.2.1 b d).1,f.2.trans i⟩
def Hm.nil{s}:Hm e c s τ κ a 0:=λh=>absurd h (Nat.lt_irrefl 0)
def Gr.hm{l:List α}(h:Gr t true τ κ e a c l)(hs:0<t.size):Hm e c t.size τ κ a l.length:=λd=>by
 rcases h.body with⟨_,f⟩ |⟨b,cur,xs,ha,hr,hH,h1,h2,h3,h4,h5,h6,h7⟩
 ·rw[f]at d;cases d
 ·refine⟨h2,b,ha,(ai.1 hH).1,h6,?_,?_⟩
  ·rw[h5];simp;exact Nat.mul_pos d hs
  ·unfold K.shp;rw[hH];simp[h3]
end
section
variable [Fc] [Fb] {P:Program} {n:Nat} {c:Code} {i k:Nat} {nq:List Nat} {q0:Nat} {M π:List Nat} {Q:bC} {E:aB} {κ:K} {α β:Type} {tb:Ty β} {t:Ty α} {S:Nat} {eS e T:TypeId} {τ τ2:aK} {a a2:Option Addr} {cp c2:Nat} {L r:List (β×List α)} {H:List (Hd×Nat)} {x:β×List α} {hd:Hd} {N:Nat}
end
def nz(k:IntKind)(x n:Int):Option Int:=if 0<=n then some (k.wrap (x*2 ^ (min n.toNat k.bits)))else none
def ke(k:IntKind)(x y:Int):Int:=k.wrap ((BitVec.ofInt k.bits x &&& BitVec.ofInt k.bits y).toNat:Int)
def nD(k:IntKind)(x y:Int):Int:=k.wrap ((BitVec.ofInt k.bits x ||| BitVec.ofInt k.bits y).toNat:Int)
def JV(x y:Int):Int:=if y>x then y else x
def JE x y:I64 (nD .i64 x y):=zp _
def lQ(k:IntKind)(x n:Int):Option Int:=if 0<=n then some (x.fdiv (2 ^ (min n.toNat k.bits)))else none
section
variable {P:Program} {E:aB} {c:Code} {i:Nat} {T:TypeId} {w:World}
def Bv{k yk x n r}(h:execOp (ev E) (zw c i)=aW (Op.shift .shl k x yk n))(hx:nz k x n=some r):
  (execOp (ev E) (zw c i)).run P w=.ok (.value (.int k r)) w:=by
 unfold nz at hx;split at hx
 ·rename_i h0;obtain rfl:=Option.some.inj hx;rw[h];refine zI ?_;unfold Op.shift;rw[if_neg om];rfl
 ·cases hx
def Ii{k yk x n r}(h:execOp (ev E) (zw c i)=aW (Op.shift .shr k x yk n))(hx:lQ k x n=some r):
  (execOp (ev E) (zw c i)).run P w=.ok (.value (.int k r)) w:=by
 unfold lQ at hx;split at hx
 ·rename_i h0;obtain rfl:=Option.some.inj hx;rw[h];refine zI ?_;unfold Op.shift;rw[if_neg om];rfl
 ·cases hx
end
def uh(P:Program)(f:Field)(off:Nat):Bool:=(f.name != "_")&&Nat.beq f.offset off&&jS P f.type&&(zO P f.type == some 2)&&(dK P f.type == some true)
def AP(P:Program)(T:TypeId):Bool:=(match P.underlying T with | some (.struct _)=>true | _=>false)&&!P.stoodInHeld T&&!P.eqGuardType P.depth T &&
 (match(P.fieldsOf T).toList with |[f,g]=>uh P f 0&&iQ P g 2 | _=>false)
section
variable {P:Program}
def Ox{T:TypeId}(h:jS P T=true)d(k1 k2:IntKind)a b a' b' w:
  (Op.equalIn (d+2) T (.agg #[.int k1 a,.int k2 b]) (.agg #[.int k1 a',.int k2 b'])).run P w=.ok (decide (a=a')&&decide (b=b')) w:=by
 unfold jS at h;simp only[av,bb]at h;obtain⟨⟨⟨m,p⟩,r⟩,e⟩:=h;have q:P.underlying T=some (.struct (P.fieldsOf T)):=by
  unfold Program.fieldsOf;split at m
  ·rename_i fs hfs;simp[hfs]
  ·cases m
 rw[show d+2=(d+1)+1 from rfl,run_equalIn_agg w (d+1) T _ _ q p];split at e
 ·rename_i f g hfg;rw[hfg];simp only[av]at e;obtain⟨c,i⟩:=e;have j:f.name ≠ "_" := by
   have:=c;unfold iQ at this;simp only[av]at this;simpa using this.1.1
  have k:g.name ≠ "_" := by
   have:=i;unfold iQ at this;simp only[av]at this;simpa using this.1.1
  simp only[Op.eqFields,if_pos j,if_pos k,be];rw[jN c (v:=.int k1 a) rfl];simp only[bd];rw[jN c (v:=.int k1 a') rfl];simp only[bd];rw[tc c];simp only[bd];by_cases l:a=a'
  ·subst l;simp only[BEq.rfl,bc,ba,if_false,decide_true,Bool.true_and,be];rw[jN i (v:=.int k2 b) rfl];simp only[bd];rw[jN i (v:=.int k2 b') rfl];simp only[bd];rw[tc i];simp only[bd];by_cases n:b=b'
   ·subst n;simp
   ·simp[n]
  ·simp[l]
 ·cases e
def Nn{f:Field}(h:uh P f 0=true)x y z w:(part f.type #[x,y,z] f.offset).run P w=.ok (.agg #[x,y]) w:=by
 unfold uh at h;simp only[av]at h;have b:=gt h.1.1.1.2;have hs:zO P f.type=some 2:=by simpa using h.1.2
 have a:dK P f.type=some true:=by simpa using h.2
 unfold part;simp[pI a,b,gV hs,Result.andThen]
def RL{T:TypeId}(h:AP P T=true)(k1 k2 k3:IntKind)a b c a' b' c' w:
  (Op.equalIn 10000 T (.agg #[.int k1 a,.int k2 b,.int k3 c]) (.agg #[.int k1 a',.int k2 b',.int k3 c'])).run P w=.ok ((decide (a=a')&&decide (b=b'))&&decide (c=c')) w:=by
 unfold AP at h;simp only[av,bb]at h;obtain⟨⟨⟨n,q⟩,s⟩,e⟩:=h;have r:P.underlying T=some (.struct (P.fieldsOf T)):=by
  unfold Program.fieldsOf;split at n
  ·rename_i fs hfs;simp[hfs]
  ·cases n
 rw[show(10000:Nat)=9999+1 from rfl,run_equalIn_agg w 9999 T _ _ r q];split at e
 ·rename_i f g hfg;rw[hfg];simp only[av]at e;obtain⟨d,i⟩:=e;have j:f.name ≠ "_" := by
   have:=d;unfold uh at this;simp only[av]at this;simpa using this.1.1.1.1
  have k:jS P f.type=true:=by
   have:=d;unfold uh at this;simp only[av]at this;exact this.1.1.2
  have l:g.name ≠ "_" := by
   have:=i;unfold iQ at this;simp only[av]at this;simpa using this.1.1
  simp only[Op.eqFields,if_pos j,if_pos l,be];rw[Nn d];simp only[bd];rw[Nn d];simp only[bd];rw[show(9999:Nat)=9997+2 from rfl,Ox k];simp only[bd];by_cases m:(decide (a=a')&&decide (b=b'))=true
  ·simp only[m,bc,ba,if_false,Bool.true_and,be];rw[jN i (v:=.int k3 c) rfl];simp only[bd];rw[jN i (v:=.int k3 c') rfl];simp only[bd];rw[show(9997+2:Nat)=9998+1 from rfl,tc i];simp only[bd];by_cases p:c=c'
   ·subst p;simp
   ·simp[p]
  ·simp[m]
 ·cases e
def Hj{T:TypeId}{E cd i k1 k2 k3 a b c a' b' c' w}(h:execOp (ev E) (zw cd i)=aW (do eqGuard .neq T (.tmp 0) (.tmp 0) (.agg #[.int k1 a,.int k2 b,.int k3 c]) (.agg #[.int k1 a',.int k2 b',.int k3 c']);binOp .neq T (.agg #[.int k1 a,.int k2 b,.int k3 c]) (.agg #[.int k1 a',.int k2 b',.int k3 c'])))(hT:AP P T=true):(execOp (ev E) (zw cd i)).run P w=.ok (.value (.bool (!((decide (a=a')&&decide (b=b'))&&decide (c=c'))))) w:=by
 rw[h];refine zI ?_;have hm:P.eqGuardType P.depth T=false:=by unfold AP at hT;simp only[av,bb]at hT;exact hT.1.2
 rw[be,run_eqGuard_agg _ _ _ _ _ _ _ hm];simp only[bd];rw[run_neq_struct,RL hT];rfl
end
def dX{α β:Type}[DecidableEq α](m:List (α×β))(k:α):List (α×β):=m.filter (λp=>!decide (p.1=k))
def Yy{α β:Type}[DecidableEq α]{m:List (α×β)}{x:α}{y:β}{j}(hnd:m.Pairwise (λp q=>p.1≠q.1))(hj:m[j]?=some (x,y)):dX m x=m.eraseIdx j:=by
 unfold dX
 induction m generalizing j with
 | nil=>simp at hj
 | cons q m ih=>
  obtain⟨b,c⟩:=gg.1 hnd;cases j with
  | zero=>
   simp at hj;subst hj;rw[List.filter_cons,if_neg si,List.eraseIdx_cons_zero];exact cn.2 λp hp=>by simpa using(b p hp).symm
  | succ j=>
   simp at hj;have a:q.1≠x:=b (x,y)<|fx hj;rw[List.filter_cons,if_pos (by simpa using a),List.eraseIdx_cons_succ,ih c hj]
section
variable {α β:Type} {kt:KT α} {t:Ty β} {τ:aK} {κ κ':K} {b:Nat} {m:List (α×β)} [DecidableEq α]
def Qw{x:α}(h:cW m x=false):dX m x=m:=by
 unfold dX;refine cn.2 λp hp=>?_;unfold cW at h;rw[List.any_eq_false]at h;simpa using h p hp
def Rs{P:Program}{T kd e ty:TypeId}{x:α}(h:Mp kt t τ κ b m)(hT:g_ P T=some (kd,e))(hk:KeyOk P kd kt)[Fb](C:Cx)(d:Nat):
  ∃κ',(Builtin.delete_ #[T,kd] ty #[.map (some b),kt.enc x]).run P (W C κ d)=.ok (.tuple #[]) (W C κ' d)/\Step [b] κ κ'/\κ.H.size=κ'.H.size/\Mp kt t τ κ' b (dX m x):=by
 obtain⟨g,c,w,bN,u,v,n⟩:=h.obj;have s:=qd C κ d b w P;have G:∀(a:Array MapEntry),a.size=(dX m x).length->(∀κ':K,Step [b] κ κ'->∀(i:Nat)(p:α×β),(dX m x)[i]?=some p->∃e,a[i]?=some e/\e.key=kt.enc p.1/\t.own κ' [e.val] p.2)->
   ((a.toList.map (·.born)).Pairwise (· < ·)/\∀e∈a.toList,e.born<c)->
   Step [b] κ (κ.setO b<|.map a c)/\κ.H.size=(κ.setO b<|.map a c).H.size/\Mp kt t τ (κ.setO b<|.map a c) b (dX m x):=by
  intro a I H L;have r:Step [b] κ (κ.setO b<|.map a c):=pH h.fr;exact⟨r,by simp[K.setO],⟨a,c,by simp[K.setO,h.lt],I,H _ r,L⟩,List.Pairwise.filter _ h.nd,h.fr,h.tag,h.ge⟩
 rcases Bw h hk x w (W C κ d)with⟨J,F,E⟩ |⟨j,en,y',g0,J,F,E,g4,g5,g6⟩
 ·have l:=Qw F;refine⟨κ.setO b<|.map g c,?_,G _ ?_ ?_ ⟨v,n⟩⟩
  ·unfold Builtin.delete_;simp[zG<|kA hT,s,hk.check,E,Bj C κ d b _ w P]
  ·rw[l];exact bN
  ·intro κ' hs i p hp;rw[l]at hp;obtain⟨e,k,f,D⟩:=u i p hp;exact⟨e,k,f,t.step hs D⟩
 ·have A:j<g.size:=(ai.1 E).1;have l:dX m x=m.eraseIdx j:=Yy h.nd g0;have el:(g.eraseIdxIfInBounds j).toList=g.toList.eraseIdx j:=by
   unfold Array.eraseIdxIfInBounds;rw[dif_pos A,Array.toList_eraseIdx]
  refine⟨κ.setO b<|.map (g.eraseIdxIfInBounds j) c,?_,G _ ?_ ?_ ⟨?_,?_⟩⟩
  ·unfold Builtin.delete_;simp[zG<|kA hT,s,hk.check,g6,Bj C κ d b _ w P]
  ·rw[l,←au,el,List.length_eraseIdx,List.length_eraseIdx,au,bN]
  ·intro κ' hs i p hp;rw[l]at hp;rw[List.getElem?_eraseIdx]at hp;have key:∀y,m[y]?=some p->∃e:MapEntry,g[y]?=some e/\e.key=kt.enc p.1/\t.own κ' [e.val] p.2:=λy B=>by
    obtain⟨e,k,f,D⟩:=u y p B;exact⟨e,k,f,t.step hs D⟩
   rw[←an,el,List.getElem?_eraseIdx];by_cases q:i<j
   ·rw[if_pos q]at hp ⊢;rw[an];exact key i hp
   ·rw[if_neg q]at hp ⊢;rw[an];exact key (i+1) hp
  ·rw[el];exact v.sublist<|(List.eraseIdx_sublist _ _).map _
  ·intro e k;rw[el]at k;exact n e<|List.mem_of_mem_eraseIdx k
end
structure It{α β:Type}(τ:aK)(κ:K)(r b:Nat)(m:List (α×β))(done:List α)(cur:Option (α×β)):Prop where
 obj:∃(es:Array MapEntry)(clock since:Nat)(seen:Array Nat)(c0:Nat),κ.H[b]?=some (.map es clock)/\κ.H[r]?=some (.mapIter (some b) since seen c0)/\(∀e∈es.toList,e.born<since)/\since<=c0/\since<=clock/\
  (∀(i:Nat)(p:α×β)(e:MapEntry),m[i]?=some p->es[i]?=some e->(seen.contains e.born=true↔p.1∈done))/\
  (∀p,cur=some p->∃(i:Nat)(e:MapEntry)(seen':Array Nat),m[i]?=some p/\es[i]?=some e/\seen=seen'.push e.born/\c0=clock)
 fr:κ.fr r=0
 tag:κ.tag r=τ
 ge:τ.1<=r
section
variable {α β:Type} {kt:KT α} {t:Ty β} {τ τ':aK} {κ κ':K} {b r:Nat} {m:List (α×β)} {done:List α} {cur:Option (α×β)}
def It.lt(h:It τ κ r b m done cur):r<κ.H.size:=by
 obtain⟨_,_,_,_,_,_,a,_⟩:=h.obj;exact(ai.1 a).1
def It.o(h:It τ κ r b m done cur):dF τ κ r:=⟨h.lt,h.fr,h.tag,h.ge⟩
def It.ltb(h:It τ κ r b m done cur):b<κ.H.size:=by
 obtain⟨_,_,_,_,_,a,_⟩:=h.obj;exact(ai.1 a).1
def It.step{M}(s:Step M κ κ')(hr:r∉M)(hb:b∉M)(h:It τ κ r b m done cur):It τ κ' r b m done cur:=by
 obtain⟨g,d,a,c,j,f,e,i⟩:=h.obj;exact⟨⟨g,d,a,c,j,(s.2.1 b h.ltb hb).1.trans f,(s.2.1 r h.lt hr).1.trans e,i⟩,(s.2.1 r h.lt hr).2.1.trans h.fr,(s.2.1 r h.lt hr).2.2.trans h.tag,h.ge⟩
variable {P:Program}
theorem Zu{T kd e:TypeId}(h:Mp kt t τ κ b m)(hτ:τ'.1<=κ.H.size)(hT:g_ P T=some (kd,e))[Fb](C:Cx)d:
  ∃κ',(Instr.range T (.map (some b))).run P (W C κ d)=.ok (.pointer (some ⟨κ.H.size,0,none⟩)) (W C κ' d)/\Step [] κ κ'/\It τ' κ' κ.H.size b m [] none:=by
 obtain⟨k,a,l,bN,g,j,c⟩:=h.obj;have f:=qd C κ d b l P;refine⟨κ.push (.mapIter (some b) a #[] a) 0 τ',?_,gW _ _ _ _,⟨⟨k,a,a,#[],a,?_,by simp[K.push],c,gv _,gv _,λi p e _ _=>by simp,λp hp=>by cases hp⟩,by simp[K.push],by simp[K.push],hτ⟩⟩
 ·unfold Instr.range;simp only[be,zG<|kA hT,bd,f];rfl
 all_goals grind [K.push]
theorem Pq{ty:TypeId}(h:Mp kt t τ κ b m)(hi:It τ' κ r b m done cur)(hrb:r≠b)[Fb](C:Cx)d:
  ((∀p∈m,p.1∈done)/\(Instr.next (.pointer (some ⟨r,0,none⟩)) false ty).run P (W C κ d)=.ok (.tuple #[.bool false]) (W C κ d)) \/
  ∃(p:α×β)(v:Value)(κ':K)(d':Nat),p∈m/\p.1∉done/\t.own κ' [v] p.2/\(Instr.next (.pointer (some ⟨r,0,none⟩)) false ty).run P (W C κ d)=.ok (.tuple #[.bool true,kt.enc p.1,v]) (W C κ' d')/\
   Step [r] κ κ'/\κ.H.size=κ'.H.size/\It τ' κ' r b m (p.1::done) (some p):=by
 obtain⟨u,H,V,bN,I,S,Z⟩:=h.obj;obtain⟨a6,b1,c,a,c0,w,hr,B,T,A,f,_⟩:=hi.obj;rw[V]at w;injection w with w
 injection w with e1 e2
 subst e1;subst e2;have F:∀e∈u.toList,∃(i:Nat)(p:α×β),m[i]?=some p/\u[i]?=some e/\e.key=kt.enc p.1/\t.own κ [e.val] p.2:=by
  intro e n;obtain⟨i,k⟩:=du n;rw[an]at k;have L:i<m.length:=by rw[←bN];exact(ai.1 k).1
  obtain⟨D,s,a2,Y⟩:=I i m[i] (by simp[L])
  grind
 rcases run_next_at (P:=P) (W C κ d) ty r b c c0 a u H hr V B T with⟨h0,l⟩ |⟨e,n,w1,hal,l⟩
 ·refine .inl ⟨λp hp=>?_,l⟩;obtain⟨i,k⟩:=du hp;obtain⟨e,n,_,_⟩:=I i p k;refine(f i p e k n).1 ?_;by_cases X:a.contains e.born=true
  ·exact X
  ·exfalso;have:e∈leftOf u a:=by
    unfold leftOf;rw[Array.mem_filter];exact⟨Array.mem_of_getElem? n,by simpa using X⟩
   have:=Array.size_pos_of_mem this;omega
 ·obtain⟨O,y⟩:=mem_left n;obtain⟨i,p,g,x,hk,Y⟩:=F e O;have G:Step [r] κ (κ.setO r<|.mapIter (some b) c (a.push e.born) H):=pH hi.fr;refine .inr ⟨p,e.val,κ.setO r<|.mapIter (some b) c (a.push e.born) H,w1.drawn - C.base,fx g,λhd=>?_,t.step G Y,?_,G,by simp[K.setO],⟨⟨u,H,c,a.push e.born,H,?_,by simp[K.setO,hi.lt],B,A,A,?_,?_⟩,?_,?_,hi.ge⟩⟩
  ·rw[(f i p e g x).2 hd]at y;cases y
  ·rw[l,hk];congr 1;rcases hal with rfl | rfl
   ·simp[ChangeMaps.setBlock,W,K.setO]
   ·simp[ChangeMaps.setBlock,W,K.setO,World.drew];omega
  ·grind [K.setO]
  ·intro j q D E s;have J:(a.push e.born).contains D.born=(a.contains D.born||(D.born == e.born)):=by
    rw[Array.contains_push]
   rw[J,Bool.or_eq_true,fq,f j q D E s];have b2:j<u.size:=(ai.1 s).1;have b3:i<u.size:=(ai.1 x).1;have Q:u[j]=D:=(ai.1 s).2;have U:u[i]=e:=(ai.1 x).2;have a1:j<m.length:=(dm.1 E).1;have a7:i<m.length:=(dm.1 g).1;have R:m[j]=q:=(dm.1 E).2;have M:m[i]=p:=(dm.1 g).2;have h1:D.born=e.born↔i=j:=by
    constructor
    ·intro a8;have N:=gi.1 S
     grind
    ·intro n;subst n;rw[←Q,←U]
   have h2:q.1=p.1↔i=j:=by
    constructor
    ·intro a4;have N:=gi.1 h.nd
     grind
    ·intro n;subst n;rw[←R,←M]
   have h3:((D.born == e.born)=true)↔q.1=p.1:=by rw[h2,←h1];simp
   rw[h3];exact or_comm
  ·intro q E;injection E with E
   subst E;exact⟨i,e,a,g,x,rfl,rfl⟩
  ·exact hi.fr
  ·exact hi.tag
def Zv{p:α×β}(h:Mp kt t τ κ b m)(hi:It τ' κ r b m done (some p))[Fb](C:Cx)d:
  ∃v,t.own κ [v] p.2/\(Instr.entry (.pointer (some ⟨r,0,none⟩))).run P (W C κ d)=.ok (.tuple #[kt.enc p.1,v]) (W C κ d):=by
 obtain⟨B,N,y,bN,s,u,D⟩:=h.obj;obtain⟨F,I,f,x,L,c,H,A,J,w,q,k⟩:=hi.obj;rw[y]at c;injection c with c
 injection c with e1 e2
 subst e1;subst e2;obtain⟨i,e,g,n,j,rfl,rfl⟩:=k p rfl;obtain⟨M,a,E,G⟩:=s i p n;rw[j]at a;injection a with a
 subst a;refine⟨e.val,G,?_⟩;have l:e∈B.toList:=by
  rw[←an]at j;exact fx j
 rw[run_entry_at (P:=P) (W C κ d) r b f g B L e H y l<|u.imp λh=>Nat.ne_of_lt h,E]
end
section
variable [Fc] [Fb] {P:Program} {n:Nat} {c:Code} {i k:Nat} {Q:bC} {E:aB} {κ:K} {α β:Type} {kt:KT α} {t:Ty β} {τ τ':aK} {b r:Nat} {m:List (α×β)} {done:List α} {cur:Option (α×β)}
def RB(R:K->Prop)(h:st c i n E none=true)(hr:∀C b,∃v κ' d1,(execOp (ev E) (zw c i)).run P (W C κ b)=.ok (.value v) (W C κ' d1)/\R κ')(hk:∀κ',R κ'->aN P n c (i+1) Q E κ'):aN P n c i Q E κ:=by
 refine lD h (λC b a d=>?_);obtain⟨v,κ',d1,f,e⟩:=hr C b;obtain⟨_,_,g,_⟩:=iU h;refine kG (by rw[d.eval];exact f) ?_;rw[g];exact hk κ' e C d1 _ d
def Kr[DecidableEq α](kt:KT α){x:α}{T kd e ty}(hm:Mp kt t τ κ b m)(hk:∀κ',Step [b] κ κ'->κ.H.size=κ'.H.size->Mp kt t τ κ' b (dX m x)->aN P n c (i+1) Q E κ')(hkd:KeyOk P kd kt)(hT:g_ P T=some (kd,e):=by kernel_rfl)(h:st c i n E none=true:=by kernel_rfl)(ho:execOp (ev E) (zw c i)=aW (Builtin.delete_ #[T,kd] ty #[.map (some b),kt.enc x]):=by kernel_rfl):aN P n c i Q E κ:=by
 refine RB (λκ'=>Step [b] κ κ'/\κ.H.size=κ'.H.size/\Mp kt t τ κ' b (dX m x)) h (λC g=>?_) ?_
 ·obtain⟨κ',j,d,a,f⟩:=Rs hm hT hkd (x:=x) (ty:=ty) C g;exact⟨_,κ',g,by rw[ho];exact zI j,d,a,f⟩
 ·rintro κ' ⟨d,a,f⟩;exact hk κ' d a f
def CA{d T kd e}(τ':aK)(hτ:τ'.1<=κ.H.size)(hm:Mp kt t τ κ b m)(hk:∀r κ',Step [] κ κ'->κ.H.size<=r->It τ' κ' r b m [] none->aN P n c (i+1) Q (aQ E d (.pointer (some ⟨r,0,none⟩))) κ')(hT:g_ P T=some (kd,e):=by kernel_rfl)(h:st c i n E (some d)=true:=by kernel_rfl)(ho:execOp (ev E) (zw c i)=aW (Instr.range T (.map (some b))):=by kernel_rfl):aN P n c i Q E κ:=by
 refine gZ (λv κ'=>v=.pointer (some ⟨κ.H.size,0,none⟩)/\Step [] κ κ'/\It τ' κ' κ.H.size b m [] none) h (λC g=>?_) ?_
 ·obtain⟨κ',j,a,f⟩:=Zu hm hτ hT C g;exact⟨_,κ',g,by rw[ho];exact zI j,rfl,a,f⟩
 ·rintro v κ' ⟨rfl,a,f⟩;exact hk _ κ' a (gv _) f
theorem BU{d ty}(hm:Mp kt t τ κ b m)(hi:It τ' κ r b m done cur)(hrb:r≠b)(h0:(∀p∈m,p.1∈done)->aN P n c (i+1) Q (aQ E d (.tuple #[.bool false])) κ)(h1:∀p v κ',p∈m->p.1∉done->t.own κ' [v] p.2->Step [r] κ κ'->κ.H.size=κ'.H.size->It τ' κ' r b m (p.1::done) (some p)->aN P n c (i+1) Q (aQ E d (.tuple #[.bool true,kt.enc p.1,v])) κ')(h:st c i n E (some d)=true:=by kernel_rfl)(ho:execOp (ev E) (zw c i)=aW (Instr.next (.pointer (some ⟨r,0,none⟩)) false ty):=by kernel_rfl):aN P n c i Q E κ:=by
 refine gZ (λv κ'=>(v=.tuple #[.bool false]/\κ=κ'/\∀p∈m,p.1∈done) \/
  ∃p u,v=.tuple #[.bool true,kt.enc p.1,u]/\p∈m/\p.1∉done/\t.own κ' [u] p.2/\Step [r] κ κ'/\κ.H.size=κ'.H.size/\It τ' κ' r b m (p.1::done) (some p)) h (λC f=>?_) ?_
 ·rcases Pq (ty:=ty) (P:=P) hm hi hrb C f with⟨e,a⟩ |⟨p,v,κ',d',e,a,g3,g4,g5,g6,g7⟩
  all_goals grind [zI]
 ·rintro v κ' (⟨rfl,rfl,g⟩ |⟨p,u,rfl,e,a,g3,g4,g5,g6⟩)
  ·exact h0 g
  ·exact h1 p u κ' e a g3 g4 g5 g6
def Cv{p:α×β}{d}(hm:Mp kt t τ κ b m)(hi:It τ' κ r b m done (some p))(hk:∀v,t.own κ [v] p.2->aN P n c (i+1) Q (aQ E d (.tuple #[kt.enc p.1,v])) κ)(h:st c i n E (some d)=true:=by kernel_rfl)(ho:execOp (ev E) (zw c i)=aW (Instr.entry (.pointer (some ⟨r,0,none⟩))):=by kernel_rfl):aN P n c i Q E κ:=by
 refine gZ (λv κ'=>κ=κ'/\∃u,v=.tuple #[kt.enc p.1,u]/\t.own κ [u] p.2) h (λC e=>?_) ?_
 ·obtain⟨u,a,f⟩:=Zv (P:=P) hm hi C e;exact⟨_,κ,e,by rw[ho];exact zI f,rfl,u,rfl,a⟩
 ·rintro v κ' ⟨rfl,u,rfl,a⟩;exact hk u a
def TO[DecidableEq α](kt:KT α){x:α}{m:List (α×Int)}{d T kd e}(hm:Mp kt tI64 τ κ b m)(hk:bV P n c k (i+1) Q (aQ E d (.tuple #[.int .i64 ((cB m x).getD 0),.bool (cW m x)])) κ)(hkd:KeyOk P kd kt)(hT:g_ P T=some (kd,e):=by kernel_rfl)(h:dst c k i E d=true:=by kernel_rfl)(ho:execOp (ev E) (zw c i)=aW (Instr.lookup T (.map (some b)) (kt.enc x) true):=by kernel_rfl)(hz:eJ P e=some (.int .i64 0):=by kernel_rfl):bV P n c k i Q E κ:=by
 refine kL _ h (λC f=>?_) hk;obtain⟨v,a,_,g⟩:=GW (y0:=(0:Int)) hm hT hkd hz ⟨rfl,by unfold I64;omega⟩ (x:=x) C f;obtain⟨rfl,_⟩:=Ba a;rw[ho];exact zI g
def RZ[DecidableEq α]{m:List (α×Int)}{x:α}(hm:Mp kt tI64 τ κ b m):I64 ((cB m x).getD 0):=by
 cases hg:cB m x with
 | none=>show I64 0;unfold I64;omega
 | some y=>
  show I64 y;unfold cB at hg;obtain⟨p,hp,rfl⟩:=ip.1 hg;obtain⟨j,c⟩:=du<|fv hp;obtain⟨g,f,_,_,d,_⟩:=hm.obj;obtain⟨e,_,_,a⟩:=d j p c;exact(Ba a).2
end
def nO{α β:Type}(m:List (α×β)):Option Int:=if m.length<=9223372036854775807 then some (m.length:Int)else none
def Qt{α β:Type}{m:List (α×β)}{r}(h:nO m=some r):(m.length:Int)=r/\I64 r:=by
 unfold nO at h;split at h
 ·obtain rfl:=Option.some.inj h;refine⟨rfl,?_⟩;unfold I64;omega
 ·cases h
section
variable [Fc] [Fb] {P:Program} {n:Nat} {c:Code} {i:Nat} {Q:bC} {E:aB} {κ:K} {α β:Type} {kt:KT α} {t:Ty β} {τ τ':aK} {b:Nat} {m:List (α×β)}
def Ue{d T k e r}(h0:Mp kt t τ κ b m)(hx:nO m=some r)(hk:aN P n c (i+1) Q (aQ E d (.int .i64 r)) κ)(h:st c i n E (some d)=true:=by kernel_rfl)(ho:execOp (ev E) (zw c i)=aW (Builtin.len_ #[T] 3 #[.map (some b)]):=by kernel_rfl)(hT:g_ P T=some (k,e):=by kernel_rfl):aN P n c i Q E κ:=by
 obtain⟨f,_⟩:=Qt hx;subst f;obtain⟨l,j,g,bN,_⟩:=h0.obj;refine iR _ h (λC a=>?_) hk;rw[ho];refine zI ?_;unfold Builtin.len_;simp[zG<|kA hT,qd C κ a b g P,goInt,bN]
omit [Fc] [Fb] in
def Mp.retag{τ}(h:Mp kt t τ' κ b m)(hle:τ.1<=τ'.1):Mp kt t τ (κ.retag [b] τ) b m/\Step [b] κ (κ.retag [b] τ):=by
 have a:Step [b] κ (κ.retag [b] τ):=by
  refine⟨gv _,λx _ c=>⟨rfl,rfl,?_⟩,λx _=>⟨gv _,λ_ _=>rfl⟩,λx _ d=>⟨?_,rfl⟩⟩
  ·show(if x∈[b]then τ else κ.tag x)=κ.tag x;rw[if_neg c]
  ·show(if x∈[b]then τ else κ.tag x)=κ.tag x;refine if_neg λc=>?_;have:=ga.1 c;subst this;rw[h.fr]at d;omega
 refine⟨?_,a⟩;obtain⟨r,g,q,l,s,n⟩:=h.obj;refine⟨⟨r,g,q,l,λi p hp=>?_,n⟩,h.nd,h.fr,?_,gy hle h.ge⟩
 ·obtain⟨e,k,f,j⟩:=s i p hp;exact⟨e,k,f,t.step a j⟩
 ·show(if b∈[b]then τ else κ.tag b)=τ;rw[if_pos si]
end
end Go.Lf
namespace Go.Lf
open Go Go.Proofs Go.Sort Go.Shelf
def Fn.same[Fb]{args:Array Value}{R:Value->K->Prop}{P f κ v}(h:∀w,Calls P f args w λe w'=>e=.returned v/\w'=w)(hR:R v κ):Fn P f args κ R:=λC d=>(h<|W C κ d).mono λ_ _ ⟨he,hw⟩=>⟨v,κ,d,he,hw,hR⟩
structure EncOk{α:Type}(t:Ty α)(s:Nat)(enc:α->List Value)(ok:α->Prop):Prop where
 size:t.size=s
 pos:0<s
 len:∀x,(enc x).length=s
 one:∀x,∀v∈enc x,v.oneCell'=true
 own:∀κ cs x,t.own κ cs x↔cs=enc x/\ok x
section
variable {P:Program} {ρ:Ren} {α:Type} [Inhabited α] {t:Ty α} {s:Nat} {enc:α->List Value} {ok:α->Prop}
def Oh(hs:0<s)(hk:∀x,(enc x).length=s):∀(l:List α)i,i<l.length*s->(l.flatMap enc)[i]?=some ((enc (l[i / s]!))[i % s]!)
 |[],i,h=>by simp at h
 | x::l,i,h=>by
  rw[cv];by_cases hi:i<s
  ·rw[df (by rw[hk];exact hi),Nat.div_eq_of_lt hi,Nat.mod_eq_of_lt hi];have b:i<(enc x).length:=by rw[hk];exact hi
   simp[b]
  ·have a:s<=i:=by omega
   have e:i / s=(i - s) / s+1:=Nat.div_eq_sub_div hs a;have c:i % s=(i - s) % s:=Nat.mod_eq_sub_mod a;rw[dg (by rw[hk];exact a),hk,Oh hs hk l (i - s) (by rw[eh,ij]at h;omega),e,c];simp
def HK(hk:∀x,(enc x).length=s)(l:List α):(l.flatMap enc).length=l.length*s:=by
 induction l with
 | nil=>simp
 | cons x l ih=>rw[cv,ef,ih,hk,eh,ij];omega
def Oi(hs:0<s)(hk:∀x,(enc x).length=s)(l:List α):flatK enc s l.toArray=(l.flatMap enc).toArray:=by
 apply Array.toList_inj.1;apply ce;intro i;show(flatK enc s l.toArray).toList[i]?=(l.flatMap enc)[i]?;by_cases hi:i<l.length*s
 ·rw[Oh hs hk l i hi];unfold flatK;rw[Array.toList_map,Array.toList_range,dt,dv (by simpa using hi)];simp
 ·rw[dl (by rw[au,size_flatK];simpa using hi),dl (by rw[HK hk];omega)]
def NP(h:EncOk t s enc ok){κ}:∀{l:List α} {xs:List Value},aZ t κ xs l->xs=l.flatMap enc/\∀x∈l,ok x
 |[],xs,a=>⟨a,λx k=>by cases k⟩
 | x::l,xs,a=>by
  obtain⟨c,f,e,d,a⟩:=a;obtain⟨rfl,i⟩:=(h.own κ c x).1 d;obtain⟨g,j⟩:=NP h a;refine⟨by rw[e,g];rfl,λy b=>?_⟩;rcases fq.1 b with rfl | b
  ·exact i
  ·exact j y b
def Og(h:EncOk t s enc ok){κ}:∀{l:List α},(∀x∈l,ok x)->aZ t κ (l.flatMap enc) l
 |[],_=>rfl
 | x::l,hl=>⟨enc x,_,rfl,(h.own κ _ x).2 ⟨rfl,hl x si⟩,Og h λy a=>hl y (by simp[a])⟩
def Ov(L:SlLaysF0.n6 P ρ)(q:EncOk t s enc ok)(aE:∀w,(isAgg (ρ.t 24)).run P w=.ok true w)(zE:∀w,(Go.sizeOf (ρ.t 24)).run P w=.ok s w){cf:α->α->Int}(hO:SWO (ltOf cf)){gf}(eg:∀args w,(callFunc gf args).run P w=.ok (.enter gf args) w)(hc:∀inst κ(x y:α),@Fn inst P gf #[.agg (enc x).toArray,.agg (enc y).toArray] κ (λv κ'=>Step [] κ κ'/\v=.int .i64 (cf x y))){l:List α}{κ τ a c eT}(hg:Gr t false τ κ eT a c l)(hlen:l.length<=4611686018427387900):
  Fn P (ρ.f 6) #[.slice a l.length c,.func (.func gf) #[] #[]] κ (λv κ'=>Step (aG a c) κ κ'/\v=.tuple #[]/\Gr t false τ κ' eT a c (pdq (ltOf cf) l.toArray 0 l.length (Lib.bitLen l.length) true true).toList):=by
 have hp:=pdq_sorts (ltOf cf) hO l.toArray 0 l.length (Lib.bitLen l.length) true true (Nat.zero_le _) si<|Or.inl rfl;obtain⟨r,N⟩:∃r:Array α,r=pdq (ltOf cf) l.toArray 0 l.length (Lib.bitLen l.length) true true:=⟨_,rfl⟩;rw[←N]at hp ⊢;have O:r.size=l.length:=by have:=hp.1.1;simpa using this
 by_cases hl:0<l.length
 case neg=>
  have h0:l=[]:=ca om;have Y:r.toList=[]:=ca (by rw[au];omega);rw[Y];rw[h0]at hg ⊢;refine(Fn.same (f:=ρ.f 6) (v:=.tuple #[]) (R:=λv κ'=>κ=κ'/\v=.tuple #[]) (λw=>AnyF.slices_SortFunc_none L a c _ w) ⟨rfl,rfl⟩).mono λv κ' h=>?_;rw[show κ'=κ from h.1.symm];exact⟨Step.refl _ _,h.2,hg⟩
 rcases hg.body with⟨_,h⟩ |⟨g,cur,xs,rfl,hr,hH,h1,h2,h3,h4,h5,h6,h7⟩
 ·rw[h]at hl;cases hl
 obtain⟨hx,hI⟩:=NP q hr;have B:g<κ.H.size:=(ai.1 hH).1;have H:(l.flatMap enc).length=l.length*s:=HK q.len l;have a7:c*s=cur.size:=by rw[h3,q.size]
 have c0:l.length*s<=c*s:=ii s h1;have a5:∀x∈r.toList,ok x:=by
  have M:=hp.1.2.2;intro x hx;refine hI x ?_;have h8:(r.extract 0 l.length).toList=r.toList:=by rw[←O];simp
  have h9:(l.toArray.extract 0 l.length).toList=l:=by simp
  rw[h8,h9]at M;exact M.mem_iff.1 hx
 intro C d;have I:HoldsK enc s (W C κ d) g 0 l.toArray:=by
  unfold HoldsK;rw[Oi q.pos q.len];intro j S;have Z:j<l.length*s:=by rw[gk,H]at S;exact S
  have a6:cur[j]?=(l.flatMap enc)[j]?:=by
   rw[←hx,←h4,q.size,ec,if_pos Z];simp
  refine⟨?_,?_⟩
  ·rw[iu];unfold K.cell;rw[hH];simp only[ik];rw[a6];have:j<(l.flatMap enc).length:=by omega
   simp;rw[dj this];rfl
  ·unfold World.frozen? W;simp[hH]
 have F:CmpLays P gf #[] enc s cf g 0 l.toArray.size (W C κ d):=by
  intro m os dk _ x y;generalize sortWorldK enc s (W C κ d) g 0 m dk os=V;have h:=hc ⟨λ_=>true,0,rfl⟩ ⟨V.heap,λ_=>0,λ_=>(0,0)⟩ x y;refine Calls.mono (h (@Cx.mk ⟨λ_=>true,0,rfl⟩ V.os V.tape V.output V.drawn rfl) 0) ?_;rintro e w' ⟨v,κ',d',q,X,s,hv⟩;subst hv;refine⟨q,d',κ'.H.extract V.heap.size κ'.H.size,?_⟩;rw[X];unfold W grow World.drewN;simp only[];congr 1;apply Array.ext_getElem?;intro b;rw[ab];by_cases i:b<V.heap.size
  ·rw[if_pos i];exact(s.2.1 b i si).1
  ·rw[if_neg i,Array.getElem?_extract];split
   ·congr 1;omega
   ·rw[Array.getElem?_eq_none (by have:=s.1;simp only at this;omega)]
 refine(AnyQ.slices_SortFunc_eq L s aE zE enc q.len q.one cf hO gf #[] g 0 c l.toArray (W C κ d) eg F I B so).mono ?_;rintro e w' ⟨U,n,os,X⟩;have J:w'=sortWorldK enc s (W C κ d) g 0 n r os:=by rw[N];simpa using X
 have hF:flatK enc s r=(r.toList.flatMap enc).toArray:=by
  have:=Oi q.pos q.len r.toList;simpa using this
 have A:r.toList.length=l.length:=by rw[au];exact O
 have b7:(r.toList.flatMap enc).length=r.toList.length*s:=HK q.len _;obtain⟨k,p⟩:∃k,k=putCells id 0 (flatK enc s r) cur:=⟨_,rfl⟩;have u:w'.heap=κ.H.modify g (onCells<|putCells id 0<|flatK enc s r)++os:=by rw[J];rfl
 have D:∀b,b<κ.H.size->w'.heap[b]?=(κ.H.modify g<|onCells<|putCells id 0<|flatK enc s r)[b]?:=λb i=>by rw[u,Array.getElem?_append_left (by simpa using i)]
 have E:∀b,b<κ.H.size->b≠g->w'.heap[b]?=κ.H[b]?:=λb i hn=>by rw[D b i,aj,if_neg<|Ne.symm hn]
 have T:w'.heap[g]?=some (.cells k eT (0,0)):=by rw[D g B,aj,if_pos rfl,hH,p];rfl
 have G:κ.fr g=0:=by simpa using h5
 have a1:k.size=cur.size:=by rw[p];unfold putCells;simp
 refine⟨_,⟨w'.heap,λb=>if b<κ.H.size then κ.fr b else 0,λb=>if b<κ.H.size then κ.tag b else(0,0)⟩,d+n,U,?_,?_,rfl,?_⟩
 ·rw[J];unfold W;show sortWorldK _ _ _ _ _ _ _ _={heap:=(sortWorldK _ _ _ _ _ _ _ _).heap,tape:=C.tape,drawn:=C.base+(d+n),os:=C.os,output:=C.output};rw[←Nat.add_assoc];rfl
 ·have a0:∀b,b∉aG (some ⟨g,0,none⟩) c->b≠g:=λb i e=>i (by rw[e];exact hE (a:=⟨g,0,none⟩) om);refine⟨by rw[u];simp,λb i hn=>⟨E b i<|a0 b hn,if_pos i,if_pos i⟩,λb i=>⟨Nat.le_of_eq (if_pos i).symm,λo ho=>?_⟩,λb i hf=>⟨if_pos i,?_⟩⟩
  ·have:b≠g:=λe=>by rw[e,G]at ho;cases ho
   unfold K.cell;rw[E b i this]
  ·have:b≠g:=λe=>by rw[e,G]at hf;cases hf
   unfold K.shp;rw[E b i this]
 ·refine⟨by rw[A];exact hg.most,.inr ⟨g,k,r.toList.flatMap enc,rfl,Og q a5,T,by rw[A];exact h1,h2,by rw[a1];exact h3,?_,?_,(if_pos B).trans h6,h7⟩⟩
  ·apply ce;intro j;rw[q.size,ec];split
   ·rename_i S;have a4:j<cur.size:=by rw[A]at S;omega
    have Q:j<(r.toList.flatMap enc).length:=by omega
    rw[p,hF];unfold putCells;rw[an,Array.getElem?_mapIdx,ac a4];simp;rw[if_pos (by rw[←List.length_flatMap];exact Q),dj Q];rfl
   ·rw[dl om]
  ·show(if g<κ.H.size then κ.fr g else 0)=_;rw[if_pos B,G];simp
end
end Go.Lf
namespace Go.Lf
open Go
section
variable [Fb] {P:Program} {Rel:K->K->Prop} {c:Code} {i:Nat} {E:aB} {κ:K} {R:Value->K->Prop}
def tD{T:TypeId}(τ:aK)(hτ:τ.1<=κ.H.size)(zs:List Value)(h:cD c i E=true)(ho:execOp (ev E) (zw c i)=aW (Instr.alloc T true (.tuple #[])))(hz:(eJ P T).map Value.cells=some zs.toArray)(hk:∀b κ',Step [] κ κ'->aI τ κ' b zs T->Rel κ κ'/\R (.pointer (some ⟨b,0,none⟩)) κ'):bA P Rel c i E κ R:=by
 obtain⟨z,d,a⟩:=ip.1 hz;obtain⟨g,f⟩:=hk κ.H.size _ (gW _ _ _ _)<|H' _ zs T _ hτ;refine Ip h λC e=>⟨.pointer<|some ⟨κ.H.size,0,none⟩,κ.push (.cells zs.toArray T) 0 τ,e,?_,g,f⟩;rw[ho];refine zI ?_;unfold Instr.alloc;simp only[be,sO d,bd];unfold newVar newRow;rw[a];rfl
end
end Go.Lf
namespace Go.Lf
open Go Go.Proofs Go.Sort
section
variable {α:Type} [Inhabited α] {lt:α->α->Bool}
def dS(lt:α->α->Bool)(l:List α):List α:=(pdq lt l.toArray 0 l.length (Lib.bitLen l.length) true true).toList
def iM(hO:SWO lt)(l:List α):(dS lt l).Perm l/\(dS lt l).Pairwise (λa b=>lt b a=false):=by
 unfold dS;have h:=pdq_sorts lt hO l.toArray 0 l.length (Lib.bitLen l.length) true true (Nat.zero_le _) si<|Or.inl rfl;obtain⟨r,p⟩:∃r:Array α,r=pdq lt l.toArray 0 l.length (Lib.bitLen l.length) true true:=⟨_,rfl⟩;rw[←p]at h ⊢;obtain⟨⟨e,_,g⟩,n⟩:=h;have e:r.size=l.length:=by simpa using e
 constructor
 ·have k:(r.extract 0 l.length).toList=r.toList:=by rw[←e];simp
  have q:(l.toArray.extract 0 l.length).toList=l:=by simp
  rw[k,q]at g;exact g
 ·rw[gi];intro i j hi m f;have d:i<r.size:=by simpa using hi
  have c:j<r.size:=by simpa using m
  have:=n i j om f om;rw[getElem!_pos r i d,getElem!_pos r j c]at this;simpa using this
def RR(hO:SWO lt){l l':List α}(hp:l'.Perm l)(hs:l'.Pairwise (λa b=>lt b a=false))(ht:∀a b,a∈l->b∈l->lt a b=false->lt b a=false->a=b):dS lt l=l':=by
 obtain⟨c,f⟩:=iM hO l;exact List.Perm.eq_of_pairwise (λa b e h g d=>ht a b (c.mem_iff.1 e) (hp.mem_iff.1 h) d g) f hs<|c.trans hp.symm
def NR(hO:SWO lt){l l':List α}(hp:l.Perm l')(ht:∀a b,a∈l'->b∈l'->lt a b=false->lt b a=false->a=b):dS lt l=dS lt l':=((RR hO ((iM hO l).1.trans hp) (iM hO l).2 ht)).symm
end
def hZ{α β:Type}[DecidableEq α](m:List (α×β))(done:List α):List (α×β):=m.filter λq=>decide (q.1∈done)
def H_{α β:Type}[DecidableEq α]{m:List (α×β)}(hnd:m.Pairwise (λp q=>p.1≠q.1)){p:α×β}{done:List α}(hp:p∈m)(hd:p.1∉done):
  (hZ m (p.1::done)).Perm (hZ m done++[p]):=by
 unfold hZ
 induction m with
 | nil=>cases hp
 | cons x m ih=>
  obtain⟨c,f⟩:=gg.1 hnd;rcases fq.1 hp with rfl | hp
  ·rw[cm si,cj (by simpa using hd)];have e:(m.filter λq=>decide (q.1∈p.1::done))=m.filter λq=>decide (q.1∈done):=by
    refine List.filter_congr λy g=>?_;have:=c y g;simp[Ne.symm this]
   rw[e];exact(List.perm_append_singleton p _).symm
  ·have d:(x.1∈p.1::done)↔x.1∈done:=by
    have:=c p hp;simp[this]
   have a:=ih f hp;by_cases b:x.1∈done
   ·rw[cm (by simpa using d.2 b),cm (by simpa using b),List.cons_append];exact a.cons x
   ·rw[cj (by rw[decide_eq_true_eq];exact λh=>b<|d.1 h),cj (by simpa using b)];exact a
def Pd{α β:Type}[DecidableEq α]{m:List (α×β)}{done:List α}(h:∀p∈m,p.1∈done):hZ m done=m:=cn.2 λp hp=>by simpa using h p hp
def Pc{α β:Type}[DecidableEq α](m:List (α×β)):hZ m []=[]:=by unfold hZ;simp
def Iy{α β:Type}[DecidableEq α](m:List (α×β))(done:List α):(hZ m done).length<=m.length:=ep _ _
def nh{α β:Type}[DecidableEq α](m:List (α×β))(done:List α):Nat:=m.length - (hZ m done).length
def On{α β:Type}[DecidableEq α]{m:List (α×β)}(hnd:m.Pairwise (λp q=>p.1≠q.1)){p:α×β}{done:List α}(hp:p∈m)(hd:p.1∉done):nh m (p.1::done)+1=nh m done:=by
 have a:=(H_ hnd hp hd).length_eq;have b:=Iy m (p.1::done);unfold nh;rw[ef,fc]at a;omega
def Ob{α β:Type}[DecidableEq α]{m:List (α×β)}{x:α}{y:β}:∀p∈bQ m x y,p.1=x\/∃q∈m,q.1=p.1:=by
 intro p hp;unfold bQ at hp;split at hp
 ·obtain⟨q,a,rfl⟩:=fu.1 hp;by_cases h:q.1=x
  ·rw[if_pos h];exact .inl rfl
  ·rw[if_neg h];exact .inr ⟨q,a,rfl⟩
 ·rcases fj.1 hp with h | h
  ·exact .inr ⟨p,h,rfl⟩
  ·rw[ga.1 h];exact .inl rfl
end Go.Lf
namespace Go.Lf
open Go
section
variable {α β:Type} {kt:KT α} {t:Ty β} {τ:aK} {κ:K} {b:Nat} {m:List (α×β)} [DecidableEq α]
def JC{T kd e:TypeId}{x:α}{y:β}{P}(h:Mp kt t τ κ b m)(hT:g_ P T=some (kd,e))(hk:KeyOk P kd kt)(hg:cB m x=some y):
  ∃v,t.own κ [v] y/\∀[Fb] (C:Cx) (d:Nat),(Instr.lookup T (.map (some b)) (kt.enc x) false).run P (W C κ d)=.ok v (W C κ d):=by
 obtain⟨D,B,s,bN,l,_⟩:=h.obj;obtain⟨p,hp,rfl⟩:=ip.1 hg;have a:p.1=x:=by simpa using List.find?_some hp
 obtain⟨j,r⟩:=du<|fv hp;obtain⟨w,n,A,u⟩:=l j p r;refine⟨w.val,u,λ{_} C d=>?_⟩;have q:=qd C κ d b s P;rcases Bw h hk x s (W C κ d)with⟨k,_,_⟩ |⟨j',en',y',g0,k,g2,g3,g4,g5,g6⟩
 ·rw[hg]at k;cases k
 ·have i:j'=j:=by
   have g:=(dm.1 g0);have f:=(dm.1 r);have c:=gi.1 h.nd;rcases ig j' j with hlt | n | hlt
   ·have:=c j' j g.1 f.1 hlt;rw[g.2,f.2]at this;exact absurd a.symm this
   ·exact n
   ·have:=c j j' f.1 g.1 hlt;rw[g.2,f.2]at this;exact absurd a this
  subst i;rw[n]at g3;injection g3 with g3
  subst g3;unfold Instr.lookup;simp[zG<|kA hT,q,hk.check,g6]
variable [Fc] [Fb] {P:Program} {n:Nat} {c:Code} {i k:Nat} {Q:bC} {E:aB}
def TN{kd e:Nat}{x:α}{d T}v(hr:∀[Fb] (C:Cx) (d:Nat),(Instr.lookup T (.map (some b)) (kt.enc x) false).run P (W C κ d)=.ok v (W C κ d))(hk:bV P n c k (i+1) Q (aQ E d v) κ)(h:dst c k i E d=true:=by kernel_rfl)(ho:execOp (ev E) (zw c i)=aW (Instr.lookup T (.map (some b)) (kt.enc x) false):=by kernel_rfl):bV P n c k i Q E κ:=by
 refine kL v h (λC a=>?_) hk;rw[ho];exact zI<|hr C a
end
end Go.Lf
namespace Go.Lf
open Go Go.Proofs
section
variable [Fc] [Fb] {P:Program} {n:Nat} {c:Code} {i:Nat} {Q:bC} {E:aB} {κ:K}
abbrev vl{α:Type}(a:Option Addr)(l:List α)(c:Nat):Value:=.slice a l.length c
abbrev tt:Value:=.bool true
abbrev ff:Value:=.bool false
def iK n(h : -9223372036854775808<=n/\n<=9223372036854775807:=by decide):I64 n:=h
abbrev aC(E:aB)(L:List (Nat×Value)):aB:=L.foldl (λF p=>aQ F p.1 p.2) E
def eY{E:aB}{L:List (Nat×Value)}(h:(L.map λp=>E p.1)=L.map Prod.snd:=by kernel_rfl):E=aC E L:=by
 have key:∀(L:List (Nat×Value)),(L.map λp=>E p.1)=L.map Prod.snd->aC E L=E:=by
  intro L
  induction L with
  | nil=>intro _;rfl
  | cons p L ih=>
   intro h;rw[fi,fi]at h;have a:=(List.cons.inj h).1;have e:aQ E p.1 p.2=E:=(zb (t:=p.1) rfl a).symm;show aC (aQ E p.1 p.2) L=E;rw[e];exact ih (List.cons.inj h).2
 exact(key L h).symm
def lZ(P:Program)(n:Nat)(c:Code):Nat->aB->List (Nat×Value)->Prop
 | _,_,[]=>True
 | i,E,p::L=>st c i n E (some p.1)=true/\(∀w,(execOp (ev E) (zw c i)).run P w=.ok (.value p.2) w)/\lZ P n c (i+1) (aQ E p.1 p.2) L
def IM:lZ P n c i E []:=trivial
def IL{d v L}(h:st c i n E (some d)=true)(hr:∀w,(execOp (ev E) (zw c i)).run P w=.ok (.value v) w)(hl:lZ P n c (i+1) (aQ E d v) L):lZ P n c i E ((d,v)::L):=⟨h,hr,hl⟩
def BT:∀(L:List (Nat×Value))i E,aN P n c (i+L.length) Q (aC E L) κ->lZ P n c i E L->aN P n c i Q E κ
 |[],_,_,hk,_=>hk
 | p::L,i,E,hk,h=>by
  refine op p.1 p.2 (BT L (i+1) (aQ E p.1 p.2) ?_ h.2.2) h.1 h.2.1;rw[show i+1+L.length=i+(p::L).length by rw[eh];omega];exact hk
def ol(L:List (Nat×Value))(hk:aN P n c (i+L.length) Q (aC E L) κ)(h:lZ P n c i E L:=by repeat (first | exact IM | refine IL (by kernel_rfl) (by intro _;kernel_rfl) ?_)):aN P n c i Q E κ:=BT L i E hk h
def Pn:Os:=by constructor<;>first | exact #[] | exact 0 | exact none | exact false | exact[] | exact ByteArray.empty | exact default
def w0:World:=⟨#[],λ_ _=>0,0,Pn,#[]⟩
def jD(P:Program)(c:Code)(i:Nat)(E:aB):Value:=match(execOp (ev E) (zw c i)).run P w0 with
 | .ok (.value v) _=>v
 | _=>undef
def kf(P:Program)(n:Nat)(c:Code):Nat->Nat->aB->Prop
 | 0,_,_=>True
 | k+1,i,E=>(st c i n E (some (dstOf c i))=true/\∀w,(execOp (ev E) (zw c i)).run P w=.ok (.value (jD P c i E)) w)/\kf P n c k (i+1) (aQ E (dstOf c i) (jD P c i E))
def lc(P:Program)(c:Code):Nat->Nat->aB->aB
 | 0,_,E=>E
 | k+1,i,E=>lc P c k (i+1) (aQ E (dstOf c i) (jD P c i E))
def uv:kf P n c 0 i E:=trivial
def uu{k}(h:st c i n E (some (dstOf c i))=true)(hr:∀w,(execOp (ev E) (zw c i)).run P w=.ok (.value (jD P c i E)) w)(hl:kf P n c k (i+1) (aQ E (dstOf c i) (jD P c i E))):kf P n c (k+1) i E:=⟨⟨h,hr⟩,hl⟩
def IK:∀k i E,aN P n c (i+k) Q (lc P c k i E) κ->kf P n c k i E->aN P n c i Q E κ
 | 0,_,_,hk,_=>hk
 | k+1,i,E,hk,h=>by
  refine op (dstOf c i) (jD P c i E) (IK k (i+1) _ ?_ h.2) h.1.1 h.1.2;rw[show i+1+k=i+(k+1) by omega];exact hk
def od k(hk:aN P n c (i+k) Q (lc P c k i E) κ)(h:kf P n c k i E:=by repeat (first | exact uv | refine uu (by kernel_rfl) (by intro _;kernel_rfl) ?_)):aN P n c i Q E κ:=IK k i E hk h
def num:Nat->List Value->List (Nat×Value)
 | _,[]=>[]
 | d,v::L=>(d,v)::num (d+1) L
def Jt:∀(L:List Value)d,(num d L).length=L.length
 |[],_=>rfl
 | v::L,d=>by unfold num;rw[eh,eh,Jt L]
def ou d(L:List Value)(hk:aN P n c (i+L.length) Q (aC E (num d L)) κ)(h:lZ P n c i E (num d L):=by repeat (first | exact IM | refine IL (by kernel_rfl) (by intro _;kernel_rfl) ?_)):aN P n c i Q E κ:=BT (num d L) i E (by rw[Jt];exact hk) h
def nG(n:Nat)(c:Code):Nat->aB->List Nat->Prop
 | _,_,[]=>True
 | i,E,d::L=>sk c i n E d=true/\nG n c (i+1) (aQ E d undef) L
def Pp:nG n c i E []:=trivial
def Po{d L}(h:sk c i n E d=true)(hl:nG n c (i+1) (aQ E d undef) L):nG n c i E (d::L):=⟨h,hl⟩
abbrev IW(E:aB)(L:List Nat):aB:=L.foldl (λF d=>aQ F d undef) E
def IR:∀(L:List Nat)i E,aN P n c (i+L.length) Q (IW E L) κ->nG n c i E L->aN P n c i Q E κ
 |[],_,_,hk,_=>hk
 | d::L,i,E,hk,h=>by
  refine os d (IR L (i+1) (aQ E d undef) ?_ h.2) h.1;rw[show i+1+L.length=i+(d::L).length by rw[eh];omega];exact hk
def oz(L:List Nat)(hk:aN P n c (i+L.length) Q (IW E L) κ)(h:nG n c i E L:=by repeat (first | exact Pp | refine Po (by kernel_rfl) ?_)):aN P n c i Q E κ:=IR L i E hk h
def dT k{c1}(hq:aO P n c1 Q (lc P c k i E) κ)(h:kf P n c k i E:=by repeat (first | exact uv | refine uu (by kernel_rfl) (by intro _;kernel_rfl) ?_))(h2:decide ((opsOf c).size<=i+k)=true:=by kernel_rfl):aN P n c i (gX P n c1 Q) E κ:=od k (ot hq h2) h
def cO k{c p}(hk:aN P n (sub c (0::p)) (0+k) (gX P n (sub c (1::p)) Q) (lc P (sub c (0::p)) k 0 E) κ)(h:kf P n (sub c (0::p)) k 0 E:=by repeat (first | exact uv | refine uu (by kernel_rfl) (by intro _;kernel_rfl) ?_))(h0:iz (sub c p)=true:=by kernel_rfl)(h2:eD (sub c (0::p))=some false:=by kernel_rfl):aO P n (sub c p) Q E κ:=aJ (od k hk h) h0 h2
def cT k{c p}(hq:aO P n (sub c (1::p)) Q (lc P (sub c (0::p)) k 0 E) κ)(h:kf P n (sub c (0::p)) k 0 E:=by repeat (first | exact uv | refine uu (by kernel_rfl) (by intro _;kernel_rfl) ?_))(h1:decide ((opsOf (sub c (0::p))).size<=0+k)=true:=by kernel_rfl)(h0:iz (sub c p)=true:=by kernel_rfl)(h2:eD (sub c (0::p))=some false:=by kernel_rfl):aO P n (sub c p) Q E κ:=aJ (dT k hq h h1) h0 h2
def nB(P:Program)(c:Code)(k:Nat):Nat->Nat->aB->Prop
 | 0,_,_=>True
 | m+1,i,E=>(dst c k i E (dstOf c i)=true/\∀w,(execOp (ev E) (zw c i)).run P w=.ok (.value (jD P c i E)) w)/\nB P c k m (i+1) (aQ E (dstOf c i) (jD P c i E))
def Pj{k}:nB P c k 0 i E:=trivial
def Ph{k m}(h:dst c k i E (dstOf c i)=true)(hr:∀w,(execOp (ev E) (zw c i)).run P w=.ok (.value (jD P c i E)) w)(hl:nB P c k m (i+1) (aQ E (dstOf c i) (jD P c i E))):nB P c k (m+1) i E:=⟨⟨h,hr⟩,hl⟩
def IJ{k}:∀m i E,bV P n c k (i+m) Q (lc P c m i E) κ->nB P c k m i E->bV P n c k i Q E κ
 | 0,_,_,hk,_=>hk
 | m+1,i,E,hk,h=>by
  refine dp (dstOf c i) (jD P c i E) (IJ m (i+1) _ ?_ h.2) h.1.1 h.1.2;rw[show i+1+m=i+(m+1) by omega];exact hk
def dd{k}m(hk:bV P n c k (i+m) Q (lc P c m i E) κ)(h:nB P c k m i E:=by repeat (first | exact Pj | refine Ph (by kernel_rfl) (by intro _;kernel_rfl) ?_)):bV P n c k i Q E κ:=IJ m i E hk h
def rT{fn:Func}{R:Value->K->Prop}t v(hR:R (m' [v]) κ)(h:E t=v:=by kernel_rfl)(hr:fn.results=[ResultVar.tmp t].toArray:=by kernel_rfl):kN P fn R .ret E κ:=rt [.tmp t] [v] ⟨h,trivial⟩ hR hr
end
def bD{α β:Type}{o:Option α}{f:α->Option β}{r:β}(h:o.bind f=some r):∃x,o=some x/\f x=some r:=bind_some h
def bE{α β:Type}{o:Option α}{f:α->Option β}{r:β}{G:Prop}(h:o.bind f=some r)(k:∀x,o=some x->f x=some r->G):G:=let ⟨x,a,b⟩:=bind_some h;k x a b
class cu{α:Type}(t:Ty α) where
 all:K->α->(List Value->Prop)->Prop
 ok:∀{κ x F cs},all κ x F->t.own κ cs x->F cs
instance:cu tI64:=⟨λ_ n F=>I64 n->F [.int .i64 n],λh o=>by rw[o.1];exact h o.2⟩
instance:cu tU8:=⟨λ_ n F=>0<=n/\n<=255->F [.int .u8 n],λh o=>by rw[o.1];exact h o.2⟩
instance:cu TA:=⟨λ_ n F => -2147483648<=n/\n<=2147483647->F [.int .i32 n],λh o=>by rw[o.1];exact h o.2⟩
instance:cu p_:=⟨λ_ b F=>F [.bool b],λh o=>by rw[show _=_ from o];exact h⟩
instance:cu tStr:=⟨λ_ s F=>s.length<=9223372036854775807->F [zu s],λh o=>by rw[o.1];exact h o.2⟩
instance:cu Kn:=⟨λ_ v F=>v.oneCell'=true->F [v],λh o=>by rw[o.1];exact h o.2⟩
instance{α:Type}{t:Ty α}:cu (tSl t):=⟨λκ l F=>∀a c,Sl t κ a c l->F [.slice a l.length c],λh o=>by obtain⟨a,c,e,s⟩:=o;rw[e];exact h a c s⟩
instance{α β:Type}{t:Ty α}{u:Ty β}[cu t][cu u]:cu (tPair t u):=⟨λκ x F=>cu.all t κ x.1 λy=>cu.all u κ x.2 λz=>F (y++z),λ{κ x F cs} h o=>by
  obtain⟨y,z,e,p,q⟩:=o;subst e;have h1:cu.all u κ x.2 λz=>F (y++z):=cu.ok (t:=t) (F:=λy=>cu.all u κ x.2 λz=>F (y++z)) h p;exact cu.ok (F:=λz=>F (y++z)) h1 q⟩
def cP:Op->TypeId
 | .indexAddr T _ _=>T
 | .load T _=>T
 | .store T _ _=>T
 | .buildSlice T _ _=>T
 | _=>0
def IH(E:aB):Op->Array (Nat×Value)
 | .buildSlice _ _ L=>L.map λp=>(p.1,ev E p.2)
 | _=>#[]
def kl(E:aB):Op->Value
 | .store _ _ v=>ev E v
 | .box _ v=>ev E v
 | _=>undef
section
variable [Fc] [Fb] {P:Program} {n:Nat} {c:Code} {i k:Nat} {nq:List Nat} {q0:Nat} {M:List Nat} {π:List Nat} {Q:bC} {E:aB} {κ κ0:K}
def oJ{α:Type}{t:Ty α}[cu t]{l:List α}{x:α}{a cp ix}(f:Sl t κ a cp l)(hx:idx l ix=some x)(hk:∀b o,cu.all t κ x λcs=>PubAt κ b o cs->aN P n c (i+1) Q (aQ E (dstOf c i) (.pointer (some ⟨b,o,none⟩))) κ)(h:st c i n E (some (dstOf c i))=true:=by kernel_rfl)(ho:execOp (ev E) (zw c i)=aW (Instr.indexAt (cP (zw c i).op) (.slice a l.length cp) (.int .i64 ix)):=by kernel_rfl)(hs:(zK P (cP (zw c i).op)).bind (zO P)=some t.size:=by kernel_rfl):aN P n c i Q E κ:=by
 obtain⟨b,off,j,k,g,cs,hp,d⟩:=f.idx hx;obtain⟨el,e,m⟩:=bind_some hs;exact oi _ _ el t.size _ _ .i64 ix j k g (cu.ok (hk b (off+ix.toNat*t.size)) d hp) h ho e m
def dI{α:Type}{t:Ty α}[cu t]{l:List α}{x:α}{a cp ix}(f:Sl t κ a cp l)(hx:idx l ix=some x)(hk:∀b o,cu.all t κ x λcs=>PubAt κ b o cs->bV P n c k (i+1) Q (aQ E (dstOf c i) (.pointer (some ⟨b,o,none⟩))) κ)(h:dst c k i E (dstOf c i)=true:=by kernel_rfl)(ho:execOp (ev E) (zw c i)=aW (Instr.indexAt (cP (zw c i).op) (.slice a l.length cp) (.int .i64 ix)):=by kernel_rfl)(hs:(zK P (cP (zw c i).op)).bind (zO P)=some t.size:=by kernel_rfl):bV P n c k i Q E κ:=by
 obtain⟨b,off,j,m,g,cs,hp,d⟩:=f.idx hx;obtain⟨el,e,p⟩:=bind_some hs;exact di _ _ el t.size _ _ .i64 ix j m g (cu.ok (hk b (off+ix.toNat*t.size)) d hp) h ho e p
def xI{α:Type}{t:Ty α}[cu t]{l:List α}{x:α}{a cp ix}(f:Sl t κ a cp l)(hx:idx l ix=some x)(hk:∀b o,cu.all t κ x λcs=>PubAt κ b o cs->bY P n c k nq q0 M π Q (aQ E (dstOf c i) (.pointer (some ⟨b,o,none⟩))) κ)(h:gI c nq i E (dstOf c i)=true:=by kernel_rfl)(ho:execOp (ev E) (zw c i)=aW (Instr.indexAt (cP (zw c i).op) (.slice a l.length cp) (.int .i64 ix)):=by kernel_rfl)(hs:(zK P (cP (zw c i).op)).bind (zO P)=some t.size:=by kernel_rfl):bY P n c k nq q0 M (i::π) Q E κ:=by
 obtain⟨b,off,j,m,g,cs,hp,d⟩:=f.idx hx;obtain⟨el,e,p⟩:=bind_some hs;exact xi _ _ el t.size _ _ .i64 ix j m g (cu.ok (hk b (off+ix.toNat*t.size)) d hp) h ho e p
def oG{α:Type}{t:Ty α}[cu t]{l:List α}{x:α}{pub τ e a cp ix}(f:Gr t pub τ κ e a cp l)(hx:idx l ix=some x)(hk:∀b o,cu.all t κ x λcs=>At κ b o cs->aN P n c (i+1) Q (aQ E (dstOf c i) (.pointer (some ⟨b,o,none⟩))) κ)(h:st c i n E (some (dstOf c i))=true:=by kernel_rfl)(ho:execOp (ev E) (zw c i)=aW (Instr.indexAt (cP (zw c i).op) (.slice a l.length cp) (.int .i64 ix)):=by kernel_rfl)(hs:(zK P (cP (zw c i).op)).bind (zO P)=some t.size:=by kernel_rfl):aN P n c i Q E κ:=by
 obtain⟨b,k,m,j,cs,hp,d⟩:=f.idx hx;obtain⟨el,g,p⟩:=bind_some hs;exact oi _ _ el t.size _ _ .i64 ix k m j (cu.ok (hk b (0+ix.toNat*t.size)) d hp) h ho g p
def dG{α:Type}{t:Ty α}[cu t]{l:List α}{x:α}{pub τ e a cp ix}(f:Gr t pub τ κ e a cp l)(hx:idx l ix=some x)(hk:∀b o,cu.all t κ x λcs=>At κ b o cs->bV P n c k (i+1) Q (aQ E (dstOf c i) (.pointer (some ⟨b,o,none⟩))) κ)(h:dst c k i E (dstOf c i)=true:=by kernel_rfl)(ho:execOp (ev E) (zw c i)=aW (Instr.indexAt (cP (zw c i).op) (.slice a l.length cp) (.int .i64 ix)):=by kernel_rfl)(hs:(zK P (cP (zw c i).op)).bind (zO P)=some t.size:=by kernel_rfl):bV P n c k i Q E κ:=by
 obtain⟨b,m,p,j,cs,hp,d⟩:=f.idx hx;obtain⟨el,g,q⟩:=bind_some hs;exact di _ _ el t.size _ _ .i64 ix m p j (cu.ok (hk b (0+ix.toNat*t.size)) d hp) h ho g q
def xG{α:Type}{t:Ty α}[cu t]{l:List α}{x:α}{pub τ e a cp ix}(f:Gr t pub τ κ e a cp l)(hx:idx l ix=some x)(hk:∀b o,cu.all t κ x λcs=>At κ b o cs->bY P n c k nq q0 M π Q (aQ E (dstOf c i) (.pointer (some ⟨b,o,none⟩))) κ)(h:gI c nq i E (dstOf c i)=true:=by kernel_rfl)(ho:execOp (ev E) (zw c i)=aW (Instr.indexAt (cP (zw c i).op) (.slice a l.length cp) (.int .i64 ix)):=by kernel_rfl)(hs:(zK P (cP (zw c i).op)).bind (zO P)=some t.size:=by kernel_rfl):bY P n c k nq q0 M (i::π) Q E κ:=by
 obtain⟨b,m,p,j,cs,hp,d⟩:=f.idx hx;obtain⟨el,g,q⟩:=bind_some hs;exact xi _ _ el t.size _ _ .i64 ix m p j (cu.ok (hk b (0+ix.toNat*t.size)) d hp) h ho g q
def oL{cs:List Value}{b o}(w:At κ b o cs)j m(hk:aN P n c (i+1) Q (aQ E (dstOf c i) (.agg ((cs.drop j).take m).toArray)) κ)(h:st c i n E (some (dstOf c i))=true:=by kernel_rfl)(ho:execOp (ev E) (zw c i)=aW (Instr.loadAt (cP (zw c i).op) (.pointer (some ⟨b,o+j,none⟩))):=by kernel_rfl)(hT:dK P (cP (zw c i).op)=some true:=by kernel_rfl)(hs:zO P (cP (zw c i).op)=some ((cs.drop j).take m).length:=by kernel_rfl):aN P n c i Q E κ:=oN _ _ _ (w.part j m).2 hk h ho hT hs
def dL{cs:List Value}{b o}(w:At κ b o cs)j m(hk:bV P n c k (i+1) Q (aQ E (dstOf c i) (.agg ((cs.drop j).take m).toArray)) κ)(h:dst c k i E (dstOf c i)=true:=by kernel_rfl)(ho:execOp (ev E) (zw c i)=aW (Instr.loadAt (cP (zw c i).op) (.pointer (some ⟨b,o+j,none⟩))):=by kernel_rfl)(hT:dK P (cP (zw c i).op)=some true:=by kernel_rfl)(hs:zO P (cP (zw c i).op)=some ((cs.drop j).take m).length:=by kernel_rfl):bV P n c k i Q E κ:=dN _ _ _ (w.part j m).2 hk h ho hT hs
def xL{cs:List Value}{b o}(w:At κ b o cs)j m(hk:bY P n c k nq q0 M π Q (aQ E (dstOf c i) (.agg ((cs.drop j).take m).toArray)) κ)(h:gI c nq i E (dstOf c i)=true:=by kernel_rfl)(ho:execOp (ev E) (zw c i)=aW (Instr.loadAt (cP (zw c i).op) (.pointer (some ⟨b,o+j,none⟩))):=by kernel_rfl)(hT:dK P (cP (zw c i).op)=some true:=by kernel_rfl)(hs:zO P (cP (zw c i).op)=some ((cs.drop j).take m).length:=by kernel_rfl)(hm:jC c i=true:=by kernel_rfl)(hf:frB c q0 i=false:=by kernel_rfl):bY P n c k nq q0 M (i::π) Q E κ:=xN _ _ _ w j m rfl hk h ho hT hs hm hf
def CC{cs:List Value}{j}(hj:Nat.ble (j+1) cs.length=true):cs[j]?=some ((cs[j]?).getD undef):=by
 have:=gu hj;rw[dj (show j<cs.length by omega)];rfl
def oV{cs:List Value}{b o}(w:At κ b o cs)j(hk:aN P n c (i+1) Q (aQ E (dstOf c i) ((cs[j]?).getD undef)) κ)(h:st c i n E (some (dstOf c i))=true:=by kernel_rfl)(ho:execOp (ev E) (zw c i)=aW (Instr.loadAt (cP (zw c i).op) (.pointer (some ⟨b,o+j,none⟩))):=by kernel_rfl)(hT:dK P (cP (zw c i).op)=some false:=by kernel_rfl)(hj:Nat.ble (j+1) cs.length=true:=by kernel_rfl):aN P n c i Q E κ:=o1 _ _ _ (w.one (CC hj)) hk h ho hT
def dV{cs:List Value}{b o}(w:At κ b o cs)j(hk:bV P n c k (i+1) Q (aQ E (dstOf c i) ((cs[j]?).getD undef)) κ)(h:dst c k i E (dstOf c i)=true:=by kernel_rfl)(ho:execOp (ev E) (zw c i)=aW (Instr.loadAt (cP (zw c i).op) (.pointer (some ⟨b,o+j,none⟩))):=by kernel_rfl)(hT:dK P (cP (zw c i).op)=some false:=by kernel_rfl)(hj:Nat.ble (j+1) cs.length=true:=by kernel_rfl):bV P n c k i Q E κ:=d1 _ _ _ (w.one (CC hj)) hk h ho hT
def xV{cs:List Value}{b o}(w:At κ b o cs)j(hk:bY P n c k nq q0 M π Q (aQ E (dstOf c i) ((cs[j]?).getD undef)) κ)(h:gI c nq i E (dstOf c i)=true:=by kernel_rfl)(ho:execOp (ev E) (zw c i)=aW (Instr.loadAt (cP (zw c i).op) (.pointer (some ⟨b,o+j,none⟩))):=by kernel_rfl)(hT:dK P (cP (zw c i).op)=some false:=by kernel_rfl)(hj:Nat.ble (j+1) cs.length=true:=by kernel_rfl)(hm:jC c i=true:=by kernel_rfl)(hf:frB c q0 i=false:=by kernel_rfl):bY P n c k nq q0 M (i::π) Q E κ:=x1 _ _ _ w j (CC hj) hk h ho hT hm hf
variable {N:List Nat}
def oA T t(zs:List Value)(hs:Step N κ0 κ)(hk:∀b κ',Step N κ0 κ'->Step [] κ κ'->aI (κ0.H.size,t) κ' b zs T->aN P n c (i+1) Q (aQ E (dstOf c i) (.pointer (some ⟨b,0,none⟩))) κ')(h:st c i n E (some (dstOf c i))=true:=by kernel_rfl)(ho:execOp (ev E) (zw c i)=aW (Instr.alloc T true (.tuple #[])):=by kernel_rfl)(hz:(eJ P T).map Value.cells=some zs.toArray:=by kernel_rfl):aN P n c i Q E κ:=Li (κ0.H.size,t) hs.1 zs h ho hz λb κ' s B=>hk b κ' (hs.tr0 s) s B
def oB T t(cs:List Value)(hs:Step N κ0 κ)(hk:∀b κ',Step N κ0 κ'->Step [] κ κ'->aI (κ0.H.size,t) κ' b cs T->aN P n c (i+1) Q (aQ E (dstOf c i) (.pointer (some ⟨b,0,none⟩))) κ')(h:st c i n E (some (dstOf c i))=true:=by kernel_rfl)(ho:execOp (ev E) (zw c i)=aW (Instr.box T (kl E (zw c i).op)):=by kernel_rfl)(hv:(kl E (zw c i).op).cells=cs.toArray:=by kernel_rfl):aN P n c i Q E κ:=JR (κ0.H.size,t) hs.1 _ cs h ho hv λb κ' s B=>hk b κ' (hs.tr0 s) s B
def oS{U:TypeId}{cs:List Value}{t b}off cs'(hb:aI (κ0.H.size,t) κ b cs U)(hs:Step N κ0 κ)(hk:∀κ',Step N κ0 κ'->Step [b] κ κ'->aI (κ0.H.size,t) κ' b cs' U->aN P n c (i+1) Q E κ')(h:st c i n E none=true:=by kernel_rfl)(ho:execOp (ev E) (zw c i)=gH (Instr.storeAt (cP (zw c i).op) (.pointer (some ⟨b,off,none⟩)) (kl E (zw c i).op)):=by kernel_rfl)(hz:zO P (cP (zw c i).op)=some (kl E (zw c i).op).cells.toList.length:=by kernel_rfl)(hone:nj (kl E (zw c i).op).cells.toList=true:=by kernel_rfl)(hlen:Nat.ble (off+(kl E (zw c i).op).cells.toList.length) cs.length=true:=by kernel_rfl)(hcs:splice cs off (kl E (zw c i).op).cells.toList=cs':=by kernel_rfl):aN P n c i Q E κ:=gL _ _ cs' h ho hb si hz hone hlen hcs λκ' s _ B=>hk κ' (hs.trB hb.ge s) s B
def oC{args:Array Value}{R:Value->K->Prop}{f}(hs:Step N κ0 κ)(hf:Fn P f args κ (λv κ'=>Step [] κ κ'/\R v κ'))(hk:∀κ',Step [] κ κ'->Step N κ0 κ'->∀v,R v κ'->aN P n c (i+1) Q (aQ E (dstOf c i) v) κ')(h:st c i n E (some (dstOf c i))=true:=by kernel_rfl)(hr:∀w,(execOp (ev E) (zw c i)).run P w=.ok (.enter f args) w:=by intro _;kernel_rfl):aN P n c i Q E κ:=aL _ hf (λv κ' H=>hk κ' H.1 (hs.tr0 H.1) v H.2) h hr
def oW{α:Type}{t:Ty α}{l l':List α}{ix:Int}{x x':α}{vs:List Value}{τ e a cp}(f:Gr t false τ κ e a cp l)(hx:idx l ix=some x)(hl:some (l.set ix.toNat x')=some l')(own:t.own κ vs x')(hk:∀b κ',Step (aG a cp) κ κ'->Gr t false τ κ' e a cp l'->l'.length=l.length->aN P n c (i+2) Q (aQ E (dstOf c i) (.pointer (some ⟨b,0+ix.toNat*t.size,none⟩))) κ')(h:st c i n E (some (dstOf c i))=true:=by kernel_rfl)(d:execOp (ev E) (zw c i)=aW (Instr.indexAt (cP (zw c i).op) (.slice a l.length cp) (.int .i64 ix)):=by kernel_rfl)(hs:(zK P (cP (zw c i).op)).bind (zO P)=some t.size:=by kernel_rfl)(h2:∀b,st c (i+1) n (aQ E (dstOf c i) (.pointer (some ⟨b,0+ix.toNat*t.size,none⟩))) none=true:=by intro _;kernel_rfl)(ho2:∀b,execOp (ev (aQ E (dstOf c i) (.pointer (some ⟨b,0+ix.toNat*t.size,none⟩)))) (zw c (i+1))=gH (Instr.storeAt (cP (zw c (i+1)).op) (.pointer (some ⟨b,0+ix.toNat*t.size+0,none⟩)) (kl E (zw c (i+1)).op)):=by intro _;kernel_rfl)(hv:(kl E (zw c (i+1)).op).cells=vs.toArray:=by kernel_rfl)(hz:zO P (cP (zw c (i+1)).op)=some t.size:=by kernel_rfl)(hone:nj vs=true:=by kernel_rfl):aN P n c i Q E κ:=by
 obtain⟨b,k,m,j,_⟩:=f.idx hx;obtain⟨el,p,r⟩:=bind_some hs;have hlen:=t.len own;refine oi _ _ el t.size _ _ .i64 ix k m j ?_ h d p r;refine gY _ (h2 b) (ho2 b) k f m j hv (by rw[hz,hlen]) hone ?_ (λcs q=>?_) λκ' s g=>hk b κ' s (kO hl g)<|fY hl
 ·rw[ik,hlen];exact Nat.ble_self_eq_true _
 ·obtain⟨y,_,d⟩:=q;rw[pC<|(t.len d).trans hlen.symm];exact own
def oT{α:Type}{t:Ty α}{cs}e tg pub(l:List α)(hs:Step N κ0 κ)(hr:aZ t κ cs l)(hk:∀a' κ',Step N κ0 κ'->Step [] κ κ'->Gr t pub (κ0.H.size,tg) κ' e a' l.length l->aN P n c (i+1) Q (aQ E (dstOf c i) (.slice a' l.length l.length)) κ')(h:st c i n E (some (dstOf c i))=true:=by kernel_rfl)(ho:execOp (ev E) (zw c i)=aW (Instr.buildSlice (cP (zw c i).op) l.length (IH E (zw c i).op)):=by kernel_rfl)(hi:pX P (cP (zw c i).op) l.length (IH E (zw c i).op)=some (e,t.size,cs):=by kernel_rfl)(hz:Nat.blt 0 t.size=true:=by kernel_rfl)(hm:Nat.ble l.length 1000000=true:=by kernel_rfl):aN P n c i Q E κ:=Im (τ:=(κ0.H.size,tg)) h ho hi hz hs.1 rfl hr hm λa' κ' s g=>hk a' κ' (hs.tr0 s) s g
def oP{α:Type}{t:Ty α}{l l2 r:List α}{pub τ e bytes a a2 cp c2}T(hg:Gr t pub τ κ e a cp l)(h2:Sl t κ a2 c2 l2)(hτ:τ.1<=κ.H.size)(hx:aU bytes l l2=some r)(hk:∀a' c' κ',Step (aG a cp) κ κ'->Gr t pub τ κ' e a' c' r->(∀g∈aG a' c',g∈aG a cp\/κ.H.size<=g)->aN P n c (i+1) Q (aQ E (dstOf c i) (.slice a' r.length c')) κ')(h:st c i n E (some (dstOf c i))=true:=by kernel_rfl)(ho:execOp (ev E) (zw c i)=aW (Builtin.append_ #[T,T] 0 #[.slice a l.length cp,.slice a2 l2.length c2]):=by kernel_rfl)(hT:gC P T=some (e,t.size,t.size,bytes):=by kernel_rfl):aN P n c i Q E κ:=pG h ho hg h2 hτ hT hx hk
end
class bZ(κ κ':K)(A:Prop)(B:outParam Prop):Prop where
 m:Step [] κ κ'->A->B
section
variable {κ κ' κ0:K} {A B C D F G A' B' C' D' F' G':Prop}
instance{α:Type}{t:Ty α}{a:Option Addr}{c:Nat}{l:List α}:bZ κ κ' (Sl t κ a c l) (Sl t κ' a c l):=⟨λs h=>h.step s⟩
instance{N:List Nat}:bZ κ κ' (Step N κ0 κ) (Step N κ0 κ'):=⟨λs h=>h.tr0 s⟩
instance{τ:aK}{b:Nat}{cs:List Value}{T:TypeId}:bZ κ κ' (aI τ κ b cs T) (aI τ κ' b cs T):=⟨λs h=>h.step0 s⟩
instance{α:Type}{t:Ty α}{p:Bool}{τ:aK}{e:Nat}{a:Option Addr}{c:Nat}{l:List α}:bZ κ κ' (Gr t p τ κ e a c l) (Gr t p τ κ' e a c l):=⟨λs h=>h.step0 s⟩
instance{b o:Nat}{cs:List Value}:bZ κ κ' (PubAt κ b o cs) (PubAt κ' b o cs):=⟨λs h=>h.step s⟩
instance{b o:Nat}{cs:List Value}:bZ κ κ' (At κ b o cs) (At κ' b o cs):=⟨λs h=>h.step0 s⟩
instance{α:Type}{t:Ty α}{p:Bool}{τ:aK}{eo ei:TypeId}{a:Option Addr}{c:Nat}{hm hs:List Hd}{L:List (List α)}:bZ κ κ' (aX t p τ κ eo ei a c hm hs L) (aX t p τ κ' eo ei a c hm hs L):=⟨λs h=>h.step0 s⟩
instance{N i b:Nat}{ob:Obj}:bZ κ κ' (cE N i κ b ob) (cE N i κ' b ob):=⟨λs h=>h.step0 s⟩
instance{α β:Type}{kt:KT α}{t:Ty β}{τ:aK}{b:Nat}{m:List (α×β)}:bZ κ κ' (Mp kt t τ κ b m) (Mp kt t τ κ' b m):=⟨λs h=>h.step0 s⟩
instance{τ:aK}{eP eG:TypeId}{a:Option Addr}{n:Nat}{bs:List Nat}{L:List Int}:bZ κ κ' (bG τ κ eP eG a n bs L) (bG τ κ' eP eG a n bs L):=⟨λs h=>h.step0 s⟩
def aR[bZ κ κ' A A'][bZ κ κ' B B'](s:Step [] κ κ')(a:A)(b:B):A'/\B':=⟨bZ.m s a,bZ.m s b⟩
def bU[bZ κ κ' A A'][bZ κ κ' B B'][bZ κ κ' C C'](s:Step [] κ κ')(a:A)(b:B)(c:C):A'/\B'/\C':=⟨bZ.m s a,aR s b c⟩
def dD[bZ κ κ' A A'][bZ κ κ' B B'][bZ κ κ' C C'][bZ κ κ' D D'](s:Step [] κ κ')(a:A)(b:B)(c:C)(d:D):A'/\B'/\C'/\D':=⟨bZ.m s a,bU s b c d⟩
def fX[bZ κ κ' A A'][bZ κ κ' B B'][bZ κ κ' C C'][bZ κ κ' D D'][bZ κ κ' F F'](s:Step [] κ κ')(a:A)(b:B)(c:C)(d:D)(f:F):A'/\B'/\C'/\D'/\F':=⟨bZ.m s a,dD s b c d f⟩
def eC[bZ κ κ' A A'][bZ κ κ' B B'][bZ κ κ' C C'][bZ κ κ' D D'][bZ κ κ' F F'][bZ κ κ' G G'](s:Step [] κ κ')(a:A)(b:B)(c:C)(d:D)(f:F)(g:G):A'/\B'/\C'/\D'/\F'/\G':=⟨bZ.m s a,fX s b c d f g⟩
end
def zz(s:List UInt8):List Int:=s.map λb=>(b.toNat:Int)
def NQ{κ}:∀s:List UInt8,aZ tU8 κ (s.map λb=>Value.int .u8 b.toNat) (zz s)
 |[]=>rfl
 | b::s=>⟨[.int .u8 b.toNat],_,rfl,⟨rfl,show(0:Int)<=(b.toNat:Int) by omega,show(b.toNat:Int)<=255 by have:=b.toNat_lt;omega⟩,NQ s⟩
def uo(P:Program)(T:TypeId):Bool:=match P.underlying T with
 | some .string=>true
 | _=>false
def OV{P:Program}{T:TypeId}(h:uo P T=true):P.underlying T=some .string:=by
 unfold uo at h;split at h
 ·assumption
 ·cases h
section
variable {pub:Bool} {τ:aK} {κ:K} {e T T2:TypeId} {a:Option Addr} {cp:Nat} {l r:List Int}
def YS{ty:TypeId}{P bytes}(h:Gr tU8 pub τ κ e a cp l)s(hτ:τ.1<=κ.H.size)(hT2:uo P T2=true)(hT:zK P T=some e)(bN:zO P e=some 1)(hz:pQ P e=some 1)(hby:lG P e=some bytes)(hb:(l.length+(zz s).length)*bytes<=140737488355328)(hmax:l.length+(zz s).length<=9223372036854775807)[Fb](C:Cx)d:
  ∃a' c' κ' d',(Builtin.append_ #[T,T2] ty #[.slice a l.length cp,zu s]).run P (W C κ d)=.ok (.slice a' (l++zz s).length c') (W C κ' d')/\
   Step (aG a cp) κ κ'/\Gr tU8 pub τ κ' e a' c' (l++zz s)/\∀g∈aG a' c',g∈aG a cp\/κ.H.size<=g:=by
 refine Np h (NQ s) hτ hT bN hz hby hb hmax C d ?_;have:=Src.ofString (P:=P) (W C κ d) (OV hT2) ⟨s.toArray⟩;have f:(⟨s.toArray⟩:ByteArray).size=(zz s).length:=by simp[zz,ByteArray.size]
 have c:byteCells ⟨s.toArray⟩=s.map λb=>Value.int .u8 b.toNat:=by simp[byteCells]
 rw[f,c]at this;exact this
end
section
variable [Fc] [Fb] {P:Program} {n:Nat} {c:Code} {i k:Nat} {nq:List Nat} {q0:Nat} {M:List Nat} {π:List Nat} {Q:bC} {E:aB} {κ:K}
variable {pub:Bool} {τ:aK} {e T T2:TypeId} {a:Option Addr} {cp:Nat} {l r:List Int} {s:List UInt8}
def ti{d bytes}(h:st c i n E (some d)=true)(ho:execOp (ev E) (zw c i)=aW (Builtin.append_ #[T,T2] 0 #[.slice a l.length cp,zu s]))(hg:Gr tU8 pub τ κ e a cp l)(hτ:τ.1<=κ.H.size)(hT:gC P T=some (e,1,1,bytes))(hT2:uo P T2=true)(hx:aU bytes l (zz s)=some r)(hk:∀a' c' κ',Step (aG a cp) κ κ'->Gr tU8 pub τ κ' e a' c' r->(∀g∈aG a' c',g∈aG a cp\/κ.H.size<=g)->aN P n c (i+1) Q (aQ E d (.slice a' r.length c')) κ'):aN P n c i Q E κ:=by
 obtain⟨q,u,k,t⟩:=mU hT;obtain⟨w,hm,rfl⟩:=kJ hx;refine gZ (λv κ'=>∃a' c',v=.slice a' (l++zz s).length c'/\Step (aG a cp) κ κ'/\Gr tU8 pub τ κ' e a' c' (l++zz s)/\∀g∈aG a' c',g∈aG a cp\/κ.H.size<=g) h (λC j=>?_) ?_
 ·obtain⟨a',c',κ',m,p,hs,b,f⟩:=YS (P:=P) (T:=T) (ty:=0) hg s hτ hT2 q u k t w hm C j;exact⟨_,κ',m,by rw[ho];exact zI p,a',c',rfl,hs,b,f⟩
 ·rintro v κ' ⟨a',c',rfl,hs,b,f⟩;exact hk a' c' κ' hs b f
def YW{d bytes}(h:st c i n E (some d)=true)(ho:execOp (ev E) (zw c i)=aW (Builtin.append_ #[T,T2] 0 #[.slice a l.length cp,zu s]))(f:Gr tU8 pub τ κ e a cp l)(hz:a=none\/0<cp)(hτ:τ.1<=κ.H.size)(hT:gC P T=some (e,1,1,bytes))(hT2:uo P T2=true)(hx:aU bytes l (zz s)=some r)(hk:∀a' c' κ',Step (aG a cp) κ κ'->Gr tU8 pub τ κ' e a' c' r->(∀g∈aG a' c',g∈aG a cp\/κ.H.size<=g)->(a'=none\/0<c')->aN P n c (i+1) Q (aQ E d (.slice a' r.length c')) κ'):aN P n c i Q E κ:=by
 cases s with
 | cons x s=>
  refine ti h ho f hτ hT hT2 hx λa' c' κ' B p t=>hk a' c' κ' B p t<|.inr ?_;obtain⟨_,_,rfl⟩:=kJ hx;have:(l++zz (x::s)).length<=c':=by
   rcases p.body with⟨_,j⟩ |⟨_,_,_,_,_,_,b,_⟩
   ·rw[j];simp
   ·exact b
  rw[ef]at this;simp only[zz,fi,eh]at this;omega
 | nil=>
  obtain⟨b,G,D,q⟩:=mU hT;obtain⟨_,_,rfl⟩:=kJ hx;have w:l++zz []=l:=by simp[zz]
  rw[w]at hk;have k:l.length<=cp:=by
   rcases f.body with⟨_,j⟩ |⟨_,_,_,_,_,_,b,_⟩
   ·rw[j];simp
   ·exact b
  obtain⟨F,hi,_⟩:∃i,P.info? e=some i/\i.bytes=bytes:=by
   unfold lG at q;obtain⟨i,b,A⟩:=ip.1 q;exact⟨i,b,A⟩
  refine gZ (λv κ'=>v=.slice a l.length cp/\κ'=κ) h (λC u=>⟨_,κ,u,?_,rfl,rfl⟩) (λv κ' y=>?_)
  ·rw[ho];refine zI ?_;have m:=OV hT2;have hs:zu []=.string ⟨#[]⟩:=rfl;rw[hs];cases a<;>simp[Builtin.append_,run_underlying<|lu b,run_underlying m,sizeOf,typeInfo,hi,Builtin.lenOf,ByteArray.size,k,Builtin.firstCells,storeCells]
  ·obtain⟨rfl,rfl⟩:=y;exact hk a cp _ (Step.refl _ _) f (λg f=>.inl f) hz
end
def tk(τ:aK)(κ:K):List Nat:=(List.range κ.H.size).filter λg=>decide (κ.tag g=τ)&&decide (τ.1<=g)
def gN{κ:K}{τ g}:g∈tk τ κ↔g<κ.H.size/\κ.tag g=τ/\τ.1<=g:=by
 unfold tk;simp[ft]
structure bR(TB eB:TypeId)(τ:aK)(κ:K)(b:Nat)(l:List Int):Prop where
 ex:∃p a c,(p=Value.pointer none\/p=Value.pointer (some ⟨b,0,none⟩))/\aI τ κ b [p,.slice a l.length c] TB/\Gr tU8 false τ κ eB a c l/\b∉aG a c/\(a=none\/0<c)
section
variable {TB eB:TypeId} {τ τ':aK} {κ κ':K} {b:Nat} {l:List Int} {M:List Nat}
def bR.mk0(h:aI τ κ b [.pointer none,.slice none 0 0] TB):bR TB eB τ κ b []:=⟨_,none,0,.inl rfl,h,Gr.nil,by simp[aG],.inl rfl⟩
def bR.most(h:bR TB eB τ κ b l):l.length<=9223372036854775807:=by obtain⟨_,_,_,_,_,g,_⟩:=h.ex;exact tO g.most
def bR.own{κ0:K}(_:bR TB eB τ κ b l)(h0:κ0.H.size<=τ.1):∀g∈tk τ κ,κ0.H.size<=g:=λg a=>gy h0 (gN.1 a).2.2
def bR.nb{x}(_:bR TB eB τ κ b l)(h':dF τ' κ x)(hn:τ'≠τ):x∉tk τ κ:=λa=>hn (h'.tag.symm.trans (gN.1 a).2.1)
def bR.bn{x}(_:bR TB eB τ κ b l)(h':dF τ' κ x)(hn:τ≠τ'):∀g∈tk τ κ,g∉[x]:=λg a c=>by
 have d:=ga.1 c;subst d;exact hn ((gN.1 a).2.1.symm.trans h'.tag)
def bR.step(s:Step M κ κ')(hm:∀g∈tk τ κ,g∉M)(h:bR TB eB τ κ b l):bR TB eB τ κ' b l:=by
 obtain⟨p,a,c,hp,B,g,e⟩:=h.ex;exact⟨p,a,c,hp,B.step s<|hm b<|gN.2 ⟨B.lt,B.tag,B.ge⟩,g.step s (λx d=>hm x<|gN.2<|g.lt x d),e⟩
def bR.step0(s:Step [] κ κ')(h:bR TB eB τ κ b l):bR TB eB τ κ' b l:=h.step s (λ_ _=>by simp)
instance:bZ κ κ' (bR TB eB τ κ b l) (bR TB eB τ κ' b l):=⟨λs h=>h.step0 s⟩
end
def pow10s:List Int:=[1,10,100,1000,10000,100000,1000000,10000000,100000000,1000000000,10000000000,100000000000,1000000000000,10000000000000,100000000000000,1000000000000000,10000000000000000,100000000000000000,1000000000000000000,10000000000000000000]
structure Globp(tab:List Int)(gta:Nat)(κ:K):Prop where
 pow:PubAt κ gta 0 (tab.map (Value.int .u64))
 psz:0<tab.length/\∃e k,κ.shp gta=some (e,tab.length,k)
def Globp.step{tab gta M κ κ'}(s:Step M κ κ')(h:Globp tab gta κ):Globp tab gta κ':=by
 obtain⟨b,e,k,c⟩:=h.psz;have a:0<κ.fr gta:=by have:=h.pow.2.1;rw[er]at this;omega
 exact⟨h.pow.step s,⟨b,e,k,(s.2.2.2 gta h.pow.1 a).2.trans c⟩⟩
def K.frz(κ:K)(g n:Nat)(cur:Array Value)(e:TypeId):K:=⟨κ.H.setIfInBounds g (.cells cur e (0,n)),κ.fr,κ.tag⟩
def P_{κ:K}{cur:Array Value}{e:TypeId}{g n}(hg:κ.H[g]?=some (.cells cur e (0,0)))(hf:κ.fr g=0):Step [g] κ (κ.frz g n cur e):=by
 refine⟨by simp[K.frz],λx c hm=>⟨?_,rfl,rfl⟩,λx c=>⟨gv _,λo d=>?_⟩,λx c b=>⟨rfl,?_⟩⟩
 ·have:g≠x:=λe=>hm (by simp[e]);simp only[K.frz];rw[am this]
 ·by_cases a:g=x
  ·subst a;rw[hf]at d;omega
  ·unfold K.cell K.frz;simp only[am a]
 ·have a:g≠x:=λe=>by rw[←e,hf]at b;omega
  unfold K.shp K.frz;simp only[am a]
def Tw[Fb]{κ:K}{cur:Array Value}{e:TypeId}{C d g n}(hg:κ.H[g]?=some (.cells cur e (0,0)))(hn:n≠0):(W C κ d).freeze ⟨g,0,none⟩ n=W C (κ.frz g n cur e) d:=by
 have b:g<κ.H.size:=(ai.1 hg).1;unfold World.freeze W K.frz;rw[if_neg hn];simp only[];congr 1;apply Array.ext
 ·simp
 ·intro j f h;have c:j<κ.H.size:=by simpa using f
  rw[Array.getElem_modify];by_cases a:g=j
  ·subst a;have:=(ai.1 hg).2;simp[this]
  ·rw[if_neg a,Array.getElem_setIfInBounds_ne c a]
end Go.Lf
namespace Go.Lf
open Go
section
variable {α β:Type} {t:Ty α} {tW:Ty β} {e:TypeId} {S:Nat} {κ κ':K} {a:Option Addr} {c n:Nat} {l:List α} {M:List Nat} {τ:aK}
def bH{α:Type}(t:Ty α)(e:TypeId)(S:Nat)(κ:K)(a:Option Addr)(c:Nat)(l:List α):Prop:=Sl t κ a c l/\(∃N,Hm e c t.size (N,S) κ a l.length)/\c=l.length
def bH.step(s:Step M κ κ')(h:bH t e S κ a c l):bH t e S κ' a c l:=⟨h.1.step s,h.2.1.elim λN h=>⟨N,h.step s⟩,h.2.2⟩
def bH.sl(h:bH t e S κ a c l):Sl t κ a c l:=h.1
def bH.nil:bH t e S κ none 0 ([]:List α):=⟨Sl.nil _ _,⟨0,Hm.nil⟩,rfl⟩
def Gr.slW{N}(h:Gr t true (N,S) κ e a c l)(hs:0<t.size)(hc:c=l.length):bH t e S κ a c l:=⟨h.sl,⟨N,h.hm hs⟩,hc⟩
def IV{α:Type}(t:Ty α)(e:TypeId)(S:Nat):Ty (List α):=⟨1,λκ cs l=>∃a c,cs=[.slice a l.length c]/\bH t e S κ a c l,λ⟨_,_,h,_⟩=>by rw[h];rfl,λs ⟨a,c,h,hs⟩=>⟨a,c,h,hs.step s⟩,
  λ⟨_,_,h,_⟩ v hv=>by rw[h]at hv;simp at hv;subst hv;rfl⟩
def Sl.ty{t':Ty α}(hz:t'.size=t.size)(hc:∀cs x,t'.own κ cs x->t.own κ cs x)(h:Sl t' κ a c l):Sl t κ a c l:=⟨h.cap,h.most,λf=>by
  obtain⟨b,off,e,d⟩:=h.elems f;exact⟨b,off,e,λi x g=>let ⟨cs,hp,ho⟩:=d i x g;⟨cs,by rw[hz]at hp;exact hp,hc _ _ ho⟩⟩⟩
structure kY where
 T:Nat->Type
 t:∀i,Ty (T i)
 e:Nat->TypeId
 hd:∀i,T i->List (Nat×Hd)
 inj:∀i j,e i=e j->i=j
 pos:∀i,0<(t i).size
variable {F:kY} {i:Nat}
def WL(F:kY)(i:Nat)(τ:aK)(κ:K)(a:Option Addr)(n:Nat):Prop:=0<n->∃b l,a=some ⟨b,0,none⟩/\l.length=n/\Gr (F.t i) false τ κ (F.e i) a n l
def Hc(F:kY)(τ:aK)(κ:K)(y:Nat×Hd):Prop:=y.2.2.2=y.2.2.1/\y.2.2.1<=1048576/\WL F y.1 τ κ y.2.1 y.2.2.1
def WK(F:kY)(i:Nat)(τ:aK)(κ:K)(a:Option Addr)(n:Nat):Prop:=0<n->∃b l,a=some ⟨b,0,none⟩/\l.length=n/\Gr (F.t i) false τ κ (F.e i) a n l/\∀x∈l,∀y∈F.hd i x,Hc F τ κ y
def Pr(F:kY)(τ:aK)(κ κ':K):Prop:=∀i a n,(WL F i τ κ a n->WL F i τ κ' a n)/\(WK F i τ κ a n->WK F i τ κ' a n)
def Pr.refl:Pr F τ κ κ:=λ_ _ _=>⟨id,id⟩
def Pr.trans{κ''}(h:Pr F τ κ κ')(h':Pr F τ κ' κ''):Pr F τ κ κ'':=λi a n=>⟨λx=>(h' i a n).1 ((h i a n).1 x),λx=>(h' i a n).2 ((h i a n).2 x)⟩
def Cl{y}(h:∀i a n,WL F i τ κ a n->WL F i τ κ' a n)(hy:Hc F τ κ y):Hc F τ κ' y:=⟨hy.1,hy.2.1,h _ _ _ hy.2.2⟩
def Pr.step0(s:Step [] κ κ'):Pr F τ κ κ':=by
 have k:∀i a n,WL F i τ κ a n->WL F i τ κ' a n:=λi a n h e=>by
  obtain⟨b,l,d,c,f⟩:=h e;exact⟨b,l,d,c,f.step0 s⟩
 refine λi a n=>⟨k i a n,λh e=>?_⟩;obtain⟨b,l,d,c,f,g⟩:=h e;exact⟨b,l,d,c,f.step0 s,λx m y j=>Cl k<|g x m y j⟩
def WK.gr(h:WK F i τ κ a n):∃l,l.length=n/\Gr (F.t i) false τ κ (F.e i) a n l/\∀x∈l,∀y∈F.hd i x,Hc F τ κ y:=by
 by_cases e:0<n
 ·obtain⟨b,l,_,c,f,d⟩:=h e;exact⟨l,c,f,d⟩
 ·obtain rfl:n=0:=by omega
  exact⟨[],rfl,⟨by simp,.inl ⟨rfl,rfl⟩⟩,λx g=>by cases g⟩
def WL.wk(h:WL F i τ κ a n)(h0:∀x,F.hd i x=[]):WK F i τ κ a n:=λg=>by
 obtain⟨b,l,e,d,f⟩:=h g;exact⟨b,l,e,d,f,λx _ y c=>by rw[h0]at c;cases c⟩
def WK.wl(h:WK F i τ κ a n):WL F i τ κ a n:=λe=>by
 obtain⟨b,l,c,d,f,_⟩:=h e;exact⟨b,l,c,d,f⟩
def Pr.write{l':List (F.T i)}{l}(g:Gr (F.t i) false τ κ (F.e i) a n l)(s:Step (aG a n) κ κ')(g':Gr (F.t i) false τ κ' (F.e i) a n l')(hl':l'.length=n)(hh:∀x∈l',∀y∈F.hd i x,Hc F τ κ y):Pr F τ κ κ':=by
 have key:∀j a2 c (l2:List (F.T j)),Gr (F.t j) false τ κ (F.e j) a2 c l2->l2.length=c->0<c->Gr (F.t j) false τ κ' (F.e j) a2 c l2\/(j=i/\a2=a/\c=n):=by
  intro j a2 c l2 u d e;rcases u.body with⟨v,_⟩ |⟨b2,cur2,xs2,ha2,_,hH2,_,_,p,_⟩
  ·omega
  ·by_cases q:b2∈aG a n
   ·right;rcases g.body with⟨v,_⟩ |⟨b,cur,xs,ha,_,hH,_,_,k3,_⟩
    ·rw[v,pO]at q;cases q
    ·rw[ha]at q;have r:b2=b:=(ub q).1;subst r;rw[hH2]at hH;injection hH with hH
     injection hH with e1 e2 e3
     have w:=F.inj _ _ e2;subst w;refine⟨rfl,by rw[ha2,ha],?_⟩;subst e1;rw[p]at k3;exact Nat.eq_of_mul_eq_mul_right (F.pos j) k3
   ·left;refine u.step s λx f hm=>?_;rw[ha2]at f;have:=(ub f).1;subst this;exact q hm
 have k:∀j a2 c,WL F j τ κ a2 c->WL F j τ κ' a2 c:=λj a2 c h e=>by
  obtain⟨b,l2,m,d,p⟩:=h e;rcases key j a2 c l2 p d e with h |⟨rfl,rfl,rfl⟩
  ·exact⟨b,l2,m,d,h⟩
  ·exact⟨b,l',m,hl',g'⟩
 refine λj a2 c=>⟨k j a2 c,λh e=>?_⟩;obtain⟨b,l2,m,d,p,A⟩:=h e;rcases key j a2 c l2 p d e with h |⟨rfl,rfl,rfl⟩
 ·exact⟨b,l2,m,d,h,λx f y t=>Cl k<|A x f y t⟩
 ·exact⟨b,l',m,hl',g',λx f y t=>Cl k<|hh x f y t⟩
def JU{l}(g:Gr (F.t i) false τ κ (F.e i) a n l):∀b∈aG a n,b∈tk τ κ:=λb c=>gN.2 (g.lt b c)
def fG(s:Step (tk τ κ) κ κ'):∀b∈tk τ κ',b∈tk τ κ\/κ.H.size<=b:=λb d=>by
 rcases ic b κ.H.size with h | h
 ·left;have c:=gN.1 d;by_cases a:b∈tk τ κ
  ·exact a
  ·rw[(s.2.1 b h a).2.2]at c;exact gN.2 ⟨h,c.2⟩
 ·exact .inr h
def uB{κ0:K}{x:List β}(hconv:∀xs,aZ tW κ0 xs x->∃l':List (F.T i),l'.length=x.length/\aZ (F.t i) κ' xs l'/\∀z∈l',∀y∈F.hd i z,Hc F τ κ' y)(bN:(F.t i).size=tW.size)(h:bH tW (F.e i) S κ0 a c x)(s:Step [] κ0 κ)(hH:κ'.H=κ.H)(hf:∀b,b<κ0.H.size->(κ0.tag b).2=S->κ'.fr b=0/\κ'.tag b=τ/\τ.1<=b):WK F i τ κ' a x.length:=by
 obtain⟨hs,⟨N,hm⟩,G⟩:=h;intro r;obtain⟨A,b,q,t,v,_,hp⟩:=hm r;obtain⟨xs,u,C⟩:=aZ.of_sl hs;obtain⟨H,off,m,f⟩:=C r;rw[q]at m;injection m with m
 injection m with e1 e2
 subst e1;subst e2;replace f:=f.step s;obtain⟨l',e,p,B⟩:=hconv xs u;obtain⟨w,D,E⟩:=hf b t (by rw[v]);have d:κ.shp b=some (F.e i,c*tW.size,(0,0)):=by
  have:=(s.2.1 b t si).1;unfold K.shp at hp ⊢;rw[this];exact hp
 unfold K.shp at d;split at d
 ·rename_i cur T k hcur;injection d with d
  injection d with hp1 d
  injection d with hp2 hp3
  subst hp1;subst hp3;subst G;have n:=u.length;refine⟨b,l',q,e,⟨by have:=hs.most;rw[e];unfold maxLen;omega,.inr ⟨b,cur,xs,q,p,by rw[hH];exact hcur,by rw[e];omega,A,by rw[bN];exact hp2,?_,by simpa using w,D,E⟩⟩,B⟩;apply ce;intro j;rw[ec,e,bN];split
  ·rename_i hj;have g:j<xs.length:=by rw[n];exact hj
   have l:=f.2.2 j _<|dj g;unfold K.cell at l;rw[hcur]at l;simp only[ik]at l;rw[dj g,←l];simp
  ·rename_i hj;rw[dl om]
 ·cases d
end
section
variable [Fb] {P:Program} {F:kY} {i fn m:Nat} {τ:aK} {κ:K} {a:Option Addr} {n:Nat} {k B:Int}
def ul(hU:List (F.T i)->Int->Option (Int×List (F.T i)))(ok:∀{κ:K} {l:List (F.T i)} {a:Option Addr} {c:Nat} {τ:aK} {k:Int},Gr (F.t i) false τ κ (F.e i) a c l->τ.1<κ.H.size->I64 k->∀{r},hU l k=some r->Fn P fn #[.slice a l.length c,.int .i64 k] κ (λv κ'=>Step (aG a c) κ κ'/\v=.int .i64 r.1/\I64 r.1/\Gr (F.t i) false τ κ' (F.e i) a c r.2))(tot:∀l k,1<=k->k<=B->l.length<=1048576->∃l',hU l k=some (k+m*(l.length:Int),l')/\l'.length=l.length)(h0:∀x,F.hd i x=[])(hB:B<=4000000000000000)(h:WL F i τ κ a n)(ht:τ.1<κ.H.size)(hn:n<=1048576)(hk:1<=k)(hk2:k<=B):Fn P fn #[.slice a n n,.int .i64 k] κ (λv κ'=>Step (tk τ κ) κ κ'/\v=.int .i64 (k+m*(n:Int))/\Pr F τ κ κ'):=by
 obtain⟨l,e,g,_⟩:=(h.wk h0).gr;subst e;obtain⟨l',hm,b⟩:=tot l k hk hk2 hn;refine(ok g ht (show I64 k by unfold I64;omega) hm).mono λv κ' ⟨s,hv,_,g'⟩=>⟨s.mono<|JU g,hv,Pr.write g s g' b λx _ y d=>?_⟩;rw[h0]at d;cases d
end
section
variable [Fc] [Fb] {P:Program} {n:Nat} {c:Code} {i:Nat} {Q:bC} {E:aB} {κ:K} {s:List UInt8}
def GZ{d:Nat}(T1 T2:TypeId)(e:TypeId)(hl:s.length<=9223372036854775807)(hk:∀a cp κ',Step [] κ κ'->Sl tU8 κ' a cp (zz s)->aN P n c (i+1) Q (aQ E d (.slice a (zz s).length cp)) κ')(h:st c i n E (some d)=true:=by kernel_rfl)(ho:execOp (ev E) (zw c i)=aW (convert T1 T2 (zu s)):=by kernel_rfl)(h1:P.underlying T1=some .string:=by kernel_rfl)(h2:P.underlying T2=some (.slice e):=by kernel_rfl)(h3:P.underlying e=some (.int .u8):=by kernel_rfl):aN P n c i Q E κ:=by
 refine gZ (λv κ'=>∃a cp,v=.slice a (zz s).length cp/\Step [] κ κ'/\Sl tU8 κ' a cp (zz s)) h (λC t=>?_) ?_
 ·have bN:(⟨s.toArray⟩:ByteArray).size=(zz s).length:=by simp[zz,ByteArray.size]
  have g:=run_bytes_of_string (P:=P) (W C κ t) T1 T2 e ⟨s.toArray⟩ h1 h2 h3;have p:=grownCap_ge (W C κ t) (⟨s.toArray⟩:ByteArray).size 0 e;generalize hcap:grownCap (W C κ t) (⟨s.toArray⟩:ByteArray).size 0 e=cp at *;rw[bN]at g p;obtain⟨row,m⟩:∃row,row=bytesRow ⟨s.toArray⟩ cp:=⟨_,rfl⟩;rw[←m]at g;have r:∀(j:Nat)(x:Int),(zz s)[j]?=some x->row[j]?=some (Value.int .u8 x):=by
   intro j x l;rw[m];unfold bytesRow;unfold zz at l;rw[dt]at l;obtain⟨b,f,rfl⟩:=ip.1 l;have u:=(dm.1 f).1;rw[Array.getElem?_append_left (by simpa using u)];simp[f]
  refine⟨_,⟨κ.H.push<|.cells row e (row.size,row.size+1),λb=>if b=κ.H.size then row.size else κ.fr b,κ.tag⟩,t+1,by rw[ho];exact zI g,some ⟨κ.H.size,0,none⟩,cp,rfl,⟨?_,?_,?_,?_⟩,⟨p,by simpa[zz]using hl,λ_=>⟨κ.H.size,0,rfl,λj x l=>⟨[.int .u8 x],⟨?_,?_⟩,rfl,?_⟩⟩⟩⟩
  ·show κ.H.size<=(κ.H.push _).size;rw[Array.size_push];omega
  ·exact λb f _=>⟨by show(κ.H.push _)[b]?=_;rw[Array.getElem?_push_lt f,ac f],if_neg<|Nat.ne_of_lt f,rfl⟩
  ·refine λb f=>⟨Nat.le_of_eq (if_neg<|Nat.ne_of_lt f).symm,λo _=>?_⟩;unfold K.cell;show(match(κ.H.push _)[b]? with | some (.cells c _ _)=>c[o]? | _=>none)=_;rw[Array.getElem?_push_lt f,ac f];rfl
  ·refine λb f _=>⟨rfl,?_⟩;unfold K.shp;show(match(κ.H.push _)[b]? with | some (.cells c T k)=>some (T,c.size,k) | _=>none)=_;rw[Array.getElem?_push_lt f,ac f];rfl
  ·show κ.H.size<(κ.H.push _).size;rw[Array.size_push];omega
  ·have u:=(ai.1<|r j x l).1;refine⟨by show 0+j*1+1<=if κ.H.size=κ.H.size then row.size else _;rw[if_pos rfl];omega,λo v q=>?_⟩;cases o with
   | succ o=>simp at q
   | zero=>
    simp only[List.getElem?_cons_zero]at q;injection q with q
    subst q;unfold K.cell;show(match(κ.H.push<|.cells row e (row.size,row.size+1))[κ.H.size]? with | some (.cells c _ _)=>c[0+j*1+0]? | _=>none)=_;rw[Array.getElem?_push_size];simp only[ik,Nat.mul_one,Nat.add_zero];exact r j x l
  ·unfold zz at l;rw[dt]at l;obtain⟨b,_,rfl⟩:=ip.1 l;have:=b.toNat_lt;omega
 ·rintro v κ' ⟨a,cp,rfl,hs,w⟩;exact hk a cp κ' hs w
def Il{α:Type}{t:Ty α}{e:TypeId}{l:List α}{N j a cp}(h:Gr t false (N,j) κ e a cp l)(τ:aK)(hle:τ.1<=N)(hk:∀κ',Step (aG a cp) κ κ'->Gr t false τ κ' e a cp l->aN P n c i Q E κ'):aN P n c i Q E κ:=by
 obtain⟨g,s⟩:=h.retag (τ':=τ) hle;exact iN (κ':=κ.retag (aG a cp) τ) rfl<|hk _ s g
end
section
variable {α β:Type} {t:Ty α} {pub:Bool} {τ:aK} {κ κ':K} {e u:TypeId} {a:Option Addr} {c:Nat} {l:List α} {M:List Nat}
def JY(o:Option Obj):Nat:=match o with | some (.cells c _ _)=>c.size | _=>0
def K.tell(κ:K)(p:Nat->Bool):K:=⟨κ.H,λb=>bif p b then κ.fr b+JY κ.H[b]? else κ.fr b,κ.tag⟩
def K.all(κ:K):K:=κ.tell λ_=>true
def Hz(κ:K)(p:Nat->Bool):Step ((List.range κ.H.size).filter p) κ (κ.tell p):=by
 have h:∀b,p b=false->(κ.tell p).fr b=κ.fr b:=λb a=>by show(bif p b then _ else _)=_;rw[a];rfl
 refine⟨gv _,λb a c=>⟨rfl,h b ?_,rfl⟩,λb _=>⟨?_,λ_ _=>rfl⟩,λ_ _ _=>⟨rfl,rfl⟩⟩
 ·cases hp:p b with
  | false=>rfl
  | true=>exact absurd (ft.2 ⟨fz.2 a,hp⟩) c
 ·show _<=(bif p b then _ else _);cases p b with
  | false=>exact gv _
  | true=>exact Nat.le_add_right _ _
def Ib(κ:K):Step ((List.range κ.H.size).filter λ_=>true) κ κ.all:=Hz κ _
def Gr.tell{p:Nat->Bool}(h:Gr t pub τ κ e a c l)(hp:∀g∈aG a c,p g=true):Sl t (κ.tell p) a c l:=by
 rcases h.body with⟨q,m⟩ |⟨g,cur,xs,ha,hr,hH,h1,h2,h3,h4,h5,h6,h7⟩
 ·rw[q,m];exact⟨gv _,by simp,λh=>by simp at h⟩
 ·refine⟨h1,h.most,λ_=>⟨g,0,ha,λi x k=>?_⟩⟩;obtain⟨cs,f,d⟩:=(hr.step<|Hz κ p).get k;have hi:i<l.length:=(dm.1 k).1;have n:i*t.size+t.size<=c*t.size:=by rw[←ij];exact ii _ om
  refine⟨cs,⟨(ai.1 hH).1,?_,λj v b=>?_⟩,f⟩
  ·show _<=bif p g then κ.fr g+JY κ.H[g]? else κ.fr g;rw[hp g (by rw[ha];exact hE (a:=⟨g,0,none⟩) om),hH,t.len f];show _<=_+cur.size;omega
  ·rw[←d,←h4]at b;rw[ec]at b;split at b
   ·rw[dh,ec]at b;split at b
    ·unfold K.cell;show(match κ.H[g]? with | some (.cells c _ _)=>c[_]? | _=>none)=_;rw[hH];simp only[ik];rw[←an];exact b
    ·cases b
   ·cases b
def Sl.conv{t':Ty β}{L:List β}(h:Sl t κ a c l)(hl:L.length=l.length)(hz:t'.size=t.size)(hc:∀(i:Nat)(x:α)(y:β)(cs:List Value),l[i]?=some x->L[i]?=some y->t.own κ cs x->t'.own κ cs y):Sl t' κ a c L:=⟨by rw[hl];exact h.cap,by rw[hl];exact h.most,λj=>by
  obtain⟨b,off,g,f⟩:=h.elems (by rw[←hl];exact j);refine⟨b,off,g,λi y d=>?_⟩;have hi:i<l.length:=by rw[←hl];exact(dm.1 d).1
  obtain⟨cs,hp,e⟩:=f i _<|dj hi;exact⟨cs,by rw[hz];exact hp,hc i _ _ _ (dj hi) d e⟩⟩
def Ow(u:TypeId)(κ:K)(τ:aK)(h:Hd)(l:List Int):Prop:=h.2.1=l.length/\Gr tU8 false τ κ u h.1 h.2.2 l
def gU:Ty (Hd×Hd):=tPair tH tH
def tLog:Ty (List Int×List Int):=tPair (tSl tU8) (tSl tU8)
instance:cu tLog:=inferInstanceAs (cu (tPair (tSl tU8) (tSl tU8)))
def Ow.step{h l}(s:Step M κ κ')(hm:∀g∈M,κ.tag g≠τ)(o:Ow u κ τ h l):Ow u κ' τ h l:=⟨o.1,o.2.step s λg b a=>hm g a (o.2.lt g b).2.1⟩
structure Lg(u e:TypeId)(τ:aK)(κ:K)(a:Option Addr)(c:Nat)(L:List (List Int×List Int))(hs:List (Hd×Hd)):Prop where
 len:hs.length=L.length
 gr:Gr gU false τ κ e a c hs
 row:∀i h l,hs[i]?=some h->L[i]?=some l->Ow u κ (τ.1,1000000+2*i) h.1 l.1/\Ow u κ (τ.1,1000001+2*i) h.2 l.2
variable {L:List (List Int×List Int)} {hs:List (Hd×Hd)}
def Lg.nil:Lg u e τ κ none 0 [] []:=⟨rfl,Gr.nil,λi h l a=>by simp at a⟩
def Lg.step(s:Step M κ κ')(hm:∀g∈M,κ.tag g≠τ/\(κ.tag g).2<1000000)(h:Lg u e τ κ a c L hs):Lg u e τ κ' a c L hs:=⟨h.len,h.gr.step s λg j b=>(hm g b).1 (h.gr.lt g j).2.1,λi x y f d=>
    ⟨(h.row i x y f d).1.step s λg b e=>by have:=(hm g b).2;rw[e]at this;simp only at this;omega,
     (h.row i x y f d).2.step s λg b e=>by have:=(hm g b).2;rw[e]at this;simp only at this;omega⟩⟩
def Lg.step0(s:Step [] κ κ')(h:Lg u e τ κ a c L hs):Lg u e τ κ' a c L hs:=h.step s λg b=>by cases b
def iq(hs:List (Hd×Hd)):List Nat:=hs.flatMap λx=>aG x.1.1 x.1.2.2++aG x.2.1 x.2.2.2
def pV{i:Nat}{x:Hd×Hd}(h:hs[i]?=some x){g:Nat}(hg:g∈aG x.1.1 x.1.2.2\/g∈aG x.2.1 x.2.2.2):g∈iq hs:=List.mem_flatMap.2 ⟨x,fx h,fj.2 hg⟩
def Lg.rw(h:Lg u e τ κ a c L hs):∀g∈iq hs,g<κ.H.size/\(∃i,κ.tag g=(τ.1,1000000+i))/\τ.1<=g:=λg b=>by
 obtain⟨x,f,b⟩:=List.mem_flatMap.1 b;obtain⟨i,hi⟩:=du f;have d:i<L.length:=by rw[←h.len];exact(dm.1 hi).1
 obtain⟨o1,o2⟩:=h.row i x _ hi (dj d);rcases fj.1 b with b | b
 ·have:=o1.2.lt g b;exact⟨this.1,⟨_,this.2.1⟩,this.2.2⟩
 ·have:=o2.2.lt g b;exact⟨this.1,⟨1+2*i,this.2.1.trans (by rw[show 1000000+(1+2*i)=1000001+2*i by omega])⟩,this.2.2⟩
def Lg.tell{p:Nat->Bool}(h:Lg u e τ κ a c L hs)(hp:∀g,g∈aG a c\/g∈iq hs->p g=true):Sl tLog (κ.tell p) a c L:=by
 refine(h.gr.tell λg b=>hp g<|.inl b).conv h.len.symm rfl λi x y cs d l j=>?_;obtain⟨o1,o2⟩:=h.row i x y d l;obtain⟨n,c2,f,m,k⟩:=j;refine⟨n,c2,f,⟨_,_,?_,o1.2.tell λg b=>hp g<|.inr<|pV d<|.inl b⟩,⟨_,_,?_,o2.2.tell λg b=>hp g<|.inr<|pV d<|.inr b⟩⟩
 ·rw[←o1.1];exact m
 ·rw[←o2.1];exact k
def Lg.told(h:Lg u e τ κ a c L hs):∃(κ':K)(M:List Nat),κ'.H=κ.H/\κ'.tag=κ.tag/\Step M κ κ'/\(∀g∈M,τ.1<=g/\(κ.tag g=τ\/1000000<=(κ.tag g).2))/\Sl tLog κ' a c L:=by
 refine⟨κ.tell λb=>(aG a c++iq hs).contains b,_,rfl,rfl,Hz κ λb=>(aG a c++iq hs).contains b,λg d=>?_,h.tell λg d=>br.2<|fj.2 d⟩;rcases fj.1 (br.1 (ft.1 d).2)with d | d
 ·have:=h.gr.lt g d;exact⟨this.2.2,.inl this.2.1⟩
 ·obtain⟨_,⟨i,hi⟩,f⟩:=h.rw g d;exact⟨f,.inr (by rw[hi];simp)⟩
def Lg.push{a' c' x y}(h:Lg u e τ κ a c L hs)(ht:τ.2<1000000)(s:Step (aG a c) κ κ')(g:Gr gU false τ κ' e a' c' (hs++[x]))(o1:Ow u κ' (τ.1,1000000+2*L.length) x.1 y.1)(o2:Ow u κ' (τ.1,1000001+2*L.length) x.2 y.2):Lg u e τ κ' a' c' (L++[y]) (hs++[x]):=by
 refine⟨by simp[h.len],g,λi p q hp b=>?_⟩;by_cases hi:i<hs.length
 ·rw[df hi]at hp;rw[df (by rw[←h.len];exact hi)]at b;obtain⟨k,j⟩:=h.row i p q hp b;exact⟨k.step s λg f e=>by rw[(h.gr.lt g f).2.1]at e;rw[e]at ht;simp only at ht;omega,j.step s λg f e=>by rw[(h.gr.lt g f).2.1]at e;rw[e]at ht;simp only at ht;omega⟩
 ·have d:i=hs.length:=by
   have:=(dm.1 hp).1;simp at this;omega
  subst d;rw[dg<|gv _]at hp;rw[dg (by rw[h.len];exact gv _)]at b;simp[h.len]at hp b;subst hp;subst b;rw[h.len];exact⟨o1,o2⟩
def Lg.keep{q}(h:Lg u e τ κ a c L hs)(ht:τ.2<1000000)(s:Step M κ κ')(hM:∀g∈M,κ.tag g=(τ.1,1000000+q)):Gr gU false τ κ' e a c hs/\
  ∀i p r,hs[i]?=some p->L[i]?=some r->(2*i≠q->Ow u κ' (τ.1,1000000+2*i) p.1 r.1)/\(2*i+1≠q->Ow u κ' (τ.1,1000001+2*i) p.2 r.2):=by
 refine⟨h.gr.step s λg b hm=>?_,λi p r hp f=>⟨λj=>(h.row i p r hp f).1.step s λg b e=>?_,λj=>(h.row i p r hp f).2.step s λg b e=>?_⟩⟩
 ·have d:=(hM g hm).symm.trans (h.gr.lt g b).2.1;rw[←d]at ht;simp only at ht;omega
 ·have d:=congrArg Prod.snd<|(hM g b).symm.trans e;simp only at d;omega
 ·have d:=congrArg Prod.snd<|(hM g b).symm.trans e;simp only at d;omega
def ui{γ:Type}{L:List γ}{x y:γ}{i j}(h:(L.set i x)[j]?=some y)(hi:i<L.length):(j=i/\y=x)\/(j≠i/\L[j]?=some y):=by
 rw[List.getElem?_set]at h;by_cases e:i=j
 ·subst e;rw[if_pos rfl]at h;simp only[hi,if_true]at h;exact .inl ⟨rfl,(Option.some.inj h).symm⟩
 ·rw[if_neg e]at h;exact .inr ⟨λa=>e a.symm,h⟩
def Lg.w1{y:List Int×List Int}{r:List Int}{i x}(h:Lg u e τ κ a c L hs)(ht:τ.2<1000000)(hx:hs[i]?=some x)(hy:L[i]?=some y)(s:Step (aG x.1.1 x.1.2.2) κ κ')(g:Gr tU8 false (τ.1,1000000+2*i) κ' u x.1.1 x.1.2.2 r)(hl:r.length=y.1.length):Lg u e τ κ' a c (L.set i (r,y.2)) hs:=by
 obtain⟨o1,o2⟩:=h.row i x y hx hy;obtain⟨G,k⟩:=h.keep (q:=2*i) ht s λg d=>(o1.2.lt g d).2.1;refine⟨by simp[h.len],G,λj p q hp b=>?_⟩;rcases ui b (dm.1 hy).1 with⟨rfl,rfl⟩ |⟨hj,b⟩
 ·obtain rfl:=Option.some.inj<|hx.symm.trans hp;exact⟨⟨by rw[o1.1,hl],g⟩,(k _ _ _ hx hy).2 om⟩
 ·exact⟨(k _ _ _ hp b).1 om,(k _ _ _ hp b).2 om⟩
def Lg.w2{y:List Int×List Int}{r:List Int}{i x}(h:Lg u e τ κ a c L hs)(ht:τ.2<1000000)(hx:hs[i]?=some x)(hy:L[i]?=some y)(s:Step (aG x.2.1 x.2.2.2) κ κ')(g:Gr tU8 false (τ.1,1000001+2*i) κ' u x.2.1 x.2.2.2 r)(hl:r.length=y.2.length):Lg u e τ κ' a c (L.set i (y.1,r)) hs:=by
 obtain⟨o1,o2⟩:=h.row i x y hx hy;obtain⟨G,k⟩:=h.keep (q:=2*i+1) ht s λg d=>by rw[(o2.2.lt g d).2.1,show 1000000+(2*i+1)=1000001+2*i by omega]
 refine⟨by simp[h.len],G,λj p q hp b=>?_⟩;rcases ui b (dm.1 hy).1 with⟨rfl,rfl⟩ |⟨hj,b⟩
 ·obtain rfl:=Option.some.inj<|hx.symm.trans hp;exact⟨(k _ _ _ hx hy).1 om,⟨by rw[o2.1,hl],g⟩⟩
 ·exact⟨(k _ _ _ hp b).1 om,(k _ _ _ hp b).2 om⟩
def Lg.put{r:List Int}{κ2 i x y a2 c2}(h:Lg u e τ κ a c L hs)(ht:τ.2<1000000)(hx:hs[i]?=some x)(hy:L[i]?=some y)(s:Step (aG x.2.1 x.2.2.2) κ κ')(g:Gr tU8 false (τ.1,1000001+2*i) κ' u a2 c2 r)(s2:Step (aG a c) κ' κ2)(G2:Gr gU false τ κ2 e a c (hs.set i (x.1,(a2,r.length,c2)))):Lg u e τ κ2 a c (L.set i (y.1,r)) (hs.set i (x.1,(a2,r.length,c2))):=by
 obtain⟨o1,o2⟩:=h.row i x y hx hy;obtain⟨G,k⟩:=h.keep (q:=2*i+1) ht s λg f=>by rw[(o2.2.lt g f).2.1,show 1000000+(2*i+1)=1000001+2*i by omega]
 have ne:∀q,∀g∈aG a c,κ'.tag g≠(τ.1,1000000+q):=λq g f e=>by
  rw[(G.lt g f).2.1]at e;rw[e]at ht;simp only at ht;omega
 have d:∀q,∀g∈aG a c,κ'.tag g≠(τ.1,1000001+q):=λq g f e=>by
  rw[(G.lt g f).2.1]at e;rw[e]at ht;simp only at ht;omega
 refine⟨by simp[h.len],G2,λj p q hp l=>?_⟩;rcases ui l (dm.1 hy).1 with⟨rfl,rfl⟩ |⟨hj,l⟩
 ·rcases ui hp (dm.1 hx).1 with⟨_,rfl⟩ |⟨hj,_⟩
  ·exact⟨((k _ _ _ hx hy).1 om).step s2<|ne _,⟨rfl,g.step s2 λb m hm=>d _ b hm (g.lt b m).2.1⟩⟩
  ·exact absurd rfl hj
 ·rcases ui hp (dm.1 hx).1 with⟨e,_⟩ |⟨_,hp⟩
  ·exact absurd e hj
  ·exact⟨((k _ _ _ hp l).1 om).step s2<|ne _,((k _ _ _ hp l).2 om).step s2<|d _⟩
def Lg.at{i y}(h:Lg u e τ κ a c L hs)(hy:L[i]?=some y):∃x,hs[i]?=some x/\Ow u κ (τ.1,1000000+2*i) x.1 y.1/\Ow u κ (τ.1,1000001+2*i) x.2 y.2:=have hi:i<hs.length:=by rw[h.len];exact(dm.1 hy).1
 ⟨_,dj hi,h.row i _ y (dj hi) hy⟩
def bK(u e:TypeId)(τ:aK)(κ:K)(a:Option Addr)(c:Nat)(L:List (List Int×List Int)):Prop:=∃hs,Lg u e τ κ a c L hs
def bK.nil:bK u e τ κ none 0 []:=⟨_,Lg.nil⟩
def bK.step(s:Step M κ κ')(hm:∀g∈M,κ.tag g≠τ/\(κ.tag g).2<1000000)(h:bK u e τ κ a c L):bK u e τ κ' a c L:=h.elim λ_ h=>⟨_,h.step s hm⟩
def bK.step0(s:Step [] κ κ')(h:bK u e τ κ a c L):bK u e τ κ' a c L:=h.elim λ_ h=>⟨_,h.step0 s⟩
instance:bZ κ κ' (bK u e τ κ a c L) (bK u e τ κ' a c L):=⟨λs h=>h.step0 s⟩
instance:bZ κ κ' (Lg u e τ κ a c L hs) (Lg u e τ κ' a c L hs):=⟨λs h=>h.step0 s⟩
def bK.nb{T:TypeId}{τ' b cs}(_:bK u e τ κ a c L)(B:aI τ' κ b cs T)(hn:τ≠τ')(h2:Nat.blt τ'.2 1000000=true:=by kernel_rfl):∀g∈[b],κ.tag g≠τ/\(κ.tag g).2<1000000:=λg d=>by
 obtain rfl:=ga.1 d;rw[B.tag];exact⟨hn.symm,gu h2⟩
def bK.ng{β:Type}{t':Ty β}{e':TypeId}{l':List β}{p' τ' a' c'}(_:bK u e τ κ a c L)(G:Gr t' p' τ' κ e' a' c' l')(hn:τ≠τ')(h2:Nat.blt τ'.2 1000000=true:=by kernel_rfl):
  ∀g∈aG a' c',κ.tag g≠τ/\(κ.tag g).2<1000000:=λg b=>by
 rw[(G.lt g b).2.1];exact⟨hn.symm,gu h2⟩
def bK.bn{T:TypeId}{τ' b cs}(h:bK u e τ κ a c L)(B:aI τ' κ b cs T)(hn:τ'≠τ):b∉aG a c:=h.elim λ_ h=>h.gr.bn B hn
def bK.own{κ0:K}(h:bK u e τ κ a c L)(h0:κ0.H.size<=τ.1):∀b∈aG a c,κ0.H.size<=b:=h.elim λ_ h=>h.gr.own h0
def bK.all(h:bK u e τ κ a c L):Sl tLog κ.all a c L:=h.elim λ_ h=>h.tell λ_ _=>rfl
def Gr.z{τ}:Gr t pub τ κ e a 0 ([]:List α):=⟨by simp,.inl ⟨rfl,rfl⟩⟩
def bK.take2{τ1 τ2 a1 a2 c1 c2 l1 l2}(h:bK u e τ κ a c L)(g1:Gr tU8 false τ1 κ u a1 c1 l1)(g2:Gr tU8 false τ2 κ u a2 c2 l2)(dis:∀g∈aG a2 c2,g∉aG a1 c1)(e1:τ.1<=τ1.1)(e2:τ.1<=τ2.1)(n1:τ≠τ1)(n2:τ≠τ2)(k1:Nat.blt τ1.2 1000000=true:=by kernel_rfl)(k2:Nat.blt τ2.2 1000000=true:=by kernel_rfl)(ht:Nat.blt τ.2 1000000=true:=by kernel_rfl):
  ∃κ',κ'.H=κ.H/\Step (aG a1 c1++aG a2 c2) κ κ'/\bK u e τ κ' a c L/\Gr tU8 false (τ.1,1000000+2*L.length) κ' u a1 c1 l1/\Gr tU8 false (τ.1,1000001+2*L.length) κ' u a2 c2 l2:=by
 obtain⟨n,i⟩:=g1.retag (τ':=(τ.1,1000000+2*L.length)) e1;have l:=h.step i<|h.ng g1 n1 k1;have d:=g2.step i dis;obtain⟨m,f⟩:=d.retag (τ':=(τ.1,1000001+2*L.length)) e2;refine⟨(κ.retag (aG a1 c1) (τ.1,1000000+2*L.length)).retag (aG a2 c2) (τ.1,1000001+2*L.length),rfl,(i.mono λb j=>fp _ j).trans<|f.mono λb j=>List.mem_append_right _ j,l.step f<|l.ng d n2 k2,n.step f λg p k=>dis g k p,m⟩
def NA[Fc][Fb]{l1 l2:List Int}{r:List (List Int×List Int)}{P n c0 i Q E d bytes T a1 a2 a3 c1 c2 cp}(h:st c0 i n E (some d)=true)(ho:execOp (ev E) (zw c0 i)=aW (Builtin.append_ #[T,T] 0 #[.slice a L.length cp,.slice a3 1 1]))(f:bK u e τ κ a cp L)(g1:Gr tU8 false (τ.1,1000000+2*L.length) κ u a1 c1 l1)(g2:Gr tU8 false (τ.1,1000001+2*L.length) κ u a2 c2 l2)(lit:Sl gU κ a3 1 [((a1,l1.length,c1),(a2,l2.length,c2))])(hτ:τ.1<=κ.H.size)(c:Nat.blt τ.2 1000000=true)(hT:gC P T=some (e,2,2,bytes))(hx:aU bytes L [(l1,l2)]=some r)(hk:∀a' c' κ',Step (aG a cp) κ κ'->bK u e τ κ' a' c' r->aN P n c0 (i+1) Q (aQ E d (.slice a' r.length c')) κ'):aN P n c0 i Q E κ:=by
 obtain⟨hs,F⟩:=f;obtain⟨p,v,rfl⟩:=kJ hx;have j:aU bytes hs [((a1,l1.length,c1),(a2,l2.length,c2))]=some (hs++[((a1,l1.length,c1),(a2,l2.length,c2))]):=by
  unfold aU;rw[F.len];simp only[fc]at p v ⊢;rw[if_pos ⟨p,v⟩]
 refine pG (t:=gU) (pub:=false) (τ:=τ) (a2:=a3) (c2:=1) (l:=hs) (l2:=[((a1,l1.length,c1),(a2,l2.length,c2))]) h (by rw[F.len];exact ho) F.gr lit hτ hT j λa' c' κ' s g _=>?_;have q:=F.push (y:=(l1,l2)) (gu c) s g
  ⟨rfl,g1.step s λb m hm=>by have k:=(g1.lt b m).2.1.symm.trans (F.gr.lt b hm).2.1;have c:=gu c;rw[←k]at c;simp only at c;omega⟩
  ⟨rfl,g2.step s λb m hm=>by have k:=(g2.lt b m).2.1.symm.trans (F.gr.lt b hm).2.1;have c:=gu c;rw[←k]at c;simp only at c;omega⟩
 have:=hk a' c' κ' s ⟨_,q⟩;rw[ef,fc]at this ⊢;rw[F.len];exact this
end
def Kh(c:Code)(n k l:Nat):Bool:=decide (k+1<(opsOf c).size)&&Nat.blt l k&&Cq c&&Cj c n k&&((List.range k).all λj=>Nat.beq j l||cQ c k j)&&cQ c (k+1) k&&cQ c (k+1) l &&
 ((List.range (opsOf c).size).all λt=>!Nat.blt (k+1) t||cQ c t (t - 1))&&((zw c k).dst == none)&&((zw c k).guard == none)&&((zw c l).guard == none) &&
 Region.seqB .any (opsOf c) ((opsOf c).size - (k+1)) (k+1) (gO (k+1) (opsOf c).size)
def Cb{a b}(h:a<b):Nat.blt a b=true:=by simpa[Nat.blt,ia]using h
section
variable [Fc] [Fb] {P:Program} {n:Nat} {Q:bC} {E:aB} {κ:K}
def O'{c0 p}k l ds(Ss:List (Value->K->Prop))(h:eD (sub c0 p)=some true)(hm:P.follows .mixedOrders=true)(hB:Kh (sub c0 p) n k l=true)(hds:Jz (sub c0 p) k ds=true)(mono:∀i,i<k->∀v κ1 κ2,Step [] κ1 κ2->gQ Ss i v κ1->gQ Ss i v κ2)(hop:∀i,i<k->∀u κ',Step [] κ κ'->(∀t,lR k ds t=true->u t=E t)->
   (∀j,Nat.blt j k=true->cQ (sub c0 p) i j=true->gQ Ss j (u (iC ds j)) κ')->bA P (Step []) (sub c0 p) i u κ' (gQ Ss i))(fin:∀u κ',Step [] κ κ'->(∀t,lR k ds t=true->u t=E t)->(∀j,Nat.blt j k=true->Nat.beq j l=false->gQ Ss j (u (iC ds j)) κ')->
   ∃κ2 v,(∀C d,(execOp (ev u) (zw (sub c0 p) k)).run P (W C κ' d)=.ok .skip (W C κ2 d))/\
    (∀w,(execOp (ev u) (zw (sub c0 p) l)).run P w=.ok (.value v) w)/\(∀v' κ',gQ Ss l v' κ'->v'=v)/\aN P n (sub c0 p) (k+1) Q (aQ u (iC ds l) v) κ2):aO P n (sub c0 p) Q E κ:=by
 have hd:∀j,j<k->dstOf (sub c0 p) j=iC ds j:=λj b=>gt<|bj.1 hds j<|fz.2 b;have ho:∀t,(∀j,j<k->t≠dstOf (sub c0 p) j)↔lR k ds t=true:=λt=>by
  unfold lR;rw[bj];constructor
  ·intro h j b;have b:=fz.1 b;have:=h j b;rw[hd j b]at this;cases U:Nat.beq t (iC ds j)with
   | false=>rfl
   | true=>exact absurd (gt U) this
  ·intro h j b e;have:=h j<|fz.2 b;rw[hd j b]at e;rw[←e]at this;simp at this
 generalize sub c0 p=s at *;unfold Kh at hB;simp only[av,decide_eq_true_eq,beq_iff_eq]at hB;obtain⟨⟨⟨⟨⟨⟨⟨⟨⟨⟨⟨hk,I⟩,N⟩,c5⟩,g3⟩,e5⟩,f2⟩,b6⟩,hkd⟩,e9⟩,f7⟩,e3⟩:=hB;have I:l<k:=by simpa[Nat.blt,ia]using I
 have H:∀i,i<k->(zw s i).dst=some (dstOf s i)/\dstOf s i<n/\∀j,j<i->dstOf s j≠dstOf s i:=by
  intro i hi;have D:=bj.1 c5 i<|fz.2 hi;simp only[av,beq_iff_eq,decide_eq_true_eq]at D;refine⟨D.1.1,D.1.2,λj b=>?_⟩;have:=bj.1 D.2 j<|fz.2 b;simpa using this
 have c2:∀i j,i<k->j<k->i≠j->dstOf s i≠dstOf s j:=by
  intro i j hi b f5;rcases ie f5 with h | h
  ·exact(H j b).2.2 i h
  ·exact((H i hi).2.2 j h).symm
 cases s<;>simp[eD]at h;rename_i id ops dr;subst h;simp only[opsOf]at *;generalize hs:Code.region id ops true=s at *;have O:opsOf s=ops:=by rw[←hs];rfl
 have get:∀i,i<ops.size->ops[i]?=some (zw s i):=λi hi=>by have:=jR (c:=s) (i:=i) (by rw[O];exact hi);rwa [O]at this
 have uw:∀{listed:Array Bool} {i:Nat},i∈Region.ready .any ops listed->i<ops.size/\listed.getD i false=false/\∀j,cQ s i j=true->listed.getD j false=true:=by
  intro listed i hi;obtain⟨g4,oi,d6,g⟩:=mem_ready.1 hi;have a4:i<ops.size:=(ai.1 d6).1;refine⟨a4,getD_both g4,λj b=>?_⟩;unfold cQ at b;rw[show zw s i=oi from Option.some.inj<|(get i a4).symm.trans d6]at b;obtain⟨e,he,U⟩:=Array.any_eq_true'.1 b;simp only[av,beq_iff_eq]at U;rw[←U.2];exact g e he U.1
 have b8:∀{listed:Array Bool} {i:Nat},i<ops.size->listed.size=ops.size->listed.getD i false=false->(∀j,cQ s i j=true->listed.getD j false=true)->i∈Region.ready .any ops listed:=by
  intro listed i hi G hl b;refine mem_ready.2 ⟨getD_in (by rw[G];exact hi) hl,zw s i,get i hi,λe he U=>b _ ?_⟩;unfold cQ;exact Array.any_eq_true'.2 ⟨e,he,by simp[U]⟩
 have S:∀i j,i<ops.size->cQ s i j=true->j<i:=by
  intro i j hi b;unfold cQ at b;obtain⟨e,he,U⟩:=Array.any_eq_true'.1 b;simp only[av,beq_iff_eq]at U;unfold Cq at N;rw[O]at N;have D:=bj.1 N i<|fz.2 hi;have R:=(Array.all_eq_true_iff_forall_mem.1 D) e he;rw[U.1]at R;simp at R;omega
 have a5:∀E2 κ2 C d (a:Act),Fits n a E2->aN P n s (k+1) Q E2 κ2->wpAnyIn FF 0 P .any ops (dZ n C Q) (ops.size - (k+1)) (gO (k+1) ops.size) a (W C κ2 d):=by
  intro E2 κ2 C d a L a3;have a3:=a3 C d a L;rw[O]at a3;have he:=wpOpsIn_eq_wpListIn (F:=FF) (n:=0) (P:=P) (ops:=ops) (Q:=dZ n C Q) (ops.toList.drop (k+1)) (k+1) (λj=>by simp[dh]);have hlen:(ops.toList.drop (k+1)).length=ops.size - (k+1):=by simp
  rw[hlen]at he;have hl:=yq (F:=FF) (n:=0) (P:=P) (md:=.any) (ops:=ops) (Q':=dZ n C Q) (ops.toList.drop (k+1)) (k+1) (gO (k+1) ops.size) a (W C κ2 d)
   (λj=>by simp[dh]) (by rw[hlen];simpa using e3) (by rw[←he];exact a3)
  rw[hlen]at hl;exact hl
 have a6:∀{listed:Array Bool},listed.size=ops.size->(∀j,j<k+1->listed.getD j false=true)->(∀t,k+1<=t->t<ops.size->listed.getD t true=false)->listed=gO (k+1) ops.size:=by
  intro listed G D R;apply Array.ext
  ·simp[gO];exact G
  ·intro i hi g9;simp only[gO,Array.getElem_map,Array.getElem_range];by_cases B:i<k+1
   ·have:=D i B;simp[hi]at this;rw[this];simp[B]
   ·have:=R i om (by rw[←G];exact hi);simp[hi]at this;rw[this,decide_eq_false B]
 have a0:∀(u:aB) κ' κ2 (C:Cx) d (a:Act) (K':Act->World->Prop),Fits n a u->(∀C d,(execOp (ev u)<|zw s k).run P (W C κ' d)=.ok .skip (W C κ2 d))->K' a (W C κ2 d)->wpOpIn FF 0 P ops (dZ n C Q) k K' a (W C κ' d):=by
  intro u κ' κ2 C d a K' L hr hK;unfold wpOpIn;rw[get k om];simp only[];have hw:=jP L s k;rw[O]at hw;rw[hw,show cD s k u=true by unfold cD;rw[e9],if_pos rfl];refine HP (by rw[L.eval];exact hr C d) ?_;rw[hkd];exact hK
 have d8:∀m listed u κ' C d (a:Act),Fits n a u->listed.size=ops.size->(∀t,k<=t->t<ops.size->listed.getD t true=false)->(∀i j,i<k->listed.getD i false=true->cQ s i j=true->listed.getD j false=true)->
   Step [] κ κ'->(∀t,lR k ds t=true->u t=E t)->(∀j,j<k->listed.getD j false=true->gQ Ss j (u<|iC ds j) κ')->fC listed k=m->
   wpAnyIn FF 0 P .any ops (dZ n C Q) (m+(ops.size - k)) listed a (W C κ' d):=by
  intro m
  induction m with
  | zero=>
   intro listed u κ' C d a L G ht _ X J A hu;have g:=HR hu;obtain⟨κ2,v,D,R,h3,h4⟩:=fin u κ' X J (λj b _=>A j (by simpa[Nat.blt,ia]using b)<|g j (by simpa[Nat.blt,ia]using b));have f4:aQ u (iC ds l) v=u:=(ON<|h3 _ _<|A l I<|g l I).symm;rw[f4]at h4;rw[show 0+(ops.size - k)=(ops.size - (k+1))+1 by omega];have c3:k∈Region.ready .any ops listed:=b8 om G (getD_both<|ht k (gv _) om) λj b=>g j<|S k j om b;refine⟨λh0=>(by rw[h0]at c3;cases c3),λi hi=>?_⟩;obtain⟨r1,r2,r3⟩:=uw hi;have B:i=k:=by
    rcases ig i k with h | h | h
    ·rw[g i h]at r2;cases r2
    ·exact h
    ·have:cQ s i (i - 1)=true:=by
      by_cases e:i=k+1
      ·subst e;exact e5
      ·have:=bj.1 b6 i<|fz.2 r1
       rwa [Cb (by omega:k+1<i)]at this
     have D:=r3 _ this;rw[getD_both<|ht (i - 1) om om]at D;cases D
   subst B;refine a0 u κ' κ2 C d a _ L D ?_;have b1:=a6 (listed:=listed.setIfInBounds i true) (by simp[G]) (λj b=>by
    by_cases e:j=i
    ·subst e;simp[G,r1]
    ·exact getD_set_true<|g j om) (λt D R=>by rw[getD_set_ne true om];exact ht t om R)
   rw[b1];exact a5 u κ2 C d a L h4
  | succ m ih=>
   intro listed u κ' C d a L G ht g5 X J A hu;obtain⟨i0,e1,T,c1⟩:=Iu hu;have M:i0∈Region.ready .any ops listed:=b8 om G T λj b=>c1 j<|S i0 j om b;rw[show m+1+(ops.size - k)=(m+(ops.size - k))+1 by omega];refine⟨λh0=>(by rw[h0]at M;cases M),λi hi=>?_⟩;obtain⟨r1,r2,r3⟩:=uw hi;have B:i<=k:=by
    rcases ic k i with h | h
    ·have:cQ s i (i - 1)=true:=by
      by_cases e:i=k+1
      ·subst e;exact e5
      ·have:=bj.1 b6 i<|fz.2 r1
       rwa [Cb (by omega:k+1<i)]at this
     have D:=r3 _ this;rw[getD_both<|ht (i - 1) om om]at D;cases D
    ·exact h
   by_cases f3:i=k
   ·
    subst f3;have g:∀j,j<i->j≠l->listed.getD j false=true:=λj b f0=>by
     have:=bj.1 g3 j<|fz.2 b;rcases Bool.or_eq_true_iff.1 this with h | h
     ·exact absurd (gt h) f0
     ·exact r3 j h
    have e4:listed.getD l false=false:=by
     rcases ig i0 l with h | h | h
     ·rw[g i0 e1 om]at T;cases T
     ·rw[←h];exact T
     ·rw[g i0 e1 om]at T;cases T
    have f6:m=0:=by
     have D:=Bs (k:=i) (i:=l) (listed:=listed) I (by rw[G];omega) e4;have R:fC (listed.setIfInBounds l true) i=0:=by
      unfold fC;rw[List.length_eq_zero_iff,List.filter_eq_nil_iff];intro j b;have b:=fz.1 b;by_cases e:j=l
      ·subst e;simp[G,show j<ops.size by omega]
      ·simp[getD_set_true<|g j b e]
     omega
    subst f6;obtain⟨κ2,v,D,R,h3,h4⟩:=fin u κ' X J (λj b U=>A j (by simpa[Nat.blt,ia]using b) (g j (by simpa[Nat.blt,ia]using b) λe=>by rw[e]at U;simp at U));refine a0 u κ' κ2 C d a _ L D ?_;rw[show 0+(ops.size - i)=(ops.size - (i+1))+1 by omega];have f9:(listed.setIfInBounds i true).size=ops.size:=by simp[G]
    have d9:(listed.setIfInBounds i true).getD l false=false:=by rw[getD_set_ne false om];exact e4
    have c7:l∈Region.ready .any ops (listed.setIfInBounds i true):=b8 om f9 d9 λj b=>getD_set_true<|g j (by have:=S l j om b;omega) (by have:=S l j om b;omega);refine⟨λh0=>(by rw[h0]at c7;cases c7),λq hq=>?_⟩;obtain⟨q1,q2,q3⟩:=uw hq;have g2:q=l:=by
     rcases ig q i with h | h | h
     ·exact Classical.byContradiction λe=>by rw[getD_set_true<|g q h e]at q2;cases q2
     ·subst h;simp[G,r1]at q2
     ·by_cases e:q=i+1
      ·subst e;have:=q3 l f2;rw[d9]at this;cases this
      ·have:=bj.1 b6 q<|fz.2 q1;rw[Cb (by omega:i+1<q)]at this;have:=q3 (q - 1) (by simpa using this);rw[getD_set_ne false om,getD_both<|ht (q - 1) om om]at this;cases this
    subst g2;obtain⟨b4,b2,_⟩:=H q I;unfold wpOpIn;rw[get q om];simp only[];have hw:=jP L s q;rw[O]at hw;rw[hw,show cD s q u=true by unfold cD;rw[f7],if_pos rfl];refine kG (by rw[L.eval];exact R _) ?_;rw[b4,hd q I];have b1:=a6 (listed:=(listed.setIfInBounds i true).setIfInBounds q true) (by simp[G]) (λj b=>by
     by_cases e:j=q
     ·subst e;simp[G,show j<ops.size by omega]
     ·by_cases e2:j=i
      ·subst e2;exact getD_set_true (by simp[G,r1])
      ·exact getD_set_true<|getD_set_true<|g j om e) (λt D R=>by rw[getD_set_ne true om,getD_set_ne true om];exact ht t om R)
    rw[b1];exact a5 _ κ2 C d _ (L.put (by rw[←hd q I];exact b2) v) h4
   ·have B:i<k:=by omega
    obtain⟨b4,b2,g8⟩:=H i B;have a9:=hop i B u κ' X J (λj b d5=>A j (by simpa[Nat.blt,ia]using b)<|r3 j d5);have V:∀v κ2 d2,Step [] κ' κ2->gQ Ss i v κ2->wpAnyIn FF 0 P .any ops (dZ n C Q) (m+(ops.size - k)) (listed.setIfInBounds i true) (a.put (zw s i).dst v) (W C κ2 d2):=by
     intro v κ2 d2 c6 hS;rw[b4];refine ih _ (aQ u (dstOf s i) v) κ2 C d2 _ (L.put b2 v) (by simp[G]) (λt D R=>by rw[getD_set_ne true om];exact ht t D R) (λx y hx c9 d7=>?_) (X.trans c6) (λt c4=>?_) (λj b d4=>?_) ?_
     ·by_cases e:x=i
      ·subst e;exact getD_set_true<|r3 y d7
      ·rw[getD_set_ne false<|Ne.symm e]at c9;exact getD_set_true<|g5 x y hx c9 d7
     ·rw[jv,if_neg<|(ho t).2 c4 i B];exact J t c4
     ·by_cases b3:j=i
      ·subst b3;rw[jv,if_pos (hd j b).symm];exact hS
      ·rw[jv,if_neg (by rw[←hd j b];exact c2 j i b B b3)];rw[getD_set_ne false<|Ne.symm b3]at d4;exact mono j b _ κ' κ2 c6<|A j b d4
     ·have:=Bs B (by rw[G];omega) r2;omega
    unfold wpOpIn;rw[get i r1];simp only[];have Y:=jP L s i;rw[O]at Y;rw[Y];cases hw:cD s i u with
    | false=>
     rw[if_neg si];exact⟨λ_ _=>trivial,V undef κ' d (Step.refl _ _)<|a9.2 hw⟩
    | true=>
     rw[if_pos rfl];have hq:=a9.1 hw C d;rw[←L.eval]at hq;generalize hrr:(execOp a.eval<|zw s i).run P (W C κ' d)=r at *;cases r with
     | halt x w'=>exact hq.elim
     | ok nx w'=>
      cases nx with
      | value v=>
       obtain⟨κ2,d2,rfl,Z,hS⟩:=hq;exact kG hrr<|V v κ2 d2 Z hS
      | enter f args=>
       obtain⟨κ2,d2,rfl,Z,g0⟩:=hq;refine AN hrr ?_;refine(g0 C d2).mono ?_;rintro e w2 ⟨v,κ3,d3,rfl,rfl,c8,hS⟩;exact V v κ3 d3 (Z.trans c8) hS
      | _=>exact hq.elim
 intro C d a L;rw[←hs];refine wpIn_region_any hm ?_;have hu:fC (Array.replicate ops.size false) k=k:=by
  unfold fC;rw[cn.2 (λi _=>by rw[getD_replicate_false];rfl)];simp
 have hm':=d8 k (Array.replicate ops.size false) E κ C (d+1) a L si (λt _ ht=>getD_in (by simpa using ht)<|getD_replicate_false _ _) (λi j _ hl=>by rw[getD_replicate_false]at hl;cases hl) (Step.refl _ _) (λ_ _=>rfl)
  (λj _ hl=>by rw[getD_replicate_false]at hl;cases hl) hu
 rw[show k+(ops.size - k)=ops.size by omega]at hm';exact hm'
end
end Go.Lf
