import Derived.Test.YtiobnnnacoginaaGreatDoorA
import Derived.Conc.SmallLaws
import Derived.Lib.SliceRun
import Derived.Sort.Row
import Derived.RangeFuncSeq
import Derived.RangeFuncLeaves
import Derived.Laws.Append
import Derived.Maps.RangeRun
import Derived.Shelf.SlSortCmp.WholeK
import Derived.Shelf.SlSortCmp.NoneTotal
import Derived.Lib.UnsafeStr
import Derived.Laws.IdiomStrings
set_option linter.all false
set_option maxRecDepth 100000
set_option maxHeartbeats 1000000
namespace Go.Lf
open Go
section
variable {P:Program} {α:Type} {t:Ty α} {κ:K} {e T:TypeId} {a:Option Addr} {cp:Nat} {l r:List α} {τ:Tag} {pub:Bool}
def Rep.take:∀{l:List α} {xs:List Value} (i:Nat),Rep t κ xs l->Rep t κ (xs.take (i*t.size)) (l.take i)
 |[],xs,i,h=>by
  have:xs=[]:=h;subst this;simp[Rep]
 | x::l,xs,0,h=>by simp[Rep]
 | x::l,xs,i+1,⟨c,xs',e,ho,hr⟩=>by
  subst e;rw[List.take_succ_cons];refine⟨c,xs'.take (i*t.size),?_,ho,hr.take i⟩;have a:=t.len ho;rw[List.take_append,gg (by rw[a,gi];omega)];congr 1;rw[a,gi];congr 1;omega
def Gr.cap(h:Gr t pub τ κ e a cp l):l.length<=cp:=by
 rcases h.body with⟨_,b⟩ |⟨g,cur,xs,ha,hr,hH,h1,_⟩
 ·rw[b];simp
 ·exact h1
def Gr.take(h:Gr t false τ κ e a cp l)(i:Nat):Gr t false τ κ e a cp (l.take i):=by
 refine⟨gm (by rw[ey];exact Nat.min_le_right _ _) h.most,?_⟩;rcases h.body with⟨b,c⟩ |⟨g,cur,xs,ha,hr,hH,h1,h2,h3,h4,h5,h6,h7⟩
 ·exact .inl ⟨b,by rw[c];simp⟩
 ·refine .inr ⟨g,cur,xs.take (i*t.size),ha,hr.take i,hH,by rw[ey];exact gm (Nat.min_le_right _ _) h1,h2,h3,?_,h5,h6,h7⟩;rw[←h4,List.take_take,ey];congr 1;rcases Nat.le_total i l.length with hi | hi
  ·rw[Nat.min_eq_left hi,Nat.min_eq_left (gy _ hi)]
  ·rw[Nat.min_eq_right hi,Nat.min_eq_right (gy _ hi)]
def zkK{lo hi:Option Int}(hT:zJ P T=some e)(hs:zM P e=some t.size)(c:l.length<=cp)(hx:zlK l (lo.getD 0) (hi.getD l.length)=some r)(w:World):
  (Instr.sliceAt T (.slice a l.length cp) (zpY lo) (zpY hi) none).run P w=.ok (.slice (if cp=(lo.getD 0).toNat then a else a.map (·.add ((lo.getD 0).toNat*t.size))) r.length (cp - (lo.getD 0).toNat)) w:=by
 have b:=zgG hT;obtain⟨k,j,h,f⟩:=zob hx;have m:=c;have hlen:r.length=(hi.getD l.length).toNat - (lo.getD 0).toNat:=by
  rw[f,ec,ey];omega
 have c:(hi.getD l.length).toNat<=cp:=by omega
 unfold Instr.sliceAt Instr.slice Instr.sliceBounds;rw[hlen];cases lo with
 | none=>
  cases hi with
  | none=>simp[zG b,zpY,za3 hs]
  | some hv=>
   simp only[ie,Option.getD_none]at *;have d:0<=hv/\hv<=(cp:Int):=by omega
   simp[zG b,zpY,za3 hs,Instr.sliceBound,asIntOf,d]
 | some lv=>
  cases hi with
  | none=>
   simp only[ie,Option.getD_none]at *;have d:0<=lv/\lv<=(l.length:Int):=by omega
   simp[zG b,zpY,za3 hs,Instr.sliceBound,asIntOf,d]
  | some hv=>
   simp only[ie]at *;have d:0<=hv/\hv<=(cp:Int):=by omega
   have g:0<=lv/\lv<=(hv.toNat:Int):=by omega
   simp[zG b,zpY,za3 hs,Instr.sliceBound,asIntOf,d,g];intro i;omega
def add_zero(a:Option Addr)(c:Nat):(if c=0 then a else a.map (·.add 0))=a:=by
 split
 ·rfl
 ·cases a with
  | none=>rfl
  | some x=>cases x with
   | mk b o r=>
    cases r with
    | none=>rfl
    | some q=>rfl
def clr{α:Type}(l:List α)(lo:Int)(z:α):Option (List α):=
 if 0<=lo/\lo<=l.length then some (l.take lo.toNat++List.replicate (l.length - lo.toNat) z)else none
def zu1{lo:Int}{z:α}(h:clr l lo z=some r):0<=lo/\lo<=l.length/\r=l.take lo.toNat++List.replicate (l.length - lo.toNat) z:=by
 unfold clr at h;split at h
 ·rename_i h0;exact⟨h0.1,h0.2,(Option.some.inj h).symm⟩
 ·cases h
def zB2{ty:TypeId}{zs:List Value}{z:α}{lo:Int}(hT:zJ P T=some e)(hz:(zfc P e).map Value.cells=some zs.toArray)(hzo:t.own κ zs z)(h:Gr t false τ κ e a cp l)(E:clr l lo z=some r)[Fb](C:Cx)(d:Nat):
  ∃κ',(Builtin.clear_ #[T] ty #[.slice (if cp=lo.toNat then a else a.map (·.add (lo.toNat*t.size))) (l.length - lo.toNat) (cp - lo.toNat)]).run P (W C κ d)=.ok (.tuple #[]) (W C κ' d)/\Step (blk a cp) κ κ'/\Gr t false τ κ' e a cp r:=by
 obtain⟨N,O,rfl⟩:=zu1 E;have s:=zgG hT;by_cases v:l.length - lo.toNat=0
 ·refine⟨κ,?_,Step.refl _ _,?_⟩
  ·rw[v];generalize (if cp=lo.toNat then a else a.map (·.add (lo.toNat*t.size)))=aa;cases aa<;>simp[Builtin.clear_,zG s]
  ·rw[v];have:l.take lo.toNat=l:=gg om;rw[this];simpa using h
 ·rcases h.body with⟨Q,J⟩ |⟨g,cur,xs,ha,hr,hH,h2,h3,h4,h5,h6,h7,h8⟩
  ·rw[J]at v;simp at v
  ·subst ha;obtain⟨R,A,D⟩:=ig.1 hz;have f:Box τ κ g cur.toList e:=⟨by simpa using hH,by rw[h6];simp,h7,h8⟩;have B:=t.len hzo;have p:Rep t κ (Builtin.zeroCells zs.toArray (l.length - lo.toNat)).toList (List.replicate (l.length - lo.toNat) z):=by
    have:=zxi hzo (l.length - lo.toNat);have I:(Builtin.zeroCells zs.toArray (l.length - lo.toNat)).toList=(List.range ((l.length - lo.toNat)*t.size)).map λi=>(zs.toArray)[i % zs.toArray.size]!:=by
     simp[Builtin.zeroCells,B]
    rw[I];exact this
   have c:=p.length;rw[ek]at c;have q:cur.toList.length=cp*t.size:=by simpa using h4
   have G:lo.toNat*t.size+(l.length - lo.toNat)*t.size=l.length*t.size:=by rw[←gi];congr 1;omega
   have M:l.length*t.size<=cp*t.size:=gy _ h2;have b:Step [g] κ (κ.setB g (splice cur.toList (lo.toNat*t.size) (Builtin.zeroCells zs.toArray (l.length - lo.toNat)).toList) e):=zma f;refine⟨κ.setB g (splice cur.toList (lo.toNat*t.size) (Builtin.zeroCells zs.toArray (l.length - lo.toNat)).toList) e,?_,b.mono (λx E=>by rw[fq.1 E];exact zlv (a:=⟨g,0,none⟩) om),?_⟩
   ·have y:¬cp=lo.toNat:=by omega
    rw[if_neg y];have L:(Option.map (λx=>Addr.add x (lo.toNat*t.size)) (some (⟨g,0,none⟩:Addr)))=some ⟨g,lo.toNat*t.size,none⟩:=by simp[zgZ]
    rw[L];have n:=zmB (P:=P) (C:=C) (d:=d) (off:=lo.toNat*t.size) (Builtin.zeroCells zs.toArray (l.length - lo.toNat)).toList 0 κ cur.toList f p.one (by rw[c,q];omega);rw[Nat.add_zero]at n;obtain⟨m,hm⟩:∃m,l.length - lo.toNat=m+1:=⟨l.length - lo.toNat - 1,by omega⟩;rw[hm]at n ⊢;simp[Builtin.clear_,zG s,zh2 A,D];rw[show(Builtin.zeroCells zs.toArray (m+1)).toList=(Builtin.zeroCells zs.toArray (m+1)).toList from rfl,n];simp
   ·have hlen:(l.take lo.toNat++List.replicate (l.length - lo.toNat) z).length=l.length:=by
     rw[dy,ey,ek];omega
    have H:(l.take lo.toNat).length=lo.toNat:=by rw[ey];omega
    refine⟨by rw[hlen];exact h.most,.inr ⟨g,_,xs.take (lo.toNat*t.size)++(Builtin.zeroCells zs.toArray (l.length - lo.toNat)).toList,rfl,(hr.take _ |>.step b).append (p.step b),(zm1 f).obj,by rw[hlen];exact h2,h3,by rw[ga,zfU,q],?_,h6,h7,h8⟩⟩;rw[hlen];apply ca;intro j;rw[dv];have w:=hr.length;have k:(xs.take (lo.toNat*t.size)).length=lo.toNat*t.size:=by rw[ey,w];omega
    by_cases F:j<l.length*t.size
    ·rw[if_pos F];simp only[List.toList_toArray]at *;rw[zir _ _ _ _ (by rw[c,q];omega),c];by_cases u:j<lo.toNat*t.size
     ·rw[if_neg om,cq (by rw[k];exact u),dv,if_pos u,←h5,dv,if_pos F]
     ·rw[if_pos om,cv (by rw[k];omega),k]
    ·rw[if_neg F,df];rw[dy,k,c];omega
end
section
variable [Fc] [Fb] {P:Program} {n:Nat} {c:Code} {i:Nat} {Q:zaY} {E:Env} {κ:K} {α:Type} {t:Ty α} {τ:Tag} {e T:TypeId} {a:Option Addr} {cp:Nat} {l r:List α}
def osv(d:Nat){hi:Int}(hg:Gr t false τ κ e a cp l)(hx:zlK l 0 hi=some r)(hk:Gr t false τ κ e a cp r->owp P n c (i+1) Q (upd E d (.slice a r.length cp)) κ)(h:st c i n E (some d)=true:=by kernel_rfl)(ho:execOp (ev E) (zx c i)=vOf (Instr.sliceAt T (.slice a l.length cp) none (zpY (some hi)) none):=by kernel_rfl)(hT:zJ P T=some e:=by kernel_rfl)(hs:zM P e=some t.size:=by kernel_rfl):owp P n c i Q E κ:=by
 have b:=(zob hx).2.2.2;refine zie _ h (λC g=>by rw[ho];exact zH (zkK (lo:=none) (hi:=some hi) hT hs hg.cap hx _)) ?_;have f:((Option.getD none 0:Int).toNat)=0:=rfl;rw[f,Nat.zero_mul,add_zero,Nat.sub_zero];refine hk ?_;rw[b];exact hg.take _
def zDT(d d2:Nat){lo:Int}(zs:List Value){z:α}(hg:Gr t false τ κ e a cp l)(hzo:t.own κ zs z)(hx:clr l lo z=some r)(hk:∀κ',Step (blk a cp) κ κ'->Gr t false τ κ' e a cp r->owp P n c (i+1+1) Q (upd E d (.slice (if cp=lo.toNat then a else a.map (·.add (lo.toNat*t.size))) (l.length - lo.toNat) (cp - lo.toNat))) κ')(h:st c i n E (some d)=true:=by kernel_rfl)(ho:execOp (ev E) (zx c i)=vOf (Instr.sliceAt T (.slice a l.length cp) (zpY (some lo)) none none):=by kernel_rfl)(h2:∀v,st c (i+1) n (upd E d v) none=true:=by intro _;kernel_rfl)(ho2:∀v,execOp (ev (upd E d v)) (zx c (i+1))=vOf (Builtin.clear_ #[T] d2 #[v]):=by intro _;kernel_rfl)(hT:zJ P T=some e:=by kernel_rfl)(hs:zM P e=some t.size:=by kernel_rfl)(hz:(zfc P e).map Value.cells=some zs.toArray:=by kernel_rfl):owp P n c i Q E κ:=by
 obtain⟨q,p,u⟩:=zu1 hx;have f:zlK l (Option.getD (some lo) 0) (Option.getD none (l.length:Int))=some (l.drop lo.toNat):=by
  unfold zlK;simp only[ie,Option.getD_none];rw[if_pos ⟨q,p,by omega⟩];simp
 refine zie _ h (λC j=>by rw[ho];exact zH (zkK (lo:=some lo) (hi:=none) hT hs hg.cap f _)) ?_;simp only[ie];rw[ec];refine znn (h2 _) (λC j a' m=>?_);obtain⟨κ',b,g,k⟩:=zB2 (ty:=d2) hT hz hzo hg hx C j;obtain⟨_,_,s,_⟩:=zh8 (h2 (.slice (if cp=lo.toNat then a else a.map (·.add (lo.toNat*t.size))) (l.length - lo.toNat) (cp - lo.toNat)));refine zme (by rw[m.eval,ho2];exact zH b) ?_;rw[s];exact hk κ' g k C j _ m
end
def zzd{α:Type}{l r:List α}{lo:Int}{z:α}(h:clr l lo z=some r):r.length=l.length:=by
 obtain⟨b,a,rfl⟩:=zu1 h;rw[dy,ey,ek];omega
section
variable {P:Program} {f:FuncId} {args:Array Value} {κ:K} {α:Type} {t:Ty α} {τ:Tag} {e:TypeId} {a:Option Addr} {c:Nat} {l:List α}
def K.frB(κ:K)(g m:Nat):K:=⟨κ.H,λb=>if b=g then m else κ.fr b,κ.tag⟩
def Fn.borrow{B:Value->Prop}(hg:Gr t false τ κ e a c l)(h:∀κ1,κ1.H=κ.H->Step (blk a c) κ κ1->Gr t true τ κ1 e a c l->Fn P f args κ1 (λv κ'=>Step [] κ1 κ'/\B v)):Fn P f args κ (λv κ'=>Step [] κ κ'/\B v):=by
 by_cases hp:∃g,blk a c=[g]
 ·obtain⟨g,m⟩:=hp;obtain⟨κ1,k,n,r⟩:=hg.publish;have A:=h κ1 k n r;intro C d;have y:W C κ d=W C κ1 d:=by unfold W;rw[k]
  rw[y];refine(A C d).mono ?_;rintro ex w' ⟨v,κ2,E,q,D,hs,F⟩;refine⟨v,K.frB κ2 g (κ.fr g),E,q,by rw[D];unfold W K.frB;rfl,?_,F⟩;have u:=hg.lt g (by rw[m];simp);have s:∀b,b<κ.H.size->(K.frB κ2 g (κ.fr g)).shp b=κ.shp b:=λb i=>by
   show κ2.shp b=κ.shp b;unfold K.shp;rw[(hs.2.1 b (by rw[k];exact i) si).1,k]
  have z:∀b,b<κ.H.size->(K.frB κ2 g (κ.fr g)).tag b=κ.tag b:=λb i=>by
   show κ2.tag b=κ.tag b;rw[(hs.2.1 b (by rw[k];exact i) si).2.2];by_cases j:b=g
   ·subst j;exact(r.lt b (by rw[m];simp)).2.1.trans u.2.1.symm
   ·exact(n.2.1 b i (by rw[m];simpa using j)).2.2
  refine⟨by rw[←k];exact hs.1,λb i _=>?_,λb i=>?_,λb i _=>⟨z b i,s b i⟩⟩
  ·have p:=hs.2.1 b (by rw[k];exact i) si;have G:(K.frB κ2 g (κ.fr g)).H[b]?=κ.H[b]?:=by
    show κ2.H[b]?=κ.H[b]?;rw[p.1,k]
   by_cases j:b=g
   ·subst j;refine⟨G,by simp[K.frB],?_⟩;show κ2.tag b=κ.tag b;rw[p.2.2];exact(r.lt b (by rw[m];simp)).2.1.trans u.2.1.symm
   ·have w:=n.2.1 b i (by rw[m];simpa using j);refine⟨G,?_,?_⟩
    ·simp only[K.frB,if_neg j];rw[p.2.1,w.2.1]
    ·show κ2.tag b=κ.tag b;rw[p.2.2,w.2.2]
  ·have p:=hs.2.1 b (by rw[k];exact i) si;have x:∀o,(K.frB κ2 g (κ.fr g)).cell b o=κ.cell b o:=λo=>by
    show K.cell κ2 b o=K.cell κ b o;unfold K.cell;rw[p.1,k]
   refine⟨?_,λo _=>x o⟩;by_cases j:b=g
   ·subst j;simp[K.frB]
   ·have w:=n.2.1 b i (by rw[m];simpa using j);simp only[K.frB,if_neg j];rw[p.2.1,w.2.1];exact gl _
 ·have m:blk a c=[]:=by
   cases a with
   | none=>rfl
   | some ad=>
    by_cases x:c=0
    ·rw[x,zsB]
    ·exact absurd ⟨ad.block,by simp[blk,x]⟩ hp
  obtain⟨κ1,k,n,r⟩:=hg.publish;have A:=h κ1 k n r;intro C d;have y:W C κ d=W C κ1 d:=by unfold W;rw[k]
  rw[y];rw[m]at n;refine(A C d).mono ?_;rintro ex w' ⟨v,κ2,E,q,D,hs,F⟩;exact⟨v,κ2,E,q,D,n.trans hs,F⟩
def Fn.borrow0{B:Value->Prop}(hg:Gr t false τ κ e a c l)(h:∀κ1,κ1.H=κ.H->Step (blk a c) κ κ1->Gr t true τ κ1 e a c l->Fn P f args κ1 (λv κ'=>κ1=κ'/\B v)):Fn P f args κ (λv κ'=>κ=κ'/\B v):=by
 obtain⟨κ1,b,p,j⟩:=hg.publish;have q:=h κ1 b p j;intro C d;have m:W C κ d=W C κ1 d:=by unfold W;rw[b]
 rw[m];refine(q C d).mono ?_;rintro ex w' ⟨v,κ2,k,g,i,hs,n⟩;subst hs;exact⟨v,κ,k,g,by rw[i];unfold W;rw[b],rfl,n⟩
end
def Gr.any{α:Type}{t:Ty α}{pub:Bool}{τ:Tag}(τ':Tag){κ:K}{e:TypeId}{a:Option Addr}{c:Nat}{l:List α}(h:Gr t pub τ κ e a c l)(hb:blk a c=[]):Gr t pub τ' κ e a c l:=by
 refine⟨h.most,?_⟩;rcases h.body with h1 |⟨g,cur,xs,ha,hr,hH,h1,_⟩
 ·exact .inl h1
 ·have b:c=0:=by
   subst ha;by_cases b:c=0
   ·exact b
   ·simp[blk,b]at hb
  exact .inl ⟨b,bz om⟩
def Gr.lo{α:Type}{t:Ty α}{pub:Bool}{τ:Tag}{κ:K}{e:TypeId}{a:Option Addr}{c:Nat}{l:List α}(h:Gr t pub τ κ e a c l):τ.1<κ.H.size\/blk a c=[]:=by
 by_cases b:blk a c=[]
 ·exact .inr b
 ·obtain⟨g,d⟩:=List.exists_mem_of_ne_nil _ b;have:=h.lt g d;exact .inl (Nat.lt_of_le_of_lt this.2.2 this.1)
def Gr.low{α:Type}{t:Ty α}{pub:Bool}{N i m:Nat}{κ:K}{e:TypeId}{a:Option Addr}{c:Nat}{l:List α}(h:Gr t pub (N,i) κ e a c l)(go:m<=N)(hb:m<κ.H.size):
  ∃N',m<=N'/\N'<κ.H.size/\Gr t pub (N',i) κ e a c l:=by
 rcases h.lo with h1 | h1
 ·exact⟨N,go,h1,h⟩
 ·exact⟨m,gl _,hb,h.any _ h1⟩
abbrev Hd:=Option Addr×Nat×Nat
def tH:Ty Hd:=⟨1,λ_ cs h=>cs=[.slice h.1 h.2.1 h.2.2],λh=>by rw[h];rfl,λ_ h=>h,λh v hv=>by rw[h]at hv;simp at hv;subst hv;rfl⟩
def zpR(h:Hd):List Nat:=blk h.1 h.2.2
def mblk(a:Option Addr)(c:Nat)(hs:List Hd):List Nat:=blk a c++hs.flatMap zpR
def zqv(a:Option Addr)(c:Nat):(blk a c).Nodup:=by
 unfold blk;cases a with
 | none=>simp
 | some x=>simp only[];split<;>simp
structure Mat{α:Type}(t:Ty α)(pub:Bool)(τ:Tag)(κ:K)(eo ei:TypeId)(a:Option Addr)(c:Nat)(hm hs:List Hd)(L:List (List α)):Prop where
 out:Gr tH false τ κ eo a c hm
 len:hs.length=L.length
 rows:∀(i:Nat)(h:Hd)(l:List α),hs[i]?=some h->L[i]?=some l->h.2.1=l.length/\Gr t pub τ κ ei h.1 h.2.2 l
 nd:(mblk a c hs).Nodup
section
variable {α:Type} {t:Ty α} {pub:Bool} {τ:Tag} {κ κ':K} {eo ei:TypeId} {a:Option Addr} {c:Nat} {hm hs:List Hd} {L:List (List α)} {M:List Nat}
def zpV{g:Nat}:g∈mblk a c hs↔g∈blk a c\/∃(i:Nat)(h:Hd),hs[i]?=some h/\g∈zpR h:=by
 unfold mblk;rw[fe,List.mem_flatMap];constructor
 ·rintro(h |⟨x,d,b⟩)
  ·exact .inl h
  ·obtain⟨i,hi⟩:=dj d;exact .inr ⟨i,x,hi,b⟩
 ·rintro(h |⟨i,x,d,b⟩)
  ·exact .inl h
  ·exact .inr ⟨x,fo d,b⟩
def Mat.row_at(h:Mat t pub τ κ eo ei a c hm hs L){i:Nat}{hd:Hd}(hi:hs[i]?=some hd):∃l,L[i]?=some l/\hd.2.1=l.length/\Gr t pub τ κ ei hd.1 hd.2.2 l:=by
 have b:i<L.length:=by rw[←h.len];exact(dg.1 hi).1
 have d:L[i]?=some L[i]:=by simp[b]
 exact⟨L[i],d,h.rows i hd _ hi d⟩
def Mat.lt(h:Mat t pub τ κ eo ei a c hm hs L):∀g∈mblk a c hs,g<κ.H.size/\κ.tag g=τ/\τ.1<=g:=by
 intro g b;rcases zpV.1 b with b |⟨i,hd,hi,b⟩
 ·exact h.out.lt g b
 ·obtain⟨l,_,_,d⟩:=h.row_at hi;exact d.lt g b
def Mat.step(s:Step M κ κ')(hM:∀g∈mblk a c hs,g∉M)(h:Mat t pub τ κ eo ei a c hm hs L):Mat t pub τ κ' eo ei a c hm hs L:=
 ⟨h.out.step s (λg b=>hM g (zpV.2 (.inl b))),h.len,λi hd l hi d=>⟨(h.rows i hd l hi d).1,(h.rows i hd l hi d).2.step s (λg b=>hM g (zpV.2 (.inr ⟨i,hd,hi,b⟩)))⟩,h.nd⟩
def Mat.step0(s:Step [] κ κ')(h:Mat t pub τ κ eo ei a c hm hs L):Mat t pub τ κ' eo ei a c hm hs L:=h.step s si
def Mat.most(h:Mat t pub τ κ eo ei a c hs hs L):L.length<=9223372036854775807:=by rw[←h.len];exact zr3 h.out.most
def Mat.idx{ix:Int}{l:List α}(h:Mat t pub τ κ eo ei a c hs hs L)(hx:idx L ix=some l):
  ∃b ah ch,a=some ⟨b,0,none⟩/\0<=ix/\ix<(L.length:Int)/\hs[ix.toNat]?=some (ah,l.length,ch)/\At κ b (0+ix.toNat*1) [.slice ah l.length ch]/\Gr t pub τ κ ei ah ch l:=by
 obtain⟨j,q,p⟩:=zh6 hx;have f:ix.toNat<hs.length:=by rw[h.len];omega
 have g:hs[ix.toNat]?=some hs[ix.toNat]:=by simp[f]
 obtain⟨i,m⟩:=h.rows _ _ _ g p;have e:Lf.idx hs ix=some hs[ix.toNat]:=by unfold Lf.idx;rw[if_pos j];exact g
 obtain⟨b,n,_,_,cs,d,k⟩:=h.out.idx e;refine⟨b,hs[ix.toNat].1,hs[ix.toNat].2.2,n,j,q,?_,?_,m⟩
 ·rw[g,←i]
 ·have:cs=[.slice hs[ix.toNat].1 hs[ix.toNat].2.1 hs[ix.toNat].2.2]:=k;rw[this,i]at d;exact d
def Mat.made{n:Nat}(h:Gr tH false τ κ eo a c (List.replicate n (none,0,0))):Mat t pub τ κ eo ei a c (List.replicate n (none,0,0)) (List.replicate n (none,0,0)) (List.replicate n ([]:List α)):=by
 refine⟨h,by simp,λi hd l hi d=>?_,?_⟩
 ·have b:hd=(none,0,0):=List.eq_of_mem_replicate (fo hi);have e:l=[]:=List.eq_of_mem_replicate (fo d);subst b;subst e;exact⟨rfl,Gr.nil⟩
 ·unfold mblk;have:(List.replicate n ((none,0,0):Hd)).flatMap zpR=[]:=by
   rw[List.flatMap_eq_nil_iff];intro x f;rw[List.eq_of_mem_replicate f];rfl
  rw[this,bp];exact zqv a c
def zxO{i:Nat}{hd h':Hd}(hi:hs[i]?=some hd):∃X Y,hs.flatMap zpR=X++zpR hd++Y/\(hs.set i h').flatMap zpR=X++zpR h'++Y:=by
 have a:=(dg.1 hi).1;have b:=(dg.1 hi).2;refine⟨(hs.take i).flatMap zpR,(hs.drop (i+1)).flatMap zpR,?_,?_⟩
 ·have:hs=hs.take i++hd::hs.drop (i+1):=by
   rw[←b,List.getElem_cons_drop,List.take_append_drop]
  conv=>lhs;rw[this]
  simp[cm,cn,bl]
 ·rw[List.set_eq_take_append_cons_drop,if_pos a];simp[cm,cn,bl]
def zvI{A X B Y B':List Nat}{n:Nat}(h:(A++(X++B++Y)).Nodup)(hb:B'.Nodup)(hlt:∀g∈A++(X++B++Y),g<n)(hw:∀g∈B',g∈B\/n<=g):(A++(X++B'++Y)).Nodup:=by
 simp only[fu,fe]at h hlt ⊢;obtain⟨i,⟨⟨e,k,f⟩,j,d⟩,c⟩:=h;refine⟨i,⟨⟨e,hb,λx b y a=>?_⟩,j,λx b y a=>?_⟩,λx b y a=>?_⟩
 ·rcases hw y a with hyb | hyn
  ·exact f x b y hyb
  ·have:=hlt x (.inr (.inl (.inl b)));omega
 ·rcases b with b | b
  ·exact d x (.inl b) y a
  ·rcases hw x b with hxb | hxn
   ·exact d x (.inr hxb) y a
   ·have:=hlt y (.inr (.inr a));omega
 ·rcases a with(a | a) | a
  ·exact c x b y (.inl (.inl a))
  ·rcases hw y a with hyb | hyn
   ·exact c x b y (.inl (.inr hyb))
   ·have:=hlt x (.inl b);omega
  ·exact c x b y (.inr a)
def Mat.row(h:Mat t pub τ κ eo ei a c hm hs L){i:Nat}{hd:Hd}{a':Option Addr}{c':Nat}{l':List α}(hi:hs[i]?=some hd)(s:Step (zpR hd) κ κ')(g:Gr t pub τ κ' ei a' c' l')(hw:∀x∈blk a' c',x∈zpR hd\/κ.H.size<=x):Mat t pub τ κ' eo ei a c hm (hs.set i (a',l'.length,c')) (L.set i l'):=by
 have f:=(dg.1 hi).1;obtain⟨X,Y,v,z⟩:=zxO (h':=(a',l'.length,c')) hi;have e:=h.nd;unfold mblk at e;refine⟨h.out.step s (λx m u=>?_),by rw[ep,ep];exact h.len,λj y l b d=>?_,?_⟩
 ·rw[fu]at e;exact e.2.2 x m x (by rw[v];simp[u]) rfl
 ·by_cases k:i=j
  ·subst k;rw[du f]at b;rw[du (by rw[←h.len];exact f)]at d;injection b with b;injection d with d
   subst b;subst d;exact⟨rfl,g⟩
  ·rw[dt k]at b d;refine⟨(h.rows j y l b d).1,(h.rows j y l b d).2.step s (λx m u=>?_)⟩;have w:=(fu.1 e).2.1;have hp:=(List.pairwise_flatMap.1 w).2;have p:=(dg.1 b).1;have q:=fx.1 hp;have ei':=(dg.1 hi).2;have r:=(dg.1 b).2;rcases gu k with hlt' | hlt'
   ·have:=q i j f p hlt';rw[ei',r]at this;exact this x u x m rfl
   ·have:=q j i p f hlt';rw[ei',r]at this;exact this x m x u rfl
 ·unfold mblk;rw[z];rw[v]at e;refine zvI e (zqv a' c') (n:=κ.H.size) (λx m=>?_) hw;have:x∈mblk a c hs:=by unfold mblk;rw[v];exact m
  exact(h.lt x this).1
def Mat.outer(h:Mat t pub τ κ eo ei a c hm hs L){a':Option Addr}{c':Nat}{hm':List Hd}(s:Step (blk a c) κ κ')(g:Gr tH false τ κ' eo a' c' hm')(hw:∀x∈blk a' c',x∈blk a c\/κ.H.size<=x):Mat t pub τ κ' eo ei a' c' hm' hs L:=by
 have b:=h.nd;unfold mblk at b;refine⟨g,h.len,λi hd l hi e=>⟨(h.rows i hd l hi e).1,(h.rows i hd l hi e).2.step s (λx d f=>?_)⟩,?_⟩
 ·exact(fu.1 b).2.2 x f x (List.mem_flatMap.2 ⟨hd,fo hi,d⟩) rfl
 ·unfold mblk;have:=zvI (A:=[]) (X:=[]) (B:=blk a c) (Y:=hs.flatMap zpR) (B':=blk a' c') (n:=κ.H.size) (by simpa using b) (zqv a' c') (λx d=>(h.lt x (by simpa[mblk]using d)).1) hw;simpa using this
def K.retag(κ:K)(B:List Nat)(τ:Tag):K:=⟨κ.H,κ.fr,λb=>if b∈B then τ else κ.tag b⟩
def Gr.fr0{e:TypeId}{l:List α}(h:Gr t false τ κ e a c l):∀g∈blk a c,κ.fr g=0:=by
 intro g b;rcases h.body with⟨d,_⟩ |⟨g',cur,xs,ha,hr,hH,h1,h2,h3,h4,h5,h6,h7⟩
 ·rw[d,zsB]at b;cases b
 ·rw[ha]at b;have:=(zsC b).1;rw[this];simpa using h5
def Gr.retag{τ':Tag}{e:TypeId}{l:List α}(h:Gr t false τ κ e a c l)(hle:τ'.1<=τ.1):Gr t false τ' (κ.retag (blk a c) τ') e a c l/\Step (blk a c) κ (κ.retag (blk a c) τ'):=by
 have hs:Step (blk a c) κ (κ.retag (blk a c) τ'):=⟨gl _,λb f hm=>⟨rfl,rfl,by simp[K.retag,hm]⟩,λb f=>⟨gl _,λo _=>rfl⟩,λb f i=>⟨by
  have:b∉blk a c:=λhm=>by rw[h.fr0 b hm]at i;omega
  simp[K.retag,this],rfl⟩⟩
 refine⟨⟨h.most,?_⟩,hs⟩;rcases h.body with h1 |⟨g,cur,xs,ha,hr,hH,h1,h2,h3,h4,h5,h6,h7⟩
 ·exact .inl h1
 ·by_cases d:c=0
  ·exact .inl ⟨d,bz om⟩
  ·refine .inr ⟨g,cur,xs,ha,hr.step hs,hH,h1,h2,h3,h4,h5,?_,gm hle h7⟩;have:g∈blk a c:=by rw[ha];exact zlv (a:=⟨g,0,none⟩) om
   simp[K.retag,this]
def Mat.snoc{τr:Tag}{ar:Option Addr}{cr:Nat}{l:List α}(h:Mat t false τ κ eo ei a c hm hs L)(g:Gr t false τr κ ei ar cr l)(hne:τr≠τ)(hle:τ.1<=τr.1):
  ∃κ',κ'.H=κ.H/\Step (blk ar cr) κ κ'/\Mat t false τ κ' eo ei a c hm (hs++[(ar,l.length,cr)]) (L++[l]):=by
 obtain⟨q,s⟩:=g.retag (τ':=τ) hle;have b:∀x∈mblk a c hs,x∉blk ar cr:=λx m r=>hne ((g.lt x r).2.1.symm.trans (h.lt x m).2.1);have h':=h.step s b;refine⟨κ.retag (blk ar cr) τ,rfl,s,h'.out,by rw[dy,dy,h.len];rfl,λi hd l1 hi d=>?_,?_⟩
 ·by_cases f:i<hs.length
  ·rw[cq f]at hi;rw[cq (by rw[←h.len];exact f)]at d;exact h'.rows i hd l1 hi d
  ·rw[cv om]at hi;rw[cv (by rw[←h.len];omega)]at d;have n:i - hs.length=0:=by
    have:=(dg.1 hi).1;simp at this;omega
   rw[n]at hi;rw[←h.len,n]at d;simp at hi d;subst hi;subst d;exact⟨rfl,q⟩
 ·have j:=h.nd;unfold mblk at j ⊢;rw[cm,←bl,fu];refine⟨j,by simpa[zpR]using zqv ar cr,λx m y p=>?_⟩;have k:y∈blk ar cr:=by simpa[zpR]using p
  intro e;subst e;exact b x m k
end
section
variable {α:Type} {t:Ty α} {pub:Bool} {τ:Tag} {κ κ':K} {eo ei:TypeId} {a:Option Addr} {c:Nat} {hm hs:List Hd} {L:List (List α)} {M:List Nat}
def Gr.publish'{e:TypeId}{l:List α}(h:Gr t pub τ κ e a c l):∃κ',κ'.H=κ.H/\κ'.tag=κ.tag/\Step (blk a c) κ κ'/\Gr t true τ κ' e a c l:=by
 cases pub with
 | true=>exact⟨κ,rfl,rfl,Step.refl _ _,h⟩
 | false=>
 rcases h.body with⟨j,i⟩ |⟨g,cur,xs,ha,hr,hH,h1,h2,h3,h4,h5,h6,h7⟩
 ·exact⟨κ,rfl,rfl,Step.refl _ _,h.most,.inl ⟨j,i⟩⟩
 ·by_cases d:c=0
  ·exact⟨κ,rfl,rfl,Step.refl _ _,h.most,.inl ⟨d,bz om⟩⟩
  have hs:Step (blk a c) κ (κ.pubB g (l.length*t.size)):=by
   refine⟨gl _,λb f hm=>⟨rfl,?_,rfl⟩,λb f=>⟨?_,λo _=>rfl⟩,λb f _=>⟨rfl,rfl⟩⟩
   ·simp only[K.pubB];rw[if_neg];intro e;exact hm (by rw[ha,e];exact zlv om)
   ·simp only[K.pubB];split
    ·rename_i e;subst e;rw[h5];simp
    ·exact gl _
  exact⟨κ.pubB g (l.length*t.size),rfl,rfl,hs,h.most,.inr ⟨g,cur,xs,ha,hr.step hs,hH,h1,h2,h3,h4,by simp[K.pubB],h6,h7⟩⟩
def zxk:∀(hs:List Hd)(L:List (List α))(κ:K),hs.length=L.length->(∀(i:Nat)(h:Hd)(l:List α),hs[i]?=some h->L[i]?=some l->h.2.1=l.length/\Gr t pub τ κ ei h.1 h.2.2 l)->(hs.flatMap zpR).Nodup->
  ∃κ',κ'.H=κ.H/\κ'.tag=κ.tag/\Step (hs.flatMap zpR) κ κ'/\∀(i:Nat)(h:Hd)(l:List α),hs[i]?=some h->L[i]?=some l->h.2.1=l.length/\Gr t true τ κ' ei h.1 h.2.2 l
 |[],L,κ,_,_,_=>⟨κ,rfl,rfl,Step.refl _ _,λi h l hi=>by simp at hi⟩
 | h::hs,[],κ,hl,_,_=>by simp at hl
 | h::hs,l::L,κ,hl,hr,hn=>by
  rw[cn,fu]at hn;obtain⟨k,s⟩:=hr 0 h l rfl rfl;obtain⟨κ1,q,n,g,p⟩:=s.publish';obtain⟨κ2,u,m,f,j⟩:=zxk hs L κ1 (by simpa using hl) (λi h' l' hi a=>by
   obtain⟨r,v⟩:=hr (i+1) h' l' hi a;refine⟨r,v.step g (λx e d=>hn.2.2 x d x (List.mem_flatMap.2 ⟨h',fo hi,e⟩) rfl)⟩) hn.2.1
  refine⟨κ2,u.trans q,m.trans n,?_,λi h' l' hi a=>?_⟩
  ·rw[cn];exact(g.mono (λb c=>fe.2 (.inl c))).trans (f.mono (λb c=>fe.2 (.inr c)))
  ·cases i with
   | zero=>
    simp at hi a;subst hi;subst a;exact⟨k,p.step f (λx e d=>hn.2.2 x e x d rfl)⟩
   | succ i=>exact j i h' l' hi a
def zDd{l:List Hd}:∀{xs:List Value} {L:List (List α)},Rep tH κ xs l->l.length=L.length->(∀(i:Nat)(h:Hd)(r:List α),l[i]?=some h->L[i]?=some r->h.2.1=r.length/\Sl t κ h.1 h.2.2 r)->Rep (tSl t) κ xs L:=by
 induction l with
 | nil=>
  intro xs L g b _;cases L with
  | nil=>exact g
  | cons _ _=>simp at b
 | cons h l ih=>
  intro xs L g b a;cases L with
  | nil=>simp at b
  | cons r L=>
   obtain⟨c,d,e,m,f⟩:=g;obtain⟨k,p⟩:=a 0 h r rfl rfl;refine⟨c,d,e,⟨h.1,h.2.2,?_,p⟩,ih f (by simpa using b) (λi h' n hi j=>a (i+1) h' n hi j)⟩;have:c=[.slice h.1 h.2.1 h.2.2]:=m;rw[this,k]
def Mat.publish(h:Mat t pub τ κ eo ei a c hs hs L):∃κ',κ'.H=κ.H/\κ'.tag=κ.tag/\Step (mblk a c hs) κ κ'/\Gr (tSl t) true τ κ' eo a c L:=by
 have d:=h.nd;unfold mblk at d;rw[fu]at d;obtain⟨κ1,A,y,q,u⟩:=zxk hs L κ h.len h.rows d.2.1;have w:=h.out.step q (λx l f=>d.2.2 x l x f rfl);obtain⟨κ2,v,s,p,n⟩:=w.publish';have k:Step (mblk a c hs) κ κ2:=(q.mono (λb j=>by unfold mblk;exact fe.2 (.inr j))).trans (p.mono (λb j=>by unfold mblk;exact fe.2 (.inl j)));refine⟨κ2,v.trans A,s.trans y,k,by rw[←h.len];exact n.most,?_⟩;rcases n.body with⟨f,z⟩ |⟨g,cur,xs,ha,hr,hH,h1,h2,h3,h4,h5,h6,h7⟩
 ·refine .inl ⟨f,?_⟩;have:=h.len;rw[z]at this;exact bz (by simpa using this.symm)
 ·have e:Rep (tSl t) κ2 xs L:=zDd hr h.len (λi hd r hi m=>by
   obtain⟨B,C⟩:=u i hd r hi m;exact⟨B,(C.step p (λx l f=>d.2.2 x f x (List.mem_flatMap.2 ⟨hd,fo hi,l⟩) rfl)).sl⟩)
  exact .inr ⟨g,cur,xs,ha,e,hH,by rw[←h.len];exact h1,h2,h3,by rw[←h.len];exact h4,by rw[←h.len];exact h5,h6,h7⟩
def K.back(κ κ':K):K:=⟨κ'.H,λb=>if b<κ.H.size then κ.fr b else κ'.fr b,κ'.tag⟩
def zzm{κ1 κ2:K}(e:κ1.H=κ.H)(et:κ1.tag=κ.tag)(s:Step [] κ1 κ2):Step [] κ (K.back κ κ2):=by
 refine⟨by rw[←e];exact s.1,λb c _=>?_,λb c=>?_,λb c _=>?_⟩
 ·have a:=s.2.1 b (by rw[e];exact c) si;exact⟨by show κ2.H[b]?=_;rw[a.1,e],by simp[K.back,c],by show κ2.tag b=_;rw[a.2.2,et]⟩
 ·have a:=s.2.1 b (by rw[e];exact c) si;refine⟨by simp[K.back,c],λo _=>?_⟩;show K.cell κ2 b o=K.cell κ b o;unfold K.cell;rw[a.1,e]
 ·have a:=s.2.1 b (by rw[e];exact c) si;refine⟨by show κ2.tag b=_;rw[a.2.2,et],?_⟩;show K.shp κ2 b=K.shp κ b;unfold K.shp;rw[a.1,e]
def Fn.lend{P:Program}{f:FuncId}{args:Array Value}{R:Value->K->Prop}{κ1:K}(e:κ1.H=κ.H)(et:κ1.tag=κ.tag)(h:Fn P f args κ1 (λv κ'=>Step [] κ1 κ'/\R v κ'))(hR:∀v κ2,Step [] κ1 κ2->R v κ2->R v (K.back κ κ2)):Fn P f args κ (λv κ'=>Step [] κ κ'/\R v κ'):=by
 intro C d;have g:W C κ d=W C κ1 d:=by unfold W;rw[e]
 rw[g];refine(h C d).mono ?_;rintro ex w' ⟨v,κ2,c,a,b,hs,i⟩;exact⟨v,K.back κ κ2,c,a,by rw[b];unfold W K.back;rfl,zzm e et hs,hR v κ2 hs i⟩
def zyU:∀{l:List Int} {xs:List Value},Rep tI64 κ xs l->Rep tI64 κ' xs l
 |[],_,h=>h
 | _::_,_,⟨c,xs',e,ho,hr⟩=>⟨c,xs',e,ho,zyU hr⟩
def Gr.back{N i:Nat}{e:TypeId}{l:List Int}(h:Gr tI64 pub (N,i) κ' e a c l)(hN:κ.H.size<=N):Gr tI64 pub (N,i) (K.back κ κ') e a c l:=by
 refine⟨h.most,?_⟩;rcases h.body with h1 |⟨g,cur,xs,ha,hr,hH,h1,h2,h3,h4,h5,h6,h7⟩
 ·exact .inl h1
 ·refine .inr ⟨g,cur,xs,ha,?_,hH,h1,h2,h3,h4,?_,h6,h7⟩
  ·exact zyU hr
  ·have:¬g<κ.H.size:=by
    have:N<=g:=h7;omega
   simp[K.back,this,h5]
end
section
variable [Fc] [Fb] {P:Program} {n:Nat} {c:Code} {i:Nat} {Q:zaY} {E:Env} {α:Type} {t:Ty α} {τ:Tag} {κ:K} {eo ei:TypeId} {a:Option Addr} {cp:Nat} {hm hs:List Hd} {L:List (List α)}
def zo9{pub:Bool}(h:Mat t pub τ κ eo ei a cp hs hs L)(hk:∀κ',Step (mblk a cp hs) κ κ'->Gr (tSl t) true τ κ' eo a cp L->cwp P n c Q E κ'):cwp P n c Q E κ:=by
 obtain⟨κ',e,_,s,g⟩:=h.publish;exact zvW e (hk κ' s g)
def zAE{l:List Hd}{i:Nat}{h:Hd}(hi:l[i]?=some h):l.set i h=l:=by
 apply ca;intro j;rw[List.getElem?_set];split
 ·rename_i e;subst e;have:=(dg.1 hi).1;rw[if_pos this,hi]
 ·rfl
def zrZ{jx:Int}{ix:Nat}{x':α}{b δ:Nat}{T:TypeId}{vs:List Value}{ah:Option Addr}{ch:Nat}{l:List α}(v:Value)(h:st c i n E none=true)(ho:execOp (ev E) (zx c i)=uOf (Instr.storeAt T (.pointer (some ⟨b,0+jx.toNat*t.size+δ,none⟩)) v))(ea:ah=some ⟨b,0,none⟩)(hM:Mat t false τ κ eo ei a cp hm hs L)(hi:hs[ix]?=some (ah,l.length,ch))(hl:L[ix]?=some l)(h0:0<=jx)(h1:jx<(l.length:Int))(hv:v.cells=vs.toArray)(hs':zM P T=some vs.length)(hone:ztj vs=true)(hδ:Nat.ble (δ+vs.length) t.size=true)(hnew:∀cs,(∃x,idx l jx=some x/\t.own κ cs x)->t.own κ (splice cs δ vs) x')(hk:∀κ',Step (blk ah ch) κ κ'->Mat t false τ κ' eo ei a cp hm hs (L.set ix (l.set jx.toNat x'))->owp P n c (i+1) Q E κ'):owp P n c i Q E κ:=by
 have d:=(hM.rows ix _ l hi hl).2;refine zhh v h ho ea d h0 h1 hv hs' hone hδ hnew (λκ' s g=>hk κ' s ?_);have:=hM.row hi s g (λx e=>.inl e);rw[ep,zAE hi]at this;exact this
def zut{ix:Int}{b:Nat}{T:TypeId}{hd:Hd}(h:st c i n E none=true)(ho:execOp (ev E) (zx c i)=uOf (Instr.storeAt T (.pointer (some ⟨b,0+ix.toNat*1+0,none⟩)) (.slice hd.1 hd.2.1 hd.2.2)))(ea:a=some ⟨b,0,none⟩)(hM:Mat t false τ κ eo ei a cp hm (hm.set ix.toNat hd) L)(h0:0<=ix)(h1:ix<(hm.length:Int))(hs':zM P T=some 1)(hk:∀κ',Step (blk a cp) κ κ'->Mat t false τ κ' eo ei a cp (hm.set ix.toNat hd) (hm.set ix.toNat hd) L->owp P n c (i+1) Q E κ'):owp P n c i Q E κ:=by
 refine zhh (t:=tH) (x':=hd) (vs:=[.slice hd.1 hd.2.1 hd.2.2]) (δ:=0) _ h ho ea hM.out h0 h1 rfl hs' rfl rfl (λcs e=>?_) (λκ' s g=>hk κ' s (hM.outer s g (λx e=>.inl e)));obtain⟨x,_,d⟩:=e;have:cs=[.slice x.1 x.2.1 x.2.2]:=d;subst this;rfl
end
section
variable {α β:Type} {t:Ty α} {t':Ty β} {pub pub':Bool} {τ τ':Tag} {κ:K} {eo ei eo' ei' e:TypeId} {a a':Option Addr} {c c':Nat} {hm hs hm' hs':List Hd} {L:List (List α)} {L':List (List β)} {b:Nat} {cs:List Value} {T:TypeId}
def Mat.nil:Mat t pub τ κ eo ei none 0 [] [] ([]:List (List α)):=⟨Gr.nil,rfl,λi h l hi=>by simp at hi,by simp[mblk,blk]⟩
def Mat.own{κ0:K}(h:Mat t pub τ κ eo ei a c hm hs L)(h0:κ0.H.size<=τ.1):∀b∈mblk a c hs,κ0.H.size<=b:=λb d=>gm h0 (h.lt b d).2.2
def Mat.nbo(h:Mat t pub τ κ eo ei a c hm hs L)(h':Own τ' κ b)(hn:τ≠τ'):∀g∈mblk a c hs,g∉[b]:=λg d e=>by
 have f:g=b:=by simpa using e
 subst f;exact hn ((h.lt g d).2.1.symm.trans h'.tag)
def Mat.bno(h:Mat t pub τ κ eo ei a c hm hs L)(h':Own τ' κ b)(hn:τ'≠τ):b∉mblk a c hs:=λd=>hn (h'.tag.symm.trans (h.lt b d).2.1)
def Mat.nb(h:Mat t pub τ κ eo ei a c hm hs L)(h':Box τ' κ b cs T)(hn:τ≠τ'):∀g∈mblk a c hs,g∉[b]:=h.nbo h'.o hn
def Mat.bn(h:Mat t pub τ κ eo ei a c hm hs L)(h':Box τ' κ b cs T)(hn:τ'≠τ):b∉mblk a c hs:=h.bno h'.o hn
def Mat.ng{l':List β}(h:Mat t pub τ κ eo ei a c hm hs L)(h':Gr t' pub' τ' κ e a' c' l')(hn:τ≠τ'):∀g∈mblk a c hs,g∉blk a' c':=λg b d=>hn ((h.lt g b).2.1.symm.trans (h'.lt g d).2.1)
def Mat.ngm(h:Mat t pub τ κ eo ei a c hm hs L)(h':Mat t' pub' τ' κ eo' ei' a' c' hm' hs' L')(hn:τ≠τ'):∀g∈mblk a c hs,g∉mblk a' c' hs':=λg b d=>hn ((h.lt g b).2.1.symm.trans (h'.lt g d).2.1)
def Gr.ngm{l:List α}(h:Gr t pub τ κ e a c l)(h':Mat t' pub' τ' κ eo' ei' a' c' hm' hs' L')(hn:τ≠τ'):∀g∈blk a c,g∉mblk a' c' hs':=λg b d=>hn ((h.lt g b).2.1.symm.trans (h'.lt g d).2.1)
def zoL{r:List (List α)}(h:some L=some r)(hM:Mat t pub τ κ eo ei a c hm hs L):Mat t pub τ κ eo ei a c hm hs r:=by injection h with h;rw[←h];exact hM
def zwA{l:List α}{ix:Int}{x:α}(h:idx l ix=some x):l[ix.toNat]?=some x:=(zh6 h).2.2
def zhu{i:Nat}{hd:Hd}(hi:hs[i]?=some hd):∀x∈blk hd.1 hd.2.2,x∈mblk a c hs:=λx b=>zpV.2 (.inr ⟨i,hd,hi,b⟩)
def zhi:∀x∈blk a c,x∈mblk a c hs:=λx b=>zpV.2 (.inl b)
end
section
variable {α:Type} {t:Ty α} {pub:Bool} {τ:Tag} {κ:K} {eo ei:TypeId} {a:Option Addr} {c:Nat} {hm hs:List Hd} {L:List (List α)} {i:Nat} {hd:Hd}
def Mat.len0(h:Mat t pub τ κ eo ei a c hm (hm.set i hd) L):hm.length=(L.length):=by rw[←h.len,ep]
def Mat.snocN(h:Mat t pub τ κ eo ei a c hm hs L):Mat t pub τ κ eo ei a c hm (hs++[(none,0,0)]) (L++[[]]):=by
 refine⟨h.out,by rw[dy,dy,h.len];rfl,λi hd l1 hi b=>?_,?_⟩
 ·by_cases e:i<hs.length
  ·rw[cq e]at hi;rw[cq (by rw[←h.len];exact e)]at b;exact h.rows i hd l1 hi b
  ·rw[cv om]at hi;rw[cv (by rw[←h.len];omega)]at b;have f:i - hs.length=0:=by
    have:=(dg.1 hi).1;simp at this;omega
   rw[f]at hi;rw[←h.len,f]at b;simp at hi b;subst hi;subst b;exact⟨rfl,Gr.nil⟩
 ·have d:=h.nd;unfold mblk at d ⊢;rw[cm,←bl];simpa[zpR,blk]using d
def zyJ{by_:Nat}{H H2:List Hd}{L2 r:List (List α)}(h:app by_ L L2=some r)(e1:H.length=L.length)(e2:H2.length=L2.length):app by_ H H2=some (H++H2)/\r=L++L2/\(H++H2).length=r.length:=by
 obtain⟨b,c,a⟩:=zm3 h;refine⟨?_,a,by rw[a,dy,dy,e1,e2]⟩;unfold app;rw[e1,e2,if_pos ⟨b,c⟩]
end
section
variable [Fc] [Fb] {P:Program} {n:Nat} {c:Code} {i k:Nat} {nq:List Nat} {q0:Nat} {M:List Nat} {π:List Nat} {Q:zaY} {E:Env} {κ:K}
variable {α:Type} {t:Ty α} {pub:Bool} {τ:Tag} {e T:TypeId} {a a2:Option Addr} {cp c2:Nat} {l l2 r:List α}
def zAS{κ':K}(hq:Nat.beq i q0=true)(hsub:∀x∈blk a cp,x∈M)(h:Step (blk a cp) κ κ'):zrV q0 M i κ κ':=by
 unfold zrV;rw[hq];exact h.mono hsub
def ztk{d bytes:Nat}(h:xsN c nq i E d=true)(ho:execOp (ev E) (zx c i)=vOf (Builtin.append_ #[T,T] 0 #[.slice a l.length cp,.slice a2 l2.length c2]))(hg:Gr t pub τ κ e a cp l)(h2:Sl t κ a2 c2 l2)(hτ:τ.1<=κ.H.size)(hT:zj5 P T=some (e,t.size,t.size,bytes))(hx:app bytes l l2=some r)(hq:Nat.beq i q0=true)(hsub:∀x∈blk a cp,x∈M)(hk:∀a' c' κ',Step (blk a cp) κ κ'->Gr t pub τ κ' e a' c' r->(∀g∈blk a' c',g∈blk a cp\/κ.H.size<=g)->xwp P n c k nq q0 M π Q (upd E d (.slice a' r.length c')) κ'):xwp P n c k nq q0 M (i::π) Q E κ:=by
 obtain⟨s,w,m,u⟩:=ziV hT;obtain⟨y,hm,rfl⟩:=zm3 hx;refine zrw (λv κ'=>∃a' c',v=.slice a' (l++l2).length c'/\Step (blk a cp) κ κ'/\Gr t pub τ κ' e a' c' (l++l2)/\∀g∈blk a' c',g∈blk a cp\/κ.H.size<=g) h (λv κ' ⟨_,_,_,hs,_⟩=>zAS hq hsub hs) (λC j=>?_) ?_
 ·obtain⟨a',c',κ',p,q,hs,b,f⟩:=zq5 (P:=P) (T:=T) (ty:=0) hg h2 hτ s w m u y hm C j;exact⟨_,κ',p,by rw[ho];exact zH q,a',c',rfl,hs,b,f⟩
 ·rintro v κ' ⟨a',c',rfl,hs,b,f⟩;exact hk a' c' κ' hs b f
end
def zDu{α:Type}{by_:Nat}{n:Int}{r:List (List α)}(h:mkl by_ n ([]:List α)=some r):
  mkl by_ n ((none,0,0):Hd)=some (List.replicate n.toNat (none,0,0))/\r=List.replicate n.toNat []/\(List.replicate n.toNat ((none,0,0):Hd)).length=r.length:=by
 obtain⟨b,c,d,a⟩:=zxv h;refine⟨?_,a,by rw[a];simp⟩;unfold mkl;rw[if_pos ⟨b,c,d⟩]
section
variable [Fc] [Fb] {P:Program} {n:Nat} {c:Code} {i k:Nat} {nq:List Nat} {q0:Nat} {M:List Nat} {π:List Nat} {Q:zaY} {E:Env} {κ:K}
variable {α:Type} {t:Ty α} {pub:Bool} {τ:Tag} {e T:TypeId} {a a2:Option Addr} {cp c2:Nat} {l l2 r:List α}
def ztl{d bytes:Nat}(ln rn:Nat)(hln:l.length=ln)(hrn:r.length=rn)(h:xsN c nq i E d=true)(ho:execOp (ev E) (zx c i)=vOf (Builtin.append_ #[T,T] 0 #[.slice a ln cp,.slice a2 l2.length c2]))(hg:Gr t pub τ κ e a cp l)(h2:Sl t κ a2 c2 l2)(hτ:τ.1<=κ.H.size)(hT:zj5 P T=some (e,t.size,t.size,bytes))(hx:app bytes l l2=some r)(hrel:zrV q0 M i=Step (blk a cp))(hk:∀a' c' κ',Step (blk a cp) κ κ'->Gr t pub τ κ' e a' c' r->(∀g∈blk a' c',g∈blk a cp\/κ.H.size<=g)->xwp P n c k nq q0 M π Q (upd E d (.slice a' rn c')) κ'):xwp P n c k nq q0 M (i::π) Q E κ:=by
 subst hln;subst hrn;exact zx5 h ho hg h2 hτ hT hx hrel hk
def zxn{d bytes:Nat}(ln rn:Nat)(hln:l.length=ln)(hrn:r.length=rn)(h:st c i n E (some d)=true)(ho:execOp (ev E) (zx c i)=vOf (Builtin.append_ #[T,T] 0 #[.slice a ln cp,.slice a2 l2.length c2]))(hg:Gr t pub τ κ e a cp l)(h2:Sl t κ a2 c2 l2)(hτ:τ.1<=κ.H.size)(hT:zj5 P T=some (e,t.size,t.size,bytes))(hx:app bytes l l2=some r)(hk:∀a' c' κ',Step (blk a cp) κ κ'->Gr t pub τ κ' e a' c' r->(∀g∈blk a' c',g∈blk a cp\/κ.H.size<=g)->owp P n c (i+1) Q (upd E d (.slice a' rn c')) κ'):owp P n c i Q E κ:=by
 subst hln;subst hrn;exact zmE h ho hg h2 hτ hT hx hk
end
end Go.Lf
namespace Go.Lf
open Go Go.Conc
def mkc(bytes:Nat)(n:Int):Option (List Int):=if 0<=n/\n<=9223372036854775807/\(bytes:Int)*n<=281474976710544 then some []else none
def ztv(cap:Nat)(l:List Int)(x:Int):Option (List Int):=if l.length<cap then some (l++[x])else none
def zzb:List Int->Option (Int×List Int)
 | x::l=>if -9223372036854775808<=x/\x<=9223372036854775807 then some (x,l)else none
 |[]=>none
def zAc(l:List Int):Option Int:=if l.length<=9223372036854775807 then some (l.length:Int)else none
def zBa{bytes:Nat}{n:Int}{l:List Int}(h:mkc bytes n=some l):0<=n/\n<=9223372036854775807/\(bytes:Int)*n<=281474976710544/\l=[]:=by
 unfold mkc at h;split at h
 ·rename_i h0;exact⟨h0.1,h0.2.1,h0.2.2,(Option.some.inj h).symm⟩
 ·cases h
def zuY{cap:Nat}{l r:List Int}{x:Int}(h:ztv cap l x=some r):l.length<cap/\l++[x]=r:=by
 unfold ztv at h;split at h
 ·rename_i h0;exact⟨h0,Option.some.inj h⟩
 ·cases h
def zyC{l:List Int}{r:Int×List Int}(h:zzb l=some r):l=r.1::r.2/\I64 r.1:=by
 cases l with
 | nil=>cases h
 | cons x l=>
  simp only[zzb]at h;by_cases a : -9223372036854775808<=x/\x<=9223372036854775807
  ·rw[if_pos a]at h;have:=Option.some.inj h;subst this;exact⟨rfl,a⟩
  ·rw[if_neg a]at h;cases h
def zAb{l:List Int}{r:Int}(h:zAc l=some r):(l.length:Int)=r/\I64 r:=by
 unfold zAc at h;split at h
 ·rename_i h0;have:=Option.some.inj h;subst this;exact⟨rfl,by unfold I64;omega⟩
 ·cases h
section
variable [Fc] [Fb] {P:Program} {n:Nat} {c:Code} {i:Nat} {Q:zaY} {E:Env} {κ:K} {τ:Tag} {b cap:Nat} {l:List Int}
def Chn.o(h:Chn τ κ b cap l):Own τ κ b:=⟨h.lt,h.fr,h.tag,h.ge⟩
def zwK(P:Program)(T:TypeId):Option Nat:=
 match P.underlying T with
 | some (.chan _ e)=>(P.info? e).map (·.bytes)
 | _=>none
def zD9{d T:Nat}{bytes:Nat}{k:IntKind}{m:Int}(τ:Tag)(hτ:τ.1<=κ.H.size)(hx:mkc bytes m=some l)(hk:∀b κ',Step [] κ κ'->Chn τ κ' b m.toNat l->owp P n c (i+1) Q (upd E d (.chan (some b))) κ')(hT:zwK P T=some bytes:=by kernel_rfl)(h:st c i n E (some d)=true:=by kernel_rfl)(ho:execOp (ev E) (zx c i)=vOf (Instr.makeChan T (.int k m)):=by kernel_rfl):owp P n c i Q E κ:=by
 obtain⟨g,s,p,rfl⟩:=zBa hx;unfold zwK at hT;split at hT
 ·rename_i dir e hd;obtain⟨q,hi,r⟩:=ig.1 hT;refine zgj (λv κ'=>∃b,v=.chan (some b)/\Step [] κ κ'/\Chn τ κ' b m.toNat []) h (λC a=>?_) ?_
  ·have f:=run_makeChan (w:=W C κ a) hd hi k m.toNat om (by rw[r];have:((m.toNat:Nat):Int)=m:=bh g;rw[this];exact p);have j:((m.toNat:Nat):Int)=m:=bh g;rw[j]at f;refine⟨_,κ.push (.chan m.toNat #[] false 0 0 false) 0 τ,a,by rw[ho];exact zH f,κ.H.size,rfl,zcY _ _ _ _,⟨⟨0,0,by simp[K.push]⟩,by simp[K.push],by simp[K.push],hτ⟩⟩
  ·rintro v κ' ⟨b,rfl,hs,hm⟩;exact hk b κ' hs hm
 ·cases hT
def zDU{d T:Nat}{r:Int}(h0:Chn τ κ b cap l)(hx:zAc l=some r)(hk:owp P n c (i+1) Q (upd E d (.int .i64 r)) κ)(h:st c i n E (some d)=true:=by kernel_rfl)(ho:execOp (ev E) (zx c i)=vOf (Builtin.len_ #[T] 0 #[.chan (some b)]):=by kernel_rfl)(hT:(zwK P T).isSome=true:=by kernel_rfl):owp P n c i Q E κ:=by
 obtain⟨g,_⟩:=zAb hx;subst g;obtain⟨s,r,a⟩:=h0.obj;unfold zwK at hT;split at hT
 ·rename_i dir e hd;refine zie _ h (λC f=>?_) hk;rw[ho];refine zH ?_;rw[run_len_chan T 0 hd (show(W C κ f).heap[b]?=_ from a)];simp[goInt]
 ·cases hT
end
def ne{α:Type}(l:List α):Option (List α):=
 match l with
 |[]=>none
 | x::l=>some (x::l)
def zCe{α:Type}{l r:List α}(h:ne l=some r):l=r/\r≠[]:=by
 cases l with
 | nil=>cases h
 | cons x l=>
  have:=Option.some.inj h;subst this;exact⟨rfl,by simp⟩
section
variable {P:Program} {E:Env} {c:Code} {i:Nat} {κ:K} {α:Type} {t:Ty α} {pub:Bool} {τ:Tag} {e T:TypeId} {a:Option Addr} {cp:Nat} {l:List α} {w:World} [DecidableEq α]
def zzv(hg:Gr t pub τ κ e a cp l)(hn:l=[]->a=none)(h:execOp (ev E) (zx c i)=vOf (do eqGuard .eql T (.tmp 0) (.const (.slice none 0 0)) (.slice a l.length cp) (.slice none 0 0);binOp .eql T (.slice a l.length cp) (.slice none 0 0)))(hT:zJ P T=some e):(execOp (ev E) (zx c i)).run P w=.ok (.value (.bool (decide (l=[])))) w:=by
 rw[h];refine zH ?_;have m:(eqGuard .eql T (.tmp 0) (.const (.slice none 0 0)) (.slice a l.length cp) (.slice none 0 0)).run P w=.ok () w:=by simp[eqGuard]
 rw[bd,m];simp only[bc];have hd:=zgG hT;have k:a.isNone=decide (l=[]):=by
  by_cases b:l=[]
  ·rw[hn b];simp[b]
  ·rcases hg.body with⟨_,j⟩ |⟨g,cur,xs,ha,_⟩
   ·exact absurd j b
   ·rw[ha];simp[b]
 rw[←k];have f:(Op.equal T (.slice a l.length cp) (.slice none 0 0)).run P w=.ok a.isNone w:=by
  show(Op.equalIn (9999+1) T (.slice a l.length cp) (.slice none 0 0)).run P w=_;exact Go.Lib.run_equalIn_slice_nil w 9999 T e a _ _ _ _ hd
 have d:binOp .eql T (.slice a l.length cp) (.slice none 0 0)=(do pure (.bool (←Op.equal T (.slice a l.length cp) (.slice none 0 0)))):=rfl;rw[d,bd,f];rfl
end
end Go.Lf
namespace Go.Lf
open Go Go.Sort
section
variable {P:Program} {f:FuncId} {args:Array Value} {κ:K} {τ:Tag} {e:TypeId} {a:Option Addr} {c:Nat} {l:List Int}
def zsV:∀{l:List Int} {xs:List Value},Rep tI64 κ xs l->xs=l.map (Value.int .i64)/\∀x∈l,I64 x
 |[],xs,h=>⟨h,λx f=>by cases f⟩
 | x::l,xs,⟨c,xs',e,ho,hr⟩=>by
  obtain⟨b,d⟩:=zsV hr;have:c=[.int .i64 x]:=ho.1;subst this;refine⟨by rw[e,b];rfl,λy a=>?_⟩;rcases fh.1 a with rfl | a
  ·exact ho.2
  ·exact d y a
def zAR:∀{l:List Int},(∀x∈l,I64 x)->Rep tI64 κ (l.map (Value.int .i64)) l
 |[],_=>rfl
 | x::l,h=>⟨[.int .i64 x],l.map (Value.int .i64),rfl,⟨rfl,h x si⟩,zAR (λy a=>h y (by simp[a]))⟩
def Fn.row_int{r:List Int}(hg:Gr tI64 false τ κ e a c l)(hlen:r.length=l.length)(hr:∀x∈r,I64 x)(hc:∀(w:World)(g:Nat),a=some ⟨g,0,none⟩->Holds (Value.int .i64) w g 0 l.toArray->Calls P f args w λex w'=>ex=.returned (.tuple #[])/\∃n,w'=putRow (Value.int .i64) (Sort.ahead w n) g 0 r.toArray)(h0:l=[]->∀w,Calls P f args w λex w'=>ex=.returned (.tuple #[])/\w'=w):
  Fn P f args κ (λv κ'=>Step (blk a c) κ κ'/\v=.tuple #[]/\Gr tI64 false τ κ' e a c r/\r.length=l.length):=by
 by_cases z:l=[]
 ·intro C d;refine(h0 z (W C κ d)).mono ?_;rintro ex w' ⟨t,A⟩;have:r=l:=by subst z;exact bz (by simpa using hlen)
  exact⟨_,κ,d,t,A,Step.refl _ _,rfl,by rw[this];exact hg,hlen⟩
 ·rcases hg.body with⟨_,t⟩ |⟨g,cur,xs,ha,hrp,hH,t,A,h3,h4,h5,h6,h7⟩
  ·exact absurd t z
  ·have J:0<l.length:=List.length_pos_iff.2 z;obtain⟨F,H⟩:=zsV hrp;have hsz:tI64.size=1:=rfl;rw[hsz,Nat.mul_one]at h3 h4;have p:Box τ κ g cur.toList e:=⟨by simpa using hH,by rw[h5];simp,h6,h7⟩;intro C d;have i:∀j (m:j<l.length),cur[j]?=some (Value.int .i64 l[j]):=λj m=>by
    have y:(cur.toList.take l.length)[j]?=(l.map (Value.int .i64))[j]?:=by rw[h4,F]
    rw[dv,if_pos m,dh,cz m]at y;simpa using y
   have B:Holds (Value.int .i64) (W C κ d) g 0 l.toArray:=λj m=>by
    have h:j<l.length:=by simpa using m
    refine⟨?_,?_⟩
    ·rw[zkz];unfold K.cell;rw[hH];simp only[ia];rw[i j h];simp[h]
    ·unfold World.frozen? W;simp[hH]
   refine(hc (W C κ d) g ha B).mono ?_;rintro ex w' ⟨G,n,L⟩;refine⟨_,κ.setB g (splice cur.toList 0 (r.map (Value.int .i64))) e,d+n,G,?_,?_,rfl,?_,hlen⟩
   ·rw[L];have q:κ.H.modify g (onCells (putCells (Value.int .i64) 0 r.toArray))=(κ.setB g (splice cur.toList 0 (r.map (Value.int .i64))) e).H:=by
     have s:g<κ.H.size:=(ai.1 hH).1;apply Array.ext_getElem?;intro k;rw[aj];by_cases E:g=k
     ·subst E;rw[if_pos rfl,hH];simp only[K.setB,Option.map_some,onCells];rw[an s];congr 2;apply Array.ext_getElem?;intro j;have D:(r.map (Value.int .i64)).length=l.length:=by rw[ef];exact hlen
      have u:cur.toList.length=c:=by simpa using h3
      unfold putCells;rw[Array.getElem?_mapIdx];have M:(splice cur.toList 0 (List.map (Value.int IntKind.i64) r)).toArray[j]?=(splice cur.toList 0 (List.map (Value.int IntKind.i64) r))[j]?:=by simp
      rw[M,zir _ _ _ _ om];by_cases m:j<l.length
      ·rw[if_pos om,i j m];have h:j<r.length:=by omega
       simp[h,getElem!_pos,cz h]
      ·rw[if_neg om];have h:¬j<r.length:=by omega
       cases hcj:cur[j]? with
       | none=>simp[hcj]
       | some v=>simp[hcj,h]
     ·rw[if_neg E];simp only[K.setB];rw[am E]
    unfold putRow mapBlock Sort.ahead W;simp only[];rw[q,Nat.add_assoc]
   ·exact(zma p).mono (λb I=>by rw[fq.1 I,ha];exact zlv (a:=⟨g,0,none⟩) om)
   ·have D:(r.map (Value.int .i64)).length=l.length:=by rw[ef];exact hlen
    have u:cur.toList.length=c:=by simpa using h3
    refine⟨by rw[hlen];exact hg.most,.inr ⟨g,_,r.map (Value.int .i64),ha,zAR hr,(zm1 p).obj,by rw[hlen];exact t,A,by rw[hsz,ga,zfU,u];omega,?_,by simp[K.setB,h5],h6,h7⟩⟩;rw[hsz,Nat.mul_one,hlen];apply ca;intro j;rw[dv];by_cases m:j<l.length
    ·rw[if_pos m,List.toList_toArray,zir _ _ _ _ om,if_pos om];simp
    ·rw[if_neg m,df om]
end
end Go.Lf
namespace Go.Lf
open Go
section
variable {P:Program} {α:Type} {t:Ty α} {κ:K} {e T:TypeId} {a:Option Addr} {cp:Nat} {l m:List α} {τ:Tag}
def Rep.drop:∀{l:List α} {xs:List Value} (i:Nat),Rep t κ xs l->Rep t κ (xs.drop (i*t.size)) (l.drop i)
 | l,xs,0,h=>by simpa using h
 |[],xs,i+1,h=>by
  have:xs=[]:=h;subst this;simp[Rep]
 | x::l,xs,i+1,⟨c,xs',e,ho,hr⟩=>by
  subst e;rw[List.drop_succ_cons];have a:=t.len ho;have:(c++xs').drop ((i+1)*t.size)=xs'.drop (i*t.size):=by
   rw[List.drop_append,List.drop_of_length_le (by rw[a,gi];omega),ft];congr 1;rw[a,gi];omega
  rw[this];exact hr.drop i
def Gr.splice{g:Nat}{cur:List Value}{vs:List Value}{lo:Nat}(hg:Gr t false τ κ e a cp l)(ha:a=some ⟨g,0,none⟩)(hb:Box τ κ g cur e)(hl0:0<l.length)(hm:Rep t κ vs m)(hlo:lo+m.length<=l.length)(hm0:0<m.length):
  lo*t.size+vs.length<=cur.length/\Step (blk a cp) κ (κ.setB g (splice cur (lo*t.size) vs) e)/\Gr t false τ (κ.setB g (splice cur (lo*t.size) vs) e) e a cp (l.take lo++m++l.drop (lo+m.length)):=by
 rcases hg.body with⟨_,w⟩ |⟨g',cur',xs,ha',hr,hH,h2,h3,h4,h5,h6,h7,h8⟩
 ·rw[w]at hl0;simp at hl0
 ·rw[ha]at ha';obtain rfl:g=g':=by injection ha' with ha';injection ha'
  have n:cur=cur'.toList:=by
   have:=hb.obj;rw[hH]at this;injection this with this
   injection this with this
   rw[this]
  subst n;have c:=hm.length;have i:cur'.toList.length=cp*t.size:=by simpa using h4
  have r:lo*t.size+m.length*t.size=(lo+m.length)*t.size:=by rw[gi]
  have s:(lo+m.length)*t.size<=l.length*t.size:=gy _ hlo;have v:l.length*t.size<=cp*t.size:=gy _ h2;have b:Step [g] κ (κ.setB g (Lf.splice cur'.toList (lo*t.size) vs) e):=zma hb;have hlen:(l.take lo++m++l.drop (lo+m.length)).length=l.length:=by
   rw[dy,dy,ey,ec];omega
  have f:Rep t (κ.setB g (Lf.splice cur'.toList (lo*t.size) vs) e) (xs.take (lo*t.size)++vs++xs.drop ((lo+m.length)*t.size)) (l.take lo++m++l.drop (lo+m.length)):=
   (((hr.take lo).step b).append (hm.step b)).append ((hr.drop _).step b)
  refine⟨by rw[c,i];omega,b.mono (λx y=>by rw[fq.1 y,ha];exact zlv (a:=⟨g,0,none⟩) om),by rw[hlen];exact hg.most,.inr ⟨g,_,_,ha,f,(zm1 hb).obj,by rw[hlen];exact h2,h3,by rw[ga,zfU,i],?_,h6,h7,h8⟩⟩;rw[hlen];have p:=hr.length;have d:(xs.take (lo*t.size)).length=lo*t.size:=by rw[ey,p];omega
  apply ca;intro j;rw[dv];by_cases k:j<l.length*t.size
  ·rw[if_pos k,List.toList_toArray,zir _ _ _ _ (by rw[c,i];omega),c];have h:∀j,j<l.length*t.size->cur'.toList[j]?=xs[j]?:=λj k=>by rw[←h5,dv,if_pos k]
   by_cases q:j<lo*t.size
   ·rw[if_neg om,h j k,bl,cq (by rw[d];exact q),dv,if_pos q]
   ·by_cases u:j<lo*t.size+m.length*t.size
    ·rw[if_pos om,bl,cv (by rw[d];omega),d,cq (by rw[c];omega)]
    ·rw[if_neg om,h j k,cv (by rw[dy,d,c];omega),dy,d,c,cw];congr 1;omega
  ·rw[if_neg k,df];rw[f.length,hlen];omega
end
section
variable {P:Program} {α:Type} {t:Ty α} {κ:K} {e T T2:TypeId} {a a2:Option Addr} {cp c2:Nat} {l l2:List α} {τ:Tag}
def cpy{α:Type}(l:List α)(lo:Nat)(l2:List α):List α:=l.take lo++l2.take (l.length - lo)++l.drop (lo+(l2.take (l.length - lo)).length)
def zwJ{l l2:List α}{lo:Nat}(h:lo<=l.length):(cpy l lo l2).length=l.length:=by
 unfold cpy;rw[dy,dy,ey,ec,ey];omega
def zsS{g lo dcap:Nat}{ty:TypeId}(hT:zJ P T=some e)(hs:zM P e=some t.size)(hg:Gr t false τ κ e a cp l)(ha:0<l.length->a=some ⟨g,0,none⟩)(hlo:lo<=l.length)(src:Value)(ys:List Value)(hys:Rep t κ ys l2){da:Option Addr}(hda:lo<l.length->da=some ⟨g,lo*t.size,none⟩)[Fb](C:Cx)(d:Nat)(hlen:∀w,(Builtin.lenOf src).run P w=.ok l2.length w)(hfirst:∀n,n<=l2.length->(Builtin.firstCells t.size n src).run P (W C κ d)=.ok (ys.take (n*t.size)).toArray (W C κ d)):
  ∃κ',(Builtin.copy_ #[T,T2] ty #[.slice da (l.length - lo) dcap,src]).run P (W C κ d)=.ok (.int .i64 (min l2.length (l.length - lo):Nat)) (W C κ' d)/\Step (blk a cp) κ κ'/\Gr t false τ κ' e a cp (cpy l lo l2):=by
 have i:=zgG hT;have B:Nat.min l2.length (l.length - lo)<=l2.length:=Nat.min_le_left _ _;by_cases r:Nat.min l2.length (l.length - lo)=0
 ·refine⟨κ,?_,Step.refl _ _,?_⟩
  ·have q:=hfirst 0 om;cases hd:da with
   | none=>simp[Builtin.copy_,zG i,hlen,za3 hs,r,q,goInt]
   | some x=>simp[Builtin.copy_,zG i,hlen,za3 hs,r,q,storeCells,goInt]
  ·have:cpy l lo l2=l:=by
    unfold cpy;have z:l2.take (l.length - lo)=[]:=by
     rcases Nat.eq_zero_or_pos l2.length with h | h
     ·rw[bz h];simp
     ·have:l.length - lo=0:=by
       have:=r;simp only[Nat.min_def]at this;split at this<;>omega
      rw[this];simp
    rw[z];simp
   rw[this];exact hg
 ·have f:Nat.min l2.length (l.length - lo)=min l2.length (l.length - lo):=rfl;have b:0<l2.length/\lo<l.length:=by
   rw[f]at r;omega
  have p:=ha om;have m:=hda b.2;rcases hg.body with⟨_,y⟩ |⟨g',cur,xs,hga,hr,hH,h2,h3,h4,h5,h6,h7,h8⟩
  ·rw[y]at b;simp at b
  ·have:g=g':=by rw[p]at hga;injection hga with hga;injection hga
   subst this;have c:Box τ κ g cur.toList e:=⟨by simpa using hH,by rw[h6];simp,h7,h8⟩;have hm:=hys.take (min l2.length (l.length - lo));have k:(l2.take (min l2.length (l.length - lo))).length=min l2.length (l.length - lo):=by rw[ey];omega
   obtain⟨v,A,u⟩:=hg.splice p c om hm (lo:=lo) (by rw[k];omega) (by rw[k];omega);have s:l.take lo++l2.take (min l2.length (l.length - lo))++l.drop (lo+(l2.take (min l2.length (l.length - lo))).length)=cpy l lo l2:=by
    unfold cpy;have:l2.take (min l2.length (l.length - lo))=l2.take (l.length - lo):=by
     rcases Nat.le_total l2.length (l.length - lo)with h | h
     ·rw[Nat.min_eq_left h,gg (gl _),gg h]
     ·rw[Nat.min_eq_right h]
    rw[this]
   rw[s]at u;refine⟨_,?_,A,u⟩;have q:=hfirst (min l2.length (l.length - lo)) (Nat.min_le_left _ _);have j:=zmB (P:=P) (C:=C) (d:=d) (off:=lo*t.size) (ys.take (min l2.length (l.length - lo)*t.size)) 0 κ cur.toList c hm.one (by simpa using v);rw[Nat.add_zero]at j;rw[m];simp[Builtin.copy_,zG i,hlen,za3 hs,f,q,j,goInt]
end
structure Rec(N i:Nat)(κ:K)(b:Nat)(ob:Obj):Prop where
 o:Own (N,i) κ b
 obj:κ.H[b]?=some ob
def Rec.step{M:List Nat}{N i b:Nat}{κ κ':K}{ob:Obj}(s:Step M κ κ')(hm:b∉M)(h:Rec N i κ b ob):Rec N i κ' b ob:=by
 have hs:=s.2.1 b h.o.lt hm;exact⟨⟨gq h.o.lt s.1,hs.2.1.trans h.o.fr,hs.2.2.trans h.o.tag,h.o.ge⟩,hs.1.trans h.obj⟩
def Rec.step0{N i b:Nat}{κ κ':K}{ob:Obj}(s:Step [] κ κ')(h:Rec N i κ b ob):Rec N i κ' b ob:=h.step s si
def Rec.ge{N i b:Nat}{κ:K}{ob:Obj}(h:Rec N i κ b ob):N<=b:=h.o.ge
def zrW{N i b:Nat}{κ:K}{ob:Obj}(h:Rec N i κ b ob)(ob':Obj):Step [b] κ (κ.setO b ob')/\Rec N i (κ.setO b ob') b ob':=
 ⟨zl9 h.o.fr,⟨⟨by simp[K.setO];exact h.o.lt,h.o.fr,h.o.tag,h.o.ge⟩,by simp[K.setO,h.o.lt]⟩⟩
def zx3[Fb](C:Cx)(κ:K)(d b:Nat)(o:Obj):(W C κ d).putObj b o=W C (κ.setO b o) d:=rfl
def tsF(F:Nat)(τ:Tag):Bool:=Nat.beq τ.2 999||Nat.beq (τ.2 / 1000) F
def nI(F:Nat)(τ:Tag):Bool:=!(Nat.beq τ.2 998)&&!(tsF F τ)
def tb(F:Nat)(κ:K):List Nat:=(List.range κ.H.size).filter λb=>tsF F (κ.tag b)
def zuD{F:Nat}{κ:K}{b:Nat}:b∈tb F κ↔b<κ.H.size/\tsF F (κ.tag b)=true:=by
 unfold tb;rw[fi,fp]
def zCP{F:Nat}{τ:Tag}(h:nI F τ=true):tsF F τ=false:=by
 unfold nI at h;simp only[aw,ba]at h;exact h.2
def zDW{F:Nat}{τ:Tag}(h:nI F τ=true):τ.2≠998:=by
 unfold nI at h;simp only[aw,ba]at h;intro e;rw[e]at h;simp at h
def zDV{F:Nat}{τ:Tag}(h:nI F τ=true):τ.2≠999:=by
 have:=zCP h;unfold tsF at this;simp only[Bool.or_eq_false_iff]at this;intro e;rw[e]at this;simp at this
section
variable {F:Nat} {κr κ κ1 κ2:K} {M:List Nat} {τ:Tag}
def Step.trY(h:Step (tb F κr) κr κ1)(hb:∀b∈M,tsF F (κ1.tag b)=true)(s:Step M κ1 κ2):Step (tb F κr) κr κ2:=
 h.trM (λb hm=>by
  by_cases a:b<κr.H.size
  ·by_cases c:b∈tb F κr
   ·exact .inl c
   ·have:=h.2.1 b a c;have d:=hb b hm;rw[this.2.2]at d;exact .inl (zuD.2 ⟨a,d⟩)
  ·exact .inr (Nat.le_of_not_lt a)) s
def Step.trT(h:Step M κ κ1)(hM:∀b∈tb F κ,b∈M)(s:Step (tb F κ1) κ1 κ2):Step M κ κ2:=
 h.trM (λb hm=>by
  by_cases a:b<κ.H.size
  ·by_cases c:b∈M
   ·exact .inl c
   ·have e:=h.2.1 b a c;have d:=(zuD.1 hm).2;rw[e.2.2]at d;exact .inl (hM b (zuD.2 ⟨a,d⟩))
  ·exact .inr (Nat.le_of_not_lt a)) s
def Own.tb1{b:Nat}(h:Own τ κ b)(ht:tsF F τ=true):∀x∈[b],tsF F (κ.tag x)=true:=λx a=>by
 rw[fq.1 a,h.tag];exact ht
def Own.ntb{b:Nat}(h:Own τ κ b)(ht:tsF F τ=false):b∉tb F κ:=λa=>by
 have:=(zuD.1 a).2;rw[h.tag,ht]at this;cases this
def Box.ntb{b:Nat}{cs:List Value}{T:TypeId}(h:Box τ κ b cs T)(ht:tsF F τ=false):b∉tb F κ:=h.o.ntb ht
def Gr.tb1{α:Type}{t:Ty α}{pub:Bool}{e:TypeId}{a:Option Addr}{c:Nat}{l:List α}(h:Gr t pub τ κ e a c l)(ht:tsF F τ=true):∀x∈blk a c,tsF F (κ.tag x)=true:=λx b=>by
 rw[(h.lt x b).2.1];exact ht
def Gr.ntb{α:Type}{t:Ty α}{pub:Bool}{e:TypeId}{a:Option Addr}{c:Nat}{l:List α}(h:Gr t pub τ κ e a c l)(ht:tsF F τ=false):∀x∈blk a c,x∉tb F κ:=λx b d=>by
 have:=(zuD.1 d).2;rw[(h.lt x b).2.1,ht]at this;cases this
def Stab{σ:Type}(F B:Nat)(J:σ->K->Prop):Prop:=
 ∀{s:σ} {κ κ':K} {M:List Nat},J s κ->Step M κ κ'->(∀b∈M,b<κ.H.size->nI F (κ.tag b)=true/\B<=b)->J s κ'
def Stab.j0{σ:Type}{B:Nat}{J:σ->K->Prop}(h:Stab F B J){s:σ}(hj:J s κ)(st:Step [] κ κ1):J s κ1:=h hj st (λb a=>by cases a)
def Stab.jo{σ:Type}{B b:Nat}{J:σ->K->Prop}(h:Stab F B J){s:σ}(hj:J s κ)(st:Step [b] κ κ1)(ho:Own τ κ b)(ht:nI F τ=true)(hB:B<=b):J s κ1:=
 h hj st (λx a _=>by rw[fq.1 a,ho.tag];exact⟨ht,hB⟩)
end
def Yl[Fb](P:Program)(l:Nat)(args:Array Value)(κ:K)(R:K->Prop):Prop:=
 ∀C d,∃fn tmps assign body,(Instr.yield l args).run P (W C κ d)=.ok (.round l fn tmps assign body) (W C κ d)/\
  RoundIn Fence.wide 0 P l fn tmps assign body (W C κ d) (λe w'=>e=.returned (.bool true)/\∃κ' d',w'=W C κ' d'/\R κ')
section
variable [Fc] [Fb] {P:Program} {n:Nat} {c:Code} {i:Nat} {Q:zaY} {E:Env} {κ:K}
def zyf{m:Nat}{l:Nat}{f:FuncId}{tmps:Array Value}{assign body:Code}{w:World}{R:Ending->World->Prop}(h:RoundIn Fence.wide m P l f tmps assign body w R):RoundIn FF m P l f tmps assign body w R:=h
def oyl{l:Nat}{args:Array Value}{R:K->Prop}(d:Nat)(hy:Yl P l args κ R)(hk:∀κ',R κ'->owp P n c (i+1) Q (upd E d (.bool true)) κ')(hr:∀w,(execOp (ev E) (zx c i)).run P w=(Instr.yield l args).run P w:=by intro _;kernel_rfl)(h:st c i n E (some d)=true:=by kernel_rfl):owp P n c i Q E κ:=by
 refine znn h λC j a k=>?_;obtain⟨v,u,s,p⟩:=zh8 h;obtain⟨fn,tmps,b,g,f,q⟩:=hy C j;unfold Oper.wpIn;rw[zrS (nx:=.round l fn tmps b g) (w':=W C κ j) (by rw[k.eval,hr];exact f) (λ_ e=>by cases e)];refine⟨λ_ _=>trivial,λt=>?_,(zyf q).mono ?_⟩
 ·simp[FF,Fence.wide]at t
 ·rintro e w' ⟨rfl,κ',r,rfl,m⟩;simp only[s];exact hk κ' m C r _ (k.put (p d rfl) _)
end
def zAo(E:Env):List Nat->List Value->Env
 | p::ps,v::vs=>zAo (upd E p v) ps vs
 | _,_=>E
def zz5{inst:Fc}{n:Nat}(ps:List Nat):∀(vs:List Value)(t:Array Value)(E:Env),(∀p∈ps,p<n) -> @Fits inst n {tmps:=t,defers:=inst.ds} E->
  @Fits inst n {tmps:=(ps.zip vs).foldl (λt (p,v)=>t.setIfInBounds p v) t,defers:=inst.ds} (zAo E ps vs):=by
 induction ps with
 | nil=>intro vs t E _ h;exact h
 | cons p ps ih=>
  intro vs t E hp h;cases vs with
  | nil=>exact h
  | cons v vs=>
   refine ih vs _ _ (λq a=>hp q (by simp[a])) ?_;exact h.put (hp p si) v
def zDK:Code->Option (Operand×List Nat)
 | .rangeFunc g ps _ _=>some (g,ps.toList)
 | _=>none
def zyg[Fc][Fb](P:Program)(n:Nat)(body:Code)(N l:Nat)(o1 o2:Obj)(Q:zaY):zaY:=λe E κ=>
 match e with
 | .normal=>Rec N 999 κ l o1/\∀κ',Step [l] κ κ'->Rec N 999 κ' l o2->cwp P n body Q E κ'
 | _=>False
def zAO(N l:Nat)(o2:Obj)(F:Nat)(κr:K)(J:K->Prop):zaY:=λe _ κ=>
 match e with
 | .normal=>Rec N 999 κ l o2/\Step (tb F κr) κr κ/\J κ
 | _=>False
def rfb[Fc][Fb]{P:Program}{n:Nat}{body:Code}{N l:Nat}{o1 o2:Obj}{Q:zaY}{E:Env}{κ:K}(h:Rec N 999 κ l o1)(hk:∀κ',Step [l] κ κ'->Rec N 999 κ' l o2->cwp P n body Q E κ'):
  zyg P n body N l o1 o2 Q .normal E κ:=⟨h,hk⟩
def rfe{N l:Nat}{o2:Obj}{F:Nat}{κr κ:K}{J:K->Prop}{E:Env}(h:Rec N 999 κ l o2)(hy:Step (tb F κr) κr κ)(hj:J κ):zAO N l o2 F κr J .normal E κ:=⟨h,hy,hj⟩
def zBD[Fb](P:Program)(n:Nat)(c:Code)(fn:Func)(R:Value->K->Prop)(E:Env)(κ:K):Prop:=
 ∀C d a,@Fits fc0 n a E->c.wpIn Fence.wide 0 P (bodyPostM Fence.wide 0 P fn (λe w'=>∃v κ' d',e=.returned v/\w'=W C κ' d'/\R v κ')) a (W C κ d)
def zDX{P:Program}{f:FuncId}{fn:Func}{args:Array Value}{κ:K}{R:Value->K->Prop}(n:Nat)(M:List Nat)(hf:P.funcs[f]?=some fn)(hn:fn.ntmps=n)(h:Step M κ κ->zBD P n (sub (zB fn) []) fn R (zuV args) κ)(hb:fn.body=some (zB fn):=by kernel_rfl)(ha:Nat.ble args.size n=true:=by kernel_rfl):Fn P f args κ R:=by
 intro C d;have b : @Fits fc0 n {tmps:=args++Array.replicate (fn.ntmps - args.size) undef,defers:=[]} (zuV args):=by
  have e:=gk ha;refine⟨by simp[hn];omega,rfl,λt=>?_⟩;unfold zuV;by_cases c:t<args.size
  ·simp[ab,c]
  ·by_cases a:t - args.size<fn.ntmps - args.size
   ·simp[ab,c,a]
   ·simp[ab,c,a]
 exact(callsIn_wide (n:=0)).1 (callsIn_of_wp_marks hf hb trivial (h (Step.refl _ _) C d _ b))
def zAr[Fb](P:Program)(n:Nat)(c:Code)(fn:Func)(R:Value->K->Prop):zaY:=λe E κ=>
 match e with
 | .normal=>zBD P n c fn R E κ
 | _=>False
def csM{P:Program}{n:Nat}{c:Code}{p:List Nat}{fn:Func}{R:Value->K->Prop}{E:Env}{κ:K}(hx:cwp P n (sub c (0::p)) (zAr P n (sub c (1::p)) fn R) E κ)(h:zot (sub c p)=true:=by kernel_rfl):zBD P n (sub c p) fn R E κ:=by
 have i:sub c (0::p)=zgY 0 (sub c p):=rfl;have j:sub c (1::p)=zgY 1 (sub c p):=rfl;rw[i,j]at hx;clear i j;generalize sub c p=s at *;cases s<;>simp[zot]at h;rename_i x y;intro C d a k;have b:cwp P n x (zAr P n y fn R) E κ:=hx;refine wpIn_seq (wpIn_mono (b C d a k) ?_);rintro e a' w' ⟨m,κ',l,f,rfl,g⟩;cases e with
 | normal=>exact g C l a' f
 | _=>exact g.elim
def tMn{P:Program}{n:Nat}{c:Code}{fn:Func}{R:Value->K->Prop}{E:Env}{κ:K}(h:zBD P n c fn R E κ):zAr P n c fn R .normal E κ:=h
def zDC[Fb](P:Program)(n:Nat)(b r:Code)(fn:Func)(R:Value->K->Prop)(E:Env)(κ:K):Prop:=
 ∀C d a,@Fits fc0 n a E->b.wpIn Fence.wide 0 P (Exit.then (r.wpIn Fence.wide 0 P (bodyPostM Fence.wide 0 P fn (λe w'=>∃v κ' d',e=.returned v/\w'=W C κ' d'/\R v κ'))) (bodyPostM Fence.wide 0 P fn (λe w'=>∃v κ' d',e=.returned v/\w'=W C κ' d'/\R v κ'))) a (W C κ d)
def zAs[Fb](P:Program)(n:Nat)(b r:Code)(fn:Func)(R:Value->K->Prop):zaY:=λe E κ=>
 match e with
 | .normal=>zDC P n b r fn R E κ
 | _=>False
def tBn{P:Program}{n:Nat}{b r:Code}{fn:Func}{R:Value->K->Prop}{E:Env}{κ:K}(h:zDC P n b r fn R E κ):zAs P n b r fn R .normal E κ:=h
def csB{P:Program}{n:Nat}{c:Code}{p:List Nat}{fn:Func}{R:Value->K->Prop}{E:Env}{κ:K}(hx:cwp P n (sub c (0::0::p)) (zAs P n (sub c (1::0::p)) (sub c (1::p)) fn R) E κ)(h:zot (sub c p)=true:=by kernel_rfl)(h':zot (sub c (0::p))=true:=by kernel_rfl):zBD P n (sub c p) fn R E κ:=by
 have g:sub c (0::0::p)=zgY 0 (zgY 0 (sub c p)):=rfl;have l:sub c (1::0::p)=zgY 1 (zgY 0 (sub c p)):=rfl;have i:sub c (1::p)=zgY 1 (sub c p):=rfl;have k:sub c (0::p)=zgY 0 (sub c p):=rfl;rw[g,l,i]at hx;rw[k]at h';clear g l i k;generalize sub c p=s at *;cases s<;>simp[zot]at h;rename_i x z;simp only[zgY,if_true]at h';cases x<;>simp[zot]at h';rename_i x y;intro C d a m;have b:cwp P n x (zAs P n y z fn R) E κ:=hx;refine wpIn_seq (wpIn_seq (wpIn_mono (b C d a m) ?_));rintro e a' w' ⟨r,κ',q,f,rfl,j⟩;cases e with
 | normal=>exact j C q a' f
 | _=>exact j.elim
def zr4(D:Nat):List Deferred:=[{target:=.collected D,args:=#[]}]
def zAP[Fb](P:Program)(fn:Func)(R:Value->K->Prop)(N D:Nat):zaY:=λe E κ=>
 match e with
 | .normal | .ret=>Rec N 998 κ D (.deferred (some []))/\∀κ',Step [D] κ κ'->Rec N 998 κ' D (.deferred none)->zlS P fn R e E κ'
 | _=>False
def rtM{P:Program}{fn:Func}{R:Value->K->Prop}{N D:Nat}{E:Env}{κ:K}(h:Rec N 998 κ D (.deferred (some [])))(hk:∀κ',Step [D] κ κ'->Rec N 998 κ' D (.deferred none)->zlS P fn R .ret E κ'):
  zAP P fn R N D .ret E κ:=⟨h,hk⟩
def zxD{P:Program}{n:Nat}{fn:Func}{R:Value->K->Prop}{N D:Nat}[Fb]{C:Cx}{e:Exit}{E:Env}{κ:K}{d:Nat}{a:Act}{inst:Fc}(hd:inst.ds=zr4 D)(hf : @Fits inst n a E)(hq:zAP P fn R N D e E κ):bodyPostM Fence.wide 0 P fn (λe w'=>∃v κ' d',e=.returned v/\w'=W C κ' d'/\R v κ') e a (W C κ d):=by
 have key:∀(h:Rec N 998 κ D (.deferred (some [])))(v:Value),(∀C d,(zzw fn E).run P (W C (κ.setO D (.deferred none)) d)=.ok v (W C (κ.setO D (.deferred none)) d))->R v (κ.setO D (.deferred none))->
   LeavesInM Fence.wide 0 P fn a.tmps (λe w'=>∃v κ' d',e=.returned v/\w'=W C κ' d'/\R v κ') a.defers .returning (W C κ d):=by
  intro h v b c;have g:a.defers=zr4 D:=hf.defers.trans hd;rw[g];refine⟨by simp,.inl ⟨D,W C (κ.setO D (.deferred none)) d,rfl,run_takeDeferred (ds:=[]) h.obj,?_⟩⟩;exact⟨v,by rw[zwh hf];exact b C d,v,_,d,rfl,rfl,c⟩
 cases e with
 | normal=>
  obtain⟨h,f⟩:=hq;obtain⟨hs,i⟩:=zrW h (.deferred none);obtain⟨v,b,c⟩:=f _ hs i;exact key h v b c
 | ret=>
  obtain⟨h,f⟩:=hq;obtain⟨hs,i⟩:=zrW h (.deferred none);obtain⟨v,b,c⟩:=f _ hs i;exact key h v b c
 | _=>exact hq.elim
def zCC{P:Program}{f:FuncId}{args:Array Value}{w:World}(hf:zdm P f=true):(callFunc f args).run P w=.ok (.enter f args) w:=za4 rfl hf
def zza{σ A:Type}{P:Program}{n:Nat}{c:Code}{p pr:List Nat}{fn:Func}{R:Value->K->Prop}{E:Env}{κ:K}{id:Nat}{g:Operand}{ps:List Nat}{gf:Nat}{lb:Array Value}(F B:Nat)(J:σ->K->Prop)(ok:K->A->Prop)(enc:K->A->List Value->Prop)(y:σ->A->Option σ)(s0:σ)(r:σ)(hB:B<=κ.H.size)(hJ:∀{s:σ} {κ κ':K} {M:List Nat},J s κ->Step M κ κ'->(∀b∈M,b<κ.H.size->Nat.beq ((κ.tag b).2 / 1000) F=false/\B<=b)->J s κ')(h0:J s0 κ)(hround:∀{l N:Nat} {o1 o2:Obj} {κ':K} {s L:σ} {a:A} {vs:List Value},κ.H.size<=N->Rec N 999 κ' l o1->J s κ'->ok κ' a->enc κ' a vs->y s a=some L->
   vs.length=ps.length/\∀inst:Fc,inst.ds=[] -> @cwp inst _ P n (sub c (0::0::p)) (@zyg inst _ P n (sub c (1::0::p)) N l o1 o2 (zAO N l o2 F κ' (J L))) (zAo E ps vs) κ')(hit:∀{J':σ->K->Prop} {l:Nat} {κ1:K},Step [] κ κ1->Stab F B J'->
   (∀{κ':K} {s L:σ} {a:A} {vs:List Value},J' s κ'->ok κ' a->enc κ' a vs->y s a=some L->Yl P l vs.toArray κ' (λκ''=>Step (tb F κ') κ' κ''/\J' L κ''))->
   J' s0 κ1->Fn P gf (#[.func (.yield l) #[] #[]]++lb) κ1 (λ_ κ2=>J' r κ2))(hafter:∀{N D:Nat} {κ2:K},κ.H.size<=N->Rec N 998 κ2 D (.deferred (some []))->J r κ2->∀inst:Fc,inst.ds=zr4 D -> @cwp inst _ P n (sub c pr) (zAP P fn R N D) E κ2)(hg:ev E g=.func (.func gf) #[] lb:=by kernel_rfl)(hF:Nat.blt 0 F=true:=by kernel_rfl)(h2:zsA (sub c p)=some id:=by kernel_rfl)(h3:zDK (sub c (0::p))=some (g,ps):=by kernel_rfl)(hps:ps.all (λq=>Nat.blt q n)=true:=by kernel_rfl)(hgf:zdm P gf=true:=by kernel_rfl):zDC P n (sub c p) (sub c pr) fn R E κ:=by
 have Y:∀q∈ps,q<n:=λq hq=>by
  have:=bi.1 hps q hq;exact gk this
 have e7:0<F:=gk hF;have e3:sub c (0::p)=zgY 0 (sub c p):=rfl;have e4:sub c (0::0::p)=zgY 0 (zgY 0 (sub c p)):=rfl;have e5:sub c (1::0::p)=zgY 1 (zgY 0 (sub c p)):=rfl;simp only[e4,e5]at hround;rw[e3]at h3;clear e3 e4 e5;generalize sub c pr=rest at *;generalize sub c p=s at *;cases s<;>simp[zsA]at h2;rename_i id' x;subst h2;simp only[zgY]at h3 hround;cases x<;>simp[zDK]at h3;rename_i g' ps' assign body;obtain⟨rfl,a4⟩:=h3;simp only[zgY,if_true]at hround;have I:∀{l N:Nat} {o1 o2:Obj} {κ':K} {s L:σ} {a:A} {vs:List Value},κ.H.size<=N->Rec N 999 κ' l o1->J s κ'->ok κ' a->enc κ' a vs->y s a=some L->
   vs.length=ps.length/\∀inst:Fc,inst.ds=[] -> @cwp inst _ P n assign (@zyg inst _ P n body N l o1 o2 (zAO N l o2 F κ' (J L))) (zAo E ps vs) κ':=hround
 have z:∀{N D:Nat} {κ2:K},κ.H.size<=N->Rec N 998 κ2 D (.deferred (some []))->J r κ2->∀inst:Fc,inst.ds=zr4 D -> @cwp inst _ P n rest (zAP P fn R N D) E κ2:=hafter;clear hround hafter;intro C d a X;refine wpIn_block ?_;refine wpIn_rangeFunc ?_;intro c4 d7;have c1:Fence.wide.round=none:=rfl;rw[c1];obtain⟨sz,hsz⟩:∃sz,κ.H.size=sz:=⟨_,rfl⟩;obtain⟨f,i⟩:∃f:LoopState->Option Code->Loop,f=λst pe=>{state:=st,pending:=pe,fn:=c4,tmps:=a.tmps,params:=ps',assign,body,defers:=sz}:=⟨_,rfl⟩;obtain⟨κ0,j⟩:∃κ0,κ0=κ.push (.deferred (some [])) 0 (sz,998):=⟨_,rfl⟩;obtain⟨κ1,k⟩:∃κ1,κ1=κ0.push (.loop (f .ready none)) 0 (sz,999):=⟨_,rfl⟩;have d4:Step [] κ κ0:=by rw[j];exact zcY _ _ _ _
 have a9:Step [] κ0 κ1:=by rw[k];exact zcY _ _ _ _
 have s1:Step [] κ κ1:=d4.trans a9;have H:κ0.H.size=sz+1:=by rw[j,←hsz];simp[K.push]
 have b4:Rec sz 998 κ0 sz (.deferred (some [])):=by
  refine⟨⟨by rw[H];omega,?_,?_,gl _⟩,?_⟩
  ·rw[j];simp[K.push,hsz]
  ·rw[j];simp[K.push,hsz]
  ·rw[j];simp[K.push,←hsz]
 have rD:Rec sz 998 κ1 sz (.deferred (some [])):=b4.step0 a9;have rL:Rec sz 999 κ1 (sz+1) (.loop (f .ready none)):=by
  refine⟨⟨by rw[k];simp[K.push,H],?_,?_,by simp⟩,?_⟩
  ·rw[k];simp[K.push,H]
  ·rw[k];simp[K.push,H]
  ·rw[k];simp[K.push,←H]
 have b7:((W C κ d).alloc (.deferred (some []))).alloc (.loop (f .ready none))=W C κ1 d:=by rw[k,j];rfl
 have c0:Stab F B (λs κ'=>J s κ'/\Rec sz 999 κ' (sz+1) (.loop (f .ready none))/\Rec sz 998 κ' sz (.deferred (some []))):=by
  intro s κa κb M h st hM;refine⟨hJ h.1 st (λb u S=>?_),h.2.1.step st (λu=>?_),h.2.2.step st (λu=>?_)⟩
  ·have:=zCP (hM b u S).1;unfold tsF at this;simp only[Bool.or_eq_false_iff]at this;exact⟨this.2,(hM b u S).2⟩
  ·have:=zDV (hM _ u h.2.1.o.lt).1;rw[h.2.1.o.tag]at this;exact this rfl
  ·have:=zDW (hM _ u h.2.2.o.lt).1;rw[h.2.2.o.tag]at this;exact this rfl
 have O:Nat.beq (999 / 1000) F=false:=by
  cases u:Nat.beq (999 / 1000) F with
  | false=>rfl
  | true=>have:=gj u;simp at this;omega
 have jl:∀{s:σ} {κa κb:K} {o:Obj},J s κa->Step [sz+1] κa κb->Rec sz 999 κa (sz+1) o->J s κb:=λh st hr=>
  hJ h st (λb u _=>by rw[fq.1 u,hr.o.tag];exact⟨O,by omega⟩)
 have c2:a.eval g'=.func (.func gf) #[] lb:=by rw[X.eval];exact hg
 refine⟨sz+1,zr4 sz,W C κ1 d,{target:=.fn (.func gf) lb,args:=#[.func (.yield (sz+1)) #[] #[]]},W C κ1 d,gf,#[.func (.yield (sz+1)) #[] #[]]++lb,W C κ1 d,?_,?_,?_,?_,λh=>(by simp[Fence.wide]at h),?_⟩
 ·rw[←b7,i,←hsz];exact run_enterLoop_outer _ _ _ _ _
 ·simp only[resolve,c2];simp[go_sem]
 ·intro f' f0;trivial
 ·simp[invoke,go_sem,zCC hgf]
 ·refine CallsIn.mono ((callsIn_wide (n:=0 - 1)).2 (hit (J':=λs κ'=>J s κ'/\Rec sz 999 κ' (sz+1) (.loop (f .ready none))/\Rec sz 998 κ' sz (.deferred (some []))) (l:=sz+1) s1 c0 ?_ ⟨hJ h0 s1 (λb u=>by cases u),rL,rD⟩ C d)) ?_
  ·
   rintro κ' s L x vs ⟨hj,V,hD⟩ hok henc hy C' d';obtain⟨hlen,b8⟩:=I (o2:=.loop {f .ready none with state:=.busy}) om V hj hok henc hy;have S:sz+1<κ'.H.size:=V.o.lt;have a5:=run_yield (P:=P) (w:=W C' κ' d') (args:=vs.toArray) V.obj (by rw[i];simp only[ga];rw[hlen,←a4];simp);rw[i]at a5;refine⟨_,_,_,_,a5,roundIn_of_wpIn trivial ?_⟩;have a6 : @Fits ⟨some (sz+1),[]⟩ n {tmps:=(ps'.zip vs.toArray).foldl (λt (p,v)=>t.setIfInBounds p v) a.tmps,defers:=[]} (zAo E ps vs):=by
    have h:=zz5 (inst:=⟨some (sz+1),[]⟩) ps vs a.tmps E Y (@Fits.mk ⟨some (sz+1),[]⟩ n {tmps:=a.tmps,defers:=[]} E X.size rfl X.tmps);have e:(ps'.zip vs.toArray)=(ps.zip vs).toArray:=by
     rw[←a4];obtain⟨q⟩:=ps';exact List.zip_toArray _ _
    rw[e];simpa using h
   refine wpIn_mono (b8 ⟨some (sz+1),[]⟩ rfl C' d' _ a6) ?_;rintro e a1 w1 ⟨E1,κa,da,c8,rfl,hq⟩;cases e with
   | normal=>
    obtain⟨a8,hk⟩:=hq;obtain⟨c5,b6⟩:=zrW a8 (.loop {f .ready none with state:=.busy});refine⟨_,run_beginRound (r:=f .ready none) a8.obj (by rw[i]),?_⟩;rw[zx3];refine wpIn_mono (hk _ c5 b6 C' da a1 c8) ?_;rintro e a2 w2 ⟨E2,κb,db,f2,rfl,b0⟩;cases e with
    | normal=>
     obtain⟨m,Q,d0⟩:=b0;obtain⟨U,b5⟩:=zrW m (.loop (f .ready none));have G:=run_endRound (P:=P) (w:=W C' κb db) (l:=sz+1) none m.obj;refine⟨_,_,G,rfl,κb.setO (sz+1) (.loop (f .ready none)),db,?_,?_,?_,b5,?_⟩
     ·rw[zx3];rw[i];rfl
     ·exact Q.trY (m.o.tb1 rfl) U
     ·exact jl d0 U m
     ·refine hD.step (Q.trY (m.o.tb1 rfl) U) (hD.o.ntb ?_);unfold tsF;have:Nat.beq (998 / 1000) F=false:=O;rw[this];rfl
    | _=>exact b0.elim
   | _=>exact hq.elim
  ·
   rintro e w2 ⟨v,κ2,Z,rfl,rfl,hj,V,hD⟩;obtain⟨T,c3⟩:∃T:Obj,T=.loop {f .ready none with state:=.exhausted}:=⟨_,rfl⟩;obtain⟨a0,m⟩:=zrW V T;have G:(Instr.endLoop (sz+1)).run P (W C κ2 Z)=.ok none (W C (κ2.setO (sz+1) T) Z):=by
    have:=run_endLoop (P:=P) (w:=W C κ2 Z) (l:=sz+1) V.obj (by rw[i];simp);rw[this,c3,i];rfl
   refine⟨none,_,G,?_⟩;show(Exit.inBlock id' _) Exit.normal _ _;simp only[Exit.inBlock,Exit.then];have c6:Rec sz 998 (κ2.setO (sz+1) T) sz (.deferred (some [])):=hD.step a0 si;have d5:J r (κ2.setO (sz+1) T):=jl hj a0 V;have a7:Code.wpIn Fence.wide 0 P rest (@zqJ ⟨none,zr4 sz⟩ _ n C (zAP P fn R sz sz)) {a with defers:=zr4 sz++a.defers} (W C (κ2.setO (sz+1) T) Z):=
    z om c6 d5 ⟨none,zr4 sz⟩ rfl C Z {a with defers:=zr4 sz++a.defers} (@Fits.mk ⟨none,zr4 sz⟩ n _ E X.size (by rw[X.defers];rfl) X.tmps)
   refine wpIn_mono a7 ?_;rintro e a3 w3 ⟨E3,κ3,d3,b9,rfl,c9⟩;exact zxD (inst:=⟨none,zr4 sz⟩) rfl b9 c9
section
variable {F B:Nat} {κ κ1 κ2:K} {M M':List Nat} {τ:Tag}
def Step.trZ(h:Step M κ κ1)(st:Step M' κ1 κ2)(hM:∀b∈M',b<κ1.H.size->Nat.beq ((κ1.tag b).2 / 1000) F=false/\κ.H.size<=b):Step M κ κ2:=
 h.trM (λb c=>.inr (by
  by_cases a:b<κ1.H.size
  ·exact(hM b c a).2
  ·exact gm h.1 (Nat.le_of_not_lt a))) st
def Own.stepZ{b:Nat}(h:Own τ κ b)(hM:∀b∈M,b<κ.H.size->Nat.beq ((κ.tag b).2 / 1000) F=false/\B<=b)(ht:Nat.beq (τ.2 / 1000) F=true):b∉M:=λa=>by
 have:=(hM b a h.lt).1;rw[h.tag,ht]at this;cases this
def Box.stepZ{b:Nat}{cs:List Value}{T:TypeId}(h:Box τ κ b cs T)(st:Step M κ κ1)(hM:∀b∈M,b<κ.H.size->Nat.beq ((κ.tag b).2 / 1000) F=false/\B<=b)(ht:Nat.beq (τ.2 / 1000) F=true):Box τ κ1 b cs T:=
 h.step st (h.o.stepZ hM ht)
def Gr.stepZ{α:Type}{t:Ty α}{pub:Bool}{e:TypeId}{a:Option Addr}{c:Nat}{l:List α}(h:Gr t pub τ κ e a c l)(st:Step M κ κ1)(hM:∀b∈M,b<κ.H.size->Nat.beq ((κ.tag b).2 / 1000) F=false/\B<=b)(ht:Nat.beq (τ.2 / 1000) F=true):Gr t pub τ κ1 e a c l:=
 h.step st (λg d f=>by
  have:=(hM g f (h.lt g d).1).1;rw[(h.lt g d).2.1,ht]at this;cases this)
def zyl{N i:Nat}(h:Nat.beq (i / 1000) F=false)(h8:Nat.beq i 998=false:=by kernel_rfl)(h9:Nat.beq i 999=false:=by kernel_rfl):nI F (N,i)=true:=by
 show(!(Nat.beq i 998)&&!(Nat.beq i 999||Nat.beq (i / 1000) F))=true;rw[h,h8,h9];rfl
def zv7{N i:Nat}(h:Nat.beq (i / 1000) F=false)(h9:Nat.beq i 999=false:=by kernel_rfl):tsF F (N,i)=false:=by
 show(Nat.beq i 999||Nat.beq (i / 1000) F)=false;rw[h,h9];rfl
end
def tPo:Ty (Option Nat):=⟨1,λ_ cs x=>cs=[.pointer (x.map λb=>⟨b,0,none⟩)],λh=>by rw[h];rfl,λ_ h=>h,λh v hv=>by rw[h]at hv;simp at hv;subst hv;rfl⟩
def nb(bs:List Nat)(x:Int):Nat:=(bs[x.toNat]?).getD 0
def ldr(bs:List Nat)(x:Int):Option Addr:=if x<0 then none else some ⟨nb bs x,0,none⟩
def fpl(n:Nat)(bs:List Nat):List (Option Nat):=bs.map some++List.replicate (n - bs.length) none
def zwG(a:Option Addr)(n:Nat)(bs:List Nat):List Nat:=blk a n++bs
structure Fst(τ:Tag)(κ:K)(eP eG:TypeId)(a:Option Addr)(n:Nat)(bs:List Nat)(L:List Int):Prop where
 vec:Gr tPo false τ κ eP a n (fpl n bs)
 le:bs.length<=n
 len:bs.length=L.length
 node:∀(i b:Nat)(x:Int),bs[i]?=some b->L[i]?=some x->Box τ κ b [.pointer (ldr bs x),.int .i64 i] eG
 rng:∀(i:Nat)(x:Int),L[i]?=some x->x.toNat<bs.length
 nd:bs.Nodup
 dis:∀g∈blk a n,g∉bs
def fmk(bytes:Nat)(n:Int):Option (List Int):=if 0<=n/\n<=9223372036854775807/\n*bytes<=140737488355328 then some []else none
def zuS(n:Nat)(L:List Int)(ix:Int):Option (List Int):=if ix=(L.length:Int)/\L.length<n then some (L++[-1])else none
def gstep(L:List Int)(i:Int):Option (Int ⊕ Int):=(idx L i).bind λp=>if p<0 then some (.inr i)else some (.inl p)
def zBp{bytes:Nat}{n:Int}{r:List Int}(h:fmk bytes n=some r):mkl bytes n (none:Option Nat)=some (List.replicate n.toNat none)/\r=[]:=by
 unfold fmk at h;split at h
 ·rename_i hc;exact⟨by unfold mkl;rw[if_pos hc],(Option.some.inj h).symm⟩
 ·cases h
def zuR{n:Nat}{L r:List Int}{ix:Int}(h:zuS n L ix=some r):ix=(L.length:Int)/\L.length<n/\r=L++[-1]:=by
 unfold zuS at h;split at h
 ·rename_i hc;exact⟨hc.1,hc.2,(Option.some.inj h).symm⟩
 ·cases h
def zrq{n:Nat}{bs:List Nat}(h:bs.length<=n):(fpl n bs).length=n:=by
 unfold fpl;simp;omega
section
variable {τ τ':Tag} {κ κ':K} {eP eG:TypeId} {a:Option Addr} {n:Nat} {bs:List Nat} {L:List Int} {M:List Nat}
def zqu{x:Int}(h:x.toNat<bs.length):bs[x.toNat]?=some (nb bs x):=by
 unfold nb;rw[cz h];rfl
def Fst.mem(h:Fst τ κ eP eG a n bs L):∀g∈zwG a n bs,g<κ.H.size/\κ.tag g=τ/\τ.1<=g:=by
 intro g b;rcases fe.1 b with b | b
 ·exact h.vec.lt g b
 ·obtain⟨i,hi,e⟩:=List.getElem_of_mem b;have d:bs[i]?=some g:=by rw[cz hi,e]
  have c:i<L.length:=by rw[←h.len];exact hi
  have:=h.node i g _ d (cz c);exact⟨this.lt,this.tag,this.ge⟩
def Fst.step(s:Step M κ κ')(hm:∀g∈zwG a n bs,g∉M)(h:Fst τ κ eP eG a n bs L):Fst τ κ' eP eG a n bs L:=
 ⟨h.vec.step s (λg d=>hm g (fg _ d)),h.le,h.len,
  λi b x c e=>(h.node i b x c e).step s (hm b (List.mem_append_right _ (fo c))),h.rng,h.nd,h.dis⟩
def Fst.step0(s:Step [] κ κ')(h:Fst τ κ eP eG a n bs L):Fst τ κ' eP eG a n bs L:=h.step s (λ_ _=>by simp)
def Fst.own{κ0:K}(h:Fst τ κ eP eG a n bs L)(h0:κ0.H.size<=τ.1):∀b∈zwG a n bs,κ0.H.size<=b:=λb c=>gm h0 (h.mem b c).2.2
def Fst.nb{b:Nat}(h:Fst τ κ eP eG a n bs L)(h':Own τ' κ b)(hn:τ'≠τ):b∉zwG a n bs:=λc=>hn (h'.tag.symm.trans (h.mem b c).2.1)
def Fst.bn{b:Nat}(h:Fst τ κ eP eG a n bs L)(h':Own τ' κ b)(hn:τ≠τ'):∀g∈zwG a n bs,g∉[b]:=λg c d=>by
 have e:=fq.1 d;subst e;exact hn ((h.mem g c).2.1.symm.trans h'.tag)
def Fst.gn{α:Type}{t:Ty α}{pub:Bool}{e:TypeId}{a':Option Addr}{c':Nat}{l:List α}(h:Fst τ κ eP eG a n bs L)(h':Gr t pub τ' κ e a' c' l)(hn:τ≠τ'):∀g∈zwG a n bs,g∉blk a' c':=
 λg b c=>hn ((h.mem g b).2.1.symm.trans (h'.lt g c).2.1)
def Fst.gnm{α:Type}{t:Ty α}{pub:Bool}{eo ei:TypeId}{a':Option Addr}{c':Nat}{hm hs:List Hd}{l:List (List α)}(h:Fst τ κ eP eG a n bs L)(h':Mat t pub τ' κ eo ei a' c' hm hs l)(hn:τ≠τ'):∀g∈zwG a n bs,g∉mblk a' c' hs:=
 λg b c=>hn ((h.mem g b).2.1.symm.trans (h'.lt g c).2.1)
def Fst.inb(h:Fst τ κ eP eG a n bs L){ix x:Int}(hx:idx L ix=some x):0<=ix/\ix.toNat<bs.length:=by
 obtain⟨b,c,d⟩:=zh6 hx;exact⟨b,by rw[h.len];omega⟩
def Fst.vcell(h:Fst τ κ eP eG a n bs L){ix x:Int}(hx:idx L ix=some x):
  ∃b,a=some ⟨b,0,none⟩/\0<=ix/\ix<(n:Int)/\At κ b (0+ix.toNat*1) [.pointer (some ⟨Lf.nb bs ix,0,none⟩)]:=by
 have e:=h.inb hx;have hp:idx (fpl n bs) ix=some (some (Lf.nb bs ix)):=by
  unfold idx;rw[if_pos e.1];unfold fpl;rw[cq (by simpa using e.2),dh,zqu e.2];rfl
 obtain⟨b,i,j,f,cs,c,g⟩:=h.vec.idx hp;rw[zrq h.le]at f;refine⟨b,i,j,f,?_⟩;have d:cs=[.pointer (some ⟨Lf.nb bs ix,0,none⟩)]:=g;rw[d]at c;exact c
def Fst.ncell(h:Fst τ κ eP eG a n bs L){ix:Int}(hn:0<=ix/\ix.toNat<bs.length):∃x,idx L ix=some x/\Box τ κ (Lf.nb bs ix) [.pointer (ldr bs x),.int .i64 ix] eG:=by
 have c:ix.toNat<L.length:=by rw[←h.len];exact hn.2
 have b:L[ix.toNat]?=some L[ix.toNat]:=cz c;refine⟨L[ix.toNat],by unfold idx;rw[if_pos hn.1,b],?_⟩;have:=h.node ix.toNat _ _ (zqu hn.2) b;rw[bh hn.1]at this;exact this
def Fst.num(h:Fst τ κ eP eG a n bs L){ix:Int}(hn:0<=ix/\ix.toNat<bs.length):κ.cell (Lf.nb bs ix) 1=some (.int .i64 ix):=by
 obtain⟨x,_,b⟩:=h.ncell hn;have:=b.at.one (o:=1) rfl;simpa using this
def Fst.lead(h:Fst τ κ eP eG a n bs L){ix x:Int}(hx:idx L ix=some x):κ.cell (Lf.nb bs ix) 0=some (.pointer (ldr bs x)):=by
 obtain⟨x',b,c⟩:=h.ncell (h.inb hx);rw[hx]at b;injection b with e;subst e
 have:=c.at.one (o:=0) rfl;simpa using this
def zwE{r:Int}(h:Fst τ κ eP eG a n bs L){ix:Int}(hn:0<=ix/\ix.toNat<bs.length)(hr:iter (gstep L) ix=some r):0<=r/\r.toNat<bs.length:=by
 obtain⟨m,hm⟩:=zed.1 hr
 induction m generalizing ix with
 | zero=>cases hm
 | succ m ih=>
  unfold zlG at hm;unfold gstep at hm;cases hx:idx L ix with
  | none=>rw[hx]at hm;cases hm
  | some p=>
   rw[hx]at hm;simp only[ic]at hm;by_cases hp:p<0
   ·rw[if_pos hp]at hm;injection hm with e;subst e;exact hn
   ·rw[if_neg hp]at hm;exact ih ⟨Int.not_lt.1 hp,h.rng ix.toNat p (zh6 hx).2.2⟩ (zed.2 ⟨m,hm⟩) hm
def Fst.made(h:Gr tPo false τ κ eP a n (List.replicate n none)):Fst τ κ eP eG a n [] []:=
 ⟨by unfold fpl;simpa using h,by simp,rfl,λi b x d=>by simp at d,λi x c=>by simp at c,by simp,λg _=>by simp⟩
def Fst.newat{r:List Int}(h:Fst τ κ eP eG a n bs L){ix:Int}(hx:zuS n L ix=some r):∃b,a=some ⟨b,0,none⟩/\0<=ix/\ix<(n:Int):=by
 obtain⟨e,d,_⟩:=zuR hx;have hp:idx (fpl n bs) 0=some ((fpl n bs)[0]'(by rw[zrq h.le];omega)):=by
  unfold idx;rw[if_pos om];exact cz _
 obtain⟨b,c,_⟩:=h.vec.idx hp;exact⟨b,c,by omega,by omega⟩
def zBo{b:Nat}(h:bs.length<n):(fpl n bs).set bs.length (some b)=fpl n (bs++[b]):=by
 unfold fpl;rw[List.set_append_right _ _ si];have e:n - bs.length=(n - (bs++[b]).length)+1:=by simp;omega
 rw[e,List.replicate_succ];simp
def zDs{b:Nat}{x:Int}(h:x.toNat<bs.length):Lf.nb (bs++[b]) x=Lf.nb bs x:=by
 unfold Lf.nb;rw[cq h]
def zCm{b:Nat}{x:Int}(h:x.toNat<bs.length):ldr (bs++[b]) x=ldr bs x:=by
 unfold ldr;rw[zDs h]
def zB4{b:Nat}{cs:List Value}{T:TypeId}(h:Box τ' κ b cs T)(hle:τ.1<=τ'.1):Box τ (κ.retag [b] τ) b cs T/\Step [b] κ (κ.retag [b] τ):=
 ⟨⟨h.obj,h.fr,by simp[K.retag],gm hle h.ge⟩,⟨gl _,λx a hm=>⟨rfl,rfl,by simp[K.retag]at hm ⊢;simp[hm]⟩,λx a=>⟨gl _,λo _=>rfl⟩,λx a c=>⟨by
  have:x≠b:=λe=>by rw[e,h.fr]at c;omega
  simp[K.retag,this],rfl⟩⟩⟩
def Fst.push{b:Nat}(h:Fst τ κ eP eG a n bs L)(hlt:bs.length<n)(s:Step (blk a n) κ κ')(hv:Gr tPo false τ κ' eP a n (fpl n (bs++[b])))(hb:Box τ' κ b [.pointer none,.int .i64 (L.length:Int)] eG)(hne:τ'≠τ)(hle:τ.1<=τ'.1):
  Fst τ (κ'.retag [b] τ) eP eG a n (bs++[b]) (L++[-1])/\Step [b] κ' (κ'.retag [b] τ):=by
 have l:b∉blk a n:=λj=>hne (hb.tag.symm.trans (h.vec.lt b j).2.1);have m:b∉bs:=λj=>hne (hb.tag.symm.trans (h.mem b (List.mem_append_right _ j)).2.1);have q:=hb.step s l;obtain⟨p,r⟩:=zB4 (τ:=τ) q hle;refine⟨⟨hv.step r (λg j c=>l (by rw[fq.1 c]at j;exact j)),by simp;omega,by simp[h.len],?_,?_,?_,?_⟩,r⟩
 ·intro i v x d f;by_cases hi:i<bs.length
  ·rw[cq hi]at d;have u:i<L.length:=by rw[←h.len];exact hi
   rw[cq u]at f;have k:v∈bs:=fo d;have:=((h.node i v x d f).step s (λj=>h.dis v j k)).step r (λc=>m (by rw[fq.1 c]at k;exact k));rw[zCm (h.rng i x f)];exact this
  ·have t:i=bs.length:=by
    have:=(dg.1 d).1;simp at this;omega
   subst t;rw[cv (gl _)]at d;simp at d;subst d;rw[h.len,cv (gl _)]at f;simp at f;subst f;rw[h.len];exact p
 ·intro i x c;by_cases hi:i<L.length
  ·rw[cq hi]at c;have:=h.rng i x c;simp;omega
  ·rw[cv om]at c;have w:=(dg.1 c).1;simp at w;rw[w]at c;simp at c;subst c;simp
 ·rw[fu];exact⟨h.nd,by simp,λx c y z e=>m (by rw[fq.1 z]at e;exact e▸c)⟩
 ·intro g j c;rcases fe.1 c with c | c
  ·exact h.dis g j c
  ·rw[fq.1 c]at j;exact l j
def Fst.set{ix jx:Int}(h:Fst τ κ eP eG a n bs L)(hi:0<=ix/\ix.toNat<bs.length)(hj:0<=jx/\jx.toNat<bs.length)(s:Step [Lf.nb bs ix] κ κ')(hb:Box τ κ' (Lf.nb bs ix) [.pointer (some ⟨Lf.nb bs jx,0,none⟩),.int .i64 ix] eG):
  Fst τ κ' eP eG a n bs (L.set ix.toNat jx):=by
 have k:Lf.nb bs ix∈bs:=fo (zqu hi.2);refine⟨h.vec.step s (λg m f=>h.dis g m (by rw[fq.1 f];exact k)),h.le,by rw[ep];exact h.len,?_,?_,h.nd,h.dis⟩
 ·intro i b x c d;by_cases j:i=ix.toNat
  ·subst j;rw[zqu hi.2]at c;injection c with e;subst e
   rw[du (by rw[←h.len];exact hi.2)]at d;injection d with e;subst e
   have:ldr bs jx=some ⟨Lf.nb bs jx,0,none⟩:=by unfold ldr;rw[if_neg om]
   rw[this,bh hi.1];exact hb
  ·rw[dt (Ne.symm j)]at d;refine(h.node i b x c d).step s (λf=>j ?_);have e:=fq.1 f;subst e;have l:=(dg.1 c).1;exact(List.getElem?_inj l h.nd).1 (c.trans (zqu hi.2).symm)
 ·intro i x f;by_cases j:i=ix.toNat
  ·subst j;rw[du (by rw[←h.len];exact hi.2)]at f;injection f with e;subst e;exact hj.2
  ·rw[dt (Ne.symm j)]at f;exact h.rng i x f
end
section
variable [Fc] [Fb] {P:Program} {N:Nat} {c:Code} {i:Nat} {Q:zaY} {E:Env} {κ:K} {τ τ':Tag} {eP eG:TypeId} {a:Option Addr} {n:Nat} {bs:List Nat} {L r:List Int}
def zEb{d bytes:Nat}{T:TypeId}{k1 k2:IntKind}{m:Int}(eG:TypeId)(hT:zj5 P T=some (eP,1,1,bytes))(hz:(zfc P eP).map Value.cells=some [.pointer none].toArray)(hx:fmk bytes m=some r)(hτ:τ.1<=κ.H.size)(hk:∀a' κ',Step [] κ κ'->Fst τ κ' eP eG a' m.toNat [] r->owp P N c (i+1) Q (upd E d (.slice a' m.toNat m.toNat)) κ')(h:st c i N E (some d)=true:=by kernel_rfl)(ho:execOp (ev E) (zx c i)=vOf (Instr.makeSlice T (.int k1 m) (.int k2 m)):=by kernel_rfl):owp P N c i Q E κ:=by
 obtain⟨hm,rfl⟩:=zBp hx;refine zd5 (pub:=false) (t:=tPo) (z:=none) h ho hT hz rfl hm hτ λa' κ' s g=>?_;rw[ek]at g ⊢;exact hk a' κ' s (Fst.made g)
def zDn{ix:Int}{bv b:Nat}{T:TypeId}(h:Fst τ κ eP eG a n bs L)(p:zuS n L ix=some r)(ea:a=some ⟨bv,0,none⟩)(hb:Box τ' κ b [.pointer none,.int .i64 ix] eG)(hne:τ'≠τ)(hle:τ.1<=τ'.1)(hs:zM P T=some 1)(hk:∀κ1 κ2,Step (zwG a n bs) κ κ1->Step [b] κ1 κ2->Fst τ κ2 eP eG a n (bs++[b]) r->owp P N c (i+1) Q E κ2)(hst:st c i N E none=true:=by kernel_rfl)(l:execOp (ev E) (zx c i)=uOf (Instr.storeAt T (.pointer (some ⟨bv,0+ix.toNat*1,none⟩)) (.pointer (some ⟨b,0,none⟩))):=by kernel_rfl):owp P N c i Q E κ:=by
 obtain⟨e,k,rfl⟩:=zuR p;have d:bs.length<n:=by rw[h.len];exact k
 have j:ix.toNat=bs.length:=by rw[e,h.len];simp
 refine zhh (T:=T) (t:=tPo) (ix:=ix) (x':=some b) (b:=bv) (δ:=0) (vs:=[.pointer (some ⟨b,0,none⟩)]) (.pointer (some ⟨b,0,none⟩)) hst l ea h.vec om (by rw[zrq h.le];omega) rfl hs rfl rfl
  (λcs p=>by obtain⟨x,_,l⟩:=p;rw[zj9 ((tPo.len l).trans (by rfl))];rfl) λκ' s f=>?_
 rw[j,zBo d]at f;have m:Box τ' κ b [.pointer none,.int .i64 (L.length:Int)] eG:=by rw[←e];exact hb
 obtain⟨F,q⟩:=h.push d s f m hne hle;refine ziQ (κ':=κ'.retag [b] τ) rfl (hk κ' _ (s.mono (λg f=>fg _ f)) q F)
def zCN{ix jx:Int}{T:TypeId}(h:Fst τ κ eP eG a n bs L)(hi:0<=ix/\ix.toNat<bs.length)(hj:0<=jx/\jx.toNat<bs.length)(hs:zM P T=some 1)(hk:∀κ',Step (zwG a n bs) κ κ'->Fst τ κ' eP eG a n bs (L.set ix.toNat jx)->owp P N c (i+1) Q E κ')(hst:st c i N E none=true:=by kernel_rfl)(ho:execOp (ev E) (zx c i)=uOf (Instr.storeAt T (.pointer (some ⟨nb bs ix,0,none⟩)) (.pointer (some ⟨nb bs jx,0,none⟩))):=by kernel_rfl):owp P N c i Q E κ:=by
 obtain⟨x,_,f⟩:=h.ncell hi;refine zav (b:=nb bs ix) (off:=0) (T:=T) (.pointer (some ⟨nb bs jx,0,none⟩)) [.pointer (some ⟨nb bs jx,0,none⟩)] [.pointer (some ⟨nb bs jx,0,none⟩),.int .i64 ix] hst ho f rfl hs rfl rfl rfl λκ' s _ d=>?_;refine hk κ' (s.mono (λg e=>?_)) (h.set hi hj s d);rw[fq.1 e];exact List.mem_append_right _ (fo (zqu hi.2))
end
section
variable {P:Program} {α:Type} {t:Ty α} {κ:K} {e T T2:TypeId} {a a2:Option Addr} {cp c2:Nat} {l l2 r:List α} {τ:Tag}
def zxP{b off n:Nat}{ys:List Value}{len cap:Nat}(h:zl8 κ b off ys)(hn:n*t.size<=ys.length)[Fb](C:Cx)(d:Nat):
  (Builtin.firstCells t.size n (.slice (some ⟨b,off,none⟩) len cap)).run P (W C κ d)=.ok (ys.take (n*t.size)).toArray (W C κ d):=by
 refine run_firstCells_some _ t.size n ⟨b,off,none⟩ len cap (ys.take (n*t.size)) (by rw[ey];omega) (λj v a=>?_);rw[zgZ];rw[zkz];refine h j v ?_;rw[dv]at a;split at a
 ·exact a
 ·cases a
def zvS{src:Option Addr}{len cap:Nat}[Fb](C:Cx)(d:Nat):(Builtin.firstCells t.size 0 (.slice src len cap)).run P (W C κ d)=.ok #[] (W C κ d):=by
 cases src<;>simp[Builtin.firstCells,loadCells,loadCellsFrom]
def zAJ{ty:TypeId}(hT:zJ P T=some e)(hs:zM P e=some t.size)(hg:Gr t false τ κ e a cp l)(h2:Sl t κ a2 c2 l2)[Fb](C:Cx)(d:Nat):
  ∃κ',(Builtin.copy_ #[T,T2] ty #[.slice a l.length cp,.slice a2 l2.length c2]).run P (W C κ d)=.ok (.int .i64 (min l2.length l.length:Nat)) (W C κ' d)/\Step (blk a cp) κ κ'/\Gr t false τ κ' e a cp (cpy l 0 l2):=by
 obtain⟨j,f,hp⟩:=Rep.of_sl h2;have key:∀(g:Nat),(0<l.length->a=some ⟨g,0,none⟩)->∃κ',(Builtin.copy_ #[T,T2] ty #[.slice a l.length cp,.slice a2 l2.length c2]).run P (W C κ d)=.ok (.int .i64 (min l2.length l.length:Nat)) (W C κ' d)/\Step (blk a cp) κ κ'/\Gr t false τ κ' e a cp (cpy l 0 l2):=by
  intro g i;have:=zsS (P:=P) (T:=T) (T2:=T2) (ty:=ty) (dcap:=cp) (lo:=0) (da:=a) hT hs hg i (Nat.zero_le _) (.slice a2 l2.length c2) j f (λh=>by rw[i h];simp) C d (λw=>rfl) (λn p=>by
   by_cases q:l2.length=0
   ·have:n=0:=by omega
    subst this;rw[zvS];simp
   ·obtain⟨b,off,m,c⟩:=hp om;rw[m];exact zxP c.2.2 (by rw[f.length];exact gy _ p) C d)
  simpa using this
 rcases hg.body with⟨_,k⟩ |⟨g,cur,xs,i,_⟩
 ·exact key 0 (λh=>by rw[k]at h;simp at h)
 ·exact key g (λ_=>i)
def zB0{hi:Int}(hT:zJ P T=some e)(hs:zM P e=some t.size)(hcap:l.length<=cp)(hx:zlK l 0 hi=some r)(w:World):
  (Instr.sliceAt T (.slice a l.length cp) none (zpY (some hi)) none).run P w=.ok (.slice a r.length cp) w:=by
 have:=zkK (P:=P) (T:=T) (a:=a) (lo:=none) (hi:=some hi) hT hs hcap hx w;have c:((Option.getD none 0:Int).toNat)=0:=rfl;rw[c,Nat.zero_mul,Nat.sub_zero]at this;have b:(if cp=0 then a else a.map (·.add 0))=a:=by
  split
  ·rfl
  ·cases a<;>simp[Addr.add]
 rw[b]at this;exact this
def zAI{ty:TypeId}{lo hi:Int}{q p:List α}(hT:zJ P T=some e)(hs:zM P e=some t.size)(hg:Gr t false τ κ e a cp l)(hq:zlK l lo l.length=some q)(hp:zlK l 0 hi=some p)[Fb](C:Cx)(d:Nat):
  ∃κ',(Builtin.copy_ #[T,T2] ty #[.slice (if cp=lo.toNat then a else a.map (·.add (lo.toNat*t.size))) q.length (cp - lo.toNat),.slice a p.length cp]).run P (W C κ d)=.ok (.int .i64 (min p.length (l.length - lo.toNat):Nat)) (W C κ' d)/\
   Step (blk a cp) κ κ'/\Gr t false τ κ' e a cp (cpy l lo.toNat p):=by
 obtain⟨A,y,u,rfl⟩:=zob hq;obtain⟨B,x,z,rfl⟩:=zob hp;have m:(List.drop lo.toNat (List.take (l.length:Int).toNat l)).length=l.length - lo.toNat:=by simp
 rw[m];have k:List.drop (0:Int).toNat (List.take hi.toNat l)=l.take hi.toNat:=by simp
 rw[k];have r:=hg.cap;rcases hg.body with⟨s,f⟩ |⟨g,cur,xs,ha,hr,hH,h6,h7,h8,h9,_⟩
 ·have b:Rep t κ [] (l.take hi.toNat):=by rw[f];simp;rfl
  have:=zsS (P:=P) (T:=T) (T2:=T2) (ty:=ty) (dcap:=cp - lo.toNat) (lo:=lo.toNat) (g:=0) (da:=if cp=lo.toNat then a else a.map (·.add (lo.toNat*t.size))) hT hs hg (λh=>by rw[f]at h;simp at h) om (.slice a (l.take hi.toNat).length cp) [] b (λh=>by rw[f]at h;simp at h) C d (λw=>rfl) (λn i=>by
   have:n=0:=by rw[f]at i;simpa using i
   subst this;rw[zvS];simp)
  exact this
 ·have b:=hr.take hi.toNat;have:=zsS (P:=P) (T:=T) (T2:=T2) (ty:=ty) (dcap:=cp - lo.toNat) (lo:=lo.toNat) (g:=g) (da:=if cp=lo.toNat then a else a.map (·.add (lo.toNat*t.size))) hT hs hg (λ_=>ha) om (.slice a (l.take hi.toNat).length cp) _ b (λh=>by
   rw[if_neg om,ha];simp[zgZ]) C d (λw=>rfl) (λn i=>by
   rw[ha];refine zxP (λj v c=>?_) (by rw[b.length];exact gy _ i) C d;rw[dv]at c;split at c
   ·rw[←h9,dv]at c;split at c
    ·unfold K.cell;rw[hH];simpa using c
    ·cases c
   ·cases c)
  exact this
end
section
variable [Fc] [Fb] {P:Program} {n:Nat} {c:Code} {i k:Nat} {nq:List Nat} {q0:Nat} {M π:List Nat} {Q:zaY} {E:Env} {κ:K} {α:Type} {t:Ty α} {e T T2:TypeId} {a a2:Option Addr} {cp c2:Nat} {l l2 p q:List α} {τ:Tag}
def zEc{d:Nat}{ty:TypeId}(hg:Gr t false τ κ e a cp l)(h2:Sl t κ a2 c2 l2)(hk:∀κ',Step (blk a cp) κ κ'->Gr t false τ κ' e a cp (cpy l 0 l2)->owp P n c (i+1) Q (upd E d (.int .i64 (min l2.length l.length:Nat))) κ')(h:st c i n E (some d)=true:=by kernel_rfl)(ho:execOp (ev E) (zx c i)=vOf (Builtin.copy_ #[T,T2] ty #[.slice a l.length cp,.slice a2 l2.length c2]):=by kernel_rfl)(hT:zJ P T=some e:=by kernel_rfl)(hs:zM P e=some t.size:=by kernel_rfl):owp P n c i Q E κ:=by
 refine zgj (λv κ'=>v=.int .i64 (min l2.length l.length:Nat)/\Step (blk a cp) κ κ'/\Gr t false τ κ' e a cp (cpy l 0 l2)) h (λC g=>?_) ?_
 ·obtain⟨κ',j,b,f⟩:=zAJ (P:=P) (T:=T) (T2:=T2) (ty:=ty) hT hs hg h2 C g;exact⟨_,κ',g,by rw[ho];exact zH j,rfl,b,f⟩
 ·rintro v κ' ⟨rfl,b,f⟩;exact hk κ' b f
def zD3{d:Nat}{ty:TypeId}{lo hi:Int}(hg:Gr t false τ κ e a cp l)(hq:zlK l lo l.length=some q)(hp:zlK l 0 hi=some p)(hrel:zrV q0 M i=Step (blk a cp))(hk:∀κ',Step (blk a cp) κ κ'->Gr t false τ κ' e a cp (cpy l lo.toNat p)->xwp P n c k nq q0 M π Q (upd E d (.int .i64 (min p.length (l.length - lo.toNat):Nat))) κ')(h:xsN c nq i E d=true:=by kernel_rfl)(ho:execOp (ev E) (zx c i)=vOf (Builtin.copy_ #[T,T2] ty #[.slice (if cp=lo.toNat then a else a.map (·.add (lo.toNat*t.size))) q.length (cp - lo.toNat),.slice a p.length cp]):=by kernel_rfl)(hT:zJ P T=some e:=by kernel_rfl)(hs:zM P e=some t.size:=by kernel_rfl):xwp P n c k nq q0 M (i::π) Q E κ:=by
 refine zrw (λv κ'=>v=.int .i64 (min p.length (l.length - lo.toNat):Nat)/\Step (blk a cp) κ κ'/\Gr t false τ κ' e a cp (cpy l lo.toNat p)) h (λv κ' j=>by rw[hrel];exact j.2.1) (λC g=>?_) ?_
 ·obtain⟨κ',m,b,f⟩:=zAI (P:=P) (T:=T) (T2:=T2) (ty:=ty) hT hs hg hq hp C g;exact⟨_,κ',g,by rw[ho];exact zH m,rfl,b,f⟩
 ·rintro v κ' ⟨rfl,b,f⟩;exact hk κ' b f
def zBQ{F:Env}(h:E=F)(hk:xwp P n c k nq q0 M π Q F κ):xwp P n c k nq q0 M π Q E κ:=by rw[h];exact hk
def zDE{lo:Nat}(h:l.length<=maxLen):I64 ((min p.length (l.length - lo):Nat):Int):=by
 rw[zmc]at h;unfold I64;omega
def zCz(h:l.length<=maxLen):I64 ((min l2.length l.length:Nat):Int):=by
 rw[zmc]at h;unfold I64;omega
end
def zBf{α:Type}{l r:List α}{lo:Nat}{l2:List α}(h:some (cpy l lo l2)=some r)(hlo:lo<=l.length):r.length=l.length:=by
 injection h with h;rw[←h];exact zwJ hlo
def zBG{α:Type}{t:Ty α}{pub:Bool}{τ:Tag}{κ:K}{e:TypeId}{a:Option Addr}{c:Nat}{l r:List α}(h:some l=some r)(hg:Gr t pub τ κ e a c l):Gr t pub τ κ e a c r:=by injection h with h;rw[←h];exact hg
def zBW{α:Type}{l r:List α}{lo:Int}(h:zlK l lo l.length=some r):lo.toNat<=l.length:=by
 obtain⟨b,a,_⟩:=zob h;omega
inductive Er where
 | nil | line (l c:Int) | whole | other
structure Globg(tab:List Int)(ts rt gw ge gsy gra gta nv te:Nat)(κ:K):Prop where
 whole:∃a,PubAt κ gw 0 [.iface ts (.pointer (some a))]
 syn:∃t p,PubAt κ gsy 0 [.iface t p]
 rng:∃t p,PubAt κ gra 0 [.iface t p]
 pow:PubAt κ gta 0 (tab.map (Value.int .u64))
 psz:0<tab.length/\∃e k,κ.shp gta=some (e,tab.length,k)
 ety:PubAt κ ge 0 [.iface rt (.agg #[.pointer (some ⟨nv,te,none⟩)])]
section
variable [Fc] [Fb] {P:Program} {n:Nat} {c:Code} {i:Nat} {Q:zaY} {E:Env} {κ:K}
end
section
variable {α β:Type} {tb:Ty β} {t:Ty α}
def tX(tb:Ty β)(t:Ty α):Ty ((β×List α)×Hd):=
 ⟨tb.size+1,λκ cs x=>∃c1,cs=c1++[.slice x.2.1 x.2.2.1 x.2.2.2]/\tb.own κ c1 x.1.1/\x.2.2.1=x.1.2.length/\Sl t κ x.2.1 x.2.2.2 x.1.2,
  λ⟨c1,h,h1,_⟩=>by rw[h,dy,tb.len h1];rfl,
  λs ⟨c1,h,h1,h2,h3⟩=>⟨c1,h,tb.step s h1,h2,h3.step s⟩,
  λ⟨c1,h,h1,_⟩ v hv=>by
   rw[h,fe]at hv;rcases hv with hv | hv
   ·exact tb.one h1 v hv
   ·rw[fq.1 hv];rfl⟩
structure GrT(tb:Ty β)(t:Ty α)(S:Nat)(eS:TypeId)(τ:Tag)(κ:K)(e:TypeId)(a:Option Addr)(c:Nat)(L:List (β×List α))(H:List (Hd×Nat)):Prop where
 len:H.length=L.length
 gr:Gr (tX tb t) true τ κ e a c (L.zip (H.map Prod.fst))
 pw:H.Pairwise (λx y=>0<x.1.2.1->0<y.1.2.1->x.2≠y.2)
 home:∀x∈H,0<x.1.2.1->∃b,x.1.1=some ⟨b,0,none⟩/\b<κ.H.size/\κ.tag b=(x.2,S)/\x.2<=b/\0<κ.fr b/\κ.shp b=some (eS,x.1.2.2*t.size,(0,0))/\x.1.2.2<=maxLen
variable {S:Nat} {eS e:TypeId} {τ:Tag} {κ κ':K} {a:Option Addr} {c:Nat} {L:List (β×List α)} {H:List (Hd×Nat)} {M:List Nat}
def Hm(e:TypeId)(c s:Nat)(τ:Tag)(κ:K)(a:Option Addr)(n:Nat):Prop:=0<n->c<=maxLen/\∃b,a=some ⟨b,0,none⟩/\b<κ.H.size/\κ.tag b=τ/\0<κ.fr b/\κ.shp b=some (e,c*s,(0,0))
def Hm.step{s n:Nat}(st:Step M κ κ')(h:Hm e c s τ κ a n):Hm e c s τ κ' a n:=λl=>by
 obtain⟨j,b,k,d,m,g,i⟩:=h l;have f:=st.2.2.2 b d g;exact⟨j,b,k,gq d st.1,f.1.trans m,gq g (st.2.2.1 b d).1,f.2.trans i⟩
def Hm.nil{s:Nat}:Hm e c s τ κ a 0:=λh=>absurd h (Nat.lt_irrefl 0)
def Gr.hm{l:List α}(h:Gr t true τ κ e a c l)(hs:0<t.size):Hm e c t.size τ κ a l.length:=λd=>by
 rcases h.body with⟨_,f⟩ |⟨b,cur,xs,ha,hr,hH,h1,h2,h3,h4,h5,h6,h7⟩
 ·rw[f]at d;cases d
 ·refine⟨h2,b,ha,(ai.1 hH).1,h6,?_,?_⟩
  ·rw[h5];simp;exact Nat.mul_pos d hs
  ·unfold K.shp;rw[hH];simp[h3]
end
section
variable [Fc] [Fb] {P:Program} {n:Nat} {c:Code} {i k:Nat} {nq:List Nat} {q0:Nat} {M π:List Nat} {Q:zaY} {E:Env} {κ:K} {α β:Type} {tb:Ty β} {t:Ty α} {S:Nat} {eS e T:TypeId} {τ τ2:Tag} {a a2:Option Addr} {cp c2:Nat} {L r:List (β×List α)} {H:List (Hd×Nat)} {x:β×List α} {hd:Hd} {N:Nat}
end
def zya(k:IntKind)(x n:Int):Option Int:=if 0<=n then some (k.wrap (x*2 ^ (min n.toNat k.bits)))else none
def zvp(k:IntKind)(x y:Int):Int:=k.wrap ((BitVec.ofInt k.bits x &&& BitVec.ofInt k.bits y).toNat:Int)
def ior(k:IntKind)(x y:Int):Int:=k.wrap ((BitVec.ofInt k.bits x ||| BitVec.ofInt k.bits y).toNat:Int)
def zDx(x y:Int):Int:=if y>x then y else x
def zBi(x y:Int):I64 (ior .i64 x y):=zp _
def zxb(k:IntKind)(x n:Int):Option Int:=if 0<=n then some (x.fdiv (2 ^ (min n.toNat k.bits)))else none
section
variable {P:Program} {E:Env} {c:Code} {i:Nat} {T:TypeId} {w:World}
def zt1{k yk:IntKind}{x n r:Int}(h:execOp (ev E) (zx c i)=vOf (Op.shift .shl k x yk n))(hx:zya k x n=some r):
  (execOp (ev E) (zx c i)).run P w=.ok (.value (.int k r)) w:=by
 unfold zya at hx;split at hx
 ·rename_i h0;obtain rfl:=Option.some.inj hx;rw[h];refine zH ?_;unfold Op.shift;rw[if_neg om];rfl
 ·cases hx
def zwd{k yk:IntKind}{x n r:Int}(h:execOp (ev E) (zx c i)=vOf (Op.shift .shr k x yk n))(hx:zxb k x n=some r):
  (execOp (ev E) (zx c i)).run P w=.ok (.value (.int k r)) w:=by
 unfold zxb at hx;split at hx
 ·rename_i h0;obtain rfl:=Option.some.inj hx;rw[h];refine zH ?_;unfold Op.shift;rw[if_neg om];rfl
 ·cases hx
end
def zuc (P:Program) (f:Field) (off:Nat):Bool:=
 (f.name != "_")&&Nat.beq f.offset off&&zkA P f.type&&(zM P f.type == some 2)&&(zeD P f.type == some true)
def zqj(P:Program)(T:TypeId):Bool:=
 (match P.underlying T with | some (.struct _)=>true | _=>false)&&!P.stoodInHeld T&&!P.eqGuardType P.depth T &&
 (match(P.fieldsOf T).toList with |[f,g]=>zuc P f 0&&zfL P g 2 | _=>false)
section
variable {P:Program}
def zxc {T:TypeId} (h:zkA P T=true) (d:Nat) (k1 k2:IntKind) (a b a' b':Int) (w:World) :
  (Op.equalIn (d+2) T (.agg #[.int k1 a,.int k2 b]) (.agg #[.int k1 a',.int k2 b'])).run P w=.ok (decide (a=a')&&decide (b=b')) w:=by
 unfold zkA at h;simp only[aw,ba]at h;obtain⟨⟨⟨m,p⟩,r⟩,e⟩:=h;have q:P.underlying T=some (.struct (P.fieldsOf T)):=by
  unfold Program.fieldsOf;split at m
  ·rename_i fs hfs;simp[hfs]
  ·cases m
 rw[show d+2=(d+1)+1 from rfl,run_equalIn_agg w (d+1) T _ _ q p];split at e
 ·rename_i f g hfg;rw[hfg];simp only[aw]at e;obtain⟨c,i⟩:=e;have j:f.name ≠ "_" := by
   have:=c;unfold zfL at this;simp only[aw]at this;simpa using this.1.1
  have k:g.name ≠ "_" := by
   have:=i;unfold zfL at this;simp only[aw]at this;simpa using this.1.1
  simp only[Op.eqFields,if_pos j,if_pos k,bd];rw[za0 c (v:=.int k1 a) rfl];simp only[bc];rw[za0 c (v:=.int k1 a') rfl];simp only[bc];rw[zk6 c];simp only[bc];by_cases l:a=a'
  ·subst l;simp only[BEq.rfl,bb,az,if_false,decide_true,Bool.true_and,bd];rw[za0 i (v:=.int k2 b) rfl];simp only[bc];rw[za0 i (v:=.int k2 b') rfl];simp only[bc];rw[zk6 i];simp only[bc];by_cases n:b=b'
   ·subst n;simp
   ·simp[n]
  ·simp[l]
 ·cases e
def ztm{f:Field}(h:zuc P f 0=true)(x y z:Value)(w:World):(part f.type #[x,y,z] f.offset).run P w=.ok (.agg #[x,y]) w:=by
 unfold zuc at h;simp only[aw]at h;have b:=gj h.1.1.1.2;have hs:zM P f.type=some 2:=by simpa using h.1.2
 have a:zeD P f.type=some true:=by simpa using h.2
 unfold part;simp[zmb a,b,za3 hs,Result.andThen]
def zB1 {T:TypeId} (h:zqj P T=true) (k1 k2 k3:IntKind) (a b c a' b' c':Int) (w:World) :
  (Op.equalIn 10000 T (.agg #[.int k1 a,.int k2 b,.int k3 c]) (.agg #[.int k1 a',.int k2 b',.int k3 c'])).run P w=.ok ((decide (a=a')&&decide (b=b'))&&decide (c=c')) w:=by
 unfold zqj at h;simp only[aw,ba]at h;obtain⟨⟨⟨n,q⟩,s⟩,e⟩:=h;have r:P.underlying T=some (.struct (P.fieldsOf T)):=by
  unfold Program.fieldsOf;split at n
  ·rename_i fs hfs;simp[hfs]
  ·cases n
 rw[show(10000:Nat)=9999+1 from rfl,run_equalIn_agg w 9999 T _ _ r q];split at e
 ·rename_i f g hfg;rw[hfg];simp only[aw]at e;obtain⟨d,i⟩:=e;have j:f.name ≠ "_" := by
   have:=d;unfold zuc at this;simp only[aw]at this;simpa using this.1.1.1.1
  have k:zkA P f.type=true:=by
   have:=d;unfold zuc at this;simp only[aw]at this;exact this.1.1.2
  have l:g.name ≠ "_" := by
   have:=i;unfold zfL at this;simp only[aw]at this;simpa using this.1.1
  simp only[Op.eqFields,if_pos j,if_pos l,bd];rw[ztm d];simp only[bc];rw[ztm d];simp only[bc];rw[show(9999:Nat)=9997+2 from rfl,zxc k];simp only[bc];by_cases m:(decide (a=a')&&decide (b=b'))=true
  ·simp only[m,bb,az,if_false,Bool.true_and,bd];rw[za0 i (v:=.int k3 c) rfl];simp only[bc];rw[za0 i (v:=.int k3 c') rfl];simp only[bc];rw[show(9997+2:Nat)=9998+1 from rfl,zk6 i];simp only[bc];by_cases p:c=c'
   ·subst p;simp
   ·simp[p]
  ·simp[m]
 ·cases e
def zq6{E:Env}{cd:Code}{i:Nat}{T:TypeId}{k1 k2 k3:IntKind}{a b c a' b' c':Int}{w:World}(h:execOp (ev E) (zx cd i)=vOf (do eqGuard .neq T (.tmp 0) (.tmp 0) (.agg #[.int k1 a,.int k2 b,.int k3 c]) (.agg #[.int k1 a',.int k2 b',.int k3 c']);binOp .neq T (.agg #[.int k1 a,.int k2 b,.int k3 c]) (.agg #[.int k1 a',.int k2 b',.int k3 c'])))(hT:zqj P T=true):(execOp (ev E) (zx cd i)).run P w=.ok (.value (.bool (!((decide (a=a')&&decide (b=b'))&&decide (c=c'))))) w:=by
 rw[h];refine zH ?_;have hm:P.eqGuardType P.depth T=false:=by unfold zqj at hT;simp only[aw,ba]at hT;exact hT.1.2
 rw[bd,run_eqGuard_agg _ _ _ _ _ _ _ hm];simp only[bc];rw[run_neq_struct,zB1 hT];rfl
end
def zmG{α β:Type}[DecidableEq α](m:List (α×β))(k:α):List (α×β):=m.filter (λp=>!decide (p.1=k))
def zwF{α β:Type}[DecidableEq α]{m:List (α×β)}{j:Nat}{x:α}{y:β}(hnd:m.Pairwise (λp q=>p.1≠q.1))(hj:m[j]?=some (x,y)):zmG m x=m.eraseIdx j:=by
 unfold zmG
 induction m generalizing j with
 | nil=>simp at hj
 | cons q m ih=>
  obtain⟨b,c⟩:=fv.1 hnd;cases j with
  | zero=>
   simp at hj;subst hj;rw[List.filter_cons,if_neg si,List.eraseIdx_cons_zero];exact cj.2 λp hp=>by simpa using(b p hp).symm
  | succ j=>
   simp at hj;have a:q.1≠x:=b (x,y) (fo hj);rw[List.filter_cons,if_pos (by simpa using a),List.eraseIdx_cons_succ,ih c hj]
section
variable {α β:Type} {kt:KT α} {t:Ty β} {τ:Tag} {κ κ':K} {b:Nat} {m:List (α×β)} [DecidableEq α]
def zzK{x:α}(h:zhK m x=false):zmG m x=m:=by
 unfold zmG;refine cj.2 λp hp=>?_;unfold zhK at h;rw[List.any_eq_false]at h;simpa using h p hp
def zAH{P:Program}{T kd e ty:TypeId}{x:α}(h:Mp kt t τ κ b m)(hT:zgk P T=some (kd,e))(hk:KeyOk P kd kt)[Fb](C:Cx)(d:Nat):
  ∃κ',(Builtin.delete_ #[T,kd] ty #[.map (some b),kt.enc x]).run P (W C κ d)=.ok (.tuple #[]) (W C κ' d)/\Step [b] κ κ'/\κ.H.size=κ'.H.size/\Mp kt t τ κ' b (zmG m x):=by
 obtain⟨g,c,w,hsz,u,v,n⟩:=h.obj;have s:=zv1 C κ d b w P;have F:∀(a:Array MapEntry),a.size=(zmG m x).length->(∀κ':K,Step [b] κ κ'->∀(i:Nat)(p:α×β),(zmG m x)[i]?=some p->∃e,a[i]?=some e/\e.key=kt.enc p.1/\t.own κ' [e.val] p.2)->
   ((a.toList.map (·.born)).Pairwise (· < ·)/\∀e∈a.toList,e.born<c)->
   Step [b] κ (κ.setO b (.map a c))/\κ.H.size=(κ.setO b (.map a c)).H.size/\Mp kt t τ (κ.setO b (.map a c)) b (zmG m x):=by
  intro a H G J;have r:Step [b] κ (κ.setO b (.map a c)):=zl9 h.fr;exact⟨r,by simp[K.setO],⟨a,c,by simp[K.setO,h.lt],H,G _ r,J⟩,List.Pairwise.filter _ h.nd,h.fr,h.tag,h.ge⟩
 rcases zt2 h hk x w (W C κ d)with⟨I,E,D⟩ |⟨j,en,y',g0,I,E,D,g4,g5,g6⟩
 ·have l:=zzK E;refine⟨κ.setO b (.map g c),?_,F _ ?_ ?_ ⟨v,n⟩⟩
  ·unfold Builtin.delete_;simp[zG (zcK hT),s,hk.check,D,zsE C κ d b _ w P]
  ·rw[l];exact hsz
  ·intro κ' hs i p hp;rw[l]at hp;obtain⟨e,k,f,B⟩:=u i p hp;exact⟨e,k,f,t.step hs B⟩
 ·have z:j<g.size:=(ai.1 D).1;have l:zmG m x=m.eraseIdx j:=zwF h.nd g0;have el:(g.eraseIdxIfInBounds j).toList=g.toList.eraseIdx j:=by
   unfold Array.eraseIdxIfInBounds;rw[dif_pos z,Array.toList_eraseIdx]
  refine⟨κ.setO b (.map (g.eraseIdxIfInBounds j) c),?_,F _ ?_ ?_ ⟨?_,?_⟩⟩
  ·unfold Builtin.delete_;simp[zG (zcK hT),s,hk.check,g6,zsE C κ d b _ w P]
  ·rw[l,←av,el,List.length_eraseIdx,List.length_eraseIdx,av,hsz]
  ·intro κ' hs i p hp;rw[l]at hp;rw[List.getElem?_eraseIdx]at hp;have key:∀y,m[y]?=some p->∃e:MapEntry,g[y]?=some e/\e.key=kt.enc p.1/\t.own κ' [e.val] p.2:=λy A=>by
    obtain⟨e,k,f,B⟩:=u y p A;exact⟨e,k,f,t.step hs B⟩
   rw[←au,el,List.getElem?_eraseIdx];by_cases q:i<j
   ·rw[if_pos q]at hp ⊢;rw[au];exact key i hp
   ·rw[if_neg q]at hp ⊢;rw[au];exact key (i+1) hp
  ·rw[el];exact v.sublist ((List.eraseIdx_sublist _ _).map _)
  ·intro e k;rw[el]at k;exact n e (List.mem_of_mem_eraseIdx k)
end
structure It{α β:Type}(τ:Tag)(κ:K)(r b:Nat)(m:List (α×β))(done:List α)(cur:Option (α×β)):Prop where
 obj:∃(es:Array MapEntry)(clock since:Nat)(seen:Array Nat)(c0:Nat),κ.H[b]?=some (.map es clock)/\κ.H[r]?=some (.mapIter (some b) since seen c0)/\(∀e∈es.toList,e.born<since)/\since<=c0/\since<=clock/\
  (∀(i:Nat)(p:α×β)(e:MapEntry),m[i]?=some p->es[i]?=some e->(seen.contains e.born=true↔p.1∈done))/\
  (∀p,cur=some p->∃(i:Nat)(e:MapEntry)(seen':Array Nat),m[i]?=some p/\es[i]?=some e/\seen=seen'.push e.born/\c0=clock)
 fr:κ.fr r=0
 tag:κ.tag r=τ
 ge:τ.1<=r
section
variable {α β:Type} {kt:KT α} {t:Ty β} {τ τ':Tag} {κ κ':K} {b r:Nat} {m:List (α×β)} {done:List α} {cur:Option (α×β)}
def It.lt(h:It τ κ r b m done cur):r<κ.H.size:=by
 obtain⟨_,_,_,_,_,_,a,_⟩:=h.obj;exact(ai.1 a).1
def It.o(h:It τ κ r b m done cur):Own τ κ r:=⟨h.lt,h.fr,h.tag,h.ge⟩
def It.ltb(h:It τ κ r b m done cur):b<κ.H.size:=by
 obtain⟨_,_,_,_,_,a,_⟩:=h.obj;exact(ai.1 a).1
def It.step{M:List Nat}(s:Step M κ κ')(hr:r∉M)(hb:b∉M)(h:It τ κ r b m done cur):It τ κ' r b m done cur:=by
 obtain⟨g,d,a,c,j,f,e,i⟩:=h.obj;exact⟨⟨g,d,a,c,j,(s.2.1 b h.ltb hb).1.trans f,(s.2.1 r h.lt hr).1.trans e,i⟩,(s.2.1 r h.lt hr).2.1.trans h.fr,(s.2.1 r h.lt hr).2.2.trans h.tag,h.ge⟩
variable {P:Program}
def zyc{T kd e:TypeId}(h:Mp kt t τ κ b m)(hτ:τ'.1<=κ.H.size)(hT:zgk P T=some (kd,e))[Fb](C:Cx)(d:Nat):
  ∃κ',(Instr.range T (.map (some b))).run P (W C κ d)=.ok (.pointer (some ⟨κ.H.size,0,none⟩)) (W C κ' d)/\Step [] κ κ'/\It τ' κ' κ.H.size b m [] none:=by
 obtain⟨n,a,g,hsz,k,l,c⟩:=h.obj;have f:=zv1 C κ d b g P;refine⟨κ.push (.mapIter (some b) a #[] a) 0 τ',?_,zcY _ _ _ _,⟨⟨n,a,a,#[],a,?_,by simp[K.push],c,gl _,gl _,λi p e _ _=>by simp,λp hp=>by cases hp⟩,by simp[K.push],by simp[K.push],hτ⟩⟩
 ·unfold Instr.range;simp only[bd,zG (zcK hT),bc,f];rfl
 ·have j:=h.lt;simp only[K.push];rw[Array.getElem?_push,if_neg om];exact g
def zzu{ty:TypeId}(h:Mp kt t τ κ b m)(hi:It τ' κ r b m done cur)(hrb:r≠b)[Fb](C:Cx)(d:Nat):
  ((∀p∈m,p.1∈done)/\(Instr.next (.pointer (some ⟨r,0,none⟩)) false ty).run P (W C κ d)=.ok (.tuple #[.bool false]) (W C κ d)) \/
  ∃(p:α×β)(v:Value)(κ':K)(d':Nat),p∈m/\p.1∉done/\t.own κ' [v] p.2/\(Instr.next (.pointer (some ⟨r,0,none⟩)) false ty).run P (W C κ d)=.ok (.tuple #[.bool true,kt.enc p.1,v]) (W C κ' d')/\
   Step [r] κ κ'/\κ.H.size=κ'.H.size/\It τ' κ' r b m (p.1::done) (some p):=by
 obtain⟨x,R,X,hsz,S,a1,a4⟩:=h.obj;obtain⟨a8,b2,f,a,c0,y,hr,D,a2,B,l,_⟩:=hi.obj;rw[X]at y;injection y with y
 injection y with e1 e2
 subst e1;subst e2;have L:∀e∈x.toList,∃(i:Nat)(p:α×β),m[i]?=some p/\x[i]?=some e/\e.key=kt.enc p.1/\t.own κ [e.val] p.2:=by
  intro e n;obtain⟨i,k⟩:=dj n;rw[au]at k;have c:i<m.length:=by rw[←hsz];exact(ai.1 k).1
  obtain⟨E,g,Z,ho⟩:=S i m[i] (by simp[c]);rw[k]at g;injection g with g
  subst g;exact⟨i,m[i],by simp[c],k,Z,ho⟩
 rcases run_next_at (P:=P) (W C κ d) ty r b f c0 a x R hr X D a2 with⟨h0,w⟩ |⟨e,n,w1,hal,w⟩
 ·refine .inl ⟨λp hp=>?_,w⟩;obtain⟨i,k⟩:=dj hp;obtain⟨e,n,_,_⟩:=S i p k;refine(l i p e k n).1 ?_;by_cases hc:a.contains e.born=true
  ·exact hc
  ·exfalso;have:e∈leftOf x a:=by
    unfold leftOf;rw[Array.mem_filter];exact⟨Array.mem_of_getElem? n,by simpa using hc⟩
   have:=Array.size_pos_of_mem this;omega
 ·obtain⟨Y,A⟩:=mem_left n;obtain⟨i,p,u,z,hk,ho⟩:=L e Y;have N:Step [r] κ (κ.setO r (.mapIter (some b) f (a.push e.born) R)):=zl9 hi.fr;refine .inr ⟨p,e.val,κ.setO r (.mapIter (some b) f (a.push e.born) R),w1.drawn - C.base,fo u,λhd=>?_,t.step N ho,?_,N,by simp[K.setO],⟨⟨x,R,f,a.push e.born,R,?_,by simp[K.setO,hi.lt],D,B,B,?_,?_⟩,?_,?_,hi.ge⟩⟩
  ·rw[(l i p e u z).2 hd]at A;cases A
  ·rw[w,hk];congr 1;rcases hal with rfl | rfl
   ·simp[ChangeMaps.setBlock,W,K.setO]
   ·simp[ChangeMaps.setBlock,W,K.setO,World.drew];omega
  ·simp only[K.setO];rw[am (λe=>hrb e)];exact X
  ·intro j q E G g;have V:(a.push e.born).contains E.born=(a.contains E.born||(E.born == e.born)):=by
    rw[Array.contains_push]
   rw[V,Bool.or_eq_true,fh,l j q E G g];have T:j<x.size:=(ai.1 g).1;have U:i<x.size:=(ai.1 z).1;have H:x[j]=E:=(ai.1 g).2;have J:x[i]=e:=(ai.1 z).2;have M:j<m.length:=(dg.1 G).1;have Q:i<m.length:=(dg.1 u).1;have I:m[j]=q:=(dg.1 G).2;have F:m[i]=p:=(dg.1 u).2;have h1:E.born=e.born↔i=j:=by
    constructor
    ·intro a9;have s:=fx.1 a1;rcases gv i j with c | n | c
     ·have:=s i j (by simpa using U) (by simpa using T) c;simp only[List.getElem_map,Array.getElem_toList,J,H]at this;omega
     ·exact n
     ·have:=s j i (by simpa using T) (by simpa using U) c;simp only[List.getElem_map,Array.getElem_toList,J,H]at this;omega
    ·intro n;subst n;rw[←H,←J]
   have h2:q.1=p.1↔i=j:=by
    constructor
    ·intro O;have s:=fx.1 h.nd;rcases gv i j with c | n | c
     ·have:=s i j Q M c;rw[F,I]at this;exact absurd O.symm this
     ·exact n
     ·have:=s j i M Q c;rw[F,I]at this;exact absurd O this
    ·intro n;subst n;rw[←I,←F]
   have h3:((E.born == e.born)=true)↔q.1=p.1:=by rw[h2,←h1];simp
   rw[h3];exact or_comm
  ·intro q G;injection G with G
   subst G;exact⟨i,e,a,u,z,rfl,rfl⟩
  ·exact hi.fr
  ·exact hi.tag
def zyd{p:α×β}(h:Mp kt t τ κ b m)(hi:It τ' κ r b m done (some p))[Fb](C:Cx)(d:Nat):
  ∃v,t.own κ [v] p.2/\(Instr.entry (.pointer (some ⟨r,0,none⟩))).run P (W C κ d)=.ok (.tuple #[kt.enc p.1,v]) (W C κ d):=by
 obtain⟨A,M,y,hsz,s,u,B⟩:=h.obj;obtain⟨E,H,f,x,J,c,G,z,I,w,q,k⟩:=hi.obj;rw[y]at c;injection c with c
 injection c with e1 e2
 subst e1;subst e2;obtain⟨i,e,g,n,j,rfl,rfl⟩:=k p rfl;obtain⟨L,a,D,F⟩:=s i p n;rw[j]at a;injection a with a
 subst a;refine⟨e.val,F,?_⟩;have l:e∈A.toList:=by
  rw[←au]at j;exact fo j
 rw[run_entry_at (P:=P) (W C κ d) r b f g A J e G y l (u.imp λh=>Nat.ne_of_lt h),D]
end
section
variable [Fc] [Fb] {P:Program} {n:Nat} {c:Code} {i k:Nat} {Q:zaY} {E:Env} {κ:K} {α β:Type} {kt:KT α} {t:Ty β} {τ τ':Tag} {b r:Nat} {m:List (α×β)} {done:List α} {cur:Option (α×β)}
def zA1(R:K->Prop)(h:st c i n E none=true)(hr:∀C b,∃v κ' d1,(execOp (ev E) (zx c i)).run P (W C κ b)=.ok (.value v) (W C κ' d1)/\R κ')(hk:∀κ',R κ'->owp P n c (i+1) Q E κ'):owp P n c i Q E κ:=by
 refine znn h (λC b a d=>?_);obtain⟨v,κ',d1,f,e⟩:=hr C b;obtain⟨_,_,g,_⟩:=zh8 h;refine zme (by rw[d.eval];exact f) ?_;rw[g];exact hk κ' e C d1 _ d
def zDS[DecidableEq α](kt:KT α){T kd e ty:Nat}{x:α}(hm:Mp kt t τ κ b m)(hk:∀κ',Step [b] κ κ'->κ.H.size=κ'.H.size->Mp kt t τ κ' b (zmG m x)->owp P n c (i+1) Q E κ')(hkd:KeyOk P kd kt)(hT:zgk P T=some (kd,e):=by kernel_rfl)(h:st c i n E none=true:=by kernel_rfl)(ho:execOp (ev E) (zx c i)=vOf (Builtin.delete_ #[T,kd] ty #[.map (some b),kt.enc x]):=by kernel_rfl):owp P n c i Q E κ:=by
 refine zA1 (λκ'=>Step [b] κ κ'/\κ.H.size=κ'.H.size/\Mp kt t τ κ' b (zmG m x)) h (λC g=>?_) ?_
 ·obtain⟨κ',j,d,a,f⟩:=zAH hm hT hkd (x:=x) (ty:=ty) C g;exact⟨_,κ',g,by rw[ho];exact zH j,d,a,f⟩
 ·rintro κ' ⟨d,a,f⟩;exact hk κ' d a f
def zDj{d T kd e:Nat}(τ':Tag)(hτ:τ'.1<=κ.H.size)(hm:Mp kt t τ κ b m)(hk:∀r κ',Step [] κ κ'->κ.H.size<=r->It τ' κ' r b m [] none->owp P n c (i+1) Q (upd E d (.pointer (some ⟨r,0,none⟩))) κ')(hT:zgk P T=some (kd,e):=by kernel_rfl)(h:st c i n E (some d)=true:=by kernel_rfl)(ho:execOp (ev E) (zx c i)=vOf (Instr.range T (.map (some b))):=by kernel_rfl):owp P n c i Q E κ:=by
 refine zgj (λv κ'=>v=.pointer (some ⟨κ.H.size,0,none⟩)/\Step [] κ κ'/\It τ' κ' κ.H.size b m [] none) h (λC g=>?_) ?_
 ·obtain⟨κ',j,a,f⟩:=zyc hm hτ hT C g;exact⟨_,κ',g,by rw[ho];exact zH j,rfl,a,f⟩
 ·rintro v κ' ⟨rfl,a,f⟩;exact hk _ κ' a (gl _) f
def onx{d ty:Nat}(hm:Mp kt t τ κ b m)(hi:It τ' κ r b m done cur)(hrb:r≠b)(h0:(∀p∈m,p.1∈done)->owp P n c (i+1) Q (upd E d (.tuple #[.bool false])) κ)(h1:∀p v κ',p∈m->p.1∉done->t.own κ' [v] p.2->Step [r] κ κ'->κ.H.size=κ'.H.size->It τ' κ' r b m (p.1::done) (some p)->owp P n c (i+1) Q (upd E d (.tuple #[.bool true,kt.enc p.1,v])) κ')(h:st c i n E (some d)=true:=by kernel_rfl)(ho:execOp (ev E) (zx c i)=vOf (Instr.next (.pointer (some ⟨r,0,none⟩)) false ty):=by kernel_rfl):owp P n c i Q E κ:=by
 refine zgj (λv κ'=>(v=.tuple #[.bool false]/\κ=κ'/\∀p∈m,p.1∈done) \/
  ∃p u,v=.tuple #[.bool true,kt.enc p.1,u]/\p∈m/\p.1∉done/\t.own κ' [u] p.2/\Step [r] κ κ'/\κ.H.size=κ'.H.size/\It τ' κ' r b m (p.1::done) (some p)) h (λC f=>?_) ?_
 ·rcases zzu (ty:=ty) (P:=P) hm hi hrb C f with⟨e,a⟩ |⟨p,v,κ',d',e,a,g3,g4,g5,g6,g7⟩
  ·exact⟨_,κ,f,by rw[ho];exact zH a,.inl ⟨rfl,rfl,e⟩⟩
  ·exact⟨_,κ',d',by rw[ho];exact zH g4,.inr ⟨p,v,rfl,e,a,g3,g5,g6,g7⟩⟩
 ·rintro v κ' (⟨rfl,rfl,g⟩ |⟨p,u,rfl,e,a,g3,g4,g5,g6⟩)
  ·exact h0 g
  ·exact h1 p u κ' e a g3 g4 g5 g6
def zDp{d:Nat}{p:α×β}(hm:Mp kt t τ κ b m)(hi:It τ' κ r b m done (some p))(hk:∀v,t.own κ [v] p.2->owp P n c (i+1) Q (upd E d (.tuple #[kt.enc p.1,v])) κ)(h:st c i n E (some d)=true:=by kernel_rfl)(ho:execOp (ev E) (zx c i)=vOf (Instr.entry (.pointer (some ⟨r,0,none⟩))):=by kernel_rfl):owp P n c i Q E κ:=by
 refine zgj (λv κ'=>κ=κ'/\∃u,v=.tuple #[kt.enc p.1,u]/\t.own κ [u] p.2) h (λC e=>?_) ?_
 ·obtain⟨u,a,f⟩:=zyd (P:=P) hm hi C e;exact⟨_,κ,e,by rw[ho];exact zH f,rfl,u,rfl,a⟩
 ·rintro v κ' ⟨rfl,u,rfl,a⟩;exact hk u a
def zEg[DecidableEq α](kt:KT α){d T kd e:Nat}{x:α}{m:List (α×Int)}(hm:Mp kt tI64 τ κ b m)(hk:dwp P n c k (i+1) Q (upd E d (.tuple #[.int .i64 ((zdw m x).getD 0),.bool (zhK m x)])) κ)(hkd:KeyOk P kd kt)(hT:zgk P T=some (kd,e):=by kernel_rfl)(h:dst c k i E d=true:=by kernel_rfl)(ho:execOp (ev E) (zx c i)=vOf (Instr.lookup T (.map (some b)) (kt.enc x) true):=by kernel_rfl)(hz:zfc P e=some (.int .i64 0):=by kernel_rfl):dwp P n c k i Q E κ:=by
 refine zl6 _ h (λC f=>?_) hk;obtain⟨v,a,_,g⟩:=zpQ (y0:=(0:Int)) hm hT hkd hz ⟨rfl,by unfold I64;omega⟩ (x:=x) C f;obtain⟨rfl,_⟩:=zrA a;rw[ho];exact zH g
def zCi[DecidableEq α]{m:List (α×Int)}{x:α}(hm:Mp kt tI64 τ κ b m):I64 ((zdw m x).getD 0):=by
 cases hg:zdw m x with
 | none=>show I64 0;unfold I64;omega
 | some y=>
  show I64 y;unfold zdw at hg;obtain⟨p,hp,rfl⟩:=ig.1 hg;obtain⟨j,c⟩:=dj (fm hp);obtain⟨g,f,_,_,d,_⟩:=hm.obj;obtain⟨e,_,_,a⟩:=d j p c;exact(zrA a).2
end
def zzH{α β:Type}(m:List (α×β)):Option Int:=if m.length<=9223372036854775807 then some (m.length:Int)else none
def zzG{α β:Type}{m:List (α×β)}{r:Int}(h:zzH m=some r):(m.length:Int)=r/\I64 r:=by
 unfold zzH at h;split at h
 ·obtain rfl:=Option.some.inj h;refine⟨rfl,?_⟩;unfold I64;omega
 ·cases h
section
variable [Fc] [Fb] {P:Program} {n:Nat} {c:Code} {i:Nat} {Q:zaY} {E:Env} {κ:K} {α β:Type} {kt:KT α} {t:Ty β} {τ τ':Tag} {b:Nat} {m:List (α×β)}
def zDR{d T k e:Nat}{r:Int}(h0:Mp kt t τ κ b m)(hx:zzH m=some r)(hk:owp P n c (i+1) Q (upd E d (.int .i64 r)) κ)(h:st c i n E (some d)=true:=by kernel_rfl)(ho:execOp (ev E) (zx c i)=vOf (Builtin.len_ #[T] 3 #[.map (some b)]):=by kernel_rfl)(hT:zgk P T=some (k,e):=by kernel_rfl):owp P n c i Q E κ:=by
 obtain⟨f,_⟩:=zzG hx;subst f;obtain⟨l,j,g,hsz,_⟩:=h0.obj;refine zie _ h (λC a=>?_) hk;rw[ho];refine zH ?_;unfold Builtin.len_;simp[zG (zcK hT),zv1 C κ a b g P,goInt,hsz]
omit [Fc] [Fb] in
def Mp.retag{τ:Tag}(h:Mp kt t τ' κ b m)(hle:τ.1<=τ'.1):Mp kt t τ (κ.retag [b] τ) b m/\Step [b] κ (κ.retag [b] τ):=by
 have a:Step [b] κ (κ.retag [b] τ):=by
  refine⟨gl _,λx _ c=>⟨rfl,rfl,?_⟩,λx _=>⟨gl _,λ_ _=>rfl⟩,λx _ d=>⟨?_,rfl⟩⟩
  ·show(if x∈[b]then τ else κ.tag x)=κ.tag x;rw[if_neg c]
  ·show(if x∈[b]then τ else κ.tag x)=κ.tag x;refine if_neg λc=>?_;have:=fq.1 c;subst this;rw[h.fr]at d;omega
 refine⟨?_,a⟩;obtain⟨r,g,q,l,s,n⟩:=h.obj;refine⟨⟨r,g,q,l,λi p hp=>?_,n⟩,h.nd,h.fr,?_,gm hle h.ge⟩
 ·obtain⟨e,k,f,j⟩:=s i p hp;exact⟨e,k,f,t.step a j⟩
 ·show(if b∈[b]then τ else κ.tag b)=τ;rw[if_pos si]
end
end Go.Lf
namespace Go.Lf
open Go Go.Proofs Go.Sort Go.Shelf
def Fn.same[Fb]{P:Program}{f:FuncId}{args:Array Value}{κ:K}{v:Value}{R:Value->K->Prop}(h:∀w,Calls P f args w λe w'=>e=.returned v/\w'=w)(hR:R v κ):Fn P f args κ R:=
 λC d=>(h (W C κ d)).mono λ_ _ ⟨he,hw⟩=>⟨v,κ,d,he,hw,hR⟩
structure EncOk{α:Type}(t:Ty α)(s:Nat)(enc:α->List Value)(ok:α->Prop):Prop where
 size:t.size=s
 pos:0<s
 len:∀x,(enc x).length=s
 one:∀x,∀v∈enc x,v.oneCell'=true
 own:∀κ cs x,t.own κ cs x↔cs=enc x/\ok x
section
variable {P:Program} {ρ:Ren} {α:Type} [Inhabited α] {t:Ty α} {s:Nat} {enc:α->List Value} {ok:α->Prop}
def zvQ(hs:0<s)(hk:∀x,(enc x).length=s):∀(l:List α)(i:Nat),i<l.length*s->(l.flatMap enc)[i]?=some ((enc (l[i / s]!))[i % s]!)
 |[],i,h=>by simp at h
 | x::l,i,h=>by
  rw[cn];by_cases hi:i<s
  ·rw[cq (by rw[hk];exact hi),Nat.div_eq_of_lt hi,Nat.mod_eq_of_lt hi];have b:i<(enc x).length:=by rw[hk];exact hi
   simp[b]
  ·have a:s<=i:=by omega
   have e:i / s=(i - s) / s+1:=Nat.div_eq_sub_div hs a;have c:i % s=(i - s) % s:=Nat.mod_eq_sub_mod a;rw[cv (by rw[hk];exact a),hk,zvQ hs hk l (i - s) (by rw[dz,gz]at h;omega),e,c];simp
def ztf(hk:∀x,(enc x).length=s)(l:List α):(l.flatMap enc).length=l.length*s:=by
 induction l with
 | nil=>simp
 | cons x l ih=>rw[cn,dy,ih,hk,dz,gz];omega
def zvR(hs:0<s)(hk:∀x,(enc x).length=s)(l:List α):flatK enc s l.toArray=(l.flatMap enc).toArray:=by
 apply Array.toList_inj.1;apply ca;intro i;show(flatK enc s l.toArray).toList[i]?=(l.flatMap enc)[i]?;by_cases hi:i<l.length*s
 ·rw[zvQ hs hk l i hi];unfold flatK;rw[Array.toList_map,Array.toList_range,dh,dl (by simpa using hi)];simp
 ·rw[df (by rw[av,size_flatK];simpa using hi),df (by rw[ztf hk];omega)]
def zvD(h:EncOk t s enc ok){κ:K}:∀{l:List α} {xs:List Value},Rep t κ xs l->xs=l.flatMap enc/\∀x∈l,ok x
 |[],xs,a=>⟨a,λx k=>by cases k⟩
 | x::l,xs,a=>by
  obtain⟨c,f,e,d,a⟩:=a;obtain⟨rfl,i⟩:=(h.own κ c x).1 d;obtain⟨g,j⟩:=zvD h a;refine⟨by rw[e,g];rfl,λy b=>?_⟩;rcases fh.1 b with rfl | b
  ·exact i
  ·exact j y b
def zvP(h:EncOk t s enc ok){κ:K}:∀{l:List α},(∀x∈l,ok x)->Rep t κ (l.flatMap enc) l
 |[],_=>rfl
 | x::l,hl=>⟨enc x,_,rfl,(h.own κ _ x).2 ⟨rfl,hl x si⟩,zvP h λy a=>hl y (by simp[a])⟩
def zxa(L:SlLaysF0.n6 P ρ)(q:EncOk t s enc ok)(aE:∀w,(isAgg (ρ.t 24)).run P w=.ok true w)(zE:∀w,(Go.sizeOf (ρ.t 24)).run P w=.ok s w){cf:α->α->Int}(hO:SWO (ltOf cf)){gf:Nat}(eg:∀args w,(callFunc gf args).run P w=.ok (.enter gf args) w)(hc:∀(inst:Fb)(κ:K)(x y:α),@Fn inst P gf #[.agg (enc x).toArray,.agg (enc y).toArray] κ (λv κ'=>Step [] κ κ'/\v=.int .i64 (cf x y))){κ:K}{τ:Tag}{a:Option Addr}{c eT:Nat}{l:List α}(hg:Gr t false τ κ eT a c l)(hlen:l.length<=4611686018427387900):
  Fn P (ρ.f 6) #[.slice a l.length c,.func (.func gf) #[] #[]] κ (λv κ'=>Step (blk a c) κ κ'/\v=.tuple #[]/\Gr t false τ κ' eT a c (pdq (ltOf cf) l.toArray 0 l.length (Lib.bitLen l.length) true true).toList):=by
 have hp:=pdq_sorts (ltOf cf) hO l.toArray 0 l.length (Lib.bitLen l.length) true true (Nat.zero_le _) si (Or.inl rfl);obtain⟨r,M⟩:∃r:Array α,r=pdq (ltOf cf) l.toArray 0 l.length (Lib.bitLen l.length) true true:=⟨_,rfl⟩;rw[←M]at hp ⊢;have N:r.size=l.length:=by have:=hp.1.1;simpa using this
 by_cases hl:0<l.length
 case neg=>
  have h0:l=[]:=bz om;have X:r.toList=[]:=bz (by rw[av];omega);rw[X];rw[h0]at hg ⊢;refine(Fn.same (f:=ρ.f 6) (v:=.tuple #[]) (R:=λv κ'=>κ=κ'/\v=.tuple #[]) (λw=>AnyF.slices_SortFunc_none L a c _ w) ⟨rfl,rfl⟩).mono λv κ' h=>?_;rw[show κ'=κ from h.1.symm];exact⟨Step.refl _ _,h.2,hg⟩
 rcases hg.body with⟨_,h⟩ |⟨g,cur,xs,rfl,hr,hH,h1,h2,h3,h4,h5,h6,h7⟩
 ·rw[h]at hl;cases hl
 obtain⟨hx,hI⟩:=zvD q hr;have A:g<κ.H.size:=(ai.1 hH).1;have G:(l.flatMap enc).length=l.length*s:=ztf q.len l;have a6:c*s=cur.size:=by rw[h3,q.size]
 have b9:l.length*s<=c*s:=gy s h1;have a4:∀x∈r.toList,ok x:=by
  have J:=hp.1.2.2;intro x hx;refine hI x ?_;have h8:(r.extract 0 l.length).toList=r.toList:=by rw[←N];simp
  have h9:(l.toArray.extract 0 l.length).toList=l:=by simp
  rw[h8,h9]at J;exact J.mem_iff.1 hx
 intro C d;have H:HoldsK enc s (W C κ d) g 0 l.toArray:=by
  unfold HoldsK;rw[zvR q.pos q.len];intro j Q;have Y:j<l.length*s:=by rw[ga,G]at Q;exact Q
  have a5:cur[j]?=(l.flatMap enc)[j]?:=by
   rw[←hx,←h4,q.size,dv,if_pos Y];simp
  refine⟨?_,?_⟩
  ·rw[zkz];unfold K.cell;rw[hH];simp only[ia];rw[a5];have:j<(l.flatMap enc).length:=by omega
   simp;rw[cz this];rfl
  ·unfold World.frozen? W;simp[hH]
 have E:CmpLays P gf #[] enc s cf g 0 l.toArray.size (W C κ d):=by
  intro m os dk _ x y;generalize sortWorldK enc s (W C κ d) g 0 m dk os=V;have h:=hc ⟨λ_=>true,0,rfl⟩ ⟨V.heap,λ_=>0,λ_=>(0,0)⟩ x y;refine Calls.mono (h (@Cx.mk ⟨λ_=>true,0,rfl⟩ V.os V.tape V.output V.drawn rfl) 0) ?_;rintro e w' ⟨v,κ',d',q,U,s,hv⟩;subst hv;refine⟨q,d',κ'.H.extract V.heap.size κ'.H.size,?_⟩;rw[U];unfold W grow World.drewN;simp only[];congr 1;apply Array.ext_getElem?;intro b;rw[ab];by_cases i:b<V.heap.size
  ·rw[if_pos i];exact(s.2.1 b i si).1
  ·rw[if_neg i,Array.getElem?_extract];split
   ·congr 1;omega
   ·rw[Array.getElem?_eq_none (by have:=s.1;simp only at this;omega)]
 refine(AnyQ.slices_SortFunc_eq L s aE zE enc q.len q.one cf hO gf #[] g 0 c l.toArray (W C κ d) eg E H A so).mono ?_;rintro e w' ⟨T,n,os,U⟩;have I:w'=sortWorldK enc s (W C κ d) g 0 n r os:=by rw[M];simpa using U
 have hF:flatK enc s r=(r.toList.flatMap enc).toArray:=by
  have:=zvR q.pos q.len r.toList;simpa using this
 have z:r.toList.length=l.length:=by rw[av];exact N
 have b6:(r.toList.flatMap enc).length=r.toList.length*s:=ztf q.len _;obtain⟨k,p⟩:∃k,k=putCells id 0 (flatK enc s r) cur:=⟨_,rfl⟩;have u:w'.heap=κ.H.modify g (onCells (putCells id 0 (flatK enc s r)))++os:=by rw[I];rfl
 have B:∀b,b<κ.H.size->w'.heap[b]?=(κ.H.modify g (onCells (putCells id 0 (flatK enc s r))))[b]?:=λb i=>by rw[u,Array.getElem?_append_left (by simpa using i)]
 have D:∀b,b<κ.H.size->b≠g->w'.heap[b]?=κ.H[b]?:=λb i hn=>by rw[B b i,aj,if_neg (Ne.symm hn)]
 have S:w'.heap[g]?=some (.cells k eT (0,0)):=by rw[B g A,aj,if_pos rfl,hH,p];rfl
 have F:κ.fr g=0:=by simpa using h5
 have a0:k.size=cur.size:=by rw[p];unfold putCells;simp
 refine⟨_,⟨w'.heap,λb=>if b<κ.H.size then κ.fr b else 0,λb=>if b<κ.H.size then κ.tag b else(0,0)⟩,d+n,T,?_,?_,rfl,?_⟩
 ·rw[I];unfold W;show sortWorldK _ _ _ _ _ _ _ _={heap:=(sortWorldK _ _ _ _ _ _ _ _).heap,tape:=C.tape,drawn:=C.base+(d+n),os:=C.os,output:=C.output};rw[←Nat.add_assoc];rfl
 ·have Z:∀b,b∉blk (some ⟨g,0,none⟩) c->b≠g:=λb i e=>i (by rw[e];exact zlv (a:=⟨g,0,none⟩) om);refine⟨by rw[u];simp,λb i hn=>⟨D b i (Z b hn),if_pos i,if_pos i⟩,λb i=>⟨Nat.le_of_eq (if_pos i).symm,λo ho=>?_⟩,λb i hf=>⟨if_pos i,?_⟩⟩
  ·have:b≠g:=λe=>by rw[e,F]at ho;cases ho
   unfold K.cell;rw[D b i this]
  ·have:b≠g:=λe=>by rw[e,F]at hf;cases hf
   unfold K.shp;rw[D b i this]
 ·refine⟨by rw[z];exact hg.most,.inr ⟨g,k,r.toList.flatMap enc,rfl,zvP q a4,S,by rw[z];exact h1,h2,by rw[a0];exact h3,?_,?_,(if_pos A).trans h6,h7⟩⟩
  ·apply ca;intro j;rw[q.size,dv];split
   ·rename_i Q;have a3:j<cur.size:=by rw[z]at Q;omega
    have O:j<(r.toList.flatMap enc).length:=by omega
    rw[p,hF];unfold putCells;rw[au,Array.getElem?_mapIdx,ac a3];simp;rw[if_pos (by rw[←List.length_flatMap];exact O),cz O];rfl
   ·rw[df om]
  ·show(if g<κ.H.size then κ.fr g else 0)=_;rw[if_pos A,F];simp
end
end Go.Lf
namespace Go.Lf
open Go
section
variable [Fb] {P:Program} {Rel:K->K->Prop} {c:Code} {i:Nat} {E:Env} {κ:K} {R:Value->K->Prop}
def zsX{T:TypeId}(τ:Tag)(hτ:τ.1<=κ.H.size)(zs:List Value)(h:zbR c i E=true)(ho:execOp (ev E) (zx c i)=vOf (Instr.alloc T true (.tuple #[])))(hz:(zfc P T).map Value.cells=some zs.toArray)(hk:∀b κ',Step [] κ κ'->Box τ κ' b zs T->Rel κ κ'/\R (.pointer (some ⟨b,0,none⟩)) κ'):OpQ P Rel c i E κ R:=by
 obtain⟨z,d,a⟩:=ig.1 hz;obtain⟨g,f⟩:=hk κ.H.size _ (zcY _ _ _ _) (zu7 _ zs T _ hτ);refine zCa h λC e=>⟨.pointer (some ⟨κ.H.size,0,none⟩),κ.push (.cells zs.toArray T) 0 τ,e,?_,g,f⟩;rw[ho];refine zH ?_;unfold Instr.alloc;simp only[bd,zh2 d,bc];unfold newVar newRow;rw[a];rfl
end
end Go.Lf
namespace Go.Lf
open Go Go.Proofs Go.Sort
section
variable {α:Type} [Inhabited α] {lt:α->α->Bool}
def zlT(lt:α->α->Bool)(l:List α):List α:=(pdq lt l.toArray 0 l.length (Lib.bitLen l.length) true true).toList
def zdC(hO:SWO lt)(l:List α):(zlT lt l).Perm l/\(zlT lt l).Pairwise (λa b=>lt b a=false):=by
 unfold zlT;have h:=pdq_sorts lt hO l.toArray 0 l.length (Lib.bitLen l.length) true true (Nat.zero_le _) si (Or.inl rfl);obtain⟨r,p⟩:∃r:Array α,r=pdq lt l.toArray 0 l.length (Lib.bitLen l.length) true true:=⟨_,rfl⟩;rw[←p]at h ⊢;obtain⟨⟨e,_,g⟩,n⟩:=h;have e:r.size=l.length:=by simpa using e
 constructor
 ·have k:(r.extract 0 l.length).toList=r.toList:=by rw[←e];simp
  have q:(l.toArray.extract 0 l.length).toList=l:=by simp
  rw[k,q]at g;exact g
 ·rw[fx];intro i j hi m f;have d:i<r.size:=by simpa using hi
  have c:j<r.size:=by simpa using m
  have:=n i j om f om;rw[getElem!_pos r i d,getElem!_pos r j c]at this;simpa using this
def zB7(hO:SWO lt){l l':List α}(hp:l'.Perm l)(hs:l'.Pairwise (λa b=>lt b a=false))(ht:∀a b,a∈l->b∈l->lt a b=false->lt b a=false->a=b):zlT lt l=l':=by
 obtain⟨c,f⟩:=zdC hO l;exact List.Perm.eq_of_pairwise (λa b e h g d=>ht a b (c.mem_iff.1 e) (hp.mem_iff.1 h) d g) f hs (c.trans hp.symm)
def zvF(hO:SWO lt){l l':List α}(hp:l.Perm l')(ht:∀a b,a∈l'->b∈l'->lt a b=false->lt b a=false->a=b):zlT lt l=zlT lt l':=
 ((zB7 hO ((zdC hO l).1.trans hp) (zdC hO l).2 ht)).symm
end
def zsy{α β:Type}[DecidableEq α](m:List (α×β))(done:List α):List (α×β):=m.filter λq=>decide (q.1∈done)
def zu3{α β:Type}[DecidableEq α]{m:List (α×β)}(hnd:m.Pairwise (λp q=>p.1≠q.1)){p:α×β}{done:List α}(hp:p∈m)(hd:p.1∉done):
  (zsy m (p.1::done)).Perm (zsy m done++[p]):=by
 unfold zsy
 induction m with
 | nil=>cases hp
 | cons x m ih=>
  obtain⟨c,f⟩:=fv.1 hnd;rcases fh.1 hp with rfl | hp
  ·rw[ci si,cg (by simpa using hd)];have e:(m.filter λq=>decide (q.1∈p.1::done))=m.filter λq=>decide (q.1∈done):=by
    refine List.filter_congr λy g=>?_;have:=c y g;simp[Ne.symm this]
   rw[e];exact(List.perm_append_singleton p _).symm
  ·have d:(x.1∈p.1::done)↔x.1∈done:=by
    have:=c p hp;simp[this]
   have a:=ih f hp;by_cases b:x.1∈done
   ·rw[ci (by simpa using d.2 b),ci (by simpa using b),List.cons_append];exact a.cons x
   ·rw[cg (by rw[decide_eq_true_eq];exact λh=>b (d.1 h)),cg (by simpa using b)];exact a
def zx1{α β:Type}[DecidableEq α]{m:List (α×β)}{done:List α}(h:∀p∈m,p.1∈done):zsy m done=m:=
 cj.2 λp hp=>by simpa using h p hp
def zx0{α β:Type}[DecidableEq α](m:List (α×β)):zsy m []=[]:=by unfold zsy;simp
def zwL{α β:Type}[DecidableEq α](m:List (α×β))(done:List α):(zsy m done).length<=m.length:=ed _ _
def zrs{α β:Type}[DecidableEq α](m:List (α×β))(done:List α):Nat:=m.length - (zsy m done).length
def zvZ{α β:Type}[DecidableEq α]{m:List (α×β)}(hnd:m.Pairwise (λp q=>p.1≠q.1)){p:α×β}{done:List α}(hp:p∈m)(hd:p.1∉done):zrs m (p.1::done)+1=zrs m done:=by
 have a:=(zu3 hnd hp hd).length_eq;have b:=zwL m (p.1::done);unfold zrs;rw[dy,eu]at a;omega
def zvK{α β:Type}[DecidableEq α]{m:List (α×β)}{x:α}{y:β}:∀p∈zbX m x y,p.1=x\/∃q∈m,q.1=p.1:=by
 intro p hp;unfold zbX at hp;split at hp
 ·obtain⟨q,a,rfl⟩:=fj.1 hp;by_cases h:q.1=x
  ·rw[if_pos h];exact .inl rfl
  ·rw[if_neg h];exact .inr ⟨q,a,rfl⟩
 ·rcases fe.1 hp with h | h
  ·exact .inr ⟨p,h,rfl⟩
  ·rw[fq.1 h];exact .inl rfl
end Go.Lf
namespace Go.Lf
open Go
section
variable {α β:Type} {kt:KT α} {t:Ty β} {τ:Tag} {κ:K} {b:Nat} {m:List (α×β)} [DecidableEq α]
def zA9{P:Program}{T kd e:TypeId}{x:α}{y:β}(h:Mp kt t τ κ b m)(hT:zgk P T=some (kd,e))(hk:KeyOk P kd kt)(hg:zdw m x=some y):
  ∃v,t.own κ [v] y/\∀[Fb] (C:Cx) (d:Nat),(Instr.lookup T (.map (some b)) (kt.enc x) false).run P (W C κ d)=.ok v (W C κ d):=by
 obtain⟨B,A,s,hsz,l,_⟩:=h.obj;obtain⟨p,hp,rfl⟩:=ig.1 hg;have a:p.1=x:=by simpa using List.find?_some hp
 obtain⟨j,r⟩:=dj (fm hp);obtain⟨w,n,z,u⟩:=l j p r;refine⟨w.val,u,λ{_} C d=>?_⟩;have q:=zv1 C κ d b s P;rcases zt2 h hk x s (W C κ d)with⟨k,_,_⟩ |⟨j',en',y',g0,k,g2,g3,g4,g5,g6⟩
 ·rw[hg]at k;cases k
 ·have i:j'=j:=by
   have g:=(dg.1 g0);have f:=(dg.1 r);have c:=fx.1 h.nd;rcases gv j' j with hlt | n | hlt
   ·have:=c j' j g.1 f.1 hlt;rw[g.2,f.2]at this;exact absurd a.symm this
   ·exact n
   ·have:=c j j' f.1 g.1 hlt;rw[g.2,f.2]at this;exact absurd a this
  subst i;rw[n]at g3;injection g3 with g3
  subst g3;unfold Instr.lookup;simp[zG (zcK hT),q,hk.check,g6]
variable [Fc] [Fb] {P:Program} {n:Nat} {c:Code} {i k:Nat} {Q:zaY} {E:Env}
def zEf{d T kd e:Nat}{x:α}(v:Value)(hr:∀[Fb] (C:Cx) (d:Nat),(Instr.lookup T (.map (some b)) (kt.enc x) false).run P (W C κ d)=.ok v (W C κ d))(hk:dwp P n c k (i+1) Q (upd E d v) κ)(h:dst c k i E d=true:=by kernel_rfl)(ho:execOp (ev E) (zx c i)=vOf (Instr.lookup T (.map (some b)) (kt.enc x) false):=by kernel_rfl):dwp P n c k i Q E κ:=by
 refine zl6 v h (λC a=>?_) hk;rw[ho];exact zH (hr C a)
end
end Go.Lf
namespace Go.Lf
open Go Go.Proofs
section
variable [Fc] [Fb] {P:Program} {n:Nat} {c:Code} {i:Nat} {Q:zaY} {E:Env} {κ:K}
abbrev vl{α:Type}(a:Option Addr)(l:List α)(c:Nat):Value:=.slice a l.length c
abbrev tt:Value:=.bool true
abbrev ff:Value:=.bool false
def iK(n:Int)(h : -9223372036854775808<=n/\n<=9223372036854775807:=by decide):I64 n:=h
abbrev ups(E:Env)(L:List (Nat×Value)):Env:=L.foldl (λF p=>upd F p.1 p.2) E
def eY{E:Env}{L:List (Nat×Value)}(h:(L.map λp=>E p.1)=L.map Prod.snd:=by kernel_rfl):E=ups E L:=by
 have key:∀(L:List (Nat×Value)),(L.map λp=>E p.1)=L.map Prod.snd->ups E L=E:=by
  intro L
  induction L with
  | nil=>intro _;rfl
  | cons p L ih=>
   intro h;rw[fd,fd]at h;have a:=(List.cons.inj h).1;have e:upd E p.1 p.2=E:=(zb (t:=p.1) rfl a).symm;show ups (upd E p.1 p.2) L=E;rw[e];exact ih (List.cons.inj h).2
 exact(key L h).symm
def opk(P:Program)(n:Nat)(c:Code):Nat->Env->List (Nat×Value)->Prop
 | _,_,[]=>True
 | i,E,p::L=>st c i n E (some p.1)=true/\(∀w,(execOp (ev E) (zx c i)).run P w=.ok (.value p.2) w)/\opk P n c (i+1) (upd E p.1 p.2) L
def okn:opk P n c i E []:=trivial
def okc{d:Nat}{v:Value}{L:List (Nat×Value)}(h:st c i n E (some d)=true)(hr:∀w,(execOp (ev E) (zx c i)).run P w=.ok (.value v) w)(hl:opk P n c (i+1) (upd E d v) L):opk P n c i E ((d,v)::L):=⟨h,hr,hl⟩
def olz:∀(L:List (Nat×Value))(i:Nat)(E:Env),owp P n c (i+L.length) Q (ups E L) κ->opk P n c i E L->owp P n c i Q E κ
 |[],_,_,hk,_=>hk
 | p::L,i,E,hk,h=>by
  refine op p.1 p.2 (olz L (i+1) (upd E p.1 p.2) ?_ h.2.2) h.1 h.2.1;rw[show i+1+L.length=i+(p::L).length by rw[dz];omega];exact hk
def ol(L:List (Nat×Value))(hk:owp P n c (i+L.length) Q (ups E L) κ)(h:opk P n c i E L:=by repeat (first | exact okn | refine okc (by kernel_rfl) (by intro _;kernel_rfl) ?_)):owp P n c i Q E κ:=olz L i E hk h
def os0:Os:=by constructor<;>first | exact #[] | exact 0 | exact none | exact false | exact[] | exact ByteArray.empty | exact default
def w0:World:=⟨#[],λ_ _=>0,0,os0,#[]⟩
def zt7(P:Program)(c:Code)(i:Nat)(E:Env):Value:=match(execOp (ev E) (zx c i)).run P w0 with
 | .ok (.value v) _=>v
 | _=>undef
def odk(P:Program)(n:Nat)(c:Code):Nat->Nat->Env->Prop
 | 0,_,_=>True
 | k+1,i,E=>(st c i n E (some (dstOf c i))=true/\∀w,(execOp (ev E) (zx c i)).run P w=.ok (.value (zt7 P c i E)) w)/\odk P n c k (i+1) (upd E (dstOf c i) (zt7 P c i E))
def rnk(P:Program)(c:Code):Nat->Nat->Env->Env
 | 0,_,E=>E
 | k+1,i,E=>rnk P c k (i+1) (upd E (dstOf c i) (zt7 P c i E))
def odn:odk P n c 0 i E:=trivial
def odc{k:Nat}(h:st c i n E (some (dstOf c i))=true)(hr:∀w,(execOp (ev E) (zx c i)).run P w=.ok (.value (zt7 P c i E)) w)(hl:odk P n c k (i+1) (upd E (dstOf c i) (zt7 P c i E))):odk P n c (k+1) i E:=⟨⟨h,hr⟩,hl⟩
def odz:∀(k i:Nat)(E:Env),owp P n c (i+k) Q (rnk P c k i E) κ->odk P n c k i E->owp P n c i Q E κ
 | 0,_,_,hk,_=>hk
 | k+1,i,E,hk,h=>by
  refine op (dstOf c i) (zt7 P c i E) (odz k (i+1) _ ?_ h.2) h.1.1 h.1.2;rw[show i+1+k=i+(k+1) by omega];exact hk
def od(k:Nat)(hk:owp P n c (i+k) Q (rnk P c k i E) κ)(h:odk P n c k i E:=by repeat (first | exact odn | refine odc (by kernel_rfl) (by intro _;kernel_rfl) ?_)):owp P n c i Q E κ:=odz k i E hk h
def num:Nat->List Value->List (Nat×Value)
 | _,[]=>[]
 | d,v::L=>(d,v)::num (d+1) L
def zy0:∀(L:List Value)(d:Nat),(num d L).length=L.length
 |[],_=>rfl
 | v::L,d=>by unfold num;rw[dz,dz,zy0 L]
def ou(d:Nat)(L:List Value)(hk:owp P n c (i+L.length) Q (ups E (num d L)) κ)(h:opk P n c i E (num d L):=by repeat (first | exact okn | refine okc (by kernel_rfl) (by intro _;kernel_rfl) ?_)):owp P n c i Q E κ:=olz (num d L) i E (by rw[zy0];exact hk) h
def osk(n:Nat)(c:Code):Nat->Env->List Nat->Prop
 | _,_,[]=>True
 | i,E,d::L=>sk c i n E d=true/\osk n c (i+1) (upd E d undef) L
def skn:osk n c i E []:=trivial
def skc{d:Nat}{L:List Nat}(h:sk c i n E d=true)(hl:osk n c (i+1) (upd E d undef) L):osk n c i E (d::L):=⟨h,hl⟩
abbrev uns(E:Env)(L:List Nat):Env:=L.foldl (λF d=>upd F d undef) E
def ozz:∀(L:List Nat)(i:Nat)(E:Env),owp P n c (i+L.length) Q (uns E L) κ->osk n c i E L->owp P n c i Q E κ
 |[],_,_,hk,_=>hk
 | d::L,i,E,hk,h=>by
  refine os d (ozz L (i+1) (upd E d undef) ?_ h.2) h.1;rw[show i+1+L.length=i+(d::L).length by rw[dz];omega];exact hk
def oz(L:List Nat)(hk:owp P n c (i+L.length) Q (uns E L) κ)(h:osk n c i E L:=by repeat (first | exact skn | refine skc (by kernel_rfl) ?_)):owp P n c i Q E κ:=ozz L i E hk h
def dT(k:Nat){c1:Code}(hq:cwp P n c1 Q (rnk P c k i E) κ)(h:odk P n c k i E:=by repeat (first | exact odn | refine odc (by kernel_rfl) (by intro _;kernel_rfl) ?_))(h2:decide ((opsOf c).size<=i+k)=true:=by kernel_rfl):owp P n c i (zdJ P n c1 Q) E κ:=od k (ot hq h2) h
def cO(k:Nat){c:Code}{p:List Nat}(hk:owp P n (sub c (0::p)) (0+k) (zdJ P n (sub c (1::p)) Q) (rnk P (sub c (0::p)) k 0 E) κ)(h:odk P n (sub c (0::p)) k 0 E:=by repeat (first | exact odn | refine odc (by kernel_rfl) (by intro _;kernel_rfl) ?_))(h0:zot (sub c p)=true:=by kernel_rfl)(h2:zcJ (sub c (0::p))=some false:=by kernel_rfl):cwp P n (sub c p) Q E κ:=csr (od k hk h) h0 h2
def cT(k:Nat){c:Code}{p:List Nat}(hq:cwp P n (sub c (1::p)) Q (rnk P (sub c (0::p)) k 0 E) κ)(h:odk P n (sub c (0::p)) k 0 E:=by repeat (first | exact odn | refine odc (by kernel_rfl) (by intro _;kernel_rfl) ?_))(h1:decide ((opsOf (sub c (0::p))).size<=0+k)=true:=by kernel_rfl)(h0:zot (sub c p)=true:=by kernel_rfl)(h2:zcJ (sub c (0::p))=some false:=by kernel_rfl):cwp P n (sub c p) Q E κ:=csr (dT k hq h h1) h0 h2
def ddk(P:Program)(c:Code)(k:Nat):Nat->Nat->Env->Prop
 | 0,_,_=>True
 | m+1,i,E=>(dst c k i E (dstOf c i)=true/\∀w,(execOp (ev E) (zx c i)).run P w=.ok (.value (zt7 P c i E)) w)/\ddk P c k m (i+1) (upd E (dstOf c i) (zt7 P c i E))
def ddn{k:Nat}:ddk P c k 0 i E:=trivial
def ddc{k m:Nat}(h:dst c k i E (dstOf c i)=true)(hr:∀w,(execOp (ev E) (zx c i)).run P w=.ok (.value (zt7 P c i E)) w)(hl:ddk P c k m (i+1) (upd E (dstOf c i) (zt7 P c i E))):ddk P c k (m+1) i E:=⟨⟨h,hr⟩,hl⟩
def ddz{k:Nat}:∀(m i:Nat)(E:Env),dwp P n c k (i+m) Q (rnk P c m i E) κ->ddk P c k m i E->dwp P n c k i Q E κ
 | 0,_,_,hk,_=>hk
 | m+1,i,E,hk,h=>by
  refine dp (dstOf c i) (zt7 P c i E) (ddz m (i+1) _ ?_ h.2) h.1.1 h.1.2;rw[show i+1+m=i+(m+1) by omega];exact hk
def dd{k:Nat}(m:Nat)(hk:dwp P n c k (i+m) Q (rnk P c m i E) κ)(h:ddk P c k m i E:=by repeat (first | exact ddn | refine ddc (by kernel_rfl) (by intro _;kernel_rfl) ?_)):dwp P n c k i Q E κ:=ddz m i E hk h
def rT{fn:Func}{R:Value->K->Prop}(t:Nat)(v:Value)(hR:R (zoD [v]) κ)(h:E t=v:=by kernel_rfl)(hr:fn.results=[ResultVar.tmp t].toArray:=by kernel_rfl):zlS P fn R .ret E κ:=rt [.tmp t] [v] ⟨h,trivial⟩ hR hr
end
def bD{α β:Type}{o:Option α}{f:α->Option β}{r:β}(h:o.bind f=some r):∃x,o=some x/\f x=some r:=bind_some h
def bE{α β:Type}{o:Option α}{f:α->Option β}{r:β}{G:Prop}(h:o.bind f=some r)(k:∀x,o=some x->f x=some r->G):G:=let ⟨x,a,b⟩:=bind_some h;k x a b
class TyA{α:Type}(t:Ty α) where
 all:K->α->(List Value->Prop)->Prop
 ok:∀{κ x F cs},all κ x F->t.own κ cs x->F cs
instance:TyA tI64:=⟨λ_ n F=>I64 n->F [.int .i64 n],λh o=>by rw[o.1];exact h o.2⟩
instance:TyA tU8:=⟨λ_ n F=>0<=n/\n<=255->F [.int .u8 n],λh o=>by rw[o.1];exact h o.2⟩
instance:TyA zD5:=⟨λ_ n F => -2147483648<=n/\n<=2147483647->F [.int .i32 n],λh o=>by rw[o.1];exact h o.2⟩
instance:TyA zvw:=⟨λ_ b F=>F [.bool b],λh o=>by rw[show _=_ from o];exact h⟩
instance:TyA tStr:=⟨λ_ s F=>s.length<=9223372036854775807->F [zr s],λh o=>by rw[o.1];exact h o.2⟩
instance:TyA zDI:=⟨λ_ v F=>v.oneCell'=true->F [v],λh o=>by rw[o.1];exact h o.2⟩
instance{α:Type}{t:Ty α}:TyA (tSl t):=⟨λκ l F=>∀a c,Sl t κ a c l->F [.slice a l.length c],λh o=>by obtain⟨a,c,e,s⟩:=o;rw[e];exact h a c s⟩
instance{α β:Type}{t:Ty α}{u:Ty β}[TyA t][TyA u]:TyA (tPair t u):=⟨λκ x F=>TyA.all t κ x.1 λy=>TyA.all u κ x.2 λz=>F (y++z),λ{κ x F cs} h o=>by
  obtain⟨y,z,e,p,q⟩:=o;subst e;have h1:TyA.all u κ x.2 λz=>F (y++z):=TyA.ok (t:=t) (F:=λy=>TyA.all u κ x.2 λz=>F (y++z)) h p;exact TyA.ok (F:=λz=>F (y++z)) h1 q⟩
def iaT:Op->TypeId
 | .indexAddr T _ _=>T
 | .load T _=>T
 | .store T _ _=>T
 | .buildSlice T _ _=>T
 | _=>0
def bsV(E:Env):Op->Array (Nat×Value)
 | .buildSlice _ _ L=>L.map λp=>(p.1,ev E p.2)
 | _=>#[]
def stV(E:Env):Op->Value
 | .store _ _ v=>ev E v
 | .box _ v=>ev E v
 | _=>undef
section
variable [Fc] [Fb] {P:Program} {n:Nat} {c:Code} {i k:Nat} {nq:List Nat} {q0:Nat} {M:List Nat} {π:List Nat} {Q:zaY} {E:Env} {κ κ0:K}
def oJ{α:Type}{t:Ty α}[TyA t]{a:Option Addr}{cp:Nat}{l:List α}{ix:Int}{x:α}(f:Sl t κ a cp l)(hx:idx l ix=some x)(hk:∀b o,TyA.all t κ x λcs=>PubAt κ b o cs->owp P n c (i+1) Q (upd E (dstOf c i) (.pointer (some ⟨b,o,none⟩))) κ)(h:st c i n E (some (dstOf c i))=true:=by kernel_rfl)(ho:execOp (ev E) (zx c i)=vOf (Instr.indexAt (iaT (zx c i).op) (.slice a l.length cp) (.int .i64 ix)):=by kernel_rfl)(hs:(zJ P (iaT (zx c i).op)).bind (zM P)=some t.size:=by kernel_rfl):owp P n c i Q E κ:=by
 obtain⟨b,off,j,k,g,cs,hp,d⟩:=f.idx hx;obtain⟨el,e,m⟩:=bind_some hs;exact oi _ _ el t.size _ _ .i64 ix j k g (TyA.ok (hk b (off+ix.toNat*t.size)) d hp) h ho e m
def dI{α:Type}{t:Ty α}[TyA t]{a:Option Addr}{cp:Nat}{l:List α}{ix:Int}{x:α}(f:Sl t κ a cp l)(hx:idx l ix=some x)(hk:∀b o,TyA.all t κ x λcs=>PubAt κ b o cs->dwp P n c k (i+1) Q (upd E (dstOf c i) (.pointer (some ⟨b,o,none⟩))) κ)(h:dst c k i E (dstOf c i)=true:=by kernel_rfl)(ho:execOp (ev E) (zx c i)=vOf (Instr.indexAt (iaT (zx c i).op) (.slice a l.length cp) (.int .i64 ix)):=by kernel_rfl)(hs:(zJ P (iaT (zx c i).op)).bind (zM P)=some t.size:=by kernel_rfl):dwp P n c k i Q E κ:=by
 obtain⟨b,off,j,m,g,cs,hp,d⟩:=f.idx hx;obtain⟨el,e,p⟩:=bind_some hs;exact di _ _ el t.size _ _ .i64 ix j m g (TyA.ok (hk b (off+ix.toNat*t.size)) d hp) h ho e p
def xI{α:Type}{t:Ty α}[TyA t]{a:Option Addr}{cp:Nat}{l:List α}{ix:Int}{x:α}(f:Sl t κ a cp l)(hx:idx l ix=some x)(hk:∀b o,TyA.all t κ x λcs=>PubAt κ b o cs->xwp P n c k nq q0 M π Q (upd E (dstOf c i) (.pointer (some ⟨b,o,none⟩))) κ)(h:xsQ c nq i E (dstOf c i)=true:=by kernel_rfl)(ho:execOp (ev E) (zx c i)=vOf (Instr.indexAt (iaT (zx c i).op) (.slice a l.length cp) (.int .i64 ix)):=by kernel_rfl)(hs:(zJ P (iaT (zx c i).op)).bind (zM P)=some t.size:=by kernel_rfl):xwp P n c k nq q0 M (i::π) Q E κ:=by
 obtain⟨b,off,j,m,g,cs,hp,d⟩:=f.idx hx;obtain⟨el,e,p⟩:=bind_some hs;exact xi _ _ el t.size _ _ .i64 ix j m g (TyA.ok (hk b (off+ix.toNat*t.size)) d hp) h ho e p
def oG{α:Type}{t:Ty α}[TyA t]{pub:Bool}{τ:Tag}{e:Nat}{a:Option Addr}{cp:Nat}{l:List α}{ix:Int}{x:α}(f:Gr t pub τ κ e a cp l)(hx:idx l ix=some x)(hk:∀b o,TyA.all t κ x λcs=>At κ b o cs->owp P n c (i+1) Q (upd E (dstOf c i) (.pointer (some ⟨b,o,none⟩))) κ)(h:st c i n E (some (dstOf c i))=true:=by kernel_rfl)(ho:execOp (ev E) (zx c i)=vOf (Instr.indexAt (iaT (zx c i).op) (.slice a l.length cp) (.int .i64 ix)):=by kernel_rfl)(hs:(zJ P (iaT (zx c i).op)).bind (zM P)=some t.size:=by kernel_rfl):owp P n c i Q E κ:=by
 obtain⟨b,k,m,j,cs,hp,d⟩:=f.idx hx;obtain⟨el,g,p⟩:=bind_some hs;exact oi _ _ el t.size _ _ .i64 ix k m j (TyA.ok (hk b (0+ix.toNat*t.size)) d hp) h ho g p
def dG{α:Type}{t:Ty α}[TyA t]{pub:Bool}{τ:Tag}{e:Nat}{a:Option Addr}{cp:Nat}{l:List α}{ix:Int}{x:α}(f:Gr t pub τ κ e a cp l)(hx:idx l ix=some x)(hk:∀b o,TyA.all t κ x λcs=>At κ b o cs->dwp P n c k (i+1) Q (upd E (dstOf c i) (.pointer (some ⟨b,o,none⟩))) κ)(h:dst c k i E (dstOf c i)=true:=by kernel_rfl)(ho:execOp (ev E) (zx c i)=vOf (Instr.indexAt (iaT (zx c i).op) (.slice a l.length cp) (.int .i64 ix)):=by kernel_rfl)(hs:(zJ P (iaT (zx c i).op)).bind (zM P)=some t.size:=by kernel_rfl):dwp P n c k i Q E κ:=by
 obtain⟨b,m,p,j,cs,hp,d⟩:=f.idx hx;obtain⟨el,g,q⟩:=bind_some hs;exact di _ _ el t.size _ _ .i64 ix m p j (TyA.ok (hk b (0+ix.toNat*t.size)) d hp) h ho g q
def xG{α:Type}{t:Ty α}[TyA t]{pub:Bool}{τ:Tag}{e:Nat}{a:Option Addr}{cp:Nat}{l:List α}{ix:Int}{x:α}(f:Gr t pub τ κ e a cp l)(hx:idx l ix=some x)(hk:∀b o,TyA.all t κ x λcs=>At κ b o cs->xwp P n c k nq q0 M π Q (upd E (dstOf c i) (.pointer (some ⟨b,o,none⟩))) κ)(h:xsQ c nq i E (dstOf c i)=true:=by kernel_rfl)(ho:execOp (ev E) (zx c i)=vOf (Instr.indexAt (iaT (zx c i).op) (.slice a l.length cp) (.int .i64 ix)):=by kernel_rfl)(hs:(zJ P (iaT (zx c i).op)).bind (zM P)=some t.size:=by kernel_rfl):xwp P n c k nq q0 M (i::π) Q E κ:=by
 obtain⟨b,m,p,j,cs,hp,d⟩:=f.idx hx;obtain⟨el,g,q⟩:=bind_some hs;exact xi _ _ el t.size _ _ .i64 ix m p j (TyA.ok (hk b (0+ix.toNat*t.size)) d hp) h ho g q
def oL{b o:Nat}{cs:List Value}(w:At κ b o cs)(j m:Nat)(hk:owp P n c (i+1) Q (upd E (dstOf c i) (.agg ((cs.drop j).take m).toArray)) κ)(h:st c i n E (some (dstOf c i))=true:=by kernel_rfl)(ho:execOp (ev E) (zx c i)=vOf (Instr.loadAt (iaT (zx c i).op) (.pointer (some ⟨b,o+j,none⟩))):=by kernel_rfl)(hT:zeD P (iaT (zx c i).op)=some true:=by kernel_rfl)(hs:zM P (iaT (zx c i).op)=some ((cs.drop j).take m).length:=by kernel_rfl):owp P n c i Q E κ:=oN _ _ _ (w.part j m).2 hk h ho hT hs
def dL{b o:Nat}{cs:List Value}(w:At κ b o cs)(j m:Nat)(hk:dwp P n c k (i+1) Q (upd E (dstOf c i) (.agg ((cs.drop j).take m).toArray)) κ)(h:dst c k i E (dstOf c i)=true:=by kernel_rfl)(ho:execOp (ev E) (zx c i)=vOf (Instr.loadAt (iaT (zx c i).op) (.pointer (some ⟨b,o+j,none⟩))):=by kernel_rfl)(hT:zeD P (iaT (zx c i).op)=some true:=by kernel_rfl)(hs:zM P (iaT (zx c i).op)=some ((cs.drop j).take m).length:=by kernel_rfl):dwp P n c k i Q E κ:=dN _ _ _ (w.part j m).2 hk h ho hT hs
def xL{b o:Nat}{cs:List Value}(w:At κ b o cs)(j m:Nat)(hk:xwp P n c k nq q0 M π Q (upd E (dstOf c i) (.agg ((cs.drop j).take m).toArray)) κ)(h:xsQ c nq i E (dstOf c i)=true:=by kernel_rfl)(ho:execOp (ev E) (zx c i)=vOf (Instr.loadAt (iaT (zx c i).op) (.pointer (some ⟨b,o+j,none⟩))):=by kernel_rfl)(hT:zeD P (iaT (zx c i).op)=some true:=by kernel_rfl)(hs:zM P (iaT (zx c i).op)=some ((cs.drop j).take m).length:=by kernel_rfl)(hm:zuE c i=true:=by kernel_rfl)(hf:frB c q0 i=false:=by kernel_rfl):xwp P n c k nq q0 M (i::π) Q E κ:=xN _ _ _ w j m rfl hk h ho hT hs hm hf
def zDy{cs:List Value}{j:Nat}(hj:Nat.ble (j+1) cs.length=true):cs[j]?=some ((cs[j]?).getD undef):=by
 have:=gk hj;rw[cz (show j<cs.length by omega)];rfl
def oV{b o:Nat}{cs:List Value}(w:At κ b o cs)(j:Nat)(hk:owp P n c (i+1) Q (upd E (dstOf c i) ((cs[j]?).getD undef)) κ)(h:st c i n E (some (dstOf c i))=true:=by kernel_rfl)(ho:execOp (ev E) (zx c i)=vOf (Instr.loadAt (iaT (zx c i).op) (.pointer (some ⟨b,o+j,none⟩))):=by kernel_rfl)(hT:zeD P (iaT (zx c i).op)=some false:=by kernel_rfl)(hj:Nat.ble (j+1) cs.length=true:=by kernel_rfl):owp P n c i Q E κ:=o1 _ _ _ (w.one (zDy hj)) hk h ho hT
def dV{b o:Nat}{cs:List Value}(w:At κ b o cs)(j:Nat)(hk:dwp P n c k (i+1) Q (upd E (dstOf c i) ((cs[j]?).getD undef)) κ)(h:dst c k i E (dstOf c i)=true:=by kernel_rfl)(ho:execOp (ev E) (zx c i)=vOf (Instr.loadAt (iaT (zx c i).op) (.pointer (some ⟨b,o+j,none⟩))):=by kernel_rfl)(hT:zeD P (iaT (zx c i).op)=some false:=by kernel_rfl)(hj:Nat.ble (j+1) cs.length=true:=by kernel_rfl):dwp P n c k i Q E κ:=d1 _ _ _ (w.one (zDy hj)) hk h ho hT
def xV{b o:Nat}{cs:List Value}(w:At κ b o cs)(j:Nat)(hk:xwp P n c k nq q0 M π Q (upd E (dstOf c i) ((cs[j]?).getD undef)) κ)(h:xsQ c nq i E (dstOf c i)=true:=by kernel_rfl)(ho:execOp (ev E) (zx c i)=vOf (Instr.loadAt (iaT (zx c i).op) (.pointer (some ⟨b,o+j,none⟩))):=by kernel_rfl)(hT:zeD P (iaT (zx c i).op)=some false:=by kernel_rfl)(hj:Nat.ble (j+1) cs.length=true:=by kernel_rfl)(hm:zuE c i=true:=by kernel_rfl)(hf:frB c q0 i=false:=by kernel_rfl):xwp P n c k nq q0 M (i::π) Q E κ:=x1 _ _ _ w j (zDy hj) hk h ho hT hm hf
variable {N:List Nat}
def oA(T t:Nat)(zs:List Value)(hs:Step N κ0 κ)(hk:∀b κ',Step N κ0 κ'->Step [] κ κ'->Box (κ0.H.size,t) κ' b zs T->owp P n c (i+1) Q (upd E (dstOf c i) (.pointer (some ⟨b,0,none⟩))) κ')(h:st c i n E (some (dstOf c i))=true:=by kernel_rfl)(ho:execOp (ev E) (zx c i)=vOf (Instr.alloc T true (.tuple #[])):=by kernel_rfl)(hz:(zfc P T).map Value.cells=some zs.toArray:=by kernel_rfl):owp P n c i Q E κ:=zqn (κ0.H.size,t) hs.1 zs h ho hz λb κ' s B=>hk b κ' (hs.tr0 s) s B
def oB(T t:Nat)(cs:List Value)(hs:Step N κ0 κ)(hk:∀b κ',Step N κ0 κ'->Step [] κ κ'->Box (κ0.H.size,t) κ' b cs T->owp P n c (i+1) Q (upd E (dstOf c i) (.pointer (some ⟨b,0,none⟩))) κ')(h:st c i n E (some (dstOf c i))=true:=by kernel_rfl)(ho:execOp (ev E) (zx c i)=vOf (Instr.box T (stV E (zx c i).op)):=by kernel_rfl)(hv:(stV E (zx c i).op).cells=cs.toArray:=by kernel_rfl):owp P n c i Q E κ:=zB9 (κ0.H.size,t) hs.1 _ cs h ho hv λb κ' s B=>hk b κ' (hs.tr0 s) s B
def oS{t b:Nat}{U:TypeId}{cs:List Value}(off:Nat)(cs':List Value)(hb:Box (κ0.H.size,t) κ b cs U)(hs:Step N κ0 κ)(hk:∀κ',Step N κ0 κ'->Step [b] κ κ'->Box (κ0.H.size,t) κ' b cs' U->owp P n c (i+1) Q E κ')(h:st c i n E none=true:=by kernel_rfl)(ho:execOp (ev E) (zx c i)=uOf (Instr.storeAt (iaT (zx c i).op) (.pointer (some ⟨b,off,none⟩)) (stV E (zx c i).op)):=by kernel_rfl)(hz:zM P (iaT (zx c i).op)=some (stV E (zx c i).op).cells.toList.length:=by kernel_rfl)(hone:ztj (stV E (zx c i).op).cells.toList=true:=by kernel_rfl)(hlen:Nat.ble (off+(stV E (zx c i).op).cells.toList.length) cs.length=true:=by kernel_rfl)(hcs:splice cs off (stV E (zx c i).op).cells.toList=cs':=by kernel_rfl):owp P n c i Q E κ:=
 zav _ _ cs' h ho hb si hz hone hlen hcs λκ' s _ B=>hk κ' (hs.trB hb.ge s) s B
def oC{f:FuncId}{args:Array Value}{R:Value->K->Prop}(hs:Step N κ0 κ)(hf:Fn P f args κ (λv κ'=>Step [] κ κ'/\R v κ'))(hk:∀κ',Step [] κ κ'->Step N κ0 κ'->∀v,R v κ'->owp P n c (i+1) Q (upd E (dstOf c i) v) κ')(h:st c i n E (some (dstOf c i))=true:=by kernel_rfl)(hr:∀w,(execOp (ev E) (zx c i)).run P w=.ok (.enter f args) w:=by intro _;kernel_rfl):owp P n c i Q E κ:=
 ocl _ hf (λv κ' H=>hk κ' H.1 (hs.tr0 H.1) v H.2) h hr
def oW{α:Type}{t:Ty α}{τ:Tag}{e:Nat}{a:Option Addr}{cp:Nat}{l l':List α}{ix:Int}{x x':α}{vs:List Value}(f:Gr t false τ κ e a cp l)(hx:idx l ix=some x)(hl:some (l.set ix.toNat x')=some l')(own:t.own κ vs x')(hk:∀b κ',Step (blk a cp) κ κ'->Gr t false τ κ' e a cp l'->l'.length=l.length->owp P n c (i+2) Q (upd E (dstOf c i) (.pointer (some ⟨b,0+ix.toNat*t.size,none⟩))) κ')(h:st c i n E (some (dstOf c i))=true:=by kernel_rfl)(d:execOp (ev E) (zx c i)=vOf (Instr.indexAt (iaT (zx c i).op) (.slice a l.length cp) (.int .i64 ix)):=by kernel_rfl)(hs:(zJ P (iaT (zx c i).op)).bind (zM P)=some t.size:=by kernel_rfl)(h2:∀b,st c (i+1) n (upd E (dstOf c i) (.pointer (some ⟨b,0+ix.toNat*t.size,none⟩))) none=true:=by intro _;kernel_rfl)(ho2:∀b,execOp (ev (upd E (dstOf c i) (.pointer (some ⟨b,0+ix.toNat*t.size,none⟩)))) (zx c (i+1))=uOf (Instr.storeAt (iaT (zx c (i+1)).op) (.pointer (some ⟨b,0+ix.toNat*t.size+0,none⟩)) (stV E (zx c (i+1)).op)):=by intro _;kernel_rfl)(hv:(stV E (zx c (i+1)).op).cells=vs.toArray:=by kernel_rfl)(hz:zM P (iaT (zx c (i+1)).op)=some t.size:=by kernel_rfl)(hone:ztj vs=true:=by kernel_rfl):owp P n c i Q E κ:=by
 obtain⟨b,k,m,j,_⟩:=f.idx hx;obtain⟨el,p,r⟩:=bind_some hs;have hlen:=t.len own;refine oi _ _ el t.size _ _ .i64 ix k m j ?_ h d p r;refine zhh _ (h2 b) (ho2 b) k f m j hv (by rw[hz,hlen]) hone ?_ (λcs q=>?_) λκ' s g=>hk b κ' s (zoJ hl g) (zaz hl)
 ·rw[ia,hlen];exact Nat.ble_self_eq_true _
 ·obtain⟨y,_,d⟩:=q;rw[zj9 ((t.len d).trans hlen.symm)];exact own
def oT{α:Type}{t:Ty α}{cs:List Value}(e tg:Nat)(pub:Bool)(l:List α)(hs:Step N κ0 κ)(hr:Rep t κ cs l)(hk:∀a' κ',Step N κ0 κ'->Step [] κ κ'->Gr t pub (κ0.H.size,tg) κ' e a' l.length l->owp P n c (i+1) Q (upd E (dstOf c i) (.slice a' l.length l.length)) κ')(h:st c i n E (some (dstOf c i))=true:=by kernel_rfl)(ho:execOp (ev E) (zx c i)=vOf (Instr.buildSlice (iaT (zx c i).op) l.length (bsV E (zx c i).op)):=by kernel_rfl)(hi:zu6 P (iaT (zx c i).op) l.length (bsV E (zx c i).op)=some (e,t.size,cs):=by kernel_rfl)(hz:Nat.blt 0 t.size=true:=by kernel_rfl)(hm:Nat.ble l.length 1000000=true:=by kernel_rfl):owp P n c i Q E κ:=
 zwl (τ:=(κ0.H.size,tg)) h ho hi hz hs.1 rfl hr hm λa' κ' s g=>hk a' κ' (hs.tr0 s) s g
def oP{α:Type}{t:Ty α}{pub:Bool}{τ:Tag}{e bytes:Nat}{a a2:Option Addr}{cp c2:Nat}{l l2 r:List α}(T:Nat)(hg:Gr t pub τ κ e a cp l)(h2:Sl t κ a2 c2 l2)(hτ:τ.1<=κ.H.size)(hx:app bytes l l2=some r)(hk:∀a' c' κ',Step (blk a cp) κ κ'->Gr t pub τ κ' e a' c' r->(∀g∈blk a' c',g∈blk a cp\/κ.H.size<=g)->owp P n c (i+1) Q (upd E (dstOf c i) (.slice a' r.length c')) κ')(h:st c i n E (some (dstOf c i))=true:=by kernel_rfl)(ho:execOp (ev E) (zx c i)=vOf (Builtin.append_ #[T,T] 0 #[.slice a l.length cp,.slice a2 l2.length c2]):=by kernel_rfl)(hT:zj5 P T=some (e,t.size,t.size,bytes):=by kernel_rfl):owp P n c i Q E κ:=zmE h ho hg h2 hτ hT hx hk
end
class Stp(κ κ':K)(A:Prop)(B:outParam Prop):Prop where
 m:Step [] κ κ'->A->B
section
variable {κ κ' κ0:K} {A B C D F G A' B' C' D' F' G':Prop}
instance{α:Type}{t:Ty α}{a:Option Addr}{c:Nat}{l:List α}:Stp κ κ' (Sl t κ a c l) (Sl t κ' a c l):=⟨λs h=>h.step s⟩
instance{N:List Nat}:Stp κ κ' (Step N κ0 κ) (Step N κ0 κ'):=⟨λs h=>h.tr0 s⟩
instance{τ:Tag}{b:Nat}{cs:List Value}{T:TypeId}:Stp κ κ' (Box τ κ b cs T) (Box τ κ' b cs T):=⟨λs h=>h.step0 s⟩
instance{α:Type}{t:Ty α}{p:Bool}{τ:Tag}{e:Nat}{a:Option Addr}{c:Nat}{l:List α}:Stp κ κ' (Gr t p τ κ e a c l) (Gr t p τ κ' e a c l):=⟨λs h=>h.step0 s⟩
instance{b o:Nat}{cs:List Value}:Stp κ κ' (PubAt κ b o cs) (PubAt κ' b o cs):=⟨λs h=>h.step s⟩
instance{b o:Nat}{cs:List Value}:Stp κ κ' (At κ b o cs) (At κ' b o cs):=⟨λs h=>h.step0 s⟩
instance{α:Type}{t:Ty α}{p:Bool}{τ:Tag}{eo ei:TypeId}{a:Option Addr}{c:Nat}{hm hs:List Hd}{L:List (List α)}:Stp κ κ' (Mat t p τ κ eo ei a c hm hs L) (Mat t p τ κ' eo ei a c hm hs L):=⟨λs h=>h.step0 s⟩
instance{N i b:Nat}{ob:Obj}:Stp κ κ' (Rec N i κ b ob) (Rec N i κ' b ob):=⟨λs h=>h.step0 s⟩
instance{α β:Type}{kt:KT α}{t:Ty β}{τ:Tag}{b:Nat}{m:List (α×β)}:Stp κ κ' (Mp kt t τ κ b m) (Mp kt t τ κ' b m):=⟨λs h=>h.step0 s⟩
instance{τ:Tag}{eP eG:TypeId}{a:Option Addr}{n:Nat}{bs:List Nat}{L:List Int}:Stp κ κ' (Fst τ κ eP eG a n bs L) (Fst τ κ' eP eG a n bs L):=⟨λs h=>h.step0 s⟩
def sQ2[Stp κ κ' A A'][Stp κ κ' B B'](s:Step [] κ κ')(a:A)(b:B):A'/\B':=⟨Stp.m s a,Stp.m s b⟩
def sQ3[Stp κ κ' A A'][Stp κ κ' B B'][Stp κ κ' C C'](s:Step [] κ κ')(a:A)(b:B)(c:C):A'/\B'/\C':=⟨Stp.m s a,sQ2 s b c⟩
def sQ4[Stp κ κ' A A'][Stp κ κ' B B'][Stp κ κ' C C'][Stp κ κ' D D'](s:Step [] κ κ')(a:A)(b:B)(c:C)(d:D):A'/\B'/\C'/\D':=⟨Stp.m s a,sQ3 s b c d⟩
def sQ5[Stp κ κ' A A'][Stp κ κ' B B'][Stp κ κ' C C'][Stp κ κ' D D'][Stp κ κ' F F'](s:Step [] κ κ')(a:A)(b:B)(c:C)(d:D)(f:F):A'/\B'/\C'/\D'/\F':=⟨Stp.m s a,sQ4 s b c d f⟩
def sQ6[Stp κ κ' A A'][Stp κ κ' B B'][Stp κ κ' C C'][Stp κ κ' D D'][Stp κ κ' F F'][Stp κ κ' G G'](s:Step [] κ κ')(a:A)(b:B)(c:C)(d:D)(f:F)(g:G):A'/\B'/\C'/\D'/\F'/\G':=⟨Stp.m s a,sQ5 s b c d f g⟩
end
def zy(s:List UInt8):List Int:=s.map λb=>(b.toNat:Int)
def zvE{κ:K}:∀s:List UInt8,Rep tU8 κ (s.map λb=>Value.int .u8 b.toNat) (zy s)
 |[]=>rfl
 | b::s=>⟨[.int .u8 b.toNat],_,rfl,⟨rfl,show(0:Int)<=(b.toNat:Int) by omega,show(b.toNat:Int)<=255 by have:=b.toNat_lt;omega⟩,zvE s⟩
def zxI(P:Program)(T:TypeId):Bool:=match P.underlying T with
 | some .string=>true
 | _=>false
def zxH{P:Program}{T:TypeId}(h:zxI P T=true):P.underlying T=some .string:=by
 unfold zxI at h;split at h
 ·assumption
 ·cases h
section
variable {pub:Bool} {τ:Tag} {κ:K} {e T T2:TypeId} {a:Option Addr} {cp:Nat} {l r:List Int}
def zxd{P:Program}{ty:TypeId}{bytes:Nat}(h:Gr tU8 pub τ κ e a cp l)(s:List UInt8)(hτ:τ.1<=κ.H.size)(hT2:zxI P T2=true)(hT:zJ P T=some e)(hsz:zM P e=some 1)(hz:zqi P e=some 1)(hby:zm8 P e=some bytes)(hb:(l.length+(zy s).length)*bytes<=140737488355328)(hmax:l.length+(zy s).length<=9223372036854775807)[Fb](C:Cx)(d:Nat):
  ∃a' c' κ' d',(Builtin.append_ #[T,T2] ty #[.slice a l.length cp,zr s]).run P (W C κ d)=.ok (.slice a' (l++zy s).length c') (W C κ' d')/\
   Step (blk a cp) κ κ'/\Gr tU8 pub τ κ' e a' c' (l++zy s)/\∀g∈blk a' c',g∈blk a cp\/κ.H.size<=g:=by
 refine zto h (zvE s) hτ hT hsz hz hby hb hmax C d ?_;have:=Src.ofString (P:=P) (W C κ d) (zxH hT2) ⟨s.toArray⟩;have f:(⟨s.toArray⟩:ByteArray).size=(zy s).length:=by simp[zy,ByteArray.size]
 have c:byteCells ⟨s.toArray⟩=s.map λb=>Value.int .u8 b.toNat:=by simp[byteCells]
 rw[f,c]at this;exact this
end
section
variable [Fc] [Fb] {P:Program} {n:Nat} {c:Code} {i k:Nat} {nq:List Nat} {q0:Nat} {M:List Nat} {π:List Nat} {Q:zaY} {E:Env} {κ:K}
variable {pub:Bool} {τ:Tag} {e T T2:TypeId} {a:Option Addr} {cp:Nat} {l r:List Int} {s:List UInt8}
def zk4{d bytes:Nat}(h:st c i n E (some d)=true)(ho:execOp (ev E) (zx c i)=vOf (Builtin.append_ #[T,T2] 0 #[.slice a l.length cp,zr s]))(hg:Gr tU8 pub τ κ e a cp l)(hτ:τ.1<=κ.H.size)(hT:zj5 P T=some (e,1,1,bytes))(hT2:zxI P T2=true)(hx:app bytes l (zy s)=some r)(hk:∀a' c' κ',Step (blk a cp) κ κ'->Gr tU8 pub τ κ' e a' c' r->(∀g∈blk a' c',g∈blk a cp\/κ.H.size<=g)->owp P n c (i+1) Q (upd E d (.slice a' r.length c')) κ'):owp P n c i Q E κ:=by
 obtain⟨q,u,k,t⟩:=ziV hT;obtain⟨w,hm,rfl⟩:=zm3 hx;refine zgj (λv κ'=>∃a' c',v=.slice a' (l++zy s).length c'/\Step (blk a cp) κ κ'/\Gr tU8 pub τ κ' e a' c' (l++zy s)/\∀g∈blk a' c',g∈blk a cp\/κ.H.size<=g) h (λC j=>?_) ?_
 ·obtain⟨a',c',κ',m,p,hs,b,f⟩:=zxd (P:=P) (T:=T) (ty:=0) hg s hτ hT2 q u k t w hm C j;exact⟨_,κ',m,by rw[ho];exact zH p,a',c',rfl,hs,b,f⟩
 ·rintro v κ' ⟨a',c',rfl,hs,b,f⟩;exact hk a' c' κ' hs b f
def zxo{d bytes:Nat}(h:st c i n E (some d)=true)(ho:execOp (ev E) (zx c i)=vOf (Builtin.append_ #[T,T2] 0 #[.slice a l.length cp,zr s]))(f:Gr tU8 pub τ κ e a cp l)(hz:a=none\/0<cp)(hτ:τ.1<=κ.H.size)(hT:zj5 P T=some (e,1,1,bytes))(hT2:zxI P T2=true)(hx:app bytes l (zy s)=some r)(hk:∀a' c' κ',Step (blk a cp) κ κ'->Gr tU8 pub τ κ' e a' c' r->(∀g∈blk a' c',g∈blk a cp\/κ.H.size<=g)->(a'=none\/0<c')->owp P n c (i+1) Q (upd E d (.slice a' r.length c')) κ'):owp P n c i Q E κ:=by
 cases s with
 | cons x s=>
  refine zk4 h ho f hτ hT hT2 hx λa' c' κ' A p t=>hk a' c' κ' A p t (.inr ?_);obtain⟨_,_,rfl⟩:=zm3 hx;have:(l++zy (x::s)).length<=c':=by
   rcases p.body with⟨_,j⟩ |⟨_,_,_,_,_,_,b,_⟩
   ·rw[j];simp
   ·exact b
  rw[dy]at this;simp only[zy,fd,dz]at this;omega
 | nil=>
  obtain⟨b,F,B,q⟩:=ziV hT;obtain⟨_,_,rfl⟩:=zm3 hx;have w:l++zy []=l:=by simp[zy]
  rw[w]at hk;have k:l.length<=cp:=by
   rcases f.body with⟨_,j⟩ |⟨_,_,_,_,_,_,b,_⟩
   ·rw[j];simp
   ·exact b
  obtain⟨D,hi,_⟩:∃i,P.info? e=some i/\i.bytes=bytes:=by
   unfold zm8 at q;obtain⟨i,b,z⟩:=ig.1 q;exact⟨i,b,z⟩
  refine zgj (λv κ'=>v=.slice a l.length cp/\κ'=κ) h (λC u=>⟨_,κ,u,?_,rfl,rfl⟩) (λv κ' y=>?_)
  ·rw[ho];refine zH ?_;have m:=zxH hT2;have hs:zr []=.string ⟨#[]⟩:=rfl;rw[hs];cases a<;>simp[Builtin.append_,run_underlying (zgG b),run_underlying m,sizeOf,typeInfo,hi,Builtin.lenOf,ByteArray.size,k,Builtin.firstCells,storeCells]
  ·obtain⟨rfl,rfl⟩:=y;exact hk a cp _ (Step.refl _ _) f (λg f=>.inl f) hz
end
def tk(τ:Tag)(κ:K):List Nat:=(List.range κ.H.size).filter λg=>decide (κ.tag g=τ)&&decide (τ.1<=g)
def zjr{τ:Tag}{κ:K}{g:Nat}:g∈tk τ κ↔g<κ.H.size/\κ.tag g=τ/\τ.1<=g:=by
 unfold tk;simp[fi]
structure Bld(TB eB:TypeId)(τ:Tag)(κ:K)(b:Nat)(l:List Int):Prop where
 ex:∃p a c,(p=Value.pointer none\/p=Value.pointer (some ⟨b,0,none⟩))/\Box τ κ b [p,.slice a l.length c] TB/\Gr tU8 false τ κ eB a c l/\b∉blk a c/\(a=none\/0<c)
section
variable {TB eB:TypeId} {τ τ':Tag} {κ κ':K} {b:Nat} {l:List Int} {M:List Nat}
def Bld.mk0(h:Box τ κ b [.pointer none,.slice none 0 0] TB):Bld TB eB τ κ b []:=⟨_,none,0,.inl rfl,h,Gr.nil,by simp[blk],.inl rfl⟩
def Bld.most(h:Bld TB eB τ κ b l):l.length<=9223372036854775807:=by obtain⟨_,_,_,_,_,g,_⟩:=h.ex;exact zr3 g.most
def Bld.own{κ0:K}(_:Bld TB eB τ κ b l)(h0:κ0.H.size<=τ.1):∀g∈tk τ κ,κ0.H.size<=g:=λg a=>gm h0 (zjr.1 a).2.2
def Bld.nb{x:Nat}(_:Bld TB eB τ κ b l)(h':Own τ' κ x)(hn:τ'≠τ):x∉tk τ κ:=λa=>hn (h'.tag.symm.trans (zjr.1 a).2.1)
def Bld.bn{x:Nat}(_:Bld TB eB τ κ b l)(h':Own τ' κ x)(hn:τ≠τ'):∀g∈tk τ κ,g∉[x]:=λg a c=>by
 have d:=fq.1 c;subst d;exact hn ((zjr.1 a).2.1.symm.trans h'.tag)
def Bld.step(s:Step M κ κ')(hm:∀g∈tk τ κ,g∉M)(h:Bld TB eB τ κ b l):Bld TB eB τ κ' b l:=by
 obtain⟨p,a,c,hp,B,g,e⟩:=h.ex;exact⟨p,a,c,hp,B.step s (hm b (zjr.2 ⟨B.lt,B.tag,B.ge⟩)),g.step s (λx d=>hm x (zjr.2 (g.lt x d))),e⟩
def Bld.step0(s:Step [] κ κ')(h:Bld TB eB τ κ b l):Bld TB eB τ κ' b l:=h.step s (λ_ _=>by simp)
instance:Stp κ κ' (Bld TB eB τ κ b l) (Bld TB eB τ κ' b l):=⟨λs h=>h.step0 s⟩
end
def pow10s:List Int:=[1,10,100,1000,10000,100000,1000000,10000000,100000000,1000000000,10000000000,100000000000,1000000000000,10000000000000,100000000000000,1000000000000000,10000000000000000,100000000000000000,1000000000000000000,10000000000000000000]
structure Globp(tab:List Int)(gta:Nat)(κ:K):Prop where
 pow:PubAt κ gta 0 (tab.map (Value.int .u64))
 psz:0<tab.length/\∃e k,κ.shp gta=some (e,tab.length,k)
def Globp.step{tab:List Int}{gta:Nat}{M:List Nat}{κ κ':K}(s:Step M κ κ')(h:Globp tab gta κ):Globp tab gta κ':=by
 obtain⟨b,e,k,c⟩:=h.psz;have a:0<κ.fr gta:=by have:=h.pow.2.1;rw[ef]at this;omega
 exact⟨h.pow.step s,⟨b,e,k,(s.2.2.2 gta h.pow.1 a).2.trans c⟩⟩
def K.frz(κ:K)(g n:Nat)(cur:Array Value)(e:TypeId):K:=⟨κ.H.setIfInBounds g (.cells cur e (0,n)),κ.fr,κ.tag⟩
def zAy{κ:K}{g n:Nat}{cur:Array Value}{e:TypeId}(hg:κ.H[g]?=some (.cells cur e (0,0)))(hf:κ.fr g=0):Step [g] κ (κ.frz g n cur e):=by
 refine⟨by simp[K.frz],λx c hm=>⟨?_,rfl,rfl⟩,λx c=>⟨gl _,λo d=>?_⟩,λx c b=>⟨rfl,?_⟩⟩
 ·have:g≠x:=λe=>hm (by simp[e]);simp only[K.frz];rw[am this]
 ·by_cases a:g=x
  ·subst a;rw[hf]at d;omega
  ·unfold K.cell K.frz;simp only[am a]
 ·have a:g≠x:=λe=>by rw[←e,hf]at b;omega
  unfold K.shp K.frz;simp only[am a]
def zD1[Fb]{C:Cx}{κ:K}{d g n:Nat}{cur:Array Value}{e:TypeId}(hg:κ.H[g]?=some (.cells cur e (0,0)))(hn:n≠0):(W C κ d).freeze ⟨g,0,none⟩ n=W C (κ.frz g n cur e) d:=by
 have b:g<κ.H.size:=(ai.1 hg).1;unfold World.freeze W K.frz;rw[if_neg hn];simp only[];congr 1;apply Array.ext
 ·simp
 ·intro j f h;have c:j<κ.H.size:=by simpa using f
  rw[Array.getElem_modify];by_cases a:g=j
  ·subst a;have:=(ai.1 hg).2;simp[this]
  ·rw[if_neg a,Array.getElem_setIfInBounds_ne c a]
end Go.Lf
namespace Go.Lf
open Go
section
variable {α β:Type} {t:Ty α} {tW:Ty β} {e:TypeId} {S:Nat} {κ κ':K} {a:Option Addr} {c n:Nat} {l:List α} {M:List Nat} {τ:Tag}
def SlW{α:Type}(t:Ty α)(e:TypeId)(S:Nat)(κ:K)(a:Option Addr)(c:Nat)(l:List α):Prop:=Sl t κ a c l/\(∃N,Hm e c t.size (N,S) κ a l.length)/\c=l.length
def SlW.step(s:Step M κ κ')(h:SlW t e S κ a c l):SlW t e S κ' a c l:=⟨h.1.step s,h.2.1.elim λN h=>⟨N,h.step s⟩,h.2.2⟩
def SlW.sl(h:SlW t e S κ a c l):Sl t κ a c l:=h.1
def SlW.nil:SlW t e S κ none 0 ([]:List α):=⟨Sl.nil _ _,⟨0,Hm.nil⟩,rfl⟩
def Gr.slW{N:Nat}(h:Gr t true (N,S) κ e a c l)(hs:0<t.size)(hc:c=l.length):SlW t e S κ a c l:=⟨h.sl,⟨N,h.hm hs⟩,hc⟩
def tSW{α:Type}(t:Ty α)(e:TypeId)(S:Nat):Ty (List α):=
 ⟨1,λκ cs l=>∃a c,cs=[.slice a l.length c]/\SlW t e S κ a c l,λ⟨_,_,h,_⟩=>by rw[h];rfl,λs ⟨a,c,h,hs⟩=>⟨a,c,h,hs.step s⟩,
  λ⟨_,_,h,_⟩ v hv=>by rw[h]at hv;simp at hv;subst hv;rfl⟩
def Sl.ty{t':Ty α}(hz:t'.size=t.size)(hc:∀cs x,t'.own κ cs x->t.own κ cs x)(h:Sl t' κ a c l):Sl t κ a c l:=
 ⟨h.cap,h.most,λf=>by
  obtain⟨b,off,e,d⟩:=h.elems f;exact⟨b,off,e,λi x g=>let ⟨cs,hp,ho⟩:=d i x g;⟨cs,by rw[hz]at hp;exact hp,hc _ _ ho⟩⟩⟩
structure Fam where
 T:Nat->Type
 t:∀i,Ty (T i)
 e:Nat->TypeId
 hd:∀i,T i->List (Nat×Hd)
 inj:∀i j,e i=e j->i=j
 pos:∀i,0<(t i).size
variable {F:Fam} {i:Nat}
def WL(F:Fam)(i:Nat)(τ:Tag)(κ:K)(a:Option Addr)(n:Nat):Prop:=0<n->∃b l,a=some ⟨b,0,none⟩/\l.length=n/\Gr (F.t i) false τ κ (F.e i) a n l
def Hc(F:Fam)(τ:Tag)(κ:K)(y:Nat×Hd):Prop:=y.2.2.2=y.2.2.1/\y.2.2.1<=1048576/\WL F y.1 τ κ y.2.1 y.2.2.1
def WK(F:Fam)(i:Nat)(τ:Tag)(κ:K)(a:Option Addr)(n:Nat):Prop:=0<n->∃b l,a=some ⟨b,0,none⟩/\l.length=n/\Gr (F.t i) false τ κ (F.e i) a n l/\∀x∈l,∀y∈F.hd i x,Hc F τ κ y
def Pr(F:Fam)(τ:Tag)(κ κ':K):Prop:=∀i a n,(WL F i τ κ a n->WL F i τ κ' a n)/\(WK F i τ κ a n->WK F i τ κ' a n)
def Pr.refl:Pr F τ κ κ:=λ_ _ _=>⟨id,id⟩
def Pr.trans{κ'':K}(h:Pr F τ κ κ')(h':Pr F τ κ' κ''):Pr F τ κ κ'':=λi a n=>⟨λx=>(h' i a n).1 ((h i a n).1 x),λx=>(h' i a n).2 ((h i a n).2 x)⟩
def zBl{y:Nat×Hd}(h:∀i a n,WL F i τ κ a n->WL F i τ κ' a n)(hy:Hc F τ κ y):Hc F τ κ' y:=⟨hy.1,hy.2.1,h _ _ _ hy.2.2⟩
def Pr.step0(s:Step [] κ κ'):Pr F τ κ κ':=by
 have k:∀i a n,WL F i τ κ a n->WL F i τ κ' a n:=λi a n h e=>by
  obtain⟨b,l,d,c,f⟩:=h e;exact⟨b,l,d,c,f.step0 s⟩
 refine λi a n=>⟨k i a n,λh e=>?_⟩;obtain⟨b,l,d,c,f,g⟩:=h e;exact⟨b,l,d,c,f.step0 s,λx m y j=>zBl k (g x m y j)⟩
def WK.gr(h:WK F i τ κ a n):∃l,l.length=n/\Gr (F.t i) false τ κ (F.e i) a n l/\∀x∈l,∀y∈F.hd i x,Hc F τ κ y:=by
 by_cases e:0<n
 ·obtain⟨b,l,_,c,f,d⟩:=h e;exact⟨l,c,f,d⟩
 ·obtain rfl:n=0:=by omega
  exact⟨[],rfl,⟨by simp,.inl ⟨rfl,rfl⟩⟩,λx g=>by cases g⟩
def WL.wk(h:WL F i τ κ a n)(h0:∀x,F.hd i x=[]):WK F i τ κ a n:=λg=>by
 obtain⟨b,l,e,d,f⟩:=h g;exact⟨b,l,e,d,f,λx _ y c=>by rw[h0]at c;cases c⟩
def WK.wl(h:WK F i τ κ a n):WL F i τ κ a n:=λe=>by
 obtain⟨b,l,c,d,f,_⟩:=h e;exact⟨b,l,c,d,f⟩
def Pr.write{l l':List (F.T i)}(g:Gr (F.t i) false τ κ (F.e i) a n l)(s:Step (blk a n) κ κ')(g':Gr (F.t i) false τ κ' (F.e i) a n l')(hl':l'.length=n)(hh:∀x∈l',∀y∈F.hd i x,Hc F τ κ y):Pr F τ κ κ':=by
 have key:∀j a2 c (l2:List (F.T j)),Gr (F.t j) false τ κ (F.e j) a2 c l2->l2.length=c->0<c->Gr (F.t j) false τ κ' (F.e j) a2 c l2\/(j=i/\a2=a/\c=n):=by
  intro j a2 c l2 u d e;rcases u.body with⟨v,_⟩ |⟨b2,cur2,xs2,ha2,_,hH2,_,_,p,_⟩
  ·omega
  ·by_cases q:b2∈blk a n
   ·right;rcases g.body with⟨v,_⟩ |⟨b,cur,xs,ha,_,hH,_,_,k3,_⟩
    ·rw[v,zsB]at q;cases q
    ·rw[ha]at q;have r:b2=b:=(zsC q).1;subst r;rw[hH2]at hH;injection hH with hH
     injection hH with e1 e2 e3
     have w:=F.inj _ _ e2;subst w;refine⟨rfl,by rw[ha2,ha],?_⟩;subst e1;rw[p]at k3;exact Nat.eq_of_mul_eq_mul_right (F.pos j) k3
   ·left;refine u.step s λx f hm=>?_;rw[ha2]at f;have:=(zsC f).1;subst this;exact q hm
 have k:∀j a2 c,WL F j τ κ a2 c->WL F j τ κ' a2 c:=λj a2 c h e=>by
  obtain⟨b,l2,m,d,p⟩:=h e;rcases key j a2 c l2 p d e with h |⟨rfl,rfl,rfl⟩
  ·exact⟨b,l2,m,d,h⟩
  ·exact⟨b,l',m,hl',g'⟩
 refine λj a2 c=>⟨k j a2 c,λh e=>?_⟩;obtain⟨b,l2,m,d,p,z⟩:=h e;rcases key j a2 c l2 p d e with h |⟨rfl,rfl,rfl⟩
 ·exact⟨b,l2,m,d,h,λx f y t=>zBl k (z x f y t)⟩
 ·exact⟨b,l',m,hl',g',λx f y t=>zBl k (hh x f y t)⟩
def zBI{l:List (F.T i)}(g:Gr (F.t i) false τ κ (F.e i) a n l):∀b∈blk a n,b∈tk τ κ:=λb c=>zjr.2 (g.lt b c)
def zfd(s:Step (tk τ κ) κ κ'):∀b∈tk τ κ',b∈tk τ κ\/κ.H.size<=b:=λb d=>by
 rcases gt b κ.H.size with h | h
 ·left;have c:=zjr.1 d;by_cases a:b∈tk τ κ
  ·exact a
  ·rw[(s.2.1 b h a).2.2]at c;exact zjr.2 ⟨h,c.2⟩
 ·exact .inr h
def zAk{κ0:K}{x:List β}(hconv:∀xs,Rep tW κ0 xs x->∃l':List (F.T i),l'.length=x.length/\Rep (F.t i) κ' xs l'/\∀z∈l',∀y∈F.hd i z,Hc F τ κ' y)(hsz:(F.t i).size=tW.size)(h:SlW tW (F.e i) S κ0 a c x)(s:Step [] κ0 κ)(hH:κ'.H=κ.H)(hf:∀b,b<κ0.H.size->(κ0.tag b).2=S->κ'.fr b=0/\κ'.tag b=τ/\τ.1<=b):WK F i τ κ' a x.length:=by
 obtain⟨hs,⟨N,hm⟩,G⟩:=h;intro r;obtain⟨A,b,q,t,v,_,hp⟩:=hm r;obtain⟨xs,u,C⟩:=Rep.of_sl hs;obtain⟨H,off,m,f⟩:=C r;rw[q]at m;injection m with m
 injection m with e1 e2
 subst e1;subst e2;replace f:=f.step s;obtain⟨l',e,p,B⟩:=hconv xs u;obtain⟨w,D,E⟩:=hf b t (by rw[v]);have d:κ.shp b=some (F.e i,c*tW.size,(0,0)):=by
  have:=(s.2.1 b t si).1;unfold K.shp at hp ⊢;rw[this];exact hp
 unfold K.shp at d;split at d
 ·rename_i cur T k hcur;injection d with d
  injection d with hp1 d
  injection d with hp2 hp3
  subst hp1;subst hp3;subst G;have n:=u.length;refine⟨b,l',q,e,⟨by have:=hs.most;rw[e];unfold maxLen;omega,.inr ⟨b,cur,xs,q,p,by rw[hH];exact hcur,by rw[e];omega,A,by rw[hsz];exact hp2,?_,by simpa using w,D,E⟩⟩,B⟩;apply ca;intro j;rw[dv,e,hsz];split
  ·rename_i hj;have g:j<xs.length:=by rw[n];exact hj
   have l:=f.2.2 j _ (cz g);unfold K.cell at l;rw[hcur]at l;simp only[ia]at l;rw[cz g,←l];simp
  ·rename_i hj;rw[df om]
 ·cases d
end
section
variable [Fb] {P:Program} {F:Fam} {i fn m:Nat} {τ:Tag} {κ:K} {a:Option Addr} {n:Nat} {k B:Int}
def zy4(zr4:List (F.T i)->Int->Option (Int×List (F.T i)))(ok:∀{κ:K} {l:List (F.T i)} {a:Option Addr} {c:Nat} {τ:Tag} {k:Int},Gr (F.t i) false τ κ (F.e i) a c l->τ.1<κ.H.size->I64 k->∀{r},zr4 l k=some r->Fn P fn #[.slice a l.length c,.int .i64 k] κ (λv κ'=>Step (blk a c) κ κ'/\v=.int .i64 r.1/\I64 r.1/\Gr (F.t i) false τ κ' (F.e i) a c r.2))(tot:∀l k,1<=k->k<=B->l.length<=1048576->∃l',zr4 l k=some (k+m*(l.length:Int),l')/\l'.length=l.length)(h0:∀x,F.hd i x=[])(hB:B<=4000000000000000)(h:WL F i τ κ a n)(ht:τ.1<κ.H.size)(hn:n<=1048576)(hk:1<=k)(hk2:k<=B):Fn P fn #[.slice a n n,.int .i64 k] κ (λv κ'=>Step (tk τ κ) κ κ'/\v=.int .i64 (k+m*(n:Int))/\Pr F τ κ κ'):=by
 obtain⟨l,e,g,_⟩:=(h.wk h0).gr;subst e;obtain⟨l',hm,b⟩:=tot l k hk hk2 hn;refine(ok g ht (show I64 k by unfold I64;omega) hm).mono λv κ' ⟨s,hv,_,g'⟩=>⟨s.mono (zBI g),hv,Pr.write g s g' b λx _ y d=>?_⟩;rw[h0]at d;cases d
end
section
variable [Fc] [Fb] {P:Program} {n:Nat} {c:Code} {i:Nat} {Q:zaY} {E:Env} {κ:K} {s:List UInt8}
def zpU{d:Nat}(T1 T2:TypeId)(e:TypeId)(hl:s.length<=9223372036854775807)(hk:∀a cp κ',Step [] κ κ'->Sl tU8 κ' a cp (zy s)->owp P n c (i+1) Q (upd E d (.slice a (zy s).length cp)) κ')(h:st c i n E (some d)=true:=by kernel_rfl)(ho:execOp (ev E) (zx c i)=vOf (convert T1 T2 (zr s)):=by kernel_rfl)(h1:P.underlying T1=some .string:=by kernel_rfl)(h2:P.underlying T2=some (.slice e):=by kernel_rfl)(h3:P.underlying e=some (.int .u8):=by kernel_rfl):owp P n c i Q E κ:=by
 refine zgj (λv κ'=>∃a cp,v=.slice a (zy s).length cp/\Step [] κ κ'/\Sl tU8 κ' a cp (zy s)) h (λC t=>?_) ?_
 ·have hsz:(⟨s.toArray⟩:ByteArray).size=(zy s).length:=by simp[zy,ByteArray.size]
  have g:=run_bytes_of_string (P:=P) (W C κ t) T1 T2 e ⟨s.toArray⟩ h1 h2 h3;have p:=grownCap_ge (W C κ t) (⟨s.toArray⟩:ByteArray).size 0 e;generalize hcap:grownCap (W C κ t) (⟨s.toArray⟩:ByteArray).size 0 e=cp at *;rw[hsz]at g p;obtain⟨row,m⟩:∃row,row=bytesRow ⟨s.toArray⟩ cp:=⟨_,rfl⟩;rw[←m]at g;have r:∀(j:Nat)(x:Int),(zy s)[j]?=some x->row[j]?=some (Value.int .u8 x):=by
   intro j x l;rw[m];unfold bytesRow;unfold zy at l;rw[dh]at l;obtain⟨b,f,rfl⟩:=ig.1 l;have u:=(dg.1 f).1;rw[Array.getElem?_append_left (by simpa using u)];simp[f]
  refine⟨_,⟨κ.H.push (.cells row e (row.size,row.size+1)),λb=>if b=κ.H.size then row.size else κ.fr b,κ.tag⟩,t+1,by rw[ho];exact zH g,some ⟨κ.H.size,0,none⟩,cp,rfl,⟨?_,?_,?_,?_⟩,⟨p,by simpa[zy]using hl,λ_=>⟨κ.H.size,0,rfl,λj x l=>⟨[.int .u8 x],⟨?_,?_⟩,rfl,?_⟩⟩⟩⟩
  ·show κ.H.size<=(κ.H.push _).size;rw[Array.size_push];omega
  ·exact λb f _=>⟨by show(κ.H.push _)[b]?=_;rw[Array.getElem?_push_lt f,ac f],if_neg (Nat.ne_of_lt f),rfl⟩
  ·refine λb f=>⟨Nat.le_of_eq (if_neg (Nat.ne_of_lt f)).symm,λo _=>?_⟩;unfold K.cell;show(match(κ.H.push _)[b]? with | some (.cells c _ _)=>c[o]? | _=>none)=_;rw[Array.getElem?_push_lt f,ac f];rfl
  ·refine λb f _=>⟨rfl,?_⟩;unfold K.shp;show(match(κ.H.push _)[b]? with | some (.cells c T k)=>some (T,c.size,k) | _=>none)=_;rw[Array.getElem?_push_lt f,ac f];rfl
  ·show κ.H.size<(κ.H.push _).size;rw[Array.size_push];omega
  ·have u:=(ai.1 (r j x l)).1;refine⟨by show 0+j*1+1<=if κ.H.size=κ.H.size then row.size else _;rw[if_pos rfl];omega,λo v q=>?_⟩;cases o with
   | succ o=>simp at q
   | zero=>
    simp only[List.getElem?_cons_zero]at q;injection q with q
    subst q;unfold K.cell;show(match(κ.H.push (.cells row e (row.size,row.size+1)))[κ.H.size]? with | some (.cells c _ _)=>c[0+j*1+0]? | _=>none)=_;rw[Array.getElem?_push_size];simp only[ia,Nat.mul_one,Nat.add_zero];exact r j x l
  ·unfold zy at l;rw[dh]at l;obtain⟨b,_,rfl⟩:=ig.1 l;have:=b.toNat_lt;omega
 ·rintro v κ' ⟨a,cp,rfl,hs,w⟩;exact hk a cp κ' hs w
def zwk{α:Type}{t:Ty α}{N j:Nat}{e:TypeId}{a:Option Addr}{cp:Nat}{l:List α}(h:Gr t false (N,j) κ e a cp l)(τ:Tag)(hle:τ.1<=N)(hk:∀κ',Step (blk a cp) κ κ'->Gr t false τ κ' e a cp l->owp P n c i Q E κ'):owp P n c i Q E κ:=by
 obtain⟨g,s⟩:=h.retag (τ':=τ) hle;exact ziQ (κ':=κ.retag (blk a cp) τ) rfl (hk _ s g)
end
end Go.Lf
