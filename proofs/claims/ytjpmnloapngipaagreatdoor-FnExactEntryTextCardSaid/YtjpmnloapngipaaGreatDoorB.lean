import Derived.Test.YtjpmnloapngipaaGreatDoorA
import Derived.Conc.SmallLaws
import Derived.Lib.SliceRun
import Derived.Sort.Row
import Derived.RangeFuncSeq
import Derived.RangeFuncLeaves
import Derived.Laws.Append
import Derived.Maps.RangeRun
import Derived.Shelf.SlSortCmp.WholeK
import Derived.Shelf.SlSortCmp.NoneTotal
import Derived.Lib.UnsafeStr
set_option linter.all false
set_option maxRecDepth 100000
set_option maxHeartbeats 1000000
namespace Go.Lf
open Go
section
variable {P:Program} {α:Type} {t:Ty α} {κ:K} {e T:TypeId} {a:Option Addr} {cp:Nat} {l r:List α} {τ:Tag} {pub:Bool}
theorem Rep.take:∀ {l:List α} {xs:List Value} (i:Nat),Rep t κ xs l→Rep t κ (xs.take (i*t.size)) (l.take i)
 | [],xs,i,h=>by
  have:xs=[]:=h;subst this;simp [Rep]
 | x::l,xs,0,h=>by simp [Rep]
 | x::l,xs,i+1,⟨c,xs',e,ho,hr⟩=>by
  subst e;rw [List.take_succ_cons];refine ⟨c,xs'.take (i*t.size),?_,ho,hr.take i⟩;have a:=t.len ho;rw [List.take_append,fu (by rw [a,fv];omega)];congr 1;rw [a,fv];congr 1;omega
theorem Gr.cap (h:Gr t pub τ κ e a cp l):l.length≤cp:=by
 rcases h.body with ⟨_,b⟩ | ⟨g,cur,xs,ha,hr,hH,h1,_⟩
 ·rw [b];simp
 ·exact h1
theorem Gr.take (h:Gr t false τ κ e a cp l) (i:Nat):Gr t false τ κ e a cp (l.take i):=by
 refine ⟨gc (by rw [ed];exact Nat.min_le_right _ _) h.most,?_⟩;rcases h.body with ⟨b,c⟩ | ⟨g,cur,xs,ha,hr,hH,h1,h2,h3,h4,h5,h6,h7⟩
 ·exact .inl ⟨b,by rw [c];simp⟩
 ·refine .inr ⟨g,cur,xs.take (i*t.size),ha,hr.take i,hH,by rw [ed];exact gc (Nat.min_le_right _ _) h1,h2,h3,?_,h5,h6,h7⟩;rw [←h4,List.take_take,ed];congr 1;rcases Nat.le_total i l.length with hi | hi
  ·rw [Nat.min_eq_left hi,Nat.min_eq_left (gk _ hi)]
  ·rw [Nat.min_eq_right hi,Nat.min_eq_right (gk _ hi)]
theorem zj4 {lo hi:Option Int} (hT:zJ P T=some e) (hs:zM P e=some t.size) (c:l.length≤cp)
  (hx:zkY l (lo.getD 0) (hi.getD l.length)=some r) (w:World) :
  (Instr.sliceAt T (.slice a l.length cp) (zoQ lo) (zoQ hi) none).run P w=.ok (.slice (if cp=(lo.getD 0).toNat then a else a.map (·.add ((lo.getD 0).toNat*t.size))) r.length (cp - (lo.getD 0).toNat)) w:=by
 have b:=zgl hT;obtain ⟨k,j,h,f⟩:=znk hx;have m:=c;have hlen:r.length=(hi.getD l.length).toNat - (lo.getD 0).toNat:=by
  rw [f,dt,ed];omega
 have c:(hi.getD l.length).toNat≤cp:=by omega
 unfold Instr.sliceAt Instr.slice Instr.sliceBounds;rw [hlen];cases lo with
 | none=>
  cases hi with
  | none=>simp [zF b,zoQ,zaX hs]
  | some hv=>
   simp only [gt,Option.getD_none] at *;have d:0≤hv∧hv≤(cp:Int):=by omega
   simp [zF b,zoQ,zaX hs,Instr.sliceBound,asIntOf,d]
 | some lv=>
  cases hi with
  | none=>
   simp only [gt,Option.getD_none] at *;have d:0≤lv∧lv≤(l.length:Int):=by omega
   simp [zF b,zoQ,zaX hs,Instr.sliceBound,asIntOf,d]
  | some hv=>
   simp only [gt] at *;have d:0≤hv∧hv≤(cp:Int):=by omega
   have g:0≤lv∧lv≤(hv.toNat:Int):=by omega
   simp [zF b,zoQ,zaX hs,Instr.sliceBound,asIntOf,d,g];intro i;omega
theorem add_zero (a:Option Addr) (c:Nat):(if c=0 then a else a.map (·.add 0))=a:=by
 split
 ·rfl
 ·cases a with
  | none=>rfl
  | some x=>cases x with
   | mk b o r=>
    cases r with
    | none=>rfl
    | some q=>rfl
def clr {α:Type} (l:List α) (lo:Int) (z:α):Option (List α):=
 if 0≤lo∧lo≤l.length then some (l.take lo.toNat++List.replicate (l.length - lo.toNat) z) else none
theorem ztE {lo:Int} {z:α} (h:clr l lo z=some r):0≤lo∧lo≤l.length∧r=l.take lo.toNat++List.replicate (l.length - lo.toNat) z:=by
 unfold clr at h;split at h
 ·rename_i h0;exact ⟨h0.1,h0.2,(Option.some.inj h).symm⟩
 ·cases h
theorem zAf {ty:TypeId} {zs:List Value} {z:α} {lo:Int} (hT:zJ P T=some e) (hz:(zeW P e).map Value.cells=some zs.toArray) (hzo:t.own κ zs z) (h:Gr t false τ κ e a cp l)
  (E:clr l lo z=some r) [Fb] (C:Cx) (d:Nat) :
  ∃ κ',(Builtin.clear_ #[T] ty #[.slice (if cp=lo.toNat then a else a.map (·.add (lo.toNat*t.size))) (l.length - lo.toNat) (cp - lo.toNat)]).run P (W C κ d)=.ok (.tuple #[]) (W C κ' d)∧Step (blk a cp) κ κ'∧Gr t false τ κ' e a cp r:=by
 obtain ⟨N,O,rfl⟩:=ztE E;have s:=zgl hT;by_cases v:l.length - lo.toNat=0
 ·refine ⟨κ,?_,Step.refl _ _,?_⟩
  ·rw [v];generalize (if cp=lo.toNat then a else a.map (·.add (lo.toNat*t.size)))=aa;cases aa<;>simp [Builtin.clear_,zF s]
  ·rw [v];have:l.take lo.toNat=l:=fu (by omega);rw [this];simpa using h
 ·rcases h.body with ⟨Q,J⟩ | ⟨g,cur,xs,ha,hr,hH,h2,h3,h4,h5,h6,h7,h8⟩
  ·rw [J] at v;simp at v
  ·subst ha;obtain ⟨R,A,D⟩:=gu.1 hz;have f:Box τ κ g cur.toList e:=⟨by simpa using hH,by rw [h6];simp,h7,h8⟩;have B:=t.len hzo;have p:Rep t κ (Builtin.zeroCells zs.toArray (l.length - lo.toNat)).toList (List.replicate (l.length - lo.toNat) z):=by
    have:=zvQ hzo (l.length - lo.toNat);have I:(Builtin.zeroCells zs.toArray (l.length - lo.toNat)).toList=(List.range ((l.length - lo.toNat)*t.size)).map fun i=>(zs.toArray)[i % zs.toArray.size]!:=by
     simp [Builtin.zeroCells,B]
    rw [I];exact this
   have c:=p.length;rw [dy] at c;have q:cur.toList.length=cp*t.size:=by simpa using h4
   have G:lo.toNat*t.size+(l.length - lo.toNat)*t.size=l.length*t.size:=by rw [←fv];congr 1;omega
   have M:l.length*t.size≤cp*t.size:=gk _ h2;have b:Step [g] κ (κ.setB g (splice cur.toList (lo.toNat*t.size) (Builtin.zeroCells zs.toArray (l.length - lo.toNat)).toList) e):=zlm f;refine ⟨κ.setB g (splice cur.toList (lo.toNat*t.size) (Builtin.zeroCells zs.toArray (l.length - lo.toNat)).toList) e,?_,b.mono (fun x E=>by rw [fg.1 E];exact zmb (a:=⟨g,0,none⟩) (by omega)),?_⟩
   ·have y:¬cp=lo.toNat:=by omega
    rw [if_neg y];have L:(Option.map (fun x=>Addr.add x (lo.toNat*t.size)) (some (⟨g,0,none⟩:Addr)))=some ⟨g,lo.toNat*t.size,none⟩:=by simp [zgC]
    rw [L];have n:=zlL (P:=P) (C:=C) (d:=d) (off:=lo.toNat*t.size) (Builtin.zeroCells zs.toArray (l.length - lo.toNat)).toList 0 κ cur.toList f p.one (by rw [c,q];omega);rw [Nat.add_zero] at n;obtain ⟨m,hm⟩:∃ m,l.length - lo.toNat=m+1:=⟨l.length - lo.toNat - 1,by omega⟩;rw [hm] at n ⊢;simp [Builtin.clear_,zF s,zhx A,D];rw [show (Builtin.zeroCells zs.toArray (m+1)).toList=(Builtin.zeroCells zs.toArray (m+1)).toList from rfl,n];simp
   ·have hlen:(l.take lo.toNat++List.replicate (l.length - lo.toNat) z).length=l.length:=by
     rw [dl,ed,dy];omega
    have H:(l.take lo.toNat).length=lo.toNat:=by rw [ed];omega
    refine ⟨by rw [hlen];exact h.most,.inr ⟨g,_,xs.take (lo.toNat*t.size)++(Builtin.zeroCells zs.toArray (l.length - lo.toNat)).toList,rfl,(hr.take _ |>.step b).append (p.step b),(zma f).obj,by rw [hlen];exact h2,h3,by rw [fp,zfA,q],?_,h6,h7,h8⟩⟩;rw [hlen];apply bl;intro j;rw [dh];have w:=hr.length;have k:(xs.take (lo.toNat*t.size)).length=lo.toNat*t.size:=by rw [ed,w];omega
    by_cases F:j<l.length*t.size
    ·rw [if_pos F];simp only [List.toList_toArray] at *;rw [zhV _ _ _ _ (by rw [c,q];omega),c];by_cases u:j<lo.toNat*t.size
     ·rw [if_neg (by omega),cg (by rw [k];exact u),dh,if_pos u,←h5,dh,if_pos F]
     ·rw [if_pos (by omega),ci (by rw [k];omega),k]
    ·rw [if_neg F,cn];rw [dl,k,c];omega
end
section
variable [Fc] [Fb] {P:Program} {n:Nat} {c:Code} {i:Nat} {Q:za6} {E:Env} {κ:K} {α:Type} {t:Ty α} {τ:Tag} {e T:TypeId} {a:Option Addr} {cp:Nat} {l r:List α}
theorem osv (d:Nat) {hi:Int} (hg:Gr t false τ κ e a cp l) (hx:zkY l 0 hi=some r) (hk:Gr t false τ κ e a cp r→owp P n c (i+1) Q (upd E d (.slice a r.length cp)) κ)
  (h:st c i n E (some d)=true:=by kernel_rfl) (ho:execOp (ev E) (zw c i)=vOf (Instr.sliceAt T (.slice a l.length cp) none (zoQ (some hi)) none):=by kernel_rfl)
  (hT:zJ P T=some e:=by kernel_rfl) (hs:zM P e=some t.size:=by kernel_rfl):owp P n c i Q E κ:=by
 have b:=(znk hx).2.2.2;refine zhJ _ h (fun C g=>by rw [ho];exact zG (zj4 (lo:=none) (hi:=some hi) hT hs hg.cap hx _)) ?_;have f:((Option.getD none 0:Int).toNat)=0:=rfl;rw [f,Nat.zero_mul,add_zero,Nat.sub_zero];refine hk ?_;rw [b];exact hg.take _
theorem zB3 (d d2:Nat) {lo:Int} (zs:List Value) {z:α} (hg:Gr t false τ κ e a cp l) (hzo:t.own κ zs z) (hx:clr l lo z=some r)
  (hk:∀ κ',Step (blk a cp) κ κ'→Gr t false τ κ' e a cp r→owp P n c (i+1+1) Q (upd E d (.slice (if cp=lo.toNat then a else a.map (·.add (lo.toNat*t.size))) (l.length - lo.toNat) (cp - lo.toNat))) κ')
  (h:st c i n E (some d)=true:=by kernel_rfl) (ho:execOp (ev E) (zw c i)=vOf (Instr.sliceAt T (.slice a l.length cp) (zoQ (some lo)) none none):=by kernel_rfl)
  (h2:∀ v,st c (i+1) n (upd E d v) none=true:=by intro _;kernel_rfl) (ho2:∀ v,execOp (ev (upd E d v)) (zw c (i+1))=vOf (Builtin.clear_ #[T] d2 #[v]):=by intro _;kernel_rfl)
  (hT:zJ P T=some e:=by kernel_rfl) (hs:zM P e=some t.size:=by kernel_rfl) (hz:(zeW P e).map Value.cells=some zs.toArray:=by kernel_rfl):owp P n c i Q E κ:=by
 obtain ⟨q,p,u⟩:=ztE hx;have f:zkY l (Option.getD (some lo) 0) (Option.getD none (l.length:Int))=some (l.drop lo.toNat):=by
  unfold zkY;simp only [gt,Option.getD_none];rw [if_pos ⟨q,p,by omega⟩];simp
 refine zhJ _ h (fun C j=>by rw [ho];exact zG (zj4 (lo:=some lo) (hi:=none) hT hs hg.cap f _)) ?_;simp only [gt];rw [dt];refine zmw (h2 _) (fun C j a' m=>?_);obtain ⟨κ',b,g,k⟩:=zAf (ty:=d2) hT hz hzo hg hx C j;obtain ⟨_,_,s,_⟩:=zhD (h2 (.slice (if cp=lo.toNat then a else a.map (·.add (lo.toNat*t.size))) (l.length - lo.toNat) (cp - lo.toNat)));refine zlq (by rw [m.eval,ho2];exact zG b) ?_;rw [s];exact hk κ' g k C j _ m
end
theorem zxB {α:Type} {l r:List α} {lo:Int} {z:α} (h:clr l lo z=some r):r.length=l.length:=by
 obtain ⟨b,a,rfl⟩:=ztE h;rw [dl,ed,dy];omega
section
variable {P:Program} {f:FuncId} {args:Array Value} {κ:K} {α:Type} {t:Ty α} {τ:Tag} {e:TypeId} {a:Option Addr} {c:Nat} {l:List α}
def K.frB (κ:K) (g m:Nat):K:=⟨κ.H,fun b=>if b=g then m else κ.fr b,κ.tag⟩
theorem Fn.borrow {B:Value→Prop} (hg:Gr t false τ κ e a c l)
  (h:∀ κ1,κ1.H=κ.H→Step (blk a c) κ κ1→Gr t true τ κ1 e a c l→Fn P f args κ1 (fun v κ'=>Step [] κ1 κ'∧B v)):Fn P f args κ (fun v κ'=>Step [] κ κ'∧B v):=by
 by_cases hp:∃ g,blk a c=[g]
 ·obtain ⟨g,m⟩:=hp;obtain ⟨κ1,k,n,r⟩:=hg.publish;have A:=h κ1 k n r;intro C d;have y:W C κ d=W C κ1 d:=by unfold W;rw [k]
  rw [y];refine (A C d).mono ?_;rintro ex w' ⟨v,κ2,E,q,D,hs,F⟩;refine ⟨v,K.frB κ2 g (κ.fr g),E,q,by rw [D];unfold W K.frB;rfl,?_,F⟩;have u:=hg.lt g (by rw [m];simp);have s:∀ b,b<κ.H.size→(K.frB κ2 g (κ.fr g)).shp b=κ.shp b:=fun b i=>by
   show κ2.shp b=κ.shp b;unfold K.shp;rw [(hs.2.1 b (by rw [k];exact i) (by simp)).1,k]
  have z:∀ b,b<κ.H.size→(K.frB κ2 g (κ.fr g)).tag b=κ.tag b:=fun b i=>by
   show κ2.tag b=κ.tag b;rw [(hs.2.1 b (by rw [k];exact i) (by simp)).2.2];by_cases j:b=g
   ·subst j;exact (r.lt b (by rw [m];simp)).2.1.trans u.2.1.symm
   ·exact (n.2.1 b i (by rw [m];simpa using j)).2.2
  refine ⟨by rw [←k];exact hs.1,fun b i _=>?_,fun b i=>?_,fun b i _=>⟨z b i,s b i⟩⟩
  ·have p:=hs.2.1 b (by rw [k];exact i) (by simp);have G:(K.frB κ2 g (κ.fr g)).H[b]?=κ.H[b]?:=by
    show κ2.H[b]?=κ.H[b]?;rw [p.1,k]
   by_cases j:b=g
   ·subst j;refine ⟨G,by simp [K.frB],?_⟩;show κ2.tag b=κ.tag b;rw [p.2.2];exact (r.lt b (by rw [m];simp)).2.1.trans u.2.1.symm
   ·have w:=n.2.1 b i (by rw [m];simpa using j);refine ⟨G,?_,?_⟩
    ·simp only [K.frB,if_neg j];rw [p.2.1,w.2.1]
    ·show κ2.tag b=κ.tag b;rw [p.2.2,w.2.2]
  ·have p:=hs.2.1 b (by rw [k];exact i) (by simp);have x:∀ o,(K.frB κ2 g (κ.fr g)).cell b o=κ.cell b o:=fun o=>by
    show K.cell κ2 b o=K.cell κ b o;unfold K.cell;rw [p.1,k]
   refine ⟨?_,fun o _=>x o⟩;by_cases j:b=g
   ·subst j;simp [K.frB]
   ·have w:=n.2.1 b i (by rw [m];simpa using j);simp only [K.frB,if_neg j];rw [p.2.1,w.2.1];exact ga _
 ·have m:blk a c=[]:=by
   cases a with
   | none=>rfl
   | some ad=>
    by_cases x:c=0
    ·rw [x,ztM]
    ·exact absurd ⟨ad.block,by simp [blk,x]⟩ hp
  obtain ⟨κ1,k,n,r⟩:=hg.publish;have A:=h κ1 k n r;intro C d;have y:W C κ d=W C κ1 d:=by unfold W;rw [k]
  rw [y];rw [m] at n;refine (A C d).mono ?_;rintro ex w' ⟨v,κ2,E,q,D,hs,F⟩;exact ⟨v,κ2,E,q,D,n.trans hs,F⟩
end
theorem Gr.any {α:Type} {t:Ty α} {pub:Bool} {τ:Tag} (τ':Tag) {κ:K} {e:TypeId} {a:Option Addr} {c:Nat} {l:List α} (h:Gr t pub τ κ e a c l) (hb:blk a c=[]):Gr t pub τ' κ e a c l:=by
 refine ⟨h.most,?_⟩;rcases h.body with h1 | ⟨g,cur,xs,ha,hr,hH,h1,_⟩
 ·exact .inl h1
 ·have b:c=0:=by
   subst ha;by_cases b:c=0
   ·exact b
   ·simp [blk,b] at hb
  exact .inl ⟨b,bj (by omega)⟩
theorem Gr.lo {α:Type} {t:Ty α} {pub:Bool} {τ:Tag} {κ:K} {e:TypeId} {a:Option Addr} {c:Nat} {l:List α} (h:Gr t pub τ κ e a c l):τ.1<κ.H.size∨blk a c=[]:=by
 by_cases b:blk a c=[]
 ·exact .inr b
 ·obtain ⟨g,d⟩:=List.exists_mem_of_ne_nil _ b;have:=h.lt g d;exact .inl (Nat.lt_of_le_of_lt this.2.2 this.1)
theorem Gr.low {α:Type} {t:Ty α} {pub:Bool} {N i m:Nat} {κ:K} {e:TypeId} {a:Option Addr} {c:Nat} {l:List α} (h:Gr t pub (N,i) κ e a c l) (go:m≤N) (hb:m<κ.H.size) :
  ∃ N',m≤N'∧N'<κ.H.size∧Gr t pub (N',i) κ e a c l:=by
 rcases h.lo with h1 | h1
 ·exact ⟨N,go,h1,h⟩
 ·exact ⟨m,ga _,hb,h.any _ h1⟩
abbrev Hd:=Option Addr×Nat×Nat
def tH:Ty Hd:=⟨1,fun _ cs h=>cs=[.slice h.1 h.2.1 h.2.2],fun h=>by rw [h];rfl,fun _ h=>h,fun h v hv=>by rw [h] at hv;simp at hv;subst hv;rfl⟩
def zoJ (h:Hd):List Nat:=blk h.1 h.2.2
def mblk (a:Option Addr) (c:Nat) (hs:List Hd):List Nat:=blk a c++hs.flatMap zoJ
theorem zpm (a:Option Addr) (c:Nat):(blk a c).Nodup:=by
 unfold blk;cases a with
 | none=>simp
 | some x=>simp only [];split<;>simp
structure Mat {α:Type} (t:Ty α) (pub:Bool) (τ:Tag) (κ:K) (eo ei:TypeId) (a:Option Addr) (c:Nat) (hm hs:List Hd) (L:List (List α)):Prop where
 out:Gr tH false τ κ eo a c hm
 len:hs.length=L.length
 rows:∀ (i:Nat) (h:Hd) (l:List α),hs[i]?=some h→L[i]?=some l→h.2.1=l.length∧Gr t pub τ κ ei h.1 h.2.2 l
 nd:(mblk a c hs).Nodup
section
variable {α:Type} {t:Ty α} {pub:Bool} {τ:Tag} {κ κ':K} {eo ei:TypeId} {a:Option Addr} {c:Nat} {hm hs:List Hd} {L:List (List α)} {M:List Nat}
theorem zoO {g:Nat}:g∈mblk a c hs↔g∈blk a c∨∃ (i:Nat) (h:Hd),hs[i]?=some h∧g∈zoJ h:=by
 unfold mblk;rw [ep,List.mem_flatMap];constructor
 ·rintro (h | ⟨x,d,b⟩)
  ·exact .inl h
  ·obtain ⟨i,hi⟩:=cv d;exact .inr ⟨i,x,hi,b⟩
 ·rintro (h | ⟨i,x,d,b⟩)
  ·exact .inl h
  ·exact .inr ⟨x,fd d,b⟩
theorem Mat.row_at (h:Mat t pub τ κ eo ei a c hm hs L) {i:Nat} {hd:Hd} (hi:hs[i]?=some hd):∃ l,L[i]?=some l∧hd.2.1=l.length∧Gr t pub τ κ ei hd.1 hd.2.2 l:=by
 have b:i<L.length:=by rw [←h.len];exact (co.1 hi).1
 have d:L[i]?=some L[i]:=by simp [b]
 exact ⟨L[i],d,h.rows i hd _ hi d⟩
theorem Mat.lt (h:Mat t pub τ κ eo ei a c hm hs L):∀ g∈mblk a c hs,g<κ.H.size∧κ.tag g=τ∧τ.1≤g:=by
 intro g b;rcases zoO.1 b with b | ⟨i,hd,hi,b⟩
 ·exact h.out.lt g b
 ·obtain ⟨l,_,_,d⟩:=h.row_at hi;exact d.lt g b
theorem Mat.step (s:Step M κ κ') (hM:∀ g∈mblk a c hs,g∉M) (h:Mat t pub τ κ eo ei a c hm hs L):Mat t pub τ κ' eo ei a c hm hs L:=
 ⟨h.out.step s (fun g b=>hM g (zoO.2 (.inl b))),h.len,fun i hd l hi d=>⟨(h.rows i hd l hi d).1,(h.rows i hd l hi d).2.step s (fun g b=>hM g (zoO.2 (.inr ⟨i,hd,hi,b⟩)))⟩,h.nd⟩
theorem Mat.step0 (s:Step [] κ κ') (h:Mat t pub τ κ eo ei a c hm hs L):Mat t pub τ κ' eo ei a c hm hs L:=h.step s (by simp)
theorem Mat.most (h:Mat t pub τ κ eo ei a c hs hs L):L.length≤9223372036854775807:=by rw [←h.len];exact zqL h.out.most
theorem Mat.idx {ix:Int} {l:List α} (h:Mat t pub τ κ eo ei a c hs hs L) (hx:idx L ix=some l) :
  ∃ b ah ch,a=some ⟨b,0,none⟩∧0≤ix∧ix<(L.length:Int)∧hs[ix.toNat]?=some (ah,l.length,ch)∧At κ b (0+ix.toNat*1) [.slice ah l.length ch]∧Gr t pub τ κ ei ah ch l:=by
 obtain ⟨j,q,p⟩:=zhB hx;have f:ix.toNat<hs.length:=by rw [h.len];omega
 have g:hs[ix.toNat]?=some hs[ix.toNat]:=by simp [f]
 obtain ⟨i,m⟩:=h.rows _ _ _ g p;have e:Lf.idx hs ix=some hs[ix.toNat]:=by unfold Lf.idx;rw [if_pos j];exact g
 obtain ⟨b,n,_,_,cs,d,k⟩:=h.out.idx e;refine ⟨b,hs[ix.toNat].1,hs[ix.toNat].2.2,n,j,q,?_,?_,m⟩
 ·rw [g,←i]
 ·have:cs=[.slice hs[ix.toNat].1 hs[ix.toNat].2.1 hs[ix.toNat].2.2]:=k;rw [this,i] at d;exact d
theorem Mat.made {n:Nat} (h:Gr tH false τ κ eo a c (List.replicate n (none,0,0))):Mat t pub τ κ eo ei a c (List.replicate n (none,0,0)) (List.replicate n (none,0,0)) (List.replicate n ([]:List α)):=by
 refine ⟨h,by simp,fun i hd l hi d=>?_,?_⟩
 ·have b:hd=(none,0,0):=List.eq_of_mem_replicate (fd hi);have e:l=[]:=List.eq_of_mem_replicate (fd d);subst b;subst e;exact ⟨rfl,Gr.nil⟩
 ·unfold mblk;have:(List.replicate n ((none,0,0):Hd)).flatMap zoJ=[]:=by
   rw [List.flatMap_eq_nil_iff];intro x f;rw [List.eq_of_mem_replicate f];rfl
  rw [this,bf];exact zpm a c
theorem zwi {i:Nat} {hd h':Hd} (hi:hs[i]?=some hd):∃ X Y,hs.flatMap zoJ=X++zoJ hd++Y∧(hs.set i h').flatMap zoJ=X++zoJ h'++Y:=by
 have a:=(co.1 hi).1;have b:=(co.1 hi).2;refine ⟨(hs.take i).flatMap zoJ,(hs.drop (i+1)).flatMap zoJ,?_,?_⟩
 ·have:hs=hs.take i++hd::hs.drop (i+1):=by
   rw [←b,List.getElem_cons_drop,List.take_append_drop]
  conv=>lhs;rw [this]
  simp [bz,ca,be]
 ·rw [List.set_eq_take_append_cons_drop,if_pos a];simp [bz,ca,be]
theorem zui {A X B Y B':List Nat} {n:Nat} (h:(A++(X++B++Y)).Nodup) (hb:B'.Nodup) (hlt:∀ g∈A++(X++B++Y),g<n) (hw:∀ g∈B',g∈B∨n≤g):(A++(X++B'++Y)).Nodup:=by
 simp only [fi,ep] at h hlt ⊢;obtain ⟨i,⟨⟨e,k,f⟩,j,d⟩,c⟩:=h;refine ⟨i,⟨⟨e,hb,fun x b y a=>?_⟩,j,fun x b y a=>?_⟩,fun x b y a=>?_⟩
 ·rcases hw y a with hyb | hyn
  ·exact f x b y hyb
  ·have:=hlt x (.inr (.inl (.inl b)));omega
 ·rcases b with b | b
  ·exact d x (.inl b) y a
  ·rcases hw x b with hxb | hxn
   ·exact d x (.inr hxb) y a
   ·have:=hlt y (.inr (.inr a));omega
 ·rcases a with (a | a) | a
  ·exact c x b y (.inl (.inl a))
  ·rcases hw y a with hyb | hyn
   ·exact c x b y (.inl (.inr hyb))
   ·have:=hlt x (.inl b);omega
  ·exact c x b y (.inr a)
theorem Mat.row (h:Mat t pub τ κ eo ei a c hm hs L) {i:Nat} {hd:Hd} {a':Option Addr} {c':Nat} {l':List α} (hi:hs[i]?=some hd) (s:Step (zoJ hd) κ κ') (g:Gr t pub τ κ' ei a' c' l')
  (hw:∀ x∈blk a' c',x∈zoJ hd∨κ.H.size≤x):Mat t pub τ κ' eo ei a c hm (hs.set i (a',l'.length,c')) (L.set i l'):=by
 have f:=(co.1 hi).1;obtain ⟨X,Y,v,z⟩:=zwi (h':=(a',l'.length,c')) hi;have e:=h.nd;unfold mblk at e;refine ⟨h.out.step s (fun x m u=>?_),by rw [dz,dz];exact h.len,fun j y l b d=>?_,?_⟩
 ·rw [fi] at e;exact e.2.2 x m x (by rw [v];simp [u]) rfl
 ·by_cases k:i=j
  ·subst k;rw [dg f] at b;rw [dg (by rw [←h.len];exact f)] at d;injection b with b;injection d with d
   subst b;subst d;exact ⟨rfl,g⟩
  ·rw [df k] at b d;refine ⟨(h.rows j y l b d).1,(h.rows j y l b d).2.step s (fun x m u=>?_)⟩;have w:=(fi.1 e).2.1;have hp:=(List.pairwise_flatMap.1 w).2;have p:=(co.1 b).1;have q:=fm.1 hp;have ei':=(co.1 hi).2;have r:=(co.1 b).2;rcases gi k with hlt' | hlt'
   ·have:=q i j f p hlt';rw [ei',r] at this;exact this x u x m rfl
   ·have:=q j i p f hlt';rw [ei',r] at this;exact this x m x u rfl
 ·unfold mblk;rw [z];rw [v] at e;refine zui e (zpm a' c') (n:=κ.H.size) (fun x m=>?_) hw;have:x∈mblk a c hs:=by unfold mblk;rw [v];exact m
  exact (h.lt x this).1
theorem Mat.outer (h:Mat t pub τ κ eo ei a c hm hs L) {a':Option Addr} {c':Nat} {hm':List Hd} (s:Step (blk a c) κ κ') (g:Gr tH false τ κ' eo a' c' hm')
  (hw:∀ x∈blk a' c',x∈blk a c∨κ.H.size≤x):Mat t pub τ κ' eo ei a' c' hm' hs L:=by
 have b:=h.nd;unfold mblk at b;refine ⟨g,h.len,fun i hd l hi e=>⟨(h.rows i hd l hi e).1,(h.rows i hd l hi e).2.step s (fun x d f=>?_)⟩,?_⟩
 ·exact (fi.1 b).2.2 x f x (List.mem_flatMap.2 ⟨hd,fd hi,d⟩) rfl
 ·unfold mblk;have:=zui (A:=[]) (X:=[]) (B:=blk a c) (Y:=hs.flatMap zoJ) (B':=blk a' c') (n:=κ.H.size) (by simpa using b) (zpm a' c') (fun x d=>(h.lt x (by simpa [mblk] using d)).1) hw;simpa using this
def K.retag (κ:K) (B:List Nat) (τ:Tag):K:=⟨κ.H,κ.fr,fun b=>if b∈B then τ else κ.tag b⟩
theorem Gr.fr0 {e:TypeId} {l:List α} (h:Gr t false τ κ e a c l):∀ g∈blk a c,κ.fr g=0:=by
 intro g b;rcases h.body with ⟨d,_⟩ | ⟨g',cur,xs,ha,hr,hH,h1,h2,h3,h4,h5,h6,h7⟩
 ·rw [d,ztM] at b;cases b
 ·rw [ha] at b;have:=(zvj b).1;rw [this];simpa using h5
theorem Gr.retag {τ':Tag} {e:TypeId} {l:List α} (h:Gr t false τ κ e a c l) (hle:τ'.1≤τ.1):Gr t false τ' (κ.retag (blk a c) τ') e a c l∧Step (blk a c) κ (κ.retag (blk a c) τ'):=by
 have hs:Step (blk a c) κ (κ.retag (blk a c) τ'):=⟨ga _,fun b f hm=>⟨rfl,rfl,by simp [K.retag,hm]⟩,fun b f=>⟨ga _,fun o _=>rfl⟩,fun b f i=>⟨by
  have:b∉blk a c:=fun hm=>by rw [h.fr0 b hm] at i;omega
  simp [K.retag,this],rfl⟩⟩
 refine ⟨⟨h.most,?_⟩,hs⟩;rcases h.body with h1 | ⟨g,cur,xs,ha,hr,hH,h1,h2,h3,h4,h5,h6,h7⟩
 ·exact .inl h1
 ·by_cases d:c=0
  ·exact .inl ⟨d,bj (by omega)⟩
  ·refine .inr ⟨g,cur,xs,ha,hr.step hs,hH,h1,h2,h3,h4,h5,?_,gc hle h7⟩;have:g∈blk a c:=by rw [ha];exact zmb (a:=⟨g,0,none⟩) (by omega)
   simp [K.retag,this]
theorem Mat.snoc {τr:Tag} {ar:Option Addr} {cr:Nat} {l:List α} (h:Mat t false τ κ eo ei a c hm hs L) (g:Gr t false τr κ ei ar cr l) (hne:τr≠τ) (hle:τ.1≤τr.1) :
  ∃ κ',κ'.H=κ.H∧Step (blk ar cr) κ κ'∧Mat t false τ κ' eo ei a c hm (hs++[(ar,l.length,cr)]) (L++[l]):=by
 obtain ⟨q,s⟩:=g.retag (τ':=τ) hle;have b:∀ x∈mblk a c hs,x∉blk ar cr:=fun x m r=>hne ((g.lt x r).2.1.symm.trans (h.lt x m).2.1);have h':=h.step s b;refine ⟨κ.retag (blk ar cr) τ,rfl,s,h'.out,by rw [dl,dl,h.len];rfl,fun i hd l1 hi d=>?_,?_⟩
 ·by_cases f:i<hs.length
  ·rw [cg f] at hi;rw [cg (by rw [←h.len];exact f)] at d;exact h'.rows i hd l1 hi d
  ·rw [ci (by omega)] at hi;rw [ci (by rw [←h.len];omega)] at d;have n:i - hs.length=0:=by
    have:=(co.1 hi).1;simp at this;omega
   rw [n] at hi;rw [←h.len,n] at d;simp at hi d;subst hi;subst d;exact ⟨rfl,q⟩
 ·have j:=h.nd;unfold mblk at j ⊢;rw [bz,←be,fi];refine ⟨j,by simpa [zoJ] using zpm ar cr,fun x m y p=>?_⟩;have k:y∈blk ar cr:=by simpa [zoJ] using p
  intro e;subst e;exact b x m k
end
section
variable {α:Type} {t:Ty α} {pub:Bool} {τ:Tag} {κ κ':K} {eo ei:TypeId} {a:Option Addr} {c:Nat} {hm hs:List Hd} {L:List (List α)} {M:List Nat}
theorem Gr.publish' {e:TypeId} {l:List α} (h:Gr t pub τ κ e a c l):∃ κ',κ'.H=κ.H∧κ'.tag=κ.tag∧Step (blk a c) κ κ'∧Gr t true τ κ' e a c l:=by
 cases pub with
 | true=>exact ⟨κ,rfl,rfl,Step.refl _ _,h⟩
 | false=>
 rcases h.body with ⟨j,i⟩ | ⟨g,cur,xs,ha,hr,hH,h1,h2,h3,h4,h5,h6,h7⟩
 ·exact ⟨κ,rfl,rfl,Step.refl _ _,h.most,.inl ⟨j,i⟩⟩
 ·by_cases d:c=0
  ·exact ⟨κ,rfl,rfl,Step.refl _ _,h.most,.inl ⟨d,bj (by omega)⟩⟩
  have hs:Step (blk a c) κ (κ.pubB g (l.length*t.size)):=by
   refine ⟨ga _,fun b f hm=>⟨rfl,?_,rfl⟩,fun b f=>⟨?_,fun o _=>rfl⟩,fun b f _=>⟨rfl,rfl⟩⟩
   ·simp only [K.pubB];rw [if_neg];intro e;exact hm (by rw [ha,e];exact zmb (by omega))
   ·simp only [K.pubB];split
    ·rename_i e;subst e;rw [h5];simp
    ·exact ga _
  exact ⟨κ.pubB g (l.length*t.size),rfl,rfl,hs,h.most,.inr ⟨g,cur,xs,ha,hr.step hs,hH,h1,h2,h3,h4,by simp [K.pubB],h6,h7⟩⟩
theorem zvS:∀ (hs:List Hd) (L:List (List α)) (κ:K),hs.length=L.length→(∀ (i:Nat) (h:Hd) (l:List α),hs[i]?=some h→L[i]?=some l→h.2.1=l.length∧Gr t pub τ κ ei h.1 h.2.2 l)→(hs.flatMap zoJ).Nodup→
  ∃ κ',κ'.H=κ.H∧κ'.tag=κ.tag∧Step (hs.flatMap zoJ) κ κ'∧∀ (i:Nat) (h:Hd) (l:List α),hs[i]?=some h→L[i]?=some l→h.2.1=l.length∧Gr t true τ κ' ei h.1 h.2.2 l
 | [],L,κ,_,_,_=>⟨κ,rfl,rfl,Step.refl _ _,fun i h l hi=>by simp at hi⟩
 | h::hs,[],κ,hl,_,_=>by simp at hl
 | h::hs,l::L,κ,hl,hr,hn=>by
  rw [ca,fi] at hn;obtain ⟨k,s⟩:=hr 0 h l rfl rfl;obtain ⟨κ1,q,n,g,p⟩:=s.publish';obtain ⟨κ2,u,m,f,j⟩:=zvS hs L κ1 (by simpa using hl) (fun i h' l' hi a=>by
   obtain ⟨r,v⟩:=hr (i+1) h' l' hi a;refine ⟨r,v.step g (fun x e d=>hn.2.2 x d x (List.mem_flatMap.2 ⟨h',fd hi,e⟩) rfl)⟩) hn.2.1
  refine ⟨κ2,u.trans q,m.trans n,?_,fun i h' l' hi a=>?_⟩
  ·rw [ca];exact (g.mono (fun b c=>ep.2 (.inl c))).trans (f.mono (fun b c=>ep.2 (.inr c)))
  ·cases i with
   | zero=>
    simp at hi a;subst hi;subst a;exact ⟨k,p.step f (fun x e d=>hn.2.2 x e x d rfl)⟩
   | succ i=>exact j i h' l' hi a
theorem zBo {l:List Hd}:∀ {xs:List Value} {L:List (List α)},Rep tH κ xs l→l.length=L.length→(∀ (i:Nat) (h:Hd) (r:List α),l[i]?=some h→L[i]?=some r→h.2.1=r.length∧Sl t κ h.1 h.2.2 r)→Rep (tSl t) κ xs L:=by
 induction l with
 | nil=>
  intro xs L g b _;cases L with
  | nil=>exact g
  | cons _ _=>simp at b
 | cons h l ih=>
  intro xs L g b a;cases L with
  | nil=>simp at b
  | cons r L=>
   obtain ⟨c,d,e,m,f⟩:=g;obtain ⟨k,p⟩:=a 0 h r rfl rfl;refine ⟨c,d,e,⟨h.1,h.2.2,?_,p⟩,ih f (by simpa using b) (fun i h' n hi j=>a (i+1) h' n hi j)⟩;have:c=[.slice h.1 h.2.1 h.2.2]:=m;rw [this,k]
theorem Mat.publish (h:Mat t pub τ κ eo ei a c hs hs L):∃ κ',κ'.H=κ.H∧κ'.tag=κ.tag∧Step (mblk a c hs) κ κ'∧Gr (tSl t) true τ κ' eo a c L:=by
 have d:=h.nd;unfold mblk at d;rw [fi] at d;obtain ⟨κ1,A,y,q,u⟩:=zvS hs L κ h.len h.rows d.2.1;have w:=h.out.step q (fun x l f=>d.2.2 x l x f rfl);obtain ⟨κ2,v,s,p,n⟩:=w.publish';have k:Step (mblk a c hs) κ κ2:=(q.mono (fun b j=>by unfold mblk;exact ep.2 (.inr j))).trans (p.mono (fun b j=>by unfold mblk;exact ep.2 (.inl j)));refine ⟨κ2,v.trans A,s.trans y,k,by rw [←h.len];exact n.most,?_⟩;rcases n.body with ⟨f,z⟩ | ⟨g,cur,xs,ha,hr,hH,h1,h2,h3,h4,h5,h6,h7⟩
 ·refine .inl ⟨f,?_⟩;have:=h.len;rw [z] at this;exact bj (by simpa using this.symm)
 ·have e:Rep (tSl t) κ2 xs L:=zBo hr h.len (fun i hd r hi m=>by
   obtain ⟨B,C⟩:=u i hd r hi m;exact ⟨B,(C.step p (fun x l f=>d.2.2 x f x (List.mem_flatMap.2 ⟨hd,fd hi,l⟩) rfl)).sl⟩)
  exact .inr ⟨g,cur,xs,ha,e,hH,by rw [←h.len];exact h1,h2,h3,by rw [←h.len];exact h4,by rw [←h.len];exact h5,h6,h7⟩
def K.back (κ κ':K):K:=⟨κ'.H,fun b=>if b<κ.H.size then κ.fr b else κ'.fr b,κ'.tag⟩
theorem zxJ {κ1 κ2:K} (e:κ1.H=κ.H) (et:κ1.tag=κ.tag) (s:Step [] κ1 κ2):Step [] κ (K.back κ κ2):=by
 refine ⟨by rw [←e];exact s.1,fun b c _=>?_,fun b c=>?_,fun b c _=>?_⟩
 ·have a:=s.2.1 b (by rw [e];exact c) (by simp);exact ⟨by show κ2.H[b]?=_;rw [a.1,e],by simp [K.back,c],by show κ2.tag b=_;rw [a.2.2,et]⟩
 ·have a:=s.2.1 b (by rw [e];exact c) (by simp);refine ⟨by simp [K.back,c],fun o _=>?_⟩;show K.cell κ2 b o=K.cell κ b o;unfold K.cell;rw [a.1,e]
 ·have a:=s.2.1 b (by rw [e];exact c) (by simp);refine ⟨by show κ2.tag b=_;rw [a.2.2,et],?_⟩;show K.shp κ2 b=K.shp κ b;unfold K.shp;rw [a.1,e]
theorem Fn.lend {P:Program} {f:FuncId} {args:Array Value} {R:Value→K→Prop} {κ1:K} (e:κ1.H=κ.H) (et:κ1.tag=κ.tag)
  (h:Fn P f args κ1 (fun v κ'=>Step [] κ1 κ'∧R v κ')) (hR:∀ v κ2,Step [] κ1 κ2→R v κ2→R v (K.back κ κ2)):Fn P f args κ (fun v κ'=>Step [] κ κ'∧R v κ'):=by
 intro C d;have g:W C κ d=W C κ1 d:=by unfold W;rw [e]
 rw [g];refine (h C d).mono ?_;rintro ex w' ⟨v,κ2,c,a,b,hs,i⟩;exact ⟨v,K.back κ κ2,c,a,by rw [b];unfold W K.back;rfl,zxJ e et hs,hR v κ2 hs i⟩
theorem zxk:∀ {l:List Int} {xs:List Value},Rep tI64 κ xs l→Rep tI64 κ' xs l
 | [],_,h=>h
 | _::_,_,⟨c,xs',e,ho,hr⟩=>⟨c,xs',e,ho,zxk hr⟩
theorem Gr.back {N i:Nat} {e:TypeId} {l:List Int} (h:Gr tI64 pub (N,i) κ' e a c l) (hN:κ.H.size≤N):Gr tI64 pub (N,i) (K.back κ κ') e a c l:=by
 refine ⟨h.most,?_⟩;rcases h.body with h1 | ⟨g,cur,xs,ha,hr,hH,h1,h2,h3,h4,h5,h6,h7⟩
 ·exact .inl h1
 ·refine .inr ⟨g,cur,xs,ha,?_,hH,h1,h2,h3,h4,?_,h6,h7⟩
  ·exact zxk hr
  ·have:¬g<κ.H.size:=by
    have:N≤g:=h7;omega
   simp [K.back,this,h5]
end
section
variable [Fc] [Fb] {P:Program} {n:Nat} {c:Code} {i:Nat} {Q:za6} {E:Env} {α:Type} {t:Ty α} {τ:Tag} {κ:K} {eo ei:TypeId} {a:Option Addr} {cp:Nat} {hm hs:List Hd} {L:List (List α)}
theorem zn8 {pub:Bool} (h:Mat t pub τ κ eo ei a cp hs hs L) (hk:∀ κ',Step (mblk a cp hs) κ κ'→Gr (tSl t) true τ κ' eo a cp L→cwp P n c Q E κ'):cwp P n c Q E κ:=by
 obtain ⟨κ',e,_,s,g⟩:=h.publish;exact zuw e (hk κ' s g)
theorem zyW {l:List Hd} {i:Nat} {h:Hd} (hi:l[i]?=some h):l.set i h=l:=by
 apply bl;intro j;rw [List.getElem?_set];split
 ·rename_i e;subst e;have:=(co.1 hi).1;rw [if_pos this,hi]
 ·rfl
theorem zqH {jx:Int} {ix:Nat} {x':α} {b δ:Nat} {T:TypeId} {vs:List Value} {ah:Option Addr} {ch:Nat} {l:List α} (v:Value) (h:st c i n E none=true)
  (ho:execOp (ev E) (zw c i)=uOf (Instr.storeAt T (.pointer (some ⟨b,0+jx.toNat*t.size+δ,none⟩)) v)) (ea:ah=some ⟨b,0,none⟩) (hM:Mat t false τ κ eo ei a cp hm hs L) (hi:hs[ix]?=some (ah,l.length,ch)) (hl:L[ix]?=some l)
  (h0:0≤jx) (h1:jx<(l.length:Int)) (hv:v.cells=vs.toArray) (hs':zM P T=some vs.length) (hone:zrX vs=true) (hδ:Nat.ble (δ+vs.length) t.size=true)
  (hnew:∀ cs,(∃ x,idx l jx=some x∧t.own κ cs x)→t.own κ (splice cs δ vs) x')
  (hk:∀ κ',Step (blk ah ch) κ κ'→Mat t false τ κ' eo ei a cp hm hs (L.set ix (l.set jx.toNat x'))→owp P n c (i+1) Q E κ'):owp P n c i Q E κ:=by
 have d:=(hM.rows ix _ l hi hl).2;refine zsG v h ho ea d h0 h1 hv hs' hone hδ hnew (fun κ' s g=>hk κ' s ?_);have:=hM.row hi s g (fun x e=>.inl e);rw [dz,zyW hi] at this;exact this
theorem zs7 {ix:Int} {b:Nat} {T:TypeId} {hd:Hd} (h:st c i n E none=true)
  (ho:execOp (ev E) (zw c i)=uOf (Instr.storeAt T (.pointer (some ⟨b,0+ix.toNat*1+0,none⟩)) (.slice hd.1 hd.2.1 hd.2.2))) (ea:a=some ⟨b,0,none⟩) (hM:Mat t false τ κ eo ei a cp hm (hm.set ix.toNat hd) L)
  (h0:0≤ix) (h1:ix<(hm.length:Int)) (hs':zM P T=some 1)
  (hk:∀ κ',Step (blk a cp) κ κ'→Mat t false τ κ' eo ei a cp (hm.set ix.toNat hd) (hm.set ix.toNat hd) L→owp P n c (i+1) Q E κ'):owp P n c i Q E κ:=by
 refine zsG (t:=tH) (x':=hd) (vs:=[.slice hd.1 hd.2.1 hd.2.2]) (δ:=0) _ h ho ea hM.out h0 h1 rfl hs' rfl rfl (fun cs e=>?_) (fun κ' s g=>hk κ' s (hM.outer s g (fun x e=>.inl e)));obtain ⟨x,_,d⟩:=e;have:cs=[.slice x.1 x.2.1 x.2.2]:=d;subst this;rfl
end
section
variable {α β:Type} {t:Ty α} {t':Ty β} {pub pub':Bool} {τ τ':Tag} {κ:K} {eo ei eo' ei' e:TypeId} {a a':Option Addr} {c c':Nat} {hm hs hm' hs':List Hd} {L:List (List α)} {L':List (List β)} {b:Nat} {cs:List Value} {T:TypeId}
theorem Mat.nil:Mat t pub τ κ eo ei none 0 [] [] ([]:List (List α)):=⟨Gr.nil,rfl,fun i h l hi=>by simp at hi,by simp [mblk,blk]⟩
theorem Mat.own {κ0:K} (h:Mat t pub τ κ eo ei a c hm hs L) (h0:κ0.H.size≤τ.1):∀ b∈mblk a c hs,κ0.H.size≤b:=fun b d=>gc h0 (h.lt b d).2.2
theorem Mat.nbo (h:Mat t pub τ κ eo ei a c hm hs L) (h':Own τ' κ b) (hn:τ≠τ'):∀ g∈mblk a c hs,g∉[b]:=fun g d e=>by
 have f:g=b:=by simpa using e
 subst f;exact hn ((h.lt g d).2.1.symm.trans h'.tag)
theorem Mat.bno (h:Mat t pub τ κ eo ei a c hm hs L) (h':Own τ' κ b) (hn:τ'≠τ):b∉mblk a c hs:=fun d=>hn (h'.tag.symm.trans (h.lt b d).2.1)
theorem Mat.nb (h:Mat t pub τ κ eo ei a c hm hs L) (h':Box τ' κ b cs T) (hn:τ≠τ'):∀ g∈mblk a c hs,g∉[b]:=h.nbo h'.o hn
theorem Mat.bn (h:Mat t pub τ κ eo ei a c hm hs L) (h':Box τ' κ b cs T) (hn:τ'≠τ):b∉mblk a c hs:=h.bno h'.o hn
theorem Mat.ng {l':List β} (h:Mat t pub τ κ eo ei a c hm hs L) (h':Gr t' pub' τ' κ e a' c' l') (hn:τ≠τ'):∀ g∈mblk a c hs,g∉blk a' c':=fun g b d=>hn ((h.lt g b).2.1.symm.trans (h'.lt g d).2.1)
theorem Mat.ngm (h:Mat t pub τ κ eo ei a c hm hs L) (h':Mat t' pub' τ' κ eo' ei' a' c' hm' hs' L') (hn:τ≠τ'):∀ g∈mblk a c hs,g∉mblk a' c' hs':=fun g b d=>hn ((h.lt g b).2.1.symm.trans (h'.lt g d).2.1)
theorem Gr.ngm {l:List α} (h:Gr t pub τ κ e a c l) (h':Mat t' pub' τ' κ eo' ei' a' c' hm' hs' L') (hn:τ≠τ'):∀ g∈blk a c,g∉mblk a' c' hs':=fun g b d=>hn ((h.lt g b).2.1.symm.trans (h'.lt g d).2.1)
theorem znM {r:List (List α)} (h:some L=some r) (hM:Mat t pub τ κ eo ei a c hm hs L):Mat t pub τ κ eo ei a c hm hs r:=by injection h with h;rw [←h];exact hM
theorem zu7 {l:List α} {ix:Int} {x:α} (h:idx l ix=some x):l[ix.toNat]?=some x:=(zhB h).2.2
theorem zg4 {i:Nat} {hd:Hd} (hi:hs[i]?=some hd):∀ x∈blk hd.1 hd.2.2,x∈mblk a c hs:=fun x b=>zoO.2 (.inr ⟨i,hd,hi,b⟩)
theorem zgU:∀ x∈blk a c,x∈mblk a c hs:=fun x b=>zoO.2 (.inl b)
end
section
variable {α:Type} {t:Ty α} {pub:Bool} {τ:Tag} {κ:K} {eo ei:TypeId} {a:Option Addr} {c:Nat} {hm hs:List Hd} {L:List (List α)} {i:Nat} {hd:Hd}
theorem Mat.len0 (h:Mat t pub τ κ eo ei a c hm (hm.set i hd) L):hm.length=(L.length):=by rw [←h.len,dz]
theorem Mat.snocN (h:Mat t pub τ κ eo ei a c hm hs L):Mat t pub τ κ eo ei a c hm (hs++[(none,0,0)]) (L++[[]]):=by
 refine ⟨h.out,by rw [dl,dl,h.len];rfl,fun i hd l1 hi b=>?_,?_⟩
 ·by_cases e:i<hs.length
  ·rw [cg e] at hi;rw [cg (by rw [←h.len];exact e)] at b;exact h.rows i hd l1 hi b
  ·rw [ci (by omega)] at hi;rw [ci (by rw [←h.len];omega)] at b;have f:i - hs.length=0:=by
    have:=(co.1 hi).1;simp at this;omega
   rw [f] at hi;rw [←h.len,f] at b;simp at hi b;subst hi;subst b;exact ⟨rfl,Gr.nil⟩
 ·have d:=h.nd;unfold mblk at d ⊢;rw [bz,←be];simpa [zoJ,blk] using d
theorem zxa {by_:Nat} {H H2:List Hd} {L2 r:List (List α)} (h:app by_ L L2=some r) (e1:H.length=L.length) (e2:H2.length=L2.length):app by_ H H2=some (H++H2)∧r=L++L2∧(H++H2).length=r.length:=by
 obtain ⟨b,c,a⟩:=zmd h;refine ⟨?_,a,by rw [a,dl,dl,e1,e2]⟩;unfold app;rw [e1,e2,if_pos ⟨b,c⟩]
end
section
variable [Fc] [Fb] {P:Program} {n:Nat} {c:Code} {i k:Nat} {nq:List Nat} {q0:Nat} {M:List Nat} {π:List Nat} {Q:za6} {E:Env} {κ:K}
variable {α:Type} {t:Ty α} {pub:Bool} {τ:Tag} {e T:TypeId} {a a2:Option Addr} {cp c2:Nat} {l l2 r:List α}
theorem zy9 {κ':K} (hq:Nat.beq i q0=true) (hsub:∀ x∈blk a cp,x∈M) (h:Step (blk a cp) κ κ'):zqD q0 M i κ κ':=by
 unfold zqD;rw [hq];exact h.mono hsub
theorem zrY {d bytes:Nat} (h:xsN c nq i E d=true) (ho:execOp (ev E) (zw c i)=vOf (Builtin.append_ #[T,T] 0 #[.slice a l.length cp,.slice a2 l2.length c2]))
  (hg:Gr t pub τ κ e a cp l) (h2:Sl t κ a2 c2 l2) (hτ:τ.1≤κ.H.size) (hT:zjq P T=some (e,t.size,t.size,bytes)) (hx:app bytes l l2=some r) (hq:Nat.beq i q0=true) (hsub:∀ x∈blk a cp,x∈M)
  (hk:∀ a' c' κ',Step (blk a cp) κ κ'→Gr t pub τ κ' e a' c' r→(∀ g∈blk a' c',g∈blk a cp∨κ.H.size≤g)→xwp P n c k nq q0 M π Q (upd E d (.slice a' r.length c')) κ'):xwp P n c k nq q0 M (i::π) Q E κ:=by
 obtain ⟨s,w,m,u⟩:=zin hT;obtain ⟨y,hm,rfl⟩:=zmd hx;refine zqf (fun v κ'=>∃ a' c',v=.slice a' (l++l2).length c'∧Step (blk a cp) κ κ'∧Gr t pub τ κ' e a' c' (l++l2)∧∀ g∈blk a' c',g∈blk a cp∨κ.H.size≤g) h (fun v κ' ⟨_,_,_,hs,_⟩=>zy9 hq hsub hs) (fun C j=>?_) ?_
 ·obtain ⟨a',c',κ',p,q,hs,b,f⟩:=zpR (P:=P) (T:=T) (ty:=0) hg h2 hτ s w m u y hm C j;exact ⟨_,κ',p,by rw [ho];exact zG q,a',c',rfl,hs,b,f⟩
 ·rintro v κ' ⟨a',c',rfl,hs,b,f⟩;exact hk a' c' κ' hs b f
end
theorem zBF {α:Type} {by_:Nat} {n:Int} {r:List (List α)} (h:mkl by_ n ([]:List α)=some r) :
  mkl by_ n ((none,0,0):Hd)=some (List.replicate n.toNat (none,0,0))∧r=List.replicate n.toNat []∧(List.replicate n.toNat ((none,0,0):Hd)).length=r.length:=by
 obtain ⟨b,c,d,a⟩:=zv4 h;refine ⟨?_,a,by rw [a];simp⟩;unfold mkl;rw [if_pos ⟨b,c,d⟩]
section
variable [Fc] [Fb] {P:Program} {n:Nat} {c:Code} {i k:Nat} {nq:List Nat} {q0:Nat} {M:List Nat} {π:List Nat} {Q:za6} {E:Env} {κ:K}
variable {α:Type} {t:Ty α} {pub:Bool} {τ:Tag} {e T:TypeId} {a a2:Option Addr} {cp c2:Nat} {l l2 r:List α}
theorem zrZ {d bytes:Nat} (ln rn:Nat) (hln:l.length=ln) (hrn:r.length=rn) (h:xsN c nq i E d=true) (ho:execOp (ev E) (zw c i)=vOf (Builtin.append_ #[T,T] 0 #[.slice a ln cp,.slice a2 l2.length c2]))
  (hg:Gr t pub τ κ e a cp l) (h2:Sl t κ a2 c2 l2) (hτ:τ.1≤κ.H.size) (hT:zjq P T=some (e,t.size,t.size,bytes)) (hx:app bytes l l2=some r) (hrel:zqD q0 M i=Step (blk a cp))
  (hk:∀ a' c' κ',Step (blk a cp) κ κ'→Gr t pub τ κ' e a' c' r→(∀ g∈blk a' c',g∈blk a cp∨κ.H.size≤g)→xwp P n c k nq q0 M π Q (upd E d (.slice a' rn c')) κ'):xwp P n c k nq q0 M (i::π) Q E κ:=by
 subst hln;subst hrn;exact zwy h ho hg h2 hτ hT hx hrel hk
theorem zvV {d bytes:Nat} (ln rn:Nat) (hln:l.length=ln) (hrn:r.length=rn) (h:st c i n E (some d)=true) (ho:execOp (ev E) (zw c i)=vOf (Builtin.append_ #[T,T] 0 #[.slice a ln cp,.slice a2 l2.length c2]))
  (hg:Gr t pub τ κ e a cp l) (h2:Sl t κ a2 c2 l2) (hτ:τ.1≤κ.H.size) (hT:zjq P T=some (e,t.size,t.size,bytes)) (hx:app bytes l l2=some r)
  (hk:∀ a' c' κ',Step (blk a cp) κ κ'→Gr t pub τ κ' e a' c' r→(∀ g∈blk a' c',g∈blk a cp∨κ.H.size≤g)→owp P n c (i+1) Q (upd E d (.slice a' rn c')) κ'):owp P n c i Q E κ:=by
 subst hln;subst hrn;exact zlO h ho hg h2 hτ hT hx hk
end
end Go.Lf
namespace Go.Lf
open Go Go.Conc
def mkc (bytes:Nat) (n:Int):Option (List Int):=if 0≤n∧n≤9223372036854775807∧(bytes:Int)*n≤281474976710544 then some [] else none
def zsa (cap:Nat) (l:List Int) (x:Int):Option (List Int):=if l.length<cap then some (l++[x]) else none
def zxz:List Int→Option (Int×List Int)
 | x::l=>if -9223372036854775808≤x∧x≤9223372036854775807 then some (x,l) else none
 | []=>none
def zyw (l:List Int):Option Int:=if l.length≤9223372036854775807 then some (l.length:Int) else none
theorem zzr {bytes:Nat} {n:Int} {l:List Int} (h:mkc bytes n=some l):0≤n∧n≤9223372036854775807∧(bytes:Int)*n≤281474976710544∧l=[]:=by
 unfold mkc at h;split at h
 ·rename_i h0;exact ⟨h0.1,h0.2.1,h0.2.2,(Option.some.inj h).symm⟩
 ·cases h
theorem ztB {cap:Nat} {l r:List Int} {x:Int} (h:zsa cap l x=some r):l.length<cap∧l++[x]=r:=by
 unfold zsa at h;split at h
 ·rename_i h0;exact ⟨h0,Option.some.inj h⟩
 ·cases h
theorem zw3 {l:List Int} {r:Int×List Int} (h:zxz l=some r):l=r.1::r.2∧I64 r.1:=by
 cases l with
 | nil=>cases h
 | cons x l=>
  simp only [zxz] at h;by_cases a : -9223372036854775808≤x∧x≤9223372036854775807
  ·rw [if_pos a] at h;have:=Option.some.inj h;subst this;exact ⟨rfl,a⟩
  ·rw [if_neg a] at h;cases h
theorem zyv {l:List Int} {r:Int} (h:zyw l=some r):(l.length:Int)=r∧I64 r:=by
 unfold zyw at h;split at h
 ·rename_i h0;have:=Option.some.inj h;subst this;exact ⟨rfl,by unfold I64;omega⟩
 ·cases h
section
variable [Fc] [Fb] {P:Program} {n:Nat} {c:Code} {i:Nat} {Q:za6} {E:Env} {κ:K} {τ:Tag} {b cap:Nat} {l:List Int}
theorem Chn.o (h:Chn τ κ b cap l):Own τ κ b:=⟨h.lt,h.fr,h.tag,h.ge⟩
def zvh (P:Program) (T:TypeId):Option Nat:=
 match P.underlying T with
 | some (.chan _ e)=>(P.info? e).map (·.bytes)
 | _=>none
theorem zCj {d T:Nat} {bytes:Nat} {k:IntKind} {m:Int} (τ:Tag) (hτ:τ.1≤κ.H.size) (hx:mkc bytes m=some l) (hk:∀ b κ',Step [] κ κ'→Chn τ κ' b m.toNat l→owp P n c (i+1) Q (upd E d (.chan (some b))) κ')
  (hT:zvh P T=some bytes:=by kernel_rfl) (h:st c i n E (some d)=true:=by kernel_rfl) (ho:execOp (ev E) (zw c i)=vOf (Instr.makeChan T (.int k m)):=by kernel_rfl):owp P n c i Q E κ:=by
 obtain ⟨g,s,p,rfl⟩:=zzr hx;unfold zvh at hT;split at hT
 ·rename_i dir e hd;obtain ⟨q,hi,r⟩:=gu.1 hT;refine zgT (fun v κ'=>∃ b,v=.chan (some b)∧Step [] κ κ'∧Chn τ κ' b m.toNat []) h (fun C a=>?_) ?_
  ·have f:=run_makeChan (w:=W C κ a) hd hi k m.toNat (by omega) (by rw [r];have:((m.toNat:Nat):Int)=m:=bb g;rw [this];exact p);have j:((m.toNat:Nat):Int)=m:=bb g;rw [j] at f;refine ⟨_,κ.push (.chan m.toNat #[] false 0 0 false) 0 τ,a,by rw [ho];exact zG f,κ.H.size,rfl,zcM _ _ _ _,⟨⟨0,0,by simp [K.push]⟩,by simp [K.push],by simp [K.push],hτ⟩⟩
  ·rintro v κ' ⟨b,rfl,hs,hm⟩;exact hk b κ' hs hm
 ·cases hT
theorem zB4 {d T:Nat} {r:Int} (h0:Chn τ κ b cap l) (hx:zyw l=some r) (hk:owp P n c (i+1) Q (upd E d (.int .i64 r)) κ)
  (h:st c i n E (some d)=true:=by kernel_rfl) (ho:execOp (ev E) (zw c i)=vOf (Builtin.len_ #[T] 0 #[.chan (some b)]):=by kernel_rfl)
  (hT:(zvh P T).isSome=true:=by kernel_rfl):owp P n c i Q E κ:=by
 obtain ⟨g,_⟩:=zyv hx;subst g;obtain ⟨s,r,a⟩:=h0.obj;unfold zvh at hT;split at hT
 ·rename_i dir e hd;refine zhJ _ h (fun C f=>?_) hk;rw [ho];refine zG ?_;rw [run_len_chan T 0 hd (show (W C κ f).heap[b]?=_ from a)];simp [goInt]
 ·cases hT
end
def ne {α:Type} (l:List α):Option (List α):=
 match l with
 | []=>none
 | x::l=>some (x::l)
theorem zAr {α:Type} {l r:List α} (h:ne l=some r):l=r∧r≠[]:=by
 cases l with
 | nil=>cases h
 | cons x l=>
  have:=Option.some.inj h;subst this;exact ⟨rfl,by simp⟩
section
variable {P:Program} {E:Env} {c:Code} {i:Nat} {κ:K} {α:Type} {t:Ty α} {pub:Bool} {τ:Tag} {e T:TypeId} {a:Option Addr} {cp:Nat} {l:List α} {w:World} [DecidableEq α]
theorem zxS (hg:Gr t pub τ κ e a cp l) (hn:l=[]→a=none)
  (h:execOp (ev E) (zw c i)=vOf (do eqGuard .eql T (.tmp 0) (.const (.slice none 0 0)) (.slice a l.length cp) (.slice none 0 0);binOp .eql T (.slice a l.length cp) (.slice none 0 0)))
  (hT:zJ P T=some e):(execOp (ev E) (zw c i)).run P w=.ok (.value (.bool (decide (l=[])))) w:=by
 rw [h];refine zG ?_;have m:(eqGuard .eql T (.tmp 0) (.const (.slice none 0 0)) (.slice a l.length cp) (.slice none 0 0)).run P w=.ok () w:=by simp [eqGuard]
 rw [aw,m];simp only [av];have hd:=zgl hT;have k:a.isNone=decide (l=[]):=by
  by_cases b:l=[]
  ·rw [hn b];simp [b]
  ·rcases hg.body with ⟨_,j⟩ | ⟨g,cur,xs,ha,_⟩
   ·exact absurd j b
   ·rw [ha];simp [b]
 rw [←k];have f:(Op.equal T (.slice a l.length cp) (.slice none 0 0)).run P w=.ok a.isNone w:=by
  show (Op.equalIn (9999+1) T (.slice a l.length cp) (.slice none 0 0)).run P w=_;exact Go.Lib.run_equalIn_slice_nil w 9999 T e a _ _ _ _ hd
 have d:binOp .eql T (.slice a l.length cp) (.slice none 0 0)=(do pure (.bool (←Op.equal T (.slice a l.length cp) (.slice none 0 0)))):=rfl;rw [d,aw,f];rfl
end
end Go.Lf
namespace Go.Lf
open Go Go.Sort
section
variable {P:Program} {f:FuncId} {args:Array Value} {κ:K} {τ:Tag} {e:TypeId} {a:Option Addr} {c:Nat} {l:List Int}
theorem zrz:∀ {l:List Int} {xs:List Value},Rep tI64 κ xs l→xs=l.map (Value.int .i64)∧∀ x∈l,I64 x
 | [],xs,h=>⟨h,fun x f=>by cases f⟩
 | x::l,xs,⟨c,xs',e,ho,hr⟩=>by
  obtain ⟨b,d⟩:=zrz hr;have:c=[.int .i64 x]:=ho.1;subst this;refine ⟨by rw [e,b];rfl,fun y a=>?_⟩;rcases eu.1 a with rfl | a
  ·exact ho.2
  ·exact d y a
theorem zy8:∀ {l:List Int},(∀ x∈l,I64 x)→Rep tI64 κ (l.map (Value.int .i64)) l
 | [],_=>rfl
 | x::l,h=>⟨[.int .i64 x],l.map (Value.int .i64),rfl,⟨rfl,h x (by simp)⟩,zy8 (fun y a=>h y (by simp [a]))⟩
theorem Fn.row_int {r:List Int} (hg:Gr tI64 false τ κ e a c l) (hlen:r.length=l.length) (hr:∀ x∈r,I64 x)
  (hc:∀ (w:World) (g:Nat),a=some ⟨g,0,none⟩→Holds (Value.int .i64) w g 0 l.toArray→Calls P f args w fun ex w'=>ex=.returned (.tuple #[])∧∃ n,w'=putRow (Value.int .i64) (Sort.ahead w n) g 0 r.toArray)
  (h0:l=[]→∀ w,Calls P f args w fun ex w'=>ex=.returned (.tuple #[])∧w'=w) :
  Fn P f args κ (fun v κ'=>Step (blk a c) κ κ'∧v=.tuple #[]∧Gr tI64 false τ κ' e a c r∧r.length=l.length):=by
 by_cases z:l=[]
 ·intro C d;refine (h0 z (W C κ d)).mono ?_;rintro ex w' ⟨t,A⟩;have:r=l:=by subst z;exact bj (by simpa using hlen)
  exact ⟨_,κ,d,t,A,Step.refl _ _,rfl,by rw [this];exact hg,hlen⟩
 ·rcases hg.body with ⟨_,t⟩ | ⟨g,cur,xs,ha,hrp,hH,t,A,h3,h4,h5,h6,h7⟩
  ·exact absurd t z
  ·have J:0<l.length:=List.length_pos_iff.2 z;obtain ⟨F,H⟩:=zrz hrp;have hsz:tI64.size=1:=rfl;rw [hsz,Nat.mul_one] at h3 h4;have p:Box τ κ g cur.toList e:=⟨by simpa using hH,by rw [h5];simp,h6,h7⟩;intro C d;have i:∀ j (m:j<l.length),cur[j]?=some (Value.int .i64 l[j]):=fun j m=>by
    have y:(cur.toList.take l.length)[j]?=(l.map (Value.int .i64))[j]?:=by rw [h4,F]
    rw [dh,if_pos m,cq,cm m] at y;simpa using y
   have B:Holds (Value.int .i64) (W C κ d) g 0 l.toArray:=fun j m=>by
    have h:j<l.length:=by simpa using m
    refine ⟨?_,?_⟩
    ·rw [zjT];unfold K.cell;rw [hH];simp only [gm];rw [i j h];simp [h]
    ·unfold World.frozen? W;simp [hH]
   refine (hc (W C κ d) g ha B).mono ?_;rintro ex w' ⟨G,n,L⟩;refine ⟨_,κ.setB g (splice cur.toList 0 (r.map (Value.int .i64))) e,d+n,G,?_,?_,rfl,?_,hlen⟩
   ·rw [L];have q:κ.H.modify g (onCells (putCells (Value.int .i64) 0 r.toArray))=(κ.setB g (splice cur.toList 0 (r.map (Value.int .i64))) e).H:=by
     have s:g<κ.H.size:=(ae.1 hH).1;apply Array.ext_getElem?;intro k;rw [af];by_cases E:g=k
     ·subst E;rw [if_pos rfl,hH];simp only [K.setB,Option.map_some,onCells];rw [ai s];congr 2;apply Array.ext_getElem?;intro j;have D:(r.map (Value.int .i64)).length=l.length:=by rw [dv];exact hlen
      have u:cur.toList.length=c:=by simpa using h3
      unfold putCells;rw [Array.getElem?_mapIdx];have M:(splice cur.toList 0 (List.map (Value.int IntKind.i64) r)).toArray[j]?=(splice cur.toList 0 (List.map (Value.int IntKind.i64) r))[j]?:=by simp
      rw [M,zhV _ _ _ _ (by omega)];by_cases m:j<l.length
      ·rw [if_pos (by omega),i j m];have h:j<r.length:=by omega
       simp [h,getElem!_pos,cm h]
      ·rw [if_neg (by omega)];have h:¬j<r.length:=by omega
       cases hcj:cur[j]? with
       | none=>simp [hcj]
       | some v=>simp [hcj,h]
     ·rw [if_neg E];simp only [K.setB];rw [ag E]
    unfold putRow mapBlock Sort.ahead W;simp only [];rw [q,Nat.add_assoc]
   ·exact (zlm p).mono (fun b I=>by rw [fg.1 I,ha];exact zmb (a:=⟨g,0,none⟩) (by omega))
   ·have D:(r.map (Value.int .i64)).length=l.length:=by rw [dv];exact hlen
    have u:cur.toList.length=c:=by simpa using h3
    refine ⟨by rw [hlen];exact hg.most,.inr ⟨g,_,r.map (Value.int .i64),ha,zy8 hr,(zma p).obj,by rw [hlen];exact t,A,by rw [hsz,fp,zfA,u];omega,?_,by simp [K.setB,h5],h6,h7⟩⟩;rw [hsz,Nat.mul_one,hlen];apply bl;intro j;rw [dh];by_cases m:j<l.length
    ·rw [if_pos m,List.toList_toArray,zhV _ _ _ _ (by omega),if_pos (by omega)];simp
    ·rw [if_neg m,cn (by omega)]
end
end Go.Lf
namespace Go.Lf
open Go
section
variable {P:Program} {α:Type} {t:Ty α} {κ:K} {e T:TypeId} {a:Option Addr} {cp:Nat} {l m:List α} {τ:Tag}
theorem Rep.drop:∀ {l:List α} {xs:List Value} (i:Nat),Rep t κ xs l→Rep t κ (xs.drop (i*t.size)) (l.drop i)
 | l,xs,0,h=>by simpa using h
 | [],xs,i+1,h=>by
  have:xs=[]:=h;subst this;simp [Rep]
 | x::l,xs,i+1,⟨c,xs',e,ho,hr⟩=>by
  subst e;rw [List.drop_succ_cons];have a:=t.len ho;have:(c++xs').drop ((i+1)*t.size)=xs'.drop (i*t.size):=by
   rw [List.drop_append,List.drop_of_length_le (by rw [a,fv];omega),fh];congr 1;rw [a,fv];omega
  rw [this];exact hr.drop i
theorem Gr.splice {g:Nat} {cur:List Value} {vs:List Value} {lo:Nat} (hg:Gr t false τ κ e a cp l) (ha:a=some ⟨g,0,none⟩) (hb:Box τ κ g cur e) (hl0:0<l.length) (hm:Rep t κ vs m) (hlo:lo+m.length≤l.length) (hm0:0<m.length) :
  lo*t.size+vs.length≤cur.length∧Step (blk a cp) κ (κ.setB g (splice cur (lo*t.size) vs) e)∧Gr t false τ (κ.setB g (splice cur (lo*t.size) vs) e) e a cp (l.take lo++m++l.drop (lo+m.length)):=by
 rcases hg.body with ⟨_,w⟩ | ⟨g',cur',xs,ha',hr,hH,h2,h3,h4,h5,h6,h7,h8⟩
 ·rw [w] at hl0;simp at hl0
 ·rw [ha] at ha';obtain rfl:g=g':=by injection ha' with ha';injection ha'
  have n:cur=cur'.toList:=by
   have:=hb.obj;rw [hH] at this;injection this with this
   injection this with this
   rw [this]
  subst n;have c:=hm.length;have i:cur'.toList.length=cp*t.size:=by simpa using h4
  have r:lo*t.size+m.length*t.size=(lo+m.length)*t.size:=by rw [fv]
  have s:(lo+m.length)*t.size≤l.length*t.size:=gk _ hlo;have v:l.length*t.size≤cp*t.size:=gk _ h2;have b:Step [g] κ (κ.setB g (Lf.splice cur'.toList (lo*t.size) vs) e):=zlm hb;have hlen:(l.take lo++m++l.drop (lo+m.length)).length=l.length:=by
   rw [dl,dl,ed,dt];omega
  have f:Rep t (κ.setB g (Lf.splice cur'.toList (lo*t.size) vs) e) (xs.take (lo*t.size)++vs++xs.drop ((lo+m.length)*t.size)) (l.take lo++m++l.drop (lo+m.length)):=
   (((hr.take lo).step b).append (hm.step b)).append ((hr.drop _).step b)
  refine ⟨by rw [c,i];omega,b.mono (fun x y=>by rw [fg.1 y,ha];exact zmb (a:=⟨g,0,none⟩) (by omega)),by rw [hlen];exact hg.most,.inr ⟨g,_,_,ha,f,(zma hb).obj,by rw [hlen];exact h2,h3,by rw [fp,zfA,i],?_,h6,h7,h8⟩⟩;rw [hlen];have p:=hr.length;have d:(xs.take (lo*t.size)).length=lo*t.size:=by rw [ed,p];omega
  apply bl;intro j;rw [dh];by_cases k:j<l.length*t.size
  ·rw [if_pos k,List.toList_toArray,zhV _ _ _ _ (by rw [c,i];omega),c];have h:∀ j,j<l.length*t.size→cur'.toList[j]?=xs[j]?:=fun j k=>by rw [←h5,dh,if_pos k]
   by_cases q:j<lo*t.size
   ·rw [if_neg (by omega),h j k,be,cg (by rw [d];exact q),dh,if_pos q]
   ·by_cases u:j<lo*t.size+m.length*t.size
    ·rw [if_pos (by omega),be,ci (by rw [d];omega),d,cg (by rw [c];omega)]
    ·rw [if_neg (by omega),h j k,ci (by rw [dl,d,c];omega),dl,d,c,cj];congr 1;omega
  ·rw [if_neg k,cn];rw [f.length,hlen];omega
end
section
variable {P:Program} {α:Type} {t:Ty α} {κ:K} {e T T2:TypeId} {a a2:Option Addr} {cp c2:Nat} {l l2:List α} {τ:Tag}
def cpy {α:Type} (l:List α) (lo:Nat) (l2:List α):List α:=l.take lo++l2.take (l.length - lo)++l.drop (lo+(l2.take (l.length - lo)).length)
theorem zvg {l l2:List α} {lo:Nat} (h:lo≤l.length):(cpy l lo l2).length=l.length:=by
 unfold cpy;rw [dl,dl,ed,dt,ed];omega
theorem zrv {g lo dcap:Nat} {ty:TypeId} (hT:zJ P T=some e) (hs:zM P e=some t.size) (hg:Gr t false τ κ e a cp l) (ha:0<l.length→a=some ⟨g,0,none⟩) (hlo:lo≤l.length)
  (src:Value) (ys:List Value) (hys:Rep t κ ys l2) {da:Option Addr} (hda:lo<l.length→da=some ⟨g,lo*t.size,none⟩) [Fb] (C:Cx) (d:Nat)
  (hlen:∀ w,(Builtin.lenOf src).run P w=.ok l2.length w)
  (hfirst:∀ n,n≤l2.length→(Builtin.firstCells t.size n src).run P (W C κ d)=.ok (ys.take (n*t.size)).toArray (W C κ d)) :
  ∃ κ',(Builtin.copy_ #[T,T2] ty #[.slice da (l.length - lo) dcap,src]).run P (W C κ d)=.ok (.int .i64 (min l2.length (l.length - lo):Nat)) (W C κ' d)∧Step (blk a cp) κ κ'∧Gr t false τ κ' e a cp (cpy l lo l2):=by
 have i:=zgl hT;have B:Nat.min l2.length (l.length - lo)≤l2.length:=Nat.min_le_left _ _;by_cases r:Nat.min l2.length (l.length - lo)=0
 ·refine ⟨κ,?_,Step.refl _ _,?_⟩
  ·have q:=hfirst 0 (by omega);cases hd:da with
   | none=>simp [Builtin.copy_,zF i,hlen,zaX hs,r,q,goInt]
   | some x=>simp [Builtin.copy_,zF i,hlen,zaX hs,r,q,storeCells,goInt]
  ·have:cpy l lo l2=l:=by
    unfold cpy;have z:l2.take (l.length - lo)=[]:=by
     rcases Nat.eq_zero_or_pos l2.length with h | h
     ·rw [bj h];simp
     ·have:l.length - lo=0:=by
       have:=r;simp only [Nat.min_def] at this;split at this<;>omega
      rw [this];simp
    rw [z];simp
   rw [this];exact hg
 ·have f:Nat.min l2.length (l.length - lo)=min l2.length (l.length - lo):=rfl;have b:0<l2.length∧lo<l.length:=by
   rw [f] at r;omega
  have p:=ha (by omega);have m:=hda b.2;rcases hg.body with ⟨_,y⟩ | ⟨g',cur,xs,hga,hr,hH,h2,h3,h4,h5,h6,h7,h8⟩
  ·rw [y] at b;simp at b
  ·have:g=g':=by rw [p] at hga;injection hga with hga;injection hga
   subst this;have c:Box τ κ g cur.toList e:=⟨by simpa using hH,by rw [h6];simp,h7,h8⟩;have hm:=hys.take (min l2.length (l.length - lo));have k:(l2.take (min l2.length (l.length - lo))).length=min l2.length (l.length - lo):=by rw [ed];omega
   obtain ⟨v,A,u⟩:=hg.splice p c (by omega) hm (lo:=lo) (by rw [k];omega) (by rw [k];omega);have s:l.take lo++l2.take (min l2.length (l.length - lo))++l.drop (lo+(l2.take (min l2.length (l.length - lo))).length)=cpy l lo l2:=by
    unfold cpy;have:l2.take (min l2.length (l.length - lo))=l2.take (l.length - lo):=by
     rcases Nat.le_total l2.length (l.length - lo) with h | h
     ·rw [Nat.min_eq_left h,fu (ga _),fu h]
     ·rw [Nat.min_eq_right h]
    rw [this]
   rw [s] at u;refine ⟨_,?_,A,u⟩;have q:=hfirst (min l2.length (l.length - lo)) (Nat.min_le_left _ _);have j:=zlL (P:=P) (C:=C) (d:=d) (off:=lo*t.size) (ys.take (min l2.length (l.length - lo)*t.size)) 0 κ cur.toList c hm.one (by simpa using v);rw [Nat.add_zero] at j;rw [m];simp [Builtin.copy_,zF i,hlen,zaX hs,f,q,j,goInt]
end
structure Rec (N i:Nat) (κ:K) (b:Nat) (ob:Obj):Prop where
 o:Own (N,i) κ b
 obj:κ.H[b]?=some ob
theorem Rec.step {M:List Nat} {N i b:Nat} {κ κ':K} {ob:Obj} (s:Step M κ κ') (hm:b∉M) (h:Rec N i κ b ob):Rec N i κ' b ob:=by
 have hs:=s.2.1 b h.o.lt hm;exact ⟨⟨gg h.o.lt s.1,hs.2.1.trans h.o.fr,hs.2.2.trans h.o.tag,h.o.ge⟩,hs.1.trans h.obj⟩
theorem Rec.step0 {N i b:Nat} {κ κ':K} {ob:Obj} (s:Step [] κ κ') (h:Rec N i κ b ob):Rec N i κ' b ob:=h.step s (by simp)
theorem Rec.ge {N i b:Nat} {κ:K} {ob:Obj} (h:Rec N i κ b ob):N≤b:=h.o.ge
theorem zqE {N i b:Nat} {κ:K} {ob:Obj} (h:Rec N i κ b ob) (ob':Obj):Step [b] κ (κ.setO b ob')∧Rec N i (κ.setO b ob') b ob':=
 ⟨zll h.o.fr,⟨⟨by simp [K.setO];exact h.o.lt,h.o.fr,h.o.tag,h.o.ge⟩,by simp [K.setO,h.o.lt]⟩⟩
theorem zww [Fb] (C:Cx) (κ:K) (d b:Nat) (o:Obj):(W C κ d).putObj b o=W C (κ.setO b o) d:=rfl
def tsF (F:Nat) (τ:Tag):Bool:=Nat.beq τ.2 999||Nat.beq (τ.2 / 1000) F
def nI (F:Nat) (τ:Tag):Bool:=!(Nat.beq τ.2 998)&&!(tsF F τ)
def tb (F:Nat) (κ:K):List Nat:=(List.range κ.H.size).filter fun b=>tsF F (κ.tag b)
theorem zth {F:Nat} {κ:K} {b:Nat}:b∈tb F κ↔b<κ.H.size∧tsF F (κ.tag b)=true:=by
 unfold tb;rw [ey,fe]
theorem zA0 {F:Nat} {τ:Tag} (h:nI F τ=true):tsF F τ=false:=by
 unfold nI at h;simp only [an,aq] at h;exact h.2
theorem zB6 {F:Nat} {τ:Tag} (h:nI F τ=true):τ.2≠998:=by
 unfold nI at h;simp only [an,aq] at h;intro e;rw [e] at h;simp at h
theorem zB5 {F:Nat} {τ:Tag} (h:nI F τ=true):τ.2≠999:=by
 have:=zA0 h;unfold tsF at this;simp only [Bool.or_eq_false_iff] at this;intro e;rw [e] at this;simp at this
section
variable {F:Nat} {κr κ κ1 κ2:K} {M:List Nat} {τ:Tag}
theorem Step.trY (h:Step (tb F κr) κr κ1) (hb:∀ b∈M,tsF F (κ1.tag b)=true) (s:Step M κ1 κ2):Step (tb F κr) κr κ2:=
 h.trM (fun b hm=>by
  by_cases a:b<κr.H.size
  ·by_cases c:b∈tb F κr
   ·exact .inl c
   ·have:=h.2.1 b a c;have d:=hb b hm;rw [this.2.2] at d;exact .inl (zth.2 ⟨a,d⟩)
  ·exact .inr (Nat.le_of_not_lt a)) s
theorem Step.trT (h:Step M κ κ1) (hM:∀ b∈tb F κ,b∈M) (s:Step (tb F κ1) κ1 κ2):Step M κ κ2:=
 h.trM (fun b hm=>by
  by_cases a:b<κ.H.size
  ·by_cases c:b∈M
   ·exact .inl c
   ·have e:=h.2.1 b a c;have d:=(zth.1 hm).2;rw [e.2.2] at d;exact .inl (hM b (zth.2 ⟨a,d⟩))
  ·exact .inr (Nat.le_of_not_lt a)) s
theorem Own.tb1 {b:Nat} (h:Own τ κ b) (ht:tsF F τ=true):∀ x∈[b],tsF F (κ.tag x)=true:=fun x a=>by
 rw [fg.1 a,h.tag];exact ht
theorem Own.ntb {b:Nat} (h:Own τ κ b) (ht:tsF F τ=false):b∉tb F κ:=fun a=>by
 have:=(zth.1 a).2;rw [h.tag,ht] at this;cases this
theorem Box.ntb {b:Nat} {cs:List Value} {T:TypeId} (h:Box τ κ b cs T) (ht:tsF F τ=false):b∉tb F κ:=h.o.ntb ht
theorem Gr.tb1 {α:Type} {t:Ty α} {pub:Bool} {e:TypeId} {a:Option Addr} {c:Nat} {l:List α} (h:Gr t pub τ κ e a c l) (ht:tsF F τ=true):∀ x∈blk a c,tsF F (κ.tag x)=true:=fun x b=>by
 rw [(h.lt x b).2.1];exact ht
theorem Gr.ntb {α:Type} {t:Ty α} {pub:Bool} {e:TypeId} {a:Option Addr} {c:Nat} {l:List α} (h:Gr t pub τ κ e a c l) (ht:tsF F τ=false):∀ x∈blk a c,x∉tb F κ:=fun x b d=>by
 have:=(zth.1 d).2;rw [(h.lt x b).2.1,ht] at this;cases this
def Stab {σ:Type} (F B:Nat) (J:σ→K→Prop):Prop:=
 ∀ {s:σ} {κ κ':K} {M:List Nat},J s κ→Step M κ κ'→(∀ b∈M,b<κ.H.size→nI F (κ.tag b)=true∧B≤b)→J s κ'
theorem Stab.j0 {σ:Type} {B:Nat} {J:σ→K→Prop} (h:Stab F B J) {s:σ} (hj:J s κ) (st:Step [] κ κ1):J s κ1:=h hj st (fun b a=>by cases a)
theorem Stab.jo {σ:Type} {B b:Nat} {J:σ→K→Prop} (h:Stab F B J) {s:σ} (hj:J s κ) (st:Step [b] κ κ1) (ho:Own τ κ b) (ht:nI F τ=true) (hB:B≤b):J s κ1:=
 h hj st (fun x a _=>by rw [fg.1 a,ho.tag];exact ⟨ht,hB⟩)
end
def Yl [Fb] (P:Program) (l:Nat) (args:Array Value) (κ:K) (R:K→Prop):Prop:=
 ∀ C d,∃ fn tmps assign body,(Instr.yield l args).run P (W C κ d)=.ok (.round l fn tmps assign body) (W C κ d)∧
  RoundIn Fence.wide 0 P l fn tmps assign body (W C κ d) (fun e w'=>e=.returned (.bool true)∧∃ κ' d',w'=W C κ' d'∧R κ')
section
variable [Fc] [Fb] {P:Program} {n:Nat} {c:Code} {i:Nat} {Q:za6} {E:Env} {κ:K}
theorem zwI {m:Nat} {l:Nat} {f:FuncId} {tmps:Array Value} {assign body:Code} {w:World} {R:Ending→World→Prop} (h:RoundIn Fence.wide m P l f tmps assign body w R):RoundIn FF m P l f tmps assign body w R:=h
theorem oyl {l:Nat} {args:Array Value} {R:K→Prop} (d:Nat) (hy:Yl P l args κ R) (hk:∀ κ',R κ'→owp P n c (i+1) Q (upd E d (.bool true)) κ')
  (hr:∀ w,(execOp (ev E) (zw c i)).run P w=(Instr.yield l args).run P w:=by intro _;kernel_rfl) (h:st c i n E (some d)=true:=by kernel_rfl):owp P n c i Q E κ:=by
 refine zmw h fun C j a k=>?_;obtain ⟨v,u,s,p⟩:=zhD h;obtain ⟨fn,tmps,b,g,f,q⟩:=hy C j;unfold Oper.wpIn;rw [zqA (nx:=.round l fn tmps b g) (w':=W C κ j) (by rw [k.eval,hr];exact f) (fun _ e=>by cases e)];refine ⟨fun _ _=>trivial,fun t=>?_,(zwI q).mono ?_⟩
 ·simp [FF,Fence.wide] at t
 ·rintro e w' ⟨rfl,κ',r,rfl,m⟩;simp only [s];exact hk κ' m C r _ (k.put (p d rfl) _)
end
def zyG (E:Env):List Nat→List Value→Env
 | p::ps,v::vs=>zyG (upd E p v) ps vs
 | _,_=>E
theorem zyp {inst:Fc} {n:Nat} (ps:List Nat):∀ (vs:List Value) (t:Array Value) (E:Env),(∀ p∈ps,p<n) → @Fits inst n {tmps:=t,defers:=inst.ds} E→
  @Fits inst n {tmps:=(ps.zip vs).foldl (fun t (p,v)=>t.setIfInBounds p v) t,defers:=inst.ds} (zyG E ps vs):=by
 induction ps with
 | nil=>intro vs t E _ h;exact h
 | cons p ps ih=>
  intro vs t E hp h;cases vs with
  | nil=>exact h
  | cons v vs=>
   refine ih vs _ _ (fun q a=>hp q (by simp [a])) ?_;exact h.put (hp p (by simp)) v
def zBU:Code→Option (Operand×List Nat)
 | .rangeFunc g ps _ _=>some (g,ps.toList)
 | _=>none
def zwJ [Fc] [Fb] (P:Program) (n:Nat) (body:Code) (N l:Nat) (o1 o2:Obj) (Q:za6):za6:=fun e E κ=>
 match e with
 | .normal=>Rec N 999 κ l o1∧∀ κ',Step [l] κ κ'→Rec N 999 κ' l o2→cwp P n body Q E κ'
 | _=>False
def zy5 (N l:Nat) (o2:Obj) (F:Nat) (κr:K) (J:K→Prop):za6:=fun e _ κ=>
 match e with
 | .normal=>Rec N 999 κ l o2∧Step (tb F κr) κr κ∧J κ
 | _=>False
theorem rfb [Fc] [Fb] {P:Program} {n:Nat} {body:Code} {N l:Nat} {o1 o2:Obj} {Q:za6} {E:Env} {κ:K} (h:Rec N 999 κ l o1) (hk:∀ κ',Step [l] κ κ'→Rec N 999 κ' l o2→cwp P n body Q E κ') :
  zwJ P n body N l o1 o2 Q .normal E κ:=⟨h,hk⟩
theorem rfe {N l:Nat} {o2:Obj} {F:Nat} {κr κ:K} {J:K→Prop} {E:Env} (h:Rec N 999 κ l o2) (hy:Step (tb F κr) κr κ) (hj:J κ):zy5 N l o2 F κr J .normal E κ:=⟨h,hy,hj⟩
def zzR [Fb] (P:Program) (n:Nat) (c:Code) (fn:Func) (R:Value→K→Prop) (E:Env) (κ:K):Prop:=
 ∀ C d a,@Fits fc0 n a E→c.wpIn Fence.wide 0 P (bodyPostM Fence.wide 0 P fn (fun e w'=>∃ v κ' d',e=.returned v∧w'=W C κ' d'∧R v κ')) a (W C κ d)
theorem zB7 {P:Program} {f:FuncId} {fn:Func} {args:Array Value} {κ:K} {R:Value→K→Prop} (n:Nat) (M:List Nat) (hf:P.funcs[f]?=some fn) (hn:fn.ntmps=n)
  (h:Step M κ κ→zzR P n (sub (zz fn) []) fn R (zty args) κ) (hb:fn.body=some (zz fn):=by kernel_rfl) (ha:Nat.ble args.size n=true:=by kernel_rfl):Fn P f args κ R:=by
 intro C d;have b : @Fits fc0 n {tmps:=args++Array.replicate (fn.ntmps - args.size) undef,defers:=[]} (zty args):=by
  have e:=fz ha;refine ⟨by simp [hn];omega,rfl,fun t=>?_⟩;unfold zty;by_cases c:t<args.size
  ·simp [ab,c]
  ·by_cases a:t - args.size<fn.ntmps - args.size
   ·simp [ab,c,a]
   ·simp [ab,c,a]
 exact (callsIn_wide (n:=0)).1 (callsIn_of_wp_marks hf hb trivial (h (Step.refl _ _) C d _ b))
def zyJ [Fb] (P:Program) (n:Nat) (c:Code) (fn:Func) (R:Value→K→Prop):za6:=fun e E κ=>
 match e with
 | .normal=>zzR P n c fn R E κ
 | _=>False
theorem csM {P:Program} {n:Nat} {c:Code} {p:List Nat} {fn:Func} {R:Value→K→Prop} {E:Env} {κ:K} (hx:cwp P n (sub c (0::p)) (zyJ P n (sub c (1::p)) fn R) E κ)
  (h:znz (sub c p)=true:=by kernel_rfl):zzR P n (sub c p) fn R E κ:=by
 have i:sub c (0::p)=zgB 0 (sub c p):=rfl;have j:sub c (1::p)=zgB 1 (sub c p):=rfl;rw [i,j] at hx;clear i j;generalize sub c p=s at *;cases s<;>simp [znz] at h;rename_i x y;intro C d a k;have b:cwp P n x (zyJ P n y fn R) E κ:=hx;refine wpIn_seq (wpIn_mono (b C d a k) ?_);rintro e a' w' ⟨m,κ',l,f,rfl,g⟩;cases e with
 | normal=>exact g C l a' f
 | _=>exact g.elim
theorem tMn {P:Program} {n:Nat} {c:Code} {fn:Func} {R:Value→K→Prop} {E:Env} {κ:K} (h:zzR P n c fn R E κ):zyJ P n c fn R .normal E κ:=h
def zBM [Fb] (P:Program) (n:Nat) (b r:Code) (fn:Func) (R:Value→K→Prop) (E:Env) (κ:K):Prop:=
 ∀ C d a,@Fits fc0 n a E→b.wpIn Fence.wide 0 P (Exit.then (r.wpIn Fence.wide 0 P (bodyPostM Fence.wide 0 P fn (fun e w'=>∃ v κ' d',e=.returned v∧w'=W C κ' d'∧R v κ'))) (bodyPostM Fence.wide 0 P fn (fun e w'=>∃ v κ' d',e=.returned v∧w'=W C κ' d'∧R v κ'))) a (W C κ d)
def zyK [Fb] (P:Program) (n:Nat) (b r:Code) (fn:Func) (R:Value→K→Prop):za6:=fun e E κ=>
 match e with
 | .normal=>zBM P n b r fn R E κ
 | _=>False
theorem tBn {P:Program} {n:Nat} {b r:Code} {fn:Func} {R:Value→K→Prop} {E:Env} {κ:K} (h:zBM P n b r fn R E κ):zyK P n b r fn R .normal E κ:=h
theorem csB {P:Program} {n:Nat} {c:Code} {p:List Nat} {fn:Func} {R:Value→K→Prop} {E:Env} {κ:K} (hx:cwp P n (sub c (0::0::p)) (zyK P n (sub c (1::0::p)) (sub c (1::p)) fn R) E κ)
  (h:znz (sub c p)=true:=by kernel_rfl) (h':znz (sub c (0::p))=true:=by kernel_rfl):zzR P n (sub c p) fn R E κ:=by
 have g:sub c (0::0::p)=zgB 0 (zgB 0 (sub c p)):=rfl;have l:sub c (1::0::p)=zgB 1 (zgB 0 (sub c p)):=rfl;have i:sub c (1::p)=zgB 1 (sub c p):=rfl;have k:sub c (0::p)=zgB 0 (sub c p):=rfl;rw [g,l,i] at hx;rw [k] at h';clear g l i k;generalize sub c p=s at *;cases s<;>simp [znz] at h;rename_i x z;simp only [zgB,if_true] at h';cases x<;>simp [znz] at h';rename_i x y;intro C d a m;have b:cwp P n x (zyK P n y z fn R) E κ:=hx;refine wpIn_seq (wpIn_seq (wpIn_mono (b C d a m) ?_));rintro e a' w' ⟨r,κ',q,f,rfl,j⟩;cases e with
 | normal=>exact j C q a' f
 | _=>exact j.elim
def ztj (D:Nat):List Deferred:=[{target:=.collected D,args:=#[]}]
def zy6 [Fb] (P:Program) (fn:Func) (R:Value→K→Prop) (N D:Nat):za6:=fun e E κ=>
 match e with
 | .normal | .ret=>Rec N 998 κ D (.deferred (some []))∧∀ κ',Step [D] κ κ'→Rec N 998 κ' D (.deferred none)→zk4 P fn R e E κ'
 | _=>False
theorem rtM {P:Program} {fn:Func} {R:Value→K→Prop} {N D:Nat} {E:Env} {κ:K} (h:Rec N 998 κ D (.deferred (some []))) (hk:∀ κ',Step [D] κ κ'→Rec N 998 κ' D (.deferred none)→zk4 P fn R .ret E κ') :
  zy6 P fn R N D .ret E κ:=⟨h,hk⟩
theorem zv7 {P:Program} {n:Nat} {fn:Func} {R:Value→K→Prop} {N D:Nat} [Fb] {C:Cx} {e:Exit} {E:Env} {κ:K} {d:Nat} {a:Act} {inst:Fc} (hd:inst.ds=ztj D) (hf : @Fits inst n a E)
  (hq:zy6 P fn R N D e E κ):bodyPostM Fence.wide 0 P fn (fun e w'=>∃ v κ' d',e=.returned v∧w'=W C κ' d'∧R v κ') e a (W C κ d):=by
 have key:∀ (h:Rec N 998 κ D (.deferred (some []))) (v:Value),(∀ C d,(zxT fn E).run P (W C (κ.setO D (.deferred none)) d)=.ok v (W C (κ.setO D (.deferred none)) d))→R v (κ.setO D (.deferred none))→
   LeavesInM Fence.wide 0 P fn a.tmps (fun e w'=>∃ v κ' d',e=.returned v∧w'=W C κ' d'∧R v κ') a.defers .returning (W C κ d):=by
  intro h v b c;have g:a.defers=ztj D:=hf.defers.trans hd;rw [g];refine ⟨by simp,.inl ⟨D,W C (κ.setO D (.deferred none)) d,rfl,run_takeDeferred (ds:=[]) h.obj,?_⟩⟩;exact ⟨v,by rw [zuS hf];exact b C d,v,_,d,rfl,rfl,c⟩
 cases e with
 | normal=>
  obtain ⟨h,f⟩:=hq;obtain ⟨hs,i⟩:=zqE h (.deferred none);obtain ⟨v,b,c⟩:=f _ hs i;exact key h v b c
 | ret=>
  obtain ⟨h,f⟩:=hq;obtain ⟨hs,i⟩:=zqE h (.deferred none);obtain ⟨v,b,c⟩:=f _ hs i;exact key h v b c
 | _=>exact hq.elim
theorem zAN {P:Program} {f:FuncId} {args:Array Value} {w:World} (hf:zc9 P f=true):(callFunc f args).run P w=.ok (.enter f args) w:=zaY rfl hf
theorem zxy {σ A:Type} {P:Program} {n:Nat} {c:Code} {p pr:List Nat} {fn:Func} {R:Value→K→Prop} {E:Env} {κ:K} {id:Nat} {g:Operand} {ps:List Nat} {gf:Nat} {lb:Array Value}
  (F B:Nat) (J:σ→K→Prop) (ok:K→A→Prop) (enc:K→A→List Value→Prop) (y:σ→A→Option σ) (s0:σ) (r:σ)
  (hB:B≤κ.H.size) (hJ:∀ {s:σ} {κ κ':K} {M:List Nat},J s κ→Step M κ κ'→(∀ b∈M,b<κ.H.size→Nat.beq ((κ.tag b).2 / 1000) F=false∧B≤b)→J s κ') (h0:J s0 κ)
  (hround:∀ {l N:Nat} {o1 o2:Obj} {κ':K} {s L:σ} {a:A} {vs:List Value},κ.H.size≤N→Rec N 999 κ' l o1→J s κ'→ok κ' a→enc κ' a vs→y s a=some L→
   vs.length=ps.length∧∀ inst:Fc,inst.ds=[] → @cwp inst _ P n (sub c (0::0::p)) (@zwJ inst _ P n (sub c (1::0::p)) N l o1 o2 (zy5 N l o2 F κ' (J L))) (zyG E ps vs) κ')
  (hit:∀ {J':σ→K→Prop} {l:Nat} {κ1:K},Step [] κ κ1→Stab F B J'→
   (∀ {κ':K} {s L:σ} {a:A} {vs:List Value},J' s κ'→ok κ' a→enc κ' a vs→y s a=some L→Yl P l vs.toArray κ' (fun κ''=>Step (tb F κ') κ' κ''∧J' L κ''))→
   J' s0 κ1→Fn P gf (#[.func (.yield l) #[] #[]]++lb) κ1 (fun _ κ2=>J' r κ2))
  (hafter:∀ {N D:Nat} {κ2:K},κ.H.size≤N→Rec N 998 κ2 D (.deferred (some []))→J r κ2→∀ inst:Fc,inst.ds=ztj D → @cwp inst _ P n (sub c pr) (zy6 P fn R N D) E κ2)
  (hg:ev E g=.func (.func gf) #[] lb:=by kernel_rfl) (hF:Nat.blt 0 F=true:=by kernel_rfl) (h2:zrf (sub c p)=some id:=by kernel_rfl)
  (h3:zBU (sub c (0::p))=some (g,ps):=by kernel_rfl) (hps:ps.all (fun q=>Nat.blt q n)=true:=by kernel_rfl) (hgf:zc9 P gf=true:=by kernel_rfl):zBM P n (sub c p) (sub c pr) fn R E κ:=by
 have Y:∀ q∈ps,q<n:=fun q hq=>by
  have:=bc.1 hps q hq;exact fz this
 have e7:0<F:=fz hF;have e3:sub c (0::p)=zgB 0 (sub c p):=rfl;have e4:sub c (0::0::p)=zgB 0 (zgB 0 (sub c p)):=rfl;have e5:sub c (1::0::p)=zgB 1 (zgB 0 (sub c p)):=rfl;simp only [e4,e5] at hround;rw [e3] at h3;clear e3 e4 e5;generalize sub c pr=rest at *;generalize sub c p=s at *;cases s<;>simp [zrf] at h2;rename_i id' x;subst h2;simp only [zgB] at h3 hround;cases x<;>simp [zBU] at h3;rename_i g' ps' assign body;obtain ⟨rfl,a4⟩:=h3;simp only [zgB,if_true] at hround;have I:∀ {l N:Nat} {o1 o2:Obj} {κ':K} {s L:σ} {a:A} {vs:List Value},κ.H.size≤N→Rec N 999 κ' l o1→J s κ'→ok κ' a→enc κ' a vs→y s a=some L→
   vs.length=ps.length∧∀ inst:Fc,inst.ds=[] → @cwp inst _ P n assign (@zwJ inst _ P n body N l o1 o2 (zy5 N l o2 F κ' (J L))) (zyG E ps vs) κ':=hround
 have z:∀ {N D:Nat} {κ2:K},κ.H.size≤N→Rec N 998 κ2 D (.deferred (some []))→J r κ2→∀ inst:Fc,inst.ds=ztj D → @cwp inst _ P n rest (zy6 P fn R N D) E κ2:=hafter;clear hround hafter;intro C d a X;refine wpIn_block ?_;refine wpIn_rangeFunc ?_;intro c4 d7;have c1:Fence.wide.round=none:=rfl;rw [c1];obtain ⟨sz,hsz⟩:∃ sz,κ.H.size=sz:=⟨_,rfl⟩;obtain ⟨f,i⟩:∃ f:LoopState→Option Code→Loop,f=fun st pe=>{state:=st,pending:=pe,fn:=c4,tmps:=a.tmps,params:=ps',assign,body,defers:=sz}:=⟨_,rfl⟩;obtain ⟨κ0,j⟩:∃ κ0,κ0=κ.push (.deferred (some [])) 0 (sz,998):=⟨_,rfl⟩;obtain ⟨κ1,k⟩:∃ κ1,κ1=κ0.push (.loop (f .ready none)) 0 (sz,999):=⟨_,rfl⟩;have d4:Step [] κ κ0:=by rw [j];exact zcM _ _ _ _
 have a9:Step [] κ0 κ1:=by rw [k];exact zcM _ _ _ _
 have s1:Step [] κ κ1:=d4.trans a9;have H:κ0.H.size=sz+1:=by rw [j,←hsz];simp [K.push]
 have b4:Rec sz 998 κ0 sz (.deferred (some [])):=by
  refine ⟨⟨by rw [H];omega,?_,?_,ga _⟩,?_⟩
  ·rw [j];simp [K.push,hsz]
  ·rw [j];simp [K.push,hsz]
  ·rw [j];simp [K.push,←hsz]
 have rD:Rec sz 998 κ1 sz (.deferred (some [])):=b4.step0 a9;have rL:Rec sz 999 κ1 (sz+1) (.loop (f .ready none)):=by
  refine ⟨⟨by rw [k];simp [K.push,H],?_,?_,by simp⟩,?_⟩
  ·rw [k];simp [K.push,H]
  ·rw [k];simp [K.push,H]
  ·rw [k];simp [K.push,←H]
 have b7:((W C κ d).alloc (.deferred (some []))).alloc (.loop (f .ready none))=W C κ1 d:=by rw [k,j];rfl
 have c0:Stab F B (fun s κ'=>J s κ'∧Rec sz 999 κ' (sz+1) (.loop (f .ready none))∧Rec sz 998 κ' sz (.deferred (some []))):=by
  intro s κa κb M h st hM;refine ⟨hJ h.1 st (fun b u S=>?_),h.2.1.step st (fun u=>?_),h.2.2.step st (fun u=>?_)⟩
  ·have:=zA0 (hM b u S).1;unfold tsF at this;simp only [Bool.or_eq_false_iff] at this;exact ⟨this.2,(hM b u S).2⟩
  ·have:=zB5 (hM _ u h.2.1.o.lt).1;rw [h.2.1.o.tag] at this;exact this rfl
  ·have:=zB6 (hM _ u h.2.2.o.lt).1;rw [h.2.2.o.tag] at this;exact this rfl
 have O:Nat.beq (999 / 1000) F=false:=by
  cases u:Nat.beq (999 / 1000) F with
  | false=>rfl
  | true=>have:=fx u;simp at this;omega
 have jl:∀ {s:σ} {κa κb:K} {o:Obj},J s κa→Step [sz+1] κa κb→Rec sz 999 κa (sz+1) o→J s κb:=fun h st hr=>
  hJ h st (fun b u _=>by rw [fg.1 u,hr.o.tag];exact ⟨O,by omega⟩)
 have c2:a.eval g'=.func (.func gf) #[] lb:=by rw [X.eval];exact hg
 refine ⟨sz+1,ztj sz,W C κ1 d,{target:=.fn (.func gf) lb,args:=#[.func (.yield (sz+1)) #[] #[]]},W C κ1 d,gf,#[.func (.yield (sz+1)) #[] #[]]++lb,W C κ1 d,?_,?_,?_,?_,fun h=>(by simp [Fence.wide] at h),?_⟩
 ·rw [←b7,i,←hsz];exact run_enterLoop_outer _ _ _ _ _
 ·simp only [resolve,c2];simp [go_sem]
 ·intro f' f0;trivial
 ·simp [invoke,go_sem,zAN hgf]
 ·refine CallsIn.mono ((callsIn_wide (n:=0 - 1)).2 (hit (J':=fun s κ'=>J s κ'∧Rec sz 999 κ' (sz+1) (.loop (f .ready none))∧Rec sz 998 κ' sz (.deferred (some []))) (l:=sz+1) s1 c0 ?_ ⟨hJ h0 s1 (fun b u=>by cases u),rL,rD⟩ C d)) ?_
  ·
   rintro κ' s L x vs ⟨hj,V,hD⟩ hok henc hy C' d';obtain ⟨hlen,b8⟩:=I (o2:=.loop {f .ready none with state:=.busy}) (by omega) V hj hok henc hy;have S:sz+1<κ'.H.size:=V.o.lt;have a5:=run_yield (P:=P) (w:=W C' κ' d') (args:=vs.toArray) V.obj (by rw [i];simp only [fp];rw [hlen,←a4];simp);rw [i] at a5;refine ⟨_,_,_,_,a5,roundIn_of_wpIn trivial ?_⟩;have a6 : @Fits ⟨some (sz+1),[]⟩ n {tmps:=(ps'.zip vs.toArray).foldl (fun t (p,v)=>t.setIfInBounds p v) a.tmps,defers:=[]} (zyG E ps vs):=by
    have h:=zyp (inst:=⟨some (sz+1),[]⟩) ps vs a.tmps E Y (@Fits.mk ⟨some (sz+1),[]⟩ n {tmps:=a.tmps,defers:=[]} E X.size rfl X.tmps);have e:(ps'.zip vs.toArray)=(ps.zip vs).toArray:=by
     rw [←a4];obtain ⟨q⟩:=ps';exact List.zip_toArray _ _
    rw [e];simpa using h
   refine wpIn_mono (b8 ⟨some (sz+1),[]⟩ rfl C' d' _ a6) ?_;rintro e a1 w1 ⟨E1,κa,da,c8,rfl,hq⟩;cases e with
   | normal=>
    obtain ⟨a8,hk⟩:=hq;obtain ⟨c5,b6⟩:=zqE a8 (.loop {f .ready none with state:=.busy});refine ⟨_,run_beginRound (r:=f .ready none) a8.obj (by rw [i]),?_⟩;rw [zww];refine wpIn_mono (hk _ c5 b6 C' da a1 c8) ?_;rintro e a2 w2 ⟨E2,κb,db,f2,rfl,b0⟩;cases e with
    | normal=>
     obtain ⟨m,Q,d0⟩:=b0;obtain ⟨U,b5⟩:=zqE m (.loop (f .ready none));have G:=run_endRound (P:=P) (w:=W C' κb db) (l:=sz+1) none m.obj;refine ⟨_,_,G,rfl,κb.setO (sz+1) (.loop (f .ready none)),db,?_,?_,?_,b5,?_⟩
     ·rw [zww];rw [i];rfl
     ·exact Q.trY (m.o.tb1 rfl) U
     ·exact jl d0 U m
     ·refine hD.step (Q.trY (m.o.tb1 rfl) U) (hD.o.ntb ?_);unfold tsF;have:Nat.beq (998 / 1000) F=false:=O;rw [this];rfl
    | _=>exact b0.elim
   | _=>exact hq.elim
  ·
   rintro e w2 ⟨v,κ2,Z,rfl,rfl,hj,V,hD⟩;obtain ⟨T,c3⟩:∃ T:Obj,T=.loop {f .ready none with state:=.exhausted}:=⟨_,rfl⟩;obtain ⟨a0,m⟩:=zqE V T;have G:(Instr.endLoop (sz+1)).run P (W C κ2 Z)=.ok none (W C (κ2.setO (sz+1) T) Z):=by
    have:=run_endLoop (P:=P) (w:=W C κ2 Z) (l:=sz+1) V.obj (by rw [i];simp);rw [this,c3,i];rfl
   refine ⟨none,_,G,?_⟩;show (Exit.inBlock id' _) Exit.normal _ _;simp only [Exit.inBlock,Exit.then];have c6:Rec sz 998 (κ2.setO (sz+1) T) sz (.deferred (some [])):=hD.step a0 (by simp);have d5:J r (κ2.setO (sz+1) T):=jl hj a0 V;have a7:Code.wpIn Fence.wide 0 P rest (@zpz ⟨none,ztj sz⟩ _ n C (zy6 P fn R sz sz)) {a with defers:=ztj sz++a.defers} (W C (κ2.setO (sz+1) T) Z):=
    z (by omega) c6 d5 ⟨none,ztj sz⟩ rfl C Z {a with defers:=ztj sz++a.defers} (@Fits.mk ⟨none,ztj sz⟩ n _ E X.size (by rw [X.defers];rfl) X.tmps)
   refine wpIn_mono a7 ?_;rintro e a3 w3 ⟨E3,κ3,d3,b9,rfl,c9⟩;exact zv7 (inst:=⟨none,ztj sz⟩) rfl b9 c9
section
variable {F B:Nat} {κ κ1 κ2:K} {M M':List Nat} {τ:Tag}
theorem Step.trZ (h:Step M κ κ1) (st:Step M' κ1 κ2) (hM:∀ b∈M',b<κ1.H.size→Nat.beq ((κ1.tag b).2 / 1000) F=false∧κ.H.size≤b):Step M κ κ2:=
 h.trM (fun b c=>.inr (by
  by_cases a:b<κ1.H.size
  ·exact (hM b c a).2
  ·exact gc h.1 (Nat.le_of_not_lt a))) st
theorem Own.stepZ {b:Nat} (h:Own τ κ b) (hM:∀ b∈M,b<κ.H.size→Nat.beq ((κ.tag b).2 / 1000) F=false∧B≤b) (ht:Nat.beq (τ.2 / 1000) F=true):b∉M:=fun a=>by
 have:=(hM b a h.lt).1;rw [h.tag,ht] at this;cases this
theorem Box.stepZ {b:Nat} {cs:List Value} {T:TypeId} (h:Box τ κ b cs T) (st:Step M κ κ1) (hM:∀ b∈M,b<κ.H.size→Nat.beq ((κ.tag b).2 / 1000) F=false∧B≤b) (ht:Nat.beq (τ.2 / 1000) F=true):Box τ κ1 b cs T:=
 h.step st (h.o.stepZ hM ht)
theorem Gr.stepZ {α:Type} {t:Ty α} {pub:Bool} {e:TypeId} {a:Option Addr} {c:Nat} {l:List α} (h:Gr t pub τ κ e a c l) (st:Step M κ κ1) (hM:∀ b∈M,b<κ.H.size→Nat.beq ((κ.tag b).2 / 1000) F=false∧B≤b)
  (ht:Nat.beq (τ.2 / 1000) F=true):Gr t pub τ κ1 e a c l:=
 h.step st (fun g d f=>by
  have:=(hM g f (h.lt g d).1).1;rw [(h.lt g d).2.1,ht] at this;cases this)
theorem zwO {N i:Nat} (h:Nat.beq (i / 1000) F=false) (h8:Nat.beq i 998=false:=by kernel_rfl) (h9:Nat.beq i 999=false:=by kernel_rfl):nI F (N,i)=true:=by
 show (!(Nat.beq i 998)&&!(Nat.beq i 999||Nat.beq (i / 1000) F))=true;rw [h,h8,h9];rfl
theorem zuH {N i:Nat} (h:Nat.beq (i / 1000) F=false) (h9:Nat.beq i 999=false:=by kernel_rfl):tsF F (N,i)=false:=by
 show (Nat.beq i 999||Nat.beq (i / 1000) F)=false;rw [h,h9];rfl
end
def tPo:Ty (Option Nat):=⟨1,fun _ cs x=>cs=[.pointer (x.map fun b=>⟨b,0,none⟩)],fun h=>by rw [h];rfl,fun _ h=>h,fun h v hv=>by rw [h] at hv;simp at hv;subst hv;rfl⟩
def nb (bs:List Nat) (x:Int):Nat:=(bs[x.toNat]?).getD 0
def ldr (bs:List Nat) (x:Int):Option Addr:=if x<0 then none else some ⟨nb bs x,0,none⟩
def fpl (n:Nat) (bs:List Nat):List (Option Nat):=bs.map some++List.replicate (n - bs.length) none
def zvd (a:Option Addr) (n:Nat) (bs:List Nat):List Nat:=blk a n++bs
structure Fst (τ:Tag) (κ:K) (eP eG:TypeId) (a:Option Addr) (n:Nat) (bs:List Nat) (L:List Int):Prop where
 vec:Gr tPo false τ κ eP a n (fpl n bs)
 le:bs.length≤n
 len:bs.length=L.length
 node:∀ (i b:Nat) (x:Int),bs[i]?=some b→L[i]?=some x→Box τ κ b [.pointer (ldr bs x),.int .i64 i] eG
 rng:∀ (i:Nat) (x:Int),L[i]?=some x→x.toNat<bs.length
 nd:bs.Nodup
 dis:∀ g∈blk a n,g∉bs
def fmk (bytes:Nat) (n:Int):Option (List Int):=if 0≤n∧n≤9223372036854775807∧n*bytes≤140737488355328 then some [] else none
def ztv (n:Nat) (L:List Int) (ix:Int):Option (List Int):=if ix=(L.length:Int)∧L.length<n then some (L++[-1]) else none
def gstep (L:List Int) (i:Int):Option (Int ⊕ Int):=(idx L i).bind fun p=>if p<0 then some (.inr i) else some (.inl p)
theorem zzE {bytes:Nat} {n:Int} {r:List Int} (h:fmk bytes n=some r):mkl bytes n (none:Option Nat)=some (List.replicate n.toNat none)∧r=[]:=by
 unfold fmk at h;split at h
 ·rename_i hc;exact ⟨by unfold mkl;rw [if_pos hc],(Option.some.inj h).symm⟩
 ·cases h
theorem ztu {n:Nat} {L r:List Int} {ix:Int} (h:ztv n L ix=some r):ix=(L.length:Int)∧L.length<n∧r=L++[-1]:=by
 unfold ztv at h;split at h
 ·rename_i hc;exact ⟨hc.1,hc.2,(Option.some.inj h).symm⟩
 ·cases h
theorem zp9 {n:Nat} {bs:List Nat} (h:bs.length≤n):(fpl n bs).length=n:=by
 unfold fpl;simp;omega
section
variable {τ τ':Tag} {κ κ':K} {eP eG:TypeId} {a:Option Addr} {n:Nat} {bs:List Nat} {L:List Int} {M:List Nat}
theorem zpl {x:Int} (h:x.toNat<bs.length):bs[x.toNat]?=some (nb bs x):=by
 unfold nb;rw [cm h];rfl
theorem Fst.mem (h:Fst τ κ eP eG a n bs L):∀ g∈zvd a n bs,g<κ.H.size∧κ.tag g=τ∧τ.1≤g:=by
 intro g b;rcases ep.1 b with b | b
 ·exact h.vec.lt g b
 ·obtain ⟨i,hi,e⟩:=List.getElem_of_mem b;have d:bs[i]?=some g:=by rw [cm hi,e]
  have c:i<L.length:=by rw [←h.len];exact hi
  have:=h.node i g _ d (cm c);exact ⟨this.lt,this.tag,this.ge⟩
theorem Fst.step (s:Step M κ κ') (hm:∀ g∈zvd a n bs,g∉M) (h:Fst τ κ eP eG a n bs L):Fst τ κ' eP eG a n bs L:=
 ⟨h.vec.step s (fun g d=>hm g (er _ d)),h.le,h.len,
  fun i b x c e=>(h.node i b x c e).step s (hm b (List.mem_append_right _ (fd c))),h.rng,h.nd,h.dis⟩
theorem Fst.step0 (s:Step [] κ κ') (h:Fst τ κ eP eG a n bs L):Fst τ κ' eP eG a n bs L:=h.step s (fun _ _=>by simp)
theorem Fst.own {κ0:K} (h:Fst τ κ eP eG a n bs L) (h0:κ0.H.size≤τ.1):∀ b∈zvd a n bs,κ0.H.size≤b:=fun b c=>gc h0 (h.mem b c).2.2
theorem Fst.nb {b:Nat} (h:Fst τ κ eP eG a n bs L) (h':Own τ' κ b) (hn:τ'≠τ):b∉zvd a n bs:=fun c=>hn (h'.tag.symm.trans (h.mem b c).2.1)
theorem Fst.bn {b:Nat} (h:Fst τ κ eP eG a n bs L) (h':Own τ' κ b) (hn:τ≠τ'):∀ g∈zvd a n bs,g∉[b]:=fun g c d=>by
 have e:=fg.1 d;subst e;exact hn ((h.mem g c).2.1.symm.trans h'.tag)
theorem Fst.gn {α:Type} {t:Ty α} {pub:Bool} {e:TypeId} {a':Option Addr} {c':Nat} {l:List α} (h:Fst τ κ eP eG a n bs L) (h':Gr t pub τ' κ e a' c' l) (hn:τ≠τ'):∀ g∈zvd a n bs,g∉blk a' c':=
 fun g b c=>hn ((h.mem g b).2.1.symm.trans (h'.lt g c).2.1)
theorem Fst.gnm {α:Type} {t:Ty α} {pub:Bool} {eo ei:TypeId} {a':Option Addr} {c':Nat} {hm hs:List Hd} {l:List (List α)} (h:Fst τ κ eP eG a n bs L) (h':Mat t pub τ' κ eo ei a' c' hm hs l) (hn:τ≠τ'):∀ g∈zvd a n bs,g∉mblk a' c' hs:=
 fun g b c=>hn ((h.mem g b).2.1.symm.trans (h'.lt g c).2.1)
theorem Fst.inb (h:Fst τ κ eP eG a n bs L) {ix x:Int} (hx:idx L ix=some x):0≤ix∧ix.toNat<bs.length:=by
 obtain ⟨b,c,d⟩:=zhB hx;exact ⟨b,by rw [h.len];omega⟩
theorem Fst.vcell (h:Fst τ κ eP eG a n bs L) {ix x:Int} (hx:idx L ix=some x) :
  ∃ b,a=some ⟨b,0,none⟩∧0≤ix∧ix<(n:Int)∧At κ b (0+ix.toNat*1) [.pointer (some ⟨Lf.nb bs ix,0,none⟩)]:=by
 have e:=h.inb hx;have hp:idx (fpl n bs) ix=some (some (Lf.nb bs ix)):=by
  unfold idx;rw [if_pos e.1];unfold fpl;rw [cg (by simpa using e.2),cq,zpl e.2];rfl
 obtain ⟨b,i,j,f,cs,c,g⟩:=h.vec.idx hp;rw [zp9 h.le] at f;refine ⟨b,i,j,f,?_⟩;have d:cs=[.pointer (some ⟨Lf.nb bs ix,0,none⟩)]:=g;rw [d] at c;exact c
theorem Fst.ncell (h:Fst τ κ eP eG a n bs L) {ix:Int} (hn:0≤ix∧ix.toNat<bs.length):∃ x,idx L ix=some x∧Box τ κ (Lf.nb bs ix) [.pointer (ldr bs x),.int .i64 ix] eG:=by
 have c:ix.toNat<L.length:=by rw [←h.len];exact hn.2
 have b:L[ix.toNat]?=some L[ix.toNat]:=cm c;refine ⟨L[ix.toNat],by unfold idx;rw [if_pos hn.1,b],?_⟩;have:=h.node ix.toNat _ _ (zpl hn.2) b;rw [bb hn.1] at this;exact this
theorem Fst.num (h:Fst τ κ eP eG a n bs L) {ix:Int} (hn:0≤ix∧ix.toNat<bs.length):κ.cell (Lf.nb bs ix) 1=some (.int .i64 ix):=by
 obtain ⟨x,_,b⟩:=h.ncell hn;have:=b.at.one (o:=1) rfl;simpa using this
theorem Fst.lead (h:Fst τ κ eP eG a n bs L) {ix x:Int} (hx:idx L ix=some x):κ.cell (Lf.nb bs ix) 0=some (.pointer (ldr bs x)):=by
 obtain ⟨x',b,c⟩:=h.ncell (h.inb hx);rw [hx] at b;injection b with e;subst e
 have:=c.at.one (o:=0) rfl;simpa using this
theorem zvb {r:Int} (h:Fst τ κ eP eG a n bs L) {ix:Int} (hn:0≤ix∧ix.toNat<bs.length) (hr:iter (gstep L) ix=some r):0≤r∧r.toNat<bs.length:=by
 obtain ⟨m,hm⟩:=ze7.1 hr
 induction m generalizing ix with
 | zero=>cases hm
 | succ m ih=>
  unfold zmG at hm;unfold gstep at hm;cases hx:idx L ix with
  | none=>rw [hx] at hm;cases hm
  | some p=>
   rw [hx] at hm;simp only [gq] at hm;by_cases hp:p<0
   ·rw [if_pos hp] at hm;injection hm with e;subst e;exact hn
   ·rw [if_neg hp] at hm;exact ih ⟨Int.not_lt.1 hp,h.rng ix.toNat p (zhB hx).2.2⟩ (ze7.2 ⟨m,hm⟩) hm
theorem Fst.made (h:Gr tPo false τ κ eP a n (List.replicate n none)):Fst τ κ eP eG a n [] []:=
 ⟨by unfold fpl;simpa using h,by simp,rfl,fun i b x d=>by simp at d,fun i x c=>by simp at c,by simp,fun g _=>by simp⟩
theorem Fst.newat {r:List Int} (h:Fst τ κ eP eG a n bs L) {ix:Int} (hx:ztv n L ix=some r):∃ b,a=some ⟨b,0,none⟩∧0≤ix∧ix<(n:Int):=by
 obtain ⟨e,d,_⟩:=ztu hx;have hp:idx (fpl n bs) 0=some ((fpl n bs)[0]'(by rw [zp9 h.le];omega)):=by
  unfold idx;rw [if_pos (by omega)];exact cm _
 obtain ⟨b,c,_⟩:=h.vec.idx hp;exact ⟨b,c,by omega,by omega⟩
theorem zzD {b:Nat} (h:bs.length<n):(fpl n bs).set bs.length (some b)=fpl n (bs++[b]):=by
 unfold fpl;rw [List.set_append_right _ _ (by simp)];have e:n - bs.length=(n - (bs++[b]).length)+1:=by simp;omega
 rw [e,List.replicate_succ];simp
theorem zBD {b:Nat} {x:Int} (h:x.toNat<bs.length):Lf.nb (bs++[b]) x=Lf.nb bs x:=by
 unfold Lf.nb;rw [cg h]
theorem zAz {b:Nat} {x:Int} (h:x.toNat<bs.length):ldr (bs++[b]) x=ldr bs x:=by
 unfold ldr;rw [zBD h]
theorem zAh {b:Nat} {cs:List Value} {T:TypeId} (h:Box τ' κ b cs T) (hle:τ.1≤τ'.1):Box τ (κ.retag [b] τ) b cs T∧Step [b] κ (κ.retag [b] τ):=
 ⟨⟨h.obj,h.fr,by simp [K.retag],gc hle h.ge⟩,⟨ga _,fun x a hm=>⟨rfl,rfl,by simp [K.retag] at hm ⊢;simp [hm]⟩,fun x a=>⟨ga _,fun o _=>rfl⟩,fun x a c=>⟨by
  have:x≠b:=fun e=>by rw [e,h.fr] at c;omega
  simp [K.retag,this],rfl⟩⟩⟩
theorem Fst.push {b:Nat} (h:Fst τ κ eP eG a n bs L) (hlt:bs.length<n) (s:Step (blk a n) κ κ') (hv:Gr tPo false τ κ' eP a n (fpl n (bs++[b]))) (hb:Box τ' κ b [.pointer none,.int .i64 (L.length:Int)] eG) (hne:τ'≠τ) (hle:τ.1≤τ'.1) :
  Fst τ (κ'.retag [b] τ) eP eG a n (bs++[b]) (L++[-1])∧Step [b] κ' (κ'.retag [b] τ):=by
 have l:b∉blk a n:=fun j=>hne (hb.tag.symm.trans (h.vec.lt b j).2.1);have m:b∉bs:=fun j=>hne (hb.tag.symm.trans (h.mem b (List.mem_append_right _ j)).2.1);have q:=hb.step s l;obtain ⟨p,r⟩:=zAh (τ:=τ) q hle;refine ⟨⟨hv.step r (fun g j c=>l (by rw [fg.1 c] at j;exact j)),by simp;omega,by simp [h.len],?_,?_,?_,?_⟩,r⟩
 ·intro i v x d f;by_cases hi:i<bs.length
  ·rw [cg hi] at d;have u:i<L.length:=by rw [←h.len];exact hi
   rw [cg u] at f;have k:v∈bs:=fd d;have:=((h.node i v x d f).step s (fun j=>h.dis v j k)).step r (fun c=>m (by rw [fg.1 c] at k;exact k));rw [zAz (h.rng i x f)];exact this
  ·have t:i=bs.length:=by
    have:=(co.1 d).1;simp at this;omega
   subst t;rw [ci (ga _)] at d;simp at d;subst d;rw [h.len,ci (ga _)] at f;simp at f;subst f;rw [h.len];exact p
 ·intro i x c;by_cases hi:i<L.length
  ·rw [cg hi] at c;have:=h.rng i x c;simp;omega
  ·rw [ci (by omega)] at c;have w:=(co.1 c).1;simp at w;rw [w] at c;simp at c;subst c;simp
 ·rw [fi];exact ⟨h.nd,by simp,fun x c y z e=>m (by rw [fg.1 z] at e;exact e▸c)⟩
 ·intro g j c;rcases ep.1 c with c | c
  ·exact h.dis g j c
  ·rw [fg.1 c] at j;exact l j
theorem Fst.set {ix jx:Int} (h:Fst τ κ eP eG a n bs L) (hi:0≤ix∧ix.toNat<bs.length) (hj:0≤jx∧jx.toNat<bs.length) (s:Step [Lf.nb bs ix] κ κ') (hb:Box τ κ' (Lf.nb bs ix) [.pointer (some ⟨Lf.nb bs jx,0,none⟩),.int .i64 ix] eG) :
  Fst τ κ' eP eG a n bs (L.set ix.toNat jx):=by
 have k:Lf.nb bs ix∈bs:=fd (zpl hi.2);refine ⟨h.vec.step s (fun g m f=>h.dis g m (by rw [fg.1 f];exact k)),h.le,by rw [dz];exact h.len,?_,?_,h.nd,h.dis⟩
 ·intro i b x c d;by_cases j:i=ix.toNat
  ·subst j;rw [zpl hi.2] at c;injection c with e;subst e
   rw [dg (by rw [←h.len];exact hi.2)] at d;injection d with e;subst e
   have:ldr bs jx=some ⟨Lf.nb bs jx,0,none⟩:=by unfold ldr;rw [if_neg (by omega)]
   rw [this,bb hi.1];exact hb
  ·rw [df (Ne.symm j)] at d;refine (h.node i b x c d).step s (fun f=>j ?_);have e:=fg.1 f;subst e;have l:=(co.1 c).1;exact (List.getElem?_inj l h.nd).1 (c.trans (zpl hi.2).symm)
 ·intro i x f;by_cases j:i=ix.toNat
  ·subst j;rw [dg (by rw [←h.len];exact hi.2)] at f;injection f with e;subst e;exact hj.2
  ·rw [df (Ne.symm j)] at f;exact h.rng i x f
end
section
variable [Fc] [Fb] {P:Program} {N:Nat} {c:Code} {i:Nat} {Q:za6} {E:Env} {κ:K} {τ τ':Tag} {eP eG:TypeId} {a:Option Addr} {n:Nat} {bs:List Nat} {L r:List Int}
theorem zCl {d bytes:Nat} {T:TypeId} {k1 k2:IntKind} {m:Int} (eG:TypeId) (hT:zjq P T=some (eP,1,1,bytes)) (hz:(zeW P eP).map Value.cells=some [.pointer none].toArray) (hx:fmk bytes m=some r) (hτ:τ.1≤κ.H.size)
  (hk:∀ a' κ',Step [] κ κ'→Fst τ κ' eP eG a' m.toNat [] r→owp P N c (i+1) Q (upd E d (.slice a' m.toNat m.toNat)) κ')
  (h:st c i N E (some d)=true:=by kernel_rfl) (ho:execOp (ev E) (zw c i)=vOf (Instr.makeSlice T (.int k1 m) (.int k2 m)):=by kernel_rfl):owp P N c i Q E κ:=by
 obtain ⟨hm,rfl⟩:=zzE hx;refine zdR (pub:=false) (t:=tPo) (z:=none) h ho hT hz rfl hm hτ fun a' κ' s g=>?_;rw [dy] at g ⊢;exact hk a' κ' s (Fst.made g)
theorem zBy {ix:Int} {bv b:Nat} {T:TypeId} (h:Fst τ κ eP eG a n bs L) (p:ztv n L ix=some r) (ea:a=some ⟨bv,0,none⟩) (hb:Box τ' κ b [.pointer none,.int .i64 ix] eG) (hne:τ'≠τ) (hle:τ.1≤τ'.1)
  (hs:zM P T=some 1)
  (hk:∀ κ1 κ2,Step (zvd a n bs) κ κ1→Step [b] κ1 κ2→Fst τ κ2 eP eG a n (bs++[b]) r→owp P N c (i+1) Q E κ2)
  (hst:st c i N E none=true:=by kernel_rfl)
  (l:execOp (ev E) (zw c i)=uOf (Instr.storeAt T (.pointer (some ⟨bv,0+ix.toNat*1,none⟩)) (.pointer (some ⟨b,0,none⟩))):=by kernel_rfl):owp P N c i Q E κ:=by
 obtain ⟨e,k,rfl⟩:=ztu p;have d:bs.length<n:=by rw [h.len];exact k
 have j:ix.toNat=bs.length:=by rw [e,h.len];simp
 refine zsG (T:=T) (t:=tPo) (ix:=ix) (x':=some b) (b:=bv) (δ:=0) (vs:=[.pointer (some ⟨b,0,none⟩)]) (.pointer (some ⟨b,0,none⟩)) hst l ea h.vec (by omega) (by rw [zp9 h.le];omega) rfl hs rfl rfl
  (fun cs p=>by obtain ⟨x,_,l⟩:=p;rw [zju ((tPo.len l).trans (by rfl))];rfl) fun κ' s f=>?_
 rw [j,zzD d] at f;have m:Box τ' κ b [.pointer none,.int .i64 (L.length:Int)] eG:=by rw [←e];exact hb
 obtain ⟨F,q⟩:=h.push d s f m hne hle;refine znu (κ':=κ'.retag [b] τ) rfl (hk κ' _ (s.mono (fun g f=>er _ f)) q F)
theorem zAY {ix jx:Int} {T:TypeId} (h:Fst τ κ eP eG a n bs L) (hi:0≤ix∧ix.toNat<bs.length) (hj:0≤jx∧jx.toNat<bs.length) (hs:zM P T=some 1)
  (hk:∀ κ',Step (zvd a n bs) κ κ'→Fst τ κ' eP eG a n bs (L.set ix.toNat jx)→owp P N c (i+1) Q E κ')
  (hst:st c i N E none=true:=by kernel_rfl)
  (ho:execOp (ev E) (zw c i)=uOf (Instr.storeAt T (.pointer (some ⟨nb bs ix,0,none⟩)) (.pointer (some ⟨nb bs jx,0,none⟩))):=by kernel_rfl):owp P N c i Q E κ:=by
 obtain ⟨x,_,f⟩:=h.ncell hi;refine zax (b:=nb bs ix) (off:=0) (T:=T) (.pointer (some ⟨nb bs jx,0,none⟩)) [.pointer (some ⟨nb bs jx,0,none⟩)] [.pointer (some ⟨nb bs jx,0,none⟩),.int .i64 ix] hst ho f rfl hs rfl rfl rfl fun κ' s _ d=>?_;refine hk κ' (s.mono (fun g e=>?_)) (h.set hi hj s d);rw [fg.1 e];exact List.mem_append_right _ (fd (zpl hi.2))
end
section
variable {P:Program} {α:Type} {t:Ty α} {κ:K} {e T T2:TypeId} {a a2:Option Addr} {cp c2:Nat} {l l2 r:List α} {τ:Tag}
theorem zwj {b off n:Nat} {ys:List Value} {len cap:Nat} (h:zlk κ b off ys) (hn:n*t.size≤ys.length) [Fb] (C:Cx) (d:Nat) :
  (Builtin.firstCells t.size n (.slice (some ⟨b,off,none⟩) len cap)).run P (W C κ d)=.ok (ys.take (n*t.size)).toArray (W C κ d):=by
 refine run_firstCells_some _ t.size n ⟨b,off,none⟩ len cap (ys.take (n*t.size)) (by rw [ed];omega) (fun j v a=>?_);rw [zgC];rw [zjT];refine h j v ?_;rw [dh] at a;split at a
 ·exact a
 ·cases a
theorem zus {src:Option Addr} {len cap:Nat} [Fb] (C:Cx) (d:Nat):(Builtin.firstCells t.size 0 (.slice src len cap)).run P (W C κ d)=.ok #[] (W C κ d):=by
 cases src<;>simp [Builtin.firstCells,loadCells,loadCellsFrom]
theorem zy1 {ty:TypeId} (hT:zJ P T=some e) (hs:zM P e=some t.size) (hg:Gr t false τ κ e a cp l) (h2:Sl t κ a2 c2 l2) [Fb] (C:Cx) (d:Nat) :
  ∃ κ',(Builtin.copy_ #[T,T2] ty #[.slice a l.length cp,.slice a2 l2.length c2]).run P (W C κ d)=.ok (.int .i64 (min l2.length l.length:Nat)) (W C κ' d)∧Step (blk a cp) κ κ'∧Gr t false τ κ' e a cp (cpy l 0 l2):=by
 obtain ⟨j,f,hp⟩:=Rep.of_sl h2;have key:∀ (g:Nat),(0<l.length→a=some ⟨g,0,none⟩)→∃ κ',(Builtin.copy_ #[T,T2] ty #[.slice a l.length cp,.slice a2 l2.length c2]).run P (W C κ d)=.ok (.int .i64 (min l2.length l.length:Nat)) (W C κ' d)∧Step (blk a cp) κ κ'∧Gr t false τ κ' e a cp (cpy l 0 l2):=by
  intro g i;have:=zrv (P:=P) (T:=T) (T2:=T2) (ty:=ty) (dcap:=cp) (lo:=0) (da:=a) hT hs hg i (Nat.zero_le _) (.slice a2 l2.length c2) j f (fun h=>by rw [i h];simp) C d (fun w=>rfl) (fun n p=>by
   by_cases q:l2.length=0
   ·have:n=0:=by omega
    subst this;rw [zus];simp
   ·obtain ⟨b,off,m,c⟩:=hp (by omega);rw [m];exact zwj c.2.2 (by rw [f.length];exact gk _ p) C d)
  simpa using this
 rcases hg.body with ⟨_,k⟩ | ⟨g,cur,xs,i,_⟩
 ·exact key 0 (fun h=>by rw [k] at h;simp at h)
 ·exact key g (fun _=>i)
theorem zAd {hi:Int} (hT:zJ P T=some e) (hs:zM P e=some t.size) (hcap:l.length≤cp) (hx:zkY l 0 hi=some r) (w:World) :
  (Instr.sliceAt T (.slice a l.length cp) none (zoQ (some hi)) none).run P w=.ok (.slice a r.length cp) w:=by
 have:=zj4 (P:=P) (T:=T) (a:=a) (lo:=none) (hi:=some hi) hT hs hcap hx w;have c:((Option.getD none 0:Int).toNat)=0:=rfl;rw [c,Nat.zero_mul,Nat.sub_zero] at this;have b:(if cp=0 then a else a.map (·.add 0))=a:=by
  split
  ·rfl
  ·cases a<;>simp [Addr.add]
 rw [b] at this;exact this
theorem zy0 {ty:TypeId} {lo hi:Int} {q p:List α} (hT:zJ P T=some e) (hs:zM P e=some t.size) (hg:Gr t false τ κ e a cp l) (hq:zkY l lo l.length=some q) (hp:zkY l 0 hi=some p) [Fb] (C:Cx) (d:Nat) :
  ∃ κ',(Builtin.copy_ #[T,T2] ty #[.slice (if cp=lo.toNat then a else a.map (·.add (lo.toNat*t.size))) q.length (cp - lo.toNat),.slice a p.length cp]).run P (W C κ d)=.ok (.int .i64 (min p.length (l.length - lo.toNat):Nat)) (W C κ' d)∧
   Step (blk a cp) κ κ'∧Gr t false τ κ' e a cp (cpy l lo.toNat p):=by
 obtain ⟨A,y,u,rfl⟩:=znk hq;obtain ⟨B,x,z,rfl⟩:=znk hp;have m:(List.drop lo.toNat (List.take (l.length:Int).toNat l)).length=l.length - lo.toNat:=by simp
 rw [m];have k:List.drop (0:Int).toNat (List.take hi.toNat l)=l.take hi.toNat:=by simp
 rw [k];have r:=hg.cap;rcases hg.body with ⟨s,f⟩ | ⟨g,cur,xs,ha,hr,hH,h6,h7,h8,h9,_⟩
 ·have b:Rep t κ [] (l.take hi.toNat):=by rw [f];simp;rfl
  have:=zrv (P:=P) (T:=T) (T2:=T2) (ty:=ty) (dcap:=cp - lo.toNat) (lo:=lo.toNat) (g:=0) (da:=if cp=lo.toNat then a else a.map (·.add (lo.toNat*t.size))) hT hs hg (fun h=>by rw [f] at h;simp at h) (by omega) (.slice a (l.take hi.toNat).length cp) [] b (fun h=>by rw [f] at h;simp at h) C d (fun w=>rfl) (fun n i=>by
   have:n=0:=by rw [f] at i;simpa using i
   subst this;rw [zus];simp)
  exact this
 ·have b:=hr.take hi.toNat;have:=zrv (P:=P) (T:=T) (T2:=T2) (ty:=ty) (dcap:=cp - lo.toNat) (lo:=lo.toNat) (g:=g) (da:=if cp=lo.toNat then a else a.map (·.add (lo.toNat*t.size))) hT hs hg (fun _=>ha) (by omega) (.slice a (l.take hi.toNat).length cp) _ b (fun h=>by
   rw [if_neg (by omega),ha];simp [zgC]) C d (fun w=>rfl) (fun n i=>by
   rw [ha];refine zwj (fun j v c=>?_) (by rw [b.length];exact gk _ i) C d;rw [dh] at c;split at c
   ·rw [←h9,dh] at c;split at c
    ·unfold K.cell;rw [hH];simpa using c
    ·cases c
   ·cases c)
  exact this
end
section
variable [Fc] [Fb] {P:Program} {n:Nat} {c:Code} {i k:Nat} {nq:List Nat} {q0:Nat} {M π:List Nat} {Q:za6} {E:Env} {κ:K} {α:Type} {t:Ty α} {e T T2:TypeId} {a a2:Option Addr} {cp c2:Nat} {l l2 p q:List α} {τ:Tag}
theorem zCm {d:Nat} {ty:TypeId} (hg:Gr t false τ κ e a cp l) (h2:Sl t κ a2 c2 l2) (hk:∀ κ',Step (blk a cp) κ κ'→Gr t false τ κ' e a cp (cpy l 0 l2)→owp P n c (i+1) Q (upd E d (.int .i64 (min l2.length l.length:Nat))) κ')
  (h:st c i n E (some d)=true:=by kernel_rfl) (ho:execOp (ev E) (zw c i)=vOf (Builtin.copy_ #[T,T2] ty #[.slice a l.length cp,.slice a2 l2.length c2]):=by kernel_rfl)
  (hT:zJ P T=some e:=by kernel_rfl) (hs:zM P e=some t.size:=by kernel_rfl):owp P n c i Q E κ:=by
 refine zgT (fun v κ'=>v=.int .i64 (min l2.length l.length:Nat)∧Step (blk a cp) κ κ'∧Gr t false τ κ' e a cp (cpy l 0 l2)) h (fun C g=>?_) ?_
 ·obtain ⟨κ',j,b,f⟩:=zy1 (P:=P) (T:=T) (T2:=T2) (ty:=ty) hT hs hg h2 C g;exact ⟨_,κ',g,by rw [ho];exact zG j,rfl,b,f⟩
 ·rintro v κ' ⟨rfl,b,f⟩;exact hk κ' b f
theorem zCd {d:Nat} {ty:TypeId} {lo hi:Int} (hg:Gr t false τ κ e a cp l) (hq:zkY l lo l.length=some q) (hp:zkY l 0 hi=some p) (hrel:zqD q0 M i=Step (blk a cp))
  (hk:∀ κ',Step (blk a cp) κ κ'→Gr t false τ κ' e a cp (cpy l lo.toNat p)→xwp P n c k nq q0 M π Q (upd E d (.int .i64 (min p.length (l.length - lo.toNat):Nat))) κ')
  (h:xsN c nq i E d=true:=by kernel_rfl) (ho:execOp (ev E) (zw c i)=vOf (Builtin.copy_ #[T,T2] ty #[.slice (if cp=lo.toNat then a else a.map (·.add (lo.toNat*t.size))) q.length (cp - lo.toNat),.slice a p.length cp]):=by kernel_rfl)
  (hT:zJ P T=some e:=by kernel_rfl) (hs:zM P e=some t.size:=by kernel_rfl):xwp P n c k nq q0 M (i::π) Q E κ:=by
 refine zqf (fun v κ'=>v=.int .i64 (min p.length (l.length - lo.toNat):Nat)∧Step (blk a cp) κ κ'∧Gr t false τ κ' e a cp (cpy l lo.toNat p)) h (fun v κ' j=>by rw [hrel];exact j.2.1) (fun C g=>?_) ?_
 ·obtain ⟨κ',m,b,f⟩:=zy0 (P:=P) (T:=T) (T2:=T2) (ty:=ty) hT hs hg hq hp C g;exact ⟨_,κ',g,by rw [ho];exact zG m,rfl,b,f⟩
 ·rintro v κ' ⟨rfl,b,f⟩;exact hk κ' b f
theorem zz3 {F:Env} (h:E=F) (hk:xwp P n c k nq q0 M π Q F κ):xwp P n c k nq q0 M π Q E κ:=by rw [h];exact hk
theorem zBO {lo:Nat} (h:l.length≤maxLen):I64 ((min p.length (l.length - lo):Nat):Int):=by
 rw [zlo] at h;unfold I64;omega
theorem zAL (h:l.length≤maxLen):I64 ((min l2.length l.length:Nat):Int):=by
 rw [zlo] at h;unfold I64;omega
end
theorem zzw {α:Type} {l r:List α} {lo:Nat} {l2:List α} (h:some (cpy l lo l2)=some r) (hlo:lo≤l.length):r.length=l.length:=by
 injection h with h;rw [←h];exact zvg hlo
theorem zzU {α:Type} {t:Ty α} {pub:Bool} {τ:Tag} {κ:K} {e:TypeId} {a:Option Addr} {c:Nat} {l r:List α} (h:some l=some r) (hg:Gr t pub τ κ e a c l):Gr t pub τ κ e a c r:=by injection h with h;rw [←h];exact hg
theorem zz9 {α:Type} {l r:List α} {lo:Int} (h:zkY l lo l.length=some r):lo.toNat≤l.length:=by
 obtain ⟨b,a,_⟩:=znk h;omega
inductive Er where
 | nil | line (l c:Int) | whole | other
structure Globg (tab:List Int) (ts rt gw ge gsy gra gta nv te:Nat) (κ:K):Prop where
 whole:∃ a,PubAt κ gw 0 [.iface ts (.pointer (some a))]
 syn:∃ t p,PubAt κ gsy 0 [.iface t p]
 rng:∃ t p,PubAt κ gra 0 [.iface t p]
 pow:PubAt κ gta 0 (tab.map (Value.int .u64))
 psz:0<tab.length∧∃ e k,κ.shp gta=some (e,tab.length,k)
 ety:PubAt κ ge 0 [.iface rt (.agg #[.pointer (some ⟨nv,te,none⟩)])]
section
variable [Fc] [Fb] {P:Program} {n:Nat} {c:Code} {i:Nat} {Q:za6} {E:Env} {κ:K}
end
section
variable {α β:Type} {tb:Ty β} {t:Ty α}
def tX (tb:Ty β) (t:Ty α):Ty ((β×List α)×Hd):=
 ⟨tb.size+1,fun κ cs x=>∃ c1,cs=c1++[.slice x.2.1 x.2.2.1 x.2.2.2]∧tb.own κ c1 x.1.1∧x.2.2.1=x.1.2.length∧Sl t κ x.2.1 x.2.2.2 x.1.2,
  fun ⟨c1,h,h1,_⟩=>by rw [h,dl,tb.len h1];rfl,
  fun s ⟨c1,h,h1,h2,h3⟩=>⟨c1,h,tb.step s h1,h2,h3.step s⟩,
  fun ⟨c1,h,h1,_⟩ v hv=>by
   rw [h,ep] at hv;rcases hv with hv | hv
   ·exact tb.one h1 v hv
   ·rw [fg.1 hv];rfl⟩
structure GrT (tb:Ty β) (t:Ty α) (S:Nat) (eS:TypeId) (τ:Tag) (κ:K) (e:TypeId) (a:Option Addr) (c:Nat) (L:List (β×List α)) (H:List (Hd×Nat)):Prop where
 len:H.length=L.length
 gr:Gr (tX tb t) true τ κ e a c (L.zip (H.map Prod.fst))
 pw:H.Pairwise (fun x y=>0<x.1.2.1→0<y.1.2.1→x.2≠y.2)
 home:∀ x∈H,0<x.1.2.1→∃ b,x.1.1=some ⟨b,0,none⟩∧b<κ.H.size∧κ.tag b=(x.2,S)∧x.2≤b∧0<κ.fr b∧κ.shp b=some (eS,x.1.2.2*t.size,(0,0))∧x.1.2.2≤maxLen
variable {S:Nat} {eS e:TypeId} {τ:Tag} {κ κ':K} {a:Option Addr} {c:Nat} {L:List (β×List α)} {H:List (Hd×Nat)} {M:List Nat}
end
section
variable [Fc] [Fb] {P:Program} {n:Nat} {c:Code} {i k:Nat} {nq:List Nat} {q0:Nat} {M π:List Nat} {Q:za6} {E:Env} {κ:K} {α β:Type} {tb:Ty β} {t:Ty α} {S:Nat} {eS e T:TypeId} {τ τ2:Tag} {a a2:Option Addr} {cp c2:Nat} {L r:List (β×List α)} {H:List (Hd×Nat)} {x:β×List α} {hd:Hd} {N:Nat}
end
def zwD (k:IntKind) (x n:Int):Option Int:=if 0≤n then some (k.wrap (x*2 ^ (min n.toNat k.bits))) else none
def ztZ (k:IntKind) (x y:Int):Int:=k.wrap ((BitVec.ofInt k.bits x &&& BitVec.ofInt k.bits y).toNat:Int)
def ior (k:IntKind) (x y:Int):Int:=k.wrap ((BitVec.ofInt k.bits x ||| BitVec.ofInt k.bits y).toNat:Int)
def zBH (x y:Int):Int:=if y>x then y else x
theorem zzz (x y:Int):I64 (ior .i64 x y):=zp _
def zvJ (k:IntKind) (x n:Int):Option Int:=if 0≤n then some (x.fdiv (2 ^ (min n.toNat k.bits))) else none
section
variable {P:Program} {E:Env} {c:Code} {i:Nat} {T:TypeId} {w:World}
theorem zsF {k yk:IntKind} {x n r:Int} (h:execOp (ev E) (zw c i)=vOf (Op.shift .shl k x yk n)) (hx:zwD k x n=some r) :
  (execOp (ev E) (zw c i)).run P w=.ok (.value (.int k r)) w:=by
 unfold zwD at hx;split at hx
 ·rename_i h0;obtain rfl:=Option.some.inj hx;rw [h];refine zG ?_;unfold Op.shift;rw [if_neg (by omega)];rfl
 ·cases hx
theorem zuO {k yk:IntKind} {x n r:Int} (h:execOp (ev E) (zw c i)=vOf (Op.shift .shr k x yk n)) (hx:zvJ k x n=some r) :
  (execOp (ev E) (zw c i)).run P w=.ok (.value (.int k r)) w:=by
 unfold zvJ at hx;split at hx
 ·rename_i h0;obtain rfl:=Option.some.inj hx;rw [h];refine zG ?_;unfold Op.shift;rw [if_neg (by omega)];rfl
 ·cases hx
end
def zsR (P:Program) (f:Field) (off:Nat):Bool:=
 (f.name != "_")&&Nat.beq f.offset off&&zjU P f.type&&(zM P f.type == some 2)&&(zen P f.type == some true)
def zpa (P:Program) (T:TypeId):Bool:=
 (match P.underlying T with | some (.struct _)=>true | _=>false)&&!P.stoodInHeld T&&!P.eqGuardType P.depth T &&
 (match (P.fieldsOf T).toList with | [f,g]=>zsR P f 0&&zft P g 2 | _=>false)
section
variable {P:Program}
theorem zvK {T:TypeId} (h:zjU P T=true) (d:Nat) (k1 k2:IntKind) (a b a' b':Int) (w:World) :
  (Op.equalIn (d+2) T (.agg #[.int k1 a,.int k2 b]) (.agg #[.int k1 a',.int k2 b'])).run P w=.ok (decide (a=a')&&decide (b=b')) w:=by
 unfold zjU at h;simp only [an,aq] at h;obtain ⟨⟨⟨m,p⟩,r⟩,e⟩:=h;have q:P.underlying T=some (.struct (P.fieldsOf T)):=by
  unfold Program.fieldsOf;split at m
  ·rename_i fs hfs;simp [hfs]
  ·cases m
 rw [show d+2=(d+1)+1 from rfl,run_equalIn_agg w (d+1) T _ _ q p];split at e
 ·rename_i f g hfg;rw [hfg];simp only [an] at e;obtain ⟨c,i⟩:=e;have j:f.name ≠ "_" := by
   have:=c;unfold zft at this;simp only [an] at this;simpa using this.1.1
  have k:g.name ≠ "_" := by
   have:=i;unfold zft at this;simp only [an] at this;simpa using this.1.1
  simp only [Op.eqFields,if_pos j,if_pos k,aw];rw [zaU c (v:=.int k1 a) rfl];simp only [av];rw [zaU c (v:=.int k1 a') rfl];simp only [av];rw [zko c];simp only [av];by_cases l:a=a'
  ·subst l;simp only [BEq.rfl,au,ap,if_false,decide_true,Bool.true_and,aw];rw [zaU i (v:=.int k2 b) rfl];simp only [av];rw [zaU i (v:=.int k2 b') rfl];simp only [av];rw [zko i];simp only [av];by_cases n:b=b'
   ·subst n;simp
   ·simp [n]
  ·simp [l]
 ·cases e
theorem zr0 {f:Field} (h:zsR P f 0=true) (x y z:Value) (w:World):(part f.type #[x,y,z] f.offset).run P w=.ok (.agg #[x,y]) w:=by
 unfold zsR at h;simp only [an] at h;have b:=fx h.1.1.1.2;have hs:zM P f.type=some 2:=by simpa using h.1.2
 have a:zen P f.type=some true:=by simpa using h.2
 unfold part;simp [zln a,b,zaX hs,Result.andThen]
theorem zAe {T:TypeId} (h:zpa P T=true) (k1 k2 k3:IntKind) (a b c a' b' c':Int) (w:World) :
  (Op.equalIn 10000 T (.agg #[.int k1 a,.int k2 b,.int k3 c]) (.agg #[.int k1 a',.int k2 b',.int k3 c'])).run P w=.ok ((decide (a=a')&&decide (b=b'))&&decide (c=c')) w:=by
 unfold zpa at h;simp only [an,aq] at h;obtain ⟨⟨⟨n,q⟩,s⟩,e⟩:=h;have r:P.underlying T=some (.struct (P.fieldsOf T)):=by
  unfold Program.fieldsOf;split at n
  ·rename_i fs hfs;simp [hfs]
  ·cases n
 rw [show (10000:Nat)=9999+1 from rfl,run_equalIn_agg w 9999 T _ _ r q];split at e
 ·rename_i f g hfg;rw [hfg];simp only [an] at e;obtain ⟨d,i⟩:=e;have j:f.name ≠ "_" := by
   have:=d;unfold zsR at this;simp only [an] at this;simpa using this.1.1.1.1
  have k:zjU P f.type=true:=by
   have:=d;unfold zsR at this;simp only [an] at this;exact this.1.1.2
  have l:g.name ≠ "_" := by
   have:=i;unfold zft at this;simp only [an] at this;simpa using this.1.1
  simp only [Op.eqFields,if_pos j,if_pos l,aw];rw [zr0 d];simp only [av];rw [zr0 d];simp only [av];rw [show (9999:Nat)=9997+2 from rfl,zvK k];simp only [av];by_cases m:(decide (a=a')&&decide (b=b'))=true
  ·simp only [m,au,ap,if_false,Bool.true_and,aw];rw [zaU i (v:=.int k3 c) rfl];simp only [av];rw [zaU i (v:=.int k3 c') rfl];simp only [av];rw [show (9997+2:Nat)=9998+1 from rfl,zko i];simp only [av];by_cases p:c=c'
   ·subst p;simp
   ·simp [p]
  ·simp [m]
 ·cases e
theorem zpS {E:Env} {cd:Code} {i:Nat} {T:TypeId} {k1 k2 k3:IntKind} {a b c a' b' c':Int} {w:World}
  (h:execOp (ev E) (zw cd i)=vOf (do eqGuard .neq T (.tmp 0) (.tmp 0) (.agg #[.int k1 a,.int k2 b,.int k3 c]) (.agg #[.int k1 a',.int k2 b',.int k3 c']);binOp .neq T (.agg #[.int k1 a,.int k2 b,.int k3 c]) (.agg #[.int k1 a',.int k2 b',.int k3 c'])))
  (hT:zpa P T=true):(execOp (ev E) (zw cd i)).run P w=.ok (.value (.bool (!((decide (a=a')&&decide (b=b'))&&decide (c=c'))))) w:=by
 rw [h];refine zG ?_;have hm:P.eqGuardType P.depth T=false:=by unfold zpa at hT;simp only [an,aq] at hT;exact hT.1.2
 rw [aw,run_eqGuard_agg _ _ _ _ _ _ _ hm];simp only [av];rw [run_neq_struct,zAe hT];rfl
end
def zlQ {α β:Type} [DecidableEq α] (m:List (α×β)) (k:α):List (α×β):=m.filter (fun p=>!decide (p.1=k))
theorem zvc {α β:Type} [DecidableEq α] {m:List (α×β)} {j:Nat} {x:α} {y:β} (hnd:m.Pairwise (fun p q=>p.1≠q.1)) (hj:m[j]?=some (x,y)):zlQ m x=m.eraseIdx j:=by
 unfold zlQ
 induction m generalizing j with
 | nil=>simp at hj
 | cons q m ih=>
  obtain ⟨b,c⟩:=fj.1 hnd;cases j with
  | zero=>
   simp at hj;subst hj;rw [List.filter_cons,if_neg (by simp),List.eraseIdx_cons_zero];exact bu.2 fun p hp=>by simpa using (b p hp).symm
  | succ j=>
   simp at hj;have a:q.1≠x:=b (x,y) (fd hj);rw [List.filter_cons,if_pos (by simpa using a),List.eraseIdx_cons_succ,ih c hj]
section
variable {α β:Type} {kt:KT α} {t:Ty β} {τ:Tag} {κ κ':K} {b:Nat} {m:List (α×β)} [DecidableEq α]
theorem zx7 {x:α} (h:zhi m x=false):zlQ m x=m:=by
 unfold zlQ;refine bu.2 fun p hp=>?_;unfold zhi at h;rw [List.any_eq_false] at h;simpa using h p hp
theorem zyZ {P:Program} {T kd e ty:TypeId} {x:α} (h:Mp kt t τ κ b m) (hT:zf0 P T=some (kd,e)) (hk:KeyOk P kd kt) [Fb] (C:Cx) (d:Nat) :
  ∃ κ',(Builtin.delete_ #[T,kd] ty #[.map (some b),kt.enc x]).run P (W C κ d)=.ok (.tuple #[]) (W C κ' d)∧Step [b] κ κ'∧κ.H.size=κ'.H.size∧Mp kt t τ κ' b (zlQ m x):=by
 obtain ⟨g,c,w,hsz,u,v,n⟩:=h.obj;have s:=zuB C κ d b w P;have F:∀ (a:Array MapEntry),a.size=(zlQ m x).length→(∀ κ':K,Step [b] κ κ'→∀ (i:Nat) (p:α×β),(zlQ m x)[i]?=some p→∃ e,a[i]?=some e∧e.key=kt.enc p.1∧t.own κ' [e.val] p.2)→
   ((a.toList.map (·.born)).Pairwise (· < ·)∧∀ e∈a.toList,e.born<c)→
   Step [b] κ (κ.setO b (.map a c))∧κ.H.size=(κ.setO b (.map a c)).H.size∧Mp kt t τ (κ.setO b (.map a c)) b (zlQ m x):=by
  intro a H G J;have r:Step [b] κ (κ.setO b (.map a c)):=zll h.fr;exact ⟨r,by simp [K.setO],⟨a,c,by simp [K.setO,h.lt],H,G _ r,J⟩,List.Pairwise.filter _ h.nd,h.fr,h.tag,h.ge⟩
 rcases zsH h hk x w (W C κ d) with ⟨I,E,D⟩ | ⟨j,en,y',g0,I,E,D,g4,g5,g6⟩
 ·have l:=zx7 E;refine ⟨κ.setO b (.map g c),?_,F _ ?_ ?_ ⟨v,n⟩⟩
  ·unfold Builtin.delete_;simp [zF (zcB hT),s,hk.check,D,zrh C κ d b _ w P]
  ·rw [l];exact hsz
  ·intro κ' hs i p hp;rw [l] at hp;obtain ⟨e,k,f,B⟩:=u i p hp;exact ⟨e,k,f,t.step hs B⟩
 ·have z:j<g.size:=(ae.1 D).1;have l:zlQ m x=m.eraseIdx j:=zvc h.nd g0;have el:(g.eraseIdxIfInBounds j).toList=g.toList.eraseIdx j:=by
   unfold Array.eraseIdxIfInBounds;rw [dif_pos z,Array.toList_eraseIdx]
  refine ⟨κ.setO b (.map (g.eraseIdxIfInBounds j) c),?_,F _ ?_ ?_ ⟨?_,?_⟩⟩
  ·unfold Builtin.delete_;simp [zF (zcB hT),s,hk.check,g6,zrh C κ d b _ w P]
  ·rw [l,←am,el,List.length_eraseIdx,List.length_eraseIdx,am,hsz]
  ·intro κ' hs i p hp;rw [l] at hp;rw [List.getElem?_eraseIdx] at hp;have key:∀ y,m[y]?=some p→∃ e:MapEntry,g[y]?=some e∧e.key=kt.enc p.1∧t.own κ' [e.val] p.2:=fun y A=>by
    obtain ⟨e,k,f,B⟩:=u y p A;exact ⟨e,k,f,t.step hs B⟩
   rw [←aj,el,List.getElem?_eraseIdx];by_cases q:i<j
   ·rw [if_pos q] at hp ⊢;rw [aj];exact key i hp
   ·rw [if_neg q] at hp ⊢;rw [aj];exact key (i+1) hp
  ·rw [el];exact v.sublist ((List.eraseIdx_sublist _ _).map _)
  ·intro e k;rw [el] at k;exact n e (List.mem_of_mem_eraseIdx k)
end
structure It {α β:Type} (τ:Tag) (κ:K) (r b:Nat) (m:List (α×β)) (done:List α) (cur:Option (α×β)):Prop where
 obj:∃ (es:Array MapEntry) (clock since:Nat) (seen:Array Nat) (c0:Nat),κ.H[b]?=some (.map es clock)∧κ.H[r]?=some (.mapIter (some b) since seen c0)∧(∀ e∈es.toList,e.born<since)∧since≤c0∧since≤clock∧
  (∀ (i:Nat) (p:α×β) (e:MapEntry),m[i]?=some p→es[i]?=some e→(seen.contains e.born=true↔p.1∈done))∧
  (∀ p,cur=some p→∃ (i:Nat) (e:MapEntry) (seen':Array Nat),m[i]?=some p∧es[i]?=some e∧seen=seen'.push e.born∧c0=clock)
 fr:κ.fr r=0
 tag:κ.tag r=τ
 ge:τ.1≤r
section
variable {α β:Type} {kt:KT α} {t:Ty β} {τ τ':Tag} {κ κ':K} {b r:Nat} {m:List (α×β)} {done:List α} {cur:Option (α×β)}
theorem It.lt (h:It τ κ r b m done cur):r<κ.H.size:=by
 obtain ⟨_,_,_,_,_,_,a,_⟩:=h.obj;exact (ae.1 a).1
theorem It.o (h:It τ κ r b m done cur):Own τ κ r:=⟨h.lt,h.fr,h.tag,h.ge⟩
theorem It.ltb (h:It τ κ r b m done cur):b<κ.H.size:=by
 obtain ⟨_,_,_,_,_,a,_⟩:=h.obj;exact (ae.1 a).1
theorem It.step {M:List Nat} (s:Step M κ κ') (hr:r∉M) (hb:b∉M) (h:It τ κ r b m done cur):It τ κ' r b m done cur:=by
 obtain ⟨g,d,a,c,j,f,e,i⟩:=h.obj;exact ⟨⟨g,d,a,c,j,(s.2.1 b h.ltb hb).1.trans f,(s.2.1 r h.lt hr).1.trans e,i⟩,(s.2.1 r h.lt hr).2.1.trans h.fr,(s.2.1 r h.lt hr).2.2.trans h.tag,h.ge⟩
variable {P:Program}
theorem zwF {T kd e:TypeId} (h:Mp kt t τ κ b m) (hτ:τ'.1≤κ.H.size) (hT:zf0 P T=some (kd,e)) [Fb] (C:Cx) (d:Nat) :
  ∃ κ',(Instr.range T (.map (some b))).run P (W C κ d)=.ok (.pointer (some ⟨κ.H.size,0,none⟩)) (W C κ' d)∧Step [] κ κ'∧It τ' κ' κ.H.size b m [] none:=by
 obtain ⟨n,a,g,hsz,k,l,c⟩:=h.obj;have f:=zuB C κ d b g P;refine ⟨κ.push (.mapIter (some b) a #[] a) 0 τ',?_,zcM _ _ _ _,⟨⟨n,a,a,#[],a,?_,by simp [K.push],c,ga _,ga _,fun i p e _ _=>by simp,fun p hp=>by cases hp⟩,by simp [K.push],by simp [K.push],hτ⟩⟩
 ·unfold Instr.range;simp only [aw,zF (zcB hT),av,f];rfl
 ·have j:=h.lt;simp only [K.push];rw [Array.getElem?_push,if_neg (by omega)];exact g
theorem zxR {ty:TypeId} (h:Mp kt t τ κ b m) (hi:It τ' κ r b m done cur) (hrb:r≠b) [Fb] (C:Cx) (d:Nat) :
  ((∀ p∈m,p.1∈done)∧(Instr.next (.pointer (some ⟨r,0,none⟩)) false ty).run P (W C κ d)=.ok (.tuple #[.bool false]) (W C κ d)) ∨
  ∃ (p:α×β) (v:Value) (κ':K) (d':Nat),p∈m∧p.1∉done∧t.own κ' [v] p.2∧(Instr.next (.pointer (some ⟨r,0,none⟩)) false ty).run P (W C κ d)=.ok (.tuple #[.bool true,kt.enc p.1,v]) (W C κ' d')∧
   Step [r] κ κ'∧κ.H.size=κ'.H.size∧It τ' κ' r b m (p.1::done) (some p):=by
 obtain ⟨x,R,X,hsz,S,a1,a4⟩:=h.obj;obtain ⟨a8,b2,f,a,c0,y,hr,D,a2,B,l,_⟩:=hi.obj;rw [X] at y;injection y with y
 injection y with e1 e2
 subst e1;subst e2;have L:∀ e∈x.toList,∃ (i:Nat) (p:α×β),m[i]?=some p∧x[i]?=some e∧e.key=kt.enc p.1∧t.own κ [e.val] p.2:=by
  intro e n;obtain ⟨i,k⟩:=cv n;rw [aj] at k;have c:i<m.length:=by rw [←hsz];exact (ae.1 k).1
  obtain ⟨E,g,Z,ho⟩:=S i m[i] (by simp [c]);rw [k] at g;injection g with g
  subst g;exact ⟨i,m[i],by simp [c],k,Z,ho⟩
 rcases run_next_at (P:=P) (W C κ d) ty r b f c0 a x R hr X D a2 with ⟨h0,w⟩ | ⟨e,n,w1,hal,w⟩
 ·refine .inl ⟨fun p hp=>?_,w⟩;obtain ⟨i,k⟩:=cv hp;obtain ⟨e,n,_,_⟩:=S i p k;refine (l i p e k n).1 ?_;by_cases hc:a.contains e.born=true
  ·exact hc
  ·exfalso;have:e∈leftOf x a:=by
    unfold leftOf;rw [Array.mem_filter];exact ⟨Array.mem_of_getElem? n,by simpa using hc⟩
   have:=Array.size_pos_of_mem this;omega
 ·obtain ⟨Y,A⟩:=mem_left n;obtain ⟨i,p,u,z,hk,ho⟩:=L e Y;have N:Step [r] κ (κ.setO r (.mapIter (some b) f (a.push e.born) R)):=zll hi.fr;refine .inr ⟨p,e.val,κ.setO r (.mapIter (some b) f (a.push e.born) R),w1.drawn - C.base,fd u,fun hd=>?_,t.step N ho,?_,N,by simp [K.setO],⟨⟨x,R,f,a.push e.born,R,?_,by simp [K.setO,hi.lt],D,B,B,?_,?_⟩,?_,?_,hi.ge⟩⟩
  ·rw [(l i p e u z).2 hd] at A;cases A
  ·rw [w,hk];congr 1;rcases hal with rfl | rfl
   ·simp [ChangeMaps.setBlock,W,K.setO]
   ·simp [ChangeMaps.setBlock,W,K.setO,World.drew];omega
  ·simp only [K.setO];rw [ag (fun e=>hrb e)];exact X
  ·intro j q E G g;have V:(a.push e.born).contains E.born=(a.contains E.born||(E.born == e.born)):=by
    rw [Array.contains_push]
   rw [V,Bool.or_eq_true,eu,l j q E G g];have T:j<x.size:=(ae.1 g).1;have U:i<x.size:=(ae.1 z).1;have H:x[j]=E:=(ae.1 g).2;have J:x[i]=e:=(ae.1 z).2;have M:j<m.length:=(co.1 G).1;have Q:i<m.length:=(co.1 u).1;have I:m[j]=q:=(co.1 G).2;have F:m[i]=p:=(co.1 u).2;have h1:E.born=e.born↔i=j:=by
    constructor
    ·intro a9;have s:=fm.1 a1;rcases gj i j with c | n | c
     ·have:=s i j (by simpa using U) (by simpa using T) c;simp only [List.getElem_map,Array.getElem_toList,J,H] at this;omega
     ·exact n
     ·have:=s j i (by simpa using T) (by simpa using U) c;simp only [List.getElem_map,Array.getElem_toList,J,H] at this;omega
    ·intro n;subst n;rw [←H,←J]
   have h2:q.1=p.1↔i=j:=by
    constructor
    ·intro O;have s:=fm.1 h.nd;rcases gj i j with c | n | c
     ·have:=s i j Q M c;rw [F,I] at this;exact absurd O.symm this
     ·exact n
     ·have:=s j i M Q c;rw [F,I] at this;exact absurd O this
    ·intro n;subst n;rw [←I,←F]
   have h3:((E.born == e.born)=true)↔q.1=p.1:=by rw [h2,←h1];simp
   rw [h3];exact or_comm
  ·intro q G;injection G with G
   subst G;exact ⟨i,e,a,u,z,rfl,rfl⟩
  ·exact hi.fr
  ·exact hi.tag
theorem zwG {p:α×β} (h:Mp kt t τ κ b m) (hi:It τ' κ r b m done (some p)) [Fb] (C:Cx) (d:Nat) :
  ∃ v,t.own κ [v] p.2∧(Instr.entry (.pointer (some ⟨r,0,none⟩))).run P (W C κ d)=.ok (.tuple #[kt.enc p.1,v]) (W C κ d):=by
 obtain ⟨A,M,y,hsz,s,u,B⟩:=h.obj;obtain ⟨E,H,f,x,J,c,G,z,I,w,q,k⟩:=hi.obj;rw [y] at c;injection c with c
 injection c with e1 e2
 subst e1;subst e2;obtain ⟨i,e,g,n,j,rfl,rfl⟩:=k p rfl;obtain ⟨L,a,D,F⟩:=s i p n;rw [j] at a;injection a with a
 subst a;refine ⟨e.val,F,?_⟩;have l:e∈A.toList:=by
  rw [←aj] at j;exact fd j
 rw [run_entry_at (P:=P) (W C κ d) r b f g A J e G y l (u.imp fun h=>Nat.ne_of_lt h),D]
end
section
variable [Fc] [Fb] {P:Program} {n:Nat} {c:Code} {i k:Nat} {Q:za6} {E:Env} {κ:K} {α β:Type} {kt:KT α} {t:Ty β} {τ τ':Tag} {b r:Nat} {m:List (α×β)} {done:List α} {cur:Option (α×β)}
theorem zzi (R:K→Prop) (h:st c i n E none=true)
  (hr:∀ C b,∃ v κ' d1,(execOp (ev E) (zw c i)).run P (W C κ b)=.ok (.value v) (W C κ' d1)∧R κ')
  (hk:∀ κ',R κ'→owp P n c (i+1) Q E κ'):owp P n c i Q E κ:=by
 refine zmw h (fun C b a d=>?_);obtain ⟨v,κ',d1,f,e⟩:=hr C b;obtain ⟨_,_,g,_⟩:=zhD h;refine zlq (by rw [d.eval];exact f) ?_;rw [g];exact hk κ' e C d1 _ d
theorem zB2 [DecidableEq α] (kt:KT α) {T kd e ty:Nat} {x:α} (hm:Mp kt t τ κ b m) (hk:∀ κ',Step [b] κ κ'→κ.H.size=κ'.H.size→Mp kt t τ κ' b (zlQ m x)→owp P n c (i+1) Q E κ')
  (hkd:KeyOk P kd kt) (hT:zf0 P T=some (kd,e):=by kernel_rfl) (h:st c i n E none=true:=by kernel_rfl)
  (ho:execOp (ev E) (zw c i)=vOf (Builtin.delete_ #[T,kd] ty #[.map (some b),kt.enc x]):=by kernel_rfl):owp P n c i Q E κ:=by
 refine zzi (fun κ'=>Step [b] κ κ'∧κ.H.size=κ'.H.size∧Mp kt t τ κ' b (zlQ m x)) h (fun C g=>?_) ?_
 ·obtain ⟨κ',j,d,a,f⟩:=zyZ hm hT hkd (x:=x) (ty:=ty) C g;exact ⟨_,κ',g,by rw [ho];exact zG j,d,a,f⟩
 ·rintro κ' ⟨d,a,f⟩;exact hk κ' d a f
theorem zBu {d T kd e:Nat} (τ':Tag) (hτ:τ'.1≤κ.H.size) (hm:Mp kt t τ κ b m) (hk:∀ r κ',Step [] κ κ'→κ.H.size≤r→It τ' κ' r b m [] none→owp P n c (i+1) Q (upd E d (.pointer (some ⟨r,0,none⟩))) κ')
  (hT:zf0 P T=some (kd,e):=by kernel_rfl) (h:st c i n E (some d)=true:=by kernel_rfl) (ho:execOp (ev E) (zw c i)=vOf (Instr.range T (.map (some b))):=by kernel_rfl):owp P n c i Q E κ:=by
 refine zgT (fun v κ'=>v=.pointer (some ⟨κ.H.size,0,none⟩)∧Step [] κ κ'∧It τ' κ' κ.H.size b m [] none) h (fun C g=>?_) ?_
 ·obtain ⟨κ',j,a,f⟩:=zwF hm hτ hT C g;exact ⟨_,κ',g,by rw [ho];exact zG j,rfl,a,f⟩
 ·rintro v κ' ⟨rfl,a,f⟩;exact hk _ κ' a (ga _) f
theorem onx {d ty:Nat} (hm:Mp kt t τ κ b m) (hi:It τ' κ r b m done cur) (hrb:r≠b)
  (h0:(∀ p∈m,p.1∈done)→owp P n c (i+1) Q (upd E d (.tuple #[.bool false])) κ)
  (h1:∀ p v κ',p∈m→p.1∉done→t.own κ' [v] p.2→Step [r] κ κ'→κ.H.size=κ'.H.size→It τ' κ' r b m (p.1::done) (some p)→owp P n c (i+1) Q (upd E d (.tuple #[.bool true,kt.enc p.1,v])) κ')
  (h:st c i n E (some d)=true:=by kernel_rfl) (ho:execOp (ev E) (zw c i)=vOf (Instr.next (.pointer (some ⟨r,0,none⟩)) false ty):=by kernel_rfl):owp P n c i Q E κ:=by
 refine zgT (fun v κ'=>(v=.tuple #[.bool false]∧κ=κ'∧∀ p∈m,p.1∈done) ∨
  ∃ p u,v=.tuple #[.bool true,kt.enc p.1,u]∧p∈m∧p.1∉done∧t.own κ' [u] p.2∧Step [r] κ κ'∧κ.H.size=κ'.H.size∧It τ' κ' r b m (p.1::done) (some p)) h (fun C f=>?_) ?_
 ·rcases zxR (ty:=ty) (P:=P) hm hi hrb C f with ⟨e,a⟩ | ⟨p,v,κ',d',e,a,g3,g4,g5,g6,g7⟩
  ·exact ⟨_,κ,f,by rw [ho];exact zG a,.inl ⟨rfl,rfl,e⟩⟩
  ·exact ⟨_,κ',d',by rw [ho];exact zG g4,.inr ⟨p,v,rfl,e,a,g3,g5,g6,g7⟩⟩
 ·rintro v κ' (⟨rfl,rfl,g⟩ | ⟨p,u,rfl,e,a,g3,g4,g5,g6⟩)
  ·exact h0 g
  ·exact h1 p u κ' e a g3 g4 g5 g6
theorem zBA {d:Nat} {p:α×β} (hm:Mp kt t τ κ b m) (hi:It τ' κ r b m done (some p)) (hk:∀ v,t.own κ [v] p.2→owp P n c (i+1) Q (upd E d (.tuple #[kt.enc p.1,v])) κ)
  (h:st c i n E (some d)=true:=by kernel_rfl) (ho:execOp (ev E) (zw c i)=vOf (Instr.entry (.pointer (some ⟨r,0,none⟩))):=by kernel_rfl):owp P n c i Q E κ:=by
 refine zgT (fun v κ'=>κ=κ'∧∃ u,v=.tuple #[kt.enc p.1,u]∧t.own κ [u] p.2) h (fun C e=>?_) ?_
 ·obtain ⟨u,a,f⟩:=zwG (P:=P) hm hi C e;exact ⟨_,κ,e,by rw [ho];exact zG f,rfl,u,rfl,a⟩
 ·rintro v κ' ⟨rfl,u,rfl,a⟩;exact hk u a
theorem zCq [DecidableEq α] (kt:KT α) {d T kd e:Nat} {x:α} {m:List (α×Int)} (hm:Mp kt tI64 τ κ b m) (hk:dwp P n c k (i+1) Q (upd E d (.tuple #[.int .i64 ((zdj m x).getD 0),.bool (zhi m x)])) κ)
  (hkd:KeyOk P kd kt) (hT:zf0 P T=some (kd,e):=by kernel_rfl) (h:dst c k i E d=true:=by kernel_rfl) (ho:execOp (ev E) (zw c i)=vOf (Instr.lookup T (.map (some b)) (kt.enc x) true):=by kernel_rfl)
  (hz:zeW P e=some (.int .i64 0):=by kernel_rfl):dwp P n c k i Q E κ:=by
 refine zli _ h (fun C f=>?_) hk;obtain ⟨v,a,_,g⟩:=zoI (y0:=(0:Int)) hm hT hkd hz ⟨rfl,by unfold I64;omega⟩ (x:=x) C f;obtain ⟨rfl,_⟩:=zqj a;rw [ho];exact zG g
theorem zAv [DecidableEq α] {m:List (α×Int)} {x:α} (hm:Mp kt tI64 τ κ b m):I64 ((zdj m x).getD 0):=by
 cases hg:zdj m x with
 | none=>show I64 0;unfold I64;omega
 | some y=>
  show I64 y;unfold zdj at hg;obtain ⟨p,hp,rfl⟩:=gu.1 hg;obtain ⟨j,c⟩:=cv (fc hp);obtain ⟨g,f,_,_,d,_⟩:=hm.obj;obtain ⟨e,_,_,a⟩:=d j p c;exact (zqj a).2
end
def zx4 {α β:Type} (m:List (α×β)):Option Int:=if m.length≤9223372036854775807 then some (m.length:Int) else none
theorem zx3 {α β:Type} {m:List (α×β)} {r:Int} (h:zx4 m=some r):(m.length:Int)=r∧I64 r:=by
 unfold zx4 at h;split at h
 ·obtain rfl:=Option.some.inj h;refine ⟨rfl,?_⟩;unfold I64;omega
 ·cases h
section
variable [Fc] [Fb] {P:Program} {n:Nat} {c:Code} {i:Nat} {Q:za6} {E:Env} {κ:K} {α β:Type} {kt:KT α} {t:Ty β} {τ τ':Tag} {b:Nat} {m:List (α×β)}
theorem zB1 {d T k e:Nat} {r:Int} (h0:Mp kt t τ κ b m) (hx:zx4 m=some r) (hk:owp P n c (i+1) Q (upd E d (.int .i64 r)) κ)
  (h:st c i n E (some d)=true:=by kernel_rfl) (ho:execOp (ev E) (zw c i)=vOf (Builtin.len_ #[T] 3 #[.map (some b)]):=by kernel_rfl)
  (hT:zf0 P T=some (k,e):=by kernel_rfl):owp P n c i Q E κ:=by
 obtain ⟨f,_⟩:=zx3 hx;subst f;obtain ⟨l,j,g,hsz,_⟩:=h0.obj;refine zhJ _ h (fun C a=>?_) hk;rw [ho];refine zG ?_;unfold Builtin.len_;simp [zF (zcB hT),zuB C κ a b g P,goInt,hsz]
omit [Fc] [Fb] in
theorem Mp.retag {τ:Tag} (h:Mp kt t τ' κ b m) (hle:τ.1≤τ'.1):Mp kt t τ (κ.retag [b] τ) b m∧Step [b] κ (κ.retag [b] τ):=by
 have a:Step [b] κ (κ.retag [b] τ):=by
  refine ⟨ga _,fun x _ c=>⟨rfl,rfl,?_⟩,fun x _=>⟨ga _,fun _ _=>rfl⟩,fun x _ d=>⟨?_,rfl⟩⟩
  ·show (if x∈[b] then τ else κ.tag x)=κ.tag x;rw [if_neg c]
  ·show (if x∈[b] then τ else κ.tag x)=κ.tag x;refine if_neg fun c=>?_;have:=fg.1 c;subst this;rw [h.fr] at d;omega
 refine ⟨?_,a⟩;obtain ⟨r,g,q,l,s,n⟩:=h.obj;refine ⟨⟨r,g,q,l,fun i p hp=>?_,n⟩,h.nd,h.fr,?_,gc hle h.ge⟩
 ·obtain ⟨e,k,f,j⟩:=s i p hp;exact ⟨e,k,f,t.step a j⟩
 ·show (if b∈[b] then τ else κ.tag b)=τ;rw [if_pos (by simp)]
end
end Go.Lf
namespace Go.Lf
open Go Go.Proofs Go.Sort Go.Shelf
theorem Fn.same [Fb] {P:Program} {f:FuncId} {args:Array Value} {κ:K} {v:Value} {R:Value→K→Prop} (h:∀ w,Calls P f args w fun e w'=>e=.returned v∧w'=w) (hR:R v κ):Fn P f args κ R:=
 fun C d=>(h (W C κ d)).mono fun _ _ ⟨he,hw⟩=>⟨v,κ,d,he,hw,hR⟩
structure EncOk {α:Type} (t:Ty α) (s:Nat) (enc:α→List Value) (ok:α→Prop):Prop where
 size:t.size=s
 pos:0<s
 len:∀ x,(enc x).length=s
 one:∀ x,∀ v∈enc x,v.oneCell'=true
 own:∀ κ cs x,t.own κ cs x↔cs=enc x∧ok x
section
variable {P:Program} {ρ:Ren} {α:Type} [Inhabited α] {t:Ty α} {s:Nat} {enc:α→List Value} {ok:α→Prop}
theorem zuq (hs:0<s) (hk:∀ x,(enc x).length=s):∀ (l:List α) (i:Nat),i<l.length*s→(l.flatMap enc)[i]?=some ((enc (l[i / s]!))[i % s]!)
 | [],i,h=>by simp at h
 | x::l,i,h=>by
  rw [ca];by_cases hi:i<s
  ·rw [cg (by rw [hk];exact hi),Nat.div_eq_of_lt hi,Nat.mod_eq_of_lt hi];have b:i<(enc x).length:=by rw [hk];exact hi
   simp [b]
  ·have a:s≤i:=by omega
   have e:i / s=(i - s) / s+1:=Nat.div_eq_sub_div hs a;have c:i % s=(i - s) % s:=Nat.mod_eq_sub_mod a;rw [ci (by rw [hk];exact a),hk,zuq hs hk l (i - s) (by rw [dm,gl] at h;omega),e,c];simp
theorem zrT (hk:∀ x,(enc x).length=s) (l:List α):(l.flatMap enc).length=l.length*s:=by
 induction l with
 | nil=>simp
 | cons x l ih=>rw [ca,dl,ih,hk,dm,gl];omega
theorem zur (hs:0<s) (hk:∀ x,(enc x).length=s) (l:List α):flatK enc s l.toArray=(l.flatMap enc).toArray:=by
 apply Array.toList_inj.1;apply bl;intro i;show (flatK enc s l.toArray).toList[i]?=(l.flatMap enc)[i]?;by_cases hi:i<l.length*s
 ·rw [zuq hs hk l i hi];unfold flatK;rw [Array.toList_map,Array.toList_range,cq,cw (by simpa using hi)];simp
 ·rw [cn (by rw [am,size_flatK];simpa using hi),cn (by rw [zrT hk];omega)]
theorem zud (h:EncOk t s enc ok) {κ:K}:∀ {l:List α} {xs:List Value},Rep t κ xs l→xs=l.flatMap enc∧∀ x∈l,ok x
 | [],xs,a=>⟨a,fun x k=>by cases k⟩
 | x::l,xs,a=>by
  obtain ⟨c,f,e,d,a⟩:=a;obtain ⟨rfl,i⟩:=(h.own κ c x).1 d;obtain ⟨g,j⟩:=zud h a;refine ⟨by rw [e,g];rfl,fun y b=>?_⟩;rcases eu.1 b with rfl | b
  ·exact i
  ·exact j y b
theorem zup (h:EncOk t s enc ok) {κ:K}:∀ {l:List α},(∀ x∈l,ok x)→Rep t κ (l.flatMap enc) l
 | [],_=>rfl
 | x::l,hl=>⟨enc x,_,rfl,(h.own κ _ x).2 ⟨rfl,hl x (by simp)⟩,zup h fun y a=>hl y (by simp [a])⟩
theorem zvI (L:SlLaysF0.n6 P ρ) (q:EncOk t s enc ok) (aE:∀ w,(isAgg (ρ.t 24)).run P w=.ok true w) (zE:∀ w,(Go.sizeOf (ρ.t 24)).run P w=.ok s w) {cf:α→α→Int} (hO:SWO (ltOf cf)) {gf:Nat}
  (eg:∀ args w,(callFunc gf args).run P w=.ok (.enter gf args) w)
  (hc:∀ (inst:Fb) (κ:K) (x y:α),@Fn inst P gf #[.agg (enc x).toArray,.agg (enc y).toArray] κ (fun v κ'=>Step [] κ κ'∧v=.int .i64 (cf x y)))
  {κ:K} {τ:Tag} {a:Option Addr} {c eT:Nat} {l:List α} (hg:Gr t false τ κ eT a c l) (hlen:l.length≤4611686018427387900) :
  Fn P (ρ.f 6) #[.slice a l.length c,.func (.func gf) #[] #[]] κ (fun v κ'=>Step (blk a c) κ κ'∧v=.tuple #[]∧Gr t false τ κ' eT a c (pdq (ltOf cf) l.toArray 0 l.length (Lib.bitLen l.length) true true).toList):=by
 have hp:=pdq_sorts (ltOf cf) hO l.toArray 0 l.length (Lib.bitLen l.length) true true (Nat.zero_le _) (by simp) (Or.inl rfl);obtain ⟨r,M⟩:∃ r:Array α,r=pdq (ltOf cf) l.toArray 0 l.length (Lib.bitLen l.length) true true:=⟨_,rfl⟩;rw [←M] at hp ⊢;have N:r.size=l.length:=by have:=hp.1.1;simpa using this
 by_cases hl:0<l.length
 case neg=>
  have h0:l=[]:=bj (by omega);have X:r.toList=[]:=bj (by rw [am];omega);rw [X];rw [h0] at hg ⊢;refine (Fn.same (f:=ρ.f 6) (v:=.tuple #[]) (R:=fun v κ'=>κ=κ'∧v=.tuple #[]) (fun w=>AnyF.slices_SortFunc_none L a c _ w) ⟨rfl,rfl⟩).mono fun v κ' h=>?_;rw [show κ'=κ from h.1.symm];exact ⟨Step.refl _ _,h.2,hg⟩
 rcases hg.body with ⟨_,h⟩ | ⟨g,cur,xs,rfl,hr,hH,h1,h2,h3,h4,h5,h6,h7⟩
 ·rw [h] at hl;cases hl
 obtain ⟨hx,hI⟩:=zud q hr;have A:g<κ.H.size:=(ae.1 hH).1;have G:(l.flatMap enc).length=l.length*s:=zrT q.len l;have a6:c*s=cur.size:=by rw [h3,q.size]
 have b9:l.length*s≤c*s:=gk s h1;have a4:∀ x∈r.toList,ok x:=by
  have J:=hp.1.2.2;intro x hx;refine hI x ?_;have h8:(r.extract 0 l.length).toList=r.toList:=by rw [←N];simp
  have h9:(l.toArray.extract 0 l.length).toList=l:=by simp
  rw [h8,h9] at J;exact J.mem_iff.1 hx
 intro C d;have H:HoldsK enc s (W C κ d) g 0 l.toArray:=by
  unfold HoldsK;rw [zur q.pos q.len];intro j Q;have Y:j<l.length*s:=by rw [fp,G] at Q;exact Q
  have a5:cur[j]?=(l.flatMap enc)[j]?:=by
   rw [←hx,←h4,q.size,dh,if_pos Y];simp
  refine ⟨?_,?_⟩
  ·rw [zjT];unfold K.cell;rw [hH];simp only [gm];rw [a5];have:j<(l.flatMap enc).length:=by omega
   simp;rw [cm this];rfl
  ·unfold World.frozen? W;simp [hH]
 have E:CmpLays P gf #[] enc s cf g 0 l.toArray.size (W C κ d):=by
  intro m os dk _ x y;generalize sortWorldK enc s (W C κ d) g 0 m dk os=V;have h:=hc ⟨fun _=>true,0,rfl⟩ ⟨V.heap,fun _=>0,fun _=>(0,0)⟩ x y;refine Calls.mono (h (@Cx.mk ⟨fun _=>true,0,rfl⟩ V.os V.tape V.output V.drawn rfl) 0) ?_;rintro e w' ⟨v,κ',d',q,U,s,hv⟩;subst hv;refine ⟨q,d',κ'.H.extract V.heap.size κ'.H.size,?_⟩;rw [U];unfold W grow World.drewN;simp only [];congr 1;apply Array.ext_getElem?;intro b;rw [ab];by_cases i:b<V.heap.size
  ·rw [if_pos i];exact (s.2.1 b i (by simp)).1
  ·rw [if_neg i,Array.getElem?_extract];split
   ·congr 1;omega
   ·rw [Array.getElem?_eq_none (by have:=s.1;simp only at this;omega)]
 refine (AnyQ.slices_SortFunc_eq L s aE zE enc q.len q.one cf hO gf #[] g 0 c l.toArray (W C κ d) eg E H A (by simp;omega)).mono ?_;rintro e w' ⟨T,n,os,U⟩;have I:w'=sortWorldK enc s (W C κ d) g 0 n r os:=by rw [M];simpa using U
 have hF:flatK enc s r=(r.toList.flatMap enc).toArray:=by
  have:=zur q.pos q.len r.toList;simpa using this
 have z:r.toList.length=l.length:=by rw [am];exact N
 have b6:(r.toList.flatMap enc).length=r.toList.length*s:=zrT q.len _;obtain ⟨k,p⟩:∃ k,k=putCells id 0 (flatK enc s r) cur:=⟨_,rfl⟩;have u:w'.heap=κ.H.modify g (onCells (putCells id 0 (flatK enc s r)))++os:=by rw [I];rfl
 have B:∀ b,b<κ.H.size→w'.heap[b]?=(κ.H.modify g (onCells (putCells id 0 (flatK enc s r))))[b]?:=fun b i=>by rw [u,Array.getElem?_append_left (by simpa using i)]
 have D:∀ b,b<κ.H.size→b≠g→w'.heap[b]?=κ.H[b]?:=fun b i hn=>by rw [B b i,af,if_neg (Ne.symm hn)]
 have S:w'.heap[g]?=some (.cells k eT (0,0)):=by rw [B g A,af,if_pos rfl,hH,p];rfl
 have F:κ.fr g=0:=by simpa using h5
 have a0:k.size=cur.size:=by rw [p];unfold putCells;simp
 refine ⟨_,⟨w'.heap,fun b=>if b<κ.H.size then κ.fr b else 0,fun b=>if b<κ.H.size then κ.tag b else (0,0)⟩,d+n,T,?_,?_,rfl,?_⟩
 ·rw [I];unfold W;show sortWorldK _ _ _ _ _ _ _ _={heap:=(sortWorldK _ _ _ _ _ _ _ _).heap,tape:=C.tape,drawn:=C.base+(d+n),os:=C.os,output:=C.output};rw [←Nat.add_assoc];rfl
 ·have Z:∀ b,b∉blk (some ⟨g,0,none⟩) c→b≠g:=fun b i e=>i (by rw [e];exact zmb (a:=⟨g,0,none⟩) (by omega));refine ⟨by rw [u];simp,fun b i hn=>⟨D b i (Z b hn),if_pos i,if_pos i⟩,fun b i=>⟨Nat.le_of_eq (if_pos i).symm,fun o ho=>?_⟩,fun b i hf=>⟨if_pos i,?_⟩⟩
  ·have:b≠g:=fun e=>by rw [e,F] at ho;cases ho
   unfold K.cell;rw [D b i this]
  ·have:b≠g:=fun e=>by rw [e,F] at hf;cases hf
   unfold K.shp;rw [D b i this]
 ·refine ⟨by rw [z];exact hg.most,.inr ⟨g,k,r.toList.flatMap enc,rfl,zup q a4,S,by rw [z];exact h1,h2,by rw [a0];exact h3,?_,?_,(if_pos A).trans h6,h7⟩⟩
  ·apply bl;intro j;rw [q.size,dh];split
   ·rename_i Q;have a3:j<cur.size:=by rw [z] at Q;omega
    have O:j<(r.toList.flatMap enc).length:=by omega
    rw [p,hF];unfold putCells;rw [aj,Array.getElem?_mapIdx,ac a3];simp;rw [if_pos (by rw [←List.length_flatMap];exact O),cm O];rfl
   ·rw [cn (by omega)]
  ·show (if g<κ.H.size then κ.fr g else 0)=_;rw [if_pos A,F];simp
end
end Go.Lf
namespace Go.Lf
open Go
section
variable [Fb] {P:Program} {Rel:K→K→Prop} {c:Code} {i:Nat} {E:Env} {κ:K} {R:Value→K→Prop}
theorem zrC {T:TypeId} (τ:Tag) (hτ:τ.1≤κ.H.size) (zs:List Value) (h:zbJ c i E=true) (ho:execOp (ev E) (zw c i)=vOf (Instr.alloc T true (.tuple #[])))
  (hz:(zeW P T).map Value.cells=some zs.toArray)
  (hk:∀ b κ',Step [] κ κ'→Box τ κ' b zs T→Rel κ κ'∧R (.pointer (some ⟨b,0,none⟩)) κ'):OpQ P Rel c i E κ R:=by
 obtain ⟨z,d,a⟩:=gu.1 hz;obtain ⟨g,f⟩:=hk κ.H.size _ (zcM _ _ _ _) (ztK _ zs T _ hτ);refine zAn h fun C e=>⟨.pointer (some ⟨κ.H.size,0,none⟩),κ.push (.cells zs.toArray T) 0 τ,e,?_,g,f⟩;rw [ho];refine zG ?_;unfold Instr.alloc;simp only [aw,zhx d,av];unfold newVar newRow;rw [a];rfl
end
end Go.Lf
namespace Go.Lf
open Go Go.Proofs Go.Sort
section
variable {α:Type} [Inhabited α] {lt:α→α→Bool}
def zk5 (lt:α→α→Bool) (l:List α):List α:=(pdq lt l.toArray 0 l.length (Lib.bitLen l.length) true true).toList
theorem zdp (hO:SWO lt) (l:List α):(zk5 lt l).Perm l∧(zk5 lt l).Pairwise (fun a b=>lt b a=false):=by
 unfold zk5;have h:=pdq_sorts lt hO l.toArray 0 l.length (Lib.bitLen l.length) true true (Nat.zero_le _) (by simp) (Or.inl rfl);obtain ⟨r,p⟩:∃ r:Array α,r=pdq lt l.toArray 0 l.length (Lib.bitLen l.length) true true:=⟨_,rfl⟩;rw [←p] at h ⊢;obtain ⟨⟨e,_,g⟩,n⟩:=h;have e:r.size=l.length:=by simpa using e
 constructor
 ·have k:(r.extract 0 l.length).toList=r.toList:=by rw [←e];simp
  have q:(l.toArray.extract 0 l.length).toList=l:=by simp
  rw [k,q] at g;exact g
 ·rw [fm];intro i j hi m f;have d:i<r.size:=by simpa using hi
  have c:j<r.size:=by simpa using m
  have:=n i j (by omega) f (by omega);rw [getElem!_pos r i d,getElem!_pos r j c] at this;simpa using this
theorem zAk (hO:SWO lt) {l l':List α} (hp:l'.Perm l) (hs:l'.Pairwise (fun a b=>lt b a=false)) (ht:∀ a b,a∈l→b∈l→lt a b=false→lt b a=false→a=b):zk5 lt l=l':=by
 obtain ⟨c,f⟩:=zdp hO l;exact List.Perm.eq_of_pairwise (fun a b e h g d=>ht a b (c.mem_iff.1 e) (hp.mem_iff.1 h) d g) f hs (c.trans hp.symm)
theorem zuf (hO:SWO lt) {l l':List α} (hp:l.Perm l') (ht:∀ a b,a∈l'→b∈l'→lt a b=false→lt b a=false→a=b):zk5 lt l=zk5 lt l':=
 ((zAk hO ((zdp hO l).1.trans hp) (zdp hO l).2 ht)).symm
end
def zrd {α β:Type} [DecidableEq α] (m:List (α×β)) (done:List α):List (α×β):=m.filter fun q=>decide (q.1∈done)
theorem ztG {α β:Type} [DecidableEq α] {m:List (α×β)} (hnd:m.Pairwise (fun p q=>p.1≠q.1)) {p:α×β} {done:List α} (hp:p∈m) (hd:p.1∉done) :
  (zrd m (p.1::done)).Perm (zrd m done++[p]):=by
 unfold zrd
 induction m with
 | nil=>cases hp
 | cons x m ih=>
  obtain ⟨c,f⟩:=fj.1 hnd;rcases eu.1 hp with rfl | hp
  ·rw [br (by simp),bq (by simpa using hd)];have e:(m.filter fun q=>decide (q.1∈p.1::done))=m.filter fun q=>decide (q.1∈done):=by
    refine List.filter_congr fun y g=>?_;have:=c y g;simp [Ne.symm this]
   rw [e];exact (List.perm_append_singleton p _).symm
  ·have d:(x.1∈p.1::done)↔x.1∈done:=by
    have:=c p hp;simp [this]
   have a:=ih f hp;by_cases b:x.1∈done
   ·rw [br (by simpa using d.2 b),br (by simpa using b),List.cons_append];exact a.cons x
   ·rw [bq (by rw [decide_eq_true_eq];exact fun h=>b (d.1 h)),bq (by simpa using b)];exact a
theorem zwu {α β:Type} [DecidableEq α] {m:List (α×β)} {done:List α} (h:∀ p∈m,p.1∈done):zrd m done=m:=
 bu.2 fun p hp=>by simpa using h p hp
theorem zwt {α β:Type} [DecidableEq α] (m:List (α×β)):zrd m []=[]:=by unfold zrd;simp
theorem zvi {α β:Type} [DecidableEq α] (m:List (α×β)) (done:List α):(zrd m done).length≤m.length:=du _ _
def zqb {α β:Type} [DecidableEq α] (m:List (α×β)) (done:List α):Nat:=m.length - (zrd m done).length
theorem zuz {α β:Type} [DecidableEq α] {m:List (α×β)} (hnd:m.Pairwise (fun p q=>p.1≠q.1)) {p:α×β} {done:List α} (hp:p∈m) (hd:p.1∉done):zqb m (p.1::done)+1=zqb m done:=by
 have a:=(ztG hnd hp hd).length_eq;have b:=zvi m (p.1::done);unfold zqb;rw [dl,ec] at a;omega
theorem zuk {α β:Type} [DecidableEq α] {m:List (α×β)} {x:α} {y:β}:∀ p∈zbP m x y,p.1=x∨∃ q∈m,q.1=p.1:=by
 intro p hp;unfold zbP at hp;split at hp
 ·obtain ⟨q,a,rfl⟩:=fa.1 hp;by_cases h:q.1=x
  ·rw [if_pos h];exact .inl rfl
  ·rw [if_neg h];exact .inr ⟨q,a,rfl⟩
 ·rcases ep.1 hp with h | h
  ·exact .inr ⟨p,h,rfl⟩
  ·rw [fg.1 h];exact .inl rfl
end Go.Lf
namespace Go.Lf
open Go
section
variable {α β:Type} {kt:KT α} {t:Ty β} {τ:Tag} {κ:K} {b:Nat} {m:List (α×β)} [DecidableEq α]
theorem zzq {P:Program} {T kd e:TypeId} {x:α} {y:β} (h:Mp kt t τ κ b m) (hT:zf0 P T=some (kd,e)) (hk:KeyOk P kd kt) (hg:zdj m x=some y) :
  ∃ v,t.own κ [v] y∧∀ [Fb] (C:Cx) (d:Nat),(Instr.lookup T (.map (some b)) (kt.enc x) false).run P (W C κ d)=.ok v (W C κ d):=by
 obtain ⟨B,A,s,hsz,l,_⟩:=h.obj;obtain ⟨p,hp,rfl⟩:=gu.1 hg;have a:p.1=x:=by simpa using List.find?_some hp
 obtain ⟨j,r⟩:=cv (fc hp);obtain ⟨w,n,z,u⟩:=l j p r;refine ⟨w.val,u,fun {_} C d=>?_⟩;have q:=zuB C κ d b s P;rcases zsH h hk x s (W C κ d) with ⟨k,_,_⟩ | ⟨j',en',y',g0,k,g2,g3,g4,g5,g6⟩
 ·rw [hg] at k;cases k
 ·have i:j'=j:=by
   have g:=(co.1 g0);have f:=(co.1 r);have c:=fm.1 h.nd;rcases gj j' j with hlt | n | hlt
   ·have:=c j' j g.1 f.1 hlt;rw [g.2,f.2] at this;exact absurd a.symm this
   ·exact n
   ·have:=c j j' f.1 g.1 hlt;rw [g.2,f.2] at this;exact absurd a this
  subst i;rw [n] at g3;injection g3 with g3
  subst g3;unfold Instr.lookup;simp [zF (zcB hT),q,hk.check,g6]
variable [Fc] [Fb] {P:Program} {n:Nat} {c:Code} {i k:Nat} {Q:za6} {E:Env}
theorem zCp {d T kd e:Nat} {x:α} (v:Value) (hr:∀ [Fb] (C:Cx) (d:Nat),(Instr.lookup T (.map (some b)) (kt.enc x) false).run P (W C κ d)=.ok v (W C κ d)) (hk:dwp P n c k (i+1) Q (upd E d v) κ)
  (h:dst c k i E d=true:=by kernel_rfl) (ho:execOp (ev E) (zw c i)=vOf (Instr.lookup T (.map (some b)) (kt.enc x) false):=by kernel_rfl):dwp P n c k i Q E κ:=by
 refine zli v h (fun C a=>?_) hk;rw [ho];exact zG (hr C a)
end
end Go.Lf
namespace Go.Lf
open Go Go.Proofs
section
variable [Fc] [Fb] {P:Program} {n:Nat} {c:Code} {i:Nat} {Q:za6} {E:Env} {κ:K}
abbrev vl {α:Type} (a:Option Addr) (l:List α) (c:Nat):Value:=.slice a l.length c
abbrev tt:Value:=.bool true
abbrev ff:Value:=.bool false
theorem iK (n:Int) (h : -9223372036854775808≤n∧n≤9223372036854775807:=by decide):I64 n:=h
abbrev ups (E:Env) (L:List (Nat×Value)):Env:=L.foldl (fun F p=>upd F p.1 p.2) E
theorem eY {E:Env} {L:List (Nat×Value)} (h:(L.map fun p=>E p.1)=L.map Prod.snd:=by kernel_rfl):E=ups E L:=by
 have key:∀ (L:List (Nat×Value)),(L.map fun p=>E p.1)=L.map Prod.snd→ups E L=E:=by
  intro L
  induction L with
  | nil=>intro _;rfl
  | cons p L ih=>
   intro h;rw [ek,ek] at h;have a:=(List.cons.inj h).1;have e:upd E p.1 p.2=E:=(zb (t:=p.1) rfl a).symm;show ups (upd E p.1 p.2) L=E;rw [e];exact ih (List.cons.inj h).2
 exact (key L h).symm
def opk (P:Program) (n:Nat) (c:Code):Nat→Env→List (Nat×Value)→Prop
 | _,_,[]=>True
 | i,E,p::L=>st c i n E (some p.1)=true∧(∀ w,(execOp (ev E) (zw c i)).run P w=.ok (.value p.2) w)∧opk P n c (i+1) (upd E p.1 p.2) L
theorem okn:opk P n c i E []:=trivial
theorem okc {d:Nat} {v:Value} {L:List (Nat×Value)} (h:st c i n E (some d)=true) (hr:∀ w,(execOp (ev E) (zw c i)).run P w=.ok (.value v) w) (hl:opk P n c (i+1) (upd E d v) L):opk P n c i E ((d,v)::L):=⟨h,hr,hl⟩
theorem olz:∀ (L:List (Nat×Value)) (i:Nat) (E:Env),owp P n c (i+L.length) Q (ups E L) κ→opk P n c i E L→owp P n c i Q E κ
 | [],_,_,hk,_=>hk
 | p::L,i,E,hk,h=>by
  refine op p.1 p.2 (olz L (i+1) (upd E p.1 p.2) ?_ h.2.2) h.1 h.2.1;rw [show i+1+L.length=i+(p::L).length by rw [dm];omega];exact hk
theorem ol (L:List (Nat×Value)) (hk:owp P n c (i+L.length) Q (ups E L) κ) (h:opk P n c i E L:=by repeat (first | exact okn | refine okc (by kernel_rfl) (by intro _;kernel_rfl) ?_)):owp P n c i Q E κ:=olz L i E hk h
def os0:Os:=by constructor<;>first | exact #[] | exact 0 | exact none | exact false | exact [] | exact ByteArray.empty | exact default
def w0:World:=⟨#[],fun _ _=>0,0,os0,#[]⟩
def zsM (P:Program) (c:Code) (i:Nat) (E:Env):Value:=match (execOp (ev E) (zw c i)).run P w0 with
 | .ok (.value v) _=>v
 | _=>undef
def odk (P:Program) (n:Nat) (c:Code):Nat→Nat→Env→Prop
 | 0,_,_=>True
 | k+1,i,E=>(st c i n E (some (dstOf c i))=true∧∀ w,(execOp (ev E) (zw c i)).run P w=.ok (.value (zsM P c i E)) w)∧odk P n c k (i+1) (upd E (dstOf c i) (zsM P c i E))
def rnk (P:Program) (c:Code):Nat→Nat→Env→Env
 | 0,_,E=>E
 | k+1,i,E=>rnk P c k (i+1) (upd E (dstOf c i) (zsM P c i E))
theorem odn:odk P n c 0 i E:=trivial
theorem odc {k:Nat} (h:st c i n E (some (dstOf c i))=true) (hr:∀ w,(execOp (ev E) (zw c i)).run P w=.ok (.value (zsM P c i E)) w) (hl:odk P n c k (i+1) (upd E (dstOf c i) (zsM P c i E))):odk P n c (k+1) i E:=⟨⟨h,hr⟩,hl⟩
theorem odz:∀ (k i:Nat) (E:Env),owp P n c (i+k) Q (rnk P c k i E) κ→odk P n c k i E→owp P n c i Q E κ
 | 0,_,_,hk,_=>hk
 | k+1,i,E,hk,h=>by
  refine op (dstOf c i) (zsM P c i E) (odz k (i+1) _ ?_ h.2) h.1.1 h.1.2;rw [show i+1+k=i+(k+1) by omega];exact hk
theorem od (k:Nat) (hk:owp P n c (i+k) Q (rnk P c k i E) κ) (h:odk P n c k i E:=by repeat (first | exact odn | refine odc (by kernel_rfl) (by intro _;kernel_rfl) ?_)):owp P n c i Q E κ:=odz k i E hk h
def num:Nat→List Value→List (Nat×Value)
 | _,[]=>[]
 | d,v::L=>(d,v)::num (d+1) L
theorem zxq:∀ (L:List Value) (d:Nat),(num d L).length=L.length
 | [],_=>rfl
 | v::L,d=>by unfold num;rw [dm,dm,zxq L]
theorem ou (d:Nat) (L:List Value) (hk:owp P n c (i+L.length) Q (ups E (num d L)) κ) (h:opk P n c i E (num d L):=by repeat (first | exact okn | refine okc (by kernel_rfl) (by intro _;kernel_rfl) ?_)):owp P n c i Q E κ:=olz (num d L) i E (by rw [zxq];exact hk) h
def osk (n:Nat) (c:Code):Nat→Env→List Nat→Prop
 | _,_,[]=>True
 | i,E,d::L=>sk c i n E d=true∧osk n c (i+1) (upd E d undef) L
theorem skn:osk n c i E []:=trivial
theorem skc {d:Nat} {L:List Nat} (h:sk c i n E d=true) (hl:osk n c (i+1) (upd E d undef) L):osk n c i E (d::L):=⟨h,hl⟩
abbrev uns (E:Env) (L:List Nat):Env:=L.foldl (fun F d=>upd F d undef) E
theorem ozz:∀ (L:List Nat) (i:Nat) (E:Env),owp P n c (i+L.length) Q (uns E L) κ→osk n c i E L→owp P n c i Q E κ
 | [],_,_,hk,_=>hk
 | d::L,i,E,hk,h=>by
  refine os d (ozz L (i+1) (upd E d undef) ?_ h.2) h.1;rw [show i+1+L.length=i+(d::L).length by rw [dm];omega];exact hk
theorem oz (L:List Nat) (hk:owp P n c (i+L.length) Q (uns E L) κ) (h:osk n c i E L:=by repeat (first | exact skn | refine skc (by kernel_rfl) ?_)):owp P n c i Q E κ:=ozz L i E hk h
theorem dT (k:Nat) {c1:Code} (hq:cwp P n c1 Q (rnk P c k i E) κ) (h:odk P n c k i E:=by repeat (first | exact odn | refine odc (by kernel_rfl) (by intro _;kernel_rfl) ?_)) (h2:decide ((opsOf c).size≤i+k)=true:=by kernel_rfl):owp P n c i (zdv P n c1 Q) E κ:=od k (ot hq h2) h
theorem cO (k:Nat) {c:Code} {p:List Nat} (hk:owp P n (sub c (0::p)) (0+k) (zdv P n (sub c (1::p)) Q) (rnk P (sub c (0::p)) k 0 E) κ) (h:odk P n (sub c (0::p)) k 0 E:=by repeat (first | exact odn | refine odc (by kernel_rfl) (by intro _;kernel_rfl) ?_)) (h0:znz (sub c p)=true:=by kernel_rfl) (h2:zcA (sub c (0::p))=some false:=by kernel_rfl):cwp P n (sub c p) Q E κ:=csr (od k hk h) h0 h2
theorem cT (k:Nat) {c:Code} {p:List Nat} (hq:cwp P n (sub c (1::p)) Q (rnk P (sub c (0::p)) k 0 E) κ) (h:odk P n (sub c (0::p)) k 0 E:=by repeat (first | exact odn | refine odc (by kernel_rfl) (by intro _;kernel_rfl) ?_)) (h1:decide ((opsOf (sub c (0::p))).size≤0+k)=true:=by kernel_rfl) (h0:znz (sub c p)=true:=by kernel_rfl) (h2:zcA (sub c (0::p))=some false:=by kernel_rfl):cwp P n (sub c p) Q E κ:=csr (dT k hq h h1) h0 h2
def ddk (P:Program) (c:Code) (k:Nat):Nat→Nat→Env→Prop
 | 0,_,_=>True
 | m+1,i,E=>(dst c k i E (dstOf c i)=true∧∀ w,(execOp (ev E) (zw c i)).run P w=.ok (.value (zsM P c i E)) w)∧ddk P c k m (i+1) (upd E (dstOf c i) (zsM P c i E))
theorem ddn {k:Nat}:ddk P c k 0 i E:=trivial
theorem ddc {k m:Nat} (h:dst c k i E (dstOf c i)=true) (hr:∀ w,(execOp (ev E) (zw c i)).run P w=.ok (.value (zsM P c i E)) w) (hl:ddk P c k m (i+1) (upd E (dstOf c i) (zsM P c i E))):ddk P c k (m+1) i E:=⟨⟨h,hr⟩,hl⟩
theorem ddz {k:Nat}:∀ (m i:Nat) (E:Env),dwp P n c k (i+m) Q (rnk P c m i E) κ→ddk P c k m i E→dwp P n c k i Q E κ
 | 0,_,_,hk,_=>hk
 | m+1,i,E,hk,h=>by
  refine dp (dstOf c i) (zsM P c i E) (ddz m (i+1) _ ?_ h.2) h.1.1 h.1.2;rw [show i+1+m=i+(m+1) by omega];exact hk
theorem dd {k:Nat} (m:Nat) (hk:dwp P n c k (i+m) Q (rnk P c m i E) κ) (h:ddk P c k m i E:=by repeat (first | exact ddn | refine ddc (by kernel_rfl) (by intro _;kernel_rfl) ?_)):dwp P n c k i Q E κ:=ddz m i E hk h
theorem rT {fn:Func} {R:Value→K→Prop} (t:Nat) (v:Value) (hR:R (znH [v]) κ) (h:E t=v:=by kernel_rfl) (hr:fn.results=[ResultVar.tmp t].toArray:=by kernel_rfl):zk4 P fn R .ret E κ:=rt [.tmp t] [v] ⟨h,trivial⟩ hR hr
end
theorem bD {α β:Type} {o:Option α} {f:α→Option β} {r:β} (h:o.bind f=some r):∃ x,o=some x∧f x=some r:=bind_some h
theorem bE {α β:Type} {o:Option α} {f:α→Option β} {r:β} {G:Prop} (h:o.bind f=some r) (k:∀ x,o=some x→f x=some r→G):G:=let ⟨x,a,b⟩:=bind_some h;k x a b
class TyA {α:Type} (t:Ty α) where
 all:K→α→(List Value→Prop)→Prop
 ok:∀ {κ x F cs},all κ x F→t.own κ cs x→F cs
instance:TyA tI64:=⟨fun _ n F=>I64 n→F [.int .i64 n],fun h o=>by rw [o.1];exact h o.2⟩
instance:TyA tU8:=⟨fun _ n F=>0≤n∧n≤255→F [.int .u8 n],fun h o=>by rw [o.1];exact h o.2⟩
instance:TyA zCf:=⟨fun _ n F => -2147483648≤n∧n≤2147483647→F [.int .i32 n],fun h o=>by rw [o.1];exact h o.2⟩
instance:TyA zt6:=⟨fun _ b F=>F [.bool b],fun h o=>by rw [show _=_ from o];exact h⟩
instance:TyA tStr:=⟨fun _ s F=>s.length≤9223372036854775807→F [zt s],fun h o=>by rw [o.1];exact h o.2⟩
instance:TyA zBS:=⟨fun _ v F=>v.oneCell'=true→F [v],fun h o=>by rw [o.1];exact h o.2⟩
instance {α:Type} {t:Ty α}:TyA (tSl t):=⟨fun κ l F=>∀ a c,Sl t κ a c l→F [.slice a l.length c],fun h o=>by obtain ⟨a,c,e,s⟩:=o;rw [e];exact h a c s⟩
instance {α β:Type} {t:Ty α} {u:Ty β} [TyA t] [TyA u]:TyA (tPair t u):=⟨fun κ x F=>TyA.all t κ x.1 fun y=>TyA.all u κ x.2 fun z=>F (y++z),fun {κ x F cs} h o=>by
  obtain ⟨y,z,e,p,q⟩:=o;subst e;have h1:TyA.all u κ x.2 fun z=>F (y++z):=TyA.ok (t:=t) (F:=fun y=>TyA.all u κ x.2 fun z=>F (y++z)) h p;exact TyA.ok (F:=fun z=>F (y++z)) h1 q⟩
def iaT:Op→TypeId
 | .indexAddr T _ _=>T
 | .load T _=>T
 | .store T _ _=>T
 | .buildSlice T _ _=>T
 | _=>0
def bsV (E:Env):Op→Array (Nat×Value)
 | .buildSlice _ _ L=>L.map fun p=>(p.1,ev E p.2)
 | _=>#[]
def stV (E:Env):Op→Value
 | .store _ _ v=>ev E v
 | .box _ v=>ev E v
 | _=>undef
section
variable [Fc] [Fb] {P:Program} {n:Nat} {c:Code} {i k:Nat} {nq:List Nat} {q0:Nat} {M:List Nat} {π:List Nat} {Q:za6} {E:Env} {κ κ0:K}
theorem oJ {α:Type} {t:Ty α} [TyA t] {a:Option Addr} {cp:Nat} {l:List α} {ix:Int} {x:α} (f:Sl t κ a cp l) (hx:idx l ix=some x)
  (hk:∀ b o,TyA.all t κ x fun cs=>PubAt κ b o cs→owp P n c (i+1) Q (upd E (dstOf c i) (.pointer (some ⟨b,o,none⟩))) κ)
  (h:st c i n E (some (dstOf c i))=true:=by kernel_rfl)
  (ho:execOp (ev E) (zw c i)=vOf (Instr.indexAt (iaT (zw c i).op) (.slice a l.length cp) (.int .i64 ix)):=by kernel_rfl)
  (hs:(zJ P (iaT (zw c i).op)).bind (zM P)=some t.size:=by kernel_rfl):owp P n c i Q E κ:=by
 obtain ⟨b,off,j,k,g,cs,hp,d⟩:=f.idx hx;obtain ⟨el,e,m⟩:=bind_some hs;exact oi _ _ el t.size _ _ .i64 ix j k g (TyA.ok (hk b (off+ix.toNat*t.size)) d hp) h ho e m
theorem dI {α:Type} {t:Ty α} [TyA t] {a:Option Addr} {cp:Nat} {l:List α} {ix:Int} {x:α} (f:Sl t κ a cp l) (hx:idx l ix=some x)
  (hk:∀ b o,TyA.all t κ x fun cs=>PubAt κ b o cs→dwp P n c k (i+1) Q (upd E (dstOf c i) (.pointer (some ⟨b,o,none⟩))) κ)
  (h:dst c k i E (dstOf c i)=true:=by kernel_rfl)
  (ho:execOp (ev E) (zw c i)=vOf (Instr.indexAt (iaT (zw c i).op) (.slice a l.length cp) (.int .i64 ix)):=by kernel_rfl)
  (hs:(zJ P (iaT (zw c i).op)).bind (zM P)=some t.size:=by kernel_rfl):dwp P n c k i Q E κ:=by
 obtain ⟨b,off,j,m,g,cs,hp,d⟩:=f.idx hx;obtain ⟨el,e,p⟩:=bind_some hs;exact di _ _ el t.size _ _ .i64 ix j m g (TyA.ok (hk b (off+ix.toNat*t.size)) d hp) h ho e p
theorem xI {α:Type} {t:Ty α} [TyA t] {a:Option Addr} {cp:Nat} {l:List α} {ix:Int} {x:α} (f:Sl t κ a cp l) (hx:idx l ix=some x)
  (hk:∀ b o,TyA.all t κ x fun cs=>PubAt κ b o cs→xwp P n c k nq q0 M π Q (upd E (dstOf c i) (.pointer (some ⟨b,o,none⟩))) κ)
  (h:xsQ c nq i E (dstOf c i)=true:=by kernel_rfl)
  (ho:execOp (ev E) (zw c i)=vOf (Instr.indexAt (iaT (zw c i).op) (.slice a l.length cp) (.int .i64 ix)):=by kernel_rfl)
  (hs:(zJ P (iaT (zw c i).op)).bind (zM P)=some t.size:=by kernel_rfl):xwp P n c k nq q0 M (i::π) Q E κ:=by
 obtain ⟨b,off,j,m,g,cs,hp,d⟩:=f.idx hx;obtain ⟨el,e,p⟩:=bind_some hs;exact xi _ _ el t.size _ _ .i64 ix j m g (TyA.ok (hk b (off+ix.toNat*t.size)) d hp) h ho e p
theorem oG {α:Type} {t:Ty α} [TyA t] {pub:Bool} {τ:Tag} {e:Nat} {a:Option Addr} {cp:Nat} {l:List α} {ix:Int} {x:α} (f:Gr t pub τ κ e a cp l) (hx:idx l ix=some x)
  (hk:∀ b o,TyA.all t κ x fun cs=>At κ b o cs→owp P n c (i+1) Q (upd E (dstOf c i) (.pointer (some ⟨b,o,none⟩))) κ)
  (h:st c i n E (some (dstOf c i))=true:=by kernel_rfl)
  (ho:execOp (ev E) (zw c i)=vOf (Instr.indexAt (iaT (zw c i).op) (.slice a l.length cp) (.int .i64 ix)):=by kernel_rfl)
  (hs:(zJ P (iaT (zw c i).op)).bind (zM P)=some t.size:=by kernel_rfl):owp P n c i Q E κ:=by
 obtain ⟨b,k,m,j,cs,hp,d⟩:=f.idx hx;obtain ⟨el,g,p⟩:=bind_some hs;exact oi _ _ el t.size _ _ .i64 ix k m j (TyA.ok (hk b (0+ix.toNat*t.size)) d hp) h ho g p
theorem dG {α:Type} {t:Ty α} [TyA t] {pub:Bool} {τ:Tag} {e:Nat} {a:Option Addr} {cp:Nat} {l:List α} {ix:Int} {x:α} (f:Gr t pub τ κ e a cp l) (hx:idx l ix=some x)
  (hk:∀ b o,TyA.all t κ x fun cs=>At κ b o cs→dwp P n c k (i+1) Q (upd E (dstOf c i) (.pointer (some ⟨b,o,none⟩))) κ)
  (h:dst c k i E (dstOf c i)=true:=by kernel_rfl)
  (ho:execOp (ev E) (zw c i)=vOf (Instr.indexAt (iaT (zw c i).op) (.slice a l.length cp) (.int .i64 ix)):=by kernel_rfl)
  (hs:(zJ P (iaT (zw c i).op)).bind (zM P)=some t.size:=by kernel_rfl):dwp P n c k i Q E κ:=by
 obtain ⟨b,m,p,j,cs,hp,d⟩:=f.idx hx;obtain ⟨el,g,q⟩:=bind_some hs;exact di _ _ el t.size _ _ .i64 ix m p j (TyA.ok (hk b (0+ix.toNat*t.size)) d hp) h ho g q
theorem xG {α:Type} {t:Ty α} [TyA t] {pub:Bool} {τ:Tag} {e:Nat} {a:Option Addr} {cp:Nat} {l:List α} {ix:Int} {x:α} (f:Gr t pub τ κ e a cp l) (hx:idx l ix=some x)
  (hk:∀ b o,TyA.all t κ x fun cs=>At κ b o cs→xwp P n c k nq q0 M π Q (upd E (dstOf c i) (.pointer (some ⟨b,o,none⟩))) κ)
  (h:xsQ c nq i E (dstOf c i)=true:=by kernel_rfl)
  (ho:execOp (ev E) (zw c i)=vOf (Instr.indexAt (iaT (zw c i).op) (.slice a l.length cp) (.int .i64 ix)):=by kernel_rfl)
  (hs:(zJ P (iaT (zw c i).op)).bind (zM P)=some t.size:=by kernel_rfl):xwp P n c k nq q0 M (i::π) Q E κ:=by
 obtain ⟨b,m,p,j,cs,hp,d⟩:=f.idx hx;obtain ⟨el,g,q⟩:=bind_some hs;exact xi _ _ el t.size _ _ .i64 ix m p j (TyA.ok (hk b (0+ix.toNat*t.size)) d hp) h ho g q
theorem oL {b o:Nat} {cs:List Value} (w:At κ b o cs) (j m:Nat) (hk:owp P n c (i+1) Q (upd E (dstOf c i) (.agg ((cs.drop j).take m).toArray)) κ) (h:st c i n E (some (dstOf c i))=true:=by kernel_rfl)
  (ho:execOp (ev E) (zw c i)=vOf (Instr.loadAt (iaT (zw c i).op) (.pointer (some ⟨b,o+j,none⟩))):=by kernel_rfl) (hT:zen P (iaT (zw c i).op)=some true:=by kernel_rfl)
  (hs:zM P (iaT (zw c i).op)=some ((cs.drop j).take m).length:=by kernel_rfl):owp P n c i Q E κ:=oN _ _ _ (w.part j m).2 hk h ho hT hs
theorem dL {b o:Nat} {cs:List Value} (w:At κ b o cs) (j m:Nat) (hk:dwp P n c k (i+1) Q (upd E (dstOf c i) (.agg ((cs.drop j).take m).toArray)) κ) (h:dst c k i E (dstOf c i)=true:=by kernel_rfl)
  (ho:execOp (ev E) (zw c i)=vOf (Instr.loadAt (iaT (zw c i).op) (.pointer (some ⟨b,o+j,none⟩))):=by kernel_rfl) (hT:zen P (iaT (zw c i).op)=some true:=by kernel_rfl)
  (hs:zM P (iaT (zw c i).op)=some ((cs.drop j).take m).length:=by kernel_rfl):dwp P n c k i Q E κ:=dN _ _ _ (w.part j m).2 hk h ho hT hs
theorem xL {b o:Nat} {cs:List Value} (w:At κ b o cs) (j m:Nat) (hk:xwp P n c k nq q0 M π Q (upd E (dstOf c i) (.agg ((cs.drop j).take m).toArray)) κ) (h:xsQ c nq i E (dstOf c i)=true:=by kernel_rfl)
  (ho:execOp (ev E) (zw c i)=vOf (Instr.loadAt (iaT (zw c i).op) (.pointer (some ⟨b,o+j,none⟩))):=by kernel_rfl) (hT:zen P (iaT (zw c i).op)=some true:=by kernel_rfl)
  (hs:zM P (iaT (zw c i).op)=some ((cs.drop j).take m).length:=by kernel_rfl) (hm:zti c i=true:=by kernel_rfl) (hf:frB c q0 i=false:=by kernel_rfl):xwp P n c k nq q0 M (i::π) Q E κ:=xN _ _ _ w j m rfl hk h ho hT hs hm hf
theorem zBI {cs:List Value} {j:Nat} (hj:Nat.ble (j+1) cs.length=true):cs[j]?=some ((cs[j]?).getD undef):=by
 have:=fz hj;rw [cm (show j<cs.length by omega)];rfl
theorem oV {b o:Nat} {cs:List Value} (w:At κ b o cs) (j:Nat) (hk:owp P n c (i+1) Q (upd E (dstOf c i) ((cs[j]?).getD undef)) κ) (h:st c i n E (some (dstOf c i))=true:=by kernel_rfl)
  (ho:execOp (ev E) (zw c i)=vOf (Instr.loadAt (iaT (zw c i).op) (.pointer (some ⟨b,o+j,none⟩))):=by kernel_rfl) (hT:zen P (iaT (zw c i).op)=some false:=by kernel_rfl)
  (hj:Nat.ble (j+1) cs.length=true:=by kernel_rfl):owp P n c i Q E κ:=o1 _ _ _ (w.one (zBI hj)) hk h ho hT
theorem dV {b o:Nat} {cs:List Value} (w:At κ b o cs) (j:Nat) (hk:dwp P n c k (i+1) Q (upd E (dstOf c i) ((cs[j]?).getD undef)) κ) (h:dst c k i E (dstOf c i)=true:=by kernel_rfl)
  (ho:execOp (ev E) (zw c i)=vOf (Instr.loadAt (iaT (zw c i).op) (.pointer (some ⟨b,o+j,none⟩))):=by kernel_rfl) (hT:zen P (iaT (zw c i).op)=some false:=by kernel_rfl)
  (hj:Nat.ble (j+1) cs.length=true:=by kernel_rfl):dwp P n c k i Q E κ:=d1 _ _ _ (w.one (zBI hj)) hk h ho hT
theorem xV {b o:Nat} {cs:List Value} (w:At κ b o cs) (j:Nat) (hk:xwp P n c k nq q0 M π Q (upd E (dstOf c i) ((cs[j]?).getD undef)) κ) (h:xsQ c nq i E (dstOf c i)=true:=by kernel_rfl)
  (ho:execOp (ev E) (zw c i)=vOf (Instr.loadAt (iaT (zw c i).op) (.pointer (some ⟨b,o+j,none⟩))):=by kernel_rfl) (hT:zen P (iaT (zw c i).op)=some false:=by kernel_rfl)
  (hj:Nat.ble (j+1) cs.length=true:=by kernel_rfl) (hm:zti c i=true:=by kernel_rfl) (hf:frB c q0 i=false:=by kernel_rfl):xwp P n c k nq q0 M (i::π) Q E κ:=x1 _ _ _ w j (zBI hj) hk h ho hT hm hf
variable {N:List Nat}
theorem oA (T t:Nat) (zs:List Value) (hs:Step N κ0 κ) (hk:∀ b κ',Step N κ0 κ'→Step [] κ κ'→Box (κ0.H.size,t) κ' b zs T→owp P n c (i+1) Q (upd E (dstOf c i) (.pointer (some ⟨b,0,none⟩))) κ')
  (h:st c i n E (some (dstOf c i))=true:=by kernel_rfl) (ho:execOp (ev E) (zw c i)=vOf (Instr.alloc T true (.tuple #[])):=by kernel_rfl)
  (hz:(zeW P T).map Value.cells=some zs.toArray:=by kernel_rfl):owp P n c i Q E κ:=zrA (κ0.H.size,t) hs.1 zs h ho hz fun b κ' s B=>hk b κ' (hs.tr0 s) s B
theorem oB (T t:Nat) (cs:List Value) (hs:Step N κ0 κ) (hk:∀ b κ',Step N κ0 κ'→Step [] κ κ'→Box (κ0.H.size,t) κ' b cs T→owp P n c (i+1) Q (upd E (dstOf c i) (.pointer (some ⟨b,0,none⟩))) κ')
  (h:st c i n E (some (dstOf c i))=true:=by kernel_rfl) (ho:execOp (ev E) (zw c i)=vOf (Instr.box T (stV E (zw c i).op)):=by kernel_rfl)
  (hv:(stV E (zw c i).op).cells=cs.toArray:=by kernel_rfl):owp P n c i Q E κ:=zAm (κ0.H.size,t) hs.1 _ cs h ho hv fun b κ' s B=>hk b κ' (hs.tr0 s) s B
theorem oS {t b:Nat} {U:TypeId} {cs:List Value} (off:Nat) (cs':List Value) (hb:Box (κ0.H.size,t) κ b cs U) (hs:Step N κ0 κ) (hk:∀ κ',Step N κ0 κ'→Step [b] κ κ'→Box (κ0.H.size,t) κ' b cs' U→owp P n c (i+1) Q E κ')
  (h:st c i n E none=true:=by kernel_rfl) (ho:execOp (ev E) (zw c i)=uOf (Instr.storeAt (iaT (zw c i).op) (.pointer (some ⟨b,off,none⟩)) (stV E (zw c i).op)):=by kernel_rfl)
  (hz:zM P (iaT (zw c i).op)=some (stV E (zw c i).op).cells.toList.length:=by kernel_rfl) (hone:zrX (stV E (zw c i).op).cells.toList=true:=by kernel_rfl)
  (hlen:Nat.ble (off+(stV E (zw c i).op).cells.toList.length) cs.length=true:=by kernel_rfl) (hcs:splice cs off (stV E (zw c i).op).cells.toList=cs':=by kernel_rfl):owp P n c i Q E κ:=
 zax _ _ cs' h ho hb (by simp) hz hone hlen hcs fun κ' s _ B=>hk κ' (hs.trB hb.ge s) s B
theorem oC {f:FuncId} {args:Array Value} {R:Value→K→Prop} (hs:Step N κ0 κ) (hf:Fn P f args κ (fun v κ'=>Step [] κ κ'∧R v κ')) (hk:∀ κ',Step [] κ κ'→Step N κ0 κ'→∀ v,R v κ'→owp P n c (i+1) Q (upd E (dstOf c i) v) κ')
  (h:st c i n E (some (dstOf c i))=true:=by kernel_rfl) (hr:∀ w,(execOp (ev E) (zw c i)).run P w=.ok (.enter f args) w:=by intro _;kernel_rfl):owp P n c i Q E κ:=
 ocl _ hf (fun v κ' H=>hk κ' H.1 (hs.tr0 H.1) v H.2) h hr
theorem oW {α:Type} {t:Ty α} {τ:Tag} {e:Nat} {a:Option Addr} {cp:Nat} {l l':List α} {ix:Int} {x x':α} {vs:List Value} (f:Gr t false τ κ e a cp l) (hx:idx l ix=some x) (hl:some (l.set ix.toNat x')=some l') (own:t.own κ vs x')
  (hk:∀ b κ',Step (blk a cp) κ κ'→Gr t false τ κ' e a cp l'→l'.length=l.length→owp P n c (i+2) Q (upd E (dstOf c i) (.pointer (some ⟨b,0+ix.toNat*t.size,none⟩))) κ')
  (h:st c i n E (some (dstOf c i))=true:=by kernel_rfl)
  (d:execOp (ev E) (zw c i)=vOf (Instr.indexAt (iaT (zw c i).op) (.slice a l.length cp) (.int .i64 ix)):=by kernel_rfl)
  (hs:(zJ P (iaT (zw c i).op)).bind (zM P)=some t.size:=by kernel_rfl)
  (h2:∀ b,st c (i+1) n (upd E (dstOf c i) (.pointer (some ⟨b,0+ix.toNat*t.size,none⟩))) none=true:=by intro _;kernel_rfl)
  (ho2:∀ b,execOp (ev (upd E (dstOf c i) (.pointer (some ⟨b,0+ix.toNat*t.size,none⟩)))) (zw c (i+1))=uOf (Instr.storeAt (iaT (zw c (i+1)).op) (.pointer (some ⟨b,0+ix.toNat*t.size+0,none⟩)) (stV E (zw c (i+1)).op)):=by intro _;kernel_rfl)
  (hv:(stV E (zw c (i+1)).op).cells=vs.toArray:=by kernel_rfl) (hz:zM P (iaT (zw c (i+1)).op)=some t.size:=by kernel_rfl) (hone:zrX vs=true:=by kernel_rfl):owp P n c i Q E κ:=by
 obtain ⟨b,k,m,j,_⟩:=f.idx hx;obtain ⟨el,p,r⟩:=bind_some hs;have hlen:=t.len own;refine oi _ _ el t.size _ _ .i64 ix k m j ?_ h d p r;refine zsG _ (h2 b) (ho2 b) k f m j hv (by rw [hz,hlen]) hone ?_ (fun cs q=>?_) fun κ' s g=>hk b κ' s (zBi hl g) (zgm hl)
 ·rw [gm,hlen];exact Nat.ble_self_eq_true _
 ·obtain ⟨y,_,d⟩:=q;rw [zju ((t.len d).trans hlen.symm)];exact own
theorem oT {α:Type} {t:Ty α} {cs:List Value} (e tg:Nat) (pub:Bool) (l:List α) (hs:Step N κ0 κ) (hr:Rep t κ cs l)
  (hk:∀ a' κ',Step N κ0 κ'→Step [] κ κ'→Gr t pub (κ0.H.size,tg) κ' e a' l.length l→owp P n c (i+1) Q (upd E (dstOf c i) (.slice a' l.length l.length)) κ')
  (h:st c i n E (some (dstOf c i))=true:=by kernel_rfl) (ho:execOp (ev E) (zw c i)=vOf (Instr.buildSlice (iaT (zw c i).op) l.length (bsV E (zw c i).op)):=by kernel_rfl)
  (hi:ztJ P (iaT (zw c i).op) l.length (bsV E (zw c i).op)=some (e,t.size,cs):=by kernel_rfl) (hz:Nat.blt 0 t.size=true:=by kernel_rfl) (hm:Nat.ble l.length 1000000=true:=by kernel_rfl):owp P n c i Q E κ:=
 zuV (τ:=(κ0.H.size,tg)) h ho hi hz hs.1 rfl hr hm fun a' κ' s g=>hk a' κ' (hs.tr0 s) s g
theorem oP {α:Type} {t:Ty α} {pub:Bool} {τ:Tag} {e bytes:Nat} {a a2:Option Addr} {cp c2:Nat} {l l2 r:List α} (T:Nat) (hg:Gr t pub τ κ e a cp l) (h2:Sl t κ a2 c2 l2) (hτ:τ.1≤κ.H.size) (hx:app bytes l l2=some r)
  (hk:∀ a' c' κ',Step (blk a cp) κ κ'→Gr t pub τ κ' e a' c' r→(∀ g∈blk a' c',g∈blk a cp∨κ.H.size≤g)→owp P n c (i+1) Q (upd E (dstOf c i) (.slice a' r.length c')) κ')
  (h:st c i n E (some (dstOf c i))=true:=by kernel_rfl) (ho:execOp (ev E) (zw c i)=vOf (Builtin.append_ #[T,T] 0 #[.slice a l.length cp,.slice a2 l2.length c2]):=by kernel_rfl)
  (hT:zjq P T=some (e,t.size,t.size,bytes):=by kernel_rfl):owp P n c i Q E κ:=zlO h ho hg h2 hτ hT hx hk
end
class Stp (κ κ':K) (A:Prop) (B:outParam Prop):Prop where
 m:Step [] κ κ'→A→B
section
variable {κ κ' κ0:K} {A B C D F G A' B' C' D' F' G':Prop}
instance {α:Type} {t:Ty α} {a:Option Addr} {c:Nat} {l:List α}:Stp κ κ' (Sl t κ a c l) (Sl t κ' a c l):=⟨fun s h=>h.step s⟩
instance {N:List Nat}:Stp κ κ' (Step N κ0 κ) (Step N κ0 κ'):=⟨fun s h=>h.tr0 s⟩
instance {τ:Tag} {b:Nat} {cs:List Value} {T:TypeId}:Stp κ κ' (Box τ κ b cs T) (Box τ κ' b cs T):=⟨fun s h=>h.step0 s⟩
instance {α:Type} {t:Ty α} {p:Bool} {τ:Tag} {e:Nat} {a:Option Addr} {c:Nat} {l:List α}:Stp κ κ' (Gr t p τ κ e a c l) (Gr t p τ κ' e a c l):=⟨fun s h=>h.step0 s⟩
instance {b o:Nat} {cs:List Value}:Stp κ κ' (PubAt κ b o cs) (PubAt κ' b o cs):=⟨fun s h=>h.step s⟩
instance {b o:Nat} {cs:List Value}:Stp κ κ' (At κ b o cs) (At κ' b o cs):=⟨fun s h=>h.step0 s⟩
instance {α:Type} {t:Ty α} {p:Bool} {τ:Tag} {eo ei:TypeId} {a:Option Addr} {c:Nat} {hm hs:List Hd} {L:List (List α)}:Stp κ κ' (Mat t p τ κ eo ei a c hm hs L) (Mat t p τ κ' eo ei a c hm hs L):=⟨fun s h=>h.step0 s⟩
instance {N i b:Nat} {ob:Obj}:Stp κ κ' (Rec N i κ b ob) (Rec N i κ' b ob):=⟨fun s h=>h.step0 s⟩
instance {α β:Type} {kt:KT α} {t:Ty β} {τ:Tag} {b:Nat} {m:List (α×β)}:Stp κ κ' (Mp kt t τ κ b m) (Mp kt t τ κ' b m):=⟨fun s h=>h.step0 s⟩
instance {τ:Tag} {eP eG:TypeId} {a:Option Addr} {n:Nat} {bs:List Nat} {L:List Int}:Stp κ κ' (Fst τ κ eP eG a n bs L) (Fst τ κ' eP eG a n bs L):=⟨fun s h=>h.step0 s⟩
theorem sQ2 [Stp κ κ' A A'] [Stp κ κ' B B'] (s:Step [] κ κ') (a:A) (b:B):A'∧B':=⟨Stp.m s a,Stp.m s b⟩
theorem sQ3 [Stp κ κ' A A'] [Stp κ κ' B B'] [Stp κ κ' C C'] (s:Step [] κ κ') (a:A) (b:B) (c:C):A'∧B'∧C':=⟨Stp.m s a,sQ2 s b c⟩
theorem sQ4 [Stp κ κ' A A'] [Stp κ κ' B B'] [Stp κ κ' C C'] [Stp κ κ' D D'] (s:Step [] κ κ') (a:A) (b:B) (c:C) (d:D):A'∧B'∧C'∧D':=⟨Stp.m s a,sQ3 s b c d⟩
theorem sQ5 [Stp κ κ' A A'] [Stp κ κ' B B'] [Stp κ κ' C C'] [Stp κ κ' D D'] [Stp κ κ' F F'] (s:Step [] κ κ') (a:A) (b:B) (c:C) (d:D) (f:F):A'∧B'∧C'∧D'∧F':=⟨Stp.m s a,sQ4 s b c d f⟩
theorem sQ6 [Stp κ κ' A A'] [Stp κ κ' B B'] [Stp κ κ' C C'] [Stp κ κ' D D'] [Stp κ κ' F F'] [Stp κ κ' G G'] (s:Step [] κ κ') (a:A) (b:B) (c:C) (d:D) (f:F) (g:G):A'∧B'∧C'∧D'∧F'∧G':=⟨Stp.m s a,sQ5 s b c d f g⟩
end
def zB (s:List UInt8):List Int:=s.map fun b=>(b.toNat:Int)
theorem zue {κ:K}:∀ s:List UInt8,Rep tU8 κ (s.map fun b=>Value.int .u8 b.toNat) (zB s)
 | []=>rfl
 | b::s=>⟨[.int .u8 b.toNat],_,rfl,⟨rfl,show (0:Int)≤(b.toNat:Int) by omega,show (b.toNat:Int)≤255 by have:=b.toNat_lt;omega⟩,zue s⟩
def zwc (P:Program) (T:TypeId):Bool:=match P.underlying T with
 | some .string=>true
 | _=>false
theorem zwb {P:Program} {T:TypeId} (h:zwc P T=true):P.underlying T=some .string:=by
 unfold zwc at h;split at h
 ·assumption
 ·cases h
section
variable {pub:Bool} {τ:Tag} {κ:K} {e T T2:TypeId} {a:Option Addr} {cp:Nat} {l r:List Int}
theorem zvL {P:Program} {ty:TypeId} {bytes:Nat} (h:Gr tU8 pub τ κ e a cp l) (s:List UInt8) (hτ:τ.1≤κ.H.size) (hT2:zwc P T2=true)
  (hT:zJ P T=some e) (hsz:zM P e=some 1) (hz:zo9 P e=some 1) (hby:zmi P e=some bytes)
  (hb:(l.length+(zB s).length)*bytes≤140737488355328) (hmax:l.length+(zB s).length≤9223372036854775807) [Fb] (C:Cx) (d:Nat) :
  ∃ a' c' κ' d',(Builtin.append_ #[T,T2] ty #[.slice a l.length cp,zt s]).run P (W C κ d)=.ok (.slice a' (l++zB s).length c') (W C κ' d')∧
   Step (blk a cp) κ κ'∧Gr tU8 pub τ κ' e a' c' (l++zB s)∧∀ g∈blk a' c',g∈blk a cp∨κ.H.size≤g:=by
 refine zr2 h (zue s) hτ hT hsz hz hby hb hmax C d ?_;have:=Src.ofString (P:=P) (W C κ d) (zwb hT2) ⟨s.toArray⟩;have f:(⟨s.toArray⟩:ByteArray).size=(zB s).length:=by simp [zB,ByteArray.size]
 have c:byteCells ⟨s.toArray⟩=s.map fun b=>Value.int .u8 b.toNat:=by simp [byteCells]
 rw [f,c] at this;exact this
end
section
variable [Fc] [Fb] {P:Program} {n:Nat} {c:Code} {i k:Nat} {nq:List Nat} {q0:Nat} {M:List Nat} {π:List Nat} {Q:za6} {E:Env} {κ:K}
variable {pub:Bool} {τ:Tag} {e T T2:TypeId} {a:Option Addr} {cp:Nat} {l r:List Int} {s:List UInt8}
theorem zmx {d bytes:Nat} (h:st c i n E (some d)=true) (ho:execOp (ev E) (zw c i)=vOf (Builtin.append_ #[T,T2] 0 #[.slice a l.length cp,zt s]))
  (hg:Gr tU8 pub τ κ e a cp l) (hτ:τ.1≤κ.H.size) (hT:zjq P T=some (e,1,1,bytes)) (hT2:zwc P T2=true) (hx:app bytes l (zB s)=some r)
  (hk:∀ a' c' κ',Step (blk a cp) κ κ'→Gr tU8 pub τ κ' e a' c' r→(∀ g∈blk a' c',g∈blk a cp∨κ.H.size≤g)→owp P n c (i+1) Q (upd E d (.slice a' r.length c')) κ'):owp P n c i Q E κ:=by
 obtain ⟨q,u,k,t⟩:=zin hT;obtain ⟨w,hm,rfl⟩:=zmd hx;refine zgT (fun v κ'=>∃ a' c',v=.slice a' (l++zB s).length c'∧Step (blk a cp) κ κ'∧Gr tU8 pub τ κ' e a' c' (l++zB s)∧∀ g∈blk a' c',g∈blk a cp∨κ.H.size≤g) h (fun C j=>?_) ?_
 ·obtain ⟨a',c',κ',m,p,hs,b,f⟩:=zvL (P:=P) (T:=T) (ty:=0) hg s hτ hT2 q u k t w hm C j;exact ⟨_,κ',m,by rw [ho];exact zG p,a',c',rfl,hs,b,f⟩
 ·rintro v κ' ⟨a',c',rfl,hs,b,f⟩;exact hk a' c' κ' hs b f
theorem zvW {d bytes:Nat} (h:st c i n E (some d)=true) (ho:execOp (ev E) (zw c i)=vOf (Builtin.append_ #[T,T2] 0 #[.slice a l.length cp,zt s]))
  (f:Gr tU8 pub τ κ e a cp l) (hz:a=none∨0<cp) (hτ:τ.1≤κ.H.size) (hT:zjq P T=some (e,1,1,bytes)) (hT2:zwc P T2=true) (hx:app bytes l (zB s)=some r)
  (hk:∀ a' c' κ',Step (blk a cp) κ κ'→Gr tU8 pub τ κ' e a' c' r→(∀ g∈blk a' c',g∈blk a cp∨κ.H.size≤g)→(a'=none∨0<c')→owp P n c (i+1) Q (upd E d (.slice a' r.length c')) κ'):owp P n c i Q E κ:=by
 cases s with
 | cons x s=>
  refine zmx h ho f hτ hT hT2 hx fun a' c' κ' A p t=>hk a' c' κ' A p t (.inr ?_);obtain ⟨_,_,rfl⟩:=zmd hx;have:(l++zB (x::s)).length≤c':=by
   rcases p.body with ⟨_,j⟩ | ⟨_,_,_,_,_,_,b,_⟩
   ·rw [j];simp
   ·exact b
  rw [dl] at this;simp only [zB,ek,dm] at this;omega
 | nil=>
  obtain ⟨b,F,B,q⟩:=zin hT;obtain ⟨_,_,rfl⟩:=zmd hx;have w:l++zB []=l:=by simp [zB]
  rw [w] at hk;have k:l.length≤cp:=by
   rcases f.body with ⟨_,j⟩ | ⟨_,_,_,_,_,_,b,_⟩
   ·rw [j];simp
   ·exact b
  obtain ⟨D,hi,_⟩:∃ i,P.info? e=some i∧i.bytes=bytes:=by
   unfold zmi at q;obtain ⟨i,b,z⟩:=gu.1 q;exact ⟨i,b,z⟩
  refine zgT (fun v κ'=>v=.slice a l.length cp∧κ'=κ) h (fun C u=>⟨_,κ,u,?_,rfl,rfl⟩) (fun v κ' y=>?_)
  ·rw [ho];refine zG ?_;have m:=zwb hT2;have hs:zt []=.string ⟨#[]⟩:=rfl;rw [hs];cases a<;>simp [Builtin.append_,run_underlying (zgl b),run_underlying m,sizeOf,typeInfo,hi,Builtin.lenOf,ByteArray.size,k,Builtin.firstCells,storeCells]
  ·obtain ⟨rfl,rfl⟩:=y;exact hk a cp _ (Step.refl _ _) f (fun g f=>.inl f) hz
end
def tk (τ:Tag) (κ:K):List Nat:=(List.range κ.H.size).filter fun g=>decide (κ.tag g=τ)&&decide (τ.1≤g)
theorem zoN {τ:Tag} {κ:K} {g:Nat}:g∈tk τ κ↔g<κ.H.size∧κ.tag g=τ∧τ.1≤g:=by
 unfold tk;simp [ey]
structure Bld (TB eB:TypeId) (τ:Tag) (κ:K) (b:Nat) (l:List Int):Prop where
 ex:∃ p a c,(p=Value.pointer none∨p=Value.pointer (some ⟨b,0,none⟩))∧Box τ κ b [p,.slice a l.length c] TB∧Gr tU8 false τ κ eB a c l∧b∉blk a c∧(a=none∨0<c)
section
variable {TB eB:TypeId} {τ τ':Tag} {κ κ':K} {b:Nat} {l:List Int} {M:List Nat}
theorem Bld.mk0 (h:Box τ κ b [.pointer none,.slice none 0 0] TB):Bld TB eB τ κ b []:=⟨_,none,0,.inl rfl,h,Gr.nil,by simp [blk],.inl rfl⟩
theorem Bld.most (h:Bld TB eB τ κ b l):l.length≤9223372036854775807:=by obtain ⟨_,_,_,_,_,g,_⟩:=h.ex;exact zqL g.most
theorem Bld.own {κ0:K} (_:Bld TB eB τ κ b l) (h0:κ0.H.size≤τ.1):∀ g∈tk τ κ,κ0.H.size≤g:=fun g a=>gc h0 (zoN.1 a).2.2
theorem Bld.nb {x:Nat} (_:Bld TB eB τ κ b l) (h':Own τ' κ x) (hn:τ'≠τ):x∉tk τ κ:=fun a=>hn (h'.tag.symm.trans (zoN.1 a).2.1)
theorem Bld.bn {x:Nat} (_:Bld TB eB τ κ b l) (h':Own τ' κ x) (hn:τ≠τ'):∀ g∈tk τ κ,g∉[x]:=fun g a c=>by
 have d:=fg.1 c;subst d;exact hn ((zoN.1 a).2.1.symm.trans h'.tag)
theorem Bld.step (s:Step M κ κ') (hm:∀ g∈tk τ κ,g∉M) (h:Bld TB eB τ κ b l):Bld TB eB τ κ' b l:=by
 obtain ⟨p,a,c,hp,B,g,e⟩:=h.ex;exact ⟨p,a,c,hp,B.step s (hm b (zoN.2 ⟨B.lt,B.tag,B.ge⟩)),g.step s (fun x d=>hm x (zoN.2 (g.lt x d))),e⟩
theorem Bld.step0 (s:Step [] κ κ') (h:Bld TB eB τ κ b l):Bld TB eB τ κ' b l:=h.step s (fun _ _=>by simp)
instance:Stp κ κ' (Bld TB eB τ κ b l) (Bld TB eB τ κ' b l):=⟨fun s h=>h.step0 s⟩
end
def pow10s:List Int:=[1,10,100,1000,10000,100000,1000000,10000000,100000000,1000000000,10000000000,100000000000,1000000000000,10000000000000,100000000000000,1000000000000000,10000000000000000,100000000000000000,1000000000000000000,10000000000000000000]
structure Globp (tab:List Int) (gta:Nat) (κ:K):Prop where
 pow:PubAt κ gta 0 (tab.map (Value.int .u64))
 psz:0<tab.length∧∃ e k,κ.shp gta=some (e,tab.length,k)
theorem Globp.step {tab:List Int} {gta:Nat} {M:List Nat} {κ κ':K} (s:Step M κ κ') (h:Globp tab gta κ):Globp tab gta κ':=by
 obtain ⟨b,e,k,c⟩:=h.psz;have a:0<κ.fr gta:=by have:=h.pow.2.1;rw [dv] at this;omega
 exact ⟨h.pow.step s,⟨b,e,k,(s.2.2.2 gta h.pow.1 a).2.trans c⟩⟩
def K.frz (κ:K) (g n:Nat) (cur:Array Value) (e:TypeId):K:=⟨κ.H.setIfInBounds g (.cells cur e (0,n)),κ.fr,κ.tag⟩
theorem zyQ {κ:K} {g n:Nat} {cur:Array Value} {e:TypeId} (hg:κ.H[g]?=some (.cells cur e (0,0))) (hf:κ.fr g=0):Step [g] κ (κ.frz g n cur e):=by
 refine ⟨by simp [K.frz],fun x c hm=>⟨?_,rfl,rfl⟩,fun x c=>⟨ga _,fun o d=>?_⟩,fun x c b=>⟨rfl,?_⟩⟩
 ·have:g≠x:=fun e=>hm (by simp [e]);simp only [K.frz];rw [ag this]
 ·by_cases a:g=x
  ·subst a;rw [hf] at d;omega
  ·unfold K.cell K.frz;simp only [ag a]
 ·have a:g≠x:=fun e=>by rw [←e,hf] at b;omega
  unfold K.shp K.frz;simp only [ag a]
theorem zCb [Fb] {C:Cx} {κ:K} {d g n:Nat} {cur:Array Value} {e:TypeId} (hg:κ.H[g]?=some (.cells cur e (0,0))) (hn:n≠0):(W C κ d).freeze ⟨g,0,none⟩ n=W C (κ.frz g n cur e) d:=by
 have b:g<κ.H.size:=(ae.1 hg).1;unfold World.freeze W K.frz;rw [if_neg hn];simp only [];congr 1;apply Array.ext
 ·simp
 ·intro j f h;have c:j<κ.H.size:=by simpa using f
  rw [Array.getElem_modify];by_cases a:g=j
  ·subst a;have:=(ae.1 hg).2;simp [this]
  ·rw [if_neg a,Array.getElem_setIfInBounds_ne c a]
end Go.Lf
