import Derived.Test.YtinhknndegdcfaaGreatDoorA
import Derived.Conc.SmallLaws
import Derived.Lib.SliceRun
import Derived.Sort.Row
import Derived.RangeFuncSeq
import Derived.RangeFuncLeaves
import Derived.Laws.Append
import Derived.Maps.RangeRun
import Derived.Shelf.SlSortCmp.WholeK
import Derived.Shelf.SlSortCmp.NoneTotal
import Derived.Lib.UnsafeStr
import Derived.Laws.IdiomStrings
import Derived.Lib.AppendZerosOnto
set_option linter.all false
set_option maxRecDepth 100000
set_option maxHeartbeats 1000000
namespace Go.Lf
open Go
section
variable {P:Program} {α:Type} {t:Ty α} {κ:K} {e T:TypeId} {a:Option Addr} {cp:Nat} {l r:List α} {τ:Tag} {pub:Bool}
theorem Rep.take:∀ {l:List α} {xs:List Value} (i:Nat),Rep t κ xs l→Rep t κ (xs.take (i*t.size)) (l.take i)
 | [],xs,i,h=>by
  have:xs=[]:=h;subst this;simp [Rep]
 | x::l,xs,0,h=>by simp [Rep]
 | x::l,xs,i+1,⟨c,xs',e,ho,hr⟩=>by
  subst e;rw [List.take_succ_cons];refine ⟨c,xs'.take (i*t.size),?_,ho,hr.take i⟩;have a:=t.len ho;rw [List.take_append,ft (by rw [a,fu];omega)];congr 1;rw [a,fu];congr 1;omega
theorem Gr.cap (h:Gr t pub τ κ e a cp l):l.length≤cp:=by
 rcases h.body with ⟨_,b⟩ | ⟨g,cur,xs,ha,hr,hH,h1,_⟩
 ·rw [b];simp
 ·exact h1
theorem Gr.take (h:Gr t false τ κ e a cp l) (i:Nat):Gr t false τ κ e a cp (l.take i):=by
 refine ⟨fz (by rw [ef];exact Nat.min_le_right _ _) h.most,?_⟩;rcases h.body with ⟨hc,b⟩ | ⟨g,cur,xs,ha,hr,hH,h1,h2,h3,h4,h5,h6,h7⟩
 ·exact .inl ⟨hc,by rw [b];simp⟩
 ·refine .inr ⟨g,cur,xs.take (i*t.size),ha,hr.take i,hH,by rw [ef];exact fz (Nat.min_le_right _ _) h1,h2,h3,?_,h5,h6,h7⟩;rw [←h4,List.take_take,ef];congr 1;rcases Nat.le_total i l.length with hi | hi
  ·rw [Nat.min_eq_left hi,Nat.min_eq_left (gj _ hi)]
  ·rw [Nat.min_eq_right hi,Nat.min_eq_right (gj _ hi)]
theorem zg2 {lo hi:Option Int} (hT:zC P T=some e) (hs:zG P e=some t.size) (c:l.length≤cp)
  (hx:zf7 l (lo.getD 0) (hi.getD l.length)=some r) (w:World) :
  (Instr.sliceAt T (.slice a l.length cp) (zbE lo) (zbE hi) none).run P w=.ok (.slice (if cp=(lo.getD 0).toNat then a else a.map (·.add ((lo.getD 0).toNat*t.size))) r.length (cp - (lo.getD 0).toNat)) w:=by
 have b:=zcc hT;obtain ⟨n,m,j,g⟩:=ziH hx;have hc:=c;have f:r.length=(hi.getD l.length).toNat - (lo.getD 0).toNat:=by
  rw [g,dx,ef];omega
 have c:(hi.getD l.length).toNat≤cp:=by omega
 unfold Instr.sliceAt Instr.slice Instr.sliceBounds;rw [f];cases lo with
 | none=>
  cases hi with
  | none=>simp [zy b,zbE,zS hs]
  | some hv=>
   simp only [gq,Option.getD_none] at *;have d:0≤hv∧hv≤(cp:Int):=by omega
   simp [zy b,zbE,zS hs,Instr.sliceBound,asIntOf,d]
 | some lv=>
  cases hi with
  | none=>
   simp only [gq,Option.getD_none] at *;have d:0≤lv∧lv≤(l.length:Int):=by omega
   simp [zy b,zbE,zS hs,Instr.sliceBound,asIntOf,d]
  | some hv=>
   simp only [gq] at *;have d:0≤hv∧hv≤(cp:Int):=by omega
   have h:0≤lv∧lv≤(hv.toNat:Int):=by omega
   simp [zy b,zbE,zS hs,Instr.sliceBound,asIntOf,d,h];intro k;omega
theorem add_zero (a:Option Addr) (c:Nat):(if c=0 then a else a.map (·.add 0))=a:=by
 split
 ·rfl
 ·cases a with
  | none=>rfl
  | some x=>cases x with
   | mk b o r=>
    cases r with
    | none=>rfl
    | some q=>rfl
def clr {α:Type} (l:List α) (lo:Int) (z:α):Option (List α):=
 if 0≤lo∧lo≤l.length then some (l.take lo.toNat++List.replicate (l.length - lo.toNat) z) else none
theorem zrS {lo:Int} {z:α} (h:clr l lo z=some r):0≤lo∧lo≤l.length∧r=l.take lo.toNat++List.replicate (l.length - lo.toNat) z:=by
 unfold clr at h;split at h
 ·rename_i h0;exact ⟨h0.1,h0.2,(Option.some.inj h).symm⟩
 ·cases h
theorem zxY {ty:TypeId} {zs:List Value} {z:α} {lo:Int} (hT:zC P T=some e) (hz:(zct P e).map Value.cells=some zs.toArray) (hzo:t.own κ zs z) (h:Gr t false τ κ e a cp l)
  (F:clr l lo z=some r) [Fb] (C:Cx) (d:Nat) :
  ∃ κ',(Builtin.clear_ #[T] ty #[.slice (if cp=lo.toNat then a else a.map (·.add (lo.toNat*t.size))) (l.length - lo.toNat) (cp - lo.toNat)]).run P (W C κ d)=.ok (.tuple #[]) (W C κ' d)∧Step (blk a cp) κ κ'∧Gr t false τ κ' e a cp r:=by
 obtain ⟨O,Q,rfl⟩:=zrS F;have u:=zcc hT;by_cases w:l.length - lo.toNat=0
 ·refine ⟨κ,?_,Step.refl _ _,?_⟩
  ·rw [w];generalize (if cp=lo.toNat then a else a.map (·.add (lo.toNat*t.size)))=aa;cases aa<;>simp [Builtin.clear_,zy u]
  ·rw [w];have:l.take lo.toNat=l:=ft (by omega);rw [this];simpa using h
 ·rcases h.body with ⟨hc,L⟩ | ⟨g,cur,xs,ha,hr,hH,h2,h3,h4,h5,h6,h7,h8⟩
  ·rw [L] at w;simp at w
  ·subst ha;obtain ⟨R,B,E⟩:=gt.1 hz;have f:Box τ κ g cur.toList e:=⟨by simpa using hH,by rw [h6];simp,h7,h8⟩;have D:=t.len hzo;have q:Rep t κ (Builtin.zeroCells zs.toArray (l.length - lo.toNat)).toList (List.replicate (l.length - lo.toNat) z):=by
    have:=zrd hzo (l.length - lo.toNat);have J:(Builtin.zeroCells zs.toArray (l.length - lo.toNat)).toList=(List.range ((l.length - lo.toNat)*t.size)).map fun i=>(zs.toArray)[i % zs.toArray.size]!:=by
     simp [Builtin.zeroCells,D]
    rw [J];exact this
   have c:=q.length;rw [ed] at c;have s:cur.toList.length=cp*t.size:=by simpa using h4
   have H:lo.toNat*t.size+(l.length - lo.toNat)*t.size=l.length*t.size:=by rw [←fu];congr 1;omega
   have N:l.length*t.size≤cp*t.size:=gj _ h2;have b:Step [g] κ (κ.setB g (splice cur.toList (lo.toNat*t.size) (Builtin.zeroCells zs.toArray (l.length - lo.toNat)).toList) e):=zhJ f;refine ⟨κ.setB g (splice cur.toList (lo.toNat*t.size) (Builtin.zeroCells zs.toArray (l.length - lo.toNat)).toList) e,?_,b.mono (fun x F=>by rw [fg.1 F];exact zi9 (a:=⟨g,0,none⟩) (by omega)),?_⟩
   ·have A:¬cp=lo.toNat:=by omega
    rw [if_neg A];have M:(Option.map (fun x=>Addr.add x (lo.toNat*t.size)) (some (⟨g,0,none⟩:Addr)))=some ⟨g,lo.toNat*t.size,none⟩:=by simp [zbn]
    rw [M];have p:=zih (P:=P) (C:=C) (d:=d) (off:=lo.toNat*t.size) (Builtin.zeroCells zs.toArray (l.length - lo.toNat)).toList 0 κ cur.toList f q.one (by rw [c,s];omega);rw [Nat.add_zero] at p;obtain ⟨m,hm⟩:∃ m,l.length - lo.toNat=m+1:=⟨l.length - lo.toNat - 1,by omega⟩;rw [hm] at p ⊢;simp [Builtin.clear_,zy u,zfk B,E];rw [show (Builtin.zeroCells zs.toArray (m+1)).toList=(Builtin.zeroCells zs.toArray (m+1)).toList from rfl,p];simp
   ·have k:(l.take lo.toNat++List.replicate (l.length - lo.toNat) z).length=l.length:=by
     rw [du,ef,ed];omega
    have I:(l.take lo.toNat).length=lo.toNat:=by rw [ef];omega
    refine ⟨by rw [k];exact h.most,.inr ⟨g,_,xs.take (lo.toNat*t.size)++(Builtin.zeroCells zs.toArray (l.length - lo.toNat)).toList,rfl,(hr.take _ |>.step b).append (q.step b),(ziF f).obj,by rw [k];exact h2,h3,by rw [fo,zfe,s],?_,h6,h7,h8⟩⟩;rw [k];apply bq;intro j;rw [dm];have y:=hr.length;have n:(xs.take (lo.toNat*t.size)).length=lo.toNat*t.size:=by rw [ef,y];omega
    by_cases G:j<l.length*t.size
    ·rw [if_pos G];simp only [List.toList_toArray] at *;rw [zfH _ _ _ _ (by rw [c,s];omega),c];by_cases v:j<lo.toNat*t.size
     ·rw [if_neg (by omega),cj (by rw [n];exact v),dm,if_pos v,←h5,dm,if_pos G]
     ·rw [if_pos (by omega),cn (by rw [n];omega),n]
    ·rw [if_neg G,cu];rw [du,n,c];omega
end
section
variable [Fc] [Fb] {P:Program} {n:Nat} {c:Code} {i:Nat} {Q:zaH} {E:Env} {κ:K} {α:Type} {t:Ty α} {τ:Tag} {e T:TypeId} {a:Option Addr} {cp:Nat} {l r:List α}
theorem osv (d:Nat) {hi:Int} (hg:Gr t false τ κ e a cp l) (hx:zf7 l 0 hi=some r) (hk:Gr t false τ κ e a cp r→owp P n c (i+1) Q (upd E d (.slice a r.length cp)) κ)
  (h:st c i n E (some d)=true:=by kernel_rfl) (ho:execOp (ev E) (zv c i)=vOf (Instr.sliceAt T (.slice a l.length cp) none (zbE (some hi)) none):=by kernel_rfl)
  (hT:zC P T=some e:=by kernel_rfl) (hs:zG P e=some t.size:=by kernel_rfl):owp P n c i Q E κ:=by
 have b:=(ziH hx).2.2.2;refine zfB _ h (fun C g=>by rw [ho];exact zB (zg2 (lo:=none) (hi:=some hi) hT hs hg.cap hx _)) ?_;have f:((Option.getD none 0:Int).toNat)=0:=rfl;rw [f,Nat.zero_mul,add_zero,Nat.sub_zero];refine hk ?_;rw [b];exact hg.take _
theorem zzl (d d2:Nat) {lo:Int} (zs:List Value) {z:α} (hg:Gr t false τ κ e a cp l) (hzo:t.own κ zs z) (hx:clr l lo z=some r)
  (hk:∀ κ',Step (blk a cp) κ κ'→Gr t false τ κ' e a cp r→owp P n c (i+1+1) Q (upd E d (.slice (if cp=lo.toNat then a else a.map (·.add (lo.toNat*t.size))) (l.length - lo.toNat) (cp - lo.toNat))) κ')
  (h:st c i n E (some d)=true:=by kernel_rfl) (ho:execOp (ev E) (zv c i)=vOf (Instr.sliceAt T (.slice a l.length cp) (zbE (some lo)) none none):=by kernel_rfl)
  (h2:∀ v,st c (i+1) n (upd E d v) none=true:=by intro _;kernel_rfl) (ho2:∀ v,execOp (ev (upd E d v)) (zv c (i+1))=vOf (Builtin.clear_ #[T] d2 #[v]):=by intro _;kernel_rfl)
  (hT:zC P T=some e:=by kernel_rfl) (hs:zG P e=some t.size:=by kernel_rfl) (hz:(zct P e).map Value.cells=some zs.toArray:=by kernel_rfl):owp P n c i Q E κ:=by
 obtain ⟨q,p,u⟩:=zrS hx;have f:zf7 l (Option.getD (some lo) 0) (Option.getD none (l.length:Int))=some (l.drop lo.toNat):=by
  unfold zf7;simp only [gq,Option.getD_none];rw [if_pos ⟨q,p,by omega⟩];simp
 refine zfB _ h (fun C j=>by rw [ho];exact zB (zg2 (lo:=some lo) (hi:=none) hT hs hg.cap f _)) ?_;simp only [gq];rw [dx];refine zle (h2 _) (fun C j a' m=>?_);obtain ⟨κ',b,g,k⟩:=zxY (ty:=d2) hT hz hzo hg hx C j;obtain ⟨_,_,s,_⟩:=zhe (h2 (.slice (if cp=lo.toNat then a else a.map (·.add (lo.toNat*t.size))) (l.length - lo.toNat) (cp - lo.toNat)));refine zju (by rw [m.eval,ho2];exact zB b) ?_;rw [s];exact hk κ' g k C j _ m
end
theorem zvw {α:Type} {l r:List α} {lo:Int} {z:α} (h:clr l lo z=some r):r.length=l.length:=by
 obtain ⟨b,a,rfl⟩:=zrS h;rw [du,ef,ed];omega
section
variable {P:Program} {f:FuncId} {args:Array Value} {κ:K} {α:Type} {t:Ty α} {τ:Tag} {e:TypeId} {a:Option Addr} {c:Nat} {l:List α}
def K.frB (κ:K) (g m:Nat):K:=⟨κ.H,fun b=>if b=g then m else κ.fr b,κ.tag⟩
theorem Fn.borrow {B:Value→Prop} (hg:Gr t false τ κ e a c l)
  (h:∀ κ1,κ1.H=κ.H→Step (blk a c) κ κ1→Gr t true τ κ1 e a c l→Fn P f args κ1 (fun v κ'=>Step [] κ1 κ'∧B v)):Fn P f args κ (fun v κ'=>Step [] κ κ'∧B v):=by
 by_cases H:∃ g,blk a c=[g]
 ·obtain ⟨g,n⟩:=H;obtain ⟨κ1,m,p,s⟩:=hg.publish;have D:=h κ1 m p s;intro C d;have y:W C κ d=W C κ1 d:=by unfold W;rw [m]
  rw [y];refine (D C d).mono ?_;rintro ex w' ⟨v,κ2,F,r,E,hs,G⟩;refine ⟨v,K.frB κ2 g (κ.fr g),F,r,by rw [E];unfold W K.frB;rfl,?_,G⟩;have w:=hg.lt g (by rw [n];simp);have u:∀ b,b<κ.H.size→(K.frB κ2 g (κ.fr g)).shp b=κ.shp b:=fun b j=>by
   show κ2.shp b=κ.shp b;unfold K.shp;rw [(hs.2.1 b (by rw [m];exact j) (by simp)).1,m]
  have A:∀ b,b<κ.H.size→(K.frB κ2 g (κ.fr g)).tag b=κ.tag b:=fun b j=>by
   show κ2.tag b=κ.tag b;rw [(hs.2.1 b (by rw [m];exact j) (by simp)).2.2];by_cases k:b=g
   ·subst k;exact (s.lt b (by rw [n];simp)).2.1.trans w.2.1.symm
   ·exact (p.2.1 b j (by rw [n];simpa using k)).2.2
  refine ⟨by rw [←m];exact hs.1,fun b j _=>?_,fun b j=>?_,fun b j _=>⟨A b j,u b j⟩⟩
  ·have q:=hs.2.1 b (by rw [m];exact j) (by simp);have I:(K.frB κ2 g (κ.fr g)).H[b]?=κ.H[b]?:=by
    show κ2.H[b]?=κ.H[b]?;rw [q.1,m]
   by_cases k:b=g
   ·subst k;refine ⟨I,by simp [K.frB],?_⟩;show κ2.tag b=κ.tag b;rw [q.2.2];exact (s.lt b (by rw [n];simp)).2.1.trans w.2.1.symm
   ·have x:=p.2.1 b j (by rw [n];simpa using k);refine ⟨I,?_,?_⟩
    ·simp only [K.frB,if_neg k];rw [q.2.1,x.2.1]
    ·show κ2.tag b=κ.tag b;rw [q.2.2,x.2.2]
  ·have q:=hs.2.1 b (by rw [m];exact j) (by simp);have hc:∀ o,(K.frB κ2 g (κ.fr g)).cell b o=κ.cell b o:=fun o=>by
    show K.cell κ2 b o=K.cell κ b o;unfold K.cell;rw [q.1,m]
   refine ⟨?_,fun o _=>hc o⟩;by_cases k:b=g
   ·subst k;simp [K.frB]
   ·have x:=p.2.1 b j (by rw [n];simpa using k);simp only [K.frB,if_neg k];rw [q.2.1,x.2.1];exact fy _
 ·have n:blk a c=[]:=by
   cases a with
   | none=>rfl
   | some ad=>
    by_cases hc:c=0
    ·rw [hc,zmf]
    ·exact absurd ⟨ad.block,by simp [blk,hc]⟩ H
  obtain ⟨κ1,m,p,s⟩:=hg.publish;have D:=h κ1 m p s;intro C d;have y:W C κ d=W C κ1 d:=by unfold W;rw [m]
  rw [y];rw [n] at p;refine (D C d).mono ?_;rintro ex w' ⟨v,κ2,F,r,E,hs,G⟩;exact ⟨v,κ2,F,r,E,p.trans hs,G⟩
theorem Fn.borrow0 {B:Value→Prop} (hg:Gr t false τ κ e a c l)
  (h:∀ κ1,κ1.H=κ.H→Step (blk a c) κ κ1→Gr t true τ κ1 e a c l→Fn P f args κ1 (fun v κ'=>κ1=κ'∧B v)):Fn P f args κ (fun v κ'=>κ=κ'∧B v):=by
 obtain ⟨κ1,b,q,k⟩:=hg.publish;have r:=h κ1 b q k;intro C d;have n:W C κ d=W C κ1 d:=by unfold W;rw [b]
 rw [n];refine (r C d).mono ?_;rintro ex w' ⟨v,κ2,m,g,j,hs,p⟩;subst hs;exact ⟨v,κ,m,g,by rw [j];unfold W;rw [b],rfl,p⟩
end
theorem Gr.any {α:Type} {t:Ty α} {pub:Bool} {τ:Tag} (τ':Tag) {κ:K} {e:TypeId} {a:Option Addr} {c:Nat} {l:List α} (h:Gr t pub τ κ e a c l) (hb:blk a c=[]):Gr t pub τ' κ e a c l:=by
 refine ⟨h.most,?_⟩;rcases h.body with h1 | ⟨g,cur,xs,ha,hr,hH,h1,_⟩
 ·exact .inl h1
 ·have hc:c=0:=by
   subst ha;by_cases hc:c=0
   ·exact hc
   ·simp [blk,hc] at hb
  exact .inl ⟨hc,bp (by omega)⟩
theorem Gr.lo {α:Type} {t:Ty α} {pub:Bool} {τ:Tag} {κ:K} {e:TypeId} {a:Option Addr} {c:Nat} {l:List α} (h:Gr t pub τ κ e a c l):τ.1<κ.H.size∨blk a c=[]:=by
 by_cases b:blk a c=[]
 ·exact .inr b
 ·obtain ⟨g,d⟩:=List.exists_mem_of_ne_nil _ b;have:=h.lt g d;exact .inl (Nat.lt_of_le_of_lt this.2.2 this.1)
theorem Gr.low {α:Type} {t:Ty α} {pub:Bool} {N i m:Nat} {κ:K} {e:TypeId} {a:Option Addr} {c:Nat} {l:List α} (h:Gr t pub (N,i) κ e a c l) (go:m≤N) (hb:m<κ.H.size) :
  ∃ N',m≤N'∧N'<κ.H.size∧Gr t pub (N',i) κ e a c l:=by
 rcases h.lo with h1 | h1
 ·exact ⟨N,go,h1,h⟩
 ·exact ⟨m,fy _,hb,h.any _ h1⟩
abbrev Hd:=Option Addr×Nat×Nat
def tH:Ty Hd:=⟨1,fun _ cs h=>cs=[.slice h.1 h.2.1 h.2.2],fun h=>by rw [h];rfl,fun _ h=>h,fun h v hv=>by rw [h] at hv;simp at hv;subst hv;rfl⟩
def znh (h:Hd):List Nat:=blk h.1 h.2.2
def mblk (a:Option Addr) (c:Nat) (hs:List Hd):List Nat:=blk a c++hs.flatMap znh
theorem znU (a:Option Addr) (c:Nat):(blk a c).Nodup:=by
 unfold blk;cases a with
 | none=>simp
 | some x=>simp only [];split<;>simp
structure Mat {α:Type} (t:Ty α) (pub:Bool) (τ:Tag) (κ:K) (eo ei:TypeId) (a:Option Addr) (c:Nat) (hm hs:List Hd) (L:List (List α)):Prop where
 out:Gr tH false τ κ eo a c hm
 len:hs.length=L.length
 rows:∀ (i:Nat) (h:Hd) (l:List α),hs[i]?=some h→L[i]?=some l→h.2.1=l.length∧Gr t pub τ κ ei h.1 h.2.2 l
 nd:(mblk a c hs).Nodup
section
variable {α:Type} {t:Ty α} {pub:Bool} {τ:Tag} {κ κ':K} {eo ei:TypeId} {a:Option Addr} {c:Nat} {hm hs:List Hd} {L:List (List α)} {M:List Nat}
theorem znk {g:Nat}:g∈mblk a c hs↔g∈blk a c∨∃ (i:Nat) (h:Hd),hs[i]?=some h∧g∈znh h:=by
 unfold mblk;rw [ep,List.mem_flatMap];constructor
 ·rintro (h | ⟨x,d,b⟩)
  ·exact .inl h
  ·obtain ⟨i,hi⟩:=cy d;exact .inr ⟨i,x,hi,b⟩
 ·rintro (h | ⟨i,x,d,b⟩)
  ·exact .inl h
  ·exact .inr ⟨x,fd d,b⟩
theorem Mat.row_at (h:Mat t pub τ κ eo ei a c hm hs L) {i:Nat} {hd:Hd} (hi:hs[i]?=some hd):∃ l,L[i]?=some l∧hd.2.1=l.length∧Gr t pub τ κ ei hd.1 hd.2.2 l:=by
 have b:i<L.length:=by rw [←h.len];exact (cv.1 hi).1
 have d:L[i]?=some L[i]:=by simp [b]
 exact ⟨L[i],d,h.rows i hd _ hi d⟩
theorem Mat.lt (h:Mat t pub τ κ eo ei a c hm hs L):∀ g∈mblk a c hs,g<κ.H.size∧κ.tag g=τ∧τ.1≤g:=by
 intro g b;rcases znk.1 b with b | ⟨i,hd,hi,b⟩
 ·exact h.out.lt g b
 ·obtain ⟨l,_,_,d⟩:=h.row_at hi;exact d.lt g b
theorem Mat.step (s:Step M κ κ') (hM:∀ g∈mblk a c hs,g∉M) (h:Mat t pub τ κ eo ei a c hm hs L):Mat t pub τ κ' eo ei a c hm hs L:=
 ⟨h.out.step s (fun g b=>hM g (znk.2 (.inl b))),h.len,fun i hd l hi d=>⟨(h.rows i hd l hi d).1,(h.rows i hd l hi d).2.step s (fun g b=>hM g (znk.2 (.inr ⟨i,hd,hi,b⟩)))⟩,h.nd⟩
theorem Mat.step0 (s:Step [] κ κ') (h:Mat t pub τ κ eo ei a c hm hs L):Mat t pub τ κ' eo ei a c hm hs L:=h.step s (by simp)
theorem Mat.most (h:Mat t pub τ κ eo ei a c hs hs L):L.length≤9223372036854775807:=by rw [←h.len];exact zqK h.out.most
theorem Mat.idx {ix:Int} {l:List α} (h:Mat t pub τ κ eo ei a c hs hs L) (hx:idx L ix=some l) :
  ∃ b ah ch,a=some ⟨b,0,none⟩∧0≤ix∧ix<(L.length:Int)∧hs[ix.toNat]?=some (ah,l.length,ch)∧At κ b (0+ix.toNat*1) [.slice ah l.length ch]∧Gr t pub τ κ ei ah ch l:=by
 obtain ⟨k,r,q⟩:=ziD hx;have f:ix.toNat<hs.length:=by rw [h.len];omega
 have g:hs[ix.toNat]?=some hs[ix.toNat]:=by simp [f]
 obtain ⟨j,n⟩:=h.rows _ _ _ g q;have e:Lf.idx hs ix=some hs[ix.toNat]:=by unfold Lf.idx;rw [if_pos k];exact g
 obtain ⟨b,p,_,_,cs,d,m⟩:=h.out.idx e;refine ⟨b,hs[ix.toNat].1,hs[ix.toNat].2.2,p,k,r,?_,?_,n⟩
 ·rw [g,←j]
 ·have:cs=[.slice hs[ix.toNat].1 hs[ix.toNat].2.1 hs[ix.toNat].2.2]:=m;rw [this,j] at d;exact d
theorem Mat.made {n:Nat} (h:Gr tH false τ κ eo a c (List.replicate n (none,0,0))):Mat t pub τ κ eo ei a c (List.replicate n (none,0,0)) (List.replicate n (none,0,0)) (List.replicate n ([]:List α)):=by
 refine ⟨h,by simp,fun i hd l hi d=>?_,?_⟩
 ·have b:hd=(none,0,0):=List.eq_of_mem_replicate (fd hi);have e:l=[]:=List.eq_of_mem_replicate (fd d);subst b;subst e;exact ⟨rfl,Gr.nil⟩
 ·unfold mblk;have:(List.replicate n ((none,0,0):Hd)).flatMap znh=[]:=by
   rw [List.flatMap_eq_nil_iff];intro x f;rw [List.eq_of_mem_replicate f];rfl
  rw [this,bh];exact znU a c
theorem zuc {i:Nat} {hd h':Hd} (hi:hs[i]?=some hd):∃ X Y,hs.flatMap znh=X++znh hd++Y∧(hs.set i h').flatMap znh=X++znh h'++Y:=by
 have a:=(cv.1 hi).1;have b:=(cv.1 hi).2;refine ⟨(hs.take i).flatMap znh,(hs.drop (i+1)).flatMap znh,?_,?_⟩
 ·have:hs=hs.take i++hd::hs.drop (i+1):=by
   rw [←b,List.getElem_cons_drop,List.take_append_drop]
  conv=>lhs;rw [this]
  simp [ca,cg,bg]
 ·rw [List.set_eq_take_append_cons_drop,if_pos a];simp [ca,cg,bg]
theorem zsw {A X B Y B':List Nat} {n:Nat} (h:(A++(X++B++Y)).Nodup) (hb:B'.Nodup) (hlt:∀ g∈A++(X++B++Y),g<n) (hw:∀ g∈B',g∈B∨n≤g):(A++(X++B'++Y)).Nodup:=by
 simp only [fi,ep] at h hlt ⊢;obtain ⟨j,⟨⟨e,m,f⟩,k,d⟩,c⟩:=h;refine ⟨j,⟨⟨e,hb,fun x b y a=>?_⟩,k,fun x b y a=>?_⟩,fun x b y a=>?_⟩
 ·rcases hw y a with hyb | hyn
  ·exact f x b y hyb
  ·have:=hlt x (.inr (.inl (.inl b)));omega
 ·rcases b with b | b
  ·exact d x (.inl b) y a
  ·rcases hw x b with hxb | hxn
   ·exact d x (.inr hxb) y a
   ·have:=hlt y (.inr (.inr a));omega
 ·rcases a with (a | a) | a
  ·exact c x b y (.inl (.inl a))
  ·rcases hw y a with hyb | hyn
   ·exact c x b y (.inl (.inr hyb))
   ·have:=hlt x (.inl b);omega
  ·exact c x b y (.inr a)
theorem Mat.row (h:Mat t pub τ κ eo ei a c hm hs L) {i:Nat} {hd:Hd} {a':Option Addr} {c':Nat} {l':List α} (hi:hs[i]?=some hd) (s:Step (znh hd) κ κ') (g:Gr t pub τ κ' ei a' c' l')
  (hw:∀ x∈blk a' c',x∈znh hd∨κ.H.size≤x):Mat t pub τ κ' eo ei a c hm (hs.set i (a',l'.length,c')) (L.set i l'):=by
 have f:=(cv.1 hi).1;obtain ⟨X,Y,u,A⟩:=zuc (h':=(a',l'.length,c')) hi;have e:=h.nd;unfold mblk at e;refine ⟨h.out.step s (fun x m hc=>?_),by rw [ee,ee];exact h.len,fun j w l b d=>?_,?_⟩
 ·rw [fi] at e;exact e.2.2 x m x (by rw [u];simp [hc]) rfl
 ·by_cases k:i=j
  ·subst k;rw [dj f] at b;rw [dj (by rw [←h.len];exact f)] at d;injection b with b;injection d with d
   subst b;subst d;exact ⟨rfl,g⟩
  ·rw [dh k] at b d;refine ⟨(h.rows j w l b d).1,(h.rows j w l b d).2.step s (fun x m hc=>?_)⟩;have v:=(fi.1 e).2.1;have y:=(List.pairwise_flatMap.1 v).2;have p:=(cv.1 b).1;have q:=fk.1 y;have ei':=(cv.1 hi).2;have r:=(cv.1 b).2;rcases gg k with hlt' | hlt'
   ·have:=q i j f p hlt';rw [ei',r] at this;exact this x hc x m rfl
   ·have:=q j i p f hlt';rw [ei',r] at this;exact this x m x hc rfl
 ·unfold mblk;rw [A];rw [u] at e;refine zsw e (znU a' c') (n:=κ.H.size) (fun x m=>?_) hw;have:x∈mblk a c hs:=by unfold mblk;rw [u];exact m
  exact (h.lt x this).1
theorem Mat.outer (h:Mat t pub τ κ eo ei a c hm hs L) {a':Option Addr} {c':Nat} {hm':List Hd} (s:Step (blk a c) κ κ') (g:Gr tH false τ κ' eo a' c' hm')
  (hw:∀ x∈blk a' c',x∈blk a c∨κ.H.size≤x):Mat t pub τ κ' eo ei a' c' hm' hs L:=by
 have b:=h.nd;unfold mblk at b;refine ⟨g,h.len,fun i hd l hi e=>⟨(h.rows i hd l hi e).1,(h.rows i hd l hi e).2.step s (fun x d hc=>?_)⟩,?_⟩
 ·exact (fi.1 b).2.2 x hc x (List.mem_flatMap.2 ⟨hd,fd hi,d⟩) rfl
 ·unfold mblk;have:=zsw (A:=[]) (X:=[]) (B:=blk a c) (Y:=hs.flatMap znh) (B':=blk a' c') (n:=κ.H.size) (by simpa using b) (znU a' c') (fun x d=>(h.lt x (by simpa [mblk] using d)).1) hw;simpa using this
def K.retag (κ:K) (B:List Nat) (τ:Tag):K:=⟨κ.H,κ.fr,fun b=>if b∈B then τ else κ.tag b⟩
theorem Gr.fr0 {e:TypeId} {l:List α} (h:Gr t false τ κ e a c l):∀ g∈blk a c,κ.fr g=0:=by
 intro g b;rcases h.body with ⟨hc,_⟩ | ⟨g',cur,xs,ha,hr,hH,h1,h2,h3,h4,h5,h6,h7⟩
 ·rw [hc,zmf] at b;cases b
 ·rw [ha] at b;have:=(znV b).1;rw [this];simpa using h5
theorem Gr.retag {τ':Tag} {e:TypeId} {l:List α} (h:Gr t false τ κ e a c l) (hle:τ'.1≤τ.1):Gr t false τ' (κ.retag (blk a c) τ') e a c l∧Step (blk a c) κ (κ.retag (blk a c) τ'):=by
 have hs:Step (blk a c) κ (κ.retag (blk a c) τ'):=⟨fy _,fun b f hm=>⟨rfl,rfl,by simp [K.retag,hm]⟩,fun b f=>⟨fy _,fun o _=>rfl⟩,fun b f j=>⟨by
  have:b∉blk a c:=fun hm=>by rw [h.fr0 b hm] at j;omega
  simp [K.retag,this],rfl⟩⟩
 refine ⟨⟨h.most,?_⟩,hs⟩;rcases h.body with h1 | ⟨g,cur,xs,ha,hr,hH,h1,h2,h3,h4,h5,h6,h7⟩
 ·exact .inl h1
 ·by_cases d:c=0
  ·exact .inl ⟨d,bp (by omega)⟩
  ·refine .inr ⟨g,cur,xs,ha,hr.step hs,hH,h1,h2,h3,h4,h5,?_,fz hle h7⟩;have:g∈blk a c:=by rw [ha];exact zi9 (a:=⟨g,0,none⟩) (by omega)
   simp [K.retag,this]
theorem Mat.snoc {τr:Tag} {ar:Option Addr} {cr:Nat} {l:List α} (h:Mat t false τ κ eo ei a c hm hs L) (g:Gr t false τr κ ei ar cr l) (hne:τr≠τ) (hle:τ.1≤τr.1) :
  ∃ κ',κ'.H=κ.H∧Step (blk ar cr) κ κ'∧Mat t false τ κ' eo ei a c hm (hs++[(ar,l.length,cr)]) (L++[l]):=by
 obtain ⟨q,s⟩:=g.retag (τ':=τ) hle;have b:∀ x∈mblk a c hs,x∉blk ar cr:=fun x m hc=>hne ((g.lt x hc).2.1.symm.trans (h.lt x m).2.1);have h':=h.step s b;refine ⟨κ.retag (blk ar cr) τ,rfl,s,h'.out,by rw [du,du,h.len];rfl,fun i hd l1 hi d=>?_,?_⟩
 ·by_cases f:i<hs.length
  ·rw [cj f] at hi;rw [cj (by rw [←h.len];exact f)] at d;exact h'.rows i hd l1 hi d
  ·rw [cn (by omega)] at hi;rw [cn (by rw [←h.len];omega)] at d;have n:i - hs.length=0:=by
    have:=(cv.1 hi).1;simp at this;omega
   rw [n] at hi;rw [←h.len,n] at d;simp at hi d;subst hi;subst d;exact ⟨rfl,q⟩
 ·have j:=h.nd;unfold mblk at j ⊢;rw [ca,←bg,fi];refine ⟨j,by simpa [znh] using znU ar cr,fun x m y p=>?_⟩;have k:y∈blk ar cr:=by simpa [znh] using p
  intro e;subst e;exact b x m k
end
section
variable {α:Type} {t:Ty α} {pub:Bool} {τ:Tag} {κ κ':K} {eo ei:TypeId} {a:Option Addr} {c:Nat} {hm hs:List Hd} {L:List (List α)} {M:List Nat}
theorem Gr.publish' {e:TypeId} {l:List α} (h:Gr t pub τ κ e a c l):∃ κ',κ'.H=κ.H∧κ'.tag=κ.tag∧Step (blk a c) κ κ'∧Gr t true τ κ' e a c l:=by
 cases pub with
 | true=>exact ⟨κ,rfl,rfl,Step.refl _ _,h⟩
 | false=>
 rcases h.body with ⟨hc,j⟩ | ⟨g,cur,xs,ha,hr,hH,h1,h2,h3,h4,h5,h6,h7⟩
 ·exact ⟨κ,rfl,rfl,Step.refl _ _,h.most,.inl ⟨hc,j⟩⟩
 ·by_cases d:c=0
  ·exact ⟨κ,rfl,rfl,Step.refl _ _,h.most,.inl ⟨d,bp (by omega)⟩⟩
  have hs:Step (blk a c) κ (κ.pubB g (l.length*t.size)):=by
   refine ⟨fy _,fun b f hm=>⟨rfl,?_,rfl⟩,fun b f=>⟨?_,fun o _=>rfl⟩,fun b f _=>⟨rfl,rfl⟩⟩
   ·simp only [K.pubB];rw [if_neg];intro e;exact hm (by rw [ha,e];exact zi9 (by omega))
   ·simp only [K.pubB];split
    ·rename_i e;subst e;rw [h5];simp
    ·exact fy _
  exact ⟨κ.pubB g (l.length*t.size),rfl,rfl,hs,h.most,.inr ⟨g,cur,xs,ha,hr.step hs,hH,h1,h2,h3,h4,by simp [K.pubB],h6,h7⟩⟩
theorem ztL:∀ (hs:List Hd) (L:List (List α)) (κ:K),hs.length=L.length→(∀ (i:Nat) (h:Hd) (l:List α),hs[i]?=some h→L[i]?=some l→h.2.1=l.length∧Gr t pub τ κ ei h.1 h.2.2 l)→(hs.flatMap znh).Nodup→
  ∃ κ',κ'.H=κ.H∧κ'.tag=κ.tag∧Step (hs.flatMap znh) κ κ'∧∀ (i:Nat) (h:Hd) (l:List α),hs[i]?=some h→L[i]?=some l→h.2.1=l.length∧Gr t true τ κ' ei h.1 h.2.2 l
 | [],L,κ,_,_,_=>⟨κ,rfl,rfl,Step.refl _ _,fun i h l hi=>by simp at hi⟩
 | h::hs,[],κ,hl,_,_=>by simp at hl
 | h::hs,l::L,κ,hl,hr,hn=>by
  rw [cg,fi] at hn;obtain ⟨j,r⟩:=hr 0 h l rfl rfl;obtain ⟨κ1,p,m,f,n⟩:=r.publish';obtain ⟨κ2,s,k,e,g⟩:=ztL hs L κ1 (by simpa using hl) (fun i h' l' hi a=>by
   obtain ⟨q,u⟩:=hr (i+1) h' l' hi a;refine ⟨q,u.step f (fun x d hc=>hn.2.2 x hc x (List.mem_flatMap.2 ⟨h',fd hi,d⟩) rfl)⟩) hn.2.1
  refine ⟨κ2,s.trans p,k.trans m,?_,fun i h' l' hi a=>?_⟩
  ·rw [cg];exact (f.mono (fun b c=>ep.2 (.inl c))).trans (e.mono (fun b c=>ep.2 (.inr c)))
  ·cases i with
   | zero=>
    simp at hi a;subst hi;subst a;exact ⟨j,n.step e (fun x d hc=>hn.2.2 x d x hc rfl)⟩
   | succ i=>exact g i h' l' hi a
theorem zzc {l:List Hd}:∀ {xs:List Value} {L:List (List α)},Rep tH κ xs l→l.length=L.length→(∀ (i:Nat) (h:Hd) (r:List α),l[i]?=some h→L[i]?=some r→h.2.1=r.length∧Sl t κ h.1 h.2.2 r)→Rep (tSl t) κ xs L:=by
 induction l with
 | nil=>
  intro xs L g b _;cases L with
  | nil=>exact g
  | cons _ _=>simp at b
 | cons h l ih=>
  intro xs L g b a;cases L with
  | nil=>simp at b
  | cons r L=>
   obtain ⟨c,d,e,m,f⟩:=g;obtain ⟨k,p⟩:=a 0 h r rfl rfl;refine ⟨c,d,e,⟨h.1,h.2.2,?_,p⟩,ih f (by simpa using b) (fun i h' n hi j=>a (i+1) h' n hi j)⟩;have:c=[.slice h.1 h.2.1 h.2.2]:=m;rw [this,k]
theorem Mat.publish (h:Mat t pub τ κ eo ei a c hs hs L):∃ κ',κ'.H=κ.H∧κ'.tag=κ.tag∧Step (mblk a c hs) κ κ'∧Gr (tSl t) true τ κ' eo a c L:=by
 have d:=h.nd;unfold mblk at d;rw [fi] at d;obtain ⟨κ1,w,v,q,B⟩:=ztL hs L κ h.len h.rows d.2.1;have u:=h.out.step q (fun x k hc=>d.2.2 x k x hc rfl);obtain ⟨κ2,C,s,p,n⟩:=u.publish';have f:Step (mblk a c hs) κ κ2:=(q.mono (fun b j=>by unfold mblk;exact ep.2 (.inr j))).trans (p.mono (fun b j=>by unfold mblk;exact ep.2 (.inl j)));refine ⟨κ2,C.trans w,s.trans v,f,by rw [←h.len];exact n.most,?_⟩;rcases n.body with ⟨hc,y⟩ | ⟨g,cur,xs,ha,hr,hH,h1,h2,h3,h4,h5,h6,h7⟩
 ·refine .inl ⟨hc,?_⟩;have:=h.len;rw [y] at this;exact bp (by simpa using this.symm)
 ·have e:Rep (tSl t) κ2 xs L:=zzc hr h.len (fun i hd r hi m=>by
   obtain ⟨A,D⟩:=B i hd r hi m;exact ⟨A,(D.step p (fun x k hc=>d.2.2 x hc x (List.mem_flatMap.2 ⟨hd,fd hi,k⟩) rfl)).sl⟩)
  exact .inr ⟨g,cur,xs,ha,e,hH,by rw [←h.len];exact h1,h2,h3,by rw [←h.len];exact h4,by rw [←h.len];exact h5,h6,h7⟩
def K.back (κ κ':K):K:=⟨κ'.H,fun b=>if b<κ.H.size then κ.fr b else κ'.fr b,κ'.tag⟩
theorem zvG {κ1 κ2:K} (e:κ1.H=κ.H) (et:κ1.tag=κ.tag) (s:Step [] κ1 κ2):Step [] κ (K.back κ κ2):=by
 refine ⟨by rw [←e];exact s.1,fun b c _=>?_,fun b c=>?_,fun b c _=>?_⟩
 ·have a:=s.2.1 b (by rw [e];exact c) (by simp);exact ⟨by show κ2.H[b]?=_;rw [a.1,e],by simp [K.back,c],by show κ2.tag b=_;rw [a.2.2,et]⟩
 ·have a:=s.2.1 b (by rw [e];exact c) (by simp);refine ⟨by simp [K.back,c],fun o _=>?_⟩;show K.cell κ2 b o=K.cell κ b o;unfold K.cell;rw [a.1,e]
 ·have a:=s.2.1 b (by rw [e];exact c) (by simp);refine ⟨by show κ2.tag b=_;rw [a.2.2,et],?_⟩;show K.shp κ2 b=K.shp κ b;unfold K.shp;rw [a.1,e]
theorem Fn.lend {P:Program} {f:FuncId} {args:Array Value} {R:Value→K→Prop} {κ1:K} (e:κ1.H=κ.H) (et:κ1.tag=κ.tag)
  (h:Fn P f args κ1 (fun v κ'=>Step [] κ1 κ'∧R v κ')) (hR:∀ v κ2,Step [] κ1 κ2→R v κ2→R v (K.back κ κ2)):Fn P f args κ (fun v κ'=>Step [] κ κ'∧R v κ'):=by
 intro C d;have g:W C κ d=W C κ1 d:=by unfold W;rw [e]
 rw [g];refine (h C d).mono ?_;rintro ex w' ⟨v,κ2,c,a,b,hs,j⟩;exact ⟨v,K.back κ κ2,c,a,by rw [b];unfold W K.back;rfl,zvG e et hs,hR v κ2 hs j⟩
theorem zvg:∀ {l:List Int} {xs:List Value},Rep tI64 κ xs l→Rep tI64 κ' xs l
 | [],_,h=>h
 | _::_,_,⟨c,xs',e,ho,hr⟩=>⟨c,xs',e,ho,zvg hr⟩
theorem Gr.back {N i:Nat} {e:TypeId} {l:List Int} (h:Gr tI64 pub (N,i) κ' e a c l) (hN:κ.H.size≤N):Gr tI64 pub (N,i) (K.back κ κ') e a c l:=by
 refine ⟨h.most,?_⟩;rcases h.body with h1 | ⟨g,cur,xs,ha,hr,hH,h1,h2,h3,h4,h5,h6,h7⟩
 ·exact .inl h1
 ·refine .inr ⟨g,cur,xs,ha,?_,hH,h1,h2,h3,h4,?_,h6,h7⟩
  ·exact zvg hr
  ·have:¬g<κ.H.size:=by
    have:N≤g:=h7;omega
   simp [K.back,this,h5]
end
section
variable [Fc] [Fb] {P:Program} {n:Nat} {c:Code} {i:Nat} {Q:zaH} {E:Env} {α:Type} {t:Ty α} {τ:Tag} {κ:K} {eo ei:TypeId} {a:Option Addr} {cp:Nat} {hm hs:List Hd} {L:List (List α)}
theorem zmE {pub:Bool} (h:Mat t pub τ κ eo ei a cp hs hs L) (hk:∀ κ',Step (mblk a cp hs) κ κ'→Gr (tSl t) true τ κ' eo a cp L→cwp P n c Q E κ'):cwp P n c Q E κ:=by
 obtain ⟨κ',e,_,s,g⟩:=h.publish;exact zsK e (hk κ' s g)
theorem zwK {l:List Hd} {i:Nat} {h:Hd} (hi:l[i]?=some h):l.set i h=l:=by
 apply bq;intro j;rw [List.getElem?_set];split
 ·rename_i e;subst e;have:=(cv.1 hi).1;rw [if_pos this,hi]
 ·rfl
theorem zo3 {jx:Int} {ix:Nat} {x':α} {b δ:Nat} {T:TypeId} {vs:List Value} {ah:Option Addr} {ch:Nat} {l:List α} (v:Value) (h:st c i n E none=true)
  (ho:execOp (ev E) (zv c i)=uOf (Instr.storeAt T (.pointer (some ⟨b,0+jx.toNat*t.size+δ,none⟩)) v)) (ea:ah=some ⟨b,0,none⟩) (hM:Mat t false τ κ eo ei a cp hm hs L) (hi:hs[ix]?=some (ah,l.length,ch)) (hl:L[ix]?=some l)
  (h0:0≤jx) (h1:jx<(l.length:Int)) (hv:v.cells=vs.toArray) (hs':zG P T=some vs.length) (hone:zoH vs=true) (hδ:Nat.ble (δ+vs.length) t.size=true)
  (hnew:∀ cs,(∃ x,idx l jx=some x∧t.own κ cs x)→t.own κ (splice cs δ vs) x')
  (hk:∀ κ',Step (blk ah ch) κ κ'→Mat t false τ κ' eo ei a cp hm hs (L.set ix (l.set jx.toNat x'))→owp P n c (i+1) Q E κ'):owp P n c i Q E κ:=by
 have d:=(hM.rows ix _ l hi hl).2;refine zdz v h ho ea d h0 h1 hv hs' hone hδ hnew (fun κ' s g=>hk κ' s ?_);have:=hM.row hi s g (fun x e=>.inl e);rw [ee,zwK hi] at this;exact this
theorem zrj {ix:Int} {b:Nat} {T:TypeId} {hd:Hd} (h:st c i n E none=true)
  (ho:execOp (ev E) (zv c i)=uOf (Instr.storeAt T (.pointer (some ⟨b,0+ix.toNat*1+0,none⟩)) (.slice hd.1 hd.2.1 hd.2.2))) (ea:a=some ⟨b,0,none⟩) (hM:Mat t false τ κ eo ei a cp hm (hm.set ix.toNat hd) L)
  (h0:0≤ix) (h1:ix<(hm.length:Int)) (hs':zG P T=some 1)
  (hk:∀ κ',Step (blk a cp) κ κ'→Mat t false τ κ' eo ei a cp (hm.set ix.toNat hd) (hm.set ix.toNat hd) L→owp P n c (i+1) Q E κ'):owp P n c i Q E κ:=by
 refine zdz (t:=tH) (x':=hd) (vs:=[.slice hd.1 hd.2.1 hd.2.2]) (δ:=0) _ h ho ea hM.out h0 h1 rfl hs' rfl rfl (fun cs e=>?_) (fun κ' s g=>hk κ' s (hM.outer s g (fun x e=>.inl e)));obtain ⟨x,_,d⟩:=e;have:cs=[.slice x.1 x.2.1 x.2.2]:=d;subst this;rfl
end
section
variable {α β:Type} {t:Ty α} {t':Ty β} {pub pub':Bool} {τ τ':Tag} {κ:K} {eo ei eo' ei' e:TypeId} {a a':Option Addr} {c c':Nat} {hm hs hm' hs':List Hd} {L:List (List α)} {L':List (List β)} {b:Nat} {cs:List Value} {T:TypeId}
theorem Mat.nil:Mat t pub τ κ eo ei none 0 [] [] ([]:List (List α)):=⟨Gr.nil,rfl,fun i h l hi=>by simp at hi,by simp [mblk,blk]⟩
theorem Mat.own {κ0:K} (h:Mat t pub τ κ eo ei a c hm hs L) (h0:κ0.H.size≤τ.1):∀ b∈mblk a c hs,κ0.H.size≤b:=fun b d=>fz h0 (h.lt b d).2.2
theorem Mat.nbo (h:Mat t pub τ κ eo ei a c hm hs L) (h':Own τ' κ b) (hn:τ≠τ'):∀ g∈mblk a c hs,g∉[b]:=fun g d e=>by
 have f:g=b:=by simpa using e
 subst f;exact hn ((h.lt g d).2.1.symm.trans h'.tag)
theorem Mat.bno (h:Mat t pub τ κ eo ei a c hm hs L) (h':Own τ' κ b) (hn:τ'≠τ):b∉mblk a c hs:=fun d=>hn (h'.tag.symm.trans (h.lt b d).2.1)
theorem Mat.nb (h:Mat t pub τ κ eo ei a c hm hs L) (h':Box τ' κ b cs T) (hn:τ≠τ'):∀ g∈mblk a c hs,g∉[b]:=h.nbo h'.o hn
theorem Mat.bn (h:Mat t pub τ κ eo ei a c hm hs L) (h':Box τ' κ b cs T) (hn:τ'≠τ):b∉mblk a c hs:=h.bno h'.o hn
theorem Mat.ng {l':List β} (h:Mat t pub τ κ eo ei a c hm hs L) (h':Gr t' pub' τ' κ e a' c' l') (hn:τ≠τ'):∀ g∈mblk a c hs,g∉blk a' c':=fun g b d=>hn ((h.lt g b).2.1.symm.trans (h'.lt g d).2.1)
theorem Mat.ngm (h:Mat t pub τ κ eo ei a c hm hs L) (h':Mat t' pub' τ' κ eo' ei' a' c' hm' hs' L') (hn:τ≠τ'):∀ g∈mblk a c hs,g∉mblk a' c' hs':=fun g b d=>hn ((h.lt g b).2.1.symm.trans (h'.lt g d).2.1)
theorem Gr.ngm {l:List α} (h:Gr t pub τ κ e a c l) (h':Mat t' pub' τ' κ eo' ei' a' c' hm' hs' L') (hn:τ≠τ'):∀ g∈blk a c,g∉mblk a' c' hs':=fun g b d=>hn ((h.lt g b).2.1.symm.trans (h'.lt g d).2.1)
theorem zmr {r:List (List α)} (h:some L=some r) (hM:Mat t pub τ κ eo ei a c hm hs L):Mat t pub τ κ eo ei a c hm hs r:=by injection h with h;rw [←h];exact hM
theorem zti {l:List α} {ix:Int} {x:α} (h:idx l ix=some x):l[ix.toNat]?=some x:=(ziD h).2.2
theorem zgI {i:Nat} {hd:Hd} (hi:hs[i]?=some hd):∀ x∈blk hd.1 hd.2.2,x∈mblk a c hs:=fun x b=>znk.2 (.inr ⟨i,hd,hi,b⟩)
theorem zgu:∀ x∈blk a c,x∈mblk a c hs:=fun x b=>znk.2 (.inl b)
end
section
variable {α:Type} {t:Ty α} {pub:Bool} {τ:Tag} {κ:K} {eo ei:TypeId} {a:Option Addr} {c:Nat} {hm hs:List Hd} {L:List (List α)} {i:Nat} {hd:Hd}
theorem Mat.len0 (h:Mat t pub τ κ eo ei a c hm (hm.set i hd) L):hm.length=(L.length):=by rw [←h.len,ee]
theorem Mat.snocN (h:Mat t pub τ κ eo ei a c hm hs L):Mat t pub τ κ eo ei a c hm (hs++[(none,0,0)]) (L++[[]]):=by
 refine ⟨h.out,by rw [du,du,h.len];rfl,fun i hd l1 hi b=>?_,?_⟩
 ·by_cases e:i<hs.length
  ·rw [cj e] at hi;rw [cj (by rw [←h.len];exact e)] at b;exact h.rows i hd l1 hi b
  ·rw [cn (by omega)] at hi;rw [cn (by rw [←h.len];omega)] at b;have f:i - hs.length=0:=by
    have:=(cv.1 hi).1;simp at this;omega
   rw [f] at hi;rw [←h.len,f] at b;simp at hi b;subst hi;subst b;exact ⟨rfl,Gr.nil⟩
 ·have d:=h.nd;unfold mblk at d ⊢;rw [ca,←bg];simpa [znh,blk] using d
theorem zu5 {by_:Nat} {H H2:List Hd} {L2 r:List (List α)} (h:app by_ L L2=some r) (e1:H.length=L.length) (e2:H2.length=L2.length):app by_ H H2=some (H++H2)∧r=L++L2∧(H++H2).length=r.length:=by
 obtain ⟨b,c,a⟩:=zpv h;refine ⟨?_,a,by rw [a,du,du,e1,e2]⟩;unfold app;rw [e1,e2,if_pos ⟨b,c⟩]
end
section
variable [Fc] [Fb] {P:Program} {n:Nat} {c:Code} {i k:Nat} {nq:List Nat} {q0:Nat} {M:List Nat} {π:List Nat} {Q:zaH} {E:Env} {κ:K}
variable {α:Type} {t:Ty α} {pub:Bool} {τ:Tag} {e T:TypeId} {a a2:Option Addr} {cp c2:Nat} {l l2 r:List α}
theorem zwY {κ':K} (hq:Nat.beq i q0=true) (hsub:∀ x∈blk a cp,x∈M) (h:Step (blk a cp) κ κ'):zoZ q0 M i κ κ':=by
 unfold zoZ;rw [hq];exact h.mono hsub
theorem zqg {d bytes:Nat} (h:xsN c nq i E d=true) (ho:execOp (ev E) (zv c i)=vOf (Builtin.append_ #[T,T] 0 #[.slice a l.length cp,.slice a2 l2.length c2]))
  (hg:Gr t pub τ κ e a cp l) (h2:Sl t κ a2 c2 l2) (hτ:τ.1≤κ.H.size) (hT:zjW P T=some (e,t.size,t.size,bytes)) (hx:app bytes l l2=some r) (hq:Nat.beq i q0=true) (hsub:∀ x∈blk a cp,x∈M)
  (hk:∀ a' c' κ',Step (blk a cp) κ κ'→Gr t pub τ κ' e a' c' r→(∀ g∈blk a' c',g∈blk a cp∨κ.H.size≤g)→xwp P n c k nq q0 M π Q (upd E d (.slice a' r.length c')) κ'):xwp P n c k nq q0 M (i::π) Q E κ:=by
 obtain ⟨s,w,m,u⟩:=zlt hT;obtain ⟨y,hm,rfl⟩:=zpv hx;refine znD (fun v κ'=>∃ a' c',v=.slice a' (l++l2).length c'∧Step (blk a cp) κ κ'∧Gr t pub τ κ' e a' c' (l++l2)∧∀ g∈blk a' c',g∈blk a cp∨κ.H.size≤g) h (fun v κ' ⟨_,_,_,hs,_⟩=>zwY hq hsub hs) (fun C j=>?_) ?_
 ·obtain ⟨a',c',κ',p,q,hs,b,f⟩:=zop (P:=P) (T:=T) (ty:=0) hg h2 hτ s w m u y hm C j;exact ⟨_,κ',p,by rw [ho];exact zB q,a',c',rfl,hs,b,f⟩
 ·rintro v κ' ⟨a',c',rfl,hs,b,f⟩;exact hk a' c' κ' hs b f
end
theorem zzr {α:Type} {by_:Nat} {n:Int} {r:List (List α)} (h:mkl by_ n ([]:List α)=some r) :
  mkl by_ n ((none,0,0):Hd)=some (List.replicate n.toNat (none,0,0))∧r=List.replicate n.toNat []∧(List.replicate n.toNat ((none,0,0):Hd)).length=r.length:=by
 obtain ⟨b,c,d,a⟩:=ztX h;refine ⟨?_,a,by rw [a];simp⟩;unfold mkl;rw [if_pos ⟨b,c,d⟩]
section
variable [Fc] [Fb] {P:Program} {n:Nat} {c:Code} {i k:Nat} {nq:List Nat} {q0:Nat} {M:List Nat} {π:List Nat} {Q:zaH} {E:Env} {κ:K}
variable {α:Type} {t:Ty α} {pub:Bool} {τ:Tag} {e T:TypeId} {a a2:Option Addr} {cp c2:Nat} {l l2 r:List α}
theorem zqh {d bytes:Nat} (ln rn:Nat) (hln:l.length=ln) (hrn:r.length=rn) (h:xsN c nq i E d=true) (ho:execOp (ev E) (zv c i)=vOf (Builtin.append_ #[T,T] 0 #[.slice a ln cp,.slice a2 l2.length c2]))
  (hg:Gr t pub τ κ e a cp l) (h2:Sl t κ a2 c2 l2) (hτ:τ.1≤κ.H.size) (hT:zjW P T=some (e,t.size,t.size,bytes)) (hx:app bytes l l2=some r) (hrel:zoZ q0 M i=Step (blk a cp))
  (hk:∀ a' c' κ',Step (blk a cp) κ κ'→Gr t pub τ κ' e a' c' r→(∀ g∈blk a' c',g∈blk a cp∨κ.H.size≤g)→xwp P n c k nq q0 M π Q (upd E d (.slice a' rn c')) κ'):xwp P n c k nq q0 M (i::π) Q E κ:=by
 subst hln;subst hrn;exact zok h ho hg h2 hτ hT hx hrel hk
theorem ztN {d bytes:Nat} (ln rn:Nat) (hln:l.length=ln) (hrn:r.length=rn) (h:st c i n E (some d)=true) (ho:execOp (ev E) (zv c i)=vOf (Builtin.append_ #[T,T] 0 #[.slice a ln cp,.slice a2 l2.length c2]))
  (hg:Gr t pub τ κ e a cp l) (h2:Sl t κ a2 c2 l2) (hτ:τ.1≤κ.H.size) (hT:zjW P T=some (e,t.size,t.size,bytes)) (hx:app bytes l l2=some r)
  (hk:∀ a' c' κ',Step (blk a cp) κ κ'→Gr t pub τ κ' e a' c' r→(∀ g∈blk a' c',g∈blk a cp∨κ.H.size≤g)→owp P n c (i+1) Q (upd E d (.slice a' rn c')) κ'):owp P n c i Q E κ:=by
 subst hln;subst hrn;exact zrk h ho hg h2 hτ hT hx hk
end
end Go.Lf
namespace Go.Lf
open Go Go.Conc
def mkc (bytes:Nat) (n:Int):Option (List Int):=if 0≤n∧n≤9223372036854775807∧(bytes:Int)*n≤281474976710544 then some [] else none
def zqo (cap:Nat) (l:List Int) (x:Int):Option (List Int):=if l.length<cap then some (l++[x]) else none
def zvu:List Int→Option (Int×List Int)
 | x::l=>if -9223372036854775808≤x∧x≤9223372036854775807 then some (x,l) else none
 | []=>none
def zwl (l:List Int):Option Int:=if l.length≤9223372036854775807 then some (l.length:Int) else none
theorem zw9 {bytes:Nat} {n:Int} {l:List Int} (h:mkc bytes n=some l):0≤n∧n≤9223372036854775807∧(bytes:Int)*n≤281474976710544∧l=[]:=by
 unfold mkc at h;split at h
 ·rename_i h0;exact ⟨h0.1,h0.2.1,h0.2.2,(Option.some.inj h).symm⟩
 ·cases h
theorem zrP {cap:Nat} {l r:List Int} {x:Int} (h:zqo cap l x=some r):l.length<cap∧l++[x]=r:=by
 unfold zqo at h;split at h
 ·rename_i h0;exact ⟨h0,Option.some.inj h⟩
 ·cases h
theorem zuW {l:List Int} {r:Int×List Int} (h:zvu l=some r):l=r.1::r.2∧I64 r.1:=by
 cases l with
 | nil=>cases h
 | cons x l=>
  simp only [zvu] at h;by_cases a : -9223372036854775808≤x∧x≤9223372036854775807
  ·rw [if_pos a] at h;have:=Option.some.inj h;subst this;exact ⟨rfl,a⟩
  ·rw [if_neg a] at h;cases h
theorem zwk {l:List Int} {r:Int} (h:zwl l=some r):(l.length:Int)=r∧I64 r:=by
 unfold zwl at h;split at h
 ·rename_i h0;have:=Option.some.inj h;subst this;exact ⟨rfl,by unfold I64;omega⟩
 ·cases h
section
variable [Fc] [Fb] {P:Program} {n:Nat} {c:Code} {i:Nat} {Q:zaH} {E:Env} {κ:K} {τ:Tag} {b cap:Nat} {l:List Int}
theorem Chn.o (h:Chn τ κ b cap l):Own τ κ b:=⟨h.lt,h.fr,h.tag,h.ge⟩
def ztr (P:Program) (T:TypeId):Option Nat:=
 match P.underlying T with
 | some (.chan _ e)=>(P.info? e).map (·.bytes)
 | _=>none
theorem zAh {d T:Nat} {bytes:Nat} {k:IntKind} {m:Int} (τ:Tag) (hτ:τ.1≤κ.H.size) (hx:mkc bytes m=some l) (hk:∀ b κ',Step [] κ κ'→Chn τ κ' b m.toNat l→owp P n c (i+1) Q (upd E d (.chan (some b))) κ')
  (hT:ztr P T=some bytes:=by kernel_rfl) (h:st c i n E (some d)=true:=by kernel_rfl) (ho:execOp (ev E) (zv c i)=vOf (Instr.makeChan T (.int k m)):=by kernel_rfl):owp P n c i Q E κ:=by
 obtain ⟨g,s,p,rfl⟩:=zw9 hx;unfold ztr at hT;split at hT
 ·rename_i dir e hd;obtain ⟨q,hi,r⟩:=gt.1 hT;refine zkb (fun v κ'=>∃ b,v=.chan (some b)∧Step [] κ κ'∧Chn τ κ' b m.toNat []) h (fun C a=>?_) ?_
  ·have f:=run_makeChan (w:=W C κ a) hd hi k m.toNat (by omega) (by rw [r];have:((m.toNat:Nat):Int)=m:=bc g;rw [this];exact p);have j:((m.toNat:Nat):Int)=m:=bc g;rw [j] at f;refine ⟨_,κ.push (.chan m.toNat #[] false 0 0 false) 0 τ,a,by rw [ho];exact zB f,κ.H.size,rfl,zbp _ _ _ _,⟨⟨0,0,by simp [K.push]⟩,by simp [K.push],by simp [K.push],hτ⟩⟩
  ·rintro v κ' ⟨b,rfl,hs,hm⟩;exact hk b κ' hs hm
 ·cases hT
theorem zzW {d T:Nat} {r:Int} (h0:Chn τ κ b cap l) (hx:zwl l=some r) (hk:owp P n c (i+1) Q (upd E d (.int .i64 r)) κ)
  (h:st c i n E (some d)=true:=by kernel_rfl) (ho:execOp (ev E) (zv c i)=vOf (Builtin.len_ #[T] 0 #[.chan (some b)]):=by kernel_rfl)
  (hT:(ztr P T).isSome=true:=by kernel_rfl):owp P n c i Q E κ:=by
 obtain ⟨g,_⟩:=zwk hx;subst g;obtain ⟨s,r,a⟩:=h0.obj;unfold ztr at hT;split at hT
 ·rename_i dir e hd;refine zfB _ h (fun C f=>?_) hk;rw [ho];refine zB ?_;rw [run_len_chan T 0 hd (show (W C κ f).heap[b]?=_ from a)];simp [goInt]
 ·cases hT
end
def ne {α:Type} (l:List α):Option (List α):=
 match l with
 | []=>none
 | x::l=>some (x::l)
theorem zx8 {α:Type} {l r:List α} (h:ne l=some r):l=r∧r≠[]:=by
 cases l with
 | nil=>cases h
 | cons x l=>
  have:=Option.some.inj h;subst this;exact ⟨rfl,by simp⟩
section
variable {P:Program} {E:Env} {c:Code} {i:Nat} {κ:K} {α:Type} {t:Ty α} {pub:Bool} {τ:Tag} {e T:TypeId} {a:Option Addr} {cp:Nat} {l:List α} {w:World} [DecidableEq α]
theorem zvL (hg:Gr t pub τ κ e a cp l) (hn:l=[]→a=none)
  (h:execOp (ev E) (zv c i)=vOf (do eqGuard .eql T (.tmp 0) (.const (.slice none 0 0)) (.slice a l.length cp) (.slice none 0 0);binOp .eql T (.slice a l.length cp) (.slice none 0 0)))
  (hT:zC P T=some e):(execOp (ev E) (zv c i)).run P w=.ok (.value (.bool (decide (l=[])))) w:=by
 rw [h];refine zB ?_;have m:(eqGuard .eql T (.tmp 0) (.const (.slice none 0 0)) (.slice a l.length cp) (.slice none 0 0)).run P w=.ok () w:=by simp [eqGuard]
 rw [ay,m];simp only [ax];have hd:=zcc hT;have k:a.isNone=decide (l=[]):=by
  by_cases b:l=[]
  ·rw [hn b];simp [b]
  ·rcases hg.body with ⟨_,j⟩ | ⟨g,cur,xs,ha,_⟩
   ·exact absurd j b
   ·rw [ha];simp [b]
 rw [←k];have f:(Op.equal T (.slice a l.length cp) (.slice none 0 0)).run P w=.ok a.isNone w:=by
  show (Op.equalIn (9999+1) T (.slice a l.length cp) (.slice none 0 0)).run P w=_;exact Go.Lib.run_equalIn_slice_nil w 9999 T e a _ _ _ _ hd
 have d:binOp .eql T (.slice a l.length cp) (.slice none 0 0)=(do pure (.bool (←Op.equal T (.slice a l.length cp) (.slice none 0 0)))):=rfl;rw [d,ay,f];rfl
end
end Go.Lf
namespace Go.Lf
open Go Go.Sort
section
variable {P:Program} {f:FuncId} {args:Array Value} {κ:K} {τ:Tag} {e:TypeId} {a:Option Addr} {c:Nat} {l:List Int}
theorem zpL:∀ {l:List Int} {xs:List Value},Rep tI64 κ xs l→xs=l.map (Value.int .i64)∧∀ x∈l,I64 x
 | [],xs,h=>⟨h,fun x f=>by cases f⟩
 | x::l,xs,⟨c,xs',e,ho,hr⟩=>by
  obtain ⟨b,d⟩:=zpL hr;have:c=[.int .i64 x]:=ho.1;subst this;refine ⟨by rw [e,b];rfl,fun y a=>?_⟩;rcases eu.1 a with rfl | a
  ·exact ho.2
  ·exact d y a
theorem zwX:∀ {l:List Int},(∀ x∈l,I64 x)→Rep tI64 κ (l.map (Value.int .i64)) l
 | [],_=>rfl
 | x::l,h=>⟨[.int .i64 x],l.map (Value.int .i64),rfl,⟨rfl,h x (by simp)⟩,zwX (fun y a=>h y (by simp [a]))⟩
theorem Fn.row_int {r:List Int} (hg:Gr tI64 false τ κ e a c l) (hlen:r.length=l.length) (hr:∀ x∈r,I64 x)
  (hc:∀ (w:World) (g:Nat),a=some ⟨g,0,none⟩→Holds (Value.int .i64) w g 0 l.toArray→Calls P f args w fun ex w'=>ex=.returned (.tuple #[])∧∃ n,w'=putRow (Value.int .i64) (Sort.ahead w n) g 0 r.toArray)
  (h0:l=[]→∀ w,Calls P f args w fun ex w'=>ex=.returned (.tuple #[])∧w'=w) :
  Fn P f args κ (fun v κ'=>Step (blk a c) κ κ'∧v=.tuple #[]∧Gr tI64 false τ κ' e a c r∧r.length=l.length):=by
 by_cases B:l=[]
 ·intro C d;refine (h0 B (W C κ d)).mono ?_;rintro ex w' ⟨u,D⟩;have:r=l:=by subst B;exact bp (by simpa using hlen)
  exact ⟨_,κ,d,u,D,Step.refl _ _,rfl,by rw [this];exact hg,hlen⟩
 ·rcases hg.body with ⟨_,u⟩ | ⟨g,cur,xs,ha,hrp,hH,u,D,h3,h4,h5,h6,h7⟩
  ·exact absurd u B
  ·have M:0<l.length:=List.length_pos_iff.2 B;obtain ⟨H,J⟩:=zpL hrp;have hsz:tI64.size=1:=rfl;rw [hsz,Nat.mul_one] at h3 h4;have q:Box τ κ g cur.toList e:=⟨by simpa using hH,by rw [h5];simp,h6,h7⟩;intro C d;have m:∀ j (p:j<l.length),cur[j]?=some (Value.int .i64 l[j]):=fun j p=>by
    have A:(cur.toList.take l.length)[j]?=(l.map (Value.int .i64))[j]?:=by rw [h4,H]
    rw [dm,if_pos p,cw,cq p] at A;simpa using A
   have E:Holds (Value.int .i64) (W C κ d) g 0 l.toArray:=fun j p=>by
    have h:j<l.length:=by simpa using p
    refine ⟨?_,?_⟩
    ·rw [zkX];unfold K.cell;rw [hH];simp only [gl];rw [m j h];simp [h]
    ·unfold World.frozen? W;simp [hH]
   refine (hc (W C κ d) g ha E).mono ?_;rintro ex w' ⟨I,n,N⟩;refine ⟨_,κ.setB g (splice cur.toList 0 (r.map (Value.int .i64))) e,d+n,I,?_,?_,rfl,?_,hlen⟩
   ·rw [N];have s:κ.H.modify g (onCells (putCells (Value.int .i64) 0 r.toArray))=(κ.setB g (splice cur.toList 0 (r.map (Value.int .i64))) e).H:=by
     have t:g<κ.H.size:=(ae.1 hH).1;apply Array.ext_getElem?;intro k;rw [af];by_cases G:g=k
     ·subst G;rw [if_pos rfl,hH];simp only [K.setB,Option.map_some,onCells];rw [aj t];congr 2;apply Array.ext_getElem?;intro j;have F:(r.map (Value.int .i64)).length=l.length:=by rw [dz];exact hlen
      have y:cur.toList.length=c:=by simpa using h3
      unfold putCells;rw [Array.getElem?_mapIdx];have O:(splice cur.toList 0 (List.map (Value.int IntKind.i64) r)).toArray[j]?=(splice cur.toList 0 (List.map (Value.int IntKind.i64) r))[j]?:=by simp
      rw [O,zfH _ _ _ _ (by omega)];by_cases p:j<l.length
      ·rw [if_pos (by omega),m j p];have h:j<r.length:=by omega
       simp [h,getElem!_pos,cq h]
      ·rw [if_neg (by omega)];have h:¬j<r.length:=by omega
       cases hcj:cur[j]? with
       | none=>simp [hcj]
       | some v=>simp [hcj,h]
     ·rw [if_neg G];simp only [K.setB];rw [ai G]
    unfold putRow mapBlock Sort.ahead W;simp only [];rw [s,Nat.add_assoc]
   ·exact (zhJ q).mono (fun b L=>by rw [fg.1 L,ha];exact zi9 (a:=⟨g,0,none⟩) (by omega))
   ·have F:(r.map (Value.int .i64)).length=l.length:=by rw [dz];exact hlen
    have y:cur.toList.length=c:=by simpa using h3
    refine ⟨by rw [hlen];exact hg.most,.inr ⟨g,_,r.map (Value.int .i64),ha,zwX hr,(ziF q).obj,by rw [hlen];exact u,D,by rw [hsz,fo,zfe,y];omega,?_,by simp [K.setB,h5],h6,h7⟩⟩;rw [hsz,Nat.mul_one,hlen];apply bq;intro j;rw [dm];by_cases p:j<l.length
    ·rw [if_pos p,List.toList_toArray,zfH _ _ _ _ (by omega),if_pos (by omega)];simp
    ·rw [if_neg p,cu (by omega)]
end
end Go.Lf
namespace Go.Lf
open Go
section
variable {P:Program} {α:Type} {t:Ty α} {κ:K} {e T:TypeId} {a:Option Addr} {cp:Nat} {l m:List α} {τ:Tag}
theorem Rep.drop:∀ {l:List α} {xs:List Value} (i:Nat),Rep t κ xs l→Rep t κ (xs.drop (i*t.size)) (l.drop i)
 | l,xs,0,h=>by simpa using h
 | [],xs,i+1,h=>by
  have:xs=[]:=h;subst this;simp [Rep]
 | x::l,xs,i+1,⟨c,xs',e,ho,hr⟩=>by
  subst e;rw [List.drop_succ_cons];have a:=t.len ho;have:(c++xs').drop ((i+1)*t.size)=xs'.drop (i*t.size):=by
   rw [List.drop_append,List.drop_of_length_le (by rw [a,fu];omega),fh];congr 1;rw [a,fu];omega
  rw [this];exact hr.drop i
theorem Gr.splice {g:Nat} {cur:List Value} {vs:List Value} {lo:Nat} (hg:Gr t false τ κ e a cp l) (ha:a=some ⟨g,0,none⟩) (hb:Box τ κ g cur e) (hl0:0<l.length) (hm:Rep t κ vs m) (hlo:lo+m.length≤l.length) (hm0:0<m.length) :
  lo*t.size+vs.length≤cur.length∧Step (blk a cp) κ (κ.setB g (splice cur (lo*t.size) vs) e)∧Gr t false τ (κ.setB g (splice cur (lo*t.size) vs) e) e a cp (l.take lo++m++l.drop (lo+m.length)):=by
 rcases hg.body with ⟨_,A⟩ | ⟨g',cur',xs,ha',hr,hH,h2,h3,h4,h5,h6,h7,h8⟩
 ·rw [A] at hl0;simp at hl0
 ·rw [ha] at ha';obtain rfl:g=g':=by injection ha' with ha';injection ha'
  have q:cur=cur'.toList:=by
   have:=hb.obj;rw [hH] at this;injection this with this
   injection this with this
   rw [this]
  subst q;have d:=hm.length;have n:cur'.toList.length=cp*t.size:=by simpa using h4
  have u:lo*t.size+m.length*t.size=(lo+m.length)*t.size:=by rw [fu]
  have v:(lo+m.length)*t.size≤l.length*t.size:=gj _ hlo;have y:l.length*t.size≤cp*t.size:=gj _ h2;have b:Step [g] κ (κ.setB g (Lf.splice cur'.toList (lo*t.size) vs) e):=zhJ hb;have c:(l.take lo++m++l.drop (lo+m.length)).length=l.length:=by
   rw [du,du,ef,dx];omega
  have h:Rep t (κ.setB g (Lf.splice cur'.toList (lo*t.size) vs) e) (xs.take (lo*t.size)++vs++xs.drop ((lo+m.length)*t.size)) (l.take lo++m++l.drop (lo+m.length)):=
   (((hr.take lo).step b).append (hm.step b)).append ((hr.drop _).step b)
  refine ⟨by rw [d,n];omega,b.mono (fun x B=>by rw [fg.1 B,ha];exact zi9 (a:=⟨g,0,none⟩) (by omega)),by rw [c];exact hg.most,.inr ⟨g,_,_,ha,h,(ziF hb).obj,by rw [c];exact h2,h3,by rw [fo,zfe,n],?_,h6,h7,h8⟩⟩;rw [c];have r:=hr.length;have f:(xs.take (lo*t.size)).length=lo*t.size:=by rw [ef,r];omega
  apply bq;intro j;rw [dm];by_cases p:j<l.length*t.size
  ·rw [if_pos p,List.toList_toArray,zfH _ _ _ _ (by rw [d,n];omega),d];have k:∀ j,j<l.length*t.size→cur'.toList[j]?=xs[j]?:=fun j p=>by rw [←h5,dm,if_pos p]
   by_cases s:j<lo*t.size
   ·rw [if_neg (by omega),k j p,bg,cj (by rw [f];exact s),dm,if_pos s]
   ·by_cases w:j<lo*t.size+m.length*t.size
    ·rw [if_pos (by omega),bg,cn (by rw [f];omega),f,cj (by rw [d];omega)]
    ·rw [if_neg (by omega),k j p,cn (by rw [du,f,d];omega),du,f,d,co];congr 1;omega
  ·rw [if_neg p,cu];rw [h.length,c];omega
end
section
variable {P:Program} {α:Type} {t:Ty α} {κ:K} {e T T2:TypeId} {a a2:Option Addr} {cp c2:Nat} {l l2:List α} {τ:Tag}
def cpy {α:Type} (l:List α) (lo:Nat) (l2:List α):List α:=l.take lo++l2.take (l.length - lo)++l.drop (lo+(l2.take (l.length - lo)).length)
theorem ztq {l l2:List α} {lo:Nat} (h:lo≤l.length):(cpy l lo l2).length=l.length:=by
 unfold cpy;rw [du,du,ef,dx,ef];omega
theorem znG {g lo dcap:Nat} {ty:TypeId} (hT:zC P T=some e) (hs:zG P e=some t.size) (hg:Gr t false τ κ e a cp l) (ha:0<l.length→a=some ⟨g,0,none⟩) (hlo:lo≤l.length)
  (src:Value) (ys:List Value) (hys:Rep t κ ys l2) {da:Option Addr} (hda:lo<l.length→da=some ⟨g,lo*t.size,none⟩) [Fb] (C:Cx) (d:Nat)
  (hlen:∀ w,(Builtin.lenOf src).run P w=.ok l2.length w)
  (hfirst:∀ n,n≤l2.length→(Builtin.firstCells t.size n src).run P (W C κ d)=.ok (ys.take (n*t.size)).toArray (W C κ d)) :
  ∃ κ',(Builtin.copy_ #[T,T2] ty #[.slice da (l.length - lo) dcap,src]).run P (W C κ d)=.ok (.int .i64 (min l2.length (l.length - lo):Nat)) (W C κ' d)∧Step (blk a cp) κ κ'∧Gr t false τ κ' e a cp (cpy l lo l2):=by
 have j:=zcc hT;have E:Nat.min l2.length (l.length - lo)≤l2.length:=Nat.min_le_left _ _;by_cases s:Nat.min l2.length (l.length - lo)=0
 ·refine ⟨κ,?_,Step.refl _ _,?_⟩
  ·have r:=hfirst 0 (by omega);cases hd:da with
   | none=>simp [Builtin.copy_,zy j,hlen,zS hs,s,r,goInt]
   | some x=>simp [Builtin.copy_,zy j,hlen,zS hs,s,r,storeCells,goInt]
  ·have:cpy l lo l2=l:=by
    unfold cpy;have B:l2.take (l.length - lo)=[]:=by
     rcases Nat.eq_zero_or_pos l2.length with h | h
     ·rw [bp h];simp
     ·have:l.length - lo=0:=by
       have:=s;simp only [Nat.min_def] at this;split at this<;>omega
      rw [this];simp
    rw [B];simp
   rw [this];exact hg
 ·have f:Nat.min l2.length (l.length - lo)=min l2.length (l.length - lo):=rfl;have b:0<l2.length∧lo<l.length:=by
   rw [f] at s;omega
  have q:=ha (by omega);have p:=hda b.2;rcases hg.body with ⟨_,A⟩ | ⟨g',cur,xs,hga,hr,hH,h2,h3,h4,h5,h6,h7,h8⟩
  ·rw [A] at b;simp at b
  ·have:g=g':=by rw [q] at hga;injection hga with hga;injection hga
   subst this;have c:Box τ κ g cur.toList e:=⟨by simpa using hH,by rw [h6];simp,h7,h8⟩;have hm:=hys.take (min l2.length (l.length - lo));have m:(l2.take (min l2.length (l.length - lo))).length=min l2.length (l.length - lo):=by rw [ef];omega
   obtain ⟨y,D,v⟩:=hg.splice q c (by omega) hm (lo:=lo) (by rw [m];omega) (by rw [m];omega);have u:l.take lo++l2.take (min l2.length (l.length - lo))++l.drop (lo+(l2.take (min l2.length (l.length - lo))).length)=cpy l lo l2:=by
    unfold cpy;have:l2.take (min l2.length (l.length - lo))=l2.take (l.length - lo):=by
     rcases Nat.le_total l2.length (l.length - lo) with h | h
     ·rw [Nat.min_eq_left h,ft (fy _),ft h]
     ·rw [Nat.min_eq_right h]
    rw [this]
   rw [u] at v;refine ⟨_,?_,D,v⟩;have r:=hfirst (min l2.length (l.length - lo)) (Nat.min_le_left _ _);have k:=zih (P:=P) (C:=C) (d:=d) (off:=lo*t.size) (ys.take (min l2.length (l.length - lo)*t.size)) 0 κ cur.toList c hm.one (by simpa using y);rw [Nat.add_zero] at k;rw [p];simp [Builtin.copy_,zy j,hlen,zS hs,f,r,k,goInt]
end
structure Rec (N i:Nat) (κ:K) (b:Nat) (ob:Obj):Prop where
 o:Own (N,i) κ b
 obj:κ.H[b]?=some ob
theorem Rec.step {M:List Nat} {N i b:Nat} {κ κ':K} {ob:Obj} (s:Step M κ κ') (hm:b∉M) (h:Rec N i κ b ob):Rec N i κ' b ob:=by
 have hs:=s.2.1 b h.o.lt hm;exact ⟨⟨gc h.o.lt s.1,hs.2.1.trans h.o.fr,hs.2.2.trans h.o.tag,h.o.ge⟩,hs.1.trans h.obj⟩
theorem Rec.step0 {N i b:Nat} {κ κ':K} {ob:Obj} (s:Step [] κ κ') (h:Rec N i κ b ob):Rec N i κ' b ob:=h.step s (by simp)
theorem Rec.ge {N i b:Nat} {κ:K} {ob:Obj} (h:Rec N i κ b ob):N≤b:=h.o.ge
theorem zo0 {N i b:Nat} {κ:K} {ob:Obj} (h:Rec N i κ b ob) (ob':Obj):Step [b] κ (κ.setO b ob')∧Rec N i (κ.setO b ob') b ob':=
 ⟨zlT h.o.fr,⟨⟨by simp [K.setO];exact h.o.lt,h.o.fr,h.o.tag,h.o.ge⟩,by simp [K.setO,h.o.lt]⟩⟩
theorem zum [Fb] (C:Cx) (κ:K) (d b:Nat) (o:Obj):(W C κ d).putObj b o=W C (κ.setO b o) d:=rfl
def tsF (F:Nat) (τ:Tag):Bool:=Nat.beq τ.2 999||Nat.beq (τ.2 / 1000) F
def nI (F:Nat) (τ:Tag):Bool:=!(Nat.beq τ.2 998)&&!(tsF F τ)
def tb (F:Nat) (κ:K):List Nat:=(List.range κ.H.size).filter fun b=>tsF F (κ.tag b)
theorem zrq {F:Nat} {κ:K} {b:Nat}:b∈tb F κ↔b<κ.H.size∧tsF F (κ.tag b)=true:=by
 unfold tb;rw [ey,fe]
theorem zyN {F:Nat} {τ:Tag} (h:nI F τ=true):tsF F τ=false:=by
 unfold nI at h;simp only [ao,au] at h;exact h.2
theorem zzY {F:Nat} {τ:Tag} (h:nI F τ=true):τ.2≠998:=by
 unfold nI at h;simp only [ao,au] at h;intro e;rw [e] at h;simp at h
theorem zzX {F:Nat} {τ:Tag} (h:nI F τ=true):τ.2≠999:=by
 have:=zyN h;unfold tsF at this;simp only [Bool.or_eq_false_iff] at this;intro e;rw [e] at this;simp at this
section
variable {F:Nat} {κr κ κ1 κ2:K} {M:List Nat} {τ:Tag}
theorem Step.trY (h:Step (tb F κr) κr κ1) (hb:∀ b∈M,tsF F (κ1.tag b)=true) (s:Step M κ1 κ2):Step (tb F κr) κr κ2:=
 h.trM (fun b hm=>by
  by_cases a:b<κr.H.size
  ·by_cases c:b∈tb F κr
   ·exact .inl c
   ·have:=h.2.1 b a c;have d:=hb b hm;rw [this.2.2] at d;exact .inl (zrq.2 ⟨a,d⟩)
  ·exact .inr (Nat.le_of_not_lt a)) s
theorem Step.trT (h:Step M κ κ1) (hM:∀ b∈tb F κ,b∈M) (s:Step (tb F κ1) κ1 κ2):Step M κ κ2:=
 h.trM (fun b hm=>by
  by_cases a:b<κ.H.size
  ·by_cases c:b∈M
   ·exact .inl c
   ·have e:=h.2.1 b a c;have d:=(zrq.1 hm).2;rw [e.2.2] at d;exact .inl (hM b (zrq.2 ⟨a,d⟩))
  ·exact .inr (Nat.le_of_not_lt a)) s
theorem Own.tb1 {b:Nat} (h:Own τ κ b) (ht:tsF F τ=true):∀ x∈[b],tsF F (κ.tag x)=true:=fun x a=>by
 rw [fg.1 a,h.tag];exact ht
theorem Own.ntb {b:Nat} (h:Own τ κ b) (ht:tsF F τ=false):b∉tb F κ:=fun a=>by
 have:=(zrq.1 a).2;rw [h.tag,ht] at this;cases this
theorem Box.ntb {b:Nat} {cs:List Value} {T:TypeId} (h:Box τ κ b cs T) (ht:tsF F τ=false):b∉tb F κ:=h.o.ntb ht
theorem Gr.tb1 {α:Type} {t:Ty α} {pub:Bool} {e:TypeId} {a:Option Addr} {c:Nat} {l:List α} (h:Gr t pub τ κ e a c l) (ht:tsF F τ=true):∀ x∈blk a c,tsF F (κ.tag x)=true:=fun x b=>by
 rw [(h.lt x b).2.1];exact ht
theorem Gr.ntb {α:Type} {t:Ty α} {pub:Bool} {e:TypeId} {a:Option Addr} {c:Nat} {l:List α} (h:Gr t pub τ κ e a c l) (ht:tsF F τ=false):∀ x∈blk a c,x∉tb F κ:=fun x b d=>by
 have:=(zrq.1 d).2;rw [(h.lt x b).2.1,ht] at this;cases this
def Stab {σ:Type} (F B:Nat) (J:σ→K→Prop):Prop:=
 ∀ {s:σ} {κ κ':K} {M:List Nat},J s κ→Step M κ κ'→(∀ b∈M,b<κ.H.size→nI F (κ.tag b)=true∧B≤b)→J s κ'
theorem Stab.j0 {σ:Type} {B:Nat} {J:σ→K→Prop} (h:Stab F B J) {s:σ} (hj:J s κ) (st:Step [] κ κ1):J s κ1:=h hj st (fun b a=>by cases a)
theorem Stab.jo {σ:Type} {B b:Nat} {J:σ→K→Prop} (h:Stab F B J) {s:σ} (hj:J s κ) (st:Step [b] κ κ1) (ho:Own τ κ b) (ht:nI F τ=true) (hB:B≤b):J s κ1:=
 h hj st (fun x a _=>by rw [fg.1 a,ho.tag];exact ⟨ht,hB⟩)
end
def Yl [Fb] (P:Program) (l:Nat) (args:Array Value) (κ:K) (R:K→Prop):Prop:=
 ∀ C d,∃ fn tmps assign body,(Instr.yield l args).run P (W C κ d)=.ok (.round l fn tmps assign body) (W C κ d)∧
  RoundIn Fence.wide 0 P l fn tmps assign body (W C κ d) (fun e w'=>e=.returned (.bool true)∧∃ κ' d',w'=W C κ' d'∧R κ')
section
variable [Fc] [Fb] {P:Program} {n:Nat} {c:Code} {i:Nat} {Q:zaH} {E:Env} {κ:K}
theorem zux {m:Nat} {l:Nat} {f:FuncId} {tmps:Array Value} {assign body:Code} {w:World} {R:Ending→World→Prop} (h:RoundIn Fence.wide m P l f tmps assign body w R):RoundIn FF m P l f tmps assign body w R:=h
theorem oyl {l:Nat} {args:Array Value} {R:K→Prop} (d:Nat) (hy:Yl P l args κ R) (hk:∀ κ',R κ'→owp P n c (i+1) Q (upd E d (.bool true)) κ')
  (hr:∀ w,(execOp (ev E) (zv c i)).run P w=(Instr.yield l args).run P w:=by intro _;kernel_rfl) (h:st c i n E (some d)=true:=by kernel_rfl):owp P n c i Q E κ:=by
 refine zle h fun C j a k=>?_;obtain ⟨v,u,s,p⟩:=zhe h;obtain ⟨fn,tmps,b,g,f,q⟩:=hy C j;unfold Oper.wpIn;rw [zoX (nx:=.round l fn tmps b g) (w':=W C κ j) (by rw [k.eval,hr];exact f) (fun _ e=>by cases e)];refine ⟨fun _ _=>trivial,fun t=>?_,(zux q).mono ?_⟩
 ·simp [FF,Fence.wide] at t
 ·rintro e w' ⟨rfl,κ',r,rfl,m⟩;simp only [s];exact hk κ' m C r _ (k.put (p d rfl) _)
end
def zwt (E:Env):List Nat→List Value→Env
 | p::ps,v::vs=>zwt (upd E p v) ps vs
 | _,_=>E
theorem zwf {inst:Fc} {n:Nat} (ps:List Nat):∀ (vs:List Value) (t:Array Value) (E:Env),(∀ p∈ps,p<n) → @Fits inst n {tmps:=t,defers:=inst.ds} E→
  @Fits inst n {tmps:=(ps.zip vs).foldl (fun t (p,v)=>t.setIfInBounds p v) t,defers:=inst.ds} (zwt E ps vs):=by
 induction ps with
 | nil=>intro vs t E _ h;exact h
 | cons p ps ih=>
  intro vs t E a h;cases vs with
  | nil=>exact h
  | cons v vs=>
   refine ih vs _ _ (fun q b=>a q (by simp [b])) ?_;exact h.put (a p (by simp)) v
def zzN:Code→Option (Operand×List Nat)
 | .rangeFunc g ps _ _=>some (g,ps.toList)
 | _=>none
def zuy [Fc] [Fb] (P:Program) (n:Nat) (body:Code) (N l:Nat) (o1 o2:Obj) (Q:zaH):zaH:=fun e E κ=>
 match e with
 | .normal=>Rec N 999 κ l o1∧∀ κ',Step [l] κ κ'→Rec N 999 κ' l o2→cwp P n body Q E κ'
 | _=>False
def zwV (N l:Nat) (o2:Obj) (F:Nat) (κr:K) (J:K→Prop):zaH:=fun e _ κ=>
 match e with
 | .normal=>Rec N 999 κ l o2∧Step (tb F κr) κr κ∧J κ
 | _=>False
theorem rfb [Fc] [Fb] {P:Program} {n:Nat} {body:Code} {N l:Nat} {o1 o2:Obj} {Q:zaH} {E:Env} {κ:K} (h:Rec N 999 κ l o1) (hk:∀ κ',Step [l] κ κ'→Rec N 999 κ' l o2→cwp P n body Q E κ') :
  zuy P n body N l o1 o2 Q .normal E κ:=⟨h,hk⟩
theorem rfe {N l:Nat} {o2:Obj} {F:Nat} {κr κ:K} {J:K→Prop} {E:Env} (h:Rec N 999 κ l o2) (hy:Step (tb F κr) κr κ) (hj:J κ):zwV N l o2 F κr J .normal E κ:=⟨h,hy,hj⟩
def zxB [Fb] (P:Program) (n:Nat) (c:Code) (fn:Func) (R:Value→K→Prop) (E:Env) (κ:K):Prop:=
 ∀ C d a,@Fits fc0 n a E→c.wpIn Fence.wide 0 P (bodyPostM Fence.wide 0 P fn (fun e w'=>∃ v κ' d',e=.returned v∧w'=W C κ' d'∧R v κ')) a (W C κ d)
theorem zAn {P:Program} {f:FuncId} {fn:Func} {args:Array Value} {κ:K} {R:Value→K→Prop} (n:Nat) (M:List Nat) (hf:P.funcs[f]?=some fn) (hn:fn.ntmps=n)
  (h:Step M κ κ→zxB P n (sub (zA fn) []) fn R (zrN args) κ) (hb:fn.body=some (zA fn):=by kernel_rfl) (ha:Nat.ble args.size n=true:=by kernel_rfl):Fn P f args κ R:=by
 intro C d;have b : @Fits fc0 n {tmps:=args++Array.replicate (fn.ntmps - args.size) undef,defers:=[]} (zrN args):=by
  have e:=fx ha;refine ⟨by simp [hn];omega,rfl,fun t=>?_⟩;unfold zrN;by_cases c:t<args.size
  ·simp [ab,c]
  ·by_cases a:t - args.size<fn.ntmps - args.size
   ·simp [ab,c,a]
   ·simp [ab,c,a]
 exact (callsIn_wide (n:=0)).1 (callsIn_of_wp_marks hf hb trivial (h (Step.refl _ _) C d _ b))
def zww [Fb] (P:Program) (n:Nat) (c:Code) (fn:Func) (R:Value→K→Prop):zaH:=fun e E κ=>
 match e with
 | .normal=>zxB P n c fn R E κ
 | _=>False
theorem csM {P:Program} {n:Nat} {c:Code} {p:List Nat} {fn:Func} {R:Value→K→Prop} {E:Env} {κ:K} (hx:cwp P n (sub c (0::p)) (zww P n (sub c (1::p)) fn R) E κ)
  (h:zl7 (sub c p)=true:=by kernel_rfl):zxB P n (sub c p) fn R E κ:=by
 have j:sub c (0::p)=zf6 0 (sub c p):=rfl;have k:sub c (1::p)=zf6 1 (sub c p):=rfl;rw [j,k] at hx;clear j k;generalize sub c p=s at *;cases s<;>simp [zl7] at h;rename_i x y;intro C d a m;have b:cwp P n x (zww P n y fn R) E κ:=hx;refine wpIn_seq (wpIn_mono (b C d a m) ?_);rintro e a' w' ⟨r,κ',q,f,rfl,g⟩;cases e with
 | normal=>exact g C q a' f
 | _=>exact g.elim
theorem tMn {P:Program} {n:Nat} {c:Code} {fn:Func} {R:Value→K→Prop} {E:Env} {κ:K} (h:zxB P n c fn R E κ):zww P n c fn R .normal E κ:=h
def zzC [Fb] (P:Program) (n:Nat) (b r:Code) (fn:Func) (R:Value→K→Prop) (E:Env) (κ:K):Prop:=
 ∀ C d a,@Fits fc0 n a E→b.wpIn Fence.wide 0 P (Exit.then (r.wpIn Fence.wide 0 P (bodyPostM Fence.wide 0 P fn (fun e w'=>∃ v κ' d',e=.returned v∧w'=W C κ' d'∧R v κ'))) (bodyPostM Fence.wide 0 P fn (fun e w'=>∃ v κ' d',e=.returned v∧w'=W C κ' d'∧R v κ'))) a (W C κ d)
def zwx [Fb] (P:Program) (n:Nat) (b r:Code) (fn:Func) (R:Value→K→Prop):zaH:=fun e E κ=>
 match e with
 | .normal=>zzC P n b r fn R E κ
 | _=>False
theorem tBn {P:Program} {n:Nat} {b r:Code} {fn:Func} {R:Value→K→Prop} {E:Env} {κ:K} (h:zzC P n b r fn R E κ):zwx P n b r fn R .normal E κ:=h
theorem csB {P:Program} {n:Nat} {c:Code} {p:List Nat} {fn:Func} {R:Value→K→Prop} {E:Env} {κ:K} (hx:cwp P n (sub c (0::0::p)) (zwx P n (sub c (1::0::p)) (sub c (1::p)) fn R) E κ)
  (h:zl7 (sub c p)=true:=by kernel_rfl) (h':zl7 (sub c (0::p))=true:=by kernel_rfl):zxB P n (sub c p) fn R E κ:=by
 have g:sub c (0::0::p)=zf6 0 (zf6 0 (sub c p)):=rfl;have q:sub c (1::0::p)=zf6 1 (zf6 0 (sub c p)):=rfl;have j:sub c (1::p)=zf6 1 (sub c p):=rfl;have m:sub c (0::p)=zf6 0 (sub c p):=rfl;rw [g,q,j] at hx;rw [m] at h';clear g q j m;generalize sub c p=s at *;cases s<;>simp [zl7] at h;rename_i x z;simp only [zf6,if_true] at h';cases x<;>simp [zl7] at h';rename_i x y;intro C d a r;have b:cwp P n x (zwx P n y z fn R) E κ:=hx;refine wpIn_seq (wpIn_seq (wpIn_mono (b C d a r) ?_));rintro e a' w' ⟨u,κ',t,f,rfl,k⟩;cases e with
 | normal=>exact k C t a' f
 | _=>exact k.elim
def zo7 (D:Nat):List Deferred:=[{target:=.collected D,args:=#[]}]
def zwW [Fb] (P:Program) (fn:Func) (R:Value→K→Prop) (N D:Nat):zaH:=fun e E κ=>
 match e with
 | .normal | .ret=>Rec N 998 κ D (.deferred (some []))∧∀ κ',Step [D] κ κ'→Rec N 998 κ' D (.deferred none)→zka P fn R e E κ'
 | _=>False
theorem rtM {P:Program} {fn:Func} {R:Value→K→Prop} {N D:Nat} {E:Env} {κ:K} (h:Rec N 998 κ D (.deferred (some []))) (hk:∀ κ',Step [D] κ κ'→Rec N 998 κ' D (.deferred none)→zka P fn R .ret E κ') :
  zwW P fn R N D .ret E κ:=⟨h,hk⟩
theorem zt3 {P:Program} {n:Nat} {fn:Func} {R:Value→K→Prop} {N D:Nat} [Fb] {C:Cx} {e:Exit} {E:Env} {κ:K} {d:Nat} {a:Act} {inst:Fc} (hd:inst.ds=zo7 D) (hf : @Fits inst n a E)
  (hq:zwW P fn R N D e E κ):bodyPostM Fence.wide 0 P fn (fun e w'=>∃ v κ' d',e=.returned v∧w'=W C κ' d'∧R v κ') e a (W C κ d):=by
 have key:∀ (h:Rec N 998 κ D (.deferred (some []))) (v:Value),(∀ C d,(zvM fn E).run P (W C (κ.setO D (.deferred none)) d)=.ok v (W C (κ.setO D (.deferred none)) d))→R v (κ.setO D (.deferred none))→
   LeavesInM Fence.wide 0 P fn a.tmps (fun e w'=>∃ v κ' d',e=.returned v∧w'=W C κ' d'∧R v κ') a.defers .returning (W C κ d):=by
  intro h v b c;have g:a.defers=zo7 D:=hf.defers.trans hd;rw [g];refine ⟨by simp,.inl ⟨D,W C (κ.setO D (.deferred none)) d,rfl,run_takeDeferred (ds:=[]) h.obj,?_⟩⟩;exact ⟨v,by rw [zs0 hf];exact b C d,v,_,d,rfl,rfl,c⟩
 cases e with
 | normal=>
  obtain ⟨h,f⟩:=hq;obtain ⟨hs,j⟩:=zo0 h (.deferred none);obtain ⟨v,b,c⟩:=f _ hs j;exact key h v b c
 | ret=>
  obtain ⟨h,f⟩:=hq;obtain ⟨hs,j⟩:=zo0 h (.deferred none);obtain ⟨v,b,c⟩:=f _ hs j;exact key h v b c
 | _=>exact hq.elim
theorem zyy {P:Program} {f:FuncId} {args:Array Value} {w:World} (hf:zdO P f=true):(callFunc f args).run P w=.ok (.enter f args) w:=zbJ rfl hf
theorem zyv {σ A:Type} {P:Program} {n:Nat} {c:Code} {p pr:List Nat} {fn:Func} {R:Value→K→Prop} {E:Env} {κ:K} {id:Nat} {g:Operand} {ps:List Nat} {gf:Nat} {lb:Array Value}
  (F B:Nat) (J:σ→K→Prop) (ok:K→A→Prop) (enc:K→A→List Value→Prop) (y:σ→A→Option σ) (s0:σ) (r:σ)
  (hB:B≤κ.H.size) (hJ:∀ {s:σ} {κ κ':K} {M:List Nat},J s κ→Step M κ κ'→(∀ b∈M,b<κ.H.size→Nat.beq ((κ.tag b).2 / 1000) F=false∧B≤b)→J s κ') (h0:J s0 κ)
  (hround:∀ {l N:Nat} {o1 o2:Obj} {κ':K} {s Q:σ} {a:A} {vs:List Value},κ.H.size≤N→Rec N 999 κ' l o1→J s κ'→ok κ' a→enc κ' a vs→y s a=some Q→
   vs.length=ps.length∧∀ inst:Fc,inst.ds=[] → @cwp inst _ P n (sub c (0::0::p)) (@zuy inst _ P n (sub c (1::0::p)) N l o1 o2 (zwV N l o2 F κ' (J Q))) (zwt E ps vs) κ')
  (hit:∀ {J':σ→K→Prop} {l:Nat} {κ1:K},Step [] κ κ1→Stab F B J'→
   (∀ {κ':K} {s Q:σ} {a:A} {vs:List Value},J' s κ'→ok κ' a→enc κ' a vs→y s a=some Q→Yl P l vs.toArray κ' (fun κ''=>Step (tb F κ') κ' κ''∧J' Q κ''))→
   J' s0 κ1→Fn P gf (#[.func (.yield l) #[] #[]]++lb) κ1 (fun _ κ2=>J' r κ2))
  (hafter:∀ {N D:Nat} {κ2:K},κ.H.size≤N→Rec N 998 κ2 D (.deferred (some []))→J r κ2→∀ inst:Fc,inst.ds=zo7 D → @cwp inst _ P n (sub c pr) (zwW P fn R N D) E κ2)
  (hg:ev E g=.func (.func gf) #[] lb:=by kernel_rfl) (hF:Nat.blt 0 F=true:=by kernel_rfl) (h2:zpt (sub c p)=some id:=by kernel_rfl)
  (h3:zzN (sub c (0::p))=some (g,ps):=by kernel_rfl) (hps:ps.all (fun q=>Nat.blt q n)=true:=by kernel_rfl) (hgf:zdO P gf=true:=by kernel_rfl):zzC P n (sub c p) (sub c pr) fn R E κ:=by
 have a0:∀ q∈ps,q<n:=fun q hq=>by
  have:=be.1 hps q hq;exact fx this
 have f0:0<F:=fx hF;have e3:sub c (0::p)=zf6 0 (sub c p):=rfl;have e4:sub c (0::0::p)=zf6 0 (zf6 0 (sub c p)):=rfl;have e5:sub c (1::0::p)=zf6 1 (zf6 0 (sub c p)):=rfl;simp only [e4,e5] at hround;rw [e3] at h3;clear e3 e4 e5;generalize sub c pr=rest at *;generalize sub c p=s at *;cases s<;>simp [zpt] at h2;rename_i id' x;subst h2;simp only [zf6] at h3 hround;cases x<;>simp [zzN] at h3;rename_i g' ps' assign body;obtain ⟨rfl,a6⟩:=h3;simp only [zf6,if_true] at hround;have O:∀ {l N:Nat} {o1 o2:Obj} {κ':K} {s Q:σ} {a:A} {vs:List Value},κ.H.size≤N→Rec N 999 κ' l o1→J s κ'→ok κ' a→enc κ' a vs→y s a=some Q→
   vs.length=ps.length∧∀ inst:Fc,inst.ds=[] → @cwp inst _ P n assign (@zuy inst _ P n body N l o1 o2 (zwV N l o2 F κ' (J Q))) (zwt E ps vs) κ':=hround
 have H:∀ {N D:Nat} {κ2:K},κ.H.size≤N→Rec N 998 κ2 D (.deferred (some []))→J r κ2→∀ inst:Fc,inst.ds=zo7 D → @cwp inst _ P n rest (zwW P fn R N D) E κ2:=hafter;clear hround hafter;intro C d a Z;refine wpIn_block ?_;refine wpIn_rangeFunc ?_;intro c7 e0;have c4:Fence.wide.round=none:=rfl;rw [c4];obtain ⟨sz,hsz⟩:∃ sz,κ.H.size=sz:=⟨_,rfl⟩;obtain ⟨f,j⟩:∃ f:LoopState→Option Code→Loop,f=fun st pe=>{state:=st,pending:=pe,fn:=c7,tmps:=a.tmps,params:=ps',assign,body,defers:=sz}:=⟨_,rfl⟩;obtain ⟨κ0,k⟩:∃ κ0,κ0=κ.push (.deferred (some [])) 0 (sz,998):=⟨_,rfl⟩;obtain ⟨κ1,m⟩:∃ κ1,κ1=κ0.push (.loop (f .ready none)) 0 (sz,999):=⟨_,rfl⟩;have d7:Step [] κ κ0:=by rw [k];exact zbp _ _ _ _
 have b2:Step [] κ0 κ1:=by rw [m];exact zbp _ _ _ _
 have s1:Step [] κ κ1:=d7.trans b2;have L:κ0.H.size=sz+1:=by rw [k,←hsz];simp [K.push]
 have b7:Rec sz 998 κ0 sz (.deferred (some [])):=by
  refine ⟨⟨by rw [L];omega,?_,?_,fy _⟩,?_⟩
  ·rw [k];simp [K.push,hsz]
  ·rw [k];simp [K.push,hsz]
  ·rw [k];simp [K.push,←hsz]
 have rD:Rec sz 998 κ1 sz (.deferred (some [])):=b7.step0 b2;have rL:Rec sz 999 κ1 (sz+1) (.loop (f .ready none)):=by
  refine ⟨⟨by rw [m];simp [K.push,L],?_,?_,by simp⟩,?_⟩
  ·rw [m];simp [K.push,L]
  ·rw [m];simp [K.push,L]
  ·rw [m];simp [K.push,←L]
 have c0:((W C κ d).alloc (.deferred (some []))).alloc (.loop (f .ready none))=W C κ1 d:=by rw [m,k];rfl
 have c3:Stab F B (fun s κ'=>J s κ'∧Rec sz 999 κ' (sz+1) (.loop (f .ready none))∧Rec sz 998 κ' sz (.deferred (some []))):=by
  intro s κa κb M h st hM;refine ⟨hJ h.1 st (fun b G U=>?_),h.2.1.step st (fun G=>?_),h.2.2.step st (fun G=>?_)⟩
  ·have:=zyN (hM b G U).1;unfold tsF at this;simp only [Bool.or_eq_false_iff] at this;exact ⟨this.2,(hM b G U).2⟩
  ·have:=zzX (hM _ G h.2.1.o.lt).1;rw [h.2.1.o.tag] at this;exact this rfl
  ·have:=zzY (hM _ G h.2.2.o.lt).1;rw [h.2.2.o.tag] at this;exact this rfl
 have S:Nat.beq (999 / 1000) F=false:=by
  cases G:Nat.beq (999 / 1000) F with
  | false=>rfl
  | true=>have:=fv G;simp at this;omega
 have jl:∀ {s:σ} {κa κb:K} {o:Obj},J s κa→Step [sz+1] κa κb→Rec sz 999 κa (sz+1) o→J s κb:=fun h st hr=>
  hJ h st (fun b G _=>by rw [fg.1 G,hr.o.tag];exact ⟨S,by omega⟩)
 have c5:a.eval g'=.func (.func gf) #[] lb:=by rw [Z.eval];exact hg
 refine ⟨sz+1,zo7 sz,W C κ1 d,{target:=.fn (.func gf) lb,args:=#[.func (.yield (sz+1)) #[] #[]]},W C κ1 d,gf,#[.func (.yield (sz+1)) #[] #[]]++lb,W C κ1 d,?_,?_,?_,?_,fun h=>(by simp [Fence.wide] at h),?_⟩
 ·rw [←c0,j,←hsz];exact run_enterLoop_outer _ _ _ _ _
 ·simp only [resolve,c5];simp [go_sem]
 ·intro f' f3;trivial
 ·simp [invoke,go_sem,zyy hgf]
 ·refine CallsIn.mono ((callsIn_wide (n:=0 - 1)).2 (hit (J':=fun s κ'=>J s κ'∧Rec sz 999 κ' (sz+1) (.loop (f .ready none))∧Rec sz 998 κ' sz (.deferred (some []))) (l:=sz+1) s1 c3 ?_ ⟨hJ h0 s1 (fun b G=>by cases G),rL,rD⟩ C d)) ?_
  ·
   rintro κ' s Q x vs ⟨hj,Y,hD⟩ hok henc hy C' d';obtain ⟨a8,c1⟩:=O (o2:=.loop {f .ready none with state:=.busy}) (by omega) Y hj hok henc hy;have U:sz+1<κ'.H.size:=Y.o.lt;have a7:=run_yield (P:=P) (w:=W C' κ' d') (args:=vs.toArray) Y.obj (by rw [j];simp only [fo];rw [a8,←a6];simp);rw [j] at a7;refine ⟨_,_,_,_,a7,roundIn_of_wpIn trivial ?_⟩;have a9 : @Fits ⟨some (sz+1),[]⟩ n {tmps:=(ps'.zip vs.toArray).foldl (fun t (p,v)=>t.setIfInBounds p v) a.tmps,defers:=[]} (zwt E ps vs):=by
    have h:=zwf (inst:=⟨some (sz+1),[]⟩) ps vs a.tmps E a0 (@Fits.mk ⟨some (sz+1),[]⟩ n {tmps:=a.tmps,defers:=[]} E Z.size rfl Z.tmps);have e:(ps'.zip vs.toArray)=(ps.zip vs).toArray:=by
     rw [←a6];obtain ⟨q⟩:=ps';exact List.zip_toArray _ _
    rw [e];simpa using h
   refine wpIn_mono (c1 ⟨some (sz+1),[]⟩ rfl C' d' _ a9) ?_;rintro e a1 w1 ⟨E1,κa,da,d4,rfl,hq⟩;cases e with
   | normal=>
    obtain ⟨b1,hk⟩:=hq;obtain ⟨c8,b9⟩:=zo0 b1 (.loop {f .ready none with state:=.busy});refine ⟨_,run_beginRound (r:=f .ready none) b1.obj (by rw [j]),?_⟩;rw [zum];refine wpIn_mono (hk _ c8 b9 C' da a1 d4) ?_;rintro e a2 w2 ⟨E2,κb,db,f5,rfl,b3⟩;cases e with
    | normal=>
     obtain ⟨u,T,d6⟩:=b3;obtain ⟨X,b8⟩:=zo0 u (.loop (f .ready none));have I:=run_endRound (P:=P) (w:=W C' κb db) (l:=sz+1) none u.obj;refine ⟨_,_,I,rfl,κb.setO (sz+1) (.loop (f .ready none)),db,?_,?_,?_,b8,?_⟩
     ·rw [zum];rw [j];rfl
     ·exact T.trY (u.o.tb1 rfl) X
     ·exact jl d6 X u
     ·refine hD.step (T.trY (u.o.tb1 rfl) X) (hD.o.ntb ?_);unfold tsF;have:Nat.beq (998 / 1000) F=false:=S;rw [this];rfl
    | _=>exact b3.elim
   | _=>exact hq.elim
  ·
   rintro e w2 ⟨v,κ2,d2,rfl,rfl,hj,Y,hD⟩;obtain ⟨V,c6⟩:∃ V:Obj,V=.loop {f .ready none with state:=.exhausted}:=⟨_,rfl⟩;obtain ⟨a5,u⟩:=zo0 Y V;have I:(Instr.endLoop (sz+1)).run P (W C κ2 d2)=.ok none (W C (κ2.setO (sz+1) V) d2):=by
    have:=run_endLoop (P:=P) (w:=W C κ2 d2) (l:=sz+1) Y.obj (by rw [j];simp);rw [this,c6,j];rfl
   refine ⟨none,_,I,?_⟩;show (Exit.inBlock id' _) Exit.normal _ _;simp only [Exit.inBlock,Exit.then];have c9:Rec sz 998 (κ2.setO (sz+1) V) sz (.deferred (some [])):=hD.step a5 (by simp);have d8:J r (κ2.setO (sz+1) V):=jl hj a5 Y;have b0:Code.wpIn Fence.wide 0 P rest (@zl3 ⟨none,zo7 sz⟩ _ n C (zwW P fn R sz sz)) {a with defers:=zo7 sz++a.defers} (W C (κ2.setO (sz+1) V) d2):=
    H (by omega) c9 d8 ⟨none,zo7 sz⟩ rfl C d2 {a with defers:=zo7 sz++a.defers} (@Fits.mk ⟨none,zo7 sz⟩ n _ E Z.size (by rw [Z.defers];rfl) Z.tmps)
   refine wpIn_mono b0 ?_;rintro e a3 w3 ⟨E3,κ3,d3,c2,rfl,d5⟩;exact zt3 (inst:=⟨none,zo7 sz⟩) rfl c2 d5
section
variable {F B:Nat} {κ κ1 κ2:K} {M M':List Nat} {τ:Tag}
theorem Step.trZ (h:Step M κ κ1) (st:Step M' κ1 κ2) (hM:∀ b∈M',b<κ1.H.size→Nat.beq ((κ1.tag b).2 / 1000) F=false∧κ.H.size≤b):Step M κ κ2:=
 h.trM (fun b c=>.inr (by
  by_cases a:b<κ1.H.size
  ·exact (hM b c a).2
  ·exact fz h.1 (Nat.le_of_not_lt a))) st
theorem Own.stepZ {b:Nat} (h:Own τ κ b) (hM:∀ b∈M,b<κ.H.size→Nat.beq ((κ.tag b).2 / 1000) F=false∧B≤b) (ht:Nat.beq (τ.2 / 1000) F=true):b∉M:=fun a=>by
 have:=(hM b a h.lt).1;rw [h.tag,ht] at this;cases this
theorem Box.stepZ {b:Nat} {cs:List Value} {T:TypeId} (h:Box τ κ b cs T) (st:Step M κ κ1) (hM:∀ b∈M,b<κ.H.size→Nat.beq ((κ.tag b).2 / 1000) F=false∧B≤b) (ht:Nat.beq (τ.2 / 1000) F=true):Box τ κ1 b cs T:=
 h.step st (h.o.stepZ hM ht)
theorem Gr.stepZ {α:Type} {t:Ty α} {pub:Bool} {e:TypeId} {a:Option Addr} {c:Nat} {l:List α} (h:Gr t pub τ κ e a c l) (st:Step M κ κ1) (hM:∀ b∈M,b<κ.H.size→Nat.beq ((κ.tag b).2 / 1000) F=false∧B≤b)
  (ht:Nat.beq (τ.2 / 1000) F=true):Gr t pub τ κ1 e a c l:=
 h.step st (fun g d f=>by
  have:=(hM g f (h.lt g d).1).1;rw [(h.lt g d).2.1,ht] at this;cases this)
theorem zzq {N i:Nat} (h:Nat.beq (i / 1000) F=false) (h8:Nat.beq i 998=false:=by kernel_rfl) (h9:Nat.beq i 999=false:=by kernel_rfl):nI F (N,i)=true:=by
 show (!(Nat.beq i 998)&&!(Nat.beq i 999||Nat.beq (i / 1000) F))=true;rw [h,h8,h9];rfl
theorem zup {N i:Nat} (h:Nat.beq (i / 1000) F=false) (h9:Nat.beq i 999=false:=by kernel_rfl):tsF F (N,i)=false:=by
 show (Nat.beq i 999||Nat.beq (i / 1000) F)=false;rw [h,h9];rfl
end
def tPo:Ty (Option Nat):=⟨1,fun _ cs x=>cs=[.pointer (x.map fun b=>⟨b,0,none⟩)],fun h=>by rw [h];rfl,fun _ h=>h,fun h v hv=>by rw [h] at hv;simp at hv;subst hv;rfl⟩
def nb (bs:List Nat) (x:Int):Nat:=(bs[x.toNat]?).getD 0
def ldr (bs:List Nat) (x:Int):Option Addr:=if x<0 then none else some ⟨nb bs x,0,none⟩
def fpl (n:Nat) (bs:List Nat):List (Option Nat):=bs.map some++List.replicate (n - bs.length) none
def ztm (a:Option Addr) (n:Nat) (bs:List Nat):List Nat:=blk a n++bs
structure Fst (τ:Tag) (κ:K) (eP eG:TypeId) (a:Option Addr) (n:Nat) (bs:List Nat) (L:List Int):Prop where
 vec:Gr tPo false τ κ eP a n (fpl n bs)
 le:bs.length≤n
 len:bs.length=L.length
 node:∀ (i b:Nat) (x:Int),bs[i]?=some b→L[i]?=some x→Box τ κ b [.pointer (ldr bs x),.int .i64 i] eG
 rng:∀ (i:Nat) (x:Int),L[i]?=some x→x.toNat<bs.length
 nd:bs.Nodup
 dis:∀ g∈blk a n,g∉bs
def fmk (bytes:Nat) (n:Int):Option (List Int):=if 0≤n∧n≤9223372036854775807∧n*bytes≤140737488355328 then some [] else none
def zrH (n:Nat) (L:List Int) (ix:Int):Option (List Int):=if ix=(L.length:Int)∧L.length<n then some (L++[-1]) else none
def gstep (L:List Int) (i:Int):Option (Int ⊕ Int):=(idx L i).bind fun p=>if p<0 then some (.inr i) else some (.inl p)
theorem zxq {bytes:Nat} {n:Int} {r:List Int} (h:fmk bytes n=some r):mkl bytes n (none:Option Nat)=some (List.replicate n.toNat none)∧r=[]:=by
 unfold fmk at h;split at h
 ·rename_i hc;exact ⟨by unfold mkl;rw [if_pos hc],(Option.some.inj h).symm⟩
 ·cases h
theorem zrG {n:Nat} {L r:List Int} {ix:Int} (h:zrH n L ix=some r):ix=(L.length:Int)∧L.length<n∧r=L++[-1]:=by
 unfold zrH at h;split at h
 ·rename_i hc;exact ⟨hc.1,hc.2,(Option.some.inj h).symm⟩
 ·cases h
theorem zoD {n:Nat} {bs:List Nat} (h:bs.length≤n):(fpl n bs).length=n:=by
 unfold fpl;simp;omega
section
variable {τ τ':Tag} {κ κ':K} {eP eG:TypeId} {a:Option Addr} {n:Nat} {bs:List Nat} {L:List Int} {M:List Nat}
theorem znT {x:Int} (h:x.toNat<bs.length):bs[x.toNat]?=some (nb bs x):=by
 unfold nb;rw [cq h];rfl
theorem Fst.mem (h:Fst τ κ eP eG a n bs L):∀ g∈ztm a n bs,g<κ.H.size∧κ.tag g=τ∧τ.1≤g:=by
 intro g b;rcases ep.1 b with b | b
 ·exact h.vec.lt g b
 ·obtain ⟨i,hi,e⟩:=List.getElem_of_mem b;have d:bs[i]?=some g:=by rw [cq hi,e]
  have c:i<L.length:=by rw [←h.len];exact hi
  have:=h.node i g _ d (cq c);exact ⟨this.lt,this.tag,this.ge⟩
theorem Fst.step (s:Step M κ κ') (hm:∀ g∈ztm a n bs,g∉M) (h:Fst τ κ eP eG a n bs L):Fst τ κ' eP eG a n bs L:=
 ⟨h.vec.step s (fun g d=>hm g (er _ d)),h.le,h.len,
  fun i b x c e=>(h.node i b x c e).step s (hm b (List.mem_append_right _ (fd c))),h.rng,h.nd,h.dis⟩
theorem Fst.step0 (s:Step [] κ κ') (h:Fst τ κ eP eG a n bs L):Fst τ κ' eP eG a n bs L:=h.step s (fun _ _=>by simp)
theorem Fst.own {κ0:K} (h:Fst τ κ eP eG a n bs L) (h0:κ0.H.size≤τ.1):∀ b∈ztm a n bs,κ0.H.size≤b:=fun b c=>fz h0 (h.mem b c).2.2
theorem Fst.nb {b:Nat} (h:Fst τ κ eP eG a n bs L) (h':Own τ' κ b) (hn:τ'≠τ):b∉ztm a n bs:=fun c=>hn (h'.tag.symm.trans (h.mem b c).2.1)
theorem Fst.bn {b:Nat} (h:Fst τ κ eP eG a n bs L) (h':Own τ' κ b) (hn:τ≠τ'):∀ g∈ztm a n bs,g∉[b]:=fun g c d=>by
 have e:=fg.1 d;subst e;exact hn ((h.mem g c).2.1.symm.trans h'.tag)
theorem Fst.gn {α:Type} {t:Ty α} {pub:Bool} {e:TypeId} {a':Option Addr} {c':Nat} {l:List α} (h:Fst τ κ eP eG a n bs L) (h':Gr t pub τ' κ e a' c' l) (hn:τ≠τ'):∀ g∈ztm a n bs,g∉blk a' c':=
 fun g b c=>hn ((h.mem g b).2.1.symm.trans (h'.lt g c).2.1)
theorem Fst.gnm {α:Type} {t:Ty α} {pub:Bool} {eo ei:TypeId} {a':Option Addr} {c':Nat} {hm hs:List Hd} {l:List (List α)} (h:Fst τ κ eP eG a n bs L) (h':Mat t pub τ' κ eo ei a' c' hm hs l) (hn:τ≠τ'):∀ g∈ztm a n bs,g∉mblk a' c' hs:=
 fun g b c=>hn ((h.mem g b).2.1.symm.trans (h'.lt g c).2.1)
theorem Fst.inb (h:Fst τ κ eP eG a n bs L) {ix x:Int} (hx:idx L ix=some x):0≤ix∧ix.toNat<bs.length:=by
 obtain ⟨b,c,d⟩:=ziD hx;exact ⟨b,by rw [h.len];omega⟩
theorem Fst.vcell (h:Fst τ κ eP eG a n bs L) {ix x:Int} (hx:idx L ix=some x) :
  ∃ b,a=some ⟨b,0,none⟩∧0≤ix∧ix<(n:Int)∧At κ b (0+ix.toNat*1) [.pointer (some ⟨Lf.nb bs ix,0,none⟩)]:=by
 have e:=h.inb hx;have g:idx (fpl n bs) ix=some (some (Lf.nb bs ix)):=by
  unfold idx;rw [if_pos e.1];unfold fpl;rw [cj (by simpa using e.2),cw,znT e.2];rfl
 obtain ⟨b,k,m,f,cs,c,j⟩:=h.vec.idx g;rw [zoD h.le] at f;refine ⟨b,k,m,f,?_⟩;have d:cs=[.pointer (some ⟨Lf.nb bs ix,0,none⟩)]:=j;rw [d] at c;exact c
theorem Fst.ncell (h:Fst τ κ eP eG a n bs L) {ix:Int} (hn:0≤ix∧ix.toNat<bs.length):∃ x,idx L ix=some x∧Box τ κ (Lf.nb bs ix) [.pointer (ldr bs x),.int .i64 ix] eG:=by
 have c:ix.toNat<L.length:=by rw [←h.len];exact hn.2
 have b:L[ix.toNat]?=some L[ix.toNat]:=cq c;refine ⟨L[ix.toNat],by unfold idx;rw [if_pos hn.1,b],?_⟩;have:=h.node ix.toNat _ _ (znT hn.2) b;rw [bc hn.1] at this;exact this
theorem Fst.num (h:Fst τ κ eP eG a n bs L) {ix:Int} (hn:0≤ix∧ix.toNat<bs.length):κ.cell (Lf.nb bs ix) 1=some (.int .i64 ix):=by
 obtain ⟨x,_,b⟩:=h.ncell hn;have:=b.at.one (o:=1) rfl;simpa using this
theorem Fst.lead (h:Fst τ κ eP eG a n bs L) {ix x:Int} (hx:idx L ix=some x):κ.cell (Lf.nb bs ix) 0=some (.pointer (ldr bs x)):=by
 obtain ⟨x',b,c⟩:=h.ncell (h.inb hx);rw [hx] at b;injection b with e;subst e
 have:=c.at.one (o:=0) rfl;simpa using this
theorem ztk {r:Int} (h:Fst τ κ eP eG a n bs L) {ix:Int} (hn:0≤ix∧ix.toNat<bs.length) (hr:iter (gstep L) ix=some r):0≤r∧r.toNat<bs.length:=by
 obtain ⟨m,hm⟩:=zdF.1 hr
 induction m generalizing ix with
 | zero=>cases hm
 | succ m ih=>
  unfold zj0 at hm;unfold gstep at hm;cases hx:idx L ix with
  | none=>rw [hx] at hm;cases hm
  | some p=>
   rw [hx] at hm;simp only [gp] at hm;by_cases b:p<0
   ·rw [if_pos b] at hm;injection hm with e;subst e;exact hn
   ·rw [if_neg b] at hm;exact ih ⟨Int.not_lt.1 b,h.rng ix.toNat p (ziD hx).2.2⟩ (zdF.2 ⟨m,hm⟩) hm
theorem Fst.made (h:Gr tPo false τ κ eP a n (List.replicate n none)):Fst τ κ eP eG a n [] []:=
 ⟨by unfold fpl;simpa using h,by simp,rfl,fun i b x d=>by simp at d,fun i x c=>by simp at c,by simp,fun g _=>by simp⟩
theorem Fst.newat {r:List Int} (h:Fst τ κ eP eG a n bs L) {ix:Int} (hx:zrH n L ix=some r):∃ b,a=some ⟨b,0,none⟩∧0≤ix∧ix<(n:Int):=by
 obtain ⟨e,f,_⟩:=zrG hx;have c:idx (fpl n bs) 0=some ((fpl n bs)[0]'(by rw [zoD h.le];omega)):=by
  unfold idx;rw [if_pos (by omega)];exact cq _
 obtain ⟨b,d,_⟩:=h.vec.idx c;exact ⟨b,d,by omega,by omega⟩
theorem zxp {b:Nat} (h:bs.length<n):(fpl n bs).set bs.length (some b)=fpl n (bs++[b]):=by
 unfold fpl;rw [List.set_append_right _ _ (by simp)];have e:n - bs.length=(n - (bs++[b]).length)+1:=by simp;omega
 rw [e,List.replicate_succ];simp
theorem zzp {b:Nat} {x:Int} (h:x.toNat<bs.length):Lf.nb (bs++[b]) x=Lf.nb bs x:=by
 unfold Lf.nb;rw [cj h]
theorem zyf {b:Nat} {x:Int} (h:x.toNat<bs.length):ldr (bs++[b]) x=ldr bs x:=by
 unfold ldr;rw [zzp h]
theorem zx1 {b:Nat} {cs:List Value} {T:TypeId} (h:Box τ' κ b cs T) (hle:τ.1≤τ'.1):Box τ (κ.retag [b] τ) b cs T∧Step [b] κ (κ.retag [b] τ):=
 ⟨⟨h.obj,h.fr,by simp [K.retag],fz hle h.ge⟩,⟨fy _,fun x a hm=>⟨rfl,rfl,by simp [K.retag] at hm ⊢;simp [hm]⟩,fun x a=>⟨fy _,fun o _=>rfl⟩,fun x a c=>⟨by
  have:x≠b:=fun e=>by rw [e,h.fr] at c;omega
  simp [K.retag,this],rfl⟩⟩⟩
theorem Fst.push {b:Nat} (h:Fst τ κ eP eG a n bs L) (hlt:bs.length<n) (s:Step (blk a n) κ κ') (hv:Gr tPo false τ κ' eP a n (fpl n (bs++[b]))) (hb:Box τ' κ b [.pointer none,.int .i64 (L.length:Int)] eG) (hne:τ'≠τ) (hle:τ.1≤τ'.1) :
  Fst τ (κ'.retag [b] τ) eP eG a n (bs++[b]) (L++[-1])∧Step [b] κ' (κ'.retag [b] τ):=by
 have m:b∉blk a n:=fun j=>hne (hb.tag.symm.trans (h.vec.lt b j).2.1);have p:b∉bs:=fun j=>hne (hb.tag.symm.trans (h.mem b (List.mem_append_right _ j)).2.1);have r:=hb.step s m;obtain ⟨q,t⟩:=zx1 (τ:=τ) r hle;refine ⟨⟨hv.step t (fun g j c=>m (by rw [fg.1 c] at j;exact j)),by simp;omega,by simp [h.len],?_,?_,?_,?_⟩,t⟩
 ·intro i w x d f;by_cases hi:i<bs.length
  ·rw [cj hi] at d;have v:i<L.length:=by rw [←h.len];exact hi
   rw [cj v] at f;have k:w∈bs:=fd d;have:=((h.node i w x d f).step s (fun j=>h.dis w j k)).step t (fun c=>p (by rw [fg.1 c] at k;exact k));rw [zyf (h.rng i x f)];exact this
  ·have u:i=bs.length:=by
    have:=(cv.1 d).1;simp at this;omega
   subst u;rw [cn (fy _)] at d;simp at d;subst d;rw [h.len,cn (fy _)] at f;simp at f;subst f;rw [h.len];exact q
 ·intro i x c;by_cases hi:i<L.length
  ·rw [cj hi] at c;have:=h.rng i x c;simp;omega
  ·rw [cn (by omega)] at c;have A:=(cv.1 c).1;simp at A;rw [A] at c;simp at c;subst c;simp
 ·rw [fi];exact ⟨h.nd,by simp,fun x c y B e=>p (by rw [fg.1 B] at e;exact e▸c)⟩
 ·intro g j c;rcases ep.1 c with c | c
  ·exact h.dis g j c
  ·rw [fg.1 c] at j;exact m j
theorem Fst.set {ix jx:Int} (h:Fst τ κ eP eG a n bs L) (hi:0≤ix∧ix.toNat<bs.length) (hj:0≤jx∧jx.toNat<bs.length) (s:Step [Lf.nb bs ix] κ κ') (hb:Box τ κ' (Lf.nb bs ix) [.pointer (some ⟨Lf.nb bs jx,0,none⟩),.int .i64 ix] eG) :
  Fst τ κ' eP eG a n bs (L.set ix.toNat jx):=by
 have k:Lf.nb bs ix∈bs:=fd (znT hi.2);refine ⟨h.vec.step s (fun g p f=>h.dis g p (by rw [fg.1 f];exact k)),h.le,by rw [ee];exact h.len,?_,?_,h.nd,h.dis⟩
 ·intro i b x c d;by_cases j:i=ix.toNat
  ·subst j;rw [znT hi.2] at c;injection c with e;subst e
   rw [dj (by rw [←h.len];exact hi.2)] at d;injection d with e;subst e
   have:ldr bs jx=some ⟨Lf.nb bs jx,0,none⟩:=by unfold ldr;rw [if_neg (by omega)]
   rw [this,bc hi.1];exact hb
  ·rw [dh (Ne.symm j)] at d;refine (h.node i b x c d).step s (fun f=>j ?_);have e:=fg.1 f;subst e;have m:=(cv.1 c).1;exact (List.getElem?_inj m h.nd).1 (c.trans (znT hi.2).symm)
 ·intro i x f;by_cases j:i=ix.toNat
  ·subst j;rw [dj (by rw [←h.len];exact hi.2)] at f;injection f with e;subst e;exact hj.2
  ·rw [dh (Ne.symm j)] at f;exact h.rng i x f
end
section
variable [Fc] [Fb] {P:Program} {N:Nat} {c:Code} {i:Nat} {Q:zaH} {E:Env} {κ:K} {τ τ':Tag} {eP eG:TypeId} {a:Option Addr} {n:Nat} {bs:List Nat} {L r:List Int}
theorem zAj {d bytes:Nat} {T:TypeId} {k1 k2:IntKind} {m:Int} (eG:TypeId) (hT:zjW P T=some (eP,1,1,bytes)) (hz:(zct P eP).map Value.cells=some [.pointer none].toArray) (hx:fmk bytes m=some r) (hτ:τ.1≤κ.H.size)
  (hk:∀ a' κ',Step [] κ κ'→Fst τ κ' eP eG a' m.toNat [] r→owp P N c (i+1) Q (upd E d (.slice a' m.toNat m.toNat)) κ')
  (h:st c i N E (some d)=true:=by kernel_rfl) (ho:execOp (ev E) (zv c i)=vOf (Instr.makeSlice T (.int k1 m) (.int k2 m)):=by kernel_rfl):owp P N c i Q E κ:=by
 obtain ⟨hm,rfl⟩:=zxq hx;refine zfV (pub:=false) (t:=tPo) (z:=none) h ho hT hz rfl hm hτ fun a' κ' s g=>?_;rw [ed] at g ⊢;exact hk a' κ' s (Fst.made g)
theorem zzj {ix:Int} {bv b:Nat} {T:TypeId} (h:Fst τ κ eP eG a n bs L) (q:zrH n L ix=some r) (ea:a=some ⟨bv,0,none⟩) (hb:Box τ' κ b [.pointer none,.int .i64 ix] eG) (hne:τ'≠τ) (hle:τ.1≤τ'.1)
  (hs:zG P T=some 1)
  (hk:∀ κ1 κ2,Step (ztm a n bs) κ κ1→Step [b] κ1 κ2→Fst τ κ2 eP eG a n (bs++[b]) r→owp P N c (i+1) Q E κ2)
  (hst:st c i N E none=true:=by kernel_rfl)
  (m:execOp (ev E) (zv c i)=uOf (Instr.storeAt T (.pointer (some ⟨bv,0+ix.toNat*1,none⟩)) (.pointer (some ⟨b,0,none⟩))):=by kernel_rfl):owp P N c i Q E κ:=by
 obtain ⟨e,k,rfl⟩:=zrG q;have d:bs.length<n:=by rw [h.len];exact k
 have j:ix.toNat=bs.length:=by rw [e,h.len];simp
 refine zdz (T:=T) (t:=tPo) (ix:=ix) (x':=some b) (b:=bv) (δ:=0) (vs:=[.pointer (some ⟨b,0,none⟩)]) (.pointer (some ⟨b,0,none⟩)) hst m ea h.vec (by omega) (by rw [zoD h.le];omega) rfl hs rfl rfl
  (fun cs q=>by obtain ⟨x,_,m⟩:=q;rw [zhp ((tPo.len m).trans (by rfl))];rfl) fun κ' s f=>?_
 rw [j,zxp d] at f;have p:Box τ' κ b [.pointer none,.int .i64 (L.length:Int)] eG:=by rw [←e];exact hb
 obtain ⟨F,u⟩:=h.push d s f p hne hle;refine ziW (κ':=κ'.retag [b] τ) rfl (hk κ' _ (s.mono (fun g f=>er _ f)) u F)
theorem zyL {ix jx:Int} {T:TypeId} (h:Fst τ κ eP eG a n bs L) (hi:0≤ix∧ix.toNat<bs.length) (hj:0≤jx∧jx.toNat<bs.length) (hs:zG P T=some 1)
  (hk:∀ κ',Step (ztm a n bs) κ κ'→Fst τ κ' eP eG a n bs (L.set ix.toNat jx)→owp P N c (i+1) Q E κ')
  (hst:st c i N E none=true:=by kernel_rfl)
  (ho:execOp (ev E) (zv c i)=uOf (Instr.storeAt T (.pointer (some ⟨nb bs ix,0,none⟩)) (.pointer (some ⟨nb bs jx,0,none⟩))):=by kernel_rfl):owp P N c i Q E κ:=by
 obtain ⟨x,_,f⟩:=h.ncell hi;refine zet (b:=nb bs ix) (off:=0) (T:=T) (.pointer (some ⟨nb bs jx,0,none⟩)) [.pointer (some ⟨nb bs jx,0,none⟩)] [.pointer (some ⟨nb bs jx,0,none⟩),.int .i64 ix] hst ho f rfl hs rfl rfl rfl fun κ' s _ d=>?_;refine hk κ' (s.mono (fun g e=>?_)) (h.set hi hj s d);rw [fg.1 e];exact List.mem_append_right _ (fd (znT hi.2))
end
section
variable {P:Program} {α:Type} {t:Ty α} {κ:K} {e T T2:TypeId} {a a2:Option Addr} {cp c2:Nat} {l l2 r:List α} {τ:Tag}
theorem zpo {b off n:Nat} {ys:List Value} {len cap:Nat} (h:zkn κ b off ys) (hn:n*t.size≤ys.length) [Fb] (C:Cx) (d:Nat) :
  (Builtin.firstCells t.size n (.slice (some ⟨b,off,none⟩) len cap)).run P (W C κ d)=.ok (ys.take (n*t.size)).toArray (W C κ d):=by
 refine run_firstCells_some _ t.size n ⟨b,off,none⟩ len cap (ys.take (n*t.size)) (by rw [ef];omega) (fun j v a=>?_);rw [zbn];rw [zkX];refine h j v ?_;rw [dm] at a;split at a
 ·exact a
 ·cases a
theorem zsI {src:Option Addr} {len cap:Nat} [Fb] (C:Cx) (d:Nat):(Builtin.firstCells t.size 0 (.slice src len cap)).run P (W C κ d)=.ok #[] (W C κ d):=by
 cases src<;>simp [Builtin.firstCells,loadCells,loadCellsFrom]
theorem zwS {ty:TypeId} (hT:zC P T=some e) (hs:zG P e=some t.size) (hg:Gr t false τ κ e a cp l) (h2:Sl t κ a2 c2 l2) [Fb] (C:Cx) (d:Nat) :
  ∃ κ',(Builtin.copy_ #[T,T2] ty #[.slice a l.length cp,.slice a2 l2.length c2]).run P (W C κ d)=.ok (.int .i64 (min l2.length l.length:Nat)) (W C κ' d)∧Step (blk a cp) κ κ'∧Gr t false τ κ' e a cp (cpy l 0 l2):=by
 obtain ⟨ys,f,k⟩:=Rep.of_sl h2;have key:∀ (g:Nat),(0<l.length→a=some ⟨g,0,none⟩)→∃ κ',(Builtin.copy_ #[T,T2] ty #[.slice a l.length cp,.slice a2 l2.length c2]).run P (W C κ d)=.ok (.int .i64 (min l2.length l.length:Nat)) (W C κ' d)∧Step (blk a cp) κ κ'∧Gr t false τ κ' e a cp (cpy l 0 l2):=by
  intro g j;have:=znG (P:=P) (T:=T) (T2:=T2) (ty:=ty) (dcap:=cp) (lo:=0) (da:=a) hT hs hg j (Nat.zero_le _) (.slice a2 l2.length c2) ys f (fun h=>by rw [j h];simp) C d (fun w=>rfl) (fun n q=>by
   by_cases r:l2.length=0
   ·have:n=0:=by omega
    subst this;rw [zsI];simp
   ·obtain ⟨b,off,p,c⟩:=k (by omega);rw [p];exact zpo c.2.2 (by rw [f.length];exact gj _ q) C d)
  simpa using this
 rcases hg.body with ⟨_,m⟩ | ⟨g,cur,xs,j,_⟩
 ·exact key 0 (fun h=>by rw [m] at h;simp at h)
 ·exact key g (fun _=>j)
theorem zxX {hi:Int} (hT:zC P T=some e) (hs:zG P e=some t.size) (hcap:l.length≤cp) (hx:zf7 l 0 hi=some r) (w:World) :
  (Instr.sliceAt T (.slice a l.length cp) none (zbE (some hi)) none).run P w=.ok (.slice a r.length cp) w:=by
 have:=zg2 (P:=P) (T:=T) (a:=a) (lo:=none) (hi:=some hi) hT hs hcap hx w;have c:((Option.getD none 0:Int).toNat)=0:=rfl;rw [c,Nat.zero_mul,Nat.sub_zero] at this;have b:(if cp=0 then a else a.map (·.add 0))=a:=by
  split
  ·rfl
  ·cases a<;>simp [Addr.add]
 rw [b] at this;exact this
theorem zwR {ty:TypeId} {lo hi:Int} {q p:List α} (hT:zC P T=some e) (hs:zG P e=some t.size) (hg:Gr t false τ κ e a cp l) (hq:zf7 l lo l.length=some q) (hp:zf7 l 0 hi=some p) [Fb] (C:Cx) (d:Nat) :
  ∃ κ',(Builtin.copy_ #[T,T2] ty #[.slice (if cp=lo.toNat then a else a.map (·.add (lo.toNat*t.size))) q.length (cp - lo.toNat),.slice a p.length cp]).run P (W C κ d)=.ok (.int .i64 (min p.length (l.length - lo.toNat):Nat)) (W C κ' d)∧
   Step (blk a cp) κ κ'∧Gr t false τ κ' e a cp (cpy l lo.toNat p):=by
 obtain ⟨D,A,x,rfl⟩:=ziH hq;obtain ⟨E,y,B,rfl⟩:=ziH hp;have r:(List.drop lo.toNat (List.take (l.length:Int).toNat l)).length=l.length - lo.toNat:=by simp
 rw [r];have m:List.drop (0:Int).toNat (List.take hi.toNat l)=l.take hi.toNat:=by simp
 rw [m];have s:=hg.cap;rcases hg.body with ⟨u,f⟩ | ⟨g,cur,xs,ha,hr,hH,h6,h7,h8,h9,_⟩
 ·have b:Rep t κ [] (l.take hi.toNat):=by rw [f];simp;rfl
  have:=znG (P:=P) (T:=T) (T2:=T2) (ty:=ty) (dcap:=cp - lo.toNat) (lo:=lo.toNat) (g:=0) (da:=if cp=lo.toNat then a else a.map (·.add (lo.toNat*t.size))) hT hs hg (fun h=>by rw [f] at h;simp at h) (by omega) (.slice a (l.take hi.toNat).length cp) [] b (fun h=>by rw [f] at h;simp at h) C d (fun w=>rfl) (fun n k=>by
   have:n=0:=by rw [f] at k;simpa using k
   subst this;rw [zsI];simp)
  exact this
 ·have b:=hr.take hi.toNat;have:=znG (P:=P) (T:=T) (T2:=T2) (ty:=ty) (dcap:=cp - lo.toNat) (lo:=lo.toNat) (g:=g) (da:=if cp=lo.toNat then a else a.map (·.add (lo.toNat*t.size))) hT hs hg (fun _=>ha) (by omega) (.slice a (l.take hi.toNat).length cp) _ b (fun h=>by
   rw [if_neg (by omega),ha];simp [zbn]) C d (fun w=>rfl) (fun n k=>by
   rw [ha];refine zpo (fun j v c=>?_) (by rw [b.length];exact gj _ k) C d;rw [dm] at c;split at c
   ·rw [←h9,dm] at c;split at c
    ·unfold K.cell;rw [hH];simpa using c
    ·cases c
   ·cases c)
  exact this
end
section
variable [Fc] [Fb] {P:Program} {n:Nat} {c:Code} {i k:Nat} {nq:List Nat} {q0:Nat} {M π:List Nat} {Q:zaH} {E:Env} {κ:K} {α:Type} {t:Ty α} {e T T2:TypeId} {a a2:Option Addr} {cp c2:Nat} {l l2 p q:List α} {τ:Tag}
theorem zAl {d:Nat} {ty:TypeId} (hg:Gr t false τ κ e a cp l) (h2:Sl t κ a2 c2 l2) (hk:∀ κ',Step (blk a cp) κ κ'→Gr t false τ κ' e a cp (cpy l 0 l2)→owp P n c (i+1) Q (upd E d (.int .i64 (min l2.length l.length:Nat))) κ')
  (h:st c i n E (some d)=true:=by kernel_rfl) (ho:execOp (ev E) (zv c i)=vOf (Builtin.copy_ #[T,T2] ty #[.slice a l.length cp,.slice a2 l2.length c2]):=by kernel_rfl)
  (hT:zC P T=some e:=by kernel_rfl) (hs:zG P e=some t.size:=by kernel_rfl):owp P n c i Q E κ:=by
 refine zkb (fun v κ'=>v=.int .i64 (min l2.length l.length:Nat)∧Step (blk a cp) κ κ'∧Gr t false τ κ' e a cp (cpy l 0 l2)) h (fun C g=>?_) ?_
 ·obtain ⟨κ',j,b,f⟩:=zwS (P:=P) (T:=T) (T2:=T2) (ty:=ty) hT hs hg h2 C g;exact ⟨_,κ',g,by rw [ho];exact zB j,rfl,b,f⟩
 ·rintro v κ' ⟨rfl,b,f⟩;exact hk κ' b f
theorem zz9 {d:Nat} {ty:TypeId} {lo hi:Int} (hg:Gr t false τ κ e a cp l) (hq:zf7 l lo l.length=some q) (hp:zf7 l 0 hi=some p) (hrel:zoZ q0 M i=Step (blk a cp))
  (hk:∀ κ',Step (blk a cp) κ κ'→Gr t false τ κ' e a cp (cpy l lo.toNat p)→xwp P n c k nq q0 M π Q (upd E d (.int .i64 (min p.length (l.length - lo.toNat):Nat))) κ')
  (h:xsN c nq i E d=true:=by kernel_rfl) (ho:execOp (ev E) (zv c i)=vOf (Builtin.copy_ #[T,T2] ty #[.slice (if cp=lo.toNat then a else a.map (·.add (lo.toNat*t.size))) q.length (cp - lo.toNat),.slice a p.length cp]):=by kernel_rfl)
  (hT:zC P T=some e:=by kernel_rfl) (hs:zG P e=some t.size:=by kernel_rfl):xwp P n c k nq q0 M (i::π) Q E κ:=by
 refine znD (fun v κ'=>v=.int .i64 (min p.length (l.length - lo.toNat):Nat)∧Step (blk a cp) κ κ'∧Gr t false τ κ' e a cp (cpy l lo.toNat p)) h (fun v κ' j=>by rw [hrel];exact j.2.1) (fun C g=>?_) ?_
 ·obtain ⟨κ',m,b,f⟩:=zwR (P:=P) (T:=T) (T2:=T2) (ty:=ty) hT hs hg hq hp C g;exact ⟨_,κ',g,by rw [ho];exact zB m,rfl,b,f⟩
 ·rintro v κ' ⟨rfl,b,f⟩;exact hk κ' b f
theorem zxP {F:Env} (h:E=F) (hk:xwp P n c k nq q0 M π Q F κ):xwp P n c k nq q0 M π Q E κ:=by rw [h];exact hk
theorem zzD {lo:Nat} (h:l.length≤maxLen):I64 ((min p.length (l.length - lo):Nat):Int):=by
 rw [zgw] at h;unfold I64;omega
theorem zyw (h:l.length≤maxLen):I64 ((min l2.length l.length:Nat):Int):=by
 rw [zgw] at h;unfold I64;omega
end
theorem zxj {α:Type} {l r:List α} {lo:Nat} {l2:List α} (h:some (cpy l lo l2)=some r) (hlo:lo≤l.length):r.length=l.length:=by
 injection h with h;rw [←h];exact ztq hlo
theorem zxC {α:Type} {t:Ty α} {pub:Bool} {τ:Tag} {κ:K} {e:TypeId} {a:Option Addr} {c:Nat} {l r:List α} (h:some l=some r) (hg:Gr t pub τ κ e a c l):Gr t pub τ κ e a c r:=by injection h with h;rw [←h];exact hg
theorem zxU {α:Type} {l r:List α} {lo:Int} (h:zf7 l lo l.length=some r):lo.toNat≤l.length:=by
 obtain ⟨b,a,_⟩:=ziH h;omega
inductive Er where
 | nil | line (l c:Int) | whole | other
structure Globg (tab:List Int) (ts rt gw ge gsy gra gta nv te:Nat) (κ:K):Prop where
 whole:∃ a,PubAt κ gw 0 [.iface ts (.pointer (some a))]
 syn:∃ t p,PubAt κ gsy 0 [.iface t p]
 rng:∃ t p,PubAt κ gra 0 [.iface t p]
 pow:PubAt κ gta 0 (tab.map (Value.int .u64))
 psz:0<tab.length∧∃ e k,κ.shp gta=some (e,tab.length,k)
 ety:PubAt κ ge 0 [.iface rt (.agg #[.pointer (some ⟨nv,te,none⟩)])]
section
variable [Fc] [Fb] {P:Program} {n:Nat} {c:Code} {i:Nat} {Q:zaH} {E:Env} {κ:K}
end
def rdy (c:Code) (l:List Bool):List Nat:=Region.ready .any (opsOf c) l.toArray
section
variable {α β:Type} {tb:Ty β} {t:Ty α}
def tX (tb:Ty β) (t:Ty α):Ty ((β×List α)×Hd):=
 ⟨tb.size+1,fun κ cs x=>∃ c1,cs=c1++[.slice x.2.1 x.2.2.1 x.2.2.2]∧tb.own κ c1 x.1.1∧x.2.2.1=x.1.2.length∧Sl t κ x.2.1 x.2.2.2 x.1.2,
  fun ⟨c1,h,h1,_⟩=>by rw [h,du,tb.len h1];rfl,
  fun s ⟨c1,h,h1,h2,h3⟩=>⟨c1,h,tb.step s h1,h2,h3.step s⟩,
  fun ⟨c1,h,h1,_⟩ v hv=>by
   rw [h,ep] at hv;rcases hv with hv | hv
   ·exact tb.one h1 v hv
   ·rw [fg.1 hv];rfl⟩
structure GrT (tb:Ty β) (t:Ty α) (S:Nat) (eS:TypeId) (τ:Tag) (κ:K) (e:TypeId) (a:Option Addr) (c:Nat) (L:List (β×List α)) (H:List (Hd×Nat)):Prop where
 len:H.length=L.length
 gr:Gr (tX tb t) true τ κ e a c (L.zip (H.map Prod.fst))
 pw:H.Pairwise (fun x y=>0<x.1.2.1→0<y.1.2.1→x.2≠y.2)
 home:∀ x∈H,0<x.1.2.1→∃ b,x.1.1=some ⟨b,0,none⟩∧b<κ.H.size∧κ.tag b=(x.2,S)∧x.2≤b∧0<κ.fr b∧κ.shp b=some (eS,x.1.2.2*t.size,(0,0))∧x.1.2.2≤maxLen
variable {S:Nat} {eS e:TypeId} {τ:Tag} {κ κ':K} {a:Option Addr} {c:Nat} {L:List (β×List α)} {H:List (Hd×Nat)} {M:List Nat}
def Hm (e:TypeId) (c s:Nat) (τ:Tag) (κ:K) (a:Option Addr) (n:Nat):Prop:=0<n→c≤maxLen∧∃ b,a=some ⟨b,0,none⟩∧b<κ.H.size∧κ.tag b=τ∧0<κ.fr b∧κ.shp b=some (e,c*s,(0,0))
theorem Hm.step {s n:Nat} (st:Step M κ κ') (h:Hm e c s τ κ a n):Hm e c s τ κ' a n:=fun p=>by
 obtain ⟨k,b,m,d,q,g,j⟩:=h p;have f:=st.2.2.2 b d g;exact ⟨k,b,m,gc d st.1,f.1.trans q,gc g (st.2.2.1 b d).1,f.2.trans j⟩
theorem Hm.nil {s:Nat}:Hm e c s τ κ a 0:=fun h=>absurd h (Nat.lt_irrefl 0)
theorem Gr.hm {l:List α} (h:Gr t true τ κ e a c l) (hs:0<t.size):Hm e c t.size τ κ a l.length:=fun d=>by
 rcases h.body with ⟨_,f⟩ | ⟨b,cur,xs,ha,hr,hH,h1,h2,h3,h4,h5,h6,h7⟩
 ·rw [f] at d;cases d
 ·refine ⟨h2,b,ha,(ae.1 hH).1,h6,?_,?_⟩
  ·rw [h5];simp;exact Nat.mul_pos d hs
  ·unfold K.shp;rw [hH];simp [h3]
end
section
variable [Fc] [Fb] {P:Program} {n:Nat} {c:Code} {i k:Nat} {nq:List Nat} {q0:Nat} {M π:List Nat} {Q:zaH} {E:Env} {κ:K} {α β:Type} {tb:Ty β} {t:Ty α} {S:Nat} {eS e T:TypeId} {τ τ2:Tag} {a a2:Option Addr} {cp c2:Nat} {L r:List (β×List α)} {H:List (Hd×Nat)} {x:β×List α} {hd:Hd} {N:Nat}
end
section
variable {P:Program} {E:Env} {c:Code} {i:Nat} {T:TypeId} {w:World}
end
section
variable {P:Program}
theorem zwQ {T:TypeId} (h:zk1 P T=true) (d:Nat) (k1 k2:IntKind) (a b a' b':Int) (w:World) :
  (Op.equalIn (d+2) T (.agg #[.int k1 a,.int k2 b]) (.agg #[.int k1 a',.int k2 b'])).run P w=.ok (decide (a=a')&&decide (b=b')) w:=by
 unfold zk1 at h;simp only [ao,au] at h;obtain ⟨⟨⟨p,r⟩,t⟩,e⟩:=h;have s:P.underlying T=some (.struct (P.fieldsOf T)):=by
  unfold Program.fieldsOf;split at p
  ·rename_i fs hfs;simp [hfs]
  ·cases p
 rw [show d+2=(d+1)+1 from rfl,run_equalIn_agg w (d+1) T _ _ s r];split at e
 ·rename_i f g hfg;rw [hfg];simp only [ao] at e;obtain ⟨c,j⟩:=e;have k:f.name ≠ "_" := by
   have:=c;unfold zg7 at this;simp only [ao] at this;simpa using this.1.1
  have m:g.name ≠ "_" := by
   have:=j;unfold zg7 at this;simp only [ao] at this;simpa using this.1.1
  simp only [Op.eqFields,if_pos k,if_pos m,ay];rw [zcy c (v:=.int k1 a) rfl];simp only [ax];rw [zcy c (v:=.int k1 a') rfl];simp only [ax];rw [zll c];simp only [ax];by_cases n:a=a'
  ·subst n;simp only [BEq.rfl,aw,aq,if_false,decide_true,Bool.true_and,ay];rw [zcy j (v:=.int k2 b) rfl];simp only [ax];rw [zcy j (v:=.int k2 b') rfl];simp only [ax];rw [zll j];simp only [ax];by_cases q:b=b'
   ·subst q;simp
   ·simp [q]
  ·simp [n]
 ·cases e
end
def zoa {α β:Type} [DecidableEq α] (m:List (α×β)) (k:α):List (α×β):=m.filter (fun p=>!decide (p.1=k))
theorem ztl {α β:Type} [DecidableEq α] {m:List (α×β)} {j:Nat} {x:α} {y:β} (hnd:m.Pairwise (fun p q=>p.1≠q.1)) (hj:m[j]?=some (x,y)):zoa m x=m.eraseIdx j:=by
 unfold zoa
 induction m generalizing j with
 | nil=>simp at hj
 | cons q m ih=>
  obtain ⟨b,d⟩:=fj.1 hnd;cases j with
  | zero=>
   simp at hj;subst hj;rw [List.filter_cons,if_neg (by simp),List.eraseIdx_cons_zero];exact bz.2 fun p c=>by simpa using (b p c).symm
  | succ j=>
   simp at hj;have a:q.1≠x:=b (x,y) (fd hj);rw [List.filter_cons,if_pos (by simpa using a),List.eraseIdx_cons_succ,ih d hj]
section
variable {α β:Type} {kt:KT α} {t:Ty β} {τ:Tag} {κ κ':K} {b:Nat} {m:List (α×β)} [DecidableEq α]
theorem zvY {x:α} (h:mhas m x=false):zoa m x=m:=by
 unfold zoa;refine bz.2 fun p a=>?_;unfold mhas at h;rw [List.any_eq_false] at h;simpa using h p a
theorem zwP {P:Program} {T kd e ty:TypeId} {x:α} (h:Mp kt t τ κ b m) (hT:zii P T=some (kd,e)) (hk:KeyOk P kd kt) [Fb] (C:Cx) (d:Nat) :
  ∃ κ',(Builtin.delete_ #[T,kd] ty #[.map (some b),kt.enc x]).run P (W C κ d)=.ok (.tuple #[]) (W C κ' d)∧Step [b] κ κ'∧κ.H.size=κ'.H.size∧Mp kt t τ κ' b (zoa m x):=by
 obtain ⟨g,cl,y,hsz,v,w,q⟩:=h.obj;have u:=zxK C κ d b y P;have I:∀ (a:Array MapEntry),a.size=(zoa m x).length→(∀ κ':K,Step [b] κ κ'→∀ (i:Nat) (p:α×β),(zoa m x)[i]?=some p→∃ e,a[i]?=some e∧e.key=kt.enc p.1∧t.own κ' [e.val] p.2)→
   ((a.toList.map (·.born)).Pairwise (· < ·)∧∀ e∈a.toList,e.born<cl)→
   Step [b] κ (κ.setO b (.map a cl))∧κ.H.size=(κ.setO b (.map a cl)).H.size∧Mp kt t τ (κ.setO b (.map a cl)) b (zoa m x):=by
  intro a L J N;have s:Step [b] κ (κ.setO b (.map a cl)):=zlT h.fr;exact ⟨s,by simp [K.setO],⟨a,cl,by simp [K.setO,h.lt],L,J _ s,N⟩,List.Pairwise.filter _ h.nd,h.fr,h.tag,h.ge⟩
 rcases zs7 h hk x y (W C κ d) with ⟨M,H,G⟩ | ⟨j,en,y',g0,M,H,G,g4,g5,g6⟩
 ·have n:=zvY H;refine ⟨κ.setO b (.map g cl),?_,I _ ?_ ?_ ⟨w,q⟩⟩
  ·unfold Builtin.delete_;simp [zy (zgx hT),u,hk.check,G,zpx C κ d b _ y P]
  ·rw [n];exact hsz
  ·intro κ' hs i p c;rw [n] at c;obtain ⟨e,k,f,F⟩:=v i p c;exact ⟨e,k,f,t.step hs F⟩
 ·have D:j<g.size:=(ae.1 G).1;have n:zoa m x=m.eraseIdx j:=ztl h.nd g0;have A:(g.eraseIdxIfInBounds j).toList=g.toList.eraseIdx j:=by
   unfold Array.eraseIdxIfInBounds;rw [dif_pos D,Array.toList_eraseIdx]
  refine ⟨κ.setO b (.map (g.eraseIdxIfInBounds j) cl),?_,I _ ?_ ?_ ⟨?_,?_⟩⟩
  ·unfold Builtin.delete_;simp [zy (zgx hT),u,hk.check,g6,zpx C κ d b _ y P]
  ·rw [n,←an,A,List.length_eraseIdx,List.length_eraseIdx,an,hsz]
  ·intro κ' hs i p c;rw [n] at c;rw [List.getElem?_eraseIdx] at c;have key:∀ B,m[B]?=some p→∃ e:MapEntry,g[B]?=some e∧e.key=kt.enc p.1∧t.own κ' [e.val] p.2:=fun B E=>by
    obtain ⟨e,k,f,F⟩:=v B p E;exact ⟨e,k,f,t.step hs F⟩
   rw [←ak,A,List.getElem?_eraseIdx];by_cases r:i<j
   ·rw [if_pos r] at c ⊢;rw [ak];exact key i c
   ·rw [if_neg r] at c ⊢;rw [ak];exact key (i+1) c
  ·rw [A];exact w.sublist ((List.eraseIdx_sublist _ _).map _)
  ·intro e k;rw [A] at k;exact q e (List.mem_of_mem_eraseIdx k)
end
structure It {α β:Type} (τ:Tag) (κ:K) (r b:Nat) (m:List (α×β)) (done:List α) (cur:Option (α×β)):Prop where
 obj:∃ (es:Array MapEntry) (clock since:Nat) (seen:Array Nat) (c0:Nat),κ.H[b]?=some (.map es clock)∧κ.H[r]?=some (.mapIter (some b) since seen c0)∧(∀ e∈es.toList,e.born<since)∧since≤c0∧since≤clock∧
  (∀ (i:Nat) (p:α×β) (e:MapEntry),m[i]?=some p→es[i]?=some e→(seen.contains e.born=true↔p.1∈done))∧
  (∀ p,cur=some p→∃ (i:Nat) (e:MapEntry) (seen':Array Nat),m[i]?=some p∧es[i]?=some e∧seen=seen'.push e.born∧c0=clock)
 fr:κ.fr r=0
 tag:κ.tag r=τ
 ge:τ.1≤r
section
variable {α β:Type} {kt:KT α} {t:Ty β} {τ τ':Tag} {κ κ':K} {b r:Nat} {m:List (α×β)} {done:List α} {cur:Option (α×β)}
variable {P:Program}
end
section
variable [Fc] [Fb] {P:Program} {n:Nat} {c:Code} {i k:Nat} {Q:zaH} {E:Env} {κ:K} {α β:Type} {kt:KT α} {t:Ty β} {τ τ':Tag} {b r:Nat} {m:List (α×β)} {done:List α} {cur:Option (α×β)}
theorem zw5 (R:K→Prop) (h:st c i n E none=true)
  (hr:∀ C b,∃ v κ' d1,(execOp (ev E) (zv c i)).run P (W C κ b)=.ok (.value v) (W C κ' d1)∧R κ')
  (hk:∀ κ',R κ'→owp P n c (i+1) Q E κ'):owp P n c i Q E κ:=by
 refine zle h (fun C b a d=>?_);obtain ⟨v,κ',d1,f,e⟩:=hr C b;obtain ⟨_,_,g,_⟩:=zhe h;refine zju (by rw [d.eval];exact f) ?_;rw [g];exact hk κ' e C d1 _ d
theorem zAk [DecidableEq α] (kt:KT α) {T kd e ty:Nat} {x:α} (hm:Mp kt t τ κ b m) (hk:∀ κ',Step [b] κ κ'→κ.H.size=κ'.H.size→Mp kt t τ κ' b (zoa m x)→owp P n c (i+1) Q E κ')
  (hkd:KeyOk P kd kt) (hT:zii P T=some (kd,e):=by kernel_rfl) (h:st c i n E none=true:=by kernel_rfl)
  (ho:execOp (ev E) (zv c i)=vOf (Builtin.delete_ #[T,kd] ty #[.map (some b),kt.enc x]):=by kernel_rfl):owp P n c i Q E κ:=by
 refine zw5 (fun κ'=>Step [b] κ κ'∧κ.H.size=κ'.H.size∧Mp kt t τ κ' b (zoa m x)) h (fun C g=>?_) ?_
 ·obtain ⟨κ',j,d,a,f⟩:=zwP hm hT hkd (x:=x) (ty:=ty) C g;exact ⟨_,κ',g,by rw [ho];exact zB j,d,a,f⟩
 ·rintro κ' ⟨d,a,f⟩;exact hk κ' d a f
theorem zAp [DecidableEq α] (kt:KT α) {d T kd e:Nat} {x:α} {m:List (α×Int)} (hm:Mp kt tI64 τ κ b m) (hk:dwp P n c k (i+1) Q (upd E d (.tuple #[.int .i64 ((mget m x).getD 0),.bool (mhas m x)])) κ)
  (hkd:KeyOk P kd kt) (hT:zii P T=some (kd,e):=by kernel_rfl) (h:dst c k i E d=true:=by kernel_rfl) (ho:execOp (ev E) (zv c i)=vOf (Instr.lookup T (.map (some b)) (kt.enc x) true):=by kernel_rfl)
  (hz:zct P e=some (.int .i64 0):=by kernel_rfl):dwp P n c k i Q E κ:=by
 refine zlq _ h (fun C f=>?_) hk;obtain ⟨v,a,_,g⟩:=zld (y0:=(0:Int)) hm hT hkd hz ⟨rfl,by unfold I64;omega⟩ (x:=x) C f;obtain ⟨rfl,_⟩:=zoM a;rw [ho];exact zB g
theorem zvm [DecidableEq α] {m:List (α×Int)} {x:α} (hm:Mp kt tI64 τ κ b m):I64 ((mget m x).getD 0):=by
 cases hg:mget m x with
 | none=>show I64 0;unfold I64;omega
 | some y=>
  show I64 y;unfold mget at hg;obtain ⟨p,a,rfl⟩:=gt.1 hg;obtain ⟨j,d⟩:=cy (fc a);obtain ⟨g,cl,_,_,f,_⟩:=hm.obj;obtain ⟨e,_,_,c⟩:=f j p d;exact (zoM c).2
end
section
variable [Fc] [Fb] {P:Program} {n:Nat} {c:Code} {i:Nat} {Q:zaH} {E:Env} {κ:K} {α β:Type} {kt:KT α} {t:Ty β} {τ τ':Tag} {b:Nat} {m:List (α×β)}
omit [Fc] [Fb] in
theorem Mp.retag {τ:Tag} (h:Mp kt t τ' κ b m) (hle:τ.1≤τ'.1):Mp kt t τ (κ.retag [b] τ) b m∧Step [b] κ (κ.retag [b] τ):=by
 have a:Step [b] κ (κ.retag [b] τ):=by
  refine ⟨fy _,fun x _ c=>⟨rfl,rfl,?_⟩,fun x _=>⟨fy _,fun _ _=>rfl⟩,fun x _ f=>⟨?_,rfl⟩⟩
  ·show (if x∈[b] then τ else κ.tag x)=κ.tag x;rw [if_neg c]
  ·show (if x∈[b] then τ else κ.tag x)=κ.tag x;refine if_neg fun c=>?_;have:=fg.1 c;subst this;rw [h.fr] at f;omega
 refine ⟨?_,a⟩;obtain ⟨s,cl,r,n,u,q⟩:=h.obj;refine ⟨⟨s,cl,r,n,fun i p d=>?_,q⟩,h.nd,h.fr,?_,fz hle h.ge⟩
 ·obtain ⟨e,k,g,j⟩:=u i p d;exact ⟨e,k,g,t.step a j⟩
 ·show (if b∈[b] then τ else κ.tag b)=τ;rw [if_pos (by simp)]
end
end Go.Lf
namespace Go.Lf
open Go Go.Proofs Go.Sort Go.Shelf
theorem Fn.same [Fb] {P:Program} {f:FuncId} {args:Array Value} {κ:K} {v:Value} {R:Value→K→Prop} (h:∀ w,Calls P f args w fun e w'=>e=.returned v∧w'=w) (hR:R v κ):Fn P f args κ R:=
 fun C d=>(h (W C κ d)).mono fun _ _ ⟨he,hw⟩=>⟨v,κ,d,he,hw,hR⟩
structure EncOk {α:Type} (t:Ty α) (s:Nat) (enc:α→List Value) (ok:α→Prop):Prop where
 size:t.size=s
 pos:0<s
 len:∀ x,(enc x).length=s
 one:∀ x,∀ v∈enc x,v.oneCell'=true
 own:∀ κ cs x,t.own κ cs x↔cs=enc x∧ok x
section
variable {P:Program} {ρ:Ren} {α:Type} [Inhabited α] {t:Ty α} {s:Nat} {enc:α→List Value} {ok:α→Prop}
theorem zsG (hs:0<s) (hk:∀ x,(enc x).length=s):∀ (l:List α) (i:Nat),i<l.length*s→(l.flatMap enc)[i]?=some ((enc (l[i / s]!))[i % s]!)
 | [],i,h=>by simp at h
 | x::l,i,h=>by
  rw [cg];by_cases hi:i<s
  ·rw [cj (by rw [hk];exact hi),Nat.div_eq_of_lt hi,Nat.mod_eq_of_lt hi];have b:i<(enc x).length:=by rw [hk];exact hi
   simp [b]
  ·have a:s≤i:=by omega
   have e:i / s=(i - s) / s+1:=Nat.div_eq_sub_div hs a;have c:i % s=(i - s) % s:=Nat.mod_eq_sub_mod a;rw [cn (by rw [hk];exact a),hk,zsG hs hk l (i - s) (by rw [dv,gk] at h;omega),e,c];simp
theorem zqb (hk:∀ x,(enc x).length=s) (l:List α):(l.flatMap enc).length=l.length*s:=by
 induction l with
 | nil=>simp
 | cons x l ih=>rw [cg,du,ih,hk,dv,gk];omega
theorem zsH (hs:0<s) (hk:∀ x,(enc x).length=s) (l:List α):flatK enc s l.toArray=(l.flatMap enc).toArray:=by
 apply Array.toList_inj.1;apply bq;intro i;show (flatK enc s l.toArray).toList[i]?=(l.flatMap enc)[i]?;by_cases hi:i<l.length*s
 ·rw [zsG hs hk l i hi];unfold flatK;rw [Array.toList_map,Array.toList_range,cw,df (by simpa using hi)];simp
 ·rw [cu (by rw [an,size_flatK];simpa using hi),cu (by rw [zqb hk];omega)]
theorem zss (h:EncOk t s enc ok) {κ:K}:∀ {l:List α} {xs:List Value},Rep t κ xs l→xs=l.flatMap enc∧∀ x∈l,ok x
 | [],xs,a=>⟨a,fun x m=>by cases m⟩
 | x::l,xs,a=>by
  obtain ⟨c,f,e,d,a⟩:=a;obtain ⟨rfl,j⟩:=(h.own κ c x).1 d;obtain ⟨g,k⟩:=zss h a;refine ⟨by rw [e,g];rfl,fun y b=>?_⟩;rcases eu.1 b with rfl | b
  ·exact j
  ·exact k y b
theorem zsF (h:EncOk t s enc ok) {κ:K}:∀ {l:List α},(∀ x∈l,ok x)→Rep t κ (l.flatMap enc) l
 | [],_=>rfl
 | x::l,hl=>⟨enc x,_,rfl,(h.own κ _ x).2 ⟨rfl,hl x (by simp)⟩,zsF h fun y a=>hl y (by simp [a])⟩
theorem ztF (L:SlLaysF0.n6 P ρ) (u:EncOk t s enc ok) (aE:∀ w,(isAgg (ρ.t 24)).run P w=.ok true w) (zE:∀ w,(Go.sizeOf (ρ.t 24)).run P w=.ok s w) {cf:α→α→Int} (hO:SWO (ltOf cf)) {gf:Nat}
  (eg:∀ args w,(callFunc gf args).run P w=.ok (.enter gf args) w)
  (hc:∀ (inst:Fb) (κ:K) (x y:α),@Fn inst P gf #[.agg (enc x).toArray,.agg (enc y).toArray] κ (fun v κ'=>Step [] κ κ'∧v=.int .i64 (cf x y)))
  {κ:K} {τ:Tag} {a:Option Addr} {c eT:Nat} {l:List α} (hg:Gr t false τ κ eT a c l) (hlen:l.length≤4611686018427387900) :
  Fn P (ρ.f 6) #[.slice a l.length c,.func (.func gf) #[] #[]] κ (fun v κ'=>Step (blk a c) κ κ'∧v=.tuple #[]∧Gr t false τ κ' eT a c (pdq (ltOf cf) l.toArray 0 l.length (Lib.bitLen l.length) true true).toList):=by
 have Y:=pdq_sorts (ltOf cf) hO l.toArray 0 l.length (Lib.bitLen l.length) true true (Nat.zero_le _) (by simp) (Or.inl rfl);obtain ⟨r,O⟩:∃ r:Array α,r=pdq (ltOf cf) l.toArray 0 l.length (Lib.bitLen l.length) true true:=⟨_,rfl⟩;rw [←O] at Y ⊢;have Q:r.size=l.length:=by have:=Y.1.1;simpa using this
 by_cases hl:0<l.length
 case neg=>
  have h0:l=[]:=bp (by omega);have a0:r.toList=[]:=bp (by rw [an];omega);rw [a0];rw [h0] at hg ⊢;refine (Fn.same (f:=ρ.f 6) (v:=.tuple #[]) (R:=fun v κ'=>κ=κ'∧v=.tuple #[]) (fun w=>AnyF.slices_SortFunc_none L a c _ w) ⟨rfl,rfl⟩).mono fun v κ' h=>?_;rw [show κ'=κ from h.1.symm];exact ⟨Step.refl _ _,h.2,hg⟩
 rcases hg.body with ⟨_,h⟩ | ⟨g,cur,xs,rfl,hr,hH,h1,h2,h3,h4,h5,h6,h7⟩
 ·rw [h] at hl;cases hl
 obtain ⟨hx,hI⟩:=zss u hr;have D:g<κ.H.size:=(ae.1 hH).1;have I:(l.flatMap enc).length=l.length*s:=zqb u.len l;have a9:c*s=cur.size:=by rw [h3,u.size]
 have c2:l.length*s≤c*s:=gj s h1;have a7:∀ x∈r.toList,ok x:=by
  have N:=Y.1.2.2;intro x hx;refine hI x ?_;have h8:(r.extract 0 l.length).toList=r.toList:=by rw [←Q];simp
  have h9:(l.toArray.extract 0 l.length).toList=l:=by simp
  rw [h8,h9] at N;exact N.mem_iff.1 hx
 intro C d;have J:HoldsK enc s (W C κ d) g 0 l.toArray:=by
  unfold HoldsK;rw [zsH u.pos u.len];intro j T;have a1:j<l.length*s:=by rw [fo,I] at T;exact T
  have a8:cur[j]?=(l.flatMap enc)[j]?:=by
   rw [←hx,←h4,u.size,dm,if_pos a1];simp
  refine ⟨?_,?_⟩
  ·rw [zkX];unfold K.cell;rw [hH];simp only [gl];rw [a8];have:j<(l.flatMap enc).length:=by omega
   simp;rw [cq this];rfl
  ·unfold World.frozen? W;simp [hH]
 have G:CmpLays P gf #[] enc s cf g 0 l.toArray.size (W C κ d):=by
  intro m os dk _ x y;generalize sortWorldK enc s (W C κ d) g 0 m dk os=V;have h:=hc ⟨fun _=>true,0,rfl⟩ ⟨V.heap,fun _=>0,fun _=>(0,0)⟩ x y;refine Calls.mono (h (@Cx.mk ⟨fun _=>true,0,rfl⟩ V.os V.tape V.output V.drawn rfl) 0) ?_;rintro e w' ⟨v,κ',d',u,Z,s,hv⟩;subst hv;refine ⟨u,d',κ'.H.extract V.heap.size κ'.H.size,?_⟩;rw [Z];unfold W grow World.drewN;simp only [];congr 1;apply Array.ext_getElem?;intro b;rw [ab];by_cases k:b<V.heap.size
  ·rw [if_pos k];exact (s.2.1 b k (by simp)).1
  ·rw [if_neg k,Array.getElem?_extract];split
   ·congr 1;omega
   ·rw [Array.getElem?_eq_none (by have:=s.1;simp only at this;omega)]
 refine (AnyQ.slices_SortFunc_eq L s aE zE enc u.len u.one cf hO gf #[] g 0 c l.toArray (W C κ d) eg G J D (by simp;omega)).mono ?_;rintro e w' ⟨X,n,os,Z⟩;have M:w'=sortWorldK enc s (W C κ d) g 0 n r os:=by rw [O];simpa using Z
 have hF:flatK enc s r=(r.toList.flatMap enc).toArray:=by
  have:=zsH u.pos u.len r.toList;simpa using this
 have B:r.toList.length=l.length:=by rw [an];exact Q
 have b9:(r.toList.flatMap enc).length=r.toList.length*s:=zqb u.len _;obtain ⟨p,q⟩:∃ p,p=putCells id 0 (flatK enc s r) cur:=⟨_,rfl⟩;have A:w'.heap=κ.H.modify g (onCells (putCells id 0 (flatK enc s r)))++os:=by rw [M];rfl
 have E:∀ b,b<κ.H.size→w'.heap[b]?=(κ.H.modify g (onCells (putCells id 0 (flatK enc s r))))[b]?:=fun b k=>by rw [A,Array.getElem?_append_left (by simpa using k)]
 have F:∀ b,b<κ.H.size→b≠g→w'.heap[b]?=κ.H[b]?:=fun b k hn=>by rw [E b k,af,if_neg (Ne.symm hn)]
 have U:w'.heap[g]?=some (.cells p eT (0,0)):=by rw [E g D,af,if_pos rfl,hH,q];rfl
 have H:κ.fr g=0:=by simpa using h5
 have a3:p.size=cur.size:=by rw [q];unfold putCells;simp
 refine ⟨_,⟨w'.heap,fun b=>if b<κ.H.size then κ.fr b else 0,fun b=>if b<κ.H.size then κ.tag b else (0,0)⟩,d+n,X,?_,?_,rfl,?_⟩
 ·rw [M];unfold W;show sortWorldK _ _ _ _ _ _ _ _={heap:=(sortWorldK _ _ _ _ _ _ _ _).heap,tape:=C.tape,drawn:=C.base+(d+n),os:=C.os,output:=C.output};rw [←Nat.add_assoc];rfl
 ·have a2:∀ b,b∉blk (some ⟨g,0,none⟩) c→b≠g:=fun b k e=>k (by rw [e];exact zi9 (a:=⟨g,0,none⟩) (by omega));refine ⟨by rw [A];simp,fun b k hn=>⟨F b k (a2 b hn),if_pos k,if_pos k⟩,fun b k=>⟨Nat.le_of_eq (if_pos k).symm,fun o ho=>?_⟩,fun b k hf=>⟨if_pos k,?_⟩⟩
  ·have:b≠g:=fun e=>by rw [e,H] at ho;cases ho
   unfold K.cell;rw [F b k this]
  ·have:b≠g:=fun e=>by rw [e,H] at hf;cases hf
   unfold K.shp;rw [F b k this]
 ·refine ⟨by rw [B];exact hg.most,.inr ⟨g,p,r.toList.flatMap enc,rfl,zsF u a7,U,by rw [B];exact h1,h2,by rw [a3];exact h3,?_,?_,(if_pos D).trans h6,h7⟩⟩
  ·apply bq;intro j;rw [u.size,dm];split
   ·rename_i T;have a6:j<cur.size:=by rw [B] at T;omega
    have S:j<(r.toList.flatMap enc).length:=by omega
    rw [q,hF];unfold putCells;rw [ak,Array.getElem?_mapIdx,ac a6];simp;rw [if_pos (by rw [←List.length_flatMap];exact S),cq S];rfl
   ·rw [cu (by omega)]
  ·show (if g<κ.H.size then κ.fr g else 0)=_;rw [if_pos D,H];simp
end
end Go.Lf
namespace Go.Lf
open Go
section
variable [Fb] {P:Program} {Rel:K→K→Prop} {c:Code} {i:Nat} {E:Env} {κ:K} {R:Value→K→Prop}
theorem znL {T:TypeId} (τ:Tag) (hτ:τ.1≤κ.H.size) (zs:List Value) (h:za0 c i E=true) (ho:execOp (ev E) (zv c i)=vOf (Instr.alloc T true (.tuple #[])))
  (hz:(zct P T).map Value.cells=some zs.toArray)
  (hk:∀ b κ',Step [] κ κ'→Box τ κ' b zs T→Rel κ κ'∧R (.pointer (some ⟨b,0,none⟩)) κ'):OpQ P Rel c i E κ R:=by
 obtain ⟨z,d,a⟩:=gt.1 hz;obtain ⟨g,f⟩:=hk κ.H.size _ (zbp _ _ _ _) (zps _ zs T _ hτ);refine zvj h fun C e=>⟨.pointer (some ⟨κ.H.size,0,none⟩),κ.push (.cells zs.toArray T) 0 τ,e,?_,g,f⟩;rw [ho];refine zB ?_;unfold Instr.alloc;simp only [ay,zfk d,ax];unfold newVar newRow;rw [a];rfl
end
end Go.Lf
namespace Go.Lf
open Go Go.Proofs Go.Sort
section
variable {α:Type} [Inhabited α] {lt:α→α→Bool}
def zzf (lt:α→α→Bool) (l:List α):List α:=(pdq lt l.toArray 0 l.length (Lib.bitLen l.length) true true).toList
theorem zvR (hO:SWO lt) (l:List α):(zzf lt l).Perm l∧(zzf lt l).Pairwise (fun a b=>lt b a=false):=by
 unfold zzf;have h:=pdq_sorts lt hO l.toArray 0 l.length (Lib.bitLen l.length) true true (Nat.zero_le _) (by simp) (Or.inl rfl);obtain ⟨r,p⟩:∃ r:Array α,r=pdq lt l.toArray 0 l.length (Lib.bitLen l.length) true true:=⟨_,rfl⟩;rw [←p] at h ⊢;obtain ⟨⟨e,_,g⟩,n⟩:=h;have e:r.size=l.length:=by simpa using e
 constructor
 ·have k:(r.extract 0 l.length).toList=r.toList:=by rw [←e];simp
  have q:(l.toArray.extract 0 l.length).toList=l:=by simp
  rw [k,q] at g;exact g
 ·rw [fk];intro i j hi m f;have d:i<r.size:=by simpa using hi
  have c:j<r.size:=by simpa using m
  have:=n i j (by omega) f (by omega);rw [getElem!_pos r i d,getElem!_pos r j c] at this;simpa using this
end
theorem zsz {α β:Type} [DecidableEq α] {m:List (α×β)} {x:α} {y:β}:∀ p∈zgv m x y,p.1=x∨∃ q∈m,q.1=p.1:=by
 intro p a;unfold zgv at a;split at a
 ·obtain ⟨q,b,rfl⟩:=fa.1 a;by_cases h:q.1=x
  ·rw [if_pos h];exact .inl rfl
  ·rw [if_neg h];exact .inr ⟨q,b,rfl⟩
 ·rcases ep.1 a with h | h
  ·exact .inr ⟨p,h,rfl⟩
  ·rw [fg.1 h];exact .inl rfl
end Go.Lf
namespace Go.Lf
open Go
section
variable {α β:Type} {kt:KT α} {t:Ty β} {τ:Tag} {κ:K} {b:Nat} {m:List (α×β)} [DecidableEq α]
variable [Fc] [Fb] {P:Program} {n:Nat} {c:Code} {i k:Nat} {Q:zaH} {E:Env}
end
end Go.Lf
namespace Go.Lf
open Go Go.Proofs
section
variable [Fc] [Fb] {P:Program} {n:Nat} {c:Code} {i:Nat} {Q:zaH} {E:Env} {κ:K}
abbrev vl {α:Type} (a:Option Addr) (l:List α) (c:Nat):Value:=.slice a l.length c
abbrev tt:Value:=.bool true
abbrev ff:Value:=.bool false
theorem iK (n:Int) (h : -9223372036854775808≤n∧n≤9223372036854775807:=by decide):I64 n:=h
abbrev ups (E:Env) (L:List (Nat×Value)):Env:=L.foldl (fun F p=>upd F p.1 p.2) E
theorem eY {E:Env} {L:List (Nat×Value)} (h:(L.map fun p=>E p.1)=L.map Prod.snd:=by kernel_rfl):E=ups E L:=by
 have key:∀ (L:List (Nat×Value)),(L.map fun p=>E p.1)=L.map Prod.snd→ups E L=E:=by
  intro L
  induction L with
  | nil=>intro _;rfl
  | cons p L ih=>
   intro h;rw [ek,ek] at h;have a:=(List.cons.inj h).1;have e:upd E p.1 p.2=E:=(za (t:=p.1) rfl a).symm;show ups (upd E p.1 p.2) L=E;rw [e];exact ih (List.cons.inj h).2
 exact (key L h).symm
def opk (P:Program) (n:Nat) (c:Code):Nat→Env→List (Nat×Value)→Prop
 | _,_,[]=>True
 | i,E,p::L=>st c i n E (some p.1)=true∧(∀ w,(execOp (ev E) (zv c i)).run P w=.ok (.value p.2) w)∧opk P n c (i+1) (upd E p.1 p.2) L
theorem okn:opk P n c i E []:=trivial
theorem okc {d:Nat} {v:Value} {L:List (Nat×Value)} (h:st c i n E (some d)=true) (hr:∀ w,(execOp (ev E) (zv c i)).run P w=.ok (.value v) w) (hl:opk P n c (i+1) (upd E d v) L):opk P n c i E ((d,v)::L):=⟨h,hr,hl⟩
theorem olz:∀ (L:List (Nat×Value)) (i:Nat) (E:Env),owp P n c (i+L.length) Q (ups E L) κ→opk P n c i E L→owp P n c i Q E κ
 | [],_,_,hk,_=>hk
 | p::L,i,E,hk,h=>by
  refine op p.1 p.2 (olz L (i+1) (upd E p.1 p.2) ?_ h.2.2) h.1 h.2.1;rw [show i+1+L.length=i+(p::L).length by rw [dv];omega];exact hk
theorem ol (L:List (Nat×Value)) (hk:owp P n c (i+L.length) Q (ups E L) κ) (h:opk P n c i E L:=by repeat (first | exact okn | refine okc (by kernel_rfl) (by intro _;kernel_rfl) ?_)):owp P n c i Q E κ:=olz L i E hk h
def os0:Os:=by constructor<;>first | exact #[] | exact 0 | exact none | exact false | exact [] | exact ByteArray.empty | exact default
def w0:World:=⟨#[],fun _ _=>0,0,os0,#[]⟩
def zqU (P:Program) (c:Code) (i:Nat) (E:Env):Value:=match (execOp (ev E) (zv c i)).run P w0 with
 | .ok (.value v) _=>v
 | _=>undef
def odk (P:Program) (n:Nat) (c:Code):Nat→Nat→Env→Prop
 | 0,_,_=>True
 | k+1,i,E=>(st c i n E (some (dstOf c i))=true∧∀ w,(execOp (ev E) (zv c i)).run P w=.ok (.value (zqU P c i E)) w)∧odk P n c k (i+1) (upd E (dstOf c i) (zqU P c i E))
def rnk (P:Program) (c:Code):Nat→Nat→Env→Env
 | 0,_,E=>E
 | k+1,i,E=>rnk P c k (i+1) (upd E (dstOf c i) (zqU P c i E))
theorem odn:odk P n c 0 i E:=trivial
theorem odc {k:Nat} (h:st c i n E (some (dstOf c i))=true) (hr:∀ w,(execOp (ev E) (zv c i)).run P w=.ok (.value (zqU P c i E)) w) (hl:odk P n c k (i+1) (upd E (dstOf c i) (zqU P c i E))):odk P n c (k+1) i E:=⟨⟨h,hr⟩,hl⟩
theorem odz:∀ (k i:Nat) (E:Env),owp P n c (i+k) Q (rnk P c k i E) κ→odk P n c k i E→owp P n c i Q E κ
 | 0,_,_,hk,_=>hk
 | k+1,i,E,hk,h=>by
  refine op (dstOf c i) (zqU P c i E) (odz k (i+1) _ ?_ h.2) h.1.1 h.1.2;rw [show i+1+k=i+(k+1) by omega];exact hk
theorem od (k:Nat) (hk:owp P n c (i+k) Q (rnk P c k i E) κ) (h:odk P n c k i E:=by repeat (first | exact odn | refine odc (by kernel_rfl) (by intro _;kernel_rfl) ?_)):owp P n c i Q E κ:=odz k i E hk h
def num:Nat→List Value→List (Nat×Value)
 | _,[]=>[]
 | d,v::L=>(d,v)::num (d+1) L
theorem zvk:∀ (L:List Value) (d:Nat),(num d L).length=L.length
 | [],_=>rfl
 | v::L,d=>by unfold num;rw [dv,dv,zvk L]
theorem ou (d:Nat) (L:List Value) (hk:owp P n c (i+L.length) Q (ups E (num d L)) κ) (h:opk P n c i E (num d L):=by repeat (first | exact okn | refine okc (by kernel_rfl) (by intro _;kernel_rfl) ?_)):owp P n c i Q E κ:=olz (num d L) i E (by rw [zvk];exact hk) h
def osk (n:Nat) (c:Code):Nat→Env→List Nat→Prop
 | _,_,[]=>True
 | i,E,d::L=>sk c i n E d=true∧osk n c (i+1) (upd E d undef) L
theorem skn:osk n c i E []:=trivial
theorem skc {d:Nat} {L:List Nat} (h:sk c i n E d=true) (hl:osk n c (i+1) (upd E d undef) L):osk n c i E (d::L):=⟨h,hl⟩
abbrev uns (E:Env) (L:List Nat):Env:=L.foldl (fun F d=>upd F d undef) E
theorem ozz:∀ (L:List Nat) (i:Nat) (E:Env),owp P n c (i+L.length) Q (uns E L) κ→osk n c i E L→owp P n c i Q E κ
 | [],_,_,hk,_=>hk
 | d::L,i,E,hk,h=>by
  refine os d (ozz L (i+1) (upd E d undef) ?_ h.2) h.1;rw [show i+1+L.length=i+(d::L).length by rw [dv];omega];exact hk
theorem oz (L:List Nat) (hk:owp P n c (i+L.length) Q (uns E L) κ) (h:osk n c i E L:=by repeat (first | exact skn | refine skc (by kernel_rfl) ?_)):owp P n c i Q E κ:=ozz L i E hk h
theorem dT (k:Nat) {c1:Code} (hq:cwp P n c1 Q (rnk P c k i E) κ) (h:odk P n c k i E:=by repeat (first | exact odn | refine odc (by kernel_rfl) (by intro _;kernel_rfl) ?_)) (h2:decide ((opsOf c).size≤i+k)=true:=by kernel_rfl):owp P n c i (zdi P n c1 Q) E κ:=od k (ot hq h2) h
theorem cO (k:Nat) {c:Code} {p:List Nat} (hk:owp P n (sub c (0::p)) (0+k) (zdi P n (sub c (1::p)) Q) (rnk P (sub c (0::p)) k 0 E) κ) (h:odk P n (sub c (0::p)) k 0 E:=by repeat (first | exact odn | refine odc (by kernel_rfl) (by intro _;kernel_rfl) ?_)) (h0:zl7 (sub c p)=true:=by kernel_rfl) (h2:zbK (sub c (0::p))=some false:=by kernel_rfl):cwp P n (sub c p) Q E κ:=csr (od k hk h) h0 h2
theorem cT (k:Nat) {c:Code} {p:List Nat} (hq:cwp P n (sub c (1::p)) Q (rnk P (sub c (0::p)) k 0 E) κ) (h:odk P n (sub c (0::p)) k 0 E:=by repeat (first | exact odn | refine odc (by kernel_rfl) (by intro _;kernel_rfl) ?_)) (h1:decide ((opsOf (sub c (0::p))).size≤0+k)=true:=by kernel_rfl) (h0:zl7 (sub c p)=true:=by kernel_rfl) (h2:zbK (sub c (0::p))=some false:=by kernel_rfl):cwp P n (sub c p) Q E κ:=csr (dT k hq h h1) h0 h2
def ddk (P:Program) (c:Code) (k:Nat):Nat→Nat→Env→Prop
 | 0,_,_=>True
 | m+1,i,E=>(dst c k i E (dstOf c i)=true∧∀ w,(execOp (ev E) (zv c i)).run P w=.ok (.value (zqU P c i E)) w)∧ddk P c k m (i+1) (upd E (dstOf c i) (zqU P c i E))
theorem ddn {k:Nat}:ddk P c k 0 i E:=trivial
theorem ddc {k m:Nat} (h:dst c k i E (dstOf c i)=true) (hr:∀ w,(execOp (ev E) (zv c i)).run P w=.ok (.value (zqU P c i E)) w) (hl:ddk P c k m (i+1) (upd E (dstOf c i) (zqU P c i E))):ddk P c k (m+1) i E:=⟨⟨h,hr⟩,hl⟩
theorem ddz {k:Nat}:∀ (m i:Nat) (E:Env),dwp P n c k (i+m) Q (rnk P c m i E) κ→ddk P c k m i E→dwp P n c k i Q E κ
 | 0,_,_,hk,_=>hk
 | m+1,i,E,hk,h=>by
  refine dp (dstOf c i) (zqU P c i E) (ddz m (i+1) _ ?_ h.2) h.1.1 h.1.2;rw [show i+1+m=i+(m+1) by omega];exact hk
theorem dd {k:Nat} (m:Nat) (hk:dwp P n c k (i+m) Q (rnk P c m i E) κ) (h:ddk P c k m i E:=by repeat (first | exact ddn | refine ddc (by kernel_rfl) (by intro _;kernel_rfl) ?_)):dwp P n c k i Q E κ:=ddz m i E hk h
theorem rT {fn:Func} {R:Value→K→Prop} (t:Nat) (v:Value) (hR:R (zk2 [v]) κ) (h:E t=v:=by kernel_rfl) (hr:fn.results=[ResultVar.tmp t].toArray:=by kernel_rfl):zka P fn R .ret E κ:=rt [.tmp t] [v] ⟨h,trivial⟩ hR hr
end
theorem bD {α β:Type} {o:Option α} {f:α→Option β} {r:β} (h:o.bind f=some r):∃ x,o=some x∧f x=some r:=bind_some h
theorem bE {α β:Type} {o:Option α} {f:α→Option β} {r:β} {G:Prop} (h:o.bind f=some r) (k:∀ x,o=some x→f x=some r→G):G:=let ⟨x,a,b⟩:=bind_some h;k x a b
class TyA {α:Type} (t:Ty α) where
 all:K→α→(List Value→Prop)→Prop
 ok:∀ {κ x F cs},all κ x F→t.own κ cs x→F cs
instance:TyA tI64:=⟨fun _ n F=>I64 n→F [.int .i64 n],fun h o=>by rw [o.1];exact h o.2⟩
instance:TyA tU8:=⟨fun _ n F=>0≤n∧n≤255→F [.int .u8 n],fun h o=>by rw [o.1];exact h o.2⟩
instance:TyA zAc:=⟨fun _ n F => -2147483648≤n∧n≤2147483647→F [.int .i32 n],fun h o=>by rw [o.1];exact h o.2⟩
instance:TyA zsj:=⟨fun _ b F=>F [.bool b],fun h o=>by rw [show _=_ from o];exact h⟩
instance:TyA tStr:=⟨fun _ s F=>s.length≤9223372036854775807→F [zw s],fun h o=>by rw [o.1];exact h o.2⟩
instance:TyA zAa:=⟨fun _ v F=>v.oneCell'=true→F [v],fun h o=>by rw [o.1];exact h o.2⟩
instance {α:Type} {t:Ty α}:TyA (tSl t):=⟨fun κ l F=>∀ a c,Sl t κ a c l→F [.slice a l.length c],fun h o=>by obtain ⟨a,c,e,s⟩:=o;rw [e];exact h a c s⟩
instance {α β:Type} {t:Ty α} {u:Ty β} [TyA t] [TyA u]:TyA (tPair t u):=⟨fun κ x F=>TyA.all t κ x.1 fun y=>TyA.all u κ x.2 fun z=>F (y++z),fun {κ x F cs} h o=>by
  obtain ⟨y,z,e,p,q⟩:=o;subst e;have h1:TyA.all u κ x.2 fun z=>F (y++z):=TyA.ok (t:=t) (F:=fun y=>TyA.all u κ x.2 fun z=>F (y++z)) h p;exact TyA.ok (F:=fun z=>F (y++z)) h1 q⟩
def iaT:Op→TypeId
 | .indexAddr T _ _=>T
 | .load T _=>T
 | .store T _ _=>T
 | .buildSlice T _ _=>T
 | _=>0
def bsV (E:Env):Op→Array (Nat×Value)
 | .buildSlice _ _ L=>L.map fun p=>(p.1,ev E p.2)
 | _=>#[]
def stV (E:Env):Op→Value
 | .store _ _ v=>ev E v
 | .box _ v=>ev E v
 | _=>undef
section
variable [Fc] [Fb] {P:Program} {n:Nat} {c:Code} {i k:Nat} {nq:List Nat} {q0:Nat} {M:List Nat} {π:List Nat} {Q:zaH} {E:Env} {κ κ0:K}
theorem oJ {α:Type} {t:Ty α} [TyA t] {a:Option Addr} {cp:Nat} {l:List α} {ix:Int} {x:α} (f:Sl t κ a cp l) (hx:idx l ix=some x)
  (hk:∀ b o,TyA.all t κ x fun cs=>PubAt κ b o cs→owp P n c (i+1) Q (upd E (dstOf c i) (.pointer (some ⟨b,o,none⟩))) κ)
  (h:st c i n E (some (dstOf c i))=true:=by kernel_rfl)
  (ho:execOp (ev E) (zv c i)=vOf (Instr.indexAt (iaT (zv c i).op) (.slice a l.length cp) (.int .i64 ix)):=by kernel_rfl)
  (hs:(zC P (iaT (zv c i).op)).bind (zG P)=some t.size:=by kernel_rfl):owp P n c i Q E κ:=by
 obtain ⟨b,off,m,p,k,cs,e,d⟩:=f.idx hx;obtain ⟨j,g,q⟩:=bind_some hs;exact oi _ _ j t.size _ _ .i64 ix m p k (TyA.ok (hk b (off+ix.toNat*t.size)) d e) h ho g q
theorem dI {α:Type} {t:Ty α} [TyA t] {a:Option Addr} {cp:Nat} {l:List α} {ix:Int} {x:α} (f:Sl t κ a cp l) (hx:idx l ix=some x)
  (hk:∀ b o,TyA.all t κ x fun cs=>PubAt κ b o cs→dwp P n c k (i+1) Q (upd E (dstOf c i) (.pointer (some ⟨b,o,none⟩))) κ)
  (h:dst c k i E (dstOf c i)=true:=by kernel_rfl)
  (ho:execOp (ev E) (zv c i)=vOf (Instr.indexAt (iaT (zv c i).op) (.slice a l.length cp) (.int .i64 ix)):=by kernel_rfl)
  (hs:(zC P (iaT (zv c i).op)).bind (zG P)=some t.size:=by kernel_rfl):dwp P n c k i Q E κ:=by
 obtain ⟨b,off,p,q,m,cs,e,d⟩:=f.idx hx;obtain ⟨j,g,r⟩:=bind_some hs;exact di _ _ j t.size _ _ .i64 ix p q m (TyA.ok (hk b (off+ix.toNat*t.size)) d e) h ho g r
theorem xI {α:Type} {t:Ty α} [TyA t] {a:Option Addr} {cp:Nat} {l:List α} {ix:Int} {x:α} (f:Sl t κ a cp l) (hx:idx l ix=some x)
  (hk:∀ b o,TyA.all t κ x fun cs=>PubAt κ b o cs→xwp P n c k nq q0 M π Q (upd E (dstOf c i) (.pointer (some ⟨b,o,none⟩))) κ)
  (h:xsQ c nq i E (dstOf c i)=true:=by kernel_rfl)
  (ho:execOp (ev E) (zv c i)=vOf (Instr.indexAt (iaT (zv c i).op) (.slice a l.length cp) (.int .i64 ix)):=by kernel_rfl)
  (hs:(zC P (iaT (zv c i).op)).bind (zG P)=some t.size:=by kernel_rfl):xwp P n c k nq q0 M (i::π) Q E κ:=by
 obtain ⟨b,off,p,q,m,cs,e,d⟩:=f.idx hx;obtain ⟨j,g,r⟩:=bind_some hs;exact xi _ _ j t.size _ _ .i64 ix p q m (TyA.ok (hk b (off+ix.toNat*t.size)) d e) h ho g r
theorem oG {α:Type} {t:Ty α} [TyA t] {pub:Bool} {τ:Tag} {e:Nat} {a:Option Addr} {cp:Nat} {l:List α} {ix:Int} {x:α} (f:Gr t pub τ κ e a cp l) (hx:idx l ix=some x)
  (hk:∀ b o,TyA.all t κ x fun cs=>At κ b o cs→owp P n c (i+1) Q (upd E (dstOf c i) (.pointer (some ⟨b,o,none⟩))) κ)
  (h:st c i n E (some (dstOf c i))=true:=by kernel_rfl)
  (ho:execOp (ev E) (zv c i)=vOf (Instr.indexAt (iaT (zv c i).op) (.slice a l.length cp) (.int .i64 ix)):=by kernel_rfl)
  (hs:(zC P (iaT (zv c i).op)).bind (zG P)=some t.size:=by kernel_rfl):owp P n c i Q E κ:=by
 obtain ⟨b,p,q,m,cs,g,d⟩:=f.idx hx;obtain ⟨k,j,r⟩:=bind_some hs;exact oi _ _ k t.size _ _ .i64 ix p q m (TyA.ok (hk b (0+ix.toNat*t.size)) d g) h ho j r
theorem dG {α:Type} {t:Ty α} [TyA t] {pub:Bool} {τ:Tag} {e:Nat} {a:Option Addr} {cp:Nat} {l:List α} {ix:Int} {x:α} (f:Gr t pub τ κ e a cp l) (hx:idx l ix=some x)
  (hk:∀ b o,TyA.all t κ x fun cs=>At κ b o cs→dwp P n c k (i+1) Q (upd E (dstOf c i) (.pointer (some ⟨b,o,none⟩))) κ)
  (h:dst c k i E (dstOf c i)=true:=by kernel_rfl)
  (ho:execOp (ev E) (zv c i)=vOf (Instr.indexAt (iaT (zv c i).op) (.slice a l.length cp) (.int .i64 ix)):=by kernel_rfl)
  (hs:(zC P (iaT (zv c i).op)).bind (zG P)=some t.size:=by kernel_rfl):dwp P n c k i Q E κ:=by
 obtain ⟨b,q,r,p,cs,g,d⟩:=f.idx hx;obtain ⟨m,j,s⟩:=bind_some hs;exact di _ _ m t.size _ _ .i64 ix q r p (TyA.ok (hk b (0+ix.toNat*t.size)) d g) h ho j s
theorem xG {α:Type} {t:Ty α} [TyA t] {pub:Bool} {τ:Tag} {e:Nat} {a:Option Addr} {cp:Nat} {l:List α} {ix:Int} {x:α} (f:Gr t pub τ κ e a cp l) (hx:idx l ix=some x)
  (hk:∀ b o,TyA.all t κ x fun cs=>At κ b o cs→xwp P n c k nq q0 M π Q (upd E (dstOf c i) (.pointer (some ⟨b,o,none⟩))) κ)
  (h:xsQ c nq i E (dstOf c i)=true:=by kernel_rfl)
  (ho:execOp (ev E) (zv c i)=vOf (Instr.indexAt (iaT (zv c i).op) (.slice a l.length cp) (.int .i64 ix)):=by kernel_rfl)
  (hs:(zC P (iaT (zv c i).op)).bind (zG P)=some t.size:=by kernel_rfl):xwp P n c k nq q0 M (i::π) Q E κ:=by
 obtain ⟨b,q,r,p,cs,g,d⟩:=f.idx hx;obtain ⟨m,j,s⟩:=bind_some hs;exact xi _ _ m t.size _ _ .i64 ix q r p (TyA.ok (hk b (0+ix.toNat*t.size)) d g) h ho j s
theorem oL {b o:Nat} {cs:List Value} (w:At κ b o cs) (j m:Nat) (hk:owp P n c (i+1) Q (upd E (dstOf c i) (.agg ((cs.drop j).take m).toArray)) κ) (h:st c i n E (some (dstOf c i))=true:=by kernel_rfl)
  (ho:execOp (ev E) (zv c i)=vOf (Instr.loadAt (iaT (zv c i).op) (.pointer (some ⟨b,o+j,none⟩))):=by kernel_rfl) (hT:zdY P (iaT (zv c i).op)=some true:=by kernel_rfl)
  (hs:zG P (iaT (zv c i).op)=some ((cs.drop j).take m).length:=by kernel_rfl):owp P n c i Q E κ:=oN _ _ _ (w.part j m).2 hk h ho hT hs
theorem dL {b o:Nat} {cs:List Value} (w:At κ b o cs) (j m:Nat) (hk:dwp P n c k (i+1) Q (upd E (dstOf c i) (.agg ((cs.drop j).take m).toArray)) κ) (h:dst c k i E (dstOf c i)=true:=by kernel_rfl)
  (ho:execOp (ev E) (zv c i)=vOf (Instr.loadAt (iaT (zv c i).op) (.pointer (some ⟨b,o+j,none⟩))):=by kernel_rfl) (hT:zdY P (iaT (zv c i).op)=some true:=by kernel_rfl)
  (hs:zG P (iaT (zv c i).op)=some ((cs.drop j).take m).length:=by kernel_rfl):dwp P n c k i Q E κ:=dN _ _ _ (w.part j m).2 hk h ho hT hs
theorem xL {b o:Nat} {cs:List Value} (w:At κ b o cs) (j m:Nat) (hk:xwp P n c k nq q0 M π Q (upd E (dstOf c i) (.agg ((cs.drop j).take m).toArray)) κ) (h:xsQ c nq i E (dstOf c i)=true:=by kernel_rfl)
  (ho:execOp (ev E) (zv c i)=vOf (Instr.loadAt (iaT (zv c i).op) (.pointer (some ⟨b,o+j,none⟩))):=by kernel_rfl) (hT:zdY P (iaT (zv c i).op)=some true:=by kernel_rfl)
  (hs:zG P (iaT (zv c i).op)=some ((cs.drop j).take m).length:=by kernel_rfl) (hm:zpQ c i=true:=by kernel_rfl) (hf:frB c q0 i=false:=by kernel_rfl):xwp P n c k nq q0 M (i::π) Q E κ:=xN _ _ _ w j m rfl hk h ho hT hs hm hf
theorem zzv {cs:List Value} {j:Nat} (hj:Nat.ble (j+1) cs.length=true):cs[j]?=some ((cs[j]?).getD undef):=by
 have:=fx hj;rw [cq (show j<cs.length by omega)];rfl
theorem oV {b o:Nat} {cs:List Value} (w:At κ b o cs) (j:Nat) (hk:owp P n c (i+1) Q (upd E (dstOf c i) ((cs[j]?).getD undef)) κ) (h:st c i n E (some (dstOf c i))=true:=by kernel_rfl)
  (ho:execOp (ev E) (zv c i)=vOf (Instr.loadAt (iaT (zv c i).op) (.pointer (some ⟨b,o+j,none⟩))):=by kernel_rfl) (hT:zdY P (iaT (zv c i).op)=some false:=by kernel_rfl)
  (hj:Nat.ble (j+1) cs.length=true:=by kernel_rfl):owp P n c i Q E κ:=o1 _ _ _ (w.one (zzv hj)) hk h ho hT
theorem dV {b o:Nat} {cs:List Value} (w:At κ b o cs) (j:Nat) (hk:dwp P n c k (i+1) Q (upd E (dstOf c i) ((cs[j]?).getD undef)) κ) (h:dst c k i E (dstOf c i)=true:=by kernel_rfl)
  (ho:execOp (ev E) (zv c i)=vOf (Instr.loadAt (iaT (zv c i).op) (.pointer (some ⟨b,o+j,none⟩))):=by kernel_rfl) (hT:zdY P (iaT (zv c i).op)=some false:=by kernel_rfl)
  (hj:Nat.ble (j+1) cs.length=true:=by kernel_rfl):dwp P n c k i Q E κ:=d1 _ _ _ (w.one (zzv hj)) hk h ho hT
theorem xV {b o:Nat} {cs:List Value} (w:At κ b o cs) (j:Nat) (hk:xwp P n c k nq q0 M π Q (upd E (dstOf c i) ((cs[j]?).getD undef)) κ) (h:xsQ c nq i E (dstOf c i)=true:=by kernel_rfl)
  (ho:execOp (ev E) (zv c i)=vOf (Instr.loadAt (iaT (zv c i).op) (.pointer (some ⟨b,o+j,none⟩))):=by kernel_rfl) (hT:zdY P (iaT (zv c i).op)=some false:=by kernel_rfl)
  (hj:Nat.ble (j+1) cs.length=true:=by kernel_rfl) (hm:zpQ c i=true:=by kernel_rfl) (hf:frB c q0 i=false:=by kernel_rfl):xwp P n c k nq q0 M (i::π) Q E κ:=x1 _ _ _ w j (zzv hj) hk h ho hT hm hf
variable {N:List Nat}
theorem oA (T t:Nat) (zs:List Value) (hs:Step N κ0 κ) (hk:∀ b κ',Step N κ0 κ'→Step [] κ κ'→Box (κ0.H.size,t) κ' b zs T→owp P n c (i+1) Q (upd E (dstOf c i) (.pointer (some ⟨b,0,none⟩))) κ')
  (h:st c i n E (some (dstOf c i))=true:=by kernel_rfl) (ho:execOp (ev E) (zv c i)=vOf (Instr.alloc T true (.tuple #[])):=by kernel_rfl)
  (hz:(zct P T).map Value.cells=some zs.toArray:=by kernel_rfl):owp P n c i Q E κ:=znJ (κ0.H.size,t) hs.1 zs h ho hz fun b κ' s B=>hk b κ' (hs.tr0 s) s B
theorem oB (T t:Nat) (cs:List Value) (hs:Step N κ0 κ) (hk:∀ b κ',Step N κ0 κ'→Step [] κ κ'→Box (κ0.H.size,t) κ' b cs T→owp P n c (i+1) Q (upd E (dstOf c i) (.pointer (some ⟨b,0,none⟩))) κ')
  (h:st c i n E (some (dstOf c i))=true:=by kernel_rfl) (ho:execOp (ev E) (zv c i)=vOf (Instr.box T (stV E (zv c i).op)):=by kernel_rfl)
  (hv:(stV E (zv c i).op).cells=cs.toArray:=by kernel_rfl):owp P n c i Q E κ:=zx5 (κ0.H.size,t) hs.1 _ cs h ho hv fun b κ' s B=>hk b κ' (hs.tr0 s) s B
theorem oS {t b:Nat} {U:TypeId} {cs:List Value} (off:Nat) (cs':List Value) (hb:Box (κ0.H.size,t) κ b cs U) (hs:Step N κ0 κ) (hk:∀ κ',Step N κ0 κ'→Step [b] κ κ'→Box (κ0.H.size,t) κ' b cs' U→owp P n c (i+1) Q E κ')
  (h:st c i n E none=true:=by kernel_rfl) (ho:execOp (ev E) (zv c i)=uOf (Instr.storeAt (iaT (zv c i).op) (.pointer (some ⟨b,off,none⟩)) (stV E (zv c i).op)):=by kernel_rfl)
  (hz:zG P (iaT (zv c i).op)=some (stV E (zv c i).op).cells.toList.length:=by kernel_rfl) (hone:zoH (stV E (zv c i).op).cells.toList=true:=by kernel_rfl)
  (hlen:Nat.ble (off+(stV E (zv c i).op).cells.toList.length) cs.length=true:=by kernel_rfl) (hcs:splice cs off (stV E (zv c i).op).cells.toList=cs':=by kernel_rfl):owp P n c i Q E κ:=
 zet _ _ cs' h ho hb (by simp) hz hone hlen hcs fun κ' s _ B=>hk κ' (hs.trB hb.ge s) s B
theorem oC {f:FuncId} {args:Array Value} {R:Value→K→Prop} (hs:Step N κ0 κ) (hf:Fn P f args κ (fun v κ'=>Step [] κ κ'∧R v κ')) (hk:∀ κ',Step [] κ κ'→Step N κ0 κ'→∀ v,R v κ'→owp P n c (i+1) Q (upd E (dstOf c i) v) κ')
  (h:st c i n E (some (dstOf c i))=true:=by kernel_rfl) (hr:∀ w,(execOp (ev E) (zv c i)).run P w=.ok (.enter f args) w:=by intro _;kernel_rfl):owp P n c i Q E κ:=
 ocl _ hf (fun v κ' H=>hk κ' H.1 (hs.tr0 H.1) v H.2) h hr
theorem oW {α:Type} {t:Ty α} {τ:Tag} {e:Nat} {a:Option Addr} {cp:Nat} {l l':List α} {ix:Int} {x x':α} {vs:List Value} (f:Gr t false τ κ e a cp l) (hx:idx l ix=some x) (hl:some (l.set ix.toNat x')=some l') (own:t.own κ vs x')
  (hk:∀ b κ',Step (blk a cp) κ κ'→Gr t false τ κ' e a cp l'→l'.length=l.length→owp P n c (i+2) Q (upd E (dstOf c i) (.pointer (some ⟨b,0+ix.toNat*t.size,none⟩))) κ')
  (h:st c i n E (some (dstOf c i))=true:=by kernel_rfl)
  (j:execOp (ev E) (zv c i)=vOf (Instr.indexAt (iaT (zv c i).op) (.slice a l.length cp) (.int .i64 ix)):=by kernel_rfl)
  (hs:(zC P (iaT (zv c i).op)).bind (zG P)=some t.size:=by kernel_rfl)
  (h2:∀ b,st c (i+1) n (upd E (dstOf c i) (.pointer (some ⟨b,0+ix.toNat*t.size,none⟩))) none=true:=by intro _;kernel_rfl)
  (ho2:∀ b,execOp (ev (upd E (dstOf c i) (.pointer (some ⟨b,0+ix.toNat*t.size,none⟩)))) (zv c (i+1))=uOf (Instr.storeAt (iaT (zv c (i+1)).op) (.pointer (some ⟨b,0+ix.toNat*t.size+0,none⟩)) (stV E (zv c (i+1)).op)):=by intro _;kernel_rfl)
  (hv:(stV E (zv c (i+1)).op).cells=vs.toArray:=by kernel_rfl) (hz:zG P (iaT (zv c (i+1)).op)=some t.size:=by kernel_rfl) (hone:zoH vs=true:=by kernel_rfl):owp P n c i Q E κ:=by
 obtain ⟨b,m,p,k,_⟩:=f.idx hx;obtain ⟨r,q,u⟩:=bind_some hs;have d:=t.len own;refine oi _ _ r t.size _ _ .i64 ix m p k ?_ h j q u;refine zdz _ (h2 b) (ho2 b) m f p k hv (by rw [hz,d]) hone ?_ (fun cs hc=>?_) fun κ' s g=>hk b κ' s (zjM hl g) (zaf hl)
 ·rw [gl,d];exact Nat.ble_self_eq_true _
 ·obtain ⟨y,_,j⟩:=hc;rw [zhp ((t.len j).trans d.symm)];exact own
theorem oT {α:Type} {t:Ty α} {cs:List Value} (e tg:Nat) (pub:Bool) (l:List α) (hs:Step N κ0 κ) (hr:Rep t κ cs l)
  (hk:∀ a' κ',Step N κ0 κ'→Step [] κ κ'→Gr t pub (κ0.H.size,tg) κ' e a' l.length l→owp P n c (i+1) Q (upd E (dstOf c i) (.slice a' l.length l.length)) κ')
  (h:st c i n E (some (dstOf c i))=true:=by kernel_rfl) (ho:execOp (ev E) (zv c i)=vOf (Instr.buildSlice (iaT (zv c i).op) l.length (bsV E (zv c i).op)):=by kernel_rfl)
  (hi:zqd P (iaT (zv c i).op) l.length (bsV E (zv c i).op)=some (e,t.size,cs):=by kernel_rfl) (hz:Nat.blt 0 t.size=true:=by kernel_rfl) (hm:Nat.ble l.length 1000000=true:=by kernel_rfl):owp P n c i Q E κ:=
 zs4 (τ:=(κ0.H.size,tg)) h ho hi hz hs.1 rfl hr hm fun a' κ' s g=>hk a' κ' (hs.tr0 s) s g
theorem oP {α:Type} {t:Ty α} {pub:Bool} {τ:Tag} {e bytes:Nat} {a a2:Option Addr} {cp c2:Nat} {l l2 r:List α} (T:Nat) (hg:Gr t pub τ κ e a cp l) (h2:Sl t κ a2 c2 l2) (hτ:τ.1≤κ.H.size) (hx:app bytes l l2=some r)
  (hk:∀ a' c' κ',Step (blk a cp) κ κ'→Gr t pub τ κ' e a' c' r→(∀ g∈blk a' c',g∈blk a cp∨κ.H.size≤g)→owp P n c (i+1) Q (upd E (dstOf c i) (.slice a' r.length c')) κ')
  (h:st c i n E (some (dstOf c i))=true:=by kernel_rfl) (ho:execOp (ev E) (zv c i)=vOf (Builtin.append_ #[T,T] 0 #[.slice a l.length cp,.slice a2 l2.length c2]):=by kernel_rfl)
  (hT:zjW P T=some (e,t.size,t.size,bytes):=by kernel_rfl):owp P n c i Q E κ:=zrk h ho hg h2 hτ hT hx hk
end
class Stp (κ κ':K) (A:Prop) (B:outParam Prop):Prop where
 m:Step [] κ κ'→A→B
section
variable {κ κ' κ0:K} {A B C D F G A' B' C' D' F' G':Prop}
instance {α:Type} {t:Ty α} {a:Option Addr} {c:Nat} {l:List α}:Stp κ κ' (Sl t κ a c l) (Sl t κ' a c l):=⟨fun s h=>h.step s⟩
instance {N:List Nat}:Stp κ κ' (Step N κ0 κ) (Step N κ0 κ'):=⟨fun s h=>h.tr0 s⟩
instance {τ:Tag} {b:Nat} {cs:List Value} {T:TypeId}:Stp κ κ' (Box τ κ b cs T) (Box τ κ' b cs T):=⟨fun s h=>h.step0 s⟩
instance {α:Type} {t:Ty α} {p:Bool} {τ:Tag} {e:Nat} {a:Option Addr} {c:Nat} {l:List α}:Stp κ κ' (Gr t p τ κ e a c l) (Gr t p τ κ' e a c l):=⟨fun s h=>h.step0 s⟩
instance {b o:Nat} {cs:List Value}:Stp κ κ' (PubAt κ b o cs) (PubAt κ' b o cs):=⟨fun s h=>h.step s⟩
instance {b o:Nat} {cs:List Value}:Stp κ κ' (At κ b o cs) (At κ' b o cs):=⟨fun s h=>h.step0 s⟩
instance {α:Type} {t:Ty α} {p:Bool} {τ:Tag} {eo ei:TypeId} {a:Option Addr} {c:Nat} {hm hs:List Hd} {L:List (List α)}:Stp κ κ' (Mat t p τ κ eo ei a c hm hs L) (Mat t p τ κ' eo ei a c hm hs L):=⟨fun s h=>h.step0 s⟩
instance {N i b:Nat} {ob:Obj}:Stp κ κ' (Rec N i κ b ob) (Rec N i κ' b ob):=⟨fun s h=>h.step0 s⟩
instance {α β:Type} {kt:KT α} {t:Ty β} {τ:Tag} {b:Nat} {m:List (α×β)}:Stp κ κ' (Mp kt t τ κ b m) (Mp kt t τ κ' b m):=⟨fun s h=>h.step0 s⟩
instance {τ:Tag} {eP eG:TypeId} {a:Option Addr} {n:Nat} {bs:List Nat} {L:List Int}:Stp κ κ' (Fst τ κ eP eG a n bs L) (Fst τ κ' eP eG a n bs L):=⟨fun s h=>h.step0 s⟩
theorem sQ2 [Stp κ κ' A A'] [Stp κ κ' B B'] (s:Step [] κ κ') (a:A) (b:B):A'∧B':=⟨Stp.m s a,Stp.m s b⟩
theorem sQ3 [Stp κ κ' A A'] [Stp κ κ' B B'] [Stp κ κ' C C'] (s:Step [] κ κ') (a:A) (b:B) (c:C):A'∧B'∧C':=⟨Stp.m s a,sQ2 s b c⟩
theorem sQ4 [Stp κ κ' A A'] [Stp κ κ' B B'] [Stp κ κ' C C'] [Stp κ κ' D D'] (s:Step [] κ κ') (a:A) (b:B) (c:C) (d:D):A'∧B'∧C'∧D':=⟨Stp.m s a,sQ3 s b c d⟩
theorem sQ5 [Stp κ κ' A A'] [Stp κ κ' B B'] [Stp κ κ' C C'] [Stp κ κ' D D'] [Stp κ κ' F F'] (s:Step [] κ κ') (a:A) (b:B) (c:C) (d:D) (f:F):A'∧B'∧C'∧D'∧F':=⟨Stp.m s a,sQ4 s b c d f⟩
theorem sQ6 [Stp κ κ' A A'] [Stp κ κ' B B'] [Stp κ κ' C C'] [Stp κ κ' D D'] [Stp κ κ' F F'] [Stp κ κ' G G'] (s:Step [] κ κ') (a:A) (b:B) (c:C) (d:D) (f:F) (g:G):A'∧B'∧C'∧D'∧F'∧G':=⟨Stp.m s a,sQ5 s b c d f g⟩
end
section
variable {pub:Bool} {τ:Tag} {κ:K} {e T T2:TypeId} {a:Option Addr} {cp:Nat} {l r:List Int}
end
section
variable [Fc] [Fb] {P:Program} {n:Nat} {c:Code} {i k:Nat} {nq:List Nat} {q0:Nat} {M:List Nat} {π:List Nat} {Q:zaH} {E:Env} {κ:K}
variable {pub:Bool} {τ:Tag} {e T T2:TypeId} {a:Option Addr} {cp:Nat} {l r:List Int} {s:List UInt8}
end
def tk (τ:Tag) (κ:K):List Nat:=(List.range κ.H.size).filter fun g=>decide (κ.tag g=τ)&&decide (τ.1≤g)
theorem zcT {τ:Tag} {κ:K} {g:Nat}:g∈tk τ κ↔g<κ.H.size∧κ.tag g=τ∧τ.1≤g:=by
 unfold tk;simp [ey]
structure Bld (TB eB:TypeId) (τ:Tag) (κ:K) (b:Nat) (l:List Int):Prop where
 ex:∃ p a c,(p=Value.pointer none∨p=Value.pointer (some ⟨b,0,none⟩))∧Box τ κ b [p,.slice a l.length c] TB∧Gr tU8 false τ κ eB a c l∧b∉blk a c∧(a=none∨0<c)
section
variable {TB eB:TypeId} {τ τ':Tag} {κ κ':K} {b:Nat} {l:List Int} {M:List Nat}
end
def pow10s:List Int:=[1,10,100,1000,10000,100000,1000000,10000000,100000000,1000000000,10000000000,100000000000,1000000000000,10000000000000,100000000000000,1000000000000000,10000000000000000,100000000000000000,1000000000000000000,10000000000000000000]
structure Globp (tab:List Int) (gta:Nat) (κ:K):Prop where
 pow:PubAt κ gta 0 (tab.map (Value.int .u64))
 psz:0<tab.length∧∃ e k,κ.shp gta=some (e,tab.length,k)
theorem Globp.step {tab:List Int} {gta:Nat} {M:List Nat} {κ κ':K} (s:Step M κ κ') (h:Globp tab gta κ):Globp tab gta κ':=by
 obtain ⟨b,e,k,c⟩:=h.psz;have a:0<κ.fr gta:=by have:=h.pow.2.1;rw [dz] at this;omega
 exact ⟨h.pow.step s,⟨b,e,k,(s.2.2.2 gta h.pow.1 a).2.trans c⟩⟩
end Go.Lf
namespace Go.Lf
open Go
section
variable {α β:Type} {t:Ty α} {tW:Ty β} {e:TypeId} {S:Nat} {κ κ':K} {a:Option Addr} {c n:Nat} {l:List α} {M:List Nat} {τ:Tag}
def SlW {α:Type} (t:Ty α) (e:TypeId) (S:Nat) (κ:K) (a:Option Addr) (c:Nat) (l:List α):Prop:=Sl t κ a c l∧(∃ N,Hm e c t.size (N,S) κ a l.length)∧c=l.length
theorem SlW.step (s:Step M κ κ') (h:SlW t e S κ a c l):SlW t e S κ' a c l:=⟨h.1.step s,h.2.1.elim fun N h=>⟨N,h.step s⟩,h.2.2⟩
theorem SlW.sl (h:SlW t e S κ a c l):Sl t κ a c l:=h.1
theorem SlW.nil:SlW t e S κ none 0 ([]:List α):=⟨Sl.nil _ _,⟨0,Hm.nil⟩,rfl⟩
theorem Gr.slW {N:Nat} (h:Gr t true (N,S) κ e a c l) (hs:0<t.size) (hc:c=l.length):SlW t e S κ a c l:=⟨h.sl,⟨N,h.hm hs⟩,hc⟩
def tSW {α:Type} (t:Ty α) (e:TypeId) (S:Nat):Ty (List α):=
 ⟨1,fun κ cs l=>∃ a c,cs=[.slice a l.length c]∧SlW t e S κ a c l,fun ⟨_,_,h,_⟩=>by rw [h];rfl,fun s ⟨a,c,h,hs⟩=>⟨a,c,h,hs.step s⟩,
  fun ⟨_,_,h,_⟩ v hv=>by rw [h] at hv;simp at hv;subst hv;rfl⟩
theorem Sl.ty {t':Ty α} (hz:t'.size=t.size) (hc:∀ cs x,t'.own κ cs x→t.own κ cs x) (h:Sl t' κ a c l):Sl t κ a c l:=
 ⟨h.cap,h.most,fun f=>by
  obtain ⟨b,off,e,d⟩:=h.elems f;exact ⟨b,off,e,fun i x g=>let ⟨cs,hp,ho⟩:=d i x g;⟨cs,by rw [hz] at hp;exact hp,hc _ _ ho⟩⟩⟩
structure Fam where
 T:Nat→Type
 t:∀ i,Ty (T i)
 e:Nat→TypeId
 hd:∀ i,T i→List (Nat×Hd)
 inj:∀ i j,e i=e j→i=j
 pos:∀ i,0<(t i).size
variable {F:Fam} {i:Nat}
def WL (F:Fam) (i:Nat) (τ:Tag) (κ:K) (a:Option Addr) (n:Nat):Prop:=0<n→∃ b l,a=some ⟨b,0,none⟩∧l.length=n∧Gr (F.t i) false τ κ (F.e i) a n l
def Hc (F:Fam) (τ:Tag) (κ:K) (y:Nat×Hd):Prop:=y.2.2.2=y.2.2.1∧y.2.2.1≤1048576∧WL F y.1 τ κ y.2.1 y.2.2.1
def WK (F:Fam) (i:Nat) (τ:Tag) (κ:K) (a:Option Addr) (n:Nat):Prop:=0<n→∃ b l,a=some ⟨b,0,none⟩∧l.length=n∧Gr (F.t i) false τ κ (F.e i) a n l∧∀ x∈l,∀ y∈F.hd i x,Hc F τ κ y
def Pr (F:Fam) (τ:Tag) (κ κ':K):Prop:=∀ i a n,(WL F i τ κ a n→WL F i τ κ' a n)∧(WK F i τ κ a n→WK F i τ κ' a n)
theorem Pr.refl:Pr F τ κ κ:=fun _ _ _=>⟨id,id⟩
theorem Pr.trans {κ'':K} (h:Pr F τ κ κ') (h':Pr F τ κ' κ''):Pr F τ κ κ'':=fun i a n=>⟨fun x=>(h' i a n).1 ((h i a n).1 x),fun x=>(h' i a n).2 ((h i a n).2 x)⟩
theorem zxo {y:Nat×Hd} (h:∀ i a n,WL F i τ κ a n→WL F i τ κ' a n) (hy:Hc F τ κ y):Hc F τ κ' y:=⟨hy.1,hy.2.1,h _ _ _ hy.2.2⟩
theorem Pr.step0 (s:Step [] κ κ'):Pr F τ κ κ':=by
 have k:∀ i a n,WL F i τ κ a n→WL F i τ κ' a n:=fun i a n h e=>by
  obtain ⟨b,l,d,c,f⟩:=h e;exact ⟨b,l,d,c,f.step0 s⟩
 refine fun i a n=>⟨k i a n,fun h e=>?_⟩;obtain ⟨b,l,d,c,f,g⟩:=h e;exact ⟨b,l,d,c,f.step0 s,fun x m y j=>zxo k (g x m y j)⟩
theorem WK.gr (h:WK F i τ κ a n):∃ l,l.length=n∧Gr (F.t i) false τ κ (F.e i) a n l∧∀ x∈l,∀ y∈F.hd i x,Hc F τ κ y:=by
 by_cases e:0<n
 ·obtain ⟨b,l,_,c,f,d⟩:=h e;exact ⟨l,c,f,d⟩
 ·obtain rfl:n=0:=by omega
  exact ⟨[],rfl,⟨by simp,.inl ⟨rfl,rfl⟩⟩,fun x g=>by cases g⟩
theorem WL.wk (h:WL F i τ κ a n) (h0:∀ x,F.hd i x=[]):WK F i τ κ a n:=fun g=>by
 obtain ⟨b,l,e,d,f⟩:=h g;exact ⟨b,l,e,d,f,fun x _ y c=>by rw [h0] at c;cases c⟩
theorem WK.wl (h:WK F i τ κ a n):WL F i τ κ a n:=fun e=>by
 obtain ⟨b,l,c,d,f,_⟩:=h e;exact ⟨b,l,c,d,f⟩
theorem Pr.write {l l':List (F.T i)} (g:Gr (F.t i) false τ κ (F.e i) a n l) (s:Step (blk a n) κ κ') (g':Gr (F.t i) false τ κ' (F.e i) a n l') (hl':l'.length=n) (hh:∀ x∈l',∀ y∈F.hd i x,Hc F τ κ y):Pr F τ κ κ':=by
 have key:∀ j a2 c (l2:List (F.T j)),Gr (F.t j) false τ κ (F.e j) a2 c l2→l2.length=c→0<c→Gr (F.t j) false τ κ' (F.e j) a2 c l2∨(j=i∧a2=a∧c=n):=by
  intro j a2 c l2 u d e;rcases u.body with ⟨hc,_⟩ | ⟨b2,cur2,xs2,ha2,_,hH2,_,_,p,_⟩
  ·omega
  ·by_cases q:b2∈blk a n
   ·right;rcases g.body with ⟨hc,_⟩ | ⟨b,cur,xs,ha,_,hH,_,_,k3,_⟩
    ·rw [hc,zmf] at q;cases q
    ·rw [ha] at q;have r:b2=b:=(znV q).1;subst r;rw [hH2] at hH;injection hH with hH
     injection hH with e1 e2 e3
     have v:=F.inj _ _ e2;subst v;refine ⟨rfl,by rw [ha2,ha],?_⟩;subst e1;rw [p] at k3;exact Nat.eq_of_mul_eq_mul_right (F.pos j) k3
   ·left;refine u.step s fun x f hm=>?_;rw [ha2] at f;have:=(znV f).1;subst this;exact q hm
 have k:∀ j a2 c,WL F j τ κ a2 c→WL F j τ κ' a2 c:=fun j a2 c h e=>by
  obtain ⟨b,l2,m,d,p⟩:=h e;rcases key j a2 c l2 p d e with h | ⟨rfl,rfl,rfl⟩
  ·exact ⟨b,l2,m,d,h⟩
  ·exact ⟨b,l',m,hl',g'⟩
 refine fun j a2 c=>⟨k j a2 c,fun h e=>?_⟩;obtain ⟨b,l2,m,d,p,w⟩:=h e;rcases key j a2 c l2 p d e with h | ⟨rfl,rfl,rfl⟩
 ·exact ⟨b,l2,m,d,h,fun x f y t=>zxo k (w x f y t)⟩
 ·exact ⟨b,l',m,hl',g',fun x f y t=>zxo k (hh x f y t)⟩
theorem zxF {l:List (F.T i)} (g:Gr (F.t i) false τ κ (F.e i) a n l):∀ b∈blk a n,b∈tk τ κ:=fun b c=>zcT.2 (g.lt b c)
theorem zmh (s:Step (tk τ κ) κ κ'):∀ b∈tk τ κ',b∈tk τ κ∨κ.H.size≤b:=fun b c=>by
 rcases gd b κ.H.size with h | h
 ·left;have a:=zcT.1 c;by_cases hc:b∈tk τ κ
  ·exact hc
  ·rw [(s.2.1 b h hc).2.2] at a;exact zcT.2 ⟨h,a.2⟩
 ·exact .inr h
theorem zyE {κ0:K} {x:List β} (hconv:∀ xs,Rep tW κ0 xs x→∃ l':List (F.T i),l'.length=x.length∧Rep (F.t i) κ' xs l'∧∀ z∈l',∀ y∈F.hd i z,Hc F τ κ' y) (hsz:(F.t i).size=tW.size)
  (h:SlW tW (F.e i) S κ0 a c x) (s:Step [] κ0 κ) (hH:κ'.H=κ.H) (hf:∀ b,b<κ0.H.size→(κ0.tag b).2=S→κ'.fr b=0∧κ'.tag b=τ∧τ.1≤b):WK F i τ κ' a x.length:=by
 obtain ⟨hs,⟨N,hm⟩,hc⟩:=h;intro t;obtain ⟨C,b,r,u,A,_,v⟩:=hm t;obtain ⟨xs,w,E⟩:=Rep.of_sl hs;obtain ⟨I,off,n,f⟩:=E t;rw [r] at n;injection n with n
 injection n with e1 e2
 subst e1;subst e2;replace f:=f.step s;obtain ⟨l',e,q,D⟩:=hconv xs w;obtain ⟨B,G,H⟩:=hf b u (by rw [A]);have d:κ.shp b=some (F.e i,c*tW.size,(0,0)):=by
  have:=(s.2.1 b u (by simp)).1;unfold K.shp at v ⊢;rw [this];exact v
 unfold K.shp at d;split at d
 ·rename_i cur T k hcur;injection d with d
  injection d with hp1 d
  injection d with hp2 hp3
  subst hp1;subst hp3;subst hc;have p:=w.length;refine ⟨b,l',r,e,⟨by have:=hs.most;rw [e];unfold maxLen;omega,.inr ⟨b,cur,xs,r,q,by rw [hH];exact hcur,by rw [e];omega,C,by rw [hsz];exact hp2,?_,by simpa using B,G,H⟩⟩,D⟩;apply bq;intro j;rw [dm,e,hsz];split
  ·rename_i hj;have g:j<xs.length:=by rw [p];exact hj
   have m:=f.2.2 j _ (cq g);unfold K.cell at m;rw [hcur] at m;simp only [gl] at m;rw [cq g,←m];simp
  ·rename_i hj;rw [cu (by omega)]
 ·cases d
end
section
variable [Fb] {P:Program} {F:Fam} {i fn m:Nat} {τ:Tag} {κ:K} {a:Option Addr} {n:Nat} {k B:Int}
theorem zvo (zo7:List (F.T i)→Int→Option (Int×List (F.T i)))
  (ok:∀ {κ:K} {l:List (F.T i)} {a:Option Addr} {c:Nat} {τ:Tag} {k:Int},Gr (F.t i) false τ κ (F.e i) a c l→τ.1<κ.H.size→I64 k→∀ {r},zo7 l k=some r→Fn P fn #[.slice a l.length c,.int .i64 k] κ (fun v κ'=>Step (blk a c) κ κ'∧v=.int .i64 r.1∧I64 r.1∧Gr (F.t i) false τ κ' (F.e i) a c r.2))
  (tot:∀ l k,1≤k→k≤B→l.length≤1048576→∃ l',zo7 l k=some (k+m*(l.length:Int),l')∧l'.length=l.length) (h0:∀ x,F.hd i x=[]) (hB:B≤4000000000000000)
  (h:WL F i τ κ a n) (ht:τ.1<κ.H.size) (hn:n≤1048576) (hk:1≤k) (hk2:k≤B):Fn P fn #[.slice a n n,.int .i64 k] κ (fun v κ'=>Step (tk τ κ) κ κ'∧v=.int .i64 (k+m*(n:Int))∧Pr F τ κ κ'):=by
 obtain ⟨l,e,g,_⟩:=(h.wk h0).gr;subst e;obtain ⟨l',hm,b⟩:=tot l k hk hk2 hn;refine (ok g ht (show I64 k by unfold I64;omega) hm).mono fun v κ' ⟨s,hv,_,g'⟩=>⟨s.mono (zxF g),hv,Pr.write g s g' b fun x _ y d=>?_⟩;rw [h0] at d;cases d
end
section
variable [Fc] [Fb] {P:Program} {n:Nat} {c:Code} {i:Nat} {Q:zaH} {E:Env} {κ:K} {s:List UInt8}
end
section
variable {α β:Type} {t:Ty α} {pub:Bool} {τ:Tag} {κ κ':K} {e u:TypeId} {a:Option Addr} {c:Nat} {l:List α} {M:List Nat}
def Ow (u:TypeId) (κ:K) (τ:Tag) (h:Hd) (l:List Int):Prop:=h.2.1=l.length∧Gr tU8 false τ κ u h.1 h.2.2 l
def tLH:Ty (Hd×Hd):=tPair tH tH
def zAb:Ty (List Int×List Int):=tPair (tSl tU8) (tSl tU8)
instance:TyA zAb:=inferInstanceAs (TyA (tPair (tSl tU8) (tSl tU8)))
structure Lg (u e:TypeId) (τ:Tag) (κ:K) (a:Option Addr) (c:Nat) (L:List (List Int×List Int)) (hs:List (Hd×Hd)):Prop where
 len:hs.length=L.length
 gr:Gr tLH false τ κ e a c hs
 row:∀ i h l,hs[i]?=some h→L[i]?=some l→Ow u κ (τ.1,1000000+2*i) h.1 l.1∧Ow u κ (τ.1,1000001+2*i) h.2 l.2
variable {L:List (List Int×List Int)} {hs:List (Hd×Hd)}
def LgE (u e:TypeId) (τ:Tag) (κ:K) (a:Option Addr) (c:Nat) (L:List (List Int×List Int)):Prop:=∃ hs,Lg u e τ κ a c L hs
theorem Gr.z {τ:Tag}:Gr t pub τ κ e a 0 ([]:List α):=⟨by simp,.inl ⟨rfl,rfl⟩⟩
end
theorem zzF {a b:Nat} (h:a<b):Nat.blt a b=true:=by simpa [Nat.blt,ga] using h
section
variable [Fc] [Fb] {P:Program} {n:Nat} {Q:zaH} {E:Env} {κ:K}
end
def zmS (k:IntKind) (x y:Int):Option Int:=if y=0 then none else some (k.wrap (x.tdiv y))
def zoY (x y:Int):Option Int:=if y=0 then none else some (x.tmod y)
section
variable {P:Program} {E:Env} {c:Code} {i:Nat} {w:World}
theorem zji {k:IntKind} {x y r:Int} (h:execOp (ev E) (zv c i)=vOf (Op.intDiv .quo k x y)) (hx:zmS k x y=some r) :
  (execOp (ev E) (zv c i)).run P w=.ok (.value (.int k r)) w:=by
 unfold zmS at hx;split at hx
 ·cases hx
 ·rename_i h0;obtain rfl:=Option.some.inj hx;rw [h];refine zB ?_;unfold Op.intDiv;rw [if_neg h0];rfl
theorem zmp {k:IntKind} {x y r:Int} (h:execOp (ev E) (zv c i)=vOf (Op.intDiv .rem k x y)) (hx:zoY x y=some r) :
  (execOp (ev E) (zv c i)).run P w=.ok (.value (.int k r)) w:=by
 unfold zoY at hx;split at hx
 ·cases hx
 ·rename_i h0;obtain rfl:=Option.some.inj hx;rw [h];refine zB ?_;unfold Op.intDiv;rw [if_neg h0];rfl
theorem zni {x y r:Int} (h:zmS .i64 x y=some r):I64 r:=by
 unfold zmS at h;split at h
 ·cases h
 ·obtain rfl:=Option.some.inj h;exact zo _
theorem zrf {x y r:Int} (hx:I64 x) (h:zoY x y=some r):I64 r:=by
 unfold zoY at h;split at h
 ·cases h
 ·obtain rfl:=Option.some.inj h;unfold I64 at *;have d:(x.tmod y).natAbs≤x.natAbs:=by rw [Int.natAbs_tmod];exact Nat.mod_le _ _
  have b:x<0∨0≤x:=by omega
  rcases b with b | b
  ·have c:=Int.tmod_nonneg (a := -x) y (by omega);rw [Int.neg_tmod] at c;omega
  ·have:=Int.tmod_nonneg (a:=x) y b;omega
end
end Go.Lf
namespace Go.Lf
open Go Go.Proofs
theorem zp1 {α:Type} {e:Bool} {A B:Option α} {r:Option α} {G:Prop} (hr:(if e=true then A else B)=r) (hf:e=false→B=r→G) (ht:e=true→A=r→G):G:=by
 cases e with
 | false=>exact hf rfl (by simpa using hr)
 | true=>exact ht rfl (by simpa using hr)
abbrev Glu:=(List UInt8)×Int
abbrev Til:=(List UInt8)×(List Int)
abbrev MkSt:=(List Glu)×(List Til)×(List ((List UInt8)×Int))
structure Mkr (tG:Ty Glu) (tT:Ty Til) (TM eG eT:TypeId) (τ:Tag) (κ:K) (b:Nat) (q:MkSt):Prop where
 ex:∃ a1 c1 a2 c2 bm,Box τ κ b [.slice a1 q.1.length c1,.slice a2 q.2.1.length c2,.map (some bm)] TM∧Gr tG true τ κ eG a1 c1 q.1∧Gr tT true τ κ eT a2 c2 q.2.1∧Mp kStr tI64 τ κ bm q.2.2∧
  b∉blk a1 c1∧b∉blk a2 c2∧bm∉blk a1 c1∧bm∉blk a2 c2∧b≠bm∧∀ g∈blk a1 c1,g∉blk a2 c2
section
variable {tG:Ty Glu} {tT:Ty Til} {TM eG eT:TypeId} {τ τ':Tag} {κ κ':K} {b:Nat} {q:MkSt} {M:List Nat}
theorem Mkr.box (h:Mkr tG tT TM eG eT τ κ b q):∃ cs,Box τ κ b cs TM:=by obtain ⟨_,_,_,_,_,B,_⟩:=h.ex;exact ⟨_,B⟩
theorem Mkr.tlt (h:Mkr tG tT TM eG eT τ κ b q):τ.1<κ.H.size:=by obtain ⟨_,B⟩:=h.box;exact B.tlt
theorem Mkr.own {κ0:K} (_:Mkr tG tT TM eG eT τ κ b q) (h0:κ0.H.size≤τ.1):∀ g∈tk τ κ,κ0.H.size≤g:=fun _ a=>fz h0 (zcT.1 a).2.2
theorem Mkr.nb {x:Nat} (_:Mkr tG tT TM eG eT τ κ b q) (h':Own τ' κ x) (hn:τ'≠τ):x∉tk τ κ:=fun a=>hn (h'.tag.symm.trans (zcT.1 a).2.1)
theorem Mkr.bn {x:Nat} (_:Mkr tG tT TM eG eT τ κ b q) (h':Own τ' κ x) (hn:τ≠τ'):∀ g∈tk τ κ,g∉[x]:=fun g a c=>by
 have d:=fg.1 c;subst d;exact hn ((zcT.1 a).2.1.symm.trans h'.tag)
theorem Mkr.step (s:Step M κ κ') (hm:∀ g∈tk τ κ,g∉M) (h:Mkr tG tT TM eG eT τ κ b q):Mkr tG tT TM eG eT τ κ' b q:=by
 obtain ⟨e,f,a2,c2,bm,B,d,c,m,hd⟩:=h.ex;exact ⟨e,f,a2,c2,bm,B.step s (hm b (zcT.2 ⟨B.lt,B.tag,B.ge⟩)),d.step s (fun x a=>hm x (zcT.2 (d.lt x a))),c.step s (fun x a=>hm x (zcT.2 (c.lt x a))),
  m.step s (hm bm (zcT.2 ⟨m.o.lt,m.o.tag,m.o.ge⟩)),hd⟩
theorem Mkr.step0 (s:Step [] κ κ') (h:Mkr tG tT TM eG eT τ κ b q):Mkr tG tT TM eG eT τ κ' b q:=h.step s (fun _ _=>by simp)
theorem Mkr.op (h:Mkr tG tT TM eG eT τ κ b q):∃ a c a2 c2 w,Box τ κ b [.slice a q.1.length c,.slice a2 q.2.1.length c2,w] TM∧Sl tG κ a c q.1∧Sl tT κ a2 c2 q.2.1:=by
 obtain ⟨a,c,a2,c2,bm,B,e,d,_⟩:=h.ex;exact ⟨a,c,a2,c2,_,B,e.sl,d.sl⟩
theorem zm1 {τ:Tag} {κ κ':K} (hs:Step (tk τ κ) κ κ'):∀ g∈tk τ κ',g∈tk τ κ∨κ.H.size≤g:=fun g a=>by
 rcases gd g κ.H.size with h | h
 ·by_cases hm:g∈tk τ κ
  ·exact .inl hm
  ·refine .inl (zcT.2 ⟨h,?_,(zcT.1 a).2.2⟩);rw [←(zcT.1 a).2.1];exact ((hs.2.1 g h hm).2.2).symm
 ·exact .inr h
instance:Stp κ κ' (Mkr tG tT TM eG eT τ κ b q) (Mkr tG tT TM eG eT τ κ' b q):=⟨fun s h=>h.step0 s⟩
end
section
variable [Fc] [Fb] {P:Program} {n:Nat} {c:Code} {i k:Nat} {nq:List Nat} {q0:Nat} {M:List Nat} {π:List Nat} {Q:zaH} {E:Env} {κ:K}
variable {α:Type} [DecidableEq α] {kt:KT α} {τ:Tag} {b:Nat} {m:List (α×Int)}
theorem zz8 (kt:KT α) {d T kd e:Nat} {x:α} (hm:Mp kt tI64 τ κ b m) (hn:b∉M) (hk:I64 ((mget m x).getD 0)→xwp P n c k nq q0 M π Q (upd E d (.int .i64 ((mget m x).getD 0))) κ)
  (hT:zii P T=some (kd,e):=by kernel_rfl) (h:xsQ c nq i E d=true:=by kernel_rfl) (ho:execOp (ev E) (zv c i)=vOf (Instr.lookup T (.map (some b)) (kt.enc x) false):=by kernel_rfl)
  (hkd:KeyOk P kd kt:=by first | exact znP (by kernel_rfl) | exact znO (by kernel_rfl)) (hz:zct P e=some (.int .i64 0):=by kernel_rfl) (hmb:zpQ c i=true:=by kernel_rfl):xwp P n c k nq q0 M (i::π) Q E κ:=by
 have p:∀ κ,(tI64).own κ [Value.int .i64 0] 0:=fun κ=>⟨rfl,by unfold I64;omega⟩;refine zsf (.int .i64 ((mget m x).getD 0)) h (fun κ' hs C a=>?_) hmb (hk (zvm hm));obtain ⟨v,g,j,_⟩:=zld (hm.step (zuA hs) hn) hT hkd hz (p κ') (x:=x) C a;rw [ho];have f:v=.int .i64 ((mget m x).getD 0):=(zoM g).1;rw [←f];exact zB j
end
end Go.Lf
namespace Go.Lf
open Go
def zvV (vs:List Value) (i:Nat):Value:=vs.getD i undef
def zw6 (m k:Nat) (ds:List Nat) (t:Nat):Bool:=(List.range m).all fun i=>Nat.beq i k||!Nat.beq t (zlC ds i)
def zz0 (c:Code) (n k m:Nat) (ds:List Nat):Bool:=
 decide (k<m)&&decide (m<(opsOf c).size)&&zxG c &&
 ((List.range m).all fun i=>Nat.beq i k||((zv c i).dst == some (zlC ds i)&&decide (zlC ds i<n)&&(zv c i).guard == none&&(List.range m).all fun j=>Nat.beq j k||Nat.beq j i||!Nat.beq (zlC ds j) (zlC ds i))) &&
 ((List.range m).all fun j=>dep c m j)&&((List.range (opsOf c).size).all fun t=>!Nat.blt m t||dep c t (t - 1))&&((zv c k).dst == none)&&((zv c k).guard == none) &&
 Region.seqB .any (opsOf c) ((opsOf c).size - m) m (zhH m (opsOf c).size)
section
variable [Fc] [Fb] {P:Program} {n:Nat} {Q:zaH} {E:Env} {κ κ2:K}
theorem zyu {c0:Code} {p:List Nat} (k m:Nat) (ds:List Nat) (vs:List Value) (h:zbK (sub c0 p)=some true) (hm:P.follows .mixedOrders=true)
  (hB:zz0 (sub c0 p) n k m ds=true)
  (hop:∀ i,i<m→Nat.beq i k=false→∀ v κ',κ'=κ∨κ'=κ2→(∀ t,zw6 m k ds t=true→v t=E t)→(∀ j,dep (sub c0 p) i j=true→Nat.beq j k=false→v (zlC ds j)=zvV vs j)→
   ∀ C d,(execOp (ev v) (zv (sub c0 p) i)).run P (W C κ' d)=.ok (.value (zvV vs i)) (W C κ' d))
  (hst:∀ v,(∀ t,zw6 m k ds t=true→v t=E t)→(∀ j,dep (sub c0 p) k j=true→Nat.beq j k=false→v (zlC ds j)=zvV vs j)→
   ∀ C d,(execOp (ev v) (zv (sub c0 p) k)).run P (W C κ d)=.ok .skip (W C κ2 d))
  (fin:∀ v,(∀ t,zw6 m k ds t=true→v t=E t)→(∀ j,j<m→Nat.beq j k=false→v (zlC ds j)=zvV vs j)→owp P n (sub c0 p) m Q v κ2):cwp P n (sub c0 p) Q E κ:=by
 generalize sub c0 p=s at *;unfold zz0 at hB;simp only [ao,decide_eq_true_eq,beq_iff_eq] at hB;obtain ⟨⟨⟨⟨⟨⟨⟨⟨b8,d4⟩,G⟩,a9⟩,c8⟩,c1⟩,hkd⟩,c3⟩,a1⟩:=hB;have J:∀ {i j:Nat},i≠j→Nat.beq i j=false:=fun {i j} h=>by
  cases R:Nat.beq i j with
  | false=>rfl
  | true=>exact absurd (fv R) h
 have Y:∀ i,i<m→i≠k→(zv s i).dst=some (zlC ds i)∧zlC ds i<n∧(zv s i).guard=none∧∀ j,j<m→j≠k→j≠i→zlC ds j≠zlC ds i:=by
  intro i hi g;have D:=be.1 a9 i (fe.2 hi);rw [J g,Bool.false_or] at D;simp only [ao,beq_iff_eq,decide_eq_true_eq] at D;refine ⟨D.1.1.1,D.1.1.2,D.1.2,fun j u f x=>?_⟩;have:=be.1 D.2 j (fe.2 u);rw [J f,J x] at this;intro e;rw [e] at this;simp at this
 cases s<;>simp [zbK] at h;rename_i id ops dr;subst h;simp only [opsOf] at *;generalize hs:Code.region id ops true=s at *;have O:opsOf s=ops:=by rw [←hs];rfl
 have get:∀ i,i<ops.size→ops[i]?=some (zv s i):=fun i hi=>by have:=zg3 (c:=s) (i:=i) (by rw [O];exact hi);rwa [O] at this
 have rdy:∀ {b:Array Bool} {i:Nat},i∈Region.ready .any ops b→i<ops.size∧b.getD i false=false∧∀ j,dep s i j=true→b.getD j false=true:=by
  intro b i hi;obtain ⟨d0,oi,b4,A⟩:=mem_ready.1 hi;have U:i<ops.size:=(ae.1 b4).1;refine ⟨U,getD_both d0,fun j u=>?_⟩;unfold dep at u;rw [show zv s i=oi from Option.some.inj ((get i U).symm.trans b4)] at u;obtain ⟨e,X,R⟩:=Array.any_eq_true'.1 u;simp only [ao,beq_iff_eq] at R;rw [←R.2];exact A e X R.1
 have c9:∀ {b:Array Bool} {i:Nat},i<ops.size→b.size=ops.size→b.getD i false=false→(∀ j,dep s i j=true→b.getD j false=true)→i∈Region.ready .any ops b:=by
  intro b i hi I Z u;refine mem_ready.2 ⟨getD_in (by rw [I];exact hi) Z,zv s i,get i hi,fun e X R=>u _ ?_⟩;unfold dep;exact Array.any_eq_true'.2 ⟨e,X,by simp [R]⟩
 have M:∀ i j,i<ops.size→dep s i j=true→j<i:=by
  intro i j hi u;unfold dep at u;obtain ⟨e,X,R⟩:=Array.any_eq_true'.1 u;simp only [ao,beq_iff_eq] at R;unfold zxG at G;rw [O] at G;have D:=be.1 G i (fe.2 hi);have h2:=(Array.all_eq_true_iff_forall_mem.1 D) e X;rw [R.1] at h2;simp at h2;omega
 have a3:∀ E2 C d (a:Act),Fits n a E2→owp P n s m Q E2 κ2→wpAnyIn FF 0 P .any ops (zl3 n C Q) (ops.size - m) (zhH m ops.size) a (W C κ2 d):=by
  intro E2 C d a L T;have T:=T C d a L;rw [O] at T;have X:=wpOpsIn_eq_wpListIn (F:=FF) (n:=0) (P:=P) (ops:=ops) (Q:=zl3 n C Q) (ops.toList.drop m) m (fun j=>by simp [co]);have H:(ops.toList.drop m).length=ops.size - m:=by simp
  rw [H] at X;have Z:=zhS (F:=FF) (n:=0) (P:=P) (md:=.any) (ops:=ops) (Q':=zl3 n C Q) (ops.toList.drop m) m (zhH m ops.size) a (W C κ2 d)
   (fun j=>by simp [co]) (by rw [H];simpa using a1) (by rw [←X];exact T)
  rw [H] at Z;exact Z
 have a5:∀ {b:Array Bool},b.size=ops.size→(∀ j,j<m→b.getD j false=true)→(∀ t,m≤t→t<ops.size→b.getD t true=false)→b=zhH m ops.size:=by
  intro b I D h2;apply Array.ext
  ·simp [zhH];exact I
  ·intro i hi d6;simp only [zhH,Array.getElem_map,Array.getElem_range];by_cases g:i<m
   ·have:=D i g;simp [hi] at this;rw [this];simp [g]
   ·have:=h2 i (by omega) (by rw [←I];exact hi);simp [hi] at this;rw [this,decide_eq_false g]
 have ho:∀ {t:Nat},zw6 m k ds t=true→∀ i,i<m→i≠k→t≠zlC ds i:=by
  intro t V i hi g e;have:=be.1 V i (fe.2 hi);rw [J g,Bool.false_or,e] at this;simp at this
 have a7:∀ r b v κ' C d (a:Act),Fits n a v→b.size=ops.size→(∀ t,m≤t→t<ops.size→b.getD t true=false)→
   (κ'=if b.getD k false=true then κ2 else κ)→(∀ t,zw6 m k ds t=true→v t=E t)→(∀ j,j<m→j≠k→b.getD j false=true→v (zlC ds j)=zvV vs j)→unl b m=r→
   wpAnyIn FF 0 P .any ops (zl3 n C Q) (r+(ops.size - m)) b a (W C κ' d):=by
  intro r
  induction r with
  | zero=>
   intro b v κ' C d a L I V B w q hu;have A:=zqW hu;rw [A k b8,if_pos rfl] at B;subst B;rw [a5 I A V,gl];exact a3 v C d a L (fin v w fun j u f=>q j u (fun e=>by rw [e] at f;simp at f) (A j u))
  | succ r ih=>
   intro b v κ' C d a L I V B w q hu;obtain ⟨i0,d2,a4,a2⟩:=zsT hu;have y:i0∈Region.ready .any ops b:=c9 (by omega) I a4 fun j u=>a2 j (M i0 j (by omega) u);rw [show r+1+(ops.size - m)=(r+(ops.size - m))+1 by omega];refine ⟨fun h0=>(by rw [h0] at y;cases y),fun i hi=>?_⟩;obtain ⟨r1,r2,r3⟩:=rdy hi;have S:i<m:=by
    rcases gd i m with h | h
    ·exact h
    ·exfalso;rcases gd m i with h' | h'
     ·have:=be.1 c1 i (fe.2 r1);rw [zzF h'] at this;have D:=r3 (i - 1) (by simpa using this);rw [getD_both (V (i - 1) (by omega) (by omega))] at D;cases D
     ·have e:i=m:=by omega
      subst e;have:=r3 i0 (be.1 c8 i0 (fe.2 d2));rw [a4] at this;cases this
   have b0:unl (b.setIfInBounds i true) m=r:=by
    have:=zsS S (by rw [I];omega) r2;omega
   have b3:(b.setIfInBounds i true).size=ops.size:=by simp [I]
   have b1:∀ t,m≤t→t<ops.size→(b.setIfInBounds i true).getD t true=false:=fun t D h2=>by rw [getD_set_ne true (by omega)];exact V t D h2
   unfold wpOpIn;rw [get i r1];simp only [];have hw:=zhI L s i;rw [O] at hw;by_cases g:i=k
   ·subst g;rw [hw,show za0 s i v=true by unfold za0;rw [c3],if_pos rfl];rw [r2,if_neg (by simp)] at B;subst B;refine zqT (by rw [L.eval];exact hst v w (fun j u f=>q j (by have:=M i j r1 u;omega) (fun e=>by rw [e] at f;simp at f) (r3 j u)) C d) ?_;rw [hkd];refine ih _ v κ2 C d a L b3 b1 ?_ w (fun j u x N=>?_) b0
    ·rw [if_pos (by simp [I,r1])]
    ·rw [getD_set_ne false (Ne.symm x)] at N;exact q j u x N
   ·obtain ⟨c7,b7,b9,c4⟩:=Y i S g;rw [hw,show za0 s i v=true by unfold za0;rw [b9],if_pos rfl];have c2:κ'=κ∨κ'=κ2:=by
     rw [B];split
     ·exact .inr rfl
     ·exact .inl rfl
    refine zju (by rw [L.eval];exact hop i S (J g) v κ' c2 w (fun j u f=>q j (by have:=M i j r1 u;omega) (fun e=>by rw [e] at f;simp at f) (r3 j u)) C d) ?_;rw [c7];refine ih _ (upd v (zlC ds i) (zvV vs i)) κ' C d _ (L.put b7 _) b3 b1 ?_ (fun t a8=>?_) (fun j u f N=>?_) b0
    ·rw [getD_set_ne false g];exact B
    ·rw [zkp,if_neg (ho a8 i S g)];exact w t a8
    ·by_cases x:j=i
     ·subst x;rw [zkp,if_pos rfl]
     ·rw [zkp,if_neg (c4 j u f x)];rw [getD_set_ne false (Ne.symm x)] at N;exact q j u f N
 intro C d a L;rw [←hs];refine wpIn_region_any hm ?_;have hu:unl (Array.replicate ops.size false) m=m:=by
  unfold unl;rw [bz.2 (fun i _=>by rw [getD_replicate_false];rfl)];simp
 have hm':=a7 m (Array.replicate ops.size false) E κ C (d+1) a L (by simp) (fun t _ V=>getD_in (by simpa using V) (getD_replicate_false _ _)) (by rw [getD_replicate_false,if_neg (by simp)]) (fun _ _=>rfl)
  (fun j _ _ Z=>by rw [getD_replicate_false] at Z;cases Z) hu
 rw [show m+(ops.size - m)=ops.size by omega] at hm';exact hm'
theorem zdM {E F:Env} {o:Oper} {w:World} {r:Result Next} (h:E=F) (hx:(execOp (ev F) o).run P w=r):(execOp (ev E) o).run P w=r:=by rw [h];exact hx
theorem zqP {F:Env} {o:Oper} {κ:K} {C:Cx} {d b off j:Nat} {T:TypeId} {cs:List Value} {v:Value} (hv:At κ b off cs) (hj:cs[j]?=some v)
  (ho:execOp (ev F) o=vOf (Instr.loadAt T (.pointer (some ⟨b,off+j,none⟩))):=by kernel_rfl) (hT:zdY P T=some false:=by kernel_rfl):(execOp (ev F) o).run P (W C κ d)=.ok (.value v) (W C κ d):=by
 rw [ho];exact zB (zfT hT (hv.one hj))
theorem zyr {F:Env} {o:Oper} {κ:K} {C:Cx} {d b off j m:Nat} {T:TypeId} {cs vs:List Value} (hv:At κ b off cs) (hj:(cs.drop j).take m=vs)
  (ho:execOp (ev F) o=vOf (Instr.loadAt T (.pointer (some ⟨b,off+j,none⟩))):=by kernel_rfl) (hT:zdY P T=some true:=by kernel_rfl) (hs:zG P T=some vs.length:=by kernel_rfl):(execOp (ev F) o).run P (W C κ d)=.ok (.value (.agg vs.toArray)) (W C κ d):=by
 subst hj;rw [ho];exact zB (zeO hT hs (hv.part j m).2)
theorem zzB {τ:Tag} {F:Env} {o:Oper} {κ κ2:K} {C:Cx} {d b off:Nat} {T U:TypeId} {cs:List Value} (v:Value) (vs cs':List Value) (hb:Box τ κ b cs U) (e:κ2=κ.setB b cs' U)
  (hcs:splice cs off vs=cs') (hv:v.cells=vs.toArray) (ho:execOp (ev F) o=uOf (Instr.storeAt T (.pointer (some ⟨b,off,none⟩)) v):=by kernel_rfl) (hs:zG P T=some vs.length:=by kernel_rfl) (hone:zoH vs=true:=by kernel_rfl) (hlen:Nat.ble (off+vs.length) cs.length=true:=by kernel_rfl) :
  (execOp (ev F) o).run P (W C κ d)=.ok .skip (W C κ2 d):=by
 subst hcs;subst e;rw [ho];exact zqI (zmo hb hv hs hone (fx hlen))
theorem zpu {κ κ2 κ':K} {b off:Nat} {cs:List Value} (h:κ'=κ∨κ'=κ2) (h1:At κ b off cs) (h2:At κ2 b off cs):At κ' b off cs:=by rcases h with rfl | rfl<;>assumption
end
section
variable {P:Program} {α:Type} {t:Ty α} {κ:K} {e T T2:TypeId} {τ:Tag}
theorem zsr {b lo sz dl dcap m:Nat} {ty U:TypeId} {cs ys:List Value} (hT:zC P T=some e) (hs:zG P e=some sz) (hbox:Box τ κ b cs U) (src:Value)
  (hlen:∀ w,(Builtin.lenOf src).run P w=.ok m w) [Fb] (C:Cx) (d:Nat) (hfirst:(Builtin.firstCells sz (min m dl) src).run P (W C κ d)=.ok ys.toArray (W C κ d)) (hone:∀ v∈ys,v.oneCell'=true) (hfit:lo+ys.length≤cs.length) :
  (Builtin.copy_ #[T,T2] ty #[.slice (some ⟨b,lo,none⟩) dl dcap,src]).run P (W C κ d)=.ok (.int .i64 (min m dl:Nat)) (W C (κ.setB b (splice cs lo ys) U) d):=by
 have f:=zcc hT;have a:=zih (P:=P) (C:=C) (d:=d) (off:=lo) ys 0 κ cs hbox hone (by simpa using hfit);rw [Nat.add_zero] at a;have c:Nat.min m dl=min m dl:=rfl;simp [Builtin.copy_,zy f,hlen,zS hs,c,hfirst,a,goInt]
theorem zq2 {A B V D:List Value} (h:B.length=V.length):splice (A++B++D) A.length V=A++V++D:=by
 apply bq;intro j;rw [zfH _ _ _ _ (by simp;omega)];by_cases a:j<A.length
 ·rw [if_neg (by omega),bg,bg,cj a,cj a]
 ·by_cases b:j<A.length+V.length
  ·rw [if_pos ⟨by omega,b⟩,bg,cn (by omega),cj (by omega)]
  ·rw [if_neg (by omega),cn (by simp;omega),cn (by simp;omega)];simp [h]
theorem zzu {a:Option Addr} {cp i:Nat} {l:List α} {x:α} {V:List Value} (hg:Gr t false τ κ e a cp l) (hi:i≤l.length) (h0:0<l.length) (hc:l.length+1≤cp) (hm:l.length+1≤1000000) (hx:t.own κ V x)
  (hT:zC P T=some e) (hs:zG P e=some t.size) :
  ∃ b κ2 κ3,a=some ⟨b,0,none⟩∧b<κ.H.size∧b∈blk a cp∧Step (blk a cp) κ κ2∧Step (blk a cp) κ2 κ3∧Gr t false τ κ3 e a cp (l.take i++[x]++l.drop i)∧
   (∀ [Fb] (C:Cx) (d:Nat) (ty:TypeId) (q r:Nat),(Builtin.copy_ #[T,T2] ty #[.slice (some ⟨b,(i+1)*t.size,none⟩) (l.length - i) q,.slice (some ⟨b,i*t.size,none⟩) (l.length+1 - i) r]).run P (W C κ d)=.ok (.int .i64 (l.length - i:Nat)) (W C κ2 d))∧
   (∀ [Fb] (C:Cx) (d:Nat) (ty:TypeId) (q:Nat) (p:Value),(∀ w,(Builtin.lenOf p).run P w=.ok 1 w)→(Builtin.firstCells t.size 1 p).run P (W C κ2 d)=.ok V.toArray (W C κ2 d)→
    (Builtin.copy_ #[T,T2] ty #[.slice (some ⟨b,i*t.size,none⟩) (l.length+1 - i) q,p]).run P (W C κ2 d)=.ok (.int .i64 (1:Nat)) (W C κ3 d)):=by
 rcases hg.body with ⟨_,hl⟩ | ⟨b,cur,xs,ha,hr,hH,h1,h2,h3,h4,h5,h6,h7⟩
 ·rw [hl] at h0;simp at h0
 have f:Box τ κ b cur.toList e:=⟨by simpa using hH,by rw [h5];simp,h6,h7⟩;have b8:cur.toList.length=cp*t.size:=by simpa using h3
 have a9:xs.length=l.length*t.size:=hr.length;have b6:V.length=t.size:=t.len hx;obtain ⟨A,Q⟩:∃ A,A=xs.take (i*t.size):=⟨_,rfl⟩;obtain ⟨B,hB⟩:∃ B,B=xs.drop (i*t.size):=⟨_,rfl⟩;obtain ⟨R,hR⟩:∃ R,R=cur.toList.drop (l.length*t.size):=⟨_,rfl⟩;have b2:i*t.size≤l.length*t.size:=gj _ hi;have b9:(l.length+1)*t.size≤cp*t.size:=gj _ hc;have hsz:(i+1)*t.size=i*t.size+t.size:=gk _ _;have a5:(l.length+1)*t.size=l.length*t.size+t.size:=gk _ _;have F:A.length=i*t.size:=by rw [Q,ef];omega
 have a3:B.length=l.length*t.size - i*t.size:=by rw [hB,dx];omega
 have b0:R.length=cp*t.size - l.length*t.size:=by rw [hR,dx];omega
 have I:cur.toList=A++B++R:=by rw [Q,hB,List.take_append_drop,hR,←h4,List.take_append_drop]
 obtain ⟨X,Y,H,hX⟩:∃ X Y,B++R=X++Y∧X.length=t.size:=⟨(B++R).take t.size,(B++R).drop t.size,(List.take_append_drop _ _).symm,by rw [ef,du];omega⟩;have b1:Y.length=cp*t.size - i*t.size - t.size:=by
  have:=congrArg List.length H;simp only [du] at this;omega
 obtain ⟨M,h,hY,U⟩:∃ M h,Y=M++h∧M.length=B.length:=⟨Y.take B.length,Y.drop B.length,(List.take_append_drop _ _).symm,by rw [ef];omega⟩;have n:cur.toList=A++X++M++h:=by rw [I,bg,H,hY];simp
 have e1:splice cur.toList ((i+1)*t.size) B=A++X++B++h:=by
  rw [n,show (i+1)*t.size=(A++X).length by rw [du];omega];exact zq2 U
 obtain ⟨κ2,y⟩:∃ κ2,κ2=κ.setB b (A++X++B++h) e:=⟨_,rfl⟩;have D:Box τ κ2 b (A++X++B++h) e:=by rw [y];exact ziF f
 have s2:Step [b] κ κ2:=by rw [y];exact zhJ f
 have e2:splice (A++X++B++h) (i*t.size) V=A++V++B++h:=by
  rw [show A++X++B++h=A++X++(B++h) by simp,←F,zq2 (by omega)];simp
 obtain ⟨κ3,E⟩:∃ κ3,κ3=κ2.setB b (A++V++B++h) e:=⟨_,rfl⟩;have s:Box τ κ3 b (A++V++B++h) e:=by rw [E];exact ziF D
 have s3:Step [b] κ2 κ3:=by rw [E];exact zhJ D
 have G:b∈blk a cp:=by rw [ha];exact zi9 (a:=⟨b,0,none⟩) (by omega)
 have sub:∀ g∈[b],g∈blk a cp:=fun g N=>by rw [fg.1 N];exact G
 have L:Rep t κ B (l.drop i):=by rw [hB];exact hr.drop i
 have a0:Rep t κ A (l.take i):=by rw [Q];exact hr.take i
 have k:Step [b] κ κ3:=s2.trans s3;refine ⟨b,κ2,κ3,ha,f.lt,G,s2.mono sub,s3.mono sub,?_,?_,?_⟩
 ·have u:(l.take i++[x]++l.drop i).length=l.length+1:=by simp;omega
  have J:Rep t κ3 (A++V++B) (l.take i++[x]++l.drop i):=((a0.step k).append (show Rep t κ3 V [x] from ⟨V,[],by simp,t.step k hx,rfl⟩)).append (L.step k);have O:=s.obj;refine ⟨by rw [u,zgw];omega,.inr ⟨b,(A++V++B++h).toArray,A++V++B,ha,J,O,by omega,h2,?_,?_,?_,s.tag,s.ge⟩⟩
  ·rw [fo];have:=congrArg List.length n;simp only [du] at this ⊢;omega
  ·simp only [];rw [u,show (l.length+1)*t.size=(A++V++B).length by simp only [du];omega];exact List.take_left
  ·have:=s.fr;simpa using this
 ·intro _ C d ty q r;have c:min (l.length+1 - i) (l.length - i)=l.length - i:=by omega
  have:=zsr (P:=P) (T:=T) (T2:=T2) (ty:=ty) (b:=b) (lo:=(i+1)*t.size) (sz:=t.size) (dl:=l.length - i) (dcap:=q) (m:=l.length+1 - i) (ys:=B) hT hs f (.slice (some ⟨b,i*t.size,none⟩) (l.length+1 - i) r) (fun w=>rfl) C d (by
   rw [c];refine run_firstCells_some _ t.size (l.length - i) ⟨b,i*t.size,none⟩ _ _ B (by rw [a3,Nat.sub_mul]) (fun j v hj=>?_);rw [zbn,zkX];have Z:j<B.length:=(cv.1 hj).1;unfold K.cell;rw [hH];show cur[i*t.size+j]?=some v;rw [←ak,I,bg,cn (by omega),F,show i*t.size+j - i*t.size=j by omega,cj Z];exact hj) L.one (by omega)
  rw [c,e1,←y] at this;exact this
 ·intro _ C d ty q p a1 S;have c:min 1 (l.length+1 - i)=1:=by omega
  have:=zsr (P:=P) (T:=T) (T2:=T2) (ty:=ty) (b:=b) (lo:=i*t.size) (sz:=t.size) (dl:=l.length+1 - i) (dcap:=q) (m:=1) (ys:=V) hT hs D p a1 C d (by rw [c];exact S) (show Rep t κ V [x] from ⟨V,[],by simp,hx,rfl⟩).one (by
   have:=congrArg List.length n;simp only [du] at this ⊢;omega)
  rw [c,e2,←E] at this;exact this
end
section
variable {P:Program} {α:Type} {t:Ty α} {κ:K} {e T T2 tn:TypeId} {τ τ2:Tag}
theorem zwT {a:Option Addr} {cp i k bytes:Nat} {l:List α} {zs:List Value} {z:α} {ty:TypeId} (H:Gr t false τ κ e a cp l) (hi:i≤l.length) (hk:0<k) (hc:cp<i+k) (hm:i+k≤1000000) (hτ:τ2.1≤κ.H.size)
  (hT:zC P T=some e) (hs:zG P e=some t.size) (htn:P.underlying tn=some (.int .i64)) (hz:(zct P e).map Value.cells=some zs.toArray) (hzo:t.own κ zs z) (hby:zj6 P e=some bytes) (hb:(i+k)*bytes≤140737488355328) (h0:0<t.size) [Fb] (C:Cx) (d:Nat) :
  ∃ a' c' κ' d',(Builtin.append_ #[T,tn] ty #[.slice a i cp,.int .i64 k]).run P (W C κ d)=.ok (.slice a' (i+k) c') (W C κ' d')∧Step [] κ κ'∧Gr t false τ2 κ' e a' c' (l.take i++List.replicate k z)∧∀ g∈blk a' c',κ.H.size≤g:=by
 have J:=zcc hT;obtain ⟨B,m,r⟩:∃ i,P.info? e=some i∧i.bytes=bytes:=by
  unfold zj6 at hby;obtain ⟨i,E,D⟩:=gt.1 hby;exact ⟨i,E,D⟩
 have M:B.size=t.size:=by unfold zG at hs;rw [m] at hs;simpa using hs
 obtain ⟨b,I,x⟩:∃ z,B.zero=some z∧z.cells=zs.toArray:=by
  unfold zct at hz;rw [m] at hz;obtain ⟨z,E,D⟩:=gt.1 hz;exact ⟨z,by simpa using E,D⟩
 have v:=t.len hzo;obtain ⟨xs,p,s⟩:∃ xs,Rep t κ xs (l.take i)∧(Builtin.firstCells B.size i (.slice a i cp)).run P (W C κ d).drew=.ok xs.toArray (W C κ d).drew:=by
  rcases H.body with ⟨_,S⟩ | ⟨g,cur,xs,ha,hr,hH,E,D,h3,h4,h5,h6,h7⟩
  ·have:i=0:=by rw [S] at hi;simpa using hi
   subst this;refine ⟨[],rfl,?_⟩;cases a<;>simp [Builtin.firstCells,loadCells,loadCellsFrom]
  ·subst ha;refine ⟨xs.take (i*t.size),hr.take i,?_⟩;have h:=hr.length;have Q:i*t.size≤l.length*t.size:=gj _ hi;refine run_firstCells_some (P:=P) _ B.size i ⟨g,0,none⟩ i cp (xs.take (i*t.size)) (by rw [M,ef];omega) fun j u n=>?_;rw [zbn];show (W C κ (d+1)).cell? ⟨g,0+j,none⟩=some u;rw [zkX];unfold K.cell;rw [hH];simp only [gl];rw [dm] at n;split at n
   ·rw [←h4,dm] at n;split at n
    ·rw [←ak];exact n
    ·cases n
   ·cases n
 have h:xs.length=i*t.size:=by have:=p.length;rw [ef,Nat.min_eq_left hi] at this;exact this
 have U:k*bytes≤(i+k)*bytes:=gj _ (by omega);have f:=Lib.run_append_grow_zeros (P:=P) (W C κ d) T tn ty e B b .i64 .i64 J htn m I a i cp xs s k hk (by omega) hc (by omega) (by rw [r];omega) (growslice_fits hc (by rw [r];exact hb));obtain ⟨G,L⟩:∃ G,G=grownCap (W C κ d) (i+k) cp e:=⟨_,rfl⟩;rw [←L] at f;have O:i+k≤G:=by rw [L];exact grownCap_ge _ _ _ _
 have F:G≤maxLen:=by rw [L];exact grownCap_le_maxLen _ _ _ _ (by rw [zgw];omega)
 obtain ⟨κ',c⟩:∃ κ',κ'=κ.push (.cells (xs.toArray++Builtin.zeroCells b.cells k++Builtin.zeroCells b.cells (G - (i+k))) e) 0 τ2:=⟨_,rfl⟩;have st:Step [] κ κ':=by rw [c];exact zbp _ _ _ _
 have q:Rep t κ (Builtin.zeroCells b.cells k).toList (List.replicate k z):=by
  have:=zrd hzo k;have R:(Builtin.zeroCells b.cells k).toList=(List.range (k*t.size)).map fun i=>(zs.toArray)[i % zs.toArray.size]!:=by
   rw [x];simp [Builtin.zeroCells,v]
  rw [R];exact this
 have y:(Builtin.zeroCells b.cells k).toList.length=k*t.size:=by have:=q.length;rw [ed] at this;exact this
 refine ⟨some ⟨κ.H.size,0,none⟩,G,κ',d+1,?_,st,⟨by simp;rw [zgw];omega,.inr ⟨κ.H.size,xs.toArray++Builtin.zeroCells b.cells k++Builtin.zeroCells b.cells (G - (i+k)),xs++(Builtin.zeroCells b.cells k).toList,rfl,(p.step st).append (q.step st),by rw [c];simp [K.push],by simp;omega,F,?_,?_,by rw [c];simp [K.push],by rw [c];simp [K.push],hτ⟩⟩,fun g H=>by have:=(znV H).1;rw [this];exact fy _⟩
 ·rw [f,c];rfl
 ·have N:b.cells.size=t.size:=by rw [x];simpa using v
  have A:(Builtin.zeroCells b.cells k).size=k*t.size:=by simpa using y
  simp only [Array.size_append,fo,h,A,size_zeroCells,N,←fu];congr 1;omega
 ·simp only [Array.toList_append];have w:(l.take i++List.replicate k z).length*t.size=(xs++(Builtin.zeroCells b.cells k).toList).length:=by
   rw [du,du,ef,ed,Nat.min_eq_left hi,h,y,fu]
  rw [w];exact List.take_left
end
section
variable {P:Program} {T e:TypeId} {sz len cp:Nat} {a:Option Addr}
theorem znH {lo:Nat} (hT:zC P T=some e) (hs:zG P e=some sz) (hlo:lo≤len) (hcp:len≤cp) (w:World) :
  (Instr.sliceAt T (.slice a len cp) (zbE (some (lo:Int))) none none).run P w=.ok (.slice (if cp=lo then a else a.map (·.add (lo*sz))) (len - lo) (cp - lo)) w:=by
 have b:=zcc hT;unfold Instr.sliceAt Instr.slice Instr.sliceBounds;have c:0≤(lo:Int)∧(lo:Int)≤(len:Int):=by omega
 simp [zy b,zbE,zS hs,Instr.sliceBound,asIntOf,c];intro h;omega
theorem zvd {hi:Nat} (hT:zC P T=some e) (hs:zG P e=some sz) (hcp:hi≤cp) (w:World) :
  (Instr.sliceAt T (.slice a len cp) none (zbE (some (hi:Int))) none).run P w=.ok (.slice a hi cp) w:=by
 have b:=zcc hT;unfold Instr.sliceAt Instr.slice Instr.sliceBounds;have d:0≤(hi:Int)∧(hi:Int)≤(cp:Int):=by omega
 have c:(if cp=0 then a else a.map (·.add 0))=a:=by
  split
  ·rfl
  ·cases a<;>simp [Addr.add]
 simp [zy b,zbE,zS hs,Instr.sliceBound,asIntOf,d,hcp,c]
theorem zqR [Fb] {C:Cx} {κ:K} {d b:Nat} {cur:Array Value} (h:κ.H[b]?=some (.cells cur e (0,0))):(W C κ d).shape? b=some (e,cur.size)∧∀ o,(W C κ d).frozen? ⟨b,o,none⟩=false:=by
 constructor
 ·unfold World.shape?;show (match κ.H[b]? with | some (.cells cs e _)=>some (e,cs.size) | _=>none)=_;rw [h]
 ·intro o;unfold World.frozen?;show (match κ.H[b]? with | some (.cells _ _ (lo,hi))=>decide (lo≤o)&&decide (o<hi) | _=>false)=false;rw [h];simp
end
section
variable [Fc] [Fb] {P:Program} {n:Nat} {c:Code} {i:Nat} {Q:zaH} {E:Env} {κ:K} {α:Type} {t:Ty α} {e T T2 tn:TypeId} {a:Option Addr} {cp:Nat} {l l2:List α} {τ:Tag}
theorem zAm {d j k bytes:Nat} {ty:TypeId} {zs:List Value} {z:α} (τ2:Tag) (hg:Gr t false τ κ e a cp l) (hj:j≤l.length) (hk0:0<k) (hc:cp<j+k) (hm:j+k≤1000000) (hτ:τ2.1≤κ.H.size) (hzo:t.own κ zs z)
  (hb:(j+k)*bytes≤140737488355328)
  (hk:∀ a' c' κ',Step [] κ κ'→Gr t false τ2 κ' e a' c' (l.take j++List.replicate k z)→(∀ g∈blk a' c',κ.H.size≤g)→owp P n c (i+1) Q (upd E d (.slice a' (j+k) c')) κ')
  (h:st c i n E (some d)=true:=by kernel_rfl) (ho:execOp (ev E) (zv c i)=vOf (Builtin.append_ #[T,tn] ty #[.slice a j cp,.int .i64 (k:Int)]):=by kernel_rfl)
  (hT:zC P T=some e:=by kernel_rfl) (hs:zG P e=some t.size:=by kernel_rfl) (htn:P.underlying tn=some (.int .i64):=by kernel_rfl) (hz:(zct P e).map Value.cells=some zs.toArray:=by kernel_rfl) (hby:zj6 P e=some bytes:=by kernel_rfl) (h0:Nat.blt 0 t.size=true:=by kernel_rfl):owp P n c i Q E κ:=by
 refine zkb (fun v κ'=>∃ a' c',v=.slice a' (j+k) c'∧Step [] κ κ'∧Gr t false τ2 κ' e a' c' (l.take j++List.replicate k z)∧∀ g∈blk a' c',κ.H.size≤g) h (fun C p=>?_) ?_
 ·obtain ⟨a',c',κ',q,r,f,b,m⟩:=zwT (P:=P) (T:=T) (tn:=tn) (ty:=ty) (τ2:=τ2) hg hj hk0 hc hm hτ hT hs htn hz hzo hby hb (by simpa [Nat.blt,ga] using h0) C p;exact ⟨_,κ',q,by rw [ho];exact zB r,a',c',rfl,f,b,m⟩
 ·rintro v κ' ⟨a',c',rfl,f,b,m⟩;exact hk a' c' κ' f b m
theorem zzR {d lo dcap g nl:Nat} {ty:TypeId} {da:Option Addr} (src:Value) (ys:List Value) (hnl:l.length=nl) (hg:Gr t false τ κ e a cp l) (ha:a=some ⟨g,0,none⟩) (hlo:lo≤l.length) (hys:Rep t κ ys l2) (hda:lo<l.length→da=some ⟨g,lo*t.size,none⟩)
  (hfirst:∀ [Fb] (C:Cx) d m,m≤l2.length→(Builtin.firstCells t.size m src).run P (W C κ d)=.ok (ys.take (m*t.size)).toArray (W C κ d))
  (hk:∀ κ',Step (blk a cp) κ κ'→Gr t false τ κ' e a cp (cpy l lo l2)→owp P n c (i+1) Q (upd E d (.int .i64 (min l2.length (nl - lo):Nat))) κ')
  (hlen:∀ w,(Builtin.lenOf src).run P w=.ok l2.length w:=by intro _;rfl) (h:st c i n E (some d)=true:=by kernel_rfl) (ho:execOp (ev E) (zv c i)=vOf (Builtin.copy_ #[T,T2] ty #[.slice da (nl - lo) dcap,src]):=by kernel_rfl)
  (hT:zC P T=some e:=by kernel_rfl) (hs:zG P e=some t.size:=by kernel_rfl):owp P n c i Q E κ:=by
 subst hnl;refine zkb (fun v κ'=>v=.int .i64 (min l2.length (l.length - lo):Nat)∧Step (blk a cp) κ κ'∧Gr t false τ κ' e a cp (cpy l lo l2)) h (fun C f=>?_) ?_
 ·obtain ⟨κ',k,b,j⟩:=znG (P:=P) (T:=T) (T2:=T2) (ty:=ty) (dcap:=dcap) hT hs hg (fun _=>ha) hlo src ys hys hda C f hlen (fun m hm=>hfirst C f m hm);exact ⟨_,κ',f,by rw [ho];exact zB k,rfl,b,j⟩
 ·rintro v κ' ⟨rfl,b,j⟩;exact hk κ' b j
end
theorem zuR {P:Program} {α:Type} {t:Ty α} {κ:K} {e:TypeId} {τ:Tag} {pub:Bool} {b cp i:Nat} {l:List α} (hg:Gr t pub τ κ e (some ⟨b,0,none⟩) cp l) (hi:i≤l.length) (h0:0<l.length) :
  ∃ ys,Rep t κ ys (l.drop i)∧∀ [Fb] (C:Cx) (d m len cap:Nat),m≤(l.drop i).length→(Builtin.firstCells t.size m (.slice (some ⟨b,i*t.size,none⟩) len cap)).run P (W C κ d)=.ok (ys.take (m*t.size)).toArray (W C κ d):=by
 rcases hg.body with ⟨_,c⟩ | ⟨b',cur,xs,ha,hr,hH,h1,h2,h3,h4,h5,h6,h7⟩
 ·rw [c] at h0;simp at h0
 ·injection ha with ha;injection ha with hb;subst hb
  refine ⟨xs.drop (i*t.size),hr.drop i,fun C d m len cap hm=>?_⟩;refine zpo (fun j v a=>?_) (by rw [(hr.drop i).length];exact gj _ hm) C d;unfold K.cell;rw [hH];show cur[i*t.size+j]?=some v;rw [co,←h4,dm] at a;split at a
  ·rw [←ak];exact a
  ·cases a
end Go.Lf
