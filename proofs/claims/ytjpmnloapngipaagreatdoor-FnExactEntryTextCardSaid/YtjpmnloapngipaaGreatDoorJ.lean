import Derived.Test.YtjpmnloapngipaaGreatDoorI
import Derived.Test.YtjpmnloapngipaaGreatDoorC
set_option linter.all false
namespace Go.Lf
open Go
def lp (a b:Pt):Bool:=decide (a.2<b.2)||(decide (a.2=b.2)&&decide (a.1<b.1))
theorem zwQ {a b:Pt}:lp a b=true↔a.2<b.2\/(a.2=b.2/\a.1<b.1):=by unfold lp;simp
theorem zBG {a b:Pt}:lp a b=false↔b.2<a.2\/(a.2=b.2/\b.1<=a.1):=by unfold lp;simp;omega
theorem zoP {a b c:Pt} (h1:lp a b=true) (h2:lp b c=true):lp a c=true:=by
 rw [zwQ] at *;omega
theorem zqM {a b:Pt} (h:lp a b=true):a≠b:=by
 rw [zwQ] at h;intro e;subst e;omega
theorem zzb {a b:Pt} (h1:a.1=b.1) (h2:a.2=b.2):a=b:=Prod.ext h1 h2
theorem zv6 {a b:Pt} (h1:lp a b=false) (h2:a≠b):lp b a=true:=by
 rw [zBG] at h1;rw [zwQ];rcases Int.lt_trichotomy a.1 b.1 with h | h | h
 ·omega
 ·rcases h1 with h3 | h3
  ·exact .inl h3
  ·exact absurd (zzb h h3.1) h2
 ·omega
theorem zjv (a b:Pt):zc2 a b=some (lp a b):=by
 unfold zc2 lp;by_cases c:a.2<b.2<;>by_cases d:a.2=b.2<;>simp [c,d]
def zwp (a b:Pt):Int:=if a.2<b.2 then -1 else if b.2<a.2 then 1 else if a.1<b.1 then -1 else if b.1<a.1 then 1 else 0
theorem zts (a b:Pt):zai a b=some (zwp a b):=by
 unfold zai;rw [zrb,zrb];simp only [gq,zxo];congr 1;unfold zwp
 repeat' split
 all_goals first | rfl | omega
theorem zrc {a b:Pt}:decide (zwp a b<0)=lp a b:=by
 unfold zwp lp;by_cases e:a.2<b.2
 ·simp [e]
 ·by_cases g:b.2<a.2
  ·simp [e,g];omega
  ·have d:a.2=b.2:=by omega
   by_cases c:a.1<b.1
   ·simp [d,c]
   ·by_cases f:b.1<a.1
    ·simp [d,c,f]
    ·simp [d,c,f]
theorem zpj {a b:Pt}:zwp a b=0↔a=b:=by
 unfold zwp;constructor
 ·intro h;apply zzb<;>(repeat' split at h)<;>omega
 ·intro h;subst h;simp
theorem zun (a b:Pt):zji a b=some (lp a b):=by
 unfold zji;rw [zts];simp only [gq];rw [zrc]
def ptB (p:Pt):Bool:=decide (-60<=p.1/\p.1<=60)&&decide (-60<=p.2/\p.2<=60)
theorem zxl {p:Pt}:ptB p=true ↔ -60<=p.1/\p.1<=60 /\ -60<=p.2/\p.2<=60:=by
 unfold ptB;simp;omega
theorem znU (p:Pt):zdt p=some (ptB p):=by
 unfold zdt ptB;simp only [za7,gq];by_cases h : -60<=p.1/\p.1<=60
 ·simp [h]
 ·simp only [h,decide_false,Bool.false_and];rfl
theorem zlt (p:Pt):zd8 p=some (ptB p):=by
 unfold zd8 ptB;simp only [zc4,gq];by_cases h : -60<=p.1/\p.1<=60
 ·simp [h]
 ·simp only [h,decide_false,Bool.false_and];rfl
def zz0 (ts:List Plc) (i:Nat):Prop:=∀ x,ts[i]?=some x->ptB x.1=true/\0<=x.2/\x.2<=159/\∀ y,1<=i->ts[i - 1]?=some y->lp y.1 x.1=true
def FormOk (ts:List Plc):Prop:=ts.length<=500/\∀ i,i<ts.length->zz0 ts i
theorem zyg (ts:List Plc) (h:ts.length<=2000000):∃ b,zle ts=some b/\(b=true↔FormOk ts):=by
 unfold zle zkK;have key:=zkd (fun i=>(i:Int)) 0 ts.length (zz0 ts) (zbg ts) (by omega) ?_ ?_ ?_
 ·rcases key with ⟨g,l⟩ | ⟨g,hnot⟩
  ·have g:iter (zbg ts) 0=some (.inl ()):=g;rw [g];refine ⟨_,rfl,?_⟩;simp only [decide_eq_true_eq];exact ⟨fun r=>⟨by omega,fun i hi=>l i (by omega) hi⟩,fun p=>by have:=p.1;omega⟩
  ·have g:iter (zbg ts) 0=some (.inr false):=g;rw [g];exact ⟨false,rfl,fun h=>(by cases h),fun p=>absurd (fun i _ hi=>p.2 i hi) hnot⟩
 ·intro i _ hi _ c;have k:ts[i]?=some ts[i]:=cm hi;obtain ⟨o1,o2,t,s⟩:=c _ k;have q:w64 ((i:Int)+1)=((i+1:Nat):Int):=by rw [zu (by omega) (by omega)];omega
  have e:w64 ((160:Int) - 1)=159:=zu (by omega) (by omega);unfold zbg zck zaE;rw [if_pos (by simp [hi])];simp only [zq k,gq,znU,o1,e,za7];rw [if_neg (by simp),if_neg (by simp;omega)];by_cases n:(i:Int)>0
  ·have m:ts[i - 1]?=some (ts[i - 1]'(by omega)):=cm (by omega);have f:w64 ((i:Int) - 1)=((i - 1:Nat):Int):=by rw [zu (by omega) (by omega)];omega
   rw [if_pos (by simpa using n)];simp only [f,zq m,gq,zun,s _ (by omega) m,q];rfl
  ·rw [if_neg (by simpa using n)];simp [q]
 ·intro i _ hi _ c;have k:ts[i]?=some ts[i]:=cm hi;have e:w64 ((160:Int) - 1)=159:=zu (by omega) (by omega);unfold zbg zck zaE;rw [if_pos (by simp [hi])];simp only [zq k,gq,znU,e,za7];cases hp:ptB ts[i].1 with
  | false=>simp
  | true=>
   rw [if_neg (by simp)];by_cases j:0<=ts[i].2/\ts[i].2<=159
   ·rw [if_neg (by simp [j])];by_cases n:(i:Int)>0
    ·have m:ts[i - 1]?=some (ts[i - 1]'(by omega)):=cm (by omega);have f:w64 ((i:Int) - 1)=((i - 1:Nat):Int):=by rw [zu (by omega) (by omega)];omega
     rw [if_pos (by simpa using n)];simp only [f,zq m,gq,zun];cases r:lp (ts[i - 1]'(by omega)).1 ts[i].1 with
     | false=>simp
     | true=>
      refine absurd (fun x a=>?_) c;rw [k] at a;injection a with a;subst a
      exact ⟨hp,j.1,j.2,fun y _ d=>by rw [m] at d;injection d with d;subst d;exact r⟩
    ·refine absurd (fun x a=>?_) c;rw [k] at a;injection a with a;subst a
     exact ⟨hp,j.1,j.2,fun y u _=>by omega⟩
   ·rw [if_pos (by simp only [j,decide_false];rfl)];simp
 ·intro _;unfold zbg;rw [if_neg (by simp)]
theorem zxN (ts:List Plc) (h:ts.length<=2000000):∃ b,zk3 ts=some b/\(b=true↔FormOk ts):=by
 unfold zk3 zkx;by_cases q:ts.length>500
 ·rw [if_pos (by simp;omega)];exact ⟨false,rfl,fun h=>(by cases h),fun n=>by have:=n.1;omega⟩
 rw [if_neg (by simp;omega)];have key:=zkd (fun i=>(i:Int)) 0 ts.length (zz0 ts) (zbe ts) (by omega) ?_ ?_ ?_
 ·rcases key with ⟨f,k⟩ | ⟨f,hnot⟩
  ·have f:iter (zbe ts) 0=some (.inl ()):=f;rw [f];exact ⟨true,rfl,fun _=>⟨by omega,fun i hi=>k i (by omega) hi⟩,fun _=>rfl⟩
  ·have f:iter (zbe ts) 0=some (.inr false):=f;rw [f];exact ⟨false,rfl,fun h=>(by cases h),fun n=>absurd (fun i _ hi=>n.2 i hi) hnot⟩
 ·intro i _ hi _ c;have j:ts[i]?=some ts[i]:=cm hi;obtain ⟨o1,o2,s,r⟩:=c _ j;have p:w64 ((i:Int)+1)=((i+1:Nat):Int):=by rw [zu (by omega) (by omega)];omega
  unfold zbe zch;rw [if_pos (by simp [hi])];simp only [zq j,gq,zlt,o1,zc4];rw [if_neg (by simp),if_neg (by simp;omega)];by_cases m:(i:Int)>0
  ·have l:ts[i - 1]?=some (ts[i - 1]'(by omega)):=cm (by omega);have e:w64 ((i:Int) - 1)=((i - 1:Nat):Int):=by rw [zu (by omega) (by omega)];omega
   rw [if_pos (by simpa using m)];simp only [e,zq l,gq,zjv,r _ (by omega) l,p];rfl
  ·rw [if_neg (by simpa using m)];simp [p]
 ·intro i _ hi _ c;have j:ts[i]?=some ts[i]:=cm hi;unfold zbe zch;rw [if_pos (by simp [hi])];simp only [zq j,gq,zlt,zc4];cases hp:ptB ts[i].1 with
  | false=>simp
  | true=>
   rw [if_neg (by simp)];by_cases g:0<=ts[i].2/\ts[i].2<=159
   ·rw [if_neg (by simp [g])];by_cases m:(i:Int)>0
    ·have l:ts[i - 1]?=some (ts[i - 1]'(by omega)):=cm (by omega);have e:w64 ((i:Int) - 1)=((i - 1:Nat):Int):=by rw [zu (by omega) (by omega)];omega
     rw [if_pos (by simpa using m)];simp only [e,zq l,gq,zjv];cases q:lp (ts[i - 1]'(by omega)).1 ts[i].1 with
     | false=>simp
     | true=>
      refine absurd (fun x a=>?_) c;rw [j] at a;injection a with a;subst a
      exact ⟨hp,g.1,g.2,fun y _ d=>by rw [l] at d;injection d with d;subst d;exact q⟩
    ·refine absurd (fun x a=>?_) c;rw [j] at a;injection a with a;subst a
     exact ⟨hp,g.1,g.2,fun y t _=>by omega⟩
   ·rw [if_pos (by simp only [g,decide_false];rfl)];simp
 ·intro _;unfold zbe;rw [if_neg (by simp)]
def AsmOk (set:TSet) (ts:List Plc):Prop:=FormOk ts/\∀ x∈ts,0<=x.2/\x.2<=(set.2.length:Int) - 1
theorem zny (set:TSet) (h:set.2.length<=1048576) (k:Int):zbc set k=some (decide (0<=k/\k<=(set.2.length:Int) - 1))/\zhv set k=some (decide (0<=k/\k<=(set.2.length:Int) - 1)):=by
 have a:w64 ((set.2.length:Int) - 1)=(set.2.length:Int) - 1:=zu (by omega) (by omega);constructor
 ·unfold zbc zaE;simp only [a,za7,gq]
 ·unfold zhv;simp only [a,zc4,gq]
theorem zmM (set:TSet) (hT:Tame set) (ts:List Plc) (h:ts.length<=2000000):∃ b,z6 set ts=some b/\(b=true↔SetOk set/\AsmOk set ts):=by
 obtain ⟨a,l,_,e⟩:=zor set hT;obtain ⟨f,m,g⟩:=zyg ts h;unfold z6;simp only [l,gq];cases a with
 | false=>exact ⟨false,rfl,fun h=>(by cases h),fun h=>e.2 h.1⟩
 | true=>
  rw [if_pos rfl];simp only [m,gq];cases f with
  | false=>exact ⟨false,rfl,fun h=>(by cases h),fun h=>g.2 h.2.1⟩
  | true=>
   rw [if_pos rfl];unfold zeI zaN zb5;have hp:∀ b∈ts,(fun q0=>zay q0 set) b=some (!decide (0<=b.2/\b.2<=(set.2.length:Int) - 1)):=by
    intro b _;simp only [zay,(zny set hT.t b.2).1,gq]
   rcases zjM ts h (fun q0=>zay q0 set) (fun b=>!decide (0<=b.2/\b.2<=(set.2.length:Int) - 1)) hp (zb4 ts fun q0=>zay q0 set) (fun i=>rfl) with ⟨d,c⟩ | ⟨k,d,hk,_,b,hb,hq⟩
   ·rw [d];refine ⟨true,rfl,fun _=>⟨e.1 rfl,g.1 rfl,fun x n=>?_⟩,fun _=>rfl⟩;have:=c x n;simpa using this
   ·rw [d];refine ⟨false,?_,fun h=>(by cases h),fun j=>?_⟩
    ·simp
    ·have:=j.2.2 b (fd hb);simp at hq;omega
theorem zvH (set:TSet) (hT:Tame set) (ts:List Plc) (h:ts.length<=2000000):∃ b,zjB set ts=some b/\(b=true↔AsmOk set ts):=by
 obtain ⟨f,n,j⟩:=zxN ts h;unfold zjB zmS;simp only [n,gq];cases f with
 | false=>exact ⟨false,rfl,fun h=>(by cases h),fun h=>j.2 h.1⟩
 | true=>
  rw [if_neg (by simp)];have key:=zkd (fun i=>(i:Int)) 0 ts.length (fun i=>∀ x,ts[i]?=some x->0<=x.2/\x.2<=(set.2.length:Int) - 1) (zcJ set ts) (by omega) ?_ ?_ ?_
  ·rcases key with ⟨e,g⟩ | ⟨e,hnot⟩
   ·have e:iter (zcJ set ts) 0=some (.inl ()):=e;rw [e];refine ⟨true,rfl,fun _=>⟨j.1 rfl,fun x c=>?_⟩,fun _=>rfl⟩;obtain ⟨i,hi⟩:=cv c;exact g i (by omega) (zy hi) x hi
   ·have e:iter (zcJ set ts) 0=some (.inr false):=e;rw [e];exact ⟨false,rfl,fun h=>(by cases h),fun l=>absurd (fun i _ hi x c=>l.2 x (fd c)) hnot⟩
  ·intro i _ hi _ d;have c:ts[i]?=some ts[i]:=cm hi;have k:w64 ((i:Int)+1)=((i+1:Nat):Int):=by rw [zu (by omega) (by omega)];omega
   unfold zcJ;rw [if_pos (by simp [hi])];simp only [zq c,gq,(zny set hT.t _).2,k];rw [if_neg (by simp only [d _ c];simp)]
  ·intro i _ hi _ d;have c:ts[i]?=some ts[i]:=cm hi;unfold zcJ;rw [if_pos (by simp [hi])];simp only [zq c,gq,(zny set hT.t _).2];have:¬(0<=ts[i].2/\ts[i].2<=(set.2.length:Int) - 1):=fun m=>d fun x a=>by rw [c] at a;injection a with a;subst a;exact m
   rw [if_pos (by simp only [this,decide_false];rfl)]
  ·intro _;unfold zcJ;rw [if_neg (by simp)]
def Srt (ts:List Plc):Prop:=∀ (i j:Nat) (x y:Plc),i<j->ts[i]?=some x->ts[j]?=some y->lp x.1 y.1=true
theorem FormOk.srt {ts:List Plc} (h:FormOk ts):Srt ts:=by
 intro i j
 induction j with
 | zero=>intro x y c;omega
 | succ j ih=>
  intro x y c b e;have g:=zy e;have d:ts[j]?=some (ts[j]'(by omega)):=cm (by omega);have f:=(h.2 (j+1) g y e).2.2.2 _ (by omega) d;by_cases a:i=j
  ·subst a;rw [d] at b;injection b with b;subst b;exact f
  ·exact zoP (ih x _ (by omega) b d) f
def AtP (ts:List Plc) (p:Pt) (k:Int):Prop:=(0<=k/\∃ x,ts[k.toNat]?=some x/\x.1=p)\/(k = -1/\∀ x∈ts,x.1≠p)
theorem AtP.uniq {ts:List Plc} (hs:Srt ts) {p:Pt} {k k':Int} (h:AtP ts p k) (h':AtP ts p k'):k=k':=by
 rcases h with ⟨f,x,c,e⟩ | ⟨f,h1⟩<;>rcases h' with ⟨d,y,a,b⟩ | ⟨d,h3⟩
 ·rcases gj k.toNat k'.toNat with h | h | h
  ·exact absurd (e.trans b.symm) (zqM (hs _ _ _ _ h c a))
  ·omega
  ·exact absurd (b.trans e.symm) (zqM (hs _ _ _ _ h a c))
 ·exact absurd e (h3 x (fd c))
 ·exact absurd b (h1 y (fd a))
 ·omega
theorem zw7 {ts:List Plc} (hs:Srt ts) (hl:ts.length<=1048576) {p:Pt} {F:Int×Int->Option ((Int×Int) ⊕ Int)}
  (hF:∀ (lo hi:Nat) (x:Plc),lo<hi->hi<=ts.length->ts[(lo+hi) / 2]?=some x->F ((lo:Int),(hi:Int))=some (.inl (if lp x.1 p then ((((lo+hi) / 2+1:Nat):Int),(hi:Int)) else ((lo:Int),(((lo+hi) / 2:Nat):Int)))))
  (hstop:∀ (lo:Int),F (lo,lo)=some (.inr lo)) :
  ∃ k:Nat,iter F (0,(ts.length:Int))=some (k:Int)/\k<=ts.length/\(∀ (i:Nat) x,i<k->ts[i]?=some x->lp x.1 p=true)/\∀ (i:Nat) x,k<=i->ts[i]?=some x->lp x.1 p=false:=by
 have key:=zA (F:=F) (fun s=>∃ lo hi:Nat,s=((lo:Int),(hi:Int))/\lo<=hi/\hi<=ts.length/\(∀ (i:Nat) x,i<lo->ts[i]?=some x->lp x.1 p=true)/\∀ (i:Nat) x,hi<=i->ts[i]?=some x->lp x.1 p=false)
  (fun s=>(s.2 - s.1).toNat) (fun z=>∃ k:Nat,z=(k:Int)/\k<=ts.length/\(∀ (i:Nat) x,i<k->ts[i]?=some x->lp x.1 p=true)/\∀ (i:Nat) x,k<=i->ts[i]?=some x->lp x.1 p=false) ?_ (0,(ts.length:Int))
  ⟨0,ts.length,rfl,by omega,ga _,fun i x hi=>by omega,fun i x hi b=>by have:=zy b;omega⟩
 ·obtain ⟨z,l,k,rfl,h⟩:=key;exact ⟨k,l,h⟩
 ·rintro s ⟨lo,hi,rfl,m,e,g,f⟩;by_cases c:lo<hi
  ·left;have b:ts[(lo+hi) / 2]?=some (ts[(lo+hi) / 2]'(by omega)):=cm (by omega);refine ⟨_,hF lo hi _ c e b,?_⟩;cases hc:lp (ts[(lo+hi) / 2]'(by omega)).1 p with
   | true=>
    rw [if_pos rfl];refine ⟨⟨(lo+hi) / 2+1,hi,rfl,by omega,e,fun i x d a=>?_,f⟩,by simp only [];omega⟩;rcases gh i ((lo+hi) / 2) with h | h
    ·exact zoP (hs _ _ _ _ h a b) hc
    ·have:i=(lo+hi) / 2:=by omega
     subst this;rw [b] at a;injection a with a;subst a;exact hc
   | false=>
    rw [if_neg (by simp)];refine ⟨⟨lo,(lo+hi) / 2,rfl,by omega,by omega,g,fun i x d a=>?_⟩,by simp only [];omega⟩;rcases gh ((lo+hi) / 2) i with h | h
    ·have j:=hs _ _ _ _ h b a;cases hc2:lp x.1 p with
     | false=>rfl
     | true=>rw [zoP j hc2] at hc;cases hc
    ·have:i=(lo+hi) / 2:=by omega
     subst this;rw [b] at a;injection a with a;subst a;exact hc
  ·right;have:lo=hi:=by omega
   subst this;exact ⟨_,hstop _,lo,rfl,e,g,f⟩
theorem zrW {ts:List Plc} (hs:Srt ts) {p:Pt} {k:Nat} (h1:∀ (i:Nat) x,i<k->ts[i]?=some x->lp x.1 p=true) (h2:∀ (i:Nat) x,k<=i->ts[i]?=some x->lp x.1 p=false)
  (h:∀ x,ts[k]?=some x->x.1≠p):∀ x∈ts,x.1≠p:=by
 intro x c e;obtain ⟨i,hi⟩:=cv c;rcases gj i k with hik | hik | hik
 ·exact zqM (h1 i x hik hi) e
 ·subst hik;exact h x hi e
 ·have b:ts[k]?=some (ts[k]'(by have:=zy hi;omega)):=cm (by have:=zy hi;omega);have a:=hs _ _ _ _ hik b hi;rw [e] at a;rw [h2 k _ (ga _) b] at a;cases a
theorem zs0 {ts:List Plc} (hs:Srt ts) (hl:ts.length<=1048576) (p:Pt):∃ k,zaT ts p=some k/\AtP ts p k:=by
 have key:=zw7 hs hl (p:=p) (F:=zey ts p) ?_ ?_
 ·obtain ⟨k,m,n,h,g⟩:=key;unfold zaT zjC zgP;simp only [m,gq];by_cases b:k<ts.length
  ·have c:ts[k]?=some ts[k]:=cm b;rw [if_pos (by simp [b])];simp only [zq c,gq];by_cases d:ts[k].1=p
   ·rw [if_pos (by simp [d])];exact ⟨_,rfl,.inl ⟨by omega,_,by simpa using c,d⟩⟩
   ·rw [if_neg (by simp;intro e f;exact d (zzb e f))];exact ⟨_,rfl,.inr ⟨rfl,zrW hs h g fun x a=>by rw [c] at a;injection a with a;subst a;exact d⟩⟩
  ·rw [if_neg (by simp;omega)];refine ⟨_,rfl,.inr ⟨rfl,zrW hs h g fun x a=>by have:=zy a;omega⟩⟩
 ·intro lo hi x b l c;unfold zey;have e:w64 ((lo:Int)+(hi:Int))=((lo+hi:Nat):Int):=by rw [zu (by omega) (by omega)];omega
  have f:Int.tdiv ((lo+hi:Nat):Int) 2=(((lo+hi) / 2:Nat):Int):=rfl;have i:w64 (((lo+hi) / 2:Nat):Int)=(((lo+hi) / 2:Nat):Int):=zu (by omega) (by omega);have j:w64 ((((lo+hi) / 2:Nat):Int)+1)=(((lo+hi) / 2+1:Nat):Int):=by rw [zu (by omega) (by omega)];omega
  rw [if_pos (by simp [b])];simp only [e,f,i,j,zq c,gq,zjv];cases lp x.1 p<;>rfl
 ·intro lo;unfold zey;rw [if_neg (by simp)]
theorem zu5 {ts:List Plc} (hs:Srt ts) (hl:ts.length<=1048576) (p:Pt):∃ k,zdg ts p=some k/\AtP ts p k:=by
 have g:∀ x:Plc,z1 x p=some (zwp x.1 p):=fun x=>by unfold z1;rw [zts];rfl
 have key:=zw7 hs hl (p:=p) (F:=zK ts p fun q0 n=>z1 q0 n) ?_ ?_
 ·obtain ⟨k,r,s,f,e⟩:=key;unfold zdg z7 zas;simp only [r,gq];by_cases b:k<ts.length
  ·have c:ts[k]?=some ts[k]:=cm b;rw [if_pos (by simp [b])];simp only [zq c,gq,g];by_cases d:ts[k].1=p
   ·rw [if_pos (by simp [zpj,d])];exact ⟨_,rfl,.inl ⟨by omega,_,by simpa using c,d⟩⟩
   ·rw [if_neg (by simp [zpj,d])];exact ⟨_,rfl,.inr ⟨rfl,zrW hs f e fun x a=>by rw [c] at a;injection a with a;subst a;exact d⟩⟩
  ·rw [if_neg (by simp;omega)];refine ⟨_,rfl,.inr ⟨rfl,zrW hs f e fun x a=>by have:=zy a;omega⟩⟩
 ·intro lo hi x b m c;unfold zK;have i:w64 ((lo:Int)+(hi:Int))=((lo+hi:Nat):Int):=by rw [zu (by omega) (by omega)];omega
  have h:IntKind.wrap .u64 ((lo+hi:Nat):Int)=((lo+hi:Nat):Int):=by
   show ((lo+hi:Nat):Int) % 18446744073709551616=((lo+hi:Nat):Int);omega
  have q:Int.fdiv ((lo+hi:Nat):Int) (2 ^ 1)=(((lo+hi) / 2:Nat):Int):=by
   rw [Int.fdiv_eq_ediv_of_nonneg _ (by omega)];omega
  have j:w64 (((lo+hi) / 2:Nat):Int)=(((lo+hi) / 2:Nat):Int):=zu (by omega) (by omega);have l:w64 ((((lo+hi) / 2:Nat):Int)+1)=(((lo+hi) / 2+1:Nat):Int):=by rw [zu (by omega) (by omega)];omega
  rw [if_pos (by simp [b])];simp only [i,h,q,j,l,zq c,gq,g,zrc];cases lp x.1 p<;>rfl
 ·intro lo;unfold zK;rw [if_neg (by simp)]
def zpH (p:Pt) (dir:Int):Pt:=if dir=0 then (p.1,p.2+1) else (p.1+1,p.2)
theorem zAa {p:Pt} (hp:ptB p=true) {dir:Int} (hd:dir=0\/dir=1):zaa p dir=some (zpH p dir)/\zQ p dir=some (zpH p dir):=by
 obtain ⟨c,d,f,e⟩:=zxl.1 hp;have w0:∀ n:Int,-60<=n->n<=60->w64 (n+1)=n+1/\w64 (n+0)=n:=fun n a b=>⟨zu (by omega) (by omega),by rw [Int.add_zero];exact zu (by omega) (by omega)⟩;rcases hd with rfl | rfl
 ·refine ⟨?_,?_⟩
  ·unfold zaa zab zpH;simp [(w0 p.2 f e).1]
  ·unfold zQ zbh zpH idx;simp [(w0 p.2 f e).1,zu (n:=p.1) (by omega) (by omega)]
 ·refine ⟨?_,?_⟩
  ·unfold zaa zab zpH;simp [(w0 p.1 c d).1]
  ·unfold zQ zbh zpH idx;simp [(w0 p.1 c d).1,zu (n:=p.2) (by omega) (by omega)]
theorem zAP {set:TSet} (h:SetOk set) {a b dir:Int} (ha0:0<=a) (ha:a<=(set.2.length:Int) - 1) (hb0:0<=b) (hb:b<=(set.2.length:Int) - 1) (hd:dir=0\/dir=1) :
  ∃ v,zdH set a dir b=some v/\zaw set a dir b=some v/\0<=v/\v<=4:=by
 obtain ⟨x,t,f⟩:=zR (l:=set.2) ha0 (by omega);obtain ⟨y,B,d⟩:=zR (l:=set.2) hb0 (by omega);obtain ⟨_,G,_,xs⟩:=h.tile _ (zy f) x f;obtain ⟨_,L,_,M⟩:=h.tile _ (zy d) y d;obtain ⟨g,s,q⟩:=zR (l:=x.2) (i:=dir) (by omega) (by omega);obtain ⟨z,m,w⟩:=zR (l:=y.2) (i:=dir+2) (by omega) (by omega);have C:=xs g (fd q);have c:zfH dir=some (dir+2)/\zhz dir=some (dir+2):=by
  rcases hd with rfl | rfl
  ·exact ⟨rfl,rfl⟩
  ·exact ⟨rfl,rfl⟩
 have n:∃ v,zar set g=some v/\zaz set a dir=some v/\0<=v/\v<=4:=by
  unfold zar zaz;simp only [t,s,gq];have J:=h.glues;by_cases r:g=0
  ·subst r;exact ⟨0,rfl,rfl,by omega,by omega⟩
  ·rw [if_neg (by simpa using r),if_pos (by simp;omega)];have A:w64 (g - 1)=g - 1:=zu (by omega) (by omega);obtain ⟨u,D,e⟩:=zR (l:=set.1) (i:=g - 1) (by omega) (by omega);obtain ⟨_,I,H,_⟩:=h.glue _ (zy e) u e;simp only [A,D,gq];exact ⟨_,rfl,rfl,by omega,by omega⟩
 obtain ⟨v,k,p,F,E⟩:=n;unfold zdH zaw;simp only [t,B,s,c.1,c.2,m,k,p,gq];by_cases j:g=z
 ·rw [if_neg (by simp [j]),if_pos (by simp [j])];exact ⟨v,rfl,rfl,F,E⟩
 ·rw [if_pos (by simp [j]),if_neg (by simp [j])];exact ⟨0,rfl,rfl,by omega,by omega⟩
section
variable {set:TSet} {ts:List Plc}
theorem zAZ (hS:SetOk set) (hA:AsmOk set ts) {i:Nat} {x:Plc} (hx:ts[i]?=some x) {dir:Int} (hd:dir=0\/dir=1) :
  ∃ nb:List Bd,nb.length<=1/\(∀ b∈nb,WB ts.length b)/\
   (∀ (l a:List Bd),a.length<=1048576->zbs set ts (l,(i:Int)) (a,dir)=some (.inl (a++nb,w64 (dir - 1))))/\
   (∀ (l a:List Bd),a.length<=1048576->∀ j,idx [1,0] j=some dir->0<=j->j<2->zN (fun s q0 M=>zT set ts s (q0,M)) ts ((i:Int),l) x (j,a)=some (.inl (w64 (j+1),a++nb))):=by
 have d:=hA.1.srt;have S:ts.length<=500:=hA.1.1;have hi:=zy hx;obtain ⟨E,P,x1,_⟩:=hA.1.2 i hi x hx;obtain ⟨p,h⟩:=zAa E hd;obtain ⟨k,I,m⟩:=zs0 d (by omega) (zpH x.1 dir);obtain ⟨R,q,t⟩:=zu5 d (by omega) (zpH x.1 dir);obtain rfl:=m.uniq d t;have u:decide (dir≥0)=true:=by simp;omega
 have n:=hA.2 x (fd hx);rcases m with ⟨z,y,g,w⟩ | ⟨z,_⟩
 ·have r:=hA.2 y (fd g);obtain ⟨v,N,B,O,Q⟩:=zAP hS n.1 n.2 r.1 r.2 hd;have D:(i:Int)≠k:=fun e=>by
   subst e;simp only [ba] at g;rw [hx] at g;injection g with g;subst g
   rcases hd with e | e
   ·have C:=congrArg Prod.snd w;rw [e] at C;have J:(zpH x.1 0).2=x.1.2+1:=rfl;omega
   ·have C:=congrArg Prod.fst w;rw [e] at C;have J:(zpH x.1 1).1=x.1.1+1:=rfl;omega
  have L:=zy g;refine ⟨if v>0 then [((i:Int),k,v)] else [],by split<;>simp,?_,?_,?_⟩
  ·intro b A;split at A
   ·rw [fg] at A;subst A;exact ⟨by simp only [];omega,by simp only [];omega,z,by simp only [];omega,D,O,by simp only [];omega⟩
   ·cases A
  ·intro l a f;unfold zbs zgM zcP;rw [if_pos u];simp only [zq hx,p,I,gq];rw [if_neg (by simp;omega)];simp only [zgA z g,N,gq];by_cases c:v>0
   ·rw [if_pos (by simpa using c),if_pos c,zaf (by simp;omega) (by simp;omega)];rfl
   ·rw [if_neg (by simpa using c),if_neg c,bf]
  ·intro l a f j G F H;unfold zN zag zT;rw [if_pos (by simp;omega)];simp only [G,h,q,gq];rw [if_pos (by simp;omega)];simp only [zq hx,zgA z g,B,gq];by_cases c:v>0
   ·rw [if_pos (by simpa using c),if_pos c,zaf (by simp;omega) (by simp;omega)];rfl
   ·rw [if_neg (by simpa using c),if_neg c,bf];rfl
 ·refine ⟨[],by simp,by simp,?_,?_⟩
  ·intro l a f;unfold zbs zgM zcP;rw [if_pos u];simp only [zq hx,p,I,gq];rw [if_pos (by simp;omega),bf]
  ·intro l a f j G F H;unfold zN zag;rw [if_pos (by simp;omega)];simp only [G,h,q,gq];rw [if_neg (by simp;omega),bf]
theorem zBC (hS:SetOk set) (hA:AsmOk set ts) {i:Nat} {x:Plc} (hx:ts[i]?=some x) :
  ∃ nb:List Bd,nb.length<=2/\(∀ b∈nb,WB ts.length b)/\
   (∀ (a:List Bd),a.length<=90000->iter (zbs set ts (a,(i:Int))) (a,1)=some (a++nb))/\
   (∀ (a:List Bd),a.length<=90000->iter (zN (fun s q0 k=>zT set ts s (q0,k)) ts ((i:Int),a) x) (0,a)=some (a++nb)):=by
 obtain ⟨e,r,h,n,d1⟩:=zAZ hS hA hx (dir:=1) (.inr rfl);obtain ⟨p,q,j,m,g⟩:=zAZ hS hA hx (dir:=0) (.inl rfl);refine ⟨e++p,by simp;omega,fun b l=>(ep.1 l).elim (h b) (j b),fun a c=>?_,fun a c=>?_⟩
 ·rw [zv (n a a (by omega))];have d:w64 ((1:Int) - 1)=0:=by decide
  rw [d,zv (m a (a++e) (by simp;omega))];have f:w64 ((0:Int) - 1) = -1:=by decide
  rw [f,be];apply zC;unfold zbs;rw [if_neg (by simp)]
 ·rw [zv (d1 a a (by omega) 0 rfl (by omega) (by omega))];have d:w64 ((0:Int)+1)=1:=by decide
  rw [d,zv (g a (a++e) (by simp;omega) 1 rfl (by omega) (by omega))];have f:w64 ((1:Int)+1)=2:=by decide
  rw [f,be];apply zC;unfold zN;rw [if_neg (by simp)]
theorem ztL (hS:SetOk set) (hA:AsmOk set ts):∃ bs:List Bd,zaJ set ts=some bs/\zd7 set ts=some bs/\WBs ts.length bs/\bs.length<=1000:=by
 have w:ts.length<=500:=hA.1.1;have key:∀ (d i:Nat) (a:List Bd),i+d=ts.length->a.length<=2*i->(∀ b∈a,WB ts.length b)->
   ∃ bs:List Bd,iter (zbt set ts) (a,(i:Int))=some bs/\iter (zO (fun s q0 g=>zT set ts s (q0,g)) ts) ((i:Int),a)=some bs/\(∀ b∈bs,WB ts.length b)/\bs.length<=2*ts.length:=by
  intro d
  induction d with
  | zero=>
   intro i a hi c k;have:i=ts.length:=by omega
   subst this;refine ⟨a,zC ?_,zC ?_,k,c⟩
   ·unfold zbt;rw [if_neg (by simp)]
   ·unfold zO;rw [if_neg (by simp)]
  | succ d ih=>
   intro i a hi c k;have e:i<ts.length:=by omega
   have l:ts[i]?=some ts[i]:=cm e;obtain ⟨nb,x,u,n,p⟩:=zBC hS hA l;have f:w64 ((i:Int)+1)=((i+1:Nat):Int):=by rw [zu (by omega) (by omega)];omega
   have r:zbt set ts (a,(i:Int))=some (.inl (a++nb,((i+1:Nat):Int))):=by
    unfold zbt zjy;rw [if_pos (by simp [e])];simp only [n a (by omega),gq,f]
   have q:zO (fun s q0 g=>zT set ts s (q0,g)) ts ((i:Int),a)=some (.inl (((i+1:Nat):Int),a++nb)):=by
    unfold zO zbW;rw [if_pos (by simp [e])];simp only [zq l,p a (by omega),gq,f]
   rw [zv r,zv q];exact ih (i+1) (a++nb) (by omega) (by simp;omega) fun b m=>(ep.1 m).elim (k b) (u b)
 obtain ⟨bs,j,h,t,v⟩:=key ts.length 0 [] (by omega) (by simp) (by simp);refine ⟨bs,?_,?_,zo8.2 t,by omega⟩
 ·unfold zaJ zeU zc8 zbX;have h:iter (zO (fun s q0 g=>zT set ts s (q0,g)) ts) (0,[])=some bs:=h;simp only [gq,h]
 ·unfold zd7 zjz;have j:iter (zbt set ts) ([],0)=some bs:=j;simp only [gq,j]
theorem zoq (hT:Tame set) (h:ts.length<=1048576) (t:Int):∃ b,zat (set,ts,t)=some b/\ze1 (set,ts,t)=some b/\(b=true->SetOk set/\AsmOk set ts):=by
 obtain ⟨a,D,q,p⟩:=zor set hT;obtain ⟨va,s,n⟩:=zmM set hT ts (by omega);obtain ⟨k,A,m⟩:=zvH set hT ts (by omega);unfold zat ze1 zfB zne;simp only [q,s,A,gq];by_cases g:(ts.length:Int)=0
 ·rw [if_pos (by simpa using g)];refine ⟨false,rfl,?_,fun h=>by cases h⟩;cases a<;>cases k<;>simp [g]
 rw [if_neg (by simpa using g)];cases hva:va with
 | false=>
  subst hva;refine ⟨false,rfl,?_,fun h=>by cases h⟩;cases l:a with
  | false=>rfl
  | true=>
   cases f:k with
   | false=>rfl
   | true=>
    have:=n.2 ⟨p.1 l,m.1 f⟩;cases this
 | true=>
  obtain ⟨hS,hA⟩:=n.1 hva;have l:a=true:=p.2 hS;have f:k=true:=m.2 hA;subst l;subst f;have c:zfd t=some (decide (1<=t/\t<=16))/\zee t=some (decide (1<=t/\t<=16)):=by
   constructor
   ·unfold zfd;rw [za7];rfl
   ·unfold zee;rw [zc4];rfl
  simp only [c.1,c.2,gq];by_cases j:1<=t/\t<=16
  ·obtain ⟨bs,v,r,C,E⟩:=ztL hS hA;obtain ⟨x,y,z,w,B,u,d⟩:=zxK (p0:=set) (p1:=ts) (by omega) (by have:=hA.1.1;omega) (by omega:bs.length<=100000) C v r t;simp only [j,decide_true,B,u,gq];have i:ts≠[]:=fun e=>g (by rw [e];rfl);cases y with
   | true=>
    simp only [au,ap,if_false] at d ⊢;injection d with d e4
    subst d;subst e4;cases x with
    | true=>exact ⟨true,by simp,by simp [i],fun _=>⟨hS,hA⟩⟩
    | false=>exact ⟨false,by simp,by simp,fun h=>by cases h⟩
   | false=>
    simp only [Bool.not_false,if_true] at d ⊢;injection d with d e4
    subst d;subst e4;exact ⟨false,by simp,by simp,fun h=>by cases h⟩
  ·refine ⟨false,?_,?_,fun h=>by cases h⟩
   ·simp [j]
   ·simp [j,g]
end
end Go.Lf
namespace Go.Lf
open Go Go.Proofs Go.Sort
def PW (ts:List Plc):Prop:=ts.Pairwise fun a b=>lp a.1 b.1=true
theorem PW.srt {ts:List Plc} (h:PW ts):Srt ts:=by
 intro i j x y c b a;have hi:=zy b;have d:=zy a;have:=fm.1 h i j hi d c;rw [cm hi] at b;rw [cm d] at a;injection b with b
 injection a with a
 rw [←b,←a];exact this
def ins (x:Plc):List Plc->List Plc
 | []=>[x]
 | y::l=>if lp x.1 y.1=true then x::y::l else y::ins x l
theorem zqX (x:Plc):∀ l,(ins x l).Perm (l++[x])
 | []=>.refl _
 | y::l=>by
  unfold ins;split
  ·exact (List.perm_append_singleton x (y::l)).symm
  ·exact (zqX x l).cons y
theorem zxu {x z:Plc} {l:List Plc} (h:z∈ins x l):z=x\/z∈l:=by
 have:=(zqX x l).mem_iff.1 h;rcases ep.1 this with h | h
 ·exact .inr h
 ·exact .inl (fg.1 h)
theorem zzA {x:Plc}:∀ {l:List Plc},PW l->(∀ y∈l,y.1≠x.1)->PW (ins x l)
 | [],_,_=>List.pairwise_singleton _ _
 | y::l,h,hne=>by
  have c:=(fj.1 h).1;have d:=(fj.1 h).2;unfold ins;split
  ·rename_i hl;exact fj.2 ⟨fun z a=>by
    rcases eu.1 a with rfl | a
    ·exact hl
    ·exact zoP hl (c z a),h⟩
  ·rename_i hl;have b:lp y.1 x.1=true:=zv6 (by simpa using hl) (fun e=>hne y (by simp) e.symm);exact fj.2 ⟨fun z a=>by
    rcases zxu a with rfl | a
    ·exact b
    ·exact c z a,zzA d fun z a=>hne z (by simp [a])⟩
theorem zvB (ts:List Plc) (hl:ts.length<=100000) (p:Pt) (k:Int):zkh ts p k=some (ins (p,k) ts):=by
 have rest:∀ (d i:Nat) (out:List Plc),i+d=ts.length->out.length<=i+1->iter (zac ts p k) (true,(i:Int),out)=some (true,out++ts.drop i):=by
  intro d
  induction d with
  | zero=>
   intro i out hi j;have:i=ts.length:=by omega
   subst this;apply zC;unfold zac;rw [if_neg (by simp),List.drop_length,bf]
  | succ d ih=>
   intro i out hi j;have c:i<ts.length:=by omega
   have h:ts[i]?=some ts[i]:=cm c;have g:w64 ((i:Int)+1)=((i+1:Nat):Int):=by rw [zu (by omega) (by omega)];omega
   have a:zac ts p k (true,(i:Int),out)=some (.inl (true,((i+1:Nat):Int),out++[ts[i]])):=by
    unfold zac zew zex;rw [if_pos (by simp [c]),if_neg (by simp),if_neg (by simp)];simp only [zq h,gq,zaf (bytes:=24) (l:=out) (l2:=[ts[i]]) (by simp;omega) (by simp;omega),g]
   rw [zv a,ih (i+1) _ (by omega) (by simp;omega),bh c];simp
 have f:∀ (d i:Nat) (out:List Plc),i+d=ts.length->out.length<=i->∃ b o,iter (zac ts p k) (false,(i:Int),out)=some (b,o)/\zge p k b o=some (out++ins (p,k) (ts.drop i)):=by
  intro d
  induction d with
  | zero=>
   intro i out hi j;have:i=ts.length:=by omega
   subst this;refine ⟨false,out,zC ?_,?_⟩
   ·unfold zac;rw [if_neg (by simp)]
   ·unfold zge zgd;rw [if_pos (by simp),List.drop_length,zaf (by simp;omega) (by simp;omega)];rfl
  | succ d ih=>
   intro i out hi j;have c:i<ts.length:=by omega
   have h:ts[i]?=some ts[i]:=cm c;have g:w64 ((i:Int)+1)=((i+1:Nat):Int):=by rw [zu (by omega) (by omega)];omega
   have hd:=bh c;cases hc:lp p ts[i].1 with
   | true=>
    have a:zac ts p k (false,(i:Int),out)=some (.inl (true,((i+1:Nat):Int),out++[(p,k)]++[ts[i]])):=by
     unfold zac zew zex;rw [if_pos (by simp [c]),if_pos (by simp)];simp only [zq h,gq,zjv,hc,if_true,zaf (bytes:=24) (l:=out) (l2:=[(p,k)]) (by simp;omega) (by simp;omega),
      zaf (bytes:=24) (l:=out++[(p,k)]) (l2:=[ts[i]]) (by simp;omega) (by simp;omega),g]
    refine ⟨true,_,(zv a).trans (rest d (i+1) _ (by omega) (by simp;omega)),?_⟩;unfold zge zgd;rw [if_neg (by simp),hd,ins,if_pos hc];simp
   | false=>
    have a:zac ts p k (false,(i:Int),out)=some (.inl (false,((i+1:Nat):Int),out++[ts[i]])):=by
     unfold zac zew zex;rw [if_pos (by simp [c]),if_pos (by simp)];simp only [zq h,gq,zjv,hc,zaf (bytes:=24) (l:=out) (l2:=[ts[i]]) (by simp;omega) (by simp;omega),g];rfl
    obtain ⟨b,o,e,m⟩:=ih (i+1) (out++[ts[i]]) (by omega) (by simp;omega);refine ⟨b,o,(zv a).trans e,?_⟩;rw [m,hd,ins,if_neg (by simp [hc])];simp
 obtain ⟨b,o,e,m⟩:=f ts.length 0 [] (by omega) (by simp);have e:iter (zac ts p k) (false,0,[])=some (b,o):=e;unfold zkh;simp only [e,gq,m];simp
theorem zw9 {pl ts:List Plc} (hl:pl.length<=1048576) (hp:ts.Perm pl) (hs:PW ts):zaF pl=some ts:=by
 unfold zaF;rw [if_pos (by omega)];congr 1;have t:(fun x y:Plc=>decide (zbd x y<0))=ltOf zbd:=rfl;have h:=pdq_sorts (ltOf zbd) zz7 pl.toArray 0 pl.length (Lib.bitLen pl.length) true true (Nat.zero_le _) (by simp) (Or.inl rfl);obtain ⟨r,B⟩:∃ r:Array Plc,r=pdq (ltOf zbd) pl.toArray 0 pl.length (Lib.bitLen pl.length) true true:=⟨_,rfl⟩;show (pdq (ltOf zbd) pl.toArray 0 pl.length (Lib.bitLen pl.length) true true).toList=ts;rw [←B] at h ⊢;obtain ⟨⟨m,_,q⟩,v⟩:=h;have m:r.size=pl.length:=by simpa using m
 have c:r.toList.Perm pl:=by
  have C:(r.extract 0 pl.length).toList=r.toList:=by rw [←m];simp
  have A:(pl.toArray.extract 0 pl.length).toList=pl:=by simp
  rw [C,A] at q;exact q
 have g:∀ a b:Plc,ltOf zbd a b=lp a.1 b.1:=by
  intro a b;have:=zrc (a:=a.1) (b:=b.1);exact this
 refine List.Perm.eq_of_pairwise (le:=fun a b=>lp b.1 a.1=false) ?_ ?_ ?_ (c.trans hp.symm)
 ·intro a b D u w s;have d:a.1=b.1:=Classical.byContradiction fun e=>by
   have:=zv6 w (fun z=>e z.symm);rw [this] at s;cases s
  have p:a∈ts:=hp.mem_iff.2 (c.mem_iff.1 D);obtain ⟨i,hi⟩:=cv p;obtain ⟨j,f⟩:=cv u;have hs':=hs.srt;rcases gj i j with h | h | h
  ·exact absurd d (zqM (hs' i j a b h hi f))
  ·subst h;rw [hi] at f;injection f
  ·exact absurd d.symm (zqM (hs' j i b a h f hi))
 ·rw [fm];intro i j hi f k;have l:i<r.size:=by simpa using hi
  have n:j<r.size:=by simpa using f
  have:=v i j (by omega) k (by omega);rw [g,getElem!_pos r i l,getElem!_pos r j n] at this;simpa using this
 ·refine hs.imp fun {a b} d=>?_;cases h:lp b.1 a.1 with
  | false=>rfl
  | true=>exact absurd rfl (zqM (zoP d h))
end Go.Lf
namespace Go.Lf
open Go
def AtV (l:List Plc) (p:Pt) (v:Int):Prop:=(∃ k,v=k/\(p,k)∈l)\/(v = -1/\∀ x∈l,x.1≠p)
theorem zpk (T:List Plc) (p:Pt):AtV T p (cat T p):=by
 unfold cat zhi zdj;cases h:T.find? (fun q=>decide (q.1=p)) with
 | none=>
  have a:=List.find?_eq_none.1 h;rw [if_neg (by
   rw [bd];rintro ⟨x,b,hd⟩;exact a x b hd)]
  exact .inr ⟨rfl,fun x b e=>a x b (by simpa using e)⟩
 | some x=>
  have a:=fc h;have c:x.1=p:=by simpa using List.find?_some h
  rw [if_pos (bd.2 ⟨x,a,by simpa using c⟩)];refine .inl ⟨x.2,rfl,?_⟩;rw [←c];exact a
theorem AtV.perm {l l':List Plc} (h:l.Perm l') {p:Pt} {v:Int} (hv:AtV l p v):AtV l' p v:=by
 rcases hv with ⟨k,e,a⟩ | ⟨e,hn⟩
 ·exact .inl ⟨k,e,h.mem_iff.1 a⟩
 ·exact .inr ⟨e,fun x b=>hn x (h.mem_iff.2 b)⟩
theorem zBp {l:List Plc} (h:PW l) {p:Pt} {a b:Int} (ha:(p,a)∈l) (hb:(p,b)∈l):a=b:=by
 obtain ⟨i,hi⟩:=cv ha;obtain ⟨j,c⟩:=cv hb;have hs:=h.srt;rcases gj i j with h1 | h1 | h1
 ·exact absurd (rfl:(p,a).1=(p,b).1) (zqM (hs i j (p,a) (p,b) h1 hi c))
 ·subst h1;rw [hi] at c;injection c with c;injection c
 ·exact absurd (rfl:(p,b).1=(p,a).1) (zqM (hs j i (p,b) (p,a) h1 c hi))
theorem AtV.uniq {l:List Plc} (h:PW l) {p:Pt} {v v':Int} (h1:AtV l p v) (h2:AtV l p v'):v=v':=by
 rcases h1 with ⟨k,e,c⟩ | ⟨e,hn⟩<;>rcases h2 with ⟨d,b,a⟩ | ⟨b,hn'⟩
 ·rw [e,b];exact zBp h c a
 ·exact absurd rfl (hn' _ c)
 ·exact absurd rfl (hn _ a)
 ·rw [e,b]
theorem zyS {ts:List Plc} (h:PW ts) (hl:ts.length<=1000) (hn:∀ x∈ts,0<=x.2) (p:Pt) :
  ∃ k,zaT ts p=some k/\∃ v,zc1 ts p=some v/\AtV ts p v/\(k<0↔v<0):=by
 obtain ⟨k,a,c⟩:=zs0 h.srt (by omega) p;refine ⟨k,a,?_⟩;unfold zc1;rw [a];simp only [gq];rcases c with ⟨d,x,b,rfl⟩ | ⟨rfl,hall⟩
 ·have hi:idx ts k=some x:=by unfold idx;rw [if_pos d];exact b
  have hm:=fd b;have:=hn x hm;rw [if_neg (by simp;omega),hi];exact ⟨x.2,rfl,.inl ⟨x.2,rfl,hm⟩,by omega⟩
 ·exact ⟨-1,by simp,.inr ⟨rfl,hall⟩,by omega⟩
theorem zAc {T ts:List Plc} (hp:T.Perm ts) (h:PW ts) (hl:ts.length<=1000) (hn:∀ x∈ts,0<=x.2) (p:Pt) :
  zc1 ts p=some (cat T p)/\∃ k,zaT ts p=some k/\(k<0↔cat T p<0):=by
 obtain ⟨k,d,v,b,c,a⟩:=zyS h hl hn p;have e:v=cat T p:=c.uniq h ((zpk T p).perm hp);subst e;exact ⟨b,k,d,a⟩
def zD (p:Pt) (d:Int):Pt:=if d=0 then (p.1,p.2+1) else if d=1 then (p.1+1,p.2) else if d=2 then (p.1,p.2 - 1) else (p.1 - 1,p.2)
def Dir (d:Int):Prop:=d=0\/d=1\/d=2\/d=3
theorem zf7 {p:Pt} (hp:ptB p=true) {d:Int} (hd:Dir d):zaa p d=some (zD p d)/\zQ p d=some (zD p d):=by
 obtain ⟨g,e,h,f⟩:=zxl.1 hp;have c:∀ n:Int,-1000<=n->n<=1000->w64 n=n:=fun n a b=>zu (by omega) (by omega);rcases hd with rfl | rfl | rfl | rfl
 ·refine ⟨?_,?_⟩
  ·unfold zaa zab zD;simp [c (p.2+1) (by omega) (by omega)]
  ·unfold zQ zbh zD idx;simp [c (p.2+1) (by omega) (by omega),c p.1 (by omega) (by omega)]
 ·refine ⟨?_,?_⟩
  ·unfold zaa zab zD;simp [c (p.1+1) (by omega) (by omega)]
  ·unfold zQ zbh zD idx;simp [c (p.1+1) (by omega) (by omega),c p.2 (by omega) (by omega)]
 ·refine ⟨?_,?_⟩
  ·unfold zaa zab zD;simp [c (p.2 - 1) (by omega) (by omega)]
  ·unfold zQ zbh zD idx;simp [c (p.2 + -1) (by omega) (by omega),c p.1 (by omega) (by omega)];omega
 ·refine ⟨?_,?_⟩
  ·unfold zaa zab zD;simp [c (p.1 - 1) (by omega) (by omega)]
  ·unfold zQ zbh zD idx;simp [c (p.1 + -1) (by omega) (by omega),c p.2 (by omega) (by omega)];omega
def zlP (d:Int):Int:=if d=0 then 2 else if d=1 then 3 else if d=2 then 0 else 1
theorem zuW {d:Int} (hd:Dir d):zfH d=some (zlP d)/\zhz d=some (zlP d)/\0<=zlP d/\zlP d<4:=by
 rcases hd with rfl | rfl | rfl | rfl<;>exact ⟨rfl,rfl,by decide,by decide⟩
section
variable {set:TSet} (hS:SetOk set)
def TileIx (set:TSet) (k:Int):Prop:=0<=k/\k<=(set.2.length:Int) - 1
instance {set:TSet} {k:Int}:Decidable (TileIx set k):=inferInstanceAs (Decidable (_/\_))
def zkm (set:TSet) (k d:Int):Int:=(((set.2[k.toNat]?).getD ([],[])).2[d.toNat]?).getD 0
def zxI (set:TSet) (g:Int):Int:=if g=0 then 0 else ((set.1[(g - 1).toNat]?).getD ([],0)).2
theorem zqz (hS:SetOk set) {k d:Int} (hk:TileIx set k) (hd:Dir d):∃ x,idx set.2 k=some x/\x.2.length=4/\idx x.2 d=some (zkm set k d)/\0<=zkm set k d/\zkm set k d<=(set.1.length:Int):=by
 obtain ⟨x,j,a⟩:=zR (l:=set.2) hk.1 (by have:=hk.2;omega);obtain ⟨_,f,_,xs⟩:=hS.tile _ (zy a) x a;have c:0<=d/\d<4:=by rcases hd with rfl | rfl | rfl | rfl<;>decide
 obtain ⟨g,h,b⟩:=zR (l:=x.2) (i:=d) (by omega) (by omega);have e:zkm set k d=g:=by unfold zkm;rw [a];simp [b]
 rw [e];exact ⟨x,j,f,h,xs g (fd b)⟩
theorem zyO (hS:SetOk set) {g:Int} (h0:0<=g) (h1:g<=(set.1.length:Int)):zar set g=some (zxI set g)/\0<=zxI set g/\zxI set g<=4:=by
 have e:=hS.glues;unfold zar zxI;by_cases b:g=0
 ·simp [b]
 ·rw [if_neg (by simpa using b),if_neg b];have c:w64 (g - 1)=g - 1:=zu (by omega) (by omega);obtain ⟨u,d,a⟩:=zR (l:=set.1) (i:=g - 1) (by omega) (by omega);obtain ⟨_,h,f,_⟩:=hS.glue _ (zy a) u a;rw [c,d,a];exact ⟨rfl,by simp;omega,by simp;omega⟩
def zre (set:TSet) (a d b:Int):Int:=if zkm set a d=zkm set b (zlP d) then zxI set (zkm set a d) else 0
theorem zq9 {d:Int} (hd:Dir d):Dir (zlP d):=by rcases hd with rfl | rfl | rfl | rfl<;>unfold Dir zlP<;>simp
theorem zo7 (hS:SetOk set) {a b d:Int} (ha:TileIx set a) (hb:TileIx set b) (hd:Dir d):zdH set a d b=some (zre set a d b)/\zaw set a d b=some (zre set a d b)/\0<=zre set a d b/\zre set a d b<=4:=by
 obtain ⟨x,i,r,h,p,k⟩:=zqz hS ha hd;obtain ⟨y,l,s,f,_,_⟩:=zqz hS hb (zq9 hd);obtain ⟨o1,o2,_⟩:=zuW hd;obtain ⟨c,m,j⟩:=zyO hS p k;have n:zaz set a d=some (zxI set (zkm set a d)):=by
  have q:=hS.glues;unfold zaz;rw [i];simp only [gq,h];unfold zar at c;by_cases g:zkm set a d=0
  ·rw [if_neg (by simp;omega),g];rfl
  ·rw [if_neg (by simpa using g)] at c;rw [if_pos (by simp;omega)];exact c
 unfold zdH zaw zre;simp only [i,l,h,f,o1,o2,c,n,gq];by_cases e:zkm set a d=zkm set b (zlP d)
 ·simp only [e,decide_true,au,ap,if_false,if_true];rw [←e];exact ⟨trivial,trivial,m,j⟩
 ·simp [e]
def bdQ (set:TSet) (f:Pt->Int) (p:Pt) (k d:Int):Int:=if f (zD p d)≥0 then zre set k d (f (zD p d)) else 0
def zo6 (set:TSet) (f:Pt->Int) (p:Pt) (k:Int):Int:=bdQ set f p k 0+bdQ set f p k 1+bdQ set f p k 2+bdQ set f p k 3
def FOk (set:TSet) (f:Pt->Int):Prop:=∀ p,f p<0\/TileIx set (f p)
theorem zmc (hS:SetOk set) {f:Pt->Int} (hf:FOk set f) (p:Pt) {k d:Int} (hk:TileIx set k) (hd:Dir d):0<=bdQ set f p k d/\bdQ set f p k d<=4:=by
 unfold bdQ;split
 ·rename_i h;rcases hf (zD p d) with h1 | h1
  ·omega
  ·exact (zo7 hS hk h1 hd).2.2
 ·omega
theorem zuF {F:Int×Int->Option ((Int×Int) ⊕ Int)} {b:Int->Int} (hb:∀ d,Dir d->0<=b d/\b d<=1000)
  (h:∀ s d,Dir d->0<=s->s<=4000->F (s,d)=some (.inl (s+b d,d+1))) (he:∀ s,F (s,4)=some (.inr s)):iter F (0,0)=some (b 0+b 1+b 2+b 3):=by
 have j:=hb 0 (.inl rfl);have i:=hb 1 (.inr (.inl rfl));have g:=hb 2 (.inr (.inr (.inl rfl)));have k:=hb 3 (.inr (.inr (.inr rfl)));have a:F (0,0)=some (.inl (b 0,1)):=by have:=h 0 0 (.inl rfl) (by omega) (by omega);simpa using this
 have c:F (b 0,1)=some (.inl (b 0+b 1,2)):=h _ 1 (.inr (.inl rfl)) (by omega) (by omega);have f:F (b 0+b 1,2)=some (.inl (b 0+b 1+b 2,3)):=h _ 2 (.inr (.inr (.inl rfl))) (by omega) (by omega);have e:F (b 0+b 1+b 2,3)=some (.inl (b 0+b 1+b 2+b 3,4)):=h _ 3 (.inr (.inr (.inr rfl))) (by omega) (by omega);rw [zv a,zv c,zv f,zv e,zC (he _)]
theorem zoh {d:Int} (hd:Dir d):d<4/\0<=d/\w64 (d+1)=d+1:=by
 rcases hd with rfl | rfl | rfl | rfl<;>decide
theorem zq0 (hS:SetOk set) {f:Pt->Int} (hf:FOk set f) {g:Pt->Option Int} {p:Pt} (hp:ptB p=true) (hg:∀ d,Dir d->g (zD p d)=some (f (zD p d))) {k:Int} (hk:TileIx set k):zbT set p k g=some (zo6 set f p k):=by
 unfold zbT;rw [zuF (b:=bdQ set f p k) (fun d hd=>by have:=zmc hS hf p hk hd;omega) (fun s d hd m c=>?_) (fun s=>?_)]
 ·rfl
 ·obtain ⟨l,_,i⟩:=zoh hd;have j:=zmc hS hf p hk hd;unfold zb9 zca;rw [if_pos (by simpa using l),(zf7 hp hd).2];simp only [gq,hg d hd];unfold bdQ at j ⊢;by_cases h:f (zD p d)≥0
  ·have e:=hf (zD p d);have a:TileIx set (f (zD p d)):=by rcases e with c | c;omega;exact c
   rw [if_pos h] at j ⊢;rw [if_pos (by simpa using h),(zo7 hS hk a hd).2.1];simp only [gq,i];rw [zu (by omega) (by omega)]
  ·rw [if_neg h,if_neg (by simpa using h),i,Int.add_zero]
 ·unfold zb9;rw [if_neg (by simp)]
theorem zqt (hS:SetOk set) {f:Pt->Int} (hf:FOk set f) {ts:List Plc} {p:Pt} (hp:ptB p=true) (hg:∀ d,Dir d->zc1 ts (zD p d)=some (f (zD p d))) {k:Int} (hk:TileIx set k):zfm set ts p k=some (zo6 set f p k):=by
 unfold zfm;rw [zuF (b:=bdQ set f p k) (fun d hd=>by have:=zmc hS hf p hk hd;omega) (fun s d hd l c=>?_) (fun s=>?_)]
 ·rfl
 ·obtain ⟨j,_,g⟩:=zoh hd;have i:=zmc hS hf p hk hd;unfold ze3 ze4;rw [if_pos (by simpa using j),(zf7 hp hd).1];simp only [gq,hg d hd];unfold bdQ at i ⊢;by_cases h:f (zD p d)≥0
  ·have e:=hf (zD p d);have a:TileIx set (f (zD p d)):=by rcases e with c | c;omega;exact c
   rw [if_pos h] at i ⊢;rw [if_pos (by simpa using h),(zo7 hS hk a hd).1];simp only [gq,g];rw [zu (by omega) (by omega)]
  ·rw [if_neg h,if_neg (by simpa using h),g,Int.add_zero]
 ·unfold ze3;rw [if_neg (by simp)]
end
structure Cr (set:TSet) (T ts:List Plc):Prop where
 perm:T.Perm ts
 pw:PW ts
 ok:∀ x∈ts,ptB x.1=true/\TileIx set x.2
 len:ts.length<=500
section
variable {set:TSet} {T ts:List Plc}
theorem Cr.fok (h:Cr set T ts):FOk set (cat T):=fun p=>by
 rcases (zpk T p).perm h.perm with ⟨k,e,a⟩ | ⟨e,_⟩
 ·rw [e];exact .inr (h.ok _ a).2
 ·rw [e];exact .inl (by omega)
theorem Cr.at (h:Cr set T ts) (p:Pt):zc1 ts p=some (cat T p)/\∃ k,zaT ts p=some k/\(k<0↔cat T p<0):=
 zAc h.perm h.pw (by have:=h.len;omega) (fun x a=>(h.ok x a).2.1) p
theorem Cr.free (h:Cr set T ts) {p:Pt}:cat T p<0↔∀ x∈ts,x.1≠p:=by
 rcases (zpk T p).perm h.perm with ⟨k,e,b⟩ | ⟨e,hn⟩
 ·have:=(h.ok _ b).2.1;rw [e];exact ⟨fun a=>by simp only at this;omega,fun a=>absurd rfl (a _ b)⟩
 ·rw [e];exact ⟨fun _=>hn,fun _=>by omega⟩
def znh (set:TSet) (t:Int) (T:List Plc) (p:Pt) (k:Int):Bool:=ptB p&&decide (cat T p<0)&&decide (zo6 set (cat T) p k≥t)
theorem zpi (hS:SetOk set) (h:Cr set T ts) {s0:List Plc} {t:Int} {O:List (Pt×List Int)} {p:Pt} {k:Int} (hk:TileIx set k):zb8 ((set,s0,t),T,O) p k=some (znh set t T p k):=by
 unfold zb8 znh;rw [znU];simp only [gq];cases hp:ptB p with
 | false=>simp
 | true=>
  rw [if_pos rfl];by_cases a:cat T p<0
  ·rw [if_pos (by simpa using a),zq0 hS h.fok hp (g:=zfx ((set,s0,t),T,O)) (fun d _=>rfl) hk];simp [a]
  ·rw [if_neg (by simpa using a)];simp [a]
theorem zyR (hS:SetOk set) (h:Cr set T ts) {s0:List Plc} {t:Int} {p:Pt} {k:Int}:zmm (set,s0,t) ts (p,k)=some (decide (TileIx set k)&&znh set t T p k):=by
 unfold zmm znh;rw [zlt];simp only [gq];cases hp:ptB p with
 | false=>simp
 | true=>
  have g:=hS.tiles;rw [if_pos rfl,(zny set (by omega) k).2];simp only [gq];by_cases b:TileIx set k
  ·obtain ⟨i,hi,c⟩:=(h.at p).2;have a:decide (0<=k/\k<=(set.2.length:Int) - 1)=true:=decide_eq_true b;rw [a,if_pos rfl,hi];simp only [gq];by_cases e:cat T p<0
   ·rw [if_pos (by simpa using c.2 e),zqt hS h.fok hp (fun d _=>(h.at _).1) b];simp [e,b]
   ·rw [if_neg (by simpa using fun f=>e (c.1 f))];simp [e]
  ·have a:decide (0<=k/\k<=(set.2.length:Int) - 1)=false:=decide_eq_false b;rw [a];simp [b]
theorem zmH (hS:SetOk set) (k:Int):zbc set k=some (decide (TileIx set k)):=by
 have a:=hS.tiles;exact (zny set (by omega) k).1
def ixs (set:TSet):List Int:=(List.range set.2.length).map fun (k:Nat)=>(k:Int)
theorem zxs {k:Int}:k∈ixs set↔TileIx set k:=by
 unfold ixs TileIx;rw [fa];constructor
 ·rintro ⟨n,a,rfl⟩;have:=fe.1 a;omega
 ·rintro ⟨c,b⟩;exact ⟨k.toNat,fe.2 (by omega),by omega⟩
def zq7 (set:TSet) (t:Int) (T:List Plc) (p:Pt):List Int:=(ixs set).filter (znh set t T p)
theorem zzH (set:TSet) (t:Int) (T:List Plc) (p:Pt):(zq7 set t T p).length<=set.2.length:=by
 unfold zq7;refine gc (du _ _) ?_;unfold ixs;simp
def zm8 (set:TSet) (t:Int) (T:List Plc) (p:Pt) (O:List (Pt×List Int)) (d:Int):List (Pt×List Int):=
 if (zq7 set t T (zD p d)).length>0 then zbP O (zD p d) (zq7 set t T (zD p d)) else zlQ O (zD p d)
def laO (set:TSet) (t:Int) (T:List Plc) (O:List (Pt×List Int)) (p:Pt):List (Pt×List Int):=[0,1,2,3].foldl (zm8 set t T p) O
theorem zzu (hS:SetOk set) (h:Cr set T ts) {s0:List Plc} {t:Int} {O:List (Pt×List Int)} (i:Int) (p:Pt):iter (zad (i,((set,s0,t),T,O)) p) ([],0)=some (zq7 set t T p):=by
 have m:=hS.tiles;have hlen:(ixs set).length=set.2.length:=by unfold ixs;simp
 have key:=zij (F:=zad (i,((set,s0,t),T,O)) p) (ixs set) (fun a x=>if znh set t T p x then a++[x] else a) [] (by omega) (fun a i x e g=>?_) (fun a g=>?_)
 ·rw [key];congr 1;have:=zaV (znh set t T p) (fun x:Int=>x) (ixs set) [];rw [this];simp [zq7]
 ·have f:x=(i:Int):=by
   unfold ixs at e;rw [cq] at e;obtain ⟨n,c,rfl⟩:=gu.1 e;have j:i<set.2.length:=by have:=zy c;simpa using this
   rw [cw j] at c;injection c with c
   rw [c]
  have b:i<set.2.length:=by rw [←hlen];exact zy e
  subst f;have k:a.length<=1000:=by
   rw [g];have:∀ (l:List Int) (d:List Int),(l.foldl (fun a x=>if znh set t T p x then a++[x] else a) d).length<=d.length+l.length:=by
    intro l
    induction l with
    | nil=>intro d;simp
    | cons y l ih=>intro d;rw [ce];refine gc (ih _) ?_;split<;>simp<;>omega
   refine gc (this _ _) ?_;rw [ed];simp;omega
  unfold zad za3;rw [if_pos (by simpa using b),zpi hS h ⟨by omega,by omega⟩];simp only [gq];cases znh set t T p (i:Int) with
  | true=>simp only [if_true];rw [zaf (by simp;omega) (by simp;omega)];rfl
  | false=>rfl
 ·unfold zad;rw [if_neg (by simp [hlen])]
theorem zxt (hS:SetOk set) (h:Cr set T ts) {s0:List Plc} {t:Int} {O:List (Pt×List Int)} {p:Pt} (hp:ptB p=true):zaO ((set,s0,t),T,O) p=some ((set,s0,t),T,laO set t T O p):=by
 have step:∀ (O:List (Pt×List Int)) (d:Int),Dir d->zap p (d,((set,s0,t),T,O))=some (.inl (d+1,((set,s0,t),T,zm8 set t T p O d))):=by
  intro O d hd;obtain ⟨c,_,b⟩:=zoh hd;unfold zap;rw [if_pos (by simpa using c),(zf7 hp hd).2];simp only [gq];rw [zzu hS h];simp only [gq];unfold zc6 za4 zm8;by_cases a:(zq7 set t T (zD p d)).length>0
  ·rw [if_pos (by simpa using a),if_pos a,b]
  ·rw [if_neg (by simpa using a),if_neg a,b]
 unfold zaO;rw [zv (step O 0 (.inl rfl)),zv (step _ (0+1) (.inr (.inl rfl))),zv (step _ (0+1+1) (.inr (.inr (.inl rfl)))),zv (step _ (0+1+1+1) (.inr (.inr (.inr rfl)))),
  zC (x:=((set,s0,t),T,laO set t T O p)) (by unfold zap;rw [if_neg (by simp)];rfl)]
 rfl
theorem ztf {T:List Plc} {p:Pt} {k:Int} (h:∀ x∈T,x.1≠p):zbP T p k=T++[(p,k)]:=by
 unfold zbP;rw [if_neg];unfold zhi;rw [bd];rintro ⟨x,a,hd⟩;exact h x a (by simpa using hd)
theorem zkr (hA:AsmOk set ts):Cr set ts ts where
 perm:=.refl _
 pw:=by
  have hs:=hA.1.srt;unfold PW;rw [fm];intro i j hi hj hij;exact hs i j _ _ hij (cm hi) (cm hj)
 ok:=fun x hx=>by
  obtain ⟨i,hi⟩:=cv hx;exact ⟨(hA.1.2 i (zy hi) x hi).1,(hA.2 x hx)⟩
 len:=hA.1.1
def ncO (set:TSet) (t:Int) (ts:List Plc):List (Pt×List Int):=ts.foldl (fun O x=>laO set t ts O x.1) []
theorem zj5 (hS:SetOk set) (hA:AsmOk set ts) (s0:List Plc) (t:Int):zcj (set,s0,t) ts=some ((set,s0,t),ts,ncO set t ts):=by
 have g:=zkr hA;have hlen:=g.len;unfold zcj zh6;have q:iter (zbx ts) (0,((set,s0,t),([]:List Plc),([]:List (Pt×List Int))))=some ((set,s0,t),ts,[]):=by
  have key:=zpU (F:=zbx ts) ts (fun (a:CrySt) x=>(a.1,a.2.1++[x],a.2.2)) (((set,s0,t),([]:List Plc),([]:List (Pt×List Int)))) (by omega) (fun a i x d c=>?_) (fun a c=>?_)
  ·rw [key];congr 1;have:∀ (l:List Plc) (a:CrySt),l.foldl (fun (a:CrySt) x=>(a.1,a.2.1++[x],a.2.2)) a=(a.1,a.2.1++l,a.2.2):=by
    intro l
    induction l with
    | nil=>intro a;simp
    | cons y l ih=>intro a;rw [ce,ih];simp
   rw [this];simp
  ·have b:=zy d;have f:∀ (l:List Plc) (a:CrySt),l.foldl (fun (a:CrySt) x=>(a.1,a.2.1++[x],a.2.2)) a=(a.1,a.2.1++l,a.2.2):=by
    intro l
    induction l with
    | nil=>intro a;simp
    | cons y l ih=>intro a;rw [ce,ih];simp
   rw [f] at c;unfold zbx;rw [if_pos (by simpa using b),zq d];simp only [gq];rw [ztf (T:=a.2.1) (p:=x.1) (k:=x.2) (fun y m=>by
    rw [c] at m;simp only [fh] at m;obtain ⟨j,h⟩:=cv m;have e:j<i:=by have:=zy h;rw [ed] at this;omega
    rw [dh,if_pos e] at h;exact zqM (g.pw.srt j i _ _ e h d))]
  ·unfold zbx;rw [if_neg (by simp)]
 have n:iter (zbw ts) (0,((set,s0,t),ts,([]:List (Pt×List Int))))=some ((set,s0,t),ts,ncO set t ts):=by
  have f:∀ (l:List Plc) (O:List (Pt×List Int)),l.foldl (fun (a:CrySt) x=>(a.1,a.2.1,laO set t ts a.2.2 x.1)) ((set,s0,t),ts,O)=((set,s0,t),ts,l.foldl (fun O x=>laO set t ts O x.1) O):=by
   intro l
   induction l with
   | nil=>intro O;rfl
   | cons y l ih=>intro O;rw [ce,ce,ih]
  have key:=zpU (F:=zbw ts) ts (fun (a:CrySt) x=>(a.1,a.2.1,laO set t ts a.2.2 x.1)) (((set,s0,t),ts,([]:List (Pt×List Int)))) (by omega) (fun a i x d c=>?_) (fun a c=>?_)
  ·rw [key,f];rfl
  ·have b:=zy d;rw [f] at c;subst c;unfold zbw;rw [if_pos (by simpa using b),zq d];simp only [gq];rw [zxt hS g (g.ok x (fd d)).1];rfl
  ·unfold zbw;rw [if_neg (by simp)]
 rw [q];simp only [gq];rw [n];rfl
end
section
variable {set:TSet} {T ts:List Plc}
theorem Cr.put (h:Cr set T ts) {t:Int} {p:Pt} {k:Int} (hf:znh set t T p k=true) (hk:TileIx set k) (hl:ts.length<500):Cr set (zbP T p k) (ins (p,k) ts)/\zbP T p k=T++[(p,k)]:=by
 unfold znh at hf;simp only [an,decide_eq_true_eq] at hf;obtain ⟨⟨hp,c⟩,_⟩:=hf;have b:=h.free.1 c;have e:zbP T p k=T++[(p,k)]:=ztf fun x a=>b x (h.perm.mem_iff.1 a);refine ⟨⟨?_,zzA h.pw (fun y d=>b y d),fun x a=>?_,?_⟩,e⟩
 ·rw [e];exact (h.perm.append_right _).trans (zqX _ _).symm
 ·rcases zxu a with rfl | a
  ·exact ⟨hp,hk⟩
  ·exact h.ok x a
 ·rw [(zqX _ _).length_eq];simp;omega
theorem zza (hS:SetOk set) (h:Cr set T ts) {s0:List Plc} {t:Int} {O:List (Pt×List Int)} {p:Pt} {k:Int} (hf:znh set t T p k=true) (hk:TileIx set k) (hl:ts.length<500) :
  zeT ((set,s0,t),T,O) p k=some ((set,s0,t),zbP T p k,laO set t (zbP T p k) (zlQ O p) p):=by
 have hp:ptB p=true:=by
  unfold znh at hf;simp only [an] at hf;exact hf.1.1
 unfold zeT;have:=zxt hS (h.put hf hk hl).1 (s0:=s0) (t:=t) (O:=zlQ O p) hp;simp only at this ⊢;rw [this];rfl
def plT (seq:List Plc) (T:List Plc):List Plc:=seq.foldl (fun T o=>zbP T o.1 o.2) T
def plS (seq:List Plc) (ts:List Plc):List Plc:=seq.foldl (fun ts o=>ins (o.1,o.2) ts) ts
def Played (set:TSet) (t:Int):List Plc->List Plc->Prop
 | _,[]=>True
 | T,o::seq=>TileIx set o.2/\znh set t T o.1 o.2=true/\T.length<500/\Played set t (zbP T o.1 o.2) seq
theorem zvU (seq:List Plc) (o:Plc) (ts:List Plc):plS (seq++[o]) ts=ins (o.1,o.2) (plS seq ts):=by unfold plS;simp
theorem zvT (seq:List Plc) (o:Plc) (T:List Plc):plT (seq++[o]) T=zbP (plT seq T) o.1 o.2:=by unfold plT;simp
theorem zmv {t:Int} {o:Plc}:∀ {seq:List Plc} {T:List Plc},Played set t T (seq++[o])↔Played set t T seq/\TileIx set o.2/\znh set t (plT seq T) o.1 o.2=true/\(plT seq T).length<500
 | [],T=>by unfold plT;simp [Played]
 | x::seq,T=>by
  rw [List.cons_append];unfold Played;rw [zmv];unfold plT;rw [ce];simp only [and_assoc]
theorem zpe {t:Int}:∀ {seq:List Plc} {T ts:List Plc},Cr set T ts->Played set t T seq->Cr set (plT seq T) (plS seq ts)
 | [],T,ts,h,_=>h
 | o::seq,T,ts,h,hp=>by
  obtain ⟨b,c,d,e⟩:=hp;have a:ts.length<500:=by rw [←h.perm.length_eq];exact d
  show Cr set (plT seq (zbP T o.1 o.2)) (plS seq (ins (o.1,o.2) ts));exact zpe (h.put c b a).1 e
inductive PlayR (set:TSet) (t:Int) (ts:List Plc) (seq:List Plc):List Plc×Int×Int->Prop where
 | ok:Played set t ts seq->PlayR set t ts seq (plS seq ts,0,0)
 | bad (a b c):c≠0->¬Played set t ts seq->PlayR set t ts seq (a,b,c)
theorem zoL {t:Int} {T:List Plc}:∀ {seq:List Plc} (i:Nat),Played set t T seq->Played set t T (seq.take i):=by
 intro seq
 induction seq generalizing T with
 | nil=>intro i _;simp [Played]
 | cons o seq ih=>
  intro i h;cases i with
  | zero=>trivial
  | succ i=>exact ⟨h.1,h.2.1,h.2.2.1,ih i h.2.2.2⟩
theorem zxn (hS:SetOk set) (hA:AsmOk set ts) (t:Int) {seq:List Plc} (hlen:seq.length<=500) :
  ∃ r O,iter (zZ (set,ts,t) seq) (0,((set,ts,t),ts,ncO set t ts))=some r/\PlayR set t ts seq (match r with | .inl q=>(plS seq ts,0,0) | .inr z=>z)/\
   (match r with | .inl q=>q=((set,ts,t),plT seq ts,O) | .inr z=>True)/\
   iter (zaC (set,ts,t) seq) (0,ts)=some (match r with | .inl q=>.inl (plS seq ts) | .inr z=>.inr z):=by
 have L:=zkr hA;have u:∀ (m i:Nat) (O:List (Pt×List Int)),i+m=seq.length->Played set t ts (seq.take i)->
   ∃ r y,iter (zZ (set,ts,t) seq) ((i:Int),((set,ts,t),plT (seq.take i) ts,O))=some r/\PlayR set t ts seq (match r with | .inl q=>(plS seq ts,0,0) | .inr z=>z)/\
    (match r with | .inl q=>q=((set,ts,t),plT seq ts,y) | .inr z=>True)/\
    iter (zaC (set,ts,t) seq) ((i:Int),plS (seq.take i) ts)=some (match r with | .inl q=>.inl (plS seq ts) | .inr z=>.inr z):=by
  intro m
  induction m with
  | zero=>
   intro i O hi hp;have A:i=seq.length:=by omega
   subst A;rw [ft] at hp ⊢;refine ⟨.inl ((set,ts,t),plT seq ts,O),O,zC ?_,.ok hp,rfl,zC ?_⟩
   ·unfold zZ;rw [if_neg (by simp)]
   ·unfold zaC;rw [if_neg (by simp)]
  | succ m ih=>
   intro i O hi hp;have e:i<seq.length:=by omega
   obtain ⟨o,H⟩:∃ o,o=seq[i]:=⟨_,rfl⟩;have s:seq[i]?=some o:=by rw [cm e,H]
   have B:w64 ((i:Int)+1)=((i+1:Nat):Int):=by rw [zu (by omega) (by omega)];omega
   have f:=zpe L hp;have l:seq.take (i+1)=seq.take i++[o]:=by rw [fq,s];rfl
   have d:=zyR hS f (s0:=ts) (t:=t) (p:=o.1) (k:=o.2);have j:∀ {a b c},c≠0->¬(TileIx set o.2/\znh set t (plT (seq.take i) ts) o.1 o.2=true/\(plT (seq.take i) ts).length<500)->PlayR set t ts seq (a,b,c):=fun w J=>
    .bad _ _ _ w fun x=>J (by
     have:=zoL (i+1) x;rw [l,zmv] at this;exact this.2)
   have E:(plS (seq.take i) ts).length=(plT (seq.take i) ts).length:=f.perm.length_eq.symm;by_cases g:TileIx set o.2
   ·by_cases n:znh set t (plT (seq.take i) ts) o.1 o.2=true
    ·by_cases C:(plT (seq.take i) ts).length<500
     ·have v:=zza hS f (s0:=ts) (O:=O) n g (by omega);obtain ⟨r,y,G,D,I,F⟩:=ih (i+1) (laO set t (zbP (plT (seq.take i) ts) o.1 o.2) (zlQ O o.1) o.1) (by omega) (by rw [l,zmv];exact ⟨hp,g,n,C⟩);refine ⟨r,y,?_,D,I,?_⟩
      ·rw [←G];refine zv ?_;unfold zZ;rw [if_pos (by simpa using e),zq s];simp only [gq];rw [zmH hS,zpi hS f g];simp only [gq,g,n,decide_true,au,ap,if_false];unfold zaq;rw [if_neg (by simp)];unfold zx4;rw [if_pos (by simp only;omega)];simp only [gq];rw [if_neg (by simp;omega),v];simp only [gq,B,l,zvT]
      ·rw [←F];refine zv ?_;unfold zaC;rw [if_pos (by simpa using e),zq s];simp only [gq];rw [show ((o.1,o.2):Plc)=o from rfl] at d;rw [d];simp only [gq,g,n,decide_true,Bool.and_true,au,ap,if_false];unfold ziu;rw [if_neg (by simp;omega),zvB _ (by omega)];simp only [gq,B,l,zvU];simp
     ·refine ⟨.inr ([],0,4),O,zC ?_,j (by decide) (fun h=>C h.2.2),trivial,zC ?_⟩
      ·unfold zZ;rw [if_pos (by simpa using e),zq s];simp only [gq];rw [zmH hS,zpi hS f g];simp only [gq,g,n,decide_true,au,ap,if_false];unfold zaq;rw [if_neg (by simp)];unfold zx4;have:=f.len;rw [if_pos (by simp only;omega)];simp only [gq];rw [if_pos (by simp;omega)]
      ·unfold zaC;rw [if_pos (by simpa using e),zq s];simp only [gq];rw [show ((o.1,o.2):Plc)=o from rfl] at d;rw [d];simp only [gq,g,n,decide_true,Bool.and_true,au,ap,if_false];unfold ziu;rw [if_pos (by simp;omega)];simp
    ·refine ⟨.inr ([],i,5),O,zC ?_,j (by decide) (fun h=>n h.2.1),trivial,zC ?_⟩
     ·unfold zZ;rw [if_pos (by simpa using e),zq s];simp only [gq];rw [zmH hS,zpi hS f g];simp [g,n,zaq]
     ·unfold zaC;rw [if_pos (by simpa using e),zq s];simp only [gq];rw [show ((o.1,o.2):Plc)=o from rfl] at d;rw [d];simp [g,n]
   ·refine ⟨.inr ([],i,5),O,zC ?_,j (by decide) (fun h=>g h.1),trivial,zC ?_⟩
    ·unfold zZ;rw [if_pos (by simpa using e),zq s];simp only [gq];rw [zmH hS];simp [g,zaq]
    ·unfold zaC;rw [if_pos (by simpa using e),zq s];simp only [gq];rw [show ((o.1,o.2):Plc)=o from rfl] at d;rw [d];simp [g]
 have:=u seq.length 0 (ncO set t ts) (by omega) trivial;simpa [plT,plS] using this
theorem zpT (hS:SetOk set) (hA:AsmOk set ts) (t:Int) (hV:zat (set,ts,t)=some true) (hV':ze1 (set,ts,t)=some true) (seq:List Plc) (hl:seq.length<=2000000) :
  ∃ r,zce (set,ts,t) seq=some r/\zdJ (set,ts,t) seq=some r/\(r.2.2=0->seq.length<=500/\Played set t ts seq/\r.1=plS seq ts)/\(seq.length<=500->Played set t ts seq->r=(plS seq ts,0,0)):=by
 have f:=hA.1.1;unfold zce zdJ;rw [hV,hV'];simp only [gq,au,ap,if_false];by_cases hlen:seq.length<=500
 ·rw [if_neg (by simp;omega),if_neg (by simp;omega)];have d:=zj5 hS hA ts t;rw [d];simp only [gq];unfold zgI;obtain ⟨r,O,k,c,e,j⟩:=zxn hS hA t hlen;have g:zdG ts=some ts:=by unfold zdG;rw [zaf (by simp;omega) (by simp;omega)];rfl
  simp only;rw [g,k];simp only [gq];rw [j];cases r with
  | inl q=>
   simp only at c e ⊢;subst e;have b:Played set t ts seq:=by
    cases c with
    | ok h=>exact h
    | bad _ _ _ h _=>exact absurd rfl h
   have a:=zpe (zkr hA) b;refine ⟨(plS seq ts,0,0),?_,?_,fun _=>⟨hlen,b,rfl⟩,fun _ _=>rfl⟩
   ·unfold zgy zdd;simp only;have i:=a.len;rw [zw9 (by rw [a.perm.length_eq];omega) a.perm.symm a.pw];rfl
   ·simp only [gq,zkt]
  | inr z=>
   simp only at c ⊢;refine ⟨z,rfl,by simp,fun h=>?_,fun _ b=>?_⟩
   ·cases c with
    | ok h'=>exact ⟨hlen,h',rfl⟩
    | bad _ _ _ h0 _=>exact absurd h h0
   ·cases c with
    | ok h=>rfl
    | bad _ _ _ h0 hn=>exact absurd b hn
 ·rw [if_pos (by simp;omega),if_pos (by simp;omega)];exact ⟨_,rfl,rfl,fun h=>by simp at h,fun h=>absurd h hlen⟩
end
section
variable {set:TSet} {T ts:List Plc}
def glQ (set:TSet) (f:Pt->Int) (p:Pt) (d:Int):Int:=if f (zD p d)<0 then 0 else zkm set (f (zD p d)) (zlP d)
def atL (set:TSet) (t:Int) (f:Pt->Int) (p:Pt):List Int:=(ixs set).filter fun k=>decide (zo6 set f p k≥t)
theorem zzC (hS:SetOk set) {f:Pt->Int} (hf:FOk set f) (p:Pt) {d:Int} (hd:Dir d):0<=glQ set f p d/\glQ set f p d<=(set.1.length:Int):=by
 unfold glQ;split
 ·omega
 ·rcases hf (zD p d) with h | h
  ·omega
  ·obtain ⟨_,_,_,_,a⟩:=zqz hS h (zq9 hd);exact a
theorem zCn (a b c e:Int) {d:Int} (hd:Dir d):idx [a,b,c,e] d=some (if d=0 then a else if d=1 then b else if d=2 then c else e):=by
 rcases hd with rfl | rfl | rfl | rfl<;>rfl
theorem zzW (hS:SetOk set) {f:Pt->Int} (hf:FOk set f) {rest:List Plc} {p:Pt} (hp:ptB p=true) (hg:∀ d,Dir d->zc1 rest (zD p d)=some (f (zD p d))) :
  iter (zfC set rest p) ([],0)=some [glQ set f p 0,glQ set f p 1,glQ set f p 2,glQ set f p 3]:=by
 have step:∀ (l:List Int) (d:Int),Dir d->l.length<=4->zfC set rest p (l,d)=some (.inl (l++[glQ set f p d],d+1)):=by
  intro l d hd i;obtain ⟨e,_,c⟩:=zoh hd;unfold zfC zjZ glQ;rw [if_pos (by simpa using e),(zf7 hp hd).1];simp only [gq,hg d hd];by_cases h:f (zD p d)<0
  ·rw [if_pos (by simpa using h),if_pos h,zaf (by simp;omega) (by simp;omega)];simp only [gq,c]
  ·have a:TileIx set (f (zD p d)):=by rcases hf (zD p d) with h1 | h1;omega;exact h1
   obtain ⟨y,g,j,b,_,_⟩:=zqz hS a (zq9 hd);rw [if_neg (by simpa using h),if_neg h,g];simp only [gq,(zuW hd).1,b];rw [zaf (by simp;omega) (by simp;omega)];simp only [gq,c]
 rw [zv (step [] 0 (.inl rfl) (by simp)),zv (step _ (0+1) (.inr (.inl rfl)) (by simp)),zv (step _ (0+1+1) (.inr (.inr (.inl rfl))) (by simp)),zv (step _ (0+1+1+1) (.inr (.inr (.inr rfl))) (by simp))];refine zC ?_;unfold zfC;rw [if_neg (by simp)];rfl
theorem zA5 (hS:SetOk set) {f:Pt->Int} (hf:FOk set f) {rest:List Plc} {p:Pt} (hp:ptB p=true) (hg:∀ d,Dir d->zc1 rest (zD p d)=some (f (zD p d))) (t:Int) :
  zlA set rest p t=some (atL set t f p):=by
 have O:=hS.tiles;have hlen:(ixs set).length=set.2.length:=by unfold ixs;simp
 unfold zlA zmP;rw [zzW hS hf hp hg];simp only [gq];have g:∀ (l:List Int) (k:Int),TileIx set k->iter (zhs set [glQ set f p 0,glQ set f p 1,glQ set f p 2,glQ set f p 3] (l,k)) (0,0)=some (zo6 set f p k):=by
  intro l k w;refine zuF (b:=bdQ set f p k) (fun d hd=>by have:=zmc hS hf p w hd;omega) (fun s d hd J M=>?_) (fun s=>?_)
  ·obtain ⟨G,_,q⟩:=zoh hd;obtain ⟨x,e,I,C,L,N⟩:=zqz hS w hd;have u:idx [glQ set f p 0,glQ set f p 1,glQ set f p 2,glQ set f p 3] d=some (glQ set f p d):=by
    rw [zCn _ _ _ _ hd];rcases hd with rfl | rfl | rfl | rfl<;>rfl
   unfold zhs zj0;rw [if_pos (by simpa using G),e];simp only [gq,C,u];have v:=zmc hS hf p w hd;have hs:=zyO hS (zzC hS hf p hd).1 (zzC hS hf p hd).2;unfold bdQ zre at v ⊢;by_cases h:f (zD p d)≥0
   ·have z:glQ set f p d=zkm set (f (zD p d)) (zlP d):=by unfold glQ;rw [if_neg (by omega)]
    rw [if_pos h] at v ⊢;rw [z] at hs ⊢;by_cases c:zkm set k d=zkm set (f (zD p d)) (zlP d)
    ·rw [if_pos c] at v ⊢;rw [if_pos (by simpa using c),hs.1];simp only [gq,q];rw [c,zu (by omega) (by omega)]
    ·rw [if_neg c,if_neg (by simpa using c),q,Int.add_zero]
   ·have z:glQ set f p d=0:=by unfold glQ;rw [if_pos (by omega)]
    rw [if_neg h];rw [z];by_cases c:zkm set k d=0
    ·rw [if_pos (by simpa using c)];have:zar set 0=some 0:=rfl;rw [this];simp only [gq,q];rw [zu (by omega) (by omega)]
    ·rw [if_neg (by simpa using c),q,Int.add_zero]
  ·unfold zhs;rw [if_neg (by simp)]
 have key:=zij (F:=zht set t [glQ set f p 0,glQ set f p 1,glQ set f p 2,glQ set f p 3]) (ixs set) (fun a x=>if decide (zo6 set f p x≥t) then a++[x] else a) [] (by omega) (fun a i x e D=>?_) (fun a D=>?_)
 ·rw [key];simp only [gq,zmO];congr 1;have:=zaV (fun k=>decide (zo6 set f p k≥t)) (fun x:Int=>x) (ixs set) [];rw [this];simp [atL]
 ·have A:TileIx set x:=zxs.1 (fd e);have B:x=(i:Int):=by
   unfold ixs at e;rw [cq] at e;obtain ⟨n,m,rfl⟩:=gu.1 e;have E:i<set.2.length:=by have:=zy m;simpa using this
   rw [cw E] at m;injection m with m
   rw [m]
  have j:i<set.2.length:=by rw [←hlen];exact zy e
  subst B;have H:a.length<=1000:=by
   rw [D];have:∀ (l:List Int) (r:List Int),(l.foldl (fun a x=>if decide (zo6 set f p x≥t) then a++[x] else a) r).length<=r.length+l.length:=by
    intro l
    induction l with
    | nil=>intro r;simp
    | cons y l ih=>intro r;rw [ce];refine gc (ih _) ?_;split<;>simp<;>omega
   refine gc (this _ _) ?_;rw [ed];simp;omega
  unfold zht zmN zj1;rw [if_pos (by simpa using j),g _ _ A];simp only [gq];by_cases h:zo6 set f p (i:Int)≥t
  ·rw [if_pos (by simpa using h),if_pos (by simpa using h),zaf (by simp;omega) (by simp;omega)];rfl
  ·rw [if_neg (by simpa using h),if_neg (by simpa using h)]
 ·unfold zht;rw [if_neg (by simp [hlen])]
theorem zAQ (set:TSet) (t:Int) (f:Pt->Int) (p:Pt):(atL set t f p).length<=set.2.length:=by
 unfold atL;refine gc (du _ _) ?_;unfold ixs;simp
theorem zvR (l:List Pt) (hl:l.length<=1000000) (p:Pt):∃ l',zgH l p=some l'/\(∀ q,q∈l'↔q∈l\/q=p)/\l'.length<=l.length+1:=by
 obtain ⟨at_,s,H,D⟩:∃ a:Nat,iter (zau l p) (l.length:Int)=some (a:Int)/\0<=a/\a<=l.length:=by
  have key:∀ n:Nat,n<=l.length->∃ a:Nat,iter (zau l p) (n:Int)=some (a:Int)/\0<=a/\a<=l.length:=by
   intro n
   induction n with
   | zero=>
    intro E;refine ⟨0,zC ?_,by omega,by omega⟩;unfold zau za8;rw [if_neg (by simp)];rfl
   | succ n ih=>
    intro E;have f:w64 (((n+1:Nat):Int) - 1)=(n:Int):=by rw [zu (by omega) (by omega)];omega
    have e:l[n]?=some l[n]:=cm (by omega);cases c:lp l[n] p with
    | true=>
     refine ⟨n+1,zC ?_,by omega,E⟩;unfold zau za8;rw [if_pos (by simp<;>omega),f,zq e];simp only [gq,zjv,c];rfl
    | false=>
     obtain ⟨a,D,F,G⟩:=ih (by omega);refine ⟨a,?_,F,G⟩;rw [←D];refine zv ?_;unfold zau za8;rw [if_pos (by simp<;>omega),f,zq e];simp only [gq,zjv,c];rfl
  exact key l.length (ga _)
 have ins:∃ l',za9 l p (at_:Int) false=some l'/\(∀ q,q∈l'↔q∈l\/q=p)/\l'.length<=l.length+1:=by
  unfold za9;rw [if_neg (by simp),zaf (by simp;omega) (by simp;omega)];simp only [gq];have C:w64 (((l++[p]).length:Int) - 1)=(l.length:Int):=by rw [dl,ec,zu (by omega) (by omega)];omega
  rw [C];have key:∀ (m i:Nat) (L:List Pt),i=at_+m->i<=l.length->L.length=l.length+1->(∀ j,j<i->L[j]?=l[j]?)->(∀ j,i<j->L[j]?=l[j - 1]?)->
    ∃ L',iter (zco (at_:Int)) (L,(i:Int))=some L'/\L'.length=l.length+1/\(∀ j,j<at_->L'[j]?=l[j]?)/\(∀ j,at_<j->L'[j]?=l[j - 1]?):=by
   intro m
   induction m with
   | zero=>
    intro i L hi A w k x;have:i=at_:=by omega
    subst this;refine ⟨L,zC ?_,w,k,x⟩;unfold zco;rw [if_neg (by simp)]
   | succ m ih=>
    intro i L hi A w k x;have f:w64 ((i:Int) - 1)=((i - 1:Nat):Int):=by rw [zu (by omega) (by omega)];omega
    have e:L[i - 1]?=some (l[i - 1]'(by omega)):=by rw [k _ (by omega),cm (by omega)]
    have z:L[i]?=some (L[i]'(by omega)):=cm (by omega);obtain ⟨L',y,t,r,g⟩:=ih (i - 1) (L.set i (l[i - 1]'(by omega))) (by omega) (by omega) (by simp [w]) (fun j b=>by rw [df (by omega)];exact k j (by omega)) (fun j b=>by
     by_cases v:j=i
     ·subst v;rw [dg (by omega),cm (by omega)]
     ·rw [df (by omega)];exact x j (by omega))
    refine ⟨L',?_,t,r,g⟩;rw [←y];refine zv ?_;unfold zco;rw [if_pos (by simp;omega),f,zq e];simp only [gq];rw [zq z];simp
  obtain ⟨L',y,t,r,g⟩:=key (l.length - at_) l.length (l++[p]) (by omega) (ga _) (by simp) (fun j b=>by rw [cg b]) (fun j b=>by
   rw [cn (by simp;omega),cn (by omega)])
  rw [y];simp only [gq];unfold zg6;have z:L'[at_]?=some (L'[at_]'(by omega)):=cm (by omega);rw [zq z];simp only [gq];refine ⟨_,rfl,fun q=>?_,by simp [t]⟩;simp only [ba];constructor
  ·intro u;obtain ⟨j,b⟩:=cv u;by_cases d:j=at_
   ·subst d;rw [dg (by omega)] at b;injection b with b;exact .inr b.symm
   ·rw [df (Ne.symm d)] at b;rcases gi d with h | h
    ·rw [r j h] at b;exact .inl (fd b)
    ·rw [g j h] at b;exact .inl (fd b)
  ·rintro (u | rfl)
   ·obtain ⟨j,b⟩:=cv u;rcases gh j at_ with h | h
    ·exact fd (i:=j) (by rw [df (by omega),r j h];exact b)
    ·exact fd (i:=j+1) (by rw [df (by omega),g (j+1) (by omega)];exact b)
   ·exact fd (i:=at_) (dg (by omega))
 unfold zgH;rw [s];simp only [gq];unfold zg7;by_cases c:at_<l.length
 ·have e:l[at_]?=some l[at_]:=cm c;rw [if_pos (by simpa using c),zq e];simp only [gq];by_cases B:l[at_]=p
  ·rw [show (decide (l[at_].1=p.1)&&decide (l[at_].2=p.2))=true by rw [B];simp];unfold za9;refine ⟨l,rfl,fun q=>⟨.inl,fun h=>?_⟩,by omega⟩;rcases h with h | rfl
   ·exact h
   ·rw [←B];exact dj c
  ·rw [show (decide (l[at_].1=p.1)&&decide (l[at_].2=p.2))=false by
    cases hb:(decide (l[at_].1=p.1)&&decide (l[at_].2=p.2)) with
    | false=>rfl
    | true=>simp at hb;exact absurd (Prod.ext hb.1 hb.2) B]
   exact ins
 ·rw [if_neg (by simpa using c)];exact ins
def zyC (T:List Plc) (q:Pt):Prop:=ptB q=true/\cat T q<0
theorem zAq (hS:SetOk set) (h:Cr set T ts) {x:Plc} {i:Nat} (hx:ts[i]?=some x) (l0:List Pt) (l:List Pt) (z:l.length<=100000) :
  ∃ l',iter (zdl ts (l0,(i:Int))) (l,0)=some l'/\(∀ q,q∈l'↔q∈l\/∃ d,Dir d/\q=zD x.1 d/\zyC T q)/\l'.length<=l.length+4:=by
 have j:=(h.ok x (fd hx)).1;have step:∀ (l:List Pt) (d:Int),Dir d->l.length<=100004->∃ l',zdl ts (l0,(i:Int)) (l,d)=some (.inl (l',d+1))/\(∀ q,q∈l'↔q∈l\/q=zD x.1 d/\zyC T q)/\l'.length<=l.length+1:=by
  intro l d hd z;obtain ⟨C,_,m⟩:=zoh hd;unfold zdl;rw [if_pos (by simpa using C),zq hx];simp only [gq,(zf7 j hd).1,zlt];cases hb:ptB (zD x.1 d) with
  | false=>
   rw [if_neg (by simp)];unfold zfj zfk;refine ⟨l,by rw [if_neg (by simp),m],fun q=>⟨.inl,fun a=>?_⟩,by omega⟩;rcases a with a | ⟨rfl,hf⟩
   ·exact a
   ·rw [hf.1] at hb;cases hb
  | true=>
   rw [if_pos rfl];obtain ⟨k,r,c⟩:=(h.at (zD x.1 d)).2;rw [r];simp only [gq];unfold zfj zfk;by_cases g:cat T (zD x.1 d)<0
   ·obtain ⟨l',y,s,E⟩:=zvR l (by omega) (zD x.1 d);rw [if_pos (by simpa using c.2 g),y];simp only [gq,m];refine ⟨l',rfl,fun q=>?_,E⟩;rw [s];exact or_congr Iff.rfl ⟨fun e=>⟨e,by rw [e];exact ⟨hb,g⟩⟩,fun e=>e.1⟩
   ·rw [if_neg (by simpa using fun b=>g (c.1 b)),m];refine ⟨l,rfl,fun q=>⟨.inl,fun a=>?_⟩,by omega⟩;rcases a with a | ⟨rfl,hf⟩
    ·exact a
    ·exact absurd hf.2 g
 obtain ⟨l1,D,n,F⟩:=step l 0 (.inl rfl) (by omega);obtain ⟨l2,a2,A,c2⟩:=step l1 1 (.inr (.inl rfl)) (by omega);obtain ⟨u,t,p,G⟩:=step l2 2 (.inr (.inr (.inl rfl))) (by omega);obtain ⟨w,v,B,H⟩:=step u 3 (.inr (.inr (.inr rfl))) (by omega);refine ⟨w,?_,fun q=>?_,by omega⟩
 ·rw [zv D,show ((0:Int)+1)=1 from rfl,zv a2,show ((1:Int)+1)=2 from rfl,zv t,show ((2:Int)+1)=3 from rfl,zv v];refine zC ?_;unfold zdl;rw [if_neg (by simp)]
 ·rw [B,p,A,n];constructor
  ·rintro ((((a | a) | a) | a) | a)
   ·exact .inl a
   ·exact .inr ⟨0,.inl rfl,a.1,a.2⟩
   ·exact .inr ⟨1,.inr (.inl rfl),a.1,a.2⟩
   ·exact .inr ⟨2,.inr (.inr (.inl rfl)),a.1,a.2⟩
   ·exact .inr ⟨3,.inr (.inr (.inr rfl)),a.1,a.2⟩
  ·rintro (a | ⟨d,hd,b,f⟩)
   ·exact .inl (.inl (.inl (.inl a)))
   ·rcases hd with rfl | rfl | rfl | rfl
    ·exact .inl (.inl (.inl (.inr ⟨b,f⟩)))
    ·exact .inl (.inl (.inr ⟨b,f⟩))
    ·exact .inl (.inr ⟨b,f⟩)
    ·exact .inr ⟨b,f⟩
def zqe (T ts:List Plc) (q:Pt):Prop:=∃ x∈ts,∃ d,Dir d/\q=zD x.1 d/\zyC T q
theorem zAp (hS:SetOk set) (h:Cr set T ts):∃ l,zk0 ts=some l/\(∀ q,q∈l↔zqe T ts q)/\l.length<=2000:=by
 have hlen:=h.len;have e:∀ (m i:Nat) (l:List Pt),i+m=ts.length->l.length<=4*i->(∀ q,q∈l↔zqe T (ts.take i) q)->∃ l',iter (zdm ts) (l,(i:Int))=some l'/\(∀ q,q∈l'↔zqe T ts q)/\l'.length<=2000:=by
  intro m
  induction m with
  | zero=>
   intro i l hi r f;have:i=ts.length:=by omega
   subst this;rw [ft] at f;refine ⟨l,zC ?_,f,by omega⟩;unfold zdm;rw [if_neg (by simp)]
  | succ m ih=>
   intro i l hi r f;have c:i<ts.length:=by omega
   have a:ts[i]?=some ts[i]:=cm c;have j:w64 ((i:Int)+1)=((i+1:Nat):Int):=by rw [zu (by omega) (by omega)];omega
   obtain ⟨l',n,k,w⟩:=zAq hS h a l l (by omega);obtain ⟨l2,p,v,t⟩:=ih (i+1) l' (by omega) (by omega) (fun q=>by
    rw [k,f,znj a];unfold zqe;constructor
    ·rintro (⟨x,a,b⟩ | ⟨d,hd,b⟩)
     ·exact ⟨x,ep.2 (.inl a),b⟩
     ·exact ⟨ts[i],ep.2 (.inr (fg.2 rfl)),d,hd,b⟩
    ·rintro ⟨x,a,d,hd,b⟩;rcases ep.1 a with a | a
     ·exact .inl ⟨x,a,d,hd,b⟩
     ·rw [fg.1 a] at b;exact .inr ⟨d,hd,b⟩)
   refine ⟨l2,?_,v,t⟩;rw [←p];refine zv ?_;unfold zdm;rw [if_pos (by simpa using c),n];simp only [gq,zku,j]
 obtain ⟨l,g,s,u⟩:=e ts.length 0 [] (by omega) (by simp) (fun q=>by unfold zqe;simp);refine ⟨l,?_,s,u⟩;unfold zk0;have g:iter (zdm ts) ([],0)=some l:=g;rw [g];rfl
theorem zs8 (hS:SetOk set) (h:Cr set T ts) (s0:List Plc) (t:Int):∃ out,zdk (set,s0,t) ts=some out/\(out=[]↔∀ q,zqe T ts q->atL set t (cat T) q=[])/\out.length<=1000000:=by
 obtain ⟨a,R,z,S⟩:=zAp hS h;have M:=hS.tiles;unfold zdk;rw [R];simp only [gq];have r:∀ (m i:Nat) (out:List Plc),i+m=a.length->out.length<=160*i->(out=[]↔∀ q∈a.take i,atL set t (cat T) q=[])->
   ∃ out',iter (zbr (set,s0,t) ts a) (out,(i:Int))=some out'/\(out'=[]↔∀ q∈a,atL set t (cat T) q=[])/\out'.length<=1000000:=by
  intro m
  induction m with
  | zero=>
   intro i out hi L c;have:i=a.length:=by omega
   subst this;rw [ft] at c;refine ⟨out,zC ?_,c,by omega⟩;unfold zbr;rw [if_neg (by simp)]
  | succ m ih=>
   intro i out hi L c;have p:i<a.length:=by omega
   obtain ⟨q,D⟩:∃ q,q=a[i]:=⟨_,rfl⟩;have w:a[i]?=some q:=by rw [cm p,D]
   have I:w64 ((i:Int)+1)=((i+1:Nat):Int):=by rw [zu (by omega) (by omega)];omega
   obtain ⟨x,N,d,hd,J,f⟩:=(z q).1 (fd w);have s:=zA5 hS h.fok f.1 (fun d _=>(h.at _).1) t;obtain ⟨A,hA⟩:∃ A,A=atL set t (cat T) q:=⟨_,rfl⟩;have G:A.length<=160:=by rw [hA];exact gc (zAQ _ _ _ _) M
   rw [←hA] at s;have l:∀ (m j:Nat) (o:List Plc),j+m=A.length->o=out++(A.take j).map (fun k=>(q,k))->iter (zbq a (out,(i:Int)) q A) (o,(j:Int))=some (out++A.map (fun k=>(q,k))):=by
    intro m
    induction m with
    | zero=>
     intro j o Q b;have:j=A.length:=by omega
     subst this;rw [ft] at b;subst b;refine zC ?_;unfold zbq;rw [if_neg (by simp)]
    | succ m ih2=>
     intro j o Q b;have u:j<A.length:=by omega
     have E:A[j]?=some A[j]:=cm u;have B:w64 ((j:Int)+1)=((j+1:Nat):Int):=by rw [zu (by omega) (by omega)];omega
     have F:o.length<=400000:=by rw [b,dl,dv,ed];omega
     rw [←ih2 (j+1) (o++[(q,A[j])]) (by omega) (by rw [b,znj E,ef,←be];rfl)];refine zv ?_;unfold zbq;rw [if_pos (by simpa using u),zq w];simp only [gq];rw [zq E];simp only [gq];rw [zaf (by simp;omega) (by simp;omega)];simp only [gq,B]
   have g:=l A.length 0 out (by omega) (by simp);obtain ⟨o2,O,H,P⟩:=ih (i+1) (out++A.map (fun k=>(q,k))) (by omega) (by simp;omega) (by
    rw [znj w,List.append_eq_nil_iff,c];constructor
    ·rintro ⟨e,y⟩ C n;rcases ep.1 n with v | v
     ·exact e C v
     ·rw [fg.1 v,←hA];simpa using y
    ·intro e;exact ⟨fun C n=>e C (by simp [n]),by rw [hA,e q (by simp)];rfl⟩)
   refine ⟨o2,?_,H,P⟩;rw [←O];refine zv ?_;unfold zbr;rw [if_pos (by simpa using p),zq w];simp only [gq];rw [s];simp only [gq];have g:iter (zbq a (out,(i:Int)) q A) (out,0)=some (out++A.map (fun k=>(q,k))):=g;rw [g];simp only [gq,zh1,I]
 obtain ⟨o,e,y,v⟩:=r a.length 0 [] (by omega) (by simp) (by simp);have e:iter (zbr (set,s0,t) ts a) ([],0)=some o:=e;refine ⟨o,by rw [e];rfl,?_,v⟩;rw [y];exact ⟨fun h q c=>h q ((z q).2 c),fun h q c=>h q ((z q).1 c)⟩
end
end Go.Lf
