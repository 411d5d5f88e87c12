import Derived.Test.YtinhknndegdcfaaGreatDoorI
import Derived.Test.YtinhknndegdcfaaGreatDoorC
import Derived.Lib.ItoaLen
set_option linter.all false
set_option maxRecDepth 100000
set_option maxHeartbeats 1000000
namespace Go.Lf
open Go
def lp (a b:Pt):Bool:=decide (a.2<b.2)||(decide (a.2=b.2)&&decide (a.1<b.1))
theorem zuE {a b:Pt}:lp a b=true↔a.2<b.2\/(a.2=b.2/\a.1<b.1):=by unfold lp;simp
theorem zxf {a b:Pt}:lp a b=false↔b.2<a.2\/(a.2=b.2/\b.1<=a.1):=by unfold lp;simp;omega
theorem zky {a b c:Pt} (h1:lp a b=true) (h2:lp b c=true):lp a c=true:=by
 rw [zuE] at *;omega
theorem zkz {a b:Pt} (h:lp a b=true):a≠b:=by
 rw [zuE] at h;intro e;subst e;omega
theorem zwZ {a b:Pt} (h1:a.1=b.1) (h2:a.2=b.2):a=b:=Prod.ext h1 h2
theorem zl2 {a b:Pt} (h1:lp a b=false) (h2:a≠b):lp b a=true:=by
 rw [zxf] at h1;rw [zuE];rcases Int.lt_trichotomy a.1 b.1 with h | h | h
 ·omega
 ·rcases h1 with h3 | h3
  ·exact .inl h3
  ·exact absurd (zwZ h h3.1) h2
 ·omega
theorem ziI (a b:Pt):zcS a b=some (lp a b):=by
 unfold zcS lp;by_cases c:a.2<b.2<;>by_cases d:a.2=b.2<;>simp [c,d]
def zuh (a b:Pt):Int:=if a.2<b.2 then -1 else if b.2<a.2 then 1 else if a.1<b.1 then -1 else if b.1<a.1 then 1 else 0
theorem zrD (a b:Pt):zah a b=some (zuh a b):=by
 unfold zah;rw [zpq,zpq];simp only [gp,zvh];congr 1;unfold zuh
 repeat' split
 all_goals first | rfl | omega
theorem znC {a b:Pt}:decide (zuh a b<0)=lp a b:=by
 unfold zuh lp;by_cases e:a.2<b.2
 ·simp [e]
 ·by_cases g:b.2<a.2
  ·simp [e,g];omega
  ·have d:a.2=b.2:=by omega
   by_cases c:a.1<b.1
   ·simp [d,c]
   ·by_cases f:b.1<a.1
    ·simp [d,c,f]
    ·simp [d,c,f]
theorem znR {a b:Pt}:zuh a b=0↔a=b:=by
 unfold zuh;constructor
 ·intro h;apply zwZ<;>(repeat' split at h)<;>omega
 ·intro h;subst h;simp
theorem zsC (a b:Pt):ziB a b=some (lp a b):=by
 unfold ziB;rw [zrD];simp only [gp];rw [znC]
def ptB (p:Pt):Bool:=decide (-60<=p.1/\p.1<=60)&&decide (-60<=p.2/\p.2<=60)
theorem zo1 {p:Pt}:ptB p=true ↔ -60<=p.1/\p.1<=60 /\ -60<=p.2/\p.2<=60:=by
 unfold ptB;simp;omega
theorem zmw (p:Pt):zde p=some (ptB p):=by
 unfold zde ptB;simp only [zc9,gp];by_cases h : -60<=p.1/\p.1<=60
 ·simp [h]
 ·simp only [h,decide_false,Bool.false_and];rfl
theorem zkq (p:Pt):zdP p=some (ptB p):=by
 unfold zdP ptB;simp only [zg6,gp];by_cases h : -60<=p.1/\p.1<=60
 ·simp [h]
 ·simp only [h,decide_false,Bool.false_and];rfl
def zxN (ts:List Plc) (i:Nat):Prop:=∀ x,ts[i]?=some x->ptB x.1=true/\0<=x.2/\x.2<=159/\∀ y,1<=i->ts[i - 1]?=some y->lp y.1 x.1=true
def FormOk (ts:List Plc):Prop:=ts.length<=500/\∀ i,i<ts.length->zxN ts i
theorem znQ (ts:List Plc) (h:ts.length<=2000000):∃ b,zeT ts=some b/\(b=true↔FormOk ts):=by
 unfold zeT zjS;have key:=zkm (fun i=>(i:Int)) 0 ts.length (zxN ts) (zbl ts) (by omega) ?_ ?_ ?_
 ·rcases key with ⟨g,m⟩ | ⟨g,hnot⟩
  ·have g:iter (zbl ts) 0=some (.inl ()):=g;rw [g];refine ⟨_,rfl,?_⟩;simp only [decide_eq_true_eq];exact ⟨fun s=>⟨by omega,fun i hi=>m i (by omega) hi⟩,fun q=>by have:=q.1;omega⟩
  ·have g:iter (zbl ts) 0=some (.inr false):=g;rw [g];exact ⟨false,rfl,fun h=>(by cases h),fun q=>absurd (fun i _ hi=>q.2 i hi) hnot⟩
 ·intro i _ hi _ c;have k:ts[i]?=some ts[i]:=cq hi;obtain ⟨o1,o2,u,t⟩:=c _ k;have r:w64 ((i:Int)+1)=((i+1:Nat):Int):=by rw [zt (by omega) (by omega)];omega
  have e:w64 ((160:Int) - 1)=159:=zt (by omega) (by omega);unfold zbl zce zgC;rw [if_pos (by simp [hi])];simp only [zr k,gp,zmw,o1,e,zc9];rw [if_neg (by simp),if_neg (by simp;omega)];by_cases p:(i:Int)>0
  ·have n:ts[i - 1]?=some (ts[i - 1]'(by omega)):=cq (by omega);have f:w64 ((i:Int) - 1)=((i - 1:Nat):Int):=by rw [zt (by omega) (by omega)];omega
   rw [if_pos (by simpa using p)];simp only [f,zr n,gp,zsC,t _ (by omega) n,r];rfl
  ·rw [if_neg (by simpa using p)];simp [r]
 ·intro i _ hi _ c;have k:ts[i]?=some ts[i]:=cq hi;have e:w64 ((160:Int) - 1)=159:=zt (by omega) (by omega);unfold zbl zce zgC;rw [if_pos (by simp [hi])];simp only [zr k,gp,zmw,e,zc9];cases hp:ptB ts[i].1 with
  | false=>simp
  | true=>
   rw [if_neg (by simp)];by_cases j:0<=ts[i].2/\ts[i].2<=159
   ·rw [if_neg (by simp [j])];by_cases p:(i:Int)>0
    ·have n:ts[i - 1]?=some (ts[i - 1]'(by omega)):=cq (by omega);have f:w64 ((i:Int) - 1)=((i - 1:Nat):Int):=by rw [zt (by omega) (by omega)];omega
     rw [if_pos (by simpa using p)];simp only [f,zr n,gp,zsC];cases s:lp (ts[i - 1]'(by omega)).1 ts[i].1 with
     | false=>simp
     | true=>
      refine absurd (fun x a=>?_) c;rw [k] at a;injection a with a;subst a
      exact ⟨hp,j.1,j.2,fun y _ d=>by rw [n] at d;injection d with d;subst d;exact s⟩
    ·refine absurd (fun x a=>?_) c;rw [k] at a;injection a with a;subst a
     exact ⟨hp,j.1,j.2,fun y v _=>by omega⟩
   ·rw [if_pos (by simp only [j,decide_false];rfl)];simp
 ·intro _;unfold zbl;rw [if_neg (by simp)]
theorem zsn (ts:List Plc) (h:ts.length<=2000000):∃ b,zid ts=some b/\(b=true↔FormOk ts):=by
 unfold zid zjI;by_cases r:ts.length>500
 ·rw [if_pos (by simp;omega)];exact ⟨false,rfl,fun h=>(by cases h),fun p=>by have:=p.1;omega⟩
 rw [if_neg (by simp;omega)];have key:=zkm (fun i=>(i:Int)) 0 ts.length (zxN ts) (zbj ts) (by omega) ?_ ?_ ?_
 ·rcases key with ⟨f,k⟩ | ⟨f,hnot⟩
  ·have f:iter (zbj ts) 0=some (.inl ()):=f;rw [f];exact ⟨true,rfl,fun _=>⟨by omega,fun i hi=>k i (by omega) hi⟩,fun _=>rfl⟩
  ·have f:iter (zbj ts) 0=some (.inr false):=f;rw [f];exact ⟨false,rfl,fun h=>(by cases h),fun p=>absurd (fun i _ hi=>p.2 i hi) hnot⟩
 ·intro i _ hi _ c;have j:ts[i]?=some ts[i]:=cq hi;obtain ⟨o1,o2,t,s⟩:=c _ j;have q:w64 ((i:Int)+1)=((i+1:Nat):Int):=by rw [zt (by omega) (by omega)];omega
  unfold zbj zcb;rw [if_pos (by simp [hi])];simp only [zr j,gp,zkq,o1,zg6];rw [if_neg (by simp),if_neg (by simp;omega)];by_cases n:(i:Int)>0
  ·have m:ts[i - 1]?=some (ts[i - 1]'(by omega)):=cq (by omega);have e:w64 ((i:Int) - 1)=((i - 1:Nat):Int):=by rw [zt (by omega) (by omega)];omega
   rw [if_pos (by simpa using n)];simp only [e,zr m,gp,ziI,s _ (by omega) m,q];rfl
  ·rw [if_neg (by simpa using n)];simp [q]
 ·intro i _ hi _ c;have j:ts[i]?=some ts[i]:=cq hi;unfold zbj zcb;rw [if_pos (by simp [hi])];simp only [zr j,gp,zkq,zg6];cases hp:ptB ts[i].1 with
  | false=>simp
  | true=>
   rw [if_neg (by simp)];by_cases g:0<=ts[i].2/\ts[i].2<=159
   ·rw [if_neg (by simp [g])];by_cases n:(i:Int)>0
    ·have m:ts[i - 1]?=some (ts[i - 1]'(by omega)):=cq (by omega);have e:w64 ((i:Int) - 1)=((i - 1:Nat):Int):=by rw [zt (by omega) (by omega)];omega
     rw [if_pos (by simpa using n)];simp only [e,zr m,gp,ziI];cases r:lp (ts[i - 1]'(by omega)).1 ts[i].1 with
     | false=>simp
     | true=>
      refine absurd (fun x a=>?_) c;rw [j] at a;injection a with a;subst a
      exact ⟨hp,g.1,g.2,fun y _ d=>by rw [m] at d;injection d with d;subst d;exact r⟩
    ·refine absurd (fun x a=>?_) c;rw [j] at a;injection a with a;subst a
     exact ⟨hp,g.1,g.2,fun y u _=>by omega⟩
   ·rw [if_pos (by simp only [g,decide_false];rfl)];simp
 ·intro _;unfold zbj;rw [if_neg (by simp)]
def zbo (set:TSet) (ts:List Plc):Prop:=FormOk ts/\∀ x∈ts,0<=x.2/\x.2<=(set.2.length:Int) - 1
theorem zi2 (set:TSet) (h:set.2.length<=1048576) (k:Int):zbf set k=some (decide (0<=k/\k<=(set.2.length:Int) - 1))/\zfj set k=some (decide (0<=k/\k<=(set.2.length:Int) - 1)):=by
 have a:w64 ((set.2.length:Int) - 1)=(set.2.length:Int) - 1:=zt (by omega) (by omega);constructor
 ·unfold zbf zgC;simp only [a,zc9,gp]
 ·unfold zfj;simp only [a,zg6,gp]
theorem zrY (set:TSet) (hT:Tame set) (ts:List Plc) (h:ts.length<=2000000):∃ b,zeW set ts=some b/\(b=true↔SetOk set/\zbo set ts):=by
 obtain ⟨a,n,_,e⟩:=zqi set hT;obtain ⟨f,p,g⟩:=znQ ts h;unfold zeW;simp only [n,gp];cases a with
 | false=>exact ⟨false,rfl,fun h=>(by cases h),fun h=>e.2 h.1⟩
 | true=>
  rw [if_pos rfl];simp only [p,gp];cases f with
  | false=>exact ⟨false,rfl,fun h=>(by cases h),fun h=>g.2 h.2.1⟩
  | true=>
   rw [if_pos rfl];unfold zer zaO zeq;have j:∀ b∈ts,(fun q0=>zaC q0 set) b=some (!decide (0<=b.2/\b.2<=(set.2.length:Int) - 1)):=by
    intro b _;simp only [zaC,(zi2 set hT.t b.2).1,gp]
   rcases zp2 ts h (fun q0=>zaC q0 set) (fun b=>!decide (0<=b.2/\b.2<=(set.2.length:Int) - 1)) j (zaN ts fun q0=>zaC q0 set) (fun i=>rfl) with ⟨d,c⟩ | ⟨k,d,hk,_,b,hb,hq⟩
   ·rw [d];refine ⟨true,rfl,fun _=>⟨e.1 rfl,g.1 rfl,fun x q=>?_⟩,fun _=>rfl⟩;have:=c x q;simpa using this
   ·rw [d];refine ⟨false,?_,fun h=>(by cases h),fun m=>?_⟩
    ·simp
    ·have:=m.2.2 b (fd hb);simp at hq;omega
theorem zwF (set:TSet) (hT:Tame set) (ts:List Plc) (h:ts.length<=2000000):∃ b,zmk set ts=some b/\(b=true↔zbo set ts):=by
 obtain ⟨f,p,j⟩:=zsn ts h;unfold zmk zlw;simp only [p,gp];cases f with
 | false=>exact ⟨false,rfl,fun h=>(by cases h),fun h=>j.2 h.1⟩
 | true=>
  rw [if_neg (by simp)];have key:=zkm (fun i=>(i:Int)) 0 ts.length (fun i=>∀ x,ts[i]?=some x->0<=x.2/\x.2<=(set.2.length:Int) - 1) (zcv set ts) (by omega) ?_ ?_ ?_
  ·rcases key with ⟨e,g⟩ | ⟨e,hnot⟩
   ·have e:iter (zcv set ts) 0=some (.inl ()):=e;rw [e];refine ⟨true,rfl,fun _=>⟨j.1 rfl,fun x c=>?_⟩,fun _=>rfl⟩;obtain ⟨i,hi⟩:=cy c;exact g i (by omega) (zu hi) x hi
   ·have e:iter (zcv set ts) 0=some (.inr false):=e;rw [e];exact ⟨false,rfl,fun h=>(by cases h),fun m=>absurd (fun i _ hi x c=>m.2 x (fd c)) hnot⟩
  ·intro i _ hi _ d;have c:ts[i]?=some ts[i]:=cq hi;have k:w64 ((i:Int)+1)=((i+1:Nat):Int):=by rw [zt (by omega) (by omega)];omega
   unfold zcv;rw [if_pos (by simp [hi])];simp only [zr c,gp,(zi2 set hT.t _).2,k];rw [if_neg (by simp only [d _ c];simp)]
  ·intro i _ hi _ d;have c:ts[i]?=some ts[i]:=cq hi;unfold zcv;rw [if_pos (by simp [hi])];simp only [zr c,gp,(zi2 set hT.t _).2];have:¬(0<=ts[i].2/\ts[i].2<=(set.2.length:Int) - 1):=fun n=>d fun x a=>by rw [c] at a;injection a with a;subst a;exact n
   rw [if_pos (by simp only [this,decide_false];rfl)]
  ·intro _;unfold zcv;rw [if_neg (by simp)]
def Srt (ts:List Plc):Prop:=∀ (i j:Nat) (x y:Plc),i<j->ts[i]?=some x->ts[j]?=some y->lp x.1 y.1=true
theorem FormOk.srt {ts:List Plc} (h:FormOk ts):Srt ts:=by
 intro i j
 induction j with
 | zero=>intro x y c;omega
 | succ j ih=>
  intro x y c b e;have g:=zu e;have d:ts[j]?=some (ts[j]'(by omega)):=cq (by omega);have f:=(h.2 (j+1) g y e).2.2.2 _ (by omega) d;by_cases a:i=j
  ·subst a;rw [d] at b;injection b with b;subst b;exact f
  ·exact zky (ih x _ (by omega) b d) f
def AtP (ts:List Plc) (p:Pt) (k:Int):Prop:=(0<=k/\∃ x,ts[k.toNat]?=some x/\x.1=p)\/(k = -1/\∀ x∈ts,x.1≠p)
theorem AtP.uniq {ts:List Plc} (hs:Srt ts) {p:Pt} {k k':Int} (h:AtP ts p k) (h':AtP ts p k'):k=k':=by
 rcases h with ⟨f,x,c,e⟩ | ⟨f,h1⟩<;>rcases h' with ⟨d,y,a,b⟩ | ⟨d,h3⟩
 ·rcases gi k.toNat k'.toNat with h | h | h
  ·exact absurd (e.trans b.symm) (zkz (hs _ _ _ _ h c a))
  ·omega
  ·exact absurd (b.trans e.symm) (zkz (hs _ _ _ _ h a c))
 ·exact absurd e (h3 x (fd c))
 ·exact absurd b (h1 y (fd a))
 ·omega
theorem zu2 {ts:List Plc} (hs:Srt ts) (hl:ts.length<=1048576) {p:Pt} {F:Int×Int->Option ((Int×Int) ⊕ Int)}
  (hF:∀ (lo hi:Nat) (x:Plc),lo<hi->hi<=ts.length->ts[(lo+hi) / 2]?=some x->F ((lo:Int),(hi:Int))=some (.inl (if lp x.1 p then ((((lo+hi) / 2+1:Nat):Int),(hi:Int)) else ((lo:Int),(((lo+hi) / 2:Nat):Int)))))
  (hstop:∀ (lo:Int),F (lo,lo)=some (.inr lo)) :
  ∃ k:Nat,iter F (0,(ts.length:Int))=some (k:Int)/\k<=ts.length/\(∀ (i:Nat) x,i<k->ts[i]?=some x->lp x.1 p=true)/\∀ (i:Nat) x,k<=i->ts[i]?=some x->lp x.1 p=false:=by
 have key:=zz (F:=F) (fun s=>∃ lo hi:Nat,s=((lo:Int),(hi:Int))/\lo<=hi/\hi<=ts.length/\(∀ (i:Nat) x,i<lo->ts[i]?=some x->lp x.1 p=true)/\∀ (i:Nat) x,hi<=i->ts[i]?=some x->lp x.1 p=false)
  (fun s=>(s.2 - s.1).toNat) (fun z=>∃ k:Nat,z=(k:Int)/\k<=ts.length/\(∀ (i:Nat) x,i<k->ts[i]?=some x->lp x.1 p=true)/\∀ (i:Nat) x,k<=i->ts[i]?=some x->lp x.1 p=false) ?_ (0,(ts.length:Int))
  ⟨0,ts.length,rfl,by omega,fy _,fun i x hi=>by omega,fun i x hi b=>by have:=zu b;omega⟩
 ·obtain ⟨z,m,k,rfl,h⟩:=key;exact ⟨k,m,h⟩
 ·rintro s ⟨lo,hi,rfl,n,e,g,f⟩;by_cases c:lo<hi
  ·left;have b:ts[(lo+hi) / 2]?=some (ts[(lo+hi) / 2]'(by omega)):=cq (by omega);refine ⟨_,hF lo hi _ c e b,?_⟩;cases hc:lp (ts[(lo+hi) / 2]'(by omega)).1 p with
   | true=>
    rw [if_pos rfl];refine ⟨⟨(lo+hi) / 2+1,hi,rfl,by omega,e,fun i x d a=>?_,f⟩,by simp only [];omega⟩;rcases gd i ((lo+hi) / 2) with h | h
    ·exact zky (hs _ _ _ _ h a b) hc
    ·have:i=(lo+hi) / 2:=by omega
     subst this;rw [b] at a;injection a with a;subst a;exact hc
   | false=>
    rw [if_neg (by simp)];refine ⟨⟨lo,(lo+hi) / 2,rfl,by omega,by omega,g,fun i x d a=>?_⟩,by simp only [];omega⟩;rcases gd ((lo+hi) / 2) i with h | h
    ·have j:=hs _ _ _ _ h b a;cases hc2:lp x.1 p with
     | false=>rfl
     | true=>rw [zky j hc2] at hc;cases hc
    ·have:i=(lo+hi) / 2:=by omega
     subst this;rw [b] at a;injection a with a;subst a;exact hc
  ·right;have:lo=hi:=by omega
   subst this;exact ⟨_,hstop _,lo,rfl,e,g,f⟩
theorem zqe {ts:List Plc} (hs:Srt ts) {p:Pt} {k:Nat} (h1:∀ (i:Nat) x,i<k->ts[i]?=some x->lp x.1 p=true) (h2:∀ (i:Nat) x,k<=i->ts[i]?=some x->lp x.1 p=false)
  (h:∀ x,ts[k]?=some x->x.1≠p):∀ x∈ts,x.1≠p:=by
 intro x c e;obtain ⟨i,hi⟩:=cy c;rcases gi i k with hik | hik | hik
 ·exact zkz (h1 i x hik hi) e
 ·subst hik;exact h x hi e
 ·have b:ts[k]?=some (ts[k]'(by have:=zu hi;omega)):=cq (by have:=zu hi;omega);have a:=hs _ _ _ _ hik b hi;rw [e] at a;rw [h2 k _ (fy _) b] at a;cases a
theorem zoo {ts:List Plc} (hs:Srt ts) (hl:ts.length<=1048576) (p:Pt):∃ k,zay ts p=some k/\AtP ts p k:=by
 have key:=zu2 hs hl (p:=p) (F:=zem ts p) ?_ ?_
 ·obtain ⟨k,q,r,h,g⟩:=key;unfold zay ziT zgm;simp only [q,gp];by_cases b:k<ts.length
  ·have c:ts[k]?=some ts[k]:=cq b;rw [if_pos (by simp [b])];simp only [zr c,gp];by_cases d:ts[k].1=p
   ·rw [if_pos (by simp [d])];exact ⟨_,rfl,.inl ⟨by omega,_,by simpa using c,d⟩⟩
   ·rw [if_neg (by simp;intro e f;exact d (zwZ e f))];exact ⟨_,rfl,.inr ⟨rfl,zqe hs h g fun x a=>by rw [c] at a;injection a with a;subst a;exact d⟩⟩
  ·rw [if_neg (by simp;omega)];refine ⟨_,rfl,.inr ⟨rfl,zqe hs h g fun x a=>by have:=zu a;omega⟩⟩
 ·intro lo hi x b n c;unfold zem;have e:w64 ((lo:Int)+(hi:Int))=((lo+hi:Nat):Int):=by rw [zt (by omega) (by omega)];omega
  have f:Int.tdiv ((lo+hi:Nat):Int) 2=(((lo+hi) / 2:Nat):Int):=rfl;have j:w64 (((lo+hi) / 2:Nat):Int)=(((lo+hi) / 2:Nat):Int):=zt (by omega) (by omega);have m:w64 ((((lo+hi) / 2:Nat):Int)+1)=(((lo+hi) / 2+1:Nat):Int):=by rw [zt (by omega) (by omega)];omega
  rw [if_pos (by simp [b])];simp only [e,f,j,m,zr c,gp,ziI];cases lp x.1 p<;>rfl
 ·intro lo;unfold zem;rw [if_neg (by simp)]
theorem ztg {ts:List Plc} (hs:Srt ts) (hl:ts.length<=1048576) (p:Pt):∃ k,zc4 ts p=some k/\AtP ts p k:=by
 have hc:∀ x:Plc,zO x p=some (zuh x.1 p):=fun x=>by unfold zO;rw [zrD];rfl
 have key:=zu2 hs hl (p:=p) (F:=zH ts p fun q0 q=>zO q0 q) ?_ ?_
 ·obtain ⟨k,s,t,f,e⟩:=key;unfold zc4 zN zaz;simp only [s,gp];by_cases b:k<ts.length
  ·have c:ts[k]?=some ts[k]:=cq b;rw [if_pos (by simp [b])];simp only [zr c,gp,hc];by_cases d:ts[k].1=p
   ·rw [if_pos (by simp [znR,d])];exact ⟨_,rfl,.inl ⟨by omega,_,by simpa using c,d⟩⟩
   ·rw [if_neg (by simp [znR,d])];exact ⟨_,rfl,.inr ⟨rfl,zqe hs f e fun x a=>by rw [c] at a;injection a with a;subst a;exact d⟩⟩
  ·rw [if_neg (by simp;omega)];refine ⟨_,rfl,.inr ⟨rfl,zqe hs f e fun x a=>by have:=zu a;omega⟩⟩
 ·intro lo hi x b n c;unfold zH;have h:w64 ((lo:Int)+(hi:Int))=((lo+hi:Nat):Int):=by rw [zt (by omega) (by omega)];omega
  have g:IntKind.wrap .u64 ((lo+hi:Nat):Int)=((lo+hi:Nat):Int):=by
   show ((lo+hi:Nat):Int) % 18446744073709551616=((lo+hi:Nat):Int);omega
  have r:Int.fdiv ((lo+hi:Nat):Int) (2 ^ 1)=(((lo+hi) / 2:Nat):Int):=by
   rw [Int.fdiv_eq_ediv_of_nonneg _ (by omega)];omega
  have j:w64 (((lo+hi) / 2:Nat):Int)=(((lo+hi) / 2:Nat):Int):=zt (by omega) (by omega);have m:w64 ((((lo+hi) / 2:Nat):Int)+1)=(((lo+hi) / 2+1:Nat):Int):=by rw [zt (by omega) (by omega)];omega
  rw [if_pos (by simp [b])];simp only [h,g,r,j,m,zr c,gp,hc,znC];cases lp x.1 p<;>rfl
 ·intro lo;unfold zH;rw [if_neg (by simp)]
def zoi (p:Pt) (dir:Int):Pt:=if dir=0 then (p.1,p.2+1) else (p.1+1,p.2)
theorem zxV {p:Pt} (hp:ptB p=true) {dir:Int} (hd:dir=0\/dir=1):za1 p dir=some (zoi p dir)/\zW p dir=some (zoi p dir):=by
 obtain ⟨c,d,f,e⟩:=zo1.1 hp;have w0:∀ n:Int,-60<=n->n<=60->w64 (n+1)=n+1/\w64 (n+0)=n:=fun n a b=>⟨zt (by omega) (by omega),by rw [Int.add_zero];exact zt (by omega) (by omega)⟩;rcases hd with rfl | rfl
 ·refine ⟨?_,?_⟩
  ·unfold za1 zV zoi;simp [(w0 p.2 f e).1]
  ·unfold zW zbm zoi idx;simp [(w0 p.2 f e).1,zt (n:=p.1) (by omega) (by omega)]
 ·refine ⟨?_,?_⟩
  ·unfold za1 zV zoi;simp [(w0 p.1 c d).1]
  ·unfold zW zbm zoi idx;simp [(w0 p.1 c d).1,zt (n:=p.2) (by omega) (by omega)]
theorem zyA {set:TSet} (h:SetOk set) {a b dir:Int} (ha0:0<=a) (ha:a<=(set.2.length:Int) - 1) (hb0:0<=b) (hb:b<=(set.2.length:Int) - 1) (hd:dir=0\/dir=1) :
  ∃ v,zeM set a dir b=some v/\za8 set a dir b=some v/\0<=v/\v<=4:=by
 obtain ⟨x,t,f⟩:=zab (l:=set.2) ha0 (by omega);obtain ⟨y,C,d⟩:=zab (l:=set.2) hb0 (by omega);obtain ⟨_,H,_,xs⟩:=h.tile _ (zu f) x f;obtain ⟨_,M,_,ys⟩:=h.tile _ (zu d) y d;obtain ⟨g,s,q⟩:=zab (l:=x.2) (i:=dir) (by omega) (by omega);obtain ⟨A,m,w⟩:=zab (l:=y.2) (i:=dir+2) (by omega) (by omega);have D:=xs g (fd q);have c:zjh dir=some (dir+2)/\zjo dir=some (dir+2):=by
  rcases hd with rfl | rfl
  ·exact ⟨rfl,rfl⟩
  ·exact ⟨rfl,rfl⟩
 have n:∃ v,zbu set g=some v/\zaD set a dir=some v/\0<=v/\v<=4:=by
  unfold zbu zaD;simp only [t,s,gp];have L:=h.glues;by_cases r:g=0
  ·subst r;exact ⟨0,rfl,rfl,by omega,by omega⟩
  ·rw [if_neg (by simpa using r),if_pos (by simp;omega)];have B:w64 (g - 1)=g - 1:=zt (by omega) (by omega);obtain ⟨u,E,e⟩:=zab (l:=set.1) (i:=g - 1) (by omega) (by omega);obtain ⟨_,J,I,_⟩:=h.glue _ (zu e) u e;simp only [B,E,gp];exact ⟨_,rfl,rfl,by omega,by omega⟩
 obtain ⟨v,k,p,G,F⟩:=n;unfold zeM za8;simp only [t,C,s,c.1,c.2,m,k,p,gp];by_cases j:g=A
 ·rw [if_neg (by simp [j]),if_pos (by simp [j])];exact ⟨v,rfl,rfl,G,F⟩
 ·rw [if_pos (by simp [j]),if_neg (by simp [j])];exact ⟨0,rfl,rfl,by omega,by omega⟩
section
variable {set:TSet} {ts:List Plc}
theorem zyM (hS:SetOk set) (hA:zbo set ts) {i:Nat} {x:Plc} (hx:ts[i]?=some x) {dir:Int} (hd:dir=0\/dir=1) :
  ∃ nb:List Bd,nb.length<=1/\(∀ b∈nb,WB ts.length b)/\
   (∀ (m a:List Bd),a.length<=1048576->zbs set ts (m,(i:Int)) (a,dir)=some (.inl (a++nb,w64 (dir - 1))))/\
   (∀ (m a:List Bd),a.length<=1048576->∀ j,idx [1,0] j=some dir->0<=j->j<2->zK (fun s q0 O=>zP set ts s (q0,O)) ts ((i:Int),m) x (j,a)=some (.inl (w64 (j+1),a++nb))):=by
 have d:=hA.1.srt;have U:ts.length<=500:=hA.1.1;have hi:=zu hx;obtain ⟨G,R,x1,_⟩:=hA.1.2 i hi x hx;obtain ⟨q,h⟩:=zxV G hd;obtain ⟨k,L,n⟩:=zoo d (by omega) (zoi x.1 dir);obtain ⟨T,r,u⟩:=ztg d (by omega) (zoi x.1 dir);obtain rfl:=n.uniq d u;have w:decide (dir≥0)=true:=by simp;omega
 have p:=hA.2 x (fd hx);rcases n with ⟨B,y,g,A⟩ | ⟨B,_⟩
 ·have t:=hA.2 y (fd g);obtain ⟨v,P,D,Q,S⟩:=zyA hS p.1 p.2 t.1 t.2 hd;have F:(i:Int)≠k:=fun e=>by
   subst e;simp only [bb] at g;rw [hx] at g;injection g with g;subst g
   rcases hd with e | e
   ·have E:=congrArg Prod.snd A;rw [e] at E;have M:(zoi x.1 0).2=x.1.2+1:=rfl;omega
   ·have E:=congrArg Prod.fst A;rw [e] at E;have M:(zoi x.1 1).1=x.1.1+1:=rfl;omega
  have N:=zu g;refine ⟨if v>0 then [((i:Int),k,v)] else [],by split<;>simp,?_,?_,?_⟩
  ·intro b C;split at C
   ·rw [fg] at C;subst C;exact ⟨by simp only [];omega,by simp only [];omega,B,by simp only [];omega,F,Q,by simp only [];omega⟩
   ·cases C
  ·intro m a f;unfold zbs zgl zcH;rw [if_pos w];simp only [zr hx,q,L,gp];rw [if_neg (by simp;omega)];simp only [zf4 B g,P,gp];by_cases c:v>0
   ·rw [if_pos (by simpa using c),if_pos c,zQ (by simp;omega) (by simp;omega)];rfl
   ·rw [if_neg (by simpa using c),if_neg c,bh]
  ·intro m a f j I H J;unfold zK zad zP;rw [if_pos (by simp;omega)];simp only [I,h,r,gp];rw [if_pos (by simp;omega)];simp only [zr hx,zf4 B g,D,gp];by_cases c:v>0
   ·rw [if_pos (by simpa using c),if_pos c,zQ (by simp;omega) (by simp;omega)];rfl
   ·rw [if_neg (by simpa using c),if_neg c,bh];rfl
 ·refine ⟨[],by simp,by simp,?_,?_⟩
  ·intro m a f;unfold zbs zgl zcH;rw [if_pos w];simp only [zr hx,q,L,gp];rw [if_pos (by simp;omega),bh]
  ·intro m a f j I H J;unfold zK zad;rw [if_pos (by simp;omega)];simp only [I,h,r,gp];rw [if_neg (by simp;omega),bh]
theorem zzo (hS:SetOk set) (hA:zbo set ts) {i:Nat} {x:Plc} (hx:ts[i]?=some x) :
  ∃ nb:List Bd,nb.length<=2/\(∀ b∈nb,WB ts.length b)/\
   (∀ (a:List Bd),a.length<=90000->iter (zbs set ts (a,(i:Int))) (a,1)=some (a++nb))/\
   (∀ (a:List Bd),a.length<=90000->iter (zK (fun s q0 k=>zP set ts s (q0,k)) ts ((i:Int),a) x) (0,a)=some (a++nb)):=by
 obtain ⟨e,t,h,p,d1⟩:=zyM hS hA hx (dir:=1) (.inr rfl);obtain ⟨q,r,j,n,g⟩:=zyM hS hA hx (dir:=0) (.inl rfl);refine ⟨e++q,by simp;omega,fun b m=>(ep.1 m).elim (h b) (j b),fun a c=>?_,fun a c=>?_⟩
 ·rw [zD (p a a (by omega))];have d:w64 ((1:Int) - 1)=0:=by decide
  rw [d,zD (n a (a++e) (by simp;omega))];have f:w64 ((0:Int) - 1) = -1:=by decide
  rw [f,bg];apply zI;unfold zbs;rw [if_neg (by simp)]
 ·rw [zD (d1 a a (by omega) 0 rfl (by omega) (by omega))];have d:w64 ((0:Int)+1)=1:=by decide
  rw [d,zD (g a (a++e) (by simp;omega) 1 rfl (by omega) (by omega))];have f:w64 ((1:Int)+1)=2:=by decide
  rw [f,bg];apply zI;unfold zK;rw [if_neg (by simp)]
theorem zxE (hS:SetOk set) (hA:zbo set ts):∃ bs:List Bd,zcX set ts=some bs/\zg0 set ts=some bs/\WBs ts.length bs/\bs.length<=1000:=by
 have x:ts.length<=500:=hA.1.1;have key:∀ (d i:Nat) (a:List Bd),i+d=ts.length->a.length<=2*i->(∀ b∈a,WB ts.length b)->
   ∃ bs:List Bd,iter (zbt set ts) (a,(i:Int))=some bs/\iter (zL (fun s q0 g=>zP set ts s (q0,g)) ts) ((i:Int),a)=some bs/\(∀ b∈bs,WB ts.length b)/\bs.length<=2*ts.length:=by
  intro d
  induction d with
  | zero=>
   intro i a hi c k;have:i=ts.length:=by omega
   subst this;refine ⟨a,zI ?_,zI ?_,k,c⟩
   ·unfold zbt;rw [if_neg (by simp)]
   ·unfold zL;rw [if_neg (by simp)]
  | succ d ih=>
   intro i a hi c k;have e:i<ts.length:=by omega
   have m:ts[i]?=some ts[i]:=cq e;obtain ⟨nb,y,v,p,q⟩:=zzo hS hA m;have f:w64 ((i:Int)+1)=((i+1:Nat):Int):=by rw [zt (by omega) (by omega)];omega
   have t:zbt set ts (a,(i:Int))=some (.inl (a++nb,((i+1:Nat):Int))):=by
    unfold zbt ziR;rw [if_pos (by simp [e])];simp only [p a (by omega),gp,f]
   have r:zL (fun s q0 g=>zP set ts s (q0,g)) ts ((i:Int),a)=some (.inl (((i+1:Nat):Int),a++nb)):=by
    unfold zL zb0;rw [if_pos (by simp [e])];simp only [zr m,q a (by omega),gp,f]
   rw [zD t,zD r];exact ih (i+1) (a++nb) (by omega) (by simp;omega) fun b n=>(ep.1 n).elim (k b) (v b)
 obtain ⟨bs,j,h,u,w⟩:=key ts.length 0 [] (by omega) (by simp) (by simp);refine ⟨bs,?_,?_,znE.2 u,by omega⟩
 ·unfold zcX zeI zcY zb1;have h:iter (zL (fun s q0 g=>zP set ts s (q0,g)) ts) (0,[])=some bs:=h;simp only [gp,h]
 ·unfold zg0 ziS;have j:iter (zbt set ts) ([],0)=some bs:=j;simp only [gp,j]
theorem zhT (hT:Tame set) (h:ts.length<=1048576) (t:Int):∃ b,zaU (set,ts,t)=some b/\zfJ (set,ts,t)=some b/\(b=true->SetOk set/\zbo set ts):=by
 obtain ⟨a,H,u,s⟩:=zqi set hT;obtain ⟨D,A,r⟩:=zrY set hT ts (by omega);obtain ⟨n,E,q⟩:=zwF set hT ts (by omega);unfold zaU zfJ zff zlP;simp only [u,A,E,gp];by_cases g:(ts.length:Int)=0
 ·rw [if_pos (by simpa using g)];refine ⟨false,rfl,?_,fun h=>by cases h⟩;cases a<;>cases n<;>simp [g]
 rw [if_neg (by simpa using g)];cases hva:D with
 | false=>
  subst hva;refine ⟨false,rfl,?_,fun h=>by cases h⟩;cases p:a with
  | false=>rfl
  | true=>
   cases f:n with
   | false=>rfl
   | true=>
    have:=r.2 ⟨s.1 p,q.1 f⟩;cases this
 | true=>
  obtain ⟨hS,j⟩:=r.1 hva;have p:a=true:=s.2 hS;have f:n=true:=q.2 j;subst p;subst f;have c:zeS t=some (decide (1<=t/\t<=16))/\zd2 t=some (decide (1<=t/\t<=16)):=by
   constructor
   ·unfold zeS;rw [zc9];rfl
   ·unfold zd2;rw [zg6];rfl
  simp only [c.1,c.2,gp];by_cases m:1<=t/\t<=16
  ·obtain ⟨bs,C,v,G,I⟩:=zxE hS j;obtain ⟨x,y,z,w,F,B,d⟩:=zvH (p0:=set) (p1:=ts) (by omega) (by have:=j.1.1;omega) (by omega:bs.length<=100000) G C v t;simp only [m,decide_true,F,B,gp];have k:ts≠[]:=fun e=>g (by rw [e];rfl);cases y with
   | true=>
    simp only [aw,aq,if_false] at d ⊢;injection d with d e4
    subst d;subst e4;cases x with
    | true=>exact ⟨true,by simp,by simp [k],fun _=>⟨hS,j⟩⟩
    | false=>exact ⟨false,by simp,by simp,fun h=>by cases h⟩
   | false=>
    simp only [Bool.not_false,if_true] at d ⊢;injection d with d e4
    subst d;subst e4;exact ⟨false,by simp,by simp,fun h=>by cases h⟩
  ·refine ⟨false,?_,?_,fun h=>by cases h⟩
   ·simp [m]
   ·simp [m,g]
end
end Go.Lf
namespace Go.Lf
open Go Go.Proofs Go.Sort
def PW (ts:List Plc):Prop:=ts.Pairwise fun a b=>lp a.1 b.1=true
theorem PW.srt {ts:List Plc} (h:PW ts):Srt ts:=by
 intro i j x y c b a;have hi:=zu b;have d:=zu a;have:=fk.1 h i j hi d c;rw [cq hi] at b;rw [cq d] at a;injection b with b
 injection a with a
 rw [←b,←a];exact this
def ins (x:Plc):List Plc->List Plc
 | []=>[x]
 | y::l=>if lp x.1 y.1=true then x::y::l else y::ins x l
theorem zkI (x:Plc):∀ l,(ins x l).Perm (l++[x])
 | []=>.refl _
 | y::l=>by
  unfold ins;split
  ·exact (List.perm_append_singleton x (y::l)).symm
  ·exact (zkI x l).cons y
theorem ztf {x z:Plc} {l:List Plc} (h:z∈ins x l):z=x\/z∈l:=by
 have:=(zkI x l).mem_iff.1 h;rcases ep.1 this with h | h
 ·exact .inr h
 ·exact .inl (fg.1 h)
theorem zuK {x:Plc}:∀ {l:List Plc},PW l->(∀ y∈l,y.1≠x.1)->PW (ins x l)
 | [],_,_=>List.pairwise_singleton _ _
 | y::l,h,hne=>by
  have c:=(fj.1 h).1;have d:=(fj.1 h).2;unfold ins;split
  ·rename_i hl;exact fj.2 ⟨fun z a=>by
    rcases eu.1 a with rfl | a
    ·exact hl
    ·exact zky hl (c z a),h⟩
  ·rename_i hl;have b:lp y.1 x.1=true:=zl2 (by simpa using hl) (fun e=>hne y (by simp) e.symm);exact fj.2 ⟨fun z a=>by
    rcases ztf a with rfl | a
    ·exact b
    ·exact c z a,zuK d fun z a=>hne z (by simp [a])⟩
theorem ztC (ts:List Plc) (hl:ts.length<=100000) (p:Pt) (k:Int):zjz ts p k=some (ins (p,k) ts):=by
 have rest:∀ (d i:Nat) (out:List Plc),i+d=ts.length->out.length<=i+1->iter (zX ts p k) (true,(i:Int),out)=some (true,out++ts.drop i):=by
  intro d
  induction d with
  | zero=>
   intro i out hi j;have:i=ts.length:=by omega
   subst this;apply zI;unfold zX;rw [if_neg (by simp),List.drop_length,bh]
  | succ d ih=>
   intro i out hi j;have c:i<ts.length:=by omega
   have h:ts[i]?=some ts[i]:=cq c;have g:w64 ((i:Int)+1)=((i+1:Nat):Int):=by rw [zt (by omega) (by omega)];omega
   have a:zX ts p k (true,(i:Int),out)=some (.inl (true,((i+1:Nat):Int),out++[ts[i]])):=by
    unfold zX zej zek;rw [if_pos (by simp [c]),if_neg (by simp),if_neg (by simp)];simp only [zr h,gp,zQ (bytes:=24) (l:=out) (l2:=[ts[i]]) (by simp;omega) (by simp;omega),g]
   rw [zD a,ih (i+1) _ (by omega) (by simp;omega),bj c];simp
 have f:∀ (d i:Nat) (out:List Plc),i+d=ts.length->out.length<=i->∃ b o,iter (zX ts p k) (false,(i:Int),out)=some (b,o)/\zfN p k b o=some (out++ins (p,k) (ts.drop i)):=by
  intro d
  induction d with
  | zero=>
   intro i out hi j;have:i=ts.length:=by omega
   subst this;refine ⟨false,out,zI ?_,?_⟩
   ·unfold zX;rw [if_neg (by simp)]
   ·unfold zfN zfM;rw [if_pos (by simp),List.drop_length,zQ (by simp;omega) (by simp;omega)];rfl
  | succ d ih=>
   intro i out hi j;have c:i<ts.length:=by omega
   have h:ts[i]?=some ts[i]:=cq c;have g:w64 ((i:Int)+1)=((i+1:Nat):Int):=by rw [zt (by omega) (by omega)];omega
   have hd:=bj c;cases hc:lp p ts[i].1 with
   | true=>
    have a:zX ts p k (false,(i:Int),out)=some (.inl (true,((i+1:Nat):Int),out++[(p,k)]++[ts[i]])):=by
     unfold zX zej zek;rw [if_pos (by simp [c]),if_pos (by simp)];simp only [zr h,gp,ziI,hc,if_true,zQ (bytes:=24) (l:=out) (l2:=[(p,k)]) (by simp;omega) (by simp;omega),
      zQ (bytes:=24) (l:=out++[(p,k)]) (l2:=[ts[i]]) (by simp;omega) (by simp;omega),g]
    refine ⟨true,_,(zD a).trans (rest d (i+1) _ (by omega) (by simp;omega)),?_⟩;unfold zfN zfM;rw [if_neg (by simp),hd,ins,if_pos hc];simp
   | false=>
    have a:zX ts p k (false,(i:Int),out)=some (.inl (false,((i+1:Nat):Int),out++[ts[i]])):=by
     unfold zX zej zek;rw [if_pos (by simp [c]),if_pos (by simp)];simp only [zr h,gp,ziI,hc,zQ (bytes:=24) (l:=out) (l2:=[ts[i]]) (by simp;omega) (by simp;omega),g];rfl
    obtain ⟨b,o,e,m⟩:=ih (i+1) (out++[ts[i]]) (by omega) (by simp;omega);refine ⟨b,o,(zD a).trans e,?_⟩;rw [m,hd,ins,if_neg (by simp [hc])];simp
 obtain ⟨b,o,e,m⟩:=f ts.length 0 [] (by omega) (by simp);have e:iter (zX ts p k) (false,0,[])=some (b,o):=e;unfold zjz;simp only [e,gp,m];simp
theorem zu3 {pl ts:List Plc} (hl:pl.length<=1048576) (hp:ts.Perm pl) (hs:PW ts):zfd pl=some ts:=by
 unfold zfd;rw [if_pos (by omega)];congr 1;have u:(fun x y:Plc=>decide (zbi x y<0))=ltOf zbi:=rfl;have h:=pdq_sorts (ltOf zbi) zy5 pl.toArray 0 pl.length (Lib.bitLen pl.length) true true (Nat.zero_le _) (by simp) (Or.inl rfl);obtain ⟨r,D⟩:∃ r:Array Plc,r=pdq (ltOf zbi) pl.toArray 0 pl.length (Lib.bitLen pl.length) true true:=⟨_,rfl⟩;show (pdq (ltOf zbi) pl.toArray 0 pl.length (Lib.bitLen pl.length) true true).toList=ts;rw [←D] at h ⊢;obtain ⟨⟨n,_,s⟩,w⟩:=h;have n:r.size=pl.length:=by simpa using n
 have c:r.toList.Perm pl:=by
  have E:(r.extract 0 pl.length).toList=r.toList:=by rw [←n];simp
  have C:(pl.toArray.extract 0 pl.length).toList=pl:=by simp
  rw [E,C] at s;exact s
 have g:∀ a b:Plc,ltOf zbi a b=lp a.1 b.1:=by
  intro a b;have:=znC (a:=a.1) (b:=b.1);exact this
 refine List.Perm.eq_of_pairwise (le:=fun a b=>lp b.1 a.1=false) ?_ ?_ ?_ (c.trans hp.symm)
 ·intro a b F v A t;have d:a.1=b.1:=Classical.byContradiction fun e=>by
   have:=zl2 A (fun B=>e B.symm);rw [this] at t;cases t
  have q:a∈ts:=hp.mem_iff.2 (c.mem_iff.1 F);obtain ⟨i,hi⟩:=cy q;obtain ⟨j,f⟩:=cy v;have hs':=hs.srt;rcases gi i j with h | h | h
  ·exact absurd d (zkz (hs' i j a b h hi f))
  ·subst h;rw [hi] at f;injection f
  ·exact absurd d.symm (zkz (hs' j i b a h f hi))
 ·rw [fk];intro i j hi f k;have m:i<r.size:=by simpa using hi
  have p:j<r.size:=by simpa using f
  have:=w i j (by omega) k (by omega);rw [g,getElem!_pos r i m,getElem!_pos r j p] at this;simpa using this
 ·refine hs.imp fun {a b} d=>?_;cases h:lp b.1 a.1 with
  | false=>rfl
  | true=>exact absurd rfl (zkz (zky d h))
end Go.Lf
namespace Go.Lf
open Go
def AtV (l:List Plc) (p:Pt) (v:Int):Prop:=(∃ k,v=k/\(p,k)∈l)\/(v = -1/\∀ x∈l,x.1≠p)
theorem zls (T:List Plc) (p:Pt):AtV T p (cat T p):=by
 unfold cat mhas mget;cases h:T.find? (fun q=>decide (q.1=p)) with
 | none=>
  have a:=List.find?_eq_none.1 h;rw [if_neg (by
   rw [bf];rintro ⟨x,b,hd⟩;exact a x b hd)]
  exact .inr ⟨rfl,fun x b e=>a x b (by simpa using e)⟩
 | some x=>
  have a:=fc h;have c:x.1=p:=by simpa using List.find?_some h
  rw [if_pos (bf.2 ⟨x,a,by simpa using c⟩)];refine .inl ⟨x.2,rfl,?_⟩;rw [←c];exact a
theorem AtV.perm {l l':List Plc} (h:l.Perm l') {p:Pt} {v:Int} (hv:AtV l p v):AtV l' p v:=by
 rcases hv with ⟨k,e,a⟩ | ⟨e,hn⟩
 ·exact .inl ⟨k,e,h.mem_iff.1 a⟩
 ·exact .inr ⟨e,fun x b=>hn x (h.mem_iff.2 b)⟩
theorem zzd {l:List Plc} (h:PW l) {p:Pt} {a b:Int} (ha:(p,a)∈l) (hb:(p,b)∈l):a=b:=by
 obtain ⟨i,hi⟩:=cy ha;obtain ⟨j,c⟩:=cy hb;have hs:=h.srt;rcases gi i j with h1 | h1 | h1
 ·exact absurd (rfl:(p,a).1=(p,b).1) (zkz (hs i j (p,a) (p,b) h1 hi c))
 ·subst h1;rw [hi] at c;injection c with c;injection c
 ·exact absurd (rfl:(p,b).1=(p,a).1) (zkz (hs j i (p,b) (p,a) h1 c hi))
theorem AtV.uniq {l:List Plc} (h:PW l) {p:Pt} {v v':Int} (h1:AtV l p v) (h2:AtV l p v'):v=v':=by
 rcases h1 with ⟨k,e,c⟩ | ⟨e,hn⟩<;>rcases h2 with ⟨d,b,a⟩ | ⟨b,hn'⟩
 ·rw [e,b];exact zzd h c a
 ·exact absurd rfl (hn' _ c)
 ·exact absurd rfl (hn _ a)
 ·rw [e,b]
theorem zwE {ts:List Plc} (h:PW ts) (hl:ts.length<=1000) (hn:∀ x∈ts,0<=x.2) (p:Pt) :
  ∃ k,zay ts p=some k/\∃ v,zcR ts p=some v/\AtV ts p v/\(k<0↔v<0):=by
 obtain ⟨k,a,c⟩:=zoo h.srt (by omega) p;refine ⟨k,a,?_⟩;unfold zcR;rw [a];simp only [gp];rcases c with ⟨d,x,b,rfl⟩ | ⟨rfl,hall⟩
 ·have hi:idx ts k=some x:=by unfold idx;rw [if_pos d];exact b
  have hm:=fd b;have:=hn x hm;rw [if_neg (by simp;omega),hi];exact ⟨x.2,rfl,.inl ⟨x.2,rfl,hm⟩,by omega⟩
 ·exact ⟨-1,by simp,.inr ⟨rfl,hall⟩,by omega⟩
theorem zvb {T ts:List Plc} (hp:T.Perm ts) (h:PW ts) (hl:ts.length<=1000) (hn:∀ x∈ts,0<=x.2) (p:Pt) :
  zcR ts p=some (cat T p)/\∃ k,zay ts p=some k/\(k<0↔cat T p<0):=by
 obtain ⟨k,d,v,b,c,a⟩:=zwE h hl hn p;have e:v=cat T p:=c.uniq h ((zls T p).perm hp);subst e;exact ⟨b,k,d,a⟩
def zdZ (p:Pt) (d:Int):Pt:=if d=0 then (p.1,p.2+1) else if d=1 then (p.1+1,p.2) else if d=2 then (p.1,p.2 - 1) else (p.1 - 1,p.2)
def Dir (d:Int):Prop:=d=0\/d=1\/d=2\/d=3
theorem zq1 {p:Pt} (hp:ptB p=true) {d:Int} (hd:Dir d):za1 p d=some (zdZ p d)/\zW p d=some (zdZ p d):=by
 obtain ⟨g,e,h,f⟩:=zo1.1 hp;have c:∀ n:Int,-1000<=n->n<=1000->w64 n=n:=fun n a b=>zt (by omega) (by omega);rcases hd with rfl | rfl | rfl | rfl
 ·refine ⟨?_,?_⟩
  ·unfold za1 zV zdZ;simp [c (p.2+1) (by omega) (by omega)]
  ·unfold zW zbm zdZ idx;simp [c (p.2+1) (by omega) (by omega),c p.1 (by omega) (by omega)]
 ·refine ⟨?_,?_⟩
  ·unfold za1 zV zdZ;simp [c (p.1+1) (by omega) (by omega)]
  ·unfold zW zbm zdZ idx;simp [c (p.1+1) (by omega) (by omega),c p.2 (by omega) (by omega)]
 ·refine ⟨?_,?_⟩
  ·unfold za1 zV zdZ;simp [c (p.2 - 1) (by omega) (by omega)]
  ·unfold zW zbm zdZ idx;simp [c (p.2 + -1) (by omega) (by omega),c p.1 (by omega) (by omega)];omega
 ·refine ⟨?_,?_⟩
  ·unfold za1 zV zdZ;simp [c (p.1 - 1) (by omega) (by omega)]
  ·unfold zW zbm zdZ idx;simp [c (p.1 + -1) (by omega) (by omega),c p.2 (by omega) (by omega)];omega
def ztP (d:Int):Int:=if d=0 then 2 else if d=1 then 3 else if d=2 then 0 else 1
theorem zzg {d:Int} (hd:Dir d):zjh d=some (ztP d)/\zjo d=some (ztP d)/\0<=ztP d/\ztP d<4:=by
 rcases hd with rfl | rfl | rfl | rfl<;>exact ⟨rfl,rfl,by decide,by decide⟩
section
variable {set:TSet} (hS:SetOk set)
def TileIx (set:TSet) (k:Int):Prop:=0<=k/\k<=(set.2.length:Int) - 1
instance {set:TSet} {k:Int}:Decidable (TileIx set k):=inferInstanceAs (Decidable (_/\_))
def zd0 (set:TSet) (k d:Int):Int:=(((set.2[k.toNat]?).getD ([],[])).2[d.toNat]?).getD 0
def zvF (set:TSet) (g:Int):Int:=if g=0 then 0 else ((set.1[(g - 1).toNat]?).getD ([],0)).2
theorem zlc (hS:SetOk set) {k d:Int} (hk:TileIx set k) (hd:Dir d):∃ x,idx set.2 k=some x/\x.2.length=4/\idx x.2 d=some (zd0 set k d)/\0<=zd0 set k d/\zd0 set k d<=(set.1.length:Int):=by
 obtain ⟨x,j,a⟩:=zab (l:=set.2) hk.1 (by have:=hk.2;omega);obtain ⟨_,f,_,xs⟩:=hS.tile _ (zu a) x a;have c:0<=d/\d<4:=by rcases hd with rfl | rfl | rfl | rfl<;>decide
 obtain ⟨g,h,b⟩:=zab (l:=x.2) (i:=d) (by omega) (by omega);have e:zd0 set k d=g:=by unfold zd0;rw [a];simp [b]
 rw [e];exact ⟨x,j,f,h,xs g (fd b)⟩
theorem zy6 (hS:SetOk set) {g:Int} (h0:0<=g) (h1:g<=(set.1.length:Int)):zbu set g=some (zvF set g)/\0<=zvF set g/\zvF set g<=4:=by
 have e:=hS.glues;unfold zbu zvF;by_cases b:g=0
 ·simp [b]
 ·rw [if_neg (by simpa using b),if_neg b];have c:w64 (g - 1)=g - 1:=zt (by omega) (by omega);obtain ⟨u,d,a⟩:=zab (l:=set.1) (i:=g - 1) (by omega) (by omega);obtain ⟨_,h,f,_⟩:=hS.glue _ (zu a) u a;rw [c,d,a];exact ⟨rfl,by simp;omega,by simp;omega⟩
def zsO (set:TSet) (a d b:Int):Int:=if zd0 set a d=zd0 set b (ztP d) then zvF set (zd0 set a d) else 0
theorem zyq {d:Int} (hd:Dir d):Dir (ztP d):=by rcases hd with rfl | rfl | rfl | rfl<;>unfold Dir ztP<;>simp
theorem zrU (hS:SetOk set) {a b d:Int} (ha:TileIx set a) (hb:TileIx set b) (hd:Dir d):zeM set a d b=some (zsO set a d b)/\za8 set a d b=some (zsO set a d b)/\0<=zsO set a d b/\zsO set a d b<=4:=by
 obtain ⟨x,j,t,h,r,m⟩:=zlc hS ha hd;obtain ⟨y,n,u,f,_,_⟩:=zlc hS hb (zyq hd);obtain ⟨o1,o2,_⟩:=zzg hd;obtain ⟨c,p,k⟩:=zy6 hS r m;have q:zaD set a d=some (zvF set (zd0 set a d)):=by
  have s:=hS.glues;unfold zaD;rw [j];simp only [gp,h];unfold zbu at c;by_cases g:zd0 set a d=0
  ·rw [if_neg (by simp;omega),g];rfl
  ·rw [if_neg (by simpa using g)] at c;rw [if_pos (by simp;omega)];exact c
 unfold zeM za8 zsO;simp only [j,n,h,f,o1,o2,c,q,gp];by_cases e:zd0 set a d=zd0 set b (ztP d)
 ·simp only [e,decide_true,aw,aq,if_false,if_true];rw [←e];exact ⟨trivial,trivial,p,k⟩
 ·simp [e]
def bdQ (set:TSet) (f:Pt->Int) (p:Pt) (k d:Int):Int:=if f (zdZ p d)≥0 then zsO set k d (f (zdZ p d)) else 0
def zuk (set:TSet) (f:Pt->Int) (p:Pt) (k:Int):Int:=bdQ set f p k 0+bdQ set f p k 1+bdQ set f p k 2+bdQ set f p k 3
def FOk (set:TSet) (f:Pt->Int):Prop:=∀ p,f p<0\/TileIx set (f p)
theorem zts (hS:SetOk set) {f:Pt->Int} (hf:FOk set f) (p:Pt) {k d:Int} (hk:TileIx set k) (hd:Dir d):0<=bdQ set f p k d/\bdQ set f p k d<=4:=by
 unfold bdQ;split
 ·rename_i h;rcases hf (zdZ p d) with h1 | h1
  ·omega
  ·exact (zrU hS hk h1 hd).2.2
 ·omega
theorem zu9 {F:Int×Int->Option ((Int×Int) ⊕ Int)} {b:Int->Int} (hb:∀ d,Dir d->0<=b d/\b d<=1000)
  (h:∀ s d,Dir d->0<=s->s<=4000->F (s,d)=some (.inl (s+b d,d+1))) (he:∀ s,F (s,4)=some (.inr s)):iter F (0,0)=some (b 0+b 1+b 2+b 3):=by
 have k:=hb 0 (.inl rfl);have j:=hb 1 (.inr (.inl rfl));have g:=hb 2 (.inr (.inr (.inl rfl)));have m:=hb 3 (.inr (.inr (.inr rfl)));have a:F (0,0)=some (.inl (b 0,1)):=by have:=h 0 0 (.inl rfl) (by omega) (by omega);simpa using this
 have c:F (b 0,1)=some (.inl (b 0+b 1,2)):=h _ 1 (.inr (.inl rfl)) (by omega) (by omega);have f:F (b 0+b 1,2)=some (.inl (b 0+b 1+b 2,3)):=h _ 2 (.inr (.inr (.inl rfl))) (by omega) (by omega);have e:F (b 0+b 1+b 2,3)=some (.inl (b 0+b 1+b 2+b 3,4)):=h _ 3 (.inr (.inr (.inr rfl))) (by omega) (by omega);rw [zD a,zD c,zD f,zD e,zI (he _)]
theorem zxv {d:Int} (hd:Dir d):d<4/\0<=d/\w64 (d+1)=d+1:=by
 rcases hd with rfl | rfl | rfl | rfl<;>decide
theorem zmz (hS:SetOk set) {f:Pt->Int} (hf:FOk set f) {g:Pt->Option Int} {p:Pt} (hp:ptB p=true) (hg:∀ d,Dir d->g (zdZ p d)=some (f (zdZ p d))) {k:Int} (hk:TileIx set k):zaX set p k g=some (zuk set f p k):=by
 unfold zaX;rw [zu9 (b:=bdQ set f p k) (fun d hd=>by have:=zts hS hf p hk hd;omega) (fun s d hd q c=>?_) (fun s=>?_)]
 ·rfl
 ·obtain ⟨n,_,j⟩:=zxv hd;have m:=zts hS hf p hk hd;unfold zb7 zb8;rw [if_pos (by simpa using n),(zq1 hp hd).2];simp only [gp,hg d hd];unfold bdQ at m ⊢;by_cases h:f (zdZ p d)≥0
  ·have e:=hf (zdZ p d);have a:TileIx set (f (zdZ p d)):=by rcases e with c | c;omega;exact c
   rw [if_pos h] at m ⊢;rw [if_pos (by simpa using h),(zrU hS hk a hd).2.1];simp only [gp,j];rw [zt (by omega) (by omega)]
  ·rw [if_neg h,if_neg (by simpa using h),j,Int.add_zero]
 ·unfold zb7;rw [if_neg (by simp)]
theorem zml (hS:SetOk set) {f:Pt->Int} (hf:FOk set f) {ts:List Plc} {p:Pt} (hp:ptB p=true) (hg:∀ d,Dir d->zcR ts (zdZ p d)=some (f (zdZ p d))) {k:Int} (hk:TileIx set k):zda set ts p k=some (zuk set f p k):=by
 unfold zda;rw [zu9 (b:=bdQ set f p k) (fun d hd=>by have:=zts hS hf p hk hd;omega) (fun s d hd n c=>?_) (fun s=>?_)]
 ·rfl
 ·obtain ⟨m,_,g⟩:=zxv hd;have j:=zts hS hf p hk hd;unfold zeK zeL;rw [if_pos (by simpa using m),(zq1 hp hd).1];simp only [gp,hg d hd];unfold bdQ at j ⊢;by_cases h:f (zdZ p d)≥0
  ·have e:=hf (zdZ p d);have a:TileIx set (f (zdZ p d)):=by rcases e with c | c;omega;exact c
   rw [if_pos h] at j ⊢;rw [if_pos (by simpa using h),(zrU hS hk a hd).1];simp only [gp,g];rw [zt (by omega) (by omega)]
  ·rw [if_neg h,if_neg (by simpa using h),g,Int.add_zero]
 ·unfold zeK;rw [if_neg (by simp)]
end
structure Cr (set:TSet) (T ts:List Plc):Prop where
 perm:T.Perm ts
 pw:PW ts
 ok:∀ x∈ts,ptB x.1=true/\TileIx set x.2
 len:ts.length<=500
section
variable {set:TSet} {T ts:List Plc}
theorem Cr.fok (h:Cr set T ts):FOk set (cat T):=fun p=>by
 rcases (zls T p).perm h.perm with ⟨k,e,a⟩ | ⟨e,_⟩
 ·rw [e];exact .inr (h.ok _ a).2
 ·rw [e];exact .inl (by omega)
theorem Cr.at (h:Cr set T ts) (p:Pt):zcR ts p=some (cat T p)/\∃ k,zay ts p=some k/\(k<0↔cat T p<0):=
 zvb h.perm h.pw (by have:=h.len;omega) (fun x a=>(h.ok x a).2.1) p
theorem Cr.free (h:Cr set T ts) {p:Pt}:cat T p<0↔∀ x∈ts,x.1≠p:=by
 rcases (zls T p).perm h.perm with ⟨k,e,b⟩ | ⟨e,hn⟩
 ·have:=(h.ok _ b).2.1;rw [e];exact ⟨fun a=>by simp only at this;omega,fun a=>absurd rfl (a _ b)⟩
 ·rw [e];exact ⟨fun _=>hn,fun _=>by omega⟩
def zrM (set:TSet) (t:Int) (T:List Plc) (p:Pt) (k:Int):Bool:=ptB p&&decide (cat T p<0)&&decide (zuk set (cat T) p k≥t)
theorem zsD (hS:SetOk set) (h:Cr set T ts) {s0:List Plc} {t:Int} {O:List (Pt×List Int)} {p:Pt} {k:Int} (hk:TileIx set k):za6 ((set,s0,t),T,O) p k=some (zrM set t T p k):=by
 unfold za6 zrM;rw [zmw];simp only [gp];cases hp:ptB p with
 | false=>simp
 | true=>
  rw [if_pos rfl];by_cases hc:cat T p<0
  ·rw [if_pos (by simpa using hc),zmz hS h.fok hp (g:=zfc ((set,s0,t),T,O)) (fun d _=>rfl) hk];simp [hc]
  ·rw [if_neg (by simpa using hc)];simp [hc]
theorem zwD (hS:SetOk set) (h:Cr set T ts) {s0:List Plc} {t:Int} {p:Pt} {k:Int}:zjw (set,s0,t) ts (p,k)=some (decide (TileIx set k)&&zrM set t T p k):=by
 unfold zjw zrM;rw [zkq];simp only [gp];cases hp:ptB p with
 | false=>simp
 | true=>
  have f:=hS.tiles;rw [if_pos rfl,(zi2 set (by omega) k).2];simp only [gp];by_cases b:TileIx set k
  ·obtain ⟨i,hi,c⟩:=(h.at p).2;have a:decide (0<=k/\k<=(set.2.length:Int) - 1)=true:=decide_eq_true b;rw [a,if_pos rfl,hi];simp only [gp];by_cases hc:cat T p<0
   ·rw [if_pos (by simpa using c.2 hc),zml hS h.fok hp (fun d _=>(h.at _).1) b];simp [hc,b]
   ·rw [if_neg (by simpa using fun e=>hc (c.1 e))];simp [hc]
  ·have a:decide (0<=k/\k<=(set.2.length:Int) - 1)=false:=decide_eq_false b;rw [a];simp [b]
def ixs (set:TSet):List Int:=(List.range set.2.length).map fun (k:Nat)=>(k:Int)
def zxs (set:TSet) (t:Int) (T:List Plc) (p:Pt):List Int:=(ixs set).filter (zrM set t T p)
def zuI (set:TSet) (t:Int) (T:List Plc) (p:Pt) (O:List (Pt×List Int)) (d:Int):List (Pt×List Int):=
 if (zxs set t T (zdZ p d)).length>0 then zgv O (zdZ p d) (zxs set t T (zdZ p d)) else zoa O (zdZ p d)
def laO (set:TSet) (t:Int) (T:List Plc) (O:List (Pt×List Int)) (p:Pt):List (Pt×List Int):=[0,1,2,3].foldl (zuI set t T p) O
theorem zxi (hS:SetOk set) (h:Cr set T ts) {s0:List Plc} {t:Int} {O:List (Pt×List Int)} (i:Int) (p:Pt):iter (zZ (i,((set,s0,t),T,O)) p) ([],0)=some (zxs set t T p):=by
 have q:=hS.tiles;have b:(ixs set).length=set.2.length:=by unfold ixs;simp
 have key:=zae (F:=zZ (i,((set,s0,t),T,O)) p) (ixs set) (fun a x=>if zrM set t T p x then a++[x] else a) [] (by omega) (fun a i x f j=>?_) (fun a j=>?_)
 ·rw [key];congr 1;have:=zcz (zrM set t T p) (fun x:Int=>x) (ixs set) [];rw [this];simp [zxs]
 ·have g:x=(i:Int):=by
   unfold ixs at f;rw [cw] at f;obtain ⟨n,d,rfl⟩:=gt.1 f;have k:i<set.2.length:=by have:=zu d;simpa using this
   rw [df k] at d;injection d with d
   rw [d]
  have c:i<set.2.length:=by rw [←b];exact zu f
  subst g;have m:a.length<=1000:=by
   rw [j];have:∀ (l:List Int) (e:List Int),(l.foldl (fun a x=>if zrM set t T p x then a++[x] else a) e).length<=e.length+l.length:=by
    intro l
    induction l with
    | nil=>intro e;simp
    | cons y l ih=>intro e;rw [ci];refine fz (ih _) ?_;split<;>simp<;>omega
   refine fz (this _ _) ?_;rw [ef];simp;omega
  unfold zZ za4;rw [if_pos (by simpa using c),zsD hS h ⟨by omega,by omega⟩];simp only [gp];cases zrM set t T p (i:Int) with
  | true=>simp only [if_true];rw [zQ (by simp;omega) (by simp;omega)];rfl
  | false=>rfl
 ·unfold zZ;rw [if_neg (by simp [b])]
theorem zye (hS:SetOk set) (h:Cr set T ts) {s0:List Plc} {t:Int} {O:List (Pt×List Int)} {p:Pt} (hp:ptB p=true):zb6 ((set,s0,t),T,O) p=some ((set,s0,t),T,laO set t T O p):=by
 have step:∀ (O:List (Pt×List Int)) (d:Int),Dir d->zax p (d,((set,s0,t),T,O))=some (.inl (d+1,((set,s0,t),T,zuI set t T p O d))):=by
  intro O d hd;obtain ⟨c,_,b⟩:=zxv hd;unfold zax;rw [if_pos (by simpa using c),(zq1 hp hd).2];simp only [gp];rw [zxi hS h];simp only [gp];unfold zcV za5 zuI;by_cases a:(zxs set t T (zdZ p d)).length>0
  ·rw [if_pos (by simpa using a),if_pos a,b]
  ·rw [if_neg (by simpa using a),if_neg a,b]
 unfold zb6;rw [zD (step O 0 (.inl rfl)),zD (step _ (0+1) (.inr (.inl rfl))),zD (step _ (0+1+1) (.inr (.inr (.inl rfl)))),zD (step _ (0+1+1+1) (.inr (.inr (.inr rfl)))),
  zI (x:=((set,s0,t),T,laO set t T O p)) (by unfold zax;rw [if_neg (by simp)];rfl)]
 rfl
theorem zuB {T:List Plc} {p:Pt} {k:Int} (h:∀ x∈T,x.1≠p):zgv T p k=T++[(p,k)]:=by
 unfold zgv;rw [if_neg];unfold mhas;rw [bf];rintro ⟨x,a,hd⟩;exact h x a (by simpa using hd)
theorem znA (hA:zbo set ts):Cr set ts ts where
 perm:=.refl _
 pw:=by
  have hs:=hA.1.srt;unfold PW;rw [fk];intro i j hi hj hij;exact hs i j _ _ hij (cq hi) (cq hj)
 ok:=fun x hx=>by
  obtain ⟨i,hi⟩:=cy hx;exact ⟨(hA.1.2 i (zu hi) x hi).1,(hA.2 x hx)⟩
 len:=hA.1.1
def ncO (set:TSet) (t:Int) (ts:List Plc):List (Pt×List Int):=ts.foldl (fun O x=>laO set t ts O x.1) []
theorem zr3 (hS:SetOk set) (hA:zbo set ts) (s0:List Plc) (t:Int):zhl (set,s0,t) ts=some ((set,s0,t),ts,ncO set t ts):=by
 have hc:=znA hA;have m:=hc.len;unfold zhl zhx;have q:iter (zbz ts) (0,((set,s0,t),([]:List Plc),([]:List (Pt×List Int))))=some ((set,s0,t),ts,[]):=by
  have key:=zbx (F:=zbz ts) ts (fun (a:CrySt) x=>(a.1,a.2.1++[x],a.2.2)) (((set,s0,t),([]:List Plc),([]:List (Pt×List Int)))) (by omega) (fun a i x d c=>?_) (fun a c=>?_)
  ·rw [key];congr 1;have:∀ (l:List Plc) (a:CrySt),l.foldl (fun (a:CrySt) x=>(a.1,a.2.1++[x],a.2.2)) a=(a.1,a.2.1++l,a.2.2):=by
    intro l
    induction l with
    | nil=>intro a;simp
    | cons y l ih=>intro a;rw [ci,ih];simp
   rw [this];simp
  ·have b:=zu d;have f:∀ (l:List Plc) (a:CrySt),l.foldl (fun (a:CrySt) x=>(a.1,a.2.1++[x],a.2.2)) a=(a.1,a.2.1++l,a.2.2):=by
    intro l
    induction l with
    | nil=>intro a;simp
    | cons y l ih=>intro a;rw [ci,ih];simp
   rw [f] at c;unfold zbz;rw [if_pos (by simpa using b),zr d];simp only [gp];rw [zuB (T:=a.2.1) (p:=x.1) (k:=x.2) (fun y h=>by
    rw [c] at h;simp only [fh] at h;obtain ⟨j,g⟩:=cy h;have e:j<i:=by have:=zu g;rw [ef] at this;omega
    rw [dm,if_pos e] at g;exact zkz (hc.pw.srt j i _ _ e g d))]
  ·unfold zbz;rw [if_neg (by simp)]
 have n:iter (zby ts) (0,((set,s0,t),ts,([]:List (Pt×List Int))))=some ((set,s0,t),ts,ncO set t ts):=by
  have f:∀ (l:List Plc) (O:List (Pt×List Int)),l.foldl (fun (a:CrySt) x=>(a.1,a.2.1,laO set t ts a.2.2 x.1)) ((set,s0,t),ts,O)=((set,s0,t),ts,l.foldl (fun O x=>laO set t ts O x.1) O):=by
   intro l
   induction l with
   | nil=>intro O;rfl
   | cons y l ih=>intro O;rw [ci,ci,ih]
  have key:=zbx (F:=zby ts) ts (fun (a:CrySt) x=>(a.1,a.2.1,laO set t ts a.2.2 x.1)) (((set,s0,t),ts,([]:List (Pt×List Int)))) (by omega) (fun a i x d c=>?_) (fun a c=>?_)
  ·rw [key,f];rfl
  ·have b:=zu d;rw [f] at c;subst c;unfold zby;rw [if_pos (by simpa using b),zr d];simp only [gp];rw [zye hS hc (hc.ok x (fd d)).1];rfl
  ·unfold zby;rw [if_neg (by simp)]
 rw [q];simp only [gp];rw [n];rfl
end
theorem zeN {s t:List UInt8} (h:s.length+t.length<=9223372036854775807):zif s t=some (s++t):=by unfold zif;rw [if_pos h]
theorem zxw {m:Int} {out:List UInt8} (hm:m≠0) (hI:I64 m) (ho:out.length<=1000) :
  zaG (out,m)=some (.inl (UInt8.ofNat (48+m.natAbs % 10)::out,Int.tdiv m 10)):=by
 have key:∀ d:Nat,d<10->ze3 (out,m) (d:Int)=some (.inl (UInt8.ofNat (48+d)::out,Int.tdiv m 10)):=by
  intro d hd;unfold ze3;have c:w64 (48+(d:Int))=48+(d:Int):=zas ⟨by omega,by omega⟩;have b:zj7 [IntKind.wrap .u8 (w64 (48+(d:Int)))]=[UInt8.ofNat (48+d)]:=by
   rw [c];have:IntKind.wrap .u8 (48+(d:Int))=48+(d:Int):=by
    have h:d=0\/d=1\/d=2\/d=3\/d=4\/d=5\/d=6\/d=7\/d=8\/d=9:=by omega
    rcases h with rfl | rfl | rfl | rfl | rfl | rfl | rfl | rfl | rfl | rfl<;>rfl
   rw [this];show [((48+(d:Int)).toNat).toUInt8]=_;rw [show (48+(d:Int)).toNat=48+d by omega]
  have f:w64 (Int.tdiv m 10)=Int.tdiv m 10:=by
   refine zas ?_;obtain ⟨n,j⟩:=hI;have g:(Int.tdiv m 10).natAbs=m.natAbs / 10:=by rw [Int.natAbs_tdiv];rfl
   exact ⟨by omega,by omega⟩
  rw [b,zeN (by simp;omega),f];rfl
 unfold zaG;rw [if_pos (by simpa using hm)];obtain ⟨k,rfl | rfl⟩:=Int.eq_nat_or_neg m
 ·have e:Int.tmod (k:Int) 10=((k % 10:Nat):Int):=rfl;simp only [e];rw [if_neg (by simp;omega),key (k % 10) (by omega)];rfl
 ·have e:Int.tmod (-(k:Int)) 10 = -((k % 10:Nat):Int):=by rw [Int.neg_tmod];rfl
  simp only [e];by_cases a:k % 10=0
  ·rw [if_neg (by simp [a])];have:=key 0 (by omega);simp only [a] at this ⊢;rw [Int.natAbs_neg,Int.natAbs_natCast,a];simpa using this
  ·rw [if_pos (by simp;omega)];have b:w64 (0 - -((k % 10:Nat):Int))=((k % 10:Nat):Int):=by rw [zas ⟨by omega,by omega⟩];omega
   rw [b,key (k % 10) (by omega),Int.natAbs_neg,Int.natAbs_natCast]
theorem zxx:∀ (u:Nat) (m:Int) (out:List UInt8),m.natAbs=u->m≠0->I64 m->out.length+Go.Lib.nDigits u<=1000->iter zaG (out,m)=some (Go.Lib.decDigits u++out):=by
 intro u
 induction u using Nat.strongRecOn with
 | _ u ih=>
  intro m out b hm a e;have j:1<=Go.Lib.nDigits u:=by rw [Go.Lib.nDigits];split<;>omega
  rw [zD (zxw hm a (by omega)),b];have c:(Int.tdiv m 10).natAbs=u / 10:=by rw [Int.natAbs_tdiv,b];rfl
  by_cases h:u<10
  ·have d:Int.tdiv m 10=0:=by omega
   rw [d,Go.Lib.decDigits,dif_pos h,Nat.mod_eq_of_lt h];have:zaG (UInt8.ofNat (48+u)::out,0)=some (.inr (UInt8.ofNat (48+u)::out)):=by unfold zaG;rfl
   rw [zI this];rfl
  ·rw [ih (u / 10) (by omega) _ _ c (by omega) ?_ ?_]
   ·conv=>rhs;rw [Go.Lib.decDigits,dif_neg h]
    simp
   ·obtain ⟨g,f⟩:=a;constructor<;>omega
   ·have:Go.Lib.nDigits u=Go.Lib.nDigits (u / 10)+1:=by conv=>lhs;rw [Go.Lib.nDigits,dif_neg h]
    simp only [dv];omega
theorem zrn:∀ (k u:Nat),u<10 ^ k->0<k->Go.Lib.nDigits u<=k:=by
 intro k
 induction k with
 | zero=>intro u _ h;omega
 | succ k ih=>
  intro u b _;rw [Go.Lib.nDigits];split
  ·omega
  ·rename_i h;have a:0<k:=by
    rcases Nat.eq_zero_or_pos k with rfl | a
    ·simp at b;omega
    ·exact a
   have:=ih (u / 10) (by rw [Nat.pow_succ] at b;omega) a;omega
theorem zna {n:Int} (h:I64 n):zdv n=some (Go.Lib.itoa n):=by
 unfold zdv;by_cases b:n=0
 ·subst b;have:zaG (([]:List UInt8),0)=some (.inr []):=by unfold zaG;rfl
  rw [zI this];show zdb 0 []=_;unfold zdb Go.Lib.itoa;rw [if_pos (by decide),if_neg (by decide),Go.Lib.decDigits,dif_pos (by decide)];rfl
 ·have hd:Go.Lib.nDigits n.natAbs<=20:=zrn 20 _ (by obtain ⟨c,d⟩:=h;omega) (by omega);rw [zxx n.natAbs n [] rfl b h (by simp;omega),bh];show zdb n _=_;unfold zdb;rw [if_neg (by simpa using b)];unfold Go.Lib.itoa;by_cases a:n<0
  ·rw [if_pos (by simpa using a),if_pos a,zeN (by rw [Go.Lib.decDigits_length];simp;omega)];rfl
  ·rw [if_neg (by simpa using a),if_neg a,show n.natAbs=n.toNat by omega]
theorem zrC (n:Int):ziC n=some (Go.Lib.itoa n):=rfl
theorem zxm {n:Int} (h:I64 n):(Go.Lib.itoa n).length<=21:=by
 have hd:∀ u,u<10 ^ 20->(Go.Lib.decDigits u).length<=20:=fun u a=>by rw [Go.Lib.decDigits_length];exact zrn 20 u a (by omega)
 obtain ⟨b,c⟩:=h;unfold Go.Lib.itoa;split
 ·have:=hd n.natAbs (by omega);simp;omega
 ·have:=hd n.toNat (by omega);omega
end Go.Lf
namespace Go.Lf
open Go Go.Proofs Go.Sort
def Blk (k:Int):Prop:=1<=k/\k<=4
theorem Blk.cases {k:Int} (h:Blk k):k=1\/k=2\/k=3\/k=4:=by unfold Blk at h;omega
theorem flr {p k:Int} (hp : -1000<=p/\p<=1000) (hk:Blk k):zg8 p k=some (p / k)/\zgY p k=some (p / k,p % k):=by
 have a:k≠0:=by unfold Blk at hk;omega
 have c:p.tdiv k=if 0<=p then p / k else -((-p) / k):=by
  split
  ·exact Int.tdiv_eq_ediv_of_nonneg (by omega)
  ·rw [show p = -(-p) by omega,Int.neg_tdiv,Int.tdiv_eq_ediv_of_nonneg (by omega)];simp
 have hm:p.tmod k=if 0<=p then p % k else -((-p) % k):=by
  split
  ·exact Int.tmod_eq_emod_of_nonneg (by omega)
  ·rw [show p = -(-p) by omega,Int.neg_tmod,Int.tmod_eq_emod_of_nonneg (by omega)];simp
 have b:∀ q,-2000<=q->q<=2000->IntKind.wrap .i64 q=q:=fun q a e=>zt (by omega) (by omega);constructor
 ·unfold zg8 zmS;rw [if_neg a];have d:w64 (w64 (w64 (0 - p)+k) - 1) = -p+k - 1:=by unfold Blk at hk;rw [zt (n:=0 - p) (by omega) (by omega),zt (n:=0 - p+k) (by omega) (by omega),zt (by omega) (by omega)];omega
  rw [d,if_neg a];by_cases h:p<0
  ·rw [if_pos (by simpa using h),Int.tdiv_eq_ediv_of_nonneg (by unfold Blk at hk;omega)];simp only [gp];rcases hk.cases with rfl | rfl | rfl | rfl<;>(rw [b _ (by omega) (by omega),zt (by omega) (by omega)];congr 1;omega)
  ·rw [if_neg (by simpa using h),c,if_pos (by omega)];simp only [gp];rcases hk.cases with rfl | rfl | rfl | rfl<;>(rw [b _ (by omega) (by omega)])
 ·unfold zgY zmS zoY;rw [if_neg a,if_neg a];simp only [gp];rw [c,hm];rcases hk.cases with rfl | rfl | rfl | rfl<;>by_cases h:0<=p<;>simp only [h,if_true,if_false]<;>(rw [b _ (by omega) (by omega)])
  all_goals
   split
   ·rename_i hlt;have:=of_decide_eq_true hlt;rw [zt (by omega) (by omega),zt (by omega) (by omega)];refine congrArg some (Prod.ext ?_ ?_)<;>simp only []<;>omega
   ·rename_i hlt;have:¬_:=fun h=>hlt (decide_eq_true h);refine congrArg some (Prod.ext ?_ ?_)<;>simp only []<;>omega
def bk (p:Pt) (k:Int):Pt:=(p.1 / k,p.2 / k)
theorem zyU {p:Pt} {k:Int} (a:ptB p=true) (hk:Blk k):(∃ c,zkg p k=some (bk p k,c))/\∃ c,zjd p k=some (bk p k,c):=by
 have a:=zo1.1 a;obtain ⟨b,a2⟩:=flr (p:=p.1) ⟨by omega,by omega⟩ hk;obtain ⟨e,d⟩:=flr (p:=p.2) ⟨by omega,by omega⟩ hk;constructor
 ·unfold zkg;rw [b,e];exact ⟨_,rfl⟩
 ·unfold zjd;rw [a2,d];exact ⟨_,rfl⟩
def PP (l:List Pt):Prop:=l.Pairwise fun a b=>lp a b=true
theorem zzs (a:Pt):lp a a=false:=by rw [zxf];omega
theorem zvn {a b:Pt} (h:lp a b=true):lp b a=false:=by
 cases h':lp b a with
 | false=>rfl
 | true=>exact absurd rfl (zkz (zky h h'))
theorem PP.uniq {l l':List Pt} (h:PP l) (h':PP l') (hm:∀ q,q∈l↔q∈l'):l=l':=by
 have e:l.Nodup:=h.imp fun c=>zkz c;have g:l'.Nodup:=h'.imp fun c=>zkz c;exact List.Perm.eq_of_pairwise (le:=fun a b=>lp a b=true) (fun a b _ _ f d=>by rw [zvn f] at d;cases d) h h' ((List.perm_ext_iff_of_nodup e g).2 hm)
theorem zw0 {l:List Pt} (hs:PP l) (hl:l.length<=1000000) (p:Pt):∃ l',zeg l p=some l'/\PP l'/\(∀ q,q∈l'↔q∈l\/q=p)/\l'.length<=l.length+1:=by
 have y:∀ (i j:Nat) (hi:i<l.length) (f:j<l.length),i<j->lp l[i] l[j]=true:=fun i j hi f G=>fk.1 hs i j hi f G;obtain ⟨at_,F,A,u,U⟩:∃ a:Nat,iter (zaB l p) (l.length:Int)=some (a:Int)/\a<=l.length/\(∀ q∈l.take a,lp q p=true)/\∀ q∈l.drop a,lp q p=false:=by
  have key:∀ n:Nat,n<=l.length->(∀ q∈l.drop n,lp q p=false)->∃ a:Nat,iter (zaB l p) (n:Int)=some (a:Int)/\a<=l.length/\(∀ q∈l.take a,lp q p=true)/\∀ q∈l.drop a,lp q p=false:=by
   intro n
   induction n with
   | zero=>
    intro T hd;refine ⟨0,zI ?_,by omega,by simp,hd⟩;unfold zaB zba;rw [if_neg (by simp)];rfl
   | succ n ih=>
    intro T hd;have B:w64 (((n+1:Nat):Int) - 1)=(n:Int):=by rw [zt (by omega) (by omega)];omega
    have k:l[n]?=some l[n]:=cq (by omega);cases c:lp l[n] p with
    | true=>
     refine ⟨n+1,zI ?_,T,fun q d=>?_,hd⟩
     ·unfold zaB zba;rw [if_pos (by simp<;>omega),B,zr k];simp only [gp,ziI,c];rfl
     ·obtain ⟨j,f,rfl⟩:=List.mem_take_iff_getElem.1 d;rcases gd j n with h | h
      ·exact zky (y j n (by omega) (by omega) h) c
      ·have:j=n:=by omega
       subst this;exact c
    | false=>
     obtain ⟨a,A,t⟩:=ih (by omega) (fun q d=>by
      rw [bj (by omega)] at d;rcases eu.1 d with rfl | d
      ·exact c
      ·exact hd q d)
     refine ⟨a,?_,t⟩;rw [←A];refine zD ?_;unfold zaB zba;rw [if_pos (by simp<;>omega),B,zr k];simp only [gp,ziI,c];rfl
  exact key l.length (fy _) (by simp)
 have s:l.take at_++l.drop at_=l:=List.take_append_drop _ _;have ins:(p∉l)->∃ l',zbb l p (at_:Int) false=some l'/\PP l'/\(∀ q,q∈l'↔q∈l\/q=p)/\l'.length<=l.length+1:=by
  intro Y;unfold zbb;rw [if_neg (by simp),zQ (by simp;omega) (by simp;omega)];simp only [gp];have Q:w64 (((l++[p]).length:Int) - 1)=(l.length:Int):=by rw [du,List.length_singleton,zt (by omega) (by omega)];omega
  rw [Q];have key:∀ (m i:Nat) (L:List Pt),i=at_+m->i<=l.length->L.length=l.length+1->(∀ j,j<i->L[j]?=l[j]?)->(∀ j,i<j->L[j]?=l[j - 1]?)->
    ∃ L',iter (zcf (at_:Int)) (L,(i:Int))=some L'/\L'.length=l.length+1/\(∀ j,j<at_->L'[j]?=l[j]?)/\(∀ j,at_<j->L'[j]?=l[j - 1]?):=by
   intro m
   induction m with
   | zero=>
    intro i L hi P I C J;have:i=at_:=by omega
    subst this;refine ⟨L,zI ?_,I,C,J⟩;unfold zcf;rw [if_neg (by simp)]
   | succ m ih=>
    intro i L hi P I C J;have B:w64 ((i:Int) - 1)=((i - 1:Nat):Int):=by rw [zt (by omega) (by omega)];omega
    have k:L[i - 1]?=some (l[i - 1]'(by omega)):=by rw [C _ (by omega),cq (by omega)]
    have O:L[i]?=some (L[i]'(by omega)):=cq (by omega);obtain ⟨L',N,S,R,M⟩:=ih (i - 1) (L.set i (l[i - 1]'(by omega))) (by omega) (by omega) (by simp [I]) (fun j f=>by rw [dh (by omega)];exact C j (by omega)) (fun j f=>by
     by_cases H:j=i
     ·subst H;rw [dj (by omega),cq (by omega)]
     ·rw [dh (by omega)];exact J j (by omega))
    refine ⟨L',?_,S,R,M⟩;rw [←N];refine zD ?_;unfold zcf;rw [if_pos (by simp;omega),B,zr k];simp only [gp];rw [zr O];simp
  obtain ⟨L',N,S,R,M⟩:=key (l.length - at_) l.length (l++[p]) (by omega) (fy _) (by simp) (fun j f=>by rw [cj f]) (fun j f=>by
   rw [cu (by simp;omega),cu (by omega)])
  rw [N];simp only [gp];unfold zgJ;have O:L'[at_]?=some (L'[at_]'(by omega)):=cq (by omega);rw [zr O];simp only [gp,bb];have E:L'.set at_ p=l.take at_++p::l.drop at_:=by
   apply bq;intro j;have v:(l.take at_).length=at_:=by simp;omega
   rcases gi j at_ with h | h | h
   ·rw [dh (by omega),R j h,cj (by omega),List.getElem?_take_of_lt h]
   ·subst h;rw [dj (by omega),cn (by omega),v];simp
   ·rw [dh (by omega),M j h,cn (by omega),v,show j - at_=(j - at_ - 1)+1 by omega,List.getElem?_cons_succ,co];congr 1;omega
  rw [E];refine ⟨_,rfl,?_,fun q=>?_,by simp;omega⟩
  ·have t:(l.take at_++l.drop at_).Pairwise fun a b=>lp a b=true:=by rw [s];exact hs
   obtain ⟨V,q2,X⟩:=List.pairwise_append.1 t;refine List.pairwise_append.2 ⟨V,fj.2 ⟨fun q d=>?_,q2⟩,fun a x b r=>?_⟩
   ·exact zl2 (U q d) fun e=>Y (e▸List.mem_of_mem_drop d)
   ·rcases eu.1 r with rfl | r
    ·exact u a x
    ·exact X a x b r
  ·rw [ep,eu]
   conv=>rhs;rw [←s,ep]
   constructor
   ·rintro (h | h | h)
    ·exact .inl (.inl h)
    ·exact .inr h
    ·exact .inl (.inr h)
   ·rintro ((h | h) | h)
    ·exact .inl h
    ·exact .inr (.inr h)
    ·exact .inr (.inl h)
 unfold zeg;rw [F];simp only [gp];unfold zgK;have g:(∀ q∈(l.drop at_).head?,q≠p)->p∉l:=by
  intro Z hm;rw [←s,ep] at hm;rcases hm with hm | hm
  ·have:=u p hm;rw [zzs] at this;cases this
  ·obtain ⟨j,f,w⟩:=List.mem_drop_iff_getElem.1 hm;cases j with
   | zero=>
    refine Z l[at_] ?_ (by simpa using w);rw [bj (by omega)];simp
   | succ j=>
    have k:l[at_]'(by omega)∈l.drop at_:=by rw [bj (by omega)];exact List.mem_cons_self
    have A:=U _ k;have t:=y at_ (at_+(j+1)) (by omega) (by omega) (by omega);rw [w,A] at t;cases t
 by_cases c:at_<l.length
 ·have k:l[at_]?=some l[at_]:=cq c;rw [if_pos (by simpa using c),zr k];simp only [gp];by_cases D:l[at_]=p
  ·rw [show (decide (l[at_].1=p.1)&&decide (l[at_].2=p.2))=true by rw [D];simp];unfold zbb;refine ⟨l,rfl,hs,fun q=>⟨.inl,fun h=>?_⟩,by omega⟩;rcases h with h | rfl
   ·exact h
   ·rw [←D];exact dt c
  ·rw [show (decide (l[at_].1=p.1)&&decide (l[at_].2=p.2))=false by
    cases u:(decide (l[at_].1=p.1)&&decide (l[at_].2=p.2)) with
    | false=>rfl
    | true=>simp at u;exact absurd (Prod.ext u.1 u.2) D]
   exact ins (g fun q d=>by
    rw [bj c] at d;simp at d;rw [cq c] at d;injection d with d;subst d;exact D)
 ·rw [if_neg (by simpa using c)];exact ins (g fun q d=>by rw [List.drop_eq_nil_of_le (by omega)] at d;simp at d)
theorem zrT (q:Pt):∀ l,q∈zc5 l↔q∈l
 | []=>by simp [zc5]
 | [a]=>by simp [zc5]
 | a::b::l=>by
  have c:=zrT q (b::l);unfold zc5;split
  ·rename_i h;subst h;rw [c];simp
  ·rw [eu,c];simp
theorem zvy:∀ {l:List Pt},l.Pairwise (fun a b=>lp b a=false)->PP (zc5 l)
 | [],_=>List.Pairwise.nil
 | [a],_=>List.pairwise_singleton _ _
 | a::b::l,h=>by
  have g:=(fj.1 h).1;have f:=(fj.1 h).2;have d:=zvy f;unfold zc5;split
  ·exact d
  ·rename_i hab;refine fj.2 ⟨fun q c=>?_,d⟩;have c:=(zrT q _).1 c;refine zl2 (g q c) fun e=>?_;subst e;rcases eu.1 c with h | h
   ·exact hab h
   ·have j:=(fj.1 f).1 q h;rw [zl2 (g b (by simp)) fun e=>hab e.symm] at j;cases j
theorem zxD (a b:Pt):decide (zj5 a b<0)=lp a b:=znC (a:=a) (b:=b)
theorem zst (l:List Pt):(zoq l).Pairwise (fun a b=>lp b a=false)/\(zoq l).Perm l:=by
 unfold zoq;have m:(fun x y:Pt=>decide (zj5 x y<0))=ltOf zj5:=rfl;have c:∀ a b:Pt,ltOf zj5 a b=lp a b:=zxD;have h:=pdq_sorts (ltOf zj5) zy4 l.toArray 0 l.length (Lib.bitLen l.length) true true (Nat.zero_le _) (by simp) (Or.inl rfl);obtain ⟨r,s⟩:∃ r:Array Pt,r=pdq (ltOf zj5) l.toArray 0 l.length (Lib.bitLen l.length) true true:=⟨_,rfl⟩;show (pdq (ltOf zj5) l.toArray 0 l.length (Lib.bitLen l.length) true true).toList.Pairwise _/\(pdq (ltOf zj5) l.toArray 0 l.length (Lib.bitLen l.length) true true).toList.Perm l;rw [←s] at h ⊢;obtain ⟨⟨f,_,k⟩,q⟩:=h;have f:r.size=l.length:=by simpa using f
 constructor
 ·rw [fk];intro i j hi p g;have e:i<r.size:=by simpa using hi
  have d:j<r.size:=by simpa using p
  have:=q i j (by omega) g (by omega);rw [c,getElem!_pos r i e,getElem!_pos r j d] at this;simpa using this
 ·have n:(r.extract 0 l.length).toList=r.toList:=by rw [←f];simp
  have t:(l.toArray.extract 0 l.length).toList=l:=by simp
  rw [n,t] at k;exact k
theorem zwJ {l:List Pt} (hl:l.length<=1000000):∃ l',zey l=some l'/\PP l'/\∀ q,q∈l'↔q∈l:=by
 unfold zey;rw [if_pos hl];refine ⟨_,rfl,zvy (zst l).1,fun q=>?_⟩;rw [zrT];exact (zst l).2.mem_iff
theorem z8 {α β:Type} (G:α->List β):∀ (l:List α) (a:List β),l.foldl (fun a x=>a++G x) a=a++l.flatMap G
 | [],a=>by simp
 | x::l,a=>by rw [ci,z8 G l];simp [bg]
theorem zki {α β:Type} {G:α->List β} {m:Nat}:∀ {l:List α},(∀ x∈l,(G x).length<=m)->(l.flatMap G).length<=l.length*m
 | [],_=>by simp
 | x::l,h=>by
  have b:=h x (by simp);have c:=zki (l:=l) (fun y a=>h y (by simp [a]));rw [cg,du,dv,fu];omega
theorem zzz {a b:Int} (h:0<=a):a.tdiv b=a / b:=Int.tdiv_eq_ediv_of_nonneg h
theorem zzy {a b:Int} (h:0<=a):a.tmod b=a % b:=Int.tmod_eq_emod_of_nonneg h
theorem zpM {a b:Int} (h0:0<=a) (h1:a<=1000000) (hb:1<=b):zmS .i64 a b=some (a / b):=by
 unfold zmS;rw [if_neg (by omega),zzz h0];have:=Int.ediv_le_self b h0;have:=Int.ediv_nonneg h0 (by omega:0<=b);show some (w64 (a / b))=_;rw [zt (by omega) (by omega)]
theorem zre {a b:Int} (h0:0<=a) (hb:1<=b):zoY a b=some (a % b):=by
 unfold zoY;rw [if_neg (by omega),zzy h0]
def cz (k:Int):List Pt:=(List.range (k*k).toNat).map fun (c:Nat)=>((c:Int) % k,(c:Int) / k)
theorem ztp {k:Int} {c:Nat} (h:(c:Int)<k*k):(cz k)[c]?=some ((c:Int) % k,(c:Int) / k):=by
 unfold cz;rw [cw,df (by omega)];rfl
theorem zto {k:Int} (hk:Blk k):((cz k).length:Int)=k*k:=by
 unfold cz;rcases hk.cases with rfl | rfl | rfl | rfl<;>simp
theorem zx2 {n:Nat} (hn:1<=n) (h4:n<=4):ziu (0,0) ((n:Int) - 1,(n:Int) - 1)=some ((List.range n).flatMap fun (y:Nat)=>(List.range n).map fun (x:Nat)=>((x:Int),(y:Int))):=by
 have c:∀ (out:List Pt) (y:Nat),out.length<=1000->iter (zb5 ((n:Int) - 1,(n:Int) - 1) (out,(y:Int))) (out,0)=some (out++(List.range n).map fun (x:Nat)=>((x:Int),(y:Int))):=by
  intro out y f;have h:=zae (F:=zb5 ((n:Int) - 1,(n:Int) - 1) (out,(y:Int))) (List.range n) (fun a x=>a++[((x:Int),(y:Int))]) out (by simp;omega) (fun a i x b d=>?_) (fun a d=>?_)
  ·rw [h,z8 (fun x:Nat=>[((x:Int),(y:Int))])];congr 2;exact List.map_eq_flatMap.symm
  ·have hi:=zu b;rw [List.length_range] at hi;rw [df hi] at b;injection b with b;subst b
   have e:a.length<=1010:=by
    rw [d,z8 (fun x:Nat=>[((x:Int),(y:Int))]),du];have:=zki (G:=fun x:Nat=>[((x:Int),(y:Int))]) (m:=1) (l:=(List.range n).take i) (by simp);have:((List.range n).take i).length<=4:=by simp;omega
    omega
   unfold zb5;rw [if_pos (by simp;omega),zQ (by simp;omega) (by simp;omega)];rfl
  ·unfold zb5;rw [List.length_range,if_neg (by simp;omega)]
 have h:=zae (F:=zdG (0,0) ((n:Int) - 1,(n:Int) - 1)) (List.range n) (fun a (y:Nat)=>a++(List.range n).map fun (x:Nat)=>((x:Int),(y:Int))) [] (by simp;omega) (fun a i x b d=>?_) (fun a d=>?_)
 ·unfold ziu;rw [h,z8];rfl
 ·have hi:=zu b;rw [List.length_range] at hi;rw [df hi] at b;injection b with b;subst b
  have e:a.length<=100:=by
   rw [d,z8,du];have:=zki (G:=fun y:Nat=>(List.range n).map fun (x:Nat)=>((x:Int),(y:Int))) (m:=4) (l:=(List.range n).take i) (by simp;omega);have:((List.range n).take i).length<=4:=by simp;omega
   simp only [ec];omega
  unfold zdG;rw [if_pos (by simp;omega)];simp only [c a i (by omega),gp];rfl
 ·unfold zdG;rw [List.length_range,if_neg (by simp;omega)]
theorem zpr {k:Int} (hk:Blk k):zf1 k=some (cz k):=by
 unfold zf1;obtain ⟨n,rfl⟩:=ba (by unfold Blk at hk;omega:0<=k);have a:1<=n:=by unfold Blk at hk;omega
 have b:n<=4:=by unfold Blk at hk;omega
 rw [zt (by omega) (by omega),zx2 a b];have:n=1\/n=2\/n=3\/n=4:=by omega
 rcases this with rfl | rfl | rfl | rfl<;>rfl
def zqv (b c:Pt) (k:Int):Pt:=(b.1*k+c.1,b.2*k+c.2)
def zse (b:Pt):Prop := -1000<=b.1/\b.1<=1000 /\ -1000<=b.2/\b.2<=1000
theorem zs3 {b c:Pt} {k:Int} (hk:Blk k) (hb:zse b) (hc:zse c):ziv b c k=some (zqv b c k)/\zhX b c.1 c.2 k=some (zqv b c k):=by
 unfold zse at hb hc;have m:(-4000<=b.1*k/\b.1*k<=4000) /\ -4000<=b.2*k/\b.2*k<=4000:=by
  rcases hk.cases with rfl | rfl | rfl | rfl<;>omega
 unfold ziv zhX zqv;rw [Int.mul_comm k b.1,Int.mul_comm k b.2,zt (n:=b.1*k) (by omega) (by omega),zt (n:=b.2*k) (by omega) (by omega),zt (n:=b.1*k+c.1) (by omega) (by omega),zt (n:=b.2*k+c.2) (by omega) (by omega)];exact ⟨rfl,rfl⟩
theorem zql {ts:List Plc} (hs:PW ts) (hl:ts.length<=1048576) (p:Pt) :
  ∃ (k:Nat) (b:Bool),zN ts p (fun q0 h=>zO q0 h)=some ((k:Int),b)/\k<=ts.length/\(∀ (i:Nat) x,i<k->ts[i]?=some x->lp x.1 p=true)/\(∀ (i:Nat) x,k<=i->ts[i]?=some x->lp x.1 p=false)/\
   (b=true->∃ x,ts[k]?=some x/\x.1=p)/\(b=false->∀ x∈ts,x.1≠p):=by
 have hs:=hs.srt;have hc:∀ x:Plc,zO x p=some (zuh x.1 p):=fun x=>by unfold zO;rw [zrD];rfl
 have key:=zu2 hs hl (p:=p) (F:=zH ts p fun q0 h=>zO q0 h) ?_ ?_
 ·obtain ⟨k,v,j,g,f⟩:=key;unfold zN zaz;simp only [v,gp];by_cases c:k<ts.length
  ·have d:ts[k]?=some ts[k]:=cq c;rw [if_pos (by simp [c])];simp only [zr d,gp,hc];refine ⟨k,_,rfl,j,g,f,fun e=>⟨_,d,znR.1 (of_decide_eq_true e)⟩,fun e=>zqe hs g f fun x a=>?_⟩;rw [d] at a;injection a with a;subst a
   exact fun r=>of_decide_eq_false e (znR.2 r)
  ·rw [if_neg (by simp;omega)];exact ⟨k,false,rfl,j,g,f,fun e=>(Bool.noConfusion e),fun _=>zqe hs g f fun x a=>by have:=zu a;omega⟩
 ·intro lo hi x c t d;unfold zH;have n:w64 ((lo:Int)+(hi:Int))=((lo+hi:Nat):Int):=by rw [zt (by omega) (by omega)];omega
  have m:IntKind.wrap .u64 ((lo+hi:Nat):Int)=((lo+hi:Nat):Int):=by
   show ((lo+hi:Nat):Int) % 18446744073709551616=((lo+hi:Nat):Int);omega
  have u:Int.fdiv ((lo+hi:Nat):Int) (2 ^ 1)=(((lo+hi) / 2:Nat):Int):=by
   rw [Int.fdiv_eq_ediv_of_nonneg _ (by omega)];omega
  have q:w64 (((lo+hi) / 2:Nat):Int)=(((lo+hi) / 2:Nat):Int):=zt (by omega) (by omega);have s:w64 ((((lo+hi) / 2:Nat):Int)+1)=(((lo+hi) / 2+1:Nat):Int):=by rw [zt (by omega) (by omega)];omega
  rw [if_pos (by simp [c])];simp only [n,m,u,q,s,zr d,gp,hc,znC];cases lp x.1 p<;>rfl
 ·intro lo;unfold zH;rw [if_neg (by simp)]
theorem zyh {ts:List Plc} (hs:PW ts) (hl:ts.length<=1048576) (p:Pt):zao ts p=some (cat ts p):=by
 obtain ⟨k,b,h,f,e,g,c,d⟩:=zql hs hl p;unfold zao;rw [h];simp only [gp];cases b with
 | true=>
  obtain ⟨x,a,rfl⟩:=c rfl;simp only [if_true,zr a,gp];refine congrArg some (AtV.uniq hs ?_ (zls ts x.1));exact .inl ⟨x.2,rfl,fd a⟩
 | false=>
  simp only [aq,if_false];exact congrArg some (AtV.uniq hs (.inr ⟨rfl,d rfl⟩) (zls ts p))
def Frm (ts:List Plc):Prop:=PW ts/\ts.length<=500/\∀ x∈ts,ptB x.1=true/\0<=x.2/\x.2<=159
theorem Frm.spec {ts:List Plc} (h:Frm ts) (p:Pt):zcR ts p=some (cat ts p):=(zvb (List.Perm.refl ts) h.1 (by have:=h.2.1;omega) (fun x a=>(h.2.2 x a).2.1) p).1
theorem Frm.impl {ts:List Plc} (h:Frm ts) (p:Pt):zao ts p=some (cat ts p):=zyh h.1 (by have:=h.2.1;omega) p
theorem Frm.bd {ts:List Plc} (h:Frm ts) (p:Pt) : -1<=cat ts p/\cat ts p<=159:=by
 rcases zls ts p with ⟨k,e,a⟩ | ⟨e,_⟩
 ·have:=h.2.2 _ a;rw [e];simp only [] at this;omega
 ·omega
theorem zug {ts:List Plc} (h:Frm ts) {b:Pt} (hb:zse b) {k:Int} (hk:Blk k):∃ r,zg9 ts b k=some r/\zcG ts b k=some r /\ -1<=r/\r<=159:=by
 have m:w64 (k*k)=k*k:=by rcases hk.cases with rfl | rfl | rfl | rfl<;>rfl
 have Y:1<=k*k/\k*k<=16:=by rcases hk.cases with rfl | rfl | rfl | rfl<;>omega
 have key:∀ (d c:Nat) (f j:Int),(c:Int)+d=k*k->(c=0/\f = -1/\j = -1\/0<c/\0<=f/\f % (k*k)=0/\j=f / (k*k)/\f<=159)->
   ∃ A zs r,iter (zaP ts b k (cz k)) (f,(c:Int))=some A/\iter (zaq ts b k) (j,(c:Int))=some zs/\
    (match A with | .inl z=>zcJ k z | .inr z=>some z)=some r/\(match zs with | .inl z=>zd1 z | .inr z=>some z)=some r /\ -1<=r/\r<=159:=by
  intro d
  induction d with
  | zero=>
   intro c f j hc L;rcases L with ⟨rfl,_⟩ | ⟨h0,B,G,rfl,M⟩
   ·omega
   refine ⟨.inl f,.inl (f / (k*k)),f / (k*k),zI ?_,zI ?_,?_,rfl,?_,?_⟩
   ·unfold zaP;rw [zto hk,if_neg (by simp;omega)]
   ·unfold zaq;rw [m,if_neg (by simp;omega)]
   ·show zcJ k f=_;unfold zcJ;rw [m,zpM B (by omega) (by omega)];rfl
   ·have:=Int.ediv_nonneg B (by omega:0<=k*k);omega
   ·have:=Int.ediv_le_self (k*k) B;omega
  | succ d ih=>
   intro c f j hc L;have F:(c:Int)<k*k:=by omega
   obtain ⟨v,H⟩:∃ v,v=cat ts (zqv b ((c:Int) % k,(c:Int) / k) k):=⟨_,rfl⟩;have J:=h.bd (zqv b ((c:Int) % k,(c:Int) / k) k);rw [←H] at J;have O:1<=k/\k<=4:=hk;have Q:=Int.emod_nonneg (c:Int) (by omega:k≠0);have T:=Int.emod_lt_of_pos (c:Int) (by omega:0<k);have S:=Int.ediv_nonneg (by omega:0<=(c:Int)) (by omega:0<=k);have N:=Int.ediv_le_self k (by omega:0<=(c:Int));have w:zse ((c:Int) % k,(c:Int) / k):=⟨by simp only [];omega,by simp only [];omega,by simp only [];omega,by simp only [];omega⟩;obtain ⟨p1,p2⟩:=zs3 hk hb w;have E:w64 (v - (c:Int))=v - c:=zt (by omega) (by omega);have I:w64 ((c:Int)+1)=((c+1:Nat):Int):=by rw [zt (by omega) (by omega)];omega
   have hi:zaP ts b k (cz k) (f,(c:Int))=if v - (c:Int)<0 then some (.inr (.inr (-1))) else if (v - (c:Int)) % (k*k)≠0 then some (.inr (.inr (-1))) else if (c:Int)>0/\v - c≠f then some (.inr (.inr (-1))) else some (.inl (v - c,((c+1:Nat):Int))):=by
    unfold zaP;rw [zto hk,if_pos (by simp;omega)];simp only [zr (ztp F),gp,p1,h.impl,←H,E,m];by_cases n:v - (c:Int)<0
    ·rw [if_pos (by simpa using n),if_pos n];rfl
    rw [if_neg (by simpa using n),if_neg n,zre (by omega) (by omega)];simp only [gp];by_cases u:(v - (c:Int)) % (k*k)=0
    ·rw [if_neg (c:=(v - (c:Int)) % (k*k)≠0) (by simp [u])];simp only [u,decide_true,aw,aq,if_false];by_cases D:(c:Int)>0
     ·simp only [D,decide_true,if_true,true_and];unfold zbB;by_cases C:v - (c:Int)=f
      ·subst C;simp only [decide_true,aw,aq,if_false,ne_eq,not_true,E,I]
      ·simp only [C,decide_false,Bool.not_false,if_true,ne_eq,not_false_iff]
     ·simp only [D,decide_false,aq,if_false,false_and];unfold zbB;simp only [aq,if_false,E,I]
    ·simp only [u,decide_false,Bool.not_false,if_true,ne_eq,not_false_iff];rfl
   have hs:zaq ts b k (j,(c:Int))=if v<0 then some (.inr (.inr (-1))) else if v % (k*k)≠c then some (.inr (.inr (-1))) else if (c:Int)>0/\v / (k*k)≠j then some (.inr (.inr (-1))) else some (.inl (v / (k*k),((c+1:Nat):Int))):=by
    unfold zaq;rw [m,if_pos (by simp;omega),zre (by omega) (by omega),zpM (by omega) (by omega) (by omega)];simp only [gp,p2,h.spec,←H];by_cases n:v<0
    ·rw [if_pos (by simpa using n),if_pos n];rfl
    rw [if_neg (by simpa using n),if_neg n,zre (by omega) (by omega),zpM (by omega) (by omega) (by omega)];simp only [gp];have p:zaA k (j,(c:Int)) v false=some (.inl (v / (k*k),((c+1:Nat):Int))):=by
     unfold zaA;rw [if_neg (by simp),m,zpM (by omega) (by omega) (by omega)];simp only [gp,I]
    by_cases u:v % (k*k)=c
    ·rw [if_neg (c:=v % (k*k)≠c) (by simp [u])];simp only [u,decide_true,aw,aq,if_false];by_cases D:(c:Int)>0
     ·simp only [D,decide_true,if_true,true_and];by_cases C:v / (k*k)=j
      ·simp only [C,decide_true,aw,ne_eq,not_true,if_false];rw [p,C]
      ·simp only [C,decide_false,Bool.not_false,ne_eq,not_false_iff,if_true];rfl
     ·simp only [D,decide_false,aq,if_false,false_and];exact p
    ·simp only [u,decide_false,Bool.not_false,if_true,ne_eq,not_false_iff];rfl
   have t:∀ {x y},x=some (Sum.inr (Sum.inr (-1)))->y=some (Sum.inr (Sum.inr (-1)))->zaP ts b k (cz k) (f,(c:Int))=x->zaq ts b k (j,(c:Int))=y->_:=fun V U hi hs=>(⟨.inr (-1),.inr (-1),-1,zI (hi.trans V),zI (hs.trans U),rfl,rfl,by omega,by omega⟩ :
    ∃ A zs r,iter (zaP ts b k (cz k)) (f,(c:Int))=some A/\iter (zaq ts b k) (j,(c:Int))=some zs/\
    (match A with | .inl z=>zcJ k z | .inr z=>some z)=some r/\(match zs with | .inl z=>zd1 z | .inr z=>some z)=some r /\ -1<=r/\r<=159)
   have q:(v<0\/v % (k*k)≠c\/(c:Int)>0/\v / (k*k)≠j)↔(v - (c:Int)<0\/(v - (c:Int)) % (k*k)≠0\/(c:Int)>0/\v - c≠f):=by
    clear hi hs ih t p1 p2 w;rcases hk.cases with rfl | rfl | rfl | rfl<;>omega
   by_cases a:v<0\/v % (k*k)≠c\/(c:Int)>0/\v / (k*k)≠j
   ·have s:=q.1 a;refine t ?_ ?_ hi hs
    ·rcases s with g | g | g<;>(repeat' split)<;>first | rfl | contradiction
    ·rcases a with g | g | g<;>(repeat' split)<;>first | rfl | contradiction
   ·have e:=fun g=>a (q.2 g);rw [if_neg (fun g=>e (.inl g)),if_neg (fun g=>e (.inr (.inl g))),if_neg (fun g=>e (.inr (.inr g)))] at hi;rw [if_neg (fun g=>a (.inl g)),if_neg (fun g=>a (.inr (.inl g))),if_neg (fun g=>a (.inr (.inr g)))] at hs;rw [zD hi,zD hs];refine ih (c+1) _ _ (by omega) (.inr ⟨by omega,?_,?_,?_,by omega⟩)
    all_goals
     clear hi hs ih t p1 p2 w;rcases hk.cases with rfl | rfl | rfl | rfl<;>omega
 obtain ⟨A,zs,r,B,G,M,P,R,X⟩:=key (k*k).toNat 0 (-1) (-1) (by omega) (.inl ⟨rfl,rfl,rfl⟩);refine ⟨r,?_,?_,R,X⟩
 ·unfold zg9;rw [zpr hk];simp only [gp];rw [show ((0:Nat):Int)=0 from rfl] at B;rw [B];cases A<;>exact M
 ·unfold zcG;rw [show ((0:Nat):Int)=0 from rfl] at G;rw [G];cases zs<;>exact P
theorem zbD {α β:Type} (f:List β->α->List β) (hf:∀ a x,(f a x).length<=a.length+1):∀ (l:List α) (a:List β),(l.foldl f a).length<=a.length+l.length
 | [],a=>by simp
 | x::l,a=>by
  have b:=zbD f hf l (f a x);have c:=hf a x;rw [ci,dv];omega
noncomputable def ztK (k:Int) (a:List Pt) (x:Plc):List Pt:=(zeg a (bk x.1 k)).getD a
theorem zs2 (k:Int):∀ (l:List Plc) (a:List Pt),PP a->a.length+l.length<=1000->PP (l.foldl (ztK k) a)/\(∀ q,q∈l.foldl (ztK k) a↔q∈a\/∃ x∈l,bk x.1 k=q)/\(l.foldl (ztK k) a).length<=a.length+l.length
 | [],a,h,hl=>⟨h,by simp,by simp⟩
 | x::l,a,h,hl=>by
  rw [dv] at hl;obtain ⟨a',e,j,g,m⟩:=zw0 h (by omega) (bk x.1 k);have f:ztK k a x=a':=by unfold ztK;rw [e];rfl
  obtain ⟨d,c,n⟩:=zs2 k l a' j (by omega);rw [ci,f];refine ⟨d,fun q=>?_,by rw [dv];omega⟩;rw [c,g];constructor
  ·rintro ((h | rfl) | ⟨y,b,rfl⟩)
   ·exact .inl h
   ·exact .inr ⟨x,by simp,rfl⟩
   ·exact .inr ⟨y,by simp [b],rfl⟩
  ·rintro (h | ⟨y,b,rfl⟩)
   ·exact .inl (.inl h)
   ·rcases eu.1 b with rfl | b
    ·exact .inl (.inr rfl)
    ·exact .inr ⟨y,b,rfl⟩
theorem zwm {ts:List Plc} (h:Frm ts) {k:Int} (hk:Blk k):∃ l,zlo ts k=some l/\zhY ts k=some l/\(∀ q∈l,zse q)/\l.length<=500:=by
 have r:=h.2.1;have j:=zae (F:=zf2 ts k) ts (fun a x=>a++[bk x.1 k]) [] (by omega) (fun a i x b f=>by
  obtain ⟨⟨c,hc⟩,_⟩:=zyU (h.2.2 x (fd b)).1 hk;have hi:=zu b;have t:a.length<=i:=by
   rw [f];refine fz (zbD _ (fun a x=>by simp) _ _) ?_;simp;omega
  unfold zf2;rw [if_pos (by simp;omega),zr b];simp only [gp,hc];rw [zQ (by simp;omega) (by simp;omega)];rfl) (fun a f=>by
  unfold zf2;rw [if_neg (by simp)])
 rw [z8 (fun x:Plc=>[bk x.1 k]),fh,←List.map_eq_flatMap] at j;obtain ⟨p1,p2,p3⟩:=zs2 k ts [] List.Pairwise.nil (by simp;omega);have v:=zae (F:=zdk ts k) ts (ztK k) [] (by omega) (fun a i x b f=>by
  obtain ⟨_,c,hc⟩:=zyU (h.2.2 x (fd b)).1 hk;have hi:=zu b;obtain ⟨n,w,p⟩:=zs2 k (ts.take i) [] List.Pairwise.nil (by simp;omega);rw [←f] at n p;simp at p;obtain ⟨a',e,_⟩:=zw0 n (by omega) (bk x.1 k);unfold zdk;rw [if_pos (by simp;omega),zr b];simp only [gp,hc,e];unfold ztK;rw [e];rfl) (fun a f=>by
  unfold zdk;rw [if_neg (by simp)])
 obtain ⟨l',u,s,g⟩:=zwJ (l:=ts.map fun x=>bk x.1 k) (by simp;omega);have d:l'=ts.foldl (ztK k) []:=s.uniq p1 fun q=>by
  rw [g,p2,fa];simp
 refine ⟨l',?_,?_,fun q m=>?_,by rw [d];simpa using fz p3 (by simpa using r)⟩
 ·unfold zlo;rw [j];simp only [gp];unfold zkM;rw [u];rfl
 ·unfold zhY;rw [v];simp only [gp];rw [d];rfl
 ·rw [g,fa] at m;obtain ⟨x,b,rfl⟩:=m;have:=zo1.1 (h.2.2 x b).1;unfold zse bk;simp only [];rcases hk.cases with rfl | rfl | rfl | rfl<;>omega
noncomputable def cpl (ts:List Plc) (k:Int) (b:Pt):Int:=(zcG ts b k).getD (-1)
theorem zwh {ts:List Plc} (h:Frm ts) {k:Int} (hk:Blk k):∃ r,zfF ts k=some r/\zhW ts k=some r/\r.length<=500:=by
 obtain ⟨l,q,p,s,v⟩:=zwm h hk;have hc:∀ b∈l,zg9 ts b k=some (cpl ts k b)/\zcG ts b k=some (cpl ts k b):=fun b t=>by
  obtain ⟨r,m,j,_⟩:=zug h (s b t) hk;unfold cpl;rw [m,j];exact ⟨rfl,rfl⟩
 have e:∀ (a:List Plc) (i:Nat) (x:Pt),i<l.length->a=(l.take i).foldl (fun a b=>if 0<=cpl ts k b then a++[(b,cpl ts k b)] else a) []->a.length<=i:=fun a i x hi c=>by
  rw [c];refine fz (zbD _ (fun a x=>by split<;>simp) _ _) ?_;simp;omega
 have n:=zbx (F:=zbX ts k l) l (fun a b=>if 0<=cpl ts k b then a++[(b,cpl ts k b)] else a) [] (by omega) (fun a i x d c=>by
  have hi:=zu d;have f:=e a i x hi c;unfold zbX zdK;rw [if_pos (by simp;omega),zr d];simp only [gp,(hc x (fd d)).1];by_cases g:0<=cpl ts k x
  ·rw [if_pos (by simpa using g),if_pos g,zQ (by simp;omega) (by simp;omega)];rfl
  ·rw [if_neg (by simpa using g),if_neg g]) (fun a c=>by
  unfold zbX;rw [if_neg (by simp)])
 have u:=zbx (F:=zdj ts k l) l (fun a b=>if 0<=cpl ts k b then a++[(b,cpl ts k b)] else a) [] (by omega) (fun a i x d c=>by
  have hi:=zu d;have f:=e a i x hi c;unfold zdj zfr;rw [if_pos (by simp;omega),zr d];simp only [gp,(hc x (fd d)).2];by_cases g:0<=cpl ts k x
  ·rw [if_pos (by simpa using g),if_pos g,zQ (by simp;omega) (by simp;omega)];rfl
  ·rw [if_neg (by simpa using g),if_neg g]) (fun a c=>by
  unfold zdj;rw [if_neg (by simp)])
 refine ⟨l.foldl (fun a b=>if 0<=cpl ts k b then a++[(b,cpl ts k b)] else a) [],?_,?_,?_⟩
 rotate_left
 ·unfold zhW;rw [p];simp only [gp,u];rfl
 ·refine fz (zbD _ (fun a x=>by split<;>simp) _ _) ?_;simp;omega
 ·unfold zfF;rw [q];simp only [gp,n];rfl
theorem zwg {right d:List Plc} (h:Frm right) (hd:d.length<=500):∃ r,zjr right d=some r/\zh0 right d=some r/\r.length<=500:=by
 have c:∀ (a:List Pt) (i:Nat),i<d.length->a=(d.take i).foldl (fun a x=>if cat right x.1=x.2 then a else a++[x.1]) []->a.length<=i:=fun a i hi b=>by
  rw [b];refine fz (zbD _ (fun a x=>by split<;>simp) _ _) ?_;simp;omega
 have j:=zae (F:=zeE right d) d (fun a x=>if cat right x.1=x.2 then a else a++[x.1]) [] (by omega) (fun a i x e b=>by
  have hi:=zu e;have f:=c a i hi b;unfold zeE zgD;rw [if_pos (by simp;omega),zr e];simp only [gp,h.impl];by_cases g:cat right x.1=x.2
  ·rw [if_neg (by simp [g]),if_pos g]
  ·rw [if_pos (by simp [g]),if_neg g,zQ (by simp;omega) (by simp;omega)];rfl) (fun a b=>by
  unfold zeE;rw [if_neg (by simp)])
 have k:=zae (F:=zdl right d) d (fun a x=>if cat right x.1=x.2 then a else a++[x.1]) [] (by omega) (fun a i x e b=>by
  have hi:=zu e;have f:=c a i hi b;unfold zdl zfs;rw [if_pos (by simp;omega),zr e];simp only [gp,h.spec];by_cases g:cat right x.1=x.2
  ·rw [if_neg (by simp [g]),if_pos g]
  ·rw [if_pos (by simp [g]),if_neg g,zQ (by simp;omega) (by simp;omega)];rfl) (fun a b=>by
  unfold zdl;rw [if_neg (by simp)])
 refine ⟨d.foldl (fun a x=>if cat right x.1=x.2 then a else a++[x.1]) [],?_,?_,?_⟩
 rotate_left
 ·unfold zh0;rw [k];rfl
 ·refine fz (zbD _ (fun a x=>by split<;>simp) _ _) ?_;simp;omega
 ·unfold zjr;rw [j];rfl
theorem zuL (l:List Plc) (h:l.length<=2000000) (p:Plc->Option Bool) (q:Plc->Bool) (hp:∀ b∈l,p b=some (q b)) :
  ∃ i:Int,zaO l p=some i/\((i = -1/\∀ b∈l,q b=false)\/(∃ k:Nat,i=k/\k<l.length/\(∀ (j:Nat) b,j<k->l[j]?=some b->q b=false)/\∃ b,l[k]?=some b/\q b=true)):=by
 have key:=zz (F:=zaN l p) (fun i=>0<=i/\i<=l.length/\∀ (j:Nat) b,(j:Int)<i->l[j]?=some b->q b=false) (fun i=>(l.length - i).toNat)
  (fun z=>match z with | .inl _=>∀ b∈l,q b=false | .inr i=>∃ k:Nat,i=k/\k<l.length/\(∀ (j:Nat) b,j<k->l[j]?=some b->q b=false)/\∃ b,l[k]?=some b/\q b=true) ?_ 0 ⟨by omega,by omega,fun j b e=>by omega⟩
 ·obtain ⟨z,t,n⟩:=key;unfold zaO;rw [t];cases z with
  | inl z=>exact ⟨-1,rfl,.inl ⟨rfl,n⟩⟩
  | inr i=>exact ⟨i,rfl,.inr n⟩
 ·rintro i ⟨s,u,a⟩;obtain ⟨k,rfl⟩:=ba s;unfold zaN;by_cases c:k<l.length
  ·have f:l[k]?=some l[k]:=cq c;have g:=hp l[k] (dt c);have r:w64 ((k:Int)+1)=(k:Int)+1:=zt (by omega) (by omega);have hd:((k:Int)<(l.length:Int)):=by omega
   simp only [hd,decide_true,if_true,zr f,gp,g,r];cases hq:q l[k] with
   | true=>right;exact ⟨_,rfl,k,rfl,c,fun j b e=>a j b (by omega),_,f,hq⟩
   | false=>
    left;refine ⟨_,rfl,⟨by omega,by omega,fun j b e d=>?_⟩,by omega⟩;by_cases m:j=k
    ·subst m;rw [f] at d;injection d with d;rw [←d];exact hq
    ·exact a j b (by omega) d
  ·right;have hd:¬((k:Int)<(l.length:Int)):=by omega
   simp only [hd,decide_false];refine ⟨_,rfl,?_⟩;intro b d;obtain ⟨j,e⟩:=cy d;exact a j b (by have:=zu e;omega) e
theorem zys (l:List Plc) (h:l.length<=2000000) (p:Plc->Option Bool) (q:Plc->Bool) (hp:∀ b∈l,p b=some (q b)) :
  zcZ l p=some (l.filter fun b=>!q b):=by
 obtain ⟨i,hi,u⟩:=zuL l h p q hp;unfold zcZ;simp only [hi,gp];rcases u with ⟨rfl,e⟩ | ⟨k,rfl,hk,hlow,b,g,hq⟩
 ·rw [if_pos (by simp)];congr 1;symm;rw [bz];intro b g;rw [e b g];rfl
 ·rw [if_neg (by simp)];have x:w64 ((k:Int)+1)=(k:Int)+1:=zt (by omega) (by omega);rw [x];have key:=zz (F:=zbF p) (fun s=>(k:Int)<s.2.2/\s.2.2<=l.length/\s.1.length=l.length/\0<=s.2.1/\s.2.1<s.2.2/\s.1.take s.2.1.toNat=(l.take s.2.2.toNat).filter (fun b=>!q b)/\∀ j,s.2.2.toNat<=j->s.1[j]?=l[j]?)
   (fun s=>(l.length - s.2.2).toNat) (fun z=>z.1.length=l.length/\0<=z.2/\z.2<=l.length/\z.1.take z.2.toNat=l.filter (fun b=>!q b)) ?_ (l,(k:Int),(k:Int)+1) ?_
  ·obtain ⟨⟨y,m⟩,G,E,C,J,A⟩:=key;simp only at E C J A;rw [G];simp only [gp];unfold zdQ;have hc:clr y m (((0,0),0):Plc)=some (y.take m.toNat++List.replicate (y.length - m.toNat) ((0,0),0)):=by unfold clr;rw [if_pos ⟨by omega,by omega⟩]
   have I:(y.take m.toNat).length=m.toNat:=by rw [ef];omega
   have hs:zf7 (y.take m.toNat++List.replicate (y.length - m.toNat) (((0,0),0):Plc)) 0 m=some (y.take m.toNat):=by
    unfold zf7;rw [if_pos ⟨by omega,by omega,by rw [du,I,ed];omega⟩];simp only [Int.toNat_zero,List.drop_zero];rw [List.take_append_of_le_length (by omega),ft (by omega)]
   rw [hc];simp only [gp,hs];rw [A]
  ·rintro ⟨y,m,j⟩ ⟨g1,g2,g3,g4,g5,g6,g7⟩;simp only at g1 g2 g3 g4 g5 g6 g7;obtain ⟨j,rfl⟩:=ba (show 0<=j by omega);obtain ⟨m,rfl⟩:=ba g4;simp only [bb] at g6 g7;unfold zbF zbG;by_cases d:j<l.length
   ·left;have c:l[j]?=some l[j]:=cq d;have f:y[j]?=some l[j]:=by rw [g7 j (fy _)];exact c
    have t:=hp l[j] (dt d);have H:w64 ((j:Int)+1)=(j:Int)+1:=zt (by omega) (by omega);have n:w64 ((m:Int)+1)=(m:Int)+1:=zt (by omega) (by omega);have w:y[m]?=some y[m]:=cq (by omega);have a:((j:Int)+1).toNat=j+1:=by omega
    have r:((m:Int)+1).toNat=m+1:=by omega
    rw [if_pos (by simp;omega)];simp only [zr f,gp,t,H,n,zr w,bb];cases hq:q l[j] with
    | false=>
     rw [if_pos (by simp)];refine ⟨_,rfl,⟨by simp only [];omega,by simp only [];omega,by simp only [ee];exact g3,by simp only [];omega,by simp only [];omega,?_,fun i hi=>?_⟩,by simp only [];omega⟩
     ·simp only [a,r];rw [fp,zR (by omega),fp,c,br,List.take_set_of_le (by omega),g6];simp [hq]
     ·simp only [a] at hi ⊢;rw [zJ (by omega)];exact g7 i (by omega)
    | true=>
     rw [if_neg (by simp)];refine ⟨_,rfl,⟨by simp only [];omega,by simp only [];omega,g3,by simp only [];omega,by simp only [];omega,?_,fun i hi=>?_⟩,by simp only [];omega⟩
     ·simp only [a,bb];rw [g6,fp,c,br];simp [hq]
     ·simp only [a] at hi ⊢;exact g7 i (by omega)
   ·right;rw [if_neg (by simp;omega)];refine ⟨_,rfl,g3,by simp only [];omega,by simp only [];omega,?_⟩;simp only [bb];rw [g6,show j=l.length by omega,fq]
  ·refine ⟨by simp only [];omega,by simp only [];omega,rfl,by simp only [];omega,by simp only [];omega,?_,fun j B=>rfl⟩;simp only [bb];rw [show ((k:Int)+1).toNat=k+1 by omega,fp,g,br,zmQ fun j D B v=>by rw [hlow j D B v];rfl];simp [hq]
section
variable {set:TSet} {ts:List Plc}
theorem zxI (hS:SetOk set) (b:PW ts) (h2:ts.length<=500) (h3:∀ x∈ts,ptB x.1=true/\TileIx set x.2):zbo set ts:=by
 have hs:=b.srt;have:=hS.tiles;refine ⟨⟨h2,fun i hi x a=>?_⟩,fun x a=>(h3 x a).2⟩;have hm:=h3 x (fd a);have:=hm.2.1;have:=hm.2.2;exact ⟨hm.1,by omega,by omega,fun y b c=>hs _ _ y x (by omega) c a⟩
theorem zkS (hA:FormOk ts):Frm ts:=by
 have hs:=hA.srt;refine ⟨?_,hA.1,fun x c=>?_⟩
 ·unfold PW;rw [fk];intro i j hi b a;exact hs i j _ _ a (cq hi) (cq b)
 ·obtain ⟨i,hi⟩:=cy c;have:=hA.2 i (zu hi) x hi;exact ⟨this.1,this.2.1,this.2.2.1⟩
theorem zvB (hS:SetOk set) (hA:zbo set ts) {s0:List Plc} {t:Int} {O:List (Pt×List Int)} {p:Pt} {k:Int} (hk:TileIx set k) :
  zbe ((set,s0,t),ts,O) p k=some (ptB p&&(decide (cat ts p<0)&&decide (1<=zuk set (cat ts) p k/\zuk set (cat ts) p k<=w64 (t - 1)))):=by
 have h:=znA hA;unfold zbe;rw [zmw];simp only [gp];cases hp:ptB p with
 | false=>simp
 | true=>
  rw [if_pos rfl];by_cases hc:cat ts p<0
  ·rw [if_pos (by simpa using hc),zmz hS h.fok hp (g:=zfc ((set,s0,t),ts,O)) (fun d _=>rfl) hk];simp [hc,zc9]
  ·rw [if_neg (by simpa using hc)];simp [hc]
theorem zvA (hS:SetOk set) (hA:zbo set ts) {s0:List Plc} {t:Int} {p:Pt} {k:Int} :
  zhZ (set,s0,t) ts (p,k)=some (decide (TileIx set k)&&(ptB p&&(decide (cat ts p<0)&&decide (1<=zuk set (cat ts) p k/\zuk set (cat ts) p k<=w64 (t - 1))))):=by
 have h:=znA hA;have e:=hS.tiles;unfold zhZ ze0;rw [zkq];simp only [gp];cases hp:ptB p with
 | false=>simp
 | true=>
  rw [if_neg (by simp),(zi2 set (by omega) k).2];simp only [gp];by_cases c:TileIx set k
  ·obtain ⟨i,hi,b⟩:=(h.at p).2;have a:decide (0<=k/\k<=(set.2.length:Int) - 1)=true:=decide_eq_true c;rw [a,if_neg (by simp),hi];simp only [gp];by_cases hc:cat ts p<0
   ·have:=b.2 hc;rw [if_neg (by simp;omega),zml hS h.fok hp (fun d _=>(h.at _).1) c];simp [hc,c,zg6]
   ·have:¬i<0:=fun g=>hc (b.1 g);rw [if_pos (by simp;omega)];simp [hc]
  ·have a:decide (0<=k/\k<=(set.2.length:Int) - 1)=false:=decide_eq_false c;rw [a];simp [c]
theorem zsB {x:Plc}:∀ {l:List Plc} {k:Nat},k<=l.length->(∀ (i:Nat) y,i<k->l[i]?=some y->lp x.1 y.1=false)->(∀ (i:Nat) y,k<=i->l[i]?=some y->lp x.1 y.1=true)->l.take k++[x]++l.drop k=ins x l
 | [],k,hk,_,_=>by
  have:k=0:=by simpa using hk
  subst this;rfl
 | y::l,0,_,_,h=>by
  unfold ins;rw [if_pos (h 0 y (by omega) rfl)];rfl
 | y::l,k+1,hk,h1,h2=>by
  unfold ins;rw [if_neg (by simp [h1 0 y (by omega) rfl])];rw [←zsB (k:=k) (by simpa using hk) (fun i z hi a=>h1 (i+1) z (by omega) a) (fun i z hi a=>h2 (i+1) z (by omega) a)];rfl
theorem zxQ (hA:zbo set ts) {p:Pt} {k:Int} (hf:∀ x∈ts,x.1≠p):zeZ ts p k=some (ins (p,k) ts):=by
 have h:=zkS hA.1;have m:=h.2.1;obtain ⟨i,b,e,f,d,g,_⟩:=zql h.1 (by omega) p;unfold zeZ zaj zar zyg;rw [e,if_neg (by simp),zQ (by simp;omega) (by simp;omega)];simp only [gp,fh];rw [if_pos ⟨by omega,by omega,by omega⟩];simp only [gp,bb];rw [zsB f (fun j y c a=>zvn (d j y c a)) (fun j y c a=>zl2 (g j y c a) (hf y (fd a)))]
theorem zyB (hS:SetOk set) (hA:zbo set ts) {p:Pt} {k:Int} (hf:∀ x∈ts,x.1≠p) (hp:ptB p=true) (hk:TileIx set k) (hl:ts.length<500):zbo set (ins (p,k) ts):=by
 have h:=znA hA;refine zxI hS (zuK h.pw hf) ?_ fun x a=>?_
 ·rw [(zkI (p,k) ts).length_eq];simp;omega
 ·rcases ztf a with rfl | a
  ·exact ⟨hp,hk⟩
  ·exact h.ok x a
theorem zuo (hA:zbo set ts) (p:Pt):zc3 ts [p]=some (ts.filter fun x=>!decide (x.1=p)):=by
 have b:=hA.1.1;unfold zc3 zaj zar;rw [if_neg (by simp),zQ (by simp;omega) (by simp;omega)];simp only [gp,fh];rw [zys ts (by omega) _ (fun x=>decide (x.1=p)) (fun x _=>?_)]
 ·rfl
 ·unfold zdX zgO ziV;have a:zcj [p] x.1 0=if x.1=p then some (.inr (.inr 0)) else some (.inl 1):=by
   unfold zcj;rw [if_pos (by simp)];have:idx [p] 0=some p:=rfl;simp only [this,gp];by_cases g:x.1=p
   ·rw [if_pos g,if_pos (by simp [g])]
   ·rw [if_neg g,if_neg (fun e=>g (by simp at e;exact Prod.ext e.1 e.2))];rfl
  by_cases g:x.1=p
  ·rw [if_pos g] at a;rw [zI a];simp [g]
  ·rw [if_neg g] at a;rw [zD a,zI (x:=.inl ()) (by unfold zcj;simp)];simp [zgN,g]
theorem zu4 (hS:SetOk set) (hA:zbo set ts) (q:Plc->Bool):zbo set (ts.filter q):=by
 have h:=znA hA;exact zxI hS (h.pw.filter q) (fz (dy _ _) h.len) fun x a=>h.ok x (ey.1 a).1
theorem zsX {i:Nat} {x:Plc} (hp:PW ts) (hl:ts.length<=500) (hx:ts[i]?=some x):zhf ts (i:Int)=some (ts.filter fun y=>!decide (y.1=x.1)):=by
 have hi:=zu hx;have f:w64 ((i:Int)+1)=((i+1:Nat):Int):=by rw [zt (by omega) (by omega)];omega
 unfold zhf zf7;rw [if_pos ⟨by omega,by omega,by omega⟩,f];simp only [gp];rw [if_pos ⟨by omega,by omega,by omega⟩];simp only [gp,Int.toNat_zero,bb,List.drop_zero,fq];rw [zQ (by simp;omega) (by simp;omega)];simp only [gp,fh];rw [zQ (by simp;omega) (by simp;omega)];simp only [gp];congr 1;have a:ts=ts.take i++x::ts.drop (i+1):=by
  have d:ts[i]=x:=by rw [cq hi] at hx;injection hx
  rw [←d,←bj hi,List.take_append_drop]
 have b:=hp;unfold PW at b;rw [a,List.pairwise_append,fj] at b;obtain ⟨_,⟨g,_⟩,h⟩:=b
 conv=>rhs;rw [a]
 rw [br,List.filter_cons];rw [if_neg (by simp)];congr 1
 ·symm;rw [bz];intro y c;have:=zkz (h y c x (by simp));simpa using this
 ·symm;rw [bz];intro y c;have:=zkz (g y c);simpa using fun e=>this e.symm
def znm (set:TSet) (s0:List Plc) (t:Int) (ts:List Plc) (x:Plc):Bool:=!decide (cat s0 x.1=x.2)&&decide (zuk set (cat ts) x.1 x.2<t)
theorem zrt (hS:SetOk set) (hA:zbo set ts) {s0:List Plc} (h0:zbo set s0) {t:Int} {x:Plc} (hp:ptB x.1=true) (hk:TileIx set x.2):zea (set,s0,t) ts x=some (znm set s0 t ts x):=by
 have h:=znA hA;unfold zea zeY znm;simp only [(zkS h0.1).impl,gp];by_cases g:cat s0 x.1=x.2
 ·rw [if_neg (by simp [g])];simp [g]
 ·rw [if_pos (by simp [g]),zmz hS h.fok hp (g:=fun q0=>zao ts q0) (fun d _=>(zkS hA.1).impl _) hk];simp [g]
theorem zuF (hS:SetOk set) (hA:zbo set ts) {s0:List Plc} (h0:zbo set s0) {t:Int} :
  ∃ l,zgZ (set,s0,t) ts=some l/\l.length<=500/\∀ (i:Nat) x,ts[i]?=some x->((i:Int)∈l↔znm set s0 t ts x=true):=by
 have h:=znA hA;have p:=h.len;have n:∀ (a:List Int) (i:Nat),i<=ts.length->a=((List.range ts.length).take i).foldl (fun a (j:Nat)=>if znm set s0 t ts (ts.getD j ((0,0),0)) then a++[(j:Int)] else a) []->a.length<=i:=fun a i hi m=>by
  rw [m];refine fz (zbD _ (fun a x=>by split<;>simp) _ _) ?_;simp;omega
 have e:=zae (F:=zef (set,s0,t) ts) (List.range ts.length) (fun a (j:Nat)=>if znm set s0 t ts (ts.getD j ((0,0),0)) then a++[(j:Int)] else a) [] (by simp;omega) (fun a i x c m=>by
  have hi:=zu c;rw [List.length_range] at hi;rw [df hi] at c;injection c with c;subst c
  have r:=n a i (by omega) m;have f:ts[i]?=some ts[i]:=cq hi;have b:ts.getD i ((0,0),0)=ts[i]:=by rw [List.getD_eq_getElem?_getD,f];rfl
  have k:=h.ok _ (fd f);rw [b];unfold zef zgh zgi zmi znm;rw [if_pos (by simp;omega),zr f];simp only [gp,(zkS h0.1).spec];by_cases g:cat s0 ts[i].1=ts[i].2
  ·rw [if_neg (by simp [g])];simp [g]
  ·rw [if_pos (by simp [g]),zml hS h.fok k.1 (fun d _=>(h.at _).1) k.2];simp only [gp,g,decide_false,Bool.not_false,Bool.true_and];split
   ·rw [zQ (by simp;omega) (by simp;omega)];rfl
   ·rfl) (fun a m=>by
  unfold zef;rw [List.length_range,if_neg (by simp)])
 rw [zcz (fun (j:Nat)=>znm set s0 t ts (ts.getD j ((0,0),0))) (fun (j:Nat)=>(j:Int)),fh] at e;refine ⟨_,by unfold zgZ;rw [e];rfl,?_,fun i x c=>?_⟩
 ·rw [dz];exact fz (dy _ _) (by simp;omega)
 ·have hi:=zu c;have b:ts.getD i ((0,0),0)=x:=by rw [List.getD_eq_getElem?_getD,c];rfl
  rw [fa];constructor
  ·rintro ⟨j,q,e⟩;have:j=i:=by omega
   subst this;have:=(ey.1 q).2;rw [b] at this;exact this
  ·intro g;exact ⟨i,ey.2 ⟨fe.2 hi,by rw [b];exact g⟩,rfl⟩
theorem zzt {l:List Int} (hl:l.length<=2000000) (n:Int):zjA l n=some (decide (n∈l)):=by
 have key:=zz (F:=zie l n) (fun i=>0<=i/\i<=l.length/\∀ (j:Nat) b,(j:Int)<i->l[j]?=some b->b≠n) (fun i=>(l.length - i).toNat)
  (fun z=>match z with | .inl _=>n∉l | .inr b=>b=true/\n∈l) ?_ 0 ⟨by omega,by omega,fun j b f=>by omega⟩
 ·obtain ⟨z,r,g⟩:=key;unfold zjA;rw [r];cases z with
  | inl z=>simp [zku,g]
  | inr b=>simp [g.1,g.2]
 ·rintro i ⟨q,s,a⟩;obtain ⟨k,rfl⟩:=ba q;unfold zie;by_cases c:k<l.length
  ·have m:l[k]?=some l[k]:=cq c;have p:w64 ((k:Int)+1)=(k:Int)+1:=zt (by omega) (by omega);rw [if_pos (by simp;omega),zr m,p];simp only [gp];by_cases e:l[k]=n
   ·right;rw [if_pos (by simp [e])];exact ⟨_,rfl,rfl,e▸dt c⟩
   ·left;rw [if_neg (by simp [e])];refine ⟨_,rfl,⟨by omega,by omega,fun j b f d=>?_⟩,by omega⟩;by_cases h:j=k
    ·subst h;rw [m] at d;injection d with d;rw [←d];exact e
    ·exact a j b (by omega) d
  ·right;rw [if_neg (by simp;omega)];refine ⟨_,rfl,fun hm=>?_⟩;obtain ⟨j,f⟩:=cy hm;exact a j n (by have:=zu f;omega) f rfl
end
def zxL {S X:Type} (I:S->Prop) (μ:S->Nat) (R:X->Prop) (s:S):S ⊕ X->Prop
 | .inl s'=>I s'/\μ s'<μ s
 | .inr x=>R x
theorem zv4 {S X:Type} {F G:S->Option (S ⊕ X)} (I:S->Prop) (μ:S->Nat) (R:X->Prop)
  (step:∀ s,I s->∃ r,F s=some r/\G s=some r/\zxL I μ R s r):∀ s,I s->∃ x,iter F s=some x/\iter G s=some x/\R x:=by
 have key:∀ m s,μ s=m->I s->∃ x,iter F s=some x/\iter G s=some x/\R x:=by
  intro m
  induction m using Nat.strongRecOn with
  | ind m ih=>
   intro s hm e;obtain ⟨r,c,b,a⟩:=step s e;cases r with
   | inr x=>exact ⟨x,zI c,zI b,a⟩
   | inl s'=>
    obtain ⟨x,f,d,g⟩:=ih (μ s') (by have:=a.2;omega) s' rfl a.1;exact ⟨x,(zD c).trans f,(zD b).trans d,g⟩
 exact fun s h=>key _ s rfl h
section
variable {set:TSet} {ts s0:List Plc} {t:Int}
def Res (set:TSet) (a b:Option (List Plc×Int)):Prop:=∃ r,a=some r/\b=some r/\(r.2=0->zbo set r.1)
theorem zxH (hS:SetOk set) (hA:zbo set ts) {p:Pt} {k:Int} (g:CrySt->Pt->Int->Option Bool) {q:Bool}
  (hg:TileIx set k->g ((set,s0,t),ts,ncO set t ts) p k=some q) (hq:TileIx set k->q=true->ptB p=true/\cat ts p<0) {o:Option Bool} (ho:o=some (decide (TileIx set k)&&q)) :
  Res set (zhb (set,s0,t) ts (p,k) g) (o.bind fun x=>if !x then some (([]:List Plc),5) else zau ts (p,k)):=by
 have m:=hA.1.1;have f:=hS.tiles;subst ho;unfold zhb zgE zau;rw [(zi2 set (by omega) k).1];simp only [gp];by_cases b:TileIx set k
 ·have a:decide (0<=k/\k<=(set.2.length:Int) - 1)=true:=decide_eq_true b;rw [a,if_neg (by simp),zr3 hS hA];simp only [gp,hg b];cases hqq:q with
  | false=>refine ⟨_,rfl,?_,fun e=>by cases e⟩;simp
  | true=>
   obtain ⟨j,h⟩:=hq b hqq;have c:=(znA hA).free.1 h;simp only [aw,aq,if_false,Bool.and_true,b,decide_true];by_cases d:(ts.length:Int)≥500
   ·rw [if_pos (by simpa using d),if_pos (by simpa using d)];exact ⟨_,rfl,rfl,fun e=>by cases e⟩
   ·rw [if_neg (by simpa using d),if_neg (by simpa using d),zxQ hA c,ztC ts (by omega)];exact ⟨_,rfl,rfl,fun _=>zyB hS hA c j b (by omega)⟩
 ·have a:decide (0<=k/\k<=(set.2.length:Int) - 1)=false:=decide_eq_false b;rw [a];refine ⟨([],5),by simp,by simp [b],fun e=>by cases e⟩
theorem Res.grow {a b:Option (List Plc×Int)} (h:Res set a b):∃ r,(a.bind fun x=>some (x.1,x.2))=some r/\b=some r/\(r.2=0->zbo set r.1):=by
 obtain ⟨r,c,d,e⟩:=h;exact ⟨r,by rw [c];rfl,d,e⟩
theorem do1 (hS:SetOk set) (hA:zbo set ts) (x:Plc):∃ r,zfZ x (set,s0,t) ts=some r/\zca (set,s0,t) ts (1,x)=some r/\(r.2=0->zbo set r.1):=by
 obtain ⟨p,k⟩:=x;obtain ⟨r,f,d,g⟩:=(zxH (s0:=s0) (t:=t) hS hA (fun q0 e h=>za6 q0 e h) (q:=zrM set t ts p k) (fun c=>zsD hS (znA hA) c) (fun _ a=>by
  unfold zrM at a;simp at a;exact ⟨a.1.1,a.1.2⟩) (zwD (s0:=s0) hS (znA hA))).grow
 refine ⟨r,f,?_,g⟩;unfold zca;rw [if_pos (by simp),←d];cases zjw (set,s0,t) ts (p,k) with
 | none=>rfl
 | some b=>
  cases b with
  | false=>rfl
  | true=>show (zau ts (p,k)).bind _=zau ts (p,k);cases zau ts (p,k)<;>rfl
theorem do2 (hS:SetOk set) (hA:zbo set ts) (x:Plc):∃ r,zfo x (set,s0,t) ts=some r/\zca (set,s0,t) ts (2,x)=some r/\(r.2=0->zbo set r.1):=by
 obtain ⟨p,k⟩:=x;obtain ⟨r,f,d,g⟩:=(zxH (s0:=s0) (t:=t) hS hA (fun q0 e h=>zbe q0 e h) (fun c=>zvB hS hA c) (fun _ a=>by
  simp at a;exact ⟨a.1,a.2.1⟩) (zvA (s0:=s0) (t:=t) hS hA)).grow
 refine ⟨r,f,?_,g⟩;unfold zca;rw [if_neg (by simp),if_pos (by simp),←d];cases zhZ (set,s0,t) ts (p,k) with
 | none=>rfl
 | some b=>
  cases b with
  | false=>rfl
  | true=>show (zau ts (p,k)).bind _=zau ts (p,k);cases zau ts (p,k)<;>rfl
theorem do3 (hS:SetOk set) (hA:zbo set ts) (h0:zbo set s0) (x:Plc):∃ r,zc1 x (set,s0,t) ts=some r/\zca (set,s0,t) ts (3,x)=some r/\(r.2=0->zbo set r.1):=by
 obtain ⟨p,k⟩:=x;have hc:=znA hA;have F:=hA.1.1;have E:=hS.tiles;obtain ⟨i,hi,s⟩:=zoo hA.1.srt (by omega) p;obtain ⟨L,w,G,m⟩:=zuF hS hA h0 (t:=t);have A:zca (set,s0,t) ts (3,(p,k))=((zay ts p).bind fun a=>if decide (a<0) then (zcu ts a true) else ((idx ts a).bind fun C=>if !decide (C.2=k) then (zcu ts a true) else ((zgZ (set,s0,t) ts).bind fun v=>(zjA v a).bind fun q=>zcu ts a (!q)))):=by
  unfold zca;rw [if_neg (by simp),if_neg (by simp),if_pos (by simp)]
 rw [A];unfold zc1 zaE zcu;rw [hi,(zi2 set (by omega) k).1];simp only [gp,(zkS hA.1).impl,zrt hS hA h0,w];rcases s with ⟨D,y,f,rfl⟩ | ⟨rfl,hall⟩
 ·obtain ⟨j,rfl⟩:=ba D;simp only [bb] at f;have n:=fd f;have d:=hc.ok y n;have b:cat ts y.1=y.2:=AtV.uniq hc.pw (zls ts y.1) (.inl ⟨y.2,rfl,n⟩);rw [if_neg (c:=decide ((j:Int)<0)=true) (by simp),zr f];simp only [gp,b];by_cases g:y.2=k
  ·subst g;have u:decide (0<=y.2/\y.2<=(set.2.length:Int) - 1)=true:=decide_eq_true d.2;rw [u];simp only [aw,aq,if_false,decide_true];rw [show ((y.1,y.2):Plc)=y from rfl,zrt hS hA h0 d.1 d.2,zzt (by omega)];simp only [gp];cases hq:znm set s0 t ts y with
   | false=>
    have B:¬(j:Int)∈L:=fun h=>by rw [(m j y f).1 h] at hq;cases hq
    refine ⟨([],5),by simp,by simp [B],fun e=>by cases e⟩
   | true=>
    have B:(j:Int)∈L:=(m j y f).2 hq;refine ⟨(ts.filter fun x=>!decide (x.1=y.1),0),?_,?_,fun _=>zu4 hS hA _⟩
    ·simp [zuo hA]
    ·simp only [B,decide_true,aw,aq,if_false];rw [zsX hc.pw F f];rfl
  ·refine ⟨([],5),?_,by simp [g],fun e=>by cases e⟩;simp only [g,decide_false,Bool.not_false,if_true];split<;>rfl
 ·have b:cat ts p = -1:=AtV.uniq hc.pw (zls ts p) (.inr ⟨rfl,hall⟩);refine ⟨([],5),?_,by simp,fun e=>by cases e⟩;simp only [b];by_cases g:0<=k/\k<=(set.2.length:Int) - 1
  ·have:(-1:Int)≠k:=by omega
   simp [this]
  ·simp [g]
def plI (set:TSet) (l:List (Int×Plc)) (s:Int×Int×List Plc):Prop:=0<=s.2.1/\s.2.1<=l.length/\zbo set s.2.2
def plM (l:List (Int×Plc)) (s:Int×Int×List Plc):Nat:=(l.length - s.2.1).toNat
def plR (set:TSet):(Int×List Plc) ⊕ (List Plc×Int×Int×Int)->Prop
 | .inl z=>zbo set z.2
 | .inr z=>z.2.2.2≠0
theorem zx4 (hS:SetOk set) (h0:zbo set s0) {l:List (Int×Plc)} (hl:l.length<=2000000) (hv:zaU (set,s0,t)=some true) (hw:zfJ (set,s0,t)=some true) :
  ∃ r,zgH (set,s0,t) l=some r/\zgs (set,s0,t) l=some r/\(r.2.2.2=0->zbo set r.1):=by
 have p:=h0.1.1;unfold zgH zgs;rw [hv,hw];simp only [gp,aw,aq,if_false];by_cases b:(l.length:Int)>200
 ·rw [if_pos (by simpa using b),if_pos (by simpa using b)];exact ⟨_,rfl,rfl,fun e=>by cases e⟩
 rw [if_neg (by simpa using b),if_neg (by simpa using b)];unfold zhD zaj zar zm7;rw [if_neg (by simp),zQ (by simp;omega) (by simp;omega)];simp only [gp,fh];have key:=zv4 (F:=zeb (set,s0,t) l) (G:=zd6 (set,s0,t) l) (plI set l) (plM l) (plR set) ?_ (0,0,s0) ⟨by simp,by simp,h0⟩
 ·obtain ⟨z,s,w,q⟩:=key;rw [s,w];simp only [gp];cases z with
  | inl z=>exact ⟨_,rfl,rfl,fun _=>q⟩
  | inr z=>exact ⟨_,rfl,rfl,fun e=>absurd e q⟩
 ·rintro ⟨f,i,a⟩ ⟨g0,g1,hA⟩;simp only at g0 g1 hA;obtain ⟨j,rfl⟩:=ba g0;unfold zeb zd6 zcr zd7;by_cases g:j<l.length
  ·have y:l[j]?=some l[j]:=cq g;have m:w64 ((j:Int)+1)=(j:Int)+1:=zt (by omega) (by omega);rw [if_pos (by simp;omega),if_pos (by simp;omega),zr y];rcases hox:l[j] with ⟨kd,o⟩
   simp only [gp,m];have fin:∀ {X:Option (List Plc×Int)} {n:Int} {k d:Int},k=d->(∃ r,X=some r/\zca (set,s0,t) a (kd,o)=some r/\(r.2=0->zbo set r.1))->kd=n->
    ∃ r,(X.bind fun x=>if !decide (x.2=0) then (some (.inr (.inr ([],0,(j:Int),x.2)))) else (some (.inl (k,(j:Int)+1,x.1)):Option ((Int×Int×List Plc) ⊕ ((Int×List Plc) ⊕ (List Plc×Int×Int×Int)))))=some r/\
     ((zca (set,s0,t) a (kd,o)).bind fun x=>if !decide (x.2=0) then (some (.inr (.inr ([],0,(j:Int),x.2)))) else (some (.inl (d,(j:Int)+1,x.1)):Option ((Int×Int×List Plc) ⊕ ((Int×List Plc) ⊕ (List Plc×Int×Int×Int)))))=some r/\
     zxL (plI set l) (plM l) (plR set) (f,(j:Int),a) r:=by
    rintro X n k d rfl ⟨r,u,A,v⟩ _;rw [u,A];simp only [gp];by_cases c:r.2=0
    ·rw [if_neg (by simp [c])];exact ⟨_,rfl,rfl,⟨by simp only [];omega,by simp only [];omega,v c⟩,by unfold plM;simp only [];omega⟩
    ·rw [if_pos (by simp [c])];exact ⟨_,rfl,rfl,c⟩
   by_cases k1:kd=1
   ·subst k1;simp only [show decide ((1:Int)=1)=true from by decide,show decide ((1:Int)=2)=false from by decide,show decide ((1:Int)=3)=false from by decide,decide_true,if_true,aq,if_false];exact fin rfl (do1 hS hA o) rfl
   by_cases k2:kd=2
   ·subst k2;simp only [show decide ((2:Int)=1)=false from by decide,show decide ((2:Int)=2)=true from by decide,show decide ((2:Int)=3)=false from by decide,decide_true,if_true,aq,if_false];exact fin rfl (do2 hS hA o) rfl
   by_cases h:kd=3
   ·subst h;simp only [show decide ((3:Int)=1)=false from by decide,show decide ((3:Int)=2)=false from by decide,show decide ((3:Int)=3)=true from by decide,decide_true,if_true,aq,if_false];exact fin rfl (do3 hS hA h0 o) rfl
   ·refine ⟨.inr (.inr ([],0,(j:Int),2)),by simp [k1,k2,h],?_,(by simp:(2:Int)≠0)⟩;unfold zca;simp [k1,k2,h]
  ·rw [if_neg (by simp;omega),if_neg (by simp;omega)];exact ⟨_,rfl,rfl,hA⟩
end
theorem zt6 {A B X:Type} {F:Int×A->Option ((Int×A) ⊕ (A ⊕ X))} (l:List B) (f:A->B->A) (ok:B->Bool) (bad:X) (a0:A) (hl:l.length<=2000000)
  (step:∀ (a:A) (i:Nat) (x:B),l[i]?=some x->a=(l.take i).foldl f a0->ok x=true->F ((i:Int),a)=some (.inl (w64 ((i:Int)+1),f a x)))
  (fail:∀ (a:A) (i:Nat) (x:B),l[i]?=some x->a=(l.take i).foldl f a0->ok x=false->F ((i:Int),a)=some (.inr (.inr bad)))
  (stop:∀ a,F ((l.length:Int),a)=some (.inr (.inl a))):iter F (0,a0)=some (if l.all ok then .inl (l.foldl f a0) else .inr bad):=by
 have key:∀ (d i:Nat) (a:A),i+d=l.length->a=(l.take i).foldl f a0->iter F ((i:Int),a)=some (if (l.drop i).all ok then .inl (l.foldl f a0) else .inr bad):=by
  intro d
  induction d with
  | zero=>
   intro i a hi b;have:i=l.length:=by omega
   subst this;rw [zI (stop a),List.drop_length,b,fq];rfl
  | succ d ih=>
   intro i a hi b;have c:i<l.length:=by omega
   have e:l[i]?=some l[i]:=cq c;have g:w64 ((i:Int)+1)=((i+1:Nat):Int):=by rw [zt (by omega) (by omega)];omega
   rw [bj c,List.all_cons];cases hok:ok l[i] with
   | true=>
    have h:=step a i _ e b hok;rw [g] at h;rw [zD h,ih (i+1) _ (by omega) (by rw [fp,e,List.foldl_append,←b];rfl)];rfl
   | false=>rw [zI (fail a i _ e b hok)];rfl
 have:=key l.length 0 a0 (by omega) (by simp);rw [List.drop_zero] at this;exact this
def ce (k:Int) (x:Plc) (c:Nat):Plc:=(zqv x.1 ((c:Int) % k,(c:Int) / k) k,x.2*k*k+c)
def cl (k:Int) (x:Plc):List Plc:=(List.range (k*k).toNat).map (ce k x)
def okE (e:Plc):Bool:=ptB e.1&&!decide (e.2≥160)
def zpi (a:List Plc) (e:Plc):List Plc:=ins e a
theorem zvq:∀ (l:List Plc) (a:List Plc),PW a->l.Pairwise (fun x y=>x.1≠y.1)->(∀ x∈l,∀ y∈a,y.1≠x.1)->PW (l.foldl zpi a)/\(l.foldl zpi a).Perm (a++l)
 | [],a,h,_,_=>⟨h,by simp⟩
 | x::l,a,h,hp,hn=>by
  have d:=fj.1 hp;obtain ⟨f,e⟩:=zvq l (ins x a) (zuK h (hn x (by simp))) d.2 (fun y c z b=>by
   rcases ztf b with rfl | b
   ·exact d.1 y c
   ·exact hn y (by simp [c]) z b)
  refine ⟨f,e.trans ?_⟩;refine ((zkI x a).append_right l).trans ?_;simp
theorem zt7:∀ (l:List Plc) (a:List Plc),(l.foldl zpi a).length=a.length+l.length
 | [],a=>by simp
 | x::l,a=>by
  rw [ci,zt7 l];show (ins x a).length+l.length=_;rw [(zkI x a).length_eq];simp;omega
theorem zuY {k:Int} (hk:Blk k) (x:Plc):(cl k x).length=(k*k).toNat:=by unfold cl;simp
theorem ztM {k:Int} (hk:Blk k) {b b' c c':Pt} (h1:0<=c.1/\c.1<k) (h2:0<=c.2/\c.2<k) (h3:0<=c'.1/\c'.1<k) (h4:0<=c'.2/\c'.2<k) (h:zqv b c k=zqv b' c' k):b=b'/\c=c':=by
 unfold zqv at h;injection h with h5 h6
 have:b.1=b'.1/\b.2=b'.2/\c.1=c'.1/\c.2=c'.2:=by
  rcases hk.cases with rfl | rfl | rfl | rfl<;>omega
 exact ⟨Prod.ext this.1 this.2.1,Prod.ext this.2.2.1 this.2.2.2⟩
theorem znS {k:Int} (hk:Blk k) {c:Nat} (h:(c:Int)<k*k):(0<=(c:Int) % k/\(c:Int) % k<k)/\0<=(c:Int) / k/\(c:Int) / k<k:=by
 rcases hk.cases with rfl | rfl | rfl | rfl<;>omega
theorem zz4 {k:Int} (hk:Blk k) (ts:List Plc) (h:PW ts):(ts.flatMap (cl k)).Pairwise (fun x y=>x.1≠y.1):=by
 rw [List.pairwise_flatMap];have hc:∀ c:Nat,c<(k*k).toNat->(c:Int)<k*k:=fun c h=>by omega
 constructor
 ·intro x _;unfold cl;rw [List.pairwise_map];refine fk.2 fun i j hi d n e=>?_;simp only [List.length_range] at hi d;simp only [List.getElem_range,ce] at e;obtain ⟨g,a2⟩:=znS hk (hc i hi);obtain ⟨f,m⟩:=znS hk (hc j d);have:=(ztM hk g a2 f m e).2;injection this with e1 e2
  rcases hk.cases with rfl | rfl | rfl | rfl<;>omega
 ·refine h.imp fun {x y} hxy a ha b hb e=>?_;unfold cl at ha hb;obtain ⟨i,hi,rfl⟩:=fa.1 ha;obtain ⟨j,d,rfl⟩:=fa.1 hb;obtain ⟨g,a2⟩:=znS hk (hc i (fe.1 hi));obtain ⟨f,m⟩:=znS hk (hc j (fe.1 d));exact zkz hxy (ztM hk g a2 f m e).1
theorem zvl {p:Pt} (h:ptB p=true):zse p:=by
 have:=zo1.1 h;unfold zse;omega
theorem zsy {k:Int} (hk:Blk k) {c:Nat} (h:(c:Int)<k*k):zse ((c:Int) % k,(c:Int) / k):=by
 obtain ⟨a,b⟩:=znS hk h;have d:k<=4:=hk.2;exact ⟨by simp only [];omega,by simp only [];omega,by simp only [];omega,by simp only [];omega⟩
theorem zw7 {k:Int} (hk:Blk k) {t:Int} (h0:0<=t) (h1:t<=159) {c:Nat} (h:(c:Int)<k*k):w64 (w64 (w64 (t*k)*k)+c)=t*k*k+c/\0<=t*k*k+c:=by
 rcases hk.cases with rfl | rfl | rfl | rfl<;>(rw [zt (n:=t*_) (by omega) (by omega),zt (n:=t*_*_) (by omega) (by omega),zt (by omega) (by omega)];exact ⟨rfl,by omega⟩)
section
variable {ts:List Plc} {k:Int}
theorem zym {l:List Plc} (a:PW l) (h2:l.length<=500) (h3:∀ x∈l,ptB x.1=true/\0<=x.2/\x.2<=159):FormOk l:=by
 have hs:=a.srt;refine ⟨h2,fun i hi x b=>?_⟩;have hm:=h3 x (fd b);exact ⟨hm.1,hm.2.1,hm.2.2,fun y a c=>hs _ _ y x (by omega) c b⟩
theorem zv6 (h:FormOk ts) (hk:Blk k):iter (zdg ts k) ([],0)=some (ts.flatMap (cl k)):=by
 have p:=zkS h;have u:=p.2.1;have n:(k*k).toNat<=16:=by rcases hk.cases with rfl | rfl | rfl | rfl<;>decide
 have d:∀ (out:List Plc) (x:Plc),x∈ts->out.length<=10000->iter (zdf k x (cz k)) (out,0)=some (out++cl k x):=by
  intro out x g t;obtain ⟨q,s,r⟩:=p.2.2 x g;have e:=zae (F:=zdf k x (cz k)) (List.range (k*k).toNat) (fun a c=>a++[ce k x c]) out (by simp;omega) (fun a i c hc f=>by
   have hi:=zu hc;rw [List.length_range] at hi;rw [df hi] at hc;injection hc with hc;subst hc
   have b:(i:Int)<k*k:=by omega
   have j:a.length<=10020:=by
    rw [f];refine fz (zbD _ (fun a x=>by simp) _ _) ?_;simp;omega
   unfold zdf;rw [zto hk,if_pos (by simp;omega)];simp only [zr (ztp b),gp,(zs3 hk (zvl q) (zsy hk b)).1,(zw7 hk s r b).1];rw [zQ (by simp;omega) (by simp;omega)];rfl) (fun a f=>by
   unfold zdf;rw [zto hk,List.length_range,if_neg (by simp;omega)])
  rw [e,z8 (fun c:Nat=>[ce k x c]),←List.map_eq_flatMap];rfl
 have e:=zae (F:=zdg ts k) ts (fun a x=>a++cl k x) [] (by omega) (fun a i x g f=>by
  have hi:=zu g;have j:a.length<=8000:=by
   rw [f,z8,fh];refine fz (zki (m:=16) fun y _=>by rw [zuY hk];exact n) ?_;simp;omega
  unfold zdg zjT;rw [if_pos (by simp;omega),zr g,zpr hk];simp only [gp,d a x (fd g) (by omega)]) (fun a f=>by
  unfold zdg;rw [if_neg (by simp)])
 rw [z8,fh] at e;exact e
theorem zvI (h:FormOk ts) (hk:Blk k) (hn:ts.length*(k*k).toNat<=500):iter (zbr ts k) (0,[])=some (if ts.all (fun x=>(cl k x).all okE) then .inl (ts.foldl (fun a x=>(cl k x).foldl zpi a) []) else .inr ([],false)):=by
 have w:=zkS h;have E:=w.2.1;have t:(k*k).toNat<=16:=by rcases hk.cases with rfl | rfl | rfl | rfl<;>decide
 have p:w64 (k*k)=k*k:=by rcases hk.cases with rfl | rfl | rfl | rfl<;>rfl
 have q:1<=k:=hk.1;have d:∀ (out:List Plc) (x:Plc),x∈ts->out.length<=10000->iter (zbq k x) (0,out)=some (if (cl k x).all okE then .inl ((cl k x).foldl zpi out) else .inr (.inr (.inr ([],false)))):=by
  intro out x g D;obtain ⟨y,C,B⟩:=w.2.2 x g;have f:∀ (a:List Plc) (i:Nat),i<(k*k).toNat->a.length<=10020->zbq k x ((i:Int),a)=if okE (ce k x i) then some (.inl (w64 ((i:Int)+1),zpi a (ce k x i))) else some (.inr (.inr (.inr (.inr ([],false))))):=by
   intro a i hi j;have s:(i:Int)<k*k:=by omega
   have r:(i:Int)<=1000000:=by omega
   unfold zbq;rw [p,if_pos (by simp;omega),zre (by simp) q,zpM (by simp) r q];simp only [gp,(zs3 hk (zvl y) (zsy hk s)).2,zkq];unfold zgf okE;simp only [(zw7 hk C B s).1];have u:=ztC a (by omega) (zqv x.1 ((i:Int) % k,(i:Int) / k) k) (x.2*k*k+i);simp only [u,gp];show _=if (ptB (zqv x.1 ((i:Int) % k,(i:Int) / k) k)&&!decide (x.2*k*k+i≥160))=true then _ else _;cases ptB (zqv x.1 ((i:Int) % k,(i:Int) / k) k) with
   | false=>rfl
   | true=>
    by_cases v:x.2*k*k+i≥160
    ·simp [v]
    ·simp [v];rfl
  have e:=zt6 (F:=zbq k x) (List.range (k*k).toNat) (fun a c=>zpi a (ce k x c)) (fun c=>okE (ce k x c)) (.inr (.inr ([],false))) out (by simp;omega) (fun a i c hc n b=>by
   have hi:=zu hc;rw [List.length_range] at hi;rw [df hi] at hc;injection hc with hc;subst hc
   have j:a.length<=10020:=by
    rw [n];refine fz (zbD _ (fun a x=>by unfold zpi;rw [(zkI _ a).length_eq];simp) _ _) ?_;simp;omega
   rw [f a i hi j,b];rfl) (fun a i c hc n b=>by
   have hi:=zu hc;rw [List.length_range] at hi;rw [df hi] at hc;injection hc with hc;subst hc
   have j:a.length<=10020:=by
    rw [n];refine fz (zbD _ (fun a x=>by unfold zpi;rw [(zkI _ a).length_eq];simp) _ _) ?_;simp;omega
   rw [f a i hi j,b];rfl) (fun a=>by
   unfold zbq;rw [p,List.length_range,if_neg (by simp;omega)])
  rw [e];unfold cl;rw [List.all_map,List.foldl_map];rfl
 have m:∀ (i:Nat),((ts.take i).foldl (fun a x=>(cl k x).foldl zpi a) []).length<=8000:=by
  intro i;have:∀ (l:List Plc) (a:List Plc),(l.foldl (fun a x=>(cl k x).foldl zpi a) a).length=a.length+l.length*(k*k).toNat:=by
   intro l
   induction l with
   | nil=>intro a;simp
   | cons x l ih=>intro a;rw [ci,ih,zt7,zuY hk,dv,fu];omega
  rw [this];have A:(ts.take i).length<=500:=by simp;omega
  have:=Nat.mul_le_mul A t;simp only [ec];omega
 exact zt6 (F:=zbr ts k) ts (fun a x=>(cl k x).foldl zpi a) (fun x=>(cl k x).all okE) ([],false) [] (by omega) (fun a i x g n b=>by
  have hi:=zu g;unfold zbr zgg;rw [if_pos (by simp;omega),zr g];simp only [gp,d a x (fd g) (by rw [n];exact fz (m i) (by decide)),b];rfl) (fun a i x g n b=>by
  have hi:=zu g;unfold zbr zgg;rw [if_pos (by simp;omega),zr g];simp only [gp,d a x (fd g) (by rw [n];exact fz (m i) (by decide)),b];rfl) (fun a=>by
  unfold zbr;rw [if_neg (by simp)])
theorem zwL (h:FormOk ts) (hk:Blk k):∃ r:List Plc×Int,ziA ts k=some r/\zjb ts k=some (r.1,decide (r.2=0))/\(r.2=0->FormOk r.1):=by
 have D:=zkS h;have Q:=D.2.1;have A:(k*k).toNat<=16:=by rcases hk.cases with rfl | rfl | rfl | rfl<;>decide
 have d:(ts.flatMap (cl k)).length=ts.length*(k*k).toNat:=by
  rw [List.length_flatMap];have:∀ l:List Plc,(l.map fun a=>(cl k a).length).sum=l.length*(k*k).toNat:=by
   intro l
   induction l with
   | nil=>simp
   | cons y l ih=>rw [ek,List.sum_cons,ih,zuY hk,dv,fu];omega
  exact this ts
 have M:(ts.flatMap (cl k)).length<=8000:=by
  rw [d];have:=Nat.mul_le_mul Q A;omega
 obtain ⟨S,hS⟩:∃ S,S=(ts.flatMap (cl k)).foldl zpi []:=⟨_,rfl⟩;obtain ⟨E,u⟩:=zvq (ts.flatMap (cl k)) [] List.Pairwise.nil (zz4 hk ts D.1) (fun _ _ y R=>by cases R);rw [←hS,fh] at u;rw [←hS] at E;have s:=zu3 (by omega) u E;have J:S.length=ts.length*(k*k).toNat:=by rw [u.length_eq,d]
 obtain ⟨b,L,f⟩:=znQ S (by omega);have j:=znQ ts (by omega);have hi:ziA ts k=some (if b then (S,0) else ([],4)):=by
  unfold ziA zkN zeF zjU;obtain ⟨X,F,t⟩:=j;rw [F,t.2 h,zc9];have N:1<=k/\k<=4:=hk;simp only [gp,N,and_self,decide_true,aw,aq,if_false];rw [zv6 h hk];simp only [gp,s,L];cases b<;>rfl
 refine ⟨_,hi,?_,?_⟩
 ·unfold zjb;have P:w64 (w64 ((ts.length:Int)*k)*k)=((ts.length*(k*k).toNat:Nat):Int):=by
   obtain ⟨n,rfl⟩:=ba (by have:=hk.1;omega:0<=k);have T:n=1\/n=2\/n=3\/n=4:=by have:=hk.1;have:=hk.2;omega
   rcases T with rfl | rfl | rfl | rfl<;>(rw [zt (n:=(ts.length:Int)*_) (by simp<;>omega) (by simp<;>omega),zt (by simp<;>omega) (by simp<;>omega)];simp<;>omega)
  rw [P];by_cases I:ts.length*(k*k).toNat>500
  ·rw [if_pos (decide_eq_true (by omega))];have:b=false:=by
    cases hbb:b with
    | false=>rfl
    | true=>have:=(f.1 hbb).1;omega
   subst this;rfl
  ·rw [if_neg (fun g=>by have:=of_decide_eq_true g;omega),zvI h hk (by omega)];have v:ts.all (fun x=>(cl k x).all okE)=b:=by
    rw [Bool.eq_iff_iff,f];constructor
    ·intro U;refine zym E (by omega) fun e G=>?_;have B:=u.mem_iff.1 G;obtain ⟨x,w,m⟩:=List.mem_flatMap.1 B;have p:=be.1 (be.1 U x w) e m;unfold cl at m;obtain ⟨c,hc,rfl⟩:=fa.1 m;have H:(c:Int)<k*k:=by have:=fe.1 hc;omega
     obtain ⟨Y,V,O⟩:=D.2.2 x w;have:=(zw7 hk V O H).2;unfold okE at p;simp at p;exact ⟨p.1,this,by omega⟩
    ·intro C;have C:=zkS C;rw [be];intro x w;rw [be];intro e G;obtain ⟨p1,p2,p3⟩:=C.2.2 e (u.mem_iff.2 (List.mem_flatMap.2 ⟨x,w,G⟩));unfold okE;rw [p1];simp;omega
   rw [v];have q:ts.foldl (fun a x=>(cl k x).foldl zpi a) []=S:=by
    rw [hS,List.foldl_flatMap]
   rw [q];cases b<;>rfl
 ·cases hbb:b with
  | true=>intro _;exact f.1 hbb
  | false=>intro e;simp at e
end
end Go.Lf
