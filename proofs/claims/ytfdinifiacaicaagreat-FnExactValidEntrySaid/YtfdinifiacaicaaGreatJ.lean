import Derived.Test.YtfdinifiacaicaaGreatI
import Derived.Test.YtfdinifiacaicaaGreatC
set_option linter.all false
namespace Go.Lf
open Go
def lp (a b:Pt):Bool:=decide (a.2<b.2)||(decide (a.2=b.2)&&decide (a.1<b.1))
theorem zuk {a b:Pt}:lp a b=true↔a.2<b.2\/(a.2=b.2/\a.1<b.1):=by unfold lp;simp
theorem zyR {a b:Pt}:lp a b=false↔b.2<a.2\/(a.2=b.2/\b.1<=a.1):=by unfold lp;simp;omega
theorem zm8 {a b c:Pt} (h1:lp a b=true) (h2:lp b c=true):lp a c=true:=by
 rw [zuk] at *;omega
theorem zoW {a b:Pt} (h:lp a b=true):a≠b:=by
 rw [zuk] at h;intro e;subst e;omega
theorem zwu {a b:Pt} (h1:a.1=b.1) (h2:a.2=b.2):a=b:=Prod.ext h1 h2
theorem ztH {a b:Pt} (h1:lp a b=false) (h2:a≠b):lp b a=true:=by
 rw [zyR] at h1;rw [zuk]
 rcases Int.lt_trichotomy a.1 b.1 with h | h | h
 ·omega
 ·rcases h1 with h3 | h3
  ·exact .inl h3
  ·exact absurd (zwu h h3.1) h2
 ·omega
theorem zil (a b:Pt):zcE a b=some (lp a b):=by
 unfold zcE lp
 by_cases c:a.2<b.2<;>by_cases d:a.2=b.2<;>simp [c,d]
def ztW (a b:Pt):Int:=if a.2<b.2 then -1 else if b.2<a.2 then 1 else if a.1<b.1 then -1 else if b.1<a.1 then 1 else 0
theorem zrn (a b:Pt):zag a b=some (ztW a b):=by
 unfold zag
 rw [zph,zph]
 simp only [gp,zuR]
 congr 1
 unfold ztW
 repeat' split
 all_goals first | rfl | omega
theorem zpi {a b:Pt}:decide (ztW a b<0)=lp a b:=by
 unfold ztW lp
 by_cases e:a.2<b.2
 ·simp [e]
 ·by_cases g:b.2<a.2
  ·simp [e,g];omega
  ·have d:a.2=b.2:=by omega
   by_cases c:a.1<b.1
   ·simp [d,c]
   ·by_cases f:b.1<a.1
    ·simp [d,c,f]
    ·simp [d,c,f]
theorem znx {a b:Pt}:ztW a b=0↔a=b:=by
 unfold ztW
 constructor
 ·intro h
  apply zwu<;>(repeat' split at h)<;>omega
 ·intro h;subst h;simp
theorem zr9 (a b:Pt):zia a b=some (lp a b):=by
 unfold zia
 rw [zrn]
 simp only [gp]
 rw [zpi]
def ptB (p:Pt):Bool:=decide (-60<=p.1/\p.1<=60)&&decide (-60<=p.2/\p.2<=60)
theorem zuO {p:Pt}:ptB p=true ↔ -60<=p.1/\p.1<=60 /\ -60<=p.2/\p.2<=60:=by
 unfold ptB;simp;omega
theorem zod (p:Pt):zeO p=some (ptB p):=by
 unfold zeO ptB
 simp only [zbK,gp]
 by_cases h : -60<=p.1/\p.1<=60
 ·simp [h]
 ·simp only [h,decide_false,Bool.false_and];rfl
theorem zl7 (p:Pt):zeX p=some (ptB p):=by
 unfold zeX ptB
 simp only [zds,gp]
 by_cases h : -60<=p.1/\p.1<=60
 ·simp [h]
 ·simp only [h,decide_false,Bool.false_and];rfl
def zxg (ts:List Plc) (i:Nat):Prop:=∀ x,ts[i]?=some x->ptB x.1=true/\0<=x.2/\x.2<=159/\∀ y,1<=i->ts[i - 1]?=some y->lp y.1 x.1=true
def FormOk (ts:List Plc):Prop:=ts.length<=500/\∀ i,i<ts.length->zxg ts i
theorem zvD (ts:List Plc) (h:ts.length<=2000000):∃ b,zjX ts=some b/\(b=true↔FormOk ts):=by
 unfold zjX zjw
 have key:=zi3 (fun i=>(i:Int)) 0 ts.length (zxg ts) (za6 ts) (by omega) ?_ ?_ ?_
 ·rcases key with ⟨g,l⟩ | ⟨g,hnot⟩
  ·have g:iter (za6 ts) 0=some (.inl ()):=g
   rw [g]
   refine ⟨_,rfl,?_⟩
   simp only [decide_eq_true_eq]
   exact ⟨fun r=>⟨by omega,fun i hi=>l i (by omega) hi⟩,fun p=>by have:=p.1;omega⟩
  ·have g:iter (za6 ts) 0=some (.inr false):=g
   rw [g]
   exact ⟨false,rfl,fun h=>(by cases h),fun p=>absurd (fun i _ hi=>p.2 i hi) hnot⟩
 ·intro i _ hi _ c
  have k:ts[i]?=some ts[i]:=cm hi
  obtain ⟨o1,o2,t,s⟩:=c _ k
  have q:w64 ((i:Int)+1)=((i+1:Nat):Int):=by rw [zw (by omega) (by omega)];omega
  have e:w64 ((160:Int) - 1)=159:=zw (by omega) (by omega)
  unfold za6 zb2 zaA
  rw [if_pos (by simp [hi])]
  simp only [zu k,gp,zod,o1,e,zbK]
  rw [if_neg (by simp),if_neg (by simp;omega)]
  by_cases n:(i:Int)>0
  ·have m:ts[i - 1]?=some (ts[i - 1]'(by omega)):=cm (by omega)
   have f:w64 ((i:Int) - 1)=((i - 1:Nat):Int):=by rw [zw (by omega) (by omega)];omega
   rw [if_pos (by simpa using n)]
   simp only [f,zu m,gp,zr9,s _ (by omega) m,q]
   rfl
  ·rw [if_neg (by simpa using n)]
   simp [q]
 ·intro i _ hi _ c
  have k:ts[i]?=some ts[i]:=cm hi
  have e:w64 ((160:Int) - 1)=159:=zw (by omega) (by omega)
  unfold za6 zb2 zaA
  rw [if_pos (by simp [hi])]
  simp only [zu k,gp,zod,e,zbK]
  cases hp:ptB ts[i].1 with
  | false=>simp
  | true=>
   rw [if_neg (by simp)]
   by_cases j:0<=ts[i].2/\ts[i].2<=159
   ·rw [if_neg (by simp [j])]
    by_cases n:(i:Int)>0
    ·have m:ts[i - 1]?=some (ts[i - 1]'(by omega)):=cm (by omega)
     have f:w64 ((i:Int) - 1)=((i - 1:Nat):Int):=by rw [zw (by omega) (by omega)];omega
     rw [if_pos (by simpa using n)]
     simp only [f,zu m,gp,zr9]
     cases r:lp (ts[i - 1]'(by omega)).1 ts[i].1 with
     | false=>simp
     | true=>
      refine absurd (fun x a=>?_) c
      rw [k] at a;injection a with a;subst a
      exact ⟨hp,j.1,j.2,fun y _ d=>by rw [m] at d;injection d with d;subst d;exact r⟩
    ·refine absurd (fun x a=>?_) c
     rw [k] at a;injection a with a;subst a
     exact ⟨hp,j.1,j.2,fun y u _=>by omega⟩
   ·rw [if_pos (by simp only [j,decide_false];rfl)];simp
 ·intro _
  unfold za6
  rw [if_neg (by simp)]
theorem zvc (ts:List Plc) (h:ts.length<=2000000):∃ b,zjN ts=some b/\(b=true↔FormOk ts):=by
 unfold zjN zjm
 by_cases q:ts.length>500
 ·rw [if_pos (by simp;omega)]
  exact ⟨false,rfl,fun h=>(by cases h),fun n=>by have:=n.1;omega⟩
 rw [if_neg (by simp;omega)]
 have key:=zi3 (fun i=>(i:Int)) 0 ts.length (zxg ts) (za5 ts) (by omega) ?_ ?_ ?_
 ·rcases key with ⟨f,k⟩ | ⟨f,hnot⟩
  ·have f:iter (za5 ts) 0=some (.inl ()):=f
   rw [f]
   exact ⟨true,rfl,fun _=>⟨by omega,fun i hi=>k i (by omega) hi⟩,fun _=>rfl⟩
  ·have f:iter (za5 ts) 0=some (.inr false):=f
   rw [f]
   exact ⟨false,rfl,fun h=>(by cases h),fun n=>absurd (fun i _ hi=>n.2 i hi) hnot⟩
 ·intro i _ hi _ c
  have j:ts[i]?=some ts[i]:=cm hi
  obtain ⟨o1,o2,s,r⟩:=c _ j
  have p:w64 ((i:Int)+1)=((i+1:Nat):Int):=by rw [zw (by omega) (by omega)];omega
  unfold za5 zbZ
  rw [if_pos (by simp [hi])]
  simp only [zu j,gp,zl7,o1,zds]
  rw [if_neg (by simp),if_neg (by simp;omega)]
  by_cases m:(i:Int)>0
  ·have l:ts[i - 1]?=some (ts[i - 1]'(by omega)):=cm (by omega)
   have e:w64 ((i:Int) - 1)=((i - 1:Nat):Int):=by rw [zw (by omega) (by omega)];omega
   rw [if_pos (by simpa using m)]
   simp only [e,zu l,gp,zil,r _ (by omega) l,p]
   rfl
  ·rw [if_neg (by simpa using m)]
   simp [p]
 ·intro i _ hi _ c
  have j:ts[i]?=some ts[i]:=cm hi
  unfold za5 zbZ
  rw [if_pos (by simp [hi])]
  simp only [zu j,gp,zl7,zds]
  cases hp:ptB ts[i].1 with
  | false=>simp
  | true=>
   rw [if_neg (by simp)]
   by_cases g:0<=ts[i].2/\ts[i].2<=159
   ·rw [if_neg (by simp [g])]
    by_cases m:(i:Int)>0
    ·have l:ts[i - 1]?=some (ts[i - 1]'(by omega)):=cm (by omega)
     have e:w64 ((i:Int) - 1)=((i - 1:Nat):Int):=by rw [zw (by omega) (by omega)];omega
     rw [if_pos (by simpa using m)]
     simp only [e,zu l,gp,zil]
     cases q:lp (ts[i - 1]'(by omega)).1 ts[i].1 with
     | false=>simp
     | true=>
      refine absurd (fun x a=>?_) c
      rw [j] at a;injection a with a;subst a
      exact ⟨hp,g.1,g.2,fun y _ d=>by rw [l] at d;injection d with d;subst d;exact q⟩
    ·refine absurd (fun x a=>?_) c
     rw [j] at a;injection a with a;subst a
     exact ⟨hp,g.1,g.2,fun y t _=>by omega⟩
   ·rw [if_pos (by simp only [g,decide_false];rfl)];simp
 ·intro _
  unfold za5
  rw [if_neg (by simp)]
def zfm (set:TSet) (ts:List Plc):Prop:=FormOk ts/\∀ x∈ts,0<=x.2/\x.2<=(set.2.length:Int) - 1
theorem zlY (set:TSet) (h:set.2.length<=1048576) (k:Int):za3 set k=some (decide (0<=k/\k<=(set.2.length:Int) - 1))/\zgz set k=some (decide (0<=k/\k<=(set.2.length:Int) - 1)):=by
 have a:w64 ((set.2.length:Int) - 1)=(set.2.length:Int) - 1:=zw (by omega) (by omega)
 constructor
 ·unfold za3 zaA
  simp only [a,zbK,gp]
 ·unfold zgz
  simp only [a,zds,gp]
theorem znU (set:TSet) (hT:Tame set) (ts:List Plc) (h:ts.length<=2000000):∃ b,z1 set ts=some b/\(b=true↔SetOk set/\zfm set ts):=by
 obtain ⟨a,l,_,e⟩:=zmP set hT
 obtain ⟨f,m,g⟩:=zvD ts h
 unfold z1
 simp only [l,gp]
 cases a with
 | false=>exact ⟨false,rfl,fun h=>(by cases h),fun h=>e.2 h.1⟩
 | true=>
  rw [if_pos rfl]
  simp only [m,gp]
  cases f with
  | false=>exact ⟨false,rfl,fun h=>(by cases h),fun h=>g.2 h.2.1⟩
  | true=>
   rw [if_pos rfl]
   unfold zen zaH zbR
   have hp:∀ b∈ts,(fun q0=>zaw q0 set) b=some (!decide (0<=b.2/\b.2<=(set.2.length:Int) - 1)):=by
    intro b _
    simp only [zaw,(zlY set hT.t b.2).1,gp]
   rcases ziF ts h (fun q0=>zaw q0 set) (fun b=>!decide (0<=b.2/\b.2<=(set.2.length:Int) - 1)) hp (zbQ ts fun q0=>zaw q0 set) (fun i=>rfl) with ⟨d,c⟩ | ⟨k,d,hk,_,b,hb,hq⟩
   ·rw [d]
    refine ⟨true,rfl,fun _=>⟨e.1 rfl,g.1 rfl,fun x n=>?_⟩,fun _=>rfl⟩
    have:=c x n;simpa using this
   ·rw [d]
    refine ⟨false,?_,fun h=>(by cases h),fun j=>?_⟩
    ·simp
    ·have:=j.2.2 b (fc hb)
     simp at hq
     omega
theorem ztk (set:TSet) (hT:Tame set) (ts:List Plc) (h:ts.length<=2000000):∃ b,zis set ts=some b/\(b=true↔zfm set ts):=by
 obtain ⟨f,n,j⟩:=zvc ts h
 unfold zis zlj
 simp only [n,gp]
 cases f with
 | false=>exact ⟨false,rfl,fun h=>(by cases h),fun h=>j.2 h.1⟩
 | true=>
  rw [if_neg (by simp)]
  have key:=zi3 (fun i=>(i:Int)) 0 ts.length (fun i=>∀ x,ts[i]?=some x->0<=x.2/\x.2<=(set.2.length:Int) - 1) (zcn set ts) (by omega) ?_ ?_ ?_
  ·rcases key with ⟨e,g⟩ | ⟨e,hnot⟩
   ·have e:iter (zcn set ts) 0=some (.inl ()):=e
    rw [e]
    refine ⟨true,rfl,fun _=>⟨j.1 rfl,fun x c=>?_⟩,fun _=>rfl⟩
    obtain ⟨i,hi⟩:=cv c
    exact g i (by omega) (zz hi) x hi
   ·have e:iter (zcn set ts) 0=some (.inr false):=e
    rw [e]
    exact ⟨false,rfl,fun h=>(by cases h),fun l=>absurd (fun i _ hi x c=>l.2 x (fc c)) hnot⟩
  ·intro i _ hi _ d
   have c:ts[i]?=some ts[i]:=cm hi
   have k:w64 ((i:Int)+1)=((i+1:Nat):Int):=by rw [zw (by omega) (by omega)];omega
   unfold zcn
   rw [if_pos (by simp [hi])]
   simp only [zu c,gp,(zlY set hT.t _).2,k]
   rw [if_neg (by simp only [d _ c];simp)]
  ·intro i _ hi _ d
   have c:ts[i]?=some ts[i]:=cm hi
   unfold zcn
   rw [if_pos (by simp [hi])]
   simp only [zu c,gp,(zlY set hT.t _).2]
   have:¬(0<=ts[i].2/\ts[i].2<=(set.2.length:Int) - 1):=fun m=>d fun x a=>by rw [c] at a;injection a with a;subst a;exact m
   rw [if_pos (by simp only [this,decide_false];rfl)]
  ·intro _
   unfold zcn
   rw [if_neg (by simp)]
def Srt (ts:List Plc):Prop:=∀ (i j:Nat) (x y:Plc),i<j->ts[i]?=some x->ts[j]?=some y->lp x.1 y.1=true
theorem FormOk.srt {ts:List Plc} (h:FormOk ts):Srt ts:=by
 intro i j
 induction j with
 | zero=>intro x y c;omega
 | succ j ih=>
  intro x y c b e
  have g:=zz e
  have d:ts[j]?=some (ts[j]'(by omega)):=cm (by omega)
  have f:=(h.2 (j+1) g y e).2.2.2 _ (by omega) d
  by_cases a:i=j
  ·subst a
   rw [d] at b;injection b with b;subst b;exact f
  ·exact zm8 (ih x _ (by omega) b d) f
def AtP (ts:List Plc) (p:Pt) (k:Int):Prop:=(0<=k/\∃ x,ts[k.toNat]?=some x/\x.1=p)\/(k = -1/\∀ x∈ts,x.1≠p)
theorem AtP.uniq {ts:List Plc} (hs:Srt ts) {p:Pt} {k k':Int} (h:AtP ts p k) (h':AtP ts p k'):k=k':=by
 rcases h with ⟨f,x,c,e⟩ | ⟨f,h1⟩<;>rcases h' with ⟨d,y,a,b⟩ | ⟨d,h3⟩
 ·rcases gi k.toNat k'.toNat with h | h | h
  ·exact absurd (e.trans b.symm) (zoW (hs _ _ _ _ h c a))
  ·omega
  ·exact absurd (b.trans e.symm) (zoW (hs _ _ _ _ h a c))
 ·exact absurd e (h3 x (fc c))
 ·exact absurd b (h1 y (fc a))
 ·omega
theorem zuA {ts:List Plc} (hs:Srt ts) (hl:ts.length<=1048576) {p:Pt} {F:Int×Int->Option ((Int×Int) ⊕ Int)}
  (hF:∀ (lo hi:Nat) (x:Plc),lo<hi->hi<=ts.length->ts[(lo+hi) / 2]?=some x->F ((lo:Int),(hi:Int))=some (.inl (if lp x.1 p then ((((lo+hi) / 2+1:Nat):Int),(hi:Int)) else ((lo:Int),(((lo+hi) / 2:Nat):Int)))))
  (hstop:∀ (lo:Int),F (lo,lo)=some (.inr lo)) :
  ∃ k:Nat,iter F (0,(ts.length:Int))=some (k:Int)/\k<=ts.length/\(∀ (i:Nat) x,i<k->ts[i]?=some x->lp x.1 p=true)/\∀ (i:Nat) x,k<=i->ts[i]?=some x->lp x.1 p=false:=by
 have key:=zA (F:=F) (fun s=>∃ lo hi:Nat,s=((lo:Int),(hi:Int))/\lo<=hi/\hi<=ts.length/\(∀ (i:Nat) x,i<lo->ts[i]?=some x->lp x.1 p=true)/\∀ (i:Nat) x,hi<=i->ts[i]?=some x->lp x.1 p=false)
  (fun s=>(s.2 - s.1).toNat) (fun z=>∃ k:Nat,z=(k:Int)/\k<=ts.length/\(∀ (i:Nat) x,i<k->ts[i]?=some x->lp x.1 p=true)/\∀ (i:Nat) x,k<=i->ts[i]?=some x->lp x.1 p=false) ?_ (0,(ts.length:Int))
  ⟨0,ts.length,rfl,by omega,fz _,fun i x hi=>by omega,fun i x hi b=>by have:=zz b;omega⟩
 ·obtain ⟨z,l,k,rfl,h⟩:=key
  exact ⟨k,l,h⟩
 ·rintro s ⟨lo,hi,rfl,m,e,g,f⟩
  by_cases c:lo<hi
  ·left
   have b:ts[(lo+hi) / 2]?=some (ts[(lo+hi) / 2]'(by omega)):=cm (by omega)
   refine ⟨_,hF lo hi _ c e b,?_⟩
   cases hc:lp (ts[(lo+hi) / 2]'(by omega)).1 p with
   | true=>
    rw [if_pos rfl]
    refine ⟨⟨(lo+hi) / 2+1,hi,rfl,by omega,e,fun i x d a=>?_,f⟩,by simp only [];omega⟩
    rcases gg i ((lo+hi) / 2) with h | h
    ·exact zm8 (hs _ _ _ _ h a b) hc
    ·have:i=(lo+hi) / 2:=by omega
     subst this
     rw [b] at a;injection a with a;subst a;exact hc
   | false=>
    rw [if_neg (by simp)]
    refine ⟨⟨lo,(lo+hi) / 2,rfl,by omega,by omega,g,fun i x d a=>?_⟩,by simp only [];omega⟩
    rcases gg ((lo+hi) / 2) i with h | h
    ·have j:=hs _ _ _ _ h b a
     cases hc2:lp x.1 p with
     | false=>rfl
     | true=>rw [zm8 j hc2] at hc;cases hc
    ·have:i=(lo+hi) / 2:=by omega
     subst this
     rw [b] at a;injection a with a;subst a;exact hc
  ·right
   have:lo=hi:=by omega
   subst this
   exact ⟨_,hstop _,lo,rfl,e,g,f⟩
theorem zp1 {ts:List Plc} (hs:Srt ts) {p:Pt} {k:Nat} (h1:∀ (i:Nat) x,i<k->ts[i]?=some x->lp x.1 p=true) (h2:∀ (i:Nat) x,k<=i->ts[i]?=some x->lp x.1 p=false)
  (h:∀ x,ts[k]?=some x->x.1≠p):∀ x∈ts,x.1≠p:=by
 intro x c e
 obtain ⟨i,hi⟩:=cv c
 rcases gi i k with hik | hik | hik
 ·exact zoW (h1 i x hik hi) e
 ·subst hik;exact h x hi e
 ·have b:ts[k]?=some (ts[k]'(by have:=zz hi;omega)):=cm (by have:=zz hi;omega)
  have a:=hs _ _ _ _ hik b hi
  rw [e] at a
  rw [h2 k _ (fz _) b] at a
  cases a
theorem zqZ {ts:List Plc} (hs:Srt ts) (hl:ts.length<=1048576) (p:Pt):∃ k,zaN ts p=some k/\AtP ts p k:=by
 have key:=zuA hs hl (p:=p) (F:=zdV ts p) ?_ ?_
 ·obtain ⟨k,m,n,h,g⟩:=key
  unfold zaN zit zfZ
  simp only [m,gp]
  by_cases b:k<ts.length
  ·have c:ts[k]?=some ts[k]:=cm b
   rw [if_pos (by simp [b])]
   simp only [zu c,gp]
   by_cases d:ts[k].1=p
   ·rw [if_pos (by simp [d])]
    exact ⟨_,rfl,.inl ⟨by omega,_,by simpa using c,d⟩⟩
   ·rw [if_neg (by simp;intro e f;exact d (zwu e f))]
    exact ⟨_,rfl,.inr ⟨rfl,zp1 hs h g fun x a=>by rw [c] at a;injection a with a;subst a;exact d⟩⟩
  ·rw [if_neg (by simp;omega)]
   refine ⟨_,rfl,.inr ⟨rfl,zp1 hs h g fun x a=>by have:=zz a;omega⟩⟩
 ·intro lo hi x b l c
  unfold zdV
  have e:w64 ((lo:Int)+(hi:Int))=((lo+hi:Nat):Int):=by rw [zw (by omega) (by omega)];omega
  have f:Int.tdiv ((lo+hi:Nat):Int) 2=(((lo+hi) / 2:Nat):Int):=rfl
  have i:w64 (((lo+hi) / 2:Nat):Int)=(((lo+hi) / 2:Nat):Int):=zw (by omega) (by omega)
  have j:w64 ((((lo+hi) / 2:Nat):Int)+1)=(((lo+hi) / 2+1:Nat):Int):=by rw [zw (by omega) (by omega)];omega
  rw [if_pos (by simp [b])]
  simp only [e,f,i,j,zu c,gp,zil]
  cases lp x.1 p<;>rfl
 ·intro lo
  unfold zdV
  rw [if_neg (by simp)]
theorem zsP {ts:List Plc} (hs:Srt ts) (hl:ts.length<=1048576) (p:Pt):∃ k,zcR ts p=some k/\AtP ts p k:=by
 have g:∀ x:Plc,zZ x p=some (ztW x.1 p):=fun x=>by unfold zZ;rw [zrn];rfl
 have key:=zuA hs hl (p:=p) (F:=zK ts p fun q0 n=>zZ q0 n) ?_ ?_
 ·obtain ⟨k,r,s,f,e⟩:=key
  unfold zcR z2 zaq
  simp only [r,gp]
  by_cases b:k<ts.length
  ·have c:ts[k]?=some ts[k]:=cm b
   rw [if_pos (by simp [b])]
   simp only [zu c,gp,g]
   by_cases d:ts[k].1=p
   ·rw [if_pos (by simp [znx,d])]
    exact ⟨_,rfl,.inl ⟨by omega,_,by simpa using c,d⟩⟩
   ·rw [if_neg (by simp [znx,d])]
    exact ⟨_,rfl,.inr ⟨rfl,zp1 hs f e fun x a=>by rw [c] at a;injection a with a;subst a;exact d⟩⟩
  ·rw [if_neg (by simp;omega)]
   refine ⟨_,rfl,.inr ⟨rfl,zp1 hs f e fun x a=>by have:=zz a;omega⟩⟩
 ·intro lo hi x b m c
  unfold zK
  have i:w64 ((lo:Int)+(hi:Int))=((lo+hi:Nat):Int):=by rw [zw (by omega) (by omega)];omega
  have h:IntKind.wrap .u64 ((lo+hi:Nat):Int)=((lo+hi:Nat):Int):=by
   show ((lo+hi:Nat):Int) % 18446744073709551616=((lo+hi:Nat):Int)
   omega
  have q:Int.fdiv ((lo+hi:Nat):Int) (2 ^ 1)=(((lo+hi) / 2:Nat):Int):=by
   rw [Int.fdiv_eq_ediv_of_nonneg _ (by omega)];omega
  have j:w64 (((lo+hi) / 2:Nat):Int)=(((lo+hi) / 2:Nat):Int):=zw (by omega) (by omega)
  have l:w64 ((((lo+hi) / 2:Nat):Int)+1)=(((lo+hi) / 2+1:Nat):Int):=by rw [zw (by omega) (by omega)];omega
  rw [if_pos (by simp [b])]
  simp only [i,h,q,j,l,zu c,gp,g,zpi]
  cases lp x.1 p<;>rfl
 ·intro lo
  unfold zK
  rw [if_neg (by simp)]
def znV (p:Pt) (dir:Int):Pt:=if dir=0 then (p.1,p.2+1) else (p.1+1,p.2)
theorem zxq {p:Pt} (hp:ptB p=true) {dir:Int} (hd:dir=0\/dir=1):z7 p dir=some (znV p dir)/\zR p dir=some (znV p dir):=by
 obtain ⟨c,d,f,e⟩:=zuO.1 hp
 have w0:∀ n:Int,-60<=n->n<=60->w64 (n+1)=n+1/\w64 (n+0)=n:=fun n a b=>⟨zw (by omega) (by omega),by rw [Int.add_zero];exact zw (by omega) (by omega)⟩
 rcases hd with rfl | rfl
 ·refine ⟨?_,?_⟩
  ·unfold z7 z8 znV
   simp [(w0 p.2 f e).1]
  ·unfold zR za7 znV idx
   simp [(w0 p.2 f e).1,zw (n:=p.1) (by omega) (by omega)]
 ·refine ⟨?_,?_⟩
  ·unfold z7 z8 znV
   simp [(w0 p.1 c d).1]
  ·unfold zR za7 znV idx
   simp [(w0 p.1 c d).1,zw (n:=p.2) (by omega) (by omega)]
theorem zx4 {set:TSet} (h:SetOk set) {a b dir:Int} (ha0:0<=a) (ha:a<=(set.2.length:Int) - 1) (hb0:0<=b) (hb:b<=(set.2.length:Int) - 1) (hd:dir=0\/dir=1) :
  ∃ v,zdc set a dir b=some v/\zav set a dir b=some v/\0<=v/\v<=4:=by
 obtain ⟨x,t,f⟩:=zS (l:=set.2) ha0 (by omega)
 obtain ⟨y,B,d⟩:=zS (l:=set.2) hb0 (by omega)
 obtain ⟨_,G,_,xs⟩:=h.tile _ (zz f) x f
 obtain ⟨_,L,_,M⟩:=h.tile _ (zz d) y d
 obtain ⟨g,s,q⟩:=zS (l:=x.2) (i:=dir) (by omega) (by omega)
 obtain ⟨z,m,w⟩:=zS (l:=y.2) (i:=dir+2) (by omega) (by omega)
 have C:=xs g (fc q)
 have c:zeY dir=some (dir+2)/\zgD dir=some (dir+2):=by
  rcases hd with rfl | rfl
  ·exact ⟨rfl,rfl⟩
  ·exact ⟨rfl,rfl⟩
 have n:∃ v,zap set g=some v/\zax set a dir=some v/\0<=v/\v<=4:=by
  unfold zap zax
  simp only [t,s,gp]
  have J:=h.glues
  by_cases r:g=0
  ·subst r
   exact ⟨0,rfl,rfl,by omega,by omega⟩
  ·rw [if_neg (by simpa using r),if_pos (by simp;omega)]
   have A:w64 (g - 1)=g - 1:=zw (by omega) (by omega)
   obtain ⟨u,D,e⟩:=zS (l:=set.1) (i:=g - 1) (by omega) (by omega)
   obtain ⟨_,I,H,_⟩:=h.glue _ (zz e) u e
   simp only [A,D,gp]
   exact ⟨_,rfl,rfl,by omega,by omega⟩
 obtain ⟨v,k,p,F,E⟩:=n
 unfold zdc zav
 simp only [t,B,s,c.1,c.2,m,k,p,gp]
 by_cases j:g=z
 ·rw [if_neg (by simp [j]),if_pos (by simp [j])]
  exact ⟨v,rfl,rfl,F,E⟩
 ·rw [if_pos (by simp [j]),if_neg (by simp [j])]
  exact ⟨0,rfl,rfl,by omega,by omega⟩
section
variable {set:TSet} {ts:List Plc}
theorem zyd (hS:SetOk set) (hA:zfm set ts) {i:Nat} {x:Plc} (hx:ts[i]?=some x) {dir:Int} (hd:dir=0\/dir=1) :
  ∃ nb:List Bd,nb.length<=1/\(∀ b∈nb,WB ts.length b)/\
   (∀ (l a:List Bd),a.length<=1048576->zbh set ts (l,(i:Int)) (a,dir)=some (.inl (a++nb,w64 (dir - 1))))/\
   (∀ (l a:List Bd),a.length<=1048576->∀ j,idx [1,0] j=some dir->0<=j->j<2->zO (fun s q0 M=>zU set ts s (q0,M)) ts ((i:Int),l) x (j,a)=some (.inl (w64 (j+1),a++nb))):=by
 have d:=hA.1.srt
 have S:ts.length<=500:=hA.1.1
 have hi:=zz hx
 obtain ⟨E,P,x1,_⟩:=hA.1.2 i hi x hx
 obtain ⟨p,h⟩:=zxq E hd
 obtain ⟨k,I,m⟩:=zqZ d (by omega) (znV x.1 dir)
 obtain ⟨R,q,t⟩:=zsP d (by omega) (znV x.1 dir)
 obtain rfl:=m.uniq d t
 have u:decide (dir≥0)=true:=by simp;omega
 have n:=hA.2 x (fc hx)
 rcases m with ⟨z,y,g,w⟩ | ⟨z,_⟩
 ·have r:=hA.2 y (fc g)
  obtain ⟨v,N,B,O,Q⟩:=zx4 hS n.1 n.2 r.1 r.2 hd
  have D:(i:Int)≠k:=fun e=>by
   subst e
   simp only [ba] at g
   rw [hx] at g;injection g with g;subst g
   rcases hd with e | e
   ·have C:=congrArg Prod.snd w
    rw [e] at C
    have J:(znV x.1 0).2=x.1.2+1:=rfl
    omega
   ·have C:=congrArg Prod.fst w
    rw [e] at C
    have J:(znV x.1 1).1=x.1.1+1:=rfl
    omega
  have L:=zz g
  refine ⟨if v>0 then [((i:Int),k,v)] else [],by split<;>simp,?_,?_,?_⟩
  ·intro b A
   split at A
   ·rw [fe] at A
    subst A
    exact ⟨by simp only [];omega,by simp only [];omega,z,by simp only [];omega,D,O,by simp only [];omega⟩
   ·cases A
  ·intro l a f
   unfold zbh zfX zcs
   rw [if_pos u]
   simp only [zu hx,p,I,gp]
   rw [if_neg (by simp;omega)]
   simp only [zfM z g,N,gp]
   by_cases c:v>0
   ·rw [if_pos (by simpa using c),if_pos c,zac (by simp;omega) (by simp;omega)]
    rfl
   ·rw [if_neg (by simpa using c),if_neg c,bf]
  ·intro l a f j G F H
   unfold zO zad zU
   rw [if_pos (by simp;omega)]
   simp only [G,h,q,gp]
   rw [if_pos (by simp;omega)]
   simp only [zu hx,zfM z g,B,gp]
   by_cases c:v>0
   ·rw [if_pos (by simpa using c),if_pos c,zac (by simp;omega) (by simp;omega)]
    rfl
   ·rw [if_neg (by simpa using c),if_neg c,bf]
    rfl
 ·refine ⟨[],by simp,by simp,?_,?_⟩
  ·intro l a f
   unfold zbh zfX zcs
   rw [if_pos u]
   simp only [zu hx,p,I,gp]
   rw [if_pos (by simp;omega),bf]
  ·intro l a f j G F H
   unfold zO zad
   rw [if_pos (by simp;omega)]
   simp only [G,h,q,gp]
   rw [if_neg (by simp;omega),bf]
theorem zyN (hS:SetOk set) (hA:zfm set ts) {i:Nat} {x:Plc} (hx:ts[i]?=some x) :
  ∃ nb:List Bd,nb.length<=2/\(∀ b∈nb,WB ts.length b)/\
   (∀ (a:List Bd),a.length<=90000->iter (zbh set ts (a,(i:Int))) (a,1)=some (a++nb))/\
   (∀ (a:List Bd),a.length<=90000->iter (zO (fun s q0 k=>zU set ts s (q0,k)) ts ((i:Int),a) x) (0,a)=some (a++nb)):=by
 obtain ⟨e,r,h,n,d1⟩:=zyd hS hA hx (dir:=1) (.inr rfl)
 obtain ⟨p,q,j,m,g⟩:=zyd hS hA hx (dir:=0) (.inl rfl)
 refine ⟨e++p,by simp;omega,fun b l=>(ek.1 l).elim (h b) (j b),fun a c=>?_,fun a c=>?_⟩
 ·rw [zx (n a a (by omega))]
  have d:w64 ((1:Int) - 1)=0:=by decide
  rw [d,zx (m a (a++e) (by simp;omega))]
  have f:w64 ((0:Int) - 1) = -1:=by decide
  rw [f,be]
  apply zF
  unfold zbh
  rw [if_neg (by simp)]
 ·rw [zx (d1 a a (by omega) 0 rfl (by omega) (by omega))]
  have d:w64 ((0:Int)+1)=1:=by decide
  rw [d,zx (g a (a++e) (by simp;omega) 1 rfl (by omega) (by omega))]
  have f:w64 ((1:Int)+1)=2:=by decide
  rw [f,be]
  apply zF
  unfold zO
  rw [if_neg (by simp)]
theorem zrD (hS:SetOk set) (hA:zfm set ts):∃ bs:List Bd,zaE set ts=some bs/\zdB set ts=some bs/\WBs ts.length bs/\bs.length<=1000:=by
 have w:ts.length<=500:=hA.1.1
 have key:∀ (d i:Nat) (a:List Bd),i+d=ts.length->a.length<=2*i->(∀ b∈a,WB ts.length b)->
   ∃ bs:List Bd,iter (zbi set ts) (a,(i:Int))=some bs/\iter (zP (fun s q0 g=>zU set ts s (q0,g)) ts) ((i:Int),a)=some bs/\(∀ b∈bs,WB ts.length b)/\bs.length<=2*ts.length:=by
  intro d
  induction d with
  | zero=>
   intro i a hi c k
   have:i=ts.length:=by omega
   subst this
   refine ⟨a,zF ?_,zF ?_,k,c⟩
   ·unfold zbi;rw [if_neg (by simp)]
   ·unfold zP;rw [if_neg (by simp)]
  | succ d ih=>
   intro i a hi c k
   have e:i<ts.length:=by omega
   have l:ts[i]?=some ts[i]:=cm e
   obtain ⟨nb,x,u,n,p⟩:=zyN hS hA l
   have f:w64 ((i:Int)+1)=((i+1:Nat):Int):=by rw [zw (by omega) (by omega)];omega
   have r:zbi set ts (a,(i:Int))=some (.inl (a++nb,((i+1:Nat):Int))):=by
    unfold zbi zio
    rw [if_pos (by simp [e])]
    simp only [n a (by omega),gp,f]
   have q:zP (fun s q0 g=>zU set ts s (q0,g)) ts ((i:Int),a)=some (.inl (((i+1:Nat):Int),a++nb)):=by
    unfold zP zbI
    rw [if_pos (by simp [e])]
    simp only [zu l,p a (by omega),gp,f]
   rw [zx r,zx q]
   exact ih (i+1) (a++nb) (by omega) (by simp;omega) fun b m=>(ek.1 m).elim (k b) (u b)
 obtain ⟨bs,j,h,t,v⟩:=key ts.length 0 [] (by omega) (by simp) (by simp)
 refine ⟨bs,?_,?_,znr.2 t,by omega⟩
 ·unfold zaE zeb zcK zbJ
  have h:iter (zP (fun s q0 g=>zU set ts s (q0,g)) ts) (0,[])=some bs:=h
  simp only [gp,h]
 ·unfold zdB ziq
  have j:iter (zbi set ts) ([],0)=some bs:=j
  simp only [gp,j]
theorem zqL (hT:Tame set) (h:ts.length<=1048576) (t:Int):∃ b,zar (set,ts,t)=some b/\zeh (set,ts,t)=some b/\(b=true->SetOk set/\zfm set ts):=by
 obtain ⟨a,D,q,p⟩:=zmP set hT
 obtain ⟨va,s,n⟩:=znU set hT ts (by omega)
 obtain ⟨k,A,m⟩:=ztk set hT ts (by omega)
 unfold zar zeh zeR zlE
 simp only [q,s,A,gp]
 by_cases g:(ts.length:Int)=0
 ·rw [if_pos (by simpa using g)]
  refine ⟨false,rfl,?_,fun h=>by cases h⟩
  cases a<;>cases k<;>simp [g]
 rw [if_neg (by simpa using g)]
 cases hva:va with
 | false=>
  subst hva
  refine ⟨false,rfl,?_,fun h=>by cases h⟩
  cases l:a with
  | false=>rfl
  | true=>
   cases f:k with
   | false=>rfl
   | true=>
    have:=n.2 ⟨p.1 l,m.1 f⟩
    cases this
 | true=>
  obtain ⟨hS,hA⟩:=n.1 hva
  have l:a=true:=p.2 hS
  have f:k=true:=m.2 hA
  subst l;subst f
  have c:zev t=some (decide (1<=t/\t<=16))/\zdH t=some (decide (1<=t/\t<=16)):=by
   constructor
   ·unfold zev;rw [zbK];rfl
   ·unfold zdH;rw [zds];rfl
  simp only [c.1,c.2,gp]
  by_cases j:1<=t/\t<=16
  ·obtain ⟨bs,v,r,C,E⟩:=zrD hS hA
   obtain ⟨x,y,z,w,B,u,d⟩:=zvb (p0:=set) (p1:=ts) (by omega) (by have:=hA.1.1;omega) (by omega:bs.length<=100000) C v r t
   simp only [j,decide_true,B,u,gp]
   have i:ts≠[]:=fun e=>g (by rw [e];rfl)
   cases y with
   | true=>
    simp only [au,ap,if_false] at d ⊢
    injection d with d e4
    subst d;subst e4
    cases x with
    | true=>exact ⟨true,by simp,by simp [i],fun _=>⟨hS,hA⟩⟩
    | false=>exact ⟨false,by simp,by simp,fun h=>by cases h⟩
   | false=>
    simp only [Bool.not_false,if_true] at d ⊢
    injection d with d e4
    subst d;subst e4
    exact ⟨false,by simp,by simp,fun h=>by cases h⟩
  ·refine ⟨false,?_,?_,fun h=>by cases h⟩
   ·simp [j]
   ·simp [j,g]
end
end Go.Lf
namespace Go.Lf
open Go Go.Proofs Go.Sort
def PW (ts:List Plc):Prop:=ts.Pairwise fun a b=>lp a.1 b.1=true
theorem PW.srt {ts:List Plc} (h:PW ts):Srt ts:=by
 intro i j x y c b a
 have hi:=zz b
 have d:=zz a
 have:=fj.1 h i j hi d c
 rw [cm hi] at b
 rw [cm d] at a
 injection b with b
 injection a with a
 rw [←b,←a];exact this
def ins (x:Plc):List Plc->List Plc
 | []=>[x]
 | y::l=>if lp x.1 y.1=true then x::y::l else y::ins x l
theorem zo7 (x:Plc):∀ l,(ins x l).Perm (l++[x])
 | []=>.refl _
 | y::l=>by
  unfold ins
  split
  ·exact (List.perm_append_singleton x (y::l)).symm
  ·exact (zo7 x l).cons y
theorem zuW {x z:Plc} {l:List Plc} (h:z∈ins x l):z=x\/z∈l:=by
 have:=(zo7 x l).mem_iff.1 h
 rcases ek.1 this with h | h
 ·exact .inr h
 ·exact .inl (fe.1 h)
theorem zwS {x:Plc}:∀ {l:List Plc},PW l->(∀ y∈l,y.1≠x.1)->PW (ins x l)
 | [],_,_=>List.pairwise_singleton _ _
 | y::l,h,hne=>by
  have c:=(fi.1 h).1
  have d:=(fi.1 h).2
  unfold ins
  split
  ·rename_i hl
   exact fi.2 ⟨fun z a=>by
    rcases er.1 a with rfl | a
    ·exact hl
    ·exact zm8 hl (c z a),h⟩
  ·rename_i hl
   have b:lp y.1 x.1=true:=ztH (by simpa using hl) (fun e=>hne y (by simp) e.symm)
   exact fi.2 ⟨fun z a=>by
    rcases zuW a with rfl | a
    ·exact b
    ·exact c z a,zwS d fun z a=>hne z (by simp [a])⟩
theorem zth (ts:List Plc) (hl:ts.length<=100000) (p:Pt) (k:Int):zi7 ts p k=some (ins (p,k) ts):=by
 have rest:∀ (d i:Nat) (out:List Plc),i+d=ts.length->out.length<=i+1->iter (zaa ts p k) (true,(i:Int),out)=some (true,out++ts.drop i):=by
  intro d
  induction d with
  | zero=>
   intro i out hi j
   have:i=ts.length:=by omega
   subst this
   apply zF
   unfold zaa
   rw [if_neg (by simp),List.drop_length,bf]
  | succ d ih=>
   intro i out hi j
   have c:i<ts.length:=by omega
   have h:ts[i]?=some ts[i]:=cm c
   have g:w64 ((i:Int)+1)=((i+1:Nat):Int):=by rw [zw (by omega) (by omega)];omega
   have a:zaa ts p k (true,(i:Int),out)=some (.inl (true,((i+1:Nat):Int),out++[ts[i]])):=by
    unfold zaa zdT zdU
    rw [if_pos (by simp [c]),if_neg (by simp),if_neg (by simp)]
    simp only [zu h,gp,zac (bytes:=24) (l:=out) (l2:=[ts[i]]) (by simp;omega) (by simp;omega),g]
   rw [zx a,ih (i+1) _ (by omega) (by simp;omega),bh c]
   simp
 have f:∀ (d i:Nat) (out:List Plc),i+d=ts.length->out.length<=i->∃ b o,iter (zaa ts p k) (false,(i:Int),out)=some (b,o)/\zfu p k b o=some (out++ins (p,k) (ts.drop i)):=by
  intro d
  induction d with
  | zero=>
   intro i out hi j
   have:i=ts.length:=by omega
   subst this
   refine ⟨false,out,zF ?_,?_⟩
   ·unfold zaa
    rw [if_neg (by simp)]
   ·unfold zfu zft
    rw [if_pos (by simp),List.drop_length,zac (by simp;omega) (by simp;omega)]
    rfl
  | succ d ih=>
   intro i out hi j
   have c:i<ts.length:=by omega
   have h:ts[i]?=some ts[i]:=cm c
   have g:w64 ((i:Int)+1)=((i+1:Nat):Int):=by rw [zw (by omega) (by omega)];omega
   have hd:=bh c
   cases hc:lp p ts[i].1 with
   | true=>
    have a:zaa ts p k (false,(i:Int),out)=some (.inl (true,((i+1:Nat):Int),out++[(p,k)]++[ts[i]])):=by
     unfold zaa zdT zdU
     rw [if_pos (by simp [c]),if_pos (by simp)]
     simp only [zu h,gp,zil,hc,if_true,zac (bytes:=24) (l:=out) (l2:=[(p,k)]) (by simp;omega) (by simp;omega),
      zac (bytes:=24) (l:=out++[(p,k)]) (l2:=[ts[i]]) (by simp;omega) (by simp;omega),g]
    refine ⟨true,_,(zx a).trans (rest d (i+1) _ (by omega) (by simp;omega)),?_⟩
    unfold zfu zft
    rw [if_neg (by simp),hd,ins,if_pos hc]
    simp
   | false=>
    have a:zaa ts p k (false,(i:Int),out)=some (.inl (false,((i+1:Nat):Int),out++[ts[i]])):=by
     unfold zaa zdT zdU
     rw [if_pos (by simp [c]),if_pos (by simp)]
     simp only [zu h,gp,zil,hc,zac (bytes:=24) (l:=out) (l2:=[ts[i]]) (by simp;omega) (by simp;omega),g]
     rfl
    obtain ⟨b,o,e,m⟩:=ih (i+1) (out++[ts[i]]) (by omega) (by simp;omega)
    refine ⟨b,o,(zx a).trans e,?_⟩
    rw [m,hd,ins,if_neg (by simp [hc])]
    simp
 obtain ⟨b,o,e,m⟩:=f ts.length 0 [] (by omega) (by simp)
 have e:iter (zaa ts p k) (false,0,[])=some (b,o):=e
 unfold zi7
 simp only [e,gp,m]
 simp
theorem zuB {pl ts:List Plc} (hl:pl.length<=1048576) (hp:ts.Perm pl) (hs:PW ts):zaB pl=some ts:=by
 unfold zaB
 rw [if_pos (by omega)]
 congr 1
 have t:(fun x y:Plc=>decide (za4 x y<0))=ltOf za4:=rfl
 have h:=pdq_sorts (ltOf za4) zxn pl.toArray 0 pl.length (Lib.bitLen pl.length) true true (Nat.zero_le _) (by simp) (Or.inl rfl)
 obtain ⟨r,B⟩:∃ r:Array Plc,r=pdq (ltOf za4) pl.toArray 0 pl.length (Lib.bitLen pl.length) true true:=⟨_,rfl⟩
 show (pdq (ltOf za4) pl.toArray 0 pl.length (Lib.bitLen pl.length) true true).toList=ts
 rw [←B] at h ⊢
 obtain ⟨⟨m,_,q⟩,v⟩:=h
 have m:r.size=pl.length:=by simpa using m
 have c:r.toList.Perm pl:=by
  have C:(r.extract 0 pl.length).toList=r.toList:=by rw [←m];simp
  have A:(pl.toArray.extract 0 pl.length).toList=pl:=by simp
  rw [C,A] at q
  exact q
 have g:∀ a b:Plc,ltOf za4 a b=lp a.1 b.1:=by
  intro a b
  have:=zpi (a:=a.1) (b:=b.1)
  exact this
 refine List.Perm.eq_of_pairwise (le:=fun a b=>lp b.1 a.1=false) ?_ ?_ ?_ (c.trans hp.symm)
 ·intro a b D u w s
  have d:a.1=b.1:=Classical.byContradiction fun e=>by
   have:=ztH w (fun z=>e z.symm)
   rw [this] at s;cases s
  have p:a∈ts:=hp.mem_iff.2 (c.mem_iff.1 D)
  obtain ⟨i,hi⟩:=cv p
  obtain ⟨j,f⟩:=cv u
  have hs':=hs.srt
  rcases gi i j with h | h | h
  ·exact absurd d (zoW (hs' i j a b h hi f))
  ·subst h;rw [hi] at f;injection f
  ·exact absurd d.symm (zoW (hs' j i b a h f hi))
 ·rw [fj]
  intro i j hi f k
  have l:i<r.size:=by simpa using hi
  have n:j<r.size:=by simpa using f
  have:=v i j (by omega) k (by omega)
  rw [g,getElem!_pos r i l,getElem!_pos r j n] at this
  simpa using this
 ·refine hs.imp fun {a b} d=>?_
  cases h:lp b.1 a.1 with
  | false=>rfl
  | true=>exact absurd rfl (zoW (zm8 d h))
end Go.Lf
namespace Go.Lf
open Go
def AtV (l:List Plc) (p:Pt) (v:Int):Prop:=(∃ k,v=k/\(p,k)∈l)\/(v = -1/\∀ x∈l,x.1≠p)
theorem zny (T:List Plc) (p:Pt):AtV T p (cat T p):=by
 unfold cat zgm zcT
 cases h:T.find? (fun q=>decide (q.1=p)) with
 | none=>
  have a:=List.find?_eq_none.1 h
  rw [if_neg (by
   rw [bd]
   rintro ⟨x,b,hd⟩
   exact a x b hd)]
  exact .inr ⟨rfl,fun x b e=>a x b (by simpa using e)⟩
 | some x=>
  have a:=fa h
  have c:x.1=p:=by simpa using List.find?_some h
  rw [if_pos (bd.2 ⟨x,a,by simpa using c⟩)]
  refine .inl ⟨x.2,rfl,?_⟩
  rw [←c];exact a
theorem AtV.perm {l l':List Plc} (h:l.Perm l') {p:Pt} {v:Int} (hv:AtV l p v):AtV l' p v:=by
 rcases hv with ⟨k,e,a⟩ | ⟨e,hn⟩
 ·exact .inl ⟨k,e,h.mem_iff.1 a⟩
 ·exact .inr ⟨e,fun x b=>hn x (h.mem_iff.2 b)⟩
theorem zyA {l:List Plc} (h:PW l) {p:Pt} {a b:Int} (ha:(p,a)∈l) (hb:(p,b)∈l):a=b:=by
 obtain ⟨i,hi⟩:=cv ha
 obtain ⟨j,c⟩:=cv hb
 have hs:=h.srt
 rcases gi i j with h1 | h1 | h1
 ·exact absurd (rfl:(p,a).1=(p,b).1) (zoW (hs i j (p,a) (p,b) h1 hi c))
 ·subst h1;rw [hi] at c;injection c with c;injection c
 ·exact absurd (rfl:(p,b).1=(p,a).1) (zoW (hs j i (p,b) (p,a) h1 c hi))
theorem AtV.uniq {l:List Plc} (h:PW l) {p:Pt} {v v':Int} (h1:AtV l p v) (h2:AtV l p v'):v=v':=by
 rcases h1 with ⟨k,e,c⟩ | ⟨e,hn⟩<;>rcases h2 with ⟨d,b,a⟩ | ⟨b,hn'⟩
 ·rw [e,b];exact zyA h c a
 ·exact absurd rfl (hn' _ c)
 ·exact absurd rfl (hn _ a)
 ·rw [e,b]
theorem zwc {ts:List Plc} (h:PW ts) (hl:ts.length<=1000) (hn:∀ x∈ts,0<=x.2) (p:Pt) :
  ∃ k,zaN ts p=some k/\∃ v,zcD ts p=some v/\AtV ts p v/\(k<0↔v<0):=by
 obtain ⟨k,a,c⟩:=zqZ h.srt (by omega) p
 refine ⟨k,a,?_⟩
 unfold zcD
 rw [a]
 simp only [gp]
 rcases c with ⟨d,x,b,rfl⟩ | ⟨rfl,hall⟩
 ·have hi:idx ts k=some x:=by unfold idx;rw [if_pos d];exact b
  have hm:=fc b
  have:=hn x hm
  rw [if_neg (by simp;omega),hi]
  exact ⟨x.2,rfl,.inl ⟨x.2,rfl,hm⟩,by omega⟩
 ·exact ⟨-1,by simp,.inr ⟨rfl,hall⟩,by omega⟩
theorem zxs {T ts:List Plc} (hp:T.Perm ts) (h:PW ts) (hl:ts.length<=1000) (hn:∀ x∈ts,0<=x.2) (p:Pt) :
  zcD ts p=some (cat T p)/\∃ k,zaN ts p=some k/\(k<0↔cat T p<0):=by
 obtain ⟨k,d,v,b,c,a⟩:=zwc h hl hn p
 have e:v=cat T p:=c.uniq h ((zny T p).perm hp)
 subst e
 exact ⟨b,k,d,a⟩
def zC (p:Pt) (d:Int):Pt:=if d=0 then (p.1,p.2+1) else if d=1 then (p.1+1,p.2) else if d=2 then (p.1,p.2 - 1) else (p.1 - 1,p.2)
def Dir (d:Int):Prop:=d=0\/d=1\/d=2\/d=3
theorem zfo {p:Pt} (hp:ptB p=true) {d:Int} (hd:Dir d):z7 p d=some (zC p d)/\zR p d=some (zC p d):=by
 obtain ⟨g,e,h,f⟩:=zuO.1 hp
 have c:∀ n:Int,-1000<=n->n<=1000->w64 n=n:=fun n a b=>zw (by omega) (by omega)
 rcases hd with rfl | rfl | rfl | rfl
 ·refine ⟨?_,?_⟩
  ·unfold z7 z8 zC;simp [c (p.2+1) (by omega) (by omega)]
  ·unfold zR za7 zC idx;simp [c (p.2+1) (by omega) (by omega),c p.1 (by omega) (by omega)]
 ·refine ⟨?_,?_⟩
  ·unfold z7 z8 zC;simp [c (p.1+1) (by omega) (by omega)]
  ·unfold zR za7 zC idx;simp [c (p.1+1) (by omega) (by omega),c p.2 (by omega) (by omega)]
 ·refine ⟨?_,?_⟩
  ·unfold z7 z8 zC;simp [c (p.2 - 1) (by omega) (by omega)]
  ·unfold zR za7 zC idx;simp [c (p.2 + -1) (by omega) (by omega),c p.1 (by omega) (by omega)];omega
 ·refine ⟨?_,?_⟩
  ·unfold z7 z8 zC;simp [c (p.1 - 1) (by omega) (by omega)]
  ·unfold zR za7 zC idx;simp [c (p.1 + -1) (by omega) (by omega),c p.2 (by omega) (by omega)];omega
def zkn (d:Int):Int:=if d=0 then 2 else if d=1 then 3 else if d=2 then 0 else 1
theorem zsF {d:Int} (hd:Dir d):zeY d=some (zkn d)/\zgD d=some (zkn d)/\0<=zkn d/\zkn d<4:=by
 rcases hd with rfl | rfl | rfl | rfl<;>exact ⟨rfl,rfl,by decide,by decide⟩
section
variable {set:TSet} (hS:SetOk set)
def TileIx (set:TSet) (k:Int):Prop:=0<=k/\k<=(set.2.length:Int) - 1
instance {set:TSet} {k:Int}:Decidable (TileIx set k):=inferInstanceAs (Decidable (_/\_))
def zjb (set:TSet) (k d:Int):Int:=(((set.2[k.toNat]?).getD ([],[])).2[d.toNat]?).getD 0
def zu9 (set:TSet) (g:Int):Int:=if g=0 then 0 else ((set.1[(g - 1).toNat]?).getD ([],0)).2
theorem zoL (hS:SetOk set) {k d:Int} (hk:TileIx set k) (hd:Dir d):∃ x,idx set.2 k=some x/\x.2.length=4/\idx x.2 d=some (zjb set k d)/\0<=zjb set k d/\zjb set k d<=(set.1.length:Int):=by
 obtain ⟨x,j,a⟩:=zS (l:=set.2) hk.1 (by have:=hk.2;omega)
 obtain ⟨_,f,_,xs⟩:=hS.tile _ (zz a) x a
 have c:0<=d/\d<4:=by rcases hd with rfl | rfl | rfl | rfl<;>decide
 obtain ⟨g,h,b⟩:=zS (l:=x.2) (i:=d) (by omega) (by omega)
 have e:zjb set k d=g:=by unfold zjb;rw [a];simp [b]
 rw [e]
 exact ⟨x,j,f,h,xs g (fc b)⟩
theorem zv9 (hS:SetOk set) {g:Int} (h0:0<=g) (h1:g<=(set.1.length:Int)):zap set g=some (zu9 set g)/\0<=zu9 set g/\zu9 set g<=4:=by
 have e:=hS.glues
 unfold zap zu9
 by_cases b:g=0
 ·simp [b]
 ·rw [if_neg (by simpa using b),if_neg b]
  have c:w64 (g - 1)=g - 1:=zw (by omega) (by omega)
  obtain ⟨u,d,a⟩:=zS (l:=set.1) (i:=g - 1) (by omega) (by omega)
  obtain ⟨_,h,f,_⟩:=hS.glue _ (zz a) u a
  rw [c,d,a]
  exact ⟨rfl,by simp;omega,by simp;omega⟩
def zpk (set:TSet) (a d b:Int):Int:=if zjb set a d=zjb set b (zkn d) then zu9 set (zjb set a d) else 0
theorem zpf {d:Int} (hd:Dir d):Dir (zkn d):=by rcases hd with rfl | rfl | rfl | rfl<;>unfold Dir zkn<;>simp
theorem znp (hS:SetOk set) {a b d:Int} (ha:TileIx set a) (hb:TileIx set b) (hd:Dir d):zdc set a d b=some (zpk set a d b)/\zav set a d b=some (zpk set a d b)/\0<=zpk set a d b/\zpk set a d b<=4:=by
 obtain ⟨x,i,r,h,p,k⟩:=zoL hS ha hd
 obtain ⟨y,l,s,f,_,_⟩:=zoL hS hb (zpf hd)
 obtain ⟨o1,o2,_⟩:=zsF hd
 obtain ⟨c,m,j⟩:=zv9 hS p k
 have n:zax set a d=some (zu9 set (zjb set a d)):=by
  have q:=hS.glues
  unfold zax
  rw [i]
  simp only [gp,h]
  unfold zap at c
  by_cases g:zjb set a d=0
  ·rw [if_neg (by simp;omega),g];rfl
  ·rw [if_neg (by simpa using g)] at c
   rw [if_pos (by simp;omega)]
   exact c
 unfold zdc zav zpk
 simp only [i,l,h,f,o1,o2,c,n,gp]
 by_cases e:zjb set a d=zjb set b (zkn d)
 ·simp only [e,decide_true,au,ap,if_false,if_true]
  rw [←e]
  exact ⟨trivial,trivial,m,j⟩
 ·simp [e]
def bdQ (set:TSet) (f:Pt->Int) (p:Pt) (k d:Int):Int:=if f (zC p d)≥0 then zpk set k d (f (zC p d)) else 0
def zno (set:TSet) (f:Pt->Int) (p:Pt) (k:Int):Int:=bdQ set f p k 0+bdQ set f p k 1+bdQ set f p k 2+bdQ set f p k 3
def FOk (set:TSet) (f:Pt->Int):Prop:=∀ p,f p<0\/TileIx set (f p)
theorem zkI (hS:SetOk set) {f:Pt->Int} (hf:FOk set f) (p:Pt) {k d:Int} (hk:TileIx set k) (hd:Dir d):0<=bdQ set f p k d/\bdQ set f p k d<=4:=by
 unfold bdQ
 split
 ·rename_i h
  rcases hf (zC p d) with h1 | h1
  ·omega
  ·exact (znp hS hk h1 hd).2.2
 ·omega
theorem zss {F:Int×Int->Option ((Int×Int) ⊕ Int)} {b:Int->Int} (hb:∀ d,Dir d->0<=b d/\b d<=1000)
  (h:∀ s d,Dir d->0<=s->s<=4000->F (s,d)=some (.inl (s+b d,d+1))) (he:∀ s,F (s,4)=some (.inr s)):iter F (0,0)=some (b 0+b 1+b 2+b 3):=by
 have j:=hb 0 (.inl rfl)
 have i:=hb 1 (.inr (.inl rfl))
 have g:=hb 2 (.inr (.inr (.inl rfl)))
 have k:=hb 3 (.inr (.inr (.inr rfl)))
 have a:F (0,0)=some (.inl (b 0,1)):=by have:=h 0 0 (.inl rfl) (by omega) (by omega);simpa using this
 have c:F (b 0,1)=some (.inl (b 0+b 1,2)):=h _ 1 (.inr (.inl rfl)) (by omega) (by omega)
 have f:F (b 0+b 1,2)=some (.inl (b 0+b 1+b 2,3)):=h _ 2 (.inr (.inr (.inl rfl))) (by omega) (by omega)
 have e:F (b 0+b 1+b 2,3)=some (.inl (b 0+b 1+b 2+b 3,4)):=h _ 3 (.inr (.inr (.inr rfl))) (by omega) (by omega)
 rw [zx a,zx c,zx f,zx e,zF (he _)]
theorem zmG {d:Int} (hd:Dir d):d<4/\0<=d/\w64 (d+1)=d+1:=by
 rcases hd with rfl | rfl | rfl | rfl<;>decide
theorem zo9 (hS:SetOk set) {f:Pt->Int} (hf:FOk set f) {g:Pt->Option Int} {p:Pt} (hp:ptB p=true) (hg:∀ d,Dir d->g (zC p d)=some (f (zC p d))) {k:Int} (hk:TileIx set k):zbF set p k g=some (zno set f p k):=by
 unfold zbF
 rw [zss (b:=bdQ set f p k) (fun d hd=>by have:=zkI hS hf p hk hd;omega) (fun s d hd m c=>?_) (fun s=>?_)]
 ·rfl
 ·obtain ⟨l,_,i⟩:=zmG hd
  have j:=zkI hS hf p hk hd
  unfold zbV zbW
  rw [if_pos (by simpa using l),(zfo hp hd).2]
  simp only [gp,hg d hd]
  unfold bdQ at j ⊢
  by_cases h:f (zC p d)≥0
  ·have e:=hf (zC p d)
   have a:TileIx set (f (zC p d)):=by rcases e with c | c;omega;exact c
   rw [if_pos h] at j ⊢
   rw [if_pos (by simpa using h),(znp hS hk a hd).2.1]
   simp only [gp,i]
   rw [zw (by omega) (by omega)]
  ·rw [if_neg h,if_neg (by simpa using h),i,Int.add_zero]
 ·unfold zbV
  rw [if_neg (by simp)]
theorem zoI (hS:SetOk set) {f:Pt->Int} (hf:FOk set f) {ts:List Plc} {p:Pt} (hp:ptB p=true) (hg:∀ d,Dir d->zcD ts (zC p d)=some (f (zC p d))) {k:Int} (hk:TileIx set k):zeC set ts p k=some (zno set f p k):=by
 unfold zeC
 rw [zss (b:=bdQ set f p k) (fun d hd=>by have:=zkI hS hf p hk hd;omega) (fun s d hd l c=>?_) (fun s=>?_)]
 ·rfl
 ·obtain ⟨j,_,g⟩:=zmG hd
  have i:=zkI hS hf p hk hd
  unfold zej zek
  rw [if_pos (by simpa using j),(zfo hp hd).1]
  simp only [gp,hg d hd]
  unfold bdQ at i ⊢
  by_cases h:f (zC p d)≥0
  ·have e:=hf (zC p d)
   have a:TileIx set (f (zC p d)):=by rcases e with c | c;omega;exact c
   rw [if_pos h] at i ⊢
   rw [if_pos (by simpa using h),(znp hS hk a hd).1]
   simp only [gp,g]
   rw [zw (by omega) (by omega)]
  ·rw [if_neg h,if_neg (by simpa using h),g,Int.add_zero]
 ·unfold zej
  rw [if_neg (by simp)]
end
structure Cr (set:TSet) (T ts:List Plc):Prop where
 perm:T.Perm ts
 pw:PW ts
 ok:∀ x∈ts,ptB x.1=true/\TileIx set x.2
 len:ts.length<=500
section
variable {set:TSet} {T ts:List Plc}
theorem Cr.fok (h:Cr set T ts):FOk set (cat T):=fun p=>by
 rcases (zny T p).perm h.perm with ⟨k,e,a⟩ | ⟨e,_⟩
 ·rw [e];exact .inr (h.ok _ a).2
 ·rw [e];exact .inl (by omega)
theorem Cr.at (h:Cr set T ts) (p:Pt):zcD ts p=some (cat T p)/\∃ k,zaN ts p=some k/\(k<0↔cat T p<0):=
 zxs h.perm h.pw (by have:=h.len;omega) (fun x a=>(h.ok x a).2.1) p
theorem Cr.free (h:Cr set T ts) {p:Pt}:cat T p<0↔∀ x∈ts,x.1≠p:=by
 rcases (zny T p).perm h.perm with ⟨k,e,b⟩ | ⟨e,hn⟩
 ·have:=(h.ok _ b).2.1
  rw [e]
  exact ⟨fun a=>by simp only at this;omega,fun a=>absurd rfl (a _ b)⟩
 ·rw [e];exact ⟨fun _=>hn,fun _=>by omega⟩
def zlH (set:TSet) (t:Int) (T:List Plc) (p:Pt) (k:Int):Bool:=ptB p&&decide (cat T p<0)&&decide (zno set (cat T) p k≥t)
theorem znw (hS:SetOk set) (h:Cr set T ts) {s0:List Plc} {t:Int} {O:List (Pt×List Int)} {p:Pt} {k:Int} (hk:TileIx set k):zbU ((set,s0,t),T,O) p k=some (zlH set t T p k):=by
 unfold zbU zlH
 rw [zod]
 simp only [gp]
 cases hp:ptB p with
 | false=>simp
 | true=>
  rw [if_pos rfl]
  by_cases a:cat T p<0
  ·rw [if_pos (by simpa using a),zo9 hS h.fok hp (g:=zeN ((set,s0,t),T,O)) (fun d _=>rfl) hk]
   simp [a]
  ·rw [if_neg (by simpa using a)];simp [a]
theorem zwb (hS:SetOk set) (h:Cr set T ts) {s0:List Plc} {t:Int} {p:Pt} {k:Int}:zkR (set,s0,t) ts (p,k)=some (decide (TileIx set k)&&zlH set t T p k):=by
 unfold zkR zlH
 rw [zl7]
 simp only [gp]
 cases hp:ptB p with
 | false=>simp
 | true=>
  have g:=hS.tiles
  rw [if_pos rfl,(zlY set (by omega) k).2]
  simp only [gp]
  by_cases b:TileIx set k
  ·obtain ⟨i,hi,c⟩:=(h.at p).2
   have a:decide (0<=k/\k<=(set.2.length:Int) - 1)=true:=decide_eq_true b
   rw [a,if_pos rfl,hi]
   simp only [gp]
   by_cases e:cat T p<0
   ·rw [if_pos (by simpa using c.2 e),zoI hS h.fok hp (fun d _=>(h.at _).1) b]
    simp [e,b]
   ·rw [if_neg (by simpa using fun f=>e (c.1 f))]
    simp [e]
  ·have a:decide (0<=k/\k<=(set.2.length:Int) - 1)=false:=decide_eq_false b
   rw [a]
   simp [b]
theorem zk9 (hS:SetOk set) (k:Int):za3 set k=some (decide (TileIx set k)):=by
 have a:=hS.tiles
 exact (zlY set (by omega) k).1
def ixs (set:TSet):List Int:=(List.range set.2.length).map fun (k:Nat)=>(k:Int)
theorem zuU {k:Int}:k∈ixs set↔TileIx set k:=by
 unfold ixs TileIx
 rw [ey]
 constructor
 ·rintro ⟨n,a,rfl⟩
  have:=fd.1 a
  omega
 ·rintro ⟨c,b⟩
  exact ⟨k.toNat,fd.2 (by omega),by omega⟩
def zpd (set:TSet) (t:Int) (T:List Plc) (p:Pt):List Int:=(ixs set).filter (zlH set t T p)
theorem zwZ (set:TSet) (t:Int) (T:List Plc) (p:Pt):(zpd set t T p).length<=set.2.length:=by
 unfold zpd
 refine ga (du _ _) ?_
 unfold ixs;simp
def zly (set:TSet) (t:Int) (T:List Plc) (p:Pt) (O:List (Pt×List Int)) (d:Int):List (Pt×List Int):=
 if (zpd set t T (zC p d)).length>0 then zbC O (zC p d) (zpd set t T (zC p d)) else zko O (zC p d)
def laO (set:TSet) (t:Int) (T:List Plc) (O:List (Pt×List Int)) (p:Pt):List (Pt×List Int):=[0,1,2,3].foldl (zly set t T p) O
theorem zwM (hS:SetOk set) (h:Cr set T ts) {s0:List Plc} {t:Int} {O:List (Pt×List Int)} (i:Int) (p:Pt):iter (zab (i,((set,s0,t),T,O)) p) ([],0)=some (zpd set t T p):=by
 have m:=hS.tiles
 have hlen:(ixs set).length=set.2.length:=by unfold ixs;simp
 have key:=zhl (F:=zab (i,((set,s0,t),T,O)) p) (ixs set) (fun a x=>if zlH set t T p x then a++[x] else a) [] (by omega) (fun a i x e g=>?_) (fun a g=>?_)
 ·rw [key]
  congr 1
  have:=zaP (zlH set t T p) (fun x:Int=>x) (ixs set) []
  rw [this];simp [zpd]
 ·have f:x=(i:Int):=by
   unfold ixs at e
   rw [cq] at e
   obtain ⟨n,c,rfl⟩:=gt.1 e
   have j:i<set.2.length:=by have:=zz c;simpa using this
   rw [cw j] at c
   injection c with c
   rw [c]
  have b:i<set.2.length:=by rw [←hlen];exact zz e
  subst f
  have k:a.length<=1000:=by
   rw [g]
   have:∀ (l:List Int) (d:List Int),(l.foldl (fun a x=>if zlH set t T p x then a++[x] else a) d).length<=d.length+l.length:=by
    intro l
    induction l with
    | nil=>intro d;simp
    | cons y l ih=>intro d;rw [ce];refine ga (ih _) ?_;split<;>simp<;>omega
   refine ga (this _ _) ?_
   rw [ed];simp;omega
  unfold zab zaW
  rw [if_pos (by simpa using b),znw hS h ⟨by omega,by omega⟩]
  simp only [gp]
  cases zlH set t T p (i:Int) with
  | true=>simp only [if_true];rw [zac (by simp;omega) (by simp;omega)];rfl
  | false=>rfl
 ·unfold zab
  rw [if_neg (by simp [hlen])]
theorem zuV (hS:SetOk set) (h:Cr set T ts) {s0:List Plc} {t:Int} {O:List (Pt×List Int)} {p:Pt} (hp:ptB p=true):zaJ ((set,s0,t),T,O) p=some ((set,s0,t),T,laO set t T O p):=by
 have step:∀ (O:List (Pt×List Int)) (d:Int),Dir d->zan p (d,((set,s0,t),T,O))=some (.inl (d+1,((set,s0,t),T,zly set t T p O d))):=by
  intro O d hd
  obtain ⟨c,_,b⟩:=zmG hd
  unfold zan
  rw [if_pos (by simpa using c),(zfo hp hd).2]
  simp only [gp]
  rw [zwM hS h]
  simp only [gp]
  unfold zcI zaX zly
  by_cases a:(zpd set t T (zC p d)).length>0
  ·rw [if_pos (by simpa using a),if_pos a,b]
  ·rw [if_neg (by simpa using a),if_neg a,b]
 unfold zaJ
 rw [zx (step O 0 (.inl rfl)),zx (step _ (0+1) (.inr (.inl rfl))),zx (step _ (0+1+1) (.inr (.inr (.inl rfl)))),zx (step _ (0+1+1+1) (.inr (.inr (.inr rfl)))),
  zF (x:=((set,s0,t),T,laO set t T O p)) (by unfold zan;rw [if_neg (by simp)];rfl)]
 rfl
theorem zrb {T:List Plc} {p:Pt} {k:Int} (h:∀ x∈T,x.1≠p):zbC T p k=T++[(p,k)]:=by
 unfold zbC
 rw [if_neg]
 unfold zgm
 rw [bd]
 rintro ⟨x,a,hd⟩
 exact h x a (by simpa using hd)
theorem zjg (hA:zfm set ts):Cr set ts ts where
 perm:=.refl _
 pw:=by
  have hs:=hA.1.srt
  unfold PW
  rw [fj]
  intro i j hi hj hij
  exact hs i j _ _ hij (cm hi) (cm hj)
 ok:=fun x hx=>by
  obtain ⟨i,hi⟩:=cv hx
  exact ⟨(hA.1.2 i (zz hi) x hi).1,(hA.2 x hx)⟩
 len:=hA.1.1
def ncO (set:TSet) (t:Int) (ts:List Plc):List (Pt×List Int):=ts.foldl (fun O x=>laO set t ts O x.1) []
theorem ziW (hS:SetOk set) (hA:zfm set ts) (s0:List Plc) (t:Int):zb1 (set,s0,t) ts=some ((set,s0,t),ts,ncO set t ts):=by
 have g:=zjg hA
 have hlen:=g.len
 unfold zb1 zg9
 have q:iter (zbk ts) (0,((set,s0,t),([]:List Plc),([]:List (Pt×List Int))))=some ((set,s0,t),ts,[]):=by
  have key:=zn9 (F:=zbk ts) ts (fun (a:CrySt) x=>(a.1,a.2.1++[x],a.2.2)) (((set,s0,t),([]:List Plc),([]:List (Pt×List Int)))) (by omega) (fun a i x d c=>?_) (fun a c=>?_)
  ·rw [key]
   congr 1
   have:∀ (l:List Plc) (a:CrySt),l.foldl (fun (a:CrySt) x=>(a.1,a.2.1++[x],a.2.2)) a=(a.1,a.2.1++l,a.2.2):=by
    intro l
    induction l with
    | nil=>intro a;simp
    | cons y l ih=>intro a;rw [ce,ih];simp
   rw [this];simp
  ·have b:=zz d
   have f:∀ (l:List Plc) (a:CrySt),l.foldl (fun (a:CrySt) x=>(a.1,a.2.1++[x],a.2.2)) a=(a.1,a.2.1++l,a.2.2):=by
    intro l
    induction l with
    | nil=>intro a;simp
    | cons y l ih=>intro a;rw [ce,ih];simp
   rw [f] at c
   unfold zbk
   rw [if_pos (by simpa using b),zu d]
   simp only [gp]
   rw [zrb (T:=a.2.1) (p:=x.1) (k:=x.2) (fun y m=>by
    rw [c] at m
    simp only [fg] at m
    obtain ⟨j,h⟩:=cv m
    have e:j<i:=by have:=zz h;rw [ed] at this;omega
    rw [dh,if_pos e] at h
    exact zoW (g.pw.srt j i _ _ e h d))]
  ·unfold zbk
   rw [if_neg (by simp)]
 have n:iter (zbj ts) (0,((set,s0,t),ts,([]:List (Pt×List Int))))=some ((set,s0,t),ts,ncO set t ts):=by
  have f:∀ (l:List Plc) (O:List (Pt×List Int)),l.foldl (fun (a:CrySt) x=>(a.1,a.2.1,laO set t ts a.2.2 x.1)) ((set,s0,t),ts,O)=((set,s0,t),ts,l.foldl (fun O x=>laO set t ts O x.1) O):=by
   intro l
   induction l with
   | nil=>intro O;rfl
   | cons y l ih=>intro O;rw [ce,ce,ih]
  have key:=zn9 (F:=zbj ts) ts (fun (a:CrySt) x=>(a.1,a.2.1,laO set t ts a.2.2 x.1)) (((set,s0,t),ts,([]:List (Pt×List Int)))) (by omega) (fun a i x d c=>?_) (fun a c=>?_)
  ·rw [key,f];rfl
  ·have b:=zz d
   rw [f] at c
   subst c
   unfold zbj
   rw [if_pos (by simpa using b),zu d]
   simp only [gp]
   rw [zuV hS g (g.ok x (fc d)).1]
   rfl
  ·unfold zbj
   rw [if_neg (by simp)]
 rw [q]
 simp only [gp]
 rw [n]
 rfl
end
section
variable {set:TSet} {T ts:List Plc}
theorem Cr.put (h:Cr set T ts) {t:Int} {p:Pt} {k:Int} (hf:zlH set t T p k=true) (hk:TileIx set k) (hl:ts.length<500):Cr set (zbC T p k) (ins (p,k) ts)/\zbC T p k=T++[(p,k)]:=by
 unfold zlH at hf
 simp only [an,decide_eq_true_eq] at hf
 obtain ⟨⟨hp,c⟩,_⟩:=hf
 have b:=h.free.1 c
 have e:zbC T p k=T++[(p,k)]:=zrb fun x a=>b x (h.perm.mem_iff.1 a)
 refine ⟨⟨?_,zwS h.pw (fun y d=>b y d),fun x a=>?_,?_⟩,e⟩
 ·rw [e];exact (h.perm.append_right _).trans (zo7 _ _).symm
 ·rcases zuW a with rfl | a
  ·exact ⟨hp,hk⟩
  ·exact h.ok x a
 ·rw [(zo7 _ _).length_eq];simp;omega
theorem zwt (hS:SetOk set) (h:Cr set T ts) {s0:List Plc} {t:Int} {O:List (Pt×List Int)} {p:Pt} {k:Int} (hf:zlH set t T p k=true) (hk:TileIx set k) (hl:ts.length<500) :
  zea ((set,s0,t),T,O) p k=some ((set,s0,t),zbC T p k,laO set t (zbC T p k) (zko O p) p):=by
 have hp:ptB p=true:=by
  unfold zlH at hf
  simp only [an] at hf
  exact hf.1.1
 unfold zea
 have:=zuV hS (h.put hf hk hl).1 (s0:=s0) (t:=t) (O:=zko O p) hp
 simp only at this ⊢
 rw [this]
 rfl
def plT (seq:List Plc) (T:List Plc):List Plc:=seq.foldl (fun T o=>zbC T o.1 o.2) T
def plS (seq:List Plc) (ts:List Plc):List Plc:=seq.foldl (fun ts o=>ins (o.1,o.2) ts) ts
def Played (set:TSet) (t:Int):List Plc->List Plc->Prop
 | _,[]=>True
 | T,o::seq=>TileIx set o.2/\zlH set t T o.1 o.2=true/\T.length<500/\Played set t (zbC T o.1 o.2) seq
theorem ztw (seq:List Plc) (o:Plc) (ts:List Plc):plS (seq++[o]) ts=ins (o.1,o.2) (plS seq ts):=by unfold plS;simp
theorem ztv (seq:List Plc) (o:Plc) (T:List Plc):plT (seq++[o]) T=zbC (plT seq T) o.1 o.2:=by unfold plT;simp
theorem zkY {t:Int} {o:Plc}:∀ {seq:List Plc} {T:List Plc},Played set t T (seq++[o])↔Played set t T seq/\TileIx set o.2/\zlH set t (plT seq T) o.1 o.2=true/\(plT seq T).length<500
 | [],T=>by unfold plT;simp [Played]
 | x::seq,T=>by
  rw [List.cons_append]
  unfold Played
  rw [zkY]
  unfold plT
  rw [ce]
  simp only [and_assoc]
theorem znv {t:Int}:∀ {seq:List Plc} {T ts:List Plc},Cr set T ts->Played set t T seq->Cr set (plT seq T) (plS seq ts)
 | [],T,ts,h,_=>h
 | o::seq,T,ts,h,hp=>by
  obtain ⟨b,c,d,e⟩:=hp
  have a:ts.length<500:=by rw [←h.perm.length_eq];exact d
  show Cr set (plT seq (zbC T o.1 o.2)) (plS seq (ins (o.1,o.2) ts))
  exact znv (h.put c b a).1 e
inductive PlayR (set:TSet) (t:Int) (ts:List Plc) (seq:List Plc):List Plc×Int×Int->Prop where
 | ok:Played set t ts seq->PlayR set t ts seq (plS seq ts,0,0)
 | bad (a b c):c≠0->¬Played set t ts seq->PlayR set t ts seq (a,b,c)
theorem zm5 {t:Int} {T:List Plc}:∀ {seq:List Plc} (i:Nat),Played set t T seq->Played set t T (seq.take i):=by
 intro seq
 induction seq generalizing T with
 | nil=>intro i _;simp [Played]
 | cons o seq ih=>
  intro i h
  cases i with
  | zero=>trivial
  | succ i=>exact ⟨h.1,h.2.1,h.2.2.1,ih i h.2.2.2⟩
theorem zuQ (hS:SetOk set) (hA:zfm set ts) (t:Int) {seq:List Plc} (hlen:seq.length<=500) :
  ∃ r O,iter (zY (set,ts,t) seq) (0,((set,ts,t),ts,ncO set t ts))=some r/\PlayR set t ts seq (match r with | .inl q=>(plS seq ts,0,0) | .inr z=>z)/\
   (match r with | .inl q=>q=((set,ts,t),plT seq ts,O) | .inr z=>True)/\
   iter (zaz (set,ts,t) seq) (0,ts)=some (match r with | .inl q=>.inl (plS seq ts) | .inr z=>.inr z):=by
 have L:=zjg hA
 have u:∀ (m i:Nat) (O:List (Pt×List Int)),i+m=seq.length->Played set t ts (seq.take i)->
   ∃ r y,iter (zY (set,ts,t) seq) ((i:Int),((set,ts,t),plT (seq.take i) ts,O))=some r/\PlayR set t ts seq (match r with | .inl q=>(plS seq ts,0,0) | .inr z=>z)/\
    (match r with | .inl q=>q=((set,ts,t),plT seq ts,y) | .inr z=>True)/\
    iter (zaz (set,ts,t) seq) ((i:Int),plS (seq.take i) ts)=some (match r with | .inl q=>.inl (plS seq ts) | .inr z=>.inr z):=by
  intro m
  induction m with
  | zero=>
   intro i O hi hp
   have A:i=seq.length:=by omega
   subst A
   rw [fq] at hp ⊢
   refine ⟨.inl ((set,ts,t),plT seq ts,O),O,zF ?_,.ok hp,rfl,zF ?_⟩
   ·unfold zY;rw [if_neg (by simp)]
   ·unfold zaz;rw [if_neg (by simp)]
  | succ m ih=>
   intro i O hi hp
   have e:i<seq.length:=by omega
   obtain ⟨o,H⟩:∃ o,o=seq[i]:=⟨_,rfl⟩
   have s:seq[i]?=some o:=by rw [cm e,H]
   have B:w64 ((i:Int)+1)=((i+1:Nat):Int):=by rw [zw (by omega) (by omega)];omega
   have f:=znv L hp
   have l:seq.take (i+1)=seq.take i++[o]:=by rw [fp,s];rfl
   have d:=zwb hS f (s0:=ts) (t:=t) (p:=o.1) (k:=o.2)
   have j:∀ {a b c},c≠0->¬(TileIx set o.2/\zlH set t (plT (seq.take i) ts) o.1 o.2=true/\(plT (seq.take i) ts).length<500)->PlayR set t ts seq (a,b,c):=fun w J=>
    .bad _ _ _ w fun x=>J (by
     have:=zm5 (i+1) x
     rw [l,zkY] at this
     exact this.2)
   have E:(plS (seq.take i) ts).length=(plT (seq.take i) ts).length:=f.perm.length_eq.symm
   by_cases g:TileIx set o.2
   ·by_cases n:zlH set t (plT (seq.take i) ts) o.1 o.2=true
    ·by_cases C:(plT (seq.take i) ts).length<500
     ·have v:=zwt hS f (s0:=ts) (O:=O) n g (by omega)
      obtain ⟨r,y,G,D,I,F⟩:=ih (i+1) (laO set t (zbC (plT (seq.take i) ts) o.1 o.2) (zko O o.1) o.1) (by omega) (by rw [l,zkY];exact ⟨hp,g,n,C⟩)
      refine ⟨r,y,?_,D,I,?_⟩
      ·rw [←G]
       refine zx ?_
       unfold zY
       rw [if_pos (by simpa using e),zu s]
       simp only [gp]
       rw [zk9 hS,znw hS f g]
       simp only [gp,g,n,decide_true,au,ap,if_false]
       unfold zao
       rw [if_neg (by simp)]
       unfold zvt
       rw [if_pos (by simp only;omega)]
       simp only [gp]
       rw [if_neg (by simp;omega),v]
       simp only [gp,B,l,ztv]
      ·rw [←F]
       refine zx ?_
       unfold zaz
       rw [if_pos (by simpa using e),zu s]
       simp only [gp]
       rw [show ((o.1,o.2):Plc)=o from rfl] at d
       rw [d]
       simp only [gp,g,n,decide_true,Bool.and_true,au,ap,if_false]
       unfold zhs
       rw [if_neg (by simp;omega),zth _ (by omega)]
       simp only [gp,B,l,ztw]
       simp
     ·refine ⟨.inr ([],0,4),O,zF ?_,j (by decide) (fun h=>C h.2.2),trivial,zF ?_⟩
      ·unfold zY
       rw [if_pos (by simpa using e),zu s]
       simp only [gp]
       rw [zk9 hS,znw hS f g]
       simp only [gp,g,n,decide_true,au,ap,if_false]
       unfold zao
       rw [if_neg (by simp)]
       unfold zvt
       have:=f.len
       rw [if_pos (by simp only;omega)]
       simp only [gp]
       rw [if_pos (by simp;omega)]
      ·unfold zaz
       rw [if_pos (by simpa using e),zu s]
       simp only [gp]
       rw [show ((o.1,o.2):Plc)=o from rfl] at d
       rw [d]
       simp only [gp,g,n,decide_true,Bool.and_true,au,ap,if_false]
       unfold zhs
       rw [if_pos (by simp;omega)]
       simp
    ·refine ⟨.inr ([],i,5),O,zF ?_,j (by decide) (fun h=>n h.2.1),trivial,zF ?_⟩
     ·unfold zY
      rw [if_pos (by simpa using e),zu s]
      simp only [gp]
      rw [zk9 hS,znw hS f g]
      simp [g,n,zao]
     ·unfold zaz
      rw [if_pos (by simpa using e),zu s]
      simp only [gp]
      rw [show ((o.1,o.2):Plc)=o from rfl] at d
      rw [d]
      simp [g,n]
   ·refine ⟨.inr ([],i,5),O,zF ?_,j (by decide) (fun h=>g h.1),trivial,zF ?_⟩
    ·unfold zY
     rw [if_pos (by simpa using e),zu s]
     simp only [gp]
     rw [zk9 hS]
     simp [g,zao]
    ·unfold zaz
     rw [if_pos (by simpa using e),zu s]
     simp only [gp]
     rw [show ((o.1,o.2):Plc)=o from rfl] at d
     rw [d]
     simp [g]
 have:=u seq.length 0 (ncO set t ts) (by omega) trivial
 simpa [plT,plS] using this
theorem zn8 (hS:SetOk set) (hA:zfm set ts) (t:Int) (hV:zar (set,ts,t)=some true) (hV':zeh (set,ts,t)=some true) (seq:List Plc) (hl:seq.length<=2000000) :
  ∃ r,zbX (set,ts,t) seq=some r/\zde (set,ts,t) seq=some r/\(r.2.2=0->seq.length<=500/\Played set t ts seq/\r.1=plS seq ts)/\(seq.length<=500->Played set t ts seq->r=(plS seq ts,0,0)):=by
 have f:=hA.1.1
 unfold zbX zde
 rw [hV,hV']
 simp only [gp,au,ap,if_false]
 by_cases hlen:seq.length<=500
 ·rw [if_neg (by simp;omega),if_neg (by simp;omega)]
  have d:=ziW hS hA ts t
  rw [d]
  simp only [gp]
  unfold zfT
  obtain ⟨r,O,k,c,e,j⟩:=zuQ hS hA t hlen
  have g:zdb ts=some ts:=by unfold zdb;rw [zac (by simp;omega) (by simp;omega)];rfl
  simp only
  rw [g,k]
  simp only [gp]
  rw [j]
  cases r with
  | inl q=>
   simp only at c e ⊢
   subst e
   have b:Played set t ts seq:=by
    cases c with
    | ok h=>exact h
    | bad _ _ _ h _=>exact absurd rfl h
   have a:=znv (zjg hA) b
   refine ⟨(plS seq ts,0,0),?_,?_,fun _=>⟨hlen,b,rfl⟩,fun _ _=>rfl⟩
   ·unfold zfK zcO
    simp only
    have i:=a.len
    rw [zuB (by rw [a.perm.length_eq];omega) a.perm.symm a.pw]
    rfl
   ·simp only [gp,zji]
  | inr z=>
   simp only at c ⊢
   refine ⟨z,rfl,by simp,fun h=>?_,fun _ b=>?_⟩
   ·cases c with
    | ok h'=>exact ⟨hlen,h',rfl⟩
    | bad _ _ _ h0 _=>exact absurd h h0
   ·cases c with
    | ok h=>rfl
    | bad _ _ _ h0 hn=>exact absurd b hn
 ·rw [if_pos (by simp;omega),if_pos (by simp;omega)]
  exact ⟨_,rfl,rfl,fun h=>by simp at h,fun h=>absurd h hlen⟩
end
section
variable {set:TSet} {T ts:List Plc}
def glQ (set:TSet) (f:Pt->Int) (p:Pt) (d:Int):Int:=if f (zC p d)<0 then 0 else zjb set (f (zC p d)) (zkn d)
def atL (set:TSet) (t:Int) (f:Pt->Int) (p:Pt):List Int:=(ixs set).filter fun k=>decide (zno set f p k≥t)
theorem zwU (hS:SetOk set) {f:Pt->Int} (hf:FOk set f) (p:Pt) {d:Int} (hd:Dir d):0<=glQ set f p d/\glQ set f p d<=(set.1.length:Int):=by
 unfold glQ
 split
 ·omega
 ·rcases hf (zC p d) with h | h
  ·omega
  ·obtain ⟨_,_,_,_,a⟩:=zoL hS h (zpf hd);exact a
theorem zzv (a b c e:Int) {d:Int} (hd:Dir d):idx [a,b,c,e] d=some (if d=0 then a else if d=1 then b else if d=2 then c else e):=by
 rcases hd with rfl | rfl | rfl | rfl<;>rfl
theorem zxc (hS:SetOk set) {f:Pt->Int} (hf:FOk set f) {rest:List Plc} {p:Pt} (hp:ptB p=true) (hg:∀ d,Dir d->zcD rest (zC p d)=some (f (zC p d))) :
  iter (zeS set rest p) ([],0)=some [glQ set f p 0,glQ set f p 1,glQ set f p 2,glQ set f p 3]:=by
 have step:∀ (l:List Int) (d:Int),Dir d->l.length<=4->zeS set rest p (l,d)=some (.inl (l++[glQ set f p d],d+1)):=by
  intro l d hd i
  obtain ⟨e,_,c⟩:=zmG hd
  unfold zeS ziP glQ
  rw [if_pos (by simpa using e),(zfo hp hd).1]
  simp only [gp,hg d hd]
  by_cases h:f (zC p d)<0
  ·rw [if_pos (by simpa using h),if_pos h,zac (by simp;omega) (by simp;omega)]
   simp only [gp,c]
  ·have a:TileIx set (f (zC p d)):=by rcases hf (zC p d) with h1 | h1;omega;exact h1
   obtain ⟨y,g,j,b,_,_⟩:=zoL hS a (zpf hd)
   rw [if_neg (by simpa using h),if_neg h,g]
   simp only [gp,(zsF hd).1,b]
   rw [zac (by simp;omega) (by simp;omega)]
   simp only [gp,c]
 rw [zx (step [] 0 (.inl rfl) (by simp)),zx (step _ (0+1) (.inr (.inl rfl)) (by simp)),zx (step _ (0+1+1) (.inr (.inr (.inl rfl))) (by simp)),zx (step _ (0+1+1+1) (.inr (.inr (.inr rfl))) (by simp))]
 refine zF ?_
 unfold zeS
 rw [if_neg (by simp)]
 rfl
theorem zyi (hS:SetOk set) {f:Pt->Int} (hf:FOk set f) {rest:List Plc} {p:Pt} (hp:ptB p=true) (hg:∀ d,Dir d->zcD rest (zC p d)=some (f (zC p d))) (t:Int) :
  zkc set rest p t=some (atL set t f p):=by
 have O:=hS.tiles
 have hlen:(ixs set).length=set.2.length:=by unfold ixs;simp
 unfold zkc zlg
 rw [zxc hS hf hp hg]
 simp only [gp]
 have g:∀ (l:List Int) (k:Int),TileIx set k->iter (zgw set [glQ set f p 0,glQ set f p 1,glQ set f p 2,glQ set f p 3] (l,k)) (0,0)=some (zno set f p k):=by
  intro l k w
  refine zss (b:=bdQ set f p k) (fun d hd=>by have:=zkI hS hf p w hd;omega) (fun s d hd J M=>?_) (fun s=>?_)
  ·obtain ⟨G,_,q⟩:=zmG hd
   obtain ⟨x,e,I,C,L,N⟩:=zoL hS w hd
   have u:idx [glQ set f p 0,glQ set f p 1,glQ set f p 2,glQ set f p 3] d=some (glQ set f p d):=by
    rw [zzv _ _ _ _ hd]
    rcases hd with rfl | rfl | rfl | rfl<;>rfl
   unfold zgw ziQ
   rw [if_pos (by simpa using G),e]
   simp only [gp,C,u]
   have v:=zkI hS hf p w hd
   have hs:=zv9 hS (zwU hS hf p hd).1 (zwU hS hf p hd).2
   unfold bdQ zpk at v ⊢
   by_cases h:f (zC p d)≥0
   ·have z:glQ set f p d=zjb set (f (zC p d)) (zkn d):=by unfold glQ;rw [if_neg (by omega)]
    rw [if_pos h] at v ⊢
    rw [z] at hs ⊢
    by_cases c:zjb set k d=zjb set (f (zC p d)) (zkn d)
    ·rw [if_pos c] at v ⊢
     rw [if_pos (by simpa using c),hs.1]
     simp only [gp,q]
     rw [c,zw (by omega) (by omega)]
    ·rw [if_neg c,if_neg (by simpa using c),q,Int.add_zero]
   ·have z:glQ set f p d=0:=by unfold glQ;rw [if_pos (by omega)]
    rw [if_neg h]
    rw [z]
    by_cases c:zjb set k d=0
    ·rw [if_pos (by simpa using c)]
     have:zap set 0=some 0:=rfl
     rw [this]
     simp only [gp,q]
     rw [zw (by omega) (by omega)]
    ·rw [if_neg (by simpa using c),q,Int.add_zero]
  ·unfold zgw
   rw [if_neg (by simp)]
 have key:=zhl (F:=zgx set t [glQ set f p 0,glQ set f p 1,glQ set f p 2,glQ set f p 3]) (ixs set) (fun a x=>if decide (zno set f p x≥t) then a++[x] else a) [] (by omega) (fun a i x e D=>?_) (fun a D=>?_)
 ·rw [key]
  simp only [gp,zlf]
  congr 1
  have:=zaP (fun k=>decide (zno set f p k≥t)) (fun x:Int=>x) (ixs set) []
  rw [this];simp [atL]
 ·have A:TileIx set x:=zuU.1 (fc e)
  have B:x=(i:Int):=by
   unfold ixs at e
   rw [cq] at e
   obtain ⟨n,m,rfl⟩:=gt.1 e
   have E:i<set.2.length:=by have:=zz m;simpa using this
   rw [cw E] at m
   injection m with m
   rw [m]
  have j:i<set.2.length:=by rw [←hlen];exact zz e
  subst B
  have H:a.length<=1000:=by
   rw [D]
   have:∀ (l:List Int) (r:List Int),(l.foldl (fun a x=>if decide (zno set f p x≥t) then a++[x] else a) r).length<=r.length+l.length:=by
    intro l
    induction l with
    | nil=>intro r;simp
    | cons y l ih=>intro r;rw [ce];refine ga (ih _) ?_;split<;>simp<;>omega
   refine ga (this _ _) ?_
   rw [ed];simp;omega
  unfold zgx zle ziR
  rw [if_pos (by simpa using j),g _ _ A]
  simp only [gp]
  by_cases h:zno set f p (i:Int)≥t
  ·rw [if_pos (by simpa using h),if_pos (by simpa using h),zac (by simp;omega) (by simp;omega)];rfl
  ·rw [if_neg (by simpa using h),if_neg (by simpa using h)]
 ·unfold zgx
  rw [if_neg (by simp [hlen])]
theorem zx5 (set:TSet) (t:Int) (f:Pt->Int) (p:Pt):(atL set t f p).length<=set.2.length:=by
 unfold atL
 refine ga (du _ _) ?_
 unfold ixs;simp
theorem ztt (l:List Pt) (hl:l.length<=1000000) (p:Pt):∃ l',zfS l p=some l'/\(∀ q,q∈l'↔q∈l\/q=p)/\l'.length<=l.length+1:=by
 obtain ⟨at_,s,H,D⟩:∃ a:Nat,iter (zas l p) (l.length:Int)=some (a:Int)/\0<=a/\a<=l.length:=by
  have key:∀ n:Nat,n<=l.length->∃ a:Nat,iter (zas l p) (n:Int)=some (a:Int)/\0<=a/\a<=l.length:=by
   intro n
   induction n with
   | zero=>
    intro E
    refine ⟨0,zF ?_,by omega,by omega⟩
    unfold zas zaZ
    rw [if_neg (by simp)];rfl
   | succ n ih=>
    intro E
    have f:w64 (((n+1:Nat):Int) - 1)=(n:Int):=by rw [zw (by omega) (by omega)];omega
    have e:l[n]?=some l[n]:=cm (by omega)
    cases c:lp l[n] p with
    | true=>
     refine ⟨n+1,zF ?_,by omega,E⟩
     unfold zas zaZ
     rw [if_pos (by simp<;>omega),f,zu e]
     simp only [gp,zil,c]
     rfl
    | false=>
     obtain ⟨a,D,F,G⟩:=ih (by omega)
     refine ⟨a,?_,F,G⟩
     rw [←D]
     refine zx ?_
     unfold zas zaZ
     rw [if_pos (by simp<;>omega),f,zu e]
     simp only [gp,zil,c]
     rfl
  exact key l.length (fz _)
 have ins:∃ l',za0 l p (at_:Int) false=some l'/\(∀ q,q∈l'↔q∈l\/q=p)/\l'.length<=l.length+1:=by
  unfold za0
  rw [if_neg (by simp),zac (by simp;omega) (by simp;omega)]
  simp only [gp]
  have C:w64 (((l++[p]).length:Int) - 1)=(l.length:Int):=by rw [dl,ec,zw (by omega) (by omega)];omega
  rw [C]
  have key:∀ (m i:Nat) (L:List Pt),i=at_+m->i<=l.length->L.length=l.length+1->(∀ j,j<i->L[j]?=l[j]?)->(∀ j,i<j->L[j]?=l[j - 1]?)->
    ∃ L',iter (zb4 (at_:Int)) (L,(i:Int))=some L'/\L'.length=l.length+1/\(∀ j,j<at_->L'[j]?=l[j]?)/\(∀ j,at_<j->L'[j]?=l[j - 1]?):=by
   intro m
   induction m with
   | zero=>
    intro i L hi A w k x
    have:i=at_:=by omega
    subst this
    refine ⟨L,zF ?_,w,k,x⟩
    unfold zb4
    rw [if_neg (by simp)]
   | succ m ih=>
    intro i L hi A w k x
    have f:w64 ((i:Int) - 1)=((i - 1:Nat):Int):=by rw [zw (by omega) (by omega)];omega
    have e:L[i - 1]?=some (l[i - 1]'(by omega)):=by rw [k _ (by omega),cm (by omega)]
    have z:L[i]?=some (L[i]'(by omega)):=cm (by omega)
    obtain ⟨L',y,t,r,g⟩:=ih (i - 1) (L.set i (l[i - 1]'(by omega))) (by omega) (by omega) (by simp [w]) (fun j b=>by rw [df (by omega)];exact k j (by omega)) (fun j b=>by
     by_cases v:j=i
     ·subst v;rw [dg (by omega),cm (by omega)]
     ·rw [df (by omega)];exact x j (by omega))
    refine ⟨L',?_,t,r,g⟩
    rw [←y]
    refine zx ?_
    unfold zb4
    rw [if_pos (by simp;omega),f,zu e]
    simp only [gp]
    rw [zu z]
    simp
  obtain ⟨L',y,t,r,g⟩:=key (l.length - at_) l.length (l++[p]) (by omega) (fz _) (by simp) (fun j b=>by rw [cg b]) (fun j b=>by
   rw [cn (by simp;omega),cn (by omega)])
  rw [y]
  simp only [gp]
  unfold zge
  have z:L'[at_]?=some (L'[at_]'(by omega)):=cm (by omega)
  rw [zu z]
  simp only [gp]
  refine ⟨_,rfl,fun q=>?_,by simp [t]⟩
  simp only [ba]
  constructor
  ·intro u
   obtain ⟨j,b⟩:=cv u
   by_cases d:j=at_
   ·subst d
    rw [dg (by omega)] at b
    injection b with b;exact .inr b.symm
   ·rw [df (Ne.symm d)] at b
    rcases gh d with h | h
    ·rw [r j h] at b;exact .inl (fc b)
    ·rw [g j h] at b;exact .inl (fc b)
  ·rintro (u | rfl)
   ·obtain ⟨j,b⟩:=cv u
    rcases gg j at_ with h | h
    ·exact fc (i:=j) (by rw [df (by omega),r j h];exact b)
    ·exact fc (i:=j+1) (by rw [df (by omega),g (j+1) (by omega)];exact b)
   ·exact fc (i:=at_) (dg (by omega))
 unfold zfS
 rw [s]
 simp only [gp]
 unfold zgf
 by_cases c:at_<l.length
 ·have e:l[at_]?=some l[at_]:=cm c
  rw [if_pos (by simpa using c),zu e]
  simp only [gp]
  by_cases B:l[at_]=p
  ·rw [show (decide (l[at_].1=p.1)&&decide (l[at_].2=p.2))=true by rw [B];simp]
   unfold za0
   refine ⟨l,rfl,fun q=>⟨.inl,fun h=>?_⟩,by omega⟩
   rcases h with h | rfl
   ·exact h
   ·rw [←B];exact dj c
  ·rw [show (decide (l[at_].1=p.1)&&decide (l[at_].2=p.2))=false by
    cases hb:(decide (l[at_].1=p.1)&&decide (l[at_].2=p.2)) with
    | false=>rfl
    | true=>simp at hb;exact absurd (Prod.ext hb.1 hb.2) B]
   exact ins
 ·rw [if_neg (by simpa using c)]
  exact ins
def zvX (T:List Plc) (q:Pt):Prop:=ptB q=true/\cat T q<0
theorem zxF (hS:SetOk set) (h:Cr set T ts) {x:Plc} {i:Nat} (hx:ts[i]?=some x) (l0:List Pt) (l:List Pt) (z:l.length<=100000) :
  ∃ l',iter (zcV ts (l0,(i:Int))) (l,0)=some l'/\(∀ q,q∈l'↔q∈l\/∃ d,Dir d/\q=zC x.1 d/\zvX T q)/\l'.length<=l.length+4:=by
 have j:=(h.ok x (fc hx)).1
 have step:∀ (l:List Pt) (d:Int),Dir d->l.length<=100004->∃ l',zcV ts (l0,(i:Int)) (l,d)=some (.inl (l',d+1))/\(∀ q,q∈l'↔q∈l\/q=zC x.1 d/\zvX T q)/\l'.length<=l.length+1:=by
  intro l d hd z
  obtain ⟨C,_,m⟩:=zmG hd
  unfold zcV
  rw [if_pos (by simpa using C),zu hx]
  simp only [gp,(zfo j hd).1,zl7]
  cases hb:ptB (zC x.1 d) with
  | false=>
   rw [if_neg (by simp)]
   unfold zez zeA
   refine ⟨l,by rw [if_neg (by simp),m],fun q=>⟨.inl,fun a=>?_⟩,by omega⟩
   rcases a with a | ⟨rfl,hf⟩
   ·exact a
   ·rw [hf.1] at hb;cases hb
  | true=>
   rw [if_pos rfl]
   obtain ⟨k,r,c⟩:=(h.at (zC x.1 d)).2
   rw [r]
   simp only [gp]
   unfold zez zeA
   by_cases g:cat T (zC x.1 d)<0
   ·obtain ⟨l',y,s,E⟩:=ztt l (by omega) (zC x.1 d)
    rw [if_pos (by simpa using c.2 g),y]
    simp only [gp,m]
    refine ⟨l',rfl,fun q=>?_,E⟩
    rw [s]
    exact or_congr Iff.rfl ⟨fun e=>⟨e,by rw [e];exact ⟨hb,g⟩⟩,fun e=>e.1⟩
   ·rw [if_neg (by simpa using fun b=>g (c.1 b)),m]
    refine ⟨l,rfl,fun q=>⟨.inl,fun a=>?_⟩,by omega⟩
    rcases a with a | ⟨rfl,hf⟩
    ·exact a
    ·exact absurd hf.2 g
 obtain ⟨l1,D,n,F⟩:=step l 0 (.inl rfl) (by omega)
 obtain ⟨l2,a2,A,c2⟩:=step l1 1 (.inr (.inl rfl)) (by omega)
 obtain ⟨u,t,p,G⟩:=step l2 2 (.inr (.inr (.inl rfl))) (by omega)
 obtain ⟨w,v,B,H⟩:=step u 3 (.inr (.inr (.inr rfl))) (by omega)
 refine ⟨w,?_,fun q=>?_,by omega⟩
 ·rw [zx D,show ((0:Int)+1)=1 from rfl,zx a2,show ((1:Int)+1)=2 from rfl,zx t,show ((2:Int)+1)=3 from rfl,zx v]
  refine zF ?_
  unfold zcV
  rw [if_neg (by simp)]
 ·rw [B,p,A,n]
  constructor
  ·rintro ((((a | a) | a) | a) | a)
   ·exact .inl a
   ·exact .inr ⟨0,.inl rfl,a.1,a.2⟩
   ·exact .inr ⟨1,.inr (.inl rfl),a.1,a.2⟩
   ·exact .inr ⟨2,.inr (.inr (.inl rfl)),a.1,a.2⟩
   ·exact .inr ⟨3,.inr (.inr (.inr rfl)),a.1,a.2⟩
  ·rintro (a | ⟨d,hd,b,f⟩)
   ·exact .inl (.inl (.inl (.inl a)))
   ·rcases hd with rfl | rfl | rfl | rfl
    ·exact .inl (.inl (.inl (.inr ⟨b,f⟩)))
    ·exact .inl (.inl (.inr ⟨b,f⟩))
    ·exact .inl (.inr ⟨b,f⟩)
    ·exact .inr ⟨b,f⟩
def zot (T ts:List Plc) (q:Pt):Prop:=∃ x∈ts,∃ d,Dir d/\q=zC x.1 d/\zvX T q
theorem zxE (hS:SetOk set) (h:Cr set T ts):∃ l,zjK ts=some l/\(∀ q,q∈l↔zot T ts q)/\l.length<=2000:=by
 have hlen:=h.len
 have e:∀ (m i:Nat) (l:List Pt),i+m=ts.length->l.length<=4*i->(∀ q,q∈l↔zot T (ts.take i) q)->∃ l',iter (zcW ts) (l,(i:Int))=some l'/\(∀ q,q∈l'↔zot T ts q)/\l'.length<=2000:=by
  intro m
  induction m with
  | zero=>
   intro i l hi r f
   have:i=ts.length:=by omega
   subst this
   rw [fq] at f
   refine ⟨l,zF ?_,f,by omega⟩
   unfold zcW
   rw [if_neg (by simp)]
  | succ m ih=>
   intro i l hi r f
   have c:i<ts.length:=by omega
   have a:ts[i]?=some ts[i]:=cm c
   have j:w64 ((i:Int)+1)=((i+1:Nat):Int):=by rw [zw (by omega) (by omega)];omega
   obtain ⟨l',n,k,w⟩:=zxF hS h a l l (by omega)
   obtain ⟨l2,p,v,t⟩:=ih (i+1) l' (by omega) (by omega) (fun q=>by
    rw [k,f,zlK a]
    unfold zot
    constructor
    ·rintro (⟨x,a,b⟩ | ⟨d,hd,b⟩)
     ·exact ⟨x,ek.2 (.inl a),b⟩
     ·exact ⟨ts[i],ek.2 (.inr (fe.2 rfl)),d,hd,b⟩
    ·rintro ⟨x,a,d,hd,b⟩
     rcases ek.1 a with a | a
     ·exact .inl ⟨x,a,d,hd,b⟩
     ·rw [fe.1 a] at b;exact .inr ⟨d,hd,b⟩)
   refine ⟨l2,?_,v,t⟩
   rw [←p]
   refine zx ?_
   unfold zcW
   rw [if_pos (by simpa using c),n]
   simp only [gp,zjj,j]
 obtain ⟨l,g,s,u⟩:=e ts.length 0 [] (by omega) (by simp) (fun q=>by unfold zot;simp)
 refine ⟨l,?_,s,u⟩
 unfold zjK
 have g:iter (zcW ts) ([],0)=some l:=g
 rw [g];rfl
theorem zq6 (hS:SetOk set) (h:Cr set T ts) (s0:List Plc) (t:Int):∃ out,zcU (set,s0,t) ts=some out/\(out=[]↔∀ q,zot T ts q->atL set t (cat T) q=[])/\out.length<=1000000:=by
 obtain ⟨a,R,z,S⟩:=zxE hS h
 have M:=hS.tiles
 unfold zcU
 rw [R]
 simp only [gp]
 have r:∀ (m i:Nat) (out:List Plc),i+m=a.length->out.length<=160*i->(out=[]↔∀ q∈a.take i,atL set t (cat T) q=[])->
   ∃ out',iter (zbg (set,s0,t) ts a) (out,(i:Int))=some out'/\(out'=[]↔∀ q∈a,atL set t (cat T) q=[])/\out'.length<=1000000:=by
  intro m
  induction m with
  | zero=>
   intro i out hi L c
   have:i=a.length:=by omega
   subst this
   rw [fq] at c
   refine ⟨out,zF ?_,c,by omega⟩
   unfold zbg
   rw [if_neg (by simp)]
  | succ m ih=>
   intro i out hi L c
   have p:i<a.length:=by omega
   obtain ⟨q,D⟩:∃ q,q=a[i]:=⟨_,rfl⟩
   have w:a[i]?=some q:=by rw [cm p,D]
   have I:w64 ((i:Int)+1)=((i+1:Nat):Int):=by rw [zw (by omega) (by omega)];omega
   obtain ⟨x,N,d,hd,J,f⟩:=(z q).1 (fc w)
   have s:=zyi hS h.fok f.1 (fun d _=>(h.at _).1) t
   obtain ⟨A,hA⟩:∃ A,A=atL set t (cat T) q:=⟨_,rfl⟩
   have G:A.length<=160:=by rw [hA];exact ga (zx5 _ _ _ _) M
   rw [←hA] at s
   have l:∀ (m j:Nat) (o:List Plc),j+m=A.length->o=out++(A.take j).map (fun k=>(q,k))->iter (zbf a (out,(i:Int)) q A) (o,(j:Int))=some (out++A.map (fun k=>(q,k))):=by
    intro m
    induction m with
    | zero=>
     intro j o Q b
     have:j=A.length:=by omega
     subst this
     rw [fq] at b
     subst b
     refine zF ?_
     unfold zbf
     rw [if_neg (by simp)]
    | succ m ih2=>
     intro j o Q b
     have u:j<A.length:=by omega
     have E:A[j]?=some A[j]:=cm u
     have B:w64 ((j:Int)+1)=((j+1:Nat):Int):=by rw [zw (by omega) (by omega)];omega
     have F:o.length<=400000:=by rw [b,dl,dv,ed];omega
     rw [←ih2 (j+1) (o++[(q,A[j])]) (by omega) (by rw [b,zlK E,ee,←be];rfl)]
     refine zx ?_
     unfold zbf
     rw [if_pos (by simpa using u),zu w]
     simp only [gp]
     rw [zu E]
     simp only [gp]
     rw [zac (by simp;omega) (by simp;omega)]
     simp only [gp,B]
   have g:=l A.length 0 out (by omega) (by simp)
   obtain ⟨o2,O,H,P⟩:=ih (i+1) (out++A.map (fun k=>(q,k))) (by omega) (by simp;omega) (by
    rw [zlK w,List.append_eq_nil_iff,c]
    constructor
    ·rintro ⟨e,y⟩ C n
     rcases ek.1 n with v | v
     ·exact e C v
     ·rw [fe.1 v,←hA];simpa using y
    ·intro e
     exact ⟨fun C n=>e C (by simp [n]),by rw [hA,e q (by simp)];rfl⟩)
   refine ⟨o2,?_,H,P⟩
   rw [←O]
   refine zx ?_
   unfold zbg
   rw [if_pos (by simpa using p),zu w]
   simp only [gp]
   rw [s]
   simp only [gp]
   have g:iter (zbf a (out,(i:Int)) q A) (out,0)=some (out++A.map (fun k=>(q,k))):=g
   rw [g]
   simp only [gp,zg1,I]
 obtain ⟨o,e,y,v⟩:=r a.length 0 [] (by omega) (by simp) (by simp)
 have e:iter (zbg (set,s0,t) ts a) ([],0)=some o:=e
 refine ⟨o,by rw [e];rfl,?_,v⟩
 rw [y]
 exact ⟨fun h q c=>h q ((z q).2 c),fun h q c=>h q ((z q).1 c)⟩
end
end Go.Lf
