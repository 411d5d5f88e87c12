import Derived.Test.YtiobnnnacoginaaGreatDoorI
import Derived.Test.YtiobnnnacoginaaGreatDoorC
set_option linter.all false
namespace Go.Lf
open Go
def lp(a b:Pt):Bool:=decide (a.2<b.2)||(decide (a.2=b.2)&&decide (a.1<b.1))
def zyo{a b:Pt}:lp a b=true↔a.2<b.2\/(a.2=b.2/\a.1<b.1):=by unfold lp;simp
def zDv{a b:Pt}:lp a b=false↔b.2<a.2\/(a.2=b.2/\b.1<=a.1):=by unfold lp;simp;omega
def zpX{a b c:Pt}(h1:lp a b=true)(h2:lp b c=true):lp a c=true:=by
 rw[zyo]at *;omega
def zr5{a b:Pt}(h:lp a b=true):a≠b:=by
 rw[zyo]at h;intro e;subst e;omega
def zAU{a b:Pt}(h1:a.1=b.1)(h2:a.2=b.2):a=b:=Prod.ext h1 h2
def zxC{a b:Pt}(h1:lp a b=false)(h2:a≠b):lp b a=true:=by
 rw[zDv]at h1;rw[zyo];rcases Int.lt_trichotomy a.1 b.1 with h | h | h
 ·omega
 ·rcases h1 with h3 | h3
  ·exact .inl h3
  ·exact absurd (zAU h h3.1) h2
 ·omega
def zka(a b:Pt):zde a b=some (lp a b):=by
 unfold zde lp;by_cases c:a.2<b.2<;>by_cases d:a.2=b.2<;>simp[c,d]
def zxW(a b:Pt):Int:=if a.2<b.2 then -1 else if b.2<a.2 then 1 else if a.1<b.1 then -1 else if b.1<a.1 then 1 else 0
def zuP(a b:Pt):zal a b=some (zxW a b):=by
 unfold zal;rw[zsw,zsw];simp only[ic,zyY];congr 1;unfold zxW
 repeat' split
 all_goals first | rfl | omega
def zsx{a b:Pt}:decide (zxW a b<0)=lp a b:=by
 unfold zxW lp;by_cases e:a.2<b.2
 ·simp[e]
 ·by_cases g:b.2<a.2
  ·simp[e,g];omega
  ·have d:a.2=b.2:=by omega
   by_cases c:a.1<b.1
   ·simp[d,c]
   ·by_cases f:b.1<a.1
    ·simp[d,c,f]
    ·simp[d,c,f]
def zqs{a b:Pt}:zxW a b=0↔a=b:=by
 unfold zxW;constructor
 ·intro h;apply zAU<;>(repeat' split at h)<;>omega
 ·intro h;subst h;simp
def zvN(a b:Pt):zjW a b=some (lp a b):=by
 unfold zjW;rw[zuP];simp only[ic];rw[zsx]
def ptB(p:Pt):Bool:=decide (-60<=p.1/\p.1<=60)&&decide (-60<=p.2/\p.2<=60)
def zyV{p:Pt}:ptB p=true ↔ -60<=p.1/\p.1<=60 /\ -60<=p.2/\p.2<=60:=by
 unfold ptB;simp;omega
def zoU(p:Pt):zdG p=some (ptB p):=by
 unfold zdG ptB;simp only[zbe,ic];by_cases h : -60<=p.1/\p.1<=60
 ·simp[h]
 ·simp only[h,decide_false,Bool.false_and];rfl
def zmj(p:Pt):zeo p=some (ptB p):=by
 unfold zeo ptB;simp only[zdh,ic];by_cases h : -60<=p.1/\p.1<=60
 ·simp[h]
 ·simp only[h,decide_false,Bool.false_and];rfl
def zBN(ts:List Plc)(i:Nat):Prop:=∀x,ts[i]?=some x->ptB x.1=true/\0<=x.2/\x.2<=159/\∀y,1<=i->ts[i - 1]?=some y->lp y.1 x.1=true
def FormOk(ts:List Plc):Prop:=ts.length<=500/\∀i,i<ts.length->zBN ts i
def zzV(ts:List Plc)(h:ts.length<=2000000):∃b,zl2 ts=some b/\(b=true↔FormOk ts):=by
 unfold zl2 zlu;have key:=zkU (λi=>(i:Int)) 0 ts.length (zBN ts) (zbn ts) om ?_ ?_ ?_
 ·rcases key with⟨g,l⟩ |⟨g,hnot⟩
  ·have g:iter (zbn ts) 0=some (.inl ()):=g;rw[g];refine⟨_,rfl,?_⟩;simp only[decide_eq_true_eq];exact⟨λr=>⟨by omega,λi hi=>l i om hi⟩,λp=>by have:=p.1;omega⟩
  ·have g:iter (zbn ts) 0=some (.inr false):=g;rw[g];exact⟨false,rfl,λh=>(by cases h),λp=>absurd (λi _ hi=>p.2 i hi) hnot⟩
 ·intro i _ hi _ c;have k:ts[i]?=some ts[i]:=cz hi;obtain⟨o1,o2,t,s⟩:=c _ k;have q:w64 ((i:Int)+1)=((i+1:Nat):Int):=by rw[zu om om];omega
  have e:w64 ((160:Int) - 1)=159:=zu om om;unfold zbn zcs zaJ;rw[if_pos (by simp[hi])];simp only[zq k,ic,zoU,o1,e,zbe];rw[if_neg si,if_neg so];by_cases n:(i:Int)>0
  ·have m:ts[i - 1]?=some (ts[i - 1]'om):=cz om;have f:w64 ((i:Int) - 1)=((i - 1:Nat):Int):=by rw[zu om om];omega
   rw[if_pos (by simpa using n)];simp only[f,zq m,ic,zvN,s _ om m,q];rfl
  ·rw[if_neg (by simpa using n)];simp[q]
 ·intro i _ hi _ c;have k:ts[i]?=some ts[i]:=cz hi;have e:w64 ((160:Int) - 1)=159:=zu om om;unfold zbn zcs zaJ;rw[if_pos (by simp[hi])];simp only[zq k,ic,zoU,e,zbe];cases hp:ptB ts[i].1 with
  | false=>simp
  | true=>
   rw[if_neg si];by_cases j:0<=ts[i].2/\ts[i].2<=159
   ·rw[if_neg (by simp[j])];by_cases n:(i:Int)>0
    ·have m:ts[i - 1]?=some (ts[i - 1]'om):=cz om;have f:w64 ((i:Int) - 1)=((i - 1:Nat):Int):=by rw[zu om om];omega
     rw[if_pos (by simpa using n)];simp only[f,zq m,ic,zvN];cases r:lp (ts[i - 1]'om).1 ts[i].1 with
     | false=>simp
     | true=>
      refine absurd (λx a=>?_) c;rw[k]at a;injection a with a;subst a
      exact⟨hp,j.1,j.2,λy _ d=>by rw[m]at d;injection d with d;subst d;exact r⟩
    ·refine absurd (λx a=>?_) c;rw[k]at a;injection a with a;subst a
     exact⟨hp,j.1,j.2,λy u _=>by omega⟩
   ·rw[if_pos (by simp only[j,decide_false];rfl)];simp
 ·intro _;unfold zbn;rw[if_neg si]
def zzq(ts:List Plc)(h:ts.length<=2000000):∃b,zlQ ts=some b/\(b=true↔FormOk ts):=by
 unfold zlQ zlf;by_cases q:ts.length>500
 ·rw[if_pos so];exact⟨false,rfl,λh=>(by cases h),λn=>by have:=n.1;omega⟩
 rw[if_neg so];have key:=zkU (λi=>(i:Int)) 0 ts.length (zBN ts) (zbl ts) om ?_ ?_ ?_
 ·rcases key with⟨f,k⟩ |⟨f,hnot⟩
  ·have f:iter (zbl ts) 0=some (.inl ()):=f;rw[f];exact⟨true,rfl,λ_=>⟨by omega,λi hi=>k i om hi⟩,λ_=>rfl⟩
  ·have f:iter (zbl ts) 0=some (.inr false):=f;rw[f];exact⟨false,rfl,λh=>(by cases h),λn=>absurd (λi _ hi=>n.2 i hi) hnot⟩
 ·intro i _ hi _ c;have j:ts[i]?=some ts[i]:=cz hi;obtain⟨o1,o2,s,r⟩:=c _ j;have p:w64 ((i:Int)+1)=((i+1:Nat):Int):=by rw[zu om om];omega
  unfold zbl zcp;rw[if_pos (by simp[hi])];simp only[zq j,ic,zmj,o1,zdh];rw[if_neg si,if_neg so];by_cases m:(i:Int)>0
  ·have l:ts[i - 1]?=some (ts[i - 1]'om):=cz om;have e:w64 ((i:Int) - 1)=((i - 1:Nat):Int):=by rw[zu om om];omega
   rw[if_pos (by simpa using m)];simp only[e,zq l,ic,zka,r _ om l,p];rfl
  ·rw[if_neg (by simpa using m)];simp[p]
 ·intro i _ hi _ c;have j:ts[i]?=some ts[i]:=cz hi;unfold zbl zcp;rw[if_pos (by simp[hi])];simp only[zq j,ic,zmj,zdh];cases hp:ptB ts[i].1 with
  | false=>simp
  | true=>
   rw[if_neg si];by_cases g:0<=ts[i].2/\ts[i].2<=159
   ·rw[if_neg (by simp[g])];by_cases m:(i:Int)>0
    ·have l:ts[i - 1]?=some (ts[i - 1]'om):=cz om;have e:w64 ((i:Int) - 1)=((i - 1:Nat):Int):=by rw[zu om om];omega
     rw[if_pos (by simpa using m)];simp only[e,zq l,ic,zka];cases q:lp (ts[i - 1]'om).1 ts[i].1 with
     | false=>simp
     | true=>
      refine absurd (λx a=>?_) c;rw[j]at a;injection a with a;subst a
      exact⟨hp,g.1,g.2,λy _ d=>by rw[l]at d;injection d with d;subst d;exact q⟩
    ·refine absurd (λx a=>?_) c;rw[j]at a;injection a with a;subst a
     exact⟨hp,g.1,g.2,λy t _=>by omega⟩
   ·rw[if_pos (by simp only[g,decide_false];rfl)];simp
 ·intro _;unfold zbl;rw[if_neg si]
def AsmOk(set:TSet)(ts:List Plc):Prop:=FormOk ts/\∀x∈ts,0<=x.2/\x.2<=(set.2.length:Int) - 1
def zos(set:TSet)(h:set.2.length<=1048576)(k:Int):zbj set k=some (decide (0<=k/\k<=(set.2.length:Int) - 1))/\zh0 set k=some (decide (0<=k/\k<=(set.2.length:Int) - 1)):=by
 have a:w64 ((set.2.length:Int) - 1)=(set.2.length:Int) - 1:=zu om om;constructor
 ·unfold zbj zaJ;simp only[a,zbe,ic]
 ·unfold zh0;simp only[a,zdh,ic]
def znD(set:TSet)(hT:Tame set)(ts:List Plc)(h:ts.length<=2000000):∃b,zaa set ts=some b/\(b=true↔SetOk set/\AsmOk set ts):=by
 obtain⟨a,l,_,e⟩:=zpw set hT;obtain⟨f,m,g⟩:=zzV ts h;unfold zaa;simp only[l,ic];cases a with
 | false=>exact⟨false,rfl,λh=>(by cases h),λh=>e.2 h.1⟩
 | true=>
  rw[if_pos rfl];simp only[m,ic];cases f with
  | false=>exact⟨false,rfl,λh=>(by cases h),λh=>g.2 h.2.1⟩
  | true=>
   rw[if_pos rfl];unfold zeY zaT zcd;have hp:∀b∈ts,(λq0=>zaC q0 set) b=some (!decide (0<=b.2/\b.2<=(set.2.length:Int) - 1)):=by
    intro b _;simp only[zaC,(zos set hT.t b.2).1,ic]
   rcases zks ts h (λq0=>zaC q0 set) (λb=>!decide (0<=b.2/\b.2<=(set.2.length:Int) - 1)) hp (zcc ts λq0=>zaC q0 set) (λi=>rfl)with⟨d,c⟩ |⟨k,d,hk,_,b,hb,hq⟩
   ·rw[d];refine⟨true,rfl,λ_=>⟨e.1 rfl,g.1 rfl,λx n=>?_⟩,λ_=>rfl⟩;have:=c x n;simpa using this
   ·rw[d];refine⟨false,?_,λh=>(by cases h),λj=>?_⟩
    ·simp
    ·have:=j.2.2 b (fo hb);simp at hq;omega
def zw9(set:TSet)(hT:Tame set)(ts:List Plc)(h:ts.length<=2000000):∃b,zkg set ts=some b/\(b=true↔AsmOk set ts):=by
 obtain⟨f,n,j⟩:=zzq ts h;unfold zkg znJ;simp only[n,ic];cases f with
 | false=>exact⟨false,rfl,λh=>(by cases h),λh=>j.2 h.1⟩
 | true=>
  rw[if_neg si];have key:=zkU (λi=>(i:Int)) 0 ts.length (λi=>∀x,ts[i]?=some x->0<=x.2/\x.2<=(set.2.length:Int) - 1) (zcU set ts) om ?_ ?_ ?_
  ·rcases key with⟨e,g⟩ |⟨e,hnot⟩
   ·have e:iter (zcU set ts) 0=some (.inl ()):=e;rw[e];refine⟨true,rfl,λ_=>⟨j.1 rfl,λx c=>?_⟩,λ_=>rfl⟩;obtain⟨i,hi⟩:=dj c;exact g i om (zA hi) x hi
   ·have e:iter (zcU set ts) 0=some (.inr false):=e;rw[e];exact⟨false,rfl,λh=>(by cases h),λl=>absurd (λi _ hi x c=>l.2 x (fo c)) hnot⟩
  ·intro i _ hi _ d;have c:ts[i]?=some ts[i]:=cz hi;have k:w64 ((i:Int)+1)=((i+1:Nat):Int):=by rw[zu om om];omega
   unfold zcU;rw[if_pos (by simp[hi])];simp only[zq c,ic,(zos set hT.t _).2,k];rw[if_neg (by simp only[d _ c];simp)]
  ·intro i _ hi _ d;have c:ts[i]?=some ts[i]:=cz hi;unfold zcU;rw[if_pos (by simp[hi])];simp only[zq c,ic,(zos set hT.t _).2];have:¬(0<=ts[i].2/\ts[i].2<=(set.2.length:Int) - 1):=λm=>d λx a=>by rw[c]at a;injection a with a;subst a;exact m
   rw[if_pos (by simp only[this,decide_false];rfl)]
  ·intro _;unfold zcU;rw[if_neg si]
def Srt(ts:List Plc):Prop:=∀(i j:Nat)(x y:Plc),i<j->ts[i]?=some x->ts[j]?=some y->lp x.1 y.1=true
def FormOk.srt{ts:List Plc}(h:FormOk ts):Srt ts:=by
 intro i j
 induction j with
 | zero=>intro x y c;omega
 | succ j ih=>
  intro x y c b e;have g:=zA e;have d:ts[j]?=some (ts[j]'om):=cz om;have f:=(h.2 (j+1) g y e).2.2.2 _ om d;by_cases a:i=j
  ·subst a;rw[d]at b;injection b with b;subst b;exact f
  ·exact zpX (ih x _ om b d) f
def AtP(ts:List Plc)(p:Pt)(k:Int):Prop:=(0<=k/\∃x,ts[k.toNat]?=some x/\x.1=p)\/(k = -1/\∀x∈ts,x.1≠p)
def AtP.uniq{ts:List Plc}(hs:Srt ts){p:Pt}{k k':Int}(h:AtP ts p k)(h':AtP ts p k'):k=k':=by
 rcases h with⟨f,x,c,e⟩ |⟨f,h1⟩<;>rcases h' with⟨d,y,a,b⟩ |⟨d,h3⟩
 ·rcases gv k.toNat k'.toNat with h | h | h
  ·exact absurd (e.trans b.symm) (zr5 (hs _ _ _ _ h c a))
  ·omega
  ·exact absurd (b.trans e.symm) (zr5 (hs _ _ _ _ h a c))
 ·exact absurd e (h3 x (fo c))
 ·exact absurd b (h1 y (fo a))
 ·omega
def zyG{ts:List Plc}(hs:Srt ts)(hl:ts.length<=1048576){p:Pt}{F:Int×Int->Option ((Int×Int) ⊕ Int)}(hF:∀(lo hi:Nat)(x:Plc),lo<hi->hi<=ts.length->ts[(lo+hi) / 2]?=some x->F ((lo:Int),(hi:Int))=some (.inl (if lp x.1 p then((((lo+hi) / 2+1:Nat):Int),(hi:Int))else((lo:Int),(((lo+hi) / 2:Nat):Int)))))(hstop:∀(lo:Int),F (lo,lo)=some (.inr lo)):
  ∃k:Nat,iter F (0,(ts.length:Int))=some (k:Int)/\k<=ts.length/\(∀(i:Nat) x,i<k->ts[i]?=some x->lp x.1 p=true)/\∀(i:Nat) x,k<=i->ts[i]?=some x->lp x.1 p=false:=by
 have key:=zz (F:=F) (λs=>∃lo hi:Nat,s=((lo:Int),(hi:Int))/\lo<=hi/\hi<=ts.length/\(∀(i:Nat) x,i<lo->ts[i]?=some x->lp x.1 p=true)/\∀(i:Nat) x,hi<=i->ts[i]?=some x->lp x.1 p=false)
  (λs=>(s.2 - s.1).toNat) (λz=>∃k:Nat,z=(k:Int)/\k<=ts.length/\(∀(i:Nat) x,i<k->ts[i]?=some x->lp x.1 p=true)/\∀(i:Nat) x,k<=i->ts[i]?=some x->lp x.1 p=false) ?_ (0,(ts.length:Int))
  ⟨0,ts.length,rfl,by omega,gl _,λi x hi=>by omega,λi x hi b=>by have:=zA b;omega⟩
 ·obtain⟨z,l,k,rfl,h⟩:=key;exact⟨k,l,h⟩
 ·rintro s ⟨lo,hi,rfl,m,e,g,f⟩;by_cases c:lo<hi
  ·left;have b:ts[(lo+hi) / 2]?=some (ts[(lo+hi) / 2]'om):=cz om;refine⟨_,hF lo hi _ c e b,?_⟩;cases hc:lp (ts[(lo+hi) / 2]'om).1 p with
   | true=>
    rw[if_pos rfl];refine⟨⟨(lo+hi) / 2+1,hi,rfl,by omega,e,λi x d a=>?_,f⟩,by simp only[];omega⟩;rcases gt i ((lo+hi) / 2)with h | h
    ·exact zpX (hs _ _ _ _ h a b) hc
    ·have:i=(lo+hi) / 2:=by omega
     subst this;rw[b]at a;injection a with a;subst a;exact hc
   | false=>
    rw[if_neg si];refine⟨⟨lo,(lo+hi) / 2,rfl,by omega,by omega,g,λi x d a=>?_⟩,by simp only[];omega⟩;rcases gt ((lo+hi) / 2) i with h | h
    ·have j:=hs _ _ _ _ h b a;cases hc2:lp x.1 p with
     | false=>rfl
     | true=>rw[zpX j hc2]at hc;cases hc
    ·have:i=(lo+hi) / 2:=by omega
     subst this;rw[b]at a;injection a with a;subst a;exact hc
  ·right;have:lo=hi:=by omega
   subst this;exact⟨_,hstop _,lo,rfl,e,g,f⟩
def zti{ts:List Plc}(hs:Srt ts){p:Pt}{k:Nat}(h1:∀(i:Nat) x,i<k->ts[i]?=some x->lp x.1 p=true)(h2:∀(i:Nat) x,k<=i->ts[i]?=some x->lp x.1 p=false)(h:∀x,ts[k]?=some x->x.1≠p):∀x∈ts,x.1≠p:=by
 intro x c e;obtain⟨i,hi⟩:=dj c;rcases gv i k with hik | hik | hik
 ·exact zr5 (h1 i x hik hi) e
 ·subst hik;exact h x hi e
 ·have b:ts[k]?=some (ts[k]'(by have:=zA hi;omega)):=cz (by have:=zA hi;omega);have a:=hs _ _ _ _ hik b hi;rw[e]at a;rw[h2 k _ (gl _) b]at a;cases a
def zum{ts:List Plc}(hs:Srt ts)(hl:ts.length<=1048576)(p:Pt):∃k,zaZ ts p=some k/\AtP ts p k:=by
 have key:=zyG hs hl (p:=p) (F:=zeO ts p) ?_ ?_
 ·obtain⟨k,m,n,h,g⟩:=key;unfold zaZ zkh zhc;simp only[m,ic];by_cases b:k<ts.length
  ·have c:ts[k]?=some ts[k]:=cz b;rw[if_pos (by simp[b])];simp only[zq c,ic];by_cases d:ts[k].1=p
   ·rw[if_pos (by simp[d])];exact⟨_,rfl,.inl ⟨by omega,_,by simpa using c,d⟩⟩
   ·rw[if_neg (by simp;intro e f;exact d (zAU e f))];exact⟨_,rfl,.inr ⟨rfl,zti hs h g λx a=>by rw[c]at a;injection a with a;subst a;exact d⟩⟩
  ·rw[if_neg so];refine⟨_,rfl,.inr ⟨rfl,zti hs h g λx a=>by have:=zA a;omega⟩⟩
 ·intro lo hi x b l c;unfold zeO;have e:w64 ((lo:Int)+(hi:Int))=((lo+hi:Nat):Int):=by rw[zu om om];omega
  have f:Int.tdiv ((lo+hi:Nat):Int) 2=(((lo+hi) / 2:Nat):Int):=rfl;have i:w64 (((lo+hi) / 2:Nat):Int)=(((lo+hi) / 2:Nat):Int):=zu om om;have j:w64 ((((lo+hi) / 2:Nat):Int)+1)=(((lo+hi) / 2+1:Nat):Int):=by rw[zu om om];omega
  rw[if_pos (by simp[b])];simp only[e,f,i,j,zq c,ic,zka];cases lp x.1 p<;>rfl
 ·intro lo;unfold zeO;rw[if_neg si]
def zwy{ts:List Plc}(hs:Srt ts)(hl:ts.length<=1048576)(p:Pt):∃k,zdt ts p=some k/\AtP ts p k:=by
 have g:∀x:Plc,z8 x p=some (zxW x.1 p):=λx=>by unfold z8;rw[zuP];rfl
 have key:=zyG hs hl (p:=p) (F:=zK ts p λq0 n=>z8 q0 n) ?_ ?_
 ·obtain⟨k,r,s,f,e⟩:=key;unfold zdt zab zau;simp only[r,ic];by_cases b:k<ts.length
  ·have c:ts[k]?=some ts[k]:=cz b;rw[if_pos (by simp[b])];simp only[zq c,ic,g];by_cases d:ts[k].1=p
   ·rw[if_pos (by simp[zqs,d])];exact⟨_,rfl,.inl ⟨by omega,_,by simpa using c,d⟩⟩
   ·rw[if_neg (by simp[zqs,d])];exact⟨_,rfl,.inr ⟨rfl,zti hs f e λx a=>by rw[c]at a;injection a with a;subst a;exact d⟩⟩
  ·rw[if_neg so];refine⟨_,rfl,.inr ⟨rfl,zti hs f e λx a=>by have:=zA a;omega⟩⟩
 ·intro lo hi x b m c;unfold zK;have i:w64 ((lo:Int)+(hi:Int))=((lo+hi:Nat):Int):=by rw[zu om om];omega
  have h:IntKind.wrap .u64 ((lo+hi:Nat):Int)=((lo+hi:Nat):Int):=by
   show((lo+hi:Nat):Int) % 18446744073709551616=((lo+hi:Nat):Int);omega
  have q:Int.fdiv ((lo+hi:Nat):Int) (2 ^ 1)=(((lo+hi) / 2:Nat):Int):=by
   rw[Int.fdiv_eq_ediv_of_nonneg _ om];omega
  have j:w64 (((lo+hi) / 2:Nat):Int)=(((lo+hi) / 2:Nat):Int):=zu om om;have l:w64 ((((lo+hi) / 2:Nat):Int)+1)=(((lo+hi) / 2+1:Nat):Int):=by rw[zu om om];omega
  rw[if_pos (by simp[b])];simp only[i,h,q,j,l,zq c,ic,g,zsx];cases lp x.1 p<;>rfl
 ·intro lo;unfold zK;rw[if_neg si]
def zqU(p:Pt)(dir:Int):Pt:=if dir=0 then(p.1,p.2+1)else(p.1+1,p.2)
def zBX{p:Pt}(hp:ptB p=true){dir:Int}(hd:dir=0\/dir=1):zad p dir=some (zqU p dir)/\zQ p dir=some (zqU p dir):=by
 obtain⟨c,d,f,e⟩:=zyV.1 hp;have w0:∀n:Int,-60<=n->n<=60->w64 (n+1)=n+1/\w64 (n+0)=n:=λn a b=>⟨zu om om,by rw[Int.add_zero];exact zu om om⟩;rcases hd with rfl | rfl
 ·refine⟨?_,?_⟩
  ·unfold zad zae zqU;simp[(w0 p.2 f e).1]
  ·unfold zQ zbo zqU idx;simp[(w0 p.2 f e).1,zu (n:=p.1) om om]
 ·refine⟨?_,?_⟩
  ·unfold zad zae zqU;simp[(w0 p.1 c d).1]
  ·unfold zQ zbo zqU idx;simp[(w0 p.1 c d).1,zu (n:=p.2) om om]
def zCE{set:TSet}(h:SetOk set){a b dir:Int}(ha0:0<=a)(ha:a<=(set.2.length:Int) - 1)(hb0:0<=b)(hb:b<=(set.2.length:Int) - 1)(hd:dir=0\/dir=1):
  ∃v,zdV set a dir b=some v/\zaB set a dir b=some v/\0<=v/\v<=4:=by
 obtain⟨x,t,f⟩:=zR (l:=set.2) ha0 om;obtain⟨y,B,d⟩:=zR (l:=set.2) hb0 om;obtain⟨_,G,_,xs⟩:=h.tile _ (zA f) x f;obtain⟨_,L,_,M⟩:=h.tile _ (zA d) y d;obtain⟨g,s,q⟩:=zR (l:=x.2) (i:=dir) om om;obtain⟨z,m,w⟩:=zR (l:=y.2) (i:=dir+2) om om;have C:=xs g (fo q);have c:zf1 dir=some (dir+2)/\zh4 dir=some (dir+2):=by
  rcases hd with rfl | rfl
  ·exact⟨rfl,rfl⟩
  ·exact⟨rfl,rfl⟩
 have n:∃v,zat set g=some v/\zaD set a dir=some v/\0<=v/\v<=4:=by
  unfold zat zaD;simp only[t,s,ic];have J:=h.glues;by_cases r:g=0
  ·subst r;exact⟨0,rfl,rfl,by omega,by omega⟩
  ·rw[if_neg (by simpa using r),if_pos so];have A:w64 (g - 1)=g - 1:=zu om om;obtain⟨u,D,e⟩:=zR (l:=set.1) (i:=g - 1) om om;obtain⟨_,I,H,_⟩:=h.glue _ (zA e) u e;simp only[A,D,ic];exact⟨_,rfl,rfl,by omega,by omega⟩
 obtain⟨v,k,p,F,E⟩:=n;unfold zdV zaB;simp only[t,B,s,c.1,c.2,m,k,p,ic];by_cases j:g=z
 ·rw[if_neg (by simp[j]),if_pos (by simp[j])];exact⟨v,rfl,rfl,F,E⟩
 ·rw[if_pos (by simp[j]),if_neg (by simp[j])];exact⟨0,rfl,rfl,by omega,by omega⟩
section
variable {set:TSet} {ts:List Plc}
def zCO(hS:SetOk set)(hA:AsmOk set ts){i:Nat}{x:Plc}(hx:ts[i]?=some x){dir:Int}(hd:dir=0\/dir=1):
  ∃nb:List Bd,nb.length<=1/\(∀b∈nb,WB ts.length b)/\
   (∀(l a:List Bd),a.length<=1048576->zbz set ts (l,(i:Int)) (a,dir)=some (.inl (a++nb,w64 (dir - 1))))/\
   (∀(l a:List Bd),a.length<=1048576->∀j,idx [1,0] j=some dir->0<=j->j<2->zN (λs q0 M=>zW set ts s (q0,M)) ts ((i:Int),l) x (j,a)=some (.inl (w64 (j+1),a++nb))):=by
 have d:=hA.1.srt;have S:ts.length<=500:=hA.1.1;have hi:=zA hx;obtain⟨E,P,x1,_⟩:=hA.1.2 i hi x hx;obtain⟨p,h⟩:=zBX E hd;obtain⟨k,I,m⟩:=zum d om (zqU x.1 dir);obtain⟨R,q,t⟩:=zwy d om (zqU x.1 dir);obtain rfl:=m.uniq d t;have u:decide (dir≥0)=true:=by simp;omega
 have n:=hA.2 x (fo hx);rcases m with⟨z,y,g,w⟩ |⟨z,_⟩
 ·have r:=hA.2 y (fo g);obtain⟨v,N,B,O,Q⟩:=zCE hS n.1 n.2 r.1 r.2 hd;have D:(i:Int)≠k:=λe=>by
   subst e;simp only[bg]at g;rw[hx]at g;injection g with g;subst g
   rcases hd with e | e
   ·have C:=congrArg Prod.snd w;rw[e]at C;have J:(zqU x.1 0).2=x.1.2+1:=rfl;omega
   ·have C:=congrArg Prod.fst w;rw[e]at C;have J:(zqU x.1 1).1=x.1.1+1:=rfl;omega
  have L:=zA g;refine⟨if v>0 then[((i:Int),k,v)]else[],by split<;>simp,?_,?_,?_⟩
  ·intro b A;split at A
   ·rw[fq]at A;subst A;exact⟨by simp only[];omega,by simp only[];omega,z,by simp only[];omega,D,O,by simp only[];omega⟩
   ·cases A
  ·intro l a f;unfold zbz zg9 zc1;rw[if_pos u];simp only[zq hx,p,I,ic];rw[if_neg so];simp only[zgX z g,N,ic];by_cases c:v>0
   ·rw[if_pos (by simpa using c),if_pos c,zai so so];rfl
   ·rw[if_neg (by simpa using c),if_neg c,bp]
  ·intro l a f j G F H;unfold zN zaj zW;rw[if_pos so];simp only[G,h,q,ic];rw[if_pos so];simp only[zq hx,zgX z g,B,ic];by_cases c:v>0
   ·rw[if_pos (by simpa using c),if_pos c,zai so so];rfl
   ·rw[if_neg (by simpa using c),if_neg c,bp];rfl
 ·refine⟨[],by simp,by simp,?_,?_⟩
  ·intro l a f;unfold zbz zg9 zc1;rw[if_pos u];simp only[zq hx,p,I,ic];rw[if_pos so,bp]
  ·intro l a f j G F H;unfold zN zaj;rw[if_pos so];simp only[G,h,q,ic];rw[if_neg so,bp]
def zDr(hS:SetOk set)(hA:AsmOk set ts){i:Nat}{x:Plc}(hx:ts[i]?=some x):
  ∃nb:List Bd,nb.length<=2/\(∀b∈nb,WB ts.length b)/\
   (∀(a:List Bd),a.length<=90000->iter (zbz set ts (a,(i:Int))) (a,1)=some (a++nb))/\
   (∀(a:List Bd),a.length<=90000->iter (zN (λs q0 k=>zW set ts s (q0,k)) ts ((i:Int),a) x) (0,a)=some (a++nb)):=by
 obtain⟨e,r,h,n,d1⟩:=zCO hS hA hx (dir:=1) (.inr rfl);obtain⟨p,q,j,m,g⟩:=zCO hS hA hx (dir:=0) (.inl rfl);refine⟨e++p,by simp;omega,λb l=>(fe.1 l).elim (h b) (j b),λa c=>?_,λa c=>?_⟩
 ·rw[zv (n a a om)];have d:w64 ((1:Int) - 1)=0:=by decide
  rw[d,zv (m a (a++e) so)];have f:w64 ((0:Int) - 1) = -1:=by decide
  rw[f,bl];apply zC;unfold zbz;rw[if_neg si]
 ·rw[zv (d1 a a om 0 rfl om om)];have d:w64 ((0:Int)+1)=1:=by decide
  rw[d,zv (g a (a++e) so 1 rfl om om)];have f:w64 ((1:Int)+1)=2:=by decide
  rw[f,bl];apply zC;unfold zN;rw[if_neg si]
def zu8(hS:SetOk set)(hA:AsmOk set ts):∃bs:List Bd,zaP set ts=some bs/\zen set ts=some bs/\WBs ts.length bs/\bs.length<=1000:=by
 have w:ts.length<=500:=hA.1.1;have key:∀(d i:Nat)(a:List Bd),i+d=ts.length->a.length<=2*i->(∀b∈a,WB ts.length b)->
   ∃bs:List Bd,iter (zbA set ts) (a,(i:Int))=some bs/\iter (zO (λs q0 g=>zW set ts s (q0,g)) ts) ((i:Int),a)=some bs/\(∀b∈bs,WB ts.length b)/\bs.length<=2*ts.length:=by
  intro d
  induction d with
  | zero=>
   intro i a hi c k;have:i=ts.length:=by omega
   subst this;refine⟨a,zC ?_,zC ?_,k,c⟩
   ·unfold zbA;rw[if_neg si]
   ·unfold zO;rw[if_neg si]
  | succ d ih=>
   intro i a hi c k;have e:i<ts.length:=by omega
   have l:ts[i]?=some ts[i]:=cz e;obtain⟨nb,x,u,n,p⟩:=zDr hS hA l;have f:w64 ((i:Int)+1)=((i+1:Nat):Int):=by rw[zu om om];omega
   have r:zbA set ts (a,(i:Int))=some (.inl (a++nb,((i+1:Nat):Int))):=by
    unfold zbA zkd;rw[if_pos (by simp[e])];simp only[n a om,ic,f]
   have q:zO (λs q0 g=>zW set ts s (q0,g)) ts ((i:Int),a)=some (.inl (((i+1:Nat):Int),a++nb)):=by
    unfold zO zb4;rw[if_pos (by simp[e])];simp only[zq l,p a om,ic,f]
   rw[zv r,zv q];exact ih (i+1) (a++nb) om so λb m=>(fe.1 m).elim (k b) (u b)
 obtain⟨bs,j,h,t,v⟩:=key ts.length 0 [] om si si;refine⟨bs,?_,?_,zqh.2 t,by omega⟩
 ·unfold zaP zfa zdl zb5;have h:iter (zO (λs q0 g=>zW set ts s (q0,g)) ts) (0,[])=some bs:=h;simp only[ic,h]
 ·unfold zen zke;have j:iter (zbA set ts) ([],0)=some bs:=j;simp only[ic,j]
def zpv(hT:Tame set)(h:ts.length<=1048576)(t:Int):∃b,zaw (set,ts,t)=some b/\zfi (set,ts,t)=some b/\(b=true->SetOk set/\AsmOk set ts):=by
 obtain⟨a,D,q,p⟩:=zpw set hT;obtain⟨va,s,n⟩:=znD set hT ts om;obtain⟨k,A,m⟩:=zw9 set hT ts om;unfold zaw zfi zfV zn5;simp only[q,s,A,ic];by_cases g:(ts.length:Int)=0
 ·rw[if_pos (by simpa using g)];refine⟨false,rfl,?_,λh=>by cases h⟩;cases a<;>cases k<;>simp[g]
 rw[if_neg (by simpa using g)];cases hva:va with
 | false=>
  subst hva;refine⟨false,rfl,?_,λh=>by cases h⟩;cases l:a with
  | false=>rfl
  | true=>
   cases f:k with
   | false=>rfl
   | true=>
    have:=n.2 ⟨p.1 l,m.1 f⟩;cases this
 | true=>
  obtain⟨hS,hA⟩:=n.1 hva;have l:a=true:=p.2 hS;have f:k=true:=m.2 hA;subst l;subst f;have c:zft t=some (decide (1<=t/\t<=16))/\zeu t=some (decide (1<=t/\t<=16)):=by
   constructor
   ·unfold zft;rw[zbe];rfl
   ·unfold zeu;rw[zdh];rfl
  simp only[c.1,c.2,ic];by_cases j:1<=t/\t<=16
  ·obtain⟨bs,v,r,C,E⟩:=zu8 hS hA;obtain⟨x,y,z,w,B,u,d⟩:=zzn (p0:=set) (p1:=ts) om (by have:=hA.1.1;omega) (by omega:bs.length<=100000) C v r t;simp only[j,decide_true,B,u,ic];have i:ts≠[]:=λe=>g (by rw[e];rfl);cases y with
   | true=>
    simp only[bb,az,if_false]at d ⊢;injection d with d e4
    subst d;subst e4;cases x with
    | true=>exact⟨true,by simp,by simp[i],λ_=>⟨hS,hA⟩⟩
    | false=>exact⟨false,by simp,by simp,λh=>by cases h⟩
   | false=>
    simp only[Bool.not_false,if_true]at d ⊢;injection d with d e4
    subst d;subst e4;exact⟨false,by simp,by simp,λh=>by cases h⟩
  ·refine⟨false,?_,?_,λh=>by cases h⟩
   ·simp[j]
   ·simp[j,g]
end
end Go.Lf
namespace Go.Lf
open Go Go.Proofs Go.Sort
def PW(ts:List Plc):Prop:=ts.Pairwise λa b=>lp a.1 b.1=true
def PW.srt{ts:List Plc}(h:PW ts):Srt ts:=by
 intro i j x y c b a;have hi:=zA b;have d:=zA a;have:=fx.1 h i j hi d c;rw[cz hi]at b;rw[cz d]at a;injection b with b
 injection a with a
 rw[←b,←a];exact this
def ins(x:Plc):List Plc->List Plc
 |[]=>[x]
 | y::l=>if lp x.1 y.1=true then x::y::l else y::ins x l
def zsi(x:Plc):∀l,(ins x l).Perm (l++[x])
 |[]=>.refl _
 | y::l=>by
  unfold ins;split
  ·exact(List.perm_append_singleton x (y::l)).symm
  ·exact(zsi x l).cons y
def zy5{x z:Plc}{l:List Plc}(h:z∈ins x l):z=x\/z∈l:=by
 have:=(zsi x l).mem_iff.1 h;rcases fe.1 this with h | h
 ·exact .inr h
 ·exact .inl (fq.1 h)
def zBj{x:Plc}:∀{l:List Plc},PW l->(∀y∈l,y.1≠x.1)->PW (ins x l)
 |[],_,_=>List.pairwise_singleton _ _
 | y::l,h,hne=>by
  have c:=(fv.1 h).1;have d:=(fv.1 h).2;unfold ins;split
  ·rename_i hl;exact fv.2 ⟨λz a=>by
    rcases fh.1 a with rfl | a
    ·exact hl
    ·exact zpX hl (c z a),h⟩
  ·rename_i hl;have b:lp y.1 x.1=true:=zxC (by simpa using hl) (λe=>hne y si e.symm);exact fv.2 ⟨λz a=>by
    rcases zy5 a with rfl | a
    ·exact b
    ·exact c z a,zBj d λz a=>hne z (by simp[a])⟩
def zw3(ts:List Plc)(hl:ts.length<=100000)(p:Pt)(k:Int):zkY ts p k=some (ins (p,k) ts):=by
 have rest:∀(d i:Nat)(out:List Plc),i+d=ts.length->out.length<=i+1->iter (zaf ts p k) (true,(i:Int),out)=some (true,out++ts.drop i):=by
  intro d
  induction d with
  | zero=>
   intro i out hi j;have:i=ts.length:=by omega
   subst this;apply zC;unfold zaf;rw[if_neg si,List.drop_length,bp]
  | succ d ih=>
   intro i out hi j;have c:i<ts.length:=by omega
   have h:ts[i]?=some ts[i]:=cz c;have g:w64 ((i:Int)+1)=((i+1:Nat):Int):=by rw[zu om om];omega
   have a:zaf ts p k (true,(i:Int),out)=some (.inl (true,((i+1:Nat):Int),out++[ts[i]])):=by
    unfold zaf zeM zeN;rw[if_pos (by simp[c]),if_neg si,if_neg si];simp only[zq h,ic,zai (bytes:=24) (l:=out) (l2:=[ts[i]]) so so,g]
   rw[zv a,ih (i+1) _ om so,br c];simp
 have f:∀(d i:Nat)(out:List Plc),i+d=ts.length->out.length<=i->∃b o,iter (zaf ts p k) (false,(i:Int),out)=some (b,o)/\zgz p k b o=some (out++ins (p,k) (ts.drop i)):=by
  intro d
  induction d with
  | zero=>
   intro i out hi j;have:i=ts.length:=by omega
   subst this;refine⟨false,out,zC ?_,?_⟩
   ·unfold zaf;rw[if_neg si]
   ·unfold zgz zgy;rw[if_pos si,List.drop_length,zai so so];rfl
  | succ d ih=>
   intro i out hi j;have c:i<ts.length:=by omega
   have h:ts[i]?=some ts[i]:=cz c;have g:w64 ((i:Int)+1)=((i+1:Nat):Int):=by rw[zu om om];omega
   have hd:=br c;cases hc:lp p ts[i].1 with
   | true=>
    have a:zaf ts p k (false,(i:Int),out)=some (.inl (true,((i+1:Nat):Int),out++[(p,k)]++[ts[i]])):=by
     unfold zaf zeM zeN;rw[if_pos (by simp[c]),if_pos si];simp only[zq h,ic,zka,hc,if_true,zai (bytes:=24) (l:=out) (l2:=[(p,k)]) so so,
      zai (bytes:=24) (l:=out++[(p,k)]) (l2:=[ts[i]]) so so,g]
    refine⟨true,_,(zv a).trans (rest d (i+1) _ om so),?_⟩;unfold zgz zgy;rw[if_neg si,hd,ins,if_pos hc];simp
   | false=>
    have a:zaf ts p k (false,(i:Int),out)=some (.inl (false,((i+1:Nat):Int),out++[ts[i]])):=by
     unfold zaf zeM zeN;rw[if_pos (by simp[c]),if_pos si];simp only[zq h,ic,zka,hc,zai (bytes:=24) (l:=out) (l2:=[ts[i]]) so so,g];rfl
    obtain⟨b,o,e,m⟩:=ih (i+1) (out++[ts[i]]) om so;refine⟨b,o,(zv a).trans e,?_⟩;rw[m,hd,ins,if_neg (by simp[hc])];simp
 obtain⟨b,o,e,m⟩:=f ts.length 0 [] om si;have e:iter (zaf ts p k) (false,0,[])=some (b,o):=e;unfold zkY;simp only[e,ic,m];simp
def zyI{pl ts:List Plc}(hl:pl.length<=1048576)(hp:ts.Perm pl)(hs:PW ts):zaK pl=some ts:=by
 unfold zaK;rw[if_pos om];congr 1;have t:(λx y:Plc=>decide (zbk x y<0))=ltOf zbk:=rfl;have h:=pdq_sorts (ltOf zbk) zBU pl.toArray 0 pl.length (Lib.bitLen pl.length) true true (Nat.zero_le _) si (Or.inl rfl);obtain⟨r,B⟩:∃r:Array Plc,r=pdq (ltOf zbk) pl.toArray 0 pl.length (Lib.bitLen pl.length) true true:=⟨_,rfl⟩;show(pdq (ltOf zbk) pl.toArray 0 pl.length (Lib.bitLen pl.length) true true).toList=ts;rw[←B]at h ⊢;obtain⟨⟨m,_,q⟩,v⟩:=h;have m:r.size=pl.length:=by simpa using m
 have c:r.toList.Perm pl:=by
  have C:(r.extract 0 pl.length).toList=r.toList:=by rw[←m];simp
  have A:(pl.toArray.extract 0 pl.length).toList=pl:=by simp
  rw[C,A]at q;exact q
 have g:∀a b:Plc,ltOf zbk a b=lp a.1 b.1:=by
  intro a b;have:=zsx (a:=a.1) (b:=b.1);exact this
 refine List.Perm.eq_of_pairwise (le:=λa b=>lp b.1 a.1=false) ?_ ?_ ?_ (c.trans hp.symm)
 ·intro a b D u w s;have d:a.1=b.1:=Classical.byContradiction λe=>by
   have:=zxC w (λz=>e z.symm);rw[this]at s;cases s
  have p:a∈ts:=hp.mem_iff.2 (c.mem_iff.1 D);obtain⟨i,hi⟩:=dj p;obtain⟨j,f⟩:=dj u;have hs':=hs.srt;rcases gv i j with h | h | h
  ·exact absurd d (zr5 (hs' i j a b h hi f))
  ·subst h;rw[hi]at f;injection f
  ·exact absurd d.symm (zr5 (hs' j i b a h f hi))
 ·rw[fx];intro i j hi f k;have l:i<r.size:=by simpa using hi
  have n:j<r.size:=by simpa using f
  have:=v i j om k om;rw[g,getElem!_pos r i l,getElem!_pos r j n]at this;simpa using this
 ·refine hs.imp λ{a b} d=>?_;cases h:lp b.1 a.1 with
  | false=>rfl
  | true=>exact absurd rfl (zr5 (zpX d h))
end Go.Lf
namespace Go.Lf
open Go
def AtV(l:List Plc)(p:Pt)(v:Int):Prop:=(∃k,v=k/\(p,k)∈l)\/(v = -1/\∀x∈l,x.1≠p)
def zqt(T:List Plc)(p:Pt):AtV T p (cat T p):=by
 unfold cat zhK zdw;cases h:T.find? (λq=>decide (q.1=p))with
 | none=>
  have a:=List.find?_eq_none.1 h;rw[if_neg (by
   rw[bj];rintro⟨x,b,hd⟩;exact a x b hd)]
  exact .inr ⟨rfl,λx b e=>a x b (by simpa using e)⟩
 | some x=>
  have a:=fm h;have c:x.1=p:=by simpa using List.find?_some h
  rw[if_pos (bj.2 ⟨x,a,by simpa using c⟩)];refine .inl ⟨x.2,rfl,?_⟩;rw[←c];exact a
def AtV.perm{l l':List Plc}(h:l.Perm l'){p:Pt}{v:Int}(hv:AtV l p v):AtV l' p v:=by
 rcases hv with⟨k,e,a⟩ |⟨e,hn⟩
 ·exact .inl ⟨k,e,h.mem_iff.1 a⟩
 ·exact .inr ⟨e,λx b=>hn x (h.mem_iff.2 b)⟩
def zDe{l:List Plc}(h:PW l){p:Pt}{a b:Int}(ha:(p,a)∈l)(hb:(p,b)∈l):a=b:=by
 obtain⟨i,hi⟩:=dj ha;obtain⟨j,c⟩:=dj hb;have hs:=h.srt;rcases gv i j with h1 | h1 | h1
 ·exact absurd (rfl:(p,a).1=(p,b).1) (zr5 (hs i j (p,a) (p,b) h1 hi c))
 ·subst h1;rw[hi]at c;injection c with c;injection c
 ·exact absurd (rfl:(p,b).1=(p,a).1) (zr5 (hs j i (p,b) (p,a) h1 c hi))
def AtV.uniq{l:List Plc}(h:PW l){p:Pt}{v v':Int}(h1:AtV l p v)(h2:AtV l p v'):v=v':=by
 rcases h1 with⟨k,e,c⟩ |⟨e,hn⟩<;>rcases h2 with⟨d,b,a⟩ |⟨b,hn'⟩
 ·rw[e,b];exact zDe h c a
 ·exact absurd rfl (hn' _ c)
 ·exact absurd rfl (hn _ a)
 ·rw[e,b]
def zAA{ts:List Plc}(h:PW ts)(hl:ts.length<=1000)(hn:∀x∈ts,0<=x.2)(p:Pt):
  ∃k,zaZ ts p=some k/\∃v,zdd ts p=some v/\AtV ts p v/\(k<0↔v<0):=by
 obtain⟨k,a,c⟩:=zum h.srt om p;refine⟨k,a,?_⟩;unfold zdd;rw[a];simp only[ic];rcases c with⟨d,x,b,rfl⟩ |⟨rfl,hall⟩
 ·have hi:idx ts k=some x:=by unfold idx;rw[if_pos d];exact b
  have hm:=fo b;have:=hn x hm;rw[if_neg so,hi];exact⟨x.2,rfl,.inl ⟨x.2,rfl,hm⟩,by omega⟩
 ·exact⟨-1,by simp,.inr ⟨rfl,hall⟩,by omega⟩
def zBZ{T ts:List Plc}(hp:T.Perm ts)(h:PW ts)(hl:ts.length<=1000)(hn:∀x∈ts,0<=x.2)(p:Pt):
  zdd ts p=some (cat T p)/\∃k,zaZ ts p=some k/\(k<0↔cat T p<0):=by
 obtain⟨k,d,v,b,c,a⟩:=zAA h hl hn p;have e:v=cat T p:=c.uniq h ((zqt T p).perm hp);subst e;exact⟨b,k,d,a⟩
def zD(p:Pt)(d:Int):Pt:=if d=0 then(p.1,p.2+1)else if d=1 then(p.1+1,p.2)else if d=2 then(p.1,p.2 - 1)else(p.1 - 1,p.2)
def Dir(d:Int):Prop:=d=0\/d=1\/d=2\/d=3
def zgs{p:Pt}(hp:ptB p=true){d:Int}(hd:Dir d):zad p d=some (zD p d)/\zQ p d=some (zD p d):=by
 obtain⟨g,e,h,f⟩:=zyV.1 hp;have c:∀n:Int,-1000<=n->n<=1000->w64 n=n:=λn a b=>zu om om;rcases hd with rfl | rfl | rfl | rfl
 ·refine⟨?_,?_⟩
  ·unfold zad zae zD;simp[c (p.2+1) om om]
  ·unfold zQ zbo zD idx;simp[c (p.2+1) om om,c p.1 om om]
 ·refine⟨?_,?_⟩
  ·unfold zad zae zD;simp[c (p.1+1) om om]
  ·unfold zQ zbo zD idx;simp[c (p.1+1) om om,c p.2 om om]
 ·refine⟨?_,?_⟩
  ·unfold zad zae zD;simp[c (p.2 - 1) om om]
  ·unfold zQ zbo zD idx;simp[c (p.2 + -1) om om,c p.1 om om];omega
 ·refine⟨?_,?_⟩
  ·unfold zad zae zD;simp[c (p.1 - 1) om om]
  ·unfold zQ zbo zD idx;simp[c (p.1 + -1) om om,c p.2 om om];omega
def zmF(d:Int):Int:=if d=0 then 2 else if d=1 then 3 else if d=2 then 0 else 1
def zwm{d:Int}(hd:Dir d):zf1 d=some (zmF d)/\zh4 d=some (zmF d)/\0<=zmF d/\zmF d<4:=by
 rcases hd with rfl | rfl | rfl | rfl<;>exact⟨rfl,rfl,by decide,by decide⟩
section
variable {set:TSet} (hS:SetOk set)
def TileIx(set:TSet)(k:Int):Prop:=0<=k/\k<=(set.2.length:Int) - 1
instance{set:TSet}{k:Int}:Decidable (TileIx set k):=inferInstanceAs (Decidable (_/\_))
def zk3(set:TSet)(k d:Int):Int:=(((set.2[k.toNat]?).getD ([],[])).2[d.toNat]?).getD 0
def zzl(set:TSet)(g:Int):Int:=if g=0 then 0 else((set.1[(g - 1).toNat]?).getD ([],0)).2
def zrR(hS:SetOk set){k d:Int}(hk:TileIx set k)(hd:Dir d):∃x,idx set.2 k=some x/\x.2.length=4/\idx x.2 d=some (zk3 set k d)/\0<=zk3 set k d/\zk3 set k d<=(set.1.length:Int):=by
 obtain⟨x,j,a⟩:=zR (l:=set.2) hk.1 (by have:=hk.2;omega);obtain⟨_,f,_,xs⟩:=hS.tile _ (zA a) x a;have c:0<=d/\d<4:=by rcases hd with rfl | rfl | rfl | rfl<;>decide
 obtain⟨g,h,b⟩:=zR (l:=x.2) (i:=d) om om;have e:zk3 set k d=g:=by unfold zk3;rw[a];simp[b]
 rw[e];exact⟨x,j,f,h,xs g (fo b)⟩
def zAw(hS:SetOk set){g:Int}(h0:0<=g)(h1:g<=(set.1.length:Int)):zat set g=some (zzl set g)/\0<=zzl set g/\zzl set g<=4:=by
 have e:=hS.glues;unfold zat zzl;by_cases b:g=0
 ·simp[b]
 ·rw[if_neg (by simpa using b),if_neg b];have c:w64 (g - 1)=g - 1:=zu om om;obtain⟨u,d,a⟩:=zR (l:=set.1) (i:=g - 1) om om;obtain⟨_,h,f,_⟩:=hS.glue _ (zA a) u a;rw[c,d,a];exact⟨rfl,by simp;omega,by simp;omega⟩
def zsz(set:TSet)(a d b:Int):Int:=if zk3 set a d=zk3 set b (zmF d)then zzl set (zk3 set a d)else 0
def zsu{d:Int}(hd:Dir d):Dir (zmF d):=by rcases hd with rfl | rfl | rfl | rfl<;>unfold Dir zmF<;>simp
def zqg(hS:SetOk set){a b d:Int}(ha:TileIx set a)(hb:TileIx set b)(hd:Dir d):zdV set a d b=some (zsz set a d b)/\zaB set a d b=some (zsz set a d b)/\0<=zsz set a d b/\zsz set a d b<=4:=by
 obtain⟨x,i,r,h,p,k⟩:=zrR hS ha hd;obtain⟨y,l,s,f,_,_⟩:=zrR hS hb (zsu hd);obtain⟨o1,o2,_⟩:=zwm hd;obtain⟨c,m,j⟩:=zAw hS p k;have n:zaD set a d=some (zzl set (zk3 set a d)):=by
  have q:=hS.glues;unfold zaD;rw[i];simp only[ic,h];unfold zat at c;by_cases g:zk3 set a d=0
  ·rw[if_neg so,g];rfl
  ·rw[if_neg (by simpa using g)]at c;rw[if_pos so];exact c
 unfold zdV zaB zsz;simp only[i,l,h,f,o1,o2,c,n,ic];by_cases e:zk3 set a d=zk3 set b (zmF d)
 ·simp only[e,decide_true,bb,az,if_false,if_true];rw[←e];exact⟨trivial,trivial,m,j⟩
 ·simp[e]
def bdQ(set:TSet)(f:Pt->Int)(p:Pt)(k d:Int):Int:=if f (zD p d)≥0 then zsz set k d (f (zD p d))else 0
def zqf(set:TSet)(f:Pt->Int)(p:Pt)(k:Int):Int:=bdQ set f p k 0+bdQ set f p k 1+bdQ set f p k 2+bdQ set f p k 3
def FOk(set:TSet)(f:Pt->Int):Prop:=∀p,f p<0\/TileIx set (f p)
def zm2(hS:SetOk set){f:Pt->Int}(hf:FOk set f)(p:Pt){k d:Int}(hk:TileIx set k)(hd:Dir d):0<=bdQ set f p k d/\bdQ set f p k d<=4:=by
 unfold bdQ;split
 ·rename_i h;rcases hf (zD p d)with h1 | h1
  ·omega
  ·exact(zqg hS hk h1 hd).2.2
 ·omega
def zv5{F:Int×Int->Option ((Int×Int) ⊕ Int)}{b:Int->Int}(hb:∀d,Dir d->0<=b d/\b d<=1000)(h:∀s d,Dir d->0<=s->s<=4000->F (s,d)=some (.inl (s+b d,d+1)))(he:∀s,F (s,4)=some (.inr s)):iter F (0,0)=some (b 0+b 1+b 2+b 3):=by
 have j:=hb 0 (.inl rfl);have i:=hb 1 (.inr (.inl rfl));have g:=hb 2 (.inr (.inr (.inl rfl)));have k:=hb 3 (.inr (.inr (.inr rfl)));have a:F (0,0)=some (.inl (b 0,1)):=by have:=h 0 0 (.inl rfl) om om;simpa using this
 have c:F (b 0,1)=some (.inl (b 0+b 1,2)):=h _ 1 (.inr (.inl rfl)) om om;have f:F (b 0+b 1,2)=some (.inl (b 0+b 1+b 2,3)):=h _ 2 (.inr (.inr (.inl rfl))) om om;have e:F (b 0+b 1+b 2,3)=some (.inl (b 0+b 1+b 2+b 3,4)):=h _ 3 (.inr (.inr (.inr rfl))) om om;rw[zv a,zv c,zv f,zv e,zC (he _)]
def zpl{d:Int}(hd:Dir d):d<4/\0<=d/\w64 (d+1)=d+1:=by
 rcases hd with rfl | rfl | rfl | rfl<;>decide
def zsl(hS:SetOk set){f:Pt->Int}(hf:FOk set f){g:Pt->Option Int}{p:Pt}(hp:ptB p=true)(hg:∀d,Dir d->g (zD p d)=some (f (zD p d))){k:Int}(hk:TileIx set k):zb1 set p k g=some (zqf set f p k):=by
 unfold zb1;rw[zv5 (b:=bdQ set f p k) (λd hd=>by have:=zm2 hS hf p hk hd;omega) (λs d hd m c=>?_) (λs=>?_)]
 ·rfl
 ·obtain⟨l,_,i⟩:=zpl hd;have j:=zm2 hS hf p hk hd;unfold zch zci;rw[if_pos (by simpa using l),(zgs hp hd).2];simp only[ic,hg d hd];unfold bdQ at j ⊢;by_cases h:f (zD p d)≥0
  ·have e:=hf (zD p d);have a:TileIx set (f (zD p d)):=by rcases e with c | c;omega;exact c
   rw[if_pos h]at j ⊢;rw[if_pos (by simpa using h),(zqg hS hk a hd).2.1];simp only[ic,i];rw[zu om om]
  ·rw[if_neg h,if_neg (by simpa using h),i,Int.add_zero]
 ·unfold zch;rw[if_neg si]
def zrK(hS:SetOk set){f:Pt->Int}(hf:FOk set f){ts:List Plc}{p:Pt}(hp:ptB p=true)(hg:∀d,Dir d->zdd ts (zD p d)=some (f (zD p d))){k:Int}(hk:TileIx set k):zfD set ts p k=some (zqf set f p k):=by
 unfold zfD;rw[zv5 (b:=bdQ set f p k) (λd hd=>by have:=zm2 hS hf p hk hd;omega) (λs d hd l c=>?_) (λs=>?_)]
 ·rfl
 ·obtain⟨j,_,g⟩:=zpl hd;have i:=zm2 hS hf p hk hd;unfold zfk zfl;rw[if_pos (by simpa using j),(zgs hp hd).1];simp only[ic,hg d hd];unfold bdQ at i ⊢;by_cases h:f (zD p d)≥0
  ·have e:=hf (zD p d);have a:TileIx set (f (zD p d)):=by rcases e with c | c;omega;exact c
   rw[if_pos h]at i ⊢;rw[if_pos (by simpa using h),(zqg hS hk a hd).1];simp only[ic,g];rw[zu om om]
  ·rw[if_neg h,if_neg (by simpa using h),g,Int.add_zero]
 ·unfold zfk;rw[if_neg si]
end
structure Cr(set:TSet)(T ts:List Plc):Prop where
 perm:T.Perm ts
 pw:PW ts
 ok:∀x∈ts,ptB x.1=true/\TileIx set x.2
 len:ts.length<=500
section
variable {set:TSet} {T ts:List Plc}
def Cr.fok(h:Cr set T ts):FOk set (cat T):=λp=>by
 rcases(zqt T p).perm h.perm with⟨k,e,a⟩ |⟨e,_⟩
 ·rw[e];exact .inr (h.ok _ a).2
 ·rw[e];exact .inl om
def Cr.at(h:Cr set T ts)(p:Pt):zdd ts p=some (cat T p)/\∃k,zaZ ts p=some k/\(k<0↔cat T p<0):=
 zBZ h.perm h.pw (by have:=h.len;omega) (λx a=>(h.ok x a).2.1) p
def Cr.free(h:Cr set T ts){p:Pt}:cat T p<0↔∀x∈ts,x.1≠p:=by
 rcases(zqt T p).perm h.perm with⟨k,e,b⟩ |⟨e,hn⟩
 ·have:=(h.ok _ b).2.1;rw[e];exact⟨λa=>by simp only at this;omega,λa=>absurd rfl (a _ b)⟩
 ·rw[e];exact⟨λ_=>hn,λ_=>by omega⟩
def zn8(set:TSet)(t:Int)(T:List Plc)(p:Pt)(k:Int):Bool:=ptB p&&decide (cat T p<0)&&decide (zqf set (cat T) p k≥t)
def zqr(hS:SetOk set)(h:Cr set T ts){s0:List Plc}{t:Int}{O:List (Pt×List Int)}{p:Pt}{k:Int}(hk:TileIx set k):zcg ((set,s0,t),T,O) p k=some (zn8 set t T p k):=by
 unfold zcg zn8;rw[zoU];simp only[ic];cases hp:ptB p with
 | false=>simp
 | true=>
  rw[if_pos rfl];by_cases a:cat T p<0
  ·rw[if_pos (by simpa using a),zsl hS h.fok hp (g:=zfP ((set,s0,t),T,O)) (λd _=>rfl) hk];simp[a]
  ·rw[if_neg (by simpa using a)];simp[a]
def zAz(hS:SetOk set)(h:Cr set T ts){s0:List Plc}{t:Int}{p:Pt}{k:Int}:znc (set,s0,t) ts (p,k)=some (decide (TileIx set k)&&zn8 set t T p k):=by
 unfold znc zn8;rw[zmj];simp only[ic];cases hp:ptB p with
 | false=>simp
 | true=>
  have g:=hS.tiles;rw[if_pos rfl,(zos set om k).2];simp only[ic];by_cases b:TileIx set k
  ·obtain⟨i,hi,c⟩:=(h.at p).2;have a:decide (0<=k/\k<=(set.2.length:Int) - 1)=true:=decide_eq_true b;rw[a,if_pos rfl,hi];simp only[ic];by_cases e:cat T p<0
   ·rw[if_pos (by simpa using c.2 e),zrK hS h.fok hp (λd _=>(h.at _).1) b];simp[e,b]
   ·rw[if_neg (by simpa using λf=>e (c.1 f))];simp[e]
  ·have a:decide (0<=k/\k<=(set.2.length:Int) - 1)=false:=decide_eq_false b;rw[a];simp[b]
def znx(hS:SetOk set)(k:Int):zbj set k=some (decide (TileIx set k)):=by
 have a:=hS.tiles;exact(zos set om k).1
def ixs(set:TSet):List Int:=(List.range set.2.length).map λ(k:Nat)=>(k:Int)
def zy2{k:Int}:k∈ixs set↔TileIx set k:=by
 unfold ixs TileIx;rw[fj];constructor
 ·rintro⟨n,a,rfl⟩;have:=fp.1 a;omega
 ·rintro⟨c,b⟩;exact⟨k.toNat,fp.2 om,by omega⟩
def zss(set:TSet)(t:Int)(T:List Plc)(p:Pt):List Int:=(ixs set).filter (zn8 set t T p)
def zBt(set:TSet)(t:Int)(T:List Plc)(p:Pt):(zss set t T p).length<=set.2.length:=by
 unfold zss;refine gm (ed _ _) ?_;unfold ixs;simp
def znZ(set:TSet)(t:Int)(T:List Plc)(p:Pt)(O:List (Pt×List Int))(d:Int):List (Pt×List Int):=
 if(zss set t T (zD p d)).length>0 then zbX O (zD p d) (zss set t T (zD p d))else zmG O (zD p d)
def laO(set:TSet)(t:Int)(T:List Plc)(O:List (Pt×List Int))(p:Pt):List (Pt×List Int):=[0,1,2,3].foldl (znZ set t T p) O
def zBd(hS:SetOk set)(h:Cr set T ts){s0:List Plc}{t:Int}{O:List (Pt×List Int)}(i:Int)(p:Pt):iter (zag (i,((set,s0,t),T,O)) p) ([],0)=some (zss set t T p):=by
 have m:=hS.tiles;have hlen:(ixs set).length=set.2.length:=by unfold ixs;simp
 have key:=ziR (F:=zag (i,((set,s0,t),T,O)) p) (ixs set) (λa x=>if zn8 set t T p x then a++[x]else a) [] om (λa i x e g=>?_) (λa g=>?_)
 ·rw[key];congr 1;have:=za1 (zn8 set t T p) (λx:Int=>x) (ixs set) [];rw[this];simp[zss]
 ·have f:x=(i:Int):=by
   unfold ixs at e;rw[dh]at e;obtain⟨n,c,rfl⟩:=ig.1 e;have j:i<set.2.length:=by have:=zA c;simpa using this
   rw[dl j]at c;injection c with c
   rw[c]
  have b:i<set.2.length:=by rw[←hlen];exact zA e
  subst f;have k:a.length<=1000:=by
   rw[g];have:∀(l:List Int)(d:List Int),(l.foldl (λa x=>if zn8 set t T p x then a++[x]else a) d).length<=d.length+l.length:=by
    intro l
    induction l with
    | nil=>intro d;simp
    | cons y l ih=>intro d;rw[co];refine gm (ih _) ?_;split<;>simp<;>omega
   refine gm (this _ _) ?_;rw[ey];simp;omega
  unfold zag zbb;rw[if_pos (by simpa using b),zqr hS h ⟨by omega,by omega⟩];simp only[ic];cases zn8 set t T p (i:Int)with
  | true=>simp only[if_true];rw[zai so so];rfl
  | false=>rfl
 ·unfold zag;rw[if_neg (by simp[hlen])]
def zy3(hS:SetOk set)(h:Cr set T ts){s0:List Plc}{t:Int}{O:List (Pt×List Int)}{p:Pt}(hp:ptB p=true):zaU ((set,s0,t),T,O) p=some ((set,s0,t),T,laO set t T O p):=by
 have step:∀(O:List (Pt×List Int))(d:Int),Dir d->zar p (d,((set,s0,t),T,O))=some (.inl (d+1,((set,s0,t),T,znZ set t T p O d))):=by
  intro O d hd;obtain⟨c,_,b⟩:=zpl hd;unfold zar;rw[if_pos (by simpa using c),(zgs hp hd).2];simp only[ic];rw[zBd hS h];simp only[ic];unfold zdj zbc znZ;by_cases a:(zss set t T (zD p d)).length>0
  ·rw[if_pos (by simpa using a),if_pos a,b]
  ·rw[if_neg (by simpa using a),if_neg a,b]
 unfold zaU;rw[zv (step O 0 (.inl rfl)),zv (step _ (0+1) (.inr (.inl rfl))),zv (step _ (0+1+1) (.inr (.inr (.inl rfl)))),zv (step _ (0+1+1+1) (.inr (.inr (.inr rfl)))),
  zC (x:=((set,s0,t),T,laO set t T O p)) (by unfold zar;rw[if_neg si];rfl)]
 rfl
def zuB{T:List Plc}{p:Pt}{k:Int}(h:∀x∈T,x.1≠p):zbX T p k=T++[(p,k)]:=by
 unfold zbX;rw[if_neg];unfold zhK;rw[bj];rintro⟨x,a,hd⟩;exact h x a (by simpa using hd)
def zk9(hA:AsmOk set ts):Cr set ts ts where
 perm:=.refl _
 pw:=by
  have hs:=hA.1.srt;unfold PW;rw[fx];intro i j hi hj hij;exact hs i j _ _ hij (cz hi) (cz hj)
 ok:=λx hx=>by
  obtain⟨i,hi⟩:=dj hx;exact⟨(hA.1.2 i (zA hi) x hi).1,(hA.2 x hx)⟩
 len:=hA.1.1
def ncO(set:TSet)(t:Int)(ts:List Plc):List (Pt×List Int):=ts.foldl (λO x=>laO set t ts O x.1) []
def zkL(hS:SetOk set)(hA:AsmOk set ts)(s0:List Plc)(t:Int):zcr (set,s0,t) ts=some ((set,s0,t),ts,ncO set t ts):=by
 have g:=zk9 hA;have hlen:=g.len;unfold zcr ziD;have q:iter (zbE ts) (0,((set,s0,t),([]:List Plc),([]:List (Pt×List Int))))=some ((set,s0,t),ts,[]):=by
  have key:=zrb (F:=zbE ts) ts (λ(a:CrySt) x=>(a.1,a.2.1++[x],a.2.2)) (((set,s0,t),([]:List Plc),([]:List (Pt×List Int)))) om (λa i x d c=>?_) (λa c=>?_)
  ·rw[key];congr 1;have:∀(l:List Plc)(a:CrySt),l.foldl (λ(a:CrySt) x=>(a.1,a.2.1++[x],a.2.2)) a=(a.1,a.2.1++l,a.2.2):=by
    intro l
    induction l with
    | nil=>intro a;simp
    | cons y l ih=>intro a;rw[co,ih];simp
   rw[this];simp
  ·have b:=zA d;have f:∀(l:List Plc)(a:CrySt),l.foldl (λ(a:CrySt) x=>(a.1,a.2.1++[x],a.2.2)) a=(a.1,a.2.1++l,a.2.2):=by
    intro l
    induction l with
    | nil=>intro a;simp
    | cons y l ih=>intro a;rw[co,ih];simp
   rw[f]at c;unfold zbE;rw[if_pos (by simpa using b),zq d];simp only[ic];rw[zuB (T:=a.2.1) (p:=x.1) (k:=x.2) (λy m=>by
    rw[c]at m;simp only[ft]at m;obtain⟨j,h⟩:=dj m;have e:j<i:=by have:=zA h;rw[ey]at this;omega
    rw[dv,if_pos e]at h;exact zr5 (g.pw.srt j i _ _ e h d))]
  ·unfold zbE;rw[if_neg si]
 have n:iter (zbD ts) (0,((set,s0,t),ts,([]:List (Pt×List Int))))=some ((set,s0,t),ts,ncO set t ts):=by
  have f:∀(l:List Plc)(O:List (Pt×List Int)),l.foldl (λ(a:CrySt) x=>(a.1,a.2.1,laO set t ts a.2.2 x.1)) ((set,s0,t),ts,O)=((set,s0,t),ts,l.foldl (λO x=>laO set t ts O x.1) O):=by
   intro l
   induction l with
   | nil=>intro O;rfl
   | cons y l ih=>intro O;rw[co,co,ih]
  have key:=zrb (F:=zbD ts) ts (λ(a:CrySt) x=>(a.1,a.2.1,laO set t ts a.2.2 x.1)) (((set,s0,t),ts,([]:List (Pt×List Int)))) om (λa i x d c=>?_) (λa c=>?_)
  ·rw[key,f];rfl
  ·have b:=zA d;rw[f]at c;subst c;unfold zbD;rw[if_pos (by simpa using b),zq d];simp only[ic];rw[zy3 hS g (g.ok x (fo d)).1];rfl
  ·unfold zbD;rw[if_neg si]
 rw[q];simp only[ic];rw[n];rfl
end
section
variable {set:TSet} {T ts:List Plc}
def Cr.put(h:Cr set T ts){t:Int}{p:Pt}{k:Int}(hf:zn8 set t T p k=true)(hk:TileIx set k)(hl:ts.length<500):Cr set (zbX T p k) (ins (p,k) ts)/\zbX T p k=T++[(p,k)]:=by
 unfold zn8 at hf;simp only[aw,decide_eq_true_eq]at hf;obtain⟨⟨hp,c⟩,_⟩:=hf;have b:=h.free.1 c;have e:zbX T p k=T++[(p,k)]:=zuB λx a=>b x (h.perm.mem_iff.1 a);refine⟨⟨?_,zBj h.pw (λy d=>b y d),λx a=>?_,?_⟩,e⟩
 ·rw[e];exact(h.perm.append_right _).trans (zsi _ _).symm
 ·rcases zy5 a with rfl | a
  ·exact⟨hp,hk⟩
  ·exact h.ok x a
 ·rw[(zsi _ _).length_eq];simp;omega
def zAT(hS:SetOk set)(h:Cr set T ts){s0:List Plc}{t:Int}{O:List (Pt×List Int)}{p:Pt}{k:Int}(hf:zn8 set t T p k=true)(hk:TileIx set k)(hl:ts.length<500):
  ze9 ((set,s0,t),T,O) p k=some ((set,s0,t),zbX T p k,laO set t (zbX T p k) (zmG O p) p):=by
 have hp:ptB p=true:=by
  unfold zn8 at hf;simp only[aw]at hf;exact hf.1.1
 unfold ze9;have:=zy3 hS (h.put hf hk hl).1 (s0:=s0) (t:=t) (O:=zmG O p) hp;simp only at this ⊢;rw[this];rfl
def plT(seq:List Plc)(T:List Plc):List Plc:=seq.foldl (λT o=>zbX T o.1 o.2) T
def plS(seq:List Plc)(ts:List Plc):List Plc:=seq.foldl (λts o=>ins (o.1,o.2) ts) ts
def Played(set:TSet)(t:Int):List Plc->List Plc->Prop
 | _,[]=>True
 | T,o::seq=>TileIx set o.2/\zn8 set t T o.1 o.2=true/\T.length<500/\Played set t (zbX T o.1 o.2) seq
def zxm(seq:List Plc)(o:Plc)(ts:List Plc):plS (seq++[o]) ts=ins (o.1,o.2) (plS seq ts):=by unfold plS;simp
def zxl(seq:List Plc)(o:Plc)(T:List Plc):plT (seq++[o]) T=zbX (plT seq T) o.1 o.2:=by unfold plT;simp
def znl{t:Int}{o:Plc}:∀{seq:List Plc} {T:List Plc},Played set t T (seq++[o])↔Played set t T seq/\TileIx set o.2/\zn8 set t (plT seq T) o.1 o.2=true/\(plT seq T).length<500
 |[],T=>by unfold plT;simp[Played]
 | x::seq,T=>by
  rw[List.cons_append];unfold Played;rw[znl];unfold plT;rw[co];simp only[and_assoc]
def zqm{t:Int}:∀{seq:List Plc} {T ts:List Plc},Cr set T ts->Played set t T seq->Cr set (plT seq T) (plS seq ts)
 |[],T,ts,h,_=>h
 | o::seq,T,ts,h,hp=>by
  obtain⟨b,c,d,e⟩:=hp;have a:ts.length<500:=by rw[←h.perm.length_eq];exact d
  show Cr set (plT seq (zbX T o.1 o.2)) (plS seq (ins (o.1,o.2) ts));exact zqm (h.put c b a).1 e
inductive PlayR (set:TSet) (t:Int) (ts:List Plc) (seq:List Plc):List Plc×Int×Int->Prop where
 | ok:Played set t ts seq->PlayR set t ts seq (plS seq ts,0,0)
 | bad (a b c):c≠0->¬Played set t ts seq->PlayR set t ts seq (a,b,c)
def zpT{t:Int}{T:List Plc}:∀{seq:List Plc} (i:Nat),Played set t T seq->Played set t T (seq.take i):=by
 intro seq
 induction seq generalizing T with
 | nil=>intro i _;simp[Played]
 | cons o seq ih=>
  intro i h;cases i with
  | zero=>trivial
  | succ i=>exact⟨h.1,h.2.1,h.2.2.1,ih i h.2.2.2⟩
def zyX(hS:SetOk set)(hA:AsmOk set ts)(t:Int){seq:List Plc}(hlen:seq.length<=500):
  ∃r O,iter (z7 (set,ts,t) seq) (0,((set,ts,t),ts,ncO set t ts))=some r/\PlayR set t ts seq (match r with | .inl q=>(plS seq ts,0,0) | .inr z=>z)/\
   (match r with | .inl q=>q=((set,ts,t),plT seq ts,O) | .inr z=>True)/\
   iter (zaG (set,ts,t) seq) (0,ts)=some (match r with | .inl q=>.inl (plS seq ts) | .inr z=>.inr z):=by
 have L:=zk9 hA;have u:∀(m i:Nat)(O:List (Pt×List Int)),i+m=seq.length->Played set t ts (seq.take i)->
   ∃r y,iter (z7 (set,ts,t) seq) ((i:Int),((set,ts,t),plT (seq.take i) ts,O))=some r/\PlayR set t ts seq (match r with | .inl q=>(plS seq ts,0,0) | .inr z=>z)/\
    (match r with | .inl q=>q=((set,ts,t),plT seq ts,y) | .inr z=>True)/\
    iter (zaG (set,ts,t) seq) ((i:Int),plS (seq.take i) ts)=some (match r with | .inl q=>.inl (plS seq ts) | .inr z=>.inr z):=by
  intro m
  induction m with
  | zero=>
   intro i O hi hp;have A:i=seq.length:=by omega
   subst A;rw[gd]at hp ⊢;refine⟨.inl ((set,ts,t),plT seq ts,O),O,zC ?_,.ok hp,rfl,zC ?_⟩
   ·unfold z7;rw[if_neg si]
   ·unfold zaG;rw[if_neg si]
  | succ m ih=>
   intro i O hi hp;have e:i<seq.length:=by omega
   obtain⟨o,H⟩:∃o,o=seq[i]:=⟨_,rfl⟩;have s:seq[i]?=some o:=by rw[cz e,H]
   have B:w64 ((i:Int)+1)=((i+1:Nat):Int):=by rw[zu om om];omega
   have f:=zqm L hp;have l:seq.take (i+1)=seq.take i++[o]:=by rw[gc,s];rfl
   have d:=zAz hS f (s0:=ts) (t:=t) (p:=o.1) (k:=o.2);have j:∀{a b c},c≠0->¬(TileIx set o.2/\zn8 set t (plT (seq.take i) ts) o.1 o.2=true/\(plT (seq.take i) ts).length<500)->PlayR set t ts seq (a,b,c):=λw J=>
    .bad _ _ _ w λx=>J (by
     have:=zpT (i+1) x;rw[l,znl]at this;exact this.2)
   have E:(plS (seq.take i) ts).length=(plT (seq.take i) ts).length:=f.perm.length_eq.symm;by_cases g:TileIx set o.2
   ·by_cases n:zn8 set t (plT (seq.take i) ts) o.1 o.2=true
    ·by_cases C:(plT (seq.take i) ts).length<500
     ·have v:=zAT hS f (s0:=ts) (O:=O) n g om;obtain⟨r,y,G,D,I,F⟩:=ih (i+1) (laO set t (zbX (plT (seq.take i) ts) o.1 o.2) (zmG O o.1) o.1) om (by rw[l,znl];exact⟨hp,g,n,C⟩);refine⟨r,y,?_,D,I,?_⟩
      ·rw[←G];refine zv ?_;unfold z7;rw[if_pos (by simpa using e),zq s];simp only[ic];rw[znx hS,zqr hS f g];simp only[ic,g,n,decide_true,bb,az,if_false];unfold zas;rw[if_neg si];unfold zzH;rw[if_pos (by simp only;omega)];simp only[ic];rw[if_neg so,v];simp only[ic,B,l,zxl]
      ·rw[←F];refine zv ?_;unfold zaG;rw[if_pos (by simpa using e),zq s];simp only[ic];rw[show((o.1,o.2):Plc)=o from rfl]at d;rw[d];simp only[ic,g,n,decide_true,Bool.and_true,bb,az,if_false];unfold zi1;rw[if_neg so,zw3 _ om];simp only[ic,B,l,zxm];simp
     ·refine⟨.inr ([],0,4),O,zC ?_,j (by decide) (λh=>C h.2.2),trivial,zC ?_⟩
      ·unfold z7;rw[if_pos (by simpa using e),zq s];simp only[ic];rw[znx hS,zqr hS f g];simp only[ic,g,n,decide_true,bb,az,if_false];unfold zas;rw[if_neg si];unfold zzH;have:=f.len;rw[if_pos (by simp only;omega)];simp only[ic];rw[if_pos so]
      ·unfold zaG;rw[if_pos (by simpa using e),zq s];simp only[ic];rw[show((o.1,o.2):Plc)=o from rfl]at d;rw[d];simp only[ic,g,n,decide_true,Bool.and_true,bb,az,if_false];unfold zi1;rw[if_pos so];simp
    ·refine⟨.inr ([],i,5),O,zC ?_,j (by decide) (λh=>n h.2.1),trivial,zC ?_⟩
     ·unfold z7;rw[if_pos (by simpa using e),zq s];simp only[ic];rw[znx hS,zqr hS f g];simp[g,n,zas]
     ·unfold zaG;rw[if_pos (by simpa using e),zq s];simp only[ic];rw[show((o.1,o.2):Plc)=o from rfl]at d;rw[d];simp[g,n]
   ·refine⟨.inr ([],i,5),O,zC ?_,j (by decide) (λh=>g h.1),trivial,zC ?_⟩
    ·unfold z7;rw[if_pos (by simpa using e),zq s];simp only[ic];rw[znx hS];simp[g,zas]
    ·unfold zaG;rw[if_pos (by simpa using e),zq s];simp only[ic];rw[show((o.1,o.2):Plc)=o from rfl]at d;rw[d];simp[g]
 have:=u seq.length 0 (ncO set t ts) om trivial;simpa[plT,plS]using this
def zq8(hS:SetOk set)(hA:AsmOk set ts)(t:Int)(hV:zaw (set,ts,t)=some true)(hV':zfi (set,ts,t)=some true)(seq:List Plc)(hl:seq.length<=2000000):
  ∃r,zcm (set,ts,t) seq=some r/\zdX (set,ts,t) seq=some r/\(r.2.2=0->seq.length<=500/\Played set t ts seq/\r.1=plS seq ts)/\(seq.length<=500->Played set t ts seq->r=(plS seq ts,0,0)):=by
 have f:=hA.1.1;unfold zcm zdX;rw[hV,hV'];simp only[ic,bb,az,if_false];by_cases hlen:seq.length<=500
 ·rw[if_neg so,if_neg so];have d:=zkL hS hA ts t;rw[d];simp only[ic];unfold zg5;obtain⟨r,O,k,c,e,j⟩:=zyX hS hA t hlen;have g:zdU ts=some ts:=by unfold zdU;rw[zai so so];rfl
  simp only;rw[g,k];simp only[ic];rw[j];cases r with
  | inl q=>
   simp only at c e ⊢;subst e;have b:Played set t ts seq:=by
    cases c with
    | ok h=>exact h
    | bad _ _ _ h _=>exact absurd rfl h
   have a:=zqm (zk9 hA) b;refine⟨(plS seq ts,0,0),?_,?_,λ_=>⟨hlen,b,rfl⟩,λ_ _=>rfl⟩
   ·unfold zgV zdq;simp only;have i:=a.len;rw[zyI (by rw[a.perm.length_eq];omega) a.perm.symm a.pw];rfl
   ·simp only[ic,zlb]
  | inr z=>
   simp only at c ⊢;refine⟨z,rfl,by simp,λh=>?_,λ_ b=>?_⟩
   ·cases c with
    | ok h'=>exact⟨hlen,h',rfl⟩
    | bad _ _ _ h0 _=>exact absurd h h0
   ·cases c with
    | ok h=>rfl
    | bad _ _ _ h0 hn=>exact absurd b hn
 ·rw[if_pos so,if_pos so];exact⟨_,rfl,rfl,λh=>by simp at h,λh=>absurd h hlen⟩
end
section
variable {set:TSet} {T ts:List Plc}
def glQ(set:TSet)(f:Pt->Int)(p:Pt)(d:Int):Int:=if f (zD p d)<0 then 0 else zk3 set (f (zD p d)) (zmF d)
def atL(set:TSet)(t:Int)(f:Pt->Int)(p:Pt):List Int:=(ixs set).filter λk=>decide (zqf set f p k≥t)
def zBm(hS:SetOk set){f:Pt->Int}(hf:FOk set f)(p:Pt){d:Int}(hd:Dir d):0<=glQ set f p d/\glQ set f p d<=(set.1.length:Int):=by
 unfold glQ;split
 ·omega
 ·rcases hf (zD p d)with h | h
  ·omega
  ·obtain⟨_,_,_,_,a⟩:=zrR hS h (zsu hd);exact a
def zEd(a b c e:Int){d:Int}(hd:Dir d):idx [a,b,c,e] d=some (if d=0 then a else if d=1 then b else if d=2 then c else e):=by
 rcases hd with rfl | rfl | rfl | rfl<;>rfl
def zBJ(hS:SetOk set){f:Pt->Int}(hf:FOk set f){rest:List Plc}{p:Pt}(hp:ptB p=true)(hg:∀d,Dir d->zdd rest (zD p d)=some (f (zD p d))):
  iter (zfW set rest p) ([],0)=some [glQ set f p 0,glQ set f p 1,glQ set f p 2,glQ set f p 3]:=by
 have step:∀(l:List Int)(d:Int),Dir d->l.length<=4->zfW set rest p (l,d)=some (.inl (l++[glQ set f p d],d+1)):=by
  intro l d hd i;obtain⟨e,_,c⟩:=zpl hd;unfold zfW zkF glQ;rw[if_pos (by simpa using e),(zgs hp hd).1];simp only[ic,hg d hd];by_cases h:f (zD p d)<0
  ·rw[if_pos (by simpa using h),if_pos h,zai so so];simp only[ic,c]
  ·have a:TileIx set (f (zD p d)):=by rcases hf (zD p d)with h1 | h1;omega;exact h1
   obtain⟨y,g,j,b,_,_⟩:=zrR hS a (zsu hd);rw[if_neg (by simpa using h),if_neg h,g];simp only[ic,(zwm hd).1,b];rw[zai so so];simp only[ic,c]
 rw[zv (step [] 0 (.inl rfl) si),zv (step _ (0+1) (.inr (.inl rfl)) si),zv (step _ (0+1+1) (.inr (.inr (.inl rfl))) si),zv (step _ (0+1+1+1) (.inr (.inr (.inr rfl))) si)];refine zC ?_;unfold zfW;rw[if_neg si];rfl
def zCV(hS:SetOk set){f:Pt->Int}(hf:FOk set f){rest:List Plc}{p:Pt}(hp:ptB p=true)(hg:∀d,Dir d->zdd rest (zD p d)=some (f (zD p d)))(t:Int):
  zmq set rest p t=some (atL set t f p):=by
 have O:=hS.tiles;have hlen:(ixs set).length=set.2.length:=by unfold ixs;simp
 unfold zmq znG;rw[zBJ hS hf hp hg];simp only[ic];have g:∀(l:List Int)(k:Int),TileIx set k->iter (zhX set [glQ set f p 0,glQ set f p 1,glQ set f p 2,glQ set f p 3] (l,k)) (0,0)=some (zqf set f p k):=by
  intro l k w;refine zv5 (b:=bdQ set f p k) (λd hd=>by have:=zm2 hS hf p w hd;omega) (λs d hd J M=>?_) (λs=>?_)
  ·obtain⟨G,_,q⟩:=zpl hd;obtain⟨x,e,I,C,L,N⟩:=zrR hS w hd;have u:idx [glQ set f p 0,glQ set f p 1,glQ set f p 2,glQ set f p 3] d=some (glQ set f p d):=by
    rw[zEd _ _ _ _ hd];rcases hd with rfl | rfl | rfl | rfl<;>rfl
   unfold zhX zkG;rw[if_pos (by simpa using G),e];simp only[ic,C,u];have v:=zm2 hS hf p w hd;have hs:=zAw hS (zBm hS hf p hd).1 (zBm hS hf p hd).2;unfold bdQ zsz at v ⊢;by_cases h:f (zD p d)≥0
   ·have z:glQ set f p d=zk3 set (f (zD p d)) (zmF d):=by unfold glQ;rw[if_neg om]
    rw[if_pos h]at v ⊢;rw[z]at hs ⊢;by_cases c:zk3 set k d=zk3 set (f (zD p d)) (zmF d)
    ·rw[if_pos c]at v ⊢;rw[if_pos (by simpa using c),hs.1];simp only[ic,q];rw[c,zu om om]
    ·rw[if_neg c,if_neg (by simpa using c),q,Int.add_zero]
   ·have z:glQ set f p d=0:=by unfold glQ;rw[if_pos om]
    rw[if_neg h];rw[z];by_cases c:zk3 set k d=0
    ·rw[if_pos (by simpa using c)];have:zat set 0=some 0:=rfl;rw[this];simp only[ic,q];rw[zu om om]
    ·rw[if_neg (by simpa using c),q,Int.add_zero]
  ·unfold zhX;rw[if_neg si]
 have key:=ziR (F:=zhY set t [glQ set f p 0,glQ set f p 1,glQ set f p 2,glQ set f p 3]) (ixs set) (λa x=>if decide (zqf set f p x≥t)then a++[x]else a) [] om (λa i x e D=>?_) (λa D=>?_)
 ·rw[key];simp only[ic,znF];congr 1;have:=za1 (λk=>decide (zqf set f p k≥t)) (λx:Int=>x) (ixs set) [];rw[this];simp[atL]
 ·have A:TileIx set x:=zy2.1 (fo e);have B:x=(i:Int):=by
   unfold ixs at e;rw[dh]at e;obtain⟨n,m,rfl⟩:=ig.1 e;have E:i<set.2.length:=by have:=zA m;simpa using this
   rw[dl E]at m;injection m with m
   rw[m]
  have j:i<set.2.length:=by rw[←hlen];exact zA e
  subst B;have H:a.length<=1000:=by
   rw[D];have:∀(l:List Int)(r:List Int),(l.foldl (λa x=>if decide (zqf set f p x≥t)then a++[x]else a) r).length<=r.length+l.length:=by
    intro l
    induction l with
    | nil=>intro r;simp
    | cons y l ih=>intro r;rw[co];refine gm (ih _) ?_;split<;>simp<;>omega
   refine gm (this _ _) ?_;rw[ey];simp;omega
  unfold zhY znE zkH;rw[if_pos (by simpa using j),g _ _ A];simp only[ic];by_cases h:zqf set f p (i:Int)≥t
  ·rw[if_pos (by simpa using h),if_pos (by simpa using h),zai so so];rfl
  ·rw[if_neg (by simpa using h),if_neg (by simpa using h)]
 ·unfold zhY;rw[if_neg (by simp[hlen])]
def zCF(set:TSet)(t:Int)(f:Pt->Int)(p:Pt):(atL set t f p).length<=set.2.length:=by
 unfold atL;refine gm (ed _ _) ?_;unfold ixs;simp
def zxj(l:List Pt)(hl:l.length<=1000000)(p:Pt):∃l',zg4 l p=some l'/\(∀q,q∈l'↔q∈l\/q=p)/\l'.length<=l.length+1:=by
 obtain⟨at_,s,H,D⟩:∃a:Nat,iter (zay l p) (l.length:Int)=some (a:Int)/\0<=a/\a<=l.length:=by
  have key:∀n:Nat,n<=l.length->∃a:Nat,iter (zay l p) (n:Int)=some (a:Int)/\0<=a/\a<=l.length:=by
   intro n
   induction n with
   | zero=>
    intro E;refine⟨0,zC ?_,by omega,by omega⟩;unfold zay zbf;rw[if_neg si];rfl
   | succ n ih=>
    intro E;have f:w64 (((n+1:Nat):Int) - 1)=(n:Int):=by rw[zu om om];omega
    have e:l[n]?=some l[n]:=cz om;cases c:lp l[n] p with
    | true=>
     refine⟨n+1,zC ?_,by omega,E⟩;unfold zay zbf;rw[if_pos (by simp<;>omega),f,zq e];simp only[ic,zka,c];rfl
    | false=>
     obtain⟨a,D,F,G⟩:=ih om;refine⟨a,?_,F,G⟩;rw[←D];refine zv ?_;unfold zay zbf;rw[if_pos (by simp<;>omega),f,zq e];simp only[ic,zka,c];rfl
  exact key l.length (gl _)
 have ins:∃l',zbg l p (at_:Int) false=some l'/\(∀q,q∈l'↔q∈l\/q=p)/\l'.length<=l.length+1:=by
  unfold zbg;rw[if_neg si,zai so so];simp only[ic];have C:w64 (((l++[p]).length:Int) - 1)=(l.length:Int):=by rw[dy,eu,zu om om];omega
  rw[C];have key:∀(m i:Nat)(L:List Pt),i=at_+m->i<=l.length->L.length=l.length+1->(∀j,j<i->L[j]?=l[j]?)->(∀j,i<j->L[j]?=l[j - 1]?)->
    ∃L',iter (zcw (at_:Int)) (L,(i:Int))=some L'/\L'.length=l.length+1/\(∀j,j<at_->L'[j]?=l[j]?)/\(∀j,at_<j->L'[j]?=l[j - 1]?):=by
   intro m
   induction m with
   | zero=>
    intro i L hi A w k x;have:i=at_:=by omega
    subst this;refine⟨L,zC ?_,w,k,x⟩;unfold zcw;rw[if_neg si]
   | succ m ih=>
    intro i L hi A w k x;have f:w64 ((i:Int) - 1)=((i - 1:Nat):Int):=by rw[zu om om];omega
    have e:L[i - 1]?=some (l[i - 1]'om):=by rw[k _ om,cz om]
    have z:L[i]?=some (L[i]'om):=cz om;obtain⟨L',y,t,r,g⟩:=ih (i - 1) (L.set i (l[i - 1]'om)) om om (by simp[w]) (λj b=>by rw[dt om];exact k j om) (λj b=>by
     by_cases v:j=i
     ·subst v;rw[du om,cz om]
     ·rw[dt om];exact x j om)
    refine⟨L',?_,t,r,g⟩;rw[←y];refine zv ?_;unfold zcw;rw[if_pos so,f,zq e];simp only[ic];rw[zq z];simp
  obtain⟨L',y,t,r,g⟩:=key (l.length - at_) l.length (l++[p]) om (gl _) si (λj b=>by rw[cq b]) (λj b=>by
   rw[df so,df om])
  rw[y];simp only[ic];unfold zhw;have z:L'[at_]?=some (L'[at_]'om):=cz om;rw[zq z];simp only[ic];refine⟨_,rfl,λq=>?_,by simp[t]⟩;simp only[bg];constructor
  ·intro u;obtain⟨j,b⟩:=dj u;by_cases d:j=at_
   ·subst d;rw[du om]at b;injection b with b;exact .inr b.symm
   ·rw[dt (Ne.symm d)]at b;rcases gu d with h | h
    ·rw[r j h]at b;exact .inl (fo b)
    ·rw[g j h]at b;exact .inl (fo b)
  ·rintro(u | rfl)
   ·obtain⟨j,b⟩:=dj u;rcases gt j at_ with h | h
    ·exact fo (i:=j) (by rw[dt om,r j h];exact b)
    ·exact fo (i:=j+1) (by rw[dt om,g (j+1) om];exact b)
   ·exact fo (i:=at_) (du om)
 unfold zg4;rw[s];simp only[ic];unfold zhx;by_cases c:at_<l.length
 ·have e:l[at_]?=some l[at_]:=cz c;rw[if_pos (by simpa using c),zq e];simp only[ic];by_cases B:l[at_]=p
  ·rw[show(decide (l[at_].1=p.1)&&decide (l[at_].2=p.2))=true by rw[B];simp];unfold zbg;refine⟨l,rfl,λq=>⟨.inl,λh=>?_⟩,by omega⟩;rcases h with h | rfl
   ·exact h
   ·rw[←B];exact dx c
  ·rw[show(decide (l[at_].1=p.1)&&decide (l[at_].2=p.2))=false by
    cases hb:(decide (l[at_].1=p.1)&&decide (l[at_].2=p.2))with
    | false=>rfl
    | true=>simp at hb;exact absurd (Prod.ext hb.1 hb.2) B]
   exact ins
 ·rw[if_neg (by simpa using c)];exact ins
def zAi(T:List Plc)(q:Pt):Prop:=ptB q=true/\cat T q<0
def zCd(hS:SetOk set)(h:Cr set T ts){x:Plc}{i:Nat}(hx:ts[i]?=some x)(l0:List Pt)(l:List Pt)(z:l.length<=100000):
  ∃l',iter (zdy ts (l0,(i:Int))) (l,0)=some l'/\(∀q,q∈l'↔q∈l\/∃d,Dir d/\q=zD x.1 d/\zAi T q)/\l'.length<=l.length+4:=by
 have j:=(h.ok x (fo hx)).1;have step:∀(l:List Pt)(d:Int),Dir d->l.length<=144004->∃l',zdy ts (l0,(i:Int)) (l,d)=some (.inl (l',d+1))/\(∀q,q∈l'↔q∈l\/q=zD x.1 d/\zAi T q)/\l'.length<=l.length+1:=by
  intro l d hd z;obtain⟨C,_,m⟩:=zpl hd;unfold zdy;rw[if_pos (by simpa using C),zq hx];simp only[ic,(zgs j hd).1,zmj];cases hb:ptB (zD x.1 d)with
  | false=>
   rw[if_neg si];unfold zfA zfB;refine⟨l,by rw[if_neg si,m],λq=>⟨.inl,λa=>?_⟩,by omega⟩;rcases a with a |⟨rfl,hf⟩
   ·exact a
   ·rw[hf.1]at hb;cases hb
  | true=>
   rw[if_pos rfl];obtain⟨k,r,c⟩:=(h.at (zD x.1 d)).2;rw[r];simp only[ic];unfold zfA zfB;by_cases g:cat T (zD x.1 d)<0
   ·obtain⟨l',y,s,E⟩:=zxj l om (zD x.1 d);rw[if_pos (by simpa using c.2 g),y];simp only[ic,m];refine⟨l',rfl,λq=>?_,E⟩;rw[s];exact or_congr Iff.rfl ⟨λe=>⟨e,by rw[e];exact⟨hb,g⟩⟩,λe=>e.1⟩
   ·rw[if_neg (by simpa using λb=>g (c.1 b)),m];refine⟨l,rfl,λq=>⟨.inl,λa=>?_⟩,by omega⟩;rcases a with a |⟨rfl,hf⟩
    ·exact a
    ·exact absurd hf.2 g
 obtain⟨l1,D,n,F⟩:=step l 0 (.inl rfl) om;obtain⟨l2,a2,A,c2⟩:=step l1 1 (.inr (.inl rfl)) om;obtain⟨u,t,p,G⟩:=step l2 2 (.inr (.inr (.inl rfl))) om;obtain⟨w,v,B,H⟩:=step u 3 (.inr (.inr (.inr rfl))) om;refine⟨w,?_,λq=>?_,by omega⟩
 ·rw[zv D,show((0:Int)+1)=1 from rfl,zv a2,show((1:Int)+1)=2 from rfl,zv t,show((2:Int)+1)=3 from rfl,zv v];refine zC ?_;unfold zdy;rw[if_neg si]
 ·rw[B,p,A,n];constructor
  ·rintro((((a | a) | a) | a) | a)
   ·exact .inl a
   ·exact .inr ⟨0,.inl rfl,a.1,a.2⟩
   ·exact .inr ⟨1,.inr (.inl rfl),a.1,a.2⟩
   ·exact .inr ⟨2,.inr (.inr (.inl rfl)),a.1,a.2⟩
   ·exact .inr ⟨3,.inr (.inr (.inr rfl)),a.1,a.2⟩
  ·rintro(a |⟨d,hd,b,f⟩)
   ·exact .inl (.inl (.inl (.inl a)))
   ·rcases hd with rfl | rfl | rfl | rfl
    ·exact .inl (.inl (.inl (.inr ⟨b,f⟩)))
    ·exact .inl (.inl (.inr ⟨b,f⟩))
    ·exact .inl (.inr ⟨b,f⟩)
    ·exact .inr ⟨b,f⟩
def zrv(T ts:List Plc)(q:Pt):Prop:=∃x∈ts,∃d,Dir d/\q=zD x.1 d/\zAi T q
def zCc(hS:SetOk set)(h:Cr set T ts):∃l,zlN ts=some l/\(∀q,q∈l↔zrv T ts q)/\l.length<=2000:=by
 have hlen:=h.len;have e:∀(m i:Nat)(l:List Pt),i+m=ts.length->l.length<=4*i->(∀q,q∈l↔zrv T (ts.take i) q)->∃l',iter (zdz ts) (l,(i:Int))=some l'/\(∀q,q∈l'↔zrv T ts q)/\l'.length<=2000:=by
  intro m
  induction m with
  | zero=>
   intro i l hi r f;have:i=ts.length:=by omega
   subst this;rw[gd]at f;refine⟨l,zC ?_,f,by omega⟩;unfold zdz;rw[if_neg si]
  | succ m ih=>
   intro i l hi r f;have c:i<ts.length:=by omega
   have a:ts[i]?=some ts[i]:=cz c;have j:w64 ((i:Int)+1)=((i+1:Nat):Int):=by rw[zu om om];omega
   obtain⟨l',n,k,w⟩:=zCd hS h a l l om;obtain⟨l2,p,v,t⟩:=ih (i+1) l' om om (λq=>by
    rw[k,f,zoa a];unfold zrv;constructor
    ·rintro(⟨x,a,b⟩ |⟨d,hd,b⟩)
     ·exact⟨x,fe.2 (.inl a),b⟩
     ·exact⟨ts[i],fe.2 (.inr (fq.2 rfl)),d,hd,b⟩
    ·rintro⟨x,a,d,hd,b⟩;rcases fe.1 a with a | a
     ·exact .inl ⟨x,a,d,hd,b⟩
     ·rw[fq.1 a]at b;exact .inr ⟨d,hd,b⟩)
   refine⟨l2,?_,v,t⟩;rw[←p];refine zv ?_;unfold zdz;rw[if_pos (by simpa using c),n];simp only[ic,zlc,j]
 obtain⟨l,g,s,u⟩:=e ts.length 0 [] om si (λq=>by unfold zrv;simp);refine⟨l,?_,s,u⟩;unfold zlN;have g:iter (zdz ts) ([],0)=some l:=g;rw[g];rfl
def zuu(hS:SetOk set)(h:Cr set T ts)(s0:List Plc)(t:Int):∃out,zdx (set,s0,t) ts=some out/\(out=[]↔∀q,zrv T ts q->atL set t (cat T) q=[])/\out.length<=1000000:=by
 obtain⟨a,R,z,S⟩:=zCc hS h;have M:=hS.tiles;unfold zdx;rw[R];simp only[ic];have r:∀(m i:Nat)(out:List Plc),i+m=a.length->out.length<=160*i->(out=[]↔∀q∈a.take i,atL set t (cat T) q=[])->
   ∃out',iter (zby (set,s0,t) ts a) (out,(i:Int))=some out'/\(out'=[]↔∀q∈a,atL set t (cat T) q=[])/\out'.length<=1000000:=by
  intro m
  induction m with
  | zero=>
   intro i out hi L c;have:i=a.length:=by omega
   subst this;rw[gd]at c;refine⟨out,zC ?_,c,by omega⟩;unfold zby;rw[if_neg si]
  | succ m ih=>
   intro i out hi L c;have p:i<a.length:=by omega
   obtain⟨q,D⟩:∃q,q=a[i]:=⟨_,rfl⟩;have w:a[i]?=some q:=by rw[cz p,D]
   have I:w64 ((i:Int)+1)=((i+1:Nat):Int):=by rw[zu om om];omega
   obtain⟨x,N,d,hd,J,f⟩:=(z q).1 (fo w);have s:=zCV hS h.fok f.1 (λd _=>(h.at _).1) t;obtain⟨A,hA⟩:∃A,A=atL set t (cat T) q:=⟨_,rfl⟩;have G:A.length<=160:=by rw[hA];exact gm (zCF _ _ _ _) M
   rw[←hA]at s;have l:∀(m j:Nat)(o:List Plc),j+m=A.length->o=out++(A.take j).map (λk=>(q,k))->iter (zbx a (out,(i:Int)) q A) (o,(j:Int))=some (out++A.map (λk=>(q,k))):=by
    intro m
    induction m with
    | zero=>
     intro j o Q b;have:j=A.length:=by omega
     subst this;rw[gd]at b;subst b;refine zC ?_;unfold zbx;rw[if_neg si]
    | succ m ih2=>
     intro j o Q b;have u:j<A.length:=by omega
     have E:A[j]?=some A[j]:=cz u;have B:w64 ((j:Int)+1)=((j+1:Nat):Int):=by rw[zu om om];omega
     have F:o.length<=400000:=by rw[b,dy,ef,ey];omega
     rw[←ih2 (j+1) (o++[(q,A[j])]) om (by rw[b,zoa E,fa,←bl];rfl)];refine zv ?_;unfold zbx;rw[if_pos (by simpa using u),zq w];simp only[ic];rw[zq E];simp only[ic];rw[zai so so];simp only[ic,B]
   have g:=l A.length 0 out om si;obtain⟨o2,O,H,P⟩:=ih (i+1) (out++A.map (λk=>(q,k))) om so (by
    rw[zoa w,List.append_eq_nil_iff,c];constructor
    ·rintro⟨e,y⟩ C n;rcases fe.1 n with v | v
     ·exact e C v
     ·rw[fq.1 v,←hA];simpa using y
    ·intro e;exact⟨λC n=>e C (by simp[n]),by rw[hA,e q si];rfl⟩)
   refine⟨o2,?_,H,P⟩;rw[←O];refine zv ?_;unfold zby;rw[if_pos (by simpa using p),zq w];simp only[ic];rw[s];simp only[ic];have g:iter (zbx a (out,(i:Int)) q A) (out,0)=some (out++A.map (λk=>(q,k))):=g;rw[g];simp only[ic,zix,I]
 obtain⟨o,e,y,v⟩:=r a.length 0 [] om si si;have e:iter (zby (set,s0,t) ts a) ([],0)=some o:=e;refine⟨o,by rw[e];rfl,?_,v⟩;rw[y];exact⟨λh q c=>h q ((z q).2 c),λh q c=>h q ((z q).1 c)⟩
end
end Go.Lf
