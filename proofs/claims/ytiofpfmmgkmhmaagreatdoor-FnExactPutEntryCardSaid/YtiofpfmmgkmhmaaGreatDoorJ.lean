import Derived.Test.YtiofpfmmgkmhmaaGreatDoorI
import Derived.Test.YtiofpfmmgkmhmaaGreatDoorC
set_option linter.all false
namespace Go.Lf
open Go
def lp(a b:Pt):Bool:=decide (a.2<b.2)||(decide (a.2=b.2)&&decide (a.1<b.1))
def IF{a b}:lp a b=true↔a.2<b.2\/(a.2=b.2/\a.1<b.1):=by unfold lp;simp
def SJ{a b}:lp a b=false↔b.2<a.2\/(a.2=b.2/\b.1<=a.1):=by unfold lp;simp;omega
def tM{a b c}(h1:lp a b=true)(h2:lp b c=true):lp a c=true:=by
 rw[IF]at *;omega
def kP{a b}(h:lp a b=true):a≠b:=by
 rw[IF]at h;intro e;subst e;omega
def Co{a b:Pt}(h1:a.1=b.1)(h2:a.2=b.2):a=b:=Prod.ext h1 h2
def Oq{a b}(h1:lp a b=false)(h2:a≠b):lp b a=true:=by
 rw[SJ]at h1;rw[IF];rcases Int.lt_trichotomy a.1 b.1 with h | h | h
 ·omega
 ·rcases h1 with h3 | h3
  ·exact .inl h3
  ·exact absurd (Co h h3.1) h2
 ·omega
def mW(a b:Pt):mJ a b=some (lp a b):=by
 unfold mJ lp;by_cases c:a.2<b.2<;>by_cases d:a.2=b.2<;>simp[c,d]
def lW(a b:Pt):Int:=if a.2<b.2 then -1 else if b.2<a.2 then 1 else if a.1<b.1 then -1 else if b.1<a.1 then 1 else 0
def HU(a b:Pt):kv a b=some (lW a b):=by
 unfold kv;rw[Bp,Bp];simp only[im,Jr];congr 1;unfold lW
 repeat' split
 all_goals first | rfl | omega
def Br{a b}:decide (lW a b<0)=lp a b:=by
 unfold lW lp;by_cases e:a.2<b.2
 ·simp[e]
 ·by_cases g:b.2<a.2
  ·simp[e,g];omega
  ·have d:a.2=b.2:=by omega
   by_cases c:a.1<b.1
   ·simp[d,c]
   ·by_cases f:b.1<a.1
    ·simp[d,c,f]
    ·simp[d,c,f]
def AY{a b}:lW a b=0↔a=b:=by
 unfold lW;constructor
 ·intro h;apply Co<;>(repeat' split at h)<;>omega
 ·intro h;subst h;simp
def Oe(a b:Pt):yI a b=some (lp a b):=by
 unfold yI;rw[HU];simp only[im];rw[Br]
def cR(p:Pt):Bool:=decide (-60<=p.1/\p.1<=60)&&decide (-60<=p.2/\p.2<=60)
def Jo{p}:cR p=true ↔ -60<=p.1/\p.1<=60 /\ -60<=p.2/\p.2<=60:=by
 unfold cR;simp;omega
def AJ(p:Pt):oK p=some (cR p):=by
 unfold oK cR;simp only[fD,im];by_cases h : -60<=p.1/\p.1<=60
 ·simp[h]
 ·simp only[h,decide_false,Bool.false_and];rfl
def tj(p:Pt):mM p=some (cR p):=by
 unfold mM cR;simp only[gM,im];by_cases h : -60<=p.1/\p.1<=60
 ·simp[h]
 ·simp only[h,decide_false,Bool.false_and];rfl
def Ct(ts:List aM)(i:Nat):Prop:=∀x,ts[i]?=some x->cR x.1=true/\0<=x.2/\x.2<=159/\∀y,1<=i->ts[i - 1]?=some y->lp y.1 x.1=true
def FormOk(ts:List aM):Prop:=ts.length<=500/\∀i,i<ts.length->Ct ts i
def QH(ts:List aM)(h:ts.length<=2000000):∃b,An ts=some b/\(b=true↔FormOk ts):=by
 unfold An FA;have key:=jU (λi=>(i:Int)) 0 ts.length (Ct ts) (mw ts) om ?_ ?_ ?_
 ·rcases key with⟨g,l⟩ |⟨g,hnot⟩
  ·have g:iter (mw ts) 0=some (.inl ()):=g;rw[g];refine⟨_,rfl,?_⟩;simp only[decide_eq_true_eq];exact⟨λr=>⟨by omega,λi hi=>l i om hi⟩,λp=>by have:=p.1;omega⟩
  ·have g:iter (mw ts) 0=some (.inr false):=g;rw[g];exact⟨false,rfl,λh=>(by cases h),λp=>absurd (λi _ hi=>p.2 i hi) hnot⟩
 ·intro i _ hi _ c;have k:ts[i]?=some ts[i]:=dj hi;obtain⟨o1,o2,t,s⟩:=c _ k;have q:aA ((i:Int)+1)=((i+1:Nat):Int):=by rw[zv om om];omega
  have e:aA ((160:Int) - 1)=159:=zv om om;unfold mw mD iG;rw[if_pos (by simp[hi])];simp only[zq k,im,AJ,o1,e,fD];rw[if_neg si,if_neg so];by_cases n:(i:Int)>0
  ·have m:ts[i - 1]?=some (ts[i - 1]'om):=dj om;have f:aA ((i:Int) - 1)=((i - 1:Nat):Int):=by rw[zv om om];omega
   rw[if_pos (by simpa using n)];simp only[f,zq m,im,Oe,s _ om m,q];rfl
  ·rw[if_neg (by simpa using n)];simp[q]
 ·intro i _ hi _ c;have k:ts[i]?=some ts[i]:=dj hi;have e:aA ((160:Int) - 1)=159:=zv om om;unfold mw mD iG;rw[if_pos (by simp[hi])];simp only[zq k,im,AJ,e,fD];cases hp:cR ts[i].1 with
  | false=>simp
  | true=>
   rw[if_neg si];by_cases j:0<=ts[i].2/\ts[i].2<=159
   ·rw[if_neg (by simp[j])];by_cases n:(i:Int)>0
    ·have m:ts[i - 1]?=some (ts[i - 1]'om):=dj om;have f:aA ((i:Int) - 1)=((i - 1:Nat):Int):=by rw[zv om om];omega
     rw[if_pos (by simpa using n)];simp only[f,zq m,im,Oe];cases r:lp (ts[i - 1]'om).1 ts[i].1 with
     | false=>simp
     | true=>
      refine absurd (λx a=>?_) c;rw[k]at a;injection a with a;subst a
      exact⟨hp,j.1,j.2,λy _ d=>by rw[m]at d;injection d with d;subst d;exact r⟩
    ·refine absurd (λx a=>?_) c;rw[k]at a;injection a with a;subst a
     exact⟨hp,j.1,j.2,λy u _=>by omega⟩
   ·rw[if_pos (by simp only[j,decide_false];rfl)];simp
 ·intro _;unfold mw;rw[if_neg si]
def PL(ts:List aM)(h:ts.length<=2000000):∃b,Ab ts=some b/\(b=true↔FormOk ts):=by
 unfold Ab FG;by_cases q:ts.length>500
 ·rw[if_pos so];exact⟨false,rfl,λh=>(by cases h),λn=>by have:=n.1;omega⟩
 rw[if_neg so];have key:=jU (λi=>(i:Int)) 0 ts.length (Ct ts) (mv ts) om ?_ ?_ ?_
 ·rcases key with⟨f,k⟩ |⟨f,hnot⟩
  ·have f:iter (mv ts) 0=some (.inl ()):=f;rw[f];exact⟨true,rfl,λ_=>⟨by omega,λi hi=>k i om hi⟩,λ_=>rfl⟩
  ·have f:iter (mv ts) 0=some (.inr false):=f;rw[f];exact⟨false,rfl,λh=>(by cases h),λn=>absurd (λi _ hi=>n.2 i hi) hnot⟩
 ·intro i _ hi _ c;have j:ts[i]?=some ts[i]:=dj hi;obtain⟨o1,o2,s,r⟩:=c _ j;have p:aA ((i:Int)+1)=((i+1:Nat):Int):=by rw[zv om om];omega
  unfold mv mA;rw[if_pos (by simp[hi])];simp only[zq j,im,tj,o1,gM];rw[if_neg si,if_neg so];by_cases m:(i:Int)>0
  ·have l:ts[i - 1]?=some (ts[i - 1]'om):=dj om;have e:aA ((i:Int) - 1)=((i - 1:Nat):Int):=by rw[zv om om];omega
   rw[if_pos (by simpa using m)];simp only[e,zq l,im,mW,r _ om l,p];rfl
  ·rw[if_neg (by simpa using m)];simp[p]
 ·intro i _ hi _ c;have j:ts[i]?=some ts[i]:=dj hi;unfold mv mA;rw[if_pos (by simp[hi])];simp only[zq j,im,tj,gM];cases hp:cR ts[i].1 with
  | false=>simp
  | true=>
   rw[if_neg si];by_cases g:0<=ts[i].2/\ts[i].2<=159
   ·rw[if_neg (by simp[g])];by_cases m:(i:Int)>0
    ·have l:ts[i - 1]?=some (ts[i - 1]'om):=dj om;have e:aA ((i:Int) - 1)=((i - 1:Nat):Int):=by rw[zv om om];omega
     rw[if_pos (by simpa using m)];simp only[e,zq l,im,mW];cases q:lp (ts[i - 1]'om).1 ts[i].1 with
     | false=>simp
     | true=>
      refine absurd (λx a=>?_) c;rw[j]at a;injection a with a;subst a
      exact⟨hp,g.1,g.2,λy _ d=>by rw[l]at d;injection d with d;subst d;exact q⟩
    ·refine absurd (λx a=>?_) c;rw[j]at a;injection a with a;subst a
     exact⟨hp,g.1,g.2,λy t _=>by omega⟩
   ·rw[if_pos (by simp only[g,decide_false];rfl)];simp
 ·intro _;unfold mv;rw[if_neg si]
def AsmOk(set:TSet)(ts:List aM):Prop:=FormOk ts/\∀x∈ts,0<=x.2/\x.2<=(set.2.length:Int) - 1
def tI(set:TSet)(h:set.2.length<=1048576)k:ov set k=some (decide (0<=k/\k<=(set.2.length:Int) - 1))/\sN set k=some (decide (0<=k/\k<=(set.2.length:Int) - 1)):=by
 have a:aA ((set.2.length:Int) - 1)=(set.2.length:Int) - 1:=zv om om;constructor
 ·unfold ov iG;simp only[a,fD,im]
 ·unfold sN;simp only[a,gM,im]
def Gx(set:TSet)(hT:Tame set)(ts:List aM)(h:ts.length<=2000000):∃b,jL set ts=some b/\(b=true↔SetOk set/\AsmOk set ts):=by
 obtain⟨a,l,_,e⟩:=Hg set hT;obtain⟨f,m,g⟩:=QH ts h;unfold jL;simp only[l,im];cases a with
 | false=>exact⟨false,rfl,λh=>(by cases h),λh=>e.2 h.1⟩
 | true=>
  rw[if_pos rfl];simp only[m,im];cases f with
  | false=>exact⟨false,rfl,λh=>(by cases h),λh=>g.2 h.2.1⟩
  | true=>
   rw[if_pos rfl];unfold CR nQ vt;have hp:∀b∈ts,(λq0=>nT q0 set) b=some (!decide (0<=b.2/\b.2<=(set.2.length:Int) - 1)):=by
    intro b _;simp only[nT,(tI set hT.t b.2).1,im]
   rcases mX ts h (λq0=>nT q0 set) (λb=>!decide (0<=b.2/\b.2<=(set.2.length:Int) - 1)) hp (CK ts λq0=>nT q0 set) (λi=>rfl)with⟨d,c⟩ |⟨k,d,hk,_,b,hb,hq⟩
   ·rw[d];refine⟨true,rfl,λ_=>⟨e.1 rfl,g.1 rfl,λx n=>?_⟩,λ_=>rfl⟩;have:=c x n;simpa using this
   ·rw[d];refine⟨false,?_,λh=>(by cases h),λj=>?_⟩
    ·simp
    ·have:=j.2.2 b<|fx hb;simp at hq;omega
def Ou(set:TSet)(hT:Tame set)(ts:List aM)(h:ts.length<=2000000):∃b,pE set ts=some b/\(b=true↔AsmOk set ts):=by
 obtain⟨f,n,j⟩:=PL ts h;unfold pE GF;simp only[n,im];cases f with
 | false=>exact⟨false,rfl,λh=>(by cases h),λh=>j.2 h.1⟩
 | true=>
  rw[if_neg si];have key:=jU (λi=>(i:Int)) 0 ts.length (λi=>∀x,ts[i]?=some x->0<=x.2/\x.2<=(set.2.length:Int) - 1) (mx set ts) om ?_ ?_ ?_
  ·rcases key with⟨e,g⟩ |⟨e,hnot⟩
   ·have e:iter (mx set ts) 0=some (.inl ()):=e;rw[e];refine⟨true,rfl,λ_=>⟨j.1 rfl,λx c=>?_⟩,λ_=>rfl⟩;obtain⟨i,hi⟩:=du c;exact g i om (zA hi) x hi
   ·have e:iter (mx set ts) 0=some (.inr false):=e;rw[e];exact⟨false,rfl,λh=>(by cases h),λl=>absurd (λi _ hi x c=>l.2 x<|fx c) hnot⟩
  ·intro i _ hi _ d;have c:ts[i]?=some ts[i]:=dj hi;have k:aA ((i:Int)+1)=((i+1:Nat):Int):=by rw[zv om om];omega
   unfold mx;rw[if_pos (by simp[hi])];simp only[zq c,im,(tI set hT.t _).2,k];rw[if_neg (by simp only[d _ c];simp)]
  ·intro i _ hi _ d;have c:ts[i]?=some ts[i]:=dj hi;unfold mx;rw[if_pos (by simp[hi])];simp only[zq c,im,(tI set hT.t _).2];have:¬(0<=ts[i].2/\ts[i].2<=(set.2.length:Int) - 1):=λm=>d λx a=>by rw[c]at a;injection a with a;subst a;exact m
   rw[if_pos (by simp only[this,decide_false];rfl)]
  ·intro _;unfold mx;rw[if_neg si]
def k_(ts:List aM):Prop:=∀(i j:Nat)(x y:aM),i<j->ts[i]?=some x->ts[j]?=some y->lp x.1 y.1=true
def FormOk.srt{ts}(h:FormOk ts):k_ ts:=by
 intro i j
 induction j with
 | zero=>intro x y c;omega
 | succ j ih=>
  intro x y c b e;have g:=zA e;have d:ts[j]?=some (ts[j]'om):=dj om;have f:=(h.2 (j+1) g y e).2.2.2 _ om d;by_cases a:i=j
  ·subst a;rw[d]at b;injection b with b;subst b;exact f
  ·exact tM (ih x _ om b d) f
def qf(ts:List aM)(p:Pt)(k:Int):Prop:=(0<=k/\∃x,ts[k.toNat]?=some x/\x.1=p)\/(k = -1/\∀x∈ts,x.1≠p)
def qf.uniq{ts p k k'}(hs:k_ ts)(h:qf ts p k)(h':qf ts p k'):k=k':=by
 rcases h with⟨f,x,c,e⟩ |⟨f,h1⟩<;>rcases h' with⟨d,y,a,b⟩ |⟨d,h3⟩
 ·rcases ig k.toNat k'.toNat with h | h | h
  ·exact absurd (e.trans b.symm)<|kP<|hs _ _ _ _ h c a
  ·omega
  ·exact absurd (b.trans e.symm)<|kP<|hs _ _ _ _ h a c
 ·exact absurd e<|h3 x<|fx c
 ·exact absurd b<|h1 y<|fx a
 ·omega
def Ca{ts:List aM}(hs:k_ ts)(hl:ts.length<=1048576){F:Int×Int->Option ((Int×Int) ⊕ Int)}{p}(hF:∀(lo hi:Nat)(x:aM),lo<hi->hi<=ts.length->ts[(lo+hi) / 2]?=some x->F ((lo:Int),(hi:Int))=some (.inl (if lp x.1 p then((((lo+hi) / 2+1:Nat):Int),(hi:Int))else((lo:Int),(((lo+hi) / 2:Nat):Int)))))(hstop:∀(lo:Int),F (lo,lo)=some (.inr lo)):
  ∃k:Nat,iter F (0,(ts.length:Int))=some (k:Int)/\k<=ts.length/\(∀(i:Nat) x,i<k->ts[i]?=some x->lp x.1 p=true)/\∀(i:Nat) x,k<=i->ts[i]?=some x->lp x.1 p=false:=by
 have key:=zB (F:=F) (λs=>∃lo hi:Nat,s=((lo:Int),(hi:Int))/\lo<=hi/\hi<=ts.length/\(∀(i:Nat) x,i<lo->ts[i]?=some x->lp x.1 p=true)/\∀(i:Nat) x,hi<=i->ts[i]?=some x->lp x.1 p=false)
  (λs=>(s.2 - s.1).toNat) (λz=>∃k:Nat,z=(k:Int)/\k<=ts.length/\(∀(i:Nat) x,i<k->ts[i]?=some x->lp x.1 p=true)/\∀(i:Nat) x,k<=i->ts[i]?=some x->lp x.1 p=false) ?_ (0,(ts.length:Int))
  ⟨0,ts.length,rfl,by omega,gv _,λi x hi=>by omega,λi x hi b=>by have:=zA b;omega⟩
 ·obtain⟨z,l,k,rfl,h⟩:=key;exact⟨k,l,h⟩
 ·rintro s ⟨lo,hi,rfl,m,e,g,f⟩;by_cases c:lo<hi
  ·left;have b:ts[(lo+hi) / 2]?=some (ts[(lo+hi) / 2]'om):=dj om;refine⟨_,hF lo hi _ c e b,?_⟩;cases hc:lp (ts[(lo+hi) / 2]'om).1 p with
   | true=>
    rw[if_pos rfl];refine⟨⟨(lo+hi) / 2+1,hi,rfl,by omega,e,λi x d a=>?_,f⟩,by simp only[];omega⟩;rcases ic i ((lo+hi) / 2)with h | h
    ·exact tM (hs _ _ _ _ h a b) hc
    ·have:i=(lo+hi) / 2:=by omega
     subst this;rw[b]at a;injection a with a;subst a;exact hc
   | false=>
    rw[if_neg si];refine⟨⟨lo,(lo+hi) / 2,rfl,by omega,by omega,g,λi x d a=>?_⟩,by simp only[];omega⟩;rcases ic ((lo+hi) / 2) i with h | h
    ·have j:=hs _ _ _ _ h b a;cases hc2:lp x.1 p with
     | false=>rfl
     | true=>rw[tM j hc2]at hc;cases hc
    ·have:i=(lo+hi) / 2:=by omega
     subst this;rw[b]at a;injection a with a;subst a;exact hc
  ·right;have:lo=hi:=by omega
   subst this;exact⟨_,hstop _,lo,rfl,e,g,f⟩
def pY{ts:List aM}(hs:k_ ts){p k}(h1:∀(i:Nat) x,i<k->ts[i]?=some x->lp x.1 p=true)(h2:∀(i:Nat) x,k<=i->ts[i]?=some x->lp x.1 p=false)(h:∀x,ts[k]?=some x->x.1≠p):∀x∈ts,x.1≠p:=by
 intro x c e;obtain⟨i,hi⟩:=du c;rcases ig i k with hik | hik | hik
 ·exact kP (h1 i x hik hi) e
 ·subst hik;exact h x hi e
 ·have b:ts[k]?=some (ts[k]'(by have:=zA hi;omega)):=dj (by have:=zA hi;omega);have a:=hs _ _ _ _ hik b hi;rw[e]at a;rw[h2 k _ (gv _) b]at a;cases a
def Nv{ts:List aM}(hs:k_ ts)(hl:ts.length<=1048576)(p:Pt):∃k,jM ts p=some k/\qf ts p k:=by
 have key:=Ca hs hl (p:=p) (F:=vZ ts p) ?_ ?_
 ·obtain⟨k,m,n,h,g⟩:=key;unfold jM EX xD;simp only[m,im];by_cases b:k<ts.length
  ·have c:ts[k]?=some ts[k]:=dj b;rw[if_pos (by simp[b])];simp only[zq c,im];by_cases d:ts[k].1=p
   ·rw[if_pos (by simp[d])];exact⟨_,rfl,.inl ⟨by omega,_,by simpa using c,d⟩⟩
   ·rw[if_neg (by simp;intro e f;exact d<|Co e f)];exact⟨_,rfl,.inr ⟨rfl,pY hs h g λx a=>by rw[c]at a;injection a with a;subst a;exact d⟩⟩
  ·rw[if_neg so];refine⟨_,rfl,.inr ⟨rfl,pY hs h g λx a=>by have:=zA a;omega⟩⟩
 ·intro lo hi x b l c;unfold vZ;have e:aA ((lo:Int)+(hi:Int))=((lo+hi:Nat):Int):=by rw[zv om om];omega
  have f:Int.tdiv ((lo+hi:Nat):Int) 2=(((lo+hi) / 2:Nat):Int):=rfl;have i:aA (((lo+hi) / 2:Nat):Int)=(((lo+hi) / 2:Nat):Int):=zv om om;have j:aA ((((lo+hi) / 2:Nat):Int)+1)=(((lo+hi) / 2+1:Nat):Int):=by rw[zv om om];omega
  rw[if_pos (by simp[b])];simp only[e,f,i,j,zq c,im,mW];cases lp x.1 p<;>rfl
 ·intro lo;unfold vZ;rw[if_neg si]
def Yw{ts:List aM}(hs:k_ ts)(hl:ts.length<=1048576)(p:Pt):∃k,vH ts p=some k/\qf ts p k:=by
 have g:∀x:aM,jJ x p=some (lW x.1 p):=λx=>by unfold jJ;rw[HU];rfl
 have key:=Ca hs hl (p:=p) (F:=zM ts p λq0 n=>jJ q0 n) ?_ ?_
 ·obtain⟨k,r,s,f,e⟩:=key;unfold vH nW uL;simp only[r,im];by_cases b:k<ts.length
  ·have c:ts[k]?=some ts[k]:=dj b;rw[if_pos (by simp[b])];simp only[zq c,im,g];by_cases d:ts[k].1=p
   ·rw[if_pos (by simp[AY,d])];exact⟨_,rfl,.inl ⟨by omega,_,by simpa using c,d⟩⟩
   ·rw[if_neg (by simp[AY,d])];exact⟨_,rfl,.inr ⟨rfl,pY hs f e λx a=>by rw[c]at a;injection a with a;subst a;exact d⟩⟩
  ·rw[if_neg so];refine⟨_,rfl,.inr ⟨rfl,pY hs f e λx a=>by have:=zA a;omega⟩⟩
 ·intro lo hi x b m c;unfold zM;have i:aA ((lo:Int)+(hi:Int))=((lo+hi:Nat):Int):=by rw[zv om om];omega
  have h:IntKind.wrap .u64 ((lo+hi:Nat):Int)=((lo+hi:Nat):Int):=by
   show((lo+hi:Nat):Int) % 18446744073709551616=((lo+hi:Nat):Int);omega
  have q:Int.fdiv ((lo+hi:Nat):Int) (2 ^ 1)=(((lo+hi) / 2:Nat):Int):=by
   rw[Int.fdiv_eq_ediv_of_nonneg _ om];omega
  have j:aA (((lo+hi) / 2:Nat):Int)=(((lo+hi) / 2:Nat):Int):=zv om om;have l:aA ((((lo+hi) / 2:Nat):Int)+1)=(((lo+hi) / 2+1:Nat):Int):=by rw[zv om om];omega
  rw[if_pos (by simp[b])];simp only[i,h,q,j,l,zq c,im,g,Br];cases lp x.1 p<;>rfl
 ·intro lo;unfold zM;rw[if_neg si]
def jZ(p:Pt)(dir:Int):Pt:=if dir=0 then(p.1,p.2+1)else(p.1+1,p.2)
def SC{p dir}(hp:cR p=true)(hd:dir=0\/dir=1):fZ p dir=some (jZ p dir)/\zT p dir=some (jZ p dir):=by
 obtain⟨c,d,f,e⟩:=Jo.1 hp;have w0:∀n:Int,-60<=n->n<=60->aA (n+1)=n+1/\aA (n+0)=n:=λn a b=>⟨zv om om,by rw[Int.add_zero];exact zv om om⟩;rcases hd with rfl | rfl
 ·refine⟨?_,?_⟩
  ·unfold fZ iH jZ;simp[(w0 p.2 f e).1]
  ·unfold zT lm jZ idx;simp[(w0 p.2 f e).1,zv (n:=p.1) om om]
 ·refine⟨?_,?_⟩
  ·unfold fZ iH jZ;simp[(w0 p.1 c d).1]
  ·unfold zT lm jZ idx;simp[(w0 p.1 c d).1,zv (n:=p.2) om om]
def Tp{set:TSet}(h:SetOk set){a b dir}(ha0:0<=a)(ha:a<=(set.2.length:Int) - 1)(hb0:0<=b)(hb:b<=(set.2.length:Int) - 1)(hd:dir=0\/dir=1):
  ∃v,lr set a dir b=some v/\lf set a dir b=some v/\0<=v/\v<=4:=by
 obtain⟨x,t,f⟩:=zU (l:=set.2) ha0 om;obtain⟨y,C,d⟩:=zU (l:=set.2) hb0 om;obtain⟨_,H,_,xs⟩:=h.tile _ (zA f) x f;obtain⟨_,M,_,N⟩:=h.tile _ (zA d) y d;obtain⟨g,s,q⟩:=zU (l:=x.2) (i:=dir) om om;obtain⟨A,m,w⟩:=zU (l:=y.2) (i:=dir+2) om om;have D:=xs g<|fx q;have c:po dir=some (dir+2)/\sQ dir=some (dir+2):=by
  rcases hd with rfl | rfl
  ·exact⟨rfl,rfl⟩
  ·exact⟨rfl,rfl⟩
 have n:∃v,kn set g=some v/\nU set a dir=some v/\0<=v/\v<=4:=by
  unfold kn nU;simp only[t,s,im];have L:=h.glues;by_cases r:g=0
  ·subst r;exact⟨0,rfl,rfl,by omega,by omega⟩
  ·rw[if_neg (by simpa using r),if_pos so];have B:aA (g - 1)=g - 1:=zv om om;obtain⟨u,E,e⟩:=zU (l:=set.1) (i:=g - 1) om om;obtain⟨_,J,I,_⟩:=h.glue _ (zA e) u e;simp only[B,E,im];exact⟨_,rfl,rfl,by omega,by omega⟩
 obtain⟨v,k,p,G,F⟩:=n;unfold lr lf;simp only[t,C,s,c.1,c.2,m,k,p,im];by_cases j:g=A
 ·rw[if_neg (by simp[j]),if_pos (by simp[j])];exact⟨v,rfl,rfl,G,F⟩
 ·rw[if_pos (by simp[j]),if_neg (by simp[j])];exact⟨0,rfl,rfl,by omega,by omega⟩
section
variable {set:TSet} {ts:List aM}
def Kb(hS:SetOk set)(hA:AsmOk set ts){i:Nat}{x:aM}(hx:ts[i]?=some x){dir:Int}(hd:dir=0\/dir=1):
  ∃nb:List Bd,nb.length<=1/\(∀b∈nb,WB ts.length b)/\
   (∀(l a:List Bd),a.length<=1048576->nZ set ts (l,(i:Int)) (a,dir)=some (.inl (a++nb,aA (dir - 1))))/\
   (∀(l a:List Bd),a.length<=1048576->∀j,idx [1,0] j=some dir->0<=j->j<2->zP (λs q0 N=>zX set ts s (q0,N)) ts ((i:Int),l) x (j,a)=some (.inl (aA (j+1),a++nb))):=by
 have d:=hA.1.srt;have T:ts.length<=500:=hA.1.1;have hi:=zA hx;obtain⟨F,Q,x1,_⟩:=hA.1.2 i hi x hx;obtain⟨p,h⟩:=SC F hd;obtain⟨k,J,m⟩:=Nv d om<|jZ x.1 dir;obtain⟨S,q,t⟩:=Yw d om<|jZ x.1 dir;obtain rfl:=m.uniq d t;have u:decide (dir≥0)=true:=by simp;omega
 have n:=hA.2 x<|fx hx;rcases m with⟨A,y,g,w⟩ |⟨A,_⟩
 ·have r:=hA.2 y<|fx g;obtain⟨v,O,C,P,R⟩:=Tp hS n.1 n.2 r.1 r.2 hd;have E:(i:Int)≠k:=λe=>by
   subst e;simp only[bh]at g;rw[hx]at g;injection g with g;subst g
   rcases hd with e | e
   ·have D:=congrArg Prod.snd w;rw[e]at D;have L:(jZ x.1 0).2=x.1.2+1:=rfl;omega
   ·have D:=congrArg Prod.fst w;rw[e]at D;have L:(jZ x.1 1).1=x.1.1+1:=rfl;omega
  have M:=zA g;refine⟨if v>0 then[((i:Int),k,v)]else[],by split<;>simp,?_,?_,?_⟩
  ·intro b B;split at B
   ·rw[ga]at B;subst B;exact⟨by simp only[];omega,by simp only[];omega,A,by simp only[];omega,E,P,by simp only[];omega⟩
   ·cases B
  ·intro l a f;unfold nZ xA oO;rw[if_pos u];simp only[zq hx,p,J,im];rw[if_neg so];simp only[fM A g,O,im];by_cases c:v>0
   ·rw[if_pos (by simpa using c),if_pos c,cG so so];rfl
   ·rw[if_neg (by simpa using c),if_neg c,bq]
  ·intro l a f j H G I;unfold zP qp zX;rw[if_pos so];simp only[H,h,q,im];rw[if_pos so];simp only[zq hx,fM A g,C,im];by_cases c:v>0
   ·rw[if_pos (by simpa using c),if_pos c,cG so so];rfl
   ·rw[if_neg (by simpa using c),if_neg c,bq];rfl
 ·refine⟨[],by simp,by simp,?_,?_⟩
  ·intro l a f;unfold nZ xA oO;rw[if_pos u];simp only[zq hx,p,J,im];rw[if_pos so,bq]
  ·intro l a f j H G I;unfold zP qp;rw[if_pos so];simp only[H,h,q,im];rw[if_neg so,bq]
def SF(hS:SetOk set)(hA:AsmOk set ts){i:Nat}{x:aM}(hx:ts[i]?=some x):
  ∃nb:List Bd,nb.length<=2/\(∀b∈nb,WB ts.length b)/\
   (∀(a:List Bd),a.length<=90000->iter (nZ set ts (a,(i:Int))) (a,1)=some (a++nb))/\
   (∀(a:List Bd),a.length<=90000->iter (zP (λs q0 k=>zX set ts s (q0,k)) ts ((i:Int),a) x) (0,a)=some (a++nb)):=by
 obtain⟨e,r,h,n,d1⟩:=Kb hS hA hx (dir:=1)<|.inr rfl;obtain⟨p,q,j,m,g⟩:=Kb hS hA hx (dir:=0)<|.inl rfl;refine⟨e++p,by simp;omega,λb l=>(fj.1 l).elim (h b)<|j b,λa c=>?_,λa c=>?_⟩
 ·rw[zt<|n a a om];have d:aA ((1:Int) - 1)=0:=by decide
  rw[d,zt<|m a (a++e) so];have f:aA ((0:Int) - 1) = -1:=by decide
  rw[f,bp];apply zy;unfold nZ;rw[if_neg si]
 ·rw[zt<|d1 a a om 0 rfl om om];have d:aA ((0:Int)+1)=1:=by decide
  rw[d,zt<|g a (a++e) so 1 rfl om om];have f:aA ((1:Int)+1)=2:=by decide
  rw[f,bp];apply zy;unfold zP;rw[if_neg si]
def Ia(hS:SetOk set)(hA:AsmOk set ts):∃bs:List Bd,ma set ts=some bs/\mL set ts=some bs/\eM ts.length bs/\bs.length<=1000:=by
 have w:ts.length<=500:=hA.1.1;have key:∀(d i:Nat)(a:List Bd),i+d=ts.length->a.length<=2*i->(∀b∈a,WB ts.length b)->
   ∃bs:List Bd,iter (n_ set ts) (a,(i:Int))=some bs/\iter (zQ (λs q0 g=>zX set ts s (q0,g)) ts) ((i:Int),a)=some bs/\(∀b∈bs,WB ts.length b)/\bs.length<=2*ts.length:=by
  intro d
  induction d with
  | zero=>
   intro i a hi c k;have:i=ts.length:=by omega
   subst this;refine⟨a,zy ?_,zy ?_,k,c⟩
   ·unfold n_;rw[if_neg si]
   ·unfold zQ;rw[if_neg si]
  | succ d ih=>
   intro i a hi c k;have e:i<ts.length:=by omega
   have l:ts[i]?=some ts[i]:=dj e;obtain⟨nb,x,u,n,p⟩:=SF hS hA l;have f:aA ((i:Int)+1)=((i+1:Nat):Int):=by rw[zv om om];omega
   have r:n_ set ts (a,(i:Int))=some (.inl (a++nb,((i+1:Nat):Int))):=by
    unfold n_ EU;rw[if_pos (by simp[e])];simp only[n a om,im,f]
   have q:zQ (λs q0 g=>zX set ts s (q0,g)) ts ((i:Int),a)=some (.inl (((i+1:Nat):Int),a++nb)):=by
    unfold zQ CH;rw[if_pos (by simp[e])];simp only[zq l,p a om,im,f]
   rw[zt r,zt q];exact ih (i+1) (a++nb) om so λb m=>(fj.1 m).elim (k b)<|u b
 obtain⟨bs,j,h,t,v⟩:=key ts.length 0 [] om si si;refine⟨bs,?_,?_,pP.2 t,by omega⟩
 ·unfold ma Da CN CI;have h:iter (zQ (λs q0 g=>zX set ts s (q0,g)) ts) (0,[])=some bs:=h;simp only[im,h]
 ·unfold mL EV;have j:iter (n_ set ts) ([],0)=some bs:=j;simp only[im,j]
def MN(hT:Tame set)(h:ts.length<=1048576)t:∃b,ko (set,ts,t)=some b/\kD (set,ts,t)=some b/\(b=true->SetOk set/\AsmOk set ts):=by
 obtain⟨a,D,q,p⟩:=Hg set hT;obtain⟨va,s,n⟩:=Gx set hT ts om;obtain⟨k,A,m⟩:=Ou set hT ts om;unfold ko kD pj Gw;simp only[q,s,A,im];by_cases g:(ts.length:Int)=0
 ·rw[if_pos (by simpa using g)];refine⟨false,rfl,?_,λh=>by cases h⟩;cases a<;>cases k<;>simp[g]
 rw[if_neg (by simpa using g)];cases hva:va with
 | false=>
  subst hva;refine⟨false,rfl,?_,λh=>by cases h⟩;cases l:a with
  | false=>rfl
  | true=>
   cases f:k with
   | false=>rfl
   | true=>
    have:=n.2 ⟨p.1 l,m.1 f⟩;cases this
 | true=>
  obtain⟨hS,hA⟩:=n.1 hva;have l:a=true:=p.2 hS;have f:k=true:=m.2 hA;subst l;subst f;have c:ww t=some (decide (1<=t/\t<=16))/\vR t=some (decide (1<=t/\t<=16)):=by
   constructor
   ·unfold ww;rw[fD];rfl
   ·unfold vR;rw[gM];rfl
  simp only[c.1,c.2,im];by_cases j:1<=t/\t<=16
  ·obtain⟨bs,v,r,C,E⟩:=Ia hS hA;obtain⟨x,y,z,w,B,u,d⟩:=PH (p0:=set) (p1:=ts) om (by have:=hA.1.1;omega) (by omega:bs.length<=100000) C v r t;simp only[j,decide_true,B,u,im];have i:ts≠[]:=λe=>g (by rw[e];rfl);cases y with
   | true=>
    simp only[bc,ba,if_false]at d ⊢;injection d with d e4
    subst d;subst e4;cases x with
    | true=>exact⟨true,by simp,by simp[i],λ_=>⟨hS,hA⟩⟩
    | false=>exact⟨false,by simp,by simp,λh=>by cases h⟩
   | false=>
    simp only[Bool.not_false,if_true]at d ⊢;injection d with d e4
    subst d;subst e4;exact⟨false,by simp,by simp,λh=>by cases h⟩
  ·refine⟨false,?_,?_,λh=>by cases h⟩
   ·simp[j]
   ·simp[j,g]
end
end Go.Lf
namespace Go.Lf
open Go Go.Proofs Go.Sort
def PW(ts:List aM):Prop:=ts.Pairwise λa b=>lp a.1 b.1=true
def PW.srt{ts}(h:PW ts):k_ ts:=by
 intro i j x y c b a;have hi:=zA b;have d:=zA a;have:=gi.1 h i j hi d c;rw[dj hi]at b;rw[dj d]at a;injection b with b
 injection a with a
 rw[←b,←a];exact this
def fb(x:aM):List aM->List aM
 |[]=>[x]
 | y::l=>if lp x.1 y.1=true then x::y::l else y::fb x l
def Bl(x:aM):∀l,(fb x l).Perm (l++[x])
 |[]=>.refl _
 | y::l=>by
  unfold fb;split
  ·exact(List.perm_append_singleton x (y::l)).symm
  ·exact(Bl x l).cons y
def Ja{x z l}(h:z∈fb x l):z=x\/z∈l:=by
 have:=(Bl x l).mem_iff.1 h;rcases fj.1 this with h | h
 ·exact .inr h
 ·exact .inl<|ga.1 h
def JF{x}:∀{l:List aM},PW l->(∀y∈l,y.1≠x.1)->PW (fb x l)
 |[],_,_=>List.pairwise_singleton _ _
 | y::l,h,hne=>by
  have c:=(gg.1 h).1;have d:=(gg.1 h).2;unfold fb;split
  ·rename_i hl;exact gg.2 ⟨λz a=>by
    rcases fq.1 a with rfl | a
    ·exact hl
    ·exact tM hl (c z a),h⟩
  ·rename_i hl;have b:lp y.1 x.1=true:=Oq (by simpa using hl) (λe=>hne y si e.symm);exact gg.2 ⟨λz a=>by
    rcases Ja a with rfl | a
    ·exact b
    ·exact c z a,JF d λz a=>hne z (by simp[a])⟩
def OS(ts:List aM)(hl:ts.length<=100000)(p:Pt)k:tf ts p k=some (fb (p,k) ts):=by
 have rest:∀(d i:Nat)(out:List aM),i+d=ts.length->out.length<=i+1->iter (iI ts p k) (true,(i:Int),out)=some (true,out++ts.drop i):=by
  intro d
  induction d with
  | zero=>
   intro i out hi j;have:i=ts.length:=by omega
   subst this;apply zy;unfold iI;rw[if_neg si,List.drop_length,bq]
  | succ d ih=>
   intro i out hi j;have c:i<ts.length:=by omega
   have h:ts[i]?=some ts[i]:=dj c;have g:aA ((i:Int)+1)=((i+1:Nat):Int):=by rw[zv om om];omega
   have a:iI ts p k (true,(i:Int),out)=some (.inl (true,((i+1:Nat):Int),out++[ts[i]])):=by
    unfold iI o_ pa;rw[if_pos (by simp[c]),if_neg si,if_neg si];simp only[zq h,im,cG (bytes:=24) (l:=out) (l2:=[ts[i]]) so so,g]
   rw[zt a,ih (i+1) _ om so,bu c];simp
 have f:∀(d i:Nat)(out:List aM),i+d=ts.length->out.length<=i->∃b o,iter (iI ts p k) (false,(i:Int),out)=some (b,o)/\su p k b o=some (out++fb (p,k) (ts.drop i)):=by
  intro d
  induction d with
  | zero=>
   intro i out hi j;have:i=ts.length:=by omega
   subst this;refine⟨false,out,zy ?_,?_⟩
   ·unfold iI;rw[if_neg si]
   ·unfold su sn;rw[if_pos si,List.drop_length,cG so so];rfl
  | succ d ih=>
   intro i out hi j;have c:i<ts.length:=by omega
   have h:ts[i]?=some ts[i]:=dj c;have g:aA ((i:Int)+1)=((i+1:Nat):Int):=by rw[zv om om];omega
   have hd:=bu c;cases hc:lp p ts[i].1 with
   | true=>
    have a:iI ts p k (false,(i:Int),out)=some (.inl (true,((i+1:Nat):Int),out++[(p,k)]++[ts[i]])):=by
     unfold iI o_ pa;rw[if_pos (by simp[c]),if_pos si];simp only[zq h,im,mW,hc,if_true,cG (bytes:=24) (l:=out) (l2:=[(p,k)]) so so,
      cG (bytes:=24) (l:=out++[(p,k)]) (l2:=[ts[i]]) so so,g]
    refine⟨true,_,(zt a).trans<|rest d (i+1) _ om so,?_⟩;unfold su sn;rw[if_neg si,hd,fb,if_pos hc];simp
   | false=>
    have a:iI ts p k (false,(i:Int),out)=some (.inl (false,((i+1:Nat):Int),out++[ts[i]])):=by
     unfold iI o_ pa;rw[if_pos (by simp[c]),if_pos si];simp only[zq h,im,mW,hc,cG (bytes:=24) (l:=out) (l2:=[ts[i]]) so so,g];rfl
    obtain⟨b,o,e,m⟩:=ih (i+1) (out++[ts[i]]) om so;refine⟨b,o,(zt a).trans e,?_⟩;rw[m,hd,fb,if_neg (by simp[hc])];simp
 obtain⟨b,o,e,m⟩:=f ts.length 0 [] om si;have e:iter (iI ts p k) (false,0,[])=some (b,o):=e;unfold tf;simp only[e,im,m];simp
def PV{pl ts:List aM}(hl:pl.length<=1048576)(hp:ts.Perm pl)(hs:PW ts):kp pl=some ts:=by
 unfold kp;rw[if_pos om];congr 1;have t:(λx y:aM=>decide (gA x y<0))=ltOf gA:=rfl;have h:=pdq_sorts (ltOf gA) uJ pl.toArray 0 pl.length (Lib.bitLen pl.length) true true (Nat.zero_le _) si<|Or.inl rfl;obtain⟨r,C⟩:∃r:Array aM,r=pdq (ltOf gA) pl.toArray 0 pl.length (Lib.bitLen pl.length) true true:=⟨_,rfl⟩;show(pdq (ltOf gA) pl.toArray 0 pl.length (Lib.bitLen pl.length) true true).toList=ts;rw[←C]at h ⊢;obtain⟨⟨m,_,q⟩,v⟩:=h;have m:r.size=pl.length:=by simpa using m
 have c:r.toList.Perm pl:=by
  have D:(r.extract 0 pl.length).toList=r.toList:=by rw[←m];simp
  have B:(pl.toArray.extract 0 pl.length).toList=pl:=by simp
  rw[D,B]at q;exact q
 have g:∀a b:aM,ltOf gA a b=lp a.1 b.1:=by
  intro a b;have:=Br (a:=a.1) (b:=b.1);exact this
 refine List.Perm.eq_of_pairwise (le:=λa b=>lp b.1 a.1=false) ?_ ?_ ?_<|c.trans hp.symm
 ·intro a b E u w s;have d:a.1=b.1:=Classical.byContradiction λe=>by
   have:=Oq w (λA=>e A.symm);rw[this]at s;cases s
  have p:a∈ts:=hp.mem_iff.2<|c.mem_iff.1 E;obtain⟨i,hi⟩:=du p;obtain⟨j,f⟩:=du u;have hs':=hs.srt;rcases ig i j with h | h | h
  ·exact absurd d<|kP<|hs' i j a b h hi f
  ·subst h;rw[hi]at f;injection f
  ·exact absurd d.symm<|kP<|hs' j i b a h f hi
 ·rw[gi];intro i j hi f k;have l:i<r.size:=by simpa using hi
  have n:j<r.size:=by simpa using f
  have:=v i j om k om;rw[g,getElem!_pos r i l,getElem!_pos r j n]at this;simpa using this
 ·refine hs.imp λ{a b} d=>?_;cases h:lp b.1 a.1 with
  | false=>rfl
  | true=>exact absurd rfl<|kP<|tM d h
end Go.Lf
namespace Go.Lf
open Go
def iZ(l:List aM)(p:Pt)(v:Int):Prop:=(∃k,v=k/\(p,k)∈l)\/(v = -1/\∀x∈l,x.1≠p)
def pT T(p:Pt):iZ T p (a_ T p):=by
 unfold a_ cW cB;cases h:T.find? (λq=>decide (q.1=p))with
 | none=>
  have a:=List.find?_eq_none.1 h;rw[if_neg (by
   rw[bl];rintro⟨x,b,hd⟩;exact a x b hd)]
  exact .inr ⟨rfl,λx b e=>a x b (by simpa using e)⟩
 | some x=>
  have a:=fv h;have c:x.1=p:=by simpa using List.find?_some h
  rw[if_pos<|bl.2 ⟨x,a,by simpa using c⟩];refine .inl ⟨x.2,rfl,?_⟩;rw[←c];exact a
def iZ.perm{l:List aM}{l' p v}(h:l.Perm l')(hv:iZ l p v):iZ l' p v:=by
 rcases hv with⟨k,e,a⟩ |⟨e,hn⟩
 ·exact .inl ⟨k,e,h.mem_iff.1 a⟩
 ·exact .inr ⟨e,λx b=>hn x<|h.mem_iff.2 b⟩
def Tb{l p a b}(h:PW l)(ha:(p,a)∈l)(hb:(p,b)∈l):a=b:=by
 obtain⟨i,hi⟩:=du ha;obtain⟨j,c⟩:=du hb;have hs:=h.srt;rcases ig i j with h1 | h1 | h1
 ·exact absurd (rfl:(p,a).1=(p,b).1)<|kP<|hs i j (p,a) (p,b) h1 hi c
 ·subst h1;rw[hi]at c;injection c with c;injection c
 ·exact absurd (rfl:(p,b).1=(p,a).1)<|kP<|hs j i (p,b) (p,a) h1 c hi
def iZ.uniq{l p v v'}(h:PW l)(h1:iZ l p v)(h2:iZ l p v'):v=v':=by
 rcases h1 with⟨k,e,c⟩ |⟨e,hn⟩<;>rcases h2 with⟨d,b,a⟩ |⟨b,hn'⟩
 ·rw[e,b];exact Tb h c a
 ·exact absurd rfl<|hn' _ c
 ·exact absurd rfl<|hn _ a
 ·rw[e,b]
def Qa{ts:List aM}(h:PW ts)(hl:ts.length<=1000)(hn:∀x∈ts,0<=x.2)(p:Pt):
  ∃k,jM ts p=some k/\∃v,jg ts p=some v/\iZ ts p v/\(k<0↔v<0):=by
 obtain⟨k,a,c⟩:=Nv h.srt om p;refine⟨k,a,?_⟩;unfold jg;rw[a];simp only[im];rcases c with⟨d,x,b,rfl⟩ |⟨rfl,hall⟩
 ·have hi:idx ts k=some x:=by unfold idx;rw[if_pos d];exact b
  have hm:=fx b;have:=hn x hm;rw[if_neg so,hi];exact⟨x.2,rfl,.inl ⟨x.2,rfl,hm⟩,by omega⟩
 ·exact⟨-1,by simp,.inr ⟨rfl,hall⟩,by omega⟩
def RJ{T ts:List aM}(hp:T.Perm ts)(h:PW ts)(hl:ts.length<=1000)(hn:∀x∈ts,0<=x.2)(p:Pt):
  jg ts p=some (a_ T p)/\∃k,jM ts p=some k/\(k<0↔a_ T p<0):=by
 obtain⟨k,d,v,b,c,a⟩:=Qa h hl hn p;have e:v=a_ T p:=c.uniq h<|(pT T p).perm hp;subst e;exact⟨b,k,d,a⟩
def zD(p:Pt)(d:Int):Pt:=if d=0 then(p.1,p.2+1)else if d=1 then(p.1+1,p.2)else if d=2 then(p.1,p.2 - 1)else(p.1 - 1,p.2)
def cH(d:Int):Prop:=d=0\/d=1\/d=2\/d=3
def jq{p d}(hp:cR p=true)(hd:cH d):fZ p d=some (zD p d)/\zT p d=some (zD p d):=by
 obtain⟨g,e,h,f⟩:=Jo.1 hp;have c:∀n:Int,-1000<=n->n<=1000->aA n=n:=λn a b=>zv om om;rcases hd with rfl | rfl | rfl | rfl
 ·refine⟨?_,?_⟩
  ·unfold fZ iH zD;simp[c (p.2+1) om om]
  ·unfold zT lm zD idx;simp[c (p.2+1) om om,c p.1 om om]
 ·refine⟨?_,?_⟩
  ·unfold fZ iH zD;simp[c (p.1+1) om om]
  ·unfold zT lm zD idx;simp[c (p.1+1) om om,c p.2 om om]
 ·refine⟨?_,?_⟩
  ·unfold fZ iH zD;simp[c (p.2 - 1) om om]
  ·unfold zT lm zD idx;simp[c (p.2 + -1) om om,c p.1 om om];omega
 ·refine⟨?_,?_⟩
  ·unfold fZ iH zD;simp[c (p.1 - 1) om om]
  ·unfold zT lm zD idx;simp[c (p.1 + -1) om om,c p.2 om om];omega
def dW(d:Int):Int:=if d=0 then 2 else if d=1 then 3 else if d=2 then 0 else 1
def BG{d}(hd:cH d):po d=some (dW d)/\sQ d=some (dW d)/\0<=dW d/\dW d<4:=by
 rcases hd with rfl | rfl | rfl | rfl<;>exact⟨rfl,rfl,by decide,by decide⟩
section
variable {set:TSet} (hS:SetOk set)
def TileIx(set:TSet)(k:Int):Prop:=0<=k/\k<=(set.2.length:Int) - 1
instance{set:TSet}{k:Int}:Decidable (TileIx set k):=inferInstanceAs (Decidable (_/\_))
def fO(set:TSet)(k d:Int):Int:=(((set.2[k.toNat]?).getD ([],[])).2[d.toNat]?).getD 0
def nK(set:TSet)(g:Int):Int:=if g=0 then 0 else((set.1[(g - 1).toNat]?).getD ([],0)).2
def tQ(hS:SetOk set){k d}(hk:TileIx set k)(hd:cH d):∃x,idx set.2 k=some x/\x.2.length=4/\idx x.2 d=some (fO set k d)/\0<=fO set k d/\fO set k d<=(set.1.length:Int):=by
 obtain⟨x,j,a⟩:=zU (l:=set.2) hk.1 (by have:=hk.2;omega);obtain⟨_,f,_,xs⟩:=hS.tile _ (zA a) x a;have c:0<=d/\d<4:=by rcases hd with rfl | rfl | rfl | rfl<;>decide
 obtain⟨g,h,b⟩:=zU (l:=x.2) (i:=d) om om;have e:fO set k d=g:=by unfold fO;rw[a];simp[b]
 rw[e];exact⟨x,j,f,h,xs g<|fx b⟩
def Jw(hS:SetOk set){g}(h0:0<=g)(h1:g<=(set.1.length:Int)):kn set g=some (nK set g)/\0<=nK set g/\nK set g<=4:=by
 have e:=hS.glues;unfold kn nK;by_cases b:g=0
 ·simp[b]
 ·rw[if_neg (by simpa using b),if_neg b];have c:aA (g - 1)=g - 1:=zv om om;obtain⟨u,d,a⟩:=zU (l:=set.1) (i:=g - 1) om om;obtain⟨_,h,f,_⟩:=hS.glue _ (zA a) u a;rw[c,d,a];exact⟨rfl,by simp;omega,by simp;omega⟩
def kT(set:TSet)(a d b:Int):Int:=if fO set a d=fO set b (dW d)then nK set (fO set a d)else 0
def ud{d}(hd:cH d):cH (dW d):=by rcases hd with rfl | rfl | rfl | rfl<;>unfold cH dW<;>simp
def tN(hS:SetOk set){a b d}(ha:TileIx set a)(hb:TileIx set b)(hd:cH d):lr set a d b=some (kT set a d b)/\lf set a d b=some (kT set a d b)/\0<=kT set a d b/\kT set a d b<=4:=by
 obtain⟨x,i,r,h,p,k⟩:=tQ hS ha hd;obtain⟨y,l,s,f,_,_⟩:=tQ hS hb<|ud hd;obtain⟨o1,o2,_⟩:=BG hd;obtain⟨c,m,j⟩:=Jw hS p k;have n:nU set a d=some (nK set<|fO set a d):=by
  have q:=hS.glues;unfold nU;rw[i];simp only[im,h];unfold kn at c;by_cases g:fO set a d=0
  ·rw[if_neg so,g];rfl
  ·rw[if_neg (by simpa using g)]at c;rw[if_pos so];exact c
 unfold lr lf kT;simp only[i,l,h,f,o1,o2,c,n,im];by_cases e:fO set a d=fO set b (dW d)
 ·simp only[e,decide_true,bc,ba,if_false,if_true];rw[←e];exact⟨trivial,trivial,m,j⟩
 ·simp[e]
def dP(set:TSet)(f:Pt->Int)(p:Pt)(k d:Int):Int:=if f (zD p d)≥0 then kT set k d (f (zD p d))else 0
def fT(set:TSet)(f:Pt->Int)(p:Pt)(k:Int):Int:=dP set f p k 0+dP set f p k 1+dP set f p k 2+dP set f p k 3
def lX(set:TSet)(f:Pt->Int):Prop:=∀p,f p<0\/TileIx set (f p)
def jz(hS:SetOk set){f:Pt->Int}(hf:lX set f)(p:Pt){k d}(hk:TileIx set k)(hd:cH d):0<=dP set f p k d/\dP set f p k d<=4:=by
 unfold dP;split
 ·rename_i h;rcases hf (zD p d)with h1 | h1
  ·omega
  ·exact(tN hS hk h1 hd).2.2
 ·omega
def Is{F:Int×Int->Option ((Int×Int) ⊕ Int)}{b:Int->Int}(hb:∀d,cH d->0<=b d/\b d<=1000)(h:∀s d,cH d->0<=s->s<=4000->F (s,d)=some (.inl (s+b d,d+1)))(he:∀s,F (s,4)=some (.inr s)):iter F (0,0)=some (b 0+b 1+b 2+b 3):=by
 have j:=hb 0<|.inl rfl;have i:=hb 1<|.inr<|.inl rfl;have g:=hb 2<|.inr<|.inr<|.inl rfl;have k:=hb 3<|.inr<|.inr<|.inr rfl;have a:F (0,0)=some (.inl (b 0,1)):=by have:=h 0 0 (.inl rfl) om om;simpa using this
 have c:F (b 0,1)=some (.inl (b 0+b 1,2)):=h _ 1 (.inr<|.inl rfl) om om;have f:F (b 0+b 1,2)=some (.inl (b 0+b 1+b 2,3)):=h _ 2 (.inr<|.inr<|.inl rfl) om om;have e:F (b 0+b 1+b 2,3)=some (.inl (b 0+b 1+b 2+b 3,4)):=h _ 3 (.inr<|.inr<|.inr rfl) om om;rw[zt a,zt c,zt f,zt e,zy<|he _]
def iY{d}(hd:cH d):d<4/\0<=d/\aA (d+1)=d+1:=by
 rcases hd with rfl | rfl | rfl | rfl<;>decide
def M_(hS:SetOk set){f:Pt->Int}(hf:lX set f){g:Pt->Option Int}{p k}(hp:cR p=true)(hg:∀d,cH d->g (zD p d)=some (f (zD p d)))(hk:TileIx set k):qN set p k g=some (fT set f p k):=by
 unfold qN;rw[Is (b:=dP set f p k) (λd hd=>by have:=jz hS hf p hk hd;omega) (λs d hd m c=>?_) (λs=>?_)]
 ·rfl
 ·obtain⟨l,_,i⟩:=iY hd;have j:=jz hS hf p hk hd;unfold CL vv;rw[if_pos (by simpa using l),(jq hp hd).2];simp only[im,hg d hd];unfold dP at j ⊢;by_cases h:f (zD p d)≥0
  ·have e:=hf<|zD p d;have a:TileIx set (f<|zD p d):=by rcases e with c | c;omega;exact c
   rw[if_pos h]at j ⊢;rw[if_pos (by simpa using h),(tN hS hk a hd).2.1];simp only[im,i];rw[zv om om]
  ·rw[if_neg h,if_neg (by simpa using h),i,Int.add_zero]
 ·unfold CL;rw[if_neg si]
def MZ(hS:SetOk set){f:Pt->Int}(hf:lX set f){ts p k}(hp:cR p=true)(hg:∀d,cH d->jg ts (zD p d)=some (f (zD p d)))(hk:TileIx set k):rR set ts p k=some (fT set f p k):=by
 unfold rR;rw[Is (b:=dP set f p k) (λd hd=>by have:=jz hS hf p hk hd;omega) (λs d hd l c=>?_) (λs=>?_)]
 ·rfl
 ·obtain⟨j,_,g⟩:=iY hd;have i:=jz hS hf p hk hd;unfold Dc wP;rw[if_pos (by simpa using j),(jq hp hd).1];simp only[im,hg d hd];unfold dP at i ⊢;by_cases h:f (zD p d)≥0
  ·have e:=hf<|zD p d;have a:TileIx set (f<|zD p d):=by rcases e with c | c;omega;exact c
   rw[if_pos h]at i ⊢;rw[if_pos (by simpa using h),(tN hS hk a hd).1];simp only[im,g];rw[zv om om]
  ·rw[if_neg h,if_neg (by simpa using h),g,Int.add_zero]
 ·unfold Dc;rw[if_neg si]
end
structure Cr(set:TSet)(T ts:List aM):Prop where
 perm:T.Perm ts
 pw:PW ts
 ok:∀x∈ts,cR x.1=true/\TileIx set x.2
 len:ts.length<=500
section
variable {set:TSet} {T ts:List aM}
def Cr.fok(h:Cr set T ts):lX set (a_ T):=λp=>by
 rcases(pT T p).perm h.perm with⟨k,e,a⟩ |⟨e,_⟩
 ·rw[e];exact .inr (h.ok _ a).2
 ·rw[e];exact .inl om
def Cr.at(h:Cr set T ts)(p:Pt):jg ts p=some (a_ T p)/\∃k,jM ts p=some k/\(k<0↔a_ T p<0):=RJ h.perm h.pw (by have:=h.len;omega) (λx a=>(h.ok x a).2.1) p
def Cr.free(h:Cr set T ts){p}:a_ T p<0↔∀x∈ts,x.1≠p:=by
 rcases(pT T p).perm h.perm with⟨k,e,b⟩ |⟨e,hn⟩
 ·have:=(h.ok _ b).2.1;rw[e];exact⟨λa=>by simp only at this;omega,λa=>absurd rfl<|a _ b⟩
 ·rw[e];exact⟨λ_=>hn,λ_=>by omega⟩
def eH(set:TSet)(t:Int)(T:List aM)(p:Pt)(k:Int):Bool:=cR p&&decide (a_ T p<0)&&decide (fT set (a_ T) p k≥t)
def AW(hS:SetOk set)(h:Cr set T ts){s0 t O p k}(hk:TileIx set k):oy ((set,s0,t),T,O) p k=some (eH set t T p k):=by
 unfold oy eH;rw[AJ];simp only[im];cases hp:cR p with
 | false=>simp
 | true=>
  rw[if_pos rfl];by_cases a:a_ T p<0
  ·rw[if_pos (by simpa using a),M_ hS h.fok hp (g:=rI ((set,s0,t),T,O)) (λd _=>rfl) hk];simp[a]
  ·rw[if_neg (by simpa using a)];simp[a]
def P'(hS:SetOk set)(h:Cr set T ts){s0 t p k}:Au (set,s0,t) ts (p,k)=some (decide (TileIx set k)&&eH set t T p k):=by
 unfold Au eH;rw[tj];simp only[im];cases hp:cR p with
 | false=>simp
 | true=>
  have g:=hS.tiles;rw[if_pos rfl,(tI set om k).2];simp only[im];by_cases b:TileIx set k
  ·obtain⟨i,hi,c⟩:=(h.at p).2;have a:decide (0<=k/\k<=(set.2.length:Int) - 1)=true:=decide_eq_true b;rw[a,if_pos rfl,hi];simp only[im];by_cases e:a_ T p<0
   ·rw[if_pos (by simpa using c.2 e),MZ hS h.fok hp (λd _=>(h.at _).1) b];simp[e,b]
   ·rw[if_neg (by simpa using λf=>e<|c.1 f)];simp[e]
  ·have a:decide (0<=k/\k<=(set.2.length:Int) - 1)=false:=decide_eq_false b;rw[a];simp[b]
def AC(hS:SetOk set)k:ov set k=some (decide (TileIx set k)):=by
 have a:=hS.tiles;exact(tI set om k).1
def fJ(set:TSet):List Int:=(List.range set.2.length).map λ(k:Nat)=>(k:Int)
def I_{k}:k∈fJ set↔TileIx set k:=by
 unfold fJ TileIx;rw[fu];constructor
 ·rintro⟨n,a,rfl⟩;have:=fz.1 a;omega
 ·rintro⟨c,b⟩;exact⟨k.toNat,fz.2 om,by omega⟩
def hY(set:TSet)(t:Int)(T:List aM)(p:Pt):List Int:=(fJ set).filter (eH set t T p)
def Rp(set:TSet)t T(p:Pt):(hY set t T p).length<=set.2.length:=by
 unfold hY;refine gy (ep _ _) ?_;unfold fJ;simp
def jW(set:TSet)(t:Int)(T:List aM)(p:Pt)(O:List (Pt×List Int))(d:Int):List (Pt×List Int):=if(hY set t T<|zD p d).length>0 then bQ O (zD p d) (hY set t T<|zD p d)else dX O<|zD p d
def fV(set:TSet)(t:Int)(T:List aM)(O:List (Pt×List Int))(p:Pt):List (Pt×List Int):=[0,1,2,3].foldl (jW set t T p) O
def Rf(hS:SetOk set)(h:Cr set T ts){s0 t O}i(p:Pt):iter (qo (i,((set,s0,t),T,O)) p) ([],0)=some (hY set t T p):=by
 have m:=hS.tiles;have hlen:(fJ set).length=set.2.length:=by unfold fJ;simp
 have key:=lA (F:=qo (i,((set,s0,t),T,O)) p) (fJ set) (λa x=>if eH set t T p x then a++[x]else a) [] om (λa i x e g=>?_) (λa g=>?_)
 ·rw[key];congr 1;have:=jO (eH set t T p) (λx:Int=>x) (fJ set) [];rw[this];simp[hY]
 ·have f:x=(i:Int):=by
   unfold fJ at e;rw[dt]at e;obtain⟨n,c,rfl⟩:=ip.1 e;have j:i<set.2.length:=by have:=zA c;simpa using this
   rw[dv j]at c;injection c with c
   rw[c]
  have b:i<set.2.length:=by rw[←hlen];exact zA e
  subst f;have k:a.length<=1000:=by
   rw[g];have:∀(l:List Int)(d:List Int),(l.foldl (λa x=>if eH set t T p x then a++[x]else a) d).length<=d.length+l.length:=by
    intro l
    induction l with
    | nil=>intro d;simp
    | cons y l ih=>intro d;rw[cw];refine gy (ih _) ?_;split<;>simp<;>omega
   refine gy (this _ _) ?_;rw[fd];simp;omega
  unfold qo uX;rw[if_pos (by simpa using b),AW hS h ⟨by omega,by omega⟩];simp only[im];cases eH set t T p (i:Int)with
  | true=>simp only[if_true];rw[cG so so];rfl
  | false=>rfl
 ·unfold qo;rw[if_neg (by simp[hlen])]
def I'(hS:SetOk set)(h:Cr set T ts){s0 t O p}(hp:cR p=true):qn ((set,s0,t),T,O) p=some ((set,s0,t),T,fV set t T O p):=by
 have step:∀(O:List (Pt×List Int))(d:Int),cH d->uK p (d,((set,s0,t),T,O))=some (.inl (d+1,((set,s0,t),T,jW set t T p O d))):=by
  intro O d hd;obtain⟨c,_,b⟩:=iY hd;unfold uK;rw[if_pos (by simpa using c),(jq hp hd).2];simp only[im];rw[Rf hS h];simp only[im];unfold CM uY jW;by_cases a:(hY set t T<|zD p d).length>0
  ·rw[if_pos (by simpa using a),if_pos a,b]
  ·rw[if_neg (by simpa using a),if_neg a,b]
 unfold qn;rw[zt<|step O 0<|.inl rfl,zt<|step _ (0+1)<|.inr<|.inl rfl,zt<|step _ (0+1+1)<|.inr<|.inr<|.inl rfl,zt<|step _ (0+1+1+1)<|.inr<|.inr<|.inr rfl,
  zy (x:=((set,s0,t),T,fV set t T O p)) (by unfold uK;rw[if_neg si];rfl)]
 rfl
def NH{T:List aM}{p:Pt}{k:Int}(h:∀x∈T,x.1≠p):bQ T p k=T++[(p,k)]:=by
 unfold bQ;rw[if_neg];unfold cW;rw[bl];rintro⟨x,a,hd⟩;exact h x a (by simpa using hd)
def fN(hA:AsmOk set ts):Cr set ts ts where
 perm:=.refl _
 pw:=by
  have hs:=hA.1.srt;unfold PW;rw[gi];intro i j hi hj hij;exact hs i j _ _ hij (dj hi)<|dj hj
 ok:=λx hx=>by
  obtain⟨i,hi⟩:=du hx;exact⟨(hA.1.2 i (zA hi) x hi).1,(hA.2 x hx)⟩
 len:=hA.1.1
def fW(set:TSet)(t:Int)(ts:List aM):List (Pt×List Int):=ts.foldl (λO x=>fV set t ts O x.1) []
def yQ(hS:SetOk set)(hA:AsmOk set ts)s0 t:mC (set,s0,t) ts=some ((set,s0,t),ts,fW set t ts):=by
 have g:=fN hA;have hlen:=g.len;unfold mC DQ;have q:iter (qB ts) (0,((set,s0,t),([]:List aM),([]:List (Pt×List Int))))=some ((set,s0,t),ts,[]):=by
  have key:=Hp (F:=qB ts) ts (λ(a:CrySt) x=>(a.1,a.2.1++[x],a.2.2)) (((set,s0,t),([]:List aM),([]:List (Pt×List Int)))) om (λa i x d c=>?_) (λa c=>?_)
  ·rw[key];congr 1;have:∀(l:List aM)(a:CrySt),l.foldl (λ(a:CrySt) x=>(a.1,a.2.1++[x],a.2.2)) a=(a.1,a.2.1++l,a.2.2):=by
    intro l
    induction l with
    | nil=>intro a;simp
    | cons y l ih=>intro a;rw[cw,ih];simp
   rw[this];simp
  ·have b:=zA d;have f:∀(l:List aM)(a:CrySt),l.foldl (λ(a:CrySt) x=>(a.1,a.2.1++[x],a.2.2)) a=(a.1,a.2.1++l,a.2.2):=by
    intro l
    induction l with
    | nil=>intro a;simp
    | cons y l ih=>intro a;rw[cw,ih];simp
   rw[f]at c;unfold qB;rw[if_pos (by simpa using b),zq d];simp only[im];rw[NH (T:=a.2.1) (p:=x.1) (k:=x.2) (λy m=>by
    rw[c]at m;simp only[gc]at m;obtain⟨j,h⟩:=du m;have e:j<i:=by have:=zA h;rw[fd]at this;omega
    rw[ec,if_pos e]at h;exact kP<|g.pw.srt j i _ _ e h d)]
  ·unfold qB;rw[if_neg si]
 have n:iter (qA ts) (0,((set,s0,t),ts,([]:List (Pt×List Int))))=some ((set,s0,t),ts,fW set t ts):=by
  have f:∀(l:List aM)(O:List (Pt×List Int)),l.foldl (λ(a:CrySt) x=>(a.1,a.2.1,fV set t ts a.2.2 x.1)) ((set,s0,t),ts,O)=((set,s0,t),ts,l.foldl (λO x=>fV set t ts O x.1) O):=by
   intro l
   induction l with
   | nil=>intro O;rfl
   | cons y l ih=>intro O;rw[cw,cw,ih]
  have key:=Hp (F:=qA ts) ts (λ(a:CrySt) x=>(a.1,a.2.1,fV set t ts a.2.2 x.1)) (((set,s0,t),ts,([]:List (Pt×List Int)))) om (λa i x d c=>?_) (λa c=>?_)
  ·rw[key,f];rfl
  ·have b:=zA d;rw[f]at c;subst c;unfold qA;rw[if_pos (by simpa using b),zq d];simp only[im];rw[I' hS g (g.ok x<|fx d).1];rfl
  ·unfold qA;rw[if_neg si]
 rw[q];simp only[im];rw[n];rfl
end
section
variable {set:TSet} {T ts:List aM}
def Cr.put(h:Cr set T ts){t p k}(hf:eH set t T p k=true)(hk:TileIx set k)(hl:ts.length<500):Cr set (bQ T p k) (fb (p,k) ts)/\bQ T p k=T++[(p,k)]:=by
 unfold eH at hf;simp only[av,decide_eq_true_eq]at hf;obtain⟨⟨hp,c⟩,_⟩:=hf;have b:=h.free.1 c;have e:bQ T p k=T++[(p,k)]:=NH λx a=>b x<|h.perm.mem_iff.1 a;refine⟨⟨?_,JF h.pw (λy d=>b y d),λx a=>?_,?_⟩,e⟩
 ·rw[e];exact(h.perm.append_right _).trans (Bl _ _).symm
 ·rcases Ja a with rfl | a
  ·exact⟨hp,hk⟩
  ·exact h.ok x a
 ·rw[(Bl _ _).length_eq];simp;omega
def JN(hS:SetOk set)(h:Cr set T ts){s0 t O p k}(hf:eH set t T p k=true)(hk:TileIx set k)(hl:ts.length<500):
  r_ ((set,s0,t),T,O) p k=some ((set,s0,t),bQ T p k,fV set t (bQ T p k) (dX O p) p):=by
 have hp:cR p=true:=by
  unfold eH at hf;simp only[av]at hf;exact hf.1.1
 unfold r_;have:=I' hS (h.put hf hk hl).1 (s0:=s0) (t:=t) (O:=dX O p) hp;simp only at this ⊢;rw[this];rfl
def ew(seq:List aM)(T:List aM):List aM:=seq.foldl (λT o=>bQ T o.1 o.2) T
def cY(seq:List aM)(ts:List aM):List aM:=seq.foldl (λts o=>fb (o.1,o.2) ts) ts
def Played(set:TSet)(t:Int):List aM->List aM->Prop
 | _,[]=>True
 | T,o::seq=>TileIx set o.2/\eH set t T o.1 o.2=true/\T.length<500/\Played set t (bQ T o.1 o.2) seq
def OF seq(o:aM)ts:cY (seq++[o]) ts=fb (o.1,o.2) (cY seq ts):=by unfold cY;simp
def OE seq(o:aM)T:ew (seq++[o]) T=bQ (ew seq T) o.1 o.2:=by unfold ew;simp
def Az{t o}:∀{seq:List aM} {T:List aM},Played set t T (seq++[o])↔Played set t T seq/\TileIx set o.2/\eH set t (ew seq T) o.1 o.2=true/\(ew seq T).length<500
 |[],T=>by unfold ew;simp[Played]
 | x::seq,T=>by
  rw[List.cons_append];unfold Played;rw[Az];unfold ew;rw[cw];simp only[and_assoc]
def AS{t}:∀{seq:List aM} {T ts:List aM},Cr set T ts->Played set t T seq->Cr set (ew seq T) (cY seq ts)
 |[],T,ts,h,_=>h
 | o::seq,T,ts,h,hp=>by
  obtain⟨b,c,d,e⟩:=hp;have a:ts.length<500:=by rw[←h.perm.length_eq];exact d
  show Cr set (ew seq (bQ T o.1 o.2)) (cY seq (fb (o.1,o.2) ts));exact AS (h.put c b a).1 e
inductive PlayR (set:TSet) (t:Int) (ts:List aM) (seq:List aM):List aM×Int×Int->Prop where
 | ok:Played set t ts seq->PlayR set t ts seq (cY seq ts,0,0)
 | bad (a b c):c≠0->¬Played set t ts seq->PlayR set t ts seq (a,b,c)
def GY{t T}:∀{seq:List aM} (i:Nat),Played set t T seq->Played set t T (seq.take i):=by
 intro seq
 induction seq generalizing T with
 | nil=>intro i _;simp[Played]
 | cons o seq ih=>
  intro i h;cases i with
  | zero=>trivial
  | succ i=>exact⟨h.1,h.2.1,h.2.2.1,ih i h.2.2.2⟩
def Jq(hS:SetOk set)(hA:AsmOk set ts)t{seq:List aM}(hlen:seq.length<=500):
  ∃r O,iter (lk (set,ts,t) seq) (0,((set,ts,t),ts,fW set t ts))=some r/\PlayR set t ts seq (match r with | .inl q=>(cY seq ts,0,0) | .inr z=>z)/\
   (match r with | .inl q=>q=((set,ts,t),ew seq ts,O) | .inr z=>True)/\
   iter (lg (set,ts,t) seq) (0,ts)=some (match r with | .inl q=>.inl (cY seq ts) | .inr z=>.inr z):=by
 have L:=fN hA;have u:∀(m i:Nat)(O:List (Pt×List Int)),i+m=seq.length->Played set t ts (seq.take i)->
   ∃r y,iter (lk (set,ts,t) seq) ((i:Int),((set,ts,t),ew (seq.take i) ts,O))=some r/\PlayR set t ts seq (match r with | .inl q=>(cY seq ts,0,0) | .inr z=>z)/\
    (match r with | .inl q=>q=((set,ts,t),ew seq ts,y) | .inr z=>True)/\
    iter (lg (set,ts,t) seq) ((i:Int),cY (seq.take i) ts)=some (match r with | .inl q=>.inl (cY seq ts) | .inr z=>.inr z):=by
  intro m
  induction m with
  | zero=>
   intro i O hi hp;have A:i=seq.length:=by omega
   subst A;rw[gm]at hp ⊢;refine⟨.inl ((set,ts,t),ew seq ts,O),O,zy ?_,.ok hp,rfl,zy ?_⟩
   ·unfold lk;rw[if_neg si]
   ·unfold lg;rw[if_neg si]
  | succ m ih=>
   intro i O hi hp;have e:i<seq.length:=by omega
   obtain⟨o,H⟩:∃o,o=seq[i]:=⟨_,rfl⟩;have s:seq[i]?=some o:=by rw[dj e,H]
   have B:aA ((i:Int)+1)=((i+1:Nat):Int):=by rw[zv om om];omega
   have f:=AS L hp;have l:seq.take (i+1)=seq.take i++[o]:=by rw[gl,s];rfl
   have d:=P' hS f (s0:=ts) (t:=t) (p:=o.1) (k:=o.2);have j:∀{a b c},c≠0->¬(TileIx set o.2/\eH set t (ew (seq.take i) ts) o.1 o.2=true/\(ew (seq.take i) ts).length<500)->PlayR set t ts seq (a,b,c):=λw J=>
    .bad _ _ _ w λx=>J (by
     have:=GY (i+1) x;rw[l,Az]at this;exact this.2)
   have E:(cY (seq.take i) ts).length=(ew (seq.take i) ts).length:=f.perm.length_eq.symm;by_cases g:TileIx set o.2
   ·by_cases n:eH set t (ew (seq.take i) ts) o.1 o.2=true
    ·by_cases C:(ew (seq.take i) ts).length<500
     ·have v:=JN hS f (s0:=ts) (O:=O) n g om;obtain⟨r,y,G,D,I,F⟩:=ih (i+1) (fV set t (bQ (ew (seq.take i) ts) o.1 o.2) (dX O o.1) o.1) om (by rw[l,Az];exact⟨hp,g,n,C⟩);refine⟨r,y,?_,D,I,?_⟩
      ·rw[←G];refine zt ?_;unfold lk;rw[if_pos (by simpa using e),zq s];simp only[im];rw[AC hS,AW hS f g];simp only[im,g,n,decide_true,bc,ba,if_false];unfold mg;rw[if_neg si];unfold nO;rw[if_pos (by simp only;omega)];simp only[im];rw[if_neg so,v];simp only[im,B,l,OE]
      ·rw[←F];refine zt ?_;unfold lg;rw[if_pos (by simpa using e),zq s];simp only[im];rw[show((o.1,o.2):aM)=o from rfl]at d;rw[d];simp only[im,g,n,decide_true,Bool.and_true,bc,ba,if_false];unfold yu;rw[if_neg so,OS _ om];simp only[im,B,l,OF];simp
     ·refine⟨.inr ([],0,4),O,zy ?_,j (by decide) (λh=>C h.2.2),trivial,zy ?_⟩
      ·unfold lk;rw[if_pos (by simpa using e),zq s];simp only[im];rw[AC hS,AW hS f g];simp only[im,g,n,decide_true,bc,ba,if_false];unfold mg;rw[if_neg si];unfold nO;have:=f.len;rw[if_pos (by simp only;omega)];simp only[im];rw[if_pos so]
      ·unfold lg;rw[if_pos (by simpa using e),zq s];simp only[im];rw[show((o.1,o.2):aM)=o from rfl]at d;rw[d];simp only[im,g,n,decide_true,Bool.and_true,bc,ba,if_false];unfold yu;rw[if_pos so];simp
    ·refine⟨.inr ([],i,5),O,zy ?_,j (by decide) (λh=>n h.2.1),trivial,zy ?_⟩
     ·unfold lk;rw[if_pos (by simpa using e),zq s];simp only[im];rw[AC hS,AW hS f g];simp[g,n,mg]
     ·unfold lg;rw[if_pos (by simpa using e),zq s];simp only[im];rw[show((o.1,o.2):aM)=o from rfl]at d;rw[d];simp[g,n]
   ·refine⟨.inr ([],i,5),O,zy ?_,j (by decide) (λh=>g h.1),trivial,zy ?_⟩
    ·unfold lk;rw[if_pos (by simpa using e),zq s];simp only[im];rw[AC hS];simp[g,mg]
    ·unfold lg;rw[if_pos (by simpa using e),zq s];simp only[im];rw[show((o.1,o.2):aM)=o from rfl]at d;rw[d];simp[g]
 have:=u seq.length 0 (fW set t ts) om trivial;simpa[ew,cY]using this
def Hk(hS:SetOk set)(hA:AsmOk set ts)t(hV:ko (set,ts,t)=some true)(hV':kD (set,ts,t)=some true)(seq:List aM)(hl:seq.length<=2000000):
  ∃r,oD (set,ts,t) seq=some r/\qY (set,ts,t) seq=some r/\(r.2.2=0->seq.length<=500/\Played set t ts seq/\r.1=cY seq ts)/\(seq.length<=500->Played set t ts seq->r=(cY seq ts,0,0)):=by
 have f:=hA.1.1;unfold oD qY;rw[hV,hV'];simp only[im,bc,ba,if_false];by_cases hlen:seq.length<=500
 ·rw[if_neg so,if_neg so];have d:=yQ hS hA ts t;rw[d];simp only[im];unfold px;obtain⟨r,O,k,c,e,j⟩:=Jq hS hA t hlen;have g:kB ts=some ts:=by unfold kB;rw[cG so so];rfl
  simp only;rw[g,k];simp only[im];rw[j];cases r with
  | inl q=>
   simp only at c e ⊢;subst e;have b:Played set t ts seq:=by
    cases c with
    | ok h=>exact h
    | bad _ _ _ h _=>exact absurd rfl h
   have a:=AS (fN hA) b;refine⟨(cY seq ts,0,0),?_,?_,λ_=>⟨hlen,b,rfl⟩,λ_ _=>rfl⟩
   ·unfold DN vE;simp only;have i:=a.len;rw[PV (by rw[a.perm.length_eq];omega) a.perm.symm a.pw];rfl
   ·simp only[im,FB]
  | inr z=>
   simp only at c ⊢;refine⟨z,rfl,by simp,λh=>?_,λ_ b=>?_⟩
   ·cases c with
    | ok h'=>exact⟨hlen,h',rfl⟩
    | bad _ _ _ h0 _=>exact absurd h h0
   ·cases c with
    | ok h=>rfl
    | bad _ _ _ h0 hn=>exact absurd b hn
 ·rw[if_pos so,if_pos so];exact⟨_,rfl,rfl,λh=>by simp at h,λh=>absurd h hlen⟩
end
section
variable {set:TSet} {T ts:List aM}
def dM(set:TSet)(f:Pt->Int)(p:Pt)(d:Int):Int:=if f (zD p d)<0 then 0 else fO set (f (zD p d)) (dW d)
def eN(set:TSet)(t:Int)(f:Pt->Int)(p:Pt):List Int:=(fJ set).filter λk=>decide (fT set f p k≥t)
def JG(hS:SetOk set){f:Pt->Int}(hf:lX set f)(p:Pt){d}(hd:cH d):0<=dM set f p d/\dM set f p d<=(set.1.length:Int):=by
 unfold dM;split
 ·omega
 ·rcases hf (zD p d)with h | h
  ·omega
  ·obtain⟨_,_,_,_,a⟩:=tQ hS h<|ud hd;exact a
def TL(a b c e:Int){d}(hd:cH d):idx [a,b,c,e] d=some (if d=0 then a else if d=1 then b else if d=2 then c else e):=by
 rcases hd with rfl | rfl | rfl | rfl<;>rfl
def Sj(hS:SetOk set){f:Pt->Int}(hf:lX set f){rest p}(hp:cR p=true)(hg:∀d,cH d->jg rest (zD p d)=some (f (zD p d))):
  iter (sD set rest p) ([],0)=some [dM set f p 0,dM set f p 1,dM set f p 2,dM set f p 3]:=by
 have step:∀(l:List Int)(d:Int),cH d->l.length<=4->sD set rest p (l,d)=some (.inl (l++[dM set f p d],d+1)):=by
  intro l d hd i;obtain⟨e,_,c⟩:=iY hd;unfold sD yD dM;rw[if_pos (by simpa using e),(jq hp hd).1];simp only[im,hg d hd];by_cases h:f (zD p d)<0
  ·rw[if_pos (by simpa using h),if_pos h,cG so so];simp only[im,c]
  ·have a:TileIx set (f<|zD p d):=by rcases hf (zD p d)with h1 | h1;omega;exact h1
   obtain⟨y,g,j,b,_,_⟩:=tQ hS a<|ud hd;rw[if_neg (by simpa using h),if_neg h,g];simp only[im,(BG hd).1,b];rw[cG so so];simp only[im,c]
 rw[zt<|step [] 0 (.inl rfl) si,zt<|step _ (0+1) (.inr<|.inl rfl) si,zt<|step _ (0+1+1) (.inr<|.inr<|.inl rfl) si,zt<|step _ (0+1+1+1) (.inr<|.inr<|.inr rfl) si];refine zy ?_;unfold sD;rw[if_neg si];rfl
def Ki(hS:SetOk set){f:Pt->Int}(hf:lX set f){rest p}(hp:cR p=true)(hg:∀d,cH d->jg rest (zD p d)=some (f (zD p d)))t:
  tp set rest p t=some (eN set t f p):=by
 have P:=hS.tiles;have hlen:(fJ set).length=set.2.length:=by unfold fJ;simp
 unfold tp GB;rw[Sj hS hf hp hg];simp only[im];have g:∀(l:List Int)(k:Int),TileIx set k->iter (xZ set [dM set f p 0,dM set f p 1,dM set f p 2,dM set f p 3] (l,k)) (0,0)=some (fT set f p k):=by
  intro l k w;refine Is (b:=dP set f p k) (λd hd=>by have:=jz hS hf p w hd;omega) (λs d hd L N=>?_) (λs=>?_)
  ·obtain⟨H,_,q⟩:=iY hd;obtain⟨x,e,J,D,M,O⟩:=tQ hS w hd;have u:idx [dM set f p 0,dM set f p 1,dM set f p 2,dM set f p 3] d=some (dM set f p d):=by
    rw[TL _ _ _ _ hd];rcases hd with rfl | rfl | rfl | rfl<;>rfl
   unfold xZ yL;rw[if_pos (by simpa using H),e];simp only[im,D,u];have v:=jz hS hf p w hd;have hs:=Jw hS (JG hS hf p hd).1 (JG hS hf p hd).2;unfold dP kT at v ⊢;by_cases h:f (zD p d)≥0
   ·have A:dM set f p d=fO set (f<|zD p d) (dW d):=by unfold dM;rw[if_neg om]
    rw[if_pos h]at v ⊢;rw[A]at hs ⊢;by_cases c:fO set k d=fO set (f<|zD p d) (dW d)
    ·rw[if_pos c]at v ⊢;rw[if_pos (by simpa using c),hs.1];simp only[im,q];rw[c,zv om om]
    ·rw[if_neg c,if_neg (by simpa using c),q,Int.add_zero]
   ·have A:dM set f p d=0:=by unfold dM;rw[if_pos om]
    rw[if_neg h];rw[A];by_cases c:fO set k d=0
    ·rw[if_pos (by simpa using c)];have:kn set 0=some 0:=rfl;rw[this];simp only[im,q];rw[zv om om]
    ·rw[if_neg (by simpa using c),q,Int.add_zero]
  ·unfold xZ;rw[if_neg si]
 have key:=lA (F:=x_ set t [dM set f p 0,dM set f p 1,dM set f p 2,dM set f p 3]) (fJ set) (λa x=>if decide (fT set f p x≥t)then a++[x]else a) [] om (λa i x e E=>?_) (λa E=>?_)
 ·rw[key];simp only[im,GA];congr 1;have:=jO (λk=>decide (fT set f p k≥t)) (λx:Int=>x) (fJ set) [];rw[this];simp[eN]
 ·have B:TileIx set x:=I_.1<|fx e;have C:x=(i:Int):=by
   unfold fJ at e;rw[dt]at e;obtain⟨n,m,rfl⟩:=ip.1 e;have G:i<set.2.length:=by have:=zA m;simpa using this
   rw[dv G]at m;injection m with m
   rw[m]
  have j:i<set.2.length:=by rw[←hlen];exact zA e
  subst C;have I:a.length<=1000:=by
   rw[E];have:∀(l:List Int)(r:List Int),(l.foldl (λa x=>if decide (fT set f p x≥t)then a++[x]else a) r).length<=r.length+l.length:=by
    intro l
    induction l with
    | nil=>intro r;simp
    | cons y l ih=>intro r;rw[cw];refine gy (ih _) ?_;split<;>simp<;>omega
   refine gy (this _ _) ?_;rw[fd];simp;omega
  unfold x_ Gz yM;rw[if_pos (by simpa using j),g _ _ B];simp only[im];by_cases h:fT set f p (i:Int)≥t
  ·rw[if_pos (by simpa using h),if_pos (by simpa using h),cG so so];rfl
  ·rw[if_neg (by simpa using h),if_neg (by simpa using h)]
 ·unfold x_;rw[if_neg (by simp[hlen])]
def Tq(set:TSet)t(f:Pt->Int)(p:Pt):(eN set t f p).length<=set.2.length:=by
 unfold eN;refine gy (ep _ _) ?_;unfold fJ;simp
def YU(l:List Pt)(hl:l.length<=1000000)(p:Pt):∃l',xv l p=some l'/\(∀q,q∈l'↔q∈l\/q=p)/\l'.length<=l.length+1:=by
 obtain⟨at_,s,I,E⟩:∃a:Nat,iter (nS l p) (l.length:Int)=some (a:Int)/\0<=a/\a<=l.length:=by
  have key:∀n:Nat,n<=l.length->∃a:Nat,iter (nS l p) (n:Int)=some (a:Int)/\0<=a/\a<=l.length:=by
   intro n
   induction n with
   | zero=>
    intro F;refine⟨0,zy ?_,by omega,by omega⟩;unfold nS og;rw[if_neg si];rfl
   | succ n ih=>
    intro F;have f:aA (((n+1:Nat):Int) - 1)=(n:Int):=by rw[zv om om];omega
    have e:l[n]?=some l[n]:=dj om;cases c:lp l[n] p with
    | true=>
     refine⟨n+1,zy ?_,by omega,F⟩;unfold nS og;rw[if_pos (by simp<;>omega),f,zq e];simp only[im,mW,c];rfl
    | false=>
     obtain⟨a,E,G,H⟩:=ih om;refine⟨a,?_,G,H⟩;rw[←E];refine zt ?_;unfold nS og;rw[if_pos (by simp<;>omega),f,zq e];simp only[im,mW,c];rfl
  exact key l.length<|gv _
 have fb:∃l',oh l p (at_:Int) false=some l'/\(∀q,q∈l'↔q∈l\/q=p)/\l'.length<=l.length+1:=by
  unfold oh;rw[if_neg si,cG so so];simp only[im];have D:aA (((l++[p]).length:Int) - 1)=(l.length:Int):=by rw[ef,fc,zv om om];omega
  rw[D];have key:∀(m i:Nat)(L:List Pt),i=at_+m->i<=l.length->L.length=l.length+1->(∀j,j<i->L[j]?=l[j]?)->(∀j,i<j->L[j]?=l[j - 1]?)->
    ∃L',iter (vg (at_:Int)) (L,(i:Int))=some L'/\L'.length=l.length+1/\(∀j,j<at_->L'[j]?=l[j]?)/\(∀j,at_<j->L'[j]?=l[j - 1]?):=by
   intro m
   induction m with
   | zero=>
    intro i L hi B w k x;have:i=at_:=by omega
    subst this;refine⟨L,zy ?_,w,k,x⟩;unfold vg;rw[if_neg si]
   | succ m ih=>
    intro i L hi B w k x;have f:aA ((i:Int) - 1)=((i - 1:Nat):Int):=by rw[zv om om];omega
    have e:L[i - 1]?=some (l[i - 1]'om):=by rw[k _ om,dj om]
    have A:L[i]?=some (L[i]'om):=dj om;obtain⟨L',y,t,r,g⟩:=ih (i - 1) (L.set i<|l[i - 1]'om) om om (by simp[w]) (λj b=>by rw[dy om];exact k j om) (λj b=>by
     by_cases v:j=i
     ·subst v;rw[dz om,dj om]
     ·rw[dy om];exact x j om)
    refine⟨L',?_,t,r,g⟩;rw[←y];refine zt ?_;unfold vg;rw[if_pos so,f,zq e];simp only[im];rw[zq A];simp
  obtain⟨L',y,t,r,g⟩:=key (l.length - at_) l.length (l++[p]) om (gv _) si (λj b=>by rw[df b]) (λj b=>by
   rw[dl so,dl om])
  rw[y];simp only[im];unfold DE;have A:L'[at_]?=some (L'[at_]'om):=dj om;rw[zq A];simp only[im];refine⟨_,rfl,λq=>?_,by simp[t]⟩;simp only[bh];constructor
  ·intro u;obtain⟨j,b⟩:=du u;by_cases d:j=at_
   ·subst d;rw[dz om]at b;injection b with b;exact .inr b.symm
   ·rw[dy<|Ne.symm d]at b;rcases ie d with h | h
    ·rw[r j h]at b;exact .inl<|fx b
    ·rw[g j h]at b;exact .inl<|fx b
  ·rintro(u | rfl)
   ·obtain⟨j,b⟩:=du u;rcases ic j at_ with h | h
    ·exact fx (i:=j) (by rw[dy om,r j h];exact b)
    ·exact fx (i:=j+1) (by rw[dy om,g (j+1) om];exact b)
   ·exact fx (i:=at_)<|dz om
 unfold xv;rw[s];simp only[im];unfold DF;by_cases c:at_<l.length
 ·have e:l[at_]?=some l[at_]:=dj c;rw[if_pos (by simpa using c),zq e];simp only[im];by_cases C:l[at_]=p
  ·rw[show(decide (l[at_].1=p.1)&&decide (l[at_].2=p.2))=true by rw[C];simp];unfold oh;refine⟨l,rfl,λq=>⟨.inl,λh=>?_⟩,by omega⟩;rcases h with h | rfl
   ·exact h
   ·rw[←C];exact ed c
  ·rw[show(decide (l[at_].1=p.1)&&decide (l[at_].2=p.2))=false by
    cases hb:(decide (l[at_].1=p.1)&&decide (l[at_].2=p.2))with
    | false=>rfl
    | true=>simp at hb;exact absurd (Prod.ext hb.1 hb.2) C]
   exact fb
 ·rw[if_neg (by simpa using c)];exact fb
def nN(T:List aM)(q:Pt):Prop:=cR q=true/\a_ T q<0
def RU(hS:SetOk set)(h:Cr set T ts){x:aM}{i:Nat}(hx:ts[i]?=some x)(l0:List Pt)(l:List Pt)(A:l.length<=100000):
  ∃l',iter (qZ ts (l0,(i:Int))) (l,0)=some l'/\(∀q,q∈l'↔q∈l\/∃d,cH d/\q=zD x.1 d/\nN T q)/\l'.length<=l.length+4:=by
 have j:=(h.ok x<|fx hx).1;have step:∀(l:List Pt)(d:Int),cH d->l.length<=170004->∃l',qZ ts (l0,(i:Int)) (l,d)=some (.inl (l',d+1))/\(∀q,q∈l'↔q∈l\/q=zD x.1 d/\nN T q)/\l'.length<=l.length+1:=by
  intro l d hd A;obtain⟨D,_,m⟩:=iY hd;unfold qZ;rw[if_pos (by simpa using D),zq hx];simp only[im,(jq j hd).1,tj];cases hb:cR (zD x.1 d)with
  | false=>
   rw[if_neg si];unfold rP rQ;refine⟨l,by rw[if_neg si,m],λq=>⟨.inl,λa=>?_⟩,by omega⟩;rcases a with a |⟨rfl,hf⟩
   ·exact a
   ·rw[hf.1]at hb;cases hb
  | true=>
   rw[if_pos rfl];obtain⟨k,r,c⟩:=(h.at<|zD x.1 d).2;rw[r];simp only[im];unfold rP rQ;by_cases g:a_ T (zD x.1 d)<0
   ·obtain⟨l',y,s,F⟩:=YU l om<|zD x.1 d;rw[if_pos (by simpa using c.2 g),y];simp only[im,m];refine⟨l',rfl,λq=>?_,F⟩;rw[s];exact or_congr Iff.rfl ⟨λe=>⟨e,by rw[e];exact⟨hb,g⟩⟩,λe=>e.1⟩
   ·rw[if_neg (by simpa using λb=>g<|c.1 b),m];refine⟨l,rfl,λq=>⟨.inl,λa=>?_⟩,by omega⟩;rcases a with a |⟨rfl,hf⟩
    ·exact a
    ·exact absurd hf.2 g
 obtain⟨l1,E,n,G⟩:=step l 0 (.inl rfl) om;obtain⟨l2,a2,B,c2⟩:=step l1 1 (.inr<|.inl rfl) om;obtain⟨u,t,p,H⟩:=step l2 2 (.inr<|.inr<|.inl rfl) om;obtain⟨w,v,C,I⟩:=step u 3 (.inr<|.inr<|.inr rfl) om;refine⟨w,?_,λq=>?_,by omega⟩
 ·rw[zt E,show((0:Int)+1)=1 from rfl,zt a2,show((1:Int)+1)=2 from rfl,zt t,show((2:Int)+1)=3 from rfl,zt v];refine zy ?_;unfold qZ;rw[if_neg si]
 ·rw[C,p,B,n];constructor
  ·rintro((((a | a) | a) | a) | a)
   ·exact .inl a
   ·exact .inr ⟨0,.inl rfl,a.1,a.2⟩
   ·exact .inr ⟨1,.inr<|.inl rfl,a.1,a.2⟩
   ·exact .inr ⟨2,.inr<|.inr<|.inl rfl,a.1,a.2⟩
   ·exact .inr ⟨3,.inr<|.inr<|.inr rfl,a.1,a.2⟩
  ·rintro(a |⟨d,hd,b,f⟩)
   ·exact .inl<|.inl<|.inl<|.inl a
   ·rcases hd with rfl | rfl | rfl | rfl
    ·exact .inl<|.inl<|.inl<|.inr ⟨b,f⟩
    ·exact .inl<|.inl<|.inr ⟨b,f⟩
    ·exact .inl<|.inr ⟨b,f⟩
    ·exact .inr ⟨b,f⟩
def ni(T ts:List aM)(q:Pt):Prop:=∃x∈ts,∃d,cH d/\q=zD x.1 d/\nN T q
def RT(hS:SetOk set)(h:Cr set T ts):∃l,z_ ts=some l/\(∀q,q∈l↔ni T ts q)/\l.length<=2000:=by
 have hlen:=h.len;have e:∀(m i:Nat)(l:List Pt),i+m=ts.length->l.length<=4*i->(∀q,q∈l↔ni T (ts.take i) q)->∃l',iter (q_ ts) (l,(i:Int))=some l'/\(∀q,q∈l'↔ni T ts q)/\l'.length<=2000:=by
  intro m
  induction m with
  | zero=>
   intro i l hi r f;have:i=ts.length:=by omega
   subst this;rw[gm]at f;refine⟨l,zy ?_,f,by omega⟩;unfold q_;rw[if_neg si]
  | succ m ih=>
   intro i l hi r f;have c:i<ts.length:=by omega
   have a:ts[i]?=some ts[i]:=dj c;have j:aA ((i:Int)+1)=((i+1:Nat):Int):=by rw[zv om om];omega
   obtain⟨l',n,k,w⟩:=RU hS h a l l om;obtain⟨l2,t,v,p⟩:=ih (i+1) l' om om (λq=>by
    rw[k,f,tF a];unfold ni;constructor
    ·rintro(⟨x,a,b⟩ |⟨d,hd,b⟩)
     ·exact⟨x,fj.2<|.inl a,b⟩
     ·exact⟨ts[i],fj.2<|.inr<|ga.2 rfl,d,hd,b⟩
    ·rintro⟨x,a,d,hd,b⟩;rcases fj.1 a with a | a
     ·exact .inl ⟨x,a,d,hd,b⟩
     ·rw[ga.1 a]at b;exact .inr ⟨d,hd,b⟩)
   refine⟨l2,?_,v,p⟩;rw[←t];refine zt ?_;unfold q_;rw[if_pos (by simpa using c),n];simp only[im,FC,j]
 obtain⟨l,g,s,u⟩:=e ts.length 0 [] om si (λq=>by unfold ni;simp);refine⟨l,?_,s,u⟩;unfold z_;have g:iter (q_ ts) ([],0)=some l:=g;rw[g];rfl
def NC(hS:SetOk set)(h:Cr set T ts)s0 t:∃out,oF (set,s0,t) ts=some out/\(out=[]↔∀q,ni T ts q->eN set t (a_ T) q=[])/\out.length<=1000000:=by
 obtain⟨a,S,B,U⟩:=RT hS h;have N:=hS.tiles;unfold oF;rw[S];simp only[im];have r:∀(m i:Nat)(out:List aM),i+m=a.length->out.length<=160*i->(out=[]↔∀q∈a.take i,eN set t (a_ T) q=[])->
   ∃out',iter (qy (set,s0,t) ts a) (out,(i:Int))=some out'/\(out'=[]↔∀q∈a,eN set t (a_ T) q=[])/\out'.length<=1000000:=by
  intro m
  induction m with
  | zero=>
   intro i out hi M c;have:i=a.length:=by omega
   subst this;rw[gm]at c;refine⟨out,zy ?_,c,by omega⟩;unfold qy;rw[if_neg si]
  | succ m ih=>
   intro i out hi M c;have p:i<a.length:=by omega
   obtain⟨q,E⟩:∃q,q=a[i]:=⟨_,rfl⟩;have w:a[i]?=some q:=by rw[dj p,E]
   have J:aA ((i:Int)+1)=((i+1:Nat):Int):=by rw[zv om om];omega
   obtain⟨x,O,d,hd,L,f⟩:=(B q).1<|fx w;have s:=Ki hS h.fok f.1 (λd _=>(h.at _).1) t;obtain⟨A,hA⟩:∃A,A=eN set t (a_ T) q:=⟨_,rfl⟩;have H:A.length<=160:=by rw[hA];exact gy (Tq _ _ _ _) N
   rw[←hA]at s;have l:∀(m j:Nat)(o:List aM),j+m=A.length->o=out++(A.take j).map (λk=>(q,k))->iter (qx a (out,(i:Int)) q A) (o,(j:Int))=some (out++A.map (λk=>(q,k))):=by
    intro m
    induction m with
    | zero=>
     intro j o R b;have:j=A.length:=by omega
     subst this;rw[gm]at b;subst b;refine zy ?_;unfold qx;rw[if_neg si]
    | succ m ih2=>
     intro j o R b;have u:j<A.length:=by omega
     have F:A[j]?=some A[j]:=dj u;have C:aA ((j:Int)+1)=((j+1:Nat):Int):=by rw[zv om om];omega
     have G:o.length<=400000:=by rw[b,ef,er,fd];omega
     rw[←ih2 (j+1) (o++[(q,A[j])]) om (by rw[b,tF F,fe,←bp];rfl)];refine zt ?_;unfold qx;rw[if_pos (by simpa using u),zq w];simp only[im];rw[zq F];simp only[im];rw[cG so so];simp only[im,C]
   have g:=l A.length 0 out om si;obtain⟨o2,P,I,Q⟩:=ih (i+1) (out++A.map (λk=>(q,k))) om so (by
    rw[tF w,List.append_eq_nil_iff,c];constructor
    ·rintro⟨e,y⟩ D n;rcases fj.1 n with v | v
     ·exact e D v
     ·rw[ga.1 v,←hA];simpa using y
    ·intro e;exact⟨λD n=>e D (by simp[n]),by rw[hA,e q si];rfl⟩)
   refine⟨o2,?_,I,Q⟩;rw[←P];refine zt ?_;unfold qy;rw[if_pos (by simpa using p),zq w];simp only[im];rw[s];simp only[im];have g:iter (qx a (out,(i:Int)) q A) (out,0)=some (out++A.map (λk=>(q,k))):=g;rw[g];simp only[im,Ef,J]
 obtain⟨o,e,y,v⟩:=r a.length 0 [] om si si;have e:iter (qy (set,s0,t) ts a) ([],0)=some o:=e;refine⟨o,by rw[e];rfl,?_,v⟩;rw[y];exact⟨λh q c=>h q<|(B q).2 c,λh q c=>h q<|(B q).1 c⟩
end
end Go.Lf
