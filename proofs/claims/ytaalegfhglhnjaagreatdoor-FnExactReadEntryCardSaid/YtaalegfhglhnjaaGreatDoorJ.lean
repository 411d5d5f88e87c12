import Derived.Test.YtaalegfhglhnjaaGreatDoorI
set_option linter.all false
namespace Go.Lf
open Go
section
variable{p:Prop}{α:Sort _}(x:α){β:Sort _}(y:β){γ:Sort _}(z:γ){δ:Sort _}(u:δ){ε:Sort _}(v:ε){ζ:Sort _}(w:ζ){η:Sort _}(t:η){θ:Sort _}(s:θ){ι:Sort _}(q:ι){ν:Sort _}(n:ν){ξ:Sort _}(m:ξ){ο:Sort _}(k:ο){ρ:Sort _}(g:ρ){φ:Sort _}(c:φ)
def Q4(h:let x:=x;let y:=y;p:=by intro x y;exact⟨_,rfl,.inr ⟨rfl,q_ hs x y λx a=>by rw[b]at a;injection a with a;subst a;exact c⟩⟩):=h
def U4(h:p:=by rw[Ϙ (by simp<;>omega),f,zr d];simp only[gy,nS,hlt];rfl):=h
end
def lp(a b:Pt):Bool:=(a.2<b.2:Ϛ)||((a.2=b.2:Ϛ)&&(a.1<b.1:Ϛ))
def CU{a b}:lp a b=true↔a.2<b.2\/(a.2=b.2/\a.1<b.1):=by unfold lp;simp
def UZ{a b}:lp a b=false↔b.2<a.2\/(a.2=b.2/\b.1<=a.1):=by unfold lp;simp;omega
def u_{a b c}(h1:lp a b=true)(h2:lp b c=true):lp a c=true:=by
 rw[CU]at *;omega
def lx{a b}(h:lp a b=true):a≠b:=by
 rw[CU]at h;intro e;subst e;omega
def vN{a b:Pt}(h1:a.1=b.1)(h2:a.2=b.2):a=b:=Prod.ext h1 h2
def OX{a b}(h1:lp a b=false)(h2:a≠b):lp b a=true:=by
 rw[UZ]at h1;rw[CU];rcases Int.lt_trichotomy a.1 b.1 with h | h | h
 ·omega
 ·rcases h1 with h3 | h3
  ·exact .inl h3
  ·exact x4 (vN h h3.1) h2
 ·omega
def nS(a b:Pt):nJ a b=some (lp a b):=by
 unfold nJ lp;by_cases c:a.2<b.2<;>by_cases d:a.2=b.2<;>simp[c,d]
def lJ(a b:Pt):Int:=if a.2<b.2 then -1 else if b.2<a.2 then 1 else if a.1<b.1 then -1 else if b.1<a.1 then 1 else 0
def GN(a b:Pt):kD a b=some (lJ a b):=by
 unfold kD;rw[BR,BR];simp only[gy,Iv];congr 1;unfold lJ
 repeat' split
 all_goals first | rfl | omega
def BT{a b}:(lJ a b<0:Ϛ)=lp a b:=by
 unfold lJ lp;by_cases f:a.2<b.2
 ·simp[f]
 ·by_cases i:b.2<a.2
  ·simp[f,i];omega
  ·have d:a.2=b.2:=by omega
   by_cases c:a.1<b.1
   ·simp[d,c]
   ·by_cases h:b.1<a.1
    ·simp[d,c,h]
    ·simp[d,c,h]
def BG{a b}:lJ a b=0↔a=b:=by
 unfold lJ;constructor
 ·intro h;apply vN<;>(repeat' split at h)<;>omega
 ·intro h;subst h;simp
def Oo(a b:Pt):Aq a b=some (lp a b):=by
 unfold Aq;rw[GN];simp only[gy];rw[BT]
def dD(p:Pt):Bool:=(-60<=p.1/\p.1<=60:Ϛ)&&(-60<=p.2/\p.2<=60:Ϛ)
def Ir{p}:dD p=true ↔ -60<=p.1/\p.1<=60 /\ -60<=p.2/\p.2<=60:=by
 unfold dD;simp;omega
def Bt(p:Pt):qh p=some (dD p):=by
 unfold qh dD;simp only[gS,gy];by_cases h : -60<=p.1/\p.1<=60
 ·simp[h]
 ·simp only[h,ϡ,Bool.false_and];rfl
def uN(p:Pt):nM p=some (dD p):=by
 unfold nM dD;simp only[hP,gy];by_cases h : -60<=p.1/\p.1<=60
 ·simp[h]
 ·simp only[h,ϡ,Bool.false_and];rfl
def Dl(ts:List aP)(i:Nat):Prop:=∀x,ts[i]?=some x->dD x.1=true/\0<=x.2/\x.2<=159/\∀y,1<=i->ts[i - 1]?=some y->lp y.1 x.1=true
def FormOk(ts:List aP):Prop:=ts.length<=500/\∀i,i<ts.length->Dl ts i
def RE(ts:List aP)(h:ts.length<=2000000):∃b,AR ts=some b/\(b=true↔FormOk ts):=by
 unfold AR MH;have key:=ko (λi=>(i:Int)) 0 ts.length (Dl ts) (ny ts) om ?_ ?_ ?_
 ·rcases key with⟨k,n⟩ |⟨k,hnot⟩
  ·have k:iter (ny ts) 0=some (.inl ()):=k;rw[k];refine⟨_,rfl,?_⟩;simp only[ϛ];exact⟨λz=>⟨by omega,λi hi=>n i om hi⟩,λv=>by have:=v.1;omega⟩
  ·have k:iter (ny ts) 0=some (.inr false):=k;rw[k];exact⟨false,rfl,A1,λv=>x4 (λi _ hi=>v.2 i hi) hnot⟩
 ·intro i _ hi _ c;have m:ts[i]?=some ts[i]:=cn hi;obtain⟨o1,o2,B,A⟩:=c _ m;have w:aB ((i:Int)+1)=((i+1:Nat):Int):=ψ
  have f:aB ((160:Int) - 1)=159:=zt om om;unfold ny nG iV;rw[Ϙ (by simp[hi])];simp only[zr m,gy,Bt,o1,f,gS];rw[ϙ si,ϙ so];by_cases u:(i:Int)>0
  ·have r:ts[i - 1]?=some (ts[i - 1]'om):=cn om;have j:aB ((i:Int) - 1)=((i - 1:Nat):Int):=ψ
   rw[Ϙ (by simpa using u)];simp only[j,zr r,gy,Oo,A _ om r,w];rfl
  ·rw[ϙ (by simpa using u)];simp[w]
 ·intro i _ hi _ c;have m:ts[i]?=some ts[i]:=cn hi;have f:aB ((160:Int) - 1)=159:=zt om om;unfold ny nG iV;rw[Ϙ (by simp[hi])];simp only[zr m,gy,Bt,f,gS];cases hp:dD ts[i].1 with
  | false=>simp
  | true=>
   rw[ϙ si];by_cases l:0<=ts[i].2/\ts[i].2<=159
   ·rw[ϙ (by simp[l])];by_cases u:(i:Int)>0
    ·have r:ts[i - 1]?=some (ts[i - 1]'om):=cn om;have j:aB ((i:Int) - 1)=((i - 1:Nat):Int):=ψ
     rw[Ϙ (by simpa using u)];simp only[j,zr r,gy,Oo];cases z:lp (ts[i - 1]'om).1 ts[i].1 with
     | false=>simp
     | true=>
      refine x4 (λx a=>?_) c;rw[m]at a;injection a with a;subst a
      exact⟨hp,l.1,l.2,λy _ d=>by rw[r]at d;injection d with d;subst d;exact z⟩
    ·refine x4 (λx a=>?_) c;rw[m]at a;injection a with a;subst a
     exact⟨hp,l.1,l.2,λy C _=>by omega⟩
   ·rw[Ϙ (by simp only[l,ϡ];rfl)];simp
 ·intro _;unfold ny;rw[ϙ si]
def QF(ts:List aP)(h:ts.length<=2000000):∃b,AY ts=some b/\(b=true↔FormOk ts):=by
 unfold AY Mz;by_cases w:ts.length>500
 ·rw[Ϙ so];exact⟨false,rfl,A1,λu=>by have:=u.1;omega⟩
 rw[ϙ so];have key:=ko (λi=>(i:Int)) 0 ts.length (Dl ts) (nw ts) om ?_ ?_ ?_
 ·rcases key with⟨j,m⟩ |⟨j,hnot⟩
  ·have j:iter (nw ts) 0=some (.inl ()):=j;rw[j];exact⟨true,rfl,λ_=>⟨by omega,λi hi=>m i om hi⟩,λ_=>rfl⟩
  ·have j:iter (nw ts) 0=some (.inr false):=j;rw[j];exact⟨false,rfl,A1,λu=>x4 (λi _ hi=>u.2 i hi) hnot⟩
 ·intro i _ hi _ c;have l:ts[i]?=some ts[i]:=cn hi;obtain⟨o1,o2,A,z⟩:=c _ l;have v:aB ((i:Int)+1)=((i+1:Nat):Int):=ψ
  unfold nw nC;rw[Ϙ (by simp[hi])];simp only[zr l,gy,uN,o1,hP];rw[ϙ si,ϙ so];by_cases r:(i:Int)>0
  ·have n:ts[i - 1]?=some (ts[i - 1]'om):=cn om;have f:aB ((i:Int) - 1)=((i - 1:Nat):Int):=ψ
   rw[Ϙ (by simpa using r)];simp only[f,zr n,gy,nS,z _ om n,v];rfl
  ·rw[ϙ (by simpa using r)];simp[v]
 ·intro i _ hi _ c;have l:ts[i]?=some ts[i]:=cn hi;unfold nw nC;rw[Ϙ (by simp[hi])];simp only[zr l,gy,uN,hP];cases hp:dD ts[i].1 with
  | false=>simp
  | true=>
   rw[ϙ si];by_cases k:0<=ts[i].2/\ts[i].2<=159
   ·rw[ϙ (by simp[k])];by_cases r:(i:Int)>0
    ·have n:ts[i - 1]?=some (ts[i - 1]'om):=cn om;have f:aB ((i:Int) - 1)=((i - 1:Nat):Int):=ψ
     rw[Ϙ (by simpa using r)];simp only[f,zr n,gy,nS];cases w:lp (ts[i - 1]'om).1 ts[i].1 with
     | false=>simp
     | true=>
      refine x4 (λx a=>?_) c;rw[l]at a;injection a with a;subst a
      exact⟨hp,k.1,k.2,λy _ d=>by rw[n]at d;injection d with d;subst d;exact w⟩
    ·refine x4 (λx a=>?_) c;rw[l]at a;injection a with a;subst a
     exact⟨hp,k.1,k.2,λy B _=>by omega⟩
   ·rw[Ϙ (by simp only[k,ϡ];rfl)];simp
 ·intro _;unfold nw;rw[ϙ si]
def dF(set:TSet)(ts:List aP):Prop:=FormOk ts/\∀x∈ts,0<=x.2/\x.2<=(set.2.length:Int) - 1
def uV(set:TSet)(h:set.2.length<=1048576)k:pO set k=some (0<=k/\k<=(set.2.length:Int) - 1:Ϛ)/\un set k=some (0<=k/\k<=(set.2.length:Int) - 1:Ϛ):=by
 have a:aB ((set.2.length:Int) - 1)=(set.2.length:Int) - 1:=zt om om;constructor
 ·unfold pO iV;simp only[a,gS,gy]
 ·unfold un;simp only[a,hP,gy]
def Fq(set:TSet)(hT:Tame set)(ts:List aP)(h:ts.length<=2000000):∃b,jW set ts=some b/\(b=true↔SetOk set/\dF set ts):=by
 obtain⟨a,n,_,j⟩:=FU set hT;obtain⟨f,r,l⟩:=RE ts h;unfold jW;simp only[n,gy];cases a with
 | false=>exact⟨false,rfl,A1,λh=>j.2 h.1⟩
 | true=>
  rw[Ϙ rfl];simp only[r,gy];cases f with
  | false=>exact⟨false,rfl,A1,λh=>l.2 h.2.1⟩
  | true=>
   rw[Ϙ rfl];unfold mY mM wL;have hp:∀b∈ts,(λq0=>pF q0 set) b=some (!(0<=b.2/\b.2<=(set.2.length:Int) - 1:Ϛ)):=by
    intro b _;simp only[pF,(uV set hT.t b.2).1,gy]
   rcases kX ts h (λq0=>pF q0 set) (λb=>!(0<=b.2/\b.2<=(set.2.length:Int) - 1:Ϛ)) hp (we ts λq0=>pF q0 set) (λi=>rfl)with⟨d,c⟩ |⟨k,d,hk,_,b,hb,hq⟩
   ·rw[d];refine⟨true,rfl,λ_=>⟨j.1 rfl,l.1 rfl,λx u=>?_⟩,λ_=>rfl⟩;have:=c x u;exact w8
   ·rw[d];refine⟨false,?_,A1,λm=>?_⟩
    ·simp
    ·have:=m.2.2 b<|fe hb;simp at hq;omega
def Pg(set:TSet)(hT:Tame set)(ts:List aP)(h:ts.length<=2000000):∃b,qI set ts=some b/\(b=true↔dF set ts):=by
 obtain⟨f,u,l⟩:=QF ts h;unfold qI MR;simp only[u,gy];cases f with
 | false=>exact⟨false,rfl,A1,λh=>l.2 h.1⟩
 | true=>
  rw[ϙ si];have key:=ko (λi=>(i:Int)) 0 ts.length (λi=>∀x,ts[i]?=some x->0<=x.2/\x.2<=(set.2.length:Int) - 1) (nz set ts) om ?_ ?_ ?_
  ·rcases key with⟨j,k⟩ |⟨j,hnot⟩
   ·have j:iter (nz set ts) 0=some (.inl ()):=j;rw[j];refine⟨true,rfl,λ_=>⟨l.1 rfl,λx c=>?_⟩,λ_=>rfl⟩;obtain⟨i,hi⟩:=cz c;exact k i om (zz hi) x hi
   ·have j:iter (nz set ts) 0=some (.inr false):=j;rw[j];exact⟨false,rfl,A1,λn=>x4 (λi _ hi x c=>n.2 x<|fe c) hnot⟩
  ·intro i _ hi _ d;have c:ts[i]?=some ts[i]:=cn hi;have m:aB ((i:Int)+1)=((i+1:Nat):Int):=ψ
   unfold nz;rw[Ϙ (by simp[hi])];simp only[zr c,gy,(uV set hT.t _).2,m];rw[ϙ (by simp only[d _ c];simp)]
  ·intro i _ hi _ d;have c:ts[i]?=some ts[i]:=cn hi;unfold nz;rw[Ϙ (by simp[hi])];simp only[zr c,gy,(uV set hT.t _).2];have:¬(0<=ts[i].2/\ts[i].2<=(set.2.length:Int) - 1):=λr=>d λx a=>by rw[c]at a;injection a with a;subst a;exact r
   rw[Ϙ (by simp only[this,ϡ];rfl)]
  ·intro _;unfold nz;rw[ϙ si]
def lH(ts:List aP):Prop:=∀(i j:Nat)(x y:aP),i<j->ts[i]?=some x->ts[j]?=some y->lp x.1 y.1=true
def FormOk.srt{ts}(h:FormOk ts):lH ts:=by
 intro i j
 induction j with
 | zero=>intro x y c;omega
 | succ j ih=>
  intro x y c b f;have l:=zz f;have d:ts[j]?=some (ts[j]'om):=cn om;have k:=(h.2 (j+1) l y f).2.2.2 _ om d;by_cases a:i=j
  ·subst a;rw[d]at b;injection b with b;subst b;exact k
  ·exact u_ (ih x _ om b d) k
def rl(ts:List aP)(p:Pt)(k:Int):Prop:=(0<=k/\∃x,ts[k.toNat]?=some x/\x.1=p)\/(k = -1/\∀x∈ts,x.1≠p)
def rl.uniq{ts p k k'}(hs:lH ts)(h:rl ts p k)(h':rl ts p k'):k=k':=by
 rcases h with⟨f,x,c,e⟩ |⟨f,h1⟩<;>rcases h' with⟨d,y,a,b⟩ |⟨d,h3⟩
 ·rcases gm k.toNat k'.toNat with h | h | h
  ·exact x4 (e.trans b.symm)<|lx<|hs _ _ _ _ h c a
  ·omega
  ·exact x4 (b.trans e.symm)<|lx<|hs _ _ _ _ h a c
 ·exact x4 e<|h3 x<|fe c
 ·exact x4 b<|h1 y<|fe a
 ·omega
def CZ{ts:List aP}(hs:lH ts)(hl:ts.length<=1048576){F:Int×Int->Option ((Int×Int) ⊕ Int)}{p}(hF:∀(lo hi:Nat)(x:aP),lo<hi->hi<=ts.length->ts[(lo+hi) / 2]?=some x->F ((lo:Int),(hi:Int))=some (.inl (if lp x.1 p then((((lo+hi) / 2+1:Nat):Int),(hi:Int))else((lo:Int),(((lo+hi) / 2:Nat):Int)))))(hstop:∀(lo:Int),F (lo,lo)=some (.inr lo)):
  ∃k:Nat,iter F (0,(ts.length:Int))=some (k:Int)/\k<=ts.length/\(∀(i:Nat) x,i<k->ts[i]?=some x->lp x.1 p=true)/\∀(i:Nat) x,k<=i->ts[i]?=some x->lp x.1 p=false:=by
 have key:=zy (F:=F) (λs=>∃lo hi:Nat,s=((lo:Int),(hi:Int))/\lo<=hi/\hi<=ts.length/\(∀(i:Nat) x,i<lo->ts[i]?=some x->lp x.1 p=true)/\∀(i:Nat) x,hi<=i->ts[i]?=some x->lp x.1 p=false)
  (λs=>(s.2 - s.1).toNat) (λz=>∃k:Nat,z=(k:Int)/\k<=ts.length/\(∀(i:Nat) x,i<k->ts[i]?=some x->lp x.1 p=true)/\∀(i:Nat) x,k<=i->ts[i]?=some x->lp x.1 p=false) ?_ (0,(ts.length:Int))
  ⟨0,ts.length,rfl,by omega,gd _,λi x hi=>by omega,λi x hi b=>by have:=zz b;omega⟩
 ·obtain⟨z,m,k,rfl,h⟩:=key;exact⟨k,m,h⟩
 ·rintro s ⟨lo,hi,rfl,n,d,j,f⟩;by_cases hlt:lo<hi
  ·left;have b:ts[(lo+hi) / 2]?=some (ts[(lo+hi) / 2]'om):=cn om;refine⟨_,hF lo hi _ hlt d b,?_⟩;cases hc:lp (ts[(lo+hi) / 2]'om).1 p with
   | true=>
    rw[Ϙ rfl];refine⟨⟨(lo+hi) / 2+1,hi,rfl,by omega,d,λi x c a=>?_,f⟩,ϖ⟩;rcases gj i ((lo+hi) / 2)with h | h
    ·exact u_ (hs _ _ _ _ h a b) hc
    ·have:i=(lo+hi) / 2:=by omega
     subst this;rw[b]at a;injection a with a;subst a;exact hc
   | false=>
    rw[ϙ si];refine⟨⟨lo,(lo+hi) / 2,rfl,by omega,by omega,j,λi x c a=>?_⟩,ϖ⟩;rcases gj ((lo+hi) / 2) i with h | h
    ·have l:=hs _ _ _ _ h b a;cases hc2:lp x.1 p with
     | false=>rfl
     | true=>rw[u_ l hc2]at hc;cases hc
    ·have:i=(lo+hi) / 2:=by omega
     subst this;rw[b]at a;injection a with a;subst a;exact hc
  ·right;have:lo=hi:=by omega
   subst this;exact⟨_,hstop _,lo,rfl,d,j,f⟩
def q_{ts:List aP}(hs:lH ts){p k}(h1:∀(i:Nat) x,i<k->ts[i]?=some x->lp x.1 p=true)(h2:∀(i:Nat) x,k<=i->ts[i]?=some x->lp x.1 p=false)(h:∀x,ts[k]?=some x->x.1≠p):∀x∈ts,x.1≠p:=by
 intro x c e;obtain⟨i,hi⟩:=cz c;rcases gm i k with hik | hik | hik
 ·exact lx (h1 i x hik hi) e
 ·subst hik;exact h x hi e
 ·have b:ts[k]?=some (ts[k]'(by have:=zz hi;omega)):=cn (C2 hi);have a:=hs _ _ _ _ hik b hi;rw[e]at a;rw[h2 k _ (gd _) b]at a;cases a
def Bn{ts:List aP}(hs:lH ts)(hl:ts.length<=1048576)(p:Pt):∃k,iS ts p=some k/\rl ts p k:=by
 have key:=CZ hs hl (p:=p) (F:=xk ts p) ?_ ?_
 ·obtain⟨k,n,r,i,h⟩:=key;unfold iS LN yU;simp only[n,gy];by_cases hlt:k<ts.length
  ·have b:ts[k]?=some ts[k]:=cn hlt;rw[Ϙ (by simp[hlt])];simp only[zr b,gy];by_cases c:ts[k].1=p
   ·rw[Ϙ (by simp[c])];exact⟨_,rfl,.inl ⟨by omega,_,϶ b,c⟩⟩
   ·rw[ϙ (by simp;intro d f;exact c<|vN d f)];exact Q4 i h
  ·rw[ϙ so];refine⟨_,rfl,.inr ⟨rfl,q_ hs i h λx a=>by have:=zz a;omega⟩⟩
 ·intro lo hi x hlt m b;unfold xk;have d:aB ((lo:Int)+(hi:Int))=((lo+hi:Nat):Int):=ψ
  have f:Int.tdiv ((lo+hi:Nat):Int) 2=(((lo+hi) / 2:Nat):Int):=rfl;have j:aB (((lo+hi) / 2:Nat):Int)=(((lo+hi) / 2:Nat):Int):=zt om om;have l:aB ((((lo+hi) / 2:Nat):Int)+1)=(((lo+hi) / 2+1:Nat):Int):=ψ
  rw[Ϙ (by simp[hlt])];simp only[d,f,j,l,zr b,gy,nS];cases lp x.1 p<;>rfl
 ·intro lo;unfold xk;rw[ϙ si]
def zyM{ts:List aP}(hs:lH ts)(hl:ts.length<=1048576)(p:Pt):∃k,xj ts p=some k/\rl ts p k:=by
 have h:∀x:aP,jV x p=some (lJ x.1 p):=λx=>by unfold jV;rw[GN];rfl
 have key:=CZ hs hl (p:=p) (F:=zJ ts p λq0 r=>jV q0 r) ?_ ?_
 ·obtain⟨k,v,w,f,d⟩:=key;unfold xj pm Dx;simp only[v,gy];by_cases hlt:k<ts.length
  ·have b:ts[k]?=some ts[k]:=cn hlt;rw[Ϙ (by simp[hlt])];simp only[zr b,gy,h];by_cases c:ts[k].1=p
   ·rw[Ϙ (by simp[BG,c])];exact⟨_,rfl,.inl ⟨by omega,_,϶ b,c⟩⟩
   ·rw[ϙ (by simp[BG,c])];exact Q4 f d
  ·rw[ϙ so];refine⟨_,rfl,.inr ⟨rfl,q_ hs f d λx a=>by have:=zz a;omega⟩⟩
 ·intro lo hi x hlt n b;unfold zJ;have j:aB ((lo:Int)+(hi:Int))=((lo+hi:Nat):Int):=ψ
  have i:IntKind.wrap .u64 ((lo+hi:Nat):Int)=((lo+hi:Nat):Int):=by
   show((lo+hi:Nat):Int) % 18446744073709551616=((lo+hi:Nat):Int);omega
  have u:Int.fdiv ((lo+hi:Nat):Int) (2 ^ 1)=(((lo+hi) / 2:Nat):Int):=by
   rw[Int.fdiv_eq_ediv_of_nonneg _ om];omega
  have l:aB (((lo+hi) / 2:Nat):Int)=(((lo+hi) / 2:Nat):Int):=zt om om;have m:aB ((((lo+hi) / 2:Nat):Int)+1)=(((lo+hi) / 2+1:Nat):Int):=ψ
  rw[Ϙ (by simp[hlt])];simp only[j,i,u,l,m,zr b,gy,h,BT];cases lp x.1 p<;>rfl
 ·intro lo;unfold zJ;rw[ϙ si]
def kv(p:Pt)(dir:Int):Pt:=if dir=0 then(p.1,p.2+1)else(p.1+1,p.2)
def SQ{p dir}(hp:dD p=true)(hd:dir=0\/dir=1):gR p dir=some (kv p dir)/\zX p dir=some (kv p dir):=by
 obtain⟨c,d,h,f⟩:=Ir.1 hp;have w0:∀n:Int,-60<=n->n<=60->aB (n+1)=n+1/\aB (n+0)=n:=λn a b=>⟨zt om om,by rw[Ϯ];exact zt om om⟩;rcases hd with rfl | rfl
 ·refine⟨?_,?_⟩
  ·unfold gR iT kv;simp[(w0 p.2 h f).1]
  ·unfold zX lY kv idx;simp[(w0 p.2 h f).1,zt (n:=p.1) om om]
 ·refine⟨?_,?_⟩
  ·unfold gR iT kv;simp[(w0 p.1 c d).1]
  ·unfold zX lY kv idx;simp[(w0 p.1 c d).1,zt (n:=p.2) om om]
def Ur{set:TSet}(h:SetOk set){a b dir}(ha0:0<=a)(ha:a<=(set.2.length:Int) - 1)(hb0:0<=b)(hb:b<=(set.2.length:Int) - 1)(hd:dir=0\/dir=1):
  ∃v,lZ set a dir b=some v/\lU set a dir b=some v/\0<=v/\v<=4:=by
 obtain⟨x,C,j⟩:=zY (l:=set.2) ha0 om;obtain⟨y,G,d⟩:=zY (l:=set.2) hb0 om;obtain⟨_,M,_,xs⟩:=h.tile _ (zz j) x j;obtain⟨_,Q,_,R⟩:=h.tile _ (zz d) y d;obtain⟨g,B,z⟩:=zY (l:=x.2) (i:=dir) om om;obtain⟨E,n,D⟩:=zY (l:=y.2) (i:=dir+2) om om;have H:=xs g<|fe z;have c:qz dir=some (dir+2)/\ut dir=some (dir+2):=by
  rcases hd with rfl | rfl
  ·exact⟨rfl,rfl⟩
  ·exact⟨rfl,rfl⟩
 have r:∃v,kL set g=some v/\pG set a dir=some v/\0<=v/\v<=4:=by
  unfold kL pG;simp only[C,B,gy];have P:=h.glues;by_cases A:g=0
  ·subst A;exact⟨0,rfl,rfl,by omega,by omega⟩
  ·rw[ϙ (by simpa using A),Ϙ so];have F:aB (g - 1)=g - 1:=zt om om;obtain⟨u,I,f⟩:=zY (l:=set.1) (i:=g - 1) om om;obtain⟨_,O,N,_⟩:=h.glue _ (zz f) u f;simp only[F,I,gy];exact⟨_,rfl,rfl,by omega,by omega⟩
 obtain⟨v,m,w,L,J⟩:=r;unfold lZ lU;simp only[C,G,B,c.1,c.2,n,m,w,gy];by_cases k:g=E
 ·rw[ϙ (by simp[k]),Ϙ (by simp[k])];exact⟨v,rfl,rfl,L,J⟩
 ·rw[Ϙ (by simp[k]),ϙ (by simp[k])];exact⟨0,rfl,rfl,by omega,by omega⟩
section
variable {set:TSet} {ts:List aP}
def Jc(hS:SetOk set)(hA:dF set ts){i:Nat}{x:aP}(hx:ts[i]?=some x){dir:Int}(hd:dir=0\/dir=1):
  ∃nb:List Bd,nb.length<=1/\(∀b∈nb,WB ts.length b)/\
   (∀(m a:List Bd),a.length<=1048576->pI set ts (m,(i:Int)) (a,dir)=some (.inl (a++nb,aB (dir - 1))))/\
   (∀(m a:List Bd),a.length<=1048576->∀j,idx [1,0] j=some dir->0<=j->j<2->zT (λs q0 Q=>z6 set ts s (q0,Q)) ts ((i:Int),m) x (j,a)=some (.inl (aB (j+1),a++nb))):=by
 have d:=hA.1.srt;have X:ts.length<=500:=hA.1.1;have hi:=zz hx;obtain⟨I,T,x1,_⟩:=hA.1.2 i hi x hx;obtain⟨u,l⟩:=SQ I hd;obtain⟨k,N,n⟩:=Bn d om<|kv x.1 dir;obtain⟨V,w,A⟩:=zyM d om<|kv x.1 dir;obtain rfl:=n.uniq d A;have B:(dir≥0:Ϛ)=true:=π
 have r:=hA.2 x<|fe hx;rcases n with⟨D,y,h,C⟩ |⟨D,_⟩
 ·have z:=hA.2 y<|fe h;obtain⟨v,R,F,S,U⟩:=Ur hS r.1 r.2 z.1 z.2 hd;have H:(i:Int)≠k:=λe=>by
   subst e;simp only[bb]at h;rw[hx]at h;injection h with h;subst h
   rcases hd with e | e
   ·have G:=congrArg Prod.snd C;rw[e]at G;have O:(kv x.1 0).2=x.1.2+1:=rfl;omega
   ·have G:=congrArg Prod.fst C;rw[e]at G;have O:(kv x.1 1).1=x.1.1+1:=rfl;omega
  have P:=zz h;refine⟨if v>0 then[((i:Int),k,v)]else[],by split<;>simp,?_,?_,?_⟩
  ·intro b E;split at E
   ·rw[fh]at E;subst E;exact⟨ϖ,ϖ,D,ϖ,H,S,ϖ⟩
   ·cases E
  ·intro m a f;unfold pI yR pV;rw[Ϙ B];simp only[zr hx,u,N,gy];rw[ϙ so];simp only[gB D h,R,gy];by_cases c:v>0
   ·rw[Ϙ (by simpa using c),Ϙ c,zO so so];rfl
   ·rw[ϙ (by simpa using c),ϙ c,bg]
  ·intro m a f j L J M;unfold zT rJ z6;rw[Ϙ so];simp only[L,l,w,gy];rw[Ϙ so];simp only[zr hx,gB D h,F,gy];by_cases c:v>0
   ·rw[Ϙ (by simpa using c),Ϙ c,zO so so];rfl
   ·rw[ϙ (by simpa using c),ϙ c,bg];rfl
 ·refine⟨[],by simp,by simp,?_,?_⟩
  ·intro m a f;unfold pI yR pV;rw[Ϙ B];simp only[zr hx,u,N,gy];rw[Ϙ so,bg]
  ·intro m a f j L J M;unfold zT rJ;rw[Ϙ so];simp only[L,l,w,gy];rw[ϙ so,bg]
def TK(hS:SetOk set)(hA:dF set ts){i:Nat}{x:aP}(hx:ts[i]?=some x):
  ∃nb:List Bd,nb.length<=2/\(∀b∈nb,WB ts.length b)/\
   (∀(a:List Bd),a.length<=90000->iter (pI set ts (a,(i:Int))) (a,1)=some (a++nb))/\
   (∀(a:List Bd),a.length<=90000->iter (zT (λs q0 k=>z6 set ts s (q0,k)) ts ((i:Int),a) x) (0,a)=some (a++nb)):=by
 obtain⟨f,a1,b1,c1,d1⟩:=Jc hS hA hx (dir:=1)<|.inr rfl;obtain⟨n,r,b0,m,j⟩:=Jc hS hA hx (dir:=0)<|.inl rfl;refine⟨f++n,π,λb l=>(er.1 l).elim (b1 b)<|b0 b,λa c=>?_,λa c=>?_⟩
 ·rw[zp<|c1 a a om];have d:aB ((1:Int) - 1)=0:=by decide
  rw[d,zp<|m a (a++f) so];have h:aB ((0:Int) - 1) = -1:=by decide
  rw[h,bf];apply zq;unfold pI;rw[ϙ si]
 ·rw[zp<|d1 a a om 0 rfl om om];have d:aB ((0:Int)+1)=1:=by decide
  rw[d,zp<|j a (a++f) so 1 rfl om om];have h:aB ((1:Int)+1)=2:=by decide
  rw[h,bf];apply zq;unfold zT;rw[ϙ si]
def GY(hS:SetOk set)(hA:dF set ts):∃bs:List Bd,nc set ts=some bs/\nK set ts=some bs/\fH ts.length bs/\bs.length<=1000:=by
 have y:ts.length<=500:=hA.1.1;have key:∀(d i:Nat)(a:List Bd),i+d=ts.length->a.length<=2*i->(∀b∈a,WB ts.length b)->
   ∃bs:List Bd,iter (pJ set ts) (a,(i:Int))=some bs/\iter (zU (λs q0 h=>z6 set ts s (q0,h)) ts) ((i:Int),a)=some bs/\(∀b∈bs,WB ts.length b)/\bs.length<=2*ts.length:=by
  intro d
  induction d with
  | zero=>
   intro i a hi c j;have:i=ts.length:=by omega
   subst this;refine⟨a,zq ?_,zq ?_,j,c⟩
   ·unfold pJ;rw[ϙ si]
   ·unfold zU;rw[ϙ si]
  | succ d ih=>
   intro i a hi c j;have hlt:i<ts.length:=by omega
   have m:ts[i]?=some ts[i]:=cn hlt;obtain⟨nb,A,v,w,x⟩:=TK hS hA m;have f:aB ((i:Int)+1)=((i+1:Nat):Int):=ψ
   have n:pJ set ts (a,(i:Int))=some (.inl (a++nb,((i+1:Nat):Int))):=by
    unfold pJ LH;rw[Ϙ (by simp[hlt])];simp only[w a om,gy,f]
   have s2:zU (λs q0 h=>z6 set ts s (q0,h)) ts ((i:Int),a)=some (.inl (((i+1:Nat):Int),a++nb)):=by
    unfold zU JA;rw[Ϙ (by simp[hlt])];simp only[zr m,x a om,gy,f]
   rw[zp n,zp s2];exact ih (i+1) (a++nb) om so λb u=>(er.1 u).elim (j b)<|v b
 obtain⟨bs,l,k,r,z⟩:=key ts.length 0 [] om si si;refine⟨bs,?_,?_,qU.2 r,by omega⟩
 ·unfold nc DT DI JB;have k:iter (zU (λs q0 h=>z6 set ts s (q0,h)) ts) (0,[])=some bs:=k;simp only[gy,k]
 ·unfold nK LJ;have l:iter (pJ set ts) ([],0)=some bs:=l;simp only[gy,l]
def yZ(hT:Tame set)(h:ts.length<=1048576)t:∃b,jT (set,ts,t)=some b/\kf (set,ts,t)=some b/\(b=true->SetOk set/\dF set ts):=by
 obtain⟨a,H,v,u⟩:=FU set hT;obtain⟨va,B,r⟩:=Fq set hT ts om;obtain⟨l,E,n⟩:=Pg set hT ts om;unfold jT kf qv Fp;simp only[v,B,E,gy];by_cases i:(ts.length:Int)=0
 ·rw[Ϙ (by simpa using i)];refine⟨false,rfl,?_,C8⟩;cases a<;>cases l<;>simp[i]
 rw[ϙ (by simpa using i)];cases hva:va with
 | false=>
  subst hva;refine⟨false,rfl,?_,C8⟩;cases m:a with
  | false=>rfl
  | true=>
   cases f:l with
   | false=>rfl
   | true=>
    have:=r.2 ⟨u.1 m,n.1 f⟩;cases this
 | true=>
  obtain⟨hS,hA⟩:=r.1 hva;have m:a=true:=u.2 hS;have f:l=true:=n.2 hA;subst m;subst f;have c:xY t=some (1<=t/\t<=16:Ϛ)/\xl t=some (1<=t/\t<=16:Ϛ):=by
   constructor
   ·unfold xY;rw[gS];rfl
   ·unfold xl;rw[hP];rfl
  simp only[c.1,c.2,gy];by_cases k:1<=t/\t<=16
  ·obtain⟨bs,D,A,G,I⟩:=GY hS hA;obtain⟨x,y,z,w,F,C,d⟩:=QD (p0:=set) (p1:=ts) om (y5 hA.1.1) (by omega:bs.length<=100000) G D A t;simp only[k,Ϟ,F,C,gy];have j:ts≠[]:=λe=>i (by rw[e];rfl);cases y with
   | true=>
    simp only[av,aq,ϟ]at d ⊢;injection d with d e4
    subst d;subst e4;cases x with
    | true=>exact⟨true,by simp,by simp[j],λ_=>⟨hS,hA⟩⟩
    | false=>exact⟨false,by simp,by simp,C8⟩
   | false=>
    simp only[ϵ,Ϡ]at d ⊢;injection d with d e4
    subst d;subst e4;exact⟨false,by simp,by simp,C8⟩
  ·refine⟨false,?_,?_,C8⟩
   ·simp[k]
   ·simp[k,i]
end
end Go.Lf
namespace Go.Lf
open Go Go.Proofs Go.Sort
def PW(ts:List aP):Prop:=ts.Pairwise λa b=>lp a.1 b.1=true
def PW.srt{ts}(h:PW ts):lH ts:=by
 intro i j x y c b a;have hi:=zz b;have d:=zz a;have:=fo.1 h i j hi d c;rw[cn hi]at b;rw[cn d]at a;injection b with b
 injection a with a
 rw[←b,←a];exact this
def fC(x:aP):List aP->List aP
 |[]=>[x]
 | y::l=>if lp x.1 y.1=true then x::y::l else y::fC x l
def qS(x:aP):∀l,(fC x l).Perm (l++[x])
 |[]=>.refl _
 | y::l=>by
  unfold fC;split
  ·exact(List.perm_append_singleton x (y::l)).symm
  ·exact(qS x l).cons y
def H'{x z l}(h:z∈fC x l):z=x\/z∈l:=by
 have:=(qS x l).mem_iff.1 h;rcases er.1 this with h | h
 ·exact .inr h
 ·exact .inl<|fh.1 h
def Cq{x}:∀{l:List aP},PW l->(∀y∈l,y.1≠x.1)->PW (fC x l)
 |[],_,_=>List.pairwise_singleton _ _
 | y::l,h,hne=>by
  have c:=(fm.1 h).1;have d:=(fm.1 h).2;unfold fC;split
  ·rename_i hl;exact fm.2 ⟨λz a=>by
    rcases ey.1 a with rfl | a
    ·exact hl
    ·exact u_ hl (c z a),h⟩
  ·rename_i hl;have b:lp y.1 x.1=true:=OX (϶ hl) (λe=>hne y si e.symm);exact fm.2 ⟨λz a=>by
    rcases H' a with rfl | a
    ·exact b
    ·exact c z a,Cq d λz a=>hne z (by simp[a])⟩
def BQ(ts:List aP)(hl:ts.length<=100000)(p:Pt)k:nO ts p k=some (fC (p,k) ts):=by
 have rest:∀(d i:Nat)(out:List aP),i+d=ts.length->out.length<=i+1->iter (iU ts p k) (true,(i:Int),out)=some (true,out++ts.drop i):=by
  intro d
  induction d with
  | zero=>
   intro i out hi m;have:i=ts.length:=by omega
   subst this;apply zq;unfold iU;rw[ϙ si,List.drop_length,bg]
  | succ d ih=>
   intro i out hi m;have hlt:i<ts.length:=by omega
   have j:ts[i]?=some ts[i]:=cn hlt;have h:aB ((i:Int)+1)=((i+1:Nat):Int):=ψ
   have a:iU ts p k (true,(i:Int),out)=some (.inl (true,((i+1:Nat):Int),out++[ts[i]])):=by
    unfold iU qq qs;rw[Ϙ (by simp[hlt]),ϙ si,ϙ si];simp only[zr j,gy,zO (bytes:=24) (l:=out) (l2:=[ts[i]]) so so,h]
   rw[zp a,ih (i+1) _ om so,bi hlt];simp
 have f:∀(d i:Nat)(out:List aP),i+d=ts.length->out.length<=i->∃b o,iter (iU ts p k) (false,(i:Int),out)=some (b,o)/\Ay p k b o=some (out++fC (p,k) (ts.drop i)):=by
  intro d
  induction d with
  | zero=>
   intro i out hi m;have:i=ts.length:=by omega
   subst this;refine⟨false,out,zq ?_,?_⟩
   ·unfold iU;rw[ϙ si]
   ·unfold Ay uc;rw[Ϙ si,List.drop_length,zO so so];rfl
  | succ d ih=>
   intro i out hi m;have hlt:i<ts.length:=by omega
   have j:ts[i]?=some ts[i]:=cn hlt;have h:aB ((i:Int)+1)=((i+1:Nat):Int):=ψ
   have hd:=bi hlt;cases hc:lp p ts[i].1 with
   | true=>
    have a:iU ts p k (false,(i:Int),out)=some (.inl (true,((i+1:Nat):Int),out++[(p,k)]++[ts[i]])):=by
     unfold iU qq qs;rw[Ϙ (by simp[hlt]),Ϙ si];simp only[zr j,gy,nS,hc,Ϡ,zO (bytes:=24) (l:=out) (l2:=[(p,k)]) so so,
      zO (bytes:=24) (l:=out++[(p,k)]) (l2:=[ts[i]]) so so,h]
    refine⟨true,_,(zp a).trans<|rest d (i+1) _ om so,?_⟩;unfold Ay uc;rw[ϙ si,hd,fC,Ϙ hc];simp
   | false=>
    have a:iU ts p k (false,(i:Int),out)=some (.inl (false,((i+1:Nat):Int),out++[ts[i]])):=by
     unfold iU qq qs;rw[Ϙ (by simp[hlt]),Ϙ si];simp only[zr j,gy,nS,hc,zO (bytes:=24) (l:=out) (l2:=[ts[i]]) so so,h];rfl
    obtain⟨b,o,c,n⟩:=ih (i+1) (out++[ts[i]]) om so;refine⟨b,o,(zp a).trans c,?_⟩;rw[n,hd,fC,ϙ (by simp[hc])];simp
 obtain⟨b,o,c,n⟩:=f ts.length 0 [] om si;have c:iter (iU ts p k) (false,0,[])=some (b,o):=c;unfold nO;simp only[c,gy,n];simp
def Gm{pl ts:List aP}(hl:pl.length<=1048576)(hp:ts.Perm pl)(hs:PW ts):jy pl=some ts:=by
 unfold jy;rw[Ϙ om];congr 1;have hlt:(λx y:aP=>(gU x y<0:Ϛ))=ltOf gU:=rfl;have h:=pdq_sorts (ltOf gU) vO pl.toArray 0 pl.length (Lib.bitLen pl.length) true true (Ϧ _) si<|Or.inl rfl;obtain⟨r,F⟩:∃r:Array aP,r=pdq (ltOf gU) pl.toArray 0 pl.length (Lib.bitLen pl.length) true true:=u3;show(pdq (ltOf gU) pl.toArray 0 pl.length (Lib.bitLen pl.length) true true).toList=ts;rw[←F]at h ⊢;obtain⟨⟨n,_,w⟩,B⟩:=h;have n:r.size=pl.length:=϶ n
 have c:r.toList.Perm pl:=by
  have G:(r.extract 0 pl.length).toList=r.toList:=by rw[←n];simp
  have E:(pl.toArray.extract 0 pl.length).toList=pl:=by simp
  rw[G,E]at w;exact w
 have k:∀a b:aP,ltOf gU a b=lp a.1 b.1:=by
  intro a b;have:=BT (a:=a.1) (b:=b.1);exact this
 refine List.Perm.eq_of_pairwise (le:=λa b=>lp b.1 a.1=false) ?_ ?_ ?_<|c.trans hp.symm
 ·intro a b H A C z;have d:a.1=b.1:=Classical.byContradiction λe=>by
   have:=OX C (λD=>e D.symm);rw[this]at z;cases z
  have v:a∈ts:=hp.mem_iff.2<|c.mem_iff.1 H;obtain⟨i,hi⟩:=cz v;obtain⟨j,f⟩:=cz A;have hs':=hs.srt;rcases gm i j with h | h | h
  ·exact x4 d<|lx<|hs' i j a b h hi f
  ·subst h;rw[hi]at f;injection f
  ·exact x4 d.symm<|lx<|hs' j i b a h f hi
 ·rw[fo];intro i j hi f l;have m:i<r.size:=϶ hi
  have u:j<r.size:=϶ f
  have:=B i j om l om;rw[k,getElem!_pos r i m,getElem!_pos r j u]at this;exact w8
 ·refine hs.imp λ{a b} d=>?_;cases h:lp b.1 a.1 with
  | false=>rfl
  | true=>exact x4 rfl<|lx<|u_ d h
end Go.Lf
namespace Go.Lf
open Go
def jq(l:List aP)(p:Pt)(v:Int):Prop:=(∃k,v=k/\(p,k)∈l)\/(v = -1/\∀x∈l,x.1≠p)
def qX T(p:Pt):jq T p (bF T p):=by
 unfold bF cW b_;cases h:T.find? (λq=>(q.1=p:Ϛ))with
 | none=>
  have a:=List.find?_eq_none.1 h;rw[ϙ (by
   rw[be];rintro⟨x,b,hd⟩;exact a x b hd)]
  exact .inr ⟨rfl,λx b e=>a x b (by simpa using e)⟩
 | some x=>
  have a:=fd h;have c:x.1=p:=by simpa using List.find?_some h
  rw[Ϙ<|be.2 ⟨x,a,by simpa using c⟩];refine .inl ⟨x.2,rfl,?_⟩;rw[←c];exact a
def jq.perm{l:List aP}{l' p v}(h:l.Perm l')(hv:jq l p v):jq l' p v:=by
 rcases hv with⟨k,e,a⟩ |⟨e,hn⟩
 ·exact .inl ⟨k,e,h.mem_iff.1 a⟩
 ·exact .inr ⟨e,λx b=>hn x<|h.mem_iff.2 b⟩
def TC{l p a b}(h:PW l)(ha:(p,a)∈l)(hb:(p,b)∈l):a=b:=by
 obtain⟨i,hi⟩:=cz ha;obtain⟨j,c⟩:=cz hb;have hs:=h.srt;rcases gm i j with h1 | h1 | h1
 ·exact x4 (rfl:(p,a).1=(p,b).1)<|lx<|hs i j (p,a) (p,b) h1 hi c
 ·subst h1;rw[hi]at c;injection c with c;injection c
 ·exact x4 (rfl:(p,b).1=(p,a).1)<|lx<|hs j i (p,b) (p,a) h1 c hi
def jq.uniq{l p v v'}(h:PW l)(h1:jq l p v)(h2:jq l p v'):v=v':=by
 rcases h1 with⟨k,e,c⟩ |⟨e,hn⟩<;>rcases h2 with⟨d,b,a⟩ |⟨b,hn'⟩
 ·rw[e,b];exact TC h c a
 ·exact x4 rfl<|hn' _ c
 ·exact x4 rfl<|hn _ a
 ·rw[e,b]
def QP{ts:List aP}(h:PW ts)(hl:ts.length<=1000)(hn:∀x∈ts,0<=x.2)(p:Pt):
  ∃k,iS ts p=some k/\∃v,jB ts p=some v/\jq ts p v/\(k<0↔v<0):=by
 obtain⟨k,a,c⟩:=Bn h.srt om p;refine⟨k,a,?_⟩;unfold jB;rw[a];simp only[gy];rcases c with⟨d,x,b,rfl⟩ |⟨rfl,hall⟩
 ·have hi:idx ts k=some x:=by unfold idx;rw[Ϙ d];exact b
  have hm:=fe b;have:=hn x hm;rw[ϙ so,hi];exact⟨x.2,rfl,.inl ⟨x.2,rfl,hm⟩,by omega⟩
 ·exact⟨-1,by simp,.inr ⟨rfl,hall⟩,by omega⟩
def SS{T ts:List aP}(hp:T.Perm ts)(h:PW ts)(hl:ts.length<=1000)(hn:∀x∈ts,0<=x.2)(p:Pt):
  jB ts p=some (bF T p)/\∃k,iS ts p=some k/\(k<0↔bF T p<0):=by
 obtain⟨k,d,v,b,c,a⟩:=QP h hl hn p;have e:v=bF T p:=c.uniq h<|(qX T p).perm hp;subst e;exact⟨b,k,d,a⟩
def zC(p:Pt)(d:Int):Pt:=if d=0 then(p.1,p.2+1)else if d=1 then(p.1+1,p.2)else if d=2 then(p.1,p.2 - 1)else(p.1 - 1,p.2)
def cE(d:Int):Prop:=d=0\/d=1\/d=2\/d=3
def jD{p d}(hp:dD p=true)(hd:cE d):gR p d=some (zC p d)/\zX p d=some (zC p d):=by
 obtain⟨i,f,j,h⟩:=Ir.1 hp;have c:∀n:Int,-1000<=n->n<=1000->aB n=n:=λn a b=>zt om om;rcases hd with rfl | rfl | rfl | rfl
 ·refine⟨?_,?_⟩
  ·unfold gR iT zC;simp[c (p.2+1) om om]
  ·unfold zX lY zC idx;simp[c (p.2+1) om om,c p.1 om om]
 ·refine⟨?_,?_⟩
  ·unfold gR iT zC;simp[c (p.1+1) om om]
  ·unfold zX lY zC idx;simp[c (p.1+1) om om,c p.2 om om]
 ·refine⟨?_,?_⟩
  ·unfold gR iT zC;simp[c (p.2 - 1) om om]
  ·unfold zX lY zC idx;simp[c (p.2 + -1) om om,c p.1 om om];omega
 ·refine⟨?_,?_⟩
  ·unfold gR iT zC;simp[c (p.1 - 1) om om]
  ·unfold zX lY zC idx;simp[c (p.1 + -1) om om,c p.2 om om];omega
def eK(d:Int):Int:=if d=0 then 2 else if d=1 then 3 else if d=2 then 0 else 1
def Cy{d}(hd:cE d):qz d=some (eK d)/\ut d=some (eK d)/\0<=eK d/\eK d<4:=by
 rcases hd with rfl | rfl | rfl | rfl<;>exact⟨rfl,rfl,by decide,by decide⟩
section
variable {set:TSet} (hS:SetOk set)
def TileIx(set:TSet)(k:Int):Prop:=0<=k/\k<=(set.2.length:Int) - 1
instance{set:TSet}{k:Int}:Decidable (TileIx set k):=inferInstanceAs (Decidable (_/\_))
def gH(set:TSet)(k d:Int):Int:=(((set.2[k.toNat]?).getD ([],[])).2[d.toNat]?).getD 0
def oY(set:TSet)(g:Int):Int:=if g=0 then 0 else((set.1[(g - 1).toNat]?).getD ([],0)).2
def ve(hS:SetOk set){k d}(hk:TileIx set k)(hd:cE d):∃x,idx set.2 k=some x/\x.2.length=4/\idx x.2 d=some (gH set k d)/\0<=gH set k d/\gH set k d<=(set.1.length:Int):=by
 obtain⟨x,j,a⟩:=zY (l:=set.2) hk.1 (y5 hk.2);obtain⟨_,f,_,xs⟩:=hS.tile _ (zz a) x a;have c:0<=d/\d<4:=by rcases hd with rfl | rfl | rfl | rfl<;>decide
 obtain⟨g,h,b⟩:=zY (l:=x.2) (i:=d) om om;have e:gH set k d=g:=by unfold gH;rw[a];simp[b]
 rw[e];exact⟨x,j,f,h,xs g<|fe b⟩
def Iz(hS:SetOk set){g}(h0:0<=g)(h1:g<=(set.1.length:Int)):kL set g=some (oY set g)/\0<=oY set g/\oY set g<=4:=by
 have f:=hS.glues;unfold kL oY;by_cases b:g=0
 ·simp[b]
 ·rw[ϙ (by simpa using b),ϙ b];have c:aB (g - 1)=g - 1:=zt om om;obtain⟨u,d,a⟩:=zY (l:=set.1) (i:=g - 1) om om;obtain⟨_,j,h,_⟩:=hS.glue _ (zz a) u a;rw[c,d,a];exact⟨rfl,π,π⟩
def lz(set:TSet)(a d b:Int):Int:=if gH set a d=gH set b (eK d)then oY set (gH set a d)else 0
def vd{d}(hd:cE d):cE (eK d):=by rcases hd with rfl | rfl | rfl | rfl<;>unfold cE eK<;>simp
def vc(hS:SetOk set){a b d}(ha:TileIx set a)(hb:TileIx set b)(hd:cE d):lZ set a d b=some (lz set a d b)/\lU set a d b=some (lz set a d b)/\0<=lz set a d b/\lz set a d b<=4:=by
 obtain⟨x,k,w,j,u,m⟩:=ve hS ha hd;obtain⟨y,n,z,h,_,_⟩:=ve hS hb<|vd hd;obtain⟨o1,o2,_⟩:=Cy hd;obtain⟨c,s2,l⟩:=Iz hS u m;have r:pG set a d=some (oY set<|gH set a d):=by
  have v:=hS.glues;unfold pG;rw[k];simp only[gy,j];unfold kL at c;by_cases i:gH set a d=0
  ·rw[ϙ so,i];rfl
  ·rw[ϙ (by simpa using i)]at c;rw[Ϙ so];exact c
 unfold lZ lU lz;simp only[k,n,j,h,o1,o2,c,r,gy];by_cases f:gH set a d=gH set b (eK d)
 ·simp only[f,Ϟ,av,aq,ϟ,Ϡ];rw[←f];exact⟨xO,xO,s2,l⟩
 ·simp[f]
def eC(set:TSet)(f:Pt->Int)(p:Pt)(k d:Int):Int:=if f (zC p d)≥0 then lz set k d (f (zC p d))else 0
def gK(set:TSet)(f:Pt->Int)(p:Pt)(k:Int):Int:=eC set f p k 0+eC set f p k 1+eC set f p k 2+eC set f p k 3
def mB(set:TSet)(f:Pt->Int):Prop:=∀p,f p<0\/TileIx set (f p)
def jH(hS:SetOk set){f:Pt->Int}(hf:mB set f)(p:Pt){k d}(hk:TileIx set k)(hd:cE d):0<=eC set f p k d/\eC set f p k d<=4:=by
 unfold eC;split
 ·rename_i h;rcases hf (zC p d)with h1 | h1
  ·omega
  ·exact(vc hS hk h1 hd).2.2
 ·omega
def GW{F:Int×Int->Option ((Int×Int) ⊕ Int)}{b:Int->Int}(hb:∀d,cE d->0<=b d/\b d<=1000)(h:∀s d,cE d->0<=s->s<=4000->F (s,d)=some (.inl (s+b d,d+1)))(he:∀s,F (s,4)=some (.inr s)):iter F (0,0)=some (b 0+b 1+b 2+b 3):=by
 have l:=hb 0<|.inl rfl;have k:=hb 1<|.inr<|.inl rfl;have j:=hb 2<|.inr<|.inr<|.inl rfl;have m:=hb 3<|.inr<|.inr<|.inr rfl;have a:F (0,0)=some (.inl (b 0,1)):=by have:=h 0 0 (.inl rfl) om om;simpa using this
 have c:F (b 0,1)=some (.inl (b 0+b 1,2)):=h _ 1 (.inr<|.inl rfl) om om;have i:F (b 0+b 1,2)=some (.inl (b 0+b 1+b 2,3)):=h _ 2 (.inr<|.inr<|.inl rfl) om om;have f:F (b 0+b 1+b 2,3)=some (.inl (b 0+b 1+b 2+b 3,4)):=h _ 3 (.inr<|.inr<|.inr rfl) om om;rw[zp a,zp c,zp i,zp f,zq<|he _]
def jp{d}(hd:cE d):d<4/\0<=d/\aB (d+1)=d+1:=by
 rcases hd with rfl | rfl | rfl | rfl<;>decide
def MX(hS:SetOk set){f:Pt->Int}(hf:mB set f){g:Pt->Option Int}{p k}(hp:dD p=true)(hg:∀d,cE d->g (zC p d)=some (f (zC p d)))(hk:TileIx set k):rR set p k g=some (gK set f p k):=by
 unfold rR;rw[GW (b:=eC set f p k) (λd hd=>by have:=jH hS hf p hk hd;omega) (λs d hd l c=>?_) (λs=>?_)]
 ·rfl
 ·obtain⟨d4,_,i⟩:=jp hd;have j:=jH hS hf p hk hd;unfold DE wO;rw[Ϙ (by simpa using d4),(jD hp hd).2];simp only[gy,hg d hd];unfold eC at j ⊢;by_cases h:f (zC p d)≥0
  ·have hb2:=hf<|zC p d;have a:TileIx set (f<|zC p d):=by rcases hb2 with c | c;omega;exact c
   rw[Ϙ h]at j ⊢;rw[Ϙ (by simpa using h),(vc hS hk a hd).2.1];simp only[gy,i];rw[zt om om]
  ·rw[ϙ h,ϙ (by simpa using h),i,Ϯ]
 ·unfold DE;rw[ϙ si]
def Nd(hS:SetOk set){f:Pt->Int}(hf:mB set f){ts p k}(hp:dD p=true)(hg:∀d,cE d->jB ts (zC p d)=some (f (zC p d)))(hk:TileIx set k):tN set ts p k=some (gK set f p k):=by
 unfold tN;rw[GW (b:=eC set f p k) (λd hd=>by have:=jH hS hf p hk hd;omega) (λs d hd l c=>?_) (λs=>?_)]
 ·rfl
 ·obtain⟨d4,_,i⟩:=jp hd;have j:=jH hS hf p hk hd;unfold DS xR;rw[Ϙ (by simpa using d4),(jD hp hd).1];simp only[gy,hg d hd];unfold eC at j ⊢;by_cases h:f (zC p d)≥0
  ·have hb2:=hf<|zC p d;have a:TileIx set (f<|zC p d):=by rcases hb2 with c | c;omega;exact c
   rw[Ϙ h]at j ⊢;rw[Ϙ (by simpa using h),(vc hS hk a hd).1];simp only[gy,i];rw[zt om om]
  ·rw[ϙ h,ϙ (by simpa using h),i,Ϯ]
 ·unfold DS;rw[ϙ si]
end
structure Cr(set:TSet)(T ts:List aP):Prop where
 perm:T.Perm ts
 pw:PW ts
 ok:∀x∈ts,dD x.1=true/\TileIx set x.2
 len:ts.length<=500
section
variable {set:TSet} {T ts:List aP}
def Cr.fok(h:Cr set T ts):mB set (bF T):=λp=>by
 rcases(qX T p).perm h.perm with⟨k,e,a⟩ |⟨e,_⟩
 ·rw[e];exact .inr (h.ok _ a).2
 ·rw[e];exact .inl om
def Cr.at(h:Cr set T ts)(p:Pt):jB ts p=some (bF T p)/\∃k,iS ts p=some k/\(k<0↔bF T p<0):=SS h.perm h.pw (y5 h.len) (λx a=>(h.ok x a).2.1) p
def Cr.free(h:Cr set T ts){p}:bF T p<0↔∀x∈ts,x.1≠p:=by
 rcases(qX T p).perm h.perm with⟨k,e,b⟩ |⟨e,hn⟩
 ·have:=(h.ok _ b).2.1;rw[e];exact⟨λa=>by simp only at this;omega,λa=>x4 rfl<|a _ b⟩
 ·rw[e];exact⟨λ_=>hn,λ_=>by omega⟩
def e_(set:TSet)(t:Int)(T:List aP)(p:Pt)(k:Int):Bool:=dD p&&(bF T p<0:Ϛ)&&(gK set (bF T) p k≥t:Ϛ)
def BE(hS:SetOk set)(h:Cr set T ts){s0 t O p k}(hk:TileIx set k):qa ((set,s0,t),T,O) p k=some (e_ set t T p k):=by
 unfold qa e_;rw[Bt];simp only[gy];cases hp:dD p with
 | false=>simp
 | true=>
  rw[Ϙ rfl];by_cases a:bF T p<0
  ·rw[Ϙ (by simpa using a),MX hS h.fok hp (g:=tE ((set,s0,t),T,O)) (λd _=>rfl) hk];simp[a]
  ·rw[ϙ (by simpa using a)];simp[a]
def QO(hS:SetOk set)(h:Cr set T ts){s0 t p k}:Bf (set,s0,t) ts (p,k)=some ((TileIx set k:Ϛ)&&e_ set t T p k):=by
 unfold Bf e_;rw[uN];simp only[gy];cases hp:dD p with
 | false=>simp
 | true=>
  have l:=hS.tiles;rw[Ϙ rfl,(uV set om k).2];simp only[gy];by_cases b:TileIx set k
  ·obtain⟨i,hi,c⟩:=(h.at p).2;have a:(0<=k/\k<=(set.2.length:Int) - 1:Ϛ)=true:=Ϥ b;rw[a,Ϙ rfl,hi];simp only[gy];by_cases f:bF T p<0
   ·rw[Ϙ (by simpa using c.2 f),Nd hS h.fok hp (λd _=>(h.at _).1) b];simp[f,b]
   ·rw[ϙ (by simpa using λj=>f<|c.1 j)];simp[f]
  ·have a:(0<=k/\k<=(set.2.length:Int) - 1:Ϛ)=false:=Ϣ b;rw[a];simp[b]
def Bj(hS:SetOk set)k:pO set k=some (TileIx set k:Ϛ):=by
 have a:=hS.tiles;exact(uV set om k).1
def gD(set:TSet):List Int:=(List.range set.2.length).map λ(k:Nat)=>(k:Int)
def HY{k}:k∈gD set↔TileIx set k:=by
 unfold gD TileIx;rw[fc];constructor
 ·rintro⟨n,a,rfl⟩;have:=fg.1 a;omega
 ·rintro⟨c,b⟩;exact⟨k.toNat,fg.2 om,by omega⟩
def iy(set:TSet)(t:Int)(T:List aP)(p:Pt):List Int:=(gD set).filter (e_ set t T p)
def RO(set:TSet)t T(p:Pt):(iy set t T p).length<=set.2.length:=by
 unfold iy;refine gg (dx _ _) ?_;unfold gD;simp
def ku(set:TSet)(t:Int)(T:List aP)(p:Pt)(O:List (Pt×List Int))(d:Int):List (Pt×List Int):=if(iy set t T<|zC p d).length>0 then bS O (zC p d) (iy set t T<|zC p d)else eL O<|zC p d
def gP(set:TSet)(t:Int)(T:List aP)(O:List (Pt×List Int))(p:Pt):List (Pt×List Int):=[0,1,2,3].foldl (ku set t T p) O
def RZ(hS:SetOk set)(h:Cr set T ts){s0 t O}i(p:Pt):iter (rI (i,((set,s0,t),T,O)) p) ([],0)=some (iy set t T p):=by
 have u:=hS.tiles;have hlen:(gD set).length=set.2.length:=by unfold gD;simp
 have key:=ml (F:=rI (i,((set,s0,t),T,O)) p) (gD set) (λa x=>if e_ set t T p x then a++[x]else a) [] om (λa i x f k=>?_) (λa k=>?_)
 ·rw[key];congr 1;have:=j_ (e_ set t T p) (λx:Int=>x) (gD set) [];rw[this];simp[iy]
 ·have j:x=(i:Int):=by
   unfold gD at f;rw[cw]at f;obtain⟨n,c,rfl⟩:=ia.1 f;have m:i<set.2.length:=by have:=zz c;simpa using this
   rw[df m]at c;injection c with c
   rw[c]
  have b:i<set.2.length:=by rw[←hlen];exact zz f
  subst j;have r:a.length<=1000:=by
   rw[k];have:∀(l:List Int)(d:List Int),(l.foldl (λa x=>if e_ set t T p x then a++[x]else a) d).length<=d.length+l.length:=by
    intro l
    induction l with
    | nil=>intro d;simp
    | cons y l ih=>intro d;rw[cg];refine gg (ih _) ?_;split<;>simp<;>omega
   refine gg (this _ _) ?_;rw[ef];simp;omega
  unfold rI wa;rw[Ϙ (by simpa using b),BE hS h ⟨by omega,by omega⟩];simp only[gy];cases e_ set t T p (i:Int)with
  | true=>simp only[Ϡ];rw[zO so so];rfl
  | false=>rfl
 ·unfold rI;rw[ϙ (by simp[hlen])]
def HZ(hS:SetOk set)(h:Cr set T ts){s0 t O p}(hp:dD p=true):rM ((set,s0,t),T,O) p=some ((set,s0,t),T,gP set t T O p):=by
 have step:∀(O:List (Pt×List Int))(d:Int),cE d->vW p (d,((set,s0,t),T,O))=some (.inl (d+1,((set,s0,t),T,ku set t T p O d))):=by
  intro O d hd;obtain⟨d4,_,b⟩:=jp hd;unfold vW;rw[Ϙ (by simpa using d4),(jD hp hd).2];simp only[gy];rw[RZ hS h];simp only[gy];unfold JD wc ku;by_cases a:(iy set t T<|zC p d).length>0
  ·rw[Ϙ (by simpa using a),Ϙ a,b]
  ·rw[ϙ (by simpa using a),ϙ a,b]
 unfold rM;rw[zp<|step O 0<|.inl rfl,zp<|step _ (0+1)<|.inr<|.inl rfl,zp<|step _ (0+1+1)<|.inr<|.inr<|.inl rfl,zp<|step _ (0+1+1+1)<|.inr<|.inr<|.inr rfl,
  zq (x:=((set,s0,t),T,gP set t T O p)) (by unfold vW;rw[ϙ si];rfl)]
 rfl
def NI{T:List aP}{p:Pt}{k:Int}(h:∀x∈T,x.1≠p):bS T p k=T++[(p,k)]:=by
 unfold bS;rw[ϙ];unfold cW;rw[be];rintro⟨x,a,hd⟩;exact h x a (϶ hd)
def gG(hA:dF set ts):Cr set ts ts where
 perm:=.refl _
 pw:=by
  have hs:=hA.1.srt;unfold PW;rw[fo];intro i j hi hj hij;exact hs i j _ _ hij (cn hi)<|cn hj
 ok:=λx hx=>by
  obtain⟨i,hi⟩:=cz hx;exact⟨(hA.1.2 i (zz hi) x hi).1,(hA.2 x hx)⟩
 len:=hA.1.1
def gQ(set:TSet)(t:Int)(ts:List aP):List (Pt×List Int):=ts.foldl (λO x=>gP set t ts O x.1) []
def AO(hS:SetOk set)(hA:dF set ts)s0 t:nF (set,s0,t) ts=some ((set,s0,t),ts,gQ set t ts):=by
 have h:=gG hA;have hlen:=h.len;unfold nF Lt;have u:iter (rX ts) (0,((set,s0,t),([]:List aP),([]:List (Pt×List Int))))=some ((set,s0,t),ts,[]):=by
  have key:=Gg (F:=rX ts) ts (λ(a:CrySt) x=>(a.1,a.2.1++[x],a.2.2)) (((set,s0,t),([]:List aP),([]:List (Pt×List Int)))) om (λa i x c b=>?_) (λa b=>?_)
  ·rw[key];congr 1;have:∀(l:List aP)(a:CrySt),l.foldl (λ(a:CrySt) x=>(a.1,a.2.1++[x],a.2.2)) a=(a.1,a.2.1++l,a.2.2):=by
    intro l
    induction l with
    | nil=>intro a;simp
    | cons y l ih=>intro a;rw[cg,ih];simp
   rw[this];simp
  ·have hlt:=zz c;have f:∀(l:List aP)(a:CrySt),l.foldl (λ(a:CrySt) x=>(a.1,a.2.1++[x],a.2.2)) a=(a.1,a.2.1++l,a.2.2):=by
    intro l
    induction l with
    | nil=>intro a;simp
    | cons y l ih=>intro a;rw[cg,ih];simp
   rw[f]at b;unfold rX;rw[Ϙ (by simpa using hlt),zr c];simp only[gy];rw[NI (T:=a.2.1) (p:=x.1) (k:=x.2) (λy n=>by
    rw[b]at n;simp only[fi]at n;obtain⟨j,m⟩:=cz n;have d:j<i:=by have:=zz m;rw[ef]at this;omega
    rw[dl,Ϙ d]at m;exact lx<|h.pw.srt j i _ _ d m c)]
  ·unfold rX;rw[ϙ si]
 have r:iter (rW ts) (0,((set,s0,t),ts,([]:List (Pt×List Int))))=some ((set,s0,t),ts,gQ set t ts):=by
  have f:∀(l:List aP)(O:List (Pt×List Int)),l.foldl (λ(a:CrySt) x=>(a.1,a.2.1,gP set t ts a.2.2 x.1)) ((set,s0,t),ts,O)=((set,s0,t),ts,l.foldl (λO x=>gP set t ts O x.1) O):=by
   intro l
   induction l with
   | nil=>intro O;rfl
   | cons y l ih=>intro O;rw[cg,cg,ih]
  have key:=Gg (F:=rW ts) ts (λ(a:CrySt) x=>(a.1,a.2.1,gP set t ts a.2.2 x.1)) (((set,s0,t),ts,([]:List (Pt×List Int)))) om (λa i x c b=>?_) (λa b=>?_)
  ·rw[key,f];rfl
  ·have hlt:=zz c;rw[f]at b;subst b;unfold rW;rw[Ϙ (by simpa using hlt),zr c];simp only[gy];rw[HZ hS h (h.ok x<|fe c).1];rfl
  ·unfold rW;rw[ϙ si]
 rw[u];simp only[gy];rw[r];rfl
end
section
variable {set:TSet} {T ts:List aP}
def Cr.put(h:Cr set T ts){t p k}(hf:e_ set t T p k=true)(hk:TileIx set k)(hl:ts.length<500):Cr set (bS T p k) (fC (p,k) ts)/\bS T p k=T++[(p,k)]:=by
 unfold e_ at hf;simp only[an,ϛ]at hf;obtain⟨⟨hp,c⟩,_⟩:=hf;have b:=h.free.1 c;have e:bS T p k=T++[(p,k)]:=NI λx a=>b x<|h.perm.mem_iff.1 a;refine⟨⟨?_,Cq h.pw (λy d=>b y d),λx a=>?_,?_⟩,e⟩
 ·rw[e];exact(h.perm.append_right _).trans (qS _ _).symm
 ·rcases H' a with rfl | a
  ·exact⟨hp,hk⟩
  ·exact h.ok x a
 ·rw[(qS _ _).length_eq];simp;omega
def IT(hS:SetOk set)(h:Cr set T ts){s0 t O p k}(hf:e_ set t T p k=true)(hk:TileIx set k)(hl:ts.length<500):
  tU ((set,s0,t),T,O) p k=some ((set,s0,t),bS T p k,gP set t (bS T p k) (eL O p) p):=by
 have hp:dD p=true:=by
  unfold e_ at hf;simp only[an]at hf;exact hf.1.1
 unfold tU;have:=HZ hS (h.put hf hk hl).1 (s0:=s0) (t:=t) (O:=eL O p) hp;simp only at this ⊢;rw[this];rfl
def eR(seq:List aP)(T:List aP):List aP:=seq.foldl (λT o=>bS T o.1 o.2) T
def cZ(seq:List aP)(ts:List aP):List aP:=seq.foldl (λts o=>fC (o.1,o.2) ts) ts
def Played(set:TSet)(t:Int):List aP->List aP->Prop
 | _,[]=>True
 | T,o::seq=>TileIx set o.2/\e_ set t T o.1 o.2=true/\T.length<500/\Played set t (bS T o.1 o.2) seq
def OP seq(o:aP)ts:cZ (seq++[o]) ts=fC (o.1,o.2) (cZ seq ts):=by unfold cZ;simp
def OO seq(o:aP)T:eR (seq++[o]) T=bS (eR seq T) o.1 o.2:=by unfold eR;simp
def Bc{t o}:∀{seq:List aP} {T:List aP},Played set t T (seq++[o])↔Played set t T seq/\TileIx set o.2/\e_ set t (eR seq T) o.1 o.2=true/\(eR seq T).length<500
 |[],T=>by unfold eR;simp[Played]
 | x::seq,T=>by
  rw[ϰ];unfold Played;rw[Bc];unfold eR;rw[cg];simp only[and_assoc]
def BD{t}:∀{seq:List aP} {T ts:List aP},Cr set T ts->Played set t T seq->Cr set (eR seq T) (cZ seq ts)
 |[],T,ts,h,_=>h
 | o::seq,T,ts,h,hp=>by
  obtain⟨b,c,d,f⟩:=hp;have a:ts.length<500:=by rw[←h.perm.length_eq];exact d
  show Cr set (eR seq (bS T o.1 o.2)) (cZ seq (fC (o.1,o.2) ts));exact BD (h.put c b a).1 f
inductive PlayR (set:TSet) (t:Int) (ts:List aP) (seq:List aP):List aP×Int×Int->Prop where
 | ok:Played set t ts seq->PlayR set t ts seq (cZ seq ts,0,0)
 | bad (a b c):c≠0->¬Played set t ts seq->PlayR set t ts seq (a,b,c)
def FS{t T}:∀{seq:List aP} (i:Nat),Played set t T seq->Played set t T (seq.take i):=by
 intro seq
 induction seq generalizing T with
 | nil=>intro i _;simp[Played]
 | cons o seq ih=>
  intro i h;cases i with
  | zero=>trivial
  | succ i=>exact⟨h.1,h.2.1,h.2.2.1,ih i h.2.2.2⟩
def Iu(hS:SetOk set)(hA:dF set ts)t{seq:List aP}(hlen:seq.length<=500):
  ∃r O,iter (lN (set,ts,t) seq) (0,((set,ts,t),ts,gQ set t ts))=some r/\PlayR set t ts seq (match r with | .inl q=>(cZ seq ts,0,0) | .inr z=>z)/\
   (match r with | .inl q=>q=((set,ts,t),eR seq ts,O) | .inr z=>True)/\
   iter (lP (set,ts,t) seq) (0,ts)=some (match r with | .inl q=>.inl (cZ seq ts) | .inr z=>.inr z):=by
 have N:=gG hA;have w:∀(m i:Nat)(O:List (Pt×List Int)),i+m=seq.length->Played set t ts (seq.take i)->
   ∃r B,iter (lN (set,ts,t) seq) ((i:Int),((set,ts,t),eR (seq.take i) ts,O))=some r/\PlayR set t ts seq (match r with | .inl q=>(cZ seq ts,0,0) | .inr z=>z)/\
    (match r with | .inl q=>q=((set,ts,t),eR seq ts,B) | .inr z=>True)/\
    iter (lP (set,ts,t) seq) ((i:Int),cZ (seq.take i) ts)=some (match r with | .inl q=>.inl (cZ seq ts) | .inr z=>.inr z):=by
  intro m
  induction m with
  | zero=>
   intro i O hi hp;have C:i=seq.length:=by omega
   subst C;rw[fv]at hp ⊢;refine⟨.inl ((set,ts,t),eR seq ts,O),O,zq ?_,.ok hp,rfl,zq ?_⟩
   ·unfold lN;rw[ϙ si]
   ·unfold lP;rw[ϙ si]
  | succ m ih=>
   intro i O hi hp;have hlt:i<seq.length:=by omega
   obtain⟨o,J⟩:∃o,o=seq[i]:=u3;have v:seq[i]?=some o:=by rw[cn hlt,J]
   have D:aB ((i:Int)+1)=((i+1:Nat):Int):=ψ
   have f:=BD N hp;have n:seq.take (i+1)=seq.take i++[o]:=by rw[fu,v];rfl
   have d:=QO hS f (s0:=ts) (t:=t) (p:=o.1) (k:=o.2);have l:∀{a b c},c≠0->¬(TileIx set o.2/\e_ set t (eR (seq.take i) ts) o.1 o.2=true/\(eR (seq.take i) ts).length<500)->PlayR set t ts seq (a,b,c):=λy M=>
    .bad _ _ _ y λA=>M (by
     have:=FS (i+1) A;rw[n,Bc]at this;exact this.2)
   have G:(cZ (seq.take i) ts).length=(eR (seq.take i) ts).length:=f.perm.length_eq.symm;by_cases j:TileIx set o.2
   ·by_cases u:e_ set t (eR (seq.take i) ts) o.1 o.2=true
    ·by_cases E:(eR (seq.take i) ts).length<500
     ·have x:=IT hS f (s0:=ts) (O:=O) u j om;obtain⟨r,B,I,F,L,H⟩:=ih (i+1) (gP set t (bS (eR (seq.take i) ts) o.1 o.2) (eL O o.1) o.1) om (by rw[n,Bc];exact⟨hp,j,u,E⟩);refine⟨r,B,?_,F,L,?_⟩
      ·rw[←I];refine zp ?_;unfold lN;rw[Ϙ (by simpa using hlt),zr v];simp only[gy];rw[Bj hS,BE hS f j];simp only[gy,j,u,Ϟ,av,aq,ϟ];unfold mP;rw[ϙ si];unfold pd;rw[Ϙ (by simp only;omega)];simp only[gy];rw[ϙ so,x];simp only[gy,D,n,OO]
      ·rw[←H];refine zp ?_;unfold lP;rw[Ϙ (by simpa using hlt),zr v];simp only[gy];rw[show((o.1,o.2):aP)=o from rfl]at d;rw[d];simp only[gy,j,u,Ϟ,Bool.and_true,av,aq,ϟ];unfold z_;rw[ϙ so,BQ _ om];simp only[gy,D,n,OP];simp
     ·refine⟨.inr ([],0,4),O,zq ?_,l (by decide) (λh=>E h.2.2),xO,zq ?_⟩
      ·unfold lN;rw[Ϙ (by simpa using hlt),zr v];simp only[gy];rw[Bj hS,BE hS f j];simp only[gy,j,u,Ϟ,av,aq,ϟ];unfold mP;rw[ϙ si];unfold pd;have:=f.len;rw[Ϙ (by simp only;omega)];simp only[gy];rw[Ϙ so]
      ·unfold lP;rw[Ϙ (by simpa using hlt),zr v];simp only[gy];rw[show((o.1,o.2):aP)=o from rfl]at d;rw[d];simp only[gy,j,u,Ϟ,Bool.and_true,av,aq,ϟ];unfold z_;rw[Ϙ so];simp
    ·refine⟨.inr ([],i,5),O,zq ?_,l (by decide) (λh=>u h.2.1),xO,zq ?_⟩
     ·unfold lN;rw[Ϙ (by simpa using hlt),zr v];simp only[gy];rw[Bj hS,BE hS f j];simp[j,u,mP]
     ·unfold lP;rw[Ϙ (by simpa using hlt),zr v];simp only[gy];rw[show((o.1,o.2):aP)=o from rfl]at d;rw[d];simp[j,u]
   ·refine⟨.inr ([],i,5),O,zq ?_,l (by decide) (λh=>j h.1),xO,zq ?_⟩
    ·unfold lN;rw[Ϙ (by simpa using hlt),zr v];simp only[gy];rw[Bj hS];simp[j,mP]
    ·unfold lP;rw[Ϙ (by simpa using hlt),zr v];simp only[gy];rw[show((o.1,o.2):aP)=o from rfl]at d;rw[d];simp[j]
 have:=w seq.length 0 (gQ set t ts) om trivial;simpa[eR,cZ]using this
def Gc(hS:SetOk set)(hA:dF set ts)t(hV:jT (set,ts,t)=some true)(hV':kf (set,ts,t)=some true)(seq:List aP)(hl:seq.length<=2000000):
  ∃r,qc (set,ts,t) seq=some r/\sR (set,ts,t) seq=some r/\(r.2.2=0->seq.length<=500/\Played set t ts seq/\r.1=cZ seq ts)/\(seq.length<=500->Played set t ts seq->r=(cZ seq ts,0,0)):=by
 have i:=hA.1.1;unfold qc sR;rw[hV,hV'];simp only[gy,av,aq,ϟ];by_cases hlen:seq.length<=500
 ·rw[ϙ so,ϙ so];have d:=AO hS hA ts t;rw[d];simp only[gy];unfold qF;obtain⟨r,O,m,c,f,l⟩:=Iu hS hA t hlen;have j:kQ ts=some ts:=L6
  simp only;rw[j,m];simp only[gy];rw[l];cases r with
  | inl q=>
   simp only at c f ⊢;subst f;have b:Played set t ts seq:=by
    cases c with
    | ok h=>exact h
    | bad _ _ _ h _=>exact x4 rfl h
   have a:=BD (gG hA) b;refine⟨(cZ seq ts,0,0),?_,?_,λ_=>⟨hlen,b,rfl⟩,λ_ _=>rfl⟩
   ·unfold Km xf;simp only;have k:=a.len;rw[Gm (by rw[a.perm.length_eq];omega) a.perm.symm a.pw];rfl
   ·simp only[gy,Mf]
  | inr z=>
   simp only at c ⊢;refine⟨z,rfl,by simp,λh=>?_,λ_ b=>?_⟩
   ·cases c with
    | ok h'=>exact⟨hlen,h',rfl⟩
    | bad _ _ _ h0 _=>exact x4 h h0
   ·cases c with
    | ok h=>rfl
    | bad _ _ _ h0 hn=>exact x4 b hn
 ·rw[Ϙ so,Ϙ so];exact⟨_,rfl,rfl,λh=>x6 h,λh=>x4 h hlen⟩
end
section
variable {set:TSet} {T ts:List aP}
def dS(set:TSet)(f:Pt->Int)(p:Pt)(d:Int):Int:=if f (zC p d)<0 then 0 else gH set (f (zC p d)) (eK d)
def fI(set:TSet)(t:Int)(f:Pt->Int)(p:Pt):List Int:=(gD set).filter λk=>(gK set f p k≥t:Ϛ)
def IC(hS:SetOk set){f:Pt->Int}(hf:mB set f)(p:Pt){d}(hd:cE d):0<=dS set f p d/\dS set f p d<=(set.1.length:Int):=by
 unfold dS;split
 ·omega
 ·rcases hf (zC p d)with h | h
  ·omega
  ·obtain⟨_,_,_,_,a⟩:=ve hS h<|vd hd;exact a
def Vu(a b c e:Int){d}(hd:cE d):idx [a,b,c,e] d=some (if d=0 then a else if d=1 then b else if d=2 then c else e):=by
 rcases hd with rfl | rfl | rfl | rfl<;>rfl
def Tw(hS:SetOk set){f:Pt->Int}(hf:mB set f){rest p}(hp:dD p=true)(hg:∀d,cE d->jB rest (zC p d)=some (f (zC p d))):
  iter (uh set rest p) ([],0)=some [dS set f p 0,dS set f p 1,dS set f p 2,dS set f p 3]:=by
 have step:∀(l:List Int)(d:Int),cE d->l.length<=4->uh set rest p (l,d)=some (.inl (l++[dS set f p d],d+1)):=by
  intro l d hd j;obtain⟨d4,_,c⟩:=jp hd;unfold uh AK dS;rw[Ϙ (by simpa using d4),(jD hp hd).1];simp only[gy,hg d hd];by_cases h:f (zC p d)<0
  ·rw[Ϙ (by simpa using h),Ϙ h,zO so so];simp only[gy,c]
  ·have a:TileIx set (f<|zC p d):=by rcases hf (zC p d)with h1 | h1;omega;exact h1
   obtain⟨y,i,k,b,_,_⟩:=ve hS a<|vd hd;rw[ϙ (by simpa using h),ϙ h,i];simp only[gy,(Cy hd).1,b];rw[zO so so];simp only[gy,c]
 rw[zp<|step [] 0 (.inl rfl) si,zp<|step _ (0+1) (.inr<|.inl rfl) si,zp<|step _ (0+1+1) (.inr<|.inr<|.inl rfl) si,zp<|step _ (0+1+1+1) (.inr<|.inr<|.inr rfl) si];refine zq ?_;unfold uh;rw[ϙ si];rfl
def Jg(hS:SetOk set){f:Pt->Int}(hf:mB set f){rest p}(hp:dD p=true)(hg:∀d,cE d->jB rest (zC p d)=some (f (zC p d)))t:
  uO set rest p t=some (fI set t f p):=by
 have Q:=hS.tiles;have hlen:(gD set).length=set.2.length:=by unfold gD;simp
 unfold uO MQ;rw[Tw hS hf hp hg];simp only[gy];have m:∀(l:List Int)(k:Int),TileIx set k->iter (yA set [dS set f p 0,dS set f p 1,dS set f p 2,dS set f p 3] (l,k)) (0,0)=some (gK set f p k):=by
  intro l k B;refine GW (b:=eC set f p k) (λd hd=>by have:=jH hS hf p B hd;omega) (λs d hd M O=>?_) (λs=>?_)
  ·obtain⟨d4,_,v⟩:=jp hd;obtain⟨x,j,L,G,N,P⟩:=ve hS B hd;have z:idx [dS set f p 0,dS set f p 1,dS set f p 2,dS set f p 3] d=some (dS set f p d):=by
    rw[Vu _ _ _ _ hd];rcases hd with rfl | rfl | rfl | rfl<;>rfl
   unfold yA AL;rw[Ϙ (by simpa using d4),j];simp only[gy,G,z];have A:=jH hS hf p B hd;have hs:=Iz hS (IC hS hf p hd).1 (IC hS hf p hd).2;unfold eC lz at A ⊢;by_cases h:f (zC p d)≥0
   ·have C:dS set f p d=gH set (f<|zC p d) (eK d):=by unfold dS;rw[ϙ om]
    rw[Ϙ h]at A ⊢;rw[C]at hs ⊢;by_cases c:gH set k d=gH set (f<|zC p d) (eK d)
    ·rw[Ϙ c]at A ⊢;rw[Ϙ (by simpa using c),hs.1];simp only[gy,v];rw[c,zt om om]
    ·rw[ϙ c,ϙ (by simpa using c),v,Ϯ]
   ·have C:dS set f p d=0:=by unfold dS;rw[Ϙ om]
    rw[ϙ h];rw[C];by_cases c:gH set k d=0
    ·rw[Ϙ (by simpa using c)];have:kL set 0=some 0:=rfl;rw[this];simp only[gy,v];rw[zt om om]
    ·rw[ϙ (by simpa using c),v,Ϯ]
  ·unfold yA;rw[ϙ si]
 have key:=ml (F:=yB set t [dS set f p 0,dS set f p 1,dS set f p 2,dS set f p 3]) (gD set) (λa x=>if(gK set f p x≥t:Ϛ)then a++[x]else a) [] om (λa i x j H=>?_) (λa H=>?_)
 ·rw[key];simp only[gy,MP];congr 1;have:=j_ (λk=>(gK set f p k≥t:Ϛ)) (λx:Int=>x) (gD set) [];rw[this];simp[fI]
 ·have D:TileIx set x:=HY.1<|fe j;have E:x=(i:Int):=by
   unfold gD at j;rw[cw]at j;obtain⟨n,u,rfl⟩:=ia.1 j;have I:i<set.2.length:=by have:=zz u;simpa using this
   rw[df I]at u;injection u with u
   rw[u]
  have r:i<set.2.length:=by rw[←hlen];exact zz j
  subst E;have J:a.length<=1000:=by
   rw[H];have:∀(l:List Int)(w:List Int),(l.foldl (λa x=>if(gK set f p x≥t:Ϛ)then a++[x]else a) w).length<=w.length+l.length:=by
    intro l
    induction l with
    | nil=>intro w;simp
    | cons y l ih=>intro w;rw[cg];refine gg (ih _) ?_;split<;>simp<;>omega
   refine gg (this _ _) ?_;rw[ef];simp;omega
  unfold yB MO AM;rw[Ϙ (by simpa using r),m _ _ D];simp only[gy];by_cases h:gK set f p (i:Int)≥t
  ·rw[Ϙ (by simpa using h),Ϙ (by simpa using h),zO so so];rfl
  ·rw[ϙ (by simpa using h),ϙ (by simpa using h)]
 ·unfold yB;rw[ϙ (by simp[hlen])]
def Ut(set:TSet)t(f:Pt->Int)(p:Pt):(fI set t f p).length<=set.2.length:=by
 unfold fI;refine gg (dx _ _) ?_;unfold gD;simp
def zzE(l:List Pt)(hl:l.length<=1000000)(p:Pt):∃l',yN l p=some l'/\(∀q,q∈l'↔q∈l\/q=p)/\l'.length<=l.length+1:=by
 obtain⟨at_,v,M,G⟩:∃a:Nat,iter (pE l p) (l.length:Int)=some (a:Int)/\0<=a/\a<=l.length:=by
  have key:∀n:Nat,n<=l.length->∃a:Nat,iter (pE l p) (n:Int)=some (a:Int)/\0<=a/\a<=l.length:=by
   intro n
   induction n with
   | zero=>
    intro H;refine⟨0,zq ?_,by omega,by omega⟩;unfold pE pu;rw[ϙ si];rfl
   | succ n ih=>
    intro H;have f:aB (((n+1:Nat):Int) - 1)=(n:Int):=ψ
    have d:l[n]?=some l[n]:=cn om;cases hlt:lp l[n] p with
    | true=>
     refine⟨n+1,zq ?_,by omega,H⟩;unfold pE pu;exact U4
    | false=>
     obtain⟨a,G,I,J⟩:=ih om;refine⟨a,?_,I,J⟩;rw[←G];refine zp ?_;unfold pE pu;exact U4
  exact key l.length<|gd _
 have fC:∃l',pv l p (at_:Int) false=some l'/\(∀q,q∈l'↔q∈l\/q=p)/\l'.length<=l.length+1:=by
  unfold pv;rw[ϙ si,zO so so];simp only[gy];have F:aB (((l++[p]).length:Int) - 1)=(l.length:Int):=by rw[dt,ee,zt om om];omega
  rw[F];have key:∀(m i:Nat)(L:List Pt),i=at_+m->i<=l.length->L.length=l.length+1->(∀j,j<i->L[j]?=l[j]?)->(∀j,i<j->L[j]?=l[j - 1]?)->
    ∃L',iter (wP (at_:Int)) (L,(i:Int))=some L'/\L'.length=l.length+1/\(∀j,j<at_->L'[j]?=l[j]?)/\(∀j,at_<j->L'[j]?=l[j - 1]?):=by
   intro m
   induction m with
   | zero=>
    intro i L hi D z r A;have:i=at_:=by omega
    subst this;refine⟨L,zq ?_,z,r,A⟩;unfold wP;rw[ϙ si]
   | succ m ih=>
    intro i L hi D z r A;have f:aB ((i:Int) - 1)=((i - 1:Nat):Int):=ψ
    have d:L[i - 1]?=some (l[i - 1]'om):=by rw[r _ om,cn om]
    have C:L[i]?=some (L[i]'om):=cn om;obtain⟨L',B,w,u,k⟩:=ih (i - 1) (L.set i<|l[i - 1]'om) om om (by simp[z]) (λj b=>by rw[dh om];exact r j om) (λj b=>by
     by_cases y:j=i
     ·subst y;rw[dj om,cn om]
     ·rw[dh om];exact A j om)
    refine⟨L',?_,w,u,k⟩;rw[←B];refine zp ?_;unfold wP;rw[Ϙ so,f,zr d];simp only[gy];rw[zr C];simp
  obtain⟨L',B,w,u,k⟩:=key (l.length - at_) l.length (l++[p]) om (gd _) si (λj b=>by rw[ci b]) (λj b=>by
   rw[co so,co om])
  rw[B];simp only[gy];unfold Ko;have C:L'[at_]?=some (L'[at_]'om):=cn om;rw[zr C];simp only[gy];refine⟨_,rfl,λq=>?_,by simp[w]⟩;simp only[bb];constructor
  ·intro x;obtain⟨j,b⟩:=cz x;by_cases c:j=at_
   ·subst c;rw[dj om]at b;injection b with b;exact .inr b.symm
   ·rw[dh<|Ne.symm c]at b;rcases gk c with h | h
    ·rw[u j h]at b;exact .inl<|fe b
    ·rw[k j h]at b;exact .inl<|fe b
  ·rintro(x | rfl)
   ·obtain⟨j,b⟩:=cz x;rcases gj j at_ with h | h
    ·exact fe (i:=j) (by rw[dh om,u j h];exact b)
    ·exact fe (i:=j+1) (by rw[dh om,k (j+1) om];exact b)
   ·exact fe (i:=at_)<|dj om
 unfold yN;rw[v];simp only[gy];unfold Kp;by_cases hlt:at_<l.length
 ·have d:l[at_]?=some l[at_]:=cn hlt;rw[Ϙ (by simpa using hlt),zr d];simp only[gy];by_cases E:l[at_]=p
  ·rw[show((l[at_].1=p.1:Ϛ)&&(l[at_].2=p.2:Ϛ))=true by rw[E];simp];unfold pv;refine⟨l,rfl,λq=>⟨.inl,λh=>?_⟩,by omega⟩;rcases h with h | rfl
   ·exact h
   ·rw[←E];exact dm hlt
  ·rw[show((l[at_].1=p.1:Ϛ)&&(l[at_].2=p.2:Ϛ))=false by
    cases hb:((l[at_].1=p.1:Ϛ)&&(l[at_].2=p.2:Ϛ))with
    | false=>rfl
    | true=>simp at hb;exact x4 (Prod.ext hb.1 hb.2) E]
   exact fC
 ·rw[ϙ (by simpa using hlt)];exact fC
def pc(T:List aP)(q:Pt):Prop:=dD q=true/\bF T q<0
def Sx(hS:SetOk set)(h:Cr set T ts){x:aP}{i:Nat}(hx:ts[i]?=some x)(l0:List Pt)(l:List Pt)(y:l.length<=100000):
  ∃l',iter (sV ts (l0,(i:Int))) (l,0)=some l'/\(∀q,q∈l'↔q∈l\/∃d,cE d/\q=zC x.1 d/\pc T q)/\l'.length<=l.length+4:=by
 have m:=(h.ok x<|fe hx).1;have step:∀(l:List Pt)(d:Int),cE d->l.length<=165004->∃l',sV ts (l0,(i:Int)) (l,d)=some (.inl (l',d+1))/\(∀q,q∈l'↔q∈l\/q=zC x.1 d/\pc T q)/\l'.length<=l.length+1:=by
  intro l d hd y;obtain⟨d4,_,n⟩:=jp hd;unfold sV;rw[Ϙ (by simpa using d4),zr hx];simp only[gy,(jD m hd).1,uN];cases hb:dD (zC x.1 d)with
  | false=>
   rw[ϙ si];unfold tL tM;refine⟨l,by rw[ϙ si,n],λq=>⟨.inl,λa=>?_⟩,by omega⟩;rcases a with a |⟨rfl,hf⟩
   ·exact a
   ·rw[hf.1]at hb;cases hb
  | true=>
   rw[Ϙ rfl];obtain⟨k,v,c⟩:=(h.at<|zC x.1 d).2;rw[v];simp only[gy];unfold tL tM;by_cases j:bF T (zC x.1 d)<0
   ·obtain⟨l',w,u,z⟩:=zzE l om<|zC x.1 d;rw[Ϙ (by simpa using c.2 j),w];simp only[gy,n];refine⟨l',rfl,λq=>?_,z⟩;rw[u];exact or_congr Iff.rfl ⟨λe=>⟨e,by rw[e];exact⟨hb,j⟩⟩,λe=>e.1⟩
   ·rw[ϙ (by simpa using λb=>j<|c.1 b),n];refine⟨l,rfl,λq=>⟨.inl,λa=>?_⟩,by omega⟩;rcases a with a |⟨rfl,hf⟩
    ·exact a
    ·exact x4 hf.2 j
 obtain⟨l1,a1,b1,c1⟩:=step l 0 (.inl rfl) om;obtain⟨l2,a2,b2,c2⟩:=step l1 1 (.inr<|.inl rfl) om;obtain⟨A,a3,b3,c3⟩:=step l2 2 (.inr<|.inr<|.inl rfl) om;obtain⟨r,a4,b4,c4⟩:=step A 3 (.inr<|.inr<|.inr rfl) om;refine⟨r,?_,λq=>?_,by omega⟩
 ·rw[zp a1,show((0:Int)+1)=1 from rfl,zp a2,show((1:Int)+1)=2 from rfl,zp a3,show((2:Int)+1)=3 from rfl,zp a4];refine zq ?_;unfold sV;rw[ϙ si]
 ·rw[b4,b3,b2,b1];constructor
  ·rintro((((a | a) | a) | a) | a)
   ·exact .inl a
   ·exact .inr ⟨0,.inl rfl,a.1,a.2⟩
   ·exact .inr ⟨1,.inr<|.inl rfl,a.1,a.2⟩
   ·exact .inr ⟨2,.inr<|.inr<|.inl rfl,a.1,a.2⟩
   ·exact .inr ⟨3,.inr<|.inr<|.inr rfl,a.1,a.2⟩
  ·rintro(a |⟨d,hd,b,f⟩)
   ·exact .inl<|.inl<|.inl<|.inl a
   ·rcases hd with rfl | rfl | rfl | rfl
    ·exact .inl<|.inl<|.inl<|.inr ⟨b,f⟩
    ·exact .inl<|.inl<|.inr ⟨b,f⟩
    ·exact .inl<|.inr ⟨b,f⟩
    ·exact .inr ⟨b,f⟩
def oc(T ts:List aP)(q:Pt):Prop:=∃x∈ts,∃d,cE d/\q=zC x.1 d/\pc T q
def Tf(hS:SetOk set)(h:Cr set T ts):∃l,AV ts=some l/\(∀q,q∈l↔oc T ts q)/\l.length<=2000:=by
 have hlen:=h.len;have c:∀(m i:Nat)(l:List Pt),i+m=ts.length->l.length<=4*i->(∀q,q∈l↔oc T (ts.take i) q)->∃l',iter (sW ts) (l,(i:Int))=some l'/\(∀q,q∈l'↔oc T ts q)/\l'.length<=2000:=by
  intro m
  induction m with
  | zero=>
   intro i l hi v f;have:i=ts.length:=by omega
   subst this;rw[fv]at f;refine⟨l,zq ?_,f,by omega⟩;unfold sW;rw[ϙ si]
  | succ m ih=>
   intro i l hi v f;have hlt:i<ts.length:=by omega
   have a:ts[i]?=some ts[i]:=cn hlt;have k:aB ((i:Int)+1)=((i+1:Nat):Int):=ψ
   obtain⟨l',r,n,B⟩:=Sx hS h a l l om;obtain⟨l2,y,A,u⟩:=ih (i+1) l' om om (λq=>by
    rw[n,f,kg a];unfold oc;constructor
    ·rintro(⟨x,a,b⟩ |⟨d,hd,b⟩)
     ·exact⟨x,er.2<|.inl a,b⟩
     ·exact⟨ts[i],er.2<|.inr<|fh.2 rfl,d,hd,b⟩
    ·rintro⟨x,a,d,hd,b⟩;rcases er.1 a with a | a
     ·exact .inl ⟨x,a,d,hd,b⟩
     ·rw[fh.1 a]at b;exact .inr ⟨d,hd,b⟩)
   refine⟨l2,?_,A,u⟩;rw[←y];refine zp ?_;unfold sW;rw[Ϙ (by simpa using hlt),r];simp only[gy,Mg,k]
 obtain⟨l,j,w,z⟩:=c ts.length 0 [] om si (λq=>by unfold oc;simp);refine⟨l,?_,w,z⟩;unfold AV;have j:iter (sW ts) ([],0)=some l:=j;rw[j];rfl
def NW(hS:SetOk set)(h:Cr set T ts)s0 t:∃out,qe (set,s0,t) ts=some out/\(out=[]↔∀q,oc T ts q->fI set t (bF T) q=[])/\out.length<=1000000:=by
 obtain⟨a,V,D,X⟩:=Tf hS h;have P:=hS.tiles;unfold qe;rw[V];simp only[gy];have v:∀(m i:Nat)(out:List aP),i+m=a.length->out.length<=160*i->(out=[]↔∀q∈a.take i,fI set t (bF T) q=[])->
   ∃out',iter (rU (set,s0,t) ts a) (out,(i:Int))=some out'/\(out'=[]↔∀q∈a,fI set t (bF T) q=[])/\out'.length<=1000000:=by
  intro m
  induction m with
  | zero=>
   intro i out hi O c;have:i=a.length:=by omega
   subst this;rw[fv]at c;refine⟨out,zq ?_,c,by omega⟩;unfold rU;rw[ϙ si]
  | succ m ih=>
   intro i out hi O c;have hlt:i<a.length:=by omega
   obtain⟨q,G⟩:∃q,q=a[i]:=u3;have B:a[i]?=some q:=by rw[cn hlt,G]
   have M:aB ((i:Int)+1)=((i+1:Nat):Int):=ψ
   obtain⟨x,Q,d,hd,N,l⟩:=(D q).1<|fe B;have w:=Jg hS h.fok l.1 (λd _=>(h.at _).1) t;obtain⟨A,hA⟩:∃A,A=fI set t (bF T) q:=u3;have J:A.length<=160:=by rw[hA];exact gg (Ut _ _ _ _) P
   rw[←hA]at w;have r:∀(m j:Nat)(o:List aP),j+m=A.length->o=out++(A.take j).map (λk=>(q,k))->iter (rS a (out,(i:Int)) q A) (o,(j:Int))=some (out++A.map (λk=>(q,k))):=by
    intro m
    induction m with
    | zero=>
     intro j o U b;have:j=A.length:=by omega
     subst this;rw[fv]at b;subst b;refine zq ?_;unfold rS;rw[ϙ si]
    | succ m ih2=>
     intro j o U b;have y:j<A.length:=by omega
     have H:A[j]?=some A[j]:=cn y;have E:aB ((j:Int)+1)=((j+1:Nat):Int):=ψ
     have I:o.length<=400000:=by rw[b,dt,dy,ef];omega
     rw[←ih2 (j+1) (o++[(q,A[j])]) om (by rw[b,kg H,eh,←bf];rfl)];refine zp ?_;unfold rS;rw[Ϙ (by simpa using y),zr B];simp only[gy];rw[zr H];simp only[gy];rw[zO so so];simp only[gy,E]
   have n:=r A.length 0 out om si;obtain⟨o2,R,L,S⟩:=ih (i+1) (out++A.map (λk=>(q,k))) om so (by
    rw[kg B,List.append_eq_nil_iff,c];constructor
    ·rintro⟨f,C⟩ F u;rcases er.1 u with z | z
     ·exact f F z
     ·rw[fh.1 z,←hA];simpa using C
    ·intro f;exact⟨λF u=>f F (by simp[u]),by rw[hA,f q si];rfl⟩)
   refine⟨o2,?_,L,S⟩;rw[←R];refine zp ?_;unfold rU;rw[Ϙ (by simpa using hlt),zr B];simp only[gy];rw[w];simp only[gy];have n:iter (rS a (out,(i:Int)) q A) (out,0)=some (out++A.map (λk=>(q,k))):=n;rw[n];simp only[gy,KD,M]
 obtain⟨o,f,C,z⟩:=v a.length 0 [] om si si;have f:iter (rU (set,s0,t) ts a) ([],0)=some o:=f;refine⟨o,by rw[f];rfl,?_,z⟩;rw[C];exact⟨λh q c=>h q<|(D q).2 c,λh q c=>h q<|(D q).1 c⟩
end
end Go.Lf
namespace Go.Lf
open Go Go.Proofs Go.Sort
section
variable {set:TSet} {T ts:List aP}
def RY{b c:Type}[DecidableEq b]{m:List (b×c)}{k:b}{v:c}{e:b×c}(h:e∈bS m k v):e=(k,v)\/e∈m:=by
 unfold bS at h;split at h
 ·obtain⟨p,hp,a⟩:=fc.1 h;split at a
  ·exact .inl a.symm
  ·subst a;exact .inr hp
 ·rcases er.1 h with h | h
  ·exact .inr h
  ·exact .inl (϶ h)
def RT{d f:Type}[DecidableEq d]{m:List (d×f)}{k:d}{v:f}{q:d}(h:q=k\/∃e∈m,e.1=q):∃e∈bS m k v,e.1=q:=by
 unfold bS;split
 ·rename_i hm;obtain⟨x,c,hd⟩:=be.1 hm;have a:x.1=k:=϶ hd
  rcases h with rfl |⟨e,he,rfl⟩
  ·exact⟨(q,v),fc.2 ⟨x,c,by rw[Ϙ a]⟩,rfl⟩
  ·by_cases b:e.1=k
   ·exact⟨(k,v),fc.2 ⟨e,he,by rw[Ϙ b]⟩,b.symm⟩
   ·exact⟨e,fc.2 ⟨e,he,by rw[ϙ b]⟩,rfl⟩
 ·rcases h with rfl |⟨e,he,rfl⟩
  ·exact⟨(q,v),by simp,rfl⟩
  ·exact⟨e,eu _ he,rfl⟩
def RS{a b:Type}[DecidableEq a](m:List (a×b))(k:a)(v:b):(bS m k v).length<=m.length+1:=by
 unfold bS;split<;>simp
def RX{c d:Type}[DecidableEq c]{m:List (c×d)}{e:c×d}(h:e∈m):∃v,b_ m e.1=some v/\(e.1,v)∈m:=by
 unfold b_;cases hf:m.find? (λp=>(p.1=e.1:Ϛ))with
 | none=>exact x4 (List.find?_eq_none.1 hf e h) si
 | some x=>
  have a:=List.find?_some hf;have b:x.1=e.1:=϶ a
  exact⟨x.2,rfl,by rw[←b];exact fd hf⟩
def OInv(set:TSet)(t:Int)(T:List aP)(D:Pt->Prop)(O:List (Pt×List Int)):Prop:=(∀e∈O,e.2=iy set t T e.1/\e.2≠[]/\D e.1)/\(∀q,D q->iy set t T q≠[]->∃e∈O,e.1=q)
def OInv.step{D:Pt->Prop}{O:List (Pt×List Int)}{t}(h:OInv set t T D O)(p:Pt)d:OInv set t T (λq=>D q\/q=zC p d) (ku set t T p O d)/\(ku set t T p O d).length<=O.length+1:=by
 unfold ku;by_cases k:(iy set t T<|zC p d).length>0
 ·rw[Ϙ k];refine⟨⟨λe i=>?_,λq f l=>?_⟩,RS _ _ _⟩
  ·rcases RY i with rfl | i
   ·exact⟨rfl,λj=>by simp only at j;rw[j]at k;simp at k,.inr rfl⟩
   ·obtain⟨a,b,c⟩:=h.1 e i;exact⟨a,b,.inl c⟩
  ·refine RT ?_;rcases f with f | f
   ·exact .inr<|h.2 q f l
   ·exact .inl f
 ·rw[ϙ k];have j:iy set t T (zC p d)=[]:=bl om;have i:eL O (zC p d)=O:=by
   unfold eL;refine bz.2 λe i=>?_;obtain⟨a,b,c⟩:=h.1 e i;have:¬e.1=zC p d:=λm=>b (by rw[a,m];exact j);simp[this]
  rw[i];refine⟨⟨λe i=>?_,λq f l=>?_⟩,by omega⟩
  ·obtain⟨a,b,c⟩:=h.1 e i;exact⟨a,b,.inl c⟩
  ·rcases f with f | f
   ·exact h.2 q f l
   ·subst f;exact x4 j l
def OInv.la{D:Pt->Prop}{O:List (Pt×List Int)}{t}(h:OInv set t T D O)(p:Pt):OInv set t T (λq=>D q\/∃d,cE d/\q=zC p d) (gP set t T O p)/\(gP set t T O p).length<=O.length+4:=by
 obtain⟨m,l0⟩:=h.step p 0;obtain⟨l,l1⟩:=m.step p 1;obtain⟨k,l2⟩:=l.step p 2;obtain⟨i,u⟩:=k.step p 3;have n:gP set t T O p=ku set t T p (ku set t T p (ku set t T p (ku set t T p O 0) 1) 2) 3:=rfl;rw[n];refine⟨⟨λe j=>?_,λq f r=>?_⟩,by omega⟩
 ·obtain⟨a,b,c⟩:=i.1 e j;refine⟨a,b,?_⟩;rcases c with(((c | c) | c) | c) | c
  ·exact .inl c
  ·exact .inr ⟨0,.inl rfl,c⟩
  ·exact .inr ⟨1,.inr<|.inl rfl,c⟩
  ·exact .inr ⟨2,.inr<|.inr<|.inl rfl,c⟩
  ·exact .inr ⟨3,.inr<|.inr<|.inr rfl,c⟩
 ·refine i.2 q ?_ r;rcases f with f |⟨d,hd,f⟩
  ·exact .inl<|.inl<|.inl<|.inl f
  ·rcases hd with rfl | rfl | rfl | rfl
   ·exact .inl<|.inl<|.inl<|.inr f
   ·exact .inl<|.inl<|.inr f
   ·exact .inl<|.inr f
   ·exact .inr f
def II t(T ts:List aP):OInv set t T (λq=>∃x∈ts,∃d,cE d/\q=zC x.1 d) (ts.foldl (λO x=>gP set t T O x.1) [])/\(ts.foldl (λO x=>gP set t T O x.1) []).length<=4*ts.length:=by
 have j:∀(l:List aP)(D:Pt->Prop)(O:List (Pt×List Int)),OInv set t T D O->OInv set t T (λq=>D q\/∃x∈l,∃d,cE d/\q=zC x.1 d) (l.foldl (λO x=>gP set t T O x.1) O)/\(l.foldl (λO x=>gP set t T O x.1) O).length<=O.length+4*l.length:=by
  intro l
  induction l with
  | nil=>
   intro D O h;refine⟨⟨λe i=>?_,λq f k=>?_⟩,by simp⟩
   ·obtain⟨a,b,c⟩:=h.1 e i;exact⟨a,b,.inl c⟩
   ·rcases f with f |⟨x,hx,_⟩
    ·exact h.2 q f k
    ·cases hx
  | cons y l ih=>
   intro D O h;obtain⟨r,l1⟩:=h.la y.1;obtain⟨n,l2⟩:=ih _ _ r;rw[cg];refine⟨⟨λe i=>?_,λq f k=>?_⟩,by rw[du];omega⟩
   ·obtain⟨a,b,c⟩:=n.1 e i;refine⟨a,b,?_⟩;rcases c with(c |⟨d,hd,c⟩) |⟨x,hx,c⟩
    ·exact .inl c
    ·exact .inr ⟨y,List.mem_cons_self,d,hd,c⟩
    ·exact .inr ⟨x,List.mem_cons_of_mem _ hx,c⟩
   ·refine n.2 q ?_ k;rcases f with f |⟨x,hx,c⟩
    ·exact .inl<|.inl f
    ·rcases ey.1 hx with rfl | hx
     ·exact .inl<|.inr c
     ·exact .inr ⟨x,hx,c⟩
 have m:OInv set t T (λ_=>False) []:=⟨λe i=>(by cases i),λq f=>f.elim⟩;obtain⟨h,l⟩:=j ts (λ_=>False) [] m;refine⟨⟨λe i=>?_,λq f k=>h.2 q (.inr f) k⟩,϶ l⟩;obtain⟨a,b,c⟩:=h.1 e i;exact⟨a,b,c.resolve_left id⟩
instance{T:List aP}{q:Pt}:Decidable (pc T q):=inferInstanceAs (Decidable (_/\_))
def IE{t T q}:iy set t T q=if pc T q then fI set t (bF T) q else[]:=by
 unfold iy fI;by_cases h:pc T q
 ·rw[Ϙ h];refine Iw λk _=>?_;unfold e_;rw[h.1,Ϥ h.2];rfl
 ·rw[ϙ h];refine List.filter_eq_nil_iff.2 λk _=>?_;unfold e_;simp only[an,ϛ];exact λa=>h a.1
def IG{t}:gQ set t ts=[]↔∀q,oc ts ts q->fI set t (bF ts) q=[]:=by
 obtain⟨h,_⟩:=II (set:=set) t ts ts;constructor
 ·intro f q ⟨x,i,d,hd,k,hF⟩;by_cases j:iy set t ts q=[]
  ·rw[IE,Ϙ hF]at j;exact j
  ·obtain⟨e,hm,_⟩:=h.2 q ⟨x,i,d,hd,k⟩ j;have:e∈gQ set t ts:=hm;rw[f]at this;cases this
 ·intro k;refine bj.2 λe f=>?_;obtain⟨a,b,x,i,d,hd,c⟩:=h.1 e f;rw[IE]at a;split at a
  ·rename_i hF;exact b (by rw[a];exact k _ ⟨x,i,d,hd,c,hF⟩)
  ·exact b a
def IH(hS:SetOk set)(hA:dF set ts)t:(gQ set t ts).length<=2000/\∀e∈gQ set t ts,1<=e.2.length/\e.2.length<=160:=by
 obtain⟨h,l⟩:=II (set:=set) t ts ts;have:=(gG hA).len;refine⟨gg l om,λe d=>?_⟩;obtain⟨a,b,_⟩:=h.1 e d;have c:=RO set t ts e.1;have i:=hS.tiles;rw[←a]at c;exact⟨Nat.pos_of_ne_zero λf=>b<|bl f,by omega⟩
def Tv(hS:SetOk set)(hA:dF set ts)s0 t:∃c,Eu ((set,s0,t),ts,gQ set t ts)=some c/\(c=0↔gQ set t ts=[]):=by
 obtain⟨i,f⟩:=IH hS hA t;revert i f;generalize gQ set t ts=O;intro i f;have key:∀l:List (Pt×List Int),(∀e∈l,1<=e.2.length/\e.2.length<=160)->(l.length:Int)<=(l.map λp=>(p.2.length:Int)).sum/\(l.map λp=>(p.2.length:Int)).sum<=160*(l.length:Int):=by
  intro l
  induction l with
  | nil=>intro _;simp
  | cons x l ih=>
   intro h;obtain⟨a,b⟩:=h x List.mem_cons_self;obtain⟨c,d⟩:=ih λe k=>h e<|List.mem_cons_of_mem _ k;rw[ep,List.sum_cons,du];omega
 obtain⟨k1,k2⟩:=key O f;refine⟨_,rfl,?_⟩;have j:aB ((O.map λp=>(p.2.length:Int)).sum)=(O.map λp=>(p.2.length:Int)).sum:=zt om om;simp only[j];constructor
 ·intro m;exact bl om
 ·rintro rfl;rfl
def SH(hS:SetOk set)(hA:dF set ts)s0 t:∃l,tz ((set,s0,t),ts,gQ set t ts)=some l/\(l=[]↔gQ set t ts=[])/\True:=by
 obtain⟨d,a⟩:=IH hS hA t;revert d a;generalize gQ set t ts=O;intro d a;unfold tz;rw[Ϙ ⟨by simp only;omega,λp hp=>by have:=(a p hp).2;omega⟩];refine⟨_,rfl,?_,xO⟩;have hp:(Cw<|O.map Prod.fst).Perm (O.map Prod.fst):=(iZ jQ _).1;constructor
 ·intro i;refine bj.2 λe c=>?_;have hm:e.1∈Cw (O.map Prod.fst):=hp.mem_iff.2<|fc.2 ⟨e,c,rfl⟩;obtain⟨v,h,b⟩:=RX c;have:=List.flatMap_eq_nil_iff.1 i e.1 hm;simp only at this;rw[h]at this;have f:=(a _ b).1;simp only[gz,List.map_eq_nil_iff]at this;rw[this]at f;simp at f
 ·rintro rfl;have:=List.Perm.eq_nil hp;show(Cw<|List.map Prod.fst ([]:List (Pt×List Int))).flatMap _=[];rw[this];rfl
end
def zxm(l:List aP)(h:l.length<=2000000)(p:aP->Option Bool)(q:aP->Bool)(hp:∀b∈l,p b=some (q b)):
  ∃i:Int,mM l p=some i/\((i = -1/\∀b∈l,q b=false)\/(∃k:Nat,i=k/\k<l.length/\(∀(j:Nat) b,j<k->l[j]?=some b->q b=false)/\∃b,l[k]?=some b/\q b=true)):=by
 unfold mM wL;rcases kX l h p q hp (we l p) (λi=>rfl)with⟨c,a⟩ |⟨k,c,r⟩
 ·rw[c];exact⟨-1,rfl,.inl ⟨rfl,a⟩⟩
 ·rw[c];exact⟨k,rfl,.inr ⟨k,rfl,r⟩⟩
def zxk(l:List aP)(h:l.length<=2000000)(p:aP->Option Bool)(q:aP->Bool)(hp:∀b∈l,p b=some (q b)):
  ∃i:Int,xy l p=some i/\((i = -1/\∀b∈l,q b=false)\/(∃k:Nat,i=k/\k<l.length/\(∀(j:Nat) b,j<k->l[j]?=some b->q b=false)/\∃b,l[k]?=some b/\q b=true)):=by
 unfold xy JL;rcases kX l h p q hp (Jt l p) (λi=>rfl)with⟨c,a⟩ |⟨k,c,r⟩
 ·rw[c];exact⟨-1,rfl,.inl ⟨rfl,a⟩⟩
 ·rw[c];exact⟨k,rfl,.inr ⟨k,rfl,r⟩⟩
def zxs(l:List aP)(h:l.length<=2000000)(p:aP->Option Bool)(q:aP->Bool)(hp:∀b∈l,p b=some (q b)):
  xc l p=some (l.filter λb=>!q b):=by
 obtain⟨i,hi,w⟩:=zxm l h p q hp;unfold xc;simp only[hi,gy];rcases w with⟨rfl,d⟩ |⟨k,rfl,hk,hlow,b,n,hq⟩
 ·rw[Ϙ si];congr 1;symm;rw[bz];intro b n;rw[d b n];rfl
 ·rw[ϙ si];have B:aB ((k:Int)+1)=(k:Int)+1:=zt om om;rw[B];have key:=zy (F:=Dy p) (λs=>(k:Int)<s.2.2/\s.2.2<=l.length/\s.1.length=l.length/\0<=s.2.1/\s.2.1<s.2.2/\s.1.take s.2.1.toNat=(l.take s.2.2.toNat).filter (λb=>!q b)/\∀j,s.2.2.toNat<=j->s.1[j]?=l[j]?)
   (λs=>(l.length - s.2.2).toNat) (λz=>z.1.length=l.length/\0<=z.2/\z.2<=l.length/\z.1.take z.2.toNat=l.filter (λb=>!q b)) ?_ (l,(k:Int),(k:Int)+1) ?_
  ·obtain⟨⟨y,m⟩,I,H,E,M,C⟩:=key;simp only at H E M C;rw[I];simp only[gy];unfold JE;have N:js y m ((0,0),0)=some (y.take m.toNat++List.replicate (y.length - m.toNat) ((0,0),0)):=P2
   have L:(y.take m.toNat).length=m.toNat:=A2
   have hs:bB (y.take m.toNat++List.replicate (y.length - m.toNat) ((0,0),0)) 0 m=some (y.take m.toNat):=by
    unfold bB;exact P6
   rw[N];simp only[gy,hs];rw[C]
  ·rintro⟨y,m,j⟩ ⟨g1,g2,g3,g4,g5,g6,g7⟩;simp only at g1 g2 g3 g4 g5 g6 g7;obtain⟨j,rfl⟩:=ba (show 0<=j by omega);obtain⟨m,rfl⟩:=ba g4;simp only[bb]at g6 g7;unfold Dy wi;by_cases hlt:j<l.length
   ·left;have c:l[j]?=some l[j]:=cn hlt;have f:y[j]?=some l[j]:=by rw[g7 j<|gd _];exact c
    have v:=hp l[j] (dm hlt);have J:aB ((j:Int)+1)=(j:Int)+1:=zt om om;have r:aB ((m:Int)+1)=(m:Int)+1:=zt om om;have A:y[m]?=some y[m]:=cn om;have a:((j:Int)+1).toNat=j+1:=by omega
    have u:((m:Int)+1).toNat=m+1:=by omega
    rw[Ϙ so];simp only[zr f,gy,v,J,r,zr A,bb];cases hq:q l[j]with
    | false=>
     rw[Ϙ si];refine⟨_,rfl,⟨ϖ,ϖ,by simp only[ed];exact g3,ϖ,ϖ,?_,λi hi=>?_⟩,ϖ⟩
     ·simp only[a,u];exact P3
     ·simp only[a]at hi ⊢;rw[zK om];exact g7 i om
    | true=>
     rw[ϙ si];refine⟨_,rfl,⟨ϖ,ϖ,g3,ϖ,ϖ,?_,λi hi=>?_⟩,ϖ⟩
     ·simp only[a,bb];rw[g6,fu,c,bq];simp[hq]
     ·simp only[a]at hi ⊢;exact g7 i om
   ·right;rw[ϙ so];refine⟨_,rfl,g3,ϖ,ϖ,?_⟩;simp only[bb];rw[g6,show j=l.length by omega,fv]
  ·refine⟨ϖ,ϖ,rfl,ϖ,ϖ,?_,λj D=>rfl⟩;exact O8
def sh(d:Int):Int:=if d=0 then 1 else if d=1 then 2 else if d=2 then 4 else 8
def bt(b:Bool)(v:Int):Int:=if b then v else 0
def fU(b:Int->Bool):Int:=bt (b 0) 1+bt (b 1) 2+bt (b 2) 4+bt (b 3) 8
def vM{d}(hd:cE d):mJ .i64 1 d=some (sh d):=by rcases hd with rfl | rfl | rfl | rfl<;>rfl
def Df{d}(hd:cE d):1<=sh d/\sh d<=8:=by rcases hd with rfl | rfl | rfl | rfl<;>exact⟨by decide,by decide⟩
def SC(b:Int->Bool){d}(hd:cE d):(mz .i64 (fU b) d).map (λv=>(kx .i64 v 1=1:Ϛ))=some (b d):=by
 unfold fU;rcases hd with rfl | rfl | rfl | rfl<;>(generalize b 0=x;generalize b 1=y;generalize b 2=z;generalize b 3=u;cases x<;>cases y<;>cases z<;>cases u<;>rfl)
def Hg(b:Int->Bool){d}(hd:cE d):∃v,mz .i64 (fU b) d=some v/\(kx .i64 v 1=1:Ϛ)=b d:=by
 have h:=SC b hd;cases hv:mz .i64 (fU b) d with
 | none=>rw[hv]at h;cases h
 | some v=>rw[hv]at h;exact⟨v,rfl,A5 h⟩
def Ib(b:Int->Bool){d}(hd:cE d):uW (fU b) d=some (b d):=by
 obtain⟨v,a,c⟩:=Hg b hd;unfold uW;rw[a,gy.1,c]
def mF(b:Bool)(m s:Int):Int:=if b then oK .i64 m s else m
def IF(b:Int->Bool):mF (b 3) (mF (b 2) (mF (b 1) (mF (b 0) 0 (sh 0)) (sh 1)) (sh 2)) (sh 3)=fU b:=by
 unfold fU;generalize b 0=x;generalize b 1=y;generalize b 2=z;generalize b 3=u;cases x<;>cases y<;>cases z<;>cases u<;>rfl
def Ij(b:Int->Bool):0+bt (b 0) (sh 0)+bt (b 1) (sh 1)+bt (b 2) (sh 2)+bt (b 3) (sh 3)=fU b:=by
 unfold fU;generalize b 0=x;generalize b 1=y;generalize b 2=z;generalize b 3=u;cases x<;>cases y<;>cases z<;>cases u<;>rfl
def oD b{d}(hd:cE d):0<=bt b (sh d)/\bt b (sh d)<=8:=by
 have:=Df hd;unfold bt;split<;>omega
section
variable {set:TSet} {T ts:List aP}
def bT(set:TSet)(T:List aP)(o:aP)(d:Int):Bool:=(eC set (bF T) o.1 o.2 d>0:Ϛ)
def PI(hS:SetOk set)(h:Cr set T ts){s0 t O o}(hp:dD o.1=true)(hk:TileIx set o.2)i ms ss:
  iter (up (set,s0,t) (i,ms,ss,((set,s0,t),T,O)) o) (0,0,0)=some (fU (bT set T o),gK set (bF T) o.1 o.2):=by
 have step:∀(d k m s j:Int),cE d->k=d+1->0<=s->s<=1000->j=s+eC set (bF T) o.1 o.2 d->up (set,s0,t) (i,ms,ss,((set,s0,t),T,O)) o (m,s,d)=some (.inl (mF (bT set T o d) m<|sh d,j,k)):=by
  intro d k m s j hd c v r hs';obtain⟨d4,_,u⟩:=jp hd;have w:=jH hS h.fok o.1 hk hd;unfold up ux;rw[Ϙ (by simpa using d4),(jD hp hd).2];simp only[gy];unfold tE;simp only[gy];unfold bT mF;have a:eC set (bF T) o.1 o.2 d=if bF T (zC o.1 d)≥0 then lz set o.2 d (bF T<|zC o.1 d)else 0:=rfl;by_cases b:bF T (zC o.1 d)≥0
  ·have l:TileIx set (bF T<|zC o.1 d):=by
    rcases h.fok (zC o.1 d)with r | r
    ·omega
    ·exact r
   rw[Ϙ b]at a;rw[Ϙ (by simpa using b),(vc hS hk l hd).2.1];simp only[gy];rw[←a];by_cases f:eC set (bF T) o.1 o.2 d>0
   ·rw[Ϙ (by simpa using f),vM hd,Ϙ (by simpa using f),zt (n:=s+_) om om,u,hs',c];rfl
   ·rw[ϙ (by simpa using f),ϙ (by simpa using f),u,hs',c];rw[show s+eC set (bF T) o.1 o.2 d=s by omega]
  ·rw[ϙ b]at a;rw[ϙ (by simpa using b),a,u,hs',c,a];simp
 have b0:=jH hS h.fok o.1 hk (d:=0)<|.inl rfl;have b1:=jH hS h.fok o.1 hk (d:=1)<|.inr<|.inl rfl;have b2:=jH hS h.fok o.1 hk (d:=2)<|.inr<|.inr<|.inl rfl;rw[zp<|step 0 1 0 0 _ (.inl rfl) rfl om om rfl,zp<|step 1 2 _ _ _ (.inr<|.inl rfl) rfl om om rfl,zp<|step 2 3 _ _ _ (.inr<|.inr<|.inl rfl) rfl om om rfl,zp<|step 3 4 _ _ _ (.inr<|.inr<|.inr rfl) rfl om om rfl,IF];refine zq ?_;unfold up gK;rw[ϙ si];simp
def zyJ(hS:SetOk set)(h:Cr set T ts){s0 t o}(hp:dD o.1=true)(hk:TileIx set o.2)i ms ss:
  iter (sH (set,s0,t) (ms,ss,i,ts) o) (0,0)=some (fU (bT set T o)):=by
 have step:∀(d j m:Int),cE d->j=d+1->0<=m->m<=1000->sH (set,s0,t) (ms,ss,i,ts) o (m,d)=some (.inl (m+bt (bT set T o d) (sh d),j)):=by
  intro d j m hd c v l;obtain⟨d4,_,r⟩:=jp hd;have u:=Df hd;unfold sH yu yv;rw[Ϙ (by simpa using d4),(jD hp hd).1];simp only[gy];rw[(h.at _).1];simp only[gy];unfold bT bt;have b:eC set (bF T) o.1 o.2 d=if bF T (zC o.1 d)≥0 then lz set o.2 d (bF T<|zC o.1 d)else 0:=rfl;by_cases a:bF T (zC o.1 d)≥0
  ·have k:TileIx set (bF T<|zC o.1 d):=by
    rcases h.fok (zC o.1 d)with l | l
    ·omega
    ·exact l
   rw[Ϙ a]at b;rw[Ϙ (by simpa using a),(vc hS hk k hd).1];simp only[gy];rw[←b];by_cases f:eC set (bF T) o.1 o.2 d>0
   ·rw[Ϙ (by simpa using f),vM hd,Ϙ (by simpa using f)];simp only[gy];rw[zt (n:=m+_) om om,r,c]
   ·rw[ϙ (by simpa using f),ϙ (by simpa using f),r,c,Ϯ]
  ·rw[ϙ a]at b;rw[ϙ (by simpa using a),b,r,c];simp
 have b0:=oD (bT set T o 0) (d:=0)<|.inl rfl;have b1:=oD (bT set T o 1) (d:=1)<|.inr<|.inl rfl;have b2:=oD (bT set T o 2) (d:=2)<|.inr<|.inr<|.inl rfl;rw[zp<|step 0 1 0 (.inl rfl) rfl om om,zp<|step 1 2 _ (.inr<|.inl rfl) rfl om om,zp<|step 2 3 _ (.inr<|.inr<|.inl rfl) rfl om om,zp<|step 3 4 _ (.inr<|.inr<|.inr rfl) rfl om om,Ij];refine zq ?_;unfold sH;rw[ϙ si]
def oI(seq:List aP)(i:Nat):aP:=(seq[i]?).getD ((0,0),0)
def TI(T0 seq:List aP)(i:Nat):List aP:=eR (seq.take i) T0
def bI(set:TSet)(T0 seq:List aP)(i:Nat)(d:Int):Bool:=bT set (TI T0 seq i) (oI seq i) d
def mI(set:TSet)(T0 seq:List aP)(i:Nat):Int:=fU (bI set T0 seq i)
def sI(set:TSet)(T0 seq:List aP)(i:Nat):Int:=gK set (bF (TI T0 seq i)) (oI seq i).1 (oI seq i).2
def GG{a:Type}{l:List a}{x:a}{i}(h:l[i]?=some x):l.take (i+1)=l.take i++[x]:=by rw[fu,h];rfl
def kh{seq:List aP}{t T0 i o}(hp:Played set t T0 seq)(hi:seq[i]?=some o):
  oI seq i=o/\TileIx set o.2/\e_ set t (TI T0 seq i) o.1 o.2=true/\(TI T0 seq i).length<500/\TI T0 seq (i+1)=bS (TI T0 seq i) o.1 o.2/\cZ (seq.take (i+1)) T0=fC (o.1,o.2) (cZ (seq.take i) T0)/\dD o.1=true/\bF (TI T0 seq i) o.1<0:=by
 have b:=FS (i+1) hp;rw[GG hi]at b;obtain⟨_,d,c,f⟩:=Bc.1 b;have a:=c;unfold e_ at a;simp only[an,ϛ]at a;refine⟨by unfold oI;rw[hi];rfl,d,c,f,by unfold TI;rw[GG hi,OO],by rw[GG hi,OP],a.1.1,a.1.2⟩
def jC{seq:List aP}{t T0}(hc:Cr set T0 T0)(hp:Played set t T0 seq)i:Cr set (TI T0 seq i) (cZ (seq.take i) T0):=BD hc (FS i hp)
def RD(hS:SetOk set)(hA:dF set ts){seq:List aP}{t}(hlen:seq.length<=500)(hp:Played set t ts seq):
  y_ (set,ts,t) seq=some ((List.range seq.length).map (mI set ts seq),(List.range seq.length).map (sI set ts seq)):=by
 have n:=gG hA;have j:=hA.1.1;have k:kQ ts=some ts:=L6
 unfold y_;simp only;rw[k];simp only[gy];have key:=zy (F:=wS (set,ts,t) seq) (λs=>∃i:Nat,i<=seq.length/\s=((List.range i).map<|mI set ts seq,(List.range i).map<|sI set ts seq,(i:Int),cZ (seq.take i) ts)) (λs=>(seq.length - s.2.2.1).toNat)
  (λz=>z=((List.range seq.length).map<|mI set ts seq,(List.range seq.length).map<|sI set ts seq)) ?_ ([],[],0,ts) ⟨0,by omega,rfl⟩
 ·obtain⟨z,r,rfl⟩:=key;rw[r];rfl
 ·rintro s ⟨i,hi,rfl⟩;by_cases hlt:i<seq.length
  ·left;have f:seq[i]?=some seq[i]:=cn hlt;generalize seq[i]=o at f;obtain⟨l,h,u,w,x,m,b,c⟩:=kh hp f;have a:=jC n hp i;have v:=a.len;unfold wS Lc;rw[Ϙ so];simp only[zr f,gy];rw[zyJ hS a b h];simp only[gy];rw[zO so so];simp only[gy];rw[Nd hS a.fok b (λd _=>(a.at _).1) h];simp only[gy];rw[zO so so];simp only[gy];rw[BQ _ om];simp only[gy];refine⟨_,rfl,⟨i+1,by omega,?_⟩,?_⟩
   ·rw[zt om om,fp,eh,eh,m];unfold mI bI sI;rw[←l];rfl
   ·simp only;exact D3
  ·right;have:i=seq.length:=by omega
   subst this;unfold wS;rw[ϙ si];exact A3
def Ta(hS:SetOk set)(hA:dF set ts){seq:List aP}{t}(hlen:seq.length<=500)(hp:Played set t ts seq):
  iter (uq (set,ts,t) seq) (0,[],[],(set,ts,t),ts,gQ set t ts)=some ((List.range seq.length).map (mI set ts seq),(List.range seq.length).map (sI set ts seq)):=by
 have m:=gG hA;have key:=zy (F:=uq (set,ts,t) seq) (λs=>∃i:Nat,i<=seq.length/\∃O,s=((i:Int),(List.range i).map<|mI set ts seq,(List.range i).map<|sI set ts seq,(set,ts,t),TI ts seq i,O)) (λs=>(seq.length - s.1).toNat)
  (λz=>z=((List.range seq.length).map<|mI set ts seq,(List.range seq.length).map<|sI set ts seq)) ?_ (0,[],[],(set,ts,t),ts,gQ set t ts) ⟨0,by omega,_,rfl⟩
 ·obtain⟨z,r,rfl⟩:=key;exact r
 ·rintro s ⟨i,hi,O,rfl⟩;by_cases hlt:i<seq.length
  ·left;have d:seq[i]?=some seq[i]:=cn hlt;generalize seq[i]=o at d;obtain⟨k,h,j,l,n,u,f,c⟩:=kh hp d;have a:=jC m hp i;have b:(cZ (seq.take i) ts).length<500:=by rw[←a.perm.length_eq];exact l
   unfold uq M_;rw[Ϙ so];simp only[zr d,gy];rw[PI hS a f h];simp only[gy];rw[zO so so];simp only[gy];rw[zO so so];simp only[gy];rw[IT hS a j h b];simp only[gy];refine⟨_,rfl,⟨i+1,by omega,gP set t (bS (TI ts seq i) o.1 o.2) (eL O o.1) o.1,?_⟩,?_⟩
   ·rw[zt om om,fp,eh,eh,n];unfold mI bI sI;rw[←k];rfl
   ·simp only;rw[zt om om];omega
  ·right;have:i=seq.length:=by omega
   subst this;unfold uq;rw[ϙ si];exact⟨_,rfl,rfl⟩
end
end Go.Lf
