/- FnExactPutEntry, called with any store and any entry, returns true. -/
import Derived.Test.YtiofpfmmgkmhmaaGreatDoorK
import Derived.Test.YtiofpfmmgkmhmaaGreatDoorL
import Derived.Test.YtiofpfmmgkmhmaaGreatDoorRows
import Derived.ProofKit
import Derived.Deep.Slices
import Derived.Test.YtiofpfmmgkmhmaaGreatDoorTie
import Derived.Test.YtiofpfmmgkmhmaaGreatDoorCards
import Derived.LaidMore
import Derived.LaidLaws
import Derived.LaidHandle
import Derived.LaidSub
import Derived.OpenShut
import Derived.OpenVars
import Derived.SevenTiedAt
import Derived.Lib.LaidTab
import Derived.Lib.LaidU8
set_option linter.all false
set_option maxRecDepth 100000
set_option maxHeartbeats 4000000
namespace Go.Lf
open Go
def SV:Hi=rM:=rfl
def RE:y_=sd:=rfl
def PF(l:List Int)(h:l.length<=2000000):∃s,rM l=some s:=by
 obtain⟨x,hx,_⟩:=zB (F:=C_ l) (λs=>∃i:Nat,s.2.2=(i:Int)/\i<=l.length) (λs=>(l.length - s.2.2).toNat) (λ_=>True) (by
  rintro⟨a,b,j⟩ ⟨i,rfl,hi⟩;unfold C_;by_cases hc:i<l.length
  ·left;have e3:aA ((i:Int)+1)=((i+1:Nat):Int):=cK ⟨by omega,by omega⟩;rw[if_pos (by simp[hc])];simp only[zq<|List.getElem?_eq_getElem hc,Option.bind_some,e3];exact⟨_,rfl,⟨i+1,rfl,by omega⟩,by simp only[];omega⟩
  ·right;rw[if_neg (by simp;omega)];exact⟨_,rfl,trivial⟩) (1,0,0) ⟨0,rfl,Nat.zero_le _⟩
 exact⟨_,by unfold rM;rw[hx];rfl⟩
def Tk(a b c:List Int)(ha:a.length<=1000000)(hb:b.length<=1000000)(hc:c.length<=1000000)(h0:0<a.length):xF [a,b,c]=some (a++b++c):=by
 have w:∀n:Nat,n<=4000000->aA (n:Int)=n:=λn h=>cK ⟨by omega,by omega⟩;have n1:z7 [a,b,c] (0,0)=some (.inl ((a.length:Int),1)):=by
  unfold z7 idx;simp[w a.length (by omega),show aA 1=1 by decide]
 have n2:z7 [a,b,c] ((a.length:Int),1)=some (.inl (((a.length+b.length:Nat):Int),2)):=by
  have e:=w (a.length+b.length) (by omega);unfold z7 idx;simp only[Int.natCast_add]at e ⊢;simp[e,show aA 2=2 by decide];omega
 have n3:z7 [a,b,c] (((a.length+b.length:Nat):Int),2)=some (.inl (((a.length+b.length+c.length:Nat):Int),3)):=by
  have e:=w (a.length+b.length+c.length) (by omega);unfold z7 idx;simp only[Int.natCast_add]at e ⊢;simp[e,show aA 3=3 by decide];omega
 have n4:z7 [a,b,c] (((a.length+b.length+c.length:Nat):Int),3)=some (.inr ((a.length+b.length+c.length:Nat):Int)):=by
  unfold z7;rw[if_neg (by simp)]
 have ap:∀x y:List Int,x.length<=4000000->y.length<=4000000->aU 1 x y=some (x++y):=λx y h1 h2=>dE (by omega);have m1:z6 [a,b,c] ([],0)=some (.inl (a,1)):=by
  unfold z6 idx;simp[ap [] a (by simp) (by omega),show aA 1=1 by decide]
 have m2:z6 [a,b,c] (a,1)=some (.inl (a++b,2)):=by
  unfold z6 idx;simp[ap a b (by omega) (by omega),show aA 2=2 by decide]
 have m3:z6 [a,b,c] (a++b,2)=some (.inl (a++b++c,3)):=by
  unfold z6 idx;simp[ap (a++b) c (by simp;omega) (by omega),show aA 3=3 by decide]
 have m4:z6 [a,b,c] (a++b++c,3)=some (.inr (a++b++c)):=by
  unfold z6;rw[if_neg (by simp)]
 unfold xF Du Dt xH;rw[zt n1,zt n2,zt n3,zy n4];simp only[Option.bind_some];rw[if_pos ⟨by omega,by omega⟩];simp only[Option.bind_some];rw[zt m1,zt m2,zt m3,zy m4];rfl
def Rj{t:List UInt8}(h:t.length<=1000000):∃r,AL t=some r/\yz t=some r/\r.length=t.length+8:=by
 obtain⟨s,hs⟩:=PF (zz t) (by rw[zF];omega);unfold AL yz;rw[RE,SV];simp only[hs];unfold sd;simp only[Option.bind_some];rw[Tk _ _ _ (by simp) (by rw[zF];omega) (by simp) (by simp),dE (by rw[zF];simp;omega)];simp only[Option.bind_some];rw[dE (by simp[zF];omega)];exact⟨_,rfl,rfl,by simp[zF]⟩
def Zj{e}(hs:ES e)(hp:PI e.2.2.2)(ht:I64 e.2.1.2.2):∃r,yY e=some r/\Ac e=some r/\r.1.length<=1000008:=by
 obtain⟨b,b1,b2,b3⟩:=MT hs;obtain⟨t,t1,t2,tl⟩:=YX hs hp ht;unfold yY Ac;rw[b1,b2];simp only[Option.bind_some];cases b with
 | false=>exact⟨([],10),rfl,rfl,by simp⟩
 | true=>
  rw[t1,t2];simp only[Bool.not_true,Bool.false_eq_true,if_false,Option.bind_some];by_cases h0:t=[]
  ·rw[if_pos (by simpa using h0),if_pos (by simpa using h0)];exact⟨([],4),rfl,rfl,by simp⟩
  ·obtain⟨r,r1,r2,r3⟩:=Rj (t:=t) (by omega);rw[if_neg (by simpa using h0),if_neg (by simpa using h0),r1,r2];exact⟨(r,0),rfl,rfl,by show r.length<=_;omega⟩
def Ni(l:List Int)(h:l.length<=2000000):sU l l=some true:=by
 unfold sU FR;rw[if_neg (by simp),lI l h (wG l l) (λi x hx=>by unfold wG;rw[if_pos (by have:=zA hx;simp;omega)];simp[zq hx]) (by unfold wG;rw[if_neg (by simp)])];rfl
abbrev Lo:=(List Int)×(List Int)
def PY{p k}(h:EB p)(h0:0<=k)(h1:k<=1048576):Sz (Ai p k) k (ES p):=by
 have sz1:∀k,0<=k->k<=1048576->Sz (yR p.2.1 k) k (Tame p.2.1.1/\p.2.1.2.1.length<=1048576):=λk a b=>by
  have h1:Sz (Ge p.2.1.1 k) k (Tame p.2.1.1):=((Sw h.g h.gn a b).bind λr a b=>(Su h.t h.tn a (by omega)).bind λr a b=>Sz.fin a).mono λh=>⟨h.1.1,h.2.1.1,h.1.2,λx hx=>(h.2.1.2 x hx).1,λx hx=>(h.2.1.2 x hx).2⟩
  exact(h1.bind λr a b=>(JW h.s a (by omega)).bind λr a b=>Sz.fin a).mono λh=>⟨h.1,h.2.1⟩
 have sz2:∀k,0<=k->k<=1048576->Sz (Ah p.2.2.2 k) k (p.2.2.2.2.1.length<=1048576/\p.2.2.2.2.2.1.length<=1048576/\p.2.2.2.2.2.2.1.length<=1048576/\p.2.2.2.2.2.2.2.length<=1048576/\∀x∈p.2.2.2.2.2.2.2,x.length<=1048576):=λk a b=>
  ((OQ h.q1 a b).bind λr a b=>(OQ h.q2 a (by omega)).bind λr a b=>(Ci h.c a (by omega)).bind λr a b=>(SR h.f h.fn a (by omega)).bind λr a b=>Sz.fin a).mono λh=>⟨h.1,h.2.1,h.2.2.1,h.2.2.2.1.1,h.2.2.2.1.2⟩
 exact(Sz.len h.n h0 h1 (f:=λr=>(yR p.2.1 r).bind λx33=>if decide (x33<0)then(some (-1))else((rU p.2.2.1 x33).bind λx37=>if decide (x37<0)then(some (-1))else((Ah p.2.2.2 x37).bind λx41=>if decide (x41<0)then(some (-1))else(some x41))))
  (λr a b _=>(sz1 r a (by omega)).bind λr a b=>(JW h.a a (by omega)).bind λr a b=>(sz2 r a (by omega)).bind λr a b=>Sz.fin a)).mono λh=>⟨h.1,h.2.1.1,h.2.1.2,h.2.2.1,h.2.2.2.1.1,h.2.2.2.1.2.1,h.2.2.2.1.2.2.1,h.2.2.2.1.2.2.2.1,h.2.2.2.1.2.2.2.2⟩
def SB(p:gT):Prop:=p.1.length<=Mx/\∀y∈p.1,y.1.length<=Mx/\y.2.length<=Mx
def SS(p:gT):Prop:=p.1.length<=1048576/\∀y∈p.1,y.1.length<=1048576/\y.2.length<=1048576
def Jv{l:List Int}(hl:l.length<=Mx){k}(h0:0<=k)(h1:k<=1048576):Sz (Aj l k) k (l.length<=1048576):=(Sz.len hl h0 h1 (f:=λr=>some r) (λr a _ _=>Sz.fin a)).mono λh=>h.1
def TY{x:Lo}(hl:x.1.length<=Mx)(hl2:x.2.length<=Mx){k}(h0:0<=k)(h1:k<=1048576):Sz (AI x k) k (x.1.length<=1048576/\x.2.length<=1048576):=((Jv hl h0 h1).bind λr a b=>(Jv hl2 a (by omega)).bind λr a _=>Sz.fin a).mono λh=>⟨h.1,h.2.1⟩
def Sv{p}(h:SB p):Sz (Ag p 1048576) 1048576 (SS p):=((Sz.len h.1 (by omega) (by omega) (f:=λr=>(iter (EG p.1) (r,0)).bind λx13=>match x13 with | .inl z=>Gg z | .inr z=>some z)
  (λr a b hn=>Bu p.1 hn a (by omega) AI _ (λx hm k a b=>TY (h.2 x hm).1 (h.2 x hm).2 a b) (EG p.1) λst=>rfl)).bind λr a _=>Sz.fin a).mono λh=>h.1
def Jx(l:List Int)(h:l.length<=2000000):sZ l=some l:=by
 unfold sZ;rw[iW (by omega) (by omega) (by omega)];simp only[Option.bind_some,Int.toNat_natCast];rw[lJ l h 0 (wD l) (λa i x y hx hy=>by unfold wD;rw[if_pos (by have:=zA hx;simp;omega)];simp[zq hx,zq hy]) (λa=>by unfold wD;rw[if_neg (by simp)])];rfl
def Zp{p}(h:SS p):laws_toStore p=some p:=by
 have hl:Ap p.1=some p.1:=by
  unfold Ap;rw[iW (by omega) (by have:=h.1;omega) (by omega)];simp only[Option.bind_some,Int.toNat_natCast];rw[lJ p.1 (by have:=h.1;omega) ([],[]) (wQ p.1) (λa i x y hx hy=>by
   have hm:=h.2 x<|List.mem_of_getElem? hx;unfold wQ;rw[if_pos (by have:=zA hx;simp;omega)];simp[zq hx,zq hy,Hn,Jx x.1 (by omega),Jx x.2 (by omega)]) (λa=>by unfold wQ;rw[if_neg (by simp)])]
  rfl
 unfold laws_toStore;rw[hl];rfl
def Na{p:gT}(h:p.1.length<=2000000)(hr:∀y∈p.1,y.1.length<=2000000/\y.2.length<=2000000):laws_eqStore p p=some true:=by
 have hl:AB p.1 p.1=some true:=by
  unfold AB Gj;rw[if_neg (by simp),lI p.1 h (wR p.1 p.1) (λi x hx=>by
   have hm:=hr x<|List.mem_of_getElem? hx;unfold wR;rw[if_pos (by have:=zA hx;simp;omega)];simp[zq hx,Ho,Ni x.1 hm.1,Ni x.2 hm.2]) (by unfold wR;rw[if_neg (by simp)])]
  rfl
 unfold laws_eqStore;rw[hl];simp
def TQ(p:gT):Prop:=∃x y:Lo,p.1=[x,y]/\(p.2=0\/p.2=1)/\x.1.length+x.2.length<=100000/\y.1.length+y.2.length<=100000
def BH{x:Lo}(h:x.1.length<=2000000)(h2:x.2.length<=2000000):jK x=some (decide (100000<x.1.length+x.2.length)):=by
 unfold jK;rw[zv (by omega) (by omega)];congr 1;exact decide_eq_decide.2 (by omega)
def Hx{x y:Lo}{z}(h1:x.1.length<=2000000)(h2:x.2.length<=2000000)(h3:y.1.length<=2000000)(h4:y.2.length<=2000000):
  mE ([x,y],z)=some (decide ((z=0\/z=1)/\x.1.length+x.2.length<=100000/\y.1.length+y.2.length<=100000))/\
  pD ([x,y],z)=some (decide ((z=0\/z=1)/\x.1.length+x.2.length<=100000/\y.1.length+y.2.length<=100000)):=by
 have w1:aA 1=1:=by decide
 have w2:aA 2=2:=by decide
 have e:decide (0<=z/\z<=1)=decide (z=0\/z=1):=decide_eq_decide.2 (by omega);have hc:vp [x,y] (λq0=>jK q0)=some (decide (100000<x.1.length+x.2.length\/100000<y.1.length+y.2.length)):=by
  unfold vp DK Dd;by_cases c1:100000<x.1.length+x.2.length
  ·rw[zy (show zL [x,y] (λq0=>jK q0) 0=some (.inr<|.inr 0) by unfold zL idx;simp[BH h1 h2,c1])];simp[c1]
  ·rw[zt (show zL [x,y] (λq0=>jK q0) 0=some (.inl 1) by unfold zL idx;simp[BH h1 h2,c1,w1])];by_cases c2:100000<y.1.length+y.2.length
   ·rw[zy (show zL [x,y] (λq0=>jK q0) 1=some (.inr<|.inr 1) by unfold zL idx;simp[BH h3 h4,c2])];simp[c2]
   ·rw[zt (show zL [x,y] (λq0=>jK q0) 1=some (.inl 2) by unfold zL idx;simp[BH h3 h4,c2,w2]),
     zy (show zL [x,y] (λq0=>jK q0) 2=some (.inr<|.inl ()) by unfold zL;simp)]
    simp[c1,c2]
 have hi:pg ([x,y],z) false=some (decide (x.1.length+x.2.length<=100000/\y.1.length+y.2.length<=100000)):=by
  unfold pg;rw[if_neg (by simp)];have t:∀l:Lo,l.1.length<=2000000->l.2.length<=2000000->decide (aA ((l.1.length:Int)+(l.2.length:Int))>100000)=decide (100000<l.1.length+l.2.length):=λl a b=>by
   rw[zv (by omega) (by omega)];exact decide_eq_decide.2 (by omega)
  by_cases c1:100000<x.1.length+x.2.length
  ·rw[zy (show ja ([x,y],z) 0=some (.inr<|.inr false) by unfold ja idx;simp[-decide_eq_true_eq,t x h1 h2,c1])];simp;omega
  ·rw[zt (show ja ([x,y],z) 0=some (.inl 1) by unfold ja idx;simp[-decide_eq_true_eq,t x h1 h2,c1,w1])];by_cases c2:100000<y.1.length+y.2.length
   ·rw[zy (show ja ([x,y],z) 1=some (.inr<|.inr false) by unfold ja idx;simp[-decide_eq_true_eq,t y h3 h4,c2])];simp;omega
   ·rw[zt (show ja ([x,y],z) 1=some (.inl 2) by unfold ja idx;simp[-decide_eq_true_eq,t y h3 h4,c2,w2]),
     zy (show ja ([x,y],z) 2=some (.inr<|.inl ()) by unfold ja;simp)]
    simp[Gy];omega
 constructor
 ·unfold mE;rw[if_pos (by simp),fD,e];simp only[Option.bind_some,hc];by_cases hz:z=0\/z=1
  ·rw[if_pos<|decide_eq_true hz,show decide (_\/_)=!decide (x.1.length+x.2.length<=100000/\y.1.length+y.2.length<=100000) by rw[←decide_not];exact decide_eq_decide.2 (by omega)];simp only[hz,true_and,Option.bind_some,Bool.not_not]
  ·rw[if_neg (λh=>hz<|of_decide_eq_true h)];simp[hz]
 ·unfold pD;rw[if_neg (by simp),show eO z 0 1=f_ z 0 1 from rfl,fD,e];simp only[Option.bind_some];by_cases hz:z=0\/z=1
  ·rw[decide_eq_true hz,Bool.not_true,hi];simp only[hz,true_and]
  ·rw[decide_eq_false hz,Bool.not_false];unfold pg;simp[hz]
def Qq{p}(h:SS p):∃b,mE p=some b/\pD p=some b/\(b=true->TQ p):=by
 obtain⟨L,z⟩:=p;by_cases hl:L.length=2
 ·obtain⟨x,y,rfl⟩:∃x y,L=[x,y]:=by
   match L,hl with
   |[x,y],_=>exact⟨x,y,rfl⟩
  have hx:=h.2 x (by simp);have hy:=h.2 y (by simp);obtain⟨v1,v2⟩:=Hx (z:=z) (x:=x) (y:=y) (by omega) (by omega) (by omega) (by omega);exact⟨_,v1,v2,λhb=>by have:=of_decide_eq_true hb;exact⟨x,y,rfl,this⟩⟩
 ·refine⟨false,?_,?_,λh=>by cases h⟩
  ·unfold mE;rw[if_neg (by simp;omega)]
  ·unfold pD;rw[if_pos (by simp;omega)];rfl
def AF{l:List Int}(h:l.length<=2000000):pB l=some l:=by
 unfold pB sJ;rw[if_neg (by simp),dE (by simp;omega)];rfl
def Qh{x y:Lo}{z}(h1:x.1.length<=2000000)(h2:x.2.length<=2000000)(h3:y.1.length<=2000000)(h4:y.2.length<=2000000):
  xn ([x,y],z)=some ([x,y],z)/\Ar ([x,y],z)=some ([x,y],z):=by
 have w1:aA 1=1:=by decide
 have w2:aA 2=2:=by decide
 have a1:aU 48 [] [x]=some [x]:=by unfold aU;simp
 have a2:aU 48 [x] [y]=some [x,y]:=by unfold aU;simp
 have b:∀l:List Int,l.length<=2000000->aU 1 ([]:List Int) l=some l:=λl h=>dE (by simp;omega);constructor
 ·unfold xn Em;rw[zt (show mn ([x,y],z) (0,[])=some (.inl (1,[x])) by unfold mn idx;simp[AF h1,AF h2,a1,w1]),
   zt (show mn ([x,y],z) (1,[x])=some (.inl (2,[x,y])) by unfold mn idx;simp[AF h3,AF h4,a2,w2]),
   zy (show mn ([x,y],z) (2,[x,y])=some (.inr [x,y]) by unfold mn;simp)]
  rfl
 ·unfold Ar Gc;rw[zt (show mp ([x,y],z) (0,[])=some (.inl (1,[x])) by unfold mp idx;simp[b _ h1,b _ h2,a1,w1]),
   zt (show mp ([x,y],z) (1,[x])=some (.inl (2,[x,y])) by unfold mp idx;simp[b _ h3,b _ h4,a2,w2]),
   zy (show mp ([x,y],z) (2,[x,y])=some (.inr [x,y]) by unfold mp;simp)]
  rfl
def qe(w:gT×Int):Prop:=w.1.1.length<=2/\∀y∈w.1.1,y.1.length<=2000000/\y.2.length<=2000000
def Tc{p e}(h:SS p)(hs:ES e)(hp:PI e.2.2.2)(ht:I64 e.2.1.2.2):∃w,impl_PutEntry p e=some w/\spec_PutEntry p e=some w/\qe w:=by
 obtain⟨b,b1,b2,b3⟩:=Qq h;obtain⟨f,f1,f2,fl⟩:=Zj hs hp ht;unfold impl_PutEntry spec_PutEntry;rw[b1,b2,f1,f2];simp only[Option.bind_some];cases b with
 | false=>exact⟨(([],0),1),rfl,rfl,by simp[qe]⟩
 | true=>
  simp only[Bool.not_true,Bool.false_eq_true,if_false];by_cases hf:f.2=0
  ·simp only[hf,decide_true,Bool.not_true,Bool.false_eq_true,if_false];obtain⟨x,y,hl,hz,hx,hy⟩:=b3 rfl;obtain⟨L,z⟩:=p;simp only at hl hz;subst hl;obtain⟨c1,c2⟩:=Qh (x:=x) (y:=y) (z:=z) (by omega) (by omega) (by omega) (by omega);rw[c1,c2];simp only[Option.bind_some];rcases hz with rfl | rfl
   ·have ap:aU 1 x.2 f.1=some (x.2++f.1):=dE (by omega);obtain⟨v1,_⟩:=Hx (x:=(x.1,x.2++f.1)) (y:=y) (z:=0) (by simp only;omega) (by simp only[List.length_append];omega) (by omega) (by omega);simp only[List.length_append]at v1;have e1:idx [x,y] 0=some x:=rfl;simp only[e1,Option.bind_some,ap,Int.toNat_zero,List.set_cons_zero,v1];rw[zv (n:=(x.1.length:Int)+(x.2.length:Int)) (by omega) (by omega),zv (by omega) (by omega)];by_cases hc:x.1.length+(x.2.length+f.1.length)<=100000
    ·rw[if_neg (by simp;omega),if_neg (by simp;omega)];refine⟨_,rfl,rfl,by simp,λq hq=>?_⟩;simp only[List.mem_cons,List.not_mem_nil,or_false]at hq;rcases hq with rfl | rfl
     ·simp only[List.length_append];omega
     ·omega
    ·rw[if_pos (by simp;omega),if_pos (by simp;omega)];exact⟨_,rfl,rfl,by simp[qe]⟩
   ·have ap:aU 1 y.2 f.1=some (y.2++f.1):=dE (by omega);obtain⟨v1,_⟩:=Hx (x:=x) (y:=(y.1,y.2++f.1)) (z:=1) (by omega) (by omega) (by simp only;omega) (by simp only[List.length_append];omega);simp only[List.length_append]at v1;have e1:idx [x,y] 1=some y:=rfl;have e2:(1:Int).toNat=1:=rfl;simp only[e1,Option.bind_some,ap,e2,List.set_cons_succ,List.set_cons_zero,v1];rw[zv (n:=(y.1.length:Int)+(y.2.length:Int)) (by omega) (by omega),zv (by omega) (by omega)];by_cases hc:y.1.length+(y.2.length+f.1.length)<=100000
    ·rw[if_neg (by simp;omega),if_neg (by simp;omega)];refine⟨_,rfl,rfl,by simp,λq hq=>?_⟩;simp only[List.mem_cons,List.not_mem_nil,or_false]at hq;rcases hq with rfl | rfl
     ·omega
     ·simp only[List.length_append];omega
    ·rw[if_pos (by simp;omega),if_pos (by simp;omega)];exact⟨_,rfl,rfl,by simp[qe]⟩
  ·simp only[hf,decide_false,Bool.not_false,if_true];exact⟨_,rfl,rfl,by simp[qe]⟩
def Nr(l:List Int){k}(hk:1<=k)(hk2:k<=100000000)(hl:l.length<=2000000):∃l',kx l k=some (k+(l.length:Int),l')/\sa l' k=some (k+(l.length:Int)):=by
 have key:=zB (F:=ku) (λs=>∃i:Nat,s.2.2=(i:Int)/\i<=l.length/\s.2.1=k+(i:Int)/\s.1.length=l.length/\∀(j:Nat) y,j<i->s.1[j]?=some y->y=IntKind.wrap .u8 (k+(j:Int))) (λs=>(l.length - s.2.2).toNat)
  (λz=>z.2=k+(l.length:Int)/\z.1.length=l.length/\∀(j:Nat) y,z.1[j]?=some y->y=IntKind.wrap .u8 (k+(j:Int))) ?_ (l,k,0) ⟨0,rfl,Nat.zero_le _,by simp,rfl,λj y hj=>absurd hj<|Nat.not_lt_zero _⟩
 ·obtain⟨⟨l',k'⟩,hz,e,h,hm⟩:=key;simp only at e h hm;subst e;refine⟨l',by unfold kx wS;rw[hz];rfl,?_⟩;have key2:=zB (F:=Dj l') (λs=>∃i:Nat,s.2=(i:Int)/\i<=l'.length/\s.1=k+(i:Int)) (λs=>(l'.length - s.2).toNat) (λz=>z=.inl (k+(l'.length:Int))) ?_ (k,0) ⟨0,rfl,Nat.zero_le _,by simp⟩
  ·obtain⟨z,hz,rfl⟩:=key2;unfold sa Es;rw[hz];simp only[Option.bind_some,h]
  ·rintro⟨q,i1⟩ ⟨i,rfl,hi,rfl⟩;simp only at hi ⊢;unfold Dj;by_cases hc:i<l'.length
   ·left;have hx:l'[i]?=some l'[i]:=List.getElem?_eq_getElem hc;have e1:aA (k+(i:Int)+1)=k+((i+1:Nat):Int):=(cK ⟨by omega,by omega⟩).trans (by omega);have e3:aA ((i:Int)+1)=((i+1:Nat):Int):=cK ⟨by omega,by omega⟩;rw[if_pos (by simp[hc])];simp only[zq hx,Option.bind_some,e1,e3];rw[if_neg (by rw[←hm i _ hx];simp)];exact⟨_,rfl,⟨i+1,rfl,by omega,rfl⟩,by simp only[];omega⟩
   ·right;rw[if_neg (by simp;omega)];have:i=l'.length:=by omega
    exact⟨_,rfl,by simp only[this]⟩
 ·rintro⟨m,q,i1⟩ ⟨i,rfl,hi,rfl,g2,g3⟩;simp only at hi g2 g3 ⊢;unfold ku;by_cases hlt:i<m.length
  ·left;have hx:m[i]?=some m[i]:=List.getElem?_eq_getElem hlt;have e1:aA (k+(i:Int)+1)=k+((i+1:Nat):Int):=(cK ⟨by omega,by omega⟩).trans (by omega);have e3:aA ((i:Int)+1)=((i+1:Nat):Int):=cK ⟨by omega,by omega⟩;rw[if_pos (by simp[hlt])];simp only[zq hx,Option.bind_some,Int.toNat_natCast,e1,e3];refine⟨_,rfl,⟨i+1,rfl,by omega,rfl,by simp only[List.length_set];exact g2,λj y hj hy=>?_⟩,by simp only[];omega⟩;simp only at hy;by_cases hji:i=j
   ·subst hji;rw[zW hlt]at hy;injection hy with hy
    rw[←hy]
   ·rw[zN hji]at hy;exact g3 j y (by omega) hy
  ·right;rw[if_neg (by simp;omega)];have:i=l.length:=by omega
   subst this;exact⟨_,rfl,rfl,g2,λj y hy=>g3 j y (by have:=zA hy;simp only at this;omega) hy⟩
def HM{L:List Lo}{x:Lo}{i:Nat}{k:Int}(hx:L[i]?=some x)(hi:i<=2)(hk:1<=k)(hk2:k<=50000000)(h1:x.1.length<=2000000)(h2:x.2.length<=2000000):
  ∃y:Lo,∃k':Int,1<=k'/\k'<=k+4000000/\n' (L,k,(i:Int))=some (.inl (L.set i y,k',((i+1:Nat):Int)))/\
   ∀M:List Lo,M[i]?=some y->oa M (k,(i:Int))=some (.inl (k',((i+1:Nat):Int))):=by
 obtain⟨a,m1,q1⟩:=Nr x.1 hk (by omega) h1;obtain⟨b,m2,q2⟩:=Nr x.2 (k:=k+(x.1.length:Int)) (by omega) (by omega) h2;have e3:aA ((i:Int)+1)=((i+1:Nat):Int):=cK ⟨by omega,by omega⟩;refine⟨(a,b),k+(x.1.length:Int)+(x.2.length:Int),by omega,by omega,?_,λM hM=>?_⟩
 ·unfold n';rw[if_pos (by have:=zA hx;simp;omega)];simp only[zq hx,Option.bind_some,m1,m2,e3,Int.toNat_natCast]
 ·unfold oa;rw[if_pos (by have:=zA hM;simp;omega)];simp only[zq hM,Option.bind_some,q1,q2,e3];rw[if_neg (by simp;omega),if_neg (by simp;omega)]
def Hl{L:List Lo}{k}:n' (L,k,(L.length:Int))=some (.inr (L,k)):=by unfold n';rw[if_neg (by simp)]
def HJ{L:List Lo}{k}:oa L (k,(L.length:Int))=some (.inr (.inl k)):=by unfold oa;rw[if_neg (by simp)]
def Qy{w}(h:qe w):∃k m,laws_markLogS w.1.1 1=some (k,m)/\0<=k/\laws_heldStore (m,w.1.2) 1=some k:=by
 obtain⟨⟨L,z⟩,c⟩:=w;obtain⟨h1,h2⟩:=h;simp only at h1 h2 ⊢;have fin:∀(M:List Lo)(k:Int),0<=k->iter n' (L,1,0)=some (M,k)->iter (oa M) (1,0)=some (.inl k)->∃k m,laws_markLogS L 1=some (k,m)/\0<=k/\laws_heldStore (m,z) 1=some k:=λM k hk e1 e2=>
  ⟨k,M,by unfold laws_markLogS;rw[e1];rfl,hk,by unfold laws_heldStore Gs Fi;rw[e2];simp only[Option.bind_some];rw[if_neg (by simp;omega)]⟩
 match L,h1 with
 |[],_=>exact fin [] 1 (by omega) (zy<|Hl (L:=[]))<|zy<|HJ (L:=[])
 |[x],_=>
  obtain⟨y,k,k0,k1,s1,s2⟩:=HM (L:=[x]) (x:=x) (i:=0) (k:=1) rfl (by omega) (by omega) (by omega) (h2 x (by simp)).1 (h2 x (by simp)).2;exact fin [y] k (by omega) ((zt s1).trans<|zy<|Hl (L:=[y]))<|(zt<|s2 [y] rfl).trans<|zy<|HJ (L:=[y])
 |[x,x'],_=>
  obtain⟨y,k,k0,k1,s1,s2⟩:=HM (L:=[x,x']) (x:=x) (i:=0) (k:=1) rfl (by omega) (by omega) (by omega) (h2 x (by simp)).1 (h2 x (by simp)).2;obtain⟨y',k',k2,k3,t1,t2⟩:=HM (L:=[y,x']) (x:=x') (i:=1) (k:=k) rfl (by omega) (by omega) (by omega) (h2 x' (by simp)).1 (h2 x' (by simp)).2;exact fin [y,y'] k' (by omega) ((zt s1).trans<|(zt t1).trans<|zy<|Hl (L:=[y,y']))<|(zt<|s2 [y,y'] rfl).trans<|(zt<|t2 [y,y'] rfl).trans<|zy<|HJ (L:=[y,y'])
def put_law{p e}(hb:SB p)(h:EB e)(ht:I64 e.2.1.2.2)(q1:∀o∈e.2.2.2.2.1,∀n∈optN o,I64 n)(q2:∀o∈e.2.2.2.2.2.1,∀n∈optN o,I64 n)(c1:∀n∈e.2.2.2.2.2.2.1,I64 n)(f1:∀l∈e.2.2.2.2.2.2.2,∀n∈l,I64 n):
  ∃z1,Ag p 1048576=some z1/\(¬z1<0->∃z2,Ai e z1=some z2/\(¬z2<0->∃w k m,PutOk p e w k m)):=by
 obtain⟨z1,e1,o1⟩:=Sv hb;refine⟨z1,e1,λhz=>?_⟩;rcases o1 with o1 |⟨a1,a2,hS⟩
 ·exact absurd o1 hz
 obtain⟨z2,e2,o2⟩:=PY h a1 a2;refine⟨z2,e2,λhz2=>?_⟩;rcases o2 with o2 |⟨_,_,hs⟩
 ·exact absurd o2 hz2
 obtain⟨w,w1,w2,w3⟩:=Tc hS hs ⟨q1,q2,c1,f1,hs.2.2.2.2.1,hs.2.2.2.2.2.1,hs.2.2.2.2.2.2.1,hs.2.2.2.2.2.2.2.1,hs.2.2.2.2.2.2.2.2⟩ ht;obtain⟨k,m,m1,k0,m2⟩:=Qy w3;exact⟨w,k,m,Zp hS,Zq hs,w2,w1,Na (by have:=w3.1;omega) w3.2,Na (by have:=hS.1;omega) (λy hy=>by have:=hS.2 y hy;omega),Yz hs,m1,k0,m2,
  ⟨hs.2.1.g,hs.2.1.t,hs.2.2.1,hs.2.2.2.1,hs.2.2.2.2.1,hs.2.2.2.2.2.1,hs.2.2.2.2.2.2.1,hs.2.2.2.2.2.2.2.1,hs.2.1.ts,hs.2.2.2.2.2.2.2.2⟩,hS.1,hS.2⟩
end Go.Lf
namespace Go.Proofs.YtiofpfmmgkmhmaaGreatDoor
open Go Go.ChangeShapes Go.WideShapes Go.ChangeAt Go.RowKit Go.Deep
def bN(H:Array Obj)(b:Nat):Nat:=match H[b]? with | some (.cells c _ _)=>c.size | _=>0
def start(W:World):Lf.K:=⟨W.heap,λb=>bN W.heap b,λ_=>(0,5)⟩
def PR{W:World}{b o v}(h:W.cell? ⟨b,o,none⟩=some v):∃c T k,W.heap[b]?=some (.cells c T k)/\c[o]?=some v:=by
 unfold World.cell? at h;split at h
 ·rename_i c T k hH;simp only[Option.isSome_none,Bool.false_eq_true,if_false]at h;exact⟨c,T,k,hH,h⟩
 ·cases h
def Pv{W:World}{b off n cs}(hn:1<=n)(h:W.cells? 0 ⟨b,off,none⟩ n=some cs):Lf.PubAt (start W) b off cs:=by
 obtain⟨_,hl,hc⟩:=World.cells?_some h;have hcell:∀i,i<n->∃v c T k,cs[i]?=some v/\W.heap[b]?=some (.cells c T k)/\c[off+i]?=some v:=λi hi=>by
  have h1:=hc i hi;rw[Go.WideShapes.add_plain,List.getElem?_eq_getElem (by omega)]at h1;obtain⟨c,T,k,h2,h3⟩:=PR h1;exact⟨_,c,T,k,List.getElem?_eq_getElem (by omega),h2,h3⟩
 obtain⟨v,c,T,k,_,hH,hv⟩:=hcell (n - 1) (by omega);have hz0:off+(n - 1)<c.size:=(Array.getElem?_eq_some_iff.1 hv).1;refine⟨(Array.getElem?_eq_some_iff.1 hH).1,?_,λj v hj=>?_⟩
 ·show off+cs.length<=bN W.heap b;unfold bN;rw[hH];simp only;omega
 ·have hjn:j<n:=by rw[←hl];exact(List.getElem?_eq_some_iff.1 hj).1
  obtain⟨v',c',T',k',e1,e2,e3⟩:=hcell j hjn;rw[hj]at e1;injection e1 with e1
  subst e1;unfold Lf.K.cell start;simp only[e2];exact e3
section
variable {H:Type} {enc:TypeId×Value->H} {W:World} {α β:Type}
def Op(enc:TypeId×Value->H)(W:World)(t:Lf.Ty α)(T:TypeId):Prop:=∀fuel cs x,DataW.trod enc Tryz.prog W 0 (λ_=>true) true fuel T cs=some x->∃l,t.own (start W) cs l
def Th{T:TypeId}(hu:Tryz.prog.underlying T=some (.int .i64)):Op enc W Lf.tI64 T:=λfuel cs x h=>by
 obtain⟨n,rfl,_,hw⟩:=DataW.trod_int hu h;simp[Lit.wf,IntKind.min,IntKind.max,IntKind.signed,IntKind.bits]at hw;exact⟨n,rfl,by unfold Lf.I64;omega⟩
def Tg{T:TypeId}(hu:Tryz.prog.underlying T=some .string):Op enc W Lf.tStr T:=λfuel cs x h=>by
 obtain⟨s,rfl,_,hw⟩:=DataW.trod_string hu h;refine⟨s.data.toList,rfl,?_⟩;have:s.data.toList.length=s.size:=by simp
 unfold maxLen at hw;omega
def T_{T:TypeId}(hu:Tryz.prog.underlying T=some (.int .u8)):Op enc W Lf.tU8 T:=λfuel cs x h=>by
 obtain⟨n,rfl,_,hw⟩:=DataW.trod_int hu h;simp[Lit.wf,IntKind.min,IntKind.max,IntKind.signed,IntKind.bits]at hw;exact⟨n,rfl,by omega⟩
noncomputable def jt(T:TypeId)(l:List (TypeId×Nat)):Bool:=match Tryz.prog.underlying T with
 | some (.struct fs)=>fs.toList.map (λf=>(f.type,f.offset)) == l
 | _=>false
def lE{T:TypeId}{l:List (TypeId×Nat)}(hu:jt T l=true){cs:List Value}{fuel x}(h:DataW.trod enc Tryz.prog W 0 (λ_=>true) true fuel T cs=some x):
  cs.length=Tryz.prog.cellsOf T/\∀(i:Nat)(A:TypeId)(o:Nat),l[i]?=some (A,o)->∃y n,DataW.trod enc Tryz.prog W 0 (λ_=>true) true n A ((cs.drop o).take (Tryz.prog.cellsOf A))=some y:=by
 unfold jt at hu;split at hu
 ·rename_i fs hfs;have hl:fs.toList.map (λf=>(f.type,f.offset))=l:=by simpa using hu
  obtain⟨xs,n,_,_,hlen,hxl,hf⟩:=DataW.trod_struct hfs h;refine⟨hlen,λi A o hi=>?_⟩;rw[←hl,List.getElem?_map]at hi;obtain⟨f,hf',e⟩:=Option.map_eq_some_iff.1 hi;injection e with e1 e2
  have hfi:fs[i]?=some f:=by simpa using hf'
  have g:=hf i f hfi;have hi':i<xs.length:=by rw[hxl];exact(Array.getElem?_eq_some_iff.1 hfi).1
  rw[e1,e2,List.getElem?_eq_getElem hi']at g;exact⟨_,n,g⟩
 ·cases hu
def pR{T A B:TypeId}{a:Lf.Ty α}{b:Lf.Ty β}(hu:jt T [(A,0),(B,a.size)]=true)(hT:Tryz.prog.cellsOf T=a.size+b.size)(hA:Tryz.prog.cellsOf A=a.size)(hB:Tryz.prog.cellsOf B=b.size)(oA:Op enc W a A)(oB:Op enc W b B):Op enc W (Lf.tPair a b) T:=λfuel cs x h=>by
 obtain⟨hlen,hf⟩:=lE hu h;obtain⟨y0,n0,g0⟩:=hf 0 A 0 rfl;obtain⟨y1,n1,g1⟩:=hf 1 B a.size rfl;rw[hA,List.drop_zero]at g0;rw[hB,List.take_of_length_le (by rw[List.length_drop];omega)]at g1;obtain⟨l0,e0⟩:=oA _ _ _ g0;obtain⟨l1,e1⟩:=oB _ _ _ g1;exact⟨(l0,l1),cs.take a.size,cs.drop a.size,(List.take_append_drop _ _).symm,e0,e1⟩
def lP[Inhabited α]{T E:TypeId}{t:Lf.Ty α}(hu:Tryz.prog.underlying T=some (.slice E))(hC:Tryz.prog.cellsOf E=t.size)(h1:1<=t.size)(oE:Op enc W t E):Op enc W (Lf.tSl t) T:=λfuel cs x h=>by
 rcases open_slice hu h with⟨rfl,_⟩ |⟨a,len,cap,m,n,D,Pl,rfl,hb,hl,hm,hmm,_,hi⟩
 ·exact⟨[],none,0,rfl,Nat.le_refl _,by simp,λh=>by cases h⟩
 ·have hlm:len<=m:=by rw[hmm];simpa using hl
  rw[hC]at hi;obtain⟨f,hf⟩:=choose_lt (n:=len) (p:=λi (x:α)=>∃cs',W.cells? 0 (a.add (i*t.size)) t.size=some cs'/\t.own (start W) cs' x) (λi hi'=>by
   obtain⟨cs',h1,h2⟩:=hi i (by omega);obtain⟨l,hl⟩:=oE _ _ _ h2;exact⟨l,cs',h1,hl⟩)
  refine⟨(List.range len).map f,some a,cap,by simp,by simpa using hl,by unfold maxLen at hm;simp;omega,λh0=>?_⟩;have h0':0<len:=by simpa using h0
  obtain⟨cs0,hc0,_⟩:=hf 0 h0';obtain⟨b,off,spot⟩:=a;obtain⟨_,hl0,hcell⟩:=World.cells?_some hc0;have hc1:=hcell 0 (by omega);rw[List.getElem?_eq_getElem (by omega)]at hc1;have hspot:spot=none:=by simpa[Addr.add]using World.cell?_spot hc1
  subst hspot;refine⟨b,off,rfl,λi x hx=>?_⟩;rw[List.getElem?_map]at hx;obtain⟨k,hk,rfl⟩:=Option.map_eq_some_iff.1 hx;have hil:i<len:=by have:=(List.getElem?_eq_some_iff.1 hk).1;simpa using this
  have:k=i:=by
   rw[List.getElem?_range hil]at hk;exact(Option.some.inj hk).symm
  subst this;obtain⟨cs',hc',ho⟩:=hf k hil;rw[Go.WideShapes.add_plain]at hc';exact⟨cs',Pv h1 hc',ho⟩
def kh:Op enc W Lf.tI64 2:=Th (by kernel_rfl)
def BV:Op enc W Lf.tStr 9:=Tg (by kernel_rfl)
def CB:Op enc W (Lf.tSl Lf.tI64) 35:=lP (by kernel_rfl) (by kernel_rfl) (Nat.le_refl _) kh
def TD:Op enc W (Lf.tSl (Lf.tSl Lf.tI64)) 36:=lP (by kernel_rfl) (by kernel_rfl) (Nat.le_refl _) CB
def JZ:Op enc W Lf.tPoint 143:=pR (by kernel_rfl) (by kernel_rfl) (by kernel_rfl) (by kernel_rfl) kh kh
def Ud:Op enc W Lf.tPlaced 145:=pR (by kernel_rfl) (by kernel_rfl) (by kernel_rfl) (by kernel_rfl) JZ kh
def Uc:Op enc W Lf.tPlaced 148:=pR (by kernel_rfl) (by kernel_rfl) (by kernel_rfl) (by kernel_rfl) JZ kh
def Ub:Op enc W Lf.tGlue 175:=pR (by kernel_rfl) (by kernel_rfl) (by kernel_rfl) (by kernel_rfl) BV kh
def Ua:Op enc W Lf.tTile 177:=pR (by kernel_rfl) (by kernel_rfl) (by kernel_rfl) (by kernel_rfl) BV CB
def TF:Op enc W (Lf.tSl Lf.tGlue) 25:=lP (by kernel_rfl) (by kernel_rfl) (by decide) Ub
def TE:Op enc W (Lf.tSl Lf.tTile) 26:=lP (by kernel_rfl) (by kernel_rfl) (by decide) Ua
def Kq:Op enc W (Lf.tSl Lf.tPlaced) 29:=lP (by kernel_rfl) (by kernel_rfl) (by decide) Ud
def Kp:Op enc W (Lf.tSl Lf.tPlaced) 34:=lP (by kernel_rfl) (by kernel_rfl) (by decide) Uc
def Pm:Op enc W Lf.tU8 5:=T_ (by kernel_rfl)
def IN:Op enc W (Lf.tSl Lf.tU8) 75:=lP (by kernel_rfl) (by kernel_rfl) (Nat.le_refl _) Pm
def Pk:Op enc W Lf.tLog 98:=pR (by kernel_rfl) (by kernel_rfl) (by kernel_rfl) (by kernel_rfl) IN IN
def TC:Op enc W (Lf.tSl Lf.tLog) 22:=lP (by kernel_rfl) (by kernel_rfl) (by decide) Pk
def QB(hG:Lf.Glob (start W)){v' d' ps' v d ps}(hv':Value.okWide Tryz.prog W .any 0 24 v')(h':DataW.Trod enc Tryz.prog W 0 (λ_=>true) true 24 v' d' ps')(hv:Value.okWide Tryz.prog W .any 0 40 v)(h:DataW.Trod enc Tryz.prog W 0 (λ_=>true) true 40 v d ps):Calls Tryz.prog 3 #[v',v] W λe W'=>e=.returned (.bool true)/\Below W.heap.size W W':=by
 have hu:jt 40 [(9,0),(33,1),(31,5),(38,6)]=true:=by kernel_rfl
 have hu30:jt 33 [(28,0),(31,2),(2,3)]=true:=by kernel_rfl
 have hu25:jt 28 [(25,0),(26,1)]=true:=by kernel_rfl
 have hu28:jt 31 [(29,0)]=true:=by kernel_rfl
 have hu35:jt 38 [(2,0),(34,1),(34,2),(35,3),(36,4)]=true:=by kernel_rfl
 have c9:Tryz.prog.cellsOf 9=1:=by kernel_rfl
 have c2:Tryz.prog.cellsOf 2=1:=by kernel_rfl
 have c22:Tryz.prog.cellsOf 25=1:=by kernel_rfl
 have c23:Tryz.prog.cellsOf 26=1:=by kernel_rfl
 have c26:Tryz.prog.cellsOf 29=1:=by kernel_rfl
 have c31:Tryz.prog.cellsOf 34=1:=by kernel_rfl
 have c32:Tryz.prog.cellsOf 35=1:=by kernel_rfl
 have c33:Tryz.prog.cellsOf 36=1:=by kernel_rfl
 have c30:Tryz.prog.cellsOf 33=4:=by kernel_rfl
 have c28:Tryz.prog.cellsOf 31=1:=by kernel_rfl
 have c35:Tryz.prog.cellsOf 38=5:=by kernel_rfl
 have c25:Tryz.prog.cellsOf 28=2:=by kernel_rfl
 have c37:Tryz.prog.cellsOf 40=11:=by kernel_rfl
 have huS:jt 24 [(22,0),(2,1)]=true:=by kernel_rfl
 have cS:Tryz.prog.cellsOf 24=2:=by kernel_rfl
 have cL:Tryz.prog.cellsOf 22=1:=by kernel_rfl
 have hagS:∃cs,v'=.agg cs/\cs.size=2:=by
  have h1:=huS;unfold jt at h1;split at h1
  ·rename_i fs hfs;obtain⟨cs,e,hs⟩:=okWide_struct hfs hv';exact⟨cs,e,hs.trans cS⟩
  ·cases h1
 obtain⟨⟨ds⟩,rfl,hszS⟩:=hagS;have hag:∃cs,v=.agg cs/\cs.size=11:=by
  have h1:=hu;unfold jt at h1;split at h1
  ·rename_i fs hfs;obtain⟨cs,e,hs⟩:=okWide_struct hfs hv;exact⟨cs,e,hs.trans c37⟩
  ·cases h1
 obtain⟨⟨cs⟩,rfl,bN⟩:=hag
 match cs,bN,ds,hszS with
 |[v0,v1,v2,v3,v4,v5,v6,v7,v8,v9,v10],_,[u0,u1],_=>
  obtain⟨fuelS,hfS⟩:=h';have hfS':DataW.trod enc Tryz.prog W 0 (λ_=>true) true fuelS 24 [u0,u1]=some (d',ps'):=hfS;obtain⟨_,gS⟩:=lE huS hfS';obtain⟨_,_,gS0⟩:=gS 0 22 0 rfl;obtain⟨_,_,gS1⟩:=gS 1 2 1 rfl;rw[cL]at gS0;rw[c2]at gS1;obtain⟨m0,xS,kS,eS,fS⟩:=TC _ _ _ gS0;obtain⟨m1,eA,nA⟩:=kh _ _ _ gS1;obtain rfl:u0=_:=(List.cons.inj eS).1;obtain rfl:u1=_:=(List.cons.inj eA).1;obtain⟨fuel,hf⟩:=h;have hf':DataW.trod enc Tryz.prog W 0 (λ_=>true) true fuel 40 [v0,v1,v2,v3,v4,v5,v6,v7,v8,v9,v10]=some (d,ps):=hf;obtain⟨_,g⟩:=lE hu hf';obtain⟨_,_,g0⟩:=g 0 9 0 rfl;obtain⟨_,_,g1⟩:=g 1 33 1 rfl;obtain⟨_,_,g2⟩:=g 2 31 5 rfl;obtain⟨_,_,g3⟩:=g 3 38 6 rfl;rw[c9]at g0;rw[c30]at g1;rw[c28]at g2;rw[c35]at g3;obtain⟨_,s⟩:=lE hu30 g1;obtain⟨_,_,s0⟩:=s 0 28 0 rfl;obtain⟨_,_,s1⟩:=s 1 31 2 rfl;obtain⟨_,_,s2⟩:=s 2 2 3 rfl;rw[c25]at s0;rw[c28]at s1;rw[c2]at s2;obtain⟨_,t⟩:=lE hu25 s0;obtain⟨_,_,t0⟩:=t 0 25 0 rfl;obtain⟨_,_,t1⟩:=t 1 26 1 rfl;rw[c22]at t0;rw[c23]at t1;obtain⟨_,a⟩:=lE hu28 s1;obtain⟨_,_,a0⟩:=a 0 29 0 rfl;obtain⟨_,b⟩:=lE hu28 g2;obtain⟨_,_,b0⟩:=b 0 29 0 rfl;rw[c26]at a0 b0;obtain⟨_,q⟩:=lE hu35 g3;obtain⟨_,_,q0⟩:=q 0 2 0 rfl;obtain⟨_,_,q1⟩:=q 1 34 1 rfl;obtain⟨_,_,q2⟩:=q 2 34 2 rfl;obtain⟨_,_,q3⟩:=q 3 35 3 rfl;obtain⟨_,_,q4⟩:=q 4 36 4 rfl;rw[c2]at q0;rw[c31]at q1 q2;rw[c32]at q3;rw[c33]at q4;obtain⟨l0,e0,n0⟩:=BV _ _ _ g0;obtain⟨l1,x1,k1,e1,f1⟩:=TF _ _ _ t0;obtain⟨l2,x2,k2,e2,f2⟩:=TE _ _ _ t1;obtain⟨l3,x3,k3,e3,f3⟩:=Kq _ _ _ a0;obtain⟨l4,e4,n4⟩:=kh _ _ _ s2;obtain⟨l5,x5,k5,e5,f5⟩:=Kq _ _ _ b0;obtain⟨l6,e6,n6⟩:=kh _ _ _ q0;obtain⟨l7,x7,k7,e7,f7⟩:=Kp _ _ _ q1;obtain⟨l8,x8,k8,e8,f8⟩:=Kp _ _ _ q2;obtain⟨l9,x9,k9,e9,f9⟩:=CB _ _ _ q3;obtain⟨l10,x10,k10,e10,f10⟩:=TD _ _ _ q4;obtain rfl:v0=_:=(List.cons.inj e0).1;obtain rfl:v1=_:=(List.cons.inj e1).1;obtain rfl:v2=_:=(List.cons.inj e2).1;obtain rfl:v3=_:=(List.cons.inj e3).1;obtain rfl:v4=_:=(List.cons.inj e4).1;obtain rfl:v5=_:=(List.cons.inj e5).1;obtain rfl:v6=_:=(List.cons.inj e6).1;obtain rfl:v7=_:=(List.cons.inj e7).1;obtain rfl:v8=_:=(List.cons.inj e8).1;obtain rfl:v9=_:=(List.cons.inj e9).1;obtain rfl:v10=_:=(List.cons.inj e10).1;have inner:∀{γ:Type} {t:Lf.Ty γ} {a c} {l:List γ},Lf.Sl t (start W) a c l->∀x∈l,∃cs,t.own (start W) cs x:=λhS x hx=>by
   obtain⟨i,hi⟩:=List.getElem?_of_mem hx;obtain⟨b,off,_,he⟩:=hS.elems (by have:=(List.getElem?_eq_some_iff.1 hi).1;omega);obtain⟨cs,_,ho⟩:=he i x hi;exact⟨cs,ho⟩
  have hEB:Lf.EB (l0,((l1,l2),l3,l4),l5,l6,l7,l8,l9,l10):=by
   refine⟨n0,f1.most,λx hx=>?_,f2.most,λx hx=>?_,f3.most,f5.most,f7.most,f8.most,f9.most,f10.most,λx hx=>?_⟩
   ·obtain⟨_,_,_,_,⟨_,h1⟩,_⟩:=inner f1 x hx;exact h1
   ·obtain⟨_,_,_,_,⟨_,h1⟩,_,_,_,h2⟩:=inner f2 x hx;exact⟨h1,h2.most⟩
   ·obtain⟨_,_,_,_,h2⟩:=inner f10 x hx;exact h2.most
  have i64:∀{cs:List Value} {n:Int},Lf.tI64.own (start W) cs n->Lf.I64 n:=λh=>h.2;have opt:∀{x:(Int×Int)×Int} {cs:List Value},Lf.tPlaced.own (start W) cs x->∀n∈Lf.optN x,Lf.I64 n:=λh n hn=>by
   obtain⟨_,_,_,⟨_,_,_,h1,h2⟩,h3⟩:=h;simp only[Lf.optN,List.mem_cons,List.not_mem_nil,or_false]at hn;rcases hn with rfl | rfl | rfl
   ·exact i64 h1
   ·exact i64 h2
   ·exact i64 h3
  have hSB:Lf.SB (m0,m1):=⟨fS.most,λy hy=>by obtain⟨_,_,_,_,⟨_,_,_,h1⟩,_,_,_,h2⟩:=inner fS y hy;exact⟨h1.most,h2.most⟩⟩;obtain⟨z1,ez1,hz⟩:=Lf.put_law hSB hEB n4
   (λx hx=>by obtain⟨cs,h⟩:=inner f7 x hx;exact opt h) (λx hx=>by obtain⟨cs,h⟩:=inner f8 x hx;exact opt h) (λx hx=>by obtain⟨cs,h⟩:=inner f9 x hx;exact i64 h)
   (λx hx=>by obtain⟨cs,_,_,_,h2⟩:=inner f10 x hx;exact λn hn=>by obtain⟨cs,h⟩:=inner h2 n hn;exact i64 h)
  have hf:=Lf.putEntry_law (κ:=start W) (p0:=(m0,m1)) (p1:=(l0,((l1,l2),l3,l4),l5,l6,l7,l8,l9,l10)) fS nA n0 f1 f2 f3 n4 f5 n6 f7 f8 f9 f10 hG (λ_=>(by decide:(5:Nat)<5000)) ez1 hz;have hw:W=Lf.W (@Lf.Cx.mk Lf.fb0 W.os W.tape W.output 0 rfl) (start W) W.drawn:=by
   cases W
   unfold Lf.W start;simp
  have hc:=hf (@Lf.Cx.mk Lf.fb0 W.os W.tape W.output 0 rfl) W.drawn;rw[←hw]at hc;refine hc.mono ?_;rintro e W' ⟨v,κ',d',rfl,rfl,st,rfl⟩;exact⟨rfl,⟨rfl,rfl,rfl,st.1,λb hb=>(st.2.1 b hb (by simp)).1⟩⟩
end
end Go.Proofs.YtiofpfmmgkmhmaaGreatDoor
namespace Go.Proofs.YtiofpfmmgkmhmaaGreatDoor
open Go Go.ChangeShapes Go.WideShapes Go.ChangeAt Go.RowKit Go.ChangeMaps
def own:ownKnob Tryz.prog.godebug=none:=by kernel_rfl
def laidOut:laidOutB Tryz.prog=true:=by kernel_rfl
abbrev lst:List (String×DataW Unit):=Rows.fnExactPutEntryRow.laid
def BP:Tryz.prog.globalNamed "internal/strconv.uint64pow10" = some 1:=by kernel_rfl
def pub_of_var{W:World}{cs:Array Value}{n g}(hg:Tryz.prog.globalNamed n=some g)(h:W.var? Tryz.prog n=some cs):
  ∃T k,W.heap[g]?=some (.cells cs T k):=by
 unfold World.var? at h;rw[hg]at h;simp only[Option.bind_some]at h;split at h
 ·rename_i c T k hH;injection h with h
  exact⟨T,k,by rw[hH,h]⟩
 ·cases h
def pub_start{W:World}{cs:Array Value}{n g}(hg:Tryz.prog.globalNamed n=some g)(h:W.var? Tryz.prog n=some cs):Lf.PubAt (start W) g 0 cs.toList:=by
 obtain⟨T,k,hH⟩:=pub_of_var hg h;refine⟨(Array.getElem?_eq_some_iff.1 hH).1,?_,λj v hj=>?_⟩
 ·show 0+cs.toList.length<=bN W.heap g;unfold bN;rw[hH];simp
 ·unfold Lf.K.cell start;simp only[hH,Nat.zero_add];simpa using hj
def glob_of{W}(h:laidMet Tryz.prog lst W):Lf.Glob (start W):=by
 have h2:=laidMet.filter (λx=>x.1 == "internal/strconv.uint64pow10") h;have e:(lst.filter λx=>x.1 == "internal/strconv.uint64pow10")=[("internal/strconv.uint64pow10",Lib.tabData .u64 Lf.pow10s)]:=by kernel_rfl
 rw[e]at h2;have w5:Lib.TabIs Tryz.prog W "internal/strconv.uint64pow10" .u64 Lf.pow10s:=Lib.tabIs_of_head (t:=322) (e:=303) (n:=20) BP (by kernel_rfl) Tryz.underlying322 Tryz.underlying303 (by kernel_rfl) (by kernel_rfl) h2
 have p5:=pub_start BP w5;obtain⟨T5,k5,hH5⟩:=pub_of_var BP w5;refine⟨p5,⟨by decide,T5,k5,?_⟩⟩;unfold Lf.K.shp start;simp only[hH5];rfl
set_option maxRecDepth 100000 in
def lifted(os:Os)(started:os.Started)(H:Type)(enc:TypeId×Value->H):
  ReturnsInHanded {} Tryz.checked os 3 .any (λw args=>(Rows.fnExactPutEntrySpec.pre enc Tryz.prog Tryz.f3 [] false w args/\laidMetH Tryz.prog lst w)/\sizedMet enc Tryz.prog Tryz.f3 (OpenSpec.ofChange Rows.fnExactPutEntrySpec) false w args)
   (Rows.fnExactPutEntrySpec.post enc Tryz.prog Tryz.f3 false true false false):=by
 refine returnsInHanded_of_change_and (C:=Tryz.checked) (X:=λw _=>laidMetH Tryz.prog lst w) (λ_ _ _ hh h=>h.of_heap hh) own started (by kernel_rfl) Tryz.func3
  (ChangeSpec.witness_shaped (enc:=enc) (C:=Tryz.checked) (os:=os) (X:=λw _=>laidMetH Tryz.prog lst w) false (World.doorLaid Tryz.prog 400 os) #[.agg #[.slice none 0 0,.int .i64 0],.agg #[.string ⟨#[]⟩,.slice none 0 0,.slice none 0 0,.slice none 0 0,.int .i64 0,.slice none 0 0,.int .i64 0,.slice none 0 0,.slice none 0 0,.slice none 0 0,.slice none 0 0]] 8 rfl (World.shaped_of_RefB (by kernel_rfl) (by kernel_rfl)) (by kernel_rfl) (by kernel_rfl) (by kernel_rfl)
   (laidMetH_of_parts3 (fuel:=8) (laidMet_of_run' 8 (by kernel_rfl) (by kernel_rfl)) (by kernel_rfl) (by kernel_rfl))) ?_
 intro W base args ds gs before hval0 hW _ _ hL _;have hL':laidMet Tryz.prog lst W:=by rw[MakeChecks.laidMetH_plain _ _ _ (by kernel_rfl)]at hL;exact hL
 have hval:∀(j:Nat) t v,Tryz.f3.params[j]?=some t->args[j]?=some v->Value.okWide Tryz.prog W .any base t v:=hval0;have hW':=hW;obtain⟨p,q,hA0,hV,rfl,hfz,hnd⟩:=hW;have hA:DataW.TrodAll enc Tryz.prog W 0 (λ_=>true) true Tryz.f3.params.toList args.toList ds p:=hA0;rw[Tryz.params3]at hA hval;obtain⟨v1,v0,d1,d0,p1,p0,rfl,rfl,rfl,h1,h0⟩:=trodAll_two hA;obtain⟨rfl,rfl⟩:=trodVars_none hV;have hv1:=hval 0 24 v1 rfl rfl;have hv:=hval 1 40 v0 rfl rfl;have hlt1:∀x∈p1,x.block<W.heap.size:=λx hx=>hW'.lt x (by simp[hx]);have hlt:∀x∈p0,x.block<W.heap.size:=λx hx=>hW'.lt x (by simp[hx]);refine(QB (glob_of hL') hv1 h1 hv h0).mono λe W' ⟨he,hb⟩=>?_;subst he;have again1:DataW.Trod enc Tryz.prog W' 0 (λb=>decide (b<W.heap.size)) true 24 v1 d1 p1:=Below.trod laidOut (by kernel_rfl) (of_decide_eq_true (by kernel_rfl)) h1 hb hlt1;have again:DataW.Trod enc Tryz.prog W' 0 (λb=>decide (b<W.heap.size)) true 40 v0 d0 p0:=Below.trod laidOut (by kernel_rfl) (of_decide_eq_true (by kernel_rfl)) h0 hb hlt;refine⟨_,rfl,_,_,_,[],p1++p0,[],hW',?_,?_,rfl,hb.frame _,λh=>by cases h⟩
 ·exact trodAll_mk1<|shut_bool (by kernel_rfl) true
 ·exact trodAll_mk2 again1 again
def ff:Tryz.prog.funcNamed Rows.fnExactPutEntryRow.func=some 3:=by kernel_rfl
def jm:mapsRowed Tryz.prog=true:=by kernel_rfl
def ji:(Rows.fnExactPutEntryRow.inPlace == Tryz.prog.inPlace 3)=true:=by kernel_rfl
def ju:(Rows.fnExactPutEntryRow.unfollowed == Tryz.prog.unfollowed 3)=true:=by kernel_rfl
def jr:(Rows.fnExactPutEntryRow.recurses == Tryz.prog.recurses 3)=true:=by kernel_rfl
def jn:(Rows.fnExactPutEntryRow.named == Tryz.prog.varsNamed 3)=true:=by kernel_rfl
def jk:(Rows.fnExactPutEntryRow.plainKeys == Tryz.prog.plainKeys)=true:=by kernel_rfl
def jh:Tryz.prog.stopsHeard=true:=by kernel_rfl
def je:Tryz.prog.mayEnter=true:=by kernel_rfl
def and_t{a b}(ha:a=true)(hb:b=true):(a&&b)=true:=by rw[ha,hb];rfl
def jf:joinedFacts Tryz.prog 3 Tryz.f3 Rows.fnExactPutEntrySpec Rows.fnExactPutEntryRow=true:=by
 unfold joinedFacts
 repeat' (with_reducible apply and_t)
 all_goals first | with_reducible exact laidOut | with_reducible exact jm | with_reducible exact ji | with_reducible exact ju | with_reducible exact jr | with_reducible exact jn | with_reducible exact jk | with_reducible exact jh | with_reducible exact je | kernel_rfl
def li(os:Os)(started:os.Started)(H:Type)(enc:TypeId×Value->H):ReturnsInHanded Rows.fnExactPutEntryRow.assume Tryz.pinned.checked os 3 .any (Rows.fnExactPutEntryRow.pre enc Tryz.pinned.checked.prog Tryz.f3 (OpenSpec.ofChange Rows.fnExactPutEntrySpec)) (Rows.fnExactPutEntrySpec.post enc Tryz.pinned.checked.prog Tryz.f3 Rows.fnExactPutEntryRow.apart Rows.fnExactPutEntryRow.fresh Rows.fnExactPutEntryRow.handsOn Rows.fnExactPutEntryRow.again):=lifted os started H enc
theorem fnExactPutEntry_said:Rows.FnExactPutEntrySaid:=OpenClaim.holds_of_wide 3 Tryz.f3 rfl rfl rfl rfl rfl rfl rfl ⟨rfl,rfl,rfl,rfl,rfl⟩ rfl rfl rfl rfl rfl ff Tryz.func3 jf
  (of_decide_eq_true (by kernel_rfl)) (by unfold Func.isWrapper;rw[if_neg<|of_decide_eq_false (by kernel_rfl)];exact⟨rfl,rfl⟩)
  (λos started H enc _=>li os started H enc)
theorem fnExactPutEntry_card:Rows.FnExactPutEntryCardSaid:=Claim7.holds_tied_plain_at .later [] [.data,.data,.data] true (true, "05fe2cc5df4eadf7289b419a7f2e872e8a52ef2127a24038d3f1b731d03c2999") false
  fnExactPutEntry_said (λ_ h=>by cases h) (by kernel_rfl) (λ_ h=>by cases h) fnExactPutEntry_row_tie rfl ⟨rfl,rfl⟩ (by kernel_rfl) rfl
  (λf fn hf hfn=>by
   obtain rfl:f=3:=Option.some.inj (ff.symm.trans hf) |>.symm;obtain rfl:fn=Tryz.f3:=(Option.some.inj (Tryz.func3.symm.trans hfn)).symm;exact⟨by kernel_rfl,λj t ht=>by
    rw[Tryz.params3]at ht;have hm:t∈[24,40]:=by simpa using Array.mem_of_getElem? ht
    have hall:([24,40].all λu=>!Tryz.prog.wantsStandIn u)=true:=by kernel_rfl
    exact(show Tryz.prog.wantsStandIn t=false by simpa using List.all_eq_true.1 hall t hm)⟩)
  (by kernel_rfl)
end Go.Proofs.YtiofpfmmgkmhmaaGreatDoor
#print axioms Go.Proofs.YtiofpfmmgkmhmaaGreatDoor.fnExactPutEntry_card
