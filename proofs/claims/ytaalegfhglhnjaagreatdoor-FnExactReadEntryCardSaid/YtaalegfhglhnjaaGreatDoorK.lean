import Derived.Test.YtaalegfhglhnjaaGreatDoorJ
set_option linter.all false
set_option maxRecDepth 100000
set_option maxHeartbeats 1000000
namespace Go.Lf
open Go Go.Proofs Go.Sort
section
variable{p:Prop}{α:Sort _}(x:α){β:Sort _}(y:β){γ:Sort _}(z:γ){δ:Sort _}(u:δ){ε:Sort _}(v:ε){ζ:Sort _}(w:ζ){η:Sort _}(t:η){θ:Sort _}(s:θ){ι:Sort _}(q:ι){ν:Sort _}(n:ν){ξ:Sort _}(m:ξ){ο:Sort _}(k:ο){ρ:Sort _}(g:ρ){φ:Sort _}(c:φ)
def L8(h:p:=by rw[ϙ so,zt om (by simp at l2;omega)];exact v8):=h
def P8(h:let x:=x;p:=by intro x;refine .inr ⟨_,x,rfl,rfl,⟨⟨i,f⟩,by omega,by omega,λ_=>B om,E9,π,π,π,π,v⟩,rfl⟩):=h
def R7(h:p:=by rw[rd,Ϙ (by unfold jj;rw[mb om];omega),mb om];exact v8):=h
def Γ(h:p:=by simp only[ri,rh,rf,gy];generalize ((c.length:Int)=0:Ϛ)=b1;generalize ((s2.length:Int)=0:Ϛ)=b2;generalize ((a.length:Int)=0:Ϛ)=b3;generalize ((fl.length:Int)=0:Ϛ)=b4;cases b1<;>cases b2<;>cases b3<;>cases b4<;>exact⟨_,rfl,rfl⟩):=h
def x5(h:p:=by rw[ϛ];omega):=h
def x9(h:p:=by rw[Ϝ];omega):=h
def y1(h:p:=by exact gV rfl rfl om):=h
def D1(h:let x:=x;p:=by intro x;exact .inl ⟨x,_,_,rfl,rfl,by omega⟩):=h
def J7(h:p:=by unfold bB;rw[Ϙ ⟨by omega,by omega,by omega⟩];simp):=h
def D8(h:p:=by exact λh=>by cases h):=h
def F3(h:p:=by unfold dO;rw[Ϙ so]):=h
def K8(h:p:=by rw[Ϙ ⟨by omega,by omega,by omega⟩];simp):=h
def N4(h:p:=by exact⟨a,b,by simp at c ⊢;omega⟩):=h
def E9(h:p:=by exact λh=>by omega):=h
def Q9(h:p:=by rw[fv]at ha hall;exact⟨_,rfl,.inl ⟨by rw[ha],hall⟩⟩):=h
def H7(h:p:=by simp[cL];omega):=h
def V3(h:p:=by exact⟨_,rfl,rfl,⟨by omega,by omega⟩,by omega⟩):=h
def K9(h:p:=by exact jC (gG hA) hp seq.length):=h
def P0(h:p:=by exact⟨by show b.length<=100000;omega,by simp[v]⟩):=h
end
section
variable {set:TSet} {T ts:List aP}
def mr(a b:Pt):((a.1=b.1:Ϛ)&&(a.2=b.2:Ϛ))=(a=b:Ϛ):=by
 rw[ao];simp[Prod.ext_iff]
def lC{f:Nat->Bool}{n}:(List.range n).any f=true↔∃j,j<n/\f j=true:=by
 rw[be];exact⟨λ⟨j,h,hf⟩=>⟨j,fg.1 h,hf⟩,λ⟨j,h,hf⟩=>⟨j,fg.2 h,hf⟩⟩
def fK{seq:List aP}{i}(h:i<seq.length):seq[i]?=some (oI seq i):=by
 unfold oI;rw[cn h];rfl
section
variable {t:Int} {seq:List aP} (hA:dF set ts) (hp:Played set t ts seq)
include hA hp
theorem Ik{i o}(hi:seq[i]?=some o):TI ts seq (i+1)=TI ts seq i++[(o.1,o.2)]:=by
 obtain⟨k,c,d,f,h,l,j,b⟩:=kh hp hi;have a:=jC (gG hA) hp i;rw[h];exact(a.put d c (by rw[←a.perm.length_eq];exact f)).2
theorem Ce{i x}(hx:x∈TI ts seq i):∀r,i+r<=seq.length->x∈TI ts seq (i+r)
 | 0,_=>hx
 | r+1,h=>by
  have hi:seq[i+r]?=some (seq[i+r]'om):=cn om;rw[←ϻ,Ik hA hp hi];exact eu _ (Ce hx r om)
theorem Hn{i o}(hi:seq[i]?=some o):∀x∈TI ts seq i,x.1≠o.1:=by
 obtain⟨j,f,h,l,m,k,d,a⟩:=kh hp hi;have b:=jC (gG hA) hp i;exact λx c=>b.free.1 a x<|b.perm.mem_iff.1 c
theorem TU{i j:Nat}{o o':aP}(hi:seq[i]?=some o)(hj:seq[j]?=some o')(h:i<j):o.1≠o'.1:=by
 have b:(o.1,o.2)∈TI ts seq (i+1):=by rw[Ik hA hp hi];simp
 have a:=Ce hA hp b (j - (i+1)) (C2 hj);rw[show i+1+(j - (i+1))=j by omega]at a;exact Hn hA hp hj _ a
theorem Ja{i j}(h:i<j)(hj:j<seq.length):(oI seq i).1≠(oI seq j).1:=TU hA hp (fK om) (fK hj) h
theorem vr{i j}(hi:i<seq.length)(hj:j<seq.length)(h:(oI seq i).1=(oI seq j).1):i=j:=by
 rcases gm i j with h1 | h1 | h1
 ·exact x4 h<|Ja hA hp h1 hj
 ·exact h1
 ·exact x4 h.symm<|Ja hA hp h1 hi
end
def bO(set:TSet)(T0 seq:List aP)(i:Nat)(d:Int):Bool:=(List.range seq.length).any λk=>(i<k:Ϛ)&&((oI seq k).1=zC (oI seq i).1 d:Ϛ)&&bI set T0 seq k (eK d)
def mO(set:TSet)(T0 seq:List aP)(i:Nat):Int:=fU (bO set T0 seq i)
def vn{n i}(f:Nat->Int)(h:i<n):idx ((List.range n).map f) (i:Int)=some (f i):=zr (by rw[cw,df h];rfl)
section
variable {t:Int} {seq:List aP} (hA:dF set ts) (hlen:seq.length<=500) (hp:Played set t ts seq)
include hA hlen hp
theorem TE{q d mm}(hd:cE d):∀(r k:Nat)(m:Int),k+r=seq.length->0<=m->m<=100->
  iter (zW seq ((List.range seq.length).map (mI set ts seq)) (mm,d) q) (m,(k:Int))=some (m+bt ((List.range seq.length).any λj=>(k<=j:Ϛ)&&((oI seq j).1=q:Ϛ)&&bI set ts seq j (eK d)) (sh d)):=by
 intro r;have I:=Df hd
 induction r with
 | zero=>
  intro k m D B w;refine zq ?_;unfold zW;rw[ϙ so];have:((List.range seq.length).any λj=>(k<=j:Ϛ)&&((oI seq j).1=q:Ϛ)&&bI set ts seq j (eK d))=false:=by
   refine Bool.eq_false_iff.2 λh=>?_;obtain⟨j,c,a⟩:=lC.1 h;simp only[an,ϛ]at a;omega
  rw[this];simp[bt]
 | succ r ih=>
  intro k m D B w;have hlt:k<seq.length:=by omega
  have F:aB ((k:Int)+1)=((k+1:Nat):Int):=ψ
  by_cases f:(oI seq k).1=q
  ·have A:((List.range seq.length).any λj=>(k+1<=j:Ϛ)&&((oI seq j).1=q:Ϛ)&&bI set ts seq j (eK d))=false:=by
    refine Bool.eq_false_iff.2 λh=>?_;obtain⟨j,c,a⟩:=lC.1 h;simp only[an,ϛ]at a;have:=vr hA hp hlt c (by rw[f,a.1.2]);omega
   have u:((List.range seq.length).any λj=>(k<=j:Ϛ)&&((oI seq j).1=q:Ϛ)&&bI set ts seq j (eK d))=bI set ts seq k (eK d):=by
    rw[ao,lC];constructor
    ·rintro⟨j,c,a⟩;simp only[an,ϛ]at a;have:=vr hA hp hlt c (by rw[f,a.1.2]);subst this;exact a.2
    ·intro h;exact⟨k,hlt,by simp[f,h]⟩
   obtain⟨v,z,C⟩:=Hg (bI set ts seq k)<|vd hd;have G:=oD (bI set ts seq k<|eK d) hd;have b:zW seq ((List.range seq.length).map<|mI set ts seq) (mm,d) q (m,(k:Int))=some (.inl (m+bt (bI set ts seq k<|eK d) (sh d),((k+1:Nat):Int))):=by
    unfold zW pT pU;rw[Ϙ so];simp only[zr<|fK hlt,gy];rw[mr,Ϙ (by simpa using f),vn _ hlt];simp only[gy];rw[(Cy hd).1];simp only[gy];unfold mI;rw[z];simp only[gy];rw[C,F];cases x:bI set ts seq k (eK d)with
    | true=>
     rw[Ϙ rfl,vM hd];simp only[gy];rw[zt om om];rfl
    | false=>
     rw[ϙ si];simp[bt]
   rw[zp b];unfold bt at G;by_cases x:bI set ts seq k (eK d)=true
   ·
    have i:∀(r k:Nat)(m:Int),k+r=seq.length->(∀j,k<=j->j<seq.length->(oI seq j).1≠q)->iter (zW seq ((List.range seq.length).map<|mI set ts seq) (mm,d) q) (m,(k:Int))=some m:=by
     intro r
     induction r with
     | zero=>
      intro k m D _;refine zq ?_;unfold zW;rw[ϙ so]
     | succ r ih2=>
      intro k m D l;have hlt:k<seq.length:=by omega
      have E:zW seq ((List.range seq.length).map<|mI set ts seq) (mm,d) q (m,(k:Int))=some (.inl (m,((k+1:Nat):Int))):=by
       unfold zW pT pU;rw[Ϙ so];simp only[zr<|fK hlt,gy];rw[mr,ϙ (by simpa using l k (gd _) hlt),ϙ si];rw[show aB ((k:Int)+1)=((k+1:Nat):Int) by rw[zt om om];omega]
      rw[zp E];exact ih2 _ _ om λj w y=>l j om y
    rw[i r (k+1) _ om λj w y H=>by have:=vr hA hp hlt y (by rw[f,H]);omega,u]
   ·have n:bI set ts seq k (eK d)=false:=϶ x
    rw[n];show iter _ (m+0,_)=_;rw[Ϯ,ih (k+1) m om B w,A,u,n]
  ·have b:zW seq ((List.range seq.length).map<|mI set ts seq) (mm,d) q (m,(k:Int))=some (.inl (m,((k+1:Nat):Int))):=by
    unfold zW pT pU;rw[Ϙ so];simp only[zr<|fK hlt,gy];rw[mr,ϙ (by simpa using f),ϙ si,F]
   rw[zp b,ih (k+1) m om B w];congr 2;congr 1;rw[ao,lC,lC];constructor
   ·rintro⟨j,c,a⟩;simp only[an,ϛ]at a;exact⟨j,c,by simp only[an,ϛ];exact⟨⟨by omega,a.1.2⟩,a.2⟩⟩
   ·rintro⟨j,c,a⟩;simp only[an,ϛ]at a;refine⟨j,c,?_⟩;simp only[an,ϛ];refine⟨⟨?_,a.1.2⟩,a.2⟩;rcases gj k j with h | h
    ·exact h
    ·have:j=k:=by omega
     subst this;exact x4 a.1.2 f
theorem TG{i}(hi:i<seq.length)acc:iter (sn seq ((List.range seq.length).map (mI set ts seq)) (acc,(i:Int))) (0,0)=some (mO set ts seq i):=by
 obtain⟨_,_,_,_,_,_,c,_⟩:=kh hp<|fK hi;have step:∀(d b m:Int),cE d->b=d+1->0<=m->m<=100->sn seq ((List.range seq.length).map<|mI set ts seq) (acc,(i:Int)) (m,d)=some (.inl (m+bt (bO set ts seq i d) (sh d),b)):=by
  intro d b m hd a k h;obtain⟨d4,_,j⟩:=jp hd;unfold sn KA;rw[Ϙ (by simpa using d4)];simp only[zr<|fK hi,gy];rw[(jD c hd).1];simp only[gy];have f:aB ((i:Int)+1)=((i+1:Nat):Int):=ψ
  rw[f,TE hA hlen hp hd (seq.length - (i+1)) (i+1) m om k h];simp only[gy];rw[j,a];rfl
 have b0:=oD (bO set ts seq i 0) (d:=0)<|.inl rfl;have b1:=oD (bO set ts seq i 1) (d:=1)<|.inr<|.inl rfl;have b2:=oD (bO set ts seq i 2) (d:=2)<|.inr<|.inr<|.inl rfl;rw[zp<|step 0 1 0 (.inl rfl) rfl om om,zp<|step 1 2 _ (.inr<|.inl rfl) rfl om om,zp<|step 2 3 _ (.inr<|.inr<|.inl rfl) rfl om om,zp<|step 3 4 _ (.inr<|.inr<|.inr rfl) rfl om om,Ij];refine zq ?_;unfold sn;rw[ϙ si];rfl
theorem PK:Ad seq ((List.range seq.length).map (mI set ts seq))=some ((List.range seq.length).map (mO set ts seq)):=by
 unfold Ad;have key:=zy (F:=wZ seq<|(List.range seq.length).map<|mI set ts seq) (λs=>∃i:Nat,i<=seq.length/\s=((List.range i).map<|mO set ts seq,(i:Int))) (λs=>(seq.length - s.2).toNat)
  (λz=>z=(List.range seq.length).map (mO set ts seq)) ?_ ([],0) ⟨0,by omega,rfl⟩
 ·obtain⟨z,a,rfl⟩:=key;rw[a];rfl
 ·rintro s ⟨i,hi,rfl⟩;by_cases hlt:i<seq.length
  ·left;unfold wZ KB;rw[Ϙ so,TG hA hlen hp hlt];simp only[gy];rw[zO so so];simp only[gy];refine⟨_,rfl,⟨i+1,by omega,?_⟩,?_⟩
   ·rw[zt om om,fp,eh];rfl
   ·simp only;exact D3
  ·right;have:i=seq.length:=by omega
   subst this;unfold wZ;rw[ϙ si];exact A3
theorem RK{p0 fin sl i}(hi:i<seq.length):xt (p0,seq,fin,(List.range seq.length).map (mI set ts seq),sl) (i:Int)=some (mO set ts seq i):=by
 obtain⟨_,_,_,_,_,_,z,_⟩:=kh hp<|fK hi;have step:∀(d u m:Int),cE d->u=d+1->vY (p0,seq,fin,(List.range seq.length).map<|mI set ts seq,sl) (i:Int) (m,d)=some (.inl (mF (bO set ts seq i d) m<|sh d,u)):=by
  intro d u m hd c;obtain⟨d4,_,v⟩:=jp hd;unfold vY wG wH;rw[Ϙ (by simpa using d4)];simp only[zr<|fK hi,gy];rw[(jD z hd).2];simp only[gy];unfold Ef;simp only;obtain⟨r,C,w⟩:=zxk seq om (λq0=>wI q0<|zC (oI seq i).1 d) (λx=>(x.1=zC (oI seq i).1 d:Ϛ)) (λb _=>by unfold wI;rw[mr]);rw[C];simp only[gy];rcases w with⟨rfl,l⟩ |⟨k,rfl,hk,hlow,b,hb,hq⟩
  ·have:bO set ts seq i d=false:=by
    refine Bool.eq_false_iff.2 λh=>?_;obtain⟨j,n,a⟩:=lC.1 h;simp only[an,ϛ]at a;have B:=l _<|fe<|fK n;simp only[Ϝ]at B;exact B a.1.2
   rw[ϙ si,ϙ si,this,v,c];rfl
  ·have y:oI seq k=b:=by unfold oI;rw[hb];rfl
   have f:(oI seq k).1=zC (oI seq i).1 d:=by rw[y];simpa using hq
   by_cases A:i<k
   ·have:bO set ts seq i d=bI set ts seq k (eK d):=by
     unfold bO;rw[ao,lC];constructor
     ·rintro⟨j,n,a⟩;simp only[an,ϛ]at a;have:=vr hA hp hk n (by rw[f,a.1.2]);subst this;exact a.2
     ·intro h;exact⟨k,hk,by simp[f,h,A]⟩
    rw[Ϙ so,vn _ hk];simp only[gy];rw[(Cy hd).2.1];simp only[gy];unfold mI;rw[Ib _<|vd hd];simp only[gy];rw[←this,v,c];cases hbb:bO set ts seq i d with
    | true=>rw[Ϙ rfl,vM hd];rfl
    | false=>rw[ϙ si];rfl
   ·have:bO set ts seq i d=false:=by
     refine Bool.eq_false_iff.2 λh=>?_;obtain⟨j,n,a⟩:=lC.1 h;simp only[an,ϛ]at a;have:=vr hA hp hk n (by rw[f,a.1.2]);omega
    rw[ϙ so,ϙ si,this,v,c];rfl
 unfold xt JU;rw[zp<|step 0 1 0 (.inl rfl) rfl,zp<|step 1 2 _ (.inr<|.inl rfl) rfl,zp<|step 2 3 _ (.inr<|.inr<|.inl rfl) rfl,zp<|step 3 4 _ (.inr<|.inr<|.inr rfl) rfl,IF];rw[zq (x:=fU<|bO set ts seq i) (by unfold vY;rw[ϙ si])];rfl
end
end
section
variable {set:TSet} {T ts:List aP}
def Ue{ts:List aP}(hs:lH ts)(hl:ts.length<=1048576)(p:Pt):∃(k:Nat)(b:Bool),pm ts p (λq0 f=>jV q0 f)=some ((k:Int),b)/\((b=true/\∃x,ts[k]?=some x/\x.1=p)\/(b=false/\∀x∈ts,x.1≠p)):=by
 have j:∀x:aP,jV x p=some (lJ x.1 p):=λx=>by unfold jV;rw[GN];rfl
 have key:=CZ hs hl (p:=p) (F:=zJ ts p λq0 f=>jV q0 f) ?_ ?_
 ·obtain⟨k,w,y,i,h⟩:=key;unfold pm Dx;simp only[w,gy];by_cases hlt:k<ts.length
  ·have c:ts[k]?=some ts[k]:=cn hlt;rw[Ϙ (by simp[hlt])];simp only[zr c,gy,j];by_cases d:ts[k].1=p
   ·exact⟨k,true,by simp[BG,d],.inl ⟨rfl,_,c,d⟩⟩
   ·exact⟨k,false,by simp[BG,d],.inr ⟨rfl,q_ hs i h λx a=>by rw[c]at a;injection a with a;subst a;exact d⟩⟩
  ·rw[ϙ so];exact⟨k,false,rfl,.inr ⟨rfl,q_ hs i h λx a=>by have:=zz a;omega⟩⟩
 ·intro lo hi x hlt u c;unfold zJ;have m:aB ((lo:Int)+(hi:Int))=((lo+hi:Nat):Int):=ψ
  have l:IntKind.wrap .u64 ((lo+hi:Nat):Int)=((lo+hi:Nat):Int):=by
   show((lo+hi:Nat):Int) % 18446744073709551616=((lo+hi:Nat):Int);omega
  have v:Int.fdiv ((lo+hi:Nat):Int) (2 ^ 1)=(((lo+hi) / 2:Nat):Int):=by
   rw[Int.fdiv_eq_ediv_of_nonneg _ om];omega
  have n:aB (((lo+hi) / 2:Nat):Int)=(((lo+hi) / 2:Nat):Int):=zt om om;have r:aB ((((lo+hi) / 2:Nat):Int)+1)=(((lo+hi) / 2+1:Nat):Int):=ψ
  rw[Ϙ (by simp[hlt])];simp only[m,l,v,n,r,zr c,gy,j,BT];cases lp x.1 p<;>rfl
 ·intro lo;unfold zJ;rw[ϙ si]
def PY(h:Cr set T ts)(p:Pt):tV ts p=some (bF T p):=by
 have j:=h.len;obtain⟨k,b,i,a⟩:=Ue h.pw.srt om p;unfold tV;rw[i];simp only[gy];have c:=(qX T p).perm h.perm;rcases a with⟨rfl,x,d,f⟩ |⟨rfl,hn⟩
 ·rw[Ϙ rfl,zr d];simp only[gy];congr 1;exact jq.uniq h.pw (.inl ⟨x.2,rfl,by rw[←f];exact fe d⟩) c
 ·rw[ϙ si];congr 1;exact jq.uniq h.pw (.inr ⟨rfl,hn⟩) c
def Cr.sub(h:Cr set T ts)(f:aP->Bool):Cr set (ts.filter f) (ts.filter f) where
 perm:=.refl _
 pw:=h.pw.filter f
 ok:=λx hx=>h.ok x (fa.1 hx).1
 len:=gg (dx _ _) h.len
def Cr.asm(hS:SetOk set)(h:Cr set T ts):dF set ts:=by
 have k:=hS.tiles;refine⟨⟨h.len,λi hi x d=>?_⟩,λx d=>(h.ok x d).2⟩;obtain⟨a,b,c⟩:=h.ok x<|fe d;exact⟨a,b,by omega,λy j f=>h.pw.srt (i - 1) i y x om f d⟩
def iJ(p:Pt)(b:Int->Bool)(x:aP):Bool:=!(x.1=p:Ϛ)&&!(b 0&&(x.1=zC p 0:Ϛ))&&!(b 1&&(x.1=zC p 1:Ϛ))&&!(b 2&&(x.1=zC p 2:Ϛ))&&!(b 3&&(x.1=zC p 3:Ϛ))
def zx5{p}(hp:dD p=true)(b:Int->Bool)(hl:ts.length<=500):Ac ts p (fU b)=some (ts.filter (iJ p b)):=by
 have c:∀(i:Nat)(x:aP)(a:List aP),ts[i]?=some x->iter (pR ts p (fU b) ((i:Int),a) x) (!(x.1=p:Ϛ),0)=some (iJ p b x):=by
  intro i x a f;have step:∀(d m:Int)(r:Bool),cE d->m=d+1->pR ts p (fU b) ((i:Int),a) x (r,d)=some (.inl (r&&!(b d&&(x.1=zC p d:Ϛ)),m)):=by
   intro d m r hd h;obtain⟨d4,_,u⟩:=jp hd;obtain⟨v,k,j⟩:=Hg b hd;unfold pR yh yi;rw[Ϙ (by simpa using d4),k];simp only[gy];rw[j];cases hb:b d with
   | true=>
    rw[Ϙ rfl];simp only[zr f,gy];rw[(jD hp hd).1];simp only[gy];rw[mr,u,h];cases hq:(x.1=zC p d:Ϛ)with
    | true=>rw[Ϙ rfl];simp
    | false=>rw[ϙ si];simp
   | false=>rw[ϙ si,ϙ si,u,h];simp
  rw[zp<|step 0 1 _ (.inl rfl) rfl,zp<|step 1 2 _ (.inr<|.inl rfl) rfl,zp<|step 2 3 _ (.inr<|.inr<|.inl rfl) rfl,zp<|step 3 4 _ (.inr<|.inr<|.inr rfl) rfl];refine zq ?_;unfold pR;rw[ϙ si];rfl
 have hlen:∀(i:Nat)(l:List aP),(l.foldl (λa x=>if iJ p b x then a++[x]else a) ([]:List aP)).length<=l.length:=λi l=>by
  have:=j_ (iJ p b) (λx:aP=>x) l [];rw[this];simp;exact dx _ _
 unfold Ac;have key:=Gg (F:=wY ts p<|fU b) ts (λa x=>if iJ p b x then a++[x]else a) [] om (λa i x f n=>?_) (λa n=>?_)
 ·rw[key];simp only[gy,Kz];have:=j_ (iJ p b) (λx:aP=>x) ts [];rw[this];simp
 ·have hlt:=zz f;have w:a.length<=1000:=by rw[n];refine gg (hlen 0 _) ?_;rw[ef];omega
  unfold wY;rw[Ϙ so];simp only[zr f,gy];rw[mr,c i x a f];simp only[gy];unfold Ky yj;cases iJ p b x with
  | true=>
   rw[Ϙ rfl];simp only[zr f,gy];rw[zO so so];rfl
  | false=>rw[ϙ si];rfl
 ·unfold wY;rw[ϙ si]
def Qb(E:List Pt)(h:E.length<=1000)(q:Pt):xr E q=some (q∈E:Ϛ):=by
 unfold xr EI Kf;rcases kX E om (λx=>some<|(q.1=x.1:Ϛ)&&(q.2=x.2:Ϛ)) (λx=>(q=x:Ϛ)) (λx _=>by rw[mr]) (JI E q) (λi=>rfl)with⟨b,a⟩ |⟨k,b,hk,hlow,x,hx,hq⟩
 ·rw[b];have:¬q∈E:=λh=>by simpa using a q h
  simp[this]
 ·rw[b];have:q∈E:=by
   have c:q=x:=϶ hq
   rw[c];exact fe hx
  simp[this]
def fR(b:Bool)(E:List Pt)(q:Pt):List Pt:=if b then E++[q]else E
def nV b(E:List Pt)(q:Pt):(fR b E q).length<=E.length+1:=by unfold fR;split<;>simp
def mH(p:Pt)(b:Int->Bool):List Pt:=fR (b 3) (fR (b 2) (fR (b 1) (fR (b 0) [p] (zC p 0)) (zC p 1)) (zC p 2)) (zC p 3)
def Th(p:Pt)(b:Int->Bool)(x:aP):(!(x.1∈mH p b:Ϛ))=iJ p b x:=by
 unfold mH iJ fR;cases b 0<;>cases b 1<;>cases b 2<;>cases b 3<;>simp[Bool.and_assoc]
def Ti(p:Pt)(b:Int->Bool):(mH p b).length<=5:=by
 unfold mH;have a:=nV (b 0) [p]<|zC p 0;have c:=nV (b 1) (fR (b 0) [p]<|zC p 0)<|zC p 1;have d:=nV (b 2) (fR (b 1) (fR (b 0) [p]<|zC p 0)<|zC p 1)<|zC p 2;have f:=nV (b 3) (fR (b 2) (fR (b 1) (fR (b 0) [p]<|zC p 0)<|zC p 1)<|zC p 2)<|zC p 3;simp only[ee]at a;omega
def zx6{p}(b:Int->Bool)(hl:ts.length<=500):xh ts (mH p b)=some (ts.filter (iJ p b)):=by
 unfold xh;rw[NG ts om];simp only[gy];rw[zxs ts om _ (λx=>(x.1∈mH p b:Ϛ)) (λx _=>by
  unfold DK;rw[Qb _ (by have:=Ti p b;omega)];rfl)]
 simp only[gy];congr 1;exact Iw λx _=>Th p b x
section
variable {t:Int} {seq:List aP} (hS:SetOk set) (hA:dF set ts) (hlen:seq.length<=500) (hp:Played set t ts seq)
def fD(set:TSet)(T0 seq:List aP)(i:Nat):List aP:=(cZ seq T0).filter (iJ (oI seq i).1 (bO set T0 seq i))
def lD(set:TSet)(t:Int)(T0 seq:List aP)(i:Nat)(k:Int):Prop:=k≠(oI seq i).2/\gK set (bF (fD set T0 seq i)) (oI seq i).1 k≥t
instance{t:Int}{T0 seq:List aP}{i:Nat}{k:Int}:Decidable (lD set t T0 seq i k):=inferInstanceAs (Decidable (_/\_))
include hS hA hlen hp
theorem Ht i:Cr set (fD set ts seq i) (fD set ts seq i):=by
 have h:=jC (gG hA) hp seq.length;rw[fv]at h;exact h.sub _
theorem QK{i s0 sl}(hi:i<seq.length):
  ∃r,xu ((set,s0,t),seq,cZ seq ts,(List.range seq.length).map (mI set ts seq),sl) (i:Int)=some r/\(r=true↔∃k,TileIx set k/\lD set t ts seq i k):=by
 obtain⟨_,M,_,_,_,_,w,_⟩:=kh hp<|fK hi;have m:=K9;rw[fv]at m;have l:=Ht hS hA hlen hp i;have P:=hS.tiles;unfold xu;simp only[zr<|fK hi,gy];have step:∀(d B:Int)(E:List Pt),cE d->B=d+1->E.length<=100->v_ ((set,s0,t),seq,cZ seq ts,(List.range seq.length).map<|mI set ts seq,sl) (i:Int) (oI seq i) (E,d)=some (.inl (fR (bO set ts seq i d) E<|zC (oI seq i).1 d,B)):=by
  intro d B E hd y N;obtain⟨d4,_,D⟩:=jp hd;unfold v_ wJ;rw[Ϙ (by simpa using d4),RK hA hlen hp hi];simp only[gy];unfold mO;rw[Ib _ hd];simp only[gy];unfold fR;cases bO set ts seq i d with
  | true=>
   rw[Ϙ rfl,(jD w hd).2];simp only[gy];rw[zO so so];simp only[gy];rw[D,y];rfl
  | false=>rw[ϙ si,D,y];rfl
 have H:=nV (bO set ts seq i 0) [(oI seq i).1]<|zC (oI seq i).1 0;have v:=nV (bO set ts seq i 1) (fR (bO set ts seq i 0) [(oI seq i).1]<|zC (oI seq i).1 0)<|zC (oI seq i).1 1;have A:=nV (bO set ts seq i 2) (fR (bO set ts seq i 1) (fR (bO set ts seq i 0) [(oI seq i).1]<|zC (oI seq i).1 0)<|zC (oI seq i).1 1)<|zC (oI seq i).1 2;simp only[ee]at H;rw[zp<|step 0 1 _ (.inl rfl) rfl si,zp<|step 1 2 _ (.inr<|.inl rfl) rfl om,zp<|step 2 3 _ (.inr<|.inr<|.inl rfl) rfl om,zp<|step 3 4 _ (.inr<|.inr<|.inr rfl) rfl om];rw[zq (x:=mH (oI seq i).1<|bO set ts seq i) (by unfold v_;rw[ϙ si];rfl)];simp only[gy];unfold JV;simp only;rw[zx6 _ m.len];simp only[gy];have key:=zy (F:=vZ ((set,s0,t),seq,cZ seq ts,(List.range seq.length).map<|mI set ts seq,sl) (oI seq i)<|fD set ts seq i)
  (λs=>0<=s/\s<=set.2.length/\∀k:Int,0<=k->k<s->¬lD set t ts seq i k) (λs=>(set.2.length - s).toNat)
  (λz=>match z with | .inl _=>∀k:Int,TileIx set k->¬lD set t ts seq i k | .inr b=>b=true/\∃k,TileIx set k/\lD set t ts seq i k) ?_ 0 ⟨by omega,by omega,λk v A=>by omega⟩
 ·obtain⟨z,J,l⟩:=key;show ∃r,((iter (vZ _ _<|fD set ts seq i) 0).bind _)=some r/\_;rw[J];cases z with
  | inl u=>
   refine⟨false,rfl,?_⟩;constructor
   ·intro h;cases h
   ·rintro⟨k,v,A⟩;exact x4 A<|l k v
  | inr b=>exact⟨b,rfl,λ_=>l.2,λ_=>l.1⟩
 ·rintro k ⟨I,O,C⟩;unfold vZ wK;simp only;by_cases hlt:k<set.2.length
  ·rw[Ϙ so];have n:TileIx set k:=⟨I,by omega⟩;have G:aB (k+1)=k+1:=zt om om;have j:¬lD set t ts seq i k->(0<=k+1/\k+1<=set.2.length/\∀f:Int,0<=f->f<k+1->¬lD set t ts seq i f)/\((set.2.length:Int) - (k+1)).toNat<((set.2.length:Int) - k).toNat:=by
    intro c;refine⟨⟨by omega,by omega,λf v A=>?_⟩,by omega⟩;by_cases L:f=k
    ·subst L;exact c
    ·exact C f v om
   by_cases a:k=(oI seq i).2
   ·left;rw[ϙ (by simp[a]),ϙ si,G];exact⟨_,rfl,j λc=>c.1 a⟩
   ·rw[Ϙ (by simp[a]),MX hS l.fok w (g:=λq0=>tV (fD set ts seq i) q0) (λd _=>PY l _) n];simp only[gy];by_cases c:gK set (bF<|fD set ts seq i) (oI seq i).1 k≥t
    ·right;rw[Ϙ (by simpa using c)];exact⟨_,rfl,rfl,k,n,a,c⟩
    ·left;rw[ϙ (by simpa using c),G];exact⟨_,rfl,j λh=>c h.2⟩
  ·right;rw[ϙ so];exact⟨_,rfl,λf h=>C f h.1 (y5 h.2)⟩
theorem Re{i}(hi:i<seq.length):sI set ts seq i<=gK set (bF (fD set ts seq i)) (oI seq i).1 (oI seq i).2:=by
 obtain⟨_,A,_,_,_,_,C,_⟩:=kh hp<|fK hi;have B:=jC (gG hA) hp i;have j:=jC (gG hA) hp seq.length;have z:=Ht hS hA hlen hp i;have one:∀d,cE d->eC set (bF<|TI ts seq i) (oI seq i).1 (oI seq i).2 d<=eC set (bF<|fD set ts seq i) (oI seq i).1 (oI seq i).2 d:=by
  intro d hd;have E:=jH hS z.fok (oI seq i).1 A hd;by_cases c:bF (TI ts seq i) (zC (oI seq i).1 d)≥0
  ·rcases qX (TI ts seq i) (zC (oI seq i).1 d)with⟨v,ev,u⟩ |⟨e,_⟩
   ·have m:(zC (oI seq i).1 d,v)∈TI ts seq seq.length:=by
     have:=Ce hA hp u (seq.length - i) om
     rwa [show i+(seq.length - i)=seq.length by omega]at this
    have r:(zC (oI seq i).1 d,v)∈cZ seq ts:=by
     have:=j.perm.mem_iff.1 m
     rwa [fv]at this
    have w:zC (oI seq i).1 d≠(oI seq i).1:=Hn hA hp (fK hi) _ u;have h:∀a,bO set ts seq i a=true->zC (oI seq i).1 d≠zC (oI seq i).1 a:=by
     intro a b e;obtain⟨k,l,y⟩:=lC.1 b;simp only[an,ϛ]at y;have x:=Ce hA hp u (k - i) om;rw[show i+(k - i)=k by omega]at x;exact Hn hA hp (fK l) _ x (by rw[y.1.2];exact e)
    have n:(zC (oI seq i).1 d,v)∈fD set ts seq i:=by
     refine fa.2 ⟨r,?_⟩;unfold iJ;have f:∀a,(!(bO set ts seq i a&&(zC (oI seq i).1 d=zC (oI seq i).1 a:Ϛ)))=true:=by
      intro a;cases b:bO set ts seq i a with
      | false=>rfl
      | true=>simp[h a b]
     simp only;rw[f 0,f 1,f 2,f 3,Ϣ w];rfl
    have D:bF (fD set ts seq i) (zC (oI seq i).1 d)=bF (TI ts seq i) (zC (oI seq i).1 d):=by
     rw[ev];exact jq.uniq z.pw (qX _ _)<|.inl ⟨v,rfl,n⟩
    unfold eC;rw[D];exact Int.le_refl _
   ·omega
  ·have:eC set (bF<|TI ts seq i) (oI seq i).1 (oI seq i).2 d=0:=ϙ c;omega
 unfold sI gK;have G:=one 0<|.inl rfl;have o1:=one 1<|.inr<|.inl rfl;have o2:=one 2<|.inr<|.inr<|.inl rfl;have F:=one 3<|.inr<|.inr<|.inr rfl;omega
theorem Vl{i}(hi:i<seq.length)(hs:sI set ts seq i=t):((fI set t (bF (fD set ts seq i)) (oI seq i).1).length=1↔¬ ∃k,TileIx set k/\lD set t ts seq i k):=by
 obtain⟨_,y,_⟩:=kh hp<|fK hi;have w:=Re hS hA hlen hp hi;have c:∀k,k∈fI set t (bF<|fD set ts seq i) (oI seq i).1↔TileIx set k/\gK set (bF<|fD set ts seq i) (oI seq i).1 k≥t:=by
  intro k;unfold fI;rw[fa,HY,ϛ]
 have j:(fI set t (bF<|fD set ts seq i) (oI seq i).1).Pairwise (· ≠ ·):=by
  unfold fI gD;refine List.Pairwise.filter _ ?_;rw[List.pairwise_map];exact List.nodup_range.imp λ{a b} h n=>h om
 have d:(oI seq i).2∈fI set t (bF<|fD set ts seq i) (oI seq i).1:=(c _).2 ⟨y,by omega⟩;revert c j d;generalize hL:fI set t (bF<|fD set ts seq i) (oI seq i).1=L;intro c j d;constructor
 ·rintro v ⟨k,n,A,z⟩;obtain⟨a,rfl⟩:=List.length_eq_one_iff.1 v;have x:=(c k).2 ⟨n,z⟩;simp only[fh]at x d;exact A (by rw[x,d])
 ·intro r;have f:∀k∈L,k=(oI seq i).2:=λk m=>Classical.byContradiction λu=>r ⟨k,((c k).1 m).1,u,((c k).1 m).2⟩
  match L,j,d,f with
  |[],_,d,_=>cases d
  |[a],_,_,_=>rfl
  | a::b::l,j,_,f=>
   have v:=f a si;have n:=f b si;exact x4 (v.trans n.symm)<|(fm.1 j).1 b si
def o_(set:TSet)(t:Int)(T0 seq:List aP)(i:Nat):Prop:=sI set T0 seq i=t/\¬ ∃k,TileIx set k/\lD set t T0 seq i k
theorem PC{s0}:∃z,iter (DP ((set,s0,t),seq,cZ seq ts,(List.range seq.length).map (mI set ts seq),(List.range seq.length).map (sI set ts seq))) 0=some z/\
  match z with | .inl _=>∀i,i<seq.length->o_ set t ts seq i | .inr f=>f.isSome=true/\∃i,i<seq.length/\¬o_ set t ts seq i:=by
 refine zy (λs=>∃i:Nat,s=(i:Int)/\i<=seq.length/\∀j,j<i->o_ set t ts seq j) (λs=>(seq.length - s).toNat) _ ?_ 0 ⟨0,rfl,by omega,λj h=>by omega⟩;rintro s ⟨i,rfl,hi,c⟩;unfold DP;simp only;by_cases hlt:i<seq.length
 ·rw[Ϙ so];simp only[zr<|fK hlt,gy];rw[vn _ hlt];simp only[gy];by_cases hs:sI set ts seq i=t
  ·rw[ϙ (by simp[hs])];obtain⟨r,k,a⟩:=QK hS hA hlen hp hlt (s0:=s0) (sl:=(List.range seq.length).map<|sI set ts seq);rw[k];simp only[gy];cases r with
   | true=>
    right;rw[Ϙ rfl];exact⟨_,rfl,rfl,i,hlt,λh=>h.2<|a.1 rfl⟩
   | false=>
    left;rw[ϙ si];refine⟨_,rfl,⟨i+1,ψ,by omega,λj d=>?_⟩,ψ⟩;by_cases b:j=i
    ·subst b;exact⟨hs,λh=>by have:=a.2 h;cases this⟩
    ·exact c j om
  ·right;rw[Ϙ (by simp[hs])];exact⟨_,rfl,rfl,i,hlt,λh=>hs h.1⟩
 ·right;rw[ϙ so];exact⟨_,rfl,λj d=>c j om⟩
theorem zz7{s0}:∃z,iter (Ei (set,s0,t) seq ((List.range seq.length).map (mI set ts seq),(List.range seq.length).map (sI set ts seq)) ((List.range seq.length).map (mO set ts seq)) (cZ seq ts,0,0)) (0,0,0)=some z/\
  match z with | .inl _=>∀i,i<seq.length->o_ set t ts seq i | .inr f=>f.1≠0/\∃i,i<seq.length/\¬o_ set t ts seq i:=by
 refine zy (λs=>∃i:Nat,s.1=(i:Int)/\i<=seq.length/\∀j,j<i->o_ set t ts seq j) (λs=>((seq.length:Int) - s.1).toNat) _ ?_ (0,0,0) ⟨0,rfl,by omega,λj h=>by omega⟩;rintro⟨s,u⟩ ⟨i,e,hi,hg⟩;simp only at e;subst e;have a:=K9;rw[fv]at a;unfold Ei;simp only;by_cases hlt:i<seq.length
 ·rw[Ϙ so];obtain⟨_,v,_,_,_,_,c,_⟩:=kh hp<|fK hlt;rw[vn _ hlt,vn _ hlt];simp only[zr<|fK hlt,gy];by_cases hs:sI set ts seq i=t
  ·rw[ϙ (by simp[hs])];unfold mO;rw[zx5 c _ a.len];simp only[gy];have n:=Ht hS hA hlen hp i;have b:=Jg hS n.fok (rest:=fD set ts seq i) c (λd _=>(n.at _).1) t;unfold fD at b;rw[b];simp only[gy];have k:=Vl hS hA hlen hp hlt hs;unfold fD at k;by_cases m:(fI set t (bF<|(cZ seq ts).filter<|iJ (oI seq i).1<|bO set ts seq i) (oI seq i).1).length=1
   ·left;rw[ϙ (by simp[m])];refine⟨_,rfl,⟨i+1,by simp only;rw[zt om om];omega,by omega,λj r=>?_⟩,by simp only;exact D3⟩;by_cases l:j=i
    ·subst l;exact⟨hs,k.1 m⟩
    ·exact hg j om
   ·right;rw[Ϙ so];exact⟨_,rfl,by simp,i,hlt,λh=>m<|k.2 h.2⟩
  ·right;rw[Ϙ (by simp[hs])];exact⟨_,rfl,by simp,i,hlt,λh=>hs h.1⟩
 ·right;rw[ϙ so];exact⟨_,rfl,λj r=>hg j om⟩
theorem R_(hV:jT (set,ts,t)=some true)(hV':kf (set,ts,t)=some true):
  ∃r,uk (set,ts,t) seq=some r/\AS (set,ts,t) seq=some (r.1=0:Ϛ):=by
 have H:=hA.1.1;have j:=K9;rw[fv]at j;have c:=j.asm hS;obtain⟨I,m,_,_,v⟩:=Gc hS hA t hV hV' seq om;obtain rfl:=v hlen hp;have n:qF (set,ts,t) seq=some (cZ seq ts,0,0):=by
  unfold qF;obtain⟨r,O,C,A,L,D⟩:=Iu hS hA t hlen;have F:kQ ts=some ts:=L6
  simp only;rw[F];simp only[gy];rw[D];cases r with
  | inl q=>rfl
  | inr z=>
   simp only at A;cases A with
   | ok h=>rfl
   | bad _ _ _ h0 k=>exact x4 hp k
 obtain⟨out,o1,o2,J⟩:=NW hS (gG c) ts t;obtain⟨l,l1,l2,_⟩:=SH hS c ts t;have b:l=[]↔out=[]:=l2.trans<|IG.trans o2.symm;obtain⟨z,E,d⟩:=PC hS hA hlen hp (s0:=ts);obtain⟨B,w,a⟩:=zz7 hS hA hlen hp (s0:=ts);unfold uk AS Am GC;rw[RD hS hA hlen hp,m];simp only[gy];rw[PK hA hlen hp,n];simp only[gy];rw[w,ϙ si,AO hS hA ts t];simp only[gy];rw[Ta hS hA hlen hp];simp only[gy,Na];rw[ϙ si];unfold EM;rw[E];simp only[gy];cases z with
 | inl u=>
  cases B with
  | inr f=>obtain⟨_,i,hi,k⟩:=a;exact x4 (d i hi) k
  | inl u'=>
   simp only;unfold Kj LF;simp only;rw[AO hS c ts t,o1];simp only[gy];rw[l1];simp only[gy];cases out with
   | nil=>
    have G:l=[]:=b.2 rfl;subst G;rw[ϙ si,ϙ si];exact A3
   | cons x out=>
    cases l with
    | nil=>have:=b.1 rfl;cases this
    | cons y l=>
     rw[Ϙ si,Ϙ si];exact A3
 | inr f=>
  cases B with
  | inl u'=>obtain⟨_,i,hi,k⟩:=d;exact x4 (a i hi) k
  | inr f'=>
   simp only;refine⟨_,rfl,?_⟩;obtain⟨C,_⟩:=d;cases f with
   | none=>cases C
   | some To=>
    obtain⟨M,o⟩:=To;have:=a.1;simp[this]
end
end
def GB{S X:Type}{F G:S->Option (S ⊕ X)}(I:S->Prop)(μ:S->Nat)(R:X->Prop)(h:∀s,I s->(∃a,F s=some (.inl a)/\G s=some (.inl a)/\I a/\μ a<μ s)\/∃x,F s=some (.inr x)/\G s=some (.inr x)/\R x)(s:S)(hs:I s):∃x,iter F s=some x/\iter G s=some x/\R x:=zy (F:=F) (λa=>I a/\iter G s=iter G a) μ (λx=>iter G s=some x/\R x) (λa hs'=>by
  rcases h a hs'.1 with⟨s2,b,c,d,hm⟩ |⟨x,b,c,hR⟩
  ·exact .inl ⟨s2,b,⟨d,by rw[hs'.2,zp c]⟩,hm⟩
  ·exact .inr ⟨x,b,by rw[hs'.2,zq c],hR⟩) s ⟨hs,rfl⟩
def IW{g:Type}{a b:List g}(h:a.length<=2000000)(hl:a.length=b.length)(F:Int->Option (Int ⊕ (Unit ⊕ Bool)))(h1:∀(i:Nat) x,a[i]?=some x->b[i]?=some x->F (i:Int)=some (.inl (aB ((i:Int)+1))))(h2:∀(i:Nat) x y,a[i]?=some x->b[i]?=some y->x≠y->F (i:Int)=some (.inr (.inr false)))(hs:F (a.length:Int)=some (.inr (.inl ()))):
  (iter F 0=some (.inl ())/\a=b)\/(iter F 0=some (.inr false)/\a≠b):=by
 have key:=ko (λi=>(i:Int)) 0 a.length (λi=>a[i]?=b[i]?) F om (λi _ hi _ c=>?_) (λi _ hi _ c=>?_) (λ_=>hs)
 ·rcases key with⟨j,d⟩ |⟨j,hn⟩
  ·refine .inl ⟨j,bp λi=>?_⟩;by_cases hi:i<a.length
   ·exact d i om hi
   ·rw[co om,co om]
  ·exact .inr ⟨j,λe=>hn λi _ _=>by rw[e]⟩
 ·have f:a[i]?=some a[i]:=cn hi;have l:=h1 i _ f (c▸f);rw[zt om om]at l;exact l
 ·have f:a[i]?=some a[i]:=cn hi;have k:b[i]?=some (b[i]'om):=cn om;refine h2 i _ _ f k λe=>c ?_;rw[f,k,e]
def TD(a b:aP):(((a.1.1=b.1.1:Ϛ)&&(a.1.2=b.1.2:Ϛ))&&(a.2=b.2:Ϛ))=(a=b:Ϛ):=by
 rw[ao];simp[Prod.ext_iff,and_assoc]
def Is(a b:List aP)(h:a.length<=2000000):uz a b=some (a=b:Ϛ):=by
 unfold uz My;by_cases f:a.length=b.length
 ·rw[ϙ (by simp[f])];have key:=IW h f (sX a b) (λi x c j=>?_) (λi x y c j d=>?_) ?_
  ·rcases key with⟨k,e⟩ |⟨k,e⟩
   ·rw[k];simp[e]
   ·rw[k];simp[e]
  ·unfold sX;rw[Ϙ (by have:=zz c;simp;omega)];simp[zr c,zr j]
  ·unfold sX;rw[Ϙ (by have:=zz c;simp;omega)];simp only[zr c,zr j,gy];rw[TD,Ϙ (by simp[d])]
  ·unfold sX;rw[ϙ si]
 ·rw[Ϙ so];have:a≠b:=λe=>f (by rw[e]);simp[this]
def Sp(a b:List aP)(h:a.length<=2000000):yr a b=some (a=b:Ϛ):=by
 have e:EJ a b=uz a b:=rfl;unfold yr;rw[e,Is a b h];rfl
def ri(a:List aP):th a []=some ((a.length:Int)=0:Ϛ):=by
 unfold th KH;cases a with
 | nil=>
  rw[ϙ si,zq (x:=Sum.inl ()) (by unfold JK;rw[ϙ si])];rfl
 | cons x a=>rw[Ϙ so];simp;omega
def rh(a:List Int):td a []=some ((a.length:Int)=0:Ϛ):=by
 unfold td Kh;cases a with
 | nil=>
  rw[ϙ si,zq (x:=Sum.inl ()) (by unfold JJ;rw[ϙ si])];rfl
 | cons x a=>rw[Ϙ so];simp;omega
def rf(a:List (List Int))(f:List Int->List Int->Option Bool):xA a [] f=some ((a.length:Int)=0:Ϛ):=by
 unfold xA JQ;cases a with
 | nil=>
  rw[ϙ si,zq (x:=Sum.inl ()) (by unfold Jx;rw[ϙ si])];rfl
 | cons x a=>rw[Ϙ so];simp;omega
def QW(pf:fO)(h:1<=pf.1/\pf.1<=6):∃b,x_ pf=some b/\ua pf=some b:=by
 obtain⟨k,c,s2,a,fl⟩:=pf;simp only at h;have d:k=1\/k=2\/k=3\/k=4\/k=5\/k=6:=by omega
 have key:∃b,ua (k,c,s2,a,fl)=some b/\Ao (iI (k,c,s2,a,fl)) (0,[],[],[],[])=some b:=by
  unfold Ao ua;rcases d with rfl | rfl | rfl | rfl | rfl | rfl
  ·rw[show iI (1,c,s2,a,fl)=(0,[],s2,a,fl)from rfl];exact Γ
  ·rw[show iI (2,c,s2,a,fl)=(0,[],s2,a,fl)from rfl];exact Γ
  ·rw[show iI (3,c,s2,a,fl)=(0,[],s2,a,fl)from rfl];exact Γ
  ·rw[show iI (4,c,s2,a,fl)=(0,[],[],a,fl)from rfl];exact Γ
  ·rw[show iI (5,c,s2,a,fl)=(0,c,s2,a,[])from rfl];exact Γ
  ·rw[show iI (6,c,s2,a,fl)=(0,c,s2,[],fl)from rfl];exact Γ
 obtain⟨b,i,f⟩:=key;exact⟨b,f,i⟩
section
variable {set:TSet} {ts asm:List aP}
def OY(hS:SetOk set)(hA:dF set ts)t(hV:jT (set,ts,t)=some true)(hV':kf (set,ts,t)=some true)(hasm:asm.length<=2000000)(seq:List aP)(hl:seq.length<=2000000):
  ∃b,mT seq (set,ts,t) asm=some b/\kM (set,ts,t) seq asm=some b/\(b=true->seq.length<=500/\Played set t ts seq/\asm=cZ seq ts):=by
 obtain⟨r,k,j,l,_⟩:=Gc hS hA t hV hV' seq hl;unfold mT kM;rw[k,j];simp only[gy];by_cases c:r.2.2=0
 ·obtain⟨i,d,f⟩:=l c;have a:=jC (gG hA) d seq.length;rw[fv,←f]at a;rw[Ϙ (by simpa using c),Ϙ (by simpa using c),Sp asm r.1 hasm,Is r.1 asm (by have:=a.len;omega)];refine⟨(r.1=asm:Ϛ),?_,rfl,λh=>⟨i,d,by rw[←f];exact(Ϫ h).symm⟩⟩;simp only[gy];rw[decide_eq_decide.2 eq_comm]
 ·rw[ϙ (by simpa using c),ϙ (by simpa using c)];exact⟨false,rfl,rfl,D8⟩
def Uh{bs:List Bd}{fl:List Int}(h:fl.length=bs.length):DX fl bs=sL fl bs:=by
 funext s;unfold DX sL;by_cases hlt:s.2<(bs.length:Int)
 ·rw[Ϙ (by simpa using hlt),Ϙ (by simpa using hlt)];by_cases a:0<=s.2
  ·obtain⟨x,f,_⟩:=zY (l:=bs) a hlt;obtain⟨y,c,_⟩:=zY (l:=fl) a om;simp only[f,c,gy,gS,hP]
  ·have b:idx bs s.2=none:=by unfold idx;rw[ϙ a]
   have d:idx fl s.2=none:=by unfold idx;rw[ϙ a]
   rw[b,d];rfl
 ·rw[ϙ (by simpa using hlt),ϙ (by simpa using hlt)]
def Ui(hS:SetOk set)(hA:dF set asm){va vs p3}(h1:jW set asm=some true)(h2:qw set asm=some 0)(h3:1<=p3)(h4:p3<=(asm.length:Int) - 1)fl(hva:va=())(hvs:vs=()):
  ∃r,As set asm 0 p3 fl=some r/\AA set asm 0 p3 fl=some r:=by
 have X:=hA.1.1;have A:aB ((asm.length:Int) - 1)=(asm.length:Int) - 1:=zt om om;obtain⟨bs,b1,b2,b3,b4⟩:=GY hS hA;unfold As AA FG iV;rw[h1,h2];simp only[gy,A,gS,hP];have L:((0:Int)<=0/\(0:Int)<=(asm.length:Int) - 1:Ϛ)=true:=Ϥ om;have d3:((0:Int)<=p3/\p3<=(asm.length:Int) - 1:Ϛ)=true:=Ϥ om;have M:((0:Int)=p3:Ϛ)=false:=Ϣ om;simp only[L,d3,M,av,aq,ϟ,tD,gy,Ϟ,sT];rw[b1,b2];simp only[gy];by_cases B:fl.length=bs.length
 ·rw[ϙ (by simp[B]),ϙ (by simp[B]),Co om om om];simp only[gy,bb];rw[Uh B];have key:=zy (F:=sL fl bs) (λs=>0<=s.2/\s.2<=bs.length/\s.1.length=asm.length) (λs=>(bs.length - s.2).toNat) (λz=>match z with | .inl y=>y.length=asm.length | .inr r=>True) ?_ (List.replicate asm.length 0,0) ⟨by simp,by simp,by simp⟩
  ·obtain⟨z,J,N⟩:=key;rw[J];simp only[gy];cases z with
   | inr z=>exact⟨z,rfl,rfl⟩
   | inl y=>
    simp only at N ⊢;unfold LZ Lq;have k2:=GB (F:=sM 0 p3 y) (G:=sK asm 0 p3 y) (λs=>0<=s/\s<=asm.length) (λs=>(asm.length - s).toNat) (λ_=>True) ?_ 0 ⟨by omega,by omega⟩
    ·obtain⟨x,R,I,_⟩:=k2;rw[R,I];simp only[gy];cases x with
     | inr z=>exact⟨z,rfl,rfl⟩
     | inl u=>
      simp only;unfold LY Lp;obtain⟨v,a,_⟩:=zY (l:=y) (i:=0) om om;rw[a];exact⟨_,rfl,rfl⟩
    ·rintro s ⟨c,D⟩;have ws:s<asm.length->aB (s+1)=s+1:=λh=>zt om om;have H:s<asm.length->∀v,idx y s=some v->sM 0 p3 y s=if v≠0/\s≠0/\s≠p3 then some (.inr<|.inr (0,10))else some (.inl (s+1)):=λh v a=>by
      unfold sM tA;rw[Ϙ so,a,ws h];simp only[gy];by_cases d:v=0
      ·simp[d]
      ·by_cases b:s=0
       ·simp[d,b]
       ·by_cases k:s=p3<;>simp[d,b,k]
        all_goals (intro Q;omega)
     have E:s<asm.length->∀v,idx y s=some v->sK asm 0 p3 y s=if v≠0/\s≠0/\s≠p3 then some (.inr<|.inr (0,10))else some (.inl (s+1)):=λh v a=>by
      unfold sK sS;rw[A,Ϙ so,a,ws h];simp only[gy];by_cases b:s=0
      ·simp[b]
      ·by_cases k:s=p3
       ·simp[b,k]
        all_goals (intro Q;omega)
       ·by_cases d:v=0<;>simp[d,b,k]
     by_cases hlt:s<asm.length
     ·obtain⟨v,a,_⟩:=zY (l:=y) (i:=s) c om;rw[H hlt v a,E hlt v a];by_cases q:v≠0/\s≠0/\s≠p3
      ·right;rw[Ϙ q];exact⟨_,rfl,rfl,xO⟩
      ·left;rw[ϙ q];exact⟨_,rfl,rfl,⟨by omega,by omega⟩,by omega⟩
     ·right;refine⟨.inl (),?_,?_,xO⟩
      ·unfold sM;rw[ϙ so]
      ·unfold sK;rw[A,ϙ so]
  ·rintro⟨y,i⟩ ⟨c,D,g2⟩;simp only at c D g2;unfold sL;by_cases hlt:i<bs.length
   ·obtain⟨x,P,C⟩:=zY (l:=bs) c hlt;obtain⟨f,w,_⟩:=zY (l:=fl) c om;obtain⟨w0,T,S,U,_⟩:=b3 _ x C;rw[Ϙ (by simpa using hlt)];simp only[P,w,gy,hP];by_cases j:aB (0 - x.2.2)<=f/\f<=x.2.2
    ·left;rw[ϙ (by simpa using j)];obtain⟨u,O,_⟩:=zY (l:=y) w0 om;simp only[O,gy];obtain⟨V,m,_⟩:=zY (l:=y.set x.1.toNat<|aB (u+f)) S (by rw[ed];omega);simp only[m,gy];rw[zt (n:=i+1) om om];exact⟨_,rfl,⟨by simp only;omega,by simp only;omega,by simp[g2]⟩,by simp only;omega⟩
    ·right;rw[Ϙ (by simp only[au,Ϝ];exact j)];exact⟨_,rfl,xO⟩
   ·right;rw[ϙ (by simpa using hlt)];exact⟨_,rfl,g2⟩
 ·rw[Ϙ so,Ϙ so];exact⟨_,rfl,rfl⟩
def RN(hS:SetOk set)(hA:dF set asm)(h1:jW set asm=some true)(h2:qw set asm=some 0)t{s0}(fl:List (List Int)):
  ∃r,wF fl (set,s0,t) asm=some r/\AJ (set,s0,t) asm fl=some r:=by
 have D:=hA.1.1;have j:aB ((asm.length:Int) - 1)=(asm.length:Int) - 1:=zt om om;unfold wF AJ kR Jr;rw[j];have e:(if(0>(asm.length:Int) - 1:Ϛ)=true then some (0:Int)else some<|(asm.length:Int) - 1)=some (if 0>(asm.length:Int) - 1 then 0 else(asm.length:Int) - 1):=by
  by_cases h:0>(asm.length:Int) - 1<;>simp[h]
 rw[e];simp only[gy];by_cases a:(fl.length:Int)=if 0>(asm.length:Int) - 1 then 0 else(asm.length:Int) - 1
 ·rw[ϙ (by simp[a]),ϙ (by simp[a])];have k2:=GB (F:=rE fl (set,s0,t) asm) (G:=su (set,s0,t) asm fl) (λs=>0<=s/\s<=fl.length) (λs=>(fl.length - s).toNat) (λ_=>True) ?_ 0 ⟨by omega,by omega⟩
  ·obtain⟨x,n,B,_⟩:=k2;rw[n,B];cases x with
   | inr z=>exact⟨z,rfl,rfl⟩
   | inl u=>exact⟨_,rfl,rfl⟩
  ·rintro s ⟨y,C⟩;by_cases hlt:s<fl.length
   ·obtain⟨v,f,_⟩:=zY (l:=fl) y hlt;have ws:aB (s+1)=s+1:=by
     split at a<;>exact zt om om
    have b:1<=s+1/\s+1<=(asm.length:Int) - 1:=by split at a<;>omega
    obtain⟨r,w,i⟩:=Ui hS hA (va:=()) (vs:=()) h1 h2 b.1 b.2 v rfl rfl;have A:rE fl (set,s0,t) asm s=if r.2=0/\¬r.1<t then some (.inl (s+1))else some (.inr<|.inr false):=by
     unfold rE wr;rw[Ϙ (by simpa using hlt),f];simp only[gy];rw[ws,w];simp only[gy];by_cases c:r.2=0<;>by_cases d:r.1<t<;>simp[c,d]
     all_goals first | omega |(intro m;omega)
    have k:su (set,s0,t) asm fl s=if r.2=0/\¬r.1<t then some (.inl (s+1))else some (.inr<|.inr false):=by
     unfold su yL;rw[Ϙ (by simpa using hlt),f];simp only[gy];rw[ws,i];simp only[gy];by_cases c:r.2=0<;>by_cases d:r.1<t<;>simp[c,d]
     all_goals first | omega |(intro m;omega)
    rw[A,k];by_cases q:r.2=0/\¬r.1<t
    ·left;rw[Ϙ q];exact V3
    ·right;rw[ϙ q];exact⟨_,rfl,rfl,xO⟩
   ·right;refine⟨.inl (),?_,?_,xO⟩
    ·unfold rE;rw[ϙ (by simpa using hlt)]
    ·unfold su;rw[ϙ (by simpa using hlt)]
 ·rw[Ϙ (by simpa using a),Ϙ (by simpa using a)];exact A3
def CV(l:List Int)(h:l.length<=2000000)q:sB l q=some (q∈l:Ϛ)/\uK l q=some (q∈l:Ϛ):=by
 constructor
 ·unfold sB EH Ke;rcases kX l h (λx=>some<|(q=x:Ϛ)) (λx=>(q=x:Ϛ)) (λx _=>rfl) (JH l q) (λi=>rfl)with⟨c,a⟩ |⟨k,c,hk,hlow,x,m,hq⟩
  ·rw[c];have:¬q∈l:=λh=>by simpa using a q h
   simp[this]
  ·rw[c];have:q∈l:=by
    have y:q=x:=϶ hq
    rw[y];exact fe m
   simp[this]
 ·unfold uK Mx;have key:=zy (F:=EQ l q) (λs=>0<=s/\s<=l.length/\∀j:Nat,(j:Int)<s->l[j]?≠some q) (λs=>(l.length - s).toNat) (λz=>match z with | .inl _=>¬q∈l | .inr b=>b=true/\q∈l) ?_ 0 ⟨by omega,by omega,λj f=>by omega⟩
  ·obtain⟨z,c,n⟩:=key;rw[c];cases z with
   | inl u=>simp only at n;simp[n]
   | inr b=>obtain⟨rfl,hm⟩:=n;simp[hm]
  ·rintro s ⟨w,A,v⟩;obtain⟨k,rfl⟩:=ba w;unfold EQ;by_cases hlt:k<l.length
   ·have m:l[k]?=some l[k]:=cn hlt;rw[Ϙ so];simp only[zr m,gy];by_cases d:l[k]=q
    ·right;rw[Ϙ (by simpa using d)];exact⟨_,rfl,rfl,d▸dm hlt⟩
    ·left;rw[ϙ (by simpa using d),zt om om];refine⟨_,rfl,⟨by omega,by omega,λj f=>?_⟩,by omega⟩;by_cases r:j=k
     ·subst r;rw[m];exact λh=>d<|A5 h
     ·exact v j om
   ·right;rw[ϙ so];refine⟨_,rfl,λhm=>?_⟩;obtain⟨j,f⟩:=cz hm;exact v j (C2 f) f
def Ra(bs:List Bd)(hb:bs.length<=1000)(p:List Int)(hp:p.length<=2000000):∃v,yH bs p=some v/\Bh bs p=some v:=by
 have q:∀b:Bd,xv b p=some ((b.1∈p:Ϛ) == (b.2.1∈p:Ϛ)):=λb=>by
  unfold xv;rw[(CV p hp _).1,(CV p hp _).1];rfl
 unfold yH Bh;rw[NC bs om];simp only[gy];rw[Nj bs om _ (λb=>(b.1∈p:Ϛ) == (b.2.1∈p:Ϛ)) (λb _=>q b)];simp only[gy];have d:Ai (bs.filter λb=>!((b.1∈p:Ϛ) == (b.2.1∈p:Ϛ)))=some ((bs.filter λb=>!((b.1∈p:Ϛ) == (b.2.1∈p:Ϛ))).foldl (λa b=>aB (a+b.2.2)) 0):=by
  have h:=dx (λb:Bd=>!((b.1∈p:Ϛ) == (b.2.1∈p:Ϛ))) bs;unfold Ai;rw[ml (F:=xa<|bs.filter λb=>!((b.1∈p:Ϛ) == (b.2.1∈p:Ϛ))) (bs.filter λb=>!((b.1∈p:Ϛ) == (b.2.1∈p:Ϛ))) (λa b=>aB (a+b.2.2)) 0 om (λa i x c _=>?_) (λa _=>?_)]
  ·rfl
  ·unfold xa;rw[Ϙ (by have:=zz c;simp;omega)];simp only[zr c,gy]
  ·unfold xa;rw[ϙ si]
 have f:iter (tu bs p) (0,0)=some (bs.foldl (λa b=>if(!((b.1∈p:Ϛ) == (b.2.1∈p:Ϛ)))=true then aB (a+b.2.2)else a) 0):=by
  refine ml (F:=tu bs p) bs (λa b=>if(!((b.1∈p:Ϛ) == (b.2.1∈p:Ϛ)))=true then aB (a+b.2.2)else a) 0 om (λa i x c _=>?_) (λa _=>?_)
  ·unfold tu Aw;rw[Ϙ (by have:=zz c;simp;omega)];simp only[zr c,gy,(CV p hp _).2];split<;>rfl
  ·unfold tu;rw[ϙ si]
 rw[d,f,List.foldl_filter];exact A3
def Td(p:List Int)(hp:p.length<=2000000)(hl:asm.length<=500):∃b,xK asm p=some b/\AX asm p=some b/\(b=true->p.length<=asm.length):=by
 have v:aB ((asm.length:Int) - 1)=(asm.length:Int) - 1:=zt om om;have k2:=GB (F:=z7 asm p) (G:=nf p 0<|(asm.length:Int) - 1) (λs=>0<=s/\s<=p.length/\∀j:Nat,(j:Int)<s->∃x,p[j]?=some x/\(j:Int)<=x/\x<=(asm.length:Int) - 1) (λs=>(p.length - s).toNat) (λz=>match z with | .inl _=>p.length<=asm.length | .inr b=>b=false) ?_ 0 ⟨by omega,by omega,λj B=>by omega⟩
 ·obtain⟨x,J,H,w⟩:=k2;unfold xK AX Fy;rw[v,J,H];cases x with
  | inl u=>exact⟨true,rfl,rfl,λ_=>w⟩
  | inr b=>simp only at w;subst w;exact⟨false,rfl,rfl,D8⟩
 ·rintro s ⟨E,M,r⟩;obtain⟨k,rfl⟩:=ba E;by_cases hlt:k<p.length
  ·have d:p[k]?=some p[k]:=cn hlt;generalize p[k]=x at d;have A:aB ((k:Int)+1)=(k:Int)+1:=zt om om;by_cases D:k=0
   ·subst D;have m:z7 asm p ((0:Nat):Int)=if 0<=x/\x<=(asm.length:Int) - 1 then some (.inl 1)else some (.inr<|.inr false):=by
     unfold z7 iV pk;rw[Ϙ so];simp only[zr d,gy,v,gS];by_cases a:0<=x/\x<=(asm.length:Int) - 1
     ·rw[Ϙ a,Ϥ a];rfl
     ·rw[ϙ a,Ϣ a];rfl
    have l:nf p 0 ((asm.length:Int) - 1) ((0:Nat):Int)=if 0<=x/\x<=(asm.length:Int) - 1 then some (.inl 1)else some (.inr<|.inr false):=by
     unfold nf pY;rw[Ϙ so];simp only[zr d,gy,hP];by_cases a:0<=x/\x<=(asm.length:Int) - 1
     ·rw[Ϙ a,Ϥ a];rfl
     ·rw[ϙ a,Ϣ a];rfl
    rw[m,l];by_cases a:0<=x/\x<=(asm.length:Int) - 1
    ·left;rw[Ϙ a];refine⟨_,rfl,rfl,⟨by omega,by omega,λj B=>?_⟩,by omega⟩;have:j=0:=by omega
     subst this;exact⟨x,d,by omega,a.2⟩
    ·right;rw[ϙ a];exact⟨_,rfl,rfl,rfl⟩
   ·obtain⟨y,I,y0,C⟩:=r (k - 1) om;have i:idx p (aB<|(k:Int) - 1)=some y:=by
     rw[zt om om,show(k:Int) - 1=((k - 1:Nat):Int) by omega];exact zr I
    have f:((k:Int)>0:Ϛ)=true:=Ϥ om;have m:z7 asm p (k:Int)=if(0<=x/\x<=(asm.length:Int) - 1)/\y<x then some (.inl ((k:Int)+1))else some (.inr<|.inr false):=by
     unfold z7 iV pk;rw[Ϙ so];simp only[zr d,gy,v,gS,f,i,A];by_cases a:0<=x/\x<=(asm.length:Int) - 1
     ·rw[Ϥ a];by_cases c:y<x
      ·rw[Ϙ (show(0<=x/\x<=(asm.length:Int) - 1)/\y<x from⟨a,c⟩),Ϣ (show ¬x<=y by omega)];rfl
      ·rw[ϙ (show ¬((0<=x/\x<=(asm.length:Int) - 1)/\y<x)from λh=>c h.2),Ϥ (show x<=y by omega)];rfl
     ·rw[ϙ (show ¬((0<=x/\x<=(asm.length:Int) - 1)/\y<x)from λh=>a h.1),Ϣ a];rfl
    have l:nf p 0 ((asm.length:Int) - 1) (k:Int)=if(0<=x/\x<=(asm.length:Int) - 1)/\y<x then some (.inl ((k:Int)+1))else some (.inr<|.inr false):=by
     unfold nf pY;rw[Ϙ so];simp only[zr d,gy,hP,f,i,A];by_cases a:0<=x/\x<=(asm.length:Int) - 1
     ·rw[Ϥ a];by_cases c:y<x
      ·rw[Ϙ (show(0<=x/\x<=(asm.length:Int) - 1)/\y<x from⟨a,c⟩),Ϣ (show ¬y≥x by omega)];rfl
      ·rw[ϙ (show ¬((0<=x/\x<=(asm.length:Int) - 1)/\y<x)from λh=>c h.2),Ϥ (show y≥x by omega)];rfl
     ·rw[ϙ (show ¬((0<=x/\x<=(asm.length:Int) - 1)/\y<x)from λh=>a h.1),Ϣ a];rfl
    rw[m,l];by_cases a:(0<=x/\x<=(asm.length:Int) - 1)/\y<x
    ·left;rw[Ϙ a];refine⟨_,rfl,rfl,⟨by omega,by omega,λj B=>?_⟩,by omega⟩;by_cases n:j=k
     ·subst n;exact⟨x,d,by omega,a.1.2⟩
     ·exact r j om
    ·right;rw[ϙ a];exact⟨_,rfl,rfl,rfl⟩
  ·right;refine⟨.inl (),?_,?_,?_⟩
   ·unfold z7;rw[ϙ so]
   ·unfold nf;rw[ϙ so]
   ·simp only;by_cases L:p.length=0
    ·omega
    ·obtain⟨y,_,y0,C⟩:=r (p.length - 1) om;omega
def Vi(hS:SetOk set)(hA:dF set asm)(h1:jW set asm=some true)t{s0}(p:List Int)(hp:p.length<=2000000):
  ∃r,xd p (set,s0,t) asm=some r/\Be (set,s0,t) asm p=some r:=by
 obtain⟨b,b1,b2,b3⟩:=Td p hp hA.1.1 (asm:=asm);obtain⟨bs,c1,c2,c3,c4⟩:=GY hS hA;obtain⟨v,i,f⟩:=Ra bs c4 p hp;unfold xd Ff Be ub;simp only;rw[h1,b1,b2];simp only[gy];cases b with
 | false=>exact⟨false,by simp,by simp⟩
 | true=>
  have h:=b3 rfl;rw[c1,c2];simp only[gy];rw[i,f];refine⟨if p.length=0 then false else if p.length=asm.length then false else (v<t:Ϛ),?_,?_⟩
  ·by_cases a:p.length=0
   ·simp[a]
   ·by_cases c:p.length=asm.length
    ·simp[a,c]
    ·have:p.length<asm.length:=by omega
     have d:0<p.length:=by omega
     simp[a,c,this,d]
  ·by_cases a:p.length=0
   ·simp[a]
   ·by_cases c:p.length=asm.length
    ·simp[a,c]
    ·simp[a,c];intro j;omega
end
section
variable {set:TSet} {ts asm:List aP}
def Uo(hS:SetOk set)(hA:dF set ts)t(hV:jT (set,ts,t)=some true)(hV':kf (set,ts,t)=some true)(hasm:asm.length<=2000000)(s1 s2:List aP)(h1:s1.length<=2000000)(h2:s2.length<=2000000):
  ∃b,wm (s1,s2) (set,ts,t) asm=some b/\yM (set,ts,t) s1 s2 asm=some b:=by
 unfold wm yM;simp only;by_cases n:s1.length=0
 ·rw[Ϥ (show(s1.length:Int)=0 by omega)];exact⟨false,rfl,rfl⟩
 ·rw[Ϣ (show ¬(s1.length:Int)=0 by omega)];simp only[aq,ϟ];by_cases u:s2.length=0
  ·rw[Ϥ (show(s2.length:Int)=0 by omega)];exact⟨false,rfl,rfl⟩
  ·rw[Ϣ (show ¬(s2.length:Int)=0 by omega)];simp only[aq,ϟ];obtain⟨b,b1,b2,_⟩:=OY hS hA t hV hV' hasm s1 h1;rw[b1,b2];simp only[gy];cases b with
   | false=>exact⟨false,rfl,rfl⟩
   | true=>
    obtain⟨r,f,a,_⟩:=Gc hS hA t hV hV' s2 h2;obtain⟨x,m,_⟩:=zY (l:=s1) (i:=(s1.length:Int) - 1) om om;obtain⟨y,d,_⟩:=zY (l:=s2) (i:=(s2.length:Int) - 1) om om;have c:aB ((s1.length:Int) - 1)=(s1.length:Int) - 1:=zt om om;have j:aB ((s2.length:Int) - 1)=(s2.length:Int) - 1:=zt om om;unfold rH sO AP;simp only[av,aq,ϟ,c,j];rw[f,a];simp only[gy,m,d];refine⟨if r.2.2=0 then(if x.1=y.1 then !(x.2=y.2:Ϛ)else false)else false,?_,?_⟩<;>rw[mr]<;>by_cases h:r.2.2=0<;>by_cases k:x.1=y.1<;>simp[h,k]
def zxv(hT:Tame set)(hts:ts.length<=1048576)t(hasm:asm.length<=1048576)(pf:fO)(h1:pf.2.1.length<=1048576)(h2:pf.2.2.1.length<=1048576)(h3:pf.2.2.2.1.length<=1048576):
  ∃r,nH (set,ts,t) asm pf=some r/\Ag (set,ts,t) asm pf=some r:=by
 obtain⟨v,x,y,F⟩:=yZ hT hts t;unfold nH Ag Ak Fu;rw[x,y];simp only[gy];cases v with
 | false=>exact⟨1,rfl,rfl⟩
 | true=>
  obtain⟨hS,hA⟩:=F rfl;obtain⟨b,b1,b2⟩:=Fq set hT asm om;obtain⟨c,c1,c2⟩:=Pg set hT asm om;have B:b=c:=by
   rw[ao,b2,c2];exact⟨λh=>h.2,λh=>⟨hS,h⟩⟩
  subst B;rw[b1,c1];simp only[gy,av,aq,ϟ];cases b with
  | false=>exact⟨1,rfl,rfl⟩
  | true=>
   have d:=(b2.1 rfl).2;obtain⟨a,a1,a2,a3⟩:=FU set hT;have N:a=true:=a3.2 hS;subst N;have u:qw set asm=some 0:=by
    unfold qw;rw[a2];simp only[gy,av,aq,ϟ];rw[c1];rfl
   simp only[na,yO,av,aq,ϟ,gy,Ϟ,gS,hP];by_cases w:1<=pf.1/\pf.1<=6
   ·rw[Ϥ w];simp only[av,aq,ϟ];obtain⟨f,H,M⟩:=QW pf w;rw[H,M];simp only[gy];cases f with
    | false=>exact⟨10,rfl,rfl⟩
    | true=>
     have key:∃r,kW (set,ts,t) asm pf=some r/\AI (set,ts,t) asm pf=some r:=by
      obtain⟨k,m,s2,I,fl⟩:=pf;simp only at w h1 h2 h3;have E:k=1\/k=2\/k=3\/k=4\/k=5\/k=6:=by omega
      unfold kW AI;obtain⟨l,l1,l2,J⟩:=OY hS hA t x y (asm:=asm) om m om;rcases E with rfl | rfl | rfl | rfl | rfl | rfl
      ·refine⟨l,(by simpa using l1),?_⟩;simp[l2]
      ·show ∃r,wk m (set,ts,t) asm=some r/\(kM (set,ts,t) m asm>>=λC=>if C then(qe (set,ts,t) asm>>=λD=>some<|((D.length:Int)=0:Ϛ))else(some false))=some r;unfold wk;rw[l1,l2];simp only[gy];cases l with
       | false=>exact⟨false,rfl,rfl⟩
       | true=>
        obtain⟨n,O,P⟩:=Tv hS d ts t;obtain⟨out,o1,o2,_⟩:=NW hS (gG d) ts t;rw[Ϙ rfl,Ϙ rfl,AO hS d ts t,o1];simp only[gy];rw[O];refine⟨_,rfl,?_⟩;congr 1;rw[decide_eq_decide];rw[P,IG,←o2];constructor
        ·intro h;exact bl om
        ·rintro rfl;rfl
      ·show ∃r,wE m (set,ts,t) asm=some r/\(kM (set,ts,t) m asm>>=λz=>if !z then(some false)else(uk (set,ts,t) m>>=λA=>some<|(A.1=0:Ϛ)))=some r;unfold wE;rw[l1,l2];simp only[gy];cases l with
       | false=>exact⟨false,rfl,rfl⟩
       | true=>
        obtain⟨L,G,_⟩:=J rfl;obtain⟨r,i,j⟩:=R_ hS hA L G x y;rw[i,j];exact⟨_,rfl,rfl⟩
      ·obtain⟨r,i,j⟩:=Uo hS hA t x y (asm:=asm) om m s2 om om;refine⟨r,i,?_⟩;simp[j]
      ·obtain⟨r,i,j⟩:=RN hS d b1 u t (s0:=ts) fl;refine⟨r,i,?_⟩;simp[j]
      ·obtain⟨r,i,j⟩:=Vi hS d b1 t (s0:=ts) I om;refine⟨r,i,?_⟩;simp[j]
     obtain⟨r,i,j⟩:=key;simp only[av,aq,ϟ,Ϡ];rw[i,j];cases r<;>exact⟨_,rfl,rfl⟩
   ·rw[Ϣ w];exact⟨2,rfl,rfl⟩
end
def ra{e:Type}(l:List e)(h:l.length<=2000000)(F:Int->Option (Int ⊕ (Unit ⊕ Bool)))(h1:∀(i:Nat) x,l[i]?=some x->F (i:Int)=some (.inl (aB ((i:Int)+1))))(hs:F (l.length:Int)=some (.inr (.inl ()))):iter F 0=some (.inl ()):=by
 rcases IW h rfl F (λi x b _=>h1 i x b) (λi x y b c a=>x4 (A5<|b.symm.trans c) a) hs with⟨d,_⟩ |⟨_,hn⟩
 ·exact d
 ·exact x4 rfl hn
def Dg(l:List Int)(h:l.length<=2000000):qB l l=some true:=by
 unfold qB Mj;rw[ϙ si,ra l h (yd l l) (λi x a=>by unfold yd;rw[Ϙ (by have:=zz a;simp;omega)];simp[zr a]) (by unfold yd;rw[ϙ si])];rfl
def TX(l:List (List Int))(h:l.length<=2000000)(hr:∀x∈l,x.length<=2000000):AF l l=some true:=by
 unfold AF La;rw[ϙ si,ra l h (xF l l) (λi x a=>by unfold xF;rw[Ϙ (by have:=zz a;simp;omega)];simp[zr a,Dg x<|hr x<|fe a]) (by unfold xF;rw[ϙ si])];rfl
def TY(l:List ((List UInt8)×Int))(h:l.length<=2000000):Bb l l=some true:=by
 unfold Bb MG;rw[ϙ si,ra l h (xQ l l) (λi x a=>by unfold xQ FN;rw[Ϙ (by have:=zz a;simp;omega)];simp[zr a]) (by unfold xQ;rw[ϙ si])];rfl
def TW(l:List ((List UInt8)×List Int))(h:l.length<=2000000)(hr:∀x∈l,x.2.length<=2000000):Ba l l=some true:=by
 unfold Ba ME;rw[ϙ si,ra l h (xP l l) (λi x a=>by unfold xP FM;rw[Ϙ (by have:=zz a;simp;omega)];simp[zr a,Dg x.2<|hr x<|fe a]) (by unfold xP;rw[ϙ si])];rfl
def Pl(l:List aP)(h:l.length<=2000000):AE l l=some true:=by
 unfold AE KY;rw[ϙ si,ra l h (xD l l) (λi x a=>by unfold xD FA uC;rw[Ϙ (by have:=zz a;simp;omega)];simp[zr a]) (by unfold xD;rw[ϙ si])];rfl
def Pm(l:List aP)(h:l.length<=2000000):tZ l l=some true:=by
 unfold tZ K_;rw[ϙ si,ra l h (xE l l) (λi x a=>by unfold xE FB uC;rw[Ϙ (by have:=zz a;simp;omega)];simp[zr a]) (by unfold xE;rw[ϙ si])];rfl
abbrev En:=(List UInt8)×Sy×List aP×fO
def ES(p:En):Prop:=p.1.length<=1048576/\Tame p.2.1.1/\p.2.1.2.1.length<=1048576/\p.2.2.1.length<=1048576/\p.2.2.2.2.1.length<=1048576/\p.2.2.2.2.2.1.length<=1048576/\p.2.2.2.2.2.2.1.length<=1048576/\p.2.2.2.2.2.2.2.length<=1048576/\∀x∈p.2.2.2.2.2.2.2,x.length<=1048576
def zyZ{p}(h:ES p):uD p p=some true:=by
 obtain⟨n,d,v,m,u,i,r,l,c⟩:=h;obtain⟨k,j,w,f,b⟩:=d;unfold uD Fz Fm Ah FD;rw[TY _ om,TW _ om (λx a=>by have:=b x a;omega),Pl _ om,Pl _ om,Pm _ om,Pm _ om,Dg _ om,TX _ om (λx a=>by have:=c x a;omega)];simp
def Qc{ts asm:List aP}{set}(hT:Tame set)(hts:ts.length<=1048576)t(hasm:asm.length<=1048576)(pf:fO)(h:nH (set,ts,t) asm pf=some 0):
  SetOk set/\dF set ts/\dF set asm/\1<=pf.1/\pf.1<=6:=by
 obtain⟨v,f,i,d⟩:=yZ hT hts t;unfold nH Ak at h;rw[f]at h;simp only[gy]at h;cases v with
 | false=>simp[na]at h
 | true=>
  obtain⟨hS,hA⟩:=d rfl;obtain⟨b,b1,b2⟩:=Fq set hT asm om;rw[b1]at h;simp only[gy,av,aq,ϟ]at h;cases b with
  | false=>simp[na]at h
  | true=>
   have c:=(b2.1 rfl).2;simp only[na,av,aq,ϟ,gy,Ϟ,gS]at h;by_cases a:1<=pf.1/\pf.1<=6
   ·exact⟨hS,hA,c,a.1,a.2⟩
   ·rw[Ϣ a]at h;simp at h
def zxf{p}(h:ES p):∃r,tF p=some r/\AH p=some r/\(r=true->mq p.1/\SetOk p.2.1.1/\dF p.2.1.1 p.2.1.2.1/\dF p.2.1.1 p.2.2.1/\1<=p.2.2.2.1/\p.2.2.2.1<=6):=by
 obtain⟨v,c,d,a,k,f,j,u,n⟩:=h;obtain⟨nm,⟨set,ts,t⟩,asm,l⟩:=p;simp only at v c d a k f j u n;obtain⟨b,b1,b2,b3⟩:=ki nm om;obtain⟨r,i,m⟩:=zxv c d t a l k f j;unfold tF AH;simp only;rw[b1,b2];simp only[gy];cases b with
 | false=>exact⟨false,rfl,rfl,C8⟩
 | true=>
  rw[i,m];refine⟨_,rfl,rfl,λh=>?_⟩;have w:r=0:=϶ h
  subst w;exact⟨b3.1 rfl,Qc c d t a l i⟩
end Go.Lf
namespace Go.Lf
open Go
end Go.Lf
namespace Go.Lf
open Go Go.Lib
def qN{u}(h:u<10):decDigits u=[UInt8.ofNat (48+u)]:=by rw[decDigits,dif_pos h]
def vj{u}(h:¬u<10):decDigits u=decDigits (u / 10)++[UInt8.ofNat (48+u % 10)]:=by rw[decDigits,dif_neg h]
def mb{k}(h:k<256):(UInt8.ofNat k).toNat=k:=by
 simp[UInt8.toNat_ofNat'];omega
def Gq u:∀c∈decDigits u,48<=c.toNat/\c.toNat<=57:=by
 induction u using Nat.strongRecOn with
 | _ u ih=>
  intro c a;by_cases h:u<10
  ·rw[qN h,fh]at a;rw[a,mb om];omega
  ·rw[vj h]at a;rcases er.1 a with a | a
   ·exact ih (u / 10) om c a
   ·rw[fh]at a;rw[a,mb om];omega
def CS u:decDigits u≠[]:=by
 by_cases h:u<10
 ·rw[qN h];simp
 ·rw[vj h];simp
def G_ u(h:u<=1000000000):(decDigits u).length<=10:=by
 rw[decDigits_length];rcases gj 10 (nDigits u)with hl | hl
 ·have d:10 ^ 10<=u:=by
   have:∀(k v:Nat),k<nDigits v->1<=k->10 ^ k<=v:=by
    intro k
    induction k with
    | zero=>intro v _ h;omega
    | succ k ih=>
     intro v c _;by_cases b:v<10
     ·rw[nDigits_small b]at c;omega
     ·rw[nDigits_big b]at c;by_cases a:k=0
      ·subst a;simp;omega
      ·have:=ih (v / 10) om om;rw[Nat.pow_succ];omega
   exact this 10 u hl om
  omega
 ·exact hl
def Qv u(hu:u<=1000000000):∀r,parseUintM 18446744073709551615 0 (decDigits u++r)=parseUintM 18446744073709551615 u r:=by
 induction u using Nat.strongRecOn with
 | _ u ih=>
  intro r;by_cases h:u<10
  ·rw[qN h];show parseUintM _ 0 (UInt8.ofNat (48+u)::r)=_;rw[parseUintM,mb om,Ϙ om,ϙ om,ϙ om];exact v8
  ·rw[vj h,bf,ih (u / 10) om om];show parseUintM _ (u / 10) (UInt8.ofNat (48+u % 10)::r)=_;rw[parseUintM,mb om,Ϙ om,ϙ om,ϙ om];exact v8
def Gd n(h0 : -1000000000<=n)(h1:n<=1000000000):parseIntB 64 (itoa n)=.ok n:=by
 have h:∀u:Nat,u<=1000000000->parseUintB 64 (decDigits u)=.ok u:=by
  intro u j;unfold parseUintB;rw[ϙ<|CS u];have:=Qv u j [];rw[bg]at this;have e:(2 ^ 64 - 1:Nat)=18446744073709551615:=by decide
  rw[e,this];rfl
 unfold itoa;by_cases i:n<0
 ·rw[Ϙ i];unfold parseIntB;have b:((45:UInt8).toNat)=45:=rfl;simp only[b];rw[Ϙ<|.inr trivial,h n.natAbs om];simp only[Ϡ,not_true,false_and,ϟ,true_and];rw[ϙ om];exact v8
 ·rw[ϙ i];have hd:=Gq n.toNat;have hm:=h n.toNat om;have a:=CS n.toNat;cases hl:decDigits n.toNat with
  | nil=>exact x4 hl a
  | cons c r=>
   rw[hl]at hd hm;have k:=hd c List.mem_cons_self;unfold parseIntB;have d:¬c.toNat=45:=by omega
   have f:¬c.toNat=43:=by omega
   simp only[f,d,or_self,ϟ,hm,not_false_eq_true,true_and,false_and];rw[ϙ om];exact v8
def Hh n(h0 : -1000000000<=n)(h1:n<=1000000000):1<=(itoa n).length/\(itoa n).length<=11:=by
 unfold itoa;by_cases a:n<0
 ·rw[Ϙ a];have:=G_ n.natAbs om;simp;omega
 ·rw[ϙ a];have:=G_ n.toNat om;have b:=ϥ.2<|CS n.toNat;omega
def RdOk(s:List UInt8)(r:Int×Bool):Prop:=(r=(0,false)/\∀n:Int,-1000000000<=n->n<=1000000000->itoa n≠s)\/∃n:Int,r=(n,true) /\ -1000000000<=n/\n<=1000000000/\itoa n=s
def RdOk.uniq{s r r'}(h:RdOk s r)(h':RdOk s r'):r=r':=by
 rcases h with⟨rfl,c⟩ |⟨n,rfl,c,h2,h3⟩<;>rcases h' with⟨rfl,d⟩ |⟨m,rfl,d,h5,h6⟩
 ·rfl
 ·exact x4 h6<|c m d h5
 ·exact x4 h3<|d n c h2
 ·have a:=Gd n c h2;have b:=Gd m d h5;rw[h3]at a;rw[h6,a]at b;injection b with b
  rw[b]
def Zi(s:List UInt8)(hl:s.length<=1000000):∃r,jU s=some r/\RdOk s r:=by
 unfold jU yJ;rw[Ϙ ⟨rfl,rfl,by omega⟩];have c:(∀v,parseIntB 64 s=.ok v->¬(-1000000000<=v/\v<=1000000000/\itoa v=s))->RdOk s (0,false):=λj=>
  .inl ⟨rfl,λn i b e=>by
   have:=Gd n i b;rw[e]at this;exact j n this ⟨i,b,e⟩⟩
 cases hp:parseIntB 64 s with
 | ok v=>
  simp only[gy,Er.isNil,av,aq,ϟ,gS];unfold FH yt sG;simp only[Ϡ,gy];by_cases b : -1000000000<=v/\v<=1000000000
  ·by_cases d:itoa v=s
   ·refine⟨(v,true),by simp[b,d],.inr ⟨v,rfl,b.1,b.2,d⟩⟩
   ·refine⟨(0,false),by simp[b,d],c λw a=>?_⟩;rw[hp]at a;injection a with a;subst a
    exact λh=>d h.2.2
  ·refine⟨(0,false),by simp only[b,ϡ];rfl,c λw a=>?_⟩;rw[hp]at a;injection a with a;subst a
   exact λh=>b ⟨h.1,h.2.1⟩
 | _=>exact⟨_,rfl,c λv f=>by rw[hp]at f;cases f⟩
def zxh:∀(u:Nat)(m:Int)(out:List UInt8),m.natAbs=u->out.length+u<=1000000000000->
  iter sY (out,m)=some ((if m=0 then[]else decDigits u)++out):=by
 intro u
 induction u using Nat.strongRecOn with
 | _ u ih=>
  intro m out hm hlen;have j:(m=(u:Int)/\Int.tdiv m 10=((u / 10:Nat):Int)/\Int.tmod m 10=((u % 10:Nat):Int))\/(m = -(u:Int)/\Int.tdiv m 10 = -((u / 10:Nat):Int)/\Int.tmod m 10 = -((u % 10:Nat):Int)):=by
   rcases Ϲ m 0 with h | h
   ·have e:m = -(u:Int):=by omega
    refine .inr ⟨e,?_,?_⟩
    ·rw[e,Int.neg_tdiv];rfl
    ·rw[e,Int.neg_tmod];rfl
   ·have e:m=(u:Int):=by omega
    refine .inl ⟨e,?_,?_⟩
    ·rw[e];rfl
    ·rw[e];rfl
  by_cases i:m=0
  ·rw[Ϙ i];apply zq;unfold sY;simp[i]
  ·rw[ϙ i];have a:sY (out,m)=some (.inl (UInt8.ofNat (48+u % 10)::out,Int.tdiv m 10)):=by
    unfold sY Af;have b:aB (Int.tdiv m 10)=Int.tdiv m 10:=zt om om;have f:∀d:Int,d=((u % 10:Nat):Int)->(dO (f_ [IntKind.wrap .u8<|aB (48+d)]) out)=some (UInt8.ofNat (48+u % 10)::out):=by
     intro d hd;have n:aB (48+d)=48+d:=zt om om;have r:IntKind.wrap .u8 (48+d)=48+d:=by
      show(48+d) % 256=48+d;omega
     rw[n,r];unfold dO f_;rw[Ϙ so];simp only[ep,List.map_nil,ϰ,fi];congr 3;omega
    simp only[i,ϡ,ϵ,Ϡ];by_cases l:Int.tmod m 10<0
    ·rw[Ϙ (by simpa using l)];have e:aB (0 - Int.tmod m 10)=((u % 10:Nat):Int):=by
      rw[zt om om];omega
     rw[e,f _ rfl];simp only[gy,b]
    ·rw[ϙ (by simpa using l)];have e:Int.tmod m 10=((u % 10:Nat):Int):=by
      omega
     rw[e,f _ rfl];simp only[gy,b]
   rw[zp a];have v:u≠0:=by omega
   have c:(Int.tdiv m 10).natAbs=u / 10:=by omega
   rw[ih (u / 10) om _ _ c so];congr 1;by_cases hs:u<10
   ·have k:Int.tdiv m 10=0:=by omega
    rw[Ϙ k,qN hs,fi];have:u % 10=u:=by omega
    rw[this];rfl
   ·have k:¬Int.tdiv m 10=0:=by omega
    rw[ϙ k,vj hs,bf];rfl
def zyh n(h0 : -1000000000<=n)(h1:n<=1000000000):AZ n=some (itoa n):=by
 unfold AZ MB;rw[zxh n.natAbs n [] rfl so];simp only[gy,bg];unfold itoa;by_cases b:n=0
 ·subst b;rw[Ϙ si,ϙ om];have:decDigits (Int.toNat 0)=[48]:=qN (u:=0) om;rw[this]
 ·rw[ϙ (by simp[b]),ϙ b];by_cases a:n<0
  ·rw[Ϙ (by simp[a]),Ϙ a];have:=G_ n.natAbs om;unfold dO;rw[Ϙ so];rfl
  ·rw[ϙ (by simp[a]),ϙ a];congr 2;omega
def jj(c:UInt8):Prop:=48<=c.toNat/\c.toNat<=57
instance(c:UInt8):Decidable (jj c):=by unfold jj;infer_instance
def rd:Int->List UInt8->Option Int
 | acc,[]=>some acc
 | acc,c::r=>if jj c then rd (10*acc+((c.toNat:Int) - 48)) r else none
def Cv u:∀r,rd 0 (decDigits u++r)=rd u r:=by
 induction u using Nat.strongRecOn with
 | _ u ih=>
  intro r;by_cases h:u<10
  ·rw[qN h];show rd 0 (UInt8.ofNat (48+u)::r)=_;exact R7
  ·rw[vj h,bf,ih (u / 10) om];show rd _ (UInt8.ofNat (48+u % 10)::r)=_;exact R7
def Nc(s:List UInt8)(hs:s.length<=11):∀(d i:Nat)(a:Int),i+d=s.length->(i=0->∀c,s[0]?=some c->c.toNat≠45)->0<=a->a<(10 ^ i:Nat)->
  iter (lO s) (a,(i:Int))=some (match rd a (s.drop i)with | some v=>.inl v | none=>.inr (0,false)):=by
 intro d
 induction d with
 | zero=>
  intro i a hi _ _ _;have:i=s.length:=by omega
  subst this;rw[List.drop_length];apply zq;unfold lO;rw[ϙ si];rfl
 | succ d ih=>
  intro i a hi m B x;have hlt:i<s.length:=by omega
  have r:s[i]?=some s[i]:=cn hlt;have f:s.drop i=s[i]::s.drop (i+1):=bi hlt;have k:aB ((i:Int)+1)=((i+1:Nat):Int):=ψ
  have w:(10 ^ i:Nat)<=10 ^ 10:=Nat.pow_le_pow_right om om;have z:(10 ^ 10:Nat)=10000000000:=by decide
  have j:lO s (a,(i:Int))=nk s (a,(i:Int)) false:=by
   unfold lO;rw[Ϙ (by simp[hlt])];by_cases y:i=0
   ·subst y;have:=m rfl _ r;have l:¬((s[0].toNat:Int)=45):=by omega
    rw[Ϙ si];simp only[zr r,gy,l,ϡ]
   ·rw[ϙ so]
  have b:nk s (a,(i:Int)) false=if jj s[i]then some (.inl (10*a+((s[i].toNat:Int) - 48),((i+1:Nat):Int)))else some (.inr<|.inr (0,false)):=by
   unfold nk sw;rw[ϙ si];simp only[zr r,gy,Gj,k];by_cases hd:jj s[i]
   ·have h:iq s[i]=true:=by unfold jj at hd;unfold iq;simp;omega
    have u:=hd;unfold jj at u;rw[Ϙ hd,h,ϙ si];have C:IntKind.wrap .u8 ((s[i].toNat:Int) - 48)=(s[i].toNat:Int) - 48:=by
     show((s[i].toNat:Int) - 48) % 256=(s[i].toNat:Int) - 48;omega
    have A:aB ((s[i].toNat:Int) - 48)=(s[i].toNat:Int) - 48:=zt om om;have D:aB (10*a)=10*a:=zt om om;have E:aB (10*a+((s[i].toNat:Int) - 48))=10*a+((s[i].toNat:Int) - 48):=zt om om;rw[C,A,D,E]
   ·have h:iq s[i]=false:=by unfold jj at hd;unfold iq;simp;omega
    rw[ϙ hd,h,Ϙ si]
  rw[f,rd];by_cases hd:jj s[i]
  ·rw[Ϙ hd]at b ⊢;rw[zp<|j.trans b];unfold jj at hd;have n:(10 ^ (i+1):Nat)=10*10 ^ i:=by rw[Nat.pow_succ];omega
   refine ih (i+1) _ om om om (by rw[n];omega)
  ·rw[ϙ hd]at b ⊢;rw[zq<|j.trans b]
def Zo(s:List UInt8)(hl:s.length<=1000000):∃r,jS s=some r/\RdOk s r:=by
 unfold jS xo;by_cases j:s.length<1
 ·rw[Ϙ so,Ϙ rfl];exact⟨_,rfl,.inl ⟨rfl,λn f C e=>by have:=Hh n f C;rw[e]at this;omega⟩⟩
 rw[ϙ so];by_cases C:s.length>11
 ·rw[Ϙ so];exact⟨_,rfl,.inl ⟨rfl,λn f I e=>by have:=Hh n f I;rw[e]at this;omega⟩⟩
 rw[ϙ so];cases hs:s with
 | nil=>rw[hs]at j;simp at j
 | cons c r=>
  have F:idx (c::r) 0=some c:=zr (i:=0) rfl;have H:r.length<=10:=by rw[hs]at C;simp at C;omega
  have A:∀(v m:Int)(l:Bool),(if l=true then aB (0 - v)=m else v=m)->((c.toNat:Int)=45↔l=true)->(∀n:Int,-1000000000<=n->n<=1000000000->itoa n=c::r->n=m)->
    ∃r',Ee (c::r) v=some r'/\RdOk (c::r) r':=by
   intro v m l D b w;have u:∃r',sA (c::r) m=some r'/\RdOk (c::r) r':=by
    unfold sA xn;rw[hP];simp only[gy];by_cases hm : -1000000000<=m/\m<=1000000000
    ·rw[ϙ (by simp[hm]),zyh m hm.1 hm.2];simp only[gy];by_cases E:itoa m=c::r
     ·rw[ϙ (by simp[E])];exact⟨_,rfl,.inr ⟨m,rfl,hm.1,hm.2,E⟩⟩
     ·rw[Ϙ (by simp[E])];exact⟨_,rfl,.inl ⟨rfl,λn f j e=>E (by rw[←w n f j e];exact e)⟩⟩
    ·rw[Ϙ (by simp only[hm,ϡ];rfl),Ϙ trivial];exact⟨_,rfl,.inl ⟨rfl,λn f j e=>hm (by rw[←w n f j e];exact⟨f,j⟩)⟩⟩
   unfold Ee;simp only[F,gy];cases l with
   | true=>
    rw[Ϙ (by simpa using b.2 rfl)];rw[Ϙ rfl]at D;rw[D];exact u
   | false=>
    rw[ϙ (by intro h;have:=b.1 (by simpa using h);cases this)];rw[ϙ si]at D;rw[D];exact u
  by_cases b:(c.toNat:Int)=45
  ·have G:c=45:=by
    apply UInt8.toNat_inj.1;show c.toNat=45;omega
   have x:lO (c::r) (0,0)=some (.inl (0,((1:Nat):Int))):=by
    unfold lO nk sw;rw[Ϙ si,Ϙ si];simp only[F,gy,b,Ϟ,Ϡ];rfl
   have d:=Nc (c::r) so r.length 1 0 so om om si;rw[zp x,d];have y:(c::r).drop 1=r:=rfl;rw[y];have a:∀n:Int,-1000000000<=n->n<=1000000000->itoa n=c::r->n<0/\r=decDigits n.natAbs:=by
    intro n f j e;unfold itoa at e;by_cases k:n<0
    ·rw[Ϙ k]at e;injection e with _ e
     exact⟨k,e.symm⟩
    ·rw[ϙ k]at e;have:=Gq n.toNat c (by rw[e];exact List.mem_cons_self);omega
   cases hrd:rd 0 r with
   | none=>
    refine⟨(0,false),rfl,.inl ⟨rfl,λn f j e=>?_⟩⟩;obtain⟨k,z⟩:=a n f j e;have:=Cv n.natAbs [];rw[bg,←z,hrd]at this;cases this
   | some v=>
    refine A v (aB<|0 - v) true si (by simp[b]) λn f j e=>?_;obtain⟨k,z⟩:=a n f j e;have:=Cv n.natAbs [];rw[bg,←z,hrd]at this;injection this with this
    rw[zt om om];omega
  ·have d:=Nc (c::r) so (r.length+1) 0 0 si (λ_ c' B=>by
    simp at B;subst B;omega) om si
   have d:iter (lO (c::r)) (0,0)=_:=d;rw[d,List.drop_zero];have a:∀n:Int,-1000000000<=n->n<=1000000000->itoa n=c::r->¬n<0/\c::r=decDigits n.toNat:=by
    intro n f j e;unfold itoa at e;by_cases k:n<0
    ·rw[Ϙ k]at e;injection e with e _
     rw[←e]at b;exact x4 rfl b
    ·rw[ϙ k]at e;exact⟨k,e.symm⟩
   cases hrd:rd 0 (c::r)with
   | none=>
    refine⟨(0,false),rfl,.inl ⟨rfl,λn f j e=>?_⟩⟩;obtain⟨k,z⟩:=a n f j e;have:=Cv n.toNat [];rw[bg,←z,hrd]at this;cases this
   | some v=>
    refine A v v false si (by simp[b]) λn f j e=>?_;obtain⟨k,z⟩:=a n f j e;have:=Cv n.toNat [];rw[bg,←z,hrd]at this;injection this with this
    rw[this];show n=((n.toNat:Nat):Int);omega
def lV(s:List UInt8)(hl:s.length<=1000000):∃r,jU s=some r/\jS s=some r/\RdOk s r:=by
 obtain⟨r,c,a⟩:=Zi s hl;obtain⟨f,d,b⟩:=Zo s hl;obtain rfl:=a.uniq b;exact⟨r,c,d,a⟩
def qR{a:Type}{s:List a}{k}(h:k<=s.length):bB s (k:Int) (s.length:Int)=some (s.drop k):=by
 unfold bB;exact K8
def Pe{a:Type}{s:List a}{k}(h:k<=s.length):bB s 0 (k:Int)=some (s.take k):=by
 unfold bB;exact K8
def HQ{b:Type}(a r:List b)(c:b):(a++c::r).drop (a.length+1)=r:=by
 rw[←List.drop_drop,List.drop_left];rfl
def QL{b:Type}(a r:List b)(c:b):(a++c::r).take (a.length+1)=a++[c]:=by
 rw[show a++c::r=(a++[c])++r by simp,show a.length+1=(a++[c]).length by simp,List.take_left]
def BH:∀(s:List UInt8)(c:UInt8),(indexByte s c = -1/\c∉s)\/∃a r,s=a++c::r/\c∉a/\indexByte s c=(a.length:Int)
 |[],c=>.inl ⟨by unfold indexByte;rfl,by simp⟩
 | b::l,c=>by
  by_cases h:b=c
  ·refine .inr ⟨[],l,by simp[h],by simp,?_⟩;unfold indexByte;simp[h]
  ·rcases BH l c with⟨d,f⟩ |⟨a,r,d,f,h3⟩
   ·refine .inl ⟨?_,by simp[f];exact B6 h⟩;unfold indexByte;simp[h,d]
   ·refine .inr ⟨b::a,r,by simp[d],by simp[f];exact B6 h,?_⟩;unfold indexByte;simp[h,h3]
def dE(b:UInt8):List UInt8->List UInt8->List (List UInt8)
 |[],cur=>[cur]
 | c::l,cur=>if c=b then cur::dE b l []else dE b l (cur++[c])
def Gi(b:UInt8):∀(a r cur:List UInt8),b∉a->dE b (a++r) cur=dE b r (cur++a)
 |[],r,cur,_=>by simp
 | c::a,r,cur,h=>by
  simp only[ey,not_or]at h;rw[ϰ,dE,ϙ (λe=>h.1 e.symm),Gi b a r _ h.2];simp
def Nn{b s}cur(h:b∉s):dE b s cur=[cur++s]:=by
 have:=Gi b s [] cur h;rw[bg]at this;rw[this,dE]
def Nl{b a r}cur(h:b∉a):dE b (a++b::r) cur=(cur++a)::dE b r []:=by
 rw[Gi b a _ cur h,dE,Ϙ rfl]
def Bx(b:UInt8):∀(s cur:List UInt8),1<=(dE b s cur).length
 |[],cur=>by simp[dE]
 | c::l,cur=>by
  rw[dE];split
  ·simp
  ·exact Bx b l _
def ML{a:Type}{s:List a}{c:a}{i k}(h:s[i]?=some c)(hk:k<=i):(s.take (i+1)).drop k=(s.take i).drop k++[c]:=by
 have:=zz h;rw[kg h,List.drop_append_of_le_length (by rw[ef];omega)]
def Qh(s:List UInt8)(hs:s.length<=1000000)(b:UInt8):∀(d i h:Nat)(out:List (List UInt8)),i+d=s.length->h<=i->out.length<=i->
  ∃(a:List (List UInt8))(f:Nat),iter (lR s (b.toNat:Int)) (out,(h:Int),(i:Int))=some (a,(f:Int))/\f<=s.length/\a.length<=s.length/\a++[s.drop f]=out++dE b (s.drop i) ((s.take i).drop h):=by
 intro d
 induction d with
 | zero=>
  intro i h out hi r A;have:i=s.length:=by omega
  subst this;refine⟨out,h,zq ?_,r,A,?_⟩
  ·unfold lR;rw[ϙ si]
  ·rw[List.drop_length,fv,dE]
 | succ d ih=>
  intro i h out hi r A;have hlt:i<s.length:=by omega
  have z:s[i]?=some s[i]:=cn hlt;have j:s.drop i=s[i]::s.drop (i+1):=bi hlt;have k:aB ((i:Int)+1)=((i+1:Nat):Int):=ψ
  by_cases n:s[i]=b
  ·have c:lR s (b.toNat:Int) (out,(h:Int),(i:Int))=some (.inl (out++[(s.take i).drop h],((i+1:Nat):Int),((i+1:Nat):Int))):=by
    unfold lR tc;have m:bB s (h:Int) (i:Int)=some ((s.take i).drop h):=J7
    rw[Ϙ (by simp[hlt])];simp only[zr z,gy,n,Ϟ,Ϡ,m,k,zO (bytes:=16) (l:=out) (l2:=[(s.take i).drop h]) so so]
   rw[zp c];obtain⟨a,f,x,v,y,w⟩:=ih (i+1) (i+1) (out++[(s.take i).drop h]) om (gd _) so;refine⟨a,f,x,v,y,?_⟩;rw[w,j,dE,Ϙ n];have:(s.take (i+1)).drop (i+1)=[]:=List.drop_eq_nil_of_le A2;rw[this];simp
  ·have u:¬((s[i].toNat:Int)=(b.toNat:Int)):=λe=>n<|UInt8.toNat_inj.1 om;have c:lR s (b.toNat:Int) (out,(h:Int),(i:Int))=some (.inl (out,(h:Int),((i+1:Nat):Int))):=by
    unfold lR tc;rw[Ϙ (by simp[hlt])];simp only[zr z,gy,u,ϡ,k];rfl
   rw[zp c];obtain⟨a,f,x,v,y,w⟩:=ih (i+1) h out om om om;refine⟨a,f,x,v,y,?_⟩;rw[w,j,dE,ϙ n,ML z r]
def Pf(s:List UInt8)(hs:s.length<=1000000)(b:UInt8):nL s (b.toNat:Int)=some (dE b s []):=by
 obtain⟨c,a,f,i,j,h⟩:=Qh s hs b s.length 0 0 [] om om si;have f:iter (lR s (b.toNat:Int)) ([],0,0)=some (c,(a:Int)):=f;unfold nL LR;have d:bB s (a:Int) (s.length:Int)=some (s.drop a):=J7
 simp only[f,gy,d,zO (bytes:=16) (l:=c) (l2:=[s.drop a]) so so];rw[h];simp
def RB n:(44:UInt8)∉itoa n:=by
 unfold itoa;have hd:∀u,(44:UInt8)∉decDigits u:=λu h=>by
  have:=Gq u 44 h;have e:(44:UInt8).toNat=44:=rfl;omega
 by_cases a:n<0
 ·rw[Ϙ a];simp only[ey,not_or];exact⟨by decide,hd _⟩
 ·rw[ϙ a];exact hd _
def MY(s:List UInt8)(hs:s.length<=1000000):∃r,t_ s=some r/\ue s=some r/\(r.2=true->dD r.1=true):=by
 have l:nL s 44=some (dE 44 s []):=Pf s hs 44;unfold t_ ue FO DR Ek;simp only[l,gy];rcases BH s 44 with⟨d,m⟩ |⟨a,r,d,m,i⟩
 ·rw[Nn [] m,ϙ (by simp[d]),Ϙ si];simp only[gy];obtain⟨x,w,_,_⟩:=lV s hs;have C:jU []=some (0,false):=by
   obtain⟨y,u,_,c⟩:=lV [] si;rw[u];rcases c with⟨rfl,_⟩ |⟨n,_,n0,n1,n2⟩
   ·rfl
   ·have:=Hh n n0 n1;rw[n2]at this;simp at this
  simp only[w,C,gy];refine⟨((0,0),false),?_,rfl,λh=>by cases h⟩;unfold qb;cases x.2<;>rfl
 ·have f:a.length<=1000000/\r.length<=1000000:=by rw[d]at hs;simp at hs;omega
  rw[Ϙ (by rw[i];simp)];have A:aB (indexByte s 44+(([44]:List UInt8).length:Int))=((a.length+1:Nat):Int):=by
   rw[i];have:aB ((a.length:Int)+(([44]:List UInt8).length:Int))=(a.length:Int)+(([44]:List UInt8).length:Int):=zt so so;rw[this];simp
  have E:bB s 0 (indexByte s 44)=some a:=by
   rw[i];unfold bB;rw[Ϙ ⟨by omega,by omega,by rw[d];simp;omega⟩,d];simp
  have s2:bB s ((a.length+1:Nat):Int) (s.length:Int)=some r:=by
   rw[qR (by rw[d];simp),d,HQ]
  simp only[A,E,s2,gy];obtain⟨x,w,j,_⟩:=lV a f.1;obtain⟨y,u,v,c⟩:=lV r f.2;simp only[w,u,gy];rw[d,Nl [] m,fi];unfold qb;by_cases b:(44:UInt8)∈r
  ·rcases c with⟨rfl,_⟩ |⟨n,_,n0,n1,n2⟩
   ·have i:¬(((a::dE 44 r []).length:Int)=2):=by
     rcases BH r 44 with⟨_,D⟩ |⟨a2,r2,e,h4,_⟩
     ·exact x4 b D
     ·rw[e,Nl [] h4];have:=Bx 44 r2 [];simp only[du];omega
    simp only[i,ϡ,ϵ,Ϡ];refine⟨((0,0),false),?_,rfl,λh=>by cases h⟩;cases x.2<;>rfl
   ·rw[←n2]at b;exact x4 b<|RB n
  ·rw[Nn [] b,fi];have k:((([a,r].length:Nat):Int)=2:Ϛ)=true:=by simp
   have z:idx [a,r] 0=some a:=rfl;have B:idx [a,r] 1=some r:=rfl;unfold sQ;simp only[k,av,aq,ϟ,z,B,j,v,gy,Bt,uN];cases hx2:x.2 with
   | false=>exact⟨((0,0),false),by simp,by simp,λh=>by cases h⟩
   | true=>
    cases c:y.2 with
    | false=>exact⟨((0,0),false),by simp,by simp,λh=>by cases h⟩
    | true=>
     cases hp:dD (x.1,y.1)with
     | false=>exact⟨((0,0),false),by simp,by simp,λh=>by cases h⟩
     | true=>exact⟨((x.1,y.1),true),by simp,by simp,λ_=>hp⟩
def dJ:List UInt8->List UInt8->List (List UInt8)
 |[],cur=>if cur=[]then[]else[cur]
 | c::l,cur=>if c=10 then cur::dJ l []else dJ l (cur++[c])
def Bs:∀(a r cur:List UInt8),(10:UInt8)∉a->dJ (a++r) cur=dJ r (cur++a)
 |[],r,cur,_=>by simp
 | c::a,r,cur,h=>by
  simp only[ey,not_or]at h;rw[ϰ,dJ,ϙ (λe=>h.1 e.symm),Bs a r _ h.2];simp
def vT(w:List (List UInt8)):List (List UInt8):=if w.getLast?=some []then w.dropLast else w
def Gf:∀(s cur:List UInt8),dJ s cur=vT (dE 10 s cur)
 |[],cur=>by
  unfold dJ dE vT;by_cases h:cur=[]
  ·simp[h]
  ·simp[h]
 | c::l,cur=>by
  rw[dJ,dE];split
  ·rw[Gf l []];have hp:=Bx 10 l [];cases hw:dE 10 l []with
   | nil=>rw[hw]at hp;simp at hp
   | cons x w=>
    unfold vT;rw[List.getLast?_cons_cons,List.dropLast_cons_cons];split<;>rfl
  ·exact Gf l _
def NR(s:List UInt8)(hs:s.length<=1000000):ul s=some (dJ s []):=by
 unfold ul yT;by_cases i:s=[]
 ·rw[Ϙ (by simp[i]),i];rfl
 ·rw[ϙ (by simp[i])];have f:nL s 10=some (dE 10 s []):=Pf s hs 10;rw[f,Gf];simp only[gy];have hp:=Bx 10 s [];have hlen:∀(t cur:List UInt8),(dE 10 t cur).length<=t.length+1:=by
   intro t
   induction t with
   | nil=>intro cur;simp[dE]
   | cons c t ih=>
    intro cur;rw[dE];split
    ·have:=ih [];simp;omega
    ·have:=ih (cur++[c]);simp;omega
  have l:=hlen s [];obtain⟨w,k⟩:∃w,w=dE 10 s []:=u3;rw[←k]at hp l ⊢;have h:aB ((w.length:Int) - 1)=((w.length - 1:Nat):Int):=ψ
  have j:w[w.length - 1]?=some (w[w.length - 1]'om):=cn om;have a:w.getLast?=some (w[w.length - 1]'om):=by rw[List.getLast?_eq_getElem?];exact j
  rw[h,zr j];simp only[gy];unfold vT;rw[a];by_cases d:w[w.length - 1]'om=[]
  ·rw[Ϙ (by simp[d]),Ϙ (by rw[d])];have b:bB w 0 ((w.length - 1:Nat):Int)=some w.dropLast:=by
    unfold bB;rw[Ϙ ⟨by omega,by omega,by omega⟩];simp[List.dropLast_eq_take]
   rw[b];rfl
  ·rw[ϙ (by simp[d]),ϙ (by simpa using d)]
def SL(a:List UInt8)(h:a.length<=1000000):mZ (a++[10]) [10]=some a:=by
 unfold mZ vX wg;have b:(a++[(10:UInt8)]).length=a.length+1:=by simp
 have c:aB (((a++[(10:UInt8)]).length:Int) - (([10]:List UInt8).length:Int))=(a.length:Int):=by
  rw[b,zt si so];simp
 have d:bB (a++[(10:UInt8)]) (a.length:Int) ((a++[(10:UInt8)]).length:Int)=some [10]:=by
  rw[qR om,List.drop_left]
 have s2:bB (a++[(10:UInt8)]) 0 (a.length:Int)=some a:=by
  rw[Pe om,List.take_left]
 rw[Ϙ (by rw[b];simp;omega)];simp only[c,d,s2,gy,Ϟ,Ϡ]
def SK(a:List UInt8)(h:a.length<=1000000)(h0:a≠[])(h10:(10:UInt8)∉a):mZ a [10]=some a:=by
 unfold mZ vX wg;have hp:=ϥ.2 h0;have b:aB ((a.length:Int) - (([10]:List UInt8).length:Int))=((a.length - 1:Nat):Int):=by
  rw[zt so so];simp;omega
 have c:bB a ((a.length - 1:Nat):Int) (a.length:Int)=some (a.drop<|a.length - 1):=by
  unfold bB;exact K8
 rw[Ϙ so];simp only[b,c,gy];have:¬a.drop (a.length - 1)=[10]:=λe=>h10<|List.mem_of_mem_drop (i:=a.length - 1) (by rw[e];simp);simp[this]
def ZN:∀(m:Nat)(rest:List UInt8)(b:List (List UInt8)),rest.length=m->b.length+rest.length<=1000000->
  iter (z8 λs q0=>kE s q0) (b,rest)=some (b++dJ rest [],[]):=by
 intro m
 induction m using Nat.strongRecOn with
 | _ m ih=>
  intro rest b hm u;by_cases j:rest=[]
  ·subst j;apply zq;unfold z8;simp[dJ]
  ·have hp:=ϥ.2 j;have hi:strings_IndexByte rest 10=some (indexByte rest 10):=rfl;have d:∀(a line:List UInt8),mZ line [10]=some a->kE b line=some (b++[a]):=by
    intro a line n;unfold kE;simp only[n,gy,zO (bytes:=16) (l:=b) (l2:=[a]) so so]
   rcases BH rest 10 with⟨h,i⟩ |⟨a,r,h,i,h3⟩
   ·have c:z8 (λs q0=>kE s q0) (b,rest)=some (.inl (b++[rest],[])):=by
     unfold z8 sN;rw[Ϙ so,hi];simp only[gy];rw[ϙ (by simp[h]),d rest rest<|SK rest om j i];rfl
    have f:z8 (λs q0=>kE s q0) (b++[rest],[])=some (.inr (b++[rest],[])):=by
     unfold z8;simp
    rw[zp c,zq f];have:=Bs rest [] [] i;rw[bg]at this;rw[this,fi,dJ,ϙ j]
   ·have v:rest.length=a.length+1+r.length:=by rw[h];simp;omega
    have k:aB (indexByte rest 10+1)=((a.length+1:Nat):Int):=by rw[h3,zt om om];omega
    have w:bB rest 0 ((a.length+1:Nat):Int)=some (a++[10]):=by
     rw[Pe om,h,QL]
    have s2:bB rest ((a.length+1:Nat):Int) (rest.length:Int)=some r:=by
     rw[qR om,h,HQ]
    have c:z8 (λs q0=>kE s q0) (b,rest)=some (.inl (b++[a],r)):=by
     unfold z8 sN;rw[Ϙ so,hi];simp only[gy];rw[Ϙ (by rw[h3];simp)];simp only[k,w,s2,gy,d a _<|SL a om]
    rw[zp c,ih r.length om r _ rfl so];have:=Bs a (10::r) [] i;rw[h,this,fi,dJ,Ϙ rfl];simp
def PX(s:List UInt8)(hs:s.length<=1000000):tI s=some (dJ s []):=by
 unfold tI Fs EN Kn;simp only[gy,ZN s.length s [] rfl (by simpa using hs),fi]
def Ge:∀(s cur:List UInt8),(dJ s cur).length<=s.length+1/\∀l∈dJ s cur,l.length<=s.length+cur.length
 |[],cur=>by
  unfold dJ;split
  ·simp
  ·simp
 | c::s,cur=>by
  rw[dJ];split
  ·have:=Ge s [];refine⟨π,λl a=>?_⟩;rcases ey.1 a with rfl | a
   ·simp
   ·have:=this.2 l a;simp at this ⊢;omega
  ·have:=Ge s (cur++[c]);refine⟨π,λl a=>?_⟩;have:=this.2 l a;simp at this ⊢;omega
def ZU(s:List UInt8)(hs:s.length<=1000000):∀(d i a:Nat)(out:List (List UInt8)),i+d=s.length->a<=i->out.length<=i->
  iter (lM s) (out,(a:Int),(i:Int))=some (out++zA (s.drop i) ((s.take i).drop a)):=by
 intro d;have m:∀i:Nat,i<=s.length->aB ((i:Int)+1)=((i+1:Nat):Int):=λi hi=>ψ
 have r:∀i a:Nat,a<=i->i<=s.length->bB s (a:Int) (i:Int)=some ((s.take i).drop a):=λi a A v=>J7
 have j:∀(i a:Nat)(out:List (List UInt8)),a<=i->i<=s.length->out.length<=i->kK s (out,(a:Int),(i:Int)) true=some (.inl (out++(if(s.take i).drop a=[]then[]else[(s.take i).drop a]),((i+1:Nat):Int),((i+1:Nat):Int))):=by
  intro i a out A v E;have hlen:((s.take i).drop a).length=i - a:=by rw[dv,ef];omega
  unfold kK yS tv;rw[Ϙ rfl];by_cases z:(i:Int)>(a:Int)
  ·have k:¬(s.take i).drop a=[]:=λe=>by rw[e]at hlen;simp at hlen;omega
   rw[Ϙ (by simpa using z),ϙ k];simp only[r i a A v,gy,zO (bytes:=16) (l:=out) (l2:=[(s.take i).drop a]) so so,m i v]
  ·have D:(s.take i).drop a=[]:=List.length_eq_zero_iff.1 om;rw[ϙ (by simpa using z),Ϙ D];simp only[m i v,bg]
 induction d with
 | zero=>
  intro i a out hi w y;have:i=s.length:=by omega
  subst this;have c:lM s (out,(a:Int),(s.length:Int))=kK s (out,(a:Int),(s.length:Int)) true:=by
   unfold lM;rw[Ϙ si,Ϙ si]
  rw[zp<|c.trans<|j _ _ _ w (gd _) y];rw[zq (x:=out++(if(s.take s.length).drop a=[]then[]else[(s.take s.length).drop a])) (by
   unfold lM;rw[ϙ so])]
  rw[List.drop_length,zA]
 | succ d ih=>
  intro i a out hi w y;have hlt:i<s.length:=by omega
  have B:s[i]?=some s[i]:=cn hlt;have f:s.drop i=s[i]::s.drop (i+1):=bi hlt;have u:∀b,((s[i].toNat:Int)=32:Ϛ)=b->lM s (out,(a:Int),(i:Int))=kK s (out,(a:Int),(i:Int)) b:=by
   intro b C;unfold lM;rw[Ϙ so,ϙ so];simp only[zr B,gy,C]
  by_cases h:s[i]=32
  ·have e:((s[i].toNat:Int)=32:Ϛ)=true:=by rw[h];rfl
   rw[zp<|(u true e).trans<|j i a out w om y];rw[ih (i+1) (i+1) _ om (gd _) (by rw[dt];split<;>simp<;>omega)];have n:(s.take (i+1)).drop (i+1)=[]:=List.drop_eq_nil_of_le A2;rw[n,f,zA,Ϙ h];split
   ·simp
   ·simp
  ·have k:¬((s[i].toNat:Int)=32):=λe=>h<|UInt8.toNat_inj.1 (by show s[i].toNat=32;omega);have e:((s[i].toNat:Int)=32:Ϛ)=false:=by simp only[k,ϡ]
   have c:kK s (out,(a:Int),(i:Int)) false=some (.inl (out,(a:Int),((i+1:Nat):Int))):=by
    unfold kK tv;rw[ϙ si];simp only[m i om]
   rw[zp<|(u false e).trans c,ih (i+1) a out om om om,f,zA,ϙ h,ML B w]
def ke(s:List UInt8)(hs:s.length<=1000000):kN s=some (zA s []):=by
 have h:iter (lM s) ([],0,0)=_:=ZU s hs s.length 0 0 [] om om si;unfold kN LK;rw[h];simp
def iX(s:List UInt8)(hs:s.length<=1000000):zR s=some (zA s []):=by
 unfold zR;rw[Ϙ om]
def kS:∀(s cur:List UInt8),(32:UInt8)∉cur->(zA s cur).length<=s.length+1/\∀w∈zA s cur,w≠[]/\(32:UInt8)∉w/\w.length<=s.length+cur.length
 |[],cur,h=>by
  unfold zA;split
  ·simp
  ·rename_i h0;refine⟨by simp,λw d=>?_⟩;rw[fh.1 d];exact⟨h0,h,by simp⟩
 | c::s,cur,h=>by
  rw[zA];split
  ·have:=kS s [] si;split
   ·refine⟨π,λw d=>?_⟩;obtain⟨a,b,c⟩:=this.2 w d;exact N4
   ·rename_i h0;refine⟨π,λw d=>?_⟩;rcases ey.1 d with rfl | d
    ·exact⟨h0,h,by simp⟩
    ·obtain⟨a,b,c⟩:=this.2 w d;exact N4
  ·rename_i hc;have:=kS s (cur++[c]) (by simp[h];exact B6 hc);refine⟨π,λw d=>?_⟩;obtain⟨a,b,c⟩:=this.2 w d;exact N4
def FK:∀(a r cur:List UInt8),(32:UInt8)∉a->zA (a++r) cur=zA r (cur++a)
 |[],r,cur,_=>by simp
 | c::a,r,cur,h=>by
  simp only[ey,not_or]at h;rw[ϰ,zA,ϙ (λe=>h.1 e.symm),FK a r _ h.2];simp
def OD{a b}(ha:a≠[])(hb:b≠[])(ha2:(32:UInt8)∉a)(hb2:(32:UInt8)∉b):zA (a++[32]++b) []=[a,b]:=by
 rw[bf,FK a _ _ ha2];show zA (32::b) _=_;rw[zA,Ϙ rfl,fi,ϙ ha];have:=FK b [] [] hb2;rw[bg]at this;rw[this,fi,zA,ϙ hb]
end Go.Lf
namespace Go.Lf
open Go Go.Proofs Go.Sort
def Nb(set:TSet)s:mQ set s=il set s:=by
 unfold mQ il D_ JO EZ;have:Jv set.2 (λq0=>DG q0 s)=yc set s:=by
  funext i;rfl
 rw[this];cases iter (yc set s) 0 with
 | none=>rfl
 | some z=>cases z<;>rfl
def zyQ(set:TSet)(h:set.1.length<=100000)s:ww set s=iA set s:=by
 unfold ww Ea JP;have hs:=uT set om s;rcases kX set.1 om (λq0=>wv q0 s) (λg=>(g.1=s:Ϛ)) (λ_ _=>rfl) (Jw set.1 λq0=>wv q0 s) (λi=>rfl)with⟨d,c⟩ |⟨k,d,hk,hlow,b,hb,hq⟩
 ·rw[d];rcases hs with⟨a,_⟩ |⟨k,a,h2,h3,g,h4,h5⟩
  ·rw[a];rfl
  ·have:=c g<|fe h4;simp[h5]at this
 ·rw[d];have f:aB ((k:Int)+1)=(k:Int)+1:=zt om om;rcases hs with⟨_,a⟩ |⟨k',a,h2,h3,g,h4,h5⟩
  ·exact x4 (϶ hq)<|a b<|fe hb
  ·have:k=k':=by
    rcases gm k k' with h | h | h
    ·exact x4 (϶ hq)<|h3 k b h hb
    ·exact h
    ·have:=hlow k' g h h4;simp[h5]at this
   subst this;rw[a];simp[f]
end Go.Lf
namespace Go.Lf
open Go
structure bJ(n:Nat)(ig:List Gl)(it:List Tl)(pl:List aP)(sg:List Gl)(st:List Tl)(ts:List aP):Prop where
 g:ig=sg
 dash:(∃g∈sg,g.1=[45])\/it=st
 tn:it.map (λt=>t.1)=st.map (λt=>t.1)
 perm:ts.Perm pl
 pw:PW ts
 gl:sg.length<=n
 tl:st.length<=n
 pl5:pl.length<=500
 gn:∀x∈sg,x.1.length<=100000
 tn1:∀x∈it,x.1.length<=100000/\x.2.length=4
 tn2:∀x∈st,x.1.length<=100000/\x.2.length=4
def bJ.itl{ig it pl sg st ts}{n}(h:bJ n ig it pl sg st ts):it.length=st.length:=by
 have:=congrArg List.length h.tn;exact w8
def Qf{it st:List Tl}{a b}(h:it.map (λt=>t.1)=st.map (λt=>t.1))(hl:st.length<=100000)s:il (a,it) s=il (b,st) s:=by
 have hlen:it.length=st.length:=by simpa using congrArg List.length h
 have d:∀j:Nat,(it[j]?).map (λt=>t.1)=(st[j]?).map (λt=>t.1):=λj=>by
  rw[←cw,←cw,h]
 have r:=mj (a,it) ((by show it.length<=_;omega)) s;have m:=mj (b,st) ((by show st.length<=_;omega)) s;rcases r with⟨k,n⟩ |⟨k1,k,l1,f1,g1,f,j1⟩<;>rcases m with⟨l,u⟩ |⟨k2,l,l2,f2,g2,i,j2⟩
 ·rw[k,l]
 ·exfalso;have:=d k2;have i:st[k2]?=some g2:=i;rw[i]at this;cases hx:it[k2]? with
  | none=>rw[hx]at this;cases this
  | some x=>
   rw[hx]at this;simp only[ϴ]at this;injection this with this
   exact n x (fe hx)<|this.trans j2
 ·exfalso;have:=d k1;have f:it[k1]?=some g1:=f;rw[f]at this;cases hx:st[k1]? with
  | none=>rw[hx]at this;cases this
  | some x=>
   rw[hx]at this;simp only[ϴ]at this;injection this with this
   exact u x (fe hx)<|this.symm.trans j1
 ·have f:it[k1]?=some g1:=f;have i:st[k2]?=some g2:=i;have:k1=k2:=by
   rcases gm k1 k2 with h | h | h
   ·have c:=d k1;rw[f]at c;cases hx:st[k1]? with
    | none=>rw[hx]at c;cases c
    | some x=>
     rw[hx]at c;simp only[ϴ]at c;injection c with c
     exact x4 (c.symm.trans j1)<|f2 k1 x h hx
   ·exact h
   ·have c:=d k2;rw[i]at c;cases hx:it[k2]? with
    | none=>rw[hx]at c;cases c
    | some x=>
     rw[hx]at c;simp only[ϴ]at c;injection c with c
     exact x4 (c.trans j2)<|f1 k2 x h hx
  rw[k,l,this]
abbrev ky:=TSet×(List aP×Int)
abbrev oE:=Bool×ky×TSet×(List UInt8×(TSet×List aP))
abbrev cL(begun:Bool)(temp:Int)(ig:List Gl)(it:List Tl)(w:List UInt8)(s2:TSet)(pl:List aP):oE:=(begun,((([],[]),([],temp)),((ig,it),(w,(s2,pl)))))
noncomputable def fG(sg:List Gl)(st:List Tl)(w:List UInt8):Int:=(iA (sg,st) w).getD 0
def Oq{sg:List Gl}st(hg:sg.length<=100000)w:iA (sg,st) w=some (fG sg st w):=by
 unfold fG;rcases uT (sg,st) (by show sg.length<=_;omega) w with⟨h,_⟩ |⟨k,h,_⟩
 ·rw[h];rfl
 ·rw[h];rfl
def zz2{sg:List Gl}st(hg:sg.length<=100000)(h:¬ ∃g∈sg,g.1=([45]:List UInt8)):fG sg st [45]=0:=by
 unfold fG;rcases uT (sg,st) (by show sg.length<=_;omega) [45]with⟨a,_⟩ |⟨k,a,_,_,g,h2,h3⟩
 ·rw[a];rfl
 ·exact x4 ⟨g,fe h2,h3⟩ h
noncomputable def iw(sg:List Gl)(w:List UInt8):Int:=if w=[45]then 0 else fG sg [] w
def ir(sg:List Gl)(w:List UInt8):Prop:=w=[45]\/fG sg [] w≠0
def PU{sg:List Gl}{p}(hp:p.2.2.1.1=sg)(hg:sg.length<=100000)(ws:List (List UInt8))(c:ws.length=4):
  (iter (rF p ws) (0,[])=some (.inl (ws.map (iw sg)))/\∀w∈ws,ir sg w)\/(iter (rF p ws) (0,[])=some (.inr (3,p))/\¬ ∀w∈ws,ir sg w):=by
 have key:=zy (F:=rF p ws) (λs=>0<=s.1/\s.1<=ws.length/\s.2=(ws.take s.1.toNat).map (iw sg)/\∀w∈ws.take s.1.toNat,ir sg w) (λs=>(ws.length - s.1).toNat)
  (λz=>(z=.inl (ws.map<|iw sg)/\∀w∈ws,ir sg w)\/(z=.inr (3,p)/\¬ ∀w∈ws,ir sg w)) ?_ (0,[]) ⟨by simp,by simp,by simp,by simp⟩
 ·obtain⟨z,u,⟨rfl,h⟩ |⟨rfl,h⟩⟩:=key
  ·exact .inl ⟨u,h⟩
  ·exact .inr ⟨u,h⟩
 ·rintro⟨i,a⟩ ⟨b,h1,ha,hall⟩;simp only at b h1 ha hall;obtain⟨k,rfl⟩:=ba b;simp only[bb]at ha hall;have x:a.length<=4:=by rw[ha];simp;omega
  unfold rF wu;by_cases hlt:k<ws.length
  ·have j:ws[k]?=some ws[k]:=cn hlt;have m:aB ((k:Int)+1)=(k:Int)+1:=zt om om;have d:((k:Int)+1).toNat=k+1:=by omega
   have f:∀g:Int,aX 8 a [g]=some (a++[g]):=λg=>zO so so;rw[Ϙ (by simp[hlt])];simp only[zr j,gy,f,m];have r:ir sg ws[k]->∃s',some (Sum.inl ((k:Int)+1,a++[iw sg ws[k]]))=some (Sum.inl s':(Int×List Int) ⊕ (List Int ⊕ (Int×oE)))/\(0<=s'.1/\s'.1<=ws.length/\s'.2=(ws.take s'.1.toNat).map (iw sg)/\∀w∈ws.take s'.1.toNat,ir sg w)/\(ws.length - s'.1).toNat<(ws.length - (k:Int)).toNat:=by
    intro l;refine⟨_,rfl,⟨(by simp only[];omega),(by simp only[];omega),?_,?_⟩,(by simp only[];omega)⟩
    ·simp only[d];rw[kg j,eh,←ha];rfl
    ·simp only[d];rw[kg j];intro w c;rcases er.1 c with c | c
     ·exact hall w c
     ·rw[fh.1 c];exact l
   by_cases hd:ws[k]=[45]
   ·left;rw[ϙ (by simp[hd])];have h:=r<|.inl hd;have:iw sg ws[k]=0:=by unfold iw;rw[Ϙ hd]
    rw[this]at h;exact h
   ·rw[Ϙ (by simp[hd]),zyQ _ (by rw[hp];exact hg)];have n:iA p.2.2.1 ws[k]=some (fG sg [] ws[k]):=by
     have:p.2.2.1=(sg,p.2.2.1.2):=by rw[←hp]
     rw[this,Oq _ hg];rfl
    simp only[n,gy];by_cases b:fG sg [] ws[k]=0
    ·right;rw[Ϙ (by simp[b])];exact⟨_,rfl,.inr ⟨rfl,λh=>(h _<|fe j).elim hd λh'=>h' b⟩⟩
    ·left;rw[ϙ (by simp[b])];have h:=r<|.inr b;have:iw sg ws[k]=fG sg [] ws[k]:=by unfold iw;rw[ϙ hd]
     rw[this]at h;exact h
  ·right;rw[ϙ so];have v:k=ws.length:=by omega
   subst v;rw[fv]at ha hall;exact⟨_,rfl,.inl ⟨by rw[ha],hall⟩⟩
def zzn{sg:List Gl}{p}(hp:p.1.1=sg)(hg:sg.length<=100000)a b(ws:List (List UInt8))(d:ws.length=4):
  (iter (rV p (a::b::ws)) (2,[])=some (.inl (ws.map (fG sg [])))/\∀w∈ws,ir sg w)\/(iter (rV p (a::b::ws)) (2,[])=some (.inr (3,p))/\¬ ∀w∈ws,ir sg w):=by
 have key:=zy (F:=rV p (a::b::ws)) (λs=>∃k:Nat,s.1=(k:Int)+2/\k<=ws.length/\s.2=(ws.take k).map (fG sg [])/\∀w∈ws.take k,ir sg w) (λs=>(6 - s.1).toNat)
  (λz=>(z=.inl (ws.map<|fG sg [])/\∀w∈ws,ir sg w)\/(z=.inr (3,p)/\¬ ∀w∈ws,ir sg w)) ?_ (2,[]) ⟨0,by simp,by simp,by simp,by simp⟩
 ·obtain⟨z,x,⟨rfl,h⟩ |⟨rfl,h⟩⟩:=key
  ·exact .inl ⟨x,h⟩
  ·exact .inr ⟨x,h⟩
 ·rintro⟨i,c⟩ ⟨k,rfl,h1,ha,hall⟩;simp only at ha;have A:c.length<=4:=by rw[ha];simp;omega
  unfold rV xS;by_cases hlt:k<ws.length
  ·have l:ws[k]?=some ws[k]:=cn hlt;have r:idx (a::b::ws) ((k:Int)+2)=some ws[k]:=gB om (by rw[show((k:Int)+2).toNat=k+2 by omega];exact l);have n:aB ((k:Int)+2+1)=((k+1:Nat):Int)+2:=ψ
   have f:∀g:Int,aX 8 c [g]=some (c++[g]):=λg=>zO so so;have u:iA p.1 ws[k]=some (fG sg [] ws[k]):=by
    have:p.1=(sg,p.1.2):=by rw[←hp]
    rw[this,Oq _ hg];rfl
   rw[Ϙ so];simp only[r,gy,u,f,n];have v:ir sg ws[k]->∃s',some (Sum.inl (((k+1:Nat):Int)+2,c++[fG sg [] ws[k]]))=some (Sum.inl s':(Int×List Int) ⊕ (List Int ⊕ (Int×ky)))/\(∃k:Nat,s'.1=(k:Int)+2/\k<=ws.length/\s'.2=(ws.take k).map (fG sg [])/\∀w∈ws.take k,ir sg w)/\(6 - s'.1).toNat<(6 - ((k:Int)+2)).toNat:=by
    intro m;refine⟨_,rfl,⟨k+1,rfl,hlt,?_,?_⟩,ϖ⟩
    ·simp only;rw[kg l,eh,←ha];rfl
    ·rw[kg l];intro w d;rcases er.1 d with d | d
     ·exact hall w d
     ·rw[fh.1 d];exact m
   by_cases j:fG sg [] ws[k]=0
   ·rw[Ϙ (by simp[j])];by_cases hd:ws[k]=[45]
    ·left;rw[ϙ (by simp[hd])];exact v<|.inl hd
    ·right;rw[Ϙ (by simp[hd])];exact⟨_,rfl,.inr ⟨rfl,λh=>(h _<|fe l).elim hd λh'=>h' j⟩⟩
   ·left;rw[ϙ (by simp[j]),ϙ si];exact v<|.inr j
  ·right;have y:k=ws.length:=by omega
   rw[ϙ so];subst y;exact Q9
abbrev eZ:List UInt8:=[115,101,101,100]
abbrev vv:List UInt8:=[103,108,117,101]
abbrev vK:List UInt8:=[116,105,108,101]
def Cm(n:Nat)(temp:Int)(r:Option (Int×oE))(q:Option (Int×ky)):Prop:=(∃c x y,r=some (c,x)/\q=some (c,y)/\c≠0) \/
 ∃ig it w s2 pl sg st ts,r=some (0,cL true temp ig it w s2 pl)/\q=some (0,((sg,st),(ts,temp)))/\bJ (n+1) ig it pl sg st ts
section
variable {n:Nat} {temp:Int} {ig:List Gl} {it:List Tl} {w:List UInt8} {s2:TSet} {pl:List aP} {sg:List Gl} {st:List Tl} {ts:List aP} {line:List UInt8}
def gV{c x y r q}(h1:r=some (c,x))(h2:q=some (c,y))(hc:c≠0):Cm n temp r q:=.inl ⟨c,x,y,h1,h2,hc⟩
def eN{b:Type}(a:b)(l:List b):idx (a::l) 0=some a:=rfl
def h_{c:Type}(a b:c)(l:List c):idx (a::b::l) 1=some b:=rfl
def pg{d:Type}(a b c:d)(l:List d):idx (a::b::c::l) 2=some c:=rfl
def NA(pl:List aP)(hl:pl.length<=1000000)(p:Pt):∃c,mY pl (λq0=>po q0 p)=some c/\(c=true↔∃x∈pl,x.1=p):=by
 unfold mY mM wL;rcases kX pl om (λq0=>po q0 p) (λx=>(x.1.1=p.1:Ϛ)&&(x.1.2=p.2:Ϛ)) (λ_ _=>rfl) (we pl λq0=>po q0 p) (λi=>rfl)with⟨b,a⟩ |⟨k',b,hk',hlow,x,hx,hq⟩
 ·rw[b];refine⟨false,rfl,A9,λ⟨x,hx,e⟩=>?_⟩;have:=a x hx;rw[e]at this;simp at this
 ·rw[b];refine⟨true,by simp,λ_=>⟨x,fe hx,?_⟩,λ_=>rfl⟩;simp at hq;exact vN hq.1 hq.2
def Qp(hn:n<=30000)(h:bJ n ig it pl sg st ts)(hl:line.length<=20000){ws}(hws:zA line []=eZ::ws):
  Cm n temp (zF (cL true temp ig it w s2 pl) line) (g_ ((sg,st),(ts,temp)) (zA line []) false):=by
 have f:=kS line [] si;rw[hws]at f ⊢;have u:=iX line om;rw[hws]at u;have B:(eZ=([115,101,101,100]:List UInt8):Ϛ)=true:=by decide
 have H:(eZ=([103,108,117,101]:List UInt8):Ϛ)=false:=by decide
 have M:(eZ=([116,105,108,101]:List UInt8):Ϛ)=false:=by decide
 have hA:zF (cL true temp ig it w s2 pl) line=rP (cL true temp ig it eZ (ig,it) pl) line>>=λD=>some (D.1,cL true temp ig it eZ (ig,it) D.2.2.2.2.2.2):=by
  unfold zF pp;simp only[u,gy,eN,B];rw[ϙ (by simp[cL]),Ϙ si];rfl
 have V:g_ ((sg,st),(ts,temp)) (eZ::ws) false=if !((((eZ::ws).length:Nat):Int)=3:Ϛ)then(some (6,((sg,st),(ts,temp))))else(idx (eZ::ws) 1>>=λE=>idx (eZ::ws) 2>>=λN=>ym ((sg,st),(ts,temp)) E N>>=λA=>some (A.1,((sg,st),(A.2.2.1,temp)))):=by
  unfold g_;rw[ϙ si,ϙ so];simp only[eN,gy,B,H,M,aq,ϟ,Ϡ,Ϟ]
 have P:rP (cL true temp ig it eZ (ig,it) pl) line=if !((((eZ::ws).length:Nat):Int)=3:Ϛ)then some (6,cL true temp ig it eZ (ig,it) pl)else rG (cL true temp ig it eZ (ig,it) pl) (eZ::ws) false:=by
  unfold rP;simp only[u,gy,eN];rfl
 rw[hA,V,P]
 match ws,hws,f with
 |[],_,_=>
  rw[Ϙ si,Ϙ si];exact y1
 |[a],_,_=>
  rw[Ϙ si,Ϙ si];exact y1
 | a::b::c::l,_,_=>
  rw[Ϙ so,Ϙ so];exact y1
 |[a,b],_,f=>
  obtain⟨a1,a2,a3⟩:=f.2 a si;obtain⟨b1,b2,b3⟩:=f.2 b si;simp only[dz,Ϩ]at a3 b3;rw[ϙ si,ϙ si];unfold rG;rw[ϙ si];simp only[h_,pg,gy];have c1:dO a [32]=some (a++[32]):=F3
  have c2:dO (a++[32]) b=some (a++[32]++b):=F3
  have G:zR (a++[32]++b)=some [a,b]:=by rw[iX _ so,OD a1 b1 a2 b2]
  obtain⟨r,T,F,Q⟩:=MY b om;have J:mQ (ig,it) a=il (sg,st) a:=by
   rw[Nb,Qf h.tn (by have:=h.tl;omega)]
  simp only[c1,c2,gy];unfold DC ym;dsimp only[cL];simp only[G,gy,eN,h_,T,F,J];have I:((([a,b].length:Nat):Int)=2:Ϛ)=true:=by simp
  simp only[I,av,aq,ϟ];cases hok:r.2 with
  | false=>
   rcases mj (sg,st) (by show st.length<=_;have:=h.tl;omega) a with⟨e,_⟩ |⟨k,e,_⟩
   ·rw[e];exact y1
   ·rw[e];exact y1
  | true=>
   rcases mj (sg,st) (by show st.length<=_;have:=h.tl;omega) a with⟨e,_⟩ |⟨k,e,hkl,_⟩
   ·rw[e];exact y1
   ·have O:=h.perm.length_eq;have R:=h.pl5;obtain⟨j,U,m⟩:=Bn h.pw.srt om r.1;obtain⟨c,X,z⟩:=NA pl om r.1;have L:((k:Int)<0:Ϛ)=false:=x9
    simp only[e,gy,av,aq,ϟ,L,U,X];cases c with
    | true=>
     obtain⟨x,C,d⟩:=z.1 rfl;rcases m with⟨Y,_⟩ |⟨_,i⟩
     ·have v:(j≥0:Ϛ)=true:=x5
      simp only[v,Ϡ,gy];exact y1
     ·exact x4 d<|i x<|h.perm.mem_iff.2 C
    | false=>
     have i:∀x∈ts,x.1≠r.1:=λx C d=>by
      have:=z.2 ⟨x,h.perm.mem_iff.1 C,d⟩;cases this
     rcases m with⟨_,x,C,d⟩ |⟨rfl,_⟩
     ·exact x4 d<|i x<|fe C
     ·have v:((-1:Int)≥0:Ϛ)=false:=by decide
      simp only[v,aq,ϟ];by_cases Z:pl.length≥500
      ·have c1:((pl.length:Int)≥500:Ϛ)=true:=x5
       have c2:((ts.length:Int)=500:Ϛ)=true:=x5
       simp only[c1,c2,Ϡ,gy];exact y1
      ·have c1:((pl.length:Int)≥500:Ϛ)=false:=x9
       have c2:((ts.length:Int)=500:Ϛ)=false:=x9
       simp only[c1,c2,aq,ϟ,BQ ts (by omega:ts.length<=100000),zO (bytes:=24) (l:=pl) (l2:=[(r.1,(k:Int))]) so so,gy];refine .inr ⟨ig,it,eZ,(ig,it),pl++[(r.1,(k:Int))],sg,st,fC (r.1,(k:Int)) ts,rfl,rfl,?_⟩;refine⟨h.g,h.dash,h.tn,(qS _ _).trans<|h.perm.append_right _,Cq h.pw λy S=>i y S,y5 h.gl,y5 h.tl,π,h.gn,h.tn1,h.tn2⟩
def Sg(hn:n<=30000)(h:bJ n ig it pl sg st ts)(hl:line.length<=20000)(hws:∀ws,zA line []≠eZ::ws):
  Cm n temp (zF (cL true temp ig it w s2 pl) line) (g_ ((sg,st),(ts,temp)) (zA line []) false):=by
 have f:=kS line [] si;have A:=iX line om;obtain⟨W,hW⟩:∃W,W=zA line []:=u3;rw[←hW]at f A hws ⊢;have X:=h.perm.length_eq;have Y:=h.itl;have hA:zF (cL true temp ig it w s2 pl) line=pp (cL true temp ig it w s2 pl) line false:=by
  unfold zF;simp only[A,gy];rw[ϙ (by simp[cL])];cases W with
  | nil=>rw[ϙ si]
  | cons a l=>
   rw[Ϙ si];simp only[eN,gy];have:¬a=eZ:=λe=>hws l (by rw[e]);simp only[this,ϡ]
 rw[hA];unfold pp;rw[ϙ si];by_cases h0:pl.length>0
 ·rw[Ϙ (by show ((pl.length:Int)>0:Ϛ)=true;rw[ϛ];omega)];refine gV (c:=6) (y:=((sg,st),(ts,temp))) rfl ?_ om
  ·unfold g_;rw[ϙ si];cases W with
   | nil=>rw[Ϙ si]
   | cons a l=>
    have N:¬a=eZ:=λe=>hws l (by rw[e]);rw[ϙ so];simp only[eN,gy];by_cases z:a=vv
    ·rw[Ϙ (by simpa using z),Ϙ so]
    ·rw[ϙ (by simpa using z)];by_cases d:a=vK
     ·rw[Ϙ (by simpa using d),Ϙ so]
     ·rw[ϙ (by simpa using d),ϙ (by simpa using N)]
 ·rw[ϙ (by show ¬((pl.length:Int)>0:Ϛ)=true;rw[ϛ];omega)];have G:¬((ts.length:Int)>0):=by omega
  have J:∀b,(∀(a l),W=a::l->(((W.length:Int)=3:Ϛ)&&(a=vv:Ϛ)&&(((it.length:Nat):Int)=0:Ϛ))=b)->(W=[]->b=false)->
    rK (cL true temp ig it w s2 pl) line=zI (cL true temp ig it w s2 pl) W b:=by
   intro b E O;unfold rK;simp only[A,gy];cases W with
   | nil=>
    rw[ϙ si,O rfl]
   | cons a l=>
    have:=E a l rfl;by_cases d:(((a::l).length:Nat):Int)=3
    ·rw[Ϙ (by simpa using d)];simp only[eN,gy];by_cases j:a=vv
     ·subst j;rw[Ϙ si];congr 1;rw[←this];have S:((((vv::l).length:Nat):Int)=3:Ϛ)=true:=by rw[ϛ];exact d
      simp only[S,Ϟ,Bool.true_and]
     ·rw[ϙ (by simpa using j)];congr 1;rw[←this];simp[j]
    ·rw[ϙ (by simpa using d)];congr 1;rw[←this];simp only[d,ϡ,Bool.false_and]
  have I:∀b,b=false->(∀l,W=vK::l->W.length≠6)->zI (cL true temp ig it w s2 pl) W b=some (6,cL true temp ig it w s2 pl):=by
   intro b E Z;subst E;unfold zI rO;rw[ϙ si];by_cases U:W.length=6
   ·rw[ϙ so];cases W with
    | nil=>simp at U
    | cons a l=>
     simp only[eN,gy];have:¬a=vK:=λe=>Z l (by rw[e]) U;simp only[this,ϡ];rfl
   ·rw[Ϙ so,Ϙ rfl]
  cases W with
  | nil=>
   rw[J false (λa l e=>by cases e) (λ_=>rfl),I false rfl (λl e=>by cases e)];refine gV (y:=((sg,st),(ts,temp))) rfl ?_ (by omega:(6:Int)≠0)
   ·unfold g_;rw[ϙ si,Ϙ si]
  | cons a l=>
   have N:¬a=eZ:=λe=>hws l (by rw[e]);unfold g_;rw[ϙ si,ϙ so];simp only[eN,gy];by_cases z:a=vv
   ·rw[Ϙ (by simpa using z),ϙ (by simpa using G)];unfold EW xU;by_cases d:((a::l).length=3/\it.length=0)
    ·rw[J true (λa' l' e=>by
      injection e with m D
      subst m;simp[d.2,z];have:=d.1;simp at this;omega) (λe=>by cases e)]
     have V:=d.2;rw[ϙ (by simp;have:=d.1;simp at this;omega),ϙ (by show ¬((st.length:Int)>0:Ϛ)=true;rw[ϛ];omega)];unfold zI;rw[Ϙ rfl]
     match l,d.1,f with
     |[x,y],_,f=>
      obtain⟨_,_,x3⟩:=f.2 x si;obtain⟨_,_,y3⟩:=f.2 y si;simp only[dz,Ϩ]at x3 y3;obtain⟨r,hr,L,_⟩:=lV y om;simp only[h_,pg,gy,hr,L];have R:=h.gl;have F:=h.g;have T:ig.length=sg.length:=by rw[F]
      cases hok:r.2 with
      | false=>exact y1
      | true=>
       rw[ϙ si,ϙ si];have m:aX 24 (cL true temp ig it w s2 pl).2.2.1.1 [(x,r.1)]=some (ig++[(x,r.1)]):=zO H7 H7;have D:aX 24 sg [(x,r.1)]=some (sg++[(x,r.1)]):=zO so so;simp only[m,D,gy];refine .inr ⟨ig++[(x,r.1)],it,w,s2,pl,sg++[(x,r.1)],st,ts,rfl,rfl,?_⟩;refine⟨by rw[F],?_,h.tn,h.perm,h.pw,π,y5 h.tl,h.pl5,?_,h.tn1,h.tn2⟩
       ·rcases h.dash with⟨g,B,e⟩ | e
        ·exact .inl ⟨g,eu _ B,e⟩
        ·exact .inr e
       ·intro g B;rcases er.1 B with B | B
        ·exact h.gn g B
        ·rw[fh.1 B];show x.length<=100000;omega
    ·rw[J false (λa' l' e=>by
      injection e with m D
      subst m;rw[Bool.eq_false_iff];intro hh;simp only[an,ϛ]at hh;exact d ⟨by omega,by omega⟩) (λe=>by cases e)]
     rw[I false rfl (λl' e=>by injection e with m _;rw[z]at m;exact x4 m (by decide))];by_cases j:(a::l).length=3
     ·rw[ϙ (by simp;simp at j;omega),Ϙ so];exact y1
     ·rw[Ϙ (by simp;simp at j;omega),Ϙ rfl];exact y1
   ·rw[ϙ (by simpa using z)];have E:rK (cL true temp ig it w s2 pl) line=zI (cL true temp ig it w s2 pl) (a::l) false:=J false (λa' l' e=>by
      injection e with m D
      subst m;simp[z]) (λ_=>rfl)
    rw[E];by_cases d:a=vK
    ·rw[Ϙ (by simpa using d),ϙ (by simpa using G)];unfold ET;by_cases j:(a::l).length=6
     rotate_left
     ·rw[I false rfl (λl' e=>j),Ϙ (by simp;simp at j;omega)];exact y1
     rw[ϙ (by simp;simp at j;omega)];unfold zI rO;rw[ϙ si,ϙ (by simp;simp at j;omega)];simp only[eN,gy];rw[ϙ (by simp[d])]
     match l,j,f with
     | b::ws,j,f=>
      have v:ws.length=4:=by simp at j;omega
      have R:=h.gl;have H:bB (a::b::ws) 2 (((a::b::ws).length:Nat):Int)=some ws:=by
       have:=qR (s:=a::b::ws) (k:=2) si;exact this
      simp only[h_,gy,H];obtain⟨_,_,b3⟩:=f.2 b si;simp only[dz,Ϩ]at b3;have hI:=PU (p:=cL true temp ig it w s2 pl) (sg:=sg) (by show ig=sg;exact h.g) om ws v;have hS:=zzn (p:=((sg,st),(ts,temp))) (sg:=sg) rfl om a b ws v;rcases hI with⟨Q,M⟩ |⟨Q,M⟩<;>rcases hS with⟨P,C⟩ |⟨P,C⟩
      ·rw[Q,P];simp only[gy];unfold DF KG;have a1:=h.tl;have m:aX 40 (cL true temp ig it w s2 pl).2.2.1.2 [(b,ws.map<|iw sg)]=some (it++[(b,ws.map<|iw sg)]):=zO H7 H7;have D:aX 40 st [(b,ws.map<|fG sg [])]=some (st++[(b,ws.map<|fG sg [])]):=zO so so;simp only[m,D,gy];refine .inr ⟨ig,it++[(b,ws.map<|iw sg)],w,s2,pl,sg,st++[(b,ws.map<|fG sg [])],ts,rfl,rfl,?_⟩;refine⟨h.g,?_,by simp[h.tn],h.perm,h.pw,by omega,π,h.pl5,h.gn,?_,?_⟩
       ·by_cases i:∃g∈sg,g.1=([45]:List UInt8)
        ·exact .inl i
        ·right;have e:=h.dash.resolve_left i;have:ws.map (iw sg)=ws.map (fG sg []):=by
          apply ek;intro x _;unfold iw;split
          ·rename_i u;rw[u,zz2 [] om i]
          ·rfl
         rw[e,this]
       ·intro x u;rcases er.1 u with u | u
        ·exact h.tn1 x u
        ·rw[fh.1 u];exact P0
       ·intro x u;rcases er.1 u with u | u
        ·exact h.tn2 x u
        ·rw[fh.1 u];exact P0
      ·exact x4 M C
      ·exact x4 C M
      ·rw[Q,P];exact y1
    ·rw[ϙ (by simpa using d),ϙ (by simpa using N)];rw[I false rfl (λl' e=>by injection e with m _;exact x4 m d)];exact y1
end
abbrev Zs:ky:=(([],[]),([],0))
abbrev Vr:List UInt8:=[116,101,109,112,101,114,97,116,117,114,101]
def PA{line:List UInt8}(hl:line.length<=20000):
  (∃c x y,zF (cL false 0 [] [] [] ([],[]) []) line=some (c,x)/\g_ Zs (zA line []) true=some (c,y)/\c≠0) \/
  ∃t,zF (cL false 0 [] [] [] ([],[]) []) line=some (0,cL true t [] [] [] ([],[]) [])/\g_ Zs (zA line []) true=some (0,(([],[]),([],t))):=by
 have d:=kS line [] si;have f:=iX line om;obtain⟨W,m⟩:∃W,W=zA line []:=u3;rw[←m]at d f ⊢;have i:rN (cL false 0 [] [] [] ([],[]) []) W true=some (6,cL false 0 [] [] [] ([],[]) []):=rfl;have h:tK Zs W true=some (6,Zs):=rfl;unfold zF g_;simp only[f,gy,ϵ,Ϡ];by_cases j:((W.length:Nat):Int)=2
 ·simp only[j,Ϟ,av,aq,ϟ]
  match W,j,d with
  |[a,b],_,d=>
   simp only[eN,gy];obtain⟨_,_,b3⟩:=d.2 b si;simp only[dz,Ϩ]at b3;by_cases l:a=Vr
   ·simp only[l,Ϟ,av];unfold rN tK;rw[ϙ si,ϙ si];obtain⟨r,n,k,_⟩:=lV b om;simp only[h_,gy,n,k];cases hok:r.2 with
    | false=>exact .inl ⟨6,_,_,rfl,rfl,by omega⟩
    | true=>exact .inr ⟨r.1,rfl,rfl⟩
   ·simp only[l,ϡ,ϵ];exact D1 6
 ·simp only[j,ϡ,ϵ,Ϡ];exact .inl ⟨6,_,_,i,h,by omega⟩
def Jq(b0 n:Nat)(r:Option ((Bool×Int×List Gl×List Tl×List UInt8×List Gl×List Tl×List aP) ⊕ (ky×Er)))(q:Option ((List Gl×List Tl×List aP×Int) ⊕ (ky×Int×Int))):Prop:=(∃(ln:Nat)(c:Int),r=some (.inr (Zs,Er.line ((b0+ln:Nat):Int) c))/\q=some (.inr (Zs,(ln:Int),c))/\c≠0/\1<=ln/\ln<=n) \/
 ∃b temp ig it w g2 t2 pl sg st ts,r=some (.inl (b,temp,ig,it,w,g2,t2,pl))/\q=some (.inl (sg,st,ts,temp))/\bJ n ig it pl sg st ts
def PN{lines:List (List UInt8)}{b0}(hb:b0<=30000)(hn:lines.length<=30000)(hl:∀l∈lines,l.length<=20000):∀(d k:Nat)(temp:Int)(ig:List Gl)(it:List Tl)(w:List UInt8)(f:List Gl)(b:List Tl)(pl:List aP)(sg:List Gl)(st:List Tl)(ts:List aP),
  k+d=lines.length->1<=k->bJ k ig it pl sg st ts->
  Jq b0 lines.length (iter (zP lines (b0:Int)) ((k:Int),true,temp,ig,it,w,f,b,pl)) (iter (kH lines) ((k:Int),sg,st,ts,temp)):=by
 intro d
 induction d with
 | zero=>
  intro k temp ig it w f b pl sg st ts J u h;have:k=lines.length:=by omega
  subst this;refine .inr ⟨true,temp,ig,it,w,f,b,pl,sg,st,ts,zq ?_,zq ?_,h⟩
  ·unfold zP;rw[ϙ si]
  ·unfold kH;rw[ϙ si]
 | succ d ih=>
  intro k temp ig it w f b pl sg st ts J u h;have hlt:k<lines.length:=by omega
  have H:lines[k]?=some lines[k]:=cn hlt;have j:=hl _<|dm hlt;have C:aB ((b0:Int)+(k:Int))=((b0+k:Nat):Int):=ψ
  have v:aB (((b0+k:Nat):Int)+1)=((b0+(k+1):Nat):Int):=ψ
  have m:aB ((k:Int)+1)=((k+1:Nat):Int):=ψ
  have D:((k:Int)=0:Ϛ)=false:=x9
  have n:((k:Int)<(lines.length:Int):Ϛ)=true:=x5
  have i:Cm k temp (zF (cL true temp ig it w (f,b) pl) lines[k]) (g_ ((sg,st),(ts,temp)) (zA lines[k] []) false):=by
   by_cases a:∃ws,zA lines[k] []=eZ::ws
   ·obtain⟨ws,a⟩:=a;exact Qp om h j a
   ·exact Sg om h j λws e=>a ⟨ws,e⟩
  have G:∀z,zF (cL true temp ig it w (f,b) pl) lines[k]=some z->zP lines (b0:Int) ((k:Int),true,temp,ig,it,w,f,b,pl) =
    if !(z.1=0:Ϛ)then some (.inr<|.inr (Zs,Er.line ((b0+(k+1):Nat):Int) z.1))else some (.inl (((k+1:Nat):Int),z.2.1,z.2.2.1.2.2,z.2.2.2.1.1,z.2.2.2.1.2,z.2.2.2.2.1,z.2.2.2.2.2.1.1,z.2.2.2.2.2.1.2,z.2.2.2.2.2.2)):=by
   intro z B;unfold zP;simp only[n,Ϡ,zr H,gy,B,C,m,v]
  have hS:∀z,g_ ((sg,st),(ts,temp)) (zA lines[k] []) false=some z->kH lines ((k:Int),sg,st,ts,temp) =
    if !(z.1=0:Ϛ)then some (.inr<|.inr (Zs,((k+1:Nat):Int),z.1))else some (.inl (((k+1:Nat):Int),z.2.1.1,z.2.1.2,z.2.2.1,z.2.2.2)):=by
   intro z B;unfold kH;simp only[n,Ϡ,zr H,gy,ke lines[k] om,D,B,m]
  rcases i with⟨c,x,y,A,r,E⟩ |⟨ig',it',w',s2',pl',sg',st',ts',A,r,h3⟩
  ·refine .inl ⟨k+1,c,zq ?_,zq ?_,E,by omega,by omega⟩
   ·rw[G _ A,Ϙ (by simp[E])]
   ·rw[hS _ r,Ϙ (by simp[E])]
  ·have I:=G _ A;have F:=hS _ r;rw[ϙ si]at I F;rw[zp I,zp F];exact ih (k+1) temp ig' it' w' s2'.1 s2'.2 pl' sg' st' ts' om om h3
def Jk n:bJ n [] [] [] [] [] []:=⟨rfl,.inr rfl,rfl,.refl _,List.Pairwise.nil,by simp,by simp,by simp,by simp,by simp,by simp⟩
def Rg{lines:List (List UInt8)}{b0}(hb:b0<=30000)(hn:lines.length<=30000)(hl:∀l∈lines,l.length<=20000):
  Jq b0 lines.length (iter (zP lines (b0:Int)) (0,false,0,[],[],[],[],[],[])) (iter (kH lines) (0,[],[],[],0)):=by
 by_cases w:lines=[]
 ·subst w;refine .inr ⟨false,0,[],[],[],[],[],[],[],[],[],zq ?_,zq ?_,Jk _⟩
  ·unfold zP;rw[ϙ si]
  ·unfold kH;rw[ϙ si]
 ·have hp:=ϥ.2 w;have B:lines[0]?=some lines[0]:=cn hp;have d:=hl _<|dm hp;have r:idx lines 0=some lines[0]:=zr (i:=0) B;have h:aB ((b0:Int)+(0:Int))=((b0:Nat):Int):=ψ
  have m:aB (((b0:Nat):Int)+1)=((b0+1:Nat):Int):=ψ
  have b:aB ((0:Int)+1)=((1:Nat):Int):=by decide
  have a:((0:Int)<(lines.length:Int):Ϛ)=true:=x5
  have u:∀z,zF (cL false 0 [] [] [] ([],[]) []) lines[0]=some z->zP lines (b0:Int) (0,false,0,[],[],[],[],[],[]) =
    if !(z.1=0:Ϛ)then some (.inr<|.inr (Zs,Er.line ((b0+1:Nat):Int) z.1))else some (.inl (((1:Nat):Int),z.2.1,z.2.2.1.2.2,z.2.2.2.1.1,z.2.2.2.1.2,z.2.2.2.2.1,z.2.2.2.2.2.1.1,z.2.2.2.2.2.1.2,z.2.2.2.2.2.2)):=by
   intro z n;unfold zP;simp only[a,Ϡ,r,gy,n,h,b,m]
  have hS:∀z,g_ Zs (zA lines[0] []) true=some z->kH lines (0,[],[],[],0) =
    if !(z.1=0:Ϛ)then some (.inr<|.inr (Zs,((1:Nat):Int),z.1))else some (.inl (((1:Nat):Int),z.2.1.1,z.2.1.2,z.2.2.1,z.2.2.2)):=by
   intro z n;unfold kH;simp only[a,Ϡ,r,gy,ke lines[0] om,Ϟ,n,b]
  rcases PA d with⟨c,x,y,j,f,k⟩ |⟨t,j,f⟩
  ·refine .inl ⟨1,c,zq ?_,zq ?_,k,by omega,by omega⟩
   ·rw[u _ j,Ϙ (by simp[k])]
   ·rw[hS _ f,Ϙ (by simp[k])]
  ·have v:=u _ j;have A:=hS _ f;rw[ϙ si]at v A;rw[zp v,zp A];exact PN hb hn hl (lines.length - 1) 1 t [] [] [] [] [] [] [] [] [] om om<|Jk 1
def HR{set}(h:∃g∈set.1,g.1=([45]:List UInt8)):¬SetOk set:=by
 rintro hS;obtain⟨g,b,e⟩:=h;obtain⟨i,hi⟩:=cz b;obtain⟨⟨_,_,a⟩,_⟩:=hS.glue i (zz hi) g hi;rw[e]at a;rcases a 0 45 rfl with h |⟨h,_⟩
 ·exact x4 h (by decide)
 ·omega
def zyq{lines:List (List UInt8)}{b0:Nat}(hb:b0<=30000)(hn:lines.length<=30000)(hl:∀l∈lines,l.length<=20000){s:List UInt8}(hs:s.length<=20000)(hls:dJ s []=lines):
  (∃(ln:Nat)(c:Int),pA lines (b0:Int)=some (Zs,Er.line ((b0+ln:Nat):Int) c)/\qf s=some (Zs,(ln:Int),c)/\c≠0/\1<=ln/\ln<=lines.length) \/
  (pA lines (b0:Int)=some (Zs,Er.whole)/\qf s=some (Zs,0,1)) \/
  ∃sys,pA lines (b0:Int)=some (sys,Er.nil)/\qf s=some (sys,0,0)/\SetOk sys.1/\dF sys.1 sys.2.1/\Tame sys.1/\sys.2.1.length<=1048576:=by
 have E:=Rg hb hn hl;unfold qf pA;rw[ϙ so,NR s om,hls];simp only[gy];rcases E with⟨ln,c,u,y,I,z,r⟩ |⟨b,temp,ig,it,w,g2,t2,pl,sg,st,ts,u,y,hR⟩
 ·rw[u,y];exact .inl ⟨ln,c,rfl,rfl,I,z,r⟩
 ·rw[u,y];simp only[gy];have A:=hR.perm.length_eq;have F:=hR.pl5;have H:=hR.gl;have C:=hR.tl;have B:=hR.itl;have v:Tame (ig,it):=by
   have i:=hR.g;subst i;exact⟨(by show ig.length<=_;omega),(by show it.length<=_;omega),λx a=>by have:=hR.gn x a;omega,λx a=>by have:=(hR.tn1 x a).1;omega,λx a=>by rw[(hR.tn1 x a).2];omega⟩
  have j:Tame (sg,st):=⟨(by show sg.length<=_;omega),(by show st.length<=_;omega),λx a=>by have:=hR.gn x a;omega,λx a=>by have:=(hR.tn2 x a).1;omega,λx a=>by rw[(hR.tn2 x a).2];omega⟩;obtain⟨k,a1,a2,a3⟩:=yZ v (ts:=ts) om temp;obtain⟨d,b1,b2,b3⟩:=yZ j (ts:=ts) om temp;have m:k=d/\(d=true->it=st):=by
   rcases hR.dash with hd | e
   ·have G:k=false:=by
     cases k with
     | false=>rfl
     | true=>exact x4 (a3 rfl).1<|HR (set:=(ig,it)) (by rw[hR.g];exact hd)
    have D:d=false:=by
     cases d with
     | false=>rfl
     | true=>exact x4 (b3 rfl).1<|HR (set:=(sg,st)) hd
    rw[G,D];exact⟨rfl,D8⟩
   ·have i:=hR.g;subst i;subst e;rw[a1]at b1;injection b1 with b1
    exact⟨b1,λ_=>rfl⟩
  have n:wN b temp ig it w g2 t2 pl=some (if k then(((ig,it),(ts,temp)),Er.nil)else(Zs,Er.whole)):=by
   unfold wN DJ;simp only[Gm om hR.perm hR.pw,gy,a1];cases k<;>rfl
  have f:EB sg st ts temp=some (if d then(((sg,st),(ts,temp)),0,0)else(Zs,0,1)):=by
   unfold EB;simp only[b2,gy];cases d<;>rfl
  simp only[n,f,gy];cases hv2:d with
  | false=>
   rw[hv2]at m;rw[m.1];exact .inr<|.inl ⟨rfl,rfl⟩
  | true=>
   rw[hv2]at m b3;rw[m.1];have i:=hR.g;have e:=m.2 rfl;subst i;subst e;exact .inr<|.inr ⟨((ig,it),(ts,temp)),rfl,rfl,(b3 rfl).1,(b3 rfl).2,j,(by show ts.length<=_;omega)⟩
def cH:List (List UInt8)->List UInt8
 |[]=>[]
 | l::ls=>l++10::cH ls
def Nv:∀{ls:List (List UInt8)},(∀l∈ls,(10:UInt8)∉l)->dJ (cH ls) []=ls
 |[],_=>rfl
 | l::ls,h=>by
  rw[cH,Bs l _ [] (h l si),dJ,Ϙ rfl,Nv λx a=>h x (by simp[a])];rfl
def FL:∀(s cur:List UInt8),(10:UInt8)∉cur->∀l∈dJ s cur,(10:UInt8)∉l
 |[],cur,hc,l,hl=>by
  unfold dJ at hl;split at hl
  ·cases hl
  ·rw[fh.1 hl];exact hc
 | c::s,cur,hc,l,hl=>by
  unfold dJ at hl;split at hl
  ·rcases ey.1 hl with rfl | hl
   ·exact hc
   ·exact FL s [] si l hl
  ·rename_i h;exact FL s (cur++[c]) (by simp[hc];exact B6 h) l hl
def GM:∀(s cur:List UInt8),(cH (dJ s cur)).length<=s.length+cur.length+1
 |[],cur=>by
  unfold dJ;split
  ·simp[cH]
  ·simp[cH]
 | c::s,cur=>by
  unfold dJ;split
  ·have:=GM s [];simp only[cH,dt,du,dz]at this ⊢;omega
  ·have:=GM s (cur++[c]);simp only[dt,du,dz]at this ⊢;omega
def BL:∀(a b:List (List UInt8)),cH (a++b)=cH a++cH b
 |[],b=>rfl
 | l::a,b=>by simp[cH,BL a b]
def O_(ls:List (List UInt8))i j:(cH ((ls.take j).drop i)).length<=(cH ls).length:=by
 have a:cH ls=cH (ls.take j)++cH (ls.drop j):=by rw[←BL,K7]
 have b:cH (ls.take j)=cH ((ls.take j).take i)++cH ((ls.take j).drop i):=by rw[←BL,K7]
 rw[a,b];simp only[dt];omega
def QE{ls:List (List UInt8)}(hn:ls.length<=30000)(hj:(cH ls).length<=1000000):AU ls=some (cH ls):=by
 have key:∀(d k:Nat),k+d=ls.length->iter (sU ls) (dZ<|cH<|ls.take k,(k:Int))=some (dZ<|cH ls):=by
  intro d
  induction d with
  | zero=>
   intro k i;have:k=ls.length:=by omega
   subst this;rw[fv];refine zq ?_;unfold sU;rw[ϙ si]
  | succ d ih=>
   intro k i;have hlt:k<ls.length:=by omega
   have m:ls[k]?=some ls[k]:=cn hlt;have j:ls.take (k+1)=ls.take k++[ls[k]]:=by rw[List.take_succ_eq_append_getElem hlt]
   have b:(cH<|ls.take (k+1)).length<=(cH ls).length:=by
    have:=O_ ls 0 (k+1);exact w8
   have e:cH (ls.take (k+1))=cH (ls.take k)++(ls[k]++[10]):=by rw[j,BL];simp[cH]
   rw[e]at b;simp only[dt,du,dz]at b;have f:aB ((k:Int)+1)=((k+1:Nat):Int):=ψ
   have c1:dO ls[k] [10]=some (ls[k]++[10]):=F3
   have c2:aX 1 (dZ<|cH<|ls.take k) (dZ (ls[k]++[10]))=some (dZ<|cH<|ls.take (k+1)):=by
    rw[zO (bytes:=1) (by simp[dZ];omega) (by simp[dZ];omega),e];simp[dZ]
   have hs:sU ls (dZ<|cH<|ls.take k,(k:Int))=some (.inl (dZ<|cH<|ls.take (k+1),((k+1:Nat):Int))):=by
    unfold sU;rw[Ϙ so];simp only[zr m,gy,c1,c2,f]
   rw[zp hs];exact ih (k+1) om
 have h:=key ls.length 0 om;unfold AU Mc;have l:∀s:List UInt8,f_ (dZ s)=s:=λs=>by
  induction s with
  | nil=>rfl
  | cons a s ih=>
   have c:f_ (dZ (a::s))=(UInt8.ofNat (a.toNat:Int).toNat)::f_ (dZ s):=rfl;rw[c,ih];simp
 have c:dZ (cH<|ls.take 0)=[]:=rfl;rw[c]at h;rw[show((0:Nat):Int)=0 from rfl]at h;rw[h];simp[l]
def fw(w l:List UInt8):Bool:=match zA l []with
 |[]=>false
 | a::_=>(a=w:Ϛ)
def RP{ls:List (List UInt8)}(hn:ls.length<=30000)(hl:∀l∈ls,l.length<=20000)w:∀(d f:Nat),f+d=ls.length->
  ∃r:Nat,f<=r/\r<=ls.length/\iter (kF ls w) (f:Int)=some (if r<ls.length then .inr (r:Int)else .inl ())/\iter (rY ls w) (f:Int)=some (if r<ls.length then .inr (r:Int)else .inl ())/\
   ∀x,ls[r]?=some x->fw w x=true:=by
 intro d
 induction d with
 | zero=>
  intro f n;refine⟨f,gd _,by omega,?_,?_,λx i=>?_⟩
  ·rw[ϙ om];refine zq ?_;unfold kF;rw[ϙ so]
  ·rw[ϙ om];refine zq ?_;unfold rY;rw[ϙ so]
  ·rw[co om]at i;cases i
 | succ d ih=>
  intro f n;have hlt:f<ls.length:=by omega
  have i:ls[f]?=some ls[f]:=cn hlt;have u:=hl _<|dm hlt;have j:aB ((f:Int)+1)=((f+1:Nat):Int):=ψ
  have k:((f:Int)<(ls.length:Int):Ϛ)=true:=x5
  have hS:kF ls w (f:Int)=some (if fw w ls[f]=true then .inr (.inr (f:Int))else .inl ((f+1:Nat):Int)):=by
   unfold kF ti fw;simp only[k,Ϡ,zr i,gy,ke ls[f] om,j];cases zA ls[f] []with
   | nil=>rfl
   | cons a r=>
    rw[Ϙ si];have:idx (a::r) 0=some a:=rfl;simp only[this,gy];by_cases h:a=w<;>simp[h]
  have m:rY ls w (f:Int)=some (if fw w ls[f]=true then .inr (.inr (f:Int))else .inl ((f+1:Nat):Int)):=by
   unfold rY xX fw;simp only[k,Ϡ,zr i,gy,iX ls[f] om,j];cases zA ls[f] []with
   | nil=>rfl
   | cons a r=>
    rw[Ϙ si];have:idx (a::r) 0=some a:=rfl;simp only[this,gy];by_cases h:a=w<;>simp[h]
  by_cases c:fw w ls[f]=true
  ·rw[Ϙ c]at hS m;refine⟨f,gd _,by omega,?_,?_,λx b=>?_⟩
   ·rw[Ϙ hlt];exact zq hS
   ·rw[Ϙ hlt];exact zq m
   ·rw[i]at b;injection b with b;rw[←b];exact c
  ·rw[ϙ c]at hS m;obtain⟨r,B,v,A,y,z⟩:=ih (f+1) om;exact⟨r,by omega,v,by rw[zp hS];exact A,by rw[zp m];exact y,z⟩
def NN{ls:List (List UInt8)}(hn:ls.length<=30000)(hl:∀l∈ls,l.length<=20000)w b(hb:b<ls.length):
  ∃r:Nat,b+1<=r/\r<=ls.length/\jY ls ((b+1:Nat):Int) w=some (r:Int)/\tB ls (b:Int) w=some (if r<ls.length then(r:Int)else -1)/\∀x,ls[r]?=some x->fw w x=true:=by
 obtain⟨r,f,c,j,d,i⟩:=RP hn hl w (ls.length - (b+1)) (b+1) om;have a:aB ((b:Int)+1)=((b+1:Nat):Int):=ψ
 refine⟨r,f,c,?_,?_,i⟩
 ·unfold jY LD;rw[j];by_cases h:r<ls.length
  ·rw[Ϙ h];rfl
  ·rw[ϙ h];have:r=ls.length:=by omega
   subst this;rfl
 ·unfold tB Lv;rw[a,d];by_cases h:r<ls.length
  ·rw[Ϙ h,Ϙ h];rfl
  ·rw[ϙ h,ϙ h];rfl
def Pz{ls:List (List UInt8)}(hn:ls.length<=30000)(hl:∀l∈ls,l.length<=20000)(w:List UInt8)(f:Nat)(x:List UInt8)(hx:ls[f]?=some x)(h:fw w x=false):jY ls (f:Int) w=jY ls ((f+1:Nat):Int) w:=by
 have hlt:=(cv.1 hx).1;have d:=hl x<|fe hx;have c:aB ((f:Int)+1)=((f+1:Nat):Int):=ψ
 have b:((f:Int)<(ls.length:Int):Ϛ)=true:=x5
 have hS:kF ls w (f:Int)=some (.inl ((f+1:Nat):Int)):=by
  unfold fw at h;unfold kF ti;simp only[b,Ϡ,zr hx,gy,ke x om,c];cases hW:zA x []with
  | nil=>rfl
  | cons a r=>
   rw[hW]at h;rw[Ϙ si];have:idx (a::r) 0=some a:=rfl;simp only[this,gy];have:¬a=w:=϶ h
   simp[this]
 unfold jY;rw[zp hS]
abbrev fJ:List UInt8:=[97,116]
noncomputable def rm(set:TSet)(ts:List aP)(line:List UInt8):Option (Int×List aP):=match zA line []with
 |[a,b,c]=>if a=fJ then qp set ts b c else some (6,ts)
 | _=>some (6,ts)
section
variable {set:TSet} {pl ts:List aP} {line:List UInt8}
def Us(hst:set.2.length<=100000)(hp:ts.Perm pl)(hw:PW ts)(h5:pl.length<=500)(hl:line.length<=20000):
  (∃c x y,pD (fJ,(set,pl)) line=some (c,x)/\rm set ts line=some (c,y)/\c≠0) \/
  ∃pl' ts',pD (fJ,(set,pl)) line=some (0,(fJ,(set,pl')))/\rm set ts line=some (0,ts')/\ts'.Perm pl'/\PW ts'/\pl'.length<=500:=by
 have f:=kS line [] si;have w:=iX line om;obtain⟨W,Q⟩:∃W,W=zA line []:=⟨_,rfl⟩;unfold rm;rw[←Q]at f w ⊢;have i:mV (fJ,(set,pl)) W true=some (6,(fJ,(set,pl))):=rfl;unfold pD;simp only[w,gy]
 match W,f,i with
 |[],_,i=>exact .inl ⟨6,_,_,i,rfl,by omega⟩
 |[a],_,i=>exact .inl ⟨6,_,_,i,rfl,by omega⟩
 |[a,b],_,i=>exact .inl ⟨6,_,_,i,rfl,by omega⟩
 | a::b::c::d::l,_,i=>
  rw[Ϙ so];exact .inl ⟨6,_,_,i,rfl,by omega⟩
 |[w0,a,b],f,i=>
  rw[ϙ si];simp only[eN,gy];by_cases A:w0=fJ
  rotate_left
  ·rw[ϙ A];have e:(!(w0=fJ:Ϛ))=true:=by simp[A]
   show(∃c x y,mV (fJ,(set,pl)) [w0,a,b] (!(w0=fJ:Ϛ))=some (c,x)/\_)\/_;rw[e];exact .inl ⟨6,_,_,i,rfl,by omega⟩
  ·rw[Ϙ A];have e:(!(w0=fJ:Ϛ))=false:=by simp[A]
   have v:∀z,pn (fJ,(set,pl)) (a++[32]++b)=some z->mV (fJ,(set,pl)) [w0,a,b] (!(w0=fJ:Ϛ))=some (z.1,(fJ,(set,z.2.2.2))):=λz R=>by
    obtain⟨a1,a2,a3⟩:=f.2 a si;obtain⟨b1,b2,b3⟩:=f.2 b si;simp only[dz,Ϩ]at a3 b3;unfold mV;rw[e,ϙ si];have c1:dO a [32]=some (a++[32]):=(by unfold dO;rw[Ϙ so])
    have c2:dO (a++[32]) b=some (a++[32]++b):=(by unfold dO;rw[Ϙ so])
    simp only[h_,pg,gy,c1,c2,R]
   obtain⟨a1,a2,a3⟩:=f.2 a si;obtain⟨b1,b2,b3⟩:=f.2 b si;simp only[dz,Ϩ]at a3 b3;have G:zR (a++[32]++b)=some [a,b]:=by rw[iX _ so,OD a1 b1 a2 b2]
   obtain⟨r,T,F,P⟩:=MY b om;have I:mQ set a=il set a:=by rw[Nb]
   have B:(∃c x y,pn (fJ,(set,pl)) (a++[32]++b)=some (c,x)/\qp set ts a b=some (c,y)/\c≠0) \/
     ∃x ts',pn (fJ,(set,pl)) (a++[32]++b)=some (0,x)/\qp set ts a b=some (0,ts')/\ts'.Perm x.2.2/\PW ts'/\x.2.2.length<=500:=by
    unfold pn qp;simp only[G,gy,eN,h_,T,F,I];have H:((([a,b].length:Nat):Int)=2:Ϛ)=true:=by simp
    simp only[H,av,aq,ϟ];cases hok:r.2 with
    | false=>
     rcases mj set om a with⟨e,_⟩ |⟨k,e,_⟩
     ·rw[e];exact .inl ⟨6,_,_,rfl,rfl,by omega⟩
     ·rw[e];exact .inl ⟨6,_,_,rfl,rfl,by omega⟩
    | true=>
     rcases mj set om a with⟨e,_⟩ |⟨k,e,hkl,_⟩
     ·rw[e];exact .inl ⟨3,_,_,rfl,rfl,by omega⟩
     ·have N:=hp.length_eq;obtain⟨j,U,n⟩:=Bn hw.srt om r.1;obtain⟨c,M,C⟩:=NA pl om r.1;have J:((k:Int)<0:Ϛ)=false:=(by rw[Ϝ];omega)
      simp only[e,gy,av,aq,ϟ,J,U,M];cases c with
      | true=>
       obtain⟨x,D,h⟩:=C.1 rfl;rcases n with⟨A,_⟩ |⟨_,m⟩
       ·have u:(j≥0:Ϛ)=true:=(by rw[ϛ];omega)
        simp only[u,Ϡ,gy];exact .inl ⟨7,_,_,rfl,rfl,by omega⟩
       ·exact x4 h<|m x<|hp.mem_iff.2 D
      | false=>
       have m:∀x∈ts,x.1≠r.1:=λx D h=>by
        have:=C.2 ⟨x,hp.mem_iff.1 D,h⟩;cases this
       rcases n with⟨_,x,D,h⟩ |⟨rfl,_⟩
       ·exact x4 h<|m x<|fe D
       ·have u:((-1:Int)≥0:Ϛ)=false:=by decide
        simp only[u,aq,ϟ];by_cases O:pl.length≥500
        ·have c1:((pl.length:Int)≥500:Ϛ)=true:=(by rw[ϛ];omega)
         have c2:((ts.length:Int)=500:Ϛ)=true:=(by rw[ϛ];omega)
         simp only[c1,c2,Ϡ,gy];exact .inl ⟨4,_,_,rfl,rfl,by omega⟩
        ·have c1:((pl.length:Int)≥500:Ϛ)=false:=(by rw[Ϝ];omega)
         have c2:((ts.length:Int)=500:Ϛ)=false:=(by rw[Ϝ];omega)
         simp only[c1,c2,aq,ϟ,BQ ts (by omega:ts.length<=100000),zO (bytes:=24) (l:=pl) (l2:=[(r.1,(k:Int))]) so so,gy];exact .inr ⟨_,fC (r.1,(k:Int)) ts,rfl,rfl,(qS _ _).trans<|hp.append_right _,Cq hw λy S=>m y S,(by simp;omega)⟩
   rcases B with⟨c,x,y,L,E,M⟩ |⟨x,ts',L,E,h3,h4,O⟩
   ·exact .inl ⟨c,_,y,v _ L,E,M⟩
   ·exact .inr ⟨x.2.2,ts',v _ L,E,h3,h4,O⟩
def PG{lines:List (List UInt8)}{b0:Nat}(hb:b0<=30000)(hn:lines.length<=30000)(hl:∀l∈lines,l.length<=20000)(hst:set.2.length<=100000):
  (∃(ln:Nat)(c:Int),uF set lines (b0:Int)=some ([],Er.line ((b0+ln:Nat):Int) c)/\tJ set lines=some ([],(ln:Int),c)/\c≠0/\1<=ln/\ln<=lines.length) \/
  ∃ts,uF set lines (b0:Int)=some (ts,Er.nil)/\tJ set lines=some (ts,0,0)/\ts.length<=500:=by
 have key:∀(d k:Nat)(pl ts:List aP),k+d=lines.length->ts.Perm pl->PW ts->pl.length<=500->
   (∃(ln:Nat)(c:Int),iter (qd set lines (b0:Int)) ((k:Int),pl)=some (.inr ([],Er.line ((b0+ln:Nat):Int) c))/\iter (px set lines) ((k:Int),ts)=some (.inr ([],(ln:Int),c))/\c≠0/\1<=ln/\ln<=lines.length) \/
   ∃pl' ts',iter (qd set lines (b0:Int)) ((k:Int),pl)=some (.inl pl')/\iter (px set lines) ((k:Int),ts)=some (.inl ts')/\ts'.Perm pl'/\PW ts'/\pl'.length<=500:=by
  intro d
  induction d with
  | zero=>
   intro k pl ts I hp C B;refine .inr ⟨pl,ts,zq ?_,zq ?_,hp,C,B⟩
   ·unfold qd;rw[ϙ so]
   ·unfold px;rw[ϙ so]
  | succ d ih=>
   intro k pl ts I hp C B;have hlt:k<lines.length:=by omega
   have G:lines[k]?=some lines[k]:=cn hlt;have w:=hl _<|dm hlt;have D:aB ((b0:Int)+(k:Int))=((b0+k:Nat):Int):=ψ
   have A:aB (((b0+k:Nat):Int)+1)=((b0+(k+1):Nat):Int):=ψ
   have j:aB ((k:Int)+1)=((k+1:Nat):Int):=ψ
   have n:((k:Int)<(lines.length:Int):Ϛ)=true:=x5
   have F:∀z,pD (fJ,(set,pl)) lines[k]=some z->qd set lines (b0:Int) ((k:Int),pl) =
     if !(z.1=0:Ϛ)then some (.inr<|.inr ([],Er.line ((b0+(k+1):Nat):Int) z.1))else some (.inl (((k+1:Nat):Int),z.2.2.2)):=by
    intro z f;unfold qd;simp only[n,Ϡ,zr G,gy,f,D,j,A]
   have hS:∀z,rm set ts lines[k]=some z->px set lines ((k:Int),ts) =
     if !(z.1=0:Ϛ)then some (.inr<|.inr ([],((k+1:Nat):Int),z.1))else some (.inl (((k+1:Nat):Int),z.2)):=by
    intro z f;unfold px;simp only[n,Ϡ,zr G,gy,ke lines[k] om];unfold rm at f;have u:pQ ((k:Int),ts) 6 ts=some (.inr<|.inr ([],((k+1:Nat):Int),6)):=by
     unfold pQ;rw[Ϙ (by decide),j]
    have m:∀W,pP set ((k:Int),ts) W false=some (.inr<|.inr ([],((k+1:Nat):Int),6)):=λW=>by
     unfold pP;rw[ϙ si];exact u
    match hW:zA lines[k] [],f with
    |[],f=>injection f with f;subst f;exact m []
    |[a],f=>injection f with f;subst f;exact m [a]
    |[a,b],f=>injection f with f;subst f;exact m [a,b]
    | a::b::c::e::l,f=>
     injection f with f;subst f
     rw[ϙ so];exact m (a::b::c::e::l)
    |[a,b,c],f=>
     rw[Ϙ si];simp only[eN,gy];simp only at f;by_cases v:a=fJ
     ·rw[Ϙ v]at f;have e:(a=([97,116]:List UInt8):Ϛ)=true:=϶ v
      rw[e];unfold pP;rw[Ϙ rfl];simp only[h_,pg,gy,f];unfold pQ;simp only[j]
     ·rw[ϙ v]at f;have e:(a=([97,116]:List UInt8):Ϛ)=false:=϶ v
      rw[e];injection f with f;subst f;exact m [a,b,c]
   rcases Us (line:=lines[k]) hst hp C B w with⟨c,x,y,i,h,r⟩ |⟨pl',ts',i,h,h3,h4,u⟩
   ·refine .inl ⟨k+1,c,zq ?_,zq ?_,r,by omega,by omega⟩
    ·rw[F _ i,Ϙ (by simp[r])]
    ·rw[hS _ h,Ϙ (by simp[r])]
   ·have H:=F _ i;have E:=hS _ h;rw[ϙ si]at H E;rw[zp H,zp E];exact ih (k+1) pl' ts' om h3 h4 u
 unfold uF tJ;rcases key lines.length 0 [] [] om (.refl _) .nil si with⟨ln,c,i,h,r,l1,l2⟩ |⟨pl',ts',i,h,h3,h4,u⟩
 ·rw[show((0:Nat):Int)=0 from rfl]at i h;rw[i,h];exact .inl ⟨ln,c,rfl,rfl,r,l1,l2⟩
 ·rw[show((0:Nat):Int)=0 from rfl]at i h;rw[i,h];have:=h3.length_eq;refine .inr ⟨ts',?_,rfl,by omega⟩;show Aj pl'=_;unfold Aj;rw[Gm om h3 h4];rfl
end
def zzL{ws}(hw:∀w∈ws,w.length<=20000):DN ws=sf ws:=by
 funext s;unfold DN sf;cases hx:idx ws s.2 with
 | none=>simp only[hx,Jb4]
 | some x=>
  have hm:x∈ws:=by
   unfold idx at hx;split at hx
   ·exact fe hx
   ·cases hx
  have:=hw x hm;obtain⟨r,a,b,_⟩:=lV x om;simp only[hx,gy,a,b]
def PL{ws:List (List UInt8)}(hn:ws.length<=30000)(hw:∀w∈ws,w.length<=20000):∃r,yF ws=some r/\Ab ws=some r/\r.1.length<=ws.length:=by
 obtain⟨z,j,b⟩:=zy (F:=sf ws) (λs=>∃i:Nat,s.2=(i:Int)/\i<=ws.length/\s.1.length=i) (λs=>((ws.length:Int) - s.2).toNat) (λz=>match z with | .inl l=>l.length<=ws.length | .inr r=>r.1.length<=ws.length) (by
  rintro⟨f,s⟩ ⟨i,e,hi,hl⟩;simp only at e hl;subst e;unfold sf;by_cases hlt:i<ws.length
  ·have h:ws[i]?=some ws[i]:=cn hlt;have c:=hw _<|dm hlt;obtain⟨r,k,d,_⟩:=lV ws[i] om;rw[Ϙ so];simp only[zr h,gy,d];cases r.2 with
   | false=>exact .inr ⟨_,rfl,by simp⟩
   | true=>
    rw[zO (bytes:=8) so so];simp only[av,aq,ϟ,gy];have a:aB ((i:Int)+1)=((i+1:Nat):Int):=ψ
    exact .inl ⟨_,rfl,⟨i+1,a,by omega,by simp[hl]⟩,by simp only[a];omega⟩
  ·rw[ϙ so];exact .inr ⟨_,rfl,ϖ⟩) ([],0) ⟨0,rfl,Ϧ _,rfl⟩
 unfold yF Ab;rw[zzL hw,j];cases z with
 | inl l=>exact⟨(l,true),rfl,rfl,b⟩
 | inr r=>exact⟨r,rfl,rfl,b⟩
abbrev L4:List (List UInt8):=[[112,117,116],[111,116,104,101,114],[112,97,114,116],[102,108,111,119]]
def dK(w:List UInt8):Int:=if[112,117,116]=w then 0 else if[111,116,104,101,114]=w then 1 else if[112,97,114,116]=w then 2 else if[102,108,111,119]=w then 3 else -1
def NV w:uj L4 w=some (dK w):=by
 have st:∀(i:Nat) x,L4[i]?=some x->lL L4 w (i:Int)=if x=w then some (.inr<|.inr (i:Int))else some (.inl ((i+1:Nat):Int)):=λi x k=>by
  have n:=(cv.1 k).1;simp only[du,dz]at n;have m:aB ((i:Int)+1)=((i+1:Nat):Int):=ψ
  unfold lL;rw[Ϙ so];simp only[zr k,gy,m];by_cases h:x=w<;>simp[h]
 have s0:=st 0 _ rfl;have d:=st 1 _ rfl;have s2:=st 2 _ rfl;have a:=st 3 _ rfl;have l:lL L4 w ((4:Nat):Int)=some (.inr<|.inl ()):=by unfold lL;rw[ϙ (by decide)]
 unfold uj LA dK;rw[show(0:Int)=((0:Nat):Int)from rfl];by_cases f:[112,117,116]=w
 ·rw[Ϙ f]at s0;rw[zq s0,Ϙ f];rfl
 rw[ϙ f]at s0;rw[zp s0,ϙ f];by_cases c:[111,116,104,101,114]=w
 ·rw[Ϙ c]at d;rw[zq d,Ϙ c];rfl
 rw[ϙ c]at d;rw[zp d,ϙ c];by_cases b:[112,97,114,116]=w
 ·rw[Ϙ b]at s2;rw[zq s2,Ϙ b];rfl
 rw[ϙ b]at s2;rw[zp s2,ϙ b];by_cases j:[102,108,111,119]=w
 ·rw[Ϙ j]at a;rw[zq a,Ϙ j];rfl
 rw[ϙ j]at a;rw[zp a,ϙ j,zq l];rfl
def PJ w:yW L4 w=some (dK w):=by
 rw[←NV];unfold yW uj;have:DM L4 w=lL L4 w:=by
  funext s;unfold DM lL;cases idx L4 s with
  | none=>rfl
  | some x=>
   simp only[gy];by_cases h:x=w
   ·subst h;rfl
   ·have h':¬w=x:=B6 h;simp only[Ϣ h,Ϣ h']
 rw[this];cases iter (lL L4 w) 0 with
 | none=>rfl
 | some z=>cases z<;>rfl
def Qt w:dK w = -1\/dK w=0\/dK w=1\/dK w=2\/dK w=3:=by
 unfold dK
 repeat' split
 all_goals simp
structure PInv(n:Nat)(p:fO)(st:Int):Prop where
 k:1<=p.1/\p.1<=6
 s0:0<=st
 s3:st<=3
 e:st<=1->p.2.2.2.1=[]
 f:st=2->p.2.2.2.1≠[]
 l1:p.2.1.length<=n
 l2:p.2.2.1.length<=n
 l3:p.2.2.2.1.length<=30000
 l4:p.2.2.2.2.length<=n
 l5:∀x∈p.2.2.2.2,x.length<=30000
def Jn{d:Type}{l:List d}(h:l.length=3):∃a b c,l=[a,b,c]:=by
 match l,h with
 |[a,b,c],_=>exact⟨a,b,c,rfl⟩
def PH{n p st w0 ws}(hn:n<=30000)(h:PInv n p st){line:List UInt8}(hl:line.length<=20000)(hW:zA line []=w0::ws):
  (∃x a y,zQ (p,st) line=some (6,x)/\nj p (w0::ws) (st+1)=some (a,false,y)) \/
  ∃p' st',zQ (p,st) line=some (0,(p',st'))/\nj p (w0::ws) (st+1)=some (st'+1,true,p')/\PInv (n+1) p' st'/\p'.1=p.1:=by
 have m:=kS line [] si;have u:=iX line om;rw[hW]at m u;simp only[du,dz,Ϩ]at m;obtain⟨k,d,ot,pt,fl⟩:=p;obtain⟨⟨i,f⟩,s0,X,B,J,l1,l2,Q,S,v⟩:=h;simp only at i f B J l1 l2 Q S v;obtain⟨r,N,U,V⟩:=PL (ws:=ws) om (λw R=>by have:=(m.2 w (by simp[R])).2.2;omega);have j:bB (w0::ws) 1 (((w0::ws).length:Nat):Int)=some ws:=by
  have:=qR (s:=w0::ws) (k:=1) si;exact w8
 have E:(k=0:Ϛ)=false:=x9
 have T:zQ ((k,d,ot,pt,fl),st) line=if !r.2 then mX ((k,d,ot,pt,fl),st) (dK w0) r true else mX ((k,d,ot,pt,fl),st) (dK w0) r (dK w0<st:Ϛ):=by
  unfold zQ;simp only[u,gy,E,aq,ϟ];rw[ϙ so];simp only[eN,gy,PJ w0,j,N]
 have hS:nj (k,d,ot,pt,fl) (w0::ws) (st+1)=if !r.2 then some (0,false,(k,d,ot,pt,fl))else(if((aB<|dK w0+1)<st+1:Ϛ)then(zx (k,d,ot,pt,fl) r (dK w0) true)else(if((aB<|dK w0+1)<1:Ϛ)then(zx (k,d,ot,pt,fl) r (dK w0) true)else(if((aB<|dK w0+1)=3:Ϛ)then(if(st+1=3:Ϛ)then(zx (k,d,ot,pt,fl) r (dK w0) true)else(if((r.1.length:Int)=0:Ϛ)then(zx (k,d,ot,pt,fl) r (dK w0) true)else(if((aB<|dK w0+1)<3:Ϛ)then(zx (k,d,ot,pt,fl) r (dK w0)<|!((r.1.length:Int)=3:Ϛ))else(zx (k,d,ot,pt,fl) r (dK w0) false))))else(if((aB<|dK w0+1)<3:Ϛ)then(zx (k,d,ot,pt,fl) r (dK w0)<|!((r.1.length:Int)=3:Ϛ))else(zx (k,d,ot,pt,fl) r (dK w0) false))))):=by
  unfold nj;simp only[j,gy,U,eN,NV w0]
 rw[T,hS];have I:mX ((k,d,ot,pt,fl),st) (dK w0) r true=some (6,((k,d,ot,pt,fl),st)):=rfl;have eS:zx (k,d,ot,pt,fl) r (dK w0) true=some (0,false,(k,d,ot,pt,fl)):=rfl;cases hr2:r.2 with
 | false=>exact .inl ⟨_,_,_,rfl,rfl⟩
 | true=>
 simp only[av,aq,ϟ];have L:∀x:Int,-1<=x->x<=3->aB (x+1)=x+1:=λx _ _=>zt om om;have z:=Qt w0;obtain⟨q,P⟩:∃q,q=dK w0:=u3;rw[←P]at z I eS ⊢;rw[L q om om];by_cases hlt:q<st
 ·rw[Ϥ hlt,Ϙ so];exact .inl ⟨_,_,_,I,eS⟩
 rw[Ϣ hlt,ϙ so,ϙ so];unfold mX;simp only[aq,ϟ];rcases z with rfl | rfl | rfl | rfl | rfl
 ·omega
 ·
  simp only[show ((0:Int)<2:Ϛ)=true by decide,show ((0:Int)+1=3:Ϛ)=false by decide,show ((0:Int)+1<3:Ϛ)=true by decide,Ϡ,aq,ϟ];by_cases G:r.1.length=3
  ·obtain⟨a,b,c,e⟩:=Jn G;have d3:(((r.1.length:Nat):Int)=3:Ϛ)=true:=x5
   have D:st=0:=by omega
   subst D;rw[d3];unfold mW zx zS z1;simp only[e,av,aq,ϟ,Ϡ,eN,h_,pg,gy,Ϟ,zO (bytes:=24) (l:=d) (l2:=[((a,b),c)]) so so,show aB (0+1)=1 by decide,show ((1:Int)=1:Ϛ)=true by decide];exact P8 0
  ·have d3:(((r.1.length:Nat):Int)=3:Ϛ)=false:=x9
   rw[d3];exact .inl ⟨_,_,_,rfl,rfl⟩
 ·
  simp only[show ((1:Int)<2:Ϛ)=true by decide,show ((1:Int)+1=3:Ϛ)=false by decide,show ((1:Int)+1<3:Ϛ)=true by decide,Ϡ,aq,ϟ];by_cases G:r.1.length=3
  ·obtain⟨a,b,c,e⟩:=Jn G;have d3:(((r.1.length:Nat):Int)=3:Ϛ)=true:=x5
   rw[d3];unfold mW zx zS z1;simp only[e,av,aq,ϟ,Ϡ,eN,h_,pg,gy,zO (bytes:=24) (l:=ot) (l2:=[((a,b),c)]) so so,show aB (1+1)=2 by decide,show ((2:Int)=1:Ϛ)=false by decide,show ((2:Int)=2:Ϛ)=true by decide,show ((1:Int)=0:Ϛ)=false by decide];exact P8 1
  ·have d3:(((r.1.length:Nat):Int)=3:Ϛ)=false:=x9
   rw[d3];exact .inl ⟨_,_,_,rfl,rfl⟩
 ·
  simp only[show ((2:Int)<2:Ϛ)=false by decide,show ((2:Int)+1=3:Ϛ)=true by decide,show ((2:Int)+1<3:Ϛ)=false by decide,Ϡ,aq,ϟ];unfold mW;simp only[show ((2:Int)=2:Ϛ)=true by decide,Ϡ,aq,ϟ];by_cases O:r.1.length=0
  ·have F:(((r.1.length:Nat):Int)>0:Ϛ)=false:=x9
   have d1:(((r.1.length:Nat):Int)=0:Ϛ)=true:=x5
   rw[F,d1];refine .inl ⟨((k,d,ot,pt,fl),2),0,(k,d,ot,pt,fl),rfl,?_⟩;split<;>rfl
  ·have F:(((r.1.length:Nat):Int)>0:Ϛ)=true:=x5
   have d1:(((r.1.length:Nat):Int)=0:Ϛ)=false:=x9
   rw[F,d1];by_cases M:st=2
   ·subst M;have C:=J rfl;have d2:(((pt.length:Nat):Int)=0:Ϛ)=false:=by
     rw[Ϝ];intro e;exact C<|bl om
    rw[d2];exact .inl ⟨((k,d,ot,pt,fl),2),0,(k,d,ot,pt,fl),rfl,rfl⟩
   ·have H:=B om;subst H;have d4:(st+1=3:Ϛ)=false:=x9
    rw[d4];unfold pj zx zS z1;simp only[dz,show (((0:Nat):Int)=0:Ϛ)=true by decide,Ϡ,aq,ϟ,show aB (2+1)=3 by decide,show ((3:Int)=1:Ϛ)=false by decide,show ((3:Int)=2:Ϛ)=false by decide,show ((3:Int)=3:Ϛ)=true by decide];refine .inr ⟨_,2,rfl,rfl,⟨⟨i,f⟩,by omega,by omega,E9,λ_ e=>O (by rw[show r.1=[]from e];rfl),π,π,π,π,v⟩,rfl⟩
 ·
  simp only[show ((3:Int)<2:Ϛ)=false by decide,show ((3:Int)+1=3:Ϛ)=false by decide,show ((3:Int)+1<3:Ϛ)=false by decide,Ϡ,aq,ϟ];unfold mW pj zx zS z1;simp only[show ((3:Int)=2:Ϛ)=false by decide,show ((3:Int)=3:Ϛ)=true by decide,Ϡ,aq,ϟ,zO (bytes:=24) (l:=fl) (l2:=[r.1]) so so,gy,show aB (3+1)=4 by decide,show ((4:Int)=1:Ϛ)=false by decide,show ((4:Int)=2:Ϛ)=false by decide,show ((4:Int)=3:Ϛ)=false by decide,show ((4:Int)=4:Ϛ)=true by decide];refine .inr ⟨_,3,rfl,rfl,⟨⟨i,f⟩,by omega,by omega,E9,E9,π,π,π,π,λx A=>by rcases er.1 A with A | A;exact v x A;rw[fh.1 A];omega⟩,rfl⟩
def fM(w:List UInt8):Int:=if[103,114,111,119,110]=w then 1 else if[116,101,114,109,105,110,97,108]=w then 2 else if[117,110,105,113,117,101]=w then 3 else if[99,111,110,102,108,105,99,116]=w then 4 else if[115,116,97,98,108,101]=w then 5 else if[108,111,111,115,101]=w then 6 else 0
def jM:Nat->List UInt8
 | 1=>[103,114,111,119,110] | 2=>[116,101,114,109,105,110,97,108] | 3=>[117,110,105,113,117,101] | 4=>[99,111,110,102,108,105,99,116] | 5=>[115,116,97,98,108,101] | _=>[108,111,111,115,101]
def NL w:0<=fM w/\fM w<=6:=by
 unfold fM
 repeat' split
 all_goals omega
def Rr:∀i:Nat,1<=i->i<=6->Fl (i:Int)=some (jM i):=by
 intro i a b;have:i=1\/i=2\/i=3\/i=4\/i=5\/i=6:=by omega
 rcases this with rfl | rfl | rfl | rfl | rfl | rfl<;>rfl
def Rs:∀i:Nat,1<=i->i<=6->Fo (i:Int)=some (jM i):=by
 intro i a b;have:i=1\/i=2\/i=3\/i=4\/i=5\/i=6:=by omega
 rcases this with rfl | rfl | rfl | rfl | rfl | rfl<;>rfl
def Pu{e:Type}(w:List UInt8)(F:Int->Option (Int ⊕ e))(hit:Int->e)(miss:e)(hF:∀i:Nat,1<=i->i<=6->F (i:Int)=if jM i=w then some (.inr (hit (i:Int)))else some (.inl ((i+1:Nat):Int)))(hm:F ((7:Nat):Int)=some (.inr miss)):
  iter F 1=some (if fM w>0 then hit (fM w)else miss):=by
 have d:=hF 1 om om;have s2:=hF 2 om om;have b:=hF 3 om om;have c:=hF 4 om om;have f:=hF 5 om om;have a:=hF 6 om om;simp only[jM]at d s2 b c f a;unfold fM;rw[show(1:Int)=((1:Nat):Int)from rfl];by_cases h:[103,114,111,119,110]=w
 ·rw[Ϙ h]at d;rw[zq d,Ϙ h];rfl
 rw[ϙ h]at d;rw[zp d,ϙ h];clear h;by_cases h:[116,101,114,109,105,110,97,108]=w
 ·rw[Ϙ h]at s2;rw[zq s2,Ϙ h];rfl
 rw[ϙ h]at s2;rw[zp s2,ϙ h];clear h;by_cases h:[117,110,105,113,117,101]=w
 ·rw[Ϙ h]at b;rw[zq b,Ϙ h];rfl
 rw[ϙ h]at b;rw[zp b,ϙ h];clear h;by_cases h:[99,111,110,102,108,105,99,116]=w
 ·rw[Ϙ h]at c;rw[zq c,Ϙ h];rfl
 rw[ϙ h]at c;rw[zp c,ϙ h];clear h;by_cases h:[115,116,97,98,108,101]=w
 ·rw[Ϙ h]at f;rw[zq f,Ϙ h];rfl
 rw[ϙ h]at f;rw[zp f,ϙ h];clear h;by_cases h:[108,111,111,115,101]=w
 ·rw[Ϙ h]at a;rw[zq a,Ϙ h];rfl
 rw[ϙ h]at a;rw[zp a,ϙ h,zq hm];rfl
def On w:ur w=some (fM w):=by
 have h:=Pu w (ya w) (λi=>.inr i) (.inl ()) (λi d c=>by
  have b:aB ((i:Int)+1)=((i+1:Nat):Int):=ψ
  unfold ya;rw[Ϙ so];simp only[Rr i d c,gy,b];by_cases h:jM i=w<;>simp[h]) (by unfold ya;rw[ϙ (by decide)])
 unfold ur Mb;rw[h];have:=NL w;by_cases a:fM w>0
 ·rw[Ϙ a];rfl
 ·rw[ϙ a,show fM w=0 by omega];rfl
abbrev vm:List UInt8:=[112,114,111,111,102]
def eI(W:List (List UInt8)):Int:=match W with
 |[a,b]=>if a=vm then fM b else 0
 | _=>0
def zyS(W:List (List UInt8)):0<=eI W/\eI W<=6:=by
 unfold eI;split
 ·split
  ·exact NL _
  ·omega
 ·omega
abbrev Zp:fO:=(0,[],[],[],[])
def PB(W:List (List UInt8)):pC (Zp,0) W=some (if eI W>0 then(0,((eI W,([],[],[],[])),0))else(6,(Zp,0))):=by
 have m:(∀(i:Nat),1<=i->i<=6->zG (Zp,0) W ((i:Int),0)=some (.inl (((i+1:Nat):Int),0)))->eI W=0->pC (Zp,0) W=some (if eI W>0 then(0,((eI W,([],[],[],[])),0))else(6,(Zp,0))):=λh u=>by
  rw[u,ϙ om];unfold pC;rw[show(1:Int)=((1:Nat):Int)from rfl];rw[zp<|h 1 om om,zp<|h 2 om om,zp<|h 3 om om,zp<|h 4 om om,zp<|h 5 om om,zp<|h 6 om om];rw[zq (show zG (Zp,0) W (((6+1:Nat):Int),0)=some (.inr<|.inl 0) by unfold zG;rw[ϙ (by decide)])];rfl
 have v:∀i:Nat,1<=i->i<=6->aB ((i:Int)+1)=((i+1:Nat):Int):=λi f k=>ψ
 by_cases k:W.length=2
 ·match W,k with
  |[a,b],_=>
   by_cases r:a=vm
   ·have n:∀i:Nat,1<=i->i<=6->zG (Zp,0) [a,b] ((i:Int),0)=if jM i=b then some (.inr<|.inr (0,(((i:Int),([],[],[],[])),0)))else some (.inl (((i+1:Nat):Int),0)):=λi f k=>by
     unfold zG mU;rw[Ϙ so,Ϙ si];simp only[eN,h_,gy,Rs i f k,v i f k];have da:(a=([112,114,111,111,102]:List UInt8):Ϛ)=true:=϶ r
     simp only[da,Ϡ];by_cases h:jM i=b
     ·subst h;simp
     ·have:¬b=jM i:=B6 h;simp[this,h]
    have key:∀(d i:Nat),i+d=7->1<=i->(∀j:Nat,1<=j->j<i->jM j≠b)->iter (zG (Zp,0) [a,b]) ((i:Int),0)=some (if fM b>0 then .inr (0,((fM b,([],[],[],[])),0))else .inl 0):=by
     intro d
     induction d with
     | zero=>
      intro i hi f c;have:i=7:=by omega
      subst this;have l:fM b=0:=by
       have a1:=c 1 om om;have a2:=c 2 om om;have a3:=c 3 om om;have a4:=c 4 om om;have a5:=c 5 om om;have a6:=c 6 om om;simp only[jM,ne_eq]at a1 a2 a3 a4 a5 a6;unfold fM;rw[ϙ a1,ϙ a2,ϙ a3,ϙ a4,ϙ a5,ϙ a6]
      rw[l,ϙ om];exact zq (by unfold zG;rw[ϙ (by decide)])
     | succ d ih=>
      intro i hi f c;have hs:=n i f om;by_cases h:jM i=b
      ·rw[Ϙ h]at hs;have l:fM b=(i:Int):=by
        subst h;have:i=1\/i=2\/i=3\/i=4\/i=5\/i=6:=by omega
        rcases this with rfl | rfl | rfl | rfl | rfl | rfl<;>rfl
       rw[zq hs,l,Ϙ om]
      ·rw[ϙ h]at hs;rw[zp hs];exact ih (i+1) om om λj f k=>by
        by_cases e:j=i
        ·subst e;exact h
        ·exact c j f om
    have u:=key 6 1 om om (λj f k=>by omega);unfold pC eI;rw[show((1:Nat):Int)=1 from rfl]at u;show((iter (zG (Zp,0) [a,b]) (1,0)).bind _)=_;rw[u];simp only[r,Ϡ];by_cases l:fM b>0
    ·rw[Ϙ l,Ϙ l];rfl
    ·rw[ϙ l,ϙ l];rfl
   ·refine m (λi f k=>?_) (by unfold eI;simp only;rw[ϙ r]);unfold zG mU;rw[Ϙ so,Ϙ si];have da:(a=([112,114,111,111,102]:List UInt8):Ϛ)=false:=϶ r
    simp only[eN,gy,da,v i f k,aq,ϟ]
 ·refine m (λi f w=>?_) (by
   unfold eI;split
   ·exact x4 rfl k
   ·rfl)
  unfold zG mU;rw[Ϙ so,ϙ so];simp only[v i f w,aq,ϟ]
def zyp{lines:List (List UInt8)}{b0:Nat}(hb:b0<=30000)(hn:lines.length<=30000)(hl:∀l∈lines,l.length<=20000):
  (∃ln:Nat,pM lines (b0:Int)=some (Zp,Er.line ((b0+ln:Nat):Int) 6)/\pH lines=some (Zp,(ln:Int),6)/\1<=ln/\ln<=lines.length+1) \/
  ∃p:fO,pM lines (b0:Int)=some (p,Er.nil)/\pH lines=some (p,0,0)/\1<=p.1/\p.1<=6/\p.2.1.length<=30001/\p.2.2.1.length<=30001/\p.2.2.2.1.length<=30001/\p.2.2.2.2.length<=30001/\∀x∈p.2.2.2.2,x.length<=30000:=by
 have key:∀(d i:Nat)(p:fO)(st:Int),i+d=lines.length->1<=i->PInv i p st->
   (∃ln:Nat,iter (zM lines (b0:Int)) ((i:Int),p.1,p.2.1,p.2.2.1,p.2.2.2.1,p.2.2.2.2,st)=some (.inr (Zp,Er.line ((b0+ln:Nat):Int) 6))/\iter (zN lines) (st+1,(i:Int),p)=some (.inr (Zp,(ln:Int),6))/\1<=ln/\ln<=lines.length+1) \/
   ∃(p':fO)(st':Int),iter (zM lines (b0:Int)) ((i:Int),p.1,p.2.1,p.2.2.1,p.2.2.2.1,p.2.2.2.2,st)=some (.inl (p'.1,p'.2.1,p'.2.2.1,p'.2.2.2.1,p'.2.2.2.2,st'))/\iter (zN lines) (st+1,(i:Int),p)=some (.inl p')/\PInv lines.length p' st':=by
  intro d
  induction d with
  | zero=>
   intro i p st hi S h;have:i=lines.length:=by omega
   subst this;refine .inr ⟨p,st,zq ?_,zq ?_,h⟩
   ·unfold zM;rw[ϙ si]
   ·unfold zN;rw[ϙ si]
  | succ d ih=>
   intro i p st hi S h;have hlt:i<lines.length:=by omega
   have F:lines[i]?=some lines[i]:=cn hlt;have C:=hl _<|dm hlt;have B:aB ((b0:Int)+(i:Int))=((b0+i:Nat):Int):=ψ
   have u:aB (((b0+i:Nat):Int)+1)=((b0+(i+1):Nat):Int):=ψ
   have f:aB ((i:Int)+1)=((i+1:Nat):Int):=ψ
   have j:((i:Int)<(lines.length:Int):Ϛ)=true:=x5
   have G:((i:Int)=0:Ϛ)=false:=x9
   have n:(p.1=0:Ϛ)=false:=by rw[Ϝ];have:=h.k;omega
   have r:∀z,zQ (p,st) lines[i]=some z->zM lines (b0:Int) ((i:Int),p.1,p.2.1,p.2.2.1,p.2.2.2.1,p.2.2.2.2,st) =
     if !(z.1=0:Ϛ)then some (.inr<|.inr (Zp,Er.line ((b0+(i+1):Nat):Int) z.1))else some (.inl (((i+1:Nat):Int),z.2.1.1,z.2.1.2.1,z.2.1.2.2.1,z.2.1.2.2.2.1,z.2.1.2.2.2.2,z.2.2)):=by
    intro z E;unfold zM;have N:zQ ((p.1,(p.2.1,(p.2.2.1,(p.2.2.2.1,p.2.2.2.2)))),st) lines[i]=some z:=E;simp only[j,Ϡ,zr F,gy,N,B,f,u]
   cases hW:zA lines[i] []with
   | nil=>
    refine .inl ⟨i+1,zq ?_,zq ?_,by omega,by omega⟩
    ·rw[r (6,(p,st)) (by unfold zQ;simp only[iX lines[i] om,hW,gy.1,n];rfl)];rfl
    ·unfold zN;simp only[j,Ϡ,zr F,gy,ke lines[i] om,hW,G,aq,ϟ];rw[ϙ (by decide)];unfold kG;simp[f]
   | cons w0 ws=>
    have hS:∀z,nj p (w0::ws) (st+1)=some z->zN lines (st+1,(i:Int),p) =
      if !z.2.1 then some (.inr<|.inr (Zp,((i+1:Nat):Int),6))else some (.inl (z.1,((i+1:Nat):Int),p.1,z.2.2.2.1,z.2.2.2.2.1,z.2.2.2.2.2.1,z.2.2.2.2.2.2)):=by
     intro z E;unfold zN;simp only[j,Ϡ,zr F,gy,ke lines[i] om,hW,G,aq,ϟ];rw[Ϙ si];simp only[E,gy];unfold kG;simp only[f]
    rcases PH om h C hW with⟨x,a,y,A,w⟩ |⟨p',st',A,w,m,J⟩
    ·refine .inl ⟨i+1,zq ?_,zq ?_,by omega,by omega⟩
     ·rw[r _ A];rfl
     ·rw[hS _ w];rfl
    ·have R:=r _ A;have Q:=hS _ w;rw[ϙ si]at R Q;rw[zp R,zp Q];rw[←J];exact ih (i+1) p' st' om om m
 by_cases P:lines=[]
 ·subst P;refine .inl ⟨1,?_,?_,by omega,by simp⟩
  ·unfold pM;rw[zq (show zM [] (b0:Int) (0,0,[],[],[],[],0)=some (.inr<|.inl (0,[],[],[],[],0)) by unfold zM;rw[ϙ si])];have f:aB ((b0:Int)+1)=((b0+1:Nat):Int):=ψ
   show pB (b0:Int) 0 [] [] [] [] 0=_;unfold pB;rw[Ϙ (by decide),f]
  ·unfold pH;rw[zq (show zN [] (1,0,0,[],[],[],[])=some (.inr<|.inl (0,[],[],[],[])) by unfold zN;rw[ϙ si])];rfl
 ·have hp:=ϥ.2 P;have F:lines[0]?=some lines[0]:=cn hp;have C:=hl _<|dm hp;have O:idx lines 0=some lines[0]:=zr (i:=0) F;have B:aB ((b0:Int)+(0:Int))=((b0:Nat):Int):=ψ
  have u:aB (((b0:Nat):Int)+1)=((b0+1:Nat):Int):=ψ
  have f:aB ((0:Int)+1)=((1:Nat):Int):=by decide
  have j:((0:Int)<(lines.length:Int):Ϛ)=true:=x5
  have I:=iX lines[0] om;have M:=ke lines[0] om;have T:=PB<|zA lines[0] [];have U:=zyS<|zA lines[0] [];have r:zM lines (b0:Int) (0,0,[],[],[],[],0)=if eI (zA lines[0] [])>0 then some (.inl (((1:Nat):Int),eI<|zA lines[0] [],[],[],[],[],0))else some (.inr<|.inr (Zp,Er.line ((b0+1:Nat):Int) 6)):=by
   have E:zQ (Zp,0) lines[0]=some (if eI (zA lines[0] [])>0 then((0:Int),((eI<|zA lines[0] [],([],[],[],[])),(0:Int)))else((6:Int),(Zp,(0:Int)))):=by
    unfold zQ;simp only[I,gy,Ϟ,Ϡ,T];by_cases h:eI (zA lines[0] [])>0
    ·simp only[h,Ϡ]
    ·simp only[h,ϟ]
   unfold zM;simp only[j,Ϡ,O,gy,E];by_cases h:eI (zA lines[0] [])>0
   ·rw[Ϙ h,Ϙ h];simp only[f];rfl
   ·rw[ϙ h,ϙ h];simp only[B,u];rfl
  have hS:zN lines (1,0,0,[],[],[],[])=if eI (zA lines[0] [])>0 then some (.inl (1,((1:Nat):Int),eI<|zA lines[0] [],[],[],[],[]))else some (.inr<|.inr (Zp,((1:Nat):Int),6)):=by
   have k:∀W,mL (1,0,0,[],[],[],[]) W false=some (.inr<|.inr (Zp,((1:Nat):Int),6)):=λW=>by
    unfold mL kG;simp only[aq,ϟ,ϵ,Ϡ,f]
   unfold zN;simp only[j,Ϡ,O,gy,M,Ϟ];generalize zA lines[0] []=W at *
   match W with
   |[]=>exact k []
   |[a]=>exact k [a]
   | a::b::c::l=>
    rw[ϙ so];exact k (a::b::c::l)
   |[a,b]=>
    rw[Ϙ si];simp only[eN,h_,gy,On];unfold eI;by_cases H:a=vm
    ·have da:(a=([112,114,111,111,102]:List UInt8):Ϛ)=true:=϶ H
     simp only[da,Ϡ,H];by_cases v:fM b>0
     ·rw[Ϙ v];have L:(fM b>0:Ϛ)=true:=϶ v
      rw[L];unfold mL kG;simp only[Ϡ,h_,gy,On,av,aq,ϟ,f,Ϟ]
     ·rw[ϙ v];have L:(fM b>0:Ϛ)=false:=϶ v
      rw[L];exact k [a,b]
    ·have da:(a=([112,114,111,111,102]:List UInt8):Ϛ)=false:=϶ H
     simp only[da,aq,ϟ];rw[ϙ H];simp only[show ¬((0:Int)>0) by omega,ϟ];exact k [a,b]
  unfold pM pH;by_cases h:eI (zA lines[0] [])>0
  ·rw[Ϙ h]at r hS;rw[zp r,zp hS];have D:PInv 1 (eI<|zA lines[0] [],[],[],[],[]) 0:=⟨⟨by omega,U.2⟩,by omega,by omega,λ_=>rfl,E9,by simp,by simp,by simp,by simp,by simp⟩;rcases key (lines.length - 1) 1 (eI<|zA lines[0] [],[],[],[],[]) 0 om om D with⟨ln,A,w,m,J⟩ |⟨p',st',A,w,m⟩
   ·refine .inl ⟨ln,?_,?_,m,J⟩
    ·rw[A];rfl
    ·rw[show(1:Int)=0+1 from rfl,w];rfl
   ·have v:=m.k;have n:(p'.1=0:Ϛ)=false:=x9
    refine .inr ⟨p',?_,?_,v.1,v.2,y5 m.l1,y5 m.l2,y5 m.l3,y5 m.l4,m.l5⟩
    ·rw[A];show pB (b0:Int) p'.1 p'.2.1 p'.2.2.1 p'.2.2.2.1 p'.2.2.2.2 st'=_;unfold pB;rw[n];rfl
    ·rw[show(1:Int)=0+1 from rfl,w];show DY p'.1 p'.2.1 p'.2.2.1 p'.2.2.2.1 p'.2.2.2.2=_;unfold DY;rw[n];rfl
  ·rw[ϙ h]at r hS;rw[zq r,zq hS];exact .inl ⟨1,rfl,rfl,by omega,by omega⟩
abbrev Ze:En:=([],Zs,[],Zp)
def iF:ES Ze:=⟨by simp,⟨by simp,by simp,by simp,by simp,by simp⟩,by simp,by simp,by simp,by simp,by simp,by simp,by simp⟩
abbrev TQ:List UInt8:=[101,110,116,114,121]
abbrev Uu:List UInt8:=[101,110,100]
def Pd{a:Type}{s:List a}{i j}(h1:i<=j)(h2:j<=s.length):bB s (i:Int) (j:Int)=some ((s.take j).drop i):=by
 unfold bB;rw[Ϙ om];simp
def Va{w l}(h:fw w l=true):∃ws,zA l []=w::ws:=by
 unfold fw at h;cases hW:zA l []with
 | nil=>rw[hW]at h;cases h
 | cons a r=>
  rw[hW]at h;have:a=w:=϶ h
  exact⟨r,by rw[this]⟩
section
variable {lines:List (List UInt8)}
noncomputable def lF(r:Option (En×Er)):Option (En×Int×Int):=r.bind λx42=>uH x42.2 1>>=λx79=>if !(x79.2=0:Ϛ)then(some (Ze,x79.1,x79.2))else(tF x42.1>>=λx86=>if !x86 then(some (Ze,0,10))else(some (x42.1,0,0)))
def qM{e l c}(h:c≠0):lF (some (e,Er.line l c))=some (Ze,l,c):=by
 unfold lF uH;simp[h]
def Tg(hn:lines.length<=30000)(hl:∀l∈lines,l.length<=20000)(h10:∀l∈lines,(10:UInt8)∉l)(hj:(cH lines).length<=20001)(h0:lines≠[]){a b}(hw:∀x,lines[0]?=some x->zA x []=[a,b]):
  ∃w,lF (lT lines [a,b] false)=some w/\lS lines [a,b] false=some w/\ES w.1:=by
 have hp:=ϥ.2 h0;have T:lines[0]?=some lines[0]:=cn hp;have U:=hw _ T;have D:=kS lines[0] [] si;rw[U]at D;have Y:b.length<=20000:=by have:=(D.2 b si).2.2;have:=hl _<|dm hp;simp only[dz,Ϩ]at *;omega
 unfold lT lS;simp only[aq,ϟ,h_,gy];obtain⟨d,a1,a2,a3,a4,a5⟩:=NN hn hl Uu 0 hp;rw[show((0+1:Nat):Int)=1 from rfl]at a3;rw[show((0:Nat):Int)=0 from rfl]at a4;simp only[a3,a4,gy];have A:∀x,lF (p_ lines b x (-1))=some (Ze,(lines.length:Int),6):=λx=>by
  unfold p_;rw[Ϙ (by decide)];exact qM (by decide)
 by_cases m:d<lines.length
 rotate_left
 ·
  have:d=lines.length:=by omega
  subst this;rw[ϙ (show ¬lines.length<lines.length by omega),ϙ (by decide)];have:jY lines (lines.length:Int) [112,114,111,111,102]=some (lines.length:Int):=by
   unfold jY;rw[zq (show kF lines [112,114,111,111,102] (lines.length:Int)=some (.inr<|.inl ()) by unfold kF;rw[ϙ si])];rfl
  simp only[this,gy];rw[Ϙ si];exact⟨_,A _,rfl,iF⟩
 rw[Ϙ m,Ϙ si];have u:lines[d]?=some lines[d]:=cn m;obtain⟨M,n⟩:=Va<|a5 _ u;obtain⟨f,b1,b2,b3,b4,b5⟩:=NN hn hl vm d m;have L:=Pz hn hl vm d lines[d] u (by unfold fw;rw[n];rfl);simp only[L,b3,b4,gy];by_cases N:f<lines.length
 rotate_left
 ·have:f=lines.length:=by omega
  subst this;rw[ϙ (show ¬lines.length<lines.length by omega),Ϙ si];exact⟨_,A _,rfl,iF⟩
 rw[Ϙ N,ϙ so];unfold p_;rw[ϙ si];have k:∀(i j:Nat),∀l∈(lines.take j).drop i,l∈lines:=λi j l h=>List.mem_of_mem_take<|List.mem_of_mem_drop h;have hA:bB lines 1 (d:Int)=some ((lines.take d).drop 1):=Pd (i:=1) om om;have J:(cH<|(lines.take d).drop 1).length<=20000:=by
  have h1:cH lines=lines[0]++10::cH (lines.drop 1):=by
   match lines,hp with
   | l::ls,_=>rfl
  have h2:(lines.take d).drop 1=(lines.drop 1).take (d - 1):=by rw[List.drop_take]
  have h3:=O_ (lines.drop 1) 0<|d - 1;simp only[List.drop_zero]at h3;rw[h2];rw[h1]at hj;simp only[dt,du]at hj;omega
 have F:((lines.take d).drop 1).length<=30000:=π
 have r:=QE F om;have y:=zyq (b0:=1) om F (λl h=>hl l<|k _ _ l h) J<|Nv λl h=>h10 l<|k _ _ l h;rw[show((1:Nat):Int)=1 from rfl]at y;simp only[hA,gy,r];rcases y with⟨ln,c,C,B,H,l1,l2⟩ |⟨C,B⟩ |⟨sys,C,B,hS,hAs,hT,hts⟩
 ·rw[C,B];simp only[gy];have G:ka (ln:Int) 1=some ((1+ln:Nat):Int):=by
   unfold ka;exact L8
  rw[Ϙ (by rfl),Ϙ (by simp[H]),G];exact⟨_,qM H,rfl,iF⟩
 ·rw[C,B];exact⟨_,rfl,rfl,iF⟩
 rw[C,B];simp only[gy];rw[ϙ (by simp[Er.isNil]),ϙ si];have a0:=hl _<|dm m;simp only[zr u,gy,iX lines[d] om,ke lines[d] om,n];have E:aB ((d:Int)+1)=((d+1:Nat):Int):=ψ
 cases M with
 | cons x ws=>
  rw[Ϙ so,Ϙ so,E];exact⟨_,qM (by decide),rfl,iF⟩
 | nil=>
 rw[ϙ si,ϙ si];have hB:bB lines ((d+1:Nat):Int) (f:Int)=some ((lines.take f).drop (d+1)):=Pd om om;have V:((lines.take f).drop (d+1)).length<=30000:=π
 have O:sys.1.2.length<=100000:=by
  have:=hS.tiles;omega
 have P:=PG (set:=sys.1) (b0:=d+1) om V (λl h=>hl l<|k _ _ l h) O;simp only[E,hB,gy];rcases P with⟨ln,c,X,R,H,l1,l2⟩ |⟨ts,X,R,hts2⟩
 ·rw[X,R];simp only[gy];have G:ka (ln:Int) ((d+1:Nat):Int)=some ((d+1+ln:Nat):Int):=by
   unfold ka;exact L8
  rw[Ϙ (by rfl),Ϙ (by simp[H]),G];exact⟨_,qM H,rfl,iF⟩
 rw[X,R];simp only[gy];rw[ϙ (by simp[Er.isNil]),ϙ si];have hC:bB lines (f:Int) (lines.length:Int)=some (lines.drop f):=qR om;have Q:=zyp (lines:=lines.drop f) (b0:=f) om so (λl h=>hl l<|List.mem_of_mem_drop h);simp only[hC,gy];rcases Q with⟨ln,S,I,l1,l2⟩ |⟨p,S,I,p1,p2,p3,p4,p5,p6,p7⟩
 ·rw[S,I];simp only[gy];have G:ka (ln:Int) (f:Int)=some ((f+ln:Nat):Int):=by
   unfold ka;exact L8
  rw[Ϙ (by rfl),G];exact⟨_,qM (by decide),rfl,iF⟩
 rw[S,I];simp only[gy];rw[ϙ si];have z:ES (b,(sys.1,sys.2),ts,p):=⟨(by show b.length<=_;omega),hT,hts,(by show ts.length<=_;omega),by show p.2.1.length<=_;omega,by show p.2.2.1.length<=_;omega,by show p.2.2.2.1.length<=_;omega,by show p.2.2.2.2.length<=_;omega,λx hx=>by have:=p7 x hx;omega⟩;obtain⟨v,v1,v2,_⟩:=zxf z;rw[v2];simp only[gy];have Z:lF (some ((b,(sys.1,sys.2),ts,p),Er.nil))=some (if !v then(Ze,0,10)else((b,(sys.1,sys.2),ts,p),0,0)):=by
  unfold lF uH;simp only[gy,Ϟ,av,aq,ϟ,v1];cases v<;>rfl
 cases v with
 | false=>exact⟨_,Z,rfl,iF⟩
 | true=>exact⟨_,Z,rfl,z⟩
end
def zyr{s:List UInt8}(hs:s.length<=1048576):∃w,uf s=some w/\Ap s=some w/\ES w.1:=by
 have I:Ap s=if((s.length:Int)>20000:Ϛ)then some (Ze,0,2)else tI s>>=λy=>lF (AG y):=rfl;rw[I];unfold uf;by_cases r:(s.length:Int)>20000
 ·rw[Ϙ (by simpa using r),Ϙ (by simpa using r)];exact⟨_,rfl,rfl,iF⟩
 rw[ϙ (by simpa using r),ϙ (by simpa using r)];rw[NR s om,PX s om];simp only[gy];obtain⟨lines,f⟩:∃l,l=dJ s []:=u3;have hlen:=Ge s [];have n:=FL s [] si;have B:=GM s [];rw[←f]at hlen n B ⊢;simp only[dz,Ϩ]at hlen B;have z:∀l∈lines,l.length<=20000:=λl h=>by have:=hlen.2 l h;omega
 unfold AG;have j:lF (some (Ze,Er.line 1 6))=some (Ze,1,6):=qM (by decide);by_cases m:lines=[]
 ·rw[m];exact⟨_,rfl,j,iF⟩
 have hp:=ϥ.2 m;have A:lines[0]?=some lines[0]:=cn hp;have E:=z _<|dm hp;have C:idx lines 0=some lines[0]:=zr (i:=0) A;rw[ϙ (by simpa using m),ϙ (by simpa using m)];simp only[C,gy,iX lines[0] om,ke lines[0] om];have k:=kS lines[0] [] si;have k1:∀W,lT lines W true=some (Ze,Er.line 1 6):=λW=>rfl;have k2:∀W,lS lines W true=some (Ze,1,6):=λW=>rfl;have c:∀a b,zA lines[0] []=[a,b]->∃w,lF (lT lines [a,b] false)=some w/\lS lines [a,b] false=some w/\ES w.1:=λa b h=>Tg om z n om m (λx d=>by rw[A]at d;injection d with d;rw[←d];exact h);generalize zA lines[0] []=W at *;by_cases G:W.length=2
 ·match W,G,k,c with
  |[a,b],_,k,c=>
   rw[ϙ si,ϙ si];simp only[eN,h_,gy];by_cases u:a=TQ
   ·obtain⟨b1,b2,b3⟩:=k.2 b si;simp only[dz,Ϩ]at b3;obtain⟨v,H,J,_⟩:=ki b om;rw[ϙ (by simp[u]),ϙ (by simp[u]),H,J];simp only[gy];cases v with
    | false=>exact⟨_,k2 _,by rw[show(!false)=true from rfl,k1];exact j,iF⟩
    | true=>
     obtain⟨w,D,L,F⟩:=c a b rfl;exact⟨w,L,D,F⟩
   ·rw[Ϙ (by simp[u]),Ϙ (by simp[u])];exact⟨_,k2 _,by rw[k1];exact j,iF⟩
 ·rw[Ϙ so,Ϙ so];exact⟨_,k2 _,by rw[k1];exact j,iF⟩
end Go.Lf
