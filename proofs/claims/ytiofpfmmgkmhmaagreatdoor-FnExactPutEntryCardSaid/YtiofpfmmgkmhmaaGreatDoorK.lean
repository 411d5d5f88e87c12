import Derived.Test.YtiofpfmmgkmhmaaGreatDoorJ
import Derived.Test.YtiofpfmmgkmhmaaGreatDoorB
import Derived.Test.YtiofpfmmgkmhmaaGreatDoorC
import Derived.Lib.ItoaLen
import Derived.Test.YtiofpfmmgkmhmaaGreatDoorI
set_option linter.all false
set_option maxRecDepth 100000
set_option maxHeartbeats 1000000
set_option maxHeartbeats 2000000
set_option maxHeartbeats 4000000
namespace Go.Lf
open Go Go.Proofs Go.Sort
section
variable {set:TSet} {T ts:List aM}
def Re{α β:Type}[DecidableEq α]{m:List (α×β)}{k:α}{v:β}{e:α×β}(h:e∈bQ m k v):e=(k,v)\/e∈m:=by
 unfold bQ at h;split at h
 ·obtain⟨p,hp,a⟩:=fu.1 h;split at a
  ·exact .inl a.symm
  ·subst a;exact .inr hp
 ·rcases fj.1 h with h | h
  ·exact .inr h
  ·exact .inl (by simpa using h)
def Ra{α β:Type}[DecidableEq α]{m:List (α×β)}{k:α}{v:β}{q:α}(h:q=k\/∃e∈m,e.1=q):∃e∈bQ m k v,e.1=q:=by
 unfold bQ;split
 ·rename_i hm;obtain⟨x,c,hd⟩:=bl.1 hm;have a:x.1=k:=by simpa using hd
  rcases h with rfl |⟨e,he,rfl⟩
  ·exact⟨(q,v),fu.2 ⟨x,c,by rw[if_pos a]⟩,rfl⟩
  ·by_cases b:e.1=k
   ·exact⟨(k,v),fu.2 ⟨e,he,by rw[if_pos b]⟩,b.symm⟩
   ·exact⟨e,fu.2 ⟨e,he,by rw[if_neg b]⟩,rfl⟩
 ·rcases h with rfl |⟨e,he,rfl⟩
  ·exact⟨(q,v),by simp,rfl⟩
  ·exact⟨e,fp _ he,rfl⟩
def Q_{α β:Type}[DecidableEq α](m:List (α×β))(k:α)(v:β):(bQ m k v).length<=m.length+1:=by
 unfold bQ;split<;>simp
def Rc{α β:Type}[DecidableEq α]{m:List (α×β)}{e:α×β}(h:e∈m):∃v,cB m e.1=some v/\(e.1,v)∈m:=by
 unfold cB;cases hf:m.find? (λp=>decide (p.1=e.1))with
 | none=>exact absurd (List.find?_eq_none.1 hf e h) si
 | some x=>
  have a:=List.find?_some hf;have b:x.1=e.1:=by simpa using a
  exact⟨x.2,rfl,by rw[←b];exact fv hf⟩
def OInv(set:TSet)(t:Int)(T:List aM)(D:Pt->Prop)(O:List (Pt×List Int)):Prop:=(∀e∈O,e.2=hY set t T e.1/\e.2≠[]/\D e.1)/\(∀q,D q->hY set t T q≠[]->∃e∈O,e.1=q)
def OInv.step{D:Pt->Prop}{O:List (Pt×List Int)}{t}(h:OInv set t T D O)(p:Pt)d:OInv set t T (λq=>D q\/q=zD p d) (jW set t T p O d)/\(jW set t T p O d).length<=O.length+1:=by
 unfold jW;by_cases j:(hY set t T<|zD p d).length>0
 ·rw[if_pos j];refine⟨⟨λe g=>?_,λq f k=>?_⟩,Q_ _ _ _⟩
  ·rcases Re g with rfl | g
   ·exact⟨rfl,λi=>by simp only at i;rw[i]at j;simp at j,.inr rfl⟩
   ·obtain⟨a,b,c⟩:=h.1 e g;exact⟨a,b,.inl c⟩
  ·refine Ra ?_;rcases f with f | f
   ·exact .inr<|h.2 q f k
   ·exact .inl f
 ·rw[if_neg j];have i:hY set t T (zD p d)=[]:=ca om;have g:dX O (zD p d)=O:=by
   unfold dX;refine cn.2 λe g=>?_;obtain⟨a,b,c⟩:=h.1 e g;have:¬e.1=zD p d:=λl=>b (by rw[a,l];exact i);simp[this]
  rw[g];refine⟨⟨λe g=>?_,λq f k=>?_⟩,by omega⟩
  ·obtain⟨a,b,c⟩:=h.1 e g;exact⟨a,b,.inl c⟩
  ·rcases f with f | f
   ·exact h.2 q f k
   ·subst f;exact absurd i k
def OInv.la{D:Pt->Prop}{O:List (Pt×List Int)}{t}(h:OInv set t T D O)(p:Pt):OInv set t T (λq=>D q\/∃d,cH d/\q=zD p d) (fV set t T O p)/\(fV set t T O p).length<=O.length+4:=by
 obtain⟨l,l0⟩:=h.step p 0;obtain⟨k,l1⟩:=l.step p 1;obtain⟨j,l2⟩:=k.step p 2;obtain⟨g,r⟩:=j.step p 3;have m:fV set t T O p=jW set t T p (jW set t T p (jW set t T p (jW set t T p O 0) 1) 2) 3:=rfl;rw[m];refine⟨⟨λe i=>?_,λq f n=>?_⟩,by omega⟩
 ·obtain⟨a,b,c⟩:=g.1 e i;refine⟨a,b,?_⟩;rcases c with(((c | c) | c) | c) | c
  ·exact .inl c
  ·exact .inr ⟨0,.inl rfl,c⟩
  ·exact .inr ⟨1,.inr<|.inl rfl,c⟩
  ·exact .inr ⟨2,.inr<|.inr<|.inl rfl,c⟩
  ·exact .inr ⟨3,.inr<|.inr<|.inr rfl,c⟩
 ·refine g.2 q ?_ n;rcases f with f |⟨d,hd,f⟩
  ·exact .inl<|.inl<|.inl<|.inl f
  ·rcases hd with rfl | rfl | rfl | rfl
   ·exact .inl<|.inl<|.inl<|.inr f
   ·exact .inl<|.inl<|.inr f
   ·exact .inl<|.inr f
   ·exact .inr f
def JB t(T ts:List aM):OInv set t T (λq=>∃x∈ts,∃d,cH d/\q=zD x.1 d) (ts.foldl (λO x=>fV set t T O x.1) [])/\(ts.foldl (λO x=>fV set t T O x.1) []).length<=4*ts.length:=by
 have i:∀(l:List aM)(D:Pt->Prop)(O:List (Pt×List Int)),OInv set t T D O->OInv set t T (λq=>D q\/∃x∈l,∃d,cH d/\q=zD x.1 d) (l.foldl (λO x=>fV set t T O x.1) O)/\(l.foldl (λO x=>fV set t T O x.1) O).length<=O.length+4*l.length:=by
  intro l
  induction l with
  | nil=>
   intro D O h;refine⟨⟨λe g=>?_,λq f j=>?_⟩,by simp⟩
   ·obtain⟨a,b,c⟩:=h.1 e g;exact⟨a,b,.inl c⟩
   ·rcases f with f |⟨x,hx,_⟩
    ·exact h.2 q f j
    ·cases hx
  | cons y l ih=>
   intro D O h;obtain⟨n,l1⟩:=h.la y.1;obtain⟨m,l2⟩:=ih _ _ n;rw[cw];refine⟨⟨λe g=>?_,λq f j=>?_⟩,by rw[eh];omega⟩
   ·obtain⟨a,b,c⟩:=m.1 e g;refine⟨a,b,?_⟩;rcases c with(c |⟨d,hd,c⟩) |⟨x,hx,c⟩
    ·exact .inl c
    ·exact .inr ⟨y,List.mem_cons_self,d,hd,c⟩
    ·exact .inr ⟨x,List.mem_cons_of_mem _ hx,c⟩
   ·refine m.2 q ?_ j;rcases f with f |⟨x,hx,c⟩
    ·exact .inl<|.inl f
    ·rcases fq.1 hx with rfl | hx
     ·exact .inl<|.inr c
     ·exact .inr ⟨x,hx,c⟩
 have k:OInv set t T (λ_=>False) []:=⟨λe g=>(by cases g),λq f=>f.elim⟩;obtain⟨h,l⟩:=i ts (λ_=>False) [] k;refine⟨⟨λe g=>?_,λq f j=>h.2 q (.inr f) j⟩,by simpa using l⟩;obtain⟨a,b,c⟩:=h.1 e g;exact⟨a,b,c.resolve_left id⟩
instance{T:List aM}{q:Pt}:Decidable (nN T q):=inferInstanceAs (Decidable (_/\_))
def JI{t T q}:hY set t T q=if nN T q then eN set t (a_ T) q else[]:=by
 unfold hY eN;by_cases h:nN T q
 ·rw[if_pos h];refine List.filter_congr λk _=>?_;unfold eH;rw[h.1,decide_eq_true h.2];rfl
 ·rw[if_neg h];refine List.filter_eq_nil_iff.2 λk _=>?_;unfold eH;simp only[av,decide_eq_true_eq];exact λa=>h a.1
def JQ{t}:fW set t ts=[]↔∀q,ni ts ts q->eN set t (a_ ts) q=[]:=by
 obtain⟨h,_⟩:=JB (set:=set) t ts ts;constructor
 ·intro f q ⟨x,g,d,hd,j,hF⟩;by_cases i:hY set t ts q=[]
  ·rw[JI,if_pos hF]at i;exact i
  ·obtain⟨e,hm,_⟩:=h.2 q ⟨x,g,d,hd,j⟩ i;have:e∈fW set t ts:=hm;rw[f]at this;cases this
 ·intro j;refine bz.2 λe f=>?_;obtain⟨a,b,x,g,d,hd,c⟩:=h.1 e f;rw[JI]at a;split at a
  ·rename_i hF;exact b (by rw[a];exact j _ ⟨x,g,d,hd,c,hF⟩)
  ·exact b a
def JA(hS:SetOk set)(hA:AsmOk set ts)t:(fW set t ts).length<=2000/\∀e∈fW set t ts,1<=e.2.length/\e.2.length<=160:=by
 obtain⟨h,l⟩:=JB (set:=set) t ts ts;have:=(fN hA).len;refine⟨gy l om,λe d=>?_⟩;obtain⟨a,b,_⟩:=h.1 e d;have c:=Rp set t ts e.1;have g:=hS.tiles;rw[←a]at c;exact⟨Nat.pos_of_ne_zero λf=>b<|ca f,by omega⟩
def Si(hS:SetOk set)(hA:AsmOk set ts)s0 t:∃c,DR ((set,s0,t),ts,fW set t ts)=some c/\(c=0↔fW set t ts=[]):=by
 obtain⟨g,f⟩:=JA hS hA t;revert g f;generalize fW set t ts=O;intro g f;have key:∀l:List (Pt×List Int),(∀e∈l,1<=e.2.length/\e.2.length<=160)->(l.length:Int)<=(l.map λp=>(p.2.length:Int)).sum/\(l.map λp=>(p.2.length:Int)).sum<=160*(l.length:Int):=by
  intro l
  induction l with
  | nil=>intro _;simp
  | cons x l ih=>
   intro h;obtain⟨a,b⟩:=h x List.mem_cons_self;obtain⟨c,d⟩:=ih λe j=>h e<|List.mem_cons_of_mem _ j;rw[fi,List.sum_cons,eh];omega
 obtain⟨k1,k2⟩:=key O f;refine⟨_,rfl,?_⟩;have i:aA ((O.map λp=>(p.2.length:Int)).sum)=(O.map λp=>(p.2.length:Int)).sum:=zv om om;simp only[i];constructor
 ·intro k;exact ca om
 ·rintro rfl;rfl
def Sb(hS:SetOk set)(hA:AsmOk set ts)s0 t:∃l,rF ((set,s0,t),ts,fW set t ts)=some l/\(l=[]↔fW set t ts=[])/\True:=by
 obtain⟨d,a⟩:=JA hS hA t;revert d a;generalize fW set t ts=O;intro d a;unfold rF;rw[if_pos ⟨by simp only;omega,λp hp=>by have:=(a p hp).2;omega⟩];refine⟨_,rfl,?_,trivial⟩;have hp:(BF<|O.map Prod.fst).Perm (O.map Prod.fst):=(iM jE _).1;constructor
 ·intro h;refine bz.2 λe c=>?_;have hm:e.1∈BF (O.map Prod.fst):=hp.mem_iff.2<|fu.2 ⟨e,c,rfl⟩;obtain⟨v,g,b⟩:=Rc c;have:=List.flatMap_eq_nil_iff.1 h e.1 hm;simp only at this;rw[g]at this;have f:=(a _ b).1;simp only[io,List.map_eq_nil_iff]at this;rw[this]at f;simp at f
 ·rintro rfl;have:=List.Perm.eq_nil hp;show(BF<|List.map Prod.fst ([]:List (Pt×List Int))).flatMap _=[];rw[this];rfl
end
def Yj(l:List aM)(h:l.length<=2000000)(p:aM->Option Bool)(q:aM->Bool)(hp:∀b∈l,p b=some (q b)):
  ∃i:Int,nQ l p=some i/\((i = -1/\∀b∈l,q b=false)\/(∃k:Nat,i=k/\k<l.length/\(∀(j:Nat) b,j<k->l[j]?=some b->q b=false)/\∃b,l[k]?=some b/\q b=true)):=by
 unfold nQ vt;rcases mX l h p q hp (CK l p) (λi=>rfl)with⟨c,a⟩ |⟨k,c,r⟩
 ·rw[c];exact⟨-1,rfl,.inl ⟨rfl,a⟩⟩
 ·rw[c];exact⟨k,rfl,.inr ⟨k,rfl,r⟩⟩
def Yh(l:List aM)(h:l.length<=2000000)(p:aM->Option Bool)(q:aM->Bool)(hp:∀b∈l,p b=some (q b)):
  ∃i:Int,wa l p=some i/\((i = -1/\∀b∈l,q b=false)\/(∃k:Nat,i=k/\k<l.length/\(∀(j:Nat) b,j<k->l[j]?=some b->q b=false)/\∃b,l[k]?=some b/\q b=true)):=by
 unfold wa CO;rcases mX l h p q hp (Kt l p) (λi=>rfl)with⟨c,a⟩ |⟨k,c,r⟩
 ·rw[c];exact⟨-1,rfl,.inl ⟨rfl,a⟩⟩
 ·rw[c];exact⟨k,rfl,.inr ⟨k,rfl,r⟩⟩
def Yo(l:List aM)(h:l.length<=2000000)(p:aM->Option Bool)(q:aM->Bool)(hp:∀b∈l,p b=some (q b)):
  vC l p=some (l.filter λb=>!q b):=by
 obtain⟨i,hi,u⟩:=Yj l h p q hp;unfold vC;simp only[hi,im];rcases u with⟨rfl,e⟩ |⟨k,rfl,hk,hlow,b,g,hq⟩
 ·rw[if_pos si];congr 1;symm;rw[cn];intro b g;rw[e b g];rfl
 ·rw[if_neg si];have x:aA ((k:Int)+1)=(k:Int)+1:=zv om om;rw[x];have key:=zB (F:=CF p) (λs=>(k:Int)<s.2.2/\s.2.2<=l.length/\s.1.length=l.length/\0<=s.2.1/\s.2.1<s.2.2/\s.1.take s.2.1.toNat=(l.take s.2.2.toNat).filter (λb=>!q b)/\∀j,s.2.2.toNat<=j->s.1[j]?=l[j]?)
   (λs=>(l.length - s.2.2).toNat) (λz=>z.1.length=l.length/\0<=z.2/\z.2<=l.length/\z.1.take z.2.toNat=l.filter (λb=>!q b)) ?_ (l,(k:Int),(k:Int)+1) ?_
  ·obtain⟨⟨y,m⟩,G,E,C,J,A⟩:=key;simp only at E C J A;rw[G];simp only[im];unfold CY;have L:i_ y m ((0,0),0)=some (y.take m.toNat++List.replicate (y.length - m.toNat) ((0,0),0)):=by unfold i_;rw[if_pos ⟨by omega,by omega⟩]
   have I:(y.take m.toNat).length=m.toNat:=by rw[fd];omega
   have hs:dR (y.take m.toNat++List.replicate (y.length - m.toNat) ((0,0),0)) 0 m=some (y.take m.toNat):=by
    unfold dR;rw[if_pos ⟨by omega,by omega,by rw[ef,I,ey];omega⟩];simp only[Int.toNat_zero,List.drop_zero];rw[List.take_append_of_le_length om,gp om]
   rw[L];simp only[im,hs];rw[A]
  ·rintro⟨y,m,j⟩ ⟨g1,g2,g3,g4,g5,g6,g7⟩;simp only at g1 g2 g3 g4 g5 g6 g7;obtain⟨j,rfl⟩:=bg (show 0<=j by omega);obtain⟨m,rfl⟩:=bg g4;simp only[bh]at g6 g7;unfold CF uR;by_cases d:j<l.length
   ·left;have c:l[j]?=some l[j]:=dj d;have f:y[j]?=some l[j]:=by rw[g7 j<|gv _];exact c
    have t:=hp l[j] (ed d);have H:aA ((j:Int)+1)=(j:Int)+1:=zv om om;have n:aA ((m:Int)+1)=(m:Int)+1:=zv om om;have w:y[m]?=some y[m]:=dj om;have a:((j:Int)+1).toNat=j+1:=by omega
    have r:((m:Int)+1).toNat=m+1:=by omega
    rw[if_pos so];simp only[zq f,im,t,H,n,zq w,bh];cases hq:q l[j]with
    | false=>
     rw[if_pos si];refine⟨_,rfl,⟨by simp only[];omega,by simp only[];omega,by simp only[fa];exact g3,by simp only[];omega,by simp only[];omega,?_,λi hi=>?_⟩,by simp only[];omega⟩
     ·simp only[a,r];rw[gl,zW om,gl,c,ci,List.take_set_of_le om,g6];simp[hq]
     ·simp only[a]at hi ⊢;rw[zN om];exact g7 i om
    | true=>
     rw[if_neg si];refine⟨_,rfl,⟨by simp only[];omega,by simp only[];omega,g3,by simp only[];omega,by simp only[];omega,?_,λi hi=>?_⟩,by simp only[];omega⟩
     ·simp only[a,bh];rw[g6,gl,c,ci];simp[hq]
     ·simp only[a]at hi ⊢;exact g7 i om
   ·right;rw[if_neg so];refine⟨_,rfl,g3,by simp only[];omega,by simp only[];omega,?_⟩;simp only[bh];rw[g6,show j=l.length by omega,gm]
  ·refine⟨by simp only[];omega,by simp only[];omega,rfl,by simp only[];omega,by simp only[];omega,?_,λj B=>rfl⟩;simp only[bh];rw[show((k:Int)+1).toNat=k+1 by omega,gl,g,ci,MM λj D B v=>by rw[hlow j D B v];rfl];simp[hq]
def sh(d:Int):Int:=if d=0 then 1 else if d=1 then 2 else if d=2 then 4 else 8
def bt(b:Bool)(v:Int):Int:=if b then v else 0
def fA(b:Int->Bool):Int:=bt (b 0) 1+bt (b 1) 2+bt (b 2) 4+bt (b 3) 8
def uC{d}(hd:cH d):nz .i64 1 d=some (sh d):=by rcases hd with rfl | rfl | rfl | rfl<;>rfl
def Cd{d}(hd:cH d):1<=sh d/\sh d<=8:=by rcases hd with rfl | rfl | rfl | rfl<;>exact⟨by decide,by decide⟩
def RY(b:Int->Bool){d}(hd:cH d):(lQ .i64 (fA b) d).map (λv=>decide (ke .i64 v 1=1))=some (b d):=by
 unfold fA;rcases hd with rfl | rfl | rfl | rfl<;>(generalize b 0=x;generalize b 1=y;generalize b 2=z;generalize b 3=u;cases x<;>cases y<;>cases z<;>cases u<;>rfl)
def Ir(b:Int->Bool){d}(hd:cH d):∃v,lQ .i64 (fA b) d=some v/\decide (ke .i64 v 1=1)=b d:=by
 have h:=RY b hd;cases hv:lQ .i64 (fA b) d with
 | none=>rw[hv]at h;cases h
 | some v=>rw[hv]at h;exact⟨v,rfl,Option.some.inj h⟩
def Jc(b:Int->Bool){d}(hd:cH d):tJ (fA b) d=some (b d):=by
 obtain⟨v,a,c⟩:=Ir b hd;unfold tJ;rw[a,im,c]
def l_(b:Bool)(m s:Int):Int:=if b then nD .i64 m s else m
def JP(b:Int->Bool):l_ (b 3) (l_ (b 2) (l_ (b 1) (l_ (b 0) 0 (sh 0)) (sh 1)) (sh 2)) (sh 3)=fA b:=by
 unfold fA;generalize b 0=x;generalize b 1=y;generalize b 2=z;generalize b 3=u;cases x<;>cases y<;>cases z<;>cases u<;>rfl
def Ji(b:Int->Bool):0+bt (b 0) (sh 0)+bt (b 1) (sh 1)+bt (b 2) (sh 2)+bt (b 3) (sh 3)=fA b:=by
 unfold fA;generalize b 0=x;generalize b 1=y;generalize b 2=z;generalize b 3=u;cases x<;>cases y<;>cases z<;>cases u<;>rfl
def nw b{d}(hd:cH d):0<=bt b (sh d)/\bt b (sh d)<=8:=by
 have:=Cd hd;unfold bt;split<;>omega
section
variable {set:TSet} {T ts:List aM}
def bT(set:TSet)(T:List aM)(o:aM)(d:Int):Bool:=decide (dP set (a_ T) o.1 o.2 d>0)
def Zy(hS:SetOk set)(h:Cr set T ts){s0 t O o}(hp:cR o.1=true)(hk:TileIx set o.2)i ms ss:
  iter (sF (set,s0,t) (i,ms,ss,((set,s0,t),T,O)) o) (0,0,0)=some (fA (bT set T o),fT set (a_ T) o.1 o.2):=by
 have step:∀(d g m s f:Int),cH d->g=d+1->0<=s->s<=1000->f=s+dP set (a_ T) o.1 o.2 d->sF (set,s0,t) (i,ms,ss,((set,s0,t),T,O)) o (m,s,d)=some (.inl (l_ (bT set T o d) m<|sh d,f,g)):=by
  intro d g m s f hd c v k hs';obtain⟨p,_,l⟩:=iY hd;have w:=jz hS h.fok o.1 hk hd;unfold sF s_;rw[if_pos (by simpa using p),(jq hp hd).2];simp only[im];unfold rI;simp only[im];unfold bT l_;have a:dP set (a_ T) o.1 o.2 d=if a_ T (zD o.1 d)≥0 then kT set o.2 d (a_ T<|zD o.1 d)else 0:=rfl;by_cases b:a_ T (zD o.1 d)≥0
  ·have j:TileIx set (a_ T<|zD o.1 d):=by
    rcases h.fok (zD o.1 d)with k | k
    ·omega
    ·exact k
   rw[if_pos b]at a;rw[if_pos (by simpa using b),(tN hS hk j hd).2.1];simp only[im];rw[←a];by_cases e:dP set (a_ T) o.1 o.2 d>0
   ·rw[if_pos (by simpa using e),uC hd,if_pos (by simpa using e),zv (n:=s+_) om om,l,hs',c];rfl
   ·rw[if_neg (by simpa using e),if_neg (by simpa using e),l,hs',c];rw[show s+dP set (a_ T) o.1 o.2 d=s by omega]
  ·rw[if_neg b]at a;rw[if_neg (by simpa using b),a,l,hs',c,a];simp
 have r:=jz hS h.fok o.1 hk (d:=0)<|.inl rfl;have q:=jz hS h.fok o.1 hk (d:=1)<|.inr<|.inl rfl;have u:=jz hS h.fok o.1 hk (d:=2)<|.inr<|.inr<|.inl rfl;rw[zt<|step 0 1 0 0 _ (.inl rfl) rfl om om rfl,zt<|step 1 2 _ _ _ (.inr<|.inl rfl) rfl om om rfl,zt<|step 2 3 _ _ _ (.inr<|.inr<|.inl rfl) rfl om om rfl,zt<|step 3 4 _ _ _ (.inr<|.inr<|.inr rfl) rfl om om rfl,JP];refine zy ?_;unfold sF fT;rw[if_neg si];simp
def YH(hS:SetOk set)(h:Cr set T ts){s0 t o}(hp:cR o.1=true)(hk:TileIx set o.2)i ms ss:
  iter (qP (set,s0,t) (ms,ss,i,ts) o) (0,0)=some (fA (bT set T o)):=by
 have step:∀(d f m:Int),cH d->f=d+1->0<=m->m<=1000->qP (set,s0,t) (ms,ss,i,ts) o (m,d)=some (.inl (m+bt (bT set T o d) (sh d),f)):=by
  intro d f m hd c u j;obtain⟨l,_,k⟩:=iY hd;have p:=Cd hd;unfold qP wX wY;rw[if_pos (by simpa using l),(jq hp hd).1];simp only[im];rw[(h.at _).1];simp only[im];unfold bT bt;have b:dP set (a_ T) o.1 o.2 d=if a_ T (zD o.1 d)≥0 then kT set o.2 d (a_ T<|zD o.1 d)else 0:=rfl;by_cases a:a_ T (zD o.1 d)≥0
  ·have g:TileIx set (a_ T<|zD o.1 d):=by
    rcases h.fok (zD o.1 d)with j | j
    ·omega
    ·exact j
   rw[if_pos a]at b;rw[if_pos (by simpa using a),(tN hS hk g hd).1];simp only[im];rw[←b];by_cases e:dP set (a_ T) o.1 o.2 d>0
   ·rw[if_pos (by simpa using e),uC hd,if_pos (by simpa using e)];simp only[im];rw[zv (n:=m+_) om om,k,c]
   ·rw[if_neg (by simpa using e),if_neg (by simpa using e),k,c,Int.add_zero]
  ·rw[if_neg a]at b;rw[if_neg (by simpa using a),b,k,c];simp
 have r:=nw (bT set T o 0) (d:=0)<|.inl rfl;have q:=nw (bT set T o 1) (d:=1)<|.inr<|.inl rfl;have s:=nw (bT set T o 2) (d:=2)<|.inr<|.inr<|.inl rfl;rw[zt<|step 0 1 0 (.inl rfl) rfl om om,zt<|step 1 2 _ (.inr<|.inl rfl) rfl om om,zt<|step 2 3 _ (.inr<|.inr<|.inl rfl) rfl om om,zt<|step 3 4 _ (.inr<|.inr<|.inr rfl) rfl om om,Ji];refine zy ?_;unfold qP;rw[if_neg si]
def oI(seq:List aM)(i:Nat):aM:=(seq[i]?).getD ((0,0),0)
def TI(T0 seq:List aM)(i:Nat):List aM:=ew (seq.take i) T0
def bI(set:TSet)(T0 seq:List aM)(i:Nat)(d:Int):Bool:=bT set (TI T0 seq i) (oI seq i) d
def mI(set:TSet)(T0 seq:List aM)(i:Nat):Int:=fA (bI set T0 seq i)
def sI(set:TSet)(T0 seq:List aM)(i:Nat):Int:=fT set (a_ (TI T0 seq i)) (oI seq i).1 (oI seq i).2
def HA{α:Type}{l:List α}{x:α}{i}(h:l[i]?=some x):l.take (i+1)=l.take i++[x]:=by rw[gl,h];rfl
def jQ{seq:List aM}{t T0 i o}(hp:Played set t T0 seq)(hi:seq[i]?=some o):
  oI seq i=o/\TileIx set o.2/\eH set t (TI T0 seq i) o.1 o.2=true/\(TI T0 seq i).length<500/\TI T0 seq (i+1)=bQ (TI T0 seq i) o.1 o.2/\cY (seq.take (i+1)) T0=fb (o.1,o.2) (cY (seq.take i) T0)/\cR o.1=true/\a_ (TI T0 seq i) o.1<0:=by
 have b:=GY (i+1) hp;rw[HA hi]at b;obtain⟨_,d,c,e⟩:=Az.1 b;have a:=c;unfold eH at a;simp only[av,decide_eq_true_eq]at a;refine⟨by unfold oI;rw[hi];rfl,d,c,e,by unfold TI;rw[HA hi,OE],by rw[HA hi,OF],a.1.1,a.1.2⟩
def jj{seq:List aM}{t T0}(hc:Cr set T0 T0)(hp:Played set t T0 seq)i:Cr set (TI T0 seq i) (cY (seq.take i) T0):=AS hc (GY i hp)
def QE(hS:SetOk set)(hA:AsmOk set ts){seq:List aM}{t}(hlen:seq.length<=500)(hp:Played set t ts seq):
  yt (set,ts,t) seq=some ((List.range seq.length).map (mI set ts seq),(List.range seq.length).map (sI set ts seq)):=by
 have m:=fN hA;have h:=hA.1.1;have j:kB ts=some ts:=by unfold kB;rw[cG so so];rfl
 unfold yt;simp only;rw[j];simp only[im];have key:=zB (F:=vI (set,ts,t) seq) (λs=>∃i:Nat,i<=seq.length/\s=((List.range i).map<|mI set ts seq,(List.range i).map<|sI set ts seq,(i:Int),cY (seq.take i) ts)) (λs=>(seq.length - s.2.2.1).toNat)
  (λz=>z=((List.range seq.length).map<|mI set ts seq,(List.range seq.length).map<|sI set ts seq)) ?_ ([],[],0,ts) ⟨0,by omega,rfl⟩
 ·obtain⟨z,n,rfl⟩:=key;rw[n];rfl
 ·rintro s ⟨i,hi,rfl⟩;by_cases c:i<seq.length
  ·left;have f:seq[i]?=some seq[i]:=dj c;generalize seq[i]=o at f;obtain⟨k,g,p,r,u,l,b,e⟩:=jQ hp f;have a:=jj m hp i;have q:=a.len;unfold vI EK;rw[if_pos so];simp only[zq f,im];rw[YH hS a b g];simp only[im];rw[cG so so];simp only[im];rw[MZ hS a.fok b (λd _=>(a.at _).1) g];simp only[im];rw[cG so so];simp only[im];rw[OS _ om];simp only[im];refine⟨_,rfl,⟨i+1,by omega,?_⟩,?_⟩
   ·rw[zv om om,gj,fe,fe,l];unfold mI bI sI;rw[←k];rfl
   ·simp only;rw[zv om om];omega
  ·right;have:i=seq.length:=by omega
   subst this;unfold vI;rw[if_neg si];exact⟨_,rfl,rfl⟩
def RQ(hS:SetOk set)(hA:AsmOk set ts){seq:List aM}{t}(hlen:seq.length<=500)(hp:Played set t ts seq):
  iter (sG (set,ts,t) seq) (0,[],[],(set,ts,t),ts,fW set t ts)=some ((List.range seq.length).map (mI set ts seq),(List.range seq.length).map (sI set ts seq)):=by
 have l:=fN hA;have key:=zB (F:=sG (set,ts,t) seq) (λs=>∃i:Nat,i<=seq.length/\∃O,s=((i:Int),(List.range i).map<|mI set ts seq,(List.range i).map<|sI set ts seq,(set,ts,t),TI ts seq i,O)) (λs=>(seq.length - s.1).toNat)
  (λz=>z=((List.range seq.length).map<|mI set ts seq,(List.range seq.length).map<|sI set ts seq)) ?_ (0,[],[],(set,ts,t),ts,fW set t ts) ⟨0,by omega,_,rfl⟩
 ·obtain⟨z,n,rfl⟩:=key;exact n
 ·rintro s ⟨i,hi,O,rfl⟩;by_cases b:i<seq.length
  ·left;have e:seq[i]?=some seq[i]:=dj b;generalize seq[i]=o at e;obtain⟨j,g,h,k,m,p,f,d⟩:=jQ hp e;have a:=jj l hp i;have c:(cY (seq.take i) ts).length<500:=by rw[←a.perm.length_eq];exact k
   unfold sG GP;rw[if_pos so];simp only[zq e,im];rw[Zy hS a f g];simp only[im];rw[cG so so];simp only[im];rw[cG so so];simp only[im];rw[JN hS a h g c];simp only[im];refine⟨_,rfl,⟨i+1,by omega,fV set t (bQ (TI ts seq i) o.1 o.2) (dX O o.1) o.1,?_⟩,?_⟩
   ·rw[zv om om,gj,fe,fe,m];unfold mI bI sI;rw[←j];rfl
   ·simp only;rw[zv om om];omega
  ·right;have:i=seq.length:=by omega
   subst this;unfold sG;rw[if_neg si];exact⟨_,rfl,rfl⟩
end
section
variable {set:TSet} {T ts:List aM}
def lN(a b:Pt):(decide (a.1=b.1)&&decide (a.2=b.2))=decide (a=b):=by
 rw[aw];simp[Prod.ext_iff]
def kW{f:Nat->Bool}{n}:(List.range n).any f=true↔∃j,j<n/\f j=true:=by
 rw[bl];exact⟨λ⟨j,h,hf⟩=>⟨j,fz.1 h,hf⟩,λ⟨j,h,hf⟩=>⟨j,fz.2 h,hf⟩⟩
def eV{seq:List aM}{i}(h:i<seq.length):seq[i]?=some (oI seq i):=by
 unfold oI;rw[dj h];rfl
section
variable {t:Int} {seq:List aM} (hA:AsmOk set ts) (hp:Played set t ts seq)
include hA hp
theorem Jj{i o}(hi:seq[i]?=some o):TI ts seq (i+1)=TI ts seq i++[(o.1,o.2)]:=by
 obtain⟨h,c,d,e,f,j,g,b⟩:=jQ hp hi;have a:=jj (fN hA) hp i;rw[f];exact(a.put d c (by rw[←a.perm.length_eq];exact e)).2
theorem Bt{i x}(hx:x∈TI ts seq i):∀r,i+r<=seq.length->x∈TI ts seq (i+r)
 | 0,_=>hx
 | r+1,h=>by
  have hi:seq[i+r]?=some (seq[i+r]'om):=dj om;rw[←Nat.add_assoc,Jj hA hp hi];exact fp _ (Bt hx r om)
theorem Iw{i o}(hi:seq[i]?=some o):∀x∈TI ts seq i,x.1≠o.1:=by
 obtain⟨g,e,f,j,k,h,d,a⟩:=jQ hp hi;have b:=jj (fN hA) hp i;exact λx c=>b.free.1 a x<|b.perm.mem_iff.1 c
theorem SX{i j:Nat}{o o':aM}(hi:seq[i]?=some o)(hj:seq[j]?=some o')(h:i<j):o.1≠o'.1:=by
 have b:(o.1,o.2)∈TI ts seq (i+1):=by rw[Jj hA hp hi];simp
 have a:=Bt hA hp b (j - (i+1)) (by have:=zA hj;omega);rw[show i+1+(j - (i+1))=j by omega]at a;exact Iw hA hp hj _ a
theorem J_{i j}(h:i<j)(hj:j<seq.length):(oI seq i).1≠(oI seq j).1:=SX hA hp (eV om) (eV hj) h
theorem ue{i j}(hi:i<seq.length)(hj:j<seq.length)(h:(oI seq i).1=(oI seq j).1):i=j:=by
 rcases ig i j with h1 | h1 | h1
 ·exact absurd h<|J_ hA hp h1 hj
 ·exact h1
 ·exact absurd h.symm<|J_ hA hp h1 hi
end
def bO(set:TSet)(T0 seq:List aM)(i:Nat)(d:Int):Bool:=(List.range seq.length).any λk=>decide (i<k)&&decide ((oI seq k).1=zD (oI seq i).1 d)&&bI set T0 seq k (dW d)
def mO(set:TSet)(T0 seq:List aM)(i:Nat):Int:=fA (bO set T0 seq i)
def uf{n i}(f:Nat->Int)(h:i<n):idx ((List.range n).map f) (i:Int)=some (f i):=zq (by rw[dt,dv h];rfl)
section
variable {t:Int} {seq:List aM} (hA:AsmOk set ts) (hlen:seq.length<=500) (hp:Played set t ts seq)
include hA hlen hp
theorem Te{q d mm}(hd:cH d):∀(r k:Nat)(m:Int),k+r=seq.length->0<=m->m<=100->
  iter (zS seq ((List.range seq.length).map (mI set ts seq)) (mm,d) q) (m,(k:Int))=some (m+bt ((List.range seq.length).any λj=>decide (k<=j)&&decide ((oI seq j).1=q)&&bI set ts seq j (dW d)) (sh d)):=by
 intro r;have F:=Cd hd
 induction r with
 | zero=>
  intro k m A x p;refine zy ?_;unfold zS;rw[if_neg so];have:((List.range seq.length).any λj=>decide (k<=j)&&decide ((oI seq j).1=q)&&bI set ts seq j (dW d))=false:=by
   refine Bool.eq_false_iff.2 λh=>?_;obtain⟨j,e,b⟩:=kW.1 h;simp only[av,decide_eq_true_eq]at b;omega
  rw[this];simp[bt]
 | succ r ih=>
  intro k m A x p;have a:k<seq.length:=by omega
  have C:aA ((k:Int)+1)=((k+1:Nat):Int):=by rw[zv om om];omega
  by_cases f:(oI seq k).1=q
  ·have w:((List.range seq.length).any λj=>decide (k+1<=j)&&decide ((oI seq j).1=q)&&bI set ts seq j (dW d))=false:=by
    refine Bool.eq_false_iff.2 λh=>?_;obtain⟨j,e,b⟩:=kW.1 h;simp only[av,decide_eq_true_eq]at b;have:=ue hA hp a e (by rw[f,b.1.2]);omega
   have n:((List.range seq.length).any λj=>decide (k<=j)&&decide ((oI seq j).1=q)&&bI set ts seq j (dW d))=bI set ts seq k (dW d):=by
    rw[aw,kW];constructor
    ·rintro⟨j,e,b⟩;simp only[av,decide_eq_true_eq]at b;have:=ue hA hp a e (by rw[f,b.1.2]);subst this;exact b.2
    ·intro h;exact⟨k,a,by simp[f,h]⟩
   obtain⟨v,u,y⟩:=Ir (bI set ts seq k)<|ud hd;have D:=nw (bI set ts seq k<|dW d) hd;have c:zS seq ((List.range seq.length).map<|mI set ts seq) (mm,d) q (m,(k:Int))=some (.inl (m+bt (bI set ts seq k<|dW d) (sh d),((k+1:Nat):Int))):=by
    unfold zS nX nY;rw[if_pos so];simp only[zq<|eV a,im];rw[lN,if_pos (by simpa using f),uf _ a];simp only[im];rw[(BG hd).1];simp only[im];unfold mI;rw[u];simp only[im];rw[y,C];cases s:bI set ts seq k (dW d)with
    | true=>
     rw[if_pos rfl,uC hd];simp only[im];rw[zv om om];rfl
    | false=>
     rw[if_neg si];simp[bt]
   rw[zt c];unfold bt at D;by_cases s:bI set ts seq k (dW d)=true
   ·
    have g:∀(r k:Nat)(m:Int),k+r=seq.length->(∀j,k<=j->j<seq.length->(oI seq j).1≠q)->iter (zS seq ((List.range seq.length).map<|mI set ts seq) (mm,d) q) (m,(k:Int))=some m:=by
     intro r
     induction r with
     | zero=>
      intro k m A _;refine zy ?_;unfold zS;rw[if_neg so]
     | succ r ih2=>
      intro k m A i;have a:k<seq.length:=by omega
      have B:zS seq ((List.range seq.length).map<|mI set ts seq) (mm,d) q (m,(k:Int))=some (.inl (m,((k+1:Nat):Int))):=by
       unfold zS nX nY;rw[if_pos so];simp only[zq<|eV a,im];rw[lN,if_neg (by simpa using i k (gv _) a),if_neg si];rw[show aA ((k:Int)+1)=((k+1:Nat):Int) by rw[zv om om];omega]
      rw[zt B];exact ih2 _ _ om λj p t=>i j om t
    rw[g r (k+1) _ om λj p t E=>by have:=ue hA hp a t (by rw[f,E]);omega,n]
   ·have l:bI set ts seq k (dW d)=false:=by simpa using s
    rw[l];show iter _ (m+0,_)=_;rw[Int.add_zero,ih (k+1) m om x p,w,n,l]
  ·have c:zS seq ((List.range seq.length).map<|mI set ts seq) (mm,d) q (m,(k:Int))=some (.inl (m,((k+1:Nat):Int))):=by
    unfold zS nX nY;rw[if_pos so];simp only[zq<|eV a,im];rw[lN,if_neg (by simpa using f),if_neg si,C]
   rw[zt c,ih (k+1) m om x p];congr 2;congr 1;rw[aw,kW,kW];constructor
   ·rintro⟨j,e,b⟩;simp only[av,decide_eq_true_eq]at b;exact⟨j,e,by simp only[av,decide_eq_true_eq];exact⟨⟨by omega,b.1.2⟩,b.2⟩⟩
   ·rintro⟨j,e,b⟩;simp only[av,decide_eq_true_eq]at b;refine⟨j,e,?_⟩;simp only[av,decide_eq_true_eq];refine⟨⟨?_,b.1.2⟩,b.2⟩;rcases ic k j with h | h
    ·exact h
    ·have:j=k:=by omega
     subst this;exact absurd b.1.2 f
theorem Tf{i}(hi:i<seq.length)acc:iter (qw seq ((List.range seq.length).map (mI set ts seq)) (acc,(i:Int))) (0,0)=some (mO set ts seq i):=by
 obtain⟨_,_,_,_,_,_,c,_⟩:=jQ hp<|eV hi;have step:∀(d b m:Int),cH d->b=d+1->0<=m->m<=100->qw seq ((List.range seq.length).map<|mI set ts seq) (acc,(i:Int)) (m,d)=some (.inl (m+bt (bO set ts seq i d) (sh d),b)):=by
  intro d b m hd a j g;obtain⟨f,_,h⟩:=iY hd;unfold qw Ed;rw[if_pos (by simpa using f)];simp only[zq<|eV hi,im];rw[(jq c hd).1];simp only[im];have e:aA ((i:Int)+1)=((i+1:Nat):Int):=by rw[zv om om];omega
  rw[e,Te hA hlen hp hd (seq.length - (i+1)) (i+1) m om j g];simp only[im];rw[h,a];rfl
 have l:=nw (bO set ts seq i 0) (d:=0)<|.inl rfl;have k:=nw (bO set ts seq i 1) (d:=1)<|.inr<|.inl rfl;have n:=nw (bO set ts seq i 2) (d:=2)<|.inr<|.inr<|.inl rfl;rw[zt<|step 0 1 0 (.inl rfl) rfl om om,zt<|step 1 2 _ (.inr<|.inl rfl) rfl om om,zt<|step 2 3 _ (.inr<|.inr<|.inl rfl) rfl om om,zt<|step 3 4 _ (.inr<|.inr<|.inr rfl) rfl om om,Ji];refine zy ?_;unfold qw;rw[if_neg si];rfl
theorem ZA:yb seq ((List.range seq.length).map (mI set ts seq))=some ((List.range seq.length).map (mO set ts seq)):=by
 unfold yb;have key:=zB (F:=vN seq<|(List.range seq.length).map<|mI set ts seq) (λs=>∃i:Nat,i<=seq.length/\s=((List.range i).map<|mO set ts seq,(i:Int))) (λs=>(seq.length - s.2).toNat)
  (λz=>z=(List.range seq.length).map (mO set ts seq)) ?_ ([],0) ⟨0,by omega,rfl⟩
 ·obtain⟨z,b,rfl⟩:=key;rw[b];rfl
 ·rintro s ⟨i,hi,rfl⟩;by_cases a:i<seq.length
  ·left;unfold vN Ee;rw[if_pos so,Tf hA hlen hp a];simp only[im];rw[cG so so];simp only[im];refine⟨_,rfl,⟨i+1,by omega,?_⟩,?_⟩
   ·rw[zv om om,gj,fe];rfl
   ·simp only;rw[zv om om];omega
  ·right;have:i=seq.length:=by omega
   subst this;unfold vN;rw[if_neg si];exact⟨_,rfl,rfl⟩
theorem Ri{p0 fin sl i}(hi:i<seq.length):vU (p0,seq,fin,(List.range seq.length).map (mI set ts seq),sl) (i:Int)=some (mO set ts seq i):=by
 obtain⟨_,_,_,_,_,_,s,_⟩:=jQ hp<|eV hi;have step:∀(d l m:Int),cH d->l=d+1->uU (p0,seq,fin,(List.range seq.length).map<|mI set ts seq,sl) (i:Int) (m,d)=some (.inl (l_ (bO set ts seq i d) m<|sh d,l)):=by
  intro d l m hd c;obtain⟨v,_,n⟩:=iY hd;unfold uU vb vc;rw[if_pos (by simpa using v)];simp only[zq<|eV hi,im];rw[(jq s hd).2];simp only[im];unfold Dx;simp only;obtain⟨r,w,p⟩:=Yh seq om (λq0=>vd q0<|zD (oI seq i).1 d) (λx=>decide (x.1=zD (oI seq i).1 d)) (λb _=>by unfold vd;rw[lN]);rw[w];simp only[im];rcases p with⟨rfl,f⟩ |⟨k,rfl,hk,hlow,b,hb,hq⟩
  ·have:bO set ts seq i d=false:=by
    refine Bool.eq_false_iff.2 λh=>?_;obtain⟨j,g,a⟩:=kW.1 h;simp only[av,decide_eq_true_eq]at a;have u:=f _<|fx<|eV g;simp only[decide_eq_false_iff_not]at u;exact u a.1.2
   rw[if_neg si,if_neg si,this,n,c];rfl
  ·have q:oI seq k=b:=by unfold oI;rw[hb];rfl
   have e:(oI seq k).1=zD (oI seq i).1 d:=by rw[q];simpa using hq
   by_cases t:i<k
   ·have:bO set ts seq i d=bI set ts seq k (dW d):=by
     unfold bO;rw[aw,kW];constructor
     ·rintro⟨j,g,a⟩;simp only[av,decide_eq_true_eq]at a;have:=ue hA hp hk g (by rw[e,a.1.2]);subst this;exact a.2
     ·intro h;exact⟨k,hk,by simp[e,h,t]⟩
    rw[if_pos so,uf _ hk];simp only[im];rw[(BG hd).2.1];simp only[im];unfold mI;rw[Jc _<|ud hd];simp only[im];rw[←this,n,c];cases hbb:bO set ts seq i d with
    | true=>rw[if_pos rfl,uC hd];rfl
    | false=>rw[if_neg si];rfl
   ·have:bO set ts seq i d=false:=by
     refine Bool.eq_false_iff.2 λh=>?_;obtain⟨j,g,a⟩:=kW.1 h;simp only[av,decide_eq_true_eq]at a;have:=ue hA hp hk g (by rw[e,a.1.2]);omega
    rw[if_neg so,if_neg si,this,n,c];rfl
 unfold vU De;rw[zt<|step 0 1 0 (.inl rfl) rfl,zt<|step 1 2 _ (.inr<|.inl rfl) rfl,zt<|step 2 3 _ (.inr<|.inr<|.inl rfl) rfl,zt<|step 3 4 _ (.inr<|.inr<|.inr rfl) rfl,JP];rw[zy (x:=fA<|bO set ts seq i) (by unfold uU;rw[if_neg si])];rfl
end
end
section
variable {set:TSet} {T ts:List aM}
def Se{ts:List aM}(hs:k_ ts)(hl:ts.length<=1048576)(p:Pt):∃(k:Nat)(b:Bool),nW ts p (λq0 f=>jJ q0 f)=some ((k:Int),b)/\((b=true/\∃x,ts[k]?=some x/\x.1=p)\/(b=false/\∀x∈ts,x.1≠p)):=by
 have i:∀x:aM,jJ x p=some (lW x.1 p):=λx=>by unfold jJ;rw[HU];rfl
 have key:=Ca hs hl (p:=p) (F:=zM ts p λq0 f=>jJ q0 f) ?_ ?_
 ·obtain⟨k,s,t,h,g⟩:=key;unfold nW uL;simp only[s,im];by_cases c:k<ts.length
  ·have d:ts[k]?=some ts[k]:=dj c;rw[if_pos (by simp[c])];simp only[zq d,im,i];by_cases e:ts[k].1=p
   ·exact⟨k,true,by simp[AY,e],.inl ⟨rfl,_,d,e⟩⟩
   ·exact⟨k,false,by simp[AY,e],.inr ⟨rfl,pY hs h g λx a=>by rw[d]at a;injection a with a;subst a;exact e⟩⟩
  ·rw[if_neg so];exact⟨k,false,rfl,.inr ⟨rfl,pY hs h g λx a=>by have:=zA a;omega⟩⟩
 ·intro lo hi x c q d;unfold zM;have l:aA ((lo:Int)+(hi:Int))=((lo+hi:Nat):Int):=by rw[zv om om];omega
  have j:IntKind.wrap .u64 ((lo+hi:Nat):Int)=((lo+hi:Nat):Int):=by
   show((lo+hi:Nat):Int) % 18446744073709551616=((lo+hi:Nat):Int);omega
  have r:Int.fdiv ((lo+hi:Nat):Int) (2 ^ 1)=(((lo+hi) / 2:Nat):Int):=by
   rw[Int.fdiv_eq_ediv_of_nonneg _ om];omega
  have m:aA (((lo+hi) / 2:Nat):Int)=(((lo+hi) / 2:Nat):Int):=zv om om;have n:aA ((((lo+hi) / 2:Nat):Int)+1)=(((lo+hi) / 2+1:Nat):Int):=by rw[zv om om];omega
  rw[if_pos (by simp[c])];simp only[l,j,r,m,n,zq d,im,i,Br];cases lp x.1 p<;>rfl
 ·intro lo;unfold zM;rw[if_neg si]
def ZF(h:Cr set T ts)(p:Pt):r' ts p=some (a_ T p):=by
 have g:=h.len;obtain⟨k,b,f,a⟩:=Se h.pw.srt om p;unfold r';rw[f];simp only[im];have c:=(pT T p).perm h.perm;rcases a with⟨rfl,x,d,e⟩ |⟨rfl,hn⟩
 ·rw[if_pos rfl,zq d];simp only[im];congr 1;exact iZ.uniq h.pw (.inl ⟨x.2,rfl,by rw[←e];exact fx d⟩) c
 ·rw[if_neg si];congr 1;exact iZ.uniq h.pw (.inr ⟨rfl,hn⟩) c
def Cr.sub(h:Cr set T ts)(f:aM->Bool):Cr set (ts.filter f) (ts.filter f) where
 perm:=.refl _
 pw:=h.pw.filter f
 ok:=λx hx=>h.ok x (ft.1 hx).1
 len:=gy (ep _ _) h.len
def Cr.asm(hS:SetOk set)(h:Cr set T ts):AsmOk set ts:=by
 have g:=hS.tiles;refine⟨⟨h.len,λi hi x d=>?_⟩,λx d=>(h.ok x d).2⟩;obtain⟨a,b,c⟩:=h.ok x<|fx d;exact⟨a,b,by omega,λy f e=>h.pw.srt (i - 1) i y x om e d⟩
def iy(p:Pt)(b:Int->Bool)(x:aM):Bool:=!decide (x.1=p)&&!(b 0&&decide (x.1=zD p 0))&&!(b 1&&decide (x.1=zD p 1))&&!(b 2&&decide (x.1=zD p 2))&&!(b 3&&decide (x.1=zD p 3))
def YI{p}(hp:cR p=true)(b:Int->Bool)(hl:ts.length<=500):ya ts p (fA b)=some (ts.filter (iy p b)):=by
 have c:∀(i:Nat)(x:aM)(a:List aM),ts[i]?=some x->iter (qv ts p (fA b) ((i:Int),a) x) (!decide (x.1=p),0)=some (iy p b x):=by
  intro i x a e;have step:∀(d j:Int)(r:Bool),cH d->j=d+1->qv ts p (fA b) ((i:Int),a) x (r,d)=some (.inl (r&&!(b d&&decide (x.1=zD p d)),j)):=by
   intro d j r hd f;obtain⟨n,_,m⟩:=iY hd;obtain⟨v,h,g⟩:=Ir b hd;unfold qv wM wN;rw[if_pos (by simpa using n),h];simp only[im];rw[g];cases hb:b d with
   | true=>
    rw[if_pos rfl];simp only[zq e,im];rw[(jq hp hd).1];simp only[im];rw[lN,m,f];cases hq:decide (x.1=zD p d)with
    | true=>rw[if_pos rfl];simp
    | false=>rw[if_neg si];simp
   | false=>rw[if_neg si,if_neg si,m,f];simp
  rw[zt<|step 0 1 _ (.inl rfl) rfl,zt<|step 1 2 _ (.inr<|.inl rfl) rfl,zt<|step 2 3 _ (.inr<|.inr<|.inl rfl) rfl,zt<|step 3 4 _ (.inr<|.inr<|.inr rfl) rfl];refine zy ?_;unfold qv;rw[if_neg si];rfl
 have hlen:∀(i:Nat)(l:List aM),(l.foldl (λa x=>if iy p b x then a++[x]else a) ([]:List aM)).length<=l.length:=λi l=>by
  have:=jO (iy p b) (λx:aM=>x) l [];rw[this];simp;exact ep _ _
 unfold ya;have key:=Hp (F:=vM ts p<|fA b) ts (λa x=>if iy p b x then a++[x]else a) [] om (λa i x e k=>?_) (λa k=>?_)
 ·rw[key];simp only[im,Ec];have:=jO (iy p b) (λx:aM=>x) ts [];rw[this];simp
 ·have q:=zA e;have s:a.length<=1000:=by rw[k];refine gy (hlen 0 _) ?_;rw[fd];omega
  unfold vM;rw[if_pos so];simp only[zq e,im];rw[lN,c i x a e];simp only[im];unfold Eb wO;cases iy p b x with
  | true=>
   rw[if_pos rfl];simp only[zq e,im];rw[cG so so];rfl
  | false=>rw[if_neg si];rfl
 ·unfold vM;rw[if_neg si]
def ZL(E:List Pt)(h:E.length<=1000)(q:Pt):vT E q=some (decide (q∈E)):=by
 unfold vT E_ DJ;rcases mX E om (λx=>some<|decide (q.1=x.1)&&decide (q.2=x.2)) (λx=>decide (q=x)) (λx _=>by rw[lN]) (KB E q) (λi=>rfl)with⟨b,a⟩ |⟨k,b,hk,hlow,x,hx,hq⟩
 ·rw[b];have:¬q∈E:=λh=>by simpa using a q h
  simp[this]
 ·rw[b];have:q∈E:=by
   have c:q=x:=by simpa using hq
   rw[c];exact fx hx
  simp[this]
def eZ(b:Bool)(E:List Pt)(q:Pt):List Pt:=if b then E++[q]else E
def m_ b(E:List Pt)(q:Pt):(eZ b E q).length<=E.length+1:=by unfold eZ;split<;>simp
def ny(p:Pt)(b:Int->Bool):List Pt:=eZ (b 3) (eZ (b 2) (eZ (b 1) (eZ (b 0) [p] (zD p 0)) (zD p 1)) (zD p 2)) (zD p 3)
def QT(p:Pt)(b:Int->Bool)(x:aM):(!decide (x.1∈ny p b))=iy p b x:=by
 unfold ny iy eZ;cases b 0<;>cases b 1<;>cases b 2<;>cases b 3<;>simp[Bool.and_assoc]
def QU(p:Pt)(b:Int->Bool):(ny p b).length<=5:=by
 unfold ny;have a:=m_ (b 0) [p]<|zD p 0;have c:=m_ (b 1) (eZ (b 0) [p]<|zD p 0)<|zD p 1;have d:=m_ (b 2) (eZ (b 1) (eZ (b 0) [p]<|zD p 0)<|zD p 1)<|zD p 2;have e:=m_ (b 3) (eZ (b 2) (eZ (b 1) (eZ (b 0) [p]<|zD p 0)<|zD p 1)<|zD p 2)<|zD p 3;simp only[fc]at a;omega
def YJ{p}(b:Int->Bool)(hl:ts.length<=500):vG ts (ny p b)=some (ts.filter (iy p b)):=by
 unfold vG;rw[N_ ts om];simp only[im];rw[Yo ts om _ (λx=>decide (x.1∈ny p b)) (λx _=>by
  unfold CT;rw[ZL _ (by have:=QU p b;omega)];rfl)]
 simp only[im];congr 1;exact List.filter_congr λx _=>QT p b x
section
variable {t:Int} {seq:List aM} (hS:SetOk set) (hA:AsmOk set ts) (hlen:seq.length<=500) (hp:Played set t ts seq)
def eK(set:TSet)(T0 seq:List aM)(i:Nat):List aM:=(cY seq T0).filter (iy (oI seq i).1 (bO set T0 seq i))
def kX(set:TSet)(t:Int)(T0 seq:List aM)(i:Nat)(k:Int):Prop:=k≠(oI seq i).2/\fT set (a_ (eK set T0 seq i)) (oI seq i).1 k≥t
instance{t:Int}{T0 seq:List aM}{i:Nat}{k:Int}:Decidable (kX set t T0 seq i k):=inferInstanceAs (Decidable (_/\_))
include hS hA hlen hp
theorem Ij i:Cr set (eK set ts seq i) (eK set ts seq i):=by
 have h:=jj (fN hA) hp seq.length;rw[gm]at h;exact h.sub _
theorem PX{i s0 sl}(hi:i<seq.length):
  ∃r,vV ((set,s0,t),seq,cY seq ts,(List.range seq.length).map (mI set ts seq),sl) (i:Int)=some r/\(r=true↔∃k,TileIx set k/\kX set t ts seq i k):=by
 obtain⟨_,L,_,_,_,_,p,_⟩:=jQ hp<|eV hi;have l:=jj (fN hA) hp seq.length;rw[gm]at l;have j:=Ij hS hA hlen hp i;have O:=hS.tiles;unfold vV;simp only[zq<|eV hi,im];have step:∀(d w:Int)(E:List Pt),cH d->w=d+1->E.length<=100->uW ((set,s0,t),seq,cY seq ts,(List.range seq.length).map<|mI set ts seq,sl) (i:Int) (oI seq i) (E,d)=some (.inl (eZ (bO set ts seq i d) E<|zD (oI seq i).1 d,w)):=by
  intro d w E hd q M;obtain⟨J,_,A⟩:=iY hd;unfold uW ve;rw[if_pos (by simpa using J),Ri hA hlen hp hi];simp only[im];unfold mO;rw[Jc _ hd];simp only[im];unfold eZ;cases bO set ts seq i d with
  | true=>
   rw[if_pos rfl,(jq p hd).2];simp only[im];rw[cG so so];simp only[im];rw[A,q];rfl
  | false=>rw[if_neg si,A,q];rfl
 have D:=m_ (bO set ts seq i 0) [(oI seq i).1]<|zD (oI seq i).1 0;have n:=m_ (bO set ts seq i 1) (eZ (bO set ts seq i 0) [(oI seq i).1]<|zD (oI seq i).1 0)<|zD (oI seq i).1 1;have v:=m_ (bO set ts seq i 2) (eZ (bO set ts seq i 1) (eZ (bO set ts seq i 0) [(oI seq i).1]<|zD (oI seq i).1 0)<|zD (oI seq i).1 1)<|zD (oI seq i).1 2;simp only[fc]at D;rw[zt<|step 0 1 _ (.inl rfl) rfl si,zt<|step 1 2 _ (.inr<|.inl rfl) rfl om,zt<|step 2 3 _ (.inr<|.inr<|.inl rfl) rfl om,zt<|step 3 4 _ (.inr<|.inr<|.inr rfl) rfl om];rw[zy (x:=ny (oI seq i).1<|bO set ts seq i) (by unfold uW;rw[if_neg si];rfl)];simp only[im];unfold CZ;simp only;rw[YJ _ l.len];simp only[im];have key:=zB (F:=uV ((set,s0,t),seq,cY seq ts,(List.range seq.length).map<|mI set ts seq,sl) (oI seq i)<|eK set ts seq i)
  (λs=>0<=s/\s<=set.2.length/\∀k:Int,0<=k->k<s->¬kX set t ts seq i k) (λs=>(set.2.length - s).toNat)
  (λz=>match z with | .inl _=>∀k:Int,TileIx set k->¬kX set t ts seq i k | .inr b=>b=true/\∃k,TileIx set k/\kX set t ts seq i k) ?_ 0 ⟨by omega,by omega,λk n v=>by omega⟩
 ·obtain⟨z,H,j⟩:=key;show ∃r,((iter (uV _ _<|eK set ts seq i) 0).bind _)=some r/\_;rw[H];cases z with
  | inl u=>
   refine⟨false,rfl,?_⟩;constructor
   ·intro h;cases h
   ·rintro⟨k,n,v⟩;exact absurd v<|j k n
  | inr b=>exact⟨b,rfl,λ_=>j.2,λ_=>j.1⟩
 ·rintro k ⟨G,N,y⟩;unfold uV vf;simp only;by_cases C:k<set.2.length
  ·rw[if_pos so];have m:TileIx set k:=⟨G,by omega⟩;have B:aA (k+1)=k+1:=zv om om;have f:¬kX set t ts seq i k->(0<=k+1/\k+1<=set.2.length/\∀e:Int,0<=e->e<k+1->¬kX set t ts seq i e)/\((set.2.length:Int) - (k+1)).toNat<((set.2.length:Int) - k).toNat:=by
    intro c;refine⟨⟨by omega,by omega,λe n v=>?_⟩,by omega⟩;by_cases I:e=k
    ·subst I;exact c
    ·exact y e n om
   by_cases a:k=(oI seq i).2
   ·left;rw[if_neg (by simp[a]),if_neg si,B];exact⟨_,rfl,f λc=>c.1 a⟩
   ·rw[if_pos (by simp[a]),M_ hS j.fok p (g:=λq0=>r' (eK set ts seq i) q0) (λd _=>ZF j _) m];simp only[im];by_cases c:fT set (a_<|eK set ts seq i) (oI seq i).1 k≥t
    ·right;rw[if_pos (by simpa using c)];exact⟨_,rfl,rfl,k,m,a,c⟩
    ·left;rw[if_neg (by simpa using c),B];exact⟨_,rfl,f λh=>c h.2⟩
  ·right;rw[if_neg so];exact⟨_,rfl,λe h=>y e h.1 (by have:=h.2;omega)⟩
theorem Qj{i}(hi:i<seq.length):sI set ts seq i<=fT set (a_ (eK set ts seq i)) (oI seq i).1 (oI seq i).2:=by
 obtain⟨_,u,_,_,_,_,x,_⟩:=jQ hp<|eV hi;have w:=jj (fN hA) hp i;have h:=jj (fN hA) hp seq.length;have t:=Ij hS hA hlen hp i;have one:∀d,cH d->dP set (a_<|TI ts seq i) (oI seq i).1 (oI seq i).2 d<=dP set (a_<|eK set ts seq i) (oI seq i).1 (oI seq i).2 d:=by
  intro d hd;have A:=jz hS t.fok (oI seq i).1 u hd;by_cases c:a_ (TI ts seq i) (zD (oI seq i).1 d)≥0
  ·rcases pT (TI ts seq i) (zD (oI seq i).1 d)with⟨v,ev,p⟩ |⟨e,_⟩
   ·have l:(zD (oI seq i).1 d,v)∈TI ts seq seq.length:=by
     have:=Bt hA hp p (seq.length - i) om
     rwa [show i+(seq.length - i)=seq.length by omega]at this
    have n:(zD (oI seq i).1 d,v)∈cY seq ts:=by
     have:=h.perm.mem_iff.1 l
     rwa [gm]at this
    have q:zD (oI seq i).1 d≠(oI seq i).1:=Iw hA hp (eV hi) _ p;have g:∀a,bO set ts seq i a=true->zD (oI seq i).1 d≠zD (oI seq i).1 a:=by
     intro a b e;obtain⟨k,j,s⟩:=kW.1 b;simp only[av,decide_eq_true_eq]at s;have r:=Bt hA hp p (k - i) om;rw[show i+(k - i)=k by omega]at r;exact Iw hA hp (eV j) _ r (by rw[s.1.2];exact e)
    have m:(zD (oI seq i).1 d,v)∈eK set ts seq i:=by
     refine ft.2 ⟨n,?_⟩;unfold iy;have f:∀a,(!(bO set ts seq i a&&decide (zD (oI seq i).1 d=zD (oI seq i).1 a)))=true:=by
      intro a;cases b:bO set ts seq i a with
      | false=>rfl
      | true=>simp[g a b]
     simp only;rw[f 0,f 1,f 2,f 3,decide_eq_false q];rfl
    have y:a_ (eK set ts seq i) (zD (oI seq i).1 d)=a_ (TI ts seq i) (zD (oI seq i).1 d):=by
     rw[ev];exact iZ.uniq t.pw (pT _ _)<|.inl ⟨v,rfl,m⟩
    unfold dP;rw[y];exact Int.le_refl _
   ·omega
  ·have:dP set (a_<|TI ts seq i) (oI seq i).1 (oI seq i).2 d=0:=if_neg c;omega
 unfold sI fT;have C:=one 0<|.inl rfl;have o1:=one 1<|.inr<|.inl rfl;have o2:=one 2<|.inr<|.inr<|.inl rfl;have B:=one 3<|.inr<|.inr<|.inr rfl;omega
theorem TX{i}(hi:i<seq.length)(hs:sI set ts seq i=t):((eN set t (a_ (eK set ts seq i)) (oI seq i).1).length=1↔¬ ∃k,TileIx set k/\kX set t ts seq i k):=by
 obtain⟨_,s,_⟩:=jQ hp<|eV hi;have q:=Qj hS hA hlen hp hi;have c:∀k,k∈eN set t (a_<|eK set ts seq i) (oI seq i).1↔TileIx set k/\fT set (a_<|eK set ts seq i) (oI seq i).1 k≥t:=by
  intro k;unfold eN;rw[ft,I_,decide_eq_true_eq]
 have f:(eN set t (a_<|eK set ts seq i) (oI seq i).1).Pairwise (· ≠ ·):=by
  unfold eN fJ;refine List.Pairwise.filter _ ?_;rw[List.pairwise_map];exact List.nodup_range.imp λ{a b} h j=>h om
 have d:(oI seq i).2∈eN set t (a_<|eK set ts seq i) (oI seq i).1:=(c _).2 ⟨s,by omega⟩;revert c f d;generalize hL:eN set t (a_<|eK set ts seq i) (oI seq i).1=L;intro c f d;constructor
 ·rintro p ⟨k,j,v,u⟩;obtain⟨a,rfl⟩:=List.length_eq_one_iff.1 p;have r:=(c k).2 ⟨j,u⟩;simp only[ga]at r d;exact v (by rw[r,d])
 ·intro m;have e:∀k∈L,k=(oI seq i).2:=λk g=>Classical.byContradiction λn=>m ⟨k,((c k).1 g).1,n,((c k).1 g).2⟩
  match L,f,d,e with
  |[],_,d,_=>cases d
  |[a],_,_,_=>rfl
  | a::b::l,f,_,e=>
   have p:=e a si;have j:=e b si;exact absurd (p.trans j.symm)<|(gg.1 f).1 b si
def nM(set:TSet)(t:Int)(T0 seq:List aM)(i:Nat):Prop:=sI set T0 seq i=t/\¬ ∃k,TileIx set k/\kX set t T0 seq i k
theorem Zm{s0}:∃z,iter (CW ((set,s0,t),seq,cY seq ts,(List.range seq.length).map (mI set ts seq),(List.range seq.length).map (sI set ts seq))) 0=some z/\
  match z with | .inl _=>∀i,i<seq.length->nM set t ts seq i | .inr f=>f.isSome=true/\∃i,i<seq.length/\¬nM set t ts seq i:=by
 refine zB (λs=>∃i:Nat,s=(i:Int)/\i<=seq.length/\∀j,j<i->nM set t ts seq j) (λs=>(seq.length - s).toNat) _ ?_ 0 ⟨0,rfl,by omega,λj h=>by omega⟩;rintro s ⟨i,rfl,hi,d⟩;unfold CW;simp only;by_cases a:i<seq.length
 ·rw[if_pos so];simp only[zq<|eV a,im];rw[uf _ a];simp only[im];by_cases hs:sI set ts seq i=t
  ·rw[if_neg (by simp[hs])];obtain⟨r,g,b⟩:=PX hS hA hlen hp a (s0:=s0) (sl:=(List.range seq.length).map<|sI set ts seq);rw[g];simp only[im];cases r with
   | true=>
    right;rw[if_pos rfl];exact⟨_,rfl,rfl,i,a,λh=>h.2<|b.1 rfl⟩
   | false=>
    left;rw[if_neg si];refine⟨_,rfl,⟨i+1,by rw[zv om om];omega,by omega,λj e=>?_⟩,by rw[zv om om];omega⟩;by_cases c:j=i
    ·subst c;exact⟨hs,λh=>by have:=b.2 h;cases this⟩
    ·exact d j om
  ·right;rw[if_pos (by simp[hs])];exact⟨_,rfl,rfl,i,a,λh=>hs h.1⟩
 ·right;rw[if_neg so];exact⟨_,rfl,λj e=>d j om⟩
theorem ZK{s0}:∃z,iter (DO (set,s0,t) seq ((List.range seq.length).map (mI set ts seq),(List.range seq.length).map (sI set ts seq)) ((List.range seq.length).map (mO set ts seq)) (cY seq ts,0,0)) (0,0,0)=some z/\
  match z with | .inl _=>∀i,i<seq.length->nM set t ts seq i | .inr f=>f.1≠0/\∃i,i<seq.length/\¬nM set t ts seq i:=by
 refine zB (λs=>∃i:Nat,s.1=(i:Int)/\i<=seq.length/\∀j,j<i->nM set t ts seq j) (λs=>((seq.length:Int) - s.1).toNat) _ ?_ (0,0,0) ⟨0,rfl,by omega,λj h=>by omega⟩;rintro⟨s,u⟩ ⟨i,e,hi,hg⟩;simp only at e;subst e;have b:=jj (fN hA) hp seq.length;rw[gm]at b;unfold DO;simp only;by_cases a:i<seq.length
 ·rw[if_pos so];obtain⟨_,q,_,_,_,_,g,_⟩:=jQ hp<|eV a;rw[uf _ a,uf _ a];simp only[zq<|eV a,im];by_cases hs:sI set ts seq i=t
  ·rw[if_neg (by simp[hs])];unfold mO;rw[YI g _ b.len];simp only[im];have n:=Ij hS hA hlen hp i;have c:=Ki hS n.fok (rest:=eK set ts seq i) g (λd _=>(n.at _).1) t;unfold eK at c;rw[c];simp only[im];have k:=TX hS hA hlen hp a hs;unfold eK at k;by_cases m:(eN set t (a_<|(cY seq ts).filter<|iy (oI seq i).1<|bO set ts seq i) (oI seq i).1).length=1
   ·left;rw[if_neg (by simp[m])];refine⟨_,rfl,⟨i+1,by simp only;rw[zv om om];omega,by omega,λj p=>?_⟩,by simp only;rw[zv om om];omega⟩;by_cases l:j=i
    ·subst l;exact⟨hs,k.1 m⟩
    ·exact hg j om
   ·right;rw[if_pos so];exact⟨_,rfl,by simp,i,a,λh=>m<|k.2 h.2⟩
  ·right;rw[if_pos (by simp[hs])];exact⟨_,rfl,by simp,i,a,λh=>hs h.1⟩
 ·right;rw[if_neg so];exact⟨_,rfl,λj p=>hg j om⟩
theorem Rg(hV:ko (set,ts,t)=some true)(hV':kD (set,ts,t)=some true):
  ∃r,sL (set,ts,t) seq=some r/\yX (set,ts,t) seq=some (decide (r.1=0)):=by
 have D:=hA.1.1;have e:=jj (fN hA) hp seq.length;rw[gm]at e;have c:=e.asm hS;obtain⟨E,j,_,_,m⟩:=Hk hS hA t hV hV' seq om;obtain rfl:=m hlen hp;have k:px (set,ts,t) seq=some (cY seq ts,0,0):=by
  unfold px;obtain⟨r,O,v,p,G,w⟩:=Jq hS hA t hlen;have B:kB ts=some ts:=by unfold kB;rw[cG so so];rfl
  simp only;rw[B];simp only[im];rw[w];cases r with
  | inl q=>rfl
  | inr z=>
   simp only at p;cases p with
   | ok h=>rfl
   | bad _ _ _ h0 g=>exact absurd hp g
 obtain⟨out,o1,o2,F⟩:=NC hS (fN c) ts t;obtain⟨l,l1,l2,_⟩:=Sb hS c ts t;have b:l=[]↔out=[]:=l2.trans<|JQ.trans o2.symm;obtain⟨z,A,d⟩:=Zm hS hA hlen hp (s0:=ts);obtain⟨s,n,a⟩:=ZK hS hA hlen hp (s0:=ts);unfold sL yX xY HI;rw[QE hS hA hlen hp,j];simp only[im];rw[ZA hA hlen hp,k];simp only[im];rw[n,if_neg si,yQ hS hA ts t];simp only[im];rw[RQ hS hA hlen hp];simp only[im,GQ];rw[if_neg si];unfold Ew;rw[A];simp only[im];cases z with
 | inl u=>
  cases s with
  | inr f=>obtain⟨_,i,hi,g⟩:=a;exact absurd (d i hi) g
  | inl u'=>
   simp only;unfold Df ER;simp only;rw[yQ hS c ts t,o1];simp only[im];rw[l1];simp only[im];cases out with
   | nil=>
    have C:l=[]:=b.2 rfl;subst C;rw[if_neg si,if_neg si];exact⟨_,rfl,rfl⟩
   | cons x out=>
    cases l with
    | nil=>have:=b.1 rfl;cases this
    | cons y l=>
     rw[if_pos si,if_pos si];exact⟨_,rfl,rfl⟩
 | inr f=>
  cases s with
  | inl u'=>obtain⟨_,i,hi,g⟩:=d;exact absurd (a i hi) g
  | inr f'=>
   simp only;refine⟨_,rfl,?_⟩;obtain⟨v,_⟩:=d;cases f with
   | none=>cases v
   | some To=>
    obtain⟨H,o⟩:=To;have:=a.1;simp[this]
end
end
def HH{S X:Type}{F G:S->Option (S ⊕ X)}(I:S->Prop)(μ:S->Nat)(R:X->Prop)(h:∀s,I s->(∃a,F s=some (.inl a)/\G s=some (.inl a)/\I a/\μ a<μ s)\/∃x,F s=some (.inr x)/\G s=some (.inr x)/\R x)(s:S)(hs:I s):∃x,iter F s=some x/\iter G s=some x/\R x:=zB (F:=F) (λa=>I a/\iter G s=iter G a) μ (λx=>iter G s=some x/\R x) (λa hs'=>by
  rcases h a hs'.1 with⟨e,b,c,d,hm⟩ |⟨x,b,c,hR⟩
  ·exact .inl ⟨e,b,⟨d,by rw[hs'.2,zt c]⟩,hm⟩
  ·exact .inr ⟨x,b,by rw[hs'.2,zy c],hR⟩) s ⟨hs,rfl⟩
def Jy{α:Type}{a b:List α}(h:a.length<=2000000)(hl:a.length=b.length)(F:Int->Option (Int ⊕ (Unit ⊕ Bool)))(h1:∀(i:Nat) x,a[i]?=some x->b[i]?=some x->F (i:Int)=some (.inl (aA ((i:Int)+1))))(h2:∀(i:Nat) x y,a[i]?=some x->b[i]?=some y->x≠y->F (i:Int)=some (.inr (.inr false)))(hs:F (a.length:Int)=some (.inr (.inl ()))):
  (iter F 0=some (.inl ())/\a=b)\/(iter F 0=some (.inr false)/\a≠b):=by
 have key:=jU (λi=>(i:Int)) 0 a.length (λi=>a[i]?=b[i]?) F om (λi _ hi _ c=>?_) (λi _ hi _ c=>?_) (λ_=>hs)
 ·rcases key with⟨g,d⟩ |⟨g,hn⟩
  ·refine .inl ⟨g,ce λi=>?_⟩;by_cases hi:i<a.length
   ·exact d i om hi
   ·rw[dl om,dl om]
  ·exact .inr ⟨g,λe=>hn λi _ _=>by rw[e]⟩
 ·have f:a[i]?=some a[i]:=dj hi;have k:=h1 i _ f (c▸f);rw[zv om om]at k;exact k
 ·have f:a[i]?=some a[i]:=dj hi;have j:b[i]?=some (b[i]'om):=dj om;refine h2 i _ _ f j λe=>c ?_;rw[f,j,e]
def Td(a b:aM):((decide (a.1.1=b.1.1)&&decide (a.1.2=b.1.2))&&decide (a.2=b.2))=decide (a=b):=by
 rw[aw];simp[Prod.ext_iff,and_assoc]
def Jp(a b:List aM)(h:a.length<=2000000):sV a b=some (decide (a=b)):=by
 unfold sV FE;by_cases f:a.length=b.length
 ·rw[if_neg (by simp[f])];have key:=Jy h f (ra a b) (λi x c g=>?_) (λi x y c g d=>?_) ?_
  ·rcases key with⟨j,e⟩ |⟨j,e⟩
   ·rw[j];simp[e]
   ·rw[j];simp[e]
  ·unfold ra;rw[if_pos (by have:=zA c;simp;omega)];simp[zq c,zq g]
  ·unfold ra;rw[if_pos (by have:=zA c;simp;omega)];simp only[zq c,zq g,im];rw[Td,if_pos (by simp[d])]
  ·unfold ra;rw[if_neg si]
 ·rw[if_pos so];have:a≠b:=λe=>f (by rw[e]);simp[this]
def Rx(a b:List aM)(h:a.length<=2000000):wV a b=some (decide (a=b)):=by
 have e:Fa a b=sV a b:=rfl;unfold wV;rw[e,Jp a b h];rfl
def qc(a:List aM):rm a []=some (decide ((a.length:Int)=0)):=by
 unfold rm Ds;cases a with
 | nil=>
  rw[if_neg si,zy (x:=Sum.inl ()) (by unfold KD;rw[if_neg si])];rfl
 | cons x a=>rw[if_pos so];simp;omega
def qb(a:List Int):rl a []=some (decide ((a.length:Int)=0)):=by
 unfold rl DL;cases a with
 | nil=>
  rw[if_neg si,zy (x:=Sum.inl ()) (by unfold KC;rw[if_neg si])];rfl
 | cons x a=>rw[if_pos so];simp;omega
def qa(a:List (List Int))(f:List Int->List Int->Option Bool):we a [] f=some (decide ((a.length:Int)=0)):=by
 unfold we CQ;cases a with
 | nil=>
  rw[if_neg si,zy (x:=Sum.inl ()) (by unfold Kv;rw[if_neg si])];rfl
 | cons x a=>rw[if_pos so];simp;omega
def QS(pf:eX)(h:1<=pf.1/\pf.1<=6):∃b,wz pf=some b/\sf pf=some b:=by
 obtain⟨k,d,a,c,fl⟩:=pf;simp only at h;have e:k=1\/k=2\/k=3\/k=4\/k=5\/k=6:=by omega
 have key:∃b,sf (k,d,a,c,fl)=some b/\yF (iw (k,d,a,c,fl)) (0,[],[],[],[])=some b:=by
  unfold yF sf;rcases e with rfl | rfl | rfl | rfl | rfl | rfl
  ·rw[show iw (1,d,a,c,fl)=(0,[],a,c,fl)from rfl];simp only[qc,qb,qa,im];generalize decide ((d.length:Int)=0)=b1;generalize decide ((a.length:Int)=0)=b2;generalize decide ((c.length:Int)=0)=b3;generalize decide ((fl.length:Int)=0)=b4;cases b1<;>cases b2<;>cases b3<;>cases b4<;>exact⟨_,rfl,rfl⟩
  ·rw[show iw (2,d,a,c,fl)=(0,[],a,c,fl)from rfl];simp only[qc,qb,qa,im];generalize decide ((d.length:Int)=0)=b1;generalize decide ((a.length:Int)=0)=b2;generalize decide ((c.length:Int)=0)=b3;generalize decide ((fl.length:Int)=0)=b4;cases b1<;>cases b2<;>cases b3<;>cases b4<;>exact⟨_,rfl,rfl⟩
  ·rw[show iw (3,d,a,c,fl)=(0,[],a,c,fl)from rfl];simp only[qc,qb,qa,im];generalize decide ((d.length:Int)=0)=b1;generalize decide ((a.length:Int)=0)=b2;generalize decide ((c.length:Int)=0)=b3;generalize decide ((fl.length:Int)=0)=b4;cases b1<;>cases b2<;>cases b3<;>cases b4<;>exact⟨_,rfl,rfl⟩
  ·rw[show iw (4,d,a,c,fl)=(0,[],[],c,fl)from rfl];simp only[qc,qb,qa,im];generalize decide ((d.length:Int)=0)=b1;generalize decide ((a.length:Int)=0)=b2;generalize decide ((c.length:Int)=0)=b3;generalize decide ((fl.length:Int)=0)=b4;cases b1<;>cases b2<;>cases b3<;>cases b4<;>exact⟨_,rfl,rfl⟩
  ·rw[show iw (5,d,a,c,fl)=(0,d,a,c,[])from rfl];simp only[qc,qb,qa,im];generalize decide ((d.length:Int)=0)=b1;generalize decide ((a.length:Int)=0)=b2;generalize decide ((c.length:Int)=0)=b3;generalize decide ((fl.length:Int)=0)=b4;cases b1<;>cases b2<;>cases b3<;>cases b4<;>exact⟨_,rfl,rfl⟩
  ·rw[show iw (6,d,a,c,fl)=(0,d,a,[],fl)from rfl];simp only[qc,qb,qa,im];generalize decide ((d.length:Int)=0)=b1;generalize decide ((a.length:Int)=0)=b2;generalize decide ((c.length:Int)=0)=b3;generalize decide ((fl.length:Int)=0)=b4;cases b1<;>cases b2<;>cases b3<;>cases b4<;>exact⟨_,rfl,rfl⟩
 obtain⟨b,g,f⟩:=key;exact⟨b,f,g⟩
section
variable {set:TSet} {ts asm:List aM}
def Ot(hS:SetOk set)(hA:AsmOk set ts)t(hV:ko (set,ts,t)=some true)(hV':kD (set,ts,t)=some true)(hasm:asm.length<=2000000)(seq:List aM)(hl:seq.length<=2000000):
  ∃b,mo seq (set,ts,t) asm=some b/\kw (set,ts,t) seq asm=some b/\(b=true->seq.length<=500/\Played set t ts seq/\asm=cY seq ts):=by
 obtain⟨r,i,g,j,_⟩:=Hk hS hA t hV hV' seq hl;unfold mo kw;rw[i,g];simp only[im];by_cases c:r.2.2=0
 ·obtain⟨f,d,e⟩:=j c;have a:=jj (fN hA) d seq.length;rw[gm,←e]at a;rw[if_pos (by simpa using c),if_pos (by simpa using c),Rx asm r.1 hasm,Jp r.1 asm (by have:=a.len;omega)];refine⟨decide (r.1=asm),?_,rfl,λh=>⟨f,d,by rw[←e];exact(of_decide_eq_true h).symm⟩⟩;simp only[im];rw[decide_eq_decide.2 eq_comm]
 ·rw[if_neg (by simpa using c),if_neg (by simpa using c)];exact⟨false,rfl,rfl,λh=>by cases h⟩
def RF{bs:List Bd}{fl:List Int}(h:fl.length=bs.length):Dk fl bs=qS fl bs:=by
 funext s;unfold Dk qS;by_cases a:s.2<(bs.length:Int)
 ·rw[if_pos (by simpa using a),if_pos (by simpa using a)];by_cases b:0<=s.2
  ·obtain⟨x,f,_⟩:=zU (l:=bs) b a;obtain⟨y,d,_⟩:=zU (l:=fl) b om;simp only[f,d,im,fD,gM]
  ·have c:idx bs s.2=none:=by unfold idx;rw[if_neg b]
   have e:idx fl s.2=none:=by unfold idx;rw[if_neg b]
   rw[c,e];rfl
 ·rw[if_neg (by simpa using a),if_neg (by simpa using a)]
def RG(hS:SetOk set)(hA:AsmOk set asm){va vs p3}(h1:jL set asm=some true)(h2:pk set asm=some 0)(h3:1<=p3)(h4:p3<=(asm.length:Int) - 1)fl(hva:va=())(hvs:vs=()):
  ∃r,yK set asm 0 p3 fl=some r/\yl set asm 0 p3 fl=some r:=by
 have X:=hA.1.1;have p:aA ((asm.length:Int) - 1)=(asm.length:Int) - 1:=zv om om;obtain⟨bs,D,Q,I,Y⟩:=Ia hS hA;unfold yK yl GR iG;rw[h1,h2];simp only[im,p,fD,gM];have M:decide ((0:Int)<=0/\(0:Int)<=(asm.length:Int) - 1)=true:=decide_eq_true om;have E:decide ((0:Int)<=p3/\p3<=(asm.length:Int) - 1)=true:=decide_eq_true om;have N:decide ((0:Int)=p3)=false:=decide_eq_false om;simp only[M,E,N,bc,ba,if_false,rX,im,decide_true,rE];rw[D,Q];simp only[im];by_cases t:fl.length=bs.length
 ·rw[if_neg (by simp[t]),if_neg (by simp[t]),iW om om om];simp only[im,bh];rw[RF t];have key:=zB (F:=qS fl bs) (λs=>0<=s.2/\s.2<=bs.length/\s.1.length=asm.length) (λs=>(bs.length - s.2).toNat) (λz=>match z with | .inl y=>y.length=asm.length | .inr r=>True) ?_ (List.replicate asm.length 0,0) ⟨by simp,by simp,by simp⟩
  ·obtain⟨z,L,O⟩:=key;rw[L];simp only[im];cases z with
   | inr z=>exact⟨z,rfl,rfl⟩
   | inl y=>
    simp only at O ⊢;unfold Fz EF;have k2:=HH (F:=qF 0 p3 y) (G:=qR asm 0 p3 y) (λs=>0<=s/\s<=asm.length) (λs=>(asm.length - s).toNat) (λ_=>True) ?_ 0 ⟨by omega,by omega⟩
    ·obtain⟨x,T,J,_⟩:=k2;rw[T,J];simp only[im];cases x with
     | inr z=>exact⟨z,rfl,rfl⟩
     | inl u=>
      simp only;unfold Fy EE;obtain⟨v,b,_⟩:=zU (l:=y) (i:=0) om om;rw[b];exact⟨_,rfl,rfl⟩
    ·rintro s ⟨d,B⟩;have A:s<asm.length->aA (s+1)=s+1:=λh=>zv om om;have H:s<asm.length->∀v,idx y s=some v->qF 0 p3 y s=if v≠0/\s≠0/\s≠p3 then some (.inr<|.inr (0,10))else some (.inl (s+1)):=λh v b=>by
      unfold qF rH;rw[if_pos so,b,A h];simp only[im];by_cases e:v=0
      ·simp[e]
      ·by_cases c:s=0
       ·simp[e,c]
       ·by_cases j:s=p3<;>simp[e,c,j]
        all_goals (intro S;omega)
     have C:s<asm.length->∀v,idx y s=some v->qR asm 0 p3 y s=if v≠0/\s≠0/\s≠p3 then some (.inr<|.inr (0,10))else some (.inl (s+1)):=λh v b=>by
      unfold qR rC;rw[p,if_pos so,b,A h];simp only[im];by_cases c:s=0
      ·simp[c]
      ·by_cases j:s=p3
       ·simp[c,j]
        all_goals (intro S;omega)
       ·by_cases e:v=0<;>simp[e,c,j]
     by_cases a:s<asm.length
     ·obtain⟨v,b,_⟩:=zU (l:=y) (i:=s) d om;rw[H a v b,C a v b];by_cases q:v≠0/\s≠0/\s≠p3
      ·right;rw[if_pos q];exact⟨_,rfl,rfl,trivial⟩
      ·left;rw[if_neg q];exact⟨_,rfl,rfl,⟨by omega,by omega⟩,by omega⟩
     ·right;refine⟨.inl (),?_,?_,trivial⟩
      ·unfold qF;rw[if_neg so]
      ·unfold qR;rw[p,if_neg so]
  ·rintro⟨y,i⟩ ⟨d,B,g2⟩;simp only at d B g2;unfold qS;by_cases a:i<bs.length
   ·obtain⟨x,R,w⟩:=zU (l:=bs) d a;obtain⟨f,m,_⟩:=zU (l:=fl) d om;obtain⟨w0,w1,w2,U,_⟩:=I _ x w;rw[if_pos (by simpa using a)];simp only[R,m,im,gM];by_cases g:aA (0 - x.2.2)<=f/\f<=x.2.2
    ·left;rw[if_neg (by simpa using g)];obtain⟨u,P,_⟩:=zU (l:=y) w0 om;simp only[P,im];obtain⟨V,k,_⟩:=zU (l:=y.set x.1.toNat<|aA (u+f)) w2 (by rw[fa];omega);simp only[k,im];rw[zv (n:=i+1) om om];exact⟨_,rfl,⟨by simp only;omega,by simp only;omega,by simp[g2]⟩,by simp only;omega⟩
    ·right;rw[if_pos (by simp only[bb,decide_eq_false_iff_not];exact g)];exact⟨_,rfl,trivial⟩
   ·right;rw[if_neg (by simpa using a)];exact⟨_,rfl,g2⟩
 ·rw[if_pos so,if_pos so];exact⟨_,rfl,rfl⟩
def Rn(hS:SetOk set)(hA:AsmOk set asm)(h1:jL set asm=some true)(h2:pk set asm=some 0)t{s0}(fl:List (List Int)):
  ∃r,u_ fl (set,s0,t) asm=some r/\yC (set,s0,t) asm fl=some r:=by
 have D:=hA.1.1;have m:aA ((asm.length:Int) - 1)=(asm.length:Int) - 1:=zv om om;unfold u_ yC kC JV;rw[m];have e:(if decide (0>(asm.length:Int) - 1)=true then some (0:Int)else some<|(asm.length:Int) - 1)=some (if 0>(asm.length:Int) - 1 then 0 else(asm.length:Int) - 1):=by
  by_cases h:0>(asm.length:Int) - 1<;>simp[h]
 rw[e];simp only[im];by_cases b:(fl.length:Int)=if 0>(asm.length:Int) - 1 then 0 else(asm.length:Int) - 1
 ·rw[if_neg (by simp[b]),if_neg (by simp[b])];have k2:=HH (F:=qq fl (set,s0,t) asm) (G:=rj (set,s0,t) asm fl) (λs=>0<=s/\s<=fl.length) (λs=>(fl.length - s).toNat) (λ_=>True) ?_ 0 ⟨by omega,by omega⟩
  ·obtain⟨x,p,B,_⟩:=k2;rw[p,B];cases x with
   | inr z=>exact⟨z,rfl,rfl⟩
   | inl u=>exact⟨_,rfl,rfl⟩
  ·rintro s ⟨w,C⟩;by_cases a:s<fl.length
   ·obtain⟨v,g,_⟩:=zU (l:=fl) w a;have i:aA (s+1)=s+1:=by
     split at b<;>exact zv om om
    have c:1<=s+1/\s+1<=(asm.length:Int) - 1:=by split at b<;>omega
    obtain⟨r,y,j⟩:=RG hS hA (va:=()) (vs:=()) h1 h2 c.1 c.2 v rfl rfl;have A:qq fl (set,s0,t) asm s=if r.2=0/\¬r.1<t then some (.inl (s+1))else some (.inr<|.inr false):=by
     unfold qq uZ;rw[if_pos (by simpa using a),g];simp only[im];rw[i,y];simp only[im];by_cases d:r.2=0<;>by_cases f:r.1<t<;>simp[d,f]
     all_goals first | omega |(intro n;omega)
    have k:rj (set,s0,t) asm fl s=if r.2=0/\¬r.1<t then some (.inl (s+1))else some (.inr<|.inr false):=by
     unfold rj xt;rw[if_pos (by simpa using a),g];simp only[im];rw[i,j];simp only[im];by_cases d:r.2=0<;>by_cases f:r.1<t<;>simp[d,f]
     all_goals first | omega |(intro n;omega)
    rw[A,k];by_cases q:r.2=0/\¬r.1<t
    ·left;rw[if_pos q];exact⟨_,rfl,rfl,⟨by omega,by omega⟩,by omega⟩
    ·right;rw[if_neg q];exact⟨_,rfl,rfl,trivial⟩
   ·right;refine⟨.inl (),?_,?_,trivial⟩
    ·unfold qq;rw[if_neg (by simpa using a)]
    ·unfold rj;rw[if_neg (by simpa using a)]
 ·rw[if_pos (by simpa using b),if_pos (by simpa using b)];exact⟨_,rfl,rfl⟩
def Iz(l:List Int)(h:l.length<=2000000)q:qI l q=some (decide (q∈l))/\th l q=some (decide (q∈l)):=by
 constructor
 ·unfold qI EZ DI;rcases mX l h (λx=>some<|decide (q=x)) (λx=>decide (q=x)) (λx _=>rfl) (KA l q) (λi=>rfl)with⟨d,a⟩ |⟨k,d,hk,hlow,x,g,hq⟩
  ·rw[d];have:¬q∈l:=λh=>by simpa using a q h
   simp[this]
  ·rw[d];have:q∈l:=by
    have t:q=x:=by simpa using hq
    rw[t];exact fx g
   simp[this]
 ·unfold th F_;have key:=zB (F:=ED l q) (λs=>0<=s/\s<=l.length/\∀j:Nat,(j:Int)<s->l[j]?≠some q) (λs=>(l.length - s).toNat) (λz=>match z with | .inl _=>¬q∈l | .inr b=>b=true/\q∈l) ?_ 0 ⟨by omega,by omega,λj f=>by omega⟩
  ·obtain⟨z,d,m⟩:=key;rw[d];cases z with
   | inl u=>simp only at m;simp[m]
   | inr b=>obtain⟨rfl,hm⟩:=m;simp[hm]
  ·rintro s ⟨r,v,p⟩;obtain⟨k,rfl⟩:=bg r;unfold ED;by_cases c:k<l.length
   ·have g:l[k]?=some l[k]:=dj c;rw[if_pos so];simp only[zq g,im];by_cases e:l[k]=q
    ·right;rw[if_pos (by simpa using e)];exact⟨_,rfl,rfl,e▸ed c⟩
    ·left;rw[if_neg (by simpa using e),zv om om];refine⟨_,rfl,⟨by omega,by omega,λj f=>?_⟩,by omega⟩;by_cases n:j=k
     ·subst n;rw[g];exact λh=>e<|Option.some.inj h
     ·exact p j om
   ·right;rw[if_neg so];refine⟨_,rfl,λhm=>?_⟩;obtain⟨j,f⟩:=du hm;exact p j (by have:=zA f;omega) f
def Qf(bs:List Bd)(hb:bs.length<=1000)(p:List Int)(hp:p.length<=2000000):∃v,xk bs p=some v/\Aw bs p=some v:=by
 have q:∀b:Bd,vX b p=some (decide (b.1∈p) == decide (b.2.1∈p)):=λb=>by
  unfold vX;rw[(Iz p hp _).1,(Iz p hp _).1];rfl
 unfold xk Aw;rw[Nj bs om];simp only[im];rw[Nb bs om _ (λb=>decide (b.1∈p) == decide (b.2.1∈p)) (λb _=>q b)];simp only[im];have d:xU (bs.filter λb=>!(decide (b.1∈p) == decide (b.2.1∈p)))=some ((bs.filter λb=>!(decide (b.1∈p) == decide (b.2.1∈p))).foldl (λa b=>aA (a+b.2.2)) 0):=by
  have f:=ep (λb:Bd=>!(decide (b.1∈p) == decide (b.2.1∈p))) bs;unfold xU;rw[lA (F:=vP<|bs.filter λb=>!(decide (b.1∈p) == decide (b.2.1∈p))) (bs.filter λb=>!(decide (b.1∈p) == decide (b.2.1∈p))) (λa b=>aA (a+b.2.2)) 0 om (λa i x c _=>?_) (λa _=>?_)]
  ·rfl
  ·unfold vP;rw[if_pos (by have:=zA c;simp;omega)];simp only[zq c,im]
  ·unfold vP;rw[if_neg si]
 have e:iter (ry bs p) (0,0)=some (bs.foldl (λa b=>if(!(decide (b.1∈p) == decide (b.2.1∈p)))=true then aA (a+b.2.2)else a) 0):=by
  refine lA (F:=ry bs p) bs (λa b=>if(!(decide (b.1∈p) == decide (b.2.1∈p)))=true then aA (a+b.2.2)else a) 0 om (λa i x c _=>?_) (λa _=>?_)
  ·unfold ry yh;rw[if_pos (by have:=zA c;simp;omega)];simp only[zq c,im,(Iz p hp _).2];split<;>rfl
  ·unfold ry;rw[if_neg si]
 rw[d,e,List.foldl_filter];exact⟨_,rfl,rfl⟩
def RS(p:List Int)(hp:p.length<=2000000)(hl:asm.length<=500):∃b,wu asm p=some b/\Aa asm p=some b/\(b=true->p.length<=asm.length):=by
 have q:aA ((asm.length:Int) - 1)=(asm.length:Int) - 1:=zv om om;have k2:=HH (F:=zZ asm p) (G:=mb p 0<|(asm.length:Int) - 1) (λs=>0<=s/\s<=p.length/\∀j:Nat,(j:Int)<s->∃x,p[j]?=some x/\(j:Int)<=x/\x<=(asm.length:Int) - 1) (λs=>(p.length - s).toNat) (λz=>match z with | .inl _=>p.length<=asm.length | .inr b=>b=false) ?_ 0 ⟨by omega,by omega,λj t=>by omega⟩
 ·obtain⟨x,D,B,r⟩:=k2;unfold wu Aa GJ;rw[q,D,B];cases x with
  | inl u=>exact⟨true,rfl,rfl,λ_=>r⟩
  | inr b=>simp only at r;subst r;exact⟨false,rfl,rfl,λh=>by cases h⟩
 ·rintro s ⟨A,H,n⟩;obtain⟨k,rfl⟩:=bg A;by_cases i:k<p.length
  ·have d:p[k]?=some p[k]:=dj i;generalize p[k]=x at d;have wk:aA ((k:Int)+1)=(k:Int)+1:=zv om om;by_cases w:k=0
   ·subst w;have l:zZ asm p ((0:Nat):Int)=if 0<=x/\x<=(asm.length:Int) - 1 then some (.inl 1)else some (.inr<|.inr false):=by
     unfold zZ iG nR;rw[if_pos so];simp only[zq d,im,q,fD];by_cases a:0<=x/\x<=(asm.length:Int) - 1
     ·rw[if_pos a,decide_eq_true a];rfl
     ·rw[if_neg a,decide_eq_false a];rfl
    have g:mb p 0 ((asm.length:Int) - 1) ((0:Nat):Int)=if 0<=x/\x<=(asm.length:Int) - 1 then some (.inl 1)else some (.inr<|.inr false):=by
     unfold mb oQ;rw[if_pos so];simp only[zq d,im,gM];by_cases a:0<=x/\x<=(asm.length:Int) - 1
     ·rw[if_pos a,decide_eq_true a];rfl
     ·rw[if_neg a,decide_eq_false a];rfl
    rw[l,g];by_cases a:0<=x/\x<=(asm.length:Int) - 1
    ·left;rw[if_pos a];refine⟨_,rfl,rfl,⟨by omega,by omega,λj t=>?_⟩,by omega⟩;have:j=0:=by omega
     subst this;exact⟨x,d,by omega,a.2⟩
    ·right;rw[if_neg a];exact⟨_,rfl,rfl,rfl⟩
   ·obtain⟨y,C,y0,v⟩:=n (k - 1) om;have f:idx p (aA<|(k:Int) - 1)=some y:=by
     rw[zv om om,show(k:Int) - 1=((k - 1:Nat):Int) by omega];exact zq C
    have e:decide ((k:Int)>0)=true:=decide_eq_true om;have l:zZ asm p (k:Int)=if(0<=x/\x<=(asm.length:Int) - 1)/\y<x then some (.inl ((k:Int)+1))else some (.inr<|.inr false):=by
     unfold zZ iG nR;rw[if_pos so];simp only[zq d,im,q,fD,e,f,wk];by_cases a:0<=x/\x<=(asm.length:Int) - 1
     ·rw[decide_eq_true a];by_cases c:y<x
      ·rw[if_pos (show(0<=x/\x<=(asm.length:Int) - 1)/\y<x from⟨a,c⟩),decide_eq_false (show ¬x<=y by omega)];rfl
      ·rw[if_neg (show ¬((0<=x/\x<=(asm.length:Int) - 1)/\y<x)from λh=>c h.2),decide_eq_true (show x<=y by omega)];rfl
     ·rw[if_neg (show ¬((0<=x/\x<=(asm.length:Int) - 1)/\y<x)from λh=>a h.1),decide_eq_false a];rfl
    have g:mb p 0 ((asm.length:Int) - 1) (k:Int)=if(0<=x/\x<=(asm.length:Int) - 1)/\y<x then some (.inl ((k:Int)+1))else some (.inr<|.inr false):=by
     unfold mb oQ;rw[if_pos so];simp only[zq d,im,gM,e,f,wk];by_cases a:0<=x/\x<=(asm.length:Int) - 1
     ·rw[decide_eq_true a];by_cases c:y<x
      ·rw[if_pos (show(0<=x/\x<=(asm.length:Int) - 1)/\y<x from⟨a,c⟩),decide_eq_false (show ¬y≥x by omega)];rfl
      ·rw[if_neg (show ¬((0<=x/\x<=(asm.length:Int) - 1)/\y<x)from λh=>c h.2),decide_eq_true (show y≥x by omega)];rfl
     ·rw[if_neg (show ¬((0<=x/\x<=(asm.length:Int) - 1)/\y<x)from λh=>a h.1),decide_eq_false a];rfl
    rw[l,g];by_cases a:(0<=x/\x<=(asm.length:Int) - 1)/\y<x
    ·left;rw[if_pos a];refine⟨_,rfl,rfl,⟨by omega,by omega,λj t=>?_⟩,by omega⟩;by_cases m:j=k
     ·subst m;exact⟨x,d,by omega,a.1.2⟩
     ·exact n j om
    ·right;rw[if_neg a];exact⟨_,rfl,rfl,rfl⟩
  ·right;refine⟨.inl (),?_,?_,?_⟩
   ·unfold zZ;rw[if_neg so]
   ·unfold mb;rw[if_neg so]
   ·simp only;by_cases E:p.length=0
    ·omega
    ·obtain⟨y,_,y0,v⟩:=n (p.length - 1) om;omega
def TU(hS:SetOk set)(hA:AsmOk set asm)(h1:jL set asm=some true)t{s0}(p:List Int)(hp:p.length<=2000000):
  ∃r,vD p (set,s0,t) asm=some r/\As (set,s0,t) asm p=some r:=by
 obtain⟨b,e,i,k⟩:=RS p hp hA.1.1 (asm:=asm);obtain⟨bs,l,c2,n,j⟩:=Ia hS hA;obtain⟨v,h,g⟩:=Qf bs j p hp;unfold vD EQ As sg;simp only;rw[h1,e,i];simp only[im];cases b with
 | false=>exact⟨false,by simp,by simp⟩
 | true=>
  have f:=k rfl;rw[l,c2];simp only[im];rw[h,g];refine⟨if p.length=0 then false else if p.length=asm.length then false else decide (v<t),?_,?_⟩
  ·by_cases a:p.length=0
   ·simp[a]
   ·by_cases c:p.length=asm.length
    ·simp[a,c]
    ·have:p.length<asm.length:=by omega
     have d:0<p.length:=by omega
     simp[a,c,this,d]
  ·by_cases a:p.length=0
   ·simp[a]
   ·by_cases c:p.length=asm.length
    ·simp[a,c]
    ·simp[a,c];intro m;omega
end
section
variable {set:TSet} {ts asm:List aM}
def Tj(hS:SetOk set)(hA:AsmOk set ts)t(hV:ko (set,ts,t)=some true)(hV':kD (set,ts,t)=some true)(hasm:asm.length<=2000000)(s1 s2:List aM)(h1:s1.length<=2000000)(h2:s2.length<=2000000):
  ∃b,uN (s1,s2) (set,ts,t) asm=some b/\xu (set,ts,t) s1 s2 asm=some b:=by
 unfold uN xu;simp only;by_cases k:s1.length=0
 ·rw[decide_eq_true (show(s1.length:Int)=0 by omega)];exact⟨false,rfl,rfl⟩
 ·rw[decide_eq_false (show ¬(s1.length:Int)=0 by omega)];simp only[ba,if_false];by_cases m:s2.length=0
  ·rw[decide_eq_true (show(s2.length:Int)=0 by omega)];exact⟨false,rfl,rfl⟩
  ·rw[decide_eq_false (show ¬(s2.length:Int)=0 by omega)];simp only[ba,if_false];obtain⟨b,c,g,_⟩:=Ot hS hA t hV hV' hasm s1 h1;rw[c,g];simp only[im];cases b with
   | false=>exact⟨false,rfl,rfl⟩
   | true=>
    obtain⟨r,e,a,_⟩:=Hk hS hA t hV hV' s2 h2;obtain⟨x,j,_⟩:=zU (l:=s1) (i:=(s1.length:Int) - 1) om om;obtain⟨y,d,_⟩:=zU (l:=s2) (i:=(s2.length:Int) - 1) om om;have w1:aA ((s1.length:Int) - 1)=(s1.length:Int) - 1:=zv om om;have w2:aA ((s2.length:Int) - 1)=(s2.length:Int) - 1:=zv om om;unfold qs qG yT;simp only[bc,ba,if_false,w1,w2];rw[e,a];simp only[im,j,d];refine⟨if r.2.2=0 then(if x.1=y.1 then !decide (x.2=y.2)else false)else false,?_,?_⟩<;>rw[lN]<;>by_cases f:r.2.2=0<;>by_cases h:x.1=y.1<;>simp[f,h]
def Yr(hT:Tame set)(hts:ts.length<=1048576)t(hasm:asm.length<=1048576)(pf:eX)(h1:pf.2.1.length<=1048576)(h2:pf.2.2.1.length<=1048576)(h3:pf.2.2.2.1.length<=1048576):
  ∃r,mG (set,ts,t) asm pf=some r/\yd (set,ts,t) asm pf=some r:=by
 obtain⟨v,p,q,E⟩:=MN hT hts t;unfold mG yd xW GC;rw[p,q];simp only[im];cases v with
 | false=>exact⟨1,rfl,rfl⟩
 | true=>
  obtain⟨hS,hA⟩:=E rfl;obtain⟨b,w,D⟩:=Gx set hT asm om;obtain⟨c,C,c2⟩:=Ou set hT asm om;have x:b=c:=by
   rw[aw,D,c2];exact⟨λh=>h.2,λh=>⟨hS,h⟩⟩
  subst x;rw[w,C];simp only[im,bc,ba,if_false];cases b with
  | false=>exact⟨1,rfl,rfl⟩
  | true=>
   have d:=(D.1 rfl).2;obtain⟨a,R,a2,I⟩:=Hg set hT;have O:a=true:=I.2 hS;subst O;have j:pk set asm=some 0:=by
    unfold pk;rw[a2];simp only[im,bc,ba,if_false];rw[C];rfl
   simp only[ml,xw,bc,ba,if_false,im,decide_true,fD,gM];by_cases m:1<=pf.1/\pf.1<=6
   ·rw[decide_eq_true m];simp only[bc,ba,if_false];obtain⟨f,G,N⟩:=QS pf m;rw[G,N];simp only[im];cases f with
    | false=>exact⟨10,rfl,rfl⟩
    | true=>
     have key:∃r,kE (set,ts,t) asm pf=some r/\yB (set,ts,t) asm pf=some r:=by
      obtain⟨k,i,H,J,fl⟩:=pf;simp only at m h1 h2 h3;have B:k=1\/k=2\/k=3\/k=4\/k=5\/k=6:=by omega
      unfold kE yB;obtain⟨l,l1,l2,L⟩:=Ot hS hA t p q (asm:=asm) om i om;rcases B with rfl | rfl | rfl | rfl | rfl | rfl
      ·refine⟨l,by simpa using l1,?_⟩;simp[l2]
      ·show ∃r,uT i (set,ts,t) asm=some r/\((kw (set,ts,t) i asm).bind λy=>if y then((oF (set,ts,t) asm).bind λA=>some<|decide ((A.length:Int)=0))else(some false))=some r;unfold uT;rw[l1,l2];simp only[im];cases l with
       | false=>exact⟨false,rfl,rfl⟩
       | true=>
        obtain⟨n,P,Q⟩:=Si hS d ts t;obtain⟨out,o1,o2,_⟩:=NC hS (fN d) ts t;rw[if_pos rfl,if_pos rfl,yQ hS d ts t,o1];simp only[im];rw[P];refine⟨_,rfl,?_⟩;congr 1;rw[decide_eq_decide];rw[Q,JQ,←o2];constructor
        ·intro h;exact ca om
        ·rintro rfl;rfl
      ·show ∃r,vq i (set,ts,t) asm=some r/\((kw (set,ts,t) i asm).bind λs=>if !s then(some false)else((sL (set,ts,t) i).bind λu=>some<|decide (u.1=0)))=some r;unfold vq;rw[l1,l2];simp only[im];cases l with
       | false=>exact⟨false,rfl,rfl⟩
       | true=>
        obtain⟨M,F,_⟩:=L rfl;obtain⟨r,e,g⟩:=Rg hS hA M F p q;rw[e,g];exact⟨_,rfl,rfl⟩
      ·obtain⟨r,e,g⟩:=Tj hS hA t p q (asm:=asm) om i H om om;refine⟨r,e,?_⟩;simp[g]
      ·obtain⟨r,e,g⟩:=Rn hS d w j t (s0:=ts) fl;refine⟨r,e,?_⟩;simp[g]
      ·obtain⟨r,e,g⟩:=TU hS d w t (s0:=ts) J om;refine⟨r,e,?_⟩;simp[g]
     obtain⟨r,e,g⟩:=key;simp only[bc,ba,if_false,if_true];rw[e,g];cases r<;>exact⟨_,rfl,rfl⟩
   ·rw[decide_eq_false m];exact⟨2,rfl,rfl⟩
end
def lI{α:Type}(l:List α)(h:l.length<=2000000)(F:Int->Option (Int ⊕ (Unit ⊕ Bool)))(h1:∀(i:Nat) x,l[i]?=some x->F (i:Int)=some (.inl (aA ((i:Int)+1))))(hs:F (l.length:Int)=some (.inr (.inl ()))):iter F 0=some (.inl ()):=by
 rcases Jy h rfl F (λi x b _=>h1 i x b) (λi x y b c a=>absurd (Option.some.inj<|b.symm.trans c) a) hs with⟨d,_⟩ |⟨_,hn⟩
 ·exact d
 ·exact absurd rfl hn
def Cm(l:List Int)(h:l.length<=2000000):pq l l=some true:=by
 unfold pq Fk;rw[if_neg si,lI l h (wI l l) (λi x a=>by unfold wI;rw[if_pos (by have:=zA a;simp;omega)];simp[zq a]) (by unfold wI;rw[if_neg si])];rfl
def SZ(l:List (List Int))(h:l.length<=2000000)(hr:∀x∈l,x.length<=2000000):yf l l=some true:=by
 unfold yf Ev;rw[if_neg si,lI l h (wo l l) (λi x a=>by unfold wo;rw[if_pos (by have:=zA a;simp;omega)];simp[zq a,Cm x<|hr x<|fx a]) (by unfold wo;rw[if_neg si])];rfl
def S_(l:List ((List UInt8)×Int))(h:l.length<=2000000):Al l l=some true:=by
 unfold Al FQ;rw[if_neg si,lI l h (wF l l) (λi x a=>by unfold wF He;rw[if_pos (by have:=zA a;simp;omega)];simp[zq a]) (by unfold wF;rw[if_neg si])];rfl
def SY(l:List ((List UInt8)×List Int))(h:l.length<=2000000)(hr:∀x∈l,x.2.length<=2000000):Ak l l=some true:=by
 unfold Ak FP;rw[if_neg si,lI l h (wE l l) (λi x a=>by unfold wE Hb;rw[if_pos (by have:=zA a;simp;omega)];simp[zq a,Cm x.2<|hr x<|fx a]) (by unfold wE;rw[if_neg si])];rfl
def Oy(l:List aM)(h:l.length<=2000000):ye l l=some true:=by
 unfold ye Et;rw[if_neg si,lI l h (wm l l) (λi x a=>by unfold wm Gu sT;rw[if_pos (by have:=zA a;simp;omega)];simp[zq a]) (by unfold wm;rw[if_neg si])];rfl
def Oz(l:List aM)(h:l.length<=2000000):sc l l=some true:=by
 unfold sc Eu;rw[if_neg si,lI l h (wn l l) (λi x a=>by unfold wn Gv sT;rw[if_pos (by have:=zA a;simp;omega)];simp[zq a]) (by unfold wn;rw[if_neg si])];rfl
def lJ{α:Type}(l:List α)(h:l.length<=2000000)(z:α)(F:List α×Int->Option ((List α×Int) ⊕ List α))(step:∀(a:List α)(i:Nat) x y,l[i]?=some x->a[i]?=some y->F (a,(i:Int))=some (.inl (a.set i x,aA ((i:Int)+1))))(stop:∀a,F (a,(l.length:Int))=some (.inr a)):iter F (List.replicate l.length z,0)=some l:=by
 have key:=zB (F:=F) (λs=>∃i:Nat,s.2=(i:Int)/\i<=l.length/\s.1.length=l.length/\∀j,j<i->s.1[j]?=l[j]?) (λs=>((l.length:Int) - s.2).toNat) (λx=>x=l) ?_ (List.replicate l.length z,0) ⟨0,rfl,by omega,by simp,λj d=>by omega⟩
 ·obtain⟨x,g,rfl⟩:=key;exact g
 ·rintro⟨a,s⟩ ⟨i,e,hi,hl,d⟩;simp only at e hl d;subst e;by_cases b:i<l.length
  ·left;refine⟨_,step a i l[i] (a[i]'om) (dj b) (dj om),⟨i+1,by simp only;rw[zv om om];omega,by omega,by simp[hl],λj c=>?_⟩,by simp only;rw[zv om om];omega⟩;simp only;by_cases f:j=i
   ·subst f;rw[dz om,dj b]
   ·rw[dy om];exact d j om
  ·right;have:i=l.length:=by omega
   subst this;exact⟨a,stop a,ce λj=>by
    by_cases c:j<l.length
    ·exact d j c
    ·rw[dl om,dl om]⟩
def Cf(l:List Int)(h:l.length<=2000000):pp l=some l:=by
 unfold pp;rw[iW om om om];simp only[im,bh];rw[lJ l h 0 (wH l) (λa i x y b c=>by unfold wH;rw[if_pos (by have:=zA b;simp;omega)];simp[zq b,zq c]) (λa=>by unfold wH;rw[if_neg si])];rfl
def SM(l:List (List Int))(h:l.length<=2000000)(hr:∀x∈l,x.length<=2000000):yn l=some l:=by
 unfold yn;rw[iW om om om];simp only[im,bh];rw[lJ l h [] (wi l) (λa i x y b c=>by unfold wi;rw[if_pos (by have:=zA b;simp;omega)];simp[zq b,zq c,Cf x<|hr x<|fx b]) (λa=>by unfold wi;rw[if_neg si])];rfl
def SN(l:List ((List UInt8)×Int))(h:l.length<=2000000):Af l=some l:=by
 unfold Af;rw[iW om om om];simp only[im,bh];rw[lJ l h (([]:List UInt8),0) (wC l) (λa i x y b c=>by unfold wC Ha;rw[if_pos (by have:=zA b;simp;omega)];simp[zq b,zq c]) (λa=>by unfold wC;rw[if_neg si])];rfl
def SL(l:List ((List UInt8)×List Int))(h:l.length<=2000000)(hr:∀x∈l,x.2.length<=2000000):Ae l=some l:=by
 unfold Ae;rw[iW om om om];simp only[im,bh];rw[lJ l h (([]:List UInt8),[]) (wB l) (λa i x y b c=>by unfold wB G_;rw[if_pos (by have:=zA b;simp;omega)];simp[zq b,zq c,Cf x.2<|hr x<|fx b]) (λa=>by unfold wB;rw[if_neg si])];rfl
def OO(l:List aM)(h:l.length<=2000000):ym l=some l:=by
 unfold ym;rw[iW om om om];simp only[im,bh];rw[lJ l h ((0,0),0) (wg l) (λa i x y b c=>by unfold wg Gp sY;rw[if_pos (by have:=zA b;simp;omega)];simp[zq b,zq c]) (λa=>by unfold wg;rw[if_neg si])];rfl
def OP(l:List aM)(h:l.length<=2000000):sC l=some l:=by
 unfold sC;rw[iW om om om];simp only[im,bh];rw[lJ l h ((0,0),0) (wh l) (λa i x y b c=>by unfold wh Gq sY;rw[if_pos (by have:=zA b;simp;omega)];simp[zq b,zq c]) (λa=>by unfold wh;rw[if_neg si])];rfl
def Mx:Nat:=9223372036854775807
def Sz(o:Option Int)(k:Int)(P:Prop):Prop:=∃r,o=some r/\(r<0\/(0<=r/\r<=k/\P))
def SO{n k}(hn:n<=Mx)(h0:0<=k)(h1:k<=1048576):aA (k - (n:Int))=k - (n:Int):=cK ⟨by unfold Mx at hn;omega,by omega⟩
def Sz.bind{o:Option Int}{P Q:Prop}{f:Int->Option Int}{k}(h:Sz o k P)(hf:∀r,0<=r->r<=k->Sz (f r) r Q):Sz (o.bind λr=>if decide (r<0)then some (-1)else f r) k (P/\Q):=by
 obtain⟨r,rfl,d⟩:=h;simp only[im];rcases d with d |⟨h0,h1,hP⟩
 ·rw[if_pos (by simpa using d)];exact⟨-1,rfl,.inl om⟩
 ·rw[if_neg so];obtain⟨i,e,g⟩:=hf r h0 h1;refine⟨i,e,?_⟩;rcases g with h |⟨a,b,c⟩
  ·exact .inl h
  ·exact .inr ⟨a,by omega,hP,c⟩
def Sz.fin{k}(h0:0<=k):Sz (some k) k True:=⟨k,rfl,.inr ⟨h0,Int.le_refl _,trivial⟩⟩
def Sz.len{n k}(hn:n<=Mx)(h0:0<=k)(h1:k<=1048576){Q:Prop}{f:Int->Option Int}(hf:∀r,0<=r->r<=k->n<=1048576->Sz (f r) r Q):Sz (if decide (aA (k - (n:Int))<0)then some (-1)else f (aA (k - (n:Int)))) k (n<=1048576/\Q):=by
 rw[SO hn h0 h1];by_cases h:k - (n:Int)<0
 ·rw[if_pos (by simpa using h)];exact⟨-1,rfl,.inl om⟩
 ·rw[if_neg (by simpa using h)];obtain⟨g,e,d⟩:=hf (k - (n:Int)) om om om;refine⟨g,e,?_⟩;rcases d with h |⟨a,b,c⟩
  ·exact .inl h
  ·exact .inr ⟨a,by omega,by omega,c⟩
def SP{α:Type}(l:List α)(hl:l.length<=1048576){k}(h0:0<=k)(h1:k<=1048576)(s:α->Int->Option Int)(P:α->Prop)(hs:∀x∈l,∀k,0<=k->k<=1048576->Sz (s x k) k (P x))(F:Int×Int->Option ((Int×Int) ⊕ (Int ⊕ Int)))(hF:∀st,F st=if decide (st.2<(l.length:Int))then((idx l st.2).bind λx=>(s x st.1).bind λr=>if decide (r<0)then(some (.inr (.inr (-1))))else(some (.inl (r,aA (st.2+1)))))else(some (.inr (.inl st.1)))):
  ∃z,iter F (k,0)=some z/\match z with | .inl r=>0<=r/\r<=k/\∀x∈l,P x | .inr r=>r<0:=by
 refine zB (F:=F) (λst=>∃i:Nat,st.2=(i:Int)/\i<=l.length/\0<=st.1/\st.1<=k/\∀(j:Nat) x,j<i->l[j]?=some x->P x) (λst=>((l.length:Int) - st.2).toNat) _ ?_ (k,0) ⟨0,rfl,by omega,h0,by simp,λj x d=>by omega⟩;rintro⟨b,p⟩ ⟨i,e,hi,g0,g1,g2⟩;simp only at e g0 g1;subst e;rw[hF];simp only;by_cases c:i<l.length
 ·have f:l[i]?=some l[i]:=dj c;rw[if_pos so];simp only[zq f,im];obtain⟨r,n,m⟩:=hs _ (ed c) b g0 om;rw[n];simp only[im];rcases m with h |⟨a1,a2,a3⟩
  ·right;rw[if_pos (by simpa using h)];exact⟨_,rfl,by simp⟩
  ·left;rw[if_neg so];refine⟨_,rfl,⟨i+1,by simp only;rw[zv om om];omega,by omega,a1,by simp only;omega,λj x d a=>?_⟩,by simp only;rw[zv om om];omega⟩;by_cases g:j=i
   ·subst g;rw[f]at a;injection a with a;subst a;exact a3
   ·exact g2 j x om a
 ·right;rw[if_neg so];refine⟨_,rfl,g0,g1,λx f=>?_⟩;obtain⟨j,d⟩:=du f;exact g2 j x (by have:=zA d;omega) d
def Bu{α:Type}(l:List α)(hl:l.length<=1048576){k}(h0:0<=k)(h1:k<=1048576)(s:α->Int->Option Int)(P:α->Prop)(hs:∀x∈l,∀k,0<=k->k<=1048576->Sz (s x k) k (P x))(F:Int×Int->Option ((Int×Int) ⊕ (Int ⊕ Int)))(hF:∀st,F st=if decide (st.2<(l.length:Int))then((idx l st.2).bind λx=>(s x st.1).bind λr=>if decide (r<0)then(some (.inr (.inr (-1))))else(some (.inl (r,aA (st.2+1)))))else(some (.inr (.inl st.1)))):
  Sz ((iter F (k,0)).bind λx=>match x with | .inl z=>some z | .inr z=>some z) k (∀x∈l,P x):=by
 obtain⟨z,b,a⟩:=SP l hl h0 h1 s P hs F hF;rw[b];cases z with
 | inl r=>exact⟨r,rfl,.inr a⟩
 | inr r=>exact⟨r,rfl,.inl a⟩
def Sz.mono{P Q:Prop}{o k}(h:Sz o k P)(hPQ:P->Q):Sz o k Q:=by
 obtain⟨r,e,h |⟨a,b,c⟩⟩:=h
 ·exact⟨r,e,.inl h⟩
 ·exact⟨r,e,.inr ⟨a,b,hPQ c⟩⟩
def Qs{l:List aM}(hl:l.length<=Mx){k}(h0:0<=k)(h1:k<=1048576):Sz (Gf l k) k (l.length<=1048576):=(Sz.len hl h0 h1 (f:=λr=>some r) (λr a _ _=>Sz.fin a)).mono λh=>h.1
def OQ{l:List aM}(hl:l.length<=Mx){k}(h0:0<=k)(h1:k<=1048576):Sz (yo l k) k (l.length<=1048576):=(Sz.len hl h0 h1 (f:=λr=>some r) (λr a _ _=>Sz.fin a)).mono λh=>h.1
def Ci{l:List Int}(hl:l.length<=Mx){k}(h0:0<=k)(h1:k<=1048576):Sz (mK l k) k (l.length<=1048576):=(Sz.len hl h0 h1 (f:=λr=>some r) (λr a _ _=>Sz.fin a)).mono λh=>h.1
def SU{x:(List UInt8)×Int}(hl:x.1.length<=Mx){k}(h0:0<=k)(h1:k<=1048576):Sz (AA x k) k (x.1.length<=1048576):=(Sz.len hl h0 h1 (f:=λr=>some r) (λr a _ _=>Sz.fin a)).mono λh=>h.1
def SQ{x:(List UInt8)×List Int}(hl:x.1.length<=Mx)(hl2:x.2.length<=Mx){k}(h0:0<=k)(h1:k<=1048576):Sz (Aq x k) k (x.1.length<=1048576/\x.2.length<=1048576):=(Sz.len hl h0 h1 (f:=λr=>(mK x.2 r).bind λc=>if decide (c<0)then(some (-1))else(some c)) (λr a b _=>(Ci hl2 a om).bind λr a _=>Sz.fin a)).mono λh=>⟨h.1,h.2.1⟩
def Sw{l:List ((List UInt8)×Int)}(hl:l.length<=Mx)(hx:∀x∈l,x.1.length<=Mx){k}(h0:0<=k)(h1:k<=1048576):Sz (GN l k) k (l.length<=1048576/\∀x∈l,x.1.length<=1048576):=Sz.len hl h0 h1 (f:=λr=>(iter (D_ l) (r,0)).bind λc=>match c with | .inl z=>FO z | .inr z=>some z) (λr a b d=>Bu l d a om AA _ (λx hm k a b=>SU (hx x hm) a b) (D_ l) λst=>rfl)
def Su{l:List ((List UInt8)×List Int)}(hl:l.length<=Mx)(hx:∀x∈l,x.1.length<=Mx/\x.2.length<=Mx){k}(h0:0<=k)(h1:k<=1048576):Sz (GM l k) k (l.length<=1048576/\∀x∈l,x.1.length<=1048576/\x.2.length<=1048576):=Sz.len hl h0 h1 (f:=λr=>(iter (DZ l) (r,0)).bind λc=>match c with | .inl z=>FN z | .inr z=>some z) (λr a b d=>Bu l d a om Aq _ (λx hm k a b=>SQ (hx x hm).1 (hx x hm).2 a b) (DZ l) λst=>rfl)
def SR{l:List (List Int)}(hl:l.length<=Mx)(hx:∀x∈l,x.length<=Mx){k}(h0:0<=k)(h1:k<=1048576):Sz (Gh l k) k (l.length<=1048576/\∀x∈l,x.length<=1048576):=Sz.len hl h0 h1 (f:=λr=>(iter (Di l) (r,0)).bind λc=>match c with | .inl z=>EH z | .inr z=>some z) (λr a b d=>Bu l d a om mK _ (λx hm k a b=>Ci (hx x hm) a b) (Di l) λst=>rfl)
def JW{l:List aM}(hl:l.length<=Mx){k}(h0:0<=k)(h1:k<=1048576):Sz (rU l k) k (l.length<=1048576):=((Qs hl h0 h1).bind λr a _=>Sz.fin a).mono λh=>h.1
abbrev En:=(List UInt8)×Sy×List aM×eX
structure EB(p:En):Prop where
 n:p.1.length<=Mx
 g:p.2.1.1.1.length<=Mx
 gn:∀x∈p.2.1.1.1,x.1.length<=Mx
 t:p.2.1.1.2.length<=Mx
 tn:∀x∈p.2.1.1.2,x.1.length<=Mx/\x.2.length<=Mx
 s:p.2.1.2.1.length<=Mx
 a:p.2.2.1.length<=Mx
 q1:p.2.2.2.2.1.length<=Mx
 q2:p.2.2.2.2.2.1.length<=Mx
 c:p.2.2.2.2.2.2.1.length<=Mx
 f:p.2.2.2.2.2.2.2.length<=Mx
 fn:∀x∈p.2.2.2.2.2.2.2,x.length<=Mx
def ES(p:En):Prop:=p.1.length<=1048576/\Tame p.2.1.1/\p.2.1.2.1.length<=1048576/\p.2.2.1.length<=1048576/\p.2.2.2.2.1.length<=1048576/\p.2.2.2.2.2.1.length<=1048576/\p.2.2.2.2.2.2.1.length<=1048576/\p.2.2.2.2.2.2.2.length<=1048576/\∀x∈p.2.2.2.2.2.2.2,x.length<=1048576
def Zq{p}(h:ES p):laws_toEntry p=some p:=by
 obtain⟨l,d,q,k,n,f,m,j,c⟩:=h;obtain⟨i,g,r,e,b⟩:=d;unfold laws_toEntry Gn Gd xJ GL;rw[SN _ om,SL _ om (λx a=>by have:=b x a;omega),OO _ om,OO _ om,OP _ om,OP _ om,Cf _ om,SM _ om (λx a=>by have:=c x a;omega)];rfl
def Yz{p}(h:ES p):laws_eqEntry p p=some true:=by
 obtain⟨l,d,q,k,n,f,m,j,c⟩:=h;obtain⟨i,g,r,e,b⟩:=d;unfold laws_eqEntry Gt Gi xQ GO;rw[S_ _ om,SY _ om (λx a=>by have:=b x a;omega),Oy _ om,Oy _ om,Oz _ om,Oz _ om,Cm _ om,SZ _ om (λx a=>by have:=c x a;omega)];simp
def ZM{ts asm:List aM}{set}(hT:Tame set)(hts:ts.length<=1048576)t(hasm:asm.length<=1048576)(pf:eX)(h:mG (set,ts,t) asm pf=some 0):
  SetOk set/\AsmOk set ts/\AsmOk set asm/\1<=pf.1/\pf.1<=6:=by
 obtain⟨v,f,i,e⟩:=MN hT hts t;unfold mG xW at h;rw[f]at h;simp only[im]at h;cases v with
 | false=>simp[ml]at h
 | true=>
  obtain⟨hS,hA⟩:=e rfl;obtain⟨b,d,g⟩:=Gx set hT asm om;rw[d]at h;simp only[im,bc,ba,if_false]at h;cases b with
  | false=>simp[ml]at h
  | true=>
   have c:=(g.1 rfl).2;simp only[ml,bc,ba,if_false,im,decide_true,fD]at h;by_cases a:1<=pf.1/\pf.1<=6
   ·exact⟨hS,hA,c,a.1,a.2⟩
   ·rw[decide_eq_false a]at h;simp at h
def MT{p}(h:ES p):∃r,rJ p=some r/\sK p=some r/\(r=true->NameOk p.1/\SetOk p.2.1.1/\AsmOk p.2.1.1 p.2.1.2.1/\AsmOk p.2.1.1 p.2.2.1/\1<=p.2.2.2.1/\p.2.2.2.1<=6):=by
 obtain⟨q,c,d,a,i,e,g,n,m⟩:=h;obtain⟨nm,⟨set,ts,t⟩,asm,j⟩:=p;simp only at q c d a i e g n m;obtain⟨b,l,u,v⟩:=kF nm om;obtain⟨r,f,k⟩:=Yr c d t a j i e g;unfold rJ sK;simp only;rw[l,u];simp only[im];cases b with
 | false=>exact⟨false,rfl,rfl,λh=>by cases h⟩
 | true=>
  rw[f,k];refine⟨_,rfl,rfl,λh=>?_⟩;have s:r=0:=by simpa using h
  subst s;exact⟨v.1 rfl,ZM c d t a j f⟩
end Go.Lf
namespace Go.Lf
open Go
def zJ{s t:List UInt8}(h:s.length+t.length<=9223372036854775807):bB s t=some (s++t):=by unfold bB;rw[if_pos h]
def dE{l l2:List Int}(h:l.length+l2.length<=140737488355328):aU 1 l l2=some (l++l2):=by
 unfold aU;rw[if_pos ⟨by omega,by omega⟩]
def QW{m:Int}{out:List UInt8}(hm:m≠0)(hI:I64 m)(ho:out.length<=1000):
  lh (out,m)=some (.inl (UInt8.ofNat (48+m.natAbs % 10)::out,Int.tdiv m 10)):=by
 have key:∀d:Nat,d<10->rS (out,m) (d:Int)=some (.inl (UInt8.ofNat (48+d)::out,Int.tdiv m 10)):=by
  intro d hd;unfold rS;have c:aA (48+(d:Int))=48+(d:Int):=cK ⟨by omega,by omega⟩;have b:cM [IntKind.wrap .u8<|aA (48+(d:Int))]=[UInt8.ofNat (48+d)]:=by
   rw[c];have:IntKind.wrap .u8 (48+(d:Int))=48+(d:Int):=by
    have h:d=0\/d=1\/d=2\/d=3\/d=4\/d=5\/d=6\/d=7\/d=8\/d=9:=by omega
    rcases h with rfl | rfl | rfl | rfl | rfl | rfl | rfl | rfl | rfl | rfl<;>rfl
   rw[this];show[((48+(d:Int)).toNat).toUInt8]=_;rw[show(48+(d:Int)).toNat=48+d by omega]
  have f:aA (Int.tdiv m 10)=Int.tdiv m 10:=by
   refine cK ?_;obtain⟨j,i⟩:=hI;have g:(Int.tdiv m 10).natAbs=m.natAbs / 10:=by rw[Int.natAbs_tdiv];rfl
   exact⟨by omega,by omega⟩
  rw[b,zJ so,f];rfl
 unfold lh;rw[if_pos (by simpa using hm)];obtain⟨k,rfl | rfl⟩:=Int.eq_nat_or_neg m
 ·have e:Int.tmod (k:Int) 10=((k % 10:Nat):Int):=rfl;simp only[e];rw[if_neg so,key (k % 10) om];rfl
 ·have e:Int.tmod (-(k:Int)) 10 = -((k % 10:Nat):Int):=by rw[Int.neg_tmod];rfl
  simp only[e];by_cases a:k % 10=0
  ·rw[if_neg (by simp[a])];have:=key 0 om;simp only[a]at this ⊢;rw[Int.natAbs_neg,Int.natAbs_natCast,a];simpa using this
  ·rw[if_pos so];have b:aA (0 - -((k % 10:Nat):Int))=((k % 10:Nat):Int):=by rw[cK ⟨by omega,by omega⟩];omega
   rw[b,key (k % 10) om,Int.natAbs_neg,Int.natAbs_natCast]
def QX:∀(u:Nat)(m:Int)(out:List UInt8),m.natAbs=u->m≠0->I64 m->out.length+Go.Lib.nDigits u<=1000->iter lh (out,m)=some (Go.Lib.decDigits u++out):=by
 intro u
 induction u using Nat.strongRecOn with
 | _ u ih=>
  intro m out b hm a e;have i:1<=Go.Lib.nDigits u:=by rw[Go.Lib.nDigits];split<;>omega
  rw[zt<|QW hm a om,b];have c:(Int.tdiv m 10).natAbs=u / 10:=by rw[Int.natAbs_tdiv,b];rfl
  by_cases h:u<10
  ·have d:Int.tdiv m 10=0:=by omega
   rw[d,Go.Lib.decDigits,dif_pos h,Nat.mod_eq_of_lt h];have:lh (UInt8.ofNat (48+u)::out,0)=some (.inr (UInt8.ofNat (48+u)::out)):=by unfold lh;rfl
   rw[zy this];rfl
  ·rw[ih (u / 10) om _ _ c om ?_ ?_]
   ·conv=>rhs;rw[Go.Lib.decDigits,dif_neg h]
    simp
   ·obtain⟨g,f⟩:=a;constructor<;>omega
   ·have:Go.Lib.nDigits u=Go.Lib.nDigits (u / 10)+1:=by conv=>lhs;rw[Go.Lib.nDigits,dif_neg h]
    simp only[eh];omega
def NE:∀(k u:Nat),u<10 ^ k->0<k->Go.Lib.nDigits u<=k:=by
 intro k
 induction k with
 | zero=>intro u _ h;omega
 | succ k ih=>
  intro u b _;rw[Go.Lib.nDigits];split
  ·omega
  ·rename_i h;have a:0<k:=by
    rcases Nat.eq_zero_or_pos k with rfl | a
    ·simp at b;omega
    ·exact a
   have:=ih (u / 10) (by rw[Nat.pow_succ]at b;omega) a;omega
def lC{n}(h:I64 n):jc n=some (Go.Lib.itoa n):=by
 unfold jc;by_cases b:n=0
 ·subst b;have:lh (([]:List UInt8),0)=some (.inr []):=by unfold lh;rfl
  rw[zy this];show oH 0 []=_;unfold oH Go.Lib.itoa;rw[if_pos (by decide),if_neg (by decide),Go.Lib.decDigits,dif_pos (by decide)];rfl
 ·have hd:Go.Lib.nDigits n.natAbs<=20:=NE 20 _ (by obtain⟨c,d⟩:=h;omega) om;rw[QX n.natAbs n [] rfl b h so,bq];show oH n _=_;unfold oH;rw[if_neg (by simpa using b)];unfold Go.Lib.itoa;by_cases a:n<0
  ·rw[if_pos (by simpa using a),if_pos a,zJ (by rw[Go.Lib.decDigits_length];simp;omega)];rfl
  ·rw[if_neg (by simpa using a),if_neg a,show n.natAbs=n.toNat by omega]
def Bn n:mP n=some (Go.Lib.itoa n):=rfl
def eQ{n}(h:I64 n):(Go.Lib.itoa n).length<=21:=by
 have hd:∀u,u<10 ^ 20->(Go.Lib.decDigits u).length<=20:=λu a=>by rw[Go.Lib.decDigits_length];exact NE 20 u a om
 obtain⟨b,c⟩:=h;unfold Go.Lib.itoa;split
 ·have:=hd n.natAbs om;simp;omega
 ·have:=hd n.toNat om;omega
abbrev NB:Nat:=140737488355328
def fR{α:Type}(l:List α)(i:Nat):idx l (i:Int)=l[i]?:=by unfold idx;rw[if_pos om];rfl
def fK{S α β R:Type}N(F:S->Option (S ⊕ R))(mk:List β->Int->S)(fin:List β->R)(xs:List α)(pc:α->List β)(hstep:∀a (i:Nat) x,xs[i]?=some x->a.length+(pc x).length<=N->F (mk a i)=some (.inl (mk (a++pc x) ((i+1:Nat):Int))))(hend:∀a,F (mk a (xs.length:Int))=some (.inr (fin a)))(a:List β)(c:a.length+(xs.flatMap pc).length<=N):
  iter F (mk a 0)=some (fin (a++xs.flatMap pc)):=by
 have key:∀k i a,i+k=xs.length->a.length+((xs.drop i).flatMap pc).length<=N->iter F (mk a (i:Int))=some (fin<|a++(xs.drop i).flatMap pc):=by
  intro k
  induction k with
  | zero=>
   intro i a hi _;have:i=xs.length:=by omega
   subst this;rw[zy<|hend a];simp
  | succ k ih=>
   intro i a hi c;have b:i<xs.length:=by omega
   rw[bu b,cv]at c ⊢;rw[ef]at c;rw[zt<|hstep a i xs[i] (dj b) om,ih (i+1) (a++pc xs[i]) om (by rw[ef];omega),bp]
 have:=key xs.length 0 a om (by simpa using c);simpa using this
def iP{α β:Type}(xs:List α)(pc:α->List β)M(h:∀x∈xs,(pc x).length<=M):(xs.flatMap pc).length<=xs.length*M:=by
 induction xs with
 | nil=>simp
 | cons x xs ih=>
  rw[cv,ef,eh,ij];have b:=h x si;have c:=ih λy a=>h y (by simp[a]);omega
def iL a b:zz (a++b)=zz a++zz b:=by simp[zz]
def zF(a:List UInt8):(zz a).length=a.length:=by simp[zz]
def zV{α:Type}(xs:List α)(pc:α->List UInt8):xs.flatMap (λx=>zz (pc x))=zz (xs.flatMap pc):=by
 induction xs with
 | nil=>rfl
 | cons x xs ih=>rw[cv,cv,iL,ih]
def oZ:∀s:List UInt8,cM (zz s)=s
 |[]=>rfl
 | b::s=>by
  have a:=oZ s;unfold cM zz at a ⊢;rw[fi,fi,a];congr 1;show((b.toNat:Int).toNat).toUInt8=b;simp
def fF{i n:Nat}(h:i<n)(hn:n<=1048576):aA ((i:Int)+1)=((i+1:Nat):Int):=by rw[cK ⟨by omega,by omega⟩];omega
def eL{α:Type}{l:List α}{x:α}{i}(h:l[i]?=some x):i<l.length:=(dm.1 h).1
def eW{α:Type}{l:List α}{i:Nat}{x:α}(h:l[i]?=some x):x∈l:=by obtain⟨a,b⟩:=dm.1 h;rw[←b];exact ed a
def pS(ws:List (List UInt8))(h1:ws.length<=2000000)(h2:(Go.Lib.join ws [32]).length<=NB - 1):jp ws=some (Go.Lib.join ws [32]++[10]):=by
 unfold jp strings_Join;have:NB - 1=140737488355327:=rfl;rw[if_pos ⟨by omega,by omega⟩];simp only[im];rw[zJ so];rfl
def pK w(l:List (List UInt8)):Go.Lib.join (w::l) [32]=w++l.flatMap λx=>[32]++x:=by
 induction l generalizing w with
 | nil=>simp[Go.Lib.join,List.intercalate]
 | cons x l ih=>
  have e:Go.Lib.join (w::x::l) [32]=w++[32]++Go.Lib.join (x::l) [32]:=by simp[Go.Lib.join,List.intercalate]
  rw[e,ih x,cv];simp
def dw(w:List UInt8)(l:List Int):List UInt8:=w++(l.flatMap λn=>[32]++Go.Lib.itoa n)++[10]
def AU{w:List UInt8}{l:List Int}(hl:∀n∈l,I64 n):(dw w l).length<=w.length+l.length*22+1:=by
 unfold dw;have:=iP l (λn=>[32]++Go.Lib.itoa n) 22 (λn a=>by have:=eQ<|hl n a;simp;omega);simp only[ef,eh,eu]at this ⊢;omega
def NM{w:List UInt8}{l:List Int}(hw:w.length<=100)(hl:l.length<=1048576)(hI:∀n∈l,I64 n):rO w l=some (dw w l):=by
 have hlen:=AU (w:=w) hI;have e:=iP l (λn=>[32]++Go.Lib.itoa n) 22 (λn g=>by have:=eQ<|hI n g;simp;omega);unfold rO;have:=fK NB (vL l) (λa i=>(a,i)) (λa=>a) l (λn=>[32]++Go.Lib.itoa n) (λd i x b f=>by
   have c:=eL b;have hi:=eQ<|hI x<|eW b;unfold vL;simp only[fR,b,im];rw[if_pos so,lC<|hI x<|eW b];simp only[im];rw[zJ so];simp only[im];rw[zJ (by have:NB=140737488355328:=rfl;simp only[ef]at f ⊢;omega)];simp only[im];rw[fF c hl]) (λd=>by unfold vL;simp) w (by have:NB=140737488355328:=rfl;omega)
 rw[this];simp only[im];unfold Ea;rw[zJ (by simp only[ef,eh,eu]at e ⊢;omega)];rfl
def AV{w:List UInt8}{l:List Int}(hw:w.length<=100)(hl:l.length<=1048576)(hI:∀n∈l,I64 n):mr w l=some (dw w l):=by
 have g:=iP l (λn=>[32]++Go.Lib.itoa n) 22 (λn k=>by have:=eQ<|hI n k;simp;omega);unfold mr;have d:∀l:List Int,(l.flatMap λn=>[Go.Lib.itoa n])=l.map Go.Lib.itoa:=λl=>by induction l with | nil=>rfl | cons x l ih=>rw[cv,ih];rfl
 have:=fK 2000000 (vm l) (λa i=>(a,i)) (λa=>a) l (λn=>[Go.Lib.itoa n]) (λb i x f j=>by
   have c:=eL f;unfold vm;simp only[fR,f,im,Bn];rw[if_pos so];have h:aU 16 b [Go.Lib.itoa x]=some (b++[Go.Lib.itoa x]):=by
    simp only[eh,eu]at j;unfold aU;rw[if_pos ⟨by simp;omega,by simp;omega⟩]
   rw[h];simp only[im];rw[fF c hl]) (λb=>by unfold vm;simp) [w] (by rw[d];simp;omega)
 rw[this,d];simp only[im];unfold Dy;have e:Go.Lib.join ([w]++l.map Go.Lib.itoa) [32]=w++l.flatMap λn=>[32]++Go.Lib.itoa n:=by
  show Go.Lib.join (w::l.map Go.Lib.itoa) [32]=_;rw[pK,List.flatMap_map]
 rw[pS _ so (by rw[e];have:NB - 1=140737488355327:=rfl;simp only[ef]at g ⊢;omega),e];rfl
variable {set:TSet}
def cJ:NB=140737488355328:=rfl
def kj(p:Pt):List UInt8:=Go.Lib.itoa p.1++[44]++Go.Lib.itoa p.2
def lO{p}(h:cR p=true):I64 p.1/\I64 p.2:=by
 unfold cR at h;simp at h;exact⟨⟨by omega,by omega⟩,⟨by omega,by omega⟩⟩
def tS{p}(h:cR p=true):(kj p).length<=43:=by
 have a:=eQ (lO h).1;have b:=eQ (lO h).2;unfold kj;simp;omega
def OT{p}(h:cR p=true):sw p=some (kj p):=by
 have a:=eQ (lO h).1;have b:=eQ (lO h).2;unfold sw;rw[tj,h];simp only[im,bc,ba,if_false];rw[lC (lO h).1,lC (lO h).2];simp only[im];rw[zJ so];simp only[im];rw[zJ so];rfl
def OW{p}(h:cR p=true):sH p=some (kj p):=by
 have a:=eQ (lO h).1;have b:=eQ (lO h).2;unfold sH;rw[AJ,h];simp only[im,bc,ba,if_false,Bn];rw[zJ so];simp only[im];rw[zJ so];rfl
def iA(g:Gl):List UInt8:=[103,108,117,101,32]++g.1++[32]++Go.Lib.itoa g.2++[10]
def lY(set:TSet)(s:Int):List UInt8:=if s=0 then[45]else((idx set.1 (s - 1)).map (·.1)).getD []
def gD(set:TSet)(s:Int):List UInt8:=[32]++lY set s
def gP(set:TSet)(t:Tl):List UInt8:=[116,105,108,101,32]++t.1++t.2.flatMap (gD set)++[10]
def j_(set:TSet):List UInt8:=set.1.flatMap iA++set.2.flatMap (gP set)
def Ie(hS:SetOk set){s:Int}(h0:s≠0)(h1:0<=s)(h2:s<=set.1.length):∃g,idx set.1 (s - 1)=some g/\g.1.length<=12/\g∈set.1:=by
 have a:(s - 1).toNat<set.1.length:=by omega
 refine⟨set.1[(s - 1).toNat],?_,(hS.glue _ a _<|dj a).1.2.1,ed _⟩;unfold idx;rw[if_pos om,dj a]
def HO{s g}(h0:s≠0)(h:idx set.1 (s - 1)=some g):lY set s=g.1:=by unfold lY;rw[if_neg h0,h];rfl
def Iq(hS:SetOk set){s:Int}(h1:0<=s)(h2:s<=set.1.length):(lY set s).length<=12:=by
 by_cases a:s=0
 ·subst a;unfold lY;simp
 ·obtain⟨g,b,c,_⟩:=Ie hS a h1 h2;rw[HO a b];exact c
def HB(hS:SetOk set){s:Int}(h1:0<=s)(h2:s<=set.1.length):(gD set s).length<=13:=by
 have:=Iq hS h1 h2;unfold gD;simp;omega
def Bc(hS:SetOk set){t:Tl}(ht:t∈set.2):t.1.length<=12/\t.2.length=4/\∀x∈t.2,0<=x/\x<=set.1.length:=by
 obtain⟨i,hi⟩:=du ht;have:=hS.tile i (eL hi) t hi;exact⟨this.1.2.1,this.2.1,this.2.2.2⟩
def Ic(hS:SetOk set){g:Gl}(hg:g∈set.1):g.1.length<=12/\I64 g.2:=by
 obtain⟨i,hi⟩:=du hg;have:=hS.glue i (eL hi) g hi;exact⟨this.1.2.1,⟨by omega,by omega⟩⟩
def QL(hS:SetOk set){g}(hg:g∈set.1):(iA g).length<=40:=by
 obtain⟨b,a⟩:=Ic hS hg;have:=eQ a;unfold iA;simp;omega
def PD(hS:SetOk set){t:Tl}(ht:t∈set.2):(gP set t).length<=70:=by
 obtain⟨c,d,b⟩:=Bc hS ht;have:=iP t.2 (gD set) 13 (λx a=>HB hS (b x a).1 (b x a).2);unfold gP;simp only[ef,eh,eu]at this ⊢;omega
def tK(hS:SetOk set):(set.1.flatMap iA).length<=8000/\(set.2.flatMap (gP set)).length<=11200:=by
 have c:=iP set.1 iA 40 (λg a=>QL hS a);have d:=iP set.2 (gP set) 70 (λt b=>PD hS b);have:=hS.glues;have:=hS.tiles;constructor<;>omega
def Zt(hS:SetOk set){s:Int}(h1:0<=s)(h2:s<=set.1.length):xB set s=some (lY set s):=by
 unfold xB;by_cases a:s=0
 ·subst a;rfl
 ·obtain⟨g,b,c,_⟩:=Ie hS a h1 h2;have:=hS.glues;rw[if_neg (by simpa using a),cK ⟨by omega,by omega⟩,b,HO a b];rfl
def PK(hS:SetOk set):Ax set=some (j_ set):=by
 obtain⟨F,C⟩:=tK hS;have q:=hS.glues;have u:=hS.tiles;unfold Ax;have H:=fK NB (rB set) (λa i=>(a,i)) (λa=>a) set.1 (λg=>zz<|iA g) (λb i g p n=>by
   have c:=eL p;obtain⟨G,m⟩:=Ic hS<|eW p;have l:=eQ m;unfold rB;simp only[fR,p,im];rw[if_pos so,lC m,zJ so];simp only[im];rw[zJ so];simp only[im];rw[zJ so];simp only[im];rw[zJ so];simp only[im];have e:[103,108,117,101,32]++g.1++[32]++Go.Lib.itoa g.2++[10]=iA g:=rfl;rw[e,dE (by rw[cJ]at n;exact n)];simp only[im];rw[fF c om]) (λb=>by unfold rB;simp) [] (by rw[zV,zF,cJ];simp only[eu];omega)
 rw[show iter (rB set) (([]:List Int),0)=_ from H,zV,gc];simp only[im];unfold FY;have E:=fK NB (rA set) (λa i=>(a,i)) (λa=>a) set.2 (λt=>zz<|gP set t) (λb i t k n=>by
   have c:=eL k;obtain⟨G,m,l⟩:=Bc hS<|eW k;have D:=iP t.2 (gD set) 13 (λx w=>HB hS (l x w).1 (l x w).2);rw[zF,cJ]at n;have A:(gP set t).length=6+t.1.length+(t.2.flatMap<|gD set).length:=by unfold gP;simp;omega
   unfold rA;simp only[fR,k,im];rw[if_pos so,zJ so];simp only[im];rw[dE (by rw[zF];simp;omega)];simp only[im];have B:=fK NB (rz set (b,(i:Int)) t) (λa i=>(a,i)) (λa=>a) t.2 (λs=>zz<|gD set s) (λd j s hs h=>by
     have f:=eL hs;obtain⟨v,y⟩:=l s<|eW hs;have I:=Iq hS v y;unfold rz;simp only[fR,k,hs,im];rw[if_pos so,Zt hS v y];simp only[im];rw[zJ so];simp only[im];have e:[32]++lY set s=gD set s:=rfl;rw[e,dE (by rw[cJ]at h;exact h)];simp only[im];rw[fF f om]) (λd=>by unfold rz;simp[m]) (b++zz ([116,105,108,101,32]++t.1)) (by
     rw[zV,ef,zF,zF,cJ];simp only[ef,eh,eu];omega)
   rw[show iter (rz set (b,(i:Int)) t) (b++zz ([116,105,108,101,32]++t.1),0)=_ from B,zV];simp only[im];unfold FW;have r:([10]:List Int)=zz [10]:=rfl;rw[r,dE (by simp only[ef,zF,eh,eu];omega)];simp only[im];rw[fF c om];have e:b++zz ([116,105,108,101,32]++t.1)++zz (t.2.flatMap<|gD set)++zz [10]=b++zz (gP set t):=by
    unfold gP;simp only[iL,bp]
   rw[e]) (λb=>by unfold rA;simp) (zz<|set.1.flatMap iA) (by rw[zV,zF,zF,cJ];omega)
 rw[show iter (rA set) (zz<|set.1.flatMap iA,0)=_ from E,zV,←iL];simp only[im];unfold FX;rw[oZ];rfl
def QG(hS:SetOk set):Am set=some (j_ set):=by
 obtain⟨F,C⟩:=tK hS;have q:=hS.glues;have r:=hS.tiles;unfold Am;have H:=fK NB (rf set) (λa i=>(i,a)) (λa=>a) set.1 (λg=>zz<|iA g) (λb i g h n=>by
   have f:=eL h;obtain⟨G,w⟩:=Ic hS<|eW h;have m:=eQ w;unfold rf;simp only[fR,h,im,Bn];rw[if_pos so,zJ so];simp only[im];rw[zJ so];simp only[im];rw[zJ so];simp only[im];rw[zJ so];simp only[im];have e:[103,108,117,101,32]++g.1++[32]++Go.Lib.itoa g.2++[10]=iA g:=rfl;rw[e,dE (by rw[cJ]at n;exact n)];simp only[im];rw[fF f om]) (λb=>by unfold rf;simp) [] (by rw[zV,zF,cJ];simp only[eu];omega)
 rw[show iter (rf set) (0,([]:List Int))=_ from H,zV,gc];simp only[im];unfold FU;have E:=fK NB (rc set) (λa i=>(i,a)) (λa=>a) set.2 (λt=>zz<|gP set t) (λb i t p n=>by
   have f:=eL p;obtain⟨G,w,m⟩:=Bc hS<|eW p;have D:=iP t.2 (gD set) 13 (λx v=>HB hS (m x v).1 (m x v).2);rw[zF,cJ]at n;have A:(gP set t).length=6+t.1.length+(t.2.flatMap<|gD set).length:=by unfold gP;simp;omega
   unfold rc;simp only[fR,p,im];rw[if_pos so,zJ so];simp only[im];rw[dE (by rw[zF];simp;omega)];simp only[im];have B:=fK NB (rb set t) (λa i=>(i,a)) (λa=>a) t.2 (λs=>zz<|gD set s) (λk j s hs c=>by
     have d:=eL hs;obtain⟨u,y⟩:=m s<|eW hs;have I:=Iq hS u y;unfold rb;simp only[fR,hs,im];rw[if_pos so];by_cases l:s=0
     ·subst l;rw[if_pos si];have e:([32,45]:List UInt8)=gD set 0:=rfl;rw[e,dE (by rw[cJ]at c;exact c)];simp only[im];unfold rV;rw[fF d om]
     ·obtain⟨g,h,J,_⟩:=Ie hS l u y;rw[if_neg (by simpa using l),cK ⟨by omega,by omega⟩,h];simp only[im];rw[zJ so];simp only[im];have e:[32]++g.1=gD set s:=by unfold gD;rw[HO l h]
      rw[e,dE (by rw[cJ]at c;exact c)];simp only[im];unfold rV;rw[fF d om]) (λk=>by unfold rb;simp) (b++zz ([116,105,108,101,32]++t.1)) (by
     rw[zV,ef,zF,zF,cJ];simp only[ef,eh,eu];omega)
   rw[show iter (rb set t) (0,b++zz ([116,105,108,101,32]++t.1))=_ from B,zV];simp only[im];unfold FS;rw[dE (by simp only[ef,zF,eh,eu];omega)];simp only[im];rw[fF f om];have e:b++zz ([116,105,108,101,32]++t.1)++zz (t.2.flatMap<|gD set)++zz [10]=b++zz (gP set t):=by
    unfold gP;simp only[iL,bp]
   rw[e]) (λb=>by unfold rc;simp) (zz<|set.1.flatMap iA) (by rw[zV,zF,zF,cJ];omega)
 rw[show iter (rc set) (0,zz<|set.1.flatMap iA)=_ from E,zV,←iL];simp only[im];unfold FT;rw[oZ];rfl
variable {set:TSet}
def BZ(set:TSet)(k:Int):List UInt8:=((idx set.2 k).map (·.1)).getD []
def eU(set:TSet)(w:List UInt8)(x:aM):List UInt8:=w++[32]++BZ set x.2++[32]++kj x.1++[10]
def t_(hS:SetOk set){k}(h1:0<=k)(h2:k<=(set.2.length:Int) - 1):∃t,idx set.2 k=some t/\t.1.length<=12/\BZ set k=t.1:=by
 have a:k.toNat<set.2.length:=by omega
 have e:idx set.2 k=some set.2[k.toNat]:=by unfold idx;rw[if_pos h1,dj a]
 exact⟨_,e,(Bc hS<|ed a).1,by unfold BZ;rw[e];rfl⟩
def uk{ts x}(hA:AsmOk set ts)(hx:x∈ts):cR x.1=true/\0<=x.2/\x.2<=(set.2.length:Int) - 1:=by
 obtain⟨i,hi⟩:=du hx;exact⟨(hA.1.2 i (eL hi) x hi).1,hA.2 x hx⟩
def Zz(hS:SetOk set){ts x}(hA:AsmOk set ts){w:List UInt8}(hw:w.length<=10)(hx:x∈ts):(eU set w x).length<=80:=by
 obtain⟨a,b,c⟩:=uk hA hx;obtain⟨t,_,d,e⟩:=t_ hS b c;have:=tS a;unfold eU;rw[e];simp;omega
def tw(hS:SetOk set){ts:List aM}(hA:AsmOk set ts){w:List UInt8}(hw:w.length<=10):(ts.flatMap (eU set w)).length<=40000:=by
 have:=iP ts (eU set w) 80 (λx a=>Zz hS hA hw a);have:=hA.1.1;omega
def Ke{w n p:List UInt8}(hw:w.length<=10)(hn:n.length<=12)(hp:p.length<=43):jp [w,n,p]=some (w++[32]++n++[32]++p++[10]):=by
 have e:Go.Lib.join [w,n,p] [32]=w++[32]++n++[32]++p:=by rw[pK];simp
 rw[pS _ si (by rw[e,cJ];simp;omega),e]
def lU(s:Sy):List UInt8:=[116,101,109,112,101,114,97,116,117,114,101,32]++Go.Lib.itoa s.2.2++[10]++j_ s.1++s.2.1.flatMap (eU s.1 [115,101,101,100])
def OR{s}(hS:SetOk s.1)(hA:AsmOk s.1 s.2.1)(ht:I64 s.2.2):(lU s).length<=60000:=by
 have a:=tK hS;have b:=tw hS hA (w:=[115,101,101,100]) si;have c:=eQ ht;unfold lU j_;simp only[ef,eh,eu]at a b ⊢;omega
def PJ{s}(hS:SetOk s.1)(hA:AsmOk s.1 s.2.1)(ht:I64 s.2.2):yr s=some (lU s):=by
 have r:=tK hS;have q:=tw hS hA (w:=[115,101,101,100]) si;have u:=eQ ht;have hs:(j_ s.1).length<=19200:=by unfold j_;rw[ef];omega
 have f:=hA.1.1;unfold yr;rw[lC ht];simp only[im];rw[zJ so];simp only[im];rw[zJ so,PK hS];simp only[im];rw[zJ so];simp only[im];have L:=fK NB (qO s) (λa i=>(a,i)) (λa=>a) s.2.1 (eU s.1 [115,101,101,100]) (λc i x d l=>by
   have b:=eL d;obtain⟨g,m,k⟩:=uk hA<|eW d;obtain⟨t,j,n,h⟩:=t_ hS m k;have p:=tS g;rw[cJ]at l;unfold qO;simp only[fR,d,im,j];rw[if_pos so,zJ so];simp only[im];rw[zJ so,OT g];simp only[im];rw[zJ so];simp only[im];rw[zJ so];simp only[im];have e:[115,101,101,100,32]++t.1++[32]++kj x.1++[10]=eU s.1 [115,101,101,100] x:=by unfold eU;rw[h];rfl
   rw[e,zJ om];simp only[im];rw[fF b om]) (λc=>by unfold qO;simp) ([116,101,109,112,101,114,97,116,117,114,101,32]++Go.Lib.itoa s.2.2++[10]++j_ s.1) (by rw[cJ];simp only[ef,eh,eu];omega)
 rw[show iter (qO s) (_,0)=_ from L];rfl
def QF{s}(hS:SetOk s.1)(hA:AsmOk s.1 s.2.1)(ht:I64 s.2.2):xR s=some (lU s):=by
 have u:=tK hS;have r:=tw hS hA (w:=[115,101,101,100]) si;have v:=eQ ht;have hs:(j_ s.1).length<=19200:=by unfold j_;rw[ef];omega
 have f:=hA.1.1;unfold xR;have j:Go.Lib.join [([116,101,109,112,101,114,97,116,117,114,101]:List UInt8),Go.Lib.itoa s.2.2] [32]=[116,101,109,112,101,114,97,116,117,114,101,32]++Go.Lib.itoa s.2.2:=by rw[pK];simp
 rw[Bn];simp only[im];rw[pS _ si (by rw[j,cJ];simp;omega),j];simp only[im];rw[dE (by rw[zF];simp;omega),QG hS];simp only[im];rw[dE (by simp only[gc,zF];simp;omega)];simp only[im];have L:=fK NB (qz s) (λa i=>(i,a)) (λa=>a) s.2.1 (λx=>zz<|eU s.1 [115,101,101,100] x) (λc i x d h=>by
   have b:=eL d;obtain⟨g,q,p⟩:=uk hA<|eW d;obtain⟨t,n,k,l⟩:=t_ hS q p;have m:=tS g;rw[cJ]at h;unfold qz;simp only[fR,d,im,n];rw[if_pos so,OW g];simp only[im];rw[Ke si k m];simp only[im];have e:[115,101,101,100]++[32]++t.1++[32]++kj x.1++[10]=eU s.1 [115,101,101,100] x:=by unfold eU;rw[l]
   rw[e,dE h];simp only[im];rw[fF b om]) (λc=>by unfold qz;simp) ([]++zz ([116,101,109,112,101,114,97,116,117,114,101,32]++Go.Lib.itoa s.2.2++[10])++zz (j_ s.1)) (by
   rw[zV,cJ];simp only[gc,ef,zF,eh,eu];omega)
 rw[show iter (qz s) (0,_)=_ from L,zV];simp only[im,gc];unfold DP;rw[←iL,←iL,oZ];rfl
def optN(o:(Int×Int)×Int):List Int:=[o.1.1,o.1.2,o.2]
def ki(k:Int):List UInt8:=if k=1 then[103,114,111,119,110]else if k=2 then[116,101,114,109,105,110,97,108]else if k=3 then[117,110,105,113,117,101]else if k=4 then[99,111,110,102,108,105,99,116]else if k=5 then[115,116,97,98,108,101]else[108,111,111,115,101]
def Cp{k}(h1:1<=k)(h2:k<=6):yH k=some (ki k)/\yi k=some (ki k)/\(ki k).length<=8/\ki k≠[]:=by
 have h:k=1\/k=2\/k=3\/k=4\/k=5\/k=6:=by omega
 unfold yH yi;rw[fD,gM];rcases h with rfl | rfl | rfl | rfl | rfl | rfl<;>exact⟨rfl,rfl,by decide,by decide⟩
def jV(p:eX):List UInt8:=[112,114,111,111,102,32]++ki p.1++[10]++p.2.1.flatMap (λo=>dw [112,117,116] (optN o))++p.2.2.1.flatMap (λo=>dw [111,116,104,101,114] (optN o)) ++
 (if p.2.2.2.1=[]then[]else dw [112,97,114,116] p.2.2.2.1)++p.2.2.2.2.flatMap (λl=>dw [102,108,111,119] l)
structure PI(p:eX):Prop where
 q1:∀o∈p.2.1,∀n∈optN o,I64 n
 q2:∀o∈p.2.2.1,∀n∈optN o,I64 n
 c:∀n∈p.2.2.2.1,I64 n
 f:∀l∈p.2.2.2.2,∀n∈l,I64 n
 l1:p.2.1.length<=1048576
 l2:p.2.2.1.length<=1048576
 l3:p.2.2.2.1.length<=1048576
 l4:p.2.2.2.2.length<=1048576
 l5:∀l∈p.2.2.2.2,l.length<=1048576
def Js{w:List UInt8}(hw:w.length<=10){o}(h:∀n∈optN o,I64 n):(dw w (optN o)).length<=77:=by
 have:=AU (w:=w) h;have e:(optN o).length=3:=rfl;omega
def GX{p:eX}(h:PI p):(p.2.1.flatMap (λo=>dw [112,117,116] (optN o))).length<=1048576*77/\(p.2.2.1.flatMap (λo=>dw [111,116,104,101,114] (optN o))).length<=1048576*77/\
  (dw [112,97,114,116] p.2.2.2.1).length<=23068680/\(p.2.2.2.2.flatMap (λl=>dw [102,108,111,119] l)).length<=1048576*23068688:=by
 have d:=iP p.2.1 (λo=>dw [112,117,116]<|optN o) 77 (λo a=>Js si<|h.q1 o a);have a2:=iP p.2.2.1 (λo=>dw [111,116,104,101,114]<|optN o) 77 (λo a=>Js si<|h.q2 o a);have f:=AU (w:=[112,97,114,116]) h.c;have c:=iP p.2.2.2.2 (λl=>dw [102,108,111,119] l) 23068688 (λl b=>by
  have:=AU (w:=[102,108,111,119])<|h.f l b;have:=h.l5 l b;simp only[eh,eu]at *;omega)
 have e:=h.l3;refine⟨gy d<|ii 77 h.l1,gy a2<|ii 77 h.l2,gy f (by simp only[eh,eu];omega),gy c<|ii 23068688 h.l4⟩
def NL{w:List UInt8}(hw:w.length<=10){l:List ((Int×Int)×Int)}(hl:l.length<=1048576)(hI:∀o∈l,∀n∈optN o,I64 n)(f:(l.flatMap λo=>dw w (optN o)).length<=NB):
  rN w l=some (l.flatMap λo=>dw w (optN o)):=by
 unfold rN;have L:=fK NB (qu w l) (λa i=>(a,i)) (λa=>a) l (λo=>dw w<|optN o) (λd i o c f=>by
   have b:=eL c;have hi:=hI o<|eW c;have g:I64 o.1.1:=hi _ (by simp[optN]);have j:I64 o.1.2:=hi _ (by simp[optN]);have h:I64 o.2:=hi _ (by simp[optN]);have k1:=eQ g;have k2:=eQ j;have k3:=eQ h;rw[cJ]at f;unfold qu;simp only[fR,c,im];rw[if_pos so,zJ so];simp only[im];rw[lC g];simp only[im];rw[zJ so];simp only[im];rw[zJ so,lC j];simp only[im];rw[zJ so];simp only[im];rw[zJ so,lC h];simp only[im];rw[zJ so];simp only[im];rw[zJ so];simp only[im];have e:w++[32]++Go.Lib.itoa o.1.1++[32]++Go.Lib.itoa o.1.2++[32]++Go.Lib.itoa o.2++[10]=dw w (optN o):=by unfold dw optN;simp
   rw[e,zJ om];simp only[im];rw[fF b hl]) (λd=>by unfold qu;simp) [] (by simpa using f)
 rw[show iter (qu w l) (_,0)=_ from L];rfl
def Nz{p}(h:PI p)(h1:1<=p.1)(h2:p.1<=6):(jV p).length<=30000000000000:=by
 obtain⟨e,a2,a,c⟩:=GX h;obtain⟨_,_,d,_⟩:=Cp h1 h2;unfold jV;have b:(if p.2.2.2.1=[]then[]else dw [112,97,114,116] p.2.2.2.1:List UInt8).length<=23068680:=by
  split
  ·simp
  ·exact a
 simp only[ef,eh,eu]at b ⊢;omega
def Zd{p}(h:PI p)(h1:1<=p.1)(h2:p.1<=6):yA p=some (jV p):=by
 obtain⟨q,a2,r,f⟩:=GX h;obtain⟨p1,g,k,m⟩:=Cp h1 h2;unfold yA;rw[g];simp only[im];rw[zJ so];simp only[im];rw[zJ so,NL si h.l1 h.q1 (by rw[cJ];omega)];simp only[im];rw[zJ (by simp only[ef,eh,eu];omega),NL si h.l2 h.q2 (by rw[cJ];omega)];simp only[im];rw[zJ (by simp only[ef,eh,eu];omega)];simp only[im];have fin:∀a:List UInt8,a.length<=1000000000->rq p a=some (a++p.2.2.2.2.flatMap λl=>dw [102,108,111,119] l):=by
  intro a n;unfold rq;have L:=fK NB (ri p) (λa i=>(a,i)) (λa=>a) p.2.2.2.2 (λl=>dw [102,108,111,119] l) (λe i l b j=>by
    have d:=eL b;have l4:=h.l4;rw[cJ]at j;unfold ri;simp only[fR,b,im];rw[if_pos so,NM si (h.l5 l<|eW b)<|h.f l<|eW b];simp only[im];rw[zJ om];simp only[im];rw[fF d l4]) (λe=>by unfold ri;simp) a (by rw[cJ];exact gy (Nat.add_le_add_left f _) om)
  rw[show iter (ri p) (_,0)=_ from L];rfl
 by_cases c:p.2.2.2.1=[]
 ·rw[if_neg (by simp[c]),fin _ (by simp only[ef,eh,eu];omega)];unfold jV;rw[if_pos c,bq]
 ·have:0<p.2.2.2.1.length:=List.length_pos_iff.2 c;rw[if_pos so,NM si h.l3 h.c];simp only[im];rw[zJ (by simp only[ef,eh,eu];omega)];simp only[im];rw[fin _ (by simp only[ef,eh,eu];omega)];unfold jV;rw[if_neg c]
def ZG{p}(h:PI p)(h1:1<=p.1)(h2:p.1<=6):yG p=some (jV p):=by
 obtain⟨w,a2,x,m⟩:=GX h;obtain⟨p1,v,t,n⟩:=Cp h1 h2;unfold yG;rw[p1];simp only[im];rw[if_neg (by simpa using n)];have k:Go.Lib.join [([112,114,111,111,102]:List UInt8),ki p.1] [32]=[112,114,111,111,102,32]++ki p.1:=by rw[pK];simp
 rw[pS _ si (by rw[k,cJ];simp;omega),k];simp only[im];rw[dE (by rw[zF];simp;omega)];simp only[im,gc];have s:=fK NB (qV p) (λa i=>(i,a)) (λa=>a) p.2.1 (λo=>zz<|dw [112,117,116]<|optN o) (λc i o f d=>by
   have b:=eL f;rw[cJ]at d;unfold qV;simp only[fR,f,im];have e:[o.1.1,o.1.2,o.2]=optN o:=rfl;rw[if_pos so,e,AV si (by simp[optN])<|h.q1 o<|eW f];simp only[im];rw[dE d];simp only[im];rw[fF b h.l1]) (λc=>by unfold qV;simp) (zz<|[112,114,111,111,102,32]++ki p.1++[10]) (by rw[zV,cJ,zF,zF];simp only[ef,eh,eu];omega)
 rw[show iter (qV p) (0,_)=_ from s,zV,←iL];simp only[im];unfold Fv;have r:=fK NB (qU p) (λa i=>(i,a)) (λa=>a) p.2.2.1 (λo=>zz<|dw [111,116,104,101,114]<|optN o) (λc i o f d=>by
   have b:=eL f;rw[cJ]at d;unfold qU;simp only[fR,f,im];have e:[o.1.1,o.1.2,o.2]=optN o:=rfl;rw[if_pos so,e,AV si (by simp[optN])<|h.q2 o<|eW f];simp only[im];rw[dE d];simp only[im];rw[fF b h.l2]) (λc=>by unfold qU;simp) (zz<|[112,114,111,111,102,32]++ki p.1++[10]++p.2.1.flatMap (λo=>dw [112,117,116]<|optN o)) (by rw[zV,cJ,zF,zF];simp only[ef,eh,eu];omega)
 rw[show iter (qU p) (0,_)=_ from r,zV,←iL];simp only[im];unfold Fu;have fin:∀a:List UInt8,a.length<=1000000000->rG p (zz a)=some (a++p.2.2.2.2.flatMap λl=>dw [102,108,111,119] l):=by
  intro a u;unfold rG;have q:(List.flatMap (dw [102,108,111,119]) p.2.2.2.2).length<=1048576*23068688:=m;have L:=fK NB (qT p) (λa i=>(i,a)) (λa=>a) p.2.2.2.2 (λl=>zz<|dw [102,108,111,119] l) (λc i l g d=>by
    have b:=eL g;rw[cJ]at d;unfold qT;simp only[fR,g,im];rw[if_pos so,AV si (h.l5 l<|eW g)<|h.f l<|eW g];simp only[im];rw[dE d];simp only[im];rw[fF b h.l4]) (λc=>by unfold qT;simp) (zz a) (by rw[zV,cJ,zF,zF];omega)
  rw[show iter (qT p) (0,_)=_ from L,zV,←iL];simp only[im];unfold Ft;rw[oZ]
 by_cases j:p.2.2.2.1=[]
 ·rw[if_neg (by simp[j]),fin _ (by simp only[ef,eh,eu];omega)];unfold jV;rw[if_pos j,bq]
 ·have:0<p.2.2.2.1.length:=List.length_pos_iff.2 j;rw[if_pos so,AV si h.l3 h.c];simp only[im];rw[dE (by rw[zF,zF];simp only[ef,eh,eu];omega)];simp only[im];rw[←iL,fin _ (by simp only[ef,eh,eu];omega)];unfold jV;rw[if_neg j]
def uj(e:En):List UInt8:=[101,110,116,114,121,32]++e.1++[10]++lU e.2.1++[101,110,100,10]++e.2.2.1.flatMap (eU e.2.1.1 [97,116])++jV e.2.2.2
structure VE(e:En):Prop where
 n:NameOk e.1
 s:SetOk e.2.1.1
 a:AsmOk e.2.1.1 e.2.1.2.1
 b:AsmOk e.2.1.1 e.2.2.1
 k1:1<=e.2.2.2.1
 k2:e.2.2.2.1<=6
 t:I64 e.2.1.2.2
 p:PI e.2.2.2
def Zg{e}(h:VE e):wW e=some (uj e):=by
 have s:=h.n.2.1;have u:=OR h.s h.a h.t;have q:=tw h.s h.b (w:=[97,116]) si;have c:=Nz h.p h.k1 h.k2;have g:=h.b.1.1;unfold wW;rw[zJ so];simp only[im];rw[zJ so,PJ h.s h.a h.t];simp only[im];rw[zJ so];simp only[im];rw[zJ so];simp only[im];have L:=fK NB (qm e) (λa i=>(a,i)) (λa=>a) e.2.2.1 (eU e.2.1.1 [97,116]) (λd i x f m=>by
   have b:=eL f;obtain⟨c,n,l⟩:=uk h.b<|eW f;obtain⟨t,k,p,j⟩:=t_ h.s n l;have r:=tS c;rw[cJ]at m;unfold qm;simp only[fR,f,im,k];rw[if_pos so,zJ so];simp only[im];rw[zJ so,OT c];simp only[im];rw[zJ so];simp only[im];rw[zJ so];simp only[im];have e:[97,116,32]++t.1++[32]++kj x.1++[10]=eU e.2.1.1 [97,116] x:=by unfold eU;rw[j];rfl
   rw[e,zJ om];simp only[im];rw[fF b om]) (λd=>by unfold qm;simp) ([101,110,116,114,121,32]++e.1++[10]++lU e.2.1++[101,110,100,10]) (by rw[cJ];simp only[ef,eh,eu];omega)
 rw[show iter (qm e) (_,0)=_ from L];simp only[im];unfold Dl;rw[Zd h.p h.k1 h.k2];simp only[im];rw[zJ (by simp only[ef,eh,eu];omega)];rfl
def YX{e}(hs:ES e)(hp:PI e.2.2.2)(ht:I64 e.2.1.2.2):∃r,yJ e=some r/\yj e=some r/\r.length<=20000:=by
 obtain⟨v,s,E,q⟩:=MT hs;unfold yJ yj;rw[s,E];simp only[im];cases v with
 | false=>exact⟨[],rfl,rfl,by simp⟩
 | true=>
  obtain⟨y,c2,D,H,F,G⟩:=q rfl;have h:VE e:=⟨y,c2,D,H,F,G,ht,hp⟩;have N:=h.n.2.1;have M:=OR h.s h.a h.t;have J:=tw h.s h.b (w:=[97,116]) si;have d:=Nz h.p h.k1 h.k2;have j:=h.b.1.1;rw[Zg h];simp only[bc,ba,if_false,im];have k:Go.Lib.join [([101,110,116,114,121]:List UInt8),e.1] [32]=[101,110,116,114,121,32]++e.1:=by rw[pK];simp
  rw[pS _ si (by rw[k,cJ];simp;omega),k];simp only[im];rw[dE (by rw[zF];simp;omega),QF h.s h.a h.t];simp only[im,gc];rw[dE (by rw[zF,zF];simp;omega)];simp only[im];have l:Go.Lib.join [([101,110,100]:List UInt8)] [32]=[101,110,100]:=by rw[pK];rfl
  rw[pS _ si (by rw[l,cJ];simp),l];simp only[im];rw[dE (by simp only[ef,zF,eh,eu];omega)];simp only[im];have L:=fK NB (qW e) (λa i=>(i,a)) (λa=>a) e.2.2.1 (λx=>zz<|eU e.2.1.1 [97,116] x) (λf i x g m=>by
    have c:=eL g;obtain⟨d,I,u⟩:=uk h.b<|eW g;obtain⟨t,C,n,p⟩:=t_ h.s I u;have B:=tS d;rw[cJ]at m;unfold qW;simp only[fR,g,im,C];rw[if_pos so,OW d];simp only[im];rw[Ke si n B];simp only[im];have e:[97,116]++[32]++t.1++[32]++kj x.1++[10]=eU e.2.1.1 [97,116] x:=by unfold eU;rw[p]
    rw[e,dE m];simp only[im];rw[fF c om]) (λf=>by unfold qW;simp) (zz ([101,110,116,114,121,32]++e.1++[10])++zz (lU e.2.1)++zz ([101,110,100]++[10])) (by
    rw[zV,cJ];simp only[ef,zF,eh,eu];omega)
  rw[show iter (qW e) (0,_)=_ from L,zV];simp only[im];unfold Fx;rw[ZG h.p h.k1 h.k2];simp only[im];rw[dE (by simp only[ef,zF,eh,eu];omega)];simp only[im];have A:zz ([101,110,116,114,121,32]++e.1++[10])++zz (lU e.2.1)++zz ([101,110,100]++[10])++zz (e.2.2.1.flatMap<|eU e.2.1.1 [97,116])++zz (jV e.2.2.2)=zz (uj e):=by
   unfold uj;simp only[iL,bp];rfl
  rw[A,zF,oZ];by_cases b:((uj e).length:Int)>20000
  ·exact⟨[],by rw[if_pos (by simpa using b)],by rw[if_pos (by simpa using b)],by simp⟩
  ·exact⟨uj e,by rw[if_neg (by simpa using b)],by rw[if_neg (by simpa using b)],by omega⟩
def Nu{k}(h0:1<=k)(h1:k<=43980465111040):∃t,yS k=some t:=by
 unfold yS Fh;rw[if_neg so];have key:=zB (F:=DD) (λs=>0<=s.1/\s.1+s.2.length<=43980465111040) (λs=>s.1.toNat) (λt=>t.length<=43980465111040) ?_ (k,[]) ⟨by show 0<=k;omega,by simpa using h1⟩
 ·obtain⟨t,d,f⟩:=key;rw[d];unfold bB;simp only[im];rw[if_pos so];exact⟨_,rfl⟩
 ·rintro⟨n,e⟩ ⟨h0,h1⟩;simp only at h0 h1;unfold DD;obtain⟨u,rfl⟩:=bg h0;by_cases b:(u:Int)>0
  ·left;have a:Int.tdiv (u:Int) 10=((u / 10:Nat):Int):=rfl;have c:aA (((u / 10:Nat):Int))=((u / 10:Nat):Int):=cK ⟨by omega,by omega⟩;rw[if_pos (by simpa using b)];unfold bB cM;rw[if_pos so];simp only[im,a,c];exact⟨_,rfl,⟨by simp only[];omega,by simp;omega⟩,by simp only[bh];omega⟩
  ·right;rw[if_neg (by simpa using b)];exact⟨_,rfl,by simp only[];omega⟩
def tz{α:Type}(F:List α×Int×Int->Option ((List α×Int×Int) ⊕ (List α×Int)))(m:Nat)(h1:∀(l:List α)(k:Int)(i:Nat),i<l.length->l.length<=1048576->1<=k->k+m<=43980465111040->∃x,F (l,k,(i:Int))=some (.inl (l.set i x,k+m,((i+1:Nat):Int))))(h2:∀(l:List α)(k:Int),F (l,k,(l.length:Int))=some (.inr (l,k)))(hm:m<=3)(l:List α){k:Int}(hk:1<=k)(hk2:k<=32985348833280)(hl:l.length<=1048576):
  ∃l',iter F (l,k,0)=some (l',k+m*(l.length:Int))/\l'.length=l.length:=by
 have key:=zB (F:=F) (λs=>∃i:Nat,s.2.2=(i:Int)/\i<=l.length/\s.2.1=k+m*(i:Int)/\s.1.length=l.length) (λs=>(l.length - s.2.2).toNat)
  (λz=>z.2=k+m*l.length/\z.1.length=l.length) ?_ (l,k,0) ⟨0,rfl,Nat.zero_le _,by simp,rfl⟩
 ·obtain⟨⟨l',n⟩,d,e,h⟩:=key;simp only at e h;subst e;exact⟨l',d,h⟩
 ·rintro⟨l1,k1,g⟩ ⟨i,rfl,hi,rfl,he⟩;simp only at he hi ⊢;have b:(m:Int)*(i:Int)<=3*(i:Int):=Int.mul_le_mul_of_nonneg_right om om;have a:0<=(m:Int)*(i:Int):=Int.mul_nonneg om om;by_cases j:i<l.length
  ·left;obtain⟨x,f⟩:=h1 l1 (k+m*(i:Int)) i om om om om;refine⟨_,f,⟨i+1,rfl,by omega,?_,by simp only[fa];exact he⟩,by simp only[];omega⟩;simp only[];have:(m:Int)*((i+1:Nat):Int)=m*(i:Int)+m:=by rw[show((i+1:Nat):Int)=(i:Int)+1 by omega,Int.mul_add,Int.mul_one]
   omega
  ·right;have c:i=l1.length:=by omega
   subst c;refine⟨_,h2 l1 _,by simp only[];rw[he],he⟩
def YD(l:List (List UInt8×Int))k(a:1<=k)(hk2:k<=32985348833280)(c:l.length<=1048576):∃l',yp l k=some (k+(2:Nat)*(l.length:Int),l')/\l'.length=l.length:=by
 obtain⟨l',h,h'⟩:=tz wj 2 (λl k i hi c a m=>by
  obtain⟨t,f⟩:=Nu (k:=k) a om;have j:l[i]?=some l[i]:=dj hi;have b:∀x,(l.set i x)[i]?=some x:=λx=>by simp[hi]
  have d:aA (k+1)=k+1:=cK ⟨by omega,by omega⟩;have g:aA (k+1+1)=k+((2:Nat):Int):=(cK ⟨by omega,by omega⟩).trans om;have e:aA ((i:Int)+1)=((i+1:Nat):Int):=cK ⟨by omega,by omega⟩;unfold wj;rw[if_pos (by simp[hi])];simp only[f,zq j,zq<|b _,im,bh,d,g,e,List.set_set];exact⟨_,rfl⟩) (λl k=>by unfold wj;rw[if_neg si]) om l a hk2 c
 exact⟨l',by unfold yp EI;rw[h];rfl,h'⟩
def YL(l:List Int)k(a:1<=k)(hk2:k<=32985348833280)(b:l.length<=1048576):∃l',xK l k=some (k+(1:Nat)*(l.length:Int),l')/\l'.length=l.length:=by
 obtain⟨l',h,h'⟩:=tz vO 1 (λl k i hi b a f=>by
  have e:l[i]?=some l[i]:=dj hi;have c:aA (k+1)=k+1:=cK ⟨by omega,by omega⟩;have d:aA ((i:Int)+1)=((i+1:Nat):Int):=cK ⟨by omega,by omega⟩;unfold vO;rw[if_pos (by simp[hi])];simp only[zq e,im,bh,c,d];exact⟨_,rfl⟩) (λl k=>by unfold vO;rw[if_neg si]) om l a hk2 b
 exact⟨l',by unfold xK Ej;rw[h];rfl,h'⟩
def YE(l:List Int)k(a:1<=k)(hk2:k<=32985348833280)(b:l.length<=1048576):∃l',kx l k=some (k+(1:Nat)*(l.length:Int),l')/\l'.length=l.length:=by
 obtain⟨l',h,h'⟩:=tz ku 1 (λl k i hi b a f=>by
  have e:l[i]?=some l[i]:=dj hi;have c:aA (k+1)=k+1:=cK ⟨by omega,by omega⟩;have d:aA ((i:Int)+1)=((i+1:Nat):Int):=cK ⟨by omega,by omega⟩;unfold ku;rw[if_pos (by simp[hi])];simp only[zq e,im,bh,c,d];exact⟨_,rfl⟩) (λl k=>by unfold ku;rw[if_neg si]) om l a hk2 b
 exact⟨l',by unfold kx wS;rw[h];rfl,h'⟩
def Ya(l:List ((Int×Int)×Int))k(b:1<=k)(hk2:k<=32985348833280)(c:l.length<=1048576):∃l',xg l k=some (k+(3:Nat)*(l.length:Int),l')/\l'.length=l.length:=by
 obtain⟨l',h,h'⟩:=tz vj 3 (λl k i hi c b m=>by
  have j:l[i]?=some l[i]:=dj hi;have a:∀x,(l.set i x)[i]?=some x:=λx=>by simp[hi]
  have d:aA (k+1)=k+1:=cK ⟨by omega,by omega⟩;have g:aA (k+1+1)=k+1+1:=cK ⟨by omega,by omega⟩;have f:aA (k+1+1+1)=k+((3:Nat):Int):=(cK ⟨by omega,by omega⟩).trans om;have e:aA ((i:Int)+1)=((i+1:Nat):Int):=cK ⟨by omega,by omega⟩;unfold vj;rw[if_pos (by simp[hi])];simp only[zq j,zq<|a _,im,bh,d,g,e,f,List.set_set];exact⟨_,rfl⟩) (λl k=>by unfold vj;rw[if_neg si]) om l b hk2 c
 exact⟨l',by unfold xg Dv;rw[h];rfl,h'⟩
def XT(l:List ((Int×Int)×Int))k(b:1<=k)(hk2:k<=32985348833280)(c:l.length<=1048576):∃l',xh l k=some (k+(3:Nat)*(l.length:Int),l')/\l'.length=l.length:=by
 obtain⟨l',h,h'⟩:=tz vk 3 (λl k i hi c b m=>by
  have j:l[i]?=some l[i]:=dj hi;have a:∀x,(l.set i x)[i]?=some x:=λx=>by simp[hi]
  have d:aA (k+1)=k+1:=cK ⟨by omega,by omega⟩;have g:aA (k+1+1)=k+1+1:=cK ⟨by omega,by omega⟩;have f:aA (k+1+1+1)=k+((3:Nat):Int):=(cK ⟨by omega,by omega⟩).trans om;have e:aA ((i:Int)+1)=((i+1:Nat):Int):=cK ⟨by omega,by omega⟩;unfold vk;rw[if_pos (by simp[hi])];simp only[zq j,zq<|a _,im,bh,d,g,e,f,List.set_set];exact⟨_,rfl⟩) (λl k=>by unfold vk;rw[if_neg si]) om l b hk2 c
 exact⟨l',by unfold xh Dw;rw[h];rfl,h'⟩
end Go.Lf
