import Derived.Test.YtiobnnnacoginaaGreatDoorJ
import Derived.Test.YtiobnnnacoginaaGreatDoorB
import Derived.Test.YtiobnnnacoginaaGreatDoorC
import Derived.Lib.ItoaLen
import Derived.Test.YtiobnnnacoginaaGreatDoorI
set_option linter.all false
set_option maxRecDepth 100000
set_option maxHeartbeats 1000000
set_option maxHeartbeats 2000000
set_option maxHeartbeats 4000000
namespace Go.Lf
open Go Go.Proofs Go.Sort
section
variable {set:TSet} {T ts:List Plc}
def zBc{α β:Type}[DecidableEq α]{m:List (α×β)}{k:α}{v:β}{e:α×β}(h:e∈zbX m k v):e=(k,v)\/e∈m:=by
 unfold zbX at h;split at h
 ·obtain⟨p,hp,a⟩:=fj.1 h;split at a
  ·exact .inl a.symm
  ·subst a;exact .inr hp
 ·rcases fe.1 h with h | h
  ·exact .inr h
  ·exact .inl (by simpa using h)
def zA8{α β:Type}[DecidableEq α]{m:List (α×β)}{k:α}{v:β}{q:α}(h:q=k\/∃e∈m,e.1=q):∃e∈zbX m k v,e.1=q:=by
 unfold zbX;split
 ·rename_i hm;obtain⟨x,c,hd⟩:=bj.1 hm;have a:x.1=k:=by simpa using hd
  rcases h with rfl |⟨e,he,rfl⟩
  ·exact⟨(q,v),fj.2 ⟨x,c,by rw[if_pos a]⟩,rfl⟩
  ·by_cases b:e.1=k
   ·exact⟨(k,v),fj.2 ⟨e,he,by rw[if_pos b]⟩,b.symm⟩
   ·exact⟨e,fj.2 ⟨e,he,by rw[if_neg b]⟩,rfl⟩
 ·rcases h with rfl |⟨e,he,rfl⟩
  ·exact⟨(q,v),by simp,rfl⟩
  ·exact⟨e,fg _ he,rfl⟩
def zA7{α β:Type}[DecidableEq α](m:List (α×β))(k:α)(v:β):(zbX m k v).length<=m.length+1:=by
 unfold zbX;split<;>simp
def zBb{α β:Type}[DecidableEq α]{m:List (α×β)}{e:α×β}(h:e∈m):∃v,zdw m e.1=some v/\(e.1,v)∈m:=by
 unfold zdw;cases hf:m.find? (λp=>decide (p.1=e.1))with
 | none=>exact absurd (List.find?_eq_none.1 hf e h) si
 | some x=>
  have a:=List.find?_some hf;have b:x.1=e.1:=by simpa using a
  exact⟨x.2,rfl,by rw[←b];exact fm hf⟩
def OInv(set:TSet)(t:Int)(T:List Plc)(D:Pt->Prop)(O:List (Pt×List Int)):Prop:=
 (∀e∈O,e.2=zss set t T e.1/\e.2≠[]/\D e.1)/\(∀q,D q->zss set t T q≠[]->∃e∈O,e.1=q)
def OInv.step{t:Int}{D:Pt->Prop}{O:List (Pt×List Int)}(h:OInv set t T D O)(p:Pt)(d:Int):OInv set t T (λq=>D q\/q=zD p d) (znZ set t T p O d)/\(znZ set t T p O d).length<=O.length+1:=by
 unfold znZ;by_cases j:(zss set t T (zD p d)).length>0
 ·rw[if_pos j];refine⟨⟨λe g=>?_,λq f k=>?_⟩,zA7 _ _ _⟩
  ·rcases zBc g with rfl | g
   ·exact⟨rfl,λi=>by simp only at i;rw[i]at j;simp at j,.inr rfl⟩
   ·obtain⟨a,b,c⟩:=h.1 e g;exact⟨a,b,.inl c⟩
  ·refine zA8 ?_;rcases f with f | f
   ·exact .inr (h.2 q f k)
   ·exact .inl f
 ·rw[if_neg j];have i:zss set t T (zD p d)=[]:=bz om;have g:zmG O (zD p d)=O:=by
   unfold zmG;refine cj.2 λe g=>?_;obtain⟨a,b,c⟩:=h.1 e g;have:¬e.1=zD p d:=λl=>b (by rw[a,l];exact i);simp[this]
  rw[g];refine⟨⟨λe g=>?_,λq f k=>?_⟩,by omega⟩
  ·obtain⟨a,b,c⟩:=h.1 e g;exact⟨a,b,.inl c⟩
  ·rcases f with f | f
   ·exact h.2 q f k
   ·subst f;exact absurd i k
def OInv.la{t:Int}{D:Pt->Prop}{O:List (Pt×List Int)}(h:OInv set t T D O)(p:Pt):OInv set t T (λq=>D q\/∃d,Dir d/\q=zD p d) (laO set t T O p)/\(laO set t T O p).length<=O.length+4:=by
 obtain⟨l,l0⟩:=h.step p 0;obtain⟨k,l1⟩:=l.step p 1;obtain⟨j,l2⟩:=k.step p 2;obtain⟨g,r⟩:=j.step p 3;have m:laO set t T O p=znZ set t T p (znZ set t T p (znZ set t T p (znZ set t T p O 0) 1) 2) 3:=rfl;rw[m];refine⟨⟨λe i=>?_,λq f n=>?_⟩,by omega⟩
 ·obtain⟨a,b,c⟩:=g.1 e i;refine⟨a,b,?_⟩;rcases c with(((c | c) | c) | c) | c
  ·exact .inl c
  ·exact .inr ⟨0,.inl rfl,c⟩
  ·exact .inr ⟨1,.inr (.inl rfl),c⟩
  ·exact .inr ⟨2,.inr (.inr (.inl rfl)),c⟩
  ·exact .inr ⟨3,.inr (.inr (.inr rfl)),c⟩
 ·refine g.2 q ?_ n;rcases f with f |⟨d,hd,f⟩
  ·exact .inl (.inl (.inl (.inl f)))
  ·rcases hd with rfl | rfl | rfl | rfl
   ·exact .inl (.inl (.inl (.inr f)))
   ·exact .inl (.inl (.inr f))
   ·exact .inl (.inr f)
   ·exact .inr f
def zA6(t:Int)(T ts:List Plc):OInv set t T (λq=>∃x∈ts,∃d,Dir d/\q=zD x.1 d) (ts.foldl (λO x=>laO set t T O x.1) [])/\(ts.foldl (λO x=>laO set t T O x.1) []).length<=4*ts.length:=by
 have i:∀(l:List Plc)(D:Pt->Prop)(O:List (Pt×List Int)),OInv set t T D O->OInv set t T (λq=>D q\/∃x∈l,∃d,Dir d/\q=zD x.1 d) (l.foldl (λO x=>laO set t T O x.1) O)/\(l.foldl (λO x=>laO set t T O x.1) O).length<=O.length+4*l.length:=by
  intro l
  induction l with
  | nil=>
   intro D O h;refine⟨⟨λe g=>?_,λq f j=>?_⟩,by simp⟩
   ·obtain⟨a,b,c⟩:=h.1 e g;exact⟨a,b,.inl c⟩
   ·rcases f with f |⟨x,hx,_⟩
    ·exact h.2 q f j
    ·cases hx
  | cons y l ih=>
   intro D O h;obtain⟨n,l1⟩:=h.la y.1;obtain⟨m,l2⟩:=ih _ _ n;rw[co];refine⟨⟨λe g=>?_,λq f j=>?_⟩,by rw[dz];omega⟩
   ·obtain⟨a,b,c⟩:=m.1 e g;refine⟨a,b,?_⟩;rcases c with(c |⟨d,hd,c⟩) |⟨x,hx,c⟩
    ·exact .inl c
    ·exact .inr ⟨y,List.mem_cons_self,d,hd,c⟩
    ·exact .inr ⟨x,List.mem_cons_of_mem _ hx,c⟩
   ·refine m.2 q ?_ j;rcases f with f |⟨x,hx,c⟩
    ·exact .inl (.inl f)
    ·rcases fh.1 hx with rfl | hx
     ·exact .inl (.inr c)
     ·exact .inr ⟨x,hx,c⟩
 have k:OInv set t T (λ_=>False) []:=⟨λe g=>(by cases g),λq f=>f.elim⟩;obtain⟨h,l⟩:=i ts (λ_=>False) [] k;refine⟨⟨λe g=>?_,λq f j=>h.2 q (.inr f) j⟩,by simpa using l⟩;obtain⟨a,b,c⟩:=h.1 e g;exact⟨a,b,c.resolve_left id⟩
instance{T:List Plc}{q:Pt}:Decidable (zAi T q):=inferInstanceAs (Decidable (_/\_))
def zBs{t:Int}{T:List Plc}{q:Pt}:zss set t T q=if zAi T q then atL set t (cat T) q else[]:=by
 unfold zss atL;by_cases h:zAi T q
 ·rw[if_pos h];refine List.filter_congr λk _=>?_;unfold zn8;rw[h.1,decide_eq_true h.2];rfl
 ·rw[if_neg h];refine List.filter_eq_nil_iff.2 λk _=>?_;unfold zn8;simp only[aw,decide_eq_true_eq];exact λa=>h a.1
def zA4{t:Int}:ncO set t ts=[]↔∀q,zrv ts ts q->atL set t (cat ts) q=[]:=by
 obtain⟨h,_⟩:=zA6 (set:=set) t ts ts;constructor
 ·intro f q ⟨x,g,d,hd,j,hF⟩;by_cases i:zss set t ts q=[]
  ·rw[zBs,if_pos hF]at i;exact i
  ·obtain⟨e,hm,_⟩:=h.2 q ⟨x,g,d,hd,j⟩ i;have:e∈ncO set t ts:=hm;rw[f]at this;cases this
 ·intro j;refine bu.2 λe f=>?_;obtain⟨a,b,x,g,d,hd,c⟩:=h.1 e f;rw[zBs]at a;split at a
  ·rename_i hF;exact b (by rw[a];exact j _ ⟨x,g,d,hd,c,hF⟩)
  ·exact b a
def zA5(hS:SetOk set)(hA:AsmOk set ts)(t:Int):(ncO set t ts).length<=2000/\∀e∈ncO set t ts,1<=e.2.length/\e.2.length<=160:=by
 obtain⟨h,l⟩:=zA6 (set:=set) t ts ts;have:=(zk9 hA).len;refine⟨gm l om,λe d=>?_⟩;obtain⟨a,b,_⟩:=h.1 e d;have c:=zBt set t ts e.1;have g:=hS.tiles;rw[←a]at c;exact⟨Nat.pos_of_ne_zero λf=>b (bz f),by omega⟩
def zBH(hS:SetOk set)(hA:AsmOk set ts)(s0:List Plc)(t:Int):∃c,ziE ((set,s0,t),ts,ncO set t ts)=some c/\(c=0↔ncO set t ts=[]):=by
 obtain⟨g,f⟩:=zA5 hS hA t;revert g f;generalize ncO set t ts=O;intro g f;have key:∀l:List (Pt×List Int),(∀e∈l,1<=e.2.length/\e.2.length<=160)->(l.length:Int)<=(l.map λp=>(p.2.length:Int)).sum/\(l.map λp=>(p.2.length:Int)).sum<=160*(l.length:Int):=by
  intro l
  induction l with
  | nil=>intro _;simp
  | cons x l ih=>
   intro h;obtain⟨a,b⟩:=h x List.mem_cons_self;obtain⟨c,d⟩:=ih λe j=>h e (List.mem_cons_of_mem _ j);rw[fd,List.sum_cons,dz];omega
 obtain⟨k1,k2⟩:=key O f;refine⟨_,rfl,?_⟩;have i:w64 ((O.map λp=>(p.2.length:Int)).sum)=(O.map λp=>(p.2.length:Int)).sum:=zu om om;simp only[i];constructor
 ·intro k;exact bz om
 ·rintro rfl;rfl
def zCl(hS:SetOk set)(hA:AsmOk set ts)(s0:List Plc)(t:Int):∃l,zei ((set,s0,t),ts,ncO set t ts)=some l/\(l=[]↔ncO set t ts=[])/\True:=by
 obtain⟨d,a⟩:=zA5 hS hA t;revert d a;generalize ncO set t ts=O;intro d a;unfold zei;rw[if_pos ⟨by simp only;omega,λp hp=>by have:=(a p hp).2;omega⟩];refine⟨_,rfl,?_,trivial⟩;have hp:(zwj (O.map Prod.fst)).Perm (O.map Prod.fst):=(zdC zt9 _).1;constructor
 ·intro h;refine bu.2 λe c=>?_;have hm:e.1∈zwj (O.map Prod.fst):=hp.mem_iff.2 (fj.2 ⟨e,c,rfl⟩);obtain⟨v,g,b⟩:=zBb c;have:=List.flatMap_eq_nil_iff.1 h e.1 hm;simp only at this;rw[g]at this;have f:=(a _ b).1;simp only[ie,List.map_eq_nil_iff]at this;rw[this]at f;simp at f
 ·rintro rfl;have:=List.Perm.eq_nil hp;show(zwj (List.map Prod.fst ([]:List (Pt×List Int)))).flatMap _=[];rw[this];rfl
end
def zvl(l:List Plc)(h:l.length<=2000000)(p:Plc->Option Bool)(q:Plc->Bool)(hp:∀b∈l,p b=some (q b)):
  ∃i:Int,zaT l p=some i/\((i = -1/\∀b∈l,q b=false)\/(∃k:Nat,i=k/\k<l.length/\(∀(j:Nat) b,j<k->l[j]?=some b->q b=false)/\∃b,l[k]?=some b/\q b=true)):=by
 unfold zaT zcd;rcases zks l h p q hp (zcc l p) (λi=>rfl)with⟨c,a⟩ |⟨k,c,r⟩
 ·rw[c];exact⟨-1,rfl,.inl ⟨rfl,a⟩⟩
 ·rw[c];exact⟨k,rfl,.inr ⟨k,rfl,r⟩⟩
def zvj(l:List Plc)(h:l.length<=2000000)(p:Plc->Option Bool)(q:Plc->Bool)(hp:∀b∈l,p b=some (q b)):
  ∃i:Int,zd2 l p=some i/\((i = -1/\∀b∈l,q b=false)\/(∃k:Nat,i=k/\k<l.length/\(∀(j:Nat) b,j<k->l[j]?=some b->q b=false)/\∃b,l[k]?=some b/\q b=true)):=by
 unfold zd2 zeR;rcases zks l h p q hp (zeQ l p) (λi=>rfl)with⟨c,a⟩ |⟨k,c,r⟩
 ·rw[c];exact⟨-1,rfl,.inl ⟨rfl,a⟩⟩
 ·rw[c];exact⟨k,rfl,.inr ⟨k,rfl,r⟩⟩
def zvq(l:List Plc)(h:l.length<=2000000)(p:Plc->Option Bool)(q:Plc->Bool)(hp:∀b∈l,p b=some (q b)):
  zdo l p=some (l.filter λb=>!q b):=by
 obtain⟨i,hi,u⟩:=zvl l h p q hp;unfold zdo;simp only[hi,ic];rcases u with⟨rfl,e⟩ |⟨k,rfl,hk,hlow,b,g,hq⟩
 ·rw[if_pos si];congr 1;symm;rw[cj];intro b g;rw[e b g];rfl
 ·rw[if_neg si];have x:w64 ((k:Int)+1)=(k:Int)+1:=zu om om;rw[x];have key:=zz (F:=zbJ p) (λs=>(k:Int)<s.2.2/\s.2.2<=l.length/\s.1.length=l.length/\0<=s.2.1/\s.2.1<s.2.2/\s.1.take s.2.1.toNat=(l.take s.2.2.toNat).filter (λb=>!q b)/\∀j,s.2.2.toNat<=j->s.1[j]?=l[j]?)
   (λs=>(l.length - s.2.2).toNat) (λz=>z.1.length=l.length/\0<=z.2/\z.2<=l.length/\z.1.take z.2.toNat=l.filter (λb=>!q b)) ?_ (l,(k:Int),(k:Int)+1) ?_
  ·obtain⟨⟨y,m⟩,G,E,C,J,A⟩:=key;simp only at E C J A;rw[G];simp only[ic];unfold zep;have L:clr y m ((0,0),0)=some (y.take m.toNat++List.replicate (y.length - m.toNat) ((0,0),0)):=by unfold clr;rw[if_pos ⟨by omega,by omega⟩]
   have I:(y.take m.toNat).length=m.toNat:=by rw[ey];omega
   have hs:zlK (y.take m.toNat++List.replicate (y.length - m.toNat) ((0,0),0)) 0 m=some (y.take m.toNat):=by
    unfold zlK;rw[if_pos ⟨by omega,by omega,by rw[dy,I,ek];omega⟩];simp only[Int.toNat_zero,List.drop_zero];rw[List.take_append_of_le_length om,gg om]
   rw[L];simp only[ic,hs];rw[A]
  ·rintro⟨y,m,j⟩ ⟨g1,g2,g3,g4,g5,g6,g7⟩;simp only at g1 g2 g3 g4 g5 g6 g7;obtain⟨j,rfl⟩:=bf (show 0<=j by omega);obtain⟨m,rfl⟩:=bf g4;simp only[bg]at g6 g7;unfold zbJ zbK;by_cases d:j<l.length
   ·left;have c:l[j]?=some l[j]:=cz d;have f:y[j]?=some l[j]:=by rw[g7 j (gl _)];exact c
    have t:=hp l[j] (dx d);have H:w64 ((j:Int)+1)=(j:Int)+1:=zu om om;have n:w64 ((m:Int)+1)=(m:Int)+1:=zu om om;have w:y[m]?=some y[m]:=cz om;have a:((j:Int)+1).toNat=j+1:=by omega
    have r:((m:Int)+1).toNat=m+1:=by omega
    rw[if_pos so];simp only[zq f,ic,t,H,n,zq w,bg];cases hq:q l[j]with
    | false=>
     rw[if_pos si];refine⟨_,rfl,⟨by simp only[];omega,by simp only[];omega,by simp only[ep];exact g3,by simp only[];omega,by simp only[];omega,?_,λi hi=>?_⟩,by simp only[];omega⟩
     ·simp only[a,r];rw[gc,zU om,gc,c,ce,List.take_set_of_le om,g6];simp[hq]
     ·simp only[a]at hi ⊢;rw[zL om];exact g7 i om
    | true=>
     rw[if_neg si];refine⟨_,rfl,⟨by simp only[];omega,by simp only[];omega,g3,by simp only[];omega,by simp only[];omega,?_,λi hi=>?_⟩,by simp only[];omega⟩
     ·simp only[a,bg];rw[g6,gc,c,ce];simp[hq]
     ·simp only[a]at hi ⊢;exact g7 i om
   ·right;rw[if_neg so];refine⟨_,rfl,g3,by simp only[];omega,by simp only[];omega,?_⟩;simp only[bg];rw[g6,show j=l.length by omega,gd]
  ·refine⟨by simp only[];omega,by simp only[];omega,rfl,by simp only[];omega,by simp only[];omega,?_,λj B=>rfl⟩;simp only[bg];rw[show((k:Int)+1).toNat=k+1 by omega,gc,g,ce,zpk λj D B v=>by rw[hlow j D B v];rfl];simp[hq]
def sh(d:Int):Int:=if d=0 then 1 else if d=1 then 2 else if d=2 then 4 else 8
def bt(b:Bool)(v:Int):Int:=if b then v else 0
def mk4(b:Int->Bool):Int:=bt (b 0) 1+bt (b 1) 2+bt (b 2) 4+bt (b 3) 8
def zyQ{d:Int}(hd:Dir d):zya .i64 1 d=some (sh d):=by rcases hd with rfl | rfl | rfl | rfl<;>rfl
def zAD{d:Int}(hd:Dir d):1<=sh d/\sh d<=8:=by rcases hd with rfl | rfl | rfl | rfl<;>exact⟨by decide,by decide⟩
def zCh(b:Int->Bool){d:Int}(hd:Dir d):(zxb .i64 (mk4 b) d).map (λv=>decide (zvp .i64 v 1=1))=some (b d):=by
 unfold mk4;rcases hd with rfl | rfl | rfl | rfl<;>(generalize b 0=x;generalize b 1=y;generalize b 2=z;generalize b 3=u;cases x<;>cases y<;>cases z<;>cases u<;>rfl)
def zwq(b:Int->Bool){d:Int}(hd:Dir d):∃v,zxb .i64 (mk4 b) d=some v/\decide (zvp .i64 v 1=1)=b d:=by
 have h:=zCh b hd;cases hv:zxb .i64 (mk4 b) d with
 | none=>rw[hv]at h;cases h
 | some v=>rw[hv]at h;exact⟨v,rfl,Option.some.inj h⟩
def zy7(b:Int->Bool){d:Int}(hd:Dir d):zp8 (mk4 b) d=some (b d):=by
 obtain⟨v,a,c⟩:=zwq b hd;unfold zp8;rw[a,ic,c]
def orb(b:Bool)(m s:Int):Int:=if b then ior .i64 m s else m
def zA2(b:Int->Bool):orb (b 3) (orb (b 2) (orb (b 1) (orb (b 0) 0 (sh 0)) (sh 1)) (sh 2)) (sh 3)=mk4 b:=by
 unfold mk4;generalize b 0=x;generalize b 1=y;generalize b 2=z;generalize b 3=u;cases x<;>cases y<;>cases z<;>cases u<;>rfl
def zzf(b:Int->Bool):0+bt (b 0) (sh 0)+bt (b 1) (sh 1)+bt (b 2) (sh 2)+bt (b 3) (sh 3)=mk4 b:=by
 unfold mk4;generalize b 0=x;generalize b 1=y;generalize b 2=z;generalize b 3=u;cases x<;>cases y<;>cases z<;>cases u<;>rfl
def zu5(b:Bool){d:Int}(hd:Dir d):0<=bt b (sh d)/\bt b (sh d)<=8:=by
 have:=zAD hd;unfold bt;split<;>omega
section
variable {set:TSet} {T ts:List Plc}
def bT(set:TSet)(T:List Plc)(o:Plc)(d:Int):Bool:=decide (bdQ set (cat T) o.1 o.2 d>0)
def zyh(hS:SetOk set)(h:Cr set T ts){s0:List Plc}{t:Int}{O:List (Pt×List Int)}{o:Plc}(hp:ptB o.1=true)(hk:TileIx set o.2)(i:Int)(ms ss:List Int):
  iter (zhp (set,s0,t) (i,ms,ss,((set,s0,t),T,O)) o) (0,0,0)=some (mk4 (bT set T o),zqf set (cat T) o.1 o.2):=by
 have step:∀(d g m s f:Int),Dir d->g=d+1->0<=s->s<=1000->f=s+bdQ set (cat T) o.1 o.2 d->zhp (set,s0,t) (i,ms,ss,((set,s0,t),T,O)) o (m,s,d)=some (.inl (orb (bT set T o d) m (sh d),f,g)):=by
  intro d g m s f hd c v k hs';obtain⟨p,_,l⟩:=zpl hd;have w:=zm2 hS h.fok o.1 hk hd;unfold zhp zjK;rw[if_pos (by simpa using p),(zgs hp hd).2];simp only[ic];unfold zfP;simp only[ic];unfold bT orb;have a:bdQ set (cat T) o.1 o.2 d=if cat T (zD o.1 d)≥0 then zsz set o.2 d (cat T (zD o.1 d))else 0:=rfl;by_cases b:cat T (zD o.1 d)≥0
  ·have j:TileIx set (cat T (zD o.1 d)):=by
    rcases h.fok (zD o.1 d)with k | k
    ·omega
    ·exact k
   rw[if_pos b]at a;rw[if_pos (by simpa using b),(zqg hS hk j hd).2.1];simp only[ic];rw[←a];by_cases e:bdQ set (cat T) o.1 o.2 d>0
   ·rw[if_pos (by simpa using e),zyQ hd,if_pos (by simpa using e),zu (n:=s+_) om om,l,hs',c];rfl
   ·rw[if_neg (by simpa using e),if_neg (by simpa using e),l,hs',c];rw[show s+bdQ set (cat T) o.1 o.2 d=s by omega]
  ·rw[if_neg b]at a;rw[if_neg (by simpa using b),a,l,hs',c,a];simp
 have r:=zm2 hS h.fok o.1 hk (d:=0) (.inl rfl);have q:=zm2 hS h.fok o.1 hk (d:=1) (.inr (.inl rfl));have u:=zm2 hS h.fok o.1 hk (d:=2) (.inr (.inr (.inl rfl)));rw[zv (step 0 1 0 0 _ (.inl rfl) rfl om om rfl),zv (step 1 2 _ _ _ (.inr (.inl rfl)) rfl om om rfl),zv (step 2 3 _ _ _ (.inr (.inr (.inl rfl))) rfl om om rfl),zv (step 3 4 _ _ _ (.inr (.inr (.inr rfl))) rfl om om rfl),zA2];refine zC ?_;unfold zhp zqf;rw[if_neg si];simp
def zww(hS:SetOk set)(h:Cr set T ts){s0:List Plc}{t:Int}{o:Plc}(hp:ptB o.1=true)(hk:TileIx set o.2)(i:Int)(ms ss:List Int):
  iter (zb7 (set,s0,t) (ms,ss,i,ts) o) (0,0)=some (mk4 (bT set T o)):=by
 have step:∀(d f m:Int),Dir d->f=d+1->0<=m->m<=1000->zb7 (set,s0,t) (ms,ss,i,ts) o (m,d)=some (.inl (m+bt (bT set T o d) (sh d),f)):=by
  intro d f m hd c u j;obtain⟨l,_,k⟩:=zpl hd;have p:=zAD hd;unfold zb7 zf9 zga;rw[if_pos (by simpa using l),(zgs hp hd).1];simp only[ic];rw[(h.at _).1];simp only[ic];unfold bT bt;have b:bdQ set (cat T) o.1 o.2 d=if cat T (zD o.1 d)≥0 then zsz set o.2 d (cat T (zD o.1 d))else 0:=rfl;by_cases a:cat T (zD o.1 d)≥0
  ·have g:TileIx set (cat T (zD o.1 d)):=by
    rcases h.fok (zD o.1 d)with j | j
    ·omega
    ·exact j
   rw[if_pos a]at b;rw[if_pos (by simpa using a),(zqg hS hk g hd).1];simp only[ic];rw[←b];by_cases e:bdQ set (cat T) o.1 o.2 d>0
   ·rw[if_pos (by simpa using e),zyQ hd,if_pos (by simpa using e)];simp only[ic];rw[zu (n:=m+_) om om,k,c]
   ·rw[if_neg (by simpa using e),if_neg (by simpa using e),k,c,Int.add_zero]
  ·rw[if_neg a]at b;rw[if_neg (by simpa using a),b,k,c];simp
 have r:=zu5 (bT set T o 0) (d:=0) (.inl rfl);have q:=zu5 (bT set T o 1) (d:=1) (.inr (.inl rfl));have s:=zu5 (bT set T o 2) (d:=2) (.inr (.inr (.inl rfl)));rw[zv (step 0 1 0 (.inl rfl) rfl om om),zv (step 1 2 _ (.inr (.inl rfl)) rfl om om),zv (step 2 3 _ (.inr (.inr (.inl rfl))) rfl om om),zv (step 3 4 _ (.inr (.inr (.inr rfl))) rfl om om),zzf];refine zC ?_;unfold zb7;rw[if_neg si]
def oI(seq:List Plc)(i:Nat):Plc:=(seq[i]?).getD ((0,0),0)
def TI(T0 seq:List Plc)(i:Nat):List Plc:=plT (seq.take i) T0
def bI(set:TSet)(T0 seq:List Plc)(i:Nat)(d:Int):Bool:=bT set (TI T0 seq i) (oI seq i) d
def mI(set:TSet)(T0 seq:List Plc)(i:Nat):Int:=mk4 (bI set T0 seq i)
def sI(set:TSet)(T0 seq:List Plc)(i:Nat):Int:=zqf set (cat (TI T0 seq i)) (oI seq i).1 (oI seq i).2
def zsG{α:Type}{l:List α}{i:Nat}{x:α}(h:l[i]?=some x):l.take (i+1)=l.take i++[x]:=by rw[gc,h];rfl
def zf2{t:Int}{seq T0:List Plc}(hp:Played set t T0 seq){i:Nat}{o:Plc}(hi:seq[i]?=some o):
  oI seq i=o/\TileIx set o.2/\zn8 set t (TI T0 seq i) o.1 o.2=true/\(TI T0 seq i).length<500/\TI T0 seq (i+1)=zbX (TI T0 seq i) o.1 o.2/\plS (seq.take (i+1)) T0=ins (o.1,o.2) (plS (seq.take i) T0)/\ptB o.1=true/\cat (TI T0 seq i) o.1<0:=by
 have b:=zpT (i+1) hp;rw[zsG hi]at b;obtain⟨_,d,c,e⟩:=znl.1 b;have a:=c;unfold zn8 at a;simp only[aw,decide_eq_true_eq]at a;refine⟨by unfold oI;rw[hi];rfl,d,c,e,by unfold TI;rw[zsG hi,zxl],by rw[zsG hi,zxm],a.1.1,a.1.2⟩
def zdf{t:Int}{seq T0:List Plc}(hc:Cr set T0 T0)(hp:Played set t T0 seq)(i:Nat):Cr set (TI T0 seq i) (plS (seq.take i) T0):=zqm hc (zpT i hp)
def zzS(hS:SetOk set)(hA:AsmOk set ts){t:Int}{seq:List Plc}(hlen:seq.length<=500)(hp:Played set t ts seq):
  zi0 (set,ts,t) seq=some ((List.range seq.length).map (mI set ts seq),(List.range seq.length).map (sI set ts seq)):=by
 have m:=zk9 hA;have h:=hA.1.1;have j:zdU ts=some ts:=by unfold zdU;rw[zai so so];rfl
 unfold zi0;simp only;rw[j];simp only[ic];have key:=zz (F:=zdK (set,ts,t) seq) (λs=>∃i:Nat,i<=seq.length/\s=((List.range i).map (mI set ts seq),(List.range i).map (sI set ts seq),(i:Int),plS (seq.take i) ts)) (λs=>(seq.length - s.2.2.1).toNat)
  (λz=>z=((List.range seq.length).map (mI set ts seq),(List.range seq.length).map (sI set ts seq))) ?_ ([],[],0,ts) ⟨0,by omega,rfl⟩
 ·obtain⟨z,n,rfl⟩:=key;rw[n];rfl
 ·rintro s ⟨i,hi,rfl⟩;by_cases c:i<seq.length
  ·left;have f:seq[i]?=some seq[i]:=cz c;generalize seq[i]=o at f;obtain⟨k,g,p,r,u,l,b,e⟩:=zf2 hp f;have a:=zdf m hp i;have q:=a.len;unfold zdK ziZ;rw[if_pos so];simp only[zq f,ic];rw[zww hS a b g];simp only[ic];rw[zai so so];simp only[ic];rw[zrK hS a.fok b (λd _=>(a.at _).1) g];simp only[ic];rw[zai so so];simp only[ic];rw[zw3 _ om];simp only[ic];refine⟨_,rfl,⟨i+1,by omega,?_⟩,?_⟩
   ·rw[zu om om,fz,fa,fa,l];unfold mI bI sI;rw[←k];rfl
   ·simp only;rw[zu om om];omega
  ·right;have:i=seq.length:=by omega
   subst this;unfold zdK;rw[if_neg si];exact⟨_,rfl,rfl⟩
def zB6(hS:SetOk set)(hA:AsmOk set ts){t:Int}{seq:List Plc}(hlen:seq.length<=500)(hp:Played set t ts seq):
  iter (zhq (set,ts,t) seq) (0,[],[],(set,ts,t),ts,ncO set t ts)=some ((List.range seq.length).map (mI set ts seq),(List.range seq.length).map (sI set ts seq)):=by
 have l:=zk9 hA;have key:=zz (F:=zhq (set,ts,t) seq) (λs=>∃i:Nat,i<=seq.length/\∃O,s=((i:Int),(List.range i).map (mI set ts seq),(List.range i).map (sI set ts seq),(set,ts,t),TI ts seq i,O)) (λs=>(seq.length - s.1).toNat)
  (λz=>z=((List.range seq.length).map (mI set ts seq),(List.range seq.length).map (sI set ts seq))) ?_ (0,[],[],(set,ts,t),ts,ncO set t ts) ⟨0,by omega,_,rfl⟩
 ·obtain⟨z,n,rfl⟩:=key;exact n
 ·rintro s ⟨i,hi,O,rfl⟩;by_cases b:i<seq.length
  ·left;have e:seq[i]?=some seq[i]:=cz b;generalize seq[i]=o at e;obtain⟨j,g,h,k,m,p,f,d⟩:=zf2 hp e;have a:=zdf l hp i;have c:(plS (seq.take i) ts).length<500:=by rw[←a.perm.length_eq];exact k
   unfold zhq zoY;rw[if_pos so];simp only[zq e,ic];rw[zyh hS a f g];simp only[ic];rw[zai so so];simp only[ic];rw[zai so so];simp only[ic];rw[zAT hS a h g c];simp only[ic];refine⟨_,rfl,⟨i+1,by omega,laO set t (zbX (TI ts seq i) o.1 o.2) (zmG O o.1) o.1,?_⟩,?_⟩
   ·rw[zu om om,fz,fa,fa,m];unfold mI bI sI;rw[←j];rfl
   ·simp only;rw[zu om om];omega
  ·right;have:i=seq.length:=by omega
   subst this;unfold zhq;rw[if_neg si];exact⟨_,rfl,rfl⟩
end
section
variable {set:TSet} {T ts:List Plc}
def ztp(a b:Pt):(decide (a.1=b.1)&&decide (a.2=b.2))=decide (a=b):=by
 rw[ax];simp[Prod.ext_iff]
def zwM{n:Nat}{f:Nat->Bool}:(List.range n).any f=true↔∃j,j<n/\f j=true:=by
 rw[bj];exact⟨λ⟨j,h,hf⟩=>⟨j,fp.1 h,hf⟩,λ⟨j,h,hf⟩=>⟨j,fp.2 h,hf⟩⟩
def zfn{seq:List Plc}{i:Nat}(h:i<seq.length):seq[i]?=some (oI seq i):=by
 unfold oI;rw[cz h];rfl
section
variable {t:Int} {seq:List Plc} (hA:AsmOk set ts) (hp:Played set t ts seq)
include hA hp
theorem zyO{i:Nat}{o:Plc}(hi:seq[i]?=some o):TI ts seq (i+1)=TI ts seq i++[(o.1,o.2)]:=by
 obtain⟨h,c,d,e,f,j,g,b⟩:=zf2 hp hi;have a:=zdf (zk9 hA) hp i;rw[f];exact(a.put d c (by rw[←a.perm.length_eq];exact e)).2
theorem zt0{i:Nat}{x:Plc}(hx:x∈TI ts seq i):∀r,i+r<=seq.length->x∈TI ts seq (i+r)
 | 0,_=>hx
 | r+1,h=>by
  have hi:seq[i+r]?=some (seq[i+r]'om):=cz om;rw[←Nat.add_assoc,zyO hA hp hi];exact fg _ (zt0 hx r om)
theorem zv8{i:Nat}{o:Plc}(hi:seq[i]?=some o):∀x∈TI ts seq i,x.1≠o.1:=by
 obtain⟨g,e,f,j,k,h,d,a⟩:=zf2 hp hi;have b:=zdf (zk9 hA) hp i;exact λx c=>b.free.1 a x (b.perm.mem_iff.1 c)
theorem zC8{i j:Nat}{o o':Plc}(hi:seq[i]?=some o)(hj:seq[j]?=some o')(h:i<j):o.1≠o'.1:=by
 have b:(o.1,o.2)∈TI ts seq (i+1):=by rw[zyO hA hp hi];simp
 have a:=zt0 hA hp b (j - (i+1)) (by have:=zA hj;omega);rw[show i+1+(j - (i+1))=j by omega]at a;exact zv8 hA hp hj _ a
theorem zCM{i j:Nat}(h:i<j)(hj:j<seq.length):(oI seq i).1≠(oI seq j).1:=zC8 hA hp (zfn om) (zfn hj) h
theorem zuv{i j:Nat}(hi:i<seq.length)(hj:j<seq.length)(h:(oI seq i).1=(oI seq j).1):i=j:=by
 rcases gv i j with h1 | h1 | h1
 ·exact absurd h (zCM hA hp h1 hj)
 ·exact h1
 ·exact absurd h.symm (zCM hA hp h1 hi)
end
def bO(set:TSet)(T0 seq:List Plc)(i:Nat)(d:Int):Bool:=
 (List.range seq.length).any λk=>decide (i<k)&&decide ((oI seq k).1=zD (oI seq i).1 d)&&bI set T0 seq k (zmF d)
def mO(set:TSet)(T0 seq:List Plc)(i:Nat):Int:=mk4 (bO set T0 seq i)
def zuC{n i:Nat}(f:Nat->Int)(h:i<n):idx ((List.range n).map f) (i:Int)=some (f i):=zq (by rw[dh,dl h];rfl)
section
variable {t:Int} {seq:List Plc} (hA:AsmOk set ts) (hlen:seq.length<=500) (hp:Played set t ts seq)
include hA hlen hp
theorem zDh{q:Pt}{d mm:Int}(hd:Dir d):∀(r k:Nat)(m:Int),k+r=seq.length->0<=m->m<=100->
  iter (zP seq ((List.range seq.length).map (mI set ts seq)) (mm,d) q) (m,(k:Int))=some (m+bt ((List.range seq.length).any λj=>decide (k<=j)&&decide ((oI seq j).1=q)&&bI set ts seq j (zmF d)) (sh d)):=by
 intro r;have E:=zAD hd
 induction r with
 | zero=>
  intro k m z x p;refine zC ?_;unfold zP;rw[if_neg so];have:((List.range seq.length).any λj=>decide (k<=j)&&decide ((oI seq j).1=q)&&bI set ts seq j (zmF d))=false:=by
   refine Bool.eq_false_iff.2 λh=>?_;obtain⟨j,e,b⟩:=zwM.1 h;simp only[aw,decide_eq_true_eq]at b;omega
  rw[this];simp[bt]
 | succ r ih=>
  intro k m z x p;have a:k<seq.length:=by omega
  have B:w64 ((k:Int)+1)=((k+1:Nat):Int):=by rw[zu om om];omega
  by_cases f:(oI seq k).1=q
  ·have w:((List.range seq.length).any λj=>decide (k+1<=j)&&decide ((oI seq j).1=q)&&bI set ts seq j (zmF d))=false:=by
    refine Bool.eq_false_iff.2 λh=>?_;obtain⟨j,e,b⟩:=zwM.1 h;simp only[aw,decide_eq_true_eq]at b;have:=zuv hA hp a e (by rw[f,b.1.2]);omega
   have n:((List.range seq.length).any λj=>decide (k<=j)&&decide ((oI seq j).1=q)&&bI set ts seq j (zmF d))=bI set ts seq k (zmF d):=by
    rw[ax,zwM];constructor
    ·rintro⟨j,e,b⟩;simp only[aw,decide_eq_true_eq]at b;have:=zuv hA hp a e (by rw[f,b.1.2]);subst this;exact b.2
    ·intro h;exact⟨k,a,by simp[f,h]⟩
   obtain⟨v,u,y⟩:=zwq (bI set ts seq k) (zsu hd);have C:=zu5 (bI set ts seq k (zmF d)) hd;have c:zP seq ((List.range seq.length).map (mI set ts seq)) (mm,d) q (m,(k:Int))=some (.inl (m+bt (bI set ts seq k (zmF d)) (sh d),((k+1:Nat):Int))):=by
    unfold zP zbv zbw;rw[if_pos so];simp only[zq (zfn a),ic];rw[ztp,if_pos (by simpa using f),zuC _ a];simp only[ic];rw[(zwm hd).1];simp only[ic];unfold mI;rw[u];simp only[ic];rw[y,B];cases s:bI set ts seq k (zmF d)with
    | true=>
     rw[if_pos rfl,zyQ hd];simp only[ic];rw[zu om om];rfl
    | false=>
     rw[if_neg si];simp[bt]
   rw[zv c];unfold bt at C;by_cases s:bI set ts seq k (zmF d)=true
   ·
    have g:∀(r k:Nat)(m:Int),k+r=seq.length->(∀j,k<=j->j<seq.length->(oI seq j).1≠q)->iter (zP seq ((List.range seq.length).map (mI set ts seq)) (mm,d) q) (m,(k:Int))=some m:=by
     intro r
     induction r with
     | zero=>
      intro k m z _;refine zC ?_;unfold zP;rw[if_neg so]
     | succ r ih2=>
      intro k m z i;have a:k<seq.length:=by omega
      have A:zP seq ((List.range seq.length).map (mI set ts seq)) (mm,d) q (m,(k:Int))=some (.inl (m,((k+1:Nat):Int))):=by
       unfold zP zbv zbw;rw[if_pos so];simp only[zq (zfn a),ic];rw[ztp,if_neg (by simpa using i k (gl _) a),if_neg si];rw[show w64 ((k:Int)+1)=((k+1:Nat):Int) by rw[zu om om];omega]
      rw[zv A];exact ih2 _ _ om λj p t=>i j om t
    rw[g r (k+1) _ om λj p t D=>by have:=zuv hA hp a t (by rw[f,D]);omega,n]
   ·have l:bI set ts seq k (zmF d)=false:=by simpa using s
    rw[l];show iter _ (m+0,_)=_;rw[Int.add_zero,ih (k+1) m om x p,w,n,l]
  ·have c:zP seq ((List.range seq.length).map (mI set ts seq)) (mm,d) q (m,(k:Int))=some (.inl (m,((k+1:Nat):Int))):=by
    unfold zP zbv zbw;rw[if_pos so];simp only[zq (zfn a),ic];rw[ztp,if_neg (by simpa using f),if_neg si,B]
   rw[zv c,ih (k+1) m om x p];congr 2;congr 1;rw[ax,zwM,zwM];constructor
   ·rintro⟨j,e,b⟩;simp only[aw,decide_eq_true_eq]at b;exact⟨j,e,by simp only[aw,decide_eq_true_eq];exact⟨⟨by omega,b.1.2⟩,b.2⟩⟩
   ·rintro⟨j,e,b⟩;simp only[aw,decide_eq_true_eq]at b;refine⟨j,e,?_⟩;simp only[aw,decide_eq_true_eq];refine⟨⟨?_,b.1.2⟩,b.2⟩;rcases gt k j with h | h
    ·exact h
    ·have:j=k:=by omega
     subst this;exact absurd b.1.2 f
theorem zDi{i:Nat}(hi:i<seq.length)(acc:List Int):iter (zbu seq ((List.range seq.length).map (mI set ts seq)) (acc,(i:Int))) (0,0)=some (mO set ts seq i):=by
 obtain⟨_,_,_,_,_,_,c,_⟩:=zf2 hp (zfn hi);have step:∀(d b m:Int),Dir d->b=d+1->0<=m->m<=100->zbu seq ((List.range seq.length).map (mI set ts seq)) (acc,(i:Int)) (m,d)=some (.inl (m+bt (bO set ts seq i d) (sh d),b)):=by
  intro d b m hd a j g;obtain⟨f,_,h⟩:=zpl hd;unfold zbu ziv;rw[if_pos (by simpa using f)];simp only[zq (zfn hi),ic];rw[(zgs c hd).1];simp only[ic];have e:w64 ((i:Int)+1)=((i+1:Nat):Int):=by rw[zu om om];omega
  rw[e,zDh hA hlen hp hd (seq.length - (i+1)) (i+1) m om j g];simp only[ic];rw[h,a];rfl
 have l:=zu5 (bO set ts seq i 0) (d:=0) (.inl rfl);have k:=zu5 (bO set ts seq i 1) (d:=1) (.inr (.inl rfl));have n:=zu5 (bO set ts seq i 2) (d:=2) (.inr (.inr (.inl rfl)));rw[zv (step 0 1 0 (.inl rfl) rfl om om),zv (step 1 2 _ (.inr (.inl rfl)) rfl om om),zv (step 2 3 _ (.inr (.inr (.inl rfl))) rfl om om),zv (step 3 4 _ (.inr (.inr (.inr rfl))) rfl om om),zzf];refine zC ?_;unfold zbu;rw[if_neg si];rfl
theorem zyj:zia seq ((List.range seq.length).map (mI set ts seq))=some ((List.range seq.length).map (mO set ts seq)):=by
 unfold zia;have key:=zz (F:=zda seq ((List.range seq.length).map (mI set ts seq))) (λs=>∃i:Nat,i<=seq.length/\s=((List.range i).map (mO set ts seq),(i:Int))) (λs=>(seq.length - s.2).toNat)
  (λz=>z=(List.range seq.length).map (mO set ts seq)) ?_ ([],0) ⟨0,by omega,rfl⟩
 ·obtain⟨z,b,rfl⟩:=key;rw[b];rfl
 ·rintro s ⟨i,hi,rfl⟩;by_cases a:i<seq.length
  ·left;unfold zda ziw;rw[if_pos so,zDi hA hlen hp a];simp only[ic];rw[zai so so];simp only[ic];refine⟨_,rfl,⟨i+1,by omega,?_⟩,?_⟩
   ·rw[zu om om,fz,fa];rfl
   ·simp only;rw[zu om om];omega
  ·right;have:i=seq.length:=by omega
   subst this;unfold zda;rw[if_neg si];exact⟨_,rfl,rfl⟩
theorem zBk{p0:Sy}{fin sl:List _}{i:Nat}(hi:i<seq.length):zey (p0,seq,fin,(List.range seq.length).map (mI set ts seq),sl) (i:Int)=some (mO set ts seq i):=by
 obtain⟨_,_,_,_,_,_,s,_⟩:=zf2 hp (zfn hi);have step:∀(d l m:Int),Dir d->l=d+1->za8 (p0,seq,fin,(List.range seq.length).map (mI set ts seq),sl) (i:Int) (m,d)=some (.inl (orb (bO set ts seq i d) m (sh d),l)):=by
  intro d l m hd c;obtain⟨v,_,n⟩:=zpl hd;unfold za8 zcP zcQ;rw[if_pos (by simpa using v)];simp only[zq (zfn hi),ic];rw[(zgs s hd).2];simp only[ic];unfold zhO;simp only;obtain⟨r,w,p⟩:=zvj seq om (λq0=>zcR q0 (zD (oI seq i).1 d)) (λx=>decide (x.1=zD (oI seq i).1 d)) (λb _=>by unfold zcR;rw[ztp]);rw[w];simp only[ic];rcases p with⟨rfl,f⟩ |⟨k,rfl,hk,hlow,b,hb,hq⟩
  ·have:bO set ts seq i d=false:=by
    refine Bool.eq_false_iff.2 λh=>?_;obtain⟨j,g,a⟩:=zwM.1 h;simp only[aw,decide_eq_true_eq]at a;have u:=f _ (fo (zfn g));simp only[decide_eq_false_iff_not]at u;exact u a.1.2
   rw[if_neg si,if_neg si,this,n,c];rfl
  ·have q:oI seq k=b:=by unfold oI;rw[hb];rfl
   have e:(oI seq k).1=zD (oI seq i).1 d:=by rw[q];simpa using hq
   by_cases t:i<k
   ·have:bO set ts seq i d=bI set ts seq k (zmF d):=by
     unfold bO;rw[ax,zwM];constructor
     ·rintro⟨j,g,a⟩;simp only[aw,decide_eq_true_eq]at a;have:=zuv hA hp hk g (by rw[e,a.1.2]);subst this;exact a.2
     ·intro h;exact⟨k,hk,by simp[e,h,t]⟩
    rw[if_pos so,zuC _ hk];simp only[ic];rw[(zwm hd).2.1];simp only[ic];unfold mI;rw[zy7 _ (zsu hd)];simp only[ic];rw[←this,n,c];cases hbb:bO set ts seq i d with
    | true=>rw[if_pos rfl,zyQ hd];rfl
    | false=>rw[if_neg si];rfl
   ·have:bO set ts seq i d=false:=by
     refine Bool.eq_false_iff.2 λh=>?_;obtain⟨j,g,a⟩:=zwM.1 h;simp only[aw,decide_eq_true_eq]at a;have:=zuv hA hp hk g (by rw[e,a.1.2]);omega
    rw[if_neg so,if_neg si,this,n,c];rfl
 unfold zey zfp;rw[zv (step 0 1 0 (.inl rfl) rfl),zv (step 1 2 _ (.inr (.inl rfl)) rfl),zv (step 2 3 _ (.inr (.inr (.inl rfl))) rfl),zv (step 3 4 _ (.inr (.inr (.inr rfl))) rfl),zA2];rw[zC (x:=mk4 (bO set ts seq i)) (by unfold za8;rw[if_neg si])];rfl
end
end
section
variable {set:TSet} {T ts:List Plc}
def zCn{ts:List Plc}(hs:Srt ts)(hl:ts.length<=1048576)(p:Pt):∃(k:Nat)(b:Bool),zab ts p (λq0 f=>z8 q0 f)=some ((k:Int),b)/\((b=true/\∃x,ts[k]?=some x/\x.1=p)\/(b=false/\∀x∈ts,x.1≠p)):=by
 have i:∀x:Plc,z8 x p=some (zxW x.1 p):=λx=>by unfold z8;rw[zuP];rfl
 have key:=zyG hs hl (p:=p) (F:=zK ts p λq0 f=>z8 q0 f) ?_ ?_
 ·obtain⟨k,s,t,h,g⟩:=key;unfold zab zau;simp only[s,ic];by_cases c:k<ts.length
  ·have d:ts[k]?=some ts[k]:=cz c;rw[if_pos (by simp[c])];simp only[zq d,ic,i];by_cases e:ts[k].1=p
   ·exact⟨k,true,by simp[zqs,e],.inl ⟨rfl,_,d,e⟩⟩
   ·exact⟨k,false,by simp[zqs,e],.inr ⟨rfl,zti hs h g λx a=>by rw[d]at a;injection a with a;subst a;exact e⟩⟩
  ·rw[if_neg so];exact⟨k,false,rfl,.inr ⟨rfl,zti hs h g λx a=>by have:=zA a;omega⟩⟩
 ·intro lo hi x c q d;unfold zK;have l:w64 ((lo:Int)+(hi:Int))=((lo+hi:Nat):Int):=by rw[zu om om];omega
  have j:IntKind.wrap .u64 ((lo+hi:Nat):Int)=((lo+hi:Nat):Int):=by
   show((lo+hi:Nat):Int) % 18446744073709551616=((lo+hi:Nat):Int);omega
  have r:Int.fdiv ((lo+hi:Nat):Int) (2 ^ 1)=(((lo+hi) / 2:Nat):Int):=by
   rw[Int.fdiv_eq_ediv_of_nonneg _ om];omega
  have m:w64 (((lo+hi) / 2:Nat):Int)=(((lo+hi) / 2:Nat):Int):=zu om om;have n:w64 ((((lo+hi) / 2:Nat):Int)+1)=(((lo+hi) / 2+1:Nat):Int):=by rw[zu om om];omega
  rw[if_pos (by simp[c])];simp only[l,j,r,m,n,zq d,ic,i,zsx];cases lp x.1 p<;>rfl
 ·intro lo;unfold zK;rw[if_neg si]
def zyq(h:Cr set T ts)(p:Pt):zfb ts p=some (cat T p):=by
 have g:=h.len;obtain⟨k,b,f,a⟩:=zCn h.pw.srt om p;unfold zfb;rw[f];simp only[ic];have c:=(zqt T p).perm h.perm;rcases a with⟨rfl,x,d,e⟩ |⟨rfl,hn⟩
 ·rw[if_pos rfl,zq d];simp only[ic];congr 1;exact AtV.uniq h.pw (.inl ⟨x.2,rfl,by rw[←e];exact fo d⟩) c
 ·rw[if_neg si];congr 1;exact AtV.uniq h.pw (.inr ⟨rfl,hn⟩) c
def Cr.sub(h:Cr set T ts)(f:Plc->Bool):Cr set (ts.filter f) (ts.filter f) where
 perm:=.refl _
 pw:=h.pw.filter f
 ok:=λx hx=>h.ok x (fi.1 hx).1
 len:=gm (ed _ _) h.len
def Cr.asm(hS:SetOk set)(h:Cr set T ts):AsmOk set ts:=by
 have g:=hS.tiles;refine⟨⟨h.len,λi hi x d=>?_⟩,λx d=>(h.ok x d).2⟩;obtain⟨a,b,c⟩:=h.ok x (fo d);exact⟨a,b,by omega,λy f e=>h.pw.srt (i - 1) i y x om e d⟩
def zor(p:Pt)(b:Int->Bool)(x:Plc):Bool:=!decide (x.1=p)&&!(b 0&&decide (x.1=zD p 0))&&!(b 1&&decide (x.1=zD p 1))&&!(b 2&&decide (x.1=zD p 2))&&!(b 3&&decide (x.1=zD p 3))
def zv2{p:Pt}(hp:ptB p=true)(b:Int->Bool)(hl:ts.length<=500):zh9 ts p (mk4 b)=some (ts.filter (zor p b)):=by
 have c:∀(i:Nat)(x:Plc)(a:List Plc),ts[i]?=some x->iter (zbt ts p (mk4 b) ((i:Int),a) x) (!decide (x.1=p),0)=some (zor p b x):=by
  intro i x a e;have step:∀(d j:Int)(r:Bool),Dir d->j=d+1->zbt ts p (mk4 b) ((i:Int),a) x (r,d)=some (.inl (r&&!(b d&&decide (x.1=zD p d)),j)):=by
   intro d j r hd f;obtain⟨n,_,m⟩:=zpl hd;obtain⟨v,h,g⟩:=zwq b hd;unfold zbt zff zfg;rw[if_pos (by simpa using n),h];simp only[ic];rw[g];cases hb:b d with
   | true=>
    rw[if_pos rfl];simp only[zq e,ic];rw[(zgs hp hd).1];simp only[ic];rw[ztp,m,f];cases hq:decide (x.1=zD p d)with
    | true=>rw[if_pos rfl];simp
    | false=>rw[if_neg si];simp
   | false=>rw[if_neg si,if_neg si,m,f];simp
  rw[zv (step 0 1 _ (.inl rfl) rfl),zv (step 1 2 _ (.inr (.inl rfl)) rfl),zv (step 2 3 _ (.inr (.inr (.inl rfl))) rfl),zv (step 3 4 _ (.inr (.inr (.inr rfl))) rfl)];refine zC ?_;unfold zbt;rw[if_neg si];rfl
 have hlen:∀(i:Nat)(l:List Plc),(l.foldl (λa x=>if zor p b x then a++[x]else a) ([]:List Plc)).length<=l.length:=λi l=>by
  have:=za1 (zor p b) (λx:Plc=>x) l [];rw[this];simp;exact ed _ _
 unfold zh9;have key:=zrb (F:=zc9 ts p (mk4 b)) ts (λa x=>if zor p b x then a++[x]else a) [] om (λa i x e k=>?_) (λa k=>?_)
 ·rw[key];simp only[ic,ziu];have:=za1 (zor p b) (λx:Plc=>x) ts [];rw[this];simp
 ·have q:=zA e;have s:a.length<=1000:=by rw[k];refine gm (hlen 0 _) ?_;rw[ey];omega
  unfold zc9;rw[if_pos so];simp only[zq e,ic];rw[ztp,c i x a e];simp only[ic];unfold zit zfh;cases zor p b x with
  | true=>
   rw[if_pos rfl];simp only[zq e,ic];rw[zai so so];rfl
  | false=>rw[if_neg si];rfl
 ·unfold zc9;rw[if_neg si]
def zxV(E:List Pt)(h:E.length<=1000)(q:Pt):zex E q=some (decide (q∈E)):=by
 unfold zex zkl zhD;rcases zks E om (λx=>some (decide (q.1=x.1)&&decide (q.2=x.2))) (λx=>decide (q=x)) (λx _=>by rw[ztp]) (zhC E q) (λi=>rfl)with⟨b,a⟩ |⟨k,b,hk,hlow,x,hx,hq⟩
 ·rw[b];have:¬q∈E:=λh=>by simpa using a q h
  simp[this]
 ·rw[b];have:q∈E:=by
   have c:q=x:=by simpa using hq
   rw[c];exact fo hx
  simp[this]
def apE(b:Bool)(E:List Pt)(q:Pt):List Pt:=if b then E++[q]else E
def zpa(b:Bool)(E:List Pt)(q:Pt):(apE b E q).length<=E.length+1:=by unfold apE;split<;>simp
def zyz(p:Pt)(b:Int->Bool):List Pt:=apE (b 3) (apE (b 2) (apE (b 1) (apE (b 0) [p] (zD p 0)) (zD p 1)) (zD p 2)) (zD p 3)
def zBv(p:Pt)(b:Int->Bool)(x:Plc):(!decide (x.1∈zyz p b))=zor p b x:=by
 unfold zyz zor apE;cases b 0<;>cases b 1<;>cases b 2<;>cases b 3<;>simp[Bool.and_assoc]
def zBw(p:Pt)(b:Int->Bool):(zyz p b).length<=5:=by
 unfold zyz;have a:=zpa (b 0) [p] (zD p 0);have c:=zpa (b 1) (apE (b 0) [p] (zD p 0)) (zD p 1);have d:=zpa (b 2) (apE (b 1) (apE (b 0) [p] (zD p 0)) (zD p 1)) (zD p 2);have e:=zpa (b 3) (apE (b 2) (apE (b 1) (apE (b 0) [p] (zD p 0)) (zD p 1)) (zD p 2)) (zD p 3);simp only[eu]at a;omega
def zv3{p:Pt}(b:Int->Bool)(hl:ts.length<=500):zds ts (zyz p b)=some (ts.filter (zor p b)):=by
 unfold zds;rw[zu2 ts om];simp only[ic];rw[zvq ts om _ (λx=>decide (x.1∈zyz p b)) (λx _=>by
  unfold zes;rw[zxV _ (by have:=zBw p b;omega)];rfl)]
 simp only[ic];congr 1;exact List.filter_congr λx _=>zBv p b x
section
variable {t:Int} {seq:List Plc} (hS:SetOk set) (hA:AsmOk set ts) (hlen:seq.length<=500) (hp:Played set t ts seq)
def ziP(set:TSet)(T0 seq:List Plc)(i:Nat):List Plc:=(plS seq T0).filter (zor (oI seq i).1 (bO set T0 seq i))
def zwN(set:TSet)(t:Int)(T0 seq:List Plc)(i:Nat)(k:Int):Prop:=k≠(oI seq i).2/\zqf set (cat (ziP set T0 seq i)) (oI seq i).1 k≥t
instance{t:Int}{T0 seq:List Plc}{i:Nat}{k:Int}:Decidable (zwN set t T0 seq i k):=inferInstanceAs (Decidable (_/\_))
include hS hA hlen hp
theorem zwg(i:Nat):Cr set (ziP set ts seq i) (ziP set ts seq i):=by
 have h:=zdf (zk9 hA) hp seq.length;rw[gd]at h;exact h.sub _
theorem zyK{i:Nat}(hi:i<seq.length){s0:List Plc}{sl:List Int}:
  ∃r,zez ((set,s0,t),seq,plS seq ts,(List.range seq.length).map (mI set ts seq),sl) (i:Int)=some r/\(r=true↔∃k,TileIx set k/\zwN set t ts seq i k):=by
 obtain⟨_,L,_,_,_,_,p,_⟩:=zf2 hp (zfn hi);have l:=zdf (zk9 hA) hp seq.length;rw[gd]at l;have j:=zwg hS hA hlen hp i;have O:=hS.tiles;unfold zez;simp only[zq (zfn hi),ic];have step:∀(d w:Int)(E:List Pt),Dir d->w=d+1->E.length<=100->zba ((set,s0,t),seq,plS seq ts,(List.range seq.length).map (mI set ts seq),sl) (i:Int) (oI seq i) (E,d)=some (.inl (apE (bO set ts seq i d) E (zD (oI seq i).1 d),w)):=by
  intro d w E hd q M;obtain⟨J,_,A⟩:=zpl hd;unfold zba zcS;rw[if_pos (by simpa using J),zBk hA hlen hp hi];simp only[ic];unfold mO;rw[zy7 _ hd];simp only[ic];unfold apE;cases bO set ts seq i d with
  | true=>
   rw[if_pos rfl,(zgs p hd).2];simp only[ic];rw[zai so so];simp only[ic];rw[A,q];rfl
  | false=>rw[if_neg si,A,q];rfl
 have D:=zpa (bO set ts seq i 0) [(oI seq i).1] (zD (oI seq i).1 0);have n:=zpa (bO set ts seq i 1) (apE (bO set ts seq i 0) [(oI seq i).1] (zD (oI seq i).1 0)) (zD (oI seq i).1 1);have v:=zpa (bO set ts seq i 2) (apE (bO set ts seq i 1) (apE (bO set ts seq i 0) [(oI seq i).1] (zD (oI seq i).1 0)) (zD (oI seq i).1 1)) (zD (oI seq i).1 2);simp only[eu]at D;rw[zv (step 0 1 _ (.inl rfl) rfl si),zv (step 1 2 _ (.inr (.inl rfl)) rfl om),zv (step 2 3 _ (.inr (.inr (.inl rfl))) rfl om),zv (step 3 4 _ (.inr (.inr (.inr rfl))) rfl om)];rw[zC (x:=zyz (oI seq i).1 (bO set ts seq i)) (by unfold zba;rw[if_neg si];rfl)];simp only[ic];unfold zfq;simp only;rw[zv3 _ l.len];simp only[ic];have key:=zz (F:=za9 ((set,s0,t),seq,plS seq ts,(List.range seq.length).map (mI set ts seq),sl) (oI seq i) (ziP set ts seq i))
  (λs=>0<=s/\s<=set.2.length/\∀k:Int,0<=k->k<s->¬zwN set t ts seq i k) (λs=>(set.2.length - s).toNat)
  (λz=>match z with | .inl _=>∀k:Int,TileIx set k->¬zwN set t ts seq i k | .inr b=>b=true/\∃k,TileIx set k/\zwN set t ts seq i k) ?_ 0 ⟨by omega,by omega,λk n v=>by omega⟩
 ·obtain⟨z,H,j⟩:=key;show ∃r,((iter (za9 _ _ (ziP set ts seq i)) 0).bind _)=some r/\_;rw[H];cases z with
  | inl u=>
   refine⟨false,rfl,?_⟩;constructor
   ·intro h;cases h
   ·rintro⟨k,n,v⟩;exact absurd v (j k n)
  | inr b=>exact⟨b,rfl,λ_=>j.2,λ_=>j.1⟩
 ·rintro k ⟨G,N,y⟩;unfold za9 zcT;simp only;by_cases C:k<set.2.length
  ·rw[if_pos so];have m:TileIx set k:=⟨G,by omega⟩;have B:w64 (k+1)=k+1:=zu om om;have f:¬zwN set t ts seq i k->(0<=k+1/\k+1<=set.2.length/\∀e:Int,0<=e->e<k+1->¬zwN set t ts seq i e)/\((set.2.length:Int) - (k+1)).toNat<((set.2.length:Int) - k).toNat:=by
    intro c;refine⟨⟨by omega,by omega,λe n v=>?_⟩,by omega⟩;by_cases I:e=k
    ·subst I;exact c
    ·exact y e n om
   by_cases a:k=(oI seq i).2
   ·left;rw[if_neg (by simp[a]),if_neg si,B];exact⟨_,rfl,f λc=>c.1 a⟩
   ·rw[if_pos (by simp[a]),zsl hS j.fok p (g:=λq0=>zfb (ziP set ts seq i) q0) (λd _=>zyq j _) m];simp only[ic];by_cases c:zqf set (cat (ziP set ts seq i)) (oI seq i).1 k≥t
    ·right;rw[if_pos (by simpa using c)];exact⟨_,rfl,rfl,k,m,a,c⟩
    ·left;rw[if_neg (by simpa using c),B];exact⟨_,rfl,f λh=>c h.2⟩
  ·right;rw[if_neg so];exact⟨_,rfl,λe h=>y e h.1 (by have:=h.2;omega)⟩
theorem zAd{i:Nat}(hi:i<seq.length):sI set ts seq i<=zqf set (cat (ziP set ts seq i)) (oI seq i).1 (oI seq i).2:=by
 obtain⟨_,u,_,_,_,_,x,_⟩:=zf2 hp (zfn hi);have w:=zdf (zk9 hA) hp i;have h:=zdf (zk9 hA) hp seq.length;have t:=zwg hS hA hlen hp i;have one:∀d,Dir d->bdQ set (cat (TI ts seq i)) (oI seq i).1 (oI seq i).2 d<=bdQ set (cat (ziP set ts seq i)) (oI seq i).1 (oI seq i).2 d:=by
  intro d hd;have z:=zm2 hS t.fok (oI seq i).1 u hd;by_cases c:cat (TI ts seq i) (zD (oI seq i).1 d)≥0
  ·rcases zqt (TI ts seq i) (zD (oI seq i).1 d)with⟨v,ev,p⟩ |⟨e,_⟩
   ·have l:(zD (oI seq i).1 d,v)∈TI ts seq seq.length:=by
     have:=zt0 hA hp p (seq.length - i) om
     rwa [show i+(seq.length - i)=seq.length by omega]at this
    have n:(zD (oI seq i).1 d,v)∈plS seq ts:=by
     have:=h.perm.mem_iff.1 l
     rwa [gd]at this
    have q:zD (oI seq i).1 d≠(oI seq i).1:=zv8 hA hp (zfn hi) _ p;have g:∀a,bO set ts seq i a=true->zD (oI seq i).1 d≠zD (oI seq i).1 a:=by
     intro a b e;obtain⟨k,j,s⟩:=zwM.1 b;simp only[aw,decide_eq_true_eq]at s;have r:=zt0 hA hp p (k - i) om;rw[show i+(k - i)=k by omega]at r;exact zv8 hA hp (zfn j) _ r (by rw[s.1.2];exact e)
    have m:(zD (oI seq i).1 d,v)∈ziP set ts seq i:=by
     refine fi.2 ⟨n,?_⟩;unfold zor;have f:∀a,(!(bO set ts seq i a&&decide (zD (oI seq i).1 d=zD (oI seq i).1 a)))=true:=by
      intro a;cases b:bO set ts seq i a with
      | false=>rfl
      | true=>simp[g a b]
     simp only;rw[f 0,f 1,f 2,f 3,decide_eq_false q];rfl
    have y:cat (ziP set ts seq i) (zD (oI seq i).1 d)=cat (TI ts seq i) (zD (oI seq i).1 d):=by
     rw[ev];exact AtV.uniq t.pw (zqt _ _) (.inl ⟨v,rfl,m⟩)
    unfold bdQ;rw[y];exact Int.le_refl _
   ·omega
  ·have:bdQ set (cat (TI ts seq i)) (oI seq i).1 (oI seq i).2 d=0:=if_neg c;omega
 unfold sI zqf;have B:=one 0 (.inl rfl);have o1:=one 1 (.inr (.inl rfl));have o2:=one 2 (.inr (.inr (.inl rfl)));have A:=one 3 (.inr (.inr (.inr rfl)));omega
theorem zDG{i:Nat}(hi:i<seq.length)(hs:sI set ts seq i=t):((atL set t (cat (ziP set ts seq i)) (oI seq i).1).length=1↔¬ ∃k,TileIx set k/\zwN set t ts seq i k):=by
 obtain⟨_,s,_⟩:=zf2 hp (zfn hi);have q:=zAd hS hA hlen hp hi;have c:∀k,k∈atL set t (cat (ziP set ts seq i)) (oI seq i).1↔TileIx set k/\zqf set (cat (ziP set ts seq i)) (oI seq i).1 k≥t:=by
  intro k;unfold atL;rw[fi,zy2,decide_eq_true_eq]
 have f:(atL set t (cat (ziP set ts seq i)) (oI seq i).1).Pairwise (· ≠ ·):=by
  unfold atL ixs;refine List.Pairwise.filter _ ?_;rw[List.pairwise_map];exact List.nodup_range.imp λ{a b} h j=>h om
 have d:(oI seq i).2∈atL set t (cat (ziP set ts seq i)) (oI seq i).1:=(c _).2 ⟨s,by omega⟩;revert c f d;generalize hL:atL set t (cat (ziP set ts seq i)) (oI seq i).1=L;intro c f d;constructor
 ·rintro p ⟨k,j,v,u⟩;obtain⟨a,rfl⟩:=List.length_eq_one_iff.1 p;have r:=(c k).2 ⟨j,u⟩;simp only[fq]at r d;exact v (by rw[r,d])
 ·intro m;have e:∀k∈L,k=(oI seq i).2:=λk g=>Classical.byContradiction λn=>m ⟨k,((c k).1 g).1,n,((c k).1 g).2⟩
  match L,f,d,e with
  |[],_,d,_=>cases d
  |[a],_,_,_=>rfl
  | a::b::l,f,_,e=>
   have p:=e a si;have j:=e b si;exact absurd (p.trans j.symm) ((fv.1 f).1 b si)
def zAh(set:TSet)(t:Int)(T0 seq:List Plc)(i:Nat):Prop:=sI set T0 seq i=t/\¬ ∃k,TileIx set k/\zwN set t T0 seq i k
theorem zyx{s0:List Plc}:∃z,iter (zee ((set,s0,t),seq,plS seq ts,(List.range seq.length).map (mI set ts seq),(List.range seq.length).map (sI set ts seq))) 0=some z/\
  match z with | .inl _=>∀i,i<seq.length->zAh set t ts seq i | .inr f=>f.isSome=true/\∃i,i<seq.length/\¬zAh set t ts seq i:=by
 refine zz (λs=>∃i:Nat,s=(i:Int)/\i<=seq.length/\∀j,j<i->zAh set t ts seq j) (λs=>(seq.length - s).toNat) _ ?_ 0 ⟨0,rfl,by omega,λj h=>by omega⟩;rintro s ⟨i,rfl,hi,d⟩;unfold zee;simp only;by_cases a:i<seq.length
 ·rw[if_pos so];simp only[zq (zfn a),ic];rw[zuC _ a];simp only[ic];by_cases hs:sI set ts seq i=t
  ·rw[if_neg (by simp[hs])];obtain⟨r,g,b⟩:=zyK hS hA hlen hp a (s0:=s0) (sl:=(List.range seq.length).map (sI set ts seq));rw[g];simp only[ic];cases r with
   | true=>
    right;rw[if_pos rfl];exact⟨_,rfl,rfl,i,a,λh=>h.2 (b.1 rfl)⟩
   | false=>
    left;rw[if_neg si];refine⟨_,rfl,⟨i+1,by rw[zu om om];omega,by omega,λj e=>?_⟩,by rw[zu om om];omega⟩;by_cases c:j=i
    ·subst c;exact⟨hs,λh=>by have:=b.2 h;cases this⟩
    ·exact d j om
  ·right;rw[if_pos (by simp[hs])];exact⟨_,rfl,rfl,i,a,λh=>hs h.1⟩
 ·right;rw[if_neg so];exact⟨_,rfl,λj e=>d j om⟩
theorem zxQ{s0:List Plc}:∃z,iter (zg3 (set,s0,t) seq ((List.range seq.length).map (mI set ts seq),(List.range seq.length).map (sI set ts seq)) ((List.range seq.length).map (mO set ts seq)) (plS seq ts,0,0)) (0,0,0)=some z/\
  match z with | .inl _=>∀i,i<seq.length->zAh set t ts seq i | .inr f=>f.1≠0/\∃i,i<seq.length/\¬zAh set t ts seq i:=by
 refine zz (λs=>∃i:Nat,s.1=(i:Int)/\i<=seq.length/\∀j,j<i->zAh set t ts seq j) (λs=>((seq.length:Int) - s.1).toNat) _ ?_ (0,0,0) ⟨0,rfl,by omega,λj h=>by omega⟩;rintro⟨s,u⟩ ⟨i,e,hi,hg⟩;simp only at e;subst e;have b:=zdf (zk9 hA) hp seq.length;rw[gd]at b;unfold zg3;simp only;by_cases a:i<seq.length
 ·rw[if_pos so];obtain⟨_,q,_,_,_,_,g,_⟩:=zf2 hp (zfn a);rw[zuC _ a,zuC _ a];simp only[zq (zfn a),ic];by_cases hs:sI set ts seq i=t
  ·rw[if_neg (by simp[hs])];unfold mO;rw[zv2 g _ b.len];simp only[ic];have n:=zwg hS hA hlen hp i;have c:=zCV hS n.fok (rest:=ziP set ts seq i) g (λd _=>(n.at _).1) t;unfold ziP at c;rw[c];simp only[ic];have k:=zDG hS hA hlen hp a hs;unfold ziP at k;by_cases m:(atL set t (cat ((plS seq ts).filter (zor (oI seq i).1 (bO set ts seq i)))) (oI seq i).1).length=1
   ·left;rw[if_neg (by simp[m])];refine⟨_,rfl,⟨i+1,by simp only;rw[zu om om];omega,by omega,λj p=>?_⟩,by simp only;rw[zu om om];omega⟩;by_cases l:j=i
    ·subst l;exact⟨hs,k.1 m⟩
    ·exact hg j om
   ·right;rw[if_pos so];exact⟨_,rfl,by simp,i,a,λh=>m (k.2 h.2)⟩
  ·right;rw[if_pos (by simp[hs])];exact⟨_,rfl,by simp,i,a,λh=>hs h.1⟩
 ·right;rw[if_neg so];exact⟨_,rfl,λj p=>hg j om⟩
theorem zBe(hV:zaw (set,ts,t)=some true)(hV':zfi (set,ts,t)=some true):
  ∃r,zhW (set,ts,t) seq=some r/\zl4 (set,ts,t) seq=some (decide (r.1=0)):=by
 have D:=hA.1.1;have e:=zdf (zk9 hA) hp seq.length;rw[gd]at e;have c:=e.asm hS;obtain⟨E,j,_,_,m⟩:=zq8 hS hA t hV hV' seq om;obtain rfl:=m hlen hp;have k:zg5 (set,ts,t) seq=some (plS seq ts,0,0):=by
  unfold zg5;obtain⟨r,O,v,p,G,w⟩:=zyX hS hA t hlen;have B:zdU ts=some ts:=by unfold zdU;rw[zai so so];rfl
  simp only;rw[B];simp only[ic];rw[w];cases r with
  | inl q=>rfl
  | inr z=>
   simp only at p;cases p with
   | ok h=>rfl
   | bad _ _ _ h0 g=>exact absurd hp g
 obtain⟨out,o1,o2,F⟩:=zuu hS (zk9 c) ts t;obtain⟨l,l1,l2,_⟩:=zCl hS c ts t;have b:l=[]↔out=[]:=l2.trans (zA4.trans o2.symm);obtain⟨z,A,d⟩:=zyx hS hA hlen hp (s0:=ts);obtain⟨s,n,a⟩:=zxQ hS hA hlen hp (s0:=ts);unfold zhW zl4 zio zs9;rw[zzS hS hA hlen hp,j];simp only[ic];rw[zyj hA hlen hp,k];simp only[ic];rw[n,if_neg si,zkL hS hA ts t];simp only[ic];rw[zB6 hS hA hlen hp];simp only[ic,zoZ];rw[if_neg si];unfold zjI;rw[A];simp only[ic];cases z with
 | inl u=>
  cases s with
  | inr f=>obtain⟨_,i,hi,g⟩:=a;exact absurd (d i hi) g
  | inl u'=>
   simp only;unfold zgN zkb;simp only;rw[zkL hS c ts t,o1];simp only[ic];rw[l1];simp only[ic];cases out with
   | nil=>
    have C:l=[]:=b.2 rfl;subst C;rw[if_neg si,if_neg si];exact⟨_,rfl,rfl⟩
   | cons x out=>
    cases l with
    | nil=>have:=b.1 rfl;cases this
    | cons y l=>
     rw[if_pos si,if_pos si];exact⟨_,rfl,rfl⟩
 | inr f=>
  cases s with
  | inl u'=>obtain⟨_,i,hi,g⟩:=d;exact absurd (a i hi) g
  | inr f'=>
   simp only;refine⟨_,rfl,?_⟩;obtain⟨v,_⟩:=d;cases f with
   | none=>cases v
   | some To=>
    obtain⟨H,o⟩:=To;have:=a.1;simp[this]
end
end
def zs8{S X:Type}{F G:S->Option (S ⊕ X)}(I:S->Prop)(μ:S->Nat)(R:X->Prop)(h:∀s,I s->(∃a,F s=some (.inl a)/\G s=some (.inl a)/\I a/\μ a<μ s)\/∃x,F s=some (.inr x)/\G s=some (.inr x)/\R x)(s:S)(hs:I s):∃x,iter F s=some x/\iter G s=some x/\R x:=
 zz (F:=F) (λa=>I a/\iter G s=iter G a) μ (λx=>iter G s=some x/\R x) (λa hs'=>by
  rcases h a hs'.1 with⟨e,b,c,d,hm⟩ |⟨x,b,c,hR⟩
  ·exact .inl ⟨e,b,⟨d,by rw[hs'.2,zv c]⟩,hm⟩
  ·exact .inr ⟨x,b,by rw[hs'.2,zC c],hR⟩) s ⟨hs,rfl⟩
def zBu{α:Type}{a b:List α}(h:a.length<=2000000)(hl:a.length=b.length)(F:Int->Option (Int ⊕ (Unit ⊕ Bool)))(h1:∀(i:Nat) x,a[i]?=some x->b[i]?=some x->F (i:Int)=some (.inl (w64 ((i:Int)+1))))(h2:∀(i:Nat) x y,a[i]?=some x->b[i]?=some y->x≠y->F (i:Int)=some (.inr (.inr false)))(hs:F (a.length:Int)=some (.inr (.inl ()))):
  (iter F 0=some (.inl ())/\a=b)\/(iter F 0=some (.inr false)/\a≠b):=by
 have key:=zkU (λi=>(i:Int)) 0 a.length (λi=>a[i]?=b[i]?) F om (λi _ hi _ c=>?_) (λi _ hi _ c=>?_) (λ_=>hs)
 ·rcases key with⟨g,d⟩ |⟨g,hn⟩
  ·refine .inl ⟨g,ca λi=>?_⟩;by_cases hi:i<a.length
   ·exact d i om hi
   ·rw[df om,df om]
  ·exact .inr ⟨g,λe=>hn λi _ _=>by rw[e]⟩
 ·have f:a[i]?=some a[i]:=cz hi;have k:=h1 i _ f (c▸f);rw[zu om om]at k;exact k
 ·have f:a[i]?=some a[i]:=cz hi;have j:b[i]?=some (b[i]'om):=cz om;refine h2 i _ _ f j λe=>c ?_;rw[f,j,e]
def zDf(a b:Plc):((decide (a.1.1=b.1.1)&&decide (a.1.2=b.1.2))&&decide (a.2=b.2))=decide (a=b):=by
 rw[ax];simp[Prod.ext_iff,and_assoc]
def zyW(a b:List Plc)(h:a.length<=2000000):zjf a b=some (decide (a=b)):=by
 unfold zjf zle;by_cases f:a.length=b.length
 ·rw[if_neg (by simp[f])];have key:=zBu h f (zdA a b) (λi x c g=>?_) (λi x y c g d=>?_) ?_
  ·rcases key with⟨j,e⟩ |⟨j,e⟩
   ·rw[j];simp[e]
   ·rw[j];simp[e]
  ·unfold zdA;rw[if_pos (by have:=zA c;simp;omega)];simp[zq c,zq g]
  ·unfold zdA;rw[if_pos (by have:=zA c;simp;omega)];simp only[zq c,zq g,ic];rw[zDf,if_pos (by simp[d])]
  ·unfold zdA;rw[if_neg si]
 ·rw[if_pos so];have:a≠b:=λe=>f (by rw[e]);simp[this]
def zAW(a b:List Plc)(h:a.length<=2000000):zgp a b=some (decide (a=b)):=by
 have e:zkm a b=zjf a b:=rfl;unfold zgp;rw[e,zyW a b h];rfl
def zvV(a:List Plc):zeV a []=some (decide ((a.length:Int)=0)):=by
 unfold zeV zhH;cases a with
 | nil=>
  rw[if_neg si,zC (x:=Sum.inl ()) (by unfold zhG;rw[if_neg si])];rfl
 | cons x a=>rw[if_pos so];simp;omega
def zvU(a:List Int):zeU a []=some (decide ((a.length:Int)=0)):=by
 unfold zeU zhF;cases a with
 | nil=>
  rw[if_neg si,zC (x:=Sum.inl ()) (by unfold zhE;rw[if_neg si])];rfl
 | cons x a=>rw[if_pos so];simp;omega
def zvT(a:List (List Int))(f:List Int->List Int->Option Bool):zd4 a [] f=some (decide ((a.length:Int)=0)):=by
 unfold zd4 zeX;cases a with
 | nil=>
  rw[if_neg si,zC (x:=Sum.inl ()) (by unfold zeW;rw[if_neg si])];rfl
 | cons x a=>rw[if_pos so];simp;omega
def zz6(pf:Prf)(h:1<=pf.1/\pf.1<=6):∃b,zfv pf=some b/\zgu pf=some b:=by
 obtain⟨k,d,a,c,fl⟩:=pf;simp only at h;have e:k=1\/k=2\/k=3\/k=4\/k=5\/k=6:=by omega
 have key:∃b,zgu (k,d,a,c,fl)=some b/\zjQ (zom (k,d,a,c,fl)) (0,[],[],[],[])=some b:=by
  unfold zjQ zgu;rcases e with rfl | rfl | rfl | rfl | rfl | rfl
  ·rw[show zom (1,d,a,c,fl)=(0,[],a,c,fl)from rfl];simp only[zvV,zvU,zvT,ic];generalize decide ((d.length:Int)=0)=b1;generalize decide ((a.length:Int)=0)=b2;generalize decide ((c.length:Int)=0)=b3;generalize decide ((fl.length:Int)=0)=b4;cases b1<;>cases b2<;>cases b3<;>cases b4<;>exact⟨_,rfl,rfl⟩
  ·rw[show zom (2,d,a,c,fl)=(0,[],a,c,fl)from rfl];simp only[zvV,zvU,zvT,ic];generalize decide ((d.length:Int)=0)=b1;generalize decide ((a.length:Int)=0)=b2;generalize decide ((c.length:Int)=0)=b3;generalize decide ((fl.length:Int)=0)=b4;cases b1<;>cases b2<;>cases b3<;>cases b4<;>exact⟨_,rfl,rfl⟩
  ·rw[show zom (3,d,a,c,fl)=(0,[],a,c,fl)from rfl];simp only[zvV,zvU,zvT,ic];generalize decide ((d.length:Int)=0)=b1;generalize decide ((a.length:Int)=0)=b2;generalize decide ((c.length:Int)=0)=b3;generalize decide ((fl.length:Int)=0)=b4;cases b1<;>cases b2<;>cases b3<;>cases b4<;>exact⟨_,rfl,rfl⟩
  ·rw[show zom (4,d,a,c,fl)=(0,[],[],c,fl)from rfl];simp only[zvV,zvU,zvT,ic];generalize decide ((d.length:Int)=0)=b1;generalize decide ((a.length:Int)=0)=b2;generalize decide ((c.length:Int)=0)=b3;generalize decide ((fl.length:Int)=0)=b4;cases b1<;>cases b2<;>cases b3<;>cases b4<;>exact⟨_,rfl,rfl⟩
  ·rw[show zom (5,d,a,c,fl)=(0,d,a,c,[])from rfl];simp only[zvV,zvU,zvT,ic];generalize decide ((d.length:Int)=0)=b1;generalize decide ((a.length:Int)=0)=b2;generalize decide ((c.length:Int)=0)=b3;generalize decide ((fl.length:Int)=0)=b4;cases b1<;>cases b2<;>cases b3<;>cases b4<;>exact⟨_,rfl,rfl⟩
  ·rw[show zom (6,d,a,c,fl)=(0,d,a,[],fl)from rfl];simp only[zvV,zvU,zvT,ic];generalize decide ((d.length:Int)=0)=b1;generalize decide ((a.length:Int)=0)=b2;generalize decide ((c.length:Int)=0)=b3;generalize decide ((fl.length:Int)=0)=b4;cases b1<;>cases b2<;>cases b3<;>cases b4<;>exact⟨_,rfl,rfl⟩
 obtain⟨b,g,f⟩:=key;exact⟨b,f,g⟩
section
variable {set:TSet} {ts asm:List Plc}
def zxE(hS:SetOk set)(hA:AsmOk set ts)(t:Int)(hV:zaw (set,ts,t)=some true)(hV':zfi (set,ts,t)=some true)(hasm:asm.length<=2000000)(seq:List Plc)(hl:seq.length<=2000000):
  ∃b,zan seq (set,ts,t) asm=some b/\zbI (set,ts,t) seq asm=some b/\(b=true->seq.length<=500/\Played set t ts seq/\asm=plS seq ts):=by
 obtain⟨r,i,g,j,_⟩:=zq8 hS hA t hV hV' seq hl;unfold zan zbI;rw[i,g];simp only[ic];by_cases c:r.2.2=0
 ·obtain⟨f,d,e⟩:=j c;have a:=zdf (zk9 hA) d seq.length;rw[gd,←e]at a;rw[if_pos (by simpa using c),if_pos (by simpa using c),zAW asm r.1 hasm,zyW r.1 asm (by have:=a.len;omega)];refine⟨decide (r.1=asm),?_,rfl,λh=>⟨f,d,by rw[←e];exact(of_decide_eq_true h).symm⟩⟩;simp only[ic];rw[decide_eq_decide.2 eq_comm]
 ·rw[if_neg (by simpa using c),if_neg (by simpa using c)];exact⟨false,rfl,rfl,λh=>by cases h⟩
def zCt{bs:List Bd}{fl:List Int}(h:fl.length=bs.length):zgq fl bs=zca fl bs:=by
 funext s;unfold zgq zca;by_cases a:s.2<(bs.length:Int)
 ·rw[if_pos (by simpa using a),if_pos (by simpa using a)];by_cases b:0<=s.2
  ·obtain⟨x,f,_⟩:=zR (l:=bs) b a;obtain⟨y,d,_⟩:=zR (l:=fl) b om;simp only[f,d,ic,zbe,zdh]
  ·have c:idx bs s.2=none:=by unfold idx;rw[if_neg b]
   have e:idx fl s.2=none:=by unfold idx;rw[if_neg b]
   rw[c,e];rfl
 ·rw[if_neg (by simpa using a),if_neg (by simpa using a)]
def zCu(hS:SetOk set)(hA:AsmOk set asm){va vs:_}(h1:zaa set asm=some true)(h2:zfX set asm=some 0){p3:Int}(h3:1<=p3)(h4:p3<=(asm.length:Int) - 1)(fl:List Int)(hva:va=())(hvs:vs=()):
  ∃r,zj2 set asm 0 p3 fl=some r/\zjl set asm 0 p3 fl=some r:=by
 have Z:=hA.1.1;have p:w64 ((asm.length:Int) - 1)=(asm.length:Int) - 1:=zu om om;obtain⟨bs,D,Q,I,b4⟩:=zu8 hS hA;unfold zj2 zjl zo3 zaJ;rw[h1,h2];simp only[ic,p,zbe,zdh];have M:decide ((0:Int)<=0/\(0:Int)<=(asm.length:Int) - 1)=true:=decide_eq_true om;have E:decide ((0:Int)<=p3/\p3<=(asm.length:Int) - 1)=true:=decide_eq_true om;have N:decide ((0:Int)=p3)=false:=decide_eq_false om;simp only[M,E,N,bb,az,if_false,zfO,ic,decide_true,zdZ];rw[D,Q];simp only[ic];by_cases t:fl.length=bs.length
 ·rw[if_neg (by simp[t]),if_neg (by simp[t]),znR om om om];simp only[ic,bg];rw[zCt t];have key:=zz (F:=zca fl bs) (λs=>0<=s.2/\s.2<=bs.length/\s.1.length=asm.length) (λs=>(bs.length - s.2).toNat) (λz=>match z with | .inl y=>y.length=asm.length | .inr r=>True) ?_ (List.replicate asm.length 0,0) ⟨by simp,by simp,by simp⟩
  ·obtain⟨z,L,O⟩:=key;rw[L];simp only[ic];cases z with
   | inr z=>exact⟨z,rfl,rfl⟩
   | inl y=>
    simp only at O ⊢;unfold zj1 zjk;have k2:=zs8 (F:=zco 0 p3 y) (G:=zb9 asm 0 p3 y) (λs=>0<=s/\s<=asm.length) (λs=>(asm.length - s).toNat) (λ_=>True) ?_ 0 ⟨by omega,by omega⟩
    ·obtain⟨x,T,J,_⟩:=k2;rw[T,J];simp only[ic];cases x with
     | inr z=>exact⟨z,rfl,rfl⟩
     | inl u=>
      simp only;unfold zj0 zjj;obtain⟨v,b,_⟩:=zR (l:=y) (i:=0) om om;rw[b];exact⟨_,rfl,rfl⟩
    ·rintro s ⟨d,B⟩;have A:s<asm.length->w64 (s+1)=s+1:=λh=>zu om om;have H:s<asm.length->∀v,idx y s=some v->zco 0 p3 y s=if v≠0/\s≠0/\s≠p3 then some (.inr (.inr (0,10)))else some (.inl (s+1)):=λh v b=>by
      unfold zco zek;rw[if_pos so,b,A h];simp only[ic];by_cases e:v=0
      ·simp[e]
      ·by_cases c:s=0
       ·simp[e,c]
       ·by_cases j:s=p3<;>simp[e,c,j]
        all_goals (intro S;omega)
     have C:s<asm.length->∀v,idx y s=some v->zb9 asm 0 p3 y s=if v≠0/\s≠0/\s≠p3 then some (.inr (.inr (0,10)))else some (.inl (s+1)):=λh v b=>by
      unfold zb9 zdY;rw[p,if_pos so,b,A h];simp only[ic];by_cases c:s=0
      ·simp[c]
      ·by_cases j:s=p3
       ·simp[c,j]
        all_goals (intro S;omega)
       ·by_cases e:v=0<;>simp[e,c,j]
     by_cases a:s<asm.length
     ·obtain⟨v,b,_⟩:=zR (l:=y) (i:=s) d om;rw[H a v b,C a v b];by_cases q:v≠0/\s≠0/\s≠p3
      ·right;rw[if_pos q];exact⟨_,rfl,rfl,trivial⟩
      ·left;rw[if_neg q];exact⟨_,rfl,rfl,⟨by omega,by omega⟩,by omega⟩
     ·right;refine⟨.inl (),?_,?_,trivial⟩
      ·unfold zco;rw[if_neg so]
      ·unfold zb9;rw[p,if_neg so]
  ·rintro⟨y,i⟩ ⟨d,B,g2⟩;simp only at d B g2;unfold zca;by_cases a:i<bs.length
   ·obtain⟨x,R,w⟩:=zR (l:=bs) d a;obtain⟨f,m,_⟩:=zR (l:=fl) d om;obtain⟨w0,V,U,X,_⟩:=I _ x w;rw[if_pos (by simpa using a)];simp only[R,m,ic,zdh];by_cases g:w64 (0 - x.2.2)<=f/\f<=x.2.2
    ·left;rw[if_neg (by simpa using g)];obtain⟨u,P,_⟩:=zR (l:=y) w0 om;simp only[P,ic];obtain⟨Y,k,_⟩:=zR (l:=y.set x.1.toNat (w64 (u+f))) U (by rw[ep];omega);simp only[k,ic];rw[zu (n:=i+1) om om];exact⟨_,rfl,⟨by simp only;omega,by simp only;omega,by simp[g2]⟩,by simp only;omega⟩
    ·right;rw[if_pos (by simp only[ba,decide_eq_false_iff_not];exact g)];exact⟨_,rfl,trivial⟩
   ·right;rw[if_neg (by simpa using a)];exact⟨_,rfl,g2⟩
 ·rw[if_pos so,if_pos so];exact⟨_,rfl,rfl⟩
def zBq(hS:SetOk set)(hA:AsmOk set asm)(h1:zaa set asm=some true)(h2:zfX set asm=some 0)(t:Int){s0:List Plc}(fl:List (List Int)):
  ∃r,zcO fl (set,s0,t) asm=some r/\zkE (set,s0,t) asm fl=some r:=by
 have D:=hA.1.1;have m:w64 ((asm.length:Int) - 1)=(asm.length:Int) - 1:=zu om om;unfold zcO zkE zdW zDx;rw[m];have e:(if decide (0>(asm.length:Int) - 1)=true then some (0:Int)else some ((asm.length:Int) - 1))=some (if 0>(asm.length:Int) - 1 then 0 else(asm.length:Int) - 1):=by
  by_cases h:0>(asm.length:Int) - 1<;>simp[h]
 rw[e];simp only[ic];by_cases b:(fl.length:Int)=if 0>(asm.length:Int) - 1 then 0 else(asm.length:Int) - 1
 ·rw[if_neg (by simp[b]),if_neg (by simp[b])];have k2:=zs8 (F:=zak fl (set,s0,t) asm) (G:=zc0 (set,s0,t) asm fl) (λs=>0<=s/\s<=fl.length) (λs=>(fl.length - s).toNat) (λ_=>True) ?_ 0 ⟨by omega,by omega⟩
  ·obtain⟨x,p,B,_⟩:=k2;rw[p,B];cases x with
   | inr z=>exact⟨z,rfl,rfl⟩
   | inl u=>exact⟨_,rfl,rfl⟩
  ·rintro s ⟨w,C⟩;by_cases a:s<fl.length
   ·obtain⟨v,g,_⟩:=zR (l:=fl) w a;have i:w64 (s+1)=s+1:=by
     split at b<;>exact zu om om
    have c:1<=s+1/\s+1<=(asm.length:Int) - 1:=by split at b<;>omega
    obtain⟨r,y,j⟩:=zCu hS hA (va:=()) (vs:=()) h1 h2 c.1 c.2 v rfl rfl;have A:zak fl (set,s0,t) asm s=if r.2=0/\¬r.1<t then some (.inl (s+1))else some (.inr (.inr false)):=by
     unfold zak zbp;rw[if_pos (by simpa using a),g];simp only[ic];rw[i,y];simp only[ic];by_cases d:r.2=0<;>by_cases f:r.1<t<;>simp[d,f]
     all_goals first | omega |(intro n;omega)
    have k:zc0 (set,s0,t) asm fl s=if r.2=0/\¬r.1<t then some (.inl (s+1))else some (.inr (.inr false)):=by
     unfold zc0 zg1;rw[if_pos (by simpa using a),g];simp only[ic];rw[i,j];simp only[ic];by_cases d:r.2=0<;>by_cases f:r.1<t<;>simp[d,f]
     all_goals first | omega |(intro n;omega)
    rw[A,k];by_cases q:r.2=0/\¬r.1<t
    ·left;rw[if_pos q];exact⟨_,rfl,rfl,⟨by omega,by omega⟩,by omega⟩
    ·right;rw[if_neg q];exact⟨_,rfl,rfl,trivial⟩
   ·right;refine⟨.inl (),?_,?_,trivial⟩
    ·unfold zak;rw[if_neg (by simpa using a)]
    ·unfold zc0;rw[if_neg (by simpa using a)]
 ·rw[if_pos (by simpa using b),if_pos (by simpa using b)];exact⟨_,rfl,rfl⟩
def zys(l:List Int)(h:l.length<=2000000)(q:Int):zcA l q=some (decide (q∈l))/\zkZ l q=some (decide (q∈l)):=by
 constructor
 ·unfold zcA zkk zhB;rcases zks l h (λx=>some (decide (q=x))) (λx=>decide (q=x)) (λx _=>rfl) (zhA l q) (λi=>rfl)with⟨d,a⟩ |⟨k,d,hk,hlow,x,g,hq⟩
  ·rw[d];have:¬q∈l:=λh=>by simpa using a q h
   simp[this]
  ·rw[d];have:q∈l:=by
    have t:q=x:=by simpa using hq
    rw[t];exact fo g
   simp[this]
 ·unfold zkZ zmx;have key:=zz (F:=zjg l q) (λs=>0<=s/\s<=l.length/\∀j:Nat,(j:Int)<s->l[j]?≠some q) (λs=>(l.length - s).toNat) (λz=>match z with | .inl _=>¬q∈l | .inr b=>b=true/\q∈l) ?_ 0 ⟨by omega,by omega,λj f=>by omega⟩
  ·obtain⟨z,d,m⟩:=key;rw[d];cases z with
   | inl u=>simp only at m;simp[m]
   | inr b=>obtain⟨rfl,hm⟩:=m;simp[hm]
  ·rintro s ⟨r,v,p⟩;obtain⟨k,rfl⟩:=bf r;unfold zjg;by_cases c:k<l.length
   ·have g:l[k]?=some l[k]:=cz c;rw[if_pos so];simp only[zq g,ic];by_cases e:l[k]=q
    ·right;rw[if_pos (by simpa using e)];exact⟨_,rfl,rfl,e▸dx c⟩
    ·left;rw[if_neg (by simpa using e),zu om om];refine⟨_,rfl,⟨by omega,by omega,λj f=>?_⟩,by omega⟩;by_cases n:j=k
     ·subst n;rw[g];exact λh=>e (Option.some.inj h)
     ·exact p j om
   ·right;rw[if_neg so];refine⟨_,rfl,λhm=>?_⟩;obtain⟨j,f⟩:=dj hm;exact p j (by have:=zA f;omega) f
def zz9(bs:List Bd)(hb:bs.length<=1000)(p:List Int)(hp:p.length<=2000000):∃v,zhs bs p=some v/\zng bs p=some v:=by
 have q:∀b:Bd,zeB b p=some (decide (b.1∈p) == decide (b.2.1∈p)):=λb=>by
  unfold zeB;rw[(zys p hp _).1,(zys p hp _).1];rfl
 unfold zhs zng;rw[ztw bs om];simp only[ic];rw[zsv bs om _ (λb=>decide (b.1∈p) == decide (b.2.1∈p)) (λb _=>q b)];simp only[ic];have f:zil (bs.filter λb=>!(decide (b.1∈p) == decide (b.2.1∈p)))=some ((bs.filter λb=>!(decide (b.1∈p) == decide (b.2.1∈p))).foldl (λa b=>w64 (a+b.2.2)) 0):=by
  have d:=ed (λb:Bd=>!(decide (b.1∈p) == decide (b.2.1∈p))) bs;unfold zil;rw[ziR (F:=zdi (bs.filter λb=>!(decide (b.1∈p) == decide (b.2.1∈p)))) (bs.filter λb=>!(decide (b.1∈p) == decide (b.2.1∈p))) (λa b=>w64 (a+b.2.2)) 0 om (λa i x c _=>?_) (λa _=>?_)]
  ·rfl
  ·unfold zdi;rw[if_pos (by have:=zA c;simp;omega)];simp only[zq c,ic]
  ·unfold zdi;rw[if_neg si]
 have e:iter (zeI bs p) (0,0)=some (bs.foldl (λa b=>if(!(decide (b.1∈p) == decide (b.2.1∈p)))=true then w64 (a+b.2.2)else a) 0):=by
  refine ziR (F:=zeI bs p) bs (λa b=>if(!(decide (b.1∈p) == decide (b.2.1∈p)))=true then w64 (a+b.2.2)else a) 0 om (λa i x c _=>?_) (λa _=>?_)
  ·unfold zeI zje;rw[if_pos (by have:=zA c;simp;omega)];simp only[zq c,ic,(zys p hp _).2];split<;>rfl
  ·unfold zeI;rw[if_neg si]
 rw[f,e,List.foldl_filter];exact⟨_,rfl,rfl⟩
def zB8(p:List Int)(hp:p.length<=2000000)(hl:asm.length<=500):∃b,zel asm p=some b/\zlP asm p=some b/\(b=true->p.length<=asm.length):=by
 have q:w64 ((asm.length:Int) - 1)=(asm.length:Int) - 1:=zu om om;have k2:=zs8 (F:=zY asm p) (G:=zaS p 0 ((asm.length:Int) - 1)) (λs=>0<=s/\s<=p.length/\∀j:Nat,(j:Int)<s->∃x,p[j]?=some x/\(j:Int)<=x/\x<=(asm.length:Int) - 1) (λs=>(p.length - s).toNat) (λz=>match z with | .inl _=>p.length<=asm.length | .inr b=>b=false) ?_ 0 ⟨by omega,by omega,λj t=>by omega⟩
 ·obtain⟨x,D,B,r⟩:=k2;unfold zel zlP znN;rw[q,D,B];cases x with
  | inl u=>exact⟨true,rfl,rfl,λ_=>r⟩
  | inr b=>simp only at r;subst r;exact⟨false,rfl,rfl,λh=>by cases h⟩
 ·rintro s ⟨A,H,n⟩;obtain⟨k,rfl⟩:=bf A;by_cases i:k<p.length
  ·have d:p[k]?=some p[k]:=cz i;generalize p[k]=x at d;have wk:w64 ((k:Int)+1)=(k:Int)+1:=zu om om;by_cases w:k=0
   ·subst w;have l:zY asm p ((0:Nat):Int)=if 0<=x/\x<=(asm.length:Int) - 1 then some (.inl 1)else some (.inr (.inr false)):=by
     unfold zY zaJ zap;rw[if_pos so];simp only[zq d,ic,q,zbe];by_cases a:0<=x/\x<=(asm.length:Int) - 1
     ·rw[if_pos a,decide_eq_true a];rfl
     ·rw[if_neg a,decide_eq_false a];rfl
    have g:zaS p 0 ((asm.length:Int) - 1) ((0:Nat):Int)=if 0<=x/\x<=(asm.length:Int) - 1 then some (.inl 1)else some (.inr (.inr false)):=by
     unfold zaS zc2;rw[if_pos so];simp only[zq d,ic,zdh];by_cases a:0<=x/\x<=(asm.length:Int) - 1
     ·rw[if_pos a,decide_eq_true a];rfl
     ·rw[if_neg a,decide_eq_false a];rfl
    rw[l,g];by_cases a:0<=x/\x<=(asm.length:Int) - 1
    ·left;rw[if_pos a];refine⟨_,rfl,rfl,⟨by omega,by omega,λj t=>?_⟩,by omega⟩;have:j=0:=by omega
     subst this;exact⟨x,d,by omega,a.2⟩
    ·right;rw[if_neg a];exact⟨_,rfl,rfl,rfl⟩
   ·obtain⟨y,C,y0,v⟩:=n (k - 1) om;have f:idx p (w64 ((k:Int) - 1))=some y:=by
     rw[zu om om,show(k:Int) - 1=((k - 1:Nat):Int) by omega];exact zq C
    have e:decide ((k:Int)>0)=true:=decide_eq_true om;have l:zY asm p (k:Int)=if(0<=x/\x<=(asm.length:Int) - 1)/\y<x then some (.inl ((k:Int)+1))else some (.inr (.inr false)):=by
     unfold zY zaJ zap;rw[if_pos so];simp only[zq d,ic,q,zbe,e,f,wk];by_cases a:0<=x/\x<=(asm.length:Int) - 1
     ·rw[decide_eq_true a];by_cases c:y<x
      ·rw[if_pos (show(0<=x/\x<=(asm.length:Int) - 1)/\y<x from⟨a,c⟩),decide_eq_false (show ¬x<=y by omega)];rfl
      ·rw[if_neg (show ¬((0<=x/\x<=(asm.length:Int) - 1)/\y<x)from λh=>c h.2),decide_eq_true (show x<=y by omega)];rfl
     ·rw[if_neg (show ¬((0<=x/\x<=(asm.length:Int) - 1)/\y<x)from λh=>a h.1),decide_eq_false a];rfl
    have g:zaS p 0 ((asm.length:Int) - 1) (k:Int)=if(0<=x/\x<=(asm.length:Int) - 1)/\y<x then some (.inl ((k:Int)+1))else some (.inr (.inr false)):=by
     unfold zaS zc2;rw[if_pos so];simp only[zq d,ic,zdh,e,f,wk];by_cases a:0<=x/\x<=(asm.length:Int) - 1
     ·rw[decide_eq_true a];by_cases c:y<x
      ·rw[if_pos (show(0<=x/\x<=(asm.length:Int) - 1)/\y<x from⟨a,c⟩),decide_eq_false (show ¬y≥x by omega)];rfl
      ·rw[if_neg (show ¬((0<=x/\x<=(asm.length:Int) - 1)/\y<x)from λh=>c h.2),decide_eq_true (show y≥x by omega)];rfl
     ·rw[if_neg (show ¬((0<=x/\x<=(asm.length:Int) - 1)/\y<x)from λh=>a h.1),decide_eq_false a];rfl
    rw[l,g];by_cases a:(0<=x/\x<=(asm.length:Int) - 1)/\y<x
    ·left;rw[if_pos a];refine⟨_,rfl,rfl,⟨by omega,by omega,λj t=>?_⟩,by omega⟩;by_cases m:j=k
     ·subst m;exact⟨x,d,by omega,a.1.2⟩
     ·exact n j om
    ·right;rw[if_neg a];exact⟨_,rfl,rfl,rfl⟩
  ·right;refine⟨.inl (),?_,?_,?_⟩
   ·unfold zY;rw[if_neg so]
   ·unfold zaS;rw[if_neg so]
   ·simp only;by_cases E:p.length=0
    ·omega
    ·obtain⟨y,_,y0,v⟩:=n (p.length - 1) om;omega
def zDD(hS:SetOk set)(hA:AsmOk set asm)(h1:zaa set asm=some true)(t:Int){s0:List Plc}(p:List Int)(hp:p.length<=2000000):
  ∃r,zdp p (set,s0,t) asm=some r/\zna (set,s0,t) asm p=some r:=by
 obtain⟨b,e,i,k⟩:=zB8 p hp hA.1.1 (asm:=asm);obtain⟨bs,l,c2,n,j⟩:=zu8 hS hA;obtain⟨v,h,g⟩:=zz9 bs j p hp;unfold zdp zky zna zgv;simp only;rw[h1,e,i];simp only[ic];cases b with
 | false=>exact⟨false,by simp,by simp⟩
 | true=>
  have f:=k rfl;rw[l,c2];simp only[ic];rw[h,g];refine⟨if p.length=0 then false else if p.length=asm.length then false else decide (v<t),?_,?_⟩
  ·by_cases a:p.length=0
   ·simp[a]
   ·by_cases c:p.length=asm.length
    ·simp[a,c]
    ·have:p.length<asm.length:=by omega
     have d:0<p.length:=by omega
     simp[a,c,this,d]
  ·by_cases a:p.length=0
   ·simp[a]
   ·by_cases c:p.length=asm.length
    ·simp[a,c]
    ·simp[a,c];intro m;omega
end
section
variable {set:TSet} {ts asm:List Plc}
def zCA(hS:SetOk set)(hA:AsmOk set ts)(t:Int)(hV:zaw (set,ts,t)=some true)(hV':zfi (set,ts,t)=some true)(hasm:asm.length<=2000000)(s1 s2:List Plc)(h1:s1.length<=2000000)(h2:s2.length<=2000000):
  ∃b,zbQ (s1,s2) (set,ts,t) asm=some b/\zg2 (set,ts,t) s1 s2 asm=some b:=by
 unfold zbQ zg2;simp only;by_cases n:s1.length=0
 ·rw[decide_eq_true (show(s1.length:Int)=0 by omega)];exact⟨false,rfl,rfl⟩
 ·rw[decide_eq_false (show ¬(s1.length:Int)=0 by omega)];simp only[az,if_false];by_cases p:s2.length=0
  ·rw[decide_eq_true (show(s2.length:Int)=0 by omega)];exact⟨false,rfl,rfl⟩
  ·rw[decide_eq_false (show ¬(s2.length:Int)=0 by omega)];simp only[az,if_false];obtain⟨b,d,h,_⟩:=zxE hS hA t hV hV' hasm s1 h1;rw[d,h];simp only[ic];cases b with
   | false=>exact⟨false,rfl,rfl⟩
   | true=>
    obtain⟨r,f,a,_⟩:=zq8 hS hA t hV hV' s2 h2;obtain⟨x,m,_⟩:=zR (l:=s1) (i:=(s1.length:Int) - 1) om om;obtain⟨y,e,_⟩:=zR (l:=s2) (i:=(s2.length:Int) - 1) om om;have c:w64 ((s1.length:Int) - 1)=(s1.length:Int) - 1:=zu om om;have j:w64 ((s2.length:Int) - 1)=(s2.length:Int) - 1:=zu om om;unfold zao zcv zkO;simp only[bb,az,if_false,c,j];rw[f,a];simp only[ic,m,e];refine⟨if r.2.2=0 then(if x.1=y.1 then !decide (x.2=y.2)else false)else false,?_,?_⟩<;>rw[ztp]<;>by_cases g:r.2.2=0<;>by_cases k:x.1=y.1<;>simp[g,k]
def zvt(hT:Tame set)(hts:ts.length<=1048576)(t:Int)(hasm:asm.length<=1048576)(pf:Prf)(h1:pf.2.1.length<=1048576)(h2:pf.2.2.1.length<=1048576)(h3:pf.2.2.2.1.length<=1048576):
  ∃r,zct (set,ts,t) asm pf=some r/\zid (set,ts,t) asm pf=some r:=by
 obtain⟨v,p,q,D⟩:=zpv hT hts t;unfold zct zid zim znH;rw[p,q];simp only[ic];cases v with
 | false=>exact⟨1,rfl,rfl⟩
 | true=>
  obtain⟨hS,hA⟩:=D rfl;obtain⟨b,w,C⟩:=znD set hT asm om;obtain⟨c,B,c2⟩:=zw9 set hT asm om;have x:b=c:=by
   rw[ax,C,c2];exact⟨λh=>h.2,λh=>⟨hS,h⟩⟩
  subst x;rw[w,B];simp only[ic,bb,az,if_false];cases b with
  | false=>exact⟨1,rfl,rfl⟩
  | true=>
   have d:=(C.1 rfl).2;obtain⟨a,Q,a2,H⟩:=zpw set hT;have N:a=true:=H.2 hS;subst N;have j:zfX set asm=some 0:=by
    unfold zfX;rw[a2];simp only[ic,bb,az,if_false];rw[B];rfl
   simp only[zaN,zg6,bb,az,if_false,ic,decide_true,zbe,zdh];by_cases m:1<=pf.1/\pf.1<=6
   ·rw[decide_eq_true m];simp only[bb,az,if_false];obtain⟨f,F,M⟩:=zz6 pf m;rw[F,M];simp only[ic];cases f with
    | false=>exact⟨10,rfl,rfl⟩
    | true=>
     have key:∃r,zfo (set,ts,t) asm pf=some r/\zkD (set,ts,t) asm pf=some r:=by
      obtain⟨k,i,G,I,fl⟩:=pf;simp only at m h1 h2 h3;have A:k=1\/k=2\/k=3\/k=4\/k=5\/k=6:=by omega
      unfold zfo zkD;obtain⟨l,l1,l2,J⟩:=zxE hS hA t p q (asm:=asm) om i om;rcases A with rfl | rfl | rfl | rfl | rfl | rfl
      ·refine⟨l,by simpa using l1,?_⟩;simp[l2]
      ·show ∃r,zbO i (set,ts,t) asm=some r/\((zbI (set,ts,t) i asm).bind λy=>if y then((zdx (set,ts,t) asm).bind λz=>some (decide ((z.length:Int)=0)))else(some false))=some r;unfold zbO;rw[l1,l2];simp only[ic];cases l with
       | false=>exact⟨false,rfl,rfl⟩
       | true=>
        obtain⟨n,O,P⟩:=zBH hS d ts t;obtain⟨out,o1,o2,_⟩:=zuu hS (zk9 d) ts t;rw[if_pos rfl,if_pos rfl,zkL hS d ts t,o1];simp only[ic];rw[O];refine⟨_,rfl,?_⟩;congr 1;rw[decide_eq_decide];rw[P,zA4,←o2];constructor
        ·intro h;exact bz om
        ·rintro rfl;rfl
      ·show ∃r,zcN i (set,ts,t) asm=some r/\((zbI (set,ts,t) i asm).bind λs=>if !s then(some false)else((zhW (set,ts,t) i).bind λu=>some (decide (u.1=0))))=some r;unfold zcN;rw[l1,l2];simp only[ic];cases l with
       | false=>exact⟨false,rfl,rfl⟩
       | true=>
        obtain⟨L,E,_⟩:=J rfl;obtain⟨r,e,g⟩:=zBe hS hA L E p q;rw[e,g];exact⟨_,rfl,rfl⟩
      ·obtain⟨r,e,g⟩:=zCA hS hA t p q (asm:=asm) om i G om om;refine⟨r,e,?_⟩;simp[g]
      ·obtain⟨r,e,g⟩:=zBq hS d w j t (s0:=ts) fl;refine⟨r,e,?_⟩;simp[g]
      ·obtain⟨r,e,g⟩:=zDD hS d w t (s0:=ts) I om;refine⟨r,e,?_⟩;simp[g]
     obtain⟨r,e,g⟩:=key;simp only[bb,az,if_false,if_true];rw[e,g];cases r<;>exact⟨_,rfl,rfl⟩
   ·rw[decide_eq_false m];exact⟨2,rfl,rfl⟩
end
def zq7{α:Type}(l:List α)(h:l.length<=2000000)(F:Int->Option (Int ⊕ (Unit ⊕ Bool)))(h1:∀(i:Nat) x,l[i]?=some x->F (i:Int)=some (.inl (w64 ((i:Int)+1))))(hs:F (l.length:Int)=some (.inr (.inl ()))):iter F 0=some (.inl ()):=by
 rcases zBu h rfl F (λi x b _=>h1 i x b) (λi x y b c a=>absurd (Option.some.inj (b.symm.trans c)) a) hs with⟨d,_⟩ |⟨_,hn⟩
 ·exact d
 ·exact absurd rfl hn
def zAN(l:List Int)(h:l.length<=2000000):zf4 l l=some true:=by
 unfold zf4 zkr;rw[if_neg si,zq7 l h (ze2 l l) (λi x a=>by unfold ze2;rw[if_pos (by have:=zA a;simp;omega)];simp[zq a]) (by unfold ze2;rw[if_neg si])];rfl
def zDa(l:List (List Int))(h:l.length<=2000000)(hr:∀x∈l,x.length<=2000000):zjH l l=some true:=by
 unfold zjH zjG;rw[if_neg si,zq7 l h (zec l l) (λi x a=>by unfold zec;rw[if_pos (by have:=zA a;simp;omega)];simp[zq a,zAN x (hr x (fo a))]) (by unfold zec;rw[if_neg si])];rfl
def zDb(l:List ((List UInt8)×Int))(h:l.length<=2000000):zlY l l=some true:=by
 unfold zlY zlo;rw[if_neg si,zq7 l h (zfJ l l) (λi x a=>by unfold zfJ zp3;rw[if_pos (by have:=zA a;simp;omega)];simp[zq a]) (by unfold zfJ;rw[if_neg si])];rfl
def zC9(l:List ((List UInt8)×List Int))(h:l.length<=2000000)(hr:∀x∈l,x.2.length<=2000000):zlX l l=some true:=by
 unfold zlX zln;rw[if_neg si,zq7 l h (zfI l l) (λi x a=>by unfold zfI zp2;rw[if_pos (by have:=zA a;simp;omega)];simp[zq a,zAN x.2 (hr x (fo a))]) (by unfold zfI;rw[if_neg si])];rfl
def zxe(l:List Plc)(h:l.length<=2000000):zjE l l=some true:=by
 unfold zjE zjD;rw[if_neg si,zq7 l h (zea l l) (λi x a=>by unfold zea znX zjC;rw[if_pos (by have:=zA a;simp;omega)];simp[zq a]) (by unfold zea;rw[if_neg si])];rfl
def zxf(l:List Plc)(h:l.length<=2000000):zgM l l=some true:=by
 unfold zgM zjF;rw[if_neg si,zq7 l h (zeb l l) (λi x a=>by unfold zeb znY zjC;rw[if_pos (by have:=zA a;simp;omega)];simp[zq a]) (by unfold zeb;rw[if_neg si])];rfl
def zsF{α:Type}(l:List α)(h:l.length<=2000000)(z:α)(F:List α×Int->Option ((List α×Int) ⊕ List α))(step:∀(a:List α)(i:Nat) x y,l[i]?=some x->a[i]?=some y->F (a,(i:Int))=some (.inl (a.set i x,w64 ((i:Int)+1))))(stop:∀a,F (a,(l.length:Int))=some (.inr a)):iter F (List.replicate l.length z,0)=some l:=by
 have key:=zz (F:=F) (λs=>∃i:Nat,s.2=(i:Int)/\i<=l.length/\s.1.length=l.length/\∀j,j<i->s.1[j]?=l[j]?) (λs=>((l.length:Int) - s.2).toNat) (λx=>x=l) ?_ (List.replicate l.length z,0) ⟨0,rfl,by omega,by simp,λj d=>by omega⟩
 ·obtain⟨x,g,rfl⟩:=key;exact g
 ·rintro⟨a,s⟩ ⟨i,e,hi,hl,d⟩;simp only at e hl d;subst e;by_cases b:i<l.length
  ·left;refine⟨_,step a i l[i] (a[i]'om) (cz b) (cz om),⟨i+1,by simp only;rw[zu om om];omega,by omega,by simp[hl],λj c=>?_⟩,by simp only;rw[zu om om];omega⟩;simp only;by_cases f:j=i
   ·subst f;rw[du om,cz b]
   ·rw[dt om];exact d j om
  ·right;have:i=l.length:=by omega
   subst this;exact⟨a,stop a,ca λj=>by
    by_cases c:j<l.length
    ·exact d j c
    ·rw[df om,df om]⟩
def zAq(l:List Int)(h:l.length<=2000000):zf3 l=some l:=by
 unfold zf3;rw[znR om om om];simp only[ic,bg];rw[zsF l h 0 (ze1 l) (λa i x y b c=>by unfold ze1;rw[if_pos (by have:=zA b;simp;omega)];simp[zq b,zq c]) (λa=>by unfold ze1;rw[if_neg si])];rfl
def zC0(l:List (List Int))(h:l.length<=2000000)(hr:∀x∈l,x.length<=2000000):zju l=some l:=by
 unfold zju;rw[znR om om om];simp only[ic,bg];rw[zsF l h [] (zd8 l) (λa i x y b c=>by unfold zd8;rw[if_pos (by have:=zA b;simp;omega)];simp[zq b,zq c,zAq x (hr x (fo b))]) (λa=>by unfold zd8;rw[if_neg si])];rfl
def zC1(l:List ((List UInt8)×Int))(h:l.length<=2000000):zlV l=some l:=by
 unfold zlV;rw[znR om om om];simp only[ic,bg];rw[zsF l h (([]:List UInt8),0) (zfG l) (λa i x y b c=>by unfold zfG zp0;rw[if_pos (by have:=zA b;simp;omega)];simp[zq b,zq c]) (λa=>by unfold zfG;rw[if_neg si])];rfl
def zCZ(l:List ((List UInt8)×List Int))(h:l.length<=2000000)(hr:∀x∈l,x.2.length<=2000000):zlU l=some l:=by
 unfold zlU;rw[znR om om om];simp only[ic,bg];rw[zsF l h (([]:List UInt8),[]) (zfF l) (λa i x y b c=>by unfold zfF zpZ;rw[if_pos (by have:=zA b;simp;omega)];simp[zq b,zq c,zAq x.2 (hr x (fo b))]) (λa=>by unfold zfF;rw[if_neg si])];rfl
def zwR(l:List Plc)(h:l.length<=2000000):zjt l=some l:=by
 unfold zjt;rw[znR om om om];simp only[ic,bg];rw[zsF l h ((0,0),0) (zd6 l) (λa i x y b c=>by unfold zd6 znU zjs;rw[if_pos (by have:=zA b;simp;omega)];simp[zq b,zq c]) (λa=>by unfold zd6;rw[if_neg si])];rfl
def zwS(l:List Plc)(h:l.length<=2000000):zgJ l=some l:=by
 unfold zgJ;rw[znR om om om];simp only[ic,bg];rw[zsF l h ((0,0),0) (zd7 l) (λa i x y b c=>by unfold zd7 znV zjs;rw[if_pos (by have:=zA b;simp;omega)];simp[zq b,zq c]) (λa=>by unfold zd7;rw[if_neg si])];rfl
def Mx:Nat:=9223372036854775807
def Sz(o:Option Int)(k:Int)(P:Prop):Prop:=∃r,o=some r/\(r<0\/(0<=r/\r<=k/\P))
def zC2{n:Nat}(hn:n<=Mx){k:Int}(h0:0<=k)(h1:k<=1048576):w64 (k - (n:Int))=k - (n:Int):=zax ⟨by unfold Mx at hn;omega,by omega⟩
def Sz.bind{o:Option Int}{k:Int}{P Q:Prop}{f:Int->Option Int}(h:Sz o k P)(hf:∀r,0<=r->r<=k->Sz (f r) r Q):Sz (o.bind λr=>if decide (r<0)then some (-1)else f r) k (P/\Q):=by
 obtain⟨r,rfl,d⟩:=h;simp only[ic];rcases d with d |⟨h0,h1,hP⟩
 ·rw[if_pos (by simpa using d)];exact⟨-1,rfl,.inl om⟩
 ·rw[if_neg so];obtain⟨i,e,g⟩:=hf r h0 h1;refine⟨i,e,?_⟩;rcases g with h |⟨a,b,c⟩
  ·exact .inl h
  ·exact .inr ⟨a,by omega,hP,c⟩
def Sz.fin{k:Int}(h0:0<=k):Sz (some k) k True:=⟨k,rfl,.inr ⟨h0,Int.le_refl _,trivial⟩⟩
def Sz.len{n:Nat}(hn:n<=Mx){k:Int}(h0:0<=k)(h1:k<=1048576){Q:Prop}{f:Int->Option Int}(hf:∀r,0<=r->r<=k->n<=1048576->Sz (f r) r Q):Sz (if decide (w64 (k - (n:Int))<0)then some (-1)else f (w64 (k - (n:Int)))) k (n<=1048576/\Q):=by
 rw[zC2 hn h0 h1];by_cases h:k - (n:Int)<0
 ·rw[if_pos (by simpa using h)];exact⟨-1,rfl,.inl om⟩
 ·rw[if_neg (by simpa using h)];obtain⟨g,e,d⟩:=hf (k - (n:Int)) om om om;refine⟨g,e,?_⟩;rcases d with h |⟨a,b,c⟩
  ·exact .inl h
  ·exact .inr ⟨a,by omega,by omega,c⟩
def zC3{α:Type}(l:List α)(hl:l.length<=1048576){k:Int}(h0:0<=k)(h1:k<=1048576)(s:α->Int->Option Int)(P:α->Prop)(hs:∀x∈l,∀k,0<=k->k<=1048576->Sz (s x k) k (P x))(F:Int×Int->Option ((Int×Int) ⊕ (Int ⊕ Int)))(hF:∀st,F st=if decide (st.2<(l.length:Int))then((idx l st.2).bind λx=>(s x st.1).bind λr=>if decide (r<0)then(some (.inr (.inr (-1))))else(some (.inl (r,w64 (st.2+1)))))else(some (.inr (.inl st.1)))):
  ∃z,iter F (k,0)=some z/\match z with | .inl r=>0<=r/\r<=k/\∀x∈l,P x | .inr r=>r<0:=by
 refine zz (F:=F) (λst=>∃i:Nat,st.2=(i:Int)/\i<=l.length/\0<=st.1/\st.1<=k/\∀(j:Nat) x,j<i->l[j]?=some x->P x) (λst=>((l.length:Int) - st.2).toNat) _ ?_ (k,0) ⟨0,rfl,by omega,h0,by simp,λj x d=>by omega⟩;rintro⟨b,p⟩ ⟨i,e,hi,g0,g1,g2⟩;simp only at e g0 g1;subst e;rw[hF];simp only;by_cases c:i<l.length
 ·have f:l[i]?=some l[i]:=cz c;rw[if_pos so];simp only[zq f,ic];obtain⟨r,n,m⟩:=hs _ (dx c) b g0 om;rw[n];simp only[ic];rcases m with h |⟨a1,a2,a3⟩
  ·right;rw[if_pos (by simpa using h)];exact⟨_,rfl,by simp⟩
  ·left;rw[if_neg so];refine⟨_,rfl,⟨i+1,by simp only;rw[zu om om];omega,by omega,a1,by simp only;omega,λj x d a=>?_⟩,by simp only;rw[zu om om];omega⟩;by_cases g:j=i
   ·subst g;rw[f]at a;injection a with a;subst a;exact a3
   ·exact g2 j x om a
 ·right;rw[if_neg so];refine⟨_,rfl,g0,g1,λx f=>?_⟩;obtain⟨j,d⟩:=dj f;exact g2 j x (by have:=zA d;omega) d
def zwa{α:Type}(l:List α)(hl:l.length<=1048576){k:Int}(h0:0<=k)(h1:k<=1048576)(s:α->Int->Option Int)(P:α->Prop)(hs:∀x∈l,∀k,0<=k->k<=1048576->Sz (s x k) k (P x))(F:Int×Int->Option ((Int×Int) ⊕ (Int ⊕ Int)))(hF:∀st,F st=if decide (st.2<(l.length:Int))then((idx l st.2).bind λx=>(s x st.1).bind λr=>if decide (r<0)then(some (.inr (.inr (-1))))else(some (.inl (r,w64 (st.2+1)))))else(some (.inr (.inl st.1)))):
  Sz ((iter F (k,0)).bind λx=>match x with | .inl z=>some z | .inr z=>some z) k (∀x∈l,P x):=by
 obtain⟨z,b,a⟩:=zC3 l hl h0 h1 s P hs F hF;rw[b];cases z with
 | inl r=>exact⟨r,rfl,.inr a⟩
 | inr r=>exact⟨r,rfl,.inl a⟩
def Sz.mono{o:Option Int}{k:Int}{P Q:Prop}(h:Sz o k P)(hPQ:P->Q):Sz o k Q:=by
 obtain⟨r,e,h |⟨a,b,c⟩⟩:=h
 ·exact⟨r,e,.inl h⟩
 ·exact⟨r,e,.inr ⟨a,b,hPQ c⟩⟩
def zAu{l:List Plc}(hl:l.length<=Mx){k:Int}(h0:0<=k)(h1:k<=1048576):Sz (zmK l k) k (l.length<=1048576):=
 (Sz.len hl h0 h1 (f:=λr=>some r) (λr a _ _=>Sz.fin a)).mono λh=>h.1
def zwU{l:List Plc}(hl:l.length<=Mx){k:Int}(h0:0<=k)(h1:k<=1048576):Sz (zjv l k) k (l.length<=1048576):=
 (Sz.len hl h0 h1 (f:=λr=>some r) (λr a _ _=>Sz.fin a)).mono λh=>h.1
def zAv{l:List Int}(hl:l.length<=Mx){k:Int}(h0:0<=k)(h1:k<=1048576):Sz (zer l k) k (l.length<=1048576):=
 (Sz.len hl h0 h1 (f:=λr=>some r) (λr a _ _=>Sz.fin a)).mono λh=>h.1
def zC6{x:(List UInt8)×Int}(hl:x.1.length<=Mx){k:Int}(h0:0<=k)(h1:k<=1048576):Sz (znu x k) k (x.1.length<=1048576):=
 (Sz.len hl h0 h1 (f:=λr=>some r) (λr a _ _=>Sz.fin a)).mono λh=>h.1
def zC4{x:(List UInt8)×List Int}(hl:x.1.length<=Mx)(hl2:x.2.length<=Mx){k:Int}(h0:0<=k)(h1:k<=1048576):Sz (zns x k) k (x.1.length<=1048576/\x.2.length<=1048576):=
 (Sz.len hl h0 h1 (f:=λr=>(zer x.2 r).bind λc=>if decide (c<0)then(some (-1))else(some c)) (λr a b _=>(zAv hl2 a om).bind λr a _=>Sz.fin a)).mono λh=>⟨h.1,h.2.1⟩
def zBT{l:List ((List UInt8)×Int)}(hl:l.length<=Mx)(hx:∀x∈l,x.1.length<=Mx){k:Int}(h0:0<=k)(h1:k<=1048576):Sz (zoR l k) k (l.length<=1048576/\∀x∈l,x.1.length<=1048576):=
 Sz.len hl h0 h1 (f:=λr=>(iter (zih l) (r,0)).bind λc=>match c with | .inl z=>zlm z | .inr z=>some z) (λr a b d=>zwa l d a om znu _ (λx hm k a b=>zC6 (hx x hm) a b) (zih l) λst=>rfl)
def zBS{l:List ((List UInt8)×List Int)}(hl:l.length<=Mx)(hx:∀x∈l,x.1.length<=Mx/\x.2.length<=Mx){k:Int}(h0:0<=k)(h1:k<=1048576):Sz (zoQ l k) k (l.length<=1048576/\∀x∈l,x.1.length<=1048576/\x.2.length<=1048576):=
 Sz.len hl h0 h1 (f:=λr=>(iter (zig l) (r,0)).bind λc=>match c with | .inl z=>zll z | .inr z=>some z) (λr a b d=>zwa l d a om zns _ (λx hm k a b=>zC4 (hx x hm).1 (hx x hm).2 a b) (zig l) λst=>rfl)
def zC5{l:List (List Int)}(hl:l.length<=Mx)(hx:∀x∈l,x.length<=Mx){k:Int}(h0:0<=k)(h1:k<=1048576):Sz (zmL l k) k (l.length<=1048576/\∀x∈l,x.length<=1048576):=
 Sz.len hl h0 h1 (f:=λr=>(iter (zgl l) (r,0)).bind λc=>match c with | .inl z=>zjw z | .inr z=>some z) (λr a b d=>zwa l d a om zer _ (λx hm k a b=>zAv (hx x hm) a b) (zgl l) λst=>rfl)
def zCJ{l:List Plc}(hl:l.length<=Mx){k:Int}(h0:0<=k)(h1:k<=1048576):Sz (zfH l k) k (l.length<=1048576):=
 ((zAu hl h0 h1).bind λr a _=>Sz.fin a).mono λh=>h.1
abbrev En:=(List UInt8)×Sy×List Plc×Prf
structure EB(p:En):Prop where
 n:p.1.length<=Mx
 g:p.2.1.1.1.length<=Mx
 gn:∀x∈p.2.1.1.1,x.1.length<=Mx
 t:p.2.1.1.2.length<=Mx
 tn:∀x∈p.2.1.1.2,x.1.length<=Mx/\x.2.length<=Mx
 s:p.2.1.2.1.length<=Mx
 a:p.2.2.1.length<=Mx
 q1:p.2.2.2.2.1.length<=Mx
 q2:p.2.2.2.2.2.1.length<=Mx
 c:p.2.2.2.2.2.2.1.length<=Mx
 f:p.2.2.2.2.2.2.2.length<=Mx
 fn:∀x∈p.2.2.2.2.2.2.2,x.length<=Mx
def ES(p:En):Prop:=p.1.length<=1048576/\Tame p.2.1.1/\p.2.1.2.1.length<=1048576/\p.2.2.1.length<=1048576/\p.2.2.2.2.1.length<=1048576/\p.2.2.2.2.2.1.length<=1048576/\p.2.2.2.2.2.2.1.length<=1048576/\p.2.2.2.2.2.2.2.length<=1048576/\∀x∈p.2.2.2.2.2.2.2,x.length<=1048576
def zyP{p:En}(h:EB p):Sz (zjx p 1048576) 1048576 (ES p):=by
 have i:∀k,0<=k->k<=1048576->Sz (zkM p.2.1 k) k (Tame p.2.1.1/\p.2.1.2.1.length<=1048576):=λk a b=>by
  have l:Sz (zmJ p.2.1.1 k) k (Tame p.2.1.1):=
   ((zBT h.g h.gn a b).bind λr a b=>(zBS h.t h.tn a om).bind λr a b=>Sz.fin a).mono λh=>⟨h.1.1,h.2.1.1,h.1.2,λx j=>(h.2.1.2 x j).1,λx j=>(h.2.1.2 x j).2⟩
  exact(l.bind λr a b=>(zCJ h.s a om).bind λr a b=>Sz.fin a).mono λh=>⟨h.1,h.2.1⟩
 have g:∀k,0<=k->k<=1048576->Sz (zlW p.2.2.2 k) k (p.2.2.2.2.1.length<=1048576/\p.2.2.2.2.2.1.length<=1048576/\p.2.2.2.2.2.2.1.length<=1048576/\p.2.2.2.2.2.2.2.length<=1048576/\∀x∈p.2.2.2.2.2.2.2,x.length<=1048576):=λk a b=>
  ((zwU h.q1 a b).bind λr a b=>(zwU h.q2 a om).bind λr a b=>(zAv h.c a om).bind λr a b=>(zC5 h.f h.fn a om).bind λr a b=>Sz.fin a).mono λh=>⟨h.1,h.2.1,h.2.2.1,h.2.2.2.1.1,h.2.2.2.1.2⟩
 exact(Sz.len h.n om om (f:=λr=>(zkM p.2.1 r).bind λe=>if decide (e<0)then(some (-1))else((zfH p.2.2.1 e).bind λc=>if decide (c<0)then(some (-1))else((zlW p.2.2.2 c).bind λd=>if decide (d<0)then(some (-1))else(some d))))
  (λr a b _=>(i r a om).bind λr a b=>(zCJ h.a a om).bind λr a b=>(g r a om).bind λr a b=>Sz.fin a)).mono λh=>⟨h.1,h.2.1.1,h.2.1.2,h.2.2.1,h.2.2.2.1.1,h.2.2.2.1.2.1,h.2.2.2.1.2.2.1,h.2.2.2.1.2.2.2.1,h.2.2.2.1.2.2.2.2⟩
def zoE{p:En}(h:ES p):zbN p=some p:=by
 obtain⟨l,d,q,k,n,f,m,j,c⟩:=h;obtain⟨i,g,r,e,b⟩:=d;unfold zbN znT zmH zif zoP;rw[zC1 _ om,zCZ _ om (λx a=>by have:=b x a;omega),zwR _ om,zwR _ om,zwS _ om,zwS _ om,zAq _ om,zC0 _ om (λx a=>by have:=c x a;omega)];rfl
def zwH{p:En}(h:ES p):zlZ p p=some true:=by
 obtain⟨l,d,q,k,n,f,m,j,c⟩:=h;obtain⟨i,g,r,e,b⟩:=d;unfold zlZ znW zmN zij zoS;rw[zDb _ om,zC9 _ om (λx a=>by have:=b x a;omega),zxe _ om,zxe _ om,zxf _ om,zxf _ om,zAN _ om,zDa _ om (λx a=>by have:=c x a;omega)];simp
def zxY{set:TSet}{ts asm:List Plc}(hT:Tame set)(hts:ts.length<=1048576)(t:Int)(hasm:asm.length<=1048576)(pf:Prf)(h:zct (set,ts,t) asm pf=some 0):
  SetOk set/\AsmOk set ts/\AsmOk set asm/\1<=pf.1/\pf.1<=6:=by
 obtain⟨v,f,i,e⟩:=zpv hT hts t;unfold zct zim at h;rw[f]at h;simp only[ic]at h;cases v with
 | false=>simp[zaN]at h
 | true=>
  obtain⟨hS,hA⟩:=e rfl;obtain⟨b,d,g⟩:=znD set hT asm om;rw[d]at h;simp only[ic,bb,az,if_false]at h;cases b with
  | false=>simp[zaN]at h
  | true=>
   have c:=(g.1 rfl).2;simp only[zaN,bb,az,if_false,ic,decide_true,zbe]at h;by_cases a:1<=pf.1/\pf.1<=6
   ·exact⟨hS,hA,c,a.1,a.2⟩
   ·rw[decide_eq_false a]at h;simp at h
def zqT{p:En}(h:ES p):∃r,zfQ p=some r/\zhV p=some r/\(r=true->NameOk p.1/\SetOk p.2.1.1/\AsmOk p.2.1.1 p.2.1.2.1/\AsmOk p.2.1.1 p.2.2.1/\1<=p.2.2.2.1/\p.2.2.2.1<=6):=by
 obtain⟨q,c,d,a,i,e,g,n,l⟩:=h;obtain⟨nm,⟨set,ts,t⟩,asm,j⟩:=p;simp only at q c d a i e g n l;obtain⟨b,m,u,v⟩:=zho nm om;obtain⟨r,f,k⟩:=zvt c d t a j i e g;unfold zfQ zhV;simp only;rw[m,u];simp only[ic];cases b with
 | false=>exact⟨false,rfl,rfl,λh=>by cases h⟩
 | true=>
  rw[f,k];refine⟨_,rfl,rfl,λh=>?_⟩;have s:r=0:=by simpa using h
  subst s;exact⟨v.1 rfl,zxY c d t a j f⟩
end Go.Lf
namespace Go.Lf
open Go
def zI{s t:List UInt8}(h:s.length+t.length<=9223372036854775807):zaI s t=some (s++t):=by unfold zaI;rw[if_pos h]
def zaL{l l2:List Int}(h:l.length+l2.length<=140737488355328):app 1 l l2=some (l++l2):=by
 unfold app;rw[if_pos ⟨by omega,by omega⟩]
def zBy{m:Int}{out:List UInt8}(hm:m≠0)(hI:I64 m)(ho:out.length<=1000):
  zaH (out,m)=some (.inl (UInt8.ofNat (48+m.natAbs % 10)::out,Int.tdiv m 10)):=by
 have key:∀d:Nat,d<10->zfE (out,m) (d:Int)=some (.inl (UInt8.ofNat (48+d)::out,Int.tdiv m 10)):=by
  intro d hd;unfold zfE;have c:w64 (48+(d:Int))=48+(d:Int):=zax ⟨by omega,by omega⟩;have b:zV [IntKind.wrap .u8 (w64 (48+(d:Int)))]=[UInt8.ofNat (48+d)]:=by
   rw[c];have:IntKind.wrap .u8 (48+(d:Int))=48+(d:Int):=by
    have h:d=0\/d=1\/d=2\/d=3\/d=4\/d=5\/d=6\/d=7\/d=8\/d=9:=by omega
    rcases h with rfl | rfl | rfl | rfl | rfl | rfl | rfl | rfl | rfl | rfl<;>rfl
   rw[this];show[((48+(d:Int)).toNat).toUInt8]=_;rw[show(48+(d:Int)).toNat=48+d by omega]
  have f:w64 (Int.tdiv m 10)=Int.tdiv m 10:=by
   refine zax ?_;obtain⟨j,i⟩:=hI;have g:(Int.tdiv m 10).natAbs=m.natAbs / 10:=by rw[Int.natAbs_tdiv];rfl
   exact⟨by omega,by omega⟩
  rw[b,zI so,f];rfl
 unfold zaH;rw[if_pos (by simpa using hm)];obtain⟨k,rfl | rfl⟩:=Int.eq_nat_or_neg m
 ·have e:Int.tmod (k:Int) 10=((k % 10:Nat):Int):=rfl;simp only[e];rw[if_neg so,key (k % 10) om];rfl
 ·have e:Int.tmod (-(k:Int)) 10 = -((k % 10:Nat):Int):=by rw[Int.neg_tmod];rfl
  simp only[e];by_cases a:k % 10=0
  ·rw[if_neg (by simp[a])];have:=key 0 om;simp only[a]at this ⊢;rw[Int.natAbs_neg,Int.natAbs_natCast,a];simpa using this
  ·rw[if_pos so];have b:w64 (0 - -((k % 10:Nat):Int))=((k % 10:Nat):Int):=by rw[zax ⟨by omega,by omega⟩];omega
   rw[b,key (k % 10) om,Int.natAbs_neg,Int.natAbs_natCast]
def zBz:∀(u:Nat)(m:Int)(out:List UInt8),m.natAbs=u->m≠0->I64 m->out.length+Go.Lib.nDigits u<=1000->iter zaH (out,m)=some (Go.Lib.decDigits u++out):=by
 intro u
 induction u using Nat.strongRecOn with
 | _ u ih=>
  intro m out b hm a e;have i:1<=Go.Lib.nDigits u:=by rw[Go.Lib.nDigits];split<;>omega
  rw[zv (zBy hm a om),b];have c:(Int.tdiv m 10).natAbs=u / 10:=by rw[Int.natAbs_tdiv,b];rfl
  by_cases h:u<10
  ·have d:Int.tdiv m 10=0:=by omega
   rw[d,Go.Lib.decDigits,dif_pos h,Nat.mod_eq_of_lt h];have:zaH (UInt8.ofNat (48+u)::out,0)=some (.inr (UInt8.ofNat (48+u)::out)):=by unfold zaH;rfl
   rw[zC this];rfl
  ·rw[ih (u / 10) om _ _ c om ?_ ?_]
   ·conv=>rhs;rw[Go.Lib.decDigits,dif_neg h]
    simp
   ·obtain⟨g,f⟩:=a;constructor<;>omega
   ·have:Go.Lib.nDigits u=Go.Lib.nDigits (u / 10)+1:=by conv=>lhs;rw[Go.Lib.nDigits,dif_neg h]
    simp only[dz];omega
def zuz:∀(k u:Nat),u<10 ^ k->0<k->Go.Lib.nDigits u<=k:=by
 intro k
 induction k with
 | zero=>intro u _ h;omega
 | succ k ih=>
  intro u b _;rw[Go.Lib.nDigits];split
  ·omega
  ·rename_i h;have a:0<k:=by
    rcases Nat.eq_zero_or_pos k with rfl | a
    ·simp at b;omega
    ·exact a
   have:=ih (u / 10) (by rw[Nat.pow_succ]at b;omega) a;omega
def zk0{n:Int}(h:I64 n):za2 n=some (Go.Lib.itoa n):=by
 unfold za2;by_cases b:n=0
 ·subst b;have:zaH (([]:List UInt8),0)=some (.inr []):=by unfold zaH;rfl
  rw[zC this];show zdB 0 []=_;unfold zdB Go.Lib.itoa;rw[if_pos (by decide),if_neg (by decide),Go.Lib.decDigits,dif_pos (by decide)];rfl
 ·have hd:Go.Lib.nDigits n.natAbs<=20:=zuz 20 _ (by obtain⟨c,d⟩:=h;omega) om;rw[zBz n.natAbs n [] rfl b h so,bp];show zdB n _=_;unfold zdB;rw[if_neg (by simpa using b)];unfold Go.Lib.itoa;by_cases a:n<0
  ·rw[if_pos (by simpa using a),if_pos a,zI (by rw[Go.Lib.decDigits_length];simp;omega)];rfl
  ·rw[if_neg (by simpa using a),if_neg a,show n.natAbs=n.toNat by omega]
def zsk(n:Int):zfw n=some (Go.Lib.itoa n):=rfl
def za7{n:Int}(h:I64 n):(Go.Lib.itoa n).length<=21:=by
 have hd:∀u,u<10 ^ 20->(Go.Lib.decDigits u).length<=20:=λu a=>by rw[Go.Lib.decDigits_length];exact zuz 20 u a om
 obtain⟨b,c⟩:=h;unfold Go.Lib.itoa;split
 ·have:=hd n.natAbs om;simp;omega
 ·have:=hd n.toNat om;omega
abbrev NB:Nat:=140737488355328
def zqb{α:Type}(l:List α)(i:Nat):idx l (i:Int)=l[i]?:=by unfold idx;rw[if_pos om];rfl
def zbY{S α β R:Type}(N:Nat)(F:S->Option (S ⊕ R))(mk:List β->Int->S)(fin:List β->R)(xs:List α)(pc:α->List β)(hstep:∀a (i:Nat) x,xs[i]?=some x->a.length+(pc x).length<=N->F (mk a i)=some (.inl (mk (a++pc x) ((i+1:Nat):Int))))(hend:∀a,F (mk a (xs.length:Int))=some (.inr (fin a)))(a:List β)(c:a.length+(xs.flatMap pc).length<=N):
  iter F (mk a 0)=some (fin (a++xs.flatMap pc)):=by
 have key:∀k i a,i+k=xs.length->a.length+((xs.drop i).flatMap pc).length<=N->iter F (mk a (i:Int))=some (fin (a++(xs.drop i).flatMap pc)):=by
  intro k
  induction k with
  | zero=>
   intro i a hi _;have:i=xs.length:=by omega
   subst this;rw[zC (hend a)];simp
  | succ k ih=>
   intro i a hi c;have b:i<xs.length:=by omega
   rw[br b,cn]at c ⊢;rw[dy]at c;rw[zv (hstep a i xs[i] (cz b) om),ih (i+1) (a++pc xs[i]) om (by rw[dy];omega),bl]
 have:=key xs.length 0 a om (by simpa using c);simpa using this
def zfT{α β:Type}(xs:List α)(pc:α->List β)(M:Nat)(h:∀x∈xs,(pc x).length<=M):(xs.flatMap pc).length<=xs.length*M:=by
 induction xs with
 | nil=>simp
 | cons x xs ih=>
  rw[cn,dy,dz,gz];have b:=h x si;have c:=ih λy a=>h y (by simp[a]);omega
def zcu(a b:List UInt8):zy (a++b)=zy a++zy b:=by simp[zy]
def zF(a:List UInt8):(zy a).length=a.length:=by simp[zy]
def zS{α:Type}(xs:List α)(pc:α->List UInt8):xs.flatMap (λx=>zy (pc x))=zy (xs.flatMap pc):=by
 induction xs with
 | nil=>rfl
 | cons x xs ih=>rw[cn,cn,zcu,ih]
def zeE:∀s:List UInt8,zV (zy s)=s
 |[]=>rfl
 | b::s=>by
  have a:=zeE s;unfold zV zy at a ⊢;rw[fd,fd,a];congr 1;show((b.toNat:Int).toNat).toUInt8=b;simp
def zdn{i n:Nat}(h:i<n)(hn:n<=1048576):w64 ((i:Int)+1)=((i+1:Nat):Int):=by rw[zax ⟨by omega,by omega⟩];omega
def zoz{α:Type}{l:List α}{i:Nat}{x:α}(h:l[i]?=some x):i<l.length:=(dg.1 h).1
def zo6{α:Type}{l:List α}{i:Nat}{x:α}(h:l[i]?=some x):x∈l:=by obtain⟨a,b⟩:=dg.1 h;rw[←b];exact dx a
def zqp(ws:List (List UInt8))(h1:ws.length<=2000000)(h2:(Go.Lib.join ws [32]).length<=NB - 1):ze3 ws=some (Go.Lib.join ws [32]++[10]):=by
 unfold ze3 strings_Join;have:NB - 1=140737488355327:=rfl;rw[if_pos ⟨by omega,by omega⟩];simp only[ic];rw[zI so];rfl
def zmd(w:List UInt8)(l:List (List UInt8)):Go.Lib.join (w::l) [32]=w++l.flatMap λx=>[32]++x:=by
 induction l generalizing w with
 | nil=>simp[Go.Lib.join,List.intercalate]
 | cons x l ih=>
  have e:Go.Lib.join (w::x::l) [32]=w++[32]++Go.Lib.join (x::l) [32]:=by simp[Go.Lib.join,List.intercalate]
  rw[e,ih x,cn];simp
def zdu(w:List UInt8)(l:List Int):List UInt8:=w++(l.flatMap λn=>[32]++Go.Lib.itoa n)++[10]
def zqo{w:List UInt8}{l:List Int}(hl:∀n∈l,I64 n):(zdu w l).length<=w.length+l.length*22+1:=by
 unfold zdu;have:=zfT l (λn=>[32]++Go.Lib.itoa n) 22 (λn a=>by have:=za7 (hl n a);simp;omega);simp only[dy,dz,eh]at this ⊢;omega
def zvA{w:List UInt8}{l:List Int}(hw:w.length<=100)(hl:l.length<=1048576)(hI:∀n∈l,I64 n):zfz w l=some (zdu w l):=by
 have hlen:=zqo (w:=w) hI;have e:=zfT l (λn=>[32]++Go.Lib.itoa n) 22 (λn g=>by have:=za7 (hI n g);simp;omega);unfold zfz;have:=zbY NB (zc8 l) (λa i=>(a,i)) (λa=>a) l (λn=>[32]++Go.Lib.itoa n) (λd i x b f=>by
   have c:=zoz b;have hi:=za7 (hI x (zo6 b));unfold zc8;simp only[zqb,b,ic];rw[if_pos so,zk0 (hI x (zo6 b))];simp only[ic];rw[zI so];simp only[ic];rw[zI (by have:NB=140737488355328:=rfl;simp only[dy]at f ⊢;omega)];simp only[ic];rw[zdn c hl]) (λd=>by unfold zc8;simp) w (by have:NB=140737488355328:=rfl;omega)
 rw[this];simp only[ic];unfold zis;rw[zI (by simp only[dy,dz,eh]at e ⊢;omega)];rfl
def zqq{w:List UInt8}{l:List Int}(hw:w.length<=100)(hl:l.length<=1048576)(hI:∀n∈l,I64 n):zbC w l=some (zdu w l):=by
 have g:=zfT l (λn=>[32]++Go.Lib.itoa n) 22 (λn k=>by have:=za7 (hI n k);simp;omega);unfold zbC;have d:∀l:List Int,(l.flatMap λn=>[Go.Lib.itoa n])=l.map Go.Lib.itoa:=λl=>by induction l with | nil=>rfl | cons x l ih=>rw[cn,ih];rfl
 have:=zbY 2000000 (zcF l) (λa i=>(a,i)) (λa=>a) l (λn=>[Go.Lib.itoa n]) (λb i x f j=>by
   have c:=zoz f;unfold zcF;simp only[zqb,f,ic,zsk];rw[if_pos so];have h:app 16 b [Go.Lib.itoa x]=some (b++[Go.Lib.itoa x]):=by
    simp only[dz,eh]at j;unfold app;rw[if_pos ⟨by simp;omega,by simp;omega⟩]
   rw[h];simp only[ic];rw[zdn c hl]) (λb=>by unfold zcF;simp) [w] (by rw[d];simp;omega)
 rw[this,d];simp only[ic];unfold zhP;have e:Go.Lib.join ([w]++l.map Go.Lib.itoa) [32]=w++l.flatMap λn=>[32]++Go.Lib.itoa n:=by
  show Go.Lib.join (w::l.map Go.Lib.itoa) [32]=_;rw[zmd,List.flatMap_map]
 rw[zqp _ so (by rw[e];have:NB - 1=140737488355327:=rfl;simp only[dy]at g ⊢;omega),e];rfl
variable {set:TSet}
def nbv:NB=140737488355328:=rfl
def ptT(p:Pt):List UInt8:=Go.Lib.itoa p.1++[44]++Go.Lib.itoa p.2
def ztq{p:Pt}(h:ptB p=true):I64 p.1/\I64 p.2:=by
 unfold ptB at h;simp at h;exact⟨⟨by omega,by omega⟩,⟨by omega,by omega⟩⟩
def zrX{p:Pt}(h:ptB p=true):(ptT p).length<=43:=by
 have a:=za7 (ztq h).1;have b:=za7 (ztq h).2;unfold ptT;simp;omega
def zw4{p:Pt}(h:ptB p=true):zgC p=some (ptT p):=by
 have a:=za7 (ztq h).1;have b:=za7 (ztq h).2;unfold zgC;rw[zmj,h];simp only[ic,bb,az,if_false];rw[zk0 (ztq h).1,zk0 (ztq h).2];simp only[ic];rw[zI so];simp only[ic];rw[zI so];rfl
def zxJ{p:Pt}(h:ptB p=true):zgT p=some (ptT p):=by
 have a:=za7 (ztq h).1;have b:=za7 (ztq h).2;unfold zgT;rw[zoU,h];simp only[ic,bb,az,if_false,zsk];rw[zI so];simp only[ic];rw[zI so];rfl
def zoy(g:Gl):List UInt8:=[103,108,117,101,32]++g.1++[32]++Go.Lib.itoa g.2++[10]
def nmT(set:TSet)(s:Int):List UInt8:=if s=0 then[45]else((idx set.1 (s - 1)).map (·.1)).getD []
def zlF(set:TSet)(s:Int):List UInt8:=[32]++nmT set s
def zmh(set:TSet)(t:Tl):List UInt8:=[116,105,108,101,32]++t.1++t.2.flatMap (zlF set)++[10]
def zvd(set:TSet):List UInt8:=set.1.flatMap zoy++set.2.flatMap (zmh set)
def zwD(hS:SetOk set){s:Int}(h0:s≠0)(h1:0<=s)(h2:s<=set.1.length):∃g,idx set.1 (s - 1)=some g/\g.1.length<=12/\g∈set.1:=by
 have a:(s - 1).toNat<set.1.length:=by omega
 refine⟨set.1[(s - 1).toNat],?_,(hS.glue _ a _ (cz a)).1.2.1,dx _⟩;unfold idx;rw[if_pos om,cz a]
def zuw{s:Int}(h0:s≠0){g:Gl}(h:idx set.1 (s - 1)=some g):nmT set s=g.1:=by unfold nmT;rw[if_neg h0,h];rfl
def zwn(hS:SetOk set){s:Int}(h1:0<=s)(h2:s<=set.1.length):(nmT set s).length<=12:=by
 by_cases a:s=0
 ·subst a;unfold nmT;simp
 ·obtain⟨g,b,c,_⟩:=zwD hS a h1 h2;rw[zuw a b];exact c
def zsR(hS:SetOk set){s:Int}(h1:0<=s)(h2:s<=set.1.length):(zlF set s).length<=13:=by
 have:=zwn hS h1 h2;unfold zlF;simp;omega
def zrQ(hS:SetOk set){t:Tl}(ht:t∈set.2):t.1.length<=12/\t.2.length=4/\∀x∈t.2,0<=x/\x<=set.1.length:=by
 obtain⟨i,hi⟩:=dj ht;have:=hS.tile i (zoz hi) t hi;exact⟨this.1.2.1,this.2.1,this.2.2.2⟩
def zwC(hS:SetOk set){g:Gl}(hg:g∈set.1):g.1.length<=12/\I64 g.2:=by
 obtain⟨i,hi⟩:=dj hg;have:=hS.glue i (zoz hi) g hi;exact⟨this.1.2.1,⟨by omega,by omega⟩⟩
def zzZ(hS:SetOk set){g:Gl}(hg:g∈set.1):(zoy g).length<=40:=by
 obtain⟨b,a⟩:=zwC hS hg;have:=za7 a;unfold zoy;simp;omega
def zzi(hS:SetOk set){t:Tl}(ht:t∈set.2):(zmh set t).length<=70:=by
 obtain⟨c,d,b⟩:=zrQ hS ht;have:=zfT t.2 (zlF set) 13 (λx a=>zsR hS (b x a).1 (b x a).2);unfold zmh;simp only[dy,dz,eh]at this ⊢;omega
def zpO(hS:SetOk set):(set.1.flatMap zoy).length<=8000/\(set.2.flatMap (zmh set)).length<=11200:=by
 have c:=zfT set.1 zoy 40 (λg a=>zzZ hS a);have d:=zfT set.2 (zmh set) 70 (λt b=>zzi hS b);have:=hS.glues;have:=hS.tiles;constructor<;>omega
def zx9(hS:SetOk set){s:Int}(h1:0<=s)(h2:s<=set.1.length):zha set s=some (nmT set s):=by
 unfold zha;by_cases a:s=0
 ·subst a;rfl
 ·obtain⟨g,b,c,_⟩:=zwD hS a h1 h2;have:=hS.glues;rw[if_neg (by simpa using a),zax ⟨by omega,by omega⟩,b,zuw a b];rfl
def zzp(hS:SetOk set):znh set=some (zvd set):=by
 obtain⟨E,B⟩:=zpO hS;have q:=hS.glues;have u:=hS.tiles;unfold znh;have G:=zbY NB (zeL set) (λa i=>(a,i)) (λa=>a) set.1 (λg=>zy (zoy g)) (λb i g p n=>by
   have c:=zoz p;obtain⟨F,m⟩:=zwC hS (zo6 p);have l:=za7 m;unfold zeL;simp only[zqb,p,ic];rw[if_pos so,zk0 m,zI so];simp only[ic];rw[zI so];simp only[ic];rw[zI so];simp only[ic];rw[zI so];simp only[ic];have e:[103,108,117,101,32]++g.1++[32]++Go.Lib.itoa g.2++[10]=zoy g:=rfl;rw[e,zaL (by rw[nbv]at n;exact n)];simp only[ic];rw[zdn c om]) (λb=>by unfold zeL;simp) [] (by rw[zS,zF,nbv];simp only[eh];omega)
 rw[show iter (zeL set) (([]:List Int),0)=_ from G,zS,ft];simp only[ic];unfold zmv;have D:=zbY NB (zeK set) (λa i=>(a,i)) (λa=>a) set.2 (λt=>zy (zmh set t)) (λb i t k n=>by
   have c:=zoz k;obtain⟨F,m,l⟩:=zrQ hS (zo6 k);have C:=zfT t.2 (zlF set) 13 (λx w=>zsR hS (l x w).1 (l x w).2);rw[zF,nbv]at n;have z:(zmh set t).length=6+t.1.length+(t.2.flatMap (zlF set)).length:=by unfold zmh;simp;omega
   unfold zeK;simp only[zqb,k,ic];rw[if_pos so,zI so];simp only[ic];rw[zaL (by rw[zF];simp;omega)];simp only[ic];have A:=zbY NB (zeJ set (b,(i:Int)) t) (λa i=>(a,i)) (λa=>a) t.2 (λs=>zy (zlF set s)) (λd j s hs h=>by
     have f:=zoz hs;obtain⟨v,y⟩:=l s (zo6 hs);have H:=zwn hS v y;unfold zeJ;simp only[zqb,k,hs,ic];rw[if_pos so,zx9 hS v y];simp only[ic];rw[zI so];simp only[ic];have e:[32]++nmT set s=zlF set s:=rfl;rw[e,zaL (by rw[nbv]at h;exact h)];simp only[ic];rw[zdn f om]) (λd=>by unfold zeJ;simp[m]) (b++zy ([116,105,108,101,32]++t.1)) (by
     rw[zS,dy,zF,zF,nbv];simp only[dy,dz,eh];omega)
   rw[show iter (zeJ set (b,(i:Int)) t) (b++zy ([116,105,108,101,32]++t.1),0)=_ from A,zS];simp only[ic];unfold zmt;have r:([10]:List Int)=zy [10]:=rfl;rw[r,zaL (by simp only[dy,zF,dz,eh];omega)];simp only[ic];rw[zdn c om];have e:b++zy ([116,105,108,101,32]++t.1)++zy (t.2.flatMap (zlF set))++zy [10]=b++zy (zmh set t):=by
    unfold zmh;simp only[zcu,bl]
   rw[e]) (λb=>by unfold zeK;simp) (zy (set.1.flatMap zoy)) (by rw[zS,zF,zF,nbv];omega)
 rw[show iter (zeK set) (zy (set.1.flatMap zoy),0)=_ from D,zS,←zcu];simp only[ic];unfold zmu;rw[zeE];rfl
def zzU(hS:SetOk set):zl1 set=some (zvd set):=by
 obtain⟨E,B⟩:=zpO hS;have q:=hS.glues;have r:=hS.tiles;unfold zl1;have G:=zbY NB (zdF set) (λa i=>(i,a)) (λa=>a) set.1 (λg=>zy (zoy g)) (λb i g h n=>by
   have f:=zoz h;obtain⟨F,w⟩:=zwC hS (zo6 h);have m:=za7 w;unfold zdF;simp only[zqb,h,ic,zsk];rw[if_pos so,zI so];simp only[ic];rw[zI so];simp only[ic];rw[zI so];simp only[ic];rw[zI so];simp only[ic];have e:[103,108,117,101,32]++g.1++[32]++Go.Lib.itoa g.2++[10]=zoy g:=rfl;rw[e,zaL (by rw[nbv]at n;exact n)];simp only[ic];rw[zdn f om]) (λb=>by unfold zdF;simp) [] (by rw[zS,zF,nbv];simp only[eh];omega)
 rw[show iter (zdF set) (0,([]:List Int))=_ from G,zS,ft];simp only[ic];unfold zlt;have D:=zbY NB (zdE set) (λa i=>(i,a)) (λa=>a) set.2 (λt=>zy (zmh set t)) (λb i t p n=>by
   have f:=zoz p;obtain⟨F,w,m⟩:=zrQ hS (zo6 p);have C:=zfT t.2 (zlF set) 13 (λx v=>zsR hS (m x v).1 (m x v).2);rw[zF,nbv]at n;have z:(zmh set t).length=6+t.1.length+(t.2.flatMap (zlF set)).length:=by unfold zmh;simp;omega
   unfold zdE;simp only[zqb,p,ic];rw[if_pos so,zI so];simp only[ic];rw[zaL (by rw[zF];simp;omega)];simp only[ic];have A:=zbY NB (zdD set t) (λa i=>(i,a)) (λa=>a) t.2 (λs=>zy (zlF set s)) (λk j s hs c=>by
     have d:=zoz hs;obtain⟨u,y⟩:=m s (zo6 hs);have H:=zwn hS u y;unfold zdD;simp only[zqb,hs,ic];rw[if_pos so];by_cases l:s=0
     ·subst l;rw[if_pos si];have e:([32,45]:List UInt8)=zlF set 0:=rfl;rw[e,zaL (by rw[nbv]at c;exact c)];simp only[ic];unfold zfM;rw[zdn d om]
     ·obtain⟨g,h,I,_⟩:=zwD hS l u y;rw[if_neg (by simpa using l),zax ⟨by omega,by omega⟩,h];simp only[ic];rw[zI so];simp only[ic];have e:[32]++g.1=zlF set s:=by unfold zlF;rw[zuw l h]
      rw[e,zaL (by rw[nbv]at c;exact c)];simp only[ic];unfold zfM;rw[zdn d om]) (λk=>by unfold zdD;simp) (b++zy ([116,105,108,101,32]++t.1)) (by
     rw[zS,dy,zF,zF,nbv];simp only[dy,dz,eh];omega)
   rw[show iter (zdD set t) (0,b++zy ([116,105,108,101,32]++t.1))=_ from A,zS];simp only[ic];unfold zlr;rw[zaL (by simp only[dy,zF,dz,eh];omega)];simp only[ic];rw[zdn f om];have e:b++zy ([116,105,108,101,32]++t.1)++zy (t.2.flatMap (zlF set))++zy [10]=b++zy (zmh set t):=by
    unfold zmh;simp only[zcu,bl]
   rw[e]) (λb=>by unfold zdE;simp) (zy (set.1.flatMap zoy)) (by rw[zS,zF,zF,nbv];omega)
 rw[show iter (zdE set) (0,zy (set.1.flatMap zoy))=_ from D,zS,←zcu];simp only[ic];unfold zls;rw[zeE];rfl
variable {set:TSet}
def tnT(set:TSet)(k:Int):List UInt8:=((idx set.2 k).map (·.1)).getD []
def zfm(set:TSet)(w:List UInt8)(x:Plc):List UInt8:=w++[32]++tnT set x.2++[32]++ptT x.1++[10]
def zry(hS:SetOk set){k:Int}(h1:0<=k)(h2:k<=(set.2.length:Int) - 1):∃t,idx set.2 k=some t/\t.1.length<=12/\tnT set k=t.1:=by
 have a:k.toNat<set.2.length:=by omega
 have e:idx set.2 k=some set.2[k.toNat]:=by unfold idx;rw[if_pos h1,cz a]
 exact⟨_,e,(zrQ hS (dx a)).1,by unfold tnT;rw[e];rfl⟩
def zu9{ts:List Plc}(hA:AsmOk set ts){x:Plc}(hx:x∈ts):ptB x.1=true/\0<=x.2/\x.2<=(set.2.length:Int) - 1:=by
 obtain⟨i,hi⟩:=dj hx;exact⟨(hA.1.2 i (zoz hi) x hi).1,hA.2 x hx⟩
def zyi(hS:SetOk set){ts:List Plc}(hA:AsmOk set ts){w:List UInt8}(hw:w.length<=10){x:Plc}(hx:x∈ts):(zfm set w x).length<=80:=by
 obtain⟨a,b,c⟩:=zu9 hA hx;obtain⟨t,_,d,e⟩:=zry hS b c;have:=zrX a;unfold zfm;rw[e];simp;omega
def zmD(hS:SetOk set){ts:List Plc}(hA:AsmOk set ts){w:List UInt8}(hw:w.length<=10):(ts.flatMap (zfm set w)).length<=40000:=by
 have:=zfT ts (zfm set w) 80 (λx a=>zyi hS hA hw a);have:=hA.1.1;omega
def zCR{w n p:List UInt8}(hw:w.length<=10)(hn:n.length<=12)(hp:p.length<=43):ze3 [w,n,p]=some (w++[32]++n++[32]++p++[10]):=by
 have e:Go.Lib.join [w,n,p] [32]=w++[32]++n++[32]++p:=by rw[zmd];simp
 rw[zqp _ si (by rw[e,nbv];simp;omega),e]
def zwW(s:Sy):List UInt8:=[116,101,109,112,101,114,97,116,117,114,101,32]++Go.Lib.itoa s.2.2++[10]++zvd s.1++s.2.1.flatMap (zfm s.1 [115,101,101,100])
def zwV{s:Sy}(hS:SetOk s.1)(hA:AsmOk s.1 s.2.1)(ht:I64 s.2.2):(zwW s).length<=60000:=by
 have a:=zpO hS;have b:=zmD hS hA (w:=[115,101,101,100]) si;have c:=za7 ht;unfold zwW zvd;simp only[dy,dz,eh]at a b ⊢;omega
def zzo{s:Sy}(hS:SetOk s.1)(hA:AsmOk s.1 s.2.1)(ht:I64 s.2.2):ziY s=some (zwW s):=by
 have r:=zpO hS;have q:=zmD hS hA (w:=[115,101,101,100]) si;have u:=za7 ht;have hs:(zvd s.1).length<=19200:=by unfold zvd;rw[dy];omega
 have f:=hA.1.1;unfold ziY;rw[zk0 ht];simp only[ic];rw[zI so];simp only[ic];rw[zI so,zzp hS];simp only[ic];rw[zI so];simp only[ic];have L:=zbY NB (zb6 s) (λa i=>(a,i)) (λa=>a) s.2.1 (zfm s.1 [115,101,101,100]) (λc i x d l=>by
   have b:=zoz d;obtain⟨g,m,k⟩:=zu9 hA (zo6 d);obtain⟨t,j,n,h⟩:=zry hS m k;have p:=zrX g;rw[nbv]at l;unfold zb6;simp only[zqb,d,ic,j];rw[if_pos so,zI so];simp only[ic];rw[zI so,zw4 g];simp only[ic];rw[zI so];simp only[ic];rw[zI so];simp only[ic];have e:[115,101,101,100,32]++t.1++[32]++ptT x.1++[10]=zfm s.1 [115,101,101,100] x:=by unfold zfm;rw[h];rfl
   rw[e,zI om];simp only[ic];rw[zdn b om]) (λc=>by unfold zb6;simp) ([116,101,109,112,101,114,97,116,117,114,101,32]++Go.Lib.itoa s.2.2++[10]++zvd s.1) (by rw[nbv];simp only[dy,dz,eh];omega)
 rw[show iter (zb6 s) (_,0)=_ from L];rfl
def zzT{s:Sy}(hS:SetOk s.1)(hA:AsmOk s.1 s.2.1)(ht:I64 s.2.2):zik s=some (zwW s):=by
 have u:=zpO hS;have r:=zmD hS hA (w:=[115,101,101,100]) si;have v:=za7 ht;have hs:(zvd s.1).length<=19200:=by unfold zvd;rw[dy];omega
 have f:=hA.1.1;unfold zik;have j:Go.Lib.join [([116,101,109,112,101,114,97,116,117,114,101]:List UInt8),Go.Lib.itoa s.2.2] [32]=[116,101,109,112,101,114,97,116,117,114,101,32]++Go.Lib.itoa s.2.2:=by rw[zmd];simp
 rw[zsk];simp only[ic];rw[zqp _ si (by rw[j,nbv];simp;omega),j];simp only[ic];rw[zaL (by rw[zF];simp;omega),zzU hS];simp only[ic];rw[zaL (by simp only[ft,zF];simp;omega)];simp only[ic];have L:=zbY NB (zbB s) (λa i=>(i,a)) (λa=>a) s.2.1 (λx=>zy (zfm s.1 [115,101,101,100] x)) (λc i x d h=>by
   have b:=zoz d;obtain⟨g,q,p⟩:=zu9 hA (zo6 d);obtain⟨t,n,k,l⟩:=zry hS q p;have m:=zrX g;rw[nbv]at h;unfold zbB;simp only[zqb,d,ic,n];rw[if_pos so,zxJ g];simp only[ic];rw[zCR si k m];simp only[ic];have e:[115,101,101,100]++[32]++t.1++[32]++ptT x.1++[10]=zfm s.1 [115,101,101,100] x:=by unfold zfm;rw[l]
   rw[e,zaL h];simp only[ic];rw[zdn b om]) (λc=>by unfold zbB;simp) ([]++zy ([116,101,109,112,101,114,97,116,117,114,101,32]++Go.Lib.itoa s.2.2++[10])++zy (zvd s.1)) (by
   rw[zS,nbv];simp only[ft,dy,zF,dz,eh];omega)
 rw[show iter (zbB s) (0,_)=_ from L,zS];simp only[ic,ft];unfold ziC;rw[←zcu,←zcu,zeE];rfl
def optN(o:(Int×Int)×Int):List Int:=[o.1.1,o.1.2,o.2]
def pnT(k:Int):List UInt8:=if k=1 then[103,114,111,119,110]else if k=2 then[116,101,114,109,105,110,97,108]else if k=3 then[117,110,105,113,117,101]else if k=4 then[99,111,110,102,108,105,99,116]else if k=5 then[115,116,97,98,108,101]else[108,111,111,115,101]
def zAV{k:Int}(h1:1<=k)(h2:k<=6):zjV k=some (pnT k)/\zjh k=some (pnT k)/\(pnT k).length<=8/\pnT k≠[]:=by
 have h:k=1\/k=2\/k=3\/k=4\/k=5\/k=6:=by omega
 unfold zjV zjh;rw[zbe,zdh];rcases h with rfl | rfl | rfl | rfl | rfl | rfl<;>exact⟨rfl,rfl,by decide,by decide⟩
def znQ(p:Prf):List UInt8:=[112,114,111,111,102,32]++pnT p.1++[10]++p.2.1.flatMap (λo=>zdu [112,117,116] (optN o))++p.2.2.1.flatMap (λo=>zdu [111,116,104,101,114] (optN o)) ++
 (if p.2.2.2.1=[]then[]else zdu [112,97,114,116] p.2.2.2.1)++p.2.2.2.2.flatMap (λl=>zdu [102,108,111,119] l)
structure PI(p:Prf):Prop where
 q1:∀o∈p.2.1,∀n∈optN o,I64 n
 q2:∀o∈p.2.2.1,∀n∈optN o,I64 n
 c:∀n∈p.2.2.2.1,I64 n
 f:∀l∈p.2.2.2.2,∀n∈l,I64 n
 l1:p.2.1.length<=1048576
 l2:p.2.2.1.length<=1048576
 l3:p.2.2.2.1.length<=1048576
 l4:p.2.2.2.2.length<=1048576
 l5:∀l∈p.2.2.2.2,l.length<=1048576
def zyZ{w:List UInt8}(hw:w.length<=10){o:(Int×Int)×Int}(h:∀n∈optN o,I64 n):(zdu w (optN o)).length<=77:=by
 have:=zqo (w:=w) h;have e:(optN o).length=3:=rfl;omega
def zpS{p:Prf}(h:PI p):(p.2.1.flatMap (λo=>zdu [112,117,116] (optN o))).length<=1048576*77/\(p.2.2.1.flatMap (λo=>zdu [111,116,104,101,114] (optN o))).length<=1048576*77/\
  (zdu [112,97,114,116] p.2.2.2.1).length<=23068680/\(p.2.2.2.2.flatMap (λl=>zdu [102,108,111,119] l)).length<=1048576*23068688:=by
 have d:=zfT p.2.1 (λo=>zdu [112,117,116] (optN o)) 77 (λo a=>zyZ si (h.q1 o a));have a2:=zfT p.2.2.1 (λo=>zdu [111,116,104,101,114] (optN o)) 77 (λo a=>zyZ si (h.q2 o a));have f:=zqo (w:=[112,97,114,116]) h.c;have c:=zfT p.2.2.2.2 (λl=>zdu [102,108,111,119] l) 23068688 (λl b=>by
  have:=zqo (w:=[102,108,111,119]) (h.f l b);have:=h.l5 l b;simp only[dz,eh]at *;omega)
 have e:=h.l3;refine⟨gm d (gy 77 h.l1),gm a2 (gy 77 h.l2),gm f (by simp only[dz,eh];omega),gm c (gy 23068688 h.l4)⟩
def zvz{w:List UInt8}(hw:w.length<=10){l:List ((Int×Int)×Int)}(hl:l.length<=1048576)(hI:∀o∈l,∀n∈optN o,I64 n)(f:(l.flatMap λo=>zdu w (optN o)).length<=NB):
  zfy w l=some (l.flatMap λo=>zdu w (optN o)):=by
 unfold zfy;have L:=zbY NB (zbs w l) (λa i=>(a,i)) (λa=>a) l (λo=>zdu w (optN o)) (λd i o c f=>by
   have b:=zoz c;have hi:=hI o (zo6 c);have g:I64 o.1.1:=hi _ (by simp[optN]);have j:I64 o.1.2:=hi _ (by simp[optN]);have h:I64 o.2:=hi _ (by simp[optN]);have k1:=za7 g;have k2:=za7 j;have k3:=za7 h;rw[nbv]at f;unfold zbs;simp only[zqb,c,ic];rw[if_pos so,zI so];simp only[ic];rw[zk0 g];simp only[ic];rw[zI so];simp only[ic];rw[zI so,zk0 j];simp only[ic];rw[zI so];simp only[ic];rw[zI so,zk0 h];simp only[ic];rw[zI so];simp only[ic];rw[zI so];simp only[ic];have e:w++[32]++Go.Lib.itoa o.1.1++[32]++Go.Lib.itoa o.1.2++[32]++Go.Lib.itoa o.2++[10]=zdu w (optN o):=by unfold zdu optN;simp
   rw[e,zI om];simp only[ic];rw[zdn b hl]) (λd=>by unfold zbs;simp) [] (by simpa using f)
 rw[show iter (zbs w l) (_,0)=_ from L];rfl
def zus{p:Prf}(h:PI p)(h1:1<=p.1)(h2:p.1<=6):(znQ p).length<=30000000000000:=by
 obtain⟨e,a2,a,c⟩:=zpS h;obtain⟨_,_,d,_⟩:=zAV h1 h2;unfold znQ;have b:(if p.2.2.2.1=[]then[]else zdu [112,97,114,116] p.2.2.2.1:List UInt8).length<=23068680:=by
  split
  ·simp
  ·exact a
 simp only[dy,dz,eh]at b ⊢;omega
def zw5{p:Prf}(h:PI p)(h1:1<=p.1)(h2:p.1<=6):zkC p=some (znQ p):=by
 obtain⟨q,a2,r,f⟩:=zpS h;obtain⟨p1,g,k,m⟩:=zAV h1 h2;unfold zkC;rw[g];simp only[ic];rw[zI so];simp only[ic];rw[zI so,zvz si h.l1 h.q1 (by rw[nbv];omega)];simp only[ic];rw[zI (by simp only[dy,dz,eh];omega),zvz si h.l2 h.q2 (by rw[nbv];omega)];simp only[ic];rw[zI (by simp only[dy,dz,eh];omega)];simp only[ic];have fin:∀a:List UInt8,a.length<=1000000000->zeF p a=some (a++p.2.2.2.2.flatMap λl=>zdu [102,108,111,119] l):=by
  intro a n;unfold zeF;have L:=zbY NB (zcZ p) (λa i=>(a,i)) (λa=>a) p.2.2.2.2 (λl=>zdu [102,108,111,119] l) (λe i l b j=>by
    have d:=zoz b;have l4:=h.l4;rw[nbv]at j;unfold zcZ;simp only[zqb,b,ic];rw[if_pos so,zvA si (h.l5 l (zo6 b)) (h.f l (zo6 b))];simp only[ic];rw[zI om];simp only[ic];rw[zdn d l4]) (λe=>by unfold zcZ;simp) a (by rw[nbv];exact gm (Nat.add_le_add_left f _) om)
  rw[show iter (zcZ p) (_,0)=_ from L];rfl
 by_cases c:p.2.2.2.1=[]
 ·rw[if_neg (by simp[c]),fin _ (by simp only[dy,dz,eh];omega)];unfold znQ;rw[if_pos c,bp]
 ·have:0<p.2.2.2.1.length:=List.length_pos_iff.2 c;rw[if_pos so,zvA si h.l3 h.c];simp only[ic];rw[zI (by simp only[dy,dz,eh];omega)];simp only[ic];rw[fin _ (by simp only[dy,dz,eh];omega)];unfold znQ;rw[if_neg c]
def zxK{p:Prf}(h:PI p)(h1:1<=p.1)(h2:p.1<=6):zjU p=some (znQ p):=by
 obtain⟨w,a2,x,m⟩:=zpS h;obtain⟨p1,v,t,n⟩:=zAV h1 h2;unfold zjU;rw[p1];simp only[ic];rw[if_neg (by simpa using n)];have k:Go.Lib.join [([112,114,111,111,102]:List UInt8),pnT p.1] [32]=[112,114,111,111,102,32]++pnT p.1:=by rw[zmd];simp
 rw[zqp _ si (by rw[k,nbv];simp;omega),k];simp only[ic];rw[zaL (by rw[zF];simp;omega)];simp only[ic,ft];have s:=zbY NB (zcl p) (λa i=>(i,a)) (λa=>a) p.2.1 (λo=>zy (zdu [112,117,116] (optN o))) (λc i o f d=>by
   have b:=zoz f;rw[nbv]at d;unfold zcl;simp only[zqb,f,ic];have e:[o.1.1,o.1.2,o.2]=optN o:=rfl;rw[if_pos so,e,zqq si (by simp[optN]) (h.q1 o (zo6 f))];simp only[ic];rw[zaL d];simp only[ic];rw[zdn b h.l1]) (λc=>by unfold zcl;simp) (zy ([112,114,111,111,102,32]++pnT p.1++[10])) (by rw[zS,nbv,zF,zF];simp only[dy,dz,eh];omega)
 rw[show iter (zcl p) (0,_)=_ from s,zS,←zcu];simp only[ic];unfold zjT;have r:=zbY NB (zck p) (λa i=>(i,a)) (λa=>a) p.2.2.1 (λo=>zy (zdu [111,116,104,101,114] (optN o))) (λc i o f d=>by
   have b:=zoz f;rw[nbv]at d;unfold zck;simp only[zqb,f,ic];have e:[o.1.1,o.1.2,o.2]=optN o:=rfl;rw[if_pos so,e,zqq si (by simp[optN]) (h.q2 o (zo6 f))];simp only[ic];rw[zaL d];simp only[ic];rw[zdn b h.l2]) (λc=>by unfold zck;simp) (zy ([112,114,111,111,102,32]++pnT p.1++[10]++p.2.1.flatMap (λo=>zdu [112,117,116] (optN o)))) (by rw[zS,nbv,zF,zF];simp only[dy,dz,eh];omega)
 rw[show iter (zck p) (0,_)=_ from r,zS,←zcu];simp only[ic];unfold zjS;have fin:∀a:List UInt8,a.length<=1000000000->zej p (zy a)=some (a++p.2.2.2.2.flatMap λl=>zdu [102,108,111,119] l):=by
  intro a u;unfold zej;have q:(List.flatMap (zdu [102,108,111,119]) p.2.2.2.2).length<=1048576*23068688:=m;have L:=zbY NB (zcj p) (λa i=>(i,a)) (λa=>a) p.2.2.2.2 (λl=>zy (zdu [102,108,111,119] l)) (λc i l g d=>by
    have b:=zoz g;rw[nbv]at d;unfold zcj;simp only[zqb,g,ic];rw[if_pos so,zqq si (h.l5 l (zo6 g)) (h.f l (zo6 g))];simp only[ic];rw[zaL d];simp only[ic];rw[zdn b h.l4]) (λc=>by unfold zcj;simp) (zy a) (by rw[zS,nbv,zF,zF];omega)
  rw[show iter (zcj p) (0,_)=_ from L,zS,←zcu];simp only[ic];unfold zjR;rw[zeE]
 by_cases j:p.2.2.2.1=[]
 ·rw[if_neg (by simp[j]),fin _ (by simp only[dy,dz,eh];omega)];unfold znQ;rw[if_pos j,bp]
 ·have:0<p.2.2.2.1.length:=List.length_pos_iff.2 j;rw[if_pos so,zqq si h.l3 h.c];simp only[ic];rw[zaL (by rw[zF,zF];simp only[dy,dz,eh];omega)];simp only[ic];rw[←zcu,fin _ (by simp only[dy,dz,eh];omega)];unfold znQ;rw[if_neg j]
def zuW(e:En):List UInt8:=[101,110,116,114,121,32]++e.1++[10]++zwW e.2.1++[101,110,100,10]++e.2.2.1.flatMap (zfm e.2.1.1 [97,116])++znQ e.2.2.2
structure VE(e:En):Prop where
 n:NameOk e.1
 s:SetOk e.2.1.1
 a:AsmOk e.2.1.1 e.2.1.2.1
 b:AsmOk e.2.1.1 e.2.2.1
 k1:1<=e.2.2.2.1
 k2:e.2.2.2.1<=6
 t:I64 e.2.1.2.2
 p:PI e.2.2.2
def zw8{e:En}(h:VE e):zf8 e=some (zuW e):=by
 have s:=h.n.2.1;have u:=zwV h.s h.a h.t;have q:=zmD h.s h.b (w:=[97,116]) si;have c:=zus h.p h.k1 h.k2;have g:=h.b.1.1;unfold zf8;rw[zI so];simp only[ic];rw[zI so,zzo h.s h.a h.t];simp only[ic];rw[zI so];simp only[ic];rw[zI so];simp only[ic];have L:=zbY NB (zaQ e) (λa i=>(a,i)) (λa=>a) e.2.2.1 (zfm e.2.1.1 [97,116]) (λd i x f m=>by
   have b:=zoz f;obtain⟨c,n,l⟩:=zu9 h.b (zo6 f);obtain⟨t,k,p,j⟩:=zry h.s n l;have r:=zrX c;rw[nbv]at m;unfold zaQ;simp only[zqb,f,ic,k];rw[if_pos so,zI so];simp only[ic];rw[zI so,zw4 c];simp only[ic];rw[zI so];simp only[ic];rw[zI so];simp only[ic];have e:[97,116,32]++t.1++[32]++ptT x.1++[10]=zfm e.2.1.1 [97,116] x:=by unfold zfm;rw[j];rfl
   rw[e,zI om];simp only[ic];rw[zdn b om]) (λd=>by unfold zaQ;simp) ([101,110,116,114,121,32]++e.1++[10]++zwW e.2.1++[101,110,100,10]) (by rw[nbv];simp only[dy,dz,eh];omega)
 rw[show iter (zaQ e) (_,0)=_ from L];simp only[ic];unfold zgt;rw[zw5 h.p h.k1 h.k2];simp only[ic];rw[zI (by simp only[dy,dz,eh];omega)];rfl
def zwI{e:En}(hs:ES e)(hp:PI e.2.2.2)(ht:I64 e.2.1.2.2):∃r,zjZ e=some r/\zji e=some r/\r.length<=20000:=by
 obtain⟨v,s,D,q⟩:=zqT hs;unfold zjZ zji;rw[s,D];simp only[ic];cases v with
 | false=>exact⟨[],rfl,rfl,by simp⟩
 | true=>
  obtain⟨y,c2,C,G,E,F⟩:=q rfl;have h:VE e:=⟨y,c2,C,G,E,F,ht,hp⟩;have M:=h.n.2.1;have J:=zwV h.s h.a h.t;have I:=zmD h.s h.b (w:=[97,116]) si;have d:=zus h.p h.k1 h.k2;have j:=h.b.1.1;rw[zw8 h];simp only[bb,az,if_false,ic];have k:Go.Lib.join [([101,110,116,114,121]:List UInt8),e.1] [32]=[101,110,116,114,121,32]++e.1:=by rw[zmd];simp
  rw[zqp _ si (by rw[k,nbv];simp;omega),k];simp only[ic];rw[zaL (by rw[zF];simp;omega),zzT h.s h.a h.t];simp only[ic,ft];rw[zaL (by rw[zF,zF];simp;omega)];simp only[ic];have l:Go.Lib.join [([101,110,100]:List UInt8)] [32]=[101,110,100]:=by rw[zmd];rfl
  rw[zqp _ si (by rw[l,nbv];simp),l];simp only[ic];rw[zaL (by simp only[dy,zF,dz,eh];omega)];simp only[ic];have L:=zbY NB (zcn e) (λa i=>(i,a)) (λa=>a) e.2.2.1 (λx=>zy (zfm e.2.1.1 [97,116] x)) (λf i x g m=>by
    have c:=zoz g;obtain⟨d,H,u⟩:=zu9 h.b (zo6 g);obtain⟨t,B,n,p⟩:=zry h.s H u;have A:=zrX d;rw[nbv]at m;unfold zcn;simp only[zqb,g,ic,B];rw[if_pos so,zxJ d];simp only[ic];rw[zCR si n A];simp only[ic];have e:[97,116]++[32]++t.1++[32]++ptT x.1++[10]=zfm e.2.1.1 [97,116] x:=by unfold zfm;rw[p]
    rw[e,zaL m];simp only[ic];rw[zdn c om]) (λf=>by unfold zcn;simp) (zy ([101,110,116,114,121,32]++e.1++[10])++zy (zwW e.2.1)++zy ([101,110,100]++[10])) (by
    rw[zS,nbv];simp only[dy,zF,dz,eh];omega)
  rw[show iter (zcn e) (0,_)=_ from L,zS];simp only[ic];unfold zjY;rw[zxK h.p h.k1 h.k2];simp only[ic];rw[zaL (by simp only[dy,zF,dz,eh];omega)];simp only[ic];have z:zy ([101,110,116,114,121,32]++e.1++[10])++zy (zwW e.2.1)++zy ([101,110,100]++[10])++zy (e.2.2.1.flatMap (zfm e.2.1.1 [97,116]))++zy (znQ e.2.2.2)=zy (zuW e):=by
   unfold zuW;simp only[zcu,bl];rfl
  rw[z,zF,zeE];by_cases b:((zuW e).length:Int)>20000
  ·exact⟨[],by rw[if_pos (by simpa using b)],by rw[if_pos (by simpa using b)],by simp⟩
  ·exact⟨zuW e,by rw[if_neg (by simpa using b)],by rw[if_neg (by simpa using b)],by omega⟩
def zuG{k:Int}(h0:1<=k)(h1:k<=4398046511104):∃t,zkN k=some t:=by
 unfold zkN zkp;rw[if_neg so];have key:=zz (F:=zhk) (λs=>0<=s.1/\s.1+s.2.length<=4398046511104) (λs=>s.1.toNat) (λt=>t.length<=4398046511104) ?_ (k,[]) ⟨by show 0<=k;omega,by simpa using h1⟩
 ·obtain⟨t,d,f⟩:=key;rw[d];unfold zaI;simp only[ic];rw[if_pos so];exact⟨_,rfl⟩
 ·rintro⟨n,e⟩ ⟨h0,h1⟩;simp only at h0 h1;unfold zhk;obtain⟨u,rfl⟩:=bf h0;by_cases b:(u:Int)>0
  ·left;have a:Int.tdiv (u:Int) 10=((u / 10:Nat):Int):=rfl;have c:w64 (((u / 10:Nat):Int))=((u / 10:Nat):Int):=zax ⟨by omega,by omega⟩;rw[if_pos (by simpa using b)];unfold zaI zV;rw[if_pos so];simp only[ic,a,c];exact⟨_,rfl,⟨by simp only[];omega,by simp;omega⟩,by simp only[bg];omega⟩
  ·right;rw[if_neg (by simpa using b)];exact⟨_,rfl,by simp only[];omega⟩
def zoN{α:Type}(F:List α×Int×Int->Option ((List α×Int×Int) ⊕ (List α×Int)))(m:Nat)(h1:∀(l:List α)(k:Int)(i:Nat),i<l.length->l.length<=1048576->1<=k->k+m<=4398046511104->∃x,F (l,k,(i:Int))=some (.inl (l.set i x,k+m,((i+1:Nat):Int))))(h2:∀(l:List α)(k:Int),F (l,k,(l.length:Int))=some (.inr (l,k)))(hm:m<=3)(l:List α){k:Int}(hk:1<=k)(hk2:k<=3298534883328)(hl:l.length<=1048576):
  ∃l',iter F (l,k,0)=some (l',k+m*(l.length:Int))/\l'.length=l.length:=by
 have key:=zz (F:=F) (λs=>∃i:Nat,s.2.2=(i:Int)/\i<=l.length/\s.2.1=k+m*(i:Int)/\s.1.length=l.length) (λs=>(l.length - s.2.2).toNat)
  (λz=>z.2=k+m*l.length/\z.1.length=l.length) ?_ (l,k,0) ⟨0,rfl,Nat.zero_le _,by simp,rfl⟩
 ·obtain⟨⟨l',n⟩,d,e,h⟩:=key;simp only at e h;subst e;exact⟨l',d,h⟩
 ·rintro⟨l1,k1,g⟩ ⟨i,rfl,hi,rfl,he⟩;simp only at he hi ⊢;have b:(m:Int)*(i:Int)<=3*(i:Int):=Int.mul_le_mul_of_nonneg_right om om;have a:0<=(m:Int)*(i:Int):=Int.mul_nonneg om om;by_cases j:i<l.length
  ·left;obtain⟨x,f⟩:=h1 l1 (k+m*(i:Int)) i om om om om;refine⟨_,f,⟨i+1,rfl,by omega,?_,by simp only[ep];exact he⟩,by simp only[];omega⟩;simp only[];have:(m:Int)*((i+1:Nat):Int)=m*(i:Int)+m:=by rw[show((i+1:Nat):Int)=(i:Int)+1 by omega,Int.mul_add,Int.mul_one]
   omega
  ·right;have c:i=l1.length:=by omega
   subst c;refine⟨_,h2 l1 _,by simp only[];rw[he],he⟩
def zwr(l:List (List UInt8×Int))(k:Int)(a:1<=k)(hk2:k<=3298534883328)(c:l.length<=1048576):∃l',zjz l k=some (k+(2:Nat)*(l.length:Int),l')/\l'.length=l.length:=by
 obtain⟨l',h,h'⟩:=zoN zd9 2 (λl k i hi c a m=>by
  obtain⟨t,f⟩:=zuG (k:=k) a om;have j:l[i]?=some l[i]:=cz hi;have b:∀x,(l.set i x)[i]?=some x:=λx=>by simp[hi]
  have d:w64 (k+1)=k+1:=zax ⟨by omega,by omega⟩;have g:w64 (k+1+1)=k+((2:Nat):Int):=(zax ⟨by omega,by omega⟩).trans om;have e:w64 ((i:Int)+1)=((i+1:Nat):Int):=zax ⟨by omega,by omega⟩;unfold zd9;rw[if_pos (by simp[hi])];simp only[f,zq j,zq (b _),ic,bg,d,g,e,List.set_set];exact⟨_,rfl⟩) (λl k=>by unfold zd9;rw[if_neg si]) om l a hk2 c
 exact⟨l',by unfold zjz zjy;rw[h];rfl,h'⟩
def zxx(l:List Int)(k:Int)(a:1<=k)(hk2:k<=3298534883328)(b:l.length<=1048576):∃l',zii l k=some (k+(1:Nat)*(l.length:Int),l')/\l'.length=l.length:=by
 obtain⟨l',h,h'⟩:=zoN zdg 1 (λl k i hi b a f=>by
  have e:l[i]?=some l[i]:=cz hi;have c:w64 (k+1)=k+1:=zax ⟨by omega,by omega⟩;have d:w64 ((i:Int)+1)=((i+1:Nat):Int):=zax ⟨by omega,by omega⟩;unfold zdg;rw[if_pos (by simp[hi])];simp only[zq e,ic,bg,c,d];exact⟨_,rfl⟩) (λl k=>by unfold zdg;rw[if_neg si]) om l a hk2 b
 exact⟨l',by unfold zii ziB;rw[h];rfl,h'⟩
def zvf(l:List ((Int×Int)×Int))(k:Int)(b:1<=k)(hk2:k<=3298534883328)(c:l.length<=1048576):∃l',zhl l k=some (k+(3:Nat)*(l.length:Int),l')/\l'.length=l.length:=by
 obtain⟨l',h,h'⟩:=zoN zcD 3 (λl k i hi c b m=>by
  have j:l[i]?=some l[i]:=cz hi;have a:∀x,(l.set i x)[i]?=some x:=λx=>by simp[hi]
  have d:w64 (k+1)=k+1:=zax ⟨by omega,by omega⟩;have g:w64 (k+1+1)=k+1+1:=zax ⟨by omega,by omega⟩;have f:w64 (k+1+1+1)=k+((3:Nat):Int):=(zax ⟨by omega,by omega⟩).trans om;have e:w64 ((i:Int)+1)=((i+1:Nat):Int):=zax ⟨by omega,by omega⟩;unfold zcD;rw[if_pos (by simp[hi])];simp only[zq j,zq (a _),ic,bg,d,g,e,f,List.set_set];exact⟨_,rfl⟩) (λl k=>by unfold zcD;rw[if_neg si]) om l b hk2 c
 exact⟨l',by unfold zhl zhL;rw[h];rfl,h'⟩
def zuF(l:List ((Int×Int)×Int))(k:Int)(b:1<=k)(hk2:k<=3298534883328)(c:l.length<=1048576):∃l',zhm l k=some (k+(3:Nat)*(l.length:Int),l')/\l'.length=l.length:=by
 obtain⟨l',h,h'⟩:=zoN zcE 3 (λl k i hi c b m=>by
  have j:l[i]?=some l[i]:=cz hi;have a:∀x,(l.set i x)[i]?=some x:=λx=>by simp[hi]
  have d:w64 (k+1)=k+1:=zax ⟨by omega,by omega⟩;have g:w64 (k+1+1)=k+1+1:=zax ⟨by omega,by omega⟩;have f:w64 (k+1+1+1)=k+((3:Nat):Int):=(zax ⟨by omega,by omega⟩).trans om;have e:w64 ((i:Int)+1)=((i+1:Nat):Int):=zax ⟨by omega,by omega⟩;unfold zcE;rw[if_pos (by simp[hi])];simp only[zq j,zq (a _),ic,bg,d,g,e,f,List.set_set];exact⟨_,rfl⟩) (λl k=>by unfold zcE;rw[if_neg si]) om l b hk2 c
 exact⟨l',by unfold zhm zhM;rw[h];rfl,h'⟩
end Go.Lf
