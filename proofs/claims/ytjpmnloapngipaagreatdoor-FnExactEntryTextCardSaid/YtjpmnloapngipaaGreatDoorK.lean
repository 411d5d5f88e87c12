import Derived.Test.YtjpmnloapngipaaGreatDoorJ
import Derived.Test.YtjpmnloapngipaaGreatDoorB
import Derived.Test.YtjpmnloapngipaaGreatDoorC
import Derived.Lib.ItoaLen
set_option linter.all false
set_option maxRecDepth 100000
set_option maxHeartbeats 1000000
set_option maxHeartbeats 2000000
namespace Go.Lf
open Go Go.Proofs Go.Sort
section
variable {set:TSet} {T ts:List Plc}
theorem zzt {α β:Type} [DecidableEq α] {m:List (α×β)} {k:α} {v:β} {e:α×β} (h:e∈zbP m k v):e=(k,v)\/e∈m:=by
 unfold zbP at h;split at h
 ·obtain ⟨p,hp,a⟩:=fa.1 h;split at a
  ·exact .inl a.symm
  ·subst a;exact .inr hp
 ·rcases ep.1 h with h | h
  ·exact .inr h
  ·exact .inl (by simpa using h)
theorem zzp {α β:Type} [DecidableEq α] {m:List (α×β)} {k:α} {v:β} {q:α} (h:q=k\/∃ e∈m,e.1=q):∃ e∈zbP m k v,e.1=q:=by
 unfold zbP;split
 ·rename_i hm;obtain ⟨x,c,hd⟩:=bd.1 hm;have a:x.1=k:=by simpa using hd
  rcases h with rfl | ⟨e,he,rfl⟩
  ·exact ⟨(q,v),fa.2 ⟨x,c,by rw [if_pos a]⟩,rfl⟩
  ·by_cases b:e.1=k
   ·exact ⟨(k,v),fa.2 ⟨e,he,by rw [if_pos b]⟩,b.symm⟩
   ·exact ⟨e,fa.2 ⟨e,he,by rw [if_neg b]⟩,rfl⟩
 ·rcases h with rfl | ⟨e,he,rfl⟩
  ·exact ⟨(q,v),by simp,rfl⟩
  ·exact ⟨e,er _ he,rfl⟩
theorem zzo {α β:Type} [DecidableEq α] (m:List (α×β)) (k:α) (v:β):(zbP m k v).length<=m.length+1:=by
 unfold zbP;split<;>simp
theorem zzs {α β:Type} [DecidableEq α] {m:List (α×β)} {e:α×β} (h:e∈m):∃ v,zdj m e.1=some v/\(e.1,v)∈m:=by
 unfold zdj;cases hf:m.find? (fun p=>decide (p.1=e.1)) with
 | none=>exact absurd (List.find?_eq_none.1 hf e h) (by simp)
 | some x=>
  have a:=List.find?_some hf;have b:x.1=e.1:=by simpa using a
  exact ⟨x.2,rfl,by rw [←b];exact fc hf⟩
def OInv (set:TSet) (t:Int) (T:List Plc) (D:Pt->Prop) (O:List (Pt×List Int)):Prop:=
 (∀ e∈O,e.2=zq7 set t T e.1/\e.2≠[]/\D e.1)/\(∀ q,D q->zq7 set t T q≠[]->∃ e∈O,e.1=q)
theorem OInv.step {t:Int} {D:Pt->Prop} {O:List (Pt×List Int)} (h:OInv set t T D O) (p:Pt) (d:Int):OInv set t T (fun q=>D q\/q=zD p d) (zm8 set t T p O d)/\(zm8 set t T p O d).length<=O.length+1:=by
 unfold zm8;by_cases j:(zq7 set t T (zD p d)).length>0
 ·rw [if_pos j];refine ⟨⟨fun e g=>?_,fun q f k=>?_⟩,zzo _ _ _⟩
  ·rcases zzt g with rfl | g
   ·exact ⟨rfl,fun i=>by simp only at i;rw [i] at j;simp at j,.inr rfl⟩
   ·obtain ⟨a,b,c⟩:=h.1 e g;exact ⟨a,b,.inl c⟩
  ·refine zzp ?_;rcases f with f | f
   ·exact .inr (h.2 q f k)
   ·exact .inl f
 ·rw [if_neg j];have i:zq7 set t T (zD p d)=[]:=bj (by omega);have g:zlQ O (zD p d)=O:=by
   unfold zlQ;refine bu.2 fun e g=>?_;obtain ⟨a,b,c⟩:=h.1 e g;have:¬e.1=zD p d:=fun l=>b (by rw [a,l];exact i);simp [this]
  rw [g];refine ⟨⟨fun e g=>?_,fun q f k=>?_⟩,by omega⟩
  ·obtain ⟨a,b,c⟩:=h.1 e g;exact ⟨a,b,.inl c⟩
  ·rcases f with f | f
   ·exact h.2 q f k
   ·subst f;exact absurd i k
theorem OInv.la {t:Int} {D:Pt->Prop} {O:List (Pt×List Int)} (h:OInv set t T D O) (p:Pt):OInv set t T (fun q=>D q\/∃ d,Dir d/\q=zD p d) (laO set t T O p)/\(laO set t T O p).length<=O.length+4:=by
 obtain ⟨l,l0⟩:=h.step p 0;obtain ⟨k,l1⟩:=l.step p 1;obtain ⟨j,l2⟩:=k.step p 2;obtain ⟨g,r⟩:=j.step p 3;have m:laO set t T O p=zm8 set t T p (zm8 set t T p (zm8 set t T p (zm8 set t T p O 0) 1) 2) 3:=rfl;rw [m];refine ⟨⟨fun e i=>?_,fun q f n=>?_⟩,by omega⟩
 ·obtain ⟨a,b,c⟩:=g.1 e i;refine ⟨a,b,?_⟩;rcases c with (((c | c) | c) | c) | c
  ·exact .inl c
  ·exact .inr ⟨0,.inl rfl,c⟩
  ·exact .inr ⟨1,.inr (.inl rfl),c⟩
  ·exact .inr ⟨2,.inr (.inr (.inl rfl)),c⟩
  ·exact .inr ⟨3,.inr (.inr (.inr rfl)),c⟩
 ·refine g.2 q ?_ n;rcases f with f | ⟨d,hd,f⟩
  ·exact .inl (.inl (.inl (.inl f)))
  ·rcases hd with rfl | rfl | rfl | rfl
   ·exact .inl (.inl (.inl (.inr f)))
   ·exact .inl (.inl (.inr f))
   ·exact .inl (.inr f)
   ·exact .inr f
theorem zzn (t:Int) (T ts:List Plc):OInv set t T (fun q=>∃ x∈ts,∃ d,Dir d/\q=zD x.1 d) (ts.foldl (fun O x=>laO set t T O x.1) [])/\(ts.foldl (fun O x=>laO set t T O x.1) []).length<=4*ts.length:=by
 have i:∀ (l:List Plc) (D:Pt->Prop) (O:List (Pt×List Int)),OInv set t T D O->OInv set t T (fun q=>D q\/∃ x∈l,∃ d,Dir d/\q=zD x.1 d) (l.foldl (fun O x=>laO set t T O x.1) O)/\(l.foldl (fun O x=>laO set t T O x.1) O).length<=O.length+4*l.length:=by
  intro l
  induction l with
  | nil=>
   intro D O h;refine ⟨⟨fun e g=>?_,fun q f j=>?_⟩,by simp⟩
   ·obtain ⟨a,b,c⟩:=h.1 e g;exact ⟨a,b,.inl c⟩
   ·rcases f with f | ⟨x,hx,_⟩
    ·exact h.2 q f j
    ·cases hx
  | cons y l ih=>
   intro D O h;obtain ⟨n,l1⟩:=h.la y.1;obtain ⟨m,l2⟩:=ih _ _ n;rw [ce];refine ⟨⟨fun e g=>?_,fun q f j=>?_⟩,by rw [dm];omega⟩
   ·obtain ⟨a,b,c⟩:=m.1 e g;refine ⟨a,b,?_⟩;rcases c with (c | ⟨d,hd,c⟩) | ⟨x,hx,c⟩
    ·exact .inl c
    ·exact .inr ⟨y,List.mem_cons_self,d,hd,c⟩
    ·exact .inr ⟨x,List.mem_cons_of_mem _ hx,c⟩
   ·refine m.2 q ?_ j;rcases f with f | ⟨x,hx,c⟩
    ·exact .inl (.inl f)
    ·rcases eu.1 hx with rfl | hx
     ·exact .inl (.inr c)
     ·exact .inr ⟨x,hx,c⟩
 have k:OInv set t T (fun _=>False) []:=⟨fun e g=>(by cases g),fun q f=>f.elim⟩;obtain ⟨h,l⟩:=i ts (fun _=>False) [] k;refine ⟨⟨fun e g=>?_,fun q f j=>h.2 q (.inr f) j⟩,by simpa using l⟩;obtain ⟨a,b,c⟩:=h.1 e g;exact ⟨a,b,c.resolve_left id⟩
instance {T:List Plc} {q:Pt}:Decidable (zyC T q):=inferInstanceAs (Decidable (_/\_))
theorem zzG {t:Int} {T:List Plc} {q:Pt}:zq7 set t T q=if zyC T q then atL set t (cat T) q else []:=by
 unfold zq7 atL;by_cases h:zyC T q
 ·rw [if_pos h];refine List.filter_congr fun k _=>?_;unfold znh;rw [h.1,decide_eq_true h.2];rfl
 ·rw [if_neg h];refine List.filter_eq_nil_iff.2 fun k _=>?_;unfold znh;simp only [an,decide_eq_true_eq];exact fun a=>h a.1
theorem zzl {t:Int}:ncO set t ts=[]↔∀ q,zqe ts ts q->atL set t (cat ts) q=[]:=by
 obtain ⟨h,_⟩:=zzn (set:=set) t ts ts;constructor
 ·intro f q ⟨x,g,d,hd,j,hF⟩;by_cases i:zq7 set t ts q=[]
  ·rw [zzG,if_pos hF] at i;exact i
  ·obtain ⟨e,hm,_⟩:=h.2 q ⟨x,g,d,hd,j⟩ i;have:e∈ncO set t ts:=hm;rw [f] at this;cases this
 ·intro j;refine bi.2 fun e f=>?_;obtain ⟨a,b,x,g,d,hd,c⟩:=h.1 e f;rw [zzG] at a;split at a
  ·rename_i hF;exact b (by rw [a];exact j _ ⟨x,g,d,hd,c,hF⟩)
  ·exact b a
theorem zzm (hS:SetOk set) (hA:AsmOk set ts) (t:Int):(ncO set t ts).length<=2000/\∀ e∈ncO set t ts,1<=e.2.length/\e.2.length<=160:=by
 obtain ⟨h,l⟩:=zzn (set:=set) t ts ts;have:=(zkr hA).len;refine ⟨gc l (by omega),fun e d=>?_⟩;obtain ⟨a,b,_⟩:=h.1 e d;have c:=zzH set t ts e.1;have g:=hS.tiles;rw [←a] at c;exact ⟨Nat.pos_of_ne_zero fun f=>b (bj f),by omega⟩
theorem zzV (hS:SetOk set) (hA:AsmOk set ts) (s0:List Plc) (t:Int):∃ c,zh7 ((set,s0,t),ts,ncO set t ts)=some c/\(c=0↔ncO set t ts=[]):=by
 obtain ⟨g,f⟩:=zzm hS hA t;revert g f;generalize ncO set t ts=O;intro g f;have key:∀ l:List (Pt×List Int),(∀ e∈l,1<=e.2.length/\e.2.length<=160)->(l.length:Int)<=(l.map fun p=>(p.2.length:Int)).sum/\(l.map fun p=>(p.2.length:Int)).sum<=160*(l.length:Int):=by
  intro l
  induction l with
  | nil=>intro _;simp
  | cons x l ih=>
   intro h;obtain ⟨a,b⟩:=h x List.mem_cons_self;obtain ⟨c,d⟩:=ih fun e j=>h e (List.mem_cons_of_mem _ j);rw [ek,List.sum_cons,dm];omega
 obtain ⟨k1,k2⟩:=key O f;refine ⟨_,rfl,?_⟩;have i:w64 ((O.map fun p=>(p.2.length:Int)).sum)=(O.map fun p=>(p.2.length:Int)).sum:=zu (by omega) (by omega);simp only [i];constructor
 ·intro k;exact bj (by omega)
 ·rintro rfl;rfl
theorem zAy (hS:SetOk set) (hA:AsmOk set ts) (s0:List Plc) (t:Int):∃ l,zd2 ((set,s0,t),ts,ncO set t ts)=some l/\(l=[]↔ncO set t ts=[])/\True:=by
 obtain ⟨d,a⟩:=zzm hS hA t;revert d a;generalize ncO set t ts=O;intro d a;unfold zd2;rw [if_pos ⟨by simp only;omega,fun p hp=>by have:=(a p hp).2;omega⟩];refine ⟨_,rfl,?_,trivial⟩;have hp:(zuU (O.map Prod.fst)).Perm (O.map Prod.fst):=(zdp zsO _).1;constructor
 ·intro h;refine bi.2 fun e c=>?_;have hm:e.1∈zuU (O.map Prod.fst):=hp.mem_iff.2 (fa.2 ⟨e,c,rfl⟩);obtain ⟨v,g,b⟩:=zzs c;have:=List.flatMap_eq_nil_iff.1 h e.1 hm;simp only at this;rw [g] at this;have f:=(a _ b).1;simp only [gt,List.map_eq_nil_iff] at this;rw [this] at f;simp at f
 ·rintro rfl;have:=List.Perm.eq_nil hp;show (zuU (List.map Prod.fst ([]:List (Pt×List Int)))).flatMap _=[];rw [this];rfl
end
theorem ztW (l:List Plc) (h:l.length<=2000000) (p:Plc->Option Bool) (q:Plc->Bool) (hp:∀ b∈l,p b=some (q b)) :
  ∃ i:Int,zaN l p=some i/\((i = -1/\∀ b∈l,q b=false)\/(∃ k:Nat,i=k/\k<l.length/\(∀ (j:Nat) b,j<k->l[j]?=some b->q b=false)/\∃ b,l[k]?=some b/\q b=true)):=by
 unfold zaN zb5;rcases zjM l h p q hp (zb4 l p) (fun i=>rfl) with ⟨c,a⟩ | ⟨k,c,r⟩
 ·rw [c];exact ⟨-1,rfl,.inl ⟨rfl,a⟩⟩
 ·rw [c];exact ⟨k,rfl,.inr ⟨k,rfl,r⟩⟩
theorem ztU (l:List Plc) (h:l.length<=2000000) (p:Plc->Option Bool) (q:Plc->Bool) (hp:∀ b∈l,p b=some (q b)) :
  ∃ i:Int,zdO l p=some i/\((i = -1/\∀ b∈l,q b=false)\/(∃ k:Nat,i=k/\k<l.length/\(∀ (j:Nat) b,j<k->l[j]?=some b->q b=false)/\∃ b,l[k]?=some b/\q b=true)):=by
 unfold zdO zeB;rcases zjM l h p q hp (zeA l p) (fun i=>rfl) with ⟨c,a⟩ | ⟨k,c,r⟩
 ·rw [c];exact ⟨-1,rfl,.inl ⟨rfl,a⟩⟩
 ·rw [c];exact ⟨k,rfl,.inr ⟨k,rfl,r⟩⟩
theorem zt0 (l:List Plc) (h:l.length<=2000000) (p:Plc->Option Bool) (q:Plc->Bool) (hp:∀ b∈l,p b=some (q b)) :
  zdb l p=some (l.filter fun b=>!q b):=by
 obtain ⟨i,hi,u⟩:=ztW l h p q hp;unfold zdb;simp only [hi,gq];rcases u with ⟨rfl,e⟩ | ⟨k,rfl,hk,hlow,b,g,hq⟩
 ·rw [if_pos (by simp)];congr 1;symm;rw [bu];intro b g;rw [e b g];rfl
 ·rw [if_neg (by simp)];have x:w64 ((k:Int)+1)=(k:Int)+1:=zu (by omega) (by omega);rw [x];have key:=zA (F:=zbC p) (fun s=>(k:Int)<s.2.2/\s.2.2<=l.length/\s.1.length=l.length/\0<=s.2.1/\s.2.1<s.2.2/\s.1.take s.2.1.toNat=(l.take s.2.2.toNat).filter (fun b=>!q b)/\∀ j,s.2.2.toNat<=j->s.1[j]?=l[j]?)
   (fun s=>(l.length - s.2.2).toNat) (fun z=>z.1.length=l.length/\0<=z.2/\z.2<=l.length/\z.1.take z.2.toNat=l.filter (fun b=>!q b)) ?_ (l,(k:Int),(k:Int)+1) ?_
  ·obtain ⟨⟨y,m⟩,G,E,C,J,A⟩:=key;simp only at E C J A;rw [G];simp only [gq];unfold zd9;have L:clr y m ((0,0),0)=some (y.take m.toNat++List.replicate (y.length - m.toNat) ((0,0),0)):=by unfold clr;rw [if_pos ⟨by omega,by omega⟩]
   have I:(y.take m.toNat).length=m.toNat:=by rw [ed];omega
   have hs:zkY (y.take m.toNat++List.replicate (y.length - m.toNat) ((0,0),0)) 0 m=some (y.take m.toNat):=by
    unfold zkY;rw [if_pos ⟨by omega,by omega,by rw [dl,I,dy];omega⟩];simp only [Int.toNat_zero,List.drop_zero];rw [List.take_append_of_le_length (by omega),fu (by omega)]
   rw [L];simp only [gq,hs];rw [A]
  ·rintro ⟨y,m,j⟩ ⟨g1,g2,g3,g4,g5,g6,g7⟩;simp only at g1 g2 g3 g4 g5 g6 g7;obtain ⟨j,rfl⟩:=az (show 0<=j by omega);obtain ⟨m,rfl⟩:=az g4;simp only [ba] at g6 g7;unfold zbC zbD;by_cases d:j<l.length
   ·left;have c:l[j]?=some l[j]:=cm d;have f:y[j]?=some l[j]:=by rw [g7 j (ga _)];exact c
    have t:=hp l[j] (dj d);have H:w64 ((j:Int)+1)=(j:Int)+1:=zu (by omega) (by omega);have n:w64 ((m:Int)+1)=(m:Int)+1:=zu (by omega) (by omega);have w:y[m]?=some y[m]:=cm (by omega);have a:((j:Int)+1).toNat=j+1:=by omega
    have r:((m:Int)+1).toNat=m+1:=by omega
    rw [if_pos (by simp;omega)];simp only [zq f,gq,t,H,n,zq w,ba];cases hq:q l[j] with
    | false=>
     rw [if_pos (by simp)];refine ⟨_,rfl,⟨by simp only [];omega,by simp only [];omega,by simp only [dz];exact g3,by simp only [];omega,by simp only [];omega,?_,fun i hi=>?_⟩,by simp only [];omega⟩
     ·simp only [a,r];rw [fq,zX (by omega),fq,c,bp,List.take_set_of_le (by omega),g6];simp [hq]
     ·simp only [a] at hi ⊢;rw [zL (by omega)];exact g7 i (by omega)
    | true=>
     rw [if_neg (by simp)];refine ⟨_,rfl,⟨by simp only [];omega,by simp only [];omega,g3,by simp only [];omega,by simp only [];omega,?_,fun i hi=>?_⟩,by simp only [];omega⟩
     ·simp only [a,ba];rw [g6,fq,c,bp];simp [hq]
     ·simp only [a] at hi ⊢;exact g7 i (by omega)
   ·right;rw [if_neg (by simp;omega)];refine ⟨_,rfl,g3,by simp only [];omega,by simp only [];omega,?_⟩;simp only [ba];rw [g6,show j=l.length by omega,ft]
  ·refine ⟨by simp only [];omega,by simp only [];omega,rfl,by simp only [];omega,by simp only [];omega,?_,fun j B=>rfl⟩;simp only [ba];rw [show ((k:Int)+1).toNat=k+1 by omega,fq,g,bp,zog fun j D B v=>by rw [hlow j D B v];rfl];simp [hq]
def sh (d:Int):Int:=if d=0 then 1 else if d=1 then 2 else if d=2 then 4 else 8
def bt (b:Bool) (v:Int):Int:=if b then v else 0
def mk4 (b:Int->Bool):Int:=bt (b 0) 1+bt (b 1) 2+bt (b 2) 4+bt (b 3) 8
theorem zxg {d:Int} (hd:Dir d):zwD .i64 1 d=some (sh d):=by rcases hd with rfl | rfl | rfl | rfl<;>rfl
theorem zyV {d:Int} (hd:Dir d):1<=sh d/\sh d<=8:=by rcases hd with rfl | rfl | rfl | rfl<;>exact ⟨by decide,by decide⟩
theorem zAu (b:Int->Bool) {d:Int} (hd:Dir d):(zvJ .i64 (mk4 b) d).map (fun v=>decide (ztZ .i64 v 1=1))=some (b d):=by
 unfold mk4;rcases hd with rfl | rfl | rfl | rfl<;>(generalize b 0=x;generalize b 1=y;generalize b 2=z;generalize b 3=u;cases x<;>cases y<;>cases z<;>cases u<;>rfl)
theorem zuZ (b:Int->Bool) {d:Int} (hd:Dir d):∃ v,zvJ .i64 (mk4 b) d=some v/\decide (ztZ .i64 v 1=1)=b d:=by
 have h:=zAu b hd;cases hv:zvJ .i64 (mk4 b) d with
 | none=>rw [hv] at h;cases h
 | some v=>rw [hv] at h;exact ⟨v,rfl,Option.some.inj h⟩
theorem zxw (b:Int->Bool) {d:Int} (hd:Dir d):zoZ (mk4 b) d=some (b d):=by
 obtain ⟨v,a,c⟩:=zuZ b hd;unfold zoZ;rw [a,gq,c]
def orb (b:Bool) (m s:Int):Int:=if b then ior .i64 m s else m
theorem zzj (b:Int->Bool):orb (b 3) (orb (b 2) (orb (b 1) (orb (b 0) 0 (sh 0)) (sh 1)) (sh 2)) (sh 3)=mk4 b:=by
 unfold mk4;generalize b 0=x;generalize b 1=y;generalize b 2=z;generalize b 3=u;cases x<;>cases y<;>cases z<;>cases u<;>rfl
theorem zxD (b:Int->Bool):0+bt (b 0) (sh 0)+bt (b 1) (sh 1)+bt (b 2) (sh 2)+bt (b 3) (sh 3)=mk4 b:=by
 unfold mk4;generalize b 0=x;generalize b 1=y;generalize b 2=z;generalize b 3=u;cases x<;>cases y<;>cases z<;>cases u<;>rfl
theorem ztI (b:Bool) {d:Int} (hd:Dir d):0<=bt b (sh d)/\bt b (sh d)<=8:=by
 have:=zyV hd;unfold bt;split<;>omega
section
variable {set:TSet} {T ts:List Plc}
def bT (set:TSet) (T:List Plc) (o:Plc) (d:Int):Bool:=decide (bdQ set (cat T) o.1 o.2 d>0)
theorem zwK (hS:SetOk set) (h:Cr set T ts) {s0:List Plc} {t:Int} {O:List (Pt×List Int)} {o:Plc} (hp:ptB o.1=true) (hk:TileIx set o.2) (i:Int) (ms ss:List Int) :
  iter (zgY (set,s0,t) (i,ms,ss,((set,s0,t),T,O)) o) (0,0,0)=some (mk4 (bT set T o),zo6 set (cat T) o.1 o.2):=by
 have step:∀ (d g m s f:Int),Dir d->g=d+1->0<=s->s<=1000->f=s+bdQ set (cat T) o.1 o.2 d->zgY (set,s0,t) (i,ms,ss,((set,s0,t),T,O)) o (m,s,d)=some (.inl (orb (bT set T o d) m (sh d),f,g)):=by
  intro d g m s f hd c v k hs';obtain ⟨p,_,l⟩:=zoh hd;have w:=zmc hS h.fok o.1 hk hd;unfold zgY zi6;rw [if_pos (by simpa using p),(zf7 hp hd).2];simp only [gq];unfold zfx;simp only [gq];unfold bT orb;have a:bdQ set (cat T) o.1 o.2 d=if cat T (zD o.1 d)≥0 then zre set o.2 d (cat T (zD o.1 d)) else 0:=rfl;by_cases b:cat T (zD o.1 d)≥0
  ·have j:TileIx set (cat T (zD o.1 d)):=by
    rcases h.fok (zD o.1 d) with k | k
    ·omega
    ·exact k
   rw [if_pos b] at a;rw [if_pos (by simpa using b),(zo7 hS hk j hd).2.1];simp only [gq];rw [←a];by_cases e:bdQ set (cat T) o.1 o.2 d>0
   ·rw [if_pos (by simpa using e),zxg hd,if_pos (by simpa using e),zu (n:=s+_) (by omega) (by omega),l,hs',c];rfl
   ·rw [if_neg (by simpa using e),if_neg (by simpa using e),l,hs',c];rw [show s+bdQ set (cat T) o.1 o.2 d=s by omega]
  ·rw [if_neg b] at a;rw [if_neg (by simpa using b),a,l,hs',c,a];simp
 have r:=zmc hS h.fok o.1 hk (d:=0) (.inl rfl);have q:=zmc hS h.fok o.1 hk (d:=1) (.inr (.inl rfl));have u:=zmc hS h.fok o.1 hk (d:=2) (.inr (.inr (.inl rfl)));rw [zv (step 0 1 0 0 _ (.inl rfl) rfl (by omega) (by omega) rfl),zv (step 1 2 _ _ _ (.inr (.inl rfl)) rfl (by omega) (by omega) rfl),zv (step 2 3 _ _ _ (.inr (.inr (.inl rfl))) rfl (by omega) (by omega) rfl),zv (step 3 4 _ _ _ (.inr (.inr (.inr rfl))) rfl (by omega) (by omega) rfl),zzj];refine zC ?_;unfold zgY zo6;rw [if_neg (by simp)];simp
theorem zu3 (hS:SetOk set) (h:Cr set T ts) {s0:List Plc} {t:Int} {o:Plc} (hp:ptB o.1=true) (hk:TileIx set o.2) (i:Int) (ms ss:List Int) :
  iter (zbZ (set,s0,t) (ms,ss,i,ts) o) (0,0)=some (mk4 (bT set T o)):=by
 have step:∀ (d f m:Int),Dir d->f=d+1->0<=m->m<=1000->zbZ (set,s0,t) (ms,ss,i,ts) o (m,d)=some (.inl (m+bt (bT set T o d) (sh d),f)):=by
  intro d f m hd c u j;obtain ⟨l,_,k⟩:=zoh hd;have p:=zyV hd;unfold zbZ zfQ zfR;rw [if_pos (by simpa using l),(zf7 hp hd).1];simp only [gq];rw [(h.at _).1];simp only [gq];unfold bT bt;have b:bdQ set (cat T) o.1 o.2 d=if cat T (zD o.1 d)≥0 then zre set o.2 d (cat T (zD o.1 d)) else 0:=rfl;by_cases a:cat T (zD o.1 d)≥0
  ·have g:TileIx set (cat T (zD o.1 d)):=by
    rcases h.fok (zD o.1 d) with j | j
    ·omega
    ·exact j
   rw [if_pos a] at b;rw [if_pos (by simpa using a),(zo7 hS hk g hd).1];simp only [gq];rw [←b];by_cases e:bdQ set (cat T) o.1 o.2 d>0
   ·rw [if_pos (by simpa using e),zxg hd,if_pos (by simpa using e)];simp only [gq];rw [zu (n:=m+_) (by omega) (by omega),k,c]
   ·rw [if_neg (by simpa using e),if_neg (by simpa using e),k,c,Int.add_zero]
  ·rw [if_neg a] at b;rw [if_neg (by simpa using a),b,k,c];simp
 have r:=ztI (bT set T o 0) (d:=0) (.inl rfl);have q:=ztI (bT set T o 1) (d:=1) (.inr (.inl rfl));have s:=ztI (bT set T o 2) (d:=2) (.inr (.inr (.inl rfl)));rw [zv (step 0 1 0 (.inl rfl) rfl (by omega) (by omega)),zv (step 1 2 _ (.inr (.inl rfl)) rfl (by omega) (by omega)),zv (step 2 3 _ (.inr (.inr (.inl rfl))) rfl (by omega) (by omega)),zv (step 3 4 _ (.inr (.inr (.inr rfl))) rfl (by omega) (by omega)),zxD];refine zC ?_;unfold zbZ;rw [if_neg (by simp)]
def oI (seq:List Plc) (i:Nat):Plc:=(seq[i]?).getD ((0,0),0)
def TI (T0 seq:List Plc) (i:Nat):List Plc:=plT (seq.take i) T0
def bI (set:TSet) (T0 seq:List Plc) (i:Nat) (d:Int):Bool:=bT set (TI T0 seq i) (oI seq i) d
def mI (set:TSet) (T0 seq:List Plc) (i:Nat):Int:=mk4 (bI set T0 seq i)
def sI (set:TSet) (T0 seq:List Plc) (i:Nat):Int:=zo6 set (cat (TI T0 seq i)) (oI seq i).1 (oI seq i).2
theorem zrj {α:Type} {l:List α} {i:Nat} {x:α} (h:l[i]?=some x):l.take (i+1)=l.take i++[x]:=by rw [fq,h];rfl
theorem zfI {t:Int} {seq T0:List Plc} (hp:Played set t T0 seq) {i:Nat} {o:Plc} (hi:seq[i]?=some o) :
  oI seq i=o/\TileIx set o.2/\znh set t (TI T0 seq i) o.1 o.2=true/\(TI T0 seq i).length<500/\TI T0 seq (i+1)=zbP (TI T0 seq i) o.1 o.2/\plS (seq.take (i+1)) T0=ins (o.1,o.2) (plS (seq.take i) T0)/\ptB o.1=true/\cat (TI T0 seq i) o.1<0:=by
 have b:=zoL (i+1) hp;rw [zrj hi] at b;obtain ⟨_,d,c,e⟩:=zmv.1 b;have a:=c;unfold znh at a;simp only [an,decide_eq_true_eq] at a;refine ⟨by unfold oI;rw [hi];rfl,d,c,e,by unfold TI;rw [zrj hi,zvT],by rw [zrj hi,zvU],a.1.1,a.1.2⟩
theorem zc3 {t:Int} {seq T0:List Plc} (hc:Cr set T0 T0) (hp:Played set t T0 seq) (i:Nat):Cr set (TI T0 seq i) (plS (seq.take i) T0):=zpe hc (zoL i hp)
theorem zyd (hS:SetOk set) (hA:AsmOk set ts) {t:Int} {seq:List Plc} (hlen:seq.length<=500) (hp:Played set t ts seq) :
  zit (set,ts,t) seq=some ((List.range seq.length).map (mI set ts seq),(List.range seq.length).map (sI set ts seq)):=by
 have m:=zkr hA;have h:=hA.1.1;have j:zdG ts=some ts:=by unfold zdG;rw [zaf (by simp;omega) (by simp;omega)];rfl
 unfold zit;simp only;rw [j];simp only [gq];have key:=zA (F:=zdw (set,ts,t) seq) (fun s=>∃ i:Nat,i<=seq.length/\s=((List.range i).map (mI set ts seq),(List.range i).map (sI set ts seq),(i:Int),plS (seq.take i) ts)) (fun s=>(seq.length - s.2.2.1).toNat)
  (fun z=>z=((List.range seq.length).map (mI set ts seq),(List.range seq.length).map (sI set ts seq))) ?_ ([],[],0,ts) ⟨0,by omega,rfl⟩
 ·obtain ⟨z,n,rfl⟩:=key;rw [n];rfl
 ·rintro s ⟨i,hi,rfl⟩;by_cases c:i<seq.length
  ·left;have f:seq[i]?=some seq[i]:=cm c;generalize seq[i]=o at f;obtain ⟨k,g,p,r,u,l,b,e⟩:=zfI hp f;have a:=zc3 m hp i;have q:=a.len;unfold zdw zis;rw [if_pos (by simp;omega)];simp only [zq f,gq];rw [zu3 hS a b g];simp only [gq];rw [zaf (by simp;omega) (by simp;omega)];simp only [gq];rw [zqt hS a.fok b (fun d _=>(a.at _).1) g];simp only [gq];rw [zaf (by simp;omega) (by simp;omega)];simp only [gq];rw [zvB _ (by omega)];simp only [gq];refine ⟨_,rfl,⟨i+1,by omega,?_⟩,?_⟩
   ·rw [zu (by omega) (by omega),fo,ef,ef,l];unfold mI bI sI;rw [←k];rfl
   ·simp only;rw [zu (by omega) (by omega)];omega
  ·right;have:i=seq.length:=by omega
   subst this;unfold zdw;rw [if_neg (by simp)];exact ⟨_,rfl,rfl⟩
theorem zAj (hS:SetOk set) (hA:AsmOk set ts) {t:Int} {seq:List Plc} (hlen:seq.length<=500) (hp:Played set t ts seq) :
  iter (zgZ (set,ts,t) seq) (0,[],[],(set,ts,t),ts,ncO set t ts)=some ((List.range seq.length).map (mI set ts seq),(List.range seq.length).map (sI set ts seq)):=by
 have l:=zkr hA;have key:=zA (F:=zgZ (set,ts,t) seq) (fun s=>∃ i:Nat,i<=seq.length/\∃ O,s=((i:Int),(List.range i).map (mI set ts seq),(List.range i).map (sI set ts seq),(set,ts,t),TI ts seq i,O)) (fun s=>(seq.length - s.1).toNat)
  (fun z=>z=((List.range seq.length).map (mI set ts seq),(List.range seq.length).map (sI set ts seq))) ?_ (0,[],[],(set,ts,t),ts,ncO set t ts) ⟨0,by omega,_,rfl⟩
 ·obtain ⟨z,n,rfl⟩:=key;exact n
 ·rintro s ⟨i,hi,O,rfl⟩;by_cases b:i<seq.length
  ·left;have e:seq[i]?=some seq[i]:=cm b;generalize seq[i]=o at e;obtain ⟨j,g,h,k,m,p,f,d⟩:=zfI hp e;have a:=zc3 l hp i;have c:(plS (seq.take i) ts).length<500:=by rw [←a.perm.length_eq];exact k
   unfold zgZ znY;rw [if_pos (by simp;omega)];simp only [zq e,gq];rw [zwK hS a f g];simp only [gq];rw [zaf (by simp;omega) (by simp;omega)];simp only [gq];rw [zaf (by simp;omega) (by simp;omega)];simp only [gq];rw [zza hS a h g c];simp only [gq];refine ⟨_,rfl,⟨i+1,by omega,laO set t (zbP (TI ts seq i) o.1 o.2) (zlQ O o.1) o.1,?_⟩,?_⟩
   ·rw [zu (by omega) (by omega),fo,ef,ef,m];unfold mI bI sI;rw [←j];rfl
   ·simp only;rw [zu (by omega) (by omega)];omega
  ·right;have:i=seq.length:=by omega
   subst this;unfold zgZ;rw [if_neg (by simp)];exact ⟨_,rfl,rfl⟩
end
section
variable {set:TSet} {T ts:List Plc}
theorem zr3 (a b:Pt):(decide (a.1=b.1)&&decide (a.2=b.2))=decide (a=b):=by
 rw [ao];simp [Prod.ext_iff]
theorem zvk {n:Nat} {f:Nat->Bool}:(List.range n).any f=true↔∃ j,j<n/\f j=true:=by
 rw [bd];exact ⟨fun ⟨j,h,hf⟩=>⟨j,fe.1 h,hf⟩,fun ⟨j,h,hf⟩=>⟨j,fe.2 h,hf⟩⟩
theorem ze6 {seq:List Plc} {i:Nat} (h:i<seq.length):seq[i]?=some (oI seq i):=by
 unfold oI;rw [cm h];rfl
section
variable {t:Int} {seq:List Plc} (hA:AsmOk set ts) (hp:Played set t ts seq)
include hA hp
theorem zxf {i:Nat} {o:Plc} (hi:seq[i]?=some o):TI ts seq (i+1)=TI ts seq i++[(o.1,o.2)]:=by
 obtain ⟨h,c,d,e,f,j,g,b⟩:=zfI hp hi;have a:=zc3 (zkr hA) hp i;rw [f];exact (a.put d c (by rw [←a.perm.length_eq];exact e)).2
theorem zsE {i:Nat} {x:Plc} (hx:x∈TI ts seq i):∀ r,i+r<=seq.length->x∈TI ts seq (i+r)
 | 0,_=>hx
 | r+1,h=>by
  have hi:seq[i+r]?=some (seq[i+r]'(by omega)):=cm (by omega);rw [←Nat.add_assoc,zxf hA hp hi];exact er _ (zsE hx r (by omega))
theorem zuJ {i:Nat} {o:Plc} (hi:seq[i]?=some o):∀ x∈TI ts seq i,x.1≠o.1:=by
 obtain ⟨g,e,f,j,k,h,d,a⟩:=zfI hp hi;have b:=zc3 (zkr hA) hp i;exact fun x c=>b.free.1 a x (b.perm.mem_iff.1 c)
theorem zBj {i j:Nat} {o o':Plc} (hi:seq[i]?=some o) (hj:seq[j]?=some o') (h:i<j):o.1≠o'.1:=by
 have b:(o.1,o.2)∈TI ts seq (i+1):=by rw [zxf hA hp hi];simp
 have a:=zsE hA hp b (j - (i+1)) (by have:=zy hj;omega);rw [show i+1+(j - (i+1))=j by omega] at a;exact zuJ hA hp hj _ a
theorem zAX {i j:Nat} (h:i<j) (hj:j<seq.length):(oI seq i).1≠(oI seq j).1:=zBj hA hp (ze6 (by omega)) (ze6 hj) h
theorem zs9 {i j:Nat} (hi:i<seq.length) (hj:j<seq.length) (h:(oI seq i).1=(oI seq j).1):i=j:=by
 rcases gj i j with h1 | h1 | h1
 ·exact absurd h (zAX hA hp h1 hj)
 ·exact h1
 ·exact absurd h.symm (zAX hA hp h1 hi)
end
def bO (set:TSet) (T0 seq:List Plc) (i:Nat) (d:Int):Bool:=
 (List.range seq.length).any fun k=>decide (i<k)&&decide ((oI seq k).1=zD (oI seq i).1 d)&&bI set T0 seq k (zlP d)
def mO (set:TSet) (T0 seq:List Plc) (i:Nat):Int:=mk4 (bO set T0 seq i)
theorem ztg {n i:Nat} (f:Nat->Int) (h:i<n):idx ((List.range n).map f) (i:Int)=some (f i):=zq (by rw [cq,cw h];rfl)
section
variable {t:Int} {seq:List Plc} (hA:AsmOk set ts) (hlen:seq.length<=500) (hp:Played set t ts seq)
include hA hlen hp
theorem zBs {q:Pt} {d mm:Int} (hd:Dir d):∀ (r k:Nat) (m:Int),k+r=seq.length->0<=m->m<=100->
  iter (zP seq ((List.range seq.length).map (mI set ts seq)) (mm,d) q) (m,(k:Int))=some (m+bt ((List.range seq.length).any fun j=>decide (k<=j)&&decide ((oI seq j).1=q)&&bI set ts seq j (zlP d)) (sh d)):=by
 intro r;have E:=zyV hd
 induction r with
 | zero=>
  intro k m z x p;refine zC ?_;unfold zP;rw [if_neg (by simp;omega)];have:((List.range seq.length).any fun j=>decide (k<=j)&&decide ((oI seq j).1=q)&&bI set ts seq j (zlP d))=false:=by
   refine Bool.eq_false_iff.2 fun h=>?_;obtain ⟨j,e,b⟩:=zvk.1 h;simp only [an,decide_eq_true_eq] at b;omega
  rw [this];simp [bt]
 | succ r ih=>
  intro k m z x p;have a:k<seq.length:=by omega
  have B:w64 ((k:Int)+1)=((k+1:Nat):Int):=by rw [zu (by omega) (by omega)];omega
  by_cases f:(oI seq k).1=q
  ·have w:((List.range seq.length).any fun j=>decide (k+1<=j)&&decide ((oI seq j).1=q)&&bI set ts seq j (zlP d))=false:=by
    refine Bool.eq_false_iff.2 fun h=>?_;obtain ⟨j,e,b⟩:=zvk.1 h;simp only [an,decide_eq_true_eq] at b;have:=zs9 hA hp a e (by rw [f,b.1.2]);omega
   have n:((List.range seq.length).any fun j=>decide (k<=j)&&decide ((oI seq j).1=q)&&bI set ts seq j (zlP d))=bI set ts seq k (zlP d):=by
    rw [ao,zvk];constructor
    ·rintro ⟨j,e,b⟩;simp only [an,decide_eq_true_eq] at b;have:=zs9 hA hp a e (by rw [f,b.1.2]);subst this;exact b.2
    ·intro h;exact ⟨k,a,by simp [f,h]⟩
   obtain ⟨v,u,y⟩:=zuZ (bI set ts seq k) (zq9 hd);have C:=ztI (bI set ts seq k (zlP d)) hd;have c:zP seq ((List.range seq.length).map (mI set ts seq)) (mm,d) q (m,(k:Int))=some (.inl (m+bt (bI set ts seq k (zlP d)) (sh d),((k+1:Nat):Int))):=by
    unfold zP zbo zbp;rw [if_pos (by simp;omega)];simp only [zq (ze6 a),gq];rw [zr3,if_pos (by simpa using f),ztg _ a];simp only [gq];rw [(zuW hd).1];simp only [gq];unfold mI;rw [u];simp only [gq];rw [y,B];cases s:bI set ts seq k (zlP d) with
    | true=>
     rw [if_pos rfl,zxg hd];simp only [gq];rw [zu (by omega) (by omega)];rfl
    | false=>
     rw [if_neg (by simp)];simp [bt]
   rw [zv c];unfold bt at C;by_cases s:bI set ts seq k (zlP d)=true
   ·
    have g:∀ (r k:Nat) (m:Int),k+r=seq.length->(∀ j,k<=j->j<seq.length->(oI seq j).1≠q)->iter (zP seq ((List.range seq.length).map (mI set ts seq)) (mm,d) q) (m,(k:Int))=some m:=by
     intro r
     induction r with
     | zero=>
      intro k m z _;refine zC ?_;unfold zP;rw [if_neg (by simp;omega)]
     | succ r ih2=>
      intro k m z i;have a:k<seq.length:=by omega
      have A:zP seq ((List.range seq.length).map (mI set ts seq)) (mm,d) q (m,(k:Int))=some (.inl (m,((k+1:Nat):Int))):=by
       unfold zP zbo zbp;rw [if_pos (by simp;omega)];simp only [zq (ze6 a),gq];rw [zr3,if_neg (by simpa using i k (ga _) a),if_neg (by simp)];rw [show w64 ((k:Int)+1)=((k+1:Nat):Int) by rw [zu (by omega) (by omega)];omega]
      rw [zv A];exact ih2 _ _ (by omega) fun j p t=>i j (by omega) t
    rw [g r (k+1) _ (by omega) fun j p t D=>by have:=zs9 hA hp a t (by rw [f,D]);omega,n]
   ·have l:bI set ts seq k (zlP d)=false:=by simpa using s
    rw [l];show iter _ (m+0,_)=_;rw [Int.add_zero,ih (k+1) m (by omega) x p,w,n,l]
  ·have c:zP seq ((List.range seq.length).map (mI set ts seq)) (mm,d) q (m,(k:Int))=some (.inl (m,((k+1:Nat):Int))):=by
    unfold zP zbo zbp;rw [if_pos (by simp;omega)];simp only [zq (ze6 a),gq];rw [zr3,if_neg (by simpa using f),if_neg (by simp),B]
   rw [zv c,ih (k+1) m (by omega) x p];congr 2;congr 1;rw [ao,zvk,zvk];constructor
   ·rintro ⟨j,e,b⟩;simp only [an,decide_eq_true_eq] at b;exact ⟨j,e,by simp only [an,decide_eq_true_eq];exact ⟨⟨by omega,b.1.2⟩,b.2⟩⟩
   ·rintro ⟨j,e,b⟩;simp only [an,decide_eq_true_eq] at b;refine ⟨j,e,?_⟩;simp only [an,decide_eq_true_eq];refine ⟨⟨?_,b.1.2⟩,b.2⟩;rcases gh k j with h | h
    ·exact h
    ·have:j=k:=by omega
     subst this;exact absurd b.1.2 f
theorem zBt {i:Nat} (hi:i<seq.length) (acc:List Int):iter (zbn seq ((List.range seq.length).map (mI set ts seq)) (acc,(i:Int))) (0,0)=some (mO set ts seq i):=by
 obtain ⟨_,_,_,_,_,_,c,_⟩:=zfI hp (ze6 hi);have step:∀ (d b m:Int),Dir d->b=d+1->0<=m->m<=100->zbn seq ((List.range seq.length).map (mI set ts seq)) (acc,(i:Int)) (m,d)=some (.inl (m+bt (bO set ts seq i d) (sh d),b)):=by
  intro d b m hd a j g;obtain ⟨f,_,h⟩:=zoh hd;unfold zbn zhZ;rw [if_pos (by simpa using f)];simp only [zq (ze6 hi),gq];rw [(zf7 c hd).1];simp only [gq];have e:w64 ((i:Int)+1)=((i+1:Nat):Int):=by rw [zu (by omega) (by omega)];omega
  rw [e,zBs hA hlen hp hd (seq.length - (i+1)) (i+1) m (by omega) j g];simp only [gq];rw [h,a];rfl
 have l:=ztI (bO set ts seq i 0) (d:=0) (.inl rfl);have k:=ztI (bO set ts seq i 1) (d:=1) (.inr (.inl rfl));have n:=ztI (bO set ts seq i 2) (d:=2) (.inr (.inr (.inl rfl)));rw [zv (step 0 1 0 (.inl rfl) rfl (by omega) (by omega)),zv (step 1 2 _ (.inr (.inl rfl)) rfl (by omega) (by omega)),zv (step 2 3 _ (.inr (.inr (.inl rfl))) rfl (by omega) (by omega)),zv (step 3 4 _ (.inr (.inr (.inr rfl))) rfl (by omega) (by omega)),zxD];refine zC ?_;unfold zbn;rw [if_neg (by simp)];rfl
theorem zwM:zhF seq ((List.range seq.length).map (mI set ts seq))=some ((List.range seq.length).map (mO set ts seq)):=by
 unfold zhF;have key:=zA (F:=zcY seq ((List.range seq.length).map (mI set ts seq))) (fun s=>∃ i:Nat,i<=seq.length/\s=((List.range i).map (mO set ts seq),(i:Int))) (fun s=>(seq.length - s.2).toNat)
  (fun z=>z=(List.range seq.length).map (mO set ts seq)) ?_ ([],0) ⟨0,by omega,rfl⟩
 ·obtain ⟨z,b,rfl⟩:=key;rw [b];rfl
 ·rintro s ⟨i,hi,rfl⟩;by_cases a:i<seq.length
  ·left;unfold zcY zh0;rw [if_pos (by simp;omega),zBt hA hlen hp a];simp only [gq];rw [zaf (by simp;omega) (by simp;omega)];simp only [gq];refine ⟨_,rfl,⟨i+1,by omega,?_⟩,?_⟩
   ·rw [zu (by omega) (by omega),fo,ef];rfl
   ·simp only;rw [zu (by omega) (by omega)];omega
  ·right;have:i=seq.length:=by omega
   subst this;unfold zcY;rw [if_neg (by simp)];exact ⟨_,rfl,rfl⟩
theorem zzB {p0:Sy} {fin sl:List _} {i:Nat} (hi:i<seq.length):zei (p0,seq,fin,(List.range seq.length).map (mI set ts seq),sl) (i:Int)=some (mO set ts seq i):=by
 obtain ⟨_,_,_,_,_,_,s,_⟩:=zfI hp (ze6 hi);have step:∀ (d l m:Int),Dir d->l=d+1->za0 (p0,seq,fin,(List.range seq.length).map (mI set ts seq),sl) (i:Int) (m,d)=some (.inl (orb (bO set ts seq i d) m (sh d),l)):=by
  intro d l m hd c;obtain ⟨v,_,n⟩:=zoh hd;unfold za0 zcE zcF;rw [if_pos (by simpa using v)];simp only [zq (ze6 hi),gq];rw [(zf7 s hd).2];simp only [gq];unfold zhk;simp only;obtain ⟨r,w,p⟩:=ztU seq (by omega) (fun q0=>zcG q0 (zD (oI seq i).1 d)) (fun x=>decide (x.1=zD (oI seq i).1 d)) (fun b _=>by unfold zcG;rw [zr3]);rw [w];simp only [gq];rcases p with ⟨rfl,f⟩ | ⟨k,rfl,hk,hlow,b,hb,hq⟩
  ·have:bO set ts seq i d=false:=by
    refine Bool.eq_false_iff.2 fun h=>?_;obtain ⟨j,g,a⟩:=zvk.1 h;simp only [an,decide_eq_true_eq] at a;have u:=f _ (fd (ze6 g));simp only [decide_eq_false_iff_not] at u;exact u a.1.2
   rw [if_neg (by simp),if_neg (by simp),this,n,c];rfl
  ·have q:oI seq k=b:=by unfold oI;rw [hb];rfl
   have e:(oI seq k).1=zD (oI seq i).1 d:=by rw [q];simpa using hq
   by_cases t:i<k
   ·have:bO set ts seq i d=bI set ts seq k (zlP d):=by
     unfold bO;rw [ao,zvk];constructor
     ·rintro ⟨j,g,a⟩;simp only [an,decide_eq_true_eq] at a;have:=zs9 hA hp hk g (by rw [e,a.1.2]);subst this;exact a.2
     ·intro h;exact ⟨k,hk,by simp [e,h,t]⟩
    rw [if_pos (by simp;omega),ztg _ hk];simp only [gq];rw [(zuW hd).2.1];simp only [gq];unfold mI;rw [zxw _ (zq9 hd)];simp only [gq];rw [←this,n,c];cases hbb:bO set ts seq i d with
    | true=>rw [if_pos rfl,zxg hd];rfl
    | false=>rw [if_neg (by simp)];rfl
   ·have:bO set ts seq i d=false:=by
     refine Bool.eq_false_iff.2 fun h=>?_;obtain ⟨j,g,a⟩:=zvk.1 h;simp only [an,decide_eq_true_eq] at a;have:=zs9 hA hp hk g (by rw [e,a.1.2]);omega
    rw [if_neg (by simp;omega),if_neg (by simp),this,n,c];rfl
 unfold zei ze9;rw [zv (step 0 1 0 (.inl rfl) rfl),zv (step 1 2 _ (.inr (.inl rfl)) rfl),zv (step 2 3 _ (.inr (.inr (.inl rfl))) rfl),zv (step 3 4 _ (.inr (.inr (.inr rfl))) rfl),zzj];rw [zC (x:=mk4 (bO set ts seq i)) (by unfold za0;rw [if_neg (by simp)])];rfl
end
end
section
variable {set:TSet} {T ts:List Plc}
theorem zAA {ts:List Plc} (hs:Srt ts) (hl:ts.length<=1048576) (p:Pt):∃ (k:Nat) (b:Bool),z7 ts p (fun q0 f=>z1 q0 f)=some ((k:Int),b)/\((b=true/\∃ x,ts[k]?=some x/\x.1=p)\/(b=false/\∀ x∈ts,x.1≠p)):=by
 have i:∀ x:Plc,z1 x p=some (zwp x.1 p):=fun x=>by unfold z1;rw [zts];rfl
 have key:=zw7 hs hl (p:=p) (F:=zK ts p fun q0 f=>z1 q0 f) ?_ ?_
 ·obtain ⟨k,s,t,h,g⟩:=key;unfold z7 zas;simp only [s,gq];by_cases c:k<ts.length
  ·have d:ts[k]?=some ts[k]:=cm c;rw [if_pos (by simp [c])];simp only [zq d,gq,i];by_cases e:ts[k].1=p
   ·exact ⟨k,true,by simp [zpj,e],.inl ⟨rfl,_,d,e⟩⟩
   ·exact ⟨k,false,by simp [zpj,e],.inr ⟨rfl,zrW hs h g fun x a=>by rw [d] at a;injection a with a;subst a;exact e⟩⟩
  ·rw [if_neg (by simp;omega)];exact ⟨k,false,rfl,.inr ⟨rfl,zrW hs h g fun x a=>by have:=zy a;omega⟩⟩
 ·intro lo hi x c q d;unfold zK;have l:w64 ((lo:Int)+(hi:Int))=((lo+hi:Nat):Int):=by rw [zu (by omega) (by omega)];omega
  have j:IntKind.wrap .u64 ((lo+hi:Nat):Int)=((lo+hi:Nat):Int):=by
   show ((lo+hi:Nat):Int) % 18446744073709551616=((lo+hi:Nat):Int);omega
  have r:Int.fdiv ((lo+hi:Nat):Int) (2 ^ 1)=(((lo+hi) / 2:Nat):Int):=by
   rw [Int.fdiv_eq_ediv_of_nonneg _ (by omega)];omega
  have m:w64 (((lo+hi) / 2:Nat):Int)=(((lo+hi) / 2:Nat):Int):=zu (by omega) (by omega);have n:w64 ((((lo+hi) / 2:Nat):Int)+1)=(((lo+hi) / 2+1:Nat):Int):=by rw [zu (by omega) (by omega)];omega
  rw [if_pos (by simp [c])];simp only [l,j,r,m,n,zq d,gq,i,zrc];cases lp x.1 p<;>rfl
 ·intro lo;unfold zK;rw [if_neg (by simp)]
theorem zwS (h:Cr set T ts) (p:Pt):zeV ts p=some (cat T p):=by
 have g:=h.len;obtain ⟨k,b,f,a⟩:=zAA h.pw.srt (by omega) p;unfold zeV;rw [f];simp only [gq];have c:=(zpk T p).perm h.perm;rcases a with ⟨rfl,x,d,e⟩ | ⟨rfl,hn⟩
 ·rw [if_pos rfl,zq d];simp only [gq];congr 1;exact AtV.uniq h.pw (.inl ⟨x.2,rfl,by rw [←e];exact fd d⟩) c
 ·rw [if_neg (by simp)];congr 1;exact AtV.uniq h.pw (.inr ⟨rfl,hn⟩) c
theorem Cr.sub (h:Cr set T ts) (f:Plc->Bool):Cr set (ts.filter f) (ts.filter f) where
 perm:=.refl _
 pw:=h.pw.filter f
 ok:=fun x hx=>h.ok x (ey.1 hx).1
 len:=gc (du _ _) h.len
theorem Cr.asm (hS:SetOk set) (h:Cr set T ts):AsmOk set ts:=by
 have g:=hS.tiles;refine ⟨⟨h.len,fun i hi x d=>?_⟩,fun x d=>(h.ok x d).2⟩;obtain ⟨a,b,c⟩:=h.ok x (fd d);exact ⟨a,b,by omega,fun y f e=>h.pw.srt (i - 1) i y x (by omega) e d⟩
def znx (p:Pt) (b:Int->Bool) (x:Plc):Bool:=!decide (x.1=p)&&!(b 0&&decide (x.1=zD p 0))&&!(b 1&&decide (x.1=zD p 1))&&!(b 2&&decide (x.1=zD p 2))&&!(b 3&&decide (x.1=zD p 3))
theorem zuC {p:Pt} (hp:ptB p=true) (b:Int->Bool) (hl:ts.length<=500):zhE ts p (mk4 b)=some (ts.filter (znx p b)):=by
 have c:∀ (i:Nat) (x:Plc) (a:List Plc),ts[i]?=some x->iter (zbm ts p (mk4 b) ((i:Int),a) x) (!decide (x.1=p),0)=some (znx p b x):=by
  intro i x a e;have step:∀ (d j:Int) (r:Bool),Dir d->j=d+1->zbm ts p (mk4 b) ((i:Int),a) x (r,d)=some (.inl (r&&!(b d&&decide (x.1=zD p d)),j)):=by
   intro d j r hd f;obtain ⟨n,_,m⟩:=zoh hd;obtain ⟨v,h,g⟩:=zuZ b hd;unfold zbm zeY zeZ;rw [if_pos (by simpa using n),h];simp only [gq];rw [g];cases hb:b d with
   | true=>
    rw [if_pos rfl];simp only [zq e,gq];rw [(zf7 hp hd).1];simp only [gq];rw [zr3,m,f];cases hq:decide (x.1=zD p d) with
    | true=>rw [if_pos rfl];simp
    | false=>rw [if_neg (by simp)];simp
   | false=>rw [if_neg (by simp),if_neg (by simp),m,f];simp
  rw [zv (step 0 1 _ (.inl rfl) rfl),zv (step 1 2 _ (.inr (.inl rfl)) rfl),zv (step 2 3 _ (.inr (.inr (.inl rfl))) rfl),zv (step 3 4 _ (.inr (.inr (.inr rfl))) rfl)];refine zC ?_;unfold zbm;rw [if_neg (by simp)];rfl
 have hlen:∀ (i:Nat) (l:List Plc),(l.foldl (fun a x=>if znx p b x then a++[x] else a) ([]:List Plc)).length<=l.length:=fun i l=>by
  have:=zaV (znx p b) (fun x:Plc=>x) l [];rw [this];simp;exact du _ _
 unfold zhE;have key:=zpU (F:=zcX ts p (mk4 b)) ts (fun a x=>if znx p b x then a++[x] else a) [] (by omega) (fun a i x e k=>?_) (fun a k=>?_)
 ·rw [key];simp only [gq,zhY];have:=zaV (znx p b) (fun x:Plc=>x) ts [];rw [this];simp
 ·have q:=zy e;have s:a.length<=1000:=by rw [k];refine gc (hlen 0 _) ?_;rw [ed];omega
  unfold zcX;rw [if_pos (by simp;omega)];simp only [zq e,gq];rw [zr3,c i x a e];simp only [gq];unfold zhX ze0;cases znx p b x with
  | true=>
   rw [if_pos rfl];simp only [zq e,gq];rw [zaf (by simp;omega) (by simp;omega)];rfl
  | false=>rw [if_neg (by simp)];rfl
 ·unfold zcX;rw [if_neg (by simp)]
theorem zwo (E:List Pt) (h:E.length<=1000) (q:Pt):zeh E q=some (decide (q∈E)):=by
 unfold zeh zjG zhd;rcases zjM E (by omega) (fun x=>some (decide (q.1=x.1)&&decide (q.2=x.2))) (fun x=>decide (q=x)) (fun x _=>by rw [zr3]) (zhc E q) (fun i=>rfl) with ⟨b,a⟩ | ⟨k,b,hk,hlow,x,hx,hq⟩
 ·rw [b];have:¬q∈E:=fun h=>by simpa using a q h
  simp [this]
 ·rw [b];have:q∈E:=by
   have c:q=x:=by simpa using hq
   rw [c];exact fd hx
  simp [this]
def apE (b:Bool) (E:List Pt) (q:Pt):List Pt:=if b then E++[q] else E
theorem zn9 (b:Bool) (E:List Pt) (q:Pt):(apE b E q).length<=E.length+1:=by unfold apE;split<;>simp
def zw0 (p:Pt) (b:Int->Bool):List Pt:=apE (b 3) (apE (b 2) (apE (b 1) (apE (b 0) [p] (zD p 0)) (zD p 1)) (zD p 2)) (zD p 3)
theorem zzJ (p:Pt) (b:Int->Bool) (x:Plc):(!decide (x.1∈zw0 p b))=znx p b x:=by
 unfold zw0 znx apE;cases b 0<;>cases b 1<;>cases b 2<;>cases b 3<;>simp [Bool.and_assoc]
theorem zzK (p:Pt) (b:Int->Bool):(zw0 p b).length<=5:=by
 unfold zw0;have a:=zn9 (b 0) [p] (zD p 0);have c:=zn9 (b 1) (apE (b 0) [p] (zD p 0)) (zD p 1);have d:=zn9 (b 2) (apE (b 1) (apE (b 0) [p] (zD p 0)) (zD p 1)) (zD p 2);have e:=zn9 (b 3) (apE (b 2) (apE (b 1) (apE (b 0) [p] (zD p 0)) (zD p 1)) (zD p 2)) (zD p 3);simp only [ec] at a;omega
theorem zuD {p:Pt} (b:Int->Bool) (hl:ts.length<=500):zdf ts (zw0 p b)=some (ts.filter (znx p b)):=by
 unfold zdf;rw [ztF ts (by omega)];simp only [gq];rw [zt0 ts (by omega) _ (fun x=>decide (x.1∈zw0 p b)) (fun x _=>by
  unfold zec;rw [zwo _ (by have:=zzK p b;omega)];rfl)]
 simp only [gq];congr 1;exact List.filter_congr fun x _=>zzJ p b x
section
variable {t:Int} {seq:List Plc} (hS:SetOk set) (hA:AsmOk set ts) (hlen:seq.length<=500) (hp:Played set t ts seq)
def zii (set:TSet) (T0 seq:List Plc) (i:Nat):List Plc:=(plS seq T0).filter (znx (oI seq i).1 (bO set T0 seq i))
def zvl (set:TSet) (t:Int) (T0 seq:List Plc) (i:Nat) (k:Int):Prop:=k≠(oI seq i).2/\zo6 set (cat (zii set T0 seq i)) (oI seq i).1 k≥t
instance {t:Int} {T0 seq:List Plc} {i:Nat} {k:Int}:Decidable (zvl set t T0 seq i k):=inferInstanceAs (Decidable (_/\_))
include hS hA hlen hp
theorem zuR (i:Nat):Cr set (zii set ts seq i) (zii set ts seq i):=by
 have h:=zc3 (zkr hA) hp seq.length;rw [ft] at h;exact h.sub _
theorem zxb {i:Nat} (hi:i<seq.length) {s0:List Plc} {sl:List Int} :
  ∃ r,zej ((set,s0,t),seq,plS seq ts,(List.range seq.length).map (mI set ts seq),sl) (i:Int)=some r/\(r=true↔∃ k,TileIx set k/\zvl set t ts seq i k):=by
 obtain ⟨_,L,_,_,_,_,p,_⟩:=zfI hp (ze6 hi);have l:=zc3 (zkr hA) hp seq.length;rw [ft] at l;have j:=zuR hS hA hlen hp i;have O:=hS.tiles;unfold zej;simp only [zq (ze6 hi),gq];have step:∀ (d w:Int) (E:List Pt),Dir d->w=d+1->E.length<=100->za2 ((set,s0,t),seq,plS seq ts,(List.range seq.length).map (mI set ts seq),sl) (i:Int) (oI seq i) (E,d)=some (.inl (apE (bO set ts seq i d) E (zD (oI seq i).1 d),w)):=by
  intro d w E hd q M;obtain ⟨J,_,A⟩:=zoh hd;unfold za2 zcH;rw [if_pos (by simpa using J),zzB hA hlen hp hi];simp only [gq];unfold mO;rw [zxw _ hd];simp only [gq];unfold apE;cases bO set ts seq i d with
  | true=>
   rw [if_pos rfl,(zf7 p hd).2];simp only [gq];rw [zaf (by simp;omega) (by simp;omega)];simp only [gq];rw [A,q];rfl
  | false=>rw [if_neg (by simp),A,q];rfl
 have D:=zn9 (bO set ts seq i 0) [(oI seq i).1] (zD (oI seq i).1 0);have n:=zn9 (bO set ts seq i 1) (apE (bO set ts seq i 0) [(oI seq i).1] (zD (oI seq i).1 0)) (zD (oI seq i).1 1);have v:=zn9 (bO set ts seq i 2) (apE (bO set ts seq i 1) (apE (bO set ts seq i 0) [(oI seq i).1] (zD (oI seq i).1 0)) (zD (oI seq i).1 1)) (zD (oI seq i).1 2);simp only [ec] at D;rw [zv (step 0 1 _ (.inl rfl) rfl (by simp)),zv (step 1 2 _ (.inr (.inl rfl)) rfl (by omega)),zv (step 2 3 _ (.inr (.inr (.inl rfl))) rfl (by omega)),zv (step 3 4 _ (.inr (.inr (.inr rfl))) rfl (by omega))];rw [zC (x:=zw0 (oI seq i).1 (bO set ts seq i)) (by unfold za2;rw [if_neg (by simp)];rfl)];simp only [gq];unfold zfa;simp only;rw [zuD _ l.len];simp only [gq];have key:=zA (F:=za1 ((set,s0,t),seq,plS seq ts,(List.range seq.length).map (mI set ts seq),sl) (oI seq i) (zii set ts seq i))
  (fun s=>0<=s/\s<=set.2.length/\∀ k:Int,0<=k->k<s->¬zvl set t ts seq i k) (fun s=>(set.2.length - s).toNat)
  (fun z=>match z with | .inl _=>∀ k:Int,TileIx set k->¬zvl set t ts seq i k | .inr b=>b=true/\∃ k,TileIx set k/\zvl set t ts seq i k) ?_ 0 ⟨by omega,by omega,fun k n v=>by omega⟩
 ·obtain ⟨z,H,j⟩:=key;show ∃ r,((iter (za1 _ _ (zii set ts seq i)) 0).bind _)=some r/\_;rw [H];cases z with
  | inl u=>
   refine ⟨false,rfl,?_⟩;constructor
   ·intro h;cases h
   ·rintro ⟨k,n,v⟩;exact absurd v (j k n)
  | inr b=>exact ⟨b,rfl,fun _=>j.2,fun _=>j.1⟩
 ·rintro k ⟨G,N,y⟩;unfold za1 zcI;simp only;by_cases C:k<set.2.length
  ·rw [if_pos (by simp;omega)];have m:TileIx set k:=⟨G,by omega⟩;have B:w64 (k+1)=k+1:=zu (by omega) (by omega);have f:¬zvl set t ts seq i k->(0<=k+1/\k+1<=set.2.length/\∀ e:Int,0<=e->e<k+1->¬zvl set t ts seq i e)/\((set.2.length:Int) - (k+1)).toNat<((set.2.length:Int) - k).toNat:=by
    intro c;refine ⟨⟨by omega,by omega,fun e n v=>?_⟩,by omega⟩;by_cases I:e=k
    ·subst I;exact c
    ·exact y e n (by omega)
   by_cases a:k=(oI seq i).2
   ·left;rw [if_neg (by simp [a]),if_neg (by simp),B];exact ⟨_,rfl,f fun c=>c.1 a⟩
   ·rw [if_pos (by simp [a]),zq0 hS j.fok p (g:=fun q0=>zeV (zii set ts seq i) q0) (fun d _=>zwS j _) m];simp only [gq];by_cases c:zo6 set (cat (zii set ts seq i)) (oI seq i).1 k≥t
    ·right;rw [if_pos (by simpa using c)];exact ⟨_,rfl,rfl,k,m,a,c⟩
    ·left;rw [if_neg (by simpa using c),B];exact ⟨_,rfl,f fun h=>c h.2⟩
  ·right;rw [if_neg (by simp;omega)];exact ⟨_,rfl,fun e h=>y e h.1 (by have:=h.2;omega)⟩
theorem zyx {i:Nat} (hi:i<seq.length):sI set ts seq i<=zo6 set (cat (zii set ts seq i)) (oI seq i).1 (oI seq i).2:=by
 obtain ⟨_,u,_,_,_,_,x,_⟩:=zfI hp (ze6 hi);have w:=zc3 (zkr hA) hp i;have h:=zc3 (zkr hA) hp seq.length;have t:=zuR hS hA hlen hp i;have one:∀ d,Dir d->bdQ set (cat (TI ts seq i)) (oI seq i).1 (oI seq i).2 d<=bdQ set (cat (zii set ts seq i)) (oI seq i).1 (oI seq i).2 d:=by
  intro d hd;have z:=zmc hS t.fok (oI seq i).1 u hd;by_cases c:cat (TI ts seq i) (zD (oI seq i).1 d)≥0
  ·rcases zpk (TI ts seq i) (zD (oI seq i).1 d) with ⟨v,ev,p⟩ | ⟨e,_⟩
   ·have l:(zD (oI seq i).1 d,v)∈TI ts seq seq.length:=by
     have:=zsE hA hp p (seq.length - i) (by omega)
     rwa [show i+(seq.length - i)=seq.length by omega] at this
    have n:(zD (oI seq i).1 d,v)∈plS seq ts:=by
     have:=h.perm.mem_iff.1 l
     rwa [ft] at this
    have q:zD (oI seq i).1 d≠(oI seq i).1:=zuJ hA hp (ze6 hi) _ p;have g:∀ a,bO set ts seq i a=true->zD (oI seq i).1 d≠zD (oI seq i).1 a:=by
     intro a b e;obtain ⟨k,j,s⟩:=zvk.1 b;simp only [an,decide_eq_true_eq] at s;have r:=zsE hA hp p (k - i) (by omega);rw [show i+(k - i)=k by omega] at r;exact zuJ hA hp (ze6 j) _ r (by rw [s.1.2];exact e)
    have m:(zD (oI seq i).1 d,v)∈zii set ts seq i:=by
     refine ey.2 ⟨n,?_⟩;unfold znx;have f:∀ a,(!(bO set ts seq i a&&decide (zD (oI seq i).1 d=zD (oI seq i).1 a)))=true:=by
      intro a;cases b:bO set ts seq i a with
      | false=>rfl
      | true=>simp [g a b]
     simp only;rw [f 0,f 1,f 2,f 3,decide_eq_false q];rfl
    have y:cat (zii set ts seq i) (zD (oI seq i).1 d)=cat (TI ts seq i) (zD (oI seq i).1 d):=by
     rw [ev];exact AtV.uniq t.pw (zpk _ _) (.inl ⟨v,rfl,m⟩)
    unfold bdQ;rw [y];exact Int.le_refl _
   ·omega
  ·have:bdQ set (cat (TI ts seq i)) (oI seq i).1 (oI seq i).2 d=0:=if_neg c;omega
 unfold sI zo6;have B:=one 0 (.inl rfl);have o1:=one 1 (.inr (.inl rfl));have o2:=one 2 (.inr (.inr (.inl rfl)));have A:=one 3 (.inr (.inr (.inr rfl)));omega
theorem zBQ {i:Nat} (hi:i<seq.length) (hs:sI set ts seq i=t):((atL set t (cat (zii set ts seq i)) (oI seq i).1).length=1↔¬ ∃ k,TileIx set k/\zvl set t ts seq i k):=by
 obtain ⟨_,s,_⟩:=zfI hp (ze6 hi);have q:=zyx hS hA hlen hp hi;have c:∀ k,k∈atL set t (cat (zii set ts seq i)) (oI seq i).1↔TileIx set k/\zo6 set (cat (zii set ts seq i)) (oI seq i).1 k≥t:=by
  intro k;unfold atL;rw [ey,zxs,decide_eq_true_eq]
 have f:(atL set t (cat (zii set ts seq i)) (oI seq i).1).Pairwise (· ≠ ·):=by
  unfold atL ixs;refine List.Pairwise.filter _ ?_;rw [List.pairwise_map];exact List.nodup_range.imp fun {a b} h j=>h (by omega)
 have d:(oI seq i).2∈atL set t (cat (zii set ts seq i)) (oI seq i).1:=(c _).2 ⟨s,by omega⟩;revert c f d;generalize hL:atL set t (cat (zii set ts seq i)) (oI seq i).1=L;intro c f d;constructor
 ·rintro p ⟨k,j,v,u⟩;obtain ⟨a,rfl⟩:=List.length_eq_one_iff.1 p;have r:=(c k).2 ⟨j,u⟩;simp only [fg] at r d;exact v (by rw [r,d])
 ·intro m;have e:∀ k∈L,k=(oI seq i).2:=fun k g=>Classical.byContradiction fun n=>m ⟨k,((c k).1 g).1,n,((c k).1 g).2⟩
  match L,f,d,e with
  | [],_,d,_=>cases d
  | [a],_,_,_=>rfl
  | a::b::l,f,_,e=>
   have p:=e a (by simp);have j:=e b (by simp);exact absurd (p.trans j.symm) ((fj.1 f).1 b (by simp))
def zyB (set:TSet) (t:Int) (T0 seq:List Plc) (i:Nat):Prop:=sI set T0 seq i=t/\¬ ∃ k,TileIx set k/\zvl set t T0 seq i k
theorem zwY {s0:List Plc}:∃ z,iter (zdY ((set,s0,t),seq,plS seq ts,(List.range seq.length).map (mI set ts seq),(List.range seq.length).map (sI set ts seq))) 0=some z/\
  match z with | .inl _=>∀ i,i<seq.length->zyB set t ts seq i | .inr f=>f.isSome=true/\∃ i,i<seq.length/\¬zyB set t ts seq i:=by
 refine zA (fun s=>∃ i:Nat,s=(i:Int)/\i<=seq.length/\∀ j,j<i->zyB set t ts seq j) (fun s=>(seq.length - s).toNat) _ ?_ 0 ⟨0,rfl,by omega,fun j h=>by omega⟩;rintro s ⟨i,rfl,hi,d⟩;unfold zdY;simp only;by_cases a:i<seq.length
 ·rw [if_pos (by simp;omega)];simp only [zq (ze6 a),gq];rw [ztg _ a];simp only [gq];by_cases hs:sI set ts seq i=t
  ·rw [if_neg (by simp [hs])];obtain ⟨r,g,b⟩:=zxb hS hA hlen hp a (s0:=s0) (sl:=(List.range seq.length).map (sI set ts seq));rw [g];simp only [gq];cases r with
   | true=>
    right;rw [if_pos rfl];exact ⟨_,rfl,rfl,i,a,fun h=>h.2 (b.1 rfl)⟩
   | false=>
    left;rw [if_neg (by simp)];refine ⟨_,rfl,⟨i+1,by rw [zu (by omega) (by omega)];omega,by omega,fun j e=>?_⟩,by rw [zu (by omega) (by omega)];omega⟩;by_cases c:j=i
    ·subst c;exact ⟨hs,fun h=>by have:=b.2 h;cases this⟩
    ·exact d j (by omega)
  ·right;rw [if_pos (by simp [hs])];exact ⟨_,rfl,rfl,i,a,fun h=>hs h.1⟩
 ·right;rw [if_neg (by simp;omega)];exact ⟨_,rfl,fun j e=>d j (by omega)⟩
theorem zwk {s0:List Plc}:∃ z,iter (zgG (set,s0,t) seq ((List.range seq.length).map (mI set ts seq),(List.range seq.length).map (sI set ts seq)) ((List.range seq.length).map (mO set ts seq)) (plS seq ts,0,0)) (0,0,0)=some z/\
  match z with | .inl _=>∀ i,i<seq.length->zyB set t ts seq i | .inr f=>f.1≠0/\∃ i,i<seq.length/\¬zyB set t ts seq i:=by
 refine zA (fun s=>∃ i:Nat,s.1=(i:Int)/\i<=seq.length/\∀ j,j<i->zyB set t ts seq j) (fun s=>((seq.length:Int) - s.1).toNat) _ ?_ (0,0,0) ⟨0,rfl,by omega,fun j h=>by omega⟩;rintro ⟨s,u⟩ ⟨i,e,hi,hg⟩;simp only at e;subst e;have b:=zc3 (zkr hA) hp seq.length;rw [ft] at b;unfold zgG;simp only;by_cases a:i<seq.length
 ·rw [if_pos (by simp;omega)];obtain ⟨_,q,_,_,_,_,g,_⟩:=zfI hp (ze6 a);rw [ztg _ a,ztg _ a];simp only [zq (ze6 a),gq];by_cases hs:sI set ts seq i=t
  ·rw [if_neg (by simp [hs])];unfold mO;rw [zuC g _ b.len];simp only [gq];have n:=zuR hS hA hlen hp i;have c:=zA5 hS n.fok (rest:=zii set ts seq i) g (fun d _=>(n.at _).1) t;unfold zii at c;rw [c];simp only [gq];have k:=zBQ hS hA hlen hp a hs;unfold zii at k;by_cases m:(atL set t (cat ((plS seq ts).filter (znx (oI seq i).1 (bO set ts seq i)))) (oI seq i).1).length=1
   ·left;rw [if_neg (by simp [m])];refine ⟨_,rfl,⟨i+1,by simp only;rw [zu (by omega) (by omega)];omega,by omega,fun j p=>?_⟩,by simp only;rw [zu (by omega) (by omega)];omega⟩;by_cases l:j=i
    ·subst l;exact ⟨hs,k.1 m⟩
    ·exact hg j (by omega)
   ·right;rw [if_pos (by simp;omega)];exact ⟨_,rfl,by simp,i,a,fun h=>m (k.2 h.2)⟩
  ·right;rw [if_pos (by simp [hs])];exact ⟨_,rfl,by simp,i,a,fun h=>hs h.1⟩
 ·right;rw [if_neg (by simp;omega)];exact ⟨_,rfl,fun j p=>hg j (by omega)⟩
theorem zzv (hV:zat (set,ts,t)=some true) (hV':ze1 (set,ts,t)=some true) :
  ∃ r,zhr (set,ts,t) seq=some r/\zlg (set,ts,t) seq=some (decide (r.1=0)):=by
 have D:=hA.1.1;have e:=zc3 (zkr hA) hp seq.length;rw [ft] at e;have c:=e.asm hS;obtain ⟨E,j,_,_,m⟩:=zpT hS hA t hV hV' seq (by omega);obtain rfl:=m hlen hp;have k:zgI (set,ts,t) seq=some (plS seq ts,0,0):=by
  unfold zgI;obtain ⟨r,O,v,p,G,w⟩:=zxn hS hA t hlen;have B:zdG ts=some ts:=by unfold zdG;rw [zaf (by simp;omega) (by simp;omega)];rfl
  simp only;rw [B];simp only [gq];rw [w];cases r with
  | inl q=>rfl
  | inr z=>
   simp only at p;cases p with
   | ok h=>rfl
   | bad _ _ _ h0 g=>exact absurd hp g
 obtain ⟨out,o1,o2,F⟩:=zs8 hS (zkr c) ts t;obtain ⟨l,l1,l2,_⟩:=zAy hS c ts t;have b:l=[]↔out=[]:=l2.trans (zzl.trans o2.symm);obtain ⟨z,A,d⟩:=zwY hS hA hlen hp (s0:=ts);obtain ⟨s,n,a⟩:=zwk hS hA hlen hp (s0:=ts);unfold zhr zlg zhT zrO;rw [zyd hS hA hlen hp,j];simp only [gq];rw [zwM hA hlen hp,k];simp only [gq];rw [n,if_neg (by simp),zj5 hS hA ts t];simp only [gq];rw [zAj hS hA hlen hp];simp only [gq,znZ];rw [if_neg (by simp)];unfold zi4;rw [A];simp only [gq];cases z with
 | inl u=>
  cases s with
  | inr f=>obtain ⟨_,i,hi,g⟩:=a;exact absurd (d i hi) g
  | inl u'=>
   simp only;unfold zgr zjw;simp only;rw [zj5 hS c ts t,o1];simp only [gq];rw [l1];simp only [gq];cases out with
   | nil=>
    have C:l=[]:=b.2 rfl;subst C;rw [if_neg (by simp),if_neg (by simp)];exact ⟨_,rfl,rfl⟩
   | cons x out=>
    cases l with
    | nil=>have:=b.1 rfl;cases this
    | cons y l=>
     rw [if_pos (by simp),if_pos (by simp)];exact ⟨_,rfl,rfl⟩
 | inr f=>
  cases s with
  | inl u'=>obtain ⟨_,i,hi,g⟩:=d;exact absurd (a i hi) g
  | inr f'=>
   simp only;refine ⟨_,rfl,?_⟩;obtain ⟨v,_⟩:=d;cases f with
   | none=>cases v
   | some To=>
    obtain ⟨H,o⟩:=To;have:=a.1;simp [this]
end
end
theorem zrN {S X:Type} {F G:S->Option (S ⊕ X)} (I:S->Prop) (μ:S->Nat) (R:X->Prop)
  (h:∀ s,I s->(∃ a,F s=some (.inl a)/\G s=some (.inl a)/\I a/\μ a<μ s)\/∃ x,F s=some (.inr x)/\G s=some (.inr x)/\R x) (s:S) (hs:I s):∃ x,iter F s=some x/\iter G s=some x/\R x:=
 zA (F:=F) (fun a=>I a/\iter G s=iter G a) μ (fun x=>iter G s=some x/\R x) (fun a hs'=>by
  rcases h a hs'.1 with ⟨e,b,c,d,hm⟩ | ⟨x,b,c,hR⟩
  ·exact .inl ⟨e,b,⟨d,by rw [hs'.2,zv c]⟩,hm⟩
  ·exact .inr ⟨x,b,by rw [hs'.2,zC c],hR⟩) s ⟨hs,rfl⟩
theorem zzI {α:Type} {a b:List α} (h:a.length<=2000000) (hl:a.length=b.length) (F:Int->Option (Int ⊕ (Unit ⊕ Bool)))
  (h1:∀ (i:Nat) x,a[i]?=some x->b[i]?=some x->F (i:Int)=some (.inl (w64 ((i:Int)+1))))
  (h2:∀ (i:Nat) x y,a[i]?=some x->b[i]?=some y->x≠y->F (i:Int)=some (.inr (.inr false))) (hs:F (a.length:Int)=some (.inr (.inl ()))) :
  (iter F 0=some (.inl ())/\a=b)\/(iter F 0=some (.inr false)/\a≠b):=by
 have key:=zkd (fun i=>(i:Int)) 0 a.length (fun i=>a[i]?=b[i]?) F (by omega) (fun i _ hi _ c=>?_) (fun i _ hi _ c=>?_) (fun _=>hs)
 ·rcases key with ⟨g,d⟩ | ⟨g,hn⟩
  ·refine .inl ⟨g,bl fun i=>?_⟩;by_cases hi:i<a.length
   ·exact d i (by omega) hi
   ·rw [cn (by omega),cn (by omega)]
  ·exact .inr ⟨g,fun e=>hn fun i _ _=>by rw [e]⟩
 ·have f:a[i]?=some a[i]:=cm hi;have k:=h1 i _ f (c▸f);rw [zu (by omega) (by omega)] at k;exact k
 ·have f:a[i]?=some a[i]:=cm hi;have j:b[i]?=some (b[i]'(by omega)):=cm (by omega);refine h2 i _ _ f j fun e=>c ?_;rw [f,j,e]
theorem zBq (a b:Plc):((decide (a.1.1=b.1.1)&&decide (a.1.2=b.1.2))&&decide (a.2=b.2))=decide (a=b):=by
 rw [ao];simp [Prod.ext_iff,and_assoc]
theorem zxm (a b:List Plc) (h:a.length<=2000000):ziI a b=some (decide (a=b)):=by
 unfold ziI zkw;by_cases f:a.length=b.length
 ·rw [if_neg (by simp [f])];have key:=zzI h f (zdn a b) (fun i x c g=>?_) (fun i x y c g d=>?_) ?_
  ·rcases key with ⟨j,e⟩ | ⟨j,e⟩
   ·rw [j];simp [e]
   ·rw [j];simp [e]
  ·unfold zdn;rw [if_pos (by have:=zy c;simp;omega)];simp [zq c,zq g]
  ·unfold zdn;rw [if_pos (by have:=zy c;simp;omega)];simp only [zq c,zq g,gq];rw [zBq,if_pos (by simp [d])]
  ·unfold zdn;rw [if_neg (by simp)]
 ·rw [if_pos (by simp;omega)];have:a≠b:=fun e=>f (by rw [e]);simp [this]
theorem zzd (a b:List Plc) (h:a.length<=2000000):zf4 a b=some (decide (a=b)):=by
 have e:zjH a b=ziI a b:=rfl;unfold zf4;rw [e,zxm a b h];rfl
theorem zuv (a:List Plc):zeF a []=some (decide ((a.length:Int)=0)):=by
 unfold zeF zhh;cases a with
 | nil=>
  rw [if_neg (by simp),zC (x:=Sum.inl ()) (by unfold zhg;rw [if_neg (by simp)])];rfl
 | cons x a=>rw [if_pos (by simp;omega)];simp;omega
theorem zuu (a:List Int):zeE a []=some (decide ((a.length:Int)=0)):=by
 unfold zeE zhf;cases a with
 | nil=>
  rw [if_neg (by simp),zC (x:=Sum.inl ()) (by unfold zhe;rw [if_neg (by simp)])];rfl
 | cons x a=>rw [if_pos (by simp;omega)];simp;omega
theorem zut (a:List (List Int)) (f:List Int->List Int->Option Bool):zdQ a [] f=some (decide ((a.length:Int)=0)):=by
 unfold zdQ zeH;cases a with
 | nil=>
  rw [if_neg (by simp),zC (x:=Sum.inl ()) (by unfold zeG;rw [if_neg (by simp)])];rfl
 | cons x a=>rw [if_pos (by simp;omega)];simp;omega
theorem zyq (pf:Prf) (h:1<=pf.1/\pf.1<=6):∃ b,zff pf=some b/\zf9 pf=some b:=by
 obtain ⟨k,d,a,c,fl⟩:=pf;simp only at h;have e:k=1\/k=2\/k=3\/k=4\/k=5\/k=6:=by omega
 have key:∃ b,zf9 (k,d,a,c,fl)=some b/\zjc (znt (k,d,a,c,fl)) (0,[],[],[],[])=some b:=by
  unfold zjc zf9;rcases e with rfl | rfl | rfl | rfl | rfl | rfl
  ·rw [show znt (1,d,a,c,fl)=(0,[],a,c,fl) from rfl];simp only [zuv,zuu,zut,gq];generalize decide ((d.length:Int)=0)=b1;generalize decide ((a.length:Int)=0)=b2;generalize decide ((c.length:Int)=0)=b3;generalize decide ((fl.length:Int)=0)=b4;cases b1<;>cases b2<;>cases b3<;>cases b4<;>exact ⟨_,rfl,rfl⟩
  ·rw [show znt (2,d,a,c,fl)=(0,[],a,c,fl) from rfl];simp only [zuv,zuu,zut,gq];generalize decide ((d.length:Int)=0)=b1;generalize decide ((a.length:Int)=0)=b2;generalize decide ((c.length:Int)=0)=b3;generalize decide ((fl.length:Int)=0)=b4;cases b1<;>cases b2<;>cases b3<;>cases b4<;>exact ⟨_,rfl,rfl⟩
  ·rw [show znt (3,d,a,c,fl)=(0,[],a,c,fl) from rfl];simp only [zuv,zuu,zut,gq];generalize decide ((d.length:Int)=0)=b1;generalize decide ((a.length:Int)=0)=b2;generalize decide ((c.length:Int)=0)=b3;generalize decide ((fl.length:Int)=0)=b4;cases b1<;>cases b2<;>cases b3<;>cases b4<;>exact ⟨_,rfl,rfl⟩
  ·rw [show znt (4,d,a,c,fl)=(0,[],[],c,fl) from rfl];simp only [zuv,zuu,zut,gq];generalize decide ((d.length:Int)=0)=b1;generalize decide ((a.length:Int)=0)=b2;generalize decide ((c.length:Int)=0)=b3;generalize decide ((fl.length:Int)=0)=b4;cases b1<;>cases b2<;>cases b3<;>cases b4<;>exact ⟨_,rfl,rfl⟩
  ·rw [show znt (5,d,a,c,fl)=(0,d,a,c,[]) from rfl];simp only [zuv,zuu,zut,gq];generalize decide ((d.length:Int)=0)=b1;generalize decide ((a.length:Int)=0)=b2;generalize decide ((c.length:Int)=0)=b3;generalize decide ((fl.length:Int)=0)=b4;cases b1<;>cases b2<;>cases b3<;>cases b4<;>exact ⟨_,rfl,rfl⟩
  ·rw [show znt (6,d,a,c,fl)=(0,d,a,[],fl) from rfl];simp only [zuv,zuu,zut,gq];generalize decide ((d.length:Int)=0)=b1;generalize decide ((a.length:Int)=0)=b2;generalize decide ((c.length:Int)=0)=b3;generalize decide ((fl.length:Int)=0)=b4;cases b1<;>cases b2<;>cases b3<;>cases b4<;>exact ⟨_,rfl,rfl⟩
 obtain ⟨b,g,f⟩:=key;exact ⟨b,f,g⟩
section
variable {set:TSet} {ts asm:List Plc}
theorem zv8 (hS:SetOk set) (hA:AsmOk set ts) (t:Int) (hV:zat (set,ts,t)=some true) (hV':ze1 (set,ts,t)=some true) (hasm:asm.length<=2000000) (seq:List Plc) (hl:seq.length<=2000000) :
  ∃ b,zak seq (set,ts,t) asm=some b/\zbB (set,ts,t) seq asm=some b/\(b=true->seq.length<=500/\Played set t ts seq/\asm=plS seq ts):=by
 obtain ⟨r,i,g,j,_⟩:=zpT hS hA t hV hV' seq hl;unfold zak zbB;rw [i,g];simp only [gq];by_cases c:r.2.2=0
 ·obtain ⟨f,d,e⟩:=j c;have a:=zc3 (zkr hA) d seq.length;rw [ft,←e] at a;rw [if_pos (by simpa using c),if_pos (by simpa using c),zzd asm r.1 hasm,zxm r.1 asm (by have:=a.len;omega)];refine ⟨decide (r.1=asm),?_,rfl,fun h=>⟨f,d,by rw [←e];exact (of_decide_eq_true h).symm⟩⟩;simp only [gq];rw [decide_eq_decide.2 eq_comm]
 ·rw [if_neg (by simpa using c),if_neg (by simpa using c)];exact ⟨false,rfl,rfl,fun h=>by cases h⟩
theorem zAF {bs:List Bd} {fl:List Int} (h:fl.length=bs.length):zf5 fl bs=zb2 fl bs:=by
 funext s;unfold zf5 zb2;by_cases a:s.2<(bs.length:Int)
 ·rw [if_pos (by simpa using a),if_pos (by simpa using a)];by_cases b:0<=s.2
  ·obtain ⟨x,f,_⟩:=zR (l:=bs) b a;obtain ⟨y,d,_⟩:=zR (l:=fl) b (by omega);simp only [f,d,gq,za7,zc4]
  ·have c:idx bs s.2=none:=by unfold idx;rw [if_neg b]
   have e:idx fl s.2=none:=by unfold idx;rw [if_neg b]
   rw [c,e];rfl
 ·rw [if_neg (by simpa using a),if_neg (by simpa using a)]
theorem zAG (hS:SetOk set) (hA:AsmOk set asm) {va vs:_} (h1:z6 set asm=some true) (h2:zfD set asm=some 0) {p3:Int} (h3:1<=p3) (h4:p3<=(asm.length:Int) - 1) (fl:List Int) (hva:va=()) (hvs:vs=()) :
  ∃ r,zjn set asm 0 p3 fl=some r/\ziO set asm 0 p3 fl=some r:=by
 have Z:=hA.1.1;have p:w64 ((asm.length:Int) - 1)=(asm.length:Int) - 1:=zu (by omega) (by omega);obtain ⟨bs,D,Q,I,b4⟩:=ztL hS hA;unfold zjn ziO zn2 zaE;rw [h1,h2];simp only [gq,p,za7,zc4];have M:decide ((0:Int)<=0/\(0:Int)<=(asm.length:Int) - 1)=true:=decide_eq_true (by omega);have E:decide ((0:Int)<=p3/\p3<=(asm.length:Int) - 1)=true:=decide_eq_true (by omega);have N:decide ((0:Int)=p3)=false:=decide_eq_false (by omega);simp only [M,E,N,au,ap,if_false,zfw,gq,decide_true,zdL];rw [D,Q];simp only [gq];by_cases t:fl.length=bs.length
 ·rw [if_neg (by simp [t]),if_neg (by simp [t]),zm0 (by omega) (by omega) (by omega)];simp only [gq,ba];rw [zAF t];have key:=zA (F:=zb2 fl bs) (fun s=>0<=s.2/\s.2<=bs.length/\s.1.length=asm.length) (fun s=>(bs.length - s.2).toNat) (fun z=>match z with | .inl y=>y.length=asm.length | .inr r=>True) ?_ (List.replicate asm.length 0,0) ⟨by simp,by simp,by simp⟩
  ·obtain ⟨z,L,O⟩:=key;rw [L];simp only [gq];cases z with
   | inr z=>exact ⟨z,rfl,rfl⟩
   | inl y=>
    simp only at O ⊢;unfold zjm ziN;have k2:=zrN (F:=zcg 0 p3 y) (G:=zb1 asm 0 p3 y) (fun s=>0<=s/\s<=asm.length) (fun s=>(asm.length - s).toNat) (fun _=>True) ?_ 0 ⟨by omega,by omega⟩
    ·obtain ⟨x,T,J,_⟩:=k2;rw [T,J];simp only [gq];cases x with
     | inr z=>exact ⟨z,rfl,rfl⟩
     | inl u=>
      simp only;unfold zjl ziM;obtain ⟨v,b,_⟩:=zR (l:=y) (i:=0) (by omega) (by omega);rw [b];exact ⟨_,rfl,rfl⟩
    ·rintro s ⟨d,B⟩;have A:s<asm.length->w64 (s+1)=s+1:=fun h=>zu (by omega) (by omega);have H:s<asm.length->∀ v,idx y s=some v->zcg 0 p3 y s=if v≠0/\s≠0/\s≠p3 then some (.inr (.inr (0,10))) else some (.inl (s+1)):=fun h v b=>by
      unfold zcg zd4;rw [if_pos (by simp;omega),b,A h];simp only [gq];by_cases e:v=0
      ·simp [e]
      ·by_cases c:s=0
       ·simp [e,c]
       ·by_cases j:s=p3<;>simp [e,c,j]
        all_goals (intro S;omega)
     have C:s<asm.length->∀ v,idx y s=some v->zb1 asm 0 p3 y s=if v≠0/\s≠0/\s≠p3 then some (.inr (.inr (0,10))) else some (.inl (s+1)):=fun h v b=>by
      unfold zb1 zdK;rw [p,if_pos (by simp;omega),b,A h];simp only [gq];by_cases c:s=0
      ·simp [c]
      ·by_cases j:s=p3
       ·simp [c,j]
        all_goals (intro S;omega)
       ·by_cases e:v=0<;>simp [e,c,j]
     by_cases a:s<asm.length
     ·obtain ⟨v,b,_⟩:=zR (l:=y) (i:=s) d (by omega);rw [H a v b,C a v b];by_cases q:v≠0/\s≠0/\s≠p3
      ·right;rw [if_pos q];exact ⟨_,rfl,rfl,trivial⟩
      ·left;rw [if_neg q];exact ⟨_,rfl,rfl,⟨by omega,by omega⟩,by omega⟩
     ·right;refine ⟨.inl (),?_,?_,trivial⟩
      ·unfold zcg;rw [if_neg (by simp;omega)]
      ·unfold zb1;rw [p,if_neg (by simp;omega)]
  ·rintro ⟨y,i⟩ ⟨d,B,g2⟩;simp only at d B g2;unfold zb2;by_cases a:i<bs.length
   ·obtain ⟨x,R,w⟩:=zR (l:=bs) d a;obtain ⟨f,m,_⟩:=zR (l:=fl) d (by omega);obtain ⟨w0,V,U,X,_⟩:=I _ x w;rw [if_pos (by simpa using a)];simp only [R,m,gq,zc4];by_cases g:w64 (0 - x.2.2)<=f/\f<=x.2.2
    ·left;rw [if_neg (by simpa using g)];obtain ⟨u,P,_⟩:=zR (l:=y) w0 (by omega);simp only [P,gq];obtain ⟨Y,k,_⟩:=zR (l:=y.set x.1.toNat (w64 (u+f))) U (by rw [dz];omega);simp only [k,gq];rw [zu (n:=i+1) (by omega) (by omega)];exact ⟨_,rfl,⟨by simp only;omega,by simp only;omega,by simp [g2]⟩,by simp only;omega⟩
    ·right;rw [if_pos (by simp only [aq,decide_eq_false_iff_not];exact g)];exact ⟨_,rfl,trivial⟩
   ·right;rw [if_neg (by simpa using a)];exact ⟨_,rfl,g2⟩
 ·rw [if_pos (by simp;omega),if_pos (by simp;omega)];exact ⟨_,rfl,rfl⟩
theorem zzF (hS:SetOk set) (hA:AsmOk set asm) (h1:z6 set asm=some true) (h2:zfD set asm=some 0) (t:Int) {s0:List Plc} (fl:List (List Int)) :
  ∃ r,zcD fl (set,s0,t) asm=some r/\zjY (set,s0,t) asm fl=some r:=by
 have D:=hA.1.1;have m:w64 ((asm.length:Int) - 1)=(asm.length:Int) - 1:=zu (by omega) (by omega);unfold zcD zjY zdI zBH;rw [m];have e:(if decide (0>(asm.length:Int) - 1)=true then some (0:Int) else some ((asm.length:Int) - 1))=some (if 0>(asm.length:Int) - 1 then 0 else (asm.length:Int) - 1):=by
  by_cases h:0>(asm.length:Int) - 1<;>simp [h]
 rw [e];simp only [gq];by_cases b:(fl.length:Int)=if 0>(asm.length:Int) - 1 then 0 else (asm.length:Int) - 1
 ·rw [if_neg (by simp [b]),if_neg (by simp [b])];have k2:=zrN (F:=zah fl (set,s0,t) asm) (G:=zcO (set,s0,t) asm fl) (fun s=>0<=s/\s<=fl.length) (fun s=>(fl.length - s).toNat) (fun _=>True) ?_ 0 ⟨by omega,by omega⟩
  ·obtain ⟨x,p,B,_⟩:=k2;rw [p,B];cases x with
   | inr z=>exact ⟨z,rfl,rfl⟩
   | inl u=>exact ⟨_,rfl,rfl⟩
  ·rintro s ⟨w,C⟩;by_cases a:s<fl.length
   ·obtain ⟨v,g,_⟩:=zR (l:=fl) w a;have i:w64 (s+1)=s+1:=by
     split at b<;>exact zu (by omega) (by omega)
    have c:1<=s+1/\s+1<=(asm.length:Int) - 1:=by split at b<;>omega
    obtain ⟨r,y,j⟩:=zAG hS hA (va:=()) (vs:=()) h1 h2 c.1 c.2 v rfl rfl;have A:zah fl (set,s0,t) asm s=if r.2=0/\¬r.1<t then some (.inl (s+1)) else some (.inr (.inr false)):=by
     unfold zah zbi;rw [if_pos (by simpa using a),g];simp only [gq];rw [i,y];simp only [gq];by_cases d:r.2=0<;>by_cases f:r.1<t<;>simp [d,f]
     all_goals first | omega | (intro n;omega)
    have k:zcO (set,s0,t) asm fl s=if r.2=0/\¬r.1<t then some (.inl (s+1)) else some (.inr (.inr false)):=by
     unfold zcO zgE;rw [if_pos (by simpa using a),g];simp only [gq];rw [i,j];simp only [gq];by_cases d:r.2=0<;>by_cases f:r.1<t<;>simp [d,f]
     all_goals first | omega | (intro n;omega)
    rw [A,k];by_cases q:r.2=0/\¬r.1<t
    ·left;rw [if_pos q];exact ⟨_,rfl,rfl,⟨by omega,by omega⟩,by omega⟩
    ·right;rw [if_neg q];exact ⟨_,rfl,rfl,trivial⟩
   ·right;refine ⟨.inl (),?_,?_,trivial⟩
    ·unfold zah;rw [if_neg (by simpa using a)]
    ·unfold zcO;rw [if_neg (by simpa using a)]
 ·rw [if_pos (by simpa using b),if_pos (by simpa using b)];exact ⟨_,rfl,rfl⟩
theorem zwU (l:List Int) (h:l.length<=2000000) (q:Int):zcs l q=some (decide (q∈l))/\zki l q=some (decide (q∈l)):=by
 constructor
 ·unfold zcs zjF zhb;rcases zjM l h (fun x=>some (decide (q=x))) (fun x=>decide (q=x)) (fun x _=>rfl) (zha l q) (fun i=>rfl) with ⟨d,a⟩ | ⟨k,d,hk,hlow,x,g,hq⟩
  ·rw [d];have:¬q∈l:=fun h=>by simpa using a q h
   simp [this]
  ·rw [d];have:q∈l:=by
    have t:q=x:=by simpa using hq
    rw [t];exact fd g
   simp [this]
 ·unfold zki zlH;have key:=zA (F:=ziJ l q) (fun s=>0<=s/\s<=l.length/\∀ j:Nat,(j:Int)<s->l[j]?≠some q) (fun s=>(l.length - s).toNat) (fun z=>match z with | .inl _=>¬q∈l | .inr b=>b=true/\q∈l) ?_ 0 ⟨by omega,by omega,fun j f=>by omega⟩
  ·obtain ⟨z,d,m⟩:=key;rw [d];cases z with
   | inl u=>simp only at m;simp [m]
   | inr b=>obtain ⟨rfl,hm⟩:=m;simp [hm]
  ·rintro s ⟨r,v,p⟩;obtain ⟨k,rfl⟩:=az r;unfold ziJ;by_cases c:k<l.length
   ·have g:l[k]?=some l[k]:=cm c;rw [if_pos (by simp;omega)];simp only [zq g,gq];by_cases e:l[k]=q
    ·right;rw [if_pos (by simpa using e)];exact ⟨_,rfl,rfl,e▸dj c⟩
    ·left;rw [if_neg (by simpa using e),zu (by omega) (by omega)];refine ⟨_,rfl,⟨by omega,by omega,fun j f=>?_⟩,by omega⟩;by_cases n:j=k
     ·subst n;rw [g];exact fun h=>e (Option.some.inj h)
     ·exact p j (by omega)
   ·right;rw [if_neg (by simp;omega)];refine ⟨_,rfl,fun hm=>?_⟩;obtain ⟨j,f⟩:=cv hm;exact p j (by have:=zy f;omega) f
theorem zyt (bs:List Bd) (hb:bs.length<=1000) (p:List Int) (hp:p.length<=2000000):∃ v,zg1 bs p=some v/\zmq bs p=some v:=by
 have q:∀ b:Bd,zel b p=some (decide (b.1∈p) == decide (b.2.1∈p)):=fun b=>by
  unfold zel;rw [(zwU p hp _).1,(zwU p hp _).1];rfl
 unfold zg1 zmq;rw [zsb bs (by omega)];simp only [gq];rw [zra bs (by omega) _ (fun b=>decide (b.1∈p) == decide (b.2.1∈p)) (fun b _=>q b)];simp only [gq];have f:zhP (bs.filter fun b=>!(decide (b.1∈p) == decide (b.2.1∈p)))=some ((bs.filter fun b=>!(decide (b.1∈p) == decide (b.2.1∈p))).foldl (fun a b=>w64 (a+b.2.2)) 0):=by
  have d:=du (fun b:Bd=>!(decide (b.1∈p) == decide (b.2.1∈p))) bs;unfold zhP;rw [zij (F:=zc5 (bs.filter fun b=>!(decide (b.1∈p) == decide (b.2.1∈p)))) (bs.filter fun b=>!(decide (b.1∈p) == decide (b.2.1∈p))) (fun a b=>w64 (a+b.2.2)) 0 (by omega) (fun a i x c _=>?_) (fun a _=>?_)]
  ·rfl
  ·unfold zc5;rw [if_pos (by have:=zy c;simp;omega)];simp only [zq c,gq]
  ·unfold zc5;rw [if_neg (by simp)]
 have e:iter (zes bs p) (0,0)=some (bs.foldl (fun a b=>if (!(decide (b.1∈p) == decide (b.2.1∈p)))=true then w64 (a+b.2.2) else a) 0):=by
  refine zij (F:=zes bs p) bs (fun a b=>if (!(decide (b.1∈p) == decide (b.2.1∈p)))=true then w64 (a+b.2.2) else a) 0 (by omega) (fun a i x c _=>?_) (fun a _=>?_)
  ·unfold zes ziH;rw [if_pos (by have:=zy c;simp;omega)];simp only [zq c,gq,(zwU p hp _).2];split<;>rfl
  ·unfold zes;rw [if_neg (by simp)]
 rw [f,e,List.foldl_filter];exact ⟨_,rfl,rfl⟩
theorem zAl (p:List Int) (hp:p.length<=2000000) (hl:asm.length<=500):∃ b,zd5 asm p=some b/\zk2 asm p=some b/\(b=true->p.length<=asm.length):=by
 have q:w64 ((asm.length:Int) - 1)=(asm.length:Int) - 1:=zu (by omega) (by omega);have k2:=zrN (F:=zV asm p) (G:=zaM p 0 ((asm.length:Int) - 1)) (fun s=>0<=s/\s<=p.length/\∀ j:Nat,(j:Int)<s->∃ x,p[j]?=some x/\(j:Int)<=x/\x<=(asm.length:Int) - 1) (fun s=>(p.length - s).toNat) (fun z=>match z with | .inl _=>p.length<=asm.length | .inr b=>b=false) ?_ 0 ⟨by omega,by omega,fun j v=>by omega⟩
 ·obtain ⟨x,E,C,r⟩:=k2;unfold zd5 zk2 zmW;rw [q,E,C];cases x with
  | inl u=>exact ⟨true,rfl,rfl,fun _=>r⟩
  | inr b=>simp only at r;subst r;exact ⟨false,rfl,rfl,fun h=>by cases h⟩
 ·rintro s ⟨B,I,n⟩;obtain ⟨k,rfl⟩:=az B;by_cases i:k<p.length
  ·have d:p[k]?=some p[k]:=cm i;generalize p[k]=x at d;have t:w64 ((k:Int)+1)=(k:Int)+1:=zu (by omega) (by omega);by_cases A:k=0
   ·subst A;have l:zV asm p ((0:Nat):Int)=if 0<=x/\x<=(asm.length:Int) - 1 then some (.inl 1) else some (.inr (.inr false)):=by
     unfold zV zaE zam;rw [if_pos (by simp;omega)];simp only [zq d,gq,q,za7];by_cases a:0<=x/\x<=(asm.length:Int) - 1
     ·rw [if_pos a,decide_eq_true a];rfl
     ·rw [if_neg a,decide_eq_false a];rfl
    have g:zaM p 0 ((asm.length:Int) - 1) ((0:Nat):Int)=if 0<=x/\x<=(asm.length:Int) - 1 then some (.inl 1) else some (.inr (.inr false)):=by
     unfold zaM zcQ;rw [if_pos (by simp;omega)];simp only [zq d,gq,zc4];by_cases a:0<=x/\x<=(asm.length:Int) - 1
     ·rw [if_pos a,decide_eq_true a];rfl
     ·rw [if_neg a,decide_eq_false a];rfl
    rw [l,g];by_cases a:0<=x/\x<=(asm.length:Int) - 1
    ·left;rw [if_pos a];refine ⟨_,rfl,rfl,⟨by omega,by omega,fun j v=>?_⟩,by omega⟩;have:j=0:=by omega
     subst this;exact ⟨x,d,by omega,a.2⟩
    ·right;rw [if_neg a];exact ⟨_,rfl,rfl,rfl⟩
   ·obtain ⟨y,D,y0,w⟩:=n (k - 1) (by omega);have f:idx p (w64 ((k:Int) - 1))=some y:=by
     rw [zu (by omega) (by omega),show (k:Int) - 1=((k - 1:Nat):Int) by omega];exact zq D
    have e:decide ((k:Int)>0)=true:=decide_eq_true (by omega);have l:zV asm p (k:Int)=if (0<=x/\x<=(asm.length:Int) - 1)/\y<x then some (.inl ((k:Int)+1)) else some (.inr (.inr false)):=by
     unfold zV zaE zam;rw [if_pos (by simp;omega)];simp only [zq d,gq,q,za7,e,f,t];by_cases a:0<=x/\x<=(asm.length:Int) - 1
     ·rw [decide_eq_true a];by_cases c:y<x
      ·rw [if_pos (show (0<=x/\x<=(asm.length:Int) - 1)/\y<x from ⟨a,c⟩),decide_eq_false (show ¬x<=y by omega)];rfl
      ·rw [if_neg (show ¬((0<=x/\x<=(asm.length:Int) - 1)/\y<x) from fun h=>c h.2),decide_eq_true (show x<=y by omega)];rfl
     ·rw [if_neg (show ¬((0<=x/\x<=(asm.length:Int) - 1)/\y<x) from fun h=>a h.1),decide_eq_false a];rfl
    have g:zaM p 0 ((asm.length:Int) - 1) (k:Int)=if (0<=x/\x<=(asm.length:Int) - 1)/\y<x then some (.inl ((k:Int)+1)) else some (.inr (.inr false)):=by
     unfold zaM zcQ;rw [if_pos (by simp;omega)];simp only [zq d,gq,zc4,e,f,t];by_cases a:0<=x/\x<=(asm.length:Int) - 1
     ·rw [decide_eq_true a];by_cases c:y<x
      ·rw [if_pos (show (0<=x/\x<=(asm.length:Int) - 1)/\y<x from ⟨a,c⟩),decide_eq_false (show ¬y≥x by omega)];rfl
      ·rw [if_neg (show ¬((0<=x/\x<=(asm.length:Int) - 1)/\y<x) from fun h=>c h.2),decide_eq_true (show y≥x by omega)];rfl
     ·rw [if_neg (show ¬((0<=x/\x<=(asm.length:Int) - 1)/\y<x) from fun h=>a h.1),decide_eq_false a];rfl
    rw [l,g];by_cases a:(0<=x/\x<=(asm.length:Int) - 1)/\y<x
    ·left;rw [if_pos a];refine ⟨_,rfl,rfl,⟨by omega,by omega,fun j v=>?_⟩,by omega⟩;by_cases m:j=k
     ·subst m;exact ⟨x,d,by omega,a.1.2⟩
     ·exact n j (by omega)
    ·right;rw [if_neg a];exact ⟨_,rfl,rfl,rfl⟩
  ·right;refine ⟨.inl (),?_,?_,?_⟩
   ·unfold zV;rw [if_neg (by simp;omega)]
   ·unfold zaM;rw [if_neg (by simp;omega)]
   ·simp only;by_cases H:p.length=0
    ·omega
    ·obtain ⟨y,_,y0,w⟩:=n (p.length - 1) (by omega);omega
theorem zBN (hS:SetOk set) (hA:AsmOk set asm) (h1:z6 set asm=some true) (t:Int) {s0:List Plc} (p:List Int) (hp:p.length<=2000000) :
  ∃ r,zdc p (set,s0,t) asm=some r/\zmk (set,s0,t) asm p=some r:=by
 obtain ⟨b,e,i,k⟩:=zAl p hp hA.1.1 (asm:=asm);obtain ⟨bs,l,c2,n,j⟩:=ztL hS hA;obtain ⟨v,h,g⟩:=zyt bs j p hp;unfold zdc zjS zmk zga;simp only;rw [h1,e,i];simp only [gq];cases b with
 | false=>exact ⟨false,by simp,by simp⟩
 | true=>
  have f:=k rfl;rw [l,c2];simp only [gq];rw [h,g];refine ⟨if p.length=0 then false else if p.length=asm.length then false else decide (v<t),?_,?_⟩
  ·by_cases a:p.length=0
   ·simp [a]
   ·by_cases c:p.length=asm.length
    ·simp [a,c]
    ·have:p.length<asm.length:=by omega
     have d:0<p.length:=by omega
     simp [a,c,this,d]
  ·by_cases a:p.length=0
   ·simp [a]
   ·by_cases c:p.length=asm.length
    ·simp [a,c]
    ·simp [a,c];intro m;omega
end
section
variable {set:TSet} {ts asm:List Plc}
theorem zAM (hS:SetOk set) (hA:AsmOk set ts) (t:Int) (hV:zat (set,ts,t)=some true) (hV':ze1 (set,ts,t)=some true) (hasm:asm.length<=2000000) (s1 s2:List Plc) (h1:s1.length<=2000000) (h2:s2.length<=2000000) :
  ∃ b,zbI (s1,s2) (set,ts,t) asm=some b/\zgF (set,ts,t) s1 s2 asm=some b:=by
 unfold zbI zgF;simp only;by_cases n:s1.length=0
 ·rw [decide_eq_true (show (s1.length:Int)=0 by omega)];exact ⟨false,rfl,rfl⟩
 ·rw [decide_eq_false (show ¬(s1.length:Int)=0 by omega)];simp only [ap,if_false];by_cases p:s2.length=0
  ·rw [decide_eq_true (show (s2.length:Int)=0 by omega)];exact ⟨false,rfl,rfl⟩
  ·rw [decide_eq_false (show ¬(s2.length:Int)=0 by omega)];simp only [ap,if_false];obtain ⟨b,d,h,_⟩:=zv8 hS hA t hV hV' hasm s1 h1;rw [d,h];simp only [gq];cases b with
   | false=>exact ⟨false,rfl,rfl⟩
   | true=>
    obtain ⟨r,f,a,_⟩:=zpT hS hA t hV hV' s2 h2;obtain ⟨x,m,_⟩:=zR (l:=s1) (i:=(s1.length:Int) - 1) (by omega) (by omega);obtain ⟨y,e,_⟩:=zR (l:=s2) (i:=(s2.length:Int) - 1) (by omega) (by omega);have c:w64 ((s1.length:Int) - 1)=(s1.length:Int) - 1:=zu (by omega) (by omega);have j:w64 ((s2.length:Int) - 1)=(s2.length:Int) - 1:=zu (by omega) (by omega);unfold zal zcn zj7;simp only [au,ap,if_false,c,j];rw [f,a];simp only [gq,m,e];refine ⟨if r.2.2=0 then (if x.1=y.1 then !decide (x.2=y.2) else false) else false,?_,?_⟩<;>rw [zr3]<;>by_cases g:r.2.2=0<;>by_cases k:x.1=y.1<;>simp [g,k]
theorem zt3 (hT:Tame set) (hts:ts.length<=1048576) (t:Int) (hasm:asm.length<=1048576) (pf:Prf) (h1:pf.2.1.length<=1048576) (h2:pf.2.2.1.length<=1048576) (h3:pf.2.2.2.1.length<=1048576) :
  ∃ r,zcl (set,ts,t) asm pf=some r/\zhI (set,ts,t) asm pf=some r:=by
 obtain ⟨v,p,q,D⟩:=zoq hT hts t;unfold zcl zhI zhQ zmQ;rw [p,q];simp only [gq];cases v with
 | false=>exact ⟨1,rfl,rfl⟩
 | true=>
  obtain ⟨hS,hA⟩:=D rfl;obtain ⟨b,w,C⟩:=zmM set hT asm (by omega);obtain ⟨c,B,c2⟩:=zvH set hT asm (by omega);have x:b=c:=by
   rw [ao,C,c2];exact ⟨fun h=>h.2,fun h=>⟨hS,h⟩⟩
  subst x;rw [w,B];simp only [gq,au,ap,if_false];cases b with
  | false=>exact ⟨1,rfl,rfl⟩
  | true=>
   have d:=(C.1 rfl).2;obtain ⟨a,Q,a2,H⟩:=zor set hT;have N:a=true:=H.2 hS;subst N;have j:zfD set asm=some 0:=by
    unfold zfD;rw [a2];simp only [gq,au,ap,if_false];rw [B];rfl
   simp only [zaH,zgJ,au,ap,if_false,gq,decide_true,za7,zc4];by_cases m:1<=pf.1/\pf.1<=6
   ·rw [decide_eq_true m];simp only [au,ap,if_false];obtain ⟨f,F,M⟩:=zyq pf m;rw [F,M];simp only [gq];cases f with
    | false=>exact ⟨10,rfl,rfl⟩
    | true=>
     have key:∃ r,ze8 (set,ts,t) asm pf=some r/\zjX (set,ts,t) asm pf=some r:=by
      obtain ⟨k,i,G,I,fl⟩:=pf;simp only at m h1 h2 h3;have A:k=1\/k=2\/k=3\/k=4\/k=5\/k=6:=by omega
      unfold ze8 zjX;obtain ⟨l,l1,l2,J⟩:=zv8 hS hA t p q (asm:=asm) (by omega) i (by omega);rcases A with rfl | rfl | rfl | rfl | rfl | rfl
      ·refine ⟨l,by simpa using l1,?_⟩;simp [l2]
      ·show ∃ r,zbG i (set,ts,t) asm=some r/\((zbB (set,ts,t) i asm).bind fun y=>if y then ((zdk (set,ts,t) asm).bind fun z=>some (decide ((z.length:Int)=0))) else (some false))=some r;unfold zbG;rw [l1,l2];simp only [gq];cases l with
       | false=>exact ⟨false,rfl,rfl⟩
       | true=>
        obtain ⟨n,O,P⟩:=zzV hS d ts t;obtain ⟨out,o1,o2,_⟩:=zs8 hS (zkr d) ts t;rw [if_pos rfl,if_pos rfl,zj5 hS d ts t,o1];simp only [gq];rw [O];refine ⟨_,rfl,?_⟩;congr 1;rw [decide_eq_decide];rw [P,zzl,←o2];constructor
        ·intro h;exact bj (by omega)
        ·rintro rfl;rfl
      ·show ∃ r,zcC i (set,ts,t) asm=some r/\((zbB (set,ts,t) i asm).bind fun s=>if !s then (some false) else ((zhr (set,ts,t) i).bind fun u=>some (decide (u.1=0))))=some r;unfold zcC;rw [l1,l2];simp only [gq];cases l with
       | false=>exact ⟨false,rfl,rfl⟩
       | true=>
        obtain ⟨L,E,_⟩:=J rfl;obtain ⟨r,e,g⟩:=zzv hS hA L E p q;rw [e,g];exact ⟨_,rfl,rfl⟩
      ·obtain ⟨r,e,g⟩:=zAM hS hA t p q (asm:=asm) (by omega) i G (by omega) (by omega);refine ⟨r,e,?_⟩;simp [g]
      ·obtain ⟨r,e,g⟩:=zzF hS d w j t (s0:=ts) fl;refine ⟨r,e,?_⟩;simp [g]
      ·obtain ⟨r,e,g⟩:=zBN hS d w t (s0:=ts) I (by omega);refine ⟨r,e,?_⟩;simp [g]
     obtain ⟨r,e,g⟩:=key;simp only [au,ap,if_false,if_true];rw [e,g];cases r<;>exact ⟨_,rfl,rfl⟩
   ·rw [decide_eq_false m];exact ⟨2,rfl,rfl⟩
end
theorem zry {α:Type} (l:List α) (h:l.length<=2000000) (F:Int->Option (Int ⊕ (Unit ⊕ Bool))) (h1:∀ (i:Nat) x,l[i]?=some x->F (i:Int)=some (.inl (w64 ((i:Int)+1)))) (hs:F (l.length:Int)=some (.inr (.inl ()))):iter F 0=some (.inl ()):=by
 rcases zzI h rfl F (fun i x b _=>h1 i x b) (fun i x y b c a=>absurd (Option.some.inj (b.symm.trans c)) a) hs with ⟨d,_⟩ | ⟨_,hn⟩
 ·exact d
 ·exact absurd rfl hn
theorem zy4 (l:List Int) (h:l.length<=2000000):zfK l l=some true:=by
 unfold zfK zjL;rw [if_neg (by simp),zry l h (zeM l l) (fun i x a=>by unfold zeM;rw [if_pos (by have:=zy a;simp;omega)];simp [zq a]) (by unfold zeM;rw [if_neg (by simp)])];rfl
theorem zBl (l:List (List Int)) (h:l.length<=2000000) (hr:∀ x∈l,x.length<=2000000):zi3 l l=some true:=by
 unfold zi3 zi2;rw [if_neg (by simp),zry l h (zdX l l) (fun i x a=>by unfold zdX;rw [if_pos (by have:=zy a;simp;omega)];simp [zq a,zy4 x (hr x (fd a))]) (by unfold zdX;rw [if_neg (by simp)])];rfl
theorem zBm (l:List ((List UInt8)×Int)) (h:l.length<=2000000):zla l l=some true:=by
 unfold zla zkG;rw [if_neg (by simp),zry l h (zfs l l) (fun i x a=>by unfold zfs zoU;rw [if_pos (by have:=zy a;simp;omega)];simp [zq a]) (by unfold zfs;rw [if_neg (by simp)])];rfl
theorem zBk (l:List ((List UInt8)×List Int)) (h:l.length<=2000000) (hr:∀ x∈l,x.2.length<=2000000):zk9 l l=some true:=by
 unfold zk9 zkF;rw [if_neg (by simp),zry l h (zfr l l) (fun i x a=>by unfold zfr zoT;rw [if_pos (by have:=zy a;simp;omega)];simp [zq a,zy4 x.2 (hr x (fd a))]) (by unfold zfr;rw [if_neg (by simp)])];rfl
theorem zvM (l:List Plc) (h:l.length<=2000000):zi0 l l=some true:=by
 unfold zi0 ziZ;rw [if_neg (by simp),zry l h (zdV l l) (fun i x a=>by unfold zdV zm6 ziY;rw [if_pos (by have:=zy a;simp;omega)];simp [zq a]) (by unfold zdV;rw [if_neg (by simp)])];rfl
theorem zvN (l:List Plc) (h:l.length<=2000000):zgq l l=some true:=by
 unfold zgq zi1;rw [if_neg (by simp),zry l h (zdW l l) (fun i x a=>by unfold zdW zm7 ziY;rw [if_pos (by have:=zy a;simp;omega)];simp [zq a]) (by unfold zdW;rw [if_neg (by simp)])];rfl
theorem zri {α:Type} (l:List α) (h:l.length<=2000000) (z:α) (F:List α×Int->Option ((List α×Int) ⊕ List α))
  (step:∀ (a:List α) (i:Nat) x y,l[i]?=some x->a[i]?=some y->F (a,(i:Int))=some (.inl (a.set i x,w64 ((i:Int)+1)))) (stop:∀ a,F (a,(l.length:Int))=some (.inr a)):iter F (List.replicate l.length z,0)=some l:=by
 have key:=zA (F:=F) (fun s=>∃ i:Nat,s.2=(i:Int)/\i<=l.length/\s.1.length=l.length/\∀ j,j<i->s.1[j]?=l[j]?) (fun s=>((l.length:Int) - s.2).toNat) (fun x=>x=l) ?_ (List.replicate l.length z,0) ⟨0,rfl,by omega,by simp,fun j d=>by omega⟩
 ·obtain ⟨x,g,rfl⟩:=key;exact g
 ·rintro ⟨a,s⟩ ⟨i,e,hi,hl,d⟩;simp only at e hl d;subst e;by_cases b:i<l.length
  ·left;refine ⟨_,step a i l[i] (a[i]'(by omega)) (cm b) (cm (by omega)),⟨i+1,by simp only;rw [zu (by omega) (by omega)];omega,by omega,by simp [hl],fun j c=>?_⟩,by simp only;rw [zu (by omega) (by omega)];omega⟩;simp only;by_cases f:j=i
   ·subst f;rw [dg (by omega),cm b]
   ·rw [df (by omega)];exact d j (by omega)
  ·right;have:i=l.length:=by omega
   subst this;exact ⟨a,stop a,bl fun j=>by
    by_cases c:j<l.length
    ·exact d j c
    ·rw [cn (by omega),cn (by omega)]⟩
theorem zyI (l:List Int) (h:l.length<=2000000):zfJ l=some l:=by
 unfold zfJ;rw [zm0 (by omega) (by omega) (by omega)];simp only [gq,ba];rw [zri l h 0 (zeL l) (fun a i x y b c=>by unfold zeL;rw [if_pos (by have:=zy b;simp;omega)];simp [zq b,zq c]) (fun a=>by unfold zeL;rw [if_neg (by simp)])];rfl
theorem zBb (l:List (List Int)) (h:l.length<=2000000) (hr:∀ x∈l,x.length<=2000000):ziV l=some l:=by
 unfold ziV;rw [zm0 (by omega) (by omega) (by omega)];simp only [gq,ba];rw [zri l h [] (zdU l) (fun a i x y b c=>by unfold zdU;rw [if_pos (by have:=zy b;simp;omega)];simp [zq b,zq c,zyI x (hr x (fd b))]) (fun a=>by unfold zdU;rw [if_neg (by simp)])];rfl
theorem zBc (l:List ((List UInt8)×Int)) (h:l.length<=2000000):zk7 l=some l:=by
 unfold zk7;rw [zm0 (by omega) (by omega) (by omega)];simp only [gq,ba];rw [zri l h (([]:List UInt8),0) (zfp l) (fun a i x y b c=>by unfold zfp zoS;rw [if_pos (by have:=zy b;simp;omega)];simp [zq b,zq c]) (fun a=>by unfold zfp;rw [if_neg (by simp)])];rfl
theorem zBa (l:List ((List UInt8)×List Int)) (h:l.length<=2000000) (hr:∀ x∈l,x.2.length<=2000000):zk6 l=some l:=by
 unfold zk6;rw [zm0 (by omega) (by omega) (by omega)];simp only [gq,ba];rw [zri l h (([]:List UInt8),[]) (zfo l) (fun a i x y b c=>by unfold zfo zoR;rw [if_pos (by have:=zy b;simp;omega)];simp [zq b,zq c,zyI x.2 (hr x (fd b))]) (fun a=>by unfold zfo;rw [if_neg (by simp)])];rfl
theorem zvp (l:List Plc) (h:l.length<=2000000):ziU l=some l:=by
 unfold ziU;rw [zm0 (by omega) (by omega) (by omega)];simp only [gq,ba];rw [zri l h ((0,0),0) (zdS l) (fun a i x y b c=>by unfold zdS zm3 ziT;rw [if_pos (by have:=zy b;simp;omega)];simp [zq b,zq c]) (fun a=>by unfold zdS;rw [if_neg (by simp)])];rfl
theorem zvq (l:List Plc) (h:l.length<=2000000):zgp l=some l:=by
 unfold zgp;rw [zm0 (by omega) (by omega) (by omega)];simp only [gq,ba];rw [zri l h ((0,0),0) (zdT l) (fun a i x y b c=>by unfold zdT zm4 ziT;rw [if_pos (by have:=zy b;simp;omega)];simp [zq b,zq c]) (fun a=>by unfold zdT;rw [if_neg (by simp)])];rfl
def Mx:Nat:=9223372036854775807
def Sz (o:Option Int) (k:Int) (P:Prop):Prop:=∃ r,o=some r/\(r<0\/(0<=r/\r<=k/\P))
theorem zBd {n:Nat} (hn:n<=Mx) {k:Int} (h0:0<=k) (h1:k<=1048576):w64 (k - (n:Int))=k - (n:Int):=zmL ⟨by unfold Mx at hn;omega,by omega⟩
theorem Sz.bind {o:Option Int} {k:Int} {P Q:Prop} {f:Int->Option Int} (h:Sz o k P) (hf:∀ r,0<=r->r<=k->Sz (f r) r Q):Sz (o.bind fun r=>if decide (r<0) then some (-1) else f r) k (P/\Q):=by
 obtain ⟨r,rfl,d⟩:=h;simp only [gq];rcases d with d | ⟨h0,h1,hP⟩
 ·rw [if_pos (by simpa using d)];exact ⟨-1,rfl,.inl (by omega)⟩
 ·rw [if_neg (by simp;omega)];obtain ⟨i,e,g⟩:=hf r h0 h1;refine ⟨i,e,?_⟩;rcases g with h | ⟨a,b,c⟩
  ·exact .inl h
  ·exact .inr ⟨a,by omega,hP,c⟩
theorem Sz.fin {k:Int} (h0:0<=k):Sz (some k) k True:=⟨k,rfl,.inr ⟨h0,Int.le_refl _,trivial⟩⟩
theorem Sz.len {n:Nat} (hn:n<=Mx) {k:Int} (h0:0<=k) (h1:k<=1048576) {Q:Prop} {f:Int->Option Int} (hf:∀ r,0<=r->r<=k->n<=1048576->Sz (f r) r Q):Sz (if decide (w64 (k - (n:Int))<0) then some (-1) else f (w64 (k - (n:Int)))) k (n<=1048576/\Q):=by
 rw [zBd hn h0 h1];by_cases h:k - (n:Int)<0
 ·rw [if_pos (by simpa using h)];exact ⟨-1,rfl,.inl (by omega)⟩
 ·rw [if_neg (by simpa using h)];obtain ⟨g,e,d⟩:=hf (k - (n:Int)) (by omega) (by omega) (by omega);refine ⟨g,e,?_⟩;rcases d with h | ⟨a,b,c⟩
  ·exact .inl h
  ·exact .inr ⟨a,by omega,by omega,c⟩
theorem zBe {α:Type} (l:List α) (hl:l.length<=1048576) {k:Int} (h0:0<=k) (h1:k<=1048576) (s:α->Int->Option Int) (P:α->Prop) (hs:∀ x∈l,∀ k,0<=k->k<=1048576->Sz (s x k) k (P x)) (F:Int×Int->Option ((Int×Int) ⊕ (Int ⊕ Int)))
  (hF:∀ st,F st=if decide (st.2<(l.length:Int)) then ((idx l st.2).bind fun x=>(s x st.1).bind fun r=>if decide (r<0) then (some (.inr (.inr (-1)))) else (some (.inl (r,w64 (st.2+1))))) else (some (.inr (.inl st.1)))) :
  ∃ z,iter F (k,0)=some z/\match z with | .inl r=>0<=r/\r<=k/\∀ x∈l,P x | .inr r=>r<0:=by
 refine zA (F:=F) (fun st=>∃ i:Nat,st.2=(i:Int)/\i<=l.length/\0<=st.1/\st.1<=k/\∀ (j:Nat) x,j<i->l[j]?=some x->P x) (fun st=>((l.length:Int) - st.2).toNat) _ ?_ (k,0) ⟨0,rfl,by omega,h0,by simp,fun j x d=>by omega⟩;rintro ⟨b,p⟩ ⟨i,e,hi,g0,g1,g2⟩;simp only at e g0 g1;subst e;rw [hF];simp only;by_cases c:i<l.length
 ·have f:l[i]?=some l[i]:=cm c;rw [if_pos (by simp;omega)];simp only [zq f,gq];obtain ⟨r,n,m⟩:=hs _ (dj c) b g0 (by omega);rw [n];simp only [gq];rcases m with h | ⟨a1,a2,a3⟩
  ·right;rw [if_pos (by simpa using h)];exact ⟨_,rfl,by simp⟩
  ·left;rw [if_neg (by simp;omega)];refine ⟨_,rfl,⟨i+1,by simp only;rw [zu (by omega) (by omega)];omega,by omega,a1,by simp only;omega,fun j x d a=>?_⟩,by simp only;rw [zu (by omega) (by omega)];omega⟩;by_cases g:j=i
   ·subst g;rw [f] at a;injection a with a;subst a;exact a3
   ·exact g2 j x (by omega) a
 ·right;rw [if_neg (by simp;omega)];refine ⟨_,rfl,g0,g1,fun x f=>?_⟩;obtain ⟨j,d⟩:=cv f;exact g2 j x (by have:=zy d;omega) d
theorem zuL {α:Type} (l:List α) (hl:l.length<=1048576) {k:Int} (h0:0<=k) (h1:k<=1048576) (s:α->Int->Option Int) (P:α->Prop) (hs:∀ x∈l,∀ k,0<=k->k<=1048576->Sz (s x k) k (P x)) (F:Int×Int->Option ((Int×Int) ⊕ (Int ⊕ Int)))
  (hF:∀ st,F st=if decide (st.2<(l.length:Int)) then ((idx l st.2).bind fun x=>(s x st.1).bind fun r=>if decide (r<0) then (some (.inr (.inr (-1)))) else (some (.inl (r,w64 (st.2+1))))) else (some (.inr (.inl st.1)))) :
  Sz ((iter F (k,0)).bind fun x=>match x with | .inl z=>some z | .inr z=>some z) k (∀ x∈l,P x):=by
 obtain ⟨z,b,a⟩:=zBe l hl h0 h1 s P hs F hF;rw [b];cases z with
 | inl r=>exact ⟨r,rfl,.inr a⟩
 | inr r=>exact ⟨r,rfl,.inl a⟩
theorem Sz.mono {o:Option Int} {k:Int} {P Q:Prop} (h:Sz o k P) (hPQ:P->Q):Sz o k Q:=by
 obtain ⟨r,e,h | ⟨a,b,c⟩⟩:=h
 ·exact ⟨r,e,.inl h⟩
 ·exact ⟨r,e,.inr ⟨a,b,hPQ c⟩⟩
theorem zyM {l:List Plc} (hl:l.length<=Mx) {k:Int} (h0:0<=k) (h1:k<=1048576):Sz (zlU l k) k (l.length<=1048576):=
 (Sz.len hl h0 h1 (f:=fun r=>some r) (fun r a _ _=>Sz.fin a)).mono fun h=>h.1
theorem zvs {l:List Plc} (hl:l.length<=Mx) {k:Int} (h0:0<=k) (h1:k<=1048576):Sz (ziW l k) k (l.length<=1048576):=
 (Sz.len hl h0 h1 (f:=fun r=>some r) (fun r a _ _=>Sz.fin a)).mono fun h=>h.1
theorem zyN {l:List Int} (hl:l.length<=Mx) {k:Int} (h0:0<=k) (h1:k<=1048576):Sz (zeb l k) k (l.length<=1048576):=
 (Sz.len hl h0 h1 (f:=fun r=>some r) (fun r a _ _=>Sz.fin a)).mono fun h=>h.1
theorem zBh {x:(List UInt8)×Int} (hl:x.1.length<=Mx) {k:Int} (h0:0<=k) (h1:k<=1048576):Sz (zmE x k) k (x.1.length<=1048576):=
 (Sz.len hl h0 h1 (f:=fun r=>some r) (fun r a _ _=>Sz.fin a)).mono fun h=>h.1
theorem zBf {x:(List UInt8)×List Int} (hl:x.1.length<=Mx) (hl2:x.2.length<=Mx) {k:Int} (h0:0<=k) (h1:k<=1048576):Sz (zmC x k) k (x.1.length<=1048576/\x.2.length<=1048576):=
 (Sz.len hl h0 h1 (f:=fun r=>(zeb x.2 r).bind fun c=>if decide (c<0) then (some (-1)) else (some c)) (fun r a b _=>(zyN hl2 a (by omega)).bind fun r a _=>Sz.fin a)).mono fun h=>⟨h.1,h.2.1⟩
theorem zz5 {l:List ((List UInt8)×Int)} (hl:l.length<=Mx) (hx:∀ x∈l,x.1.length<=Mx) {k:Int} (h0:0<=k) (h1:k<=1048576):Sz (znQ l k) k (l.length<=1048576/\∀ x∈l,x.1.length<=1048576):=
 Sz.len hl h0 h1 (f:=fun r=>(iter (zhM l) (r,0)).bind fun c=>match c with | .inl z=>zkE z | .inr z=>some z) (fun r a b d=>zuL l d a (by omega) zmE _ (fun x hm k a b=>zBh (hx x hm) a b) (zhM l) fun st=>rfl)
theorem zz4 {l:List ((List UInt8)×List Int)} (hl:l.length<=Mx) (hx:∀ x∈l,x.1.length<=Mx/\x.2.length<=Mx) {k:Int} (h0:0<=k) (h1:k<=1048576):Sz (znP l k) k (l.length<=1048576/\∀ x∈l,x.1.length<=1048576/\x.2.length<=1048576):=
 Sz.len hl h0 h1 (f:=fun r=>(iter (zhL l) (r,0)).bind fun c=>match c with | .inl z=>zkD z | .inr z=>some z) (fun r a b d=>zuL l d a (by omega) zmC _ (fun x hm k a b=>zBf (hx x hm).1 (hx x hm).2 a b) (zhL l) fun st=>rfl)
theorem zBg {l:List (List Int)} (hl:l.length<=Mx) (hx:∀ x∈l,x.length<=Mx) {k:Int} (h0:0<=k) (h1:k<=1048576):Sz (zlV l k) k (l.length<=1048576/\∀ x∈l,x.length<=1048576):=
 Sz.len hl h0 h1 (f:=fun r=>(iter (zf1 l) (r,0)).bind fun c=>match c with | .inl z=>ziX z | .inr z=>some z) (fun r a b d=>zuL l d a (by omega) zeb _ (fun x hm k a b=>zyN (hx x hm) a b) (zf1 l) fun st=>rfl)
theorem zAU {l:List Plc} (hl:l.length<=Mx) {k:Int} (h0:0<=k) (h1:k<=1048576):Sz (zfq l k) k (l.length<=1048576):=
 ((zyM hl h0 h1).bind fun r a _=>Sz.fin a).mono fun h=>h.1
abbrev En:=(List UInt8)×Sy×List Plc×Prf
structure EB (p:En):Prop where
 n:p.1.length<=Mx
 g:p.2.1.1.1.length<=Mx
 gn:∀ x∈p.2.1.1.1,x.1.length<=Mx
 t:p.2.1.1.2.length<=Mx
 tn:∀ x∈p.2.1.1.2,x.1.length<=Mx/\x.2.length<=Mx
 s:p.2.1.2.1.length<=Mx
 a:p.2.2.1.length<=Mx
 q1:p.2.2.2.2.1.length<=Mx
 q2:p.2.2.2.2.2.1.length<=Mx
 c:p.2.2.2.2.2.2.1.length<=Mx
 f:p.2.2.2.2.2.2.2.length<=Mx
 fn:∀ x∈p.2.2.2.2.2.2.2,x.length<=Mx
def ES (p:En):Prop:=p.1.length<=1048576/\Tame p.2.1.1/\p.2.1.2.1.length<=1048576/\p.2.2.1.length<=1048576/\p.2.2.2.2.1.length<=1048576/\p.2.2.2.2.2.1.length<=1048576/\p.2.2.2.2.2.2.1.length<=1048576/\p.2.2.2.2.2.2.2.length<=1048576/\∀ x∈p.2.2.2.2.2.2.2,x.length<=1048576
theorem zz6 {p:En} (h:EB p):Sz (znR p 1048576) 1048576 (ES p):=by
 have i:∀ k,0<=k->k<=1048576->Sz (zj6 p.2.1 k) k (Tame p.2.1.1/\p.2.1.2.1.length<=1048576):=fun k a b=>by
  have l:Sz (zlT p.2.1.1 k) k (Tame p.2.1.1):=
   ((zz5 h.g h.gn a b).bind fun r a b=>(zz4 h.t h.tn a (by omega)).bind fun r a b=>Sz.fin a).mono fun h=>⟨h.1.1,h.2.1.1,h.1.2,fun x j=>(h.2.1.2 x j).1,fun x j=>(h.2.1.2 x j).2⟩
  exact (l.bind fun r a b=>(zAU h.s a (by omega)).bind fun r a b=>Sz.fin a).mono fun h=>⟨h.1,h.2.1⟩
 have g:∀ k,0<=k->k<=1048576->Sz (zk8 p.2.2.2 k) k (p.2.2.2.2.1.length<=1048576/\p.2.2.2.2.2.1.length<=1048576/\p.2.2.2.2.2.2.1.length<=1048576/\p.2.2.2.2.2.2.2.length<=1048576/\∀ x∈p.2.2.2.2.2.2.2,x.length<=1048576):=fun k a b=>
  ((zvs h.q1 a b).bind fun r a b=>(zvs h.q2 a (by omega)).bind fun r a b=>(zyN h.c a (by omega)).bind fun r a b=>(zBg h.f h.fn a (by omega)).bind fun r a b=>Sz.fin a).mono fun h=>⟨h.1,h.2.1,h.2.2.1,h.2.2.2.1.1,h.2.2.2.1.2⟩
 exact (Sz.len h.n (by omega) (by omega) (f:=fun r=>(zj6 p.2.1 r).bind fun e=>if decide (e<0) then (some (-1)) else ((zfq p.2.2.1 e).bind fun c=>if decide (c<0) then (some (-1)) else ((zk8 p.2.2.2 c).bind fun d=>if decide (d<0) then (some (-1)) else (some d))))
  (fun r a b _=>(i r a (by omega)).bind fun r a b=>(zAU h.a a (by omega)).bind fun r a b=>(g r a (by omega)).bind fun r a b=>Sz.fin a)).mono fun h=>⟨h.1,h.2.1.1,h.2.1.2,h.2.2.1,h.2.2.2.1.1,h.2.2.2.1.2.1,h.2.2.2.1.2.2.1,h.2.2.2.1.2.2.2.1,h.2.2.2.1.2.2.2.2⟩
theorem zwz {p:En} (h:ES p):zgW p=some p:=by
 obtain ⟨l,d,q,k,n,f,m,j,c⟩:=h;obtain ⟨i,g,r,e,b⟩:=d;unfold zgW zm2 zlR zhK znO;rw [zBc _ (by omega),zBa _ (by omega) (fun x a=>by have:=b x a;omega),zvp _ (by omega),zvp _ (by omega),zvq _ (by omega),zvq _ (by omega),zyI _ (by omega),zBb _ (by omega) (fun x a=>by have:=c x a;omega)];rfl
theorem zve {p:En} (h:ES p):zlb p p=some true:=by
 obtain ⟨l,d,q,k,n,f,m,j,c⟩:=h;obtain ⟨i,g,r,e,b⟩:=d;unfold zlb zm5 zlX zhN znS;rw [zBm _ (by omega),zBk _ (by omega) (fun x a=>by have:=b x a;omega),zvM _ (by omega),zvM _ (by omega),zvN _ (by omega),zvN _ (by omega),zy4 _ (by omega),zBl _ (by omega) (fun x a=>by have:=c x a;omega)];simp
theorem zwr {set:TSet} {ts asm:List Plc} (hT:Tame set) (hts:ts.length<=1048576) (t:Int) (hasm:asm.length<=1048576) (pf:Prf) (h:zcl (set,ts,t) asm pf=some 0) :
  SetOk set/\AsmOk set ts/\AsmOk set asm/\1<=pf.1/\pf.1<=6:=by
 obtain ⟨v,f,i,e⟩:=zoq hT hts t;unfold zcl zhQ at h;rw [f] at h;simp only [gq] at h;cases v with
 | false=>simp [zaH] at h
 | true=>
  obtain ⟨hS,hA⟩:=e rfl;obtain ⟨b,d,g⟩:=zmM set hT asm (by omega);rw [d] at h;simp only [gq,au,ap,if_false] at h;cases b with
  | false=>simp [zaH] at h
  | true=>
   have c:=(g.1 rfl).2;simp only [zaH,au,ap,if_false,gq,decide_true,za7] at h;by_cases a:1<=pf.1/\pf.1<=6
   ·exact ⟨hS,hA,c,a.1,a.2⟩
   ·rw [decide_eq_false a] at h;simp at h
theorem ztQ {p:En} (h:ES p):∃ r,zhS p=some r/\zjW p=some r/\(r=true->NameOk p.1/\SetOk p.2.1.1/\AsmOk p.2.1.1 p.2.1.2.1/\AsmOk p.2.1.1 p.2.2.1/\1<=p.2.2.2.1/\p.2.2.2.1<=6):=by
 obtain ⟨q,c,d,a,i,e,g,n,l⟩:=h;obtain ⟨nm,⟨set,ts,t⟩,asm,j⟩:=p;simp only at q c d a i e g n l;obtain ⟨b,m,u,v⟩:=zgX nm (by omega);obtain ⟨r,f,k⟩:=zt3 c d t a j i e g;unfold zhS zjW;simp only;rw [m,u];simp only [gq];cases b with
 | false=>exact ⟨false,rfl,rfl,fun h=>by cases h⟩
 | true=>
  rw [f,k];refine ⟨_,rfl,rfl,fun h=>?_⟩;have s:r=0:=by simpa using h
  subst s;exact ⟨v.1 rfl,zwr c d t a j f⟩
end Go.Lf
namespace Go.Lf
open Go
theorem zI {s t:List UInt8} (h:s.length+t.length<=9223372036854775807):zaS s t=some (s++t):=by unfold zaS;rw [if_pos h]
theorem zbj {l l2:List Int} (h:l.length+l2.length<=140737488355328):app 1 l l2=some (l++l2):=by
 unfold app;rw [if_pos ⟨by omega,by omega⟩]
theorem zzM {m:Int} {out:List UInt8} (hm:m≠0) (hI:I64 m) (ho:out.length<=1000) :
  zaD (out,m)=some (.inl (UInt8.ofNat (48+m.natAbs % 10)::out,Int.tdiv m 10)):=by
 have key:∀ d:Nat,d<10->zfn (out,m) (d:Int)=some (.inl (UInt8.ofNat (48+d)::out,Int.tdiv m 10)):=by
  intro d hd;unfold zfn;have c:w64 (48+(d:Int))=48+(d:Int):=zmL ⟨by omega,by omega⟩;have b:zY [IntKind.wrap .u8 (w64 (48+(d:Int)))]=[UInt8.ofNat (48+d)]:=by
   rw [c];have:IntKind.wrap .u8 (48+(d:Int))=48+(d:Int):=by
    have h:d=0\/d=1\/d=2\/d=3\/d=4\/d=5\/d=6\/d=7\/d=8\/d=9:=by omega
    rcases h with rfl | rfl | rfl | rfl | rfl | rfl | rfl | rfl | rfl | rfl<;>rfl
   rw [this];show [((48+(d:Int)).toNat).toUInt8]=_;rw [show (48+(d:Int)).toNat=48+d by omega]
  have f:w64 (Int.tdiv m 10)=Int.tdiv m 10:=by
   refine zmL ?_;obtain ⟨j,i⟩:=hI;have g:(Int.tdiv m 10).natAbs=m.natAbs / 10:=by rw [Int.natAbs_tdiv];rfl
   exact ⟨by omega,by omega⟩
  rw [b,zI (by simp;omega),f];rfl
 unfold zaD;rw [if_pos (by simpa using hm)];obtain ⟨k,rfl | rfl⟩:=Int.eq_nat_or_neg m
 ·have e:Int.tmod (k:Int) 10=((k % 10:Nat):Int):=rfl;simp only [e];rw [if_neg (by simp;omega),key (k % 10) (by omega)];rfl
 ·have e:Int.tmod (-(k:Int)) 10 = -((k % 10:Nat):Int):=by rw [Int.neg_tmod];rfl
  simp only [e];by_cases a:k % 10=0
  ·rw [if_neg (by simp [a])];have:=key 0 (by omega);simp only [a] at this ⊢;rw [Int.natAbs_neg,Int.natAbs_natCast,a];simpa using this
  ·rw [if_pos (by simp;omega)];have b:w64 (0 - -((k % 10:Nat):Int))=((k % 10:Nat):Int):=by rw [zmL ⟨by omega,by omega⟩];omega
   rw [b,key (k % 10) (by omega),Int.natAbs_neg,Int.natAbs_natCast]
theorem zzN:∀ (u:Nat) (m:Int) (out:List UInt8),m.natAbs=u->m≠0->I64 m->out.length+Go.Lib.nDigits u<=1000->iter zaD (out,m)=some (Go.Lib.decDigits u++out):=by
 intro u
 induction u using Nat.strongRecOn with
 | _ u ih=>
  intro m out b hm a e;have i:1<=Go.Lib.nDigits u:=by rw [Go.Lib.nDigits];split<;>omega
  rw [zv (zzM hm a (by omega)),b];have c:(Int.tdiv m 10).natAbs=u / 10:=by rw [Int.natAbs_tdiv,b];rfl
  by_cases h:u<10
  ·have d:Int.tdiv m 10=0:=by omega
   rw [d,Go.Lib.decDigits,dif_pos h,Nat.mod_eq_of_lt h];have:zaD (UInt8.ofNat (48+u)::out,0)=some (.inr (UInt8.ofNat (48+u)::out)):=by unfold zaD;rfl
   rw [zC this];rfl
  ·rw [ih (u / 10) (by omega) _ _ c (by omega) ?_ ?_]
   ·conv=>rhs;rw [Go.Lib.decDigits,dif_neg h]
    simp
   ·obtain ⟨g,f⟩:=a;constructor<;>omega
   ·have:Go.Lib.nDigits u=Go.Lib.nDigits (u / 10)+1:=by conv=>lhs;rw [Go.Lib.nDigits,dif_neg h]
    simp only [dm];omega
theorem ztd:∀ (k u:Nat),u<10 ^ k->0<k->Go.Lib.nDigits u<=k:=by
 intro k
 induction k with
 | zero=>intro u _ h;omega
 | succ k ih=>
  intro u b _;rw [Go.Lib.nDigits];split
  ·omega
  ·rename_i h;have a:0<k:=by
    rcases Nat.eq_zero_or_pos k with rfl | a
    ·simp at b;omega
    ·exact a
   have:=ih (u / 10) (by rw [Nat.pow_succ] at b;omega) a;omega
theorem zkj {n:Int} (h:I64 n):zaW n=some (Go.Lib.itoa n):=by
 unfold zaW;by_cases b:n=0
 ·subst b;have:zaD (([]:List UInt8),0)=some (.inr []):=by unfold zaD;rfl
  rw [zC this];show zdo 0 []=_;unfold zdo Go.Lib.itoa;rw [if_pos (by decide),if_neg (by decide),Go.Lib.decDigits,dif_pos (by decide)];rfl
 ·have hd:Go.Lib.nDigits n.natAbs<=20:=ztd 20 _ (by obtain ⟨c,d⟩:=h;omega) (by omega);rw [zzN n.natAbs n [] rfl b h (by simp;omega),bf];show zdo n _=_;unfold zdo;rw [if_neg (by simpa using b)];unfold Go.Lib.itoa;by_cases a:n<0
  ·rw [if_pos (by simpa using a),if_pos a,zI (by rw [Go.Lib.decDigits_length];simp;omega)];rfl
  ·rw [if_neg (by simpa using a),if_neg a,show n.natAbs=n.toNat by omega]
theorem zqZ (n:Int):zfg n=some (Go.Lib.itoa n):=rfl
theorem zaZ {n:Int} (h:I64 n):(Go.Lib.itoa n).length<=21:=by
 have hd:∀ u,u<10 ^ 20->(Go.Lib.decDigits u).length<=20:=fun u a=>by rw [Go.Lib.decDigits_length];exact ztd 20 u a (by omega)
 obtain ⟨b,c⟩:=h;unfold Go.Lib.itoa;split
 ·have:=hd n.natAbs (by omega);simp;omega
 ·have:=hd n.toNat (by omega);omega
abbrev NB:Nat:=140737488355328
theorem zo2 {α:Type} (l:List α) (i:Nat):idx l (i:Int)=l[i]?:=by unfold idx;rw [if_pos (by omega)];rfl
theorem zbQ {S α β R:Type} (N:Nat) (F:S->Option (S ⊕ R)) (mk:List β->Int->S) (fin:List β->R) (xs:List α) (pc:α->List β)
  (hstep:∀ a (i:Nat) x,xs[i]?=some x->a.length+(pc x).length<=N->F (mk a i)=some (.inl (mk (a++pc x) ((i+1:Nat):Int))))
  (hend:∀ a,F (mk a (xs.length:Int))=some (.inr (fin a))) (a:List β) (c:a.length+(xs.flatMap pc).length<=N) :
  iter F (mk a 0)=some (fin (a++xs.flatMap pc)):=by
 have key:∀ k i a,i+k=xs.length->a.length+((xs.drop i).flatMap pc).length<=N->iter F (mk a (i:Int))=some (fin (a++(xs.drop i).flatMap pc)):=by
  intro k
  induction k with
  | zero=>
   intro i a hi _;have:i=xs.length:=by omega
   subst this;rw [zC (hend a)];simp
  | succ k ih=>
   intro i a hi c;have b:i<xs.length:=by omega
   rw [bh b,ca] at c ⊢;rw [dl] at c;rw [zv (hstep a i xs[i] (cm b) (by omega)),ih (i+1) (a++pc xs[i]) (by omega) (by rw [dl];omega),be]
 have:=key xs.length 0 a (by omega) (by simpa using c);simpa using this
theorem zfz {α β:Type} (xs:List α) (pc:α->List β) (M:Nat) (h:∀ x∈xs,(pc x).length<=M):(xs.flatMap pc).length<=xs.length*M:=by
 induction xs with
 | nil=>simp
 | cons x xs ih=>
  rw [ca,dl,dm,gl];have b:=h x (by simp);have c:=ih fun y a=>h y (by simp [a]);omega
theorem zcm (a b:List UInt8):zB (a++b)=zB a++zB b:=by simp [zB]
theorem zH (a:List UInt8):(zB a).length=a.length:=by simp [zB]
theorem zS {α:Type} (xs:List α) (pc:α->List UInt8):xs.flatMap (fun x=>zB (pc x))=zB (xs.flatMap pc):=by
 induction xs with
 | nil=>rfl
 | cons x xs ih=>rw [ca,ca,zcm,ih]
theorem zeo:∀ s:List UInt8,zY (zB s)=s
 | []=>rfl
 | b::s=>by
  have a:=zeo s;unfold zY zB at a ⊢;rw [ek,ek,a];congr 1;show ((b.toNat:Int).toNat).toUInt8=b;simp
theorem zda {i n:Nat} (h:i<n) (hn:n<=1048576):w64 ((i:Int)+1)=((i+1:Nat):Int):=by rw [zmL ⟨by omega,by omega⟩];omega
theorem znF {α:Type} {l:List α} {i:Nat} {x:α} (h:l[i]?=some x):i<l.length:=(co.1 h).1
theorem zn5 {α:Type} {l:List α} {i:Nat} {x:α} (h:l[i]?=some x):x∈l:=by obtain ⟨a,b⟩:=co.1 h;rw [←b];exact dj a
theorem zpg (ws:List (List UInt8)) (h1:ws.length<=2000000) (h2:(Go.Lib.join ws [32]).length<=NB - 1):zeN ws=some (Go.Lib.join ws [32]++[10]):=by
 unfold zeN strings_Join;have:NB - 1=140737488355327:=rfl;rw [if_pos ⟨by omega,by omega⟩];simp only [gq];rw [zI (by simp;omega)];rfl
theorem zlp (w:List UInt8) (l:List (List UInt8)):Go.Lib.join (w::l) [32]=w++l.flatMap fun x=>[32]++x:=by
 induction l generalizing w with
 | nil=>simp [Go.Lib.join,List.intercalate]
 | cons x l ih=>
  have e:Go.Lib.join (w::x::l) [32]=w++[32]++Go.Lib.join (x::l) [32]:=by simp [Go.Lib.join,List.intercalate]
  rw [e,ih x,ca];simp
def zdh (w:List UInt8) (l:List Int):List UInt8:=w++(l.flatMap fun n=>[32]++Go.Lib.itoa n)++[10]
theorem zpf {w:List UInt8} {l:List Int} (hl:∀ n∈l,I64 n):(zdh w l).length<=w.length+l.length*22+1:=by
 unfold zdh;have:=zfz l (fun n=>[32]++Go.Lib.itoa n) 22 (fun n a=>by have:=zaZ (hl n a);simp;omega);simp only [dl,dm,dx] at this ⊢;omega
theorem zua {w:List UInt8} {l:List Int} (hw:w.length<=100) (hl:l.length<=1048576) (hI:∀ n∈l,I64 n):zfi w l=some (zdh w l):=by
 have hlen:=zpf (w:=w) hI;have e:=zfz l (fun n=>[32]++Go.Lib.itoa n) 22 (fun n g=>by have:=zaZ (hI n g);simp;omega);unfold zfi;have:=zbQ NB (zcW l) (fun a i=>(a,i)) (fun a=>a) l (fun n=>[32]++Go.Lib.itoa n) (fun d i x b f=>by
   have c:=znF b;have hi:=zaZ (hI x (zn5 b));unfold zcW;simp only [zo2,b,gq];rw [if_pos (by simp;omega),zkj (hI x (zn5 b))];simp only [gq];rw [zI (by simp;omega)];simp only [gq];rw [zI (by have:NB=140737488355328:=rfl;simp only [dl] at f ⊢;omega)];simp only [gq];rw [zda c hl]) (fun d=>by unfold zcW;simp) w (by have:NB=140737488355328:=rfl;omega)
 rw [this];simp only [gq];unfold zhW;rw [zI (by simp only [dl,dm,dx] at e ⊢;omega)];rfl
theorem zph {w:List UInt8} {l:List Int} (hw:w.length<=100) (hl:l.length<=1048576) (hI:∀ n∈l,I64 n):zbv w l=some (zdh w l):=by
 have g:=zfz l (fun n=>[32]++Go.Lib.itoa n) 22 (fun n k=>by have:=zaZ (hI n k);simp;omega);unfold zbv;have d:∀ l:List Int,(l.flatMap fun n=>[Go.Lib.itoa n])=l.map Go.Lib.itoa:=fun l=>by induction l with | nil=>rfl | cons x l ih=>rw [ca,ih];rfl
 have:=zbQ 2000000 (zcw l) (fun a i=>(a,i)) (fun a=>a) l (fun n=>[Go.Lib.itoa n]) (fun b i x f j=>by
   have c:=znF f;unfold zcw;simp only [zo2,f,gq,zqZ];rw [if_pos (by simp;omega)];have h:app 16 b [Go.Lib.itoa x]=some (b++[Go.Lib.itoa x]):=by
    simp only [dm,dx] at j;unfold app;rw [if_pos ⟨by simp;omega,by simp;omega⟩]
   rw [h];simp only [gq];rw [zda c hl]) (fun b=>by unfold zcw;simp) [w] (by rw [d];simp;omega)
 rw [this,d];simp only [gq];unfold zhl;have e:Go.Lib.join ([w]++l.map Go.Lib.itoa) [32]=w++l.flatMap fun n=>[32]++Go.Lib.itoa n:=by
  show Go.Lib.join (w::l.map Go.Lib.itoa) [32]=_;rw [zlp,List.flatMap_map]
 rw [zpg _ (by simp;omega) (by rw [e];have:NB - 1=140737488355327:=rfl;simp only [dl] at g ⊢;omega),e];rfl
variable {set:TSet}
theorem nbv:NB=140737488355328:=rfl
def ptT (p:Pt):List UInt8:=Go.Lib.itoa p.1++[44]++Go.Lib.itoa p.2
theorem zr4 {p:Pt} (h:ptB p=true):I64 p.1/\I64 p.2:=by
 unfold ptB at h;simp at h;exact ⟨⟨by omega,by omega⟩,⟨by omega,by omega⟩⟩
theorem zqF {p:Pt} (h:ptB p=true):(ptT p).length<=43:=by
 have a:=zaZ (zr4 h).1;have b:=zaZ (zr4 h).2;unfold ptT;simp;omega
theorem zvC {p:Pt} (h:ptB p=true):zgh p=some (ptT p):=by
 have a:=zaZ (zr4 h).1;have b:=zaZ (zr4 h).2;unfold zgh;rw [zlt,h];simp only [gq,au,ap,if_false];rw [zkj (zr4 h).1,zkj (zr4 h).2];simp only [gq];rw [zI (by simp;omega)];simp only [gq];rw [zI (by simp;omega)];rfl
theorem zwd {p:Pt} (h:ptB p=true):zgw p=some (ptT p):=by
 have a:=zaZ (zr4 h).1;have b:=zaZ (zr4 h).2;unfold zgw;rw [znU,h];simp only [gq,au,ap,if_false,zqZ];rw [zI (by simp;omega)];simp only [gq];rw [zI (by simp;omega)];rfl
def znE (g:Gl):List UInt8:=[103,108,117,101,32]++g.1++[32]++Go.Lib.itoa g.2++[10]
def nmT (set:TSet) (s:Int):List UInt8:=if s=0 then [45] else ((idx set.1 (s - 1)).map (·.1)).getD []
def zkU (set:TSet) (s:Int):List UInt8:=[32]++nmT set s
def zls (set:TSet) (t:Tl):List UInt8:=[116,105,108,101,32]++t.1++t.2.flatMap (zkU set)++[10]
def ztS (set:TSet):List UInt8:=set.1.flatMap znE++set.2.flatMap (zls set)
theorem zva (hS:SetOk set) {s:Int} (h0:s≠0) (h1:0<=s) (h2:s<=set.1.length):∃ g,idx set.1 (s - 1)=some g/\g.1.length<=12/\g∈set.1:=by
 have a:(s - 1).toNat<set.1.length:=by omega
 refine ⟨set.1[(s - 1).toNat],?_,(hS.glue _ a _ (cm a)).1.2.1,dj _⟩;unfold idx;rw [if_pos (by omega),cm a]
theorem zta {s:Int} (h0:s≠0) {g:Gl} (h:idx set.1 (s - 1)=some g):nmT set s=g.1:=by unfold nmT;rw [if_neg h0,h];rfl
theorem zuX (hS:SetOk set) {s:Int} (h1:0<=s) (h2:s<=set.1.length):(nmT set s).length<=12:=by
 by_cases a:s=0
 ·subst a;unfold nmT;simp
 ·obtain ⟨g,b,c,_⟩:=zva hS a h1 h2;rw [zta a b];exact c
theorem zru (hS:SetOk set) {s:Int} (h1:0<=s) (h2:s<=set.1.length):(zkU set s).length<=13:=by
 have:=zuX hS h1 h2;unfold zkU;simp;omega
theorem zqy (hS:SetOk set) {t:Tl} (ht:t∈set.2):t.1.length<=12/\t.2.length=4/\∀ x∈t.2,0<=x/\x<=set.1.length:=by
 obtain ⟨i,hi⟩:=cv ht;have:=hS.tile i (znF hi) t hi;exact ⟨this.1.2.1,this.2.1,this.2.2.2⟩
theorem zu9 (hS:SetOk set) {g:Gl} (hg:g∈set.1):g.1.length<=12/\I64 g.2:=by
 obtain ⟨i,hi⟩:=cv hg;have:=hS.glue i (znF hi) g hi;exact ⟨this.1.2.1,⟨by omega,by omega⟩⟩
theorem zyk (hS:SetOk set) {g:Gl} (hg:g∈set.1):(znE g).length<=40:=by
 obtain ⟨b,a⟩:=zu9 hS hg;have:=zaZ a;unfold znE;simp;omega
theorem zxG (hS:SetOk set) {t:Tl} (ht:t∈set.2):(zls set t).length<=70:=by
 obtain ⟨c,d,b⟩:=zqy hS ht;have:=zfz t.2 (zkU set) 13 (fun x a=>zru hS (b x a).1 (b x a).2);unfold zls;simp only [dl,dm,dx] at this ⊢;omega
theorem zoG (hS:SetOk set):(set.1.flatMap znE).length<=8000/\(set.2.flatMap (zls set)).length<=11200:=by
 have c:=zfz set.1 znE 40 (fun g a=>zyk hS a);have d:=zfz set.2 (zls set) 70 (fun t b=>zxG hS b);have:=hS.glues;have:=hS.tiles;constructor<;>omega
theorem zwC (hS:SetOk set) {s:Int} (h1:0<=s) (h2:s<=set.1.length):zgN set s=some (nmT set s):=by
 unfold zgN;by_cases a:s=0
 ·subst a;rfl
 ·obtain ⟨g,b,c,_⟩:=zva hS a h1 h2;have:=hS.glues;rw [if_neg (by simpa using a),zmL ⟨by omega,by omega⟩,b,zta a b];rfl
theorem zxM (hS:SetOk set):zmr set=some (ztS set):=by
 obtain ⟨E,B⟩:=zoG hS;have q:=hS.glues;have u:=hS.tiles;unfold zmr;have G:=zbQ NB (zev set) (fun a i=>(a,i)) (fun a=>a) set.1 (fun g=>zB (znE g)) (fun b i g p n=>by
   have c:=znF p;obtain ⟨F,m⟩:=zu9 hS (zn5 p);have l:=zaZ m;unfold zev;simp only [zo2,p,gq];rw [if_pos (by simp;omega),zkj m,zI (by simp;omega)];simp only [gq];rw [zI (by simp;omega)];simp only [gq];rw [zI (by simp;omega)];simp only [gq];rw [zI (by simp;omega)];simp only [gq];have e:[103,108,117,101,32]++g.1++[32]++Go.Lib.itoa g.2++[10]=znE g:=rfl;rw [e,zbj (by rw [nbv] at n;exact n)];simp only [gq];rw [zda c (by omega)]) (fun b=>by unfold zev;simp) [] (by rw [zS,zH,nbv];simp only [dx];omega)
 rw [show iter (zev set) (([]:List Int),0)=_ from G,zS,fh];simp only [gq];unfold zlF;have D:=zbQ NB (zeu set) (fun a i=>(a,i)) (fun a=>a) set.2 (fun t=>zB (zls set t)) (fun b i t k n=>by
   have c:=znF k;obtain ⟨F,m,l⟩:=zqy hS (zn5 k);have C:=zfz t.2 (zkU set) 13 (fun x w=>zru hS (l x w).1 (l x w).2);rw [zH,nbv] at n;have z:(zls set t).length=6+t.1.length+(t.2.flatMap (zkU set)).length:=by unfold zls;simp;omega
   unfold zeu;simp only [zo2,k,gq];rw [if_pos (by simp;omega),zI (by simp;omega)];simp only [gq];rw [zbj (by rw [zH];simp;omega)];simp only [gq];have A:=zbQ NB (zet set (b,(i:Int)) t) (fun a i=>(a,i)) (fun a=>a) t.2 (fun s=>zB (zkU set s)) (fun d j s hs h=>by
     have f:=znF hs;obtain ⟨v,y⟩:=l s (zn5 hs);have H:=zuX hS v y;unfold zet;simp only [zo2,k,hs,gq];rw [if_pos (by simp;omega),zwC hS v y];simp only [gq];rw [zI (by simp;omega)];simp only [gq];have e:[32]++nmT set s=zkU set s:=rfl;rw [e,zbj (by rw [nbv] at h;exact h)];simp only [gq];rw [zda f (by omega)]) (fun d=>by unfold zet;simp [m]) (b++zB ([116,105,108,101,32]++t.1)) (by
     rw [zS,dl,zH,zH,nbv];simp only [dl,dm,dx];omega)
   rw [show iter (zet set (b,(i:Int)) t) (b++zB ([116,105,108,101,32]++t.1),0)=_ from A,zS];simp only [gq];unfold zlD;have r:([10]:List Int)=zB [10]:=rfl;rw [r,zbj (by simp only [dl,zH,dm,dx];omega)];simp only [gq];rw [zda c (by omega)];have e:b++zB ([116,105,108,101,32]++t.1)++zB (t.2.flatMap (zkU set))++zB [10]=b++zB (zls set t):=by
    unfold zls;simp only [zcm,be]
   rw [e]) (fun b=>by unfold zeu;simp) (zB (set.1.flatMap znE)) (by rw [zS,zH,zH,nbv];omega)
 rw [show iter (zeu set) (zB (set.1.flatMap znE),0)=_ from D,zS,←zcm];simp only [gq];unfold zlE;rw [zeo];rfl
theorem zyf (hS:SetOk set):zld set=some (ztS set):=by
 obtain ⟨E,B⟩:=zoG hS;have q:=hS.glues;have r:=hS.tiles;unfold zld;have G:=zbQ NB (zds set) (fun a i=>(i,a)) (fun a=>a) set.1 (fun g=>zB (znE g)) (fun b i g h n=>by
   have f:=znF h;obtain ⟨F,w⟩:=zu9 hS (zn5 h);have m:=zaZ w;unfold zds;simp only [zo2,h,gq,zqZ];rw [if_pos (by simp;omega),zI (by simp;omega)];simp only [gq];rw [zI (by simp;omega)];simp only [gq];rw [zI (by simp;omega)];simp only [gq];rw [zI (by simp;omega)];simp only [gq];have e:[103,108,117,101,32]++g.1++[32]++Go.Lib.itoa g.2++[10]=znE g:=rfl;rw [e,zbj (by rw [nbv] at n;exact n)];simp only [gq];rw [zda f (by omega)]) (fun b=>by unfold zds;simp) [] (by rw [zS,zH,nbv];simp only [dx];omega)
 rw [show iter (zds set) (0,([]:List Int))=_ from G,zS,fh];simp only [gq];unfold zkJ;have D:=zbQ NB (zdr set) (fun a i=>(i,a)) (fun a=>a) set.2 (fun t=>zB (zls set t)) (fun b i t p n=>by
   have f:=znF p;obtain ⟨F,w,m⟩:=zqy hS (zn5 p);have C:=zfz t.2 (zkU set) 13 (fun x v=>zru hS (m x v).1 (m x v).2);rw [zH,nbv] at n;have z:(zls set t).length=6+t.1.length+(t.2.flatMap (zkU set)).length:=by unfold zls;simp;omega
   unfold zdr;simp only [zo2,p,gq];rw [if_pos (by simp;omega),zI (by simp;omega)];simp only [gq];rw [zbj (by rw [zH];simp;omega)];simp only [gq];have A:=zbQ NB (zdq set t) (fun a i=>(i,a)) (fun a=>a) t.2 (fun s=>zB (zkU set s)) (fun k j s hs c=>by
     have d:=znF hs;obtain ⟨u,y⟩:=m s (zn5 hs);have H:=zuX hS u y;unfold zdq;simp only [zo2,hs,gq];rw [if_pos (by simp;omega)];by_cases l:s=0
     ·subst l;rw [if_pos (by simp)];have e:([32,45]:List UInt8)=zkU set 0:=rfl;rw [e,zbj (by rw [nbv] at c;exact c)];simp only [gq];unfold zfu;rw [zda d (by omega)]
     ·obtain ⟨g,h,I,_⟩:=zva hS l u y;rw [if_neg (by simpa using l),zmL ⟨by omega,by omega⟩,h];simp only [gq];rw [zI (by simp;omega)];simp only [gq];have e:[32]++g.1=zkU set s:=by unfold zkU;rw [zta l h]
      rw [e,zbj (by rw [nbv] at c;exact c)];simp only [gq];unfold zfu;rw [zda d (by omega)]) (fun k=>by unfold zdq;simp) (b++zB ([116,105,108,101,32]++t.1)) (by
     rw [zS,dl,zH,zH,nbv];simp only [dl,dm,dx];omega)
   rw [show iter (zdq set t) (0,b++zB ([116,105,108,101,32]++t.1))=_ from A,zS];simp only [gq];unfold zkH;rw [zbj (by simp only [dl,zH,dm,dx];omega)];simp only [gq];rw [zda f (by omega)];have e:b++zB ([116,105,108,101,32]++t.1)++zB (t.2.flatMap (zkU set))++zB [10]=b++zB (zls set t):=by
    unfold zls;simp only [zcm,be]
   rw [e]) (fun b=>by unfold zdr;simp) (zB (set.1.flatMap znE)) (by rw [zS,zH,zH,nbv];omega)
 rw [show iter (zdr set) (0,zB (set.1.flatMap znE))=_ from D,zS,←zcm];simp only [gq];unfold zkI;rw [zeo];rfl
variable {set:TSet}
def tnT (set:TSet) (k:Int):List UInt8:=((idx set.2 k).map (·.1)).getD []
def ze5 (set:TSet) (w:List UInt8) (x:Plc):List UInt8:=w++[32]++tnT set x.2++[32]++ptT x.1++[10]
theorem zqh (hS:SetOk set) {k:Int} (h1:0<=k) (h2:k<=(set.2.length:Int) - 1):∃ t,idx set.2 k=some t/\t.1.length<=12/\tnT set k=t.1:=by
 have a:k.toNat<set.2.length:=by omega
 have e:idx set.2 k=some set.2[k.toNat]:=by unfold idx;rw [if_pos h1,cm a]
 exact ⟨_,e,(zqy hS (dj a)).1,by unfold tnT;rw [e];rfl⟩
theorem ztN {ts:List Plc} (hA:AsmOk set ts) {x:Plc} (hx:x∈ts):ptB x.1=true/\0<=x.2/\x.2<=(set.2.length:Int) - 1:=by
 obtain ⟨i,hi⟩:=cv hx;exact ⟨(hA.1.2 i (znF hi) x hi).1,hA.2 x hx⟩
theorem zwL (hS:SetOk set) {ts:List Plc} (hA:AsmOk set ts) {w:List UInt8} (hw:w.length<=10) {x:Plc} (hx:x∈ts):(ze5 set w x).length<=80:=by
 obtain ⟨a,b,c⟩:=ztN hA hx;obtain ⟨t,_,d,e⟩:=zqh hS b c;have:=zqF a;unfold ze5;rw [e];simp;omega
theorem zlN (hS:SetOk set) {ts:List Plc} (hA:AsmOk set ts) {w:List UInt8} (hw:w.length<=10):(ts.flatMap (ze5 set w)).length<=40000:=by
 have:=zfz ts (ze5 set w) 80 (fun x a=>zwL hS hA hw a);have:=hA.1.1;omega
theorem zA1 {w n p:List UInt8} (hw:w.length<=10) (hn:n.length<=12) (hp:p.length<=43):zeN [w,n,p]=some (w++[32]++n++[32]++p++[10]):=by
 have e:Go.Lib.join [w,n,p] [32]=w++[32]++n++[32]++p:=by rw [zlp];simp
 rw [zpg _ (by simp) (by rw [e,nbv];simp;omega),e]
def zvu (s:Sy):List UInt8:=[116,101,109,112,101,114,97,116,117,114,101,32]++Go.Lib.itoa s.2.2++[10]++ztS s.1++s.2.1.flatMap (ze5 s.1 [115,101,101,100])
theorem zvt {s:Sy} (hS:SetOk s.1) (hA:AsmOk s.1 s.2.1) (ht:I64 s.2.2):(zvu s).length<=60000:=by
 have a:=zoG hS;have b:=zlN hS hA (w:=[115,101,101,100]) (by simp);have c:=zaZ ht;unfold zvu ztS;simp only [dl,dm,dx] at a b ⊢;omega
theorem zxL {s:Sy} (hS:SetOk s.1) (hA:AsmOk s.1 s.2.1) (ht:I64 s.2.2):zir s=some (zvu s):=by
 have r:=zoG hS;have q:=zlN hS hA (w:=[115,101,101,100]) (by simp);have u:=zaZ ht;have hs:(ztS s.1).length<=19200:=by unfold ztS;rw [dl];omega
 have f:=hA.1.1;unfold zir;rw [zkj ht];simp only [gq];rw [zI (by simp;omega)];simp only [gq];rw [zI (by simp;omega),zxM hS];simp only [gq];rw [zI (by simp;omega)];simp only [gq];have L:=zbQ NB (zbY s) (fun a i=>(a,i)) (fun a=>a) s.2.1 (ze5 s.1 [115,101,101,100]) (fun c i x d l=>by
   have b:=znF d;obtain ⟨g,m,k⟩:=ztN hA (zn5 d);obtain ⟨t,j,n,h⟩:=zqh hS m k;have p:=zqF g;rw [nbv] at l;unfold zbY;simp only [zo2,d,gq,j];rw [if_pos (by simp;omega),zI (by simp;omega)];simp only [gq];rw [zI (by simp;omega),zvC g];simp only [gq];rw [zI (by simp;omega)];simp only [gq];rw [zI (by simp;omega)];simp only [gq];have e:[115,101,101,100,32]++t.1++[32]++ptT x.1++[10]=ze5 s.1 [115,101,101,100] x:=by unfold ze5;rw [h];rfl
   rw [e,zI (by omega)];simp only [gq];rw [zda b (by omega)]) (fun c=>by unfold zbY;simp) ([116,101,109,112,101,114,97,116,117,114,101,32]++Go.Lib.itoa s.2.2++[10]++ztS s.1) (by rw [nbv];simp only [dl,dm,dx];omega)
 rw [show iter (zbY s) (_,0)=_ from L];rfl
theorem zye {s:Sy} (hS:SetOk s.1) (hA:AsmOk s.1 s.2.1) (ht:I64 s.2.2):zhO s=some (zvu s):=by
 have u:=zoG hS;have r:=zlN hS hA (w:=[115,101,101,100]) (by simp);have v:=zaZ ht;have hs:(ztS s.1).length<=19200:=by unfold ztS;rw [dl];omega
 have f:=hA.1.1;unfold zhO;have j:Go.Lib.join [([116,101,109,112,101,114,97,116,117,114,101]:List UInt8),Go.Lib.itoa s.2.2] [32]=[116,101,109,112,101,114,97,116,117,114,101,32]++Go.Lib.itoa s.2.2:=by rw [zlp];simp
 rw [zqZ];simp only [gq];rw [zpg _ (by simp) (by rw [j,nbv];simp;omega),j];simp only [gq];rw [zbj (by rw [zH];simp;omega),zyf hS];simp only [gq];rw [zbj (by simp only [fh,zH];simp;omega)];simp only [gq];have L:=zbQ NB (zbu s) (fun a i=>(i,a)) (fun a=>a) s.2.1 (fun x=>zB (ze5 s.1 [115,101,101,100] x)) (fun c i x d h=>by
   have b:=znF d;obtain ⟨g,q,p⟩:=ztN hA (zn5 d);obtain ⟨t,n,k,l⟩:=zqh hS q p;have m:=zqF g;rw [nbv] at h;unfold zbu;simp only [zo2,d,gq,n];rw [if_pos (by simp;omega),zwd g];simp only [gq];rw [zA1 (by simp) k m];simp only [gq];have e:[115,101,101,100]++[32]++t.1++[32]++ptT x.1++[10]=ze5 s.1 [115,101,101,100] x:=by unfold ze5;rw [l]
   rw [e,zbj h];simp only [gq];rw [zda b (by omega)]) (fun c=>by unfold zbu;simp) ([]++zB ([116,101,109,112,101,114,97,116,117,114,101,32]++Go.Lib.itoa s.2.2++[10])++zB (ztS s.1)) (by
   rw [zS,nbv];simp only [fh,dl,zH,dm,dx];omega)
 rw [show iter (zbu s) (0,_)=_ from L,zS];simp only [gq,fh];unfold zh5;rw [←zcm,←zcm,zeo];rfl
def optN (o:(Int×Int)×Int):List Int:=[o.1.1,o.1.2,o.2]
def pnT (k:Int):List UInt8:=if k=1 then [103,114,111,119,110] else if k=2 then [116,101,114,109,105,110,97,108] else if k=3 then [117,110,105,113,117,101] else if k=4 then [99,111,110,102,108,105,99,116] else if k=5 then [115,116,97,98,108,101] else [108,111,111,115,101]
theorem zzc {k:Int} (h1:1<=k) (h2:k<=6):zjh k=some (pnT k)/\ziK k=some (pnT k)/\(pnT k).length<=8/\pnT k≠[]:=by
 have h:k=1\/k=2\/k=3\/k=4\/k=5\/k=6:=by omega
 unfold zjh ziK;rw [za7,zc4];rcases h with rfl | rfl | rfl | rfl | rfl | rfl<;>exact ⟨rfl,rfl,by decide,by decide⟩
def zmZ (p:Prf):List UInt8:=[112,114,111,111,102,32]++pnT p.1++[10]++p.2.1.flatMap (fun o=>zdh [112,117,116] (optN o))++p.2.2.1.flatMap (fun o=>zdh [111,116,104,101,114] (optN o)) ++
 (if p.2.2.2.1=[] then [] else zdh [112,97,114,116] p.2.2.2.1)++p.2.2.2.2.flatMap (fun l=>zdh [102,108,111,119] l)
structure PI (p:Prf):Prop where
 q1:∀ o∈p.2.1,∀ n∈optN o,I64 n
 q2:∀ o∈p.2.2.1,∀ n∈optN o,I64 n
 c:∀ n∈p.2.2.2.1,I64 n
 f:∀ l∈p.2.2.2.2,∀ n∈l,I64 n
 l1:p.2.1.length<=1048576
 l2:p.2.2.1.length<=1048576
 l3:p.2.2.2.1.length<=1048576
 l4:p.2.2.2.2.length<=1048576
 l5:∀ l∈p.2.2.2.2,l.length<=1048576
theorem zxp {w:List UInt8} (hw:w.length<=10) {o:(Int×Int)×Int} (h:∀ n∈optN o,I64 n):(zdh w (optN o)).length<=77:=by
 have:=zpf (w:=w) h;have e:(optN o).length=3:=rfl;omega
theorem zoK {p:Prf} (h:PI p):(p.2.1.flatMap (fun o=>zdh [112,117,116] (optN o))).length<=1048576*77/\(p.2.2.1.flatMap (fun o=>zdh [111,116,104,101,114] (optN o))).length<=1048576*77/\
  (zdh [112,97,114,116] p.2.2.2.1).length<=23068680/\(p.2.2.2.2.flatMap (fun l=>zdh [102,108,111,119] l)).length<=1048576*23068688:=by
 have d:=zfz p.2.1 (fun o=>zdh [112,117,116] (optN o)) 77 (fun o a=>zxp (by simp) (h.q1 o a));have a2:=zfz p.2.2.1 (fun o=>zdh [111,116,104,101,114] (optN o)) 77 (fun o a=>zxp (by simp) (h.q2 o a));have f:=zpf (w:=[112,97,114,116]) h.c;have c:=zfz p.2.2.2.2 (fun l=>zdh [102,108,111,119] l) 23068688 (fun l b=>by
  have:=zpf (w:=[102,108,111,119]) (h.f l b);have:=h.l5 l b;simp only [dm,dx] at *;omega)
 have e:=h.l3;refine ⟨gc d (gk 77 h.l1),gc a2 (gk 77 h.l2),gc f (by simp only [dm,dx];omega),gc c (gk 23068688 h.l4)⟩
theorem zt9 {w:List UInt8} (hw:w.length<=10) {l:List ((Int×Int)×Int)} (hl:l.length<=1048576) (hI:∀ o∈l,∀ n∈optN o,I64 n) (f:(l.flatMap fun o=>zdh w (optN o)).length<=NB) :
  zfh w l=some (l.flatMap fun o=>zdh w (optN o)):=by
 unfold zfh;have L:=zbQ NB (zbl w l) (fun a i=>(a,i)) (fun a=>a) l (fun o=>zdh w (optN o)) (fun d i o c f=>by
   have b:=znF c;have hi:=hI o (zn5 c);have g:I64 o.1.1:=hi _ (by simp [optN]);have j:I64 o.1.2:=hi _ (by simp [optN]);have h:I64 o.2:=hi _ (by simp [optN]);have k1:=zaZ g;have k2:=zaZ j;have k3:=zaZ h;rw [nbv] at f;unfold zbl;simp only [zo2,c,gq];rw [if_pos (by simp;omega),zI (by simp;omega)];simp only [gq];rw [zkj g];simp only [gq];rw [zI (by simp;omega)];simp only [gq];rw [zI (by simp;omega),zkj j];simp only [gq];rw [zI (by simp;omega)];simp only [gq];rw [zI (by simp;omega),zkj h];simp only [gq];rw [zI (by simp;omega)];simp only [gq];rw [zI (by simp;omega)];simp only [gq];have e:w++[32]++Go.Lib.itoa o.1.1++[32]++Go.Lib.itoa o.1.2++[32]++Go.Lib.itoa o.2++[10]=zdh w (optN o):=by unfold zdh optN;simp
   rw [e,zI (by omega)];simp only [gq];rw [zda b hl]) (fun d=>by unfold zbl;simp) [] (by simpa using f)
 rw [show iter (zbl w l) (_,0)=_ from L];rfl
theorem zs6 {p:Prf} (h:PI p) (h1:1<=p.1) (h2:p.1<=6):(zmZ p).length<=30000000000000:=by
 obtain ⟨e,a2,a,c⟩:=zoK h;obtain ⟨_,_,d,_⟩:=zzc h1 h2;unfold zmZ;have b:(if p.2.2.2.1=[] then [] else zdh [112,97,114,116] p.2.2.2.1:List UInt8).length<=23068680:=by
  split
  ·simp
  ·exact a
 simp only [dl,dm,dx] at b ⊢;omega
theorem zvD {p:Prf} (h:PI p) (h1:1<=p.1) (h2:p.1<=6):zjV p=some (zmZ p):=by
 obtain ⟨q,a2,r,f⟩:=zoK h;obtain ⟨p1,g,k,m⟩:=zzc h1 h2;unfold zjV;rw [g];simp only [gq];rw [zI (by simp;omega)];simp only [gq];rw [zI (by simp;omega),zt9 (by simp) h.l1 h.q1 (by rw [nbv];omega)];simp only [gq];rw [zI (by simp only [dl,dm,dx];omega),zt9 (by simp) h.l2 h.q2 (by rw [nbv];omega)];simp only [gq];rw [zI (by simp only [dl,dm,dx];omega)];simp only [gq];have fin:∀ a:List UInt8,a.length<=1000000000->zep p a=some (a++p.2.2.2.2.flatMap fun l=>zdh [102,108,111,119] l):=by
  intro a n;unfold zep;have L:=zbQ NB (zcN p) (fun a i=>(a,i)) (fun a=>a) p.2.2.2.2 (fun l=>zdh [102,108,111,119] l) (fun e i l b j=>by
    have d:=znF b;have l4:=h.l4;rw [nbv] at j;unfold zcN;simp only [zo2,b,gq];rw [if_pos (by simp;omega),zua (by simp) (h.l5 l (zn5 b)) (h.f l (zn5 b))];simp only [gq];rw [zI (by omega)];simp only [gq];rw [zda d l4]) (fun e=>by unfold zcN;simp) a (by rw [nbv];exact gc (Nat.add_le_add_left f _) (by omega))
  rw [show iter (zcN p) (_,0)=_ from L];rfl
 by_cases c:p.2.2.2.1=[]
 ·rw [if_neg (by simp [c]),fin _ (by simp only [dl,dm,dx];omega)];unfold zmZ;rw [if_pos c,bf]
 ·have:0<p.2.2.2.1.length:=List.length_pos_iff.2 c;rw [if_pos (by simp;omega),zua (by simp) h.l3 h.c];simp only [gq];rw [zI (by simp only [dl,dm,dx];omega)];simp only [gq];rw [fin _ (by simp only [dl,dm,dx];omega)];unfold zmZ;rw [if_neg c]
theorem zwe {p:Prf} (h:PI p) (h1:1<=p.1) (h2:p.1<=6):zjg p=some (zmZ p):=by
 obtain ⟨w,a2,x,m⟩:=zoK h;obtain ⟨p1,v,t,n⟩:=zzc h1 h2;unfold zjg;rw [p1];simp only [gq];rw [if_neg (by simpa using n)];have k:Go.Lib.join [([112,114,111,111,102]:List UInt8),pnT p.1] [32]=[112,114,111,111,102,32]++pnT p.1:=by rw [zlp];simp
 rw [zpg _ (by simp) (by rw [k,nbv];simp;omega),k];simp only [gq];rw [zbj (by rw [zH];simp;omega)];simp only [gq,fh];have s:=zbQ NB (zcd p) (fun a i=>(i,a)) (fun a=>a) p.2.1 (fun o=>zB (zdh [112,117,116] (optN o))) (fun c i o f d=>by
   have b:=znF f;rw [nbv] at d;unfold zcd;simp only [zo2,f,gq];have e:[o.1.1,o.1.2,o.2]=optN o:=rfl;rw [if_pos (by simp;omega),e,zph (by simp) (by simp [optN]) (h.q1 o (zn5 f))];simp only [gq];rw [zbj d];simp only [gq];rw [zda b h.l1]) (fun c=>by unfold zcd;simp) (zB ([112,114,111,111,102,32]++pnT p.1++[10])) (by rw [zS,nbv,zH,zH];simp only [dl,dm,dx];omega)
 rw [show iter (zcd p) (0,_)=_ from s,zS,←zcm];simp only [gq];unfold zjf;have r:=zbQ NB (zcc p) (fun a i=>(i,a)) (fun a=>a) p.2.2.1 (fun o=>zB (zdh [111,116,104,101,114] (optN o))) (fun c i o f d=>by
   have b:=znF f;rw [nbv] at d;unfold zcc;simp only [zo2,f,gq];have e:[o.1.1,o.1.2,o.2]=optN o:=rfl;rw [if_pos (by simp;omega),e,zph (by simp) (by simp [optN]) (h.q2 o (zn5 f))];simp only [gq];rw [zbj d];simp only [gq];rw [zda b h.l2]) (fun c=>by unfold zcc;simp) (zB ([112,114,111,111,102,32]++pnT p.1++[10]++p.2.1.flatMap (fun o=>zdh [112,117,116] (optN o)))) (by rw [zS,nbv,zH,zH];simp only [dl,dm,dx];omega)
 rw [show iter (zcc p) (0,_)=_ from r,zS,←zcm];simp only [gq];unfold zje;have fin:∀ a:List UInt8,a.length<=1000000000->zd3 p (zB a)=some (a++p.2.2.2.2.flatMap fun l=>zdh [102,108,111,119] l):=by
  intro a u;unfold zd3;have q:(List.flatMap (zdh [102,108,111,119]) p.2.2.2.2).length<=1048576*23068688:=m;have L:=zbQ NB (zcb p) (fun a i=>(i,a)) (fun a=>a) p.2.2.2.2 (fun l=>zB (zdh [102,108,111,119] l)) (fun c i l g d=>by
    have b:=znF g;rw [nbv] at d;unfold zcb;simp only [zo2,g,gq];rw [if_pos (by simp;omega),zph (by simp) (h.l5 l (zn5 g)) (h.f l (zn5 g))];simp only [gq];rw [zbj d];simp only [gq];rw [zda b h.l4]) (fun c=>by unfold zcb;simp) (zB a) (by rw [zS,nbv,zH,zH];omega)
  rw [show iter (zcb p) (0,_)=_ from L,zS,←zcm];simp only [gq];unfold zjd;rw [zeo]
 by_cases j:p.2.2.2.1=[]
 ·rw [if_neg (by simp [j]),fin _ (by simp only [dl,dm,dx];omega)];unfold zmZ;rw [if_pos j,bf]
 ·have:0<p.2.2.2.1.length:=List.length_pos_iff.2 j;rw [if_pos (by simp;omega),zph (by simp) h.l3 h.c];simp only [gq];rw [zbj (by rw [zH,zH];simp only [dl,dm,dx];omega)];simp only [gq];rw [←zcm,fin _ (by simp only [dl,dm,dx];omega)];unfold zmZ;rw [if_neg j]
def ztz (e:En):List UInt8:=[101,110,116,114,121,32]++e.1++[10]++zvu e.2.1++[101,110,100,10]++e.2.2.1.flatMap (ze5 e.2.1.1 [97,116])++zmZ e.2.2.2
structure VE (e:En):Prop where
 n:NameOk e.1
 s:SetOk e.2.1.1
 a:AsmOk e.2.1.1 e.2.1.2.1
 b:AsmOk e.2.1.1 e.2.2.1
 k1:1<=e.2.2.2.1
 k2:e.2.2.2.1<=6
 t:I64 e.2.1.2.2
 p:PI e.2.2.2
theorem zvG {e:En} (h:VE e):zfP e=some (ztz e):=by
 have s:=h.n.2.1;have u:=zvt h.s h.a h.t;have q:=zlN h.s h.b (w:=[97,116]) (by simp);have c:=zs6 h.p h.k1 h.k2;have g:=h.b.1.1;unfold zfP;rw [zI (by simp;omega)];simp only [gq];rw [zI (by simp;omega),zxL h.s h.a h.t];simp only [gq];rw [zI (by simp;omega)];simp only [gq];rw [zI (by simp;omega)];simp only [gq];have L:=zbQ NB (zaK e) (fun a i=>(a,i)) (fun a=>a) e.2.2.1 (ze5 e.2.1.1 [97,116]) (fun d i x f m=>by
   have b:=znF f;obtain ⟨c,n,l⟩:=ztN h.b (zn5 f);obtain ⟨t,k,p,j⟩:=zqh h.s n l;have r:=zqF c;rw [nbv] at m;unfold zaK;simp only [zo2,f,gq,k];rw [if_pos (by simp;omega),zI (by simp;omega)];simp only [gq];rw [zI (by simp;omega),zvC c];simp only [gq];rw [zI (by simp;omega)];simp only [gq];rw [zI (by simp;omega)];simp only [gq];have e:[97,116,32]++t.1++[32]++ptT x.1++[10]=ze5 e.2.1.1 [97,116] x:=by unfold ze5;rw [j];rfl
   rw [e,zI (by omega)];simp only [gq];rw [zda b (by omega)]) (fun d=>by unfold zaK;simp) ([101,110,116,114,121,32]++e.1++[10]++zvu e.2.1++[101,110,100,10]) (by rw [nbv];simp only [dl,dm,dx];omega)
 rw [show iter (zaK e) (_,0)=_ from L];simp only [gq];unfold zf8;rw [zvD h.p h.k1 h.k2];simp only [gq];rw [zI (by simp only [dl,dm,dx];omega)];rfl
theorem zvf {e:En} (hs:ES e) (hp:PI e.2.2.2) (ht:I64 e.2.1.2.2):∃ r,zjk e=some r/\ziL e=some r:=by
 obtain ⟨v,s,D,q⟩:=ztQ hs;unfold zjk ziL;rw [s,D];simp only [gq];cases v with
 | false=>exact ⟨[],rfl,rfl⟩
 | true=>
  obtain ⟨y,c2,C,G,E,F⟩:=q rfl;have h:VE e:=⟨y,c2,C,G,E,F,ht,hp⟩;have M:=h.n.2.1;have J:=zvt h.s h.a h.t;have I:=zlN h.s h.b (w:=[97,116]) (by simp);have d:=zs6 h.p h.k1 h.k2;have j:=h.b.1.1;rw [zvG h];simp only [au,ap,if_false,gq];have k:Go.Lib.join [([101,110,116,114,121]:List UInt8),e.1] [32]=[101,110,116,114,121,32]++e.1:=by rw [zlp];simp
  rw [zpg _ (by simp) (by rw [k,nbv];simp;omega),k];simp only [gq];rw [zbj (by rw [zH];simp;omega),zye h.s h.a h.t];simp only [gq,fh];rw [zbj (by rw [zH,zH];simp;omega)];simp only [gq];have l:Go.Lib.join [([101,110,100]:List UInt8)] [32]=[101,110,100]:=by rw [zlp];rfl
  rw [zpg _ (by simp) (by rw [l,nbv];simp),l];simp only [gq];rw [zbj (by simp only [dl,zH,dm,dx];omega)];simp only [gq];have L:=zbQ NB (zcf e) (fun a i=>(i,a)) (fun a=>a) e.2.2.1 (fun x=>zB (ze5 e.2.1.1 [97,116] x)) (fun f i x g m=>by
    have c:=znF g;obtain ⟨d,H,u⟩:=ztN h.b (zn5 g);obtain ⟨t,B,n,p⟩:=zqh h.s H u;have A:=zqF d;rw [nbv] at m;unfold zcf;simp only [zo2,g,gq,B];rw [if_pos (by simp;omega),zwd d];simp only [gq];rw [zA1 (by simp) n A];simp only [gq];have e:[97,116]++[32]++t.1++[32]++ptT x.1++[10]=ze5 e.2.1.1 [97,116] x:=by unfold ze5;rw [p]
    rw [e,zbj m];simp only [gq];rw [zda c (by omega)]) (fun f=>by unfold zcf;simp) (zB ([101,110,116,114,121,32]++e.1++[10])++zB (zvu e.2.1)++zB ([101,110,100]++[10])) (by
    rw [zS,nbv];simp only [dl,zH,dm,dx];omega)
  rw [show iter (zcf e) (0,_)=_ from L,zS];simp only [gq];unfold zjj;rw [zwe h.p h.k1 h.k2];simp only [gq];rw [zbj (by simp only [dl,zH,dm,dx];omega)];simp only [gq];have z:zB ([101,110,116,114,121,32]++e.1++[10])++zB (zvu e.2.1)++zB ([101,110,100]++[10])++zB (e.2.2.1.flatMap (ze5 e.2.1.1 [97,116]))++zB (zmZ e.2.2.2)=zB (ztz e):=by
   unfold ztz;simp only [zcm,be];rfl
  rw [z,zH,zeo];by_cases b:((ztz e).length:Int)>20000
  ·exact ⟨[],by rw [if_pos (by simpa using b)],by rw [if_pos (by simpa using b)]⟩
  ·exact ⟨ztz e,by rw [if_neg (by simpa using b)],by rw [if_neg (by simpa using b)]⟩
theorem entry_law {p:En} (h:EB p) (ht:I64 p.2.1.2.2) (q1:∀ o∈p.2.2.2.2.1,∀ n∈optN o,I64 n) (q2:∀ o∈p.2.2.2.2.2.1,∀ n∈optN o,I64 n) (c1:∀ n∈p.2.2.2.2.2.2.1,I64 n) (f1:∀ l∈p.2.2.2.2.2.2.2,∀ n∈l,I64 n) :
  zfN p=some true:=by
 obtain ⟨k,c,a⟩:=zz6 h;unfold zfN;rw [c];simp only [gq];rcases a with h0 | ⟨h0,_,hs⟩
 ·rw [if_pos (by simpa using h0)]
 ·rw [if_neg (by simp;omega),zwz hs];simp only [gq];obtain ⟨r,d,b⟩:=zvf hs ⟨q1,q2,c1,f1,hs.2.2.2.2.1,hs.2.2.2.2.2.1,hs.2.2.2.2.2.2.1,hs.2.2.2.2.2.2.2.1,hs.2.2.2.2.2.2.2.2⟩ ht;rw [d,b];simp only [gq];rw [if_neg (by simp),zve hs];rfl
end Go.Lf
