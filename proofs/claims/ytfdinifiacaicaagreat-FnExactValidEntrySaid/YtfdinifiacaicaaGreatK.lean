import Derived.Test.YtfdinifiacaicaaGreatJ
import Derived.Test.YtfdinifiacaicaaGreatB
set_option linter.all false
namespace Go.Lf
open Go Go.Proofs Go.Sort
section
variable {set:TSet} {T ts:List Plc}
theorem zwL {α β:Type} [DecidableEq α] {m:List (α×β)} {k:α} {v:β} {e:α×β} (h:e∈zbC m k v):e=(k,v)\/e∈m:=by
 unfold zbC at h
 split at h
 ·obtain ⟨p,hp,a⟩:=ey.1 h
  split at a
  ·exact .inl a.symm
  ·subst a;exact .inr hp
 ·rcases ek.1 h with h | h
  ·exact .inr h
  ·exact .inl (by simpa using h)
theorem zwH {α β:Type} [DecidableEq α] {m:List (α×β)} {k:α} {v:β} {q:α} (h:q=k\/∃ e∈m,e.1=q):∃ e∈zbC m k v,e.1=q:=by
 unfold zbC
 split
 ·rename_i hm
  obtain ⟨x,c,hd⟩:=bd.1 hm
  have a:x.1=k:=by simpa using hd
  rcases h with rfl | ⟨e,he,rfl⟩
  ·exact ⟨(q,v),ey.2 ⟨x,c,by rw [if_pos a]⟩,rfl⟩
  ·by_cases b:e.1=k
   ·exact ⟨(k,v),ey.2 ⟨e,he,by rw [if_pos b]⟩,b.symm⟩
   ·exact ⟨e,ey.2 ⟨e,he,by rw [if_neg b]⟩,rfl⟩
 ·rcases h with rfl | ⟨e,he,rfl⟩
  ·exact ⟨(q,v),by simp,rfl⟩
  ·exact ⟨e,ep _ he,rfl⟩
theorem zwG {α β:Type} [DecidableEq α] (m:List (α×β)) (k:α) (v:β):(zbC m k v).length<=m.length+1:=by
 unfold zbC;split<;>simp
theorem zwK {α β:Type} [DecidableEq α] {m:List (α×β)} {e:α×β} (h:e∈m):∃ v,zcT m e.1=some v/\(e.1,v)∈m:=by
 unfold zcT
 cases hf:m.find? (fun p=>decide (p.1=e.1)) with
 | none=>exact absurd (List.find?_eq_none.1 hf e h) (by simp)
 | some x=>
  have a:=List.find?_some hf
  have b:x.1=e.1:=by simpa using a
  exact ⟨x.2,rfl,by rw [←b];exact fa hf⟩
def OInv (set:TSet) (t:Int) (T:List Plc) (D:Pt->Prop) (O:List (Pt×List Int)):Prop:=
 (∀ e∈O,e.2=zpd set t T e.1/\e.2≠[]/\D e.1)/\(∀ q,D q->zpd set t T q≠[]->∃ e∈O,e.1=q)
theorem OInv.step {t:Int} {D:Pt->Prop} {O:List (Pt×List Int)} (h:OInv set t T D O) (p:Pt) (d:Int):OInv set t T (fun q=>D q\/q=zC p d) (zly set t T p O d)/\(zly set t T p O d).length<=O.length+1:=by
 unfold zly
 by_cases j:(zpd set t T (zC p d)).length>0
 ·rw [if_pos j]
  refine ⟨⟨fun e g=>?_,fun q f k=>?_⟩,zwG _ _ _⟩
  ·rcases zwL g with rfl | g
   ·exact ⟨rfl,fun i=>by simp only at i;rw [i] at j;simp at j,.inr rfl⟩
   ·obtain ⟨a,b,c⟩:=h.1 e g;exact ⟨a,b,.inl c⟩
  ·refine zwH ?_
   rcases f with f | f
   ·exact .inr (h.2 q f k)
   ·exact .inl f
 ·rw [if_neg j]
  have i:zpd set t T (zC p d)=[]:=bj (by omega)
  have g:zko O (zC p d)=O:=by
   unfold zko
   refine bu.2 fun e g=>?_
   obtain ⟨a,b,c⟩:=h.1 e g
   have:¬e.1=zC p d:=fun l=>b (by rw [a,l];exact i)
   simp [this]
  rw [g]
  refine ⟨⟨fun e g=>?_,fun q f k=>?_⟩,by omega⟩
  ·obtain ⟨a,b,c⟩:=h.1 e g;exact ⟨a,b,.inl c⟩
  ·rcases f with f | f
   ·exact h.2 q f k
   ·subst f;exact absurd i k
theorem OInv.la {t:Int} {D:Pt->Prop} {O:List (Pt×List Int)} (h:OInv set t T D O) (p:Pt):OInv set t T (fun q=>D q\/∃ d,Dir d/\q=zC p d) (laO set t T O p)/\(laO set t T O p).length<=O.length+4:=by
 obtain ⟨l,l0⟩:=h.step p 0
 obtain ⟨k,l1⟩:=l.step p 1
 obtain ⟨j,l2⟩:=k.step p 2
 obtain ⟨g,r⟩:=j.step p 3
 have m:laO set t T O p=zly set t T p (zly set t T p (zly set t T p (zly set t T p O 0) 1) 2) 3:=rfl
 rw [m]
 refine ⟨⟨fun e i=>?_,fun q f n=>?_⟩,by omega⟩
 ·obtain ⟨a,b,c⟩:=g.1 e i
  refine ⟨a,b,?_⟩
  rcases c with (((c | c) | c) | c) | c
  ·exact .inl c
  ·exact .inr ⟨0,.inl rfl,c⟩
  ·exact .inr ⟨1,.inr (.inl rfl),c⟩
  ·exact .inr ⟨2,.inr (.inr (.inl rfl)),c⟩
  ·exact .inr ⟨3,.inr (.inr (.inr rfl)),c⟩
 ·refine g.2 q ?_ n
  rcases f with f | ⟨d,hd,f⟩
  ·exact .inl (.inl (.inl (.inl f)))
  ·rcases hd with rfl | rfl | rfl | rfl
   ·exact .inl (.inl (.inl (.inr f)))
   ·exact .inl (.inl (.inr f))
   ·exact .inl (.inr f)
   ·exact .inr f
theorem zwF (t:Int) (T ts:List Plc):OInv set t T (fun q=>∃ x∈ts,∃ d,Dir d/\q=zC x.1 d) (ts.foldl (fun O x=>laO set t T O x.1) [])/\(ts.foldl (fun O x=>laO set t T O x.1) []).length<=4*ts.length:=by
 have i:∀ (l:List Plc) (D:Pt->Prop) (O:List (Pt×List Int)),OInv set t T D O->OInv set t T (fun q=>D q\/∃ x∈l,∃ d,Dir d/\q=zC x.1 d) (l.foldl (fun O x=>laO set t T O x.1) O)/\(l.foldl (fun O x=>laO set t T O x.1) O).length<=O.length+4*l.length:=by
  intro l
  induction l with
  | nil=>
   intro D O h
   refine ⟨⟨fun e g=>?_,fun q f j=>?_⟩,by simp⟩
   ·obtain ⟨a,b,c⟩:=h.1 e g;exact ⟨a,b,.inl c⟩
   ·rcases f with f | ⟨x,hx,_⟩
    ·exact h.2 q f j
    ·cases hx
  | cons y l ih=>
   intro D O h
   obtain ⟨n,l1⟩:=h.la y.1
   obtain ⟨m,l2⟩:=ih _ _ n
   rw [ce]
   refine ⟨⟨fun e g=>?_,fun q f j=>?_⟩,by rw [dm];omega⟩
   ·obtain ⟨a,b,c⟩:=m.1 e g
    refine ⟨a,b,?_⟩
    rcases c with (c | ⟨d,hd,c⟩) | ⟨x,hx,c⟩
    ·exact .inl c
    ·exact .inr ⟨y,List.mem_cons_self,d,hd,c⟩
    ·exact .inr ⟨x,List.mem_cons_of_mem _ hx,c⟩
   ·refine m.2 q ?_ j
    rcases f with f | ⟨x,hx,c⟩
    ·exact .inl (.inl f)
    ·rcases er.1 hx with rfl | hx
     ·exact .inl (.inr c)
     ·exact .inr ⟨x,hx,c⟩
 have k:OInv set t T (fun _=>False) []:=⟨fun e g=>(by cases g),fun q f=>f.elim⟩
 obtain ⟨h,l⟩:=i ts (fun _=>False) [] k
 refine ⟨⟨fun e g=>?_,fun q f j=>h.2 q (.inr f) j⟩,by simpa using l⟩
 obtain ⟨a,b,c⟩:=h.1 e g
 exact ⟨a,b,c.resolve_left id⟩
instance {T:List Plc} {q:Pt}:Decidable (zvX T q):=inferInstanceAs (Decidable (_/\_))
theorem zwY {t:Int} {T:List Plc} {q:Pt}:zpd set t T q=if zvX T q then atL set t (cat T) q else []:=by
 unfold zpd atL
 by_cases h:zvX T q
 ·rw [if_pos h]
  refine List.filter_congr fun k _=>?_
  unfold zlH
  rw [h.1,decide_eq_true h.2];rfl
 ·rw [if_neg h]
  refine List.filter_eq_nil_iff.2 fun k _=>?_
  unfold zlH
  simp only [an,decide_eq_true_eq]
  exact fun a=>h a.1
theorem zwD {t:Int}:ncO set t ts=[]↔∀ q,zot ts ts q->atL set t (cat ts) q=[]:=by
 obtain ⟨h,_⟩:=zwF (set:=set) t ts ts
 constructor
 ·intro f q ⟨x,g,d,hd,j,hF⟩
  by_cases i:zpd set t ts q=[]
  ·rw [zwY,if_pos hF] at i;exact i
  ·obtain ⟨e,hm,_⟩:=h.2 q ⟨x,g,d,hd,j⟩ i
   have:e∈ncO set t ts:=hm
   rw [f] at this;cases this
 ·intro j
  refine bi.2 fun e f=>?_
  obtain ⟨a,b,x,g,d,hd,c⟩:=h.1 e f
  rw [zwY] at a
  split at a
  ·rename_i hF
   exact b (by rw [a];exact j _ ⟨x,g,d,hd,c,hF⟩)
  ·exact b a
theorem zwE (hS:SetOk set) (hA:zfm set ts) (t:Int):(ncO set t ts).length<=2000/\∀ e∈ncO set t ts,1<=e.2.length/\e.2.length<=160:=by
 obtain ⟨h,l⟩:=zwF (set:=set) t ts ts
 have:=(zjg hA).len
 refine ⟨ga l (by omega),fun e d=>?_⟩
 obtain ⟨a,b,_⟩:=h.1 e d
 have c:=zwZ set t ts e.1
 have g:=hS.tiles
 rw [←a] at c
 exact ⟨Nat.pos_of_ne_zero fun f=>b (bj f),by omega⟩
theorem zxb (hS:SetOk set) (hA:zfm set ts) (s0:List Plc) (t:Int):∃ c,zha ((set,s0,t),ts,ncO set t ts)=some c/\(c=0↔ncO set t ts=[]):=by
 obtain ⟨g,f⟩:=zwE hS hA t
 revert g f
 generalize ncO set t ts=O
 intro g f
 have key:∀ l:List (Pt×List Int),(∀ e∈l,1<=e.2.length/\e.2.length<=160)->(l.length:Int)<=(l.map fun p=>(p.2.length:Int)).sum/\(l.map fun p=>(p.2.length:Int)).sum<=160*(l.length:Int):=by
  intro l
  induction l with
  | nil=>intro _;simp
  | cons x l ih=>
   intro h
   obtain ⟨a,b⟩:=h x List.mem_cons_self
   obtain ⟨c,d⟩:=ih fun e j=>h e (List.mem_cons_of_mem _ j)
   rw [eh,List.sum_cons,dm]
   omega
 obtain ⟨k1,k2⟩:=key O f
 refine ⟨_,rfl,?_⟩
 have i:w64 ((O.map fun p=>(p.2.length:Int)).sum)=(O.map fun p=>(p.2.length:Int)).sum:=zw (by omega) (by omega)
 simp only [i]
 constructor
 ·intro k;exact bj (by omega)
 ·rintro rfl;rfl
theorem zxN (hS:SetOk set) (hA:zfm set ts) (s0:List Plc) (t:Int):∃ l,zdx ((set,s0,t),ts,ncO set t ts)=some l/\(l=[]↔ncO set t ts=[])/\True:=by
 obtain ⟨d,a⟩:=zwE hS hA t
 revert d a
 generalize ncO set t ts=O
 intro d a
 unfold zdx
 rw [if_pos ⟨by simp only;omega,fun p hp=>by have:=(a p hp).2;omega⟩]
 refine ⟨_,rfl,?_,trivial⟩
 have hp:(zsE (O.map Prod.fst)).Perm (O.map Prod.fst):=(zcY zqO _).1
 constructor
 ·intro h
  refine bi.2 fun e c=>?_
  have hm:e.1∈zsE (O.map Prod.fst):=hp.mem_iff.2 (ey.2 ⟨e,c,rfl⟩)
  obtain ⟨v,g,b⟩:=zwK c
  have:=List.flatMap_eq_nil_iff.1 h e.1 hm
  simp only at this
  rw [g] at this
  have f:=(a _ b).1
  simp only [gq,List.map_eq_nil_iff] at this
  rw [this] at f
  simp at f
 ·rintro rfl
  have:=List.Perm.eq_nil hp
  show (zsE (List.map Prod.fst ([]:List (Pt×List Int)))).flatMap _=[]
  rw [this];rfl
end
theorem zrM (l:List Plc) (h:l.length<=2000000) (p:Plc->Option Bool) (q:Plc->Bool) (hp:∀ b∈l,p b=some (q b)) :
  ∃ i:Int,zaH l p=some i/\((i = -1/\∀ b∈l,q b=false)\/(∃ k:Nat,i=k/\k<l.length/\(∀ (j:Nat) b,j<k->l[j]?=some b->q b=false)/\∃ b,l[k]?=some b/\q b=true)):=by
 unfold zaH zbR
 rcases ziF l h p q hp (zbQ l p) (fun i=>rfl) with ⟨c,a⟩ | ⟨k,c,r⟩
 ·rw [c];exact ⟨-1,rfl,.inl ⟨rfl,a⟩⟩
 ·rw [c];exact ⟨k,rfl,.inr ⟨k,rfl,r⟩⟩
theorem zrK (l:List Plc) (h:l.length<=2000000) (p:Plc->Option Bool) (q:Plc->Bool) (hp:∀ b∈l,p b=some (q b)) :
  ∃ i:Int,zdj l p=some i/\((i = -1/\∀ b∈l,q b=false)\/(∃ k:Nat,i=k/\k<l.length/\(∀ (j:Nat) b,j<k->l[j]?=some b->q b=false)/\∃ b,l[k]?=some b/\q b=true)):=by
 unfold zdj zdY
 rcases ziF l h p q hp (zdX l p) (fun i=>rfl) with ⟨c,a⟩ | ⟨k,c,r⟩
 ·rw [c];exact ⟨-1,rfl,.inl ⟨rfl,a⟩⟩
 ·rw [c];exact ⟨k,rfl,.inr ⟨k,rfl,r⟩⟩
theorem zrQ (l:List Plc) (h:l.length<=2000000) (p:Plc->Option Bool) (q:Plc->Bool) (hp:∀ b∈l,p b=some (q b)) :
  zcM l p=some (l.filter fun b=>!q b):=by
 obtain ⟨i,hi,u⟩:=zrM l h p q hp
 unfold zcM
 simp only [hi,gp]
 rcases u with ⟨rfl,e⟩ | ⟨k,rfl,hk,hlow,b,g,hq⟩
 ·rw [if_pos (by simp)]
  congr 1
  symm
  rw [bu]
  intro b g;rw [e b g];rfl
 ·rw [if_neg (by simp)]
  have x:w64 ((k:Int)+1)=(k:Int)+1:=zw (by omega) (by omega)
  rw [x]
  have key:=zA (F:=zbp p) (fun s=>(k:Int)<s.2.2/\s.2.2<=l.length/\s.1.length=l.length/\0<=s.2.1/\s.2.1<s.2.2/\s.1.take s.2.1.toNat=(l.take s.2.2.toNat).filter (fun b=>!q b)/\∀ j,s.2.2.toNat<=j->s.1[j]?=l[j]?)
   (fun s=>(l.length - s.2.2).toNat) (fun z=>z.1.length=l.length/\0<=z.2/\z.2<=l.length/\z.1.take z.2.toNat=l.filter (fun b=>!q b)) ?_ (l,(k:Int),(k:Int)+1) ?_
  ·obtain ⟨⟨y,m⟩,G,E,C,J,A⟩:=key
   simp only at E C J A
   rw [G]
   simp only [gp]
   unfold zdC
   have L:clr y m ((0,0),0)=some (y.take m.toNat++List.replicate (y.length - m.toNat) ((0,0),0)):=by unfold clr;rw [if_pos ⟨by omega,by omega⟩]
   have I:(y.take m.toNat).length=m.toNat:=by rw [ed];omega
   have hs:zjI (y.take m.toNat++List.replicate (y.length - m.toNat) ((0,0),0)) 0 m=some (y.take m.toNat):=by
    unfold zjI
    rw [if_pos ⟨by omega,by omega,by rw [dl,I,dy];omega⟩]
    simp only [Int.toNat_zero,List.drop_zero]
    rw [List.take_append_of_le_length (by omega),ft (by omega)]
   rw [L]
   simp only [gp,hs]
   rw [A]
  ·rintro ⟨y,m,j⟩ ⟨g1,g2,g3,g4,g5,g6,g7⟩
   simp only at g1 g2 g3 g4 g5 g6 g7
   obtain ⟨j,rfl⟩:=az (show 0<=j by omega)
   obtain ⟨m,rfl⟩:=az g4
   simp only [ba] at g6 g7
   unfold zbp zbq
   by_cases d:j<l.length
   ·left
    have c:l[j]?=some l[j]:=cm d
    have f:y[j]?=some l[j]:=by rw [g7 j (fz _)];exact c
    have t:=hp l[j] (dj d)
    have H:w64 ((j:Int)+1)=(j:Int)+1:=zw (by omega) (by omega)
    have n:w64 ((m:Int)+1)=(m:Int)+1:=zw (by omega) (by omega)
    have w:y[m]?=some y[m]:=cm (by omega)
    have a:((j:Int)+1).toNat=j+1:=by omega
    have r:((m:Int)+1).toNat=m+1:=by omega
    rw [if_pos (by simp;omega)]
    simp only [zu f,gp,t,H,n,zu w,ba]
    cases hq:q l[j] with
    | false=>
     rw [if_pos (by simp)]
     refine ⟨_,rfl,⟨by simp only [];omega,by simp only [];omega,by simp only [dz];exact g3,by simp only [];omega,by simp only [];omega,?_,fun i hi=>?_⟩,by simp only [];omega⟩
     ·simp only [a,r]
      rw [fp,zW (by omega),fp,c,bp,List.take_set_of_le (by omega),g6]
      simp [hq]
     ·simp only [a] at hi ⊢
      rw [zN (by omega)]
      exact g7 i (by omega)
    | true=>
     rw [if_neg (by simp)]
     refine ⟨_,rfl,⟨by simp only [];omega,by simp only [];omega,g3,by simp only [];omega,by simp only [];omega,?_,fun i hi=>?_⟩,by simp only [];omega⟩
     ·simp only [a,ba]
      rw [g6,fp,c,bp]
      simp [hq]
     ·simp only [a] at hi ⊢
      exact g7 i (by omega)
   ·right
    rw [if_neg (by simp;omega)]
    refine ⟨_,rfl,g3,by simp only [];omega,by simp only [];omega,?_⟩
    simp only [ba]
    rw [g6,show j=l.length by omega,fq]
  ·refine ⟨by simp only [];omega,by simp only [];omega,rfl,by simp only [];omega,by simp only [];omega,?_,fun j B=>rfl⟩
   simp only [ba]
   rw [show ((k:Int)+1).toNat=k+1 by omega,fp,g,bp,zmF fun j D B v=>by rw [hlow j D B v];rfl]
   simp [hq]
def sh (d:Int):Int:=if d=0 then 1 else if d=1 then 2 else if d=2 then 4 else 8
def bt (b:Bool) (v:Int):Int:=if b then v else 0
def mk4 (b:Int->Bool):Int:=bt (b 0) 1+bt (b 1) 2+bt (b 2) 4+bt (b 3) 8
theorem zuJ {d:Int} (hd:Dir d):zt8 .i64 1 d=some (sh d):=by rcases hd with rfl | rfl | rfl | rfl<;>rfl
theorem zwf {d:Int} (hd:Dir d):1<=sh d/\sh d<=8:=by rcases hd with rfl | rfl | rfl | rfl<;>exact ⟨by decide,by decide⟩
theorem zxJ (b:Int->Bool) {d:Int} (hd:Dir d):(ztm .i64 (mk4 b) d).map (fun v=>decide (zrP .i64 v 1=1))=some (b d):=by
 unfold mk4
 rcases hd with rfl | rfl | rfl | rfl<;>(generalize b 0=x;generalize b 1=y;generalize b 2=z;generalize b 3=u;cases x<;>cases y<;>cases z<;>cases u<;>rfl)
theorem zsI (b:Int->Bool) {d:Int} (hd:Dir d):∃ v,ztm .i64 (mk4 b) d=some v/\decide (zrP .i64 v 1=1)=b d:=by
 have h:=zxJ b hd
 cases hv:ztm .i64 (mk4 b) d with
 | none=>rw [hv] at h;cases h
 | some v=>rw [hv] at h;exact ⟨v,rfl,Option.some.inj h⟩
theorem zuY (b:Int->Bool) {d:Int} (hd:Dir d):zni (mk4 b) d=some (b d):=by
 obtain ⟨v,a,c⟩:=zsI b hd
 unfold zni
 rw [a,gp,c]
def orb (b:Bool) (m s:Int):Int:=if b then ior .i64 m s else m
theorem zwB (b:Int->Bool):orb (b 3) (orb (b 2) (orb (b 1) (orb (b 0) 0 (sh 0)) (sh 1)) (sh 2)) (sh 3)=mk4 b:=by
 unfold mk4
 generalize b 0=x;generalize b 1=y;generalize b 2=z;generalize b 3=u
 cases x<;>cases y<;>cases z<;>cases u<;>rfl
theorem zu5 (b:Int->Bool):0+bt (b 0) (sh 0)+bt (b 1) (sh 1)+bt (b 2) (sh 2)+bt (b 3) (sh 3)=mk4 b:=by
 unfold mk4
 generalize b 0=x;generalize b 1=y;generalize b 2=z;generalize b 3=u
 cases x<;>cases y<;>cases z<;>cases u<;>rfl
theorem zrB (b:Bool) {d:Int} (hd:Dir d):0<=bt b (sh d)/\bt b (sh d)<=8:=by
 have:=zwf hd
 unfold bt;split<;>omega
section
variable {set:TSet} {T ts:List Plc}
def bT (set:TSet) (T:List Plc) (o:Plc) (d:Int):Bool:=decide (bdQ set (cat T) o.1 o.2 d>0)
theorem zuf (hS:SetOk set) (h:Cr set T ts) {s0:List Plc} {t:Int} {O:List (Pt×List Int)} {o:Plc} (hp:ptB o.1=true) (hk:TileIx set o.2) (i:Int) (ms ss:List Int) :
  iter (zf6 (set,s0,t) (i,ms,ss,((set,s0,t),T,O)) o) (0,0,0)=some (mk4 (bT set T o),zno set (cat T) o.1 o.2):=by
 have step:∀ (d g m s f:Int),Dir d->g=d+1->0<=s->s<=1000->f=s+bdQ set (cat T) o.1 o.2 d->zf6 (set,s0,t) (i,ms,ss,((set,s0,t),T,O)) o (m,s,d)=some (.inl (orb (bT set T o d) m (sh d),f,g)):=by
  intro d g m s f hd c v k hs'
  obtain ⟨p,_,l⟩:=zmG hd
  have w:=zkI hS h.fok o.1 hk hd
  unfold zf6 zh3
  rw [if_pos (by simpa using p),(zfo hp hd).2]
  simp only [gp]
  unfold zeN
  simp only [gp]
  unfold bT orb
  have a:bdQ set (cat T) o.1 o.2 d=if cat T (zC o.1 d)≥0 then zpk set o.2 d (cat T (zC o.1 d)) else 0:=rfl
  by_cases b:cat T (zC o.1 d)≥0
  ·have j:TileIx set (cat T (zC o.1 d)):=by
    rcases h.fok (zC o.1 d) with k | k
    ·omega
    ·exact k
   rw [if_pos b] at a
   rw [if_pos (by simpa using b),(znp hS hk j hd).2.1]
   simp only [gp]
   rw [←a]
   by_cases e:bdQ set (cat T) o.1 o.2 d>0
   ·rw [if_pos (by simpa using e),zuJ hd,if_pos (by simpa using e),zw (n:=s+_) (by omega) (by omega),l,hs',c]
    rfl
   ·rw [if_neg (by simpa using e),if_neg (by simpa using e),l,hs',c]
    rw [show s+bdQ set (cat T) o.1 o.2 d=s by omega]
  ·rw [if_neg b] at a
   rw [if_neg (by simpa using b),a,l,hs',c,a]
   simp
 have r:=zkI hS h.fok o.1 hk (d:=0) (.inl rfl)
 have q:=zkI hS h.fok o.1 hk (d:=1) (.inr (.inl rfl))
 have u:=zkI hS h.fok o.1 hk (d:=2) (.inr (.inr (.inl rfl)))
 rw [zx (step 0 1 0 0 _ (.inl rfl) rfl (by omega) (by omega) rfl),zx (step 1 2 _ _ _ (.inr (.inl rfl)) rfl (by omega) (by omega) rfl),zx (step 2 3 _ _ _ (.inr (.inr (.inl rfl))) rfl (by omega) (by omega) rfl),zx (step 3 4 _ _ _ (.inr (.inr (.inr rfl))) rfl (by omega) (by omega) rfl),zwB]
 refine zF ?_
 unfold zf6 zno
 rw [if_neg (by simp)]
 simp
theorem zsN (hS:SetOk set) (h:Cr set T ts) {s0:List Plc} {t:Int} {o:Plc} (hp:ptB o.1=true) (hk:TileIx set o.2) (i:Int) (ms ss:List Int) :
  iter (zbL (set,s0,t) (ms,ss,i,ts) o) (0,0)=some (mk4 (bT set T o)):=by
 have step:∀ (d f m:Int),Dir d->f=d+1->0<=m->m<=1000->zbL (set,s0,t) (ms,ss,i,ts) o (m,d)=some (.inl (m+bt (bT set T o d) (sh d),f)):=by
  intro d f m hd c u j
  obtain ⟨l,_,k⟩:=zmG hd
  have p:=zwf hd
  unfold zbL ze6 ze7
  rw [if_pos (by simpa using l),(zfo hp hd).1]
  simp only [gp]
  rw [(h.at _).1]
  simp only [gp]
  unfold bT bt
  have b:bdQ set (cat T) o.1 o.2 d=if cat T (zC o.1 d)≥0 then zpk set o.2 d (cat T (zC o.1 d)) else 0:=rfl
  by_cases a:cat T (zC o.1 d)≥0
  ·have g:TileIx set (cat T (zC o.1 d)):=by
    rcases h.fok (zC o.1 d) with j | j
    ·omega
    ·exact j
   rw [if_pos a] at b
   rw [if_pos (by simpa using a),(znp hS hk g hd).1]
   simp only [gp]
   rw [←b]
   by_cases e:bdQ set (cat T) o.1 o.2 d>0
   ·rw [if_pos (by simpa using e),zuJ hd,if_pos (by simpa using e)]
    simp only [gp]
    rw [zw (n:=m+_) (by omega) (by omega),k,c]
   ·rw [if_neg (by simpa using e),if_neg (by simpa using e),k,c,Int.add_zero]
  ·rw [if_neg a] at b
   rw [if_neg (by simpa using a),b,k,c]
   simp
 have r:=zrB (bT set T o 0) (d:=0) (.inl rfl)
 have q:=zrB (bT set T o 1) (d:=1) (.inr (.inl rfl))
 have s:=zrB (bT set T o 2) (d:=2) (.inr (.inr (.inl rfl)))
 rw [zx (step 0 1 0 (.inl rfl) rfl (by omega) (by omega)),zx (step 1 2 _ (.inr (.inl rfl)) rfl (by omega) (by omega)),zx (step 2 3 _ (.inr (.inr (.inl rfl))) rfl (by omega) (by omega)),zx (step 3 4 _ (.inr (.inr (.inr rfl))) rfl (by omega) (by omega)),zu5]
 refine zF ?_
 unfold zbL
 rw [if_neg (by simp)]
def oI (seq:List Plc) (i:Nat):Plc:=(seq[i]?).getD ((0,0),0)
def TI (T0 seq:List Plc) (i:Nat):List Plc:=plT (seq.take i) T0
def bI (set:TSet) (T0 seq:List Plc) (i:Nat) (d:Int):Bool:=bT set (TI T0 seq i) (oI seq i) d
def mI (set:TSet) (T0 seq:List Plc) (i:Nat):Int:=mk4 (bI set T0 seq i)
def sI (set:TSet) (T0 seq:List Plc) (i:Nat):Int:=zno set (cat (TI T0 seq i)) (oI seq i).1 (oI seq i).2
theorem zpr {α:Type} {l:List α} {i:Nat} {x:α} (h:l[i]?=some x):l.take (i+1)=l.take i++[x]:=by rw [fp,h];rfl
theorem zeZ {t:Int} {seq T0:List Plc} (hp:Played set t T0 seq) {i:Nat} {o:Plc} (hi:seq[i]?=some o) :
  oI seq i=o/\TileIx set o.2/\zlH set t (TI T0 seq i) o.1 o.2=true/\(TI T0 seq i).length<500/\TI T0 seq (i+1)=zbC (TI T0 seq i) o.1 o.2/\plS (seq.take (i+1)) T0=ins (o.1,o.2) (plS (seq.take i) T0)/\ptB o.1=true/\cat (TI T0 seq i) o.1<0:=by
 have b:=zm5 (i+1) hp
 rw [zpr hi] at b
 obtain ⟨_,d,c,e⟩:=zkY.1 b
 have a:=c
 unfold zlH at a
 simp only [an,decide_eq_true_eq] at a
 refine ⟨by unfold oI;rw [hi];rfl,d,c,e,by unfold TI;rw [zpr hi,ztv],by rw [zpr hi,ztw],a.1.1,a.1.2⟩
theorem zcG {t:Int} {seq T0:List Plc} (hc:Cr set T0 T0) (hp:Played set t T0 seq) (i:Nat):Cr set (TI T0 seq i) (plS (seq.take i) T0):=znv hc (zm5 i hp)
theorem zvC (hS:SetOk set) (hA:zfm set ts) {t:Int} {seq:List Plc} (hlen:seq.length<=500) (hp:Played set t ts seq) :
  zhr (set,ts,t) seq=some ((List.range seq.length).map (mI set ts seq),(List.range seq.length).map (sI set ts seq)):=by
 have m:=zjg hA
 have h:=hA.1.1
 have j:zdb ts=some ts:=by unfold zdb;rw [zac (by simp;omega) (by simp;omega)];rfl
 unfold zhr
 simp only
 rw [j]
 simp only [gp]
 have key:=zA (F:=zc1 (set,ts,t) seq) (fun s=>∃ i:Nat,i<=seq.length/\s=((List.range i).map (mI set ts seq),(List.range i).map (sI set ts seq),(i:Int),plS (seq.take i) ts)) (fun s=>(seq.length - s.2.2.1).toNat)
  (fun z=>z=((List.range seq.length).map (mI set ts seq),(List.range seq.length).map (sI set ts seq))) ?_ ([],[],0,ts) ⟨0,by omega,rfl⟩
 ·obtain ⟨z,n,rfl⟩:=key
  rw [n];rfl
 ·rintro s ⟨i,hi,rfl⟩
  by_cases c:i<seq.length
  ·left
   have f:seq[i]?=some seq[i]:=cm c
   generalize seq[i]=o at f
   obtain ⟨k,g,p,r,u,l,b,e⟩:=zeZ hp f
   have a:=zcG m hp i
   have q:=a.len
   unfold zc1 zhq
   rw [if_pos (by simp;omega)]
   simp only [zu f,gp]
   rw [zsN hS a b g]
   simp only [gp]
   rw [zac (by simp;omega) (by simp;omega)]
   simp only [gp]
   rw [zoI hS a.fok b (fun d _=>(a.at _).1) g]
   simp only [gp]
   rw [zac (by simp;omega) (by simp;omega)]
   simp only [gp]
   rw [zth _ (by omega)]
   simp only [gp]
   refine ⟨_,rfl,⟨i+1,by omega,?_⟩,?_⟩
   ·rw [zw (by omega) (by omega),fm,ee,ee,l]
    unfold mI bI sI
    rw [←k]
    rfl
   ·simp only;rw [zw (by omega) (by omega)];omega
  ·right
   have:i=seq.length:=by omega
   subst this
   unfold zc1
   rw [if_neg (by simp)]
   exact ⟨_,rfl,rfl⟩
theorem zxz (hS:SetOk set) (hA:zfm set ts) {t:Int} {seq:List Plc} (hlen:seq.length<=500) (hp:Played set t ts seq) :
  iter (zf7 (set,ts,t) seq) (0,[],[],(set,ts,t),ts,ncO set t ts)=some ((List.range seq.length).map (mI set ts seq),(List.range seq.length).map (sI set ts seq)):=by
 have l:=zjg hA
 have key:=zA (F:=zf7 (set,ts,t) seq) (fun s=>∃ i:Nat,i<=seq.length/\∃ O,s=((i:Int),(List.range i).map (mI set ts seq),(List.range i).map (sI set ts seq),(set,ts,t),TI ts seq i,O)) (fun s=>(seq.length - s.1).toNat)
  (fun z=>z=((List.range seq.length).map (mI set ts seq),(List.range seq.length).map (sI set ts seq))) ?_ (0,[],[],(set,ts,t),ts,ncO set t ts) ⟨0,by omega,_,rfl⟩
 ·obtain ⟨z,n,rfl⟩:=key
  exact n
 ·rintro s ⟨i,hi,O,rfl⟩
  by_cases b:i<seq.length
  ·left
   have e:seq[i]?=some seq[i]:=cm b
   generalize seq[i]=o at e
   obtain ⟨j,g,h,k,m,p,f,d⟩:=zeZ hp e
   have a:=zcG l hp i
   have c:(plS (seq.take i) ts).length<500:=by rw [←a.perm.length_eq];exact k
   unfold zf7 zmo
   rw [if_pos (by simp;omega)]
   simp only [zu e,gp]
   rw [zuf hS a f g]
   simp only [gp]
   rw [zac (by simp;omega) (by simp;omega)]
   simp only [gp]
   rw [zac (by simp;omega) (by simp;omega)]
   simp only [gp]
   rw [zwt hS a h g c]
   simp only [gp]
   refine ⟨_,rfl,⟨i+1,by omega,laO set t (zbC (TI ts seq i) o.1 o.2) (zko O o.1) o.1,?_⟩,?_⟩
   ·rw [zw (by omega) (by omega),fm,ee,ee,m]
    unfold mI bI sI
    rw [←j]
    rfl
   ·simp only;rw [zw (by omega) (by omega)];omega
  ·right
   have:i=seq.length:=by omega
   subst this
   unfold zf7
   rw [if_neg (by simp)]
   exact ⟨_,rfl,rfl⟩
end
section
variable {set:TSet} {T ts:List Plc}
theorem zp6 (a b:Pt):(decide (a.1=b.1)&&decide (a.2=b.2))=decide (a=b):=by
 rw [ao];simp [Prod.ext_iff]
theorem zs1 {n:Nat} {f:Nat->Bool}:(List.range n).any f=true↔∃ j,j<n/\f j=true:=by
 rw [bd]
 exact ⟨fun ⟨j,h,hf⟩=>⟨j,fd.1 h,hf⟩,fun ⟨j,h,hf⟩=>⟨j,fd.2 h,hf⟩⟩
theorem zeo {seq:List Plc} {i:Nat} (h:i<seq.length):seq[i]?=some (oI seq i):=by
 unfold oI;rw [cm h];rfl
section
variable {t:Int} {seq:List Plc} (hA:zfm set ts) (hp:Played set t ts seq)
include hA hp
theorem zuI {i:Nat} {o:Plc} (hi:seq[i]?=some o):TI ts seq (i+1)=TI ts seq i++[(o.1,o.2)]:=by
 obtain ⟨h,c,d,e,f,j,g,b⟩:=zeZ hp hi
 have a:=zcG (zjg hA) hp i
 rw [f]
 exact (a.put d c (by rw [←a.perm.length_eq];exact e)).2
theorem zqE {i:Nat} {x:Plc} (hx:x∈TI ts seq i):∀ r,i+r<=seq.length->x∈TI ts seq (i+r)
 | 0,_=>hx
 | r+1,h=>by
  have hi:seq[i+r]?=some (seq[i+r]'(by omega)):=cm (by omega)
  rw [←Nat.add_assoc,zuI hA hp hi]
  exact ep _ (zqE hx r (by omega))
theorem zsv {i:Nat} {o:Plc} (hi:seq[i]?=some o):∀ x∈TI ts seq i,x.1≠o.1:=by
 obtain ⟨g,e,f,j,k,h,d,a⟩:=zeZ hp hi
 have b:=zcG (zjg hA) hp i
 exact fun x c=>b.free.1 a x (b.perm.mem_iff.1 c)
theorem zyu {i j:Nat} {o o':Plc} (hi:seq[i]?=some o) (hj:seq[j]?=some o') (h:i<j):o.1≠o'.1:=by
 have b:(o.1,o.2)∈TI ts seq (i+1):=by rw [zuI hA hp hi];simp
 have a:=zqE hA hp b (j - (i+1)) (by have:=zz hj;omega)
 rw [show i+1+(j - (i+1))=j by omega] at a
 exact zsv hA hp hj _ a
theorem zyb {i j:Nat} (h:i<j) (hj:j<seq.length):(oI seq i).1≠(oI seq j).1:=zyu hA hp (zeo (by omega)) (zeo hj) h
theorem zq7 {i j:Nat} (hi:i<seq.length) (hj:j<seq.length) (h:(oI seq i).1=(oI seq j).1):i=j:=by
 rcases gi i j with h1 | h1 | h1
 ·exact absurd h (zyb hA hp h1 hj)
 ·exact h1
 ·exact absurd h.symm (zyb hA hp h1 hi)
end
def bO (set:TSet) (T0 seq:List Plc) (i:Nat) (d:Int):Bool:=
 (List.range seq.length).any fun k=>decide (i<k)&&decide ((oI seq k).1=zC (oI seq i).1 d)&&bI set T0 seq k (zkn d)
def mO (set:TSet) (T0 seq:List Plc) (i:Nat):Int:=mk4 (bO set T0 seq i)
theorem zrc {n i:Nat} (f:Nat->Int) (h:i<n):idx ((List.range n).map f) (i:Int)=some (f i):=zu (by rw [cq,cw h];rfl)
section
variable {t:Int} {seq:List Plc} (hA:zfm set ts) (hlen:seq.length<=500) (hp:Played set t ts seq)
include hA hlen hp
theorem zyD {q:Pt} {d mm:Int} (hd:Dir d):∀ (r k:Nat) (m:Int),k+r=seq.length->0<=m->m<=100->
  iter (zQ seq ((List.range seq.length).map (mI set ts seq)) (mm,d) q) (m,(k:Int))=some (m+bt ((List.range seq.length).any fun j=>decide (k<=j)&&decide ((oI seq j).1=q)&&bI set ts seq j (zkn d)) (sh d)):=by
 intro r
 have E:=zwf hd
 induction r with
 | zero=>
  intro k m z x p
  refine zF ?_
  unfold zQ
  rw [if_neg (by simp;omega)]
  have:((List.range seq.length).any fun j=>decide (k<=j)&&decide ((oI seq j).1=q)&&bI set ts seq j (zkn d))=false:=by
   refine Bool.eq_false_iff.2 fun h=>?_
   obtain ⟨j,e,b⟩:=zs1.1 h
   simp only [an,decide_eq_true_eq] at b
   omega
  rw [this]
  simp [bt]
 | succ r ih=>
  intro k m z x p
  have a:k<seq.length:=by omega
  have B:w64 ((k:Int)+1)=((k+1:Nat):Int):=by rw [zw (by omega) (by omega)];omega
  by_cases f:(oI seq k).1=q
  ·have w:((List.range seq.length).any fun j=>decide (k+1<=j)&&decide ((oI seq j).1=q)&&bI set ts seq j (zkn d))=false:=by
    refine Bool.eq_false_iff.2 fun h=>?_
    obtain ⟨j,e,b⟩:=zs1.1 h
    simp only [an,decide_eq_true_eq] at b
    have:=zq7 hA hp a e (by rw [f,b.1.2])
    omega
   have n:((List.range seq.length).any fun j=>decide (k<=j)&&decide ((oI seq j).1=q)&&bI set ts seq j (zkn d))=bI set ts seq k (zkn d):=by
    rw [ao,zs1]
    constructor
    ·rintro ⟨j,e,b⟩
     simp only [an,decide_eq_true_eq] at b
     have:=zq7 hA hp a e (by rw [f,b.1.2])
     subst this;exact b.2
    ·intro h
     exact ⟨k,a,by simp [f,h]⟩
   obtain ⟨v,u,y⟩:=zsI (bI set ts seq k) (zpf hd)
   have C:=zrB (bI set ts seq k (zkn d)) hd
   have c:zQ seq ((List.range seq.length).map (mI set ts seq)) (mm,d) q (m,(k:Int))=some (.inl (m+bt (bI set ts seq k (zkn d)) (sh d),((k+1:Nat):Int))):=by
    unfold zQ zbd zbe
    rw [if_pos (by simp;omega)]
    simp only [zu (zeo a),gp]
    rw [zp6,if_pos (by simpa using f),zrc _ a]
    simp only [gp]
    rw [(zsF hd).1]
    simp only [gp]
    unfold mI
    rw [u]
    simp only [gp]
    rw [y,B]
    cases s:bI set ts seq k (zkn d) with
    | true=>
     rw [if_pos rfl,zuJ hd]
     simp only [gp]
     rw [zw (by omega) (by omega)];rfl
    | false=>
     rw [if_neg (by simp)]
     simp [bt]
   rw [zx c]
   unfold bt at C
   by_cases s:bI set ts seq k (zkn d)=true
   ·
    have g:∀ (r k:Nat) (m:Int),k+r=seq.length->(∀ j,k<=j->j<seq.length->(oI seq j).1≠q)->iter (zQ seq ((List.range seq.length).map (mI set ts seq)) (mm,d) q) (m,(k:Int))=some m:=by
     intro r
     induction r with
     | zero=>
      intro k m z _
      refine zF ?_
      unfold zQ
      rw [if_neg (by simp;omega)]
     | succ r ih2=>
      intro k m z i
      have a:k<seq.length:=by omega
      have A:zQ seq ((List.range seq.length).map (mI set ts seq)) (mm,d) q (m,(k:Int))=some (.inl (m,((k+1:Nat):Int))):=by
       unfold zQ zbd zbe
       rw [if_pos (by simp;omega)]
       simp only [zu (zeo a),gp]
       rw [zp6,if_neg (by simpa using i k (fz _) a),if_neg (by simp)]
       rw [show w64 ((k:Int)+1)=((k+1:Nat):Int) by rw [zw (by omega) (by omega)];omega]
      rw [zx A]
      exact ih2 _ _ (by omega) fun j p t=>i j (by omega) t
    rw [g r (k+1) _ (by omega) fun j p t D=>by have:=zq7 hA hp a t (by rw [f,D]);omega,n]
   ·have l:bI set ts seq k (zkn d)=false:=by simpa using s
    rw [l]
    show iter _ (m+0,_)=_
    rw [Int.add_zero,ih (k+1) m (by omega) x p,w,n,l]
  ·have c:zQ seq ((List.range seq.length).map (mI set ts seq)) (mm,d) q (m,(k:Int))=some (.inl (m,((k+1:Nat):Int))):=by
    unfold zQ zbd zbe
    rw [if_pos (by simp;omega)]
    simp only [zu (zeo a),gp]
    rw [zp6,if_neg (by simpa using f),if_neg (by simp),B]
   rw [zx c,ih (k+1) m (by omega) x p]
   congr 2
   congr 1
   rw [ao,zs1,zs1]
   constructor
   ·rintro ⟨j,e,b⟩
    simp only [an,decide_eq_true_eq] at b
    exact ⟨j,e,by simp only [an,decide_eq_true_eq];exact ⟨⟨by omega,b.1.2⟩,b.2⟩⟩
   ·rintro ⟨j,e,b⟩
    simp only [an,decide_eq_true_eq] at b
    refine ⟨j,e,?_⟩
    simp only [an,decide_eq_true_eq]
    refine ⟨⟨?_,b.1.2⟩,b.2⟩
    rcases gg k j with h | h
    ·exact h
    ·have:j=k:=by omega
     subst this;exact absurd b.1.2 f
theorem zyE {i:Nat} (hi:i<seq.length) (acc:List Int):iter (zbc seq ((List.range seq.length).map (mI set ts seq)) (acc,(i:Int))) (0,0)=some (mO set ts seq i):=by
 obtain ⟨_,_,_,_,_,_,c,_⟩:=zeZ hp (zeo hi)
 have step:∀ (d b m:Int),Dir d->b=d+1->0<=m->m<=100->zbc seq ((List.range seq.length).map (mI set ts seq)) (acc,(i:Int)) (m,d)=some (.inl (m+bt (bO set ts seq i d) (sh d),b)):=by
  intro d b m hd a j g
  obtain ⟨f,_,h⟩:=zmG hd
  unfold zbc zgZ
  rw [if_pos (by simpa using f)]
  simp only [zu (zeo hi),gp]
  rw [(zfo c hd).1]
  simp only [gp]
  have e:w64 ((i:Int)+1)=((i+1:Nat):Int):=by rw [zw (by omega) (by omega)];omega
  rw [e,zyD hA hlen hp hd (seq.length - (i+1)) (i+1) m (by omega) j g]
  simp only [gp]
  rw [h,a]
  rfl
 have l:=zrB (bO set ts seq i 0) (d:=0) (.inl rfl)
 have k:=zrB (bO set ts seq i 1) (d:=1) (.inr (.inl rfl))
 have n:=zrB (bO set ts seq i 2) (d:=2) (.inr (.inr (.inl rfl)))
 rw [zx (step 0 1 0 (.inl rfl) rfl (by omega) (by omega)),zx (step 1 2 _ (.inr (.inl rfl)) rfl (by omega) (by omega)),zx (step 2 3 _ (.inr (.inr (.inl rfl))) rfl (by omega) (by omega)),zx (step 3 4 _ (.inr (.inr (.inr rfl))) rfl (by omega) (by omega)),zu5]
 refine zF ?_
 unfold zbc
 rw [if_neg (by simp)];rfl
theorem zug:zgI seq ((List.range seq.length).map (mI set ts seq))=some ((List.range seq.length).map (mO set ts seq)):=by
 unfold zgI
 have key:=zA (F:=zcA seq ((List.range seq.length).map (mI set ts seq))) (fun s=>∃ i:Nat,i<=seq.length/\s=((List.range i).map (mO set ts seq),(i:Int))) (fun s=>(seq.length - s.2).toNat)
  (fun z=>z=(List.range seq.length).map (mO set ts seq)) ?_ ([],0) ⟨0,by omega,rfl⟩
 ·obtain ⟨z,b,rfl⟩:=key
  rw [b];rfl
 ·rintro s ⟨i,hi,rfl⟩
  by_cases a:i<seq.length
  ·left
   unfold zcA zg0
   rw [if_pos (by simp;omega),zyE hA hlen hp a]
   simp only [gp]
   rw [zac (by simp;omega) (by simp;omega)]
   simp only [gp]
   refine ⟨_,rfl,⟨i+1,by omega,?_⟩,?_⟩
   ·rw [zw (by omega) (by omega),fm,ee];rfl
   ·simp only;rw [zw (by omega) (by omega)];omega
  ·right
   have:i=seq.length:=by omega
   subst this
   unfold zcA
   rw [if_neg (by simp)]
   exact ⟨_,rfl,rfl⟩
theorem zwT {p0:Sy} {fin sl:List _} {i:Nat} (hi:i<seq.length):zdM (p0,seq,fin,(List.range seq.length).map (mI set ts seq),sl) (i:Int)=some (mO set ts seq i):=by
 obtain ⟨_,_,_,_,_,_,s,_⟩:=zeZ hp (zeo hi)
 have step:∀ (d l m:Int),Dir d->l=d+1->zaT (p0,seq,fin,(List.range seq.length).map (mI set ts seq),sl) (i:Int) (m,d)=some (.inl (orb (bO set ts seq i d) m (sh d),l)):=by
  intro d l m hd c
  obtain ⟨v,_,n⟩:=zmG hd
  unfold zaT zci zcj
  rw [if_pos (by simpa using v)]
  simp only [zu (zeo hi),gp]
  rw [(zfo s hd).2]
  simp only [gp]
  unfold zgo
  simp only
  obtain ⟨r,w,p⟩:=zrK seq (by omega) (fun q0=>zck q0 (zC (oI seq i).1 d)) (fun x=>decide (x.1=zC (oI seq i).1 d)) (fun b _=>by unfold zck;rw [zp6])
  rw [w]
  simp only [gp]
  rcases p with ⟨rfl,f⟩ | ⟨k,rfl,hk,hlow,b,hb,hq⟩
  ·have:bO set ts seq i d=false:=by
    refine Bool.eq_false_iff.2 fun h=>?_
    obtain ⟨j,g,a⟩:=zs1.1 h
    simp only [an,decide_eq_true_eq] at a
    have u:=f _ (fc (zeo g))
    simp only [decide_eq_false_iff_not] at u
    exact u a.1.2
   rw [if_neg (by simp),if_neg (by simp),this,n,c];rfl
  ·have q:oI seq k=b:=by unfold oI;rw [hb];rfl
   have e:(oI seq k).1=zC (oI seq i).1 d:=by rw [q];simpa using hq
   by_cases t:i<k
   ·have:bO set ts seq i d=bI set ts seq k (zkn d):=by
     unfold bO
     rw [ao,zs1]
     constructor
     ·rintro ⟨j,g,a⟩
      simp only [an,decide_eq_true_eq] at a
      have:=zq7 hA hp hk g (by rw [e,a.1.2])
      subst this;exact a.2
     ·intro h
      exact ⟨k,hk,by simp [e,h,t]⟩
    rw [if_pos (by simp;omega),zrc _ hk]
    simp only [gp]
    rw [(zsF hd).2.1]
    simp only [gp]
    unfold mI
    rw [zuY _ (zpf hd)]
    simp only [gp]
    rw [←this,n,c]
    cases hbb:bO set ts seq i d with
    | true=>rw [if_pos rfl,zuJ hd];rfl
    | false=>rw [if_neg (by simp)];rfl
   ·have:bO set ts seq i d=false:=by
     refine Bool.eq_false_iff.2 fun h=>?_
     obtain ⟨j,g,a⟩:=zs1.1 h
     simp only [an,decide_eq_true_eq] at a
     have:=zq7 hA hp hk g (by rw [e,a.1.2])
     omega
    rw [if_neg (by simp;omega),if_neg (by simp),this,n,c];rfl
 unfold zdM zes
 rw [zx (step 0 1 0 (.inl rfl) rfl),zx (step 1 2 _ (.inr (.inl rfl)) rfl),zx (step 2 3 _ (.inr (.inr (.inl rfl))) rfl),zx (step 3 4 _ (.inr (.inr (.inr rfl))) rfl),zwB]
 rw [zF (x:=mk4 (bO set ts seq i)) (by unfold zaT;rw [if_neg (by simp)])]
 rfl
end
end
section
variable {set:TSet} {T ts:List Plc}
theorem zxP {ts:List Plc} (hs:Srt ts) (hl:ts.length<=1048576) (p:Pt):∃ (k:Nat) (b:Bool),z2 ts p (fun q0 f=>zZ q0 f)=some ((k:Int),b)/\((b=true/\∃ x,ts[k]?=some x/\x.1=p)\/(b=false/\∀ x∈ts,x.1≠p)):=by
 have i:∀ x:Plc,zZ x p=some (ztW x.1 p):=fun x=>by unfold zZ;rw [zrn];rfl
 have key:=zuA hs hl (p:=p) (F:=zK ts p fun q0 f=>zZ q0 f) ?_ ?_
 ·obtain ⟨k,s,t,h,g⟩:=key
  unfold z2 zaq
  simp only [s,gp]
  by_cases c:k<ts.length
  ·have d:ts[k]?=some ts[k]:=cm c
   rw [if_pos (by simp [c])]
   simp only [zu d,gp,i]
   by_cases e:ts[k].1=p
   ·exact ⟨k,true,by simp [znx,e],.inl ⟨rfl,_,d,e⟩⟩
   ·exact ⟨k,false,by simp [znx,e],.inr ⟨rfl,zp1 hs h g fun x a=>by rw [d] at a;injection a with a;subst a;exact e⟩⟩
  ·rw [if_neg (by simp;omega)]
   exact ⟨k,false,rfl,.inr ⟨rfl,zp1 hs h g fun x a=>by have:=zz a;omega⟩⟩
 ·intro lo hi x c q d
  unfold zK
  have l:w64 ((lo:Int)+(hi:Int))=((lo+hi:Nat):Int):=by rw [zw (by omega) (by omega)];omega
  have j:IntKind.wrap .u64 ((lo+hi:Nat):Int)=((lo+hi:Nat):Int):=by
   show ((lo+hi:Nat):Int) % 18446744073709551616=((lo+hi:Nat):Int)
   omega
  have r:Int.fdiv ((lo+hi:Nat):Int) (2 ^ 1)=(((lo+hi) / 2:Nat):Int):=by
   rw [Int.fdiv_eq_ediv_of_nonneg _ (by omega)];omega
  have m:w64 (((lo+hi) / 2:Nat):Int)=(((lo+hi) / 2:Nat):Int):=zw (by omega) (by omega)
  have n:w64 ((((lo+hi) / 2:Nat):Int)+1)=(((lo+hi) / 2+1:Nat):Int):=by rw [zw (by omega) (by omega)];omega
  rw [if_pos (by simp [c])]
  simp only [l,j,r,m,n,zu d,gp,i,zpi]
  cases lp x.1 p<;>rfl
 ·intro lo
  unfold zK
  rw [if_neg (by simp)]
theorem zum (h:Cr set T ts) (p:Pt):zec ts p=some (cat T p):=by
 have g:=h.len
 obtain ⟨k,b,f,a⟩:=zxP h.pw.srt (by omega) p
 unfold zec
 rw [f]
 simp only [gp]
 have c:=(zny T p).perm h.perm
 rcases a with ⟨rfl,x,d,e⟩ | ⟨rfl,hn⟩
 ·rw [if_pos rfl,zu d]
  simp only [gp]
  congr 1
  exact AtV.uniq h.pw (.inl ⟨x.2,rfl,by rw [←e];exact fc d⟩) c
 ·rw [if_neg (by simp)]
  congr 1
  exact AtV.uniq h.pw (.inr ⟨rfl,hn⟩) c
theorem Cr.sub (h:Cr set T ts) (f:Plc->Bool):Cr set (ts.filter f) (ts.filter f) where
 perm:=.refl _
 pw:=h.pw.filter f
 ok:=fun x hx=>h.ok x (eu.1 hx).1
 len:=ga (du _ _) h.len
theorem Cr.asm (hS:SetOk set) (h:Cr set T ts):zfm set ts:=by
 have g:=hS.tiles
 refine ⟨⟨h.len,fun i hi x d=>?_⟩,fun x d=>(h.ok x d).2⟩
 obtain ⟨a,b,c⟩:=h.ok x (fc d)
 exact ⟨a,b,by omega,fun y f e=>h.pw.srt (i - 1) i y x (by omega) e d⟩
def zlX (p:Pt) (b:Int->Bool) (x:Plc):Bool:=!decide (x.1=p)&&!(b 0&&decide (x.1=zC p 0))&&!(b 1&&decide (x.1=zC p 1))&&!(b 2&&decide (x.1=zC p 2))&&!(b 3&&decide (x.1=zC p 3))
theorem zso {p:Pt} (hp:ptB p=true) (b:Int->Bool) (hl:ts.length<=500):zgH ts p (mk4 b)=some (ts.filter (zlX p b)):=by
 have c:∀ (i:Nat) (x:Plc) (a:List Plc),ts[i]?=some x->iter (zbb ts p (mk4 b) ((i:Int),a) x) (!decide (x.1=p),0)=some (zlX p b x):=by
  intro i x a e
  have step:∀ (d j:Int) (r:Bool),Dir d->j=d+1->zbb ts p (mk4 b) ((i:Int),a) x (r,d)=some (.inl (r&&!(b d&&decide (x.1=zC p d)),j)):=by
   intro d j r hd f
   obtain ⟨n,_,m⟩:=zmG hd
   obtain ⟨v,h,g⟩:=zsI b hd
   unfold zbb zee zef
   rw [if_pos (by simpa using n),h]
   simp only [gp]
   rw [g]
   cases hb:b d with
   | true=>
    rw [if_pos rfl]
    simp only [zu e,gp]
    rw [(zfo hp hd).1]
    simp only [gp]
    rw [zp6,m,f]
    cases hq:decide (x.1=zC p d) with
    | true=>rw [if_pos rfl];simp
    | false=>rw [if_neg (by simp)];simp
   | false=>rw [if_neg (by simp),if_neg (by simp),m,f];simp
  rw [zx (step 0 1 _ (.inl rfl) rfl),zx (step 1 2 _ (.inr (.inl rfl)) rfl),zx (step 2 3 _ (.inr (.inr (.inl rfl))) rfl),zx (step 3 4 _ (.inr (.inr (.inr rfl))) rfl)]
  refine zF ?_
  unfold zbb
  rw [if_neg (by simp)];rfl
 have hlen:∀ (i:Nat) (l:List Plc),(l.foldl (fun a x=>if zlX p b x then a++[x] else a) ([]:List Plc)).length<=l.length:=fun i l=>by
  have:=zaP (zlX p b) (fun x:Plc=>x) l []
  rw [this];simp;exact du _ _
 unfold zgH
 have key:=zn9 (F:=zcz ts p (mk4 b)) ts (fun a x=>if zlX p b x then a++[x] else a) [] (by omega) (fun a i x e k=>?_) (fun a k=>?_)
 ·rw [key]
  simp only [gp,zgY]
  have:=zaP (zlX p b) (fun x:Plc=>x) ts []
  rw [this];simp
 ·have q:=zz e
  have s:a.length<=1000:=by rw [k];refine ga (hlen 0 _) ?_;rw [ed];omega
  unfold zcz
  rw [if_pos (by simp;omega)]
  simp only [zu e,gp]
  rw [zp6,c i x a e]
  simp only [gp]
  unfold zgX zeg
  cases zlX p b x with
  | true=>
   rw [if_pos rfl]
   simp only [zu e,gp]
   rw [zac (by simp;omega) (by simp;omega)];rfl
  | false=>rw [if_neg (by simp)];rfl
 ·unfold zcz
  rw [if_neg (by simp)]
theorem ztV (E:List Pt) (h:E.length<=1000) (q:Pt):zdL E q=some (decide (q∈E)):=by
 unfold zdL ziy zgl
 rcases ziF E (by omega) (fun x=>some (decide (q.1=x.1)&&decide (q.2=x.2))) (fun x=>decide (q=x)) (fun x _=>by rw [zp6]) (zgk E q) (fun i=>rfl) with ⟨b,a⟩ | ⟨k,b,hk,hlow,x,hx,hq⟩
 ·rw [b]
  have:¬q∈E:=fun h=>by simpa using a q h
  simp [this]
 ·rw [b]
  have:q∈E:=by
   have c:q=x:=by simpa using hq
   rw [c];exact fc hx
  simp [this]
def apE (b:Bool) (E:List Pt) (q:Pt):List Pt:=if b then E++[q] else E
theorem zmy (b:Bool) (E:List Pt) (q:Pt):(apE b E q).length<=E.length+1:=by unfold apE;split<;>simp
def zut (p:Pt) (b:Int->Bool):List Pt:=apE (b 3) (apE (b 2) (apE (b 1) (apE (b 0) [p] (zC p 0)) (zC p 1)) (zC p 2)) (zC p 3)
theorem zw1 (p:Pt) (b:Int->Bool) (x:Plc):(!decide (x.1∈zut p b))=zlX p b x:=by
 unfold zut zlX apE
 cases b 0<;>cases b 1<;>cases b 2<;>cases b 3<;>simp [Bool.and_assoc]
theorem zw2 (p:Pt) (b:Int->Bool):(zut p b).length<=5:=by
 unfold zut
 have a:=zmy (b 0) [p] (zC p 0)
 have c:=zmy (b 1) (apE (b 0) [p] (zC p 0)) (zC p 1)
 have d:=zmy (b 2) (apE (b 1) (apE (b 0) [p] (zC p 0)) (zC p 1)) (zC p 2)
 have e:=zmy (b 3) (apE (b 2) (apE (b 1) (apE (b 0) [p] (zC p 0)) (zC p 1)) (zC p 2)) (zC p 3)
 simp only [ec] at a
 omega
theorem zsp {p:Pt} (b:Int->Bool) (hl:ts.length<=500):zcQ ts (zut p b)=some (ts.filter (zlX p b)):=by
 unfold zcQ
 rw [zrz ts (by omega)]
 simp only [gp]
 rw [zrQ ts (by omega) _ (fun x=>decide (x.1∈zut p b)) (fun x _=>by
  unfold zdF
  rw [ztV _ (by have:=zw2 p b;omega)];rfl)]
 simp only [gp]
 congr 1
 exact List.filter_congr fun x _=>zw1 p b x
section
variable {t:Int} {seq:List Plc} (hS:SetOk set) (hA:zfm set ts) (hlen:seq.length<=500) (hp:Played set t ts seq)
def zhk (set:TSet) (T0 seq:List Plc) (i:Nat):List Plc:=(plS seq T0).filter (zlX (oI seq i).1 (bO set T0 seq i))
def zs3 (set:TSet) (t:Int) (T0 seq:List Plc) (i:Nat) (k:Int):Prop:=k≠(oI seq i).2/\zno set (cat (zhk set T0 seq i)) (oI seq i).1 k≥t
instance {t:Int} {T0 seq:List Plc} {i:Nat} {k:Int}:Decidable (zs3 set t T0 seq i k):=inferInstanceAs (Decidable (_/\_))
include hS hA hlen hp
theorem zsB (i:Nat):Cr set (zhk set ts seq i) (zhk set ts seq i):=by
 have h:=zcG (zjg hA) hp seq.length
 rw [fq] at h
 exact h.sub _
theorem zuD {i:Nat} (hi:i<seq.length) {s0:List Plc} {sl:List Int} :
  ∃ r,zdN ((set,s0,t),seq,plS seq ts,(List.range seq.length).map (mI set ts seq),sl) (i:Int)=some r/\(r=true↔∃ k,TileIx set k/\zs3 set t ts seq i k):=by
 obtain ⟨_,L,_,_,_,_,p,_⟩:=zeZ hp (zeo hi)
 have l:=zcG (zjg hA) hp seq.length
 rw [fq] at l
 have j:=zsB hS hA hlen hp i
 have O:=hS.tiles
 unfold zdN
 simp only [zu (zeo hi),gp]
 have step:∀ (d w:Int) (E:List Pt),Dir d->w=d+1->E.length<=100->zaV ((set,s0,t),seq,plS seq ts,(List.range seq.length).map (mI set ts seq),sl) (i:Int) (oI seq i) (E,d)=some (.inl (apE (bO set ts seq i d) E (zC (oI seq i).1 d),w)):=by
  intro d w E hd q M
  obtain ⟨J,_,A⟩:=zmG hd
  unfold zaV zcl
  rw [if_pos (by simpa using J),zwT hA hlen hp hi]
  simp only [gp]
  unfold mO
  rw [zuY _ hd]
  simp only [gp]
  unfold apE
  cases bO set ts seq i d with
  | true=>
   rw [if_pos rfl,(zfo p hd).2]
   simp only [gp]
   rw [zac (by simp;omega) (by simp;omega)]
   simp only [gp]
   rw [A,q];rfl
  | false=>rw [if_neg (by simp),A,q];rfl
 have D:=zmy (bO set ts seq i 0) [(oI seq i).1] (zC (oI seq i).1 0)
 have n:=zmy (bO set ts seq i 1) (apE (bO set ts seq i 0) [(oI seq i).1] (zC (oI seq i).1 0)) (zC (oI seq i).1 1)
 have v:=zmy (bO set ts seq i 2) (apE (bO set ts seq i 1) (apE (bO set ts seq i 0) [(oI seq i).1] (zC (oI seq i).1 0)) (zC (oI seq i).1 1)) (zC (oI seq i).1 2)
 simp only [ec] at D
 rw [zx (step 0 1 _ (.inl rfl) rfl (by simp)),zx (step 1 2 _ (.inr (.inl rfl)) rfl (by omega)),zx (step 2 3 _ (.inr (.inr (.inl rfl))) rfl (by omega)),zx (step 3 4 _ (.inr (.inr (.inr rfl))) rfl (by omega))]
 rw [zF (x:=zut (oI seq i).1 (bO set ts seq i)) (by unfold zaV;rw [if_neg (by simp)];rfl)]
 simp only [gp]
 unfold zet
 simp only
 rw [zsp _ l.len]
 simp only [gp]
 have key:=zA (F:=zaU ((set,s0,t),seq,plS seq ts,(List.range seq.length).map (mI set ts seq),sl) (oI seq i) (zhk set ts seq i))
  (fun s=>0<=s/\s<=set.2.length/\∀ k:Int,0<=k->k<s->¬zs3 set t ts seq i k) (fun s=>(set.2.length - s).toNat)
  (fun z=>match z with | .inl _=>∀ k:Int,TileIx set k->¬zs3 set t ts seq i k | .inr b=>b=true/\∃ k,TileIx set k/\zs3 set t ts seq i k) ?_ 0 ⟨by omega,by omega,fun k n v=>by omega⟩
 ·obtain ⟨z,H,j⟩:=key
  show ∃ r,((iter (zaU _ _ (zhk set ts seq i)) 0).bind _)=some r/\_
  rw [H]
  cases z with
  | inl u=>
   refine ⟨false,rfl,?_⟩
   constructor
   ·intro h;cases h
   ·rintro ⟨k,n,v⟩;exact absurd v (j k n)
  | inr b=>exact ⟨b,rfl,fun _=>j.2,fun _=>j.1⟩
 ·rintro k ⟨G,N,y⟩
  unfold zaU zcm
  simp only
  by_cases C:k<set.2.length
  ·rw [if_pos (by simp;omega)]
   have m:TileIx set k:=⟨G,by omega⟩
   have B:w64 (k+1)=k+1:=zw (by omega) (by omega)
   have f:¬zs3 set t ts seq i k->(0<=k+1/\k+1<=set.2.length/\∀ e:Int,0<=e->e<k+1->¬zs3 set t ts seq i e)/\((set.2.length:Int) - (k+1)).toNat<((set.2.length:Int) - k).toNat:=by
    intro c
    refine ⟨⟨by omega,by omega,fun e n v=>?_⟩,by omega⟩
    by_cases I:e=k
    ·subst I;exact c
    ·exact y e n (by omega)
   by_cases a:k=(oI seq i).2
   ·left
    rw [if_neg (by simp [a]),if_neg (by simp),B]
    exact ⟨_,rfl,f fun c=>c.1 a⟩
   ·rw [if_pos (by simp [a]),zo9 hS j.fok p (g:=fun q0=>zec (zhk set ts seq i) q0) (fun d _=>zum j _) m]
    simp only [gp]
    by_cases c:zno set (cat (zhk set ts seq i)) (oI seq i).1 k≥t
    ·right
     rw [if_pos (by simpa using c)]
     exact ⟨_,rfl,rfl,k,m,a,c⟩
    ·left
     rw [if_neg (by simpa using c),B]
     exact ⟨_,rfl,f fun h=>c h.2⟩
  ·right
   rw [if_neg (by simp;omega)]
   exact ⟨_,rfl,fun e h=>y e h.1 (by have:=h.2;omega)⟩
theorem zvT {i:Nat} (hi:i<seq.length):sI set ts seq i<=zno set (cat (zhk set ts seq i)) (oI seq i).1 (oI seq i).2:=by
 obtain ⟨_,u,_,_,_,_,x,_⟩:=zeZ hp (zeo hi)
 have w:=zcG (zjg hA) hp i
 have h:=zcG (zjg hA) hp seq.length
 have t:=zsB hS hA hlen hp i
 have one:∀ d,Dir d->bdQ set (cat (TI ts seq i)) (oI seq i).1 (oI seq i).2 d<=bdQ set (cat (zhk set ts seq i)) (oI seq i).1 (oI seq i).2 d:=by
  intro d hd
  have z:=zkI hS t.fok (oI seq i).1 u hd
  by_cases c:cat (TI ts seq i) (zC (oI seq i).1 d)≥0
  ·rcases zny (TI ts seq i) (zC (oI seq i).1 d) with ⟨v,ev,p⟩ | ⟨e,_⟩
   ·have l:(zC (oI seq i).1 d,v)∈TI ts seq seq.length:=by
     have:=zqE hA hp p (seq.length - i) (by omega)
     rwa [show i+(seq.length - i)=seq.length by omega] at this
    have n:(zC (oI seq i).1 d,v)∈plS seq ts:=by
     have:=h.perm.mem_iff.1 l
     rwa [fq] at this
    have q:zC (oI seq i).1 d≠(oI seq i).1:=zsv hA hp (zeo hi) _ p
    have g:∀ a,bO set ts seq i a=true->zC (oI seq i).1 d≠zC (oI seq i).1 a:=by
     intro a b e
     obtain ⟨k,j,s⟩:=zs1.1 b
     simp only [an,decide_eq_true_eq] at s
     have r:=zqE hA hp p (k - i) (by omega)
     rw [show i+(k - i)=k by omega] at r
     exact zsv hA hp (zeo j) _ r (by rw [s.1.2];exact e)
    have m:(zC (oI seq i).1 d,v)∈zhk set ts seq i:=by
     refine eu.2 ⟨n,?_⟩
     unfold zlX
     have f:∀ a,(!(bO set ts seq i a&&decide (zC (oI seq i).1 d=zC (oI seq i).1 a)))=true:=by
      intro a
      cases b:bO set ts seq i a with
      | false=>rfl
      | true=>simp [g a b]
     simp only
     rw [f 0,f 1,f 2,f 3,decide_eq_false q];rfl
    have y:cat (zhk set ts seq i) (zC (oI seq i).1 d)=cat (TI ts seq i) (zC (oI seq i).1 d):=by
     rw [ev]
     exact AtV.uniq t.pw (zny _ _) (.inl ⟨v,rfl,m⟩)
    unfold bdQ
    rw [y]
    exact Int.le_refl _
   ·omega
  ·have:bdQ set (cat (TI ts seq i)) (oI seq i).1 (oI seq i).2 d=0:=if_neg c
   omega
 unfold sI zno
 have B:=one 0 (.inl rfl)
 have o1:=one 1 (.inr (.inl rfl))
 have o2:=one 2 (.inr (.inr (.inl rfl)))
 have A:=one 3 (.inr (.inr (.inr rfl)))
 omega
theorem zy0 {i:Nat} (hi:i<seq.length) (hs:sI set ts seq i=t):((atL set t (cat (zhk set ts seq i)) (oI seq i).1).length=1↔¬ ∃ k,TileIx set k/\zs3 set t ts seq i k):=by
 obtain ⟨_,s,_⟩:=zeZ hp (zeo hi)
 have q:=zvT hS hA hlen hp hi
 have c:∀ k,k∈atL set t (cat (zhk set ts seq i)) (oI seq i).1↔TileIx set k/\zno set (cat (zhk set ts seq i)) (oI seq i).1 k≥t:=by
  intro k
  unfold atL
  rw [eu,zuU,decide_eq_true_eq]
 have f:(atL set t (cat (zhk set ts seq i)) (oI seq i).1).Pairwise (· ≠ ·):=by
  unfold atL ixs
  refine List.Pairwise.filter _ ?_
  rw [List.pairwise_map]
  exact List.nodup_range.imp fun {a b} h j=>h (by omega)
 have d:(oI seq i).2∈atL set t (cat (zhk set ts seq i)) (oI seq i).1:=(c _).2 ⟨s,by omega⟩
 revert c f d
 generalize hL:atL set t (cat (zhk set ts seq i)) (oI seq i).1=L
 intro c f d
 constructor
 ·rintro p ⟨k,j,v,u⟩
  obtain ⟨a,rfl⟩:=List.length_eq_one_iff.1 p
  have r:=(c k).2 ⟨j,u⟩
  simp only [fe] at r d
  exact v (by rw [r,d])
 ·intro m
  have e:∀ k∈L,k=(oI seq i).2:=fun k g=>Classical.byContradiction fun n=>m ⟨k,((c k).1 g).1,n,((c k).1 g).2⟩
  match L,f,d,e with
  | [],_,d,_=>cases d
  | [a],_,_,_=>rfl
  | a::b::l,f,_,e=>
   have p:=e a (by simp)
   have j:=e b (by simp)
   exact absurd (p.trans j.symm) ((fi.1 f).1 b (by simp))
def zvW (set:TSet) (t:Int) (T0 seq:List Plc) (i:Nat):Prop:=sI set T0 seq i=t/\¬ ∃ k,TileIx set k/\zs3 set t T0 seq i k
theorem zur {s0:List Plc}:∃ z,iter (zdt ((set,s0,t),seq,plS seq ts,(List.range seq.length).map (mI set ts seq),(List.range seq.length).map (sI set ts seq))) 0=some z/\
  match z with | .inl _=>∀ i,i<seq.length->zvW set t ts seq i | .inr f=>f.isSome=true/\∃ i,i<seq.length/\¬zvW set t ts seq i:=by
 refine zA (fun s=>∃ i:Nat,s=(i:Int)/\i<=seq.length/\∀ j,j<i->zvW set t ts seq j) (fun s=>(seq.length - s).toNat) _ ?_ 0 ⟨0,rfl,by omega,fun j h=>by omega⟩
 rintro s ⟨i,rfl,hi,d⟩
 unfold zdt
 simp only
 by_cases a:i<seq.length
 ·rw [if_pos (by simp;omega)]
  simp only [zu (zeo a),gp]
  rw [zrc _ a]
  simp only [gp]
  by_cases hs:sI set ts seq i=t
  ·rw [if_neg (by simp [hs])]
   obtain ⟨r,g,b⟩:=zuD hS hA hlen hp a (s0:=s0) (sl:=(List.range seq.length).map (sI set ts seq))
   rw [g]
   simp only [gp]
   cases r with
   | true=>
    right
    rw [if_pos rfl]
    exact ⟨_,rfl,rfl,i,a,fun h=>h.2 (b.1 rfl)⟩
   | false=>
    left
    rw [if_neg (by simp)]
    refine ⟨_,rfl,⟨i+1,by rw [zw (by omega) (by omega)];omega,by omega,fun j e=>?_⟩,by rw [zw (by omega) (by omega)];omega⟩
    by_cases c:j=i
    ·subst c;exact ⟨hs,fun h=>by have:=b.2 h;cases this⟩
    ·exact d j (by omega)
  ·right
   rw [if_pos (by simp [hs])]
   exact ⟨_,rfl,rfl,i,a,fun h=>hs h.1⟩
 ·right
  rw [if_neg (by simp;omega)]
  exact ⟨_,rfl,fun j e=>d j (by omega)⟩
theorem ztR {s0:List Plc}:∃ z,iter (zfR (set,s0,t) seq ((List.range seq.length).map (mI set ts seq),(List.range seq.length).map (sI set ts seq)) ((List.range seq.length).map (mO set ts seq)) (plS seq ts,0,0)) (0,0,0)=some z/\
  match z with | .inl _=>∀ i,i<seq.length->zvW set t ts seq i | .inr f=>f.1≠0/\∃ i,i<seq.length/\¬zvW set t ts seq i:=by
 refine zA (fun s=>∃ i:Nat,s.1=(i:Int)/\i<=seq.length/\∀ j,j<i->zvW set t ts seq j) (fun s=>((seq.length:Int) - s.1).toNat) _ ?_ (0,0,0) ⟨0,rfl,by omega,fun j h=>by omega⟩
 rintro ⟨s,u⟩ ⟨i,e,hi,hg⟩
 simp only at e
 subst e
 have b:=zcG (zjg hA) hp seq.length
 rw [fq] at b
 unfold zfR
 simp only
 by_cases a:i<seq.length
 ·rw [if_pos (by simp;omega)]
  obtain ⟨_,q,_,_,_,_,g,_⟩:=zeZ hp (zeo a)
  rw [zrc _ a,zrc _ a]
  simp only [zu (zeo a),gp]
  by_cases hs:sI set ts seq i=t
  ·rw [if_neg (by simp [hs])]
   unfold mO
   rw [zso g _ b.len]
   simp only [gp]
   have n:=zsB hS hA hlen hp i
   have c:=zyi hS n.fok (rest:=zhk set ts seq i) g (fun d _=>(n.at _).1) t
   unfold zhk at c
   rw [c]
   simp only [gp]
   have k:=zy0 hS hA hlen hp a hs
   unfold zhk at k
   by_cases m:(atL set t (cat ((plS seq ts).filter (zlX (oI seq i).1 (bO set ts seq i)))) (oI seq i).1).length=1
   ·left
    rw [if_neg (by simp [m])]
    refine ⟨_,rfl,⟨i+1,by simp only;rw [zw (by omega) (by omega)];omega,by omega,fun j p=>?_⟩,by simp only;rw [zw (by omega) (by omega)];omega⟩
    by_cases l:j=i
    ·subst l;exact ⟨hs,k.1 m⟩
    ·exact hg j (by omega)
   ·right
    rw [if_pos (by simp;omega)]
    exact ⟨_,rfl,by simp,i,a,fun h=>m (k.2 h.2)⟩
  ·right
   rw [if_pos (by simp [hs])]
   exact ⟨_,rfl,by simp,i,a,fun h=>hs h.1⟩
 ·right
  rw [if_neg (by simp;omega)]
  exact ⟨_,rfl,fun j p=>hg j (by omega)⟩
theorem zwN (hV:zar (set,ts,t)=some true) (hV':zeh (set,ts,t)=some true) :
  ∃ r,zgv (set,ts,t) seq=some r/\zjZ (set,ts,t) seq=some (decide (r.1=0)):=by
 have D:=hA.1.1
 have e:=zcG (zjg hA) hp seq.length
 rw [fq] at e
 have c:=e.asm hS
 obtain ⟨E,j,_,_,m⟩:=zn8 hS hA t hV hV' seq (by omega)
 obtain rfl:=m hlen hp
 have k:zfT (set,ts,t) seq=some (plS seq ts,0,0):=by
  unfold zfT
  obtain ⟨r,O,v,p,G,w⟩:=zuQ hS hA t hlen
  have B:zdb ts=some ts:=by unfold zdb;rw [zac (by simp;omega) (by simp;omega)];rfl
  simp only
  rw [B]
  simp only [gp]
  rw [w]
  cases r with
  | inl q=>rfl
  | inr z=>
   simp only at p
   cases p with
   | ok h=>rfl
   | bad _ _ _ h0 g=>exact absurd hp g
 obtain ⟨out,o1,o2,F⟩:=zq6 hS (zjg c) ts t
 obtain ⟨l,l1,l2,_⟩:=zxN hS c ts t
 have b:l=[]↔out=[]:=l2.trans (zwD.trans o2.symm)
 obtain ⟨z,A,d⟩:=zur hS hA hlen hp (s0:=ts)
 obtain ⟨s,n,a⟩:=ztR hS hA hlen hp (s0:=ts)
 unfold zgv zjZ zgU zpT
 rw [zvC hS hA hlen hp,j]
 simp only [gp]
 rw [zug hA hlen hp,k]
 simp only [gp]
 rw [n,if_neg (by simp),ziW hS hA ts t]
 simp only [gp]
 rw [zxz hS hA hlen hp]
 simp only [gp,zmp]
 rw [if_neg (by simp)]
 unfold zh1
 rw [A]
 simp only [gp]
 cases z with
 | inl u=>
  cases s with
  | inr f=>obtain ⟨_,i,hi,g⟩:=a;exact absurd (d i hi) g
  | inl u'=>
   simp only
   unfold zfE zim
   simp only
   rw [ziW hS c ts t,o1]
   simp only [gp]
   rw [l1]
   simp only [gp]
   cases out with
   | nil=>
    have C:l=[]:=b.2 rfl
    subst C
    rw [if_neg (by simp),if_neg (by simp)]
    exact ⟨_,rfl,rfl⟩
   | cons x out=>
    cases l with
    | nil=>have:=b.1 rfl;cases this
    | cons y l=>
     rw [if_pos (by simp),if_pos (by simp)]
     exact ⟨_,rfl,rfl⟩
 | inr f=>
  cases s with
  | inl u'=>obtain ⟨_,i,hi,g⟩:=d;exact absurd (a i hi) g
  | inr f'=>
   simp only
   refine ⟨_,rfl,?_⟩
   obtain ⟨v,_⟩:=d
   cases f with
   | none=>cases v
   | some To=>
    obtain ⟨H,o⟩:=To
    have:=a.1
    simp [this]
end
end
theorem zpS {S X:Type} {F G:S->Option (S ⊕ X)} (I:S->Prop) (μ:S->Nat) (R:X->Prop)
  (h:∀ s,I s->(∃ a,F s=some (.inl a)/\G s=some (.inl a)/\I a/\μ a<μ s)\/∃ x,F s=some (.inr x)/\G s=some (.inr x)/\R x) (s:S) (hs:I s):∃ x,iter F s=some x/\iter G s=some x/\R x:=
 zA (F:=F) (fun a=>I a/\iter G s=iter G a) μ (fun x=>iter G s=some x/\R x) (fun a hs'=>by
  rcases h a hs'.1 with ⟨e,b,c,d,hm⟩ | ⟨x,b,c,hR⟩
  ·exact .inl ⟨e,b,⟨d,by rw [hs'.2,zx c]⟩,hm⟩
  ·exact .inr ⟨x,b,by rw [hs'.2,zF c],hR⟩) s ⟨hs,rfl⟩
theorem zw0 {α:Type} {a b:List α} (h:a.length<=2000000) (hl:a.length=b.length) (F:Int->Option (Int ⊕ (Unit ⊕ Bool)))
  (h1:∀ (i:Nat) x,a[i]?=some x->b[i]?=some x->F (i:Int)=some (.inl (w64 ((i:Int)+1))))
  (h2:∀ (i:Nat) x y,a[i]?=some x->b[i]?=some y->x≠y->F (i:Int)=some (.inr (.inr false))) (hs:F (a.length:Int)=some (.inr (.inl ()))) :
  (iter F 0=some (.inl ())/\a=b)\/(iter F 0=some (.inr false)/\a≠b):=by
 have key:=zi3 (fun i=>(i:Int)) 0 a.length (fun i=>a[i]?=b[i]?) F (by omega) (fun i _ hi _ c=>?_) (fun i _ hi _ c=>?_) (fun _=>hs)
 ·rcases key with ⟨g,d⟩ | ⟨g,hn⟩
  ·refine .inl ⟨g,bl fun i=>?_⟩
   by_cases hi:i<a.length
   ·exact d i (by omega) hi
   ·rw [cn (by omega),cn (by omega)]
  ·exact .inr ⟨g,fun e=>hn fun i _ _=>by rw [e]⟩
 ·have f:a[i]?=some a[i]:=cm hi
  have k:=h1 i _ f (c▸f)
  rw [zw (by omega) (by omega)] at k
  exact k
 ·have f:a[i]?=some a[i]:=cm hi
  have j:b[i]?=some (b[i]'(by omega)):=cm (by omega)
  refine h2 i _ _ f j fun e=>c ?_
  rw [f,j,e]
theorem zyB (a b:Plc):((decide (a.1.1=b.1.1)&&decide (a.1.2=b.1.2))&&decide (a.2=b.2))=decide (a=b):=by
 rw [ao];simp [Prod.ext_iff,and_assoc]
theorem zuP (a b:List Plc) (h:a.length<=2000000):zhG a b=some (decide (a=b)):=by
 unfold zhG zjl
 by_cases f:a.length=b.length
 ·rw [if_neg (by simp [f])]
  have key:=zw0 h f (zcX a b) (fun i x c g=>?_) (fun i x y c g d=>?_) ?_
  ·rcases key with ⟨j,e⟩ | ⟨j,e⟩
   ·rw [j];simp [e]
   ·rw [j];simp [e]
  ·unfold zcX
   rw [if_pos (by have:=zz c;simp;omega)]
   simp [zu c,zu g]
  ·unfold zcX
   rw [if_pos (by have:=zz c;simp;omega)]
   simp only [zu c,zu g,gp]
   rw [zyB,if_pos (by simp [d])]
  ·unfold zcX
   rw [if_neg (by simp)]
 ·rw [if_pos (by simp;omega)]
  have:a≠b:=fun e=>f (by rw [e])
  simp [this]
theorem zwv (a b:List Plc) (h:a.length<=2000000):zfk a b=some (decide (a=b)):=by
 have e:ziz a b=zhG a b:=rfl
 unfold zfk
 rw [e,zuP a b h];rfl
theorem zsh (a:List Plc):zeE a []=some (decide ((a.length:Int)=0)):=by
 unfold zeE zg8
 cases a with
 | nil=>
  rw [if_neg (by simp),zF (x:=Sum.inl ()) (by unfold zg7;rw [if_neg (by simp)])]
  rfl
 | cons x a=>rw [if_pos (by simp;omega)];simp;omega
theorem zsg (a:List Int):zeD a []=some (decide ((a.length:Int)=0)):=by
 unfold zeD zg6
 cases a with
 | nil=>
  rw [if_neg (by simp),zF (x:=Sum.inl ()) (by unfold zg5;rw [if_neg (by simp)])]
  rfl
 | cons x a=>rw [if_pos (by simp;omega)];simp;omega
theorem zsf (a:List (List Int)) (f:List Int->List Int->Option Bool):zdK a [] f=some (decide ((a.length:Int)=0)):=by
 unfold zdK zem
 cases a with
 | nil=>
  rw [if_neg (by simp),zF (x:=Sum.inl ()) (by unfold zel;rw [if_neg (by simp)])]
  rfl
 | cons x a=>rw [if_pos (by simp;omega)];simp;omega
theorem zvM (pf:Prf) (h:1<=pf.1/\pf.1<=6):∃ b,zey pf=some b/\zfp pf=some b:=by
 obtain ⟨k,d,a,c,fl⟩:=pf
 simp only at h
 have e:k=1\/k=2\/k=3\/k=4\/k=5\/k=6:=by omega
 have key:∃ b,zfp (k,d,a,c,fl)=some b/\zh9 (zlT (k,d,a,c,fl)) (0,[],[],[],[])=some b:=by
  unfold zh9 zfp
  rcases e with rfl | rfl | rfl | rfl | rfl | rfl
  ·rw [show zlT (1,d,a,c,fl)=(0,[],a,c,fl) from rfl]
   simp only [zsh,zsg,zsf,gp]
   generalize decide ((d.length:Int)=0)=b1
   generalize decide ((a.length:Int)=0)=b2
   generalize decide ((c.length:Int)=0)=b3
   generalize decide ((fl.length:Int)=0)=b4
   cases b1<;>cases b2<;>cases b3<;>cases b4<;>exact ⟨_,rfl,rfl⟩
  ·rw [show zlT (2,d,a,c,fl)=(0,[],a,c,fl) from rfl]
   simp only [zsh,zsg,zsf,gp]
   generalize decide ((d.length:Int)=0)=b1
   generalize decide ((a.length:Int)=0)=b2
   generalize decide ((c.length:Int)=0)=b3
   generalize decide ((fl.length:Int)=0)=b4
   cases b1<;>cases b2<;>cases b3<;>cases b4<;>exact ⟨_,rfl,rfl⟩
  ·rw [show zlT (3,d,a,c,fl)=(0,[],a,c,fl) from rfl]
   simp only [zsh,zsg,zsf,gp]
   generalize decide ((d.length:Int)=0)=b1
   generalize decide ((a.length:Int)=0)=b2
   generalize decide ((c.length:Int)=0)=b3
   generalize decide ((fl.length:Int)=0)=b4
   cases b1<;>cases b2<;>cases b3<;>cases b4<;>exact ⟨_,rfl,rfl⟩
  ·rw [show zlT (4,d,a,c,fl)=(0,[],[],c,fl) from rfl]
   simp only [zsh,zsg,zsf,gp]
   generalize decide ((d.length:Int)=0)=b1
   generalize decide ((a.length:Int)=0)=b2
   generalize decide ((c.length:Int)=0)=b3
   generalize decide ((fl.length:Int)=0)=b4
   cases b1<;>cases b2<;>cases b3<;>cases b4<;>exact ⟨_,rfl,rfl⟩
  ·rw [show zlT (5,d,a,c,fl)=(0,d,a,c,[]) from rfl]
   simp only [zsh,zsg,zsf,gp]
   generalize decide ((d.length:Int)=0)=b1
   generalize decide ((a.length:Int)=0)=b2
   generalize decide ((c.length:Int)=0)=b3
   generalize decide ((fl.length:Int)=0)=b4
   cases b1<;>cases b2<;>cases b3<;>cases b4<;>exact ⟨_,rfl,rfl⟩
  ·rw [show zlT (6,d,a,c,fl)=(0,d,a,[],fl) from rfl]
   simp only [zsh,zsg,zsf,gp]
   generalize decide ((d.length:Int)=0)=b1
   generalize decide ((a.length:Int)=0)=b2
   generalize decide ((c.length:Int)=0)=b3
   generalize decide ((fl.length:Int)=0)=b4
   cases b1<;>cases b2<;>cases b3<;>cases b4<;>exact ⟨_,rfl,rfl⟩
 obtain ⟨b,g,f⟩:=key
 exact ⟨b,f,g⟩
section
variable {set:TSet} {ts asm:List Plc}
theorem ztJ (hS:SetOk set) (hA:zfm set ts) (t:Int) (hV:zar (set,ts,t)=some true) (hV':zeh (set,ts,t)=some true) (hasm:asm.length<=2000000) (seq:List Plc) (hl:seq.length<=2000000) :
  ∃ b,zaj seq (set,ts,t) asm=some b/\zbo (set,ts,t) seq asm=some b/\(b=true->seq.length<=500/\Played set t ts seq/\asm=plS seq ts):=by
 obtain ⟨r,i,g,j,_⟩:=zn8 hS hA t hV hV' seq hl
 unfold zaj zbo
 rw [i,g]
 simp only [gp]
 by_cases c:r.2.2=0
 ·obtain ⟨f,d,e⟩:=j c
  have a:=zcG (zjg hA) d seq.length
  rw [fq,←e] at a
  rw [if_pos (by simpa using c),if_pos (by simpa using c),zwv asm r.1 hasm,zuP r.1 asm (by have:=a.len;omega)]
  refine ⟨decide (r.1=asm),?_,rfl,fun h=>⟨f,d,by rw [←e];exact (of_decide_eq_true h).symm⟩⟩
  simp only [gp]
  rw [decide_eq_decide.2 eq_comm]
 ·rw [if_neg (by simpa using c),if_neg (by simpa using c)]
  exact ⟨false,rfl,rfl,fun h=>by cases h⟩
theorem zxU {bs:List Bd} {fl:List Int} (h:fl.length=bs.length):zfl fl bs=zbO fl bs:=by
 funext s
 unfold zfl zbO
 by_cases a:s.2<(bs.length:Int)
 ·rw [if_pos (by simpa using a),if_pos (by simpa using a)]
  by_cases b:0<=s.2
  ·obtain ⟨x,f,_⟩:=zS (l:=bs) b a
   obtain ⟨y,d,_⟩:=zS (l:=fl) b (by omega)
   simp only [f,d,gp,zbK,zds]
  ·have c:idx bs s.2=none:=by unfold idx;rw [if_neg b]
   have e:idx fl s.2=none:=by unfold idx;rw [if_neg b]
   rw [c,e];rfl
 ·rw [if_neg (by simpa using a),if_neg (by simpa using a)]
theorem zxV (hS:SetOk set) (hA:zfm set asm) {va vs:_} (h1:z1 set asm=some true) (h2:zeT set asm=some 0) {p3:Int} (h3:1<=p3) (h4:p3<=(asm.length:Int) - 1) (fl:List Int) (hva:va=()) (hvs:vs=()) :
  ∃ r,zid set asm 0 p3 fl=some r/\zhK set asm 0 p3 fl=some r:=by
 have Z:=hA.1.1
 have p:w64 ((asm.length:Int) - 1)=(asm.length:Int) - 1:=zw (by omega) (by omega)
 obtain ⟨bs,D,Q,I,b4⟩:=zrD hS hA
 unfold zid zhK zms zaA
 rw [h1,h2]
 simp only [gp,p,zbK,zds]
 have M:decide ((0:Int)<=0/\(0:Int)<=(asm.length:Int) - 1)=true:=decide_eq_true (by omega)
 have E:decide ((0:Int)<=p3/\p3<=(asm.length:Int) - 1)=true:=decide_eq_true (by omega)
 have N:decide ((0:Int)=p3)=false:=decide_eq_false (by omega)
 simp only [M,E,N,au,ap,if_false,zeM,gp,decide_true,zdg]
 rw [D,Q]
 simp only [gp]
 by_cases t:fl.length=bs.length
 ·rw [if_neg (by simp [t]),if_neg (by simp [t]),zlq (by omega) (by omega) (by omega)]
  simp only [gp,ba]
  rw [zxU t]
  have key:=zA (F:=zbO fl bs) (fun s=>0<=s.2/\s.2<=bs.length/\s.1.length=asm.length) (fun s=>(bs.length - s.2).toNat) (fun z=>match z with | .inl y=>y.length=asm.length | .inr r=>True) ?_ (List.replicate asm.length 0,0) ⟨by simp,by simp,by simp⟩
  ·obtain ⟨z,L,O⟩:=key
   rw [L]
   simp only [gp]
   cases z with
   | inr z=>exact ⟨z,rfl,rfl⟩
   | inl y=>
    simp only at O ⊢
    unfold zic zhJ
    have k2:=zpS (F:=zbY 0 p3 y) (G:=zbN asm 0 p3 y) (fun s=>0<=s/\s<=asm.length) (fun s=>(asm.length - s).toNat) (fun _=>True) ?_ 0 ⟨by omega,by omega⟩
    ·obtain ⟨x,T,J,_⟩:=k2
     rw [T,J]
     simp only [gp]
     cases x with
     | inr z=>exact ⟨z,rfl,rfl⟩
     | inl u=>
      simp only
      unfold zib zhI
      obtain ⟨v,b,_⟩:=zS (l:=y) (i:=0) (by omega) (by omega)
      rw [b]
      exact ⟨_,rfl,rfl⟩
    ·rintro s ⟨d,B⟩
     have A:s<asm.length->w64 (s+1)=s+1:=fun h=>zw (by omega) (by omega)
     have H:s<asm.length->∀ v,idx y s=some v->zbY 0 p3 y s=if v≠0/\s≠0/\s≠p3 then some (.inr (.inr (0,10))) else some (.inl (s+1)):=fun h v b=>by
      unfold zbY zdy
      rw [if_pos (by simp;omega),b,A h]
      simp only [gp]
      by_cases e:v=0
      ·simp [e]
      ·by_cases c:s=0
       ·simp [e,c]
       ·by_cases j:s=p3<;>simp [e,c,j]
        all_goals (intro S;omega)
     have C:s<asm.length->∀ v,idx y s=some v->zbN asm 0 p3 y s=if v≠0/\s≠0/\s≠p3 then some (.inr (.inr (0,10))) else some (.inl (s+1)):=fun h v b=>by
      unfold zbN zdf
      rw [p,if_pos (by simp;omega),b,A h]
      simp only [gp]
      by_cases c:s=0
      ·simp [c]
      ·by_cases j:s=p3
       ·simp [c,j]
        all_goals (intro S;omega)
       ·by_cases e:v=0<;>simp [e,c,j]
     by_cases a:s<asm.length
     ·obtain ⟨v,b,_⟩:=zS (l:=y) (i:=s) d (by omega)
      rw [H a v b,C a v b]
      by_cases q:v≠0/\s≠0/\s≠p3
      ·right
       rw [if_pos q]
       exact ⟨_,rfl,rfl,trivial⟩
      ·left
       rw [if_neg q]
       exact ⟨_,rfl,rfl,⟨by omega,by omega⟩,by omega⟩
     ·right
      refine ⟨.inl (),?_,?_,trivial⟩
      ·unfold zbY
       rw [if_neg (by simp;omega)]
      ·unfold zbN
       rw [p,if_neg (by simp;omega)]
  ·rintro ⟨y,i⟩ ⟨d,B,g2⟩
   simp only at d B g2
   unfold zbO
   by_cases a:i<bs.length
   ·obtain ⟨x,R,w⟩:=zS (l:=bs) d a
    obtain ⟨f,m,_⟩:=zS (l:=fl) d (by omega)
    obtain ⟨w0,V,U,X,_⟩:=I _ x w
    rw [if_pos (by simpa using a)]
    simp only [R,m,gp,zds]
    by_cases g:w64 (0 - x.2.2)<=f/\f<=x.2.2
    ·left
     rw [if_neg (by simpa using g)]
     obtain ⟨u,P,_⟩:=zS (l:=y) w0 (by omega)
     simp only [P,gp]
     obtain ⟨Y,k,_⟩:=zS (l:=y.set x.1.toNat (w64 (u+f))) U (by rw [dz];omega)
     simp only [k,gp]
     rw [zw (n:=i+1) (by omega) (by omega)]
     exact ⟨_,rfl,⟨by simp only;omega,by simp only;omega,by simp [g2]⟩,by simp only;omega⟩
    ·right
     rw [if_pos (by simp only [aq,decide_eq_false_iff_not];exact g)]
     exact ⟨_,rfl,trivial⟩
   ·right
    rw [if_neg (by simpa using a)]
    exact ⟨_,rfl,g2⟩
 ·rw [if_pos (by simp;omega),if_pos (by simp;omega)]
  exact ⟨_,rfl,rfl⟩
theorem zwX (hS:SetOk set) (hA:zfm set asm) (h1:z1 set asm=some true) (h2:zeT set asm=some 0) (t:Int) {s0:List Plc} (fl:List (List Int)) :
  ∃ r,zch fl (set,s0,t) asm=some r/\ziO (set,s0,t) asm fl=some r:=by
 have D:=hA.1.1
 have m:w64 ((asm.length:Int) - 1)=(asm.length:Int) - 1:=zw (by omega) (by omega)
 unfold zch ziO zdd zyS
 rw [m]
 have e:(if decide (0>(asm.length:Int) - 1)=true then some (0:Int) else some ((asm.length:Int) - 1))=some (if 0>(asm.length:Int) - 1 then 0 else (asm.length:Int) - 1):=by
  by_cases h:0>(asm.length:Int) - 1<;>simp [h]
 rw [e]
 simp only [gp]
 by_cases b:(fl.length:Int)=if 0>(asm.length:Int) - 1 then 0 else (asm.length:Int) - 1
 ·rw [if_neg (by simp [b]),if_neg (by simp [b])]
  have k2:=zpS (F:=zae fl (set,s0,t) asm) (G:=zcr (set,s0,t) asm fl) (fun s=>0<=s/\s<=fl.length) (fun s=>(fl.length - s).toNat) (fun _=>True) ?_ 0 ⟨by omega,by omega⟩
  ·obtain ⟨x,p,B,_⟩:=k2
   rw [p,B]
   cases x with
   | inr z=>exact ⟨z,rfl,rfl⟩
   | inl u=>exact ⟨_,rfl,rfl⟩
  ·rintro s ⟨w,C⟩
   by_cases a:s<fl.length
   ·obtain ⟨v,g,_⟩:=zS (l:=fl) w a
    have i:w64 (s+1)=s+1:=by
     split at b<;>exact zw (by omega) (by omega)
    have c:1<=s+1/\s+1<=(asm.length:Int) - 1:=by split at b<;>omega
    obtain ⟨r,y,j⟩:=zxV hS hA (va:=()) (vs:=()) h1 h2 c.1 c.2 v rfl rfl
    have A:zae fl (set,s0,t) asm s=if r.2=0/\¬r.1<t then some (.inl (s+1)) else some (.inr (.inr false)):=by
     unfold zae za9
     rw [if_pos (by simpa using a),g]
     simp only [gp]
     rw [i,y]
     simp only [gp]
     by_cases d:r.2=0<;>by_cases f:r.1<t<;>simp [d,f]
     all_goals first | omega | (intro n;omega)
    have k:zcr (set,s0,t) asm fl s=if r.2=0/\¬r.1<t then some (.inl (s+1)) else some (.inr (.inr false)):=by
     unfold zcr zfP
     rw [if_pos (by simpa using a),g]
     simp only [gp]
     rw [i,j]
     simp only [gp]
     by_cases d:r.2=0<;>by_cases f:r.1<t<;>simp [d,f]
     all_goals first | omega | (intro n;omega)
    rw [A,k]
    by_cases q:r.2=0/\¬r.1<t
    ·left
     rw [if_pos q]
     exact ⟨_,rfl,rfl,⟨by omega,by omega⟩,by omega⟩
    ·right
     rw [if_neg q]
     exact ⟨_,rfl,rfl,trivial⟩
   ·right
    refine ⟨.inl (),?_,?_,trivial⟩
    ·unfold zae
     rw [if_neg (by simpa using a)]
    ·unfold zcr
     rw [if_neg (by simpa using a)]
 ·rw [if_pos (by simpa using b),if_pos (by simpa using b)]
  exact ⟨_,rfl,rfl⟩
theorem zuo (l:List Int) (h:l.length<=2000000) (q:Int):zb8 l q=some (decide (q∈l))/\zi8 l q=some (decide (q∈l)):=by
 constructor
 ·unfold zb8 zix zgj
  rcases ziF l h (fun x=>some (decide (q=x))) (fun x=>decide (q=x)) (fun x _=>rfl) (zgi l q) (fun i=>rfl) with ⟨d,a⟩ | ⟨k,d,hk,hlow,x,g,hq⟩
  ·rw [d]
   have:¬q∈l:=fun h=>by simpa using a q h
   simp [this]
  ·rw [d]
   have:q∈l:=by
    have t:q=x:=by simpa using hq
    rw [t];exact fc g
   simp [this]
 ·unfold zi8 zkg
  have key:=zA (F:=zhH l q) (fun s=>0<=s/\s<=l.length/\∀ j:Nat,(j:Int)<s->l[j]?≠some q) (fun s=>(l.length - s).toNat) (fun z=>match z with | .inl _=>¬q∈l | .inr b=>b=true/\q∈l) ?_ 0 ⟨by omega,by omega,fun j f=>by omega⟩
  ·obtain ⟨z,d,m⟩:=key
   rw [d]
   cases z with
   | inl u=>simp only at m;simp [m]
   | inr b=>obtain ⟨rfl,hm⟩:=m;simp [hm]
  ·rintro s ⟨r,v,p⟩
   obtain ⟨k,rfl⟩:=az r
   unfold zhH
   by_cases c:k<l.length
   ·have g:l[k]?=some l[k]:=cm c
    rw [if_pos (by simp;omega)]
    simp only [zu g,gp]
    by_cases e:l[k]=q
    ·right
     rw [if_pos (by simpa using e)]
     exact ⟨_,rfl,rfl,e▸dj c⟩
    ·left
     rw [if_neg (by simpa using e),zw (by omega) (by omega)]
     refine ⟨_,rfl,⟨by omega,by omega,fun j f=>?_⟩,by omega⟩
     by_cases n:j=k
     ·subst n;rw [g];exact fun h=>e (Option.some.inj h)
     ·exact p j (by omega)
   ·right
    rw [if_neg (by simp;omega)]
    refine ⟨_,rfl,fun hm=>?_⟩
    obtain ⟨j,f⟩:=cv hm
    exact p j (by have:=zz f;omega) f
theorem zvP (bs:List Bd) (hb:bs.length<=1000) (p:List Int) (hp:p.length<=2000000):∃ v,zf9 bs p=some v/\zkV bs p=some v:=by
 have q:∀ b:Bd,zdO b p=some (decide (b.1∈p) == decide (b.2.1∈p)):=fun b=>by
  unfold zdO
  rw [(zuo p hp _).1,(zuo p hp _).1];rfl
 unfold zf9 zkV
 rw [zqc bs (by omega)]
 simp only [gp]
 rw [zpg bs (by omega) _ (fun b=>decide (b.1∈p) == decide (b.2.1∈p)) (fun b _=>q b)]
 simp only [gp]
 have f:zgR (bs.filter fun b=>!(decide (b.1∈p) == decide (b.2.1∈p)))=some ((bs.filter fun b=>!(decide (b.1∈p) == decide (b.2.1∈p))).foldl (fun a b=>w64 (a+b.2.2)) 0):=by
  have d:=du (fun b:Bd=>!(decide (b.1∈p) == decide (b.2.1∈p))) bs
  unfold zgR
  rw [zhl (F:=zcH (bs.filter fun b=>!(decide (b.1∈p) == decide (b.2.1∈p)))) (bs.filter fun b=>!(decide (b.1∈p) == decide (b.2.1∈p))) (fun a b=>w64 (a+b.2.2)) 0 (by omega) (fun a i x c _=>?_) (fun a _=>?_)]
  ·rfl
  ·unfold zcH
   rw [if_pos (by have:=zz c;simp;omega)]
   simp only [zu c,gp]
  ·unfold zcH
   rw [if_neg (by simp)]
 have e:iter (zdS bs p) (0,0)=some (bs.foldl (fun a b=>if (!(decide (b.1∈p) == decide (b.2.1∈p)))=true then w64 (a+b.2.2) else a) 0):=by
  refine zhl (F:=zdS bs p) bs (fun a b=>if (!(decide (b.1∈p) == decide (b.2.1∈p)))=true then w64 (a+b.2.2) else a) 0 (by omega) (fun a i x c _=>?_) (fun a _=>?_)
  ·unfold zdS zhF
   rw [if_pos (by have:=zz c;simp;omega)]
   simp only [zu c,gp,(zuo p hp _).2]
   split<;>rfl
  ·unfold zdS
   rw [if_neg (by simp)]
 rw [f,e,List.foldl_filter]
 exact ⟨_,rfl,rfl⟩
theorem zxB (p:List Int) (hp:p.length<=2000000) (hl:asm.length<=500):∃ b,zdz asm p=some b/\zjM asm p=some b/\(b=true->p.length<=asm.length):=by
 have q:w64 ((asm.length:Int) - 1)=(asm.length:Int) - 1:=zw (by omega) (by omega)
 have k2:=zpS (F:=zV asm p) (G:=zaG p 0 ((asm.length:Int) - 1)) (fun s=>0<=s/\s<=p.length/\∀ j:Nat,(j:Int)<s->∃ x,p[j]?=some x/\(j:Int)<=x/\x<=(asm.length:Int) - 1) (fun s=>(p.length - s).toNat) (fun z=>match z with | .inl _=>p.length<=asm.length | .inr b=>b=false) ?_ 0 ⟨by omega,by omega,fun j v=>by omega⟩
 ·obtain ⟨x,E,C,r⟩:=k2
  unfold zdz zjM zln
  rw [q,E,C]
  cases x with
  | inl u=>exact ⟨true,rfl,rfl,fun _=>r⟩
  | inr b=>simp only at r;subst r;exact ⟨false,rfl,rfl,fun h=>by cases h⟩
 ·rintro s ⟨B,I,n⟩
  obtain ⟨k,rfl⟩:=az B
  by_cases i:k<p.length
  ·have d:p[k]?=some p[k]:=cm i
   generalize p[k]=x at d
   have t:w64 ((k:Int)+1)=(k:Int)+1:=zw (by omega) (by omega)
   by_cases A:k=0
   ·subst A
    have l:zV asm p ((0:Nat):Int)=if 0<=x/\x<=(asm.length:Int) - 1 then some (.inl 1) else some (.inr (.inr false)):=by
     unfold zV zaA zal
     rw [if_pos (by simp;omega)]
     simp only [zu d,gp,q,zbK]
     by_cases a:0<=x/\x<=(asm.length:Int) - 1
     ·rw [if_pos a,decide_eq_true a];rfl
     ·rw [if_neg a,decide_eq_false a];rfl
    have g:zaG p 0 ((asm.length:Int) - 1) ((0:Nat):Int)=if 0<=x/\x<=(asm.length:Int) - 1 then some (.inl 1) else some (.inr (.inr false)):=by
     unfold zaG zct
     rw [if_pos (by simp;omega)]
     simp only [zu d,gp,zds]
     by_cases a:0<=x/\x<=(asm.length:Int) - 1
     ·rw [if_pos a,decide_eq_true a];rfl
     ·rw [if_neg a,decide_eq_false a];rfl
    rw [l,g]
    by_cases a:0<=x/\x<=(asm.length:Int) - 1
    ·left
     rw [if_pos a]
     refine ⟨_,rfl,rfl,⟨by omega,by omega,fun j v=>?_⟩,by omega⟩
     have:j=0:=by omega
     subst this
     exact ⟨x,d,by omega,a.2⟩
    ·right
     rw [if_neg a]
     exact ⟨_,rfl,rfl,rfl⟩
   ·obtain ⟨y,D,y0,w⟩:=n (k - 1) (by omega)
    have f:idx p (w64 ((k:Int) - 1))=some y:=by
     rw [zw (by omega) (by omega),show (k:Int) - 1=((k - 1:Nat):Int) by omega];exact zu D
    have e:decide ((k:Int)>0)=true:=decide_eq_true (by omega)
    have l:zV asm p (k:Int)=if (0<=x/\x<=(asm.length:Int) - 1)/\y<x then some (.inl ((k:Int)+1)) else some (.inr (.inr false)):=by
     unfold zV zaA zal
     rw [if_pos (by simp;omega)]
     simp only [zu d,gp,q,zbK,e,f,t]
     by_cases a:0<=x/\x<=(asm.length:Int) - 1
     ·rw [decide_eq_true a]
      by_cases c:y<x
      ·rw [if_pos (show (0<=x/\x<=(asm.length:Int) - 1)/\y<x from ⟨a,c⟩),decide_eq_false (show ¬x<=y by omega)];rfl
      ·rw [if_neg (show ¬((0<=x/\x<=(asm.length:Int) - 1)/\y<x) from fun h=>c h.2),decide_eq_true (show x<=y by omega)];rfl
     ·rw [if_neg (show ¬((0<=x/\x<=(asm.length:Int) - 1)/\y<x) from fun h=>a h.1),decide_eq_false a];rfl
    have g:zaG p 0 ((asm.length:Int) - 1) (k:Int)=if (0<=x/\x<=(asm.length:Int) - 1)/\y<x then some (.inl ((k:Int)+1)) else some (.inr (.inr false)):=by
     unfold zaG zct
     rw [if_pos (by simp;omega)]
     simp only [zu d,gp,zds,e,f,t]
     by_cases a:0<=x/\x<=(asm.length:Int) - 1
     ·rw [decide_eq_true a]
      by_cases c:y<x
      ·rw [if_pos (show (0<=x/\x<=(asm.length:Int) - 1)/\y<x from ⟨a,c⟩),decide_eq_false (show ¬y≥x by omega)];rfl
      ·rw [if_neg (show ¬((0<=x/\x<=(asm.length:Int) - 1)/\y<x) from fun h=>c h.2),decide_eq_true (show y≥x by omega)];rfl
     ·rw [if_neg (show ¬((0<=x/\x<=(asm.length:Int) - 1)/\y<x) from fun h=>a h.1),decide_eq_false a];rfl
    rw [l,g]
    by_cases a:(0<=x/\x<=(asm.length:Int) - 1)/\y<x
    ·left
     rw [if_pos a]
     refine ⟨_,rfl,rfl,⟨by omega,by omega,fun j v=>?_⟩,by omega⟩
     by_cases m:j=k
     ·subst m;exact ⟨x,d,by omega,a.1.2⟩
     ·exact n j (by omega)
    ·right
     rw [if_neg a]
     exact ⟨_,rfl,rfl,rfl⟩
  ·right
   refine ⟨.inl (),?_,?_,?_⟩
   ·unfold zV
    rw [if_neg (by simp;omega)]
   ·unfold zaG
    rw [if_neg (by simp;omega)]
   ·simp only
    by_cases H:p.length=0
    ·omega
    ·obtain ⟨y,_,y0,w⟩:=n (p.length - 1) (by omega)
     omega
theorem zyX (hS:SetOk set) (hA:zfm set asm) (h1:z1 set asm=some true) (t:Int) {s0:List Plc} (p:List Int) (hp:p.length<=2000000) :
  ∃ r,zcN p (set,s0,t) asm=some r/\zkP (set,s0,t) asm p=some r:=by
 obtain ⟨b,e,i,k⟩:=zxB p hp hA.1.1 (asm:=asm)
 obtain ⟨bs,l,c2,n,j⟩:=zrD hS hA
 obtain ⟨v,h,g⟩:=zvP bs j p hp
 unfold zcN ziL zkP zfq
 simp only
 rw [h1,e,i]
 simp only [gp]
 cases b with
 | false=>exact ⟨false,by simp,by simp⟩
 | true=>
  have f:=k rfl
  rw [l,c2]
  simp only [gp]
  rw [h,g]
  refine ⟨if p.length=0 then false else if p.length=asm.length then false else decide (v<t),?_,?_⟩
  ·by_cases a:p.length=0
   ·simp [a]
   ·by_cases c:p.length=asm.length
    ·simp [a,c]
    ·have:p.length<asm.length:=by omega
     have d:0<p.length:=by omega
     simp [a,c,this,d]
  ·by_cases a:p.length=0
   ·simp [a]
   ·by_cases c:p.length=asm.length
    ·simp [a,c]
    ·simp [a,c]
     intro m
     omega
end
section
variable {set:TSet} {ts asm:List Plc}
theorem zx1 (hS:SetOk set) (hA:zfm set ts) (t:Int) (hV:zar (set,ts,t)=some true) (hV':zeh (set,ts,t)=some true) (hasm:asm.length<=2000000) (s1 s2:List Plc) (h1:s1.length<=2000000) (h2:s2.length<=2000000) :
  ∃ b,zbv (s1,s2) (set,ts,t) asm=some b/\zfQ (set,ts,t) s1 s2 asm=some b:=by
 unfold zbv zfQ
 simp only
 by_cases n:s1.length=0
 ·rw [decide_eq_true (show (s1.length:Int)=0 by omega)];exact ⟨false,rfl,rfl⟩
 ·rw [decide_eq_false (show ¬(s1.length:Int)=0 by omega)]
  simp only [ap,if_false]
  by_cases p:s2.length=0
  ·rw [decide_eq_true (show (s2.length:Int)=0 by omega)];exact ⟨false,rfl,rfl⟩
  ·rw [decide_eq_false (show ¬(s2.length:Int)=0 by omega)]
   simp only [ap,if_false]
   obtain ⟨b,d,h,_⟩:=ztJ hS hA t hV hV' hasm s1 h1
   rw [d,h]
   simp only [gp]
   cases b with
   | false=>exact ⟨false,rfl,rfl⟩
   | true=>
    obtain ⟨r,f,a,_⟩:=zn8 hS hA t hV hV' s2 h2
    obtain ⟨x,m,_⟩:=zS (l:=s1) (i:=(s1.length:Int) - 1) (by omega) (by omega)
    obtain ⟨y,e,_⟩:=zS (l:=s2) (i:=(s2.length:Int) - 1) (by omega) (by omega)
    have c:w64 ((s1.length:Int) - 1)=(s1.length:Int) - 1:=zw (by omega) (by omega)
    have j:w64 ((s2.length:Int) - 1)=(s2.length:Int) - 1:=zw (by omega) (by omega)
    unfold zak zb3 ziY
    simp only [au,ap,if_false,c,j]
    rw [f,a]
    simp only [gp,m,e]
    refine ⟨if r.2.2=0 then (if x.1=y.1 then !decide (x.2=y.2) else false) else false,?_,?_⟩<;>rw [zp6]<;>by_cases g:r.2.2=0<;>by_cases k:x.1=y.1<;>simp [g,k]
theorem zrT (hT:Tame set) (hts:ts.length<=1048576) (t:Int) (hasm:asm.length<=1048576) (pf:Prf) (h1:pf.2.1.length<=1048576) (h2:pf.2.2.1.length<=1048576) (h3:pf.2.2.2.1.length<=1048576) :
  ∃ r,zeP (set,ts,t) asm pf=some r/\zgM (set,ts,t) asm pf=some r:=by
 obtain ⟨v,p,q,D⟩:=zqL hT hts t
 unfold zeP zgM zjx zlh
 rw [p,q]
 simp only [gp]
 cases v with
 | false=>exact ⟨1,rfl,rfl⟩
 | true=>
  obtain ⟨hS,hA⟩:=D rfl
  obtain ⟨b,w,C⟩:=znU set hT asm (by omega)
  obtain ⟨c,B,c2⟩:=ztk set hT asm (by omega)
  have x:b=c:=by
   rw [ao,C,c2]
   exact ⟨fun h=>h.2,fun h=>⟨hS,h⟩⟩
  subst x
  rw [w,B]
  simp only [gp,au,ap,if_false]
  cases b with
  | false=>exact ⟨1,rfl,rfl⟩
  | true=>
   have d:=(C.1 rfl).2
   obtain ⟨a,Q,a2,H⟩:=zmP set hT
   have N:a=true:=H.2 hS
   subst N
   have j:zeT set asm=some 0:=by
    unfold zeT
    rw [a2]
    simp only [gp,au,ap,if_false]
    rw [B];rfl
   simp only [zew,zfU,au,ap,if_false,gp,decide_true,zbK,zds]
   by_cases m:1<=pf.1/\pf.1<=6
   ·rw [decide_eq_true m]
    simp only [au,ap,if_false]
    obtain ⟨f,F,M⟩:=zvM pf m
    rw [F,M]
    simp only [gp]
    cases f with
    | false=>exact ⟨10,rfl,rfl⟩
    | true=>
     have key:∃ r,zer (set,ts,t) asm pf=some r/\ziN (set,ts,t) asm pf=some r:=by
      obtain ⟨k,i,G,I,fl⟩:=pf
      simp only at m h1 h2 h3
      have A:k=1\/k=2\/k=3\/k=4\/k=5\/k=6:=by omega
      unfold zer ziN
      obtain ⟨l,l1,l2,J⟩:=ztJ hS hA t p q (asm:=asm) (by omega) i (by omega)
      rcases A with rfl | rfl | rfl | rfl | rfl | rfl
      ·refine ⟨l,by simpa using l1,?_⟩
       simp [l2]
      ·show ∃ r,zbt i (set,ts,t) asm=some r/\((zbo (set,ts,t) i asm).bind fun y=>if y then ((zcU (set,ts,t) asm).bind fun z=>some (decide ((z.length:Int)=0))) else (some false))=some r
       unfold zbt
       rw [l1,l2]
       simp only [gp]
       cases l with
       | false=>exact ⟨false,rfl,rfl⟩
       | true=>
        obtain ⟨n,O,P⟩:=zxb hS d ts t
        obtain ⟨out,o1,o2,_⟩:=zq6 hS (zjg d) ts t
        rw [if_pos rfl,if_pos rfl,ziW hS d ts t,o1]
        simp only [gp]
        rw [O]
        refine ⟨_,rfl,?_⟩
        congr 1
        rw [decide_eq_decide]
        rw [P,zwD,←o2]
        constructor
        ·intro h;exact bj (by omega)
        ·rintro rfl;rfl
      ·show ∃ r,zcg i (set,ts,t) asm=some r/\((zbo (set,ts,t) i asm).bind fun s=>if !s then (some false) else ((zgv (set,ts,t) i).bind fun u=>some (decide (u.1=0))))=some r
       unfold zcg
       rw [l1,l2]
       simp only [gp]
       cases l with
       | false=>exact ⟨false,rfl,rfl⟩
       | true=>
        obtain ⟨L,E,_⟩:=J rfl
        obtain ⟨r,e,g⟩:=zwN hS hA L E p q
        rw [e,g]
        exact ⟨_,rfl,rfl⟩
      ·obtain ⟨r,e,g⟩:=zx1 hS hA t p q (asm:=asm) (by omega) i G (by omega) (by omega)
       refine ⟨r,e,?_⟩
       simp [g]
      ·obtain ⟨r,e,g⟩:=zwX hS d w j t (s0:=ts) fl
       refine ⟨r,e,?_⟩
       simp [g]
      ·obtain ⟨r,e,g⟩:=zyX hS d w t (s0:=ts) I (by omega)
       refine ⟨r,e,?_⟩
       simp [g]
     obtain ⟨r,e,g⟩:=key
     simp only [au,ap,if_false,if_true]
     rw [e,g]
     cases r<;>exact ⟨_,rfl,rfl⟩
   ·rw [decide_eq_false m]
    exact ⟨2,rfl,rfl⟩
end
theorem zpE {α:Type} (l:List α) (h:l.length<=2000000) (F:Int->Option (Int ⊕ (Unit ⊕ Bool))) (h1:∀ (i:Nat) x,l[i]?=some x->F (i:Int)=some (.inl (w64 ((i:Int)+1)))) (hs:F (l.length:Int)=some (.inr (.inl ()))):iter F 0=some (.inl ()):=by
 rcases zw0 h rfl F (fun i x b _=>h1 i x b) (fun i x y b c a=>absurd (Option.some.inj (b.symm.trans c)) a) hs with ⟨d,_⟩ | ⟨_,hn⟩
 ·exact d
 ·exact absurd rfl hn
theorem zwo (l:List Int) (h:l.length<=2000000):ze1 l l=some true:=by
 unfold ze1 ziE
 rw [if_neg (by simp),zpE l h (zd4 l l) (fun i x a=>by unfold zd4;rw [if_pos (by have:=zz a;simp;omega)];simp [zu a]) (by unfold zd4;rw [if_neg (by simp)])]
 rfl
theorem zyw (l:List (List Int)) (h:l.length<=2000000) (hr:∀ x∈l,x.length<=2000000):zh0 l l=some true:=by
 unfold zh0 zhZ
 rw [if_neg (by simp),zpE l h (zdr l l) (fun i x a=>by unfold zdr;rw [if_pos (by have:=zz a;simp;omega)];simp [zu a,zwo x (hr x (fc a))]) (by unfold zdr;rw [if_neg (by simp)])]
 rfl
theorem zyx (l:List ((List UInt8)×Int)) (h:l.length<=2000000):zjU l l=some true:=by
 unfold zjU zjv
 rw [if_neg (by simp),zpE l h (zeJ l l) (fun i x a=>by unfold zeJ znd;rw [if_pos (by have:=zz a;simp;omega)];simp [zu a]) (by unfold zeJ;rw [if_neg (by simp)])]
 rfl
theorem zyv (l:List ((List UInt8)×List Int)) (h:l.length<=2000000) (hr:∀ x∈l,x.2.length<=2000000):zjT l l=some true:=by
 unfold zjT zju
 rw [if_neg (by simp),zpE l h (zeI l l) (fun i x a=>by unfold zeI znc;rw [if_pos (by have:=zz a;simp;omega)];simp [zu a,zwo x.2 (hr x (fc a))]) (by unfold zeI;rw [if_neg (by simp)])]
 rfl
theorem zto (l:List Plc) (h:l.length<=2000000):zhX l l=some true:=by
 unfold zhX zhW
 rw [if_neg (by simp),zpE l h (zdp l l) (fun i x a=>by unfold zdp zlw zhV;rw [if_pos (by have:=zz a;simp;omega)];simp [zu a]) (by unfold zdp;rw [if_neg (by simp)])]
 rfl
theorem ztp (l:List Plc) (h:l.length<=2000000):zfD l l=some true:=by
 unfold zfD zhY
 rw [if_neg (by simp),zpE l h (zdq l l) (fun i x a=>by unfold zdq zlx zhV;rw [if_pos (by have:=zz a;simp;omega)];simp [zu a]) (by unfold zdq;rw [if_neg (by simp)])]
 rfl
theorem zpq {α:Type} (l:List α) (h:l.length<=2000000) (z:α) (F:List α×Int->Option ((List α×Int) ⊕ List α))
  (step:∀ (a:List α) (i:Nat) x y,l[i]?=some x->a[i]?=some y->F (a,(i:Int))=some (.inl (a.set i x,w64 ((i:Int)+1)))) (stop:∀ a,F (a,(l.length:Int))=some (.inr a)):iter F (List.replicate l.length z,0)=some l:=by
 have key:=zA (F:=F) (fun s=>∃ i:Nat,s.2=(i:Int)/\i<=l.length/\s.1.length=l.length/\∀ j,j<i->s.1[j]?=l[j]?) (fun s=>((l.length:Int) - s.2).toNat) (fun x=>x=l) ?_ (List.replicate l.length z,0) ⟨0,rfl,by omega,by simp,fun j d=>by omega⟩
 ·obtain ⟨x,g,rfl⟩:=key;exact g
 ·rintro ⟨a,s⟩ ⟨i,e,hi,hl,d⟩
  simp only at e hl d
  subst e
  by_cases b:i<l.length
  ·left
   refine ⟨_,step a i l[i] (a[i]'(by omega)) (cm b) (cm (by omega)),⟨i+1,by simp only;rw [zw (by omega) (by omega)];omega,by omega,by simp [hl],fun j c=>?_⟩,by simp only;rw [zw (by omega) (by omega)];omega⟩
   simp only
   by_cases f:j=i
   ·subst f
    rw [dg (by omega),cm b]
   ·rw [df (by omega)]
    exact d j (by omega)
  ·right
   have:i=l.length:=by omega
   subst this
   exact ⟨a,stop a,bl fun j=>by
    by_cases c:j<l.length
    ·exact d j c
    ·rw [cn (by omega),cn (by omega)]⟩
theorem zv3 (l:List Int) (h:l.length<=2000000):ze0 l=some l:=by
 unfold ze0
 rw [zlq (by omega) (by omega) (by omega)]
 simp only [gp,ba]
 rw [zpq l h 0 (zd3 l) (fun a i x y b c=>by unfold zd3;rw [if_pos (by have:=zz b;simp;omega)];simp [zu b,zu c]) (fun a=>by unfold zd3;rw [if_neg (by simp)])]
 rfl
theorem zyn (l:List (List Int)) (h:l.length<=2000000) (hr:∀ x∈l,x.length<=2000000):zhS l=some l:=by
 unfold zhS
 rw [zlq (by omega) (by omega) (by omega)]
 simp only [gp,ba]
 rw [zpq l h [] (zdo l) (fun a i x y b c=>by unfold zdo;rw [if_pos (by have:=zz b;simp;omega)];simp [zu b,zu c,zv3 x (hr x (fc b))]) (fun a=>by unfold zdo;rw [if_neg (by simp)])]
 rfl
theorem zyo (l:List ((List UInt8)×Int)) (h:l.length<=2000000):zjR l=some l:=by
 unfold zjR
 rw [zlq (by omega) (by omega) (by omega)]
 simp only [gp,ba]
 rw [zpq l h (([]:List UInt8),0) (zeG l) (fun a i x y b c=>by unfold zeG znb;rw [if_pos (by have:=zz b;simp;omega)];simp [zu b,zu c]) (fun a=>by unfold zeG;rw [if_neg (by simp)])]
 rfl
theorem zym (l:List ((List UInt8)×List Int)) (h:l.length<=2000000) (hr:∀ x∈l,x.2.length<=2000000):zjQ l=some l:=by
 unfold zjQ
 rw [zlq (by omega) (by omega) (by omega)]
 simp only [gp,ba]
 rw [zpq l h (([]:List UInt8),[]) (zeF l) (fun a i x y b c=>by unfold zeF zna;rw [if_pos (by have:=zz b;simp;omega)];simp [zu b,zu c,zv3 x.2 (hr x (fc b))]) (fun a=>by unfold zeF;rw [if_neg (by simp)])]
 rfl
theorem zs7 (l:List Plc) (h:l.length<=2000000):zhR l=some l:=by
 unfold zhR
 rw [zlq (by omega) (by omega) (by omega)]
 simp only [gp,ba]
 rw [zpq l h ((0,0),0) (zdm l) (fun a i x y b c=>by unfold zdm zlt zhQ;rw [if_pos (by have:=zz b;simp;omega)];simp [zu b,zu c]) (fun a=>by unfold zdm;rw [if_neg (by simp)])]
 rfl
theorem zs8 (l:List Plc) (h:l.length<=2000000):zfC l=some l:=by
 unfold zfC
 rw [zlq (by omega) (by omega) (by omega)]
 simp only [gp,ba]
 rw [zpq l h ((0,0),0) (zdn l) (fun a i x y b c=>by unfold zdn zlu zhQ;rw [if_pos (by have:=zz b;simp;omega)];simp [zu b,zu c]) (fun a=>by unfold zdn;rw [if_neg (by simp)])]
 rfl
def Mx:Nat:=9223372036854775807
def Sz (o:Option Int) (k:Int) (P:Prop):Prop:=∃ r,o=some r/\(r<0\/(0<=r/\r<=k/\P))
theorem zyp {n:Nat} (hn:n<=Mx) {k:Int} (h0:0<=k) (h1:k<=1048576):w64 (k - (n:Int))=k - (n:Int):=zsr ⟨by unfold Mx at hn;omega,by omega⟩
theorem Sz.bind {o:Option Int} {k:Int} {P Q:Prop} {f:Int->Option Int} (h:Sz o k P) (hf:∀ r,0<=r->r<=k->Sz (f r) r Q):Sz (o.bind fun r=>if decide (r<0) then some (-1) else f r) k (P/\Q):=by
 obtain ⟨r,rfl,d⟩:=h
 simp only [gp]
 rcases d with d | ⟨h0,h1,hP⟩
 ·rw [if_pos (by simpa using d)];exact ⟨-1,rfl,.inl (by omega)⟩
 ·rw [if_neg (by simp;omega)]
  obtain ⟨i,e,g⟩:=hf r h0 h1
  refine ⟨i,e,?_⟩
  rcases g with h | ⟨a,b,c⟩
  ·exact .inl h
  ·exact .inr ⟨a,by omega,hP,c⟩
theorem Sz.fin {k:Int} (h0:0<=k):Sz (some k) k True:=⟨k,rfl,.inr ⟨h0,Int.le_refl _,trivial⟩⟩
theorem Sz.len {n:Nat} (hn:n<=Mx) {k:Int} (h0:0<=k) (h1:k<=1048576) {Q:Prop} {f:Int->Option Int} (hf:∀ r,0<=r->r<=k->n<=1048576->Sz (f r) r Q):Sz (if decide (w64 (k - (n:Int))<0) then some (-1) else f (w64 (k - (n:Int)))) k (n<=1048576/\Q):=by
 rw [zyp hn h0 h1]
 by_cases h:k - (n:Int)<0
 ·rw [if_pos (by simpa using h)];exact ⟨-1,rfl,.inl (by omega)⟩
 ·rw [if_neg (by simpa using h)]
  obtain ⟨g,e,d⟩:=hf (k - (n:Int)) (by omega) (by omega) (by omega)
  refine ⟨g,e,?_⟩
  rcases d with h | ⟨a,b,c⟩
  ·exact .inl h
  ·exact .inr ⟨a,by omega,by omega,c⟩
theorem zyq {α:Type} (l:List α) (hl:l.length<=1048576) {k:Int} (h0:0<=k) (h1:k<=1048576) (s:α->Int->Option Int) (P:α->Prop) (hs:∀ x∈l,∀ k,0<=k->k<=1048576->Sz (s x k) k (P x)) (F:Int×Int->Option ((Int×Int) ⊕ (Int ⊕ Int)))
  (hF:∀ st,F st=if decide (st.2<(l.length:Int)) then ((idx l st.2).bind fun x=>(s x st.1).bind fun r=>if decide (r<0) then (some (.inr (.inr (-1)))) else (some (.inl (r,w64 (st.2+1))))) else (some (.inr (.inl st.1)))) :
  ∃ z,iter F (k,0)=some z/\match z with | .inl r=>0<=r/\r<=k/\∀ x∈l,P x | .inr r=>r<0:=by
 refine zA (F:=F) (fun st=>∃ i:Nat,st.2=(i:Int)/\i<=l.length/\0<=st.1/\st.1<=k/\∀ (j:Nat) x,j<i->l[j]?=some x->P x) (fun st=>((l.length:Int) - st.2).toNat) _ ?_ (k,0) ⟨0,rfl,by omega,h0,by simp,fun j x d=>by omega⟩
 rintro ⟨b,p⟩ ⟨i,e,hi,g0,g1,g2⟩
 simp only at e g0 g1
 subst e
 rw [hF]
 simp only
 by_cases c:i<l.length
 ·have f:l[i]?=some l[i]:=cm c
  rw [if_pos (by simp;omega)]
  simp only [zu f,gp]
  obtain ⟨r,n,m⟩:=hs _ (dj c) b g0 (by omega)
  rw [n]
  simp only [gp]
  rcases m with h | ⟨a1,a2,a3⟩
  ·right
   rw [if_pos (by simpa using h)]
   exact ⟨_,rfl,by simp⟩
  ·left
   rw [if_neg (by simp;omega)]
   refine ⟨_,rfl,⟨i+1,by simp only;rw [zw (by omega) (by omega)];omega,by omega,a1,by simp only;omega,fun j x d a=>?_⟩,by simp only;rw [zw (by omega) (by omega)];omega⟩
   by_cases g:j=i
   ·subst g;rw [f] at a;injection a with a;subst a;exact a3
   ·exact g2 j x (by omega) a
 ·right
  rw [if_neg (by simp;omega)]
  refine ⟨_,rfl,g0,g1,fun x f=>?_⟩
  obtain ⟨j,d⟩:=cv f
  exact g2 j x (by have:=zz d;omega) d
theorem zsx {α:Type} (l:List α) (hl:l.length<=1048576) {k:Int} (h0:0<=k) (h1:k<=1048576) (s:α->Int->Option Int) (P:α->Prop) (hs:∀ x∈l,∀ k,0<=k->k<=1048576->Sz (s x k) k (P x)) (F:Int×Int->Option ((Int×Int) ⊕ (Int ⊕ Int)))
  (hF:∀ st,F st=if decide (st.2<(l.length:Int)) then ((idx l st.2).bind fun x=>(s x st.1).bind fun r=>if decide (r<0) then (some (.inr (.inr (-1)))) else (some (.inl (r,w64 (st.2+1))))) else (some (.inr (.inl st.1)))) :
  Sz ((iter F (k,0)).bind fun x=>match x with | .inl z=>some z | .inr z=>some z) k (∀ x∈l,P x):=by
 obtain ⟨z,b,a⟩:=zyq l hl h0 h1 s P hs F hF
 rw [b]
 cases z with
 | inl r=>exact ⟨r,rfl,.inr a⟩
 | inr r=>exact ⟨r,rfl,.inl a⟩
theorem Sz.mono {o:Option Int} {k:Int} {P Q:Prop} (h:Sz o k P) (hPQ:P->Q):Sz o k Q:=by
 obtain ⟨r,e,h | ⟨a,b,c⟩⟩:=h
 ·exact ⟨r,e,.inl h⟩
 ·exact ⟨r,e,.inr ⟨a,b,hPQ c⟩⟩
theorem zv7 {l:List Plc} (hl:l.length<=Mx) {k:Int} (h0:0<=k) (h1:k<=1048576):Sz (zks l k) k (l.length<=1048576):=
 (Sz.len hl h0 h1 (f:=fun r=>some r) (fun r a _ _=>Sz.fin a)).mono fun h=>h.1
theorem zta {l:List Plc} (hl:l.length<=Mx) {k:Int} (h0:0<=k) (h1:k<=1048576):Sz (zhT l k) k (l.length<=1048576):=
 (Sz.len hl h0 h1 (f:=fun r=>some r) (fun r a _ _=>Sz.fin a)).mono fun h=>h.1
theorem zv8 {l:List Int} (hl:l.length<=Mx) {k:Int} (h0:0<=k) (h1:k<=1048576):Sz (zdE l k) k (l.length<=1048576):=
 (Sz.len hl h0 h1 (f:=fun r=>some r) (fun r a _ _=>Sz.fin a)).mono fun h=>h.1
theorem zyt {x:(List UInt8)×Int} (hl:x.1.length<=Mx) {k:Int} (h0:0<=k) (h1:k<=1048576):Sz (zk6 x k) k (x.1.length<=1048576):=
 (Sz.len hl h0 h1 (f:=fun r=>some r) (fun r a _ _=>Sz.fin a)).mono fun h=>h.1
theorem zyr {x:(List UInt8)×List Int} (hl:x.1.length<=Mx) (hl2:x.2.length<=Mx) {k:Int} (h0:0<=k) (h1:k<=1048576):Sz (zk4 x k) k (x.1.length<=1048576/\x.2.length<=1048576):=
 (Sz.len hl h0 h1 (f:=fun r=>(zdE x.2 r).bind fun c=>if decide (c<0) then (some (-1)) else (some c)) (fun r a b _=>(zv8 hl2 a (by omega)).bind fun r a _=>Sz.fin a)).mono fun h=>⟨h.1,h.2.1⟩
theorem zxl {l:List ((List UInt8)×Int)} (hl:l.length<=Mx) (hx:∀ x∈l,x.1.length<=Mx) {k:Int} (h0:0<=k) (h1:k<=1048576):Sz (zmh l k) k (l.length<=1048576/\∀ x∈l,x.1.length<=1048576):=
 Sz.len hl h0 h1 (f:=fun r=>(iter (zgP l) (r,0)).bind fun c=>match c with | .inl z=>zjt z | .inr z=>some z) (fun r a b d=>zsx l d a (by omega) zk6 _ (fun x hm k a b=>zyt (hx x hm) a b) (zgP l) fun st=>rfl)
theorem zxk {l:List ((List UInt8)×List Int)} (hl:l.length<=Mx) (hx:∀ x∈l,x.1.length<=Mx/\x.2.length<=Mx) {k:Int} (h0:0<=k) (h1:k<=1048576):Sz (zmg l k) k (l.length<=1048576/\∀ x∈l,x.1.length<=1048576/\x.2.length<=1048576):=
 Sz.len hl h0 h1 (f:=fun r=>(iter (zgO l) (r,0)).bind fun c=>match c with | .inl z=>zjs z | .inr z=>some z) (fun r a b d=>zsx l d a (by omega) zk4 _ (fun x hm k a b=>zyr (hx x hm).1 (hx x hm).2 a b) (zgO l) fun st=>rfl)
theorem zys {l:List (List Int)} (hl:l.length<=Mx) (hx:∀ x∈l,x.length<=Mx) {k:Int} (h0:0<=k) (h1:k<=1048576):Sz (zkt l k) k (l.length<=1048576/\∀ x∈l,x.length<=1048576):=
 Sz.len hl h0 h1 (f:=fun r=>(iter (zfh l) (r,0)).bind fun c=>match c with | .inl z=>zhU z | .inr z=>some z) (fun r a b d=>zsx l d a (by omega) zdE _ (fun x hm k a b=>zv8 (hx x hm) a b) (zfh l) fun st=>rfl)
theorem zx8 {l:List Plc} (hl:l.length<=Mx) {k:Int} (h0:0<=k) (h1:k<=1048576):Sz (zeH l k) k (l.length<=1048576):=
 ((zv7 hl h0 h1).bind fun r a _=>Sz.fin a).mono fun h=>h.1
abbrev En:=(List UInt8)×Sy×List Plc×Prf
structure EB (p:En):Prop where
 n:p.1.length<=Mx
 g:p.2.1.1.1.length<=Mx
 gn:∀ x∈p.2.1.1.1,x.1.length<=Mx
 t:p.2.1.1.2.length<=Mx
 tn:∀ x∈p.2.1.1.2,x.1.length<=Mx/\x.2.length<=Mx
 s:p.2.1.2.1.length<=Mx
 a:p.2.2.1.length<=Mx
 q1:p.2.2.2.2.1.length<=Mx
 q2:p.2.2.2.2.2.1.length<=Mx
 c:p.2.2.2.2.2.2.1.length<=Mx
 f:p.2.2.2.2.2.2.2.length<=Mx
 fn:∀ x∈p.2.2.2.2.2.2.2,x.length<=Mx
def ES (p:En):Prop:=p.1.length<=1048576/\Tame p.2.1.1/\p.2.1.2.1.length<=1048576/\p.2.2.1.length<=1048576/\p.2.2.2.2.1.length<=1048576/\p.2.2.2.2.2.1.length<=1048576/\p.2.2.2.2.2.2.1.length<=1048576/\p.2.2.2.2.2.2.2.length<=1048576/\∀ x∈p.2.2.2.2.2.2.2,x.length<=1048576
theorem zxm {p:En} (h:EB p):Sz (zmi p 1048576) 1048576 (ES p):=by
 have i:∀ k,0<=k->k<=1048576->Sz (ziX p.2.1 k) k (Tame p.2.1.1/\p.2.1.2.1.length<=1048576):=fun k a b=>by
  have l:Sz (zkr p.2.1.1 k) k (Tame p.2.1.1):=
   ((zxl h.g h.gn a b).bind fun r a b=>(zxk h.t h.tn a (by omega)).bind fun r a b=>Sz.fin a).mono fun h=>⟨h.1.1,h.2.1.1,h.1.2,fun x j=>(h.2.1.2 x j).1,fun x j=>(h.2.1.2 x j).2⟩
  exact (l.bind fun r a b=>(zx8 h.s a (by omega)).bind fun r a b=>Sz.fin a).mono fun h=>⟨h.1,h.2.1⟩
 have g:∀ k,0<=k->k<=1048576->Sz (zjS p.2.2.2 k) k (p.2.2.2.2.1.length<=1048576/\p.2.2.2.2.2.1.length<=1048576/\p.2.2.2.2.2.2.1.length<=1048576/\p.2.2.2.2.2.2.2.length<=1048576/\∀ x∈p.2.2.2.2.2.2.2,x.length<=1048576):=fun k a b=>
  ((zta h.q1 a b).bind fun r a b=>(zta h.q2 a (by omega)).bind fun r a b=>(zv8 h.c a (by omega)).bind fun r a b=>(zys h.f h.fn a (by omega)).bind fun r a b=>Sz.fin a).mono fun h=>⟨h.1,h.2.1,h.2.2.1,h.2.2.2.1.1,h.2.2.2.1.2⟩
 exact (Sz.len h.n (by omega) (by omega) (f:=fun r=>(ziX p.2.1 r).bind fun e=>if decide (e<0) then (some (-1)) else ((zeH p.2.2.1 e).bind fun c=>if decide (c<0) then (some (-1)) else ((zjS p.2.2.2 c).bind fun d=>if decide (d<0) then (some (-1)) else (some d))))
  (fun r a b _=>(i r a (by omega)).bind fun r a b=>(zx8 h.a a (by omega)).bind fun r a b=>(g r a (by omega)).bind fun r a b=>Sz.fin a)).mono fun h=>⟨h.1,h.2.1.1,h.2.1.2,h.2.2.1,h.2.2.2.1.1,h.2.2.2.1.2.1,h.2.2.2.1.2.2.1,h.2.2.2.1.2.2.2.1,h.2.2.2.1.2.2.2.2⟩
theorem zt5 {p:En} (h:ES p):zf4 p=some p:=by
 obtain ⟨l,d,q,k,n,f,m,j,c⟩:=h
 obtain ⟨i,g,r,e,b⟩:=d
 unfold zf4 zls zkp zgN zmf
 rw [zyo _ (by omega),zym _ (by omega) (fun x a=>by have:=b x a;omega),zs7 _ (by omega),zs7 _ (by omega),zs8 _ (by omega),zs8 _ (by omega),zv3 _ (by omega),zyn _ (by omega) (fun x a=>by have:=c x a;omega)]
 rfl
theorem zsW {p:En} (h:ES p):zjV p p=some true:=by
 obtain ⟨l,d,q,k,n,f,m,j,c⟩:=h
 obtain ⟨i,g,r,e,b⟩:=d
 unfold zjV zlv zkv zgQ zmj
 rw [zyx _ (by omega),zyv _ (by omega) (fun x a=>by have:=b x a;omega),zto _ (by omega),zto _ (by omega),ztp _ (by omega),ztp _ (by omega),zwo _ (by omega),zyw _ (by omega) (fun x a=>by have:=c x a;omega)]
 simp
theorem zrH {p:En} (h:ES p):∃ r,zgT p=some r/\zgL p=some r:=by
 obtain ⟨n,d,g,c,f,a,e,l,k⟩:=h
 obtain ⟨nm,⟨set,ts,t⟩,asm,s⟩:=p
 simp only at n d g c f a e l k
 obtain ⟨b,j,q,_⟩:=zf5 nm (by omega)
 obtain ⟨r,m,i⟩:=zrT d g t c s f a e
 unfold zgT zgL zld
 simp only
 rw [j,q]
 simp only [gp]
 cases b with
 | false=>exact ⟨false,rfl,rfl⟩
 | true=>rw [m,i];exact ⟨_,rfl,rfl⟩
theorem entry_law {p:En} (h:EB p):zep p=some true:=by
 obtain ⟨k,c,a⟩:=zxm h
 unfold zep
 rw [c]
 simp only [gp]
 rcases a with h0 | ⟨h0,_,hs⟩
 ·rw [if_pos (by simpa using h0)]
 ·rw [if_neg (by simp;omega),zt5 hs]
  simp only [gp]
  obtain ⟨r,d,b⟩:=zrH hs
  rw [d,b]
  simp only [gp]
  rw [if_neg (by cases r<;>simp),zsW hs]
  rfl
end Go.Lf
