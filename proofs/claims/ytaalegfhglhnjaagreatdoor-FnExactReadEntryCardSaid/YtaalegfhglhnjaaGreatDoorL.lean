import Derived.Test.YtaalegfhglhnjaaGreatDoorH
import Derived.Test.YtaalegfhglhnjaaGreatDoorK
set_option linter.all false
set_option maxRecDepth 100000
set_option maxHeartbeats 4000000
namespace Go.Lf
open Go Go.Proofs Tryz
def rb(h:Hd):List Nat:=if 0<h.2.1 then aD h.1 h.2.2 else[]
def VG{d:Type}(t:Ty d)(e:TypeId)(f:K)(a:OA)(c:Nat)(l:List d):Prop:=l=[]\/∃b,a=some ⟨b,0,none⟩/\Gr t false (0,b) f e a c l
section
variable {k:Type} {t:Ty k} {e:TypeId} {j j':K} {a:Option Addr} {c:Nat} {l:List k} {M:List Nat}
def n_{n}(h:0<n):rb (a,n,c)=aD a c:=by unfold rb;rw[Ϙ h]
def VG.step(s:Step M j j')(hm:∀g∈rb (a,l.length,c),g∉M)(h:VG t e j a c l):VG t e j' a c l:=by
 rcases h with h |⟨b,d,f⟩
 ·exact .inl h
 cases l with
 | nil=>exact .inl rfl
 | cons x l=>exact .inr ⟨b,d,f.X s λg i=>hm g (by rw[n_ si];exact i)⟩
abbrev VG.X:=@VG.step
def Sc{S X:Type}{F:S->Option (S ⊕ X)}(I:S->Prop)(R:X->Prop)(d:∀s s',I s->F s=some (.inl s')->I s')(f:∀s x,I s->F s=some (.inr x)->R x){s x}(b:I s)(h:iter F s=some x):R x:=by
 obtain⟨n,hn⟩:=l_.1 h;clear h
 induction n generalizing s with
 | zero=>cases hn
 | succ n ih=>
   unfold hZ at hn;cases hF:F s with
   | none=>rw[hF]at hn;cases hn
   | some y=>
     rw[hF]at hn;cases y with
     | inl s'=>exact ih (d s s' b hF) hn
     | inr x'=>injection hn with hn;rw[←hn];exact f s x' b hF
end
def Ya{κ a1 c2 p1}:fP 106 #[sl a1 0 c2,iv p1] κ (λv a=>Step [] κ a/\v=iv p1):=by
 refine ϔ 28 [] λe=>cT 1<|cs<|cT 1<|cb 0<|zn (F:=λ(_:Unit)=>(some (.inr ()):Option (Unit ⊕ Unit))) (J:=λ_ f a=>(∃b,f=aJ b [(0,sl a1 0 c2),(1,iv p1),(5,iv 0)])/\Step [] κ a) (s0:=()) (x:=()) kr (zq rfl) ⟨S1,e⟩ ?_;rintro _ _ h ⟨⟨b,rfl⟩,e⟩ c i d;exact cs<|cT 4<|cf<|cx 0<|zh<|sj i▸zi (zg<|za<|cT 2<|aC<|rT 4 (iv p1) ⟨e,rfl⟩)
def XN{κ a1 c2 p1}:fP 60 #[sl a1 0 c2,iv p1] κ (λv a=>Step [] κ a/\v=iv p1):=by
 refine ϔ 19 [] λe=>cT 1<|cs<|cT 1<|cb 0<|zn (F:=λ(_:Unit)=>(some (.inr ()):Option (Unit ⊕ Unit))) (J:=λ_ f a=>(∃b,f=aJ b [(0,sl a1 0 c2),(1,iv p1),(5,iv 0)])/\Step [] κ a) (s0:=()) (x:=()) kr (zq rfl) ⟨S1,e⟩ ?_;rintro _ _ h ⟨⟨b,rfl⟩,e⟩ c i d;exact cs<|cT 4<|cf<|cx 0<|zh<|sj i▸zi (zg<|za<|cT 2<|aC<|rT 4 (iv p1) ⟨e,rfl⟩)
def WK{κ a1 c2 p1}:fP 58 #[sl a1 0 c2,iv p1] κ (λv a=>Step [] κ a/\v=iv p1):=by
 refine ϔ 36 [] λe=>cT 1<|cs<|cT 1<|cb 0<|zn (F:=λ(_:Unit)=>(some (.inr ()):Option (Unit ⊕ Unit))) (J:=λ_ f a=>(∃b,f=aJ b [(0,sl a1 0 c2),(1,iv p1),(5,iv 0)])/\Step [] κ a) (s0:=()) (x:=()) kr (zq rfl) ⟨S1,e⟩ ?_;rintro _ _ h ⟨⟨b,rfl⟩,e⟩ c i d;exact cs<|cT 4<|cf<|cx 0<|zh<|sj i▸zi (zg<|za<|cT 2<|aC<|rT 4 (iv p1) ⟨e,rfl⟩)
def WL{κ a1 c2 p1}:fP 59 #[sl a1 0 c2,iv p1] κ (λv a=>Step [] κ a/\v=iv p1):=by
 refine ϔ 36 [] λe=>cT 1<|cs<|cT 1<|cb 0<|zn (F:=λ(_:Unit)=>(some (.inr ()):Option (Unit ⊕ Unit))) (J:=λ_ f a=>(∃b,f=aJ b [(0,sl a1 0 c2),(1,iv p1),(5,iv 0)])/\Step [] κ a) (s0:=()) (x:=()) kr (zq rfl) ⟨S1,e⟩ ?_;rintro _ _ h ⟨⟨b,rfl⟩,e⟩ c i d;exact cs<|cT 4<|cf<|cx 0<|zh<|sj i▸zi (zg<|za<|cT 2<|aC<|rT 4 (iv p1) ⟨e,rfl⟩)
def BY{e:Type}{F:List e×Int×Int->Option ((List e×Int×Int) ⊕ (List e×Int))}(c:∀s s',F s=some (.inl s')->s'.1.length=s.1.length)(d:∀s x,F s=some (.inr x)->x.1.length=s.1.length){l:List e}{x}{k}(h:iter F (l,k,0)=some x):x.1.length=l.length:=Sc (λs=>s.1.length=l.length) (λx=>x.1.length=l.length) (λs s' a b=>(c s s' b).trans a) (λs x a b=>(d s x b).trans a) rfl h
theorem zxi{p0:List (BS×Int)}{r:Int×List (BS×Int)}{p1}(a:qt p0 p1=some r):r.2.length=p0.length:=by
 exact ou a λx hx a=>sj a▸BY (λs s' h=>by unfold nn at h;simp only[Option.bind_eq_bind]at h;grind[Option.bind_eq_some_iff]) (λs s' h=>by unfold nn at h;simp only[Option.bind_eq_bind]at h;grind[Option.bind_eq_some_iff]) hx
theorem Fi{p0:List (Int)}{r:Int×List (Int)}{p1}(a:lX p0 p1=some r):r.2.length=p0.length:=by
 exact ou a λx hx a=>sj a▸BY (λs s' h=>by unfold mN at h;simp only[Option.bind_eq_bind]at h;grind[Option.bind_eq_some_iff]) (λs s' h=>by unfold mN at h;simp only[Option.bind_eq_bind]at h;grind[Option.bind_eq_some_iff]) hx
theorem MC{p0:LP}{r:Int×LP}{p1}(a:lQ p0 p1=some r):r.2.length=p0.length:=by
 exact ou a λx hx a=>sj a▸BY (λs s' h=>by unfold mS at h;simp only[Option.bind_eq_bind]at h;grind[Option.bind_eq_some_iff]) (λs s' h=>by unfold mS at h;simp only[Option.bind_eq_bind]at h;grind[Option.bind_eq_some_iff]) hx
theorem MD{p0:LP}{r:Int×LP}{p1}(a:qj p0 p1=some r):r.2.length=p0.length:=by
 exact ou a λx hx a=>sj a▸BY (λs s' h=>by unfold wz at h;simp only[Option.bind_eq_bind]at h;grind[Option.bind_eq_some_iff]) (λs s' h=>by unfold wz at h;simp only[Option.bind_eq_bind]at h;grind[Option.bind_eq_some_iff]) hx
def Zd{p0:List (BS×Int)}{e a c p1 r}(V:VG tGlue 171 e a c p0)(i:aA p1)(f:qt p0 p1=some r):fP 106 #[vl a p0 c,iv p1] e (λv d=>Step (rb (a,p0.length,c)) e d/\v=iv r.1/\aA r.1/\VG tGlue 171 d a c r.2):=by
 cases p0 with
 | nil=>
   obtain⟨x,hx,f⟩:=bD f;obtain rfl:=sj<|(zq (F:=nn) (s:=([],p1,0)) rfl).symm.trans hx;exact sj f▸(Ya (κ:=e) (a1:=a) (c2:=c) (p1:=p1)).mono λv d h=>⟨h.1.nil,h.2,i,.inl rfl⟩
 | cons x l=>
   rcases V with h |⟨b,rfl,h⟩
   · cases h
   · have hl:b<e.H.size:=by
       rcases h.body with⟨_,h⟩ |⟨g,cur,xs,ha,f,hH,_⟩
       · cases h
       · injection ha with ha;injection ha with ha;rw[ha];exact(ae.1 hH).1
     refine(YG h (ϣ (Ϧ _) hl) i f).mono λv d h=>?_;rw[n_ si];exact⟨h.1,h.2.1,h.2.2.1,.inr ⟨b,rfl,h.2.2.2⟩⟩
def ER{p0:LI}{e a c p1 r}(V:VG tI64 2 e a c p0)(i:aA p1)(f:lX p0 p1=some r):fP 60 #[vl a p0 c,iv p1] e (λv d=>Step (rb (a,p0.length,c)) e d/\v=iv r.1/\aA r.1/\VG tI64 2 d a c r.2):=by
 cases p0 with
 | nil=>
   obtain⟨x,hx,f⟩:=bD f;obtain rfl:=sj<|(zq (F:=mN) (s:=([],p1,0)) rfl).symm.trans hx;exact sj f▸(XN (κ:=e) (a1:=a) (c2:=c) (p1:=p1)).mono λv d h=>⟨h.1.nil,h.2,i,.inl rfl⟩
 | cons x l=>
   rcases V with h |⟨b,rfl,h⟩
   · cases h
   · have hl:b<e.H.size:=by
       rcases h.body with⟨_,h⟩ |⟨g,cur,xs,ha,f,hH,_⟩
       · cases h
       · injection ha with ha;injection ha with ha;rw[ha];exact(ae.1 hH).1
     refine(X' h (ϣ (Ϧ _) hl) i f).mono λv d h=>?_;rw[n_ si];exact⟨h.1,h.2.1,h.2.2.1,.inr ⟨b,rfl,h.2.2.2⟩⟩
def X_{p0:LP}{e a c p1 r}(V:VG tPlaced 166 e a c p0)(i:aA p1)(f:lQ p0 p1=some r):fP 58 #[vl a p0 c,iv p1] e (λv d=>Step (rb (a,p0.length,c)) e d/\v=iv r.1/\aA r.1/\VG tPlaced 166 d a c r.2):=by
 cases p0 with
 | nil=>
   obtain⟨x,hx,f⟩:=bD f;obtain rfl:=sj<|(zq (F:=mS) (s:=([],p1,0)) rfl).symm.trans hx;exact sj f▸(WK (κ:=e) (a1:=a) (c2:=c) (p1:=p1)).mono λv d h=>⟨h.1.nil,h.2,i,.inl rfl⟩
 | cons x l=>
   rcases V with h |⟨b,rfl,h⟩
   · cases h
   · have hl:b<e.H.size:=by
       rcases h.body with⟨_,h⟩ |⟨g,cur,xs,ha,f,hH,_⟩
       · cases h
       · injection ha with ha;injection ha with ha;rw[ha];exact(ae.1 hH).1
     refine(XK h (ϣ (Ϧ _) hl) i f).mono λv d h=>?_;rw[n_ si];exact⟨h.1,h.2.1,h.2.2.1,.inr ⟨b,rfl,h.2.2.2⟩⟩
def Kv{p0:LP}{e a c p1 r}(V:VG tPlaced 127 e a c p0)(i:aA p1)(f:qj p0 p1=some r):fP 59 #[vl a p0 c,iv p1] e (λv d=>Step (rb (a,p0.length,c)) e d/\v=iv r.1/\aA r.1/\VG tPlaced 127 d a c r.2):=by
 cases p0 with
 | nil=>
   obtain⟨x,hx,f⟩:=bD f;obtain rfl:=sj<|(zq (F:=wz) (s:=([],p1,0)) rfl).symm.trans hx;exact sj f▸(WL (κ:=e) (a1:=a) (c2:=c) (p1:=p1)).mono λv d h=>⟨h.1.nil,h.2,i,.inl rfl⟩
 | cons x l=>
   rcases V with h |⟨b,rfl,h⟩
   · cases h
   · have hl:b<e.H.size:=by
       rcases h.body with⟨_,h⟩ |⟨g,cur,xs,ha,f,hH,_⟩
       · cases h
       · injection ha with ha;injection ha with ha;rw[ha];exact(ae.1 hH).1
     refine(XL h (ϣ (Ϧ _) hl) i f).mono λv d h=>?_;rw[n_ si];exact⟨h.1,h.2.1,h.2.2.1,.inr ⟨b,rfl,h.2.2.2⟩⟩
abbrev TL:=List (BS×LI)
def mG:Ty (BS×Hd):=dW tStr tH
def zipH(L:TL)(Hs:List Hd):List (BS×Hd):=(L.map Prod.fst).zip Hs
structure TV(b:K)(a:OA)(c:Nat)(L:TL)(Hs:List Hd):Prop where
 len:Hs.length=L.length
 out:VG mG 173 b a c (zipH L Hs)
 row:∀(i:Nat)(x:BS×LI)(hd:Hd),L[i]?=some x->Hs[i]?=some hd->hd.2.1=x.2.length/\VG tI64 2 b hd.1 hd.2.2 x.2
 dis:∀(i j:Nat)(hd hd':Hd),i≠j->Hs[i]?=some hd->Hs[j]?=some hd'->∀g∈rb hd,g∉rb hd'
 odis:∀(i:Nat)(hd:Hd),Hs[i]?=some hd->∀g∈rb hd,g∉rb (a,L.length,c)
 lt:∀g∈rb (a,L.length,c)++Hs.flatMap rb,g<b.H.size
section
variable {e e':K} {a:Option Addr} {c:Nat} {L:TL} {Hs:List Hd} {M:List Nat}
def qQ(h:Hs.length=L.length):(zipH L Hs).length=L.length:=by unfold zipH;rw[Ϭ,dy,h,ϸ]
def Pa(h:Hs.length=L.length){i:Nat}{x:BS×LI}(hx:L[i]?=some x):∃hd,Hs[i]?=some hd/\(zipH L Hs)[i]?=some (x.1,hd):=by
 have hi:=(cv.1 hx).1;have b:i<Hs.length:=h▸hi;refine⟨Hs[i],cn b,?_⟩;unfold zipH;rw[Ϻ];exact⟨by rw[cw,hx];rfl,cn b⟩
def OF{i x hd}(hh:Hs[i]?=some hd):(zipH L Hs).set i (x.1,hd)=zipH (L.set i x) Hs:=by
 unfold zipH;apply bp;intro j;rw[ϫ];by_cases hj:i=j
 ·subst hj;rw[Ϙ rfl];by_cases hi:i<L.length
  ·have b:=(cv.1 hh).1;rw[Ϙ (by rw[Ϭ,dy];omega)];symm;rw[Ϻ];exact⟨by rw[cw,ϫ,Ϙ rfl,Ϙ hi];rfl,hh⟩
  rw[ϙ (by rw[Ϭ,dy];omega)];rw[List.set_eq_of_length_le om];symm;rw[co];rw[Ϭ,dy];omega
 rw[ϙ hj];simp[List.zip,List.getElem?_zipWith,cw,ϫ,hj]
def TV.name{nm i x hd}(V:TV e a c L Hs)(s:Step (rb (a,L.length,c)) e e')(hx:L[i]?=some x)(hh:Hs[i]?=some hd)(G:VG mG 173 e' a c ((zipH L Hs).set i (nm,hd))):TV e' a c (L.set i (nm,x.2)) Hs:=by
 have hl:(L.set i (nm,x.2)).length=L.length:=by simp
 refine⟨by rw[hl];exact V.len,by rw[←OF (x:=(nm,x.2)) hh];exact G,λj y hd' hy d=>?_,V.dis,λj hd' h=>by rw[hl];exact V.odis j hd' h,λg b=>by rw[hl]at b;exact gi (V.lt g b) s.1⟩;rw[ϫ]at hy;split at hy
 ·rename_i hij;subst hij;split at hy
  ·injection hy with hy;subst hy
   obtain rfl:=sj<|hh.symm.trans d;have h:=V.row i x hd hx hh;refine⟨h.1,h.2.X s λg b=>V.odis i hd hh g ?_⟩;rw[←h.1]at b;exact b
  cases hy
 have h:=V.row j y hd' hy d;refine⟨h.1,h.2.X s λg b=>V.odis j hd' d g ?_⟩;rw[←h.1]at b;exact b
def TV.sides{ro:LI}{x:BS×LI}{i hd}(V:TV e a c L Hs)(s:Step (rb hd) e e')(hx:L[i]?=some x)(hh:Hs[i]?=some hd)(k:ro.length=x.2.length)(G:VG tI64 2 e' hd.1 hd.2.2 ro):TV e' a c (L.set i (x.1,ro)) Hs:=by
 have hl:(L.set i (x.1,ro)).length=L.length:=by simp
 have hz:zipH (L.set i (x.1,ro)) Hs=zipH L Hs:=by
   rw[←OF (x:=(x.1,ro)) hh];obtain⟨hd',l,m⟩:=Pa V.len hx;obtain rfl:=sj<|hh.symm.trans l;apply bp;intro j;rw[ϫ];split
   · rename_i hij;subst hij
     split
     · exact m.symm
     · rename_i h;rw[(co om)]
   · rfl
 refine⟨by rw[hl];exact V.len,by rw[hz];exact V.out.X s (λg b f=>V.odis i hd hh g f (by rw[qQ V.len]at b;exact b)),λj y hd' hy d=>?_,V.dis,λj hd' h=>by rw[hl];exact V.odis j hd' h,λg b=>by rw[hl]at b;exact gi (V.lt g b) s.1⟩;rw[ϫ]at hy;split at hy
 ·rename_i hij;subst hij;split at hy
  ·injection hy with hy;subst hy
   obtain rfl:=sj<|hh.symm.trans d;have h:=V.row i x hd hx hh;exact⟨h.1.trans k.symm,G⟩
  cases hy
 rename_i hij;have h:=V.row j y hd' hy d;refine⟨h.1,h.2.X s λg b f=>V.dis i j hd hd' hij hh d g f ?_⟩;rw[←h.1]at b;exact b
def TV.step(V:TV e a c L Hs)(s:Step M e e')(hm:∀g∈rb (a,L.length,c)++Hs.flatMap rb,g∉M):TV e' a c L Hs:=by
 refine⟨V.len,V.out.X s λg b=>hm g<|eu _ (by rw[qQ V.len]at b;exact b),λj y hd' hy d=>?_,V.dis,V.odis,λg b=>gi (V.lt g b) s.1⟩;have h:=V.row j y hd' hy d;refine⟨h.1,h.2.X s λg b=>hm g<|ϝ _<|ϭ.2 ⟨hd',fe d,?_⟩⟩;rw[←h.1]at b;exact b
abbrev TV.X:=@TV.step
end
noncomputable def uB(sx:TL×Int×Int):Option ((TL×Int×Int) ⊕ (TL×Int)):=
 if(sx.2.2<(sx.1.length:Int):Ϛ)then(kO sx.2.1>>=λnm=>idx sx.1 sx.2.2>>=λx=>lX x.2 (aB (sx.2.1+1))>>=λy=>some (.inl (sx.1.set sx.2.2.toNat (nm,y.2),y.1,aB (sx.2.2+1))))else(some (.inr (sx.1,sx.2.1)))
noncomputable def AB(p0:TL)(p1:Int):Option (Int×TL):=
 (iter uB (p0,p1,0)).bind λx=>some (x.2,x.1)
def YF{p0:TL}{Hs:List Hd}{p a1 c2 p1}(V:TV p a1 c2 p0 Hs)(P:aA p1){r:Int×TL}(d:AB p0 p1=some r):fP 107 #[vl a1 p0 c2,iv p1] p (λv i=>Step (rb (a1,p0.length,c2)++Hs.flatMap rb) p i/\v=iv r.1/\aA r.1/\TV i a1 c2 r.2 Hs/\r.2.length=p0.length):=by
 refine ϔ 28 (rb (a1,p0.length,c2)++Hs.flatMap rb) λo=>cT 1<|cs<|cT 1<|cb 0<|ou d λQ E d=>?_;obtain rfl:=sj d;refine zn (F:=uB) (J:=λa E' i=>(∃R,E'=aJ R [(0,vl a1 a.1 c2),(1,iv a.2.1),(5,iv a.2.2)])/\Step (rb (a1,p0.length,c2)++Hs.flatMap rb) p i/\TV i a1 c2 a.1 Hs/\a.1.length=p0.length/\aA a.2.1/\aA a.2.2) (s0:=(p0,p1,0)) (x:=Q) kr E ⟨⟨_,eY⟩,o,V,rfl,P,(iK 0)⟩ ?_;rintro a _ a4 ⟨⟨R,rfl⟩,o,V,hln,j,a5⟩ a0 d w;refine cs<|cT 4<|cc _ d (λhc d=>?_) λhc d=>?_
 ·refine aG<|cs<|cb 1<|cO 3<|ou d λc H d=>oC o (yX j H) ?_;rintro k S o _ ⟨rfl,I⟩;have V:=V.X S si;refine ou d λx hx d=>?_;obtain⟨m,L,hxg⟩:=i' hx;obtain⟨hd,hhd,hzg⟩:=Pa V.len hxg;have hpos:0<a.1.length:=by omega
  have hzl:=qQ V.len;obtain⟨b,hab,G⟩:∃b,a1=some ⟨b,0,none⟩/\Gr mG false (0,b) k 173 a1 c2 (zipH a.1 Hs):=by
    rcases V.out with h | h
    · rw[h]at hzl;simp at hzl;omega
    · exact h
  have hzi:idx (zipH a.1 Hs) a.2.2=some (x.1,hd):=by unfold idx;rw[Ϙ m];exact hzg
  refine oi 16 23 173 2 a.1.length c2 .i64 a.2.2 (off:=0) hab m L<|od 1<|iG (T:=9) (t:=mG) (τ:=(0,b)) (e:=173) (ix:=a.2.2) (x':=(c,hd)) (b:=b) (δ:=0) (cp:=c2) (l:=zipH a.1 Hs) (vs:=[strV c]) (strV c) kr kr hab G m (by rw[hzl];exact L) kr kr kr kr (λcs hx=>by obtain⟨y,U,ho⟩:=hx;obtain rfl:=sj<|U.symm.trans hzi;obtain⟨_,_,rfl,⟨rfl,a7⟩,rfl⟩:=ho;exact⟨_,_,rfl,⟨rfl,I⟩,rfl⟩) λn X C=>?_;have s29':Step (rb (a1,a.1.length,c2)) k n:=by rw[n_ hpos];exact X
  have o:=o.trM (M':=rb (a1,a.1.length,c2)) (λg z=>.inl<|eu _ (by rw[hln]at z;exact z)) s29';have V:=V.name s29' hxg hhd<|.inr ⟨b,hab,C⟩;have u:(a.1.set a.2.2.toNat (c,x.2))[a.2.2.toNat]?=some (c,x.2):=by
    rw[ϫ,Ϙ rfl,Ϙ om]
  have a8:(a.1.set a.2.2.toNat (c,x.2)).length=a.1.length:=by simp
  have a9:((zipH a.1 Hs).set a.2.2.toNat (c,hd)).length=a.1.length:=by simp[hzl]
  have M:idx ((zipH a.1 Hs).set a.2.2.toNat (c,hd)) a.2.2=some (c,hd):=by
    unfold idx;rw[Ϙ m,ϫ,Ϙ rfl,Ϙ om]
  refine aH<|od 3<|cI<|od 2 ?_;obtain⟨Y,A,_,_,a2,f,B⟩:=C.idx M;obtain rfl:b=Y:=by have:=hab.symm.trans A;injection this with this;injection this
  obtain⟨_,_,rfl,⟨rfl,b0⟩,rfl⟩:=B;have f:At n b (0+a.2.2.toNat*2) [strV c,sl hd.1 hd.2.1 hd.2.2]:=f;refine oi 22 23 173 2 a.1.length c2 .i64 a.2.2 (off:=0) hab m L<|od 1<|oV f 1<|od 1<|ou d λy hy d=>?_;have hrow:=V.row _ _ _ u hhd;have hcall:=ER hrow.2 (zm (a.2.1+1)) hy
  try unfold vl at hcall
  rw[←hrow.1]at hcall;refine aQ 26 hcall ?_;rintro _ b1 ⟨D,rfl,N,Z⟩;have o:=o.trM (M':=rb hd) (λg z=>.inl<|ϝ _<|ϭ.2 ⟨hd,fe hhd,z⟩) D;have V:=V.sides D u hhd (Fi hy) Z;rw[List.set_set]at V;have O:(a.1.set a.2.2.toNat (c,y.2)).length=a.1.length:=by simp
  exact od 1<|oe<|zd<|za<|cr<|od 3<|S5 d ⟨⟨_,(eA 5<|eA 1<|zb (t:=0) rfl (by simp only[vl,O];kernel_rfl))⟩,o,V,by simp[hln],N,(zm _)⟩
 refine cx 0<|zh ?_;obtain rfl:=w _ (sj d).symm;exact zi<|zg<|za<|cT 2<|aC<|rT 4 (iv a.2.1) ⟨o,rfl,j,V,hln⟩
def ft(a:OA)(n c:Nat)(Hs:List Hd):List Nat:=rb (a,n,c)++Hs.flatMap rb
noncomputable def EK(p0:List (BS×Int)×TL)(p1:Int):Option (Int×(List (BS×Int)×TL)):=
 (qt p0.1 p1).bind λx=>AB p0.2 x.1>>=λy=>some (y.1,x.2,y.2)
noncomputable def GH(p0:(List (BS×Int)×TL)×LP×Int)(p1:Int):Option (Int×((List (BS×Int)×TL)×LP×Int)):=
 (EK p0.1 p1).bind λx=>lQ p0.2.1 x.1>>=λy=>some (y.1,x.2,y.2,p0.2.2)
section
variable {q:K} {a1 a4 a7:Option Addr} {c2 c5 c8:Nat} {Hs:List Hd} {p1:Int}
def XJ{p0:List (BS×Int)×TL}(Vg:VG tGlue 171 q a1 c2 p0.1)(Vt:TV q a4 c5 p0.2 Hs)(lg:∀g∈rb (a1,p0.1.length,c2),g<q.H.size)(dgt:∀g∈rb (a1,p0.1.length,c2),g∉ft a4 p0.2.length c5 Hs)(m:aA p1){r:Int×(List (BS×Int)×TL)}(c:EK p0 p1=some r):fP 57 #[.agg #[vl a1 p0.1 c2,vl a4 p0.2 c5],iv p1] q (λv d=>Step (rb (a1,p0.1.length,c2)++ft a4 p0.2.length c5 Hs) q d/\v=iv r.1/\aA r.1/\VG tGlue 171 d a1 c2 r.2.1/\TV d a4 c5 r.2.2 Hs/\r.2.1.length=p0.1.length/\r.2.2.length=p0.2.length):=by
 refine ϔ 14 (rb (a1,p0.1.length,c2)++ft a4 p0.2.length c5 Hs) λo=>aM<|oB 25 57001 [vl a1 p0.1 c2,vl a4 p0.2 c5] o λu w o i a=>?_;have Vg:=Vg.X i si;have Vt:=Vt.X i si;refine od 1<|aH<|od 1<|oV a.at 0<|od 1<|ou c λx hx c=>ou c λy hy c=>?_;obtain rfl:=sj c;refine aQ 8 (Zd Vg m hx) ?_;rintro _ z ⟨f,rfl,k,Vg'⟩;have n:∀g,g<q.H.size->u≠g:=λg b e=>by have:=a.ge;rw[e]at this;exact x4 (ϣ this b)<|Ϸ _
 have o:=o.trM (λg b=>.inl<|eu _ b) f;have Vt:=Vt.X f (λg b A=>dgt g A b);have a:=a.X f (λh=>n _ (lg _ h) rfl);refine od 1<|aH<|od 1<|oV a.at 1<|od 1<|aQ 12 (YF Vt k hy) ?_;rintro _ B ⟨j,rfl,l,Vt',hl⟩;have o:=o.trM (λg b=>.inl<|ϝ _ b) j;have hlg:=zxi hx;replace Vg':=Vg'.X j (by rw[hlg];exact dgt);exact od 1<|aH<|dT 2<|aC<|rT 4 (iv y.1) ⟨o,rfl,l,Vg',Vt',hlg,hl⟩
def MV{p0:LP}(Vp:VG tPlaced 166 q a1 c2 p0)(d:aA p1){r}(i:lQ p0 p1=some r):fP 27 #[.agg #[vl a1 p0 c2],iv p1] q (λv a=>Step (rb (a1,p0.length,c2)) q a/\v=iv r.1/\aA r.1/\VG tPlaced 166 a a1 c2 r.2):=by
 refine ϔ 10 (rb (a1,p0.length,c2)) λe=>aM<|oB 28 27001 [vl a1 p0 c2] e λm j e f b=>?_;have Vp:=Vp.X f si;refine od 1<|aH<|od 1<|oV b.at 0<|od 1<|aQ 8 (X_ Vp d i) ?_;rintro _ k ⟨h,rfl,c,Vp'⟩;have e:=e.trM (λg l=>.inl l) h;exact od 1<|aH<|dT 2<|aC<|rT 4 (iv r.1) ⟨e,rfl,c,Vp'⟩
structure SV(q:K)(a1:OA)(c2:Nat)(a4:OA)(c5:Nat)(a7:OA)(c8:Nat)(r:(List (BS×Int)×TL)×LP×Int)(Hs:List Hd):Prop where
 g:VG tGlue 171 q a1 c2 r.1.1
 t:TV q a4 c5 r.1.2 Hs
 p:VG tPlaced 166 q a7 c8 r.2.1
 lg:∀x∈rb (a1,r.1.1.length,c2),x<q.H.size
 lp:∀x∈rb (a7,r.2.1.length,c8),x<q.H.size
 gt:∀x∈rb (a1,r.1.1.length,c2),x∉ft a4 r.1.2.length c5 Hs
 gp:∀x∈rb (a1,r.1.1.length,c2),x∉rb (a7,r.2.1.length,c8)
 tp:∀x∈ft a4 r.1.2.length c5 Hs,x∉rb (a7,r.2.1.length,c8)
def fS(a1:OA)(c2:Nat)(a4:OA)(c5:Nat)(a7:OA)(c8:Nat)(r:(List (BS×Int)×TL)×LP×Int)(Hs:List Hd):List Nat:=(rb (a1,r.1.1.length,c2)++ft a4 r.1.2.length c5 Hs)++rb (a7,r.2.1.length,c8)
def zz8{p0:(List (BS×Int)×TL)×LP×Int}(V:SV q a1 c2 a4 c5 a7 c8 p0 Hs)(w:aA p0.2.2)(l:aA p1){r:Int×((List (BS×Int)×TL)×LP×Int)}(d:GH p0 p1=some r):fP 26 #[.agg #[vl a1 p0.1.1 c2,vl a4 p0.1.2 c5,vl a7 p0.2.1 c8,iv p0.2.2],iv p1] q
 (λv j=>Step (fS a1 c2 a4 c5 a7 c8 p0 Hs) q j/\v=iv r.1/\aA r.1/\SV j a1 c2 a4 c5 a7 c8 r.2 Hs/\r.2.1.1.length=p0.1.1.length/\r.2.1.2.length=p0.1.2.length/\r.2.2.1.length=p0.2.1.length/\r.2.2.2=p0.2.2):=by
 refine ϔ 14 (fS a1 c2 a4 c5 a7 c8 p0 Hs) λo=>aM<|oB 30 26001 [vl a1 p0.1.1 c2,vl a4 p0.1.2 c5,vl a7 p0.2.1 c8,iv p0.2.2] o λz A o c a=>?_;have Vg:=V.g.X c si;have Vt:=V.t.X c si;have Vp:=V.p.X c si;refine od 1<|aH<|od 1<|oL a.at 0 2<|od 1<|ou d λx hx d=>ou d λy hy d=>?_;obtain rfl:=sj d;refine aQ 8 (XJ Vg Vt (λg b=>gi (V.lg g b) c.1) V.gt l hx) ?_;rintro _ B ⟨f,rfl,m,Vg',Vt',l1,l2⟩;have k:∀g,g<q.H.size->z≠g:=λg b e=>by have:=a.ge;rw[e]at this;exact x4 (ϣ this b)<|Ϸ _
 have o:=o.trM (λg b=>.inl<|eu _ b) f;have Vp:=Vp.X f (λg b C=>(er.1 C).elim (λh=>V.gp g h b) (λh=>V.tp g h b));have a:=a.X f (λh=>(er.1 h).elim (λh=>k _ (V.lg _ h) rfl) (λh=>k _ (V.t.lt _ h) rfl));refine od 1<|aH<|od 1<|oL a.at 2 1<|od 1<|aQ 12 (MV Vp m hy) ?_;rintro _ D ⟨i,rfl,n,Vp'⟩;have o:=o.trM (λg b=>.inl<|ϝ _ b) i;have u:=MC hy;replace Vg':=Vg'.X i (by rw[l1];exact V.gp);replace Vt':=Vt'.X i (by rw[l2];exact V.tp);refine od 1<|aH<|dT 2<|aC<|rt [.tmp 4] [iv y.1] ⟨kr,xO⟩ ?_;refine⟨o,rfl,n,⟨Vg',Vt',Vp',?_,?_,?_,?_,?_⟩,l1,l2,u,rfl⟩<;>simp only[l1,l2,u]
 ·exact λx hx=>gi (V.lg x hx) o.1
 ·exact λx hx=>gi (V.lp x hx) o.1
 ·exact V.gt
 ·exact V.gp
 exact V.tp
end
def FlatT{b:Type}(t:Ty b):Prop:=∀a a' cs x,t.own a cs x->t.own a' cs x
def iE:FlatT tI64:=λ_ _ _ _ h=>h
def OH:FlatT tStr:=λ_ _ _ _ h=>h
def ID:FlatT tH:=λ_ _ _ _ h=>h
def GF{g e:Type}{a:Ty g}{b:Ty e}(c:FlatT a)(d:FlatT b):FlatT (dW a b):=λ_ _ _ _ ⟨f,c2,h,o1,o2⟩=>⟨f,c2,h,c _ _ _ _ o1,d _ _ _ _ o2⟩
def Gp:FlatT tGlue:=GF OH iE
def iW:FlatT tPlaced:=GF (GF iE iE) iE
section
variable {q J:Type} {t:Ty q} {t':Ty J} {κ κ':K} {a:Option Addr} {c:Nat} {l:List q} {l':List J} {e:TypeId} {τ:aN} {n:Nat}
def bA.flat(F:FlatT t):∀{l:List q} {xs:List Value},bA t κ xs l->bA t κ' xs l
  |[],_,h=>h
  | _::_,_,⟨c,xs',h,ho,b⟩=>⟨c,xs',h,F _ _ _ _ ho,bA.flat F b⟩
def QS{b e sz}(h:κ.shp b=some (e,sz,(0,0))):∃cur,κ.H[b]?=some (.cells cur e (0,0))/\cur.size=sz:=by
 unfold K.shp at h;split at h
 ·rename_i c T k hH;injection h with h
  injection h with f d
  injection d with d i
  subst f;subst i;exact⟨c,hH,d⟩
 cases h
def oh(hconv:∀xs,bA t κ xs l->bA t' κ' xs l')(hl:l'.length=l.length)(hsz:t'.size=t.size)(S:Sl t κ a c l)(h:Hm e c t.size τ κ a l.length)(hH:κ'.H=κ.H)(hf:∀b,a=some ⟨b,0,none⟩->0<l.length->κ'.fr b=0/\κ'.tag b=(0,b)):VG t' e κ' a c l':=by
 by_cases f:0<l.length
 ·right;obtain⟨k,b,rfl,hb,_,_,g⟩:=h f;obtain⟨cur,hcur,hcs⟩:=QS g;obtain⟨xs,i,hx⟩:=bA.of_sl S;obtain⟨b',off,ea,hp⟩:=hx f;injection ea with ea
  injection ea with m r
  subst m;subst r;obtain⟨u,v⟩:=hf b rfl f;have hxl:=i.length;refine⟨b,rfl,by have:=S.most;rw[hl];unfold maxLen;omega,.inr ⟨b,cur,xs,rfl,hconv xs i,by rw[hH];exact hcur,by rw[hl];exact S.cap,k,by rw[hsz];exact hcs,?_,by simpa using u,v,Ϧ _⟩⟩;apply bp;intro j;rw[dl,hl,hsz];split
  ·rename_i hj;have hj':j<xs.length:=by rw[hxl];exact hj
   have d:=hp.2.2 j _<|cn hj';unfold K.cell at d;rw[hcur]at d;simp only[gv]at d;rw[cn hj',←d];simp
  rename_i hj;rw[co om]
 left;exact bl om
def jg{s c'}(h:Hm e c s τ κ a n):∀g∈rb (a,n,c'),g<κ.H.size/\κ.tag g=τ/\a=some ⟨g,0,none⟩/\0<n:=by
 intro g d;unfold rb at d;split at d
 ·rename_i f;obtain⟨_,b,ha,i,j,_⟩:=h f;have ha':a=some ⟨b,0,none⟩:=ha;simp only[ha']at d;have:=(Ca d).1;subst this;exact⟨i,j,ha',f⟩
 cases d
def IS:∀{L:TL} {Hs:List Hd} {xs:List Value},bA (tX tStr tI64) κ xs (L.zip Hs)->bA mG κ' xs (zipH L Hs)
  |[],_,xs,h=>h
  | _::_,[],xs,h=>h
  | x::L,hd::Hs,xs,h=>by
    obtain⟨cs,xs',e,⟨b,d,f,j,k⟩,i⟩:=h;exact⟨cs,xs',e,⟨b,[sl hd.1 hd.2.1 hd.2.2],d,f,rfl⟩,IS i⟩
def I'{H:List (Hd×Nat)}(h:H.Pairwise (λx y=>0<x.1.2.1->0<y.1.2.1->x.2≠y.2)){i j:Nat}{x y:Hd×Nat}(hx:H[i]?=some x)(hy:H[j]?=some y)(hij:i≠j)(b:0<x.1.2.1)(d:0<y.1.2.1):x.2≠y.2:=by
 rw[fo]at h;obtain⟨hi,ei⟩:=cv.1 hx;obtain⟨hj,ej⟩:=cv.1 hy;rcases gj i j with hlt | hge
 ·have:=h i j hi hj hlt;rw[ei,ej]at this;exact this b d
 have:=h j i hj hi om;rw[ei,ej]at this;exact(this d b).symm
def Vs{L:TL}{N:Nat}(h:iO tStr tI64 126004 2 173 (N,44004) κ a c L)(hH:κ'.H=κ.H)(hf:∀b,(κ.tag b).2=44004\/(κ.tag b).2=126004->κ'.fr b=0/\κ'.tag b=(0,b)):
 ∃Hs,TV κ' a c L Hs/\(∀g∈ft a L.length c Hs,g<κ.H.size/\((κ.tag g).2=44004\/(κ.tag g).2=126004)):=by
 obtain⟨H,w,A,k,D,E⟩:=h;have hz:(L.zip<|H.map Prod.fst).length=L.length:=by rw[Ϭ,dy,w,ϸ]
 have hrow:∀(i:Nat)(hd:Hd),(H.map Prod.fst)[i]?=some hd->∃N,H[i]?=some (hd,N)/\Hm 2 hd.2.2 1 (N,126004) κ hd.1 hd.2.1:=by
   intro i hd hi;rw[cw]at hi;obtain⟨y,hy,e⟩:=ia.1 hi;subst e;exact⟨y.2,hy,E y<|fe hy⟩
 have hft:∀g∈ft a L.length c (H.map Prod.fst),g<κ.H.size/\((κ.tag g).2=44004\/(κ.tag g).2=126004):=by
   intro g d;rcases er.1 d with d | d
   · have:=jg k g d
     exact⟨this.1,.inl (by rw[this.2.1])⟩
   · obtain⟨hd,hhd,d⟩:=ϭ.1 d
     obtain⟨i,hi⟩:=cz hhd;obtain⟨M,_,m⟩:=hrow i hd hi;have:=jg m g d;exact⟨this.1,.inr (by rw[this.2.1])⟩
 refine⟨H.map Prod.fst,⟨by rw[dy];exact w,?_,λi x hd hx hhd=>?_,λi j hd hd' hij hi hj g d hg'=>?_,λi hd hi g d hg'=>?_,λg d=>by rw[hH];exact(hft g d).1⟩,hft⟩
 ·refine oh (t:=tX tStr tI64) (κ:=κ) (τ:=(N,44004)) (λxs z=>IS z) (by rw[hz];exact qQ (by rw[dy];exact w)) rfl A (by rw[hz];exact k) hH (λb hb r=>hf b<|.inl ?_);obtain⟨_,b',e,_,f,_⟩:=k (by rw[hz]at r;exact r);rw[hb]at e;injection e with e;injection e with e;subst e;rw[f]
 ·have B:(L.zip<|H.map Prod.fst)[i]?=some (x,hd):=by rw[Ϻ];exact⟨hx,hhd⟩
  obtain⟨b,o,_,f⟩:=A.elems (by rw[hz];exact ϣ (Ϧ _) (cv.1 hx).1);obtain⟨cs,_,I,_,_,F,C⟩:=f i _ B;obtain⟨M,_,m⟩:=hrow i hd hhd;have h9':hd.2.1=x.2.length:=F;refine⟨h9',oh (t:=tI64) (κ:=κ) (τ:=(M,126004)) (λxs z=>z.flat iE) rfl rfl C (by rw[←h9'];exact m) hH (λb hb r=>hf b<|.inr ?_)⟩;obtain⟨_,b',e,_,f,_⟩:=m (by rw[h9'];exact r);rw[hb]at e;injection e with e;injection e with e;subst e;rw[f]
 ·obtain⟨M,k1,k2⟩:=hrow i hd hi;obtain⟨M',k3,G⟩:=hrow j hd' hj;have u:=jg k2 g d;have v:=jg G g hg';have:=I' D k1 k3 hij u.2.2.2 v.2.2.2;apply this;have:=u.2.1.symm.trans v.2.1;injection this
 obtain⟨M,k1,k2⟩:=hrow i hd hi;have u:=jg k2 g d;have v:=jg k g hg';have:=u.2.1.symm.trans v.2.1;injection this with _ h;cases h
def UF{r:(List (BS×Int)×TL)×LP×Int}{a1 i j c2 k f m}(h:SysN κ a1 c2 i k j f r m)(hH:κ'.H=κ.H)(hf:∀b,5000<=(κ.tag b).2->κ'.fr b=0/\κ'.tag b=(0,b)):∃Hs,SV κ' a1 c2 i k j f r Hs/\∀g∈fS a1 c2 i k j f r Hs,g<κ.H.size/\(((κ.tag g).2=44003\/(κ.tag g).2=44004\/(κ.tag g).2=126004)\/κ.tag g=(m,129001)/\0<r.2.1.length):=by
 obtain⟨⟨B,C,u⟩,⟨D,ht⟩,⟨⟨p1,v⟩,_⟩⟩:=h;obtain⟨Hs,V,hV⟩:=Vs ht hH (λb hb=>hf b (by rcases hb with hb | hb<;>rw[hb]<;>decide));have d:=λg d=>jg (c':=c2) u g d;have hp:=λg d=>jg (c':=f) v g d;refine⟨Hs,⟨?_,V,?_,λx hx=>by rw[hH];exact(d x hx).1,λx hx=>by rw[hH];exact(hp x hx).1,λx hx hx'=>?_,λx hx hx'=>?_,λx hx hx'=>?_⟩,λg hgm=>?_⟩
 ·refine oh (κ:=κ) (τ:=(B,44003)) (λxs w=>w.flat Gp) rfl rfl C u hH (λb hb y=>hf b ?_);obtain⟨_,b',e,_,z,_⟩:=u y;rw[hb]at e;injection e with e;injection e with e;subst e;rw[z];show 5000<=_;omega
 ·refine oh (κ:=κ) (τ:=(m,129001)) (λxs w=>w.flat iW) rfl rfl p1 v hH (λb hb y=>hf b ?_);obtain⟨_,b',e,_,z,_⟩:=v y;rw[hb]at e;injection e with e;injection e with e;subst e;rw[z];show 5000<=_;omega
 ·have A:=(d x hx).2.1;rcases(hV x hx').2 with h | h<;>rw[A]at h<;>cases h
 ·have:=(d x hx).2.1.symm.trans (hp x hx').2.1;injection this with _ h;cases h
 ·have A:=(hp x hx').2.1;rcases(hV x hx).2 with h | h<;>rw[A]at h<;>cases h
 rcases er.1 hgm with h | h
 ·rcases er.1 h with h | h
  ·exact⟨(d g h).1,.inl<|.inl (by rw[(d g h).2.1])⟩
  exact⟨(hV g h).1,.inl<|.inr (hV g h).2⟩
 exact⟨(hp g h).1,.inr ⟨(hp g h).2.1,(hp g h).2.2.2⟩⟩
def jt(κ:K)(b:Nat):Nat:=match κ.H[b]? with | some (.cells c _ _)=>c.size | _=>0
def kw(hconv:∀xs,bA t κ xs l->bA t' κ' xs l')(hl:l'.length=l.length)(hsz:t'.size=t.size)(V:VG t e κ a c l)(hH:κ'.H=κ.H)(hf:∀b∈rb (a,l.length,c),jt κ b<=κ'.fr b):Sl t' κ' a c l':=by
 rcases V with h |⟨b,rfl,h⟩
 ·have:l'=[]:=bl (by rw[hl,h];rfl);subst this;exact⟨by simp,by simp,λd=>by simp at d⟩
 rcases h.body with⟨w,hx⟩ |⟨g,cur,xs,ha,f,hHg,k,y,m,r,z,A,B⟩
 ·have:l'=[]:=bl (by rw[hl,hx];rfl);subst this;exact⟨by simp,by simp,λd=>by simp at d⟩
 injection ha with ha;injection ha with ha
 subst ha;refine⟨by rw[hl];exact k,by have:=h.most;rw[hl];unfold maxLen at this;omega,λ_=>⟨b,0,rfl,λi x hx=>?_⟩⟩;obtain⟨cs,ho,hcs⟩:=(hconv xs f).get hx;have hil:=(cv.1 hx).1;have hle:(i+1)*t'.size<=cur.size:=by
   rw[m,hsz];exact gq _ om
 have hcl:=t'.len ho;refine⟨cs,⟨by rw[hH];exact(ae.1 hHg).1,?_,λj v hj=>?_⟩,ho⟩
 ·have hpos:0<l.length:=by omega
  refine gg ?_<|hf b (by rw[n_ hpos];exact jG (a:=⟨b,0,none⟩) om);have hcz:jt κ b=cur.size:=by unfold jt;rw[hHg]
  rw[hcz];rw[hcl,gv];have:(i+1)*t'.size=i*t'.size+t'.size:=gu _ _;omega
 unfold K.cell;rw[hH,hHg];simp only[gv];have u:=(cv.1 hj).1;rw[←hcs,dl]at hj;split at hj
 ·rw[cm,←r,dl]at hj;split at hj
  ·simpa using hj
  cases hj
 cases hj
def Iq:∀{L:TL} {Hs:List Hd} {xs:List Value},Hs.length=L.length->(∀(i:Nat)(x:BS×LI)(hd:Hd),L[i]?=some x->Hs[i]?=some hd->hd.2.1=x.2.length/\S9 κ' hd.1 hd.2.2 x.2)->
    bA mG κ xs (zipH L Hs)->bA tTile κ' xs L
  |[],_,xs,_,_,h=>h
  | _::_,[],xs,hl,_,h=>by simp at hl
  | x::L,hd::Hs,xs,hl,hh,h=>by
    obtain⟨cs,xs',e,⟨f,c2,j,k,m⟩,r⟩:=h;have b:=hh 0 x hd rfl rfl;refine⟨cs,xs',e,⟨f,c2,j,k,hd.1,hd.2.2,?_,b.2⟩,Iq (by simpa using hl) (λi y hd' hy d=>hh (i+1) y hd' (by simpa using hy) (by simpa using d)) r⟩;have h3':c2=[sl hd.1 hd.2.1 hd.2.2]:=m;rw[h3',b.1]
def UE{a1 h j c2 k m r Hs}(V:SV κ a1 c2 h k j m r Hs)(hH:κ'.H=κ.H)(hf:∀b∈fS a1 c2 h k j m r Hs,jt κ b<=κ'.fr b):
 S7 κ' a1 c2 r.1.1/\S8 κ' h k r.1.2/\S6 κ' j m r.2.1:=by
 refine⟨kw (λxs d=>d.flat Gp) rfl rfl V.g hH λb hb=>hf b ?_,kw (t:=mG) (λxs d=>Iq V.t.len (λi x hd hx f=>⟨(V.t.row i x hd hx f).1,kw (λxs d=>d.flat iE) rfl rfl (V.t.row i x hd hx f).2 hH λb hb=>hf b ?_⟩) d) (qQ V.t.len).symm rfl V.t.out hH λb hb=>hf b ?_,kw (λxs d=>d.flat iW) rfl rfl V.p hH λb hb=>hf b ?_⟩
 ·exact eu _<|eu _ hb
 ·rw[←(V.t.row i x hd hx f).1]at hb;exact eu _<|ϝ _<|ϝ _<|ϭ.2 ⟨hd,fe f,hb⟩
 ·rw[qQ V.t.len]at hb;exact eu _<|ϝ _<|eu _ hb
 exact ϝ _ hb
def TF{q:Type}(t:Ty q):Prop:=∀κ κ' cs x,κ'.H=κ.H->κ'.fr=κ.fr->t.own κ cs x->t.own κ' cs x
def FlatT.tf(h:FlatT t):TF t:=λ_ _ _ _ _ _=>h _ _ _ _
def lw(F:TF t)(hH:κ'.H=κ.H)(hf:κ'.fr=κ.fr)(S:Sl t κ a c l):Sl t κ' a c l:=by
 refine⟨S.cap,S.most,λd=>?_⟩;obtain⟨b,o,ea,he⟩:=S.elems d;refine⟨b,o,ea,λi x hx=>?_⟩;obtain⟨cs,hp,ho⟩:=he i x hx;refine⟨cs,⟨by rw[hH];exact hp.1,by rw[hf];exact hp.2.1,λj v hj=>?_⟩,F _ _ _ _ hH hf ho⟩;have:=hp.2.2 j v hj;unfold K.cell at this ⊢;rw[hH];exact this
def IZ(F:TF t):TF (aW t):=λκ κ' cs x hH hf ⟨a,c,h,S⟩=>⟨a,c,h,lw F hH hf S⟩
def SN{u:Ty J}(b:TF t)(d:TF u):TF (dW t u):=λ_ _ _ _ hH hf ⟨f,c2,h,o1,o2⟩=>⟨f,c2,h,b _ _ _ _ hH hf o1,d _ _ _ _ hH hf o2⟩
def SM:TF tTile:=SN OH.tf (IZ iE.tf)
end
abbrev Jo:=(List (BS×Int)×TL)×LP×Int
abbrev PrfT:=Int×LP×LP×LI×LM
abbrev EntT:=BS×Jo×LP×PrfT
structure FV(b:K)(a:OA)(c:Nat)(L:LM)(Hs:List Hd):Prop where
 len:Hs.length=L.length
 out:VG tH 32 b a c Hs
 row:∀(i:Nat)(x:LI)(hd:Hd),L[i]?=some x->Hs[i]?=some hd->hd.2.1=x.length/\VG tI64 2 b hd.1 hd.2.2 x
 dis:∀(i j:Nat)(hd hd':Hd),i≠j->Hs[i]?=some hd->Hs[j]?=some hd'->∀g∈rb hd,g∉rb hd'
 odis:∀(i:Nat)(hd:Hd),Hs[i]?=some hd->∀g∈rb hd,g∉rb (a,L.length,c)
section
variable {e e':K} {a:Option Addr} {c:Nat} {L:List (List Int)} {Hs:List Hd} {M:List Nat}
def FV.step(V:FV e a c L Hs)(s:Step M e e')(hm:∀g∈ft a L.length c Hs,g∉M):FV e' a c L Hs:=by
 refine⟨V.len,V.out.X s λg b=>hm g<|eu _ (by rw[V.len]at b;exact b),λj y hd' hy d=>?_,V.dis,V.odis⟩;have h:=V.row j y hd' hy d;refine⟨h.1,h.2.X s λg b=>hm g<|ϝ _<|ϭ.2 ⟨hd',fe d,?_⟩⟩;rw[←h.1]at b;exact b
abbrev FV.X:=@FV.step
def FV.one{ro x:LI}{i hd}(V:FV e a c L Hs)(s:Step (rb hd) e e')(hx:L[i]?=some x)(hh:Hs[i]?=some hd)(k:ro.length=x.length)(G:VG tI64 2 e' hd.1 hd.2.2 ro):FV e' a c (L.set i ro) Hs:=by
 have hl:(L.set i ro).length=L.length:=by simp
 refine⟨by rw[hl];exact V.len,V.out.X s (λg b f=>V.odis i hd hh g f (by rw[V.len]at b;exact b)),λj y hd' hy d=>?_,V.dis,λj hd' h=>by rw[hl];exact V.odis j hd' h⟩;rw[ϫ]at hy;split at hy
 ·rename_i hij;subst hij;split at hy
  ·injection hy with hy;subst hy
   obtain rfl:=sj<|hh.symm.trans d;exact⟨(V.row i x hd hx hh).1.trans k.symm,G⟩
  cases hy
 rename_i hij;have h:=V.row j y hd' hy d;refine⟨h.1,h.2.X s λg b f=>V.dis i j hd hd' hij hh d g f ?_⟩;rw[←h.1]at b;exact b
end
noncomputable def uy(sx:LM×Int×Int):Option ((LM×Int×Int) ⊕ (LM×Int)):=
 if(sx.2.2<(sx.1.length:Int):Ϛ)then(idx sx.1 sx.2.2>>=λx=>lX x sx.2.1>>=λy=>some (.inl (sx.1.set sx.2.2.toNat y.2,y.1,aB (sx.2.2+1))))else(some (.inr (sx.1,sx.2.1)))
noncomputable def BF(p0:LM)(p1:Int):Option (Int×LM):=iter uy (p0,p1,0)>>=λx=>some (x.2,x.1)
def zyX{p0:LM}{o a1 c2 Hs p1}(V:FV o a1 c2 p0 Hs)(B:aA p1){r:Int×LM}(c:BF p0 p1=some r):fP 61 #[vl a1 p0 c2,iv p1] o (λv f=>Step (ft a1 p0.length c2 Hs) o f/\v=iv r.1/\aA r.1/\FV f a1 c2 r.2 Hs/\r.2.length=p0.length):=by
 refine ϔ 19 (ft a1 p0.length c2 Hs) λe=>cT 1<|cs<|cT 1<|cb 0<|ou c λC w c=>?_;obtain rfl:=sj c;refine zn (F:=uy) (J:=λa M f=>(∃D,M=aJ D [(0,vl a1 a.1 c2),(1,iv a.2.1),(5,iv a.2.2)])/\Step (ft a1 p0.length c2 Hs) o f/\FV f a1 c2 a.1 Hs/\a.1.length=p0.length/\aA a.2.1/\aA a.2.2) (s0:=(p0,p1,0)) (x:=C) kr w ⟨⟨_,eY⟩,e,V,rfl,B,(iK 0)⟩ ?_;rintro a _ j ⟨⟨D,rfl⟩,e,V,hln,k,N⟩ L c l;refine cs<|cT 4<|cc _ c (λO c=>?_) λO c=>?_
 ·refine aG<|cs<|cb 1<|cr<|od 2<|ou c λx hx c=>?_;obtain⟨E,P,hxg⟩:=i' hx;have hpos:0<a.1.length:=by omega
  have hhi:a.2.2.toNat<Hs.length:=by rw[V.len];omega
  obtain⟨hd,hhd⟩:∃hd,Hs[a.2.2.toNat]?=some hd:=⟨_,cn hhi⟩;obtain⟨b,hab,G⟩:∃b,a1=some ⟨b,0,none⟩/\Gr tH false (0,b) j 32 a1 c2 Hs:=by
    rcases V.out with h | h
    · rw[h]at hhi;simp at hhi
    · exact h
  have hzi:idx Hs a.2.2=some hd:=by unfold idx;rw[Ϙ E];exact hhd
  obtain⟨H,m,_,_,i,d,n⟩:=G.idx hzi;obtain rfl:b=H:=by have:=hab.symm.trans m;injection this with this;injection this
  have d:At j b (0+a.2.2.toNat*1) i:=d;obtain rfl:i=[sl hd.1 hd.2.1 hd.2.2]:=n;refine oi 14 33 32 1 a.1.length c2 .i64 a.2.2 (off:=0) hab E P<|oV d 0<|od 1<|ou c λy hy c=>?_;have hrow:=V.row _ _ _ hxg hhd;have hcall:=ER hrow.2 k hy
  try unfold vl at hcall
  rw[←hrow.1]at hcall;refine aQ 17 hcall ?_;rintro _ Q ⟨u,rfl,z,I⟩;have e:=e.trM (M':=rb hd) (λg R=>.inl<|ϝ _<|ϭ.2 ⟨hd,fe hhd,R⟩) u;have V:=V.one u hxg hhd (Fi hy) I;have A:(a.1.set a.2.2.toNat y.2).length=a.1.length:=by simp
  exact od 1<|oe<|zd<|za<|cr<|od 3<|S5 c ⟨⟨_,(eA 5<|eA 1<|zb (t:=0) rfl (by simp only[vl,A];kernel_rfl))⟩,e,V,by simp[hln],z,(zm _)⟩
 refine cx 0<|zh ?_;obtain rfl:=l _ (sj c).symm;exact zi<|zg<|za<|cT 2<|aC<|rT 4 (iv a.2.1) ⟨e,rfl,k,V,hln⟩
noncomputable def Hk(p:PrfT)(k:Int):Option (Int×PrfT):=
 (qj p.2.1 k).bind λx=>qj p.2.2.1 x.1>>=λy=>lX p.2.2.2.1 y.1>>=λz=>BF p.2.2.2.2 z.1>>=λu=>some (u.1,p.1,x.2,y.2,z.2,u.2)
noncomputable def B_(e:EntT)(k:Int):Option (Int×EntT):=
 (GH e.2.1 k).bind λx=>lQ e.2.2.1 x.1>>=λy=>Hk e.2.2.2 y.1>>=λz=>some (z.1,e.1,x.2,y.2,z.2)
def iu{c:Nat->Nat}{M N:List Nat}{i j:Nat}(a:∀x∈M,c x=i)(b:∀x∈N,c x=j)(h:Nat.beq i j=false):∀x∈M,x∉N:=λx hx hy=>by
  have:=(a x hx).symm.trans (b x hy);rw[this]at h;simp at h
structure PV(d:K)(a:OA)(c:Nat)(a1:OA)(c1:Nat)(a2:OA)(c2:Nat)(a3:OA)(c3:Nat)(r:PrfT)(Hs:List Hd)(b:Nat->Nat):Prop where
 q:VG tPlaced 127 d a c r.2.1
 o:VG tPlaced 127 d a1 c1 r.2.2.1
 p:VG tI64 2 d a2 c2 r.2.2.2.1
 f:FV d a3 c3 r.2.2.2.2 Hs
 lq:∀x∈rb (a,r.2.1.length,c),b x=2
 lo:∀x∈rb (a1,r.2.2.1.length,c1),b x=3
 lp:∀x∈rb (a2,r.2.2.2.1.length,c2),b x=4
 lf:∀x∈ft a3 r.2.2.2.2.length c3 Hs,b x=5
def fQz(a:OA)(c:Nat)(a1:OA)(c1:Nat)(a2:OA)(c2:Nat)(a3:OA)(c3:Nat)(r:PrfT)(Hs:List Hd):List Nat:=((rb (a,r.2.1.length,c)++rb (a1,r.2.2.1.length,c1))++rb (a2,r.2.2.2.1.length,c2))++ft a3 r.2.2.2.2.length c3 Hs
structure LenP(r w:PrfT):Prop where
 k:r.1=w.1
 q:r.2.1.length=w.2.1.length
 o:r.2.2.1.length=w.2.2.1.length
 p:r.2.2.2.1.length=w.2.2.2.1.length
 f:r.2.2.2.2.length=w.2.2.2.2.length
section
variable {κ:K} {a a1 a2 a3 a4 a5 a6 a7:Option Addr} {c c1 c2 c3 c4 c5 c6 c7:Nat} {Hs Hf:List Hd} {p1:Int} {W:Nat->Nat}
def PV.lab{r}(V:PV κ a c a1 c1 a2 c2 a3 c3 r Hs W):∀x∈fQz a c a1 c1 a2 c2 a3 c3 r Hs,2<=W x/\W x<9:=λx hx=>by
  rcases er.1 hx with h | h
  · rcases er.1 h with h | h
    · rcases er.1 h with h | h
      · rw[V.lq x h];decide
      · rw[V.lo x h];decide
    · rw[V.lp x h];decide
  · rw[V.lf x h];decide
def PV.step{M b r}(V:PV κ a c a1 c1 a2 c2 a3 c3 r Hs W)(s:Step M κ b)(hm:∀x∈M,W x<2):PV b a c a1 c1 a2 c2 a3 c3 r Hs W:=⟨V.q.X s λg h h'=>by have:=hm g h';have:=V.lq g h;omega,V.o.X s λg h h'=>by have:=hm g h';have:=V.lo g h;omega,V.p.X s λg h h'=>by have:=hm g h';have:=V.lp g h;omega,
    V.f.X s λg h h'=>by have:=hm g h';have:=V.lf g h;omega,V.lq,V.lo,V.lp,V.lf⟩
abbrev PV.X:=@PV.step
def PD{p0 r}(V:PV κ a c a1 c1 a2 c2 a3 c3 p0 Hs W)(lt:∀x,W x<9->x<κ.H.size)(b0:aA p0.1)(P:aA p1)(f:Hk p0 p1=some r):fP 28 #[.agg #[iv p0.1,vl a p0.2.1 c,vl a1 p0.2.2.1 c1,vl a2 p0.2.2.2.1 c2,vl a3 p0.2.2.2.2 c3],iv p1] κ (λv F=>Step (fQz a c a1 c1 a2 c2 a3 c3 p0 Hs) κ F/\v=iv r.1/\aA r.1/\PV F a c a1 c1 a2 c2 a3 c3 r.2 Hs W/\LenP r.2 p0):=by
 refine ϔ 22 (fQz a c a1 c1 a2 c2 a3 c3 p0 Hs) λe=>aM<|oB 35 28001 [iv p0.1,vl a p0.2.1 c,vl a1 p0.2.2.1 c1,vl a2 p0.2.2.2.1 c2,vl a3 p0.2.2.2.2 c3] e λJ Y e d b=>?_;have hB:∀{i:Nat} {M:List Nat},(∀x∈M,W x=i)->Nat.blt i 9=true->J∉M:=λh hi hb=>by
   have Z:=lt J (by rw[h J hb];simpa[Nat.blt,gh]using hi);exact x4 (ϣ b.ge Z)<|Ϸ _
 have V0:=V.q.X d si;have L:=V.o.X d si;have A:=V.p.X d si;have l:=V.f.X d si;have B:=V.lq;have z:=V.lo;have m:=V.lp;have n:=V.lf;refine ou f λx0 G f=>ou f λx1 H f=>ou f λx2 I f=>ou f λx3 Q f=>?_;obtain rfl:=sj f;refine od 1<|aH<|od 1<|oV b.at 1<|od 1<|aQ 8 (Kv V0 P G) ?_;rintro _ a5 ⟨d,rfl,R,u⟩;have e:=e.trM (λg w=>.inl<|eu _<|eu _<|eu _ w) d;have L:=L.X d<|iu z B (by decide);have A:=A.X d<|iu m B (by decide);have l:=l.X d<|iu n B (by decide);have b:=b.X d<|hB B (by decide);have l0:=MD G;have C:=B;rw[←l0]at C;refine od 1<|aH<|od 1<|oV b.at 2<|od 1<|aQ 12 (Kv L R H) ?_;rintro _ a6 ⟨j,rfl,S,D⟩;have e:=e.trM (λg w=>.inl<|eu _<|eu _<|ϝ _ w) j;have u:=u.X j<|iu C z (by decide);have A:=A.X j<|iu m z (by decide);have l:=l.X j<|iu n z (by decide);have b:=b.X j<|hB z (by decide);have l1:=MD H;have E:=z;rw[←l1]at E;refine od 1<|aH<|od 1<|oV b.at 3<|od 1<|aQ 16 (ER A S I) ?_;rintro _ a7 ⟨k,rfl,T,N⟩;have e:=e.trM (λg w=>.inl<|eu _<|ϝ _ w) k;have u:=u.X k<|iu C m (by decide);have D:=D.X k<|iu E m (by decide);have l:=l.X k<|iu n m (by decide);have b:=b.X k<|hB m (by decide);have l2:=Fi I;have O:=m;rw[←l2]at O;refine od 1<|aH<|od 1<|oV b.at 4<|od 1<|aQ 20 (zyX l T Q) ?_;rintro _ a8 ⟨y,rfl,U,W3,X⟩;have e:=e.trM (λg w=>.inl<|ϝ _ w) y;have u:=u.X y<|iu C n (by decide);have D:=D.X y<|iu E n (by decide);have N:=N.X y<|iu O n (by decide);exact od 1<|aH<|dT 2<|aC<|rT 4 (iv x3.1) ⟨e,rfl,U,⟨u,D,N,W3,C,E,O,by simp only[X];exact n⟩,⟨rfl,l0,l1,l2,X⟩⟩
structure EV(κ:K)(a:OA)(c:Nat)(a1:OA)(c1:Nat)(a2:OA)(c2:Nat)(a3:OA)(c3:Nat)(a4:OA)(c4:Nat)(a5:OA)(c5:Nat)(a6:OA)(c6:Nat)(a7:OA)(c7:Nat)(r:EntT)(Hs Hf:List Hd)(W:Nat->Nat):Prop where
 s:SV κ a c a1 c1 a2 c2 r.2.1 Hs
 e:VG tPlaced 166 κ a3 c3 r.2.2.1
 p:PV κ a4 c4 a5 c5 a6 c6 a7 c7 r.2.2.2 Hf W
 ls:∀x∈fS a c a1 c1 a2 c2 r.2.1 Hs,W x=0
 le:∀x∈rb (a3,r.2.2.1.length,c3),W x=1
 lt:∀x,W x<9->x<κ.H.size
def fE(a:OA)(c:Nat)(a1:OA)(c1:Nat)(a2:OA)(c2:Nat)(a3:OA)(c3:Nat)(a4:OA)(c4:Nat)(a5:OA)(c5:Nat)(a6:OA)(c6:Nat)(a7:OA)(c7:Nat)(r:EntT)(Hs Hf:List Hd):List Nat:=(fS a c a1 c1 a2 c2 r.2.1 Hs++rb (a3,r.2.2.1.length,c3))++fQz a4 c4 a5 c5 a6 c6 a7 c7 r.2.2.2 Hf
structure LenE(r w:EntT):Prop where
 n:r.1=w.1
 g:r.2.1.1.1.length=w.2.1.1.1.length
 t:r.2.1.1.2.length=w.2.1.1.2.length
 s:r.2.1.2.1.length=w.2.1.2.1.length
 k:r.2.1.2.2=w.2.1.2.2
 e:r.2.2.1.length=w.2.2.1.length
 p:LenP r.2.2.2 w.2.2.2
abbrev EC(a:OA)(c:Nat)(a1:OA)(c1:Nat)(a2:OA)(c2:Nat)(a3:OA)(c3:Nat)(a4:OA)(c4:Nat)(a5:OA)(c5:Nat)(a6:OA)(c6:Nat)(a7:OA)(c7:Nat)(r:EntT):List Value:=
 [strV r.1,sl a r.2.1.1.1.length c,sl a1 r.2.1.1.2.length c1,sl a2 r.2.1.2.1.length c2,iv r.2.1.2.2,sl a3 r.2.2.1.length c3,iv r.2.2.2.1,sl a4 r.2.2.2.2.1.length c4,sl a5 r.2.2.2.2.2.1.length c5,sl a6 r.2.2.2.2.2.2.1.length c6,sl a7 r.2.2.2.2.2.2.2.length c7]
def SV.step{M b r}(V:SV κ a c a1 c1 a2 c2 r Hs)(s:Step M κ b)(hm:∀x∈fS a c a1 c1 a2 c2 r Hs,x∉M):SV b a c a1 c1 a2 c2 r Hs:=⟨V.g.X s λg h=>hm g<|eu _<|eu _ h,V.t.X s λg h=>hm g<|eu _<|ϝ _ h,V.p.X s λg h=>hm g<|ϝ _ h,
    λx hx=>gi (V.lg x hx) s.1,λx hx=>gi (V.lp x hx) s.1,V.gt,V.gp,V.tp⟩
abbrev SV.X:=@SV.step
def PE{w r}(V:EV κ a c a1 c1 a2 c2 a3 c3 a4 c4 a5 c5 a6 c6 a7 c7 w Hs Hf W)(F:aA w.2.1.2.2)(G:aA w.2.2.2.1)(H:aA p1)(j:B_ w p1=some r):fP 7 #[.agg (EC a c a1 c1 a2 c2 a3 c3 a4 c4 a5 c5 a6 c6 a7 c7 w).toArray,iv p1] κ (λv y=>Step (fE a c a1 c1 a2 c2 a3 c3 a4 c4 a5 c5 a6 c6 a7 c7 w Hs Hf) κ y/\v=iv r.1/\aA r.1/\EV y a c a1 c1 a2 c2 a3 c3 a4 c4 a5 c5 a6 c6 a7 c7 r.2 Hs Hf W/\LenE r.2 w):=by
 refine ϔ 18 (fE a c a1 c1 a2 c2 a3 c3 a4 c4 a5 c5 a6 c6 a7 c7 w Hs Hf) λe=>aM<|oB 37 7001 (EC a c a1 c1 a2 c2 a3 c3 a4 c4 a5 c5 a6 c6 a7 c7 w) e λA R e k b=>?_;have hB:∀{i:Nat} {M:List Nat},(∀x∈M,W x=i)->Nat.blt i 9=true->A∉M:=λh hi hb=>by
   have S:=V.lt A (by rw[h A hb];simpa[Nat.blt,gh]using hi);exact x4 (ϣ b.ge S)<|Ϸ _
 have T:=V.s.X k si;have B:=V.e.X k si;have l:=V.p.X k si;refine ou j λU I j=>ou j λx1 z j=>ou j λX J j=>?_;obtain rfl:=sj j;refine od 1<|aH<|od 1<|oL b.at 1 4<|od 1<|aQ 8 (zz8 T F H I) ?_;rintro _ Y ⟨d,rfl,L,m,l1,l2,N,Z⟩;have e:=e.trM (λg n=>.inl<|eu _<|eu _ n) d;have C:∀x∈fS a c a1 c1 a2 c2 U.2 Hs,W x=0:=by unfold fS;rw[l1,l2,N];exact V.ls
 have B:=B.X d<|iu V.le V.ls (by decide);have l:=l.X d (λx hx=>by rw[V.ls x hx];decide);have b:=b.X d<|hB V.ls (by decide);refine od 1<|aH<|od 1<|oL b.at 5 1<|od 1<|aQ 12 (MV B L z) ?_;rintro _ a0 ⟨f,rfl,O,D⟩;have e:=e.trM (λg n=>.inl<|eu _<|ϝ _ n) f;have P:=MC z;have E:=V.le;rw[←P]at E;have m:=m.X f<|iu C V.le (by decide);have l:=l.X f (λx hx=>by rw[V.le x hx];decide);have b:=b.X f<|hB V.le (by decide);refine od 1<|aH<|od 1<|oL b.at 6 5<|od 1<|aQ 16 (PD l (λx hx=>gi (V.lt x hx)<|gg k.1<|gg d.1 f.1) G O J) ?_;rintro _ a8 ⟨u,rfl,Q,W2,lp⟩;have e:=e.trM (λg n=>.inl<|ϝ _ n) u;have m:=m.X u (λx hx hx'=>by have:=C x hx;have:=(V.p.lab x hx').1;omega);have D:=D.X u (λx hx hx'=>by have:=E x hx;have:=(V.p.lab x hx').1;omega);exact od 1<|aH<|dT 2<|aC<|rT 4 (iv X.1) ⟨e,rfl,Q,⟨m,D,W2,C,E,λx hx=>gi (V.lt x hx) e.1⟩,⟨rfl,l1,l2,N,Z,P,lp⟩⟩
end
structure EntS(b:K)(a:OA)(c:Nat)(a1:OA)(c1:Nat)(a2:OA)(c2:Nat)(a3:OA)(c3:Nat)(a4:OA)(c4:Nat)(a5:OA)(c5:Nat)(a6:OA)(c6:Nat)(a7:OA)(c7:Nat)(x:EntT):Prop where
 g:S7 b a c x.2.1.1.1
 t:S8 b a1 c1 x.2.1.1.2
 p:S6 b a2 c2 x.2.1.2.1
 e:S6 b a3 c3 x.2.2.1
 q:S6 b a4 c4 x.2.2.2.2.1
 o:S6 b a5 c5 x.2.2.2.2.2.1
 pa:S9 b a6 c6 x.2.2.2.2.2.2.1
 fl:Sl (aW tI64) b a7 c7 x.2.2.2.2.2.2.2
section
variable {κ κ':K} {a a1 a2 a3 a4 a5 a6 a7 b b1 b2 b3 b4 b5 b6 b7:Option Addr} {c c1 c2 c3 c4 c5 c6 c7 d d1 d2 d3 d4 d5 d6 d7:Nat} {x y:EntT} {M:List Nat} {Hs Hf:List Hd} {G:Nat->Nat}
def EntS.step(h:EntS κ a c a1 c1 a2 c2 a3 c3 a4 c4 a5 c5 a6 c6 a7 c7 x)(s:Step M κ κ'):EntS κ' a c a1 c1 a2 c2 a3 c3 a4 c4 a5 c5 a6 c6 a7 c7 x:=⟨h.g.X s,h.t.X s,h.p.X s,h.e.X s,h.q.X s,h.o.X s,h.pa.X s,h.fl.X s⟩
abbrev EntS.X:=@EntS.step
def EntO.s(h:EntO κ a c a1 c1 a2 c2 a3 c3 a4 c4 a5 c5 a6 c6 a7 c7 x):EntS κ a c a1 c1 a2 c2 a3 c3 a4 c4 a5 c5 a6 c6 a7 c7 x:=⟨h.g,h.t,h.p,h.e,h.q,h.o,h.pa,h.fl⟩
def EntS.tf(h:EntS κ a c a1 c1 a2 c2 a3 c3 a4 c4 a5 c5 a6 c6 a7 c7 x)(hH:κ'.H=κ.H)(hf:κ'.fr=κ.fr):EntS κ' a c a1 c1 a2 c2 a3 c3 a4 c4 a5 c5 a6 c6 a7 c7 x:=⟨lw Gp.tf hH hf h.g,lw SM hH hf h.t,lw iW.tf hH hf h.p,lw iW.tf hH hf h.e,lw iW.tf hH hf h.q,lw iW.tf hH hf h.o,lw iE.tf hH hf h.pa,lw (IZ iE.tf) hH hf h.fl⟩
def Za{p0:BS}(f:p0.length<=9223372036854775807){r:EntT×Int×Int}(i:uf p0=some r):fP 4 #[strV p0] κ (λv κ'=>Step [] κ κ'/\∃a c a1 c1 a2 c2 a3 c3 a4 c4 a5 c5 a6 c6 a7 c7,v=.tuple #[.agg (EC a c a1 c1 a2 c2 a3 c3 a4 c4 a5 c5 a6 c6 a7 c7 r.1).toArray,iv r.2.1,iv r.2.2]/\EntS κ' a c a1 c1 a2 c2 a3 c3 a4 c4 a5 c5 a6 c6 a7 c7 r.1/\r.1.1.length<=9223372036854775807/\aA r.1.2.1.2.2/\aA r.1.2.2.2.1):=by
 refine(Y_ f i).mono ?_;rintro v κ' ⟨s,a,c,a1,c1,a2,c2,a3,c3,a4,c4,a5,c5,a6,c6,a7,c7,rfl,j,k,l,m,n,u,w,z,A,B,h,_⟩;exact⟨s,a,c,a1,c1,a2,c2,a3,c3,a4,c4,a5,c5,a6,c6,a7,c7,rfl,⟨k,l,m,u,z,A,B,h⟩,j,n,w⟩
def Oz(h:EntS κ a c a1 c1 a2 c2 a3 c3 a4 c4 a5 c5 a6 c6 a7 c7 x)(h':EntS κ b d b1 d1 b2 d2 b3 d3 b4 d4 b5 d5 b6 d6 b7 d7 y)(hn:x.1.length<=9223372036854775807)(hk:aA x.2.1.2.2)(hi:aA x.2.2.2.1)(hn':y.1.length<=9223372036854775807)(hk':aA y.2.1.2.2)(hi':aA y.2.2.2.1){r}(f:uD x y=some r):
    fP 6 #[.agg (EC a c a1 c1 a2 c2 a3 c3 a4 c4 a5 c5 a6 c6 a7 c7 x).toArray,.agg (EC b d b1 d1 b2 d2 b3 d3 b4 d4 b5 d5 b6 d6 b7 d7 y).toArray] κ (λv κ'=>Step [] κ κ'/\v=.bool r):=ZL hn h.g h.t h.p hk h.e hi h.q h.o h.pa h.fl hn' h'.g h'.t h'.p hk' h'.e hi' h'.q h'.o h'.pa h'.fl f
def Ny(h:EntS κ a c a1 c1 a2 c2 a3 c3 a4 c4 a5 c5 a6 c6 a7 c7 x)(hn:x.1.length<=9223372036854775807)(hk:aA x.2.1.2.2)(hi:aA x.2.2.2.1){r}(f:tY x 1=some r)(L:LenE x y):fP 8 #[.agg (EC a c a1 c1 a2 c2 a3 c3 a4 c4 a5 c5 a6 c6 a7 c7 y).toArray,iv 1] κ (λv κ'=>Step [] κ κ'/\v=iv r/\aA r):=by
 have:=YK hn h.g h.t h.p hk h.e hi h.q h.o h.pa h.fl (iK 1) f
 try unfold vl at this
 rw[L.n,L.g,L.t,L.s,L.k,L.e,L.p.k,L.p.q,L.p.o,L.p.p,L.p.f]at this;exact this
def UP{L:LM}{l:LI}{H:List (Hd×Nat)}{n N:Nat}(ho:gO tH 32 (n,46005) κ a c (H.map Prod.fst))(R:fQ tI64 135002 2 κ L a1 c1 l H N)(hH:κ'.H=κ.H)(hf:∀b,5000<=(κ.tag b).2->κ'.fr b=0/\κ'.tag b=(0,b)):FV κ' a c L (H.map Prod.fst)/\∀g∈ft a L.length c (H.map Prod.fst),g<κ.H.size/\((κ.tag g).2=46005\/(κ.tag g).2=135002/\(0<l.length->(κ.tag g).1≠N)):=by
 have hl:(H.map Prod.fst).length=L.length:=by rw[dy];exact R.len
 have hrow:∀(i:Nat)(hd:Hd),(H.map Prod.fst)[i]?=some hd->∃N',H[i]?=some (hd,N')/\∃x,L[i]?=some x/\hd.2.1=x.length/\dX tI64 2 135002 N' κ hd.1 hd.2.2 x:=by
   intro i hd hi;rw[cw]at hi;obtain⟨y,hy,e⟩:=ia.1 hi;subst e;have hil:i<L.length:=R.len▸(cv.1 hy).1;have:=R.row i _ y (cn hil) hy;exact⟨y.2,hy,_,cn hil,this.1,this.2⟩
 have hrb:∀(i:Nat)(hd:Hd),(H.map Prod.fst)[i]?=some hd->∀g∈rb hd,∃N',H[i]?=some (hd,N')/\0<hd.2.1/\g<κ.H.size/\κ.tag g=(N',135002):=by
   intro i hd hi g f;obtain⟨N',v,x,_,u,m⟩:=hrow i hd hi;have:=jg (c':=hd.2.2) m.o.2 g (by rw[←u];exact f);exact⟨N',v,u▸this.2.2.2,this.1,this.2.1⟩
 refine⟨⟨hl,?_,λi x hd hx hhd=>?_,λi j hd hd' hij hi hj g f hg'=>?_,λi hd hi g f hg'=>?_⟩,λg f=>?_⟩
 ·refine oh (κ:=κ) (τ:=(n,46005)) (λxs w=>w.flat ID) rfl rfl ho.1 ho.2 hH (λb hb r=>hf b ?_);obtain⟨_,b',e,_,z,_⟩:=ho.2 r;rw[hb]at e;injection e with e;injection e with e;subst e;rw[z];show 5000<=46005;omega
 ·obtain⟨N',_,x',A,u,m⟩:=hrow i hd hhd;obtain rfl:=sj<|hx.symm.trans A;refine⟨u,oh (κ:=κ) (τ:=(N',135002)) (λxs w=>w.flat iE) rfl rfl m.o.1 m.o.2 hH (λb hb r=>hf b ?_)⟩;obtain⟨_,b',e,_,z,_⟩:=m.o.2 r;rw[hb]at e;injection e with e;injection e with e;subst e;rw[z];show 5000<=135002;omega
 ·obtain⟨B,k1,k2,_,k⟩:=hrb i hd hi g f;obtain⟨F,C,D,_,E⟩:=hrb j hd' hj g hg';have:=k.symm.trans E;injection this with e _
  exact I' R.pw k1 C hij k2 D e
 ·obtain⟨B,k1,k2,_,k⟩:=hrb i hd hi g f;have:=jg (c':=c) ho.2 g (by rw[hl];exact hg');have:=k.symm.trans this.2.1;injection this with _ h;cases h
 rcases er.1 f with h | h
 ·have:=jg (c':=c) ho.2 g (by rw[hl];exact h);exact⟨this.1,.inl (by rw[this.2.1])⟩
 obtain⟨hd,v,A⟩:=ϭ.1 h;obtain⟨i,hi⟩:=cz v;obtain⟨B,k1,k2,k3,k⟩:=hrb i hd hi g A;exact⟨k3,.inr ⟨by rw[k],λr=>by rw[k];exact R.ne _ (fe k1) k2 r⟩⟩
def lab(Ns Np ns np:Nat)(a:aN):Nat:=if a.2=44003\/a.2=44004\/a.2=126004 then 0 else if a.2=129001 then(if a.1=Ns/\0<ns then 0 else 1)else if a.2=46003 then 2 else if a.2=46004 then 3 else if a.2=135002 then(if a.1=Np/\0<np then 4 else 5)else if a.2=46005 then 5 else 9
def vF{d:Type}{t:Ty d}{e:TypeId}{l:List d}{S N}(F:FlatT t)(h:gO t e (N,S) κ a c l)(hS:5000<=S)(hH:κ'.H=κ.H)(hf:∀b,5000<=(κ.tag b).2->κ'.fr b=0/\κ'.tag b=(0,b)):
 VG t e κ' a c l/\∀g∈rb (a,l.length,c),g<κ.H.size/\κ.tag g=(N,S)/\0<l.length:=by
 refine⟨oh (κ:=κ) (τ:=(N,S)) (λxs f=>f.flat F) rfl rfl h.1 h.2 hH (λb hb i=>hf b ?_),λg j=>?_⟩
 ·obtain⟨_,b',e,_,k,_⟩:=h.2 i;rw[hb]at e;injection e with e;injection e with e;subst e;rw[k];exact hS
 have:=jg (c':=c) h.2 g j;exact⟨this.1,this.2.1,this.2.2.2⟩
def UR(h:EntO κ a c a1 c1 a2 c2 a3 c3 a4 c4 a5 c5 a6 c6 a7 c7 x)(hH:κ'.H=κ.H)(hf:∀b,5000<=(κ.tag b).2->κ'.fr b=0/\κ'.tag b=(0,b)):
 ∃Hs Hf G,EV κ' a c a1 c1 a2 c2 a3 c3 a4 c4 a5 c5 a6 c6 a7 c7 x Hs Hf G/\∀g∈fE a c a1 c1 a2 c2 a3 c3 a4 c4 a5 c5 a6 c6 a7 c7 x Hs Hf,g<κ.H.size/\5000<=(κ.tag g).2:=by
 obtain⟨⟨Ns,d,Ne,he,hne⟩,⟨Nq,hq⟩,⟨No,ho⟩,H,Np,⟨Nf,hfo⟩,R⟩:=h;obtain⟨Hs,V,hV⟩:=UF d hH hf;obtain⟨Ve,te⟩:=vF iW he.o (by decide) hH hf;obtain⟨Vq,tq⟩:=vF iW hq (by decide) hH hf;obtain⟨Vo,tt'⟩:=vF iW ho (by decide) hH hf;obtain⟨Vp,tp⟩:=vF iE R.pa.o (by decide) hH hf;obtain⟨Vf,tf⟩:=UP hfo R hH hf;obtain⟨G,hφ⟩:∃G:Nat->Nat,G=λg=>if g<κ.H.size then lab Ns Np x.2.1.2.1.length x.2.2.2.2.2.2.1.length (κ.tag g)else 9:=⟨_,rfl⟩;have hl:∀{g i},g<κ.H.size->lab Ns Np x.2.1.2.1.length x.2.2.2.2.2.2.1.length (κ.tag g)=i->G g=i:=λk j=>by rw[hφ];show(if _ then _ else _)=_;rw[Ϙ k];exact j
 refine⟨Hs,H.map Prod.fst,G,⟨V,Ve,⟨Vq,Vo,Vp,Vf,λg f=>hl (tq g f).1 ?_,λg f=>hl (tt' g f).1 ?_,λg f=>hl (tp g f).1 ?_,λg f=>hl (tf g f).1 ?_⟩,λg f=>hl (hV g f).1 ?_,λg f=>hl (te g f).1 ?_,λg f=>?_⟩,λg f=>?_⟩
 ·rw[(tq g f).2.1];rfl
 ·rw[(tt' g f).2.1];rfl
 ·rw[(tp g f).2.1];show(if Np=Np/\0<x.2.2.2.2.2.2.1.length then 4 else 5)=4;exact Ϙ ⟨rfl,(tp g f).2.2⟩
 ·rcases(tf g f).2 with h |⟨h,h'⟩
  ·unfold lab;rw[h];rfl
  unfold lab;rw[h];show(if(κ.tag g).1=Np/\0<x.2.2.2.2.2.2.1.length then 4 else 5)=5;exact ϙ (λj=>h' j.2 j.1)
 ·rcases(hV g f).2 with h |⟨h,h'⟩
  ·exact Ϙ h
  rw[h];show(if Ns=Ns/\0<x.2.1.2.1.length then 0 else 1)=0;exact Ϙ ⟨rfl,h'⟩
 ·rw[(te g f).2.1];show(if Ne=Ns/\0<x.2.1.2.1.length then 0 else 1)=1;exact ϙ (λj=>hne j.2 (te g f).2.2 j.1.symm)
 ·rw[hH];rcases gj g κ.H.size with h | h
  ·exact h
  rw[hφ]at f;have f:(if g<κ.H.size then lab Ns Np x.2.1.2.1.length x.2.2.2.2.2.2.1.length (κ.tag g)else 9)<9:=f;rw[ϙ om]at f;omega
 rcases er.1 f with f | f
 ·rcases er.1 f with f | f
  ·refine⟨(hV g f).1,?_⟩;rcases(hV g f).2 with(h | h | h) |⟨h,_⟩<;>rw[h]<;>first | decide |(show 5000<=129001;decide)
  exact⟨(te g f).1,by rw[(te g f).2.1];show 5000<=129001;omega⟩
 rcases er.1 f with f | f
 ·rcases er.1 f with f | f
  ·rcases er.1 f with f | f
   ·exact⟨(tq g f).1,by rw[(tq g f).2.1];show 5000<=46003;omega⟩
   exact⟨(tt' g f).1,by rw[(tt' g f).2.1];show 5000<=46004;omega⟩
  exact⟨(tp g f).1,by rw[(tp g f).2.1];show 5000<=135002;omega⟩
 refine⟨(tf g f).1,?_⟩;rcases(tf g f).2 with h |⟨h,_⟩<;>rw[h]<;>decide
def UQ(V:EV κ a c a1 c1 a2 c2 a3 c3 a4 c4 a5 c5 a6 c6 a7 c7 x Hs Hf G)(hH:κ'.H=κ.H)(hf:∀b∈fE a c a1 c1 a2 c2 a3 c3 a4 c4 a5 c5 a6 c6 a7 c7 x Hs Hf,jt κ b<=κ'.fr b):EntS κ' a c a1 c1 a2 c2 a3 c3 a4 c4 a5 c5 a6 c6 a7 c7 x:=by
 have j:=UE V.s hH λb hb=>hf b<|eu _<|eu _ hb;have hp:∀b∈fQz a4 c4 a5 c5 a6 c6 a7 c7 x.2.2.2 Hf,jt κ b<=κ'.fr b:=λb hb=>hf b<|ϝ _ hb;refine⟨j.1,j.2.1,j.2.2,kw (λxs f=>f.flat iW) rfl rfl V.e hH λb hb=>hf b<|eu _<|ϝ _ hb,
   kw (λxs f=>f.flat iW) rfl rfl V.p.q hH λb hb=>hp b<|eu _<|eu _<|eu _ hb,
   kw (λxs f=>f.flat iW) rfl rfl V.p.o hH λb hb=>hp b<|eu _<|eu _<|ϝ _ hb,
   kw (λxs f=>f.flat iE) rfl rfl V.p.p hH λb hb=>hp b<|eu _<|ϝ _ hb,?_⟩
 have hm:(Hf.map λh=>(h,0)).map Prod.fst=Hf:=by rw[List.map_map];exact List.map_id'' (λ_=>rfl) _
 refine kw (t:=tH) (λxs f=>CT (H:=Hf.map λh=>(h,0)) (by rw[dy];exact V.p.f.len) (λi y h hy hh=>?_) (by rw[hm];exact f.flat ID)) V.p.f.len.symm rfl V.p.f.out hH λb hb=>hp b<|ϝ _<|eu _ (by rw[V.p.f.len]at hb;exact hb);rw[cw]at hh;obtain⟨hd,hhd,e⟩:=ia.1 hh;subst e;have:=V.p.f.row i y hd hy hhd;refine⟨this.1,kw (λxs f=>f.flat iE) rfl rfl this.2 hH λb hb=>hp b<|ϝ _<|ϝ _<|ϭ.2 ⟨hd,fe hhd,?_⟩⟩;rw[←this.1]at hb;exact hb
def Vb{y}(L:LenE y x):fE a c a1 c1 a2 c2 a3 c3 a4 c4 a5 c5 a6 c6 a7 c7 y Hs Hf=fE a c a1 c1 a2 c2 a3 c3 a4 c4 a5 c5 a6 c6 a7 c7 x Hs Hf:=by
 unfold fE fS fQz;rw[L.g,L.t,L.s,L.e,L.p.q,L.p.o,L.p.p,L.p.f]
end
def Wq{κ:K}{p0:BS}(hle:p0.length<=1048576)(G0:Glob κ)(hT:∀b,(κ.tag b).2<5000){w m}(hspec:uf p0=some w)(himpl:Ap p0=some w)(heq:uD w.1 w.1=some true)(hmk:B_ w.1 1=some m)(hheld:tY m.2 1=some m.1)(j9:0<=m.1):fP 3 #[strV p0] κ (λv κ'=>Step [] κ κ'/\v=tt):=by
 have Q:p0.length<=9223372036854775807:=by omega
 refine ϔ 82 [] λe=>cT 1<|cs<|cT 3 ?_;refine cf ?_ kr<|(show _=bW ((p0.length:Int)>1048576) by kernel_rfl).trans<|congrArg _<|Ϣ om;refine aG<|cO 1<|oC e (Za Q hspec) ?_;rintro i4 k0 e _ ⟨e0,n0,e1,n1,e2,n2,e3,n3,e4,n4,e5,n5,e6,n6,e7,n7,rfl,R,hn,r,hi⟩;refine od 4<|oA 37 5 [strV ([]:BS),aF,aF,aF,iv 0,aF,iv 0,aF,aF,aF,aF] e λS i5 e i0 n=>?_;have R:=R.X i0;refine oS 0 (EC e0 n0 e1 n1 e2 n2 e3 n3 e4 n4 e5 n5 e6 n6 e7 n7 w.1) n e λi e i1 n=>?_;have R:=R.X i1;refine od 2<|aH<|od 1 ?_;obtain⟨κr,hκr⟩:∃κr:K,κr=⟨i.H,i.fr,λb=>if b<κ.H.size then i.tag b else(κ.H.size,5)⟩:=⟨_,rfl⟩;have hH:κr.H=i.H:=by rw[hκr]
 have hF:κr.fr=i.fr:=by rw[hκr]
 have hTr:∀b,(κr.tag b).2<5000:=λb=>by
   rw[hκr];show(if b<κ.H.size then i.tag b else(κ.H.size,5)).2<5000;split
   · rename_i h;rw[(e.2.1 b h si).2.2];exact hT b
   · show 5<5000;omega
 have hsr:Step [] κ κr:=by
   refine⟨by rw[hH];exact e.1,λb hb hn=>?_,λb hb=>?_,λb hb hf=>?_⟩
   · have:=e.2.1 b hb hn
     refine⟨by rw[hH];exact this.1,by rw[hF];exact this.2.1,?_⟩;rw[hκr];show(if b<κ.H.size then i.tag b else(κ.H.size,5))=_;rw[Ϙ hb];exact this.2.2
   · have:=e.2.2.1 b hb
     refine⟨by rw[hF];exact this.1,λo ho=>?_⟩;have:=this.2 o ho;unfold K.cell at this ⊢;rw[hH];exact this
   · have:=e.2.2.2 b hb hf
     refine⟨?_,?_⟩
     · rw[hκr];show(if b<κ.H.size then i.tag b else(κ.H.size,5))=_
       rw[Ϙ hb];exact this.1
     · have:=this.2;unfold K.shp at this ⊢;rw[hH];exact this
 have Br:aI (κ.H.size,5) κr S (EC e0 n0 e1 n1 e2 n2 e3 n3 e4 n4 e5 n5 e6 n6 e7 n7 w.1) 37:=by
   refine⟨by rw[hH];exact n.obj,by rw[hF];exact n.fr,?_,n.ge⟩;rw[hκr];show(if S<κ.H.size then i.tag S else(κ.H.size,5))=_;rw[ϙ (by have:=n.ge;simp only at this;omega)]
 have w5:=R.tf hH hF;refine kZ hH<|aQ 25 (LX Q (G0.X hsr) himpl) ?_;rintro _ i6 ⟨hk,u,x,a1,y,a2,c2,z,A,B,C,D,E,G,H,I,J,rfl,_,F,_,_,_,_⟩;refine od 4<|xT 6 37 (κr.H.size,6) hk.1 [strV ([]:BS),aF,aF,aF,iv 0,aF,iv 0,aF,aF,aF,aF] λN i7 h6 f=>?_;have hk:=hk.tr0 h6;have F:=F.X h6;refine zB (b:=N) (off:=0) (T:=37) (.agg (EC u x a1 y a2 c2 z A B C D E G H I J w.1).toArray) (EC u x a1 y a2 c2 z A B C D E G H I J w.1) (EC u x a1 y a2 c2 z A B C D E G H I J w.1) kr kr f rfl kr kr kr rfl λi8 h7 _ U=>?_;have hk:=hk.trB f.ge h7;have F:=F.X h7;have f:=U;refine dT 2<|cs<|aM<|oN 29 37 (EC u x a1 y a2 c2 z A B C D E G H I J w.1) (f.at.part 0 11).2<|oN 30 37 (EC e0 n0 e1 n1 e2 n2 e3 n3 e4 n4 e5 n5 e6 n6 e7 n7 w.1) ((Br.Y hk).at.part 0 11).2<|aQ 31 (Oz F.s (w5.X hk) hn r hi hn r hi heq) ?_;rintro _ k ⟨X,rfl⟩;have hk:=hk.tr0 X;have F:=F.X X;have f:=f.Y X;refine od 4 ?_;refine op 36 ff ?_ kr (λW=>(show _=Result.ok (Next.value<|Value.bool<|!(w.2.1=w.2.1:Ϛ)) W by kernel_rfl).trans si);refine od 4 ?_;refine op 41 ff ?_ kr (λW=>(show _=Result.ok (Next.value<|Value.bool<|!(w.2.2=w.2.2:Ϛ)) W by kernel_rfl).trans si);refine dT 1<|cf<|aG<|cO 1<|aH<|oN 43 37 (EC u x a1 y a2 c2 z A B C D E G H I J w.1) (f.at.part 0 11).2<|od 1 ?_;obtain⟨κu,hκu⟩:∃κu:K,κu=⟨k.H,λb=>if b<κr.H.size then k.fr b else 0,λb=>if b<κr.H.size then k.tag b else(0,b)⟩:=⟨_,rfl⟩;have hHu:κu.H=k.H:=by rw[hκu]
 have hnew:∀b,5000<=(k.tag b).2->κr.H.size<=b:=λb hb=>by
   rcases gj b κr.H.size with h | h
   · rw[(hk.2.1 b h si).2.2]at hb
     have:=hTr b;omega
   · exact h
 have hku:Step [] κr κu:=by
   refine⟨by rw[hHu];exact hk.1,λb hb hn=>?_,λb hb=>?_,λb hb hf=>?_⟩
   · have:=hk.2.1 b hb hn
     refine⟨by rw[hHu];exact this.1,?_,?_⟩
     · rw[hκu];show(if b<κr.H.size then k.fr b else 0)=_;rw[Ϙ hb];exact this.2.1
     · rw[hκu];show(if b<κr.H.size then k.tag b else(0,b))=_;rw[Ϙ hb];exact this.2.2
   · have:=hk.2.2.1 b hb
     refine⟨?_,λo ho=>?_⟩
     · rw[hκu];show _<=(if b<κr.H.size then k.fr b else 0);rw[Ϙ hb];exact this.1
     · have:=this.2 o ho
       unfold K.cell at this ⊢;rw[hHu];exact this
   · have:=hk.2.2.2 b hb hf
     refine⟨?_,?_⟩
     · rw[hκu];show(if b<κr.H.size then k.tag b else(0,b))=_;rw[Ϙ hb];exact this.1
     · have:=this.2;unfold K.shp at this ⊢;rw[hHu];exact this
 obtain⟨Hs,Hf,q,V,hV⟩:=UR F hHu (λb hb=>by
   have:=hnew b hb;rw[hκu];exact⟨ϙ om,ϙ om⟩)
 have a:At κu N 0 (EC u x a1 y a2 c2 z A B C D E G H I J w.1):=by
   have:=f.at
   refine⟨by rw[hHu];exact this.1,λj v hj=>?_⟩;have:=this.2 j v hj;unfold K.cell at this ⊢;rw[hHu];exact this
 refine kZ hHu<|aQ 45 (PE V r hi (iK 1) hmk) ?_;rintro _ c ⟨h8,rfl,hbm,V',L⟩;have hfS:∀g∈fE u x a1 y a2 c2 z A B C D E G H I J w.1 Hs Hf,κr.H.size<=g:=λg hg=>hnew g (hV g hg).2;have hku:=hku.trG hfS h8;have a:=a.X h8 (λh=>by
   have:=(hV N h).2;rw[f.tag]at this;have:5000<=6:=this;omega)
 refine od 1<|aH<|od 1<|aH<|oN 46 37 (EC u x a1 y a2 c2 z A B C D E G H I J w.1) (a.part 0 11).2<|od 1 ?_;obtain⟨κp,hκp⟩:∃κp:K,κp=⟨c.H,λb=>if b<κr.H.size then c.fr b else jt c b,c.tag⟩:=⟨_,rfl⟩;have hHp:κp.H=c.H:=by rw[hκp]
 have hk:Step [] κr κp:=by
   refine⟨by rw[hHp];exact hku.1,λb hb hn=>?_,λb hb=>?_,λb hb hf=>?_⟩
   · have:=hku.2.1 b hb hn
     refine⟨by rw[hHp];exact this.1,?_,by rw[hκp];exact this.2.2⟩;rw[hκp];show(if b<κr.H.size then c.fr b else jt c b)=_;rw[Ϙ hb];exact this.2.1
   · have:=hku.2.2.1 b hb
     refine⟨?_,λo ho=>?_⟩
     · rw[hκp];show _<=(if b<κr.H.size then c.fr b else jt c b);rw[Ϙ hb];exact this.1
     · have:=this.2 o ho
       unfold K.cell at this ⊢;rw[hHp];exact this
   · have:=hku.2.2.2 b hb hf
     refine⟨by rw[hκp];exact this.1,?_⟩;have:=this.2;unfold K.shp at this ⊢;rw[hHp];exact this
 have hfS':fE u x a1 y a2 c2 z A B C D E G H I J m.2 Hs Hf=fE u x a1 y a2 c2 z A B C D E G H I J w.1 Hs Hf:=Vb L;have l:=UQ (κ':=κp) V' hHp (λb hb=>by
   have:=hfS b (by rw[←hfS'];exact hb);rw[hκp];show jt c b<=(if b<κr.H.size then c.fr b else jt c b);rw[ϙ om];exact gd _)
 have a:At κp N 0 (EC u x a1 y a2 c2 z A B C D E G H I J w.1):=by
   refine⟨by rw[hHp];exact a.1,λj v hj=>?_⟩;have:=a.2 j v hj;unfold K.cell at this ⊢;rw[hHp];exact this
 refine kZ hHp ?_;have hn':m.2.1.length<=9223372036854775807:=by rw[L.n];exact hn
 have hb12':aA m.2.2.1.2.2:=by rw[L.k];exact r
 have hi':aA m.2.2.2.2.1:=by rw[L.p.k];exact hi
 refine aQ 48 (Ny l hn' hb12' hi' hheld L) ?_;rintro _ j1 ⟨Y,rfl,j2⟩;have hk:=hk.tr0 Y;have l:=l.X Y;have a:=a.Y Y;refine dT 1<|cs<|cO 1 ?_;refine op 50 ff ?_ kr (λW=>(show _=Result.ok (Next.value<|bW (m.1<0)) W by kernel_rfl).trans<|congrArg (λb=>Result.ok (Next.value<|Value.bool b) W)<|Ϣ om);refine ot<|cf<|aG<|cs<|cO 2 ?_;refine op 53 ff ?_ kr (λW=>(show _=Result.ok (Next.value<|Value.bool<|!(m.1=m.1:Ϛ)) W by kernel_rfl).trans si);refine ot<|cf<|aG<|cO 1<|aQ 56 (LX Q (G0.X<|hsr.tr0 hk) himpl) ?_;rintro _ Z ⟨a8,b0,d0,b1,d1,b2,d2,b3,d3,b4,d4,b5,d5,b6,d6,b7,d7,rfl,_,F2,_,_,_,_⟩;have hk:=hk.tr0 a8;have l:=l.X a8;have a:=a.Y a8;refine od 4<|uw (d:=11) (T:=37) (Z.H.size,7) (gd _) [strV ([]:BS),aF,aF,aF,iv 0,aF,iv 0,aF,aF,aF,aF] kr kr kr λb8 j3 O M=>?_;have j4:Z.H.size<=b8:=M.ge;have k1:=a.1;have hkr:=hk.1;have hk:=hk.tr0 O;have l:=l.X O;have F2:=F2.X O;have a:=a.Y O;refine zB (b:=b8) (off:=0) (T:=37) (.agg (EC b0 d0 b1 d1 b2 d2 b3 d3 b4 d4 b5 d5 b6 d6 b7 d7 w.1).toArray) (EC b0 d0 b1 d1 b2 d2 b3 d3 b4 d4 b5 d5 b6 d6 b7 d7 w.1) (EC b0 d0 b1 d1 b2 d2 b3 d3 b4 d4 b5 d5 b6 d6 b7 d7 w.1) kr kr M rfl kr kr kr rfl λj5 P _ b9=>?_;have hk:=hk.trB om P;have l:=l.X P;have F2:=F2.X P;have a:=a.X P (λh=>by have:N=b8:=(by simpa using h);omega);have M:=b9;refine dT 2<|cs<|aM<|oN 60 37 (EC b0 d0 b1 d1 b2 d2 b3 d3 b4 d4 b5 d5 b6 d6 b7 d7 w.1) (M.at.part 0 11).2<|oN 61 37 (EC e0 n0 e1 n1 e2 n2 e3 n3 e4 n4 e5 n5 e6 n6 e7 n7 w.1) ((Br.Y hk).at.part 0 11).2<|aQ 62 (Oz F2.s (w5.X hk) hn r hi hn r hi heq) ?_;rintro _ j6 ⟨c8,rfl⟩;have hk:=hk.tr0 c8;have l:=l.X c8;have a:=a.Y c8;refine od 4 ?_;refine op 67 ff ?_ kr (λW=>(show _=Result.ok (Next.value<|Value.bool<|!(w.2.1=w.2.1:Ϛ)) W by kernel_rfl).trans si);refine od 4 ?_;refine op 72 ff ?_ kr (λW=>(show _=Result.ok (Next.value<|Value.bool<|!(w.2.2=w.2.2:Ϛ)) W by kernel_rfl).trans si);refine dT 1<|cf<|aG<|cO 1<|aH<|oN 74 37 (EC u x a1 y a2 c2 z A B C D E G H I J w.1) (a.part 0 11).2<|od 1<|aQ 76 (Ny l hn' hb12' hi' hheld L) ?_;rintro _ j7 ⟨i3,rfl,j8⟩;have hk:=hk.tr0 i3;refine dT 1<|cs<|cO 1 ?_;refine op 78 ff ?_ kr (λW=>(show _=Result.ok (Next.value<|bW (m.1<0)) W by kernel_rfl).trans<|congrArg (λb=>Result.ok (Next.value<|Value.bool b) W)<|Ϣ om);refine ot<|cf<|aG<|cs<|cO 2 ?_;refine op 81 ff ?_ kr (λW=>(show _=Result.ok (Next.value<|Value.bool<|!(m.1=m.1:Ϛ)) W by kernel_rfl).trans si);exact ot<|cf<|aG<|cT 1<|aC<|rT 2 tt ⟨hsr.tr0 hk,rfl⟩
def PS{k}(a:1<=k)(b:k<=4398046511104):∃t,kO k=some t:=by
 unfold kO Mi;rw[ϙ so];have key:=zy (F:=Ej) (λs=>0<=s.1/\s.1+s.2.length<=4398046511104) (λs=>s.1.toNat) (λt=>t.length<=4398046511104) ?_ (k,[]) ⟨by show 0<=k;omega,by simpa using b⟩
 ·obtain⟨t,ht,hl⟩:=key;rw[ht];unfold dO;simp only[gy];rw[Ϙ so];exact⟨_,rfl⟩
 ·rintro⟨n,acc⟩ ⟨a,b⟩;simp only at a b;unfold Ej;obtain⟨u,rfl⟩:=ba a;by_cases hn:(u:Int)>0
  ·left;have htd:Int.tdiv (u:Int) 10=((u / 10:Nat):Int):=rfl;have hw:aB (((u / 10:Nat):Int))=((u / 10:Nat):Int):=dH ⟨by omega,by omega⟩;rw[Ϙ (by simpa using hn)];unfold dO f_;rw[Ϙ so];simp only[gy,htd,hw];exact⟨_,rfl,⟨by simp only[];omega,by simp;omega⟩,by simp only[bb];omega⟩
  ·right;rw[ϙ (by simpa using hn)];exact⟨_,rfl,by simp only[];omega⟩
noncomputable def vA(k:Int):List UInt8:=(kO k).getD []
def Cn{k}(a:1<=k)(b:k<=4398046511104):kO k=some (vA k):=by
 obtain⟨t,ht⟩:=PS a b;unfold vA;rw[ht];rfl
def vo{g:Type}{F:List g×Int×Int->Option ((List g×Int×Int) ⊕ (List g×Int))}(pos:Nat->Int)(mk:Nat->g->g)(l:List g)(b:∀(m:List g)i(x:g),m.length=l.length->l[i]?=some x->m[i]?=some x->F (m,pos i,(i:Int))=some (.inl (m.set i (mk i x),pos (i+1),((i+1:Nat):Int))))(a:∀m:List g,m.length=l.length->F (m,pos l.length,(l.length:Int))=some (.inr (m,pos l.length))):
  ∃l',iter F (l,pos 0,0)=some (l',pos l.length)/\l'.length=l.length/\∀j(y:g),l'[j]?=some y->∃x,l[j]?=some x/\y=mk j x:=by
 have key:=zy (F:=F) (λs=>∃i:Nat,i<=l.length/\s.2=(pos i,(i:Int))/\s.1.length=l.length/\(∀j:Nat,i<=j->s.1[j]?=l[j]?)/\∀j(y:g),j<i->s.1[j]?=some y->∃x,l[j]?=some x/\y=mk j x) (λs=>(l.length - s.2.2).toNat)
  (λz=>z.2=pos l.length/\z.1.length=l.length/\∀j(y:g),z.1[j]?=some y->∃x,l[j]?=some x/\y=mk j x) ?_ (l,pos 0,0) ⟨0,Ϧ _,rfl,rfl,λ_ _=>rfl,λj y hj=>x4 hj<|Nat.not_lt_zero _⟩
 ·obtain⟨⟨l',k'⟩,hz,e,a,c⟩:=key;simp only at e;subst e;exact⟨l',hz,a,c⟩
 ·rintro⟨m,q,w⟩ ⟨i,hi,e,hm,hb,ha⟩;injection e with d f
  subst d;subst f;simp only at hm hb ha;by_cases hlt:i<l.length
  ·left;have hx:=cn hlt;refine⟨_,b m i _ hm hx<|(hb i<|gd _).trans hx,⟨i+1,hlt,rfl,by simpa using hm,λj hj=>?_,λj y hj hy=>?_⟩,by simp only[];omega⟩
   ·show(m.set i _)[j]?=_;rw[zK om];exact hb j om
   ·have hy:(m.set i<|mk i l[i])[j]?=some y:=hy;by_cases e:i=j
    ·subst e;rw[zZ om]at hy;injection hy with hy
     exact⟨_,hx,hy.symm⟩
    ·rw[zK e]at hy;exact ha j y om hy
  ·right;have:i=l.length:=by omega
   subst this;exact⟨_,a m hm,rfl,hm,λj y hy=>ha j y (by have:=zz hy;simp only at this;omega) hy⟩
def vb{G:Int×Int->Option ((Int×Int) ⊕ (Int ⊕ Int))}(pos:Nat->Int)n(a:∀i,i<n->G (pos i,(i:Int))=some (.inl (pos (i+1),((i+1:Nat):Int))))(b:G (pos n,(n:Int))=some (.inr (.inl (pos n)))):
  iter G (pos 0,0)=some (.inl (pos n)):=by
 have key:=zy (F:=G) (λs=>∃i:Nat,i<=n/\s=(pos i,(i:Int))) (λs=>(n - s.2).toNat) (λz=>z=.inl (pos n)) ?_ (pos 0,0) ⟨0,Ϧ _,rfl⟩
 ·obtain⟨z,hz,rfl⟩:=key;exact hz
 ·rintro _ ⟨i,hi,rfl⟩;by_cases hlt:i<n
  ·exact .inl ⟨_,a i hlt,⟨i+1,hlt,rfl⟩,by simp only[];omega⟩
  ·have:i=n:=by omega
   subst this;exact .inr ⟨_,b,rfl⟩
def pS{a:Type}(g:a->Nat):List a->Nat->Nat
 |[],_=>0
 | _::_,0=>0
 | x::l,j+1=>g x+pS g l j
def Hv{a:Type}{g:a->Nat}(l:List a):pS g l 0=0:=by cases l<;>rfl
def Hw{a:Type}{g:a->Nat}:∀{l:List a} {j:Nat} {x:a},l[j]?=some x->pS g l (j+1)=pS g l j+g x
 |[],_,_,h=>by simp at h
 | y::l,0,x,h=>by
  obtain rfl:y=x:=by simpa using h
  show g y+pS g l 0=0+g y;rw[Hv];omega
 | y::l,j+1,x,h=>by
  have:pS g l (j+1)=pS g l j+g x:=Hw (by simpa using h);show g y+pS g l (j+1)=g y+pS g l j+g x;omega
def Di{c:Type}{g:c->Nat}{m}:∀{l:List c} (j:Nat),(∀x∈l,g x<=m)->pS g l j<=l.length*m
 |[],_,_=>by simp[pS]
 | _::_,0,_=>Ϧ _
 | y::l,j+1,h=>by
  have a:=Di (l:=l) j (λx hx=>h x (List.mem_cons_of_mem _ hx));have b:=h y List.mem_cons_self;show g y+pS g l j<=_;rw[du,gu];omega
def RW(l:List Gl)(hl:l.length<=1048576){k}(r:1<=k)(u:k<=1000000000000):
  ∃l',qt l k=some (k+2*(l.length:Int),l')/\l'.length=l.length/\AD l' k=some (k+2*(l.length:Int)):=by
 have key:=vo (F:=nn) (λj=>k+2*(j:Int)) (λj _=>(vA (k+2*(j:Int)),k+2*(j:Int)+1)) l (λm i x hm hx hmx=>?_) (λm hm=>?_)
 ·obtain⟨l',e,f,n⟩:=key;refine⟨l',?_,f,?_⟩
  ·unfold qt KV;simp only[Int.ofNat_zero,Int.mul_zero,Ϯ]at e;rw[e];rfl
  ·have hh:=vb (G:=xC l') (λj=>k+2*(j:Int)) l.length (λi hi=>?_) ?_
   ·unfold AD KX;simp only[Int.ofNat_zero,Int.mul_zero,Ϯ]at hh;rw[hh];rfl
   ·have a:i<l'.length:=by omega
    have hx:=cn a;obtain⟨_,_,hf⟩:=n i _ hx;have b:aB (k+2*(i:Int)+1)=k+2*(i:Int)+1:=dH ⟨by omega,by omega⟩;have c:aB (k+2*(i:Int)+1+1)=k+2*(i:Int)+1+1:=dH ⟨by omega,by omega⟩;have d:aB ((i:Int)+1)=(i:Int)+1:=dH ⟨by omega,by omega⟩;unfold xC;rw[Ϙ (by simp[a])];simp only[Cn (k:=k+2*(i:Int)) om om,zr hx,gy,hf,b,c,d,Ϟ];rw[ϙ si,ϙ si];congr 3;simp only[Int.natCast_add,Int.natCast_one];omega
   ·unfold xC;rw[ϙ (by simp[f])]
 ·have hlt:=zz hmx;have b:aB (k+2*(i:Int)+1)=k+2*(i:Int)+1:=dH ⟨by omega,by omega⟩;have c:aB (k+2*(i:Int)+1+1)=k+2*(i:Int)+1+1:=dH ⟨by omega,by omega⟩;have d:aB ((i:Int)+1)=(i:Int)+1:=dH ⟨by omega,by omega⟩;have h:∀x,(m.set i x)[i]?=some x:=λx=>zZ hlt;unfold nn;rw[Ϙ (by simp[hlt])];simp only[Cn (k:=k+2*(i:Int)) om om,zr hmx,gy,bb,zr<|h _,b,c,d,List.set_set];congr 4;omega
 ·unfold nn;rw[ϙ (by simp[hm])]
def jv(k:Int)(n:Nat):List Int:=(List.range n).map λ(j:Nat)=>k+(j:Int)
def Ix{k n i}(h:i<n):(jv k n)[i]?=some (k+(i:Int)):=by
 unfold jv;rw[cw,df h];rfl
def He{k n}:(jv k n).length=n:=by unfold jv;simp
def Gy(l:List Int)(hl:l.length<=1048576){k}(d:1<=k)(f:k<=1000000000000000):lX l k=some (k+(l.length:Int),jv k l.length):=by
 have key:=vo (F:=mN) (λj=>k+(j:Int)) (λj _=>k+(j:Int)) l (λm i x hm hx hmx=>?_) (λm hm=>?_)
 ·obtain⟨l',e,h,a⟩:=key;have:l'=jv k l.length:=by
   apply bp;intro j;by_cases hj:j<l.length
   ·have hx:=cn (l:=l') (i:=j) om;obtain⟨_,_,hf⟩:=a j _ hx;rw[hx,hf,Ix hj]
   ·rw[co om,co (by rw[He];omega)]
  unfold lX Kw;simp only[Int.ofNat_zero,Ϯ]at e;rw[e,this];rfl
 ·have hlt:=zz hmx;have b:aB (k+(i:Int)+1)=k+(i:Int)+1:=dH ⟨by omega,by omega⟩;have c:aB ((i:Int)+1)=(i:Int)+1:=dH ⟨by omega,by omega⟩;unfold mN;rw[Ϙ (by simp[hlt])];simp only[zr hmx,gy,bb,b,c];congr 4;omega
 ·unfold mN;rw[ϙ (by simp[hm])]
def GD n(hl:n<=1048576){k}(c:1<=k)(d:k<=1000000000000000):qg (jv k n) k=some (k+(n:Int)):=by
 have hh:=vb (G:=w_<|jv k n) (λj=>k+(j:Int)) n (λi hi=>?_) ?_
 ·unfold qg Kx;simp only[Int.ofNat_zero,Ϯ]at hh;rw[hh];rfl
 ·have a:aB (k+(i:Int)+1)=k+(i:Int)+1:=dH ⟨by omega,by omega⟩;have b:aB ((i:Int)+1)=(i:Int)+1:=dH ⟨by omega,by omega⟩;unfold w_;rw[Ϙ (by simp[He,hi])];simp only[zr<|Ix hi,gy,a,b,Ϟ];rw[ϙ si];congr 3;omega
 ·unfold w_;rw[ϙ (by simp[He])]
def Gx(l:List aP)(hl:l.length<=1048576){k}(u:1<=k)(v:k<=1000000000000000):
  ∃l',lQ l k=some (k+3*(l.length:Int),l')/\l'.length=l.length/\tQ l' k=some (k+3*(l.length:Int)):=by
 have key:=vo (F:=mS) (λj=>k+3*(j:Int)) (λj _=>((k+3*(j:Int),k+3*(j:Int)+1),k+3*(j:Int)+1+1)) l (λm i x hm hx hmx=>?_) (λm hm=>?_)
 ·obtain⟨l',e,h,r⟩:=key;refine⟨l',?_,h,?_⟩
  ·unfold lQ KK;simp only[Int.ofNat_zero,Int.mul_zero,Ϯ]at e;rw[e];rfl
  ·have hh:=vb (G:=wA l') (λj=>k+3*(j:Int)) l.length (λi hi=>?_) ?_
   ·unfold tQ KL;simp only[Int.ofNat_zero,Int.mul_zero,Ϯ]at hh;rw[hh];rfl
   ·have a:i<l'.length:=by omega
    have hx:=cn a;obtain⟨_,_,hf⟩:=r i _ hx;have b:aB (k+3*(i:Int)+1)=k+3*(i:Int)+1:=dH ⟨by omega,by omega⟩;have c:aB (k+3*(i:Int)+1+1)=k+3*(i:Int)+1+1:=dH ⟨by omega,by omega⟩;have d:aB (k+3*(i:Int)+1+1+1)=k+3*(i:Int)+1+1+1:=dH ⟨by omega,by omega⟩;have f:aB ((i:Int)+1)=(i:Int)+1:=dH ⟨by omega,by omega⟩;unfold wA;rw[Ϙ (by simp[a])];simp only[zr hx,gy,hf,b,c,f,d,Ϟ];rw[ϙ si,ϙ si,ϙ si];congr 3;simp only[Int.natCast_add,Int.natCast_one];omega
   ·unfold wA;rw[ϙ (by simp[h])]
 ·have hlt:=zz hmx;have b:aB (k+3*(i:Int)+1)=k+3*(i:Int)+1:=dH ⟨by omega,by omega⟩;have c:aB (k+3*(i:Int)+1+1)=k+3*(i:Int)+1+1:=dH ⟨by omega,by omega⟩;have d:aB (k+3*(i:Int)+1+1+1)=k+3*(i:Int)+1+1+1:=dH ⟨by omega,by omega⟩;have f:aB ((i:Int)+1)=(i:Int)+1:=dH ⟨by omega,by omega⟩;have n:∀x,(m.set i x)[i]?=some x:=λx=>zZ hlt;unfold mS;rw[Ϙ (by simp[hlt])];simp only[zr hmx,gy,bb,zr<|n _,b,c,f,d,List.set_set];congr 4;omega
 ·unfold mS;rw[ϙ (by simp[hm])]
def NJ(l:List aP)(hl:l.length<=1048576){k}(a:1<=k)(b:k<=1000000000000000):
  ∃l',qj l k=some (k+3*(l.length:Int),l')/\l'.length=l.length/\yD l' k=some (k+3*(l.length:Int)):=Gx l hl a b
def RV(l:List Tl)(hl:l.length<=1048576)(b:∀t∈l,t.2.length<=1048576){k}(v:1<=k)(r:k<=1000000000000):
  ∃l' n,AB l k=some (n,l')/\l'.length=l.length/\AC l' k=some n/\k<=n/\n<=k+1100000000000:=by
 obtain⟨pos,hp⟩:∃pos:Nat->Int,pos=λj=>k+(pS (λx:Tl=>1+x.2.length) l j:Int):=⟨_,rfl⟩;have p0:pos 0=k:=by rw[hp];show k+((pS (λx:Tl=>1+x.2.length) l 0:Nat):Int)=k;rw[Hv];omega
 have ps:∀{j x},l[j]?=some x->pos (j+1)=pos j+1+(x.2.length:Int):=λ{j x} h=>by rw[hp];show k+((pS (λx:Tl=>1+x.2.length) l (j+1):Nat):Int)=k+((pS (λx:Tl=>1+x.2.length) l j:Nat):Int)+1+(x.2.length:Int);rw[Hw h];omega
 have pb:∀j,k<=pos j/\pos j<=k+1100000000000:=λj=>by
  have r:=Di (g:=λx:Tl=>1+x.2.length) (m:=1048577) (l:=l) j (λx hx=>by have:=b x hx;omega);have c:l.length*1048577<=1048576*1048577:=gq _ hl;rw[hp];show k<=k+((pS (λx:Tl=>1+x.2.length) l j:Nat):Int)/\k+((pS (λx:Tl=>1+x.2.length) l j:Nat):Int)<=_;omega
 have key:=vo (F:=uB) pos (λj x=>(vA<|pos j,jv (pos j+1) x.2.length)) l (λm i x hm hx hmx=>?_) (λm hm=>?_)
 ·obtain⟨l',e,c,u⟩:=key;rw[p0]at e;refine⟨l',pos l.length,?_,c,?_,pb _⟩
  ·unfold AB;rw[e];rfl
  ·have hh:=vb (G:=xB l') pos l.length (λi hi=>?_) ?_
   ·unfold AC KW;rw[p0]at hh;rw[hh];rfl
   ·have a:i<l'.length:=by omega
    have hx:=cn a;obtain⟨x,hlx,hf⟩:=u i _ hx;have hb:=pb i;have hxl:=b x<|fe hlx;have d:aB (pos i+1)=pos i+1:=dH ⟨by omega,by omega⟩;have f:aB ((i:Int)+1)=(i:Int)+1:=dH ⟨by omega,by omega⟩;unfold xB;rw[Ϙ (by simp[a])];simp only[Cn (k:=pos i) om om,zr hx,gy,hf,d,f,Ϟ,GD x.2.length hxl (k:=pos i+1) om om];rw[ϙ si,ϙ so,ps hlx];rfl
   ·unfold xB;rw[ϙ (by simp[c])]
 ·have hlt:=zz hmx;have hb:=pb i;have hxl:=b x<|fe hx;have d:aB (pos i+1)=pos i+1:=dH ⟨by omega,by omega⟩;have f:aB ((i:Int)+1)=(i:Int)+1:=dH ⟨by omega,by omega⟩;unfold uB;rw[Ϙ (by simp[hlt])];simp only[Cn (k:=pos i) om om,zr hmx,gy,bb,d,f,Gy x.2 hxl (k:=pos i+1) om om];rw[ps hx];rfl
 ·unfold uB;rw[ϙ (by simp[hm])]
def SD(l:List (List Int))(hl:l.length<=1048576)(b:∀t∈l,t.length<=1048576){k}(u:1<=k)(f:k<=10000000000000):
  ∃l' n,BF l k=some (n,l')/\yE l' k=some n/\k<=n:=by
 obtain⟨pos,hp⟩:∃pos:Nat->Int,pos=λj=>k+(pS List.length l j:Int):=⟨_,rfl⟩;have p0:pos 0=k:=by rw[hp];show k+((pS List.length l 0:Nat):Int)=k;rw[Hv];omega
 have ps:∀{j x},l[j]?=some x->pos (j+1)=pos j+(x.length:Int):=λ{j x} h=>by rw[hp];show k+((pS List.length l (j+1):Nat):Int)=k+((pS List.length l j:Nat):Int)+(x.length:Int);rw[Hw h];omega
 have pb:∀j,k<=pos j/\pos j<=k+1100000000000:=λj=>by
  have f:=Di (g:=List.length) (m:=1048577) (l:=l) j (λx hx=>by have:=b x hx;omega);have d:l.length*1048577<=1048576*1048577:=gq _ hl;rw[hp];show k<=k+((pS List.length l j:Nat):Int)/\k+((pS List.length l j:Nat):Int)<=_;omega
 have key:=vo (F:=uy) pos (λj x=>jv (pos j) x.length) l (λm i x hm hx hmx=>?_) (λm hm=>?_)
 ·obtain⟨l',e,d,r⟩:=key;rw[p0]at e;refine⟨l',pos l.length,?_,?_,(pb _).1⟩
  ·unfold BF;rw[e];rfl
  ·have hh:=vb (G:=wB l') pos l.length (λi hi=>?_) ?_
   ·unfold yE KN;rw[p0]at hh;rw[hh];rfl
   ·have a:i<l'.length:=by omega
    have hx:=cn a;obtain⟨x,hlx,hf⟩:=r i _ hx;have hb:=pb i;have hxl:=b x<|fe hlx;have c:aB ((i:Int)+1)=(i:Int)+1:=dH ⟨by omega,by omega⟩;unfold wB;rw[Ϙ (by simp[a])];simp only[zr hx,gy,hf,c,GD x.length hxl (k:=pos i) om om];rw[ϙ so,ps hlx];rfl
   ·unfold wB;rw[ϙ (by simp[d])]
 ·have hlt:=zz hmx;have hb:=pb i;have hxl:=b x<|fe hx;have c:aB ((i:Int)+1)=(i:Int)+1:=dH ⟨by omega,by omega⟩;unfold uy;rw[Ϙ (by simp[hlt])];simp only[zr hmx,gy,bb,c,Gy x hxl (k:=pos i) om om];rw[ps hx];rfl
 ·unfold uy;rw[ϙ (by simp[hm])]
def PR{p}(h:ES p):∃m,B_ p 1=some m/\tY m.2 1=some m.1/\0<=m.1:=by
 obtain⟨_,⟨L,M,N,O,f⟩,i,j,n,u,a,v,w⟩:=h;obtain⟨gl,a1,a2,x⟩:=RW p.2.1.1.1 om (k:=1) om om;obtain⟨tl,k1,y,P,z,Q,R⟩:=RV p.2.1.1.2 om (λt ht=>by have:=f t ht;omega) (k:=1+2*(p.2.1.1.1.length:Int)) om om;obtain⟨sl,A,c2,B⟩:=Gx p.2.1.2.1 i (k:=k1) om om;obtain⟨el,d1,S,C⟩:=Gx p.2.2.1 j (k:=k1+3*(p.2.1.2.1.length:Int)) om om;obtain⟨ql,D,T,E⟩:=NJ p.2.2.2.2.1 n (k:=k1+3*(p.2.1.2.1.length:Int)+3*(p.2.2.1.length:Int)) om om;obtain⟨ol,b,U,c⟩:=NJ p.2.2.2.2.2.1 u (k:=k1+3*(p.2.1.2.1.length:Int)+3*(p.2.2.1.length:Int)+3*(p.2.2.2.2.1.length:Int)) om om;obtain⟨K,hK⟩:∃K:Int,K=k1+3*(p.2.1.2.1.length:Int)+3*(p.2.2.1.length:Int)+3*(p.2.2.2.2.1.length:Int)+3*(p.2.2.2.2.2.1.length:Int):=⟨_,rfl⟩;rw[←hK]at b c;have F:=Gy p.2.2.2.2.2.2.1 a (k:=K) om om;have G:=GD p.2.2.2.2.2.2.1.length a (k:=K) om om;obtain⟨fl,k2,H,I,V⟩:=SD p.2.2.2.2.2.2.2 v w (k:=K+(p.2.2.2.2.2.2.1.length:Int)) om om;refine⟨(k2,p.1,((gl,tl),sl,p.2.1.2.2),el,p.2.2.2.1,ql,ol,jv K p.2.2.2.2.2.2.1.length,fl),?_,?_,by simp only[];omega⟩
 ·unfold B_ GH EK Hk;simp only[a1,y,A,d1,D,b,F,H,gy]
 ·have J:yC (gl,tl) 1=some k1:=by
   unfold yC;simp only[x,gy];rw[ϙ so,z];simp only[gy];rw[ϙ so]
  have d:∀{l k r},tQ l k=some r->0<=r->tw l k=some r:=λe X=>by
   unfold tw;rw[e];simp only[gy];rw[ϙ so]
  unfold tY Fe Fj;simp only[J,gy];rw[ϙ so,d B om];simp only[gy];rw[ϙ so];simp only[gy];rw[ϙ so,d C om];simp only[gy];rw[ϙ so,E];simp only[gy];rw[ϙ so,c];simp only[gy];rw[ϙ so,G];simp only[gy];rw[ϙ so,I];simp only[gy];rw[ϙ so];simp only[gy];rw[ϙ so]
end Go.Lf
