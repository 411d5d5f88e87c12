import Derived.Test.YtfdinifiacaicaaGreatC
set_option linter.all false
set_option maxRecDepth 100000
set_option maxHeartbeats 4000000
namespace Go.Lf
open Go Go.Proofs
theorem zgs {b:K} {τ:Tag} {eP eG:TypeId} {a:OA} {n:Nat} {bs:List Nat} {L:LI} {ix r:Int} (F:Fst τ b eP eG a n bs L) (hn:0≤ix∧ix.toNat<bs.length) (e:iter (gstep L) ix=some r) :
 Fn Tryz.prog 157 #[pt (nb bs ix) 0] b (fun v c=>b=c∧v=pt (nb bs r) 0):=by
 refine fnc 13 [] Tryz.func157 Tryz.ntmps157 fun hs=>cT 1 (cs (cb 0 ?_))
 refine zj 0 (fun Z=>∀ (d:Env),Z (ups d [(0,pt (nb bs r) 0)]) b) ?_ fun f=>?_
 ·intro d
  exact zf (zb (cT 2 (crt (rT 2 (pt (nb bs r) 0) ⟨rfl,rfl⟩))))
 refine zp (F:=gstep L) (J:=fun s g c=>(∃ d,g=ups d [(0,pt (nb bs s) 0)])∧b=c∧(0≤s∧s.toNat<bs.length)) (s0:=ix) (x:=r) kr e ⟨⟨_,eY⟩,rfl,hn⟩ ?_
 rintro s _ _ ⟨⟨d,rfl⟩,rfl,hb⟩ yy hy hd
 unfold gstep at hy
 refine bE hy fun p hp hy=>?_
 have hl:=F.lead hp
 refine cs (cO 3 ?_)
 by_cases hz:p<0
 ·rw [if_pos hz] at hy
  have hl':b.cell (nb bs s) 0=some (.pointer none):=by rw [hl];unfold ldr;rw [if_pos hz]
  refine o1 6 245 (.pointer none) hl' (dT 1 (cf (cx 0 (zh ?_))))
  have hx:=hd _ (sj hy).symm
  subst hx
  refine zi ?_
  exact zq eY (f _)
 rw [if_neg hz] at hy
 have hl':b.cell (nb bs s) 0=some (pt (nb bs p) 0):=by rw [hl];unfold ldr;rw [if_neg hz]
 refine o1 6 245 (pt (nb bs p) 0) hl' (dT 1 (ct (ckt (cb 1 (cr (od 3 (o1 11 245 (pt (nb bs p) 0) hl' (od 1 (oe (zd ?_))))))))))
 exact ze (sj hy).symm ⟨⟨_,eY⟩,rfl,Int.not_lt.1 hz,F.rng s.toNat p (zie hp).2.2⟩
theorem zo2 {b:K} {p0:LP} {c:OA} {c2:Nat} {p1:Int} (g:Sl tPlaced b c c2 p0) (f:I64 p1) {r:Int} (a:zks p0 p1=some r) :
 Fn Tryz.prog 22 #[vl c p0 c2,iv p1] b (fun v d=>b=d∧v=iv r∧I64 r):=by
 refine fnc 12 [] Tryz.func22 Tryz.ntmps22 fun hs=>cO 1 (otx (dT 5 (cs (cT 2 ?_))))
 refine cc _ a ?_ ?_
 ·intro e a
  refine cT 1 (crt (zc ?_))
  obtain rfl:=sj a
  exact rT 4 (iv (-1)) ⟨rfl,rfl,(iK (-1))⟩
 intro e a
 refine ckt (cT 2 (crt ?_))
 obtain rfl:=sj a
 exact rT 4 (iv (w64 (p1 - (p0.length:Int)))) ⟨rfl,rfl,(zr _)⟩
theorem zku {b:K} {p0:LP} {c:OA} {c2:Nat} {p1:Int} (i:Sl tPlaced b c c2 p0) (f:I64 p1) {r:Int} (a:zeH p0 p1=some r) :
 Fn Tryz.prog 10 #[.agg #[vl c p0 c2],iv p1] b (fun v g=>Step [] b g∧v=iv r∧I64 r):=by
 refine fnc 12 [] Tryz.func10 Tryz.ntmps10 fun hs=>csr (xO 2 28 (b.H.size,10001) hs.1 [vl c p0 c2] fun n m j d=>?_)
 replace hs:=hs.tr0 j
 refine od 1 (otx (od 1 (o1 6 26 (vl c p0 c2) (d.at.one (o:=0) rfl) (od 1 (bE a fun k h a=>ocl 8 (zo2 (i.step hs) f h) ?_)))))
 rintro _ _ ⟨rfl,rfl,e⟩
 refine dT 1 (cs (cT 2 ?_))
 refine cc _ a ?_ ?_
 ·intro l a
  refine cT 1 (crt (zc ?_))
  obtain rfl:=sj a
  exact rT 4 (iv (-1)) ⟨hs,rfl,(iK (-1))⟩
 intro l a
 refine ckt (cT 2 (crt ?_))
 obtain rfl:=sj a
 exact rT 4 (iv k) ⟨hs,rfl,e⟩
theorem zri {b:K} {p0:BS×Int} {p1:Int} (g:p0.1.length≤9223372036854775807) (h:I64 p0.2) (i:I64 p1) {r:Int} (a:zk6 p0 p1=some r) :
 Fn Tryz.prog 60 #[.agg #[zy p0.1,iv p0.2],iv p1] b (fun v d=>Step [] b d∧v=iv r∧I64 r):=by
 refine fnc 13 [] Tryz.func60 Tryz.ntmps60 fun hs=>csr (xO 2 133 (b.H.size,60001) hs.1 [zy p0.1,iv p0.2] fun k j e c=>?_)
 replace hs:=hs.tr0 e
 refine od 1 (otx (od 2 (o1 7 9 (zy p0.1) (c.at.one (o:=0) rfl) (dT 3 (cs (cT 2 ?_))))))
 refine cc _ a ?_ ?_
 ·intro f a
  refine cT 1 (crt (zc ?_))
  obtain rfl:=sj a
  exact rT 4 (iv (-1)) ⟨hs,rfl,(iK (-1))⟩
 intro f a
 refine ckt (cT 2 (crt ?_))
 obtain rfl:=sj a
 exact rT 4 (iv (w64 (p1 - (p0.1.length:Int)))) ⟨hs,rfl,(zr _)⟩
theorem zqs {i:K} {p0:LG} {t:OA} {c2:Nat} {p1:Int} (N:Sl tGlue i t c2 p0) (R:I64 p1) {r:Int} (a:zmh p0 p1=some r) :
 Fn Tryz.prog 41 #[vl t p0 c2,iv p1] i (fun v j=>Step [] i j∧v=iv r∧I64 r):=by
 refine fnc 27 [] Tryz.func41 Tryz.ntmps41 fun hs=>cO 1 (otx (dT 5 (cs (cT 2 ?_))))
 refine cc _ a ?_ ?_
 ·intro k a
  refine cT 1 (crt (zc ?_))
  obtain rfl:=sj a
  exact rT 4 (iv (-1)) ⟨hs,rfl,(iK (-1))⟩
 intro k a
 refine ckt (cs (cT 1 (cb 0 ?_)))
 refine zj 0 (fun Z=>∀ (d:Int) (l:Env) (e:K),Step [] i e→I64 d→zjt d=some r→Z (ups l [(1,iv d)]) e) ?_ fun O=>?_
 ·intro d l e hs u a
  refine zf (zb (cT 2 (crt ?_)))
  obtain rfl:=sj a
  exact rT 4 (iv d) ⟨hs,rfl,u⟩
 refine bE a fun E w f=>zp (F:=zgP p0) (J:=fun b P j=>(∃ l,P=ups l [(0,vl t p0 c2),(1,iv b.1),(5,iv b.2)])∧Step [] i j∧I64 b.1∧I64 b.2) (s0:=(w64 (p1 - (p0.length:Int)),0)) (x:=E) kr w ⟨⟨_,eY⟩,hs,(zr _),(iK 0)⟩ ?_
 rintro b _ y ⟨⟨l,rfl⟩,hs,s,S⟩ L a g
 refine cs (cT 4 ?_)
 refine cc _ a ?_ ?_
 ·intro k a
  refine ckt (cs (cb 1 (cO 2 (bE a fun h z a=>?_))))
  obtain ⟨G,H,m,n,p,M,c,q⟩:=(N.step hs).idx z
  obtain ⟨_,_,rfl,⟨rfl,A⟩,⟨rfl,B⟩⟩:=q
  replace c:PubAt y G (H+b.2.toNat*2) [zy h.1,iv h.2]:=c
  refine oi 20 22 133 2 p0.length c2 .i64 b.2 m n p (oN 21 133 [zy h.1,iv h.2] (c.at.part 0 2).2 (od 1 (bE a fun T C a=>ocl 23 (zri A B s C) ?_)))
  rintro _ Q ⟨I,rfl,D⟩
  replace hs:=hs.tr0 I
  refine od 1 (otx (dT 2 ?_))
  refine cc _ a ?_ ?_
  ·intro k a
   refine cT 1 (crt (zg (zc ?_)))
   have hx:=g _ (sj a).symm
   subst hx
   replace a:=f
   refine zv (zg (zc ?_))
   obtain rfl:=sj a
   exact rT 4 (iv (-1)) ⟨hs,rfl,(iK (-1))⟩
  intro k a
  refine ck (zd (zb (cr (od 3 (oe ?_)))))
  exact ze (sj a).symm ⟨⟨_,eY⟩,hs,D,(zr _)⟩
 intro k a
 refine cx 0 (zh ?_)
 have hx:=g _ (sj a).symm
 subst hx
 replace a:=f
 refine zi ?_
 exact zq eY (O b.1  _ _ hs s a)
theorem ziC {b:K} {p0:LI} {c:OA} {c2:Nat} {p1:Int} (g:Sl tI64 b c c2 p0) (f:I64 p1) {r:Int} (a:zdE p0 p1=some r) :
 Fn Tryz.prog 24 #[vl c p0 c2,iv p1] b (fun v d=>b=d∧v=iv r∧I64 r):=by
 refine fnc 12 [] Tryz.func24 Tryz.ntmps24 fun hs=>cO 1 (otx (dT 5 (cs (cT 2 ?_))))
 refine cc _ a ?_ ?_
 ·intro e a
  refine cT 1 (crt (zc ?_))
  obtain rfl:=sj a
  exact rT 4 (iv (-1)) ⟨rfl,rfl,(iK (-1))⟩
 intro e a
 refine ckt (cT 2 (crt ?_))
 obtain rfl:=sj a
 exact rT 4 (iv (w64 (p1 - (p0.length:Int)))) ⟨rfl,rfl,(zr _)⟩
theorem zrh {c:K} {p0:BS×LI} {a2:OA} {d:Nat} {p1:Int} (l:p0.1.length≤9223372036854775807) (j:Sl tI64 c a2 d p0.2) (m:I64 p1) {r:Int} (a:zk4 p0 p1=some r) :
 Fn Tryz.prog 61 #[.agg #[zy p0.1,vl a2 p0.2 d],iv p1] c (fun v h=>Step [] c h∧v=iv r∧I64 r):=by
 refine fnc 19 [] Tryz.func61 Tryz.ntmps61 fun hs=>csr (xO 2 136 (c.H.size,61001) hs.1 [zy p0.1,vl a2 p0.2 d] fun p n k b=>?_)
 replace hs:=hs.tr0 k
 refine od 1 (otx (od 2 (o1 7 9 (zy p0.1) (b.at.one (o:=0) rfl) (dT 3 (cs (cT 2 ?_))))))
 refine cc _ a ?_ ?_
 ·intro e a
  refine cT 1 (crt (zc ?_))
  obtain rfl:=sj a
  exact rT 4 (iv (-1)) ⟨hs,rfl,(iK (-1))⟩
 intro e a
 refine ckt (cO 1 (o1 13 32 (vl a2 p0.2 d) (b.at.one (o:=1) rfl) (od 1 (bE a fun i f a=>ocl 15 (ziC (j.step hs) (zr _) f) ?_))))
 rintro _ _ ⟨rfl,rfl,g⟩
 refine dT 1 (cs (cT 2 ?_))
 refine cc _ a ?_ ?_
 ·intro e a
  refine cT 1 (crt (zc ?_))
  obtain rfl:=sj a
  exact rT 4 (iv (-1)) ⟨hs,rfl,(iK (-1))⟩
 intro e a
 refine ckt (cT 2 (crt ?_))
 obtain rfl:=sj a
 exact rT 4 (iv i) ⟨hs,rfl,g⟩
theorem zqq {i:K} {p0:LT} {w:OA} {c2:Nat} {p1:Int} (P:Sl tTile i w c2 p0) (T:I64 p1) {r:Int} (a:zmg p0 p1=some r) :
 Fn Tryz.prog 42 #[vl w p0 c2,iv p1] i (fun v j=>Step [] i j∧v=iv r∧I64 r):=by
 refine fnc 27 [] Tryz.func42 Tryz.ntmps42 fun hs=>cO 1 (otx (dT 5 (cs (cT 2 ?_))))
 refine cc _ a ?_ ?_
 ·intro k a
  refine cT 1 (crt (zc ?_))
  obtain rfl:=sj a
  exact rT 4 (iv (-1)) ⟨hs,rfl,(iK (-1))⟩
 intro k a
 refine ckt (cs (cT 1 (cb 0 ?_)))
 refine zj 0 (fun Z=>∀ (d:Int) (l:Env) (e:K),Step [] i e→I64 d→zjs d=some r→Z (ups l [(1,iv d)]) e) ?_ fun Q=>?_
 ·intro d l e hs y a
  refine zf (zb (cT 2 (crt ?_)))
  obtain rfl:=sj a
  exact rT 4 (iv d) ⟨hs,rfl,y⟩
 refine bE a fun G z f=>zp (F:=zgO p0) (J:=fun b R j=>(∃ l,R=ups l [(0,vl w p0 c2),(1,iv b.1),(5,iv b.2)])∧Step [] i j∧I64 b.1∧I64 b.2) (s0:=(w64 (p1 - (p0.length:Int)),0)) (x:=G) kr z ⟨⟨_,eY⟩,hs,(zr _),(iK 0)⟩ ?_
 rintro b _ A ⟨⟨l,rfl⟩,hs,s,U⟩ N a g
 refine cs (cT 4 ?_)
 refine cc _ a ?_ ?_
 ·intro k a
  refine ckt (cs (cb 1 (cO 2 (bE a fun h B a=>?_))))
  obtain ⟨H,I,m,n,p,O,c,q⟩:=(P.step hs).idx B
  obtain ⟨_,_,rfl,⟨rfl,C⟩,⟨t,u,rfl,L⟩⟩:=q
  replace c:PubAt A H (I+b.2.toNat*2) [zy h.1,vl t h.2 u]:=c
  refine oi 20 23 136 2 p0.length c2 .i64 b.2 m n p (oN 21 136 [zy h.1,vl t h.2 u] (c.at.part 0 2).2 (od 1 (bE a fun V D a=>ocl 23 (zrh C L s D) ?_)))
  rintro _ S ⟨M,rfl,E⟩
  replace hs:=hs.tr0 M
  refine od 1 (otx (dT 2 ?_))
  refine cc _ a ?_ ?_
  ·intro k a
   refine cT 1 (crt (zg (zc ?_)))
   have hx:=g _ (sj a).symm
   subst hx
   replace a:=f
   refine zv (zg (zc ?_))
   obtain rfl:=sj a
   exact rT 4 (iv (-1)) ⟨hs,rfl,(iK (-1))⟩
  intro k a
  refine ck (zd (zb (cr (od 3 (oe ?_)))))
  exact ze (sj a).symm ⟨⟨_,eY⟩,hs,E,(zr _)⟩
 intro k a
 refine cx 0 (zh ?_)
 have hx:=g _ (sj a).symm
 subst hx
 replace a:=f
 refine zi ?_
 exact zq eY (Q b.1  _ _ hs s a)
theorem zo1 {c:K} {p0:LG×LT} {d e:OA} {c2 f:Nat} {p1:Int} (t:Sl tGlue c d c2 p0.1) (f6:Sl tTile c e f p0.2) (m:I64 p1) {r:Int} (a:zkr p0 p1=some r) :
 Fn Tryz.prog 21 #[.agg #[vl d p0.1 c2,vl e p0.2 f],iv p1] c (fun v n=>Step [] c n∧v=iv r∧I64 r):=by
 refine fnc 18 [] Tryz.func21 Tryz.ntmps21 fun hs=>csr (xO 2 25 (c.H.size,21001) hs.1 [vl d p0.1 c2,vl e p0.2 f] fun z u p b=>?_)
 replace hs:=hs.tr0 p
 refine od 1 (otx (od 1 (o1 6 22 (vl d p0.1 c2) (b.at.one (o:=0) rfl) (od 1 (bE a fun y h a=>ocl 8 (zqs (t.step hs) m h) ?_)))))
 rintro _ w ⟨g,rfl,i⟩
 replace hs:=hs.tr0 g
 replace b:=b.step0 g
 refine dT 1 (cs (cT 2 ?_))
 refine cc _ a ?_ ?_
 ·intro j a
  refine cT 1 (crt (zc ?_))
  obtain rfl:=sj a
  exact rT 4 (iv (-1)) ⟨hs,rfl,(iK (-1))⟩
 intro j a
 refine ckt (cO 1 (o1 12 23 (vl e p0.2 f) (b.at.one (o:=1) rfl) (od 1 (bE a fun q k a=>ocl 14 (zqq (f6.step hs) i k) ?_))))
 rintro _ x ⟨s,rfl,l⟩
 replace hs:=hs.tr0 s
 refine dT 1 (cs (cT 2 ?_))
 refine cc _ a ?_ ?_
 ·intro j a
  refine cT 1 (crt (zc ?_))
  obtain rfl:=sj a
  exact rT 4 (iv (-1)) ⟨hs,rfl,(iK (-1))⟩
 intro j a
 refine ckt (cT 2 (crt ?_))
 obtain rfl:=sj a
 exact rT 4 (iv q) ⟨hs,rfl,l⟩
theorem zpM {c:K} {p0:TS×(LP)×Int} {d e f:OA} {c2 g h:Nat} {p1:Int} (w:Sl tGlue c d c2 p0.1.1) (f6:Sl tTile c e g p0.1.2) (x:Sl tPlaced c f h p0.2.1) (y:I64 p0.2.2) (j:I64 p1) {r:Int} (a:ziX p0 p1=some r) :
 Fn Tryz.prog 9 #[.agg #[vl d p0.1.1 c2,vl e p0.1.2 g,vl f p0.2.1 h,iv p0.2.2],iv p1] c (fun v q=>Step [] c q∧v=iv r∧I64 r):=by
 refine fnc 18 [] Tryz.func9 Tryz.ntmps9 fun hs=>csr (xO 2 30 (c.H.size,9001) hs.1 [vl d p0.1.1 c2,vl e p0.1.2 g,vl f p0.2.1 h,iv p0.2.2] fun C z s b=>?_)
 replace hs:=hs.tr0 s
 refine od 1 (otx (od 1 (oN 6 25 [vl d p0.1.1 c2,vl e p0.1.2 g] (b.at.part 0 2).2 (od 1 (bE a fun D k a=>ocl 8 (zo1 (w.step hs) (f6.step hs) j k) ?_)))))
 rintro _ A ⟨i,rfl,l⟩
 replace hs:=hs.tr0 i
 replace b:=b.step0 i
 refine dT 1 (cs (cT 2 ?_))
 refine cc _ a ?_ ?_
 ·intro m a
  refine cT 1 (crt (zc ?_))
  obtain rfl:=sj a
  exact rT 4 (iv (-1)) ⟨hs,rfl,(iK (-1))⟩
 intro m a
 refine ckt (cO 1 (oN 12 28 [vl f p0.2.1 h] (b.at.part 2 1).2 (od 1 (bE a fun t n a=>ocl 14 (zku (x.step hs) l n) ?_))))
 rintro _ B ⟨u,rfl,p⟩
 replace hs:=hs.tr0 u
 refine dT 1 (cs (cT 2 ?_))
 refine cc _ a ?_ ?_
 ·intro m a
  refine cT 1 (crt (zc ?_))
  obtain rfl:=sj a
  exact rT 4 (iv (-1)) ⟨hs,rfl,(iK (-1))⟩
 intro m a
 refine ckt (cT 2 (crt ?_))
 obtain rfl:=sj a
 exact rT 4 (iv t) ⟨hs,rfl,p⟩
theorem zk5 {b:K} {p0:LP} {c:OA} {c2:Nat} {p1:Int} (g:Sl tPlaced b c c2 p0) (f:I64 p1) {r:Int} (a:zhT p0 p1=some r) :
 Fn Tryz.prog 23 #[vl c p0 c2,iv p1] b (fun v d=>b=d∧v=iv r∧I64 r):=by
 refine fnc 12 [] Tryz.func23 Tryz.ntmps23 fun hs=>cO 1 (otx (dT 5 (cs (cT 2 ?_))))
 refine cc _ a ?_ ?_
 ·intro e a
  refine cT 1 (crt (zc ?_))
  obtain rfl:=sj a
  exact rT 4 (iv (-1)) ⟨rfl,rfl,(iK (-1))⟩
 intro e a
 refine ckt (cT 2 (crt ?_))
 obtain rfl:=sj a
 exact rT 4 (iv (w64 (p1 - (p0.length:Int)))) ⟨rfl,rfl,(zr _)⟩
theorem zo3 {g:K} {p0:LM} {u:OA} {c2:Nat} {p1:Int} (L:Sl (tSl tI64) g u c2 p0) (O:I64 p1) {r:Int} (a:zkt p0 p1=some r) :
 Fn Tryz.prog 25 #[vl u p0 c2,iv p1] g (fun v h=>g=h∧v=iv r∧I64 r):=by
 refine fnc 27 [] Tryz.func25 Tryz.ntmps25 fun hs=>cO 1 (otx (dT 5 (cs (cT 2 ?_))))
 refine cc _ a ?_ ?_
 ·intro i a
  refine cT 1 (crt (zc ?_))
  obtain rfl:=sj a
  exact rT 4 (iv (-1)) ⟨rfl,rfl,(iK (-1))⟩
 intro i a
 refine ckt (cs (cT 1 (cb 0 ?_)))
 refine zj 0 (fun Z=>∀ (d:Int) (j:Env),I64 d→zhU d=some r→Z (ups j [(1,iv d)]) g) ?_ fun M=>?_
 ·intro d j w a
  refine zf (zb (cT 2 (crt ?_)))
  obtain rfl:=sj a
  exact rT 4 (iv d) ⟨rfl,rfl,w⟩
 refine bE a fun C y e=>zp (F:=zfh p0) (J:=fun b N h=>(∃ j,N=ups j [(0,vl u p0 c2),(1,iv b.1),(5,iv b.2)])∧g=h∧I64 b.1∧I64 b.2) (s0:=(w64 (p1 - (p0.length:Int)),0)) (x:=C) kr y ⟨⟨_,eY⟩,rfl,(zr _),(iK 0)⟩ ?_
 rintro b _ _ ⟨⟨j,rfl⟩,rfl,p,P⟩ H a f
 refine cs (cT 4 ?_)
 refine cc _ a ?_ ?_
 ·intro i a
  refine ckt (cs (cb 1 (cO 2 (bE a fun q z a=>?_))))
  obtain ⟨D,E,k,l,m,I,c,n⟩:=L.idx z
  obtain ⟨s,t,rfl,G⟩:=n
  replace c:PubAt g D (E+b.2.toNat*1) [vl s q t]:=c
  refine oi 20 33 32 1 p0.length c2 .i64 b.2 k l m (o1 21 32 (vl s q t) (c.at.one (o:=0) rfl) (od 1 (bE a fun Q A a=>ocl 23 (ziC G p A) ?_)))
  rintro _ _ ⟨rfl,rfl,B⟩
  refine od 1 (otx (dT 2 ?_))
  refine cc _ a ?_ ?_
  ·intro i a
   refine cT 1 (crt (zg (zc ?_)))
   have hx:=f _ (sj a).symm
   subst hx
   replace a:=e
   refine zv (zg (zc ?_))
   obtain rfl:=sj a
   exact rT 4 (iv (-1)) ⟨rfl,rfl,(iK (-1))⟩
  intro i a
  refine ck (zd (zb (cr (od 3 (oe ?_)))))
  exact ze (sj a).symm ⟨⟨_,eY⟩,rfl,B,(zr _)⟩
 intro i a
 refine cx 0 (zh ?_)
 have hx:=f _ (sj a).symm
 subst hx
 replace a:=e
 refine zi ?_
 exact zq eY (M b.1  _ p a)
theorem zqr {c:K} {p0:Int×LP×LP×LI×LM} {a2 g h e:OA} {i j k f:Nat} {p1:Int} (F:I64 p0.1) (C:Sl tPlaced c a2 i p0.2.1) (D:Sl tPlaced c g j p0.2.2.1) (x:Sl tI64 c h k p0.2.2.2.1) (y:Sl (tSl tI64) c e f p0.2.2.2.2) (l:I64 p1) {r:Int} (a:zjS p0 p1=some r) :
 Fn Tryz.prog 11 #[.agg #[iv p0.1,vl a2 p0.2.1 i,vl g p0.2.2.1 j,vl h p0.2.2.2.1 k,vl e p0.2.2.2.2 f],iv p1] c (fun v z=>Step [] c z∧v=iv r∧I64 r):=by
 refine fnc 30 [] Tryz.func11 Tryz.ntmps11 fun hs=>csr (xO 2 35 (c.H.size,11001) hs.1 [iv p0.1,vl a2 p0.2.1 i,vl g p0.2.2.1 j,vl h p0.2.2.2.1 k,vl e p0.2.2.2.2 f] fun G E A b=>?_)
 replace hs:=hs.tr0 A
 refine od 1 (otx (od 1 (o1 6 31 (vl a2 p0.2.1 i) (b.at.one (o:=1) rfl) (od 1 (bE a fun H m a=>ocl 8 (zk5 (C.step hs) l m) ?_)))))
 rintro _ _ ⟨rfl,rfl,n⟩
 refine dT 1 (cs (cT 2 ?_))
 refine cc _ a ?_ ?_
 ·intro d a
  refine cT 1 (crt (zc ?_))
  obtain rfl:=sj a
  exact rT 4 (iv (-1)) ⟨hs,rfl,(iK (-1))⟩
 intro d a
 refine ckt (cO 1 (o1 12 31 (vl g p0.2.2.1 j) (b.at.one (o:=2) rfl) (od 1 (bE a fun I p a=>ocl 14 (zk5 (D.step hs) n p) ?_))))
 rintro _ _ ⟨rfl,rfl,q⟩
 refine dT 1 (cs (cT 2 ?_))
 refine cc _ a ?_ ?_
 ·intro d a
  refine cT 1 (crt (zc ?_))
  obtain rfl:=sj a
  exact rT 4 (iv (-1)) ⟨hs,rfl,(iK (-1))⟩
 intro d a
 refine ckt (cO 1 (o1 18 32 (vl h p0.2.2.2.1 k) (b.at.one (o:=3) rfl) (od 1 (bE a fun J s a=>ocl 20 (ziC (x.step hs) q s) ?_))))
 rintro _ _ ⟨rfl,rfl,t⟩
 refine dT 1 (cs (cT 2 ?_))
 refine cc _ a ?_ ?_
 ·intro d a
  refine cT 1 (crt (zc ?_))
  obtain rfl:=sj a
  exact rT 4 (iv (-1)) ⟨hs,rfl,(iK (-1))⟩
 intro d a
 refine ckt (cO 1 (o1 24 33 (vl e p0.2.2.2.2 f) (b.at.one (o:=4) rfl) (od 1 (bE a fun B u a=>ocl 26 (zo3 (y.step hs) t u) ?_))))
 rintro _ _ ⟨rfl,rfl,w⟩
 refine dT 1 (cs (cT 2 ?_))
 refine cc _ a ?_ ?_
 ·intro d a
  refine cT 1 (crt (zc ?_))
  obtain rfl:=sj a
  exact rT 4 (iv (-1)) ⟨hs,rfl,(iK (-1))⟩
 intro d a
 refine ckt (cT 2 (crt ?_))
 obtain rfl:=sj a
 exact rT 4 (iv B) ⟨hs,rfl,w⟩
theorem zqt {c:K} {p0:BS×(TS×(LP)×Int)×(LP)×(Int×LP×LP×LI×LM)} {a2 p q e f g h i:OA} {s t u j k l m n:Nat} {p1:Int} (Z:p0.1.length≤9223372036854775807) (R:Sl tGlue c a2 s p0.2.1.1.1) (S:Sl tTile c p t p0.2.1.1.2) (G:Sl tPlaced c q u p0.2.1.2.1) (y:I64 p0.2.1.2.2) (H:Sl tPlaced c e j p0.2.2.1) (z:I64 p0.2.2.2.1) (I:Sl tPlaced c f k p0.2.2.2.2.1) (J:Sl tPlaced c g l p0.2.2.2.2.2.1) (L:Sl tI64 c h m p0.2.2.2.2.2.2.1) (M:Sl (tSl tI64) c i n p0.2.2.2.2.2.2.2) (T:I64 p1) {r:Int} (a:zmi p0 p1=some r) :
 Fn Tryz.prog 4 #[.agg #[zy p0.1,vl a2 p0.2.1.1.1 s,vl p p0.2.1.1.2 t,vl q p0.2.1.2.1 u,iv p0.2.1.2.2,vl e p0.2.2.1 j,iv p0.2.2.2.1,vl f p0.2.2.2.2.1 k,vl g p0.2.2.2.2.2.1 l,vl h p0.2.2.2.2.2.2.1 m,vl i p0.2.2.2.2.2.2.2 n],iv p1] c (fun v N=>Step [] c N∧v=iv r∧I64 r):=by
 refine fnc 31 [] Tryz.func4 Tryz.ntmps4 fun hs=>csr (xO 2 37 (c.H.size,4001) hs.1 [zy p0.1,vl a2 p0.2.1.1.1 s,vl p p0.2.1.1.2 t,vl q p0.2.1.2.1 u,iv p0.2.1.2.2,vl e p0.2.2.1 j,iv p0.2.2.2.1,vl f p0.2.2.2.2.1 k,vl g p0.2.2.2.2.2.1 l,vl h p0.2.2.2.2.2.2.1 m,vl i p0.2.2.2.2.2.2.2 n] fun a0 U O b=>?_)
 replace hs:=hs.tr0 O
 refine od 1 (otx (od 2 (o1 7 9 (zy p0.1) (b.at.one (o:=0) rfl) (dT 3 (cs (cT 2 ?_))))))
 refine cc _ a ?_ ?_
 ·intro d a
  refine cT 1 (crt (zc ?_))
  obtain rfl:=sj a
  exact rT 4 (iv (-1)) ⟨hs,rfl,(iK (-1))⟩
 intro d a
 refine ckt (cO 1 (oN 13 30 [vl a2 p0.2.1.1.1 s,vl p p0.2.1.1.2 t,vl q p0.2.1.2.1 u,iv p0.2.1.2.2] (b.at.part 1 4).2 (od 1 (bE a fun a1 A a=>ocl 15 (zpM (R.step hs) (S.step hs) (G.step hs) y (zr _) A) ?_))))
 rintro _ V ⟨w,rfl,B⟩
 replace hs:=hs.tr0 w
 replace b:=b.step0 w
 refine dT 1 (cs (cT 2 ?_))
 refine cc _ a ?_ ?_
 ·intro d a
  refine cT 1 (crt (zc ?_))
  obtain rfl:=sj a
  exact rT 4 (iv (-1)) ⟨hs,rfl,(iK (-1))⟩
 intro d a
 refine ckt (cO 1 (oN 19 28 [vl e p0.2.2.1 j] (b.at.part 5 1).2 (od 1 (bE a fun a3 C a=>ocl 21 (zku (H.step hs) B C) ?_))))
 rintro _ X ⟨x,rfl,D⟩
 replace hs:=hs.tr0 x
 replace b:=b.step0 x
 refine dT 1 (cs (cT 2 ?_))
 refine cc _ a ?_ ?_
 ·intro d a
  refine cT 1 (crt (zc ?_))
  obtain rfl:=sj a
  exact rT 4 (iv (-1)) ⟨hs,rfl,(iK (-1))⟩
 intro d a
 refine ckt (cO 1 (oN 25 35 [iv p0.2.2.2.1,vl f p0.2.2.2.2.1 k,vl g p0.2.2.2.2.2.1 l,vl h p0.2.2.2.2.2.2.1 m,vl i p0.2.2.2.2.2.2.2 n] (b.at.part 6 5).2 (od 1 (bE a fun P E a=>ocl 27 (zqr z (I.step hs) (J.step hs) (L.step hs) (M.step hs) D E) ?_))))
 rintro _ Y ⟨Q,rfl,F⟩
 replace hs:=hs.tr0 Q
 refine dT 1 (cs (cT 2 ?_))
 refine cc _ a ?_ ?_
 ·intro d a
  refine cT 1 (crt (zc ?_))
  obtain rfl:=sj a
  exact rT 4 (iv (-1)) ⟨hs,rfl,(iK (-1))⟩
 intro d a
 refine ckt (cT 2 (crt ?_))
 obtain rfl:=sj a
 exact rT 4 (iv P) ⟨hs,rfl,F⟩
theorem zkW {c:K} {p0:Int} (e:0≤p0∧p0≤255) {r:Bool} (a:zfv p0=some r) :
 Fn Tryz.prog 43 #[.int .u8 p0] c (fun v d=>c=d∧v=.bool r):=by
 refine fnc 17 [] Tryz.func43 Tryz.ntmps43 fun hs=>cO 1 (otx (od 2 ?_))
 refine osp 5 (decide (p0≥97)) a ?_ ?_
 ·intro b a
  refine oz [6,7] (od 4 ?_)
  refine osp 12 (decide (p0≥65)) a ?_ ?_
  ·intro b a
   refine oz [13,14] (dT 3 (crt ?_))
   obtain rfl:=sj a
   exact rT 2 ff ⟨rfl,rfl⟩
  intro b a
  refine dT 5 (crt ?_)
  obtain rfl:=sj a
  exact rT 2 (bW (p0≤90)) ⟨rfl,rfl⟩
 intro b a
 refine od 3 ?_
 refine osp 9 (decide (p0≤122)) a ?_ ?_
 ·intro b a
  refine od 2 ?_
  refine osp 12 (decide (p0≥65)) a ?_ ?_
  ·intro b a
   refine oz [13,14] (dT 3 (crt ?_))
   obtain rfl:=sj a
   exact rT 2 ff ⟨rfl,rfl⟩
  intro b a
  refine dT 5 (crt ?_)
  obtain rfl:=sj a
  exact rT 2 (bW (p0≤90)) ⟨rfl,rfl⟩
 intro b a
 refine oz [10,11,12,13,14,15] (dT 2 (crt ?_))
 obtain rfl:=sj a
 exact rT 2 tt ⟨rfl,rfl⟩
theorem zpy {b:K} {p0:Int} (e:0≤p0∧p0≤255) {r:Bool} (a:ziT p0=some r) :
 Fn Tryz.prog 44 #[.int .u8 p0] b (fun v c=>b=c∧v=.bool r):=by
 refine fnc 9 [] Tryz.func44 Tryz.ntmps44 fun hs=>cO 1 (otx (od 2 ?_))
 refine osp 5 (decide (p0≥48)) a ?_ ?_
 ·intro d a
  refine oz [6,7] (dT 2 (crt ?_))
  obtain rfl:=sj a
  exact rT 2 ff ⟨rfl,rfl⟩
 intro d a
 refine dT 4 (crt ?_)
 obtain rfl:=sj a
 exact rT 2 (bW (p0≤57)) ⟨rfl,rfl⟩
theorem zkh {e:K} {p0:BS} (N:p0.length≤9223372036854775807) {r:Bool} (a:zfy p0=some r) :
 Fn Tryz.prog 26 #[zy p0] e (fun v f=>e=f∧v=.bool r):=by
 refine fnc 42 [] Tryz.func26 Tryz.ntmps26 fun hs=>cT 1 (cs ?_)
 refine zn (fun Z=>∀ (k:Bool) (b:Env),zfx p0 k=some r→cwp Tryz.prog 42 (sub (zB Tryz.f26) [1,0,1]) Z (ups b [(0,zy p0),(17,.bool k)]) e) ?_ fun l=>?_
 ·intro k b a
  refine cc _ a ?_ ?_
  ·intro g a
   refine cT 1 (crt (zc ?_))
   obtain rfl:=sj a
   exact rT 2 ff ⟨rfl,rfl⟩
  intro g a
  refine ckt (cs (cT 1 (cb 0 ?_)))
  refine zj 0 (fun Z=>∀ (b:Env),zmY=some r→Z (b) e) ?_ fun G=>?_
  ·intro b a
   refine zf (zb (cT 1 (crt ?_)))
   obtain rfl:=sj a
   exact rT 2 tt ⟨rfl,rfl⟩
  refine bE a fun H y h=>zp (F:=zbB p0) (J:=fun c I f=>(∃ b,I=ups b [(0,zy p0),(3,iv c)])∧e=f∧I64 c) (s0:=1) (x:=H) kr y ⟨⟨_,eY⟩,rfl,(iK 1)⟩ ?_
  rintro c _ _ ⟨⟨b,rfl⟩,rfl,O⟩ m a i
  refine cs (cT 4 ?_)
  refine cc _ a ?_ ?_
  ·intro g a
   refine ckt (cs (cb 1 ?_))
   refine zn (fun Z=>∀ (n:Bool) (b:Env),zdW c n=some m→cwp Tryz.prog 42 (sub (zB Tryz.f26) [1,0,0,1,0,0,1,0,1,1]) Z (ups b [(0,zy p0),(3,iv c),(41,.bool n)]) e) ?_ fun p=>?_
   ·intro n b a
    refine cc _ a ?_ ?_
    ·intro g a
     refine cT 1 (crt (zg (zc ?_)))
     have hx:=i _ (sj a).symm
     subst hx
     replace a:=h
     refine zv (zg (zc ?_))
     obtain rfl:=sj a
     exact rT 2 ff ⟨rfl,rfl⟩
    intro g a
    refine ck (zd (zb (cr (od 3 (oe ?_)))))
    exact ze (sj a).symm ⟨⟨_,eY⟩,rfl,(zr _)⟩
   refine cO 2 (bE a fun L z a=>oq 26 (.int .u8 (L.toNat:Int)) (fun _=>zhM 9 .i64 kr kr z) (bE a fun M A a=>ocl 27 (zkW (zv2 _) A) ?_))
   rintro _ _ ⟨rfl,rfl⟩
   refine od 1 ?_
   refine osp 29 (!M) a ?_ ?_
   ·intro d a
    refine oz [30,31,32,33,34] (od 2 (oz [37,38,39,40] (dT 1 ?_)))
    exact zk eY (p false  _  a)
   intro d a
   refine od 2 (bE a fun B q a=>oq 32 (.int .u8 (B.toNat:Int)) (fun _=>zhM 9 .i64 kr kr q) (bE a fun C s a=>ocl 33 (zpy (zv2 _) s) ?_))
   rintro _ _ ⟨rfl,rfl⟩
   refine od 2 ?_
   refine osp 36 (!C) a ?_ ?_
   ·intro d a
    refine oz [37,38,39,40] (dT 1 ?_)
    exact zk eY (p false  _  a)
   intro d a
   refine od 2 (bE a fun j t a=>oq 39 (.int .u8 (j.toNat:Int)) (fun _=>zhM 9 .i64 kr kr t) (dT 2 ?_))
   exact zk eY (p (!decide ((j.toNat:Int)=95))  _  a)
  intro g a
  refine cx 0 (zh ?_)
  have hx:=i _ (sj a).symm
  subst hx
  replace a:=h
  refine zi ?_
  exact zq rfl (G   _  a)
 refine cO 3 ?_
 refine osp 7 (decide ((p0.length:Int)<1)) a ?_ ?_
 ·intro d a
  refine od 4 ?_
  refine osp 12 (decide ((p0.length:Int)>12)) a ?_ ?_
  ·intro d a
   refine od 1 (bE a fun D u a=>oq 14 (.int .u8 (D.toNat:Int)) (fun _=>zhM 9 .i64 kr kr u) (bE a fun E w a=>ocl 15 (zkW (zv2 _) w) ?_))
   rintro _ _ ⟨rfl,rfl⟩
   refine dT 2 ?_
   exact zk eY (l (!E)  _  a)
  intro d a
  refine oz [13,14,15,16] (dT 1 ?_)
  exact zk eY (l true  _  a)
 intro d a
 refine oz [8,9,10] (od 2 (oz [13,14,15,16] (dT 1 ?_)))
 exact zk eY (l true  _  a)
theorem zah {c:K} {p0:Int} {p1:Int} {b:Int} (f:I64 p0) (g:I64 p1) (h:I64 b) {r:Bool} (a:zat p0 p1 b=some r) :
 Fn Tryz.prog 46 #[iv p0,iv p1,iv b] c (fun v d=>c=d∧v=.bool r):=by
 refine fnc 15 [] Tryz.func46 Tryz.ntmps46 fun hs=>cO 1 (otx (od 3 ?_))
 refine osp 10 (decide (p0≥p1)) a ?_ ?_
 ·intro e a
  refine oz [11,12,13] (dT 2 (crt ?_))
  obtain rfl:=sj a
  exact rT 6 ff ⟨rfl,rfl⟩
 intro e a
 refine dT 5 (crt ?_)
 obtain rfl:=sj a
 exact rT 6 (bW (p0≤b)) ⟨rfl,rfl⟩
theorem ziv {c:K} {p0:Int×Int} (d:I64 p0.1) (e:I64 p0.2) {r:Bool} (a:zeX p0=some r) :
 Fn Tryz.prog 115 #[.agg #[iv p0.1,iv p0.2]] c (fun v f=>Step [] c f∧v=.bool r):=by
 refine fnc 11 [] Tryz.func115 Tryz.ntmps115 fun hs=>csr (xO 1 103 (c.H.size,115001) hs.1 [iv p0.1,iv p0.2] fun n m i b=>?_)
 replace hs:=hs.tr0 i
 refine od 1 (otx (od 1 (o1 4 2 (iv p0.1) (b.at.one (o:=0) rfl) (bE a fun j g a=>ocl 5 (zah d (iK (-60)) (iK 60) g) ?_))))
 rintro _ _ ⟨rfl,rfl⟩
 refine osp 6 (j) a ?_ ?_
 ·intro k a
  refine oz [7,8,9] (dT 2 (crt ?_))
  obtain rfl:=sj a
  exact rT 2 ff ⟨hs,rfl⟩
 intro k a
 refine od 1 (o1 8 2 (iv p0.2) (b.at.one (o:=1) rfl) (bE a fun l h a=>ocl 9 (zah e (iK (-60)) (iK 60) h) ?_))
 rintro _ _ ⟨rfl,rfl⟩
 refine dT 2 (crt ?_)
 obtain rfl:=sj a
 exact rT 2 (.bool l) ⟨hs,rfl⟩
theorem zfe {d:K} {p0:Int×Int} {p1:Int×Int} (i:I64 p0.1) (j:I64 p0.2) (k:I64 p1.1) (l:I64 p1.2) {r:Bool} (b:zcE p0 p1=some r) :
 Fn Tryz.prog 116 #[.agg #[iv p0.1,iv p0.2],.agg #[iv p1.1,iv p1.2]] d (fun v g=>Step [] d g∧v=.bool r):=by
 refine fnc 24 [] Tryz.func116 Tryz.ntmps116 fun hs=>csr (xO 2 103 (d.H.size,116001) hs.1 [iv p0.1,iv p0.2] fun p m h a=>?_)
 replace hs:=hs.tr0 h
 refine xO 3 103 (d.H.size,116002) hs.1 [iv p1.1,iv p1.2] fun q n e c=>?_
 replace hs:=hs.tr0 e
 replace a:=a.step0 e
 refine od 1 (otx (od 1 (o1 6 2 (iv p0.2) (a.at.one (o:=1) rfl) (od 1 (o1 8 2 (iv p1.2) (c.at.one (o:=1) rfl) (od 1 ?_))))))
 refine osp 10 (decide (p0.2<p1.2)) b ?_ ?_
 ·intro f b
  refine od 1 (o1 12 2 (iv p0.2) (a.at.one (o:=1) rfl) (od 1 (o1 14 2 (iv p1.2) (c.at.one (o:=1) rfl) (od 1 ?_))))
  refine osp 16 (decide (p0.2=p1.2)) b ?_ ?_
  ·intro f b
   refine oz [17,18,19,20,21] (dT 3 (crt ?_))
   obtain rfl:=sj b
   exact rT 4 ff ⟨hs,rfl⟩
  intro f b
  refine od 1 (o1 18 2 (iv p0.1) (a.at.one (o:=0) rfl) (od 1 (o1 20 2 (iv p1.1) (c.at.one (o:=0) rfl) (dT 4 (crt ?_)))))
  obtain rfl:=sj b
  exact rT 4 (bW (p0.1<p1.1)) ⟨hs,rfl⟩
 intro f b
 refine oz [11,12,13,14,15,16,17,18,19,20,21,22] (dT 2 (crt ?_))
 obtain rfl:=sj b
 exact rT 4 tt ⟨hs,rfl⟩
theorem zqh {i:K} {p0:LP} {e f:Nat} {m:OA} {c2:Nat} (E:At i e f [vl m p0 c2]) (f3:Sl tPlaced i m c2 p0) {r:Bool} (a:zjN p0=some r) :
 Fn Tryz.prog 88 #[pt e f] i (fun v n=>Step [] i n∧v=.bool r):=by
 refine fnc 56 [] Tryz.func88 Tryz.ntmps88 fun hs=>cT 1 (cs (cO 3 (o1 8 44 (vl m p0 c2) ((E.step0 hs).one (o:=0) rfl) (dT 2 ?_))))
 refine cc _ a ?_ ?_
 ·intro p a
  refine cT 1 (crt (zc ?_))
  obtain rfl:=sj a
  exact rT 2 ff ⟨hs,rfl⟩
 intro p a
 refine ckt (cs (cT 1 (cb 0 ?_)))
 refine zj 0 (fun Z=>∀ (j:Env) (q:K),Step [] i q→zjm=some r→Z (j) q) ?_ fun J1=>?_
 ·intro j q hs a
  refine zf (zb (cT 1 (crt ?_)))
  obtain rfl:=sj a
  exact rT 2 tt ⟨hs,rfl⟩
 refine bE a fun x7 a7 s=>zp (F:=za5 p0) (J:=fun b E' n=>(∃ j,E'=ups j [(0,pt e f),(3,iv b)])∧Step [] i n∧I64 b) (s0:=0) (x:=x7) kr a7 ⟨⟨_,eY⟩,hs,(iK 0)⟩ ?_
 rintro b _ a8 ⟨⟨j,rfl⟩,hs,c6⟩ R a t
 refine cs (cO 4 (o1 15 44 (vl m p0 c2) ((E.step0 hs).one (o:=0) rfl) (dT 2 ?_)))
 refine cc _ a ?_ ?_
 ·intro p a
  refine ckt (cs (cb 1 (cO 3 (o1 23 44 (vl m p0 c2) ((E.step0 hs).one (o:=0) rfl) (od 1 (bE a fun d a9 a=>?_))))))
  obtain ⟨b0,b1,G,S,T,c0,g,U⟩:=(f3.step hs).idx a9
  obtain ⟨_,_,rfl,⟨_,_,rfl,⟨rfl,u⟩,⟨rfl,w⟩⟩,⟨rfl,V⟩⟩:=U
  replace g:PubAt a8 b0 (b1+b.toNat*3) [iv d.1.1,iv d.1.2,iv d.2]:=g
  refine oi 25 44 105 3 p0.length c2 .i64 b G S T (oN 26 105 [iv d.1.1,iv d.1.2,iv d.2] (g.at.part 0 3).2 (xT 4 105 (i.H.size,88001) hs.1 [iv 0,iv 0,iv 0] fun y c1 b2 c=>?_))
  replace hs:=hs.tr0 b2
  refine xM 105 [iv d.1.1,iv d.1.2,iv d.2] c fun c3 b3 _ z=>?_
  replace hs:=hs.trB c.ge b3
  replace c:=z
  refine ot ?_
  refine zn (fun Z=>∀ (A:Bool) (j:Env) (l:K),Step [] i l→zbZ b A=some R→cwp Tryz.prog 56 (sub (zB Tryz.f88) [1,1,0,0,1,0,0,1,0,1,1]) Z (ups j [(0,pt e f),(3,iv b),(55,.bool A)]) l) ?_ fun H=>?_
  ·intro A j l hs a
   refine cc _ a ?_ ?_
   ·intro p a
    refine cT 1 (crt (zg (zc ?_)))
    have hx:=t _ (sj a).symm
    subst hx
    replace a:=s
    refine zv (zg (zc ?_))
    obtain rfl:=sj a
    exact rT 2 ff ⟨hs,rfl⟩
   intro p a
   refine ck (zd (zb (cr (od 3 (oe ?_)))))
   exact ze (sj a).symm ⟨⟨_,eY⟩,hs,(zr _)⟩
  refine cs (cx_ 25 [0,1,2,3,4,5,6,7,8,9,10,11,12,13,14,15,16,17,18,19,20,21,22,23,24] [2,7] 25 [] (xp 27 (pt y 0) (xN 28 103 [iv d.1.1,iv d.1.2] c.at 0 2 rfl (bE a fun O X a=>xcl 29 (ziv u w X) ?_))))
  rintro _ Y ⟨B,rfl⟩
  refine ⟨B,?_⟩
  replace hs:=hs.tr0 B
  replace c:=c.step0 B
  refine xp 30 (.bool (!O)) ?_
  refine xsp 31 (!O) a ?_ ?_
  ·intro C a
   refine xp 32 (pt y 2) (x1 33 2 (iv d.2) c.at 2 rfl (bE a fun D a0 a=>xcl 34 (zah V (iK 0) (iK 159) a0) ?_))
   rintro _ _ ⟨rfl,rfl⟩
   refine ⟨Step.refl _ _,?_⟩
   refine xp 35 (.bool (!D)) (xp 36 (.bool (!D)) ?_)
   refine xsp 37 (!D) a ?_ ?_
   ·intro C a
    refine xp 38 (iv b) (xp 39 (bW (b>0)) ?_)
    refine xsp 40 (decide (b>0)) a ?_ ?_
    ·intro C a
     refine xs 41 (xs 42 (xs 43 (xs 44 (xs 45 (xs 46 (xs 47 (xs 48 (xs 49 (xs 50 (xs 51 (xe (oz [52,53] (dT 2 ?_)))))))))))))
     exact zk eY (H false  _ _ hs  a)
    intro C a
    refine xp 41 (pt e f) (xp 42 (pt e f) (xp 43 (pt e f) (x1 44 44 (vl m p0 c2) (E.step0 hs) 0 rfl (xp 45 (iv b) (xp 46 (iv (w64 (b - 1))) (bE a fun k a2 a=>?_))))))
    obtain ⟨P,Q,I,L,M,b6,h,N⟩:=(f3.step hs).idx a2
    obtain ⟨_,_,rfl,⟨_,_,rfl,⟨rfl,a3⟩,⟨rfl,a4⟩⟩,⟨rfl,c4⟩⟩:=N
    replace h:PubAt Y P (Q+(w64 (b - 1)).toNat*3) [iv k.1.1,iv k.1.2,iv k.2]:=h
    refine xi 47 44 105 3 p0.length c2 .i64 (w64 (b - 1)) I L M (xp 48 (pt P (Q+(w64 (b - 1)).toNat*3)) (xN 49 103 [iv k.1.1,iv k.1.2] h.at 0 2 rfl (xp 50 (pt y 0) (xN 51 103 [iv d.1.1,iv d.1.2] c.at 0 2 rfl (xe (bE a fun b4 a5 a=>ocl 52 (zfe a3 a4 u w a5) ?_))))))
    rintro _ c5 ⟨b5,rfl⟩
    replace hs:=hs.tr0 b5
    refine dT 3 ?_
    exact zk eY (H (!b4)  _ _ hs  a)
   intro C a
   refine xs 38 (xs 39 (xs 40 (xs 41 (xs 42 (xs 43 (xs 44 (xs 45 (xs 46 (xs 47 (xs 48 (xs 49 (xs 50 (xs 51 (xe (oz [52,53,54] (dT 1 ?_))))))))))))))))
   exact zk eY (H true  _ _ hs  a)
  intro C a
  refine xs 32 (xs 33 (xs 34 (xs 35 (xp 36 tt (xp 37 tt (xs 38 (xs 39 (xs 40 (xs 41 (xs 42 (xs 43 (xs 44 (xs 45 (xs 46 (xs 47 (xs 48 (xs 49 (xs 50 (xs 51 (xe (oz [52,53,54] ?_)))))))))))))))))))))
  refine dT 1 ?_
  exact zk eY (H true  _ _ hs  a)
 intro p a
 refine cx 0 (zh ?_)
 have hx:=t _ (sj a).symm
 subst hx
 replace a:=s
 refine zi ?_
 exact zq rfl (J1   _ _ hs  a)
theorem zlO {a:K} {p0:LG×LT} {b c:Nat} {g d:OA} {c2 e:Nat} {p1:Int} (k:At a b c [vl g p0.1 c2,vl d p0.2 e]) (m:Sl tGlue a g c2 p0.1) (f6:Sl tTile a d e p0.2) (h:I64 p1) {r:Bool} (f:zgz p0 p1=some r) :
 Fn Tryz.prog 89 #[pt b c,iv p1] a (fun v i=>a=i∧v=.bool r):=by
 refine fnc 13 [] Tryz.func89 Tryz.ntmps89 fun hs=>cO 1 (otx (od 4 (o1 9 41 (vl d p0.2 e) ((k.step0 hs).one (o:=1) rfl) (od 2 (bE f fun l j f=>ocl 12 (zah h (iK 0) (zr _) j) ?_)))))
 rintro _ _ ⟨rfl,rfl⟩
 refine dT 1 (crt ?_)
 obtain rfl:=sj f
 exact rT 4 (.bool l) ⟨rfl,rfl⟩
theorem zli {d:K} {p0:LG×LT} {i j:Nat} {E G s:OA} {c2 H k:Nat} {p1:LP} {l m:Nat} (R:At d i j [vl E p0.1 c2,vl G p0.2 H]) (S:Sl tGlue d E c2 p0.1) (f6:Sl tTile d G H p0.2) (m1:At d l m [vl s p1 k]) (I:Sl tPlaced d s k p1) {r:Bool} (a:zis p0 p1=some r) :
 Fn Tryz.prog 63 #[pt i j,pt l m] d (fun v n=>Step [] d n∧v=.bool r):=by
 refine fnc 29 [] Tryz.func63 Tryz.ntmps63 fun hs=>cT 1 (cs (cO 1 (bE a fun a0 z a=>ocl 7 (zqh ((m1.step0 hs).part 0 1) I z) ?_)))
 rintro _ e ⟨L,rfl⟩
 replace hs:=hs.tr0 L
 refine dT 1 ?_
 refine cc _ a ?_ ?_
 ·intro p a
  refine cT 1 (crt (zc ?_))
  obtain rfl:=sj a
  exact rT 4 ff ⟨hs,rfl⟩
 intro p a
 refine ckt (cs (cT 1 (cb 0 ?_)))
 refine zj 0 (fun Z=>∀ (q:Env),zlj=some r→Z (q) e) ?_ fun T=>?_
 ·intro q a
  refine zf (zb (cT 1 (crt ?_)))
  obtain rfl:=sj a
  exact rT 4 tt ⟨hs,rfl⟩
 refine bE a fun M A f=>zp (F:=zcn p0 p1) (J:=fun b U n=>(∃ q,U=ups q [(0,pt i j),(1,pt l m),(5,iv b)])∧e=n∧I64 b) (s0:=0) (x:=M) kr A ⟨⟨_,eY⟩,rfl,(iK 0)⟩ ?_
 rintro b _ _ ⟨⟨q,rfl⟩,rfl,V⟩ P a g
 refine cs (cO 4 (o1 13 44 (vl s p1 k) ((m1.step0 hs).one (o:=0) rfl) (dT 2 ?_)))
 refine cc _ a ?_ ?_
 ·intro p a
  refine ckt (cs (cb 1 (cO 4 (o1 22 44 (vl s p1 k) ((m1.step0 hs).one (o:=0) rfl) (od 1 (bE a fun h B a=>?_))))))
  obtain ⟨N,O,t,u,w,Q,c,y⟩:=(I.step hs).idx B
  obtain ⟨_,_,rfl,⟨_,_,rfl,⟨rfl,X⟩,⟨rfl,Y⟩⟩,⟨rfl,C⟩⟩:=y
  replace c:PubAt e N (O+b.toNat*3) [iv h.1.1,iv h.1.2,iv h.2]:=c
  refine oi 24 44 105 3 p1.length k .i64 b t u w (od 1 (o1 26 2 (iv h.2) (c.at.one (o:=2) rfl) (bE a fun a2 D a=>ocl 27 (zlO ((R.step0 hs).part 0 2) (S.step hs) (f6.step hs) C D) ?_)))
  rintro _ _ ⟨rfl,rfl⟩
  refine dT 1 ?_
  refine cc _ a ?_ ?_
  ·intro p a
   refine cT 1 (crt (zg (zc ?_)))
   have hx:=g _ (sj a).symm
   subst hx
   replace a:=f
   refine zv (zg (zc ?_))
   obtain rfl:=sj a
   exact rT 4 ff ⟨hs,rfl⟩
  intro p a
  refine ck (zd (zb (cr (od 3 (oe ?_)))))
  exact ze (sj a).symm ⟨⟨_,eY⟩,rfl,(zr _)⟩
 intro p a
 refine cx 0 (zh ?_)
 have hx:=g _ (sj a).symm
 subst hx
 replace a:=f
 refine zi ?_
 exact zq rfl (T   _  a)
theorem zqj {d:K} {p0:LG×LT} {h i:Nat} {l w:OA} {c2 y:Nat} {p1:BS} (z:At d h i [vl l p0.1 c2,vl w p0.2 y]) (G:Sl tGlue d l c2 p0.1) (f6:Sl tTile d w y p0.2) (O:p1.length≤9223372036854775807) {r:Int} (a:zf1 p0 p1=some r) :
 Fn Tryz.prog 111 #[pt h i,zy p1] d (fun v j=>d=j∧v=iv r∧I64 r):=by
 refine fnc 27 [] Tryz.func111 Tryz.ntmps111 fun hs=>cT 1 (cs (cT 1 (cb 0 ?_)))
 refine zj 0 (fun Z=>∀ (k:Env),zjp=some r→Z (k) d) ?_ fun H=>?_
 ·intro k a
  refine zf (zb (cT 1 (crt ?_)))
  obtain rfl:=sj a
  exact rT 4 (iv 0) ⟨rfl,rfl,(iK 0)⟩
 refine bE a fun A s e=>zp (F:=zgK p0 p1) (J:=fun b I j=>(∃ k,I=ups k [(0,pt h i),(1,zy p1),(5,iv b)])∧d=j∧I64 b) (s0:=0) (x:=A) kr s ⟨⟨_,eY⟩,rfl,(iK 0)⟩ ?_
 rintro b _ _ ⟨⟨k,rfl⟩,rfl,L⟩ D a f
 refine cs (cO 4 (o1 10 40 (vl l p0.1 c2) ((z.step0 hs).one (o:=0) rfl) (dT 2 ?_)))
 refine cc _ a ?_ ?_
 ·intro t a
  refine ckt (cs (cb 1 (cO 3 (o1 18 40 (vl l p0.1 c2) ((z.step0 hs).one (o:=0) rfl) (od 1 (bE a fun g u a=>?_))))))
  obtain ⟨B,C,m,n,p,E,c,q⟩:=G.idx u
  obtain ⟨_,_,rfl,⟨rfl,M⟩,⟨rfl,N⟩⟩:=q
  replace c:PubAt d B (C+b.toNat*2) [zy g.1,iv g.2]:=c
  refine oi 20 40 147 2 p0.1.length c2 .i64 b m n p (od 1 (o1 22 9 (zy g.1) (c.at.one (o:=0) rfl) (od 1 (oq 24 (bW (g.1=p1)) (fun _=>zrZ kr) (ot ?_)))))
  refine cc _ a ?_ ?_
  ·intro t a
   refine cT 3 (crt (zg (zc ?_)))
   have hx:=f _ (sj a).symm
   subst hx
   replace a:=e
   refine zv (zg (zc ?_))
   obtain rfl:=sj a
   exact rT 4 (iv (w64 (b+1))) ⟨rfl,rfl,(zr _)⟩
  intro t a
  refine ck (zd (zb (cr (od 3 (oe ?_)))))
  exact ze (sj a).symm ⟨⟨_,eY⟩,rfl,(zr _)⟩
 intro t a
 refine cx 0 (zh ?_)
 have hx:=f _ (sj a).symm
 subst hx
 replace a:=e
 refine zi ?_
 exact zq rfl (H   _  a)
theorem zqi {d:K} {p0:LG×LT} {h i:Nat} {z m:OA} {c2 j:Nat} {p1:BS} (A:At d h i [vl z p0.1 c2,vl m p0.2 j]) (Q:Sl tGlue d z c2 p0.1) (f6:Sl tTile d m j p0.2) (O:p1.length≤9223372036854775807) {r:Int} (a:zf0 p0 p1=some r) :
 Fn Tryz.prog 112 #[pt h i,zy p1] d (fun v k=>d=k∧v=iv r∧I64 r):=by
 refine fnc 26 [] Tryz.func112 Tryz.ntmps112 fun hs=>cT 1 (cs (cT 1 (cb 0 ?_)))
 refine zj 0 (fun Z=>∀ (l:Env),zjo=some r→Z (l) d) ?_ fun L=>?_
 ·intro l a
  refine zf (zb (cT 1 (crt ?_)))
  obtain rfl:=sj a
  exact rT 4 (iv (-1)) ⟨rfl,rfl,(iK (-1))⟩
 refine bE a fun B t e=>zp (F:=zjn p0 p1) (J:=fun b M k=>(∃ l,M=ups l [(0,pt h i),(1,zy p1),(5,iv b)])∧d=k∧I64 b) (s0:=0) (x:=B) kr t ⟨⟨_,eY⟩,rfl,(iK 0)⟩ ?_
 rintro b _ _ ⟨⟨l,rfl⟩,rfl,u⟩ H a f
 refine cs (cO 4 (o1 10 41 (vl m p0.2 j) ((A.step0 hs).one (o:=1) rfl) (dT 2 ?_)))
 refine cc _ a ?_ ?_
 ·intro w a
  refine ckt (cs (cb 1 (cO 3 (o1 18 41 (vl m p0.2 j) ((A.step0 hs).one (o:=1) rfl) (od 1 (bE a fun g y a=>?_))))))
  obtain ⟨C,D,n,p,q,I,c,s⟩:=f6.idx y
  obtain ⟨_,_,rfl,⟨rfl,N⟩,⟨E,G,rfl,P⟩⟩:=s
  replace c:PubAt d C (D+b.toNat*2) [zy g.1,vl E g.2 G]:=c
  refine oi 20 41 149 2 p0.2.length j .i64 b n p q (od 1 (o1 22 9 (zy g.1) (c.at.one (o:=0) rfl) (od 1 (oq 24 (bW (g.1=p1)) (fun _=>zrZ kr) (ot ?_)))))
  refine cc _ a ?_ ?_
  ·intro w a
   refine cT 2 (crt (zg (zc ?_)))
   have hx:=f _ (sj a).symm
   subst hx
   replace a:=e
   refine zv (zg (zc ?_))
   obtain rfl:=sj a
   exact rT 4 (iv b) ⟨rfl,rfl,u⟩
  intro w a
  refine ck (zd (zb (cr (od 3 (oe ?_)))))
  exact ze (sj a).symm ⟨⟨_,eY⟩,rfl,(zr _)⟩
 intro w a
 refine cx 0 (zh ?_)
 have hx:=f _ (sj a).symm
 subst hx
 replace a:=e
 refine zi ?_
 exact zq rfl (L   _  a)
theorem znY {l:K} {p0:LG×LT} {h i:Nat} {O P:OA} {c2 D:Nat} (q:At l h i [vl O p0.1 c2,vl P p0.2 D]) (Y:Sl tGlue l O c2 p0.1) (f6:Sl tTile l P D p0.2) {r:Bool} (a:ziu p0=some r) :
 Fn Tryz.prog 85 #[pt h i] l (fun v m=>Step [] l m∧v=.bool r):=by
 refine fnc 115 [] Tryz.func85 Tryz.ntmps85 fun hs=>cT 1 (cs ?_)
 refine zn (fun Z=>∀ (y7:Bool) (b:Env),zgy p0 y7=some r→cwp Tryz.prog 115 (sub (zB Tryz.f85) [1,0,1]) Z (ups b [(0,pt h i),(29,.bool y7)]) l) ?_ fun J1=>?_
 ·intro y7 b a
  refine cc _ a ?_ ?_
  ·intro k a
   refine cT 1 (crt (zc ?_))
   obtain rfl:=sj a
   exact rT 2 ff ⟨hs,rfl⟩
  intro k a
  refine ckt (cs (cT 1 (cb 0 ?_)))
  refine zj 0 (fun Z=>∀ (b:Env) (E:K),Step [] l E→zlm p0=some r→Z (ups b [(0,pt h i)]) E) ?_ fun J2=>?_
  ·intro b E hs a
   refine zf (zb (cs (cT 1 (cb 2 ?_))))
   refine zj 2 (fun Z=>∀ (b:Env) (G:K),Step [] l G→zll=some r→Z (b) G) ?_ fun J3=>?_
   ·intro b G hs a
    refine zf (zb (cT 1 (crt ?_)))
    obtain rfl:=sj a
    exact rT 2 tt ⟨hs,rfl⟩
   refine bE a fun e3 c1 t=>zp (F:=zco p0) (J:=fun c Q m=>(∃ b,Q=ups b [(0,pt h i),(5,iv c)])∧Step [] l m∧I64 c) (s0:=0) (x:=e3) kr c1 ⟨⟨_,eY⟩,hs,(iK 0)⟩ ?_
   rintro c _ c3 ⟨⟨b,rfl⟩,hs,g7⟩ H a u
   refine cs (cO 4 (o1 69 41 (vl P p0.2 D) ((q.step0 hs).one (o:=1) rfl) (dT 2 ?_)))
   refine cc _ a ?_ ?_
   ·intro k a
    refine ckt (cs (cb 3 (cO 3 (o1 77 41 (vl P p0.2 D) ((q.step0 hs).one (o:=1) rfl) (od 1 (bE a fun d c4 a=>?_))))))
    obtain ⟨e4,e5,a0,a2,a3,g1,w,a5⟩:=(f6.step hs).idx c4
    obtain ⟨_,_,rfl,⟨rfl,R⟩,⟨B,s,rfl,C⟩⟩:=a5
    replace w:PubAt c3 e4 (e5+c.toNat*2) [zy d.1,vl B d.2 s]:=w
    refine oi 79 41 149 2 p0.2.length D .i64 c a0 a2 a3 (oN 80 149 [zy d.1,vl B d.2 s] (w.at.part 0 2).2 (xT 6 149 (l.H.size,85002) hs.1 [zy ([]:BS),sl none 0 0] fun b5 g8 b6 e=>?_))
    replace hs:=hs.tr0 b6
    replace C:=C.step b6
    refine xM 149 [zy d.1,vl B d.2 s] e fun y b7 _ S=>?_
    replace hs:=hs.trB e.ge b7
    replace C:=C.step b7
    replace e:=S
    refine ot (cs ?_)
    refine zn (fun Z=>∀ (T:Bool) (b:Env),zeW p0 c d T=some H→cwp Tryz.prog 115 (sub (zB Tryz.f85) [1,0,1,0,0,1,0,0,1,0,1,1,1]) Z (ups b [(0,pt h i),(5,iv c),(6,pt b5 0),(98,.bool T)]) y) ?_ fun J4=>?_
    ·intro T b a
     refine cc _ a ?_ ?_
     ·intro k a
      refine cT 1 (crt (zc (zg (zc ?_))))
      have hx:=u _ (sj a).symm
      subst hx
      replace a:=t
      refine zv (zg (zc ?_))
      obtain rfl:=sj a
      exact rT 2 ff ⟨hs,rfl⟩
     intro k a
     refine ckt (cT 1 (cb 4 ?_))
     refine zj 4 (fun Z=>∀ (b:Env),ziS c=some H→Z (ups b [(0,pt h i),(5,iv c)]) y) ?_ fun J5=>?_
     ·intro b a
      refine zf (zd (zb (cr (od 3 (oe ?_)))))
      exact ze (sj a).symm ⟨⟨_,eY⟩,hs,(zr _)⟩
     refine bE a fun e6 c7 I=>zp (F:=zeU p0 d) (J:=fun n Q m=>(∃ b,Q=ups b [(0,pt h i),(5,iv c),(6,pt b5 0),(7,iv n)])∧y=m∧I64 n) (s0:=0) (x:=e6) kr c7 ⟨⟨_,eY⟩,rfl,(iK 0)⟩ ?_
     rintro n _ _ ⟨⟨b,rfl⟩,rfl,h0⟩ g2 a L
     refine cs (cT 2 ?_)
     refine cc _ a ?_ ?_
     ·intro k a
      refine ckt (cs (cb 5 (cs (cd 10 (dd 1 (d1 104 32 (vl B d.2 s) (e.at.one (o:=1) rfl) (dd 1 (bE a fun b8 c8 a=>?_))))))))
      obtain ⟨e7,e8,a6,a7,a8,g3,z,a9⟩:=C.idx c8
      obtain ⟨rfl,c9⟩:=a9
      replace z:PubAt y e7 (e8+n.toNat*1) [iv b8]:=z
      refine di 106 32 2 1 d.2.length s .i64 n a6 a7 a8 (d1 107 2 (iv b8) (z.at.one (o:=0) rfl) (dd 3 (d1 111 40 (vl O p0.1 c2) ((q.step0 hs).one (o:=0) rfl) (dd 1 (de (bE a fun h4 d0 a=>ocl 113 (zah c9 (iK 0) (zgn (Y.step hs).most) d0) ?_))))))
      rintro _ _ ⟨rfl,rfl⟩
      refine dT 1 ?_
      refine cc _ a ?_ ?_
      ·intro k a
       refine cT 1 (crt (zg (zc ?_)))
       have hx:=L _ (sj a).symm
       subst hx
       replace a:=I
       refine zv (zg (zg (zc ?_)))
       have hx:=u _ (sj a).symm
       subst hx
       replace a:=t
       refine zv (zg (zc ?_))
       obtain rfl:=sj a
       exact rT 2 ff ⟨hs,rfl⟩
      intro k a
      refine ck (zd (zb (cr (od 3 (oe ?_)))))
      exact ze (sj a).symm ⟨⟨_,eY⟩,rfl,(zr _)⟩
     intro k a
     refine cx 4 (zh ?_)
     have hx:=L _ (sj a).symm
     subst hx
     replace a:=I
     refine zi ?_
     exact zq eY (J5   _  a)
    refine cO 1 (o1 82 9 (zy d.1) (e.at.one (o:=0) rfl) (bE a fun e9 d2 a=>ocl 83 (zkh R d2) ?_))
    rintro _ _ ⟨rfl,rfl⟩
    refine od 1 ?_
    refine osp 85 (!e9) a ?_ ?_
    ·intro p a
     refine od 1 (o1 87 32 (vl B d.2 s) (e.at.one (o:=1) rfl) (od 3 ?_))
     refine osp 91 (!decide ((d.2.length:Int)=4)) a ?_ ?_
     ·intro p a
      refine od 2 (o1 94 9 (zy d.1) (e.at.one (o:=0) rfl) (bE a fun f0 d3 a=>ocl 95 (zqi ((q.step0 hs).part 0 2) (Y.step hs) (f6.step hs) R d3) ?_))
      rintro _ _ ⟨rfl,rfl,h1⟩
      refine dT 3 ?_
      exact zk eY (J4 (!decide (f0=c))  _  a)
     intro p a
     refine oz [92,93,94,95,96,97] (dT 1 ?_)
     exact zk eY (J4 true  _  a)
    intro p a
    refine oz [86,87,88,89] (od 2 (oz [92,93,94,95,96,97] (dT 1 ?_)))
    exact zk eY (J4 true  _  a)
   intro k a
   refine cx 2 (zh ?_)
   have hx:=u _ (sj a).symm
   subst hx
   replace a:=t
   refine zi ?_
   exact zq rfl (J3   _ _ hs  a)
  refine bE a fun f1 d4 M=>zp (F:=zcp p0) (J:=fun f Q m=>(∃ b,Q=ups b [(0,pt h i),(3,iv f)])∧Step [] l m∧I64 f) (s0:=0) (x:=f1) kr d4 ⟨⟨_,eY⟩,hs,(iK 0)⟩ ?_
  rintro f _ d5 ⟨⟨b,rfl⟩,hs,h5⟩ b0 a N
  refine cs (cO 4 (o1 34 40 (vl O p0.1 c2) ((q.step0 hs).one (o:=0) rfl) (dT 2 ?_)))
  refine cc _ a ?_ ?_
  ·intro k a
   refine ckt (cs (cb 1 (cO 3 (o1 42 40 (vl O p0.1 c2) ((q.step0 hs).one (o:=0) rfl) (od 1 (bE a fun j d6 a=>?_))))))
   obtain ⟨f2,f4,b1,b2,b3,g4,A,b4⟩:=(Y.step hs).idx d6
   obtain ⟨_,_,rfl,⟨rfl,U⟩,⟨rfl,d7⟩⟩:=b4
   replace A:PubAt d5 f2 (f4+f.toNat*2) [zy j.1,iv j.2]:=A
   refine oi 44 40 147 2 p0.1.length c2 .i64 f b1 b2 b3 (oN 45 147 [zy j.1,iv j.2] (A.at.part 0 2).2 (xT 4 147 (l.H.size,85001) hs.1 [zy ([]:BS),iv 0] fun h6 h2 f5 g=>?_))
   replace hs:=hs.tr0 f5
   refine xM 147 [zy j.1,iv j.2] g fun d8 f7 _ V=>?_
   replace hs:=hs.trB g.ge f7
   replace g:=V
   refine ot ?_
   refine zn (fun Z=>∀ (X:Bool) (b:Env),zeV f X=some b0→cwp Tryz.prog 115 (sub (zB Tryz.f85) [1,1,0,0,1,0,0,1,0,1,1]) Z (ups b [(0,pt h i),(3,iv f),(64,.bool X)]) d8) ?_ fun J6=>?_
   ·intro X b a
    refine cc _ a ?_ ?_
    ·intro k a
     refine cT 1 (crt (zg (zc ?_)))
     have hx:=N _ (sj a).symm
     subst hx
     replace a:=M
     refine zv (zg (zc ?_))
     obtain rfl:=sj a
     exact rT 2 ff ⟨hs,rfl⟩
    intro k a
    refine ck (zd (zb (cr (od 3 (oe ?_)))))
    exact ze (sj a).symm ⟨⟨_,eY⟩,hs,(zr _)⟩
   refine cO 1 (o1 47 9 (zy j.1) (g.at.one (o:=0) rfl) (bE a fun f8 e0 a=>ocl 48 (zkh U e0) ?_))
   rintro _ _ ⟨rfl,rfl⟩
   refine od 1 ?_
   refine osp 50 (!f8) a ?_ ?_
   ·intro p a
    refine od 1 (o1 52 2 (iv j.2) (g.at.one (o:=1) rfl) (bE a fun f9 e1 a=>ocl 53 (zah d7 (iK 1) (iK 4) e1) ?_))
    rintro _ _ ⟨rfl,rfl⟩
    refine od 2 ?_
    refine osp 56 (!f9) a ?_ ?_
    ·intro p a
     refine od 2 (o1 59 9 (zy j.1) (g.at.one (o:=0) rfl) (bE a fun g0 e2 a=>ocl 60 (zqj ((q.step0 hs).part 0 2) (Y.step hs) (f6.step hs) U e2) ?_))
     rintro _ _ ⟨rfl,rfl,h3⟩
     refine dT 4 ?_
     exact zk eY (J6 (!decide (g0=(w64 (f+1))))  _  a)
    intro p a
    refine oz [57,58,59,60,61,62,63] (dT 1 ?_)
    exact zk eY (J6 true  _  a)
   intro p a
   refine oz [51,52,53,54] (od 2 (oz [57,58,59,60,61,62,63] (dT 1 ?_)))
   exact zk eY (J6 true  _  a)
  intro k a
  refine cx 0 (zh ?_)
  have hx:=N _ (sj a).symm
  subst hx
  replace a:=M
  refine zi ?_
  exact zq eY (J2   _ _ hs  a)
 refine cO 3 (o1 11 40 (vl O p0.1 c2) ((q.step0 hs).one (o:=0) rfl) (od 2 ?_))
 refine osp 14 (decide ((p0.1.length:Int)>200)) a ?_ ?_
 ·intro p a
  refine od 3 (o1 18 41 (vl P p0.2 D) ((q.step0 hs).one (o:=1) rfl) (od 3 ?_))
  refine osp 22 (decide ((p0.2.length:Int)<1)) a ?_ ?_
  ·intro p a
   refine od 3 (o1 26 41 (vl P p0.2 D) ((q.step0 hs).one (o:=1) rfl) (dT 3 ?_))
   exact zk eY (J1 (decide ((p0.2.length:Int)>160))  _  a)
  intro p a
  refine oz [23,24,25,26,27,28] (dT 1 ?_)
  exact zk eY (J1 true  _  a)
 intro p a
 refine oz [15,16,17,18,19,20] (od 2 (oz [23,24,25,26,27,28] (dT 1 ?_)))
 exact zk eY (J1 true  _  a)
theorem zl8 {b:K} {p0:Int} (c:I64 p0) {r:Bool} (a:zdH p0=some r) :
 Fn Tryz.prog 86 #[iv p0] b (fun v d=>b=d∧v=.bool r):=by
 refine fnc 5 [] Tryz.func86 Tryz.ntmps86 fun hs=>cO 1 (otx (od 1 (bE a fun f e a=>ocl 4 (zah c (iK 1) (iK 16) e) ?_)))
 rintro _ _ ⟨rfl,rfl⟩
 refine dT 1 (crt ?_)
 obtain rfl:=sj a
 exact rT 2 (.bool f) ⟨rfl,rfl⟩
theorem zqY {b:K} {p0:Int} (c:I64 p0) {r:Bool} (a:zp5 p0=some r) :
 Fn Tryz.prog 143 #[iv p0] b (fun v d=>b=d∧v=.bool r):=by
 refine fnc 5 [] Tryz.func143 Tryz.ntmps143 fun hs=>cO 1 (otx (od 1 (bE a fun f e a=>ocl 4 (zah c (iK 0) (iK 3) e) ?_)))
 rintro _ _ ⟨rfl,rfl⟩
 refine dT 1 (crt ?_)
 obtain rfl:=sj a
 exact rT 2 (.bool f) ⟨rfl,rfl⟩
theorem ziw {b:K} {p0:Int} (c:I64 p0) {r:Int} (a:zeY p0=some r) :
 Fn Tryz.prog 121 #[iv p0] b (fun v d=>b=d∧v=iv r∧I64 r):=by
 refine fnc 9 [] Tryz.func121 Tryz.ntmps121 fun hs=>cT 1 (cs (cO 1 (bE a fun g e a=>ocl 4 (zqY c e) ?_)))
 rintro _ _ ⟨rfl,rfl⟩
 refine dT 1 ?_
 refine cc _ a ?_ ?_
 ·intro f a
  refine cT 1 (crt (zc ?_))
  obtain rfl:=sj a
  exact rT 2 (iv (-1)) ⟨rfl,rfl,(iK (-1))⟩
 intro f a
 refine ckt (cT 4 (crt ?_))
 obtain rfl:=sj a
 exact rT 2 (iv (Int.tmod (w64 (p0+2)) 4)) ⟨rfl,rfl,(zuH (by decide) (zr _))⟩
theorem zjA {c:K} {p0:LG×LT} {f g:Nat} {h m:OA} {c2 n:Nat} {p1:Int} (u:At c f g [vl h p0.1 c2,vl m p0.2 n]) (w:Sl tGlue c h c2 p0.1) (f6:Sl tTile c m n p0.2) (A:I64 p1) {r:Int} (b:zap p0 p1=some r) :
 Fn Tryz.prog 122 #[pt f g,iv p1] c (fun v p=>c=p∧v=iv r∧I64 r):=by
 refine fnc 16 [] Tryz.func122 Tryz.ntmps122 fun hs=>cT 1 (cs (cT 2 ?_))
 refine cc _ b ?_ ?_
 ·intro x b
  refine cT 1 (crt (zc ?_))
  obtain rfl:=sj b
  exact rT 4 (iv 0) ⟨rfl,rfl,(iK 0)⟩
 intro x b
 refine ckt (cO 3 (o1 10 40 (vl h p0.1 c2) ((u.step0 hs).one (o:=0) rfl) (od 2 (bE b fun d q b=>?_))))
 obtain ⟨s,t,e,i,j,y,a,k⟩:=w.idx q
 obtain ⟨_,_,rfl,⟨rfl,z⟩,⟨rfl,l⟩⟩:=k
 replace a:PubAt c s (t+(w64 (p1 - 1)).toNat*2) [zy d.1,iv d.2]:=a
 refine oi 13 40 147 2 p0.1.length c2 .i64 (w64 (p1 - 1)) e i j (od 1 (o1 15 2 (iv d.2) (a.at.one (o:=1) rfl) (dT 1 (crt ?_))))
 obtain rfl:=sj b
 exact rT 4 (iv d.2) ⟨rfl,rfl,l⟩
theorem zjq {b:K} {p0:LG×LT} {H I:Nat} {Z n:OA} {c2 i:Nat} {p1:Int} {j:Int} {k:Int} (P:At b H I [vl Z p0.1 c2,vl n p0.2 i]) (f3:Sl tGlue b Z c2 p0.1) (f6:Sl tTile b n i p0.2) (c7:I64 p1) (a0:I64 j) (c8:I64 k) {r:Int} (a:zdc p0 p1 j k=some r) :
 Fn Tryz.prog 124 #[pt H I,iv p1,iv j,iv k] b (fun v a2=>b=a2∧v=iv r∧I64 r):=by
 refine fnc 38 [] Tryz.func124 Tryz.ntmps124 fun hs=>cO 1 (otx (od 3 (o1 13 41 (vl n p0.2 i) ((P.step0 hs).one (o:=1) rfl) (od 1 (bE a fun g Q a=>?_)))))
 obtain ⟨a3,a5,p,q,s,b5,c,t⟩:=f6.idx Q
 obtain ⟨_,_,rfl,⟨rfl,c0⟩,⟨J,l,rfl,a6⟩⟩:=t
 replace c:PubAt b a3 (a5+p1.toNat*2) [zy g.1,vl J g.2 l]:=c
 refine oi 15 41 149 2 p0.2.length i .i64 p1 p q s (od 1 (o1 17 32 (vl J g.2 l) (c.at.one (o:=1) rfl) (od 1 (bE a fun L R a=>?_))))
 obtain ⟨a7,a8,u,w,x,b6,d,y⟩:=a6.idx R
 obtain ⟨rfl,S⟩:=y
 replace d:PubAt b a7 (a8+j.toNat*1) [iv L]:=d
 refine oi 19 32 2 1 g.2.length l .i64 j u w x (o1 20 2 (iv L) (d.at.one (o:=0) rfl) (dT 1 (cs (cs (cd 13 (dd 4 (d1 25 41 (vl n p0.2 i) ((P.step0 hs).one (o:=1) rfl) (dd 1 (bE a fun h T a=>?_)))))))))
 obtain ⟨a9,b0,z,A,B,b7,e,C⟩:=f6.idx T
 obtain ⟨_,_,rfl,⟨rfl,c1⟩,⟨M,m,rfl,b1⟩⟩:=C
 replace e:PubAt b a9 (b0+k.toNat*2) [zy h.1,vl M h.2 m]:=e
 refine di 27 41 149 2 p0.2.length i .i64 k z A B (dd 1 (d1 29 32 (vl M h.2 m) (e.at.one (o:=1) rfl) (dd 1 (bE a fun N U a=>dc 31 (ziw a0 U) fun c3=>bE a fun O V a=>?_))))
 obtain ⟨b2,b3,D,E,F,b8,f,G⟩:=b1.idx V
 obtain ⟨rfl,c4⟩:=G
 replace f:PubAt b b2 (b3+N.toNat*1) [iv O]:=f
 refine di 32 32 2 1 h.2.length m .i64 N D E F (d1 33 2 (iv O) (f.at.one (o:=0) rfl) (de (dT 1 ?_)))
 refine cc _ a ?_ ?_
 ·intro hc a
  refine cT 1 (crt (zc ?_))
  obtain rfl:=sj a
  exact rT 8 (iv 0) ⟨rfl,rfl,(iK 0)⟩
 intro hc a
 refine ckt (cO 2 (bE a fun b4 X a=>ocl 37 (zjA ((P.step0 hs).part 0 2) f3 f6 S X) ?_))
 rintro _ _ ⟨rfl,rfl,Y⟩
 refine dT 1 (crt ?_)
 obtain rfl:=sj a
 exact rT 8 (iv b4) ⟨rfl,rfl,Y⟩
theorem zb0 {i:K} {p0:Int×Int} {p1:Int} (l:I64 p0.1) (m:I64 p0.2) (L:I64 p1) {r:(Int×Int)} (d:z7 p0 p1=some r) :
 Fn Tryz.prog 117 #[.agg #[iv p0.1,iv p0.2],iv p1] i (fun v A=>Step [] i A∧v=.agg #[iv r.1,iv r.2]∧I64 r.1∧I64 r.2):=by
 refine fnc 31 [] Tryz.func117 Tryz.ntmps117 fun hs=>csr (xO 2 103 (i.H.size,117001) hs.1 [iv p0.1,iv p0.2] fun k M D a=>?_)
 replace hs:=hs.tr0 D
 refine xT 4 103 (i.H.size,117002) hs.1 [iv 0,iv 0] fun x E q c=>?_
 replace hs:=hs.tr0 q
 replace a:=a.step0 q
 refine ot ?_
 refine zn (fun Z=>∀ (f:Int) (g:Int) (B:Env) (h:K),Step [] i h→I64 f→I64 g→Box (i.H.size,117001) h k [iv f,iv g] 103→Box (i.H.size,117002) h x [iv 0,iv 0] 103→z8 f g=some r→cwp Tryz.prog 31 (sub (zB Tryz.f117) [1,1]) Z (ups B [(2,pt k 0),(4,pt x 0)]) h) ?_ fun n=>?_
 ·intro f g B h hs y z a c d
  refine csr (oN 30 103 [iv f,iv g] (a.at.part 0 2).2 (xM 103 [iv f,iv g] c fun F C _ p=>?_))
  replace hs:=hs.trB c.ge C
  replace c:=p
  refine ot (crt ?_)
  obtain rfl:=sj d
  refine rt [.cell 4 103] [.agg #[iv f,iv g]] ⟨⟨x,0,[iv f,iv g],rfl,rfl,kr,kr,(c.at.part 0 2).2⟩,trivial⟩ ?_
  exact ⟨hs,rfl,y,z⟩
 refine cs (cT 1 (cb 0 (cT 2 ?_)))
 refine cc _ d ?_ ?_
 ·intro j d
  refine cr (od 1 (o1 9 2 (iv p0.2) (a.at.one (o:=1) rfl) (od 2 (zm (b:=k) (off:=1) (T:=2) (iv (w64 (p0.2+1))) [iv (w64 (p0.2+1))] [iv p0.1,iv (w64 (p0.2+1))] kr kr a rfl kr kr kr rfl fun G s _ e=>?_))))
  replace hs:=hs.trB a.ge s
  replace c:=c.step s (nm1 (c.ne a (zl kr)))
  replace a:=e
  refine oe (zd (zb ?_))
  exact zk eY (n p0.1 (w64 (p0.2+1))  _ _ hs l (zr _) a c d)
 intro j d
 refine cT 2 ?_
 refine cc _ d ?_ ?_
 ·intro j d
  refine cr (od 1 (o1 15 2 (iv p0.1) (a.at.one (o:=0) rfl) (od 2 (zm (b:=k) (off:=0) (T:=2) (iv (w64 (p0.1+1))) [iv (w64 (p0.1+1))] [iv (w64 (p0.1+1)),iv p0.2] kr kr a rfl kr kr kr rfl fun H t _ e=>?_))))
  replace hs:=hs.trB a.ge t
  replace c:=c.step t (nm1 (c.ne a (zl kr)))
  replace a:=e
  refine oe (zd (zb ?_))
  exact zk eY (n (w64 (p0.1+1)) p0.2  _ _ hs (zr _) m a c d)
 intro j d
 refine cT 2 ?_
 refine cc _ d ?_ ?_
 ·intro j d
  refine cr (od 1 (o1 21 2 (iv p0.2) (a.at.one (o:=1) rfl) (od 2 (zm (b:=k) (off:=1) (T:=2) (iv (w64 (p0.2 - 1))) [iv (w64 (p0.2 - 1))] [iv p0.1,iv (w64 (p0.2 - 1))] kr kr a rfl kr kr kr rfl fun I u _ e=>?_))))
  replace hs:=hs.trB a.ge u
  replace c:=c.step u (nm1 (c.ne a (zl kr)))
  replace a:=e
  refine oe (zd (zb ?_))
  exact zk eY (n p0.1 (w64 (p0.2 - 1))  _ _ hs l (zr _) a c d)
 intro j d
 refine cT 2 ?_
 refine cc _ d ?_ ?_
 ·intro j d
  refine cr (od 1 (o1 27 2 (iv p0.1) (a.at.one (o:=0) rfl) (od 2 (zm (b:=k) (off:=0) (T:=2) (iv (w64 (p0.1 - 1))) [iv (w64 (p0.1 - 1))] [iv (w64 (p0.1 - 1)),iv p0.2] kr kr a rfl kr kr kr rfl fun J w _ e=>?_))))
  replace hs:=hs.trB a.ge w
  replace c:=c.step w (nm1 (c.ne a (zl kr)))
  replace a:=e
  refine oe (zd (zb ?_))
  exact zk eY (n (w64 (p0.1 - 1)) p0.2  _ _ hs (zr _) m a c d)
 intro j d
 refine ck (zd (zb ?_))
 exact zk eY (n p0.1 p0.2  _ _ hs l m a c d)
theorem zfY {g:K} {p0:LP} {l m:Nat} {p:OA} {c2:Nat} {p1:Int×Int} (u:At g l m [vl p p0 c2]) (M:Sl tPlaced g p c2 p0) (Y:I64 p1.1) (a0:I64 p1.2) {r:Int} (a:zaN p0 p1=some r) :
 Fn Tryz.prog 118 #[pt l m,.agg #[iv p1.1,iv p1.2]] g (fun v n=>Step [] g n∧v=iv r∧I64 r):=by
 refine fnc 53 [] Tryz.func118 Tryz.ntmps118 fun hs=>csr (xO 3 103 (g.H.size,118001) hs.1 [iv p1.1,iv p1.2] fun w c1 s9 b=>?_)
 replace hs:=hs.tr0 s9
 refine od 1 (otx (od 1 (otx (od 3 (o1 11 44 (vl p p0 c2) ((u.step0 hs).one (o:=0) rfl) (dT 2 (cs (cb 0 ?_))))))))
 refine zj 0 (fun Z=>∀ (d:Int) (j:Env) (f:K),Step [] g f→I64 d→Box (g.H.size,118001) f w [iv p1.1,iv p1.2] 103→zit p0 p1 d=some r→Z (ups j [(0,pt l m),(3,pt w 0),(5,iv d)]) f) ?_ fun J1=>?_
 ·intro d j f hs N b a
  refine zf (zb (cs ?_))
  refine zn (fun Z=>∀ (q:Bool) (j:Env),zfZ d q=some r→cwp Tryz.prog 53 (sub (zB Tryz.f118) [1,0,1,1,1,1]) Z (ups j [(5,iv d),(51,.bool q)]) f) ?_ fun J2=>?_
  ·intro q j a
   refine cc _ a ?_ ?_
   ·intro s a
    refine cT 2 (crt (zc ?_))
    obtain rfl:=sj a
    exact rT 4 (iv d) ⟨hs,rfl,N⟩
   intro s a
   refine ckt (cT 1 (crt ?_))
   obtain rfl:=sj a
   exact rT 4 (iv (-1)) ⟨hs,rfl,(iK (-1))⟩
  refine cs (cd 17 (dd 4 (d1 37 44 (vl p p0 c2) ((u.step0 hs).one (o:=0) rfl) (dd 2 ?_))))
  refine dsp 40 (decide (d<(p0.length:Int))) a ?_ ?_
  ·intro hg a
   refine ds 41 (ds 42 (ds 43 (ds 44 (ds 45 (ds 46 (ds 47 (ds 48 (ds 49 (de (os 50 (dT 1 ?_)))))))))))
   exact zk eY (J2 false  _  a)
  intro hg a
  refine dd 3 (d1 44 44 (vl p p0 c2) ((u.step0 hs).one (o:=0) rfl) (dd 1 (bE a fun e O a=>?_)))
  obtain ⟨a3,a4,y,z,A,a8,h,B⟩:=(M.step hs).idx O
  obtain ⟨_,_,rfl,⟨_,_,rfl,⟨rfl,b4⟩,⟨rfl,b5⟩⟩,⟨rfl,b6⟩⟩:=B
  replace h:PubAt f a3 (a4+d.toNat*3) [iv e.1.1,iv e.1.2,iv e.2]:=h
  refine di 46 44 105 3 p0.length c2 .i64 d y z A (dd 1 (dN 48 103 [iv e.1.1,iv e.1.2] (h.at.part 0 2).2 (dN 49 103 [iv p1.1,iv p1.2] (b.at.part 0 2).2 (de (oq 50 (.bool (decide (e.1.1=p1.1)&&decide (e.1.2=p1.2))) (fun _=>zfA (T:=103) (k1:=.i64) (k2:=.i64) kr kr) (dT 1 ?_))))))
  exact zk eY (J2 (decide (e.1.1=p1.1)&&decide (e.1.2=p1.2))  _  a)
 refine bE a fun a5 P C=>zp (F:=zdV p0 p1) (J:=fun c E' n=>(∃ j,E'=ups j [(0,pt l m),(3,pt w 0),(5,iv c.1),(6,iv c.2)])∧Step [] g n∧I64 c.1∧I64 c.2∧Box (g.H.size,118001) n w [iv p1.1,iv p1.2] 103) (s0:=(0,(p0.length:Int))) (x:=a5) kr P ⟨⟨_,eY⟩,hs,(iK 0),(zgn (M.step hs).most),b⟩ ?_
 rintro c _ Q ⟨⟨j,rfl⟩,hs,t,R,b⟩ a9 a D
 refine cs (cT 3 ?_)
 refine cc _ a ?_ ?_
 ·intro s a
  refine ckt (cb 1 (cT 5 (cs (cd 9 (dd 3 (d1 23 44 (vl p p0 c2) ((u.step0 hs).one (o:=0) rfl) (dd 1 (bE a fun k S a=>?_))))))))
  obtain ⟨a6,a7,E,G,H,b0,i,I⟩:=(M.step hs).idx S
  obtain ⟨_,_,rfl,⟨_,_,rfl,⟨rfl,U⟩,⟨rfl,V⟩⟩,⟨rfl,b9⟩⟩:=I
  replace i:PubAt Q a6 (a7+(w64 (Int.tdiv (w64 (c.1+c.2)) 2)).toNat*3) [iv k.1.1,iv k.1.2,iv k.2]:=i
  refine di 25 44 105 3 p0.length c2 .i64 (w64 (Int.tdiv (w64 (c.1+c.2)) 2)) E G H (dd 1 (dN 27 103 [iv k.1.1,iv k.1.2] (i.at.part 0 2).2 (dN 28 103 [iv p1.1,iv p1.2] (b.at.part 0 2).2 (de (bE a fun c3 X a=>ocl 29 (zfe U V Y a0 X) ?_)))))
  rintro _ c0 ⟨L,rfl⟩
  replace hs:=hs.tr0 L
  replace b:=b.step0 L
  refine ot ?_
  refine cc _ a ?_ ?_
  ·intro s a
   refine cr (od 3 (oe (zd ?_)))
   exact ze (sj a).symm ⟨⟨_,eY⟩,hs,(zr _),R,b⟩
  intro s a
  refine cr (od 2 (oe (zd ?_)))
  exact ze (sj a).symm ⟨⟨_,eY⟩,hs,t,(zr _),b⟩
 intro s a
 refine cx 0 (zh ?_)
 have hx:=D _ (sj a).symm
 subst hx
 replace a:=C
 refine zi ?_
 exact zq eY (J1 c.1  _ _ hs t b a)
theorem znH {c:K} {p0:LP} {e f:Nat} {g:OA} {c2:Nat} {p1:Int} {h:Int} (w:At c e f [vl g p0 c2]) (x:Sl tPlaced c g c2 p0) (L:I64 p1) (y:I64 h) {r:Int} (a:zfX p0 p1 h=some r) :
 Fn Tryz.prog 132 #[pt e f,iv p1,iv h] c (fun v z=>Step [] c z∧v=iv r∧I64 r):=by
 refine fnc 19 [] Tryz.func132 Tryz.ntmps132 fun hs=>cO 1 (otx (od 4 (o1 11 44 (vl g p0 c2) ((w.step0 hs).one (o:=0) rfl) (od 1 (bE a fun d A a=>?_)))))
 obtain ⟨E,F,i,j,k,G,b,l⟩:=x.idx A
 obtain ⟨_,_,rfl,⟨_,_,rfl,⟨rfl,m⟩,⟨rfl,n⟩⟩,⟨rfl,H⟩⟩:=l
 replace b:PubAt c E (F+p1.toNat*3) [iv d.1.1,iv d.1.2,iv d.2]:=b
 refine oi 13 44 105 3 p0.length c2 .i64 p1 i j k (od 1 (oN 15 103 [iv d.1.1,iv d.1.2] (b.at.part 0 2).2 (od 1 (bE a fun M p a=>ocl 17 (zb0 m n y p) ?_))))
 rintro _ I ⟨B,rfl,q,s⟩
 replace hs:=hs.tr0 B
 refine bE a fun C t a=>ocl 18 (zfY ((w.step0 hs).part 0 1) (x.step hs) q s t) ?_
 rintro _ J ⟨D,rfl,u⟩
 replace hs:=hs.tr0 D
 refine dT 1 (crt ?_)
 obtain rfl:=sj a
 exact rT 6 (iv C) ⟨hs,rfl,u⟩
theorem zin {g:K} {p0:LG×LT} {k m:Nat} {a1 a4 P:OA} {c2 c5 B:Nat} {p1:LP} {n p:Nat} (m0:At g k m [vl a1 p0.1 c2,vl a4 p0.2 c5]) (f3:Sl tGlue g a1 c2 p0.1) (f6:Sl tTile g a4 c5 p0.2) (m1:At g n p [vl P p1 B]) (f9:Sl tPlaced g P B p1) {r:LB} (b:zdB p0 p1=some r) :
 Fn Tryz.prog 102 #[pt k m,pt n p] g (fun v j=>Step [] g j∧∃ (c0:OA) (c1:Nat),v=vl c0 r c1∧Sl zT j c0 c1 r):=by
 refine fnc 59 [] Tryz.func102 Tryz.ntmps102 fun hs=>cO 1 (otx (zJ (d:=10) (T:=183) (e:=210) (t:=zT) (pub:=true) (τ:=(g.H.size,102001)) (len:=0) (l:=[]) (parts:=#[]) (cs:=[]) kr kr kr kr hs.1 rfl rfl kr fun i0 g9 e6 e7=>?_))
 replace hs:=hs.tr0 e6
 refine dT 1 (cs (cT 1 (cb 0 ?_)))
 refine zj 0 (fun Z=>∀ (A:LB) (D:OA) (E:Nat) (h:Env) (s:K),Step [] g s→Gr zT true (g.H.size,102001) s 210 D E A→ziq A=some r→Z (ups h [(5,vl D A E)]) s) ?_ fun J1=>?_
 ·intro A D E h s hs e8 b
  refine zf (zb (cT 2 (crt ?_)))
  obtain rfl:=sj b
  exact rT 4 (vl D A E) ⟨hs,_,_,rfl,e8.sl⟩
 refine bE b fun e9 c9 a5=>zp (F:=zbi p0 p1) (J:=fun c E' j=>∃ (Q:OA) (R:Nat),(∃ h,E'=ups h [(0,pt k m),(1,pt n p),(5,vl Q c.1 R),(6,iv c.2)])∧Step [] g j∧Gr zT true (g.H.size,102001) j 210 Q R c.1∧I64 c.2) (s0:=([],0)) (x:=e9) kr c9 ⟨_,_,⟨_,eY⟩,hs,e7,(iK 0)⟩ ?_
 rintro c _ h1 ⟨Q,R,⟨h,rfl⟩,hs,c3,S⟩ a6 b a8
 refine cs (cO 4 (o1 15 44 (vl P p1 B) ((m1.step0 hs).one (o:=0) rfl) (dT 2 ?_)))
 refine cc _ b ?_ ?_
 ·intro C b
  refine ckt (cs (cb 1 (cT 1 (cb 2 ?_))))
  refine zj 2 (fun Z=>∀ (G:LB) (U:OA) (V:Nat) (h:Env) (u:K),Step [] g u→Gr zT true (g.H.size,102001) u 210 U V G→zio c G=some a6→Z (ups h [(0,pt k m),(1,pt n p),(5,vl U G V),(6,iv c.2)]) u) ?_ fun J2=>?_
  ·intro G U V h u hs f0 b
   refine zf (zd (zb (cr (od 3 (oe ?_)))))
   exact ze (sj b).symm ⟨_,_,⟨_,eY⟩,hs,f0,(zr _)⟩
  refine bE b fun f1 d2 a9=>zp (F:=zbh p0 p1 c) (J:=fun f E' j=>∃ (H:OA) (I:Nat),(∃ h,E'=ups h [(0,pt k m),(1,pt n p),(5,vl H f.1 I),(6,iv c.2),(7,iv f.2)])∧Step [] g j∧Gr zT true (g.H.size,102001) j 210 H I f.1∧I64 f.2) (s0:=(c.1,1)) (x:=f1) kr d2 ⟨_,_,⟨_,eY⟩,hs,c3,(iK 1)⟩ ?_
  rintro f _ h3 ⟨H,I,⟨h,rfl⟩,hs,i,X⟩ b0 b b1
  refine cs (cT 2 ?_)
  refine cc _ b ?_ ?_
  ·intro C b
   refine ckt ?_
   refine zn (fun Z=>∀ (L:LB) (Y:OA) (a0:Nat) (h:Env) (w:K),Step [] g w→Gr zT true (g.H.size,102001) w 210 Y a0 L→zcs f L=some b0→cwp Tryz.prog 59 (sub (zB Tryz.f102) [1,1,0,0,1,0,0,1,0,0,1,0,1,1]) Z (ups h [(0,pt k m),(1,pt n p),(5,vl Y L a0),(6,iv c.2),(7,iv f.2)]) w) ?_ fun J3=>?_
   ·intro L Y a0 h w hs f2 b
    refine cr (od 3 (oe ?_))
    exact ze (sj b).symm ⟨_,_,⟨_,eY⟩,hs,f2,(zr _)⟩
   refine cs (cb 3 (cO 3 (bE b fun q d4 b=>ocl 27 (znH ((m1.step0 hs).part 0 1) (f9.step hs) S X d4) ?_)))
   rintro _ a3 ⟨c4,rfl,d5⟩
   replace hs:=hs.tr0 c4
   replace i:=i.step0 c4
   refine dT 1 (cs (cT 2 ?_))
   refine cc _ b ?_ ?_
   ·intro C b
    refine cx 3 (zh (zf (zb ?_)))
    exact zk eY (J3 f.1 _ _ _ _ hs i b)
   intro C b
   refine ckt (cs (cd 18 (dd 4 (d1 34 44 (vl P p1 B) ((m1.step0 hs).one (o:=0) rfl) (dd 1 (bE b fun M d6 b=>?_))))))
   obtain ⟨f4,f5,b2,b3,b4,g5,y,b5⟩:=(f9.step hs).idx d6
   obtain ⟨_,_,rfl,⟨_,_,rfl,⟨rfl,h4⟩,⟨rfl,h5⟩⟩,⟨rfl,d7⟩⟩:=b5
   replace y:PubAt a3 f4 (f5+c.2.toNat*3) [iv M.1.1,iv M.1.2,iv M.2]:=y
   refine di 36 44 105 3 p1.length B .i64 c.2 b2 b3 b4 (dd 1 (d1 38 2 (iv M.2) (y.at.one (o:=2) rfl) (dd 4 (d1 43 44 (vl P p1 B) ((m1.step0 hs).one (o:=0) rfl) (dd 1 (bE b fun N d8 b=>?_))))))
   obtain ⟨f7,f8,b6,b7,b8,g6,z,b9⟩:=(f9.step hs).idx d8
   obtain ⟨_,_,rfl,⟨_,_,rfl,⟨rfl,h6⟩,⟨rfl,h7⟩⟩,⟨rfl,d9⟩⟩:=b9
   replace z:PubAt a3 f7 (f8+q.toNat*3) [iv N.1.1,iv N.1.2,iv N.2]:=z
   refine di 45 44 105 3 p1.length B .i64 q b6 b7 b8 (dd 1 (d1 47 2 (iv N.2) (z.at.one (o:=2) rfl) (de (bE b fun O e0 b=>ocl 48 (zjq ((m0.step0 hs).part 0 2) (f3.step hs) (f6.step hs) d7 X d9 e0) ?_))))
   rintro _ _ ⟨rfl,rfl,e1⟩
   refine od 1 (otx (dT 2 ?_))
   refine cc _ b ?_ ?_
   ·intro C b
    refine cr (od 5 (zJ (d:=56) (T:=183) (e:=210) (t:=zT) (pub:=true) (τ:=(g.H.size,102002)) (len:=1) (l:=[(c.2,(q,O))]) (parts:=#[(0,.agg #[iv c.2,iv q,iv O])]) (cs:=[iv c.2,iv q,iv O]) kr kr kr kr hs.1 rfl ⟨_,_,rfl,⟨_,_,rfl,⟨rfl,S⟩,⟨_,_,rfl,⟨rfl,d5⟩,⟨rfl,e1⟩⟩⟩,rfl⟩ kr fun g0 h8 c6 g1=>?_))
    replace hs:=hs.tr0 c6
    replace i:=i.step0 c6
    refine bE b fun g2 e2 b=>zH (d:=57) (T:=183) (e:=210) (t:=zT) (pub:=true) (τ:=(g.H.size,102001)) (bytes:=24) (a:=H) (cp:=I) (l:=f.1) (a2:=g0) (c2:=1) (l2:=[(c.2,(q,O))]) kr kr i g1.sl hs.1 kr e2 fun i1 i2 h9 g3 g4 hw=>?_
    clear hw
    replace hs:=hs.trG (i.own (fz _)) g3
    refine od 1 (oe (zd (zb ?_)))
    exact zk eY (J3 g2 _ _ _ _ hs g4 b)
   intro C b
   refine ck (zd (zb ?_))
   exact zk eY (J3 f.1 _ _ _ _ hs i b)
  intro C b
  refine cx 2 (zh ?_)
  have hx:=b1 _ (sj b).symm
  subst hx
  replace b:=a9
  refine zi ?_
  exact zq eY (J2 f.1 _ _ _ _ hs i b)
 intro C b
 refine cx 0 (zh ?_)
 have hx:=a8 _ (sj b).symm
 subst hx
 replace b:=a5
 refine zi ?_
 exact zq eY (J1 c.1 _ _ _ _ hs c3 b)
theorem zkf {b:K} {p0:Int} {p1:Int} (c:I64 p0) (d:I64 p1) {r:Int} (a:zdd p0 p1=some r) :
 Fn Tryz.prog 98 #[iv p0,iv p1] b (fun v e=>b=e∧v=iv r∧I64 r):=by
 refine fnc 10 [] Tryz.func98 Tryz.ntmps98 fun hs=>cT 1 (cs (cT 3 ?_))
 refine cc _ a ?_ ?_
 ·intro f a
  refine cT 2 (crt (zc ?_))
  obtain rfl:=sj a
  exact rT 4 (iv p0) ⟨rfl,rfl,c⟩
 intro f a
 refine ckt (cT 2 (crt ?_))
 obtain rfl:=sj a
 exact rT 4 (iv p1) ⟨rfl,rfl,d⟩
theorem zmW {b:K} {p0:Int} {p1:Int} (c:I64 p0) (d:I64 p1) {r:Int} (a:zfw p0 p1=some r) :
 Fn Tryz.prog 139 #[iv p0,iv p1] b (fun v e=>b=e∧v=iv r∧I64 r):=by
 refine fnc 10 [] Tryz.func139 Tryz.ntmps139 fun hs=>cT 1 (cs (cT 3 ?_))
 refine cc _ a ?_ ?_
 ·intro f a
  refine cT 2 (crt (zc ?_))
  obtain rfl:=sj a
  exact rT 4 (iv p0) ⟨rfl,rfl,c⟩
 intro f a
 refine ckt (cT 2 (crt ?_))
 obtain rfl:=sj a
 exact rT 4 (iv p1) ⟨rfl,rfl,d⟩
theorem zoH {g:K} {p0:Int} {p1:LB} {a2:OA} {Q:Nat} (x2:I64 p0) (f4:Sl zT g a2 Q p1) {r:LM} (c:zhE p0 p1=some r) :
 Fn Tryz.prog 138 #[iv p0,vl a2 p1 Q] g (fun v p=>Step [] g p∧∃ (a5:OA) (c6:Nat),v=vl a5 r c6∧Sl (tSl tI64) p a5 c6 r):=by
 refine fnc 101 [] Tryz.func138 Tryz.ntmps138 fun hs=>cO 1 (otx (zJ (d:=15) (T:=32) (e:=2) (t:=tI64) (pub:=false) (τ:=(g.H.size,138001)) (len:=0) (l:=[]) (parts:=#[]) (cs:=[]) kr kr kr kr hs.1 rfl rfl kr fun x3 x4 s9 q4=>?_))
 replace hs:=hs.tr0 s9
 refine dT 1 (cs (cT 1 (cb 0 ?_)))
 refine zj 0 (fun Z=>∀ (b2:LI) (e9:OA) (f0:Nat) (k:Env) (a0:K),Step [] g a0→Gr tI64 false (g.H.size,138001) a0 2 e9 f0 b2→zhD p0 p1 b2=some r→Z (ups k [(0,iv p0),(1,vl a2 p1 Q),(5,vl e9 b2 f0)]) a0) ?_ fun J1=>?_
 ·intro b2 e9 f0 k a0 hs q5 c
  refine zf (zb (cs (cT 1 (cb 2 ?_))))
  refine zj 2 (fun Z=>∀ (s:LI) (z:OA) (w:Nat) (k:Env) (a1:K),Step [] g a1→Gr tI64 false (g.H.size,138001) a1 2 z w s→zhC p0 s=some r→Z (ups k [(0,iv p0),(5,vl z s w)]) a1) ?_ fun J2=>?_
  ·intro s z w k a1 hs j c
   refine zf (zb (csr (zJ (d:=67) (T:=33) (e:=32) (t:=(tSl tI64)) (pub:=true) (τ:=(g.H.size,138003)) (len:=0) (l:=[]) (parts:=#[]) (cs:=[]) kr kr kr kr hs.1 rfl rfl kr fun x5 v3 m1 q6=>?_)))
   replace hs:=hs.tr0 m1
   replace j:=j.step0 m1
   refine dT 1 (cs (cT 1 (cb 6 ?_)))
   refine zj 6 (fun Z=>∀ (b3:LM) (d3:OA) (d4:Nat) (k:Env) (a3:K),Step [] g a3→Gr (tSl tI64) true (g.H.size,138003) a3 32 d3 d4 b3→zhB b3=some r→Z (ups k [(11,vl d3 b3 d4)]) a3) ?_ fun J3=>?_
   ·intro b3 d3 d4 k a3 hs q7 c
    refine zf (zb (cT 2 (crt ?_)))
    obtain rfl:=sj c
    exact rT 4 (vl d3 b3 d4) ⟨hs,_,_,rfl,q7.sl⟩
   refine bE c fun q8 m5 j4=>zp (F:=zc7 p0 s) (J:=fun f E' p=>∃ (A:OA) (B:Nat),(∃ k,E'=ups k [(0,iv p0),(5,vl z s w),(11,vl A f.1 B),(12,iv f.2)])∧Step [] g p∧Gr (tSl tI64) true (g.H.size,138003) p 32 A B f.1∧I64 f.2∧Gr tI64 false (g.H.size,138001) p 2 z w s) (s0:=([],0)) (x:=q8) kr m5 ⟨_,_,⟨_,eY⟩,hs,q6,(iK 0),j⟩ ?_
   rintro f _ m6 ⟨A,B,⟨k,rfl⟩,hs,m,m7,j⟩ d5 c j5
   refine cs (cT 3 ?_)
   refine cc _ c ?_ ?_
   ·intro C c
    refine ckt ?_
    refine zn (fun Z=>∀ (d6:LM) (f1:OA) (f2:Nat) (k:Env) (R:K),Step [] g R→Gr (tSl tI64) true (g.H.size,138003) R 32 f1 f2 d6→Gr tI64 false (g.H.size,138001) R 2 z w s→zda f d6=some d5→cwp Tryz.prog 101 (sub (zB Tryz.f138) [1,1,0,0,1,0,1,1,1,1,1]) Z (ups k [(0,iv p0),(5,vl z s w),(11,vl f1 d6 f2),(12,iv f.2)]) R) ?_ fun J4=>?_
    ·intro d6 f1 f2 k R hs r0 j c
     refine cr (od 3 (oe ?_))
     exact ze (sj c).symm ⟨_,_,⟨_,eY⟩,hs,r0,(zr _),j⟩
    refine cs (cb 7 (cs (cO 2 (bE c fun m2 m8 c=>?_))))
    obtain ⟨r1,j6,j7,j8,t3,a6,j9⟩:=j.idx m8
    obtain ⟨rfl,v5⟩:=j9
    replace a6:At m6 r1 (0+f.2.toNat*1) [iv m2]:=a6
    refine oi 75 32 2 1 s.length w .i64 f.2 (off:=0) j6 j7 j8 (o1 76 2 (iv m2) (a6.one (o:=0) rfl) (dT 2 ?_))
    refine cc _ c ?_ ?_
    ·intro C c
     refine cx 7 (zh (zf (zb ?_)))
     exact zk eY (J4 f.1 _ _ _ _ hs m j c)
    intro C c
    refine ckt (csr (zJ (d:=79) (T:=32) (e:=2) (t:=tI64) (pub:=true) (τ:=(g.H.size,138004)) (len:=0) (l:=[]) (parts:=#[]) (cs:=[]) kr kr kr kr hs.1 rfl rfl kr fun x6 v6 f3 r2=>?_))
    replace hs:=hs.tr0 f3
    replace j:=j.step0 f3
    replace m:=m.step0 f3
    refine dT 1 (cs (cT 2 (cb 8 ?_)))
    refine zj 8 (fun Z=>∀ (L:LI) (b4:OA) (b5:Nat) (k:Env) (E:K),Step [] g E→Gr tI64 true (g.H.size,138004) E 2 b4 b5 L→Gr tI64 false (g.H.size,138001) E 2 z w s→Gr (tSl tI64) true (g.H.size,138003) E 32 A B f.1→zhA f L=some d5→Z (ups k [(0,iv p0),(5,vl z s w),(11,vl A f.1 B),(12,iv f.2),(13,vl b4 L b5)]) E) ?_ fun J5=>?_
    ·intro L b4 b5 k E hs r3 j m c
     refine zf (zb (cr (od 2 (zJ (d:=98) (T:=33) (e:=32) (t:=(tSl tI64)) (pub:=true) (τ:=(g.H.size,138006)) (len:=1) (l:=[L]) (parts:=#[(0,vl b4 L b5)]) (cs:=[vl b4 L b5]) kr kr kr kr hs.1 rfl ⟨_,_,rfl,⟨_,_,rfl,r3.sl⟩,rfl⟩ kr fun r4 v8 f5 r5=>?_))))
     replace hs:=hs.tr0 f5
     replace j:=j.step0 f5
     replace m:=m.step0 f5
     refine bE c fun r6 m9 c=>zH (d:=99) (T:=33) (e:=32) (t:=(tSl tI64)) (pub:=true) (τ:=(g.H.size,138003)) (bytes:=24) (a:=A) (cp:=B) (l:=f.1) (a2:=r4) (c2:=1) (l2:=[L]) kr kr m r5.sl hs.1 kr m9 fun x7 x8 v9 m3 r7 hw=>?_
     clear hw
     replace hs:=hs.trG (m.own (fz _)) m3
     replace j:=j.step m3 (j.ng m (zl kr))
     refine od 1 (oe (zd (zb ?_)))
     exact zk eY (J4 r6 _ _ _ _ hs r7 j c)
    refine bE c fun r8 n0 k0=>zp (F:=zc6 p0 s f) (J:=fun n E' p=>∃ (d7:OA) (d8:Nat),(∃ k,E'=ups k [(0,iv p0),(5,vl z s w),(11,vl A f.1 B),(12,iv f.2),(13,vl d7 n.1 d8),(14,iv n.2)])∧Step [] g p∧Gr tI64 true (g.H.size,138004) p 2 d7 d8 n.1∧I64 n.2∧Gr tI64 false (g.H.size,138001) p 2 z w s∧Gr (tSl tI64) true (g.H.size,138003) p 32 A B f.1) (s0:=([],f.2)) (x:=r8) kr n0 ⟨_,_,⟨_,eY⟩,hs,r2,m7,j,m⟩ ?_
    rintro n _ n1 ⟨d7,d8,⟨k,rfl⟩,hs,M,n2,j,m⟩ k1 c k2
    refine cs (cT 3 ?_)
    refine cc _ c ?_ ?_
    ·intro C c
     refine ckt ?_
     refine zn (fun Z=>∀ (d9:LI) (f6:OA) (f7:Nat) (k:Env) (G:K),Step [] g G→Gr tI64 true (g.H.size,138004) G 2 f6 f7 d9→Gr tI64 false (g.H.size,138001) G 2 z w s→Gr (tSl tI64) true (g.H.size,138003) G 32 A B f.1→zfd n d9=some k1→cwp Tryz.prog 101 (sub (zB Tryz.f138) [1,1,0,0,1,0,1,1,0,0,1,0,0,1,0,1,1,1,1,1]) Z (ups k [(0,iv p0),(5,vl z s w),(11,vl A f.1 B),(12,iv f.2),(13,vl f6 d9 f7),(14,iv n.2)]) G) ?_ fun J6=>?_
     ·intro d9 f6 f7 k G hs s1 j m c
      refine cr (od 3 (oe ?_))
      exact ze (sj c).symm ⟨_,_,⟨_,eY⟩,hs,s1,(zr _),j,m⟩
     refine cs (cb 9 (cO 2 (bE c fun m4 n3 c=>?_)))
     obtain ⟨s2,k3,k4,k5,t4,a7,k6⟩:=j.idx n3
     obtain ⟨rfl,w1⟩:=k6
     replace a7:At n1 s2 (0+n.2.toNat*1) [iv m4]:=a7
     refine oi 88 32 2 1 s.length w .i64 n.2 (off:=0) k3 k4 k5 (o1 89 2 (iv m4) (a7.one (o:=0) rfl) (dT 2 ?_))
     refine cc _ c ?_ ?_
     ·intro C c
      refine cr (od 2 (zJ (d:=94) (T:=32) (e:=2) (t:=tI64) (pub:=true) (τ:=(g.H.size,138005)) (len:=1) (l:=[n.2]) (parts:=#[(0,iv n.2)]) (cs:=[iv n.2]) kr kr kr kr hs.1 rfl ⟨_,_,rfl,⟨rfl,n2⟩,rfl⟩ kr fun n4 w2 e0 n5=>?_))
      replace hs:=hs.tr0 e0
      replace j:=j.step0 e0
      replace m:=m.step0 e0
      replace M:=M.step0 e0
      refine bE c fun n6 k7 c=>zH (d:=95) (T:=32) (e:=2) (t:=tI64) (pub:=true) (τ:=(g.H.size,138004)) (bytes:=8) (a:=d7) (cp:=d8) (l:=n.1) (a2:=n4) (c2:=1) (l2:=[n.2]) kr kr M n5.sl hs.1 kr k7 fun w3 w4 t5 c4 n7 hw=>?_
      clear hw
      replace hs:=hs.trG (M.own (fz _)) c4
      replace j:=j.step c4 (j.ng M (zl kr))
      replace m:=m.step c4 (m.ng M (zl kr))
      refine od 1 (oe (zd (zb ?_)))
      exact zk eY (J6 n6 _ _ _ _ hs n7 j m c)
     intro C c
     refine ck (zd (zb ?_))
     exact zk eY (J6 n.1 _ _ _ _ hs M j m c)
    intro C c
    refine cx 8 (zh ?_)
    have hx:=k2 _ (sj c).symm
    subst hx
    replace c:=k0
    refine zi ?_
    exact zq eY (J5 n.1 _ _ _ _ hs M j m c)
   intro C c
   refine cx 6 (zh ?_)
   have hx:=j5 _ (sj c).symm
   subst hx
   replace c:=j4
   refine zi ?_
   exact zq eY (J3 f.1 _ _ _ _ hs m c)
  refine bE c fun n8 k8 f8=>zp (F:=zc8 p1) (J:=fun h E' p=>∃ (f9:OA) (b6:Nat),(∃ k,E'=ups k [(0,iv p0),(1,vl a2 p1 Q),(5,vl f9 h.1 b6),(7,iv h.2)])∧Step [] g p∧Gr tI64 false (g.H.size,138001) p 2 f9 b6 h.1∧I64 h.2) (s0:=(b2,0)) (x:=n8) kr k8 ⟨_,_,⟨_,eY⟩,hs,q5,(iK 0)⟩ ?_
  rintro h _ N ⟨f9,b6,⟨k,rfl⟩,hs,e1,w5⟩ g0 c g1
  refine cs (cT 4 ?_)
  refine cc _ c ?_ ?_
  ·intro C c
   refine ckt (cs (cb 3 (cO 3 (bE c fun u e2 c=>?_))))
   obtain ⟨n9,o0,g2,g3,g4,s3,S,g5⟩:=(f4.step hs).idx e2
   obtain ⟨_,_,rfl,⟨rfl,t6⟩,⟨_,_,rfl,⟨rfl,t7⟩,⟨rfl,t8⟩⟩⟩:=g5
   replace S:PubAt N n9 (o0+h.2.toNat*3) [iv u.1,iv u.2.1,iv u.2.2]:=S
   refine oi 34 183 210 3 p1.length Q .i64 h.2 g2 g3 g4 (od 1 (o1 36 2 (iv u.1) (S.at.one (o:=0) rfl) (bE c fun H k9 c=>?_)))
   obtain ⟨o2,g6,g7,g8,s4,U,g9⟩:=e1.idx k9
   obtain ⟨rfl,e3⟩:=g9
   replace U:At N o2 (0+u.1.toNat*1) [iv H]:=U
   refine oi 37 32 2 1 h.1.length b6 .i64 u.1 (off:=0) g6 g7 g8 (o1 38 2 (iv H) (U.one (o:=0) rfl) (od 1 (otx (od 3 (bE c fun o3 a8 c=>?_)))))
   have h0:u=o3:=sj (e2.symm.trans a8);subst h0
   have s5:=a8
   obtain ⟨o4,o5,h1,h2,h3,s6,V,h4⟩:=(f4.step hs).idx a8
   obtain ⟨_,_,rfl,⟨rfl,t9⟩,⟨_,_,rfl,⟨rfl,u0⟩,⟨rfl,u1⟩⟩⟩:=h4
   replace V:PubAt N o4 (o5+h.2.toNat*3) [iv u.1,iv u.2.1,iv u.2.2]:=V
   refine oi 42 183 210 3 p1.length Q .i64 h.2 h1 h2 h3 (od 1 (o1 44 2 (iv u.2.1) (V.at.one (o:=1) rfl) (bE c fun I l0 c=>?_)))
   obtain ⟨o6,h5,h6,h7,s7,X,h8⟩:=e1.idx l0
   obtain ⟨rfl,e4⟩:=h8
   replace X:At N o6 (0+u.2.1.toNat*1) [iv I]:=X
   refine oi 45 32 2 1 h.1.length b6 .i64 u.2.1 (off:=0) h5 h6 h7 (o1 46 2 (iv I) (X.one (o:=0) rfl) (od 1 (otx (dT 1 (cb 4 ?_)))))
   refine zj 4 (fun Z=>∀ (a9:LI) (c5:OA) (c7:Nat) (k:Env) (O:K),Step [] g O→Gr tI64 false (g.H.size,138001) O 2 c5 c7 a9→zhz h a9=some g0→Z (ups k [(0,iv p0),(1,vl a2 p1 Q),(5,vl c5 a9 c7),(7,iv h.2)]) O) ?_ fun J7=>?_
   ·intro a9 c5 c7 k O hs o7 c
    refine zf (zd (zb (cr (od 3 (oe ?_)))))
    exact ze (sj c).symm ⟨_,_,⟨_,eY⟩,hs,o7,(zr _)⟩
   refine bE c fun o8 l1 h9=>zp (F:=zc5 H I) (J:=fun i E' p=>∃ (b0:OA) (D:Nat),(∃ k,E'=ups k [(0,iv p0),(1,vl a2 p1 Q),(5,vl b0 i.1 D),(7,iv h.2),(8,iv H),(9,iv I),(10,iv i.2)])∧Step [] g p∧Gr tI64 false (g.H.size,138001) p 2 b0 D i.1∧I64 i.2) (s0:=(h.1,0)) (x:=o8) kr l1 ⟨_,_,⟨_,eY⟩,hs,e1,(iK 0)⟩ ?_
   rintro i _ e5 ⟨b0,D,⟨k,rfl⟩,hs,y,u2⟩ i0 c i1
   refine cs (cT 4 ?_)
   refine cc _ c ?_ ?_
   ·intro C c
    refine ckt ?_
    refine zn (fun Z=>∀ (b1:LI) (c8:OA) (c9:Nat) (k:Env) (P:K),Step [] g P→Gr tI64 false (g.H.size,138001) P 2 c8 c9 b1→zfc i b1=some i0→cwp Tryz.prog 101 (sub (zB Tryz.f138) [1,1,0,0,1,1,1,0,0,1,0,0,1,0,1,1,1]) Z (ups k [(0,iv p0),(1,vl a2 p1 Q),(5,vl c8 b1 c9),(7,iv h.2),(8,iv H),(9,iv I),(10,iv i.2)]) P) ?_ fun J8=>?_
    ·intro b1 c8 c9 k P hs o9 c
     refine cr (od 3 (oe ?_))
     exact ze (sj c).symm ⟨_,_,⟨_,eY⟩,hs,o9,(zr _)⟩
    refine cs (cb 5 (cs (cd 7 (dd 2 (bE c fun i2 l3 c=>?_)))))
    obtain ⟨p2,i3,i4,i5,t0,Y,i6⟩:=y.idx l3
    obtain ⟨rfl,u3⟩:=i6
    replace Y:At e5 p2 (0+i.2.toNat*1) [iv i2]:=Y
    refine di 55 32 2 1 i.1.length D .i64 i.2 (off:=0) i3 i4 i5 (d1 56 2 (iv i2) (Y.one (o:=0) rfl) (dd 2 (bE c fun w7 l4 c=>dc 59 (zkf e3 e4 l4) fun u4=>de (dT 1 ?_))))
    refine cc _ c ?_ ?_
    ·intro C c
     refine cr (od 4 (bE c fun d0 l5 c=>ocl 65 (zmW e3 e4 l5) ?_))
     rintro _ _ ⟨rfl,rfl,l6⟩
     refine bE c fun p3 l7 c=>?_
     obtain ⟨i7,b7,b8,b9,t1,c0,i8⟩:=y.idx l7
     obtain ⟨rfl,u5⟩:=i8
     replace c0:At e5 i7 (0+i.2.toNat*1) [iv p3]:=c0
     refine oi 66 32 2 1 i.1.length D .i64 i.2 (off:=0) b7 b8 b9 (bE c fun i9 e6 c=>zau (T:=2) (t:=tI64) (τ:=(g.H.size,138001)) (e:=2) (ix:=i.2) (x':=d0) (b:=i7) (δ:=0) (cp:=D) (l:=i.1) (vs:=[iv d0]) (iv d0) kr kr b7 y b8 b9 kr kr kr kr (fun cs hx=>by obtain ⟨x,_,ho⟩:=hx;rw [zM ((tI64.len ho).trans kr)];exact ⟨rfl,l6⟩) fun u6 p4 l8=>?_)
     replace hs:=hs.trG (y.own (fz _)) p4
     replace y:=l8
     replace y:=zcF e6 y
     have d2:=zL e6
     refine zam (eA 10 (v:=iv i.2) (eA 9 (v:=iv I) (eA 8 (v:=iv H) (eA 7 (v:=iv h.2) (za (t:=5) (v:=vl b0 i9 D) (eA 1 (v:=vl a2 p1 Q) (eA 0 (v:=iv p0) rfl)) (by unfold vl;rw [d2];kernel_rfl)))))) (oe (zd (zb ?_)))
     exact zk eY (J8 i9 _ _ _ _ hs y c)
    intro C c
    refine ck (zd (zb ?_))
    exact zk eY (J8 i.1 _ _ _ _ hs y c)
   intro C c
   refine cx 4 (zh ?_)
   have hx:=i1 _ (sj c).symm
   subst hx
   replace c:=h9
   refine zi ?_
   exact zq eY (J7 i.1 _ _ _ _ hs y c)
  intro C c
  refine cx 2 (zh ?_)
  have hx:=g1 _ (sj c).symm
  subst hx
  replace c:=f8
  refine zi ?_
  exact zq eY (J2 h.1 _ _ _ _ hs e1 c)
 refine bE c fun p5 l9 j1=>zp (F:=zc9 p0) (J:=fun q E' p=>∃ (e7:OA) (e8:Nat),(∃ k,E'=ups k [(0,iv p0),(1,vl a2 p1 Q),(5,vl e7 q.1 e8),(6,iv q.2)])∧Step [] g p∧Gr tI64 false (g.H.size,138001) p 2 e7 e8 q.1∧I64 q.2) (s0:=([],0)) (x:=p5) kr l9 ⟨_,_,⟨_,eY⟩,hs,q4,(iK 0)⟩ ?_
 rintro q _ u7 ⟨e7,e8,⟨k,rfl⟩,hs,c1,p6⟩ t2 c j2
 refine cs (cT 3 ?_)
 refine cc _ c ?_ ?_
 ·intro C c
  refine ckt (cs (cb 1 (cr (od 2 (zJ (d:=23) (T:=32) (e:=2) (t:=tI64) (pub:=true) (τ:=(g.H.size,138002)) (len:=1) (l:=[q.2]) (parts:=#[(0,iv q.2)]) (cs:=[iv q.2]) kr kr kr kr hs.1 rfl ⟨_,_,rfl,⟨rfl,p6⟩,rfl⟩ kr fun p7 u8 j3 p8=>?_)))))
  replace hs:=hs.tr0 j3
  replace c1:=c1.step0 j3
  refine bE c fun w8 m0 c=>zH (d:=24) (T:=32) (e:=2) (t:=tI64) (pub:=false) (τ:=(g.H.size,138001)) (bytes:=8) (a:=e7) (cp:=e8) (l:=q.1) (a2:=p7) (c2:=1) (l2:=[q.2]) kr kr c1 p8.sl hs.1 kr m0 fun w9 x0 u9 p9 q0 hw=>?_
  clear hw
  replace hs:=hs.trG (c1.own (fz _)) p9
  refine od 1 (oe (zd (zb (cr (od 3 (oe ?_))))))
  exact ze (sj c).symm ⟨_,_,⟨_,eY⟩,hs,q0,(zr _)⟩
 intro C c
 refine cx 0 (zh ?_)
 have hx:=j2 _ (sj c).symm
 subst hx
 replace c:=j1
 refine zi ?_
 exact zq eY (J1 q.1 _ _ _ _ hs c1 c)
theorem zoF {p:K} {p0:Int} {p1:LB} {a2:OA} {B:Nat} {p2:Int} (t2:I64 p0) (f4:Sl zT p a2 B p1) (B3:I64 p2) {r:Int×LB} (c:zhx p0 p1 p2=some r) :
 Fn Tryz.prog 113 #[iv p0,vl a2 p1 B,iv p2] p (fun v u=>Step [] p u∧∃ (a7:OA) (c8:Nat),v=.tuple #[iv r.1,vl a7 r.2 c8]∧I64 r.1∧Sl zT u a7 c8 r.2):=by
 refine fnc 113 [] Tryz.func113 Tryz.ntmps113 fun hs=>cO 2 (otx (zJ (d:=18) (T:=183) (e:=210) (t:=zT) (pub:=true) (τ:=(p.H.size,113001)) (len:=0) (l:=[]) (parts:=#[]) (cs:=[]) kr kr kr kr hs.1 rfl rfl kr fun B4 y5 t5 t6=>?_))
 replace hs:=hs.tr0 t5
 refine dT 1 (cs (cT 1 (cb 0 ?_)))
 refine zj 0 (fun Z=>∀ (e2:LB) (f7:OA) (f8:Nat) (q:Env) (a5:K),Step [] p a5→Gr zT true (p.H.size,113001) a5 210 f7 f8 e2→zhw p0 p1 e2=some r→Z (ups q [(0,iv p0),(1,vl a2 p1 B),(8,vl f7 e2 f8)]) a5) ?_ fun J1=>?_
 ·intro e2 f7 f8 q a5 hs t7 c
  refine zf (zb (cO 2 (bE c fun n o8 c=>ocl 41 (zoH t2 t7.sl o8) ?_)))
  rintro _ y7 ⟨t8,y,w,rfl,g⟩
  replace hs:=hs.tr0 t8
  refine od 1 (otx (od 1 (bE c fun t9 o9 c=>zdl (d:=43) (T:=32) (e:=2) (t:=tI64) (pub:=false) (τ:=(p.H.size,113003)) (bytes:=8) (k1:=.i64) (k2:=.i64) (m:=p0) (zs:=[iv 0]) (z:=0) kr kr kr kr ⟨rfl,(iK 0)⟩ o9 hs.1 fun B5 y8 o4 u0=>?_)))
  replace hs:=hs.tr0 o4
  replace g:=g.step o4
  refine dT 1 (cs (cT 1 (cb 2 ?_)))
  refine zj 2 (fun Z=>∀ (C:LI) (O:OA) (E:Nat) (q:Env) (P:K),Step [] p P→Gr tI64 false (p.H.size,113003) P 2 O E C→Sl (tSl tI64) P y w n→zhv p1 n C=some r→Z (ups q [(1,vl a2 p1 B),(10,vl y n w),(11,vl O C E)]) P) ?_ fun J2=>?_
  ·intro C O E q P hs A g c
   refine zf (zb (csr (zJ (d:=69) (T:=183) (e:=210) (t:=zT) (pub:=true) (τ:=(p.H.size,113004)) (len:=0) (l:=[]) (parts:=#[]) (cs:=[]) kr kr kr kr hs.1 rfl rfl kr fun B6 z0 f9 u1=>?_)))
   replace hs:=hs.tr0 f9
   replace g:=g.step f9
   replace A:=A.step0 f9
   refine dT 1 (cs (cT 1 (cb 6 ?_)))
   refine zj 6 (fun Z=>∀ (b8:LB) (e3:OA) (e4:Nat) (q:Env) (Q:K),Step [] p Q→Gr zT true (p.H.size,113004) Q 210 e3 e4 b8→Sl (tSl tI64) Q y w n→zhu n b8=some r→Z (ups q [(10,vl y n w),(14,vl e3 b8 e4)]) Q) ?_ fun J3=>?_
   ·intro b8 e3 e4 q Q hs u2 g c
    refine zf (zb (cT 5 (crt ?_)))
    obtain rfl:=sj c
    refine rt [.tmp 6,.tmp 7] [iv (n.length:Int),vl e3 b8 e4] ⟨kr,kr,trivial⟩ ?_
    exact ⟨hs,_,_,rfl,(zgn g.most),u2.sl⟩
   refine bE c fun u3 p3 k6=>zp (F:=zc2 p1 C) (J:=fun h E' u=>∃ (b9:OA) (c0:Nat),(∃ q,E'=ups q [(1,vl a2 p1 B),(10,vl y n w),(11,vl O C E),(14,vl b9 h.1 c0),(15,iv h.2)])∧Step [] p u∧Gr zT true (p.H.size,113004) u 210 b9 c0 h.1∧I64 h.2∧Sl (tSl tI64) u y w n∧Gr tI64 false (p.H.size,113003) u 2 O E C) (s0:=([],0)) (x:=u3) kr p3 ⟨_,_,⟨_,eY⟩,hs,u1,(iK 0),g,A⟩ ?_
   rintro h _ R ⟨b9,c0,⟨q,rfl⟩,hs,S,z4,g,A⟩ k7 c k8
   refine cs (cT 4 ?_)
   refine cc _ c ?_ ?_
   ·intro U c
    refine ckt ?_
    refine zn (fun Z=>∀ (e5:LB) (g0:OA) (g1:Nat) (q:Env) (H:K),Step [] p H→Gr zT true (p.H.size,113004) H 210 g0 g1 e5→Sl (tSl tI64) H y w n→Gr tI64 false (p.H.size,113003) H 2 O E C→zfa h e5=some k7→cwp Tryz.prog 113 (sub (zB Tryz.f113) [1,1,0,0,1,0,1,1,1,1,1,1,1]) Z (ups q [(1,vl a2 p1 B),(10,vl y n w),(11,vl O C E),(14,vl g0 e5 g1),(15,iv h.2)]) H) ?_ fun J4=>?_
    ·intro e5 g0 g1 q H hs u5 g A c
     refine cr (od 3 (oe ?_))
     exact ze (sj c).symm ⟨_,_,⟨_,eY⟩,hs,u5,(zr _),g,A⟩
    refine cs (cb 7 (cO 3 (bE c fun k d2 c=>?_)))
    obtain ⟨u6,u7,k9,l0,l1,w5,a6,l3⟩:=(f4.step hs).idx d2
    obtain ⟨_,_,rfl,⟨rfl,z5⟩,⟨_,_,rfl,⟨rfl,z9⟩,⟨rfl,A0⟩⟩⟩:=l3
    replace a6:PubAt R u6 (u7+h.2.toNat*3) [iv k.1,iv k.2.1,iv k.2.2]:=a6
    refine oi 79 183 210 3 p1.length B .i64 h.2 k9 l0 l1 (od 1 (o1 81 2 (iv k.1) (a6.at.one (o:=0) rfl) (bE c fun e6 p4 c=>?_)))
    obtain ⟨u8,l4,l5,l6,w6,a8,l7⟩:=A.idx p4
    obtain ⟨rfl,g2⟩:=l7
    replace a8:At R u8 (0+k.1.toNat*1) [iv e6]:=a8
    refine oi 82 32 2 1 C.length E .i64 k.1 (off:=0) l4 l5 l6 (o1 83 2 (iv e6) (a8.one (o:=0) rfl) (od 1 (otx (od 3 (bE c fun u9 d3 c=>?_)))))
    have l8:k=u9:=sj (d2.symm.trans d3);subst l8
    have w7:=d3
    obtain ⟨v0,v1,l9,m0,m1,w8,a9,m2⟩:=(f4.step hs).idx d3
    obtain ⟨_,_,rfl,⟨rfl,A1⟩,⟨_,_,rfl,⟨rfl,A2⟩,⟨rfl,A3⟩⟩⟩:=m2
    replace a9:PubAt R v0 (v1+h.2.toNat*3) [iv k.1,iv k.2.1,iv k.2.2]:=a9
    refine oi 87 183 210 3 p1.length B .i64 h.2 l9 m0 m1 (od 1 (o1 89 2 (iv k.2.1) (a9.at.one (o:=1) rfl) (bE c fun e7 p5 c=>?_)))
    obtain ⟨v2,m3,m4,m5,w9,b0,m6⟩:=A.idx p5
    obtain ⟨rfl,g3⟩:=m6
    replace b0:At R v2 (0+k.2.1.toNat*1) [iv e7]:=b0
    refine oi 90 32 2 1 C.length E .i64 k.2.1 (off:=0) m3 m4 m5 (o1 91 2 (iv e7) (b0.one (o:=0) rfl) (od 1 (otx (dT 3 ?_))))
    refine cc _ c ?_ ?_
    ·intro U c
     refine cx_ 14 [0,1,2,4,5,7,8,9,10,11,3,6,12,13] [3,6,13] 14 [] (xp 95 (vl b9 h.1 c0) (xp 96 (iv e6) (xp 97 (iv e7) (xp 99 (iv e6) (xp 100 (iv e7) (xp 102 (vl a2 p1 B) (xp 103 (iv h.2) (bE c fun v3 d4 c=>?_))))))))
     have m7:k=v3:=sj (d2.symm.trans d4);subst m7
     have x0:=d4
     obtain ⟨o5,o6,m8,m9,n0,x2,b1,n1⟩:=(f4.step hs).idx d4
     obtain ⟨_,_,rfl,⟨rfl,A4⟩,⟨_,_,rfl,⟨rfl,A5⟩,⟨rfl,p6⟩⟩⟩:=n1
     replace b1:PubAt R o5 (o6+h.2.toNat*3) [iv k.1,iv k.2.1,iv k.2.2]:=b1
     refine xi 104 183 210 3 p1.length B .i64 h.2 m8 m9 n0 (xp 105 (pt o5 (o6+h.2.toNat*3+2)) (x1 106 2 (iv k.2.2) b1.at 2 rfl (bE c fun c1 p7 c=>xcl 98 (zmW g2 g3 p7) ?_)))
     rintro _ _ ⟨rfl,rfl,p8⟩
     refine ⟨Step.refl _ _,?_⟩
     refine bE c fun c4 p9 c=>xcl 101 (zkf g2 g3 p9) ?_
     rintro _ _ ⟨rfl,rfl,q0⟩
     refine ⟨Step.refl _ _,?_⟩
     refine xp 107 (.agg #[iv c1,iv c4,iv k.2.2]) (zhp (d:=108) (T:=183) (e:=210) (t:=zT) (pub:=true) (τ:=(p.H.size,113005)) (len:=1) (l:=[(c1,(c4,k.2.2))]) (parts:=#[(0,.agg #[iv c1,iv c4,iv k.2.2])]) (cs:=[iv c1,iv c4,iv k.2.2]) kr kr kr kr hs.1 rfl ⟨_,_,rfl,⟨_,_,rfl,⟨rfl,p8⟩,⟨_,_,rfl,⟨rfl,q0⟩,⟨rfl,p6⟩⟩⟩,rfl⟩ kr fun q1 x3 b2 q2=>?_)
     replace hs:=hs.tr0 b2
     replace g:=g.step b2
     replace A:=A.step0 b2
     replace S:=S.step0 b2
     refine xe (bE c fun q3 n2 c=>zH (d:=109) (T:=183) (e:=210) (t:=zT) (pub:=true) (τ:=(p.H.size,113004)) (bytes:=24) (a:=b9) (cp:=c0) (l:=h.1) (a2:=q1) (c2:=1) (l2:=[(c1,(c4,k.2.2))]) kr kr S q2.sl hs.1 kr n2 fun A6 A7 x4 d5 q4 hw=>?_)
     clear hw
     replace hs:=hs.trG (S.own (fz _)) d5
     replace g:=g.step d5
     replace A:=A.step d5 (A.ng S (zl kr))
     refine od 1 (oe (zd (zb ?_)))
     exact zk eY (J4 q3 _ _ _ _ hs q4 g A c)
    intro U c
    refine ck (zd (zb ?_))
    exact zk eY (J4 h.1 _ _ _ _ hs S g A c)
   intro U c
   refine cx 6 (zh ?_)
   have hx:=k8 _ (sj c).symm
   subst hx
   replace c:=k6
   refine zi ?_
   exact zq eY (J3 h.1 _ _ _ _ hs S g c)
  refine bE c fun q5 n3 g4=>zp (F:=ze8 n) (J:=fun f E' u=>∃ (g5:OA) (g6:Nat),(∃ q,E'=ups q [(1,vl a2 p1 B),(10,vl y n w),(11,vl g5 f.1 g6),(12,iv f.2)])∧Step [] p u∧Gr tI64 false (p.H.size,113003) u 2 g5 g6 f.1∧I64 f.2∧Sl (tSl tI64) u y w n) (s0:=(t9,0)) (x:=q5) kr n3 ⟨_,_,⟨_,eY⟩,hs,u0,(iK 0),g⟩ ?_
  rintro f _ x5 ⟨g5,g6,⟨q,rfl⟩,hs,o7,q6,g⟩ g7 c g8
  refine cs (cT 4 ?_)
  refine cc _ c ?_ ?_
  ·intro U c
   refine ckt (cs (cb 3 (cT 1 (cb 4 ?_))))
   refine zj 4 (fun Z=>∀ (b3:LI) (d6:OA) (d7:Nat) (q:Env) (G:K),Step [] p G→Gr tI64 false (p.H.size,113003) G 2 d6 d7 b3→Sl (tSl tI64) G y w n→zkS f b3=some g7→Z (ups q [(1,vl a2 p1 B),(10,vl y n w),(11,vl d6 b3 d7),(12,iv f.2)]) G) ?_ fun J5=>?_
   ·intro b3 d6 d7 q G hs q7 g c
    refine zf (zd (zb (cr (od 3 (oe ?_)))))
    exact ze (sj c).symm ⟨_,_,⟨_,eY⟩,hs,q7,(zr _),g⟩
   refine bE c fun q8 n4 g9=>zp (F:=zbM n f) (J:=fun s E' u=>∃ (b4:OA) (I:Nat),(∃ q,E'=ups q [(1,vl a2 p1 B),(10,vl y n w),(11,vl b4 s.1 I),(12,iv f.2),(13,iv s.2)])∧Step [] p u∧Gr tI64 false (p.H.size,113003) u 2 b4 I s.1∧I64 s.2∧Sl (tSl tI64) u y w n) (s0:=(f.1,0)) (x:=q8) kr n4 ⟨_,_,⟨_,eY⟩,hs,o7,(iK 0),g⟩ ?_
   rintro s _ M ⟨b4,I,⟨q,rfl⟩,hs,D,x6,g⟩ v4 c h0
   refine cs (cO 3 (bE c fun L e8 c=>?_))
   obtain ⟨q9,r0,h1,h2,h3,v5,V,h4⟩:=g.idx e8
   obtain ⟨h5,h6,rfl,A9⟩:=h4
   replace V:PubAt M q9 (r0+f.2.toNat*1) [vl h5 L h6]:=V
   refine oi 53 33 32 1 n.length w .i64 f.2 h1 h2 h3 (o1 54 32 (vl h5 L h6) (V.at.one (o:=0) rfl) (dT 2 ?_))
   refine cc _ c ?_ ?_
   ·intro U c
    refine ckt (cs (cb 5 (cr (od 3 (bE c fun r1 b5 c=>?_)))))
    have h7:L=r1:=sj (e8.symm.trans b5);subst h7
    have v6:=b5
    obtain ⟨r2,r3,h8,h9,i0,v7,X,i1⟩:=g.idx b5
    obtain ⟨i2,d8,rfl,r4⟩:=i1
    replace X:PubAt M r2 (r3+f.2.toNat*1) [vl i2 L d8]:=X
    refine oi 62 33 32 1 n.length w .i64 f.2 h8 h9 i0 (o1 63 32 (vl i2 L d8) (X.at.one (o:=0) rfl) (od 1 (bE c fun Y n5 c=>?_)))
    obtain ⟨r5,r6,i3,i4,i5,v8,a0,i6⟩:=r4.idx n5
    obtain ⟨rfl,x7⟩:=i6
    replace a0:PubAt M r5 (r6+s.2.toNat*1) [iv Y]:=a0
    refine oi 65 32 2 1 L.length d8 .i64 s.2 i3 i4 i5 (o1 66 2 (iv Y) (a0.at.one (o:=0) rfl) (od 1 (bE c fun r7 n6 c=>?_)))
    obtain ⟨i7,c5,c6,c7,v9,c9,i8⟩:=D.idx n6
    obtain ⟨rfl,x8⟩:=i8
    replace c9:At M i7 (0+Y.toNat*1) [iv r7]:=c9
    refine oi 68 32 2 1 s.1.length I .i64 Y (off:=0) c5 c6 c7 (bE c fun r8 e9 c=>zau (T:=2) (t:=tI64) (τ:=(p.H.size,113003)) (e:=2) (ix:=Y) (x':=f.2) (b:=i7) (δ:=0) (cp:=I) (l:=s.1) (vs:=[iv f.2]) (iv f.2) kr kr c5 D c6 c7 kr kr kr kr (fun cs hx=>by obtain ⟨x,_,ho⟩:=hx;rw [zM ((tI64.len ho).trans kr)];exact ⟨rfl,q6⟩) fun x9 i9 n7=>?_)
    replace hs:=hs.trG (D.own (fz _)) i9
    replace g:=g.step i9
    replace D:=n7
    replace D:=zcF e9 D
    have d9:=zL e9
    refine zam (eA 13 (v:=iv s.2) (eA 12 (v:=iv f.2) (za (t:=11) (v:=vl b4 r8 I) (eA 10 (v:=vl y n w) (eA 1 (v:=vl a2 p1 B) rfl)) (by unfold vl;rw [d9];kernel_rfl)))) (oe (zd (zb (cr (od 3 (oe ?_))))))
    exact ze (sj c).symm ⟨_,_,⟨_,eY⟩,hs,D,(zr _),g⟩
   intro U c
   refine cx 4 (zh ?_)
   have hx:=h0 _ (sj c).symm
   subst hx
   replace c:=g9
   refine zi ?_
   exact zq eY (J5 s.1 _ _ _ _ hs D g c)
  intro U c
  refine cx 2 (zh ?_)
  have hx:=g8 _ (sj c).symm
  subst hx
  replace c:=g4
  refine zi ?_
  exact zq eY (J2 f.1 _ _ _ _ hs o7 g c)
 refine bE c fun r9 n8 j1=>zp (F:=zc3 p1 p2) (J:=fun j E' u=>∃ (f0:OA) (f1:Nat),(∃ q,E'=ups q [(0,iv p0),(1,vl a2 p1 B),(2,iv p2),(8,vl f0 j.1 f1),(9,iv j.2)])∧Step [] p u∧Gr zT true (p.H.size,113001) u 210 f0 f1 j.1∧I64 j.2) (s0:=([],0)) (x:=r9) kr n8 ⟨_,_,⟨_,eY⟩,hs,t6,(iK 0)⟩ ?_
 rintro j _ f2 ⟨f0,f1,⟨q,rfl⟩,hs,a4,B0⟩ j2 c j3
 refine cs (cT 4 ?_)
 refine cc _ c ?_ ?_
 ·intro U c
  refine ckt ?_
  refine zn (fun Z=>∀ (b6:LB) (e0:OA) (e1:Nat) (q:Env) (N:K),Step [] p N→Gr zT true (p.H.size,113001) N 210 e0 e1 b6→ze9 j b6=some j2→cwp Tryz.prog 113 (sub (zB Tryz.f113) [1,1,0,0,1,0,1,1]) Z (ups q [(0,iv p0),(1,vl a2 p1 B),(2,iv p2),(8,vl e0 b6 e1),(9,iv j.2)]) N) ?_ fun J6=>?_
  ·intro b6 e0 e1 q N hs s1 c
   refine cr (od 3 (oe ?_))
   exact ze (sj c).symm ⟨_,_,⟨_,eY⟩,hs,s1,(zr _)⟩
  refine cs (cb 1 (cO 2 (bE c fun i f3 c=>?_)))
  obtain ⟨s2,s3,j4,j5,j6,w2,a1,j7⟩:=(f4.step hs).idx f3
  obtain ⟨_,_,rfl,⟨rfl,y0⟩,⟨_,_,rfl,⟨rfl,y1⟩,⟨rfl,y2⟩⟩⟩:=j7
  replace a1:PubAt f2 s2 (s3+j.2.toNat*3) [iv i.1,iv i.2.1,iv i.2.2]:=a1
  refine oi 27 183 210 3 p1.length B .i64 j.2 j4 j5 j6 (od 1 (o1 29 2 (iv i.2.2) (a1.at.one (o:=2) rfl) (dT 2 ?_)))
  refine cc _ c ?_ ?_
  ·intro U c
   refine cr (od 3 (bE c fun s4 b7 c=>?_))
   have j8:i=s4:=sj (f3.symm.trans b7);subst j8
   have w3:=b7
   obtain ⟨s5,s6,j9,k0,k3,w4,a3,k4⟩:=(f4.step hs).idx b7
   obtain ⟨_,_,rfl,⟨rfl,n9⟩,⟨_,_,rfl,⟨rfl,o0⟩,⟨rfl,o2⟩⟩⟩:=k4
   replace a3:PubAt f2 s5 (s6+j.2.toNat*3) [iv i.1,iv i.2.1,iv i.2.2]:=a3
   refine oi 35 183 210 3 p1.length B .i64 j.2 j9 k0 k3 (oN 36 210 [iv i.1,iv i.2.1,iv i.2.2] (a3.at.part 0 3).2 (zJ (d:=37) (T:=183) (e:=210) (t:=zT) (pub:=true) (τ:=(p.H.size,113002)) (len:=1) (l:=[i]) (parts:=#[(0,.agg #[iv i.1,iv i.2.1,iv i.2.2])]) (cs:=[iv i.1,iv i.2.1,iv i.2.2]) kr kr kr kr hs.1 rfl ⟨_,_,rfl,⟨_,_,rfl,⟨rfl,n9⟩,⟨_,_,rfl,⟨rfl,o0⟩,⟨rfl,o2⟩⟩⟩,rfl⟩ kr fun s7 y3 k5 s8=>?_))
   replace hs:=hs.tr0 k5
   replace a4:=a4.step0 k5
   refine bE c fun s9 o3 c=>zH (d:=38) (T:=183) (e:=210) (t:=zT) (pub:=true) (τ:=(p.H.size,113001)) (bytes:=24) (a:=f0) (cp:=f1) (l:=j.1) (a2:=s7) (c2:=1) (l2:=[i]) kr kr a4 s8.sl hs.1 kr o3 fun B1 B2 y4 t0 t1 hw=>?_
   clear hw
   replace hs:=hs.trG (a4.own (fz _)) t0
   refine od 1 (oe (zd (zb ?_)))
   exact zk eY (J6 s9 _ _ _ _ hs t1 c)
  intro U c
  refine ck (zd (zb ?_))
  exact zk eY (J6 j.1 _ _ _ _ hs a4 c)
 intro U c
 refine cx 0 (zh ?_)
 have hx:=j3 _ (sj c).symm
 subst hx
 replace c:=j1
 refine zi ?_
 exact zq eY (J1 j.1 _ _ _ _ hs a4 c)
theorem zqW {q:K} {p0:Int} {p1:LB} {a2:OA} {w:Nat} (l1:I64 p0) (f4:Sl zT q a2 w p1) {r:(Int×LB×LM×LI)} (j:zkT p0 p1=some r) :
 Fn Tryz.prog 154 #[iv p0,vl a2 p1 w] q (fun v A=>Step [] q A∧∃ (b5:Nat) (N6:Nat) (a8:OA) (c9:Nat) (h5:OA) (h6:Nat) (h7:OA) (h8:Nat),v=pt b5 0∧q.H.size≤N6∧Box (N6,154001) A b5 [iv r.1,vl a8 r.2.1 c9,vl h5 r.2.2.1 h6,vl h7 r.2.2.2 h8] 243∧I64 r.1∧Sl zT A a8 c9 r.2.1∧Gr (tSl tI64) true (N6,154002) A 32 h5 h6 r.2.2.1∧Gr tI64 false (N6,154003) A 2 h7 h8 r.2.2.2):=by
 refine fnc 77 [] Tryz.func154 Tryz.ntmps154 fun hs=>cO 1 (otx (od 3 (xO 10 243 (q.H.size,154001) hs.1 [iv p0,vl a2 p1 w,sl none 0 0,sl none 0 0] fun k n6 l6 c=>?_)))
 replace hs:=hs.tr0 l6
 refine od 1 (otx (od 2 (bE j fun B j4 j=>?_)))
 obtain ⟨j5,j6,M⟩:=zyQ j4
 refine zdl (d:=13) (T:=33) (e:=32) (t:=tH) (pub:=false) (τ:=(q.H.size,154002)) (bytes:=24) (k1:=.i64) (k2:=.i64) (m:=p0) (zs:=[sl none 0 0]) (z:=(none,0,0)) kr kr kr kr rfl j5 hs.1 fun b9 n7 h9 s=>?_
 rw [M]
 replace s:=Mat.made (t:=tI64) (pub:=false) (ei:=2) s
 rw [←j6,M] at s
 obtain ⟨q3,j7⟩:∃ H:List Hd,H=List.replicate p0.toNat (none,0,0):=⟨_,rfl⟩
 rw [←j7] at s
 replace hs:=hs.tr0 h9
 replace c:=c.step0 h9
 refine od 2 (zm (b:=k) (off:=2) (T:=33) (vl b9 B B.length) [vl b9 B B.length] [iv p0,vl a2 p1 w,vl b9 B B.length,sl none 0 0] kr kr c rfl kr kr kr rfl fun n8 i0 _ G=>?_)
 replace hs:=hs.trB c.ge i0
 replace s:=s.step i0 (s.nb c (zl kr))
 replace c:=G
 refine otx (od 3 (bE j fun n j8 j=>zdl (d:=19) (T:=32) (e:=2) (t:=tI64) (pub:=false) (τ:=(q.H.size,154003)) (bytes:=8) (k1:=.i64) (k2:=.i64) (m:=(p1.length:Int)) (zs:=[iv 0]) (z:=0) kr kr kr kr ⟨rfl,(iK 0)⟩ j8 hs.1 fun C n9 d0 h=>?_))
 replace hs:=hs.tr0 d0
 replace s:=s.step0 d0
 replace c:=c.step0 d0
 refine od 2 (zm (b:=k) (off:=3) (T:=32) (vl C n n.length) [vl C n n.length] [iv p0,vl a2 p1 w,vl b9 B B.length,vl C n n.length] kr kr c rfl kr kr kr rfl fun o0 d2 _ G=>?_)
 replace hs:=hs.trB c.ge d2
 replace s:=s.step d2 (s.nb c (zl kr))
 replace h:=h.step d2 (h.nb c (zl kr))
 replace c:=G
 refine ot (cs (cT 1 (cb 0 ?_)))
 refine zj 0 (fun Z=>∀ (c0:LM) (d3:OA) (d4:Nat) (d5:List Hd) (E0:Env) (D:K),Step [] q D→Mat tI64 false (q.H.size,154002) D 32 2 d3 d4 d5 d5 c0→Gr tI64 false (q.H.size,154003) D 2 C n.length n→Box (q.H.size,154001) D k [iv p0,vl a2 p1 w,vl d3 c0 d4,vl C n n.length] 243→zmS p0 p1 n c0=some r→Z (ups E0 [(5,pt k 0)]) D) ?_ fun J1=>?_
 ·intro c0 d3 d4 d5 E0 D hs N h c j
  refine zf (zb (cT 2 (zmx N fun o3 d7 j9=>?_)))
  replace hs:=hs.trG (N.own (fz _)) d7
  replace h:=h.step d7 (h.ngm N (zl kr))
  replace c:=c.step d7 (N.bn c (zl kr))
  replace N:=j9
  refine crt ?_
  obtain rfl:=sj j
  exact rT 4 (pt k 0) ⟨hs,_,_,_,_,_,_,_,_,rfl,(fz _),c,l1,(f4.step hs),N,h⟩
 refine bE j fun l7 k0 e8=>zp (F:=zcC p1) (J:=fun f E' A=>∃ (y:OA) (p:Nat) (O:List Hd),(∃ E0,E'=ups E0 [(1,vl a2 p1 w),(5,pt k 0),(6,iv f.1)])∧Step [] q A∧I64 f.1∧Mat tI64 false (q.H.size,154002) A 32 2 y p O O f.2∧Gr tI64 false (q.H.size,154003) A 2 C n.length n∧Box (q.H.size,154001) A k [iv p0,vl a2 p1 w,vl y f.2 p,vl C n n.length] 243) (s0:=(0,B)) (x:=l7) kr k0 ⟨_,_,_,⟨_,eY⟩,hs,(iK 0),s,h,c⟩ ?_
 rintro f _ d8 ⟨y,p,O,⟨E0,rfl⟩,hs,d9,i,h,c⟩ m6 j e9
 refine cs (cT 4 ?_)
 refine cc _ j ?_ ?_
 ·intro hc j
  refine ckt (cs (cb 1 (cs (cx_ 23 [0,1,2,3,4,5,6,7,8,9,10,11,12,13,14,15,16,17,18,19,20,21,22] [21,22] 22 (mblk y p O) (xp 28 (pt k 0) (xp 29 (pt k 0) (xp 30 (pt k 2) (x1f 31 33 (vl y f.2 p) c.at (i.bn c (zl kr)) 2 rfl (xp 32 (vl a2 p1 w) (xp 33 (iv f.1) (bE j fun g Q j=>?_)))))))))))
  obtain ⟨i1,i2,f0,f1,f2,m7,R,f3⟩:=(f4.step hs).idx Q
  obtain ⟨_,_,rfl,⟨rfl,o6⟩,⟨_,_,rfl,⟨rfl,o7⟩,⟨rfl,o8⟩⟩⟩:=f3
  replace R:PubAt d8 i1 (i2+f.1.toNat*3) [iv g.1,iv g.2.1,iv g.2.2]:=R
  refine xi 34 183 210 3 p1.length w .i64 f.1 f0 f1 f2 (xp 35 (pt i1 (i2+f.1.toNat*3)) (x1p 36 2 (iv g.1) R 0 rfl (xp 37 (pt k 0) (xp 38 (pt k 0) (xp 39 (pt k 2) (x1 40 33 (vl y f.2 p) c.at 2 rfl (xp 41 (vl a2 p1 w) (xp 42 (iv f.1) (bE j fun l8 b0 j=>?_)))))))))
  have f5:g=l8:=sj (Q.symm.trans b0);subst f5
  have m8:=b0
  obtain ⟨i3,i4,f6,f7,f8,m9,S,f9⟩:=(f4.step hs).idx b0
  obtain ⟨_,_,rfl,⟨rfl,o9⟩,⟨_,_,rfl,⟨rfl,p2⟩,⟨rfl,p3⟩⟩⟩:=f9
  replace S:PubAt d8 i3 (i4+f.1.toNat*3) [iv g.1,iv g.2.1,iv g.2.2]:=S
  refine xi 43 183 210 3 p1.length w .i64 f.1 f6 f7 f8 (xp 44 (pt i3 (i4+f.1.toNat*3)) (x1 45 2 (iv g.1) S.at 0 rfl (bE j fun i5 k3 j=>?_)))
  obtain ⟨l9,i6,i7,U,V,X,c1,g0,P⟩:=i.idx k3
  refine xi 46 33 32 1 f.2.length p .i64 g.1 (off:=0) U V X (x1 47 32 (vl i6 i5 i7) g0 0 rfl (xp 48 (iv f.1) (zhp (d:=49) (T:=32) (e:=2) (t:=tI64) (pub:=true) (τ:=(q.H.size,154004)) (len:=1) (l:=[f.1]) (parts:=#[(0,iv f.1)]) (cs:=[iv f.1]) kr kr kr kr hs.1 rfl ⟨_,_,rfl,⟨rfl,d9⟩,rfl⟩ kr fun m0 p4 a6 m1=>?_)))
  replace hs:=hs.tr0 a6
  replace h:=h.step0 a6
  replace i:=i.step0 a6
  replace P:=P.step0 a6
  replace c:=c.step0 a6
  refine bE j fun e0 k4 j=>zp2 (d:=50) (T:=32) (e:=2) (t:=tI64) (pub:=false) (τ:=(q.H.size,154002)) (bytes:=8) (a:=i6) (cp:=i7) (l:=i5) (a2:=m0) (c2:=1) (l2:=[f.1]) kr kr P m1.sl hs.1 kr k4 kr (zgc c1) fun e1 e2 p5 c4 m2 hw=>?_
  have u:=i.row c1 c4 m2 hw
  clear hw
  replace hs:=hs.trG (P.own (fz _)) c4
  replace h:=h.step c4 (h.ng P (zl kr))
  replace c:=c.step c4 (P.bn c (zl kr))
  replace i:=u
  refine xe (oi 51 33 32 1 f.2.length p .i64 g.1 (off:=0) U V X (bE j fun a7 e3 j=>zq5 (T:=32) (b:=l9) (ix:=g.1) (hd:=(e1,e0.length,e2)) kr kr U i V (by rw [i.len0,dz];exact X) kr fun b1 a9 u=>?_))
  replace a9:=a9.mono (zf2 (hs:=(O.set g.1.toNat (e1,e0.length,e2))))
  replace hs:=hs.trG (i.own (fz _)) a9
  replace h:=h.step a9 (h.ngm i (zl kr))
  replace c:=c.step a9 (i.bn c (zl kr))
  obtain ⟨e4,k5⟩:∃ H:List Hd,H=(O.set g.1.toNat (e1,e0.length,e2)):=⟨_,rfl⟩
  rw [←k5] at u
  replace i:=zmd e3 u
  have c7:=zL e3
  replace c:Box (q.H.size,154001) b1 k [iv p0,vl a2 p1 w,vl y a7 p,vl C n n.length] 243:=by unfold vl;rw [c7];exact c
  refine ot (cx_ 23 [0,1,2,3,4,5,6,7,8,9,10,11,12,13,14,15,16,17,18,19,20,21,22] [21,22] 22 (mblk y p e4) (xp 52 (pt k 0) (xp 53 (pt k 0) (xp 54 (pt k 2) (x1f 55 33 (vl y a7 p) c.at (i.bn c (zl kr)) 2 rfl (xp 56 (vl a2 p1 w) (xp 57 (iv f.1) (bE j fun m3 b2 j=>?_))))))))
  have g1:g=m3:=sj (Q.symm.trans b2);subst g1
  have n0:=b2
  obtain ⟨i8,i9,g2,g3,g4,n1,Y,g5⟩:=(f4.step hs).idx b2
  obtain ⟨_,_,rfl,⟨rfl,p6⟩,⟨_,_,rfl,⟨rfl,p7⟩,⟨rfl,p8⟩⟩⟩:=g5
  replace Y:PubAt b1 i8 (i9+f.1.toNat*3) [iv g.1,iv g.2.1,iv g.2.2]:=Y
  refine xi 58 183 210 3 p1.length w .i64 f.1 g2 g3 g4 (xp 59 (pt i8 (i9+f.1.toNat*3+1)) (x1p 60 2 (iv g.2.1) Y 1 rfl (xp 61 (pt k 0) (xp 62 (pt k 0) (xp 63 (pt k 2) (x1 64 33 (vl y a7 p) c.at 2 rfl (xp 65 (vl a2 p1 w) (xp 66 (iv f.1) (bE j fun m4 b3 j=>?_)))))))))
  have g6:g=m4:=sj (Q.symm.trans b3);subst g6
  have n2:=b3
  obtain ⟨j1,j2,g7,g8,g9,n3,a0,h0⟩:=(f4.step hs).idx b3
  obtain ⟨_,_,rfl,⟨rfl,p9⟩,⟨_,_,rfl,⟨rfl,q0⟩,⟨rfl,q1⟩⟩⟩:=h0
  replace a0:PubAt b1 j1 (j2+f.1.toNat*3) [iv g.1,iv g.2.1,iv g.2.2]:=a0
  refine xi 67 183 210 3 p1.length w .i64 f.1 g7 g8 g9 (xp 68 (pt j1 (j2+f.1.toNat*3+1)) (x1 69 2 (iv g.2.1) a0.at 1 rfl (bE j fun j3 k6 j=>?_)))
  obtain ⟨m5,e5,e6,a1,a3,a4,c5,h1,E⟩:=i.idx k6
  refine xi 70 33 32 1 a7.length p .i64 g.2.1 (off:=0) a1 a3 a4 (x1 71 32 (vl e5 j3 e6) h1 0 rfl (xp 72 (iv f.1) (zhp (d:=73) (T:=32) (e:=2) (t:=tI64) (pub:=true) (τ:=(q.H.size,154005)) (len:=1) (l:=[f.1]) (parts:=#[(0,iv f.1)]) (cs:=[iv f.1]) kr kr kr kr hs.1 rfl ⟨_,_,rfl,⟨rfl,d9⟩,rfl⟩ kr fun k7 n4 I k8=>?_)))
  replace hs:=hs.tr0 I
  replace h:=h.step0 I
  replace i:=i.step0 I
  replace E:=E.step0 I
  replace c:=c.step0 I
  refine bE j fun b4 h2 j=>zp2 (d:=74) (T:=32) (e:=2) (t:=tI64) (pub:=false) (τ:=(q.H.size,154002)) (bytes:=8) (a:=e5) (cp:=e6) (l:=j3) (a2:=k7) (c2:=1) (l2:=[f.1]) kr kr E k8.sl hs.1 kr h2 kr (zgc c5) fun b6 b7 n5 a5 k9 hw=>?_
  have u:=i.row c5 a5 k9 hw
  clear hw
  replace hs:=hs.trG (E.own (fz _)) a5
  replace h:=h.step a5 (h.ng E (zl kr))
  replace c:=c.step a5 (E.bn c (zl kr))
  replace i:=u
  refine xe (oi 75 33 32 1 a7.length p .i64 g.2.1 (off:=0) a1 a3 a4 (bE j fun l0 c6 j=>zq5 (T:=32) (b:=m5) (ix:=g.2.1) (hd:=(b6,b4.length,b7)) kr kr a1 i a3 (by rw [i.len0,dz];exact a4) kr fun h3 L u=>?_))
  replace L:=L.mono (zf2 (hs:=(e4.set g.2.1.toNat (b6,b4.length,b7))))
  replace hs:=hs.trG (i.own (fz _)) L
  replace h:=h.step L (h.ngm i (zl kr))
  replace c:=c.step L (i.bn c (zl kr))
  obtain ⟨q2,h4⟩:∃ H:List Hd,H=(e4.set g.2.1.toNat (b6,b4.length,b7)):=⟨_,rfl⟩
  rw [←h4] at u
  replace i:=zmd c6 u
  have b8:=zL c6
  replace c:Box (q.H.size,154001) h3 k [iv p0,vl a2 p1 w,vl y l0 p,vl C n n.length] 243:=by unfold vl;rw [b8];exact c
  refine oe (zd (zb (cr (od 3 (oe ?_)))))
  exact ze (sj j).symm ⟨_,_,_,⟨_,eY⟩,hs,(zr _),i,h,c⟩
 intro hc j
 refine cx 0 (zh ?_)
 have hx:=e9 _ (sj j).symm
 subst hx
 replace j:=e8
 refine zi ?_
 exact zq eY (J1 f.2 _ _ _ _ _ hs i h c j)
theorem zjy {f:K} {p0:Int×LB×LM×LI} {h w X j:Nat} {x:Tag} {a2 Y m:OA} {e:Tag} {p1:Int} {n:Int} (c:Box x f h [iv p0.1,vl a2 p0.2.1 w,vl Y p0.2.2.1 X,vl m p0.2.2.2 j] 243) (c4:I64 p0.1) (f4:Sl zT f a2 w p0.2.1) (f7:Sl (tSl tI64) f Y X p0.2.2.1) (d:Gr tI64 false e f 2 m j p0.2.2.2) (u:e.1<f.H.size) (b5:I64 p1) (b6:I64 n) (k:x≠e) {r:Int×Int×(Int×LB×LM×LI)} (l:zdQ p0 p1 n=some r) :
 Fn Tryz.prog 166 #[pt h 0,iv p1,iv n] f (fun v y=>Step ([h]++blk m j) f y∧∃ (z:OA) (A:Nat),v=.tuple #[iv r.1,iv r.2.1]∧I64 r.1∧I64 r.2.1∧Box x y h [iv p0.1,vl a2 p0.2.1 w,vl Y p0.2.2.1 X,vl z r.2.2.2.2.2 A] 243∧Gr tI64 false e y 2 z A r.2.2.2.2.2∧(∀ g∈blk z A,g∈([h]++blk m j)∨f.H.size≤g)):=by
 refine fnc 44 ([h]++blk m j) Tryz.func166 Tryz.ntmps166 fun hs=>?_
 have B:=c.tlt
 have C:=k.symm
 have t:∀ g∈blk m j,g∈([h]++blk m j)∨f.H.size≤g:=fun g hg=>.inl (by simp [hg])
 refine cO 2 (otx (od 3 (o1 12 183 (vl a2 p0.2.1 w) (c.at.one (o:=1) rfl) (od 1 (bE l fun a Z l=>?_)))))
 obtain ⟨a6,a7,J,L,M,b1,p,N⟩:=f4.idx Z
 obtain ⟨_,_,rfl,⟨rfl,a0⟩,⟨_,_,rfl,⟨rfl,a1⟩,⟨rfl,b8⟩⟩⟩:=N
 replace p:PubAt f a6 (a7+n.toNat*3) [iv a.1,iv a.2.1,iv a.2.2]:=p
 refine oi 14 183 210 3 p0.2.1.length w .i64 n J L M (oN 15 210 [iv a.1,iv a.2.1,iv a.2.2] (p.at.part 0 3).2 (xT 8 210 (f.H.size,166001) hs.1 [iv 0,iv 0,iv 0] fun c5 b9 D b=>?_))
 replace hs:=hs.tr0 D
 replace d:=d.step0 D
 replace c:=c.step0 D
 refine xM 210 [iv a.1,iv a.2.1,iv a.2.2] b fun E F _ G=>?_
 replace hs:=hs.trB b.ge F
 replace d:=d.step F (d.nb b (zed (i:=166001) u))
 replace c:=c.step F (nm1 (c.ne b (zed (i:=166001) B)))
 replace b:=G
 refine ot (cs (cO 1 (o1 17 2 (iv a.1) (b.at.one (o:=0) rfl) (dT 2 ?_))))
 refine cc _ l ?_ ?_
 ·intro hc l
  refine cs (cd 13 (dd 1 (d1 21 2 (iv a.2.2) (b.at.one (o:=2) rfl) (dd 3 (d1 25 32 (vl m p0.2.2.2 j) (c.at.one (o:=3) rfl) (dd 1 (bE l fun H a3 l=>?_)))))))
  obtain ⟨a9,O,P,Q,b2,q,R⟩:=d.idx a3
  obtain ⟨rfl,c1⟩:=R
  replace q:At E a9 (0+n.toNat*1) [iv H]:=q
  refine di 27 32 2 1 p0.2.2.2.length j .i64 n (off:=0) O P Q (d1 28 2 (iv H) (q.one (o:=0) rfl) (dd 2 (d1 31 2 (iv a.2.1) (b.at.one (o:=1) rfl) (dd 1 (de (dT 1 (crt (zc ?_))))))))
  obtain rfl:=sj l
  refine rt [.tmp 6,.tmp 7] [iv (w64 (a.2.2 - H)),iv a.2.1] ⟨kr,kr,trivial⟩ ?_
  exact ⟨hs,_,_,rfl,(zr _),a1,c,d,t⟩
 intro hc l
 refine ckt (cs (cd 13 (dd 1 (d1 33 2 (iv a.2.2) (b.at.one (o:=2) rfl) (dd 3 (d1 37 32 (vl m p0.2.2.2 j) (c.at.one (o:=3) rfl) (dd 1 (bE l fun I a4 l=>?_))))))))
 obtain ⟨b0,S,T,U,b3,s,V⟩:=d.idx a4
 obtain ⟨rfl,c2⟩:=V
 replace s:At E b0 (0+n.toNat*1) [iv I]:=s
 refine di 39 32 2 1 p0.2.2.2.length j .i64 n (off:=0) S T U (d1 40 2 (iv I) (s.one (o:=0) rfl) (dd 2 (d1 43 2 (iv a.1) (b.at.one (o:=0) rfl) (dd 1 (de (dT 1 (crt ?_)))))))
 obtain rfl:=sj l
 refine rt [.tmp 6,.tmp 7] [iv (w64 (a.2.2+I)),iv a.1] ⟨kr,kr,trivial⟩ ?_
 exact ⟨hs,_,_,rfl,(zr _),a0,c,d,t⟩
theorem zi5 {n:K} {p0:Int×LB×LM×LI} {k S U C:Nat} {Q:Tag} {a2 a5 D:OA} {z:Tag} {p1:Int} (c:Box Q n k [iv p0.1,vl a2 p0.2.1 S,vl a5 p0.2.2.1 U,vl D p0.2.2.2 C] 243) (w4:I64 p0.1) (f4:Sl zT n a2 S p0.2.1) (f7:Sl (tSl tI64) n a5 U p0.2.2.1) (A:Gr tI64 false z n 2 D C p0.2.2.2) (q:z.1<n.H.size) (s9:I64 p1) (N:Q≠z) {r:LI×(Int×LB×LM×LI)} (j:zc4 p0 p1=some r) :
 Fn Tryz.prog 156 #[pt k 0,iv p1] n (fun v y=>Step ([k]++blk D C) n y∧∃ (r6:OA) (r7:Nat) (j2:OA) (j3:Nat),v=vl r6 r.1 r7∧Sl tI64 y r6 r7 r.1∧Box Q y k [iv p0.1,vl a2 p0.2.1 S,vl a5 p0.2.2.1 U,vl j2 r.2.2.2.2 j3] 243∧Gr tI64 false z y 2 j2 j3 r.2.2.2.2∧(∀ g∈blk j2 j3,g∈([k]++blk D C)∨n.H.size≤g)):=by
 refine fnc 112 ([k]++blk D C) Tryz.func156 Tryz.ntmps156 fun hs=>?_
 have E:=c.tlt
 have j4:=N.symm
 have j5:∀ g∈blk D C,g∈([k]++blk D C)∨n.H.size≤g:=fun g hg=>.inl (by simp [hg])
 refine cO 1 (otx (zJ (d:=15) (T:=32) (e:=2) (t:=tI64) (pub:=false) (τ:=(n.H.size,156001)) (len:=0) (l:=[]) (parts:=#[]) (cs:=[]) kr kr kr kr hs.1 rfl rfl kr fun C6 A8 j7 w5=>?_))
 replace hs:=hs.tr0 j7
 replace A:=A.step0 j7
 replace c:=c.step0 j7
 refine dT 1 (cs (cT 1 (cb 0 ?_)))
 refine zj 0 (fun Z=>∀ (b9:LI) (g6:OA) (c0:Nat) (G:Env) (R:K),Step ([k]++blk D C) n R→Gr tI64 false (n.H.size,156001) R 2 g6 c0 b9→Gr tI64 false z R 2 D C p0.2.2.2→Box Q R k [iv p0.1,vl a2 p0.2.1 S,vl a5 p0.2.2.1 U,vl D p0.2.2.2 C] 243→zfs p0 p1 b9=some r→Z (ups G [(0,pt k 0),(1,iv p1),(5,vl g6 b9 c0)]) R) ?_ fun J1=>?_
 ·intro b9 g6 c0 G R hs O A c j
  refine zf (zb (cO 2 (bE j fun w6 t0 j=>?_)))
  obtain ⟨r8,g7,g8,g9,y4,h0,p5⟩:=O.idx t0
  obtain ⟨rfl,B0⟩:=p5
  replace h0:At R r8 (0+p1.toNat*1) [iv w6]:=h0
  refine oi 29 32 2 1 b9.length c0 .i64 p1 (off:=0) g7 g8 g9 (bE j fun r9 j8 j=>zau (T:=2) (t:=tI64) (τ:=(n.H.size,156001)) (e:=2) (ix:=p1) (x':=0) (b:=r8) (δ:=0) (cp:=c0) (l:=b9) (vs:=[iv 0]) (iv 0) kr kr g7 O g8 g9 kr kr kr kr (fun cs hx=>by obtain ⟨x,_,ho⟩:=hx;rw [zM ((tI64.len ho).trans kr)];exact ⟨rfl,(iK 0)⟩) fun B1 j9 t1=>?_)
  replace hs:=hs.trG (O.own (fz _)) j9
  replace A:=A.step j9 (A.ng O (zed (i:=156001) q))
  replace c:=c.step j9 (O.bn c (zed (i:=156001) E))
  replace O:=t1
  replace O:=zcF j8 O
  have j1:=zL j8
  refine zam (za (t:=5) (v:=vl g6 r9 c0) (eA 1 (v:=iv p1) (eA 0 (v:=pt k 0) rfl)) (by unfold vl;rw [j1];kernel_rfl)) (otx (od 1 (zJ (d:=31) (T:=32) (e:=2) (t:=tI64) (pub:=true) (τ:=(n.H.size,156003)) (len:=1) (l:=[p1]) (parts:=#[(0,iv p1)]) (cs:=[iv p1]) kr kr kr kr hs.1 rfl ⟨_,_,rfl,⟨rfl,s9⟩,rfl⟩ kr fun C7 B2 h1 w7=>?_)))
  replace hs:=hs.tr0 h1
  replace A:=A.step0 h1
  replace O:=O.step0 h1
  replace c:=c.step0 h1
  refine dT 1 (cs (cT 1 (cb 2 ?_)))
  refine zj 2 (fun Z=>∀ (e2:LI) (h2:LI) (h3:OA) (h4:Nat) (h5:OA) (h6:Nat) (G:Env) (Y:K) (hs:Step ([k]++blk D C) n Y) (a6:Gr tI64 false (n.H.size,156001) Y 2 h3 h4 e2) (e3:Gr tI64 false z Y 2 h5 h6 h2) (e4:(∀ g∈blk h5 h6,g∈([k]++blk D C)∨n.H.size≤g)) (c:Box Q Y k [iv p0.1,vl a2 p0.2.1 S,vl a5 p0.2.2.1 U,vl h5 h2 h6] 243),zfr p0 e2 h2=some r→Z (ups G [(5,vl h3 e2 h4)]) Y) ?_ fun J2=>?_
  ·intro e2 h2 h3 h4 h5 h6 G Y hs a6 e3 e4 c j
   refine zf (zb (cT 2 (zdA a6 fun B4 k0 t2=>?_)))
   replace hs:=hs.trG (a6.own (fz _)) k0
   replace e3:=e3.step k0 (e3.ng a6 (zed (i:=156001) q))
   replace c:=c.step k0 (a6.bn c (zed (i:=156001) E))
   replace a6:=t2
   refine crt ?_
   obtain rfl:=sj j
   exact rT 4 (vl h3 e2 h4) ⟨hs,_,_,_,_,rfl,a6.sl,c,e3,e4⟩
  refine bE j fun w8 t3 p6=>zp (F:=zby p0) (J:=fun m E' y=>∃ (k2:OA) (k3:Nat) (k4:OA) (h7:Nat) (h8:OA) (h9:Nat),(∃ G,E'=ups G [(0,pt k 0),(5,vl k2 m.1 k3),(7,vl k4 m.2.1 h7),(8,iv m.2.2.1)])∧Step ([k]++blk D C) n y∧Gr tI64 false (n.H.size,156001) y 2 k2 k3 m.1∧Gr tI64 true (n.H.size,156003) y 2 k4 h7 m.2.1∧I64 m.2.2.1∧Gr tI64 false z y 2 h8 h9 m.2.2.2∧(∀ g∈blk h8 h9,g∈([k]++blk D C)∨n.H.size≤g)∧Box Q y k [iv p0.1,vl a2 p0.2.1 S,vl a5 p0.2.2.1 U,vl h8 m.2.2.2 h9] 243) (s0:=(r9,[p1],0,p0.2.2.2)) (x:=w8) kr t3 ⟨_,_,_,_,_,_,⟨_,eY⟩,hs,O,w7,(iK 0),A,j5,c⟩ ?_
  rintro m _ t4 ⟨k2,k3,k4,h7,h8,h9,⟨G,rfl⟩,hs,s1,s2,B5,s3,e5,c⟩ p7 j p8
  refine cs (cT 4 ?_)
  refine cc _ j ?_ ?_
  ·intro hc j
   refine ckt (cs (cb 3 (cO 2 (bE j fun p t5 j=>?_))))
   obtain ⟨w9,x0,p9,q0,q1,y5,c7,q2⟩:=s2.sl.idx t5
   obtain ⟨rfl,B6⟩:=q2
   replace c7:PubAt t4 w9 (x0+m.2.2.1.toNat*1) [iv p]:=c7
   refine oi 40 32 2 1 m.2.1.length h7 .i64 m.2.2.1 p9 q0 q1 (o1 41 2 (iv p) (c7.at.one (o:=0) rfl) (od 1 (otx (dT 1 (cb 4 ?_)))))
   refine zj 4 (fun Z=>∀ (i0:LI) (i1:LI) (i2:LI) (k5:OA) (k6:Nat) (k7:OA) (k8:Nat) (c8:OA) (d0:Nat) (G:Env) (I:K) (hs:Step ([k]++blk D C) n I) (s4:Gr tI64 false (n.H.size,156001) I 2 k5 k6 i0) (s5:Gr tI64 true (n.H.size,156003) I 2 k7 k8 i1) (s6:Gr tI64 false z I 2 c8 d0 i2) (e6:(∀ g∈blk c8 d0,g∈([k]++blk D C)∨n.H.size≤g)) (c:Box Q I k [iv p0.1,vl a2 p0.2.1 S,vl a5 p0.2.2.1 U,vl c8 i2 d0] 243),zi6 m i0 i1 i2=some p7→Z (ups G [(0,pt k 0),(5,vl k5 i0 k6),(7,vl k7 i1 k8),(8,iv m.2.2.1)]) I) ?_ fun J3=>?_
   ·intro i0 i1 i2 k5 k6 k7 k8 c8 d0 G I hs s4 s5 s6 e6 c j
    refine zf (zd (zb (cr (od 3 (oe ?_)))))
    exact ze (sj j).symm ⟨_,_,_,_,_,_,⟨_,eY⟩,hs,s4,s5,(zr _),s6,e6,c⟩
   refine bE j fun t6 q3 k9=>zp (F:=zbx p0 p) (J:=fun f E' y=>∃ (e7:OA) (V:Nat) (c1:OA) (c4:Nat) (i3:OA) (i4:Nat),(∃ G,E'=ups G [(0,pt k 0),(5,vl e7 f.1 V),(7,vl c1 f.2.1 c4),(8,iv m.2.2.1),(9,iv p),(10,iv f.2.2.1)])∧Step ([k]++blk D C) n y∧Gr tI64 false (n.H.size,156001) y 2 e7 V f.1∧Gr tI64 true (n.H.size,156003) y 2 c1 c4 f.2.1∧I64 f.2.2.1∧Gr tI64 false z y 2 i3 i4 f.2.2.2∧(∀ g∈blk i3 i4,g∈([k]++blk D C)∨n.H.size≤g)∧Box Q y k [iv p0.1,vl a2 p0.2.1 S,vl a5 p0.2.2.1 U,vl i3 f.2.2.2 i4] 243) (s0:=(m.1,m.2.1,0,m.2.2.2)) (x:=t6) kr q3 ⟨_,_,_,_,_,_,⟨_,eY⟩,hs,s1,s2,(iK 0),s3,e5,c⟩ ?_
   rintro f _ X ⟨e7,V,c1,c4,i3,i4,⟨G,rfl⟩,hs,s,B,B8,i5,a7,c⟩ e8 j l0
   refine cs (cO 4 (o1 46 33 (vl a5 p0.2.2.1 U) (c.at.one (o:=2) rfl) (od 1 (bE j fun a0 i6 j=>?_))))
   obtain ⟨t7,t8,l1,l3,l4,x2,a9,l5⟩:=(f7.step hs).idx i6
   obtain ⟨l6,l7,rfl,B9⟩:=l5
   replace a9:PubAt X t7 (t8+p.toNat*1) [vl l6 a0 l7]:=a9
   refine oi 48 33 32 1 p0.2.2.1.length U .i64 p l1 l3 l4 (o1 49 32 (vl l6 a0 l7) (a9.at.one (o:=0) rfl) (dT 2 ?_))
   refine cc _ j ?_ ?_
   ·intro hc j
    refine ckt ?_
    refine zn (fun Z=>∀ (d2:LI) (d3:LI) (d4:LI) (f5:OA) (f6:Nat) (f8:OA) (f9:Nat) (d5:OA) (d6:Nat) (G:Env) (L:K) (hs:Step ([k]++blk D C) n L) (l8:Gr tI64 false (n.H.size,156001) L 2 f5 f6 d2) (l9:Gr tI64 true (n.H.size,156003) L 2 f8 f9 d3) (m0:Gr tI64 false z L 2 d5 d6 d4) (c5:(∀ g∈blk d5 d6,g∈([k]++blk D C)∨n.H.size≤g)) (c:Box Q L k [iv p0.1,vl a2 p0.2.1 S,vl a5 p0.2.2.1 U,vl d5 d4 d6] 243),zbA f d2 d3 d4=some e8→cwp Tryz.prog 112 (sub (zB Tryz.f156) [1,1,0,0,1,1,0,0,1,0,0,1,0,1,1,1,1,1]) Z (ups G [(0,pt k 0),(5,vl f5 d2 f6),(7,vl f8 d3 f9),(8,iv m.2.2.1),(9,iv p),(10,iv f.2.2.1)]) L) ?_ fun J4=>?_
    ·intro d2 d3 d4 f5 f6 f8 f9 d5 d6 G L hs l8 l9 m0 c5 c j
     refine cr (od 3 (oe ?_))
     exact ze (sj j).symm ⟨_,_,_,_,_,_,⟨_,eY⟩,hs,l8,l9,(zr _),m0,c5,c⟩
    refine cs (cb 5 (cO 3 (o1 57 33 (vl a5 p0.2.2.1 U) (c.at.one (o:=2) rfl) (od 1 (bE j fun t9 d7 j=>?_)))))
    have m1:a0=t9:=sj (i6.symm.trans d7);subst m1
    have x4:=d7
    obtain ⟨u0,u1,m2,m3,m4,x5,b0,m5⟩:=(f7.step hs).idx d7
    obtain ⟨m6,g0,rfl,u2⟩:=m5
    replace b0:PubAt X u0 (u1+p.toNat*1) [vl m6 a0 g0]:=b0
    refine oi 59 33 32 1 p0.2.2.1.length U .i64 p m2 m3 m4 (o1 60 32 (vl m6 a0 g0) (b0.at.one (o:=0) rfl) (od 1 (bE j fun a1 q4 j=>?_)))
    obtain ⟨u3,u4,m7,m8,m9,x6,b1,n0⟩:=u2.idx q4
    obtain ⟨rfl,q5⟩:=n0
    replace b1:PubAt X u3 (u4+f.2.2.1.toNat*1) [iv a1]:=b1
    refine oi 62 32 2 1 a0.length g0 .i64 f.2.2.1 m7 m8 m9 (o1 63 2 (iv a1) (b1.at.one (o:=0) rfl) (dT 1 (cs (cd 18 (dd 3 (d1 67 183 (vl a2 p0.2.1 S) (c.at.one (o:=1) rfl) (dd 1 (bE j fun u q6 j=>?_))))))))
    obtain ⟨u5,u6,n1,n2,n3,x7,b2,n4⟩:=(f4.step hs).idx q6
    obtain ⟨_,_,rfl,⟨rfl,y6⟩,⟨_,_,rfl,⟨rfl,y7⟩,⟨rfl,y8⟩⟩⟩:=n4
    replace b2:PubAt X u5 (u6+a1.toNat*3) [iv u.1,iv u.2.1,iv u.2.2]:=b2
    refine di 69 183 210 3 p0.2.1.length S .i64 a1 n1 n2 n3 (dd 1 (d1 71 2 (iv u.1) (b2.at.one (o:=0) rfl) (dd 3 (d1 75 183 (vl a2 p0.2.1 S) (c.at.one (o:=1) rfl) (dd 1 (bE j fun w q7 j=>?_))))))
    obtain ⟨u7,u8,n5,n6,n7,x8,b3,n8⟩:=(f4.step hs).idx q7
    obtain ⟨_,_,rfl,⟨rfl,y9⟩,⟨_,_,rfl,⟨rfl,z0⟩,⟨rfl,z3⟩⟩⟩:=n8
    replace b3:PubAt X u7 (u8+a1.toNat*3) [iv w.1,iv w.2.1,iv w.2.2]:=b3
    refine di 77 183 210 3 p0.2.1.length S .i64 a1 n5 n6 n7 (dd 1 (d1 79 2 (iv w.2.1) (b3.at.one (o:=1) rfl) (dd 2 (de (od 2 (otx (od 3 (bE j fun d8 q8 j=>ocl 87 (zjy (p0:=(p0.1,(p0.2.1,(p0.2.2.1,f.2.2.2)))) c w4 (f4.step hs) (f7.step hs) i5 (gd q hs.1) (zr _) q5 (N) q8) ?_))))))))
    rintro _ a4 ⟨g1,u9,v0,rfl,z4,z5,q9,H,P⟩
    replace P:∀ g∈blk u9 v0,g∈([k]++blk D C)∨n.H.size≤g:=fun g hg=>(P g hg).elim ((zoV (zrJ (by simp)) a7) g) (fun h=>.inr (ga hs.1 h))
    replace hs:=hs.trM (zoV (zrJ (by simp)) a7) g1
    replace s:=s.step g1 (zxe (s.nb c (zjh (i:=156001) E)) (s.ng i5 (zjh (i:=156001) q)))
    replace B:=B.step g1 (zxe (B.nb c (zjh (i:=156003) E)) (B.ng i5 (zjh (i:=156003) q)))
    replace c:=q9
    refine dT 5 ?_
    refine zn (fun Z=>∀ (g2:Bool) (G:Env),zaF p f u w d8 g2=some e8→cwp Tryz.prog 112 (sub (zB Tryz.f156) [1,1,1,1,0,0,1,0,0,1,1,0,0,1,0,0,1,0,1,1,1,1,1]) Z (ups G [(0,pt k 0),(5,vl e7 f.1 V),(7,vl c1 f.2.1 c4),(8,iv m.2.2.1),(9,iv p),(10,iv f.2.2.1),(12,iv (w64 ((w64 (u.1+w.2.1)) - p))),(98,.bool g2)]) a4) ?_ fun J5=>?_
    ·intro g2 G j
     refine cc _ j ?_ ?_
     ·intro hc j
      refine cO 4 (bE j fun b4 r0 j=>?_)
      obtain ⟨v1,n9,o0,o2,y0,b5,o3⟩:=s.idx r0
      obtain ⟨rfl,z9⟩:=o3
      replace b5:At a4 v1 (0+p.toNat*1) [iv b4]:=b5
      refine oi 103 32 2 1 f.1.length V .i64 p (off:=0) n9 o0 o2 (o1 104 2 (iv b4) (b5.one (o:=0) rfl) (od 1 (bE j fun v2 r1 j=>?_)))
      obtain ⟨o4,e9,f0,f1,y1,f2,o5⟩:=s.idx r1
      obtain ⟨rfl,A0⟩:=o5
      replace f2:At a4 o4 (0+(w64 ((w64 (u.1+w.2.1)) - p)).toNat*1) [iv v2]:=f2
      refine oi 106 32 2 1 f.1.length V .i64 (w64 ((w64 (u.1+w.2.1)) - p)) (off:=0) e9 f0 f1 (bE j fun o6 i7 j=>zau (T:=2) (t:=tI64) (τ:=(n.H.size,156001)) (e:=2) (ix:=w64 ((w64 (u.1+w.2.1)) - p)) (x':=w64 (b4+1)) (b:=o4) (δ:=0) (cp:=V) (l:=f.1) (vs:=[iv (w64 (b4+1))]) (iv (w64 (b4+1))) kr kr e9 s f0 f1 kr kr kr kr (fun cs hx=>by obtain ⟨x,_,ho⟩:=hx;rw [zM ((tI64.len ho).trans kr)];exact ⟨rfl,(zr _)⟩) fun A1 d9 v3=>?_)
      replace hs:=hs.trG (s.own (fz _)) d9
      replace B:=B.step d9 (B.ng s (zl kr))
      replace H:=H.step d9 (H.ng s (zed (i:=156001) q))
      replace c:=c.step d9 (s.bn c (zed (i:=156001) E))
      replace s:=v3
      replace s:=zcF i7 s
      have g3:=zL i7
      refine zam (eA 12 (v:=iv (w64 ((w64 (u.1+w.2.1)) - p))) (eA 10 (v:=iv f.2.2.1) (eA 9 (v:=iv p) (eA 8 (v:=iv m.2.2.1) (eA 7 (v:=vl c1 f.2.1 c4) (za (t:=5) (v:=vl e7 o6 V) (eA 0 (v:=pt k 0) rfl) (by unfold vl;rw [g3];kernel_rfl))))))) (otr (od 2 (zJ (d:=109) (T:=32) (e:=2) (t:=tI64) (pub:=true) (τ:=(n.H.size,156004)) (len:=1) (l:=[w64 ((w64 (u.1+w.2.1)) - p)]) (parts:=#[(0,iv (w64 ((w64 (u.1+w.2.1)) - p)))]) (cs:=[iv (w64 ((w64 (u.1+w.2.1)) - p))]) kr kr kr kr hs.1 rfl ⟨_,_,rfl,⟨rfl,(zr _)⟩,rfl⟩ kr fun v4 A2 b6 v5=>?_)))
      replace hs:=hs.tr0 b6
      replace s:=s.step0 b6
      replace B:=B.step0 b6
      replace H:=H.step0 b6
      replace c:=c.step0 b6
      refine bE j fun v6 r2 j=>zH (d:=110) (T:=32) (e:=2) (t:=tI64) (pub:=true) (τ:=(n.H.size,156003)) (bytes:=8) (a:=c1) (cp:=c4) (l:=f.2.1) (a2:=v4) (c2:=1) (l2:=[w64 ((w64 (u.1+w.2.1)) - p)]) kr kr B v5.sl hs.1 kr r2 fun C0 C1 A3 e0 v7 hw=>?_
      clear hw
      replace hs:=hs.trG (B.own (fz _)) e0
      replace s:=s.step e0 (s.ng B (zl kr))
      replace H:=H.step e0 (H.ng B (zed (i:=156003) q))
      replace c:=c.step e0 (B.bn c (zed (i:=156003) E))
      refine od 1 (oe (zd (zb ?_)))
      exact zk eY (J4 o6 v6 d8.2.2.2.2.2 _ _ _ _ _ _ _ _ hs s v7 H P c j)
     intro hc j
     refine ck (zd (zb ?_))
     exact zk eY (J4 f.1 f.2.1 d8.2.2.2.2.2 _ _ _ _ _ _ _ _ hs s B H P c j)
    refine cO 2 (bE j fun g4 r3 j=>?_)
    obtain ⟨v8,o7,o8,o9,y2,b7,p2⟩:=s.idx r3
    obtain ⟨rfl,A4⟩:=p2
    replace b7:At a4 v8 (0+(w64 ((w64 (u.1+w.2.1)) - p)).toNat*1) [iv g4]:=b7
    refine oi 92 32 2 1 f.1.length V .i64 (w64 ((w64 (u.1+w.2.1)) - p)) (off:=0) o7 o8 o9 (o1 93 2 (iv g4) (b7.one (o:=0) rfl) (od 1 ?_))
    refine osp 95 (decide (g4<0)) j ?_ ?_
    ·intro hg j
     refine oz [96,97] (dT 1 ?_)
     exact zk eY (J5 false  _  j)
    intro hg j
    refine dT 3 ?_
    exact zk eY (J5 (decide (d8.1>0))  _  j)
   intro hc j
   refine cx 4 (zh ?_)
   have hx:=l0 _ (sj j).symm
   subst hx
   replace j:=k9
   refine zi ?_
   exact zq eY (J3 f.1 f.2.1 f.2.2.2 _ _ _ _ _ _ _ _ hs s B i5 a7 c j)
  intro hc j
  refine cx 2 (zh ?_)
  have hx:=p8 _ (sj j).symm
  subst hx
  replace j:=p6
  refine zi ?_
  exact zq eY (J2 m.1 m.2.2.2 _ _ _ _ _ _ hs s1 s3 e5 c j)
 refine bE j fun v9 r4 p3=>zp (F:=zbz p0) (J:=fun M E' y=>∃ (i8:OA) (i9:Nat),(∃ G,E'=ups G [(0,pt k 0),(1,iv p1),(5,vl i8 M.1 i9),(6,iv M.2)])∧Step ([k]++blk D C) n y∧Gr tI64 false (n.H.size,156001) y 2 i8 i9 M.1∧I64 M.2∧Gr tI64 false z y 2 D C p0.2.2.2∧Box Q y k [iv p0.1,vl a2 p0.2.1 S,vl a5 p0.2.2.1 U,vl D p0.2.2.2 C] 243) (s0:=([],0)) (x:=v9) kr r4 ⟨_,_,⟨_,eY⟩,hs,w5,(iK 0),A,c⟩ ?_
 rintro M _ A5 ⟨i8,i9,⟨G,rfl⟩,hs,b8,C2,A,c⟩ y3 j p4
 refine cs (cO 4 (o1 20 2 (iv p0.1) (c.at.one (o:=0) rfl) (dT 1 ?_)))
 refine cc _ j ?_ ?_
 ·intro hc j
  refine ckt (cs (cb 1 (cr (od 1 (zJ (d:=25) (T:=32) (e:=2) (t:=tI64) (pub:=true) (τ:=(n.H.size,156002)) (len:=1) (l:=[(-1)]) (parts:=#[(0,iv (-1))]) (cs:=[iv (-1)]) kr kr kr kr hs.1 rfl ⟨_,_,rfl,⟨rfl,(iK (-1))⟩,rfl⟩ kr fun w1 A6 e1 w2=>?_)))))
  replace hs:=hs.tr0 e1
  replace A:=A.step0 e1
  replace b8:=b8.step0 e1
  replace c:=c.step0 e1
  refine bE j fun C3 r5 j=>zH (d:=26) (T:=32) (e:=2) (t:=tI64) (pub:=false) (τ:=(n.H.size,156001)) (bytes:=8) (a:=i8) (cp:=i9) (l:=M.1) (a2:=w1) (c2:=1) (l2:=[(-1)]) kr kr b8 w2.sl hs.1 kr r5 fun C4 C5 A7 g5 w3 hw=>?_
  clear hw
  replace hs:=hs.trG (b8.own (fz _)) g5
  replace A:=A.step g5 (A.ng b8 (zed (i:=156001) q))
  replace c:=c.step g5 (b8.bn c (zed (i:=156001) E))
  refine od 1 (oe (zd (zb (cr (od 3 (oe ?_))))))
  exact ze (sj j).symm ⟨_,_,⟨_,eY⟩,hs,w3,(zr _),A,c⟩
 intro hc j
 refine cx 0 (zh ?_)
 have hx:=p4 _ (sj j).symm
 subst hx
 replace j:=p3
 refine zi ?_
 exact zq eY (J1 M.1 _ _ _ _ hs b8 A c j)
theorem znF {k:K} {p0:Int×LB×LM×LI} {m A O h:Nat} {w:Tag} {a2 P p:OA} {i:Tag} {p1:Int} {j:Int} (a:Box w k m [iv p0.1,vl a2 p0.2.1 A,vl P p0.2.2.1 O,vl p p0.2.2.2 h] 243) (f9:I64 p0.1) (f4:Sl zT k a2 A p0.2.1) (f7:Sl (tSl tI64) k P O p0.2.2.1) (c:Gr tI64 false i k 2 p h p0.2.2.2) (b9:i.1<k.H.size) (e6:I64 p1) (e7:I64 j) (d:w≠i) {r:(Int×LB×LM×LI)} (f:zfW p0 p1 j=some r) :
 Fn Tryz.prog 167 #[pt m 0,iv p1,iv j] k (fun v Q=>Step ([m]++blk p h) k Q∧∃ (R:OA) (S:Nat),v=.tuple #[]∧Box w Q m [iv p0.1,vl a2 p0.2.1 A,vl P p0.2.2.1 O,vl R r.2.2.2 S] 243∧Gr tI64 false i Q 2 R S r.2.2.2∧(∀ g∈blk R S,g∈([m]++blk p h)∨k.H.size≤g)):=by
 refine fnc 34 ([m]++blk p h) Tryz.func167 Tryz.ntmps167 fun hs=>?_
 have d0:=a.tlt
 have U:=d.symm
 have n:∀ g∈blk p h,g∈([m]++blk p h)∨k.H.size≤g:=fun g hg=>.inl (by simp [hg])
 refine cO 3 (o1 9 183 (vl a2 p0.2.1 A) (a.at.one (o:=1) rfl) (od 1 (bE f fun C c0 f=>?_)))
 obtain ⟨d2,d3,Y,Z,a0,e0,q,a1⟩:=f4.idx c0
 obtain ⟨_,_,rfl,⟨rfl,e9⟩,⟨_,_,rfl,⟨rfl,f0⟩,⟨rfl,f1⟩⟩⟩:=a1
 replace q:PubAt k d2 (d3+j.toNat*3) [iv C.1,iv C.2.1,iv C.2.2]:=q
 refine oi 11 183 210 3 p0.2.1.length A .i64 j Y Z a0 (od 1 (o1 13 2 (iv C.1) (q.at.one (o:=0) rfl) (dT 2 ?_)))
 refine cc _ f ?_ ?_
 ·intro hc f
  refine cr (od 3 (o1 19 32 (vl p p0.2.2.2 h) (a.at.one (o:=3) rfl) (od 1 (bE f fun y c1 f=>?_))))
  obtain ⟨d4,a3,a4,a6,e1,s,a7⟩:=c.idx c1
  obtain ⟨rfl,f3⟩:=a7
  replace s:At k d4 (0+j.toNat*1) [iv y]:=s
  refine oi 21 32 2 1 p0.2.2.2.length h .i64 j (off:=0) a3 a4 a6 (o1 22 2 (iv y) (s.one (o:=0) rfl) (od 1 (bE f fun d5 c2 f=>?_)))
  obtain ⟨b5,D,E,F,e2,G,a9⟩:=c.idx c2
  obtain ⟨rfl,f5⟩:=a9
  replace G:At k b5 (0+j.toNat*1) [iv d5]:=G
  refine oi 24 32 2 1 p0.2.2.2.length h .i64 j (off:=0) D E F (bE f fun d6 V f=>zau (T:=2) (t:=tI64) (τ:=i) (e:=2) (ix:=j) (x':=w64 (y+1)) (b:=b5) (δ:=0) (cp:=h) (l:=p0.2.2.2) (vs:=[iv (w64 (y+1))]) (iv (w64 (y+1))) kr kr D c E F kr kr kr kr (fun cs hx=>by obtain ⟨x,_,ho⟩:=hx;rw [zM ((tI64.len ho).trans kr)];exact ⟨rfl,(zr _)⟩) fun c4 b6 B=>?_)
  replace hs:=hs.trM n b6
  replace a:=a.step b6 (c.bn a (d))
  replace c:=B
  replace c:=zcF V c
  have M:=zL V
  replace a:Box w c4 m [iv p0.1,vl a2 p0.2.1 A,vl P p0.2.2.1 O,vl p d6 h] 243:=by unfold vl;rw [M];exact a
  refine oe ?_
  obtain rfl:=sj f
  refine rn [] [] trivial ?_
  exact ⟨hs,_,_,rfl,a,c,n⟩
 intro hc f
 refine cr (od 3 (o1 28 32 (vl p p0.2.2.2 h) (a.at.one (o:=3) rfl) (od 1 (bE f fun z c5 f=>?_))))
 obtain ⟨d7,b0,b1,b2,e3,u,b3⟩:=c.idx c5
 obtain ⟨rfl,f6⟩:=b3
 replace u:At k d7 (0+j.toNat*1) [iv z]:=u
 refine oi 30 32 2 1 p0.2.2.2.length h .i64 j (off:=0) b0 b1 b2 (o1 31 2 (iv z) (u.one (o:=0) rfl) (od 1 (bE f fun d8 c7 f=>?_)))
 obtain ⟨b7,H,I,J,e4,L,b4⟩:=c.idx c7
 obtain ⟨rfl,f8⟩:=b4
 replace L:At k b7 (0+j.toNat*1) [iv d8]:=L
 refine oi 33 32 2 1 p0.2.2.2.length h .i64 j (off:=0) H I J (bE f fun d9 X f=>zau (T:=2) (t:=tI64) (τ:=i) (e:=2) (ix:=j) (x':=w64 (z - 1)) (b:=b7) (δ:=0) (cp:=h) (l:=p0.2.2.2) (vs:=[iv (w64 (z - 1))]) (iv (w64 (z - 1))) kr kr H c I J kr kr kr kr (fun cs hx=>by obtain ⟨x,_,ho⟩:=hx;rw [zM ((tI64.len ho).trans kr)];exact ⟨rfl,(zr _)⟩) fun c8 b8 B=>?_)
 replace hs:=hs.trM n b8
 replace a:=a.step b8 (c.bn a (d))
 replace c:=B
 replace c:=zcF X c
 have N:=zL X
 replace a:Box w c8 m [iv p0.1,vl a2 p0.2.1 A,vl P p0.2.2.1 O,vl p d9 h] 243:=by unfold vl;rw [N];exact a
 refine oe ?_
 obtain rfl:=sj f
 refine rn [] [] trivial ?_
 exact ⟨hs,_,_,rfl,a,c,n⟩
theorem znG {l:K} {p0:Int×LB×LM×LI} {d c3 w m:Nat} {I:Tag} {a2 L n:OA} {j:Tag} {p1:Int} {V:Int} (b:Box I l d [iv p0.1,vl a2 p0.2.1 c3,vl L p0.2.2.1 w,vl n p0.2.2.2 m] 243) (e3:I64 p0.1) (f4:Sl zT l a2 c3 p0.2.1) (f7:Sl (tSl tI64) l L w p0.2.2.1) (o2:Gr tI64 false j l 2 n m p0.2.2.2) (u:j.1<l.H.size) (l8:I64 p1) (l9:I64 V) (i:I≠j) {r:Bool×(Int×LB×LM×LI)} (a:zdR p0 p1 V=some r) :
 Fn Tryz.prog 155 #[pt d 0,iv p1,iv V] l (fun v p=>Step ([d]++blk n m) l p∧∃ (e4:OA) (e5:Nat),v=.bool r.1∧Box I p d [iv p0.1,vl a2 p0.2.1 c3,vl L p0.2.2.1 w,vl e4 r.2.2.2.2 e5] 243∧Gr tI64 false j p 2 e4 e5 r.2.2.2.2∧(∀ g∈blk e4 e5,g∈([d]++blk n m)∨l.H.size≤g)):=by
 refine fnc 93 ([d]++blk n m) Tryz.func155 Tryz.ntmps155 fun hs=>?_
 have o3:=b.tlt
 have e6:=i.symm
 have a7:∀ g∈blk n m,g∈([d]++blk n m)∨l.H.size≤g:=fun g E=>.inl (by simp [E])
 refine cO 1 (otx (od 2 (bE a fun k m0 a=>ocl 16 (zi5 (p0:=p0) b e3 f4 f7 o2 (gd u hs.1) l9 (i) m0) ?_)))
 rintro _ m1 ⟨o4,y,q,o5,o6,rfl,f,z,k5,A⟩
 replace A:∀ g∈blk o5 o6,g∈([d]++blk n m)∨l.H.size≤g:=fun g E=>(A g E).elim ((zoV (zrJ (by simp)) a7) g) (fun h=>.inr (ga hs.1 h))
 replace hs:=hs.trM (zoV (zrJ (by simp)) a7) o4
 replace b:=z
 refine dT 1 (cs (cO 2 (bE a fun k6 m2 a=>?_)))
 obtain ⟨o7,o8,h8,h9,i0,r4,X,i1⟩:=f.idx m2
 obtain ⟨rfl,s2⟩:=i1
 replace X:PubAt m1 o7 (o8+p1.toNat*1) [iv k6]:=X
 refine oi 19 32 2 1 k.1.length q .i64 p1 h8 h9 i0 (o1 20 2 (iv k6) (X.at.one (o:=0) rfl) (dT 1 ?_))
 refine cc _ a ?_ ?_
 ·intro hc a
  refine cT 1 (crt (zc ?_))
  obtain rfl:=sj a
  exact rT 6 ff ⟨hs,_,_,rfl,b,k5,A⟩
 intro hc a
 refine ckt (cs (cT 2 (cb 0 ?_)))
 refine zj 0 (fun Z=>∀ (c1:LI) (c2:OA) (c4:Nat) (s:Env) (M:K) (hs:Step ([d]++blk n m) l M) (k7:Gr tI64 false j M 2 c2 c4 c1) (a9:(∀ g∈blk c2 c4,g∈([d]++blk n m)∨l.H.size≤g)) (b:Box I M d [iv p0.1,vl a2 p0.2.1 c3,vl L p0.2.2.1 w,vl c2 c1 c4] 243),zjz p0 c1=some r→Z (s) M) ?_ fun J1=>?_
 ·intro c1 c2 c4 s M hs k7 a9 b a
  refine zf (zb (cT 1 (crt ?_)))
  obtain rfl:=sj a
  exact rT 6 tt ⟨hs,_,_,rfl,b,k7,a9⟩
 refine bE a fun o9 m3 i2=>zp (F:=zb6 p0 V k) (J:=fun e E' p=>∃ (c5:OA) (c7:Nat),(∃ s,E'=ups s [(0,pt d 0),(2,iv V),(7,vl y k.1 q),(8,iv e.1)])∧Step ([d]++blk n m) l p∧I64 e.1∧Gr tI64 false j p 2 c5 c7 e.2∧(∀ g∈blk c5 c7,g∈([d]++blk n m)∨l.H.size≤g)∧Sl tI64 p y q k.1∧Box I p d [iv p0.1,vl a2 p0.2.1 c3,vl L p0.2.2.1 w,vl c5 e.2 c7] 243) (s0:=(p1,k.2.2.2.2)) (x:=o9) kr m3 ⟨_,_,⟨_,eY⟩,hs,l8,k5,A,f,b⟩ ?_
 rintro e _ s4 ⟨c5,c7,⟨s,rfl⟩,hs,e7,k8,b0,f,b⟩ i3 a i4
 refine cs (cT 3 ?_)
 refine cc _ a ?_ ?_
 ·intro hc a
  refine ckt (cb 1 (cO 1 (otx (dT 1 (cs (cT 1 (cb 2 ?_)))))))
  refine zj 2 (fun Z=>∀ (c8:Int) (d0:Int) (b1:LI) (d2:OA) (d3:Nat) (s:Env) (G:K) (hs:Step ([d]++blk n m) l G) (e8:I64 c8) (e9:I64 d0) (k9:Gr tI64 false j G 2 d2 d3 b1) (N:(∀ g∈blk d2 d3,g∈([d]++blk n m)∨l.H.size≤g)) (f:Sl tI64 G y q k.1) (b:Box I G d [iv p0.1,vl a2 p0.2.1 c3,vl L p0.2.2.1 w,vl d2 b1 d3] 243),zgh p0 e c8 d0 b1=some i3→Z (ups s [(0,pt d 0),(2,iv V),(7,vl y k.1 q),(8,iv e.1),(9,iv c8),(10,iv d0)]) G) ?_ fun J2=>?_
  ·intro c8 d0 b1 d2 d3 s G hs e8 e9 k9 N f b a
   refine zf (zb (cO 3 (bE a fun s9 m5 a=>ocl 91 (znF (p0:=(p0.1,(p0.2.1,(p0.2.2.1,b1)))) b e3 (f4.step hs) (f7.step hs) k9 (gd u hs.1) e7 e9 (i) m5) ?_)))
   rintro _ s6 ⟨l0,p3,p4,rfl,z,p5,O⟩
   replace O:∀ g∈blk p3 p4,g∈([d]++blk n m)∨l.H.size≤g:=fun g E=>(O g E).elim ((zoV (zrJ (by simp)) N) g) (fun h=>.inr (ga hs.1 h))
   replace hs:=hs.trM (zoV (zrJ (by simp)) N) l0
   replace f:=f.step l0
   replace b:=z
   refine otr (od 2 (oe (zd ?_)))
   exact ze (sj a).symm ⟨_,_,⟨_,eY⟩,hs,e8,p5,O,f,b⟩
  refine bE a fun p6 m6 i5=>zp (F:=zb5 p0 k e) (J:=fun c E' p=>∃ (d4:OA) (d5:Nat),(∃ s,E'=ups s [(0,pt d 0),(2,iv V),(7,vl y k.1 q),(8,iv e.1),(9,iv c.1),(10,iv c.2.1),(11,iv c.2.2.1)])∧Step ([d]++blk n m) l p∧I64 c.1∧I64 c.2.1∧I64 c.2.2.1∧Gr tI64 false j p 2 d4 d5 c.2.2.2∧(∀ g∈blk d4 d5,g∈([d]++blk n m)∨l.H.size≤g)∧Sl tI64 p y q k.1∧Box I p d [iv p0.1,vl a2 p0.2.1 c3,vl L p0.2.2.1 w,vl d4 c.2.2.2 d5] 243) (s0:=((-1),0,0,e.2)) (x:=p6) kr m6 ⟨_,_,⟨_,eY⟩,hs,(iK (-1)),(iK 0),(iK 0),k8,b0,f,b⟩ ?_
  rintro c _ b4 ⟨d4,d5,⟨s,rfl⟩,hs,f0,f1,s7,l1,P,f,b⟩ d6 a i6
  refine cs (cO 4 (o1 30 33 (vl L p0.2.2.1 w) (b.at.one (o:=2) rfl) (od 1 (bE a fun t b5 a=>?_))))
  obtain ⟨p7,p8,i7,i8,i9,r5,Y,j1⟩:=(f7.step hs).idx b5
  obtain ⟨l2,l3,rfl,t0⟩:=j1
  replace Y:PubAt b4 p7 (p8+e.1.toNat*1) [vl l2 t l3]:=Y
  refine oi 32 33 32 1 p0.2.2.1.length w .i64 e.1 i7 i8 i9 (o1 33 32 (vl l2 t l3) (Y.at.one (o:=0) rfl) (dT 2 ?_))
  refine cc _ a ?_ ?_
  ·intro hc a
   refine ckt ?_
   refine zn (fun Z=>∀ (d7:Int) (d8:Int) (d9:LI) (e0:OA) (e1:Nat) (s:Env) (H:K) (hs:Step ([d]++blk n m) l H) (f2:I64 d7) (f3:I64 d8) (l4:Gr tI64 false j H 2 e0 e1 d9) (b2:(∀ g∈blk e0 e1,g∈([d]++blk n m)∨l.H.size≤g)) (f:Sl tI64 H y q k.1) (b:Box I H d [iv p0.1,vl a2 p0.2.1 c3,vl L p0.2.2.1 w,vl e0 d9 e1] 243),zb7 c d7 d8 d9=some d6→cwp Tryz.prog 93 (sub (zB Tryz.f155) [1,1,0,0,1,0,1,1,0,1,0,0,1,0,1,1,1]) Z (ups s [(0,pt d 0),(2,iv V),(7,vl y k.1 q),(8,iv e.1),(9,iv d7),(10,iv d8),(11,iv c.2.2.1)]) H) ?_ fun J3=>?_
   ·intro d7 d8 d9 e0 e1 s H hs f2 f3 l4 b2 f b a
    refine cr (od 3 (oe ?_))
    exact ze (sj a).symm ⟨_,_,⟨_,eY⟩,hs,f2,f3,(zr _),l4,b2,f,b⟩
   refine cs (cb 3 (cO 5 (o1 44 33 (vl L p0.2.2.1 w) (b.at.one (o:=2) rfl) (od 1 (bE a fun q0 b6 a=>?_)))))
   have j2:t=q0:=sj (b5.symm.trans b6);subst j2
   have r6:=b6
   obtain ⟨q1,q2,j3,j4,j5,r7,a0,j6⟩:=(f7.step hs).idx b6
   obtain ⟨l5,f5,rfl,q3⟩:=j6
   replace a0:PubAt b4 q1 (q2+e.1.toNat*1) [vl l5 t f5]:=a0
   refine oi 46 33 32 1 p0.2.2.1.length w .i64 e.1 j3 j4 j5 (o1 47 32 (vl l5 t f5) (a0.at.one (o:=0) rfl) (od 1 (bE a fun Q f6 a=>?_)))
   obtain ⟨q4,q5,j7,j8,j9,r8,a1,k0⟩:=q3.idx f6
   obtain ⟨rfl,m7⟩:=k0
   replace a1:PubAt b4 q4 (q5+c.2.2.1.toNat*1) [iv Q]:=a1
   refine oi 49 32 2 1 t.length f5 .i64 c.2.2.1 j7 j8 j9 (o1 50 2 (iv Q) (a1.at.one (o:=0) rfl) (bE a fun B m8 a=>ocl 51 (zjy (p0:=(p0.1,(p0.2.1,(p0.2.2.1,c.2.2.2)))) b e3 (f4.step hs) (f7.step hs) l1 (gd u hs.1) e7 m7 (i) m8) ?_))
   rintro _ C ⟨f8,q6,q7,rfl,s8,m9,z,l6,D⟩
   replace D:∀ g∈blk q6 q7,g∈([d]++blk n m)∨l.H.size≤g:=fun g E=>(D g E).elim ((zoV (zrJ (by simp)) P) g) (fun h=>.inr (ga hs.1 h))
   replace hs:=hs.trM (zoV (zrJ (by simp)) P) f8
   replace f:=f.step f8
   replace b:=z
   refine dT 5 ?_
   refine zn (fun Z=>∀ (b7:Bool) (s:Env),z6 p0 e c t Q B b7=some d6→cwp Tryz.prog 93 (sub (zB Tryz.f155) [1,1,0,0,1,0,0,1,0,1,1,0,1,0,0,1,0,1,1,1]) Z (ups s [(0,pt d 0),(2,iv V),(7,vl y k.1 q),(8,iv e.1),(9,iv c.1),(10,iv c.2.1),(11,iv c.2.2.1),(13,iv B.2.1),(76,.bool b7)]) C) ?_ fun J4=>?_
   ·intro b7 s a
    refine cc _ a ?_ ?_
    ·intro hc a
     refine cO 2 (otr (od 3 (o1 81 33 (vl L p0.2.2.1 w) (b.at.one (o:=2) rfl) (od 1 (bE a fun n0 a3 a=>?_)))))
     have f9:t=n0:=sj (b5.symm.trans a3);subst f9
     have q8:=a3
     obtain ⟨n1,n2,g0,g1,g2,q9,R,g3⟩:=(f7.step hs).idx a3
     obtain ⟨g4,b8,rfl,n3⟩:=g3
     replace R:PubAt C n1 (n2+e.1.toNat*1) [vl g4 t b8]:=R
     refine oi 83 33 32 1 p0.2.2.1.length w .i64 e.1 g0 g1 g2 (o1 84 32 (vl g4 t b8) (R.at.one (o:=0) rfl) (od 1 (bE a fun n4 a4 a=>?_)))
     have g5:Q=n4:=sj (f6.symm.trans a4);subst g5
     have r0:=a4
     obtain ⟨n5,n6,g6,g7,g8,r1,S,g9⟩:=n3.idx a4
     obtain ⟨rfl,k2⟩:=g9
     replace S:PubAt C n5 (n6+c.2.2.1.toNat*1) [iv Q]:=S
     refine oi 86 32 2 1 t.length b8 .i64 c.2.2.1 g6 g7 g8 (o1 87 2 (iv Q) (S.at.one (o:=0) rfl) (od 1 (oe (zd (zb ?_)))))
     exact zk eY (J3 B.2.1 Q B.2.2.2.2.2 _ _ _ _ hs m9 k2 l6 D f b a)
    intro hc a
    refine ck (zd (zb ?_))
    exact zk eY (J3 c.1 c.2.1 B.2.2.2.2.2 _ _ _ _ hs f0 f1 l6 D f b a)
   refine cs (cd 20 (dd 2 ?_))
   refine dsp 56 (decide (B.1>0)) a ?_ ?_
   ·intro E a
    refine ds 57 (ds 58 (ds 59 (ds 60 (ds 61 (ds 62 (ds 63 (ds 64 (ds 65 (ds 66 (dd 2 (ds 69 (ds 70 (ds 71 (ds 72 (ds 73 (de (oz [74,75] (dT 1 ?_))))))))))))))))))
    exact zk eY (J4 false  _  a)
   intro E a
   refine dd 2 (bE a fun b9 k3 a=>?_)
   obtain ⟨n7,n8,h0,h1,h2,r2,T,h3⟩:=f.idx k3
   obtain ⟨rfl,r9⟩:=h3
   replace T:PubAt C n7 (n8+B.2.1.toNat*1) [iv b9]:=T
   refine di 59 32 2 1 k.1.length q .i64 B.2.1 h0 h1 h2 (d1 60 2 (iv b9) (T.at.one (o:=0) rfl) (dd 2 (bE a fun c0 k4 a=>?_)))
   obtain ⟨n9,o0,h4,h5,h6,r3,U,h7⟩:=f.idx k4
   obtain ⟨rfl,s1⟩:=h7
   replace U:PubAt C n9 (o0+e.1.toNat*1) [iv c0]:=U
   refine di 63 32 2 1 k.1.length q .i64 e.1 h4 h5 h6 (d1 64 2 (iv c0) (U.at.one (o:=0) rfl) (dd 3 ?_))
   refine dsp 68 (decide (b9=(w64 (c0 - 1)))) a ?_ ?_
   ·intro E a
    refine ds 69 (ds 70 (ds 71 (ds 72 (ds 73 (de (oz [74,75] (dT 1 ?_)))))))
    exact zk eY (J4 false  _  a)
   intro E a
   refine dd 2 ?_
   refine dsp 71 (decide (c.1<0)) a ?_ ?_
   ·intro E a
    refine dd 2 (de (dT 3 ?_))
    exact zk eY (J4 (decide (B.2.1<c.1))  _  a)
   intro E a
   refine ds 72 (ds 73 (de (os 74 (dT 2 ?_))))
   exact zk eY (J4 true  _  a)
  intro hc a
  refine cx 2 (zh ?_)
  have hx:=i6 _ (sj a).symm
  subst hx
  replace a:=i5
  refine zi ?_
  exact zq eY (J2 c.1 c.2.1 c.2.2.2 _ _ _ _ hs f0 f1 l1 P f b a)
 intro hc a
 refine cx 0 (zh ?_)
 have hx:=i4 _ (sj a).symm
 subst hx
 replace a:=i2
 refine zi ?_
 exact zq rfl (J1 e.2 _ _ _ _ hs k8 b0 b a)
theorem zqe {t:K} {p0:Int} {p1:LB} {a2:OA} {c3:Nat} {u:Int} {w:Int} (a4:I64 p0) (f4:Sl zT t a2 c3 p1) (a5:I64 u) (a6:I64 w) {r:(Int×LB×LM×LI)×Int} (f:zjL p0 p1 u w=some r) :
 Fn Tryz.prog 140 #[iv p0,vl a2 p1 c3,iv u,iv w] t (fun v c=>Step [] t c∧∃ (b7:Nat) (L:Nat) (O:OA) (P:Nat) (Q:OA) (R:Nat) (S:OA) (T:Nat),v=.tuple #[pt b7 0,iv r.2]∧t.H.size≤L∧Box (L,154001) c b7 [iv r.1.1,vl O r.1.2.1 P,vl Q r.1.2.2.1 R,vl S r.1.2.2.2 T] 243∧I64 r.1.1∧Sl zT c O P r.1.2.1∧Gr (tSl tI64) true (L,154002) c 32 Q R r.1.2.2.1∧Gr tI64 false (L,154003) c 2 S T r.1.2.2.2∧I64 r.2):=by
 refine fnc 23 [] Tryz.func140 Tryz.ntmps140 fun hs=>cO 2 (otx (od 2 (bE f fun b V f=>ocl 14 (zqW a4 f4 V) ?_)))
 rintro _ b5 ⟨a8,k,j,m,n,p,q,c2,c4,rfl,d,a,y,i,e,a9⟩
 replace d:=ga hs.1 d
 replace hs:=hs.tr0 a8
 refine od 1 (otx (dT 1 (cs (cb 0 ?_))))
 refine zj 0 (fun Z=>∀ (l:Int) (s:LI) (z:OA) (A:Nat) (B:Env) (g:K),Step [] t g→I64 l→Gr tI64 false (j,154003) g 2 z A s→Sl zT g m n b.2.1→Gr (tSl tI64) true (j,154002) g 32 p q b.2.2.1→Box (j,154001) g k [iv b.1,vl m b.2.1 n,vl p b.2.2.1 q,vl z s A] 243→zjk b l s=some r→Z (ups B [(10,pt k 0),(11,iv l)]) g) ?_ fun J1=>?_
 ·intro l s z A B g hs X b0 i e a f
  refine zf (zb (cT 4 (crt ?_)))
  obtain rfl:=sj f
  refine rt [.tmp 8,.tmp 9] [pt k 0,iv l] ⟨kr,kr,trivial⟩ ?_
  exact ⟨hs,_,_,_,_,_,_,_,_,rfl,d,a,y,i,e,b0,X⟩
 refine bE f fun b1 Y M=>zp (F:=zeB u w b) (J:=fun h E' c=>∃ (C:OA) (D:Nat),(∃ B,E'=ups B [(2,iv u),(3,iv w),(10,pt k 0),(11,iv h.1)])∧Step [] t c∧I64 h.1∧Gr tI64 false (j,154003) c 2 C D h.2∧Sl zT c m n b.2.1∧Gr (tSl tI64) true (j,154002) c 32 p q b.2.2.1∧Box (j,154001) c k [iv b.1,vl m b.2.1 n,vl p b.2.2.1 q,vl C h.2 D] 243) (s0:=(0,b.2.2.2)) (x:=b1) kr Y ⟨_,_,⟨_,eY⟩,hs,(iK 0),a9,i,e,a⟩ ?_
 rintro h _ b9 ⟨C,D,⟨B,rfl⟩,hs,a0,E,i,e,a⟩ b3 f N
 refine cs (cO 3 (bE f fun b2 a1 f=>ocl 18 (znG (p0:=(b.1,(b.2.1,(b.2.2.1,h.2)))) a y i e.sl E (show ((j,154003):Tag).1<_ from a.tlt) a5 a6 (zl kr) a1) ?_))
 rintro _ c0 ⟨G,c5,c6,rfl,H,U,I⟩
 clear I
 replace hs:=hs.trM (zoV (ztE (ga d a.ge)) (ztD (E.own d))) G
 replace i:=i.step G
 replace e:=e.step G (zxe (e.nb a (zl kr)) (e.ng E (zl kr)))
 replace a:=H
 refine ot ?_
 refine cc _ f ?_ ?_
 ·intro hc f
  refine ckt (cb 1 (cr (od 3 (oe (zd ?_)))))
  exact ze (sj f).symm ⟨_,_,⟨_,eY⟩,hs,(zr _),U,i,e,a⟩
 intro hc f
 refine cx 0 (zh ?_)
 have hx:=N _ (sj f).symm
 subst hx
 replace f:=M
 refine zi ?_
 exact zq eY (J1 h.1 b2.2.2.2.2 _ _ _ _ hs a0 U i e a f)
theorem znE {p:K} {p0:Int×LB×LM×LI} {f c3 c6 A:Nat} {H:Tag} {a2 a5 B:OA} {q:Tag} {p1:Int} (b:Box H p f [iv p0.1,vl a2 p0.2.1 c3,vl a5 p0.2.2.1 c6,vl B p0.2.2.2 A] 243) (d8:I64 p0.1) (f4:Sl zT p a2 c3 p0.2.1) (f7:Sl (tSl tI64) p a5 c6 p0.2.2.1) (d9:Gr tI64 false q p 2 B A p0.2.2.2) (C:q.1<p.H.size) (c7:I64 p1) (s:H≠q) {r:LI×(Int×LB×LM×LI)} (k:zfV p0 p1=some r) :
 Fn Tryz.prog 141 #[pt f 0,iv p1] p (fun v u=>Step ([f]++blk B A) p u∧∃ (c1:OA) (c4:Nat) (a6:OA) (a7:Nat),v=vl c1 r.1 c4∧Sl tI64 u c1 c4 r.1∧Box H u f [iv p0.1,vl a2 p0.2.1 c3,vl a5 p0.2.2.1 c6,vl a6 r.2.2.2.2 a7] 243∧Gr tI64 false q u 2 a6 a7 r.2.2.2.2∧(∀ g∈blk a6 a7,g∈([f]++blk B A)∨p.H.size≤g)):=by
 refine fnc 30 ([f]++blk B A) Tryz.func141 Tryz.ntmps141 fun hs=>?_
 have a9:=b.tlt
 have b0:=s.symm
 have L:∀ g∈blk B A,g∈([f]++blk B A)∨p.H.size≤g:=fun g hg=>.inl (by simp [hg])
 refine cO 1 (otx (od 2 (bE k fun m d0 k=>ocl 10 (zi5 (p0:=p0) b d8 f4 f7 d9 (gd C hs.1) c7 (s) d0) ?_)))
 rintro _ f6 ⟨e0,Q,M,D,E,rfl,n,b3,j,G⟩
 replace G:∀ g∈blk D E,g∈([f]++blk B A)∨p.H.size≤g:=fun g hg=>(G g hg).elim ((zoV (zrJ (by simp)) L) g) (fun h=>.inr (ga hs.1 h))
 replace hs:=hs.trM (zoV (zrJ (by simp)) L) e0
 replace b:=b3
 refine od 1 (otx (zJ (d:=11) (T:=32) (e:=2) (t:=tI64) (pub:=true) (τ:=(p.H.size,141001)) (len:=0) (l:=[]) (parts:=#[]) (cs:=[]) kr kr kr kr hs.1 rfl rfl kr fun g4 f8 R e1=>?_))
 replace hs:=hs.tr0 R
 replace n:=n.step R
 replace j:=j.step0 R
 replace b:=b.step0 R
 refine dT 1 (cs (cT 1 (cb 0 ?_)))
 refine zj 0 (fun Z=>∀ (N:LI) (S:OA) (U:Nat) (O:Env) (y:K),Step ([f]++blk B A) p y→Gr tI64 true (p.H.size,141001) y 2 S U N→Gr tI64 false q y 2 D E m.2.2.2.2→Box H y f [iv p0.1,vl a2 p0.2.1 c3,vl a5 p0.2.2.1 c6,vl D m.2.2.2.2 E] 243→zgg p0 m N=some r→Z (ups O [(6,vl S N U)]) y) ?_ fun J1=>?_
 ·intro N S U O y hs e2 j b k
  refine zf (zb (cT 2 (crt ?_)))
  obtain rfl:=sj k
  exact rT 4 (vl S N U) ⟨hs,_,_,_,_,rfl,e2.sl,b,j,G⟩
 refine bE k fun e3 d2 b4=>zp (F:=zdI p0 m) (J:=fun c E' u=>∃ (V:OA) (X:Nat),(∃ O,E'=ups O [(0,pt f 0),(5,vl Q m.1 M),(6,vl V c.1 X),(7,iv c.2)])∧Step ([f]++blk B A) p u∧Gr tI64 true (p.H.size,141001) u 2 V X c.1∧I64 c.2∧Sl tI64 u Q M m.1∧Gr tI64 false q u 2 D E m.2.2.2.2∧Box H u f [iv p0.1,vl a2 p0.2.1 c3,vl a5 p0.2.2.1 c6,vl D m.2.2.2.2 E] 243) (s0:=([],0)) (x:=e3) kr d2 ⟨_,_,⟨_,eY⟩,hs,e1,(iK 0),n,j,b⟩ ?_
 rintro c _ d3 ⟨V,X,⟨O,rfl⟩,hs,z,d4,n,j,b⟩ b5 k b6
 refine cs (cO 4 (o1 16 2 (iv p0.1) (b.at.one (o:=0) rfl) (dT 1 ?_)))
 refine cc _ k ?_ ?_
 ·intro hc k
  refine ckt ?_
  refine zn (fun Z=>∀ (Y:LI) (b1:OA) (b2:Nat) (O:Env) (w:K),Step ([f]++blk B A) p w→Gr tI64 true (p.H.size,141001) w 2 b1 b2 Y→Sl tI64 w Q M m.1→Gr tI64 false q w 2 D E m.2.2.2.2→Box H w f [iv p0.1,vl a2 p0.2.1 c3,vl a5 p0.2.2.1 c6,vl D m.2.2.2.2 E] 243→zdJ c Y=some b5→cwp Tryz.prog 30 (sub (zB Tryz.f141) [1,1,0,0,1,0,1,1,1]) Z (ups O [(0,pt f 0),(5,vl Q m.1 M),(6,vl b1 Y b2),(7,iv c.2)]) w) ?_ fun J2=>?_
  ·intro Y b1 b2 O w hs e5 n j b k
   refine cr (od 3 (oe ?_))
   exact ze (sj k).symm ⟨_,_,⟨_,eY⟩,hs,e5,(zr _),n,j,b⟩
  refine cs (cb 1 (cO 2 (bE k fun c5 d6 k=>?_)))
  obtain ⟨e6,e7,b7,b8,b9,f2,I,c0⟩:=n.idx d6
  obtain ⟨rfl,g1⟩:=c0
  replace I:PubAt d3 e6 (e7+c.2.toNat*1) [iv c5]:=I
  refine oi 22 32 2 1 m.1.length M .i64 c.2 b7 b8 b9 (o1 23 2 (iv c5) (I.at.one (o:=0) rfl) (dT 1 ?_))
  refine cc _ k ?_ ?_
  ·intro hc k
   refine cr (od 2 (zJ (d:=27) (T:=32) (e:=2) (t:=tI64) (pub:=true) (τ:=(p.H.size,141002)) (len:=1) (l:=[c.2]) (parts:=#[(0,iv c.2)]) (cs:=[iv c.2]) kr kr kr kr hs.1 rfl ⟨_,_,rfl,⟨rfl,d4⟩,rfl⟩ kr fun e8 g2 P e9=>?_))
   replace hs:=hs.tr0 P
   replace n:=n.step P
   replace j:=j.step0 P
   replace z:=z.step0 P
   replace b:=b.step0 P
   refine bE k fun f0 d7 k=>zH (d:=28) (T:=32) (e:=2) (t:=tI64) (pub:=true) (τ:=(p.H.size,141001)) (bytes:=8) (a:=V) (cp:=X) (l:=c.1) (a2:=e8) (c2:=1) (l2:=[c.2]) kr kr z e9.sl hs.1 kr d7 fun g5 g6 g3 a0 f1 hw=>?_
   clear hw
   replace hs:=hs.trG (z.own (fz _)) a0
   replace n:=n.step a0
   replace j:=j.step a0 (j.ng z (zed (i:=141001) C))
   replace b:=b.step a0 (z.bn b (zed (i:=141001) a9))
   refine od 1 (oe (zd (zb ?_)))
   exact zk eY (J2 f0 _ _ _ _ hs f1 n j b k)
  intro hc k
  refine ck (zd (zb ?_))
  exact zk eY (J2 c.1 _ _ _ _ hs z n j b k)
 intro hc k
 refine cx 0 (zh ?_)
 have hx:=b6 _ (sj k).symm
 subst hx
 replace k:=b4
 refine zi ?_
 exact zq eY (J1 c.1 _ _ _ _ hs z j b k)
theorem zoG {c:K} {p0:Int} {p1:LI} {a2 R:OA} {l m:Nat} {t:Int} {h:LI} (c5:I64 p0) (Y:Sl tI64 c a2 l p1) (c6:I64 t) (f8:Sl tI64 c R m h) {r:Bool} (a:zhy p0 p1 t h=some r) :
 Fn Tryz.prog 142 #[iv p0,vl a2 p1 l,iv t,vl R h m] c (fun v n=>c=n∧v=.bool r):=by
 refine fnc 50 [] Tryz.func142 Tryz.ntmps142 fun hs=>cT 1 (cs (cT 3 ?_))
 refine cc _ a ?_ ?_
 ·intro i a
  refine cT 4 (crt (zc ?_))
  obtain rfl:=sj a
  exact rT 8 (bW (p0<t)) ⟨rfl,rfl⟩
 intro i a
 refine ckt (cs (cT 5 ?_))
 refine cc _ a ?_ ?_
 ·intro i a
  refine cT 6 (crt (zc ?_))
  obtain rfl:=sj a
  exact rT 8 (bW ((p1.length:Int)<(h.length:Int))) ⟨rfl,rfl⟩
 intro i a
 refine ckt (cs (cT 1 (cb 0 ?_)))
 refine zj 0 (fun Z=>∀ (p:Env),zkU=some r→Z (p) c) ?_ fun J1=>?_
 ·intro p a
  refine zf (zb (cT 1 (crt ?_)))
  obtain rfl:=sj a
  exact rT 8 ff ⟨rfl,rfl⟩
 refine bE a fun a1 S j=>zp (F:=zfb p1 h) (J:=fun b E' n=>(∃ p,E'=ups p [(1,vl a2 p1 l),(3,vl R h m),(9,iv b)])∧c=n∧I64 b) (s0:=0) (x:=a1) kr S ⟨⟨_,eY⟩,rfl,(iK 0)⟩ ?_
 rintro b _ _ ⟨⟨p,rfl⟩,rfl,b9⟩ b2 a k
 refine cs (cT 4 ?_)
 refine cc _ a ?_ ?_
 ·intro i a
  refine ckt (cs (cb 1 (cs (cd 8 (dd 2 (bE a fun P T a=>?_))))))
  obtain ⟨a3,a4,u,w,y,b3,d,z⟩:=Y.idx T
  obtain ⟨rfl,c0⟩:=z
  replace d:PubAt c a3 (a4+b.toNat*1) [iv P]:=d
  refine di 34 32 2 1 p1.length l .i64 b u w y (d1 35 2 (iv P) (d.at.one (o:=0) rfl) (dd 2 (bE a fun Q U a=>?_)))
  obtain ⟨a5,a7,A,B,C,b4,e,D⟩:=f8.idx U
  obtain ⟨rfl,c1⟩:=D
  replace e:PubAt c a5 (a7+b.toNat*1) [iv Q]:=e
  refine di 38 32 2 1 h.length m .i64 b A B C (d1 39 2 (iv Q) (e.at.one (o:=0) rfl) (de (dT 1 ?_)))
  refine cc _ a ?_ ?_
  ·intro i a
   refine cs (cd 8 (dd 2 (bE a fun q V a=>?_)))
   obtain ⟨a8,a9,E,G,H,b5,f,I⟩:=Y.idx V
   obtain ⟨rfl,c2⟩:=I
   replace f:PubAt c a8 (a9+b.toNat*1) [iv q]:=f
   refine di 43 32 2 1 p1.length l .i64 b E G H (d1 44 2 (iv q) (f.at.one (o:=0) rfl) (dd 2 (bE a fun s X a=>?_)))
   obtain ⟨b0,b1,L,M,N,b6,g,O⟩:=f8.idx X
   obtain ⟨rfl,c4⟩:=O
   replace g:PubAt c b0 (b1+b.toNat*1) [iv s]:=g
   refine di 47 32 2 1 h.length m .i64 b L M N (d1 48 2 (iv s) (g.at.one (o:=0) rfl) (de (dT 2 (crt (zg (zc ?_))))))
   have hx:=k _ (sj a).symm
   subst hx
   replace a:=j
   refine zv (zg (zc ?_))
   obtain rfl:=sj a
   exact rT 8 (bW (q<s)) ⟨rfl,rfl⟩
  intro i a
  refine ck (zd (zb (cr (od 3 (oe ?_)))))
  exact ze (sj a).symm ⟨⟨_,eY⟩,rfl,(zr _)⟩
 intro i a
 refine cx 0 (zh ?_)
 have hx:=k _ (sj a).symm
 subst hx
 replace a:=j
 refine zi ?_
 exact zq rfl (J1   _  a)
theorem zn3 {p:K} {p0:Int} {p1:LB} {a2:OA} {D:Nat} (a9:I64 p0) (f4:Sl zT p a2 D p1) {r:Int×LI} (b:zgJ p0 p1=some r) :
 Fn Tryz.prog 114 #[iv p0,vl a2 p1 D] p (fun v k=>Step [] p k∧∃ (a6:OA) (c7:Nat),v=.tuple #[iv r.1,vl a6 r.2 c7]∧I64 r.1∧Sl tI64 k a6 c7 r.2):=by
 refine fnc 41 [] Tryz.func114 Tryz.ntmps114 fun hs=>cO 2 (otx (od 1 (otx (zJ (d:=12) (T:=32) (e:=2) (t:=tI64) (pub:=true) (τ:=(p.H.size,114001)) (len:=0) (l:=[]) (parts:=#[]) (cs:=[]) kr kr kr kr hs.1 rfl rfl kr fun d4 d5 b2 b3=>?_))))
 replace hs:=hs.tr0 b2
 refine dT 1 (cs (cT 1 (cb 0 ?_)))
 refine zj 0 (fun Z=>∀ (m:Int) (n:LI) (s:OA) (u:Nat) (g:Env) (i:K),Step [] p i→I64 m→Sl tI64 i s u n→zg2 m n=some r→Z (ups g [(6,iv m),(7,vl s n u)]) i) ?_ fun J1=>?_
 ·intro m n s u g i hs X b4 b
  refine zf (zb (cT 4 (crt ?_)))
  obtain rfl:=sj b
  refine rt [.tmp 4,.tmp 5] [iv m,vl s n u] ⟨kr,kr,trivial⟩ ?_
  exact ⟨hs,_,_,rfl,X,b4⟩
 refine bE b fun b5 Y P=>zp (F:=zei p0 p1) (J:=fun a E' k=>∃ (w:OA) (y:Nat),(∃ g,E'=ups g [(0,iv p0),(1,vl a2 p1 D),(6,iv a.1),(7,vl w a.2.1 y),(8,iv a.2.2)])∧Step [] p k∧I64 a.1∧Sl tI64 k w y a.2.1∧I64 a.2.2) (s0:=((-1),[],1)) (x:=b5) kr Y ⟨_,_,⟨_,eY⟩,hs,(iK (-1)),b3.sl,(iK 1)⟩ ?_
 rintro a _ d0 ⟨w,y,⟨g,rfl⟩,hs,q,h,E⟩ z b Q
 refine cs (cT 3 ?_)
 refine cc _ b ?_ ?_
 ·intro hc b
  refine ckt ?_
  refine zn (fun Z=>∀ (A:Int) (B:LI) (G:OA) (H:Nat) (g:Env) (j:K),Step [] p j→I64 A→Sl tI64 j G H B→zcB a A B=some z→cwp Tryz.prog 41 (sub (zB Tryz.f114) [1,1,0,0,1,0,1,1,1]) Z (ups g [(0,iv p0),(1,vl a2 p1 D),(6,iv A),(7,vl G B H),(8,iv a.2.2)]) j) ?_ fun J2=>?_
  ·intro A B G H g j hs a1 b7 b
   refine cr (od 3 (oe ?_))
   exact ze (sj b).symm ⟨_,_,⟨_,eY⟩,hs,a1,b7,(zr _)⟩
  refine cs (cb 1 (cO 3 (bE b fun C a3 b=>ocl 22 (zqe a9 (f4.step hs) (iK 0) E a3) ?_)))
  rintro _ d2 ⟨R,d6,b8,d7,d8,d9,e0,e1,e2,rfl,c,f,a4,b9,c0,S,I⟩
  replace c:=ga hs.1 c
  replace hs:=hs.tr0 R
  replace h:=h.step R
  refine od 5 (otx (od 2 (bE b fun L a5 b=>ocl 27 (znE (p0:=C.1) f a4 b9 c0.sl S (show ((b8,154003):Tag).1<_ from f.tlt) E (zl kr) a5) ?_)))
  rintro _ a7 ⟨U,c1,c2,e3,e4,rfl,V,M,e5,N⟩
  clear N
  replace hs:=hs.trM (zoV (ztE (ga c f.ge)) (ztD (S.own c))) U
  replace h:=h.step U
  replace f:=M
  refine dT 1 ?_
  refine zn (fun Z=>∀ (O:Bool) (g:Env),zaC a C L O=some z→cwp Tryz.prog 41 (sub (zB Tryz.f114) [1,1,1,0,0,1,0,0,1,0,1,1,1]) Z (ups g [(0,iv p0),(1,vl a2 p1 D),(6,iv a.1),(7,vl w a.2.1 y),(8,iv a.2.2),(10,iv C.2),(11,vl c1 L.1 c2),(36,.bool O)]) a7) ?_ fun J3=>?_
  ·intro O g b
   refine cc _ b ?_ ?_
   ·intro hc b
    refine cO 2 (otr (od 2 (oe (zd (zb ?_)))))
    exact zk eY (J2 C.2 L.1 _ _ _ _ hs I V b)
   intro hc b
   refine ck (zd (zb ?_))
   exact zk eY (J2 a.1 a.2.1 _ _ _ _ hs q h b)
  refine cO 2 ?_
  refine osp 30 (decide (a.1<0)) b ?_ ?_
  ·intro hg b
   refine od 4 (bE b fun c5 a8 b=>ocl 35 (zoG I V q h a8) ?_)
   rintro _ _ ⟨rfl,rfl⟩
   refine dT 1 ?_
   exact zk eY (J3 c5  _  b)
  intro hg b
  refine oz [31,32,33,34,35] (dT 1 ?_)
  exact zk eY (J3 true  _  b)
 intro hc b
 refine cx 0 (zh ?_)
 have hx:=Q _ (sj b).symm
 subst hx
 replace b:=P
 refine zi ?_
 exact zq eY (J1 a.1 a.2.1 _ _ _ _ hs q h b)
theorem zoE {e:K} {p0:LG×LT} {f g:Nat} {x y m:OA} {c2 z n:Nat} {p1:LP} {b c:Nat} {h:Int} (G:At e f g [vl x p0.1 c2,vl y p0.2 z]) (H:Sl tGlue e x c2 p0.1) (f6:Sl tTile e y z p0.2) (m1:At e b c [vl m p1 n]) (A:Sl tPlaced e m n p1) (p:I64 h) {r:Bool×Int} (a:zht p0 p1 h=some r) :
 Fn Tryz.prog 87 #[pt f g,pt b c,iv h] e (fun v B=>Step [] e B∧v=.tuple #[.bool r.1,iv r.2]∧I64 r.2):=by
 refine fnc 38 [] Tryz.func87 Tryz.ntmps87 fun hs=>cT 2 (cs (cx_ 14 [0,1,2,3,4,5,6,8,7,9,10,11,12,13] [7,9] 14 [] (xp 13 (pt b c) (xp 14 (pt b c) (xp 15 (pt b c) (x1 16 44 (vl m p1 n) (m1.step0 hs) 0 rfl (xp 17 (iv (p1.length:Int)) (xp 18 (pt f g) (xp 19 (pt b c) (xp 21 (iv h) (bE a fun N q a=>xcl 20 (zin ((G.step0 hs).part 0 2) H f6 ((m1.step0 hs).part 0 1) A q) ?_)))))))))))
 rintro _ I ⟨i,O,P,rfl,C⟩
 refine ⟨i,?_⟩
 replace hs:=hs.tr0 i
 refine bE a fun d s a=>xcl 22 (zoF (zgn A.most) C p s) ?_
 rintro _ J ⟨j,k,l,rfl,t,D⟩
 refine ⟨j,?_⟩
 replace hs:=hs.tr0 j
 refine xp 12 (.tuple #[iv d.1,vl k d.2 l]) (xp 23 (iv d.1) (xp 24 (vl k d.2 l) (xp 8 (iv d.1) (xe (dT 1 (cs (cT 2 ?_)))))))
 refine cc _ a ?_ ?_
 ·intro u a
  refine cT 2 (crt (zc ?_))
  obtain rfl:=sj a
  refine rt [.tmp 6,.tmp 7] [ff,iv 4] ⟨kr,kr,trivial⟩ ?_
  exact ⟨hs,rfl,(iK 4)⟩
 intro u a
 refine ckt (cs (cT 2 ?_))
 refine cc _ a ?_ ?_
 ·intro u a
  refine cT 2 (crt (zc ?_))
  obtain rfl:=sj a
  refine rt [.tmp 6,.tmp 7] [tt,iv 0] ⟨kr,kr,trivial⟩ ?_
  exact ⟨hs,rfl,(iK 0)⟩
 intro u a
 refine ckt (cO 2 (bE a fun E w a=>ocl 32 (zn3 t D w) ?_))
 rintro _ L ⟨F,Q,R,rfl,M,S⟩
 replace hs:=hs.tr0 F
 refine od 5 (otx (dT 5 (crt ?_)))
 obtain rfl:=sj a
 refine rt [.tmp 6,.tmp 7] [bW (E.1≥h),iv 0] ⟨kr,kr,trivial⟩ ?_
 exact ⟨hs,rfl,(iK 0)⟩
theorem znW {f:K} {p0:TS×(LP)×Int} {a b:Nat} {y z p:OA} {c2 A q:Nat} (e:At f a b [vl y p0.1.1 c2,vl z p0.1.2 A,vl p p0.2.1 q,iv p0.2.2]) (s:Sl tGlue f y c2 p0.1.1) (f6:Sl tTile f z A p0.1.2) (B:Sl tPlaced f p q p0.2.1) (i:I64 p0.2.2) {r:Bool} (c:zeh p0=some r) :
 Fn Tryz.prog 62 #[pt a b] f (fun v C=>Step [] f C∧v=.bool r):=by
 refine fnc 56 [] Tryz.func62 Tryz.ntmps62 fun hs=>cT 1 (cs ?_)
 refine zn (fun Z=>∀ (j:Bool) (D:Env) (g:K),Step [] f g→zeR p0 j=some r→cwp Tryz.prog 56 (sub (zB Tryz.f62) [1,0,1]) Z (ups D [(0,pt a b),(36,.bool j)]) g) ?_ fun k=>?_
 ·intro j D g hs c
  refine cc _ c ?_ ?_
  ·intro G c
   refine cT 1 (crt (zc ?_))
   obtain rfl:=sj c
   exact rT 2 ff ⟨hs,rfl⟩
  intro G c
  refine ckt (cs (cx_ 15 [0,1,2,3,4,5,6,7,8,9,10,11,12,13,14] [10] 15 [] (xp 38 (pt a b) (xp 39 (pt a b) (xp 40 (pt a b) (xp 41 (pt a b) (xp 42 (pt a b) (xp 43 (pt a (b+2)) (xp 44 (pt a b) (xp 45 (pt a b) (xp 46 (pt a (b+3)) (x1 47 2 (iv p0.2.2) (e.step0 hs) 3 rfl (bE c fun d t c=>xcl 48 (zoE ((e.step0 hs).part 0 2) (s.step hs) (f6.step hs) ((e.step0 hs).part 2 1) (B.step hs) i t) ?_)))))))))))))
  rintro _ H ⟨l,rfl,I⟩
  refine ⟨l,?_⟩
  replace hs:=hs.tr0 l
  refine xp 37 (.tuple #[.bool d.1,iv d.2]) (xp 49 (.bool d.1) (xp 50 (iv d.2) (xp 3 (.bool d.1) (xe (od 1 (otx (od 1 ?_)))))))
  refine osp 52 (d.1) c ?_ ?_
  ·intro h c
   refine oz [53,54] (dT 2 (crt ?_))
   obtain rfl:=sj c
   exact rT 2 ff ⟨hs,rfl⟩
  intro h c
  refine dT 4 (crt ?_)
  obtain rfl:=sj c
  exact rT 2 (bW (d.2=0)) ⟨hs,rfl⟩
 refine cs (cx_ 12 [0,1,2,3,4,5,6,7,8,9,10,11] [3] 12 [] (xp 5 (pt a b) (xp 6 (pt a b) (xp 7 (pt a b) (bE c fun m u c=>xcl 8 (znY ((e.step0 hs).part 0 2) s f6 u) ?_)))))
 rintro _ J ⟨n,rfl⟩
 refine ⟨n,?_⟩
 replace hs:=hs.tr0 n
 refine xp 9 (.bool (!m)) ?_
 refine xsp 10 (!m) c ?_ ?_
 ·intro h c
  refine xp 11 (pt a b) (xp 12 (pt a b) (xp 13 (pt a b) (xp 14 (pt a b) (xp 15 (pt a b) (xp 16 (pt a (b+2)) (xe (bE c fun E w c=>ocl 17 (zli ((e.step0 hs).part 0 2) (s.step hs) (f6.step hs) ((e.step0 hs).part 2 1) (B.step hs) w) ?_)))))))
  rintro _ L ⟨F,rfl⟩
  replace hs:=hs.tr0 F
  refine od 2 ?_
  refine osp 20 (!E) c ?_ ?_
  ·intro h c
   refine od 4 (o1 25 44 (vl p p0.2.1 q) ((e.step0 hs).one (o:=2) rfl) (od 3 ?_))
   refine osp 29 (decide ((p0.2.1.length:Int)=0)) c ?_ ?_
   ·intro h c
    refine od 3 (o1 33 2 (iv p0.2.2) ((e.step0 hs).one (o:=3) rfl) (bE c fun x23 x c=>ocl 34 (zl8 i x) ?_))
    rintro _ _ ⟨rfl,rfl⟩
    refine dT 2 ?_
    exact zk eY (k (!x23)  _ _ hs  c)
   intro h c
   refine oz [30,31,32,33,34,35] (dT 1 ?_)
   exact zk eY (k true  _ _ hs  c)
  intro h c
  refine oz [21,22,23,24,25,26,27] (od 2 (oz [30,31,32,33,34,35] (dT 1 ?_)))
  exact zk eY (k true  _ _ hs  c)
 intro h c
 refine xs 11 (xs 12 (xs 13 (xs 14 (xs 15 (xs 16 (xe (oz [17,18] (od 2 (oz [21,22,23,24,25,26,27] (od 2 (oz [30,31,32,33] ?_)))))))))))
 refine oz [34,35] (dT 1 ?_)
 exact zk eY (k true  _ _ hs  c)
theorem zpw {b:K} {p0:TS×(LP)×Int} {e f:Nat} {n p q g:OA} {c2 s t h:Nat} {p1:LP} {i j:Nat} (u:At b e f [vl n p0.1.1 c2,vl p p0.1.2 s,vl q p0.2.1 t,iv p0.2.2]) (w:Sl tGlue b n c2 p0.1.1) (f6:Sl tTile b p s p0.1.2) (F:Sl tPlaced b q t p0.2.1) (k:I64 p0.2.2) (m1:At b i j [vl g p1 h]) (x:Sl tPlaced b g h p1) {r:Int} (a:zlh p0 p1=some r) :
 Fn Tryz.prog 45 #[pt e f,pt i j] b (fun v y=>Step [] b y∧v=iv r∧I64 r):=by
 refine fnc 16 [] Tryz.func45 Tryz.ntmps45 fun hs=>cT 1 (cs ?_)
 refine zn (fun Z=>∀ (d:Bool) (z:Env) (c:K),Step [] b c→zfU d=some r→cwp Tryz.prog 16 (sub (zB Tryz.f45) [1,0,1]) Z (ups z [(15,.bool d)]) c) ?_ fun A=>?_
 ·intro d z c hs a
  refine cc _ a ?_ ?_
  ·intro G a
   refine cT 1 (crt (zc ?_))
   obtain rfl:=sj a
   exact rT 4 (iv 1) ⟨hs,rfl,(iK 1)⟩
  intro G a
  refine ckt (cT 1 (crt ?_))
  obtain rfl:=sj a
  exact rT 4 (iv 0) ⟨hs,rfl,(iK 0)⟩
 refine cO 1 (bE a fun B l a=>ocl 6 (znW ((u.step0 hs).part 0 4) w f6 F k l) ?_)
 rintro _ H ⟨C,rfl⟩
 replace hs:=hs.tr0 C
 refine od 1 ?_
 refine osp 8 (!B) a ?_ ?_
 ·intro I a
  refine od 4 (bE a fun D m a=>ocl 13 (zli ((u.step0 hs).part 0 2) (w.step hs) (f6.step hs) ((m1.step0 hs).part 0 1) (x.step hs) m) ?_)
  rintro _ J ⟨E,rfl⟩
  replace hs:=hs.tr0 E
  refine dT 2 ?_
  exact zk eY (A (!D)  _ _ hs  a)
 intro I a
 refine oz [9,10,11,12,13,14] (dT 1 ?_)
 exact zk eY (A true  _ _ hs  a)
theorem zoB {f:K} {p0:Int×LP×LP×LI×LM} {k l:Nat} {a2 i g d:OA} {m j h e:Nat} (c:At f k l [iv p0.1,vl a2 p0.2.1 m,vl i p0.2.2.1 j,vl g p0.2.2.2.1 h,vl d p0.2.2.2.2 e]) (p:I64 p0.1) (t:Sl tPlaced f a2 m p0.2.1) (u:Sl tPlaced f i j p0.2.2.1) (q:Sl tI64 f g h p0.2.2.2.1) (s:Sl (tSl tI64) f d e p0.2.2.2.2) {r:Bool} (a:zfp p0=some r) :
 Fn Tryz.prog 47 #[pt k l] f (fun v n=>f=n∧v=.bool r):=by
 refine fnc 63 [] Tryz.func47 Tryz.ntmps47 fun hs=>cO 1 (otx (od 3 (o1 7 2 (iv p0.1) ((c.step0 hs).one (o:=0) rfl) (od 2 (otx (od 1 ?_))))))
 refine osp 10 (decide (p0.1≤4)) a ?_ ?_
 ·intro b a
  refine od 3 (o1 14 49 (vl a2 p0.2.1 m) ((c.step0 hs).one (o:=1) rfl) (od 3 ?_))
  refine osp 18 (decide ((p0.2.1.length:Int)=0)) a ?_ ?_
  ·intro b a
   refine oz [19,20,21,22,23,24,25,26,27,28,29,30,31] (od 2 (oz [34,35,36,37,38,39,40,41,42] ?_))
   refine oz [43,44,45,46] (od 2 (oz [49,50,51,52,53,54,55,56,57,58,59,60,61] (dT 2 (crt ?_))))
   obtain rfl:=sj a
   exact rT 2 ff ⟨rfl,rfl⟩
  intro b a
  refine od 3 (o1 22 2 (iv p0.1) ((c.step0 hs).one (o:=0) rfl) (od 1 ?_))
  refine osp 24 (decide (p0.1=4)) a ?_ ?_
  ·intro b a
   refine od 3 (o1 28 49 (vl i p0.2.2.1 j) ((c.step0 hs).one (o:=2) rfl) (od 4 ?_))
   refine osp 33 (decide ((p0.2.2.1.length:Int)=0)) a ?_ ?_
   ·intro b a
    refine oz [34,35,36,37,38,39,40,41,42,43,44,45,46] (od 2 (oz [49,50,51,52,53,54,55,56,57] ?_))
    refine oz [58,59,60,61] (dT 2 (crt ?_))
    obtain rfl:=sj a
    exact rT 2 ff ⟨rfl,rfl⟩
   intro b a
   refine od 3 (o1 37 2 (iv p0.1) ((c.step0 hs).one (o:=0) rfl) (od 1 ?_))
   refine osp 39 (decide (p0.1=6)) a ?_ ?_
   ·intro b a
    refine od 3 (o1 43 32 (vl g p0.2.2.2.1 h) ((c.step0 hs).one (o:=3) rfl) (od 4 ?_))
    refine osp 48 (decide ((p0.2.2.2.1.length:Int)=0)) a ?_ ?_
    ·intro b a
     refine oz [49,50,51,52,53,54,55,56,57,58,59,60,61] (dT 2 (crt ?_))
     obtain rfl:=sj a
     exact rT 2 ff ⟨rfl,rfl⟩
    intro b a
    refine od 3 (o1 52 2 (iv p0.1) ((c.step0 hs).one (o:=0) rfl) (od 1 ?_))
    refine osp 54 (decide (p0.1=5)) a ?_ ?_
    ·intro b a
     refine od 3 (o1 58 33 (vl d p0.2.2.2.2 e) ((c.step0 hs).one (o:=4) rfl) (dT 5 (crt ?_)))
     obtain rfl:=sj a
     exact rT 2 (bW ((p0.2.2.2.2.length:Int)=0)) ⟨rfl,rfl⟩
    intro b a
    refine oz [55,56,57,58,59,60] (dT 3 (crt ?_))
    obtain rfl:=sj a
    exact rT 2 tt ⟨rfl,rfl⟩
   intro b a
   refine oz [40,41,42,43,44,45] (od 6 (o1 52 2 (iv p0.1) ((c.step0 hs).one (o:=0) rfl) (od 1 ?_)))
   refine osp 54 (decide (p0.1=5)) a ?_ ?_
   ·intro b a
    refine od 3 (o1 58 33 (vl d p0.2.2.2.2 e) ((c.step0 hs).one (o:=4) rfl) (dT 5 (crt ?_)))
    obtain rfl:=sj a
    exact rT 2 (bW ((p0.2.2.2.2.length:Int)=0)) ⟨rfl,rfl⟩
   intro b a
   refine oz [55,56,57,58,59,60] (dT 3 (crt ?_))
   obtain rfl:=sj a
   exact rT 2 tt ⟨rfl,rfl⟩
  intro b a
  refine oz [25,26,27,28,29,30] (od 6 (o1 37 2 (iv p0.1) ((c.step0 hs).one (o:=0) rfl) (od 1 ?_)))
  refine osp 39 (decide (p0.1=6)) a ?_ ?_
  ·intro b a
   refine od 3 (o1 43 32 (vl g p0.2.2.2.1 h) ((c.step0 hs).one (o:=3) rfl) (od 4 ?_))
   refine osp 48 (decide ((p0.2.2.2.1.length:Int)=0)) a ?_ ?_
   ·intro b a
    refine oz [49,50,51,52,53,54,55,56,57,58,59,60,61] (dT 2 (crt ?_))
    obtain rfl:=sj a
    exact rT 2 ff ⟨rfl,rfl⟩
   intro b a
   refine od 3 (o1 52 2 (iv p0.1) ((c.step0 hs).one (o:=0) rfl) (od 1 ?_))
   refine osp 54 (decide (p0.1=5)) a ?_ ?_
   ·intro b a
    refine od 3 (o1 58 33 (vl d p0.2.2.2.2 e) ((c.step0 hs).one (o:=4) rfl) (dT 5 (crt ?_)))
    obtain rfl:=sj a
    exact rT 2 (bW ((p0.2.2.2.2.length:Int)=0)) ⟨rfl,rfl⟩
   intro b a
   refine oz [55,56,57,58,59,60] (dT 3 (crt ?_))
   obtain rfl:=sj a
   exact rT 2 tt ⟨rfl,rfl⟩
  intro b a
  refine oz [40,41,42,43,44,45] (od 6 (o1 52 2 (iv p0.1) ((c.step0 hs).one (o:=0) rfl) (od 1 ?_)))
  refine osp 54 (decide (p0.1=5)) a ?_ ?_
  ·intro b a
   refine od 3 (o1 58 33 (vl d p0.2.2.2.2 e) ((c.step0 hs).one (o:=4) rfl) (dT 5 (crt ?_)))
   obtain rfl:=sj a
   exact rT 2 (bW ((p0.2.2.2.2.length:Int)=0)) ⟨rfl,rfl⟩
  intro b a
  refine oz [55,56,57,58,59,60] (dT 3 (crt ?_))
  obtain rfl:=sj a
  exact rT 2 tt ⟨rfl,rfl⟩
 intro b a
 refine oz [11,12,13,14,15,16] (od 5 (o1 22 2 (iv p0.1) ((c.step0 hs).one (o:=0) rfl) (od 1 ?_)))
 refine osp 24 (decide (p0.1=4)) a ?_ ?_
 ·intro b a
  refine od 3 (o1 28 49 (vl i p0.2.2.1 j) ((c.step0 hs).one (o:=2) rfl) (od 4 ?_))
  refine osp 33 (decide ((p0.2.2.1.length:Int)=0)) a ?_ ?_
  ·intro b a
   refine oz [34,35,36,37,38,39,40,41,42,43,44,45,46] (od 2 (oz [49,50,51,52,53,54,55,56,57] ?_))
   refine oz [58,59,60,61] (dT 2 (crt ?_))
   obtain rfl:=sj a
   exact rT 2 ff ⟨rfl,rfl⟩
  intro b a
  refine od 3 (o1 37 2 (iv p0.1) ((c.step0 hs).one (o:=0) rfl) (od 1 ?_))
  refine osp 39 (decide (p0.1=6)) a ?_ ?_
  ·intro b a
   refine od 3 (o1 43 32 (vl g p0.2.2.2.1 h) ((c.step0 hs).one (o:=3) rfl) (od 4 ?_))
   refine osp 48 (decide ((p0.2.2.2.1.length:Int)=0)) a ?_ ?_
   ·intro b a
    refine oz [49,50,51,52,53,54,55,56,57,58,59,60,61] (dT 2 (crt ?_))
    obtain rfl:=sj a
    exact rT 2 ff ⟨rfl,rfl⟩
   intro b a
   refine od 3 (o1 52 2 (iv p0.1) ((c.step0 hs).one (o:=0) rfl) (od 1 ?_))
   refine osp 54 (decide (p0.1=5)) a ?_ ?_
   ·intro b a
    refine od 3 (o1 58 33 (vl d p0.2.2.2.2 e) ((c.step0 hs).one (o:=4) rfl) (dT 5 (crt ?_)))
    obtain rfl:=sj a
    exact rT 2 (bW ((p0.2.2.2.2.length:Int)=0)) ⟨rfl,rfl⟩
   intro b a
   refine oz [55,56,57,58,59,60] (dT 3 (crt ?_))
   obtain rfl:=sj a
   exact rT 2 tt ⟨rfl,rfl⟩
  intro b a
  refine oz [40,41,42,43,44,45] (od 6 (o1 52 2 (iv p0.1) ((c.step0 hs).one (o:=0) rfl) (od 1 ?_)))
  refine osp 54 (decide (p0.1=5)) a ?_ ?_
  ·intro b a
   refine od 3 (o1 58 33 (vl d p0.2.2.2.2 e) ((c.step0 hs).one (o:=4) rfl) (dT 5 (crt ?_)))
   obtain rfl:=sj a
   exact rT 2 (bW ((p0.2.2.2.2.length:Int)=0)) ⟨rfl,rfl⟩
  intro b a
  refine oz [55,56,57,58,59,60] (dT 3 (crt ?_))
  obtain rfl:=sj a
  exact rT 2 tt ⟨rfl,rfl⟩
 intro b a
 refine oz [25,26,27,28,29,30] (od 6 (o1 37 2 (iv p0.1) ((c.step0 hs).one (o:=0) rfl) (od 1 ?_)))
 refine osp 39 (decide (p0.1=6)) a ?_ ?_
 ·intro b a
  refine od 3 (o1 43 32 (vl g p0.2.2.2.1 h) ((c.step0 hs).one (o:=3) rfl) (od 4 ?_))
  refine osp 48 (decide ((p0.2.2.2.1.length:Int)=0)) a ?_ ?_
  ·intro b a
   refine oz [49,50,51,52,53,54,55,56,57,58,59,60,61] (dT 2 (crt ?_))
   obtain rfl:=sj a
   exact rT 2 ff ⟨rfl,rfl⟩
  intro b a
  refine od 3 (o1 52 2 (iv p0.1) ((c.step0 hs).one (o:=0) rfl) (od 1 ?_))
  refine osp 54 (decide (p0.1=5)) a ?_ ?_
  ·intro b a
   refine od 3 (o1 58 33 (vl d p0.2.2.2.2 e) ((c.step0 hs).one (o:=4) rfl) (dT 5 (crt ?_)))
   obtain rfl:=sj a
   exact rT 2 (bW ((p0.2.2.2.2.length:Int)=0)) ⟨rfl,rfl⟩
  intro b a
  refine oz [55,56,57,58,59,60] (dT 3 (crt ?_))
  obtain rfl:=sj a
  exact rT 2 tt ⟨rfl,rfl⟩
 intro b a
 refine oz [40,41,42,43,44,45] (od 6 (o1 52 2 (iv p0.1) ((c.step0 hs).one (o:=0) rfl) (od 1 ?_)))
 refine osp 54 (decide (p0.1=5)) a ?_ ?_
 ·intro b a
  refine od 3 (o1 58 33 (vl d p0.2.2.2.2 e) ((c.step0 hs).one (o:=4) rfl) (dT 5 (crt ?_)))
  obtain rfl:=sj a
  exact rT 2 (bW ((p0.2.2.2.2.length:Int)=0)) ⟨rfl,rfl⟩
 intro b a
 refine oz [55,56,57,58,59,60] (dT 3 (crt ?_))
 obtain rfl:=sj a
 exact rT 2 tt ⟨rfl,rfl⟩
theorem zmV {c:K} {p0:LP} {n p:Nat} {k:OA} {c2:Nat} (C:At c n p [vl k p0 c2]) (D:Sl tPlaced c k c2 p0) {r:(LP)} (x:zdb p0=some r) :
 Fn Tryz.prog 123 #[pt n p] c (fun v q=>Step [] c q∧∃ (z:OA) (A:Nat),v=.agg #[vl z r A]∧Sl tPlaced q z A r):=by
 refine fnc 10 [] Tryz.func123 Tryz.ntmps123 fun hs=>csr (xT 2 46 (c.H.size,123001) hs.1 [sl none 0 0] fun E J F b=>?_)
 replace hs:=hs.tr0 F
 refine otx (zJ (d:=3) (T:=44) (e:=105) (t:=tPlaced) (pub:=true) (τ:=(c.H.size,123002)) (len:=0) (l:=[]) (parts:=#[]) (cs:=[]) kr kr kr kr hs.1 rfl rfl kr fun B G s g=>?_)
 replace hs:=hs.tr0 s
 replace b:=b.step0 s
 refine od 3 (o1 7 44 (vl k p0 c2) ((C.step0 hs).one (o:=0) rfl) (bE x fun h y x=>zH (d:=8) (T:=44) (e:=105) (t:=tPlaced) (pub:=true) (τ:=(c.H.size,123002)) (bytes:=24) (a:=B) (cp:=0) (l:=[]) (a2:=k) (c2:=c2) (l2:=p0) kr kr g (D.step hs) hs.1 kr y fun i j H u f hw=>?_))
 clear hw
 replace hs:=hs.trG (g.own (fz _)) u
 replace b:=b.step u (g.bn b (zl kr))
 refine od 1 (xM 46 [vl i h j] b fun I w _ m=>?_)
 replace hs:=hs.trB b.ge w
 replace f:=f.step w (f.nb b (zl kr))
 replace b:=m
 refine ot (crt ?_)
 obtain rfl:=sj x
 refine rt [.cell 2 46] [.agg #[vl i h j]] ⟨⟨E,0,[vl i h j],rfl,rfl,kr,kr,(b.at.part 0 1).2⟩,trivial⟩ ?_
 exact ⟨hs,_,_,rfl,f.sl⟩
theorem zlk {d:K} {p0:LP} {i j:Nat} {l:OA} {c2:Nat} {p1:Int×Int} (t:At d i j [vl l p0 c2]) (u:Sl tPlaced d l c2 p0) (w:I64 p1.1) (x:I64 p1.2) {r:Int} (a:zcD p0 p1=some r) :
 Fn Tryz.prog 120 #[pt i j,.agg #[iv p1.1,iv p1.2]] d (fun v y=>Step [] d y∧v=iv r∧I64 r):=by
 refine fnc 19 [] Tryz.func120 Tryz.ntmps120 fun hs=>csr (xO 3 103 (d.H.size,120001) hs.1 [iv p1.1,iv p1.2] fun J I D m=>?_)
 replace hs:=hs.tr0 D
 refine od 1 (otx (od 1 (oN 7 103 [iv p1.1,iv p1.2] (m.at.part 0 2).2 (bE a fun k n a=>ocl 8 (zfY ((t.step0 hs).part 0 1) (u.step hs) w x n) ?_))))
 rintro _ p ⟨z,rfl,E⟩
 replace hs:=hs.tr0 z
 refine dT 1 (cs (cT 2 ?_))
 refine cc _ a ?_ ?_
 ·intro F a
  refine cT 1 (crt (zc ?_))
  obtain rfl:=sj a
  exact rT 4 (iv (-1)) ⟨hs,rfl,(iK (-1))⟩
 intro F a
 refine ckt (cO 3 (o1 14 44 (vl l p0 c2) ((t.step0 hs).one (o:=0) rfl) (od 1 (bE a fun c q a=>?_))))
 obtain ⟨A,B,e,f,g,C,b,h⟩:=(u.step hs).idx q
 obtain ⟨_,_,rfl,⟨_,_,rfl,⟨rfl,G⟩,⟨rfl,H⟩⟩,⟨rfl,s⟩⟩:=h
 replace b:PubAt p A (B+k.toNat*3) [iv c.1.1,iv c.1.2,iv c.2]:=b
 refine oi 16 44 105 3 p0.length c2 .i64 k e f g (od 1 (o1 18 2 (iv c.2) (b.at.one (o:=2) rfl) (dT 1 (crt ?_))))
 obtain rfl:=sj a
 exact rT 4 (iv c.2) ⟨hs,rfl,s⟩
end Go.Lf
