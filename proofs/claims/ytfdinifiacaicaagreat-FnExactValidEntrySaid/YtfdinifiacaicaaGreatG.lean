import Derived.Test.YtfdinifiacaicaaGreatF
set_option linter.all false
set_option maxRecDepth 100000
set_option maxHeartbeats 4000000
namespace Go.Lf
open Go Go.Proofs
theorem zng {z:K} {p0:LM×LM} {h c2 B:Nat} {E:Tag} {a1 C:OA} {D:List Hd} {n:Tag} {p1:Int} {p2:Int} {R:Int} (d:Box E z h [vl a1 p0.1 c2,vl C p0.2 B] 256) (f3:Sl (tSl tI64) z a1 c2 p0.1) (f6:Mat tI64 false n z 32 2 C B D D p0.2) (G:n.1<z.H.size) (m2:I64 p1) (m3:I64 p2) (p5:I64 R) (k:E≠n) {r:Int×(LM×LM)} (f:zfi p0 p1 p2 R=some r) :
 Fn Tryz.prog 151 #[pt h 0,iv p1,iv p2,iv R] z (fun v p=>Step ([h]++mblk C B D) z p∧∃ (d9:OA) (e0:Nat) (e1:List Hd),v=iv r.1∧I64 r.1∧Box E p h [vl a1 p0.1 c2,vl d9 r.2.2 e0] 256∧Mat tI64 false n p 32 2 d9 e0 e1 e1 r.2.2∧(∀ g∈mblk d9 e0 e1,g∈([h]++mblk C B D)∨z.H.size≤g)):=by
 refine fnc 70 ([h]++mblk C B D) Tryz.func151 Tryz.ntmps151 fun hs=>?_
 have m4:=d.tlt
 have e2:=k.symm
 have f9:∀ g∈mblk C B D,g∈([h]++mblk C B D)∨z.H.size≤g:=fun g hg=>.inl (by simp [hg])
 refine cO 1 (otx (dT 1 (cb 0 (bE f fun x23 k5 g0=>zp (F:=zdu p0 p1 p2 R) (J:=fun l E' p=>∃ (b4:OA) (b5:Nat) (b6:List Hd),(∃ H,E'=ups H [(0,pt h 0),(1,iv p1),(2,iv p2),(3,iv R),(9,iv l.1)])∧Step ([h]++mblk C B D) z p∧I64 l.1∧Mat tI64 false n p 32 2 b4 b5 b6 b6 l.2∧(∀ g∈mblk b4 b5 b6,g∈([h]++mblk C B D)∨z.H.size≤g)∧Box E p h [vl a1 p0.1 c2,vl b4 l.2 b5] 256) (s0:=(0,p0.2)) (x:=x23) kr k5 ⟨_,_,_,⟨_,eY⟩,hs,(iK 0),f6,f9,d⟩ ?_))))
 rintro l _ p6 ⟨b4,b5,b6,⟨H,rfl⟩,hs,k7,Q,a6,d⟩ b7 f g1
 refine cs (cb 1 (cO 3 (bE f fun u k8 f=>?_)))
 obtain ⟨n9,b2,k9,sb,gb⟩:=Q.publish
 refine ocl 17 (Fn.lend b2 k9 (znO (p0:=(p0.1,l.2)) ((d.at.step sb (Q.bn d (k))).part 0 2) ((f3.step hs).step sb) gb.sl m2 m3 k8) (fun _ _ _ hR=>by obtain ⟨N,a,c,e,go,g,nl⟩:=hR;exact ⟨N,a,c,e,go,g.back (by rw [←b2];exact go),nl⟩)) ?_
 rintro _ l0 ⟨e3,m5,e4,I,rfl,w,m,d6⟩
 rw [b2] at w
 replace w:=ga hs.1 w
 replace hs:=hs.tr0 e3
 replace Q:=Q.step0 e3
 replace d:=d.step0 e3
 refine dT 1 (cs ?_)
 refine zn (fun Z=>∀ (e5:Bool) (H:Env),zbE p0 l u e5=some b7→cwp Tryz.prog 70 (sub (zB Tryz.f151) [1,0,1,0,0,0,0,1,1]) Z (ups H [(0,pt h 0),(1,iv p1),(2,iv p2),(3,iv R),(9,iv l.1),(10,vl e4 u I),(24,.bool e5)]) l0) ?_ fun J1=>?_
 ·intro e5 H f
  refine cc _ f ?_ ?_
  ·intro hc f
   refine cT 2 (crt (zc (zg (zc ?_))))
   have hx:=g1 _ (sj f).symm
   subst hx
   replace f:=g0
   refine zv (zg ?_)
   obtain rfl:=sj f
   exact rT 8 (iv l.1) ⟨hs,_,_,_,rfl,k7,d,Q,a6⟩
  intro hc f
  refine ckt (cT 1 (cb 2 ?_))
  refine zj 2 (fun Z=>∀ (b8:LM) (b9:OA) (c0:Nat) (c1:List Hd) (H:Env) (L:K) (hs:Step ([h]++mblk C B D) z L) (j9:Mat tI64 false n L 32 2 b9 c0 c1 c1 b8) (a7:(∀ g∈mblk b9 c0 c1,g∈([h]++mblk C B D)∨z.H.size≤g)) (d:Box E L h [vl a1 p0.1 c2,vl b9 b8 c0] 256),zfF l b8=some b7→Z (ups H [(0,pt h 0),(1,iv p1),(2,iv p2),(3,iv R),(9,iv l.1)]) L) ?_ fun J2=>?_
  ·intro b8 b9 c0 c1 H L hs j9 a7 d f
   refine zf (zd (zb (cr (od 3 (oe ?_)))))
   exact ze (sj f).symm ⟨_,_,_,⟨_,eY⟩,hs,(zr _),j9,a7,d⟩
  refine bE f fun m7 l2 g2=>zp (F:=zbD u) (J:=fun j E' p=>∃ (y:OA) (q:Nat) (c3:List Hd),(∃ H,E'=ups H [(0,pt h 0),(1,iv p1),(2,iv p2),(3,iv R),(9,iv l.1),(10,vl e4 u I),(11,iv j.1)])∧Step ([h]++mblk C B D) z p∧I64 j.1∧Mat tI64 false n p 32 2 y q c3 c3 j.2∧(∀ g∈mblk y q c3,g∈([h]++mblk C B D)∨z.H.size≤g)∧Gr tI64 false (m5,164003) p 3 e4 I u∧Box E p h [vl a1 p0.1 c2,vl y j.2 q] 256) (s0:=(1,l.2)) (x:=m7) kr l2 ⟨_,_,_,⟨_,eY⟩,hs,(iK 1),Q,a6,m,d⟩ ?_
  rintro j _ S ⟨y,q,c3,⟨H,rfl⟩,hs,p8,s,A,m,d⟩ o0 f g3
  refine cs (cT 4 ?_)
  refine cc _ f ?_ ?_
  ·intro hc f
   refine ckt (cs (cb 3 (cs (cd 15 (dd 3 (d1 35 33 (vl y j.2 q) (d.at.one (o:=1) rfl) (dd 3 (bE f fun e6 l3 f=>?_))))))))
   obtain ⟨m8,g4,g5,g6,o2,U,g7⟩:=m.idx l3
   obtain ⟨rfl,p9⟩:=g7
   replace U:At S m8 (0+(w64 (j.1 - 1)).toNat*1) [iv e6]:=U
   refine di 39 257 3 1 u.length I .i64 (w64 (j.1 - 1)) (off:=0) g4 g5 g6 (d1 40 3 (iv e6) (U.one (o:=0) rfl) (bE f fun e7 e8 f=>?_))
   obtain ⟨q7,m9,e9,g8,g9,h0,c4,h1,k0⟩:=s.idx e8
   refine di 41 33 32 1 j.2.length q .i64 e6 (off:=0) g8 g9 h0 (d1 42 32 (vl m9 e7 e9) (h1.one (o:=0) rfl) (dd 2 (bE f fun M l4 f=>?_)))
   obtain ⟨n0,h2,h3,h4,o3,V,h5⟩:=m.idx l4
   obtain ⟨rfl,q0⟩:=h5
   replace V:At S n0 (0+j.1.toNat*1) [iv M]:=V
   refine di 45 257 3 1 u.length I .i64 j.1 (off:=0) h2 h3 h4 (d1 46 3 (iv M) (V.one (o:=0) rfl) (de (bE f fun a8 l5 f=>?_)))
   obtain ⟨n1,h6,h7,h8,o4,X,h9⟩:=k0.idx l5
   obtain ⟨rfl,q1⟩:=h9
   replace X:At S n1 (0+M.toNat*1) [iv a8]:=X
   refine oi 47 32 2 1 e7.length e9 .i64 M (off:=0) h6 h7 h8 (o1 48 2 (iv a8) (X.one (o:=0) rfl) (od 1 (bE f fun n2 l6 f=>?_)))
   obtain ⟨k1,c6,c7,c8,o5,c9,i0⟩:=k0.idx l6
   obtain ⟨rfl,q2⟩:=i0
   replace c9:At S k1 (0+M.toNat*1) [iv n2]:=c9
   refine oi 50 32 2 1 e7.length e9 .i64 M (off:=0) c6 c7 c8 (bE f fun f0 f1 f=>zoS (T:=2) (t:=tI64) (jx:=M) (x':=w64 (a8+1)) (b:=k1) (δ:=0) (vs:=[iv (w64 (a8+1))]) (iv (w64 (a8+1))) kr kr c6 s c4 (zsR e8) c7 c8 kr kr kr kr (fun cs hx=>by obtain ⟨x,_,ho⟩:=hx;rw [zM ((tI64.len ho).trans kr)];exact ⟨rfl,(zr _)⟩) fun O a9 b3=>?_)
   replace a9:=a9.mono (zgc (a:=y) (c:=q) c4)
   replace hs:=hs.trM A a9
   replace m:=m.step a9 (m.ngm s (zjh (i:=164003) (gd G w)))
   replace d:=d.step a9 (s.bn d (k))
   replace s:=zmd f1 b3
   have d7:=zL f1
   replace d:Box E O h [vl a1 p0.1 c2,vl y f0 q] 256:=by unfold vl;rw [d7];exact d
   refine ot (cd 15 (dd 3 (d1 54 33 (vl y f0 q) (d.at.one (o:=1) rfl) (dd 2 (bE f fun f2 l7 f=>?_)))))
   obtain ⟨n3,i1,i2,i3,o6,Y,i4⟩:=m.idx l7
   obtain ⟨rfl,q3⟩:=i4
   replace Y:At O n3 (0+j.1.toNat*1) [iv f2]:=Y
   refine di 57 257 3 1 u.length I .i64 j.1 (off:=0) i1 i2 i3 (d1 58 3 (iv f2) (Y.one (o:=0) rfl) (bE f fun f4 f5 f=>?_))
   obtain ⟨q8,n4,f7,i5,i6,i7,d0,i8,k2⟩:=s.idx f5
   refine di 59 33 32 1 f0.length q .i64 f2 (off:=0) i5 i6 i7 (d1 60 32 (vl n4 f4 f7) (i8.one (o:=0) rfl) (dd 3 (bE f fun P l8 f=>?_)))
   obtain ⟨n5,i9,j1,j2,o7,a0,j3⟩:=m.idx l8
   obtain ⟨rfl,q4⟩:=j3
   replace a0:At O n5 (0+(w64 (j.1 - 1)).toNat*1) [iv P]:=a0
   refine di 64 257 3 1 u.length I .i64 (w64 (j.1 - 1)) (off:=0) i9 j1 j2 (d1 65 3 (iv P) (a0.one (o:=0) rfl) (de (bE f fun b0 l9 f=>?_)))
   obtain ⟨n6,j4,j5,j6,o8,a2,j7⟩:=k2.idx l9
   obtain ⟨rfl,q5⟩:=j7
   replace a2:At O n6 (0+P.toNat*1) [iv b0]:=a2
   refine oi 66 32 2 1 f4.length f7 .i64 P (off:=0) j4 j5 j6 (o1 67 2 (iv b0) (a2.one (o:=0) rfl) (od 1 (bE f fun n7 m0 f=>?_)))
   obtain ⟨k3,d2,d3,d4,o9,d5,j8⟩:=k2.idx m0
   obtain ⟨rfl,q6⟩:=j8
   replace d5:At O k3 (0+P.toNat*1) [iv n7]:=d5
   refine oi 69 32 2 1 f4.length f7 .i64 P (off:=0) d2 d3 d4 (bE f fun n8 f8 f=>zoS (T:=2) (t:=tI64) (jx:=P) (x':=w64 (b0 - 1)) (b:=k3) (δ:=0) (vs:=[iv (w64 (b0 - 1))]) (iv (w64 (b0 - 1))) kr kr d2 s d0 (zsR f5) d3 d4 kr kr kr kr (fun cs hx=>by obtain ⟨x,_,ho⟩:=hx;rw [zM ((tI64.len ho).trans kr)];exact ⟨rfl,(zr _)⟩) fun m1 b1 b3=>?_)
   replace b1:=b1.mono (zgc (a:=y) (c:=q) d0)
   replace hs:=hs.trM A b1
   replace m:=m.step b1 (m.ngm s (zjh (i:=164003) (gd G w)))
   replace d:=d.step b1 (s.bn d (k))
   replace s:=zmd f8 b3
   have d8:=zL f8
   replace d:Box E m1 h [vl a1 p0.1 c2,vl y n8 q] 256:=by unfold vl;rw [d8];exact d
   refine oe (zd (zb (cr (od 3 (oe ?_)))))
   exact ze (sj f).symm ⟨_,_,_,⟨_,eY⟩,hs,(zr _),s,A,m,d⟩
  intro hc f
  refine cx 2 (zh ?_)
  have hx:=g3 _ (sj f).symm
  subst hx
  replace f:=g2
  refine zi ?_
  exact zq eY (J2 j.2 _ _ _ _ _ hs s A d f)
 refine cO 1 (oq 19 (bW (u=[])) (fun _=>zvh m d6 (T:=257) (e:=3) kr kr) ?_)
 refine osp 20 (decide (u=[])) f ?_ ?_
 ·intro hg f
  refine dT 4 ?_
  exact zk eY (J1 (decide (l.1≥R))  _  f)
 intro hg f
 refine oz [21,22,23] (dT 1 ?_)
 exact zk eY (J1 true  _  f)
theorem zrO {d:K} {p0:Int} {p1:LB} {a2:OA} {p:Nat} {e:Int} (u:I64 p0) (G:Sl zT d a2 p p1) (w:I64 e) {r:Bool} (a:zmq p0 p1 e=some r) :
 Fn Tryz.prog 135 #[iv p0,vl a2 p1 p,iv e] d (fun v f=>Step [] d f∧v=.bool r):=by
 refine fnc 21 [] Tryz.func135 Tryz.ntmps135 fun hs=>cT 1 (cs (cT 1 (cb 0 ?_)))
 refine zj 0 (fun Z=>∀ (g:Env) (h:K),Step [] d h→znZ=some r→Z (g) h) ?_ fun H=>?_
 ·intro g h hs a
  refine zf (zb (cT 1 (crt ?_)))
  obtain rfl:=sj a
  exact rT 6 tt ⟨hs,rfl⟩
 refine bE a fun I y i=>zp (F:=ziZ p0 p1 e) (J:=fun j L f=>(∃ g,L=ups g [(0,iv p0),(1,vl a2 p1 p),(2,iv e),(7,iv j)])∧Step [] d f∧I64 j) (s0:=1) (x:=I) kr y ⟨⟨_,eY⟩,hs,(iK 1)⟩ ?_
 rintro j _ M ⟨⟨g,rfl⟩,hs,z⟩ N a k
 refine cs (cT 3 ?_)
 refine cc _ a ?_ ?_
 ·intro q a
  refine ckt (cs (cb 1 (cO 2 (bE a fun A s a=>ocl 15 (zo8 u (G.step hs) s) ?_))))
  rintro _ O ⟨B,R,C,S,T,U,V,X,rfl,b,c,D,n⟩
  replace b:=ga hs.1 b
  replace hs:=hs.tr0 B
  refine od 2 (bE a fun x23 t a=>ocl 18 (zng (p0:=A) c D.sl n (show ((C,150007):Tag).1<_ from c.tlt) (iK 0) z w (zl kr) t) ?_)
  rintro _ P ⟨E,Y,a0,a1,rfl,Q,l,a3,m⟩
  clear m
  replace hs:=hs.trM (zoV (ztE (ga b c.ge)) (ztD (n.own b))) E
  replace c:=l
  refine dT 2 ?_
  refine cc _ a ?_ ?_
  ·intro q a
   refine cT 1 (crt (zg (zc ?_)))
   have hx:=k _ (sj a).symm
   subst hx
   replace a:=i
   refine zv (zg (zc ?_))
   obtain rfl:=sj a
   exact rT 6 ff ⟨hs,rfl⟩
  intro q a
  refine ck (zd (zb (cr (od 3 (oe ?_)))))
  exact ze (sj a).symm ⟨⟨_,eY⟩,hs,(zr _)⟩
 intro q a
 refine cx 0 (zh ?_)
 have hx:=k _ (sj a).symm
 subst hx
 replace a:=i
 refine zi ?_
 exact zq rfl (H   _ _ hs  a)
theorem zmu {c:K} {p0:LG×LT} {h i e:OA} {c2 j f:Nat} {p1:LP} {k:Int} (F:Sl tGlue c h c2 p0.1) (f6:Sl tTile c i j p0.2) (x:Sl tPlaced c e f p1) (g:I64 k) {r:Bool×Bool} (a:zdP p0 p1 k=some r) :
 Fn Tryz.prog 104 #[.agg #[vl h p0.1 c2,vl i p0.2 j],.agg #[vl e p1 f],iv k] c (fun v y=>Step [] c y∧v=.tuple #[.bool r.1,.bool r.2]):=by
 refine fnc 27 [] Tryz.func104 Tryz.ntmps104 fun hs=>csr (xO 3 43 (c.H.size,104001) hs.1 [vl h p0.1 c2,vl i p0.2 j] fun N G z b=>?_)
 replace hs:=hs.tr0 z
 refine xO 4 46 (c.H.size,104002) hs.1 [vl e p1 f] fun A H l d=>?_
 replace hs:=hs.tr0 l
 replace b:=b.step0 l
 refine dT 2 (cs (cx_ 12 [0,1,2,3,4,6,5,7,8,9,10,11] [5,7] 12 [] (xp 11 (pt A 0) (x1 12 44 (vl e p1 f) d.at 0 rfl (xp 13 (iv (p1.length:Int)) (xN 14 43 [vl h p0.1 c2,vl i p0.2 j] b.at 0 2 rfl (xN 15 46 [vl e p1 f] d.at 0 1 rfl (xp 17 (iv k) (bE a fun O s a=>xcl 16 (ze5 (F.step hs) (f6.step hs) (x.step hs) s) ?_)))))))))
 rintro _ I ⟨m,P,Q,rfl,B⟩
 refine ⟨m,?_⟩
 replace hs:=hs.tr0 m
 refine bE a fun x23 t a=>xcl 18 (zoh (zgn (x.step hs).most) B g t) ?_
 rintro _ J ⟨n,p,q,rfl,u,C⟩
 refine ⟨n,?_⟩
 replace hs:=hs.tr0 n
 refine xp 10 (.tuple #[iv x23.1,vl p x23.2 q]) (xp 19 (iv x23.1) (xp 20 (vl p x23.2 q) (xp 8 (iv x23.1) (xe (dT 1 (cs (cT 2 ?_)))))))
 refine cc _ a ?_ ?_
 ·intro L a
  refine cT 2 (crt (zc ?_))
  obtain rfl:=sj a
  refine rt [.tmp 6,.tmp 7] [ff,ff] ⟨kr,kr,trivial⟩ ?_
  exact ⟨hs,rfl⟩
 intro L a
 refine ckt (cO 3 (bE a fun D w a=>ocl 26 (zrO u C g w) ?_))
 rintro _ M ⟨E,rfl⟩
 replace hs:=hs.tr0 E
 refine dT 2 (crt ?_)
 obtain rfl:=sj a
 refine rt [.tmp 6,.tmp 7] [.bool D,tt] ⟨kr,kr,trivial⟩ ?_
 exact ⟨hs,rfl⟩
theorem zpX {d:K} {p0:LG×LT} {e f g:OA} {c2 h i:Nat} {p1:LP} {n:Int} (t:Sl tGlue d e c2 p0.1) (f6:Sl tTile d f h p0.2) (u:Sl tPlaced d g i p1) (j:I64 n) {r:Bool×Int} (a:zlE p0 p1 n=some r) :
 Fn Tryz.prog 73 #[.agg #[vl e p0.1 c2,vl f p0.2 h],.agg #[vl g p1 i],iv n] d (fun v w=>Step [] d w∧v=.tuple #[.bool r.1,iv r.2]∧I64 r.2):=by
 refine fnc 29 [] Tryz.func73 Tryz.ntmps73 fun hs=>csr (xO 3 43 (d.H.size,73001) hs.1 [vl e p0.1 c2,vl f p0.2 h] fun D z x b=>?_)
 replace hs:=hs.tr0 x
 refine xO 4 46 (d.H.size,73002) hs.1 [vl g p1 i] fun E A m c=>?_
 replace hs:=hs.tr0 m
 replace b:=b.step0 m
 refine dT 2 (cs (cb 0 (csr (oN 11 43 [vl e p0.1 c2,vl f p0.2 h] (b.at.part 0 2).2 (oN 12 46 [vl g p1 i] (c.at.part 0 1).2 (bE a fun F p a=>ocl 13 (zcP (t.step hs) (f6.step hs) (u.step hs) p) ?_))))))
 rintro _ B ⟨k,rfl⟩
 replace hs:=hs.tr0 k
 replace b:=b.step0 k
 replace c:=c.step0 k
 refine dT 2 ?_
 refine cc _ a ?_ ?_
 ·intro l a
  refine cT 2 (crt (zg (zc ?_)))
  obtain rfl:=sj a
  refine rt [.tmp 6,.tmp 7] [ff,iv 1] ⟨kr,kr,trivial⟩ ?_
  exact ⟨hs,rfl,(iK 1)⟩
 intro l a
 refine cO 1 (bE a fun G q a=>ocl 17 (zmK j q) ?_)
 rintro _ _ ⟨rfl,rfl⟩
 refine dT 2 ?_
 refine cc _ a ?_ ?_
 ·intro l a
  refine cT 2 (crt (zg (zc ?_)))
  obtain rfl:=sj a
  refine rt [.tmp 6,.tmp 7] [ff,iv 2] ⟨kr,kr,trivial⟩ ?_
  exact ⟨hs,rfl,(iK 2)⟩
 intro l a
 refine ck (zd (zb (csr (oN 20 43 [vl e p0.1 c2,vl f p0.2 h] (b.at.part 0 2).2 (oN 21 46 [vl g p1 i] (c.at.part 0 1).2 (od 1 (bE a fun x23 s a=>ocl 23 (zmu (t.step hs) (f6.step hs) (u.step hs) j s) ?_)))))))
 rintro _ C ⟨y,rfl⟩
 replace hs:=hs.tr0 y
 refine dT 5 (cs (cT 2 ?_))
 refine cc _ a ?_ ?_
 ·intro l a
  refine cT 2 (crt (zc ?_))
  obtain rfl:=sj a
  refine rt [.tmp 6,.tmp 7] [ff,iv 4] ⟨kr,kr,trivial⟩ ?_
  exact ⟨hs,rfl,(iK 4)⟩
 intro l a
 refine ckt (cT 3 (crt ?_))
 obtain rfl:=sj a
 refine rt [.tmp 6,.tmp 7] [.bool x23.1,iv 0] ⟨kr,kr,trivial⟩ ?_
 exact ⟨hs,rfl,(iK 0)⟩
theorem zjG {c:K} {p0:TS×(LP)×Int} {f g d:OA} {c2 h e:Nat} (p:Sl tGlue c f c2 p0.1.1) (f6:Sl tTile c g h p0.1.2) (q:Sl tPlaced c d e p0.2.1) (j:I64 p0.2.2) {r:Bool} (b:zar p0=some r) :
 Fn Tryz.prog 53 #[.agg #[vl f p0.1.1 c2,vl g p0.1.2 h,vl d p0.2.1 e,iv p0.2.2]] c (fun v l=>Step [] c l∧v=.bool r):=by
 refine fnc 25 [] Tryz.func53 Tryz.ntmps53 fun hs=>csr (xO 1 48 (c.H.size,53001) hs.1 [vl f p0.1.1 c2,vl g p0.1.2 h,vl d p0.2.1 e,iv p0.2.2] fun y s m a=>?_)
 replace hs:=hs.tr0 m
 refine dT 1 (cs (cO 2 (o1 7 44 (vl d p0.2.1 e) (a.at.one (o:=2) rfl) (dT 2 ?_))))
 refine cc _ b ?_ ?_
 ·intro t b
  refine cT 1 (crt (zc ?_))
  obtain rfl:=sj b
  exact rT 2 ff ⟨hs,rfl⟩
 intro t b
 refine ckt (cO 1 (oN 12 43 [vl f p0.1.1 c2,vl g p0.1.2 h] (a.at.part 0 2).2 (od 1 (oN 14 46 [vl d p0.2.1 e] (a.at.part 2 1).2 (od 1 (o1 16 2 (iv p0.2.2) (a.at.one (o:=3) rfl) (bE b fun i k b=>ocl 17 (zpX (p.step hs) (f6.step hs) (q.step hs) j k) ?_)))))))
 rintro _ u ⟨n,rfl,w⟩
 replace hs:=hs.tr0 n
 refine od 5 (otx (od 1 ?_))
 refine osp 21 (i.1) b ?_ ?_
 ·intro x b
  refine oz [22,23] (dT 2 (crt ?_))
  obtain rfl:=sj b
  exact rT 2 ff ⟨hs,rfl⟩
 intro x b
 refine dT 4 (crt ?_)
 obtain rfl:=sj b
 exact rT 2 (bW (i.2=0)) ⟨hs,rfl⟩
theorem zof {c:K} {p0:TS×(LP)×Int} {h i m f:OA} {c2 j n g:Nat} {p1:LP} (u:Sl tGlue c h c2 p0.1.1) (f6:Sl tTile c i j p0.1.2) (D:Sl tPlaced c m n p0.2.1) (q:I64 p0.2.2) (w:Sl tPlaced c f g p1) {r:Int} (b:zjx p0 p1=some r) :
 Fn Tryz.prog 33 #[.agg #[vl h p0.1.1 c2,vl i p0.1.2 j,vl m p0.2.1 n,iv p0.2.2],.agg #[vl f p1 g]] c (fun v x=>Step [] c x∧v=iv r∧I64 r):=by
 refine fnc 15 [] Tryz.func33 Tryz.ntmps33 fun hs=>csr (xO 2 48 (c.H.size,33001) hs.1 [vl h p0.1.1 c2,vl i p0.1.2 j,vl m p0.2.1 n,iv p0.2.2] fun L E y a=>?_)
 replace hs:=hs.tr0 y
 refine xO 3 46 (c.H.size,33002) hs.1 [vl f p1 g] fun M F p d=>?_
 replace hs:=hs.tr0 p
 replace a:=a.step0 p
 refine dT 1 (cs ?_)
 refine zn (fun Z=>∀ (k:Bool) (z:Env) (e:K),Step [] c e→zew k=some r→cwp Tryz.prog 15 (sub (zB Tryz.f33) [1,0,1]) Z (ups z [(14,.bool k)]) e) ?_ fun A=>?_
 ·intro k z e hs b
  refine cc _ b ?_ ?_
  ·intro G b
   refine cT 1 (crt (zc ?_))
   obtain rfl:=sj b
   exact rT 4 (iv 1) ⟨hs,rfl,(iK 1)⟩
  intro G b
  refine ckt (cT 1 (crt ?_))
  obtain rfl:=sj b
  exact rT 4 (iv 0) ⟨hs,rfl,(iK 0)⟩
 refine csr (oN 5 48 [vl h p0.1.1 c2,vl i p0.1.2 j,vl m p0.2.1 n,iv p0.2.2] (a.at.part 0 4).2 (bE b fun x23 s b=>ocl 6 (zjG (u.step hs) (f6.step hs) (D.step hs) q s) ?_))
 rintro _ H ⟨l,rfl⟩
 replace hs:=hs.tr0 l
 replace a:=a.step0 l
 replace d:=d.step0 l
 refine od 1 ?_
 refine osp 8 (!x23) b ?_ ?_
 ·intro I b
  refine od 1 (oN 10 43 [vl h p0.1.1 c2,vl i p0.1.2 j] (a.at.part 0 2).2 (oN 11 46 [vl f p1 g] (d.at.part 0 1).2 (bE b fun B t b=>ocl 12 (zcP (u.step hs) (f6.step hs) (w.step hs) t) ?_)))
  rintro _ J ⟨C,rfl⟩
  replace hs:=hs.tr0 C
  refine dT 2 ?_
  exact zk eY (A (!B)  _ _ hs  b)
 intro I b
 refine oz [9,10,11,12,13] (dT 1 ?_)
 exact zk eY (A true  _ _ hs  b)
theorem zkj {g:K} {p0:LP} {z A:OA} {c2 m:Nat} {p1:LP} (N:Sl tPlaced g z c2 p0) (f6:Sl tPlaced g A m p1) {r:Bool} (a:zeE p0 p1=some r) :
 Fn Tryz.prog 79 #[vl z p0 c2,vl A p1 m] g (fun v h=>g=h∧v=.bool r):=by
 refine fnc 26 [] Tryz.func79 Tryz.ntmps79 fun hs=>cT 1 (cs (cT 5 ?_))
 refine cc _ a ?_ ?_
 ·intro i a
  refine cT 1 (crt (zc ?_))
  obtain rfl:=sj a
  exact rT 4 ff ⟨rfl,rfl⟩
 intro i a
 refine ckt (cs (cT 3 (cb 0 ?_)))
 refine zj 0 (fun Z=>∀ (j:Env),zg8=some r→Z (j) g) ?_ fun O=>?_
 ·intro j a
  refine zf (zb (cT 1 (crt ?_)))
  obtain rfl:=sj a
  exact rT 4 tt ⟨rfl,rfl⟩
 refine bE a fun P D k=>zp (F:=zg7 p0 p1) (J:=fun d Q h=>(∃ j,Q=ups j [(0,vl z p0 c2),(1,vl A p1 m),(12,iv (p0.length:Int)),(13,iv d)])∧g=h∧I64 d) (s0:=0) (x:=P) kr D ⟨⟨_,eY⟩,rfl,(iK 0)⟩ ?_
 rintro d _ _ ⟨⟨j,rfl⟩,rfl,a2⟩ R a l
 refine cT 1 (cs ?_)
 refine cc _ a ?_ ?_
 ·intro i a
  refine ckt (cs (cb 1 (cT 2 (cs (cd 8 (dd 2 (bE a fun b B a=>?_)))))))
  obtain ⟨E,G,n,p,q,L,e,s⟩:=N.idx B
  obtain ⟨_,_,rfl,⟨_,_,rfl,⟨rfl,S⟩,⟨rfl,U⟩⟩,⟨rfl,V⟩⟩:=s
  replace e:PubAt g E (G+d.toNat*3) [iv b.1.1,iv b.1.2,iv b.2]:=e
  refine di 18 49 110 3 p0.length c2 .i64 d n p q (dN 19 110 [iv b.1.1,iv b.1.2,iv b.2] (e.at.part 0 3).2 (dd 2 (bE a fun c C a=>?_)))
  obtain ⟨H,I,t,u,w,M,f,y⟩:=f6.idx C
  obtain ⟨_,_,rfl,⟨_,_,rfl,⟨rfl,X⟩,⟨rfl,Y⟩⟩,⟨rfl,a0⟩⟩:=y
  replace f:PubAt g H (I+d.toNat*3) [iv c.1.1,iv c.1.2,iv c.2]:=f
  refine di 22 49 110 3 p1.length m .i64 d t u w (dN 23 110 [iv c.1.1,iv c.1.2,iv c.2] (f.at.part 0 3).2 (de (oq 24 (.bool (!((decide (b.1.1=c.1.1)&&decide (b.1.2=c.1.2))&&decide (b.2=c.2)))) (fun _=>zn7 (T:=110) (k1:=.i64) (k2:=.i64) (k3:=.i64) kr kr) (ot ?_))))
  refine cc _ a ?_ ?_
  ·intro i a
   refine cT 1 (crt (zg (zc ?_)))
   have hx:=l _ (sj a).symm
   subst hx
   replace a:=k
   refine zv (zg (zc ?_))
   obtain rfl:=sj a
   exact rT 4 ff ⟨rfl,rfl⟩
  intro i a
  refine ck (zd (zb (cr (od 2 (oe ?_)))))
  exact ze (sj a).symm ⟨⟨_,eY⟩,rfl,(zr _)⟩
 intro i a
 refine cx 0 (zh ?_)
 have hx:=l _ (sj a).symm
 subst hx
 replace a:=k
 refine zi ?_
 exact zq rfl (O   _  a)
theorem zki {e:K} {p0:LI} {z A:OA} {c2 k:Nat} {p1:LI} (N:Sl tI64 e z c2 p0) (f6:Sl tI64 e A k p1) {r:Bool} (a:zeD p0 p1=some r) :
 Fn Tryz.prog 80 #[vl z p0 c2,vl A p1 k] e (fun v f=>e=f∧v=.bool r):=by
 refine fnc 26 [] Tryz.func80 Tryz.ntmps80 fun hs=>cT 1 (cs (cT 5 ?_))
 refine cc _ a ?_ ?_
 ·intro g a
  refine cT 1 (crt (zc ?_))
  obtain rfl:=sj a
  exact rT 4 ff ⟨rfl,rfl⟩
 intro g a
 refine ckt (cs (cT 3 (cb 0 ?_)))
 refine zj 0 (fun Z=>∀ (h:Env),zg6=some r→Z (h) e) ?_ fun O=>?_
 ·intro h a
  refine zf (zb (cT 1 (crt ?_)))
  obtain rfl:=sj a
  exact rT 4 tt ⟨rfl,rfl⟩
 refine bE a fun P D i=>zp (F:=zg5 p0 p1) (J:=fun b Q f=>(∃ h,Q=ups h [(0,vl z p0 c2),(1,vl A p1 k),(12,iv (p0.length:Int)),(13,iv b)])∧e=f∧I64 b) (s0:=0) (x:=P) kr D ⟨⟨_,eY⟩,rfl,(iK 0)⟩ ?_
 rintro b _ _ ⟨⟨h,rfl⟩,rfl,U⟩ R a j
 refine cT 1 (cs ?_)
 refine cc _ a ?_ ?_
 ·intro g a
  refine ckt (cs (cb 1 (cT 2 (cs (cd 8 (dd 2 (bE a fun w B a=>?_)))))))
  obtain ⟨E,G,l,m,n,L,c,p⟩:=N.idx B
  obtain ⟨rfl,S⟩:=p
  replace c:PubAt e E (G+b.toNat*1) [iv w]:=c
  refine di 18 32 2 1 p0.length c2 .i64 b l m n (d1 19 2 (iv w) (c.at.one (o:=0) rfl) (dd 2 (bE a fun y C a=>?_)))
  obtain ⟨H,I,q,s,t,M,d,u⟩:=f6.idx C
  obtain ⟨rfl,T⟩:=u
  replace d:PubAt e H (I+b.toNat*1) [iv y]:=d
  refine di 22 32 2 1 p1.length k .i64 b q s t (d1 23 2 (iv y) (d.at.one (o:=0) rfl) (de (dT 1 ?_)))
  refine cc _ a ?_ ?_
  ·intro g a
   refine cT 1 (crt (zg (zc ?_)))
   have hx:=j _ (sj a).symm
   subst hx
   replace a:=i
   refine zv (zg (zc ?_))
   obtain rfl:=sj a
   exact rT 4 ff ⟨rfl,rfl⟩
  intro g a
  refine ck (zd (zb (cr (od 2 (oe ?_)))))
  exact ze (sj a).symm ⟨⟨_,eY⟩,rfl,(zr _)⟩
 intro g a
 refine cx 0 (zh ?_)
 have hx:=j _ (sj a).symm
 subst hx
 replace a:=i
 refine zi ?_
 exact zq rfl (O   _  a)
theorem zl9 {f:K} {p0:LM} {L M:OA} {c2 u fi2:Nat} {p1:LM} {N:LI→LI→Option Bool} {bv2 cv2:Array Value} (f3:Sl (tSl tI64) f L c2 p0) (f6:Sl (tSl tI64) f M u p1) (S:zcL Tryz.prog fi2=true) (H2:∀ {c:K},Step [] f c→∀ {q2_0:LI} {T:OA} {U:Nat} {q2_1:LI} {H:OA} {I:Nat} (f9:Sl tI64 c T U q2_0) (b6:Sl tI64 c H I q2_1) {r:Bool},N q2_0 q2_1=some r→Fn Tryz.prog fi2 (bv2++#[vl T q2_0 U,vl H q2_1 I]++cv2) c (fun v κ''=>Step [] c κ''∧v=.bool r)) {r:Bool} (a:zdK p0 p1 N=some r) :
 Fn Tryz.prog 81 #[vl L p0 c2,vl M p1 u,.func (.func fi2) bv2 cv2] f (fun v c=>Step [] f c∧v=.bool r):=by
 refine fnc 32 [] Tryz.func81 Tryz.ntmps81 fun hs=>cT 1 (cs (cT 5 ?_))
 refine cc _ a ?_ ?_
 ·intro l a
  refine cT 1 (crt (zc ?_))
  obtain rfl:=sj a
  exact rT 6 ff ⟨hs,rfl⟩
 intro l a
 refine ckt (cs (cT 3 (cb 0 ?_)))
 refine zj 0 (fun Z=>∀ (m:Env) (g:K),Step [] f g→zem=some r→Z (m) g) ?_ fun J1=>?_
 ·intro m g hs a
  refine zf (zb (cT 1 (crt ?_)))
  obtain rfl:=sj a
  exact rT 6 tt ⟨hs,rfl⟩
 refine bE a fun V O h=>zp (F:=zel p0 p1 N) (J:=fun b E' c=>(∃ m,E'=ups m [(1,vl M p1 u),(2,.func (.func fi2) bv2 cv2),(15,vl L p0 c2),(16,iv (p0.length:Int)),(17,iv b)])∧Step [] f c∧I64 b) (s0:=0) (x:=V) kr O ⟨⟨_,eY⟩,hs,(iK 0)⟩ ?_
 rintro b _ n ⟨⟨m,rfl⟩,hs,b4⟩ a8 a i
 refine cT 1 (cs ?_)
 refine cc _ a ?_ ?_
 ·intro l a
  refine ckt (cs (cb 1 (cO 1 (bE a fun j P a=>?_))))
  obtain ⟨X,Y,y,z,A,a9,d,B⟩:=(f3.step hs).idx P
  obtain ⟨p,q,rfl,a0⟩:=B
  replace d:PubAt n X (Y+b.toNat*1) [vl p j q]:=d
  refine oi 20 33 32 1 p0.length c2 .i64 b y z A (o1 21 32 (vl p j q) (d.at.one (o:=0) rfl) (od 2 (otx (od 2 (bE a fun k Q a=>?_)))))
  obtain ⟨a2,a3,C,D,E,b0,e,G⟩:=(f6.step hs).idx Q
  obtain ⟨s,t,rfl,a5⟩:=G
  replace e:PubAt n a2 (a3+b.toNat*1) [vl s k t]:=e
  refine oi 24 33 32 1 p1.length u .i64 b C D E (o1 25 32 (vl s k t) (e.at.one (o:=0) rfl) (od 1 (otx (od 3 (bE a fun b7 R a=>?_)))))
  refine ocl 29 (H2 hs (q2_0:=j) (q2_1:=k) a0 a5 R) ?_ kr (fun w=>zaR (show _=(callFunc fi2 (bv2++#[vl p j q,vl s k t]++cv2)).run _ w by kernel_rfl) S)
  rintro _ b5 ⟨a6,rfl⟩
  replace hs:=hs.tr0 a6
  refine dT 1 ?_
  refine cc _ a ?_ ?_
  ·intro l a
   refine cT 1 (crt (zg (zc ?_)))
   have hx:=i _ (sj a).symm
   subst hx
   replace a:=h
   refine zv (zg (zc ?_))
   obtain rfl:=sj a
   exact rT 6 ff ⟨hs,rfl⟩
  intro l a
  refine ck (zd (zb (cr (od 2 (oe ?_)))))
  exact ze (sj a).symm ⟨⟨_,eY⟩,hs,(zr _)⟩
 intro l a
 refine cx 0 (zh ?_)
 have hx:=i _ (sj a).symm
 subst hx
 replace a:=h
 refine zi ?_
 exact zq rfl (J1   _ _ hs  a)
theorem zpa {d:K} {p0:Int×LP×LP×LI×LM} {a2 t u f g i j k:OA} {w x y l m n p q:Nat} {p1:Int×LP×LP×LI×LM} (a0:I64 p0.1) (S:Sl tPlaced d a2 w p0.2.1) (T:Sl tPlaced d t x p0.2.2.1) (E:Sl tI64 d u y p0.2.2.2.1) (F:Sl (tSl tI64) d f l p0.2.2.2.2) (U:I64 p1.1) (G:Sl tPlaced d g m p1.2.1) (H:Sl tPlaced d i n p1.2.2.1) (I:Sl tI64 d j p p1.2.2.2.1) (J:Sl (tSl tI64) d k q p1.2.2.2.2) {r:Bool} (a:zh9 p0 p1=some r) :
 Fn Tryz.prog 55 #[.agg #[iv p0.1,vl a2 p0.2.1 w,vl t p0.2.2.1 x,vl u p0.2.2.2.1 y,vl f p0.2.2.2.2 l],.agg #[iv p1.1,vl g p1.2.1 m,vl i p1.2.2.1 n,vl j p1.2.2.2.1 p,vl k p1.2.2.2.2 q]] d (fun v L=>Step [] d L∧v=.bool r):=by
 refine fnc 38 [] Tryz.func55 Tryz.ntmps55 fun hs=>csr (xO 2 51 (d.H.size,55001) hs.1 [iv p0.1,vl a2 p0.2.1 w,vl t p0.2.2.1 x,vl u p0.2.2.2.1 y,vl f p0.2.2.2.2 l] fun a1 V M b=>?_)
 replace hs:=hs.tr0 M
 refine xO 3 51 (d.H.size,55002) hs.1 [iv p1.1,vl g p1.2.1 m,vl i p1.2.2.1 n,vl j p1.2.2.2.1 p,vl k p1.2.2.2.2 q] fun a3 X z c=>?_
 replace hs:=hs.tr0 z
 replace b:=b.step0 z
 refine od 1 (otx (od 1 (o1 6 2 (iv p0.1) (b.at.one (o:=0) rfl) (od 1 (o1 8 2 (iv p1.1) (c.at.one (o:=0) rfl) (od 1 ?_))))))
 refine osp 10 (decide (p0.1=p1.1)) a ?_ ?_
 ·intro e a
  refine oz [11,12,13,14,15] (od 2 (oz [18,19,20,21,22] (od 2 (oz [25,26,27,28,29] (od 2 (oz [32,33,34] ?_))))))
  refine oz [35,36] (dT 2 (crt ?_))
  obtain rfl:=sj a
  exact rT 4 ff ⟨hs,rfl⟩
 intro e a
 refine od 1 (o1 12 49 (vl a2 p0.2.1 w) (b.at.one (o:=1) rfl) (od 1 (o1 14 49 (vl g p1.2.1 m) (c.at.one (o:=1) rfl) (bE a fun N A a=>ocl 15 (zkj (S.step hs) (G.step hs) A) ?_))))
 rintro _ _ ⟨rfl,rfl⟩
 refine od 1 ?_
 refine osp 17 (N) a ?_ ?_
 ·intro e a
  refine oz [18,19,20,21,22] (od 2 (oz [25,26,27,28,29] (od 2 (oz [32,33,34,35,36] (dT 2 (crt ?_))))))
  obtain rfl:=sj a
  exact rT 4 ff ⟨hs,rfl⟩
 intro e a
 refine od 1 (o1 19 49 (vl t p0.2.2.1 x) (b.at.one (o:=2) rfl) (od 1 (o1 21 49 (vl i p1.2.2.1 n) (c.at.one (o:=2) rfl) (bE a fun O B a=>ocl 22 (zkj (T.step hs) (H.step hs) B) ?_))))
 rintro _ _ ⟨rfl,rfl⟩
 refine od 1 ?_
 refine osp 24 (O) a ?_ ?_
 ·intro e a
  refine oz [25,26,27,28,29] (od 2 (oz [32,33,34,35,36] (dT 2 (crt ?_))))
  obtain rfl:=sj a
  exact rT 4 ff ⟨hs,rfl⟩
 intro e a
 refine od 1 (o1 26 32 (vl u p0.2.2.2.1 y) (b.at.one (o:=3) rfl) (od 1 (o1 28 32 (vl j p1.2.2.2.1 p) (c.at.one (o:=3) rfl) (bE a fun P C a=>ocl 29 (zki (E.step hs) (I.step hs) C) ?_))))
 rintro _ _ ⟨rfl,rfl⟩
 refine od 1 ?_
 refine osp 31 (P) a ?_ ?_
 ·intro e a
  refine oz [32,33,34,35,36] (dT 2 (crt ?_))
  obtain rfl:=sj a
  exact rT 4 ff ⟨hs,rfl⟩
 intro e a
 refine od 1 (o1 33 33 (vl f p0.2.2.2.2 l) (b.at.one (o:=4) rfl) (od 1 (o1 35 33 (vl k p1.2.2.2.2 q) (c.at.one (o:=4) rfl) (bE a fun Q D a=>ocl 36 (zl9 (F.step hs) (J.step hs) (fi2:=80) (bv2:=#[]) (cv2:=#[]) kr (by intro _ s _ _ _ _ _ _ w0 Y _ hp;exact zig kr ((zki w0 Y hp).mono fun _ _ h=>⟨Step.of_eq h.1,h.2⟩)) D) ?_))))
 rintro _ Z ⟨R,rfl⟩
 replace hs:=hs.tr0 R
 refine dT 2 (crt ?_)
 obtain rfl:=sj a
 exact rT 4 (.bool Q) ⟨hs,rfl⟩
theorem zhm {e:K} {p0:LG×LT} {n p:OA} {c2 q fi3:Nat} {p1:Int×Int} {s:Int} {H:(Int×Int)→Option Int} {bv3 cv3:Array Value} (f3:Sl tGlue e n c2 p0.1) (f6:Sl tTile e p q p0.2) (U:I64 p1.1) (V:I64 p1.2) (X:I64 s) (Y:zcL Tryz.prog fi3=true) (H3:∀ {f:K},Step [] e f→∀ {q3_0:Int×Int} (a8:I64 q3_0.1) (a9:I64 q3_0.2) {r:Int},H q3_0=some r→Fn Tryz.prog fi3 (bv3++#[.agg #[iv q3_0.1,iv q3_0.2]]++cv3) f (fun v κ''=>Step [] f κ''∧v=iv r∧I64 r)) {r:Int} (c:zbF p0 p1 s H=some r) :
 Fn Tryz.prog 205 #[.agg #[vl n p0.1 c2,vl p p0.2 q],.agg #[iv p1.1,iv p1.2],iv s,.func (.func fi3) bv3 cv3] e (fun v f=>Step [] e f∧v=iv r∧I64 r):=by
 refine fnc 31 [] Tryz.func205 Tryz.ntmps205 fun hs=>csr (xO 4 43 (e.H.size,205001) hs.1 [vl n p0.1 c2,vl p p0.2 q] fun k b0 a0 a=>?_)
 replace hs:=hs.tr0 a0
 refine xO 5 103 (e.H.size,205002) hs.1 [iv p1.1,iv p1.2] fun l b1 G b=>?_
 replace hs:=hs.tr0 G
 replace a:=a.step0 G
 refine od 1 (otx (dT 1 (cs (cT 1 (cb 0 ?_)))))
 refine zj 0 (fun Z=>∀ (h:Int) (i:Env) (j:K),Step [] e j→I64 h→zhn h=some r→Z (ups i [(9,iv h)]) j) ?_ fun J1=>?_
 ·intro h i j hs I c
  refine zf (zb (cT 2 (crt ?_)))
  obtain rfl:=sj c
  exact rT 8 (iv h) ⟨hs,rfl,I⟩
 refine bE c fun a2 L C=>zp (F:=zbV p0 p1 s H) (J:=fun d E' f=>(∃ i,E'=ups i [(2,iv s),(3,.func (.func fi3) bv3 cv3),(4,pt k 0),(5,pt l 0),(9,iv d.1),(12,iv d.2)])∧Step [] e f∧I64 d.1∧I64 d.2∧Box (e.H.size,205001) f k [vl n p0.1 c2,vl p p0.2 q] 43∧Box (e.H.size,205002) f l [iv p1.1,iv p1.2] 103) (s0:=(0,0)) (x:=a2) kr L ⟨⟨_,eY⟩,hs,(iK 0),(iK 0),a,b⟩ ?_
 rintro d _ b4 ⟨⟨i,rfl⟩,hs,t,u,a,b⟩ D c E
 refine cT 1 (cs ?_)
 refine cc _ c ?_ ?_
 ·intro M c
  refine ckt ?_
  refine zn (fun Z=>∀ (m:Int) (i:Env) (g:K),Step [] e g→I64 m→Box (e.H.size,205001) g k [vl n p0.1 c2,vl p p0.2 q] 43→Box (e.H.size,205002) g l [iv p1.1,iv p1.2] 103→zbW d m=some D→cwp Tryz.prog 31 (sub (zB Tryz.f205) [1,1,1,0,0,1,0,1,1]) Z (ups i [(2,iv s),(3,.func (.func fi3) bv3 cv3),(4,pt k 0),(5,pt l 0),(9,iv m),(12,iv d.2)]) g) ?_ fun J2=>?_
  ·intro m i g hs N a b c
   refine cr (od 2 (oe ?_))
   exact ze (sj c).symm ⟨⟨_,eY⟩,hs,N,(zr _),a,b⟩
  refine cs (cb 1 (cO 2 (otx (od 1 (oN 16 103 [iv p1.1,iv p1.2] (b.at.part 0 2).2 (od 1 (bE c fun y O c=>ocl 18 (zbn U V u O) ?_)))))))
  rintro _ b5 ⟨z,rfl,P,Q⟩
  replace hs:=hs.tr0 z
  replace a:=a.step0 z
  replace b:=b.step0 z
  refine bE c fun b9 R c=>?_
  refine ocl 19 (H3 hs (q3_0:=y) P Q R) ?_ kr (fun w=>zaR (show _=(callFunc fi3 (bv3++#[.agg #[iv y.1,iv y.2]]++cv3)).run _ w by kernel_rfl) Y)
  rintro _ b6 ⟨A,rfl,S⟩
  replace hs:=hs.tr0 A
  replace a:=a.step0 A
  replace b:=b.step0 A
  refine od 1 (otx (dT 2 ?_))
  refine cc _ c ?_ ?_
  ·intro M c
   refine cr (od 1 (oN 23 43 [vl n p0.1 c2,vl p p0.2 q] (a.at.part 0 2).2 (od 3 (bE c fun a5 T c=>ocl 27 (zfI (f3.step hs) (f6.step hs) X u S T) ?_))))
   rintro _ b7 ⟨B,rfl,b8⟩
   replace hs:=hs.tr0 B
   replace a:=a.step0 B
   replace b:=b.step0 B
   refine od 2 (oe (zd (zb ?_)))
   exact zk eY (J2 (w64 (d.1+a5))  _ _ hs (zr _) a b c)
  intro M c
  refine ck (zd (zb ?_))
  exact zk eY (J2 d.1  _ _ hs t a b c)
 intro M c
 refine cx 0 (zh ?_)
 have hx:=E _ (sj c).symm
 subst hx
 replace c:=C
 refine zi ?_
 exact zq eY (J1 d.1  _ _ hs t c)
theorem zjD {c:K} {p0:LP} {m:OA} {c2:Nat} (n:Sl tPlaced c m c2 p0) {r:LP} (b:zd1 p0=some r) :
 Fn Tryz.prog 207 #[vl m p0 c2] c (fun v j=>Step [] c j∧∃ (q:Nat) (s:OA) (u:Nat),v=vl s r u∧c.H.size≤q∧Gr tPlaced false (q,207001) j 105 s u r):=by
 refine fnc 8 [] Tryz.func207 Tryz.ntmps207 fun hs=>cT 1 (cs ?_)
 refine zn (fun Z=>∀ (g:LP) (h:Bool) (i:OA) (f:Nat) (w:Env),Sl tPlaced c i f g→zb9 g h=some r→cwp Tryz.prog 8 (sub (zB Tryz.f207) [1,0,1]) Z (ups w [(0,vl i g f),(4,.bool h)]) c) ?_ fun x=>?_
 ·intro g h i f w y b
  refine cc _ b ?_ ?_
  ·intro G b
   refine cT 1 (crt (zc ?_))
   obtain rfl:=sj b
   exact rT 2 (sl none 0 0) ⟨hs,_,_,_,rfl,(fz _),Gr.nil⟩
  intro G b
  refine ckt (csr (zJ (d:=5) (T:=44) (e:=105) (t:=tPlaced) (pub:=false) (τ:=(c.H.size,207001)) (len:=0) (l:=[]) (parts:=#[]) (cs:=[]) kr kr kr kr hs.1 rfl rfl kr fun z H A k=>?_))
  replace hs:=hs.tr0 A
  refine od 1 (bE b fun B p b=>zH (d:=7) (T:=44) (e:=105) (t:=tPlaced) (pub:=false) (τ:=(c.H.size,207001)) (bytes:=24) (a:=z) (cp:=0) (l:=[]) (a2:=i) (c2:=f) (l2:=g) kr kr k (y.step hs) hs.1 kr p fun C D I E F hw=>?_)
  clear hw
  replace hs:=hs.trG (k.own (fz _)) E
  refine dT 1 (crt ?_)
  obtain rfl:=sj b
  exact rT 2 (vl C B D) ⟨hs,_,_,_,rfl,(fz _),F⟩
 refine cO 1 ?_
 rcases m with _ | J
 ·have hnil:=Sl.of_none n
  replace b:zb9 p0 true=some r:=by rw [hnil] at b ⊢;simpa [app,zd1,zb9] using b
  refine dT 1 ?_
  exact zk eY (x p0 true _ _ _ n b)
 refine dT 1 ?_
 exact zk eY (x p0 false _ _ _ n b)
theorem zmt [Fb] {b:K} {p0:(Int×Int)×Int} {p1:(Int×Int)×Int} {r:Int} (e:zhg p0 p1=some r) :
 Fn Tryz.prog 209 #[.agg #[iv p0.1.1,iv p0.1.2,iv p0.2],.agg #[iv p1.1.1,iv p1.1.2,iv p1.2]] b (fun v h=>Step [] b h∧v=iv r∧I64 r):=by
 refine fnc 10 [] Tryz.func209 Tryz.ntmps209 fun hs=>csr (xO 2 105 (b.H.size,209001) hs.1 [iv p0.1.1,iv p0.1.2,iv p0.2] fun q n i a=>?_)
 replace hs:=hs.tr0 i
 refine xO 3 105 (b.H.size,209002) hs.1 [iv p1.1.1,iv p1.1.2,iv p1.2] fun p l d c=>?_
 replace hs:=hs.tr0 d
 replace a:=a.step0 d
 refine od 1 (otx (od 1 (oN 6 103 [iv p0.1.1,iv p0.1.2] (a.at.part 0 2).2 (od 1 (oN 8 103 [iv p1.1.1,iv p1.1.2] (c.at.part 0 2).2 (bE e fun j f e=>ocl 9 (zh7 f) ?_))))))
 rintro _ m ⟨k,rfl,g⟩
 replace hs:=hs.tr0 k
 refine dT 1 (crt ?_)
 obtain rfl:=sj e
 exact rT 4 (iv j) ⟨hs,rfl,g⟩
theorem zoi {f:K} {p0:LP} {B:OA} {c2:Nat} (F:Sl tPlaced f B c2 p0) {r:(LP)} (q:zaB p0=some r) :
 Fn Tryz.prog 206 #[sl B p0.length c2] f (fun v j=>Step [] f j∧∃ (C:OA) (D:Nat),v=.agg #[sl C r.length D]∧Sl tPlaced j C D r):=by
 unfold zaB at q
 split at q
 ·rename_i hle
  obtain rfl:=sj q
  have hlen:(Go.Sort.pdq (fun x y=>decide (za4 x y<0)) p0.toArray 0 p0.length (Go.Lib.bitLen p0.length) true true).toList.length=p0.length:=(Go.Sort.pdq_sorts (ltOf za4) zxn p0.toArray 0 p0.length (Lib.bitLen p0.length) true true (Nat.zero_le _) (by simp) (Or.inl rfl)).1.1
  have hsort:∀ {f:K} {τ:Tag} {a:OA} {c:Nat},Gr tPlaced false τ f 105 a c p0→Fn Tryz.prog 208 #[sl a p0.length c,.func (.func 209) #[] #[]] f (fun v j=>Step (blk a c) f j∧v=.tuple #[]∧Gr tPlaced false τ j 105 a c (Go.Sort.pdq (fun x y=>decide (za4 x y<0)) p0.toArray 0 p0.length (Go.Lib.bitLen p0.length) true true).toList):=fun m=>
    zwe (fun inst f x y=>(zmt (zx3 x y)).mono fun v j h=>⟨h.1,h.2.1⟩) m hle
  refine fnc 10 [] Tryz.func206 Tryz.ntmps206 fun hs=>csr (xT 2 46 (f.H.size,206001) hs.1 [sl none 0 0] fun G O H d=>?_)
  replace hs:=hs.tr0 H
  refine otx (od 1 (ocl 5 (zjD (F.step hs) (zrz p0 hle)) ?_))
  rintro _ I ⟨t,N,k,l,rfl,hN,n⟩
  have hN':f.H.size≤N:=ga hs.1 hN
  replace hs:=hs.tr0 t
  replace d:=d.step0 t
  refine od 1 (otx (od 1 (ocl 7 (hsort n) ?_)))
  rintro _ J ⟨u,rfl,w⟩
  have hne:∀ i,i≠207001→∀ {κ'':K} {cs:List Value} {T:TypeId} {b:Nat},Box (f.H.size,i) κ'' b cs T→Gr tPlaced false (N,207001) κ'' 105 k l p0→b∉blk k l:=fun i hi _ _ _ _ hB hG=>hG.bn hB (fun e=>hi (by injection e))
  replace d:=d.step u (hne 206001 (by decide) d n)
  replace hs:=hs.trG (fun g m=>ga hN' (n.lt g m).2.2) u
  refine zm6 w fun L z E=>?_
  have f14':=w.lt
  replace d:=d.step z (fun h=>by
    have:=(f14' _ h).2.1
    rw [d.tag] at this
    injection this with _ h;cases h)
  replace hs:=hs.trG (fun g m=>ga hN' (f14' g m).2.2) z
  have p:=E.sl
  refine otx (od 2 (xM 46 [sl k p0.length l] d fun M A _ s=>?_))
  replace hs:=hs.trB d.ge A
  replace p:=p.step A
  refine ot (crt (rt [.cell 2 46] [.agg #[sl k p0.length l]] ⟨⟨G,0,[sl k p0.length l],rfl,rfl,kr,kr,(s.at.part 0 1).2⟩,trivial⟩ ?_))
  exact ⟨hs,k,l,by rw [hlen];rfl,p⟩
 cases q
theorem znK {g:K} {p0:LP} {z A:OA} {c2 m:Nat} {p1:LP} (N:Sl tPlaced g z c2 p0) (f6:Sl tPlaced g A m p1) {r:Bool} (a:ziz p0 p1=some r) :
 Fn Tryz.prog 202 #[vl z p0 c2,vl A p1 m] g (fun v h=>g=h∧v=.bool r):=by
 refine fnc 26 [] Tryz.func202 Tryz.ntmps202 fun hs=>cT 1 (cs (cT 5 ?_))
 refine cc _ a ?_ ?_
 ·intro i a
  refine cT 1 (crt (zc ?_))
  obtain rfl:=sj a
  exact rT 4 ff ⟨rfl,rfl⟩
 intro i a
 refine ckt (cs (cT 3 (cb 0 ?_)))
 refine zj 0 (fun Z=>∀ (j:Env),zjC=some r→Z (j) g) ?_ fun O=>?_
 ·intro j a
  refine zf (zb (cT 1 (crt ?_)))
  obtain rfl:=sj a
  exact rT 4 tt ⟨rfl,rfl⟩
 refine bE a fun P D k=>zp (F:=zjB p0 p1) (J:=fun d Q h=>(∃ j,Q=ups j [(0,vl z p0 c2),(1,vl A p1 m),(12,iv (p0.length:Int)),(13,iv d)])∧g=h∧I64 d) (s0:=0) (x:=P) kr D ⟨⟨_,eY⟩,rfl,(iK 0)⟩ ?_
 rintro d _ _ ⟨⟨j,rfl⟩,rfl,a2⟩ R a l
 refine cT 1 (cs ?_)
 refine cc _ a ?_ ?_
 ·intro i a
  refine ckt (cs (cb 1 (cT 2 (cs (cd 8 (dd 2 (bE a fun b B a=>?_)))))))
  obtain ⟨E,G,n,p,q,L,e,s⟩:=N.idx B
  obtain ⟨_,_,rfl,⟨_,_,rfl,⟨rfl,S⟩,⟨rfl,U⟩⟩,⟨rfl,V⟩⟩:=s
  replace e:PubAt g E (G+d.toNat*3) [iv b.1.1,iv b.1.2,iv b.2]:=e
  refine di 18 44 105 3 p0.length c2 .i64 d n p q (dN 19 105 [iv b.1.1,iv b.1.2,iv b.2] (e.at.part 0 3).2 (dd 2 (bE a fun c C a=>?_)))
  obtain ⟨H,I,t,u,w,M,f,y⟩:=f6.idx C
  obtain ⟨_,_,rfl,⟨_,_,rfl,⟨rfl,X⟩,⟨rfl,Y⟩⟩,⟨rfl,a0⟩⟩:=y
  replace f:PubAt g H (I+d.toNat*3) [iv c.1.1,iv c.1.2,iv c.2]:=f
  refine di 22 44 105 3 p1.length m .i64 d t u w (dN 23 105 [iv c.1.1,iv c.1.2,iv c.2] (f.at.part 0 3).2 (de (oq 24 (.bool (!((decide (b.1.1=c.1.1)&&decide (b.1.2=c.1.2))&&decide (b.2=c.2)))) (fun _=>zn7 (T:=105) (k1:=.i64) (k2:=.i64) (k3:=.i64) kr kr) (ot ?_))))
  refine cc _ a ?_ ?_
  ·intro i a
   refine cT 1 (crt (zg (zc ?_)))
   have hx:=l _ (sj a).symm
   subst hx
   replace a:=k
   refine zv (zg (zc ?_))
   obtain rfl:=sj a
   exact rT 4 ff ⟨rfl,rfl⟩
  intro i a
  refine ck (zd (zb (cr (od 2 (oe ?_)))))
  exact ze (sj a).symm ⟨⟨_,eY⟩,rfl,(zr _)⟩
 intro i a
 refine cx 0 (zh ?_)
 have hx:=l _ (sj a).symm
 subst hx
 replace a:=k
 refine zi ?_
 exact zq rfl (O   _  a)
theorem znk {b:K} {p0:LP} {c d:OA} {c2 e:Nat} {p1:LP} (l:Sl tPlaced b c c2 p0) (f6:Sl tPlaced b d e p1) {r:Bool} (h:zfk p0 p1=some r) :
 Fn Tryz.prog 197 #[.agg #[vl c p0 c2],.agg #[vl d p1 e]] b (fun v j=>Step [] b j∧v=.bool r):=by
 refine fnc 10 [] Tryz.func197 Tryz.ntmps197 fun hs=>csr (xO 2 46 (b.H.size,197001) hs.1 [vl c p0 c2] fun s p m a=>?_)
 replace hs:=hs.tr0 m
 refine xO 3 46 (b.H.size,197002) hs.1 [vl d p1 e] fun q n g f=>?_
 replace hs:=hs.tr0 g
 replace a:=a.step0 g
 refine od 1 (otx (od 1 (o1 6 44 (vl c p0 c2) (a.at.one (o:=0) rfl) (od 1 (o1 8 44 (vl d p1 e) (f.at.one (o:=0) rfl) (bE h fun k i h=>ocl 9 (znK (l.step hs) (f6.step hs) i) ?_))))))
 rintro _ _ ⟨rfl,rfl⟩
 refine dT 1 (crt ?_)
 obtain rfl:=sj h
 exact rT 4 (.bool k) ⟨hs,rfl⟩
theorem zp9 {b:K} {p0:Int} {p1:Int} (f:I64 p0) (g:I64 p1) {r:Bool} (a:zni p0 p1=some r) :
 Fn Tryz.prog 237 #[iv p0,iv p1] b (fun v c=>b=c∧v=.bool r):=by
 refine fnc 10 [] Tryz.func237 Tryz.ntmps237 fun hs=>cO 1 (otx (od 2 (bE a fun d e a=>oq 7 (iv d) (fun _=>zsA (yk:=.i64) kr e) (dT 3 (crt ?_)))))
 obtain rfl:=sj a
 exact rT 4 (bW ((zrP .i64 d 1)=1)) ⟨rfl,rfl⟩
theorem zlQ {i:K} {p0:LP} {p:OA} {c2 fi1:Nat} {p1:((Int×Int)×Int)→Option Bool} {bv1 cv1:Array Value} (N:Sl tPlaced i p c2 p0) (C:zcL Tryz.prog fi1=true) (O:∀ {d:K},Step [] i d→∀ {q1_0:(Int×Int)×Int} (S:I64 q1_0.1.1) (T:I64 q1_0.1.2) (U:I64 q1_0.2) {r:Bool},p1 q1_0=some r→Fn Tryz.prog fi1 (bv1++#[.agg #[iv q1_0.1.1,iv q1_0.1.2,iv q1_0.2]]++cv1) d (fun v κ''=>Step [] d κ''∧v=.bool r)) {r:Int} (a:zdj p0 p1=some r) :
 Fn Tryz.prog 250 #[vl p p0 c2,.func (.func fi1) bv1 cv1] i (fun v d=>Step [] i d∧v=iv r∧I64 r):=by
 refine fnc 19 [] Tryz.func250 Tryz.ntmps250 fun hs=>cT 1 (cs (cT 3 (cb 0 ?_)))
 refine zj 0 (fun Z=>∀ (j:Env) (f:K),Step [] i f→zdY=some r→Z (j) f) ?_ fun P=>?_
 ·intro j f hs a
  refine zf (zb (cT 1 (crt ?_)))
  obtain rfl:=sj a
  exact rT 4 (iv (-1)) ⟨hs,rfl,(iK (-1))⟩
 refine bE a fun D q g=>zp (F:=zdX p0 p1) (J:=fun c Q d=>(∃ j,Q=ups j [(0,vl p p0 c2),(1,.func (.func fi1) bv1 cv1),(7,iv (p0.length:Int)),(8,iv c)])∧Step [] i d∧I64 c) (s0:=0) (x:=D) kr q ⟨⟨_,eY⟩,hs,(iK 0)⟩ ?_
 rintro c _ s ⟨⟨j,rfl⟩,hs,E⟩ L a h
 refine cT 1 (cs ?_)
 refine cc _ a ?_ ?_
 ·intro t a
  refine ckt (cs (cb 1 (cO 2 (otx (od 3 (bE a fun b u a=>?_))))))
  obtain ⟨G,H,k,l,m,M,e,n⟩:=(N.step hs).idx u
  obtain ⟨_,_,rfl,⟨_,_,rfl,⟨rfl,y⟩,⟨rfl,z⟩⟩,⟨rfl,A⟩⟩:=n
  replace e:PubAt s G (H+c.toNat*3) [iv b.1.1,iv b.1.2,iv b.2]:=e
  refine oi 14 49 110 3 p0.length c2 .i64 c k l m (oN 15 110 [iv b.1.1,iv b.1.2,iv b.2] (e.at.part 0 3).2 (bE a fun V B a=>?_))
  refine ocl 16 (O hs (q1_0:=b) y z A B) ?_ kr (fun w=>zaR (show _=(callFunc fi1 (bv1++#[.agg #[iv b.1.1,iv b.1.2,iv b.2]]++cv1)).run _ w by kernel_rfl) C)
  rintro _ R ⟨I,rfl⟩
  replace hs:=hs.tr0 I
  refine ot ?_
  refine cc _ a ?_ ?_
  ·intro t a
   refine cT 2 (crt (zg (zc ?_)))
   have hx:=h _ (sj a).symm
   subst hx
   replace a:=g
   refine zv (zg (zc ?_))
   obtain rfl:=sj a
   exact rT 4 (iv c) ⟨hs,rfl,E⟩
  intro t a
  refine ck (zd (zb (cr (od 2 (oe ?_)))))
  exact ze (sj a).symm ⟨⟨_,eY⟩,hs,(zr _)⟩
 intro t a
 refine cx 0 (zh ?_)
 have hx:=h _ (sj a).symm
 subst hx
 replace a:=g
 refine zi ?_
 exact zq rfl (P   _ _ hs  a)
theorem zkO {a:K} {p0:(Int×Int)×Int} {p1:Int×Int} {b c:Nat} (h:I64 p0.1.1) (i:I64 p0.1.2) (j:I64 p0.2) (m1:At a b c [iv p1.1,iv p1.2]) (k:I64 p1.1) (l:I64 p1.2) {r:Bool} (f:zck p0 p1=some r) :
 Fn Tryz.prog 251 #[.agg #[iv p0.1.1,iv p0.1.2,iv p0.2],pt b c] a (fun v e=>Step [] a e∧v=.bool r):=by
 refine fnc 8 [] Tryz.func251 Tryz.ntmps251 fun hs=>csr (xO 2 110 (a.H.size,251001) hs.1 [iv p0.1.1,iv p0.1.2,iv p0.2] fun n m g d=>?_)
 replace hs:=hs.tr0 g
 refine od 1 (otx (od 1 (oN 5 103 [iv p0.1.1,iv p0.1.2] (d.at.part 0 2).2 (oN 6 103 [iv p1.1,iv p1.2] ((m1.step0 hs).part 0 2).2 (oq 7 (.bool (decide (p0.1.1=p1.1)&&decide (p0.1.2=p1.2))) (fun _=>zfA (T:=103) (k1:=.i64) (k2:=.i64) kr kr) (dT 1 (crt ?_)))))))
 obtain rfl:=sj f
 exact rT 3 (.bool (decide (p0.1.1=p1.1)&&decide (p0.1.2=p1.2))) ⟨hs,rfl⟩
theorem zmm {a:K} {p0:(TS×(LP)×Int)×LP×(LP)×LI×LI} {e f:Nat} {u w x b g h i:OA} {c2 y z c j k l:Nat} {p1:Int×Int} (G:At a e f [vl u p0.1.1.1 c2,vl w p0.1.1.2 y,vl x p0.1.2.1 z,iv p0.1.2.2,vl b p0.2.1 c,vl g p0.2.2.1 j,vl h p0.2.2.2.1 k,vl i p0.2.2.2.2 l]) (Q:Sl tGlue a u c2 p0.1.1.1) (f6:Sl tTile a w y p0.1.1.2) (R:Sl tPlaced a x z p0.1.2.1) (H:I64 p0.1.2.2) (A:Sl tPlaced a b c p0.2.1) (N:Sl tPlaced a g j p0.2.2.1) (O:Sl tI64 a h k p0.2.2.2.1) (P:Sl tI64 a i l p0.2.2.2.2) (m:I64 p1.1) (n:I64 p1.2) {r:Int} (p:zgo p0 p1=some r) :
 Fn Tryz.prog 243 #[pt e f,.agg #[iv p1.1,iv p1.2]] a (fun v B=>Step [] a B∧v=iv r∧I64 r):=by
 refine fnc 11 [] Tryz.func243 Tryz.ntmps243 fun hs=>csr (xO 3 103 (a.H.size,243001) hs.1 [iv p1.1,iv p1.2] fun C I D d=>?_)
 replace hs:=hs.tr0 D
 refine od 1 (otx (od 3 (o1 8 49 (vl b p0.2.1 c) ((G.step0 hs).one (o:=4) rfl) (od 1 (bE p fun E q p=>ocl 10 (zlQ (A.step hs) (fi1:=251) (bv1:=#[]) (cv1:=#[pt C 0]) kr (by intro _ s _ w0 J L _ hp;exact zig kr ((zkO w0 J L (d.at.step0 s) m n hp))) q) ?_)))))
 rintro _ M ⟨F,rfl,t⟩
 replace hs:=hs.tr0 F
 refine dT 1 (crt ?_)
 obtain rfl:=sj p
 exact rT 4 (iv E) ⟨hs,rfl,t⟩
theorem zml {c:K} {p0:(TS×(LP)×Int)×LP×(LP)×LI×LI} {g h:Nat} {a1 a4 a7 s P t Q:OA} {c2 c5 c8 m R n S:Nat} {p1:Int} (Y:At c g h [vl a1 p0.1.1.1 c2,vl a4 p0.1.1.2 c5,vl a7 p0.1.2.1 c8,iv p0.1.2.2,vl s p0.2.1 m,vl P p0.2.2.1 R,vl t p0.2.2.2.1 n,vl Q p0.2.2.2.2 S]) (f3:Sl tGlue c a1 c2 p0.1.1.1) (f6:Sl tTile c a4 c5 p0.1.1.2) (f9:Sl tPlaced c a7 c8 p0.1.2.1) (a0:I64 p0.1.2.2) (T:Sl tPlaced c s m p0.2.1) (d0:Sl tPlaced c P R p0.2.2.1) (U:Sl tI64 c t n p0.2.2.2.1) (d2:Sl tI64 c Q S p0.2.2.2.2) (e7:I64 p1) {r:Int} (a:zdM p0 p1=some r) :
 Fn Tryz.prog 238 #[pt g h,iv p1] c (fun v u=>Step [] c u∧v=iv r∧I64 r):=by
 refine fnc 44 [] Tryz.func238 Tryz.ntmps238 fun hs=>cO 1 (otx (dT 1 (cs (cT 1 (cb 0 ?_)))))
 refine zj 0 (fun Z=>∀ (i:Int) (d:Env) (k:K),Step [] c k→I64 i→zes i=some r→Z (ups d [(5,iv i)]) k) ?_ fun J1=>?_
 ·intro i d k hs a2 a
  refine zf (zb (cT 2 (crt ?_)))
  obtain rfl:=sj a
  exact rT 4 (iv i) ⟨hs,rfl,a2⟩
 refine bE a fun d3 a3 C=>zp (F:=zaT p0 p1) (J:=fun b E' u=>(∃ d,E'=ups d [(0,pt g h),(1,iv p1),(5,iv b.1),(8,iv b.2)])∧Step [] c u∧I64 b.1∧I64 b.2) (s0:=(0,0)) (x:=d3) kr a3 ⟨⟨_,eY⟩,hs,(iK 0),(iK 0)⟩ ?_
 rintro b _ a5 ⟨⟨d,rfl⟩,hs,w,y⟩ p a D
 refine cT 1 (cs ?_)
 refine cc _ a ?_ ?_
 ·intro hc a
  refine ckt ?_
  refine zn (fun Z=>∀ (q:Int) (d:Env) (l:K),Step [] c l→I64 q→zcj b q=some p→cwp Tryz.prog 44 (sub (zB Tryz.f238) [1,1,1,0,0,1,0,1,1]) Z (ups d [(0,pt g h),(1,iv p1),(5,iv q),(8,iv b.2)]) l) ?_ fun J2=>?_
  ·intro q d l hs a8 a
   refine cr (od 2 (oe ?_))
   exact ze (sj a).symm ⟨⟨_,eY⟩,hs,a8,(zr _)⟩
  refine cs (cb 1 (cO 2 (otx (od 4 (o1 15 49 (vl s p0.2.1 m) ((Y.step0 hs).one (o:=4) rfl) (od 1 (bE a fun j a9 a=>?_)))))))
  obtain ⟨d5,d6,E,G,H,e3,e,I⟩:=(T.step hs).idx a9
  obtain ⟨_,_,rfl,⟨_,_,rfl,⟨rfl,b0⟩,⟨rfl,b1⟩⟩,⟨rfl,f0⟩⟩:=I
  replace e:PubAt a5 d5 (d6+p1.toNat*3) [iv j.1.1,iv j.1.2,iv j.2]:=e
  refine oi 17 49 110 3 p0.2.1.length m .i64 p1 E G H (od 1 (oN 19 103 [iv j.1.1,iv j.1.2] (e.at.part 0 2).2 (od 1 (bE a fun f5 b2 a=>ocl 21 (zbn b0 b1 y b2) ?_))))
  rintro _ f1 ⟨d7,rfl,b3,b4⟩
  replace hs:=hs.tr0 d7
  refine bE a fun z b5 a=>ocl 22 (zmm ((Y.step0 hs).part 0 8) (f3.step hs) (f6.step hs) (f9.step hs) a0 (T.step hs) (d0.step hs) (U.step hs) (d2.step hs) b3 b4 b5) ?_
  rintro _ A ⟨d8,rfl,f2⟩
  replace hs:=hs.tr0 d8
  refine dT 1 ?_
  refine zn (fun Z=>∀ (B:Bool) (d:Env),zci b B=some p→cwp Tryz.prog 44 (sub (zB Tryz.f238) [1,1,1,0,0,1,1,0,0,1,0,1,1]) Z (ups d [(0,pt g h),(1,iv p1),(5,iv b.1),(6,iv b.2),(8,iv b.2),(37,.bool B)]) A) ?_ fun J3=>?_
  ·intro B d a
   refine cc _ a ?_ ?_
   ·intro hc a
    refine cr (od 2 (bE a fun V b6 a=>oq 40 (iv V) (fun _=>zqF (yk:=.i64) kr b6) (od 2 (oe (zd (zb ?_))))))
    exact zk eY (J2 (ior .i64 b.1 V)  _ _ hs (zwR _ _) a)
   intro hc a
   refine ck (zd (zb ?_))
   exact zk eY (J2 b.1  _ _ hs w a)
  refine cs (cd 13 (dd 3 ?_))
  refine dsp 26 (decide (z>p1)) a ?_ ?_
  ·intro hg a
   refine ds 27 (ds 28 (ds 29 (ds 30 (ds 31 (ds 32 (ds 33 (ds 34 (ds 35 (de (os 36 (dT 1 ?_)))))))))))
   exact zk eY (J3 false  _  a)
  intro hg a
  refine dd 3 (d1 30 32 (vl t p0.2.2.2.1 n) ((Y.step0 hs).one (o:=6) rfl) (dd 1 (bE a fun X b7 a=>?_)))
  obtain ⟨e0,e1,L,M,N,e4,f,O⟩:=(U.step hs).idx b7
  obtain ⟨rfl,b8⟩:=O
  replace f:PubAt A e0 (e1+z.toNat*1) [iv X]:=f
  refine di 32 32 2 1 p0.2.2.2.1.length n .i64 z L M N (d1 33 2 (iv X) (f.at.one (o:=0) rfl) (dd 1 (bE a fun f7 b9 a=>dc 35 (zl1 y b9) fun c0=>de (bE a fun e2 c1 a=>ocl 36 (zp9 b8 c0 c1) ?_))))
  rintro _ _ ⟨rfl,rfl⟩
  refine dT 1 ?_
  exact zk eY (J3 e2  _  a)
 intro hc a
 refine cx 0 (zh ?_)
 have hx:=D _ (sj a).symm
 subst hx
 replace a:=C
 refine zi ?_
 exact zq eY (J1 b.1  _ _ hs w a)
theorem zlo {k:K} {p0:LP} {j:OA} {c2 fi1:Nat} {q:Tag} {p1:((Int×Int)×Int)→Option Bool} {bv1 cv1:Array Value} (f3:Gr tPlaced false q k 105 j c2 p0) (a3:q.1<k.H.size) (c6:zcL Tryz.prog fi1=true) (H1:∀ {m:K},Step (blk j c2) k m→∀ {q1_0:(Int×Int)×Int} (h4:I64 q1_0.1.1) (h5:I64 q1_0.1.2) (h6:I64 q1_0.2) {r:Bool},p1 q1_0=some r→Fn Tryz.prog fi1 (bv1++#[.agg #[iv q1_0.1.1,iv q1_0.1.2,iv q1_0.2]]++cv1) m (fun v κ''=>Step [] m κ''∧v=.bool r)) {r:LP} (d:zcM p0 p1=some r) :
 Fn Tryz.prog 244 #[vl j p0 c2,.func (.func fi1) bv1 cv1] k (fun v m=>Step (blk j c2) k m∧∃ (a8:OA) (c9:Nat),v=vl a8 r c9∧Gr tPlaced false q m 105 a8 c9 r∧(∀ g∈blk a8 c9,g∈(blk j c2)∨k.H.size≤g)):=by
 refine fnc 42 (blk j c2) Tryz.func244 Tryz.ntmps244 fun hs=>?_
 have C:∀ g∈blk j c2,g∈(blk j c2)∨k.H.size≤g:=fun g hg=>.inl (by simp [hg])
 refine cO 1 (otx (od 2 (bE d fun c7 d8 d=>ocl 10 (Fn.borrow f3 (fun _ _ sb gb=>zhi gb.sl (fi1:=fi1) (bv1:=bv1) (cv1:=cv1) c6 (fun s=>H1 ((hs.trM C sb).tr0 s)) d8)) ?_)))
 rintro _ g3 ⟨c8,rfl,d9⟩
 replace hs:=hs.tr0 c8
 replace f3:=f3.step0 c8
 refine dT 1 (cs (cT 2 ?_))
 refine cc _ d ?_ ?_
 ·intro hc d
  refine cT 2 (crt (zc ?_))
  obtain rfl:=sj d
  exact rT 4 (vl j p0 c2) ⟨hs,_,_,rfl,f3,C⟩
 intro hc d
 refine ckt (cs (cT 3 (cb 0 ?_)))
 refine zj 0 (fun Z=>∀ (M:LP) (u:Int) (A:OA) (B:Nat) (H:Env) (D:K) (hs:Step (blk j c2) k D) (N:Gr tPlaced false q D 105 A B M) (y:(∀ g∈blk A B,g∈(blk j c2)∨k.H.size≤g)) (e0:I64 u),zdC M u=some r→Z (ups H [(0,vl A M B),(5,iv u)]) D) ?_ fun J1=>?_
 ·intro M u A B H D hs N y e0 d
  refine zf (zb (cO 2 (bE d fun f1 a5 d=>zzc 38 0 (T:=44) (lo:=u) [iv 0,iv 0,iv 0] (z:=((0,0),0)) N ⟨_,_,rfl,⟨_,_,rfl,⟨rfl,(iK 0)⟩,⟨rfl,(iK 0)⟩⟩,⟨rfl,(iK 0)⟩⟩ a5 fun g5 f2 e1=>?_)))
  replace hs:=hs.trM y f2
  replace N:=e1
  have Y:=zu3 a5
  refine zam (eA 5 (v:=iv u) (za (t:=0) (v:=vl A f1 B) rfl (by unfold vl;rw [Y];kernel_rfl))) (otx (od 2 (bE d fun f4 e2 d=>osv 41 (T:=44) (hi:=u) N e2 fun f5=>?_)))
  have a6:=y
  refine dT 1 (crt ?_)
  obtain rfl:=sj d
  exact rT 4 (vl A f4 B) ⟨hs,_,_,rfl,f5,a6⟩
 refine bE d fun f6 e3 b7=>zp (F:=zbp p1) (J:=fun a E' m=>∃ (I:OA) (p:Nat),(∃ H,E'=ups H [(0,vl I a.1 p),(1,.func (.func fi1) bv1 cv1),(5,iv a.2.1),(6,iv a.2.2)])∧Step (blk j c2) k m∧Gr tPlaced false q m 105 I p a.1∧(∀ g∈blk I p,g∈(blk j c2)∨k.H.size≤g)∧I64 a.2.1∧I64 a.2.2) (s0:=(p0,c7,w64 (c7+1))) (x:=f6) kr e3 ⟨_,_,⟨_,eY⟩,hs,f3,C,d9,(zr _)⟩ ?_
 rintro a _ e4 ⟨I,p,⟨H,rfl⟩,hs,f,n,a7,g7⟩ b8 d b9
 refine cs (cT 4 ?_)
 refine cc _ d ?_ ?_
 ·intro hc d
  refine ckt ?_
  refine zn (fun Z=>∀ (O:LP) (P:Int) (Q:OA) (R:Nat) (H:Env) (E:K) (hs:Step (blk j c2) k E) (d0:Gr tPlaced false q E 105 Q R O) (L:(∀ g∈blk Q R,g∈(blk j c2)∨k.H.size≤g)) (a9:I64 P),zbq a O P=some b8→cwp Tryz.prog 42 (sub (zB Tryz.f244) [1,1,0,0,1,0,1,1,1]) Z (ups H [(0,vl Q O R),(1,.func (.func fi1) bv1 cv1),(5,iv P),(6,iv a.2.2)]) E) ?_ fun J2=>?_
  ·intro O P Q R H E hs d0 L a9 d
   refine cr (od 3 (oe ?_))
   exact ze (sj d).symm ⟨_,_,⟨_,eY⟩,hs,d0,L,a9,(zr _)⟩
  refine cs (cb 1 (cO 2 (bE d fun c e5 d=>?_)))
  obtain ⟨f8,c0,c1,c3,g0,G,c4⟩:=f.idx e5
  obtain ⟨_,_,rfl,⟨_,_,rfl,⟨rfl,b0⟩,⟨rfl,b1⟩⟩,⟨rfl,b2⟩⟩:=c4
  replace G:At e4 f8 (0+a.2.2.toNat*3) [iv c.1.1,iv c.1.2,iv c.2]:=G
  refine oi 24 44 105 3 a.1.length p .i64 a.2.2 (off:=0) c0 c1 c3 (oN 25 105 [iv c.1.1,iv c.1.2,iv c.2] (G.part 0 3).2 (xT 7 105 (k.H.size,244001) hs.1 [iv 0,iv 0,iv 0] fun h7 g8 d2 h=>?_))
  replace hs:=hs.tr0 d2
  replace f:=f.step0 d2
  refine xM 105 [iv c.1.1,iv c.1.2,iv c.2] h fun g9 d3 _ b3=>?_
  replace hs:=hs.trB h.ge d3
  replace f:=f.step d3 (f.nb h (zed (i:=244001) a3))
  replace h:=b3
  refine otx (od 1 (oN 27 105 [iv c.1.1,iv c.1.2,iv c.2] (h.at.part 0 3).2 (bE d fun h8 e6 d=>?_)))
  refine ocl 28 (H1 hs (q1_0:=c) b0 b1 b2 e6) ?_ kr (fun w=>zaR (show _=(callFunc fi1 (bv1++#[.agg #[iv c.1.1,iv c.1.2,iv c.2]]++cv1)).run _ w by kernel_rfl) c6)
  rintro _ e7 ⟨b4,rfl⟩
  replace hs:=hs.tr0 b4
  replace f:=f.step0 b4
  replace h:=h.step0 b4
  refine dT 1 ?_
  refine cc _ d ?_ ?_
  ·intro hc d
   refine cO 2 (oN 32 105 [iv c.1.1,iv c.1.2,iv c.2] (h.at.part 0 3).2 (bE d fun b5 e8 d=>?_))
   obtain ⟨d4,S,U,V,g1,X,c5⟩:=f.idx e8
   obtain ⟨_,_,rfl,⟨_,_,rfl,⟨rfl,h0⟩,⟨rfl,h1⟩⟩,⟨rfl,h2⟩⟩:=c5
   replace X:At e7 d4 (0+a.2.1.toNat*3) [iv b5.1.1,iv b5.1.2,iv b5.2]:=X
   refine oi 33 44 105 3 a.1.length p .i64 a.2.1 (off:=0) S U V (bE d fun d5 b6 d=>zau (T:=105) (t:=tPlaced) (τ:=q) (e:=105) (ix:=a.2.1) (x':=c) (b:=d4) (δ:=0) (cp:=p) (l:=a.1) (vs:=[iv c.1.1,iv c.1.2,iv c.2]) (.agg #[iv c.1.1,iv c.1.2,iv c.2]) kr kr S f U V kr kr kr kr (fun cs hx=>by obtain ⟨x,_,ho⟩:=hx;rw [zM ((tPlaced.len ho).trans kr)];exact ⟨_,_,rfl,⟨_,_,rfl,⟨rfl,b0⟩,⟨rfl,b1⟩⟩,⟨rfl,b2⟩⟩) fun h3 f9 e9=>?_)
   replace hs:=hs.trM n f9
   replace f:=e9
   replace f:=zcF b6 f
   have a0:=zL b6
   refine zam (eA 6 (v:=iv a.2.2) (eA 5 (v:=iv a.2.1) (eA 1 (v:=.func (.func fi1) bv1 cv1) (za (t:=0) (v:=vl I d5 p) rfl (by unfold vl;rw [a0];kernel_rfl))))) (otr (od 3 (oe (zd (zb ?_)))))
   exact zk eY (J2 d5 (w64 (a.2.1+1)) _ _ _ _ hs f n (zr _) d)
  intro hc d
  refine ck (zd (zb ?_))
  exact zk eY (J2 a.1 a.2.1 _ _ _ _ hs f n a7 d)
 intro hc d
 refine cx 0 (zh ?_)
 have hx:=b9 _ (sj d).symm
 subst hx
 replace d:=b7
 refine zi ?_
 exact zq eY (J1 a.1 a.2.1 _ _ _ _ hs f n a7 d)
theorem znJ {j:K} {p0:List (Int×Int)} {p:OA} {c2:Nat} {p1:Int×Int} (D:Sl tPoint j p c2 p0) (N:I64 p1.1) (O:I64 p1.2) {r:Int} (a:ziy p0 p1=some r) :
 Fn Tryz.prog 252 #[vl p p0 c2,.agg #[iv p1.1,iv p1.2]] j (fun v g=>Step [] j g∧v=iv r∧I64 r):=by
 refine fnc 19 [] Tryz.func252 Tryz.ntmps252 fun hs=>csr (xO 3 103 (j.H.size,252001) hs.1 [iv p1.1,iv p1.2] fun E h G q=>?_)
 replace hs:=hs.tr0 G
 refine dT 1 (cs (cT 3 (cb 0 ?_)))
 refine zj 0 (fun Z=>∀ (i:Env),zgl=some r→Z (i) h) ?_ fun H=>?_
 ·intro i a
  refine zf (zb (cT 1 (crt ?_)))
  obtain rfl:=sj a
  exact rT 4 (iv (-1)) ⟨hs,rfl,(iK (-1))⟩
 refine bE a fun y s e=>zp (F:=zgk p0 p1) (J:=fun b I g=>(∃ i,I=ups i [(0,vl p p0 c2),(3,pt E 0),(7,iv (p0.length:Int)),(8,iv b)])∧h=g∧I64 b) (s0:=0) (x:=y) kr s ⟨⟨_,eY⟩,rfl,(iK 0)⟩ ?_
 rintro b _ _ ⟨⟨i,rfl⟩,rfl,t⟩ B a f
 refine cT 1 (cs ?_)
 refine cc _ a ?_ ?_
 ·intro u a
  refine ckt (cs (cb 1 (cT 2 (cs (cd 5 (dN 11 103 [iv p1.1,iv p1.2] (q.at.part 0 2).2 (dd 2 (bE a fun c w a=>?_))))))))
  obtain ⟨z,A,k,l,m,C,d,n⟩:=(D.step hs).idx w
  obtain ⟨_,_,rfl,⟨rfl,L⟩,⟨rfl,M⟩⟩:=n
  replace d:PubAt h z (A+b.toNat*2) [iv c.1,iv c.2]:=d
  refine di 14 170 103 2 p0.length c2 .i64 b k l m (dN 15 103 [iv c.1,iv c.2] (d.at.part 0 2).2 (de (oq 16 (.bool (decide (p1.1=c.1)&&decide (p1.2=c.2))) (fun _=>zfA (T:=103) (k1:=.i64) (k2:=.i64) kr kr) (ot ?_))))
  refine cc _ a ?_ ?_
  ·intro u a
   refine cT 2 (crt (zg (zc ?_)))
   have hx:=f _ (sj a).symm
   subst hx
   replace a:=e
   refine zv (zg (zc ?_))
   obtain rfl:=sj a
   exact rT 4 (iv b) ⟨hs,rfl,t⟩
  intro u a
  refine ck (zd (zb (cr (od 2 (oe ?_)))))
  exact ze (sj a).symm ⟨⟨_,eY⟩,rfl,(zr _)⟩
 intro u a
 refine cx 0 (zh ?_)
 have hx:=f _ (sj a).symm
 subst hx
 replace a:=e
 refine zi ?_
 exact zq rfl (H   _  a)
theorem zma {a:K} {p0:List (Int×Int)} {d:OA} {c2:Nat} {p1:Int×Int} (j:Sl tPoint a d c2 p0) (e:I64 p1.1) (f:I64 p1.2) {r:Bool} (b:zdL p0 p1=some r) :
 Fn Tryz.prog 246 #[vl d p0 c2,.agg #[iv p1.1,iv p1.2]] a (fun v g=>Step [] a g∧v=.bool r):=by
 refine fnc 9 [] Tryz.func246 Tryz.ntmps246 fun hs=>csr (xO 3 103 (a.H.size,246001) hs.1 [iv p1.1,iv p1.2] fun q p k c=>?_)
 replace hs:=hs.tr0 k
 refine od 1 (otx (od 1 (oN 6 103 [iv p1.1,iv p1.2] (c.at.part 0 2).2 (bE b fun l h b=>ocl 7 (znJ (j.step hs) e f h) ?_))))
 rintro _ m ⟨i,rfl,n⟩
 replace hs:=hs.tr0 i
 refine dT 2 (crt ?_)
 obtain rfl:=sj b
 exact rT 4 (bW (l≥0)) ⟨hs,rfl⟩
theorem zj0 {a:K} {p0:(Int×Int)×Int} {p1:List (Int×Int)} {b c:Nat} {d:OA} {e:Nat} (i:I64 p0.1.1) (j:I64 p0.1.2) (q:I64 p0.2) (m1:At a b c [vl d p1 e]) (f6:Sl tPoint a d e p1) {r:Bool} (f:zdF p0 p1=some r) :
 Fn Tryz.prog 245 #[.agg #[iv p0.1.1,iv p0.1.2,iv p0.2],pt b c] a (fun v k=>Step [] a k∧v=.bool r):=by
 refine fnc 8 [] Tryz.func245 Tryz.ntmps245 fun hs=>csr (xO 2 105 (a.H.size,245001) hs.1 [iv p0.1.1,iv p0.1.2,iv p0.2] fun t s n g=>?_)
 replace hs:=hs.tr0 n
 refine od 1 (otx (o1 4 170 (vl d p1 e) ((m1.step0 hs).one (o:=0) rfl) (od 1 (oN 6 103 [iv p0.1.1,iv p0.1.2] (g.at.part 0 2).2 (bE f fun l h f=>ocl 7 (zma (f6.step hs) i j h) ?_)))))
 rintro _ p ⟨m,rfl⟩
 replace hs:=hs.tr0 m
 refine dT 1 (crt ?_)
 obtain rfl:=sj f
 exact rT 3 (.bool l) ⟨hs,rfl⟩
theorem zlF {i:K} {p0:LP} {w x:OA} {c2 y:Nat} {p1:List (Int×Int)} (N:Sl tPlaced i w c2 p0) (f6:Sl tPoint i x y p1) {r:(LP)} (j:zcQ p0 p1=some r) :
 Fn Tryz.prog 239 #[.agg #[vl w p0 c2],vl x p1 y] i (fun v z=>Step [] i z∧∃ (H:OA) (I:Nat),v=.agg #[vl H r I]∧Sl tPlaced z H I r):=by
 refine fnc 11 [] Tryz.func239 Tryz.ntmps239 fun hs=>csr (xO 2 46 (i.H.size,239001) hs.1 [vl w p0 c2] fun Z O J c=>?_)
 replace hs:=hs.tr0 J
 refine zo (d:=3) (T:=170) (i.H.size,239002) hs.1 (vl x p1 y) [vl x p1 y] kr kr rfl fun L P A b=>?_
 replace hs:=hs.tr0 A
 replace c:=c.step0 A
 refine xT 4 46 (i.H.size,239003) hs.1 [sl none 0 0] fun M Q k a=>?_
 replace hs:=hs.tr0 k
 replace c:=c.step0 k
 replace b:=b.step0 k
 refine otx (od 1 (o1 6 44 (vl w p0 c2) (c.at.one (o:=0) rfl) (bE j fun a0 E j=>ocl 7 (zjD (N.step hs) E) ?_)))
 rintro _ R ⟨l,a2,a3,a5,rfl,f,g⟩
 replace f:=ga hs.1 f
 replace hs:=hs.tr0 l
 replace b:=b.step0 l
 replace a:=a.step0 l
 refine od 1 ?_
 obtain ⟨a6,h,m,g⟩:=g.low f b.tlt
 refine bE j fun n F j=>ocl 9 (zlo g m (fi1:=245) (bv1:=#[]) (cv1:=#[pt L 0]) kr (by intro _ s _ w0 S U _ hp;exact zig kr ((zj0 w0 S U (b.at.step s (g.bn b (zl kr))) ((f6.step hs).step s) hp))) F) ?_
 rintro _ V ⟨B,p,q,rfl,e,t⟩
 clear t
 replace hs:=hs.trM (ztD (g.own h)) B
 replace a:=a.step B (g.bn a (zl kr))
 refine od 1 (xM 46 [vl p n q] a fun X C _ u=>?_)
 replace hs:=hs.trB a.ge C
 replace e:=e.step C (e.nb a (zl kr))
 replace a:=u
 refine ot (zdA e fun Y D G=>?_)
 replace hs:=hs.trG (e.own h) D
 replace a:=a.step D (e.bn a (zl kr))
 replace e:=G
 refine crt ?_
 obtain rfl:=sj j
 refine rt [.cell 4 46] [.agg #[vl p n q]] ⟨⟨M,0,[vl p n q],rfl,rfl,kr,kr,(a.at.part 0 1).2⟩,trivial⟩ ?_
 exact ⟨hs,_,_,rfl,e.sl⟩
theorem znT {e:K} {p0:LP} {f:OA} {c2:Nat} {p1:Int×Int} (w:Sl tPlaced e f c2 p0) (x:I64 p1.1) (y:I64 p1.2) {r:Int} (b:zec p0 p1=some r) :
 Fn Tryz.prog 240 #[.agg #[vl f p0 c2],.agg #[iv p1.1,iv p1.2]] e (fun v z=>Step [] e z∧v=iv r∧I64 r):=by
 refine fnc 21 [] Tryz.func240 Tryz.ntmps240 fun hs=>csr (xO 2 46 (e.H.size,240001) hs.1 [vl f p0 c2] fun Q O D a=>?_)
 replace hs:=hs.tr0 D
 refine xO 3 103 (e.H.size,240002) hs.1 [iv p1.1,iv p1.2] fun P E l g=>?_
 replace hs:=hs.tr0 l
 replace a:=a.step0 l
 refine dT 1 (cs (cO 1 (o1 9 44 (vl f p0 c2) (a.at.one (o:=0) rfl) (oN 10 103 [iv p1.1,iv p1.2] (g.at.part 0 2).2 (bE b fun m p b=>ocl 11 (zd2 (w.step hs) x y (fi2:=169) (bv2:=#[]) (cv2:=#[]) kr (by intro _ s _ _ w0 F G H I _ hp;exact zig kr ((zij w0 F G H I hp))) p) ?_)))))
 rintro _ q ⟨n,rfl,J⟩
 replace hs:=hs.tr0 n
 replace a:=a.step0 n
 refine od 5 (otx (dT 1 ?_))
 refine cc _ b ?_ ?_
 ·intro L b
  refine cO 1 (o1 16 44 (vl f p0 c2) (a.at.one (o:=0) rfl) (od 1 (bE b fun d t b=>?_)))
  obtain ⟨A,B,h,i,j,C,c,k⟩:=(w.step hs).idx t
  obtain ⟨_,_,rfl,⟨_,_,rfl,⟨rfl,M⟩,⟨rfl,N⟩⟩,⟨rfl,u⟩⟩:=k
  replace c:PubAt q A (B+m.1.toNat*3) [iv d.1.1,iv d.1.2,iv d.2]:=c
  refine oi 18 44 105 3 p0.length c2 .i64 m.1 h i j (od 1 (o1 20 2 (iv d.2) (c.at.one (o:=2) rfl) (dT 1 (crt (zc ?_)))))
  obtain rfl:=sj b
  exact rT 4 (iv d.2) ⟨hs,rfl,u⟩
 intro L b
 refine ckt (cT 1 (crt ?_))
 obtain rfl:=sj b
 exact rT 4 (iv (-1)) ⟨hs,rfl,(iK (-1))⟩
theorem zmn {h:K} {p0:(TS×(LP)×Int)×LP×(LP)×LI×LI} {i j:Nat} {a1 a4 a7 a0 a3 d5 d6:OA} {c2 c5 c8 O a5 d7 d8:Nat} {p1:Int} (Y:At h i j [vl a1 p0.1.1.1 c2,vl a4 p0.1.1.2 c5,vl a7 p0.1.2.1 c8,iv p0.1.2.2,vl a0 p0.2.1 O,vl a3 p0.2.2.1 a5,vl d5 p0.2.2.2.1 d7,vl d6 p0.2.2.2.2 d8]) (f3:Sl tGlue h a1 c2 p0.1.1.1) (f6:Sl tTile h a4 c5 p0.1.1.2) (f9:Sl tPlaced h a7 c8 p0.1.2.1) (e4:I64 p0.1.2.2) (d9:Sl tPlaced h a0 O p0.2.1) (e0:Sl tPlaced h a3 a5 p0.2.2.1) (g7:Sl tI64 h d5 d7 p0.2.2.2.1) (g8:Sl tI64 h d6 d8 p0.2.2.2.2) (e5:I64 p1) {r:Bool} (f:zdN p0 p1=some r) :
 Fn Tryz.prog 235 #[pt i j,iv p1] h (fun v w=>Step [] h w∧v=.bool r):=by
 refine fnc 76 [] Tryz.func235 Tryz.ntmps235 fun hs=>cO 1 (otx (od 3 (o1 13 49 (vl a0 p0.2.1 O) ((Y.step0 hs).one (o:=4) rfl) (od 1 (bE f fun c e6 f=>?_)))))
 obtain ⟨g9,h0,c4,c6,c7,i4,G,c9⟩:=d9.idx e6
 obtain ⟨_,_,rfl,⟨_,_,rfl,⟨rfl,I⟩,⟨rfl,L⟩⟩,⟨rfl,i6⟩⟩:=c9
 replace G:PubAt h g9 (h0+p1.toNat*3) [iv c.1.1,iv c.1.2,iv c.2]:=G
 refine oi 15 49 110 3 p0.2.1.length O .i64 p1 c4 c6 c7 (oN 16 110 [iv c.1.1,iv c.1.2,iv c.2] (G.at.part 0 3).2 (xT 5 110 (h.H.size,235001) hs.1 [iv 0,iv 0,iv 0] fun p i7 h1 b=>?_))
 replace hs:=hs.tr0 h1
 refine xM 110 [iv c.1.1,iv c.1.2,iv c.2] b fun i8 h2 _ a6=>?_
 replace hs:=hs.trB b.ge h2
 replace b:=a6
 refine otx (od 1 (oN 18 103 [iv c.1.1,iv c.1.2] (b.at.part 0 2).2 (zJ (d:=19) (T:=170) (e:=103) (t:=tPoint) (pub:=true) (τ:=(h.H.size,235002)) (len:=1) (l:=[c.1]) (parts:=#[(0,.agg #[iv c.1.1,iv c.1.2])]) (cs:=[iv c.1.1,iv c.1.2]) kr kr kr kr hs.1 rfl ⟨_,_,rfl,⟨_,_,rfl,⟨rfl,I⟩,⟨rfl,L⟩⟩,rfl⟩ kr fun k8 i9 e1 h3=>?_)))
 replace hs:=hs.tr0 e1
 replace b:=b.step0 e1
 refine dT 1 (cs (cT 1 (cb 0 ?_)))
 refine zj 0 (fun Z=>∀ (P:List (Int×Int)) (a8:OA) (a9:Nat) (q:Env) (C:K),Step [] h C→Gr tPoint true (h.H.size,235002) C 103 a8 a9 P→Box (h.H.size,235001) C p [iv c.1.1,iv c.1.2,iv c.2] 110→zet p0 c P=some r→Z (ups q [(0,pt i j),(5,pt p 0),(6,vl a8 P a9)]) C) ?_ fun J1=>?_
 ·intro P a8 a9 q C hs h4 b f
  refine zf (zb (cO 3 (oN 39 46 [vl a3 p0.2.2.1 a5] ((Y.step0 hs).part 5 1).2 (od 1 (bE f fun y e7 f=>ocl 41 (zlF (e0.step hs) h4.sl e7) ?_)))))
  rintro _ j2 ⟨e2,A,B,rfl,m⟩
  replace hs:=hs.tr0 e2
  replace b:=b.step0 e2
  refine xT 8 46 (h.H.size,235004) hs.1 [sl none 0 0] fun Q j3 b0 g=>?_
  replace hs:=hs.tr0 b0
  replace m:=m.step b0
  replace b:=b.step0 b0
  refine xM 46 [vl A y B] g fun j4 b1 _ b2=>?_
  replace hs:=hs.trB g.ge b1
  replace m:=m.step b1
  replace b:=b.step b1 (nm1 (b.ne g (zl kr)))
  replace g:=b2
  refine ot (cs (cO 5 (o1 47 41 (vl a4 p0.1.1.2 c5) ((Y.step0 hs).one (o:=1) rfl) (dT 2 (cb 2 ?_)))))
  refine zj 2 (fun Z=>∀ (q:Env) (M:K),Step [] h M→zh2=some r→Z (q) M) ?_ fun J2=>?_
  ·intro q M hs f
   refine zf (zb (cT 1 (crt ?_)))
   obtain rfl:=sj f
   exact rT 4 ff ⟨hs,rfl⟩
  refine bE f fun h5 e8 R=>zp (F:=zaU p0 c y) (J:=fun n E' w=>(∃ q,E'=ups q [(0,pt i j),(5,pt p 0),(8,pt Q 0),(48,iv (p0.1.1.2.length:Int)),(49,iv n)])∧Step [] h w∧I64 n∧Sl tPlaced w A B y∧Box (h.H.size,235001) w p [iv c.1.1,iv c.1.2,iv c.2] 110∧Box (h.H.size,235004) w Q [vl A y B] 46) (s0:=0) (x:=h5) kr e8 ⟨⟨_,eY⟩,hs,(iK 0),m,b,g⟩ ?_
  rintro n _ j6 ⟨⟨q,rfl⟩,hs,f0,m,b,g⟩ d0 f S
  refine cT 1 (cs ?_)
  refine cc _ f ?_ ?_
  ·intro N f
   refine ckt (cs (cb 3 (cT 2 ?_)))
   refine zn (fun Z=>∀ (b3:Bool) (q:Env) (z:K),Step [] h z→Sl tPlaced z A B y→Box (h.H.size,235001) z p [iv c.1.1,iv c.1.2,iv c.2] 110→Box (h.H.size,235004) z Q [vl A y B] 46→zcm n b3=some d0→cwp Tryz.prog 76 (sub (zB Tryz.f235) [1,1,0,0,1,1,0,0,1,0,1,1,1,1,1]) Z (ups q [(0,pt i j),(5,pt p 0),(8,pt Q 0),(48,iv (p0.1.1.2.length:Int)),(49,iv n),(74,.bool b3)]) z) ?_ fun J3=>?_
   ·intro b3 q z hs m b g f
    refine cc _ f ?_ ?_
    ·intro N f
     refine cT 1 (crt (zg (zc ?_)))
     have hx:=S _ (sj f).symm
     subst hx
     replace f:=R
     refine zv (zg (zc ?_))
     obtain rfl:=sj f
     exact rT 4 tt ⟨hs,rfl⟩
    intro N f
    refine ck (zd (zb (cr (od 2 (oe ?_)))))
    exact ze (sj f).symm ⟨⟨_,eY⟩,hs,(zr _),m,b,g⟩
   refine cs (cx_ 21 [0,1,2,3,4,5,6,7,8,9,10,11,12,13,14,16,17,18,19,20,15] [15] 21 [] (xp 52 (iv n) (xp 53 (pt p 2) (x1 54 2 (iv c.2) b.at 2 rfl (xp 55 (.bool (!decide (n=c.2))) ?_)))))
   refine xsp 56 (!decide (n=c.2)) f ?_ ?_
   ·intro hg f
    refine xs 57 (xs 58 (xs 59 (xs 60 (xs 61 (xs 62 (xs 63 (xs 64 (xs 65 (xs 66 (xs 68 (xs 69 (xs 70 (xs 71 (xs 72 (xs 67 (xe (os 73 (dT 1 ?_))))))))))))))))))
    exact zk eY (J3 false  _ _ hs m b g f)
   intro hg f
   refine xp 57 (pt i j) (xp 58 (pt i j) (xp 59 (pt i j) (xp 60 (pt i j) (xN 61 43 [vl a1 p0.1.1.1 c2,vl a4 p0.1.1.2 c5] (Y.step0 hs) 0 2 rfl (xp 62 (pt p 0) (xN 63 103 [iv c.1.1,iv c.1.2] b.at 0 2 rfl (xp 64 (iv n) (xN 65 46 [vl A y B] g.at 0 1 rfl (xp 66 (.func (.func 240) #[.agg #[vl A y B]] #[]) (xp 68 (pt i j) (xp 69 (pt i j) (xp 70 (pt i j) (xp 71 (pt i (j+3)) (x1 72 2 (iv p0.1.2.2) (Y.step0 hs) 3 rfl (bE f fun h7 f1 f=>xcl 67 (zhm (f3.step hs) (f6.step hs) I L f0 (fi3:=240) (bv3:=#[.agg #[vl A y B]]) (cv3:=#[]) kr (by intro _ s _ w0 w1 _ hp;exact zig kr ((znT (m.step s) w0 w1 hp))) f1) ?_)))))))))))))))
   rintro _ j9 ⟨H,rfl,k0⟩
   refine ⟨H,?_⟩
   replace hs:=hs.tr0 H
   replace m:=m.step H
   replace b:=b.step0 H
   replace g:=g.step0 H
   refine xe (dT 2 ?_)
   exact zk eY (J3 (decide (h7≥p0.1.2.2))  _ _ hs m b g f)
  intro N f
  refine cx 2 (zh ?_)
  have hx:=S _ (sj f).symm
  subst hx
  replace f:=R
  refine zi ?_
  exact zq rfl (J2   _ _ hs  f)
 refine bE f fun h8 f2 d2=>zp (F:=zaV p0 p1 c) (J:=fun k E' w=>∃ (U:OA) (V:Nat),(∃ q,E'=ups q [(0,pt i j),(1,iv p1),(5,pt p 0),(6,vl U k.1 V),(20,iv k.2)])∧Step [] h w∧Gr tPoint true (h.H.size,235002) w 103 U V k.1∧I64 k.2∧Box (h.H.size,235001) w p [iv c.1.1,iv c.1.2,iv c.2] 110) (s0:=([c.1],0)) (x:=h8) kr f2 ⟨_,_,⟨_,eY⟩,hs,h3,(iK 0),b⟩ ?_
 rintro k _ k1 ⟨U,V,⟨q,rfl⟩,hs,u,b4,b⟩ d3 f d4
 refine cT 1 (cs ?_)
 refine cc _ f ?_ ?_
 ·intro N f
  refine ckt ?_
  refine zn (fun Z=>∀ (X:List (Int×Int)) (b5:OA) (b6:Nat) (q:Env) (D:K),Step [] h D→Gr tPoint true (h.H.size,235002) D 103 b5 b6 X→Box (h.H.size,235001) D p [iv c.1.1,iv c.1.2,iv c.2] 110→zcl k X=some d3→cwp Tryz.prog 76 (sub (zB Tryz.f235) [1,1,1,0,0,1,0,1,1,1]) Z (ups q [(0,pt i j),(1,iv p1),(5,pt p 0),(6,vl b5 X b6),(20,iv k.2)]) D) ?_ fun J4=>?_
  ·intro X b5 b6 q D hs i0 b f
   refine cr (od 2 (oe ?_))
   exact ze (sj f).symm ⟨_,_,⟨_,eY⟩,hs,i0,(zr _),b⟩
  refine cs (cb 1 (cO 2 (otx (od 2 (bE f fun k9 f4 f=>ocl 25 (zml ((Y.step0 hs).part 0 8) (f3.step hs) (f6.step hs) (f9.step hs) e4 (d9.step hs) (e0.step hs) (g7.step hs) (g8.step hs) e5 f4) ?_)))))
  rintro _ k2 ⟨b7,rfl,f5⟩
  replace hs:=hs.tr0 b7
  replace u:=u.step0 b7
  replace b:=b.step0 b7
  refine od 1 (bE f fun l0 f7 f=>ocl 27 (zp9 f5 b4 f7) ?_)
  rintro _ _ ⟨rfl,rfl⟩
  refine ot ?_
  refine cc _ f ?_ ?_
  ·intro N f
   refine cr (od 2 (oN 30 103 [iv c.1.1,iv c.1.2] (b.at.part 0 2).2 (od 1 (bE f fun E f8 f=>ocl 32 (zbn I L b4 f8) ?_))))
   rintro _ k3 ⟨b8,rfl,g0,g1⟩
   replace hs:=hs.tr0 b8
   replace u:=u.step0 b8
   replace b:=b.step0 b8
   refine zJ (d:=33) (T:=170) (e:=103) (t:=tPoint) (pub:=true) (τ:=(h.H.size,235003)) (len:=1) (l:=[E]) (parts:=#[(0,.agg #[iv E.1,iv E.2])]) (cs:=[iv E.1,iv E.2]) kr kr kr kr hs.1 rfl ⟨_,_,rfl,⟨_,_,rfl,⟨rfl,g0⟩,⟨rfl,g1⟩⟩,rfl⟩ kr fun i1 k4 b9 i2=>?_
   replace hs:=hs.tr0 b9
   replace u:=u.step0 b9
   replace b:=b.step0 b9
   refine bE f fun i3 g2 f=>zH (d:=34) (T:=170) (e:=103) (t:=tPoint) (pub:=true) (τ:=(h.H.size,235002)) (bytes:=16) (a:=U) (cp:=V) (l:=k.1) (a2:=i1) (c2:=1) (l2:=[E]) kr kr u i2.sl hs.1 kr g2 fun k5 k6 k7 c0 g3 hw=>?_
   clear hw
   replace hs:=hs.trG (u.own (fz _)) c0
   replace b:=b.step c0 (u.bn b (zl kr))
   refine od 1 (oe (zd (zb ?_)))
   exact zk eY (J4 i3 _ _ _ _ hs g3 b f)
  intro N f
  refine ck (zd (zb ?_))
  exact zk eY (J4 k.1 _ _ _ _ hs u b f)
 intro N f
 refine cx 0 (zh ?_)
 have hx:=d4 _ (sj f).symm
 subst hx
 replace f:=d2
 refine zi ?_
 exact zq eY (J1 k.1 _ _ _ _ hs u b f)
theorem zmk {c:K} {p0:((Int×Int)×Int)} (f:I64 p0.1.1) (g:I64 p0.1.2) (p:I64 p0.2) {r:(Int×Int)} (j:znN p0=some r) :
 Fn Tryz.prog 281 #[.agg #[iv p0.1.1,iv p0.1.2,iv p0.2]] c (fun v h=>Step [] c h∧v=.agg #[iv r.1,iv r.2]∧I64 r.1∧I64 r.2):=by
 refine fnc 6 [] Tryz.func281 Tryz.ntmps281 fun hs=>csr (xO 1 344 (c.H.size,281001) hs.1 [iv p0.1.1,iv p0.1.2,iv p0.2] fun s q k b=>?_)
 replace hs:=hs.tr0 k
 refine xT 2 103 (c.H.size,281002) hs.1 [iv 0,iv 0] fun l m e a=>?_
 replace hs:=hs.tr0 e
 replace b:=b.step0 e
 refine otx (od 2 (oN 5 103 [iv p0.1.1,iv p0.1.2] (b.at.part 0 2).2 (xM 103 [iv p0.1.1,iv p0.1.2] a fun n i _ d=>?_)))
 replace hs:=hs.trB a.ge i
 replace a:=d
 refine ot (crt ?_)
 obtain rfl:=sj j
 refine rt [.cell 2 103] [.agg #[iv p0.1.1,iv p0.1.2]] ⟨⟨l,0,[iv p0.1.1,iv p0.1.2],rfl,rfl,kr,kr,(a.at.part 0 2).2⟩,trivial⟩ ?_
 exact ⟨hs,rfl,f,g⟩
theorem zlz {a:K} {p0:((Int×Int)×Int)} (f:I64 p0.1.1) (g:I64 p0.1.2) (h:I64 p0.2) {r:Int} (c:zmI p0=some r) :
 Fn Tryz.prog 282 #[.agg #[iv p0.1.1,iv p0.1.2,iv p0.2]] a (fun v b=>Step [] a b∧v=iv r∧I64 r):=by
 refine fnc 3 [] Tryz.func282 Tryz.ntmps282 fun hs=>csr (xO 1 344 (a.H.size,282001) hs.1 [iv p0.1.1,iv p0.1.2,iv p0.2] fun j i d e=>?_)
 replace hs:=hs.tr0 d
 refine od 1 (otx (dT 1 (crt ?_)))
 obtain rfl:=sj c
 exact rT 2 (iv 1) ⟨hs,rfl,(iK 1)⟩
theorem zmJ {c:K} {p0:((Int×Int)×Int)} (f:I64 p0.1.1) (g:I64 p0.1.2) (p:I64 p0.2) {r:(Int×Int)} (j:zoe p0=some r) :
 Fn Tryz.prog 283 #[.agg #[iv p0.1.1,iv p0.1.2,iv p0.2]] c (fun v h=>Step [] c h∧v=.agg #[iv r.1,iv r.2]∧I64 r.1∧I64 r.2):=by
 refine fnc 6 [] Tryz.func283 Tryz.ntmps283 fun hs=>csr (xO 1 346 (c.H.size,283001) hs.1 [iv p0.1.1,iv p0.1.2,iv p0.2] fun s q k b=>?_)
 replace hs:=hs.tr0 k
 refine xT 2 103 (c.H.size,283002) hs.1 [iv 0,iv 0] fun l m e a=>?_
 replace hs:=hs.tr0 e
 replace b:=b.step0 e
 refine otx (od 2 (oN 5 103 [iv p0.1.1,iv p0.1.2] (b.at.part 0 2).2 (xM 103 [iv p0.1.1,iv p0.1.2] a fun n i _ d=>?_)))
 replace hs:=hs.trB a.ge i
 replace a:=d
 refine ot (crt ?_)
 obtain rfl:=sj j
 refine rt [.cell 2 103] [.agg #[iv p0.1.1,iv p0.1.2]] ⟨⟨l,0,[iv p0.1.1,iv p0.1.2],rfl,rfl,kr,kr,(a.at.part 0 2).2⟩,trivial⟩ ?_
 exact ⟨hs,rfl,f,g⟩
theorem zl0 {a:K} {p0:((Int×Int)×Int)} (f:I64 p0.1.1) (g:I64 p0.1.2) (h:I64 p0.2) {r:Int} (c:znf p0=some r) :
 Fn Tryz.prog 284 #[.agg #[iv p0.1.1,iv p0.1.2,iv p0.2]] a (fun v b=>Step [] a b∧v=iv r∧I64 r):=by
 refine fnc 3 [] Tryz.func284 Tryz.ntmps284 fun hs=>csr (xO 1 346 (a.H.size,284001) hs.1 [iv p0.1.1,iv p0.1.2,iv p0.2] fun j i d e=>?_)
 replace hs:=hs.tr0 d
 refine od 1 (otx (dT 1 (crt ?_)))
 obtain rfl:=sj c
 exact rT 2 (iv 2) ⟨hs,rfl,(iK 2)⟩
theorem znP {c:K} {p0:((Int×Int)×Int)} (f:I64 p0.1.1) (g:I64 p0.1.2) (p:I64 p0.2) {r:(Int×Int)} (j:zpV p0=some r) :
 Fn Tryz.prog 285 #[.agg #[iv p0.1.1,iv p0.1.2,iv p0.2]] c (fun v h=>Step [] c h∧v=.agg #[iv r.1,iv r.2]∧I64 r.1∧I64 r.2):=by
 refine fnc 6 [] Tryz.func285 Tryz.ntmps285 fun hs=>csr (xO 1 348 (c.H.size,285001) hs.1 [iv p0.1.1,iv p0.1.2,iv p0.2] fun s q k b=>?_)
 replace hs:=hs.tr0 k
 refine xT 2 103 (c.H.size,285002) hs.1 [iv 0,iv 0] fun l m e a=>?_
 replace hs:=hs.tr0 e
 replace b:=b.step0 e
 refine otx (od 2 (oN 5 103 [iv p0.1.1,iv p0.1.2] (b.at.part 0 2).2 (xM 103 [iv p0.1.1,iv p0.1.2] a fun n i _ d=>?_)))
 replace hs:=hs.trB a.ge i
 replace a:=d
 refine ot (crt ?_)
 obtain rfl:=sj j
 refine rt [.cell 2 103] [.agg #[iv p0.1.1,iv p0.1.2]] ⟨⟨l,0,[iv p0.1.1,iv p0.1.2],rfl,rfl,kr,kr,(a.at.part 0 2).2⟩,trivial⟩ ?_
 exact ⟨hs,rfl,f,g⟩
theorem zmL {a:K} {p0:((Int×Int)×Int)} (f:I64 p0.1.1) (g:I64 p0.1.2) (h:I64 p0.2) {r:Int} (c:zog p0=some r) :
 Fn Tryz.prog 286 #[.agg #[iv p0.1.1,iv p0.1.2,iv p0.2]] a (fun v b=>Step [] a b∧v=iv r∧I64 r):=by
 refine fnc 3 [] Tryz.func286 Tryz.ntmps286 fun hs=>csr (xO 1 348 (a.H.size,286001) hs.1 [iv p0.1.1,iv p0.1.2,iv p0.2] fun j i d e=>?_)
 replace hs:=hs.tr0 d
 refine od 1 (otx (dT 1 (crt ?_)))
 obtain rfl:=sj c
 exact rT 2 (iv 3) ⟨hs,rfl,(iK 3)⟩
theorem zl2 {d:K} {p0:LP} {p:OA} {c2:Nat} (y:Sl tPlaced d p c2 p0) {r:((Int×Int)×Int)} (j:ziY p0=some r) :
 Fn Tryz.prog 268 #[vl p p0 c2] d (fun v q=>Step [] d q∧v=.agg #[iv r.1.1,iv r.1.2,iv r.2]∧I64 r.1.1∧I64 r.1.2∧I64 r.2):=by
 refine fnc 9 [] Tryz.func268 Tryz.ntmps268 fun hs=>csr (xT 2 110 (d.H.size,268001) hs.1 [iv 0,iv 0,iv 0] fun z s A b=>?_)
 replace hs:=hs.tr0 A
 refine otx (od 4 (bE j fun a k j=>?_))
 obtain ⟨t,u,e,f,g,x,c,h⟩:=(y.step hs).idx k
 obtain ⟨_,_,rfl,⟨_,_,rfl,⟨rfl,l⟩,⟨rfl,m⟩⟩,⟨rfl,n⟩⟩:=h
 replace c:PubAt s t (u+(w64 ((p0.length:Int) - 1)).toNat*3) [iv a.1.1,iv a.1.2,iv a.2]:=c
 refine oi 7 49 110 3 p0.length c2 .i64 (w64 ((p0.length:Int) - 1)) e f g (oN 8 110 [iv a.1.1,iv a.1.2,iv a.2] (c.at.part 0 3).2 (xM 110 [iv a.1.1,iv a.1.2,iv a.2] b fun B w _ i=>?_))
 replace hs:=hs.trB b.ge w
 replace b:=i
 refine ot (crt ?_)
 obtain rfl:=sj j
 refine rt [.cell 2 110] [.agg #[iv a.1.1,iv a.1.2,iv a.2]] ⟨⟨z,0,[iv a.1.1,iv a.1.2,iv a.2],rfl,rfl,kr,kr,(b.at.part 0 3).2⟩,trivial⟩ ?_
 exact ⟨hs,rfl,l,m,n⟩
theorem zqA {d:K} {p0:LG×LT} {h i e:OA} {c2 j f:Nat} {p1:LP} {k:Int} {l:Int} (F:Sl tGlue d h c2 p0.1) (f6:Sl tTile d i j p0.2) (p:Sl tPlaced d e f p1) (q:I64 k) (s:I64 l) {r:Int} (a:zms p0 p1 k l=some r) :
 Fn Tryz.prog 271 #[.agg #[vl h p0.1 c2,vl i p0.2 j],.agg #[vl e p1 f],iv k,iv l] d (fun v B=>Step [] d B∧v=iv r∧I64 r):=by
 refine fnc 34 [] Tryz.func271 Tryz.ntmps271 fun hs=>csr (xO 4 43 (d.H.size,271001) hs.1 [vl h p0.1 c2,vl i p0.2 j] fun I G C c=>?_)
 replace hs:=hs.tr0 C
 refine xO 5 46 (d.H.size,271002) hs.1 [vl e p1 f] fun J H m b=>?_
 replace hs:=hs.tr0 m
 replace c:=c.step0 m
 refine dT 1 (cs (cb 0 (csr (oN 10 43 [vl h p0.1 c2,vl i p0.2 j] (c.at.part 0 2).2 (oN 11 46 [vl e p1 f] (b.at.part 0 1).2 (bE a fun L t a=>ocl 12 (zcP (F.step hs) (f6.step hs) (p.step hs) t) ?_))))))
 rintro _ u ⟨n,rfl⟩
 replace hs:=hs.tr0 n
 replace b:=b.step0 n
 refine dT 2 ?_
 refine cc _ a ?_ ?_
 ·intro w a
  refine cT 1 (crt (zg (zc ?_)))
  obtain rfl:=sj a
  exact rT 8 (iv 1) ⟨hs,rfl,(iK 1)⟩
 intro w a
 refine zn (fun Z=>∀ (g:Bool) (D:Env),zeM g=some r→cwp Tryz.prog 34 (sub (zB Tryz.f271) [1,1,1,0,0,1]) Z (ups D [(14,.bool g)]) u) ?_ fun x=>?_
 ·intro g D a
  refine cc _ a ?_ ?_
  ·intro w a
   refine cT 1 (crt (zg (zc ?_)))
   obtain rfl:=sj a
   exact rT 8 (iv 2) ⟨hs,rfl,(iK 2)⟩
  intro w a
  refine ck (zd (zb (cT 1 (crt ?_))))
  obtain rfl:=sj a
  exact rT 8 (iv 0) ⟨hs,rfl,(iK 0)⟩
 refine cO 2 (o1 17 44 (vl e p1 f) (b.at.one (o:=0) rfl) (od 1 (bE a fun x23 y a=>ocl 19 (zeL q (zgn (p.step hs).most) y) ?_)))
 rintro _ _ ⟨rfl,rfl⟩
 refine od 1 ?_
 refine osp 21 (!x23) a ?_ ?_
 ·intro z a
  refine od 2 (o1 24 44 (vl e p1 f) (b.at.one (o:=0) rfl) (od 1 (bE a fun E A a=>ocl 26 (zeL s (zgn (p.step hs).most) A) ?_)))
  rintro _ _ ⟨rfl,rfl⟩
  refine od 2 ?_
  refine osp 29 (!E) a ?_ ?_
  ·intro z a
   refine dT 5 ?_
   exact zk eY (x (decide (k=l))  _  a)
  intro z a
  refine oz [30,31,32] (dT 2 ?_)
  exact zk eY (x true  _  a)
 intro z a
 refine oz [22,23,24,25,26,27] (od 2 (oz [30,31,32] (dT 2 ?_)))
 exact zk eY (x true  _  a)
theorem zpc {u:K} {p0:LG×LT} {a1 a4 a7 V:OA} {c2 c5 c8 C:Nat} {p1:LP} {w:Int} {E:Int} {I:LI} (f3:Sl tGlue u a1 c2 p0.1) (f6:Sl tTile u a4 c5 p0.2) (f9:Sl tPlaced u a7 c8 p1) (j2:I64 w) (j3:I64 E) (d5:Sl tI64 u V C I) {r:Int×Int} (a:zid p0 p1 w E I=some r) :
 Fn Tryz.prog 270 #[.agg #[vl a1 p0.1 c2,vl a4 p0.2 c5],.agg #[vl a7 p1 c8],iv w,iv E,vl V I C] u (fun v G=>Step [] u G∧v=.tuple #[iv r.1,iv r.2]∧I64 r.1∧I64 r.2):=by
 refine fnc 104 [] Tryz.func270 Tryz.ntmps270 fun hs=>csr (xO 5 43 (u.H.size,270001) hs.1 [vl a1 p0.1 c2,vl a4 p0.2 c5] fun s1 q2 m3 s=>?_)
 replace hs:=hs.tr0 m3
 refine xO 6 46 (u.H.size,270002) hs.1 [vl a7 p1 c8] fun s2 q3 i4 k=>?_
 replace hs:=hs.tr0 i4
 replace s:=s.step0 i4
 refine dT 2 (cs (csr (oN 19 43 [vl a1 p0.1 c2,vl a4 p0.2 c5] (s.at.part 0 2).2 (oN 20 46 [vl a7 p1 c8] (k.at.part 0 1).2 (od 2 (bE a fun x23 j4 a=>ocl 23 (zqA (f3.step hs) (f6.step hs) (f9.step hs) j2 j3 j4) ?_))))))
 rintro _ q4 ⟨d6,rfl,j5⟩
 replace hs:=hs.tr0 d6
 replace s:=s.step0 d6
 replace k:=k.step0 d6
 refine od 1 (otx (dT 2 ?_))
 refine cc _ a ?_ ?_
 ·intro H a
  refine cT 3 (crt (zc ?_))
  obtain rfl:=sj a
  refine rt [.tmp 10,.tmp 11] [iv 0,iv x23] ⟨kr,kr,trivial⟩ ?_
  exact ⟨hs,rfl,(iK 0),j5⟩
 intro H a
 refine ckt (csr (oN 27 43 [vl a1 p0.1 c2,vl a4 p0.2 c5] (s.at.part 0 2).2 (oN 28 46 [vl a7 p1 c8] (k.at.part 0 1).2 (bE a fun A j6 a=>ocl 29 (ze5 (f3.step hs) (f6.step hs) (f9.step hs) j6) ?_))))
 rintro _ q5 ⟨i5,b0,X,rfl,j⟩
 replace hs:=hs.tr0 i5
 replace k:=k.step0 i5
 refine dT 1 (cs (cT 5 ?_))
 refine cc _ a ?_ ?_
 ·intro H a
  refine cT 2 (crt (zc ?_))
  obtain rfl:=sj a
  refine rt [.tmp 10,.tmp 11] [iv 0,iv 10] ⟨kr,kr,trivial⟩ ?_
  exact ⟨hs,rfl,(iK 0),(iK 10)⟩
 intro H a
 refine ckt (cO 1 (o1 36 44 (vl a7 p1 c8) (k.at.one (o:=0) rfl) (od 1 (bE a fun m4 j7 a=>zdl (d:=38) (T:=32) (e:=2) (t:=tI64) (pub:=false) (τ:=(u.H.size,270003)) (bytes:=8) (k1:=.i64) (k2:=.i64) (m:=(p1.length:Int)) (zs:=[iv 0]) (z:=0) kr kr kr kr ⟨rfl,(iK 0)⟩ j7 hs.1 fun s3 q6 i6 m5=>?_))))
 replace hs:=hs.tr0 i6
 replace j:=j.step i6
 refine dT 1 (cs (cT 3 (cb 0 ?_)))
 refine zj 0 (fun Z=>∀ (i:LI) (D:OA) (y:Nat) (B:Env) (n:K),Step [] u n→Gr tI64 false (u.H.size,270003) n 2 D y i→zic w E i=some r→Z (ups B [(2,iv w),(3,iv E),(14,vl D i y)]) n) ?_ fun J1=>?_
 ·intro i D y B n hs i7 a
  refine zf (zb (cs (cT 3 (cb 2 ?_))))
  refine zj 2 (fun Z=>∀ (B:Env),zib w i=some r→Z (ups B [(2,iv w),(14,vl D i y)]) n) ?_ fun J2=>?_
  ·intro B a
   refine zf (zb (cO 2 (bE a fun d7 j8 a=>?_)))
   obtain ⟨m6,e6,e7,e8,o4,L,e9⟩:=i7.idx j8
   obtain ⟨rfl,j9⟩:=e9
   replace L:At n m6 (0+w.toNat*1) [iv d7]:=L
   refine oi 102 32 2 1 i.length y .i64 w (off:=0) e6 e7 e8 (o1 103 2 (iv d7) (L.one (o:=0) rfl) (dT 2 (crt ?_)))
   obtain rfl:=sj a
   refine rt [.tmp 10,.tmp 11] [iv d7,iv 0] ⟨kr,kr,trivial⟩ ?_
   exact ⟨hs,rfl,j9,(iK 0)⟩
  refine bE a fun m7 k0 b1=>zp (F:=zbY w E i) (J:=fun p E' G=>(∃ B,E'=ups B [(2,iv w),(3,iv E),(14,vl D i y),(80,vl D i y),(81,iv (i.length:Int)),(82,iv p)])∧n=G∧I64 p) (s0:=0) (x:=m7) kr k0 ⟨⟨_,eY⟩,rfl,(iK 0)⟩ ?_
  rintro p _ _ ⟨⟨B,rfl⟩,rfl,q9⟩ f0 a b2
  refine cT 1 (cs ?_)
  refine cc _ a ?_ ?_
  ·intro H a
   refine ckt (cs (cb 3 (cO 1 (bE a fun d8 k4 a=>?_))))
   obtain ⟨m8,f1,f2,f4,o5,M,f5⟩:=i7.idx k4
   obtain ⟨rfl,r0⟩:=f5
   replace M:At n m8 (0+p.toNat*1) [iv d8]:=M
   refine oi 85 32 2 1 i.length y .i64 p (off:=0) f1 f2 f4 (o1 86 2 (iv d8) (M.one (o:=0) rfl) (dT 2 ?_))
   refine zn (fun Z=>∀ (d9:Bool) (B:Env),zdy p d9=some f0→cwp Tryz.prog 104 (sub (zB Tryz.f270) [1,1,0,0,1,1,0,0,1,0,1,1,1,1,1,1]) Z (ups B [(2,iv w),(3,iv E),(14,vl D i y),(80,vl D i y),(81,iv (i.length:Int)),(82,iv p),(98,.bool d9)]) n) ?_ fun J3=>?_
   ·intro d9 B a
    refine cc _ a ?_ ?_
    ·intro H a
     refine cT 2 (crt (zg (zc ?_)))
     have hx:=b2 _ (sj a).symm
     subst hx
     replace a:=b1
     refine zv (zg (zc ?_))
     obtain rfl:=sj a
     refine rt [.tmp 10,.tmp 11] [iv 0,iv 10] ⟨kr,kr,trivial⟩ ?_
     exact ⟨hs,rfl,(iK 0),(iK 10)⟩
    intro H a
    refine ck (zd (zb (cr (od 2 (oe ?_)))))
    exact ze (sj a).symm ⟨⟨_,eY⟩,rfl,(zr _)⟩
   refine cO 2 ?_
   refine osp 89 (!decide (d8=0)) a ?_ ?_
   ·intro hg a
    refine oz [90,91,92] (od 2 (oz [95,96,97] (dT 1 ?_)))
    exact zk eY (J3 false  _  a)
   intro hg a
   refine od 4 ?_
   refine osp 94 (!decide (p=w)) a ?_ ?_
   ·intro hg a
    refine oz [95,96,97] (dT 1 ?_)
    exact zk eY (J3 false  _  a)
   intro hg a
   refine dT 4 ?_
   exact zk eY (J3 (!decide (p=E))  _  a)
  intro H a
  refine cx 2 (zh ?_)
  have hx:=b2 _ (sj a).symm
  subst hx
  replace a:=b1
  refine zi ?_
  exact zq eY (J2   _  a)
 refine bE a fun m9 k7 b3=>zp (F:=zfl I A) (J:=fun c E' G=>∃ (Y:OA) (q:Nat),(∃ B,E'=ups B [(2,iv w),(3,iv E),(4,vl V I C),(14,vl Y c.1 q),(39,vl b0 A X),(40,iv (A.length:Int)),(41,iv c.2)])∧Step [] u G∧Gr tI64 false (u.H.size,270003) G 2 Y q c.1∧I64 c.2∧Sl zT G b0 X A) (s0:=(m4,0)) (x:=m9) kr k7 ⟨_,_,⟨_,eY⟩,hs,m5,(iK 0),j⟩ ?_
 rintro c _ k8 ⟨Y,q,⟨B,rfl⟩,hs,g,r1,j⟩ o6 a b4
 refine cT 1 (cs ?_)
 refine cc _ a ?_ ?_
 ·intro H a
  refine ckt (cs (cb 1 (cO 1 (bE a fun f k9 a=>?_))))
  obtain ⟨n0,n1,f7,f8,g0,o7,N,g1⟩:=j.idx k9
  obtain ⟨_,_,rfl,⟨rfl,r2⟩,⟨_,_,rfl,⟨rfl,r3⟩,⟨rfl,l0⟩⟩⟩:=g1
  replace N:PubAt k8 n0 (n1+c.2.toNat*3) [iv f.1,iv f.2.1,iv f.2.2]:=N
  refine oi 44 183 210 3 A.length X .i64 c.2 f7 f8 g0 (oN 45 210 [iv f.1,iv f.2.1,iv f.2.2] (N.at.part 0 3).2 (xT 16 210 (u.H.size,270004) hs.1 [iv 0,iv 0,iv 0] fun n2 r4 e0 h=>?_))
  replace hs:=hs.tr0 e0
  replace j:=j.step e0
  replace g:=g.step0 e0
  refine od 1 (xM 210 [iv f.1,iv f.2.1,iv f.2.2] h fun O e1 _ e2=>?_)
  replace hs:=hs.trB h.ge e1
  replace j:=j.step e1
  replace g:=g.step e1 (g.nb h (zl kr))
  replace h:=e2
  refine ot (cs (cs (cd 9 (dd 2 (bE a fun i8 l1 a=>?_)))))
  obtain ⟨n3,n4,g2,g3,g4,o8,P,g5⟩:=(d5.step hs).idx l1
  obtain ⟨rfl,l2⟩:=g5
  replace P:PubAt O n3 (n4+c.2.toNat*1) [iv i8]:=P
  refine di 48 32 2 1 I.length C .i64 c.2 g2 g3 g4 (d1 49 2 (iv i8) (P.at.one (o:=0) rfl) (dd 1 (d1 51 2 (iv f.2.2) (h.at.one (o:=2) rfl) (dd 2 (d1 54 2 (iv f.2.2) (h.at.one (o:=2) rfl) (de (bE a fun s4 l3 a=>ocl 55 (zaS l2 (zr _) l0 l3) ?_)))))))
  rintro _ _ ⟨rfl,rfl⟩
  refine dT 1 ?_
  refine cc _ a ?_ ?_
  ·intro H a
   refine cT 2 (crt (zc (zg (zc ?_))))
   have hx:=b4 _ (sj a).symm
   subst hx
   replace a:=b3
   refine zv (zg (zc ?_))
   obtain rfl:=sj a
   refine rt [.tmp 10,.tmp 11] [iv 0,iv 10] ⟨kr,kr,trivial⟩ ?_
   exact ⟨hs,rfl,(iK 0),(iK 10)⟩
  intro H a
  refine ckt (cs (cd 9 (dd 2 (d1 59 2 (iv f.1) (h.at.one (o:=0) rfl) (bE a fun a0 l4 a=>?_)))))
  obtain ⟨n5,g6,g7,g8,o9,Q,g9⟩:=g.idx l4
  obtain ⟨rfl,r5⟩:=g9
  replace Q:At O n5 (0+f.1.toNat*1) [iv a0]:=Q
  refine di 60 32 2 1 c.1.length q .i64 f.1 (off:=0) g6 g7 g8 (d1 61 2 (iv a0) (Q.one (o:=0) rfl) (dd 2 (bE a fun a2 l5 a=>?_)))
  obtain ⟨n6,n7,h0,h1,h2,p5,R,h3⟩:=(d5.step hs).idx l5
  obtain ⟨rfl,r6⟩:=h3
  replace R:PubAt O n6 (n7+c.2.toNat*1) [iv a2]:=R
  refine di 64 32 2 1 I.length C .i64 c.2 h0 h1 h2 (d1 65 2 (iv a2) (R.at.one (o:=0) rfl) (de (od 1 (bE a fun n8 l6 a=>?_))))
  obtain ⟨i9,b5,b6,b7,p6,b8,h4⟩:=g.idx l6
  obtain ⟨rfl,r7⟩:=h4
  replace b8:At O i9 (0+f.1.toNat*1) [iv n8]:=b8
  refine oi 67 32 2 1 c.1.length q .i64 f.1 (off:=0) b5 b6 b7 (bE a fun b9 e3 a=>zau (T:=2) (t:=tI64) (τ:=(u.H.size,270003)) (e:=2) (ix:=f.1) (x':=w64 (a0+a2)) (b:=i9) (δ:=0) (cp:=q) (l:=c.1) (vs:=[iv (w64 (a0+a2))]) (iv (w64 (a0+a2))) kr kr b5 g b6 b7 kr kr kr kr (fun cs hx=>by obtain ⟨x,_,ho⟩:=hx;rw [zM ((tI64.len ho).trans kr)];exact ⟨rfl,(zr _)⟩) fun a6 e4 a8=>?_)
  replace hs:=hs.trG (g.own (fz _)) e4
  replace j:=j.step e4
  replace h:=h.step e4 (g.bn h (zl kr))
  replace g:=a8
  replace g:=zcF e3 g
  have d0:=zL e3
  refine zam (eA 41 (v:=iv c.2) (eA 40 (v:=iv (A.length:Int)) (eA 39 (v:=vl b0 A X) (eA 16 (v:=pt n2 0) (eA 15 (v:=iv c.2) (za (t:=14) (v:=vl Y b9 q) (eA 4 (v:=vl V I C) (eA 3 (v:=iv E) (eA 2 (v:=iv w) rfl))) (by unfold vl;rw [d0];kernel_rfl))))))) (ot (cd 9 (dd 2 (d1 70 2 (iv f.2.1) (h.at.one (o:=1) rfl) (bE a fun a3 l7 a=>?_)))))
  obtain ⟨n9,h5,h6,h7,p7,S,h8⟩:=g.idx l7
  obtain ⟨rfl,r8⟩:=h8
  replace S:At a6 n9 (0+f.2.1.toNat*1) [iv a3]:=S
  refine di 71 32 2 1 b9.length q .i64 f.2.1 (off:=0) h5 h6 h7 (d1 72 2 (iv a3) (S.one (o:=0) rfl) (dd 2 (bE a fun a5 l8 a=>?_)))
  obtain ⟨o0,o2,h9,i0,i1,p8,U,i2⟩:=(d5.step hs).idx l8
  obtain ⟨rfl,r9⟩:=i2
  replace U:PubAt a6 o0 (o2+c.2.toNat*1) [iv a5]:=U
  refine di 75 32 2 1 I.length C .i64 c.2 h9 i0 i1 (d1 76 2 (iv a5) (U.at.one (o:=0) rfl) (de (od 1 (bE a fun o3 l9 a=>?_))))
  obtain ⟨j1,c0,c1,c3,p9,c4,i3⟩:=g.idx l9
  obtain ⟨rfl,q0⟩:=i3
  replace c4:At a6 j1 (0+f.2.1.toNat*1) [iv o3]:=c4
  refine oi 78 32 2 1 b9.length q .i64 f.2.1 (off:=0) c0 c1 c3 (bE a fun m0 c6 a=>zau (T:=2) (t:=tI64) (τ:=(u.H.size,270003)) (e:=2) (ix:=f.2.1) (x':=w64 (a3 - a5)) (b:=j1) (δ:=0) (cp:=q) (l:=b9) (vs:=[iv (w64 (a3 - a5))]) (iv (w64 (a3 - a5))) kr kr c0 g c1 c3 kr kr kr kr (fun cs hx=>by obtain ⟨x,_,ho⟩:=hx;rw [zM ((tI64.len ho).trans kr)];exact ⟨rfl,(zr _)⟩) fun q1 e5 a8=>?_)
  replace hs:=hs.trG (g.own (fz _)) e5
  replace j:=j.step e5
  replace g:=a8
  replace g:=zcF c6 g
  have a9:=zL c6
  refine zam (eA 41 (v:=iv c.2) (eA 40 (v:=iv (A.length:Int)) (eA 39 (v:=vl b0 A X) (za (t:=14) (v:=vl Y m0 q) (eA 4 (v:=vl V I C) (eA 3 (v:=iv E) (eA 2 (v:=iv w) rfl))) (by unfold vl;rw [a9];kernel_rfl))))) (oe (zd (zb (cr (od 2 (oe ?_))))))
  exact ze (sj a).symm ⟨_,_,⟨_,eY⟩,hs,g,(zr _),j⟩
 intro H a
 refine cx 0 (zh ?_)
 have hx:=b4 _ (sj a).symm
 subst hx
 replace a:=b3
 refine zi ?_
 exact zq eY (J1 c.1 _ _ _ _ hs g a)
theorem zkN {f:K} {p0:LM} {m u w p g:OA} {c2 y z q h:Nat} {p1:TS×(LP)×Int} {j:LP} (f3:Sl (tSl tI64) f m c2 p0) (f6:Sl tGlue f u y p1.1.1) (f9:Sl tTile f w z p1.1.2) (c4:Sl tPlaced f p q p1.2.1) (b3:I64 p1.2.2) (a0:Sl tPlaced f g h j) {r:Bool} (a:zch p0 p1 j=some r) :
 Fn Tryz.prog 269 #[.agg #[vl m p0 c2],.agg #[vl u p1.1.1 y,vl w p1.1.2 z,vl p p1.2.1 q,iv p1.2.2],.agg #[vl g j h]] f (fun v k=>Step [] f k∧v=.bool r):=by
 refine fnc 47 [] Tryz.func269 Tryz.ntmps269 fun hs=>csr (xO 3 124 (f.H.size,269001) hs.1 [vl m p0 c2] fun c6 b4 a2 d=>?_)
 replace hs:=hs.tr0 a2
 refine xO 4 48 (f.H.size,269002) hs.1 [vl u p1.1.1 y,vl w p1.1.2 z,vl p p1.2.1 q,iv p1.2.2] fun A b5 O b=>?_
 replace hs:=hs.tr0 O
 replace d:=d.step0 O
 refine xO 5 46 (f.H.size,269003) hs.1 [vl g j h] fun B b6 C c=>?_
 replace hs:=hs.tr0 C
 replace d:=d.step0 C
 replace b:=b.step0 C
 refine dT 1 (cs (cO 1 (o1 12 33 (vl m p0 c2) (d.at.one (o:=0) rfl) (od 2 (o1 15 44 (vl g j h) (c.at.one (o:=0) rfl) (dT 4 ?_))))))
 refine cc _ a ?_ ?_
 ·intro D a
  refine cT 1 (crt (zc ?_))
  obtain rfl:=sj a
  exact rT 6 ff ⟨hs,rfl⟩
 intro D a
 refine ckt (cs (cO 1 (o1 21 33 (vl m p0 c2) (d.at.one (o:=0) rfl) (dT 2 (cb 0 ?_)))))
 refine zj 0 (fun Z=>∀ (l:Env) (n:K),Step [] f n→zgd=some r→Z (l) n) ?_ fun J1=>?_
 ·intro l n hs a
  refine zf (zb (cT 1 (crt ?_)))
  obtain rfl:=sj a
  exact rT 6 tt ⟨hs,rfl⟩
 refine bE a fun a3 T s=>zp (F:=zae p0 p1 j) (J:=fun e E' k=>(∃ l,E'=ups l [(4,pt A 0),(5,pt B 0),(21,vl m p0 c2),(22,iv (p0.length:Int)),(23,iv e)])∧Step [] f k∧I64 e∧Box (f.H.size,269002) k A [vl u p1.1.1 y,vl w p1.1.2 z,vl p p1.2.1 q,iv p1.2.2] 48∧Box (f.H.size,269003) k B [vl g j h] 46) (s0:=0) (x:=a3) kr T ⟨⟨_,eY⟩,hs,(iK 0),b,c⟩ ?_
 rintro e _ U ⟨⟨l,rfl⟩,hs,b9,b,c⟩ H a t
 refine cT 1 (cs ?_)
 refine cc _ a ?_ ?_
 ·intro D a
  refine ckt (cs (cb 1 (cO 1 (bE a fun P V a=>?_))))
  obtain ⟨a5,a6,I,L,M,b0,i,N⟩:=(f3.step hs).idx V
  obtain ⟨Q,R,rfl,a8⟩:=N
  replace i:PubAt U a5 (a6+e.toNat*1) [vl Q P R]:=i
  refine oi 26 33 32 1 p0.length c2 .i64 e I L M (o1 27 32 (vl Q P R) (i.at.one (o:=0) rfl) (od 2 (otx (od 1 (oN 30 43 [vl u p1.1.1 y,vl w p1.1.2 z] (b.at.part 0 2).2 (oN 31 46 [vl g j h] (c.at.part 0 1).2 (od 3 (bE a fun S X a=>ocl 35 (zpc (f6.step hs) (f9.step hs) (a0.step hs) (iK 0) (zr _) a8 X) ?_))))))))
  rintro _ Y ⟨E,rfl,c0,c1⟩
  replace hs:=hs.tr0 E
  replace b:=b.step0 E
  replace c:=c.step0 E
  refine dT 5 ?_
  refine zn (fun Z=>∀ (G:Bool) (l:Env),za9 e G=some H→cwp Tryz.prog 47 (sub (zB Tryz.f269) [1,1,1,0,0,1,1,0,0,1,0,1,1]) Z (ups l [(4,pt A 0),(5,pt B 0),(21,vl m p0 c2),(22,iv (p0.length:Int)),(23,iv e),(45,.bool G)]) Y) ?_ fun J2=>?_
  ·intro G l a
   refine cc _ a ?_ ?_
   ·intro D a
    refine cT 1 (crt (zg (zc ?_)))
    have hx:=t _ (sj a).symm
    subst hx
    replace a:=s
    refine zv (zg (zc ?_))
    obtain rfl:=sj a
    exact rT 6 ff ⟨hs,rfl⟩
   intro D a
   refine ck (zd (zb (cr (od 2 (oe ?_)))))
   exact ze (sj a).symm ⟨⟨_,eY⟩,hs,(zr _),b,c⟩
  refine cO 2 ?_
  refine osp 40 (!decide (S.2=0)) a ?_ ?_
  ·intro hg a
   refine od 2 (o1 43 2 (iv p1.2.2) (b.at.one (o:=3) rfl) (dT 2 ?_))
   exact zk eY (J2 (decide (S.1<p1.2.2))  _  a)
  intro hg a
  refine oz [41,42,43,44] (dT 1 ?_)
  exact zk eY (J2 true  _  a)
 intro D a
 refine cx 0 (zh ?_)
 have hx:=t _ (sj a).symm
 subst hx
 replace a:=s
 refine zi ?_
 exact zq rfl (J1   _ _ hs  a)
theorem zl3 {k:K} {p0:LP} {q j:OA} {c2 e:Nat} {p1:LI} (f3:Sl tPlaced k q c2 p0) (f6:Sl tI64 k j e p1) {r:Bool} (a:zdz p0 p1=some r) :
 Fn Tryz.prog 274 #[.agg #[vl q p0 c2],vl j p1 e] k (fun v l=>Step [] k l∧v=.bool r):=by
 refine fnc 34 [] Tryz.func274 Tryz.ntmps274 fun hs=>csr (xO 2 46 (k.H.size,274001) hs.1 [vl q p0 c2] fun P f s9 D=>?_)
 replace hs:=hs.tr0 s9
 refine dT 1 (cs (cT 3 (cb 0 ?_)))
 refine zj 0 (fun Z=>∀ (g:Env),zho=some r→Z (g) f) ?_ fun J1=>?_
 ·intro g a
  refine zf (zb (cT 1 (crt ?_)))
  obtain rfl:=sj a
  exact rT 4 tt ⟨hs,rfl⟩
 refine bE a fun Q E h=>zp (F:=zV p0 p1) (J:=fun b E' l=>(∃ g,E'=ups g [(1,vl j p1 e),(2,pt P 0),(7,vl j p1 e),(8,iv (p1.length:Int)),(9,iv b)])∧f=l∧I64 b) (s0:=0) (x:=Q) kr E ⟨⟨_,eY⟩,rfl,(iK 0)⟩ ?_
 rintro b _ _ ⟨⟨g,rfl⟩,rfl,a6⟩ s a i
 refine cT 1 (cs ?_)
 refine cc _ a ?_ ?_
 ·intro G a
  refine ckt (cs (cb 1 (cO 1 (bE a fun m H a=>?_))))
  obtain ⟨R,S,t,u,w,X,c,y⟩:=(f6.step hs).idx H
  obtain ⟨rfl,I⟩:=y
  replace c:PubAt f R (S+b.toNat*1) [iv m]:=c
  refine oi 12 32 2 1 p1.length e .i64 b t u w (o1 13 2 (iv m) (c.at.one (o:=0) rfl) (dT 2 ?_))
  refine zn (fun Z=>∀ (n:Bool) (g:Env),zal b n=some s→cwp Tryz.prog 34 (sub (zB Tryz.f274) [1,1,0,0,1,1,0,0,1,0,1]) Z (ups g [(1,vl j p1 e),(2,pt P 0),(7,vl j p1 e),(8,iv (p1.length:Int)),(9,iv b),(32,.bool n)]) f) ?_ fun L=>?_
  ·intro n g a
   refine cc _ a ?_ ?_
   ·intro G a
    refine cT 1 (crt (zg (zc ?_)))
    have hx:=i _ (sj a).symm
    subst hx
    replace a:=h
    refine zv (zg (zc ?_))
    obtain rfl:=sj a
    exact rT 4 ff ⟨hs,rfl⟩
   intro G a
   refine ck (zd (zb (cr (od 2 (oe ?_)))))
   exact ze (sj a).symm ⟨⟨_,eY⟩,rfl,(zr _)⟩
  refine cO 2 (o1 16 44 (vl q p0 c2) (D.at.one (o:=0) rfl) (od 1 (bE a fun T M a=>ocl 18 (zeL I (zgn (f3.step hs).most) M) ?_)))
  rintro _ _ ⟨rfl,rfl⟩
  refine od 1 ?_
  refine osp 20 (!T) a ?_ ?_
  ·intro N a
   refine od 2 ?_
   refine osp 23 (decide (b>0)) a ?_ ?_
   ·intro N a
    refine oz [24,25,26,27,28,29,30] (dT 2 ?_)
    exact zk eY (L false  _  a)
   intro N a
   refine od 4 (bE a fun p O a=>?_)
   obtain ⟨U,V,z,A,B,Y,d,C⟩:=(f6.step hs).idx O
   obtain ⟨rfl,a7⟩:=C
   replace d:PubAt f U (V+(w64 (b - 1)).toNat*1) [iv p]:=d
   refine oi 28 32 2 1 p1.length e .i64 (w64 (b - 1)) z A B (o1 29 2 (iv p) (d.at.one (o:=0) rfl) (dT 3 ?_))
   exact zk eY (L (decide (m≤p))  _  a)
  intro N a
  refine oz [21,22,23,24,25,26,27,28,29,30,31] (dT 1 ?_)
  exact zk eY (L true  _  a)
 intro G a
 refine cx 0 (zh ?_)
 have hx:=i _ (sj a).symm
 subst hx
 replace a:=h
 refine zi ?_
 exact zq rfl (J1   _  a)
theorem zoc {g:K} {p0:LB} {t:OA} {c2:Nat} (L:Sl zT g t c2 p0) {r:Int} (c:zgR p0=some r) :
 Fn Tryz.prog 276 #[vl t p0 c2] g (fun v h=>Step [] g h∧v=iv r∧I64 r):=by
 refine fnc 18 [] Tryz.func276 Tryz.ntmps276 fun hs=>cO 1 (otx (dT 1 (cs (cT 3 (cb 0 ?_)))))
 refine zj 0 (fun Z=>∀ (i:Int) (j:Env) (f:K),Step [] g f→I64 i→zkx i=some r→Z (ups j [(3,iv i)]) f) ?_ fun M=>?_
 ·intro i j f hs u c
  refine zf (zb (cT 2 (crt ?_)))
  obtain rfl:=sj c
  exact rT 2 (iv i) ⟨hs,rfl,u⟩
 refine bE c fun A w l=>zp (F:=zcH p0) (J:=fun a N h=>(∃ j,N=ups j [(3,iv a.1),(6,vl t p0 c2),(7,iv (p0.length:Int)),(8,iv a.2)])∧Step [] g h∧I64 a.1∧I64 a.2) (s0:=(0,0)) (x:=A) kr w ⟨⟨_,eY⟩,hs,(iK 0),(iK 0)⟩ ?_
 rintro a _ y ⟨⟨j,rfl⟩,hs,B,U⟩ H c m
 refine cT 1 (cs ?_)
 refine cc _ c ?_ ?_
 ·intro O c
  refine ckt (cs (cb 1 (csr (bE c fun b z c=>?_))))
  obtain ⟨C,D,n,p,q,I,e,s⟩:=(L.step hs).idx z
  obtain ⟨_,_,rfl,⟨rfl,P⟩,⟨_,_,rfl,⟨rfl,Q⟩,⟨rfl,R⟩⟩⟩:=s
  replace e:PubAt y C (D+a.2.toNat*3) [iv b.1,iv b.2.1,iv b.2.2]:=e
  refine oi 10 183 210 3 p0.length c2 .i64 a.2 n p q (oN 11 210 [iv b.1,iv b.2.1,iv b.2.2] (e.at.part 0 3).2 (xT 5 210 (g.H.size,276001) hs.1 [iv 0,iv 0,iv 0] fun V S E d=>?_))
  replace hs:=hs.tr0 E
  refine xM 210 [iv b.1,iv b.2.1,iv b.2.2] d fun T G _ k=>?_
  replace hs:=hs.trB d.ge G
  replace d:=k
  refine otr (od 2 (o1 14 2 (iv b.2.2) (d.at.one (o:=2) rfl) (od 2 (oe (zd (zb (cr (od 2 (oe ?_)))))))))
  exact ze (sj c).symm ⟨⟨_,eY⟩,hs,(zr _),(zr _)⟩
 intro O c
 refine cx 0 (zh ?_)
 have hx:=m _ (sj c).symm
 subst hx
 replace c:=l
 refine zi ?_
 exact zq eY (M a.1  _ _ hs B c)
theorem znI {d:K} {p0:LI} {j:OA} {c2:Nat} {p1:Int} (y:Sl tI64 d j c2 p0) (G:I64 p1) {r:Int} (a:zix p0 p1=some r) :
 Fn Tryz.prog 279 #[vl j p0 c2,iv p1] d (fun v e=>d=e∧v=iv r∧I64 r):=by
 refine fnc 19 [] Tryz.func279 Tryz.ntmps279 fun hs=>cT 1 (cs (cT 3 (cb 0 ?_)))
 refine zj 0 (fun Z=>∀ (f:Env),zgj=some r→Z (f) d) ?_ fun z=>?_
 ·intro f a
  refine zf (zb (cT 1 (crt ?_)))
  obtain rfl:=sj a
  exact rT 4 (iv (-1)) ⟨rfl,rfl,(iK (-1))⟩
 refine bE a fun A p g=>zp (F:=zgi p0 p1) (J:=fun b B e=>(∃ f,B=ups f [(0,vl j p0 c2),(1,iv p1),(7,iv (p0.length:Int)),(8,iv b)])∧d=e∧I64 b) (s0:=0) (x:=A) kr p ⟨⟨_,eY⟩,rfl,(iK 0)⟩ ?_
 rintro b _ _ ⟨⟨f,rfl⟩,rfl,q⟩ C a h
 refine cT 1 (cs ?_)
 refine cc _ a ?_ ?_
 ·intro k a
  refine ckt (cs (cb 1 (cO 2 (otx (od 3 (bE a fun s t a=>?_))))))
  obtain ⟨u,w,i,l,m,D,c,n⟩:=y.idx t
  obtain ⟨rfl,E⟩:=n
  replace c:PubAt d u (w+b.toNat*1) [iv s]:=c
  refine oi 14 32 2 1 p0.length c2 .i64 b i l m (o1 15 2 (iv s) (c.at.one (o:=0) rfl) (dT 1 ?_))
  refine cc _ a ?_ ?_
  ·intro k a
   refine cT 2 (crt (zg (zc ?_)))
   have hx:=h _ (sj a).symm
   subst hx
   replace a:=g
   refine zv (zg (zc ?_))
   obtain rfl:=sj a
   exact rT 4 (iv b) ⟨rfl,rfl,q⟩
  intro k a
  refine ck (zd (zb (cr (od 2 (oe ?_)))))
  exact ze (sj a).symm ⟨⟨_,eY⟩,rfl,(zr _)⟩
 intro k a
 refine cx 0 (zh ?_)
 have hx:=h _ (sj a).symm
 subst hx
 replace a:=g
 refine zi ?_
 exact zq rfl (z   _  a)
theorem zhL {a:K} {p0:LI} {c:OA} {c2:Nat} {p1:Int} (g:Sl tI64 a c c2 p0) (d:I64 p1) {r:Bool} (b:zb8 p0 p1=some r) :
 Fn Tryz.prog 278 #[vl c p0 c2,iv p1] a (fun v e=>a=e∧v=.bool r):=by
 refine fnc 9 [] Tryz.func278 Tryz.ntmps278 fun hs=>cO 1 (otx (od 2 (bE b fun h f b=>ocl 7 (znI g d f) ?_)))
 rintro _ _ ⟨rfl,rfl,i⟩
 refine dT 2 (crt ?_)
 obtain rfl:=sj b
 exact rT 4 (bW (h≥0)) ⟨rfl,rfl⟩
theorem zmr {a:K} {p0:Int×Int×Int} {p1:LI} {f g:Nat} {d:OA} {e:Nat} (j:I64 p0.1) (k:I64 p0.2.1) (q:I64 p0.2.2) (m1:At a f g [vl d p1 e]) (f6:Sl tI64 a d e p1) {r:Bool} (b:zdO p0 p1=some r) :
 Fn Tryz.prog 277 #[.agg #[iv p0.1,iv p0.2.1,iv p0.2.2],pt f g] a (fun v l=>Step [] a l∧v=.bool r):=by
 refine fnc 13 [] Tryz.func277 Tryz.ntmps277 fun hs=>csr (xO 2 210 (a.H.size,277001) hs.1 [iv p0.1,iv p0.2.1,iv p0.2.2] fun t s p c=>?_)
 replace hs:=hs.tr0 p
 refine dT 1 (cs (cd 7 (d1 4 32 (vl d p1 e) ((m1.step0 hs).one (o:=0) rfl) (dd 1 (d1 6 2 (iv p0.1) (c.at.one (o:=0) rfl) (bE b fun m h b=>dc0 7 (zhL (f6.step hs) j h) (d1 8 32 (vl d p1 e) ((m1.step0 hs).one (o:=0) rfl) (dd 1 (d1 10 2 (iv p0.2.1) (c.at.one (o:=1) rfl) (de (bE b fun n i b=>ocl 11 (zhL (f6.step hs) k i) ?_)))))))))))
 rintro _ _ ⟨rfl,rfl⟩
 refine dT 2 (crt ?_)
 obtain rfl:=sj b
 exact rT 3 (.bool (m == n)) ⟨hs,rfl⟩
theorem znQ {f:K} {p0:LB} {t j:OA} {c2 k:Nat} {p1:LI} (B:Sl zT f t c2 p0) (f6:Sl tI64 f j k p1) {r:Int} (e:zf9 p0 p1=some r) :
 Fn Tryz.prog 275 #[vl t p0 c2,vl j p1 k] f (fun v u=>Step [] f u∧v=iv r∧I64 r):=by
 refine fnc 10 [] Tryz.func275 Tryz.ntmps275 fun hs=>csr (zo (d:=3) (T:=32) (f.H.size,275001) hs.1 (vl j p1 k) [vl j p1 k] kr kr rfl fun C I w a=>?_)
 replace hs:=hs.tr0 w
 refine od 1 (otx (od 1 (bE e fun J m e=>ocl 6 (zjE (B.step hs) m) ?_)))
 rintro _ D ⟨l,L,M,N,rfl,b,c⟩
 replace b:=ga hs.1 b
 replace hs:=hs.tr0 l
 replace a:=a.step0 l
 refine od 1 ?_
 obtain ⟨O,g,h,c⟩:=c.low b a.tlt
 refine bE e fun P n e=>ocl 8 (zgA c h (fi1:=277) (bv1:=#[]) (cv1:=#[pt C 0]) kr (by intro _ s _ w0 E F _ hp;exact zig kr ((zmr w0 E F (a.at.step s (c.bn a (zl kr))) ((f6.step hs).step s) hp))) n) ?_
 rintro _ G ⟨x,Q,R,rfl,y,i⟩
 clear i
 replace hs:=hs.trM (ztD (c.own g)) x
 refine bE e fun z p e=>ocl 9 (Fn.borrow y (fun _ _ sb gb=>zoc gb.sl p)) ?_
 rintro _ H ⟨A,rfl,q⟩
 replace hs:=hs.tr0 A
 refine dT 1 (crt ?_)
 obtain rfl:=sj e
 exact rT 4 (iv z) ⟨hs,rfl,q⟩
theorem znS {d:K} {p0:LG×LT} {g h e l:OA} {c2 i f m:Nat} {p1:LP} {q:LI} (A:Sl tGlue d g c2 p0.1) (f6:Sl tTile d h i p0.2) (s:Sl tPlaced d e f p1) (n:Sl tI64 d l m q) {r:Int×Int} (c:ziL p0 p1 q=some r) :
 Fn Tryz.prog 273 #[.agg #[vl g p0.1 c2,vl h p0.2 i],.agg #[vl e p1 f],vl l q m] d (fun v B=>Step [] d B∧v=.tuple #[iv r.1,iv r.2]∧I64 r.1∧I64 r.2):=by
 refine fnc 23 [] Tryz.func273 Tryz.ntmps273 fun hs=>csr (xO 3 43 (d.H.size,273001) hs.1 [vl g p0.1 c2,vl h p0.2 i] fun O H C a=>?_)
 replace hs:=hs.tr0 C
 refine xO 4 46 (d.H.size,273002) hs.1 [vl e p1 f] fun P I p b=>?_
 replace hs:=hs.tr0 p
 replace a:=a.step0 p
 refine dT 2 (cs (cb 0 (csr (oN 9 43 [vl g p0.1 c2,vl h p0.2 i] (a.at.part 0 2).2 (oN 10 46 [vl e p1 f] (b.at.part 0 1).2 (bE c fun Q t c=>ocl 11 (zcP (A.step hs) (f6.step hs) (s.step hs) t) ?_))))))
 rintro _ J ⟨j,rfl⟩
 replace hs:=hs.tr0 j
 replace a:=a.step0 j
 replace b:=b.step0 j
 refine dT 2 ?_
 refine cc _ c ?_ ?_
 ·intro u c
  refine cT 2 (crt (zg (zc ?_)))
  obtain rfl:=sj c
  refine rt [.tmp 6,.tmp 7] [iv 0,iv 1] ⟨kr,kr,trivial⟩ ?_
  exact ⟨hs,rfl,(iK 0),(iK 1)⟩
 intro u c
 refine csr (oN 14 46 [vl e p1 f] (b.at.part 0 1).2 (od 1 (bE c fun R w c=>ocl 16 (zl3 (s.step hs) (n.step hs) w) ?_)))
 rintro _ L ⟨k,rfl⟩
 replace hs:=hs.tr0 k
 replace a:=a.step0 k
 replace b:=b.step0 k
 refine dT 2 ?_
 refine cc _ c ?_ ?_
 ·intro u c
  refine cT 2 (crt (zg (zc ?_)))
  obtain rfl:=sj c
  refine rt [.tmp 6,.tmp 7] [iv 0,iv 2] ⟨kr,kr,trivial⟩ ?_
  exact ⟨hs,rfl,(iK 0),(iK 2)⟩
 intro u c
 refine ck (zd (zb (csr (oN 18 43 [vl g p0.1 c2,vl h p0.2 i] (a.at.part 0 2).2 (oN 19 46 [vl e p1 f] (b.at.part 0 1).2 (bE c fun S x c=>ocl 20 (ze5 (A.step hs) (f6.step hs) (s.step hs) x) ?_))))))
 rintro _ M ⟨D,T,U,rfl,E⟩
 replace hs:=hs.tr0 D
 refine od 1 (bE c fun F y c=>ocl 22 (znQ E (n.step hs) y) ?_)
 rintro _ N ⟨G,rfl,z⟩
 replace hs:=hs.tr0 G
 refine dT 2 (crt ?_)
 obtain rfl:=sj c
 refine rt [.tmp 6,.tmp 7] [iv F,iv 0] ⟨kr,kr,trivial⟩ ?_
 exact ⟨hs,rfl,z,(iK 0)⟩
theorem zlA {e:K} {p0:LI} {j p q k f:OA} {c2 s t l g:Nat} {p1:TS×(LP)×Int} {h:LP} (B:Sl tI64 e j c2 p0) (f6:Sl tGlue e p s p1.1.1) (C:Sl tTile e q t p1.1.2) (L:Sl tPlaced e k l p1.2.1) (D:I64 p1.2.2) (y:Sl tPlaced e f g h) {r:Bool} (c:zcN p0 p1 h=some r) :
 Fn Tryz.prog 272 #[.agg #[vl j p0 c2],.agg #[vl p p1.1.1 s,vl q p1.1.2 t,vl k p1.2.1 l,iv p1.2.2],.agg #[vl f h g]] e (fun v z=>Step [] e z∧v=.bool r):=by
 refine fnc 41 [] Tryz.func272 Tryz.ntmps272 fun hs=>csr (xO 3 126 (e.H.size,272001) hs.1 [vl j p0 c2] fun M E A a=>?_)
 replace hs:=hs.tr0 A
 refine xO 4 48 (e.H.size,272002) hs.1 [vl p p1.1.1 s,vl q p1.1.2 t,vl k p1.2.1 l,iv p1.2.2] fun N F u b=>?_
 replace hs:=hs.tr0 u
 replace a:=a.step0 u
 refine xO 5 46 (e.H.size,272003) hs.1 [vl f h g] fun O G m d=>?_
 replace hs:=hs.tr0 m
 replace a:=a.step0 m
 replace b:=b.step0 m
 refine od 1 (otx (od 1 (oN 11 43 [vl p p1.1.1 s,vl q p1.1.2 t] (b.at.part 0 2).2 (oN 12 46 [vl f h g] (d.at.part 0 1).2 (od 1 (o1 14 32 (vl j p0 c2) (a.at.one (o:=0) rfl) (bE c fun w x c=>ocl 15 (znS (f6.step hs) (C.step hs) (y.step hs) (B.step hs) x) ?_)))))))
 rintro _ H ⟨i,rfl,I,J⟩
 replace hs:=hs.tr0 i
 replace a:=a.step0 i
 replace b:=b.step0 i
 replace d:=d.step0 i
 refine od 5 (otx (od 2 ?_))
 refine osp 20 (decide (w.2=0)) c ?_ ?_
 ·intro n c
  refine oz [21,22,23,24] (od 2 (oz [27,28,29,30,31,32,33] (od 2 (oz [36,37,38,39] (dT 2 (crt ?_))))))
  obtain rfl:=sj c
  exact rT 6 ff ⟨hs,rfl⟩
 intro n c
 refine od 1 (o1 22 32 (vl j p0 c2) (a.at.one (o:=0) rfl) (od 3 ?_))
 refine osp 26 (decide ((p0.length:Int)>0)) c ?_ ?_
 ·intro n c
  refine oz [27,28,29,30,31,32,33] (od 2 (oz [36,37,38,39] (dT 2 (crt ?_))))
  obtain rfl:=sj c
  exact rT 6 ff ⟨hs,rfl⟩
 intro n c
 refine od 1 (o1 28 32 (vl j p0 c2) (a.at.one (o:=0) rfl) (od 2 (o1 31 44 (vl f h g) (d.at.one (o:=0) rfl) (od 3 ?_))))
 refine osp 35 (decide ((p0.length:Int)<(h.length:Int))) c ?_ ?_
 ·intro n c
  refine oz [36,37,38,39] (dT 2 (crt ?_))
  obtain rfl:=sj c
  exact rT 6 ff ⟨hs,rfl⟩
 intro n c
 refine od 2 (o1 38 2 (iv p1.2.2) (b.at.one (o:=3) rfl) (dT 3 (crt ?_)))
 obtain rfl:=sj c
 exact rT 6 (bW (w.1<p1.2.2)) ⟨hs,rfl⟩
theorem zmE {d:K} {p0:Int×Int} {p1:Int×Int} (i:I64 p0.1) (j:I64 p0.2) (k:I64 p1.1) (l:I64 p1.2) {r:Bool} (a:zhV p0 p1=some r) :
 Fn Tryz.prog 84 #[.agg #[iv p0.1,iv p0.2],.agg #[iv p1.1,iv p1.2]] d (fun v g=>Step [] d g∧v=.bool r):=by
 refine fnc 15 [] Tryz.func84 Tryz.ntmps84 fun hs=>csr (xO 2 103 (d.H.size,84001) hs.1 [iv p0.1,iv p0.2] fun p m h b=>?_)
 replace hs:=hs.tr0 h
 refine xO 3 103 (d.H.size,84002) hs.1 [iv p1.1,iv p1.2] fun q n e c=>?_
 replace hs:=hs.tr0 e
 replace b:=b.step0 e
 refine dT 1 (cs (cO 1 (o1 6 2 (iv p0.1) (b.at.one (o:=0) rfl) (od 1 (o1 8 2 (iv p1.1) (c.at.one (o:=0) rfl) (dT 1 ?_))))))
 refine cc _ a ?_ ?_
 ·intro f a
  refine cT 1 (crt (zc ?_))
  obtain rfl:=sj a
  exact rT 4 ff ⟨hs,rfl⟩
 intro f a
 refine ckt (cs (cO 1 (o1 11 2 (iv p0.2) (b.at.one (o:=1) rfl) (od 1 (o1 13 2 (iv p1.2) (c.at.one (o:=1) rfl) (dT 1 ?_))))))
 refine cc _ a ?_ ?_
 ·intro f a
  refine cT 1 (crt (zc ?_))
  obtain rfl:=sj a
  exact rT 4 ff ⟨hs,rfl⟩
 intro f a
 refine ckt (cT 1 (crt ?_))
 obtain rfl:=sj a
 exact rT 4 tt ⟨hs,rfl⟩
theorem zpO {e:K} {p0:(Int×Int)×Int} {p1:(Int×Int)×Int} (i:I64 p0.1.1) (j:I64 p0.1.2) (s:I64 p0.2) (k:I64 p1.1.1) (l:I64 p1.1.2) (t:I64 p1.2) {r:Bool} (c:zlw p0 p1=some r) :
 Fn Tryz.prog 58 #[.agg #[iv p0.1.1,iv p0.1.2,iv p0.2],.agg #[iv p1.1.1,iv p1.1.2,iv p1.2]] e (fun v m=>Step [] e m∧v=.bool r):=by
 refine fnc 16 [] Tryz.func58 Tryz.ntmps58 fun hs=>csr (xO 2 105 (e.H.size,58001) hs.1 [iv p0.1.1,iv p0.1.2,iv p0.2] fun y u n a=>?_)
 replace hs:=hs.tr0 n
 refine xO 3 105 (e.H.size,58002) hs.1 [iv p1.1.1,iv p1.1.2,iv p1.2] fun w p f b=>?_
 replace hs:=hs.tr0 f
 replace a:=a.step0 f
 refine dT 1 (cs (cO 1 (oN 6 103 [iv p0.1.1,iv p0.1.2] (a.at.part 0 2).2 (od 1 (oN 8 103 [iv p1.1.1,iv p1.1.2] (b.at.part 0 2).2 (bE c fun x g c=>ocl 9 (zmE i j k l g) ?_))))))
 rintro _ q ⟨d,rfl⟩
 replace hs:=hs.tr0 d
 replace a:=a.step0 d
 replace b:=b.step0 d
 refine dT 1 ?_
 refine cc _ c ?_ ?_
 ·intro h c
  refine cT 1 (crt (zc ?_))
  obtain rfl:=sj c
  exact rT 4 ff ⟨hs,rfl⟩
 intro h c
 refine ckt (cs (cO 1 (o1 12 2 (iv p0.2) (a.at.one (o:=2) rfl) (od 1 (o1 14 2 (iv p1.2) (b.at.one (o:=2) rfl) (dT 1 ?_))))))
 refine cc _ c ?_ ?_
 ·intro h c
  refine cT 1 (crt (zc ?_))
  obtain rfl:=sj c
  exact rT 4 ff ⟨hs,rfl⟩
 intro h c
 refine ckt (cT 1 (crt ?_))
 obtain rfl:=sj c
 exact rT 4 tt ⟨hs,rfl⟩
theorem zo5 {i:K} {p0:LP} {B C:OA} {c2 p:Nat} {p1:LP} (f3:Sl tPlaced i B c2 p0) (f6:Sl tPlaced i C p p1) {r:Bool} (a:zhX p0 p1=some r) :
 Fn Tryz.prog 37 #[vl B p0 c2,vl C p1 p] i (fun v j=>Step [] i j∧v=.bool r):=by
 refine fnc 27 [] Tryz.func37 Tryz.ntmps37 fun hs=>cT 1 (cs (cT 5 ?_))
 refine cc _ a ?_ ?_
 ·intro k a
  refine cT 1 (crt (zc ?_))
  obtain rfl:=sj a
  exact rT 4 ff ⟨hs,rfl⟩
 intro k a
 refine ckt (cs (cT 1 (cb 0 ?_)))
 refine zj 0 (fun Z=>∀ (l:Env) (m:K),Step [] i m→zhW=some r→Z (l) m) ?_ fun J1=>?_
 ·intro l m hs a
  refine zf (zb (cT 1 (crt ?_)))
  obtain rfl:=sj a
  exact rT 4 tt ⟨hs,rfl⟩
 refine bE a fun Q D g=>zp (F:=zdp p0 p1) (J:=fun b E' j=>(∃ l,E'=ups l [(0,vl B p0 c2),(1,vl C p1 p),(5,iv b)])∧Step [] i j∧I64 b) (s0:=0) (x:=Q) kr D ⟨⟨_,eY⟩,hs,(iK 0)⟩ ?_
 rintro b _ n ⟨⟨l,rfl⟩,hs,a7⟩ X a h
 refine cs (cT 4 ?_)
 refine cc _ a ?_ ?_
 ·intro k a
  refine ckt (cs (cb 1 (cs (cd 8 (dd 2 (bE a fun c E a=>?_))))))
  obtain ⟨R,S,q,s,t,Y,e,u⟩:=(f3.step hs).idx E
  obtain ⟨_,_,rfl,⟨_,_,rfl,⟨rfl,G⟩,⟨rfl,H⟩⟩,⟨rfl,I⟩⟩:=u
  replace e:PubAt n R (S+b.toNat*3) [iv c.1.1,iv c.1.2,iv c.2]:=e
  refine di 19 44 105 3 p0.length c2 .i64 b q s t (dN 20 105 [iv c.1.1,iv c.1.2,iv c.2] (e.at.part 0 3).2 (dd 2 (bE a fun d L a=>?_)))
  obtain ⟨T,U,w,y,z,a0,f,A⟩:=(f6.step hs).idx L
  obtain ⟨_,_,rfl,⟨_,_,rfl,⟨rfl,M⟩,⟨rfl,N⟩⟩,⟨rfl,O⟩⟩:=A
  replace f:PubAt n T (U+b.toNat*3) [iv d.1.1,iv d.1.2,iv d.2]:=f
  refine di 23 44 105 3 p1.length p .i64 b w y z (dN 24 105 [iv d.1.1,iv d.1.2,iv d.2] (f.at.part 0 3).2 (de (bE a fun a8 P a=>ocl 25 (zpO G H I M N O P) ?_)))
  rintro _ a6 ⟨V,rfl⟩
  replace hs:=hs.tr0 V
  refine dT 1 ?_
  refine cc _ a ?_ ?_
  ·intro k a
   refine cT 1 (crt (zg (zc ?_)))
   have hx:=h _ (sj a).symm
   subst hx
   replace a:=g
   refine zv (zg (zc ?_))
   obtain rfl:=sj a
   exact rT 4 ff ⟨hs,rfl⟩
  intro k a
  refine ck (zd (zb (cr (od 3 (oe ?_)))))
  exact ze (sj a).symm ⟨⟨_,eY⟩,hs,(zr _)⟩
 intro k a
 refine cx 0 (zh ?_)
 have hx:=h _ (sj a).symm
 subst hx
 replace a:=g
 refine zi ?_
 exact zq rfl (J1   _ _ hs  a)
theorem zkw {c:K} {p0:LP} {d e:OA} {c2 f:Nat} {p1:LP} (l:Sl tPlaced c d c2 p0) (f6:Sl tPlaced c e f p1) {r:Bool} (a:zgQ p0 p1=some r) :
 Fn Tryz.prog 19 #[.agg #[vl d p0 c2],.agg #[vl e p1 f]] c (fun v j=>Step [] c j∧v=.bool r):=by
 refine fnc 11 [] Tryz.func19 Tryz.ntmps19 fun hs=>csr (xO 2 46 (c.H.size,19001) hs.1 [vl d p0 c2] fun w s m b=>?_)
 replace hs:=hs.tr0 m
 refine xO 3 46 (c.H.size,19002) hs.1 [vl e p1 f] fun t n h g=>?_
 replace hs:=hs.tr0 h
 replace b:=b.step0 h
 refine dT 1 (cs (cO 1 (o1 6 44 (vl d p0 c2) (b.at.one (o:=0) rfl) (od 1 (o1 8 44 (vl e p1 f) (g.at.one (o:=0) rfl) (bE a fun u i a=>ocl 9 (zo5 (l.step hs) (f6.step hs) i) ?_))))))
 rintro _ p ⟨k,rfl⟩
 replace hs:=hs.tr0 k
 refine dT 1 ?_
 refine cc _ a ?_ ?_
 ·intro q a
  refine cT 1 (crt (zc ?_))
  obtain rfl:=sj a
  exact rT 4 ff ⟨hs,rfl⟩
 intro q a
 refine ckt (cT 1 (crt ?_))
 obtain rfl:=sj a
 exact rT 4 tt ⟨hs,rfl⟩
theorem zrk {d:K} {p0:BS×Int} {p1:BS×Int} (i:p0.1.length≤9223372036854775807) (j:I64 p0.2) (k:p1.1.length≤9223372036854775807) (l:I64 p1.2) {r:Bool} (a:znd p0 p1=some r) :
 Fn Tryz.prog 82 #[.agg #[zy p0.1,iv p0.2],.agg #[zy p1.1,iv p1.2]] d (fun v g=>Step [] d g∧v=.bool r):=by
 refine fnc 15 [] Tryz.func82 Tryz.ntmps82 fun hs=>csr (xO 2 147 (d.H.size,82001) hs.1 [zy p0.1,iv p0.2] fun p m h b=>?_)
 replace hs:=hs.tr0 h
 refine xO 3 147 (d.H.size,82002) hs.1 [zy p1.1,iv p1.2] fun q n e c=>?_
 replace hs:=hs.tr0 e
 replace b:=b.step0 e
 refine dT 1 (cs (cO 1 (o1 6 9 (zy p0.1) (b.at.one (o:=0) rfl) (od 1 (o1 8 9 (zy p1.1) (c.at.one (o:=0) rfl) (oq 9 (.bool (!decide (p0.1=p1.1))) (fun _=>zpC kr) (ot ?_)))))))
 refine cc _ a ?_ ?_
 ·intro f a
  refine cT 1 (crt (zc ?_))
  obtain rfl:=sj a
  exact rT 4 ff ⟨hs,rfl⟩
 intro f a
 refine ckt (cs (cO 1 (o1 11 2 (iv p0.2) (b.at.one (o:=1) rfl) (od 1 (o1 13 2 (iv p1.2) (c.at.one (o:=1) rfl) (dT 1 ?_))))))
 refine cc _ a ?_ ?_
 ·intro f a
  refine cT 1 (crt (zc ?_))
  obtain rfl:=sj a
  exact rT 4 ff ⟨hs,rfl⟩
 intro f a
 refine ckt (cT 1 (crt ?_))
 obtain rfl:=sj a
 exact rT 4 tt ⟨hs,rfl⟩
theorem zqw {i:K} {p0:LG} {B C:OA} {c2 p:Nat} {p1:LG} (Y:Sl tGlue i B c2 p0) (f6:Sl tGlue i C p p1) {r:Bool} (a:zjU p0 p1=some r) :
 Fn Tryz.prog 56 #[vl B p0 c2,vl C p1 p] i (fun v j=>Step [] i j∧v=.bool r):=by
 refine fnc 27 [] Tryz.func56 Tryz.ntmps56 fun hs=>cT 1 (cs (cT 5 ?_))
 refine cc _ a ?_ ?_
 ·intro k a
  refine cT 1 (crt (zc ?_))
  obtain rfl:=sj a
  exact rT 4 ff ⟨hs,rfl⟩
 intro k a
 refine ckt (cs (cT 1 (cb 0 ?_)))
 refine zj 0 (fun Z=>∀ (l:Env) (m:K),Step [] i m→zjv=some r→Z (l) m) ?_ fun J1=>?_
 ·intro l m hs a
  refine zf (zb (cT 1 (crt ?_)))
  obtain rfl:=sj a
  exact rT 4 tt ⟨hs,rfl⟩
 refine bE a fun O D e=>zp (F:=zeJ p0 p1) (J:=fun b E' j=>(∃ l,E'=ups l [(0,vl B p0 c2),(1,vl C p1 p),(5,iv b)])∧Step [] i j∧I64 b) (s0:=0) (x:=O) kr D ⟨⟨_,eY⟩,hs,(iK 0)⟩ ?_
 rintro b _ n ⟨⟨l,rfl⟩,hs,a5⟩ U a f
 refine cs (cT 4 ?_)
 refine cc _ a ?_ ?_
 ·intro k a
  refine ckt (cs (cb 1 (cs (cd 8 (dd 2 (bE a fun g E a=>?_))))))
  obtain ⟨P,Q,q,s,t,V,c,u⟩:=(Y.step hs).idx E
  obtain ⟨_,_,rfl,⟨rfl,G⟩,⟨rfl,H⟩⟩:=u
  replace c:PubAt n P (Q+b.toNat*2) [zy g.1,iv g.2]:=c
  refine di 19 40 147 2 p0.length c2 .i64 b q s t (dN 20 147 [zy g.1,iv g.2] (c.at.part 0 2).2 (dd 2 (bE a fun h I a=>?_)))
  obtain ⟨R,S,w,y,z,X,d,A⟩:=(f6.step hs).idx I
  obtain ⟨_,_,rfl,⟨rfl,L⟩,⟨rfl,M⟩⟩:=A
  replace d:PubAt n R (S+b.toNat*2) [zy h.1,iv h.2]:=d
  refine di 23 40 147 2 p1.length p .i64 b w y z (dN 24 147 [zy h.1,iv h.2] (d.at.part 0 2).2 (de (bE a fun a6 N a=>ocl 25 (zrk G H L M N) ?_)))
  rintro _ a3 ⟨T,rfl⟩
  replace hs:=hs.tr0 T
  refine dT 1 ?_
  refine cc _ a ?_ ?_
  ·intro k a
   refine cT 1 (crt (zg (zc ?_)))
   have hx:=f _ (sj a).symm
   subst hx
   replace a:=e
   refine zv (zg (zc ?_))
   obtain rfl:=sj a
   exact rT 4 ff ⟨hs,rfl⟩
  intro k a
  refine ck (zd (zb (cr (od 3 (oe ?_)))))
  exact ze (sj a).symm ⟨⟨_,eY⟩,hs,(zr _)⟩
 intro k a
 refine cx 0 (zh ?_)
 have hx:=f _ (sj a).symm
 subst hx
 replace a:=e
 refine zi ?_
 exact zq rfl (J1   _ _ hs  a)
theorem ziD {e:K} {p0:LI} {z A:OA} {c2 k:Nat} {p1:LI} (N:Sl tI64 e z c2 p0) (f6:Sl tI64 e A k p1) {r:Bool} (a:ze1 p0 p1=some r) :
 Fn Tryz.prog 39 #[vl z p0 c2,vl A p1 k] e (fun v f=>e=f∧v=.bool r):=by
 refine fnc 26 [] Tryz.func39 Tryz.ntmps39 fun hs=>cT 1 (cs (cT 5 ?_))
 refine cc _ a ?_ ?_
 ·intro g a
  refine cT 1 (crt (zc ?_))
  obtain rfl:=sj a
  exact rT 4 ff ⟨rfl,rfl⟩
 intro g a
 refine ckt (cs (cT 1 (cb 0 ?_)))
 refine zj 0 (fun Z=>∀ (h:Env),ziE=some r→Z (h) e) ?_ fun O=>?_
 ·intro h a
  refine zf (zb (cT 1 (crt ?_)))
  obtain rfl:=sj a
  exact rT 4 tt ⟨rfl,rfl⟩
 refine bE a fun P D i=>zp (F:=zd4 p0 p1) (J:=fun b Q f=>(∃ h,Q=ups h [(0,vl z p0 c2),(1,vl A p1 k),(5,iv b)])∧e=f∧I64 b) (s0:=0) (x:=P) kr D ⟨⟨_,eY⟩,rfl,(iK 0)⟩ ?_
 rintro b _ _ ⟨⟨h,rfl⟩,rfl,U⟩ R a j
 refine cs (cT 4 ?_)
 refine cc _ a ?_ ?_
 ·intro g a
  refine ckt (cs (cb 1 (cs (cd 8 (dd 2 (bE a fun w B a=>?_))))))
  obtain ⟨E,G,l,m,n,L,c,p⟩:=N.idx B
  obtain ⟨rfl,S⟩:=p
  replace c:PubAt e E (G+b.toNat*1) [iv w]:=c
  refine di 19 32 2 1 p0.length c2 .i64 b l m n (d1 20 2 (iv w) (c.at.one (o:=0) rfl) (dd 2 (bE a fun y C a=>?_)))
  obtain ⟨H,I,q,s,t,M,d,u⟩:=f6.idx C
  obtain ⟨rfl,T⟩:=u
  replace d:PubAt e H (I+b.toNat*1) [iv y]:=d
  refine di 23 32 2 1 p1.length k .i64 b q s t (d1 24 2 (iv y) (d.at.one (o:=0) rfl) (de (dT 1 ?_)))
  refine cc _ a ?_ ?_
  ·intro g a
   refine cT 1 (crt (zg (zc ?_)))
   have hx:=j _ (sj a).symm
   subst hx
   replace a:=i
   refine zv (zg (zc ?_))
   obtain rfl:=sj a
   exact rT 4 ff ⟨rfl,rfl⟩
  intro g a
  refine ck (zd (zb (cr (od 3 (oe ?_)))))
  exact ze (sj a).symm ⟨⟨_,eY⟩,rfl,(zr _)⟩
 intro g a
 refine cx 0 (zh ?_)
 have hx:=j _ (sj a).symm
 subst hx
 replace a:=i
 refine zi ?_
 exact zq rfl (O   _  a)
theorem zrj {d:K} {p0:BS×LI} {a2 e:OA} {f g:Nat} {p1:BS×LI} (s:p0.1.length≤9223372036854775807) (m:Sl tI64 d a2 f p0.2) (t:p1.1.length≤9223372036854775807) (n:Sl tI64 d e g p1.2) {r:Bool} (a:znc p0 p1=some r) :
 Fn Tryz.prog 83 #[.agg #[zy p0.1,vl a2 p0.2 f],.agg #[zy p1.1,vl e p1.2 g]] d (fun v k=>Step [] d k∧v=.bool r):=by
 refine fnc 16 [] Tryz.func83 Tryz.ntmps83 fun hs=>csr (xO 2 149 (d.H.size,83001) hs.1 [zy p0.1,vl a2 p0.2 f] fun x p l b=>?_)
 replace hs:=hs.tr0 l
 refine xO 3 149 (d.H.size,83002) hs.1 [zy p1.1,vl e p1.2 g] fun u q h c=>?_
 replace hs:=hs.tr0 h
 replace b:=b.step0 h
 refine dT 1 (cs (cO 1 (o1 6 9 (zy p0.1) (b.at.one (o:=0) rfl) (od 1 (o1 8 9 (zy p1.1) (c.at.one (o:=0) rfl) (oq 9 (.bool (!decide (p0.1=p1.1))) (fun _=>zpC kr) (ot ?_)))))))
 refine cc _ a ?_ ?_
 ·intro i a
  refine cT 1 (crt (zc ?_))
  obtain rfl:=sj a
  exact rT 4 ff ⟨hs,rfl⟩
 intro i a
 refine ckt (cs (cO 1 (o1 11 32 (vl a2 p0.2 f) (b.at.one (o:=1) rfl) (od 1 (o1 13 32 (vl e p1.2 g) (c.at.one (o:=1) rfl) (bE a fun w j a=>ocl 14 (ziD (m.step hs) (n.step hs) j) ?_))))))
 rintro _ _ ⟨rfl,rfl⟩
 refine dT 1 ?_
 refine cc _ a ?_ ?_
 ·intro i a
  refine cT 1 (crt (zc ?_))
  obtain rfl:=sj a
  exact rT 4 ff ⟨hs,rfl⟩
 intro i a
 refine ckt (cT 1 (crt ?_))
 obtain rfl:=sj a
 exact rT 4 tt ⟨hs,rfl⟩
theorem zqu {i:K} {p0:LT} {G H:OA} {c2 p:Nat} {p1:LT} (f3:Sl tTile i G c2 p0) (f6:Sl tTile i H p p1) {r:Bool} (a:zjT p0 p1=some r) :
 Fn Tryz.prog 57 #[vl G p0 c2,vl H p1 p] i (fun v j=>Step [] i j∧v=.bool r):=by
 refine fnc 27 [] Tryz.func57 Tryz.ntmps57 fun hs=>cT 1 (cs (cT 5 ?_))
 refine cc _ a ?_ ?_
 ·intro k a
  refine cT 1 (crt (zc ?_))
  obtain rfl:=sj a
  exact rT 4 ff ⟨hs,rfl⟩
 intro k a
 refine ckt (cs (cT 1 (cb 0 ?_)))
 refine zj 0 (fun Z=>∀ (l:Env) (m:K),Step [] i m→zju=some r→Z (l) m) ?_ fun J1=>?_
 ·intro l m hs a
  refine zf (zb (cT 1 (crt ?_)))
  obtain rfl:=sj a
  exact rT 4 tt ⟨hs,rfl⟩
 refine bE a fun Q I e=>zp (F:=zeI p0 p1) (J:=fun b E' j=>(∃ l,E'=ups l [(0,vl G p0 c2),(1,vl H p1 p),(5,iv b)])∧Step [] i j∧I64 b) (s0:=0) (x:=Q) kr I ⟨⟨_,eY⟩,hs,(iK 0)⟩ ?_
 rintro b _ n ⟨⟨l,rfl⟩,hs,a9⟩ a0 a f
 refine cs (cT 4 ?_)
 refine cc _ a ?_ ?_
 ·intro k a
  refine ckt (cs (cb 1 (cs (cd 8 (dd 2 (bE a fun g L a=>?_))))))
  obtain ⟨R,S,q,s,t,a2,c,u⟩:=(f3.step hs).idx L
  obtain ⟨_,_,rfl,⟨rfl,M⟩,⟨B,C,rfl,T⟩⟩:=u
  replace c:PubAt n R (S+b.toNat*2) [zy g.1,vl B g.2 C]:=c
  refine di 19 41 149 2 p0.length c2 .i64 b q s t (dN 20 149 [zy g.1,vl B g.2 C] (c.at.part 0 2).2 (dd 2 (bE a fun h N a=>?_)))
  obtain ⟨U,V,w,y,z,a3,d,A⟩:=(f6.step hs).idx N
  obtain ⟨_,_,rfl,⟨rfl,O⟩,⟨D,E,rfl,X⟩⟩:=A
  replace d:PubAt n U (V+b.toNat*2) [zy h.1,vl D h.2 E]:=d
  refine di 23 41 149 2 p1.length p .i64 b w y z (dN 24 149 [zy h.1,vl D h.2 E] (d.at.part 0 2).2 (de (bE a fun b0 P a=>ocl 25 (zrj M T O X P) ?_)))
  rintro _ a8 ⟨Y,rfl⟩
  replace hs:=hs.tr0 Y
  refine dT 1 ?_
  refine cc _ a ?_ ?_
  ·intro k a
   refine cT 1 (crt (zg (zc ?_)))
   have hx:=f _ (sj a).symm
   subst hx
   replace a:=e
   refine zv (zg (zc ?_))
   obtain rfl:=sj a
   exact rT 4 ff ⟨hs,rfl⟩
  intro k a
  refine ck (zd (zb (cr (od 3 (oe ?_)))))
  exact ze (sj a).symm ⟨⟨_,eY⟩,hs,(zr _)⟩
 intro k a
 refine cx 0 (zh ?_)
 have hx:=f _ (sj a).symm
 subst hx
 replace a:=e
 refine zi ?_
 exact zq rfl (J1   _ _ hs  a)
theorem zo4 {d:K} {p0:LG×LT} {h i j e:OA} {c2 k l f:Nat} {p1:LG×LT} (x:Sl tGlue d h c2 p0.1) (f6:Sl tTile d i k p0.2) (y:Sl tGlue d j l p1.1) (s:Sl tTile d e f p1.2) {r:Bool} (b:zkv p0 p1=some r) :
 Fn Tryz.prog 36 #[.agg #[vl h p0.1 c2,vl i p0.2 k],.agg #[vl j p1.1 l,vl e p1.2 f]] d (fun v t=>Step [] d t∧v=.bool r):=by
 refine fnc 17 [] Tryz.func36 Tryz.ntmps36 fun hs=>csr (xO 2 43 (d.H.size,36001) hs.1 [vl h p0.1 c2,vl i p0.2 k] fun D z u a=>?_)
 replace hs:=hs.tr0 u
 refine xO 3 43 (d.H.size,36002) hs.1 [vl j p1.1 l,vl e p1.2 f] fun E A m c=>?_
 replace hs:=hs.tr0 m
 replace a:=a.step0 m
 refine dT 1 (cs (cO 1 (o1 6 40 (vl h p0.1 c2) (a.at.one (o:=0) rfl) (od 1 (o1 8 40 (vl j p1.1 l) (c.at.one (o:=0) rfl) (bE b fun F n b=>ocl 9 (zqw (x.step hs) (y.step hs) n) ?_))))))
 rintro _ B ⟨g,rfl⟩
 replace hs:=hs.tr0 g
 replace a:=a.step0 g
 replace c:=c.step0 g
 refine dT 1 ?_
 refine cc _ b ?_ ?_
 ·intro p b
  refine cT 1 (crt (zc ?_))
  obtain rfl:=sj b
  exact rT 4 ff ⟨hs,rfl⟩
 intro p b
 refine ckt (cs (cO 1 (o1 12 41 (vl i p0.2 k) (a.at.one (o:=1) rfl) (od 1 (o1 14 41 (vl e p1.2 f) (c.at.one (o:=1) rfl) (bE b fun G q b=>ocl 15 (zqu (f6.step hs) (s.step hs) q) ?_))))))
 rintro _ C ⟨w,rfl⟩
 replace hs:=hs.tr0 w
 refine dT 1 ?_
 refine cc _ b ?_ ?_
 ·intro p b
  refine cT 1 (crt (zc ?_))
  obtain rfl:=sj b
  exact rT 4 ff ⟨hs,rfl⟩
 intro p b
 refine ckt (cT 1 (crt ?_))
 obtain rfl:=sj b
 exact rT 4 tt ⟨hs,rfl⟩
theorem zpN {d:K} {p0:TS×(LP)×Int} {n p q e f g:OA} {c2 s t h i j:Nat} {p1:TS×(LP)×Int} (D:Sl tGlue d n c2 p0.1.1) (f6:Sl tTile d p s p0.1.2) (E:Sl tPlaced d q t p0.2.1) (F:I64 p0.2.2) (y:Sl tGlue d e h p1.1.1) (z:Sl tTile d f i p1.1.2) (A:Sl tPlaced d g j p1.2.1) (G:I64 p1.2.2) {r:Bool} (c:zlv p0 p1=some r) :
 Fn Tryz.prog 18 #[.agg #[vl n p0.1.1 c2,vl p p0.1.2 s,vl q p0.2.1 t,iv p0.2.2],.agg #[vl e p1.1.1 h,vl f p1.1.2 i,vl g p1.2.1 j,iv p1.2.2]] d (fun v B=>Step [] d B∧v=.bool r):=by
 refine fnc 22 [] Tryz.func18 Tryz.ntmps18 fun hs=>csr (xO 2 48 (d.H.size,18001) hs.1 [vl n p0.1.1 c2,vl p p0.1.2 s,vl q p0.2.1 t,iv p0.2.2] fun M H C a=>?_)
 replace hs:=hs.tr0 C
 refine xO 3 48 (d.H.size,18002) hs.1 [vl e p1.1.1 h,vl f p1.1.2 i,vl g p1.2.1 j,iv p1.2.2] fun N I u b=>?_
 replace hs:=hs.tr0 u
 replace a:=a.step0 u
 refine dT 1 (cs (cO 1 (oN 6 43 [vl n p0.1.1 c2,vl p p0.1.2 s] (a.at.part 0 2).2 (od 1 (oN 8 43 [vl e p1.1.1 h,vl f p1.1.2 i] (b.at.part 0 2).2 (bE c fun O w c=>ocl 9 (zo4 (D.step hs) (f6.step hs) (y.step hs) (z.step hs) w) ?_))))))
 rintro _ J ⟨k,rfl⟩
 replace hs:=hs.tr0 k
 replace a:=a.step0 k
 replace b:=b.step0 k
 refine dT 1 ?_
 refine cc _ c ?_ ?_
 ·intro l c
  refine cT 1 (crt (zc ?_))
  obtain rfl:=sj c
  exact rT 4 ff ⟨hs,rfl⟩
 intro l c
 refine ckt (cs (cO 1 (oN 12 46 [vl q p0.2.1 t] (a.at.part 2 1).2 (od 1 (oN 14 46 [vl g p1.2.1 j] (b.at.part 2 1).2 (bE c fun P x c=>ocl 15 (zkw (E.step hs) (A.step hs) x) ?_))))))
 rintro _ L ⟨m,rfl⟩
 replace hs:=hs.tr0 m
 replace a:=a.step0 m
 replace b:=b.step0 m
 refine dT 1 ?_
 refine cc _ c ?_ ?_
 ·intro l c
  refine cT 1 (crt (zc ?_))
  obtain rfl:=sj c
  exact rT 4 ff ⟨hs,rfl⟩
 intro l c
 refine ckt (cs (cO 1 (o1 18 2 (iv p0.2.2) (a.at.one (o:=3) rfl) (od 1 (o1 20 2 (iv p1.2.2) (b.at.one (o:=3) rfl) (dT 1 ?_))))))
 refine cc _ c ?_ ?_
 ·intro l c
  refine cT 1 (crt (zc ?_))
  obtain rfl:=sj c
  exact rT 4 ff ⟨hs,rfl⟩
 intro l c
 refine ckt (cT 1 (crt ?_))
 obtain rfl:=sj c
 exact rT 4 tt ⟨hs,rfl⟩
theorem zpP {e:K} {p0:(Int×Int)×Int} {p1:(Int×Int)×Int} (i:I64 p0.1.1) (j:I64 p0.1.2) (s:I64 p0.2) (k:I64 p1.1.1) (l:I64 p1.1.2) (t:I64 p1.2) {r:Bool} (c:zlx p0 p1=some r) :
 Fn Tryz.prog 59 #[.agg #[iv p0.1.1,iv p0.1.2,iv p0.2],.agg #[iv p1.1.1,iv p1.1.2,iv p1.2]] e (fun v m=>Step [] e m∧v=.bool r):=by
 refine fnc 16 [] Tryz.func59 Tryz.ntmps59 fun hs=>csr (xO 2 110 (e.H.size,59001) hs.1 [iv p0.1.1,iv p0.1.2,iv p0.2] fun y u n a=>?_)
 replace hs:=hs.tr0 n
 refine xO 3 110 (e.H.size,59002) hs.1 [iv p1.1.1,iv p1.1.2,iv p1.2] fun w p f b=>?_
 replace hs:=hs.tr0 f
 replace a:=a.step0 f
 refine dT 1 (cs (cO 1 (oN 6 103 [iv p0.1.1,iv p0.1.2] (a.at.part 0 2).2 (od 1 (oN 8 103 [iv p1.1.1,iv p1.1.2] (b.at.part 0 2).2 (bE c fun x g c=>ocl 9 (zmE i j k l g) ?_))))))
 rintro _ q ⟨d,rfl⟩
 replace hs:=hs.tr0 d
 replace a:=a.step0 d
 replace b:=b.step0 d
 refine dT 1 ?_
 refine cc _ c ?_ ?_
 ·intro h c
  refine cT 1 (crt (zc ?_))
  obtain rfl:=sj c
  exact rT 4 ff ⟨hs,rfl⟩
 intro h c
 refine ckt (cs (cO 1 (o1 12 2 (iv p0.2) (a.at.one (o:=2) rfl) (od 1 (o1 14 2 (iv p1.2) (b.at.one (o:=2) rfl) (dT 1 ?_))))))
 refine cc _ c ?_ ?_
 ·intro h c
  refine cT 1 (crt (zc ?_))
  obtain rfl:=sj c
  exact rT 4 ff ⟨hs,rfl⟩
 intro h c
 refine ckt (cT 1 (crt ?_))
 obtain rfl:=sj c
 exact rT 4 tt ⟨hs,rfl⟩
theorem zk7 {i:K} {p0:LP} {B C:OA} {c2 p:Nat} {p1:LP} (f3:Sl tPlaced i B c2 p0) (f6:Sl tPlaced i C p p1) {r:Bool} (a:zfD p0 p1=some r) :
 Fn Tryz.prog 38 #[vl B p0 c2,vl C p1 p] i (fun v j=>Step [] i j∧v=.bool r):=by
 refine fnc 27 [] Tryz.func38 Tryz.ntmps38 fun hs=>cT 1 (cs (cT 5 ?_))
 refine cc _ a ?_ ?_
 ·intro k a
  refine cT 1 (crt (zc ?_))
  obtain rfl:=sj a
  exact rT 4 ff ⟨hs,rfl⟩
 intro k a
 refine ckt (cs (cT 1 (cb 0 ?_)))
 refine zj 0 (fun Z=>∀ (l:Env) (m:K),Step [] i m→zhY=some r→Z (l) m) ?_ fun J1=>?_
 ·intro l m hs a
  refine zf (zb (cT 1 (crt ?_)))
  obtain rfl:=sj a
  exact rT 4 tt ⟨hs,rfl⟩
 refine bE a fun Q D g=>zp (F:=zdq p0 p1) (J:=fun b E' j=>(∃ l,E'=ups l [(0,vl B p0 c2),(1,vl C p1 p),(5,iv b)])∧Step [] i j∧I64 b) (s0:=0) (x:=Q) kr D ⟨⟨_,eY⟩,hs,(iK 0)⟩ ?_
 rintro b _ n ⟨⟨l,rfl⟩,hs,a7⟩ X a h
 refine cs (cT 4 ?_)
 refine cc _ a ?_ ?_
 ·intro k a
  refine ckt (cs (cb 1 (cs (cd 8 (dd 2 (bE a fun c E a=>?_))))))
  obtain ⟨R,S,q,s,t,Y,e,u⟩:=(f3.step hs).idx E
  obtain ⟨_,_,rfl,⟨_,_,rfl,⟨rfl,G⟩,⟨rfl,H⟩⟩,⟨rfl,I⟩⟩:=u
  replace e:PubAt n R (S+b.toNat*3) [iv c.1.1,iv c.1.2,iv c.2]:=e
  refine di 19 49 110 3 p0.length c2 .i64 b q s t (dN 20 110 [iv c.1.1,iv c.1.2,iv c.2] (e.at.part 0 3).2 (dd 2 (bE a fun d L a=>?_)))
  obtain ⟨T,U,w,y,z,a0,f,A⟩:=(f6.step hs).idx L
  obtain ⟨_,_,rfl,⟨_,_,rfl,⟨rfl,M⟩,⟨rfl,N⟩⟩,⟨rfl,O⟩⟩:=A
  replace f:PubAt n T (U+b.toNat*3) [iv d.1.1,iv d.1.2,iv d.2]:=f
  refine di 23 49 110 3 p1.length p .i64 b w y z (dN 24 110 [iv d.1.1,iv d.1.2,iv d.2] (f.at.part 0 3).2 (de (bE a fun a8 P a=>ocl 25 (zpP G H I M N O P) ?_)))
  rintro _ a6 ⟨V,rfl⟩
  replace hs:=hs.tr0 V
  refine dT 1 ?_
  refine cc _ a ?_ ?_
  ·intro k a
   refine cT 1 (crt (zg (zc ?_)))
   have hx:=h _ (sj a).symm
   subst hx
   replace a:=g
   refine zv (zg (zc ?_))
   obtain rfl:=sj a
   exact rT 4 ff ⟨hs,rfl⟩
  intro k a
  refine ck (zd (zb (cr (od 3 (oe ?_)))))
  exact ze (sj a).symm ⟨⟨_,eY⟩,hs,(zr _)⟩
 intro k a
 refine cx 0 (zh ?_)
 have hx:=h _ (sj a).symm
 subst hx
 replace a:=g
 refine zi ?_
 exact zq rfl (J1   _ _ hs  a)
theorem zo6 {e:K} {p0:LM} {D E:OA} {c2 k:Nat} {p1:LM} (U:Sl (tSl tI64) e D c2 p0) (f6:Sl (tSl tI64) e E k p1) {r:Bool} (a:zh0 p0 p1=some r) :
 Fn Tryz.prog 40 #[vl D p0 c2,vl E p1 k] e (fun v f=>e=f∧v=.bool r):=by
 refine fnc 27 [] Tryz.func40 Tryz.ntmps40 fun hs=>cT 1 (cs (cT 5 ?_))
 refine cc _ a ?_ ?_
 ·intro g a
  refine cT 1 (crt (zc ?_))
  obtain rfl:=sj a
  exact rT 4 ff ⟨rfl,rfl⟩
 intro g a
 refine ckt (cs (cT 1 (cb 0 ?_)))
 refine zj 0 (fun Z=>∀ (h:Env),zhZ=some r→Z (h) e) ?_ fun V=>?_
 ·intro h a
  refine zf (zb (cT 1 (crt ?_)))
  obtain rfl:=sj a
  exact rT 4 tt ⟨rfl,rfl⟩
 refine bE a fun X L i=>zp (F:=zdr p0 p1) (J:=fun b Y f=>(∃ h,Y=ups h [(0,vl D p0 c2),(1,vl E p1 k),(5,iv b)])∧e=f∧I64 b) (s0:=0) (x:=X) kr L ⟨⟨_,eY⟩,rfl,(iK 0)⟩ ?_
 rintro b _ _ ⟨⟨h,rfl⟩,rfl,a2⟩ a0 a j
 refine cs (cT 4 ?_)
 refine cc _ a ?_ ?_
 ·intro g a
  refine ckt (cs (cb 1 (cs (cd 8 (dd 2 (bE a fun w G a=>?_))))))
  obtain ⟨M,N,l,m,n,S,c,p⟩:=U.idx G
  obtain ⟨y,z,rfl,O⟩:=p
  replace c:PubAt e M (N+b.toNat*1) [vl y w z]:=c
  refine di 19 33 32 1 p0.length c2 .i64 b l m n (d1 20 32 (vl y w z) (c.at.one (o:=0) rfl) (dd 2 (bE a fun A H a=>?_)))
  obtain ⟨P,Q,q,s,t,T,d,u⟩:=f6.idx H
  obtain ⟨B,C,rfl,R⟩:=u
  replace d:PubAt e P (Q+b.toNat*1) [vl B A C]:=d
  refine di 23 33 32 1 p1.length k .i64 b q s t (d1 24 32 (vl B A C) (d.at.one (o:=0) rfl) (de (bE a fun a3 I a=>ocl 25 (ziD O R I) ?_)))
  rintro _ _ ⟨rfl,rfl⟩
  refine dT 1 ?_
  refine cc _ a ?_ ?_
  ·intro g a
   refine cT 1 (crt (zg (zc ?_)))
   have hx:=j _ (sj a).symm
   subst hx
   replace a:=i
   refine zv (zg (zc ?_))
   obtain rfl:=sj a
   exact rT 4 ff ⟨rfl,rfl⟩
  intro g a
  refine ck (zd (zb (cr (od 3 (oe ?_)))))
  exact ze (sj a).symm ⟨⟨_,eY⟩,rfl,(zr _)⟩
 intro g a
 refine cx 0 (zh ?_)
 have hx:=j _ (sj a).symm
 subst hx
 replace a:=i
 refine zi ?_
 exact zq rfl (V   _  a)
theorem zqv {d:K} {p0:Int×LP×LP×LI×LM} {a2 t u f g h i j:OA} {w x y k l m n p:Nat} {p1:Int×LP×LP×LI×LM} (U:I64 p0.1) (N:Sl tPlaced d a2 w p0.2.1) (O:Sl tPlaced d t x p0.2.2.1) (E:Sl tI64 d u y p0.2.2.2.1) (F:Sl (tSl tI64) d f k p0.2.2.2.2) (P:I64 p1.1) (G:Sl tPlaced d g l p1.2.1) (H:Sl tPlaced d h m p1.2.2.1) (I:Sl tI64 d i n p1.2.2.2.1) (J:Sl (tSl tI64) d j p p1.2.2.2.2) {r:Bool} (a:zmj p0 p1=some r) :
 Fn Tryz.prog 20 #[.agg #[iv p0.1,vl a2 p0.2.1 w,vl t p0.2.2.1 x,vl u p0.2.2.2.1 y,vl f p0.2.2.2.2 k],.agg #[iv p1.1,vl g p1.2.1 l,vl h p1.2.2.1 m,vl i p1.2.2.2.1 n,vl j p1.2.2.2.2 p]] d (fun v L=>Step [] d L∧v=.bool r):=by
 refine fnc 34 [] Tryz.func20 Tryz.ntmps20 fun hs=>csr (xO 2 51 (d.H.size,20001) hs.1 [iv p0.1,vl a2 p0.2.1 w,vl t p0.2.2.1 x,vl u p0.2.2.2.1 y,vl f p0.2.2.2.2 k] fun V Q M b=>?_)
 replace hs:=hs.tr0 M
 refine xO 3 51 (d.H.size,20002) hs.1 [iv p1.1,vl g p1.2.1 l,vl h p1.2.2.1 m,vl i p1.2.2.2.1 n,vl j p1.2.2.2.2 p] fun X R z c=>?_
 replace hs:=hs.tr0 z
 replace b:=b.step0 z
 refine dT 1 (cs (cO 1 (o1 6 2 (iv p0.1) (b.at.one (o:=0) rfl) (od 1 (o1 8 2 (iv p1.1) (c.at.one (o:=0) rfl) (dT 1 ?_))))))
 refine cc _ a ?_ ?_
 ·intro e a
  refine cT 1 (crt (zc ?_))
  obtain rfl:=sj a
  exact rT 4 ff ⟨hs,rfl⟩
 intro e a
 refine ckt (cs (cO 1 (o1 11 49 (vl a2 p0.2.1 w) (b.at.one (o:=1) rfl) (od 1 (o1 13 49 (vl g p1.2.1 l) (c.at.one (o:=1) rfl) (bE a fun Y A a=>ocl 14 (zk7 (N.step hs) (G.step hs) A) ?_))))))
 rintro _ S ⟨q,rfl⟩
 replace hs:=hs.tr0 q
 replace b:=b.step0 q
 replace c:=c.step0 q
 refine dT 1 ?_
 refine cc _ a ?_ ?_
 ·intro e a
  refine cT 1 (crt (zc ?_))
  obtain rfl:=sj a
  exact rT 4 ff ⟨hs,rfl⟩
 intro e a
 refine ckt (cs (cO 1 (o1 17 49 (vl t p0.2.2.1 x) (b.at.one (o:=2) rfl) (od 1 (o1 19 49 (vl h p1.2.2.1 m) (c.at.one (o:=2) rfl) (bE a fun Z B a=>ocl 20 (zk7 (O.step hs) (H.step hs) B) ?_))))))
 rintro _ T ⟨s,rfl⟩
 replace hs:=hs.tr0 s
 replace b:=b.step0 s
 replace c:=c.step0 s
 refine dT 1 ?_
 refine cc _ a ?_ ?_
 ·intro e a
  refine cT 1 (crt (zc ?_))
  obtain rfl:=sj a
  exact rT 4 ff ⟨hs,rfl⟩
 intro e a
 refine ckt (cs (cO 1 (o1 23 32 (vl u p0.2.2.2.1 y) (b.at.one (o:=3) rfl) (od 1 (o1 25 32 (vl i p1.2.2.2.1 n) (c.at.one (o:=3) rfl) (bE a fun a0 C a=>ocl 26 (ziD (E.step hs) (I.step hs) C) ?_))))))
 rintro _ _ ⟨rfl,rfl⟩
 refine dT 1 ?_
 refine cc _ a ?_ ?_
 ·intro e a
  refine cT 1 (crt (zc ?_))
  obtain rfl:=sj a
  exact rT 4 ff ⟨hs,rfl⟩
 intro e a
 refine ckt (cs (cO 1 (o1 29 33 (vl f p0.2.2.2.2 k) (b.at.one (o:=4) rfl) (od 1 (o1 31 33 (vl j p1.2.2.2.2 p) (c.at.one (o:=4) rfl) (bE a fun a1 D a=>ocl 32 (zo6 (F.step hs) (J.step hs) D) ?_))))))
 rintro _ _ ⟨rfl,rfl⟩
 refine dT 1 ?_
 refine cc _ a ?_ ?_
 ·intro e a
  refine cT 1 (crt (zc ?_))
  obtain rfl:=sj a
  exact rT 4 ff ⟨hs,rfl⟩
 intro e a
 refine ckt (cT 1 (crt ?_))
 obtain rfl:=sj a
 exact rT 4 tt ⟨hs,rfl⟩
theorem zqx {d:K} {p0:BS×(TS×(LP)×Int)×(LP)×(Int×LP×LP×LI×LM)} {a2 L M f g h i j k l m n p q s t:OA} {N O P u w x y z A B C D E F G H:Nat} {p1:BS×(TS×(LP)×Int)×(LP)×(Int×LP×LP×LI×LM)} (d0:p0.1.length≤9223372036854775807) (f4:Sl tGlue d a2 N p0.2.1.1.1) (f7:Sl tTile d L O p0.2.1.1.2) (Z:Sl tPlaced d M P p0.2.1.2.1) (R:I64 p0.2.1.2.2) (a0:Sl tPlaced d f u p0.2.2.1) (S:I64 p0.2.2.2.1) (a1:Sl tPlaced d g w p0.2.2.2.2.1) (a3:Sl tPlaced d h x p0.2.2.2.2.2.1) (a4:Sl tI64 d i y p0.2.2.2.2.2.2.1) (a6:Sl (tSl tI64) d j z p0.2.2.2.2.2.2.2) (c1:p1.1.length≤9223372036854775807) (a7:Sl tGlue d k A p1.2.1.1.1) (a9:Sl tTile d l B p1.2.1.1.2) (b0:Sl tPlaced d m C p1.2.1.2.1) (T:I64 p1.2.1.2.2) (b1:Sl tPlaced d n D p1.2.2.1) (U:I64 p1.2.2.2.1) (b2:Sl tPlaced d p E p1.2.2.2.2.1) (b3:Sl tPlaced d q F p1.2.2.2.2.2.1) (b4:Sl tI64 d s G p1.2.2.2.2.2.2.1) (b5:Sl (tSl tI64) d t H p1.2.2.2.2.2.2.2) {r:Bool} (b:zjV p0 p1=some r) :
 Fn Tryz.prog 8 #[.agg #[zy p0.1,vl a2 p0.2.1.1.1 N,vl L p0.2.1.1.2 O,vl M p0.2.1.2.1 P,iv p0.2.1.2.2,vl f p0.2.2.1 u,iv p0.2.2.2.1,vl g p0.2.2.2.2.1 w,vl h p0.2.2.2.2.2.1 x,vl i p0.2.2.2.2.2.2.1 y,vl j p0.2.2.2.2.2.2.2 z],.agg #[zy p1.1,vl k p1.2.1.1.1 A,vl l p1.2.1.1.2 B,vl m p1.2.1.2.1 C,iv p1.2.1.2.2,vl n p1.2.2.1 D,iv p1.2.2.2.1,vl p p1.2.2.2.2.1 E,vl q p1.2.2.2.2.2.1 F,vl s p1.2.2.2.2.2.2.1 G,vl t p1.2.2.2.2.2.2.2 H]] d (fun v b6=>Step [] d b6∧v=.bool r):=by
 refine fnc 28 [] Tryz.func8 Tryz.ntmps8 fun hs=>csr (xO 2 53 (d.H.size,8001) hs.1 [zy p0.1,vl a2 p0.2.1.1.1 N,vl L p0.2.1.1.2 O,vl M p0.2.1.2.1 P,iv p0.2.1.2.2,vl f p0.2.2.1 u,iv p0.2.2.2.1,vl g p0.2.2.2.2.1 w,vl h p0.2.2.2.2.2.1 x,vl i p0.2.2.2.2.2.2.1 y,vl j p0.2.2.2.2.2.2.2 z] fun d2 c2 b7 a=>?_)
 replace hs:=hs.tr0 b7
 refine xO 3 53 (d.H.size,8002) hs.1 [zy p1.1,vl k p1.2.1.1.1 A,vl l p1.2.1.1.2 B,vl m p1.2.1.2.1 C,iv p1.2.1.2.2,vl n p1.2.2.1 D,iv p1.2.2.2.1,vl p p1.2.2.2.2.1 E,vl q p1.2.2.2.2.2.1 F,vl s p1.2.2.2.2.2.2.1 G,vl t p1.2.2.2.2.2.2.2 H] fun d3 c4 Q c=>?_
 replace hs:=hs.tr0 Q
 replace a:=a.step0 Q
 refine dT 1 (cs (cO 1 (o1 6 9 (zy p0.1) (a.at.one (o:=0) rfl) (od 1 (o1 8 9 (zy p1.1) (c.at.one (o:=0) rfl) (oq 9 (.bool (!decide (p0.1=p1.1))) (fun _=>zpC kr) (ot ?_)))))))
 refine cc _ b ?_ ?_
 ·intro e b
  refine cT 1 (crt (zc ?_))
  obtain rfl:=sj b
  exact rT 4 ff ⟨hs,rfl⟩
 intro e b
 refine ckt (cs (cO 1 (oN 11 48 [vl a2 p0.2.1.1.1 N,vl L p0.2.1.1.2 O,vl M p0.2.1.2.1 P,iv p0.2.1.2.2] (a.at.part 1 4).2 (od 1 (oN 13 48 [vl k p1.2.1.1.1 A,vl l p1.2.1.1.2 B,vl m p1.2.1.2.1 C,iv p1.2.1.2.2] (c.at.part 1 4).2 (bE b fun d4 V b=>ocl 14 (zpN (f4.step hs) (f7.step hs) (Z.step hs) R (a7.step hs) (a9.step hs) (b0.step hs) T V) ?_))))))
 rintro _ c5 ⟨I,rfl⟩
 replace hs:=hs.tr0 I
 replace a:=a.step0 I
 replace c:=c.step0 I
 refine dT 1 ?_
 refine cc _ b ?_ ?_
 ·intro e b
  refine cT 1 (crt (zc ?_))
  obtain rfl:=sj b
  exact rT 4 ff ⟨hs,rfl⟩
 intro e b
 refine ckt (cs (cO 1 (oN 17 46 [vl f p0.2.2.1 u] (a.at.part 5 1).2 (od 1 (oN 19 46 [vl n p1.2.2.1 D] (c.at.part 5 1).2 (bE b fun d5 X b=>ocl 20 (zkw (a0.step hs) (b1.step hs) X) ?_))))))
 rintro _ c7 ⟨J,rfl⟩
 replace hs:=hs.tr0 J
 replace a:=a.step0 J
 replace c:=c.step0 J
 refine dT 1 ?_
 refine cc _ b ?_ ?_
 ·intro e b
  refine cT 1 (crt (zc ?_))
  obtain rfl:=sj b
  exact rT 4 ff ⟨hs,rfl⟩
 intro e b
 refine ckt (cs (cO 1 (oN 23 51 [iv p0.2.2.2.1,vl g p0.2.2.2.2.1 w,vl h p0.2.2.2.2.2.1 x,vl i p0.2.2.2.2.2.2.1 y,vl j p0.2.2.2.2.2.2.2 z] (a.at.part 6 5).2 (od 1 (oN 25 51 [iv p1.2.2.2.1,vl p p1.2.2.2.2.1 E,vl q p1.2.2.2.2.2.1 F,vl s p1.2.2.2.2.2.2.1 G,vl t p1.2.2.2.2.2.2.2 H] (c.at.part 6 5).2 (bE b fun d6 Y b=>ocl 26 (zqv S (a1.step hs) (a3.step hs) (a4.step hs) (a6.step hs) U (b2.step hs) (b3.step hs) (b4.step hs) (b5.step hs) Y) ?_))))))
 rintro _ c8 ⟨b8,rfl⟩
 replace hs:=hs.tr0 b8
 refine dT 1 ?_
 refine cc _ b ?_ ?_
 ·intro e b
  refine cT 1 (crt (zc ?_))
  obtain rfl:=sj b
  exact rT 4 ff ⟨hs,rfl⟩
 intro e b
 refine ckt (cT 1 (crt ?_))
 obtain rfl:=sj b
 exact rT 4 tt ⟨hs,rfl⟩
end Go.Lf
