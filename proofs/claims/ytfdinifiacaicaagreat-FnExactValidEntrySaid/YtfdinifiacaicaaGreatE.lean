import Derived.Test.YtfdinifiacaicaaGreatD
set_option linter.all false
set_option maxRecDepth 100000
set_option maxHeartbeats 4000000
namespace Go.Lf
open Go Go.Proofs
theorem zkd {e:K} {p0:LG×LT} {j k:Nat} {S T U:OA} {c2 V X:Nat} {p1:LP} {l m:Nat} {d:Int×Int} {s:Int} (m0:At e j k [vl S p0.1 c2,vl T p0.2 V]) (f3:Sl tGlue e S c2 p0.1) (f6:Sl tTile e T V p0.2) (m1:At e l m [vl U p1 X]) (f9:Sl tPlaced e U X p1) (C:I64 d.1) (D:I64 d.2) (E:I64 s) {r:Int} (b:zeC p0 p1 d s=some r) :
 Fn Tryz.prog 125 #[pt j k,pt l m,.agg #[iv d.1,iv d.2],iv s] e (fun v n=>Step [] e n∧v=iv r∧I64 r):=by
 refine fnc 31 [] Tryz.func125 Tryz.ntmps125 fun hs=>csr (xO 6 103 (e.H.size,125001) hs.1 [iv d.1,iv d.2] fun p a9 Y a=>?_)
 replace hs:=hs.tr0 Y
 refine od 1 (otx (dT 1 (cs (cT 1 (cb 0 ?_)))))
 refine zj 0 (fun Z=>∀ (g:Int) (h:Env) (i:K),Step [] e i→I64 g→zke g=some r→Z (ups h [(9,iv g)]) i) ?_ fun J1=>?_
 ·intro g h i hs G b
  refine zf (zb (cT 2 (crt ?_)))
  obtain rfl:=sj b
  exact rT 8 (iv g) ⟨hs,rfl,G⟩
 refine bE b fun a0 H w=>zp (F:=zej p0 p1 d s) (J:=fun c E' n=>(∃ h,E'=ups h [(0,pt j k),(1,pt l m),(3,iv s),(6,pt p 0),(9,iv c.1),(10,iv c.2)])∧Step [] e n∧I64 c.1∧I64 c.2∧Box (e.H.size,125001) n p [iv d.1,iv d.2] 103) (s0:=(0,0)) (x:=a0) kr H ⟨⟨_,eY⟩,hs,(iK 0),(iK 0),a⟩ ?_
 rintro c _ b2 ⟨⟨h,rfl⟩,hs,t,u,a⟩ y b z
 refine cs (cT 2 ?_)
 refine cc _ b ?_ ?_
 ·intro I b
  refine ckt ?_
  refine zn (fun Z=>∀ (q:Int) (h:Env) (f:K),Step [] e f→I64 q→Box (e.H.size,125001) f p [iv d.1,iv d.2] 103→zek c q=some y→cwp Tryz.prog 31 (sub (zB Tryz.f125) [1,1,0,0,1,0,1,1]) Z (ups h [(0,pt j k),(1,pt l m),(3,iv s),(6,pt p 0),(9,iv q),(10,iv c.2)]) f) ?_ fun J2=>?_
  ·intro q h f hs L a b
   refine cr (od 3 (oe ?_))
   exact ze (sj b).symm ⟨⟨_,eY⟩,hs,L,(zr _),a⟩
  refine cs (cb 1 (cO 1 (oN 17 103 [iv d.1,iv d.2] (a.at.part 0 2).2 (od 1 (bE b fun b6 M b=>ocl 19 (zb0 C D u M) ?_)))))
  rintro _ b3 ⟨A,rfl,N,O⟩
  replace hs:=hs.tr0 A
  replace a:=a.step0 A
  refine bE b fun b7 P b=>ocl 20 (zlk ((m1.step0 hs).part 0 1) (f9.step hs) N O P) ?_
  rintro _ b4 ⟨B,rfl,Q⟩
  replace hs:=hs.tr0 B
  replace a:=a.step0 B
  refine od 1 (otx (dT 2 ?_))
  refine cc _ b ?_ ?_
  ·intro I b
   refine cr (od 5 (bE b fun a3 R b=>ocl 28 (zjq ((m0.step0 hs).part 0 2) (f3.step hs) (f6.step hs) E u Q R) ?_))
   rintro _ _ ⟨rfl,rfl,b5⟩
   refine od 2 (oe (zd (zb ?_)))
   exact zk eY (J2 (w64 (c.1+a3))  _ _ hs (zr _) a b)
  intro I b
  refine ck (zd (zb ?_))
  exact zk eY (J2 c.1  _ _ hs t a b)
 intro I b
 refine cx 0 (zh ?_)
 have hx:=z _ (sj b).symm
 subst hx
 replace b:=w
 refine zi ?_
 exact zq eY (J1 c.1  _ _ hs t b)
theorem zqV {f:K} {p0:TS×(LP)×Int} {d e:Nat} {C D E s:OA} {c2 F G t:Nat} {p1:LP} {j k:Nat} {c:(Int×Int)×Int} (x:At f d e [vl C p0.1.1 c2,vl D p0.1.2 F,vl E p0.2.1 G,iv p0.2.2]) (H:Sl tGlue f C c2 p0.1.1) (f6:Sl tTile f D F p0.1.2) (U:Sl tPlaced f E G p0.2.1) (N:I64 p0.2.2) (m1:At f j k [vl s p1 t]) (u:Sl tPlaced f s t p1) (h:I64 c.1.1) (i:I64 c.1.2) (l:I64 c.2) {r:Bool} (b:zkR p0 p1 c=some r) :
 Fn Tryz.prog 127 #[pt d e,pt j k,.agg #[iv c.1.1,iv c.1.2,iv c.2]] f (fun v I=>Step [] f I∧v=.bool r):=by
 refine fnc 41 [] Tryz.func127 Tryz.ntmps127 fun hs=>csr (xO 5 110 (f.H.size,127001) hs.1 [iv c.1.1,iv c.1.2,iv c.2] fun g O J a=>?_)
 replace hs:=hs.tr0 J
 refine dT 1 (cs (cx_ 32 [0,1,2,3,4,5,6,7,8,9,10,11,12,13,14,15,16,17,18,19,20,21,22,23,24,25,26,28,29,30,31,27] [2,9,15,27] 32 [] (xp 7 (pt g 0) (xN 8 103 [iv c.1.1,iv c.1.2] a.at 0 2 rfl (bE b fun L y b=>xcl 9 (ziv h i y) ?_)))))
 rintro _ P ⟨m,rfl⟩
 refine ⟨m,?_⟩
 replace hs:=hs.tr0 m
 replace a:=a.step0 m
 refine xsp 10 (L) b ?_ ?_
 ·intro n b
  refine xs 11 (xs 12 (xs 13 (xs 14 (xs 15 (xs 16 (xp 17 ff (xp 18 ff (xs 19 (xs 20 (xs 21 (xs 22 (xs 23 (xp 24 ff (xp 25 ff (xs 26 (xs 27 (xs 28 (xs 29 (xs 30 (xs 31 (xs 32 (xs 33 (xs 35 ?_)))))))))))))))))))))))
  refine xs 36 (xs 37 (xs 38 (xs 34 (xe (os 39 (dT 2 (crt ?_)))))))
  obtain rfl:=sj b
  exact rT 6 ff ⟨hs,rfl⟩
 intro n b
 refine xp 11 (pt d e) (xp 12 (pt d e) (xp 13 (pt d e) (xp 14 (pt g 2) (x1 15 2 (iv c.2) a.at 2 rfl (bE b fun x23 z b=>xcl 16 (zlO ((x.step0 hs).part 0 2) (H.step hs) (f6.step hs) l z) ?_)))))
 rintro _ _ ⟨rfl,rfl⟩
 refine ⟨Step.refl _ _,?_⟩
 refine xp 17 (.bool x23) ?_
 refine xsp 18 (x23) b ?_ ?_
 ·intro n b
  refine xs 19 (xs 20 (xs 21 (xs 22 (xs 23 (xp 24 ff (xp 25 ff (xs 26 (xs 27 (xs 28 (xs 29 (xs 30 (xs 31 (xs 32 (xs 33 (xs 35 (xs 36 (xs 37 (xs 38 (xs 34 (xe (os 39 (od 2 ?_))))))))))))))))))))))
  refine ot (crt ?_)
  obtain rfl:=sj b
  exact rT 6 ff ⟨hs,rfl⟩
 intro n b
 refine xp 19 (pt j k) (xp 20 (pt g 0) (xN 21 103 [iv c.1.1,iv c.1.2] a.at 0 2 rfl (bE b fun p A b=>xcl 22 (zfY ((m1.step0 hs).part 0 1) (u.step hs) h i A) ?_)))
 rintro _ Q ⟨q,rfl,R⟩
 refine ⟨q,?_⟩
 replace hs:=hs.tr0 q
 replace a:=a.step0 q
 refine xp 23 (bW (p<0)) (xp 24 (bW (p<0)) ?_)
 refine xsp 25 (decide (p<0)) b ?_ ?_
 ·intro n b
  refine xs 26 (xs 27 (xs 28 (xs 29 (xs 30 (xs 31 (xs 32 (xs 33 (xs 35 (xs 36 (xs 37 (xs 38 (xs 34 (xe (os 39 (dT 2 (crt ?_))))))))))))))))
  obtain rfl:=sj b
  exact rT 6 ff ⟨hs,rfl⟩
 intro n b
 refine xp 26 (pt d e) (xp 27 (pt d e) (xp 28 (pt d e) (xp 29 (pt j k) (xp 30 (pt g 0) (xN 31 103 [iv c.1.1,iv c.1.2] a.at 0 2 rfl (xp 32 (pt g 2) (x1 33 2 (iv c.2) a.at 2 rfl (xp 35 (pt d e) (xp 36 (pt d e) (xp 37 (pt d (e+3)) (x1 38 2 (iv p0.2.2) (x.step0 hs) 3 rfl (bE b fun M B b=>xcl 34 (zkd ((x.step0 hs).part 0 2) (H.step hs) (f6.step hs) ((m1.step0 hs).part 0 1) (u.step hs) h i l B) ?_))))))))))))
 rintro _ S ⟨w,rfl,T⟩
 refine ⟨w,?_⟩
 replace hs:=hs.tr0 w
 refine xe (dT 3 (crt ?_))
 obtain rfl:=sj b
 exact rT 6 (bW (M≥p0.2.2)) ⟨hs,rfl⟩
theorem zmU {j:K} {p0:LP} {B C:Nat} {a1:OA} {c2:Nat} {p1:Int×Int} {q:Int} (m0:At j B C [vl a1 p0 c2]) (f3:Sl tPlaced j a1 c2 p0) (c3:I64 p1.1) (c4:I64 p1.2) (f4:I64 q) {r:(LP)} (i:zi7 p0 p1 q=some r) :
 Fn Tryz.prog 126 #[pt B C,.agg #[iv p1.1,iv p1.2],iv q] j (fun v D=>Step [] j D∧∃ (a7:OA) (c8:Nat),v=.agg #[vl a7 r c8]∧Sl tPlaced D a7 c8 r):=by
 refine fnc 65 [] Tryz.func126 Tryz.ntmps126 fun hs=>csr (xO 4 103 (j.H.size,126001) hs.1 [iv p1.1,iv p1.2] fun E j3 h3 g=>?_)
 replace hs:=hs.tr0 h3
 refine xT 6 46 (j.H.size,126002) hs.1 [sl none 0 0] fun s j4 f5 f=>?_
 replace hs:=hs.tr0 f5
 replace g:=g.step0 f5
 refine otx (od 1 (xT 7 46 (j.H.size,126003) hs.1 [sl none 0 0] fun n j5 c5 c=>?_))
 replace hs:=hs.tr0 c5
 replace g:=g.step0 c5
 replace f:=f.step0 c5
 refine xM 46 [sl none 0 0] c fun j6 c6 _ k=>?_
 replace hs:=hs.trB c.ge c6
 replace g:=g.step c6 (nm1 (g.ne c (zl kr)))
 replace f:=f.step c6 (nm1 (f.ne c (zl kr)))
 replace c:=k
 refine otx (dT 1 (cs (cT 1 (cb 0 ?_))))
 refine zj 0 (fun Z=>∀ (c7:Bool) (L:LP) (V:OA) (X:Nat) (z:Env) (w:K),Step [] j w→Gr tPlaced true (j.H.size,126005) w 105 V X L→Box (j.H.size,126001) w E [iv p1.1,iv p1.2] 103→Box (j.H.size,126002) w s [sl none 0 0] 46→Box (j.H.size,126003) w n [vl V L X] 46→zfu p1 q c7 L=some r→Z (ups z [(2,iv q),(4,pt E 0),(6,pt s 0),(7,pt n 0),(8,.bool c7)]) w) ?_ fun J1=>?_
 ·intro c7 L V X z w hs G g f c i
  refine zf (zb ?_)
  refine zn (fun Z=>∀ (H:LP) (M:OA) (N:Nat) (z:Env) (A:K),Step [] j A→Gr tPlaced true (j.H.size,126005) A 105 M N H→Box (j.H.size,126002) A s [sl none 0 0] 46→Box (j.H.size,126003) A n [vl M H N] 46→zft H=some r→cwp Tryz.prog 65 (sub (zB Tryz.f126) [1,1,1,1,1]) Z (ups z [(6,pt s 0),(7,pt n 0)]) A) ?_ fun J2=>?_
  ·intro H M N z A hs b1 f c i
   refine csr (oN 64 46 [vl M H N] (c.at.part 0 1).2 (xM 46 [vl M H N] f fun j8 f6 _ c9=>?_))
   replace hs:=hs.trB f.ge f6
   replace b1:=b1.step f6 (b1.nb f (zl kr))
   replace f:=c9
   refine ot (crt ?_)
   obtain rfl:=sj i
   refine rt [.cell 6 46] [.agg #[vl M H N]] ⟨⟨s,0,[vl M H N],rfl,rfl,kr,kr,(f.at.part 0 1).2⟩,trivial⟩ ?_
   exact ⟨hs,_,_,rfl,b1.sl⟩
  refine cs (cT 2 ?_)
  refine cc _ i ?_ ?_
  ·intro hc i
   refine cr (od 1 (o1 57 44 (vl V L X) (c.at.one (o:=0) rfl) (oN 58 103 [iv p1.1,iv p1.2] (g.at.part 0 2).2 (od 2 (zJ (d:=61) (T:=44) (e:=105) (t:=tPlaced) (pub:=true) (τ:=(j.H.size,126007)) (len:=1) (l:=[(p1,q)]) (parts:=#[(0,.agg #[iv p1.1,iv p1.2,iv q])]) (cs:=[iv p1.1,iv p1.2,iv q]) kr kr kr kr hs.1 rfl ⟨_,_,rfl,⟨_,_,rfl,⟨_,_,rfl,⟨rfl,c3⟩,⟨rfl,c4⟩⟩,⟨rfl,f4⟩⟩,rfl⟩ kr fun h5 j9 b2 h6=>?_)))))
   replace hs:=hs.tr0 b2
   replace G:=G.step0 b2
   replace f:=f.step0 b2
   replace c:=c.step0 b2
   refine bE i fun b3 f8 i=>?_
   have f30q:=G.sl
   refine zH (d:=62) (T:=44) (e:=105) (t:=tPlaced) (pub:=true) (τ:=(j.H.size,126005)) (bytes:=24) (a:=V) (cp:=X) (l:=L) (a2:=h5) (c2:=1) (l2:=[(p1,q)]) kr kr G h6.sl hs.1 kr f8 fun d2 d3 k0 b4 b5 hw=>?_
   clear hw
   replace hs:=hs.trG (G.own (fz _)) b4
   replace f30q:=f30q.step b4
   replace f:=f.step b4 (G.bn f (zl kr))
   replace c:=c.step b4 (G.bn c (zl kr))
   refine od 1 (zm (b:=n) (off:=0) (T:=44) (vl d2 b3 d3) [vl d2 b3 d3] [vl d2 b3 d3] kr kr c rfl kr kr kr rfl fun k1 b6 _ k=>?_)
   replace hs:=hs.trB c.ge b6
   replace f30q:=f30q.step b6
   replace b5:=b5.step b6 (b5.nb c (zl kr))
   replace f:=f.step b6 (nm1 (f.ne c (zl kr)))
   replace c:=k
   refine ot ?_
   exact zk eY (J2 b3 _ _ _ _ hs b5 f c i)
  intro hc i
  refine ckt ?_
  exact zk eY (J2 L _ _ _ _ hs G f c i)
 refine bE i fun h7 f9 e1=>zp (F:=zaa p0 p1 q) (J:=fun h E' D=>∃ (O:OA) (P:Nat),(∃ z,E'=ups z [(0,pt B C),(2,iv q),(4,pt E 0),(6,pt s 0),(7,pt n 0),(8,.bool h.1),(9,iv h.2.1)])∧Step [] j D∧I64 h.2.1∧Gr tPlaced true (j.H.size,126005) D 105 O P h.2.2∧Box (j.H.size,126001) D E [iv p1.1,iv p1.2] 103∧Box (j.H.size,126002) D s [sl none 0 0] 46∧Box (j.H.size,126003) D n [vl O h.2.2 P] 46) (s0:=(false,0,[])) (x:=h7) kr f9 ⟨_,_,⟨_,eY⟩,hs,(iK 0),Gr.nil,g,f,c⟩ ?_
 rintro h _ g0 ⟨O,P,⟨z,rfl⟩,hs,k3,m,g,f,c⟩ b7 i e2
 refine cs (cO 4 (o1 15 44 (vl a1 p0 c2) ((m0.step0 hs).one (o:=0) rfl) (dT 2 ?_)))
 refine cc _ i ?_ ?_
 ·intro hc i
  refine ckt (cs (cb 1 ?_))
  refine zn (fun Z=>∀ (d4:Bool) (R:LP) (Y:OA) (a0:Nat) (z:Env) (u:K),Step [] j u→Gr tPlaced true (j.H.size,126005) u 105 Y a0 R→Box (j.H.size,126001) u E [iv p1.1,iv p1.2] 103→Box (j.H.size,126002) u s [sl none 0 0] 46→Box (j.H.size,126003) u n [vl Y R a0] 46→zdU p0 h d4 R=some b7→cwp Tryz.prog 65 (sub (zB Tryz.f126) [1,0,0,1,0,0,1,0,1,1,1]) Z (ups z [(0,pt B C),(2,iv q),(4,pt E 0),(6,pt s 0),(7,pt n 0),(8,.bool d4),(9,iv h.2.1)]) u) ?_ fun J3=>?_
  ·intro d4 R Y a0 z u hs I g f c i
   refine cx_ 10 [0,1,2,3,4,5,6,7,8,9] [9] 10 [] (xp 42 (pt n 0) (x1 43 44 (vl Y R a0) c.at 0 rfl (xp 44 (pt B C) (xp 45 (pt B C) (xp 46 (pt B C) (x1 47 44 (vl a1 p0 c2) (m0.step0 hs) 0 rfl (xp 48 (iv h.2.1) (bE i fun p g1 i=>?_))))))))
   obtain ⟨h9,i0,e3,e4,e5,i8,S,e6⟩:=(f3.step hs).idx g1
   obtain ⟨_,_,rfl,⟨_,_,rfl,⟨rfl,g2⟩,⟨rfl,g3⟩⟩,⟨rfl,g4⟩⟩:=e6
   replace S:PubAt u h9 (i0+h.2.1.toNat*3) [iv p.1.1,iv p.1.2,iv p.2]:=S
   refine xi 49 44 105 3 p0.length c2 .i64 h.2.1 e3 e4 e5 (xN 50 105 [iv p.1.1,iv p.1.2,iv p.2] S.at 0 3 rfl (zhp (d:=51) (T:=44) (e:=105) (t:=tPlaced) (pub:=true) (τ:=(j.H.size,126006)) (len:=1) (l:=[p]) (parts:=#[(0,.agg #[iv p.1.1,iv p.1.2,iv p.2])]) (cs:=[iv p.1.1,iv p.1.2,iv p.2]) kr kr kr kr hs.1 rfl ⟨_,_,rfl,⟨_,_,rfl,⟨_,_,rfl,⟨rfl,g2⟩,⟨rfl,g3⟩⟩,⟨rfl,g4⟩⟩,rfl⟩ kr fun i1 k4 a3 i2=>?_))
   replace hs:=hs.tr0 a3
   replace I:=I.step0 a3
   replace g:=g.step0 a3
   replace f:=f.step0 a3
   replace c:=c.step0 a3
   refine xe (bE i fun d5 g5 i=>?_)
   have f58q:=I.sl
   refine zH (d:=52) (T:=44) (e:=105) (t:=tPlaced) (pub:=true) (τ:=(j.H.size,126005)) (bytes:=24) (a:=Y) (cp:=a0) (l:=R) (a2:=i1) (c2:=1) (l2:=[p]) kr kr I i2.sl hs.1 kr g5 fun d6 d7 k5 a4 b8 hw=>?_
   clear hw
   replace hs:=hs.trG (I.own (fz _)) a4
   replace f58q:=f58q.step a4
   replace g:=g.step a4 (I.bn g (zl kr))
   replace f:=f.step a4 (I.bn f (zl kr))
   replace c:=c.step a4 (I.bn c (zl kr))
   refine od 1 (zm (b:=n) (off:=0) (T:=44) (vl d6 d5 d7) [vl d6 d5 d7] [vl d6 d5 d7] kr kr c rfl kr kr kr rfl fun k6 a5 _ k=>?_)
   replace hs:=hs.trB c.ge a5
   replace f58q:=f58q.step a5
   replace b8:=b8.step a5 (b8.nb c (zl kr))
   replace g:=g.step a5 (nm1 (g.ne c (zl kr)))
   replace f:=f.step a5 (nm1 (f.ne c (zl kr)))
   replace c:=k
   refine oe (zd (zb (cr (od 3 (oe ?_)))))
   exact ze (sj i).symm ⟨_,_,⟨_,eY⟩,hs,(zr _),b8,g,f,c⟩
  refine cs ?_
  refine zn (fun Z=>∀ (d8:Bool) (z:Env) (y:K),Step [] j y→Gr tPlaced true (j.H.size,126005) y 105 O P h.2.2→Box (j.H.size,126001) y E [iv p1.1,iv p1.2] 103→Box (j.H.size,126002) y s [sl none 0 0] 46→Box (j.H.size,126003) y n [vl O h.2.2 P] 46→zdT p0 p1 q h d8=some b7→cwp Tryz.prog 65 (sub (zB Tryz.f126) [1,0,0,0,1,0,0,1,0,1,1,1]) Z (ups z [(0,pt B C),(2,iv q),(4,pt E 0),(6,pt s 0),(7,pt n 0),(8,.bool h.1),(9,iv h.2.1),(33,.bool d8)]) y) ?_ fun J4=>?_
  ·intro d8 z y hs m g f c i
   refine cc _ i ?_ ?_
   ·intro hc i
    refine cO 1 (otr (od 1 (o1 35 44 (vl O h.2.2 P) (c.at.one (o:=0) rfl) (oN 36 103 [iv p1.1,iv p1.2] (g.at.part 0 2).2 (od 2 (zJ (d:=39) (T:=44) (e:=105) (t:=tPlaced) (pub:=true) (τ:=(j.H.size,126004)) (len:=1) (l:=[(p1,q)]) (parts:=#[(0,.agg #[iv p1.1,iv p1.2,iv q])]) (cs:=[iv p1.1,iv p1.2,iv q]) kr kr kr kr hs.1 rfl ⟨_,_,rfl,⟨_,_,rfl,⟨_,_,rfl,⟨rfl,c3⟩,⟨rfl,c4⟩⟩,⟨rfl,f4⟩⟩,rfl⟩ kr fun i4 k7 a6 i5=>?_))))))
    replace hs:=hs.tr0 a6
    replace m:=m.step0 a6
    replace g:=g.step0 a6
    replace f:=f.step0 a6
    replace c:=c.step0 a6
    refine bE i fun b9 g6 i=>?_
    have f25q:=m.sl
    refine zH (d:=40) (T:=44) (e:=105) (t:=tPlaced) (pub:=true) (τ:=(j.H.size,126005)) (bytes:=24) (a:=O) (cp:=P) (l:=h.2.2) (a2:=i4) (c2:=1) (l2:=[(p1,q)]) kr kr m i5.sl hs.1 kr g6 fun d9 e0 k8 a8 c0 hw=>?_
    clear hw
    replace hs:=hs.trG (m.own (fz _)) a8
    replace f25q:=f25q.step a8
    replace g:=g.step a8 (m.bn g (zl kr))
    replace f:=f.step a8 (m.bn f (zl kr))
    replace c:=c.step a8 (m.bn c (zl kr))
    refine od 1 (zm (b:=n) (off:=0) (T:=44) (vl d9 b9 e0) [vl d9 b9 e0] [vl d9 b9 e0] kr kr c rfl kr kr kr rfl fun k9 a9 _ k=>?_)
    replace hs:=hs.trB c.ge a9
    replace f25q:=f25q.step a9
    replace c0:=c0.step a9 (c0.nb c (zl kr))
    replace g:=g.step a9 (nm1 (g.ne c (zl kr)))
    replace f:=f.step a9 (nm1 (f.ne c (zl kr)))
    replace c:=k
    refine ot ?_
    exact zk eY (J3 true b9 _ _ _ _ hs c0 g f c i)
   intro hc i
   refine ckt ?_
   exact zk eY (J3 h.1 h.2.2 _ _ _ _ hs m g f c i)
  refine cs (cd 12 (dd 2 ?_))
  refine dsp 22 (!h.1) i ?_ ?_
  ·intro hg i
   refine ds 23 (ds 24 (ds 25 (ds 26 (ds 27 (ds 28 (ds 29 (ds 30 (ds 31 (de (os 32 (dT 1 ?_)))))))))))
   exact zk eY (J4 false  _ _ hs m g f c i)
  intro hg i
  refine dN 23 103 [iv p1.1,iv p1.2] (g.at.part 0 2).2 (dd 3 (d1 27 44 (vl a1 p0 c2) ((m0.step0 hs).one (o:=0) rfl) (dd 1 (bE i fun b0 g7 i=>?_))))
  obtain ⟨i6,i7,e7,e8,e9,i9,U,f0⟩:=(f3.step hs).idx g7
  obtain ⟨_,_,rfl,⟨_,_,rfl,⟨rfl,g8⟩,⟨rfl,f1⟩⟩,⟨rfl,j1⟩⟩:=f0
  replace U:PubAt g0 i6 (i7+h.2.1.toNat*3) [iv b0.1.1,iv b0.1.2,iv b0.2]:=U
  refine di 29 44 105 3 p0.length c2 .i64 h.2.1 e7 e8 e9 (dd 1 (dN 31 103 [iv b0.1.1,iv b0.1.2] (U.at.part 0 2).2 (de (bE i fun g9 f2 i=>ocl 32 (zfe c3 c4 g8 f1 f2) ?_))))
  rintro _ j2 ⟨Q,rfl⟩
  replace hs:=hs.tr0 Q
  replace m:=m.step0 Q
  replace g:=g.step0 Q
  replace f:=f.step0 Q
  replace c:=c.step0 Q
  refine dT 1 ?_
  exact zk eY (J4 g9  _ _ hs m g f c i)
 intro hc i
 refine cx 0 (zh ?_)
 have hx:=e2 _ (sj i).symm
 subst hx
 replace i:=e1
 refine zi ?_
 exact zq eY (J1 h.1 h.2.2 _ _ _ _ hs m g f c i)
theorem zoD {e:K} {p0:LP} {j k:Nat} {s:OA} {c2:Nat} {p1:(Int×Int)×Int} (u:At e j k [vl s p0 c2]) (D:Sl tPlaced e s c2 p0) (w:I64 p1.1.1) (x:I64 p1.1.2) (y:I64 p1.2) {r:(LP)×Int} (d:zhs p0 p1=some r) :
 Fn Tryz.prog 128 #[pt j k,.agg #[iv p1.1.1,iv p1.1.2,iv p1.2]] e (fun v l=>Step [] e l∧∃ (z:OA) (A:Nat),v=.tuple #[.agg #[vl z r.1 A],iv r.2]∧Sl tPlaced l z A r.1∧I64 r.2):=by
 refine fnc 19 [] Tryz.func128 Tryz.ntmps128 fun hs=>csr (xO 3 110 (e.H.size,128001) hs.1 [iv p1.1.1,iv p1.1.2,iv p1.2] fun L E B b=>?_)
 replace hs:=hs.tr0 B
 refine xT 4 46 (e.H.size,128002) hs.1 [sl none 0 0] fun m F n a=>?_
 replace hs:=hs.tr0 n
 replace b:=b.step0 n
 refine dT 1 (cs (cO 3 (o1 9 44 (vl s p0 c2) ((u.step0 hs).one (o:=0) rfl) (dT 2 ?_))))
 refine cc _ d ?_ ?_
 ·intro G d
  refine cO 1 (xM 46 [sl none 0 0] a fun H C _ c=>?_)
  replace hs:=hs.trB a.ge C
  replace a:=c
  refine dT 1 (crt (zc ?_))
  obtain rfl:=sj d
  refine rt [.cell 4 46,.tmp 5] [.agg #[sl none 0 0],iv 4] ⟨⟨m,0,[sl none 0 0],rfl,rfl,kr,kr,(a.at.part 0 1).2⟩,rfl,trivial⟩ ?_
  exact ⟨hs,_,_,rfl,(Sl.nil _ _),(iK 4)⟩
 intro G d
 refine ckt (cO 2 (oN 15 103 [iv p1.1.1,iv p1.1.2] (b.at.part 0 2).2 (od 1 (o1 17 2 (iv p1.2) (b.at.one (o:=2) rfl) (bE d fun f t d=>ocl 18 (zmU ((u.step0 hs).part 0 1) (D.step hs) w x y t) ?_)))))
 rintro _ I ⟨p,g,h,rfl,i⟩
 replace hs:=hs.tr0 p
 replace a:=a.step0 p
 refine xM 46 [vl g f h] a fun J q _ c=>?_
 replace hs:=hs.trB a.ge q
 replace i:=i.step q
 replace a:=c
 refine dT 1 (crt ?_)
 obtain rfl:=sj d
 refine rt [.cell 4 46,.tmp 5] [.agg #[vl g f h],iv 0] ⟨⟨m,0,[vl g f h],rfl,rfl,kr,kr,(a.at.part 0 1).2⟩,rfl,trivial⟩ ?_
 exact ⟨hs,_,_,rfl,i,(iK 0)⟩
theorem zmz {i:K} {p0:TS×(LP)×Int} {M N:Nat} {a1 a4 a7 O:OA} {c2 c5 c8 z:Nat} {p1:LP} (m0:At i M N [vl a1 p0.1.1 c2,vl a4 p0.1.2 c5,vl a7 p0.2.1 c8,iv p0.2.2]) (f3:Sl tGlue i a1 c2 p0.1.1) (f6:Sl tTile i a4 c5 p0.1.2) (f9:Sl tPlaced i a7 c8 p0.2.1) (c0:I64 p0.2.2) (b4:Sl tPlaced i O z p1) {r:(LP)×Int×Int} (c:zfT p0 p1=some r) :
 Fn Tryz.prog 96 #[pt M N,vl O p1 z] i (fun v l=>Step [] i l∧∃ (b5:OA) (b6:Nat),v=.tuple #[.agg #[vl b5 r.1 b6],iv r.2.1,iv r.2.2]∧Sl tPlaced l b5 b6 r.1∧I64 r.2.1∧I64 r.2.2):=by
 refine fnc 44 [] Tryz.func96 Tryz.ntmps96 fun hs=>csr (xT 4 46 (i.H.size,96001) hs.1 [sl none 0 0] fun m g5 e6 a=>?_)
 replace hs:=hs.tr0 e6
 refine od 2 (otx (od 3 (bE c fun b7 c1 c=>ocl 14 (zmV ((m0.step0 hs).part 2 1) (f9.step hs) c1) ?_)))
 rintro _ g6 ⟨b8,e7,e8,rfl,A⟩
 replace hs:=hs.tr0 b8
 replace a:=a.step0 b8
 refine xT 7 46 (i.H.size,96002) hs.1 [sl none 0 0] fun E g7 P b=>?_
 replace hs:=hs.tr0 P
 replace A:=A.step P
 replace a:=a.step0 P
 refine xM 46 [vl e7 b7 e8] b fun g8 Q _ n=>?_
 replace hs:=hs.trB b.ge Q
 replace A:=A.step Q
 replace a:=a.step Q (nm1 (a.ne b (zl kr)))
 replace b:=n
 refine ot (cs (cT 1 (cb 0 ?_)))
 refine zj 0 (fun Z=>∀ (k:LP) (p:OA) (q:Nat) (R:Env) (j:K),Step [] i j→Sl tPlaced j p q k→Box (i.H.size,96001) j m [sl none 0 0] 46→Box (i.H.size,96002) j E [vl p k q] 46→zji k=some r→Z (ups R [(4,pt m 0),(7,pt E 0)]) j) ?_ fun J1=>?_
 ·intro k p q R j hs S a b c
  refine zf (zb (csr (oN 43 46 [vl p k q] (b.at.part 0 1).2 (xM 46 [vl p k q] a fun h0 b9 _ g=>?_))))
  replace hs:=hs.trB a.ge b9
  replace S:=S.step b9
  replace a:=g
  refine dT 2 (crt ?_)
  obtain rfl:=sj c
  refine rt [.cell 4 46,.tmp 5,.tmp 6] [.agg #[vl p k q],iv 0,iv 0] ⟨⟨m,0,[vl p k q],rfl,rfl,kr,kr,(a.at.part 0 1).2⟩,rfl,rfl,trivial⟩ ?_
  exact ⟨hs,_,_,rfl,S,(iK 0),(iK 0)⟩
 refine bE c fun e9 c3 t=>zp (F:=zaz p0 p1) (J:=fun d E' l=>∃ (T:OA) (U:Nat),(∃ R,E'=ups R [(0,pt M N),(1,vl O p1 z),(4,pt m 0),(7,pt E 0),(8,iv d.1)])∧Step [] i l∧I64 d.1∧Sl tPlaced l T U d.2∧Box (i.H.size,96001) l m [sl none 0 0] 46∧Box (i.H.size,96002) l E [vl T d.2 U] 46) (s0:=(0,b7)) (x:=e9) kr c3 ⟨_,_,⟨_,eY⟩,hs,(iK 0),A,a,b⟩ ?_
 rintro d _ c4 ⟨T,U,⟨R,rfl⟩,hs,c6,e,a,b⟩ g0 c u
 refine cs (cT 4 ?_)
 refine cc _ c ?_ ?_
 ·intro V c
  refine ckt (cs (cb 1 (cs (cO 3 (bE c fun f X c=>?_)))))
  obtain ⟨f0,f1,a3,a5,a6,g1,w,a8⟩:=(b4.step hs).idx X
  obtain ⟨_,_,rfl,⟨_,_,rfl,⟨rfl,c7⟩,⟨rfl,c9⟩⟩,⟨rfl,d0⟩⟩:=a8
  replace w:PubAt c4 f0 (f1+d.1.toNat*3) [iv f.1.1,iv f.1.2,iv f.2]:=w
  refine oi 24 49 110 3 p1.length z .i64 d.1 a3 a5 a6 (oN 25 110 [iv f.1.1,iv f.1.2,iv f.2] (w.at.part 0 3).2 (bE c fun h8 d2 c=>ocl 26 (zqV ((m0.step0 hs).part 0 4) (f3.step hs) (f6.step hs) (f9.step hs) c0 (b.at.part 0 1) e c7 c9 d0 d2) ?_))
  rintro _ d3 ⟨G,rfl⟩
  replace hs:=hs.tr0 G
  replace e:=e.step G
  replace a:=a.step0 G
  replace b:=b.step0 G
  refine dT 1 ?_
  refine cc _ c ?_ ?_
  ·intro V c
   refine cO 2 (xM 46 [sl none 0 0] a fun h2 f2 _ g=>?_)
   replace hs:=hs.trB a.ge f2
   replace a:=g
   refine dT 2 (crt (zc (zg (zc ?_))))
   have hx:=u _ (sj c).symm
   subst hx
   replace c:=t
   refine zv (zg (zc ?_))
   obtain rfl:=sj c
   refine rt [.cell 4 46,.tmp 5,.tmp 6] [.agg #[sl none 0 0],iv d.1,iv 5] ⟨⟨m,0,[sl none 0 0],rfl,rfl,kr,kr,(a.at.part 0 1).2⟩,rfl,rfl,trivial⟩ ?_
   exact ⟨hs,_,_,rfl,(Sl.nil _ _),c6,(iK 5)⟩
  intro V c
  refine ckt (cO 2 (bE c fun f4 D c=>?_))
  have a9:f=f4:=sj (X.symm.trans D);subst a9
  have g2:=D
  obtain ⟨f5,f7,b0,b1,b2,g3,y,b3⟩:=(b4.step hs).idx D
  obtain ⟨_,_,rfl,⟨_,_,rfl,⟨rfl,d4⟩,⟨rfl,d5⟩⟩,⟨rfl,d6⟩⟩:=b3
  replace y:PubAt d3 f5 (f7+d.1.toNat*3) [iv f.1.1,iv f.1.2,iv f.2]:=y
  refine oi 33 49 110 3 p1.length z .i64 d.1 b0 b1 b2 (oN 34 110 [iv f.1.1,iv f.1.2,iv f.2] (y.at.part 0 3).2 (bE c fun H d7 c=>ocl 35 (zoD (b.at.part 0 1) e d4 d5 d6 d7) ?_))
  rintro _ h3 ⟨I,Y,a0,rfl,s,d8⟩
  replace hs:=hs.tr0 I
  replace e:=e.step I
  replace a:=a.step0 I
  replace b:=b.step0 I
  refine od 3 (xT 9 46 (i.H.size,96003) hs.1 [sl none 0 0] fun h9 h4 B h=>?_)
  replace hs:=hs.tr0 B
  replace e:=e.step B
  replace s:=s.step B
  replace a:=a.step0 B
  replace b:=b.step0 B
  refine xM 46 [vl Y H.1 a0] h fun h5 C _ a2=>?_
  replace hs:=hs.trB h.ge C
  replace e:=e.step C
  replace s:=s.step C
  replace a:=a.step C (nm1 (a.ne h (zl kr)))
  replace b:=b.step C (nm1 (b.ne h (zl kr)))
  replace h:=a2
  refine dT 1 (cs (cT 2 ?_))
  refine cc _ c ?_ ?_
  ·intro V c
   refine cO 2 (xM 46 [sl none 0 0] a fun h6 f8 _ g=>?_)
   replace hs:=hs.trB a.ge f8
   replace a:=g
   refine dT 2 (crt (zc (zg (zc ?_))))
   have hx:=u _ (sj c).symm
   subst hx
   replace c:=t
   refine zv (zg (zc ?_))
   obtain rfl:=sj c
   refine rt [.cell 4 46,.tmp 5,.tmp 6] [.agg #[sl none 0 0],iv 0,iv H.2] ⟨⟨m,0,[sl none 0 0],rfl,rfl,kr,kr,(a.at.part 0 1).2⟩,rfl,rfl,trivial⟩ ?_
   exact ⟨hs,_,_,rfl,(Sl.nil _ _),(iK 0),d8⟩
  intro V c
  refine ckt (cr (oN 42 46 [vl Y H.1 a0] (h.at.part 0 1).2 (xM 46 [vl Y H.1 a0] b fun h7 L _ n=>?_)))
  replace hs:=hs.trB b.ge L
  replace e:=e.step L
  replace s:=s.step L
  replace a:=a.step L (nm1 (a.ne b (zl kr)))
  replace b:=n
  refine oe (zd (zb (cr (od 3 (oe ?_)))))
  exact ze (sj c).symm ⟨_,_,⟨_,eY⟩,hs,(zr _),s,a,b⟩
 intro V c
 refine cx 0 (zh ?_)
 have hx:=u _ (sj c).symm
 subst hx
 replace c:=t
 refine zi ?_
 exact zq eY (J1 d.2 _ _ _ _ hs e a b c)
theorem zi9 {e:K} {p0:TS×(LP)×Int} {x y z m:OA} {c2 A B n:Nat} {p1:LP} (H:Sl tGlue e x c2 p0.1.1) (f6:Sl tTile e y A p0.1.2) (I:Sl tPlaced e z B p0.2.1) (g:I64 p0.2.2) (J:Sl tPlaced e m n p1) {r:(LP)×Int×Int} (d:zde p0 p1=some r) :
 Fn Tryz.prog 90 #[.agg #[vl x p0.1.1 c2,vl y p0.1.2 A,vl z p0.2.1 B,iv p0.2.2],vl m p1 n] e (fun v p=>Step [] e p∧∃ (q:OA) (s:Nat),v=.tuple #[.agg #[vl q r.1 s],iv r.2.1,iv r.2.2]∧Sl tPlaced p q s r.1∧I64 r.2.1∧I64 r.2.2):=by
 refine fnc 19 [] Tryz.func90 Tryz.ntmps90 fun hs=>csr (xO 2 48 (e.H.size,90001) hs.1 [vl x p0.1.1 c2,vl y p0.1.2 A,vl z p0.2.1 B,iv p0.2.2] fun V O L c=>?_)
 replace hs:=hs.tr0 L
 refine xT 4 46 (e.H.size,90002) hs.1 [sl none 0 0] fun h P t a=>?_
 replace hs:=hs.tr0 t
 replace c:=c.step0 t
 refine dT 2 (cs (csr (bE d fun X C d=>ocl 7 (znW (c.at.part 0 4) (H.step hs) (f6.step hs) (I.step hs) g C) ?_)))
 rintro _ Q ⟨i,rfl⟩
 replace hs:=hs.tr0 i
 replace c:=c.step0 i
 replace a:=a.step0 i
 refine dT 1 ?_
 refine cc _ d ?_ ?_
 ·intro D d
  refine cO 1 (xM 46 [sl none 0 0] a fun R M _ b=>?_)
  replace hs:=hs.trB a.ge M
  replace a:=b
  refine dT 2 (crt (zc ?_))
  obtain rfl:=sj d
  refine rt [.cell 4 46,.tmp 5,.tmp 6] [.agg #[sl none 0 0],iv 0,iv 1] ⟨⟨h,0,[sl none 0 0],rfl,rfl,kr,kr,(a.at.part 0 1).2⟩,rfl,rfl,trivial⟩ ?_
  exact ⟨hs,_,_,rfl,(Sl.nil _ _),(iK 0),(iK 1)⟩
 intro D d
 refine ckt (cs (cT 3 ?_))
 refine cc _ d ?_ ?_
 ·intro D d
  refine cO 1 (xM 46 [sl none 0 0] a fun S N _ b=>?_)
  replace hs:=hs.trB a.ge N
  replace a:=b
  refine dT 2 (crt (zc ?_))
  obtain rfl:=sj d
  refine rt [.cell 4 46,.tmp 5,.tmp 6] [.agg #[sl none 0 0],iv 0,iv 2] ⟨⟨h,0,[sl none 0 0],rfl,rfl,kr,kr,(a.at.part 0 1).2⟩,rfl,rfl,trivial⟩ ?_
  exact ⟨hs,_,_,rfl,(Sl.nil _ _),(iK 0),(iK 2)⟩
 intro D d
 refine ckt (cO 1 (bE d fun f E d=>ocl 15 (zmz (c.at.part 0 4) (H.step hs) (f6.step hs) (I.step hs) g (J.step hs) E) ?_))
 rintro _ T ⟨u,j,k,rfl,l,F,G⟩
 replace hs:=hs.tr0 u
 replace a:=a.step0 u
 refine od 3 (xM 46 [vl j f.1 k] a fun U w _ b=>?_)
 replace hs:=hs.trB a.ge w
 replace l:=l.step w
 replace a:=b
 refine dT 2 (crt ?_)
 obtain rfl:=sj d
 refine rt [.cell 4 46,.tmp 5,.tmp 6] [.agg #[vl j f.1 k],iv f.2.1,iv f.2.2] ⟨⟨h,0,[vl j f.1 k],rfl,rfl,kr,kr,(a.at.part 0 1).2⟩,rfl,rfl,trivial⟩ ?_
 exact ⟨hs,_,_,rfl,l,F,G⟩
theorem zqg {e:K} {p0:LP} {h i:Nat} {j u:OA} {c2 k:Nat} {p1:LP} {l m:Nat} (G:At e h i [vl j p0 c2]) (S:Sl tPlaced e j c2 p0) (m1:At e l m [vl u p1 k]) (f6:Sl tPlaced e u k p1) {r:Bool} (a:zhG p0 p1=some r) :
 Fn Tryz.prog 91 #[pt h i,pt l m] e (fun v n=>e=n∧v=.bool r):=by
 refine fnc 41 [] Tryz.func91 Tryz.ntmps91 fun hs=>cT 1 (cs (cs (cd 10 (dd 3 (d1 9 44 (vl j p0 c2) ((G.step0 hs).one (o:=0) rfl) (dd 4 (d1 14 44 (vl u p1 k) ((m1.step0 hs).one (o:=0) rfl) (dd 1 (de (dT 1 ?_))))))))))
 refine cc _ a ?_ ?_
 ·intro p a
  refine cT 1 (crt (zc ?_))
  obtain rfl:=sj a
  exact rT 4 ff ⟨rfl,rfl⟩
 intro p a
 refine ckt (cs (cT 1 (cb 0 ?_)))
 refine zj 0 (fun Z=>∀ (q:Env),zjl=some r→Z (q) e) ?_ fun U=>?_
 ·intro q a
  refine zf (zb (cT 1 (crt ?_)))
  obtain rfl:=sj a
  exact rT 4 tt ⟨rfl,rfl⟩
 refine bE a fun V L s=>zp (F:=zcX p0 p1) (J:=fun d X n=>(∃ q,X=ups q [(0,pt h i),(1,pt l m),(5,iv d)])∧e=n∧I64 d) (s0:=0) (x:=V) kr L ⟨⟨_,eY⟩,rfl,(iK 0)⟩ ?_
 rintro d _ _ ⟨⟨q,rfl⟩,rfl,a8⟩ Y a t
 refine cs (cO 4 (o1 21 44 (vl j p0 c2) ((G.step0 hs).one (o:=0) rfl) (dT 2 ?_)))
 refine cc _ a ?_ ?_
 ·intro p a
  refine ckt (cs (cb 1 (cs (cd 14 (dd 3 (d1 29 44 (vl j p0 c2) ((G.step0 hs).one (o:=0) rfl) (dd 1 (bE a fun b H a=>?_))))))))
  obtain ⟨M,N,w,y,z,Q,f,A⟩:=S.idx H
  obtain ⟨_,_,rfl,⟨_,_,rfl,⟨rfl,a0⟩,⟨rfl,a2⟩⟩,⟨rfl,a3⟩⟩:=A
  replace f:PubAt e M (N+d.toNat*3) [iv b.1.1,iv b.1.2,iv b.2]:=f
  refine di 31 44 105 3 p0.length c2 .i64 d w y z (dN 32 105 [iv b.1.1,iv b.1.2,iv b.2] (f.at.part 0 3).2 (dd 3 (d1 36 44 (vl u p1 k) ((m1.step0 hs).one (o:=0) rfl) (dd 1 (bE a fun c I a=>?_)))))
  obtain ⟨O,P,B,C,D,R,g,E⟩:=f6.idx I
  obtain ⟨_,_,rfl,⟨_,_,rfl,⟨rfl,a5⟩,⟨rfl,a6⟩⟩,⟨rfl,a7⟩⟩:=E
  replace g:PubAt e O (P+d.toNat*3) [iv c.1.1,iv c.1.2,iv c.2]:=g
  refine di 38 44 105 3 p1.length k .i64 d B C D (dN 39 105 [iv c.1.1,iv c.1.2,iv c.2] (g.at.part 0 3).2 (de (oq 40 (.bool (!((decide (b.1.1=c.1.1)&&decide (b.1.2=c.1.2))&&decide (b.2=c.2)))) (fun _=>zn7 (T:=105) (k1:=.i64) (k2:=.i64) (k3:=.i64) kr kr) (ot ?_))))
  refine cc _ a ?_ ?_
  ·intro p a
   refine cT 1 (crt (zg (zc ?_)))
   have hx:=t _ (sj a).symm
   subst hx
   replace a:=s
   refine zv (zg (zc ?_))
   obtain rfl:=sj a
   exact rT 4 ff ⟨rfl,rfl⟩
  intro p a
  refine ck (zd (zb (cr (od 3 (oe ?_)))))
  exact ze (sj a).symm ⟨⟨_,eY⟩,rfl,(zr _)⟩
 intro p a
 refine cx 0 (zh ?_)
 have hx:=t _ (sj a).symm
 subst hx
 replace a:=s
 refine zi ?_
 exact zq rfl (U   _  a)
theorem zfO {b:K} {p0:TS×(LP)×Int} {f g:Nat} {s t u h i:OA} {c2 w x j k:Nat} {p1:LP} {y:LP} {l m:Nat} (J:At b f g [vl s p0.1.1 c2,vl t p0.1.2 w,vl u p0.2.1 x,iv p0.2.2]) (L:Sl tGlue b s c2 p0.1.1) (f6:Sl tTile b t w p0.1.2) (M:Sl tPlaced b u x p0.2.1) (z:I64 p0.2.2) (C:Sl tPlaced b h j p1) (N:At b l m [vl i y k]) (D:Sl tPlaced b i k y) {r:Bool} (c:zbo p0 p1 y=some r) :
 Fn Tryz.prog 64 #[pt f g,vl h p1 j,pt l m] b (fun v E=>Step [] b E∧v=.bool r):=by
 refine fnc 25 [] Tryz.func64 Tryz.ntmps64 fun hs=>cO 1 (otx (od 2 (oN 13 48 [vl s p0.1.1 c2,vl t p0.1.2 w,vl u p0.2.1 x,iv p0.2.2] ((J.step0 hs).part 0 4).2 (od 1 (bE c fun n A c=>ocl 15 (zi9 L f6 M z C A) ?_)))))
 rintro _ O ⟨F,G,H,rfl,d,P,Q⟩
 replace hs:=hs.tr0 F
 refine od 4 (xT 7 46 (b.H.size,64001) hs.1 [sl none 0 0] fun U R p a=>?_)
 replace hs:=hs.tr0 p
 replace d:=d.step p
 refine xM 46 [vl G n.1 H] a fun S q _ e=>?_
 replace hs:=hs.trB a.ge q
 replace d:=d.step q
 replace a:=e
 refine od 2 (otx (od 2 ?_))
 refine osp 21 (decide (n.2.2=0)) c ?_ ?_
 ·intro T c
  refine oz [22,23] (dT 2 (crt ?_))
  obtain rfl:=sj c
  exact rT 6 ff ⟨hs,rfl⟩
 intro T c
 refine od 1 (bE c fun I B c=>ocl 23 (zqg (a.at.part 0 1) d ((N.step0 hs).part 0 1) (D.step hs) B) ?_)
 rintro _ _ ⟨rfl,rfl⟩
 refine dT 2 (crt ?_)
 obtain rfl:=sj c
 exact rT 6 (.bool I) ⟨hs,rfl⟩
theorem znD {n:K} {p0:List (Int×Int)} {m:OA} {c2:Nat} {s:Tag} {p1:Int×Int} (p:Gr tPoint false s n 103 m c2 p0) (H:s.1<n.H.size) (b3:I64 p1.1) (b4:I64 p1.2) {r:(List (Int×Int))} (f:zfS p0 p1=some r) :
 Fn Tryz.prog 119 #[vl m p0 c2,.agg #[iv p1.1,iv p1.2]] n (fun v w=>Step (blk m c2) n w∧∃ (a7:OA) (c8:Nat),v=vl a7 r c8∧Gr tPoint false s w 103 a7 c8 r∧(∀ g∈blk a7 c8,g∈(blk m c2)∨n.H.size≤g)):=by
 refine fnc 61 (blk m c2) Tryz.func119 Tryz.ntmps119 fun hs=>?_
 have Q:∀ g∈blk m c2,g∈(blk m c2)∨n.H.size≤g:=fun g X=>.inl (by simp [X])
 refine csr (xO 3 103 (n.H.size,119001) hs.1 [iv p1.1,iv p1.2] fun G j8 e7 c=>?_)
 replace hs:=hs.tr0 e7
 replace p:=p.step0 e7
 refine od 1 (otx (dT 3 (cs (cb 0 ?_))))
 refine zj 0 (fun Z=>∀ (k:Int) (u:Env) (y:K),Step (blk m c2) n y→I64 k→Gr tPoint false s y 103 m c2 p0→Box (n.H.size,119001) y G [iv p1.1,iv p1.2] 103→zgf p0 p1 k=some r→Z (ups u [(0,vl m p0 c2),(3,pt G 0),(5,iv k)]) y) ?_ fun J1=>?_
 ·intro k u y hs k0 p c f
  refine zf (zb (cs ?_))
  refine zn (fun Z=>∀ (b5:Bool) (u:Env),za0 p0 p1 k b5=some r→cwp Tryz.prog 61 (sub (zB Tryz.f119) [1,0,1,1,1]) Z (ups u [(0,vl m p0 c2),(3,pt G 0),(5,iv k),(34,.bool b5)]) y) ?_ fun J2=>?_
  ·intro b5 u f
   refine cc _ f ?_ ?_
   ·intro hc f
    refine cT 2 (crt (zc ?_))
    obtain rfl:=sj f
    exact rT 4 (vl m p0 c2) ⟨hs,_,_,rfl,p,Q⟩
   intro hc f
   refine ckt (cO 1 (oN 37 103 [iv p1.1,iv p1.2] (c.at.part 0 2).2 (zJ (d:=38) (T:=170) (e:=103) (t:=tPoint) (pub:=true) (τ:=(n.H.size,119002)) (len:=1) (l:=[p1]) (parts:=#[(0,.agg #[iv p1.1,iv p1.2])]) (cs:=[iv p1.1,iv p1.2]) kr kr kr kr hs.1 rfl ⟨_,_,rfl,⟨_,_,rfl,⟨rfl,b3⟩,⟨rfl,b4⟩⟩,rfl⟩ kr fun h7 k3 b7 h8=>?_)))
   replace hs:=hs.tr0 b7
   replace p:=p.step0 b7
   replace c:=c.step0 b7
   refine bE f fun x23 f8 f=>zH (d:=39) (T:=170) (e:=103) (t:=tPoint) (pub:=false) (τ:=s) (bytes:=16) (a:=m) (cp:=c2) (l:=p0) (a2:=h7) (c2:=1) (l2:=[p1]) kr kr p h8.sl (ga (Nat.le_of_lt H) hs.1) kr f8 fun h9 i0 k4 e8 i1 hw=>?_
   have b8:∀ g∈blk h9 i0,g∈(blk m c2)∨n.H.size≤g:=fun g X=>(hw g X).elim (Q g) (fun h=>.inr (ga hs.1 h))
   replace hs:=hs.trM Q e8
   replace c:=c.step e8 (p.bn c (zjh (i:=119001) H))
   refine dT 1 (cs (cT 4 (cb 2 ?_)))
   refine zj 2 (fun Z=>∀ (O:List (Int×Int)) (P:OA) (C:Nat) (u:Env) (B:K) (hs:Step (blk m c2) n B) (I:Gr tPoint false s B 103 P C O) (L:(∀ g∈blk P C,g∈(blk m c2)∨n.H.size≤g)) (c:Box (n.H.size,119001) B G [iv p1.1,iv p1.2] 103),zge p1 k O=some r→Z (ups u [(0,vl P O C),(3,pt G 0),(5,iv k)]) B) ?_ fun J3=>?_
   ·intro O P C u B hs I L c f
    refine zf (zb (cO 2 (oN 58 103 [iv p1.1,iv p1.2] (c.at.part 0 2).2 (bE f fun e9 f9 f=>?_))))
    obtain ⟨f0,Y,a0,a3,j2,a4,c6⟩:=I.idx f9
    obtain ⟨_,_,rfl,⟨rfl,k6⟩,⟨rfl,k7⟩⟩:=c6
    replace a4:At B f0 (0+k.toNat*2) [iv e9.1,iv e9.2]:=a4
    refine oi 59 170 103 2 O.length C .i64 k (off:=0) Y a0 a3 (bE f fun f1 c0 f=>zau (T:=103) (t:=tPoint) (τ:=s) (e:=103) (ix:=k) (x':=p1) (b:=f0) (δ:=0) (cp:=C) (l:=O) (vs:=[iv p1.1,iv p1.2]) (.agg #[iv p1.1,iv p1.2]) kr kr Y I a0 a3 kr kr kr kr (fun cs hx=>by obtain ⟨x,_,ho⟩:=hx;rw [zM ((tPoint.len ho).trans kr)];exact ⟨_,_,rfl,⟨rfl,b3⟩,⟨rfl,b4⟩⟩) fun k8 i2 g0=>?_)
    replace hs:=hs.trM L i2
    replace I:=g0
    replace I:=zcF c0 I
    have b1:=zL c0
    refine zam (za (t:=0) (v:=vl P f1 C) rfl (by unfold vl;rw [b1];kernel_rfl)) (otx (dT 2 (crt ?_)))
    obtain rfl:=sj f
    exact rT 4 (vl P f1 C) ⟨hs,_,_,rfl,I,L⟩
   refine bE f fun i3 g1 c7=>zp (F:=zb4 k) (J:=fun j E' w=>∃ (V:OA) (D:Nat),(∃ u,E'=ups u [(0,vl V j.1 D),(3,pt G 0),(5,iv k),(6,iv j.2)])∧Step (blk m c2) n w∧Gr tPoint false s w 103 V D j.1∧(∀ g∈blk V D,g∈(blk m c2)∨n.H.size≤g)∧I64 j.2∧Box (n.H.size,119001) w G [iv p1.1,iv p1.2] 103) (s0:=(x23,w64 ((x23.length:Int) - 1))) (x:=i3) kr g1 ⟨_,_,⟨_,eY⟩,hs,i1,b8,(zr _),c⟩ ?_
   rintro j _ c1 ⟨V,D,⟨u,rfl⟩,hs,z,M,k9,c⟩ j3 f c9
   refine cs (cT 3 ?_)
   refine cc _ f ?_ ?_
   ·intro hc f
    refine ckt (cs (cb 3 (cr (od 5 (bE f fun A g3 f=>?_)))))
    obtain ⟨i4,d0,d2,d3,j4,R,d4⟩:=z.idx g3
    obtain ⟨_,_,rfl,⟨rfl,g4⟩,⟨rfl,g5⟩⟩:=d4
    replace R:At c1 i4 (0+(w64 (j.2 - 1)).toNat*2) [iv A.1,iv A.2]:=R
    refine oi 53 170 103 2 j.1.length D .i64 (w64 (j.2 - 1)) (off:=0) d0 d2 d3 (oN 54 103 [iv A.1,iv A.2] (R.part 0 2).2 (bE f fun f2 g6 f=>?_))
    obtain ⟨f4,a5,a6,a8,j5,a9,d5⟩:=z.idx g6
    obtain ⟨_,_,rfl,⟨rfl,l0⟩,⟨rfl,l1⟩⟩:=d5
    replace a9:At c1 f4 (0+j.2.toNat*2) [iv f2.1,iv f2.2]:=a9
    refine oi 55 170 103 2 j.1.length D .i64 j.2 (off:=0) a5 a6 a8 (bE f fun i5 c3 f=>zau (T:=103) (t:=tPoint) (τ:=s) (e:=103) (ix:=j.2) (x':=A) (b:=f4) (δ:=0) (cp:=D) (l:=j.1) (vs:=[iv A.1,iv A.2]) (.agg #[iv A.1,iv A.2]) kr kr a5 z a6 a8 kr kr kr kr (fun cs hx=>by obtain ⟨x,_,ho⟩:=hx;rw [zM ((tPoint.len ho).trans kr)];exact ⟨_,_,rfl,⟨rfl,g4⟩,⟨rfl,g5⟩⟩) fun l3 f5 g7=>?_)
    replace hs:=hs.trM M f5
    replace c:=c.step f5 (z.bn c (zjh (i:=119001) H))
    replace z:=g7
    replace z:=zcF c3 z
    have b2:=zL c3
    refine zam (eA 6 (v:=iv j.2) (eA 5 (v:=iv k) (eA 3 (v:=pt G 0) (za (t:=0) (v:=vl V i5 D) rfl (by unfold vl;rw [b2];kernel_rfl))))) (oe (zd (zb (cr (od 3 (oe ?_))))))
    exact ze (sj f).symm ⟨_,_,⟨_,eY⟩,hs,z,M,(zr _),c⟩
   intro hc f
   refine cx 2 (zh ?_)
   have hx:=c9 _ (sj f).symm
   subst hx
   replace f:=c7
   refine zi ?_
   exact zq eY (J3 j.1 _ _ _ _ hs z M c f)
  refine cs (cd 10 (dd 4 ?_))
  refine dsp 27 (decide (k<(p0.length:Int))) f ?_ ?_
  ·intro X f
   refine ds 28 (ds 29 (ds 30 (ds 31 (ds 32 (de (os 33 (dT 1 ?_)))))))
   exact zk eY (J2 false  _  f)
  intro X f
  refine dd 2 (bE f fun E g8 f=>?_)
  obtain ⟨i6,d6,d7,d8,j6,S,d9⟩:=p.idx g8
  obtain ⟨_,_,rfl,⟨rfl,l4⟩,⟨rfl,l5⟩⟩:=d9
  replace S:At y i6 (0+k.toNat*2) [iv E.1,iv E.2]:=S
  refine di 30 170 103 2 p0.length c2 .i64 k (off:=0) d6 d7 d8 (dN 31 103 [iv E.1,iv E.2] (S.part 0 2).2 (dN 32 103 [iv p1.1,iv p1.2] (c.at.part 0 2).2 (de (oq 33 (.bool (decide (E.1=p1.1)&&decide (E.2=p1.2))) (fun _=>zfA (T:=103) (k1:=.i64) (k2:=.i64) kr kr) (dT 1 ?_)))))
  exact zk eY (J2 (decide (E.1=p1.1)&&decide (E.2=p1.2))  _  f)
 refine bE f fun i7 g9 e0=>zp (F:=zas p0 p1) (J:=fun q E' w=>(∃ u,E'=ups u [(0,vl m p0 c2),(3,pt G 0),(5,iv q)])∧Step (blk m c2) n w∧I64 q∧Gr tPoint false s w 103 m c2 p0∧Box (n.H.size,119001) w G [iv p1.1,iv p1.2] 103) (s0:=(p0.length:Int)) (x:=i7) kr g9 ⟨⟨_,eY⟩,hs,(zgn (zsH p.most)),p,c⟩ ?_
 rintro q _ h0 ⟨⟨u,rfl⟩,hs,h1,p,c⟩ e1 f e2
 refine cs ?_
 refine zn (fun Z=>∀ (c4:Bool) (u:Env) (N:K),Step (blk m c2) n N→Gr tPoint false s N 103 m c2 p0→Box (n.H.size,119001) N G [iv p1.1,iv p1.2] 103→zaZ q c4=some e1→cwp Tryz.prog 61 (sub (zB Tryz.f119) [1,0,0,0,0,1,1]) Z (ups u [(0,vl m p0 c2),(3,pt G 0),(5,iv q),(20,.bool c4)]) N) ?_ fun J4=>?_
 ·intro c4 u N hs p c f
  refine cc _ f ?_ ?_
  ·intro hc f
   refine ckt (cb 1 (cr (od 3 (oe (zd ?_)))))
   exact ze (sj f).symm ⟨⟨_,eY⟩,hs,(zr _),p,c⟩
  intro hc f
  refine cx 0 (zh ?_)
  have hx:=e2 _ (sj f).symm
  subst hx
  replace f:=e0
  refine zi ?_
  exact zq eY (J1 q  _ _ hs h1 p c f)
 refine cs (cd 9 (dd 2 ?_))
 refine dsp 11 (decide (q>0)) f ?_ ?_
 ·intro X f
  refine ds 12 (ds 13 (ds 14 (ds 15 (ds 16 (ds 17 (de (oz [18,19] (dT 1 ?_))))))))
  exact zk eY (J4 false  _ _ hs p c f)
 intro X f
 refine dd 3 (bE f fun b0 h2 f=>?_)
 obtain ⟨i9,e3,e4,e5,j7,U,e6⟩:=p.idx h2
 obtain ⟨_,_,rfl,⟨rfl,h3⟩,⟨rfl,h4⟩⟩:=e6
 replace U:At h0 i9 (0+(w64 (q - 1)).toNat*2) [iv b0.1,iv b0.2]:=U
 refine di 15 170 103 2 p0.length c2 .i64 (w64 (q - 1)) (off:=0) e3 e4 e5 (dN 16 103 [iv b0.1,iv b0.2] (U.part 0 2).2 (dN 17 103 [iv p1.1,iv p1.2] (c.at.part 0 2).2 (de (bE f fun j1 h5 f=>ocl 18 (zfe h3 h4 b3 b4 h5) ?_))))
 rintro _ l6 ⟨c5,rfl⟩
 replace hs:=hs.tr0 c5
 replace p:=p.step0 c5
 replace c:=c.step0 c5
 refine dT 2 ?_
 exact zk eY (J4 (!j1)  _ _ hs p c f)
theorem zqd {h:K} {p0:LP} {m n:Nat} {a1:OA} {c2:Nat} (m0:At h m n [vl a1 p0 c2]) (f3:Sl tPlaced h a1 c2 p0) {r:(List (Int×Int))} (a:zjK p0=some r) :
 Fn Tryz.prog 92 #[pt m n] h (fun v k=>Step [] h k∧∃ (a4:OA) (c5:Nat),v=vl a4 r c5∧Sl tPoint k a4 c5 r):=by
 refine fnc 43 [] Tryz.func92 Tryz.ntmps92 fun hs=>cO 1 (otx (zJ (d:=7) (T:=170) (e:=103) (t:=tPoint) (pub:=false) (τ:=(h.H.size,92001)) (len:=0) (l:=[]) (parts:=#[]) (cs:=[]) kr kr kr kr hs.1 rfl rfl kr fun a9 h2 s8 e0=>?_))
 replace hs:=hs.tr0 s8
 refine dT 1 (cs (cT 1 (cb 0 ?_)))
 refine zj 0 (fun Z=>∀ (y:List (Int×Int)) (E:OA) (G:Nat) (i:Env) (q:K),Step [] h q→Gr tPoint false (h.H.size,92001) q 103 E G y→zmA y=some r→Z (ups i [(3,vl E y G)]) q) ?_ fun J1=>?_
 ·intro y E G i q hs H a
  refine zf (zb (cT 2 (zdA H fun f9 e1 c1=>?_)))
  replace hs:=hs.trG (H.own (fz _)) e1
  replace H:=c1
  refine crt ?_
  obtain rfl:=sj a
  exact rT 2 (vl E y G) ⟨hs,_,_,rfl,H.sl⟩
 refine bE a fun e2 c3 a5=>zp (F:=zcW p0) (J:=fun c E' k=>∃ (N:OA) (O:Nat),(∃ i,E'=ups i [(0,pt m n),(3,vl N c.1 O),(4,iv c.2)])∧Step [] h k∧Gr tPoint false (h.H.size,92001) k 103 N O c.1∧I64 c.2) (s0:=([],0)) (x:=e2) kr c3 ⟨_,_,⟨_,eY⟩,hs,e0,(iK 0)⟩ ?_
 rintro c _ g0 ⟨N,O,⟨i,rfl⟩,hs,b5,g1⟩ a6 a a7
 refine cs (cO 4 (o1 12 44 (vl a1 p0 c2) ((m0.step0 hs).one (o:=0) rfl) (dT 2 ?_)))
 refine cc _ a ?_ ?_
 ·intro P a
  refine ckt (cs (cb 1 (cT 1 (cb 2 ?_))))
  refine zj 2 (fun Z=>∀ (I:List (Int×Int)) (Q:OA) (R:Nat) (i:Env) (s:K),Step [] h s→Gr tPoint false (h.H.size,92001) s 103 Q R I→zjj c I=some a6→Z (ups i [(0,pt m n),(3,vl Q I R),(4,iv c.2)]) s) ?_ fun J2=>?_
  ·intro I Q R i s hs e3 a
   refine zf (zd (zb (cr (od 3 (oe ?_)))))
   exact ze (sj a).symm ⟨_,_,⟨_,eY⟩,hs,e3,(zr _)⟩
  refine bE a fun e4 c6 a8=>zp (F:=zcV p0 c) (J:=fun g E' k=>∃ (z:OA) (A:Nat),(∃ i,E'=ups i [(0,pt m n),(3,vl z g.1 A),(4,iv c.2),(5,iv g.2)])∧Step [] h k∧Gr tPoint false (h.H.size,92001) k 103 z A g.1∧I64 g.2) (s0:=(c.1,0)) (x:=e4) kr c6 ⟨_,_,⟨_,eY⟩,hs,b5,(iK 0)⟩ ?_
  rintro g _ c7 ⟨z,A,⟨i,rfl⟩,hs,f,c8⟩ L a b0
  refine cs (cT 2 ?_)
  refine cc _ a ?_ ?_
  ·intro P a
   refine ckt ?_
   refine zn (fun Z=>∀ (M:List (Int×Int)) (S:OA) (U:Nat) (i:Env) (u:K),Step [] h u→Gr tPoint false (h.H.size,92001) u 103 S U M→zeA g M=some L→cwp Tryz.prog 43 (sub (zB Tryz.f92) [1,1,0,0,1,0,0,1,0,0,1,0,1,1]) Z (ups i [(0,pt m n),(3,vl S M U),(4,iv c.2),(5,iv g.2)]) u) ?_ fun J3=>?_
   ·intro M S U i u hs e6 a
    refine cr (od 3 (oe ?_))
    exact ze (sj a).symm ⟨_,_,⟨_,eY⟩,hs,e6,(zr _)⟩
   refine cs (cb 3 (cO 3 (o1 24 44 (vl a1 p0 c2) ((m0.step0 hs).one (o:=0) rfl) (od 1 (bE a fun B c9 a=>?_)))))
   obtain ⟨e7,e8,b1,b2,b3,f6,w,b4⟩:=(f3.step hs).idx c9
   obtain ⟨_,_,rfl,⟨_,_,rfl,⟨rfl,d0⟩,⟨rfl,d2⟩⟩,⟨rfl,g3⟩⟩:=b4
   replace w:PubAt c7 e7 (e8+c.2.toNat*3) [iv B.1.1,iv B.1.2,iv B.2]:=w
   refine oi 26 44 105 3 p0.length c2 .i64 c.2 b1 b2 b3 (od 1 (oN 28 103 [iv B.1.1,iv B.1.2] (w.at.part 0 2).2 (od 1 (bE a fun j d3 a=>ocl 30 (zb0 d0 d2 c8 d3) ?_))))
   rintro _ g4 ⟨b6,rfl,C,D⟩
   replace hs:=hs.tr0 b6
   replace f:=f.step0 b6
   refine xT 6 103 (h.H.size,92002) hs.1 [iv 0,iv 0] fun b7 g5 b8 b=>?_
   replace hs:=hs.tr0 b8
   replace f:=f.step0 b8
   refine xM 103 [iv j.1,iv j.2] b fun g6 b9 _ V=>?_
   replace hs:=hs.trB b.ge b9
   replace f:=f.step b9 (f.nb b (zl kr))
   replace b:=V
   refine ot ?_
   refine zn (fun Z=>∀ (X:Bool) (i:Env) (p:K),Step [] h p→Gr tPoint false (h.H.size,92001) p 103 z A g.1→Box (h.H.size,92002) p b7 [iv j.1,iv j.2] 103→zez g j X=some L→cwp Tryz.prog 43 (sub (zB Tryz.f92) [1,1,0,0,1,0,0,1,0,0,1,0,0,1,0,1,1]) Z (ups i [(0,pt m n),(3,vl z g.1 A),(4,iv c.2),(5,iv g.2),(6,pt b7 0),(38,.bool X)]) p) ?_ fun J4=>?_
   ·intro X i p hs f b a
    refine cc _ a ?_ ?_
    ·intro P a
     refine cr (od 1 (oN 40 103 [iv j.1,iv j.2] (b.at.part 0 2).2 (bE a fun f0 d4 a=>ocl 41 (znD f (show ((h.H.size,92001):Tag).1<_ from b.tlt) C D d4) ?_)))
     rintro _ g7 ⟨f1,h3,h4,rfl,f2,Y⟩
     clear Y
     replace hs:=hs.trM (ztD (f.own (fz _))) f1
     refine od 1 (oe (zd (zb ?_)))
     exact zk eY (J3 f0 _ _ _ _ hs f2 a)
    intro P a
    refine ck (zd (zb ?_))
    exact zk eY (J3 g.1 _ _ _ _ hs f a)
   refine csr (oN 31 103 [iv j.1,iv j.2] (b.at.part 0 2).2 (bE a fun f4 d5 a=>ocl 32 (ziv C D d5) ?_))
   rintro _ g8 ⟨a0,rfl⟩
   replace hs:=hs.tr0 a0
   replace f:=f.step0 a0
   replace b:=b.step0 a0
   refine osp 33 (f4) a ?_ ?_
   ·intro hg a
    refine oz [34,35,36,37] (dT 1 ?_)
    exact zk eY (J4 false  _ _ hs f b a)
   intro hg a
   refine od 1 (oN 35 103 [iv j.1,iv j.2] (b.at.part 0 2).2 (bE a fun f5 d6 a=>ocl 36 (zfY ((m0.step0 hs).part 0 1) (f3.step hs) C D d6) ?_))
   rintro _ h0 ⟨a2,rfl,h1⟩
   replace hs:=hs.tr0 a2
   replace f:=f.step0 a2
   replace b:=b.step0 a2
   refine dT 2 ?_
   exact zk eY (J4 (decide (f5<0))  _ _ hs f b a)
  intro P a
  refine cx 2 (zh ?_)
  have hx:=b0 _ (sj a).symm
  subst hx
  replace a:=a8
  refine zi ?_
  exact zq eY (J2 g.1 _ _ _ _ hs f a)
 intro P a
 refine cx 0 (zh ?_)
 have hx:=a7 _ (sj a).symm
 subst hx
 replace a:=a5
 refine zi ?_
 exact zq eY (J1 c.1 _ _ _ _ hs b5 a)
theorem znX {h:K} {p0:LG×LT} {p q:Nat} {a1 a4 a7:OA} {c2 c5 c8:Nat} {p1:LP} {b6 b7:Nat} {z:Int×Int} {A:Int} (m0:At h p q [vl a1 p0.1 c2,vl a4 p0.2 c5]) (f3:Sl tGlue h a1 c2 p0.1) (f6:Sl tTile h a4 c5 p0.2) (m1:At h b6 b7 [vl a7 p1 c8]) (f9:Sl tPlaced h a7 c8 p1) (k2:I64 z.1) (k3:I64 z.2) (s1:I64 A) {r:LI} (b:zkc p0 p1 z A=some r) :
 Fn Tryz.prog 93 #[pt p q,pt b6 b7,.agg #[iv z.1,iv z.2],iv A] h (fun v s=>Step [] h s∧∃ (j5:OA) (j6:Nat),v=vl j5 r j6∧Sl tI64 s j5 j6 r):=by
 refine fnc 92 [] Tryz.func93 Tryz.ntmps93 fun hs=>csr (xO 6 103 (h.H.size,93001) hs.1 [iv z.1,iv z.2] fun b8 s2 n2 c=>?_)
 replace hs:=hs.tr0 n2
 refine od 1 (otx (zJ (d:=16) (T:=32) (e:=2) (t:=tI64) (pub:=true) (τ:=(h.H.size,93002)) (len:=0) (l:=[]) (parts:=#[]) (cs:=[]) kr kr kr kr hs.1 rfl rfl kr fun u1 s3 j7 n3=>?_))
 replace hs:=hs.tr0 j7
 replace c:=c.step0 j7
 refine dT 1 (cs (cT 1 (cb 0 ?_)))
 refine zj 0 (fun Z=>∀ (k:LI) (w:OA) (u:Nat) (j:Env) (P:K),Step [] h P→Gr tI64 true (h.H.size,93002) P 2 w u k→zlg p0 A k=some r→Z (ups j [(0,pt p q),(3,iv A),(9,vl w k u)]) P) ?_ fun J1=>?_
 ·intro k w u j P hs m b
  refine zf (zb (csr (zJ (d:=46) (T:=32) (e:=2) (t:=tI64) (pub:=true) (τ:=(h.H.size,93005)) (len:=0) (l:=[]) (parts:=#[]) (cs:=[]) kr kr kr kr hs.1 rfl rfl kr fun u2 s5 j8 n4=>?_)))
  replace hs:=hs.tr0 j8
  replace m:=m.step0 j8
  refine dT 1 (cs (cT 1 (cb 2 ?_)))
  refine zj 2 (fun Z=>∀ (a3:LI) (b9:OA) (c0:Nat) (j:Env) (Q:K),Step [] h Q→Gr tI64 true (h.H.size,93005) Q 2 b9 c0 a3→zlf a3=some r→Z (ups j [(12,vl b9 a3 c0)]) Q) ?_ fun J2=>?_
  ·intro a3 b9 c0 j Q hs n5 b
   refine zf (zb (cT 2 (crt ?_)))
   obtain rfl:=sj b
   exact rT 8 (vl b9 a3 c0) ⟨hs,_,_,rfl,n5.sl⟩
  refine bE b fun n6 k4 g1=>zp (F:=zgx p0 A k) (J:=fun f E' s=>∃ (D:OA) (E:Nat),(∃ j,E'=ups j [(0,pt p q),(3,iv A),(9,vl w k u),(12,vl D f.1 E),(13,iv f.2)])∧Step [] h s∧Gr tI64 true (h.H.size,93005) s 2 D E f.1∧I64 f.2∧Gr tI64 true (h.H.size,93002) s 2 w u k) (s0:=([],0)) (x:=n6) kr k4 ⟨_,_,⟨_,eY⟩,hs,n4,(iK 0),m⟩ ?_
  rintro f _ y ⟨D,E,⟨j,rfl⟩,hs,G,k5,m⟩ c1 b g2
  refine cs (cO 4 (o1 51 41 (vl a4 p0.2 c5) ((m0.step0 hs).one (o:=1) rfl) (dT 2 ?_)))
  refine cc _ b ?_ ?_
  ·intro H b
   refine ckt ?_
   refine zn (fun Z=>∀ (c3:LI) (d3:OA) (d4:Nat) (j:Env) (I:K),Step [] h I→Gr tI64 true (h.H.size,93005) I 2 d3 d4 c3→Gr tI64 true (h.H.size,93002) I 2 w u k→ziR f c3=some c1→cwp Tryz.prog 92 (sub (zB Tryz.f93) [1,1,0,0,1,0,1,1,1,1]) Z (ups j [(0,pt p q),(3,iv A),(9,vl w k u),(12,vl d3 c3 d4),(13,iv f.2)]) I) ?_ fun J3=>?_
   ·intro c3 d3 d4 j I hs n8 m b
    refine cr (od 3 (oe ?_))
    exact ze (sj b).symm ⟨_,_,⟨_,eY⟩,hs,n8,(zr _),m⟩
   refine cs (cb 3 (cT 1 (cs (cT 1 (cb 4 ?_)))))
   refine zj 4 (fun Z=>∀ (c4:Int) (j:Env),I64 c4→zle A f c4=some c1→Z (ups j [(0,pt p q),(3,iv A),(9,vl w k u),(12,vl D f.1 E),(13,iv f.2),(14,iv c4)]) y) ?_ fun J4=>?_
   ·intro c4 j s8 b
    refine zf (zb (cT 3 ?_))
    refine cc _ b ?_ ?_
    ·intro H b
     refine cr (od 2 (zJ (d:=89) (T:=32) (e:=2) (t:=tI64) (pub:=true) (τ:=(h.H.size,93006)) (len:=1) (l:=[f.2]) (parts:=#[(0,iv f.2)]) (cs:=[iv f.2]) kr kr kr kr hs.1 rfl ⟨_,_,rfl,⟨rfl,k5⟩,rfl⟩ kr fun n9 s9 d5 o0=>?_))
     replace hs:=hs.tr0 d5
     replace m:=m.step0 d5
     replace G:=G.step0 d5
     refine bE b fun o2 k6 b=>zH (d:=90) (T:=32) (e:=2) (t:=tI64) (pub:=true) (τ:=(h.H.size,93005)) (bytes:=8) (a:=D) (cp:=E) (l:=f.1) (a2:=n9) (c2:=1) (l2:=[f.2]) kr kr G o0.sl hs.1 kr k6 fun u3 u4 t0 j9 o3 hw=>?_
     clear hw
     replace hs:=hs.trG (G.own (fz _)) j9
     replace m:=m.step j9 (m.ng G (zl kr))
     refine od 1 (oe (zd (zb ?_)))
     exact zk eY (J3 o2 _ _ _ _ hs o3 m b)
    intro H b
    refine ck (zd (zb ?_))
    exact zk eY (J3 f.1 _ _ _ _ hs G m b)
   refine bE b fun o4 k7 g3=>zp (F:=zgw p0 k f) (J:=fun g E' s=>(∃ j,E'=ups j [(0,pt p q),(3,iv A),(9,vl w k u),(12,vl D f.1 E),(13,iv f.2),(14,iv g.1),(15,iv g.2)])∧y=s∧I64 g.1∧I64 g.2) (s0:=(0,0)) (x:=o4) kr k7 ⟨⟨_,eY⟩,rfl,(iK 0),(iK 0)⟩ ?_
   rintro g _ _ ⟨⟨j,rfl⟩,rfl,d6,t1⟩ g4 b g5
   refine cs (cT 2 ?_)
   refine cc _ b ?_ ?_
   ·intro H b
    refine ckt ?_
    refine zn (fun Z=>∀ (c6:Int) (j:Env),I64 c6→ziQ g c6=some g4→cwp Tryz.prog 92 (sub (zB Tryz.f93) [1,1,0,0,1,0,1,0,0,1,0,0,1,0,1,1,1,1]) Z (ups j [(0,pt p q),(3,iv A),(9,vl w k u),(12,vl D f.1 E),(13,iv f.2),(14,iv c6),(15,iv g.2)]) y) ?_ fun J5=>?_
    ·intro c6 j k8 b
     refine cr (od 3 (oe ?_))
     exact ze (sj b).symm ⟨⟨_,eY⟩,rfl,k8,(zr _)⟩
    refine cs (cb 5 (cs (cd 15 (dd 3 (d1 63 41 (vl a4 p0.2 c5) ((m0.step0 hs).one (o:=1) rfl) (dd 1 (bE b fun c7 k9 b=>?_)))))))
    obtain ⟨o6,o7,g6,g7,g8,q4,R,g9⟩:=(f6.step hs).idx k9
    obtain ⟨_,_,rfl,⟨rfl,t2⟩,⟨k0,d7,rfl,o8⟩⟩:=g9
    replace R:PubAt y o6 (o7+f.2.toNat*2) [zy c7.1,vl k0 c7.2 d7]:=R
    refine di 65 41 149 2 p0.2.length c5 .i64 f.2 g6 g7 g8 (dd 1 (d1 67 32 (vl k0 c7.2 d7) (R.at.one (o:=1) rfl) (dd 1 (bE b fun k1 l0 b=>?_))))
    obtain ⟨o9,p4,h0,h1,h2,q5,S,h3⟩:=o8.idx l0
    obtain ⟨rfl,t3⟩:=h3
    replace S:PubAt y o9 (p4+g.2.toNat*1) [iv k1]:=S
    refine di 69 32 2 1 c7.2.length d7 .i64 g.2 h0 h1 h2 (d1 70 2 (iv k1) (S.at.one (o:=0) rfl) (dd 2 (bE b fun a5 d8 b=>?_)))
    obtain ⟨p5,p6,h4,h5,h6,q6,U,h7⟩:=m.sl.idx d8
    obtain ⟨rfl,t4⟩:=h7
    replace U:PubAt y p5 (p6+g.2.toNat*1) [iv a5]:=U
    refine di 73 32 2 1 k.length u .i64 g.2 h4 h5 h6 (d1 74 2 (iv a5) (U.at.one (o:=0) rfl) (de (dT 1 ?_)))
    refine cc _ b ?_ ?_
    ·intro H b
     refine cr (od 4 (bE b fun p7 a8 b=>?_))
     have h8:a5=p7:=sj (d8.symm.trans a8);subst h8
     have q7:=a8
     obtain ⟨p8,p9,h9,i0,i1,q8,V,i2⟩:=m.sl.idx a8
     obtain ⟨rfl,l1⟩:=i2
     replace V:PubAt y p8 (p9+g.2.toNat*1) [iv a5]:=V
     refine oi 80 32 2 1 k.length u .i64 g.2 h9 i0 i1 (o1 81 2 (iv a5) (V.at.one (o:=0) rfl) (bE b fun q0 l3 b=>ocl 82 (zjA ((m0.step0 hs).part 0 2) (f3.step hs) (f6.step hs) l1 l3) ?_))
     rintro _ _ ⟨rfl,rfl,t5⟩
     refine od 2 (oe (zd (zb ?_)))
     exact zk eY (J5 (w64 (g.1+q0))  _ (zr _) b)
    intro H b
    refine ck (zd (zb ?_))
    exact zk eY (J5 g.1  _ d6 b)
   intro H b
   refine cx 4 (zh ?_)
   have hx:=g5 _ (sj b).symm
   subst hx
   replace b:=g3
   refine zi ?_
   exact zq eY (J4 g.1  _ d6 b)
  intro H b
  refine cx 2 (zh ?_)
  have hx:=g2 _ (sj b).symm
  subst hx
  replace b:=g1
  refine zi ?_
  exact zq eY (J2 f.1 _ _ _ _ hs G b)
 refine bE b fun l4 i3 d9=>zp (F:=zeS p0 p1 z) (J:=fun i E' s=>∃ (N:OA) (O:Nat),(∃ j,E'=ups j [(0,pt p q),(1,pt b6 b7),(3,iv A),(6,pt b8 0),(9,vl N i.1 O),(10,iv i.2)])∧Step [] h s∧Gr tI64 true (h.H.size,93002) s 2 N O i.1∧I64 i.2∧Box (h.H.size,93001) s b8 [iv z.1,iv z.2] 103) (s0:=([],0)) (x:=l4) kr i3 ⟨_,_,⟨_,eY⟩,hs,n3,(iK 0),c⟩ ?_
 rintro i _ q9 ⟨N,O,⟨j,rfl⟩,hs,n,e0,c⟩ e1 b e2
 refine cs (cT 2 ?_)
 refine cc _ b ?_ ?_
 ·intro H b
  refine ckt ?_
  refine zn (fun Z=>∀ (X:LI) (a9:OA) (b0:Nat) (j:Env) (B:K),Step [] h B→Gr tI64 true (h.H.size,93002) B 2 a9 b0 X→Box (h.H.size,93001) B b8 [iv z.1,iv z.2] 103→ziP i X=some e1→cwp Tryz.prog 92 (sub (zB Tryz.f93) [1,1,0,0,1,0,1,1]) Z (ups j [(0,pt p q),(1,pt b6 b7),(3,iv A),(6,pt b8 0),(9,vl a9 X b0),(10,iv i.2)]) B) ?_ fun J6=>?_
  ·intro X a9 b0 j B hs l5 c b
   refine cr (od 3 (oe ?_))
   exact ze (sj b).symm ⟨_,_,⟨_,eY⟩,hs,l5,(zr _),c⟩
  refine cs (cb 1 (cO 1 (oN 22 103 [iv z.1,iv z.2] (c.at.part 0 2).2 (od 1 (bE b fun t6 i4 b=>ocl 24 (zb0 k2 k3 e0 i4) ?_)))))
  rintro _ r0 ⟨b1,rfl,i5,i6⟩
  replace hs:=hs.tr0 b1
  replace n:=n.step0 b1
  replace c:=c.step0 b1
  refine bE b fun Y i7 b=>ocl 25 (zlk ((m1.step0 hs).part 0 1) (f9.step hs) i5 i6 i7) ?_
  rintro _ c9 ⟨b2,rfl,r1⟩
  replace hs:=hs.tr0 b2
  replace n:=n.step0 b2
  replace c:=c.step0 b2
  refine od 1 (otx (dT 2 ?_))
  refine cc _ b ?_ ?_
  ·intro H b
   refine cr (od 1 (zJ (d:=29) (T:=32) (e:=2) (t:=tI64) (pub:=true) (τ:=(h.H.size,93003)) (len:=1) (l:=[0]) (parts:=#[(0,iv 0)]) (cs:=[iv 0]) kr kr kr kr hs.1 rfl ⟨_,_,rfl,⟨rfl,(iK 0)⟩,rfl⟩ kr fun l6 r2 b3 l7=>?_))
   replace hs:=hs.tr0 b3
   replace n:=n.step0 b3
   replace c:=c.step0 b3
   refine bE b fun l8 i8 b=>zH (d:=30) (T:=32) (e:=2) (t:=tI64) (pub:=true) (τ:=(h.H.size,93002)) (bytes:=8) (a:=N) (cp:=O) (l:=i.1) (a2:=l6) (c2:=1) (l2:=[0]) kr kr n l7.sl hs.1 kr i8 fun t7 t8 r3 e3 l9 hw=>?_
   clear hw
   replace hs:=hs.trG (n.own (fz _)) e3
   replace c:=c.step e3 (n.bn c (zl kr))
   refine od 1 (oe (zd (zb ?_)))
   exact zk eY (J6 l8 _ _ _ _ hs l9 c b)
  intro H b
  refine cx_ 14 [0,1,2,3,4,5,6,7,8,9,10,11,12,13] [10,13] 14 [] (xp 31 (vl N i.1 O) (xp 32 (pt p q) (xp 33 (pt p q) (xp 34 (pt p (q+1)) (x1 35 41 (vl a4 p0.2 c5) (m0.step0 hs) 1 rfl (xp 36 (iv Y) (bE b fun a0 i9 b=>?_)))))))
  obtain ⟨e4,e5,e6,e7,e8,q2,L,e9⟩:=(f6.step hs).idx i9
  obtain ⟨_,_,rfl,⟨rfl,r4⟩,⟨f0,b4,rfl,m2⟩⟩:=e9
  replace L:PubAt c9 e4 (e5+Y.toNat*2) [zy a0.1,vl f0 a0.2 b4]:=L
  refine xi 37 41 149 2 p0.2.length c5 .i64 Y e6 e7 e8 (xp 38 (pt e4 (e5+Y.toNat*2+1)) (x1 39 32 (vl f0 a0.2 b4) L.at 1 rfl (xp 40 (iv i.2) (bE b fun f1 j1 b=>xcl 41 (ziw e0 j1) ?_))))
  rintro _ _ ⟨rfl,rfl,r5⟩
  refine ⟨Step.refl _ _,?_⟩
  refine bE b fun C j2 b=>?_
  obtain ⟨m3,m4,f2,f4,f5,q3,M,f7⟩:=m2.idx j2
  obtain ⟨rfl,j3⟩:=f7
  replace M:PubAt c9 m3 (m4+f1.toNat*1) [iv C]:=M
  refine xi 42 32 2 1 a0.2.length b4 .i64 f1 f2 f4 f5 (x1 43 2 (iv C) M.at 0 rfl (zhp (d:=44) (T:=32) (e:=2) (t:=tI64) (pub:=true) (τ:=(h.H.size,93004)) (len:=1) (l:=[C]) (parts:=#[(0,iv C)]) (cs:=[iv C]) kr kr kr kr hs.1 rfl ⟨_,_,rfl,⟨rfl,j3⟩,rfl⟩ kr fun m5 r6 b5 m6=>?_))
  replace hs:=hs.tr0 b5
  replace n:=n.step0 b5
  replace c:=c.step0 b5
  refine xe (bE b fun m7 j4 b=>zH (d:=45) (T:=32) (e:=2) (t:=tI64) (pub:=true) (τ:=(h.H.size,93002)) (bytes:=8) (a:=N) (cp:=O) (l:=i.1) (a2:=m5) (c2:=1) (l2:=[C]) kr kr n m6.sl hs.1 kr j4 fun t9 u0 r7 f8 m8 hw=>?_)
  clear hw
  replace hs:=hs.trG (n.own (fz _)) f8
  replace c:=c.step f8 (n.bn c (zl kr))
  refine od 1 (oe (zd (zb ?_)))
  exact zk eY (J6 m7 _ _ _ _ hs m8 c b)
 intro H b
 refine cx 0 (zh ?_)
 have hx:=e2 _ (sj b).symm
 subst hx
 replace b:=d9
 refine zi ?_
 exact zq eY (J1 i.1 _ _ _ _ hs n b)
theorem zka {i:K} {p0:TS×(LP)×Int} {B C:Nat} {a1 a4 a7 d3:OA} {c2 c5 c8 d4:Nat} {p1:LP} {D E:Nat} (m0:At i B C [vl a1 p0.1.1 c2,vl a4 p0.1.2 c5,vl a7 p0.2.1 c8,iv p0.2.2]) (f3:Sl tGlue i a1 c2 p0.1.1) (f6:Sl tTile i a4 c5 p0.1.2) (f9:Sl tPlaced i a7 c8 p0.2.1) (d9:I64 p0.2.2) (m1:At i D E [vl d3 p1 d4]) (d5:Sl tPlaced i d3 d4 p1) {r:LP} (b:zcU p0 p1=some r) :
 Fn Tryz.prog 65 #[pt B C,pt D E] i (fun v j=>Step [] i j∧∃ (d6:OA) (d7:Nat),v=vl d6 r d7∧Sl tPlaced j d6 d7 r):=by
 refine fnc 51 [] Tryz.func65 Tryz.ntmps65 fun hs=>cO 1 (otx (zJ (d:=10) (T:=49) (e:=110) (t:=tPlaced) (pub:=true) (τ:=(i.H.size,65001)) (len:=0) (l:=[]) (parts:=#[]) (cs:=[]) kr kr kr kr hs.1 rfl rfl kr fun j4 i4 g3 V=>?_))
 replace hs:=hs.tr0 g3
 refine od 1 (otx (od 1 (bE b fun k e0 b=>ocl 12 (zqd ((m1.step0 hs).part 0 1) (d5.step hs) e0) ?_)))
 rintro _ i5 ⟨d8,p,m,rfl,g⟩
 replace hs:=hs.tr0 d8
 replace V:=V.step0 d8
 refine dT 1 (cs (cT 1 (cb 0 ?_)))
 refine zj 0 (fun Z=>∀ (G:LP) (O:OA) (P:Nat) (q:Env) (w:K),Step [] i w→Gr tPlaced true (i.H.size,65001) w 110 O P G→zkb G=some r→Z (ups q [(5,vl O G P)]) w) ?_ fun J1=>?_
 ·intro G O P q w hs g4 b
  refine zf (zb (cT 2 (crt ?_)))
  obtain rfl:=sj b
  exact rT 4 (vl O G P) ⟨hs,_,_,rfl,g4.sl⟩
 refine bE b fun g5 e1 b1=>zp (F:=zbg p0 p1 k) (J:=fun c E' j=>∃ (X:OA) (Y:Nat),(∃ q,E'=ups q [(0,pt B C),(1,pt D E),(5,vl X c.1 Y),(6,vl p k m),(7,iv c.2)])∧Step [] i j∧Gr tPlaced true (i.H.size,65001) j 110 X Y c.1∧I64 c.2∧Sl tPoint j p m k) (s0:=([],0)) (x:=g5) kr e1 ⟨_,_,⟨_,eY⟩,hs,V,(iK 0),g⟩ ?_
 rintro c _ e3 ⟨X,Y,⟨q,rfl⟩,hs,Q,i7,g⟩ b2 b b3
 refine cs (cT 4 ?_)
 refine cc _ b ?_ ?_
 ·intro hc b
  refine ckt (cs (cb 1 (cs (cd 12 (dd 6 (bE b fun f a0 b=>?_))))))
  obtain ⟨g6,g7,b4,b5,b6,h8,y,b7⟩:=g.idx a0
  obtain ⟨_,_,rfl,⟨rfl,e5⟩,⟨rfl,e6⟩⟩:=b7
  replace y:PubAt e3 g6 (g7+c.2.toNat*2) [iv f.1,iv f.2]:=y
  refine di 25 170 103 2 k.length m .i64 c.2 b4 b5 b6 (dN 26 103 [iv f.1,iv f.2] (y.at.part 0 2).2 (dd 3 (d1 30 2 (iv p0.2.2) ((m0.step0 hs).one (o:=3) rfl) (de (bE b fun H e7 b=>ocl 31 (znX ((m0.step0 hs).part 0 2) (f3.step hs) (f6.step hs) ((m1.step0 hs).part 0 1) (d5.step hs) e5 e6 d9 e7) ?_)))))
  rintro _ i8 ⟨a3,a5,R,rfl,n⟩
  replace hs:=hs.tr0 a3
  replace g:=g.step a3
  replace Q:=Q.step0 a3
  refine od 1 (otx (dT 1 (cb 2 ?_)))
  refine zj 2 (fun Z=>∀ (S:LP) (a6:OA) (a8:Nat) (q:Env) (s:K),Step [] i s→Gr tPlaced true (i.H.size,65001) s 110 a6 a8 S→Sl tPoint s p m k→zg1 c S=some b2→Z (ups q [(0,pt B C),(1,pt D E),(5,vl a6 S a8),(6,vl p k m),(7,iv c.2)]) s) ?_ fun J2=>?_
  ·intro S a6 a8 q s hs g8 g b
   refine zf (zd (zb (cr (od 3 (oe ?_)))))
   exact ze (sj b).symm ⟨_,_,⟨_,eY⟩,hs,g8,(zr _),g⟩
  refine bE b fun g9 e8 b8=>zp (F:=zbf k c f H) (J:=fun h E' j=>∃ (I:OA) (L:Nat),(∃ q,E'=ups q [(0,pt B C),(1,pt D E),(5,vl I h.1 L),(6,vl p k m),(7,iv c.2),(8,vl a5 H R),(9,iv h.2)])∧Step [] i j∧Gr tPlaced true (i.H.size,65001) j 110 I L h.1∧I64 h.2∧Sl tPoint j p m k∧Sl tI64 j a5 R H) (s0:=(c.1,0)) (x:=g9) kr e8 ⟨_,_,⟨_,eY⟩,hs,Q,(iK 0),g,n⟩ ?_
  rintro h _ a9 ⟨I,L,⟨q,rfl⟩,hs,M,j1,g,n⟩ h9 b b9
  refine cs (cT 4 ?_)
  refine cc _ b ?_ ?_
  ·intro hc b
   refine ckt (cs (cb 3 (cx_ 11 [0,1,2,3,4,5,6,7,8,9,10] [10] 11 [] (xp 38 (vl I h.1 L) (xp 39 (vl p k m) (xp 40 (iv c.2) (bE b fun h0 N b=>?_)))))))
   have c0:f=h0:=sj (a0.symm.trans N);subst c0
   have i0:=N
   obtain ⟨h1,h2,c1,c3,c4,i1,z,c6⟩:=g.idx N
   obtain ⟨_,_,rfl,⟨rfl,e9⟩,⟨rfl,f0⟩⟩:=c6
   replace z:PubAt a9 h1 (h2+c.2.toNat*2) [iv f.1,iv f.2]:=z
   refine xi 41 170 103 2 k.length m .i64 c.2 c1 c3 c4 (xN 42 103 [iv f.1,iv f.2] z.at 0 2 rfl (xp 43 (vl a5 H R) (xp 44 (iv h.2) (bE b fun u f1 b=>?_))))
   obtain ⟨h3,h4,c7,c9,d0,i2,A,d2⟩:=n.idx f1
   obtain ⟨rfl,f2⟩:=d2
   replace A:PubAt a9 h3 (h4+h.2.toNat*1) [iv u]:=A
   refine xi 45 32 2 1 H.length R .i64 h.2 c7 c9 d0 (x1 46 2 (iv u) A.at 0 rfl (xp 47 (.agg #[iv f.1,iv f.2,iv u]) (zhp (d:=48) (T:=49) (e:=110) (t:=tPlaced) (pub:=true) (τ:=(i.H.size,65002)) (len:=1) (l:=[(f,u)]) (parts:=#[(0,.agg #[iv f.1,iv f.2,iv u])]) (cs:=[iv f.1,iv f.2,iv u]) kr kr kr kr hs.1 rfl ⟨_,_,rfl,⟨_,_,rfl,⟨_,_,rfl,⟨rfl,e9⟩,⟨rfl,f0⟩⟩,⟨rfl,f2⟩⟩,rfl⟩ kr fun h5 j2 U h6=>?_)))
   replace hs:=hs.tr0 U
   replace g:=g.step U
   replace n:=n.step U
   replace M:=M.step0 U
   refine xe (bE b fun j5 f4 b=>zH (d:=49) (T:=49) (e:=110) (t:=tPlaced) (pub:=true) (τ:=(i.H.size,65001)) (bytes:=24) (a:=I) (cp:=L) (l:=h.1) (a2:=h5) (c2:=1) (l2:=[(f,u)]) kr kr M h6.sl hs.1 kr f4 fun j6 j7 j3 b0 h7 hw=>?_)
   clear hw
   replace hs:=hs.trG (M.own (fz _)) b0
   replace g:=g.step b0
   replace n:=n.step b0
   refine od 1 (oe (zd (zb (cr (od 3 (oe ?_))))))
   exact ze (sj b).symm ⟨_,_,⟨_,eY⟩,hs,h7,(zr _),g,n⟩
  intro hc b
  refine cx 2 (zh ?_)
  have hx:=b9 _ (sj b).symm
  subst hx
  replace b:=b8
  refine zi ?_
  exact zq eY (J2 h.1 _ _ _ _ hs M g b)
 intro hc b
 refine cx 0 (zh ?_)
 have hx:=b3 _ (sj b).symm
 subst hx
 replace b:=b1
 refine zi ?_
 exact zq eY (J1 c.1 _ _ _ _ hs Q b)
theorem zoC {m:K} {p0:TS×(LP)×Int} {C D:Nat} {a1 a4 a7 S:OA} {c2 c5 c8 Q:Nat} {p1:LP} (m0:At m C D [vl a1 p0.1.1 c2,vl a4 p0.1.2 c5,vl a7 p0.2.1 c8,iv p0.2.2]) (f3:Sl tGlue m a1 c2 p0.1.1) (f6:Sl tTile m a4 c5 p0.1.2) (f9:Sl tPlaced m a7 c8 p0.2.1) (l6:I64 p0.2.2) (j3:Sl tPlaced m S Q p1) {r:LI×LI} (g:zhr p0 p1=some r) :
 Fn Tryz.prog 94 #[pt C D,vl S p1 Q] m (fun v p=>Step [] m p∧∃ (g1:OA) (g2:Nat) (g3:OA) (g4:Nat),v=.tuple #[vl g1 r.1 g2,vl g3 r.2 g4]∧Sl tI64 p g1 g2 r.1∧Sl tI64 p g3 g4 r.2):=by
 refine fnc 78 [] Tryz.func94 Tryz.ntmps94 fun hs=>cO 2 (otx (od 3 (bE g fun g5 g9 g=>ocl 17 (zmV ((m0.step0 hs).part 2 1) f9 g9) ?_)))
 rintro _ l7 ⟨j4,j5,j6,rfl,E⟩
 replace hs:=hs.tr0 j4
 refine xT 6 46 (m.H.size,94001) hs.1 [sl none 0 0] fun G l8 g6 b=>?_
 replace hs:=hs.tr0 g6
 replace E:=E.step g6
 refine xM 46 [vl j5 g5 j6] b fun l9 g7 _ U=>?_
 replace hs:=hs.trB b.ge g7
 replace E:=E.step g7
 replace b:=U
 refine otx (zJ (d:=18) (T:=32) (e:=2) (t:=tI64) (pub:=true) (τ:=(m.H.size,94002)) (len:=0) (l:=[]) (parts:=#[]) (cs:=[]) kr kr kr kr hs.1 rfl rfl kr fun n7 m1 c9 d0=>?_)
 replace hs:=hs.tr0 c9
 replace E:=E.step c9
 replace b:=b.step0 c9
 refine od 1 (otx (zJ (d:=19) (T:=32) (e:=2) (t:=tI64) (pub:=true) (τ:=(m.H.size,94003)) (len:=0) (l:=[]) (parts:=#[]) (cs:=[]) kr kr kr kr hs.1 rfl rfl kr fun n8 m2 c0 j7=>?_))
 replace hs:=hs.tr0 c0
 replace E:=E.step c0
 replace d0:=d0.step0 c0
 replace b:=b.step0 c0
 refine dT 1 (cs (cT 1 (cb 0 ?_)))
 refine zj 0 (fun Z=>∀ (a9:LI) (b0:LI) (c1:OA) (c3:Nat) (c4:OA) (c6:Nat) (y:Env) (V:K),Step [] m V→Gr tI64 true (m.H.size,94002) V 2 c1 c3 a9→Gr tI64 true (m.H.size,94003) V 2 c4 c6 b0→zkQ a9 b0=some r→Z (ups y [(7,vl c1 a9 c3),(8,vl c4 b0 c6)]) V) ?_ fun J1=>?_
 ·intro a9 b0 c1 c3 c4 c6 y V hs j8 j9 g
  refine zf (zb (cT 4 (crt ?_)))
  obtain rfl:=sj g
  refine rt [.tmp 4,.tmp 5] [vl c1 a9 c3,vl c4 b0 c6] ⟨kr,kr,trivial⟩ ?_
  exact ⟨hs,_,_,_,_,rfl,j8.sl,j9.sl⟩
 refine bE g fun k0 h0 d9=>zp (F:=zc1 p0 p1) (J:=fun f E' p=>∃ (z:OA) (A:Nat) (u:OA) (w:Nat) (H:OA) (I:Nat),(∃ y,E'=ups y [(0,pt C D),(1,vl S p1 Q),(6,pt G 0),(7,vl z f.1 A),(8,vl u f.2.1 w),(9,iv f.2.2.1)])∧Step [] m p∧Gr tI64 true (m.H.size,94002) p 2 z A f.1∧Gr tI64 true (m.H.size,94003) p 2 u w f.2.1∧I64 f.2.2.1∧Sl tPlaced p H I f.2.2.2∧Box (m.H.size,94001) p G [vl H f.2.2.2 I] 46) (s0:=([],[],0,g5)) (x:=k0) kr h0 ⟨_,_,_,_,_,_,⟨_,eY⟩,hs,d0,j7,(iK 0),E,b⟩ ?_
 rintro f _ h2 ⟨z,A,u,w,H,I,⟨y,rfl⟩,hs,k,i,m4,h,b⟩ e0 g e1
 refine cs (cT 4 ?_)
 refine cc _ g ?_ ?_
 ·intro hc g
  refine ckt (cs (cb 1 (cO 2 (bE g fun j h3 g=>?_))))
  obtain ⟨k1,k2,e2,e3,e4,k7,a6,e5⟩:=(j3.step hs).idx h3
  obtain ⟨_,_,rfl,⟨_,_,rfl,⟨rfl,b5⟩,⟨rfl,b6⟩⟩,⟨rfl,b7⟩⟩:=e5
  replace a6:PubAt h2 k1 (k2+f.2.2.1.toNat*3) [iv j.1.1,iv j.1.2,iv j.2]:=a6
  refine oi 28 49 110 3 p1.length Q .i64 f.2.2.1 e2 e3 e4 (oN 29 110 [iv j.1.1,iv j.1.2,iv j.2] (a6.at.part 0 3).2 (xT 10 110 (m.H.size,94004) hs.1 [iv 0,iv 0,iv 0] fun L m5 b1 c=>?_))
  replace hs:=hs.tr0 b1
  replace h:=h.step b1
  replace k:=k.step0 b1
  replace i:=i.step0 b1
  replace b:=b.step0 b1
  refine xM 110 [iv j.1.1,iv j.1.2,iv j.2] c fun m6 b2 _ d3=>?_
  replace hs:=hs.trB c.ge b2
  replace h:=h.step b2
  replace k:=k.step b2 (k.nb c (zl kr))
  replace i:=i.step b2 (i.nb c (zl kr))
  replace b:=b.step b2 (nm1 (b.ne c (zl kr)))
  replace c:=d3
  refine otx (dT 1 (cs (cT 1 (cb 2 ?_))))
  refine zj 2 (fun Z=>∀ (R:Int) (y:Env) (B:K),Step [] m B→I64 R→Sl tPlaced B H I f.2.2.2→Gr tI64 true (m.H.size,94002) B 2 z A f.1→Gr tI64 true (m.H.size,94003) B 2 u w f.2.1→Box (m.H.size,94001) B G [vl H f.2.2.2 I] 46→Box (m.H.size,94004) B L [iv j.1.1,iv j.1.2,iv j.2] 110→zhq p0 f j R=some e0→Z (ups y [(0,pt C D),(1,vl S p1 Q),(6,pt G 0),(7,vl z f.1 A),(8,vl u f.2.1 w),(9,iv f.2.2.1),(10,pt L 0),(11,iv R)]) B) ?_ fun J2=>?_
  ·intro R y B hs h4 h k i b c g
   refine zf (zb (cO 2 (zJ (d:=58) (T:=32) (e:=2) (t:=tI64) (pub:=true) (τ:=(m.H.size,94005)) (len:=1) (l:=[R]) (parts:=#[(0,iv R)]) (cs:=[iv R]) kr kr kr kr hs.1 rfl ⟨_,_,rfl,⟨rfl,h4⟩,rfl⟩ kr fun k3 m8 a5 k4=>?_)))
   replace hs:=hs.tr0 a5
   replace h:=h.step a5
   replace k:=k.step0 a5
   replace i:=i.step0 a5
   replace b:=b.step0 a5
   replace c:=c.step0 a5
   refine bE g fun n9 h5 g=>zH (d:=59) (T:=32) (e:=2) (t:=tI64) (pub:=true) (τ:=(m.H.size,94002)) (bytes:=8) (a:=z) (cp:=A) (l:=f.1) (a2:=k3) (c2:=1) (l2:=[R]) kr kr k k4.sl hs.1 kr h5 fun o0 o2 m9 b3 s hw=>?_
   clear hw
   replace hs:=hs.trG (k.own (fz _)) b3
   replace h:=h.step b3
   replace i:=i.step b3 (i.ng k (zl kr))
   replace b:=b.step b3 (k.bn b (zl kr))
   replace c:=c.step b3 (k.bn c (zl kr))
   refine dT 1 (cs (cx_ 10 [0,1,2,3,4,5,6,7,8,9] [8,9] 10 [] (xp 60 (vl u f.2.1 w) (xp 61 (pt C D) (xp 62 (pt C D) (xp 63 (pt C D) (xp 64 (pt L 0) (xN 65 103 [iv j.1.1,iv j.1.2] c.at 0 2 rfl (xp 66 (pt L 2) (x1 67 2 (iv j.2) c.at 2 rfl (bE g fun c7 h6 g=>xcl 68 (zkd ((m0.step0 hs).part 0 2) (f3.step hs) (f6.step hs) (b.at.part 0 1) h b5 b6 b7 h6) ?_)))))))))))
   rintro _ n0 ⟨X,rfl,h7⟩
   refine ⟨X,?_⟩
   replace hs:=hs.tr0 X
   replace h:=h.step X
   replace i:=i.step0 X
   replace s:=s.step0 X
   replace b:=b.step0 X
   replace c:=c.step0 X
   refine zhp (d:=69) (T:=32) (e:=2) (t:=tI64) (pub:=true) (τ:=(m.H.size,94006)) (len:=1) (l:=[c7]) (parts:=#[(0,iv c7)]) (cs:=[iv c7]) kr kr kr kr hs.1 rfl ⟨_,_,rfl,⟨rfl,h7⟩,rfl⟩ kr fun h8 n1 M h9=>?_
   replace hs:=hs.tr0 M
   replace h:=h.step M
   replace i:=i.step0 M
   replace s:=s.step0 M
   replace b:=b.step0 M
   replace c:=c.step0 M
   refine xe (bE g fun n2 e6 g=>zH (d:=70) (T:=32) (e:=2) (t:=tI64) (pub:=true) (τ:=(m.H.size,94003)) (bytes:=8) (a:=u) (cp:=w) (l:=f.2.1) (a2:=h8) (c2:=1) (l2:=[c7]) kr kr i h9.sl hs.1 kr e6 fun n3 n4 k8 Y N hw=>?_)
   clear hw
   replace hs:=hs.trG (i.own (fz _)) Y
   replace h:=h.step Y
   replace s:=s.step Y (s.ng i (zl kr))
   replace b:=b.step Y (i.bn b (zl kr))
   replace c:=c.step Y (i.bn c (zl kr))
   refine od 1 (otr (od 1 (oN 72 103 [iv j.1.1,iv j.1.2] (c.at.part 0 2).2 (od 1 (o1 74 2 (iv j.2) (c.at.one (o:=2) rfl) (bE g fun i0 e7 g=>ocl 75 (zmU (b.at.part 0 1) h b5 b6 b7 e7) ?_))))))
   rintro _ k9 ⟨a0,i1,i2,rfl,b8⟩
   replace hs:=hs.tr0 a0
   replace h:=h.step a0
   replace s:=s.step0 a0
   replace N:=N.step0 a0
   replace b:=b.step0 a0
   refine xM 46 [vl i1 i0 i2] b fun l0 a3 _ U=>?_
   replace hs:=hs.trB b.ge a3
   replace h:=h.step a3
   replace b8:=b8.step a3
   replace s:=s.step a3 (s.nb b (zl kr))
   replace N:=N.step a3 (N.nb b (zl kr))
   replace b:=U
   refine oe (zd (zb (cr (od 3 (oe ?_)))))
   exact ze (sj g).symm ⟨_,_,_,_,_,_,⟨_,eY⟩,hs,s,N,(zr _),b8,b⟩
  refine bE g fun i3 e8 d4=>zp (F:=zbL p0 f j) (J:=fun n E' p=>(∃ y,E'=ups y [(0,pt C D),(1,vl S p1 Q),(6,pt G 0),(7,vl z f.1 A),(8,vl u f.2.1 w),(9,iv f.2.2.1),(10,pt L 0),(11,iv n.1),(12,iv n.2)])∧Step [] m p∧I64 n.1∧I64 n.2∧Sl tPlaced p H I f.2.2.2∧Gr tI64 true (m.H.size,94002) p 2 z A f.1∧Gr tI64 true (m.H.size,94003) p 2 u w f.2.1∧Box (m.H.size,94001) p G [vl H f.2.2.2 I] 46∧Box (m.H.size,94004) p L [iv j.1.1,iv j.1.2,iv j.2] 110) (s0:=(0,0)) (x:=i3) kr e8 ⟨⟨_,eY⟩,hs,(iK 0),(iK 0),h,k,i,b,c⟩ ?_
  rintro n _ l1 ⟨⟨y,rfl⟩,hs,d5,d6,h,k,i,b,c⟩ b4 g d7
  refine cs (cT 2 ?_)
  refine cc _ g ?_ ?_
  ·intro hc g
   refine ckt ?_
   refine zn (fun Z=>∀ (a8:Int) (y:Env) (q:K),Step [] m q→I64 a8→Sl tPlaced q H I f.2.2.2→Gr tI64 true (m.H.size,94002) q 2 z A f.1→Gr tI64 true (m.H.size,94003) q 2 u w f.2.1→Box (m.H.size,94001) q G [vl H f.2.2.2 I] 46→Box (m.H.size,94004) q L [iv j.1.1,iv j.1.2,iv j.2] 110→ze7 n a8=some b4→cwp Tryz.prog 78 (sub (zB Tryz.f94) [1,1,0,0,1,0,1,1,0,0,1,0,0,1,0,1,1,1,1]) Z (ups y [(0,pt C D),(1,vl S p1 Q),(6,pt G 0),(7,vl z f.1 A),(8,vl u f.2.1 w),(9,iv f.2.2.1),(10,pt L 0),(11,iv a8),(12,iv n.2)]) q) ?_ fun J3=>?_
   ·intro a8 y q hs e9 h k i b c g
    refine cr (od 3 (oe ?_))
    exact ze (sj g).symm ⟨⟨_,eY⟩,hs,e9,(zr _),h,k,i,b,c⟩
   refine cs (cb 3 (cO 1 (oN 35 103 [iv j.1.1,iv j.1.2] (c.at.part 0 2).2 (od 1 (bE g fun n5 f0 g=>ocl 37 (zb0 b5 b6 d6 f0) ?_)))))
   rintro _ l3 ⟨O,rfl,f1,f2⟩
   replace hs:=hs.tr0 O
   replace h:=h.step O
   replace k:=k.step0 O
   replace i:=i.step0 O
   replace b:=b.step0 O
   replace c:=c.step0 O
   refine bE g fun i4 f4 g=>ocl 38 (zlk (b.at.part 0 1) h f1 f2 f4) ?_
   rintro _ f5 ⟨P,rfl,f7⟩
   replace hs:=hs.tr0 P
   replace h:=h.step P
   replace k:=k.step0 P
   replace i:=i.step0 P
   replace b:=b.step0 P
   replace c:=c.step0 P
   refine dT 1 ?_
   refine zn (fun Z=>∀ (b9:Bool) (y:Env),ze6 n b9=some b4→cwp Tryz.prog 78 (sub (zB Tryz.f94) [1,1,0,0,1,0,0,1,0,1,1,0,0,1,0,0,1,0,1,1,1,1]) Z (ups y [(0,pt C D),(1,vl S p1 Q),(6,pt G 0),(7,vl z f.1 A),(8,vl u f.2.1 w),(9,iv f.2.2.1),(10,pt L 0),(11,iv n.1),(12,iv n.2),(51,.bool b9)]) f5) ?_ fun J4=>?_
   ·intro b9 y g
    refine cc _ g ?_ ?_
    ·intro hc g
     refine cr (od 2 (bE g fun d8 f8 g=>oq 54 (iv d8) (fun _=>zqF (yk:=.i64) kr f8) (od 2 (oe (zd (zb ?_))))))
     exact zk eY (J3 (w64 (n.1+d8))  _ _ hs (zr _) h k i b c g)
    intro hc g
    refine ck (zd (zb ?_))
    exact zk eY (J3 n.1  _ _ hs d5 h k i b c g)
   refine cs (cd 10 (dd 2 ?_))
   refine dsp 41 (decide (i4≥0)) g ?_ ?_
   ·intro hg g
    refine ds 42 (ds 43 (ds 44 (ds 45 (ds 46 (ds 47 (ds 48 (de (oz [49,50] (dT 1 ?_)))))))))
    exact zk eY (J4 false  _  g)
   intro hg g
   refine dd 4 (d1 46 2 (iv j.2) (c.at.one (o:=2) rfl) (dd 2 (de (bE g fun i5 g0 g=>ocl 49 (zjq ((m0.step0 hs).part 0 2) (f3.step hs) (f6.step hs) b7 d6 f7 g0) ?_))))
   rintro _ _ ⟨rfl,rfl,l4⟩
   refine dT 2 ?_
   exact zk eY (J4 (decide (i5>0))  _  g)
  intro hc g
  refine cx 2 (zh ?_)
  have hx:=d7 _ (sj g).symm
  subst hx
  replace g:=d4
  refine zi ?_
  exact zq eY (J2 n.1  _ _ hs d5 h k i b c g)
 intro hc g
 refine cx 0 (zh ?_)
 have hx:=e1 _ (sj g).symm
 subst hx
 replace g:=d9
 refine zi ?_
 exact zq eY (J1 f.1 f.2.1 _ _ _ _ _ _ hs k i g)
theorem zn2 {m:K} {p0:LP} {z A:OA} {c2 y:Nat} {p1:LI} (f3:Sl tPlaced m z c2 p0) (f6:Sl tI64 m A y p1) {r:LI} (b:zgI p0 p1=some r) :
 Fn Tryz.prog 95 #[vl z p0 c2,vl A p1 y] m (fun v n=>Step [] m n∧∃ (a7:OA) (c8:Nat),v=vl a7 r c8∧Sl tI64 n a7 c8 r):=by
 refine fnc 64 [] Tryz.func95 Tryz.ntmps95 fun hs=>cO 1 (otx (zJ (d:=11) (T:=32) (e:=2) (t:=tI64) (pub:=true) (τ:=(m.H.size,95001)) (len:=0) (l:=[]) (parts:=#[]) (cs:=[]) kr kr kr kr hs.1 rfl rfl kr fun k0 h9 f8 f9=>?_))
 replace hs:=hs.tr0 f8
 refine dT 1 (cs (cT 1 (cb 0 ?_)))
 refine zj 0 (fun Z=>∀ (H:LI) (M:OA) (N:Nat) (i:Env) (B:K),Step [] m B→Gr tI64 true (m.H.size,95001) B 2 M N H→zj9 H=some r→Z (ups i [(5,vl M H N)]) B) ?_ fun J1=>?_
 ·intro H M N i B hs g0 b
  refine zf (zb (cT 2 (crt ?_)))
  obtain rfl:=sj b
  exact rT 4 (vl M H N) ⟨hs,_,_,rfl,g0.sl⟩
 refine bE b fun g1 d6 a3=>zp (F:=zcA p0 p1) (J:=fun c R n=>∃ (j:OA) (k:Nat),(∃ i,R=ups i [(0,vl z p0 c2),(1,vl A p1 y),(5,vl j c.1 k),(6,iv c.2)])∧Step [] m n∧Gr tI64 true (m.H.size,95001) n 2 j k c.1∧I64 c.2) (s0:=([],0)) (x:=g1) kr d6 ⟨_,_,⟨_,eY⟩,hs,f9,(iK 0)⟩ ?_
 rintro c _ i1 ⟨j,k,⟨i,rfl⟩,hs,h,i2⟩ a5 b a6
 refine cs (cT 4 ?_)
 refine cc _ b ?_ ?_
 ·intro L b
  refine ckt (cs (cb 1 (cT 1 (cs (cT 1 (cb 2 ?_))))))
  refine zj 2 (fun Z=>∀ (w:Int) (i:Env) (C:K),Step [] m C→I64 w→Gr tI64 true (m.H.size,95001) C 2 j k c.1→zg0 c w=some a5→Z (ups i [(0,vl z p0 c2),(1,vl A p1 y),(5,vl j c.1 k),(6,iv c.2),(7,iv w)]) C) ?_ fun J2=>?_
  ·intro w i C hs d7 h b
   refine zf (zb (cr (od 2 (zJ (d:=61) (T:=32) (e:=2) (t:=tI64) (pub:=true) (τ:=(m.H.size,95003)) (len:=1) (l:=[w]) (parts:=#[(0,iv w)]) (cs:=[iv w]) kr kr kr kr hs.1 rfl ⟨_,_,rfl,⟨rfl,d7⟩,rfl⟩ kr fun g2 i4 c7 g3=>?_))))
   replace hs:=hs.tr0 c7
   replace h:=h.step0 c7
   refine bE b fun k3 d8 b=>zH (d:=62) (T:=32) (e:=2) (t:=tI64) (pub:=true) (τ:=(m.H.size,95001)) (bytes:=8) (a:=j) (cp:=k) (l:=c.1) (a2:=g2) (c2:=1) (l2:=[w]) kr kr h g3.sl hs.1 kr d8 fun k4 k5 i5 g4 g5 hw=>?_
   clear hw
   replace hs:=hs.trG (h.own (fz _)) g4
   refine od 1 (oe (zd (zb (cr (od 3 (oe ?_))))))
   exact ze (sj b).symm ⟨_,_,⟨_,eY⟩,hs,g5,(zr _)⟩
  refine bE b fun g6 d9 a8=>zp (F:=zbc p0 p1 c) (J:=fun g R n=>(∃ i,R=ups i [(0,vl z p0 c2),(1,vl A p1 y),(5,vl j c.1 k),(6,iv c.2),(7,iv g.1),(8,iv g.2)])∧Step [] m n∧I64 g.1∧I64 g.2∧Gr tI64 true (m.H.size,95001) n 2 j k c.1) (s0:=(0,0)) (x:=g6) kr d9 ⟨⟨_,eY⟩,hs,(iK 0),(iK 0),h⟩ ?_
  rintro g _ e0 ⟨⟨i,rfl⟩,hs,S,U,h⟩ a9 b b0
  refine cs (cT 2 ?_)
  refine cc _ b ?_ ?_
  ·intro L b
   refine ckt (cs (cb 3 (cO 2 (bE b fun I e1 b=>?_))))
   obtain ⟨g7,g8,b1,b2,b3,h6,D,b4⟩:=(f3.step hs).idx e1
   obtain ⟨_,_,rfl,⟨_,_,rfl,⟨rfl,e2⟩,⟨rfl,e3⟩⟩,⟨rfl,i6⟩⟩:=b4
   replace D:PubAt e0 g7 (g8+c.2.toNat*3) [iv I.1.1,iv I.1.2,iv I.2]:=D
   refine oi 24 49 110 3 p0.length c2 .i64 c.2 b1 b2 b3 (od 1 (oN 26 103 [iv I.1.1,iv I.1.2] (D.at.part 0 2).2 (od 1 (bE b fun p e4 b=>ocl 28 (zb0 e2 e3 U e4) ?_))))
   rintro _ i7 ⟨c9,rfl,i8,i9⟩
   replace hs:=hs.tr0 c9
   replace h:=h.step0 c9
   refine xT 9 103 (m.H.size,95002) hs.1 [iv 0,iv 0] fun V j1 d0 q=>?_
   replace hs:=hs.tr0 d0
   replace h:=h.step0 d0
   refine xM 103 [iv p.1,iv p.2] q fun u d2 _ X=>?_
   replace hs:=hs.trB q.ge d2
   replace h:=h.step d2 (h.nb q (zl kr))
   replace q:=X
   refine otx (dT 3 (cb 4 ?_))
   refine zj 4 (fun Z=>∀ (O:Int) (i:Env),I64 O→zgZ g O=some a9→Z (ups i [(0,vl z p0 c2),(1,vl A p1 y),(5,vl j c.1 k),(6,iv c.2),(7,iv O),(8,iv g.2)]) u) ?_ fun J3=>?_
   ·intro O i e5 b
    refine zf (zd (zb (cr (od 3 (oe ?_)))))
    exact ze (sj b).symm ⟨⟨_,eY⟩,hs,e5,(zr _),h⟩
   refine bE b fun g9 e6 b5=>zp (F:=zQ p0 p1 g p) (J:=fun f R n=>(∃ i,R=ups i [(0,vl z p0 c2),(1,vl A p1 y),(5,vl j c.1 k),(6,iv c.2),(7,iv f.1),(8,iv g.2),(9,pt V 0),(10,iv f.2)])∧u=n∧I64 f.1∧I64 f.2) (s0:=(g.1,w64 (c.2+1))) (x:=g9) kr e6 ⟨⟨_,eY⟩,rfl,S,(zr _)⟩ ?_
   rintro f _ _ ⟨⟨i,rfl⟩,rfl,Y,j3⟩ P b b6
   refine cs (cT 4 ?_)
   refine cc _ b ?_ ?_
   ·intro L b
    refine ckt ?_
    refine zn (fun Z=>∀ (Q:Int) (i:Env),I64 Q→zbe f Q=some P→cwp Tryz.prog 64 (sub (zB Tryz.f95) [1,1,0,0,1,1,0,0,1,0,0,1,0,1,0,0,1,0,0,1,0,1,1]) Z (ups i [(0,vl z p0 c2),(1,vl A p1 y),(5,vl j c.1 k),(6,iv c.2),(7,iv Q),(8,iv g.2),(9,pt V 0),(10,iv f.2)]) u) ?_ fun J4=>?_
    ·intro Q i e7 b
     refine cr (od 3 (oe ?_))
     exact ze (sj b).symm ⟨⟨_,eY⟩,rfl,e7,(zr _)⟩
    refine cs (cb 5 ?_)
    refine zn (fun Z=>∀ (a0:Bool) (i:Env),zbd g f a0=some P→cwp Tryz.prog 64 (sub (zB Tryz.f95) [1,0,0,1,0,0,1,1,0,0,1,0,0,1,0,1,0,0,1,0,0,1,0,1,1]) Z (ups i [(0,vl z p0 c2),(1,vl A p1 y),(5,vl j c.1 k),(6,iv c.2),(7,iv f.1),(8,iv g.2),(9,pt V 0),(10,iv f.2),(54,.bool a0)]) u) ?_ fun J5=>?_
    ·intro a0 i b
     refine cc _ b ?_ ?_
     ·intro L b
      refine cr (od 2 (bE b fun d3 e8 b=>oq 57 (iv d3) (fun _=>zqF (yk:=.i64) kr e8) (od 2 (oe (zd (zb ?_))))))
      exact zk eY (J4 (w64 (f.1+d3))  _ (zr _) b)
     intro L b
     refine ck (zd (zb ?_))
     exact zk eY (J4 f.1  _ Y b)
    refine cs (cd 14 (dd 2 (bE b fun s e9 b=>?_)))
    obtain ⟨h2,h3,b7,b8,b9,h7,E,c0⟩:=(f3.step hs).idx e9
    obtain ⟨_,_,rfl,⟨_,_,rfl,⟨rfl,j4⟩,⟨rfl,j5⟩⟩,⟨rfl,j6⟩⟩:=c0
    replace E:PubAt u h2 (h3+f.2.toNat*3) [iv s.1.1,iv s.1.2,iv s.2]:=E
    refine di 39 49 110 3 p0.length c2 .i64 f.2 b7 b8 b9 (dd 1 (dN 41 103 [iv s.1.1,iv s.1.2] (E.at.part 0 2).2 (dN 42 103 [iv p.1,iv p.2] (q.at.part 0 2).2 (dq 43 (.bool (decide (s.1.1=p.1)&&decide (s.1.2=p.2))) (fun _=>zfA (T:=103) (k1:=.i64) (k2:=.i64) kr kr) ?_))))
    refine dsp 44 ((decide (s.1.1=p.1)&&decide (s.1.2=p.2))) b ?_ ?_
    ·intro hg b
     refine ds 45 (ds 46 (ds 47 (ds 48 (ds 49 (ds 50 (de (oz [51,52,53] (dT 1 ?_))))))))
     exact zk eY (J5 false  _  b)
    intro hg b
    refine dd 2 (bE b fun d4 f0 b=>?_)
    obtain ⟨h4,h5,c1,c3,c4,h8,G,c6⟩:=(f6.step hs).idx f0
    obtain ⟨rfl,j8⟩:=c6
    replace G:PubAt u h4 (h5+f.2.toNat*1) [iv d4]:=G
    refine di 47 32 2 1 p1.length y .i64 f.2 c1 c3 c4 (d1 48 2 (iv d4) (G.at.one (o:=0) rfl) (dd 1 (bE b fun k6 f1 b=>dc 50 (ziw U f1) fun j9=>de (bE b fun d5 f2 b=>oq 51 (iv d5) (fun _=>zsA (yk:=.i64) kr f2) (dT 3 ?_)))))
    exact zk eY (J5 (decide ((zrP .i64 d5 1)=1))  _  b)
   intro L b
   refine cx 4 (zh ?_)
   have hx:=b6 _ (sj b).symm
   subst hx
   replace b:=b5
   refine zi ?_
   exact zq eY (J3 f.1  _ Y b)
  intro L b
  refine cx 2 (zh ?_)
  have hx:=b0 _ (sj b).symm
  subst hx
  replace b:=a8
  refine zi ?_
  exact zq eY (J2 g.1  _ _ hs S h b)
 intro L b
 refine cx 0 (zh ?_)
 have hx:=a6 _ (sj b).symm
 subst hx
 replace b:=a3
 refine zi ?_
 exact zq eY (J1 c.1 _ _ _ _ hs h b)
theorem zn1 {k:K} {p0:LP} {s u:Nat} {a1:OA} {c2:Nat} {p1:Int×Int} {L:Int} (m0:At k s u [vl a1 p0 c2]) (f3:Sl tPlaced k a1 c2 p0) (g5:I64 p1.1) (g6:I64 p1.2) (l4:I64 L) {r:(LP)} (j:zgH p0 p1 L=some r) :
 Fn Tryz.prog 97 #[pt s u,.agg #[iv p1.1,iv p1.2],iv L] k (fun v w=>Step [] k w∧∃ (a7:OA) (c8:Nat),v=.agg #[vl a7 r c8]∧Sl tPlaced w a7 c8 r):=by
 refine fnc 68 [] Tryz.func97 Tryz.ntmps97 fun hs=>csr (xO 4 103 (k.H.size,97001) hs.1 [iv p1.1,iv p1.2] fun B i9 g9 g=>?_)
 replace hs:=hs.tr0 g9
 refine xT 6 46 (k.H.size,97002) hs.1 [sl none 0 0] fun q j1 e7 c=>?_
 replace hs:=hs.tr0 e7
 replace g:=g.step0 e7
 refine otx (od 1 (xT 7 46 (k.H.size,97003) hs.1 [sl none 0 0] fun p j2 b5 f=>?_))
 replace hs:=hs.tr0 b5
 replace g:=g.step0 b5
 replace c:=c.step0 b5
 refine xM 46 [sl none 0 0] f fun j3 b6 _ M=>?_
 replace hs:=hs.trB f.ge b6
 replace g:=g.step b6 (nm1 (g.ne f (zl kr)))
 replace c:=c.step b6 (nm1 (c.ne f (zl kr)))
 replace f:=M
 refine ot (cs (cT 1 (cb 0 ?_)))
 refine zj 0 (fun Z=>∀ (I:LP) (N:OA) (O:Nat) (y:Env) (H:K),Step [] k H→Gr tPlaced true (k.H.size,97005) H 105 N O I→Box (k.H.size,97002) H q [sl none 0 0] 46→Box (k.H.size,97003) H p [vl N I O] 46→zgY I=some r→Z (ups y [(6,pt q 0),(7,pt p 0)]) H) ?_ fun J1=>?_
 ·intro I N O y H hs a5 c f j
  refine zf (zb (csr (oN 67 46 [vl N I O] (f.at.part 0 1).2 (xM 46 [vl N I O] c fun j5 e8 _ b7=>?_))))
  replace hs:=hs.trB c.ge e8
  replace a5:=a5.step e8 (a5.nb c (zl kr))
  replace c:=b7
  refine ot (crt ?_)
  obtain rfl:=sj j
  refine rt [.cell 6 46] [.agg #[vl N I O]] ⟨⟨q,0,[vl N I O],rfl,rfl,kr,kr,(c.at.part 0 1).2⟩,trivial⟩ ?_
  exact ⟨hs,_,_,rfl,a5.sl⟩
 refine bE j fun h0 f2 c7=>zp (F:=zcz p0 p1 L) (J:=fun h E' w=>∃ (z:OA) (A:Nat),(∃ y,E'=ups y [(0,pt s u),(2,iv L),(4,pt B 0),(6,pt q 0),(7,pt p 0),(8,iv h.1)])∧Step [] k w∧I64 h.1∧Gr tPlaced true (k.H.size,97005) w 105 z A h.2∧Box (k.H.size,97001) w B [iv p1.1,iv p1.2] 103∧Box (k.H.size,97002) w q [sl none 0 0] 46∧Box (k.H.size,97003) w p [vl z h.2 A] 46) (s0:=(0,[])) (x:=h0) kr f2 ⟨_,_,⟨_,eY⟩,hs,(iK 0),Gr.nil,g,c,f⟩ ?_
 rintro h _ f5 ⟨z,A,⟨y,rfl⟩,hs,j6,m,g,c,f⟩ a6 j c9
 refine cs (cO 4 (o1 16 44 (vl a1 p0 c2) ((m0.step0 hs).one (o:=0) rfl) (dT 2 ?_)))
 refine cc _ j ?_ ?_
 ·intro Y j
  refine ckt ?_
  refine zn (fun Z=>∀ (a8:LP) (b8:OA) (b9:Nat) (y:Env) (D:K),Step [] k D→Gr tPlaced true (k.H.size,97005) D 105 b8 b9 a8→Box (k.H.size,97001) D B [iv p1.1,iv p1.2] 103→Box (k.H.size,97002) D q [sl none 0 0] 46→Box (k.H.size,97003) D p [vl b8 a8 b9] 46→zeg h a8=some a6→cwp Tryz.prog 68 (sub (zB Tryz.f97) [1,1,0,0,1,0,1,1]) Z (ups y [(0,pt s u),(2,iv L),(4,pt B 0),(6,pt q 0),(7,pt p 0),(8,iv h.1)]) D) ?_ fun J2=>?_
  ·intro a8 b8 b9 y D hs h2 g c f j
   refine cr (od 3 (oe ?_))
   exact ze (sj j).symm ⟨_,_,⟨_,eY⟩,hs,(zr _),h2,g,c,f⟩
  refine cs (cb 1 (cs (cd 9 (dd 3 (d1 24 44 (vl a1 p0 c2) ((m0.step0 hs).one (o:=0) rfl) (dd 1 (bE j fun i a0 j=>?_)))))))
  obtain ⟨h3,h4,d0,d2,d3,i4,Q,d4⟩:=(f3.step hs).idx a0
  obtain ⟨_,_,rfl,⟨_,_,rfl,⟨rfl,j7⟩,⟨rfl,j8⟩⟩,⟨rfl,j9⟩⟩:=d4
  replace Q:PubAt f5 h3 (h4+h.1.toNat*3) [iv i.1.1,iv i.1.2,iv i.2]:=Q
  refine di 26 44 105 3 p0.length c2 .i64 h.1 d0 d2 d3 (dd 1 (dN 28 103 [iv i.1.1,iv i.1.2] (Q.at.part 0 2).2 (dN 29 103 [iv p1.1,iv p1.2] (g.at.part 0 2).2 (de (oq 30 (.bool (!(decide (i.1.1=p1.1)&&decide (i.1.2=p1.2)))) (fun _=>zuc (T:=103) (k1:=.i64) (k2:=.i64) kr kr) (dT 1 (cs (cT 1 (cb 2 ?_)))))))))
  refine zj 2 (fun Z=>∀ (c0:Bool) (y:Env) (C:K),Step [] k C→Gr tPlaced true (k.H.size,97005) C 105 z A h.2→Box (k.H.size,97001) C B [iv p1.1,iv p1.2] 103→Box (k.H.size,97002) C q [sl none 0 0] 46→Box (k.H.size,97003) C p [vl z h.2 A] 46→zgX p0 h i c0=some a6→Z (ups y [(0,pt s u),(2,iv L),(4,pt B 0),(6,pt q 0),(7,pt p 0),(8,iv h.1),(9,.bool c0)]) C) ?_ fun J3=>?_
  ·intro c0 y C hs m g c f j
   refine zf (zb (cT 1 ?_))
   refine cc _ j ?_ ?_
   ·intro Y j
    refine cx_ 10 [0,1,2,3,4,5,6,7,8,9] [9] 10 [] (xp 55 (pt p 0) (x1 56 44 (vl z h.2 A) f.at 0 rfl (xp 57 (pt s u) (xp 58 (pt s u) (xp 59 (pt s u) (x1 60 44 (vl a1 p0 c2) (m0.step0 hs) 0 rfl (xp 61 (iv h.1) (bE j fun h5 a3 j=>?_))))))))
    have d5:i=h5:=sj (a0.symm.trans a3);subst d5
    have i5:=a3
    obtain ⟨h6,h7,d6,d7,d8,i6,R,d9⟩:=(f3.step hs).idx a3
    obtain ⟨_,_,rfl,⟨_,_,rfl,⟨rfl,f6⟩,⟨rfl,f7⟩⟩,⟨rfl,f8⟩⟩:=d9
    replace R:PubAt C h6 (h7+h.1.toNat*3) [iv i.1.1,iv i.1.2,iv i.2]:=R
    refine xi 62 44 105 3 p0.length c2 .i64 h.1 d6 d7 d8 (xN 63 105 [iv i.1.1,iv i.1.2,iv i.2] R.at 0 3 rfl (zhp (d:=64) (T:=44) (e:=105) (t:=tPlaced) (pub:=true) (τ:=(k.H.size,97004)) (len:=1) (l:=[i]) (parts:=#[(0,.agg #[iv i.1.1,iv i.1.2,iv i.2])]) (cs:=[iv i.1.1,iv i.1.2,iv i.2]) kr kr kr kr hs.1 rfl ⟨_,_,rfl,⟨_,_,rfl,⟨_,_,rfl,⟨rfl,f6⟩,⟨rfl,f7⟩⟩,⟨rfl,f8⟩⟩,rfl⟩ kr fun h8 k3 U h9=>?_))
    replace hs:=hs.tr0 U
    replace m:=m.step0 U
    replace g:=g.step0 U
    replace c:=c.step0 U
    replace f:=f.step0 U
    refine xe (bE j fun a9 f9 j=>?_)
    have f24q:=m.sl
    refine zH (d:=65) (T:=44) (e:=105) (t:=tPlaced) (pub:=true) (τ:=(k.H.size,97005)) (bytes:=24) (a:=z) (cp:=A) (l:=h.2) (a2:=h8) (c2:=1) (l2:=[i]) kr kr m h9.sl hs.1 kr f9 fun c1 c3 k4 V b0 hw=>?_
    clear hw
    replace hs:=hs.trG (m.own (fz _)) V
    replace f24q:=f24q.step V
    replace g:=g.step V (m.bn g (zl kr))
    replace c:=c.step V (m.bn c (zl kr))
    replace f:=f.step V (m.bn f (zl kr))
    refine od 1 (zm (b:=p) (off:=0) (T:=44) (vl c1 a9 c3) [vl c1 a9 c3] [vl c1 a9 c3] kr kr f rfl kr kr kr rfl fun k5 X _ M=>?_)
    replace hs:=hs.trB f.ge X
    replace f24q:=f24q.step X
    replace b0:=b0.step X (b0.nb f (zl kr))
    replace g:=g.step X (nm1 (g.ne f (zl kr)))
    replace c:=c.step X (nm1 (c.ne f (zl kr)))
    replace f:=M
    refine oe (zd (zb ?_))
    exact zk eY (J2 a9 _ _ _ _ hs b0 g c f j)
   intro Y j
   refine ck (zd (zb ?_))
   exact zk eY (J2 h.2 _ _ _ _ hs m g c f j)
  refine bE j fun i0 g0 e0=>zp (F:=zbb p0 p1 L h i) (J:=fun n E' w=>(∃ y,E'=ups y [(0,pt s u),(2,iv L),(4,pt B 0),(6,pt q 0),(7,pt p 0),(8,iv h.1),(9,.bool n.1),(10,iv n.2)])∧Step [] k w∧I64 n.2∧Gr tPlaced true (k.H.size,97005) w 105 z A h.2∧Box (k.H.size,97001) w B [iv p1.1,iv p1.2] 103∧Box (k.H.size,97002) w q [sl none 0 0] 46∧Box (k.H.size,97003) w p [vl z h.2 A] 46) (s0:=(!(decide (i.1.1=p1.1)&&decide (i.1.2=p1.2)),0)) (x:=i0) kr g0 ⟨⟨_,eY⟩,hs,(iK 0),m,g,c,f⟩ ?_
  rintro n _ g1 ⟨⟨y,rfl⟩,hs,g2,m,g,c,f⟩ b1 j e1
  refine cs (cT 2 ?_)
  refine cc _ j ?_ ?_
  ·intro Y j
   refine ckt ?_
   refine zn (fun Z=>∀ (c4:Bool) (y:Env) (E:K),Step [] k E→Gr tPlaced true (k.H.size,97005) E 105 z A h.2→Box (k.H.size,97001) E B [iv p1.1,iv p1.2] 103→Box (k.H.size,97002) E q [sl none 0 0] 46→Box (k.H.size,97003) E p [vl z h.2 A] 46→zef n c4=some b1→cwp Tryz.prog 68 (sub (zB Tryz.f97) [1,1,0,0,1,0,1,0,0,1,0,0,1,0,1,1]) Z (ups y [(0,pt s u),(2,iv L),(4,pt B 0),(6,pt q 0),(7,pt p 0),(8,iv h.1),(9,.bool c4),(10,iv n.2)]) E) ?_ fun J4=>?_
   ·intro c4 y E hs m g c f j
    refine cr (od 3 (oe ?_))
    exact ze (sj j).symm ⟨⟨_,eY⟩,hs,(zr _),m,g,c,f⟩
   refine cs (cb 3 ?_)
   refine zn (fun Z=>∀ (c5:Bool) (y:Env) (G:K),Step [] k G→Gr tPlaced true (k.H.size,97005) G 105 z A h.2→Box (k.H.size,97001) G B [iv p1.1,iv p1.2] 103→Box (k.H.size,97002) G q [sl none 0 0] 46→Box (k.H.size,97003) G p [vl z h.2 A] 46→zee n c5=some b1→cwp Tryz.prog 68 (sub (zB Tryz.f97) [1,0,0,1,0,0,1,0,1,0,0,1,0,0,1,0,1,1]) Z (ups y [(0,pt s u),(2,iv L),(4,pt B 0),(6,pt q 0),(7,pt p 0),(8,iv h.1),(9,.bool n.1),(10,iv n.2),(53,.bool c5)]) G) ?_ fun J5=>?_
   ·intro c5 y G hs m g c f j
    refine cc _ j ?_ ?_
    ·intro Y j
     refine cr (od 1 (oe (zd (zb ?_))))
     exact zk eY (J4 false  _ _ hs m g c f j)
    intro Y j
    refine ck (zd (zb ?_))
    exact zk eY (J4 n.1  _ _ hs m g c f j)
   refine cs (cx_ 17 [0,1,2,3,4,5,6,7,8,9,10,11,12,13,14,15,16] [16] 17 [] (xp 35 (iv L) (xp 36 (iv n.2) (bE j fun b2 g3 j=>xq 37 (iv b2) (fun _=>zsA (yk:=.i64) kr g3) (xp 38 (iv (zrP .i64 b2 1)) (xp 39 (bW ((zrP .i64 b2 1)=1)) ?_))))))
   refine xsp 40 (decide ((zrP .i64 b2 1)=1)) j ?_ ?_
   ·intro hg j
    refine xs 41 (xs 42 (xs 43 (xs 44 (xs 45 (xs 46 (xs 47 (xs 48 (xs 49 (xs 50 (xs 51 (xe (os 52 (dT 1 ?_)))))))))))))
    exact zk eY (J5 false  _ _ hs m g c f j)
   intro hg j
   refine xp 41 (pt s u) (xp 42 (pt s u) (xp 43 (pt s u) (x1 44 44 (vl a1 p0 c2) (m0.step0 hs) 0 rfl (xp 45 (iv h.1) (bE j fun i3 a4 j=>?_)))))
   have e2:i=i3:=sj (a0.symm.trans a4);subst e2
   have i7:=a4
   obtain ⟨e9,f0,e3,e4,e5,i8,S,e6⟩:=(f3.step hs).idx a4
   obtain ⟨_,_,rfl,⟨_,_,rfl,⟨rfl,k7⟩,⟨rfl,k8⟩⟩,⟨rfl,k9⟩⟩:=e6
   replace S:PubAt g1 e9 (f0+h.1.toNat*3) [iv i.1.1,iv i.1.2,iv i.2]:=S
   refine xi 46 44 105 3 p0.length c2 .i64 h.1 e3 e4 e5 (xp 47 (pt e9 (f0+h.1.toNat*3)) (xN 48 103 [iv i.1.1,iv i.1.2] S.at 0 2 rfl (xN 49 103 [iv p1.1,iv p1.2] g.at 0 2 rfl (xp 50 (iv n.2) (bE j fun b3 g4 j=>xcl 51 (zb0 g5 g6 g2 g4) ?_)))))
   rintro _ l0 ⟨P,rfl,l1,l3⟩
   refine ⟨P,?_⟩
   replace hs:=hs.tr0 P
   replace m:=m.step0 P
   replace g:=g.step0 P
   replace c:=c.step0 P
   replace f:=f.step0 P
   refine xe (oq 52 (.bool (decide (i.1.1=b3.1)&&decide (i.1.2=b3.2))) (fun _=>zfA (T:=103) (k1:=.i64) (k2:=.i64) kr kr) (dT 1 ?_))
   exact zk eY (J5 (decide (i.1.1=b3.1)&&decide (i.1.2=b3.2))  _ _ hs m g c f j)
  intro Y j
  refine cx 2 (zh ?_)
  have hx:=e1 _ (sj j).symm
  subst hx
  replace j:=e0
  refine zi ?_
  exact zq eY (J3 n.1  _ _ hs m g c f j)
 intro Y j
 refine cx 0 (zh ?_)
 have hx:=c9 _ (sj j).symm
 subst hx
 replace j:=c7
 refine zi ?_
 exact zq eY (J1 h.2 _ _ _ _ hs m c f j)
theorem zpv {C:K} {p0:TS×(LP)×Int} {b5 b6:Nat} {a1 a4 a7 S:OA} {c2 c5 c8 z:Nat} {p1:LP} (m0:At C b5 b6 [vl a1 p0.1.1 c2,vl a4 p0.1.2 c5,vl a7 p0.2.1 c8,iv p0.2.2]) (f3:Sl tGlue C a1 c2 p0.1.1) (f6:Sl tTile C a4 c5 p0.1.2) (f9:Sl tPlaced C a7 c8 p0.2.1) (a9:I64 p0.2.2) (Y:Sl tPlaced C S z p1) {r:Int×(Int×Int)} (d:zgv p0 p1=some r) :
 Fn Tryz.prog 66 #[pt b5 b6,vl S p1 z] C (fun v g=>Step [] C g∧v=.tuple #[iv r.1,.agg #[iv r.2.1,iv r.2.2]]∧I64 r.1∧I64 r.2.1∧I64 r.2.2):=by
 refine fnc 93 [] Tryz.func66 Tryz.ntmps66 fun hs=>cO 1 (xT 5 103 (C.H.size,66001) hs.1 [iv 0,iv 0] fun L r2 o2 a=>?_)
 replace hs:=hs.tr0 o2
 refine otx (od 2 (bE d fun b7 k7 d=>ocl 19 (zoC ((m0.step0 hs).part 0 4) (f3.step hs) (f6.step hs) (f9.step hs) a9 (Y.step hs) k7) ?_))
 rintro _ r3 ⟨k3,t9,u0,d8,c9,rfl,o3,m⟩
 replace hs:=hs.tr0 k3
 replace a:=a.step0 k3
 refine od 5 (otx (od 2 (bE d fun M k8 d=>ocl 24 (zn2 (Y.step hs) o3 k8) ?_)))
 rintro _ r4 ⟨d9,a0,U,rfl,n⟩
 replace hs:=hs.tr0 d9
 replace m:=m.step d9
 replace a:=a.step0 d9
 refine od 1 (otx (od 2 (bE d fun a2 k9 d=>ocl 28 (zmz ((m0.step0 hs).part 0 4) (f3.step hs) (f6.step hs) (f9.step hs) a9 (Y.step hs) k9) ?_)))
 rintro _ r5 ⟨d0,b8,b9,rfl,l,r6,r7⟩
 replace hs:=hs.tr0 d0
 replace m:=m.step d0
 replace n:=n.step d0
 replace a:=a.step0 d0
 refine od 4 (xT 9 46 (C.H.size,66002) hs.1 [sl none 0 0] fun a8 r8 c0 f=>?_)
 replace hs:=hs.tr0 c0
 replace m:=m.step c0
 replace n:=n.step c0
 replace l:=l.step c0
 replace a:=a.step0 c0
 refine xM 46 [vl b8 a2.1 b9] f fun r9 c1 _ e2=>?_
 replace hs:=hs.trB f.ge c1
 replace m:=m.step c1
 replace n:=n.step c1
 replace l:=l.step c1
 replace a:=a.step c1 (nm1 (a.ne f (zl kr)))
 replace f:=e2
 refine dT 2 (cs (cT 1 (cb 0 ?_)))
 refine zj 0 (fun Z=>∀ (d2:Int) (d3:Int) (E0:Env) (Q:K),Step [] C Q→I64 d2→I64 d3→Sl tPlaced Q b8 b9 a2.1→Box (C.H.size,66001) Q L [iv d2,iv d3] 103→Box (C.H.size,66002) Q a8 [vl b8 a2.1 b9] 46→zim p0 a2 d2 d3=some r→Z (ups E0 [(0,pt b5 b6),(5,pt L 0),(9,pt a8 0)]) Q) ?_ fun J1=>?_
 ·intro d2 d3 E0 Q hs s2 s3 l a f d
  refine zf (zb (cO 1 (bE d fun o4 l0 d=>ocl 84 (zka ((m0.step0 hs).part 0 4) (f3.step hs) (f6.step hs) (f9.step hs) a9 (f.at.part 0 1) l l0) ?_)))
  rintro _ l1 ⟨k4,u1,o5,rfl,o6⟩
  replace hs:=hs.tr0 k4
  replace a:=a.step0 k4
  refine dT 1 (cs (cT 3 ?_))
  refine cc _ d ?_ ?_
  ·intro hc d
   refine cs (cd 5 (dd 1 (bE d fun D l2 d=>?_)))
   obtain ⟨o7,o8,h3,h4,h5,q1,b0,h6⟩:=o6.idx l2
   obtain ⟨_,_,rfl,⟨_,_,rfl,⟨rfl,l3⟩,⟨rfl,l4⟩⟩,⟨rfl,s4⟩⟩:=h6
   replace b0:PubAt l1 o7 (o8+(0:Int).toNat*3) [iv D.1.1,iv D.1.2,iv D.2]:=b0
   refine di 89 49 110 3 o4.length o5 .i64 0 h3 h4 h5 (dd 1 (dN 91 103 [iv D.1.1,iv D.1.2] (b0.at.part 0 2).2 (dd 1 (de (xM 103 [iv D.1.1,iv D.1.2] a fun s5 o9 _ q=>?_)))))
   replace hs:=hs.trB a.ge o9
   replace a:=q
   refine ot (crt (zc ?_))
   obtain rfl:=sj d
   refine rt [.tmp 4,.cell 5 103] [iv 3,.agg #[iv D.1.1,iv D.1.2]] ⟨rfl,⟨L,0,[iv D.1.1,iv D.1.2],rfl,rfl,kr,kr,(a.at.part 0 2).2⟩,trivial⟩ ?_
   exact ⟨hs,rfl,(iK 3),l3,l4⟩
  intro hc d
  refine ckt (cO 2 (xM 103 [iv 0,iv 0] a fun s6 p2 _ q=>?_))
  replace hs:=hs.trB a.ge p2
  replace a:=q
  refine ot (crt ?_)
  obtain rfl:=sj d
  refine rt [.tmp 4,.cell 5 103] [iv 0,.agg #[iv 0,iv 0]] ⟨rfl,⟨L,0,[iv 0,iv 0],rfl,rfl,kr,kr,(a.at.part 0 2).2⟩,trivial⟩ ?_
  exact ⟨hs,rfl,(iK 0),(iK 0),(iK 0)⟩
 refine bE d fun p3 l5 b1=>zp (F:=zfR p0 p1 b7 M a2) (J:=fun c p g=>(∃ E0,p=ups E0 [(0,pt b5 b6),(1,vl S p1 z),(5,pt L 0),(7,vl d8 b7.2 c9),(8,vl a0 M U),(9,pt a8 0),(12,iv c.1)])∧Step [] C g∧I64 c.1∧I64 c.2.1∧I64 c.2.2∧Sl tI64 g d8 c9 b7.2∧Sl tI64 g a0 U M∧Sl tPlaced g b8 b9 a2.1∧Box (C.H.size,66001) g L [iv c.2.1,iv c.2.2] 103∧Box (C.H.size,66002) g a8 [vl b8 a2.1 b9] 46) (s0:=(0,0,0)) (x:=p3) kr l5 ⟨⟨_,eY⟩,hs,(iK 0),(iK 0),(iK 0),m,n,l,a,f⟩ ?_
 rintro c _ j ⟨⟨E0,rfl⟩,hs,s7,e4,e6,m,n,l,a,f⟩ q2 d b2
 refine cs (cT 4 ?_)
 refine cc _ d ?_ ?_
 ·intro hc d
  refine ckt (cs (cb 1 (cs (cs (cd 8 (dd 2 (bE d fun k5 l6 d=>?_)))))))
  obtain ⟨p4,p5,h7,h8,h9,q3,b3,i0⟩:=m.idx l6
  obtain ⟨rfl,s8⟩:=i0
  replace b3:PubAt j p4 (p5+c.1.toNat*1) [iv k5]:=b3
  refine di 40 32 2 1 b7.2.length c9 .i64 c.1 h7 h8 h9 (d1 41 2 (iv k5) (b3.at.one (o:=0) rfl) (dd 3 (d1 45 2 (iv p0.2.2) ((m0.step0 hs).one (o:=3) rfl) (de (dT 1 ?_)))))
  refine cc _ d ?_ ?_
  ·intro hc d
   refine cs (cd 6 (dd 2 (bE d fun E l7 d=>?_)))
   obtain ⟨p6,p7,i1,i2,i3,q4,b4,i4⟩:=(Y.step hs).idx l7
   obtain ⟨_,_,rfl,⟨_,_,rfl,⟨rfl,l8⟩,⟨rfl,l9⟩⟩,⟨rfl,s9⟩⟩:=i4
   replace b4:PubAt j p6 (p7+c.1.toNat*3) [iv E.1.1,iv E.1.2,iv E.2]:=b4
   refine di 49 49 110 3 p1.length z .i64 c.1 i1 i2 i3 (dd 1 (dN 51 103 [iv E.1.1,iv E.1.2] (b4.at.part 0 2).2 (dd 1 (de (xM 103 [iv E.1.1,iv E.1.2] a fun t0 p8 _ q=>?_)))))
   replace hs:=hs.trB a.ge p8
   replace a:=q
   refine ot (crt (zc (zg (zc ?_))))
   have hx:=b2 _ (sj d).symm
   subst hx
   replace d:=b1
   refine zv (zg (zc ?_))
   obtain rfl:=sj d
   refine rt [.tmp 4,.cell 5 103] [iv 1,.agg #[iv E.1.1,iv E.1.2]] ⟨rfl,⟨L,0,[iv E.1.1,iv E.1.2],rfl,rfl,kr,kr,(a.at.part 0 2).2⟩,trivial⟩ ?_
   exact ⟨hs,rfl,(iK 1),l8,l9⟩
  intro hc d
  refine ckt (cs (bE d fun N m1 d=>?_))
  obtain ⟨V,X,i5,i6,i7,q5,O,i8⟩:=(Y.step hs).idx m1
  obtain ⟨_,_,rfl,⟨_,_,rfl,⟨rfl,m2⟩,⟨rfl,m3⟩⟩,⟨rfl,t1⟩⟩:=i8
  replace O:PubAt j V (X+c.1.toNat*3) [iv N.1.1,iv N.1.2,iv N.2]:=O
  refine bE d fun d4 m4 d=>?_
  obtain ⟨c3,c4,i9,j1,j2,q6,P,j3⟩:=n.idx m4
  obtain ⟨rfl,m5⟩:=j3
  replace P:PubAt j c3 (c4+c.1.toNat*1) [iv d4]:=P
  refine bE d fun d5 m6 d=>?_
  refine zsj 11 (Step []) (Step []) (fun _=>Step.refl _ _) (fun _ _ _=>Step.trans) (fun _ _ _=>Step.trans) (fun _ _=>Step.nil) 11 [52,53,54,55,56,57,58,59,60,61,13] [(fun v g=>v=vl S p1 z),(fun v g=>v=iv c.1),(fun v g=>v=pt V (X+c.1.toNat*3)),(fun v g=>v=pt V (X+c.1.toNat*3)),(fun v g=>v=.agg #[iv N.1.1,iv N.1.2]),(fun v g=>v=vl a0 M U),(fun v g=>v=iv c.1),(fun v g=>v=pt c3 (c4+c.1.toNat*1)),(fun v g=>v=iv d4),(fun v g=>∃ (w:OA) (y:Nat),v=.agg #[vl w d5 y]∧Sl tPlaced g w y d5),(fun v g=>∃ (G:Nat),v=pt G 0∧Box (C.H.size,66003) g G [sl none 0 0] 46)] kr kr kr kr (ltS 10 (ltS 9 (ltS 8 (ltS 7 (ltS 6 (ltS 5 (ltS 4 (ltS 3 (ltS 2 (ltS 1 (ltS 0 lt0 ?_) ?_) ?_) ?_) ?_) ?_) ?_) ?_) ?_) ?_) ?_) (ltS 10 (ltS 9 (ltS 8 (ltS 7 (ltS 6 (ltS 5 (ltS 4 (ltS 3 (ltS 2 (ltS 1 (ltS 0 lt0 ?_) ?_) ?_) ?_) ?_) ?_) ?_) ?_) ?_) ?_) ?_) ?_
  ·exact fun v A B _ h=>h
  ·exact fun v A B _ h=>h
  ·exact fun v A B _ h=>h
  ·exact fun v A B _ h=>h
  ·exact fun v A B _ h=>h
  ·exact fun v A B _ h=>h
  ·exact fun v A B _ h=>h
  ·exact fun v A B _ h=>h
  ·exact fun v A B _ h=>h
  ·intro v A B s h;replace s:Step [] A B:=s;obtain ⟨w,y,e,H⟩:=h;exact ⟨w,y,e,H.step s⟩
  ·intro v A B s h;replace s:Step [] A B:=s;obtain ⟨G,e,i⟩:=h;exact ⟨G,e,i.step0 s⟩
  ·intro p κd hst off dp
   replace hst:Step [] j κd:=hst
   change OpQ _ (Step []) _ _ _ _ _
   have e1:=(off 1 kr).trans (show _=vl S p1 z by kernel_rfl)
   refine zbT (za (t:=1) rfl e1) ?_
   exact zgV rrS (vl S p1 z) kr (fun _ _=>kr) rfl
  ·intro p κd hst off dp
   replace hst:Step [] j κd:=hst
   change OpQ _ (Step []) _ _ _ _ _
   have c6:=(off 12 kr).trans (show _=iv c.1 by kernel_rfl)
   refine zbT (za (t:=12) rfl c6) ?_
   exact zgV rrS (iv c.1) kr (fun _ _=>kr) rfl
  ·intro p κd hst off dp
   replace hst:Step [] j κd:=hst
   change OpQ _ (Step []) _ _ _ _ _
   obtain f0:=dp 0 kr kr
   replace f0:p 52=vl S p1 z:=f0
   obtain f1:=dp 1 kr kr
   replace f1:p 53=iv c.1:=f1
   refine zbT (za (t:=53) (za (t:=52) rfl f0) f1) ?_
   exact zr2 (b:=V) (off:=X) (T:=49) (el:=110) (sz:=3) (ln:=p1.length) (cp:=z) (k:=.i64) (ix:=c.1) rrS i5 kr kr kr kr i6 i7 rfl
  ·intro p κd hst off dp
   replace hst:Step [] j κd:=hst
   change OpQ _ (Step []) _ _ _ _ _
   obtain f2:=dp 2 kr kr
   replace f2:p 54=pt V (X+c.1.toNat*3):=f2
   refine zbT (za (t:=54) rfl f2) ?_
   exact zgV rrS (pt V (X+c.1.toNat*3)) kr (fun _ _=>kr) rfl
  ·intro p κd hst off dp
   replace hst:Step [] j κd:=hst
   change OpQ _ (Step []) _ _ _ _ _
   obtain f4:=dp 3 kr kr
   replace f4:p 55=pt V (X+c.1.toNat*3):=f4
   refine zbT (za (t:=55) rfl f4) ?_
   have O:=O.step hst
   exact zvp (b:=V) (off:=X+c.1.toNat*3) (T:=103) (cs:=[iv N.1.1,iv N.1.2]) rrS kr kr kr kr (O.at.part 0 2).2 rfl
  ·intro p κd hst off dp
   replace hst:Step [] j κd:=hst
   change OpQ _ (Step []) _ _ _ _ _
   have e8:=(off 8 kr).trans (show _=vl a0 M U by kernel_rfl)
   refine zbT (za (t:=8) rfl e8) ?_
   exact zgV rrS (vl a0 M U) kr (fun _ _=>kr) rfl
  ·intro p κd hst off dp
   replace hst:Step [] j κd:=hst
   change OpQ _ (Step []) _ _ _ _ _
   have c6:=(off 12 kr).trans (show _=iv c.1 by kernel_rfl)
   refine zbT (za (t:=12) rfl c6) ?_
   exact zgV rrS (iv c.1) kr (fun _ _=>kr) rfl
  ·intro p κd hst off dp
   replace hst:Step [] j κd:=hst
   change OpQ _ (Step []) _ _ _ _ _
   obtain f5:=dp 5 kr kr
   replace f5:p 57=vl a0 M U:=f5
   obtain f7:=dp 6 kr kr
   replace f7:p 58=iv c.1:=f7
   refine zbT (za (t:=58) (za (t:=57) rfl f5) f7) ?_
   exact zr2 (b:=c3) (off:=c4) (T:=32) (el:=2) (sz:=1) (ln:=M.length) (cp:=U) (k:=.i64) (ix:=c.1) rrS i9 kr kr kr kr j1 j2 rfl
  ·intro p κd hst off dp
   replace hst:Step [] j κd:=hst
   change OpQ _ (Step []) _ _ _ _ _
   obtain f8:=dp 7 kr kr
   replace f8:p 59=pt c3 (c4+c.1.toNat*1):=f8
   refine zbT (za (t:=59) rfl f8) ?_
   have P:=P.step hst
   exact zpG (b:=c3) (off:=c4+c.1.toNat*1) (T:=2) (v:=iv d4) rrS kr kr kr (P.at.one (o:=0) rfl) rfl
  ·intro p κd hst off dp
   replace hst:Step [] j κd:=hst
   change OpQ _ (Step []) _ _ _ _ _
   have e9:=(off 9 kr).trans (show _=pt a8 0 by kernel_rfl)
   obtain g0:=dp 4 kr kr
   replace g0:p 56=.agg #[iv N.1.1,iv N.1.2]:=g0
   obtain g1:=dp 8 kr kr
   replace g1:p 60=iv d4:=g1
   refine zbT (za (t:=60) (za (t:=56) (za (t:=9) rfl e9) g0) g1) ?_
   have f:=f.step0 hst
   have l:=l.step hst
   exact zrF rrS kr (fun _=>kr) ((zn1 (f.at.part 0 1) l m2 m3 m5 m6).mono fun v _ hp=>by obtain ⟨hk,w,y,hv,H⟩:=hp;exact ⟨hk,w,y,hv,H⟩)
  ·intro p κd hst off dp
   replace hst:Step [] j κd:=hst
   change OpQ _ (Step []) _ _ _ _ _
   refine zbT rfl ?_
   exact zpH (T:=46) (C.H.size,66003) (ga hs.1 hst.1) [sl none 0 0] kr kr kr fun G q7 n0 i=>⟨n0,G,rfl,i⟩
  intro p q8 hst off dn
  have e0:=(off 0 kr).trans (show _=pt b5 b6 by kernel_rfl)
  have e1:=(off 1 kr).trans (show _=vl S p1 z by kernel_rfl)
  have e5:=(off 5 kr).trans (show _=pt L 0 by kernel_rfl)
  have e7:=(off 7 kr).trans (show _=vl d8 b7.2 c9 by kernel_rfl)
  have e8:=(off 8 kr).trans (show _=vl a0 M U by kernel_rfl)
  have e9:=(off 9 kr).trans (show _=pt a8 0 by kernel_rfl)
  have c6:=(off 12 kr).trans (show _=iv c.1 by kernel_rfl)
  obtain ⟨G,g2,i⟩:=dn 10 kr
  replace g2:p 13=pt G 0:=g2
  obtain ⟨w,y,g3,H⟩:=dn 9 kr
  replace g3:p 61=.agg #[vl w d5 y]:=g3
  refine zam (za (t:=61) (za (t:=13) (za (t:=12) (za (t:=9) (za (t:=8) (za (t:=7) (za (t:=5) (za (t:=1) (za (t:=0) rfl e0) e1) e5) e7) e8) e9) c6) g2) g3) ?_
  replace hs:=hs.tr0 hst
  replace m:=m.step hst
  replace n:=n.step hst
  replace l:=l.step hst
  replace a:=a.step0 hst
  replace f:=f.step0 hst
  refine xM 46 [vl w d5 y] i fun j4 I _ d7=>?_
  replace hs:=hs.trB i.ge I
  replace m:=m.step I
  replace n:=n.step I
  replace l:=l.step I
  replace H:=H.step I
  replace a:=a.step I (nm1 (a.ne i (zl kr)))
  replace f:=f.step I (nm1 (f.ne i (zl kr)))
  replace i:=d7
  refine ot (cs (cd 12 (dd 5 (bE d fun a3 j5 d=>?_))))
  obtain ⟨n1,n2,g4,g5,g6,p9,a5,g7⟩:=(Y.step hs).idx j5
  obtain ⟨_,_,rfl,⟨_,_,rfl,⟨rfl,j6⟩,⟨rfl,j7⟩⟩,⟨rfl,q9⟩⟩:=g7
  replace a5:PubAt j4 n1 (n2+c.1.toNat*3) [iv a3.1.1,iv a3.1.2,iv a3.2]:=a5
  refine di 67 49 110 3 p1.length z .i64 c.1 g4 g5 g6 (dd 1 (dN 69 103 [iv a3.1.1,iv a3.1.2] (a5.at.part 0 2).2 (dd 3 (d1 73 2 (iv p0.2.2) ((m0.step0 hs).one (o:=3) rfl) (de (bE d fun t5 j8 d=>ocl 74 (znX ((m0.step0 hs).part 0 2) (f3.step hs) (f6.step hs) (i.at.part 0 1) H j6 j7 a9 j8) ?_))))))
  rintro _ j9 ⟨R,t6,t7,rfl,t8⟩
  replace hs:=hs.tr0 R
  replace m:=m.step R
  replace n:=n.step R
  replace l:=l.step R
  replace a:=a.step0 R
  replace f:=f.step0 R
  refine od 1 (otx (dT 3 ?_))
  refine cc _ d ?_ ?_
  ·intro hc d
   refine cs (cd 6 (dd 2 (bE d fun u k0 d=>?_)))
   obtain ⟨n3,n4,g8,g9,h0,q0,a6,h1⟩:=(Y.step hs).idx k0
   obtain ⟨_,_,rfl,⟨_,_,rfl,⟨rfl,k1⟩,⟨rfl,k2⟩⟩,⟨rfl,r0⟩⟩:=h1
   replace a6:PubAt j9 n3 (n4+c.1.toNat*3) [iv u.1.1,iv u.1.2,iv u.2]:=a6
   refine di 80 49 110 3 p1.length z .i64 c.1 g8 g9 h0 (dd 1 (dN 82 103 [iv u.1.1,iv u.1.2] (a6.at.part 0 2).2 (dd 1 (de (xM 103 [iv u.1.1,iv u.1.2] a fun r1 n5 _ q=>?_)))))
   replace hs:=hs.trB a.ge n5
   replace a:=q
   refine ot (crt (zg (zc ?_)))
   have hx:=b2 _ (sj d).symm
   subst hx
   replace d:=b1
   refine zv (zg (zc ?_))
   obtain rfl:=sj d
   refine rt [.tmp 4,.cell 5 103] [iv 2,.agg #[iv u.1.1,iv u.1.2]] ⟨rfl,⟨L,0,[iv u.1.1,iv u.1.2],rfl,rfl,kr,kr,(a.at.part 0 2).2⟩,trivial⟩ ?_
   exact ⟨hs,rfl,(iK 2),k1,k2⟩
  intro hc d
  refine ck (zd (zb (cr (od 3 (oe ?_)))))
  exact ze (sj d).symm ⟨⟨_,eY⟩,hs,(zr _),e4,e6,m,n,l,a,f⟩
 intro hc d
 refine cx 0 (zh ?_)
 have hx:=b2 _ (sj d).symm
 subst hx
 replace d:=b1
 refine zi ?_
 exact zq eY (J1 c.2.1 c.2.2  _ _ hs e4 e6 l a f d)
theorem znC {f:K} {p0:TS×(LP)×Int} {q s:Nat} {X Y a7 t u J:OA} {c2 c5 c8 m n L:Nat} {p1:LP} {g:LP} {p3:LP} {M N:Nat} (m0:At f q s [vl X p0.1.1 c2,vl Y p0.1.2 c5,vl a7 p0.2.1 c8,iv p0.2.2]) (f3:Sl tGlue f X c2 p0.1.1) (f6:Sl tTile f Y c5 p0.1.2) (f9:Sl tPlaced f a7 c8 p0.2.1) (w:I64 p0.2.2) (O:Sl tPlaced f t m p1) (P:Sl tPlaced f u n g) (m3:At f M N [vl J p3 L]) (b7:Sl tPlaced f J L p3) {r:Bool} (a:zfQ p0 p1 g p3=some r) :
 Fn Tryz.prog 67 #[pt q s,vl t p1 m,vl u g n,pt M N] f (fun v b8=>Step [] f b8∧v=.bool r):=by
 refine fnc 66 [] Tryz.func67 Tryz.ntmps67 fun hs=>cT 1 (cs ?_)
 refine zn (fun Z=>∀ (x:Bool) (E0:Env) (k:K),Step [] f k→zb3 p0 p1 g x=some r→cwp Tryz.prog 66 (sub (zB Tryz.f67) [1,0,1]) Z (ups E0 [(0,pt q s),(1,vl t p1 m),(2,vl u g n),(28,.bool x)]) k) ?_ fun J1=>?_
 ·intro x E0 k hs a
  refine cc _ a ?_ ?_
  ·intro hc a
   refine cT 1 (crt (zc ?_))
   obtain rfl:=sj a
   exact rT 8 ff ⟨hs,rfl⟩
  intro hc a
  refine ckt (cO 2 (oN 32 48 [vl X p0.1.1 c2,vl Y p0.1.2 c5,vl a7 p0.2.1 c8,iv p0.2.2] ((m0.step0 hs).part 0 4).2 (od 1 (bE a fun Q a8 a=>ocl 34 (zi9 (f3.step hs) (f6.step hs) (f9.step hs) w (P.step hs) a8) ?_))))
  rintro _ d9 ⟨c0,c1,c3,rfl,p,e0,e1⟩
  replace hs:=hs.tr0 c0
  refine od 4 (xT 9 46 (f.H.size,67001) hs.1 [sl none 0 0] fun f4 e2 R h=>?_)
  replace hs:=hs.tr0 R
  replace p:=p.step R
  refine xM 46 [vl c1 Q.1 c3] h fun a9 S _ y=>?_
  replace hs:=hs.trB h.ge S
  replace p:=p.step S
  replace h:=y
  refine od 2 (otx (od 4 (bE a fun c b0 a=>?_)))
  obtain ⟨c4,c6,B,C,D,d5,i,E⟩:=(O.step hs).idx b0
  obtain ⟨_,_,rfl,⟨_,_,rfl,⟨rfl,e3⟩,⟨rfl,e4⟩⟩,⟨rfl,e5⟩⟩:=E
  replace i:PubAt a9 c4 (c6+(w64 ((p1.length:Int) - 1)).toNat*3) [iv c.1.1,iv c.1.2,iv c.2]:=i
  refine oi 42 49 110 3 p1.length m .i64 (w64 ((p1.length:Int) - 1)) B C D (oN 43 110 [iv c.1.1,iv c.1.2,iv c.2] (i.at.part 0 3).2 (xT 12 110 (f.H.size,67002) hs.1 [iv 0,iv 0,iv 0] fun f5 e6 c7 b=>?_))
  replace hs:=hs.tr0 c7
  refine xM 110 [iv c.1.1,iv c.1.2,iv c.2] b fun b1 c9 _ z=>?_
  replace hs:=hs.trB b.ge c9
  replace b:=z
  refine otx (od 4 (bE a fun d b2 a=>?_))
  obtain ⟨d0,d2,F,G,H,d6,j,I⟩:=(P.step hs).idx b2
  obtain ⟨_,_,rfl,⟨_,_,rfl,⟨rfl,e7⟩,⟨rfl,e8⟩⟩,⟨rfl,e9⟩⟩:=I
  replace j:PubAt b1 d0 (d2+(w64 ((g.length:Int) - 1)).toNat*3) [iv d.1.1,iv d.1.2,iv d.2]:=j
  refine oi 48 49 110 3 g.length n .i64 (w64 ((g.length:Int) - 1)) F G H (oN 49 110 [iv d.1.1,iv d.1.2,iv d.2] (j.at.part 0 3).2 (xT 13 110 (f.H.size,67003) hs.1 [iv 0,iv 0,iv 0] fun f7 f0 U e=>?_))
  replace hs:=hs.tr0 U
  replace b:=b.step0 U
  refine xM 110 [iv d.1.1,iv d.1.2,iv d.2] e fun f1 V _ A=>?_
  replace hs:=hs.trB e.ge V
  replace b:=b.step V (nm1 (b.ne e (zl kr)))
  replace e:=A
  refine otx (od 2 ?_)
  refine osp 52 (decide (Q.2.2=0)) a ?_ ?_
  ·intro l a
   refine oz [53,54,55,56,57] (od 2 (oz [60,61,62,63,64] (dT 2 (crt ?_))))
   obtain rfl:=sj a
   exact rT 8 ff ⟨hs,rfl⟩
  intro l a
  refine od 1 (oN 54 103 [iv c.1.1,iv c.1.2] (b.at.part 0 2).2 (od 1 (oN 56 103 [iv d.1.1,iv d.1.2] (e.at.part 0 2).2 (oq 57 (.bool (decide (c.1.1=d.1.1)&&decide (c.1.2=d.1.2))) (fun _=>zfA (T:=103) (k1:=.i64) (k2:=.i64) kr kr) (od 1 ?_)))))
  refine osp 59 ((decide (c.1.1=d.1.1)&&decide (c.1.2=d.1.2))) a ?_ ?_
  ·intro l a
   refine oz [60,61,62,63,64] (dT 2 (crt ?_))
   obtain rfl:=sj a
   exact rT 8 ff ⟨hs,rfl⟩
  intro l a
  refine od 1 (o1 61 2 (iv c.2) (b.at.one (o:=2) rfl) (od 1 (o1 63 2 (iv d.2) (e.at.one (o:=2) rfl) (dT 3 (crt ?_)))))
  obtain rfl:=sj a
  exact rT 8 (.bool (!decide (c.2=d.2))) ⟨hs,rfl⟩
 refine cO 3 ?_
 refine osp 17 (decide ((p1.length:Int)=0)) a ?_ ?_
 ·intro l a
  refine od 4 ?_
  refine osp 22 (decide ((g.length:Int)=0)) a ?_ ?_
  ·intro l a
   refine od 3 (bE a fun d3 b3 a=>ocl 26 (zfO ((m0.step0 hs).part 0 4) f3 f6 f9 w O ((m3.step0 hs).part 0 1) b7 b3) ?_)
   rintro _ f2 ⟨d4,rfl⟩
   replace hs:=hs.tr0 d4
   refine dT 2 ?_
   exact zk eY (J1 (!d3)  _ _ hs  a)
  intro l a
  refine oz [23,24,25,26,27] (dT 1 ?_)
  exact zk eY (J1 true  _ _ hs  a)
 intro l a
 refine oz [18,19,20] (od 2 (oz [23,24,25,26,27] (dT 1 ?_)))
 exact zk eY (J1 true  _ _ hs  a)
theorem zpx {b:K} {p0:LG×LT} {e f:Nat} {k l m:OA} {c2 n p:Nat} {p1:LP} {g h:Nat} (q:At b e f [vl k p0.1 c2,vl l p0.2 n]) (s:Sl tGlue b k c2 p0.1) (f6:Sl tTile b l n p0.2) (m1:At b g h [vl m p1 p]) (B:Sl tPlaced b m p p1) {r:Int} (a:zeT p0 p1=some r) :
 Fn Tryz.prog 129 #[pt e f,pt g h] b (fun v t=>Step [] b t∧v=iv r∧I64 r):=by
 refine fnc 14 [] Tryz.func129 Tryz.ntmps129 fun hs=>cT 1 (cs ?_)
 refine zn (fun Z=>∀ (d:Bool) (u:Env) (c:K),Step [] b c→zir d=some r→cwp Tryz.prog 14 (sub (zB Tryz.f129) [1,0,1]) Z (ups u [(13,.bool d)]) c) ?_ fun w=>?_
 ·intro d u c hs a
  refine cc _ a ?_ ?_
  ·intro C a
   refine cT 1 (crt (zc ?_))
   obtain rfl:=sj a
   exact rT 4 (iv 1) ⟨hs,rfl,(iK 1)⟩
  intro C a
  refine ckt (cT 1 (crt ?_))
  obtain rfl:=sj a
  exact rT 4 (iv 0) ⟨hs,rfl,(iK 0)⟩
 refine cO 1 (bE a fun x i a=>ocl 6 (znY ((q.step0 hs).part 0 2) s f6 i) ?_)
 rintro _ D ⟨y,rfl⟩
 replace hs:=hs.tr0 y
 refine od 1 ?_
 refine osp 8 (!x) a ?_ ?_
 ·intro E a
  refine od 2 (bE a fun z j a=>ocl 11 (zli ((q.step0 hs).part 0 2) (s.step hs) (f6.step hs) ((m1.step0 hs).part 0 1) (B.step hs) j) ?_)
  rintro _ F ⟨A,rfl⟩
  replace hs:=hs.tr0 A
  refine dT 2 ?_
  exact zk eY (w (!z)  _ _ hs  a)
 intro E a
 refine oz [9,10,11,12] (dT 1 ?_)
 exact zk eY (w true  _ _ hs  a)
theorem zoJ {u:K} {p0:LG×LT} {a1 a4 a7 R:OA} {c2 c5 c8 A:Nat} {p1:LP} {i:Int} {w:Int} {I:LI} (f3:Sl tGlue u a1 c2 p0.1) (f6:Sl tTile u a4 c5 p0.2) (f9:Sl tPlaced u a7 c8 p1) (l5:I64 i) (l6:I64 w) (d8:Sl tI64 u R A I) {r:Int×Int} (a:zhK p0 p1 i w I=some r) :
 Fn Tryz.prog 99 #[.agg #[vl a1 p0.1 c2,vl a4 p0.2 c5],.agg #[vl a7 p1 c8],iv i,iv w,vl R I A] u (fun v L=>Step [] u L∧v=.tuple #[iv r.1,iv r.2]∧I64 r.1∧I64 r.2):=by
 refine fnc 126 [] Tryz.func99 Tryz.ntmps99 fun hs=>csr (xO 5 43 (u.H.size,99001) hs.1 [vl a1 p0.1 c2,vl a4 p0.2 c5] fun p8 u1 p9 s=>?_)
 replace hs:=hs.tr0 p9
 refine xO 6 46 (u.H.size,99002) hs.1 [vl a7 p1 c8] fun q0 u2 k5 g=>?_
 replace hs:=hs.tr0 k5
 replace s:=s.step0 k5
 refine od 2 (otx (bE a fun x23 l7 a=>ocl 18 (zpx (s.at.part 0 2) (f3.step hs) (f6.step hs) (g.at.part 0 1) (f9.step hs) l7) ?_))
 rintro _ l8 ⟨d9,rfl,l9⟩
 replace hs:=hs.tr0 d9
 replace s:=s.step0 d9
 replace g:=g.step0 d9
 refine dT 1 (cs (cT 2 ?_))
 refine cc _ a ?_ ?_
 ·intro E a
  refine cT 3 (crt (zc ?_))
  obtain rfl:=sj a
  refine rt [.tmp 10,.tmp 11] [iv 0,iv x23] ⟨kr,kr,trivial⟩ ?_
  exact ⟨hs,rfl,(iK 0),l9⟩
 intro E a
 refine ckt (cO 1 (o1 23 44 (vl a7 p1 c8) (g.at.one (o:=0) rfl) (dT 3 (cs ?_))))
 refine zn (fun Z=>∀ (e0:Bool) (n:Env),zdg p0 p1 i w I e0=some r→cwp Tryz.prog 126 (sub (zB Tryz.f99) [1,0,1,1,1,1]) Z (ups n [(2,iv i),(3,iv w),(4,vl R I A),(5,pt p8 0),(6,pt q0 0),(13,iv (w64 ((p1.length:Int) - 1))),(40,.bool e0)]) l8) ?_ fun J1=>?_
 ·intro e0 n a
  refine cc _ a ?_ ?_
  ·intro E a
   refine cT 2 (crt (zc ?_))
   obtain rfl:=sj a
   refine rt [.tmp 10,.tmp 11] [iv 0,iv 2] ⟨kr,kr,trivial⟩ ?_
   exact ⟨hs,rfl,(iK 0),(iK 2)⟩
  intro E a
  refine ckt (csr (bE a fun B m1 a=>ocl 41 (zin (s.at.part 0 2) (f3.step hs) (f6.step hs) (g.at.part 0 1) (f9.step hs) m1) ?_))
  rintro _ u3 ⟨k6,b8,G,rfl,h⟩
  replace hs:=hs.tr0 k6
  replace g:=g.step0 k6
  refine dT 1 (cs (cT 5 ?_))
  refine cc _ a ?_ ?_
  ·intro E a
   refine cT 2 (crt (zc ?_))
   obtain rfl:=sj a
   refine rt [.tmp 10,.tmp 11] [iv 0,iv 10] ⟨kr,kr,trivial⟩ ?_
   exact ⟨hs,rfl,(iK 0),(iK 10)⟩
  intro E a
  refine ckt (cO 1 (o1 48 44 (vl a7 p1 c8) (g.at.one (o:=0) rfl) (od 1 (bE a fun q1 m2 a=>zdl (d:=50) (T:=32) (e:=2) (t:=tI64) (pub:=false) (τ:=(u.H.size,99003)) (bytes:=8) (k1:=.i64) (k2:=.i64) (m:=(p1.length:Int)) (zs:=[iv 0]) (z:=0) kr kr kr kr ⟨rfl,(iK 0)⟩ m2 hs.1 fun w2 u4 k7 q2=>?_))))
  replace hs:=hs.tr0 k7
  replace h:=h.step k7
  refine dT 1 (cs (cT 1 (cb 0 ?_)))
  refine zj 0 (fun Z=>∀ (p:LI) (S:OA) (H:Nat) (n:Env) (j:K),Step [] u j→Gr tI64 false (u.H.size,99003) j 2 S H p→zhJ p1 i w p=some r→Z (ups n [(2,iv i),(3,iv w),(13,iv (w64 ((p1.length:Int) - 1))),(15,vl S p H)]) j) ?_ fun J2=>?_
  ·intro p S H n j hs k8 a
   refine zf (zb (cs (cT 1 (cb 2 ?_))))
   refine zj 2 (fun Z=>∀ (n:Env),zhI i p=some r→Z (ups n [(2,iv i),(15,vl S p H)]) j) ?_ fun J3=>?_
   ·intro n a
    refine zf (zb (cO 2 (bE a fun e1 m3 a=>?_)))
    obtain ⟨q3,g0,g1,g2,s3,U,g3⟩:=k8.idx m3
    obtain ⟨rfl,m4⟩:=g3
    replace U:At j q3 (0+i.toNat*1) [iv e1]:=U
    refine oi 124 32 2 1 p.length H .i64 i (off:=0) g0 g1 g2 (o1 125 2 (iv e1) (U.one (o:=0) rfl) (dT 2 (crt ?_)))
    obtain rfl:=sj a
    refine rt [.tmp 10,.tmp 11] [iv e1,iv 0] ⟨kr,kr,trivial⟩ ?_
    exact ⟨hs,rfl,m4,(iK 0)⟩
   refine bE a fun q4 m5 b9=>zp (F:=zbN p1 i w p) (J:=fun k E' L=>(∃ n,E'=ups n [(2,iv i),(3,iv w),(13,iv (w64 ((p1.length:Int) - 1))),(15,vl S p H),(17,iv k)])∧j=L∧I64 k) (s0:=0) (x:=q4) kr m5 ⟨⟨_,eY⟩,rfl,(iK 0)⟩ ?_
   rintro k _ _ ⟨⟨n,rfl⟩,rfl,u7⟩ g4 a c0
   refine cs (cT 3 ?_)
   refine cc _ a ?_ ?_
   ·intro E a
    refine ckt (cs (cb 3 ?_))
    refine zn (fun Z=>∀ (e2:Bool) (n:Env),zdf k e2=some g4→cwp Tryz.prog 126 (sub (zB Tryz.f99) [1,0,0,1,0,0,1,0,1,1,1,1,1,1,1,1,1]) Z (ups n [(2,iv i),(3,iv w),(13,iv (w64 ((p1.length:Int) - 1))),(15,vl S p H),(17,iv k),(121,.bool e2)]) j) ?_ fun J4=>?_
    ·intro e2 n a
     refine cc _ a ?_ ?_
     ·intro E a
      refine cT 2 (crt (zg (zc ?_)))
      have hx:=c0 _ (sj a).symm
      subst hx
      replace a:=b9
      refine zv (zg (zc ?_))
      obtain rfl:=sj a
      refine rt [.tmp 10,.tmp 11] [iv 0,iv 10] ⟨kr,kr,trivial⟩ ?_
      exact ⟨hs,rfl,(iK 0),(iK 10)⟩
     intro E a
     refine ck (zd (zb (cr (od 3 (oe ?_)))))
     exact ze (sj a).symm ⟨⟨_,eY⟩,rfl,(zr _)⟩
    refine cO 3 ?_
    refine osp 110 (!decide (k=i)) a ?_ ?_
    ·intro hg a
     refine oz [111,112,113] (od 2 (oz [116,117,118,119,120] (dT 1 ?_)))
     exact zk eY (J4 false  _  a)
    intro hg a
    refine od 4 ?_
    refine osp 115 (!decide (k=w)) a ?_ ?_
    ·intro hg a
     refine oz [116,117,118,119,120] (dT 1 ?_)
     exact zk eY (J4 false  _  a)
    intro hg a
    refine od 2 (bE a fun e3 m8 a=>?_)
    obtain ⟨q5,g5,g6,g7,s4,V,g8⟩:=k8.idx m8
    obtain ⟨rfl,u8⟩:=g8
    replace V:At j q5 (0+k.toNat*1) [iv e3]:=V
    refine oi 118 32 2 1 p.length H .i64 k (off:=0) g5 g6 g7 (o1 119 2 (iv e3) (V.one (o:=0) rfl) (dT 2 ?_))
    exact zk eY (J4 (!decide (e3=0))  _  a)
   intro E a
   refine cx 2 (zh ?_)
   have hx:=c0 _ (sj a).symm
   subst hx
   replace a:=b9
   refine zi ?_
   exact zq eY (J3   _  a)
  refine bE a fun q6 m9 c1=>zp (F:=zbO I B) (J:=fun c E' L=>∃ (a8:OA) (q:Nat),(∃ n,E'=ups n [(2,iv i),(3,iv w),(4,vl R I A),(13,iv (w64 ((p1.length:Int) - 1))),(14,vl b8 B G),(15,vl a8 c.1 q),(16,iv c.2)])∧Step [] u L∧Gr tI64 false (u.H.size,99003) L 2 a8 q c.1∧I64 c.2∧Sl zT L b8 G B) (s0:=(q1,0)) (x:=q6) kr m9 ⟨_,_,⟨_,eY⟩,hs,q2,(iK 0),h⟩ ?_
  rintro c _ y ⟨a8,q,⟨n,rfl⟩,hs,f,u9,h⟩ s5 a c3
  refine cs (cT 4 ?_)
  refine cc _ a ?_ ?_
  ·intro E a
   refine ckt (cs (cb 1 (cs (cs (cd 15 (dd 2 (bE a fun k9 n0 a=>?_)))))))
   obtain ⟨q7,q8,g9,h0,h1,s6,X,h2⟩:=(d8.step hs).idx n0
   obtain ⟨rfl,n1⟩:=h2
   replace X:PubAt y q7 (q8+c.2.toNat*1) [iv k9]:=X
   refine di 59 32 2 1 I.length A .i64 c.2 g9 h0 h1 (d1 60 2 (iv k9) (X.at.one (o:=0) rfl) (dd 2 (bE a fun c4 n2 a=>?_)))
   obtain ⟨q9,r0,h3,h4,h5,s7,Y,h6⟩:=h.idx n2
   obtain ⟨_,_,rfl,⟨rfl,v0⟩,⟨_,_,rfl,⟨rfl,v1⟩,⟨rfl,v2⟩⟩⟩:=h6
   replace Y:PubAt y q9 (r0+c.2.toNat*3) [iv c4.1,iv c4.2.1,iv c4.2.2]:=Y
   refine di 63 183 210 3 B.length G .i64 c.2 h3 h4 h5 (dd 1 (d1 65 2 (iv c4.2.2) (Y.at.one (o:=2) rfl) (dd 3 (bE a fun c6 n3 a=>?_))))
   obtain ⟨r1,r2,h7,h8,h9,s8,a0,i0⟩:=h.idx n3
   obtain ⟨_,_,rfl,⟨rfl,v3⟩,⟨_,_,rfl,⟨rfl,v4⟩,⟨rfl,n4⟩⟩⟩:=i0
   replace a0:PubAt y r1 (r2+c.2.toNat*3) [iv c6.1,iv c6.2.1,iv c6.2.2]:=a0
   refine di 69 183 210 3 B.length G .i64 c.2 h7 h8 h9 (dd 1 (d1 71 2 (iv c6.2.2) (a0.at.one (o:=2) rfl) (de (bE a fun w3 n5 a=>ocl 72 (zah n1 (zr _) n4 n5) ?_))))
   rintro _ _ ⟨rfl,rfl⟩
   refine dT 1 ?_
   refine cc _ a ?_ ?_
   ·intro E a
    refine cT 2 (crt (zc (zg (zc ?_))))
    have hx:=c3 _ (sj a).symm
    subst hx
    replace a:=c1
    refine zv (zg (zc ?_))
    obtain rfl:=sj a
    refine rt [.tmp 10,.tmp 11] [iv 0,iv 10] ⟨kr,kr,trivial⟩ ?_
    exact ⟨hs,rfl,(iK 0),(iK 10)⟩
   intro E a
   refine ckt (cs (cd 12 (dd 3 (bE a fun C n6 a=>?_))))
   obtain ⟨r3,r4,i1,i2,i3,s9,a2,i4⟩:=h.idx n6
   obtain ⟨_,_,rfl,⟨rfl,v5⟩,⟨_,_,rfl,⟨rfl,v6⟩,⟨rfl,v7⟩⟩⟩:=i4
   replace a2:PubAt y r3 (r4+c.2.toNat*3) [iv C.1,iv C.2.1,iv C.2.2]:=a2
   refine di 77 183 210 3 B.length G .i64 c.2 i1 i2 i3 (dd 1 (d1 79 2 (iv C.1) (a2.at.one (o:=0) rfl) (bE a fun a9 n7 a=>?_)))
   obtain ⟨r5,i5,i6,i7,t0,a3,i8⟩:=f.idx n7
   obtain ⟨rfl,v8⟩:=i8
   replace a3:At y r5 (0+C.1.toNat*1) [iv a9]:=a3
   refine di 80 32 2 1 c.1.length q .i64 C.1 (off:=0) i5 i6 i7 (d1 81 2 (iv a9) (a3.one (o:=0) rfl) (dd 2 (bE a fun b0 n8 a=>?_)))
   obtain ⟨r6,r7,i9,j1,j2,t1,a5,j3⟩:=(d8.step hs).idx n8
   obtain ⟨rfl,v9⟩:=j3
   replace a5:PubAt y r6 (r7+c.2.toNat*1) [iv b0]:=a5
   refine di 84 32 2 1 I.length A .i64 c.2 i9 j1 j2 (d1 85 2 (iv b0) (a5.at.one (o:=0) rfl) (de (od 1 (bE a fun r8 n9 a=>?_))))
   obtain ⟨l0,c7,c9,d0,t2,d2,j4⟩:=f.idx n9
   obtain ⟨rfl,w1⟩:=j4
   replace d2:At y l0 (0+C.1.toNat*1) [iv r8]:=d2
   refine oi 87 32 2 1 c.1.length q .i64 C.1 (off:=0) c7 c9 d0 (bE a fun d3 e4 a=>zau (T:=2) (t:=tI64) (τ:=(u.H.size,99003)) (e:=2) (ix:=C.1) (x':=w64 (a9+b0)) (b:=l0) (δ:=0) (cp:=q) (l:=c.1) (vs:=[iv (w64 (a9+b0))]) (iv (w64 (a9+b0))) kr kr c7 f c9 d0 kr kr kr kr (fun cs hx=>by obtain ⟨x,_,ho⟩:=hx;rw [zM ((tI64.len ho).trans kr)];exact ⟨rfl,(zr _)⟩) fun a6 l1 b6=>?_)
   replace hs:=hs.trG (f.own (fz _)) l1
   replace h:=h.step l1
   replace f:=b6
   replace f:=zcF e4 f
   have d5:=zL e4
   refine zam (eA 16 (v:=iv c.2) (za (t:=15) (v:=vl a8 d3 q) (eA 14 (v:=vl b8 B G) (eA 13 (v:=iv (w64 ((p1.length:Int) - 1))) (eA 4 (v:=vl R I A) (eA 3 (v:=iv w) (eA 2 (v:=iv i) rfl))))) (by unfold vl;rw [d5];kernel_rfl))) (ot (cd 12 (dd 3 (bE a fun D o0 a=>?_))))
   obtain ⟨o2,o3,e5,j5,j6,t3,M,j7⟩:=h.idx o0
   obtain ⟨_,_,rfl,⟨rfl,t4⟩,⟨_,_,rfl,⟨rfl,t5⟩,⟨rfl,t6⟩⟩⟩:=j7
   replace M:PubAt a6 o2 (o3+c.2.toNat*3) [iv D.1,iv D.2.1,iv D.2.2]:=M
   refine di 91 183 210 3 B.length G .i64 c.2 e5 j5 j6 (dd 1 (d1 93 2 (iv D.2.1) (M.at.one (o:=1) rfl) (bE a fun N j8 a=>?_)))
   obtain ⟨o4,e6,e7,e8,r9,O,e9⟩:=f.idx j8
   obtain ⟨rfl,t7⟩:=e9
   replace O:At a6 o4 (0+D.2.1.toNat*1) [iv N]:=O
   refine di 94 32 2 1 d3.length q .i64 D.2.1 (off:=0) e6 e7 e8 (d1 95 2 (iv N) (O.one (o:=0) rfl) (dd 2 (bE a fun P j9 a=>?_)))
   obtain ⟨o5,o6,f0,f1,f2,s1,Q,f4⟩:=(d8.step hs).idx j9
   obtain ⟨rfl,t8⟩:=f4
   replace Q:PubAt a6 o5 (o6+c.2.toNat*1) [iv P]:=Q
   refine di 98 32 2 1 I.length A .i64 c.2 f0 f1 f2 (d1 99 2 (iv P) (Q.at.one (o:=0) rfl) (de (od 1 (bE a fun o7 k0 a=>?_))))
   obtain ⟨f5,b1,b2,b3,s2,b4,f7⟩:=f.idx k0
   obtain ⟨rfl,t9⟩:=f7
   replace b4:At a6 f5 (0+D.2.1.toNat*1) [iv o7]:=b4
   refine oi 101 32 2 1 d3.length q .i64 D.2.1 (off:=0) b1 b2 b3 (bE a fun o8 d4 a=>zau (T:=2) (t:=tI64) (τ:=(u.H.size,99003)) (e:=2) (ix:=D.2.1) (x':=w64 (N - P)) (b:=f5) (δ:=0) (cp:=q) (l:=d3) (vs:=[iv (w64 (N - P))]) (iv (w64 (N - P))) kr kr b1 f b2 b3 kr kr kr kr (fun cs hx=>by obtain ⟨x,_,ho⟩:=hx;rw [zM ((tI64.len ho).trans kr)];exact ⟨rfl,(zr _)⟩) fun u0 f8 b6=>?_)
   replace hs:=hs.trG (f.own (fz _)) f8
   replace h:=h.step f8
   replace f:=b6
   replace f:=zcF d4 f
   have b7:=zL d4
   refine zam (eA 16 (v:=iv c.2) (za (t:=15) (v:=vl a8 o8 q) (eA 14 (v:=vl b8 B G) (eA 13 (v:=iv (w64 ((p1.length:Int) - 1))) (eA 4 (v:=vl R I A) (eA 3 (v:=iv w) (eA 2 (v:=iv i) rfl))))) (by unfold vl;rw [b7];kernel_rfl))) (oe (zd (zb (cr (od 3 (oe ?_))))))
   exact ze (sj a).symm ⟨_,_,⟨_,eY⟩,hs,f,(zr _),h⟩
  intro E a
  refine cx 0 (zh ?_)
  have hx:=c3 _ (sj a).symm
  subst hx
  replace a:=c1
  refine zi ?_
  exact zq eY (J2 c.1 _ _ _ _ hs f a)
 refine cO 2 (bE a fun o9 k3 a=>ocl 28 (zah l5 (iK 0) (zr _) k3) ?_)
 rintro _ _ ⟨rfl,rfl⟩
 refine od 1 ?_
 refine osp 30 (!o9) a ?_ ?_
 ·intro hg a
  refine od 2 (bE a fun p5 k4 a=>ocl 33 (zah l6 (iK 0) (zr _) k4) ?_)
  rintro _ _ ⟨rfl,rfl⟩
  refine od 2 ?_
  refine osp 36 (!p5) a ?_ ?_
  ·intro hg a
   refine dT 4 ?_
   exact zk eY (J1 (decide (i=w))  _  a)
  intro hg a
  refine oz [37,38,39] (dT 1 ?_)
  exact zk eY (J1 true  _  a)
 intro hg a
 refine oz [31,32,33,34] (od 2 (oz [37,38,39] (dT 1 ?_)))
 exact zk eY (J1 true  _  a)
theorem zpu {c:K} {p0:TS×(LP)×Int} {d e:Nat} {L M U p k:OA} {c2 N V q g:Nat} {p1:LP} {h i:Nat} {l:LM} (X:At c d e [vl L p0.1.1 c2,vl M p0.1.2 N,vl U p0.2.1 V,iv p0.2.2]) (f3:Sl tGlue c L c2 p0.1.1) (f6:Sl tTile c M N p0.1.2) (f9:Sl tPlaced c U V p0.2.1) (b0:I64 p0.2.2) (m1:At c h i [vl p p1 q]) (Y:Sl tPlaced c p q p1) (a0:Sl (tSl tI64) c k g l) {r:Bool} (a:ziO p0 p1 l=some r) :
 Fn Tryz.prog 68 #[pt d e,pt h i,vl k l g] c (fun v u=>Step [] c u∧v=.bool r):=by
 refine fnc 53 [] Tryz.func68 Tryz.ntmps68 fun hs=>cT 1 (cs (cO 5 (o1 15 44 (vl p p1 q) ((m1.step0 hs).one (o:=0) rfl) (od 2 (bE a fun b8 O a=>ocl 18 (zkf (iK 0) (zr _) O) ?_)))))
 rintro _ _ ⟨rfl,rfl,b1⟩
 refine dT 1 ?_
 refine cc _ a ?_ ?_
 ·intro w a
  refine cT 1 (crt (zc ?_))
  obtain rfl:=sj a
  exact rT 6 ff ⟨hs,rfl⟩
 intro w a
 refine ckt (cs (cT 1 (cb 0 ?_)))
 refine zj 0 (fun Z=>∀ (m:Env) (n:K),Step [] c n→zlN=some r→Z (m) n) ?_ fun J1=>?_
 ·intro m n hs a
  refine zf (zb (cT 1 (crt ?_)))
  obtain rfl:=sj a
  exact rT 6 tt ⟨hs,rfl⟩
 refine bE a fun x23 P s=>zp (F:=zcr p0 p1 l) (J:=fun b E' u=>(∃ m,E'=ups m [(0,pt d e),(1,pt h i),(2,vl k l g),(7,iv b)])∧Step [] c u∧I64 b) (s0:=0) (x:=x23) kr P ⟨⟨_,eY⟩,hs,(iK 0)⟩ ?_
 rintro b _ Q ⟨⟨m,rfl⟩,hs,b4⟩ z a t
 refine cs (cT 4 ?_)
 refine cc _ a ?_ ?_
 ·intro w a
  refine ckt (cs (cb 1 (cs (cx_ 18 [0,1,2,3,4,5,6,7,8,9,10,11,12,13,14,15,16,17] [13] 18 [] (xp 27 (pt d e) (xp 28 (pt d e) (xp 29 (pt d e) (xN 30 43 [vl L p0.1.1 c2,vl M p0.1.2 N] (X.step0 hs) 0 2 rfl (xp 31 (pt h i) (xp 32 (pt h i) (xN 33 46 [vl p p1 q] (m1.step0 hs) 0 1 rfl (xp 34 (iv b) (xp 35 (iv (w64 (b+1))) (xp 36 (vl k l g) (xp 37 (iv b) (bE a fun E R a=>?_))))))))))))))))
  obtain ⟨a2,a3,A,B,C,a8,j,D⟩:=(a0.step hs).idx R
  obtain ⟨G,H,rfl,a5⟩:=D
  replace j:PubAt Q a2 (a3+b.toNat*1) [vl G E H]:=j
  refine xi 38 33 32 1 l.length g .i64 b A B C (x1 39 32 (vl G E H) j.at 0 rfl (bE a fun f S a=>xcl 40 (zoJ (f3.step hs) (f6.step hs) (Y.step hs) (iK 0) (zr _) a5 S) ?_))
  rintro _ T ⟨I,rfl,b5,b6⟩
  refine ⟨I,?_⟩
  replace hs:=hs.tr0 I
  refine xp 26 (.tuple #[iv f.1,iv f.2]) (xp 41 (iv f.1) (xp 42 (iv f.2) (xp 8 (iv f.1) (xe (dT 1 ?_)))))
  refine zn (fun Z=>∀ (y:Bool) (m:Env),zfP b y=some z→cwp Tryz.prog 53 (sub (zB Tryz.f68) [1,1,0,0,1,0,0,1,0,1,1]) Z (ups m [(0,pt d e),(1,pt h i),(2,vl k l g),(7,iv b),(52,.bool y)]) T) ?_ fun J2=>?_
  ·intro y m a
   refine cc _ a ?_ ?_
   ·intro w a
    refine cT 1 (crt (zg (zc ?_)))
    have hx:=t _ (sj a).symm
    subst hx
    replace a:=s
    refine zv (zg (zc ?_))
    obtain rfl:=sj a
    exact rT 6 ff ⟨hs,rfl⟩
   intro w a
   refine ck (zd (zb (cr (od 3 (oe ?_)))))
   exact ze (sj a).symm ⟨⟨_,eY⟩,hs,(zr _)⟩
  refine cO 2 ?_
  refine osp 45 (!decide (f.2=0)) a ?_ ?_
  ·intro hg a
   refine od 4 (o1 50 2 (iv p0.2.2) ((X.step0 hs).one (o:=3) rfl) (dT 2 ?_))
   exact zk eY (J2 (decide (f.1<p0.2.2))  _  a)
  intro hg a
  refine oz [46,47,48,49,50,51] (dT 1 ?_)
  exact zk eY (J2 true  _  a)
 intro w a
 refine cx 0 (zh ?_)
 have hx:=t _ (sj a).symm
 subst hx
 replace a:=s
 refine zi ?_
 exact zq rfl (J1   _ _ hs  a)
theorem zpz {c:K} {p0:LI} {n:OA} {c2:Nat} {p1:Int} {h:Int} (G:Sl tI64 c n c2 p0) (T:I64 p1) (U:I64 h) {r:Bool} (a:zln p0 p1 h=some r) :
 Fn Tryz.prog 130 #[vl n p0 c2,iv p1,iv h] c (fun v i=>c=i∧v=.bool r):=by
 refine fnc 38 [] Tryz.func130 Tryz.ntmps130 fun hs=>cT 1 (cs (cT 1 (cb 0 ?_)))
 refine zj 0 (fun Z=>∀ (g:Env),zlP=some r→Z (g) c) ?_ fun J1=>?_
 ·intro g a
  refine zf (zb (cT 1 (crt ?_)))
  obtain rfl:=sj a
  exact rT 6 tt ⟨rfl,rfl⟩
 refine bE a fun x8 V j=>zp (F:=zaG p0 p1 h) (J:=fun b E' i=>(∃ g,E'=ups g [(0,vl n p0 c2),(1,iv p1),(2,iv h),(7,iv b)])∧c=i∧I64 b) (s0:=0) (x:=x8) kr V ⟨⟨_,eY⟩,rfl,(iK 0)⟩ ?_
 rintro b _ _ ⟨⟨g,rfl⟩,rfl,b4⟩ H a k
 refine cs (cT 4 ?_)
 refine cc _ a ?_ ?_
 ·intro I a
  refine ckt (cs (cb 1 ?_))
  refine zn (fun Z=>∀ (L:Bool) (g:Env),zct b L=some H→cwp Tryz.prog 38 (sub (zB Tryz.f130) [1,0,0,1,0,0,1,0,1]) Z (ups g [(0,vl n p0 c2),(1,iv p1),(2,iv h),(7,iv b),(37,.bool L)]) c) ?_ fun M=>?_
  ·intro L g a
   refine cc _ a ?_ ?_
   ·intro I a
    refine cT 1 (crt (zg (zc ?_)))
    have hx:=k _ (sj a).symm
    subst hx
    replace a:=j
    refine zv (zg (zc ?_))
    obtain rfl:=sj a
    exact rT 6 ff ⟨rfl,rfl⟩
   intro I a
   refine ck (zd (zb (cr (od 3 (oe ?_)))))
   exact ze (sj a).symm ⟨⟨_,eY⟩,rfl,(zr _)⟩
  refine cs (cd 21 (dd 2 (bE a fun E N a=>?_)))
  obtain ⟨X,Y,p,q,s,a6,d,t⟩:=G.idx N
  obtain ⟨rfl,O⟩:=t
  replace d:PubAt c X (Y+b.toNat*1) [iv E]:=d
  refine di 16 32 2 1 p0.length c2 .i64 b p q s (d1 17 2 (iv E) (d.at.one (o:=0) rfl) (dd 2 (bE a fun a0 P a=>dc0 20 (zah O T U P) (dd 1 ?_))))
  refine dsp 22 (!a0) a ?_ ?_
  ·intro Q a
   refine dd 2 ?_
   refine dsp 25 (decide (b>0)) a ?_ ?_
   ·intro Q a
    refine ds 26 (ds 27 (ds 28 (ds 29 (ds 30 (ds 31 (ds 32 (ds 33 (ds 34 (de (os 35 (dT 2 ?_)))))))))))
    exact zk eY (M false  _  a)
   intro Q a
   refine dd 3 (bE a fun l R a=>?_)
   obtain ⟨a2,a3,u,w,y,a7,e,z⟩:=G.idx R
   obtain ⟨rfl,b2⟩:=z
   replace e:PubAt c a2 (a3+(w64 (b - 1)).toNat*1) [iv l]:=e
   refine di 29 32 2 1 p0.length c2 .i64 (w64 (b - 1)) u w y (d1 30 2 (iv l) (e.at.one (o:=0) rfl) (dd 2 (bE a fun m S a=>?_)))
   obtain ⟨a4,a5,A,B,C,a8,f,D⟩:=G.idx S
   obtain ⟨rfl,b3⟩:=D
   replace f:PubAt c a4 (a5+b.toNat*1) [iv m]:=f
   refine di 33 32 2 1 p0.length c2 .i64 b A B C (d1 34 2 (iv m) (f.at.one (o:=0) rfl) (de (dT 3 ?_)))
   exact zk eY (M (decide (l≥m))  _  a)
  intro Q a
  refine ds 23 (ds 24 (ds 25 (ds 26 (ds 27 (ds 28 (ds 29 (ds 30 (ds 31 (ds 32 (ds 33 (ds 34 (de (oz [35,36] (dT 1 ?_))))))))))))))
  exact zk eY (M true  _  a)
 intro I a
 refine cx 0 (zh ?_)
 have hx:=k _ (sj a).symm
 subst hx
 replace a:=j
 refine zi ?_
 exact zq rfl (J1   _  a)
theorem zqf {a:K} {p0:LP} {b c:Nat} {d f:OA} {c2 g:Nat} {p1:LI} (j:At a b c [vl d p0 c2]) (l:Sl tPlaced a d c2 p0) (f6:Sl tI64 a f g p1) {r:Bool} (e:zjM p0 p1=some r) :
 Fn Tryz.prog 100 #[pt b c,vl f p1 g] a (fun v h=>a=h∧v=.bool r):=by
 refine fnc 13 [] Tryz.func100 Tryz.ntmps100 fun hs=>cO 1 (otx (od 4 (o1 9 44 (vl d p0 c2) ((j.step0 hs).one (o:=0) rfl) (od 2 (bE e fun k i e=>ocl 12 (zpz f6 (iK 0) (zr _) i) ?_)))))
 rintro _ _ ⟨rfl,rfl⟩
 refine dT 1 (crt ?_)
 obtain rfl:=sj e
 exact rT 4 (.bool k) ⟨rfl,rfl⟩
theorem zmX {d:K} {p0:LI} {i:OA} {c2:Nat} {p1:Int} (u:Sl tI64 d i c2 p0) (E:I64 p1) {r:Bool} (a:zi8 p0 p1=some r) :
 Fn Tryz.prog 131 #[vl i p0 c2,iv p1] d (fun v e=>d=e∧v=.bool r):=by
 refine fnc 18 [] Tryz.func131 Tryz.ntmps131 fun hs=>cT 1 (cs (cT 1 (cb 0 ?_)))
 refine zj 0 (fun Z=>∀ (f:Env),zkg=some r→Z (f) d) ?_ fun w=>?_
 ·intro f a
  refine zf (zb (cT 1 (crt ?_)))
  obtain rfl:=sj a
  exact rT 4 ff ⟨rfl,rfl⟩
 refine bE a fun y p g=>zp (F:=zhH p0 p1) (J:=fun b z e=>(∃ f,z=ups f [(0,vl i p0 c2),(1,iv p1),(5,iv b)])∧d=e∧I64 b) (s0:=0) (x:=y) kr p ⟨⟨_,eY⟩,rfl,(iK 0)⟩ ?_
 rintro b _ _ ⟨⟨f,rfl⟩,rfl,G⟩ A a h
 refine cs (cT 4 ?_)
 refine cc _ a ?_ ?_
 ·intro j a
  refine ckt (cs (cb 1 (cO 2 (bE a fun q s a=>?_))))
  obtain ⟨B,t,k,l,m,C,c,n⟩:=u.idx s
  obtain ⟨rfl,D⟩:=n
  replace c:PubAt d B (t+b.toNat*1) [iv q]:=c
  refine oi 14 32 2 1 p0.length c2 .i64 b k l m (o1 15 2 (iv q) (c.at.one (o:=0) rfl) (dT 2 ?_))
  refine cc _ a ?_ ?_
  ·intro j a
   refine cT 1 (crt (zg (zc ?_)))
   have hx:=h _ (sj a).symm
   subst hx
   replace a:=g
   refine zv (zg (zc ?_))
   obtain rfl:=sj a
   exact rT 4 tt ⟨rfl,rfl⟩
  intro j a
  refine ck (zd (zb (cr (od 3 (oe ?_)))))
  exact ze (sj a).symm ⟨⟨_,eY⟩,rfl,(zr _)⟩
 intro j a
 refine cx 0 (zh ?_)
 have hx:=h _ (sj a).symm
 subst hx
 replace a:=g
 refine zi ?_
 exact zq rfl (w   _  a)
theorem zqX {d:K} {p0:LB} {p q:OA} {c2 s:Nat} {p1:LI} (P:Sl zT d p c2 p0) (f6:Sl tI64 d q s p1) {r:Int} (b:zkV p0 p1=some r) :
 Fn Tryz.prog 101 #[vl p p0 c2,vl q p1 s] d (fun v m=>d=m∧v=iv r∧I64 r):=by
 refine fnc 36 [] Tryz.func101 Tryz.ntmps101 fun hs=>cO 1 (otx (dT 1 (cs (cT 1 (cb 0 ?_)))))
 refine zj 0 (fun Z=>∀ (h:Int) (i:Env),I64 h→zmT h=some r→Z (ups i [(5,iv h)]) d) ?_ fun J1=>?_
 ·intro h i Q b
  refine zf (zb (cT 2 (crt ?_)))
  obtain rfl:=sj b
  exact rT 4 (iv h) ⟨rfl,rfl,Q⟩
 refine bE b fun a2 R t=>zp (F:=zdS p0 p1) (J:=fun a E' m=>(∃ i,E'=ups i [(0,vl p p0 c2),(1,vl q p1 s),(5,iv a.1),(6,iv a.2)])∧d=m∧I64 a.1∧I64 a.2) (s0:=(0,0)) (x:=a2) kr R ⟨⟨_,eY⟩,rfl,(iK 0),(iK 0)⟩ ?_
 rintro a _ _ ⟨⟨i,rfl⟩,rfl,O,b8⟩ u b w
 refine cs (cT 4 ?_)
 refine cc _ b ?_ ?_
 ·intro S b
  refine ckt ?_
  refine zn (fun Z=>∀ (k:Int) (i:Env),I64 k→zhF a k=some u→cwp Tryz.prog 36 (sub (zB Tryz.f101) [1,1,0,0,1,0,1,1]) Z (ups i [(0,vl p p0 c2),(1,vl q p1 s),(5,iv k),(6,iv a.2)]) d) ?_ fun J2=>?_
  ·intro k i T b
   refine cr (od 3 (oe ?_))
   exact ze (sj b).symm ⟨⟨_,eY⟩,rfl,T,(zr _)⟩
  refine cs (cb 1 (cs (cd 13 (dd 3 (bE b fun l U b=>?_)))))
  obtain ⟨a5,a6,y,z,A,b2,e,B⟩:=P.idx U
  obtain ⟨_,_,rfl,⟨rfl,V⟩,⟨_,_,rfl,⟨rfl,b9⟩,⟨rfl,c0⟩⟩⟩:=B
  replace e:PubAt d a5 (a6+a.2.toNat*3) [iv l.1,iv l.2.1,iv l.2.2]:=e
  refine di 16 183 210 3 p0.length c2 .i64 a.2 y z A (dd 1 (d1 18 2 (iv l.1) (e.at.one (o:=0) rfl) (bE b fun x23 X b=>dc0 19 (zmX f6 V X) (dd 3 (bE b fun c n b=>?_)))))
  obtain ⟨a7,a8,C,D,E,b3,f,G⟩:=P.idx n
  obtain ⟨_,_,rfl,⟨rfl,c1⟩,⟨_,_,rfl,⟨rfl,Y⟩,⟨rfl,c3⟩⟩⟩:=G
  replace f:PubAt d a7 (a8+a.2.toNat*3) [iv c.1,iv c.2.1,iv c.2.2]:=f
  refine di 23 183 210 3 p0.length c2 .i64 a.2 C D E (dd 1 (d1 25 2 (iv c.2.1) (f.at.one (o:=1) rfl) (de (bE b fun c8 a0 b=>ocl 26 (zmX f6 Y a0) ?_))))
  rintro _ _ ⟨rfl,rfl⟩
  refine dT 1 ?_
  refine cc _ b ?_ ?_
  ·intro S b
   refine cr (od 3 (bE b fun a9 j b=>?_))
   have H:c=a9:=sj (n.symm.trans j);subst H
   have b4:=j
   obtain ⟨b0,b1,I,L,M,b5,g,N⟩:=P.idx j
   obtain ⟨_,_,rfl,⟨rfl,c4⟩,⟨_,_,rfl,⟨rfl,c6⟩,⟨rfl,c7⟩⟩⟩:=N
   replace g:PubAt d b0 (b1+a.2.toNat*3) [iv c.1,iv c.2.1,iv c.2.2]:=g
   refine oi 31 183 210 3 p0.length c2 .i64 a.2 I L M (od 1 (o1 33 2 (iv c.2.2) (g.at.one (o:=2) rfl) (od 2 (oe (zd (zb ?_))))))
   exact zk eY (J2 (w64 (a.1+c.2.2))  _ (zr _) b)
  intro S b
  refine ck (zd (zb ?_))
  exact zk eY (J2 a.1  _ O b)
 intro S b
 refine cx 0 (zh ?_)
 have hx:=w _ (sj b).symm
 subst hx
 replace b:=t
 refine zi ?_
 exact zq eY (J1 a.1  _ O b)
theorem zqU {d:K} {p0:TS×(LP)×Int} {b c:Nat} {x y z j f:OA} {c2 A B k g:Nat} {p1:LP} {h i:Nat} {e:LI} (C:At d b c [vl x p0.1.1 c2,vl y p0.1.2 A,vl z p0.2.1 B,iv p0.2.2]) (I:Sl tGlue d x c2 p0.1.1) (f6:Sl tTile d y A p0.1.2) (R:Sl tPlaced d z B p0.2.1) (J:I64 p0.2.2) (m1:At d h i [vl j p1 k]) (m:Sl tPlaced d j k p1) (n:Sl tI64 d f g e) {r:Bool} (a:zkP p0 p1 e=some r) :
 Fn Tryz.prog 69 #[pt b c,pt h i,vl f e g] d (fun v D=>Step [] d D∧v=.bool r):=by
 refine fnc 38 [] Tryz.func69 Tryz.ntmps69 fun hs=>cT 1 (cs ?_)
 refine zn (fun Z=>∀ (l:Bool) (E:Env),zfq p0 p1 e l=some r→cwp Tryz.prog 38 (sub (zB Tryz.f69) [1,0,1]) Z (ups E [(0,pt b c),(1,pt h i),(2,vl f e g),(25,.bool l)]) d) ?_ fun q=>?_
 ·intro l E a
  refine cc _ a ?_ ?_
  ·intro L a
   refine cT 1 (crt (zc ?_))
   obtain rfl:=sj a
   exact rT 6 ff ⟨hs,rfl⟩
  intro L a
  refine ckt (cs (cx_ 11 [0,1,2,3,5,7,8,9,10,4,6] [4,6] 11 [] (xp 26 (pt b c) (xp 27 (pt b c) (xp 28 (pt b c) (xp 29 (pt h i) (xp 31 (vl f e g) (xp 33 (pt b c) (xp 34 (pt b c) (xp 35 (pt b (c+3)) (x1 36 2 (iv p0.2.2) (C.step0 hs) 3 rfl (bE a fun O s a=>xcl 30 (zin ((C.step0 hs).part 0 2) I f6 ((m1.step0 hs).part 0 1) m s) ?_))))))))))))
  rintro _ M ⟨p,P,Q,rfl,F⟩
  refine ⟨p,?_⟩
  replace hs:=hs.tr0 p
  refine bE a fun G t a=>xcl 32 (zqX F (n.step hs) t) ?_
  rintro _ _ ⟨rfl,rfl,N⟩
  refine ⟨Step.refl _ _,?_⟩
  refine xe (dT 2 (crt ?_))
  obtain rfl:=sj a
  exact rT 6 (bW (G<p0.2.2)) ⟨hs,rfl⟩
 refine cO 2 (bE a fun H u a=>ocl 9 (zqf ((m1.step0 hs).part 0 1) m n u) ?_)
 rintro _ _ ⟨rfl,rfl⟩
 refine od 1 ?_
 refine osp 11 (!H) a ?_ ?_
 ·intro w a
  refine od 4 ?_
  refine osp 16 (decide ((e.length:Int)=0)) a ?_ ?_
  ·intro w a
   refine od 5 (o1 22 44 (vl j p1 k) ((m1.step0 hs).one (o:=0) rfl) (dT 3 ?_))
   exact zk eY (q (decide ((e.length:Int)=(p1.length:Int)))  _  a)
  intro w a
  refine oz [17,18,19,20,21,22,23,24] (dT 1 ?_)
  exact zk eY (q true  _  a)
 intro w a
 refine oz [12,13,14] (od 2 (oz [17,18,19,20,21,22,23,24] (dT 1 ?_)))
 exact zk eY (q true  _  a)
theorem zpt {d:K} {p0:TS×(LP)×Int} {z A:Nat} {Q R S B e p q s:OA} {c2 T U C f t u w:Nat} {p1:LP} {D E:Nat} {b:Int×LP×LP×LI×LM} {F G:Nat} (k:At d z A [vl Q p0.1.1 c2,vl R p0.1.2 T,vl S p0.2.1 U,iv p0.2.2]) (l:Sl tGlue d Q c2 p0.1.1) (f6:Sl tTile d R T p0.1.2) (m:Sl tPlaced d S U p0.2.1) (c:I64 p0.2.2) (m1:At d D E [vl B p1 C]) (g:Sl tPlaced d B C p1) (i:At d F G [iv b.1,vl e b.2.1 f,vl p b.2.2.1 t,vl q b.2.2.2.1 u,vl s b.2.2.2.2 w]) (b9:I64 b.1) (n:Sl tPlaced d e f b.2.1) (V:Sl tPlaced d p t b.2.2.1) (X:Sl tI64 d q u b.2.2.2.1) (Y:Sl (tSl tI64) d s w b.2.2.2.2) {r:Bool} (a:ziN p0 p1 b=some r) :
 Fn Tryz.prog 48 #[pt z A,pt D E,pt F G] d (fun v Z=>Step [] d Z∧v=.bool r):=by
 refine fnc 88 [] Tryz.func48 Tryz.ntmps48 fun hs=>cT 1 (cs (cO 3 (o1 12 2 (iv b.1) ((i.step0 hs).one (o:=0) rfl) (ot (cb 0 (cT 2 ?_))))))
 refine cc _ a ?_ ?_
 ·intro h a
  refine cO 4 (o1 19 49 (vl e b.2.1 f) ((i.step0 hs).one (o:=1) rfl) (od 1 (bE a fun a0 H a=>ocl 21 (zfO ((k.step0 hs).part 0 4) l f6 m c n ((m1.step0 hs).part 0 1) g H) ?_)))
  rintro _ c0 ⟨a2,rfl⟩
  replace hs:=hs.tr0 a2
  refine dT 1 (crt (zg (zc ?_)))
  obtain rfl:=sj a
  exact rT 6 (.bool a0) ⟨hs,rfl⟩
 intro h a
 refine cT 2 ?_
 refine cc _ a ?_ ?_
 ·intro h a
  refine cO 4 (o1 28 49 (vl e b.2.1 f) ((i.step0 hs).one (o:=1) rfl) (od 1 (bE a fun a3 I a=>ocl 30 (zfO ((k.step0 hs).part 0 4) l f6 m c n ((m1.step0 hs).part 0 1) g I) ?_)))
  rintro _ c1 ⟨a5,rfl⟩
  replace hs:=hs.tr0 a5
  refine osp 31 (a3) a ?_ ?_
  ·intro hg a
   refine oz [32,33,34,35,36] (dT 2 (crt (zg (zc ?_))))
   obtain rfl:=sj a
   exact rT 6 ff ⟨hs,rfl⟩
  intro hg a
  refine od 2 (bE a fun a6 J a=>ocl 34 (zka ((k.step0 hs).part 0 4) (l.step hs) (f6.step hs) (m.step hs) c ((m1.step0 hs).part 0 1) (g.step hs) J) ?_)
  rintro _ c4 ⟨a8,d8,d9,rfl,e0⟩
  replace hs:=hs.tr0 a8
  refine dT 4 (crt (zg (zc ?_)))
  obtain rfl:=sj a
  exact rT 6 (bW ((a6.length:Int)=0)) ⟨hs,rfl⟩
 intro h a
 refine cT 2 ?_
 refine cc _ a ?_ ?_
 ·intro h a
  refine cs (cO 4 (o1 44 49 (vl e b.2.1 f) ((i.step0 hs).one (o:=1) rfl) (od 1 (bE a fun e1 L a=>ocl 46 (zfO ((k.step0 hs).part 0 4) l f6 m c n ((m1.step0 hs).part 0 1) g L) ?_))))
  rintro _ c6 ⟨a9,rfl⟩
  replace hs:=hs.tr0 a9
  refine dT 1 ?_
  refine cc _ a ?_ ?_
  ·intro h a
   refine cT 1 (crt (zc (zg (zc ?_))))
   obtain rfl:=sj a
   exact rT 6 ff ⟨hs,rfl⟩
  intro h a
  refine ckt (cO 4 (o1 53 49 (vl e b.2.1 f) ((i.step0 hs).one (o:=1) rfl) (bE a fun x M a=>ocl 54 (zpv ((k.step0 hs).part 0 4) (l.step hs) (f6.step hs) (m.step hs) c (n.step hs) M) ?_)))
  rintro _ c7 ⟨b0,rfl,c9,d0,d2⟩
  replace hs:=hs.tr0 b0
  refine od 3 (xT 8 103 (d.H.size,48001) hs.1 [iv 0,iv 0] fun e2 d3 b1 j=>?_)
  replace hs:=hs.tr0 b1
  refine od 1 (xM 103 [iv x.2.1,iv x.2.2] j fun d4 b2 _ y=>?_)
  replace hs:=hs.trB j.ge b2
  replace j:=y
  refine otx (dT 3 (crt (zg (zc ?_))))
  obtain rfl:=sj a
  exact rT 6 (bW (x.1=0)) ⟨hs,rfl⟩
 intro h a
 refine cT 2 ?_
 refine cc _ a ?_ ?_
 ·intro h a
  refine cs (cd 10 (dd 4 (d1 65 49 (vl e b.2.1 f) ((i.step0 hs).one (o:=1) rfl) (dd 3 (d1 69 49 (vl p b.2.2.1 t) ((i.step0 hs).one (o:=2) rfl) (dd 1 (de (bE a fun b3 N a=>ocl 71 (znC ((k.step0 hs).part 0 4) l f6 m c n V ((m1.step0 hs).part 0 1) g N) ?_))))))))
  rintro _ d5 ⟨b4,rfl⟩
  replace hs:=hs.tr0 b4
  refine dT 1 (crt (zg (zc ?_)))
  obtain rfl:=sj a
  exact rT 6 (.bool b3) ⟨hs,rfl⟩
 intro h a
 refine cT 2 ?_
 refine cc _ a ?_ ?_
 ·intro h a
  refine cO 5 (o1 79 33 (vl s b.2.2.2.2 w) ((i.step0 hs).one (o:=4) rfl) (bE a fun b5 O a=>ocl 80 (zpu ((k.step0 hs).part 0 4) l f6 m c ((m1.step0 hs).part 0 1) g Y O) ?_))
  rintro _ d6 ⟨b6,rfl⟩
  replace hs:=hs.tr0 b6
  refine dT 1 (crt (zg (zc ?_)))
  obtain rfl:=sj a
  exact rT 6 (.bool b5) ⟨hs,rfl⟩
 intro h a
 refine ck (zd (zb (cO 5 (o1 86 32 (vl q b.2.2.2.1 u) ((i.step0 hs).one (o:=3) rfl) (bE a fun b7 P a=>ocl 87 (zqU ((k.step0 hs).part 0 4) l f6 m c ((m1.step0 hs).part 0 1) g X P) ?_)))))
 rintro _ d7 ⟨b8,rfl⟩
 replace hs:=hs.tr0 b8
 refine dT 1 (crt ?_)
 obtain rfl:=sj a
 exact rT 6 (.bool b7) ⟨hs,rfl⟩
theorem zn5 {e:K} {p0:TS×(LP)×Int} {G H I j k l m n:OA} {c2 J L p q s t u:Nat} {p1:LP} {c:Int×LP×LP×LI×LM} (R:Sl tGlue e G c2 p0.1.1) (f6:Sl tTile e H J p0.1.2) (S:Sl tPlaced e I L p0.2.1) (w:I64 p0.2.2) (A:Sl tPlaced e j p p1) (g:I64 c.1) (B:Sl tPlaced e k q c.2.1) (C:Sl tPlaced e l s c.2.2.1) (D:Sl tI64 e m t c.2.2.2.1) (E:Sl (tSl tI64) e n u c.2.2.2.2) {r:Int} (a:zgM p0 p1 c=some r) :
 Fn Tryz.prog 27 #[.agg #[vl G p0.1.1 c2,vl H p0.1.2 J,vl I p0.2.1 L,iv p0.2.2],.agg #[vl j p1 p],.agg #[iv c.1,vl k c.2.1 q,vl l c.2.2.1 s,vl m c.2.2.2.1 t,vl n c.2.2.2.2 u]] e (fun v T=>Step [] e T∧v=iv r∧I64 r):=by
 refine fnc 22 [] Tryz.func27 Tryz.ntmps27 fun hs=>csr (xO 3 48 (e.H.size,27001) hs.1 [vl G p0.1.1 c2,vl H p0.1.2 J,vl I p0.2.1 L,iv p0.2.2] fun b2 a5 U b=>?_)
 replace hs:=hs.tr0 U
 refine xO 4 46 (e.H.size,27002) hs.1 [vl j p1 p] fun b3 a6 F d=>?_
 replace hs:=hs.tr0 F
 replace b:=b.step0 F
 refine xO 5 51 (e.H.size,27003) hs.1 [iv c.1,vl k c.2.1 q,vl l c.2.2.1 s,vl m c.2.2.2.1 t,vl n c.2.2.2.2 u] fun b4 a8 x f=>?_
 replace hs:=hs.tr0 x
 replace b:=b.step0 x
 replace d:=d.step0 x
 refine od 1 (otx (bE a fun V M a=>ocl 8 (zpw (b.at.part 0 4) (R.step hs) (f6.step hs) (S.step hs) w (d.at.part 0 1) (A.step hs) M) ?_))
 rintro _ a9 ⟨i,rfl,N⟩
 replace hs:=hs.tr0 i
 replace b:=b.step0 i
 replace d:=d.step0 i
 replace f:=f.step0 i
 refine dT 1 (cs (cT 2 ?_))
 refine cc _ a ?_ ?_
 ·intro y a
  refine cT 2 (crt (zc ?_))
  obtain rfl:=sj a
  exact rT 6 (iv V) ⟨hs,rfl,N⟩
 intro y a
 refine ckt (cs (cO 1 (o1 13 2 (iv c.1) (f.at.one (o:=0) rfl) (bE a fun b5 O a=>ocl 14 (zah g (iK 1) (iK 6) O) ?_))))
 rintro _ _ ⟨rfl,rfl⟩
 refine dT 1 ?_
 refine cc _ a ?_ ?_
 ·intro y a
  refine cT 1 (crt (zc ?_))
  obtain rfl:=sj a
  exact rT 6 (iv 2) ⟨hs,rfl,(iK 2)⟩
 intro y a
 refine ckt (cs ?_)
 refine zn (fun Z=>∀ (z:Bool) (X:Env) (h:K),Step [] e h→zg3 z=some r→cwp Tryz.prog 22 (sub (zB Tryz.f27) [1,0,1,1,1,1]) Z (ups X [(21,.bool z)]) h) ?_ fun Y=>?_
 ·intro z X h hs a
  refine cc _ a ?_ ?_
  ·intro y a
   refine cT 1 (crt (zc ?_))
   obtain rfl:=sj a
   exact rT 6 (iv 10) ⟨hs,rfl,(iK 10)⟩
  intro y a
  refine ckt (cT 1 (crt ?_))
  obtain rfl:=sj a
  exact rT 6 (iv 0) ⟨hs,rfl,(iK 0)⟩
 refine csr (bE a fun a0 P a=>ocl 16 (zoB (f.at.part 0 5) g (B.step hs) (C.step hs) (D.step hs) (E.step hs) P) ?_)
 rintro _ _ ⟨rfl,rfl⟩
 refine od 1 ?_
 refine osp 18 (!a0) a ?_ ?_
 ·intro hg a
  refine bE a fun a2 Q a=>ocl 19 (zpt (b.at.part 0 4) (R.step hs) (f6.step hs) (S.step hs) w (d.at.part 0 1) (A.step hs) (f.at.part 0 5) g (B.step hs) (C.step hs) (D.step hs) (E.step hs) Q) ?_
  rintro _ b1 ⟨a3,rfl⟩
  replace hs:=hs.tr0 a3
  refine dT 2 ?_
  exact zk eY (Y (!a2)  _ _ hs  a)
 intro hg a
 refine oz [19,20] (dT 1 ?_)
 exact zk eY (Y true  _ _ hs  a)
theorem zps {a:K} {p0:BS×(TS×(LP)×Int)×(LP)×(Int×LP×LP×LI×LM)} {n p:Nat} {a2 q s c d e f g:OA} {t u w h i j k l:Nat} (m:At a n p [zy p0.1,vl a2 p0.2.1.1.1 t,vl q p0.2.1.1.2 u,vl s p0.2.1.2.1 w,iv p0.2.1.2.2,vl c p0.2.2.1 h,iv p0.2.2.2.1,vl d p0.2.2.2.2.1 i,vl e p0.2.2.2.2.2.1 j,vl f p0.2.2.2.2.2.2.1 k,vl g p0.2.2.2.2.2.2.2 l]) (B:p0.1.length≤9223372036854775807) (N:Sl tGlue a a2 t p0.2.1.1.1) (O:Sl tTile a q u p0.2.1.1.2) (C:Sl tPlaced a s w p0.2.1.2.1) (x:I64 p0.2.1.2.2) (D:Sl tPlaced a c h p0.2.2.1) (y:I64 p0.2.2.2.1) (E:Sl tPlaced a d i p0.2.2.2.2.1) (F:Sl tPlaced a e j p0.2.2.2.2.2.1) (G:Sl tI64 a f k p0.2.2.2.2.2.2.1) (H:Sl (tSl tI64) a g l p0.2.2.2.2.2.2.2) {r:Bool} (b:zld p0=some r) :
 Fn Tryz.prog 12 #[pt n p] a (fun v I=>Step [] a I∧v=.bool r):=by
 refine fnc 24 [] Tryz.func12 Tryz.ntmps12 fun hs=>cT 1 (cs (cd 18 (dd 3 (d1 6 9 (zy p0.1) ((m.step0 hs).one (o:=0) rfl) (bE b fun J z b=>dc0 7 (zkh B z) ?_)))))
 refine dsp 8 (J) b ?_ ?_
 ·intro P b
  refine ds 9 (ds 10 (ds 11 (ds 12 (ds 13 (ds 14 (ds 15 (ds 16 (ds 17 (ds 18 (ds 19 (ds 20 (de (oz [21,22] (dT 2 (crt ?_)))))))))))))))
  obtain rfl:=sj b
  exact rT 2 ff ⟨hs,rfl⟩
 intro P b
 refine dd 3 (dN 12 48 [vl a2 p0.2.1.1.1 t,vl q p0.2.1.1.2 u,vl s p0.2.1.2.1 w,iv p0.2.1.2.2] ((m.step0 hs).part 1 4).2 (dd 3 (dN 16 46 [vl c p0.2.2.1 h] ((m.step0 hs).part 5 1).2 (dd 3 (dN 20 51 [iv p0.2.2.2.1,vl d p0.2.2.2.2.1 i,vl e p0.2.2.2.2.2.1 j,vl f p0.2.2.2.2.2.2.1 k,vl g p0.2.2.2.2.2.2.2 l] ((m.step0 hs).part 6 5).2 (de (bE b fun L A b=>ocl 21 (zn5 N O C x D y E F G H A) ?_)))))))
 rintro _ Q ⟨M,rfl,R⟩
 replace hs:=hs.tr0 M
 refine dT 3 (crt ?_)
 obtain rfl:=sj b
 exact rT 2 (bW (L=0)) ⟨hs,rfl⟩
theorem zn4 {a:K} {p0:BS×(TS×(LP)×Int)×(LP)×(Int×LP×LP×LI×LM)} {a2 m n b c d e f:OA} {p q s g h i j k:Nat} (y:p0.1.length≤9223372036854775807) (J:Sl tGlue a a2 p p0.2.1.1.1) (L:Sl tTile a m q p0.2.1.1.2) (z:Sl tPlaced a n s p0.2.1.2.1) (t:I64 p0.2.1.2.2) (A:Sl tPlaced a b g p0.2.2.1) (u:I64 p0.2.2.2.1) (B:Sl tPlaced a c h p0.2.2.2.2.1) (C:Sl tPlaced a d i p0.2.2.2.2.2.1) (D:Sl tI64 a e j p0.2.2.2.2.2.2.1) (E:Sl (tSl tI64) a f k p0.2.2.2.2.2.2.2) {r:Bool} (w:zgL p0=some r) :
 Fn Tryz.prog 5 #[.agg #[zy p0.1,vl a2 p0.2.1.1.1 p,vl m p0.2.1.1.2 q,vl n p0.2.1.2.1 s,iv p0.2.1.2.2,vl b p0.2.2.1 g,iv p0.2.2.2.1,vl c p0.2.2.2.2.1 h,vl d p0.2.2.2.2.2.1 i,vl e p0.2.2.2.2.2.2.1 j,vl f p0.2.2.2.2.2.2.2 k]] a (fun v F=>Step [] a F∧v=.bool r):=by
 refine fnc 4 [] Tryz.func5 Tryz.ntmps5 fun hs=>csr (xO 1 53 (a.H.size,5001) hs.1 [zy p0.1,vl a2 p0.2.1.1.1 p,vl m p0.2.1.1.2 q,vl n p0.2.1.2.1 s,iv p0.2.1.2.2,vl b p0.2.2.1 g,iv p0.2.2.2.1,vl c p0.2.2.2.2.1 h,vl d p0.2.2.2.2.2.1 i,vl e p0.2.2.2.2.2.2.1 j,vl f p0.2.2.2.2.2.2.2 k] fun O M G l=>?_)
 replace hs:=hs.tr0 G
 refine od 1 (otx (bE w fun H x w=>ocl 3 (zps (l.at.part 0 11) y (J.step hs) (L.step hs) (z.step hs) t (A.step hs) u (B.step hs) (C.step hs) (D.step hs) (E.step hs) x) ?_))
 rintro _ N ⟨I,rfl⟩
 replace hs:=hs.tr0 I
 refine dT 1 (crt ?_)
 obtain rfl:=sj w
 exact rT 2 (.bool H) ⟨hs,rfl⟩
theorem zmC {f:K} {p0:Int×Int} (m:I64 p0.1) (n:I64 p0.2) {r:(Int×Int)} (s:zhQ p0=some r) :
 Fn Tryz.prog 72 #[.agg #[iv p0.1,iv p0.2]] f (fun v p=>Step [] f p∧v=.agg #[iv r.1,iv r.2]∧I64 r.1∧I64 r.2):=by
 refine fnc 11 [] Tryz.func72 Tryz.ntmps72 fun hs=>csr (xO 1 107 (f.H.size,72001) hs.1 [iv p0.1,iv p0.2] fun C A t d=>?_)
 replace hs:=hs.tr0 t
 refine xT 2 103 (f.H.size,72002) hs.1 [iv 0,iv 0] fun u B j c=>?_
 replace hs:=hs.tr0 j
 replace d:=d.step0 j
 refine otx (xT 3 103 (f.H.size,72003) hs.1 [iv 0,iv 0] fun k w g a=>?_)
 replace hs:=hs.tr0 g
 replace d:=d.step0 g
 replace c:=c.step0 g
 refine otx (od 1 (o1 5 2 (iv p0.1) (d.at.one (o:=0) rfl) (od 1 (zm (b:=k) (off:=0) (T:=2) (iv p0.1) [iv p0.1] [iv p0.1,iv 0] kr kr a rfl kr kr kr rfl fun x h _ e=>?_))))
 replace hs:=hs.trB a.ge h
 replace d:=d.step h (nm1 (d.ne a (zl kr)))
 replace c:=c.step h (nm1 (c.ne a (zl kr)))
 replace a:=e
 refine otx (od 1 (o1 8 2 (iv p0.2) (d.at.one (o:=1) rfl) (od 1 (zm (b:=k) (off:=1) (T:=2) (iv p0.2) [iv p0.2] [iv p0.1,iv p0.2] kr kr a rfl kr kr kr rfl fun y l _ e=>?_))))
 replace hs:=hs.trB a.ge l
 replace c:=c.step l (nm1 (c.ne a (zl kr)))
 replace a:=e
 refine otx (oN 10 103 [iv p0.1,iv p0.2] (a.at.part 0 2).2 (xM 103 [iv p0.1,iv p0.2] c fun z q _ i=>?_))
 replace hs:=hs.trB c.ge q
 replace c:=i
 refine ot (crt ?_)
 obtain rfl:=sj s
 refine rt [.cell 2 103] [.agg #[iv p0.1,iv p0.2]] ⟨⟨u,0,[iv p0.1,iv p0.2],rfl,rfl,kr,kr,(c.at.part 0 2).2⟩,trivial⟩ ?_
 exact ⟨hs,rfl,m,n⟩
theorem zpK {h:K} {p0:(Int×Int)×Int} (u:I64 p0.1.1) (w:I64 p0.1.2) (x:I64 p0.2) {r:((Int×Int)×Int)} (p:zlt p0=some r) :
 Fn Tryz.prog 51 #[.agg #[iv p0.1.1,iv p0.1.2,iv p0.2]] h (fun v y=>Step [] h y∧v=.agg #[iv r.1.1,iv r.1.2,iv r.2]∧I64 r.1.1∧I64 r.1.2∧I64 r.2):=by
 refine fnc 12 [] Tryz.func51 Tryz.ntmps51 fun hs=>csr (xO 1 109 (h.H.size,51001) hs.1 [iv p0.1.1,iv p0.1.2,iv p0.2] fun J I B e=>?_)
 replace hs:=hs.tr0 B
 refine xT 2 105 (h.H.size,51002) hs.1 [iv 0,iv 0,iv 0] fun z C l a=>?_
 replace hs:=hs.tr0 l
 replace e:=e.step0 l
 refine otx (xT 3 105 (h.H.size,51003) hs.1 [iv 0,iv 0,iv 0] fun m D i c=>?_)
 replace hs:=hs.tr0 i
 replace e:=e.step0 i
 replace a:=a.step0 i
 refine otx (od 1 (oN 5 107 [iv p0.1.1,iv p0.1.2] (e.at.part 0 2).2 (bE p fun d q p=>ocl 6 (zmC u w q) ?_)))
 rintro _ E ⟨g,rfl,s,t⟩
 replace hs:=hs.tr0 g
 replace e:=e.step0 g
 replace a:=a.step0 g
 replace c:=c.step0 g
 refine od 1 (zm (b:=m) (off:=0) (T:=103) (.agg #[iv d.1,iv d.2]) [iv d.1,iv d.2] [iv d.1,iv d.2,iv 0] kr kr c rfl kr kr kr rfl fun F j _ f=>?_)
 replace hs:=hs.trB c.ge j
 replace e:=e.step j (nm1 (e.ne c (zl kr)))
 replace a:=a.step j (nm1 (a.ne c (zl kr)))
 replace c:=f
 refine otx (od 1 (o1 9 2 (iv p0.2) (e.at.one (o:=2) rfl) (od 1 (zm (b:=m) (off:=2) (T:=2) (iv p0.2) [iv p0.2] [iv d.1,iv d.2,iv p0.2] kr kr c rfl kr kr kr rfl fun G n _ f=>?_))))
 replace hs:=hs.trB c.ge n
 replace a:=a.step n (nm1 (a.ne c (zl kr)))
 replace c:=f
 refine otx (oN 11 105 [iv d.1,iv d.2,iv p0.2] (c.at.part 0 3).2 (xM 105 [iv d.1,iv d.2,iv p0.2] a fun H A _ k=>?_))
 replace hs:=hs.trB a.ge A
 replace a:=k
 refine ot (crt ?_)
 obtain rfl:=sj p
 refine rt [.cell 2 105] [.agg #[iv d.1,iv d.2,iv p0.2]] ⟨⟨z,0,[iv d.1,iv d.2,iv p0.2],rfl,rfl,kr,kr,(a.at.part 0 3).2⟩,trivial⟩ ?_
 exact ⟨hs,rfl,s,t,x⟩
theorem zoZ {j:K} {p0:LP} {L:OA} {c2:Nat} (f3:Sl tPlaced j L c2 p0) {r:LP} (c:zhR p0=some r) :
 Fn Tryz.prog 29 #[vl L p0 c2] j (fun v p=>Step [] j p∧∃ (a4:OA) (c5:Nat),v=vl a4 r c5∧Sl tPlaced p a4 c5 r):=by
 refine fnc 23 [] Tryz.func29 Tryz.ntmps29 fun hs=>cO 1 (otx (od 2 (bE c fun b8 X c=>zdl (d:=7) (T:=44) (e:=105) (t:=tPlaced) (pub:=false) (τ:=(j.H.size,29001)) (bytes:=24) (k1:=.i64) (k2:=.i64) (m:=(p0.length:Int)) (zs:=[iv 0,iv 0,iv 0]) (z:=((0,0),0)) kr kr kr kr ⟨_,_,rfl,⟨_,_,rfl,⟨rfl,(iK 0)⟩,⟨rfl,(iK 0)⟩⟩,⟨rfl,(iK 0)⟩⟩ X hs.1 fun a9 e3 s8 b9=>?_)))
 replace hs:=hs.tr0 s8
 refine dT 1 (cs (cT 1 (cb 0 ?_)))
 refine zj 0 (fun Z=>∀ (q:LP) (s:OA) (u:Nat) (G:Env) (k:K),Step [] j k→Gr tPlaced false (j.H.size,29001) k 105 s u q→zk0 q=some r→Z (ups G [(3,vl s q u)]) k) ?_ fun J1=>?_
 ·intro q s u G k hs w c
  refine zf (zb (cT 2 (zdA w fun d5 c0 Y=>?_)))
  replace hs:=hs.trG (w.own (fz _)) c0
  replace w:=Y
  refine crt ?_
  obtain rfl:=sj c
  exact rT 2 (vl s q u) ⟨hs,_,_,rfl,w.sl⟩
 refine bE c fun c1 a0 M=>zp (F:=zdm p0) (J:=fun a E' p=>∃ (y:OA) (h:Nat),(∃ G,E'=ups G [(0,vl L p0 c2),(3,vl y a.1 h),(4,iv a.2)])∧Step [] j p∧Gr tPlaced false (j.H.size,29001) p 105 y h a.1∧I64 a.2) (s0:=(b8,0)) (x:=c1) kr a0 ⟨_,_,⟨_,eY⟩,hs,b9,(iK 0)⟩ ?_
 rintro a _ a2 ⟨y,h,⟨G,rfl⟩,hs,f,d7⟩ c8 c N
 refine cs (cT 4 ?_)
 refine cc _ c ?_ ?_
 ·intro hc c
  refine ckt (cs (cb 1 (cr (od 4 (bE c fun i a3 c=>?_)))))
  obtain ⟨c3,c4,O,P,Q,c9,n,R⟩:=(f3.step hs).idx a3
  obtain ⟨_,_,rfl,⟨_,_,rfl,⟨rfl,a5⟩,⟨rfl,a6⟩⟩,⟨rfl,a7⟩⟩:=R
  replace n:PubAt a2 c3 (c4+a.2.toNat*3) [iv i.1.1,iv i.1.2,iv i.2]:=n
  refine oi 18 26 109 3 p0.length c2 .i64 a.2 O P Q (oN 19 109 [iv i.1.1,iv i.1.2,iv i.2] (n.at.part 0 3).2 (bE c fun g a8 c=>ocl 20 (zpK a5 a6 a7 a8) ?_))
  rintro _ b0 ⟨U,rfl,b1,b2,b3⟩
  replace hs:=hs.tr0 U
  replace f:=f.step0 U
  refine bE c fun H b4 c=>?_
  obtain ⟨V,A,B,C,d0,D,S⟩:=f.idx b4
  obtain ⟨_,_,rfl,⟨_,_,rfl,⟨rfl,d9⟩,⟨rfl,e0⟩⟩,⟨rfl,e1⟩⟩:=S
  replace D:At b0 V (0+a.2.toNat*3) [iv H.1.1,iv H.1.2,iv H.2]:=D
  refine oi 21 44 105 3 a.1.length h .i64 a.2 (off:=0) A B C (bE c fun c6 I c=>zau (T:=105) (t:=tPlaced) (τ:=(j.H.size,29001)) (e:=105) (ix:=a.2) (x':=g) (b:=V) (δ:=0) (cp:=h) (l:=a.1) (vs:=[iv g.1.1,iv g.1.2,iv g.2]) (.agg #[iv g.1.1,iv g.1.2,iv g.2]) kr kr A f B C kr kr kr kr (fun cs hx=>by obtain ⟨x,_,ho⟩:=hx;rw [zM ((tPlaced.len ho).trans kr)];exact ⟨_,_,rfl,⟨_,_,rfl,⟨rfl,b1⟩,⟨rfl,b2⟩⟩,⟨rfl,b3⟩⟩) fun e2 c7 b5=>?_)
  replace hs:=hs.trG (f.own (fz _)) c7
  replace f:=b5
  replace f:=zcF I f
  have E:=zL I
  refine zam (eA 4 (v:=iv a.2) (za (t:=3) (v:=vl y c6 h) (eA 0 (v:=vl L p0 c2) rfl) (by unfold vl;rw [E];kernel_rfl))) (oe (zd (zb (cr (od 3 (oe ?_))))))
  exact ze (sj c).symm ⟨_,_,⟨_,eY⟩,hs,f,(zr _)⟩
 intro hc c
 refine cx 0 (zh ?_)
 have hx:=N _ (sj c).symm
 subst hx
 replace c:=M
 refine zi ?_
 exact zq eY (J1 a.1 _ _ _ _ hs f c)
theorem zkq {i:K} {p0:LP} {p:OA} {c2:Nat} (B:Sl tPlaced i p c2 p0) {r:(LP)} (u:zgN p0=some r) :
 Fn Tryz.prog 14 #[.agg #[vl p p0 c2]] i (fun v q=>Step [] i q∧∃ (x:OA) (y:Nat),v=.agg #[vl x r y]∧Sl tPlaced q x y r):=by
 refine fnc 9 [] Tryz.func14 Tryz.ntmps14 fun hs=>csr (xO 1 28 (i.H.size,14001) hs.1 [vl p p0 c2] fun J I C d=>?_)
 replace hs:=hs.tr0 C
 refine xT 2 46 (i.H.size,14002) hs.1 [sl none 0 0] fun z D s a=>?_
 replace hs:=hs.tr0 s
 replace d:=d.step0 s
 refine otx (xT 3 46 (i.H.size,14003) hs.1 [sl none 0 0] fun A E j c=>?_)
 replace hs:=hs.tr0 j
 replace d:=d.step0 j
 replace a:=a.step0 j
 refine otx (od 1 (o1 5 26 (vl p p0 c2) (d.at.one (o:=0) rfl) (bE u fun e w u=>ocl 6 (zoZ (B.step hs) w) ?_)))
 rintro _ F ⟨k,f,g,rfl,h⟩
 replace hs:=hs.tr0 k
 replace a:=a.step0 k
 replace c:=c.step0 k
 refine od 1 (zm (b:=A) (off:=0) (T:=44) (vl f e g) [vl f e g] [vl f e g] kr kr c rfl kr kr kr rfl fun G l _ m=>?_)
 replace hs:=hs.trB c.ge l
 replace h:=h.step l
 replace a:=a.step l (nm1 (a.ne c (zl kr)))
 replace c:=m
 refine otx (oN 8 46 [vl f e g] (c.at.part 0 1).2 (xM 46 [vl f e g] a fun H t _ n=>?_))
 replace hs:=hs.trB a.ge t
 replace h:=h.step t
 replace a:=n
 refine ot (crt ?_)
 obtain rfl:=sj u
 refine rt [.cell 2 46] [.agg #[vl f e g]] ⟨⟨z,0,[vl f e g],rfl,rfl,kr,kr,(a.at.part 0 1).2⟩,trivial⟩ ?_
 exact ⟨hs,_,_,rfl,h⟩
theorem zrg {f:K} {p0:BS×Int} (m:p0.1.length≤9223372036854775807) (n:I64 p0.2) {r:(BS×Int)} (s:znb p0=some r) :
 Fn Tryz.prog 70 #[.agg #[zy p0.1,iv p0.2]] f (fun v p=>Step [] f p∧v=.agg #[zy r.1,iv r.2]∧r.1.length≤9223372036854775807∧I64 r.2):=by
 refine fnc 11 [] Tryz.func70 Tryz.ntmps70 fun hs=>csr (xO 1 133 (f.H.size,70001) hs.1 [zy p0.1,iv p0.2] fun C A t d=>?_)
 replace hs:=hs.tr0 t
 refine xT 2 147 (f.H.size,70002) hs.1 [zy ([]:BS),iv 0] fun u B j c=>?_
 replace hs:=hs.tr0 j
 replace d:=d.step0 j
 refine otx (xT 3 147 (f.H.size,70003) hs.1 [zy ([]:BS),iv 0] fun k w g a=>?_)
 replace hs:=hs.tr0 g
 replace d:=d.step0 g
 replace c:=c.step0 g
 refine otx (od 1 (o1 5 9 (zy p0.1) (d.at.one (o:=0) rfl) (od 1 (zm (b:=k) (off:=0) (T:=9) (zy p0.1) [zy p0.1] [zy p0.1,iv 0] kr kr a rfl kr kr kr rfl fun x h _ e=>?_))))
 replace hs:=hs.trB a.ge h
 replace d:=d.step h (nm1 (d.ne a (zl kr)))
 replace c:=c.step h (nm1 (c.ne a (zl kr)))
 replace a:=e
 refine otx (od 1 (o1 8 2 (iv p0.2) (d.at.one (o:=1) rfl) (od 1 (zm (b:=k) (off:=1) (T:=2) (iv p0.2) [iv p0.2] [zy p0.1,iv p0.2] kr kr a rfl kr kr kr rfl fun y l _ e=>?_))))
 replace hs:=hs.trB a.ge l
 replace c:=c.step l (nm1 (c.ne a (zl kr)))
 replace a:=e
 refine otx (oN 10 147 [zy p0.1,iv p0.2] (a.at.part 0 2).2 (xM 147 [zy p0.1,iv p0.2] c fun z q _ i=>?_))
 replace hs:=hs.trB c.ge q
 replace c:=i
 refine ot (crt ?_)
 obtain rfl:=sj s
 refine rt [.cell 2 147] [.agg #[zy p0.1,iv p0.2]] ⟨⟨u,0,[zy p0.1,iv p0.2],rfl,rfl,kr,kr,(c.at.part 0 2).2⟩,trivial⟩ ?_
 exact ⟨hs,rfl,m,n⟩
theorem zqp {h:K} {p0:LG} {I:OA} {c2:Nat} (f3:Sl tGlue h I c2 p0) {r:LG} (c:zjR p0=some r) :
 Fn Tryz.prog 49 #[vl I p0 c2] h (fun v k=>Step [] h k∧∃ (a4:OA) (c5:Nat),v=vl a4 r c5∧Sl tGlue k a4 c5 r):=by
 refine fnc 23 [] Tryz.func49 Tryz.ntmps49 fun hs=>cO 1 (otx (od 2 (bE c fun b6 X c=>zdl (d:=7) (T:=40) (e:=147) (t:=tGlue) (pub:=false) (τ:=(h.H.size,49001)) (bytes:=24) (k1:=.i64) (k2:=.i64) (m:=(p0.length:Int)) (zs:=[zy ([]:BS),iv 0]) (z:=(([]:BS),0)) kr kr kr kr ⟨_,_,rfl,⟨rfl,(by simp)⟩,⟨rfl,(iK 0)⟩⟩ X hs.1 fun a9 e0 s8 b7=>?_)))
 replace hs:=hs.tr0 s8
 refine dT 1 (cs (cT 1 (cb 0 ?_)))
 refine zj 0 (fun Z=>∀ (n:LG) (q:OA) (s:Nat) (G:Env) (i:K),Step [] h i→Gr tGlue false (h.H.size,49001) i 147 q s n→zmD n=some r→Z (ups G [(3,vl q n s)]) i) ?_ fun J1=>?_
 ·intro n q s G i hs u c
  refine zf (zb (cT 2 (zdA u fun d3 b8 Y=>?_)))
  replace hs:=hs.trG (u.own (fz _)) b8
  replace u:=Y
  refine crt ?_
  obtain rfl:=sj c
  exact rT 2 (vl q n s) ⟨hs,_,_,rfl,u.sl⟩
 refine bE c fun b9 a0 L=>zp (F:=zeG p0) (J:=fun a E' k=>∃ (w:OA) (g:Nat),(∃ G,E'=ups G [(0,vl I p0 c2),(3,vl w a.1 g),(4,iv a.2)])∧Step [] h k∧Gr tGlue false (h.H.size,49001) k 147 w g a.1∧I64 a.2) (s0:=(b6,0)) (x:=b9) kr a0 ⟨_,_,⟨_,eY⟩,hs,b7,(iK 0)⟩ ?_
 rintro a _ a2 ⟨w,g,⟨G,rfl⟩,hs,f,d5⟩ c6 c M
 refine cs (cT 4 ?_)
 refine cc _ c ?_ ?_
 ·intro hc c
  refine ckt (cs (cb 1 (cr (od 4 (bE c fun y a3 c=>?_)))))
  obtain ⟨c0,c1,N,O,P,c7,j,Q⟩:=(f3.step hs).idx a3
  obtain ⟨_,_,rfl,⟨rfl,a5⟩,⟨rfl,a6⟩⟩:=Q
  replace j:PubAt a2 c0 (c1+a.2.toNat*2) [zy y.1,iv y.2]:=j
  refine oi 18 22 133 2 p0.length c2 .i64 a.2 N O P (oN 19 133 [zy y.1,iv y.2] (j.at.part 0 2).2 (bE c fun p a7 c=>ocl 20 (zrg a5 a6 a7) ?_))
  rintro _ a8 ⟨S,rfl,b0,b1⟩
  replace hs:=hs.tr0 S
  replace f:=f.step0 S
  refine bE c fun U b2 c=>?_
  obtain ⟨V,A,B,C,c8,D,R⟩:=f.idx b2
  obtain ⟨_,_,rfl,⟨rfl,d7⟩,⟨rfl,d8⟩⟩:=R
  replace D:At a8 V (0+a.2.toNat*2) [zy U.1,iv U.2]:=D
  refine oi 21 40 147 2 a.1.length g .i64 a.2 (off:=0) A B C (bE c fun c3 H c=>zau (T:=147) (t:=tGlue) (τ:=(h.H.size,49001)) (e:=147) (ix:=a.2) (x':=p) (b:=V) (δ:=0) (cp:=g) (l:=a.1) (vs:=[zy p.1,iv p.2]) (.agg #[zy p.1,iv p.2]) kr kr A f B C kr kr kr kr (fun cs hx=>by obtain ⟨x,_,ho⟩:=hx;rw [zM ((tGlue.len ho).trans kr)];exact ⟨_,_,rfl,⟨rfl,b0⟩,⟨rfl,b1⟩⟩) fun d9 c4 b3=>?_)
  replace hs:=hs.trG (f.own (fz _)) c4
  replace f:=b3
  replace f:=zcF H f
  have E:=zL H
  refine zam (eA 4 (v:=iv a.2) (za (t:=3) (v:=vl w c3 g) (eA 0 (v:=vl I p0 c2) rfl) (by unfold vl;rw [E];kernel_rfl))) (oe (zd (zb (cr (od 3 (oe ?_))))))
  exact ze (sj c).symm ⟨_,_,⟨_,eY⟩,hs,f,(zr _)⟩
 intro hc c
 refine cx 0 (zh ?_)
 have hx:=M _ (sj c).symm
 subst hx
 replace c:=L
 refine zi ?_
 exact zq eY (J1 a.1 _ _ _ _ hs f c)
theorem ziB {h:K} {p0:LI} {I:OA} {c2:Nat} (f3:Sl tI64 h I c2 p0) {r:LI} (c:ze0 p0=some r) :
 Fn Tryz.prog 31 #[vl I p0 c2] h (fun v k=>Step [] h k∧∃ (a4:OA) (c5:Nat),v=vl a4 r c5∧Sl tI64 k a4 c5 r):=by
 refine fnc 22 [] Tryz.func31 Tryz.ntmps31 fun hs=>cO 1 (otx (od 2 (bE c fun a7 U c=>zdl (d:=7) (T:=32) (e:=2) (t:=tI64) (pub:=false) (τ:=(h.H.size,31001)) (bytes:=8) (k1:=.i64) (k2:=.i64) (m:=(p0.length:Int)) (zs:=[iv 0]) (z:=0) kr kr kr kr ⟨rfl,(iK 0)⟩ U hs.1 fun a9 d2 s8 a8=>?_)))
 replace hs:=hs.tr0 s8
 refine dT 1 (cs (cT 1 (cb 0 ?_)))
 refine zj 0 (fun Z=>∀ (n:LI) (q:OA) (s:Nat) (E:Env) (i:K),Step [] h i→Gr tI64 false (h.H.size,31001) i 2 q s n→zlW n=some r→Z (ups E [(3,vl q n s)]) i) ?_ fun J1=>?_
 ·intro n q s E i hs u c
  refine zf (zb (cT 2 (zdA u fun c4 b0 V=>?_)))
  replace hs:=hs.trG (u.own (fz _)) b0
  replace u:=V
  refine crt ?_
  obtain rfl:=sj c
  exact rT 2 (vl q n s) ⟨hs,_,_,rfl,u.sl⟩
 refine bE c fun b1 X L=>zp (F:=zd3 p0) (J:=fun a E' k=>∃ (w:OA) (g:Nat),(∃ E,E'=ups E [(0,vl I p0 c2),(3,vl w a.1 g),(4,iv a.2)])∧Step [] h k∧Gr tI64 false (h.H.size,31001) k 2 w g a.1∧I64 a.2) (s0:=(a7,0)) (x:=b1) kr X ⟨_,_,⟨_,eY⟩,hs,a8,(iK 0)⟩ ?_
 rintro a _ G ⟨w,g,⟨E,rfl⟩,hs,f,c7⟩ b7 c M
 refine cs (cT 4 ?_)
 refine cc _ c ?_ ?_
 ·intro hc c
  refine ckt (cs (cb 1 (cr (od 4 (bE c fun p Y c=>?_)))))
  obtain ⟨b2,b3,N,O,P,b8,j,Q⟩:=(f3.step hs).idx Y
  obtain ⟨rfl,a0⟩:=Q
  replace j:PubAt G b2 (b3+a.2.toNat*1) [iv p]:=j
  refine oi 18 32 2 1 p0.length c2 .i64 a.2 N O P (o1 19 2 (iv p) (j.at.one (o:=0) rfl) (bE c fun b4 a2 c=>?_))
  obtain ⟨S,y,A,B,b9,C,R⟩:=f.idx a2
  obtain ⟨rfl,c9⟩:=R
  replace C:At G S (0+a.2.toNat*1) [iv b4]:=C
  refine oi 20 32 2 1 a.1.length g .i64 a.2 (off:=0) y A B (bE c fun b5 H c=>zau (T:=2) (t:=tI64) (τ:=(h.H.size,31001)) (e:=2) (ix:=a.2) (x':=p) (b:=S) (δ:=0) (cp:=g) (l:=a.1) (vs:=[iv p]) (iv p) kr kr y f A B kr kr kr kr (fun cs hx=>by obtain ⟨x,_,ho⟩:=hx;rw [zM ((tI64.len ho).trans kr)];exact ⟨rfl,a0⟩) fun d0 b6 a3=>?_)
  replace hs:=hs.trG (f.own (fz _)) b6
  replace f:=a3
  replace f:=zcF H f
  have D:=zL H
  refine zam (eA 4 (v:=iv a.2) (za (t:=3) (v:=vl w b5 g) (eA 0 (v:=vl I p0 c2) rfl) (by unfold vl;rw [D];kernel_rfl))) (oe (zd (zb (cr (od 3 (oe ?_))))))
  exact ze (sj c).symm ⟨_,_,⟨_,eY⟩,hs,f,(zr _)⟩
 intro hc c
 refine cx 0 (zh ?_)
 have hx:=M _ (sj c).symm
 subst hx
 replace c:=L
 refine zi ?_
 exact zq eY (J1 a.1 _ _ _ _ hs f c)
theorem zrf {j:K} {p0:BS×LI} {a2:OA} {q:Nat} (z:p0.1.length≤9223372036854775807) (E:Sl tI64 j a2 q p0.2) {r:(BS×LI)} (x:zna p0=some r) :
 Fn Tryz.prog 71 #[.agg #[zy p0.1,vl a2 p0.2 q]] j (fun v s=>Step [] j s∧∃ (A:OA) (B:Nat),v=.agg #[zy r.1,vl A r.2 B]∧r.1.length≤9223372036854775807∧Sl tI64 s A B r.2):=by
 refine fnc 12 [] Tryz.func71 Tryz.ntmps71 fun hs=>csr (xO 1 136 (j.H.size,71001) hs.1 [zy p0.1,vl a2 p0.2 q] fun N F C d=>?_)
 replace hs:=hs.tr0 C
 refine xT 2 149 (j.H.size,71002) hs.1 [zy ([]:BS),sl none 0 0] fun D G t a=>?_
 replace hs:=hs.tr0 t
 replace d:=d.step0 t
 refine otx (xT 3 149 (j.H.size,71003) hs.1 [zy ([]:BS),sl none 0 0] fun u H k c=>?_)
 replace hs:=hs.tr0 k
 replace d:=d.step0 k
 replace a:=a.step0 k
 refine otx (od 1 (o1 5 9 (zy p0.1) (d.at.one (o:=0) rfl) (od 1 (zm (b:=u) (off:=0) (T:=9) (zy p0.1) [zy p0.1] [zy p0.1,sl none 0 0] kr kr c rfl kr kr kr rfl fun I l _ e=>?_))))
 replace hs:=hs.trB c.ge l
 replace d:=d.step l (nm1 (d.ne c (zl kr)))
 replace a:=a.step l (nm1 (a.ne c (zl kr)))
 replace c:=e
 refine otx (od 1 (o1 8 32 (vl a2 p0.2 q) (d.at.one (o:=1) rfl) (bE x fun f y x=>ocl 9 (ziB (E.step hs) y) ?_)))
 rintro _ J ⟨m,g,h,rfl,i⟩
 replace hs:=hs.tr0 m
 replace a:=a.step0 m
 replace c:=c.step0 m
 refine od 1 (zm (b:=u) (off:=1) (T:=32) (vl g f h) [vl g f h] [zy p0.1,vl g f h] kr kr c rfl kr kr kr rfl fun L n _ e=>?_)
 replace hs:=hs.trB c.ge n
 replace i:=i.step n
 replace a:=a.step n (nm1 (a.ne c (zl kr)))
 replace c:=e
 refine otx (oN 11 149 [zy p0.1,vl g f h] (c.at.part 0 2).2 (xM 149 [zy p0.1,vl g f h] a fun M w _ p=>?_))
 replace hs:=hs.trB a.ge w
 replace i:=i.step w
 replace a:=p
 refine ot (crt ?_)
 obtain rfl:=sj x
 refine rt [.cell 2 149] [.agg #[zy p0.1,vl g f h]] ⟨⟨D,0,[zy p0.1,vl g f h],rfl,rfl,kr,kr,(a.at.part 0 2).2⟩,trivial⟩ ?_
 exact ⟨hs,_,_,rfl,z,i⟩
theorem zqn {h:K} {p0:LT} {I:OA} {c2:Nat} (f3:Sl tTile h I c2 p0) {r:LT} (c:zjQ p0=some r) :
 Fn Tryz.prog 50 #[vl I p0 c2] h (fun v k=>Step [] h k∧∃ (a4:OA) (c5:Nat),v=vl a4 r c5∧Sl tTile k a4 c5 r):=by
 refine fnc 23 [] Tryz.func50 Tryz.ntmps50 fun hs=>cO 1 (otx (od 2 (bE c fun b8 a3 c=>zdl (d:=7) (T:=41) (e:=149) (t:=tTile) (pub:=false) (τ:=(h.H.size,50001)) (bytes:=40) (k1:=.i64) (k2:=.i64) (m:=(p0.length:Int)) (zs:=[zy ([]:BS),sl none 0 0]) (z:=(([]:BS),[])) kr kr kr kr ⟨_,_,rfl,⟨rfl,(by simp)⟩,⟨_,_,rfl,(Sl.nil _ _)⟩⟩ a3 hs.1 fun a9 e5 s8 b9=>?_)))
 replace hs:=hs.tr0 s8
 refine dT 1 (cs (cT 1 (cb 0 ?_)))
 refine zj 0 (fun Z=>∀ (n:LT) (q:OA) (s:Nat) (G:Env) (i:K),Step [] h i→Gr tTile false (h.H.size,50001) i 149 q s n→zmB n=some r→Z (ups G [(3,vl q n s)]) i) ?_ fun J1=>?_
 ·intro n q s G i hs u c
  refine zf (zb (cT 2 (zdA u fun d9 c0 a5=>?_)))
  replace hs:=hs.trG (u.own (fz _)) c0
  replace u:=a5
  refine crt ?_
  obtain rfl:=sj c
  exact rT 2 (vl q n s) ⟨hs,_,_,rfl,u.sl⟩
 refine bE c fun c1 a6 L=>zp (F:=zeF p0) (J:=fun a E' k=>∃ (w:OA) (g:Nat),(∃ G,E'=ups G [(0,vl I p0 c2),(3,vl w a.1 g),(4,iv a.2)])∧Step [] h k∧Gr tTile false (h.H.size,50001) k 149 w g a.1∧I64 a.2) (s0:=(b8,0)) (x:=c1) kr a6 ⟨_,_,⟨_,eY⟩,hs,b9,(iK 0)⟩ ?_
 rintro a _ a7 ⟨w,g,⟨G,rfl⟩,hs,f,e1⟩ d3 c M
 refine cs (cT 4 ?_)
 refine cc _ c ?_ ?_
 ·intro hc c
  refine ckt (cs (cb 1 (cr (od 4 (bE c fun y a8 c=>?_)))))
  obtain ⟨c3,c4,N,O,P,d4,j,Q⟩:=(f3.step hs).idx a8
  obtain ⟨_,_,rfl,⟨rfl,b0⟩,⟨S,U,rfl,c6⟩⟩:=Q
  replace j:PubAt a7 c3 (c4+a.2.toNat*2) [zy y.1,vl S y.2 U]:=j
  refine oi 18 23 136 2 p0.length c2 .i64 a.2 N O P (oN 19 136 [zy y.1,vl S y.2 U] (j.at.part 0 2).2 (bE c fun p b1 c=>ocl 20 (zrf b0 c6 b1) ?_))
  rintro _ b2 ⟨V,X,Y,rfl,b3,c7⟩
  replace hs:=hs.tr0 V
  replace f:=f.step0 V
  refine bE c fun a0 b4 c=>?_
  obtain ⟨a2,A,B,C,d5,D,R⟩:=f.idx b4
  obtain ⟨_,_,rfl,⟨rfl,e3⟩,⟨c8,c9,rfl,e6⟩⟩:=R
  replace D:At b2 a2 (0+a.2.toNat*2) [zy a0.1,vl c8 a0.2 c9]:=D
  refine oi 21 41 149 2 a.1.length g .i64 a.2 (off:=0) A B C (bE c fun d0 H c=>zau (T:=149) (t:=tTile) (τ:=(h.H.size,50001)) (e:=149) (ix:=a.2) (x':=p) (b:=a2) (δ:=0) (cp:=g) (l:=a.1) (vs:=[zy p.1,vl X p.2 Y]) (.agg #[zy p.1,vl X p.2 Y]) kr kr A f B C kr kr kr kr (fun cs hx=>by obtain ⟨x,_,ho⟩:=hx;rw [zM ((tTile.len ho).trans kr)];exact ⟨_,_,rfl,⟨rfl,b3⟩,⟨_,_,rfl,c7⟩⟩) fun e4 d2 b5=>?_)
  replace hs:=hs.trG (f.own (fz _)) d2
  replace f:=b5
  replace f:=zcF H f
  have E:=zL H
  refine zam (eA 4 (v:=iv a.2) (za (t:=3) (v:=vl w d0 g) (eA 0 (v:=vl I p0 c2) rfl) (by unfold vl;rw [E];kernel_rfl))) (oe (zd (zb (cr (od 3 (oe ?_))))))
  exact ze (sj c).symm ⟨_,_,⟨_,eY⟩,hs,f,(zr _)⟩
 intro hc c
 refine cx 0 (zh ?_)
 have hx:=M _ (sj c).symm
 subst hx
 replace c:=L
 refine zi ?_
 exact zq eY (J1 a.1 _ _ _ _ hs f c)
theorem zoY {n:K} {p0:LG×LT} {A B:OA} {c2 C:Nat} (O:Sl tGlue n A c2 p0.1) (f6:Sl tTile n B C p0.2) {r:TS} (u:zkp p0=some r) :
 Fn Tryz.prog 28 #[.agg #[vl A p0.1 c2,vl B p0.2 C]] n (fun v w=>Step [] n w∧∃ (J:OA) (L:Nat) (D:OA) (E:Nat),v=.agg #[vl J r.1 L,vl D r.2 E]∧Sl tGlue w J L r.1∧Sl tTile w D E r.2):=by
 refine fnc 13 [] Tryz.func28 Tryz.ntmps28 fun hs=>csr (xO 1 25 (n.H.size,28001) hs.1 [vl A p0.1 c2,vl B p0.2 C] fun Z P M d=>?_)
 replace hs:=hs.tr0 M
 refine xT 2 43 (n.H.size,28002) hs.1 [sl none 0 0,sl none 0 0] fun N Q F a=>?_
 replace hs:=hs.tr0 F
 replace d:=d.step0 F
 refine otx (xT 3 43 (n.H.size,28003) hs.1 [sl none 0 0,sl none 0 0] fun G R x c=>?_)
 replace hs:=hs.tr0 x
 replace d:=d.step0 x
 replace a:=a.step0 x
 refine otx (od 1 (o1 5 22 (vl A p0.1 c2) (d.at.one (o:=0) rfl) (bE u fun f H u=>ocl 6 (zqp (O.step hs) H) ?_)))
 rintro _ S ⟨p,g,h,rfl,e⟩
 replace hs:=hs.tr0 p
 replace d:=d.step0 p
 replace a:=a.step0 p
 replace c:=c.step0 p
 refine od 1 (zm (b:=G) (off:=0) (T:=40) (vl g f h) [vl g f h] [vl g f h,sl none 0 0] kr kr c rfl kr kr kr rfl fun U q _ i=>?_)
 replace hs:=hs.trB c.ge q
 replace e:=e.step q
 replace d:=d.step q (nm1 (d.ne c (zl kr)))
 replace a:=a.step q (nm1 (a.ne c (zl kr)))
 replace c:=i
 refine otx (od 1 (o1 9 23 (vl B p0.2 C) (d.at.one (o:=1) rfl) (bE u fun j I u=>ocl 10 (zqn (f6.step hs) I) ?_)))
 rintro _ V ⟨s,k,l,rfl,m⟩
 replace hs:=hs.tr0 s
 replace e:=e.step s
 replace a:=a.step0 s
 replace c:=c.step0 s
 refine od 1 (zm (b:=G) (off:=1) (T:=41) (vl k j l) [vl k j l] [vl g f h,vl k j l] kr kr c rfl kr kr kr rfl fun X t _ i=>?_)
 replace hs:=hs.trB c.ge t
 replace e:=e.step t
 replace m:=m.step t
 replace a:=a.step t (nm1 (a.ne c (zl kr)))
 replace c:=i
 refine otx (oN 12 43 [vl g f h,vl k j l] (c.at.part 0 2).2 (xM 43 [vl g f h,vl k j l] a fun Y y _ z=>?_))
 replace hs:=hs.trB a.ge y
 replace e:=e.step y
 replace m:=m.step y
 replace a:=z
 refine ot (crt ?_)
 obtain rfl:=sj u
 refine rt [.cell 2 43] [.agg #[vl g f h,vl k j l]] ⟨⟨N,0,[vl g f h,vl k j l],rfl,rfl,kr,kr,(a.at.part 0 2).2⟩,trivial⟩ ?_
 exact ⟨hs,_,_,_,_,rfl,e,m⟩
theorem zpJ {u:K} {p0:TS×(LP)×Int} {F G H:OA} {c2 I J:Nat} (Z:Sl tGlue u F c2 p0.1.1) (f6:Sl tTile u G I p0.1.2) (f9:Sl tPlaced u H J p0.2.1) (S:I64 p0.2.2) {r:(TS×(LP)×Int)} (B:zls p0=some r) :
 Fn Tryz.prog 13 #[.agg #[vl F p0.1.1 c2,vl G p0.1.2 I,vl H p0.2.1 J,iv p0.2.2]] u (fun v y=>Step [] u y∧∃ (L:OA) (M:Nat) (N:OA) (O:Nat) (P:OA) (Q:Nat),v=.agg #[vl L r.1.1 M,vl N r.1.2 O,vl P r.2.1 Q,iv r.2.2]∧Sl tGlue y L M r.1.1∧Sl tTile y N O r.1.2∧Sl tPlaced y P Q r.2.1∧I64 r.2.2):=by
 refine fnc 16 [] Tryz.func13 Tryz.ntmps13 fun hs=>csr (xO 1 30 (u.H.size,13001) hs.1 [vl F p0.1.1 c2,vl G p0.1.2 I,vl H p0.2.1 J,iv p0.2.2] fun b3 a2 X d=>?_)
 replace hs:=hs.tr0 X
 refine xT 2 48 (u.H.size,13002) hs.1 [sl none 0 0,sl none 0 0,sl none 0 0,iv 0] fun Y a3 R a=>?_
 replace hs:=hs.tr0 R
 replace d:=d.step0 R
 refine otx (xT 3 48 (u.H.size,13003) hs.1 [sl none 0 0,sl none 0 0,sl none 0 0,iv 0] fun C a5 D c=>?_)
 replace hs:=hs.tr0 D
 replace d:=d.step0 D
 replace a:=a.step0 D
 refine otx (od 1 (oN 5 25 [vl F p0.1.1 c2,vl G p0.1.2 I] (d.at.part 0 2).2 (bE B fun e U B=>ocl 6 (zoY (Z.step hs) (f6.step hs) U) ?_)))
 rintro _ a6 ⟨z,i,j,k,l,rfl,f,g⟩
 replace hs:=hs.tr0 z
 replace d:=d.step0 z
 replace a:=a.step0 z
 replace c:=c.step0 z
 refine od 1 (zm (b:=C) (off:=0) (T:=43) (.agg #[vl i e.1 j,vl k e.2 l]) [vl i e.1 j,vl k e.2 l] [vl i e.1 j,vl k e.2 l,sl none 0 0,iv 0] kr kr c rfl kr kr kr rfl fun a8 w _ h=>?_)
 replace hs:=hs.trB c.ge w
 replace f:=f.step w
 replace g:=g.step w
 replace d:=d.step w (nm1 (d.ne c (zl kr)))
 replace a:=a.step w (nm1 (a.ne c (zl kr)))
 replace c:=h
 refine otx (od 1 (oN 9 28 [vl H p0.2.1 J] (d.at.part 2 1).2 (bE B fun m V B=>ocl 10 (zkq (f9.step hs) V) ?_)))
 rintro _ a9 ⟨s,n,p,rfl,q⟩
 replace hs:=hs.tr0 s
 replace f:=f.step s
 replace g:=g.step s
 replace d:=d.step0 s
 replace a:=a.step0 s
 replace c:=c.step0 s
 refine od 1 (zm (b:=C) (off:=2) (T:=46) (.agg #[vl n m p]) [vl n m p] [vl i e.1 j,vl k e.2 l,vl n m p,iv 0] kr kr c rfl kr kr kr rfl fun b0 t _ h=>?_)
 replace hs:=hs.trB c.ge t
 replace f:=f.step t
 replace g:=g.step t
 replace q:=q.step t
 replace d:=d.step t (nm1 (d.ne c (zl kr)))
 replace a:=a.step t (nm1 (a.ne c (zl kr)))
 replace c:=h
 refine otx (od 1 (o1 13 2 (iv p0.2.2) (d.at.one (o:=3) rfl) (od 1 (zm (b:=C) (off:=3) (T:=2) (iv p0.2.2) [iv p0.2.2] [vl i e.1 j,vl k e.2 l,vl n m p,iv p0.2.2] kr kr c rfl kr kr kr rfl fun b1 x _ h=>?_))))
 replace hs:=hs.trB c.ge x
 replace f:=f.step x
 replace g:=g.step x
 replace q:=q.step x
 replace a:=a.step x (nm1 (a.ne c (zl kr)))
 replace c:=h
 refine otx (oN 15 48 [vl i e.1 j,vl k e.2 l,vl n m p,iv p0.2.2] (c.at.part 0 4).2 (xM 48 [vl i e.1 j,vl k e.2 l,vl n m p,iv p0.2.2] a fun b2 A _ E=>?_))
 replace hs:=hs.trB a.ge A
 replace f:=f.step A
 replace g:=g.step A
 replace q:=q.step A
 replace a:=E
 refine ot (crt ?_)
 obtain rfl:=sj B
 refine rt [.cell 2 48] [.agg #[vl i e.1 j,vl k e.2 l,vl n m p,iv p0.2.2]] ⟨⟨Y,0,[vl i e.1 j,vl k e.2 l,vl n m p,iv p0.2.2],rfl,rfl,kr,kr,(a.at.part 0 4).2⟩,trivial⟩ ?_
 exact ⟨hs,_,_,_,_,_,_,rfl,f,g,q,S⟩
theorem zpL {h:K} {p0:(Int×Int)×Int} (u:I64 p0.1.1) (w:I64 p0.1.2) (x:I64 p0.2) {r:((Int×Int)×Int)} (p:zlu p0=some r) :
 Fn Tryz.prog 52 #[.agg #[iv p0.1.1,iv p0.1.2,iv p0.2]] h (fun v y=>Step [] h y∧v=.agg #[iv r.1.1,iv r.1.2,iv r.2]∧I64 r.1.1∧I64 r.1.2∧I64 r.2):=by
 refine fnc 12 [] Tryz.func52 Tryz.ntmps52 fun hs=>csr (xO 1 112 (h.H.size,52001) hs.1 [iv p0.1.1,iv p0.1.2,iv p0.2] fun J I B e=>?_)
 replace hs:=hs.tr0 B
 refine xT 2 110 (h.H.size,52002) hs.1 [iv 0,iv 0,iv 0] fun z C l a=>?_
 replace hs:=hs.tr0 l
 replace e:=e.step0 l
 refine otx (xT 3 110 (h.H.size,52003) hs.1 [iv 0,iv 0,iv 0] fun m D i c=>?_)
 replace hs:=hs.tr0 i
 replace e:=e.step0 i
 replace a:=a.step0 i
 refine otx (od 1 (oN 5 107 [iv p0.1.1,iv p0.1.2] (e.at.part 0 2).2 (bE p fun d q p=>ocl 6 (zmC u w q) ?_)))
 rintro _ E ⟨g,rfl,s,t⟩
 replace hs:=hs.tr0 g
 replace e:=e.step0 g
 replace a:=a.step0 g
 replace c:=c.step0 g
 refine od 1 (zm (b:=m) (off:=0) (T:=103) (.agg #[iv d.1,iv d.2]) [iv d.1,iv d.2] [iv d.1,iv d.2,iv 0] kr kr c rfl kr kr kr rfl fun F j _ f=>?_)
 replace hs:=hs.trB c.ge j
 replace e:=e.step j (nm1 (e.ne c (zl kr)))
 replace a:=a.step j (nm1 (a.ne c (zl kr)))
 replace c:=f
 refine otx (od 1 (o1 9 2 (iv p0.2) (e.at.one (o:=2) rfl) (od 1 (zm (b:=m) (off:=2) (T:=2) (iv p0.2) [iv p0.2] [iv d.1,iv d.2,iv p0.2] kr kr c rfl kr kr kr rfl fun G n _ f=>?_))))
 replace hs:=hs.trB c.ge n
 replace a:=a.step n (nm1 (a.ne c (zl kr)))
 replace c:=f
 refine otx (oN 11 110 [iv d.1,iv d.2,iv p0.2] (c.at.part 0 3).2 (xM 110 [iv d.1,iv d.2,iv p0.2] a fun H A _ k=>?_))
 replace hs:=hs.trB a.ge A
 replace a:=k
 refine ot (crt ?_)
 obtain rfl:=sj p
 refine rt [.cell 2 110] [.agg #[iv d.1,iv d.2,iv p0.2]] ⟨⟨z,0,[iv d.1,iv d.2,iv p0.2],rfl,rfl,kr,kr,(a.at.part 0 3).2⟩,trivial⟩ ?_
 exact ⟨hs,rfl,s,t,x⟩
theorem zk1 {j:K} {p0:LP} {L:OA} {c2:Nat} (f3:Sl tPlaced j L c2 p0) {r:LP} (c:zfC p0=some r) :
 Fn Tryz.prog 30 #[vl L p0 c2] j (fun v p=>Step [] j p∧∃ (a4:OA) (c5:Nat),v=vl a4 r c5∧Sl tPlaced p a4 c5 r):=by
 refine fnc 23 [] Tryz.func30 Tryz.ntmps30 fun hs=>cO 1 (otx (od 2 (bE c fun b8 X c=>zdl (d:=7) (T:=49) (e:=110) (t:=tPlaced) (pub:=false) (τ:=(j.H.size,30001)) (bytes:=24) (k1:=.i64) (k2:=.i64) (m:=(p0.length:Int)) (zs:=[iv 0,iv 0,iv 0]) (z:=((0,0),0)) kr kr kr kr ⟨_,_,rfl,⟨_,_,rfl,⟨rfl,(iK 0)⟩,⟨rfl,(iK 0)⟩⟩,⟨rfl,(iK 0)⟩⟩ X hs.1 fun a9 e3 s8 b9=>?_)))
 replace hs:=hs.tr0 s8
 refine dT 1 (cs (cT 1 (cb 0 ?_)))
 refine zj 0 (fun Z=>∀ (q:LP) (s:OA) (u:Nat) (G:Env) (k:K),Step [] j k→Gr tPlaced false (j.H.size,30001) k 110 s u q→zk2 q=some r→Z (ups G [(3,vl s q u)]) k) ?_ fun J1=>?_
 ·intro q s u G k hs w c
  refine zf (zb (cT 2 (zdA w fun d5 c0 Y=>?_)))
  replace hs:=hs.trG (w.own (fz _)) c0
  replace w:=Y
  refine crt ?_
  obtain rfl:=sj c
  exact rT 2 (vl s q u) ⟨hs,_,_,rfl,w.sl⟩
 refine bE c fun c1 a0 M=>zp (F:=zdn p0) (J:=fun a E' p=>∃ (y:OA) (h:Nat),(∃ G,E'=ups G [(0,vl L p0 c2),(3,vl y a.1 h),(4,iv a.2)])∧Step [] j p∧Gr tPlaced false (j.H.size,30001) p 110 y h a.1∧I64 a.2) (s0:=(b8,0)) (x:=c1) kr a0 ⟨_,_,⟨_,eY⟩,hs,b9,(iK 0)⟩ ?_
 rintro a _ a2 ⟨y,h,⟨G,rfl⟩,hs,f,d7⟩ c8 c N
 refine cs (cT 4 ?_)
 refine cc _ c ?_ ?_
 ·intro hc c
  refine ckt (cs (cb 1 (cr (od 4 (bE c fun i a3 c=>?_)))))
  obtain ⟨c3,c4,O,P,Q,c9,n,R⟩:=(f3.step hs).idx a3
  obtain ⟨_,_,rfl,⟨_,_,rfl,⟨rfl,a5⟩,⟨rfl,a6⟩⟩,⟨rfl,a7⟩⟩:=R
  replace n:PubAt a2 c3 (c4+a.2.toNat*3) [iv i.1.1,iv i.1.2,iv i.2]:=n
  refine oi 18 31 112 3 p0.length c2 .i64 a.2 O P Q (oN 19 112 [iv i.1.1,iv i.1.2,iv i.2] (n.at.part 0 3).2 (bE c fun g a8 c=>ocl 20 (zpL a5 a6 a7 a8) ?_))
  rintro _ b0 ⟨U,rfl,b1,b2,b3⟩
  replace hs:=hs.tr0 U
  replace f:=f.step0 U
  refine bE c fun H b4 c=>?_
  obtain ⟨V,A,B,C,d0,D,S⟩:=f.idx b4
  obtain ⟨_,_,rfl,⟨_,_,rfl,⟨rfl,d9⟩,⟨rfl,e0⟩⟩,⟨rfl,e1⟩⟩:=S
  replace D:At b0 V (0+a.2.toNat*3) [iv H.1.1,iv H.1.2,iv H.2]:=D
  refine oi 21 49 110 3 a.1.length h .i64 a.2 (off:=0) A B C (bE c fun c6 I c=>zau (T:=110) (t:=tPlaced) (τ:=(j.H.size,30001)) (e:=110) (ix:=a.2) (x':=g) (b:=V) (δ:=0) (cp:=h) (l:=a.1) (vs:=[iv g.1.1,iv g.1.2,iv g.2]) (.agg #[iv g.1.1,iv g.1.2,iv g.2]) kr kr A f B C kr kr kr kr (fun cs hx=>by obtain ⟨x,_,ho⟩:=hx;rw [zM ((tPlaced.len ho).trans kr)];exact ⟨_,_,rfl,⟨_,_,rfl,⟨rfl,b1⟩,⟨rfl,b2⟩⟩,⟨rfl,b3⟩⟩) fun e2 c7 b5=>?_)
  replace hs:=hs.trG (f.own (fz _)) c7
  replace f:=b5
  replace f:=zcF I f
  have E:=zL I
  refine zam (eA 4 (v:=iv a.2) (za (t:=3) (v:=vl y c6 h) (eA 0 (v:=vl L p0 c2) rfl) (by unfold vl;rw [E];kernel_rfl))) (oe (zd (zb (cr (od 3 (oe ?_))))))
  exact ze (sj c).symm ⟨_,_,⟨_,eY⟩,hs,f,(zr _)⟩
 intro hc c
 refine cx 0 (zh ?_)
 have hx:=N _ (sj c).symm
 subst hx
 replace c:=M
 refine zi ?_
 exact zq eY (J1 a.1 _ _ _ _ hs f c)
theorem zo0 {h:K} {p0:LM} {H:OA} {c2:Nat} (f3:Sl (tSl tI64) h H c2 p0) {r:LM} (c:zhS p0=some r) :
 Fn Tryz.prog 32 #[vl H p0 c2] h (fun v k=>Step [] h k∧∃ (a4:OA) (c5:Nat),v=vl a4 r c5∧Sl (tSl tI64) k a4 c5 r):=by
 refine fnc 23 [] Tryz.func32 Tryz.ntmps32 fun hs=>cO 1 (otx (od 2 (bE c fun b5 a2 c=>zdl (d:=7) (T:=33) (e:=32) (t:=(tSl tI64)) (pub:=false) (τ:=(h.H.size,32001)) (bytes:=24) (k1:=.i64) (k2:=.i64) (m:=(p0.length:Int)) (zs:=[sl none 0 0]) (z:=[]) kr kr kr kr ⟨_,_,rfl,(Sl.nil _ _)⟩ a2 hs.1 fun a9 e2 s8 b6=>?_)))
 replace hs:=hs.tr0 s8
 refine dT 1 (cs (cT 1 (cb 0 ?_)))
 refine zj 0 (fun Z=>∀ (n:LM) (p:OA) (q:Nat) (D:Env) (i:K),Step [] h i→Gr (tSl tI64) false (h.H.size,32001) i 32 p q n→zk3 n=some r→Z (ups D [(3,vl p n q)]) i) ?_ fun J1=>?_
 ·intro n p q D i hs s c
  refine zf (zb (cT 2 (zdA s fun d7 b7 a3=>?_)))
  replace hs:=hs.trG (s.own (fz _)) b7
  replace s:=a3
  refine crt ?_
  obtain rfl:=sj c
  exact rT 2 (vl p n q) ⟨hs,_,_,rfl,s.sl⟩
 refine bE c fun b8 a5 I=>zp (F:=zdo p0) (J:=fun a E' k=>∃ (u:OA) (g:Nat),(∃ D,E'=ups D [(0,vl H p0 c2),(3,vl u a.1 g),(4,iv a.2)])∧Step [] h k∧Gr (tSl tI64) false (h.H.size,32001) k 32 u g a.1∧I64 a.2) (s0:=(b5,0)) (x:=b8) kr a5 ⟨_,_,⟨_,eY⟩,hs,b6,(iK 0)⟩ ?_
 rintro a _ a6 ⟨u,g,⟨D,rfl⟩,hs,f,d9⟩ d0 c L
 refine cs (cT 4 ?_)
 refine cc _ c ?_ ?_
 ·intro hc c
  refine ckt (cs (cb 1 (cr (od 4 (bE c fun R a7 c=>?_)))))
  obtain ⟨b9,c0,M,N,O,d2,j,P⟩:=(f3.step hs).idx a7
  obtain ⟨S,U,rfl,c1⟩:=P
  replace j:PubAt a6 b9 (c0+a.2.toNat*1) [vl S R U]:=j
  refine oi 18 33 32 1 p0.length c2 .i64 a.2 M N O (o1 19 32 (vl S R U) (j.at.one (o:=0) rfl) (bE c fun E a8 c=>ocl 20 (ziB c1 a8) ?_))
  rintro _ b0 ⟨V,X,Y,rfl,c3⟩
  replace hs:=hs.tr0 V
  replace f:=f.step0 V
  refine bE c fun c4 b1 c=>?_
  obtain ⟨a0,w,y,A,d3,B,Q⟩:=f.idx b1
  obtain ⟨c6,c7,rfl,e3⟩:=Q
  replace B:At b0 a0 (0+a.2.toNat*1) [vl c6 c4 c7]:=B
  refine oi 21 33 32 1 a.1.length g .i64 a.2 (off:=0) w y A (bE c fun c8 G c=>zau (T:=32) (t:=(tSl tI64)) (τ:=(h.H.size,32001)) (e:=32) (ix:=a.2) (x':=E) (b:=a0) (δ:=0) (cp:=g) (l:=a.1) (vs:=[vl X E Y]) (vl X E Y) kr kr w f y A kr kr kr kr (fun cs hx=>by obtain ⟨x,_,ho⟩:=hx;rw [zM (((tSl tI64).len ho).trans kr)];exact ⟨_,_,rfl,c3⟩) fun e1 c9 b2=>?_)
  replace hs:=hs.trG (f.own (fz _)) c9
  replace f:=b2
  replace f:=zcF G f
  have C:=zL G
  refine zam (eA 4 (v:=iv a.2) (za (t:=3) (v:=vl u c8 g) (eA 0 (v:=vl H p0 c2) rfl) (by unfold vl;rw [C];kernel_rfl))) (oe (zd (zb (cr (od 3 (oe ?_))))))
  exact ze (sj c).symm ⟨_,_,⟨_,eY⟩,hs,f,(zr _)⟩
 intro hc c
 refine cx 0 (zh ?_)
 have hx:=L _ (sj c).symm
 subst hx
 replace c:=I
 refine zi ?_
 exact zq eY (J1 a.1 _ _ _ _ hs f c)
theorem zqo {B:K} {p0:Int×LP×LP×LI×LM} {a2 R S J:OA} {U V X L:Nat} (b4:I64 p0.1) (f4:Sl tPlaced B a2 U p0.2.1) (f7:Sl tPlaced B R V p0.2.2.1) (b5:Sl tI64 B S X p0.2.2.2.1) (b6:Sl (tSl tI64) B J L p0.2.2.2.2) {r:(Int×LP×LP×LI×LM)} (C:zmf p0=some r) :
 Fn Tryz.prog 15 #[.agg #[iv p0.1,vl a2 p0.2.1 U,vl R p0.2.2.1 V,vl S p0.2.2.2.1 X,vl J p0.2.2.2.2 L]] B (fun v D=>Step [] B D∧∃ (Y:OA) (Z:Nat) (a0:OA) (a1:Nat) (a3:OA) (a4:Nat) (a6:OA) (a7:Nat),v=.agg #[iv r.1,vl Y r.2.1 Z,vl a0 r.2.2.1 a1,vl a3 r.2.2.2.1 a4,vl a6 r.2.2.2.2 a7]∧I64 r.1∧Sl tPlaced D Y Z r.2.1∧Sl tPlaced D a0 a1 r.2.2.1∧Sl tI64 D a3 a4 r.2.2.2.1∧Sl (tSl tI64) D a6 a7 r.2.2.2.2):=by
 refine fnc 24 [] Tryz.func15 Tryz.ntmps15 fun hs=>csr (xO 1 35 (B.H.size,15001) hs.1 [iv p0.1,vl a2 p0.2.1 U,vl R p0.2.2.1 V,vl S p0.2.2.2.1 X,vl J p0.2.2.2.2 L] fun d8 c1 b7 d=>?_)
 replace hs:=hs.tr0 b7
 refine xT 2 51 (B.H.size,15002) hs.1 [iv 0,sl none 0 0,sl none 0 0,sl none 0 0,sl none 0 0] fun b8 c2 a9 c=>?_
 replace hs:=hs.tr0 a9
 replace d:=d.step0 a9
 refine otx (xT 3 51 (B.H.size,15003) hs.1 [iv 0,sl none 0 0,sl none 0 0,sl none 0 0,sl none 0 0] fun E c4 O a=>?_)
 replace hs:=hs.tr0 O
 replace d:=d.step0 O
 replace c:=c.step0 O
 refine otx (od 1 (o1 5 2 (iv p0.1) (d.at.one (o:=0) rfl) (od 1 (zm (b:=E) (off:=0) (T:=2) (iv p0.1) [iv p0.1] [iv p0.1,sl none 0 0,sl none 0 0,sl none 0 0,sl none 0 0] kr kr a rfl kr kr kr rfl fun c5 P _ e=>?_))))
 replace hs:=hs.trB a.ge P
 replace d:=d.step P (nm1 (d.ne a (zl kr)))
 replace c:=c.step P (nm1 (c.ne a (zl kr)))
 replace a:=e
 refine otx (od 1 (o1 8 31 (vl a2 p0.2.1 U) (d.at.one (o:=1) rfl) (bE C fun h b0 C=>ocl 9 (zk1 (f4.step hs) b0) ?_)))
 rintro _ c7 ⟨M,i,j,rfl,f⟩
 replace hs:=hs.tr0 M
 replace d:=d.step0 M
 replace c:=c.step0 M
 replace a:=a.step0 M
 refine od 1 (zm (b:=E) (off:=1) (T:=49) (vl i h j) [vl i h j] [iv p0.1,vl i h j,sl none 0 0,sl none 0 0,sl none 0 0] kr kr a rfl kr kr kr rfl fun c8 N _ e=>?_)
 replace hs:=hs.trB a.ge N
 replace f:=f.step N
 replace d:=d.step N (nm1 (d.ne a (zl kr)))
 replace c:=c.step N (nm1 (c.ne a (zl kr)))
 replace a:=e
 refine otx (od 1 (o1 12 31 (vl R p0.2.2.1 V) (d.at.one (o:=2) rfl) (bE C fun k b1 C=>ocl 13 (zk1 (f7.step hs) b1) ?_)))
 rintro _ d0 ⟨F,l,m,rfl,g⟩
 replace hs:=hs.tr0 F
 replace f:=f.step F
 replace d:=d.step0 F
 replace c:=c.step0 F
 replace a:=a.step0 F
 refine od 1 (zm (b:=E) (off:=2) (T:=49) (vl l k m) [vl l k m] [iv p0.1,vl i h j,vl l k m,sl none 0 0,sl none 0 0] kr kr a rfl kr kr kr rfl fun d2 G _ e=>?_)
 replace hs:=hs.trB a.ge G
 replace f:=f.step G
 replace g:=g.step G
 replace d:=d.step G (nm1 (d.ne a (zl kr)))
 replace c:=c.step G (nm1 (c.ne a (zl kr)))
 replace a:=e
 refine otx (od 1 (o1 16 32 (vl S p0.2.2.2.1 X) (d.at.one (o:=3) rfl) (bE C fun p b2 C=>ocl 17 (ziB (b5.step hs) b2) ?_)))
 rintro _ d3 ⟨x,q,s,rfl,n⟩
 replace hs:=hs.tr0 x
 replace f:=f.step x
 replace g:=g.step x
 replace d:=d.step0 x
 replace c:=c.step0 x
 replace a:=a.step0 x
 refine od 1 (zm (b:=E) (off:=3) (T:=32) (vl q p s) [vl q p s] [iv p0.1,vl i h j,vl l k m,vl q p s,sl none 0 0] kr kr a rfl kr kr kr rfl fun d4 y _ e=>?_)
 replace hs:=hs.trB a.ge y
 replace f:=f.step y
 replace g:=g.step y
 replace n:=n.step y
 replace d:=d.step y (nm1 (d.ne a (zl kr)))
 replace c:=c.step y (nm1 (c.ne a (zl kr)))
 replace a:=e
 refine otx (od 1 (o1 20 33 (vl J p0.2.2.2.2 L) (d.at.one (o:=4) rfl) (bE C fun t b3 C=>ocl 21 (zo0 (b6.step hs) b3) ?_)))
 rintro _ d5 ⟨z,u,w,rfl,H⟩
 replace hs:=hs.tr0 z
 replace f:=f.step z
 replace g:=g.step z
 replace n:=n.step z
 replace c:=c.step0 z
 replace a:=a.step0 z
 refine od 1 (zm (b:=E) (off:=4) (T:=33) (vl u t w) [vl u t w] [iv p0.1,vl i h j,vl l k m,vl q p s,vl u t w] kr kr a rfl kr kr kr rfl fun d6 A _ e=>?_)
 replace hs:=hs.trB a.ge A
 replace f:=f.step A
 replace g:=g.step A
 replace n:=n.step A
 replace H:=H.step A
 replace c:=c.step A (nm1 (c.ne a (zl kr)))
 replace a:=e
 refine otx (oN 23 51 [iv p0.1,vl i h j,vl l k m,vl q p s,vl u t w] (a.at.part 0 5).2 (xM 51 [iv p0.1,vl i h j,vl l k m,vl q p s,vl u t w] c fun d7 I _ Q=>?_))
 replace hs:=hs.trB c.ge I
 replace f:=f.step I
 replace g:=g.step I
 replace n:=n.step I
 replace H:=H.step I
 replace c:=Q
 refine ot (crt ?_)
 obtain rfl:=sj C
 refine rt [.cell 2 51] [.agg #[iv p0.1,vl i h j,vl l k m,vl q p s,vl u t w]] ⟨⟨b8,0,[iv p0.1,vl i h j,vl l k m,vl q p s,vl u t w],rfl,rfl,kr,kr,(c.at.part 0 5).2⟩,trivial⟩ ?_
 exact ⟨hs,_,_,_,_,_,_,_,_,rfl,b4,f,g,n,H⟩
end Go.Lf
