import Derived.Test.YtfdinifiacaicaaGreatE
set_option linter.all false
set_option maxRecDepth 100000
set_option maxHeartbeats 4000000
namespace Go.Lf
open Go Go.Proofs
theorem zjr {A:K} {p0:BS×(TS×(LP)×Int)×(LP)×(Int×LP×LP×LI×LM)} {a2 a5 a8 U V X Y Z:OA} {c3 c6 c9 a0 a1 a3 a4 a6:Nat} (e6:p0.1.length≤9223372036854775807) (f4:Sl tGlue A a2 c3 p0.2.1.1.1) (f7:Sl tTile A a5 c6 p0.2.1.1.2) (e7:Sl tPlaced A a8 c9 p0.2.1.2.1) (d9:I64 p0.2.1.2.2) (e8:Sl tPlaced A U a0 p0.2.2.1) (e0:I64 p0.2.2.2.1) (e9:Sl tPlaced A V a1 p0.2.2.2.2.1) (f0:Sl tPlaced A X a3 p0.2.2.2.2.2.1) (f1:Sl tI64 A Y a4 p0.2.2.2.2.2.2.1) (f2:Sl (tSl tI64) A Z a6 p0.2.2.2.2.2.2.2) {r:(BS×(TS×(LP)×Int)×(LP)×(Int×LP×LP×LI×LM))} (S:zf4 p0=some r) :
 Fn Tryz.prog 6 #[.agg #[zy p0.1,vl a2 p0.2.1.1.1 c3,vl a5 p0.2.1.1.2 c6,vl a8 p0.2.1.2.1 c9,iv p0.2.1.2.2,vl U p0.2.2.1 a0,iv p0.2.2.2.1,vl V p0.2.2.2.2.1 a1,vl X p0.2.2.2.2.2.1 a3,vl Y p0.2.2.2.2.2.2.1 a4,vl Z p0.2.2.2.2.2.2.2 a6]] A (fun v q=>Step [] A q∧∃ (b8:OA) (b9:Nat) (c0:OA) (c1:Nat) (c2:OA) (c4:Nat) (c5:OA) (c7:Nat) (c8:OA) (d0:Nat) (d2:OA) (d3:Nat) (d4:OA) (d5:Nat) (d6:OA) (d7:Nat),v=.agg #[zy r.1,vl b8 r.2.1.1.1 b9,vl c0 r.2.1.1.2 c1,vl c2 r.2.1.2.1 c4,iv r.2.1.2.2,vl c5 r.2.2.1 c7,iv r.2.2.2.1,vl c8 r.2.2.2.2.1 d0,vl d2 r.2.2.2.2.2.1 d3,vl d4 r.2.2.2.2.2.2.1 d5,vl d6 r.2.2.2.2.2.2.2 d7]∧r.1.length≤9223372036854775807∧Sl tGlue q b8 b9 r.2.1.1.1∧Sl tTile q c0 c1 r.2.1.1.2∧Sl tPlaced q c2 c4 r.2.1.2.1∧I64 r.2.1.2.2∧Sl tPlaced q c5 c7 r.2.2.1∧I64 r.2.2.2.1∧Sl tPlaced q c8 d0 r.2.2.2.2.1∧Sl tPlaced q d2 d3 r.2.2.2.2.2.1∧Sl tI64 q d4 d5 r.2.2.2.2.2.2.1∧Sl (tSl tI64) q d6 d7 r.2.2.2.2.2.2.2):=by
 refine fnc 20 [] Tryz.func6 Tryz.ntmps6 fun hs=>csr (xO 1 37 (A.H.size,6001) hs.1 [zy p0.1,vl a2 p0.2.1.1.1 c3,vl a5 p0.2.1.1.2 c6,vl a8 p0.2.1.2.1 c9,iv p0.2.1.2.2,vl U p0.2.2.1 a0,iv p0.2.2.2.1,vl V p0.2.2.2.2.1 a1,vl X p0.2.2.2.2.2.1 a3,vl Y p0.2.2.2.2.2.2.1 a4,vl Z p0.2.2.2.2.2.2.2 a6] fun h0 g2 f3 e=>?_)
 replace hs:=hs.tr0 f3
 refine xT 2 53 (A.H.size,6002) hs.1 [zy ([]:BS),sl none 0 0,sl none 0 0,sl none 0 0,iv 0,sl none 0 0,iv 0,sl none 0 0,sl none 0 0,sl none 0 0,sl none 0 0] fun f5 g3 d8 c=>?_
 replace hs:=hs.tr0 d8
 replace e:=e.step0 d8
 refine otx (xT 3 53 (A.H.size,6003) hs.1 [zy ([]:BS),sl none 0 0,sl none 0 0,sl none 0 0,iv 0,sl none 0 0,iv 0,sl none 0 0,sl none 0 0,sl none 0 0,sl none 0 0] fun a7 g4 b0 a=>?_)
 replace hs:=hs.tr0 b0
 replace e:=e.step0 b0
 replace c:=c.step0 b0
 refine otx (od 1 (o1 5 9 (zy p0.1) (e.at.one (o:=0) rfl) (od 1 (zm (b:=a7) (off:=0) (T:=9) (zy p0.1) [zy p0.1] [zy p0.1,sl none 0 0,sl none 0 0,sl none 0 0,iv 0,sl none 0 0,iv 0,sl none 0 0,sl none 0 0,sl none 0 0,sl none 0 0] kr kr a rfl kr kr kr rfl fun g5 b1 _ g=>?_))))
 replace hs:=hs.trB a.ge b1
 replace e:=e.step b1 (nm1 (e.ne a (zl kr)))
 replace c:=c.step b1 (nm1 (c.ne a (zl kr)))
 replace a:=g
 refine otx (od 1 (oN 8 30 [vl a2 p0.2.1.1.1 c3,vl a5 p0.2.1.1.2 c6,vl a8 p0.2.1.2.1 c9,iv p0.2.1.2.2] (e.at.part 1 4).2 (bE S fun d e1 S=>ocl 9 (zpJ (f4.step hs) (f7.step hs) (e7.step hs) d9 e1) ?_)))
 rintro _ g6 ⟨a9,s,t,u,w,x,y,rfl,i,j,k,e2⟩
 replace hs:=hs.tr0 a9
 replace e:=e.step0 a9
 replace c:=c.step0 a9
 replace a:=a.step0 a9
 refine od 1 (zm (b:=a7) (off:=1) (T:=48) (.agg #[vl s d.1.1 t,vl u d.1.2 w,vl x d.2.1 y,iv d.2.2]) [vl s d.1.1 t,vl u d.1.2 w,vl x d.2.1 y,iv d.2.2] [zy p0.1,vl s d.1.1 t,vl u d.1.2 w,vl x d.2.1 y,iv d.2.2,sl none 0 0,iv 0,sl none 0 0,sl none 0 0,sl none 0 0,sl none 0 0] kr kr a rfl kr kr kr rfl fun g7 O _ g=>?_)
 replace hs:=hs.trB a.ge O
 replace i:=i.step O
 replace j:=j.step O
 replace k:=k.step O
 replace e:=e.step O (nm1 (e.ne a (zl kr)))
 replace c:=c.step O (nm1 (c.ne a (zl kr)))
 replace a:=g
 refine otx (od 1 (oN 12 28 [vl U p0.2.2.1 a0] (e.at.part 5 1).2 (bE S fun B e3 S=>ocl 13 (zkq (e8.step hs) e3) ?_)))
 rintro _ g8 ⟨E,C,D,rfl,z⟩
 replace hs:=hs.tr0 E
 replace i:=i.step E
 replace j:=j.step E
 replace k:=k.step E
 replace e:=e.step0 E
 replace c:=c.step0 E
 replace a:=a.step0 E
 refine od 1 (zm (b:=a7) (off:=5) (T:=46) (.agg #[vl C B D]) [vl C B D] [zy p0.1,vl s d.1.1 t,vl u d.1.2 w,vl x d.2.1 y,iv d.2.2,vl C B D,iv 0,sl none 0 0,sl none 0 0,sl none 0 0,sl none 0 0] kr kr a rfl kr kr kr rfl fun g9 F _ g=>?_)
 replace hs:=hs.trB a.ge F
 replace i:=i.step F
 replace j:=j.step F
 replace k:=k.step F
 replace z:=z.step F
 replace e:=e.step F (nm1 (e.ne a (zl kr)))
 replace c:=c.step F (nm1 (c.ne a (zl kr)))
 replace a:=g
 refine otx (od 1 (oN 16 35 [iv p0.2.2.2.1,vl V p0.2.2.2.2.1 a1,vl X p0.2.2.2.2.2.1 a3,vl Y p0.2.2.2.2.2.2.1 a4,vl Z p0.2.2.2.2.2.2.2 a6] (e.at.part 6 5).2 (bE S fun f e4 S=>ocl 17 (zqo e0 (e9.step hs) (f0.step hs) (f1.step hs) (f2.step hs) e4) ?_)))
 rintro _ f6 ⟨m,G,H,I,J,L,M,n,p,rfl,e5,P,Q,R,N⟩
 replace hs:=hs.tr0 m
 replace i:=i.step m
 replace j:=j.step m
 replace k:=k.step m
 replace z:=z.step m
 replace c:=c.step0 m
 replace a:=a.step0 m
 refine od 1 (zm (b:=a7) (off:=6) (T:=51) (.agg #[iv f.1,vl G f.2.1 H,vl I f.2.2.1 J,vl L f.2.2.2.1 M,vl n f.2.2.2.2 p]) [iv f.1,vl G f.2.1 H,vl I f.2.2.1 J,vl L f.2.2.2.1 M,vl n f.2.2.2.2 p] [zy p0.1,vl s d.1.1 t,vl u d.1.2 w,vl x d.2.1 y,iv d.2.2,vl C B D,iv f.1,vl G f.2.1 H,vl I f.2.2.1 J,vl L f.2.2.2.1 M,vl n f.2.2.2.2 p] kr kr a rfl kr kr kr rfl fun f8 h _ g=>?_)
 replace hs:=hs.trB a.ge h
 replace i:=i.step h
 replace j:=j.step h
 replace k:=k.step h
 replace z:=z.step h
 replace P:=P.step h
 replace Q:=Q.step h
 replace R:=R.step h
 replace N:=N.step h
 replace c:=c.step h (nm1 (c.ne a (zl kr)))
 replace a:=g
 refine otx (oN 19 53 [zy p0.1,vl s d.1.1 t,vl u d.1.2 w,vl x d.2.1 y,iv d.2.2,vl C B D,iv f.1,vl G f.2.1 H,vl I f.2.2.1 J,vl L f.2.2.2.1 M,vl n f.2.2.2.2 p] (a.at.part 0 11).2 (xM 53 [zy p0.1,vl s d.1.1 t,vl u d.1.2 w,vl x d.2.1 y,iv d.2.2,vl C B D,iv f.1,vl G f.2.1 H,vl I f.2.2.1 J,vl L f.2.2.2.1 M,vl n f.2.2.2.2 p] c fun f9 l _ b2=>?_))
 replace hs:=hs.trB c.ge l
 replace i:=i.step l
 replace j:=j.step l
 replace k:=k.step l
 replace z:=z.step l
 replace P:=P.step l
 replace Q:=Q.step l
 replace R:=R.step l
 replace N:=N.step l
 replace c:=b2
 refine ot (crt ?_)
 obtain rfl:=sj S
 refine rt [.cell 2 53] [.agg #[zy p0.1,vl s d.1.1 t,vl u d.1.2 w,vl x d.2.1 y,iv d.2.2,vl C B D,iv f.1,vl G f.2.1 H,vl I f.2.2.1 J,vl L f.2.2.2.1 M,vl n f.2.2.2.2 p]] ⟨⟨f5,0,[zy p0.1,vl s d.1.1 t,vl u d.1.2 w,vl x d.2.1 y,iv d.2.2,vl C B D,iv f.1,vl G f.2.1 H,vl I f.2.2.1 J,vl L f.2.2.2.1 M,vl n f.2.2.2.2 p],rfl,rfl,kr,kr,(c.at.part 0 11).2⟩,trivial⟩ ?_
 exact ⟨hs,_,_,_,_,_,_,_,_,_,_,_,_,_,_,_,_,rfl,e6,i,j,k,e2,z,e5,P,Q,R,N⟩
theorem zkA {f:K} {p0:BS} (y:p0.length≤9223372036854775807) {r:Bool} (a:zfL p0=some r) :
 Fn Tryz.prog 16 #[zy p0] f (fun v g=>f=g∧v=.bool r):=by
 refine fnc 55 [] Tryz.func16 Tryz.ntmps16 fun hs=>cT 1 (cs (cT 3 (cb 0 ?_)))
 refine zj 0 (fun Z=>∀ (e:Env),zkB p0=some r→Z (ups e [(0,zy p0)]) f) ?_ fun t=>?_
 ·intro e a
  refine zf (zb (cO 3 ?_))
  refine osp 50 (decide ((p0.length:Int)≥1)) a ?_ ?_
  ·intro b a
   refine oz [51,52,53] (dT 2 (crt ?_))
   obtain rfl:=sj a
   exact rT 2 ff ⟨rfl,rfl⟩
  intro b a
  refine dT 5 (crt ?_)
  obtain rfl:=sj a
  exact rT 2 (bW ((p0.length:Int)≤12)) ⟨rfl,rfl⟩
 refine bE a fun u q h=>zp (F:=zbG p0) (J:=fun c w g=>(∃ e,w=ups e [(0,zy p0),(7,iv (p0.length:Int)),(8,iv c)])∧f=g∧I64 c) (s0:=0) (x:=u) kr q ⟨⟨_,eY⟩,rfl,(iK 0)⟩ ?_
 rintro c _ _ ⟨⟨e,rfl⟩,rfl,z⟩ i a j
 refine cT 1 (cs ?_)
 refine cc _ a ?_ ?_
 ·intro n a
  refine ckt (cs (cb 1 (cO 2 (otx (od 2 (bE a fun d s a=>oq 13 (.int .u8 (d.toNat:Int)) (fun _=>zhM 9 .i64 kr kr s) (dT 1 ?_)))))))
  refine zn (fun Z=>∀ (m:Bool) (e:Env),zaY c d m=some i→cwp Tryz.prog 55 (sub (zB Tryz.f16) [1,1,1,0,0,1,1,0,0,1,0,1]) Z (ups e [(0,zy p0),(3,iv c),(4,.int .u8 (d.toNat:Int)),(5,.bool m),(7,iv (p0.length:Int)),(8,iv c)]) f) ?_ fun k=>?_
  ·intro m e a
   refine zn (fun Z=>∀ (p:Bool) (e:Env),zbH c p=some i→cwp Tryz.prog 55 (sub (zB Tryz.f16) [1,1,1,1,0,0,1,1,0,0,1,0,1]) Z (ups e [(0,zy p0),(7,iv (p0.length:Int)),(8,iv c),(45,.bool p)]) f) ?_ fun l=>?_
   ·intro p e a
    refine cc _ a ?_ ?_
    ·intro n a
     refine cT 1 (crt (zg (zc ?_)))
     have hx:=j _ (sj a).symm
     subst hx
     replace a:=h
     refine zv (zg (zc ?_))
     obtain rfl:=sj a
     exact rT 2 ff ⟨rfl,rfl⟩
    intro n a
    refine ck (zd (zb (cr (od 2 (oe ?_)))))
    exact ze (sj a).symm ⟨⟨_,eY⟩,rfl,(zr _)⟩
   refine cO 2 ?_
   refine osp 30 (!m) a ?_ ?_
   ·intro b a
    refine oz [31,32,33,34,35,36,37,38,39,40,41,42,43,44] (dT 1 ?_)
    exact zk eY (l false  _  a)
   intro b a
   refine od 2 ?_
   refine osp 33 (decide (c=0)) a ?_ ?_
   ·intro b a
    refine od 2 ?_
    refine osp 36 (decide ((d.toNat:Int)<48)) a ?_ ?_
    ·intro b a
     refine od 3 ?_
     refine osp 40 (decide ((d.toNat:Int)>57)) a ?_ ?_
     ·intro b a
      refine oz [41,42] (dT 3 ?_)
      exact zk eY (l false  _  a)
     intro b a
     refine dT 5 ?_
     exact zk eY (l (!decide ((d.toNat:Int)=95))  _  a)
    intro b a
    refine oz [37,38] (dT 7 ?_)
    exact zk eY (l (!decide ((d.toNat:Int)=95))  _  a)
   intro b a
   refine oz [34,35,36,37,38,39,40,41,42,43] (dT 2 ?_)
   exact zk eY (l true  _  a)
  refine cO 2 ?_
  refine osp 16 (decide ((d.toNat:Int)≥97)) a ?_ ?_
  ·intro b a
   refine oz [17,18] (od 4 ?_)
   refine osp 23 (decide ((d.toNat:Int)≥65)) a ?_ ?_
   ·intro b a
    refine oz [24,25] (dT 3 ?_)
    exact zk eY (k false  _  a)
   intro b a
   refine dT 5 ?_
   exact zk eY (k (decide ((d.toNat:Int)≤90))  _  a)
  intro b a
  refine od 3 ?_
  refine osp 20 (decide ((d.toNat:Int)≤122)) a ?_ ?_
  ·intro b a
   refine od 2 ?_
   refine osp 23 (decide ((d.toNat:Int)≥65)) a ?_ ?_
   ·intro b a
    refine oz [24,25] (dT 3 ?_)
    exact zk eY (k false  _  a)
   intro b a
   refine dT 5 ?_
   exact zk eY (k (decide ((d.toNat:Int)≤90))  _  a)
  intro b a
  refine oz [21,22,23,24,25,26] (dT 2 ?_)
  exact zk eY (k true  _  a)
 intro n a
 refine cx 0 (zh ?_)
 have hx:=j _ (sj a).symm
 subst hx
 replace a:=h
 refine zi ?_
 exact zq eY (t   _  a)
theorem zaS {c:K} {p0:Int} {p1:Int} {b:Int} (f:I64 p0) (g:I64 p1) (h:I64 b) {r:Bool} (a:zaI p0 p1 b=some r) :
 Fn Tryz.prog 34 #[iv p0,iv p1,iv b] c (fun v d=>c=d∧v=.bool r):=by
 refine fnc 15 [] Tryz.func34 Tryz.ntmps34 fun hs=>cO 1 (otx (od 3 ?_))
 refine osp 10 (decide (p0≥p1)) a ?_ ?_
 ·intro e a
  refine oz [11,12,13] (dT 2 (crt ?_))
  obtain rfl:=sj a
  exact rT 6 ff ⟨rfl,rfl⟩
 intro e a
 refine dT 5 (crt ?_)
 obtain rfl:=sj a
 exact rT 6 (bW (p0≤b)) ⟨rfl,rfl⟩
theorem zlS {f:K} {p0:LI} {p:OA} {c2 fi1:Nat} {p1:Int→Option Bool} {bv1 cv1:Array Value} (H:Sl tI64 f p c2 p0) (z:zcL Tryz.prog fi1=true) (I:∀ {b:K},Step [] f b→∀ {q1_0:Int} (Q:I64 q1_0) {r:Bool},p1 q1_0=some r→Fn Tryz.prog fi1 (bv1++#[iv q1_0]++cv1) b (fun v κ''=>Step [] b κ''∧v=.bool r)) {r:Int} (a:zfz p0 p1=some r) :
 Fn Tryz.prog 136 #[vl p p0 c2,.func (.func fi1) bv1 cv1] f (fun v b=>Step [] f b∧v=iv r∧I64 r):=by
 refine fnc 19 [] Tryz.func136 Tryz.ntmps136 fun hs=>cT 1 (cs (cT 3 (cb 0 ?_)))
 refine zj 0 (fun Z=>∀ (g:Env) (h:K),Step [] f h→zd0=some r→Z (g) h) ?_ fun L=>?_
 ·intro g h hs a
  refine zf (zb (cT 1 (crt ?_)))
  obtain rfl:=sj a
  exact rT 4 (iv (-1)) ⟨hs,rfl,(iK (-1))⟩
 refine bE a fun M A i=>zp (F:=zdZ p0 p1) (J:=fun c N b=>(∃ g,N=ups g [(0,vl p p0 c2),(1,.func (.func fi1) bv1 cv1),(7,iv (p0.length:Int)),(8,iv c)])∧Step [] f b∧I64 c) (s0:=0) (x:=M) kr A ⟨⟨_,eY⟩,hs,(iK 0)⟩ ?_
 rintro c _ q ⟨⟨g,rfl⟩,hs,B⟩ O a j
 refine cT 1 (cs ?_)
 refine cc _ a ?_ ?_
 ·intro s a
  refine ckt (cs (cb 1 (cO 2 (otx (od 3 (bE a fun e t a=>?_))))))
  obtain ⟨C,D,k,l,m,G,d,n⟩:=(H.step hs).idx t
  obtain ⟨rfl,u⟩:=n
  replace d:PubAt q C (D+c.toNat*1) [iv e]:=d
  refine oi 14 32 2 1 p0.length c2 .i64 c k l m (o1 15 2 (iv e) (d.at.one (o:=0) rfl) (bE a fun R y a=>?_))
  refine ocl 16 (I hs (q1_0:=e) u y) ?_ kr (fun w=>zaR (show _=(callFunc fi1 (bv1++#[iv e]++cv1)).run _ w by kernel_rfl) z)
  rintro _ P ⟨E,rfl⟩
  replace hs:=hs.tr0 E
  refine ot ?_
  refine cc _ a ?_ ?_
  ·intro s a
   refine cT 2 (crt (zg (zc ?_)))
   have hx:=j _ (sj a).symm
   subst hx
   replace a:=i
   refine zv (zg (zc ?_))
   obtain rfl:=sj a
   exact rT 4 (iv c) ⟨hs,rfl,B⟩
  intro s a
  refine ck (zd (zb (cr (od 2 (oe ?_)))))
  exact ze (sj a).symm ⟨⟨_,eY⟩,hs,(zr _)⟩
 intro s a
 refine cx 0 (zh ?_)
 have hx:=j _ (sj a).symm
 subst hx
 replace a:=i
 refine zi ?_
 exact zq rfl (L   _ _ hs  a)
theorem zkk {b:K} {p0:LI} {d:OA} {c2 fi1:Nat} {p1:Int→Option Bool} {bv1 cv1:Array Value} (g:Sl tI64 b d c2 p0) (e:zcL Tryz.prog fi1=true) (h:∀ {a:K},Step [] b a→∀ {q1_0:Int} (k:I64 q1_0) {r:Bool},p1 q1_0=some r→Fn Tryz.prog fi1 (bv1++#[iv q1_0]++cv1) a (fun v κ''=>Step [] a κ''∧v=.bool r)) {r:Bool} (c:zbS p0 p1=some r) :
 Fn Tryz.prog 105 #[vl d p0 c2,.func (.func fi1) bv1 cv1] b (fun v a=>Step [] b a∧v=.bool r):=by
 refine fnc 9 [] Tryz.func105 Tryz.ntmps105 fun hs=>cO 1 (otx (od 2 (bE c fun i f c=>ocl 7 (zlS g (fi1:=fi1) (bv1:=bv1) (cv1:=cv1) e (fun s=>h (hs.tr0 s)) f) ?_)))
 rintro _ l ⟨j,rfl,m⟩
 replace hs:=hs.tr0 j
 refine dT 2 (crt ?_)
 obtain rfl:=sj c
 exact rT 4 (bW (i≥0)) ⟨hs,rfl⟩
theorem znR {a:K} {p0:Int} {p1:LG×LT} {b c:Nat} {a2 f:OA} {d g:Nat} (h:I64 p0) (m1:At a b c [vl a2 p1.1 d,vl f p1.2 g]) (k:Sl tGlue a a2 d p1.1) (m:Sl tTile a f g p1.2) {r:Bool} (e:zbm p0 p1=some r) :
 Fn Tryz.prog 106 #[iv p0,pt b c] a (fun v i=>a=i∧v=.bool r):=by
 refine fnc 10 [] Tryz.func106 Tryz.ntmps106 fun hs=>cO 1 (otx (od 2 (o1 6 40 (vl a2 p1.1 d) ((m1.step0 hs).one (o:=0) rfl) (od 1 (bE e fun l j e=>ocl 8 (zaS h (iK 0) (zgn k.most) j) ?_)))))
 rintro _ _ ⟨rfl,rfl⟩
 refine dT 2 (crt ?_)
 obtain rfl:=sj e
 exact rT 3 (.bool (!l)) ⟨rfl,rfl⟩
theorem zpW {p:K} {p0:LG×LT} {z A:OA} {c2 t:Nat} (f3:Sl tGlue p z c2 p0.1) (f6:Sl tTile p A t p0.2) {r:Bool} (a:zgE p0=some r) :
 Fn Tryz.prog 74 #[.agg #[vl z p0.1 c2,vl A p0.2 t]] p (fun v q=>Step [] p q∧v=.bool r):=by
 refine fnc 80 [] Tryz.func74 Tryz.ntmps74 fun hs=>csr (xO 1 43 (p.H.size,74001) hs.1 [vl z p0.1 c2,vl A p0.2 t] fun B e7 s9 b=>?_)
 replace hs:=hs.tr0 s9
 refine dT 1 (cs ?_)
 refine zn (fun Z=>∀ (U:Bool) (l:Env),zga p0 U=some r→cwp Tryz.prog 80 (sub (zB Tryz.f74) [1,0,1]) Z (ups l [(1,pt B 0),(19,.bool U)]) e7) ?_ fun J1=>?_
 ·intro U l a
  refine cc _ a ?_ ?_
  ·intro u a
   refine cT 1 (crt (zc ?_))
   obtain rfl:=sj a
   exact rT 2 ff ⟨hs,rfl⟩
  intro u a
  refine ckt (csr (omk (d:=20) (T:=187) zsL zs9 (p.H.size,74002) hs.1 fun V g8 c1 f=>?_))
  replace hs:=hs.tr0 c1
  replace b:=b.step0 c1
  refine dT 1 (cs (cO 1 (o1 22 40 (vl z p0.1 c2) (b.at.one (o:=0) rfl) (dT 2 (cb 0 ?_)))))
  refine zj 0 (fun Z=>∀ (l:Env) (C:K),Step [] p C→Box (p.H.size,74001) C B [vl z p0.1 c2,vl A p0.2 t] 43→ziK p0=some r→Z (ups l [(1,pt B 0)]) C) ?_ fun J2=>?_
  ·intro l C hs b a
   refine zf (zb (csr (omk (d:=48) (T:=187) zsL zs9 (p.H.size,74004) hs.1 fun X h0 c3 c=>?_)))
   replace hs:=hs.tr0 c3
   replace b:=b.step0 c3
   refine dT 1 (cs (cO 1 (o1 50 41 (vl A p0.2 t) (b.at.one (o:=1) rfl) (dT 2 (cb 2 ?_)))))
   refine zj 2 (fun Z=>∀ (l:Env) (N:K),Step [] p N→ziJ=some r→Z (l) N) ?_ fun J3=>?_
   ·intro l N hs a
    refine zf (zb (cT 1 (crt ?_)))
    obtain rfl:=sj a
    exact rT 2 tt ⟨hs,rfl⟩
   refine bE a fun e9 c6 D=>zp (F:=zaK p0) (J:=fun m E' q=>(∃ l,E'=ups l [(1,pt B 0),(6,.map (some X)),(50,vl A p0.2 t),(51,iv (p0.2.length:Int)),(52,iv m.1)])∧Step [] p q∧I64 m.1∧Box (p.H.size,74001) q B [vl z p0.1 c2,vl A p0.2 t] 43∧Mp zsL zs9 (p.H.size,74004) q X m.2) (s0:=(0,([]:List (BS×Bool)))) (x:=e9) kr c6 ⟨⟨_,eY⟩,hs,(iK 0),b,c⟩ ?_
   rintro m _ c8 ⟨⟨l,rfl⟩,hs,h2,b,c⟩ b0 a E
   refine cT 1 (cs ?_)
   refine cc _ a ?_ ?_
   ·intro u a
    refine ckt (cs (cb 3 (csr (bE a fun i c9 a=>?_))))
    obtain ⟨f0,f1,b1,b2,b3,g5,G,b4⟩:=(f6.step hs).idx c9
    obtain ⟨_,_,rfl,⟨rfl,d0⟩,⟨L,M,rfl,w⟩⟩:=b4
    replace G:PubAt c8 f0 (f1+m.1.toNat*2) [zy i.1,vl L i.2 M]:=G
    refine oi 54 41 149 2 p0.2.length t .i64 m.1 b1 b2 b3 (oN 55 149 [zy i.1,vl L i.2 M] (G.at.part 0 2).2 (xT 8 149 (p.H.size,74005) hs.1 [zy ([]:BS),sl none 0 0] fun f2 h3 O g=>?_))
    replace hs:=hs.tr0 O
    replace w:=w.step O
    replace b:=b.step0 O
    replace c:=c.step0 O
    refine xM 149 [zy i.1,vl L i.2 M] g fun d2 P _ Y=>?_
    replace hs:=hs.trB g.ge P
    replace w:=w.step P
    replace b:=b.step P (nm1 (b.ne g (zl kr)))
    replace c:=c.step P (nm1 (c.o.ne g.o (zl kr)))
    replace g:=Y
    refine ot (cs ?_)
    refine zn (fun Z=>∀ (a0:Bool) (l:Env),zcw p0 m i a0=some b0→cwp Tryz.prog 80 (sub (zB Tryz.f74) [1,0,1,0,0,1,1,0,0,1,0,1,1,1,1,1]) Z (ups l [(1,pt B 0),(6,.map (some X)),(8,pt f2 0),(50,vl A p0.2 t),(51,iv (p0.2.length:Int)),(52,iv m.1),(71,.bool a0)]) d2) ?_ fun J4=>?_
    ·intro a0 l a
     refine cc _ a ?_ ?_
     ·intro u a
      refine cT 1 (crt (zc (zg (zc ?_))))
      have hx:=E _ (sj a).symm
      subst hx
      replace a:=D
      refine zv (zg (zc ?_))
      obtain rfl:=sj a
      exact rT 2 ff ⟨hs,rfl⟩
     intro u a
     refine ckt (cO 2 (o1 74 9 (zy i.1) (g.at.one (o:=0) rfl) (omp zsL (T:=187) (kd:=9) (e:=4) (x:=i.1) (y:=true) (v:=tt) c rfl fun h4 Q _ a2=>?_)))
     replace hs:=hs.trB c.ge Q
     replace w:=w.step Q
     replace b:=b.step Q (nm1 (b.o.ne c.o (zl kr)))
     replace g:=g.step Q (nm1 (g.o.ne c.o (zl kr)))
     replace c:=a2
     refine otx (od 1 (o1 76 32 (vl L i.2 M) (g.at.one (o:=1) rfl) (od 1 (bE a fun h9 d4 a=>ocl 78 (zkk w (fi1:=106) (bv1:=#[]) (cv1:=#[pt B 0]) kr (by intro _ s _ w0 _ hp;exact zig kr ((znR w0 (b.at.step0 s) ((f3.step hs).step s) ((f6.step hs).step s) hp).mono fun _ _ h=>⟨Step.of_eq h.1,h.2⟩)) d4) ?_))))
     rintro _ h5 ⟨a3,rfl⟩
     replace hs:=hs.tr0 a3
     replace b:=b.step0 a3
     replace c:=c.step0 a3
     refine ot ?_
     refine cc _ a ?_ ?_
     ·intro u a
      refine cT 1 (crt (zg (zc ?_)))
      have hx:=E _ (sj a).symm
      subst hx
      replace a:=D
      refine zv (zg (zc ?_))
      obtain rfl:=sj a
      exact rT 2 ff ⟨hs,rfl⟩
     intro u a
     refine ck (zd (zb (cr (od 2 (oe ?_)))))
     exact ze (sj a).symm ⟨⟨_,eY⟩,hs,(zr _),b,c⟩
    refine cO 1 (o1 57 9 (zy i.1) (g.at.one (o:=0) rfl) (bE a fun f4 d5 a=>ocl 58 (zkA d0 d5) ?_))
    rintro _ _ ⟨rfl,rfl⟩
    refine od 1 ?_
    refine osp 60 (!f4) a ?_ ?_
    ·intro H a
     refine od 2 (o1 63 9 (zy i.1) (g.at.one (o:=0) rfl) (olk zsL (d:=64) (T:=187) (kd:=9) (e:=4) (x:=i.1) (y0:=false) ff c rfl fun _ f5=>?_))
     obtain rfl:=zrV f5
     refine od 1 ?_
     refine osp 66 (((zcT m.2 i.1).getD false)) a ?_ ?_
     ·intro H a
      refine od 1 (o1 68 32 (vl L i.2 M) (g.at.one (o:=1) rfl) (dT 3 ?_))
      exact zk eY (J4 (!decide ((i.2.length:Int)=4))  _  a)
     intro H a
     refine oz [67,68,69,70] (dT 1 ?_)
     exact zk eY (J4 true  _  a)
    intro H a
    refine oz [61,62,63,64] (od 2 (oz [67,68,69,70] (dT 1 ?_)))
    exact zk eY (J4 true  _  a)
   intro u a
   refine cx 2 (zh ?_)
   have hx:=E _ (sj a).symm
   subst hx
   replace a:=D
   refine zi ?_
   exact zq rfl (J3   _ _ hs  a)
  refine bE a fun f7 d6 R=>zp (F:=zaL p0) (J:=fun n E' q=>(∃ l,E'=ups l [(1,pt B 0),(3,.map (some V)),(22,vl z p0.1 c2),(23,iv (p0.1.length:Int)),(24,iv n.1)])∧Step [] p q∧I64 n.1∧Box (p.H.size,74001) q B [vl z p0.1 c2,vl A p0.2 t] 43∧Mp zsL zs9 (p.H.size,74002) q V n.2) (s0:=(0,([]:List (BS×Bool)))) (x:=f7) kr d6 ⟨⟨_,eY⟩,hs,(iK 0),b,f⟩ ?_
  rintro n _ d7 ⟨⟨l,rfl⟩,hs,h6,b,f⟩ b5 a S
  refine cT 1 (cs ?_)
  refine cc _ a ?_ ?_
  ·intro u a
   refine ckt (cs (cb 1 (csr (bE a fun k d8 a=>?_))))
   obtain ⟨f8,f9,b6,b8,b9,g6,I,c0⟩:=(f3.step hs).idx d8
   obtain ⟨_,_,rfl,⟨rfl,d9⟩,⟨rfl,e0⟩⟩:=c0
   replace I:PubAt d7 f8 (f9+n.1.toNat*2) [zy k.1,iv k.2]:=I
   refine oi 26 40 147 2 p0.1.length c2 .i64 n.1 b6 b8 b9 (oN 27 147 [zy k.1,iv k.2] (I.at.part 0 2).2 (xT 5 147 (p.H.size,74003) hs.1 [zy ([]:BS),iv 0] fun g0 h7 a5 j=>?_))
   replace hs:=hs.tr0 a5
   replace b:=b.step0 a5
   replace f:=f.step0 a5
   refine xM 147 [zy k.1,iv k.2] j fun e1 a6 _ a7=>?_
   replace hs:=hs.trB j.ge a6
   replace b:=b.step a6 (nm1 (b.ne j (zl kr)))
   replace f:=f.step a6 (nm1 (f.o.ne j.o (zl kr)))
   replace j:=a7
   refine ot (cs ?_)
   refine zn (fun Z=>∀ (a8:Bool) (l:Env),zcv n k a8=some b5→cwp Tryz.prog 80 (sub (zB Tryz.f74) [1,0,1,0,0,1,1,0,0,1,0,1,1,1]) Z (ups l [(1,pt B 0),(3,.map (some V)),(5,pt g0 0),(22,vl z p0.1 c2),(23,iv (p0.1.length:Int)),(24,iv n.1),(43,.bool a8)]) e1) ?_ fun J5=>?_
   ·intro a8 l a
    refine cc _ a ?_ ?_
    ·intro u a
     refine cT 1 (crt (zc (zg (zc ?_))))
     have hx:=S _ (sj a).symm
     subst hx
     replace a:=R
     refine zv (zg (zc ?_))
     obtain rfl:=sj a
     exact rT 2 ff ⟨hs,rfl⟩
    intro u a
    refine ckt (cr (od 2 (o1 46 9 (zy k.1) (j.at.one (o:=0) rfl) (omp zsL (T:=187) (kd:=9) (e:=4) (x:=k.1) (y:=true) (v:=tt) f rfl fun h8 c4 _ a9=>?_))))
    replace hs:=hs.trB f.ge c4
    replace b:=b.step c4 (nm1 (b.o.ne f.o (zl kr)))
    replace f:=a9
    refine oe (zd (zb (cr (od 2 (oe ?_)))))
    exact ze (sj a).symm ⟨⟨_,eY⟩,hs,(zr _),b,f⟩
   refine cO 1 (o1 29 9 (zy k.1) (j.at.one (o:=0) rfl) (bE a fun g1 e3 a=>ocl 30 (zkA d9 e3) ?_))
   rintro _ _ ⟨rfl,rfl⟩
   refine od 1 ?_
   refine osp 32 (!g1) a ?_ ?_
   ·intro H a
    refine od 2 (o1 35 9 (zy k.1) (j.at.one (o:=0) rfl) (olk zsL (d:=36) (T:=187) (kd:=9) (e:=4) (x:=k.1) (y0:=false) ff f rfl fun _ g2=>?_))
    obtain rfl:=zrV g2
    refine od 1 ?_
    refine osp 38 (((zcT n.2 k.1).getD false)) a ?_ ?_
    ·intro H a
     refine od 1 (o1 40 2 (iv k.2) (j.at.one (o:=1) rfl) (bE a fun g3 e4 a=>ocl 41 (zaS e0 (iK 1) (iK 4) e4) ?_))
     rintro _ _ ⟨rfl,rfl⟩
     refine dT 2 ?_
     exact zk eY (J5 (!g3)  _  a)
    intro H a
    refine oz [39,40,41,42] (dT 1 ?_)
    exact zk eY (J5 true  _  a)
   intro H a
   refine oz [33,34,35,36] (od 2 (oz [39,40,41,42] (dT 1 ?_)))
   exact zk eY (J5 true  _  a)
  intro u a
  refine cx 0 (zh ?_)
  have hx:=S _ (sj a).symm
  subst hx
  replace a:=R
  refine zi ?_
  exact zq eY (J2   _ _ hs b a)
 refine cO 1 (o1 10 40 (vl z p0.1 c2) (b.at.one (o:=0) rfl) (od 2 ?_))
 refine osp 13 (decide ((p0.1.length:Int)>200)) a ?_ ?_
 ·intro H a
  refine od 1 (o1 15 41 (vl A p0.2 t) (b.at.one (o:=1) rfl) (od 1 (bE a fun g4 e5 a=>ocl 17 (zaS (zgn (f6.step hs).most) (iK 1) (iK 160) e5) ?_)))
  rintro _ _ ⟨rfl,rfl⟩
  refine dT 2 ?_
  exact zk eY (J1 (!g4)  _  a)
 intro H a
 refine oz [14,15,16,17,18] (dT 1 ?_)
 exact zk eY (J1 true  _  a)
theorem zkz {c:K} {p0:Int×Int} (d:I64 p0.1) (e:I64 p0.2) {r:Bool} (a:zeO p0=some r) :
 Fn Tryz.prog 107 #[.agg #[iv p0.1,iv p0.2]] c (fun v f=>Step [] c f∧v=.bool r):=by
 refine fnc 11 [] Tryz.func107 Tryz.ntmps107 fun hs=>csr (xO 1 103 (c.H.size,107001) hs.1 [iv p0.1,iv p0.2] fun n m i b=>?_)
 replace hs:=hs.tr0 i
 refine od 1 (otx (od 1 (o1 4 2 (iv p0.1) (b.at.one (o:=0) rfl) (bE a fun j g a=>ocl 5 (zaS d (iK (-60)) (iK 60) g) ?_))))
 rintro _ _ ⟨rfl,rfl⟩
 refine osp 6 (j) a ?_ ?_
 ·intro k a
  refine oz [7,8,9] (dT 2 (crt ?_))
  obtain rfl:=sj a
  exact rT 2 ff ⟨hs,rfl⟩
 intro k a
 refine od 1 (o1 8 2 (iv p0.2) (b.at.one (o:=1) rfl) (bE a fun l h a=>ocl 9 (zaS e (iK (-60)) (iK 60) h) ?_))
 rintro _ _ ⟨rfl,rfl⟩
 refine dT 2 (crt ?_)
 obtain rfl:=sj a
 exact rT 2 (.bool l) ⟨hs,rfl⟩
theorem zeL {b:K} {p0:Int} {p1:Int} (c:I64 p0) (g:I64 p1) {r:Bool} (a:zaA p0 p1=some r) :
 Fn Tryz.prog 108 #[iv p0,iv p1] b (fun v d=>b=d∧v=.bool r):=by
 refine fnc 9 [] Tryz.func108 Tryz.ntmps108 fun hs=>cO 1 (otx (od 3 (bE a fun f e a=>ocl 8 (zaS c (iK 0) (zr _) e) ?_)))
 rintro _ _ ⟨rfl,rfl⟩
 refine dT 1 (crt ?_)
 obtain rfl:=sj a
 exact rT 4 (.bool f) ⟨rfl,rfl⟩
theorem zrS {d:K} {p0:LI} {i:OA} {c2:Nat} (w:Sl tI64 d i c2 p0) {r:Int} (a:zkG p0=some r) :
 Fn Tryz.prog 152 #[vl i p0 c2] d (fun v e=>d=e∧v=iv r∧I64 r):=by
 refine fnc 18 [] Tryz.func152 Tryz.ntmps152 fun hs=>cO 1 (otx (dT 1 (cs (cT 3 (cb 0 ?_)))))
 refine zj 0 (fun Z=>∀ (f:Env),zi2=some r→Z (ups f [(3,iv 0)]) d) ?_ fun y=>?_
 ·intro f a
  refine zf (zb (cT 2 (crt ?_)))
  obtain rfl:=sj a
  exact rT 2 (iv 0) ⟨rfl,rfl,(iK 0)⟩
 refine bE a fun z s g=>zp (F:=zai p0) (J:=fun b A e=>(∃ f,A=ups f [(3,iv 0),(6,vl i p0 c2),(7,iv (p0.length:Int)),(8,iv b)])∧d=e∧I64 b) (s0:=0) (x:=z) kr s ⟨⟨_,eY⟩,rfl,(iK 0)⟩ ?_
 rintro b _ _ ⟨⟨f,rfl⟩,rfl,E⟩ B a h
 refine cT 1 (cs ?_)
 refine cc _ a ?_ ?_
 ·intro j a
  refine ckt (cs (cb 1 (csr (bE a fun k t a=>?_))))
  obtain ⟨C,u,l,m,n,D,c,p⟩:=w.idx t
  obtain ⟨rfl,q⟩:=p
  replace c:PubAt d C (u+b.toNat*1) [iv k]:=c
  refine oi 10 257 3 1 p0.length c2 .i64 b l m n (o1 11 3 (iv k) (c.at.one (o:=0) rfl) (od 1 (otx (dT 3 ?_))))
  refine cc _ a ?_ ?_
  ·intro j a
   refine cT 2 (crt (zg (zc ?_)))
   have hx:=h _ (sj a).symm
   subst hx
   replace a:=g
   refine zv (zg (zc ?_))
   obtain rfl:=sj a
   exact rT 2 (iv k) ⟨rfl,rfl,q⟩
  intro j a
  refine ck (zd (zb (cr (od 2 (oe ?_)))))
  exact ze (sj a).symm ⟨⟨_,eY⟩,rfl,(zr _)⟩
 intro j a
 refine cx 0 (zh ?_)
 have hx:=h _ (sj a).symm
 subst hx
 replace a:=g
 refine zi ?_
 exact zq eY (y   _  a)
theorem zrw [Fb] {d:K} {p0:LI} {i:OA} {c2:Nat} (w:Sl tI64 d i c2 p0) {r:Int} (a:zkG p0=some r) :
 Fn Tryz.prog 152 #[vl i p0 c2] d (fun v e=>d=e∧v=iv r∧I64 r):=by
 refine fnc 18 [] Tryz.func152 Tryz.ntmps152 fun hs=>cO 1 (otx (dT 1 (cs (cT 3 (cb 0 ?_)))))
 refine zj 0 (fun Z=>∀ (f:Env),zi2=some r→Z (ups f [(3,iv 0)]) d) ?_ fun y=>?_
 ·intro f a
  refine zf (zb (cT 2 (crt ?_)))
  obtain rfl:=sj a
  exact rT 2 (iv 0) ⟨rfl,rfl,(iK 0)⟩
 refine bE a fun z s g=>zp (F:=zai p0) (J:=fun b A e=>(∃ f,A=ups f [(3,iv 0),(6,vl i p0 c2),(7,iv (p0.length:Int)),(8,iv b)])∧d=e∧I64 b) (s0:=0) (x:=z) kr s ⟨⟨_,eY⟩,rfl,(iK 0)⟩ ?_
 rintro b _ _ ⟨⟨f,rfl⟩,rfl,E⟩ B a h
 refine cT 1 (cs ?_)
 refine cc _ a ?_ ?_
 ·intro j a
  refine ckt (cs (cb 1 (csr (bE a fun k t a=>?_))))
  obtain ⟨C,u,l,m,n,D,c,p⟩:=w.idx t
  obtain ⟨rfl,q⟩:=p
  replace c:PubAt d C (u+b.toNat*1) [iv k]:=c
  refine oi 10 257 3 1 p0.length c2 .i64 b l m n (o1 11 3 (iv k) (c.at.one (o:=0) rfl) (od 1 (otx (dT 3 ?_))))
  refine cc _ a ?_ ?_
  ·intro j a
   refine cT 2 (crt (zg (zc ?_)))
   have hx:=h _ (sj a).symm
   subst hx
   replace a:=g
   refine zv (zg (zc ?_))
   obtain rfl:=sj a
   exact rT 2 (iv k) ⟨rfl,rfl,q⟩
  intro j a
  refine ck (zd (zb (cr (od 2 (oe ?_)))))
  exact ze (sj a).symm ⟨⟨_,eY⟩,rfl,(zr _)⟩
 intro j a
 refine cx 0 (zh ?_)
 have hx:=h _ (sj a).symm
 subst hx
 replace a:=g
 refine zi ?_
 exact zq eY (y   _  a)
theorem zl4 {a:K} {p0:Int} (d:I64 p0) {r:Bool} (c:zgF p0=some r) :
 Fn Tryz.prog 165 #[iv p0] a (fun v b=>a=b∧v=.bool r):=by
 refine fnc 6 [] Tryz.func165 Tryz.ntmps165 fun hs=>cO 1 (otx (dT 4 (crt ?_)))
 obtain rfl:=sj c
 exact rT 2 (.bool (!decide (p0=p0))) ⟨rfl,rfl⟩
theorem zlb [Fb] {a:K} {p0:Int} {r:Bool} (c:zgF p0=some r) :
 Fn Tryz.prog 165 #[iv p0] a (fun v b=>a=b∧v=.bool r):=by
 refine fnc 6 [] Tryz.func165 Tryz.ntmps165 fun hs=>cO 1 (otx (dT 4 (crt ?_)))
 obtain rfl:=sj c
 exact rT 2 (.bool (!decide (p0=p0))) ⟨rfl,rfl⟩
theorem zkH {c:K} {p0:Int} {p1:Int} (d:I64 p0) (e:I64 p1) {r:Int} (a:zcZ p0 p1=some r) :
 Fn Tryz.prog 153 #[iv p0,iv p1] c (fun v f=>c=f∧v=iv r∧I64 r):=by
 refine fnc 20 [] Tryz.func153 Tryz.ntmps153 fun hs=>cO 1 (otx (od 1 (bE a fun i g a=>ocl 8 (zl4 d g) ?_)))
 rintro _ _ ⟨rfl,rfl⟩
 refine od 1 (otx (od 1 (bE a fun j h a=>ocl 10 (zl4 e h) ?_)))
 rintro _ _ ⟨rfl,rfl⟩
 refine dT 1 (cs (cT 1 ?_))
 refine cc _ a ?_ ?_
 ·intro b a
  refine cs (cT 1 ?_)
  refine cc _ a ?_ ?_
  ·intro b a
   refine cT 1 (crt (zc (zc ?_)))
   obtain rfl:=sj a
   exact rT 4 (iv 0) ⟨rfl,rfl,(iK 0)⟩
  intro b a
  refine ckt (cT 1 (crt (zc ?_)))
  obtain rfl:=sj a
  exact rT 4 (iv (-1)) ⟨rfl,rfl,(iK (-1))⟩
 intro b a
 refine ckt (cs (cT 1 ?_))
 refine cc _ a ?_ ?_
 ·intro b a
  refine cT 1 (crt (zc ?_))
  obtain rfl:=sj a
  exact rT 4 (iv 1) ⟨rfl,rfl,(iK 1)⟩
 intro b a
 refine ckt (cs (cT 3 ?_))
 refine cc _ a ?_ ?_
 ·intro b a
  refine cT 1 (crt (zc ?_))
  obtain rfl:=sj a
  exact rT 4 (iv (-1)) ⟨rfl,rfl,(iK (-1))⟩
 intro b a
 refine ckt (cs (cT 3 ?_))
 refine cc _ a ?_ ?_
 ·intro b a
  refine cT 1 (crt (zc ?_))
  obtain rfl:=sj a
  exact rT 4 (iv 1) ⟨rfl,rfl,(iK 1)⟩
 intro b a
 refine ckt (cT 1 (crt ?_))
 obtain rfl:=sj a
 exact rT 4 (iv 0) ⟨rfl,rfl,(iK 0)⟩
theorem zjH [Fb] {c:K} {p0:Int} {p1:Int} {r:Int} (a:zcZ p0 p1=some r) :
 Fn Tryz.prog 153 #[iv p0,iv p1] c (fun v d=>c=d∧v=iv r∧I64 r):=by
 refine fnc 20 [] Tryz.func153 Tryz.ntmps153 fun hs=>cO 1 (otx (od 1 (bE a fun g e a=>ocl 8 (zlb e) ?_)))
 rintro _ _ ⟨rfl,rfl⟩
 refine od 1 (otx (od 1 (bE a fun h f a=>ocl 10 (zlb f) ?_)))
 rintro _ _ ⟨rfl,rfl⟩
 refine dT 1 (cs (cT 1 ?_))
 refine cc _ a ?_ ?_
 ·intro b a
  refine cs (cT 1 ?_)
  refine cc _ a ?_ ?_
  ·intro b a
   refine cT 1 (crt (zc (zc ?_)))
   obtain rfl:=sj a
   exact rT 4 (iv 0) ⟨rfl,rfl,(iK 0)⟩
  intro b a
  refine ckt (cT 1 (crt (zc ?_)))
  obtain rfl:=sj a
  exact rT 4 (iv (-1)) ⟨rfl,rfl,(iK (-1))⟩
 intro b a
 refine ckt (cs (cT 1 ?_))
 refine cc _ a ?_ ?_
 ·intro b a
  refine cT 1 (crt (zc ?_))
  obtain rfl:=sj a
  exact rT 4 (iv 1) ⟨rfl,rfl,(iK 1)⟩
 intro b a
 refine ckt (cs (cT 3 ?_))
 refine cc _ a ?_ ?_
 ·intro b a
  refine cT 1 (crt (zc ?_))
  obtain rfl:=sj a
  exact rT 4 (iv (-1)) ⟨rfl,rfl,(iK (-1))⟩
 intro b a
 refine ckt (cs (cT 3 ?_))
 refine cc _ a ?_ ?_
 ·intro b a
  refine cT 1 (crt (zc ?_))
  obtain rfl:=sj a
  exact rT 4 (iv 1) ⟨rfl,rfl,(iK 1)⟩
 intro b a
 refine ckt (cT 1 (crt ?_))
 obtain rfl:=sj a
 exact rT 4 (iv 0) ⟨rfl,rfl,(iK 0)⟩
theorem zii {c:K} {p0:Int×Int} {p1:Int×Int} (s:I64 p0.1) (u:I64 p0.2) (w:I64 p1.1) (x:I64 p1.2) {r:Int} (b:zag p0 p1=some r) :
 Fn Tryz.prog 137 #[.agg #[iv p0.1,iv p0.2],.agg #[iv p1.1,iv p1.2]] c (fun v y=>Step [] c y∧v=iv r∧I64 r):=by
 refine fnc 17 [] Tryz.func137 Tryz.ntmps137 fun hs=>csr (xO 2 103 (c.H.size,137001) hs.1 [iv p0.1,iv p0.2] fun H F C a=>?_)
 replace hs:=hs.tr0 C
 refine xO 3 103 (c.H.size,137002) hs.1 [iv p1.1,iv p1.2] fun I D i f=>?_
 replace hs:=hs.tr0 i
 replace a:=a.step0 i
 refine dT 1 (cs (cd 9 (dd 1 (d1 6 2 (iv p0.2) (a.at.one (o:=1) rfl) (dd 1 (d1 8 2 (iv p1.2) (f.at.one (o:=1) rfl) (bE b fun g j b=>dc 9 (zkH u x j) fun k=>dd 1 (d1 11 2 (iv p0.1) (a.at.one (o:=0) rfl) (dd 1 (d1 13 2 (iv p1.1) (f.at.one (o:=0) rfl) (de (bE b fun h m b=>ocl 14 (zkH s w m) ?_))))))))))))
 rintro _ _ ⟨rfl,rfl,n⟩
 refine zJ (d:=15) (T:=257) (e:=3) (t:=tI64) (pub:=true) (τ:=(c.H.size,137003)) (len:=2) (l:=[g,h]) (parts:=#[(0,iv g),(1,iv h)]) (cs:=[iv g,iv h]) kr kr kr kr hs.1 rfl ⟨_,_,rfl,⟨rfl,k⟩,⟨_,_,rfl,⟨rfl,n⟩,rfl⟩⟩ kr fun G E z A=>?_
 replace hs:=hs.tr0 z
 refine bE b fun B p b=>ocl 16 (zrS A.sl p) ?_
 rintro _ _ ⟨rfl,rfl,q⟩
 refine dT 1 (crt ?_)
 obtain rfl:=sj b
 exact rT 4 (iv B) ⟨hs,rfl,q⟩
theorem zh7 [Fb] {c:K} {p0:Int×Int} {p1:Int×Int} {r:Int} (b:zag p0 p1=some r) :
 Fn Tryz.prog 137 #[.agg #[iv p0.1,iv p0.2],.agg #[iv p1.1,iv p1.2]] c (fun v s=>Step [] c s∧v=iv r∧I64 r):=by
 refine fnc 17 [] Tryz.func137 Tryz.ntmps137 fun hs=>csr (xO 2 103 (c.H.size,137001) hs.1 [iv p0.1,iv p0.2] fun D B y a=>?_)
 replace hs:=hs.tr0 y
 refine xO 3 103 (c.H.size,137002) hs.1 [iv p1.1,iv p1.2] fun E z i f=>?_
 replace hs:=hs.tr0 i
 replace a:=a.step0 i
 refine dT 1 (cs (cd 9 (dd 1 (d1 6 2 (iv p0.2) (a.at.one (o:=1) rfl) (dd 1 (d1 8 2 (iv p1.2) (f.at.one (o:=1) rfl) (bE b fun g j b=>dc 9 (zjH j) fun k=>dd 1 (d1 11 2 (iv p0.1) (a.at.one (o:=0) rfl) (dd 1 (d1 13 2 (iv p1.1) (f.at.one (o:=0) rfl) (de (bE b fun h m b=>ocl 14 (zjH m) ?_))))))))))))
 rintro _ _ ⟨rfl,rfl,n⟩
 refine zJ (d:=15) (T:=257) (e:=3) (t:=tI64) (pub:=true) (τ:=(c.H.size,137003)) (len:=2) (l:=[g,h]) (parts:=#[(0,iv g),(1,iv h)]) (cs:=[iv g,iv h]) kr kr kr kr hs.1 rfl ⟨_,_,rfl,⟨rfl,k⟩,⟨_,_,rfl,⟨rfl,n⟩,rfl⟩⟩ kr fun C A u w=>?_
 replace hs:=hs.tr0 u
 refine bE b fun x p b=>ocl 16 (zrw w.sl p) ?_
 rintro _ _ ⟨rfl,rfl,q⟩
 refine dT 1 (crt ?_)
 obtain rfl:=sj b
 exact rT 4 (iv x) ⟨hs,rfl,q⟩
theorem zpb {b:K} {p0:Int×Int} {p1:Int×Int} (g:I64 p0.1) (h:I64 p0.2) (i:I64 p1.1) (j:I64 p1.2) {r:Bool} (d:zia p0 p1=some r) :
 Fn Tryz.prog 109 #[.agg #[iv p0.1,iv p0.2],.agg #[iv p1.1,iv p1.2]] b (fun v k=>Step [] b k∧v=.bool r):=by
 refine fnc 9 [] Tryz.func109 Tryz.ntmps109 fun hs=>csr (xO 2 103 (b.H.size,109001) hs.1 [iv p0.1,iv p0.2] fun u s n a=>?_)
 replace hs:=hs.tr0 n
 refine xO 3 103 (b.H.size,109002) hs.1 [iv p1.1,iv p1.2] fun w t c e=>?_
 replace hs:=hs.tr0 c
 replace a:=a.step0 c
 refine od 1 (otx (oN 5 103 [iv p0.1,iv p0.2] (a.at.part 0 2).2 (oN 6 103 [iv p1.1,iv p1.2] (e.at.part 0 2).2 (bE d fun l f d=>ocl 7 (zii g h i j f) ?_))))
 rintro _ p ⟨m,rfl,q⟩
 replace hs:=hs.tr0 m
 refine dT 2 (crt ?_)
 obtain rfl:=sj d
 exact rT 4 (bW (l<0)) ⟨hs,rfl⟩
theorem zqy {f:K} {p0:LP} {g:OA} {c2:Nat} (f3:Sl tPlaced f g c2 p0) {r:Bool} (b:zjX p0=some r) :
 Fn Tryz.prog 75 #[.agg #[vl g p0 c2]] f (fun v n=>Step [] f n∧v=.bool r):=by
 refine fnc 45 [] Tryz.func75 Tryz.ntmps75 fun hs=>csr (xO 1 46 (f.H.size,75001) hs.1 [vl g p0 c2] fun m c7 s6 a=>?_)
 replace hs:=hs.tr0 s6
 refine dT 1 (cs (cO 1 (o1 6 44 (vl g p0 c2) (a.at.one (o:=0) rfl) (dT 2 (cb 0 ?_)))))
 refine zj 0 (fun Z=>∀ (k:Env) (p:K),Step [] f p→Box (f.H.size,75001) p m [vl g p0 c2] 46→zjw p0=some r→Z (ups k [(1,pt m 0)]) p) ?_ fun J1=>?_
 ·intro k p hs a b
  refine zf (zb (cO 1 (o1 42 44 (vl g p0 c2) (a.at.one (o:=0) rfl) (dT 3 (crt ?_)))))
  obtain rfl:=sj b
  exact rT 2 (bW ((p0.length:Int)≤500)) ⟨hs,rfl⟩
 refine bE b fun b2 X q=>zp (F:=za6 p0) (J:=fun c E' n=>(∃ k,E'=ups k [(1,pt m 0),(6,vl g p0 c2),(7,iv (p0.length:Int)),(8,iv c)])∧Step [] f n∧I64 c∧Box (f.H.size,75001) n m [vl g p0 c2] 46) (s0:=0) (x:=b2) kr X ⟨⟨_,eY⟩,hs,(iK 0),a⟩ ?_
 rintro c _ Y ⟨⟨k,rfl⟩,hs,c8,a⟩ D b s
 refine cT 1 (cs ?_)
 refine cc _ b ?_ ?_
 ·intro hc b
  refine ckt (cs (cb 1 (cO 1 (bE b fun e a2 b=>?_))))
  obtain ⟨b3,b5,E,G,H,b7,h,I⟩:=(f3.step hs).idx a2
  obtain ⟨_,_,rfl,⟨_,_,rfl,⟨rfl,u⟩,⟨rfl,w⟩⟩,⟨rfl,a3⟩⟩:=I
  replace h:PubAt Y b3 (b5+c.toNat*3) [iv e.1.1,iv e.1.2,iv e.2]:=h
  refine oi 11 44 105 3 p0.length c2 .i64 c E G H (oN 12 105 [iv e.1.1,iv e.1.2,iv e.2] (h.at.part 0 3).2 (xT 4 105 (f.H.size,75002) hs.1 [iv 0,iv 0,iv 0] fun y c3 Q d=>?_))
  replace hs:=hs.tr0 Q
  replace a:=a.step0 Q
  refine od 1 (xM 105 [iv e.1.1,iv e.1.2,iv e.2] d fun c4 R _ z=>?_)
  replace hs:=hs.trB d.ge R
  replace a:=a.step R (nm1 (a.ne d (zl kr)))
  replace d:=z
  refine ot ?_
  refine zn (fun Z=>∀ (A:Bool) (k:Env) (i:K),Step [] f i→Box (f.H.size,75001) i m [vl g p0 c2] 46→zb2 c A=some D→cwp Tryz.prog 45 (sub (zB Tryz.f75) [1,1,0,0,1,1,0,0,1,0,1]) Z (ups k [(1,pt m 0),(6,vl g p0 c2),(7,iv (p0.length:Int)),(8,iv c),(39,.bool A)]) i) ?_ fun L=>?_
  ·intro A k i hs a b
   refine cc _ b ?_ ?_
   ·intro hc b
    refine cT 1 (crt (zg (zc ?_)))
    have hx:=s _ (sj b).symm
    subst hx
    replace b:=q
    refine zv (zg (zc ?_))
    obtain rfl:=sj b
    exact rT 2 ff ⟨hs,rfl⟩
   intro hc b
   refine ck (zd (zb (cr (od 2 (oe ?_)))))
   exact ze (sj b).symm ⟨⟨_,eY⟩,hs,(zr _),a⟩
  refine cs (cx_ 23 [0,1,2,3,4,5,6,7,8,9,10,11,12,13,14,15,16,17,18,19,20,21,22] [2,7] 23 [] (xp 13 (pt y 0) (xN 14 103 [iv e.1.1,iv e.1.2] d.at 0 2 rfl (bE b fun S a4 b=>xcl 15 (zkz u w a4) ?_))))
  rintro _ a5 ⟨t,rfl⟩
  refine ⟨t,?_⟩
  replace hs:=hs.tr0 t
  replace a:=a.step0 t
  replace d:=d.step0 t
  refine xp 16 (.bool (!S)) ?_
  refine xsp 17 (!S) b ?_ ?_
  ·intro B b
   refine xp 18 (pt y 2) (x1 19 2 (iv e.2) d.at 2 rfl (bE b fun C a6 b=>xcl 20 (zeL a3 (iK 160) a6) ?_))
   rintro _ _ ⟨rfl,rfl⟩
   refine ⟨Step.refl _ _,?_⟩
   refine xp 21 (.bool (!C)) (xp 22 (.bool (!C)) ?_)
   refine xsp 23 (!C) b ?_ ?_
   ·intro B b
    refine xp 24 (iv c) (xp 25 (bW (c>0)) ?_)
    refine xsp 26 (decide (c>0)) b ?_ ?_
    ·intro B b
     refine xs 27 (xs 28 (xs 29 (xs 30 (xs 31 (xs 32 (xs 33 (xs 34 (xs 35 (xe (oz [36,37] (dT 2 ?_)))))))))))
     exact zk eY (L false  _ _ hs a b)
    intro B b
    refine xp 27 (pt m 0) (x1 28 44 (vl g p0 c2) a.at 0 rfl (xp 29 (iv c) (xp 30 (iv (w64 (c - 1))) (bE b fun l a7 b=>?_))))
    obtain ⟨T,U,M,N,O,b8,j,P⟩:=(f3.step hs).idx a7
    obtain ⟨_,_,rfl,⟨_,_,rfl,⟨rfl,a8⟩,⟨rfl,a9⟩⟩,⟨rfl,c5⟩⟩:=P
    replace j:PubAt a5 T (U+(w64 (c - 1)).toNat*3) [iv l.1.1,iv l.1.2,iv l.2]:=j
    refine xi 31 44 105 3 p0.length c2 .i64 (w64 (c - 1)) M N O (xp 32 (pt T (U+(w64 (c - 1)).toNat*3)) (xN 33 103 [iv l.1.1,iv l.1.2] j.at 0 2 rfl (xp 34 (pt y 0) (xN 35 103 [iv e.1.1,iv e.1.2] d.at 0 2 rfl (xe (bE b fun b6 b0 b=>ocl 36 (zpb a8 a9 u w b0) ?_))))))
    rintro _ c6 ⟨V,rfl⟩
    replace hs:=hs.tr0 V
    replace a:=a.step0 V
    refine dT 3 ?_
    exact zk eY (L (!b6)  _ _ hs a b)
   intro B b
   refine xs 24 (xs 25 (xs 26 (xs 27 (xs 28 (xs 29 (xs 30 (xs 31 (xs 32 (xs 33 (xs 34 (xs 35 (xe (oz [36,37,38] (dT 1 ?_))))))))))))))
   exact zk eY (L true  _ _ hs a b)
  intro B b
  refine xs 18 (xs 19 (xs 20 (xs 21 (xp 22 tt (xp 23 tt (xs 24 (xs 25 (xs 26 (xs 27 (xs 28 (xs 29 (xs 30 (xs 31 (xs 32 (xs 33 (xs 34 (xs 35 (xe (oz [36,37,38] (dT 1 ?_))))))))))))))))))))
  exact zk eY (L true  _ _ hs a b)
 intro hc b
 refine cx 0 (zh ?_)
 have hx:=s _ (sj b).symm
 subst hx
 replace b:=q
 refine zi ?_
 exact zq eY (J1   _ _ hs a b)
theorem zhi {i:K} {p0:LP} {p:OA} {c2 fi1:Nat} {p1:((Int×Int)×Int)→Option Bool} {bv1 cv1:Array Value} (N:Sl tPlaced i p c2 p0) (C:zcL Tryz.prog fi1=true) (O:∀ {d:K},Step [] i d→∀ {q1_0:(Int×Int)×Int} (S:I64 q1_0.1.1) (T:I64 q1_0.1.2) (U:I64 q1_0.2) {r:Bool},p1 q1_0=some r→Fn Tryz.prog fi1 (bv1++#[.agg #[iv q1_0.1.1,iv q1_0.1.2,iv q1_0.2]]++cv1) d (fun v κ''=>Step [] d κ''∧v=.bool r)) {r:Int} (a:zaH p0 p1=some r) :
 Fn Tryz.prog 110 #[vl p p0 c2,.func (.func fi1) bv1 cv1] i (fun v d=>Step [] i d∧v=iv r∧I64 r):=by
 refine fnc 19 [] Tryz.func110 Tryz.ntmps110 fun hs=>cT 1 (cs (cT 3 (cb 0 ?_)))
 refine zj 0 (fun Z=>∀ (j:Env) (f:K),Step [] i f→zbR=some r→Z (j) f) ?_ fun P=>?_
 ·intro j f hs a
  refine zf (zb (cT 1 (crt ?_)))
  obtain rfl:=sj a
  exact rT 4 (iv (-1)) ⟨hs,rfl,(iK (-1))⟩
 refine bE a fun D q g=>zp (F:=zbQ p0 p1) (J:=fun c Q d=>(∃ j,Q=ups j [(0,vl p p0 c2),(1,.func (.func fi1) bv1 cv1),(7,iv (p0.length:Int)),(8,iv c)])∧Step [] i d∧I64 c) (s0:=0) (x:=D) kr q ⟨⟨_,eY⟩,hs,(iK 0)⟩ ?_
 rintro c _ s ⟨⟨j,rfl⟩,hs,E⟩ L a h
 refine cT 1 (cs ?_)
 refine cc _ a ?_ ?_
 ·intro t a
  refine ckt (cs (cb 1 (cO 2 (otx (od 3 (bE a fun b u a=>?_))))))
  obtain ⟨G,H,k,l,m,M,e,n⟩:=(N.step hs).idx u
  obtain ⟨_,_,rfl,⟨_,_,rfl,⟨rfl,y⟩,⟨rfl,z⟩⟩,⟨rfl,A⟩⟩:=n
  replace e:PubAt s G (H+c.toNat*3) [iv b.1.1,iv b.1.2,iv b.2]:=e
  refine oi 14 44 105 3 p0.length c2 .i64 c k l m (oN 15 105 [iv b.1.1,iv b.1.2,iv b.2] (e.at.part 0 3).2 (bE a fun V B a=>?_))
  refine ocl 16 (O hs (q1_0:=b) y z A B) ?_ kr (fun w=>zaR (show _=(callFunc fi1 (bv1++#[.agg #[iv b.1.1,iv b.1.2,iv b.2]]++cv1)).run _ w by kernel_rfl) C)
  rintro _ R ⟨I,rfl⟩
  replace hs:=hs.tr0 I
  refine ot ?_
  refine cc _ a ?_ ?_
  ·intro t a
   refine cT 2 (crt (zg (zc ?_)))
   have hx:=h _ (sj a).symm
   subst hx
   replace a:=g
   refine zv (zg (zc ?_))
   obtain rfl:=sj a
   exact rT 4 (iv c) ⟨hs,rfl,E⟩
  intro t a
  refine ck (zd (zb (cr (od 2 (oe ?_)))))
  exact ze (sj a).symm ⟨⟨_,eY⟩,hs,(zr _)⟩
 intro t a
 refine cx 0 (zh ?_)
 have hx:=h _ (sj a).symm
 subst hx
 replace a:=g
 refine zi ?_
 exact zq rfl (P   _ _ hs  a)
theorem zkL {b:K} {p0:LP} {d:OA} {c2 fi1:Nat} {p1:((Int×Int)×Int)→Option Bool} {bv1 cv1:Array Value} (h:Sl tPlaced b d c2 p0) (e:zcL Tryz.prog fi1=true) (i:∀ {a:K},Step [] b a→∀ {q1_0:(Int×Int)×Int} (k:I64 q1_0.1.1) (l:I64 q1_0.1.2) (m:I64 q1_0.2) {r:Bool},p1 q1_0=some r→Fn Tryz.prog fi1 (bv1++#[.agg #[iv q1_0.1.1,iv q1_0.1.2,iv q1_0.2]]++cv1) a (fun v κ''=>Step [] a κ''∧v=.bool r)) {r:Bool} (c:zen p0 p1=some r) :
 Fn Tryz.prog 76 #[vl d p0 c2,.func (.func fi1) bv1 cv1] b (fun v a=>Step [] b a∧v=.bool r):=by
 refine fnc 9 [] Tryz.func76 Tryz.ntmps76 fun hs=>cO 1 (otx (od 2 (bE c fun j f c=>ocl 7 (zhi h (fi1:=fi1) (bv1:=bv1) (cv1:=cv1) e (fun s=>i (hs.tr0 s)) f) ?_)))
 rintro _ n ⟨g,rfl,p⟩
 replace hs:=hs.tr0 g
 refine dT 2 (crt ?_)
 obtain rfl:=sj c
 exact rT 4 (bW (j≥0)) ⟨hs,rfl⟩
theorem zh8 {a:K} {p0:LG×LT} {d b:OA} {c2 c:Nat} {p1:Int} (m:Sl tGlue a d c2 p0.1) (f6:Sl tTile a b c p0.2) (h:I64 p1) {r:Bool} (e:za3 p0 p1=some r) :
 Fn Tryz.prog 78 #[.agg #[vl d p0.1 c2,vl b p0.2 c],iv p1] a (fun v i=>Step [] a i∧v=.bool r):=by
 refine fnc 10 [] Tryz.func78 Tryz.ntmps78 fun hs=>csr (xO 2 43 (a.H.size,78001) hs.1 [vl d p0.1 c2,vl b p0.2 c] fun n l j f=>?_)
 replace hs:=hs.tr0 j
 refine od 1 (otx (od 2 (o1 7 41 (vl b p0.2 c) (f.at.one (o:=1) rfl) (od 1 (bE e fun k g e=>ocl 9 (zeL h (zgn (f6.step hs).most) g) ?_)))))
 rintro _ _ ⟨rfl,rfl⟩
 refine dT 1 (crt ?_)
 obtain rfl:=sj e
 exact rT 4 (.bool k) ⟨hs,rfl⟩
theorem zlC {a:K} {p0:(Int×Int)×Int} {p1:LG×LT} {c d:Nat} {e f:OA} {g h:Nat} (u:I64 p0.1.1) (w:I64 p0.1.2) (k:I64 p0.2) (m1:At a c d [vl e p1.1 g,vl f p1.2 h]) (f6:Sl tGlue a e g p1.1) (q:Sl tTile a f h p1.2) {r:Bool} (i:zaw p0 p1=some r) :
 Fn Tryz.prog 77 #[.agg #[iv p0.1.1,iv p0.1.2,iv p0.2],pt c d] a (fun v l=>Step [] a l∧v=.bool r):=by
 refine fnc 9 [] Tryz.func77 Tryz.ntmps77 fun hs=>csr (xO 2 105 (a.H.size,77001) hs.1 [iv p0.1.1,iv p0.1.2,iv p0.2] fun x s m b=>?_)
 replace hs:=hs.tr0 m
 refine od 1 (otx (oN 4 43 [vl e p1.1 g,vl f p1.2 h] ((m1.step0 hs).part 0 2).2 (od 1 (o1 6 2 (iv p0.2) (b.at.one (o:=2) rfl) (bE i fun n j i=>ocl 7 (zh8 (f6.step hs) (q.step hs) k j) ?_)))))
 rintro _ t ⟨p,rfl⟩
 replace hs:=hs.tr0 p
 refine dT 2 (crt ?_)
 obtain rfl:=sj i
 exact rT 3 (.bool (!n)) ⟨hs,rfl⟩
theorem zcP {d:K} {p0:LG×LT} {i j e:OA} {c2 k f:Nat} {p1:LP} (t:Sl tGlue d i c2 p0.1) (f6:Sl tTile d j k p0.2) (u:Sl tPlaced d e f p1) {r:Bool} (c:z1 p0 p1=some r) :
 Fn Tryz.prog 54 #[.agg #[vl i p0.1 c2,vl j p0.2 k],.agg #[vl e p1 f]] d (fun v w=>Step [] d w∧v=.bool r):=by
 refine fnc 18 [] Tryz.func54 Tryz.ntmps54 fun hs=>csr (xO 2 43 (d.H.size,54001) hs.1 [vl i p0.1 c2,vl j p0.2 k] fun x D y a=>?_)
 replace hs:=hs.tr0 y
 refine xO 3 46 (d.H.size,54002) hs.1 [vl e p1 f] fun L E l b=>?_
 replace hs:=hs.tr0 l
 replace a:=a.step0 l
 refine od 1 (otx (oN 5 43 [vl i p0.1 c2,vl j p0.2 k] (a.at.part 0 2).2 (bE c fun z m c=>ocl 6 (zpW (t.step hs) (f6.step hs) m) ?_)))
 rintro _ F ⟨g,rfl⟩
 replace hs:=hs.tr0 g
 replace a:=a.step0 g
 replace b:=b.step0 g
 refine osp 7 (z) c ?_ ?_
 ·intro n c
  refine oz [8,9] (od 2 (oz [12,13,14,15,16] (dT 2 (crt ?_))))
  obtain rfl:=sj c
  exact rT 4 ff ⟨hs,rfl⟩
 intro n c
 refine oN 8 46 [vl e p1 f] (b.at.part 0 1).2 (bE c fun A p c=>ocl 9 (zqy (u.step hs) p) ?_)
 rintro _ G ⟨h,rfl⟩
 replace hs:=hs.tr0 h
 replace a:=a.step0 h
 replace b:=b.step0 h
 refine od 1 ?_
 refine osp 11 (A) c ?_ ?_
 ·intro n c
  refine oz [12,13,14,15,16] (dT 2 (crt ?_))
  obtain rfl:=sj c
  exact rT 4 ff ⟨hs,rfl⟩
 intro n c
 refine od 1 (o1 13 44 (vl e p1 f) (b.at.one (o:=0) rfl) (od 1 (bE c fun B q c=>ocl 15 (zkL (u.step hs) (fi1:=77) (bv1:=#[]) (cv1:=#[pt x 0]) kr (by intro _ s _ w0 H I _ hp;exact zig kr ((zlC w0 H I (a.at.step0 s) ((t.step hs).step s) ((f6.step hs).step s) hp))) q) ?_)))
 rintro _ J ⟨C,rfl⟩
 replace hs:=hs.tr0 C
 refine dT 3 (crt ?_)
 obtain rfl:=sj c
 exact rT 4 (.bool (!B)) ⟨hs,rfl⟩
theorem zmK {b:K} {p0:Int} (c:I64 p0) {r:Bool} (a:zev p0=some r) :
 Fn Tryz.prog 103 #[iv p0] b (fun v d=>b=d∧v=.bool r):=by
 refine fnc 5 [] Tryz.func103 Tryz.ntmps103 fun hs=>cO 1 (otx (od 1 (bE a fun f e a=>ocl 4 (zaS c (iK 1) (iK 16) e) ?_)))
 rintro _ _ ⟨rfl,rfl⟩
 refine dT 1 (crt ?_)
 obtain rfl:=sj a
 exact rT 2 (.bool f) ⟨rfl,rfl⟩
theorem zpU {i:K} {p0:Int} {p1:LB} {a2:OA} {c3:Nat} (s1:I64 p0) (f4:Sl zT i a2 c3 p1) {r:LM} (f:zi0 p0 p1=some r) :
 Fn Tryz.prog 144 #[iv p0,vl a2 p1 c3] i (fun v s=>Step [] i s∧∃ (a5:OA) (c6:Nat),v=vl a5 r c6∧Sl (tSl tI64) s a5 c6 r):=by
 refine fnc 118 [] Tryz.func144 Tryz.ntmps144 fun hs=>cO 1 (otx (od 1 (bE f fun x8 m4 f=>zzt (τ:=(i.H.size,144001)) (d:=18) (T:=244) (eP:=245) (bytes:=8) (k1:=.i64) (k2:=.i64) (m:=p0) 247 kr kr m4 hs.1 fun p s2 m5 c=>?_)))
 replace hs:=hs.tr0 m5
 refine dT 1 (cs (cT 3 (cb 0 ?_)))
 refine zj 0 (fun Z=>∀ (b8:LI) (j1:List Nat) (q:Env) (V:K),Step [] i V→Fst (i.H.size,144001) V 245 247 p p0.toNat j1 b8→ziI p0 p1 b8=some r→Z (ups q [(1,vl a2 p1 c3),(5,sl p p0.toNat p0.toNat)]) V) ?_ fun J1=>?_
 ·intro b8 j1 q V hs c f
  refine zf (zb (cs (cT 3 (cb 2 ?_))))
  refine zj 2 (fun Z=>∀ (M:LI) (a8:List Nat) (q:Env) (X:K),Step [] i X→Fst (i.H.size,144001) X 245 247 p p0.toNat a8 M→ziH p0 M=some r→Z (ups q [(5,sl p p0.toNat p0.toNat)]) X) ?_ fun J2=>?_
  ·intro M a8 q X hs c f
   refine zf (zb (cO 1 (otx (omk (d:=78) (T:=249) zrm tI64 (i.H.size,144004) hs.1 fun a9 p9 j2 g=>?_))))
   replace hs:=hs.tr0 j2
   replace c:=c.step0 j2
   refine dT 1 (cs (cT 3 (cb 5 ?_)))
   refine zj 5 (fun Z=>∀ (b0:LM) (b9:OA) (c0:Nat) (e0:List Hd) (q:Env) (Y:K),Step [] i Y→Mat tI64 false (i.H.size,144006) Y 32 2 b9 c0 e0 e0 b0→ziG b0=some r→Z (ups q [(11,vl b9 b0 c0)]) Y) ?_ fun J3=>?_
   ·intro b0 b9 c0 e0 q Y hs c1 f
    refine zf (zb (cT 2 (zmx c1 fun q1 m6 j8=>?_)))
    replace hs:=hs.trG (c1.own (fz _)) m6
    replace c1:=j8
    refine crt ?_
    obtain rfl:=sj f
    exact rT 4 (vl b9 b0 c0) ⟨hs,_,_,rfl,c1.sl⟩
   refine bE f fun m7 j9 h6=>zp (F:=zd5 p0 M) (J:=fun h E' s=>∃ (c4:OA) (c5:Nat) (N:List Hd),(∃ q,E'=ups q [(11,vl c4 h.1 c5),(12,.map (some a9)),(79,sl p p0.toNat p0.toNat),(80,iv (p0.toNat:Int)),(81,iv h.2.1)])∧Step [] i s∧Mat tI64 false (i.H.size,144006) s 32 2 c4 c5 N N h.1∧I64 h.2.1∧Fst (i.H.size,144001) s 245 247 p p0.toNat a8 M∧Mp zrm tI64 (i.H.size,144004) s a9 h.2.2) (s0:=([],0,([]:List (Int×Int)))) (x:=m7) kr j9 ⟨_,_,_,⟨_,eY⟩,hs,Mat.nil,(iK 0),c,g⟩ ?_
   rintro h _ q2 ⟨c4,c5,N,⟨q,rfl⟩,hs,k,k0,c,g⟩ h7 f h8
   refine cT 1 (cs ?_)
   refine cc _ f ?_ ?_
   ·intro I f
    refine ckt (cs (cb 6 (cO 1 (bE f fun s3 e2 f=>?_))))
    have b1:=c.inb e2
    obtain ⟨s4,h9,i0,i1,i2⟩:=c.vcell e2
    refine oi 84 244 245 1 p0.toNat p0.toNat .i64 h.2.1 (off:=0) h9 i0 i1 (o1 85 245 (pt (nb a8 h.2.1) 0) (i2.one (o:=0) rfl) (od 2 (otx (od 2 (bE f fun e3 e4 f=>?_)))))
    have e5:=zsT c b1 e4
    refine ocl 89 (zgs c b1 e4) ?_
    rintro _ _ ⟨rfl,rfl⟩
    refine od 2 (o1 92 2 (iv e3) (c.num e5) (zzs zrm (d:=93) (T:=249) (kd:=2) (e:=3) (x:=e3) (y0:=0) (iv 0) g ⟨rfl,(iK 0)⟩ fun _ m8=>?_))
    obtain ⟨rfl,k3⟩:=zoz m8
    refine dT 5 ?_
    refine zn (fun Z=>∀ (O:LM) (D:Int) (e6:List (Int×Int)) (c7:OA) (P:Nat) (b2:List Hd) (q:Env) (E:K),Step [] i E→Mat tI64 false (i.H.size,144006) E 32 2 c7 P b2 b2 O→I64 D→Fst (i.H.size,144001) E 245 247 p p0.toNat a8 M→Mp zrm tI64 (i.H.size,144004) E a9 e6→zd9 h O D e6=some h7→cwp Tryz.prog 118 (sub (zB Tryz.f144) [1,1,1,0,0,1,1,0,0,1,0,1,1,1,1,1,1]) Z (ups q [(11,vl c7 O P),(12,.map (some a9)),(13,iv h.2.1),(15,iv D),(79,sl p p0.toNat p0.toNat),(80,iv (p0.toNat:Int)),(81,iv h.2.1)]) E) ?_ fun J4=>?_
    ·intro O D e6 c7 P b2 q E hs z q3 c g f
     refine cr (od 4 (bE f fun j3 k4 f=>?_))
     obtain ⟨n0,j4,j5,a0,a1,a3,i3,i4,Q⟩:=z.idx k4
     refine oi 110 33 32 1 O.length P .i64 D (off:=0) a0 a1 a3 (o1 111 32 (vl j4 j3 j5) (i4.one (o:=0) rfl) (od 1 (zJ (d:=113) (T:=32) (e:=2) (t:=tI64) (pub:=true) (τ:=(i.H.size,144007)) (len:=1) (l:=[h.2.1]) (parts:=#[(0,iv h.2.1)]) (cs:=[iv h.2.1]) kr kr kr kr hs.1 rfl ⟨_,_,rfl,⟨rfl,k0⟩,rfl⟩ kr fun n1 q4 b3 n2=>?_)))
     replace hs:=hs.tr0 b3
     replace z:=z.step0 b3
     replace Q:=Q.step0 b3
     replace c:=c.step0 b3
     replace g:=g.step0 b3
     refine bE f fun e7 k5 f=>zH (d:=114) (T:=32) (e:=2) (t:=tI64) (pub:=false) (τ:=(i.H.size,144006)) (bytes:=8) (a:=j4) (cp:=j5) (l:=j3) (a2:=n1) (c2:=1) (l2:=[h.2.1]) kr kr Q n2.sl hs.1 kr k5 fun e8 e9 q5 c8 n3 hw=>?_
     have a4:=z.row i3 c8 n3 hw
     clear hw
     replace hs:=hs.trG (Q.own (fz _)) c8
     replace c:=c.step c8 (c.gn Q (zl kr))
     replace g:=g.step c8 (Q.bno g.o (zl kr))
     replace z:=a4
     refine oi 115 33 32 1 O.length P .i64 D (off:=0) a0 a1 a3 (bE f fun n4 f0 f=>zq5 (T:=32) (b:=n0) (ix:=D) (hd:=(e8,e7.length,e9)) kr kr a0 z a1 (by rw [z.len0,dz];exact a3) kr fun q6 b4 a4=>?_)
     replace b4:=b4.mono (zf2 (hs:=(b2.set D.toNat (e8,e7.length,e9))))
     replace hs:=hs.trG (z.own (fz _)) b4
     replace c:=c.step b4 (c.gnm z (zl kr))
     replace g:=g.step b4 (z.bno g.o (zl kr))
     obtain ⟨s5,k6⟩:∃ H:List Hd,H=(b2.set D.toNat (e8,e7.length,e9)):=⟨_,rfl⟩
     rw [←k6] at a4
     replace z:=zmd f0 a4
     have d7:=zL f0
     refine zam (eA 81 (v:=iv h.2.1) (eA 80 (v:=iv (p0.toNat:Int)) (eA 79 (v:=sl p p0.toNat p0.toNat) (eA 12 (v:=.map (some a9)) (za (t:=11) (v:=vl c7 n4 P) rfl (by unfold vl;rw [d7];kernel_rfl)))))) (oe (zd (zb (cr (od 2 (oe ?_))))))
     exact ze (sj f).symm ⟨_,_,_,⟨_,eY⟩,hs,z,(zr _),c,g⟩
    refine cs (cT 2 ?_)
    refine cc _ f ?_ ?_
    ·intro I f
     refine cO 1 ?_
     have f1:=(zgn k.most)
     refine od 2 (otx (od 3 (omp zrm (T:=249) (kd:=2) (e:=3) (x:=h.2.1) (y:=(h.1.length:Int)) (v:=iv (h.1.length:Int)) g ⟨rfl,f1⟩ fun q7 f2 _ f3=>?_)))
     replace hs:=hs.trB g.ge f2
     replace k:=k.step f2 (k.nbo g.o (zl kr))
     replace c:=c.step f2 (c.bn g.o (zl kr))
     replace g:=f3
     refine otr (od 1 (zJ (d:=104) (T:=33) (e:=32) (t:=tH) (pub:=true) (τ:=(i.H.size,144005)) (len:=1) (l:=[(none,0,0)]) (parts:=#[(0,sl none 0 0)]) (cs:=[sl none 0 0]) kr kr kr kr hs.1 rfl ⟨_,_,rfl,rfl,rfl⟩ kr fun n5 q8 c9 n6=>?_))
     replace hs:=hs.tr0 c9
     replace k:=k.step0 c9
     replace c:=c.step0 c9
     replace g:=g.step0 c9
     refine bE f fun j6 k7 f=>?_
     obtain ⟨k8,k9,d8⟩:=zuC (H2:=[(none,0,0)]) k7 k.len rfl
     refine ztx (d:=105) (T:=33) (e:=32) (t:=tH) (pub:=false) (τ:=(i.H.size,144006)) (bytes:=24) (a:=c4) (cp:=c5) (l:=N) (a2:=n5) (c2:=1) (l2:=[(none,0,0)]) h.1.length j6.length k.len d8 kr kr k.out n6.sl hs.1 kr k8 fun s6 s7 q9 R n7 hw=>?_
     have l0:=k.outer R n7 hw
     clear hw
     replace R:=R.mono (zf2 (hs:=N))
     replace hs:=hs.trG (k.own (fz _)) R
     replace c:=c.step R (c.gnm k (zl kr))
     replace g:=g.step R (k.bno g.o (zl kr))
     replace k:=l0
     replace k:=k.snocN
     obtain ⟨s8,l1⟩:∃ H:List Hd,H=N++[(none,0,0)]:=⟨_,rfl⟩
     rw [←l1,←k9] at k
     refine dT 1 ?_
     exact zk eY (J4 j6 (h.1.length:Int) (zbC h.2.2 h.2.1 (h.1.length:Int)) _ _ _ _ _ hs k f1 c g f)
    intro I f
    refine ckt ?_
    exact zk eY (J4 h.1 ((zcT h.2.2 e3).getD 0) h.2.2 _ _ _ _ _ hs k k3 c g f)
   intro I f
   refine cx 5 (zh ?_)
   have hx:=h8 _ (sj f).symm
   subst hx
   replace f:=h6
   refine zi ?_
   exact zq eY (J3 h.1 _ _ _ _ _ hs k f)
  refine bE f fun n8 l3 i5=>zp (F:=zd6 p1) (J:=fun n E' s=>∃ (d0:List Nat),(∃ q,E'=ups q [(5,sl p p0.toNat p0.toNat),(31,vl a2 p1 c3),(32,iv (p1.length:Int)),(33,iv n.1)])∧Step [] i s∧I64 n.1∧Fst (i.H.size,144001) s 245 247 p p0.toNat d0 n.2) (s0:=(0,b8)) (x:=n8) kr l3 ⟨_,⟨_,eY⟩,hs,(iK 0),c⟩ ?_
  rintro n _ l4 ⟨d0,⟨q,rfl⟩,hs,r0,c⟩ i6 f i7
  refine cT 1 (cs ?_)
  refine cc _ f ?_ ?_
  ·intro I f
   refine ckt ?_
   refine zn (fun Z=>∀ (b7:LI) (f5:List Nat) (q:Env) (G:K),Step [] i G→Fst (i.H.size,144001) G 245 247 p p0.toNat f5 b7→zd8 n b7=some i6→cwp Tryz.prog 118 (sub (zB Tryz.f144) [1,1,1,0,0,1,0,1,1,1]) Z (ups q [(5,sl p p0.toNat p0.toNat),(31,vl a2 p1 c3),(32,iv (p1.length:Int)),(33,iv n.1)]) G) ?_ fun J5=>?_
   ·intro b7 f5 q G hs c f
    refine cr (od 2 (oe ?_))
    exact ze (sj f).symm ⟨_,⟨_,eY⟩,hs,(zr _),c⟩
   refine cs (cb 3 (csr (bE f fun j i8 f=>?_)))
   obtain ⟨l6,l7,f6,f7,f8,n9,L,f9⟩:=(f4.step hs).idx i8
   obtain ⟨_,_,rfl,⟨rfl,o2⟩,⟨_,_,rfl,⟨rfl,o3⟩,⟨rfl,o4⟩⟩⟩:=f9
   replace L:PubAt l4 l6 (l7+n.1.toNat*3) [iv j.1,iv j.2.1,iv j.2.2]:=L
   refine oi 35 183 210 3 p1.length c3 .i64 n.1 f6 f7 f8 (oN 36 210 [iv j.1,iv j.2.1,iv j.2.2] (L.at.part 0 3).2 (xT 8 210 (i.H.size,144003) hs.1 [iv 0,iv 0,iv 0] fun r1 o5 g0 u=>?_))
   replace hs:=hs.tr0 g0
   replace c:=c.step0 g0
   refine xM 210 [iv j.1,iv j.2.1,iv j.2.2] u fun o6 g1 _ d9=>?_
   replace hs:=hs.trB u.ge g1
   replace c:=c.step g1 (c.bn u.o (zl kr))
   replace u:=d9
   refine ot (cs (cd 11 (dd 2 (d1 39 2 (iv j.1) (u.at.one (o:=0) rfl) (bE f fun r2 d2 f=>?_)))))
   have S:=c.inb d2
   obtain ⟨r3,g2,g3,g4,g5⟩:=c.vcell d2
   refine di 40 244 245 1 p0.toNat p0.toNat .i64 j.1 (off:=0) g2 g3 g4 (d1 41 245 (pt (nb d0 j.1) 0) (g5.one (o:=0) rfl) (bE f fun a6 d3 f=>?_))
   have B:=zsT c S d3
   refine dc0 42 (zgs c S d3) (dd 2 (d1 45 2 (iv j.2.1) (u.at.one (o:=1) rfl) (bE f fun r4 d4 f=>?_)))
   have U:=c.inb d4
   obtain ⟨r5,g6,g7,g8,g9⟩:=c.vcell d4
   refine di 46 244 245 1 p0.toNat p0.toNat .i64 j.2.1 (off:=0) g6 g7 g8 (d1 47 245 (pt (nb d0 j.2.1) 0) (g9.one (o:=0) rfl) (de (bE f fun a7 d5 f=>?_)))
   have C:=zsT c U d5
   refine ocl 48 (zgs c U d5) ?_
   rintro _ _ ⟨rfl,rfl⟩
   refine dT 2 (cb 4 (cs (cd 8 (dd 3 (d1 53 2 (iv a6) (c.num B) (dd 3 (d1 57 2 (iv a7) (c.num C) (de (dT 2 ?_)))))))))
   refine cc _ f ?_ ?_
   ·intro I f
    refine cr (od 4 (zyc (T:=245) c C B kr fun o7 l8 NF=>?_))
    replace hs:=hs.trG (c.own (fz _)) l8
    replace c:=NF
    refine oe (zd (zd (zb ?_)))
    exact zk eY (J5 (n.2.set a7.toNat a6) _ _ _ hs c f)
   intro I f
   refine cs (cd 8 (dd 3 (d1 67 2 (iv a7) (c.num C) (dd 3 (d1 71 2 (iv a6) (c.num B) (de (dT 2 ?_)))))))
   refine cc _ f ?_ ?_
   ·intro I f
    refine cr (od 4 (zyc (T:=245) c B C kr fun o8 l9 NF=>?_))
    replace hs:=hs.trG (c.own (fz _)) l9
    replace c:=NF
    refine oe (zd (zd (zb ?_)))
    exact zk eY (J5 (n.2.set a6.toNat a7) _ _ _ hs c f)
   intro I f
   refine ck (zd (zd (zb ?_)))
   exact zk eY (J5 n.2 _ _ _ hs c f)
  intro I f
  refine cx 2 (zh ?_)
  have hx:=i7 _ (sj f).symm
  subst hx
  replace f:=i5
  refine zi ?_
  exact zq eY (J2 n.2 _ _ _ hs c f)
 refine bE f fun m0 i9 h0=>zp (F:=zd7 p0) (J:=fun w E' s=>∃ (j7:List Nat),(∃ q,E'=ups q [(1,vl a2 p1 c3),(5,sl p p0.toNat p0.toNat),(20,iv (p0.toNat:Int)),(21,iv w.1)])∧Step [] i s∧I64 w.1∧Fst (i.H.size,144001) s 245 247 p p0.toNat j7 w.2) (s0:=(0,x8)) (x:=m0) kr i9 ⟨_,⟨_,eY⟩,hs,(iK 0),c⟩ ?_
 rintro w _ o9 ⟨j7,⟨q,rfl⟩,hs,r6,c⟩ o0 f h1
 refine cT 1 (cs ?_)
 refine cc _ f ?_ ?_
 ·intro I f
  refine ckt (cs (cb 1 (cO 2 (otr (od 4 (xO 28 247 (i.H.size,144002) hs.1 [.pointer none,iv w.1] fun r7 p2 h2 A=>?_))))))
  replace hs:=hs.tr0 h2
  replace c:=c.step0 h2
  refine bE f fun r8 d6 f=>?_
  obtain ⟨r9,b5,h3,h4⟩:=c.newat d6
  refine oi 29 244 245 1 p0.toNat p0.toNat .i64 w.1 (off:=0) b5 h3 h4 (zyJ (T:=245) c d6 b5 A (zl kr) (fz _) kr fun p3 p4 h5 m1 NF=>?_)
  replace hs:=hs.trG (c.own (fz _)) h5
  replace A:=A.step h5 (c.nb A.o (zl kr))
  replace hs:=hs.trB A.ge m1
  replace c:=NF
  refine oe (zd (zb (cr (od 2 (oe ?_)))))
  exact ze (sj f).symm ⟨_,⟨_,eY⟩,hs,(zr _),c⟩
 intro I f
 refine cx 0 (zh ?_)
 have hx:=h1 _ (sj f).symm
 subst hx
 replace f:=h0
 refine zi ?_
 exact zq eY (J1 w.2 _ _ _ hs c f)
theorem zlR {i:K} {p0:LB} {p:OA} {c2 fi1:Nat} {p1:(Int×Int×Int)→Option Bool} {bv1 cv1:Array Value} (N:Sl zT i p c2 p0) (C:zcL Tryz.prog fi1=true) (O:∀ {d:K},Step [] i d→∀ {q1_0:Int×Int×Int} (S:I64 q1_0.1) (T:I64 q1_0.2.1) (U:I64 q1_0.2.2) {r:Bool},p1 q1_0=some r→Fn Tryz.prog fi1 (bv1++#[.agg #[iv q1_0.1,iv q1_0.2.1,iv q1_0.2.2]]++cv1) d (fun v κ''=>Step [] d κ''∧v=.bool r)) {r:Int} (a:zdk p0 p1=some r) :
 Fn Tryz.prog 158 #[vl p p0 c2,.func (.func fi1) bv1 cv1] i (fun v d=>Step [] i d∧v=iv r∧I64 r):=by
 refine fnc 19 [] Tryz.func158 Tryz.ntmps158 fun hs=>cT 1 (cs (cT 3 (cb 0 ?_)))
 refine zj 0 (fun Z=>∀ (j:Env) (f:K),Step [] i f→zhh=some r→Z (j) f) ?_ fun P=>?_
 ·intro j f hs a
  refine zf (zb (cT 1 (crt ?_)))
  obtain rfl:=sj a
  exact rT 4 (iv (-1)) ⟨hs,rfl,(iK (-1))⟩
 refine bE a fun D q g=>zp (F:=zbP p0 p1) (J:=fun c Q d=>(∃ j,Q=ups j [(0,vl p p0 c2),(1,.func (.func fi1) bv1 cv1),(7,iv (p0.length:Int)),(8,iv c)])∧Step [] i d∧I64 c) (s0:=0) (x:=D) kr q ⟨⟨_,eY⟩,hs,(iK 0)⟩ ?_
 rintro c _ s ⟨⟨j,rfl⟩,hs,E⟩ L a h
 refine cT 1 (cs ?_)
 refine cc _ a ?_ ?_
 ·intro t a
  refine ckt (cs (cb 1 (cO 2 (otx (od 3 (bE a fun b u a=>?_))))))
  obtain ⟨G,H,k,l,m,M,e,n⟩:=(N.step hs).idx u
  obtain ⟨_,_,rfl,⟨rfl,y⟩,⟨_,_,rfl,⟨rfl,z⟩,⟨rfl,A⟩⟩⟩:=n
  replace e:PubAt s G (H+c.toNat*3) [iv b.1,iv b.2.1,iv b.2.2]:=e
  refine oi 14 183 210 3 p0.length c2 .i64 c k l m (oN 15 210 [iv b.1,iv b.2.1,iv b.2.2] (e.at.part 0 3).2 (bE a fun V B a=>?_))
  refine ocl 16 (O hs (q1_0:=b) y z A B) ?_ kr (fun w=>zaR (show _=(callFunc fi1 (bv1++#[.agg #[iv b.1,iv b.2.1,iv b.2.2]]++cv1)).run _ w by kernel_rfl) C)
  rintro _ R ⟨I,rfl⟩
  replace hs:=hs.tr0 I
  refine ot ?_
  refine cc _ a ?_ ?_
  ·intro t a
   refine cT 2 (crt (zg (zc ?_)))
   have hx:=h _ (sj a).symm
   subst hx
   replace a:=g
   refine zv (zg (zc ?_))
   obtain rfl:=sj a
   exact rT 4 (iv c) ⟨hs,rfl,E⟩
  intro t a
  refine ck (zd (zb (cr (od 2 (oe ?_)))))
  exact ze (sj a).symm ⟨⟨_,eY⟩,hs,(zr _)⟩
 intro t a
 refine cx 0 (zh ?_)
 have hx:=h _ (sj a).symm
 subst hx
 replace a:=g
 refine zi ?_
 exact zq rfl (P   _ _ hs  a)
theorem zgA {k:K} {p0:LB} {j:OA} {c2 fi1:Nat} {q:Tag} {p1:(Int×Int×Int)→Option Bool} {bv1 cv1:Array Value} (f3:Gr zT false q k 210 j c2 p0) (a3:q.1<k.H.size) (c6:zcL Tryz.prog fi1=true) (H1:∀ {m:K},Step (blk j c2) k m→∀ {q1_0:Int×Int×Int} (h4:I64 q1_0.1) (h5:I64 q1_0.2.1) (h6:I64 q1_0.2.2) {r:Bool},p1 q1_0=some r→Fn Tryz.prog fi1 (bv1++#[.agg #[iv q1_0.1,iv q1_0.2.1,iv q1_0.2.2]]++cv1) m (fun v κ''=>Step [] m κ''∧v=.bool r)) {r:LB} (d:zba p0 p1=some r) :
 Fn Tryz.prog 145 #[vl j p0 c2,.func (.func fi1) bv1 cv1] k (fun v m=>Step (blk j c2) k m∧∃ (a8:OA) (c9:Nat),v=vl a8 r c9∧Gr zT false q m 210 a8 c9 r∧(∀ g∈blk a8 c9,g∈(blk j c2)∨k.H.size≤g)):=by
 refine fnc 42 (blk j c2) Tryz.func145 Tryz.ntmps145 fun hs=>?_
 have C:∀ g∈blk j c2,g∈(blk j c2)∨k.H.size≤g:=fun g hg=>.inl (by simp [hg])
 refine cO 1 (otx (od 2 (bE d fun c7 d8 d=>ocl 10 (Fn.borrow f3 (fun _ _ sb gb=>zlR gb.sl (fi1:=fi1) (bv1:=bv1) (cv1:=cv1) c6 (fun s=>H1 ((hs.trM C sb).tr0 s)) d8)) ?_)))
 rintro _ g3 ⟨c8,rfl,d9⟩
 replace hs:=hs.tr0 c8
 replace f3:=f3.step0 c8
 refine dT 1 (cs (cT 2 ?_))
 refine cc _ d ?_ ?_
 ·intro hc d
  refine cT 2 (crt (zc ?_))
  obtain rfl:=sj d
  exact rT 4 (vl j p0 c2) ⟨hs,_,_,rfl,f3,C⟩
 intro hc d
 refine ckt (cs (cT 3 (cb 0 ?_)))
 refine zj 0 (fun Z=>∀ (M:LB) (u:Int) (A:OA) (B:Nat) (H:Env) (D:K) (hs:Step (blk j c2) k D) (N:Gr zT false q D 210 A B M) (y:(∀ g∈blk A B,g∈(blk j c2)∨k.H.size≤g)) (e0:I64 u),zdD M u=some r→Z (ups H [(0,vl A M B),(5,iv u)]) D) ?_ fun J1=>?_
 ·intro M u A B H D hs N y e0 d
  refine zf (zb (cO 2 (bE d fun f1 a5 d=>zzc 38 0 (T:=183) (lo:=u) [iv 0,iv 0,iv 0] (z:=(0,(0,0))) N ⟨_,_,rfl,⟨rfl,(iK 0)⟩,⟨_,_,rfl,⟨rfl,(iK 0)⟩,⟨rfl,(iK 0)⟩⟩⟩ a5 fun g5 f2 e1=>?_)))
  replace hs:=hs.trM y f2
  replace N:=e1
  have Y:=zu3 a5
  refine zam (eA 5 (v:=iv u) (za (t:=0) (v:=vl A f1 B) rfl (by unfold vl;rw [Y];kernel_rfl))) (otx (od 2 (bE d fun f4 e2 d=>osv 41 (T:=183) (hi:=u) N e2 fun f5=>?_)))
  have a6:=y
  refine dT 1 (crt ?_)
  obtain rfl:=sj d
  exact rT 4 (vl A f4 B) ⟨hs,_,_,rfl,f5,a6⟩
 refine bE d fun f6 e3 b7=>zp (F:=zbr p1) (J:=fun a E' m=>∃ (I:OA) (p:Nat),(∃ H,E'=ups H [(0,vl I a.1 p),(1,.func (.func fi1) bv1 cv1),(5,iv a.2.1),(6,iv a.2.2)])∧Step (blk j c2) k m∧Gr zT false q m 210 I p a.1∧(∀ g∈blk I p,g∈(blk j c2)∨k.H.size≤g)∧I64 a.2.1∧I64 a.2.2) (s0:=(p0,c7,w64 (c7+1))) (x:=f6) kr e3 ⟨_,_,⟨_,eY⟩,hs,f3,C,d9,(zr _)⟩ ?_
 rintro a _ e4 ⟨I,p,⟨H,rfl⟩,hs,f,n,a7,g7⟩ b8 d b9
 refine cs (cT 4 ?_)
 refine cc _ d ?_ ?_
 ·intro hc d
  refine ckt ?_
  refine zn (fun Z=>∀ (O:LB) (P:Int) (Q:OA) (R:Nat) (H:Env) (E:K) (hs:Step (blk j c2) k E) (d0:Gr zT false q E 210 Q R O) (L:(∀ g∈blk Q R,g∈(blk j c2)∨k.H.size≤g)) (a9:I64 P),zbs a O P=some b8→cwp Tryz.prog 42 (sub (zB Tryz.f145) [1,1,0,0,1,0,1,1,1]) Z (ups H [(0,vl Q O R),(1,.func (.func fi1) bv1 cv1),(5,iv P),(6,iv a.2.2)]) E) ?_ fun J2=>?_
  ·intro O P Q R H E hs d0 L a9 d
   refine cr (od 3 (oe ?_))
   exact ze (sj d).symm ⟨_,_,⟨_,eY⟩,hs,d0,L,a9,(zr _)⟩
  refine cs (cb 1 (cO 2 (bE d fun c e5 d=>?_)))
  obtain ⟨f8,c0,c1,c3,g0,G,c4⟩:=f.idx e5
  obtain ⟨_,_,rfl,⟨rfl,b0⟩,⟨_,_,rfl,⟨rfl,b1⟩,⟨rfl,b2⟩⟩⟩:=c4
  replace G:At e4 f8 (0+a.2.2.toNat*3) [iv c.1,iv c.2.1,iv c.2.2]:=G
  refine oi 24 183 210 3 a.1.length p .i64 a.2.2 (off:=0) c0 c1 c3 (oN 25 210 [iv c.1,iv c.2.1,iv c.2.2] (G.part 0 3).2 (xT 7 210 (k.H.size,145001) hs.1 [iv 0,iv 0,iv 0] fun h7 g8 d2 h=>?_))
  replace hs:=hs.tr0 d2
  replace f:=f.step0 d2
  refine xM 210 [iv c.1,iv c.2.1,iv c.2.2] h fun g9 d3 _ b3=>?_
  replace hs:=hs.trB h.ge d3
  replace f:=f.step d3 (f.nb h (zed (i:=145001) a3))
  replace h:=b3
  refine otx (od 1 (oN 27 210 [iv c.1,iv c.2.1,iv c.2.2] (h.at.part 0 3).2 (bE d fun h8 e6 d=>?_)))
  refine ocl 28 (H1 hs (q1_0:=c) b0 b1 b2 e6) ?_ kr (fun w=>zaR (show _=(callFunc fi1 (bv1++#[.agg #[iv c.1,iv c.2.1,iv c.2.2]]++cv1)).run _ w by kernel_rfl) c6)
  rintro _ e7 ⟨b4,rfl⟩
  replace hs:=hs.tr0 b4
  replace f:=f.step0 b4
  replace h:=h.step0 b4
  refine dT 1 ?_
  refine cc _ d ?_ ?_
  ·intro hc d
   refine cO 2 (oN 32 210 [iv c.1,iv c.2.1,iv c.2.2] (h.at.part 0 3).2 (bE d fun b5 e8 d=>?_))
   obtain ⟨d4,S,U,V,g1,X,c5⟩:=f.idx e8
   obtain ⟨_,_,rfl,⟨rfl,h0⟩,⟨_,_,rfl,⟨rfl,h1⟩,⟨rfl,h2⟩⟩⟩:=c5
   replace X:At e7 d4 (0+a.2.1.toNat*3) [iv b5.1,iv b5.2.1,iv b5.2.2]:=X
   refine oi 33 183 210 3 a.1.length p .i64 a.2.1 (off:=0) S U V (bE d fun d5 b6 d=>zau (T:=210) (t:=zT) (τ:=q) (e:=210) (ix:=a.2.1) (x':=c) (b:=d4) (δ:=0) (cp:=p) (l:=a.1) (vs:=[iv c.1,iv c.2.1,iv c.2.2]) (.agg #[iv c.1,iv c.2.1,iv c.2.2]) kr kr S f U V kr kr kr kr (fun cs hx=>by obtain ⟨x,_,ho⟩:=hx;rw [zM ((zT.len ho).trans kr)];exact ⟨_,_,rfl,⟨rfl,b0⟩,⟨_,_,rfl,⟨rfl,b1⟩,⟨rfl,b2⟩⟩⟩) fun h3 f9 e9=>?_)
   replace hs:=hs.trM n f9
   replace f:=e9
   replace f:=zcF b6 f
   have a0:=zL b6
   refine zam (eA 6 (v:=iv a.2.2) (eA 5 (v:=iv a.2.1) (eA 1 (v:=.func (.func fi1) bv1 cv1) (za (t:=0) (v:=vl I d5 p) rfl (by unfold vl;rw [a0];kernel_rfl))))) (otr (od 3 (oe (zd (zb ?_)))))
   exact zk eY (J2 d5 (w64 (a.2.1+1)) _ _ _ _ hs f n (zr _) d)
  intro hc d
  refine ck (zd (zb ?_))
  exact zk eY (J2 a.1 a.2.1 _ _ _ _ hs f n a7 d)
 intro hc d
 refine cx 0 (zh ?_)
 have hx:=b9 _ (sj d).symm
 subst hx
 replace d:=b7
 refine zi ?_
 exact zq eY (J1 a.1 a.2.1 _ _ _ _ hs f n a7 d)
theorem zjE {c:K} {p0:LB} {m:OA} {c2:Nat} (n:Sl zT c m c2 p0) {r:LB} (b:zcu p0=some r) :
 Fn Tryz.prog 146 #[vl m p0 c2] c (fun v j=>Step [] c j∧∃ (q:Nat) (s:OA) (u:Nat),v=vl s r u∧c.H.size≤q∧Gr zT false (q,146001) j 210 s u r):=by
 refine fnc 8 [] Tryz.func146 Tryz.ntmps146 fun hs=>cT 1 (cs ?_)
 refine zn (fun Z=>∀ (g:LB) (h:Bool) (i:OA) (f:Nat) (w:Env),Sl zT c i f g→zca g h=some r→cwp Tryz.prog 8 (sub (zB Tryz.f146) [1,0,1]) Z (ups w [(0,vl i g f),(4,.bool h)]) c) ?_ fun x=>?_
 ·intro g h i f w y b
  refine cc _ b ?_ ?_
  ·intro G b
   refine cT 1 (crt (zc ?_))
   obtain rfl:=sj b
   exact rT 2 (sl none 0 0) ⟨hs,_,_,_,rfl,(fz _),Gr.nil⟩
  intro G b
  refine ckt (csr (zJ (d:=5) (T:=183) (e:=210) (t:=zT) (pub:=false) (τ:=(c.H.size,146001)) (len:=0) (l:=[]) (parts:=#[]) (cs:=[]) kr kr kr kr hs.1 rfl rfl kr fun z H A k=>?_))
  replace hs:=hs.tr0 A
  refine od 1 (bE b fun B p b=>zH (d:=7) (T:=183) (e:=210) (t:=zT) (pub:=false) (τ:=(c.H.size,146001)) (bytes:=24) (a:=z) (cp:=0) (l:=[]) (a2:=i) (c2:=f) (l2:=g) kr kr k (y.step hs) hs.1 kr p fun C D I E F hw=>?_)
  clear hw
  replace hs:=hs.trG (k.own (fz _)) E
  refine dT 1 (crt ?_)
  obtain rfl:=sj b
  exact rT 2 (vl C B D) ⟨hs,_,_,_,rfl,(fz _),F⟩
 refine cO 1 ?_
 rcases m with _ | J
 ·have hnil:=Sl.of_none n
  replace b:zca p0 true=some r:=by rw [hnil] at b ⊢;simpa [app,zcu,zca] using b
  refine dT 1 ?_
  exact zk eY (x p0 true _ _ _ n b)
 refine dT 1 ?_
 exact zk eY (x p0 false _ _ _ n b)
theorem zmN {a:K} {p0:Int×Int×Int} {p1:Int} {b c:Nat} (h:I64 p0.1) (i:I64 p0.2.1) (j:I64 p0.2.2) (m1:At a b c [iv p1]) (k:I64 p1) {r:Bool} (f:zhf p0 p1=some r) :
 Fn Tryz.prog 147 #[.agg #[iv p0.1,iv p0.2.1,iv p0.2.2],pt b c] a (fun v e=>Step [] a e∧v=.bool r):=by
 refine fnc 8 [] Tryz.func147 Tryz.ntmps147 fun hs=>csr (xO 2 210 (a.H.size,147001) hs.1 [iv p0.1,iv p0.2.1,iv p0.2.2] fun m l g d=>?_)
 replace hs:=hs.tr0 g
 refine od 1 (otx (od 1 (o1 5 2 (iv p0.2.2) (d.at.one (o:=2) rfl) (o1 6 2 (iv p1) ((m1.step0 hs).one (o:=0) rfl) (dT 2 (crt ?_))))))
 obtain rfl:=sj f
 exact rT 3 (bW (p0.2.2<p1)) ⟨hs,rfl⟩
theorem zoh {w:K} {p0:Int} {p1:LB} {a2:OA} {c3:Nat} {p2:Int} (n4:I64 p0) (f4:Sl zT w a2 c3 p1) (n6:I64 p2) {r:Int×LB} (c:zgS p0 p1 p2=some r) :
 Fn Tryz.prog 133 #[iv p0,vl a2 p1 c3,iv p2] w (fun v y=>Step [] w y∧∃ (a7:OA) (c8:Nat),v=.tuple #[iv r.1,vl a7 r.2 c8]∧I64 r.1∧Sl zT y a7 c8 r.2):=by
 refine fnc 81 [] Tryz.func133 Tryz.ntmps133 fun hs=>csr (zo (d:=5) (T:=2) (w.H.size,133001) hs.1 (iv p2) [iv p2] kr kr rfl fun n9 r6 o0 H=>?_)
 replace hs:=hs.tr0 o0
 refine od 2 (otx (od 2 (bE c fun t7 k6 c=>ocl 19 (zjE (f4.step hs) k6) ?_)))
 rintro _ r7 ⟨j9,t8,t9,u0,rfl,Q,b3⟩
 replace Q:=ga hs.1 Q
 replace hs:=hs.tr0 j9
 replace H:=H.step0 j9
 refine od 1 ?_
 obtain ⟨u1,b4,e2,b3⟩:=b3.low Q H.tlt
 refine bE c fun u2 k7 c=>ocl 21 (zgA b3 e2 (fi1:=147) (bv1:=#[]) (cv1:=#[pt n9 0]) kr (by intro _ s _ w0 w1 w2 _ hp;exact zig kr ((zmN w0 w1 w2 (H.at.step s (b3.bn H (zl kr))) n6 hp))) k7) ?_
 rintro _ s1 ⟨o2,u3,u4,rfl,d2,e3⟩
 clear e3
 replace hs:=hs.trM (ztD (b3.own b4)) o2
 refine zm6 d2 fun s2 o3 k8=>?_
 replace hs:=hs.trG (d2.own b4) o3
 replace d2:=k8
 refine bE c fun h k9 c=>ocl 22 (zpU n4 d2.sl k9) ?_
 rintro _ s3 ⟨o4,n,j,rfl,g⟩
 replace hs:=hs.tr0 o4
 refine od 1 (otx (od 1 (bE c fun o5 l0 c=>zdl (d:=24) (T:=32) (e:=2) (t:=tI64) (pub:=false) (τ:=(w.H.size,133002)) (bytes:=8) (k1:=.i64) (k2:=.i64) (m:=p0) (zs:=[iv 0]) (z:=0) kr kr kr kr ⟨rfl,(iK 0)⟩ l0 hs.1 fun u5 s4 k0 o6=>?_)))
 replace hs:=hs.tr0 k0
 replace g:=g.step k0
 refine dT 1 (cs (cT 3 (cb 0 ?_)))
 refine zj 0 (fun Z=>∀ (A:LI) (I:OA) (B:Nat) (C:Env) (R:K),Step [] w R→Gr tI64 false (w.H.size,133002) R 2 I B A→Sl (tSl tI64) R n j h→zhe p1 h A=some r→Z (ups C [(1,vl a2 p1 c3),(8,vl n h j),(9,vl I A B)]) R) ?_ fun J1=>?_
 ·intro A I B C R hs k g c
  refine zf (zb (cT 1 (cs (cT 3 (cb 4 ?_)))))
  refine zj 4 (fun Z=>∀ (b5:LB) (d3:OA) (d4:Nat) (C:Env) (S:K),Step [] w S→Gr zT true (w.H.size,133005) S 210 d3 d4 b5→Sl (tSl tI64) S n j h→zhd h b5=some r→Z (ups C [(8,vl n h j),(14,vl d3 b5 d4)]) S) ?_ fun J2=>?_
  ·intro b5 d3 d4 C S hs o7 g c
   refine zf (zb (cT 5 (crt ?_)))
   obtain rfl:=sj c
   refine rt [.tmp 6,.tmp 7] [iv (h.length:Int),vl d3 b5 d4] ⟨kr,kr,trivial⟩ ?_
   exact ⟨hs,_,_,rfl,(zgn g.most),o7.sl⟩
  refine bE c fun o8 l1 g7=>zp (F:=zcJ p1 A) (J:=fun q E' y=>∃ (b6:OA) (b7:Nat),(∃ C,E'=ups C [(8,vl n h j),(9,vl I A B),(14,vl b6 q.1 b7),(44,vl a2 p1 c3),(45,iv (p1.length:Int)),(46,iv q.2)])∧Step [] w y∧Gr zT true (w.H.size,133005) y 210 b6 b7 q.1∧I64 q.2∧Sl (tSl tI64) y n j h∧Gr tI64 false (w.H.size,133002) y 2 I B A) (s0:=([],0)) (x:=o8) kr l1 ⟨_,_,⟨_,eY⟩,hs,Gr.nil,(iK 0),g,k⟩ ?_
  rintro q _ l3 ⟨b6,b7,⟨C,rfl⟩,hs,E,s7,g,k⟩ g8 c g9
  refine cT 1 (cs ?_)
  refine cc _ c ?_ ?_
  ·intro hc c
   refine ckt ?_
   refine zn (fun Z=>∀ (d5:LB) (e5:OA) (e6:Nat) (C:Env) (M:K),Step [] w M→Gr zT true (w.H.size,133005) M 210 e5 e6 d5→Sl (tSl tI64) M n j h→Gr tI64 false (w.H.size,133002) M 2 I B A→zex q d5=some g8→cwp Tryz.prog 81 (sub (zB Tryz.f133) [1,1,1,0,0,1,0,1,1,1,1,1]) Z (ups C [(8,vl n h j),(9,vl I A B),(14,vl e5 d5 e6),(44,vl a2 p1 c3),(45,iv (p1.length:Int)),(46,iv q.2)]) M) ?_ fun J3=>?_
   ·intro d5 e5 e6 C M hs p3 g k c
    refine cr (od 2 (oe ?_))
    exact ze (sj c).symm ⟨_,_,⟨_,eY⟩,hs,p3,(zr _),g,k⟩
   refine cs (cb 5 (csr (bE c fun i l4 c=>?_)))
   obtain ⟨p4,p5,h0,h1,h2,q6,a4,h3⟩:=(f4.step hs).idx l4
   obtain ⟨_,_,rfl,⟨rfl,s8⟩,⟨_,_,rfl,⟨rfl,s9⟩,⟨rfl,l5⟩⟩⟩:=h3
   replace a4:PubAt l3 p4 (p5+q.2.toNat*3) [iv i.1,iv i.2.1,iv i.2.2]:=a4
   refine oi 48 183 210 3 p1.length c3 .i64 q.2 h0 h1 h2 (oN 49 210 [iv i.1,iv i.2.1,iv i.2.2] (a4.at.part 0 3).2 (xT 16 210 (w.H.size,133003) hs.1 [iv 0,iv 0,iv 0] fun e7 t0 d6 u=>?_))
   replace hs:=hs.tr0 d6
   replace g:=g.step d6
   replace k:=k.step0 d6
   replace E:=E.step0 d6
   refine xM 210 [iv i.1,iv i.2.1,iv i.2.2] u fun a5 d7 _ e8=>?_
   replace hs:=hs.trB u.ge d7
   replace g:=g.step d7
   replace k:=k.step d7 (k.nb u (zl kr))
   replace E:=E.step d7 (E.nb u (zl kr))
   replace u:=e8
   refine ot (cs (cd 10 (dd 2 (d1 52 2 (iv i.1) (u.at.one (o:=0) rfl) (bE c fun k3 l6 c=>?_)))))
   obtain ⟨p6,h4,h5,h6,q7,a6,h7⟩:=k.idx l6
   obtain ⟨rfl,t1⟩:=h7
   replace a6:At a5 p6 (0+i.1.toNat*1) [iv k3]:=a6
   refine di 53 32 2 1 A.length B .i64 i.1 (off:=0) h4 h5 h6 (d1 54 2 (iv k3) (a6.one (o:=0) rfl) (dd 2 (d1 57 2 (iv i.2.1) (u.at.one (o:=1) rfl) (bE c fun k4 l7 c=>?_))))
   obtain ⟨p7,h8,h9,i0,q8,a8,i1⟩:=k.idx l7
   obtain ⟨rfl,t2⟩:=i1
   replace a8:At a5 p7 (0+i.2.1.toNat*1) [iv k4]:=a8
   refine di 58 32 2 1 A.length B .i64 i.2.1 (off:=0) h8 h9 i0 (d1 59 2 (iv k4) (a8.one (o:=0) rfl) (de (dT 1 ?_)))
   refine cc _ c ?_ ?_
   ·intro hc c
    refine cx_ 15 [0,1,2,3,4,5,6,7,8,9,10,11,12,13,14] [14] 15 [] (xp 61 (vl b6 q.1 b7) (xp 62 (vl I A B) (xp 63 (pt e7 0) (x1 64 2 (iv i.1) u.at 0 rfl (bE c fun U l8 c=>?_)))))
    obtain ⟨p8,i2,i3,i4,q9,a9,i5⟩:=k.idx l8
    obtain ⟨rfl,l9⟩:=i5
    replace a9:At a5 p8 (0+i.1.toNat*1) [iv U]:=a9
    refine xi 65 32 2 1 A.length B .i64 i.1 (off:=0) i2 i3 i4 (x1 66 2 (iv U) a9 0 rfl (xp 67 (vl I A B) (xp 68 (pt e7 1) (x1 69 2 (iv i.2.1) u.at 1 rfl (bE c fun V m0 c=>?_)))))
    obtain ⟨p9,i6,i7,i8,r0,b0,i9⟩:=k.idx m0
    obtain ⟨rfl,m1⟩:=i9
    replace b0:At a5 p9 (0+i.2.1.toNat*1) [iv V]:=b0
    refine xi 70 32 2 1 A.length B .i64 i.2.1 (off:=0) i6 i7 i8 (x1 71 2 (iv V) b0 0 rfl (xp 72 (pt e7 2) (x1 73 2 (iv i.2.2) u.at 2 rfl (xp 74 (.agg #[iv U,iv V,iv i.2.2]) (zhp (d:=75) (T:=183) (e:=210) (t:=zT) (pub:=true) (τ:=(w.H.size,133004)) (len:=1) (l:=[(U,(V,i.2.2))]) (parts:=#[(0,.agg #[iv U,iv V,iv i.2.2])]) (cs:=[iv U,iv V,iv i.2.2]) kr kr kr kr hs.1 rfl ⟨_,_,rfl,⟨_,_,rfl,⟨rfl,l9⟩,⟨_,_,rfl,⟨rfl,m1⟩,⟨rfl,l5⟩⟩⟩,rfl⟩ kr fun q0 t3 d8 q1=>?_)))))
    replace hs:=hs.tr0 d8
    replace g:=g.step d8
    replace k:=k.step0 d8
    replace E:=E.step0 d8
    refine xe (bE c fun m2 j1 c=>zH (d:=76) (T:=183) (e:=210) (t:=zT) (pub:=true) (τ:=(w.H.size,133005)) (bytes:=24) (a:=b6) (cp:=b7) (l:=q.1) (a2:=q0) (c2:=1) (l2:=[(U,(V,i.2.2))]) kr kr E q1.sl hs.1 kr j1 fun t4 t5 r1 c5 m3 hw=>?_)
    clear hw
    replace hs:=hs.trG (E.own (fz _)) c5
    replace g:=g.step c5
    replace k:=k.step c5 (k.ng E (zl kr))
    refine od 1 (oe (zd (zb ?_)))
    exact zk eY (J3 m2 _ _ _ _ hs m3 g k c)
   intro hc c
   refine ck (zd (zb ?_))
   exact zk eY (J3 q.1 _ _ _ _ hs E g k c)
  intro hc c
  refine cx 4 (zh ?_)
  have hx:=g9 _ (sj c).symm
  subst hx
  replace c:=g7
  refine zi ?_
  exact zq eY (J2 q.1 _ _ _ _ hs E g c)
 refine bE c fun m4 j2 e9=>zp (F:=zaD h) (J:=fun f E' y=>∃ (f0:OA) (f1:Nat),(∃ C,E'=ups C [(1,vl a2 p1 c3),(8,vl n h j),(9,vl f0 f.1 f1),(25,vl n h j),(26,iv (h.length:Int)),(27,iv f.2)])∧Step [] w y∧Gr tI64 false (w.H.size,133002) y 2 f0 f1 f.1∧I64 f.2∧Sl (tSl tI64) y n j h) (s0:=(o5,0)) (x:=m4) kr j2 ⟨_,_,⟨_,eY⟩,hs,o6,(iK 0),g⟩ ?_
 rintro f _ j3 ⟨f0,f1,⟨C,rfl⟩,hs,k5,m5,g⟩ f2 c f3
 refine cT 1 (cs ?_)
 refine cc _ c ?_ ?_
 ·intro hc c
  refine ckt (cs (cb 1 (cO 1 (bE c fun D j4 c=>?_))))
  obtain ⟨m6,m7,f5,f6,f7,q2,X,f8⟩:=g.idx j4
  obtain ⟨Y,N,rfl,O⟩:=f8
  replace X:PubAt j3 m6 (m7+f.2.toNat*1) [vl Y D N]:=X
  refine oi 30 33 32 1 h.length j .i64 f.2 f5 f6 f7 (o1 31 32 (vl Y D N) (X.at.one (o:=0) rfl) (od 2 (otx (dT 3 (cb 2 ?_)))))
  refine zj 2 (fun Z=>∀ (b1:LI) (c6:OA) (c7:Nat) (C:Env) (L:K),Step [] w L→Gr tI64 false (w.H.size,133002) L 2 c6 c7 b1→Sl (tSl tI64) L n j h→zhc f b1=some f2→Z (ups C [(1,vl a2 p1 c3),(8,vl n h j),(9,vl c6 b1 c7),(25,vl n h j),(26,iv (h.length:Int)),(27,iv f.2)]) L) ?_ fun J4=>?_
  ·intro b1 c6 c7 C L hs m8 g c
   refine zf (zd (zb (cr (od 2 (oe ?_)))))
   exact ze (sj c).symm ⟨_,_,⟨_,eY⟩,hs,m8,(zr _),g⟩
  refine bE c fun m9 j5 f9=>zp (F:=zbl f D) (J:=fun p E' y=>∃ (b2:OA) (P:Nat),(∃ C,E'=ups C [(1,vl a2 p1 c3),(8,vl n h j),(9,vl b2 p.1 P),(10,iv f.2),(25,vl n h j),(26,iv (h.length:Int)),(27,iv f.2),(32,vl Y D N),(33,iv (D.length:Int)),(34,iv p.2)])∧Step [] w y∧Gr tI64 false (w.H.size,133002) y 2 b2 P p.1∧I64 p.2∧Sl (tSl tI64) y n j h∧Sl tI64 y Y N D) (s0:=(f.1,0)) (x:=m9) kr j5 ⟨_,_,⟨_,eY⟩,hs,k5,(iK 0),g,O⟩ ?_
  rintro p _ d9 ⟨b2,P,⟨C,rfl⟩,hs,G,r2,g,O⟩ q3 c g0
  refine cT 1 (cs ?_)
  refine cc _ c ?_ ?_
  ·intro hc c
   refine ckt (cs (cb 3 (csr (bE c fun a0 j6 c=>?_))))
   obtain ⟨n0,n1,g1,g2,g3,q4,a1,g4⟩:=O.idx j6
   obtain ⟨rfl,r3⟩:=g4
   replace a1:PubAt d9 n0 (n1+p.2.toNat*1) [iv a0]:=a1
   refine oi 36 32 2 1 D.length N .i64 p.2 g1 g2 g3 (o1 37 2 (iv a0) (a1.at.one (o:=0) rfl) (od 1 (otr (od 3 (bE c fun n2 j7 c=>?_)))))
   obtain ⟨g5,b8,b9,c0,q5,c1,g6⟩:=G.idx j7
   obtain ⟨rfl,r4⟩:=g6
   replace c1:At d9 g5 (0+a0.toNat*1) [iv n2]:=c1
   refine oi 41 32 2 1 p.1.length P .i64 a0 (off:=0) b8 b9 c0 (bE c fun n3 e0 c=>zau (T:=2) (t:=tI64) (τ:=(w.H.size,133002)) (e:=2) (ix:=a0) (x':=f.2) (b:=g5) (δ:=0) (cp:=P) (l:=p.1) (vs:=[iv f.2]) (iv f.2) kr kr b8 G b9 c0 kr kr kr kr (fun cs hx=>by obtain ⟨x,_,ho⟩:=hx;rw [zM ((tI64.len ho).trans kr)];exact ⟨rfl,m5⟩) fun r5 c9 j8=>?_)
   replace hs:=hs.trG (G.own (fz _)) c9
   replace g:=g.step c9
   replace O:=O.step c9
   replace G:=j8
   replace G:=zcF e0 G
   have d0:=zL e0
   refine zam (eA 34 (v:=iv p.2) (eA 33 (v:=iv (D.length:Int)) (eA 32 (v:=vl Y D N) (eA 27 (v:=iv f.2) (eA 26 (v:=iv (h.length:Int)) (eA 25 (v:=vl n h j) (eA 10 (v:=iv f.2) (za (t:=9) (v:=vl b2 n3 P) (eA 8 (v:=vl n h j) (eA 1 (v:=vl a2 p1 c3) rfl)) (by unfold vl;rw [d0];kernel_rfl))))))))) (oe (zd (zb (cr (od 2 (oe ?_))))))
   exact ze (sj c).symm ⟨_,_,⟨_,eY⟩,hs,G,(zr _),g,O⟩
  intro hc c
  refine cx 2 (zh ?_)
  have hx:=g0 _ (sj c).symm
  subst hx
  replace c:=f9
  refine zi ?_
  exact zq eY (J4 p.1 _ _ _ _ hs G g c)
 intro hc c
 refine cx 0 (zh ?_)
 have hx:=f3 _ (sj c).symm
 subst hx
 replace c:=e9
 refine zi ?_
 exact zq eY (J1 f.1 _ _ _ _ hs k5 g c)
theorem zd2 {h:K} {p0:LP} {l:OA} {c2 fi2:Nat} {p1:Int×Int} {s:((Int×Int)×Int)→(Int×Int)→Option Int} {bv2 cv2:Array Value} (O:Sl tPlaced h l c2 p0) (H:I64 p1.1) (I:I64 p1.2) (L:zcL Tryz.prog fi2=true) (H2:∀ {f:K},Step [] h f→∀ {q2_0:(Int×Int)×Int} {q2_1:Int×Int} (c5:I64 q2_0.1.1) (c6:I64 q2_0.1.2) (c7:I64 q2_0.2) (c8:I64 q2_1.1) (b5:I64 q2_1.2) {r:Int},s q2_0 q2_1=some r→Fn Tryz.prog fi2 (bv2++#[.agg #[iv q2_0.1.1,iv q2_0.1.2,iv q2_0.2],.agg #[iv q2_1.1,iv q2_1.2]]++cv2) f (fun v κ''=>Step [] f κ''∧v=iv r∧I64 r)) {r:Int×Bool} (a:z2 p0 p1 s=some r) :
 Fn Tryz.prog 168 #[vl l p0 c2,.agg #[iv p1.1,iv p1.2],.func (.func fi2) bv2 cv2] h (fun v f=>Step [] h f∧v=.tuple #[iv r.1,.bool r.2]∧I64 r.1):=by
 refine fnc 49 [] Tryz.func168 Tryz.ntmps168 fun hs=>csr (xO 4 103 (h.H.size,168001) hs.1 [iv p1.1,iv p1.2] fun k b6 a6 b=>?_)
 replace hs:=hs.tr0 a6
 refine od 2 (otx (od 3 (otx (dT 3 (cs (cb 0 ?_))))))
 refine zj 0 (fun Z=>∀ (c:Int) (m:Env) (g:K),Step [] h g→I64 c→Box (h.H.size,168001) g k [iv p1.1,iv p1.2] 103→zaq p0 p1 s c=some r→Z (ups m [(0,vl l p0 c2),(2,.func (.func fi2) bv2 cv2),(4,pt k 0),(8,iv (p0.length:Int)),(9,iv c)]) g) ?_ fun J1=>?_
 ·intro c m g hs n b a
  refine zf (zb (cs (cx_ 15 [0,1,2,3,4,5,6,7,8,9,10,11,12,13,14] [11] 15 [] (xp 35 (iv c) (xp 36 (iv c) (xp 37 (iv (p0.length:Int)) (xp 38 (bW (c<(p0.length:Int))) ?_)))))))
  refine xsp 39 (decide (c<(p0.length:Int))) a ?_ ?_
  ·intro hg a
   refine xs 40 (xs 41 (xs 42 (xs 43 (xs 44 (xs 45 (xs 46 (xs 47 (xp 48 ff (xp 6 (iv c) (xe (dT 1 (crt ?_))))))))))))
   obtain rfl:=sj a
   refine rt [.tmp 6,.tmp 7] [iv c,ff] ⟨kr,kr,trivial⟩ ?_
   exact ⟨hs,rfl,n⟩
  intro hg a
  refine xp 40 (.func (.func fi2) bv2 cv2) (xp 41 (vl l p0 c2) (xp 42 (iv c) (bE a fun x23 P a=>?_)))
  obtain ⟨a7,a8,t,u,y,b2,i,z⟩:=(O.step hs).idx P
  obtain ⟨_,_,rfl,⟨_,_,rfl,⟨rfl,Q⟩,⟨rfl,R⟩⟩,⟨rfl,S⟩⟩:=z
  replace i:PubAt g a7 (a8+c.toNat*3) [iv x23.1.1,iv x23.1.2,iv x23.2]:=i
  refine xi 43 44 105 3 p0.length c2 .i64 c t u y (xN 44 105 [iv x23.1.1,iv x23.1.2,iv x23.2] i.at 0 3 rfl (xN 45 103 [iv p1.1,iv p1.2] b.at 0 2 rfl (bE a fun p T a=>?_)))
  refine xcl 46 (H2 hs (q2_0:=x23) (q2_1:=p1) Q R S H I T) ?_ kr (fun w=>zaR (show _=(callFunc fi2 (bv2++#[.agg #[iv x23.1.1,iv x23.1.2,iv x23.2],.agg #[iv p1.1,iv p1.2]]++cv2)).run _ w by kernel_rfl) L)
  rintro _ b9 ⟨M,rfl,c0⟩
  refine ⟨M,?_⟩
  replace hs:=hs.tr0 M
  refine xp 47 (bW (p=0)) (xp 48 (bW (p=0)) (xp 6 (iv c) (xe (dT 1 (crt ?_)))))
  obtain rfl:=sj a
  refine rt [.tmp 6,.tmp 7] [iv c,bW (p=0)] ⟨kr,kr,trivial⟩ ?_
  exact ⟨hs,rfl,n⟩
 refine bE a fun a9 U A=>zp (F:=zK p0 p1 s) (J:=fun d E' f=>(∃ m,E'=ups m [(0,vl l p0 c2),(2,.func (.func fi2) bv2 cv2),(4,pt k 0),(8,iv (p0.length:Int)),(9,iv d.1),(10,iv d.2)])∧Step [] h f∧I64 d.1∧I64 d.2∧Box (h.H.size,168001) f k [iv p1.1,iv p1.2] 103) (s0:=(0,(p0.length:Int))) (x:=a9) kr U ⟨⟨_,eY⟩,hs,(iK 0),(zgn (O.step hs).most),b⟩ ?_
 rintro d _ V ⟨⟨m,rfl⟩,hs,q,X,b⟩ b3 a B
 refine cs (cT 3 ?_)
 refine cc _ a ?_ ?_
 ·intro Y a
  refine ckt (cb 1 (cT 7 (cs (cd 6 (dd 3 (bE a fun e a0 a=>?_))))))
  obtain ⟨b0,b1,C,D,E,b4,j,G⟩:=(O.step hs).idx a0
  obtain ⟨_,_,rfl,⟨_,_,rfl,⟨rfl,a2⟩,⟨rfl,a3⟩⟩,⟨rfl,a4⟩⟩:=G
  replace j:PubAt V b0 (b1+(w64 (Int.fdiv (IntKind.wrap .u64 (w64 (d.1+d.2))) (2 ^ 1))).toNat*3) [iv e.1.1,iv e.1.2,iv e.2]:=j
  refine di 27 44 105 3 p0.length c2 .i64 (w64 (Int.fdiv (IntKind.wrap .u64 (w64 (d.1+d.2))) (2 ^ 1))) C D E (dN 28 105 [iv e.1.1,iv e.1.2,iv e.2] (j.at.part 0 3).2 (dN 29 103 [iv p1.1,iv p1.2] (b.at.part 0 2).2 (de (bE a fun c9 a5 a=>?_))))
  refine ocl 30 (H2 hs (q2_0:=e) (q2_1:=p1) a2 a3 a4 H I a5) ?_ kr (fun w=>zaR (show _=(callFunc fi2 (bv2++#[.agg #[iv e.1.1,iv e.1.2,iv e.2],.agg #[iv p1.1,iv p1.2]]++cv2)).run _ w by kernel_rfl) L)
  rintro _ c3 ⟨N,rfl,c4⟩
  replace hs:=hs.tr0 N
  replace b:=b.step0 N
  refine dT 1 ?_
  refine cc _ a ?_ ?_
  ·intro Y a
   refine cr (od 3 (oe (zd ?_)))
   exact ze (sj a).symm ⟨⟨_,eY⟩,hs,(zr _),X,b⟩
  intro Y a
  refine cr (od 2 (oe (zd ?_)))
  exact ze (sj a).symm ⟨⟨_,eY⟩,hs,q,(zr _),b⟩
 intro Y a
 refine cx 0 (zh ?_)
 have hx:=B _ (sj a).symm
 subst hx
 replace a:=A
 refine zi ?_
 exact zq eY (J1 d.1  _ _ hs q b a)
theorem zij {b:K} {p0:(Int×Int)×Int} {p1:Int×Int} (h:I64 p0.1.1) (i:I64 p0.1.2) (t:I64 p0.2) (j:I64 p1.1) (k:I64 p1.2) {r:Int} (e:zZ p0 p1=some r) :
 Fn Tryz.prog 169 #[.agg #[iv p0.1.1,iv p0.1.2,iv p0.2],.agg #[iv p1.1,iv p1.2]] b (fun v l=>Step [] b l∧v=iv r∧I64 r):=by
 refine fnc 9 [] Tryz.func169 Tryz.ntmps169 fun hs=>csr (xO 2 105 (b.H.size,169001) hs.1 [iv p0.1.1,iv p0.1.2,iv p0.2] fun x u p a=>?_)
 replace hs:=hs.tr0 p
 refine xO 3 103 (b.H.size,169002) hs.1 [iv p1.1,iv p1.2] fun w q d c=>?_
 replace hs:=hs.tr0 d
 replace a:=a.step0 d
 refine od 1 (otx (od 1 (oN 6 103 [iv p0.1.1,iv p0.1.2] (a.at.part 0 2).2 (oN 7 103 [iv p1.1,iv p1.2] (c.at.part 0 2).2 (bE e fun m f e=>ocl 8 (zii h i j k f) ?_)))))
 rintro _ s ⟨n,rfl,g⟩
 replace hs:=hs.tr0 n
 refine dT 1 (crt ?_)
 obtain rfl:=sj e
 exact rT 4 (iv m) ⟨hs,rfl,g⟩
theorem zlG {c:K} {p0:LP} {d:OA} {c2:Nat} {p1:Int×Int} (n:Sl tPlaced c d c2 p0) (i:I64 p1.1) (j:I64 p1.2) {r:Int} (a:zcR p0 p1=some r) :
 Fn Tryz.prog 160 #[.agg #[vl d p0 c2],.agg #[iv p1.1,iv p1.2]] c (fun v k=>Step [] c k∧v=iv r∧I64 r):=by
 refine fnc 16 [] Tryz.func160 Tryz.ntmps160 fun hs=>csr (xO 2 46 (c.H.size,160001) hs.1 [vl d p0 c2] fun C A p b=>?_)
 replace hs:=hs.tr0 p
 refine xO 3 103 (c.H.size,160002) hs.1 [iv p1.1,iv p1.2] fun B q f e=>?_
 replace hs:=hs.tr0 f
 replace b:=b.step0 f
 refine dT 1 (cs (cO 1 (o1 9 44 (vl d p0 c2) (b.at.one (o:=0) rfl) (oN 10 103 [iv p1.1,iv p1.2] (e.at.part 0 2).2 (bE a fun l g a=>ocl 11 (zd2 (n.step hs) i j (fi2:=169) (bv2:=#[]) (cv2:=#[]) kr (by intro _ s _ _ w0 t u w x _ hp;exact zig kr ((zij w0 t u w x hp))) g) ?_)))))
 rintro _ y ⟨m,rfl,h⟩
 replace hs:=hs.tr0 m
 refine od 5 (otx (dT 1 ?_))
 refine cc _ a ?_ ?_
 ·intro z a
  refine cT 2 (crt (zc ?_))
  obtain rfl:=sj a
  exact rT 4 (iv l.1) ⟨hs,rfl,h⟩
 intro z a
 refine ckt (cT 1 (crt ?_))
 obtain rfl:=sj a
 exact rT 4 (iv (-1)) ⟨hs,rfl,(iK (-1))⟩
theorem zok {d:K} {p0:Int×Int} {p1:Int×Int} (q:I64 p0.1) (s:I64 p0.2) (t:I64 p1.1) (u:I64 p1.2) {r:(Int×Int)} (k:za7 p0 p1=some r) :
 Fn Tryz.prog 170 #[.agg #[iv p0.1,iv p0.2],.agg #[iv p1.1,iv p1.2]] d (fun v h=>Step [] d h∧v=.agg #[iv r.1,iv r.2]∧I64 r.1∧I64 r.2):=by
 refine fnc 16 [] Tryz.func170 Tryz.ntmps170 fun hs=>csr (xO 2 103 (d.H.size,170001) hs.1 [iv p0.1,iv p0.2] fun y w l a=>?_)
 replace hs:=hs.tr0 l
 refine xO 3 103 (d.H.size,170002) hs.1 [iv p1.1,iv p1.2] fun x m g b=>?_
 replace hs:=hs.tr0 g
 replace a:=a.step0 g
 refine xT 4 103 (d.H.size,170003) hs.1 [iv 0,iv 0] fun i n e c=>?_
 replace hs:=hs.tr0 e
 replace a:=a.step0 e
 replace b:=b.step0 e
 refine otx (od 1 (o1 6 2 (iv p0.1) (a.at.one (o:=0) rfl) (od 1 (o1 8 2 (iv p1.1) (b.at.one (o:=0) rfl) (od 2 (o1 11 2 (iv p0.2) (a.at.one (o:=1) rfl) (od 1 (o1 13 2 (iv p1.2) (b.at.one (o:=1) rfl) (od 2 (xM 103 [iv (w64 (p0.1+p1.1)),iv (w64 (p0.2+p1.2))] c fun p j _ f=>?_))))))))))
 replace hs:=hs.trB c.ge j
 replace c:=f
 refine ot (crt ?_)
 obtain rfl:=sj k
 refine rt [.cell 4 103] [.agg #[iv (w64 (p0.1+p1.1)),iv (w64 (p0.2+p1.2))]] ⟨⟨i,0,[iv (w64 (p0.1+p1.1)),iv (w64 (p0.2+p1.2))],rfl,rfl,kr,kr,(c.at.part 0 2).2⟩,trivial⟩ ?_
 exact ⟨hs,rfl,(zr _),(zr _)⟩
theorem zbn {h:K} {p0:Int×Int} {p1:Int} (A:I64 p0.1) (B:I64 p0.2) (M:I64 p1) {r:(Int×Int)} (i:zR p0 p1=some r) :
 Fn Tryz.prog 161 #[.agg #[iv p0.1,iv p0.2],iv p1] h (fun v C=>Step [] h C∧v=.agg #[iv r.1,iv r.2]∧I64 r.1∧I64 r.2):=by
 refine fnc 16 [] Tryz.func161 Tryz.ntmps161 fun hs=>csr (xO 2 103 (h.H.size,161001) hs.1 [iv p0.1,iv p0.2] fun P N E b=>?_)
 replace hs:=hs.tr0 E
 refine xT 4 103 (h.H.size,161002) hs.1 [iv 0,iv 0] fun F G p a=>?_
 replace hs:=hs.tr0 p
 replace b:=b.step0 p
 refine otx (od 6 (bE i fun e g i=>?_))
 have t:I64 e.1:=by rcases zon g with ⟨_,d⟩ | ⟨_,d⟩ | ⟨_,d⟩ | ⟨_,d⟩<;>rw [d]<;>unfold I64<;>omega
 have u:I64 e.2:=by rcases zon g with ⟨_,d⟩ | ⟨_,d⟩ | ⟨_,d⟩ | ⟨_,d⟩<;>rw [d]<;>unfold I64<;>omega
 refine oq 12 (.agg #[iv e.1,iv e.2]) (fun w=>zm2 (s:=vOf (Instr.index 263 (.agg #[iv 0,iv 1,iv 1,iv 0,iv 0,iv (-1),iv (-1),iv 0]) (iv p1))) kr (by rcases zon g with ⟨m,d⟩ | ⟨m,d⟩ | ⟨m,d⟩ | ⟨m,d⟩<;>(rw [m,d];kernel_rfl))) (xT 5 103 (h.H.size,161003) hs.1 [iv 0,iv 0] fun O H j c=>?_)
 replace hs:=hs.tr0 j
 replace b:=b.step0 j
 replace a:=a.step0 j
 refine xM 103 [iv e.1,iv e.2] c fun I k _ l=>?_
 replace hs:=hs.trB c.ge k
 replace b:=b.step k (nm1 (b.ne c (zl kr)))
 replace a:=a.step k (nm1 (a.ne c (zl kr)))
 replace c:=l
 refine otx (oN 13 103 [iv p0.1,iv p0.2] (b.at.part 0 2).2 (oN 14 103 [iv e.1,iv e.2] (c.at.part 0 2).2 (bE i fun f x i=>ocl 15 (zok A B t u x) ?_)))
 rintro _ J ⟨q,rfl,y,z⟩
 replace hs:=hs.tr0 q
 replace a:=a.step0 q
 refine xM 103 [iv f.1,iv f.2] a fun L D _ n=>?_
 replace hs:=hs.trB a.ge D
 replace a:=n
 refine ot (crt ?_)
 obtain rfl:=sj i
 refine rt [.cell 4 103] [.agg #[iv f.1,iv f.2]] ⟨⟨F,0,[iv f.1,iv f.2],rfl,rfl,kr,kr,(a.at.part 0 2).2⟩,trivial⟩ ?_
 exact ⟨hs,rfl,y,z⟩
theorem zjf {h:K} {σ:Type} {y0:σ→(Int×Int)→Int→Option σ} {J0:σ→K→Prop} {F0 B0 l0:Nat} {s0:σ} {p1:LP} {p q:Nat} {B:OA} {u:Nat} (Hs0:Stab F0 B0 J0) (Hy0:∀ {i:K} {s s':σ} {q0_0:Int×Int} {q0_1:Int} (f2:I64 q0_0.1) (f3:I64 q0_0.2) (f4:I64 q0_1),J0 s i→y0 s q0_0 q0_1=some s'→Yl Tryz.prog l0 #[.agg #[iv q0_0.1,iv q0_0.2],iv q0_1] i (fun κ''=>Step (tb F0 i) i κ''∧J0 s' κ'')) (hJ0:J0 s0 h) (hB0:B0≤h.H.size) (hF0:Nat.beq 159 F0=false) (m1:At h p q [vl B p1 u]) (nm_m1:p∉(tb F0 h)) (f6:Sl tPlaced h B u p1) {r:σ} (c:zcK y0 s0 p1=some r) :
 Fn Tryz.prog 159 #[.func (.yield l0) #[] #[],pt p q] h (fun v i=>Step (tb F0 h) h i∧v=.tuple #[]∧J0 r i):=by
 refine fnc 41 (tb F0 h) Tryz.func159 Tryz.ntmps159 fun hs=>cO 1 (o1 9 44 (vl B p1 u) ((m1.step hs nm_m1).one (o:=0) rfl) (dT 2 (cb 0 ?_)))
 refine zj 0 (fun Z=>∀ (I:σ) (m:Env) (w:K) (hs:Step (tb F0 h) h w) (hJ0:J0 I w),zbJ I=some r→Z (m) w) ?_ fun J1=>?_
 ·intro I m w hs hJ0 c
  refine zf ?_
  obtain rfl:=sj c
  refine rn [] [] trivial ?_
  exact ⟨hs,rfl,hJ0⟩
 refine bE c fun c9 b2 R=>zp (F:=zP y0 p1) (J:=fun f E' i=>(∃ m,E'=ups m [(0,.func (.yield l0) #[] #[]),(1,pt p q),(9,vl B p1 u),(10,iv (p1.length:Int)),(11,iv f.1)])∧Step (tb F0 h) h i∧I64 f.1∧J0 f.2 i) (s0:=(0,s0)) (x:=c9) kr b2 ⟨⟨_,eY⟩,hs,(iK 0),hJ0⟩ ?_
 rintro f _ b4 ⟨⟨m,rfl⟩,hs,d0,hJ0⟩ S c U
 refine cT 1 (cs ?_)
 refine cc _ c ?_ ?_
 ·intro hc c
  refine ckt (cs (cb 1 (cO 1 (bE c fun g b6 c=>?_))))
  obtain ⟨d2,d3,V,X,Y,d9,y,a0⟩:=(f6.step hs).idx b6
  obtain ⟨_,_,rfl,⟨_,_,rfl,⟨rfl,b7⟩,⟨rfl,b8⟩⟩,⟨rfl,e2⟩⟩:=a0
  replace y:PubAt b4 d2 (d3+f.1.toNat*3) [iv g.1.1,iv g.1.2,iv g.2]:=y
  refine oi 14 44 105 3 p1.length u .i64 f.1 V X Y (oN 15 105 [iv g.1.1,iv g.1.2,iv g.2] (y.at.part 0 3).2 (xT 4 105 (h.H.size,159001) hs.1 [iv 0,iv 0,iv 0] fun C e3 a9 a=>?_))
  replace hs:=hs.tr0 a9
  replace hJ0:=Hs0.j0 hJ0 a9
  refine od 1 (xM 105 [iv g.1.1,iv g.1.2,iv g.2] a fun e4 b0 _ L=>?_)
  replace hs:=hs.trB a.ge b0
  replace hJ0:=Hs0.jo hJ0 b0 a.o (zui hF0) (ga hB0 a.ge)
  replace a:=L
  refine otx (zJ (d:=16) (T:=32) (e:=2) (t:=tI64) (pub:=true) (τ:=(h.H.size,159002)) (len:=2) (l:=[1,0]) (parts:=#[(0,iv 1),(1,iv 0)]) (cs:=[iv 1,iv 0]) kr kr kr kr hs.1 rfl ⟨_,_,rfl,⟨rfl,(iK 1)⟩,⟨_,_,rfl,⟨rfl,(iK 0)⟩,rfl⟩⟩ kr fun E e5 M j=>?_)
  replace hs:=hs.tr0 M
  replace hJ0:=Hs0.j0 hJ0 M
  replace a:=a.step0 M
  refine dT 2 (cb 2 ?_)
  refine zj 2 (fun Z=>∀ (N:σ) (m:Env) (z:K) (hs:Step (tb F0 h) h z) (hJ0:J0 N z),zbI f N=some S→Z (ups m [(0,.func (.yield l0) #[] #[]),(1,pt p q),(9,vl B p1 u),(10,iv (p1.length:Int)),(11,iv f.1)]) z) ?_ fun J2=>?_
  ·intro N m z hs hJ0 c
   refine zf (zd (zb (cr (od 2 (oe ?_)))))
   exact ze (sj c).symm ⟨⟨_,eY⟩,hs,(zr _),hJ0⟩
  refine bE c fun d4 b9 a1=>zp (F:=zO y0 p1 f g) (J:=fun k E' i=>(∃ m,E'=ups m [(0,.func (.yield l0) #[] #[]),(1,pt p q),(3,iv f.1),(4,pt C 0),(9,vl B p1 u),(10,iv (p1.length:Int)),(11,iv f.1),(16,sl E ([1,0]:List Int).length 2),(17,iv (([1,0]:List Int).length:Int)),(18,iv k.1)])∧Step (tb F0 h) h i∧I64 k.1∧Gr tI64 true (h.H.size,159002) i 2 E 2 [1,0]∧J0 k.2 i∧Box (h.H.size,159001) i C [iv g.1.1,iv g.1.2,iv g.2] 105) (s0:=(0,f.2)) (x:=d4) kr b9 ⟨⟨_,eY⟩,hs,(iK 0),j,hJ0,a⟩ ?_
  rintro k _ c0 ⟨⟨m,rfl⟩,hs,e7,j,hJ0,a⟩ a2 c a3
  refine cT 1 (cs ?_)
  refine cc _ c ?_ ?_
  ·intro hc c
   refine ckt (cs (cb 3 (csr (bE c fun G c1 c=>?_))))
   obtain ⟨d5,d6,a5,a6,a7,e0,A,a8⟩:=j.sl.idx c1
   obtain ⟨rfl,O⟩:=a8
   replace A:PubAt c0 d5 (d6+k.1.toNat*1) [iv G]:=A
   refine oi 20 32 2 1 (([1,0]:List Int).length) 2 .i64 k.1 a5 a6 a7 (o1 21 2 (iv G) (A.at.one (o:=0) rfl) (dT 1 (cs (cx_ 5 [0,1,2,3,4] [4] 5 [] (xN 22 46 [vl B p1 u] (m1.step hs nm_m1) 0 1 rfl (xp 23 (pt C 0) (xN 24 103 [iv g.1.1,iv g.1.2] a.at 0 2 rfl (xp 25 (iv G) (bE c fun f5 c2 c=>xcl 26 (zbn b7 b8 O c2) ?_)))))))))
   rintro _ e8 ⟨D,rfl,c3,c4⟩
   refine ⟨D,?_⟩
   replace hs:=hs.tr0 D
   replace j:=j.step0 D
   replace hJ0:=Hs0.j0 hJ0 D
   replace a:=a.step0 D
   refine xe (bE c fun b1 c6 c=>ocl 27 (zlG (f6.step hs) c3 c4 c6) ?_)
   rintro _ e9 ⟨H,rfl,c7⟩
   replace hs:=hs.tr0 H
   replace j:=j.step0 H
   replace hJ0:=Hs0.j0 hJ0 H
   replace a:=a.step0 H
   refine dT 1 ?_
   refine zn (fun Z=>∀ (P:σ) (m:Env) (n:K) (hs:Step (tb F0 h) h n) (j:Gr tI64 true (h.H.size,159002) n 2 E 2 [1,0]) (hJ0:J0 P n) (a:Box (h.H.size,159001) n C [iv g.1.1,iv g.1.2,iv g.2] 105),zad k P=some a2→cwp Tryz.prog 41 (sub (zB Tryz.f159) [1,1,1,0,0,1,1,0,0,1,1,0,0,1,1,0,0,1]) Z (ups m [(0,.func (.yield l0) #[] #[]),(1,pt p q),(3,iv f.1),(4,pt C 0),(9,vl B p1 u),(10,iv (p1.length:Int)),(11,iv f.1),(16,sl E ([1,0]:List Int).length 2),(17,iv (([1,0]:List Int).length:Int)),(18,iv k.1),(38,ff)]) n) ?_ fun J3=>?_
   ·intro P m n hs j hJ0 a c
    refine cf (ck (zd (zb (cr (od 2 (oe ?_))))))
    exact ze (sj c).symm ⟨⟨_,eY⟩,hs,(zr _),j,hJ0,a⟩
   refine cO 2 ?_
   refine osp 30 (decide (b1≥0)) c ?_ ?_
   ·intro hg c
    refine oz [31,32,33,34,35,36,37] (dT 1 ?_)
    exact zk eY (J3 k.2  _ _ hs j hJ0 a c)
   intro hg c
   refine od 5 (bE c fun d8 c8 c=>oyl 36 (Hy0 (q0_0:=(f.1,b1)) (q0_1:=G) d0 c7 O hJ0 c8) fun f1 ⟨Q,NhJ⟩=>?_)
   replace hs:=hs.trT (by intro b hb;simp [hb]) Q
   replace j:=j.step Q (j.ntb (zsu hF0))
   replace a:=a.step Q (a.ntb (zsu hF0))
   replace hJ0:=NhJ
   refine dT 2 ?_
   exact zk eY (J3 d8  _ _ hs j hJ0 a c)
  intro hc c
  refine cx 2 (zh ?_)
  have hx:=a3 _ (sj c).symm
  subst hx
  replace c:=a1
  refine zi ?_
  exact zq eY (J2 k.2  _ _ hs hJ0 c)
 intro hc c
 refine cx 0 (zh ?_)
 have hx:=U _ (sj c).symm
 subst hx
 replace c:=R
 refine zi ?_
 exact zq rfl (J1 f.2  _ _ hs hJ0 c)
theorem zkC {a:K} {p0:LP} {c:OA} {c2:Nat} (j:Sl tPlaced a c c2 p0) {r:(LP)} (k:zeb p0=some r) :
 Fn Tryz.prog 148 #[.agg #[vl c p0 c2]] a (fun v b=>Step [] a b∧∃ (e:Nat) (f:Nat) (g:OA) (h:Nat),v=.func (.func 159) #[] #[pt e 0]∧a.H.size≤f∧Box (f,148001) b e [vl g r h] 46∧Sl tPlaced b g h r):=by
 refine fnc 4 [] Tryz.func148 Tryz.ntmps148 fun hs=>csr (xO 1 46 (a.H.size,148001) hs.1 [vl c p0 c2] fun l m i d=>?_)
 replace hs:=hs.tr0 i
 refine od 1 (otx (dT 2 (crt ?_)))
 obtain rfl:=sj k
 exact rT 2 (.func (.func 159) #[] #[pt l 0]) ⟨hs,_,_,_,_,rfl,(fz _),d,(j.step hs)⟩
theorem zl1 {a:K} {p0:Int} (d:I64 p0) {r:Int} (c:zgD p0=some r) :
 Fn Tryz.prog 162 #[iv p0] a (fun v b=>a=b∧v=iv r∧I64 r):=by
 refine fnc 6 [] Tryz.func162 Tryz.ntmps162 fun hs=>cO 1 (otx (dT 4 (crt ?_)))
 obtain rfl:=sj c
 exact rT 2 (iv (Int.tmod (w64 (p0+2)) 4)) ⟨rfl,rfl,(zuH (by decide) (zr _))⟩
theorem zlD {j:K} {p0:LG×LT} {n p:OA} {c2 k:Nat} {p1:Int} {l:Int} (X:Sl tGlue j n c2 p0.1) (f6:Sl tTile j p k p0.2) (a3:I64 p1) (a5:I64 l) {r:Int} (a:zax p0 p1 l=some r) :
 Fn Tryz.prog 163 #[.agg #[vl n p0.1 c2,vl p p0.2 k],iv p1,iv l] j (fun v J=>Step [] j J∧v=iv r∧I64 r):=by
 refine fnc 26 [] Tryz.func163 Tryz.ntmps163 fun hs=>csr (xO 3 43 (j.H.size,163001) hs.1 [vl n p0.1 c2,vl p p0.2 k] fun a6 e L f=>?_)
 replace hs:=hs.tr0 L
 refine dT 1 (cs (cO 1 (o1 9 41 (vl p p0.2 k) (f.at.one (o:=1) rfl) (od 1 (bE a fun g F a=>?_)))))
 obtain ⟨M,N,q,s,t,T,b,u⟩:=(f6.step hs).idx F
 obtain ⟨_,_,rfl,⟨rfl,Y⟩,⟨E,m,rfl,O⟩⟩:=u
 replace b:PubAt e M (N+p1.toNat*2) [zy g.1,vl E g.2 m]:=b
 refine oi 11 41 149 2 p0.2.length k .i64 p1 q s t (od 1 (o1 13 32 (vl E g.2 m) (b.at.one (o:=1) rfl) (od 1 (bE a fun h G a=>?_))))
 obtain ⟨P,Q,w,x,y,U,c,z⟩:=O.idx G
 obtain ⟨rfl,Z⟩:=z
 replace c:PubAt e P (Q+l.toNat*1) [iv h]:=c
 refine oi 15 32 2 1 g.2.length m .i64 l w x y (o1 16 2 (iv h) (c.at.one (o:=0) rfl) (od 1 (otx (dT 2 ?_))))
 refine cc _ a ?_ ?_
 ·intro hc a
  refine cO 1 (o1 20 40 (vl n p0.1 c2) (f.at.one (o:=0) rfl) (od 2 (bE a fun i H a=>?_)))
  obtain ⟨R,S,A,B,C,V,d,D⟩:=(X.step hs).idx H
  obtain ⟨_,_,rfl,⟨rfl,a2⟩,⟨rfl,I⟩⟩:=D
  replace d:PubAt e R (S+(w64 (h - 1)).toNat*2) [zy i.1,iv i.2]:=d
  refine oi 23 40 147 2 p0.1.length c2 .i64 (w64 (h - 1)) A B C (od 1 (o1 25 2 (iv i.2) (d.at.one (o:=1) rfl) (dT 1 (crt (zc ?_)))))
  obtain rfl:=sj a
  exact rT 6 (iv i.2) ⟨hs,rfl,I⟩
 intro hc a
 refine ckt (cT 1 (crt ?_))
 obtain rfl:=sj a
 exact rT 6 (iv 0) ⟨hs,rfl,(iK 0)⟩
theorem zfI {l:K} {p0:LG×LT} {s k:OA} {c2 h:Nat} {p1:Int} {m:Int} {n:Int} (f3:Sl tGlue l s c2 p0.1) (f6:Sl tTile l k h p0.2) (Z:I64 p1) (L:I64 m) (d0:I64 n) {r:Int} (a:zav p0 p1 m n=some r) :
 Fn Tryz.prog 149 #[.agg #[vl s p0.1 c2,vl k p0.2 h],iv p1,iv m,iv n] l (fun v a0=>Step [] l a0∧v=iv r∧I64 r):=by
 refine fnc 33 [] Tryz.func149 Tryz.ntmps149 fun hs=>csr (xO 4 43 (l.H.size,149001) hs.1 [vl s p0.1 c2,vl k p0.2 h] fun d2 b a2 c=>?_)
 replace hs:=hs.tr0 a2
 refine dT 1 (cs (cs (cd 19 (dd 1 (d1 10 41 (vl k p0.2 h) (c.at.one (o:=1) rfl) (dd 1 (bE a fun i R a=>?_)))))))
 obtain ⟨a3,a5,t,u,w,b6,d,x⟩:=(f6.step hs).idx R
 obtain ⟨_,_,rfl,⟨rfl,c1⟩,⟨M,p,rfl,a6⟩⟩:=x
 replace d:PubAt b a3 (a5+p1.toNat*2) [zy i.1,vl M i.2 p]:=d
 refine di 12 41 149 2 p0.2.length h .i64 p1 t u w (dd 1 (d1 14 32 (vl M i.2 p) (d.at.one (o:=1) rfl) (dd 1 (bE a fun N S a=>?_))))
 obtain ⟨a7,a8,y,z,A,b7,e,B⟩:=a6.idx S
 obtain ⟨rfl,c3⟩:=B
 replace e:PubAt b a7 (a8+m.toNat*1) [iv N]:=e
 refine di 16 32 2 1 i.2.length p .i64 m y z A (d1 17 2 (iv N) (e.at.one (o:=0) rfl) (dd 1 (d1 19 41 (vl k p0.2 h) (c.at.one (o:=1) rfl) (dd 1 (bE a fun j T a=>?_)))))
 obtain ⟨a9,b0,C,D,E,b8,f,F⟩:=(f6.step hs).idx T
 obtain ⟨_,_,rfl,⟨rfl,c4⟩,⟨O,q,rfl,b1⟩⟩:=F
 replace f:PubAt b a9 (b0+n.toNat*2) [zy j.1,vl O j.2 q]:=f
 refine di 21 41 149 2 p0.2.length h .i64 n C D E (dd 1 (d1 23 32 (vl O j.2 q) (f.at.one (o:=1) rfl) (dd 1 (bE a fun P U a=>dc 25 (zl1 L U) fun c6=>bE a fun Q V a=>?_))))
 obtain ⟨b2,b3,G,H,I,b9,g,J⟩:=b1.idx V
 obtain ⟨rfl,c7⟩:=J
 replace g:PubAt b b2 (b3+P.toNat*1) [iv Q]:=g
 refine di 26 32 2 1 j.2.length q .i64 P G H I (d1 27 2 (iv Q) (g.at.one (o:=0) rfl) (de (dT 1 ?_)))
 refine cc _ a ?_ ?_
 ·intro hc a
  refine csr (oN 29 43 [vl s p0.1 c2,vl k p0.2 h] (c.at.part 0 2).2 (od 2 (bE a fun b4 X a=>ocl 32 (zlD (f3.step hs) (f6.step hs) Z L X) ?_)))
  rintro _ c9 ⟨b5,rfl,Y⟩
  replace hs:=hs.tr0 b5
  refine dT 1 (crt (zc ?_))
  obtain rfl:=sj a
  exact rT 8 (iv b4) ⟨hs,rfl,Y⟩
 intro hc a
 refine ckt (cT 1 (crt ?_))
 obtain rfl:=sj a
 exact rT 8 (iv 0) ⟨hs,rfl,(iK 0)⟩
theorem ze5 {m:K} {p0:LG×LT} {Y Z L:OA} {c2 c5 G:Nat} {p1:LP} (f3:Sl tGlue m Y c2 p0.1) (f6:Sl tTile m Z c5 p0.2) (f9:Sl tPlaced m L G p1) {r:LB} (n:zaE p0 p1=some r) :
 Fn Tryz.prog 134 #[.agg #[vl Y p0.1 c2,vl Z p0.2 c5],.agg #[vl L p1 G]] m (fun v p=>Step [] m p∧∃ (c4:OA) (c6:Nat),v=vl c4 r c6∧Sl zT p c4 c6 r):=by
 refine zzg 42 [] Tryz.func134 Tryz.ntmps134 fun hs=>csM (cr (xO 2 43 (m.H.size,134001) hs.1 [vl Y p0.1 c2,vl Z p0.2 c5] fun c7 g3 e8 f=>?_))
 replace hs:=hs.tr0 e8
 refine xO 3 46 (m.H.size,134002) hs.1 [vl L p1 G] fun c9 g4 d0 i=>?_
 replace hs:=hs.tr0 d0
 replace f:=f.step0 d0
 refine od 1 (oe (tMn (csM (cr (xT 5 183 (m.H.size,134003) hs.1 [sl none 0 0] fun P g5 a3 c=>?_)))))
 replace hs:=hs.tr0 a3
 replace f:=f.step0 a3
 replace i:=i.step0 a3
 refine oe (tMn (csB (cr (oN 9 46 [vl L p1 G] (i.at.part 0 1).2 (bE n fun i2 d4 n=>ocl 10 (zkC (f9.step hs) d4) ?_)))))
 rintro _ g6 ⟨Q,e9,i3,i4,i5,rfl,J,R,f0⟩
 replace J:=ga hs.1 J
 replace hs:=hs.tr0 Q
 replace f:=f.step0 Q
 replace i:=i.step0 Q
 replace c:=c.step0 Q
 refine oe (tBn (bE n fun a5 d5 n=>?_))
 have a6:=hs.1
 refine zu0 (id:=0) (g:=.tmp 10) (ps:=[11,12]) (gf:=159) (lb:=#[pt e9 0]) 134 m.H.size (fun (y:LB) (p:K)=>∃ (u:OA) (w:Nat),Step [] m p∧Gr zT true (m.H.size,134006) p 210 u w y∧Box (m.H.size,134001) p c7 [vl Y p0.1 c2,vl Z p0.2 c5] 43∧Box (m.H.size,134002) p c9 [vl L p1 G] 46∧Box (m.H.size,134003) p P [vl u y w] 183) (fun p (q:(Int×Int)×Int)=>I64 q.1.1∧I64 q.1.2∧I64 q.2) (fun p (q:(Int×Int)×Int) vs=>vs=[.agg #[iv q.1.1,iv q.1.2],iv q.2]) (zU p0 p1) [] a5 hs.1 ?_ ⟨_,_,hs,Gr.nil,f,i,c⟩ ?_ ?_ ?_
 ·intro s κa κb M hj st hM
  obtain ⟨u,w,hs,k,f,i,c⟩:=hj
  exact ⟨_,_,hs.trZ st hM,k.stepZ st hM kr,f.stepZ st hM kr,i.stepZ st hM kr,c.stepZ st hM kr⟩
 ·intro l N i6 i7 O y s' q vs hN Rl hj hok henc n
  obtain ⟨u,w,hs,k,f,i,c⟩:=hj
  obtain ⟨d6,d7,d8⟩:=hok
  subst henc
  refine ⟨rfl,fun inst hds=>?_⟩
  have go_N:m.H.size≤N:=ga a6 hN
  have hy:Step (tb 134 O) O O:=Step.refl _ _
  refine zk (eA 12 (v:=iv q.2) (eA 11 (v:=.agg #[iv q.1.1,iv q.1.2]) (eA 5 (v:=pt P 0) (eA 3 (v:=pt c9 0) (eA 2 (v:=pt c7 0) rfl))))) (csr (xT 6 233 (m.H.size,134004) hs.1 [iv 0,iv 0] fun i8 g7 z j=>?_))
  replace hy:=hy.tr0 z
  replace hs:=hs.tr0 z
  replace k:=k.step0 z
  replace f:=f.step0 z
  replace i:=i.step0 z
  replace c:=c.step0 z
  replace Rl:=Rl.step0 z
  refine xM 233 [iv q.1.1,iv q.1.2] j fun g8 A _ a8=>?_
  replace hy:=hy.trY (j.o.tb1 kr) A
  replace hs:=hs.trB j.ge A
  replace k:=k.step A (k.nb j (zl kr))
  replace f:=f.step A (nm1 (f.ne j (zl kr)))
  replace i:=i.step A (nm1 (i.ne j (zl kr)))
  replace c:=c.step A (nm1 (c.ne j (zl kr)))
  replace Rl:=Rl.step A (nm1 (Rl.o.ne j.o (zl kr)))
  replace j:=a8
  refine otr (od 1 (oe (rfb Rl fun a9 B NRl=>?_)))
  replace hy:=hy.trY (Rl.o.tb1 kr) B
  replace hs:=hs.trB (ga go_N Rl.ge) B
  replace k:=k.step B (k.nbo Rl.o (zl kr))
  replace f:=f.step B (nm1 (f.o.ne Rl.o (zl kr)))
  replace i:=i.step B (nm1 (i.o.ne Rl.o (zl kr)))
  replace c:=c.step B (nm1 (c.o.ne Rl.o (zl kr)))
  replace j:=j.step B (nm1 (j.o.ne Rl.o (zl kr)))
  replace Rl:=NRl
  refine cb 1 (cs (cd 16 (dN 13 43 [vl Y p0.1 c2,vl Z p0.2 c5] (f.at.part 0 2).2 (dd 1 (d1 15 44 (vl L p1 G) (i.at.one (o:=0) rfl) (dd 1 (d1 17 2 (iv q.1.1) (j.at.one (o:=0) rfl) (bE n fun S d9 n=>?_))))))))
  obtain ⟨f1,f2,b4,b5,b6,g0,H,b7⟩:=(f9.step hs).idx d9
  obtain ⟨_,_,rfl,⟨_,_,rfl,⟨rfl,g9⟩,⟨rfl,h0⟩⟩,⟨rfl,e0⟩⟩:=b7
  replace H:PubAt a9 f1 (f2+q.1.1.toNat*3) [iv S.1.1,iv S.1.2,iv S.2]:=H
  refine di 18 44 105 3 p1.length G .i64 q.1.1 b4 b5 b6 (dd 1 (d1 20 2 (iv S.2) (H.at.one (o:=2) rfl) (dd 2 (d1 23 44 (vl L p1 G) (i.at.one (o:=0) rfl) (dd 1 (d1 25 2 (iv q.1.2) (j.at.one (o:=1) rfl) (bE n fun U e1 n=>?_)))))))
  obtain ⟨f4,f5,b8,b9,c0,g1,I,c1⟩:=(f9.step hs).idx e1
  obtain ⟨_,_,rfl,⟨_,_,rfl,⟨rfl,h1⟩,⟨rfl,h2⟩⟩,⟨rfl,e2⟩⟩:=c1
  replace I:PubAt a9 f4 (f5+q.1.2.toNat*3) [iv U.1.1,iv U.1.2,iv U.2]:=I
  refine di 26 44 105 3 p1.length G .i64 q.1.2 b8 b9 c0 (dd 1 (d1 28 2 (iv U.2) (I.at.one (o:=2) rfl) (de (bE n fun V e3 n=>ocl 29 (zfI (f3.step hs) (f6.step hs) e0 d8 e2 e3) ?_))))
  rintro _ h3 ⟨x,rfl,e4⟩
  replace hy:=hy.tr0 x
  replace hs:=hs.tr0 x
  replace k:=k.step0 x
  replace f:=f.step0 x
  replace i:=i.step0 x
  replace c:=c.step0 x
  replace Rl:=Rl.step0 x
  replace j:=j.step0 x
  refine od 1 (otx (dT 2 ?_))
  refine cc _ n ?_ ?_
  ·intro hc n
   refine cr (o1 32 183 (vl u y w) (c.at.one (o:=0) rfl) (od 1 (o1 34 2 (iv q.1.1) (j.at.one (o:=0) rfl) (od 1 (o1 36 2 (iv q.1.2) (j.at.one (o:=1) rfl) (od 2 (zJ (d:=39) (T:=183) (e:=210) (t:=zT) (pub:=true) (τ:=(m.H.size,134005)) (len:=1) (l:=[(q.1.1,(q.1.2,V))]) (parts:=#[(0,.agg #[iv q.1.1,iv q.1.2,iv V])]) (cs:=[iv q.1.1,iv q.1.2,iv V]) kr kr kr kr hs.1 rfl ⟨_,_,rfl,⟨_,_,rfl,⟨rfl,d6⟩,⟨_,_,rfl,⟨rfl,d7⟩,⟨rfl,e4⟩⟩⟩,rfl⟩ kr fun f7 h5 C f8=>?_)))))))
   replace hy:=hy.tr0 C
   replace hs:=hs.tr0 C
   replace k:=k.step0 C
   replace f:=f.step0 C
   replace i:=i.step0 C
   replace c:=c.step0 C
   replace Rl:=Rl.step0 C
   refine bE n fun b0 e5 n=>?_
   have f31q:=k.sl
   refine zH (d:=40) (T:=183) (e:=210) (t:=zT) (pub:=true) (τ:=(m.H.size,134006)) (bytes:=24) (a:=u) (cp:=w) (l:=y) (a2:=f7) (c2:=1) (l2:=[(q.1.1,(q.1.2,V))]) kr kr k f8.sl hs.1 kr e5 fun b1 b2 h6 E X hw=>?_
   clear hw
   replace hy:=hy.trY (k.tb1 kr) E
   replace hs:=hs.trG (k.own (fz _)) E
   replace f31q:=f31q.step E
   replace f:=f.step E (k.bn f (zl kr))
   replace i:=i.step E (k.bn i (zl kr))
   replace c:=c.step E (k.bn c (zl kr))
   replace Rl:=Rl.step E (k.bno Rl.o (zl kr))
   refine zm (b:=P) (off:=0) (T:=183) (vl b1 b0 b2) [vl b1 b0 b2] [vl b1 b0 b2] kr kr c rfl kr kr kr rfl fun h7 F _ b3=>?_
   replace hy:=hy.trY (c.o.tb1 kr) F
   replace hs:=hs.trB c.ge F
   replace f31q:=f31q.step F
   replace X:=X.step F (X.nb c (zl kr))
   replace f:=f.step F (nm1 (f.ne c (zl kr)))
   replace i:=i.step F (nm1 (i.ne c (zl kr)))
   replace Rl:=Rl.step F (nm1 (Rl.o.ne c.o (zl kr)))
   replace c:=b3
   refine oe (zd ?_)
   obtain rfl:=sj n
   exact rfe Rl hy ⟨_,_,hs,X,f,i,c⟩
  intro hc n
  refine ck (zd ?_)
  obtain rfl:=sj n
  exact rfe Rl hy ⟨_,_,hs,k,f,i,c⟩
 ·intro J' l i9 s1 Hs Hy hJ
  exact (zjf (σ:=LB) (F0:=134) (B0:=m.H.size) (J0:=J') (l0:=l) (y0:=(fun s q0 q1=>zU p0 p1 s (q0,q1))) (s0:=[]) (Hs0:=Hs) (Hy0 := @fun _ _ _ q0 q1 w0 w1 w2 hj he=>Hy (a:=(q0,q1)) hj ⟨w0,w1,w2⟩ rfl he) (hJ0:=hJ) (hB0:=ga a6 s1.1) (hF0:=kr) (m1:=(R.at.step0 s1).part 0 1) (nm_m1:=(R.step0 s1).ntb (zsu kr)) (f6:=f0.step s1) d5).mono fun _ _ h=>by obtain ⟨_,_,hj⟩:=h;exact hj
 intro N D i0 hN Md hj inst hds
 obtain ⟨u,w,hs,k,f,i,c⟩:=hj
 have go_N:m.H.size≤N:=ga a6 hN
 refine zk (eA 5 (v:=pt P 0) rfl) (csr (o1 41 183 (vl u a5 w) (c.at.one (o:=0) rfl) (dT 1 (crt (rtM Md fun i1 d2 _=>?_)))))
 replace hs:=hs.trB (ga go_N Md.ge) d2
 replace k:=k.step d2 (k.nbo Md.o (zl kr))
 obtain rfl:=sj n
 exact rT 4 (vl u a5 w) ⟨hs,_,_,rfl,k.sl⟩
theorem zo8 {s:K} {p0:Int} {p1:LB} {a2:OA} {c3:Nat} (u0:I64 p0) (f4:Sl zT s a2 c3 p1) {r:(LM×LM)} (j:zh6 p0 p1=some r) :
 Fn Tryz.prog 150 #[iv p0,vl a2 p1 c3] s (fun v A=>Step [] s A∧∃ (b5:Nat) (N6:Nat) (a7:OA) (c8:Nat) (l8:OA) (l9:Nat) (m0:List Hd),v=pt b5 0∧s.H.size≤N6∧Box (N6,150001) A b5 [vl a7 r.1 c8,vl l8 r.2 l9] 256∧Gr (tSl tI64) true (N6,150004) A 32 a7 c8 r.1∧Mat tI64 false (N6,150007) A 32 2 l8 l9 m0 m0 r.2):=by
 refine fnc 76 [] Tryz.func150 Tryz.ntmps150 fun hs=>cO 1 (otx (od 1 (xO 9 256 (s.H.size,150001) hs.1 [sl none 0 0,sl none 0 0] fun n s2 o9 f=>?_)))
 replace hs:=hs.tr0 o9
 refine dT 1 (cs (cT 2 (cb 0 ?_)))
 refine zj 0 (fun Z=>∀ (c0:LM) (E:LM) (f8:OA) (f9:Nat) (g0:List Hd) (M:OA) (N:Nat) (U:List Hd) (V:Env) (P:K),Step [] s P→Mat tI64 false (s.H.size,150004) P 32 2 f8 f9 g0 g0 c0→Mat tI64 false (s.H.size,150007) P 32 2 M N U U E→Box (s.H.size,150001) P n [vl f8 c0 f9,vl M E N] 256→zh5 p1 c0 E=some r→Z (ups V [(1,vl a2 p1 c3),(5,pt n 0)]) P) ?_ fun J1=>?_
 ·intro c0 E f8 f9 g0 M N U V P hs p2 p f j
  refine zf (zb (cs (cT 3 (cb 2 ?_))))
  refine zj 2 (fun Z=>∀ (e0:LM) (g1:OA) (g2:Nat) (g3:List Hd) (V:Env) (Q:K),Step [] s Q→Mat tI64 false (s.H.size,150004) Q 32 2 g1 g2 g3 g3 e0→Mat tI64 false (s.H.size,150007) Q 32 2 M N U U E→Box (s.H.size,150001) Q n [vl g1 e0 g2,vl M E N] 256→zh4 E e0=some r→Z (ups V [(5,pt n 0)]) Q) ?_ fun J2=>?_
  ·intro e0 g1 g2 g3 V Q hs a5 p f j
   refine zf (zb (cT 2 (zmx a5 fun s5 g4 m5=>?_)))
   replace hs:=hs.trG (a5.own (fz _)) g4
   replace p:=p.step g4 (p.ngm a5 (zl kr))
   replace f:=f.step g4 (a5.bn f (zl kr))
   replace a5:=m5
   refine crt ?_
   obtain rfl:=sj j
   exact rT 4 (pt n 0) ⟨hs,_,_,_,_,_,_,_,rfl,(fz _),f,a5,p⟩
  refine bE j fun p3 m6 h8=>zp (F:=zdv p1) (J:=fun B E' A=>∃ (O:OA) (G:Nat) (g5:List Hd),(∃ V,E'=ups V [(5,pt n 0),(36,vl a2 p1 c3),(37,iv (p1.length:Int)),(38,iv B.1)])∧Step [] s A∧I64 B.1∧Mat tI64 false (s.H.size,150004) A 32 2 O G g5 g5 B.2∧Mat tI64 false (s.H.size,150007) A 32 2 M N U U E∧Box (s.H.size,150001) A n [vl O B.2 G,vl M E N] 256) (s0:=(0,c0)) (x:=p3) kr m6 ⟨_,_,_,⟨_,eY⟩,hs,(iK 0),p2,p,f⟩ ?_
  rintro B _ m8 ⟨O,G,g5,⟨V,rfl⟩,hs,s6,q,p,f⟩ q4 j h9
  refine cT 1 (cs ?_)
  refine cc _ j ?_ ?_
  ·intro hc j
   refine ckt (cs (cb 3 (csr (bE j fun i n0 j=>?_))))
   obtain ⟨p4,p5,i0,i1,i2,q5,b2,i3⟩:=(f4.step hs).idx n0
   obtain ⟨_,_,rfl,⟨rfl,s7⟩,⟨_,_,rfl,⟨rfl,s8⟩,⟨rfl,s9⟩⟩⟩:=i3
   replace b2:PubAt m8 p4 (p5+B.1.toNat*3) [iv i.1,iv i.2.1,iv i.2.2]:=b2
   refine oi 40 183 210 3 p1.length c3 .i64 B.1 i0 i1 i2 (oN 41 210 [iv i.1,iv i.2.1,iv i.2.2] (b2.at.part 0 3).2 (xT 7 210 (s.H.size,150008) hs.1 [iv 0,iv 0,iv 0] fun u1 t0 e1 k=>?_))
   replace hs:=hs.tr0 e1
   replace p:=p.step0 e1
   replace q:=q.step0 e1
   replace f:=f.step0 e1
   refine xM 210 [iv i.1,iv i.2.1,iv i.2.2] k fun g6 e2 _ g7=>?_
   replace hs:=hs.trB k.ge e2
   replace p:=p.step e2 (p.nb k (zl kr))
   replace q:=q.step e2 (q.nb k (zl kr))
   replace f:=f.step e2 (nm1 (f.ne k (zl kr)))
   replace k:=g7
   refine ot (cs (cd 14 (dd 3 (d1 45 33 (vl O B.2 G) (f.at.one (o:=0) rfl) (dd 1 (d1 47 2 (iv i.1) (k.at.one (o:=0) rfl) (bE j fun g8 g9 j=>?_)))))))
   obtain ⟨u2,p6,h0,i4,i5,i6,e3,i7,m1⟩:=q.idx g9
   refine di 48 33 32 1 B.2.length G .i64 i.1 (off:=0) i4 i5 i6 (d1 49 32 (vl p6 g8 h0) (i7.one (o:=0) rfl) (dd 1 (d1 51 2 (iv i.2.1) (k.at.one (o:=1) rfl) (bE j fun c1 n1 j=>?_))))
   obtain ⟨p7,i8,i9,j1,q6,b3,j2⟩:=m1.idx n1
   obtain ⟨rfl,t1⟩:=j2
   replace b3:At g6 p7 (0+i.2.1.toNat*1) [iv c1]:=b3
   refine di 52 32 2 1 g8.length h0 .i64 i.2.1 (off:=0) i8 i9 j1 (d1 53 2 (iv c1) (b3.one (o:=0) rfl) (dd 1 (d1 55 2 (iv i.2.2) (k.at.one (o:=2) rfl) (de (od 1 (bE j fun p8 n2 j=>?_))))))
   obtain ⟨m2,e4,e5,e6,q7,e7,j3⟩:=m1.idx n2
   obtain ⟨rfl,t2⟩:=j3
   replace e7:At g6 m2 (0+i.2.1.toNat*1) [iv p8]:=e7
   refine oi 57 32 2 1 g8.length h0 .i64 i.2.1 (off:=0) e4 e5 e6 (bE j fun h1 h2 j=>zoS (T:=2) (t:=tI64) (jx:=i.2.1) (x':=w64 (c1+i.2.2)) (b:=m2) (δ:=0) (vs:=[iv (w64 (c1+i.2.2))]) (iv (w64 (c1+i.2.2))) kr kr e4 q e3 (zsR g9) e5 e6 kr kr kr kr (fun cs hx=>by obtain ⟨x,_,ho⟩:=hx;rw [zM ((tI64.len ho).trans kr)];exact ⟨rfl,(zr _)⟩) fun c6 a6 c7=>?_)
   replace a6:=a6.mono (zgc (a:=O) (c:=G) e3)
   replace hs:=hs.trG (q.own (fz _)) a6
   replace p:=p.step a6 (p.ngm q (zl kr))
   replace f:=f.step a6 (q.bn f (zl kr))
   replace k:=k.step a6 (q.bn k (zl kr))
   replace q:=zmd h2 c7
   have f6:=zL h2
   replace f:Box (s.H.size,150001) c6 n [vl O h1 G,vl M E N] 256:=by unfold vl;rw [f6];exact f
   refine ot (cd 14 (dd 3 (d1 61 33 (vl O h1 G) (f.at.one (o:=0) rfl) (dd 1 (d1 63 2 (iv i.2.1) (k.at.one (o:=1) rfl) (bE j fun h3 h4 j=>?_))))))
   obtain ⟨u3,p9,h5,j4,j5,j6,e8,j7,m3⟩:=q.idx h4
   refine di 64 33 32 1 h1.length G .i64 i.2.1 (off:=0) j4 j5 j6 (d1 65 32 (vl p9 h3 h5) (j7.one (o:=0) rfl) (dd 1 (d1 67 2 (iv i.1) (k.at.one (o:=0) rfl) (bE j fun c4 n3 j=>?_))))
   obtain ⟨q0,j8,j9,k0,q8,b4,k3⟩:=m3.idx n3
   obtain ⟨rfl,t3⟩:=k3
   replace b4:At c6 q0 (0+i.1.toNat*1) [iv c4]:=b4
   refine di 68 32 2 1 h3.length h5 .i64 i.1 (off:=0) j8 j9 k0 (d1 69 2 (iv c4) (b4.one (o:=0) rfl) (dd 1 (d1 71 2 (iv i.2.2) (k.at.one (o:=2) rfl) (de (od 1 (bE j fun q1 n4 j=>?_))))))
   obtain ⟨m4,e9,f0,f1,q9,f2,k4⟩:=m3.idx n4
   obtain ⟨rfl,t4⟩:=k4
   replace f2:At c6 m4 (0+i.1.toNat*1) [iv q1]:=f2
   refine oi 73 32 2 1 h3.length h5 .i64 i.1 (off:=0) e9 f0 f1 (bE j fun q2 h6 j=>zoS (T:=2) (t:=tI64) (jx:=i.1) (x':=w64 (c4+i.2.2)) (b:=m4) (δ:=0) (vs:=[iv (w64 (c4+i.2.2))]) (iv (w64 (c4+i.2.2))) kr kr e9 q e8 (zsR h4) f0 f1 kr kr kr kr (fun cs hx=>by obtain ⟨x,_,ho⟩:=hx;rw [zM ((tI64.len ho).trans kr)];exact ⟨rfl,(zr _)⟩) fun n5 c5 c7=>?_)
   replace c5:=c5.mono (zgc (a:=O) (c:=G) e8)
   replace hs:=hs.trG (q.own (fz _)) c5
   replace p:=p.step c5 (p.ngm q (zl kr))
   replace f:=f.step c5 (q.bn f (zl kr))
   replace q:=zmd h6 c7
   have f7:=zL h6
   replace f:Box (s.H.size,150001) n5 n [vl O q2 G,vl M E N] 256:=by unfold vl;rw [f7];exact f
   refine oe (zd (zb (cr (od 2 (oe ?_)))))
   exact ze (sj j).symm ⟨_,_,_,⟨_,eY⟩,hs,(zr _),q,p,f⟩
  intro hc j
  refine cx 2 (zh ?_)
  have hx:=h9 _ (sj j).symm
  subst hx
  replace j:=h8
  refine zi ?_
  exact zq eY (J2 B.2 _ _ _ _ _ hs q p f j)
 refine bE j fun q3 n6 k5=>zp (F:=zdw p0) (J:=fun u E' A=>∃ (a8:OA) (a9:Nat) (b0:List Hd) (X:OA) (Y:Nat) (b1:List Hd),(∃ V,E'=ups V [(0,iv p0),(1,vl a2 p1 c3),(5,pt n 0),(10,iv p0),(11,iv u.1)])∧Step [] s A∧I64 u.1∧Mat tI64 false (s.H.size,150004) A 32 2 a8 a9 b0 b0 u.2.1∧Mat tI64 false (s.H.size,150007) A 32 2 X Y b1 b1 u.2.2∧Box (s.H.size,150001) A n [vl a8 u.2.1 a9,vl X u.2.2 Y] 256) (s0:=(0,[],[])) (x:=q3) kr n6 ⟨_,_,_,_,_,_,⟨_,eY⟩,hs,(iK 0),Mat.nil,Mat.nil,f⟩ ?_
 rintro u _ t5 ⟨a8,a9,b0,X,Y,b1,⟨V,rfl⟩,hs,t6,g,h,f⟩ r0 j k6
 refine cT 1 (cs ?_)
 refine cc _ j ?_ ?_
 ·intro hc j
  refine ckt (cs (cb 1 (cs (cx_ 9 [0,1,2,3,4,5,6,7,8] [6,7,8] 8 (blk a8 a9) (xp 13 (pt n 0) (xp 14 (pt n 0) (xp 15 (pt n 0) (xp 16 (pt n 0) (x1 17 33 (vl a8 u.2.1 a9) f.at 0 rfl (xp 18 (iv p0) (bE j fun w k7 j=>zs4 (d:=19) (T:=32) (e:=2) (t:=tI64) (pub:=false) (τ:=(s.H.size,150002)) (bytes:=8) (k1:=.i64) (k2:=.i64) (m:=p0) (zs:=[iv 0]) (z:=0) kr kr kr kr ⟨rfl,(iK 0)⟩ k7 hs.1 fun R t7 f3 C=>?_)))))))))))
  replace hs:=hs.tr0 f3
  replace g:=g.step0 f3
  replace h:=h.step0 f3
  replace f:=f.step0 f3
  refine zhp (d:=20) (T:=33) (e:=32) (t:=tH) (pub:=true) (τ:=(s.H.size,150003)) (len:=1) (l:=[(R,w.length,w.length)]) (parts:=#[(0,vl R w w.length)]) (cs:=[vl R w w.length]) kr kr kr kr hs.1 rfl ⟨_,_,rfl,rfl,rfl⟩ kr fun n7 r1 a0 n8=>?_
  replace hs:=hs.tr0 a0
  replace g:=g.step0 a0
  replace h:=h.step0 a0
  replace C:=C.step0 a0
  replace f:=f.step0 a0
  refine bE j fun a1 k8 j=>?_
  obtain ⟨k9,l0,c9⟩:=zuC (H2:=[(R,w.length,w.length)]) k8 g.len rfl
  refine zp3 (d:=21) (T:=33) (e:=32) (t:=tH) (pub:=false) (τ:=(s.H.size,150004)) (bytes:=24) (a:=a8) (cp:=a9) (l:=b0) (a2:=n7) (c2:=1) (l2:=[(R,w.length,w.length)]) u.2.1.length a1.length g.len c9 kr kr g.out n8.sl hs.1 kr k9 kr fun b6 b7 r2 I n9 hw=>?_
  have d0:=g.outer I n9 hw
  clear hw
  replace I:=I.mono (zf2 (hs:=b0))
  replace hs:=hs.trG (g.own (fz _)) I
  replace h:=h.step I (h.ngm g (zl kr))
  replace C:=C.step I (C.ngm g (zl kr))
  replace f:=f.step I (g.bn f (zl kr))
  replace g:=d0
  refine xe ?_
  obtain ⟨r3,o0,d2,d0⟩:=g.snoc C (zl kr) (fz _)
  refine zlU o0 ?_
  replace hs:=hs.trG (C.own (fz _)) d2
  replace h:=h.step d2 (h.ng C (zl kr))
  replace f:=f.step d2 (C.bn f (zl kr))
  replace g:=d0
  obtain ⟨t8,l1⟩:∃ H:List Hd,H=b0++[(R,w.length,w.length)]:=⟨_,rfl⟩
  rw [←l1,←l0] at g
  refine od 2 (zm (b:=n) (off:=0) (T:=33) (vl b6 a1 b7) [vl b6 a1 b7] [vl b6 a1 b7,vl X u.2.2 Y] kr kr f rfl kr kr kr rfl fun r4 d3 _ a3=>?_)
  replace hs:=hs.trB f.ge d3
  replace h:=h.step d3 (h.nb f (zl kr))
  replace g:=g.step d3 (g.nb f (zl kr))
  replace f:=a3
  refine ot (cx_ 9 [0,1,2,3,4,5,6,7,8] [6,7,8] 8 (blk X Y) (xp 24 (pt n 0) (xp 25 (pt n 0) (xp 26 (pt n 0) (xp 27 (pt n 1) (x1 28 33 (vl X u.2.2 Y) f.at 1 rfl (xp 29 (iv p0) (bE j fun y l3 j=>zs4 (d:=30) (T:=32) (e:=2) (t:=tI64) (pub:=false) (τ:=(s.H.size,150005)) (bytes:=8) (k1:=.i64) (k2:=.i64) (m:=p0) (zs:=[iv 0]) (z:=0) kr kr kr kr ⟨rfl,(iK 0)⟩ l3 hs.1 fun S r5 b8 D=>?_))))))))
  replace hs:=hs.tr0 b8
  replace h:=h.step0 b8
  replace g:=g.step0 b8
  replace f:=f.step0 b8
  refine zhp (d:=31) (T:=33) (e:=32) (t:=tH) (pub:=true) (τ:=(s.H.size,150006)) (len:=1) (l:=[(S,y.length,y.length)]) (parts:=#[(0,vl S y y.length)]) (cs:=[vl S y y.length]) kr kr kr kr hs.1 rfl ⟨_,_,rfl,rfl,rfl⟩ kr fun o2 r6 a4 o3=>?_
  replace hs:=hs.tr0 a4
  replace h:=h.step0 a4
  replace g:=g.step0 a4
  replace D:=D.step0 a4
  replace f:=f.step0 a4
  refine bE j fun b9 l4 j=>?_
  obtain ⟨l5,l6,d4⟩:=zuC (H2:=[(S,y.length,y.length)]) l4 h.len rfl
  refine zp3 (d:=32) (T:=33) (e:=32) (t:=tH) (pub:=false) (τ:=(s.H.size,150007)) (bytes:=24) (a:=X) (cp:=Y) (l:=b1) (a2:=o2) (c2:=1) (l2:=[(S,y.length,y.length)]) u.2.2.length b9.length h.len d4 kr kr h.out o3.sl hs.1 kr l5 kr fun d5 d6 r7 L o4 hw=>?_
  have d7:=h.outer L o4 hw
  clear hw
  replace L:=L.mono (zf2 (hs:=b1))
  replace hs:=hs.trG (h.own (fz _)) L
  replace g:=g.step L (g.ngm h (zl kr))
  replace D:=D.step L (D.ngm h (zl kr))
  replace f:=f.step L (h.bn f (zl kr))
  replace h:=d7
  refine xe ?_
  obtain ⟨r8,o5,d8,d7⟩:=h.snoc D (zl kr) (fz _)
  refine zlU o5 ?_
  replace hs:=hs.trG (D.own (fz _)) d8
  replace g:=g.step d8 (g.ng D (zl kr))
  replace f:=f.step d8 (D.bn f (zl kr))
  replace h:=d7
  obtain ⟨t9,l7⟩:∃ H:List Hd,H=b1++[(S,y.length,y.length)]:=⟨_,rfl⟩
  rw [←l7,←l6] at h
  refine od 2 (zm (b:=n) (off:=1) (T:=33) (vl d5 b9 d6) [vl d5 b9 d6] [vl b6 a1 b7,vl d5 b9 d6] kr kr f rfl kr kr kr rfl fun r9 d9 _ a3=>?_)
  replace hs:=hs.trB f.ge d9
  replace g:=g.step d9 (g.nb f (zl kr))
  replace h:=h.step d9 (h.nb f (zl kr))
  replace f:=a3
  refine oe (zd (zb (cr (od 2 (oe ?_)))))
  exact ze (sj j).symm ⟨_,_,_,_,_,_,⟨_,eY⟩,hs,(zr _),g,h,f⟩
 intro hc j
 refine cx 0 (zh ?_)
 have hx:=k6 _ (sj j).symm
 subst hx
 replace j:=k5
 refine zi ?_
 exact zq eY (J1 u.2.1 u.2.2 _ _ _ _ _ _ _ _ hs g h f j)
theorem zm0 {i:K} {p0:LI} {Q:OA} {c2:Nat} {p1:Int} (f3:Sl tI64 i Q c2 p0) (c6:I64 p1) {r:LI} (b:zff p0 p1=some r) :
 Fn Tryz.prog 171 #[vl Q p0 c2,iv p1] i (fun v k=>Step [] i k∧∃ (Y:Nat) (a6:OA) (c7:Nat),v=vl a6 r c7∧i.H.size≤Y∧Gr tI64 false (Y,171001) k 3 a6 c7 r):=by
 refine fnc 48 [] Tryz.func171 Tryz.ntmps171 fun hs=>cT 1 (cs (cT 2 ?_))
 refine cc _ b ?_ ?_
 ·intro C b
  cases b
 intro C b
 refine ckt (cO 5 (bE b fun D a3 b=>ocl 18 (zpI  a3) ?_))
 rintro _ _ ⟨rfl,rfl⟩
 refine dT 5 (cs ?_)
 refine zn (fun Z=>∀ (E:Bool) (l:Env),zdi p0 D E=some r→cwp Tryz.prog 48 (sub (zB Tryz.f171) [1,0,1,1,1]) Z (ups l [(0,vl Q p0 c2),(6,.int .u64 D.2),(26,.bool E)]) i) ?_ fun J1=>?_
 ·intro E l b
  refine cc _ b ?_ ?_
  ·intro C b
   cases b
  intro C b
  refine ckt (cO 2 (bE b fun G R b=>zdl (d:=30) (T:=257) (e:=3) (t:=tI64) (pub:=false) (τ:=(i.H.size,171001)) (bytes:=8) (k1:=.i64) (k2:=.i64) (m:=w64 D.2) (zs:=[iv 0]) (z:=0) kr kr kr kr ⟨rfl,(iK 0)⟩ R hs.1 fun a5 b6 a7 h=>?_))
  replace hs:=hs.tr0 a7
  refine od 1 (otx (od 2 (bE b fun P H b=>zzu (ty:=3) (d:=33) (T:=257) (T2:=257) h (f3.step hs) fun b7 a8 S=>?_)))
  have U:=zx0 (l2:=p0) h.most
  replace hs:=hs.trG (h.own (fz _)) a8
  replace h:=S
  have A:=zwO H (Nat.zero_le _)
  replace h:=zxa H h
  refine zam (eA 33 (v:=iv ((min p0.length G.length:Nat):Int)) (za (t:=7) (v:=vl a5 P G.length) rfl (by unfold vl;rw [A];kernel_rfl))) (dT 1 (cs (cb 0 ?_)))
  refine zj 0 (fun Z=>∀ (n:LI) (u:OA) (y:Nat) (l:Env) (j:K),Step [] i j→Gr tI64 false (i.H.size,171001) j 3 u y n→zja n=some r→Z (ups l [(7,vl u n y)]) j) ?_ fun J2=>?_
  ·intro n u y l j hs a9 b
   refine zf (zb (cT 2 (crt ?_)))
   obtain rfl:=sj b
   exact rT 4 (vl u n y) ⟨hs,_,_,_,rfl,(fz _),a9⟩
  refine bE b fun b0 V N=>zp (F:=zdh) (J:=fun a E' k=>∃ (c:OA) (f:Nat),(∃ l,E'=ups l [(7,vl c a.1 f),(8,iv a.2)])∧Step [] i k∧Gr tI64 false (i.H.size,171001) k 3 c f a.1∧I64 a.2) (s0:=(P,((min p0.length G.length:Nat):Int))) (x:=b0) kr V ⟨_,_,⟨_,eY⟩,hs,h,U⟩ ?_
  rintro a _ c0 ⟨c,f,⟨l,rfl⟩,hs,g,c1⟩ b4 b O
  refine cs (cT 4 ?_)
  refine cc _ b ?_ ?_
  ·intro C b
   refine ckt (cb 1 (cx_ 8 [0,1,2,3,4,5,6,7] [7] 7 (blk c f) (xp 38 (iv a.2) (xp 39 (vl c a.1 f) (xp 40 (iv a.2) (bE b fun b1 q b=>xq 41 (sl (if f=a.2.toNat then c else c.map (·.add (a.2.toNat*1))) b1.length (f - a.2.toNat)) (fun w=>zm2 (s:=vOf (Instr.sliceAt 257 (vl c a.1 f) (zm9 (some a.2)) none none)) kr (zI (ziU (e:=3) (t:=tI64) (lo:=some a.2) (hi:=none) kr kr g.cap q w))) (xp 42 (vl c a.1 f) (xp 43 (iv a.2) (bE b fun I L b=>xq 44 (vl c I f) (fun w=>zm2 (s:=vOf (Instr.sliceAt 257 (vl c a.1 f) none (zm9 (some a.2)) none)) kr (zI (zxt (e:=3) (t:=tI64) kr kr g.cap L w))) (bE b fun b2 M b=>zzl (ty:=3) (d:=45) (T:=257) (T2:=257) g q L kr fun c3 b3 X=>?_))))))))))
   have c4:=zyY (p:=I) (lo:=a.2.toNat) g.most
   replace hs:=hs.trG (g.own (fz _)) b3
   replace g:=X
   have B:=zwO M (zxp q)
   replace g:=zxa M g
   refine zxj (eA 45 (v:=iv ((min I.length (a.1.length - a.2.toNat):Nat):Int)) (eA 38 (v:=iv a.2) (za (t:=7) (v:=vl c b2 f) rfl (by unfold vl;rw [B];kernel_rfl)))) (xe (od 2 (oe (zd ?_))))
   exact ze (sj b).symm ⟨_,_,⟨_,eY⟩,hs,g,(zr _)⟩
  intro C b
  refine cx 0 (zh ?_)
  have hx:=O _ (sj b).symm
  subst hx
  replace b:=N
  refine zi ?_
  exact zq eY (J2 a.1 _ _ _ _ hs g b)
 refine cO 2 ?_
 refine osp 23 (decide (D.1>0)) b ?_ ?_
 ·intro hg b
  refine dT 3 ?_
  exact zk eY (J1 (decide (D.2>9223372036854775807))  _  b)
 intro hg b
 refine oz [24,25] (dT 1 ?_)
 exact zk eY (J1 true  _  b)
theorem znh {a:K} {p0:LM×LM} {D E:Nat} {H I:OA} {c2 m:Nat} {p1:Int} {g:Int} (R:At a D E [vl H p0.1 c2,vl I p0.2 m]) (f3:Sl (tSl tI64) a H c2 p0.1) (f6:Sl (tSl tI64) a I m p0.2) (b4:I64 p1) (b5:I64 g) {r:Bool} (b:zfj p0 p1 g=some r) :
 Fn Tryz.prog 172 #[pt D E,iv p1,iv g] a (fun v S=>a=S∧v=.bool r):=by
 refine fnc 28 [] Tryz.func172 Tryz.ntmps172 fun hs=>cT 1 (cs (cd 20 (dd 3 (d1 10 33 (vl H p0.1 c2) ((R.step0 hs).one (o:=0) rfl) (dd 1 (bE b fun J T b=>?_))))))
 obtain ⟨U,V,n,L,M,b1,c,N⟩:=f3.idx T
 obtain ⟨F,h,rfl,X⟩:=N
 replace c:PubAt a U (V+p1.toNat*1) [vl F J h]:=c
 refine di 12 33 32 1 p0.1.length c2 .i64 p1 n L M (d1 13 32 (vl F J h) (c.at.one (o:=0) rfl) (dd 1 (bE b fun i O b=>?_)))
 obtain ⟨Y,Z,p,q,s,a7,d,t⟩:=X.idx O
 obtain ⟨rfl,b2⟩:=t
 replace d:PubAt a Y (Z+g.toNat*1) [iv i]:=d
 refine di 15 32 2 1 J.length h .i64 g p q s (d1 16 2 (iv i) (d.at.one (o:=0) rfl) (dd 3 (d1 20 33 (vl I p0.2 m) ((R.step0 hs).one (o:=1) rfl) (dd 1 (bE b fun j P b=>?_)))))
 obtain ⟨a0,a2,u,w,x,a8,e,y⟩:=f6.idx P
 obtain ⟨G,k,rfl,a3⟩:=y
 replace e:PubAt a a0 (a2+p1.toNat*1) [vl G j k]:=e
 refine di 22 33 32 1 p0.2.length m .i64 p1 u w x (d1 23 32 (vl G j k) (e.at.one (o:=0) rfl) (dd 1 (bE b fun l Q b=>?_)))
 obtain ⟨a5,a6,z,A,B,a9,f,C⟩:=a3.idx Q
 obtain ⟨rfl,b3⟩:=C
 replace f:PubAt a a5 (a6+g.toNat*1) [iv l]:=f
 refine di 25 32 2 1 j.length k .i64 g z A B (d1 26 2 (iv l) (f.at.one (o:=0) rfl) (de (dT 2 (crt ?_))))
 obtain rfl:=sj b
 exact rT 6 (bW (i>l)) ⟨rfl,rfl⟩
theorem znO {i:K} {p0:LM×LM} {C D:Nat} {a1 a4:OA} {c2 c5:Nat} {p1:Int} {w:Int} (m0:At i C D [vl a1 p0.1 c2,vl a4 p0.2 c5]) (f3:Sl (tSl tI64) i a1 c2 p0.1) (f6:Sl (tSl tI64) i a4 c5 p0.2) (n1:I64 p1) (i0:I64 w) {r:LI} (c:zf8 p0 p1 w=some r) :
 Fn Tryz.prog 164 #[pt C D,iv p1,iv w] i (fun v p=>Step [] i p∧∃ (N9:Nat) (d9:OA) (i1:Nat),v=vl d9 r i1∧i.H.size≤N9∧Gr tI64 false (N9,164003) p 3 d9 i1 r∧(r=[]→d9=none)):=by
 refine fnc 79 [] Tryz.func164 Tryz.ntmps164 fun hs=>cO 1 (otx (od 3 (o1 17 33 (vl a1 p0.1 c2) ((m0.step0 hs).one (o:=0) rfl) (od 2 (otx (zJ (d:=19) (T:=257) (e:=3) (t:=tI64) (pub:=true) (τ:=(i.H.size,164001)) (len:=1) (l:=[(-1)]) (parts:=#[(0,iv (-1))]) (cs:=[iv (-1)]) kr kr kr kr hs.1 rfl ⟨_,_,rfl,⟨rfl,(iK (-1))⟩,rfl⟩ kr fun s3 q5 n3 n4=>?_))))))
 replace hs:=hs.tr0 n3
 refine od 1 (bE c fun i2 j6 c=>ocl 21 (zm0 n4.sl (zgn f3.most) j6) ?_)
 rintro _ q6 ⟨n5,M,n6,e0,rfl,E,u⟩
 replace E:=ga hs.1 E
 replace hs:=hs.tr0 n5
 refine od 1 (otx (od 1 (bE c fun s4 j7 c=>zzr (d:=23) (T:=266) (k:=.i64) (m:=(p0.1.length:Int)) (i.H.size,164002) hs.1 j7 fun q q7 i3 f=>?_)))
 replace hs:=hs.tr0 i3
 replace u:=u.step0 i3
 refine dT 1 (cs (sr (sp 24 (.chan (some q)) (sp 25 (iv p1) (bE c fun n7 j8 c=>?_)))))
 obtain ⟨hroom,j9⟩:=zrv j8
 refine zx9 (x:=p1) (z:=.tuple #[]) f hroom fun k0 i4 _ j=>?_
 rw [j9] at j
 clear hroom
 replace hs:=hs.trB f.ge i4
 replace u:=u.step i4 (u.nbo f.o (zl kr))
 replace f:=j
 refine se (zb (cO 3 (bE c fun n8 k1 c=>?_)))
 obtain ⟨i5,c7,c8,c9,p7,d0,g0⟩:=u.idx k1
 obtain ⟨rfl,q8⟩:=g0
 replace d0:At k0 i5 (0+p1.toNat*1) [iv n8]:=d0
 refine oi 29 257 3 1 i2.length e0 .i64 p1 (off:=0) c7 c8 c9 (bE c fun i6 e1 c=>zau (T:=3) (t:=tI64) (τ:=(M,171001)) (e:=3) (ix:=p1) (x':=p1) (b:=i5) (δ:=0) (cp:=e0) (l:=i2) (vs:=[iv p1]) (iv p1) kr kr c7 u c8 c9 kr kr kr kr (fun cs hx=>by obtain ⟨x,_,ho⟩:=hx;rw [zM ((tI64.len ho).trans kr)];exact ⟨rfl,n1⟩) fun q9 i7 k2=>?_)
 replace hs:=hs.trG (u.own E) i7
 replace f:=f.step i7 (u.bno f.o (zl kr))
 replace u:=k2
 replace u:=zcF e1 u
 have d7:=zL e1
 refine zam (eA 9 (v:=.chan (some q)) (za (t:=8) (v:=vl n6 i6 e0) (eA 7 (v:=iv (p0.1.length:Int)) (eA 2 (v:=iv w) (eA 1 (v:=iv p1) (eA 0 (v:=pt C D) rfl)))) (by unfold vl;rw [d7];kernel_rfl))) (ot (cs (cb 0 ?_)))
 refine zj 0 (fun Z=>∀ (G:LI) (a6:OA) (O:Nat) (n:Env) (P:K),Step [] i P→Gr tI64 false (M,171001) P 3 a6 O G→zgr p1 w G=some r→Z (ups n [(1,iv p1),(2,iv w),(8,vl a6 G O)]) P) ?_ fun J1=>?_
 ·intro G a6 O n P hs A c
  refine zf (zb (cs (cO 2 (bE c fun i8 k3 c=>?_))))
  obtain ⟨n9,g1,g2,g3,p8,U,g4⟩:=A.idx k3
  obtain ⟨rfl,r1⟩:=g4
  replace U:At P n9 (0+w.toNat*1) [iv i8]:=U
  refine oi 59 257 3 1 G.length O .i64 w (off:=0) g1 g2 g3 (o1 60 3 (iv i8) (U.one (o:=0) rfl) (dT 1 ?_))
  refine cc _ c ?_ ?_
  ·intro V c
   refine cT 1 (crt (zc ?_))
   obtain rfl:=sj c
   exact rT 6 (sl none 0 0) ⟨hs,_,_,_,rfl,(fz _),Gr.nil,(fun _=>rfl)⟩
  intro V c
  refine ckt (cO 1 (zJ (d:=63) (T:=257) (e:=3) (t:=tI64) (pub:=false) (τ:=(i.H.size,164003)) (len:=1) (l:=[w]) (parts:=#[(0,iv w)]) (cs:=[iv w]) kr kr kr kr hs.1 rfl ⟨_,_,rfl,⟨rfl,i0⟩,rfl⟩ kr fun s5 r2 i9 o0=>?_))
  replace hs:=hs.tr0 i9
  replace A:=A.step0 i9
  refine dT 1 (cs (cT 2 (cb 4 ?_)))
  refine zj 4 (fun Z=>∀ (d2:LI) (a7:OA) (a8:Nat) (n:Env) (X:K),Step [] i X→Gr tI64 false (i.H.size,164003) X 3 a7 a8 d2→zgq d2=some r→Z (ups n [(12,vl a7 d2 a8)]) X) ?_ fun J2=>?_
  ·intro d2 a7 a8 n X hs j1 c
   refine zf (zb (cO 1 (bE c fun j2 k4 c=>ocl 77 (zmH j1  k4) ?_)))
   rintro _ r4 ⟨o2,rfl,o3,d8⟩
   replace hs:=hs.trM (ztD (j1.own (fz _))) o2
   refine zam (za (t:=12) (v:=vl a7 j2 a8) rfl (by unfold vl;rw [d8];kernel_rfl)) (otx (dT 2 (crt (bE c fun s6 k5 c=>?_))))
   obtain ⟨k6,k7⟩:=zxG k5
   subst k6
   obtain rfl:=sj c
   exact rT 6 (vl a7 j2 a8) ⟨hs,_,_,_,rfl,(fz _),o3,(fun h=>absurd h k7)⟩
  refine bE c fun o4 k8 g5=>zp (F:=za1 p1 G) (J:=fun y E' p=>∃ (d3:OA) (d4:Nat),(∃ n,E'=ups n [(1,iv p1),(8,vl a6 G O),(12,vl d3 y.1 d4),(13,iv y.2)])∧Step [] i p∧Gr tI64 false (i.H.size,164003) p 3 d3 d4 y.1∧I64 y.2∧Gr tI64 false (M,171001) p 3 a6 O G) (s0:=([w],w)) (x:=o4) kr k8 ⟨_,_,⟨_,eY⟩,hs,o0,i0,A⟩ ?_
  rintro y _ k9 ⟨d3,d4,⟨n,rfl⟩,hs,R,r5,A⟩ p9 c g6
  refine cs (cT 3 ?_)
  refine cc _ c ?_ ?_
  ·intro V c
   refine ckt (cb 5 (cO 2 (bE c fun S l0 c=>?_)))
   obtain ⟨o5,g7,g8,g9,q0,Y,h0⟩:=A.idx l0
   obtain ⟨rfl,e3⟩:=h0
   replace Y:At k9 o5 (0+y.2.toNat*1) [iv S]:=Y
   refine oi 70 257 3 1 G.length O .i64 y.2 (off:=0) g7 g8 g9 (o1 71 3 (iv S) (Y.one (o:=0) rfl) (od 1 (otr (od 2 (zJ (d:=74) (T:=257) (e:=3) (t:=tI64) (pub:=true) (τ:=(i.H.size,164004)) (len:=1) (l:=[S]) (parts:=#[(0,iv S)]) (cs:=[iv S]) kr kr kr kr hs.1 rfl ⟨_,_,rfl,⟨rfl,e3⟩,rfl⟩ kr fun o6 r6 e4 o7=>?_)))))
   replace hs:=hs.tr0 e4
   replace A:=A.step0 e4
   replace R:=R.step0 e4
   refine bE c fun s7 l1 c=>zH (d:=75) (T:=257) (e:=3) (t:=tI64) (pub:=false) (τ:=(i.H.size,164003)) (bytes:=8) (a:=d3) (cp:=d4) (l:=y.1) (a2:=o6) (c2:=1) (l2:=[S]) kr kr R o7.sl hs.1 kr l1 fun s8 s9 r7 j3 o8 hw=>?_
   clear hw
   replace hs:=hs.trG (R.own (fz _)) j3
   replace A:=A.step j3 (A.ng R (zl kr))
   refine od 1 (oe (zd ?_))
   exact ze (sj c).symm ⟨_,_,⟨_,eY⟩,hs,o8,e3,A⟩
  intro V c
  refine cx 4 (zh ?_)
  have hx:=g6 _ (sj c).symm
  subst hx
  replace c:=g5
  refine zi ?_
  exact zq eY (J2 y.1 _ _ _ _ hs R c)
 refine bE c fun o9 l3 h1=>zp (F:=zcc p0) (J:=fun L E' p=>∃ (e5:OA) (e6:Nat),(∃ n,E'=ups n [(0,pt C D),(1,iv p1),(2,iv w),(7,iv (p0.1.length:Int)),(8,vl e5 L.1 e6),(9,.chan (some q))])∧Step [] i p∧Gr tI64 false (M,171001) p 3 e5 e6 L.1∧Chn (i.H.size,164002) p q ((p0.1.length:Int).toNat) L.2) (s0:=(i6,n7)) (x:=o9) kr l3 ⟨_,_,⟨_,eY⟩,hs,u,f⟩ ?_
 rintro L _ r8 ⟨e5,e6,⟨n,rfl⟩,hs,a9,f⟩ h2 c h3
 refine cs (cO 1 (bE c fun t0 l4 c=>zzd (d:=31) (T:=266) f l4 (dT 1 ?_)))
 refine cc _ c ?_ ?_
 ·intro V c
  refine ckt (cb 1 (cs (sr (sp 33 (.chan (some q)) (bE c fun B l5 c=>?_)))))
  obtain ⟨l6,d5⟩:=zuw l5
  rw [l6] at f
  refine zy2 34 (iv 0) f fun r9 j4 _ j=>?_
  replace hs:=hs.trB f.ge j4
  replace a9:=a9.step j4 (a9.nbo f.o (zl kr))
  replace f:=j
  refine sp 10 (iv B.1) (se (zb (cT 2 (cb 2 ?_))))
  refine zj 2 (fun Z=>∀ (a0:LI) (b6:LI) (b7:OA) (b8:Nat) (n:Env) (H:K),Step [] i H→Gr tI64 false (M,171001) H 3 b7 b8 a0→Chn (i.H.size,164002) H q ((p0.1.length:Int).toNat) b6→zgp a0 b6=some h2→Z (ups n [(0,pt C D),(1,iv p1),(2,iv w),(7,iv (p0.1.length:Int)),(8,vl b7 a0 b8),(9,.chan (some q))]) H) ?_ fun J3=>?_
  ·intro a0 b6 b7 b8 n H hs l7 f c
   refine zf (zd ?_)
   exact ze (sj c).symm ⟨_,_,⟨_,eY⟩,hs,l7,f⟩
  refine bE c fun l8 h4 e7=>zp (F:=zcb p0 B) (J:=fun g E' p=>∃ (b0:OA) (N:Nat),(∃ n,E'=ups n [(0,pt C D),(1,iv p1),(2,iv w),(7,iv (p0.1.length:Int)),(8,vl b0 g.1 N),(9,.chan (some q)),(10,iv B.1),(35,iv (p0.1.length:Int)),(36,iv g.2.1)])∧Step [] i p∧Gr tI64 false (M,171001) p 3 b0 N g.1∧I64 g.2.1∧Chn (i.H.size,164002) p q ((p0.1.length:Int).toNat) g.2.2) (s0:=(L.1,0,B.2)) (x:=l8) kr h4 ⟨_,_,⟨_,eY⟩,hs,a9,(iK 0),f⟩ ?_
  rintro g _ a3 ⟨b0,N,⟨n,rfl⟩,hs,s,l9,f⟩ b1 c e8
  refine cT 1 (cs ?_)
  refine cc _ c ?_ ?_
  ·intro V c
   refine ckt ?_
   refine zn (fun Z=>∀ (a5:LI) (b9:LI) (c0:OA) (c1:Nat) (n:Env) (I:K),Step [] i I→Gr tI64 false (M,171001) I 3 c0 c1 a5→Chn (i.H.size,164002) I q ((p0.1.length:Int).toNat) b9→zcd g a5 b9=some b1→cwp Tryz.prog 79 (sub (zB Tryz.f164) [1,1,1,0,0,1,1,0,1,0,0,0,1,1,1,1,1,1]) Z (ups n [(0,pt C D),(1,iv p1),(2,iv w),(7,iv (p0.1.length:Int)),(8,vl c0 a5 c1),(9,.chan (some q)),(10,iv B.1),(35,iv (p0.1.length:Int)),(36,iv g.2.1)]) I) ?_ fun J4=>?_
   ·intro a5 b9 c0 c1 n I hs m1 f c
    refine cr (od 2 (oe ?_))
    exact ze (sj c).symm ⟨_,_,⟨_,eY⟩,hs,m1,(zr _),f⟩
   refine cs (cb 3 (cT 2 ?_))
   refine zn (fun Z=>∀ (c3:Bool) (n:Env),za2 p0 B g c3=some b1→cwp Tryz.prog 79 (sub (zB Tryz.f164) [1,1,0,0,1,1,0,0,1,1,0,1,0,0,0,1,1,1,1,1,1]) Z (ups n [(0,pt C D),(1,iv p1),(2,iv w),(7,iv (p0.1.length:Int)),(8,vl b0 g.1 N),(9,.chan (some q)),(10,iv B.1),(11,iv g.2.1),(35,iv (p0.1.length:Int)),(36,iv g.2.1),(49,.bool c3)]) a3) ?_ fun J5=>?_
   ·intro c3 n c
    refine cc _ c ?_ ?_
    ·intro V c
     refine cO 3 (bE c fun m2 h5 c=>?_)
     obtain ⟨e9,b2,b3,b4,p5,b5,f0⟩:=s.idx h5
     obtain ⟨rfl,q1⟩:=f0
     replace b5:At a3 e9 (0+g.2.1.toNat*1) [iv m2]:=b5
     refine oi 53 257 3 1 g.1.length N .i64 g.2.1 (off:=0) b2 b3 b4 (bE c fun f1 d6 c=>zau (T:=3) (t:=tI64) (τ:=(M,171001)) (e:=3) (ix:=g.2.1) (x':=B.1) (b:=e9) (δ:=0) (cp:=N) (l:=g.1) (vs:=[iv B.1]) (iv B.1) kr kr b2 s b3 b4 kr kr kr kr (fun cs hx=>by obtain ⟨x,_,ho⟩:=hx;rw [zM ((tI64.len ho).trans kr)];exact ⟨rfl,d5⟩) fun q2 f2 m3=>?_)
     replace hs:=hs.trG (s.own E) f2
     replace f:=f.step f2 (s.bno f.o (zl kr))
     replace s:=m3
     replace s:=zcF d6 s
     have c4:=zL d6
     refine zam (eA 36 (v:=iv g.2.1) (eA 35 (v:=iv (p0.1.length:Int)) (eA 11 (v:=iv g.2.1) (eA 10 (v:=iv B.1) (eA 9 (v:=.chan (some q)) (za (t:=8) (v:=vl b0 f1 N) (eA 7 (v:=iv (p0.1.length:Int)) (eA 2 (v:=iv w) (eA 1 (v:=iv p1) (eA 0 (v:=pt C D) rfl)))) (by unfold vl;rw [c4];kernel_rfl))))))) (ot (sr (sp 54 (.chan (some q)) (sp 55 (iv g.2.1) (bE c fun m4 h6 c=>?_)))))
     obtain ⟨hroom,h7⟩:=zrv h6
     refine zx9 (x:=g.2.1) (z:=.tuple #[]) f hroom fun q3 f4 _ j=>?_
     rw [h7] at j
     clear hroom
     replace hs:=hs.trB f.ge f4
     replace s:=s.step f4 (s.nbo f.o (zl kr))
     replace f:=j
     refine se (zd (zb ?_))
     exact zk eY (J4 f1 m4 _ _ _ _ hs s f c)
    intro V c
    refine ck (zd (zb ?_))
    exact zk eY (J4 g.1 g.2.2 _ _ _ _ hs s f c)
   refine cO 2 (bE c fun c6 h8 c=>?_)
   obtain ⟨m5,f5,f7,f8,p6,Q,f9⟩:=s.idx h8
   obtain ⟨rfl,q4⟩:=f9
   replace Q:At a3 m5 (0+g.2.1.toNat*1) [iv c6]:=Q
   refine oi 41 257 3 1 g.1.length N .i64 g.2.1 (off:=0) f5 f7 f8 (o1 42 3 (iv c6) (Q.one (o:=0) rfl) (od 1 ?_))
   refine osp 44 (decide (c6<0)) c ?_ ?_
   ·intro hg c
    refine oz [45,46,47,48] (dT 1 ?_)
    exact zk eY (J5 false  _  c)
   intro hg c
   refine od 3 (bE c fun m6 h9 c=>ocl 48 (znh ((m0.step0 hs).part 0 2) (f3.step hs) (f6.step hs) d5 l9 h9) ?_)
   rintro _ _ ⟨rfl,rfl⟩
   refine dT 1 ?_
   exact zk eY (J5 m6  _  c)
  intro V c
  refine cx 2 (zh ?_)
  have hx:=e8 _ (sj c).symm
  subst hx
  replace c:=e7
  refine zi ?_
  exact zq eY (J3 g.1 g.2.2 _ _ _ _ hs s f c)
 intro V c
 refine cx 0 (zh ?_)
 have hx:=h3 _ (sj c).symm
 subst hx
 replace c:=h1
 refine zi ?_
 exact zq eY (J1 L.1 _ _ _ _ hs a9 c)
end Go.Lf
