import Derived.Test.YtjpmnloapngipaaGreatDoorG
set_option linter.all false
set_option maxRecDepth 100000
set_option maxHeartbeats 4000000
namespace Go.Lf
open Go Go.Proofs
theorem zna {e:K} {p0:LI} {m n p f g:OA} {c2 q s h i:Nat} {p1:TS×(LP)×Int} {j:LP} (A:Sl tI64 e m c2 p0) (f6:Sl tGlue e n q p1.1.1) (B:Sl tTile e p s p1.1.2) (J:Sl tPlaced e f h p1.2.1) (C:I64 p1.2.2) (u:Sl tPlaced e g i j) {r:Bool} (c:zdc p0 p1 j=some r) :
 Fn Tryz.prog 313 #[.agg #[vl m p0 c2],.agg #[vl n p1.1.1 q,vl p p1.1.2 s,vl f p1.2.1 h,iv p1.2.2],.agg #[vl g j i]] e (fun v w=>Step [] e w∧v=.bool r):=by
 refine fnc 41 [] Tryz.func313 Tryz.ntmps313 fun hs=>csr (oB 185 313001 [vl m p0 c2] hs fun L D hs M a=>oB 48 313002 [vl n p1.1.1 q,vl p p1.1.2 s,vl f p1.2.1 h,iv p1.2.2] hs fun N E hs x b=>?_);replace a:=a.step0 x;refine oB 46 313003 [vl g j i] hs fun O F hs y d=>?_;obtain ⟨a,b⟩:=sQ2 y a b;refine od 1 (otx (od 1 (oL b.at 0 2 (oL d.at 0 1 (od 1 (oV a.at 0 (bE c fun l t c=>oC hs (zpF (f6.step hs) (B.step hs) (u.step hs) (A.step hs) t) ?_)))))));rintro G z hs _ ⟨rfl,H,I⟩;obtain ⟨a,b,d⟩:=sQ3 z a b d;refine od 5 (otx (od 2 (osp 20 (decide (l.2=0)) c (fun k c=>?_) fun k c=>?_)))
 ·refine oz [21,22,23,24] (od 2 (oz [27,28,29,30,31,32,33] (od 2 (oz [36,37,38,39] (dT 2 (crt ?_))))));obtain rfl:=sj c;exact rT 6 ff ⟨hs,rfl⟩
 refine od 1 (oV a.at 0 (od 3 ?_));refine osp 26 (decide ((p0.length:Int)>0)) c ?_ ?_
 ·intro k c;refine oz [27,28,29,30,31,32,33] (od 2 (oz [36,37,38,39] (dT 2 (crt ?_))));obtain rfl:=sj c;exact rT 6 ff ⟨hs,rfl⟩
 intro k c;refine od 1 (oV a.at 0 (od 2 (oV d.at 0 (od 3 ?_))));refine osp 35 (decide ((p0.length:Int)<(j.length:Int))) c ?_ ?_
 ·intro k c;refine oz [36,37,38,39] (dT 2 (crt ?_));obtain rfl:=sj c;exact rT 6 ff ⟨hs,rfl⟩
 intro k c;refine od 2 (oV b.at 3 (dT 3 (crt ?_)));obtain rfl:=sj c;exact rT 6 (bW (l.1<p1.2.2)) ⟨hs,rfl⟩
theorem zfc {c:K} {p0:LW} {d:OA} {c2:Nat} (h:Sl tStr c d c2 p0) {r:BS} (a:zeN p0=some r) :
 Fn Tryz.prog 19 #[vl d p0 c2] c (fun v e=>Step [] c e∧v=zt r∧r.length≤9223372036854775807):=by
 refine fnc 6 [] Tryz.func19 Tryz.ntmps19 fun hs=>cO 1 (otx (od 1 (bE a fun k f a=>oC hs (zsc h (by simp) f) ?_)));rintro i l hs _ ⟨rfl,j⟩;refine bE a fun g b a=>oq 5 (zt g) (fun _=>zx kr b) (dT 1 (crt ?_));obtain rfl:=sj a;exact rT 2 (zt g) ⟨hs,rfl,(zcv b)⟩
theorem zr7 {b:K} {p0:Bool} {r:Int} (a:zlZ p0=some r) :
 Fn Tryz.prog 169 #[.bool p0] b (fun v c=>b=c∧v=iv r∧I64 r):=by
 refine fnc 4 [] Tryz.func169 Tryz.ntmps169 fun hs=>cT 1 (cs (cT 1 (cc _ a (fun d a=>?_) fun d a=>?_)))
 ·refine cT 1 (crt (zd ?_));obtain rfl:=sj a;exact rT 2 (iv 1) ⟨rfl,rfl,(iK 1)⟩
 refine ckt (cT 1 (crt ?_));obtain rfl:=sj a;exact rT 2 (iv 0) ⟨rfl,rfl,(iK 0)⟩
theorem zfy {a:K} {p0:Int} (c:I64 p0) (g:Glob a) {r:BS} (b:zfg p0=some r) :
 Fn Tryz.prog 47 #[iv p0] a (fun v d=>Step [] a d∧v=zt r∧r.length≤9223372036854775807):=by
 refine fnc 5 [] Tryz.func47 Tryz.ntmps47 fun hs=>cO 1 (otx (od 1 (bE b fun h e b=>oC hs (zot c (iK 10) (g.step hs) e) ?_)));rintro i j hs _ ⟨rfl,f⟩;refine dT 1 (crt ?_);obtain rfl:=sj b;exact rT 2 (zt h) ⟨hs,rfl,f⟩
theorem zmI {i:K} {p0:Int×Int} (d:I64 p0.1) (e:I64 p0.2) (m:Glob i) {r:BS} (a:zgw p0=some r) :
 Fn Tryz.prog 21 #[.agg #[iv p0.1,iv p0.2]] i (fun v n=>Step [] i n∧v=zt r∧r.length≤9223372036854775807):=by
 refine fnc 14 [] Tryz.func21 Tryz.ntmps21 fun hs=>csr (oB 78 21001 [iv p0.1,iv p0.2] hs fun p A hs E b=>dT 1 (cs (csr (oL b.at 0 2 (bE a fun F q a=>oC hs (zie d e q) ?_)))));rintro B t hs _ rfl;replace b:=b.step0 t;refine dT 1 (cc _ a (fun u a=>?_) fun u a=>?_)
 ·refine cT 1 (crt (zd ?_));obtain rfl:=sj a;exact rT 2 (zt ([]:BS)) ⟨hs,rfl,(by simp)⟩
 refine ckt (cs (cx_ 7 [0,1,4,5,2,3,6] [2,6] 7 [] (xp 6 (pt p 0) (xV b.at 0 (xp 10 (pt p 1) (xV b.at 1 (bE a fun C j a=>xcl 8 (zfy d (m.step hs) j) ?_)))))));rintro _ w ⟨f,rfl,x⟩;refine ⟨f,?_⟩;replace hs:=hs.tr0 f;refine bE a fun s k a=>xq 9 (zt s) (fun _=>zx kr k) (bE a fun D l a=>xcl 12 (zfy e (m.step hs) l) ?_);rintro _ y ⟨g,rfl,z⟩;refine ⟨g,?_⟩;replace hs:=hs.tr0 g;refine xe (bE a fun h c a=>oq 13 (zt h) (fun _=>zx kr c) (dT 1 (crt ?_)));obtain rfl:=sj a;exact rT 2 (zt h) ⟨hs,rfl,(zcv c)⟩
theorem zsy {f:K} {p0:LG×LT} {z p:OA} {c2 q:Nat} (f3:Sl tGlue f z c2 p0.1) (f6:Sl tTile f p q p0.2) (G0:Glob f) {r:BS} (c:zld p0=some r) :
 Fn Tryz.prog 48 #[.agg #[vl z p0.1 c2,vl p p0.2 q]] f (fun v i=>Step [] f i∧v=zt r∧r.length≤9223372036854775807):=by
 refine fnc 62 [] Tryz.func48 Tryz.ntmps48 fun hs=>csr (oB 43 48001 [vl z p0.1 c2,vl p p0.2 q] hs fun t i9 hs j1 b=>od 1 (otx (oA 70 48002 [.pointer none,sl none 0 0] hs fun h b5 hs e2 E=>?_)));replace b:=b.step0 e2;have a:Bld 70 5 (f.H.size,48002) b5 h []:=Bld.mk0 E;clear E;refine ot (cs (cO 1 (oV b.at 0 (dT 2 (cb 0 ?_)))));refine zi 0 (fun Z=>∀ (G:LI) (j:Env) (u:K) (hs:Step [] f u) (b:Box (f.H.size,48001) u t [vl z p0.1 c2,vl p p0.2 q] 43) (a:Bld 70 5 (f.H.size,48002) u h G),zkJ p0 G=some r→Z (ups j [(1,pt t 0),(3,pt h 0)]) u) ?_ fun J1=>?_
 ·intro G j u hs b a c;refine zf (za (cs (cO 1 (oV b.at 1 (dT 2 (cb 2 ?_))))));refine zi 2 (fun Z=>∀ (H:LI) (j:Env) (A:K) (hs:Step [] f A) (a:Bld 70 5 (f.H.size,48002) A h H),zkI H=some r→Z (ups j [(3,pt h 0)]) A) ?_ fun J2=>?_
  ·intro H j A hs a c;refine zf (za (csr (ocl 61 (zkc a) ?_)));rintro _ g5 ⟨e3,rfl,b6⟩;replace hs:=hs.trG (a.own (ga _)) e3;refine dT 1 (crt ?_);obtain rfl:=sj c;exact rT 2 (zt (zY H)) ⟨hs,rfl,b6⟩
  refine bE c fun e4 b7 U=>zn (F:=zdr p0) (J:=fun k L i=>(∃ j,L=ups j [(1,pt t 0),(3,pt h 0),(29,vl p p0.2 q),(30,iv (p0.2.length:Int)),(31,iv k.1)])∧Step [] f i∧I64 k.1∧Box (f.H.size,48001) i t [vl z p0.1 c2,vl p p0.2 q] 43∧Bld 70 5 (f.H.size,48002) i h k.2) (s0:=(0,G)) (x:=e4) kr b7 ⟨⟨_,eY⟩,hs,(iK 0),b,a⟩ ?_;rintro k _ g6 ⟨⟨j,rfl⟩,hs,g7,b,a⟩ V c X;refine cT 1 (cs (cc _ c (fun D c=>?_) fun D c=>?_))
  ·refine ckt (cs (cb 3 (csr (bE c fun n b9 c=>oJ (f6.step hs) b9 fun j2 j3 g8 B C e Y=>oL Y.at 0 2 (oA 82 48004 [zt ([]:BS),sl none 0 0] hs fun j4 g9 hs e5 g=>?_)))));obtain ⟨e,b,a⟩:=sQ3 e5 e b a;refine oS 0 [zt n.1,vl B n.2 C] g hs fun h0 hs M N=>?_;replace e:=e.step M;replace b:=b.step M (nm1 (b.ne g (zk kr)));replace a:=a.step M (a.bn g.o (zk kr));replace g:=N;refine otx (od 1 (oV g.at 0 (bE c fun e6 c0 c=>oq 37 (zt e6) (fun _=>zx kr c0) (bE c fun e7 c1 c=>ocl 38 (zU a c1) ?_))));rintro _ h1 ⟨I,rfl,d⟩;replace hs:=hs.trG (a.own (ga _)) I;replace e:=e.step I;replace b:=b.step I (a.nb b.o (zk kr));replace g:=g.step I (a.nb g.o (zk kr));replace a:=d;refine ot (cs (cO 1 (oV g.at 1 (dT 2 (cb 4 ?_)))));refine zi 4 (fun Z=>∀ (O:LI) (j:Env) (w:K) (hs:Step [] f w) (b:Box (f.H.size,48001) w t [vl z p0.1 c2,vl p p0.2 q] 43) (a:Bld 70 5 (f.H.size,48002) w h O),zkH k O=some V→Z (ups j [(1,pt t 0),(3,pt h 0),(29,vl p p0.2 q),(30,iv (p0.2.length:Int)),(31,iv k.1)]) w) ?_ fun J3=>?_
   ·intro O j w hs b a c;refine zf (za (cr (bE c fun j5 c3 c=>ocl 59 (zU a c3) ?_)));rintro _ h3 ⟨b0,rfl,d⟩;replace hs:=hs.trG (a.own (ga _)) b0;replace b:=b.step b0 (a.nb b.o (zk kr));replace a:=d;refine oe (zc (za (cr (od 2 (oe ?_)))));exact ze (sj c).symm ⟨⟨_,eY⟩,hs,(zp _),b,a⟩
   refine bE c fun e8 c4 a0=>zn (F:=zdq p0 n) (J:=fun m L i=>(∃ j,L=ups j [(1,pt t 0),(3,pt h 0),(29,vl p p0.2 q),(30,iv (p0.2.length:Int)),(31,iv k.1),(40,vl B n.2 C),(41,iv (n.2.length:Int)),(42,iv m.1)])∧Step [] f i∧I64 m.1∧Sl tI64 i B C n.2∧Box (f.H.size,48001) i t [vl z p0.1 c2,vl p p0.2 q] 43∧Bld 70 5 (f.H.size,48002) i h m.2) (s0:=(0,e7)) (x:=e8) kr c4 ⟨⟨_,eY⟩,hs,(iK 0),e,b,a⟩ ?_;rintro m _ h4 ⟨⟨j,rfl⟩,hs,h5,e,b,a⟩ a2 c a3;refine cT 1 (cs (cc _ c (fun D c=>?_) fun D c=>?_))
   ·refine ckt ?_;refine zm (fun Z=>∀ (P:LI) (j:Env) (s:K) (hs:Step [] f s) (e:Sl tI64 s B C n.2) (b:Box (f.H.size,48001) s t [vl z p0.1 c2,vl p p0.2 q] 43) (a:Bld 70 5 (f.H.size,48002) s h P),zfu m P=some a2→cwp Tryz.prog 62 (sub (zz Tryz.f48) [1,1,1,0,0,1,0,1,1,0,0,1,1,0,0,1,0,1,1,1]) Z (ups j [(1,pt t 0),(3,pt h 0),(29,vl p p0.2 q),(30,iv (p0.2.length:Int)),(31,iv k.1),(40,vl B n.2 C),(41,iv (n.2.length:Int)),(42,iv m.1)]) s) ?_ fun J4=>?_
    ·intro P j s hs e b a c;refine cr (od 2 (oe ?_));exact ze (sj c).symm ⟨⟨_,eY⟩,hs,(zp _),e,b,a⟩
    refine cs (cb 5 (csr (bE c fun j6 c6 c=>oJ e c6 fun j7 j8 h6 a5=>oV a5.at 0 (od 1 (otx (dT 2 (cc _ c (fun D c=>?_) fun D c=>?_)))))))
    ·refine cr (bE c fun f0 c7 c=>ocl 48 (zU a c7) ?_);rintro _ h7 ⟨Q,rfl,d⟩;replace hs:=hs.trG (a.own (ga _)) Q;replace e:=e.step Q;replace b:=b.step Q (a.nb b.o (zk kr));replace a:=d;refine oe (zc (za ?_));exact zl eY (J4 f0  _ _ hs e b a c)
    refine cr (od 1 (oV b.at 0 (od 2 (bE c fun j9 c8 c=>oJ (f3.step hs) c8 fun k0 k1 h8 h9 a6=>od 1 (oV a6.at 0 (bE c fun f1 c9 c=>oq 56 (zt f1) (fun _=>zx kr c9) (bE c fun f2 d0 c=>ocl 57 (zU a d0) ?_)))))));rintro _ i0 ⟨R,rfl,d⟩;replace hs:=hs.trG (a.own (ga _)) R;replace e:=e.step R;replace b:=b.step R (a.nb b.o (zk kr));replace a:=d;refine oe (zc (za ?_));exact zl eY (J4 f2  _ _ hs e b a c)
   refine cx 4 (zg ?_);obtain rfl:=a3 _ (sj c).symm;replace c:=a0;refine zh ?_;exact zo eY (J3 m.2  _ _ hs b a c)
  refine cx 2 (zg ?_);obtain rfl:=X _ (sj c).symm;replace c:=U;refine zh ?_;exact zo eY (J2 k.2  _ _ hs a c)
 refine bE c fun f4 d2 a7=>zn (F:=zds p0) (J:=fun y L i=>(∃ j,L=ups j [(1,pt t 0),(3,pt h 0),(11,vl z p0.1 c2),(12,iv (p0.1.length:Int)),(13,iv y.1)])∧Step [] f i∧I64 y.1∧Box (f.H.size,48001) i t [vl z p0.1 c2,vl p p0.2 q] 43∧Bld 70 5 (f.H.size,48002) i h y.2) (s0:=(0,[])) (x:=f4) kr d2 ⟨⟨_,eY⟩,hs,(iK 0),b,a⟩ ?_;rintro y _ i1 ⟨⟨j,rfl⟩,hs,i2,b,a⟩ g1 c a8;refine cT 1 (cs (cc _ c (fun D c=>?_) fun D c=>?_))
 ·refine ckt (cs (cb 1 (csr (bE c fun b1 d3 c=>oJ (f3.step hs) d3 fun k2 k3 i3 d4 a9=>oL a9.at 0 2 (oA 149 48003 [zt ([]:BS),iv 0] hs fun b2 i4 hs f5 l=>?_)))));obtain ⟨b,a⟩:=sQ2 f5 b a;refine oS 0 [zt b1.1,iv b1.2] l hs fun i5 hs b3 S=>?_;replace b:=b.step b3 (nm1 (b.ne l (zk kr)));replace a:=a.step b3 (a.bn l.o (zk kr));replace l:=S;refine ot (cx_ 7 [0,1,2,3,4,5,6] [6] 7 [] (xp 17 (pt b2 0) (xV l.at 0 (bE c fun f7 d5 c=>xq 19 (zt f7) (fun _=>zx kr d5) (bE c fun f8 d6 c=>xq 20 (zt f8) (fun _=>zx kr d6) (xp 21 (pt b2 1) (xV l.at 1 (bE c fun k4 d7 c=>xcl 23 (zfy d4 (G0.step hs) d7) ?_))))))));rintro _ i6 ⟨T,rfl,i7⟩;refine ⟨T,?_⟩;replace hs:=hs.tr0 T;obtain ⟨b,a⟩:=sQ2 T b a;refine xe (bE c fun f9 d8 c=>oq 24 (zt f9) (fun _=>zx kr d8) (bE c fun g0 d9 c=>oq 25 (zt g0) (fun _=>zx kr d9) (bE c fun k5 e0 c=>ocl 26 (zU a e0) ?_)));rintro _ i8 ⟨b4,rfl,d⟩;replace hs:=hs.trG (a.own (ga _)) b4;replace b:=b.step b4 (a.nb b.o (zk kr));replace a:=d;refine oe (zc (za (cr (od 2 (oe ?_)))));exact ze (sj c).symm ⟨⟨_,eY⟩,hs,(zp _),b,a⟩
 refine cx 0 (zg ?_);obtain rfl:=a8 _ (sj c).symm;replace c:=a7;refine zh ?_;exact zo eY (J1 y.2  _ _ hs b a c)
theorem zpX {f:K} {p0:TS×(LP)×Int} {y z n:OA} {c2 A p:Nat} (f3:Sl tGlue f y c2 p0.1.1) (f6:Sl tTile f z A p0.1.2) (f9:Sl tPlaced f n p p0.2.1) (N:I64 p0.2.2) (O:Glob f) {r:BS} (c:zhO p0=some r) :
 Fn Tryz.prog 20 #[.agg #[vl y p0.1.1 c2,vl z p0.1.2 A,vl n p0.2.1 p,iv p0.2.2]] f (fun v i=>Step [] f i∧v=zt r∧r.length≤9223372036854775807):=by
 refine fnc 40 [] Tryz.func20 Tryz.ntmps20 fun hs=>csr (oB 48 20001 [vl y p0.1.1 c2,vl z p0.1.2 A,vl n p0.2.1 p,iv p0.2.2] hs fun k d7 hs g3 b=>od 1 (otx (oA 70 20002 [.pointer none,sl none 0 0] hs fun j P hs b2 l=>?_)));replace b:=b.step0 b2;have a:Bld 70 5 (f.H.size,20002) P j []:=Bld.mk0 l;clear l;refine otx (od 1 (oV b.at 3 (bE c fun b3 Q c=>oC hs (zfy N (O.step hs) Q) ?_)));rintro d8 b4 hs _ ⟨rfl,R⟩;obtain ⟨b,a⟩:=sQ2 b4 b a;refine oT (t:=tStr) 9 20003 true [([116,101,109,112,101,114,97,116,117,114,101]:BS),b3] hs ⟨_,_,rfl,⟨rfl,(by simp)⟩,⟨_,_,rfl,⟨rfl,R⟩,rfl⟩⟩ fun g4 d9 hs b5 b6=>?_;obtain ⟨b,a⟩:=sQ2 b5 b a;refine bE c fun g5 S c=>oC hs (zfc b6.sl S) ?_;rintro e0 b7 hs _ ⟨rfl,e1⟩;obtain ⟨b,a⟩:=sQ2 b7 b a;refine bE c fun g6 T c=>ocl 11 (zU a T) ?_;rintro _ e2 ⟨G,rfl,d⟩;replace hs:=hs.trG (a.own (ga _)) G;replace b:=b.step G (a.nb b.o (zk kr));replace a:=d;refine otx (od 1 (oL b.at 0 2 (bE c fun g7 U c=>oC hs (zsy (f3.step hs) (f6.step hs) (O.step hs) U) ?_)));rintro e3 b8 hs _ ⟨rfl,e4⟩;obtain ⟨b,a⟩:=sQ2 b8 b a;refine bE c fun b9 V c=>ocl 15 (zU a V) ?_;rintro _ e5 ⟨H,rfl,d⟩;replace hs:=hs.trG (a.own (ga _)) H;replace b:=b.step H (a.nb b.o (zk kr));replace a:=d;refine ot (cs (cO 2 (oV b.at 2 (dT 2 (cb 0 ?_)))));refine zi 0 (fun Z=>∀ (m:LI) (q:Env) (h:K) (hs:Step [] f h) (a:Bld 70 5 (f.H.size,20002) h j m),zh5 m=some r→Z (ups q [(3,pt j 0)]) h) ?_ fun J1=>?_
 ·intro m q h hs a c;refine zf (za (csr (ocl 39 (zkc a) ?_)));rintro _ e7 ⟨c0,rfl,X⟩;replace hs:=hs.trG (a.own (ga _)) c0;refine dT 1 (crt ?_);obtain rfl:=sj c;exact rT 2 (zt (zY m)) ⟨hs,rfl,X⟩
 refine bE c fun c1 Y B=>zn (F:=zbu p0) (J:=fun g E' i=>(∃ q,E'=ups q [(1,pt k 0),(3,pt j 0),(18,vl n p0.2.1 p),(19,iv (p0.2.1.length:Int)),(20,iv g.1)])∧Step [] f i∧I64 g.1∧Box (f.H.size,20001) i k [vl y p0.1.1 c2,vl z p0.1.2 A,vl n p0.2.1 p,iv p0.2.2] 48∧Bld 70 5 (f.H.size,20002) i j g.2) (s0:=(0,b9)) (x:=c1) kr Y ⟨⟨_,eY⟩,hs,(iK 0),b,a⟩ ?_;rintro g _ e9 ⟨⟨q,rfl⟩,hs,f0,b,a⟩ d4 c C;refine cT 1 (cs (cc _ c (fun hc c=>?_) fun hc c=>?_))
 ·refine ckt (cs (cb 1 (csr (bE c fun s a0 c=>oJ (f9.step hs) a0 fun g8 g9 a2 a3 f2 D=>oL D.at 0 3 (oA 80 20004 [iv 0,iv 0,iv 0] hs fun I f4 hs c3 e=>?_)))));obtain ⟨b,a⟩:=sQ2 c3 b a;refine oS 0 [iv s.1.1,iv s.1.2,iv s.2] e hs fun f5 hs L u=>?_;replace b:=b.step L (nm1 (b.ne e (zk kr)));replace a:=a.step L (a.bn e.o (zk kr));replace e:=u;refine ot (cx_ 11 [0,1,2,3,4,5,6,7,8,9,10] [10] 11 [] (xp 24 (pt k 0) (xp 25 (pt k 1) (xV b.at 1 (xp 27 (pt I 2) (xV e.at 2 (bE c fun c4 a5 c=>xI (f6.step hs) a5 fun c6 c7 a6 h0 h1 h2 E=>xp 30 (pt c6 c7) (xV E.at 0 (xp 32 (pt I 0) (xL e.at 0 2 (bE c fun c9 a8 c=>xcl 34 (zmI a2 a3 (O.step hs) a8) ?_)))))))))));rintro _ f7 ⟨w,rfl,a9⟩;refine ⟨w,?_⟩;replace hs:=hs.tr0 w;obtain ⟨b,a⟩:=sQ2 w b a;refine xe (oT (t:=tStr) 9 20005 true [([115,101,101,100]:BS),c4.1,c9] hs ⟨_,_,rfl,⟨rfl,(by simp)⟩,⟨_,_,rfl,⟨rfl,a6⟩,⟨_,_,rfl,⟨rfl,a9⟩,rfl⟩⟩⟩ fun h3 f8 hs d0 d2=>?_);obtain ⟨b,a⟩:=sQ2 d0 b a;refine bE c fun h4 b0 c=>oC hs (zfc d2.sl b0) ?_;rintro g0 d3 hs _ ⟨rfl,g1⟩;obtain ⟨b,a⟩:=sQ2 d3 b a;refine bE c fun h5 b1 c=>ocl 37 (zU a b1) ?_;rintro _ g2 ⟨M,rfl,d⟩;replace hs:=hs.trG (a.own (ga _)) M;replace b:=b.step M (a.nb b.o (zk kr));replace a:=d;refine oe (zc (za (cr (od 2 (oe ?_)))));exact ze (sj c).symm ⟨⟨_,eY⟩,hs,(zp _),b,a⟩
 refine cx 0 (zg ?_);obtain rfl:=C _ (sj c).symm;replace c:=B;refine zh ?_;exact zo eY (J1 g.2  _ _ hs a c)
theorem zq3 {b:K} {p0:Int} (c:I64 p0) {r:BS} (a:zjh p0=some r) :
 Fn Tryz.prog 50 #[iv p0] b (fun v d=>b=d∧v=zt r∧r.length≤9223372036854775807):=by
 refine fnc 9 [] Tryz.func50 Tryz.ntmps50 fun hs=>cT 1 (cs (cO 1 (bE a fun x1 e a=>ocl 4 (zaB c (iK 1) (iK 6) e) ?_)));rintro _ _ ⟨rfl,rfl⟩;refine dT 1 (cc _ a (fun f a=>?_) fun f a=>?_)
 ·refine cT 1 (crt (zd ?_));obtain rfl:=sj a;exact rT 2 (zt []) ⟨rfl,rfl,by simp⟩
 refine ckt (cO 2 ?_);obtain ⟨i,g,_⟩:=zhB a;have h:p0=0∨p0=1∨p0=2∨p0=3∨p0=4∨p0=5∨p0=6:=by simp only [dm,dx] at g;omega
 rcases h with rfl | rfl | rfl | rfl | rfl | rfl | rfl
 ·obtain rfl:([]:BS)=r:=sj a;refine dT 2 (crt ?_);exact rt [.tmp 2] [zt ([]:BS)] ⟨kr,trivial⟩ ⟨rfl,rfl,by decide⟩
 ·obtain rfl:([103,114,111,119,110]:BS)=r:=sj a;refine dT 2 (crt ?_);exact rt [.tmp 2] [zt ([103,114,111,119,110]:BS)] ⟨kr,trivial⟩ ⟨rfl,rfl,by decide⟩
 ·obtain rfl:([116,101,114,109,105,110,97,108]:BS)=r:=sj a;refine dT 2 (crt ?_);exact rt [.tmp 2] [zt ([116,101,114,109,105,110,97,108]:BS)] ⟨kr,trivial⟩ ⟨rfl,rfl,by decide⟩
 ·obtain rfl:([117,110,105,113,117,101]:BS)=r:=sj a;refine dT 2 (crt ?_);exact rt [.tmp 2] [zt ([117,110,105,113,117,101]:BS)] ⟨kr,trivial⟩ ⟨rfl,rfl,by decide⟩
 ·obtain rfl:([99,111,110,102,108,105,99,116]:BS)=r:=sj a;refine dT 2 (crt ?_);exact rt [.tmp 2] [zt ([99,111,110,102,108,105,99,116]:BS)] ⟨kr,trivial⟩ ⟨rfl,rfl,by decide⟩
 ·obtain rfl:([115,116,97,98,108,101]:BS)=r:=sj a;refine dT 2 (crt ?_);exact rt [.tmp 2] [zt ([115,116,97,98,108,101]:BS)] ⟨kr,trivial⟩ ⟨rfl,rfl,by decide⟩
 obtain rfl:([108,111,111,115,101]:BS)=r:=sj a;refine dT 2 (crt ?_);exact rt [.tmp 2] [zt ([108,111,111,115,101]:BS)] ⟨kr,trivial⟩ ⟨rfl,rfl,by decide⟩
theorem zek {e:K} {p0:BS} {p1:LI} {a2:OA} {q:Nat} (D:p0.length≤9223372036854775807) (R:Sl tI64 e a2 q p1) (S:Glob e) {r:BS} (a:zbv p0 p1=some r) :
 Fn Tryz.prog 51 #[zt p0,vl a2 p1 q] e (fun v f=>Step [] e f∧v=zt r∧r.length≤9223372036854775807):=by
 refine fnc 24 [] Tryz.func51 Tryz.ntmps51 fun hs=>cO 1 (otx (od 1 (oT (t:=tStr) 9 51001 true [p0] hs ⟨_,_,rfl,⟨rfl,D⟩,rfl⟩ fun a8 a6 hs s7 T=>dT 1 (cs (cT 3 (cb 0 ?_))))));refine zi 0 (fun Z=>∀ (g:LW) (h:OA) (i:Nat) (j:Env) (d:K),Step [] e d→Gr tStr true (e.H.size,51001) d 9 h i g→zhl g=some r→Z (ups j [(5,vl h g i)]) d) ?_ fun U=>?_
 ·intro g h i j d hs E a;refine zf (za (cO 1 (bE a fun G s a=>oC hs (zfc E.sl s) ?_)));rintro V a7 hs _ ⟨rfl,u⟩;refine dT 1 (crt ?_);obtain rfl:=sj a;exact rT 4 (zt G) ⟨hs,rfl,u⟩
 refine bE a fun H w m=>zn (F:=zcw p1) (J:=fun b X f=>∃ (k:OA) (l:Nat),(∃ j,X=ups j [(5,vl k b.1 l),(10,vl a2 p1 q),(11,iv (p1.length:Int)),(12,iv b.2)])∧Step [] e f∧Gr tStr true (e.H.size,51001) f 9 k l b.1∧I64 b.2) (s0:=([p0],0)) (x:=H) kr w ⟨_,_,⟨_,eY⟩,hs,T,(iK 0)⟩ ?_;rintro b _ Y ⟨k,l,⟨j,rfl⟩,hs,c,a0⟩ Q a n;refine cT 1 (cs (cc _ a (fun hc a=>?_) fun hc a=>?_))
 ·refine ckt (cs (cb 1 (csr (bE a fun a9 y a=>oJ (R.step hs) y fun b0 b1 z p=>oV p.at 0 (od 1 (otr (od 2 (bE a fun I A a=>oC hs (zfy z (S.step hs) A) ?_))))))));rintro a3 L hs _ ⟨rfl,B⟩;replace c:=c.step0 L;refine oT (t:=tStr) 9 51002 true [I] hs ⟨_,_,rfl,⟨rfl,B⟩,rfl⟩ fun b2 a4 hs M N=>?_;replace c:=c.step0 M;refine bE a fun b3 C a=>oP 106 c N.sl hs.1 C fun b4 b5 a5 O P hw=>?_;clear hw;replace hs:=hs.trG (c.own (ga _)) O;refine od 1 (oe (zc (za (cr (od 2 (oe ?_))))));exact ze (sj a).symm ⟨_,_,⟨_,eY⟩,hs,P,(zp _)⟩
 refine cx 0 (zg ?_);obtain rfl:=n _ (sj a).symm;replace a:=m;refine zh ?_;exact zo eY (U b.1 _ _ _ _ hs c a)
theorem zq2 {e:K} {p0:Int×LP×LP×LI×LM} {a2 A G l:OA} {B C H m:Nat} (e9:I64 p0.1) (f4:Sl tPlaced e a2 B p0.2.1) (f7:Sl tPlaced e A C p0.2.2.1) (f0:Sl tI64 e G H p0.2.2.2.1) (f1:Sl (tSl tI64) e l m p0.2.2.2.2) (G0:Glob e) {r:BS} (c:zjg p0=some r) :
 Fn Tryz.prog 22 #[.agg #[iv p0.1,vl a2 p0.2.1 B,vl A p0.2.2.1 C,vl G p0.2.2.2.1 H,vl l p0.2.2.2.2 m]] e (fun v j=>Step [] e j∧v=zt r∧r.length≤9223372036854775807):=by
 refine fnc 78 [] Tryz.func22 Tryz.ntmps22 fun hs=>csr (oB 51 22001 [iv p0.1,vl a2 p0.2.1 B,vl A p0.2.2.1 C,vl G p0.2.2.2.1 H,vl l p0.2.2.2.2 m] hs fun k i5 hs l8 b=>od 1 (otx (od 1 (oV b.at 0 (bE c fun b8 c2 c=>ocl 13 (zq3 e9 c2) ?_)))));rintro _ _ ⟨rfl,rfl,c4⟩;refine dT 1 (cs (cO 1 (oq 15 (bW (b8=([]:BS))) (fun _=>zrw kr) (ot (cc _ c (fun D c=>?_) fun D c=>?_)))))
 ·refine cT 1 (crt (zd ?_));obtain rfl:=sj c;exact rT 2 (zt ([]:BS)) ⟨hs,rfl,(by simp)⟩
 refine ckt (csr (oA 70 22002 [.pointer none,sl none 0 0] hs fun f c5 hs f2 I=>?_));replace b:=b.step0 f2;have a:Bld 70 5 (e.H.size,22002) c5 f []:=Bld.mk0 I;clear I;refine otx (od 1 (oT (t:=tStr) 9 22003 true [([112,114,111,111,102]:BS),b8] hs ⟨_,_,rfl,⟨rfl,(by simp)⟩,⟨_,_,rfl,⟨rfl,c4⟩,rfl⟩⟩ fun l9 i6 hs f3 f5=>?_));obtain ⟨b,a⟩:=sQ2 f3 b a;refine bE c fun m0 c7 c=>oC hs (zfc f5.sl c7) ?_;rintro i7 f6 hs _ ⟨rfl,i8⟩;obtain ⟨b,a⟩:=sQ2 f6 b a;refine bE c fun f8 c8 c=>ocl 19 (zU a c8) ?_;rintro _ i9 ⟨b9,rfl,d⟩;replace hs:=hs.trG (a.own (ga _)) b9;replace b:=b.step b9 (a.nb b.o (zk kr));replace a:=d;refine ot (cs (cO 1 (oV b.at 1 (dT 2 (cb 0 ?_)))));refine zi 0 (fun Z=>∀ (L:LI) (h:Env) (q:K) (hs:Step [] e q) (b:Box (e.H.size,22001) q k [iv p0.1,vl a2 p0.2.1 B,vl A p0.2.2.1 C,vl G p0.2.2.2.1 H,vl l p0.2.2.2.2 m] 51) (a:Bld 70 5 (e.H.size,22002) q f L),zjf p0 L=some r→Z (ups h [(1,pt k 0),(4,pt f 0)]) q) ?_ fun J1=>?_
 ·intro L h q hs b a c;refine zf (za (cs (cO 1 (oV b.at 2 (dT 2 (cb 2 ?_))))));refine zi 2 (fun Z=>∀ (M:LI) (h:Env) (s:K) (hs:Step [] e s) (b:Box (e.H.size,22001) s k [iv p0.1,vl a2 p0.2.1 B,vl A p0.2.2.1 C,vl G p0.2.2.2.1 H,vl l p0.2.2.2.2 m] 51) (a:Bld 70 5 (e.H.size,22002) s f M),zje p0 M=some r→Z (ups h [(1,pt k 0),(4,pt f 0)]) s) ?_ fun J2=>?_
  ·intro M h s hs b a c;refine zf (za ?_);refine zm (fun Z=>∀ (N:LI) (h:Env) (u:K) (hs:Step [] e u) (b:Box (e.H.size,22001) u k [iv p0.1,vl a2 p0.2.1 B,vl A p0.2.2.1 C,vl G p0.2.2.2.1 H,vl l p0.2.2.2.2 m] 51) (a:Bld 70 5 (e.H.size,22002) u f N),zd3 p0 N=some r→cwp Tryz.prog 78 (sub (zz Tryz.f22) [1,1,1,1,1,1,1,1]) Z (ups h [(1,pt k 0),(4,pt f 0)]) u) ?_ fun J3=>?_
   ·intro N h u hs b a c;refine cs (cO 1 (oV b.at 4 (dT 2 (cb 4 ?_))));refine zi 4 (fun Z=>∀ (O:LI) (h:Env) (E:K) (hs:Step [] e E) (a:Bld 70 5 (e.H.size,22002) E f O),zjd O=some r→Z (ups h [(4,pt f 0)]) E) ?_ fun J4=>?_
    ·intro O h E hs a c;refine zf (za (csr (ocl 77 (zkc a) ?_)));rintro _ j4 ⟨g0,rfl,d0⟩;replace hs:=hs.trG (a.own (ga _)) g0;refine dT 1 (crt ?_);obtain rfl:=sj c;exact rT 2 (zt (zY O)) ⟨hs,rfl,d0⟩
    refine bE c fun g1 d2 a1=>zn (F:=zcb p0) (J:=fun w Q j=>(∃ h,Q=ups h [(4,pt f 0),(67,vl l p0.2.2.2.2 m),(68,iv (p0.2.2.2.2.length:Int)),(69,iv w.1)])∧Step [] e j∧I64 w.1∧Bld 70 5 (e.H.size,22002) j f w.2) (s0:=(0,N)) (x:=g1) kr d2 ⟨⟨_,eY⟩,hs,(iK 0),a⟩ ?_;rintro w _ j5 ⟨⟨h,rfl⟩,hs,j6,a⟩ h3 c a3;refine cT 1 (cs (cc _ c (fun D c=>?_) fun D c=>?_))
    ·refine ckt (cs (cb 5 (csr (bE c fun m1 d3 c=>oJ (f1.step hs) d3 fun m2 m3 m4 m5 g2 a4=>oV a4.at 0 (od 1 (otr (od 1 (bE c fun m6 d4 c=>oC hs (zek (by simp) g2 (G0.step hs) d4) ?_))))))));rintro j7 g3 hs _ ⟨rfl,j8⟩;replace a:=a.step0 g3;refine bE c fun m7 d5 c=>ocl 75 (zU a d5) ?_;rintro _ j9 ⟨g4,rfl,d⟩;replace hs:=hs.trG (a.own (ga _)) g4;replace a:=d;refine oe (zc (za (cr (od 2 (oe ?_)))));exact ze (sj c).symm ⟨⟨_,eY⟩,hs,(zp _),a⟩
    refine cx 4 (zg ?_);obtain rfl:=a3 _ (sj c).symm;replace c:=a1;refine zh ?_;exact zo eY (J4 w.2  _ _ hs a c)
   refine cs (cO 1 (oV b.at 3 (dT 2 (cc _ c (fun D c=>?_) fun D c=>?_))))
   ·refine cr (od 1 (oV b.at 3 (bE c fun m8 d6 c=>oC hs (zek (by simp) (f0.step hs) (G0.step hs) d6) ?_)));rintro k0 g5 hs _ ⟨rfl,k1⟩;obtain ⟨b,a⟩:=sQ2 g5 b a;refine bE c fun g6 d7 c=>ocl 65 (zU a d7) ?_;rintro _ k2 ⟨c0,rfl,d⟩;replace hs:=hs.trG (a.own (ga _)) c0;replace b:=b.step c0 (a.nb b.o (zk kr));replace a:=d;refine ot ?_;exact zl eY (J3 g6  _ _ hs b a c)
   refine ckt ?_;exact zl eY (J3 M  _ _ hs b a c)
  refine bE c fun g7 d8 a6=>zn (F:=zcc p0) (J:=fun y Q j=>(∃ h,Q=ups h [(1,pt k 0),(4,pt f 0),(40,vl A p0.2.2.1 C),(41,iv (p0.2.2.1.length:Int)),(42,iv y.1)])∧Step [] e j∧I64 y.1∧Box (e.H.size,22001) j k [iv p0.1,vl a2 p0.2.1 B,vl A p0.2.2.1 C,vl G p0.2.2.2.1 H,vl l p0.2.2.2.2 m] 51∧Bld 70 5 (e.H.size,22002) j f y.2) (s0:=(0,L)) (x:=g7) kr d8 ⟨⟨_,eY⟩,hs,(iK 0),b,a⟩ ?_;rintro y _ k3 ⟨⟨h,rfl⟩,hs,k4,b,a⟩ h4 c a7;refine cT 1 (cs (cc _ c (fun D c=>?_) fun D c=>?_))
  ·refine ckt (cs (cb 3 (csr (bE c fun z d9 c=>oJ (f7.step hs) d9 fun m9 n0 e0 e1 e2 a9=>oL a9.at 0 3 (oA 111 22006 [iv 0,iv 0,iv 0] hs fun n1 k5 hs g8 i=>?_)))));obtain ⟨b,a⟩:=sQ2 g8 b a;refine oS 0 [iv z.1.1,iv z.1.2,iv z.2] i hs fun k6 hs c1 R=>?_;replace b:=b.step c1 (nm1 (b.ne i (zk kr)));replace a:=a.step c1 (a.bn i.o (zk kr));replace i:=R;refine otr (od 2 (oV i.at 0 (od 2 (oV i.at 1 (od 1 (oV i.at 2 (oT (t:=tI64) 2 22007 true [z.1.1,z.1.2,z.2] hs ⟨_,_,rfl,⟨rfl,e0⟩,⟨_,_,rfl,⟨rfl,e1⟩,⟨_,_,rfl,⟨rfl,e2⟩,rfl⟩⟩⟩ fun n2 k7 hs g9 h0=>?_)))))));obtain ⟨b,a⟩:=sQ2 g9 b a;refine bE c fun n3 e3 c=>oC hs (zek (by simp) h0.sl (G0.step hs) e3) ?_;rintro k8 h1 hs _ ⟨rfl,k9⟩;obtain ⟨b,a⟩:=sQ2 h1 b a;refine bE c fun l0 b0 c=>ocl 56 (zU a b0) ?_;rintro _ h5 ⟨S,rfl,d⟩;replace hs:=hs.trG (a.own (ga _)) S;replace b:=b.step S (a.nb b.o (zk kr));replace a:=d;refine oe (zc (za (cr (od 2 (oe ?_)))));exact ze (sj c).symm ⟨⟨_,eY⟩,hs,(zp _),b,a⟩
  refine cx 2 (zg ?_);obtain rfl:=a7 _ (sj c).symm;replace c:=a6;refine zh ?_;exact zo eY (J2 y.2  _ _ hs b a c)
 refine bE c fun e4 b1 T=>zn (F:=zcd p0) (J:=fun n Q j=>(∃ h,Q=ups h [(1,pt k 0),(4,pt f 0),(21,vl a2 p0.2.1 B),(22,iv (p0.2.1.length:Int)),(23,iv n.1)])∧Step [] e j∧I64 n.1∧Box (e.H.size,22001) j k [iv p0.1,vl a2 p0.2.1 B,vl A p0.2.2.1 C,vl G p0.2.2.2.1 H,vl l p0.2.2.2.2 m] 51∧Bld 70 5 (e.H.size,22002) j f n.2) (s0:=(0,f8)) (x:=e4) kr b1 ⟨⟨_,eY⟩,hs,(iK 0),b,a⟩ ?_;rintro n _ h6 ⟨⟨h,rfl⟩,hs,l1,b,a⟩ h2 c U;refine cT 1 (cs (cc _ c (fun D c=>?_) fun D c=>?_))
 ·refine ckt (cs (cb 1 (csr (bE c fun p b2 c=>oJ (f4.step hs) b2 fun l2 l3 b3 b4 b5 V=>oL V.at 0 3 (oA 111 22004 [iv 0,iv 0,iv 0] hs fun l4 h7 hs e5 g=>?_)))));obtain ⟨b,a⟩:=sQ2 e5 b a;refine oS 0 [iv p.1.1,iv p.1.2,iv p.2] g hs fun h8 hs X P=>?_;replace b:=b.step X (nm1 (b.ne g (zk kr)));replace a:=a.step X (a.bn g.o (zk kr));replace g:=P;refine otr (od 2 (oV g.at 0 (od 2 (oV g.at 1 (od 1 (oV g.at 2 (oT (t:=tI64) 2 22005 true [p.1.1,p.1.2,p.2] hs ⟨_,_,rfl,⟨rfl,b3⟩,⟨_,_,rfl,⟨rfl,b4⟩,⟨_,_,rfl,⟨rfl,b5⟩,rfl⟩⟩⟩ fun l5 h9 hs e6 e7=>?_)))))));obtain ⟨b,a⟩:=sQ2 e6 b a;refine bE c fun l6 b6 c=>oC hs (zek (by simp) e7.sl (G0.step hs) b6) ?_;rintro i0 e8 hs _ ⟨rfl,i1⟩;obtain ⟨b,a⟩:=sQ2 e8 b a;refine bE c fun l7 b7 c=>ocl 37 (zU a b7) ?_;rintro _ i2 ⟨Y,rfl,d⟩;replace hs:=hs.trG (a.own (ga _)) Y;replace b:=b.step Y (a.nb b.o (zk kr));replace a:=d;refine oe (zc (za (cr (od 2 (oe ?_)))));exact ze (sj c).symm ⟨⟨_,eY⟩,hs,(zp _),b,a⟩
 refine cx 0 (zg ?_);obtain rfl:=U _ (sj c).symm;replace c:=T;refine zh ?_;exact zo eY (J1 n.2  _ _ hs b a c)
theorem zof {e:K} {p0:Int×Int} {p1:Int×Int} (h:I64 p0.1) (i:I64 p0.2) (j:I64 p1.1) (k:I64 p1.2) {r:Bool} (a:ziY p0 p1=some r) :
 Fn Tryz.prog 106 #[.agg #[iv p0.1,iv p0.2],.agg #[iv p1.1,iv p1.2]] e (fun v f=>Step [] e f∧v=.bool r):=by
 refine fnc 15 [] Tryz.func106 Tryz.ntmps106 fun hs=>csr (oB 78 106001 [iv p0.1,iv p0.2] hs fun n l hs p b=>oB 78 106002 [iv p1.1,iv p1.2] hs fun q m hs g c=>?_);replace b:=b.step0 g;refine dT 1 (cs (cO 1 (oV b.at 0 (od 1 (oV c.at 0 (dT 1 (cc _ a (fun d a=>?_) fun d a=>?_)))))))
 ·refine cT 1 (crt (zd ?_));obtain rfl:=sj a;exact rT 4 ff ⟨hs,rfl⟩
 refine ckt (cs (cO 1 (oV b.at 1 (od 1 (oV c.at 1 (dT 1 (cc _ a (fun d a=>?_) fun d a=>?_)))))))
 ·refine cT 1 (crt (zd ?_));obtain rfl:=sj a;exact rT 4 ff ⟨hs,rfl⟩
 refine ckt (cT 1 (crt ?_));obtain rfl:=sj a;exact rT 4 tt ⟨hs,rfl⟩
theorem zrJ {f:K} {p0:(Int×Int)×Int} {p1:(Int×Int)×Int} (g:I64 p0.1.1) (h:I64 p0.1.2) (q:I64 p0.2) (i:I64 p1.1.1) (j:I64 p1.1.2) (s:I64 p1.2) {r:Bool} (c:zm6 p0 p1=some r) :
 Fn Tryz.prog 83 #[.agg #[iv p0.1.1,iv p0.1.2,iv p0.2],.agg #[iv p1.1.1,iv p1.1.2,iv p1.2]] f (fun v k=>Step [] f k∧v=.bool r):=by
 refine fnc 16 [] Tryz.func83 Tryz.ntmps83 fun hs=>csr (oB 80 83001 [iv p0.1.1,iv p0.1.2,iv p0.2] hs fun x t hs y a=>oB 80 83002 [iv p1.1.1,iv p1.1.2,iv p1.2] hs fun u n hs l b=>?_);replace a:=a.step0 l;refine dT 1 (cs (cO 1 (oL a.at 0 2 (od 1 (oL b.at 0 2 (bE c fun w d c=>oC hs (zof g h i j d) ?_))))));rintro p m hs _ rfl;obtain ⟨a,b⟩:=sQ2 m a b;refine dT 1 (cc _ c (fun e c=>?_) fun e c=>?_)
 ·refine cT 1 (crt (zd ?_));obtain rfl:=sj c;exact rT 4 ff ⟨hs,rfl⟩
 refine ckt (cs (cO 1 (oV a.at 2 (od 1 (oV b.at 2 (dT 1 (cc _ c (fun e c=>?_) fun e c=>?_)))))))
 ·refine cT 1 (crt (zd ?_));obtain rfl:=sj c;exact rT 4 ff ⟨hs,rfl⟩
 refine ckt (cT 1 (crt ?_));obtain rfl:=sj c;exact rT 4 tt ⟨hs,rfl⟩
theorem zqV {e:K} {p0:LP} {l m:OA} {c2 n:Nat} {p1:LP} (E:Sl tPlaced e l c2 p0) (f6:Sl tPlaced e m n p1) {r:Bool} (a:zi0 p0 p1=some r) :
 Fn Tryz.prog 53 #[vl l p0 c2,vl m p1 n] e (fun v f=>Step [] e f∧v=.bool r):=by
 refine fnc 27 [] Tryz.func53 Tryz.ntmps53 fun hs=>cT 1 (cs (cT 5 (cc _ a (fun g a=>?_) fun g a=>?_)))
 ·refine cT 1 (crt (zd ?_));obtain rfl:=sj a;exact rT 4 ff ⟨hs,rfl⟩
 refine ckt (cs (cT 1 (cb 0 ?_)));refine zi 0 (fun Z=>∀ (h:Env) (i:K),Step [] e i→ziZ=some r→Z (h) i) ?_ fun G=>?_
 ·intro h i hs a;refine zf (za (cT 1 (crt ?_)));obtain rfl:=sj a;exact rT 4 tt ⟨hs,rfl⟩
 refine bE a fun C p c=>zn (F:=zdV p0 p1) (J:=fun b H f=>(∃ h,H=ups h [(0,vl l p0 c2),(1,vl m p1 n),(5,iv b)])∧Step [] e f∧I64 b) (s0:=0) (x:=C) kr p ⟨⟨_,eY⟩,hs,(iK 0)⟩ ?_;rintro b _ I ⟨⟨h,rfl⟩,hs,M⟩ D a d;refine cs (cT 4 (cc _ a (fun g a=>?_) fun g a=>?_))
 ·refine ckt (cs (cb 1 (cs (cd 8 (dd 2 (bE a fun N q a=>dI (E.step hs) q fun O P s t u j=>dL j.at 0 3 (dd 2 (bE a fun Q w a=>dI (f6.step hs) w fun R S y z A k=>dL k.at 0 3 (de (bE a fun T B a=>oC hs (zrJ s t u y z A B) ?_))))))))));rintro L U hs _ rfl;refine dT 1 (cc _ a (fun g a=>?_) fun g a=>?_)
  ·refine cT 1 (crt (zj (zd ?_)));obtain rfl:=d _ (sj a).symm;replace a:=c;refine zr (zj (zd ?_));obtain rfl:=sj a;exact rT 4 ff ⟨hs,rfl⟩
  refine ck (zc (za (cr (od 3 (oe ?_)))));exact ze (sj a).symm ⟨⟨_,eY⟩,hs,(zp _)⟩
 refine cx 0 (zg ?_);obtain rfl:=d _ (sj a).symm;replace a:=c;refine zh ?_;exact zo rfl (G   _ _ hs  a)
theorem zlY {c:K} {p0:LP} {e f:OA} {c2 g:Nat} {p1:LP} (k:Sl tPlaced c e c2 p0) (f6:Sl tPlaced c f g p1) {r:Bool} (a:zhN p0 p1=some r) :
 Fn Tryz.prog 26 #[.agg #[vl e p0 c2],.agg #[vl f p1 g]] c (fun v i=>Step [] c i∧v=.bool r):=by
 refine fnc 11 [] Tryz.func26 Tryz.ntmps26 fun hs=>csr (oB 46 26001 [vl e p0 c2] hs fun u p hs w b=>oB 46 26002 [vl f p1 g] hs fun q l hs j d=>?_);replace b:=b.step0 j;refine dT 1 (cs (cO 1 (oV b.at 0 (od 1 (oV d.at 0 (bE a fun s h a=>oC hs (zqV (k.step hs) (f6.step hs) h) ?_))))));rintro m t hs _ rfl;refine dT 1 (cc _ a (fun n a=>?_) fun n a=>?_)
 ·refine cT 1 (crt (zd ?_));obtain rfl:=sj a;exact rT 4 ff ⟨hs,rfl⟩
 refine ckt (cT 1 (crt ?_));obtain rfl:=sj a;exact rT 4 tt ⟨hs,rfl⟩
theorem ztp {e:K} {p0:BS×Int} {p1:BS×Int} (h:p0.1.length≤9223372036854775807) (i:I64 p0.2) (j:p1.1.length≤9223372036854775807) (k:I64 p1.2) {r:Bool} (a:zoU p0 p1=some r) :
 Fn Tryz.prog 104 #[.agg #[zt p0.1,iv p0.2],.agg #[zt p1.1,iv p1.2]] e (fun v f=>Step [] e f∧v=.bool r):=by
 refine fnc 15 [] Tryz.func104 Tryz.ntmps104 fun hs=>csr (oB 149 104001 [zt p0.1,iv p0.2] hs fun n l hs p b=>oB 149 104002 [zt p1.1,iv p1.2] hs fun q m hs g c=>?_);replace b:=b.step0 g;refine dT 1 (cs (cO 1 (oV b.at 0 (od 1 (oV c.at 0 (oq 9 (.bool (!decide (p0.1=p1.1))) (fun _=>zpc kr) (ot (cc _ a (fun d a=>?_) fun d a=>?_))))))))
 ·refine cT 1 (crt (zd ?_));obtain rfl:=sj a;exact rT 4 ff ⟨hs,rfl⟩
 refine ckt (cs (cO 1 (oV b.at 1 (od 1 (oV c.at 1 (dT 1 (cc _ a (fun d a=>?_) fun d a=>?_)))))))
 ·refine cT 1 (crt (zd ?_));obtain rfl:=sj a;exact rT 4 ff ⟨hs,rfl⟩
 refine ckt (cT 1 (crt ?_));obtain rfl:=sj a;exact rT 4 tt ⟨hs,rfl⟩
theorem zsw {e:K} {p0:LG} {l m:OA} {c2 n:Nat} {p1:LG} (C:Sl tGlue e l c2 p0) (f6:Sl tGlue e m n p1) {r:Bool} (a:zla p0 p1=some r) :
 Fn Tryz.prog 81 #[vl l p0 c2,vl m p1 n] e (fun v f=>Step [] e f∧v=.bool r):=by
 refine fnc 27 [] Tryz.func81 Tryz.ntmps81 fun hs=>cT 1 (cs (cT 5 (cc _ a (fun g a=>?_) fun g a=>?_)))
 ·refine cT 1 (crt (zd ?_));obtain rfl:=sj a;exact rT 4 ff ⟨hs,rfl⟩
 refine ckt (cs (cT 1 (cb 0 ?_)));refine zi 0 (fun Z=>∀ (h:Env) (i:K),Step [] e i→zkG=some r→Z (h) i) ?_ fun D=>?_
 ·intro h i hs a;refine zf (za (cT 1 (crt ?_)));obtain rfl:=sj a;exact rT 4 tt ⟨hs,rfl⟩
 refine bE a fun A p c=>zn (F:=zfs p0 p1) (J:=fun b E f=>(∃ h,E=ups h [(0,vl l p0 c2),(1,vl m p1 n),(5,iv b)])∧Step [] e f∧I64 b) (s0:=0) (x:=A) kr p ⟨⟨_,eY⟩,hs,(iK 0)⟩ ?_;rintro b _ G ⟨⟨h,rfl⟩,hs,I⟩ B a d;refine cs (cT 4 (cc _ a (fun g a=>?_) fun g a=>?_))
 ·refine ckt (cs (cb 1 (cs (cd 8 (dd 2 (bE a fun L q a=>dI (C.step hs) q fun M N s t j=>dL j.at 0 2 (dd 2 (bE a fun O u a=>dI (f6.step hs) u fun P Q w y k=>dL k.at 0 2 (de (bE a fun R z a=>oC hs (ztp s t w y z) ?_))))))))));rintro H S hs _ rfl;refine dT 1 (cc _ a (fun g a=>?_) fun g a=>?_)
  ·refine cT 1 (crt (zj (zd ?_)));obtain rfl:=d _ (sj a).symm;replace a:=c;refine zr (zj (zd ?_));obtain rfl:=sj a;exact rT 4 ff ⟨hs,rfl⟩
  refine ck (zc (za (cr (od 3 (oe ?_)))));exact ze (sj a).symm ⟨⟨_,eY⟩,hs,(zp _)⟩
 refine cx 0 (zg ?_);obtain rfl:=d _ (sj a).symm;replace a:=c;refine zh ?_;exact zo rfl (D   _ _ hs  a)
theorem zjK {b:K} {p0:LI} {k l:OA} {c2 m:Nat} {p1:LI} (s:Sl tI64 b k c2 p0) (f6:Sl tI64 b l m p1) {r:Bool} (a:zfK p0 p1=some r) :
 Fn Tryz.prog 55 #[vl k p0 c2,vl l p1 m] b (fun v c=>b=c∧v=.bool r):=by
 refine fnc 26 [] Tryz.func55 Tryz.ntmps55 fun hs=>cT 1 (cs (cT 5 (cc _ a (fun d a=>?_) fun d a=>?_)))
 ·refine cT 1 (crt (zd ?_));obtain rfl:=sj a;exact rT 4 ff ⟨rfl,rfl⟩
 refine ckt (cs (cT 1 (cb 0 ?_)));refine zi 0 (fun Z=>∀ (e:Env),zjL=some r→Z (e) b) ?_ fun t=>?_
 ·intro e a;refine zf (za (cT 1 (crt ?_)));obtain rfl:=sj a;exact rT 4 tt ⟨rfl,rfl⟩
 refine bE a fun u q f=>zn (F:=zeM p0 p1) (J:=fun g w c=>(∃ e,w=ups e [(0,vl k p0 c2),(1,vl l p1 m),(5,iv g)])∧b=c∧I64 g) (s0:=0) (x:=u) kr q ⟨⟨_,eY⟩,rfl,(iK 0)⟩ ?_;rintro g _ _ ⟨⟨e,rfl⟩,rfl,B⟩ y a h;refine cs (cT 4 (cc _ a (fun d a=>?_) fun d a=>?_))
 ·refine ckt (cs (cb 1 (cs (cd 8 (dd 2 (bE a fun C n a=>dI s n fun D E z i=>dV i.at 0 (dd 2 (bE a fun G p a=>dI f6 p fun H I A j=>dV j.at 0 (de (dT 1 (cc _ a (fun d a=>?_) fun d a=>?_)))))))))))
  ·refine cT 1 (crt (zj (zd ?_)));obtain rfl:=h _ (sj a).symm;replace a:=f;refine zr (zj (zd ?_));obtain rfl:=sj a;exact rT 4 ff ⟨rfl,rfl⟩
  refine ck (zc (za (cr (od 3 (oe ?_)))));exact ze (sj a).symm ⟨⟨_,eY⟩,rfl,(zp _)⟩
 refine cx 0 (zg ?_);obtain rfl:=h _ (sj a).symm;replace a:=f;refine zh ?_;exact zo rfl (t   _  a)
theorem zto {d:K} {p0:BS×LI} {a2 e:OA} {f g:Nat} {p1:BS×LI} (q:p0.1.length≤9223372036854775807) (l:Sl tI64 d a2 f p0.2) (s:p1.1.length≤9223372036854775807) (m:Sl tI64 d e g p1.2) {r:Bool} (a:zoT p0 p1=some r) :
 Fn Tryz.prog 105 #[.agg #[zt p0.1,vl a2 p0.2 f],.agg #[zt p1.1,vl e p1.2 g]] d (fun v j=>Step [] d j∧v=.bool r):=by
 refine fnc 16 [] Tryz.func105 Tryz.ntmps105 fun hs=>csr (oB 82 105001 [zt p0.1,vl a2 p0.2 f] hs fun x n hs t b=>oB 82 105002 [zt p1.1,vl e p1.2 g] hs fun u p hs k c=>?_);replace b:=b.step0 k;refine dT 1 (cs (cO 1 (oV b.at 0 (od 1 (oV c.at 0 (oq 9 (.bool (!decide (p0.1=p1.1))) (fun _=>zpc kr) (ot (cc _ a (fun h a=>?_) fun h a=>?_))))))))
 ·refine cT 1 (crt (zd ?_));obtain rfl:=sj a;exact rT 4 ff ⟨hs,rfl⟩
 refine ckt (cs (cO 1 (oV b.at 1 (od 1 (oV c.at 1 (bE a fun w i a=>ocl 14 (zjK (l.step hs) (m.step hs) i) ?_))))));rintro _ _ ⟨rfl,rfl⟩;refine dT 1 (cc _ a (fun h a=>?_) fun h a=>?_)
 ·refine cT 1 (crt (zd ?_));obtain rfl:=sj a;exact rT 4 ff ⟨hs,rfl⟩
 refine ckt (cT 1 (crt ?_));obtain rfl:=sj a;exact rT 4 tt ⟨hs,rfl⟩
theorem zsu {e:K} {p0:LT} {l m:OA} {c2 n:Nat} {p1:LT} (C:Sl tTile e l c2 p0) (f6:Sl tTile e m n p1) {r:Bool} (a:zk9 p0 p1=some r) :
 Fn Tryz.prog 82 #[vl l p0 c2,vl m p1 n] e (fun v f=>Step [] e f∧v=.bool r):=by
 refine fnc 27 [] Tryz.func82 Tryz.ntmps82 fun hs=>cT 1 (cs (cT 5 (cc _ a (fun g a=>?_) fun g a=>?_)))
 ·refine cT 1 (crt (zd ?_));obtain rfl:=sj a;exact rT 4 ff ⟨hs,rfl⟩
 refine ckt (cs (cT 1 (cb 0 ?_)));refine zi 0 (fun Z=>∀ (h:Env) (i:K),Step [] e i→zkF=some r→Z (h) i) ?_ fun D=>?_
 ·intro h i hs a;refine zf (za (cT 1 (crt ?_)));obtain rfl:=sj a;exact rT 4 tt ⟨hs,rfl⟩
 refine bE a fun y p c=>zn (F:=zfr p0 p1) (J:=fun b E f=>(∃ h,E=ups h [(0,vl l p0 c2),(1,vl m p1 n),(5,iv b)])∧Step [] e f∧I64 b) (s0:=0) (x:=y) kr p ⟨⟨_,eY⟩,hs,(iK 0)⟩ ?_;rintro b _ G ⟨⟨h,rfl⟩,hs,I⟩ B a d;refine cs (cT 4 (cc _ a (fun g a=>?_) fun g a=>?_))
 ·refine ckt (cs (cb 1 (cs (cd 8 (dd 2 (bE a fun L q a=>dI (C.step hs) q fun M N s O P z j=>dL j.at 0 2 (dd 2 (bE a fun Q t a=>dI (f6.step hs) t fun R S u T U A k=>dL k.at 0 2 (de (bE a fun V w a=>oC hs (zto s z u A w) ?_))))))))));rintro H X hs _ rfl;refine dT 1 (cc _ a (fun g a=>?_) fun g a=>?_)
  ·refine cT 1 (crt (zj (zd ?_)));obtain rfl:=d _ (sj a).symm;replace a:=c;refine zr (zj (zd ?_));obtain rfl:=sj a;exact rT 4 ff ⟨hs,rfl⟩
  refine ck (zc (za (cr (od 3 (oe ?_)))));exact ze (sj a).symm ⟨⟨_,eY⟩,hs,(zp _)⟩
 refine cx 0 (zg ?_);obtain rfl:=d _ (sj a).symm;replace a:=c;refine zh ?_;exact zo rfl (D   _ _ hs  a)
theorem zqU {d:K} {p0:LG×LT} {g h i e:OA} {c2 j k f:Nat} {p1:LG×LT} (u:Sl tGlue d g c2 p0.1) (f6:Sl tTile d h j p0.2) (w:Sl tGlue d i k p1.1) (p:Sl tTile d e f p1.2) {r:Bool} (b:zlX p0 p1=some r) :
 Fn Tryz.prog 52 #[.agg #[vl g p0.1 c2,vl h p0.2 j],.agg #[vl i p1.1 k,vl e p1.2 f]] d (fun v q=>Step [] d q∧v=.bool r):=by
 refine fnc 17 [] Tryz.func52 Tryz.ntmps52 fun hs=>csr (oB 43 52001 [vl g p0.1 c2,vl h p0.2 j] hs fun B x hs C a=>oB 43 52002 [vl i p1.1 k,vl e p1.2 f] hs fun D y hs s c=>?_);replace a:=a.step0 s;refine dT 1 (cs (cO 1 (oV a.at 0 (od 1 (oV c.at 0 (bE b fun E l b=>oC hs (zsw (u.step hs) (w.step hs) l) ?_))))));rintro z t hs _ rfl;obtain ⟨a,c⟩:=sQ2 t a c;refine dT 1 (cc _ b (fun m b=>?_) fun m b=>?_)
 ·refine cT 1 (crt (zd ?_));obtain rfl:=sj b;exact rT 4 ff ⟨hs,rfl⟩
 refine ckt (cs (cO 1 (oV a.at 1 (od 1 (oV c.at 1 (bE b fun F n b=>oC hs (zsu (f6.step hs) (p.step hs) n) ?_))))));rintro A G hs _ rfl;refine dT 1 (cc _ b (fun m b=>?_) fun m b=>?_)
 ·refine cT 1 (crt (zd ?_));obtain rfl:=sj b;exact rT 4 ff ⟨hs,rfl⟩
 refine ckt (cT 1 (crt ?_));obtain rfl:=sj b;exact rT 4 tt ⟨hs,rfl⟩
theorem zrI {d:K} {p0:TS×(LP)×Int} {l m n e f g:OA} {c2 p q h i j:Nat} {p1:TS×(LP)×Int} (C:Sl tGlue d l c2 p0.1.1) (f6:Sl tTile d m p p0.1.2) (D:Sl tPlaced d n q p0.2.1) (E:I64 p0.2.2) (u:Sl tGlue d e h p1.1.1) (w:Sl tTile d f i p1.1.2) (x:Sl tPlaced d g j p1.2.1) (F:I64 p1.2.2) {r:Bool} (c:zm5 p0 p1=some r) :
 Fn Tryz.prog 25 #[.agg #[vl l p0.1.1 c2,vl m p0.1.2 p,vl n p0.2.1 q,iv p0.2.2],.agg #[vl e p1.1.1 h,vl f p1.1.2 i,vl g p1.2.1 j,iv p1.2.2]] d (fun v y=>Step [] d y∧v=.bool r):=by
 refine fnc 22 [] Tryz.func25 Tryz.ntmps25 fun hs=>csr (oB 48 25001 [vl l p0.1.1 c2,vl m p0.1.2 p,vl n p0.2.1 q,iv p0.2.2] hs fun L G hs M a=>oB 48 25002 [vl e p1.1.1 h,vl f p1.1.2 i,vl g p1.2.1 j,iv p1.2.2] hs fun N H hs z b=>?_);replace a:=a.step0 z;refine dT 1 (cs (cO 1 (oL a.at 0 2 (od 1 (oL b.at 0 2 (bE c fun O s c=>oC hs (zqU (C.step hs) (f6.step hs) (u.step hs) (w.step hs) s) ?_))))));rintro I A hs _ rfl;obtain ⟨a,b⟩:=sQ2 A a b;refine dT 1 (cc _ c (fun k c=>?_) fun k c=>?_)
 ·refine cT 1 (crt (zd ?_));obtain rfl:=sj c;exact rT 4 ff ⟨hs,rfl⟩
 refine ckt (cs (cO 1 (oL a.at 2 1 (od 1 (oL b.at 2 1 (bE c fun P t c=>oC hs (zlY (D.step hs) (x.step hs) t) ?_))))));rintro J B hs _ rfl;obtain ⟨a,b⟩:=sQ2 B a b;refine dT 1 (cc _ c (fun k c=>?_) fun k c=>?_)
 ·refine cT 1 (crt (zd ?_));obtain rfl:=sj c;exact rT 4 ff ⟨hs,rfl⟩
 refine ckt (cs (cO 1 (oV a.at 3 (od 1 (oV b.at 3 (dT 1 (cc _ c (fun k c=>?_) fun k c=>?_)))))))
 ·refine cT 1 (crt (zd ?_));obtain rfl:=sj c;exact rT 4 ff ⟨hs,rfl⟩
 refine ckt (cT 1 (crt ?_));obtain rfl:=sj c;exact rT 4 tt ⟨hs,rfl⟩
theorem zrK {f:K} {p0:(Int×Int)×Int} {p1:(Int×Int)×Int} (g:I64 p0.1.1) (h:I64 p0.1.2) (q:I64 p0.2) (i:I64 p1.1.1) (j:I64 p1.1.2) (s:I64 p1.2) {r:Bool} (c:zm7 p0 p1=some r) :
 Fn Tryz.prog 84 #[.agg #[iv p0.1.1,iv p0.1.2,iv p0.2],.agg #[iv p1.1.1,iv p1.1.2,iv p1.2]] f (fun v k=>Step [] f k∧v=.bool r):=by
 refine fnc 16 [] Tryz.func84 Tryz.ntmps84 fun hs=>csr (oB 111 84001 [iv p0.1.1,iv p0.1.2,iv p0.2] hs fun x t hs y a=>oB 111 84002 [iv p1.1.1,iv p1.1.2,iv p1.2] hs fun u n hs l b=>?_);replace a:=a.step0 l;refine dT 1 (cs (cO 1 (oL a.at 0 2 (od 1 (oL b.at 0 2 (bE c fun w d c=>oC hs (zof g h i j d) ?_))))));rintro p m hs _ rfl;obtain ⟨a,b⟩:=sQ2 m a b;refine dT 1 (cc _ c (fun e c=>?_) fun e c=>?_)
 ·refine cT 1 (crt (zd ?_));obtain rfl:=sj c;exact rT 4 ff ⟨hs,rfl⟩
 refine ckt (cs (cO 1 (oV a.at 2 (od 1 (oV b.at 2 (dT 1 (cc _ c (fun e c=>?_) fun e c=>?_)))))))
 ·refine cT 1 (crt (zd ?_));obtain rfl:=sj c;exact rT 4 ff ⟨hs,rfl⟩
 refine ckt (cT 1 (crt ?_));obtain rfl:=sj c;exact rT 4 tt ⟨hs,rfl⟩
theorem zmF {e:K} {p0:LP} {l m:OA} {c2 n:Nat} {p1:LP} (E:Sl tPlaced e l c2 p0) (f6:Sl tPlaced e m n p1) {r:Bool} (a:zgq p0 p1=some r) :
 Fn Tryz.prog 54 #[vl l p0 c2,vl m p1 n] e (fun v f=>Step [] e f∧v=.bool r):=by
 refine fnc 27 [] Tryz.func54 Tryz.ntmps54 fun hs=>cT 1 (cs (cT 5 (cc _ a (fun g a=>?_) fun g a=>?_)))
 ·refine cT 1 (crt (zd ?_));obtain rfl:=sj a;exact rT 4 ff ⟨hs,rfl⟩
 refine ckt (cs (cT 1 (cb 0 ?_)));refine zi 0 (fun Z=>∀ (h:Env) (i:K),Step [] e i→zi1=some r→Z (h) i) ?_ fun G=>?_
 ·intro h i hs a;refine zf (za (cT 1 (crt ?_)));obtain rfl:=sj a;exact rT 4 tt ⟨hs,rfl⟩
 refine bE a fun C p c=>zn (F:=zdW p0 p1) (J:=fun b H f=>(∃ h,H=ups h [(0,vl l p0 c2),(1,vl m p1 n),(5,iv b)])∧Step [] e f∧I64 b) (s0:=0) (x:=C) kr p ⟨⟨_,eY⟩,hs,(iK 0)⟩ ?_;rintro b _ I ⟨⟨h,rfl⟩,hs,M⟩ D a d;refine cs (cT 4 (cc _ a (fun g a=>?_) fun g a=>?_))
 ·refine ckt (cs (cb 1 (cs (cd 8 (dd 2 (bE a fun N q a=>dI (E.step hs) q fun O P s t u j=>dL j.at 0 3 (dd 2 (bE a fun Q w a=>dI (f6.step hs) w fun R S y z A k=>dL k.at 0 3 (de (bE a fun T B a=>oC hs (zrK s t u y z A B) ?_))))))))));rintro L U hs _ rfl;refine dT 1 (cc _ a (fun g a=>?_) fun g a=>?_)
  ·refine cT 1 (crt (zj (zd ?_)));obtain rfl:=d _ (sj a).symm;replace a:=c;refine zr (zj (zd ?_));obtain rfl:=sj a;exact rT 4 ff ⟨hs,rfl⟩
  refine ck (zc (za (cr (od 3 (oe ?_)))));exact ze (sj a).symm ⟨⟨_,eY⟩,hs,(zp _)⟩
 refine cx 0 (zg ?_);obtain rfl:=d _ (sj a).symm;replace a:=c;refine zh ?_;exact zo rfl (G   _ _ hs  a)
theorem zqW {b:K} {p0:LM} {k l:OA} {c2 m:Nat} {p1:LM} (w:Sl (tSl tI64) b k c2 p0) (f6:Sl (tSl tI64) b l m p1) {r:Bool} (a:zi3 p0 p1=some r) :
 Fn Tryz.prog 56 #[vl k p0 c2,vl l p1 m] b (fun v c=>b=c∧v=.bool r):=by
 refine fnc 27 [] Tryz.func56 Tryz.ntmps56 fun hs=>cT 1 (cs (cT 5 (cc _ a (fun d a=>?_) fun d a=>?_)))
 ·refine cT 1 (crt (zd ?_));obtain rfl:=sj a;exact rT 4 ff ⟨rfl,rfl⟩
 refine ckt (cs (cT 1 (cb 0 ?_)));refine zi 0 (fun Z=>∀ (e:Env),zi2=some r→Z (e) b) ?_ fun y=>?_
 ·intro e a;refine zf (za (cT 1 (crt ?_)));obtain rfl:=sj a;exact rT 4 tt ⟨rfl,rfl⟩
 refine bE a fun z s f=>zn (F:=zdX p0 p1) (J:=fun g A c=>(∃ e,A=ups e [(0,vl k p0 c2),(1,vl l p1 m),(5,iv g)])∧b=c∧I64 g) (s0:=0) (x:=z) kr s ⟨⟨_,eY⟩,rfl,(iK 0)⟩ ?_;rintro g _ _ ⟨⟨e,rfl⟩,rfl,C⟩ B a h;refine cs (cT 4 (cc _ a (fun d a=>?_) fun d a=>?_))
 ·refine ckt (cs (cb 1 (cs (cd 8 (dd 2 (bE a fun D n a=>dI w n fun E G H I t i=>dV i.at 0 (dd 2 (bE a fun L p a=>dI f6 p fun M N O P u j=>dV j.at 0 (de (bE a fun Q q a=>ocl 25 (zjK t u q) ?_))))))))));rintro _ _ ⟨rfl,rfl⟩;refine dT 1 (cc _ a (fun d a=>?_) fun d a=>?_)
  ·refine cT 1 (crt (zj (zd ?_)));obtain rfl:=h _ (sj a).symm;replace a:=f;refine zr (zj (zd ?_));obtain rfl:=sj a;exact rT 4 ff ⟨rfl,rfl⟩
  refine ck (zc (za (cr (od 3 (oe ?_)))));exact ze (sj a).symm ⟨⟨_,eY⟩,rfl,(zp _)⟩
 refine cx 0 (zg ?_);obtain rfl:=h _ (sj a).symm;replace a:=f;refine zh ?_;exact zo rfl (y   _  a)
theorem zsv {d:K} {p0:Int×LP×LP×LI×LM} {a2 q s f g h i j:OA} {t u w k l m n p:Nat} {p1:Int×LP×LP×LI×LM} (T:I64 p0.1) (M:Sl tPlaced d a2 t p0.2.1) (N:Sl tPlaced d q u p0.2.2.1) (B:Sl tI64 d s w p0.2.2.2.1) (C:Sl (tSl tI64) d f k p0.2.2.2.2) (O:I64 p1.1) (D:Sl tPlaced d g l p1.2.1) (E:Sl tPlaced d h m p1.2.2.1) (F:Sl tI64 d i n p1.2.2.2.1) (G:Sl (tSl tI64) d j p p1.2.2.2.2) {r:Bool} (a:znS p0 p1=some r) :
 Fn Tryz.prog 27 #[.agg #[iv p0.1,vl a2 p0.2.1 t,vl q p0.2.2.1 u,vl s p0.2.2.2.1 w,vl f p0.2.2.2.2 k],.agg #[iv p1.1,vl g p1.2.1 l,vl h p1.2.2.1 m,vl i p1.2.2.2.1 n,vl j p1.2.2.2.2 p]] d (fun v H=>Step [] d H∧v=.bool r):=by
 refine fnc 34 [] Tryz.func27 Tryz.ntmps27 fun hs=>csr (oB 51 27001 [iv p0.1,vl a2 p0.2.1 t,vl q p0.2.2.1 u,vl s p0.2.2.2.1 w,vl f p0.2.2.2.2 k] hs fun U P hs V b=>oB 51 27002 [iv p1.1,vl g p1.2.1 l,vl h p1.2.2.1 m,vl i p1.2.2.2.1 n,vl j p1.2.2.2.2 p] hs fun X Q hs I c=>?_);replace b:=b.step0 I;refine dT 1 (cs (cO 1 (oV b.at 0 (od 1 (oV c.at 0 (dT 1 (cc _ a (fun e a=>?_) fun e a=>?_)))))))
 ·refine cT 1 (crt (zd ?_));obtain rfl:=sj a;exact rT 4 ff ⟨hs,rfl⟩
 refine ckt (cs (cO 1 (oV b.at 1 (od 1 (oV c.at 1 (bE a fun Y x a=>oC hs (zmF (M.step hs) (D.step hs) x) ?_))))));rintro R J hs _ rfl;obtain ⟨b,c⟩:=sQ2 J b c;refine dT 1 (cc _ a (fun e a=>?_) fun e a=>?_)
 ·refine cT 1 (crt (zd ?_));obtain rfl:=sj a;exact rT 4 ff ⟨hs,rfl⟩
 refine ckt (cs (cO 1 (oV b.at 2 (od 1 (oV c.at 2 (bE a fun Z y a=>oC hs (zmF (N.step hs) (E.step hs) y) ?_))))));rintro S L hs _ rfl;obtain ⟨b,c⟩:=sQ2 L b c;refine dT 1 (cc _ a (fun e a=>?_) fun e a=>?_)
 ·refine cT 1 (crt (zd ?_));obtain rfl:=sj a;exact rT 4 ff ⟨hs,rfl⟩
 refine ckt (cs (cO 1 (oV b.at 3 (od 1 (oV c.at 3 (bE a fun a0 z a=>ocl 26 (zjK (B.step hs) (F.step hs) z) ?_))))));rintro _ _ ⟨rfl,rfl⟩;refine dT 1 (cc _ a (fun e a=>?_) fun e a=>?_)
 ·refine cT 1 (crt (zd ?_));obtain rfl:=sj a;exact rT 4 ff ⟨hs,rfl⟩
 refine ckt (cs (cO 1 (oV b.at 4 (od 1 (oV c.at 4 (bE a fun a1 A a=>ocl 32 (zqW (C.step hs) (G.step hs) A) ?_))))));rintro _ _ ⟨rfl,rfl⟩;refine dT 1 (cc _ a (fun e a=>?_) fun e a=>?_)
 ·refine cT 1 (crt (zd ?_));obtain rfl:=sj a;exact rT 4 ff ⟨hs,rfl⟩
 refine ckt (cT 1 (crt ?_));obtain rfl:=sj a;exact rT 4 tt ⟨hs,rfl⟩
theorem zsx {d:K} {p0:BS×(TS×(LP)×Int)×(LP)×(Int×LP×LP×LI×LM)} {a2 I J f g h i j k l m n p q s t:OA} {L M N u w x y z A B C D E F G H:Nat} {p1:BS×(TS×(LP)×Int)×(LP)×(Int×LP×LP×LI×LM)} (c7:p0.1.length≤9223372036854775807) (f4:Sl tGlue d a2 L p0.2.1.1.1) (f7:Sl tTile d I M p0.2.1.1.2) (V:Sl tPlaced d J N p0.2.1.2.1) (O:I64 p0.2.1.2.2) (X:Sl tPlaced d f u p0.2.2.1) (P:I64 p0.2.2.2.1) (Y:Sl tPlaced d g w p0.2.2.2.2.1) (Z:Sl tPlaced d h x p0.2.2.2.2.2.1) (a0:Sl tI64 d i y p0.2.2.2.2.2.2.1) (a1:Sl (tSl tI64) d j z p0.2.2.2.2.2.2.2) (b9:p1.1.length≤9223372036854775807) (a3:Sl tGlue d k A p1.2.1.1.1) (a4:Sl tTile d l B p1.2.1.1.2) (a6:Sl tPlaced d m C p1.2.1.2.1) (Q:I64 p1.2.1.2.2) (a7:Sl tPlaced d n D p1.2.2.1) (R:I64 p1.2.2.2.1) (a9:Sl tPlaced d p E p1.2.2.2.2.1) (b0:Sl tPlaced d q F p1.2.2.2.2.2.1) (b1:Sl tI64 d s G p1.2.2.2.2.2.2.1) (b2:Sl (tSl tI64) d t H p1.2.2.2.2.2.2.2) {r:Bool} (b:zlb p0 p1=some r) :
 Fn Tryz.prog 8 #[.agg #[zt p0.1,vl a2 p0.2.1.1.1 L,vl I p0.2.1.1.2 M,vl J p0.2.1.2.1 N,iv p0.2.1.2.2,vl f p0.2.2.1 u,iv p0.2.2.2.1,vl g p0.2.2.2.2.1 w,vl h p0.2.2.2.2.2.1 x,vl i p0.2.2.2.2.2.2.1 y,vl j p0.2.2.2.2.2.2.2 z],.agg #[zt p1.1,vl k p1.2.1.1.1 A,vl l p1.2.1.1.2 B,vl m p1.2.1.2.1 C,iv p1.2.1.2.2,vl n p1.2.2.1 D,iv p1.2.2.2.1,vl p p1.2.2.2.2.1 E,vl q p1.2.2.2.2.2.1 F,vl s p1.2.2.2.2.2.2.1 G,vl t p1.2.2.2.2.2.2.2 H]] d (fun v b3=>Step [] d b3∧v=.bool r):=by
 refine fnc 28 [] Tryz.func8 Tryz.ntmps8 fun hs=>csr (oB 53 8001 [zt p0.1,vl a2 p0.2.1.1.1 L,vl I p0.2.1.1.2 M,vl J p0.2.1.2.1 N,iv p0.2.1.2.2,vl f p0.2.2.1 u,iv p0.2.2.2.1,vl g p0.2.2.2.2.1 w,vl h p0.2.2.2.2.2.1 x,vl i p0.2.2.2.2.2.2.1 y,vl j p0.2.2.2.2.2.2.2 z] hs fun c8 c0 hs d0 a=>oB 53 8002 [zt p1.1,vl k p1.2.1.1.1 A,vl l p1.2.1.1.2 B,vl m p1.2.1.2.1 C,iv p1.2.1.2.2,vl n p1.2.2.1 D,iv p1.2.2.2.1,vl p p1.2.2.2.2.1 E,vl q p1.2.2.2.2.2.1 F,vl s p1.2.2.2.2.2.2.1 G,vl t p1.2.2.2.2.2.2.2 H] hs fun d2 c1 hs b4 c=>?_);replace a:=a.step0 b4;refine dT 1 (cs (cO 1 (oV a.at 0 (od 1 (oV c.at 0 (oq 9 (.bool (!decide (p0.1=p1.1))) (fun _=>zpc kr) (ot (cc _ b (fun e b=>?_) fun e b=>?_))))))))
 ·refine cT 1 (crt (zd ?_));obtain rfl:=sj b;exact rT 4 ff ⟨hs,rfl⟩
 refine ckt (cs (cO 1 (oL a.at 1 4 (od 1 (oL c.at 1 4 (bE b fun d3 S b=>oC hs (zrI (f4.step hs) (f7.step hs) (V.step hs) O (a3.step hs) (a4.step hs) (a6.step hs) Q S) ?_))))));rintro c2 b5 hs _ rfl;obtain ⟨a,c⟩:=sQ2 b5 a c;refine dT 1 (cc _ b (fun e b=>?_) fun e b=>?_)
 ·refine cT 1 (crt (zd ?_));obtain rfl:=sj b;exact rT 4 ff ⟨hs,rfl⟩
 refine ckt (cs (cO 1 (oL a.at 5 1 (od 1 (oL c.at 5 1 (bE b fun d4 T b=>oC hs (zlY (X.step hs) (a7.step hs) T) ?_))))));rintro c4 b6 hs _ rfl;obtain ⟨a,c⟩:=sQ2 b6 a c;refine dT 1 (cc _ b (fun e b=>?_) fun e b=>?_)
 ·refine cT 1 (crt (zd ?_));obtain rfl:=sj b;exact rT 4 ff ⟨hs,rfl⟩
 refine ckt (cs (cO 1 (oL a.at 6 5 (od 1 (oL c.at 6 5 (bE b fun d5 U b=>oC hs (zsv P (Y.step hs) (Z.step hs) (a0.step hs) (a1.step hs) R (a9.step hs) (b0.step hs) (b1.step hs) (b2.step hs) U) ?_))))));rintro c5 d6 hs _ rfl;refine dT 1 (cc _ b (fun e b=>?_) fun e b=>?_)
 ·refine cT 1 (crt (zd ?_));obtain rfl:=sj b;exact rT 4 ff ⟨hs,rfl⟩
 refine ckt (cT 1 (crt ?_));obtain rfl:=sj b;exact rT 4 tt ⟨hs,rfl⟩
end Go.Lf
