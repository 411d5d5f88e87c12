import Derived.Test.YtinhknndegdcfaaGreatDoorG
set_option linter.all false
set_option maxRecDepth 100000
set_option maxHeartbeats 4000000
namespace Go.Lf
open Go Go.Proofs
theorem zp8 {k:K} {p0:LP} {H:OA} {c2:Nat} {p1:Int×Int} {p2:Int} (f3:Sl tPlaced k H c2 p0) (a7:I64 p1.1) (a8:I64 p1.2) (N:I64 p2) {r:Int} (a:zg9 p0 p1 p2=some r) :
 Fn Tryz.prog 74 #[.agg #[vl H p0 c2],.agg #[iv p1.1,iv p1.2],iv p2] k (fun v g=>Step [] k g∧v=iv r∧I64 r):=by
 refine fnc 53 [] Tryz.func74 Tryz.ntmps74 fun hs=>csr (oB 44 74001 [vl H p0 c2] hs fun R c7 hs c8 c=>oB 73 74002 [iv p1.1,iv p1.2] hs fun t b4 hs a9 b=>?_);replace c:=c.step0 a9;refine od 1 (otx (dT 1 (cs (cO 1 (bE a fun h S a=>oC hs (zha N S) ?_)))));rintro b5 b0 hs _ ⟨u,w,rfl,e⟩;obtain ⟨c,b⟩:=sQ2 b0 c b;refine dT 2 (cb 0 ?_);refine zj 0 (fun Z=>∀ (n:Int) (j:Env) (m:K),Step [] k m→I64 n→zcJ p2 n=some r→Z (ups j [(2,iv p2),(7,iv n)]) m) ?_ fun J1=>?_
 ·intro n j m hs b7 a;refine zf (zb (cO 4 (bE a fun O y a=>oq 52 (iv O) (fun _=>zji kr y) (dT 1 (crt ?_)))));obtain rfl:=sj a;exact rT 6 (iv O) ⟨hs,rfl,(zni y)⟩
 refine bE a fun b1 T p=>zp (F:=zaP p0 p1 p2 h) (J:=fun d E' g=>(∃ j,E'=ups j [(2,iv p2),(3,pt R 0),(4,pt t 0),(7,iv d.1),(12,vl u h w),(13,iv (h.length:Int)),(14,iv d.2)])∧Step [] k g∧I64 d.1∧I64 d.2∧Sl tPoint g u w h∧Box (k.H.size,74001) g R [vl H p0 c2] 44∧Box (k.H.size,74002) g t [iv p1.1,iv p1.2] 73) (s0:=((-1),0)) (x:=b1) kr T ⟨⟨_,eY⟩,hs,(iK (-1)),(iK 0),e,c,b⟩ ?_;rintro d _ c0 ⟨⟨j,rfl⟩,hs,U,c1,e,c,b⟩ I a q;refine cT 1 (cs (cc _ a (fun hc a=>?_) fun hc a=>?_))
 ·refine ckt (cs (cb 1 (cO 1 (bE a fun P V a=>oJ e V fun c9 d0 X Y L=>oL L.at 0 2 (oA 73 74003 [iv 0,iv 0] hs fun d2 c3 hs b2 f=>?_)))));obtain ⟨e,c,b⟩:=sQ3 b2 e c b;refine od 1 (oS 0 [iv P.1,iv P.2] f hs fun c4 hs A B=>?_);replace e:=e.step A;replace c:=c.step A (nm1 (c.ne f (zk kr)));replace b:=b.step A (nm1 (b.ne f (zk kr)));replace f:=B;refine ot (cs (cx_ 7 [0,1,2,3,6,4,5] [4,5] 7 [] (xL c.at 0 1 (xL b.at 0 2 (xL f.at 0 2 (xp 22 (iv p2) (xp 25 (iv d.2) (bE a fun d3 a0 a=>xcl 23 (zmO a7 a8 X Y N a0) ?_))))))));rintro _ c5 ⟨C,rfl,a2,a3⟩;refine ⟨C,?_⟩;replace hs:=hs.tr0 C;obtain ⟨e,c,b⟩:=sQ3 C e c b;refine bE a fun s a4 a=>xcl 24 (zcs (f3.step hs) a2 a3 a4) ?_;rintro _ a5 ⟨D,rfl,c6⟩;refine ⟨D,?_⟩;replace hs:=hs.tr0 D;obtain ⟨e,c,b⟩:=sQ3 D e c b;refine xe (dT 2 (cs ?_));refine zn (fun Z=>∀ (E:Bool) (j:Env),zbB d s E=some I→cwp Tryz.prog 53 (sub (zA Tryz.f74) [1,0,1,1,0,0,1,1,0,0,1,0,1,1]) Z (ups j [(2,iv p2),(3,pt R 0),(4,pt t 0),(10,iv (w64 (s - d.2))),(12,vl u h w),(13,iv (h.length:Int)),(14,iv d.2),(45,.bool E)]) a5) ?_ fun M=>?_
  ·intro E j a;refine cc _ a (fun hc a=>?_) fun hc a=>?_
   ·refine cT 1 (crt (zd (zl (zd ?_))));obtain rfl:=q _ (sj a).symm;replace a:=p;refine zx (zl (zd ?_));obtain rfl:=sj a;exact rT 6 (iv (-1)) ⟨hs,rfl,(iK (-1))⟩
   refine ckt (cr (od 2 (oe (zc (zb (cr (od 2 (oe ?_))))))));exact ze (sj a).symm ⟨⟨_,eY⟩,hs,(zo _),(zo _),e,c,b⟩
  refine cO 2 ?_;refine osp 29 (decide ((w64 (s - d.2))<0)) a ?_ ?_
  ·intro G a;refine od 4 (bE a fun Q a6 a=>oq 34 (iv Q) (fun _=>zmp kr a6) (od 2 (osp 37 (!decide (Q=0)) a (fun G a=>?_) fun G a=>?_)))
   ·refine od 2 (osp 40 (decide (d.2>0)) a (fun G a=>?_) fun G a=>?_)
    ·refine oz [41,42,43] (dT 2 ?_);exact zm eY (M false  _  a)
    refine dT 5 ?_;exact zm eY (M (!decide ((w64 (s - d.2))=d.1))  _  a)
   refine oz [38,39,40,41,42,43,44] (dT 1 ?_);exact zm eY (M true  _  a)
  intro G a;refine oz [30,31,32,33,34,35] (od 2 (oz [38,39,40,41,42,43,44] (dT 1 ?_)));exact zm eY (M true  _  a)
 refine cx 0 (zg ?_);obtain rfl:=q _ (sj a).symm;replace a:=p;refine zh ?_;exact zq eY (J1 d.1  _ _ hs U a)
theorem znv {j:K} {p0:LP} {M:OA} {c2:Nat} {p1:Int} (f3:Sl tPlaced j M c2 p0) (a6:I64 p1) {r:(LP)} (g:zfF p0 p1=some r) :
 Fn Tryz.prog 35 #[.agg #[vl M p0 c2],iv p1] j (fun v m=>Step [] j m∧∃ (a5:OA) (c6:Nat),v=.agg #[vl a5 r c6]∧Sl tPlaced m a5 c6 r):=by
 refine fnc 33 [] Tryz.func35 Tryz.ntmps35 fun hs=>csr (oB 44 35001 [vl M p0 c2] hs fun Y e9 hs f0 c=>oA 44 35002 [sl none 0 0] hs fun p d5 hs b7 a=>?_);replace c:=c.step0 b7;refine otx (oA 44 35003 [sl none 0 0] hs fun u d6 hs b9 b=>?_);obtain ⟨c,a⟩:=sQ2 b9 c a;refine ot (cs (csr (oL c.at 0 1 (od 1 (bE g fun q a8 g=>oC hs (zrE (f3.step hs) a6 a8) ?_)))));rintro d7 c0 hs _ ⟨E,G,rfl,d⟩;obtain ⟨c,a,b⟩:=sQ3 c0 c a b;refine dT 2 (cb 0 ?_);refine zj 0 (fun Z=>∀ (s:LP) (w:OA) (y:Nat) (B:Env) (n:K),Step [] j n→Gr tPlaced true (j.H.size,35006) n 99 w y s→Box (j.H.size,35002) n p [sl none 0 0] 44→Box (j.H.size,35003) n u [vl w s y] 44→zjD s=some r→Z (ups B [(4,pt p 0),(5,pt u 0)]) n) ?_ fun J1=>?_
 ·intro s w y B n hs H a b g;refine zf (zb (csr (oL b.at 0 1 (oS 0 [vl w s y] a hs fun d9 hs c1 N=>?_))));replace H:=H.step c1 (H.nb a (zk kr));replace a:=N;refine ot (crt ?_);obtain rfl:=sj g;refine rt [.cell 4 44] [.agg #[vl w s y]] ⟨⟨p,0,[vl w s y],rfl,rfl,kr,kr,(a.at.part 0 1).2⟩,trivial⟩ ?_;exact ⟨hs,_,_,rfl,H.sl⟩
 refine bE g fun c3 a9 a0=>zp (F:=zbX p0 p1 q) (J:=fun h E' m=>∃ (O:OA) (P:Nat),(∃ B,E'=ups B [(1,iv p1),(2,pt Y 0),(4,pt p 0),(5,pt u 0),(11,vl E q G),(12,iv (q.length:Int)),(13,iv h.1)])∧Step [] j m∧I64 h.1∧Gr tPlaced true (j.H.size,35006) m 99 O P h.2∧Sl tPoint m E G q∧Box (j.H.size,35001) m Y [vl M p0 c2] 44∧Box (j.H.size,35002) m p [sl none 0 0] 44∧Box (j.H.size,35003) m u [vl O h.2 P] 44) (s0:=(0,[])) (x:=c3) kr a9 ⟨_,_,⟨_,eY⟩,hs,(iK 0),Gr.nil,d,c,a,b⟩ ?_;rintro h _ e1 ⟨O,P,⟨B,rfl⟩,hs,e2,f,d,c,a,b⟩ a2 g a3;refine cT 1 (cs (cc _ g (fun hc g=>?_) fun hc g=>?_))
 ·refine ckt ?_;refine zn (fun Z=>∀ (I:LP) (Q:OA) (R:Nat) (B:Env) (k:K),Step [] j k→Gr tPlaced true (j.H.size,35006) k 99 Q R I→Sl tPoint k E G q→Box (j.H.size,35001) k Y [vl M p0 c2] 44→Box (j.H.size,35002) k p [sl none 0 0] 44→Box (j.H.size,35003) k u [vl Q I R] 44→zdK h I=some a2→cwp Tryz.prog 33 (sub (zA Tryz.f35) [1,1,1,0,0,1,0,1,1]) Z (ups B [(1,iv p1),(2,pt Y 0),(4,pt p 0),(5,pt u 0),(11,vl E q G),(12,iv (q.length:Int)),(13,iv h.1)]) k) ?_ fun J2=>?_
  ·intro I Q R B k hs c5 d c a b g;refine cr (od 2 (oe ?_));exact ze (sj g).symm ⟨_,_,⟨_,eY⟩,hs,(zo _),c5,d,c,a,b⟩
  refine cs (cb 1 (csr (bE g fun S b0 g=>oJ d b0 fun f1 f2 T U a4=>oL a4.at 0 2 (oA 73 35004 [iv 0,iv 0] hs fun f4 e3 hs c7 e=>?_))));obtain ⟨d,f,c,a,b⟩:=sQ5 c7 d f c a b;refine oS 0 [iv S.1,iv S.2] e hs fun e4 hs C V=>?_;replace d:=d.step C;replace f:=f.step C (f.nb e (zk kr));replace c:=c.step C (nm1 (c.ne e (zk kr)));replace a:=a.step C (nm1 (a.ne e (zk kr)));replace b:=b.step C (nm1 (b.ne e (zk kr)));replace e:=V;refine otx (oL c.at 0 1 (oL e.at 0 2 (od 1 (bE g fun c8 b1 g=>oC hs (zp8 (f3.step hs) T U a6 b1) ?_))));rintro e5 c9 hs _ ⟨rfl,b2⟩;obtain ⟨d,f,c,a,b,e⟩:=sQ6 c9 d f c a b e;refine od 1 (otx (dT 2 (cc _ g (fun hc g=>?_) fun hc g=>?_)))
  ·refine cr (od 1 (oV b.at 0 (oL e.at 0 2 (od 2 (oT (t:=tPlaced) 99 35005 true [(S,c8)] hs ⟨_,_,rfl,⟨_,_,rfl,⟨_,_,rfl,⟨rfl,T⟩,⟨rfl,U⟩⟩,⟨rfl,b2⟩⟩,rfl⟩ fun f5 e6 hs d0 d2=>?_)))));obtain ⟨d,f,c,a,b⟩:=sQ5 d0 d f c a b;refine bE g fun a7 b3 g=>?_;have f26q:=f.sl;refine oP 42 f d2.sl hs.1 b3 fun d3 d4 e7 A L hw=>?_;clear hw;replace hs:=hs.trG (f.own (fy _)) A;replace d:=d.step A;replace f26q:=f26q.step A;replace c:=c.step A (f.bn c (zk kr));replace a:=a.step A (f.bn a (zk kr));replace b:=b.step A (f.bn b (zk kr));refine od 1 (oS 0 [vl d3 a7 d4] b hs fun e8 hs D X=>?_);replace d:=d.step D;replace f26q:=f26q.step D;replace L:=L.step D (L.nb b (zk kr));replace c:=c.step D (nm1 (c.ne b (zk kr)));replace a:=a.step D (nm1 (a.ne b (zk kr)));replace b:=X;refine oe (zc (zb ?_));exact zm eY (J2 a7 _ _ _ _ hs L d c a b g)
  refine ck (zc (zb ?_));exact zm eY (J2 h.2 _ _ _ _ hs f d c a b g)
 refine cx 0 (zg ?_);obtain rfl:=a3 _ (sj g).symm;replace g:=a0;refine zh ?_;exact zq eY (J1 h.2 _ _ _ _ hs f a b g)
theorem zjQ {d:K} {p0:Int×Int} {p1:Int×Int} (g:I64 p0.1) (h:I64 p0.2) (j:I64 p1.1) (k:I64 p1.2) {r:Bool} (a:zeQ p0 p1=some r) :
 Fn Tryz.prog 36 #[.agg #[iv p0.1,iv p0.2],.agg #[iv p1.1,iv p1.2]] d (fun v e=>Step [] d e∧v=.bool r):=by
 refine fnc 15 [] Tryz.func36 Tryz.ntmps36 fun hs=>csr (oB 73 36001 [iv p0.1,iv p0.2] hs fun p m hs q b=>oB 73 36002 [iv p1.1,iv p1.2] hs fun s n hs f c=>?_);replace b:=b.step0 f;refine dT 1 (cs (cO 1 (oV b.at 0 (od 1 (oV c.at 0 (dT 1 (cc _ a (fun hc a=>?_) fun hc a=>?_)))))))
 ·refine cT 1 (crt (zd ?_));obtain rfl:=sj a;exact rT 4 ff ⟨hs,rfl⟩
 refine ckt (cs (cO 1 (oV b.at 1 (od 1 (oV c.at 1 (dT 1 (cc _ a (fun hc a=>?_) fun hc a=>?_)))))))
 ·refine cT 1 (crt (zd ?_));obtain rfl:=sj a;exact rT 4 ff ⟨hs,rfl⟩
 refine ckt (cT 1 (crt ?_));obtain rfl:=sj a;exact rT 4 tt ⟨hs,rfl⟩
theorem ziZ {e:K} {p0:List (Int×Int)} {m n:OA} {c2 p:Nat} {p1:List (Int×Int)} (E:Sl tPoint e m c2 p0) (f6:Sl tPoint e n p p1) {r:Bool} (a:zfl p0 p1=some r) :
 Fn Tryz.prog 12 #[vl m p0 c2,vl n p1 p] e (fun v f=>Step [] e f∧v=.bool r):=by
 refine fnc 27 [] Tryz.func12 Tryz.ntmps12 fun hs=>cT 1 (cs (cT 5 (cc _ a (fun hc a=>?_) fun hc a=>?_)))
 ·refine cT 1 (crt (zd ?_));obtain rfl:=sj a;exact rT 4 ff ⟨hs,rfl⟩
 refine ckt (cs (cT 1 (cb 0 ?_)));refine zj 0 (fun Z=>∀ (g:Env) (h:K),Step [] e h→zi0=some r→Z (g) h) ?_ fun G=>?_
 ·intro g h hs a;refine zf (zb (cT 1 (crt ?_)));obtain rfl:=sj a;exact rT 4 tt ⟨hs,rfl⟩
 refine bE a fun C q c=>zp (F:=zev p0 p1) (J:=fun b H f=>(∃ g,H=ups g [(0,vl m p0 c2),(1,vl n p1 p),(5,iv b)])∧Step [] e f∧I64 b) (s0:=0) (x:=C) kr q ⟨⟨_,eY⟩,hs,(iK 0)⟩ ?_;rintro b _ I ⟨⟨g,rfl⟩,hs,M⟩ D a d;refine cs (cT 4 (cc _ a (fun hc a=>?_) fun hc a=>?_))
 ·refine ckt (cs (cb 1 (cs (cd 8 (dd 2 (bE a fun N s a=>dI (E.step hs) s fun O P t u j=>dL j.at 0 2 (dd 2 (bE a fun Q w a=>dI (f6.step hs) w fun R S y A k=>dL k.at 0 2 (de (bE a fun T B a=>oC hs (zjQ t u y A B) ?_))))))))));rintro L U hs _ rfl;refine dT 1 (cc _ a (fun hc a=>?_) fun hc a=>?_)
  ·refine cT 1 (crt (zl (zd ?_)));obtain rfl:=d _ (sj a).symm;replace a:=c;refine zx (zl (zd ?_));obtain rfl:=sj a;exact rT 4 ff ⟨hs,rfl⟩
  refine ck (zc (zb (cr (od 3 (oe ?_)))));exact ze (sj a).symm ⟨⟨_,eY⟩,hs,(zo _)⟩
 refine cx 0 (zg ?_);obtain rfl:=d _ (sj a).symm;replace a:=c;refine zh ?_;exact zq rfl (G   _ _ hs  a)
theorem zpY {e:K} {p0:(Int×Int)×Int} {p1:(Int×Int)×Int} (f:I64 p0.1.1) (g:I64 p0.1.2) (s:I64 p0.2) (h:I64 p1.1.1) (j:I64 p1.1.2) (t:I64 p1.2) {r:Bool} (c:zlG p0 p1=some r) :
 Fn Tryz.prog 77 #[.agg #[iv p0.1.1,iv p0.1.2,iv p0.2],.agg #[iv p1.1.1,iv p1.1.2,iv p1.2]] e (fun v k=>Step [] e k∧v=.bool r):=by
 refine fnc 16 [] Tryz.func77 Tryz.ntmps77 fun hs=>csr (oB 99 77001 [iv p0.1.1,iv p0.1.2,iv p0.2] hs fun y u hs A a=>oB 99 77002 [iv p1.1.1,iv p1.1.2,iv p1.2] hs fun w p hs m b=>?_);replace a:=a.step0 m;refine dT 1 (cs (cO 1 (oL a.at 0 2 (od 1 (oL b.at 0 2 (bE c fun x d c=>oC hs (zjQ f g h j d) ?_))))));rintro q n hs _ rfl;obtain ⟨a,b⟩:=sQ2 n a b;refine dT 1 (cc _ c (fun hc c=>?_) fun hc c=>?_)
 ·refine cT 1 (crt (zd ?_));obtain rfl:=sj c;exact rT 4 ff ⟨hs,rfl⟩
 refine ckt (cs (cO 1 (oV a.at 2 (od 1 (oV b.at 2 (dT 1 (cc _ c (fun hc c=>?_) fun hc c=>?_)))))))
 ·refine cT 1 (crt (zd ?_));obtain rfl:=sj c;exact rT 4 ff ⟨hs,rfl⟩
 refine ckt (cT 1 (crt ?_));obtain rfl:=sj c;exact rT 4 tt ⟨hs,rfl⟩
theorem zpg {e:K} {p0:LP} {m n:OA} {c2 p:Nat} {p1:LP} (H:Sl tPlaced e m c2 p0) (f6:Sl tPlaced e n p p1) {r:Bool} (a:zir p0 p1=some r) :
 Fn Tryz.prog 38 #[vl m p0 c2,vl n p1 p] e (fun v f=>Step [] e f∧v=.bool r):=by
 refine fnc 27 [] Tryz.func38 Tryz.ntmps38 fun hs=>cT 1 (cs (cT 5 (cc _ a (fun hc a=>?_) fun hc a=>?_)))
 ·refine cT 1 (crt (zd ?_));obtain rfl:=sj a;exact rT 4 ff ⟨hs,rfl⟩
 refine ckt (cs (cT 1 (cb 0 ?_)));refine zj 0 (fun Z=>∀ (g:Env) (h:K),Step [] e h→ziq=some r→Z (g) h) ?_ fun I=>?_
 ·intro g h hs a;refine zf (zb (cT 1 (crt ?_)));obtain rfl:=sj a;exact rT 4 tt ⟨hs,rfl⟩
 refine bE a fun E q c=>zp (F:=zdD p0 p1) (J:=fun b L f=>(∃ g,L=ups g [(0,vl m p0 c2),(1,vl n p1 p),(5,iv b)])∧Step [] e f∧I64 b) (s0:=0) (x:=E) kr q ⟨⟨_,eY⟩,hs,(iK 0)⟩ ?_;rintro b _ M ⟨⟨g,rfl⟩,hs,O⟩ G a d;refine cs (cT 4 (cc _ a (fun hc a=>?_) fun hc a=>?_))
 ·refine ckt (cs (cb 1 (cs (cd 8 (dd 2 (bE a fun P s a=>dI (H.step hs) s fun Q R t u w j=>dL j.at 0 3 (dd 2 (bE a fun S y a=>dI (f6.step hs) y fun T U A B C k=>dL k.at 0 3 (de (bE a fun V D a=>oC hs (zpY t u w A B C D) ?_))))))))));rintro N X hs _ rfl;refine dT 1 (cc _ a (fun hc a=>?_) fun hc a=>?_)
  ·refine cT 1 (crt (zl (zd ?_)));obtain rfl:=d _ (sj a).symm;replace a:=c;refine zx (zl (zd ?_));obtain rfl:=sj a;exact rT 4 ff ⟨hs,rfl⟩
  refine ck (zc (zb (cr (od 3 (oe ?_)))));exact ze (sj a).symm ⟨⟨_,eY⟩,hs,(zo _)⟩
 refine cx 0 (zg ?_);obtain rfl:=d _ (sj a).symm;replace a:=c;refine zh ?_;exact zq rfl (I   _ _ hs  a)
theorem zkH {c:K} {p0:LP} {e f:OA} {c2 g:Nat} {p1:LP} (m:Sl tPlaced c e c2 p0) (f6:Sl tPlaced c f g p1) {r:Bool} (a:zdd p0 p1=some r) :
 Fn Tryz.prog 14 #[.agg #[vl e p0 c2],.agg #[vl f p1 g]] c (fun v j=>Step [] c j∧v=.bool r):=by
 refine fnc 11 [] Tryz.func14 Tryz.ntmps14 fun hs=>csr (oB 44 14001 [vl e p0 c2] hs fun w q hs x b=>oB 44 14002 [vl f p1 g] hs fun s n hs k d=>?_);replace b:=b.step0 k;refine dT 1 (cs (cO 1 (oV b.at 0 (od 1 (oV d.at 0 (bE a fun t h a=>oC hs (zpg (m.step hs) (f6.step hs) h) ?_))))));rintro p u hs _ rfl;refine dT 1 (cc _ a (fun hc a=>?_) fun hc a=>?_)
 ·refine cT 1 (crt (zd ?_));obtain rfl:=sj a;exact rT 4 ff ⟨hs,rfl⟩
 refine ckt (cT 1 (crt ?_));obtain rfl:=sj a;exact rT 4 tt ⟨hs,rfl⟩
theorem zrz {d:K} {p0:BS×Int} {p1:BS×Int} (g:p0.1.length≤9223372036854775807) (h:I64 p0.2) (j:p1.1.length≤9223372036854775807) (k:I64 p1.2) {r:Bool} (a:znr p0 p1=some r) :
 Fn Tryz.prog 119 #[.agg #[zw p0.1,iv p0.2],.agg #[zw p1.1,iv p1.2]] d (fun v e=>Step [] d e∧v=.bool r):=by
 refine fnc 15 [] Tryz.func119 Tryz.ntmps119 fun hs=>csr (oB 169 119001 [zw p0.1,iv p0.2] hs fun p m hs q b=>oB 169 119002 [zw p1.1,iv p1.2] hs fun s n hs f c=>?_);replace b:=b.step0 f;refine dT 1 (cs (cO 1 (oV b.at 0 (od 1 (oV c.at 0 (oq 9 (.bool (!decide (p0.1=p1.1))) (fun _=>zsp kr) (ot (cc _ a (fun hc a=>?_) fun hc a=>?_))))))))
 ·refine cT 1 (crt (zd ?_));obtain rfl:=sj a;exact rT 4 ff ⟨hs,rfl⟩
 refine ckt (cs (cO 1 (oV b.at 1 (od 1 (oV c.at 1 (dT 1 (cc _ a (fun hc a=>?_) fun hc a=>?_)))))))
 ·refine cT 1 (crt (zd ?_));obtain rfl:=sj a;exact rT 4 ff ⟨hs,rfl⟩
 refine ckt (cT 1 (crt ?_));obtain rfl:=sj a;exact rT 4 tt ⟨hs,rfl⟩
theorem zqD {e:K} {p0:LG} {m n:OA} {c2 p:Nat} {p1:LG} (E:Sl tGlue e m c2 p0) (f6:Sl tGlue e n p p1) {r:Bool} (a:zkf p0 p1=some r) :
 Fn Tryz.prog 75 #[vl m p0 c2,vl n p1 p] e (fun v f=>Step [] e f∧v=.bool r):=by
 refine fnc 27 [] Tryz.func75 Tryz.ntmps75 fun hs=>cT 1 (cs (cT 5 (cc _ a (fun hc a=>?_) fun hc a=>?_)))
 ·refine cT 1 (crt (zd ?_));obtain rfl:=sj a;exact rT 4 ff ⟨hs,rfl⟩
 refine ckt (cs (cT 1 (cb 0 ?_)));refine zj 0 (fun Z=>∀ (g:Env) (h:K),Step [] e h→zjR=some r→Z (g) h) ?_ fun G=>?_
 ·intro g h hs a;refine zf (zb (cT 1 (crt ?_)));obtain rfl:=sj a;exact rT 4 tt ⟨hs,rfl⟩
 refine bE a fun C q c=>zp (F:=zfa p0 p1) (J:=fun b H f=>(∃ g,H=ups g [(0,vl m p0 c2),(1,vl n p1 p),(5,iv b)])∧Step [] e f∧I64 b) (s0:=0) (x:=C) kr q ⟨⟨_,eY⟩,hs,(iK 0)⟩ ?_;rintro b _ I ⟨⟨g,rfl⟩,hs,M⟩ D a d;refine cs (cT 4 (cc _ a (fun hc a=>?_) fun hc a=>?_))
 ·refine ckt (cs (cb 1 (cs (cd 8 (dd 2 (bE a fun N s a=>dI (E.step hs) s fun O P t u j=>dL j.at 0 2 (dd 2 (bE a fun Q w a=>dI (f6.step hs) w fun R S y A k=>dL k.at 0 2 (de (bE a fun T B a=>oC hs (zrz t u y A B) ?_))))))))));rintro L U hs _ rfl;refine dT 1 (cc _ a (fun hc a=>?_) fun hc a=>?_)
  ·refine cT 1 (crt (zl (zd ?_)));obtain rfl:=d _ (sj a).symm;replace a:=c;refine zx (zl (zd ?_));obtain rfl:=sj a;exact rT 4 ff ⟨hs,rfl⟩
  refine ck (zc (zb (cr (od 3 (oe ?_)))));exact ze (sj a).symm ⟨⟨_,eY⟩,hs,(zo _)⟩
 refine cx 0 (zg ?_);obtain rfl:=d _ (sj a).symm;replace a:=c;refine zh ?_;exact zq rfl (G   _ _ hs  a)
theorem zp0 {b:K} {p0:LI} {k m:OA} {c2 n:Nat} {p1:LI} (t:Sl tI64 b k c2 p0) (f6:Sl tI64 b m n p1) {r:Bool} (a:zjn p0 p1=some r) :
 Fn Tryz.prog 150 #[vl k p0 c2,vl m p1 n] b (fun v c=>b=c∧v=.bool r):=by
 refine fnc 26 [] Tryz.func150 Tryz.ntmps150 fun hs=>cT 1 (cs (cT 5 (cc _ a (fun hc a=>?_) fun hc a=>?_)))
 ·refine cT 1 (crt (zd ?_));obtain rfl:=sj a;exact rT 4 ff ⟨rfl,rfl⟩
 refine ckt (cs (cT 1 (cb 0 ?_)));refine zj 0 (fun Z=>∀ (d:Env),zi1=some r→Z (d) b) ?_ fun u=>?_
 ·intro d a;refine zf (zb (cT 1 (crt ?_)));obtain rfl:=sj a;exact rT 4 tt ⟨rfl,rfl⟩
 refine bE a fun w s e=>zp (F:=zew p0 p1) (J:=fun f y c=>(∃ d,y=ups d [(0,vl k p0 c2),(1,vl m p1 n),(5,iv f)])∧b=c∧I64 f) (s0:=0) (x:=w) kr s ⟨⟨_,eY⟩,rfl,(iK 0)⟩ ?_;rintro f _ _ ⟨⟨d,rfl⟩,rfl,D⟩ A a g;refine cs (cT 4 (cc _ a (fun hc a=>?_) fun hc a=>?_))
 ·refine ckt (cs (cb 1 (cs (cd 8 (dd 2 (bE a fun E p a=>dI t p fun G H B h=>dV h.at 0 (dd 2 (bE a fun I q a=>dI f6 q fun L M C j=>dV j.at 0 (de (dT 1 (cc _ a (fun hc a=>?_) fun hc a=>?_)))))))))))
  ·refine cT 1 (crt (zl (zd ?_)));obtain rfl:=g _ (sj a).symm;replace a:=e;refine zx (zl (zd ?_));obtain rfl:=sj a;exact rT 4 ff ⟨rfl,rfl⟩
  refine ck (zc (zb (cr (od 3 (oe ?_)))));exact ze (sj a).symm ⟨⟨_,eY⟩,rfl,(zo _)⟩
 refine cx 0 (zg ?_);obtain rfl:=g _ (sj a).symm;replace a:=e;refine zh ?_;exact zq rfl (u   _  a)
theorem zry {d:K} {p0:BS×LI} {a2 e:OA} {f g:Nat} {p1:BS×LI} (s:p0.1.length≤9223372036854775807) (m:Sl tI64 d a2 f p0.2) (t:p1.1.length≤9223372036854775807) (n:Sl tI64 d e g p1.2) {r:Bool} (a:znq p0 p1=some r) :
 Fn Tryz.prog 120 #[.agg #[zw p0.1,vl a2 p0.2 f],.agg #[zw p1.1,vl e p1.2 g]] d (fun v j=>Step [] d j∧v=.bool r):=by
 refine fnc 16 [] Tryz.func120 Tryz.ntmps120 fun hs=>csr (oB 161 120001 [zw p0.1,vl a2 p0.2 f] hs fun y p hs u b=>oB 161 120002 [zw p1.1,vl e p1.2 g] hs fun w q hs k c=>?_);replace b:=b.step0 k;refine dT 1 (cs (cO 1 (oV b.at 0 (od 1 (oV c.at 0 (oq 9 (.bool (!decide (p0.1=p1.1))) (fun _=>zsp kr) (ot (cc _ a (fun hc a=>?_) fun hc a=>?_))))))))
 ·refine cT 1 (crt (zd ?_));obtain rfl:=sj a;exact rT 4 ff ⟨hs,rfl⟩
 refine ckt (cs (cO 1 (oV b.at 1 (od 1 (oV c.at 1 (bE a fun x h a=>ocl 14 (zp0 (m.step hs) (n.step hs) h) ?_))))));rintro _ _ ⟨rfl,rfl⟩;refine dT 1 (cc _ a (fun hc a=>?_) fun hc a=>?_)
 ·refine cT 1 (crt (zd ?_));obtain rfl:=sj a;exact rT 4 ff ⟨hs,rfl⟩
 refine ckt (cT 1 (crt ?_));obtain rfl:=sj a;exact rT 4 tt ⟨hs,rfl⟩
theorem zqC {e:K} {p0:LT} {m n:OA} {c2 p:Nat} {p1:LT} (E:Sl tTile e m c2 p0) (f6:Sl tTile e n p p1) {r:Bool} (a:zke p0 p1=some r) :
 Fn Tryz.prog 76 #[vl m p0 c2,vl n p1 p] e (fun v f=>Step [] e f∧v=.bool r):=by
 refine fnc 27 [] Tryz.func76 Tryz.ntmps76 fun hs=>cT 1 (cs (cT 5 (cc _ a (fun hc a=>?_) fun hc a=>?_)))
 ·refine cT 1 (crt (zd ?_));obtain rfl:=sj a;exact rT 4 ff ⟨hs,rfl⟩
 refine ckt (cs (cT 1 (cb 0 ?_)));refine zj 0 (fun Z=>∀ (g:Env) (h:K),Step [] e h→zjP=some r→Z (g) h) ?_ fun G=>?_
 ·intro g h hs a;refine zf (zb (cT 1 (crt ?_)));obtain rfl:=sj a;exact rT 4 tt ⟨hs,rfl⟩
 refine bE a fun A q c=>zp (F:=ze9 p0 p1) (J:=fun b H f=>(∃ g,H=ups g [(0,vl m p0 c2),(1,vl n p1 p),(5,iv b)])∧Step [] e f∧I64 b) (s0:=0) (x:=A) kr q ⟨⟨_,eY⟩,hs,(iK 0)⟩ ?_;rintro b _ I ⟨⟨g,rfl⟩,hs,M⟩ D a d;refine cs (cT 4 (cc _ a (fun hc a=>?_) fun hc a=>?_))
 ·refine ckt (cs (cb 1 (cs (cd 8 (dd 2 (bE a fun N s a=>dI (E.step hs) s fun O P t Q R B j=>dL j.at 0 2 (dd 2 (bE a fun S u a=>dI (f6.step hs) u fun T U w V X C k=>dL k.at 0 2 (de (bE a fun Y y a=>oC hs (zry t B w C y) ?_))))))))));rintro L a0 hs _ rfl;refine dT 1 (cc _ a (fun hc a=>?_) fun hc a=>?_)
  ·refine cT 1 (crt (zl (zd ?_)));obtain rfl:=d _ (sj a).symm;replace a:=c;refine zx (zl (zd ?_));obtain rfl:=sj a;exact rT 4 ff ⟨hs,rfl⟩
  refine ck (zc (zb (cr (od 3 (oe ?_)))));exact ze (sj a).symm ⟨⟨_,eY⟩,hs,(zo _)⟩
 refine cx 0 (zg ?_);obtain rfl:=d _ (sj a).symm;replace a:=c;refine zh ?_;exact zq rfl (G   _ _ hs  a)
theorem zpf {d:K} {p0:LG×LT} {g h j e:OA} {c2 k m f:Nat} {p1:LG×LT} (w:Sl tGlue d g c2 p0.1) (f6:Sl tTile d h k p0.2) (x:Sl tGlue d j m p1.1) (q:Sl tTile d e f p1.2) {r:Bool} (b:zkG p0 p1=some r) :
 Fn Tryz.prog 37 #[.agg #[vl g p0.1 c2,vl h p0.2 k],.agg #[vl j p1.1 m,vl e p1.2 f]] d (fun v s=>Step [] d s∧v=.bool r):=by
 refine fnc 17 [] Tryz.func37 Tryz.ntmps37 fun hs=>csr (oB 41 37001 [vl g p0.1 c2,vl h p0.2 k] hs fun D y hs E a=>oB 41 37002 [vl j p1.1 m,vl e p1.2 f] hs fun F A hs t c=>?_);replace a:=a.step0 t;refine dT 1 (cs (cO 1 (oV a.at 0 (od 1 (oV c.at 0 (bE b fun G n b=>oC hs (zqD (w.step hs) (x.step hs) n) ?_))))));rintro B u hs _ rfl;obtain ⟨a,c⟩:=sQ2 u a c;refine dT 1 (cc _ b (fun hc b=>?_) fun hc b=>?_)
 ·refine cT 1 (crt (zd ?_));obtain rfl:=sj b;exact rT 4 ff ⟨hs,rfl⟩
 refine ckt (cs (cO 1 (oV a.at 1 (od 1 (oV c.at 1 (bE b fun H p b=>oC hs (zqC (f6.step hs) (q.step hs) p) ?_))))));rintro C I hs _ rfl;refine dT 1 (cc _ b (fun hc b=>?_) fun hc b=>?_)
 ·refine cT 1 (crt (zd ?_));obtain rfl:=sj b;exact rT 4 ff ⟨hs,rfl⟩
 refine ckt (cT 1 (crt ?_));obtain rfl:=sj b;exact rT 4 tt ⟨hs,rfl⟩
theorem zpX {d:K} {p0:TS×(LP)×Int} {m n p e f g:OA} {c2 q s h j k:Nat} {p1:TS×(LP)×Int} (E:Sl tGlue d m c2 p0.1.1) (f6:Sl tTile d n q p0.1.2) (F:Sl tPlaced d p s p0.2.1) (G:I64 p0.2.2) (w:Sl tGlue d e h p1.1.1) (x:Sl tTile d f j p1.1.2) (y:Sl tPlaced d g k p1.2.1) (H:I64 p1.2.2) {r:Bool} (c:zjm p0 p1=some r) :
 Fn Tryz.prog 13 #[.agg #[vl m p0.1.1 c2,vl n p0.1.2 q,vl p p0.2.1 s,iv p0.2.2],.agg #[vl e p1.1.1 h,vl f p1.1.2 j,vl g p1.2.1 k,iv p1.2.2]] d (fun v A=>Step [] d A∧v=.bool r):=by
 refine fnc 22 [] Tryz.func13 Tryz.ntmps13 fun hs=>csr (oB 46 13001 [vl m p0.1.1 c2,vl n p0.1.2 q,vl p p0.2.1 s,iv p0.2.2] hs fun N I hs O a=>oB 46 13002 [vl e p1.1.1 h,vl f p1.1.2 j,vl g p1.2.1 k,iv p1.2.2] hs fun P J hs B b=>?_);replace a:=a.step0 B;refine dT 1 (cs (cO 1 (oL a.at 0 2 (od 1 (oL b.at 0 2 (bE c fun Q t c=>oC hs (zpf (E.step hs) (f6.step hs) (w.step hs) (x.step hs) t) ?_))))));rintro L C hs _ rfl;obtain ⟨a,b⟩:=sQ2 C a b;refine dT 1 (cc _ c (fun hc c=>?_) fun hc c=>?_)
 ·refine cT 1 (crt (zd ?_));obtain rfl:=sj c;exact rT 4 ff ⟨hs,rfl⟩
 refine ckt (cs (cO 1 (oL a.at 2 1 (od 1 (oL b.at 2 1 (bE c fun R u c=>oC hs (zkH (F.step hs) (y.step hs) u) ?_))))));rintro M D hs _ rfl;obtain ⟨a,b⟩:=sQ2 D a b;refine dT 1 (cc _ c (fun hc c=>?_) fun hc c=>?_)
 ·refine cT 1 (crt (zd ?_));obtain rfl:=sj c;exact rT 4 ff ⟨hs,rfl⟩
 refine ckt (cs (cO 1 (oV a.at 3 (od 1 (oV b.at 3 (dT 1 (cc _ c (fun hc c=>?_) fun hc c=>?_)))))))
 ·refine cT 1 (crt (zd ?_));obtain rfl:=sj c;exact rT 4 ff ⟨hs,rfl⟩
 refine ckt (cT 1 (crt ?_));obtain rfl:=sj c;exact rT 4 tt ⟨hs,rfl⟩
theorem zpZ {e:K} {p0:Int×(Int×Int)×Int} {p1:Int×(Int×Int)×Int} (t:I64 p0.1) (f:I64 p0.2.1.1) (g:I64 p0.2.1.2) (u:I64 p0.2.2) (w:I64 p1.1) (h:I64 p1.2.1.1) (j:I64 p1.2.1.2) (x:I64 p1.2.2) {r:Bool} (a:zlH p0 p1=some r) :
 Fn Tryz.prog 39 #[.agg #[iv p0.1,iv p0.2.1.1,iv p0.2.1.2,iv p0.2.2],.agg #[iv p1.1,iv p1.2.1.1,iv p1.2.1.2,iv p1.2.2]] e (fun v k=>Step [] e k∧v=.bool r):=by
 refine fnc 21 [] Tryz.func39 Tryz.ntmps39 fun hs=>csr (oB 75 39001 [iv p0.1,iv p0.2.1.1,iv p0.2.1.2,iv p0.2.2] hs fun C p hs y b=>oB 75 39002 [iv p1.1,iv p1.2.1.1,iv p1.2.1.2,iv p1.2.2] hs fun A q hs m c=>?_);replace b:=b.step0 m;refine dT 1 (cs (cO 1 (oV b.at 0 (od 1 (oV c.at 0 (dT 1 (cc _ a (fun hc a=>?_) fun hc a=>?_)))))))
 ·refine cT 1 (crt (zd ?_));obtain rfl:=sj a;exact rT 4 ff ⟨hs,rfl⟩
 refine ckt (cs (cO 1 (oL b.at 1 2 (od 1 (oL c.at 1 2 (bE a fun B d a=>oC hs (zjQ f g h j d) ?_))))));rintro s n hs _ rfl;obtain ⟨b,c⟩:=sQ2 n b c;refine dT 1 (cc _ a (fun hc a=>?_) fun hc a=>?_)
 ·refine cT 1 (crt (zd ?_));obtain rfl:=sj a;exact rT 4 ff ⟨hs,rfl⟩
 refine ckt (cs (cO 1 (oV b.at 3 (od 1 (oV c.at 3 (dT 1 (cc _ a (fun hc a=>?_) fun hc a=>?_)))))))
 ·refine cT 1 (crt (zd ?_));obtain rfl:=sj a;exact rT 4 ff ⟨hs,rfl⟩
 refine ckt (cT 1 (crt ?_));obtain rfl:=sj a;exact rT 4 tt ⟨hs,rfl⟩
theorem zph {e:K} {p0:List (Int×(Int×Int)×Int)} {m n:OA} {c2 p:Nat} {p1:List (Int×(Int×Int)×Int)} (L:Sl tMishap e m c2 p0) (f6:Sl tMishap e n p p1) {r:Bool} (a:zit p0 p1=some r) :
 Fn Tryz.prog 15 #[vl m p0 c2,vl n p1 p] e (fun v f=>Step [] e f∧v=.bool r):=by
 refine fnc 27 [] Tryz.func15 Tryz.ntmps15 fun hs=>cT 1 (cs (cT 5 (cc _ a (fun hc a=>?_) fun hc a=>?_)))
 ·refine cT 1 (crt (zd ?_));obtain rfl:=sj a;exact rT 4 ff ⟨hs,rfl⟩
 refine ckt (cs (cT 1 (cb 0 ?_)));refine zj 0 (fun Z=>∀ (g:Env) (h:K),Step [] e h→zis=some r→Z (g) h) ?_ fun M=>?_
 ·intro g h hs a;refine zf (zb (cT 1 (crt ?_)));obtain rfl:=sj a;exact rT 4 tt ⟨hs,rfl⟩
 refine bE a fun H q c=>zp (F:=zdE p0 p1) (J:=fun b N f=>(∃ g,N=ups g [(0,vl m p0 c2),(1,vl n p1 p),(5,iv b)])∧Step [] e f∧I64 b) (s0:=0) (x:=H) kr q ⟨⟨_,eY⟩,hs,(iK 0)⟩ ?_;rintro b _ O ⟨⟨g,rfl⟩,hs,Q⟩ I a d;refine cs (cT 4 (cc _ a (fun hc a=>?_) fun hc a=>?_))
 ·refine ckt (cs (cb 1 (cs (cd 8 (dd 2 (bE a fun R s a=>dI (L.step hs) s fun S T t u w y j=>dL j.at 0 4 (dd 2 (bE a fun U A a=>dI (f6.step hs) A fun V X B C D E k=>dL k.at 0 4 (de (bE a fun Y G a=>oC hs (zpZ t u w y B C D E G) ?_))))))))));rintro P a0 hs _ rfl;refine dT 1 (cc _ a (fun hc a=>?_) fun hc a=>?_)
  ·refine cT 1 (crt (zl (zd ?_)));obtain rfl:=d _ (sj a).symm;replace a:=c;refine zx (zl (zd ?_));obtain rfl:=sj a;exact rT 4 ff ⟨hs,rfl⟩
  refine ck (zc (zb (cr (od 3 (oe ?_)))));exact ze (sj a).symm ⟨⟨_,eY⟩,hs,(zo _)⟩
 refine cx 0 (zg ?_);obtain rfl:=d _ (sj a).symm;replace a:=c;refine zh ?_;exact zq rfl (M   _ _ hs  a)
theorem zoc {k:K} {p0:LP} {d:OA} {c2:Nat} {j:Tag} {p1:Int} (f3:Gr tPlaced false j k 99 d c2 p0) (d0:j.1<k.H.size) (d2:I64 p1) {r:Int×LP} (c:zgA p0 p1=some r) :
 Fn Tryz.prog 41 #[vl d p0 c2,iv p1] k (fun v n=>Step (blk d c2) k n∧v=iv r.1∧I64 r.1∧Gr tPlaced false j n 99 d c2 r.2):=by
 refine fnc 36 (blk d c2) Tryz.func41 Tryz.ntmps41 fun hs=>?_;have a9:∀ g∈blk d c2,g∈(blk d c2)∨k.H.size≤g:=fun g hg=>.inl (by simp [hg]);refine cT 1 (cs (cT 1 (cb 0 ?_)));refine zj 0 (fun Z=>∀ (y:LP) (p:Int) (U:Env) (m:K) (hs:Step (blk d c2) k m) (b5:Gr tPlaced false j m 99 d c2 y) (V:(∀ g∈blk d c2,g∈(blk d c2)∨k.H.size≤g)) (X:I64 p),zgQ y p=some r→Z (ups U [(0,vl d y c2),(1,iv p)]) m) ?_ fun J1=>?_
 ·intro y p U m hs b5 V X c;refine zf (zb (cT 2 (crt ?_)));obtain rfl:=sj c;exact rT 4 (iv p) ⟨hs,rfl,X,b5⟩
 refine bE c fun d3 b9 b0=>zp (F:=zcm) (J:=fun a E' n=>(∃ U,E'=ups U [(0,vl d a.1 c2),(1,iv a.2.1),(5,iv a.2.2)])∧Step (blk d c2) k n∧Gr tPlaced false j n 99 d c2 a.1∧(∀ g∈blk d c2,g∈(blk d c2)∨k.H.size≤g)∧I64 a.2.1∧I64 a.2.2) (s0:=(p0,p1,0)) (x:=d3) kr b9 ⟨⟨_,eY⟩,hs,f3,a9,d2,(iK 0)⟩ ?_;rintro a _ c0 ⟨⟨U,rfl⟩,hs,f,h,Y,e6⟩ d8 c b1;refine cs (cT 4 (cc _ c (fun hc c=>?_) fun hc c=>?_))
 ·refine ckt (cs (cb 1 (cO 3 (bE c fun q a0 c=>?_))));obtain ⟨b6,A,B,C,d9,D,b2⟩:=f.idx a0;obtain ⟨_,_,rfl,⟨_,_,rfl,⟨rfl,e7⟩,⟨rfl,e8⟩⟩,⟨rfl,e9⟩⟩:=b2;replace D:At c0 b6 (0+a.2.2.toNat*3) [iv q.1.1,iv q.1.2,iv q.2]:=D;refine oi 15 42 99 3 a.1.length c2 .i64 a.2.2 (off:=0) A B C (od 2 (bE c fun a2 a3 c=>zdz (T:=2) (t:=tPlaced) (τ:=j) (e:=99) (ix:=a.2.2) (x':=((a.2.1,q.1.2),q.2)) (b:=b6) (δ:=0) (cp:=c2) (l:=a.1) (vs:=[iv a.2.1]) (iv a.2.1) kr kr A f B C kr kr kr kr (fun cs hx=>by obtain ⟨x,s,ho⟩:=hx;obtain rfl:=sj (s.symm.trans a0);obtain ⟨_,_,rfl,⟨_,_,rfl,⟨rfl,f0⟩,⟨rfl,c1⟩⟩,⟨rfl,c3⟩⟩:=ho;exact ⟨_,_,rfl,⟨_,_,rfl,⟨rfl,Y⟩,⟨rfl,c1⟩⟩,⟨rfl,c3⟩⟩) fun c4 d4 u=>?_));replace hs:=hs.trM h d4;replace f:=u;replace f:=zjM a3 f;have Q:=zaf a3;refine zM (eA 5 (v:=iv a.2.2) (eA 1 (v:=iv a.2.1) (za (t:=0) (v:=vl d a2 c2) rfl (by unfold vl;rw [Q];kernel_rfl)))) (otx (od 3 (otx (od 3 (bE c fun w a4 c=>?_)))));obtain ⟨b7,E,G,H,e0,I,b3⟩:=f.idx a4;obtain ⟨_,_,rfl,⟨_,_,rfl,⟨rfl,f1⟩,⟨rfl,f2⟩⟩,⟨rfl,f4⟩⟩:=b3;replace I:At c4 b7 (0+a.2.2.toNat*3) [iv w.1.1,iv w.1.2,iv w.2]:=I;refine oi 23 42 99 3 a2.length c2 .i64 a.2.2 (off:=0) E G H (od 2 (bE c fun a5 a6 c=>zdz (T:=2) (t:=tPlaced) (τ:=j) (e:=99) (ix:=a.2.2) (x':=((w.1.1,w64 (a.2.1+1)),w.2)) (b:=b7) (δ:=1) (cp:=c2) (l:=a2) (vs:=[iv (w64 (a.2.1+1))]) (iv (w64 (a.2.1+1))) kr kr E f G H kr kr kr kr (fun cs hx=>by obtain ⟨x,s,ho⟩:=hx;obtain rfl:=sj (s.symm.trans a4);obtain ⟨_,_,rfl,⟨_,_,rfl,⟨rfl,c5⟩,⟨rfl,f5⟩⟩,⟨rfl,c6⟩⟩:=ho;exact ⟨_,_,rfl,⟨_,_,rfl,⟨rfl,c5⟩,⟨rfl,(zo _)⟩⟩,⟨rfl,c6⟩⟩) fun c7 d5 u=>?_));replace hs:=hs.trM h d5;replace f:=u;replace f:=zjM a6 f;have R:=zaf a6;refine zM (eA 5 (v:=iv a.2.2) (eA 1 (v:=iv (w64 (a.2.1+1))) (za (t:=0) (v:=vl d a5 c2) rfl (by unfold vl;rw [R];kernel_rfl)))) (otx (od 3 (otx (od 3 (bE c fun L a7 c=>?_)))));obtain ⟨b8,M,N,O,e1,P,b4⟩:=f.idx a7;obtain ⟨_,_,rfl,⟨_,_,rfl,⟨rfl,f6⟩,⟨rfl,f7⟩⟩,⟨rfl,f9⟩⟩:=b4;replace P:At c7 b8 (0+a.2.2.toNat*3) [iv L.1.1,iv L.1.2,iv L.2]:=P;refine oi 31 42 99 3 a5.length c2 .i64 a.2.2 (off:=0) M N O (od 1 (bE c fun d6 a8 c=>zdz (T:=2) (t:=tPlaced) (τ:=j) (e:=99) (ix:=a.2.2) (x':=(L.1,w64 ((w64 (a.2.1+1))+1))) (b:=b8) (δ:=2) (cp:=c2) (l:=a5) (vs:=[iv (w64 ((w64 (a.2.1+1))+1))]) (iv (w64 ((w64 (a.2.1+1))+1))) kr kr M f N O kr kr kr kr (fun cs hx=>by obtain ⟨x,s,ho⟩:=hx;obtain rfl:=sj (s.symm.trans a7);obtain ⟨_,_,rfl,⟨_,_,rfl,⟨rfl,c8⟩,⟨rfl,c9⟩⟩,⟨rfl,g0⟩⟩:=ho;exact ⟨_,_,rfl,⟨_,_,rfl,⟨rfl,c8⟩,⟨rfl,c9⟩⟩,⟨rfl,(zo _)⟩⟩) fun g1 d7 u=>?_));replace hs:=hs.trM h d7;replace f:=u;replace f:=zjM a8 f;have S:=zaf a8;refine zM (eA 5 (v:=iv a.2.2) (eA 1 (v:=iv (w64 ((w64 (a.2.1+1))+1))) (za (t:=0) (v:=vl d d6 c2) rfl (by unfold vl;rw [S];kernel_rfl)))) (otr (od 3 (oe (zc (zb (cr (od 3 (oe ?_))))))));exact ze (sj c).symm ⟨⟨_,eY⟩,hs,f,h,(zo _),(zo _)⟩
 refine cx 0 (zg ?_);obtain rfl:=b1 _ (sj c).symm;replace c:=b0;refine zh ?_;exact zq eY (J1 a.1 a.2.1  _ _ hs f h Y c)
theorem zl5 {h:K} {p0:Int} (q:I64 p0) {r:BS} (a:zjl p0=some r) :
 Fn Tryz.prog 121 #[iv p0] h (fun v c=>Step [] h c∧v=zw r∧r.length≤9223372036854775807):=by
 refine fnc 20 [] Tryz.func121 Tryz.ntmps121 fun hs=>cT 1 (cs (cT 2 (cc _ a (fun hc a=>?_) fun hc a=>?_)))
 ·refine cT 1 (crt (zd ?_));obtain rfl:=sj a;exact rT 2 (zw ([109,48]:BS)) ⟨hs,rfl,(by simp)⟩
 refine ckt (cT 1 (cs (cb 0 ?_)));refine zj 0 (fun Z=>∀ (j:BS) (d:Env) (e:K) (hs:Step [] h e) (s:j.length≤9223372036854775807),ziY j=some r→Z (ups d [(3,zw j)]) e) ?_ fun C=>?_
 ·intro j d e hs s a;refine zf (zb (cO 1 (bE a fun n f a=>oq 19 (zw n) (fun _=>zag kr f) (dT 1 (crt ?_)))));obtain rfl:=sj a;exact rT 2 (zw n) ⟨hs,rfl,(ze4 f)⟩
 refine bE a fun u p k=>zp (F:=zgz) (J:=fun b D c=>(∃ d,D=ups d [(0,iv b.1),(3,zw b.2)])∧Step [] h c∧I64 b.1∧b.2.length≤9223372036854775807) (s0:=(p0,([]:BS))) (x:=u) kr p ⟨⟨_,eY⟩,hs,q,(by simp)⟩ ?_;rintro b _ E ⟨⟨d,rfl⟩,hs,H,w⟩ B a m;refine cs (cT 2 (cc _ a (fun hc a=>?_) fun hc a=>?_))
 ·refine ckt (cb 1 (cO 4 (oT (t:=tU8) 5 121001 true [IntKind.wrap .u8 (w64 (48+(Int.tmod b.1 10)))] hs ⟨_,_,rfl,⟨rfl,(zwu _)⟩,rfl⟩ fun I G hs L y=>obs 13 221 9 5 y.sl (od 1 (bE a fun A g a=>oq 15 (zw A) (fun _=>zag kr g) (od 1 (otr (od 3 (oe (zc ?_))))))))));exact ze (sj a).symm ⟨⟨_,eY⟩,hs,(zo _),(ze4 g)⟩
 refine cx 0 (zg ?_);obtain rfl:=m _ (sj a).symm;replace a:=k;refine zh ?_;exact zq eY (C b.2  _ _ hs w a)
theorem zpe {k:K} {p0:LG} {d:OA} {c2:Nat} {j:Tag} {p1:Int} (f3:Gr tGlue false j k 169 d c2 p0) (b6:j.1<k.H.size) (b7:I64 p1) {r:Int×LG} (c:zio p0 p1=some r) :
 Fn Tryz.prog 78 #[vl d p0 c2,iv p1] k (fun v n=>Step (blk d c2) k n∧v=iv r.1∧I64 r.1∧Gr tGlue false j n 169 d c2 r.2):=by
 refine fnc 28 (blk d c2) Tryz.func78 Tryz.ntmps78 fun hs=>?_;have a0:∀ g∈blk d c2,g∈(blk d c2)∨k.H.size≤g:=fun g hg=>.inl (by simp [hg]);refine cT 1 (cs (cT 1 (cb 0 ?_)));refine zj 0 (fun Z=>∀ (q:LG) (p:Int) (H:Env) (m:K) (hs:Step (blk d c2) k m) (a6:Gr tGlue false j m 169 d c2 q) (I:(∀ g∈blk d c2,g∈(blk d c2)∨k.H.size≤g)) (L:I64 p),zin q p=some r→Z (ups H [(0,vl d q c2),(1,iv p)]) m) ?_ fun J1=>?_
 ·intro q p H m hs a6 I L c;refine zf (zb (cT 2 (crt ?_)));obtain rfl:=sj c;exact rT 4 (iv p) ⟨hs,rfl,L,a6⟩
 refine bE c fun b8 a9 a2=>zp (F:=zdC) (J:=fun a E' n=>(∃ H,E'=ups H [(0,vl d a.1 c2),(1,iv a.2.1),(5,iv a.2.2)])∧Step (blk d c2) k n∧Gr tGlue false j n 169 d c2 a.1∧(∀ g∈blk d c2,g∈(blk d c2)∨k.H.size≤g)∧I64 a.2.1∧I64 a.2.2) (s0:=(p0,p1,0)) (x:=b8) kr a9 ⟨⟨_,eY⟩,hs,f3,a0,b7,(iK 0)⟩ ?_;rintro a _ d2 ⟨⟨H,rfl⟩,hs,f,h,M,d3⟩ c4 c a3;refine cs (cT 4 (cc _ c (fun hc c=>?_) fun hc c=>?_))
 ·refine ckt (cs (cb 1 (cO 3 (bE c fun N b0 c=>oC hs (zl5 M b0) ?_))));rintro b1 b9 hs _ ⟨rfl,b2⟩;replace f:=f.step0 b9;refine bE c fun O P c=>?_;obtain ⟨a7,s,u,w,c5,y,a4⟩:=f.idx P;obtain ⟨_,_,rfl,⟨rfl,d4⟩,⟨rfl,d5⟩⟩:=a4;replace y:At b1 a7 (0+a.2.2.toNat*2) [zw O.1,iv O.2]:=y;refine oi 16 38 169 2 a.1.length c2 .i64 a.2.2 (off:=0) s u w (od 1 (bE c fun Q R c=>zdz (T:=9) (t:=tGlue) (τ:=j) (e:=169) (ix:=a.2.2) (x':=(N,O.2)) (b:=a7) (δ:=0) (cp:=c2) (l:=a.1) (vs:=[zw N]) (zw N) kr kr s f u w kr kr kr kr (fun cs hx=>by obtain ⟨x,S,ho⟩:=hx;obtain rfl:=sj (S.symm.trans P);obtain ⟨_,_,rfl,⟨rfl,d6⟩,⟨rfl,b3⟩⟩:=ho;exact ⟨_,_,rfl,⟨rfl,b2⟩,⟨rfl,b3⟩⟩) fun b4 c0 U=>?_));replace hs:=hs.trM h c0;replace f:=U;replace f:=zjM R f;have E:=zaf R;refine zM (eA 5 (v:=iv a.2.2) (eA 1 (v:=iv a.2.1) (za (t:=0) (v:=vl d Q c2) rfl (by unfold vl;rw [E];kernel_rfl)))) (otx (od 3 (otx (od 3 (bE c fun V X c=>?_)))));obtain ⟨a8,A,B,C,c6,D,a5⟩:=f.idx X;obtain ⟨_,_,rfl,⟨rfl,d7⟩,⟨rfl,d8⟩⟩:=a5;replace D:At b4 a8 (0+a.2.2.toNat*2) [zw V.1,iv V.2]:=D;refine oi 23 38 169 2 Q.length c2 .i64 a.2.2 (off:=0) A B C (od 1 (bE c fun c1 Y c=>zdz (T:=2) (t:=tGlue) (τ:=j) (e:=169) (ix:=a.2.2) (x':=(V.1,w64 (a.2.1+1))) (b:=a8) (δ:=1) (cp:=c2) (l:=Q) (vs:=[iv (w64 (a.2.1+1))]) (iv (w64 (a.2.1+1))) kr kr A f B C kr kr kr kr (fun cs hx=>by obtain ⟨x,S,ho⟩:=hx;obtain rfl:=sj (S.symm.trans X);obtain ⟨_,_,rfl,⟨rfl,b5⟩,⟨rfl,d9⟩⟩:=ho;exact ⟨_,_,rfl,⟨rfl,b5⟩,⟨rfl,(zo _)⟩⟩) fun e0 c3 U=>?_));replace hs:=hs.trM h c3;replace f:=U;replace f:=zjM Y f;have G:=zaf Y;refine zM (eA 5 (v:=iv a.2.2) (eA 1 (v:=iv (w64 (a.2.1+1))) (za (t:=0) (v:=vl d c1 c2) rfl (by unfold vl;rw [G];kernel_rfl)))) (otr (od 3 (oe (zc (zb (cr (od 3 (oe ?_))))))));exact ze (sj c).symm ⟨⟨_,eY⟩,hs,f,h,(zo _),(zo _)⟩
 refine cx 0 (zg ?_);obtain rfl:=a3 _ (sj c).symm;replace c:=a2;refine zh ?_;exact zq eY (J1 a.1 a.2.1  _ _ hs f h M c)
theorem zou {d:K} {p0:LI} {b:OA} {c2:Nat} {h:Tag} {p1:Int} (P:Gr tI64 false h d 2 b c2 p0) (H:h.1<d.H.size) (I:I64 p1) {r:Int×LI} (c:zhk p0 p1=some r) :
 Fn Tryz.prog 122 #[vl b p0 c2,iv p1] d (fun v j=>Step (blk b c2) d j∧v=iv r.1∧I64 r.1∧Gr tI64 false h j 2 b c2 r.2):=by
 refine fnc 19 (blk b c2) Tryz.func122 Tryz.ntmps122 fun hs=>?_;have w:∀ g∈blk b c2,g∈(blk b c2)∨d.H.size≤g:=fun g Q=>.inl (by simp [Q]);refine cT 1 (cs (cT 1 (cb 0 ?_)));refine zj 0 (fun Z=>∀ (m:LI) (k:Int) (p:Env) (e:K) (hs:Step (blk b c2) d e) (C:Gr tI64 false h e 2 b c2 m) (q:(∀ g∈blk b c2,g∈(blk b c2)∨d.H.size≤g)) (s:I64 k),zhv m k=some r→Z (ups p [(0,vl b m c2),(1,iv k)]) e) ?_ fun R=>?_
 ·intro m k p e hs C q s c;refine zf (zb (cT 2 (crt ?_)));obtain rfl:=sj c;exact rT 4 (iv k) ⟨hs,rfl,s,C⟩
 refine bE c fun L D y=>zp (F:=zcU) (J:=fun a S j=>(∃ p,S=ups p [(0,vl b a.1 c2),(1,iv a.2.1),(5,iv a.2.2)])∧Step (blk b c2) d j∧Gr tI64 false h j 2 b c2 a.1∧(∀ g∈blk b c2,g∈(blk b c2)∨d.H.size≤g)∧I64 a.2.1∧I64 a.2.2) (s0:=(p0,p1,0)) (x:=L) kr D ⟨⟨_,eY⟩,hs,P,w,I,(iK 0)⟩ ?_;rintro a _ T ⟨⟨p,rfl⟩,hs,A,f,u,U⟩ O c B;refine cs (cT 4 (cc _ c (fun hc c=>?_) fun hc c=>?_))
 ·refine ckt (cs (cb 1 (cO 3 (bE c fun X E c=>bE c fun x23 G c=>oW A E G ⟨rfl,u⟩ fun _ V M N n=>?_))));replace hs:=hs.trM f M;replace A:=N;refine zM (eA 5 (v:=iv a.2.2) (eA 1 (v:=iv a.2.1) (za (t:=0) (v:=vl b x23 c2) rfl (by unfold vl;rw [n];kernel_rfl)))) (otr (od 3 (oe (zc (zb (cr (od 3 (oe ?_))))))));exact ze (sj c).symm ⟨⟨_,eY⟩,hs,A,f,(zo _),(zo _)⟩
 refine cx 0 (zg ?_);obtain rfl:=B _ (sj c).symm;replace c:=y;refine zh ?_;exact zq eY (R a.1 a.2.1  _ _ hs A f u c)
theorem zot {k:K} {p0:List (Int×Int)} {c:OA} {c2:Nat} {j:Tag} {p1:Int} (f3:Gr tPoint false j k 73 c c2 p0) (b3:j.1<k.H.size) (b4:I64 p1) {r:Int×(List (Int×Int))} (d:ze7 p0 p1=some r) :
 Fn Tryz.prog 19 #[vl c p0 c2,iv p1] k (fun v n=>Step (blk c c2) k n∧v=iv r.1∧I64 r.1∧Gr tPoint false j n 73 c c2 r.2):=by
 refine fnc 27 (blk c c2) Tryz.func19 Tryz.ntmps19 fun hs=>?_;have Y:∀ g∈blk c c2,g∈(blk c c2)∨k.H.size≤g:=fun g hg=>.inl (by simp [hg]);refine cT 1 (cs (cT 1 (cb 0 ?_)));refine zj 0 (fun Z=>∀ (q:List (Int×Int)) (p:Int) (H:Env) (m:K) (hs:Step (blk c c2) k m) (a5:Gr tPoint false j m 73 c c2 q) (I:(∀ g∈blk c c2,g∈(blk c c2)∨k.H.size≤g)) (L:I64 p),zhu q p=some r→Z (ups H [(0,vl c q c2),(1,iv p)]) m) ?_ fun J1=>?_
 ·intro q p H m hs a5 I L d;refine zf (zb (cT 2 (crt ?_)));obtain rfl:=sj d;exact rT 4 (iv p) ⟨hs,rfl,L,a5⟩
 refine bE d fun b5 a8 a0=>zp (F:=zaJ) (J:=fun a E' n=>(∃ H,E'=ups H [(0,vl c a.1 c2),(1,iv a.2.1),(5,iv a.2.2)])∧Step (blk c c2) k n∧Gr tPoint false j n 73 c c2 a.1∧(∀ g∈blk c c2,g∈(blk c c2)∨k.H.size≤g)∧I64 a.2.1∧I64 a.2.2) (s0:=(p0,p1,0)) (x:=b5) kr a8 ⟨⟨_,eY⟩,hs,f3,Y,b4,(iK 0)⟩ ?_;rintro a _ a9 ⟨⟨H,rfl⟩,hs,f,h,M,c7⟩ b9 d a2;refine cs (cT 4 (cc _ d (fun hc d=>?_) fun hc d=>?_))
 ·refine ckt (cs (cb 1 (cO 3 (bE d fun N O d=>?_))));obtain ⟨a6,s,u,w,c0,y,a3⟩:=f.idx O;obtain ⟨_,_,rfl,⟨rfl,c8⟩,⟨rfl,c9⟩⟩:=a3;replace y:At a9 a6 (0+a.2.2.toNat*2) [iv N.1,iv N.2]:=y;refine oi 15 35 73 2 a.1.length c2 .i64 a.2.2 (off:=0) s u w (od 1 (bE d fun P Q d=>zdz (T:=2) (t:=tPoint) (τ:=j) (e:=73) (ix:=a.2.2) (x':=(a.2.1,N.2)) (b:=a6) (δ:=0) (cp:=c2) (l:=a.1) (vs:=[iv a.2.1]) (iv a.2.1) kr kr s f u w kr kr kr kr (fun cs hx=>by obtain ⟨x,R,ho⟩:=hx;obtain rfl:=sj (R.symm.trans O);obtain ⟨_,_,rfl,⟨rfl,d0⟩,⟨rfl,b0⟩⟩:=ho;exact ⟨_,_,rfl,⟨rfl,M⟩,⟨rfl,b0⟩⟩) fun b1 b6 S=>?_));replace hs:=hs.trM h b6;replace f:=S;replace f:=zjM Q f;have E:=zaf Q;refine zM (eA 5 (v:=iv a.2.2) (eA 1 (v:=iv a.2.1) (za (t:=0) (v:=vl c P c2) rfl (by unfold vl;rw [E];kernel_rfl)))) (otx (od 3 (otx (od 3 (bE d fun U V d=>?_)))));obtain ⟨a7,A,B,C,c1,D,a4⟩:=f.idx V;obtain ⟨_,_,rfl,⟨rfl,d2⟩,⟨rfl,d3⟩⟩:=a4;replace D:At b1 a7 (0+a.2.2.toNat*2) [iv U.1,iv U.2]:=D;refine oi 22 35 73 2 P.length c2 .i64 a.2.2 (off:=0) A B C (od 1 (bE d fun b7 X d=>zdz (T:=2) (t:=tPoint) (τ:=j) (e:=73) (ix:=a.2.2) (x':=(U.1,w64 (a.2.1+1))) (b:=a7) (δ:=1) (cp:=c2) (l:=P) (vs:=[iv (w64 (a.2.1+1))]) (iv (w64 (a.2.1+1))) kr kr A f B C kr kr kr kr (fun cs hx=>by obtain ⟨x,R,ho⟩:=hx;obtain rfl:=sj (R.symm.trans V);obtain ⟨_,_,rfl,⟨rfl,b2⟩,⟨rfl,d4⟩⟩:=ho;exact ⟨_,_,rfl,⟨rfl,b2⟩,⟨rfl,(zo _)⟩⟩) fun d5 b8 S=>?_));replace hs:=hs.trM h b8;replace f:=S;replace f:=zjM X f;have G:=zaf X;refine zM (eA 5 (v:=iv a.2.2) (eA 1 (v:=iv (w64 (a.2.1+1))) (za (t:=0) (v:=vl c b7 c2) rfl (by unfold vl;rw [G];kernel_rfl)))) (otr (od 3 (oe (zc (zb (cr (od 3 (oe ?_))))))));exact ze (sj d).symm ⟨⟨_,eY⟩,hs,f,h,(zo _),(zo _)⟩
 refine cx 0 (zg ?_);obtain rfl:=a2 _ (sj d).symm;replace d:=a0;refine zh ?_;exact zq eY (J1 a.1 a.2.1  _ _ hs f h M d)
theorem zkF {g:K} {p0:List (Int×Int)} {q:OA} {c2:Nat} {p1:Int} (u:Sl tPoint g q c2 p0) (w:I64 p1) {r:Int} (a:ze8 p0 p1=some r) :
 Fn Tryz.prog 20 #[vl q p0 c2,iv p1] g (fun v h=>g=h∧v=iv r∧I64 r):=by
 refine fnc 31 [] Tryz.func20 Tryz.ntmps20 fun hs=>cT 1 (cs (cT 1 (cb 0 ?_)));refine zj 0 (fun Z=>∀ (e:Int) (j:Env),I64 e→zhw e=some r→Z (ups j [(1,iv e)]) g) ?_ fun G=>?_
 ·intro e j s a;refine zf (zb (cT 2 (crt ?_)));obtain rfl:=sj a;exact rT 4 (iv e) ⟨rfl,rfl,s⟩
 refine bE a fun y t c=>zp (F:=zeP p0) (J:=fun b H h=>(∃ j,H=ups j [(0,vl q p0 c2),(1,iv b.1),(5,iv b.2)])∧g=h∧I64 b.1∧I64 b.2) (s0:=(p1,0)) (x:=y) kr t ⟨⟨_,eY⟩,rfl,w,(iK 0)⟩ ?_;rintro b _ _ ⟨⟨j,rfl⟩,rfl,A,O⟩ D a d;refine cs (cT 4 (cc _ a (fun hc a=>?_) fun hc a=>?_))
 ·refine ckt (cs (cb 1 (cs (cO 2 (bE a fun B k a=>oJ u k fun P Q I L m=>od 1 (oV m.at 0 (dT 2 (cc _ a (fun hc a=>?_) fun hc a=>?_))))))))
  ·refine cT 1 (crt (zd (zl (zd ?_))));obtain rfl:=d _ (sj a).symm;replace a:=c;refine zx (zl (zd ?_));obtain rfl:=sj a;exact rT 4 (iv (-1)) ⟨rfl,rfl,(iK (-1))⟩
  refine ckt (cT 3 (cs (cO 2 (bE a fun C f a=>?_))));have n:B=C:=sj (k.symm.trans f);subst n;have E:=f;refine oJ u f fun R S M N p=>od 1 (oV p.at 1 (dT 2 (cc _ a (fun hc a=>?_) fun hc a=>?_)))
  ·refine cT 1 (crt (zd (zl (zd ?_))));obtain rfl:=d _ (sj a).symm;replace a:=c;refine zx (zl (zd ?_));obtain rfl:=sj a;exact rT 4 (iv (-1)) ⟨rfl,rfl,(iK (-1))⟩
  refine ckt (cr (od 3 (oe (zc (zb (cr (od 3 (oe ?_))))))));exact ze (sj a).symm ⟨⟨_,eY⟩,rfl,(zo _),(zo _)⟩
 refine cx 0 (zg ?_);obtain rfl:=d _ (sj a).symm;replace a:=c;refine zh ?_;exact zq eY (G b.1  _ A a)
end Go.Lf
