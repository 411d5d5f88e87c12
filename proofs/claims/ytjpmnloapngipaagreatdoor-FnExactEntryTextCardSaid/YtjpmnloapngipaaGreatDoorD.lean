import Derived.Test.YtjpmnloapngipaaGreatDoorC
set_option linter.all false
set_option maxRecDepth 100000
set_option maxHeartbeats 4000000
namespace Go.Lf
open Go Go.Proofs
theorem zhp {b:K} {τ:Tag} {eP eG:TypeId} {a:OA} {n:Nat} {bs:List Nat} {L:LI} {ix r:Int} (F:Fst τ b eP eG a n bs L) (hn:0≤ix∧ix.toNat<bs.length) (e:iter (gstep L) ix=some r) :
 Fn Tryz.prog 200 #[pt (nb bs ix) 0] b (fun v c=>b=c∧v=pt (nb bs r) 0):=by
 refine fnc 13 [] Tryz.func200 Tryz.ntmps200 fun hs=>cT 1 (cs (cb 0 ?_));refine zi 0 (fun Z=>∀ (d:Env),Z (ups d [(0,pt (nb bs r) 0)]) b) ?_ fun f=>?_
 ·intro d;exact zf (za (cT 2 (crt (rT 2 (pt (nb bs r) 0) ⟨rfl,rfl⟩))))
 refine zn (F:=gstep L) (J:=fun s g c=>(∃ d,g=ups d [(0,pt (nb bs s) 0)])∧b=c∧(0≤s∧s.toNat<bs.length)) (s0:=ix) (x:=r) kr e ⟨⟨_,eY⟩,rfl,hn⟩ ?_;rintro s _ _ ⟨⟨d,rfl⟩,rfl,hb⟩ yy hy hd;unfold gstep at hy;refine bE hy fun p hp hy=>?_;have hl:=F.lead hp;refine cs (cO 3 ?_);by_cases hz:p<0
 ·rw [if_pos hz] at hy;have hl':b.cell (nb bs s) 0=some (.pointer none):=by rw [hl];unfold ldr;rw [if_pos hz]
  refine o1 6 299 (.pointer none) hl' (dT 1 (cf (cx 0 (zg ?_))));obtain rfl:=hd _ (sj hy).symm;refine zh ?_;exact zo eY (f _)
 rw [if_neg hz] at hy;have hl':b.cell (nb bs s) 0=some (pt (nb bs p) 0):=by rw [hl];unfold ldr;rw [if_neg hz]
 refine o1 6 299 (pt (nb bs p) 0) hl' (dT 1 (ct (ckt (cb 1 (cr (od 3 (o1 11 299 (pt (nb bs p) 0) hl' (od 1 (oe (zc ?_))))))))));exact ze (sj hy).symm ⟨⟨_,eY⟩,rfl,Int.not_lt.1 hz,F.rng s.toNat p (zhB hp).2.2⟩
theorem zqS {b:K} {p0:LP} {c:OA} {c2:Nat} {p1:Int} (g:Sl tPlaced b c c2 p0) (f:I64 p1) {r:Int} (a:zlU p0 p1=some r) :
 Fn Tryz.prog 29 #[vl c p0 c2,iv p1] b (fun v d=>b=d∧v=iv r∧I64 r):=by
 refine fnc 12 [] Tryz.func29 Tryz.ntmps29 fun hs=>cO 1 (otx (dT 5 (cs (cT 2 (cc _ a (fun e a=>?_) fun e a=>?_)))))
 ·refine cT 1 (crt (zd ?_));obtain rfl:=sj a;exact rT 4 (iv (-1)) ⟨rfl,rfl,(iK (-1))⟩
 refine ckt (cT 2 (crt ?_));obtain rfl:=sj a;exact rT 4 (iv (w64 (p1 - (p0.length:Int)))) ⟨rfl,rfl,(zp _)⟩
theorem zlW {b:K} {p0:LP} {c:OA} {c2:Nat} {p1:Int} (i:Sl tPlaced b c c2 p0) (f:I64 p1) {r:Int} (a:zfq p0 p1=some r) :
 Fn Tryz.prog 10 #[.agg #[vl c p0 c2],iv p1] b (fun v g=>Step [] b g∧v=iv r∧I64 r):=by
 refine fnc 12 [] Tryz.func10 Tryz.ntmps10 fun hs=>csr (oB 28 10001 [vl c p0 c2] hs fun m l hs n d=>od 1 (otx (od 1 (oV d.at 0 (od 1 (bE a fun j h a=>ocl 8 (zqS (i.step hs) f h) ?_))))));rintro _ _ ⟨rfl,rfl,e⟩;refine dT 1 (cs (cT 2 (cc _ a (fun k a=>?_) fun k a=>?_)))
 ·refine cT 1 (crt (zd ?_));obtain rfl:=sj a;exact rT 4 (iv (-1)) ⟨hs,rfl,(iK (-1))⟩
 refine ckt (cT 2 (crt ?_));obtain rfl:=sj a;exact rT 4 (iv j) ⟨hs,rfl,e⟩
theorem ztn {c:K} {p0:BS×Int} {p1:Int} (f:p0.1.length≤9223372036854775807) (g:I64 p0.2) (h:I64 p1) {r:Int} (a:zmE p0 p1=some r) :
 Fn Tryz.prog 85 #[.agg #[zt p0.1,iv p0.2],iv p1] c (fun v d=>Step [] c d∧v=iv r∧I64 r):=by
 refine fnc 13 [] Tryz.func85 Tryz.ntmps85 fun hs=>csr (oB 156 85001 [zt p0.1,iv p0.2] hs fun j i hs k b=>od 1 (otx (od 2 (oV b.at 0 (dT 3 (cs (cT 2 (cc _ a (fun e a=>?_) fun e a=>?_))))))))
 ·refine cT 1 (crt (zd ?_));obtain rfl:=sj a;exact rT 4 (iv (-1)) ⟨hs,rfl,(iK (-1))⟩
 refine ckt (cT 2 (crt ?_));obtain rfl:=sj a;exact rT 4 (iv (w64 (p1 - (p0.1.length:Int)))) ⟨hs,rfl,(zp _)⟩
theorem zss {g:K} {p0:LG} {m:OA} {c2:Nat} {p1:Int} (A:Sl tGlue g m c2 p0) (G:I64 p1) {r:Int} (a:znQ p0 p1=some r) :
 Fn Tryz.prog 57 #[vl m p0 c2,iv p1] g (fun v h=>Step [] g h∧v=iv r∧I64 r):=by
 refine fnc 27 [] Tryz.func57 Tryz.ntmps57 fun hs=>cO 1 (otx (dT 5 (cs (cT 2 (cc _ a (fun i a=>?_) fun i a=>?_)))))
 ·refine cT 1 (crt (zd ?_));obtain rfl:=sj a;exact rT 4 (iv (-1)) ⟨hs,rfl,(iK (-1))⟩
 refine ckt (cs (cT 1 (cb 0 ?_)));refine zi 0 (fun Z=>∀ (c:Int) (j:Env) (d:K),Step [] g d→I64 c→zkE c=some r→Z (ups j [(1,iv c)]) d) ?_ fun B=>?_
 ·intro c j d hs n a;refine zf (za (cT 2 (crt ?_)));obtain rfl:=sj a;exact rT 4 (iv c) ⟨hs,rfl,n⟩
 refine bE a fun y p e=>zn (F:=zhM p0) (J:=fun b C h=>(∃ j,C=ups j [(0,vl m p0 c2),(1,iv b.1),(5,iv b.2)])∧Step [] g h∧I64 b.1∧I64 b.2) (s0:=(w64 (p1 - (p0.length:Int)),0)) (x:=y) kr p ⟨⟨_,eY⟩,hs,(zp _),(iK 0)⟩ ?_;rintro b _ D ⟨⟨j,rfl⟩,hs,l,H⟩ z a f;refine cs (cT 4 (cc _ a (fun i a=>?_) fun i a=>?_))
 ·refine ckt (cs (cb 1 (cO 2 (bE a fun I q a=>oJ (A.step hs) q fun L M s t k=>oL k.at 0 2 (od 1 (bE a fun N u a=>oC hs (ztn s t l u) ?_))))));rintro E O hs _ ⟨rfl,w⟩;refine od 1 (otx (dT 2 (cc _ a (fun i a=>?_) fun i a=>?_)))
  ·refine cT 1 (crt (zj (zd ?_)));obtain rfl:=f _ (sj a).symm;replace a:=e;refine zr (zj (zd ?_));obtain rfl:=sj a;exact rT 4 (iv (-1)) ⟨hs,rfl,(iK (-1))⟩
  refine ck (zc (za (cr (od 3 (oe ?_)))));exact ze (sj a).symm ⟨⟨_,eY⟩,hs,w,(zp _)⟩
 refine cx 0 (zg ?_);obtain rfl:=f _ (sj a).symm;replace a:=e;refine zh ?_;exact zo eY (B b.1  _ _ hs l a)
theorem zjJ {b:K} {p0:LI} {c:OA} {c2:Nat} {p1:Int} (g:Sl tI64 b c c2 p0) (f:I64 p1) {r:Int} (a:zeb p0 p1=some r) :
 Fn Tryz.prog 31 #[vl c p0 c2,iv p1] b (fun v d=>b=d∧v=iv r∧I64 r):=by
 refine fnc 12 [] Tryz.func31 Tryz.ntmps31 fun hs=>cO 1 (otx (dT 5 (cs (cT 2 (cc _ a (fun e a=>?_) fun e a=>?_)))))
 ·refine cT 1 (crt (zd ?_));obtain rfl:=sj a;exact rT 4 (iv (-1)) ⟨rfl,rfl,(iK (-1))⟩
 refine ckt (cT 2 (crt ?_));obtain rfl:=sj a;exact rT 4 (iv (w64 (p1 - (p0.length:Int)))) ⟨rfl,rfl,(zp _)⟩
theorem ztm {c:K} {p0:BS×LI} {a2:OA} {d:Nat} {p1:Int} (k:p0.1.length≤9223372036854775807) (j:Sl tI64 c a2 d p0.2) (l:I64 p1) {r:Int} (a:zmC p0 p1=some r) :
 Fn Tryz.prog 86 #[.agg #[zt p0.1,vl a2 p0.2 d],iv p1] c (fun v h=>Step [] c h∧v=iv r∧I64 r):=by
 refine fnc 19 [] Tryz.func86 Tryz.ntmps86 fun hs=>csr (oB 158 86001 [zt p0.1,vl a2 p0.2 d] hs fun n m hs p b=>od 1 (otx (od 2 (oV b.at 0 (dT 3 (cs (cT 2 (cc _ a (fun e a=>?_) fun e a=>?_))))))))
 ·refine cT 1 (crt (zd ?_));obtain rfl:=sj a;exact rT 4 (iv (-1)) ⟨hs,rfl,(iK (-1))⟩
 refine ckt (cO 1 (oV b.at 1 (od 1 (bE a fun i f a=>ocl 15 (zjJ (j.step hs) (zp _) f) ?_))));rintro _ _ ⟨rfl,rfl,g⟩;refine dT 1 (cs (cT 2 (cc _ a (fun e a=>?_) fun e a=>?_)))
 ·refine cT 1 (crt (zd ?_));obtain rfl:=sj a;exact rT 4 (iv (-1)) ⟨hs,rfl,(iK (-1))⟩
 refine ckt (cT 2 (crt ?_));obtain rfl:=sj a;exact rT 4 (iv i) ⟨hs,rfl,g⟩
theorem zsq {g:K} {p0:LT} {m:OA} {c2:Nat} {p1:Int} (A:Sl tTile g m c2 p0) (G:I64 p1) {r:Int} (a:znP p0 p1=some r) :
 Fn Tryz.prog 58 #[vl m p0 c2,iv p1] g (fun v h=>Step [] g h∧v=iv r∧I64 r):=by
 refine fnc 27 [] Tryz.func58 Tryz.ntmps58 fun hs=>cO 1 (otx (dT 5 (cs (cT 2 (cc _ a (fun i a=>?_) fun i a=>?_)))))
 ·refine cT 1 (crt (zd ?_));obtain rfl:=sj a;exact rT 4 (iv (-1)) ⟨hs,rfl,(iK (-1))⟩
 refine ckt (cs (cT 1 (cb 0 ?_)));refine zi 0 (fun Z=>∀ (c:Int) (j:Env) (d:K),Step [] g d→I64 c→zkD c=some r→Z (ups j [(1,iv c)]) d) ?_ fun B=>?_
 ·intro c j d hs n a;refine zf (za (cT 2 (crt ?_)));obtain rfl:=sj a;exact rT 4 (iv c) ⟨hs,rfl,n⟩
 refine bE a fun w p e=>zn (F:=zhL p0) (J:=fun b C h=>(∃ j,C=ups j [(0,vl m p0 c2),(1,iv b.1),(5,iv b.2)])∧Step [] g h∧I64 b.1∧I64 b.2) (s0:=(w64 (p1 - (p0.length:Int)),0)) (x:=w) kr p ⟨⟨_,eY⟩,hs,(zp _),(iK 0)⟩ ?_;rintro b _ D ⟨⟨j,rfl⟩,hs,l,H⟩ z a f;refine cs (cT 4 (cc _ a (fun i a=>?_) fun i a=>?_))
 ·refine ckt (cs (cb 1 (cO 2 (bE a fun I q a=>oJ (A.step hs) q fun L M s N O y k=>oL k.at 0 2 (od 1 (bE a fun P t a=>oC hs (ztm s y l t) ?_))))));rintro E Q hs _ ⟨rfl,u⟩;refine od 1 (otx (dT 2 (cc _ a (fun i a=>?_) fun i a=>?_)))
  ·refine cT 1 (crt (zj (zd ?_)));obtain rfl:=f _ (sj a).symm;replace a:=e;refine zr (zj (zd ?_));obtain rfl:=sj a;exact rT 4 (iv (-1)) ⟨hs,rfl,(iK (-1))⟩
  refine ck (zc (za (cr (od 3 (oe ?_)))));exact ze (sj a).symm ⟨⟨_,eY⟩,hs,u,(zp _)⟩
 refine cx 0 (zg ?_);obtain rfl:=f _ (sj a).symm;replace a:=e;refine zh ?_;exact zo eY (B b.1  _ _ hs l a)
theorem zqR {c:K} {p0:LG×LT} {d e:OA} {c2 f:Nat} {p1:Int} (q:Sl tGlue c d c2 p0.1) (f6:Sl tTile c e f p0.2) (l:I64 p1) {r:Int} (a:zlT p0 p1=some r) :
 Fn Tryz.prog 28 #[.agg #[vl d p0.1 c2,vl e p0.2 f],iv p1] c (fun v m=>Step [] c m∧v=iv r∧I64 r):=by
 refine fnc 18 [] Tryz.func28 Tryz.ntmps28 fun hs=>csr (oB 25 28001 [vl d p0.1 c2,vl e p0.2 f] hs fun z s hs w b=>od 1 (otx (od 1 (oV b.at 0 (od 1 (bE a fun x g a=>oC hs (zss (q.step hs) l g) ?_))))));rintro t n hs _ ⟨rfl,h⟩;replace b:=b.step0 n;refine dT 1 (cs (cT 2 (cc _ a (fun i a=>?_) fun i a=>?_)))
 ·refine cT 1 (crt (zd ?_));obtain rfl:=sj a;exact rT 4 (iv (-1)) ⟨hs,rfl,(iK (-1))⟩
 refine ckt (cO 1 (oV b.at 1 (od 1 (bE a fun p j a=>oC hs (zsq (f6.step hs) h j) ?_))));rintro u y hs _ ⟨rfl,k⟩;refine dT 1 (cs (cT 2 (cc _ a (fun i a=>?_) fun i a=>?_)))
 ·refine cT 1 (crt (zd ?_));obtain rfl:=sj a;exact rT 4 (iv (-1)) ⟨hs,rfl,(iK (-1))⟩
 refine ckt (cT 2 (crt ?_));obtain rfl:=sj a;exact rT 4 (iv p) ⟨hs,rfl,k⟩
theorem zrH {c:K} {p0:TS×(LP)×Int} {d e f:OA} {c2 g h:Nat} {p1:Int} (t:Sl tGlue c d c2 p0.1.1) (f6:Sl tTile c e g p0.1.2) (u:Sl tPlaced c f h p0.2.1) (w:I64 p0.2.2) (i:I64 p1) {r:Int} (a:zj6 p0 p1=some r) :
 Fn Tryz.prog 9 #[.agg #[vl d p0.1.1 c2,vl e p0.1.2 g,vl f p0.2.1 h,iv p0.2.2],iv p1] c (fun v p=>Step [] c p∧v=iv r∧I64 r):=by
 refine fnc 18 [] Tryz.func9 Tryz.ntmps9 fun hs=>csr (oB 30 9001 [vl d p0.1.1 c2,vl e p0.1.2 g,vl f p0.2.1 h,iv p0.2.2] hs fun A x hs B b=>od 1 (otx (od 1 (oL b.at 0 2 (od 1 (bE a fun C j a=>oC hs (zqR (t.step hs) (f6.step hs) i j) ?_))))));rintro y q hs _ ⟨rfl,k⟩;replace b:=b.step0 q;refine dT 1 (cs (cT 2 (cc _ a (fun l a=>?_) fun l a=>?_)))
 ·refine cT 1 (crt (zd ?_));obtain rfl:=sj a;exact rT 4 (iv (-1)) ⟨hs,rfl,(iK (-1))⟩
 refine ckt (cO 1 (oL b.at 2 1 (od 1 (bE a fun s m a=>oC hs (zlW (u.step hs) k m) ?_))));rintro z D hs _ ⟨rfl,n⟩;refine dT 1 (cs (cT 2 (cc _ a (fun l a=>?_) fun l a=>?_)))
 ·refine cT 1 (crt (zd ?_));obtain rfl:=sj a;exact rT 4 (iv (-1)) ⟨hs,rfl,(iK (-1))⟩
 refine ckt (cT 2 (crt ?_));obtain rfl:=sj a;exact rT 4 (iv s) ⟨hs,rfl,n⟩
theorem zmD {b:K} {p0:LP} {c:OA} {c2:Nat} {p1:Int} (g:Sl tPlaced b c c2 p0) (f:I64 p1) {r:Int} (a:ziW p0 p1=some r) :
 Fn Tryz.prog 30 #[vl c p0 c2,iv p1] b (fun v d=>b=d∧v=iv r∧I64 r):=by
 refine fnc 12 [] Tryz.func30 Tryz.ntmps30 fun hs=>cO 1 (otx (dT 5 (cs (cT 2 (cc _ a (fun e a=>?_) fun e a=>?_)))))
 ·refine cT 1 (crt (zd ?_));obtain rfl:=sj a;exact rT 4 (iv (-1)) ⟨rfl,rfl,(iK (-1))⟩
 refine ckt (cT 2 (crt ?_));obtain rfl:=sj a;exact rT 4 (iv (w64 (p1 - (p0.length:Int)))) ⟨rfl,rfl,(zp _)⟩
theorem zqT {f:K} {p0:LM} {l:OA} {c2:Nat} {p1:Int} (y:Sl (tSl tI64) f l c2 p0) (B:I64 p1) {r:Int} (a:zlV p0 p1=some r) :
 Fn Tryz.prog 32 #[vl l p0 c2,iv p1] f (fun v g=>f=g∧v=iv r∧I64 r):=by
 refine fnc 27 [] Tryz.func32 Tryz.ntmps32 fun hs=>cO 1 (otx (dT 5 (cs (cT 2 (cc _ a (fun h a=>?_) fun h a=>?_)))))
 ·refine cT 1 (crt (zd ?_));obtain rfl:=sj a;exact rT 4 (iv (-1)) ⟨rfl,rfl,(iK (-1))⟩
 refine ckt (cs (cT 1 (cb 0 ?_)));refine zi 0 (fun Z=>∀ (c:Int) (i:Env),I64 c→ziX c=some r→Z (ups i [(1,iv c)]) f) ?_ fun z=>?_
 ·intro c i m a;refine zf (za (cT 2 (crt ?_)));obtain rfl:=sj a;exact rT 4 (iv c) ⟨rfl,rfl,m⟩
 refine bE a fun t n d=>zn (F:=zf1 p0) (J:=fun b A g=>(∃ i,A=ups i [(0,vl l p0 c2),(1,iv b.1),(5,iv b.2)])∧f=g∧I64 b.1∧I64 b.2) (s0:=(w64 (p1 - (p0.length:Int)),0)) (x:=t) kr n ⟨⟨_,eY⟩,rfl,(zp _),(iK 0)⟩ ?_;rintro b _ _ ⟨⟨i,rfl⟩,rfl,k,C⟩ w a e;refine cs (cT 4 (cc _ a (fun h a=>?_) fun h a=>?_))
 ·refine ckt (cs (cb 1 (cO 2 (bE a fun D p a=>oJ y p fun E G H I u j=>oV j.at 0 (od 1 (bE a fun L q a=>ocl 23 (zjJ u k q) ?_))))));rintro _ _ ⟨rfl,rfl,s⟩;refine od 1 (otx (dT 2 (cc _ a (fun h a=>?_) fun h a=>?_)))
  ·refine cT 1 (crt (zj (zd ?_)));obtain rfl:=e _ (sj a).symm;replace a:=d;refine zr (zj (zd ?_));obtain rfl:=sj a;exact rT 4 (iv (-1)) ⟨rfl,rfl,(iK (-1))⟩
  refine ck (zc (za (cr (od 3 (oe ?_)))));exact ze (sj a).symm ⟨⟨_,eY⟩,rfl,s,(zp _)⟩
 refine cx 0 (zg ?_);obtain rfl:=e _ (sj a).symm;replace a:=d;refine zh ?_;exact zo eY (z b.1  _ k a)
theorem zsr {d:K} {p0:Int×LP×LP×LI×LM} {a2 g h e:OA} {i j k f:Nat} {p1:Int} (E:I64 p0.1) (B:Sl tPlaced d a2 i p0.2.1) (C:Sl tPlaced d g j p0.2.2.1) (x:Sl tI64 d h k p0.2.2.2.1) (y:Sl (tSl tI64) d e f p0.2.2.2.2) (l:I64 p1) {r:Int} (a:zk8 p0 p1=some r) :
 Fn Tryz.prog 11 #[.agg #[iv p0.1,vl a2 p0.2.1 i,vl g p0.2.2.1 j,vl h p0.2.2.2.1 k,vl e p0.2.2.2.2 f],iv p1] d (fun v z=>Step [] d z∧v=iv r∧I64 r):=by
 refine fnc 30 [] Tryz.func11 Tryz.ntmps11 fun hs=>csr (oB 35 11001 [iv p0.1,vl a2 p0.2.1 i,vl g p0.2.2.1 j,vl h p0.2.2.2.1 k,vl e p0.2.2.2.2 f] hs fun F D hs G b=>od 1 (otx (od 1 (oV b.at 1 (od 1 (bE a fun H m a=>ocl 8 (zmD (B.step hs) l m) ?_))))));rintro _ _ ⟨rfl,rfl,n⟩;refine dT 1 (cs (cT 2 (cc _ a (fun c a=>?_) fun c a=>?_)))
 ·refine cT 1 (crt (zd ?_));obtain rfl:=sj a;exact rT 4 (iv (-1)) ⟨hs,rfl,(iK (-1))⟩
 refine ckt (cO 1 (oV b.at 2 (od 1 (bE a fun I p a=>ocl 14 (zmD (C.step hs) n p) ?_))));rintro _ _ ⟨rfl,rfl,q⟩;refine dT 1 (cs (cT 2 (cc _ a (fun c a=>?_) fun c a=>?_)))
 ·refine cT 1 (crt (zd ?_));obtain rfl:=sj a;exact rT 4 (iv (-1)) ⟨hs,rfl,(iK (-1))⟩
 refine ckt (cO 1 (oV b.at 3 (od 1 (bE a fun J s a=>ocl 20 (zjJ (x.step hs) q s) ?_))));rintro _ _ ⟨rfl,rfl,t⟩;refine dT 1 (cs (cT 2 (cc _ a (fun c a=>?_) fun c a=>?_)))
 ·refine cT 1 (crt (zd ?_));obtain rfl:=sj a;exact rT 4 (iv (-1)) ⟨hs,rfl,(iK (-1))⟩
 refine ckt (cO 1 (oV b.at 4 (od 1 (bE a fun A u a=>ocl 26 (zqT (y.step hs) t u) ?_))));rintro _ _ ⟨rfl,rfl,w⟩;refine dT 1 (cs (cT 2 (cc _ a (fun c a=>?_) fun c a=>?_)))
 ·refine cT 1 (crt (zd ?_));obtain rfl:=sj a;exact rT 4 (iv (-1)) ⟨hs,rfl,(iK (-1))⟩
 refine ckt (cT 2 (crt ?_));obtain rfl:=sj a;exact rT 4 (iv A) ⟨hs,rfl,w⟩
theorem zst {c:K} {p0:BS×(TS×(LP)×Int)×(LP)×(Int×LP×LP×LI×LM)} {a2 p q e f g h i:OA} {s t u j k l m n:Nat} {p1:Int} (X:p0.1.length≤9223372036854775807) (P:Sl tGlue c a2 s p0.2.1.1.1) (Q:Sl tTile c p t p0.2.1.1.2) (E:Sl tPlaced c q u p0.2.1.2.1) (w:I64 p0.2.1.2.2) (F:Sl tPlaced c e j p0.2.2.1) (x:I64 p0.2.2.2.1) (G:Sl tPlaced c f k p0.2.2.2.2.1) (H:Sl tPlaced c g l p0.2.2.2.2.2.1) (I:Sl tI64 c h m p0.2.2.2.2.2.2.1) (J:Sl (tSl tI64) c i n p0.2.2.2.2.2.2.2) (R:I64 p1) {r:Int} (a:znR p0 p1=some r) :
 Fn Tryz.prog 4 #[.agg #[zt p0.1,vl a2 p0.2.1.1.1 s,vl p p0.2.1.1.2 t,vl q p0.2.1.2.1 u,iv p0.2.1.2.2,vl e p0.2.2.1 j,iv p0.2.2.2.1,vl f p0.2.2.2.2.1 k,vl g p0.2.2.2.2.2.1 l,vl h p0.2.2.2.2.2.2.1 m,vl i p0.2.2.2.2.2.2.2 n],iv p1] c (fun v L=>Step [] c L∧v=iv r∧I64 r):=by
 refine fnc 31 [] Tryz.func4 Tryz.ntmps4 fun hs=>csr (oB 37 4001 [zt p0.1,vl a2 p0.2.1.1.1 s,vl p p0.2.1.1.2 t,vl q p0.2.1.2.1 u,iv p0.2.1.2.2,vl e p0.2.2.1 j,iv p0.2.2.2.1,vl f p0.2.2.2.2.1 k,vl g p0.2.2.2.2.2.1 l,vl h p0.2.2.2.2.2.2.1 m,vl i p0.2.2.2.2.2.2.2 n] hs fun Y S hs Z b=>od 1 (otx (od 2 (oV b.at 0 (dT 3 (cs (cT 2 (cc _ a (fun d a=>?_) fun d a=>?_))))))))
 ·refine cT 1 (crt (zd ?_));obtain rfl:=sj a;exact rT 4 (iv (-1)) ⟨hs,rfl,(iK (-1))⟩
 refine ckt (cO 1 (oL b.at 1 4 (od 1 (bE a fun a0 y a=>oC hs (zrH (P.step hs) (Q.step hs) (E.step hs) w (zp _) y) ?_))));rintro T M hs _ ⟨rfl,z⟩;replace b:=b.step0 M;refine dT 1 (cs (cT 2 (cc _ a (fun d a=>?_) fun d a=>?_)))
 ·refine cT 1 (crt (zd ?_));obtain rfl:=sj a;exact rT 4 (iv (-1)) ⟨hs,rfl,(iK (-1))⟩
 refine ckt (cO 1 (oL b.at 5 1 (od 1 (bE a fun a1 A a=>oC hs (zlW (F.step hs) z A) ?_))));rintro U N hs _ ⟨rfl,B⟩;replace b:=b.step0 N;refine dT 1 (cs (cT 2 (cc _ a (fun d a=>?_) fun d a=>?_)))
 ·refine cT 1 (crt (zd ?_));obtain rfl:=sj a;exact rT 4 (iv (-1)) ⟨hs,rfl,(iK (-1))⟩
 refine ckt (cO 1 (oL b.at 6 5 (od 1 (bE a fun O C a=>oC hs (zsr x (G.step hs) (H.step hs) (I.step hs) (J.step hs) B C) ?_))));rintro V a3 hs _ ⟨rfl,D⟩;refine dT 1 (cs (cT 2 (cc _ a (fun d a=>?_) fun d a=>?_)))
 ·refine cT 1 (crt (zd ?_));obtain rfl:=sj a;exact rT 4 (iv (-1)) ⟨hs,rfl,(iK (-1))⟩
 refine ckt (cT 2 (crt ?_));obtain rfl:=sj a;exact rT 4 (iv O) ⟨hs,rfl,D⟩
theorem zms {c:K} {p0:Int} (e:0≤p0∧p0≤255) {r:Bool} (a:zgf p0=some r) :
 Fn Tryz.prog 59 #[.int .u8 p0] c (fun v d=>c=d∧v=.bool r):=by
 refine fnc 17 [] Tryz.func59 Tryz.ntmps59 fun hs=>cO 1 (otx (od 2 (osp 5 (decide (p0≥97)) a (fun b a=>?_) fun b a=>?_)))
 ·refine oz [6,7] (od 4 (osp 12 (decide (p0≥65)) a (fun b a=>?_) fun b a=>?_))
  ·refine oz [13,14] (dT 3 (crt ?_));obtain rfl:=sj a;exact rT 2 ff ⟨rfl,rfl⟩
  refine dT 5 (crt ?_);obtain rfl:=sj a;exact rT 2 (bW (p0≤90)) ⟨rfl,rfl⟩
 refine od 3 (osp 9 (decide (p0≤122)) a (fun b a=>?_) fun b a=>?_)
 ·refine od 2 (osp 12 (decide (p0≥65)) a (fun b a=>?_) fun b a=>?_)
  ·refine oz [13,14] (dT 3 (crt ?_));obtain rfl:=sj a;exact rT 2 ff ⟨rfl,rfl⟩
  refine dT 5 (crt ?_);obtain rfl:=sj a;exact rT 2 (bW (p0≤90)) ⟨rfl,rfl⟩
 refine oz [10,11,12,13,14,15] (dT 2 (crt ?_));obtain rfl:=sj a;exact rT 2 tt ⟨rfl,rfl⟩
theorem zrr {b:K} {p0:Int} (e:0≤p0∧p0≤255) {r:Bool} (a:zj3 p0=some r) :
 Fn Tryz.prog 60 #[.int .u8 p0] b (fun v c=>b=c∧v=.bool r):=by
 refine fnc 9 [] Tryz.func60 Tryz.ntmps60 fun hs=>cO 1 (otx (od 2 (osp 5 (decide (p0≥48)) a (fun d a=>?_) fun d a=>?_)))
 ·refine oz [6,7] (dT 2 (crt ?_));obtain rfl:=sj a;exact rT 2 ff ⟨rfl,rfl⟩
 refine dT 4 (crt ?_);obtain rfl:=sj a;exact rT 2 (bW (p0≤57)) ⟨rfl,rfl⟩
theorem zlI {e:K} {p0:BS} (N:p0.length≤9223372036854775807) {r:Bool} (a:zgj p0=some r) :
 Fn Tryz.prog 33 #[zt p0] e (fun v f=>e=f∧v=.bool r):=by
 refine fnc 42 [] Tryz.func33 Tryz.ntmps33 fun hs=>cT 1 (cs ?_);refine zm (fun Z=>∀ (k:Bool) (b:Env),zgi p0 k=some r→cwp Tryz.prog 42 (sub (zz Tryz.f33) [1,0,1]) Z (ups b [(0,zt p0),(17,.bool k)]) e) ?_ fun l=>?_
 ·intro k b a;refine cc _ a (fun g a=>?_) fun g a=>?_
  ·refine cT 1 (crt (zd ?_));obtain rfl:=sj a;exact rT 2 ff ⟨rfl,rfl⟩
  refine ckt (cs (cT 1 (cb 0 ?_)));refine zi 0 (fun Z=>∀ (b:Env),zoC=some r→Z (b) e) ?_ fun G=>?_
  ·intro b a;refine zf (za (cT 1 (crt ?_)));obtain rfl:=sj a;exact rT 2 tt ⟨rfl,rfl⟩
  refine bE a fun H y h=>zn (F:=zbO p0) (J:=fun c I f=>(∃ b,I=ups b [(0,zt p0),(3,iv c)])∧e=f∧I64 c) (s0:=1) (x:=H) kr y ⟨⟨_,eY⟩,rfl,(iK 1)⟩ ?_;rintro c _ _ ⟨⟨b,rfl⟩,rfl,O⟩ m a i;refine cs (cT 4 (cc _ a (fun g a=>?_) fun g a=>?_))
  ·refine ckt (cs (cb 1 ?_));refine zm (fun Z=>∀ (n:Bool) (b:Env),zez c n=some m→cwp Tryz.prog 42 (sub (zz Tryz.f33) [1,0,0,1,0,0,1,0,1,1]) Z (ups b [(0,zt p0),(3,iv c),(41,.bool n)]) e) ?_ fun p=>?_
   ·intro n b a;refine cc _ a (fun g a=>?_) fun g a=>?_
    ·refine cT 1 (crt (zj (zd ?_)));obtain rfl:=i _ (sj a).symm;replace a:=h;refine zr (zj (zd ?_));obtain rfl:=sj a;exact rT 2 ff ⟨rfl,rfl⟩
    refine ck (zc (za (cr (od 3 (oe ?_)))));exact ze (sj a).symm ⟨⟨_,eY⟩,rfl,(zp _)⟩
   refine cO 2 (bE a fun L z a=>oq 26 (.int .u8 (L.toNat:Int)) (fun _=>ziQ 9 .i64 kr kr z) (bE a fun M A a=>ocl 27 (zms (zyH _) A) ?_));rintro _ _ ⟨rfl,rfl⟩;refine od 1 (osp 29 (!M) a (fun d a=>?_) fun d a=>?_)
   ·refine oz [30,31,32,33,34] (od 2 (oz [37,38,39,40] (dT 1 ?_)));exact zl eY (p false  _  a)
   refine od 2 (bE a fun B q a=>oq 32 (.int .u8 (B.toNat:Int)) (fun _=>ziQ 9 .i64 kr kr q) (bE a fun C s a=>ocl 33 (zrr (zyH _) s) ?_));rintro _ _ ⟨rfl,rfl⟩;refine od 2 (osp 36 (!C) a (fun d a=>?_) fun d a=>?_)
   ·refine oz [37,38,39,40] (dT 1 ?_);exact zl eY (p false  _  a)
   refine od 2 (bE a fun j t a=>oq 39 (.int .u8 (j.toNat:Int)) (fun _=>ziQ 9 .i64 kr kr t) (dT 2 ?_));exact zl eY (p (!decide ((j.toNat:Int)=95))  _  a)
  refine cx 0 (zg ?_);obtain rfl:=i _ (sj a).symm;replace a:=h;refine zh ?_;exact zo rfl (G   _  a)
 refine cO 3 ?_;refine osp 7 (decide ((p0.length:Int)<1)) a ?_ ?_
 ·intro d a;refine od 4 ?_;refine osp 12 (decide ((p0.length:Int)>12)) a ?_ ?_
  ·intro d a;refine od 1 (bE a fun D u a=>oq 14 (.int .u8 (D.toNat:Int)) (fun _=>ziQ 9 .i64 kr kr u) (bE a fun E w a=>ocl 15 (zms (zyH _) w) ?_));rintro _ _ ⟨rfl,rfl⟩;refine dT 2 ?_;exact zl eY (l (!E)  _  a)
  intro d a;refine oz [13,14,15,16] (dT 1 ?_);exact zl eY (l true  _  a)
 intro d a;refine oz [8,9,10] (od 2 (oz [13,14,15,16] (dT 1 ?_)));exact zl eY (l true  _  a)
theorem zae {c:K} {p0:Int} {p1:Int} {b:Int} (f:I64 p0) (g:I64 p1) (h:I64 b) {r:Bool} (a:zao p0 p1 b=some r) :
 Fn Tryz.prog 62 #[iv p0,iv p1,iv b] c (fun v d=>c=d∧v=.bool r):=by
 refine fnc 15 [] Tryz.func62 Tryz.ntmps62 fun hs=>cO 1 (otx (od 3 (osp 10 (decide (p0≥p1)) a (fun e a=>?_) fun e a=>?_)))
 ·refine oz [11,12,13] (dT 2 (crt ?_));obtain rfl:=sj a;exact rT 6 ff ⟨rfl,rfl⟩
 refine dT 5 (crt ?_);obtain rfl:=sj a;exact rT 6 (bW (p0≤b)) ⟨rfl,rfl⟩
theorem zgS {c:K} {p0:Int×Int} (d:I64 p0.1) (e:I64 p0.2) {r:Bool} (a:zd8 p0=some r) :
 Fn Tryz.prog 67 #[.agg #[iv p0.1,iv p0.2]] c (fun v f=>Step [] c f∧v=.bool r):=by
 refine fnc 11 [] Tryz.func67 Tryz.ntmps67 fun hs=>csr (oB 78 67001 [iv p0.1,iv p0.2] hs fun m l hs n b=>od 1 (otx (od 1 (oV b.at 0 (bE a fun i g a=>ocl 5 (zae d (iK (-60)) (iK 60) g) ?_)))));rintro _ _ ⟨rfl,rfl⟩;refine osp 6 (i) a (fun j a=>?_) fun j a=>?_
 ·refine oz [7,8,9] (dT 2 (crt ?_));obtain rfl:=sj a;exact rT 2 ff ⟨hs,rfl⟩
 refine od 1 (oV b.at 1 (bE a fun k h a=>ocl 9 (zae e (iK (-60)) (iK 60) h) ?_));rintro _ _ ⟨rfl,rfl⟩;refine dT 2 (crt ?_);obtain rfl:=sj a;exact rT 2 (.bool k) ⟨hs,rfl⟩
theorem zfY {e:K} {p0:Int×Int} {p1:Int×Int} (h:I64 p0.1) (i:I64 p0.2) (j:I64 p1.1) (k:I64 p1.2) {r:Bool} (b:zc2 p0 p1=some r) :
 Fn Tryz.prog 143 #[.agg #[iv p0.1,iv p0.2],.agg #[iv p1.1,iv p1.2]] e (fun v f=>Step [] e f∧v=.bool r):=by
 refine fnc 24 [] Tryz.func143 Tryz.ntmps143 fun hs=>csr (oB 78 143001 [iv p0.1,iv p0.2] hs fun n l hs p a=>oB 78 143002 [iv p1.1,iv p1.2] hs fun q m hs g c=>?_);replace a:=a.step0 g;refine od 1 (otx (od 1 (oV a.at 1 (od 1 (oV c.at 1 (od 1 (osp 10 (decide (p0.2<p1.2)) b (fun d b=>?_) fun d b=>?_)))))))
 ·refine od 1 (oV a.at 1 (od 1 (oV c.at 1 (od 1 (osp 16 (decide (p0.2=p1.2)) b (fun d b=>?_) fun d b=>?_)))))
  ·refine oz [17,18,19,20,21] (dT 3 (crt ?_));obtain rfl:=sj b;exact rT 4 ff ⟨hs,rfl⟩
  refine od 1 (oV a.at 0 (od 1 (oV c.at 0 (dT 4 (crt ?_)))));obtain rfl:=sj b;exact rT 4 (bW (p0.1<p1.1)) ⟨hs,rfl⟩
 refine oz [11,12,13,14,15,16,17,18,19,20,21,22] (dT 2 (crt ?_));obtain rfl:=sj b;exact rT 4 tt ⟨hs,rfl⟩
theorem zsh {g:K} {p0:LP} {d e:Nat} {P:OA} {c2:Nat} (y:At g d e [vl P p0 c2]) (Q:Sl tPlaced g P c2 p0) {r:Bool} (a:zk3 p0=some r) :
 Fn Tryz.prog 110 #[pt d e] g (fun v i=>Step [] g i∧v=.bool r):=by
 refine fnc 56 [] Tryz.func110 Tryz.ntmps110 fun hs=>cT 1 (cs (cO 3 (oV (y.step0 hs) 0 (dT 2 (cc _ a (fun j a=>?_) fun j a=>?_)))))
 ·refine cT 1 (crt (zd ?_));obtain rfl:=sj a;exact rT 2 ff ⟨hs,rfl⟩
 refine ckt (cs (cT 1 (cb 0 ?_)));refine zi 0 (fun Z=>∀ (f:Env) (k:K),Step [] g k→zkx=some r→Z (f) k) ?_ fun X=>?_
 ·intro f k hs a;refine zf (za (cT 1 (crt ?_)));obtain rfl:=sj a;exact rT 2 tt ⟨hs,rfl⟩
 refine bE a fun Y R l=>zn (F:=zbe p0) (J:=fun c E' i=>(∃ f,E'=ups f [(0,pt d e),(3,iv c)])∧Step [] g i∧I64 c) (s0:=0) (x:=Y) kr R ⟨⟨_,eY⟩,hs,(iK 0)⟩ ?_;rintro c _ a7 ⟨⟨f,rfl⟩,hs,a8⟩ D a m;refine cs (cO 4 (oV (y.step0 hs) 0 (dT 2 (cc _ a (fun j a=>?_) fun j a=>?_))))
 ·refine ckt (cs (cb 1 (cO 3 (oV (y.step0 hs) 0 (od 1 (bE a fun E S a=>oJ (Q.step hs) S fun a9 b0 n p G z=>oL z.at 0 3 (oA 80 110001 [iv 0,iv 0,iv 0] hs fun q a2 hs b1 b=>oS 0 [iv E.1.1,iv E.1.2,iv E.2] b hs fun a3 hs b2 b=>ot ?_)))))));refine zm (fun Z=>∀ (s:Bool) (f:Env) (h:K),Step [] g h→zch c s=some D→cwp Tryz.prog 56 (sub (zz Tryz.f110) [1,1,0,0,1,0,0,1,0,1,1]) Z (ups f [(0,pt d e),(3,iv c),(55,.bool s)]) h) ?_ fun A=>?_
  ·intro s f h hs a;refine cc _ a (fun j a=>?_) fun j a=>?_
   ·refine cT 1 (crt (zj (zd ?_)));obtain rfl:=m _ (sj a).symm;replace a:=l;refine zr (zj (zd ?_));obtain rfl:=sj a;exact rT 2 ff ⟨hs,rfl⟩
   refine ck (zc (za (cr (od 3 (oe ?_)))));exact ze (sj a).symm ⟨⟨_,eY⟩,hs,(zp _)⟩
  refine cs (cx_ 25 [0,1,2,3,4,5,6,7,8,9,10,11,12,13,14,15,16,17,18,19,20,21,22,23,24] [2,7] 25 [] (xp 27 (pt q 0) (xL b.at 0 2 (bE a fun C H a=>xcl 29 (zgS n p H) ?_))));rintro _ a4 ⟨t,rfl⟩;refine ⟨t,?_⟩;replace hs:=hs.tr0 t;replace b:=b.step0 t;refine xp 30 (.bool (!C)) ?_;refine xsp 31 (!C) a ?_ ?_
  ·intro u a;refine xp 32 (pt q 2) (xV b.at 2 (bE a fun w I a=>xcl 34 (zae G (iK 0) (iK 159) I) ?_));rintro _ _ ⟨rfl,rfl⟩;refine ⟨Step.refl _ _,?_⟩;refine xp 35 (.bool (!w)) (xp 36 (.bool (!w)) ?_);refine xsp 37 (!w) a ?_ ?_
   ·intro u a;refine xp 38 (iv c) (xp 39 (bW (c>0)) ?_);refine xsp 40 (decide (c>0)) a ?_ ?_
    ·intro u a;refine xs 41 (xs 42 (xs 43 (xs 44 (xs 45 (xs 46 (xs 47 (xs 48 (xs 49 (xs 50 (xs 51 (xe (oz [52,53] (dT 2 ?_)))))))))))));exact zl eY (A false  _ _ hs  a)
    intro u a;refine xp 41 (pt d e) (xp 42 (pt d e) (xp 43 (pt d e) (xV (y.step0 hs) 0 (xp 45 (iv c) (xp 46 (iv (w64 (c - 1))) (bE a fun b3 L a=>xI (Q.step hs) L fun T U M N a5 B=>xp 48 (pt T U) (xL B.at 0 2 (xp 50 (pt q 0) (xL b.at 0 2 (xe (bE a fun V O a=>oC hs (zfY M N n p O) ?_)))))))))));rintro a6 b4 hs _ rfl;refine dT 3 ?_;exact zl eY (A (!V)  _ _ hs  a)
   intro u a;refine xs 38 (xs 39 (xs 40 (xs 41 (xs 42 (xs 43 (xs 44 (xs 45 (xs 46 (xs 47 (xs 48 (xs 49 (xs 50 (xs 51 (xe (oz [52,53,54] (dT 1 ?_))))))))))))))));exact zl eY (A true  _ _ hs  a)
  intro u a;refine xs 32 (xs 33 (xs 34 (xs 35 (xp 36 tt (xp 37 tt (xs 38 (xs 39 (xs 40 (xs 41 (xs 42 (xs 43 (xs 44 (xs 45 (xs 46 (xs 47 (xs 48 (xs 49 (xs 50 (xs 51 (xe (oz [52,53,54] ?_)))))))))))))))))))));refine dT 1 ?_;exact zl eY (A true  _ _ hs  a)
 refine cx 0 (zg ?_);obtain rfl:=m _ (sj a).symm;replace a:=l;refine zh ?_;exact zo rfl (X   _ _ hs  a)
theorem znn {a:K} {p0:LG×LT} {b c:Nat} {e f:OA} {c2 g:Nat} {p1:Int} (k:At a b c [vl e p0.1 c2,vl f p0.2 g]) (m:Sl tGlue a e c2 p0.1) (f6:Sl tTile a f g p0.2) (h:I64 p1) {r:Bool} (d:zhv p0 p1=some r) :
 Fn Tryz.prog 111 #[pt b c,iv p1] a (fun v i=>a=i∧v=.bool r):=by
 refine fnc 13 [] Tryz.func111 Tryz.ntmps111 fun hs=>cO 1 (otx (od 4 (oV (k.step0 hs) 1 (od 2 (bE d fun l j d=>ocl 12 (zae h (iK 0) (zp _) j) ?_)))));rintro _ _ ⟨rfl,rfl⟩;refine dT 1 (crt ?_);obtain rfl:=sj d;exact rT 4 (.bool l) ⟨rfl,rfl⟩
theorem zmR {b:K} {p0:LG×LT} {f g:Nat} {w y z:OA} {c2 A B:Nat} {p1:LP} {h i:Nat} (G:At b f g [vl w p0.1 c2,vl y p0.2 A]) (H:Sl tGlue b w c2 p0.1) (f6:Sl tTile b y A p0.2) (m1:At b h i [vl z p1 B]) (C:Sl tPlaced b z B p1) {r:Bool} (a:zjB p0 p1=some r) :
 Fn Tryz.prog 88 #[pt f g,pt h i] b (fun v j=>Step [] b j∧v=.bool r):=by
 refine fnc 29 [] Tryz.func88 Tryz.ntmps88 fun hs=>cT 1 (cs (cO 1 (bE a fun P p a=>oC hs (zsh ((m1.step0 hs).part 0 1) C p) ?_)));rintro k Q hs _ rfl;refine dT 1 (cc _ a (fun l a=>?_) fun l a=>?_)
 ·refine cT 1 (crt (zd ?_));obtain rfl:=sj a;exact rT 4 ff ⟨hs,rfl⟩
 refine ckt (cs (cT 1 (cb 0 ?_)));refine zi 0 (fun Z=>∀ (m:Env),zmS=some r→Z (m) k) ?_ fun I=>?_
 ·intro m a;refine zf (za (cT 1 (crt ?_)));obtain rfl:=sj a;exact rT 4 tt ⟨hs,rfl⟩
 refine bE a fun D q d=>zn (F:=zcJ p0 p1) (J:=fun c L j=>(∃ m,L=ups m [(0,pt f g),(1,pt h i),(5,iv c)])∧k=j∧I64 c) (s0:=0) (x:=D) kr q ⟨⟨_,eY⟩,rfl,(iK 0)⟩ ?_;rintro c _ _ ⟨⟨m,rfl⟩,rfl,M⟩ E a e;refine cs (cO 4 (oV (m1.step0 hs) 0 (dT 2 (cc _ a (fun l a=>?_) fun l a=>?_))))
 ·refine ckt (cs (cb 1 (cO 4 (oV (m1.step0 hs) 0 (od 1 (bE a fun R s a=>oJ (C.step hs) s fun S T N O t n=>od 1 (oV n.at 2 (bE a fun U u a=>ocl 27 (znn ((G.step0 hs).part 0 2) (H.step hs) (f6.step hs) t u) ?_))))))));rintro _ _ ⟨rfl,rfl⟩;refine dT 1 (cc _ a (fun l a=>?_) fun l a=>?_)
  ·refine cT 1 (crt (zj (zd ?_)));obtain rfl:=e _ (sj a).symm;replace a:=d;refine zr (zj (zd ?_));obtain rfl:=sj a;exact rT 4 ff ⟨hs,rfl⟩
  refine ck (zc (za (cr (od 3 (oe ?_)))));exact ze (sj a).symm ⟨⟨_,eY⟩,rfl,(zp _)⟩
 refine cx 0 (zg ?_);obtain rfl:=e _ (sj a).symm;replace a:=d;refine zh ?_;exact zo rfl (I   _  a)
theorem zsj {c:K} {p0:LG×LT} {f g:Nat} {n p:OA} {c2 q:Nat} {p1:BS} (s:At c f g [vl n p0.1 c2,vl p p0.2 q]) (y:Sl tGlue c n c2 p0.1) (f6:Sl tTile c p q p0.2) (E:p1.length≤9223372036854775807) {r:Int} (a:zgR p0 p1=some r) :
 Fn Tryz.prog 139 #[pt f g,zt p1] c (fun v h=>c=h∧v=iv r∧I64 r):=by
 refine fnc 27 [] Tryz.func139 Tryz.ntmps139 fun hs=>cT 1 (cs (cT 1 (cb 0 ?_)));refine zi 0 (fun Z=>∀ (i:Env),zkA=some r→Z (i) c) ?_ fun z=>?_
 ·intro i a;refine zf (za (cT 1 (crt ?_)));obtain rfl:=sj a;exact rT 4 (iv 0) ⟨rfl,rfl,(iK 0)⟩
 refine bE a fun t k d=>zn (F:=zhH p0 p1) (J:=fun b A h=>(∃ i,A=ups i [(0,pt f g),(1,zt p1),(5,iv b)])∧c=h∧I64 b) (s0:=0) (x:=t) kr k ⟨⟨_,eY⟩,rfl,(iK 0)⟩ ?_;rintro b _ _ ⟨⟨i,rfl⟩,rfl,B⟩ w a e;refine cs (cO 4 (oV (s.step0 hs) 0 (dT 2 (cc _ a (fun l a=>?_) fun l a=>?_))))
 ·refine ckt (cs (cb 1 (cO 3 (oV (s.step0 hs) 0 (od 1 (bE a fun u m a=>oJ y m fun G H C D j=>od 1 (oV j.at 0 (od 1 (oq 24 (bW (u.1=p1)) (fun _=>zrw kr) (ot (cc _ a (fun l a=>?_) fun l a=>?_)))))))))))
  ·refine cT 3 (crt (zj (zd ?_)));obtain rfl:=e _ (sj a).symm;replace a:=d;refine zr (zj (zd ?_));obtain rfl:=sj a;exact rT 4 (iv (w64 (b+1))) ⟨rfl,rfl,(zp _)⟩
  refine ck (zc (za (cr (od 3 (oe ?_)))));exact ze (sj a).symm ⟨⟨_,eY⟩,rfl,(zp _)⟩
 refine cx 0 (zg ?_);obtain rfl:=e _ (sj a).symm;replace a:=d;refine zh ?_;exact zo rfl (z   _  a)
theorem zsi {c:K} {p0:LG×LT} {f g:Nat} {p q:OA} {c2 s:Nat} {p1:BS} (t:At c f g [vl p p0.1 c2,vl q p0.2 s]) (L:Sl tGlue c p c2 p0.1) (f6:Sl tTile c q s p0.2) (C:p1.length≤9223372036854775807) {r:Int} (a:zgQ p0 p1=some r) :
 Fn Tryz.prog 140 #[pt f g,zt p1] c (fun v h=>c=h∧v=iv r∧I64 r):=by
 refine fnc 26 [] Tryz.func140 Tryz.ntmps140 fun hs=>cT 1 (cs (cT 1 (cb 0 ?_)));refine zi 0 (fun Z=>∀ (i:Env),zkz=some r→Z (i) c) ?_ fun z=>?_
 ·intro i a;refine zf (za (cT 1 (crt ?_)));obtain rfl:=sj a;exact rT 4 (iv (-1)) ⟨rfl,rfl,(iK (-1))⟩
 refine bE a fun u k d=>zn (F:=zky p0 p1) (J:=fun b A h=>(∃ i,A=ups i [(0,pt f g),(1,zt p1),(5,iv b)])∧c=h∧I64 b) (s0:=0) (x:=u) kr k ⟨⟨_,eY⟩,rfl,(iK 0)⟩ ?_;rintro b _ _ ⟨⟨i,rfl⟩,rfl,l⟩ y a e;refine cs (cO 4 (oV (t.step0 hs) 1 (dT 2 (cc _ a (fun m a=>?_) fun m a=>?_))))
 ·refine ckt (cs (cb 1 (cO 3 (oV (t.step0 hs) 1 (od 1 (bE a fun w n a=>oJ f6 n fun D E B G H I j=>od 1 (oV j.at 0 (od 1 (oq 24 (bW (w.1=p1)) (fun _=>zrw kr) (ot (cc _ a (fun m a=>?_) fun m a=>?_)))))))))))
  ·refine cT 2 (crt (zj (zd ?_)));obtain rfl:=e _ (sj a).symm;replace a:=d;refine zr (zj (zd ?_));obtain rfl:=sj a;exact rT 4 (iv b) ⟨rfl,rfl,l⟩
  refine ck (zc (za (cr (od 3 (oe ?_)))));exact ze (sj a).symm ⟨⟨_,eY⟩,rfl,(zp _)⟩
 refine cx 0 (zg ?_);obtain rfl:=e _ (sj a).symm;replace a:=d;refine zh ?_;exact zo rfl (z   _  a)
theorem zpK {l:K} {p0:LG×LT} {e f:Nat} {a1 a4:OA} {c2 c5:Nat} (m:At l e f [vl a1 p0.1 c2,vl a4 p0.2 c5]) (M:Sl tGlue l a1 c2 p0.1) (f6:Sl tTile l a4 c5 p0.2) {r:Bool} (a:zjD p0=some r) :
 Fn Tryz.prog 107 #[pt e f] l (fun v j=>Step [] l j∧v=.bool r):=by
 refine fnc 115 [] Tryz.func107 Tryz.ntmps107 fun hs=>cT 1 (cs ?_);refine zm (fun Z=>∀ (T:Bool) (b:Env),zhu p0 T=some r→cwp Tryz.prog 115 (sub (zz Tryz.f107) [1,0,1]) Z (ups b [(0,pt e f),(29,.bool T)]) l) ?_ fun U=>?_
 ·intro T b a;refine cc _ a (fun h a=>?_) fun h a=>?_
  ·refine cT 1 (crt (zd ?_));obtain rfl:=sj a;exact rT 2 ff ⟨hs,rfl⟩
  refine ckt (cs (cT 1 (cb 0 ?_)));refine zi 0 (fun Z=>∀ (b:Env) (t:K),Step [] l t→zmV p0=some r→Z (ups b [(0,pt e f)]) t) ?_ fun J2=>?_
  ·intro b t hs a;refine zf (za (cs (cT 1 (cb 2 ?_))));refine zi 2 (fun Z=>∀ (b:Env) (u:K),Step [] l u→zmU=some r→Z (b) u) ?_ fun J3=>?_
   ·intro b u hs a;refine zf (za (cT 1 (crt ?_)));obtain rfl:=sj a;exact rT 2 tt ⟨hs,rfl⟩
   refine bE a fun b9 V n=>zn (F:=zcK p0) (J:=fun c E j=>(∃ b,E=ups b [(0,pt e f),(5,iv c)])∧Step [] l j∧I64 c) (s0:=0) (x:=b9) kr V ⟨⟨_,eY⟩,hs,(iK 0)⟩ ?_;rintro c _ d7 ⟨⟨b,rfl⟩,hs,d8⟩ z a p;refine cs (cO 4 (oV (m.step0 hs) 1 (dT 2 (cc _ a (fun h a=>?_) fun h a=>?_))))
   ·refine ckt (cs (cb 3 (cO 3 (oV (m.step0 hs) 1 (od 1 (bE a fun q X a=>oJ (f6.step hs) X fun e6 e7 G c0 c1 s N=>oL N.at 0 2 (oA 82 107002 [zt ([]:BS),sl none 0 0] hs fun R d9 hs c3 d=>?_)))))));replace s:=s.step c3;refine oS 0 [zt q.1,vl c0 q.2 c1] d hs fun w hs c4 d=>?_;replace s:=s.step c4;refine ot (cs ?_);refine zm (fun Z=>∀ (H:Bool) (b:Env),zfG p0 c q H=some z→cwp Tryz.prog 115 (sub (zz Tryz.f107) [1,0,1,0,0,1,0,0,1,0,1,1,1]) Z (ups b [(0,pt e f),(5,iv c),(6,pt R 0),(98,.bool H)]) w) ?_ fun Y=>?_
    ·intro H b a;refine cc _ a (fun h a=>?_) fun h a=>?_
     ·refine cT 1 (crt (zd (zj (zd ?_))));obtain rfl:=p _ (sj a).symm;replace a:=n;refine zr (zj (zd ?_));obtain rfl:=sj a;exact rT 2 ff ⟨hs,rfl⟩
     refine ckt (cT 1 (cb 4 ?_));refine zi 4 (fun Z=>∀ (b:Env),zj2 c=some z→Z (ups b [(0,pt e f),(5,iv c)]) w) ?_ fun J5=>?_
     ·intro b a;refine zf (zc (za (cr (od 3 (oe ?_)))));exact ze (sj a).symm ⟨⟨_,eY⟩,hs,(zp _)⟩
     refine bE a fun c6 a0 A=>zn (F:=zfE p0 q) (J:=fun y E j=>(∃ b,E=ups b [(0,pt e f),(5,iv c),(6,pt R 0),(7,iv y)])∧w=j∧I64 y) (s0:=0) (x:=c6) kr a0 ⟨⟨_,eY⟩,rfl,(iK 0)⟩ ?_;rintro y _ _ ⟨⟨b,rfl⟩,rfl,e1⟩ d4 a B;refine cs (cT 2 (cc _ a (fun h a=>?_) fun h a=>?_))
     ·refine ckt (cs (cb 5 (cs (cd 10 (dd 1 (dV d.at 1 (dd 1 (bE a fun e8 a2 a=>dI s a2 fun e9 f0 a3 O=>dV O.at 0 (dd 3 (dV (m.step0 hs) 0 (dd 1 (de (bE a fun f1 a5 a=>ocl 113 (zae a3 (iK 0) (zhj (M.step hs).most) a5) ?_)))))))))))));rintro _ _ ⟨rfl,rfl⟩;refine dT 1 (cc _ a (fun h a=>?_) fun h a=>?_)
      ·refine cT 1 (crt (zj (zd ?_)));obtain rfl:=B _ (sj a).symm;replace a:=A;refine zr (zj (zj (zd ?_)));obtain rfl:=p _ (sj a).symm;replace a:=n;refine zr (zj (zd ?_));obtain rfl:=sj a;exact rT 2 ff ⟨hs,rfl⟩
      refine ck (zc (za (cr (od 3 (oe ?_)))));exact ze (sj a).symm ⟨⟨_,eY⟩,rfl,(zp _)⟩
     refine cx 4 (zg ?_);obtain rfl:=B _ (sj a).symm;replace a:=A;refine zh ?_;exact zo eY (J5   _  a)
    refine cO 1 (oV d.at 0 (bE a fun c7 a6 a=>ocl 83 (zlI G a6) ?_));rintro _ _ ⟨rfl,rfl⟩;refine od 1 (osp 85 (!c7) a (fun k a=>?_) fun k a=>?_)
    ·refine od 1 (oV d.at 1 (od 3 ?_));refine osp 91 (!decide ((q.2.length:Int)=4)) a ?_ ?_
     ·intro k a;refine od 2 (oV d.at 0 (bE a fun c8 a7 a=>ocl 95 (zsi ((m.step0 hs).part 0 2) (M.step hs) (f6.step hs) G a7) ?_));rintro _ _ ⟨rfl,rfl,e2⟩;refine dT 3 ?_;exact zl eY (Y (!decide (c8=c))  _  a)
     intro k a;refine oz [92,93,94,95,96,97] (dT 1 ?_);exact zl eY (Y true  _  a)
    refine oz [86,87,88,89] (od 2 (oz [92,93,94,95,96,97] (dT 1 ?_)));exact zl eY (Y true  _  a)
   refine cx 2 (zg ?_);obtain rfl:=p _ (sj a).symm;replace a:=n;refine zh ?_;exact zo rfl (J3   _ _ hs  a)
  refine bE a fun c9 a8 C=>zn (F:=zcL p0) (J:=fun i E j=>(∃ b,E=ups b [(0,pt e f),(3,iv i)])∧Step [] l j∧I64 i) (s0:=0) (x:=c9) kr a8 ⟨⟨_,eY⟩,hs,(iK 0)⟩ ?_;rintro i _ e3 ⟨⟨b,rfl⟩,hs,f2⟩ P a D;refine cs (cO 4 (oV (m.step0 hs) 0 (dT 2 (cc _ a (fun h a=>?_) fun h a=>?_))))
  ·refine ckt (cs (cb 1 (cO 3 (oV (m.step0 hs) 0 (od 1 (bE a fun S a9 a=>oJ (M.step hs) a9 fun f4 f5 I b0 Q=>oL Q.at 0 2 (oA 149 107001 [zt ([]:BS),iv 0] hs fun f7 e4 hs f8 g=>oS 0 [zt S.1,iv S.2] g hs fun b1 hs f9 g=>ot ?_)))))));refine zm (fun Z=>∀ (L:Bool) (b:Env),zfF i L=some P→cwp Tryz.prog 115 (sub (zz Tryz.f107) [1,1,0,0,1,0,0,1,0,1,1]) Z (ups b [(0,pt e f),(3,iv i),(64,.bool L)]) b1) ?_ fun J6=>?_
   ·intro L b a;refine cc _ a (fun h a=>?_) fun h a=>?_
    ·refine cT 1 (crt (zj (zd ?_)));obtain rfl:=D _ (sj a).symm;replace a:=C;refine zr (zj (zd ?_));obtain rfl:=sj a;exact rT 2 ff ⟨hs,rfl⟩
    refine ck (zc (za (cr (od 3 (oe ?_)))));exact ze (sj a).symm ⟨⟨_,eY⟩,hs,(zp _)⟩
   refine cO 1 (oV g.at 0 (bE a fun d0 b3 a=>ocl 48 (zlI I b3) ?_));rintro _ _ ⟨rfl,rfl⟩;refine od 1 (osp 50 (!d0) a (fun k a=>?_) fun k a=>?_)
   ·refine od 1 (oV g.at 1 (bE a fun d2 b4 a=>ocl 53 (zae b0 (iK 1) (iK 4) b4) ?_));rintro _ _ ⟨rfl,rfl⟩;refine od 2 (osp 56 (!d2) a (fun k a=>?_) fun k a=>?_)
    ·refine od 2 (oV g.at 0 (bE a fun d3 b5 a=>ocl 60 (zsj ((m.step0 hs).part 0 2) (M.step hs) (f6.step hs) I b5) ?_));rintro _ _ ⟨rfl,rfl,e5⟩;refine dT 4 ?_;exact zl eY (J6 (!decide (d3=(w64 (i+1))))  _  a)
    refine oz [57,58,59,60,61,62,63] (dT 1 ?_);exact zl eY (J6 true  _  a)
   refine oz [51,52,53,54] (od 2 (oz [57,58,59,60,61,62,63] (dT 1 ?_)));exact zl eY (J6 true  _  a)
  refine cx 0 (zg ?_);obtain rfl:=D _ (sj a).symm;replace a:=C;refine zh ?_;exact zo eY (J2   _ _ hs  a)
 refine cO 3 (oV (m.step0 hs) 0 (od 2 ?_));refine osp 14 (decide ((p0.1.length:Int)>200)) a ?_ ?_
 ·intro k a;refine od 3 (oV (m.step0 hs) 1 (od 3 ?_));refine osp 22 (decide ((p0.2.length:Int)<1)) a ?_ ?_
  ·intro k a;refine od 3 (oV (m.step0 hs) 1 (dT 3 ?_));exact zl eY (U (decide ((p0.2.length:Int)>160))  _  a)
  intro k a;refine oz [23,24,25,26,27,28] (dT 1 ?_);exact zl eY (U true  _  a)
 intro k a;refine oz [15,16,17,18,19,20] (od 2 (oz [23,24,25,26,27,28] (dT 1 ?_)));exact zl eY (U true  _  a)
theorem znI {b:K} {p0:Int} (c:I64 p0) {r:Bool} (a:zee p0=some r) :
 Fn Tryz.prog 108 #[iv p0] b (fun v d=>b=d∧v=.bool r):=by
 refine fnc 5 [] Tryz.func108 Tryz.ntmps108 fun hs=>cO 1 (otx (od 1 (bE a fun f e a=>ocl 4 (zae c (iK 1) (iK 16) e) ?_)));rintro _ _ ⟨rfl,rfl⟩;refine dT 1 (crt ?_);obtain rfl:=sj a;exact rT 2 (.bool f) ⟨rfl,rfl⟩
theorem zsZ {b:K} {p0:Int} (c:I64 p0) {r:Bool} (a:zr1 p0=some r) :
 Fn Tryz.prog 177 #[iv p0] b (fun v d=>b=d∧v=.bool r):=by
 refine fnc 5 [] Tryz.func177 Tryz.ntmps177 fun hs=>cO 1 (otx (od 1 (bE a fun f e a=>ocl 4 (zae c (iK 0) (iK 3) e) ?_)));rintro _ _ ⟨rfl,rfl⟩;refine dT 1 (crt ?_);obtain rfl:=sj a;exact rT 2 (.bool f) ⟨rfl,rfl⟩
theorem zjE {b:K} {p0:Int} (c:I64 p0) {r:Int} (a:zfH p0=some r) :
 Fn Tryz.prog 148 #[iv p0] b (fun v d=>b=d∧v=iv r∧I64 r):=by
 refine fnc 9 [] Tryz.func148 Tryz.ntmps148 fun hs=>cT 1 (cs (cO 1 (bE a fun g e a=>ocl 4 (zsZ c e) ?_)));rintro _ _ ⟨rfl,rfl⟩;refine dT 1 (cc _ a (fun f a=>?_) fun f a=>?_)
 ·refine cT 1 (crt (zd ?_));obtain rfl:=sj a;exact rT 2 (iv (-1)) ⟨rfl,rfl,(iK (-1))⟩
 refine ckt (cT 4 (crt ?_));obtain rfl:=sj a;exact rT 2 (iv (Int.tmod (w64 (p0+2)) 4)) ⟨rfl,rfl,(zuI (by decide) (zp _))⟩
theorem zkN {b:K} {p0:LG×LT} {d e:Nat} {g h:OA} {c2 i:Nat} {p1:Int} (l:At b d e [vl g p0.1 c2,vl h p0.2 i]) (m:Sl tGlue b g c2 p0.1) (f6:Sl tTile b h i p0.2) (s:I64 p1) {r:Int} (a:zar p0 p1=some r) :
 Fn Tryz.prog 149 #[pt d e,iv p1] b (fun v j=>b=j∧v=iv r∧I64 r):=by
 refine fnc 16 [] Tryz.func149 Tryz.ntmps149 fun hs=>cT 1 (cs (cT 2 (cc _ a (fun n a=>?_) fun n a=>?_)))
 ·refine cT 1 (crt (zd ?_));obtain rfl:=sj a;exact rT 4 (iv 0) ⟨rfl,rfl,(iK 0)⟩
 refine ckt (cO 3 (oV (l.step0 hs) 0 (od 2 (bE a fun p k a=>oJ m k fun t u q f c=>od 1 (oV c.at 1 (dT 1 (crt ?_)))))));obtain rfl:=sj a;exact rT 4 (iv p.2) ⟨rfl,rfl,f⟩
theorem zkB {b:K} {p0:LG×LT} {g h:Nat} {w x:OA} {c2 y:Nat} {p1:Int} {i:Int} {j:Int} (k:At b g h [vl w p0.1 c2,vl x p0.2 y]) (E:Sl tGlue b w c2 p0.1) (f6:Sl tTile b x y p0.2) (L:I64 p1) (z:I64 i) (M:I64 j) {r:Int} (a:zdH p0 p1 i j=some r) :
 Fn Tryz.prog 151 #[pt g h,iv p1,iv i,iv j] b (fun v A=>b=A∧v=iv r∧I64 r):=by
 refine fnc 38 [] Tryz.func151 Tryz.ntmps151 fun hs=>cO 1 (otx (od 3 (oV (k.step0 hs) 1 (od 1 (bE a fun N l a=>oJ f6 l fun O P F Q R B c=>od 1 (oV c.at 1 (od 1 (bE a fun S m a=>oJ B m fun T U n d=>oV d.at 0 (dT 1 (cs (cs (cd 13 (dd 2 ?_)))))))))))));refine dd 2 (dV (k.step0 hs) 1 (dd 1 (bE a fun V p a=>dI f6 p fun X Y G Z a0 C e=>dd 1 (dV e.at 1 (dd 1 (bE a fun a2 q a=>dc 31 (zjE z q) fun H=>bE a fun a3 s a=>dI C s fun a5 a6 I f=>dV f.at 0 (de (dT 1 (cc _ a (fun J a=>?_) fun J a=>?_)))))))))
 ·refine cT 1 (crt (zd ?_));obtain rfl:=sj a;exact rT 8 (iv 0) ⟨rfl,rfl,(iK 0)⟩
 refine ckt (cO 2 (bE a fun D t a=>ocl 37 (zkN ((k.step0 hs).part 0 2) E f6 n t) ?_));rintro _ _ ⟨rfl,rfl,u⟩;refine dT 1 (crt ?_);obtain rfl:=sj a;exact rT 8 (iv D) ⟨rfl,rfl,u⟩
theorem zci {i:K} {p0:Int×Int} {p1:Int} (j:I64 p0.1) (k:I64 p0.2) (G:I64 p1) {r:(Int×Int)} (c:zaa p0 p1=some r) :
 Fn Tryz.prog 144 #[.agg #[iv p0.1,iv p0.2],iv p1] i (fun v q=>Step [] i q∧v=.agg #[iv r.1,iv r.2]∧I64 r.1∧I64 r.2):=by
 refine fnc 31 [] Tryz.func144 Tryz.ntmps144 fun hs=>csr (oB 78 144001 [iv p0.1,iv p0.2] hs fun s H hs J a=>oA 78 144002 [iv 0,iv 0] hs fun m A hs t b=>?_);replace a:=a.step0 t;refine ot ?_;refine zm (fun Z=>∀ (e:Int) (f:Int) (u:Env) (g:K),Step [] i g→I64 e→I64 f→Box (i.H.size,144001) g s [iv e,iv f] 78→Box (i.H.size,144002) g m [iv 0,iv 0] 78→zab e f=some r→cwp Tryz.prog 31 (sub (zz Tryz.f144) [1,1]) Z (ups u [(2,pt s 0),(4,pt m 0)]) g) ?_ fun l=>?_
 ·intro e f u g hs n p a b c;refine csr (oL a.at 0 2 (oS 0 [iv e,iv f] b hs fun B hs I b=>ot (crt ?_)));obtain rfl:=sj c;refine rt [.cell 4 78] [.agg #[iv e,iv f]] ⟨⟨m,0,[iv e,iv f],rfl,rfl,kr,kr,(b.at.part 0 2).2⟩,trivial⟩ ?_;exact ⟨hs,rfl,n,p⟩
 refine cs (cT 1 (cb 0 (cT 2 (cc _ c (fun h c=>?_) fun h c=>?_))))
 ·refine cr (od 1 (oV a.at 1 (od 2 (oS 1 [iv p0.1,iv (w64 (p0.2+1))] a hs fun C hs w d=>?_))));replace b:=b.step w (nm1 (b.ne a (zk kr)));replace a:=d;refine oe (zc (za ?_));exact zl eY (l p0.1 (w64 (p0.2+1))  _ _ hs j (zp _) a b c)
 refine cT 2 (cc _ c (fun h c=>?_) fun h c=>?_)
 ·refine cr (od 1 (oV a.at 0 (od 2 (oS 0 [iv (w64 (p0.1+1)),iv p0.2] a hs fun D hs x d=>?_))));replace b:=b.step x (nm1 (b.ne a (zk kr)));replace a:=d;refine oe (zc (za ?_));exact zl eY (l (w64 (p0.1+1)) p0.2  _ _ hs (zp _) k a b c)
 refine cT 2 (cc _ c (fun h c=>?_) fun h c=>?_)
 ·refine cr (od 1 (oV a.at 1 (od 2 (oS 1 [iv p0.1,iv (w64 (p0.2 - 1))] a hs fun E hs y d=>?_))));replace b:=b.step y (nm1 (b.ne a (zk kr)));replace a:=d;refine oe (zc (za ?_));exact zl eY (l p0.1 (w64 (p0.2 - 1))  _ _ hs j (zp _) a b c)
 refine cT 2 (cc _ c (fun h c=>?_) fun h c=>?_)
 ·refine cr (od 1 (oV a.at 0 (od 2 (oS 0 [iv (w64 (p0.1 - 1)),iv p0.2] a hs fun F hs z d=>?_))));replace b:=b.step z (nm1 (b.ne a (zk kr)));replace a:=d;refine oe (zc (za ?_));exact zl eY (l (w64 (p0.1 - 1)) p0.2  _ _ hs (zp _) k a b c)
 refine ck (zc (za ?_));exact zl eY (l p0.1 p0.2  _ _ hs j k a b c)
theorem zgO {f:K} {p0:LP} {h i:Nat} {I:OA} {c2:Nat} {p1:Int×Int} (p:At f h i [vl I p0 c2]) (y:Sl tPlaced f I c2 p0) (L:I64 p1.1) (M:I64 p1.2) {r:Int} (a:zaT p0 p1=some r) :
 Fn Tryz.prog 145 #[pt h i,.agg #[iv p1.1,iv p1.2]] f (fun v j=>Step [] f j∧v=iv r∧I64 r):=by
 refine fnc 53 [] Tryz.func145 Tryz.ntmps145 fun hs=>csr (oB 78 145001 [iv p1.1,iv p1.2] hs fun q a4 hs s9 b=>od 1 (otx (od 1 (otx (od 3 (oV (p.step0 hs) 0 (dT 2 (cs (cb 0 ?_)))))))));refine zi 0 (fun Z=>∀ (d:Int) (g:Env) (e:K),Step [] f e→I64 d→Box (f.H.size,145001) e q [iv p1.1,iv p1.2] 78→zjC p0 p1 d=some r→Z (ups g [(0,pt h i),(3,pt q 0),(5,iv d)]) e) ?_ fun R=>?_
 ·intro d g e hs z b a;refine zf (za (cs ?_));refine zm (fun Z=>∀ (l:Bool) (g:Env),zgP d l=some r→cwp Tryz.prog 53 (sub (zz Tryz.f145) [1,0,1,1,1,1]) Z (ups g [(5,iv d),(51,.bool l)]) e) ?_ fun N=>?_
  ·intro l g a;refine cc _ a (fun m a=>?_) fun m a=>?_
   ·refine cT 2 (crt (zd ?_));obtain rfl:=sj a;exact rT 4 (iv d) ⟨hs,rfl,z⟩
   refine ckt (cT 1 (crt ?_));obtain rfl:=sj a;exact rT 4 (iv (-1)) ⟨hs,rfl,(iK (-1))⟩
  refine cs (cd 17 (dd 4 (dV (p.step0 hs) 0 (dd 2 ?_))));refine dsp 40 (decide (d<(p0.length:Int))) a ?_ ?_
  ·intro S a;refine ds 41 (ds 42 (ds 43 (ds 44 (ds 45 (ds 46 (ds 47 (ds 48 (ds 49 (de (os 50 (dT 1 ?_)))))))))));exact zl eY (N false  _  a)
  intro S a;refine dd 3 (dV (p.step0 hs) 0 (dd 1 (bE a fun k A a=>dI (y.step hs) A fun a5 a6 U V X s=>dd 1 (dL s.at 0 2 (dL b.at 0 2 (de (oq 50 (.bool (decide (k.1.1=p1.1)&&decide (k.1.2=p1.2))) (fun _=>zgn (T:=78) (k1:=.i64) (k2:=.i64) kr kr) (dT 1 ?_))))))));exact zl eY (N (decide (k.1.1=p1.1)&&decide (k.1.2=p1.2))  _  a)
 refine bE a fun O B t=>zn (F:=zey p0 p1) (J:=fun c Y j=>(∃ g,Y=ups g [(0,pt h i),(3,pt q 0),(5,iv c.1),(6,iv c.2)])∧Step [] f j∧I64 c.1∧I64 c.2∧Box (f.H.size,145001) j q [iv p1.1,iv p1.2] 78) (s0:=(0,(p0.length:Int))) (x:=O) kr B ⟨⟨_,eY⟩,hs,(iK 0),(zhj (y.step hs).most),b⟩ ?_;rintro c _ a0 ⟨⟨g,rfl⟩,hs,n,C,b⟩ Q a u;refine cs (cT 3 (cc _ a (fun m a=>?_) fun m a=>?_))
 ·refine ckt (cb 1 (cT 5 (cs (cd 9 (dd 3 (dV (p.step0 hs) 0 (dd 1 (bE a fun a7 D a=>dI (y.step hs) D fun a8 a9 E G a2 w=>dd 1 (dL w.at 0 2 (dL b.at 0 2 (de (bE a fun b0 H a=>oC hs (zfY E G L M H) ?_))))))))))));rintro a3 P hs _ rfl;replace b:=b.step0 P;refine ot (cc _ a (fun m a=>?_) fun m a=>?_)
  ·refine cr (od 3 (oe (zc ?_)));exact ze (sj a).symm ⟨⟨_,eY⟩,hs,(zp _),C,b⟩
  refine cr (od 2 (oe (zc ?_)));exact ze (sj a).symm ⟨⟨_,eY⟩,hs,n,(zp _),b⟩
 refine cx 0 (zg ?_);obtain rfl:=u _ (sj a).symm;replace a:=t;refine zh ?_;exact zo eY (R c.1  _ _ hs n b a)
theorem zpt {b:K} {p0:LP} {c d:Nat} {n:OA} {c2:Nat} {p1:Int} {e:Int} (p:At b c d [vl n p0 c2]) (q:Sl tPlaced b n c2 p0) (A:I64 p1) (s:I64 e) {r:Int} (a:zgM p0 p1 e=some r) :
 Fn Tryz.prog 159 #[pt c d,iv p1,iv e] b (fun v t=>Step [] b t∧v=iv r∧I64 r):=by
 refine fnc 19 [] Tryz.func159 Tryz.ntmps159 fun hs=>cO 1 (otx (od 4 (oV (p.step0 hs) 0 (od 1 (bE a fun E u a=>oJ q u fun F G f g x h=>od 1 (oL h.at 0 2 (od 1 (bE a fun B i a=>oC hs (zci f g s i) ?_))))))));rintro y C hs _ ⟨rfl,j,k⟩;refine bE a fun w l a=>oC hs (zgO ((p.step0 hs).part 0 1) (q.step hs) j k l) ?_;rintro z D hs _ ⟨rfl,m⟩;refine dT 1 (crt ?_);obtain rfl:=sj a;exact rT 6 (iv w) ⟨hs,rfl,m⟩
theorem zjx {d:K} {p0:LG×LT} {h i:Nat} {a1 a4 a7:OA} {c2 c5 c8:Nat} {p1:LP} {j k:Nat} (m0:At d h i [vl a1 p0.1 c2,vl a4 p0.2 c5]) (f3:Sl tGlue d a1 c2 p0.1) (f6:Sl tTile d a4 c5 p0.2) (m1:At d j k [vl a7 p1 c8]) (Y:Sl tPlaced d a7 c8 p1) {r:LB} (a:zd7 p0 p1=some r) :
 Fn Tryz.prog 124 #[pt h i,pt j k] d (fun v g=>Step [] d g∧∃ (U:OA) (V:Nat),v=vl U r V∧Sl zW g U V r):=by
 refine fnc 59 [] Tryz.func124 Tryz.ntmps124 fun hs=>cO 1 (otx (oT (t:=zW) 245 124001 true [] hs rfl fun f4 e1 hs f5 c1=>dT 1 (cs (cT 1 (cb 0 ?_)))));refine zi 0 (fun Z=>∀ (p:LB) (s:OA) (u:Nat) (e:Env) (l:K),Step [] d l→Gr zW true (d.H.size,124001) l 245 s u p→zjz p=some r→Z (ups e [(5,vl s p u)]) l) ?_ fun J1=>?_
 ·intro p s u e l hs c3 a;refine zf (za (cT 2 (crt ?_)));obtain rfl:=sj a;exact rT 4 (vl s p u) ⟨hs,_,_,rfl,c3.sl⟩
 refine bE a fun c4 a0 M=>zn (F:=zbt p0 p1) (J:=fun b E' g=>∃ (z:OA) (A:Nat),(∃ e,E'=ups e [(0,pt h i),(1,pt j k),(5,vl z b.1 A),(6,iv b.2)])∧Step [] d g∧Gr zW true (d.H.size,124001) g 245 z A b.1∧I64 b.2) (s0:=([],0)) (x:=c4) kr a0 ⟨_,_,⟨_,eY⟩,hs,c1,(iK 0)⟩ ?_;rintro b _ e3 ⟨z,A,⟨e,rfl⟩,hs,X,B⟩ N a O;refine cs (cO 4 (oV (m1.step0 hs) 0 (dT 2 (cc _ a (fun q a=>?_) fun q a=>?_))))
 ·refine ckt (cs (cb 1 (cT 1 (cb 2 ?_))));refine zi 2 (fun Z=>∀ (w:LB) (C:OA) (D:Nat) (e:Env) (m:K),Step [] d m→Gr zW true (d.H.size,124001) m 245 C D w→zjy b w=some N→Z (ups e [(0,pt h i),(1,pt j k),(5,vl C w D),(6,iv b.2)]) m) ?_ fun J2=>?_
  ·intro w C D e m hs c6 a;refine zf (zc (za (cr (od 3 (oe ?_)))));exact ze (sj a).symm ⟨_,_,⟨_,eY⟩,hs,c6,(zp _)⟩
  refine bE a fun c7 a3 P=>zn (F:=zbs p0 p1 b) (J:=fun c E' g=>∃ (E:OA) (G:Nat),(∃ e,E'=ups e [(0,pt h i),(1,pt j k),(5,vl E c.1 G),(6,iv b.2),(7,iv c.2)])∧Step [] d g∧Gr zW true (d.H.size,124001) g 245 E G c.1∧I64 c.2) (s0:=(b.1,1)) (x:=c7) kr a3 ⟨_,_,⟨_,eY⟩,hs,X,(iK 1)⟩ ?_;rintro c _ e5 ⟨E,G,⟨e,rfl⟩,hs,f,H⟩ Q a R;refine cs (cT 2 (cc _ a (fun q a=>?_) fun q a=>?_))
  ·refine ckt ?_;refine zm (fun Z=>∀ (y:LB) (I:OA) (L:Nat) (e:Env) (n:K),Step [] d n→Gr zW true (d.H.size,124001) n 245 I L y→zcP c y=some Q→cwp Tryz.prog 59 (sub (zz Tryz.f124) [1,1,0,0,1,0,0,1,0,0,1,0,1,1]) Z (ups e [(0,pt h i),(1,pt j k),(5,vl I y L),(6,iv b.2),(7,iv c.2)]) n) ?_ fun J3=>?_
   ·intro y I L e n hs c9 a;refine cr (od 3 (oe ?_));exact ze (sj a).symm ⟨_,_,⟨_,eY⟩,hs,c9,(zp _)⟩
   refine cs (cb 3 (cO 3 (bE a fun d0 a6 a=>oC hs (zpt ((m1.step0 hs).part 0 1) (Y.step hs) B H a6) ?_)));rintro e6 d2 hs _ ⟨rfl,a8⟩;replace f:=f.step0 d2;refine dT 1 (cs (cT 2 (cc _ a (fun q a=>?_) fun q a=>?_)))
   ·refine cx 3 (zg (zf (za ?_)));exact zl eY (J3 c.1 _ _ _ _ hs f a)
   refine ckt (cs (cd 18 (dd 4 (dV (m1.step0 hs) 0 (dd 1 (bE a fun f7 a9 a=>dI (Y.step hs) a9 fun f8 g0 e7 e8 b0 S=>dd 1 (dV S.at 2 (dd 4 (dV (m1.step0 hs) 0 (dd 1 (bE a fun g1 b1 a=>dI (Y.step hs) b1 fun g2 g3 e9 f0 b2 T=>dd 1 (dV T.at 2 (de ?_)))))))))))));refine bE a fun d3 b3 a=>ocl 48 (zkB ((m0.step0 hs).part 0 2) (f3.step hs) (f6.step hs) b0 H b2 b3) ?_;rintro _ _ ⟨rfl,rfl,b4⟩;refine od 1 (otx (dT 2 (cc _ a (fun q a=>?_) fun q a=>?_)))
   ·refine cr (od 5 (oT (t:=zW) 245 124002 true [(b.2,(d0,d3))] hs ⟨_,_,rfl,⟨_,_,rfl,⟨rfl,B⟩,⟨_,_,rfl,⟨rfl,a8⟩,⟨rfl,b4⟩⟩⟩,rfl⟩ fun g4 f1 hs d4 d5=>?_));replace f:=f.step0 d4;refine bE a fun d6 b5 a=>oP 211 f d5.sl hs.1 b5 fun g5 g6 f2 d7 d8 hw=>?_;clear hw;replace hs:=hs.trG (f.own (ga _)) d7;refine od 1 (oe (zc (za ?_)));exact zl eY (J3 d6 _ _ _ _ hs d8 a)
   refine ck (zc (za ?_));exact zl eY (J3 c.1 _ _ _ _ hs f a)
  refine cx 2 (zg ?_);obtain rfl:=R _ (sj a).symm;replace a:=P;refine zh ?_;exact zo eY (J2 c.1 _ _ _ _ hs f a)
 refine cx 0 (zg ?_);obtain rfl:=O _ (sj a).symm;replace a:=M;refine zh ?_;exact zo eY (J1 b.1 _ _ _ _ hs X a)
theorem zlG {b:K} {p0:Int} {p1:Int} (c:I64 p0) (d:I64 p1) {r:Int} (a:zdI p0 p1=some r) :
 Fn Tryz.prog 120 #[iv p0,iv p1] b (fun v e=>b=e∧v=iv r∧I64 r):=by
 refine fnc 10 [] Tryz.func120 Tryz.ntmps120 fun hs=>cT 1 (cs (cT 3 (cc _ a (fun f a=>?_) fun f a=>?_)))
 ·refine cT 2 (crt (zd ?_));obtain rfl:=sj a;exact rT 4 (iv p0) ⟨rfl,rfl,c⟩
 refine ckt (cT 2 (crt ?_));obtain rfl:=sj a;exact rT 4 (iv p1) ⟨rfl,rfl,d⟩
theorem zoA {b:K} {p0:Int} {p1:Int} (c:I64 p0) (d:I64 p1) {r:Int} (a:zgg p0 p1=some r) :
 Fn Tryz.prog 173 #[iv p0,iv p1] b (fun v e=>b=e∧v=iv r∧I64 r):=by
 refine fnc 10 [] Tryz.func173 Tryz.ntmps173 fun hs=>cT 1 (cs (cT 3 (cc _ a (fun f a=>?_) fun f a=>?_)))
 ·refine cT 2 (crt (zd ?_));obtain rfl:=sj a;exact rT 4 (iv p0) ⟨rfl,rfl,c⟩
 refine ckt (cT 2 (crt ?_));obtain rfl:=sj a;exact rT 4 (iv p1) ⟨rfl,rfl,d⟩
theorem zqs {e:K} {p0:Int} {p1:LB} {a2:OA} {D:Nat} (q8:I64 p0) (f4:Sl zW e a2 D p1) {r:LM} (a:ziG p0 p1=some r) :
 Fn Tryz.prog 172 #[iv p0,vl a2 p1 D] e (fun v h=>Step [] e h∧∃ (a5:OA) (c6:Nat),v=vl a5 r c6∧Sl (tSl tI64) h a5 c6 r):=by
 refine fnc 101 [] Tryz.func172 Tryz.ntmps172 fun hs=>cO 1 (otx (oT (t:=tI64) 2 172001 false [] hs rfl fun q9 r0 hs s9 j7=>dT 1 (cs (cT 1 (cb 0 ?_)))));refine zi 0 (fun Z=>∀ (S:LI) (b5:OA) (b6:Nat) (d:Env) (E:K),Step [] e E→Gr tI64 false (e.H.size,172001) E 2 b5 b6 S→ziF p0 p1 S=some r→Z (ups d [(0,iv p0),(1,vl a2 p1 D),(5,vl b5 S b6)]) E) ?_ fun J1=>?_
 ·intro S b5 b6 d E hs j8 a;refine zf (za (cs (cT 1 (cb 2 ?_))));refine zi 2 (fun Z=>∀ (j:LI) (l:OA) (m:Nat) (d:Env) (G:K),Step [] e G→Gr tI64 false (e.H.size,172001) G 2 l m j→ziE p0 j=some r→Z (ups d [(0,iv p0),(5,vl l j m)]) G) ?_ fun J2=>?_
  ·intro j l m d G hs b a;refine zf (za (csr (oT (t:=(tSl tI64)) 32 172003 true [] hs rfl fun r1 n7 hs j9 k0=>?_)));replace b:=b.step0 j9;refine dT 1 (cs (cT 1 (cb 6 ?_)));refine zi 6 (fun Z=>∀ (T:LM) (a6:OA) (a7:Nat) (d:Env) (H:K),Step [] e H→Gr (tSl tI64) true (e.H.size,172003) H 32 a6 a7 T→ziD T=some r→Z (ups d [(11,vl a6 T a7)]) H) ?_ fun J3=>?_
   ·intro T a6 a7 d H hs k1 a;refine zf (za (cT 2 (crt ?_)));obtain rfl:=sj a;exact rT 4 (vl a6 T a7) ⟨hs,_,_,rfl,k1.sl⟩
   refine bE a fun k2 h0 e7=>zn (F:=zdC p0 j) (J:=fun c I h=>∃ (s:OA) (u:Nat),(∃ d,I=ups d [(0,iv p0),(5,vl l j m),(11,vl s c.1 u),(12,iv c.2)])∧Step [] e h∧Gr (tSl tI64) true (e.H.size,172003) h 32 s u c.1∧I64 c.2∧Gr tI64 false (e.H.size,172001) h 2 l m j) (s0:=([],0)) (x:=k2) kr h0 ⟨_,_,⟨_,eY⟩,hs,k0,(iK 0),b⟩ ?_;rintro c _ n9 ⟨s,u,⟨d,rfl⟩,hs,f,h1,b⟩ a8 a e8;refine cs (cT 3 (cc _ a (fun p a=>?_) fun p a=>?_))
   ·refine ckt ?_;refine zm (fun Z=>∀ (a9:LM) (b7:OA) (b8:Nat) (d:Env) (C:K),Step [] e C→Gr (tSl tI64) true (e.H.size,172003) C 32 b7 b8 a9→Gr tI64 false (e.H.size,172001) C 2 l m j→zdF c a9=some a8→cwp Tryz.prog 101 (sub (zz Tryz.f172) [1,1,0,0,1,0,1,1,1,1,1]) Z (ups d [(0,iv p0),(5,vl l j m),(11,vl b7 a9 b8),(12,iv c.2)]) C) ?_ fun J4=>?_
    ·intro a9 b7 b8 d C hs k4 b a;refine cr (od 3 (oe ?_));exact ze (sj a).symm ⟨_,_,⟨_,eY⟩,hs,k4,(zp _),b⟩
    refine cs (cb 7 (cs (cO 2 (bE a fun r2 h2 a=>oG b h2 fun _ _ o0 e9=>oV e9 0 (dT 2 (cc _ a (fun p a=>?_) fun p a=>?_))))))
    ·refine cx 7 (zg (zf (za ?_)));exact zl eY (J4 c.1 _ _ _ _ hs f b a)
    refine ckt (csr (oT (t:=tI64) 2 172004 true [] hs rfl fun r3 o2 hs k5 k6=>?_));obtain ⟨b,f⟩:=sQ2 k5 b f;refine dT 1 (cs (cT 2 (cb 8 ?_)));refine zi 8 (fun Z=>∀ (U:LI) (b9:OA) (c0:Nat) (d:Env) (w:K),Step [] e w→Gr tI64 true (e.H.size,172004) w 2 b9 c0 U→Gr tI64 false (e.H.size,172001) w 2 l m j→Gr (tSl tI64) true (e.H.size,172003) w 32 s u c.1→ziC c U=some a8→Z (ups d [(0,iv p0),(5,vl l j m),(11,vl s c.1 u),(12,iv c.2),(13,vl b9 U c0)]) w) ?_ fun J5=>?_
    ·intro U b9 c0 d w hs k7 b f a;refine zf (za (cr (od 2 (oT (t:=(tSl tI64)) 32 172006 true [U] hs ⟨_,_,rfl,⟨_,_,rfl,k7.sl⟩,rfl⟩ fun r4 o4 hs k8 k9=>?_))));obtain ⟨b,f⟩:=sQ2 k8 b f;refine bE a fun l0 h3 a=>oP 33 f k9.sl hs.1 h3 fun r5 r6 o5 g9 l1 hw=>?_;clear hw;replace hs:=hs.trG (f.own (ga _)) g9;replace b:=b.step g9 (b.ng f (zk kr));refine od 1 (oe (zc (za ?_)));exact zl eY (J4 l0 _ _ _ _ hs l1 b a)
    refine bE a fun l2 h4 f0=>zn (F:=zdB p0 j c) (J:=fun k I h=>∃ (c1:OA) (c2:Nat),(∃ d,I=ups d [(0,iv p0),(5,vl l j m),(11,vl s c.1 u),(12,iv c.2),(13,vl c1 k.1 c2),(14,iv k.2)])∧Step [] e h∧Gr tI64 true (e.H.size,172004) h 2 c1 c2 k.1∧I64 k.2∧Gr tI64 false (e.H.size,172001) h 2 l m j∧Gr (tSl tI64) true (e.H.size,172003) h 32 s u c.1) (s0:=([],c.2)) (x:=l2) kr h4 ⟨_,_,⟨_,eY⟩,hs,k6,h1,b,f⟩ ?_;rintro k _ o6 ⟨c1,c2,⟨d,rfl⟩,hs,z,h5,b,f⟩ f1 a f2;refine cs (cT 3 (cc _ a (fun p a=>?_) fun p a=>?_))
    ·refine ckt ?_;refine zm (fun Z=>∀ (b0:LI) (c4:OA) (c5:Nat) (d:Env) (y:K),Step [] e y→Gr tI64 true (e.H.size,172004) y 2 c4 c5 b0→Gr tI64 false (e.H.size,172001) y 2 l m j→Gr (tSl tI64) true (e.H.size,172003) y 32 s u c.1→zfX k b0=some f1→cwp Tryz.prog 101 (sub (zz Tryz.f172) [1,1,0,0,1,0,1,1,0,0,1,0,0,1,0,1,1,1,1,1]) Z (ups d [(0,iv p0),(5,vl l j m),(11,vl s c.1 u),(12,iv c.2),(13,vl c4 b0 c5),(14,iv k.2)]) y) ?_ fun J6=>?_
     ·intro b0 c4 c5 d y hs l4 b f a;refine cr (od 3 (oe ?_));exact ze (sj a).symm ⟨_,_,⟨_,eY⟩,hs,l4,(zp _),b,f⟩
     refine cs (cb 9 (cO 2 (bE a fun r7 h6 a=>oG b h6 fun _ _ o7 f3=>oV f3 0 (dT 2 (cc _ a (fun p a=>?_) fun p a=>?_)))))
     ·refine cr (od 2 (oT (t:=tI64) 2 172005 true [k.2] hs ⟨_,_,rfl,⟨rfl,h5⟩,rfl⟩ fun o8 o9 hs l5 h7=>?_));obtain ⟨b,f,z⟩:=sQ3 l5 b f z;refine bE a fun h8 f5 a=>oP 32 z h7.sl hs.1 f5 fun p2 p3 l9 X h9 hw=>?_;clear hw;replace hs:=hs.trG (z.own (ga _)) X;replace b:=b.step X (b.ng z (zk kr));replace f:=f.step X (f.ng z (zk kr));refine od 1 (oe (zc (za ?_)));exact zl eY (J6 h8 _ _ _ _ hs h9 b f a)
     refine ck (zc (za ?_));exact zl eY (J6 k.1 _ _ _ _ hs z b f a)
    refine cx 8 (zg ?_);obtain rfl:=f2 _ (sj a).symm;replace a:=f0;refine zh ?_;exact zo eY (J5 k.1 _ _ _ _ hs z b f a)
   refine cx 6 (zg ?_);obtain rfl:=e8 _ (sj a).symm;replace a:=e7;refine zh ?_;exact zo eY (J3 c.1 _ _ _ _ hs f a)
  refine bE a fun i0 f6 c7=>zn (F:=zdD p1) (J:=fun g I h=>∃ (c8:OA) (c9:Nat),(∃ d,I=ups d [(0,iv p0),(1,vl a2 p1 D),(5,vl c8 g.1 c9),(7,iv g.2)])∧Step [] e h∧Gr tI64 false (e.H.size,172001) h 2 c8 c9 g.1∧I64 g.2) (s0:=(S,0)) (x:=i0) kr f6 ⟨_,_,⟨_,eY⟩,hs,j8,(iK 0)⟩ ?_;rintro g _ m0 ⟨c8,c9,⟨d,rfl⟩,hs,b1,p4⟩ d0 a d2;refine cs (cT 4 (cc _ a (fun p a=>?_) fun p a=>?_))
  ·refine ckt (cs (cb 3 (cO 3 (bE a fun i1 b2 a=>oJ (f4.step hs) b2 fun p5 p6 m1 m2 m3 d3=>od 1 (oV d3.at 0 (bE a fun L f7 a=>oG b1 f7 fun _ _ b3 d4=>oV d4 0 (od 1 (otx (od 3 (bE a fun i2 M a=>?_))))))))));have d5:i1=i2:=sj (b2.symm.trans M);subst d5;have l6:=M;refine oJ (f4.step hs) M fun p7 p8 m4 m5 m6 d6=>od 1 (oV d6.at 1 (bE a fun N f8 a=>oG b1 f8 fun _ _ b4 d7=>oV d7 0 (od 1 (otx (dT 1 (cb 4 ?_))))));refine zi 4 (fun Z=>∀ (O:LI) (Y:OA) (a0:Nat) (d:Env) (A:K),Step [] e A→Gr tI64 false (e.H.size,172001) A 2 Y a0 O→ziB g O=some d0→Z (ups d [(0,iv p0),(1,vl a2 p1 D),(5,vl Y O a0),(7,iv g.2)]) A) ?_ fun J7=>?_
   ·intro O Y a0 d A hs i3 a;refine zf (zc (za (cr (od 3 (oe ?_)))));exact ze (sj a).symm ⟨_,_,⟨_,eY⟩,hs,i3,(zp _)⟩
   refine bE a fun i4 f9 d8=>zn (F:=zdA L N) (J:=fun i I h=>∃ (P:OA) (Q:Nat),(∃ d,I=ups d [(0,iv p0),(1,vl a2 p1 D),(5,vl P i.1 Q),(7,iv g.2),(8,iv L),(9,iv N),(10,iv i.2)])∧Step [] e h∧Gr tI64 false (e.H.size,172001) h 2 P Q i.1∧I64 i.2) (s0:=(g.1,0)) (x:=i4) kr f9 ⟨_,_,⟨_,eY⟩,hs,b1,(iK 0)⟩ ?_;rintro i _ m7 ⟨P,Q,⟨d,rfl⟩,hs,q,m8⟩ d9 a e0;refine cs (cT 4 (cc _ a (fun p a=>?_) fun p a=>?_))
   ·refine ckt ?_;refine zm (fun Z=>∀ (R:LI) (a1:OA) (a3:Nat) (d:Env) (B:K),Step [] e B→Gr tI64 false (e.H.size,172001) B 2 a1 a3 R→zfW i R=some d9→cwp Tryz.prog 101 (sub (zz Tryz.f172) [1,1,0,0,1,1,1,0,0,1,0,0,1,0,1,1,1]) Z (ups d [(0,iv p0),(1,vl a2 p1 D),(5,vl a1 R a3),(7,iv g.2),(8,iv L),(9,iv N),(10,iv i.2)]) B) ?_ fun J8=>?_
    ·intro R a1 a3 d B hs i5 a;refine cr (od 3 (oe ?_));exact ze (sj a).symm ⟨_,_,⟨_,eY⟩,hs,i5,(zp _)⟩
    refine cs (cb 5 (cs (cd 7 (dd 2 (bE a fun q0 g0 a=>dG q g0 fun _ _ m9 e1=>dV e1 0 (dd 2 (bE a fun q1 g1 a=>dc 59 (zlG b3 b4 g1) fun n0=>de (dT 1 (cc _ a (fun p a=>?_) fun p a=>?_)))))))))
    ·refine cr (od 4 (bE a fun q2 g2 a=>ocl 65 (zoA b3 b4 g2) ?_));rintro _ _ ⟨rfl,rfl,g3⟩;refine bE a fun q3 g4 a=>bE a fun e2 g5 a=>oW q g4 g5 ⟨rfl,g3⟩ fun _ n1 i6 g6 a4=>?_;replace hs:=hs.trG (q.own (ga _)) i6;replace q:=g6;refine zan (eA 10 (v:=iv i.2) (eA 9 (v:=iv N) (eA 8 (v:=iv L) (eA 7 (v:=iv g.2) (zb (t:=5) (v:=vl P e2 Q) (eA 1 (v:=vl a2 p1 D) (eA 0 (v:=iv p0) rfl)) (by unfold vl;rw [a4];kernel_rfl)))))) (oe (zc (za ?_)));exact zl eY (J8 e2 _ _ _ _ hs q a)
    refine ck (zc (za ?_));exact zl eY (J8 i.1 _ _ _ _ hs q a)
   refine cx 4 (zg ?_);obtain rfl:=e0 _ (sj a).symm;replace a:=d8;refine zh ?_;exact zo eY (J7 i.1 _ _ _ _ hs q a)
  refine cx 2 (zg ?_);obtain rfl:=d2 _ (sj a).symm;replace a:=c7;refine zh ?_;exact zo eY (J2 g.1 _ _ _ _ hs b1 a)
 refine bE a fun i7 g7 e3=>zn (F:=zdE p0) (J:=fun n I h=>∃ (e4:OA) (e5:Nat),(∃ d,I=ups d [(0,iv p0),(1,vl a2 p1 D),(5,vl e4 n.1 e5),(6,iv n.2)])∧Step [] e h∧Gr tI64 false (e.H.size,172001) h 2 e4 e5 n.1∧I64 n.2) (s0:=([],0)) (x:=i7) kr g7 ⟨_,_,⟨_,eY⟩,hs,j7,(iK 0)⟩ ?_;rintro n _ n2 ⟨e4,e5,⟨d,rfl⟩,hs,V,i8⟩ l8 a e6;refine cs (cT 3 (cc _ a (fun p a=>?_) fun p a=>?_))
 ·refine ckt (cs (cb 1 (cr (od 2 (oT (t:=tI64) 2 172002 true [n.2] hs ⟨_,_,rfl,⟨rfl,i8⟩,rfl⟩ fun q4 n3 hs i9 j1=>?_)))));replace V:=V.step0 i9;refine bE a fun q5 g8 a=>oP 32 V j1.sl hs.1 g8 fun q6 q7 n4 j2 j3 hw=>?_;clear hw;replace hs:=hs.trG (V.own (ga _)) j2;refine od 1 (oe (zc (za (cr (od 3 (oe ?_))))));exact ze (sj a).symm ⟨_,_,⟨_,eY⟩,hs,j3,(zp _)⟩
 refine cx 0 (zg ?_);obtain rfl:=e6 _ (sj a).symm;replace a:=e3;refine zh ?_;exact zo eY (J1 n.1 _ _ _ _ hs V a)
theorem zqq {i:K} {p0:Int} {p1:LB} {a2:OA} {y:Nat} {p2:Int} (l3:I64 p0) (f4:Sl zW i a2 y p1) (t6:I64 p2) {r:Int×LB} (a:ziz p0 p1 p2=some r) :
 Fn Tryz.prog 141 #[iv p0,vl a2 p1 y,iv p2] i (fun v h=>Step [] i h∧∃ (a7:OA) (c8:Nat),v=.tuple #[iv r.1,vl a7 r.2 c8]∧I64 r.1∧Sl zW h a7 c8 r.2):=by
 refine fnc 113 [] Tryz.func141 Tryz.ntmps141 fun hs=>cO 2 (otx (oT (t:=zW) 245 141001 true [] hs rfl fun t7 p3 hs t8 l6=>dT 1 (cs (cT 1 (cb 0 ?_)))));refine zi 0 (fun Z=>∀ (b1:LB) (c4:OA) (c5:Nat) (g:Env) (O:K),Step [] i O→Gr zW true (i.H.size,141001) O 245 c4 c5 b1→ziy p0 p1 b1=some r→Z (ups g [(0,iv p0),(1,vl a2 p1 y),(8,vl c4 b1 c5)]) O) ?_ fun J1=>?_
 ·intro b1 c4 c5 g O hs l7 a;refine zf (za (cO 2 (bE a fun f i1 a=>oC hs (zqs l3 l7.sl i1) ?_)));rintro p5 t9 hs _ ⟨k,n,rfl,b⟩;refine od 1 (otx (od 1 (bE a fun l8 i2 a=>zdR (d:=43) (T:=32) (e:=2) (t:=tI64) (pub:=false) (τ:=(i.H.size,141003)) (bytes:=8) (k1:=.i64) (k2:=.i64) (m:=p0) (zs:=[iv 0]) (z:=0) kr kr kr kr ⟨rfl,(iK 0)⟩ i2 hs.1 fun u0 p6 h7 l9=>?_)));replace hs:=hs.tr0 h7;replace b:=b.step h7;refine dT 1 (cs (cT 1 (cb 2 ?_)));refine zi 2 (fun Z=>∀ (u:LI) (C:OA) (D:Nat) (g:Env) (E:K),Step [] i E→Gr tI64 false (i.H.size,141003) E 2 C D u→Sl (tSl tI64) E k n f→zix p1 f u=some r→Z (ups g [(1,vl a2 p1 y),(10,vl k f n),(11,vl C u D)]) E) ?_ fun J2=>?_
  ·intro u C D g E hs p b a;refine zf (za (csr (oT (t:=zW) 245 141004 true [] hs rfl fun u1 p8 hs m0 m1=>?_)));obtain ⟨b,p⟩:=sQ2 m0 b p;refine dT 1 (cs (cT 1 (cb 6 ?_)));refine zi 6 (fun Z=>∀ (X:LB) (b2:OA) (b3:Nat) (g:Env) (G:K),Step [] i G→Gr zW true (i.H.size,141004) G 245 b2 b3 X→Sl (tSl tI64) G k n f→ziw f X=some r→Z (ups g [(10,vl k f n),(14,vl b2 X b3)]) G) ?_ fun J3=>?_
   ·intro X b2 b3 g G hs m2 b a;refine zf (za (cT 5 (crt ?_)));obtain rfl:=sj a;refine rt [.tmp 6,.tmp 7] [iv (f.length:Int),vl b2 X b3] ⟨kr,kr,trivial⟩ ?_;exact ⟨hs,_,_,rfl,(zhj b.most),m2.sl⟩
   refine bE a fun m3 i3 f5=>zn (F:=zdx p1 u) (J:=fun q Y h=>∃ (b4:OA) (b5:Nat),(∃ g,Y=ups g [(1,vl a2 p1 y),(10,vl k f n),(11,vl C u D),(14,vl b4 q.1 b5),(15,iv q.2)])∧Step [] i h∧Gr zW true (i.H.size,141004) h 245 b4 b5 q.1∧I64 q.2∧Sl (tSl tI64) h k n f∧Gr tI64 false (i.H.size,141003) h 2 C D u) (s0:=([],0)) (x:=m3) kr i3 ⟨_,_,⟨_,eY⟩,hs,m1,(iK 0),b,p⟩ ?_;rintro q _ q0 ⟨b4,b5,⟨g,rfl⟩,hs,H,q1,b,p⟩ f6 a f7;refine cs (cT 4 (cc _ a (fun I a=>?_) fun I a=>?_))
   ·refine ckt ?_;refine zm (fun Z=>∀ (b6:LB) (c6:OA) (c7:Nat) (g:Env) (A:K),Step [] i A→Gr zW true (i.H.size,141004) A 245 c6 c7 b6→Sl (tSl tI64) A k n f→Gr tI64 false (i.H.size,141003) A 2 C D u→zfU q b6=some f6→cwp Tryz.prog 113 (sub (zz Tryz.f141) [1,1,0,0,1,0,1,1,1,1,1,1,1]) Z (ups g [(1,vl a2 p1 y),(10,vl k f n),(11,vl C u D),(14,vl c6 b6 c7),(15,iv q.2)]) A) ?_ fun J4=>?_
    ·intro b6 c6 c7 g A hs m5 b p a;refine cr (od 3 (oe ?_));exact ze (sj a).symm ⟨_,_,⟨_,eY⟩,hs,m5,(zp _),b,p⟩
    refine cs (cb 7 (cO 3 (bE a fun M a0 a=>oJ (f4.step hs) a0 fun u2 u3 q2 q3 q4 f8=>od 1 (oV f8.at 0 (bE a fun h8 i4 a=>oG p i4 fun _ _ c9 f9=>oV f9 0 (od 1 (otx (od 3 (bE a fun m6 a1 a=>?_)))))))));have g0:M=m6:=sj (a0.symm.trans a1);subst g0;have n4:=a1;refine oJ (f4.step hs) a1 fun u4 u5 q5 q6 q7 g1=>od 1 (oV g1.at 1 (bE a fun h9 i5 a=>oG p i5 fun _ _ d0 g2=>oV g2 0 (od 1 (otx (dT 3 (cc _ a (fun I a=>?_) fun I a=>?_))))))
    ·refine cx_ 14 [0,1,2,4,5,7,8,9,10,11,3,6,12,13] [3,6,13] 14 [] (xp 95 (vl b4 q.1 b5) (xp 96 (iv h8) (xp 97 (iv h9) (xp 99 (iv h8) (xp 100 (iv h9) (xp 102 (vl a2 p1 y) (xp 103 (iv q.2) (bE a fun m7 a3 a=>?_))))))));have g3:M=m7:=sj (a0.symm.trans a3);subst g3;have n5:=a3;refine xI (f4.step hs) a3 fun m8 m9 q8 q9 i6 g4=>xp 105 (pt m8 (m9+2)) (xV g4.at 2 (bE a fun b7 i7 a=>xcl 98 (zoA c9 d0 i7) ?_));rintro _ _ ⟨rfl,rfl,i8⟩;refine ⟨Step.refl _ _,?_⟩;refine bE a fun b8 i9 a=>xcl 101 (zlG c9 d0 i9) ?_;rintro _ _ ⟨rfl,rfl,j1⟩;refine ⟨Step.refl _ _,?_⟩;refine xp 107 (.agg #[iv b7,iv b8,iv M.2.2]) (zio (d:=108) (T:=211) (e:=245) (t:=zW) (pub:=true) (τ:=(i.H.size,141005)) (len:=1) (l:=[(b7,(b8,M.2.2))]) (parts:=#[(0,.agg #[iv b7,iv b8,iv M.2.2])]) (cs:=[iv b7,iv b8,iv M.2.2]) kr kr kr kr hs.1 rfl ⟨_,_,rfl,⟨_,_,rfl,⟨rfl,i8⟩,⟨_,_,rfl,⟨rfl,j1⟩,⟨rfl,i6⟩⟩⟩,rfl⟩ kr fun r0 n6 d2 j2=>?_);replace hs:=hs.tr0 d2;obtain ⟨b,p,H⟩:=sQ3 d2 b p H;refine xe (bE a fun j3 g5 a=>oP 211 H j2.sl hs.1 g5 fun r1 r2 n7 a4 j4 hw=>?_);clear hw;replace hs:=hs.trG (H.own (ga _)) a4;replace b:=b.step a4;replace p:=p.step a4 (p.ng H (zk kr));refine od 1 (oe (zc (za ?_)));exact zl eY (J4 j3 _ _ _ _ hs j4 b p a)
    refine ck (zc (za ?_));exact zl eY (J4 q.1 _ _ _ _ hs H b p a)
   refine cx 6 (zg ?_);obtain rfl:=f7 _ (sj a).symm;replace a:=f5;refine zh ?_;exact zo eY (J3 q.1 _ _ _ _ hs H b a)
  refine bE a fun j5 g6 d3=>zn (F:=zfS f) (J:=fun c Y h=>∃ (d4:OA) (d5:Nat),(∃ g,Y=ups g [(1,vl a2 p1 y),(10,vl k f n),(11,vl d4 c.1 d5),(12,iv c.2)])∧Step [] i h∧Gr tI64 false (i.H.size,141003) h 2 d4 d5 c.1∧I64 c.2∧Sl (tSl tI64) h k n f) (s0:=(l8,0)) (x:=j5) kr g6 ⟨_,_,⟨_,eY⟩,hs,l9,(iK 0),b⟩ ?_;rintro c _ n8 ⟨d4,d5,⟨g,rfl⟩,hs,i0,j6,b⟩ d6 a d7;refine cs (cT 4 (cc _ a (fun I a=>?_) fun I a=>?_))
  ·refine ckt (cs (cb 3 (cT 1 (cb 4 ?_))));refine zi 4 (fun Z=>∀ (P:LI) (a5:OA) (a6:Nat) (g:Env) (w:K),Step [] i w→Gr tI64 false (i.H.size,141003) w 2 a5 a6 P→Sl (tSl tI64) w k n f→zmn c P=some d6→Z (ups g [(1,vl a2 p1 y),(10,vl k f n),(11,vl a5 P a6),(12,iv c.2)]) w) ?_ fun J5=>?_
   ·intro P a5 a6 g w hs j7 b a;refine zf (zc (za (cr (od 3 (oe ?_)))));exact ze (sj a).symm ⟨_,_,⟨_,eY⟩,hs,j7,(zp _),b⟩
   refine bE a fun j8 g7 d8=>zn (F:=zb0 f c) (J:=fun s Y h=>∃ (Q:OA) (R:Nat),(∃ g,Y=ups g [(1,vl a2 p1 y),(10,vl k f n),(11,vl Q s.1 R),(12,iv c.2),(13,iv s.2)])∧Step [] i h∧Gr tI64 false (i.H.size,141003) h 2 Q R s.1∧I64 s.2∧Sl (tSl tI64) h k n f) (s0:=(c.1,0)) (x:=j8) kr g7 ⟨_,_,⟨_,eY⟩,hs,i0,(iK 0),b⟩ ?_;rintro s _ n9 ⟨Q,R,⟨g,rfl⟩,hs,L,o0,b⟩ n0 a d9;refine cs (cO 3 (bE a fun j9 b9 a=>oJ b b9 fun r4 r5 r6 r7 r8 e0=>oV e0.at 0 (dT 2 (cc _ a (fun I a=>?_) fun I a=>?_))))
   ·refine ckt (cs (cb 5 (cr (od 3 (bE a fun k0 S a=>?_)))));have e1:j9=k0:=sj (b9.symm.trans S);subst e1;have n1:=S;refine oJ b S fun r9 s1 s2 s3 k3 e2=>oV e2.at 0 (od 1 (bE a fun s4 g8 a=>oJ k3 g8 fun s5 s6 o2 e3=>oV e3.at 0 (od 1 (bE a fun s7 g9 a=>bE a fun k4 h0 a=>oW L g9 h0 ⟨rfl,j6⟩ fun _ o3 e4 h1 a8=>?_))));replace hs:=hs.trG (L.own (ga _)) e4;replace b:=b.step e4;replace L:=h1;refine zan (eA 13 (v:=iv s.2) (eA 12 (v:=iv c.2) (zb (t:=11) (v:=vl Q k4 R) (eA 10 (v:=vl k f n) (eA 1 (v:=vl a2 p1 y) rfl)) (by unfold vl;rw [a8];kernel_rfl)))) (oe (zc (za (cr (od 3 (oe ?_))))));exact ze (sj a).symm ⟨_,_,⟨_,eY⟩,hs,L,(zp _),b⟩
   refine cx 4 (zg ?_);obtain rfl:=d9 _ (sj a).symm;replace a:=d8;refine zh ?_;exact zo eY (J5 s.1 _ _ _ _ hs L b a)
  refine cx 2 (zg ?_);obtain rfl:=d7 _ (sj a).symm;replace a:=d3;refine zh ?_;exact zo eY (J2 c.1 _ _ _ _ hs i0 b a)
 refine bE a fun k5 h2 e5=>zn (F:=zdy p1 p2) (J:=fun j Y h=>∃ (e6:OA) (e7:Nat),(∃ g,Y=ups g [(0,iv p0),(1,vl a2 p1 y),(2,iv p2),(8,vl e6 j.1 e7),(9,iv j.2)])∧Step [] i h∧Gr zW true (i.H.size,141001) h 245 e6 e7 j.1∧I64 j.2) (s0:=([],0)) (x:=k5) kr h2 ⟨_,_,⟨_,eY⟩,hs,l6,(iK 0)⟩ ?_;rintro j _ o4 ⟨e6,e7,⟨g,rfl⟩,hs,N,s8⟩ e8 a e9;refine cs (cT 4 (cc _ a (fun I a=>?_) fun I a=>?_))
 ·refine ckt ?_;refine zm (fun Z=>∀ (U:LB) (a9:OA) (b0:Nat) (g:Env) (B:K),Step [] i B→Gr zW true (i.H.size,141001) B 245 a9 b0 U→zfT j U=some e8→cwp Tryz.prog 113 (sub (zz Tryz.f141) [1,1,0,0,1,0,1,1]) Z (ups g [(0,iv p0),(1,vl a2 p1 y),(2,iv p2),(8,vl a9 U b0),(9,iv j.2)]) B) ?_ fun J6=>?_
  ·intro U a9 b0 g B hs k6 a;refine cr (od 3 (oe ?_));exact ze (sj a).symm ⟨_,_,⟨_,eY⟩,hs,k6,(zp _)⟩
  refine cs (cb 1 (cO 2 (bE a fun f0 c0 a=>oJ (f4.step hs) c0 fun s9 t0 o5 o6 o7 f1=>od 1 (oV f1.at 2 (dT 2 (cc _ a (fun I a=>?_) fun I a=>?_))))))
  ·refine cr (od 3 (bE a fun k7 V a=>?_));have f2:f0=k7:=sj (c0.symm.trans V);subst f2;have n3:=V;refine oJ (f4.step hs) V fun t1 t2 h3 h4 h5 f3=>oL f3.at 0 3 (oT (t:=zW) 245 141002 true [f0] hs ⟨_,_,rfl,⟨_,_,rfl,⟨rfl,h3⟩,⟨_,_,rfl,⟨rfl,h4⟩,⟨rfl,h5⟩⟩⟩,rfl⟩ fun t3 o8 hs k8 k9=>?_);replace N:=N.step0 k8;refine bE a fun l0 h6 a=>oP 211 N k9.sl hs.1 h6 fun t4 t5 o9 l1 l2 hw=>?_;clear hw;replace hs:=hs.trG (N.own (ga _)) l1;refine od 1 (oe (zc (za ?_)));exact zl eY (J6 l0 _ _ _ _ hs l2 a)
  refine ck (zc (za ?_));exact zl eY (J6 j.1 _ _ _ _ hs N a)
 refine cx 0 (zg ?_);obtain rfl:=e9 _ (sj a).symm;replace a:=e5;refine zh ?_;exact zo eY (J1 j.1 _ _ _ _ hs N a)
theorem zsW {p:K} {p0:Int} {p1:LB} {a2:OA} {y:Nat} (h8:I64 p0) (f4:Sl zW p a2 y p1) {r:(Int×LB×LM×LI)} (i:zmo p0 p1=some r) :
 Fn Tryz.prog 185 #[iv p0,vl a2 p1 y] p (fun v w=>Step [] p w∧∃ (b5:Nat) (N6:Nat) (a8:OA) (c9:Nat) (f0:OA) (f1:Nat) (f2:OA) (f3:Nat),v=pt b5 0∧p.H.size≤N6∧Box (N6,185001) w b5 [iv r.1,vl a8 r.2.1 c9,vl f0 r.2.2.1 f1,vl f2 r.2.2.2 f3] 279∧I64 r.1∧Sl zW w a8 c9 r.2.1∧Gr (tSl tI64) true (N6,185002) w 32 f0 f1 r.2.2.1∧Gr tI64 false (N6,185003) w 2 f2 f3 r.2.2.2):=by
 refine fnc 77 [] Tryz.func185 Tryz.ntmps185 fun hs=>cO 1 (otx (od 3 (oB 279 185001 [iv p0,vl a2 p1 y,sl none 0 0,sl none 0 0] hs fun j l4 hs n9 c=>od 1 (otx (od 2 (bE i fun Y g0 i=>?_))))));obtain ⟨g1,g2,I⟩:=zBF g0;refine zdR (d:=13) (T:=33) (e:=32) (t:=tH) (pub:=false) (τ:=(p.H.size,185002)) (bytes:=24) (k1:=.i64) (k2:=.i64) (m:=p0) (zs:=[sl none 0 0]) (z:=(none,0,0)) kr kr kr kr rfl g1 hs.1 fun f5 l5 f6 q=>?_;rw [I];replace q:=Mat.made (t:=tI64) (pub:=false) (ei:=2) q;rw [←g2,I] at q;obtain ⟨o0,g3⟩:∃ H:List Hd,H=List.replicate p0.toNat (none,0,0):=⟨_,rfl⟩;rw [←g3] at q;replace hs:=hs.tr0 f6;replace c:=c.step0 f6;refine od 2 (oS 2 [iv p0,vl a2 p1 y,vl f5 Y Y.length,sl none 0 0] c hs fun l6 hs i2 D=>?_);replace q:=q.step i2 (q.nb c (zk kr));replace c:=D;refine otx (od 3 (bE i fun k g4 i=>zdR (d:=19) (T:=32) (e:=2) (t:=tI64) (pub:=false) (τ:=(p.H.size,185003)) (bytes:=8) (k1:=.i64) (k2:=.i64) (m:=(p1.length:Int)) (zs:=[iv 0]) (z:=0) kr kr kr kr ⟨rfl,(iK 0)⟩ g4 hs.1 fun E l7 f7 g=>?_));replace hs:=hs.tr0 f7;obtain ⟨q,c⟩:=sQ2 f7 q c;refine od 2 (oS 3 [iv p0,vl a2 p1 y,vl f5 Y Y.length,vl E k k.length] c hs fun l8 hs f8 D=>?_);replace q:=q.step f8 (q.nb c (zk kr));replace g:=g.step f8 (g.nb c (zk kr));replace c:=D;refine ot (cs (cT 1 (cb 0 ?_)));refine zi 0 (fun Z=>∀ (b0:LM) (b9:OA) (c0:Nat) (c1:List Hd) (E0:Env) (B:K),Step [] p B→Mat tI64 false (p.H.size,185002) B 32 2 b9 c0 c1 c1 b0→Gr tI64 false (p.H.size,185003) B 2 E k.length k→Box (p.H.size,185001) B j [iv p0,vl a2 p1 y,vl b9 b0 c0,vl E k k.length] 279→zow p0 p1 k b0=some r→Z (ups E0 [(5,pt j 0)]) B) ?_ fun J1=>?_
 ·intro b0 b9 c0 c1 E0 B hs L g c i;refine zf (za (cT 2 (zn8 L fun m0 c5 g5=>?_)));replace hs:=hs.trG (L.own (ga _)) c5;replace g:=g.step c5 (g.ngm L (zk kr));replace c:=c.step c5 (L.bn c (zk kr));replace L:=g5;refine crt ?_;obtain rfl:=sj i;exact rT 4 (pt j 0) ⟨hs,_,_,_,_,_,_,_,_,rfl,(ga _),c,h8,(f4.step hs),L,g⟩
 refine bE i fun i3 g6 d6=>zn (F:=zc0 p1) (J:=fun f E' w=>∃ (A:OA) (s:Nat) (M:List Hd),(∃ E0,E'=ups E0 [(1,vl a2 p1 y),(5,pt j 0),(6,iv f.1)])∧Step [] p w∧I64 f.1∧Mat tI64 false (p.H.size,185002) w 32 2 A s M M f.2∧Gr tI64 false (p.H.size,185003) w 2 E k.length k∧Box (p.H.size,185001) w j [iv p0,vl a2 p1 y,vl A f.2 s,vl E k k.length] 279) (s0:=(0,Y)) (x:=i3) kr g6 ⟨_,_,_,⟨_,eY⟩,hs,(iK 0),q,g,c⟩ ?_;rintro f _ m2 ⟨A,s,M,⟨E0,rfl⟩,hs,c6,h,g,c⟩ k7 i d7;refine cs (cT 4 (cc _ i (fun hc i=>?_) fun hc i=>?_))
 ·refine ckt (cs (cb 1 (cs (cx_ 23 [0,1,2,3,4,5,6,7,8,9,10,11,12,13,14,15,16,17,18,19,20,21,22] [21,22] 22 (mblk A s M) (xp 28 (pt j 0) (xp 29 (pt j 0) (xp 30 (pt j 2) (x1f 31 33 (vl A f.2 s) c.at (h.bn c (zk kr)) 2 rfl (xp 32 (vl a2 p1 y) (xp 33 (iv f.1) (bE i fun n O i=>xI (f4.step hs) O fun i4 i5 m4 m5 m6 d8=>xp 35 (pt i4 i5) (x1p 36 2 (iv n.1) d8 0 rfl (xp 37 (pt j 0) (xp 38 (pt j 0) (xp 39 (pt j 2) (xV c.at 2 (xp 41 (vl a2 p1 y) (xp 42 (iv f.1) (bE i fun i6 a1 i=>?_)))))))))))))))))));have d9:n=i6:=sj (O.symm.trans a1);subst d9;have k8:=a1;refine xI (f4.step hs) a1 fun i7 i8 m7 m8 m9 e0=>xp 44 (pt i7 i8) (xV e0.at 0 (bE i fun i9 g7 i=>?_));obtain ⟨j1,j2,j3,P,Q,R,b1,e1,N⟩:=h.idx g7;refine xi 46 33 32 1 f.2.length s .i64 n.1 (off:=0) P Q R (xV e1 0 (xp 48 (iv f.1) (zio (d:=49) (T:=32) (e:=2) (t:=tI64) (pub:=true) (τ:=(p.H.size,185004)) (len:=1) (l:=[f.1]) (parts:=#[(0,iv f.1)]) (cs:=[iv f.1]) kr kr kr kr hs.1 rfl ⟨_,_,rfl,⟨rfl,c6⟩,rfl⟩ kr fun j4 n0 f9 j5=>?_)));replace hs:=hs.tr0 f9;obtain ⟨g,h,N,c⟩:=sQ4 f9 g h N c;refine bE i fun c7 g8 i=>zrY (d:=50) (T:=32) (e:=2) (t:=tI64) (pub:=false) (τ:=(p.H.size,185002)) (bytes:=8) (a:=j2) (cp:=j3) (l:=i9) (a2:=j4) (c2:=1) (l2:=[f.1]) kr kr N j5.sl hs.1 kr g8 kr (zg4 b1) fun c8 d0 n1 b2 j6 hw=>?_;have u:=h.row b1 b2 j6 hw;clear hw;replace hs:=hs.trG (N.own (ga _)) b2;replace g:=g.step b2 (g.ng N (zk kr));replace c:=c.step b2 (N.bn c (zk kr));replace h:=u;refine xe (oi 51 33 32 1 f.2.length s .i64 n.1 (off:=0) P Q R (bE i fun b3 d2 i=>zs7 (T:=32) (b:=j1) (ix:=n.1) (hd:=(c8,c7.length,d0)) kr kr P h Q (by rw [h.len0,dz];exact R) kr fun g9 a0 u=>?_));replace a0:=a0.mono (zgU (hs:=(M.set n.1.toNat (c8,c7.length,d0))));replace hs:=hs.trG (h.own (ga _)) a0;replace g:=g.step a0 (g.ngm h (zk kr));replace c:=c.step a0 (h.bn c (zk kr));obtain ⟨d3,h0⟩:∃ H:List Hd,H=(M.set n.1.toNat (c8,c7.length,d0)):=⟨_,rfl⟩;rw [←h0] at u;replace h:=znM d2 u;have b7:=zgm d2;replace c:Box (p.H.size,185001) g9 j [iv p0,vl a2 p1 y,vl A b3 s,vl E k k.length] 279:=by unfold vl;rw [b7];exact c
  refine ot (cx_ 23 [0,1,2,3,4,5,6,7,8,9,10,11,12,13,14,15,16,17,18,19,20,21,22] [21,22] 22 (mblk A s d3) (xp 52 (pt j 0) (xp 53 (pt j 0) (xp 54 (pt j 2) (x1f 55 33 (vl A b3 s) c.at (h.bn c (zk kr)) 2 rfl (xp 56 (vl a2 p1 y) (xp 57 (iv f.1) (bE i fun j7 a3 i=>?_))))))));have e2:n=j7:=sj (O.symm.trans a3);subst e2;have k9:=a3;refine xI (f4.step hs) a3 fun j8 j9 n2 n3 n4 e3=>xp 59 (pt j8 (j9+1)) (x1p 60 2 (iv n.2.1) e3 1 rfl (xp 61 (pt j 0) (xp 62 (pt j 0) (xp 63 (pt j 2) (xV c.at 2 (xp 65 (vl a2 p1 y) (xp 66 (iv f.1) (bE i fun k0 a4 i=>?_))))))));have e4:n=k0:=sj (O.symm.trans a4);subst e4;have l0:=a4;refine xI (f4.step hs) a4 fun k3 k4 n5 n6 n7 e5=>xp 68 (pt k3 (k4+1)) (xV e5.at 1 (bE i fun k5 h1 i=>?_));obtain ⟨k6,h2,h3,S,U,V,b4,e6,C⟩:=h.idx h1;refine xi 70 33 32 1 b3.length s .i64 n.2.1 (off:=0) S U V (xV e6 0 (xp 72 (iv f.1) (zio (d:=73) (T:=32) (e:=2) (t:=tI64) (pub:=true) (τ:=(p.H.size,185005)) (len:=1) (l:=[f.1]) (parts:=#[(0,iv f.1)]) (cs:=[iv f.1]) kr kr kr kr hs.1 rfl ⟨_,_,rfl,⟨rfl,c6⟩,rfl⟩ kr fun h4 l1 d4 h5=>?_)));replace hs:=hs.tr0 d4;obtain ⟨g,h,C,c⟩:=sQ4 d4 g h C c;refine bE i fun a5 e7 i=>zrY (d:=74) (T:=32) (e:=2) (t:=tI64) (pub:=false) (τ:=(p.H.size,185002)) (bytes:=8) (a:=h2) (cp:=h3) (l:=k5) (a2:=h4) (c2:=1) (l2:=[f.1]) kr kr C h5.sl hs.1 kr e7 kr (zg4 b4) fun a6 a7 l3 X h6 hw=>?_;have u:=h.row b4 X h6 hw;clear hw;replace hs:=hs.trG (C.own (ga _)) X;replace g:=g.step X (g.ng C (zk kr));replace c:=c.step X (C.bn c (zk kr));replace h:=u;refine xe (oi 75 33 32 1 b3.length s .i64 n.2.1 (off:=0) S U V (bE i fun h7 b6 i=>zs7 (T:=32) (b:=k6) (ix:=n.2.1) (hd:=(a6,a5.length,a7)) kr kr S h U (by rw [h.len0,dz];exact V) kr fun e8 G u=>?_));replace G:=G.mono (zgU (hs:=(d3.set n.2.1.toNat (a6,a5.length,a7))));replace hs:=hs.trG (h.own (ga _)) G;replace g:=g.step G (g.ngm h (zk kr));replace c:=c.step G (h.bn c (zk kr));obtain ⟨n8,e9⟩:∃ H:List Hd,H=(d3.set n.2.1.toNat (a6,a5.length,a7)):=⟨_,rfl⟩;rw [←e9] at u;replace h:=znM b6 u;have a9:=zgm b6;replace c:Box (p.H.size,185001) e8 j [iv p0,vl a2 p1 y,vl A h7 s,vl E k k.length] 279:=by unfold vl;rw [a9];exact c
  refine oe (zc (za (cr (od 3 (oe ?_)))));exact ze (sj i).symm ⟨_,_,_,⟨_,eY⟩,hs,(zp _),h,g,c⟩
 refine cx 0 (zg ?_);obtain rfl:=d7 _ (sj i).symm;replace i:=d6;refine zh ?_;exact zo eY (J1 f.2 _ _ _ _ _ hs h g c i)
theorem zkL {k:K} {p0:Int×LB×LM×LI} {e D E m:Nat} {q:Tag} {a2 F n:OA} {d:Tag} {p1:Int} {G:Int} (b:Box q k e [iv p0.1,vl a2 p0.2.1 D,vl F p0.2.2.1 E,vl n p0.2.2.2 m] 279) (a1:I64 p0.1) (Q:Sl zW k a2 D p0.2.1) (f7:Sl (tSl tI64) k F E p0.2.2.1) (c:Gr tI64 false d k 2 n m p0.2.2.2) (p:d.1<k.H.size) (R:I64 p1) (S:I64 G) (f:q≠d) {r:Int×Int×(Int×LB×LM×LI)} (h:zeq p0 p1 G=some r) :
 Fn Tryz.prog 198 #[pt e 0,iv p1,iv G] k (fun v s=>Step ([e]++blk n m) k s∧∃ (t:OA) (u:Nat),v=.tuple #[iv r.1,iv r.2.1]∧I64 r.1∧I64 r.2.1∧Box q s e [iv p0.1,vl a2 p0.2.1 D,vl F p0.2.2.1 E,vl t r.2.2.2.2.2 u] 279∧Gr tI64 false d s 2 t u r.2.2.2.2.2∧(∀ g∈blk t u,g∈([e]++blk n m)∨k.H.size≤g)):=by
 refine fnc 44 ([e]++blk n m) Tryz.func198 Tryz.ntmps198 fun hs=>?_;have w:=b.tlt;have x:=f.symm;have l:∀ g∈blk n m,g∈([e]++blk n m)∨k.H.size≤g:=fun g T=>.inl (by simp [T]);refine cO 2 (otx (od 3 (oV b.at 1 (od 1 (bE h fun j H h=>oJ Q H fun a3 a4 I J U z=>oL z.at 0 3 (oA 245 198001 [iv 0,iv 0,iv 0] hs fun a6 V hs N a=>?_))))));obtain ⟨c,b⟩:=sQ2 N c b;refine oS 0 [iv j.1,iv j.2.1,iv j.2.2] a hs fun X hs C y=>?_;replace c:=c.step C (c.nb a (zeX (i:=198001) p));replace b:=b.step C (nm1 (b.ne a (zeX (i:=198001) w)));replace a:=y;refine ot (cs (cO 1 (oV a.at 0 (dT 2 (cc _ h (fun Y h=>?_) fun Y h=>?_)))))
 ·refine cs (cd 13 (dd 1 (dV a.at 2 (dd 3 (dV b.at 3 (dd 1 (bE h fun O L h=>dG c L fun _ _ Z A=>dV A 0 (dd 2 (dV a.at 1 (dd 1 (de (dT 1 (crt (zd ?_))))))))))))));obtain rfl:=sj h;refine rt [.tmp 6,.tmp 7] [iv (w64 (j.2.2 - O)),iv j.2.1] ⟨kr,kr,trivial⟩ ?_;exact ⟨hs,_,_,rfl,(zp _),J,b,c,l⟩
 refine ckt (cs (cd 13 (dd 1 (dV a.at 2 (dd 3 (dV b.at 3 (dd 1 (bE h fun P M h=>dG c M fun _ _ a0 B=>dV B 0 (dd 2 (dV a.at 0 (dd 1 (de (dT 1 (crt ?_))))))))))))));obtain rfl:=sj h;refine rt [.tmp 6,.tmp 7] [iv (w64 (j.2.2+P)),iv j.1] ⟨kr,kr,trivial⟩ ?_;exact ⟨hs,_,_,rfl,(zp _),I,b,c,l⟩
theorem zkf {j:K} {p0:Int×LB×LM×LI} {d P Q q:Nat} {E:Tag} {a2 R s:OA} {m:Tag} {p1:Int} (a:Box E j d [iv p0.1,vl a2 p0.2.1 P,vl R p0.2.2.1 Q,vl s p0.2.2.2 q] 279) (o3:I64 p0.1) (f4:Sl zW j a2 P p0.2.1) (f7:Sl (tSl tI64) j R Q p0.2.2.1) (n:Gr tI64 false m j 2 s q p0.2.2.2) (f:m.1<j.H.size) (l9:I64 p1) (B:E≠m) {r:LI×(Int×LB×LM×LI)} (b:zdz p0 p1=some r) :
 Fn Tryz.prog 187 #[pt d 0,iv p1] j (fun v k=>Step ([d]++blk s q) j k∧∃ (k8:OA) (k9:Nat) (f2:OA) (f3:Nat),v=vl k8 r.1 k9∧Sl tI64 k k8 k9 r.1∧Box E k d [iv p0.1,vl a2 p0.2.1 P,vl R p0.2.2.1 Q,vl f2 r.2.2.2.2 f3] 279∧Gr tI64 false m k 2 f2 f3 r.2.2.2.2∧(∀ g∈blk f2 f3,g∈([d]++blk s q)∨j.H.size≤g)):=by
 refine fnc 112 ([d]++blk s q) Tryz.func187 Tryz.ntmps187 fun hs=>?_;have u:=a.tlt;have f5:=B.symm;have f6:∀ g∈blk s q,g∈([d]++blk s q)∨j.H.size≤g:=fun g hg=>.inl (by simp [hg]);refine cO 1 (otx (oT (t:=tI64) 2 187001 false [] hs rfl fun v0 r2 hs o4 o5=>?_));obtain ⟨n,a⟩:=sQ2 o4 n a;refine dT 1 (cs (cT 1 (cb 0 ?_)));refine zi 0 (fun Z=>∀ (d4:LI) (d5:OA) (d6:Nat) (w:Env) (H:K),Step ([d]++blk s q) j H→Gr tI64 false (j.H.size,187001) H 2 d5 d6 d4→Gr tI64 false m H 2 s q p0.2.2.2→Box E H d [iv p0.1,vl a2 p0.2.1 P,vl R p0.2.2.1 Q,vl s p0.2.2.2 q] 279→zgc p0 p1 d4=some r→Z (ups w [(0,pt d 0),(1,iv p1),(5,vl d5 d4 d6)]) H) ?_ fun J1=>?_
 ·intro d4 d5 d6 w H hs L n a b;refine zf (za (cO 2 (bE b fun v1 m0 b=>bE b fun l0 m1 b=>oW L m0 m1 ⟨rfl,(iK 0)⟩ fun _ r4 f9 m2 f1=>?_)));replace hs:=hs.trG (L.own (ga _)) f9;replace n:=n.step f9 (n.ng L (zeX (i:=187001) f));replace a:=a.step f9 (L.bn a (zeX (i:=187001) u));replace L:=m2;refine zan (zb (t:=5) (v:=vl d5 l0 d6) (eA 1 (v:=iv p1) (eA 0 (v:=pt d 0) rfl)) (by unfold vl;rw [f1];kernel_rfl)) (otx (od 1 (oT (t:=tI64) 2 187003 true [p1] hs ⟨_,_,rfl,⟨rfl,l9⟩,rfl⟩ fun v2 r5 hs o6 o7=>?_)));obtain ⟨n,L,a⟩:=sQ3 o6 n L a;refine dT 1 (cs (cT 1 (cb 2 ?_)));refine zi 2 (fun Z=>∀ (b1:LI) (d7:LI) (d8:OA) (d9:Nat) (e0:OA) (e1:Nat) (w:Env) (I:K) (hs:Step ([d]++blk s q) j I) (M:Gr tI64 false (j.H.size,187001) I 2 d8 d9 b1) (b2:Gr tI64 false m I 2 e0 e1 d7) (b3:(∀ g∈blk e0 e1,g∈([d]++blk s q)∨j.H.size≤g)) (a:Box E I d [iv p0.1,vl a2 p0.2.1 P,vl R p0.2.2.1 Q,vl e0 d7 e1] 279),zgb p0 b1 d7=some r→Z (ups w [(5,vl d8 b1 d9)]) I) ?_ fun J2=>?_
  ·intro b1 d7 d8 d9 e0 e1 w I hs M b2 b3 a b;refine zf (za (cT 2 (zd6 M fun r7 g0 m3=>?_)));replace hs:=hs.trG (M.own (ga _)) g0;replace b2:=b2.step g0 (b2.ng M (zeX (i:=187001) f));replace a:=a.step g0 (M.bn a (zeX (i:=187001) u));replace M:=m3;refine crt ?_;obtain rfl:=sj b;exact rT 4 (vl d8 b1 d9) ⟨hs,_,_,_,_,rfl,M.sl,a,b2,b3⟩
  refine bE b fun o8 m4 i8=>zn (F:=zbL p0) (J:=fun e E' k=>∃ (g2:OA) (g3:Nat) (g4:OA) (g5:Nat) (e2:OA) (e3:Nat),(∃ w,E'=ups w [(0,pt d 0),(5,vl g2 e.1 g3),(7,vl g4 e.2.1 g5),(8,iv e.2.2.1)])∧Step ([d]++blk s q) j k∧Gr tI64 false (j.H.size,187001) k 2 g2 g3 e.1∧Gr tI64 true (j.H.size,187003) k 2 g4 g5 e.2.1∧I64 e.2.2.1∧Gr tI64 false m k 2 e2 e3 e.2.2.2∧(∀ g∈blk e2 e3,g∈([d]++blk s q)∨j.H.size≤g)∧Box E k d [iv p0.1,vl a2 p0.2.1 P,vl R p0.2.2.1 Q,vl e2 e.2.2.2 e3] 279) (s0:=(l0,[p1],0,p0.2.2.2)) (x:=o8) kr m4 ⟨_,_,_,_,_,_,⟨_,eY⟩,hs,L,o7,(iK 0),n,f6,a⟩ ?_;rintro e _ r8 ⟨g2,g3,g4,g5,e2,e3,⟨w,rfl⟩,hs,l1,l2,r9,l3,b4,a⟩ i9 b j1;refine cs (cT 4 (cc _ b (fun hc b=>?_) fun hc b=>?_))
  ·refine ckt (cs (cb 3 (cO 2 (bE b fun G m5 b=>oJ l2.sl m5 fun v3 v4 s1 j2=>oV j2.at 0 (od 1 (otx (dT 1 (cb 4 ?_))))))));refine zi 4 (fun Z=>∀ (e4:LI) (e5:LI) (e6:LI) (g6:OA) (g7:Nat) (g8:OA) (g9:Nat) (T:OA) (U:Nat) (w:Env) (z:K) (hs:Step ([d]++blk s q) j z) (l4:Gr tI64 false (j.H.size,187001) z 2 g6 g7 e4) (l5:Gr tI64 true (j.H.size,187003) z 2 g8 g9 e5) (l6:Gr tI64 false m z 2 T U e6) (b5:(∀ g∈blk T U,g∈([d]++blk s q)∨j.H.size≤g)) (a:Box E z d [iv p0.1,vl a2 p0.2.1 P,vl R p0.2.2.1 Q,vl T e6 U] 279),zkg e e4 e5 e6=some i9→Z (ups w [(0,pt d 0),(5,vl g6 e4 g7),(7,vl g8 e5 g9),(8,iv e.2.2.1)]) z) ?_ fun J3=>?_
   ·intro e4 e5 e6 g6 g7 g8 g9 T U w z hs l4 l5 l6 b5 a b;refine zf (zc (za (cr (od 3 (oe ?_)))));exact ze (sj b).symm ⟨_,_,_,_,_,_,⟨_,eY⟩,hs,l4,l5,(zp _),l6,b5,a⟩
   refine bE b fun m6 j3 h0=>zn (F:=zbK p0 G) (J:=fun c E' k=>∃ (b6:OA) (b7:Nat) (b8:OA) (b9:Nat) (e7:OA) (e8:Nat),(∃ w,E'=ups w [(0,pt d 0),(5,vl b6 c.1 b7),(7,vl b8 c.2.1 b9),(8,iv e.2.2.1),(9,iv G),(10,iv c.2.2.1)])∧Step ([d]++blk s q) j k∧Gr tI64 false (j.H.size,187001) k 2 b6 b7 c.1∧Gr tI64 true (j.H.size,187003) k 2 b8 b9 c.2.1∧I64 c.2.2.1∧Gr tI64 false m k 2 e7 e8 c.2.2.2∧(∀ g∈blk e7 e8,g∈([d]++blk s q)∨j.H.size≤g)∧Box E k d [iv p0.1,vl a2 p0.2.1 P,vl R p0.2.2.1 Q,vl e7 c.2.2.2 e8] 279) (s0:=(e.1,e.2.1,0,e.2.2.2)) (x:=m6) kr j3 ⟨_,_,_,_,_,_,⟨_,eY⟩,hs,l1,l2,(iK 0),l3,b4,a⟩ ?_;rintro c _ p5 ⟨b6,b7,b8,b9,e7,e8,⟨w,rfl⟩,hs,l,p,s3,e9,N,a⟩ c0 b h1;refine cs (cO 4 (oV a.at 2 (od 1 (bE b fun m7 f0 b=>oJ (f7.step hs) f0 fun s4 s5 s6 s7 s8 h2=>oV h2.at 0 (dT 2 (cc _ b (fun hc b=>?_) fun hc b=>?_))))))
   ·refine ckt ?_;refine zm (fun Z=>∀ (V:LI) (X:LI) (Y:LI) (c2:OA) (c4:Nat) (c5:OA) (c7:Nat) (a0:OA) (a1:Nat) (w:Env) (A:K) (hs:Step ([d]++blk s q) j A) (h3:Gr tI64 false (j.H.size,187001) A 2 c2 c4 V) (h4:Gr tI64 true (j.H.size,187003) A 2 c5 c7 X) (h5:Gr tI64 false m A 2 a0 a1 Y) (S:(∀ g∈blk a0 a1,g∈([d]++blk s q)∨j.H.size≤g)) (a:Box E A d [iv p0.1,vl a2 p0.2.1 P,vl R p0.2.2.1 Q,vl a0 Y a1] 279),zbN c V X Y=some c0→cwp Tryz.prog 112 (sub (zz Tryz.f187) [1,1,0,0,1,1,0,0,1,0,0,1,0,1,1,1,1,1]) Z (ups w [(0,pt d 0),(5,vl c2 V c4),(7,vl c5 X c7),(8,iv e.2.2.1),(9,iv G),(10,iv c.2.2.1)]) A) ?_ fun J4=>?_
    ·intro V X Y c2 c4 c5 c7 a0 a1 w A hs h3 h4 h5 S a b;refine cr (od 3 (oe ?_));exact ze (sj b).symm ⟨_,_,_,_,_,_,⟨_,eY⟩,hs,h3,h4,(zp _),h5,S,a⟩
    refine cs (cb 5 (cO 3 (oV a.at 2 (od 1 (bE b fun m8 a3 b=>?_)))));have h6:m7=m8:=sj (f0.symm.trans a3);subst h6;have p2:=a3;refine oJ (f7.step hs) a3 fun s9 t0 t1 t2 m9 h7=>oV h7.at 0 (od 1 (bE b fun t3 j4 b=>oJ m9 j4 fun t4 t5 j5 h8=>oV h8.at 0 (dT 1 (cs (cd 18 (dd 3 (dV a.at 1 (dd 1 (bE b fun a4 j6 b=>dI (f4.step hs) j6 fun t6 t7 p6 p7 p8 h9=>dd 1 (dV h9.at 0 (dd 3 (dV a.at 1 (dd 1 ?_)))))))))))));refine bE b fun a6 j7 b=>dI (f4.step hs) j7 fun t8 t9 p9 q0 q1 i0=>dd 1 (dV i0.at 1 (dd 2 (de (od 2 (otx (od 3 (bE b fun a7 j8 b=>ocl 87 (zkL (p0:=(p0.1,(p0.2.1,(p0.2.2.1,c.2.2.2)))) a o3 (f4.step hs) (f7.step hs) e9 (gg f hs.1) (zp _) j5 (B) j8) ?_)))))));rintro _ j9 ⟨c8,n0,n1,rfl,q2,q3,k0,y,C⟩;replace C:∀ g∈blk n0 n1,g∈([d]++blk s q)∨j.H.size≤g:=fun g hg=>(C g hg).elim ((zqK (ztT (by simp)) N) g) (fun h=>.inr (gc hs.1 h));replace hs:=hs.trM (zqK (ztT (by simp)) N) c8;replace l:=l.step c8 (zzY (l.nb a (zks (i:=187001) u)) (l.ng e9 (zks (i:=187001) f)));replace p:=p.step c8 (zzY (p.nb a (zks (i:=187003) u)) (p.ng e9 (zks (i:=187003) f)));replace a:=k0;refine dT 5 ?_;refine zm (fun Z=>∀ (d0:Bool) (w:Env),zaL G c a4 a6 a7 d0=some c0→cwp Tryz.prog 112 (sub (zz Tryz.f187) [1,1,1,1,0,0,1,0,0,1,1,0,0,1,0,0,1,0,1,1,1,1,1]) Z (ups w [(0,pt d 0),(5,vl b6 c.1 b7),(7,vl b8 c.2.1 b9),(8,iv e.2.2.1),(9,iv G),(10,iv c.2.2.1),(12,iv (w64 ((w64 (a4.1+a6.2.1)) - G))),(98,.bool d0)]) j9) ?_ fun J5=>?_
    ·intro d0 w b;refine cc _ b (fun hc b=>?_) fun hc b=>?_
     ·refine cO 4 (bE b fun u0 k1 b=>oG l k1 fun _ _ q4 i1=>oV i1 0 (od 1 (bE b fun u1 k2 b=>bE b fun i2 k3 b=>oW l k2 k3 ⟨rfl,(zp _)⟩ fun _ q5 a9 n2 d2=>?_)));replace hs:=hs.trG (l.own (ga _)) a9;replace p:=p.step a9 (p.ng l (zk kr));replace y:=y.step a9 (y.ng l (zeX (i:=187001) f));replace a:=a.step a9 (l.bn a (zeX (i:=187001) u));replace l:=n2;refine zan (eA 12 (v:=iv (w64 ((w64 (a4.1+a6.2.1)) - G))) (eA 10 (v:=iv c.2.2.1) (eA 9 (v:=iv G) (eA 8 (v:=iv e.2.2.1) (eA 7 (v:=vl b8 c.2.1 b9) (zb (t:=5) (v:=vl b6 i2 b7) (eA 0 (v:=pt d 0) rfl) (by unfold vl;rw [d2];kernel_rfl))))))) (otr (od 2 (oT (t:=tI64) 2 187004 true [w64 ((w64 (a4.1+a6.2.1)) - G)] hs ⟨_,_,rfl,⟨rfl,(zp _)⟩,rfl⟩ fun u2 q6 hs n3 n4=>?_)));obtain ⟨l,p,y,a⟩:=sQ4 n3 l p y a;refine bE b fun n5 k4 b=>oP 32 p n4.sl hs.1 k4 fun u3 u4 q7 b0 n6 hw=>?_;clear hw;replace hs:=hs.trG (p.own (ga _)) b0;replace l:=l.step b0 (l.ng p (zk kr));replace y:=y.step b0 (y.ng p (zeX (i:=187003) f));replace a:=a.step b0 (p.bn a (zeX (i:=187003) u));refine od 1 (oe (zc (za ?_)));exact zl eY (J4 i2 n5 a7.2.2.2.2.2 _ _ _ _ _ _ _ _ hs l n6 y C a b)
     refine ck (zc (za ?_));exact zl eY (J4 c.1 c.2.1 a7.2.2.2.2.2 _ _ _ _ _ _ _ _ hs l p y C a b)
    refine cO 2 (bE b fun n7 k5 b=>oG l k5 fun _ _ q8 i3=>oV i3 0 (od 1 (osp 95 (decide (n7<0)) b (fun hg b=>?_) fun hg b=>?_)))
    ·refine oz [96,97] (dT 1 ?_);exact zl eY (J5 false  _  b)
    refine dT 3 ?_;exact zl eY (J5 (decide (a7.1>0))  _  b)
   refine cx 4 (zg ?_);obtain rfl:=h1 _ (sj b).symm;replace b:=h0;refine zh ?_;exact zo eY (J3 c.1 c.2.1 c.2.2.2 _ _ _ _ _ _ _ _ hs l p e9 N a b)
  refine cx 2 (zg ?_);obtain rfl:=j1 _ (sj b).symm;replace b:=i8;refine zh ?_;exact zo eY (J2 e.1 e.2.2.2 _ _ _ _ _ _ hs l1 l3 b4 a b)
 refine bE b fun n8 k6 i4=>zn (F:=zbM p0) (J:=fun D E' k=>∃ (i5:OA) (i6:Nat),(∃ w,E'=ups w [(0,pt d 0),(1,iv p1),(5,vl i5 D.1 i6),(6,iv D.2)])∧Step ([d]++blk s q) j k∧Gr tI64 false (j.H.size,187001) k 2 i5 i6 D.1∧I64 D.2∧Gr tI64 false m k 2 s q p0.2.2.2∧Box E k d [iv p0.1,vl a2 p0.2.1 P,vl R p0.2.2.1 Q,vl s p0.2.2.2 q] 279) (s0:=([],0)) (x:=n8) kr k6 ⟨_,_,⟨_,eY⟩,hs,o5,(iK 0),n,a⟩ ?_;rintro D _ q9 ⟨i5,i6,⟨w,rfl⟩,hs,O,u5,n,a⟩ p4 b i7;refine cs (cO 4 (oV a.at 0 (dT 1 (cc _ b (fun hc b=>?_) fun hc b=>?_))))
 ·refine ckt (cs (cb 1 (cr (od 1 (oT (t:=tI64) 2 187002 true [(-1)] hs ⟨_,_,rfl,⟨rfl,(iK (-1))⟩,rfl⟩ fun u6 r0 hs n9 o0=>?_)))));obtain ⟨n,O,a⟩:=sQ3 n9 n O a;refine bE b fun u7 k7 b=>oP 32 O o0.sl hs.1 k7 fun u8 u9 r1 d3 o2 hw=>?_;clear hw;replace hs:=hs.trG (O.own (ga _)) d3;replace n:=n.step d3 (n.ng O (zeX (i:=187001) f));replace a:=a.step d3 (O.bn a (zeX (i:=187001) u));refine od 1 (oe (zc (za (cr (od 3 (oe ?_))))));exact ze (sj b).symm ⟨_,_,⟨_,eY⟩,hs,o2,(zp _),n,a⟩
 refine cx 0 (zg ?_);obtain rfl:=i7 _ (sj b).symm;replace b:=i4;refine zh ?_;exact zo eY (J1 D.1 _ _ _ _ hs O n a b)
theorem zpr {i:K} {p0:Int×LB×LM×LI} {e q s j:Nat} {l:Tag} {a2 t k:OA} {h:Tag} {p1:Int} {E:Int} (a:Box l i e [iv p0.1,vl a2 p0.2.1 q,vl t p0.2.2.1 s,vl k p0.2.2.2 j] 279) (a6:I64 p0.1) (T:Sl zW i a2 q p0.2.1) (f7:Sl (tSl tI64) i t s p0.2.2.1) (d:Gr tI64 false h i 2 k j p0.2.2.2) (F:h.1<i.H.size) (U:I64 p1) (V:I64 E) (b:l≠h) {r:(Int×LB×LM×LI)} (c:zgL p0 p1 E=some r) :
 Fn Tryz.prog 199 #[pt e 0,iv p1,iv E] i (fun v u=>Step ([e]++blk k j) i u∧∃ (w:OA) (x:Nat),v=.tuple #[]∧Box l u e [iv p0.1,vl a2 p0.2.1 q,vl t p0.2.2.1 s,vl w r.2.2.2 x] 279∧Gr tI64 false h u 2 w x r.2.2.2∧(∀ g∈blk w x,g∈([e]++blk k j)∨i.H.size≤g)):=by
 refine fnc 34 ([e]++blk k j) Tryz.func199 Tryz.ntmps199 fun hs=>?_;have Q:=a.tlt;have y:=b.symm;have f:∀ g∈blk k j,g∈([e]++blk k j)∨i.H.size≤g:=fun g X=>.inl (by simp [X]);refine cO 3 (oV a.at 1 (od 1 (bE c fun a7 G c=>oJ T G fun a9 b0 Y Z a0 z=>od 1 (oV z.at 0 (dT 2 (cc _ c (fun hc c=>?_) fun hc c=>?_))))))
 ·refine cr (od 3 (oV a.at 3 (od 1 (bE c fun b1 H c=>oG d H fun _ _ a3 A=>oV A 0 (od 1 (bE c fun b2 I c=>bE c fun R J c=>oW d I J ⟨rfl,(zp _)⟩ fun _ L C m n=>?_))))));replace hs:=hs.trM f C;replace a:=a.step C (d.bn a (b));replace d:=m;replace a:Box l L e [iv p0.1,vl a2 p0.2.1 q,vl t p0.2.2.1 s,vl k R j] 279:=by unfold vl;rw [n];exact a
  refine oe ?_;obtain rfl:=sj c;refine rn [] [] trivial ?_;exact ⟨hs,_,_,rfl,a,d,f⟩
 refine cr (od 3 (oV a.at 3 (od 1 (bE c fun b3 M c=>oG d M fun _ _ a4 B=>oV B 0 (od 1 (bE c fun b4 N c=>bE c fun S O c=>oW d N O ⟨rfl,(zp _)⟩ fun _ P D m p=>?_))))));replace hs:=hs.trM f D;replace a:=a.step D (d.bn a (b));replace d:=m;replace a:Box l P e [iv p0.1,vl a2 p0.2.1 q,vl t p0.2.2.1 s,vl k S j] 279:=by unfold vl;rw [p];exact a
 refine oe ?_;obtain rfl:=sj c;refine rn [] [] trivial ?_;exact ⟨hs,_,_,rfl,a,d,f⟩
theorem zps {k:K} {p0:Int×LB×LM×LI} {d P Q l:Nat} {D:Tag} {a2 R m:OA} {j:Tag} {p1:Int} {M:Int} (b:Box D k d [iv p0.1,vl a2 p0.2.1 P,vl R p0.2.2.1 Q,vl m p0.2.2.2 l] 279) (c5:I64 p0.1) (f4:Sl zW k a2 P p0.2.1) (f7:Sl (tSl tI64) k R Q p0.2.2.1) (j2:Gr tI64 false j k 2 m l p0.2.2.2) (s:j.1<k.H.size) (h5:I64 p1) (h6:I64 M) (f:D≠j) {r:Bool×(Int×LB×LM×LI)} (a:zer p0 p1 M=some r) :
 Fn Tryz.prog 186 #[pt d 0,iv p1,iv M] k (fun v n=>Step ([d]++blk m l) k n∧∃ (c7:OA) (c8:Nat),v=.bool r.1∧Box D n d [iv p0.1,vl a2 p0.2.1 P,vl R p0.2.2.1 Q,vl c7 r.2.2.2.2 c8] 279∧Gr tI64 false j n 2 c7 c8 r.2.2.2.2∧(∀ g∈blk c7 c8,g∈([d]++blk m l)∨k.H.size≤g)):=by
 refine fnc 93 ([d]++blk m l) Tryz.func186 Tryz.ntmps186 fun hs=>?_;have j3:=b.tlt;have d0:=f.symm;have S:∀ g∈blk m l,g∈([d]++blk m l)∨k.H.size≤g:=fun g A=>.inl (by simp [A]);refine cO 1 (otx (od 2 (bE a fun p h7 a=>ocl 16 (zkf (p0:=p0) b c5 f4 f7 j2 (gg s hs.1) h6 (f) h7) ?_)));rintro _ l2 ⟨j4,t,u,j5,j6,rfl,e,w,g6,y⟩;replace y:∀ g∈blk j5 j6,g∈([d]++blk m l)∨k.H.size≤g:=fun g A=>(y g A).elim ((zqK (ztT (by simp)) S) g) (fun h=>.inr (gc hs.1 h));replace hs:=hs.trM (zqK (ztT (by simp)) S) j4;replace b:=w;refine dT 1 (cs (cO 2 (bE a fun n1 h8 a=>oJ e h8 fun n2 n3 l3 e9=>oV e9.at 0 (dT 1 (cc _ a (fun Y a=>?_) fun Y a=>?_)))))
 ·refine cT 1 (crt (zd ?_));obtain rfl:=sj a;exact rT 6 ff ⟨hs,_,_,rfl,b,g6,y⟩
 refine ckt (cs (cT 2 (cb 0 ?_)));refine zi 0 (fun Z=>∀ (a4:LI) (a6:OA) (a7:Nat) (q:Env) (E:K) (hs:Step ([d]++blk m l) k E) (g7:Gr tI64 false j E 2 a6 a7 a4) (T:(∀ g∈blk a6 a7,g∈([d]++blk m l)∨k.H.size≤g)) (b:Box D E d [iv p0.1,vl a2 p0.2.1 P,vl R p0.2.2.1 Q,vl a6 a4 a7] 279),zkM p0 a4=some r→Z (q) E) ?_ fun J1=>?_
 ·intro a4 a6 a7 q E hs g7 T b a;refine zf (za (cT 1 (crt ?_)));obtain rfl:=sj a;exact rT 6 tt ⟨hs,_,_,rfl,b,g7,T⟩
 refine bE a fun j7 h9 f0=>zn (F:=zcq p0 M p) (J:=fun i E' n=>∃ (a9:OA) (b0:Nat),(∃ q,E'=ups q [(0,pt d 0),(2,iv M),(7,vl t p.1 u),(8,iv i.1)])∧Step ([d]++blk m l) k n∧I64 i.1∧Gr tI64 false j n 2 a9 b0 i.2∧(∀ g∈blk a9 b0,g∈([d]++blk m l)∨k.H.size≤g)∧Sl tI64 n t u p.1∧Box D n d [iv p0.1,vl a2 p0.2.1 P,vl R p0.2.2.1 Q,vl a9 i.2 b0] 279) (s0:=(p1,p.2.2.2.2)) (x:=j7) kr h9 ⟨_,_,⟨_,eY⟩,hs,h5,g6,y,e,b⟩ ?_;rintro i _ l5 ⟨a9,b0,⟨q,rfl⟩,hs,d2,g8,U,e,b⟩ f1 a f2;refine cs (cT 3 (cc _ a (fun Y a=>?_) fun Y a=>?_))
 ·refine ckt (cb 1 (cO 1 (otx (dT 1 (cs (cT 1 (cb 2 ?_)))))));refine zi 2 (fun Z=>∀ (b1:Int) (b2:Int) (V:LI) (b3:OA) (b4:Nat) (q:Env) (B:K) (hs:Step ([d]++blk m l) k B) (d3:I64 b1) (d4:I64 b2) (g9:Gr tI64 false j B 2 b3 b4 V) (G:(∀ g∈blk b3 b4,g∈([d]++blk m l)∨k.H.size≤g)) (e:Sl tI64 B t u p.1) (b:Box D B d [iv p0.1,vl a2 p0.2.1 P,vl R p0.2.2.1 Q,vl b3 V b4] 279),zg9 p0 i b1 b2 V=some f1→Z (ups q [(0,pt d 0),(2,iv M),(7,vl t p.1 u),(8,iv i.1),(9,iv b1),(10,iv b2)]) B) ?_ fun J2=>?_
  ·intro b1 b2 V b3 b4 q B hs d3 d4 g9 G e b a;refine zf (za (cO 3 (bE a fun n4 i1 a=>ocl 91 (zpr (p0:=(p0.1,(p0.2.1,(p0.2.2.1,V)))) b c5 (f4.step hs) (f7.step hs) g9 (gg s hs.1) d2 d4 (f) i1) ?_)));rintro _ l7 ⟨h0,j8,j9,rfl,w,k0,H⟩;replace H:∀ g∈blk j8 j9,g∈([d]++blk m l)∨k.H.size≤g:=fun g A=>(H g A).elim ((zqK (ztT (by simp)) G) g) (fun h=>.inr (gc hs.1 h));replace hs:=hs.trM (zqK (ztT (by simp)) G) h0;replace e:=e.step h0;replace b:=w;refine otr (od 2 (oe (zc ?_)));exact ze (sj a).symm ⟨_,_,⟨_,eY⟩,hs,d3,k0,H,e,b⟩
  refine bE a fun k1 i2 f3=>zn (F:=zcp p0 p i) (J:=fun c E' n=>∃ (b5:OA) (b6:Nat),(∃ q,E'=ups q [(0,pt d 0),(2,iv M),(7,vl t p.1 u),(8,iv i.1),(9,iv c.1),(10,iv c.2.1),(11,iv c.2.2.1)])∧Step ([d]++blk m l) k n∧I64 c.1∧I64 c.2.1∧I64 c.2.2.1∧Gr tI64 false j n 2 b5 b6 c.2.2.2∧(∀ g∈blk b5 b6,g∈([d]++blk m l)∨k.H.size≤g)∧Sl tI64 n t u p.1∧Box D n d [iv p0.1,vl a2 p0.2.1 P,vl R p0.2.2.1 Q,vl b5 c.2.2.2 b6] 279) (s0:=((-1),0,0,i.2)) (x:=k1) kr i2 ⟨_,_,⟨_,eY⟩,hs,(iK (-1)),(iK 0),(iK 0),g8,U,e,b⟩ ?_;rintro c _ l8 ⟨b5,b6,⟨q,rfl⟩,hs,d5,d6,l9,h1,I,e,b⟩ b7 a f5;refine cs (cO 4 (oV b.at 2 (od 1 (bE a fun d7 a0 a=>oJ (f7.step hs) a0 fun n5 n6 n7 n8 n9 f6=>oV f6.at 0 (dT 2 (cc _ a (fun Y a=>?_) fun Y a=>?_))))))
  ·refine ckt ?_;refine zm (fun Z=>∀ (b8:Int) (b9:Int) (c0:LI) (c1:OA) (c2:Nat) (q:Env) (C:K) (hs:Step ([d]++blk m l) k C) (d8:I64 b8) (d9:I64 b9) (h2:Gr tI64 false j C 2 c1 c2 c0) (X:(∀ g∈blk c1 c2,g∈([d]++blk m l)∨k.H.size≤g)) (e:Sl tI64 C t u p.1) (b:Box D C d [iv p0.1,vl a2 p0.2.1 P,vl R p0.2.2.1 Q,vl c1 c0 c2] 279),zcr c b8 b9 c0=some b7→cwp Tryz.prog 93 (sub (zz Tryz.f186) [1,1,0,0,1,0,1,1,0,1,0,0,1,0,1,1,1]) Z (ups q [(0,pt d 0),(2,iv M),(7,vl t p.1 u),(8,iv i.1),(9,iv b8),(10,iv b9),(11,iv c.2.2.1)]) C) ?_ fun J3=>?_
   ·intro b8 b9 c0 c1 c2 q C hs d8 d9 h2 X e b a;refine cr (od 3 (oe ?_));exact ze (sj a).symm ⟨_,_,⟨_,eY⟩,hs,d8,d9,(zp _),h2,X,e,b⟩
   refine cs (cb 3 (cO 5 (oV b.at 2 (od 1 (bE a fun k3 a1 a=>?_)))));have f8:d7=k3:=sj (a0.symm.trans a1);subst f8;have k9:=a1;refine oJ (f7.step hs) a1 fun o0 o2 o3 o4 k4 f9=>oV f9.at 0 (od 1 (bE a fun e0 e1 a=>oJ k4 e1 fun o5 o6 i3 g0=>oV g0.at 0 (bE a fun L i4 a=>ocl 51 (zkL (p0:=(p0.1,(p0.2.1,(p0.2.2.1,c.2.2.2)))) b c5 (f4.step hs) (f7.step hs) h1 (gg s hs.1) d2 i3 (f) i4) ?_)));rintro _ g1 ⟨e2,k5,k6,rfl,m0,i5,w,h3,z⟩;replace z:∀ g∈blk k5 k6,g∈([d]++blk m l)∨k.H.size≤g:=fun g A=>(z g A).elim ((zqK (ztT (by simp)) I) g) (fun h=>.inr (gc hs.1 h));replace hs:=hs.trM (zqK (ztT (by simp)) I) e2;replace e:=e.step e2;replace b:=w;refine dT 5 ?_;refine zm (fun Z=>∀ (a3:Bool) (q:Env),z8 p0 i c d7 e0 L a3=some b7→cwp Tryz.prog 93 (sub (zz Tryz.f186) [1,1,0,0,1,0,0,1,0,1,1,0,1,0,0,1,0,1,1,1]) Z (ups q [(0,pt d 0),(2,iv M),(7,vl t p.1 u),(8,iv i.1),(9,iv c.1),(10,iv c.2.1),(11,iv c.2.2.1),(13,iv L.2.1),(76,.bool a3)]) g1) ?_ fun J4=>?_
   ·intro a3 q a;refine cc _ a (fun Y a=>?_) fun Y a=>?_
    ·refine cO 2 (otr (od 3 (oV b.at 2 (od 1 (bE a fun i6 N a=>?_)))));have e3:d7=i6:=sj (a0.symm.trans N);subst e3;have k7:=N;refine oJ (f7.step hs) N fun m1 m2 m3 m4 i7 e4=>oV e4.at 0 (od 1 (bE a fun i8 O a=>?_));have e5:e0=i8:=sj (e1.symm.trans O);subst e5;have k8:=O;refine oJ i7 O fun m5 m6 g3 e6=>oV e6.at 0 (od 1 (oe (zc (za ?_))));exact zl eY (J3 L.2.1 e0 L.2.2.2.2.2 _ _ _ _ hs i5 g3 h3 z e b a)
    refine ck (zc (za ?_));exact zl eY (J3 c.1 c.2.1 L.2.2.2.2.2 _ _ _ _ hs d5 d6 h3 z e b a)
   refine cs (cd 20 (dd 2 ?_));refine dsp 56 (decide (L.1>0)) a ?_ ?_
   ·intro A a;refine ds 57 (ds 58 (ds 59 (ds 60 (ds 61 (ds 62 (ds 63 (ds 64 (ds 65 (ds 66 (dd 2 (ds 69 (ds 70 (ds 71 (ds 72 (ds 73 (de (oz [74,75] (dT 1 ?_))))))))))))))))));exact zl eY (J4 false  _  a)
   intro A a;refine dd 2 (bE a fun i9 g4 a=>dI e g4 fun m7 m8 l0 e7=>dV e7.at 0 (dd 2 (bE a fun j1 g5 a=>dI e g5 fun m9 n0 l1 e8=>dV e8.at 0 (dd 3 ?_))));refine dsp 68 (decide (i9=(w64 (j1 - 1)))) a ?_ ?_
   ·intro A a;refine ds 69 (ds 70 (ds 71 (ds 72 (ds 73 (de (oz [74,75] (dT 1 ?_)))))));exact zl eY (J4 false  _  a)
   intro A a;refine dd 2 ?_;refine dsp 71 (decide (c.1<0)) a ?_ ?_
   ·intro A a;refine dd 2 (de (dT 3 ?_));exact zl eY (J4 (decide (L.2.1<c.1))  _  a)
   intro A a;refine ds 72 (ds 73 (de (os 74 (dT 2 ?_))));exact zl eY (J4 true  _  a)
  refine cx 2 (zg ?_);obtain rfl:=f5 _ (sj a).symm;replace a:=f3;refine zh ?_;exact zo eY (J2 c.1 c.2.1 c.2.2.2 _ _ _ _ hs d5 d6 h1 I e b a)
 refine cx 0 (zg ?_);obtain rfl:=f2 _ (sj a).symm;replace a:=f0;refine zh ?_;exact zo rfl (J1 i.2 _ _ _ _ hs g8 U b a)
theorem zse {t:K} {p0:Int} {p1:LB} {a2:OA} {c3:Nat} {u:Int} {w:Int} (a4:I64 p0) (f4:Sl zW t a2 c3 p1) (a5:I64 u) (a6:I64 w) {r:(Int×LB×LM×LI)×Int} (f:zk1 p0 p1 u w=some r) :
 Fn Tryz.prog 174 #[iv p0,vl a2 p1 c3,iv u,iv w] t (fun v c=>Step [] t c∧∃ (b7:Nat) (L:Nat) (O:OA) (P:Nat) (Q:OA) (R:Nat) (S:OA) (T:Nat),v=.tuple #[pt b7 0,iv r.2]∧t.H.size≤L∧Box (L,185001) c b7 [iv r.1.1,vl O r.1.2.1 P,vl Q r.1.2.2.1 R,vl S r.1.2.2.2 T] 279∧I64 r.1.1∧Sl zW c O P r.1.2.1∧Gr (tSl tI64) true (L,185002) c 32 Q R r.1.2.2.1∧Gr tI64 false (L,185003) c 2 S T r.1.2.2.2∧I64 r.2):=by
 refine fnc 23 [] Tryz.func174 Tryz.ntmps174 fun hs=>cO 2 (otx (od 2 (bE f fun b V f=>ocl 14 (zsW a4 f4 V) ?_)));rintro _ b5 ⟨a8,k,j,m,n,p,q,c2,c4,rfl,d,a,y,i,e,a9⟩;replace d:=gc hs.1 d;replace hs:=hs.tr0 a8;refine od 1 (otx (dT 1 (cs (cb 0 ?_))));refine zi 0 (fun Z=>∀ (l:Int) (s:LI) (z:OA) (A:Nat) (B:Env) (g:K),Step [] t g→I64 l→Gr tI64 false (j,185003) g 2 z A s→Sl zW g m n b.2.1→Gr (tSl tI64) true (j,185002) g 32 p q b.2.2.1→Box (j,185001) g k [iv b.1,vl m b.2.1 n,vl p b.2.2.1 q,vl z s A] 279→zkv b l s=some r→Z (ups B [(10,pt k 0),(11,iv l)]) g) ?_ fun J1=>?_
 ·intro l s z A B g hs X b0 i e a f;refine zf (za (cT 4 (crt ?_)));obtain rfl:=sj f;refine rt [.tmp 8,.tmp 9] [pt k 0,iv l] ⟨kr,kr,trivial⟩ ?_;exact ⟨hs,_,_,_,_,_,_,_,_,rfl,d,a,y,i,e,b0,X⟩
 refine bE f fun b1 Y M=>zn (F:=zfl u w b) (J:=fun h E' c=>∃ (C:OA) (D:Nat),(∃ B,E'=ups B [(2,iv u),(3,iv w),(10,pt k 0),(11,iv h.1)])∧Step [] t c∧I64 h.1∧Gr tI64 false (j,185003) c 2 C D h.2∧Sl zW c m n b.2.1∧Gr (tSl tI64) true (j,185002) c 32 p q b.2.2.1∧Box (j,185001) c k [iv b.1,vl m b.2.1 n,vl p b.2.2.1 q,vl C h.2 D] 279) (s0:=(0,b.2.2.2)) (x:=b1) kr Y ⟨_,_,⟨_,eY⟩,hs,(iK 0),a9,i,e,a⟩ ?_;rintro h _ b9 ⟨C,D,⟨B,rfl⟩,hs,a0,E,i,e,a⟩ b3 f N;refine cs (cO 3 (bE f fun b2 a1 f=>ocl 18 (zps (p0:=(b.1,(b.2.1,(b.2.2.1,h.2)))) a y i e.sl E (show ((j,185003):Tag).1<_ from a.tlt) a5 a6 (zk kr) a1) ?_));rintro _ c0 ⟨G,c5,c6,rfl,H,U,I⟩;clear I;replace hs:=hs.trM (zqK (zv3 (gc d a.ge)) (zv2 (E.own d))) G;replace i:=i.step G;replace e:=e.step G (zzY (e.nb a (zk kr)) (e.ng E (zk kr)));replace a:=H;refine ot (cc _ f (fun hc f=>?_) fun hc f=>?_)
 ·refine ckt (cb 1 (cr (od 3 (oe (zc ?_)))));exact ze (sj f).symm ⟨_,_,⟨_,eY⟩,hs,(zp _),U,i,e,a⟩
 refine cx 0 (zg ?_);obtain rfl:=N _ (sj f).symm;replace f:=M;refine zh ?_;exact zo eY (J1 h.1 b2.2.2.2.2 _ _ _ _ hs a0 U i e a f)
theorem zpq {m:K} {p0:Int×LB×LM×LI} {b P Q u:Nat} {C:Tag} {a2 R w:OA} {j:Tag} {p1:Int} (a:Box C m b [iv p0.1,vl a2 p0.2.1 P,vl R p0.2.2.1 Q,vl w p0.2.2.2 u] 279) (c0:I64 p0.1) (f4:Sl zW m a2 P p0.2.1) (f7:Sl (tSl tI64) m R Q p0.2.2.1) (c1:Gr tI64 false j m 2 w u p0.2.2.2) (y:j.1<m.H.size) (b2:I64 p1) (l:C≠j) {r:LI×(Int×LB×LM×LI)} (d:zgK p0 p1=some r) :
 Fn Tryz.prog 175 #[pt b 0,iv p1] m (fun v n=>Step ([b]++blk w u) m n∧∃ (b0:OA) (b1:Nat) (S:OA) (T:Nat),v=vl b0 r.1 b1∧Sl tI64 n b0 b1 r.1∧Box C n b [iv p0.1,vl a2 p0.2.1 P,vl R p0.2.2.1 Q,vl S r.2.2.2.2 T] 279∧Gr tI64 false j n 2 S T r.2.2.2.2∧(∀ g∈blk S T,g∈([b]++blk w u)∨m.H.size≤g)):=by
 refine fnc 30 ([b]++blk w u) Tryz.func175 Tryz.ntmps175 fun hs=>?_;have U:=a.tlt;have V:=l.symm;have D:∀ g∈blk w u,g∈([b]++blk w u)∨m.H.size≤g:=fun g hg=>.inl (by simp [hg]);refine cO 1 (otx (od 2 (bE d fun k b4 d=>ocl 10 (zkf (p0:=p0) a c0 f4 f7 c1 (gg y hs.1) b2 (l) b4) ?_)));rintro _ d9 ⟨c2,H,I,z,A,rfl,f,a3,c,B⟩;replace B:∀ g∈blk z A,g∈([b]++blk w u)∨m.H.size≤g:=fun g hg=>(B g hg).elim ((zqK (ztT (by simp)) D) g) (fun h=>.inr (gc hs.1 h));replace hs:=hs.trM (zqK (ztT (by simp)) D) c2;replace a:=a3;refine od 1 (otx (oT (t:=tI64) 2 175001 true [] hs rfl fun e7 e0 hs c4 c5=>?_));obtain ⟨f,c,a⟩:=sQ3 c4 f c a;refine dT 1 (cs (cT 1 (cb 0 ?_)));refine zi 0 (fun Z=>∀ (E:LI) (L:OA) (M:Nat) (G:Env) (q:K),Step ([b]++blk w u) m q→Gr tI64 true (m.H.size,175001) q 2 L M E→Gr tI64 false j q 2 z A k.2.2.2.2→Box C q b [iv p0.1,vl a2 p0.2.1 P,vl R p0.2.2.1 Q,vl z k.2.2.2.2 A] 279→zg8 p0 k E=some r→Z (ups G [(6,vl L E M)]) q) ?_ fun J1=>?_
 ·intro E L M G q hs c7 c a d;refine zf (za (cT 2 (crt ?_)));obtain rfl:=sj d;exact rT 4 (vl L E M) ⟨hs,_,_,_,_,rfl,c7.sl,a,c,B⟩
 refine bE d fun c8 b5 a4=>zn (F:=zef p0 k) (J:=fun e E' n=>∃ (X:OA) (Y:Nat),(∃ G,E'=ups G [(0,pt b 0),(5,vl H k.1 I),(6,vl X e.1 Y),(7,iv e.2)])∧Step ([b]++blk w u) m n∧Gr tI64 true (m.H.size,175001) n 2 X Y e.1∧I64 e.2∧Sl tI64 n H I k.1∧Gr tI64 false j n 2 z A k.2.2.2.2∧Box C n b [iv p0.1,vl a2 p0.2.1 P,vl R p0.2.2.1 Q,vl z k.2.2.2.2 A] 279) (s0:=([],0)) (x:=c8) kr b5 ⟨_,_,⟨_,eY⟩,hs,c5,(iK 0),f,c,a⟩ ?_;rintro e _ e3 ⟨X,Y,⟨G,rfl⟩,hs,s,b6,f,c,a⟩ a6 d a7;refine cs (cO 4 (oV a.at 0 (dT 1 (cc _ d (fun hc d=>?_) fun hc d=>?_))))
 ·refine ckt ?_;refine zm (fun Z=>∀ (N:LI) (a0:OA) (a1:Nat) (G:Env) (p:K),Step ([b]++blk w u) m p→Gr tI64 true (m.H.size,175001) p 2 a0 a1 N→Sl tI64 p H I k.1→Gr tI64 false j p 2 z A k.2.2.2.2→Box C p b [iv p0.1,vl a2 p0.2.1 P,vl R p0.2.2.1 Q,vl z k.2.2.2.2 A] 279→zeg e N=some a6→cwp Tryz.prog 30 (sub (zz Tryz.f175) [1,1,0,0,1,0,1,1,1]) Z (ups G [(0,pt b 0),(5,vl H k.1 I),(6,vl a0 N a1),(7,iv e.2)]) p) ?_ fun J2=>?_
  ·intro N a0 a1 G p hs d2 f c a d;refine cr (od 3 (oe ?_));exact ze (sj d).symm ⟨_,_,⟨_,eY⟩,hs,d2,(zp _),f,c,a⟩
  refine cs (cb 1 (cO 2 (bE d fun e8 b8 d=>oJ f b8 fun e9 f0 e4 a9=>oV a9.at 0 (dT 1 (cc _ d (fun hc d=>?_) fun hc d=>?_)))))
  ·refine cr (od 2 (oT (t:=tI64) 2 175002 true [e.2] hs ⟨_,_,rfl,⟨rfl,b6⟩,rfl⟩ fun f1 e5 hs d3 d4=>?_));obtain ⟨f,c,s,a⟩:=sQ4 d3 f c s a;refine bE d fun d5 b9 d=>oP 32 s d4.sl hs.1 b9 fun f2 f3 e6 O d6 hw=>?_;clear hw;replace hs:=hs.trG (s.own (ga _)) O;replace f:=f.step O;replace c:=c.step O (c.ng s (zeX (i:=175001) y));replace a:=a.step O (s.bn a (zeX (i:=175001) U));refine od 1 (oe (zc (za ?_)));exact zl eY (J2 d5 _ _ _ _ hs d6 f c a d)
  refine ck (zc (za ?_));exact zl eY (J2 e.1 _ _ _ _ hs s f c a d)
 refine cx 0 (zg ?_);obtain rfl:=a7 _ (sj d).symm;replace d:=a4;refine zh ?_;exact zo eY (J1 e.1 _ _ _ _ hs s c a d)
theorem zqr {f:K} {p0:Int} {p1:LI} {a2 p:OA} {q s:Nat} {j:Int} {g:LI} (Q:I64 p0) (A:Sl tI64 f a2 q p1) (R:I64 j) (B:Sl tI64 f p s g) {r:Bool} (a:ziA p0 p1 j g=some r) :
 Fn Tryz.prog 176 #[iv p0,vl a2 p1 q,iv j,vl p g s] f (fun v h=>f=h∧v=.bool r):=by
 refine fnc 50 [] Tryz.func176 Tryz.ntmps176 fun hs=>cT 1 (cs (cT 3 (cc _ a (fun b a=>?_) fun b a=>?_)))
 ·refine cT 4 (crt (zd ?_));obtain rfl:=sj a;exact rT 8 (bW (p0<j)) ⟨rfl,rfl⟩
 refine ckt (cs (cT 5 (cc _ a (fun b a=>?_) fun b a=>?_)))
 ·refine cT 6 (crt (zd ?_));obtain rfl:=sj a;exact rT 8 (bW ((p1.length:Int)<(g.length:Int))) ⟨rfl,rfl⟩
 refine ckt (cs (cT 1 (cb 0 ?_)));refine zi 0 (fun Z=>∀ (i:Env),zmp=some r→Z (i) f) ?_ fun H=>?_
 ·intro i a;refine zf (za (cT 1 (crt ?_)));obtain rfl:=sj a;exact rT 8 ff ⟨rfl,rfl⟩
 refine bE a fun C t d=>zn (F:=zfV p1 g) (J:=fun c I h=>(∃ i,I=ups i [(1,vl a2 p1 q),(3,vl p g s),(9,iv c)])∧f=h∧I64 c) (s0:=0) (x:=C) kr t ⟨⟨_,eY⟩,rfl,(iK 0)⟩ ?_;rintro c _ _ ⟨⟨i,rfl⟩,rfl,L⟩ G a e;refine cs (cT 4 (cc _ a (fun b a=>?_) fun b a=>?_))
 ·refine ckt (cs (cb 1 (cs (cd 8 (dd 2 (bE a fun S u a=>dI A u fun T U M k=>dV k.at 0 (dd 2 (bE a fun V w a=>dI B w fun X Y N l=>dV l.at 0 (de (dT 1 (cc _ a (fun b a=>?_) fun b a=>?_)))))))))))
  ·refine cs (cd 8 (dd 2 (bE a fun D y a=>dI A y fun a0 a1 O m=>dV m.at 0 (dd 2 (bE a fun E z a=>dI B z fun a3 a4 P n=>dV n.at 0 (de (dT 2 (crt (zj (zd ?_))))))))));obtain rfl:=e _ (sj a).symm;replace a:=d;refine zr (zj (zd ?_));obtain rfl:=sj a;exact rT 8 (bW (D<E)) ⟨rfl,rfl⟩
  refine ck (zc (za (cr (od 3 (oe ?_)))));exact ze (sj a).symm ⟨⟨_,eY⟩,rfl,(zp _)⟩
 refine cx 0 (zg ?_);obtain rfl:=e _ (sj a).symm;replace a:=d;refine zh ?_;exact zo rfl (H   _  a)
theorem zpP {z:K} {p0:Int} {p1:LB} {a2:OA} {A:Nat} (a4:I64 p0) (f4:Sl zW z a2 A p1) {r:Int×LI} (b:zhG p0 p1=some r) :
 Fn Tryz.prog 142 #[iv p0,vl a2 p1 A] z (fun v i=>Step [] z i∧∃ (a6:OA) (c7:Nat),v=.tuple #[iv r.1,vl a6 r.2 c7]∧I64 r.1∧Sl tI64 i a6 c7 r.2):=by
 refine fnc 41 [] Tryz.func142 Tryz.ntmps142 fun hs=>cO 2 (otx (od 1 (otx (oT (t:=tI64) 2 142001 true [] hs rfl fun c8 c9 hs d0 a8=>dT 1 (cs (cT 1 (cb 0 ?_)))))));refine zi 0 (fun Z=>∀ (j:Int) (k:LI) (m:OA) (n:Nat) (e:Env) (g:K),Step [] z g→I64 j→Sl tI64 g m n k→zh2 j k=some r→Z (ups e [(6,iv j),(7,vl m k n)]) g) ?_ fun J1=>?_
 ·intro j k m n e g hs S a9 b;refine zf (za (cT 4 (crt ?_)));obtain rfl:=sj b;refine rt [.tmp 4,.tmp 5] [iv j,vl m k n] ⟨kr,kr,trivial⟩ ?_;exact ⟨hs,_,_,rfl,S,a9⟩
 refine bE b fun b0 T M=>zn (F:=ze2 p0 p1) (J:=fun a E' i=>∃ (p:OA) (q:Nat),(∃ e,E'=ups e [(0,iv p0),(1,vl a2 p1 A),(6,iv a.1),(7,vl p a.2.1 q),(8,iv a.2.2)])∧Step [] z i∧I64 a.1∧Sl tI64 i p q a.2.1∧I64 a.2.2) (s0:=((-1),[],1)) (x:=b0) kr T ⟨_,_,⟨_,eY⟩,hs,(iK (-1)),a8.sl,(iK 1)⟩ ?_;rintro a _ c4 ⟨p,q,⟨e,rfl⟩,hs,l,f,B⟩ s b N;refine cs (cT 3 (cc _ b (fun U b=>?_) fun U b=>?_))
 ·refine ckt ?_;refine zm (fun Z=>∀ (u:Int) (w:LI) (C:OA) (D:Nat) (e:Env) (h:K),Step [] z h→I64 u→Sl tI64 h C D w→zcZ a u w=some s→cwp Tryz.prog 41 (sub (zz Tryz.f142) [1,1,0,0,1,0,1,1,1]) Z (ups e [(0,iv p0),(1,vl a2 p1 A),(6,iv u),(7,vl C w D),(8,iv a.2.2)]) h) ?_ fun J2=>?_
  ·intro u w C D e h hs V b2 b;refine cr (od 3 (oe ?_));exact ze (sj b).symm ⟨_,_,⟨_,eY⟩,hs,V,b2,(zp _)⟩
  refine cs (cb 1 (cO 3 (bE b fun y X b=>ocl 22 (zse a4 (f4.step hs) (iK 0) B X) ?_)));rintro _ c5 ⟨O,d2,b3,d3,d4,d5,d6,d7,d8,rfl,c,d,Y,b4,b5,P,E⟩;replace c:=gc hs.1 c;replace hs:=hs.tr0 O;replace f:=f.step O;refine od 5 (otx (od 2 (bE b fun G a0 b=>ocl 27 (zpq (p0:=y.1) d Y b4 b5.sl P (show ((b3,185003):Tag).1<_ from d.tlt) B (zk kr) a0) ?_)));rintro _ a1 ⟨Q,b6,b7,d9,e0,rfl,R,H,e1,I⟩;clear I;replace hs:=hs.trM (zqK (zv3 (gc c d.ge)) (zv2 (P.own c))) Q;replace f:=f.step Q;replace d:=H;refine dT 1 ?_;refine zm (fun Z=>∀ (L:Bool) (e:Env),zaG a y G L=some s→cwp Tryz.prog 41 (sub (zz Tryz.f142) [1,1,1,0,0,1,0,0,1,0,1,1,1]) Z (ups e [(0,iv p0),(1,vl a2 p1 A),(6,iv a.1),(7,vl p a.2.1 q),(8,iv a.2.2),(10,iv y.2),(11,vl b6 G.1 b7),(36,.bool L)]) a1) ?_ fun J3=>?_
  ·intro L e b;refine cc _ b (fun U b=>?_) fun U b=>?_
   ·refine cO 2 (otr (od 2 (oe (zc (za ?_)))));exact zl eY (J2 y.2 G.1 _ _ _ _ hs E R b)
   refine ck (zc (za ?_));exact zl eY (J2 a.1 a.2.1 _ _ _ _ hs l f b)
  refine cO 2 (osp 30 (decide (a.1<0)) b (fun hg b=>?_) fun hg b=>?_)
  ·refine od 4 (bE b fun b9 a3 b=>ocl 35 (zqr E R l f a3) ?_);rintro _ _ ⟨rfl,rfl⟩;refine dT 1 ?_;exact zl eY (J3 b9  _  b)
  refine oz [31,32,33,34,35] (dT 1 ?_);exact zl eY (J3 true  _  b)
 refine cx 0 (zg ?_);obtain rfl:=N _ (sj b).symm;replace b:=M;refine zh ?_;exact zo eY (J1 a.1 a.2.1 _ _ _ _ hs l f b)
theorem zqp {e:K} {p0:LG×LT} {f g:Nat} {u w x:OA} {c2 y z:Nat} {p1:LP} {b c:Nat} {h:Int} (F:At e f g [vl u p0.1 c2,vl w p0.2 y]) (G:Sl tGlue e u c2 p0.1) (f6:Sl tTile e w y p0.2) (m1:At e b c [vl x p1 z]) (A:Sl tPlaced e x z p1) (m:I64 h) {r:Bool×Int} (a:ziv p0 p1 h=some r) :
 Fn Tryz.prog 109 #[pt f g,pt b c,iv h] e (fun v B=>Step [] e B∧v=.tuple #[.bool r.1,iv r.2]∧I64 r.2):=by
 refine fnc 38 [] Tryz.func109 Tryz.ntmps109 fun hs=>cT 2 (cs (cx_ 14 [0,1,2,3,4,5,6,8,7,9,10,11,12,13] [7,9] 14 [] (xp 13 (pt b c) (xp 14 (pt b c) (xp 15 (pt b c) (xV (m1.step0 hs) 0 (xp 17 (iv (p1.length:Int)) (xp 18 (pt f g) (xp 19 (pt b c) (xp 21 (iv h) (bE a fun M n a=>xcl 20 (zjx ((F.step0 hs).part 0 2) G f6 ((m1.step0 hs).part 0 1) A n) ?_)))))))))));rintro _ H ⟨i,N,O,rfl,C⟩;refine ⟨i,?_⟩;replace hs:=hs.tr0 i;refine bE a fun d p a=>xcl 22 (zqq (zhj A.most) C m p) ?_;rintro _ I ⟨j,k,l,rfl,q,D⟩;refine ⟨j,?_⟩;replace hs:=hs.tr0 j;refine xp 12 (.tuple #[iv d.1,vl k d.2 l]) (xp 23 (iv d.1) (xp 24 (vl k d.2 l) (xp 8 (iv d.1) (xe (dT 1 (cs (cT 2 (cc _ a (fun s a=>?_) fun s a=>?_))))))))
 ·refine cT 2 (crt (zd ?_));obtain rfl:=sj a;refine rt [.tmp 6,.tmp 7] [ff,iv 4] ⟨kr,kr,trivial⟩ ?_;exact ⟨hs,rfl,(iK 4)⟩
 refine ckt (cs (cT 2 (cc _ a (fun s a=>?_) fun s a=>?_)))
 ·refine cT 2 (crt (zd ?_));obtain rfl:=sj a;refine rt [.tmp 6,.tmp 7] [tt,iv 0] ⟨kr,kr,trivial⟩ ?_;exact ⟨hs,rfl,(iK 0)⟩
 refine ckt (cO 2 (bE a fun E t a=>oC hs (zpP q D t) ?_));rintro J P hs _ ⟨Q,R,rfl,L,S⟩;refine od 5 (otx (dT 5 (crt ?_)));obtain rfl:=sj a;refine rt [.tmp 6,.tmp 7] [bW (E.1≥h),iv 0] ⟨kr,kr,trivial⟩ ?_;exact ⟨hs,rfl,(iK 0)⟩
theorem zpI {f:K} {p0:TS×(LP)×Int} {a b:Nat} {w x y:OA} {c2 z A:Nat} (e:At f a b [vl w p0.1.1 c2,vl x p0.1.2 z,vl y p0.2.1 A,iv p0.2.2]) (p:Sl tGlue f w c2 p0.1.1) (f6:Sl tTile f x z p0.1.2) (B:Sl tPlaced f y A p0.2.1) (i:I64 p0.2.2) {r:Bool} (c:ze1 p0=some r) :
 Fn Tryz.prog 87 #[pt a b] f (fun v C=>Step [] f C∧v=.bool r):=by
 refine fnc 56 [] Tryz.func87 Tryz.ntmps87 fun hs=>cT 1 (cs ?_);refine zm (fun Z=>∀ (j:Bool) (D:Env) (g:K),Step [] f g→zfB p0 j=some r→cwp Tryz.prog 56 (sub (zz Tryz.f87) [1,0,1]) Z (ups D [(0,pt a b),(36,.bool j)]) g) ?_ fun k=>?_
 ·intro j D g hs c;refine cc _ c (fun F c=>?_) fun F c=>?_
  ·refine cT 1 (crt (zd ?_));obtain rfl:=sj c;exact rT 2 ff ⟨hs,rfl⟩
  refine ckt (cs (cx_ 15 [0,1,2,3,4,5,6,7,8,9,10,11,12,13,14] [10] 15 [] (xp 38 (pt a b) (xp 39 (pt a b) (xp 40 (pt a b) (xp 41 (pt a b) (xp 42 (pt a b) (xp 43 (pt a (b+2)) (xp 44 (pt a b) (xp 45 (pt a b) (xp 46 (pt a (b+3)) (xV (e.step0 hs) 3 (bE c fun d q c=>xcl 48 (zqp ((e.step0 hs).part 0 2) (p.step hs) (f6.step hs) ((e.step0 hs).part 2 1) (B.step hs) i q) ?_)))))))))))));rintro _ G ⟨l,rfl,H⟩;refine ⟨l,?_⟩;replace hs:=hs.tr0 l;refine xp 37 (.tuple #[.bool d.1,iv d.2]) (xp 49 (.bool d.1) (xp 50 (iv d.2) (xp 3 (.bool d.1) (xe (od 1 (otx (od 1 (osp 52 (d.1) c (fun h c=>?_) fun h c=>?_))))))))
  ·refine oz [53,54] (dT 2 (crt ?_));obtain rfl:=sj c;exact rT 2 ff ⟨hs,rfl⟩
  refine dT 4 (crt ?_);obtain rfl:=sj c;exact rT 2 (bW (d.2=0)) ⟨hs,rfl⟩
 refine cs (cx_ 12 [0,1,2,3,4,5,6,7,8,9,10,11] [3] 12 [] (xp 5 (pt a b) (xp 6 (pt a b) (xp 7 (pt a b) (bE c fun m s c=>xcl 8 (zpK ((e.step0 hs).part 0 2) p f6 s) ?_)))));rintro _ I ⟨n,rfl⟩;refine ⟨n,?_⟩;replace hs:=hs.tr0 n;refine xp 9 (.bool (!m)) ?_;refine xsp 10 (!m) c ?_ ?_
 ·intro h c;refine xp 11 (pt a b) (xp 12 (pt a b) (xp 13 (pt a b) (xp 14 (pt a b) (xp 15 (pt a b) (xp 16 (pt a (b+2)) (xe (bE c fun E t c=>oC hs (zmR ((e.step0 hs).part 0 2) (p.step hs) (f6.step hs) ((e.step0 hs).part 2 1) (B.step hs) t) ?_)))))));rintro J L hs _ rfl;refine od 2 (osp 20 (!E) c (fun h c=>?_) fun h c=>?_)
  ·refine od 4 (oV (e.step0 hs) 2 (od 3 ?_));refine osp 29 (decide ((p0.2.1.length:Int)=0)) c ?_ ?_
   ·intro h c;refine od 3 (oV (e.step0 hs) 3 (bE c fun x23 u c=>ocl 34 (znI i u) ?_));rintro _ _ ⟨rfl,rfl⟩;refine dT 2 ?_;exact zl eY (k (!x23)  _ _ hs  c)
   intro h c;refine oz [30,31,32,33,34,35] (dT 1 ?_);exact zl eY (k true  _ _ hs  c)
  refine oz [21,22,23,24,25,26,27] (od 2 (oz [30,31,32,33,34,35] (dT 1 ?_)));exact zl eY (k true  _ _ hs  c)
 intro h c;refine xs 11 (xs 12 (xs 13 (xs 14 (xs 15 (xs 16 (xe (oz [17,18] (od 2 (oz [21,22,23,24,25,26,27] (od 2 (oz [30,31,32,33] ?_)))))))))));refine oz [34,35] (dT 1 ?_);exact zl eY (k true  _ _ hs  c)
theorem zrp {b:K} {p0:TS×(LP)×Int} {e f:Nat} {n p q g:OA} {c2 s t h:Nat} {p1:LP} {i j:Nat} (u:At b e f [vl n p0.1.1 c2,vl p p0.1.2 s,vl q p0.2.1 t,iv p0.2.2]) (w:Sl tGlue b n c2 p0.1.1) (f6:Sl tTile b p s p0.1.2) (D:Sl tPlaced b q t p0.2.1) (k:I64 p0.2.2) (m1:At b i j [vl g p1 h]) (x:Sl tPlaced b g h p1) {r:Int} (a:zmQ p0 p1=some r) :
 Fn Tryz.prog 61 #[pt e f,pt i j] b (fun v y=>Step [] b y∧v=iv r∧I64 r):=by
 refine fnc 16 [] Tryz.func61 Tryz.ntmps61 fun hs=>cT 1 (cs ?_);refine zm (fun Z=>∀ (d:Bool) (z:Env) (c:K),Step [] b c→zgJ d=some r→cwp Tryz.prog 16 (sub (zz Tryz.f61) [1,0,1]) Z (ups z [(15,.bool d)]) c) ?_ fun A=>?_
 ·intro d z c hs a;refine cc _ a (fun E a=>?_) fun E a=>?_
  ·refine cT 1 (crt (zd ?_));obtain rfl:=sj a;exact rT 4 (iv 1) ⟨hs,rfl,(iK 1)⟩
  refine ckt (cT 1 (crt ?_));obtain rfl:=sj a;exact rT 4 (iv 0) ⟨hs,rfl,(iK 0)⟩
 refine cO 1 (bE a fun B l a=>oC hs (zpI ((u.step0 hs).part 0 4) w f6 D k l) ?_);rintro F I hs _ rfl;refine od 1 (osp 8 (!B) a (fun G a=>?_) fun G a=>?_)
 ·refine od 4 (bE a fun C m a=>oC hs (zmR ((u.step0 hs).part 0 2) (w.step hs) (f6.step hs) ((m1.step0 hs).part 0 1) (x.step hs) m) ?_);rintro H J hs _ rfl;refine dT 2 ?_;exact zl eY (A (!C)  _ _ hs  a)
 refine oz [9,10,11,12,13,14] (dT 1 ?_);exact zl eY (A true  _ _ hs  a)
theorem zqm {d:K} {p0:Int×LP×LP×LI×LM} {e f:Nat} {a2 i j g:OA} {k l m h:Nat} (c:At d e f [iv p0.1,vl a2 p0.2.1 k,vl i p0.2.2.1 l,vl j p0.2.2.2.1 m,vl g p0.2.2.2.2 h]) (p:I64 p0.1) (t:Sl tPlaced d a2 k p0.2.1) (u:Sl tPlaced d i l p0.2.2.1) (q:Sl tI64 d j m p0.2.2.2.1) (s:Sl (tSl tI64) d g h p0.2.2.2.2) {r:Bool} (a:zf9 p0=some r) :
 Fn Tryz.prog 63 #[pt e f] d (fun v n=>d=n∧v=.bool r):=by
 refine fnc 63 [] Tryz.func63 Tryz.ntmps63 fun hs=>cO 1 (otx (od 3 (oV (c.step0 hs) 0 (od 2 (otx (od 1 (osp 10 (decide (p0.1≤4)) a (fun b a=>?_) fun b a=>?_)))))))
 ·refine od 3 (oV (c.step0 hs) 1 (od 3 ?_));refine osp 18 (decide ((p0.2.1.length:Int)=0)) a ?_ ?_
  ·intro b a;refine oz [19,20,21,22,23,24,25,26,27,28,29,30,31] (od 2 (oz [34,35,36,37,38,39,40,41,42] ?_));refine oz [43,44,45,46] (od 2 (oz [49,50,51,52,53,54,55,56,57,58,59,60,61] (dT 2 (crt ?_))));obtain rfl:=sj a;exact rT 2 ff ⟨rfl,rfl⟩
  intro b a;refine od 3 (oV (c.step0 hs) 0 (od 1 (osp 24 (decide (p0.1=4)) a (fun b a=>?_) fun b a=>?_)))
  ·refine od 3 (oV (c.step0 hs) 2 (od 4 ?_));refine osp 33 (decide ((p0.2.2.1.length:Int)=0)) a ?_ ?_
   ·intro b a;refine oz [34,35,36,37,38,39,40,41,42,43,44,45,46] (od 2 (oz [49,50,51,52,53,54,55,56,57] ?_));refine oz [58,59,60,61] (dT 2 (crt ?_));obtain rfl:=sj a;exact rT 2 ff ⟨rfl,rfl⟩
   intro b a;refine od 3 (oV (c.step0 hs) 0 (od 1 (osp 39 (decide (p0.1=6)) a (fun b a=>?_) fun b a=>?_)))
   ·refine od 3 (oV (c.step0 hs) 3 (od 4 ?_));refine osp 48 (decide ((p0.2.2.2.1.length:Int)=0)) a ?_ ?_
    ·intro b a;refine oz [49,50,51,52,53,54,55,56,57,58,59,60,61] (dT 2 (crt ?_));obtain rfl:=sj a;exact rT 2 ff ⟨rfl,rfl⟩
    intro b a;refine od 3 (oV (c.step0 hs) 0 (od 1 (osp 54 (decide (p0.1=5)) a (fun b a=>?_) fun b a=>?_)))
    ·refine od 3 (oV (c.step0 hs) 4 (dT 5 (crt ?_)));obtain rfl:=sj a;exact rT 2 (bW ((p0.2.2.2.2.length:Int)=0)) ⟨rfl,rfl⟩
    refine oz [55,56,57,58,59,60] (dT 3 (crt ?_));obtain rfl:=sj a;exact rT 2 tt ⟨rfl,rfl⟩
   refine oz [40,41,42,43,44,45] (od 6 (oV (c.step0 hs) 0 (od 1 (osp 54 (decide (p0.1=5)) a (fun b a=>?_) fun b a=>?_))))
   ·refine od 3 (oV (c.step0 hs) 4 (dT 5 (crt ?_)));obtain rfl:=sj a;exact rT 2 (bW ((p0.2.2.2.2.length:Int)=0)) ⟨rfl,rfl⟩
   refine oz [55,56,57,58,59,60] (dT 3 (crt ?_));obtain rfl:=sj a;exact rT 2 tt ⟨rfl,rfl⟩
  refine oz [25,26,27,28,29,30] (od 6 (oV (c.step0 hs) 0 (od 1 (osp 39 (decide (p0.1=6)) a (fun b a=>?_) fun b a=>?_))))
  ·refine od 3 (oV (c.step0 hs) 3 (od 4 ?_));refine osp 48 (decide ((p0.2.2.2.1.length:Int)=0)) a ?_ ?_
   ·intro b a;refine oz [49,50,51,52,53,54,55,56,57,58,59,60,61] (dT 2 (crt ?_));obtain rfl:=sj a;exact rT 2 ff ⟨rfl,rfl⟩
   intro b a;refine od 3 (oV (c.step0 hs) 0 (od 1 (osp 54 (decide (p0.1=5)) a (fun b a=>?_) fun b a=>?_)))
   ·refine od 3 (oV (c.step0 hs) 4 (dT 5 (crt ?_)));obtain rfl:=sj a;exact rT 2 (bW ((p0.2.2.2.2.length:Int)=0)) ⟨rfl,rfl⟩
   refine oz [55,56,57,58,59,60] (dT 3 (crt ?_));obtain rfl:=sj a;exact rT 2 tt ⟨rfl,rfl⟩
  refine oz [40,41,42,43,44,45] (od 6 (oV (c.step0 hs) 0 (od 1 (osp 54 (decide (p0.1=5)) a (fun b a=>?_) fun b a=>?_))))
  ·refine od 3 (oV (c.step0 hs) 4 (dT 5 (crt ?_)));obtain rfl:=sj a;exact rT 2 (bW ((p0.2.2.2.2.length:Int)=0)) ⟨rfl,rfl⟩
  refine oz [55,56,57,58,59,60] (dT 3 (crt ?_));obtain rfl:=sj a;exact rT 2 tt ⟨rfl,rfl⟩
 refine oz [11,12,13,14,15,16] (od 5 (oV (c.step0 hs) 0 (od 1 (osp 24 (decide (p0.1=4)) a (fun b a=>?_) fun b a=>?_))))
 ·refine od 3 (oV (c.step0 hs) 2 (od 4 ?_));refine osp 33 (decide ((p0.2.2.1.length:Int)=0)) a ?_ ?_
  ·intro b a;refine oz [34,35,36,37,38,39,40,41,42,43,44,45,46] (od 2 (oz [49,50,51,52,53,54,55,56,57] ?_));refine oz [58,59,60,61] (dT 2 (crt ?_));obtain rfl:=sj a;exact rT 2 ff ⟨rfl,rfl⟩
  intro b a;refine od 3 (oV (c.step0 hs) 0 (od 1 (osp 39 (decide (p0.1=6)) a (fun b a=>?_) fun b a=>?_)))
  ·refine od 3 (oV (c.step0 hs) 3 (od 4 ?_));refine osp 48 (decide ((p0.2.2.2.1.length:Int)=0)) a ?_ ?_
   ·intro b a;refine oz [49,50,51,52,53,54,55,56,57,58,59,60,61] (dT 2 (crt ?_));obtain rfl:=sj a;exact rT 2 ff ⟨rfl,rfl⟩
   intro b a;refine od 3 (oV (c.step0 hs) 0 (od 1 (osp 54 (decide (p0.1=5)) a (fun b a=>?_) fun b a=>?_)))
   ·refine od 3 (oV (c.step0 hs) 4 (dT 5 (crt ?_)));obtain rfl:=sj a;exact rT 2 (bW ((p0.2.2.2.2.length:Int)=0)) ⟨rfl,rfl⟩
   refine oz [55,56,57,58,59,60] (dT 3 (crt ?_));obtain rfl:=sj a;exact rT 2 tt ⟨rfl,rfl⟩
  refine oz [40,41,42,43,44,45] (od 6 (oV (c.step0 hs) 0 (od 1 (osp 54 (decide (p0.1=5)) a (fun b a=>?_) fun b a=>?_))))
  ·refine od 3 (oV (c.step0 hs) 4 (dT 5 (crt ?_)));obtain rfl:=sj a;exact rT 2 (bW ((p0.2.2.2.2.length:Int)=0)) ⟨rfl,rfl⟩
  refine oz [55,56,57,58,59,60] (dT 3 (crt ?_));obtain rfl:=sj a;exact rT 2 tt ⟨rfl,rfl⟩
 refine oz [25,26,27,28,29,30] (od 6 (oV (c.step0 hs) 0 (od 1 (osp 39 (decide (p0.1=6)) a (fun b a=>?_) fun b a=>?_))))
 ·refine od 3 (oV (c.step0 hs) 3 (od 4 ?_));refine osp 48 (decide ((p0.2.2.2.1.length:Int)=0)) a ?_ ?_
  ·intro b a;refine oz [49,50,51,52,53,54,55,56,57,58,59,60,61] (dT 2 (crt ?_));obtain rfl:=sj a;exact rT 2 ff ⟨rfl,rfl⟩
  intro b a;refine od 3 (oV (c.step0 hs) 0 (od 1 (osp 54 (decide (p0.1=5)) a (fun b a=>?_) fun b a=>?_)))
  ·refine od 3 (oV (c.step0 hs) 4 (dT 5 (crt ?_)));obtain rfl:=sj a;exact rT 2 (bW ((p0.2.2.2.2.length:Int)=0)) ⟨rfl,rfl⟩
  refine oz [55,56,57,58,59,60] (dT 3 (crt ?_));obtain rfl:=sj a;exact rT 2 tt ⟨rfl,rfl⟩
 refine oz [40,41,42,43,44,45] (od 6 (oV (c.step0 hs) 0 (od 1 (osp 54 (decide (p0.1=5)) a (fun b a=>?_) fun b a=>?_))))
 ·refine od 3 (oV (c.step0 hs) 4 (dT 5 (crt ?_)));obtain rfl:=sj a;exact rT 2 (bW ((p0.2.2.2.2.length:Int)=0)) ⟨rfl,rfl⟩
 refine oz [55,56,57,58,59,60] (dT 3 (crt ?_));obtain rfl:=sj a;exact rT 2 tt ⟨rfl,rfl⟩
theorem zoz {g:K} {p0:LP} {i j:Nat} {p:OA} {c2:Nat} (x:At g i j [vl p p0 c2]) (y:Sl tPlaced g p c2 p0) {r:(LP)} (m:zdG p0=some r) :
 Fn Tryz.prog 150 #[pt i j] g (fun v k=>Step [] g k∧∃ (q:OA) (s:Nat),v=.agg #[vl q r s]∧Sl tPlaced k q s r):=by
 refine fnc 10 [] Tryz.func150 Tryz.ntmps150 fun hs=>csr (oA 46 150001 [sl none 0 0] hs fun z D hs F a=>otx (oT (t:=tPlaced) 80 150002 true [] hs rfl fun E A hs u c=>?_));replace a:=a.step0 u;refine od 3 (oV (x.step0 hs) 0 (bE m fun d n m=>oP 44 c (y.step hs) hs.1 n fun e f B l b hw=>?_));clear hw;replace hs:=hs.trG (c.own (ga _)) l;replace a:=a.step l (c.bn a (zk kr));refine od 1 (oS 0 [vl e d f] a hs fun C hs w h=>?_);replace b:=b.step w (b.nb a (zk kr));replace a:=h;refine ot (crt ?_);obtain rfl:=sj m;refine rt [.cell 2 46] [.agg #[vl e d f]] ⟨⟨z,0,[vl e d f],rfl,rfl,kr,kr,(a.at.part 0 1).2⟩,trivial⟩ ?_;exact ⟨hs,_,_,rfl,b.sl⟩
theorem zmT {b:K} {p0:LP} {d e:Nat} {j:OA} {c2:Nat} {p1:Int×Int} (k:At b d e [vl j p0 c2]) (l:Sl tPlaced b j c2 p0) (m:I64 p1.1) (n:I64 p1.2) {r:Int} (a:zc1 p0 p1=some r) :
 Fn Tryz.prog 147 #[pt d e,.agg #[iv p1.1,iv p1.2]] b (fun v p=>Step [] b p∧v=iv r∧I64 r):=by
 refine fnc 19 [] Tryz.func147 Tryz.ntmps147 fun hs=>csr (oB 78 147001 [iv p1.1,iv p1.2] hs fun D y hs E f=>od 1 (otx (od 1 (oL f.at 0 2 (bE a fun z g a=>oC hs (zgO ((k.step0 hs).part 0 1) (l.step hs) m n g) ?_)))));rintro s A hs _ ⟨rfl,t⟩;refine dT 1 (cs (cT 2 (cc _ a (fun u a=>?_) fun u a=>?_)))
 ·refine cT 1 (crt (zd ?_));obtain rfl:=sj a;exact rT 4 (iv (-1)) ⟨hs,rfl,(iK (-1))⟩
 refine ckt (cO 3 (oV (k.step0 hs) 0 (od 1 (bE a fun q h a=>oJ (l.step hs) h fun B C w x i c=>od 1 (oV c.at 2 (dT 1 (crt ?_)))))));obtain rfl:=sj a;exact rT 4 (iv q.2) ⟨hs,rfl,i⟩
end Go.Lf
