import Derived.Test.YtiobnnnacoginaaGreatDoorG
set_option linter.all false
set_option maxRecDepth 100000
set_option maxHeartbeats 4000000
namespace Go.Lf
open Go Go.Proofs Tryz
def zm6{e:K}{p0:LM}{s z A j k:OA}{c2 B C l m:Nat}{p1:TS×(LP)×Int}{q:LP}(U:Sl (tSl tI64) e s c2 p0)(f6:Sl tGlue e z B p1.1.1)(V:Sl tTile e A C p1.1.2)(b2:Sl tPlaced e j l p1.2.1)(X:I64 p1.2.2)(N:Sl tPlaced e k m q){r:Bool}(a:zcO p0 p1 q=some r):
 fP 335 #[.agg #[vl s p0 c2],.agg #[vl z p1.1.1 B,vl A p1.1.2 C,vl j p1.2.1 l,iv p1.2.2],.agg #[vl k q m]] e (λv g=>Step [] e g/\v=.bool r):=by
 refine fnc 47 [] func335 ntmps335 λn=>csr (oB 197 335001 [vl s p0 c2] n λb3 Y n b4 d=>oB 50 335002 [vl z p1.1.1 B,vl A p1.1.2 C,vl j p1.2.1 l,iv p1.2.2] n λt a0 n O b=>?_);have d:=d.Y O;refine oB 48 335003 [vl k q m] n λu a2 n P c=>?_;obtain⟨d,b⟩:=sQ2 P d b;refine dT 1 (cs (cO 1 (oV d.at 0 (od 2 (oV c.at 0 (dT 4 (cc _ a (λw a=>?_) λw a=>?_)))))))
 ·exact cT 1 (crt (zd (sj a▸rT 6 ff ⟨n,rfl⟩)))
 refine ckt (cs (cO 1 (oV d.at 0 (dT 2 (cb 0 ?_)))));refine zi 0 (λZ=>∀(h:Env)(i:K),Step [] e i->zhv=some r->Z (h) i) ?_ λJ1=>?_
 ·intro h i n a;exact zf (za (cT 1 (crt (sj a▸rT 6 tt ⟨n,rfl⟩))))
 refine lB (J:=λf E' g=>(∃h,E'=ups h [(4,pt t 0),(5,pt u 0),(21,vl s p0 c2),(22,iv (p0.length:Int)),(23,iv f)])/\Step [] e g/\I64 f/\Box (e.H.size,335002) g t [vl z p1.1.1 B,vl A p1.1.2 C,vl j p1.2.1 l,iv p1.2.2] 50/\Box (e.H.size,335003) g u [vl k q m] 48) kr a ⟨⟨_,eY⟩,n,(iK 0),b,c⟩ ?_;rintro f _ a6 ⟨⟨h,rfl⟩,n,a8,b,c⟩ D a p;refine cT 1 (cs (cc _ a (λw a=>?_) λw a=>?_))
 ·refine ckt (cs (cb 1 (cO 1 (bE a λb5 I a=>oJ (U.X n) I λb6 b7 b8 b9 R E=>oV E.at 0 (od 2 (otx (od 1 (oL b.at 0 2 (oL c.at 0 1 (od 3 (bE a λG L a=>oC n (zsr (f6.X n) (V.X n) (N.X n) (iK 0) (zp _) R L) ?_)))))))))));rintro M S n _ ⟨rfl,a9,b0⟩;obtain⟨b,c⟩:=sQ2 S b c;refine dT 5 ?_;refine zm (λZ=>∀(y:Bool)(h:Env),zbp f y=some D->cwp prog 47 (sub (zB f335) [1,1,1,0,0,1,1,0,0,1,0,1,1]) Z (ups h [(4,pt t 0),(5,pt u 0),(21,vl s p0 c2),(22,iv (p0.length:Int)),(23,iv f),(45,.bool y)]) M) ?_ λT=>?_
  ·intro y h a;refine cc _ a (λw a=>?_) λw a=>?_
   ·exact cT 1 (crt (zj (zd (zt (zj (zd (sj (p _ a)▸rT 6 ff ⟨n,rfl⟩)))))))
   exact ck (zc (za (cr (od 2 (oe (ze (sj a).symm ⟨⟨_,eY⟩,n,(zp _),b,c⟩))))))
  refine cO 2 (osp 40 (!decide (G.2=0)) a (λhg a=>?_) λhg a=>?_)
  ·exact od 2 (oV b.at 3 (dT 2 (zl eY (T (decide (G.1<p1.2.2))  _  a))))
  exact oz [41,42,43,44] (dT 1 (zl eY (T true  _  a)))
 exact cx 0 (zg (zh (zo rfl (J1   _ _ n  (p _ a)))))
def zox{k:K}{p0:LP}{p f:OA}{c2 g:Nat}{p1:LI}(I:Sl tPlaced k p c2 p0)(f6:Sl tI64 k f g p1){r:Bool}(a:zel p0 p1=some r):
 fP 340 #[.agg #[vl p p0 c2],vl f p1 g] k (λv h=>Step [] k h/\v=.bool r):=by
 refine fnc 34 [] func340 ntmps340 λd=>csr (oB 48 340001 [vl p p0 c2] d λC i d T q=>dT 1 (cs (cT 3 (cb 0 ?_))));refine zi 0 (λZ=>∀(c:Env),ziU=some r->Z (c) i) ?_ λL=>?_
 ·intro c a;exact zf (za (cT 1 (crt (sj a▸rT 4 tt ⟨d,rfl⟩))))
 refine lB (J:=λb M h=>(∃c,M=ups c [(1,vl f p1 g),(2,pt C 0),(7,vl f p1 g),(8,iv (p1.length:Int)),(9,iv b)])/\i=h/\I64 b) kr a ⟨⟨_,eY⟩,rfl,(iK 0)⟩ ?_;rintro b _ _ ⟨⟨c,rfl⟩,rfl,N⟩ l a e;refine cT 1 (cs (cc _ a (λt a=>?_) λt a=>?_))
 ·refine ckt (cs (cb 1 (cO 1 (bE a λE u a=>oJ (f6.X d) u λP Q w m=>oV m.at 0 (dT 2 ?_)))));refine zm (λZ=>∀(j:Bool)(c:Env),zap b j=some l->cwp prog 34 (sub (zB f340) [1,1,0,0,1,1,0,0,1,0,1]) Z (ups c [(1,vl f p1 g),(2,pt C 0),(7,vl f p1 g),(8,iv (p1.length:Int)),(9,iv b),(32,.bool j)]) i) ?_ λy=>?_
  ·intro j c a;refine cc _ a (λt a=>?_) λt a=>?_
   ·exact cT 1 (crt (zj (zd (zt (zj (zd (sj (e _ a)▸rT 4 ff ⟨d,rfl⟩)))))))
   exact ck (zc (za (cr (od 2 (oe (ze (sj a).symm ⟨⟨_,eY⟩,rfl,(zp _)⟩))))))
  refine cO 2 (oV q.at 0 (od 1 (bE a λG z a=>ocl 18 (zfN w (zf6 (I.X d).most) z) ?_)));rintro _ _ ⟨rfl,rfl⟩;refine od 1 (osp 20 (!G) a (λA a=>?_) λA a=>?_)
  ·refine od 2 (osp 23 (decide (b>0)) a (λA a=>?_) λA a=>?_)
   ·exact oz [24,25,26,27,28,29,30] (dT 2 (zl eY (y false  _  a)))
   exact od 4 (bE a λH B a=>oJ (f6.X d) B λR S O n=>oV n.at 0 (dT 3 (zl eY (y (decide (E<=H))  _  a))))
  exact oz [21,22,23,24,25,26,27,28,29,30,31] (dT 1 (zl eY (y true  _  a)))
 exact cx 0 (zg (zh (zo rfl (L   _  (e _ a)))))
def zrf{e:K}{p0:LB}{m:OA}{c2:Nat}(w:Sl z6 e m c2 p0){r:Int}(a:zil p0=some r):
 fP 342 #[vl m p0 c2] e (λv f=>Step [] e f/\v=iv r/\I64 r):=by
 refine fnc 18 [] func342 ntmps342 λj=>cO 1 (otx (dT 1 (cs (cT 3 (cb 0 ?_)))));refine zi 0 (λZ=>∀(g:Int)(h:Env)(d:K),Step [] e d->I64 g->zmP g=some r->Z (ups h [(3,iv g)]) d) ?_ λy=>?_
 ·intro g h d j n a;exact zf (za (cT 2 (crt (sj a▸rT 2 (iv g) ⟨j,rfl,n⟩))))
 refine lB (J:=λb z f=>(∃h,z=ups h [(3,iv b.1),(6,vl m p0 c2),(7,iv (p0.length:Int)),(8,iv b.2)])/\Step [] e f/\I64 b.1/\I64 b.2) kr a ⟨⟨_,eY⟩,j,(iK 0),(iK 0)⟩ ?_;rintro b _ A ⟨⟨h,rfl⟩,j,t,I⟩ u a k;refine cT 1 (cs (cc _ a (λB a=>?_) λB a=>?_))
 ·exact ckt (cs (cb 1 (csr (bE a λi q a=>oJ (w.X j) q λL M C D E l=>oL l.at 0 3 (oA 258 342001 [iv 0,iv 0,iv 0] j λN G j O c=>oS 0 [iv i.1,iv i.2.1,iv i.2.2] c j λH j P c=>otr (od 2 (oV c.at 2 (od 2 (oe (zc (za (cr (od 2 (oe (ze (sj a).symm ⟨⟨_,eY⟩,j,(zp _),(zp _)⟩)))))))))))))))
 exact cx 0 (zg (zh (zo eY (y b.1  _ _ j t (k _ a)))))
def zqE{c:K}{p0:LI}{i:OA}{c2:Nat}{p1:Int}(n:Sl tI64 c i c2 p0)(w:I64 p1){r:Int}(a:zkk p0 p1=some r):
 fP 345 #[vl i p0 c2,iv p1] c (λv d=>c=d/\v=iv r/\I64 r):=by
 refine fnc 19 [] func345 ntmps345 λf=>cT 1 (cs (cT 3 (cb 0 ?_)));refine zi 0 (λZ=>∀(e:Env),zhB=some r->Z (e) c) ?_ λp=>?_
 ·intro e a;exact zf (za (cT 1 (crt (sj a▸rT 4 (iv (-1)) ⟨rfl,rfl,(iK (-1))⟩))))
 refine lB (J:=λb s d=>(∃e,s=ups e [(0,vl i p0 c2),(1,iv p1),(7,iv (p0.length:Int)),(8,iv b)])/\c=d/\I64 b) kr a ⟨⟨_,eY⟩,rfl,(iK 0)⟩ ?_;rintro b _ _ ⟨⟨e,rfl⟩,rfl,l⟩ t a g;refine cT 1 (cs (cc _ a (λj a=>?_) λj a=>?_))
 ·refine ckt (cs (cb 1 (cO 2 (otx (od 3 (bE a λA m a=>oJ n m λy z u h=>oV h.at 0 (dT 1 (cc _ a (λj a=>?_) λj a=>?_))))))))
  ·exact cT 2 (crt (zj (zd (zt (zj (zd (sj (g _ a)▸rT 4 (iv b) ⟨rfl,rfl,l⟩)))))))
  exact ck (zc (za (cr (od 2 (oe (ze (sj a).symm ⟨⟨_,eY⟩,rfl,(zp _)⟩))))))
 exact cx 0 (zg (zh (zo rfl (p   _  (g _ a)))))
def zjn{a:K}{p0:LI}{c:OA}{c2:Nat}{p1:Int}(g:Sl tI64 a c c2 p0)(d:I64 p1){r:Bool}(b:zcA p0 p1=some r):
 fP 344 #[vl c p0 c2,iv p1] a (λv e=>a=e/\v=.bool r):=by
 refine fnc 9 [] func344 ntmps344 λj=>cO 1 (otx (od 2 (bE b λh f b=>ocl 7 (zqE g d f) ?_)));rintro _ _ ⟨rfl,rfl,i⟩;exact dT 2 (crt (sj b▸rT 4 (bW (h≥0)) ⟨rfl,rfl⟩))
def zo2{c:K}{p0:Int×Int×Int}{p1:LI}{d e:Nat}{h:OA}{i:Nat}(j:I64 p0.1)(k:I64 p0.2.1)(p:I64 p0.2.2)(m1:At c d e [vl h p1 i])(f6:Sl tI64 c h i p1){r:Bool}(a:zeB p0 p1=some r):
 fP 343 #[.agg #[iv p0.1,iv p0.2.1,iv p0.2.2],pt d e] c (λv l=>Step [] c l/\v=.bool r):=by
 refine fnc 13 [] func343 ntmps343 λo=>csr (oB 258 343001 [iv p0.1,iv p0.2.1,iv p0.2.2] o λs q o t b=>dT 1 (cs (cd 7 (dV (m1.Y o) 0 (dd 1 (dV b.at 0 (bE a λm f a=>dc0 7 (zjn (f6.X o) j f) (dV (m1.Y o) 0 (dd 1 (dV b.at 1 (de (bE a λn g a=>ocl 11 (zjn (f6.X o) k g) ?_))))))))))));rintro _ _ ⟨rfl,rfl⟩;exact dT 2 (crt (sj a▸rT 3 (.bool (m == n)) ⟨o,rfl⟩))
def zqP{h:K}{p0:LB}{q j:OA}{c2 k:Nat}{p1:LI}(y:Sl z6 h q c2 p0)(f6:Sl tI64 h j k p1){r:Int}(d:zhs p0 p1=some r):
 fP 341 #[vl q p0 c2,vl j p1 k] h (λv t=>Step [] h t/\v=iv r/\I64 r):=by
 refine fnc 10 [] func341 ntmps341 λo=>csr (oB 32 341001 [vl j p1 k] o λz F o G a=>od 1 (otx (od 1 (bE d λH l d=>ocl 6 (zlE (y.X o) l) ?_))));rintro _ A ⟨i,I,J,L,rfl,b,c⟩;have b:=gm o.1 b;have o:=o.tr0 i;have a:=a.Y i;refine od 1 ?_;obtain⟨M,e,f,c⟩:=c.low b a.tlt;refine bE d λN m d=>ocl 8 (zh1 c f (fi1:=343) (bv1:=#[]) (cv1:=#[pt z 0]) kr (by intro _ s _ w0 B C _ hp;exact zj4 kr ((zo2 w0 B C (a.at.X s (c.bn a (zk kr))) ((f6.X o).X s) hp))) m) ?_;rintro _ D ⟨u,O,P,rfl,w,g⟩;clear g;have o:=o.trM (zwp (c.own e)) u;refine bE d λx n d=>oC o (Fn.borrow w (λ_ _ sb gb=>zrf gb.sl n)) ?_;rintro E Q o _ ⟨rfl,p⟩;exact dT 1 (crt (sj d▸rT 4 (iv x) ⟨o,rfl,p⟩))
def zqR{d:K}{p0:LG×LT}{h i j e:OA}{c2 k l f:Nat}{p1:LP}{m:LI}(x:Sl tGlue d h c2 p0.1)(f6:Sl tTile d i k p0.2)(n:Sl tPlaced d j l p1)(g:Sl tI64 d e f m){r:Int×Int}(c:zky p0 p1 m=some r):
 fP 339 #[.agg #[vl h p0.1 c2,vl i p0.2 k],.agg #[vl j p1 l],vl e m f] d (λv y=>Step [] d y/\v=.tuple #[iv r.1,iv r.2]/\I64 r.1/\I64 r.2):=by
 refine fnc 23 [] func339 ntmps339 λo=>csr (oB 45 339001 [vl h p0.1 c2,vl i p0.2 k] o λL E o M a=>oB 48 339002 [vl j p1 l] o λN F o z b=>?_);have a:=a.Y z;refine dT 2 (cs (cb 0 (csr (oL a.at 0 2 (oL b.at 0 1 (bE c λO p c=>oC o (zdr (x.X o) (f6.X o) (n.X o) p) ?_))))));rintro G A o _ rfl;obtain⟨a,b⟩:=sQ2 A a b;refine dT 2 (cc _ c (λq c=>?_) λq c=>?_)
 ·refine cT 2 (crt (zj (zd ?_)));obtain rfl:=sj c;exact rt [.tmp 6,.tmp 7] [iv 0,iv 1] ⟨kr,kr,trivial⟩ (⟨o,rfl,(iK 0),(iK 1)⟩)
 refine csr (oL b.at 0 1 (od 1 (bE c λP s c=>oC o (zox (n.X o) (g.X o) s) ?_)));rintro H B o _ rfl;obtain⟨a,b⟩:=sQ2 B a b;refine dT 2 (cc _ c (λq c=>?_) λq c=>?_)
 ·refine cT 2 (crt (zj (zd ?_)));obtain rfl:=sj c;exact rt [.tmp 6,.tmp 7] [iv 0,iv 2] ⟨kr,kr,trivial⟩ (⟨o,rfl,(iK 0),(iK 2)⟩)
 refine ck (zc (za (csr (oL a.at 0 2 (oL b.at 0 1 (bE c λQ t c=>oC o (zf7 (x.X o) (f6.X o) (n.X o) t) ?_))))));rintro I R o _ ⟨S,T,rfl,C⟩;refine od 1 (bE c λD u c=>oC o (zqP C (g.X o) u) ?_);rintro J U o _ ⟨rfl,w⟩;refine dT 2 (crt ?_);obtain rfl:=sj c;exact rt [.tmp 6,.tmp 7] [iv D,iv 0] ⟨kr,kr,trivial⟩ (⟨o,rfl,w,(iK 0)⟩)
def zn1{e:K}{p0:LI}{m n p f g:OA}{c2 q s h i:Nat}{p1:TS×(LP)×Int}{j:LP}(A:Sl tI64 e m c2 p0)(f6:Sl tGlue e n q p1.1.1)(B:Sl tTile e p s p1.1.2)(J:Sl tPlaced e f h p1.2.1)(C:I64 p1.2.2)(u:Sl tPlaced e g i j){r:Bool}(c:zdp p0 p1 j=some r):
 fP 338 #[.agg #[vl m p0 c2],.agg #[vl n p1.1.1 q,vl p p1.1.2 s,vl f p1.2.1 h,iv p1.2.2],.agg #[vl g j i]] e (λv w=>Step [] e w/\v=.bool r):=by
 refine fnc 41 [] func338 ntmps338 λo=>csr (oB 199 338001 [vl m p0 c2] o λL D o M a=>oB 50 338002 [vl n p1.1.1 q,vl p p1.1.2 s,vl f p1.2.1 h,iv p1.2.2] o λN E o x b=>?_);have a:=a.Y x;refine oB 48 338003 [vl g j i] o λO F o y d=>?_;obtain⟨a,b⟩:=sQ2 y a b;refine od 1 (otx (od 1 (oL b.at 0 2 (oL d.at 0 1 (od 1 (oV a.at 0 (bE c λl t c=>oC o (zqR (f6.X o) (B.X o) (u.X o) (A.X o) t) ?_)))))));rintro G z o _ ⟨rfl,H,I⟩;obtain⟨a,b,d⟩:=sQ3 z a b d;refine od 5 (otx (od 2 (osp 20 (decide (l.2=0)) c (λk c=>?_) λk c=>?_)))
 ·exact oz [21,22,23,24] (od 2 (oz [27,28,29,30,31,32,33] (od 2 (oz [36,37,38,39] (dT 2 (crt (sj c▸rT 6 ff ⟨o,rfl⟩)))))))
 refine od 1 (oV a.at 0 (od 3 ?_));refine osp 26 (decide ((p0.length:Int)>0)) c ?_ ?_
 ·intro k c;exact oz [27,28,29,30,31,32,33] (od 2 (oz [36,37,38,39] (dT 2 (crt (sj c▸rT 6 ff ⟨o,rfl⟩)))))
 intro k c;refine od 1 (oV a.at 0 (od 2 (oV d.at 0 (od 3 ?_))));refine osp 35 (decide ((p0.length:Int)<(j.length:Int))) c ?_ ?_
 ·intro k c;exact oz [36,37,38,39] (dT 2 (crt (sj c▸rT 6 ff ⟨o,rfl⟩)))
 intro k c;exact od 2 (oV b.at 3 (dT 3 (crt (sj c▸rT 6 (bW (l.1<p1.2.2)) ⟨o,rfl⟩))))
def zfs{c:K}{p0:LW}{d:OA}{c2:Nat}(h:Sl tStr c d c2 p0){r:BS}(a:ze3 p0=some r):
 fP 49 #[vl d p0 c2] c (λv e=>Step [] c e/\v=zr r/\r.length<=9223372036854775807):=by
 refine fnc 6 [] func49 ntmps49 λm=>cO 1 (otx (od 1 (bE a λk f a=>oC m (ztx h si f) ?_)));rintro i l m _ ⟨rfl,j⟩;exact bE a λg b a=>oq 5 (zr g) (λ_=>zw kr b) (dT 1 (crt (sj a▸rT 2 (zr g) ⟨m,rfl,(zbr b)⟩)))
def zfR{a:K}{p0:Int}(c:I64 p0)(g:Glob a){r:BS}(b:zfw p0=some r):
 fP 88 #[iv p0] a (λv d=>Step [] a d/\v=zr r/\r.length<=9223372036854775807):=by
 refine fnc 5 [] func88 ntmps88 λk=>cO 1 (otx (od 1 (bE b λh e b=>oC k (zpy c (iK 10) (g.X k) e) ?_)));rintro i j k _ ⟨rfl,f⟩;exact dT 1 (crt (sj b▸rT 2 (zr h) ⟨k,rfl,f⟩))
def znz{i:K}{p0:Int×Int}(d:I64 p0.1)(e:I64 p0.2)(m:Glob i){r:BS}(a:zgT p0=some r):
 fP 51 #[.agg #[iv p0.1,iv p0.2]] i (λv n=>Step [] i n/\v=zr r/\r.length<=9223372036854775807):=by
 refine fnc 14 [] func51 ntmps51 λo=>csr (oB 104 51001 [iv p0.1,iv p0.2] o λp A o E b=>dT 1 (cs (csr (oL b.at 0 2 (bE a λF q a=>oC o (ziL d e q) ?_)))));rintro B t o _ rfl;have b:=b.Y t;refine dT 1 (cc _ a (λu a=>?_) λu a=>?_)
 ·exact cT 1 (crt (zd (sj a▸rT 2 (zr ([]:BS)) ⟨o,rfl,si⟩)))
 refine ckt (cs (cx_ 7 [0,1,4,5,2,3,6] [2,6] 7 [] (xp 6 (pt p 0) (xV b.at 0 (xp 10 (pt p 1) (xV b.at 1 (bE a λC j a=>xcl 8 (zfR d (m.X o) j) ?_)))))));rintro _ w ⟨f,rfl,x⟩;refine⟨f,?_⟩;have o:=o.tr0 f;refine bE a λs k a=>xq 9 (zr s) (λ_=>zw kr k) (bE a λD l a=>xcl 12 (zfR e (m.X o) l) ?_);rintro _ y ⟨g,rfl,z⟩;refine⟨g,?_⟩;have o:=o.tr0 g;exact xe (bE a λh c a=>oq 13 (zr h) (λ_=>zw kr c) (dT 1 (crt (sj a▸rT 2 (zr h) ⟨o,rfl,(zbr c)⟩))))
def ztU{f:K}{p0:LG×LT}{z p:OA}{c2 q:Nat}(f3:Sl tGlue f z c2 p0.1)(f6:Sl tTile f p q p0.2)(G0:Glob f){r:BS}(c:zl1 p0=some r):
 fP 89 #[.agg #[vl z p0.1 c2,vl p p0.2 q]] f (λv i=>Step [] f i/\v=zr r/\r.length<=9223372036854775807):=by
 refine fnc 62 [] func89 ntmps89 λo=>csr (oB 45 89001 [vl z p0.1 c2,vl p p0.2 q] o λt i9 o j1 b=>od 1 (otx (oA 96 89002 [.pointer none,sl none 0 0] o λh b5 o e2 E=>?_)));have b:=b.Y e2;have a:Bld 96 5 (f.H.size,89002) b5 h []:=Bld.mk0 E;clear E;refine ot (cs (cO 1 (oV b.at 0 (dT 2 (cb 0 ?_)))));refine zi 0 (λZ=>∀(G:LI)(j:Env)(u:K)(o:Step [] f u)(b:Box (f.H.size,89001) u t [vl z p0.1 c2,vl p p0.2 q] 45)(a:Bld 96 5 (f.H.size,89002) u h G),zlt p0 G=some r->Z (ups j [(1,pt t 0),(3,pt h 0)]) u) ?_ λJ1=>?_
 ·intro G j u o b a c;refine zf (za (cs (cO 1 (oV b.at 1 (dT 2 (cb 2 ?_))))));refine zi 2 (λZ=>∀(H:LI)(j:Env)(A:K)(o:Step [] f A)(a:Bld 96 5 (f.H.size,89002) A h H),zls H=some r->Z (ups j [(3,pt h 0)]) A) ?_ λJ2=>?_
  ·intro H j A o a c;refine zf (za (csr (ocl 61 (zkT a) ?_)));rintro _ g5 ⟨e3,rfl,b6⟩;have o:=o.trG (a.own (gl _)) e3;exact dT 1 (crt (sj c▸rT 2 (zr (zV H)) ⟨o,rfl,b6⟩))
  refine lB (J:=λk L i=>(∃j,L=ups j [(1,pt t 0),(3,pt h 0),(29,vl p p0.2 q),(30,iv (p0.2.length:Int)),(31,iv k.1)])/\Step [] f i/\I64 k.1/\Box (f.H.size,89001) i t [vl z p0.1 c2,vl p p0.2 q] 45/\Bld 96 5 (f.H.size,89002) i h k.2) kr c ⟨⟨_,eY⟩,o,(iK 0),b,a⟩ ?_;rintro k _ g6 ⟨⟨j,rfl⟩,o,g7,b,a⟩ V c X;refine cT 1 (cs (cc _ c (λD c=>?_) λD c=>?_))
  ·refine ckt (cs (cb 3 (csr (bE c λn b9 c=>oJ (f6.X o) b9 λj2 j3 g8 B C e Y=>oL Y.at 0 2 (oA 108 89004 [zr ([]:BS),sl none 0 0] o λj4 g9 o e5 g=>?_)))));obtain⟨e,b,a⟩:=sQ3 e5 e b a;refine oS 0 [zr n.1,vl B n.2 C] g o λh0 o M N=>?_;have e:=e.X M;have b:=b.X M (nm1 (b.ne g (zk kr)));have a:=a.X M (a.bn g.o (zk kr));have g:=N;refine otx (od 1 (oV g.at 0 (bE c λe6 c0 c=>oq 37 (zr e6) (λ_=>zw kr c0) (bE c λe7 c1 c=>ocl 38 (zX a c1) ?_))));rintro _ h1 ⟨I,rfl,d⟩;have o:=o.trG (a.own (gl _)) I;have e:=e.X I;have b:=b.X I (a.nb b.o (zk kr));have g:=g.X I (a.nb g.o (zk kr));have a:=d;refine ot (cs (cO 1 (oV g.at 1 (dT 2 (cb 4 ?_)))));refine zi 4 (λZ=>∀(O:LI)(j:Env)(w:K)(o:Step [] f w)(b:Box (f.H.size,89001) w t [vl z p0.1 c2,vl p p0.2 q] 45)(a:Bld 96 5 (f.H.size,89002) w h O),zlr k O=some V->Z (ups j [(1,pt t 0),(3,pt h 0),(29,vl p p0.2 q),(30,iv (p0.2.length:Int)),(31,iv k.1)]) w) ?_ λJ3=>?_
   ·intro O j w o b a c;refine zf (za (cr (bE c λj5 c3 c=>ocl 59 (zX a c3) ?_)));rintro _ h3 ⟨b0,rfl,d⟩;have o:=o.trG (a.own (gl _)) b0;have b:=b.X b0 (a.nb b.o (zk kr));have a:=d;exact oe (zc (za (cr (od 2 (oe (ze (sj c).symm ⟨⟨_,eY⟩,o,(zp _),b,a⟩))))))
   refine lB (J:=λm L i=>(∃j,L=ups j [(1,pt t 0),(3,pt h 0),(29,vl p p0.2 q),(30,iv (p0.2.length:Int)),(31,iv k.1),(40,vl B n.2 C),(41,iv (n.2.length:Int)),(42,iv m.1)])/\Step [] f i/\I64 m.1/\Sl tI64 i B C n.2/\Box (f.H.size,89001) i t [vl z p0.1 c2,vl p p0.2 q] 45/\Bld 96 5 (f.H.size,89002) i h m.2) kr c ⟨⟨_,eY⟩,o,(iK 0),e,b,a⟩ ?_;rintro m _ h4 ⟨⟨j,rfl⟩,o,h5,e,b,a⟩ a2 c a3;refine cT 1 (cs (cc _ c (λD c=>?_) λD c=>?_))
   ·refine ckt ?_;refine zm (λZ=>∀(P:LI)(j:Env)(s:K)(o:Step [] f s)(e:Sl tI64 s B C n.2)(b:Box (f.H.size,89001) s t [vl z p0.1 c2,vl p p0.2 q] 45)(a:Bld 96 5 (f.H.size,89002) s h P),zfM m P=some a2->cwp prog 62 (sub (zB f89) [1,1,1,0,0,1,0,1,1,0,0,1,1,0,0,1,0,1,1,1]) Z (ups j [(1,pt t 0),(3,pt h 0),(29,vl p p0.2 q),(30,iv (p0.2.length:Int)),(31,iv k.1),(40,vl B n.2 C),(41,iv (n.2.length:Int)),(42,iv m.1)]) s) ?_ λJ4=>?_
    ·intro P j s o e b a c;exact cr (od 2 (oe (ze (sj c).symm ⟨⟨_,eY⟩,o,(zp _),e,b,a⟩)))
    refine cs (cb 5 (csr (bE c λj6 c6 c=>oJ e c6 λj7 j8 h6 a5=>oV a5.at 0 (od 1 (otx (dT 2 (cc _ c (λD c=>?_) λD c=>?_)))))))
    ·refine cr (bE c λf0 c7 c=>ocl 48 (zX a c7) ?_);rintro _ h7 ⟨Q,rfl,d⟩;have o:=o.trG (a.own (gl _)) Q;have e:=e.X Q;have b:=b.X Q (a.nb b.o (zk kr));have a:=d;exact oe (zc (za (zl eY (J4 f0  _ _ o e b a c))))
    refine cr (od 1 (oV b.at 0 (od 2 (bE c λj9 c8 c=>oJ (f3.X o) c8 λk0 k1 h8 h9 a6=>od 1 (oV a6.at 0 (bE c λf1 c9 c=>oq 56 (zr f1) (λ_=>zw kr c9) (bE c λf2 d0 c=>ocl 57 (zX a d0) ?_)))))));rintro _ i0 ⟨R,rfl,d⟩;have o:=o.trG (a.own (gl _)) R;have e:=e.X R;have b:=b.X R (a.nb b.o (zk kr));have a:=d;exact oe (zc (za (zl eY (J4 f2  _ _ o e b a c))))
   exact cx 4 (zg (zh (zo eY (J3 m.2  _ _ o b a (a3 _ c)))))
  exact cx 2 (zg (zh (zo eY (J2 k.2  _ _ o a (X _ c)))))
 refine lB (J:=λy L i=>(∃j,L=ups j [(1,pt t 0),(3,pt h 0),(11,vl z p0.1 c2),(12,iv (p0.1.length:Int)),(13,iv y.1)])/\Step [] f i/\I64 y.1/\Box (f.H.size,89001) i t [vl z p0.1 c2,vl p p0.2 q] 45/\Bld 96 5 (f.H.size,89002) i h y.2) kr c ⟨⟨_,eY⟩,o,(iK 0),b,a⟩ ?_;rintro y _ i1 ⟨⟨j,rfl⟩,o,i2,b,a⟩ g1 c a8;refine cT 1 (cs (cc _ c (λD c=>?_) λD c=>?_))
 ·refine ckt (cs (cb 1 (csr (bE c λb1 d3 c=>oJ (f3.X o) d3 λk2 k3 i3 d4 a9=>oL a9.at 0 2 (oA 182 89003 [zr ([]:BS),iv 0] o λb2 i4 o f5 l=>?_)))));obtain⟨b,a⟩:=sQ2 f5 b a;refine oS 0 [zr b1.1,iv b1.2] l o λi5 o b3 S=>?_;have b:=b.X b3 (nm1 (b.ne l (zk kr)));have a:=a.X b3 (a.bn l.o (zk kr));have l:=S;refine ot (cx_ 7 [0,1,2,3,4,5,6] [6] 7 [] (xp 17 (pt b2 0) (xV l.at 0 (bE c λf7 d5 c=>xq 19 (zr f7) (λ_=>zw kr d5) (bE c λf8 d6 c=>xq 20 (zr f8) (λ_=>zw kr d6) (xp 21 (pt b2 1) (xV l.at 1 (bE c λk4 d7 c=>xcl 23 (zfR d4 (G0.X o) d7) ?_))))))));rintro _ i6 ⟨T,rfl,i7⟩;refine⟨T,?_⟩;have o:=o.tr0 T;obtain⟨b,a⟩:=sQ2 T b a;refine xe (bE c λf9 d8 c=>oq 24 (zr f9) (λ_=>zw kr d8) (bE c λg0 d9 c=>oq 25 (zr g0) (λ_=>zw kr d9) (bE c λk5 e0 c=>ocl 26 (zX a e0) ?_)));rintro _ i8 ⟨b4,rfl,d⟩;have o:=o.trG (a.own (gl _)) b4;have b:=b.X b4 (a.nb b.o (zk kr));have a:=d;exact oe (zc (za (cr (od 2 (oe (ze (sj c).symm ⟨⟨_,eY⟩,o,(zp _),b,a⟩))))))
 exact cx 0 (zg (zh (zo eY (J1 y.2  _ _ o b a (a8 _ c)))))
def zre{f:K}{p0:TS×(LP)×Int}{y z n:OA}{c2 A p:Nat}(f3:Sl tGlue f y c2 p0.1.1)(f6:Sl tTile f z A p0.1.2)(f9:Sl tPlaced f n p p0.2.1)(N:I64 p0.2.2)(O:Glob f){r:BS}(c:zik p0=some r):
 fP 50 #[.agg #[vl y p0.1.1 c2,vl z p0.1.2 A,vl n p0.2.1 p,iv p0.2.2]] f (λv i=>Step [] f i/\v=zr r/\r.length<=9223372036854775807):=by
 refine fnc 40 [] func50 ntmps50 λo=>csr (oB 50 50001 [vl y p0.1.1 c2,vl z p0.1.2 A,vl n p0.2.1 p,iv p0.2.2] o λk d7 o g3 b=>od 1 (otx (oA 96 50002 [.pointer none,sl none 0 0] o λj P o b2 l=>?_)));have b:=b.Y b2;have a:Bld 96 5 (f.H.size,50002) P j []:=Bld.mk0 l;clear l;refine otx (od 1 (oV b.at 3 (bE c λb3 Q c=>oC o (zfR N (O.X o) Q) ?_)));rintro d8 b4 o _ ⟨rfl,R⟩;obtain⟨b,a⟩:=sQ2 b4 b a;refine oT (t:=tStr) 9 50003 true [([116,101,109,112,101,114,97,116,117,114,101]:BS),b3] o ⟨_,_,rfl,⟨rfl,si⟩,⟨_,_,rfl,⟨rfl,R⟩,rfl⟩⟩ λg4 d9 o b5 b6=>?_;obtain⟨b,a⟩:=sQ2 b5 b a;refine bE c λg5 S c=>oC o (zfs b6.sl S) ?_;rintro e0 b7 o _ ⟨rfl,e1⟩;obtain⟨b,a⟩:=sQ2 b7 b a;refine bE c λg6 T c=>ocl 11 (zX a T) ?_;rintro _ e2 ⟨G,rfl,d⟩;have o:=o.trG (a.own (gl _)) G;have b:=b.X G (a.nb b.o (zk kr));have a:=d;refine otx (od 1 (oL b.at 0 2 (bE c λg7 U c=>oC o (ztU (f3.X o) (f6.X o) (O.X o) U) ?_)));rintro e3 b8 o _ ⟨rfl,e4⟩;obtain⟨b,a⟩:=sQ2 b8 b a;refine bE c λb9 V c=>ocl 15 (zX a V) ?_;rintro _ e5 ⟨H,rfl,d⟩;have o:=o.trG (a.own (gl _)) H;have b:=b.X H (a.nb b.o (zk kr));have a:=d;refine ot (cs (cO 2 (oV b.at 2 (dT 2 (cb 0 ?_)))));refine zi 0 (λZ=>∀(m:LI)(q:Env)(h:K)(o:Step [] f h)(a:Bld 96 5 (f.H.size,50002) h j m),ziC m=some r->Z (ups q [(3,pt j 0)]) h) ?_ λJ1=>?_
 ·intro m q h o a c;refine zf (za (csr (ocl 39 (zkT a) ?_)));rintro _ e7 ⟨c0,rfl,X⟩;have o:=o.trG (a.own (gl _)) c0;exact dT 1 (crt (sj c▸rT 2 (zr (zV m)) ⟨o,rfl,X⟩))
 refine lB (J:=λg E' i=>(∃q,E'=ups q [(1,pt k 0),(3,pt j 0),(18,vl n p0.2.1 p),(19,iv (p0.2.1.length:Int)),(20,iv g.1)])/\Step [] f i/\I64 g.1/\Box (f.H.size,50001) i k [vl y p0.1.1 c2,vl z p0.1.2 A,vl n p0.2.1 p,iv p0.2.2] 50/\Bld 96 5 (f.H.size,50002) i j g.2) kr c ⟨⟨_,eY⟩,o,(iK 0),b,a⟩ ?_;rintro g _ e9 ⟨⟨q,rfl⟩,o,f0,b,a⟩ d4 c C;refine cT 1 (cs (cc _ c (λhc c=>?_) λhc c=>?_))
 ·refine ckt (cs (cb 1 (csr (bE c λs a0 c=>oJ (f9.X o) a0 λg8 g9 a2 a3 f2 D=>oL D.at 0 3 (oA 106 50004 [iv 0,iv 0,iv 0] o λI f4 o c3 e=>?_)))));obtain⟨b,a⟩:=sQ2 c3 b a;refine oS 0 [iv s.1.1,iv s.1.2,iv s.2] e o λf5 o L u=>?_;have b:=b.X L (nm1 (b.ne e (zk kr)));have a:=a.X L (a.bn e.o (zk kr));have e:=u;refine ot (cx_ 11 [0,1,2,3,4,5,6,7,8,9,10] [10] 11 [] (xp 24 (pt k 0) (xp 25 (pt k 1) (xV b.at 1 (xp 27 (pt I 2) (xV e.at 2 (bE c λc4 a5 c=>xI (f6.X o) a5 λc6 c7 a6 h0 h1 h2 E=>xp 30 (pt c6 c7) (xV E.at 0 (xp 32 (pt I 0) (xL e.at 0 2 (bE c λc9 a8 c=>xcl 34 (znz a2 a3 (O.X o) a8) ?_)))))))))));rintro _ f7 ⟨w,rfl,a9⟩;refine⟨w,?_⟩;have o:=o.tr0 w;obtain⟨b,a⟩:=sQ2 w b a;refine xe (oT (t:=tStr) 9 50005 true [([115,101,101,100]:BS),c4.1,c9] o ⟨_,_,rfl,⟨rfl,si⟩,⟨_,_,rfl,⟨rfl,a6⟩,⟨_,_,rfl,⟨rfl,a9⟩,rfl⟩⟩⟩ λh3 f8 o d0 d2=>?_);obtain⟨b,a⟩:=sQ2 d0 b a;refine bE c λh4 b0 c=>oC o (zfs d2.sl b0) ?_;rintro g0 d3 o _ ⟨rfl,g1⟩;obtain⟨b,a⟩:=sQ2 d3 b a;refine bE c λh5 b1 c=>ocl 37 (zX a b1) ?_;rintro _ g2 ⟨M,rfl,d⟩;have o:=o.trG (a.own (gl _)) M;have b:=b.X M (a.nb b.o (zk kr));have a:=d;exact oe (zc (za (cr (od 2 (oe (ze (sj c).symm ⟨⟨_,eY⟩,o,(zp _),b,a⟩))))))
 exact cx 0 (zg (zh (zo eY (J1 g.2  _ _ o a (C _ c)))))
def zso{b:K}{p0:Int}(c:I64 p0){r:BS}(a:zjV p0=some r):
 fP 91 #[iv p0] b (λv d=>b=d/\v=zr r/\r.length<=9223372036854775807):=by
 refine fnc 9 [] func91 ntmps91 λj=>cT 1 (cs (cO 1 (bE a λx1 e a=>ocl 4 (zaF c (iK 1) (iK 6) e) ?_)));rintro _ _ ⟨rfl,rfl⟩;refine dT 1 (cc _ a (λf a=>?_) λf a=>?_)
 ·exact cT 1 (crt (zd (sj a▸rT 2 (zr []) ⟨rfl,rfl,by simp⟩)))
 refine ckt (cO 2 ?_);obtain⟨i,g,_⟩:=zh6 a;have h:p0=0\/p0=1\/p0=2\/p0=3\/p0=4\/p0=5\/p0=6:=by simp only[dz,eh]at g;omega
 rcases h with rfl | rfl | rfl | rfl | rfl | rfl | rfl
 ·obtain rfl:([]:BS)=r:=sj a;exact dT 2 (crt (rt [.tmp 2] [zr ([]:BS)] ⟨kr,trivial⟩ ⟨rfl,rfl,by decide⟩))
 ·obtain rfl:([103,114,111,119,110]:BS)=r:=sj a;exact dT 2 (crt (rt [.tmp 2] [zr ([103,114,111,119,110]:BS)] ⟨kr,trivial⟩ ⟨rfl,rfl,by decide⟩))
 ·obtain rfl:([116,101,114,109,105,110,97,108]:BS)=r:=sj a;exact dT 2 (crt (rt [.tmp 2] [zr ([116,101,114,109,105,110,97,108]:BS)] ⟨kr,trivial⟩ ⟨rfl,rfl,by decide⟩))
 ·obtain rfl:([117,110,105,113,117,101]:BS)=r:=sj a;exact dT 2 (crt (rt [.tmp 2] [zr ([117,110,105,113,117,101]:BS)] ⟨kr,trivial⟩ ⟨rfl,rfl,by decide⟩))
 ·obtain rfl:([99,111,110,102,108,105,99,116]:BS)=r:=sj a;exact dT 2 (crt (rt [.tmp 2] [zr ([99,111,110,102,108,105,99,116]:BS)] ⟨kr,trivial⟩ ⟨rfl,rfl,by decide⟩))
 ·obtain rfl:([115,116,97,98,108,101]:BS)=r:=sj a;exact dT 2 (crt (rt [.tmp 2] [zr ([115,116,97,98,108,101]:BS)] ⟨kr,trivial⟩ ⟨rfl,rfl,by decide⟩))
 obtain rfl:([108,111,111,115,101]:BS)=r:=sj a;exact dT 2 (crt (rt [.tmp 2] [zr ([108,111,111,115,101]:BS)] ⟨kr,trivial⟩ ⟨rfl,rfl,by decide⟩))
def zeA{e:K}{p0:BS}{p1:LI}{a2:OA}{q:Nat}(D:p0.length<=9223372036854775807)(R:Sl tI64 e a2 q p1)(S:Glob e){r:BS}(a:zbC p0 p1=some r):
 fP 92 #[zr p0,vl a2 p1 q] e (λv f=>Step [] e f/\v=zr r/\r.length<=9223372036854775807):=by
 refine fnc 24 [] func92 ntmps92 λm=>cO 1 (otx (od 1 (oT (t:=tStr) 9 92001 true [p0] m ⟨_,_,rfl,⟨rfl,D⟩,rfl⟩ λa8 a6 m s7 T=>dT 1 (cs (cT 3 (cb 0 ?_))))));refine zi 0 (λZ=>∀(g:LW)(h:OA)(i:Nat)(j:Env)(d:K),Step [] e d->Gr tStr true (e.H.size,92001) d 9 h i g->zhP g=some r->Z (ups j [(5,vl h g i)]) d) ?_ λU=>?_
 ·intro g h i j d m E a;refine zf (za (cO 1 (bE a λG s a=>oC m (zfs E.sl s) ?_)));rintro V a7 m _ ⟨rfl,u⟩;exact dT 1 (crt (sj a▸rT 4 (zr G) ⟨m,rfl,u⟩))
 refine lB (J:=λb X f=>∃(k:OA)(l:Nat),(∃j,X=ups j [(5,vl k b.1 l),(10,vl a2 p1 q),(11,iv (p1.length:Int)),(12,iv b.2)])/\Step [] e f/\Gr tStr true (e.H.size,92001) f 9 k l b.1/\I64 b.2) kr a ⟨_,_,⟨_,eY⟩,m,T,(iK 0)⟩ ?_;rintro b _ Y ⟨k,l,⟨j,rfl⟩,m,c,a0⟩ Q a n;refine cT 1 (cs (cc _ a (λhc a=>?_) λhc a=>?_))
 ·refine ckt (cs (cb 1 (csr (bE a λa9 y a=>oJ (R.X m) y λb0 b1 z p=>oV p.at 0 (od 1 (otr (od 2 (bE a λI A a=>oC m (zfR z (S.X m) A) ?_))))))));rintro a3 L m _ ⟨rfl,B⟩;have c:=c.Y L;refine oT (t:=tStr) 9 92002 true [I] m ⟨_,_,rfl,⟨rfl,B⟩,rfl⟩ λb2 a4 m M N=>?_;have c:=c.Y M;refine bE a λb3 C a=>oP 149 c N.sl m.1 C λb4 b5 a5 O P hw=>?_;clear hw;have m:=m.trG (c.own (gl _)) O;exact od 1 (oe (zc (za (cr (od 2 (oe (ze (sj a).symm ⟨_,_,⟨_,eY⟩,m,P,(zp _)⟩)))))))
 exact cx 0 (zg (zh (zo eY (U b.1 _ _ _ _ m c (n _ a)))))
def zsn{e:K}{p0:Int×LP×LP×LI×LM}{a2 A G l:OA}{B C H m:Nat}(e9:I64 p0.1)(f4:Sl tPlaced e a2 B p0.2.1)(f7:Sl tPlaced e A C p0.2.2.1)(f0:Sl tI64 e G H p0.2.2.2.1)(f1:Sl (tSl tI64) e l m p0.2.2.2.2)(G0:Glob e){r:BS}(c:zjU p0=some r):
 fP 52 #[.agg #[iv p0.1,vl a2 p0.2.1 B,vl A p0.2.2.1 C,vl G p0.2.2.2.1 H,vl l p0.2.2.2.2 m]] e (λv j=>Step [] e j/\v=zr r/\r.length<=9223372036854775807):=by
 refine fnc 78 [] func52 ntmps52 λo=>csr (oB 53 52001 [iv p0.1,vl a2 p0.2.1 B,vl A p0.2.2.1 C,vl G p0.2.2.2.1 H,vl l p0.2.2.2.2 m] o λk i5 o l8 b=>od 1 (otx (od 1 (oV b.at 0 (bE c λb8 c2 c=>ocl 13 (zso e9 c2) ?_)))));rintro _ _ ⟨rfl,rfl,c4⟩;refine dT 1 (cs (cO 1 (oq 15 (bW (b8=([]:BS))) (λ_=>zol kr) (ot (cc _ c (λD c=>?_) λD c=>?_)))))
 ·exact cT 1 (crt (zd (sj c▸rT 2 (zr ([]:BS)) ⟨o,rfl,si⟩)))
 refine ckt (csr (oA 96 52002 [.pointer none,sl none 0 0] o λf c5 o f2 I=>?_));have b:=b.Y f2;have a:Bld 96 5 (e.H.size,52002) c5 f []:=Bld.mk0 I;clear I;refine otx (od 1 (oT (t:=tStr) 9 52003 true [([112,114,111,111,102]:BS),b8] o ⟨_,_,rfl,⟨rfl,si⟩,⟨_,_,rfl,⟨rfl,c4⟩,rfl⟩⟩ λl9 i6 o f3 f5=>?_));obtain⟨b,a⟩:=sQ2 f3 b a;refine bE c λm0 c7 c=>oC o (zfs f5.sl c7) ?_;rintro i7 f6 o _ ⟨rfl,i8⟩;obtain⟨b,a⟩:=sQ2 f6 b a;refine bE c λf8 c8 c=>ocl 19 (zX a c8) ?_;rintro _ i9 ⟨b9,rfl,d⟩;have o:=o.trG (a.own (gl _)) b9;have b:=b.X b9 (a.nb b.o (zk kr));have a:=d;refine ot (cs (cO 1 (oV b.at 1 (dT 2 (cb 0 ?_)))));refine zi 0 (λZ=>∀(L:LI)(h:Env)(q:K)(o:Step [] e q)(b:Box (e.H.size,52001) q k [iv p0.1,vl a2 p0.2.1 B,vl A p0.2.2.1 C,vl G p0.2.2.2.1 H,vl l p0.2.2.2.2 m] 53)(a:Bld 96 5 (e.H.size,52002) q f L),zjT p0 L=some r->Z (ups h [(1,pt k 0),(4,pt f 0)]) q) ?_ λJ1=>?_
 ·intro L h q o b a c;refine zf (za (cs (cO 1 (oV b.at 2 (dT 2 (cb 2 ?_))))));refine zi 2 (λZ=>∀(M:LI)(h:Env)(s:K)(o:Step [] e s)(b:Box (e.H.size,52001) s k [iv p0.1,vl a2 p0.2.1 B,vl A p0.2.2.1 C,vl G p0.2.2.2.1 H,vl l p0.2.2.2.2 m] 53)(a:Bld 96 5 (e.H.size,52002) s f M),zjS p0 M=some r->Z (ups h [(1,pt k 0),(4,pt f 0)]) s) ?_ λJ2=>?_
  ·intro M h s o b a c;refine zf (za ?_);refine zm (λZ=>∀(N:LI)(h:Env)(u:K)(o:Step [] e u)(b:Box (e.H.size,52001) u k [iv p0.1,vl a2 p0.2.1 B,vl A p0.2.2.1 C,vl G p0.2.2.2.1 H,vl l p0.2.2.2.2 m] 53)(a:Bld 96 5 (e.H.size,52002) u f N),zej p0 N=some r->cwp prog 78 (sub (zB f52) [1,1,1,1,1,1,1,1]) Z (ups h [(1,pt k 0),(4,pt f 0)]) u) ?_ λJ3=>?_
   ·intro N h u o b a c;refine cs (cO 1 (oV b.at 4 (dT 2 (cb 4 ?_))));refine zi 4 (λZ=>∀(O:LI)(h:Env)(E:K)(o:Step [] e E)(a:Bld 96 5 (e.H.size,52002) E f O),zjR O=some r->Z (ups h [(4,pt f 0)]) E) ?_ λJ4=>?_
    ·intro O h E o a c;refine zf (za (csr (ocl 77 (zkT a) ?_)));rintro _ j4 ⟨g0,rfl,d0⟩;have o:=o.trG (a.own (gl _)) g0;exact dT 1 (crt (sj c▸rT 2 (zr (zV O)) ⟨o,rfl,d0⟩))
    refine lB (J:=λw Q j=>(∃h,Q=ups h [(4,pt f 0),(67,vl l p0.2.2.2.2 m),(68,iv (p0.2.2.2.2.length:Int)),(69,iv w.1)])/\Step [] e j/\I64 w.1/\Bld 96 5 (e.H.size,52002) j f w.2) kr c ⟨⟨_,eY⟩,o,(iK 0),a⟩ ?_;rintro w _ j5 ⟨⟨h,rfl⟩,o,j6,a⟩ h3 c a3;refine cT 1 (cs (cc _ c (λD c=>?_) λD c=>?_))
    ·refine ckt (cs (cb 5 (csr (bE c λm1 d3 c=>oJ (f1.X o) d3 λm2 m3 m4 m5 g2 a4=>oV a4.at 0 (od 1 (otr (od 1 (bE c λm6 d4 c=>oC o (zeA si g2 (G0.X o) d4) ?_))))))));rintro j7 g3 o _ ⟨rfl,j8⟩;have a:=a.Y g3;refine bE c λm7 d5 c=>ocl 75 (zX a d5) ?_;rintro _ j9 ⟨g4,rfl,d⟩;have o:=o.trG (a.own (gl _)) g4;have a:=d;exact oe (zc (za (cr (od 2 (oe (ze (sj c).symm ⟨⟨_,eY⟩,o,(zp _),a⟩))))))
    exact cx 4 (zg (zh (zo eY (J4 w.2  _ _ o a (a3 _ c)))))
   refine cs (cO 1 (oV b.at 3 (dT 2 (cc _ c (λD c=>?_) λD c=>?_))))
   ·refine cr (od 1 (oV b.at 3 (bE c λm8 d6 c=>oC o (zeA si (f0.X o) (G0.X o) d6) ?_)));rintro k0 g5 o _ ⟨rfl,k1⟩;obtain⟨b,a⟩:=sQ2 g5 b a;refine bE c λg6 d7 c=>ocl 65 (zX a d7) ?_;rintro _ k2 ⟨c0,rfl,d⟩;have o:=o.trG (a.own (gl _)) c0;have b:=b.X c0 (a.nb b.o (zk kr));have a:=d;exact ot (zl eY (J3 g6  _ _ o b a c))
   exact ckt (zl eY (J3 M  _ _ o b a c))
  refine lB (J:=λy Q j=>(∃h,Q=ups h [(1,pt k 0),(4,pt f 0),(40,vl A p0.2.2.1 C),(41,iv (p0.2.2.1.length:Int)),(42,iv y.1)])/\Step [] e j/\I64 y.1/\Box (e.H.size,52001) j k [iv p0.1,vl a2 p0.2.1 B,vl A p0.2.2.1 C,vl G p0.2.2.2.1 H,vl l p0.2.2.2.2 m] 53/\Bld 96 5 (e.H.size,52002) j f y.2) kr c ⟨⟨_,eY⟩,o,(iK 0),b,a⟩ ?_;rintro y _ k3 ⟨⟨h,rfl⟩,o,k4,b,a⟩ h4 c a7;refine cT 1 (cs (cc _ c (λD c=>?_) λD c=>?_))
  ·refine ckt (cs (cb 3 (csr (bE c λz d9 c=>oJ (f7.X o) d9 λm9 n0 e0 e1 e2 a9=>oL a9.at 0 3 (oA 141 52006 [iv 0,iv 0,iv 0] o λn1 k5 o g8 i=>?_)))));obtain⟨b,a⟩:=sQ2 g8 b a;refine oS 0 [iv z.1.1,iv z.1.2,iv z.2] i o λk6 o c1 R=>?_;have b:=b.X c1 (nm1 (b.ne i (zk kr)));have a:=a.X c1 (a.bn i.o (zk kr));have i:=R;refine otr (od 2 (oV i.at 0 (od 2 (oV i.at 1 (od 1 (oV i.at 2 (oT (t:=tI64) 2 52007 true [z.1.1,z.1.2,z.2] o ⟨_,_,rfl,⟨rfl,e0⟩,⟨_,_,rfl,⟨rfl,e1⟩,⟨_,_,rfl,⟨rfl,e2⟩,rfl⟩⟩⟩ λn2 k7 o g9 h0=>?_)))))));obtain⟨b,a⟩:=sQ2 g9 b a;refine bE c λn3 e3 c=>oC o (zeA si h0.sl (G0.X o) e3) ?_;rintro k8 h1 o _ ⟨rfl,k9⟩;obtain⟨b,a⟩:=sQ2 h1 b a;refine bE c λl0 b0 c=>ocl 56 (zX a b0) ?_;rintro _ h5 ⟨S,rfl,d⟩;have o:=o.trG (a.own (gl _)) S;have b:=b.X S (a.nb b.o (zk kr));have a:=d;exact oe (zc (za (cr (od 2 (oe (ze (sj c).symm ⟨⟨_,eY⟩,o,(zp _),b,a⟩))))))
  exact cx 2 (zg (zh (zo eY (J2 y.2  _ _ o b a (a7 _ c)))))
 refine lB (J:=λn Q j=>(∃h,Q=ups h [(1,pt k 0),(4,pt f 0),(21,vl a2 p0.2.1 B),(22,iv (p0.2.1.length:Int)),(23,iv n.1)])/\Step [] e j/\I64 n.1/\Box (e.H.size,52001) j k [iv p0.1,vl a2 p0.2.1 B,vl A p0.2.2.1 C,vl G p0.2.2.2.1 H,vl l p0.2.2.2.2 m] 53/\Bld 96 5 (e.H.size,52002) j f n.2) kr c ⟨⟨_,eY⟩,o,(iK 0),b,a⟩ ?_;rintro n _ h6 ⟨⟨h,rfl⟩,o,l1,b,a⟩ h2 c U;refine cT 1 (cs (cc _ c (λD c=>?_) λD c=>?_))
 ·refine ckt (cs (cb 1 (csr (bE c λp b2 c=>oJ (f4.X o) b2 λl2 l3 b3 b4 b5 V=>oL V.at 0 3 (oA 141 52004 [iv 0,iv 0,iv 0] o λl4 h7 o e5 g=>?_)))));obtain⟨b,a⟩:=sQ2 e5 b a;refine oS 0 [iv p.1.1,iv p.1.2,iv p.2] g o λh8 o X P=>?_;have b:=b.X X (nm1 (b.ne g (zk kr)));have a:=a.X X (a.bn g.o (zk kr));have g:=P;refine otr (od 2 (oV g.at 0 (od 2 (oV g.at 1 (od 1 (oV g.at 2 (oT (t:=tI64) 2 52005 true [p.1.1,p.1.2,p.2] o ⟨_,_,rfl,⟨rfl,b3⟩,⟨_,_,rfl,⟨rfl,b4⟩,⟨_,_,rfl,⟨rfl,b5⟩,rfl⟩⟩⟩ λl5 h9 o e6 e7=>?_)))))));obtain⟨b,a⟩:=sQ2 e6 b a;refine bE c λl6 b6 c=>oC o (zeA si e7.sl (G0.X o) b6) ?_;rintro i0 e8 o _ ⟨rfl,i1⟩;obtain⟨b,a⟩:=sQ2 e8 b a;refine bE c λl7 b7 c=>ocl 37 (zX a b7) ?_;rintro _ i2 ⟨Y,rfl,d⟩;have o:=o.trG (a.own (gl _)) Y;have b:=b.X Y (a.nb b.o (zk kr));have a:=d;exact oe (zc (za (cr (od 2 (oe (ze (sj c).symm ⟨⟨_,eY⟩,o,(zp _),b,a⟩))))))
 exact cx 0 (zg (zh (zo eY (J1 n.2  _ _ o b a (U _ c)))))
def zqH{e:K}{p0:LM}{m:OA}{c2:Nat}(N:Sl (tSl tU8) e m c2 p0){r:LI}(a:zhg p0=some r):
 fP 55 #[vl m p0 c2] e (λv f=>Step [] e f/\∃(O:Nat)(P:OA)(Q:Nat),v=vl P r Q/\e.H.size<=O/\Gr tU8 false (O,55001) f 5 P Q r):=by
 refine fnc 36 [] func55 ntmps55 λo=>cO 1 (otx (dT 1 (cs (cT 3 (cb 0 ?_)))));refine zi 0 (λZ=>∀(j:Int)(g:Env),I64 j->zhJ p0 j=some r->Z (ups g [(0,vl m p0 c2),(3,iv j)]) e) ?_ λJ1=>?_
 ·intro j g C a;refine zf (za (cO 1 (bE a λR D a=>ocl 24 (zrO (Sl.nil _ _) C D) ?_)));rintro _ a9 ⟨S,b6,b7,b8,rfl,b,B⟩;have b:=gm o.1 b;have o:=o.tr0 S;refine zwk B (e.H.size,55001) b λb0 T U=>?_;have o:=o.trG (B.own b) T;refine dT 1 (cs (cT 3 (cb 2 ?_)));refine zi 2 (λZ=>∀(i:LI)(k:OA)(l:Nat)(g:Env)(h:K),Step [] e h->Gr tU8 false (e.H.size,55001) h 5 k l i->zhI i=some r->Z (ups g [(6,vl k i l)]) h) ?_ λJ2=>?_
  ·intro i k l g h o V a;exact zf (za (cT 2 (crt (sj a▸rT 2 (vl k i l) ⟨o,_,_,_,rfl,(gl _),V⟩))))
  refine lB (J:=λc G f=>∃(n:OA)(p:Nat),(∃g,G=ups g [(6,vl n c.1 p),(25,vl m p0 c2),(26,iv (p0.length:Int)),(27,iv c.2)])/\Step [] e f/\Gr tU8 false (e.H.size,55001) f 5 n p c.1/\I64 c.2) kr a ⟨_,_,⟨_,eY⟩,o,U,(iK 0)⟩ ?_;rintro c _ b2 ⟨n,p,⟨g,rfl⟩,o,q,b3⟩ a6 a u;refine cT 1 (cs (cc _ a (λs a=>?_) λs a=>?_))
  ·refine ckt (cs (cb 3 (csr (bE a λb9 H a=>oJ (N.X o) H λc0 c1 c3 c4 Y w=>oV w.at 0 (od 1 (otr (od 2 (bE a λc5 I a=>oP 39 q Y o.1 I λc7 c8 b4 a0 a2 hw=>?_))))))));clear hw;have o:=o.trG (q.own (gl _)) a0;exact od 1 (oe (zc (za (cr (od 2 (oe (ze (sj a).symm ⟨_,_,⟨_,eY⟩,o,a2,(zp _)⟩)))))))
  exact cx 2 (zg (zh (zo eY (J2 c.1 _ _ _ _ o q (u _ a)))))
 refine lB (J:=λd G f=>(∃g,G=ups g [(0,vl m p0 c2),(3,iv d.1),(9,vl m p0 c2),(10,iv (p0.length:Int)),(11,iv d.2)])/\e=f/\I64 d.1/\I64 d.2) kr a ⟨⟨_,eY⟩,rfl,(iK 0),(iK 0)⟩ ?_;rintro d _ _ ⟨⟨g,rfl⟩,rfl,a4,b5⟩ a7 a z;refine cT 1 (cs (cc _ a (λs a=>?_) λs a=>?_))
 ·refine ckt (cs (cb 1 (csr (bE a λc9 M a=>oJ N M λd0 d2 d3 d4 d5 A=>oV A.at 0 (od 1 (otx (od 5 (otx (dT 2 (cc _ a (λs a=>?_) λs a=>?_))))))))))
  ·cases a
  exact ck (zc (za (cr (od 2 (oe (ze (sj a).symm ⟨⟨_,eY⟩,rfl,(zp _),(zp _)⟩))))))
 exact cx 0 (zg (zh (zo eY (J1 d.1  _ a4 (z _ a)))))
def zny{b:K}{p0:Int}(g:I64 p0){r:LI}(d:zgP p0=some r):
 fP 56 #[iv p0] b (λv a=>Step [] b a/\∃(a2:OA)(c:Nat),v=vl a2 r c/\Sl tU8 a a2 c r):=by
 exact fnc 15 [] func56 ntmps56 λj=>cO 1 (otx (od 11 (oT (t:=tU8) 5 56001 true [IntKind.wrap .u8 p0,IntKind.wrap .u8 (Int.fdiv p0 (2 ^ 8)),IntKind.wrap .u8 (Int.fdiv p0 (2 ^ 16)),IntKind.wrap .u8 (Int.fdiv p0 (2 ^ 24))] j ⟨_,_,rfl,⟨rfl,(zmg _)⟩,⟨_,_,rfl,⟨rfl,(zmg _)⟩,⟨_,_,rfl,⟨rfl,(zmg _)⟩,⟨_,_,rfl,⟨rfl,(zmg _)⟩,rfl⟩⟩⟩⟩ λe h j i f=>dT 1 (crt (sj d▸rT 2 (sl e ([IntKind.wrap .u8 p0,IntKind.wrap .u8 (Int.fdiv p0 (2 ^ 8)),IntKind.wrap .u8 (Int.fdiv p0 (2 ^ 16)),IntKind.wrap .u8 (Int.fdiv p0 (2 ^ 24))]).length 4) ⟨j,_,_,rfl,f.sl⟩)))))
def zrn{e:K}{p0:LI}{k:OA}{c2:Nat}(t:Sl tU8 e k c2 p0){r:Int}(b:zfS p0=some r):
 fP 57 #[vl k p0 c2] e (λv f=>e=f/\v=iv r/\I64 r):=by
 refine fnc 27 [] func57 ntmps57 λh=>cO 1 (otx (dT 2 (cs (cT 3 (cb 0 ?_)))));refine zi 0 (λZ=>∀(c:Int)(d:Int)(g:Env),I64 c->I64 d->zmU c d=some r->Z (ups g [(3,iv c),(4,iv d)]) e) ?_ λu=>?_
 ·intro c d g w y b;exact zf (za (cT 5 (crt (sj b▸rT 2 (iv (w64 ((w64 (d*65536))+c))) ⟨rfl,rfl,(zp _)⟩))))
 refine lB (J:=λa z f=>(∃g,z=ups g [(3,iv a.1),(4,iv a.2.1),(7,vl k p0 c2),(8,iv (p0.length:Int)),(9,iv a.2.2)])/\e=f/\I64 a.1/\I64 a.2.1/\I64 a.2.2) kr b ⟨⟨_,eY⟩,rfl,(iK 1),(iK 0),(iK 0)⟩ ?_;rintro a _ _ ⟨⟨g,rfl⟩,rfl,p,q,A⟩ s b i;refine cT 1 (cs (cc _ b (λB b=>?_) λB b=>?_))
 ·refine ckt (cs (cb 1 (csr (bE b λD m b=>oJ t m λE G C j=>oV j.at 0 (od 1 (otx (od 6 (otr (od 5 (oe (zc (za ?_))))))))))));exact cr (od 2 (oe (ze (sj b).symm ⟨⟨_,eY⟩,rfl,(zoF (by decide) (zp _)),(zoF (by decide) (zp _)),(zp _)⟩)))
 exact cx 0 (zg (zh (zo eY (u a.1 a.2.1  _ p q (i _ b)))))
def zvo{j:K}{p0:BS}(f:p0.length<=9223372036854775807){r:LI}(b:zo1 p0=some r):
 fP 24 #[zr p0] j (λv g=>Step [] j g/\∃(p:Nat)(q:OA)(s:Nat),v=vl q r s/\j.H.size<=p/\Gr tU8 false (p,55001) g 5 q s r):=by
 refine fnc 14 [] func24 ntmps24 λo=>cO 1 (otx (od 2 (bE b λG u b=>oC o (zny (zf6 f) u) ?_)));rintro H O o _ ⟨a7,c8,rfl,e⟩;refine od 1 (zpU (d:=7) 9 39 5 f λP Q I h c=>?_);have o:=o.tr0 h;have e:=e.X h;refine od 1 (zpU (d:=9) 9 39 5 f λR S J i w=>?_);have o:=o.tr0 i;obtain⟨e,c⟩:=sQ2 i e c;refine bE b λT k b=>ocl 10 (zrn w k) ?_;rintro _ _ ⟨rfl,rfl,l⟩;refine bE b λx m b=>oC o (zny l m) ?_;rintro L y o _ ⟨U,V,rfl,z⟩;obtain⟨e,c⟩:=sQ2 y e c;refine oT (t:=(tSl tU8)) 39 24001 true [G,zy p0,x] o ⟨_,_,rfl,⟨_,_,rfl,e⟩,⟨_,_,rfl,⟨_,_,rfl,c⟩,⟨_,_,rfl,⟨_,_,rfl,z⟩,rfl⟩⟩⟩ λX M o Y A=>bE b λB n b=>ocl 13 (zqH A.sl n) ?_;rintro _ N ⟨C,Z,D,E,rfl,a,F⟩;have a:=gm o.1 a;have o:=o.tr0 C;exact dT 1 (crt (sj b▸rT 2 (vl D B E) ⟨o,_,_,_,rfl,a,F⟩))
def zlp{b:K}{p0:LI}{k l:OA}{c2 m:Nat}{p1:LI}(s:Sl tU8 b k c2 p0)(f6:Sl tU8 b l m p1){r:Bool}(a:zhn p0 p1=some r):
 fP 8 #[vl k p0 c2,vl l p1 m] b (λv c=>b=c/\v=.bool r):=by
 refine fnc 26 [] func8 ntmps8 λf=>cT 1 (cs (cT 5 (cc _ a (λd a=>?_) λd a=>?_)))
 ·exact cT 1 (crt (zd (sj a▸rT 4 ff ⟨rfl,rfl⟩)))
 refine ckt (cs (cT 1 (cb 0 ?_)));refine zi 0 (λZ=>∀(e:Env),zlq=some r->Z (e) b) ?_ λt=>?_
 ·intro e a;exact zf (za (cT 1 (crt (sj a▸rT 4 tt ⟨rfl,rfl⟩))))
 refine lB (J:=λg w c=>(∃e,w=ups e [(0,vl k p0 c2),(1,vl l p1 m),(5,iv g)])/\b=c/\I64 g) kr a ⟨⟨_,eY⟩,rfl,(iK 0)⟩ ?_;rintro g _ _ ⟨⟨e,rfl⟩,rfl,B⟩ y a h;refine cs (cT 4 (cc _ a (λd a=>?_) λd a=>?_))
 ·refine ckt (cs (cb 1 (cs (cd 8 (dd 2 (bE a λC n a=>dI s n λD E z i=>dV i.at 0 (dd 2 (bE a λG p a=>dI f6 p λH I A j=>dV j.at 0 (de (dT 1 (cc _ a (λd a=>?_) λd a=>?_)))))))))))
  ·exact cT 1 (crt (zj (zd (zt (zj (zd (sj (h _ a)▸rT 4 ff ⟨rfl,rfl⟩)))))))
  exact ck (zc (za (cr (od 3 (oe (ze (sj a).symm ⟨⟨_,eY⟩,rfl,(zp _)⟩))))))
 exact cx 0 (zg (zh (zo rfl (t   _  (h _ a)))))
def zpi{e:K}{p0:Int×Int}{p1:Int×Int}(h:I64 p0.1)(i:I64 p0.2)(j:I64 p1.1)(k:I64 p1.2){r:Bool}(a:zjC p0 p1=some r):
 fP 127 #[.agg #[iv p0.1,iv p0.2],.agg #[iv p1.1,iv p1.2]] e (λv f=>Step [] e f/\v=.bool r):=by
 refine fnc 15 [] func127 ntmps127 λo=>csr (oB 104 127001 [iv p0.1,iv p0.2] o λn l o p b=>oB 104 127002 [iv p1.1,iv p1.2] o λq m o g c=>?_);have b:=b.Y g;refine dT 1 (cs (cO 1 (oV b.at 0 (od 1 (oV c.at 0 (dT 1 (cc _ a (λd a=>?_) λd a=>?_)))))))
 ·exact cT 1 (crt (zd (sj a▸rT 4 ff ⟨o,rfl⟩)))
 refine ckt (cs (cO 1 (oV b.at 1 (od 1 (oV c.at 1 (dT 1 (cc _ a (λd a=>?_) λd a=>?_)))))))
 ·exact cT 1 (crt (zd (sj a▸rT 4 ff ⟨o,rfl⟩)))
 exact ckt (cT 1 (crt (sj a▸rT 4 tt ⟨o,rfl⟩)))
def zs4{f:K}{p0:(Int×Int)×Int}{p1:(Int×Int)×Int}(g:I64 p0.1.1)(h:I64 p0.1.2)(q:I64 p0.2)(i:I64 p1.1.1)(j:I64 p1.1.2)(s:I64 p1.2){r:Bool}(c:znX p0 p1=some r):
 fP 96 #[.agg #[iv p0.1.1,iv p0.1.2,iv p0.2],.agg #[iv p1.1.1,iv p1.1.2,iv p1.2]] f (λv k=>Step [] f k/\v=.bool r):=by
 refine fnc 16 [] func96 ntmps96 λo=>csr (oB 106 96001 [iv p0.1.1,iv p0.1.2,iv p0.2] o λx t o y a=>oB 106 96002 [iv p1.1.1,iv p1.1.2,iv p1.2] o λu n o l b=>?_);have a:=a.Y l;refine dT 1 (cs (cO 1 (oL a.at 0 2 (od 1 (oL b.at 0 2 (bE c λw d c=>oC o (zpi g h i j d) ?_))))));rintro p m o _ rfl;obtain⟨a,b⟩:=sQ2 m a b;refine dT 1 (cc _ c (λe c=>?_) λe c=>?_)
 ·exact cT 1 (crt (zd (sj c▸rT 4 ff ⟨o,rfl⟩)))
 refine ckt (cs (cO 1 (oV a.at 2 (od 1 (oV b.at 2 (dT 1 (cc _ c (λe c=>?_) λe c=>?_)))))))
 ·exact cT 1 (crt (zd (sj c▸rT 4 ff ⟨o,rfl⟩)))
 exact ckt (cT 1 (crt (sj c▸rT 4 tt ⟨o,rfl⟩)))
def zsg{e:K}{p0:LP}{l m:OA}{c2 n:Nat}{p1:LP}(E:Sl tPlaced e l c2 p0)(f6:Sl tPlaced e m n p1){r:Bool}(a:zjE p0 p1=some r):
 fP 59 #[vl l p0 c2,vl m p1 n] e (λv f=>Step [] e f/\v=.bool r):=by
 refine fnc 27 [] func59 ntmps59 λc=>cT 1 (cs (cT 5 (cc _ a (λg a=>?_) λg a=>?_)))
 ·exact cT 1 (crt (zd (sj a▸rT 4 ff ⟨c,rfl⟩)))
 refine ckt (cs (cT 1 (cb 0 ?_)));refine zi 0 (λZ=>∀(h:Env)(i:K),Step [] e i->zjD=some r->Z (h) i) ?_ λG=>?_
 ·intro h i c a;exact zf (za (cT 1 (crt (sj a▸rT 4 tt ⟨c,rfl⟩))))
 refine lB (J:=λb H f=>(∃h,H=ups h [(0,vl l p0 c2),(1,vl m p1 n),(5,iv b)])/\Step [] e f/\I64 b) kr a ⟨⟨_,eY⟩,c,(iK 0)⟩ ?_;rintro b _ I ⟨⟨h,rfl⟩,c,M⟩ D a d;refine cs (cT 4 (cc _ a (λg a=>?_) λg a=>?_))
 ·refine ckt (cs (cb 1 (cs (cd 8 (dd 2 (bE a λN q a=>dI (E.X c) q λO P s t u j=>dL j.at 0 3 (dd 2 (bE a λQ w a=>dI (f6.X c) w λR S y z A k=>dL k.at 0 3 (de (bE a λT B a=>oC c (zs4 s t u y z A B) ?_))))))))));rintro L U c _ rfl;refine dT 1 (cc _ a (λg a=>?_) λg a=>?_)
  ·exact cT 1 (crt (zj (zd (zt (zj (zd (sj (d _ a)▸rT 4 ff ⟨c,rfl⟩)))))))
  exact ck (zc (za (cr (od 3 (oe (ze (sj a).symm ⟨⟨_,eY⟩,c,(zp _)⟩))))))
 exact cx 0 (zg (zh (zo rfl (G   _ _ c  (d _ a)))))
def zmO{c:K}{p0:LP}{e f:OA}{c2 g:Nat}{p1:LP}(k:Sl tPlaced c e c2 p0)(f6:Sl tPlaced c f g p1){r:Bool}(a:zij p0 p1=some r):
 fP 26 #[.agg #[vl e p0 c2],.agg #[vl f p1 g]] c (λv i=>Step [] c i/\v=.bool r):=by
 refine fnc 11 [] func26 ntmps26 λo=>csr (oB 48 26001 [vl e p0 c2] o λu p o w b=>oB 48 26002 [vl f p1 g] o λq l o j d=>?_);have b:=b.Y j;refine dT 1 (cs (cO 1 (oV b.at 0 (od 1 (oV d.at 0 (bE a λs h a=>oC o (zsg (k.X o) (f6.X o) h) ?_))))));rintro m t o _ rfl;refine dT 1 (cc _ a (λn a=>?_) λn a=>?_)
 ·exact cT 1 (crt (zd (sj a▸rT 4 ff ⟨o,rfl⟩)))
 exact ckt (cT 1 (crt (sj a▸rT 4 tt ⟨o,rfl⟩)))
def zuM{e:K}{p0:BS×Int}{p1:BS×Int}(h:p0.1.length<=9223372036854775807)(i:I64 p0.2)(j:p1.1.length<=9223372036854775807)(k:I64 p1.2){r:Bool}(a:zp3 p0 p1=some r):
 fP 125 #[.agg #[zr p0.1,iv p0.2],.agg #[zr p1.1,iv p1.2]] e (λv f=>Step [] e f/\v=.bool r):=by
 refine fnc 15 [] func125 ntmps125 λo=>csr (oB 182 125001 [zr p0.1,iv p0.2] o λn l o p b=>oB 182 125002 [zr p1.1,iv p1.2] o λq m o g c=>?_);have b:=b.Y g;refine dT 1 (cs (cO 1 (oV b.at 0 (od 1 (oV c.at 0 (oq 9 (.bool (!decide (p0.1=p1.1))) (λ_=>zsT kr) (ot (cc _ a (λd a=>?_) λd a=>?_))))))))
 ·exact cT 1 (crt (zd (sj a▸rT 4 ff ⟨o,rfl⟩)))
 refine ckt (cs (cO 1 (oV b.at 1 (od 1 (oV c.at 1 (dT 1 (cc _ a (λd a=>?_) λd a=>?_)))))))
 ·exact cT 1 (crt (zd (sj a▸rT 4 ff ⟨o,rfl⟩)))
 exact ckt (cT 1 (crt (sj a▸rT 4 tt ⟨o,rfl⟩)))
def ztS{e:K}{p0:LG}{l m:OA}{c2 n:Nat}{p1:LG}(C:Sl tGlue e l c2 p0)(f6:Sl tGlue e m n p1){r:Bool}(a:zlY p0 p1=some r):
 fP 94 #[vl l p0 c2,vl m p1 n] e (λv f=>Step [] e f/\v=.bool r):=by
 refine fnc 27 [] func94 ntmps94 λc=>cT 1 (cs (cT 5 (cc _ a (λg a=>?_) λg a=>?_)))
 ·exact cT 1 (crt (zd (sj a▸rT 4 ff ⟨c,rfl⟩)))
 refine ckt (cs (cT 1 (cb 0 ?_)));refine zi 0 (λZ=>∀(h:Env)(i:K),Step [] e i->zlo=some r->Z (h) i) ?_ λD=>?_
 ·intro h i c a;exact zf (za (cT 1 (crt (sj a▸rT 4 tt ⟨c,rfl⟩))))
 refine lB (J:=λb E f=>(∃h,E=ups h [(0,vl l p0 c2),(1,vl m p1 n),(5,iv b)])/\Step [] e f/\I64 b) kr a ⟨⟨_,eY⟩,c,(iK 0)⟩ ?_;rintro b _ G ⟨⟨h,rfl⟩,c,I⟩ B a d;refine cs (cT 4 (cc _ a (λg a=>?_) λg a=>?_))
 ·refine ckt (cs (cb 1 (cs (cd 8 (dd 2 (bE a λL q a=>dI (C.X c) q λM N s t j=>dL j.at 0 2 (dd 2 (bE a λO u a=>dI (f6.X c) u λP Q w y k=>dL k.at 0 2 (de (bE a λR z a=>oC c (zuM s t w y z) ?_))))))))));rintro H S c _ rfl;refine dT 1 (cc _ a (λg a=>?_) λg a=>?_)
  ·exact cT 1 (crt (zj (zd (zt (zj (zd (sj (d _ a)▸rT 4 ff ⟨c,rfl⟩)))))))
  exact ck (zc (za (cr (od 3 (oe (ze (sj a).symm ⟨⟨_,eY⟩,c,(zp _)⟩))))))
 exact cx 0 (zg (zh (zo rfl (D   _ _ c  (d _ a)))))
def zkq{b:K}{p0:LI}{k l:OA}{c2 m:Nat}{p1:LI}(s:Sl tI64 b k c2 p0)(f6:Sl tI64 b l m p1){r:Bool}(a:zf4 p0 p1=some r):
 fP 61 #[vl k p0 c2,vl l p1 m] b (λv c=>b=c/\v=.bool r):=by
 refine fnc 26 [] func61 ntmps61 λf=>cT 1 (cs (cT 5 (cc _ a (λd a=>?_) λd a=>?_)))
 ·exact cT 1 (crt (zd (sj a▸rT 4 ff ⟨rfl,rfl⟩)))
 refine ckt (cs (cT 1 (cb 0 ?_)));refine zi 0 (λZ=>∀(e:Env),zkr=some r->Z (e) b) ?_ λt=>?_
 ·intro e a;exact zf (za (cT 1 (crt (sj a▸rT 4 tt ⟨rfl,rfl⟩))))
 refine lB (J:=λg w c=>(∃e,w=ups e [(0,vl k p0 c2),(1,vl l p1 m),(5,iv g)])/\b=c/\I64 g) kr a ⟨⟨_,eY⟩,rfl,(iK 0)⟩ ?_;rintro g _ _ ⟨⟨e,rfl⟩,rfl,B⟩ y a h;refine cs (cT 4 (cc _ a (λd a=>?_) λd a=>?_))
 ·refine ckt (cs (cb 1 (cs (cd 8 (dd 2 (bE a λC n a=>dI s n λD E z i=>dV i.at 0 (dd 2 (bE a λG p a=>dI f6 p λH I A j=>dV j.at 0 (de (dT 1 (cc _ a (λd a=>?_) λd a=>?_)))))))))))
  ·exact cT 1 (crt (zj (zd (zt (zj (zd (sj (h _ a)▸rT 4 ff ⟨rfl,rfl⟩)))))))
  exact ck (zc (za (cr (od 3 (oe (ze (sj a).symm ⟨⟨_,eY⟩,rfl,(zp _)⟩))))))
 exact cx 0 (zg (zh (zo rfl (t   _  (h _ a)))))
def zuL{d:K}{p0:BS×LI}{a2 e:OA}{f g:Nat}{p1:BS×LI}(q:p0.1.length<=9223372036854775807)(l:Sl tI64 d a2 f p0.2)(s:p1.1.length<=9223372036854775807)(m:Sl tI64 d e g p1.2){r:Bool}(a:zp2 p0 p1=some r):
 fP 126 #[.agg #[zr p0.1,vl a2 p0.2 f],.agg #[zr p1.1,vl e p1.2 g]] d (λv j=>Step [] d j/\v=.bool r):=by
 refine fnc 16 [] func126 ntmps126 λo=>csr (oB 108 126001 [zr p0.1,vl a2 p0.2 f] o λx n o t b=>oB 108 126002 [zr p1.1,vl e p1.2 g] o λu p o k c=>?_);have b:=b.Y k;refine dT 1 (cs (cO 1 (oV b.at 0 (od 1 (oV c.at 0 (oq 9 (.bool (!decide (p0.1=p1.1))) (λ_=>zsT kr) (ot (cc _ a (λh a=>?_) λh a=>?_))))))))
 ·exact cT 1 (crt (zd (sj a▸rT 4 ff ⟨o,rfl⟩)))
 refine ckt (cs (cO 1 (oV b.at 1 (od 1 (oV c.at 1 (bE a λw i a=>ocl 14 (zkq (l.X o) (m.X o) i) ?_))))));rintro _ _ ⟨rfl,rfl⟩;refine dT 1 (cc _ a (λh a=>?_) λh a=>?_)
 ·exact cT 1 (crt (zd (sj a▸rT 4 ff ⟨o,rfl⟩)))
 exact ckt (cT 1 (crt (sj a▸rT 4 tt ⟨o,rfl⟩)))
def ztQ{e:K}{p0:LT}{l m:OA}{c2 n:Nat}{p1:LT}(C:Sl tTile e l c2 p0)(f6:Sl tTile e m n p1){r:Bool}(a:zlX p0 p1=some r):
 fP 95 #[vl l p0 c2,vl m p1 n] e (λv f=>Step [] e f/\v=.bool r):=by
 refine fnc 27 [] func95 ntmps95 λc=>cT 1 (cs (cT 5 (cc _ a (λg a=>?_) λg a=>?_)))
 ·exact cT 1 (crt (zd (sj a▸rT 4 ff ⟨c,rfl⟩)))
 refine ckt (cs (cT 1 (cb 0 ?_)));refine zi 0 (λZ=>∀(h:Env)(i:K),Step [] e i->zln=some r->Z (h) i) ?_ λD=>?_
 ·intro h i c a;exact zf (za (cT 1 (crt (sj a▸rT 4 tt ⟨c,rfl⟩))))
 refine lB (J:=λb E f=>(∃h,E=ups h [(0,vl l p0 c2),(1,vl m p1 n),(5,iv b)])/\Step [] e f/\I64 b) kr a ⟨⟨_,eY⟩,c,(iK 0)⟩ ?_;rintro b _ G ⟨⟨h,rfl⟩,c,I⟩ B a d;refine cs (cT 4 (cc _ a (λg a=>?_) λg a=>?_))
 ·refine ckt (cs (cb 1 (cs (cd 8 (dd 2 (bE a λL q a=>dI (C.X c) q λM N s O P z j=>dL j.at 0 2 (dd 2 (bE a λQ t a=>dI (f6.X c) t λR S u T U A k=>dL k.at 0 2 (de (bE a λV w a=>oC c (zuL s z u A w) ?_))))))))));rintro H X c _ rfl;refine dT 1 (cc _ a (λg a=>?_) λg a=>?_)
  ·exact cT 1 (crt (zj (zd (zt (zj (zd (sj (d _ a)▸rT 4 ff ⟨c,rfl⟩)))))))
  exact ck (zc (za (cr (od 3 (oe (ze (sj a).symm ⟨⟨_,eY⟩,c,(zp _)⟩))))))
 exact cx 0 (zg (zh (zo rfl (D   _ _ c  (d _ a)))))
def zsf{d:K}{p0:LG×LT}{g h i e:OA}{c2 j k f:Nat}{p1:LG×LT}(u:Sl tGlue d g c2 p0.1)(f6:Sl tTile d h j p0.2)(w:Sl tGlue d i k p1.1)(p:Sl tTile d e f p1.2){r:Bool}(b:zmN p0 p1=some r):
 fP 58 #[.agg #[vl g p0.1 c2,vl h p0.2 j],.agg #[vl i p1.1 k,vl e p1.2 f]] d (λv q=>Step [] d q/\v=.bool r):=by
 refine fnc 17 [] func58 ntmps58 λo=>csr (oB 45 58001 [vl g p0.1 c2,vl h p0.2 j] o λB x o C a=>oB 45 58002 [vl i p1.1 k,vl e p1.2 f] o λD y o s c=>?_);have a:=a.Y s;refine dT 1 (cs (cO 1 (oV a.at 0 (od 1 (oV c.at 0 (bE b λE l b=>oC o (ztS (u.X o) (w.X o) l) ?_))))));rintro z t o _ rfl;obtain⟨a,c⟩:=sQ2 t a c;refine dT 1 (cc _ b (λm b=>?_) λm b=>?_)
 ·exact cT 1 (crt (zd (sj b▸rT 4 ff ⟨o,rfl⟩)))
 refine ckt (cs (cO 1 (oV a.at 1 (od 1 (oV c.at 1 (bE b λF n b=>oC o (ztQ (f6.X o) (p.X o) n) ?_))))));rintro A G o _ rfl;refine dT 1 (cc _ b (λm b=>?_) λm b=>?_)
 ·exact cT 1 (crt (zd (sj b▸rT 4 ff ⟨o,rfl⟩)))
 exact ckt (cT 1 (crt (sj b▸rT 4 tt ⟨o,rfl⟩)))
def zs3{d:K}{p0:TS×(LP)×Int}{l m n e f g:OA}{c2 p q h i j:Nat}{p1:TS×(LP)×Int}(C:Sl tGlue d l c2 p0.1.1)(f6:Sl tTile d m p p0.1.2)(D:Sl tPlaced d n q p0.2.1)(E:I64 p0.2.2)(u:Sl tGlue d e h p1.1.1)(w:Sl tTile d f i p1.1.2)(x:Sl tPlaced d g j p1.2.1)(F:I64 p1.2.2){r:Bool}(c:znW p0 p1=some r):
 fP 25 #[.agg #[vl l p0.1.1 c2,vl m p0.1.2 p,vl n p0.2.1 q,iv p0.2.2],.agg #[vl e p1.1.1 h,vl f p1.1.2 i,vl g p1.2.1 j,iv p1.2.2]] d (λv y=>Step [] d y/\v=.bool r):=by
 refine fnc 22 [] func25 ntmps25 λo=>csr (oB 50 25001 [vl l p0.1.1 c2,vl m p0.1.2 p,vl n p0.2.1 q,iv p0.2.2] o λL G o M a=>oB 50 25002 [vl e p1.1.1 h,vl f p1.1.2 i,vl g p1.2.1 j,iv p1.2.2] o λN H o z b=>?_);have a:=a.Y z;refine dT 1 (cs (cO 1 (oL a.at 0 2 (od 1 (oL b.at 0 2 (bE c λO s c=>oC o (zsf (C.X o) (f6.X o) (u.X o) (w.X o) s) ?_))))));rintro I A o _ rfl;obtain⟨a,b⟩:=sQ2 A a b;refine dT 1 (cc _ c (λk c=>?_) λk c=>?_)
 ·exact cT 1 (crt (zd (sj c▸rT 4 ff ⟨o,rfl⟩)))
 refine ckt (cs (cO 1 (oL a.at 2 1 (od 1 (oL b.at 2 1 (bE c λP t c=>oC o (zmO (D.X o) (x.X o) t) ?_))))));rintro J B o _ rfl;obtain⟨a,b⟩:=sQ2 B a b;refine dT 1 (cc _ c (λk c=>?_) λk c=>?_)
 ·exact cT 1 (crt (zd (sj c▸rT 4 ff ⟨o,rfl⟩)))
 refine ckt (cs (cO 1 (oV a.at 3 (od 1 (oV b.at 3 (dT 1 (cc _ c (λk c=>?_) λk c=>?_)))))))
 ·exact cT 1 (crt (zd (sj c▸rT 4 ff ⟨o,rfl⟩)))
 exact ckt (cT 1 (crt (sj c▸rT 4 tt ⟨o,rfl⟩)))
def zs5{f:K}{p0:(Int×Int)×Int}{p1:(Int×Int)×Int}(g:I64 p0.1.1)(h:I64 p0.1.2)(q:I64 p0.2)(i:I64 p1.1.1)(j:I64 p1.1.2)(s:I64 p1.2){r:Bool}(c:znY p0 p1=some r):
 fP 97 #[.agg #[iv p0.1.1,iv p0.1.2,iv p0.2],.agg #[iv p1.1.1,iv p1.1.2,iv p1.2]] f (λv k=>Step [] f k/\v=.bool r):=by
 refine fnc 16 [] func97 ntmps97 λo=>csr (oB 141 97001 [iv p0.1.1,iv p0.1.2,iv p0.2] o λx t o y a=>oB 141 97002 [iv p1.1.1,iv p1.1.2,iv p1.2] o λu n o l b=>?_);have a:=a.Y l;refine dT 1 (cs (cO 1 (oL a.at 0 2 (od 1 (oL b.at 0 2 (bE c λw d c=>oC o (zpi g h i j d) ?_))))));rintro p m o _ rfl;obtain⟨a,b⟩:=sQ2 m a b;refine dT 1 (cc _ c (λe c=>?_) λe c=>?_)
 ·exact cT 1 (crt (zd (sj c▸rT 4 ff ⟨o,rfl⟩)))
 refine ckt (cs (cO 1 (oV a.at 2 (od 1 (oV b.at 2 (dT 1 (cc _ c (λe c=>?_) λe c=>?_)))))))
 ·exact cT 1 (crt (zd (sj c▸rT 4 ff ⟨o,rfl⟩)))
 exact ckt (cT 1 (crt (sj c▸rT 4 tt ⟨o,rfl⟩)))
def znw{e:K}{p0:LP}{l m:OA}{c2 n:Nat}{p1:LP}(E:Sl tPlaced e l c2 p0)(f6:Sl tPlaced e m n p1){r:Bool}(a:zgM p0 p1=some r):
 fP 60 #[vl l p0 c2,vl m p1 n] e (λv f=>Step [] e f/\v=.bool r):=by
 refine fnc 27 [] func60 ntmps60 λc=>cT 1 (cs (cT 5 (cc _ a (λg a=>?_) λg a=>?_)))
 ·exact cT 1 (crt (zd (sj a▸rT 4 ff ⟨c,rfl⟩)))
 refine ckt (cs (cT 1 (cb 0 ?_)));refine zi 0 (λZ=>∀(h:Env)(i:K),Step [] e i->zjF=some r->Z (h) i) ?_ λG=>?_
 ·intro h i c a;exact zf (za (cT 1 (crt (sj a▸rT 4 tt ⟨c,rfl⟩))))
 refine lB (J:=λb H f=>(∃h,H=ups h [(0,vl l p0 c2),(1,vl m p1 n),(5,iv b)])/\Step [] e f/\I64 b) kr a ⟨⟨_,eY⟩,c,(iK 0)⟩ ?_;rintro b _ I ⟨⟨h,rfl⟩,c,M⟩ D a d;refine cs (cT 4 (cc _ a (λg a=>?_) λg a=>?_))
 ·refine ckt (cs (cb 1 (cs (cd 8 (dd 2 (bE a λN q a=>dI (E.X c) q λO P s t u j=>dL j.at 0 3 (dd 2 (bE a λQ w a=>dI (f6.X c) w λR S y z A k=>dL k.at 0 3 (de (bE a λT B a=>oC c (zs5 s t u y z A B) ?_))))))))));rintro L U c _ rfl;refine dT 1 (cc _ a (λg a=>?_) λg a=>?_)
  ·exact cT 1 (crt (zj (zd (zt (zj (zd (sj (d _ a)▸rT 4 ff ⟨c,rfl⟩)))))))
  exact ck (zc (za (cr (od 3 (oe (ze (sj a).symm ⟨⟨_,eY⟩,c,(zp _)⟩))))))
 exact cx 0 (zg (zh (zo rfl (G   _ _ c  (d _ a)))))
def zsh{b:K}{p0:LM}{k l:OA}{c2 m:Nat}{p1:LM}(w:Sl (tSl tI64) b k c2 p0)(f6:Sl (tSl tI64) b l m p1){r:Bool}(a:zjH p0 p1=some r):
 fP 62 #[vl k p0 c2,vl l p1 m] b (λv c=>b=c/\v=.bool r):=by
 refine fnc 27 [] func62 ntmps62 λf=>cT 1 (cs (cT 5 (cc _ a (λd a=>?_) λd a=>?_)))
 ·exact cT 1 (crt (zd (sj a▸rT 4 ff ⟨rfl,rfl⟩)))
 refine ckt (cs (cT 1 (cb 0 ?_)));refine zi 0 (λZ=>∀(e:Env),zjG=some r->Z (e) b) ?_ λy=>?_
 ·intro e a;exact zf (za (cT 1 (crt (sj a▸rT 4 tt ⟨rfl,rfl⟩))))
 refine lB (J:=λg A c=>(∃e,A=ups e [(0,vl k p0 c2),(1,vl l p1 m),(5,iv g)])/\b=c/\I64 g) kr a ⟨⟨_,eY⟩,rfl,(iK 0)⟩ ?_;rintro g _ _ ⟨⟨e,rfl⟩,rfl,C⟩ B a h;refine cs (cT 4 (cc _ a (λd a=>?_) λd a=>?_))
 ·refine ckt (cs (cb 1 (cs (cd 8 (dd 2 (bE a λD n a=>dI w n λE G H I t i=>dV i.at 0 (dd 2 (bE a λL p a=>dI f6 p λM N O P u j=>dV j.at 0 (de (bE a λQ q a=>ocl 25 (zkq t u q) ?_))))))))));rintro _ _ ⟨rfl,rfl⟩;refine dT 1 (cc _ a (λd a=>?_) λd a=>?_)
  ·exact cT 1 (crt (zj (zd (zt (zj (zd (sj (h _ a)▸rT 4 ff ⟨rfl,rfl⟩)))))))
  exact ck (zc (za (cr (od 3 (oe (ze (sj a).symm ⟨⟨_,eY⟩,rfl,(zp _)⟩))))))
 exact cx 0 (zg (zh (zo rfl (y   _  (h _ a)))))
def ztR{d:K}{p0:Int×LP×LP×LI×LM}{a2 q s f g h i j:OA}{t u w k l m n p:Nat}{p1:Int×LP×LP×LI×LM}(T:I64 p0.1)(M:Sl tPlaced d a2 t p0.2.1)(N:Sl tPlaced d q u p0.2.2.1)(B:Sl tI64 d s w p0.2.2.2.1)(C:Sl (tSl tI64) d f k p0.2.2.2.2)(O:I64 p1.1)(D:Sl tPlaced d g l p1.2.1)(E:Sl tPlaced d h m p1.2.2.1)(F:Sl tI64 d i n p1.2.2.2.1)(G:Sl (tSl tI64) d j p p1.2.2.2.2){r:Bool}(a:zoS p0 p1=some r):
 fP 27 #[.agg #[iv p0.1,vl a2 p0.2.1 t,vl q p0.2.2.1 u,vl s p0.2.2.2.1 w,vl f p0.2.2.2.2 k],.agg #[iv p1.1,vl g p1.2.1 l,vl h p1.2.2.1 m,vl i p1.2.2.2.1 n,vl j p1.2.2.2.2 p]] d (λv H=>Step [] d H/\v=.bool r):=by
 refine fnc 34 [] func27 ntmps27 λo=>csr (oB 53 27001 [iv p0.1,vl a2 p0.2.1 t,vl q p0.2.2.1 u,vl s p0.2.2.2.1 w,vl f p0.2.2.2.2 k] o λU P o V b=>oB 53 27002 [iv p1.1,vl g p1.2.1 l,vl h p1.2.2.1 m,vl i p1.2.2.2.1 n,vl j p1.2.2.2.2 p] o λX Q o I c=>?_);have b:=b.Y I;refine dT 1 (cs (cO 1 (oV b.at 0 (od 1 (oV c.at 0 (dT 1 (cc _ a (λe a=>?_) λe a=>?_)))))))
 ·exact cT 1 (crt (zd (sj a▸rT 4 ff ⟨o,rfl⟩)))
 refine ckt (cs (cO 1 (oV b.at 1 (od 1 (oV c.at 1 (bE a λY x a=>oC o (znw (M.X o) (D.X o) x) ?_))))));rintro R J o _ rfl;obtain⟨b,c⟩:=sQ2 J b c;refine dT 1 (cc _ a (λe a=>?_) λe a=>?_)
 ·exact cT 1 (crt (zd (sj a▸rT 4 ff ⟨o,rfl⟩)))
 refine ckt (cs (cO 1 (oV b.at 2 (od 1 (oV c.at 2 (bE a λZ y a=>oC o (znw (N.X o) (E.X o) y) ?_))))));rintro S L o _ rfl;obtain⟨b,c⟩:=sQ2 L b c;refine dT 1 (cc _ a (λe a=>?_) λe a=>?_)
 ·exact cT 1 (crt (zd (sj a▸rT 4 ff ⟨o,rfl⟩)))
 refine ckt (cs (cO 1 (oV b.at 3 (od 1 (oV c.at 3 (bE a λa0 z a=>ocl 26 (zkq (B.X o) (F.X o) z) ?_))))));rintro _ _ ⟨rfl,rfl⟩;refine dT 1 (cc _ a (λe a=>?_) λe a=>?_)
 ·exact cT 1 (crt (zd (sj a▸rT 4 ff ⟨o,rfl⟩)))
 refine ckt (cs (cO 1 (oV b.at 4 (od 1 (oV c.at 4 (bE a λa1 A a=>ocl 32 (zsh (C.X o) (G.X o) A) ?_))))));rintro _ _ ⟨rfl,rfl⟩;refine dT 1 (cc _ a (λe a=>?_) λe a=>?_)
 ·exact cT 1 (crt (zd (sj a▸rT 4 ff ⟨o,rfl⟩)))
 exact ckt (cT 1 (crt (sj a▸rT 4 tt ⟨o,rfl⟩)))
def ztT{d:K}{p0:BS×(TS×(LP)×Int)×(LP)×(Int×LP×LP×LI×LM)}{a2 I J f g h i j k l m n p q s t:OA}{L M N u w x y z A B C D E F G H:Nat}{p1:BS×(TS×(LP)×Int)×(LP)×(Int×LP×LP×LI×LM)}(c7:p0.1.length<=9223372036854775807)(f4:Sl tGlue d a2 L p0.2.1.1.1)(f7:Sl tTile d I M p0.2.1.1.2)(V:Sl tPlaced d J N p0.2.1.2.1)(O:I64 p0.2.1.2.2)(X:Sl tPlaced d f u p0.2.2.1)(P:I64 p0.2.2.2.1)(Y:Sl tPlaced d g w p0.2.2.2.2.1)(Z:Sl tPlaced d h x p0.2.2.2.2.2.1)(a0:Sl tI64 d i y p0.2.2.2.2.2.2.1)(a1:Sl (tSl tI64) d j z p0.2.2.2.2.2.2.2)(b9:p1.1.length<=9223372036854775807)(a3:Sl tGlue d k A p1.2.1.1.1)(a4:Sl tTile d l B p1.2.1.1.2)(a6:Sl tPlaced d m C p1.2.1.2.1)(Q:I64 p1.2.1.2.2)(a7:Sl tPlaced d n D p1.2.2.1)(R:I64 p1.2.2.2.1)(a9:Sl tPlaced d p E p1.2.2.2.2.1)(b0:Sl tPlaced d q F p1.2.2.2.2.2.1)(b1:Sl tI64 d s G p1.2.2.2.2.2.2.1)(b2:Sl (tSl tI64) d t H p1.2.2.2.2.2.2.2){r:Bool}(b:zlZ p0 p1=some r):
 fP 9 #[.agg #[zr p0.1,vl a2 p0.2.1.1.1 L,vl I p0.2.1.1.2 M,vl J p0.2.1.2.1 N,iv p0.2.1.2.2,vl f p0.2.2.1 u,iv p0.2.2.2.1,vl g p0.2.2.2.2.1 w,vl h p0.2.2.2.2.2.1 x,vl i p0.2.2.2.2.2.2.1 y,vl j p0.2.2.2.2.2.2.2 z],.agg #[zr p1.1,vl k p1.2.1.1.1 A,vl l p1.2.1.1.2 B,vl m p1.2.1.2.1 C,iv p1.2.1.2.2,vl n p1.2.2.1 D,iv p1.2.2.2.1,vl p p1.2.2.2.2.1 E,vl q p1.2.2.2.2.2.1 F,vl s p1.2.2.2.2.2.2.1 G,vl t p1.2.2.2.2.2.2.2 H]] d (λv b3=>Step [] d b3/\v=.bool r):=by
 refine fnc 28 [] func9 ntmps9 λo=>csr (oB 55 9001 [zr p0.1,vl a2 p0.2.1.1.1 L,vl I p0.2.1.1.2 M,vl J p0.2.1.2.1 N,iv p0.2.1.2.2,vl f p0.2.2.1 u,iv p0.2.2.2.1,vl g p0.2.2.2.2.1 w,vl h p0.2.2.2.2.2.1 x,vl i p0.2.2.2.2.2.2.1 y,vl j p0.2.2.2.2.2.2.2 z] o λc8 c0 o d0 a=>oB 55 9002 [zr p1.1,vl k p1.2.1.1.1 A,vl l p1.2.1.1.2 B,vl m p1.2.1.2.1 C,iv p1.2.1.2.2,vl n p1.2.2.1 D,iv p1.2.2.2.1,vl p p1.2.2.2.2.1 E,vl q p1.2.2.2.2.2.1 F,vl s p1.2.2.2.2.2.2.1 G,vl t p1.2.2.2.2.2.2.2 H] o λd2 c1 o b4 c=>?_);have a:=a.Y b4;refine dT 1 (cs (cO 1 (oV a.at 0 (od 1 (oV c.at 0 (oq 9 (.bool (!decide (p0.1=p1.1))) (λ_=>zsT kr) (ot (cc _ b (λe b=>?_) λe b=>?_))))))))
 ·exact cT 1 (crt (zd (sj b▸rT 4 ff ⟨o,rfl⟩)))
 refine ckt (cs (cO 1 (oL a.at 1 4 (od 1 (oL c.at 1 4 (bE b λd3 S b=>oC o (zs3 (f4.X o) (f7.X o) (V.X o) O (a3.X o) (a4.X o) (a6.X o) Q S) ?_))))));rintro c2 b5 o _ rfl;obtain⟨a,c⟩:=sQ2 b5 a c;refine dT 1 (cc _ b (λe b=>?_) λe b=>?_)
 ·exact cT 1 (crt (zd (sj b▸rT 4 ff ⟨o,rfl⟩)))
 refine ckt (cs (cO 1 (oL a.at 5 1 (od 1 (oL c.at 5 1 (bE b λd4 T b=>oC o (zmO (X.X o) (a7.X o) T) ?_))))));rintro c4 b6 o _ rfl;obtain⟨a,c⟩:=sQ2 b6 a c;refine dT 1 (cc _ b (λe b=>?_) λe b=>?_)
 ·exact cT 1 (crt (zd (sj b▸rT 4 ff ⟨o,rfl⟩)))
 refine ckt (cs (cO 1 (oL a.at 6 5 (od 1 (oL c.at 6 5 (bE b λd5 U b=>oC o (ztR P (Y.X o) (Z.X o) (a0.X o) (a1.X o) R (a9.X o) (b0.X o) (b1.X o) (b2.X o) U) ?_))))));rintro c5 d6 o _ rfl;refine dT 1 (cc _ b (λe b=>?_) λe b=>?_)
 ·exact cT 1 (crt (zd (sj b▸rT 4 ff ⟨o,rfl⟩)))
 exact ckt (cT 1 (crt (sj b▸rT 4 tt ⟨o,rfl⟩)))
def zqK{j:K}{p0:LP}{d:OA}{c2:Nat}{i:Tag}{p1:Int}(f3:Gr tPlaced false i j 106 d c2 p0)(c8:i.1<j.H.size)(c9:I64 p1){r:Int×LP}(c:zhl p0 p1=some r):
 fP 64 #[vl d p0 c2,iv p1] j (λv m=>Step (blk d c2) j m/\v=iv r.1/\I64 r.1/\Gr tPlaced false i m 106 d c2 r.2):=by
 refine fnc 36 (blk d c2) func64 ntmps64 λo=>?_;have a7:∀g∈blk d c2,g∈(blk d c2)\/j.H.size<=g:=λg hg=>.inl (by simp[hg]);refine cT 1 (cs (cT 1 (cb 0 ?_)));refine zi 0 (λZ=>∀(w:LP)(n:Int)(R:Env)(k:K)(o:Step (blk d c2) j k)(b3:Gr tPlaced false i k 106 d c2 w)(S:(∀g∈blk d c2,g∈(blk d c2)\/j.H.size<=g))(U:I64 n),zhL w n=some r->Z (ups R [(0,vl d w c2),(1,iv n)]) k) ?_ λJ1=>?_
 ·intro w n R k o b3 S U c;exact zf (za (cT 2 (crt (sj c▸rT 4 (iv n) ⟨o,rfl,U,b3⟩))))
 refine lB (J:=λa E' m=>(∃R,E'=ups R [(0,vl d a.1 c2),(1,iv a.2.1),(5,iv a.2.2)])/\Step (blk d c2) j m/\Gr tPlaced false i m 106 d c2 a.1/\(∀g∈blk d c2,g∈(blk d c2)\/j.H.size<=g)/\I64 a.2.1/\I64 a.2.2) kr c ⟨⟨_,eY⟩,o,f3,a7,c9,(iK 0)⟩ ?_;rintro a _ b8 ⟨⟨R,rfl⟩,o,f,h,V,e4⟩ d6 c a9;refine cs (cT 4 (cc _ c (λhc c=>?_) λhc c=>?_))
 ·refine ckt (cs (cb 1 (cO 3 (bE c λp X c=>?_))));obtain⟨b4,y,z,A,d7,B,b0⟩:=f.idx X;obtain⟨_,_,rfl,⟨_,_,rfl,⟨rfl,e6⟩,⟨rfl,e7⟩⟩,⟨rfl,e8⟩⟩:=b0;have B:At b8 b4 (0+a.2.2.toNat*3) [iv p.1.1,iv p.1.2,iv p.2]:=B;refine oi 15 46 106 3 a.1.length c2 .i64 a.2.2 (off:=0) y z A (od 2 (bE c λY a0 c=>zhh (T:=2) (t:=tPlaced) (τ:=i) (e:=106) (ix:=a.2.2) (x':=((a.2.1,p.1.2),p.2)) (b:=b4) (δ:=0) (cp:=c2) (l:=a.1) (vs:=[iv a.2.1]) (iv a.2.1) kr kr y f z A kr kr kr kr (λcs hx=>by obtain⟨x,q,ho⟩:=hx;obtain rfl:=sj (q.symm.trans X);obtain⟨_,_,rfl,⟨_,_,rfl,⟨rfl,e9⟩,⟨rfl,b9⟩⟩,⟨rfl,c0⟩⟩:=ho;exact⟨_,_,rfl,⟨_,_,rfl,⟨rfl,V⟩,⟨rfl,b9⟩⟩,⟨rfl,c0⟩⟩) λc1 d2 s=>?_));have o:=o.trM h d2;have f:=s;have f:=zoJ a0 f;have O:=zaz a0;refine zT (eA 5 (v:=iv a.2.2) (eA 1 (v:=iv a.2.1) (zb (t:=0) (v:=vl d Y c2) rfl (by unfold vl;rw[O];kernel_rfl)))) (otx (od 3 (otx (od 3 (bE c λu a2 c=>?_)))));obtain⟨b5,C,D,E,d8,G,b1⟩:=f.idx a2;obtain⟨_,_,rfl,⟨_,_,rfl,⟨rfl,f0⟩,⟨rfl,f1⟩⟩,⟨rfl,f2⟩⟩:=b1;have G:At c1 b5 (0+a.2.2.toNat*3) [iv u.1.1,iv u.1.2,iv u.2]:=G;refine oi 23 46 106 3 Y.length c2 .i64 a.2.2 (off:=0) C D E (od 2 (bE c λa3 a4 c=>zhh (T:=2) (t:=tPlaced) (τ:=i) (e:=106) (ix:=a.2.2) (x':=((u.1.1,w64 (a.2.1+1)),u.2)) (b:=b5) (δ:=1) (cp:=c2) (l:=Y) (vs:=[iv (w64 (a.2.1+1))]) (iv (w64 (a.2.1+1))) kr kr C f D E kr kr kr kr (λcs hx=>by obtain⟨x,q,ho⟩:=hx;obtain rfl:=sj (q.symm.trans a2);obtain⟨_,_,rfl,⟨_,_,rfl,⟨rfl,c3⟩,⟨rfl,f4⟩⟩,⟨rfl,c4⟩⟩:=ho;exact⟨_,_,rfl,⟨_,_,rfl,⟨rfl,c3⟩,⟨rfl,(zp _)⟩⟩,⟨rfl,c4⟩⟩) λc5 d3 s=>?_));have o:=o.trM h d3;have f:=s;have f:=zoJ a4 f;have P:=zaz a4;refine zT (eA 5 (v:=iv a.2.2) (eA 1 (v:=iv (w64 (a.2.1+1))) (zb (t:=0) (v:=vl d a3 c2) rfl (by unfold vl;rw[P];kernel_rfl)))) (otx (od 3 (otx (od 3 (bE c λH a5 c=>?_)))));obtain⟨b6,I,L,M,d9,N,b2⟩:=f.idx a5;obtain⟨_,_,rfl,⟨_,_,rfl,⟨rfl,f5⟩,⟨rfl,f6⟩⟩,⟨rfl,f7⟩⟩:=b2;have N:At c5 b6 (0+a.2.2.toNat*3) [iv H.1.1,iv H.1.2,iv H.2]:=N;refine oi 31 46 106 3 a3.length c2 .i64 a.2.2 (off:=0) I L M (od 1 (bE c λd4 a6 c=>zhh (T:=2) (t:=tPlaced) (τ:=i) (e:=106) (ix:=a.2.2) (x':=(H.1,w64 ((w64 (a.2.1+1))+1))) (b:=b6) (δ:=2) (cp:=c2) (l:=a3) (vs:=[iv (w64 ((w64 (a.2.1+1))+1))]) (iv (w64 ((w64 (a.2.1+1))+1))) kr kr I f L M kr kr kr kr (λcs hx=>by obtain⟨x,q,ho⟩:=hx;obtain rfl:=sj (q.symm.trans a5);obtain⟨_,_,rfl,⟨_,_,rfl,⟨rfl,c6⟩,⟨rfl,c7⟩⟩,⟨rfl,f9⟩⟩:=ho;exact⟨_,_,rfl,⟨_,_,rfl,⟨rfl,c6⟩,⟨rfl,c7⟩⟩,⟨rfl,(zp _)⟩⟩) λg0 d5 s=>?_));have o:=o.trM h d5;have f:=s;have f:=zoJ a6 f;have Q:=zaz a6;exact zT (eA 5 (v:=iv a.2.2) (eA 1 (v:=iv (w64 ((w64 (a.2.1+1))+1))) (zb (t:=0) (v:=vl d d4 c2) rfl (by unfold vl;rw[Q];kernel_rfl)))) (otr (od 3 (oe (zc (za (cr (od 3 (oe (ze (sj c).symm ⟨⟨_,eY⟩,o,f,h,(zp _),(zp _)⟩)))))))))
 exact cx 0 (zg (zh (zo eY (J1 a.1 a.2.1  _ _ o f h V (a9 _ c)))))
def zoq{h:K}{p0:Int}(p:I64 p0){r:BS}(a:zkN p0=some r):
 fP 128 #[iv p0] h (λv c=>Step [] h c/\v=zr r/\r.length<=9223372036854775807):=by
 refine fnc 20 [] func128 ntmps128 λj=>cT 1 (cs (cT 2 (cc _ a (λm a=>?_) λm a=>?_)))
 ·exact cT 1 (crt (zd (sj a▸rT 2 (zr ([109,48]:BS)) ⟨j,rfl,si⟩)))
 refine ckt (cT 1 (cs (cb 0 ?_)));refine zi 0 (λZ=>∀(i:BS)(d:Env)(e:K)(j:Step [] h e)(q:i.length<=9223372036854775807),zkp i=some r->Z (ups d [(3,zr i)]) e) ?_ λA=>?_
 ·intro i d e j q a;exact zf (za (cO 1 (bE a λl f a=>oq 19 (zr l) (λ_=>zw kr f) (dT 1 (crt (sj a▸rT 2 (zr l) ⟨j,rfl,(zbr f)⟩))))))
 refine lB (J:=λb B c=>(∃d,B=ups d [(0,iv b.1),(3,zr b.2)])/\Step [] h c/\I64 b.1/\b.2.length<=9223372036854775807) kr a ⟨⟨_,eY⟩,j,p,si⟩ ?_;rintro b _ C ⟨⟨d,rfl⟩,j,E,u⟩ z a k;refine cs (cT 2 (cc _ a (λm a=>?_) λm a=>?_))
 ·exact ckt (cb 1 (cO 4 (oT (t:=tU8) 5 128001 true [IntKind.wrap .u8 (w64 (48+(Int.tmod b.1 10)))] j ⟨_,_,rfl,⟨rfl,(zmg _)⟩,rfl⟩ λG D j H w=>obs 13 39 9 5 w.sl (od 1 (bE a λy g a=>oq 15 (zr y) (λ_=>zw kr g) (od 1 (otr (od 3 (oe (zc (ze (sj a).symm ⟨⟨_,eY⟩,j,(zp _),(zbr g)⟩)))))))))))
 exact cx 0 (zg (zh (zo eY (A b.2  _ _ j u (k _ a)))))
def zsd{j:K}{p0:LG}{d:OA}{c2:Nat}{i:Tag}{p1:Int}(f3:Gr tGlue false i j 182 d c2 p0)(b4:i.1<j.H.size)(b5:I64 p1){r:Int×LG}(c:zjz p0 p1=some r):
 fP 98 #[vl d p0 c2,iv p1] j (λv m=>Step (blk d c2) j m/\v=iv r.1/\I64 r.1/\Gr tGlue false i m 182 d c2 r.2):=by
 refine fnc 28 (blk d c2) func98 ntmps98 λo=>?_;have X:∀g∈blk d c2,g∈(blk d c2)\/j.H.size<=g:=λg hg=>.inl (by simp[hg]);refine cT 1 (cs (cT 1 (cb 0 ?_)));refine zi 0 (λZ=>∀(p:LG)(n:Int)(E:Env)(k:K)(o:Step (blk d c2) j k)(a4:Gr tGlue false i k 182 d c2 p)(G:(∀g∈blk d c2,g∈(blk d c2)\/j.H.size<=g))(H:I64 n),zjy p n=some r->Z (ups E [(0,vl d p c2),(1,iv n)]) k) ?_ λJ1=>?_
 ·intro p n E k o a4 G H c;exact zf (za (cT 2 (crt (sj c▸rT 4 (iv n) ⟨o,rfl,H,a4⟩))))
 refine lB (J:=λa E' m=>(∃E,E'=ups E [(0,vl d a.1 c2),(1,iv a.2.1),(5,iv a.2.2)])/\Step (blk d c2) j m/\Gr tGlue false i m 182 d c2 a.1/\(∀g∈blk d c2,g∈(blk d c2)\/j.H.size<=g)/\I64 a.2.1/\I64 a.2.2) kr c ⟨⟨_,eY⟩,o,f3,X,b5,(iK 0)⟩ ?_;rintro a _ c9 ⟨⟨E,rfl⟩,o,f,h,I,d0⟩ c1 c a0;refine cs (cT 4 (cc _ c (λhc c=>?_) λhc c=>?_))
 ·refine ckt (cs (cb 1 (cO 3 (bE c λL a8 c=>oC o (zoq I a8) ?_))));rintro a9 b7 o _ ⟨rfl,b0⟩;have f:=f.Y b7;refine bE c λM N c=>?_;obtain⟨a5,q,s,u,c3,w,a2⟩:=f.idx N;obtain⟨_,_,rfl,⟨rfl,d3⟩,⟨rfl,d4⟩⟩:=a2;have w:At a9 a5 (0+a.2.2.toNat*2) [zr M.1,iv M.2]:=w;refine oi 16 42 182 2 a.1.length c2 .i64 a.2.2 (off:=0) q s u (od 1 (bE c λO P c=>zhh (T:=9) (t:=tGlue) (τ:=i) (e:=182) (ix:=a.2.2) (x':=(L,M.2)) (b:=a5) (δ:=0) (cp:=c2) (l:=a.1) (vs:=[zr L]) (zr L) kr kr q f s u kr kr kr kr (λcs hx=>by obtain⟨x,Q,ho⟩:=hx;obtain rfl:=sj (Q.symm.trans N);obtain⟨_,_,rfl,⟨rfl,d5⟩,⟨rfl,b1⟩⟩:=ho;exact⟨_,_,rfl,⟨rfl,b0⟩,⟨rfl,b1⟩⟩) λb2 b8 R=>?_));have o:=o.trM h b8;have f:=R;have f:=zoJ P f;have C:=zaz P;refine zT (eA 5 (v:=iv a.2.2) (eA 1 (v:=iv a.2.1) (zb (t:=0) (v:=vl d O c2) rfl (by unfold vl;rw[C];kernel_rfl)))) (otx (od 3 (otx (od 3 (bE c λS U c=>?_)))));obtain⟨a6,y,z,A,c4,B,a3⟩:=f.idx U;obtain⟨_,_,rfl,⟨rfl,d6⟩,⟨rfl,d7⟩⟩:=a3;have B:At b2 a6 (0+a.2.2.toNat*2) [zr S.1,iv S.2]:=B;refine oi 23 42 182 2 O.length c2 .i64 a.2.2 (off:=0) y z A (od 1 (bE c λb9 V c=>zhh (T:=2) (t:=tGlue) (τ:=i) (e:=182) (ix:=a.2.2) (x':=(S.1,w64 (a.2.1+1))) (b:=a6) (δ:=1) (cp:=c2) (l:=O) (vs:=[iv (w64 (a.2.1+1))]) (iv (w64 (a.2.1+1))) kr kr y f z A kr kr kr kr (λcs hx=>by obtain⟨x,Q,ho⟩:=hx;obtain rfl:=sj (Q.symm.trans U);obtain⟨_,_,rfl,⟨rfl,b3⟩,⟨rfl,d8⟩⟩:=ho;exact⟨_,_,rfl,⟨rfl,b3⟩,⟨rfl,(zp _)⟩⟩) λd9 c0 R=>?_));have o:=o.trM h c0;have f:=R;have f:=zoJ V f;have D:=zaz V;exact zT (eA 5 (v:=iv a.2.2) (eA 1 (v:=iv (w64 (a.2.1+1))) (zb (t:=0) (v:=vl d b9 c2) rfl (by unfold vl;rw[D];kernel_rfl)))) (otr (od 3 (oe (zc (za (cr (od 3 (oe (ze (sj c).symm ⟨⟨_,eY⟩,o,f,h,(zp _),(zp _)⟩)))))))))
 exact cx 0 (zg (zh (zo eY (J1 a.1 a.2.1  _ _ o f h I (a0 _ c)))))
def zq9{d:K}{p0:LI}{b:OA}{c2:Nat}{h:Tag}{p1:Int}(M:Gr tI64 false h d 2 b c2 p0)(D:h.1<d.H.size)(E:I64 p1){r:Int×LI}(c:zii p0 p1=some r):
 fP 66 #[vl b p0 c2,iv p1] d (λv i=>Step (blk b c2) d i/\v=iv r.1/\I64 r.1/\Gr tI64 false h i 2 b c2 r.2):=by
 refine fnc 19 (blk b c2) func66 ntmps66 λo=>?_;have s:∀g∈blk b c2,g∈(blk b c2)\/d.H.size<=g:=λg N=>.inl (by simp[N]);refine cT 1 (cs (cT 1 (cb 0 ?_)));refine zi 0 (λZ=>∀(k:LI)(j:Int)(m:Env)(e:K)(o:Step (blk b c2) d e)(z:Gr tI64 false h e 2 b c2 k)(n:(∀g∈blk b c2,g∈(blk b c2)\/d.H.size<=g))(p:I64 j),ziB k j=some r->Z (ups m [(0,vl b k c2),(1,iv j)]) e) ?_ λO=>?_
 ·intro k j m e o z n p c;exact zf (za (cT 2 (crt (sj c▸rT 4 (iv j) ⟨o,rfl,p,z⟩))))
 refine lB (J:=λa P i=>(∃m,P=ups m [(0,vl b a.1 c2),(1,iv a.2.1),(5,iv a.2.2)])/\Step (blk b c2) d i/\Gr tI64 false h i 2 b c2 a.1/\(∀g∈blk b c2,g∈(blk b c2)\/d.H.size<=g)/\I64 a.2.1/\I64 a.2.2) kr c ⟨⟨_,eY⟩,o,M,s,E,(iK 0)⟩ ?_;rintro a _ Q ⟨⟨m,rfl⟩,o,w,f,q,R⟩ L c y;refine cs (cT 4 (cc _ c (λS c=>?_) λS c=>?_))
 ·refine ckt (cs (cb 1 (cO 3 (bE c λU B c=>bE c λx23 C c=>oW w B C ⟨rfl,q⟩ λ_ T H I l=>?_))));have o:=o.trM f H;have w:=I;exact zT (eA 5 (v:=iv a.2.2) (eA 1 (v:=iv a.2.1) (zb (t:=0) (v:=vl b x23 c2) rfl (by unfold vl;rw[l];kernel_rfl)))) (otr (od 3 (oe (zc (za (cr (od 3 (oe (ze (sj c).symm ⟨⟨_,eY⟩,o,w,f,(zp _),(zp _)⟩)))))))))
 exact cx 0 (zg (zh (zo eY (O a.1 a.2.1  _ _ o w f q (y _ c)))))
def zqL{j:K}{p0:LP}{d:OA}{c2:Nat}{i:Tag}{p1:Int}(f3:Gr tPlaced false i j 141 d c2 p0)(c8:i.1<j.H.size)(c9:I64 p1){r:Int×LP}(c:zhm p0 p1=some r):
 fP 65 #[vl d p0 c2,iv p1] j (λv m=>Step (blk d c2) j m/\v=iv r.1/\I64 r.1/\Gr tPlaced false i m 141 d c2 r.2):=by
 refine fnc 36 (blk d c2) func65 ntmps65 λo=>?_;have a7:∀g∈blk d c2,g∈(blk d c2)\/j.H.size<=g:=λg hg=>.inl (by simp[hg]);refine cT 1 (cs (cT 1 (cb 0 ?_)));refine zi 0 (λZ=>∀(w:LP)(n:Int)(R:Env)(k:K)(o:Step (blk d c2) j k)(b3:Gr tPlaced false i k 141 d c2 w)(S:(∀g∈blk d c2,g∈(blk d c2)\/j.H.size<=g))(U:I64 n),zhM w n=some r->Z (ups R [(0,vl d w c2),(1,iv n)]) k) ?_ λJ1=>?_
 ·intro w n R k o b3 S U c;exact zf (za (cT 2 (crt (sj c▸rT 4 (iv n) ⟨o,rfl,U,b3⟩))))
 refine lB (J:=λa E' m=>(∃R,E'=ups R [(0,vl d a.1 c2),(1,iv a.2.1),(5,iv a.2.2)])/\Step (blk d c2) j m/\Gr tPlaced false i m 141 d c2 a.1/\(∀g∈blk d c2,g∈(blk d c2)\/j.H.size<=g)/\I64 a.2.1/\I64 a.2.2) kr c ⟨⟨_,eY⟩,o,f3,a7,c9,(iK 0)⟩ ?_;rintro a _ b8 ⟨⟨R,rfl⟩,o,f,h,V,e4⟩ d6 c a9;refine cs (cT 4 (cc _ c (λhc c=>?_) λhc c=>?_))
 ·refine ckt (cs (cb 1 (cO 3 (bE c λp X c=>?_))));obtain⟨b4,y,z,A,d7,B,b0⟩:=f.idx X;obtain⟨_,_,rfl,⟨_,_,rfl,⟨rfl,e6⟩,⟨rfl,e7⟩⟩,⟨rfl,e8⟩⟩:=b0;have B:At b8 b4 (0+a.2.2.toNat*3) [iv p.1.1,iv p.1.2,iv p.2]:=B;refine oi 15 51 141 3 a.1.length c2 .i64 a.2.2 (off:=0) y z A (od 2 (bE c λY a0 c=>zhh (T:=2) (t:=tPlaced) (τ:=i) (e:=141) (ix:=a.2.2) (x':=((a.2.1,p.1.2),p.2)) (b:=b4) (δ:=0) (cp:=c2) (l:=a.1) (vs:=[iv a.2.1]) (iv a.2.1) kr kr y f z A kr kr kr kr (λcs hx=>by obtain⟨x,q,ho⟩:=hx;obtain rfl:=sj (q.symm.trans X);obtain⟨_,_,rfl,⟨_,_,rfl,⟨rfl,e9⟩,⟨rfl,b9⟩⟩,⟨rfl,c0⟩⟩:=ho;exact⟨_,_,rfl,⟨_,_,rfl,⟨rfl,V⟩,⟨rfl,b9⟩⟩,⟨rfl,c0⟩⟩) λc1 d2 s=>?_));have o:=o.trM h d2;have f:=s;have f:=zoJ a0 f;have O:=zaz a0;refine zT (eA 5 (v:=iv a.2.2) (eA 1 (v:=iv a.2.1) (zb (t:=0) (v:=vl d Y c2) rfl (by unfold vl;rw[O];kernel_rfl)))) (otx (od 3 (otx (od 3 (bE c λu a2 c=>?_)))));obtain⟨b5,C,D,E,d8,G,b1⟩:=f.idx a2;obtain⟨_,_,rfl,⟨_,_,rfl,⟨rfl,f0⟩,⟨rfl,f1⟩⟩,⟨rfl,f2⟩⟩:=b1;have G:At c1 b5 (0+a.2.2.toNat*3) [iv u.1.1,iv u.1.2,iv u.2]:=G;refine oi 23 51 141 3 Y.length c2 .i64 a.2.2 (off:=0) C D E (od 2 (bE c λa3 a4 c=>zhh (T:=2) (t:=tPlaced) (τ:=i) (e:=141) (ix:=a.2.2) (x':=((u.1.1,w64 (a.2.1+1)),u.2)) (b:=b5) (δ:=1) (cp:=c2) (l:=Y) (vs:=[iv (w64 (a.2.1+1))]) (iv (w64 (a.2.1+1))) kr kr C f D E kr kr kr kr (λcs hx=>by obtain⟨x,q,ho⟩:=hx;obtain rfl:=sj (q.symm.trans a2);obtain⟨_,_,rfl,⟨_,_,rfl,⟨rfl,c3⟩,⟨rfl,f4⟩⟩,⟨rfl,c4⟩⟩:=ho;exact⟨_,_,rfl,⟨_,_,rfl,⟨rfl,c3⟩,⟨rfl,(zp _)⟩⟩,⟨rfl,c4⟩⟩) λc5 d3 s=>?_));have o:=o.trM h d3;have f:=s;have f:=zoJ a4 f;have P:=zaz a4;refine zT (eA 5 (v:=iv a.2.2) (eA 1 (v:=iv (w64 (a.2.1+1))) (zb (t:=0) (v:=vl d a3 c2) rfl (by unfold vl;rw[P];kernel_rfl)))) (otx (od 3 (otx (od 3 (bE c λH a5 c=>?_)))));obtain⟨b6,I,L,M,d9,N,b2⟩:=f.idx a5;obtain⟨_,_,rfl,⟨_,_,rfl,⟨rfl,f5⟩,⟨rfl,f6⟩⟩,⟨rfl,f7⟩⟩:=b2;have N:At c5 b6 (0+a.2.2.toNat*3) [iv H.1.1,iv H.1.2,iv H.2]:=N;refine oi 31 51 141 3 a3.length c2 .i64 a.2.2 (off:=0) I L M (od 1 (bE c λd4 a6 c=>zhh (T:=2) (t:=tPlaced) (τ:=i) (e:=141) (ix:=a.2.2) (x':=(H.1,w64 ((w64 (a.2.1+1))+1))) (b:=b6) (δ:=2) (cp:=c2) (l:=a3) (vs:=[iv (w64 ((w64 (a.2.1+1))+1))]) (iv (w64 ((w64 (a.2.1+1))+1))) kr kr I f L M kr kr kr kr (λcs hx=>by obtain⟨x,q,ho⟩:=hx;obtain rfl:=sj (q.symm.trans a5);obtain⟨_,_,rfl,⟨_,_,rfl,⟨rfl,c6⟩,⟨rfl,c7⟩⟩,⟨rfl,f9⟩⟩:=ho;exact⟨_,_,rfl,⟨_,_,rfl,⟨rfl,c6⟩,⟨rfl,c7⟩⟩,⟨rfl,(zp _)⟩⟩) λg0 d5 s=>?_));have o:=o.trM h d5;have f:=s;have f:=zoJ a6 f;have Q:=zaz a6;exact zT (eA 5 (v:=iv a.2.2) (eA 1 (v:=iv (w64 ((w64 (a.2.1+1))+1))) (zb (t:=0) (v:=vl d d4 c2) rfl (by unfold vl;rw[Q];kernel_rfl)))) (otr (od 3 (oe (zc (za (cr (od 3 (oe (ze (sj c).symm ⟨⟨_,eY⟩,o,f,h,(zp _),(zp _)⟩)))))))))
 exact cx 0 (zg (zh (zo eY (J1 a.1 a.2.1  _ _ o f h V (a9 _ c)))))
def zse{d:K}{p0:LI}{b:OA}{c2:Nat}{h:Tag}{p1:Int}(M:Gr tU8 false h d 5 b c2 p0)(D:h.1<d.H.size)(E:I64 p1){r:Int×LI}(c:zgK p0 p1=some r):
 fP 11 #[vl b p0 c2,iv p1] d (λv i=>Step (blk b c2) d i/\v=iv r.1/\I64 r.1/\Gr tU8 false h i 5 b c2 r.2):=by
 refine fnc 20 (blk b c2) func11 ntmps11 λo=>?_;have q:∀g∈blk b c2,g∈(blk b c2)\/d.H.size<=g:=λg N=>.inl (by simp[N]);refine cT 1 (cs (cT 1 (cb 0 ?_)));refine zi 0 (λZ=>∀(k:LI)(j:Int)(m:Env)(e:K)(o:Step (blk b c2) d e)(y:Gr tU8 false h e 5 b c2 k)(n:(∀g∈blk b c2,g∈(blk b c2)\/d.H.size<=g))(p:I64 j),zjA k j=some r->Z (ups m [(0,vl b k c2),(1,iv j)]) e) ?_ λO=>?_
 ·intro k j m e o y n p c;exact zf (za (cT 2 (crt (sj c▸rT 4 (iv j) ⟨o,rfl,p,y⟩))))
 refine lB (J:=λa P i=>(∃m,P=ups m [(0,vl b a.1 c2),(1,iv a.2.1),(5,iv a.2.2)])/\Step (blk b c2) d i/\Gr tU8 false h i 5 b c2 a.1/\(∀g∈blk b c2,g∈(blk b c2)\/d.H.size<=g)/\I64 a.2.1/\I64 a.2.2) kr c ⟨⟨_,eY⟩,o,M,q,E,(iK 0)⟩ ?_;rintro a _ Q ⟨⟨m,rfl⟩,o,u,f,A,R⟩ L c w;refine cs (cT 4 (cc _ c (λS c=>?_) λS c=>?_))
 ·refine ckt (cs (cb 1 (cO 4 (bE c λU B c=>bE c λx23 C c=>oW u B C ⟨rfl,(zmg _)⟩ λ_ T H I l=>?_))));have o:=o.trM f H;have u:=I;exact zT (eA 5 (v:=iv a.2.2) (eA 1 (v:=iv a.2.1) (zb (t:=0) (v:=vl b x23 c2) rfl (by unfold vl;rw[l];kernel_rfl)))) (otr (od 3 (oe (zc (za (cr (od 3 (oe (ze (sj c).symm ⟨⟨_,eY⟩,o,u,f,(zp _),(zp _)⟩)))))))))
 exact cx 0 (zg (zh (zo eY (O a.1 a.2.1  _ _ o u f A (w _ c)))))
def znv{f:K}{p0:LI}{j:OA}{c2:Nat}{p1:Int}(u:Sl tU8 f j c2 p0)(p:I64 p1){r:Int}(a:zgL p0 p1=some r):
 fP 12 #[vl j p0 c2,iv p1] f (λv g=>f=g/\v=iv r/\I64 r):=by
 refine fnc 22 [] func12 ntmps12 λd=>cT 1 (cs (cT 1 (cb 0 ?_)));refine zi 0 (λZ=>∀(c:Int)(h:Env),I64 c->zjB c=some r->Z (ups h [(1,iv c)]) f) ?_ λw=>?_
 ·intro c h k a;exact zf (za (cT 2 (crt (sj a▸rT 4 (iv c) ⟨rfl,rfl,k⟩))))
 refine lB (J:=λb y g=>(∃h,y=ups h [(0,vl j p0 c2),(1,iv b.1),(5,iv b.2)])/\f=g/\I64 b.1/\I64 b.2) kr a ⟨⟨_,eY⟩,rfl,p,(iK 0)⟩ ?_;rintro b _ _ ⟨⟨h,rfl⟩,rfl,s,A⟩ t a e;refine cs (cT 4 (cc _ a (λm a=>?_) λm a=>?_))
 ·refine ckt (cs (cb 1 (cs (cO 2 (bE a λB n a=>oJ u n λC D z i=>oV i.at 0 (dT 3 (cc _ a (λm a=>?_) λm a=>?_)))))))
  ·exact cT 1 (crt (zd (zj (zd (zt (zj (zd (sj (e _ a)▸rT 4 (iv (-1)) ⟨rfl,rfl,(iK (-1))⟩))))))))
  exact ckt (cr (od 3 (oe (zc (za (cr (od 3 (oe (ze (sj a).symm ⟨⟨_,eY⟩,rfl,(zp _),(zp _)⟩)))))))))
 exact cx 0 (zg (zh (zo eY (w b.1  _ s (e _ a)))))
end Go.Lf
