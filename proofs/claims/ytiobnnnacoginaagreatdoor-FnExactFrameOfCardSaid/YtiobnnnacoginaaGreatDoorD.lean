import Derived.Test.YtiobnnnacoginaaGreatDoorC
set_option linter.all false
set_option maxRecDepth 100000
set_option maxHeartbeats 4000000
namespace Go.Lf
open Go Go.Proofs Tryz
def zhT{b:K}{τ:Tag}{eP eG:TypeId}{a:OA}{n:Nat}{bs:List Nat}{L:LI}{ix r:Int}(F:Fst τ b eP eG a n bs L)(hn:0<=ix/\ix.toNat<bs.length)(e:iter (gstep L) ix=some r):
 fP 225 #[pt (nb bs ix) 0] b (λv c=>b=c/\v=pt (nb bs r) 0):=by
 refine fnc 13 [] func225 ntmps225 λh=>cT 1 (cs (cb 0 ?_));refine zi 0 (λZ=>∀(d:Env),Z (ups d [(0,pt (nb bs r) 0)]) b) ?_ λf=>?_
 ·intro d;exact zf (za (cT 2 (crt (rT 2 (pt (nb bs r) 0) ⟨rfl,rfl⟩))))
 refine zn (F:=gstep L) (J:=λs g c=>(∃d,g=ups d [(0,pt (nb bs s) 0)])/\b=c/\(0<=s/\s.toNat<bs.length)) (s0:=ix) (x:=r) kr e ⟨⟨_,eY⟩,rfl,hn⟩ ?_;rintro s _ _ ⟨⟨d,rfl⟩,rfl,hb⟩ yy hy hd;unfold gstep at hy;refine bE hy λp hp hy=>?_;have hl:=F.lead hp;refine cs (cO 3 ?_);by_cases hz:p<0
 ·rw[if_pos hz]at hy;have hl':b.cell (nb bs s) 0=some (.pointer none):=by rw[hl];unfold ldr;rw[if_pos hz]
  refine o1 6 316 (.pointer none) hl' (dT 1 (cf (cx 0 (zg ?_))));obtain rfl:=hd _ (sj hy).symm;exact zh (zo eY (f _))
 rw[if_neg hz]at hy;have hl':b.cell (nb bs s) 0=some (pt (nb bs p) 0):=by rw[hl];unfold ldr;rw[if_neg hz]
 exact o1 6 316 (pt (nb bs p) 0) hl' (dT 1 (ct (ckt (cb 1 (cr (od 3 (o1 11 316 (pt (nb bs p) 0) hl' (od 1 (oe (zc (ze (sj hy).symm ⟨⟨_,eY⟩,rfl,Int.not_lt.1 hz,F.rng s.toNat p (zh6 hp).2.2⟩)))))))))))
def zsb{b:K}{p0:LP}{c:OA}{c2:Nat}{p1:Int}(g:Sl tPlaced b c c2 p0)(f:I64 p1){r:Int}(a:zmK p0 p1=some r):
 fP 32 #[vl c p0 c2,iv p1] b (λv d=>b=d/\v=iv r/\I64 r):=by
 refine fnc 12 [] func32 ntmps32 λh=>cO 1 (otx (dT 5 (cs (cT 2 (cc _ a (λe a=>?_) λe a=>?_)))))
 ·exact cT 1 (crt (zd (sj a▸rT 4 (iv (-1)) ⟨rfl,rfl,(iK (-1))⟩)))
 exact ckt (cT 2 (crt (sj a▸rT 4 (iv (w64 (p1 - (p0.length:Int)))) ⟨rfl,rfl,(zp _)⟩)))
def zmM{b:K}{p0:LP}{c:OA}{c2:Nat}{p1:Int}(i:Sl tPlaced b c c2 p0)(f:I64 p1){r:Int}(a:zfH p0 p1=some r):
 fP 14 #[.agg #[vl c p0 c2],iv p1] b (λv g=>Step [] b g/\v=iv r/\I64 r):=by
 refine fnc 12 [] func14 ntmps14 λo=>csr (oB 28 14001 [vl c p0 c2] o λm l o n d=>od 1 (otx (od 1 (oV d.at 0 (od 1 (bE a λj h a=>ocl 8 (zsb (i.X o) f h) ?_))))));rintro _ _ ⟨rfl,rfl,e⟩;refine dT 1 (cs (cT 2 (cc _ a (λk a=>?_) λk a=>?_)))
 ·exact cT 1 (crt (zd (sj a▸rT 4 (iv (-1)) ⟨o,rfl,(iK (-1))⟩)))
 exact ckt (cT 2 (crt (sj a▸rT 4 (iv j) ⟨o,rfl,e⟩)))
def zuK{c:K}{p0:BS×Int}{p1:Int}(f:p0.1.length<=9223372036854775807)(g:I64 p0.2)(h:I64 p1){r:Int}(a:znu p0 p1=some r):
 fP 100 #[.agg #[zr p0.1,iv p0.2],iv p1] c (λv d=>Step [] c d/\v=iv r/\I64 r):=by
 refine fnc 13 [] func100 ntmps100 λl=>csr (oB 166 100001 [zr p0.1,iv p0.2] l λj i l k b=>od 1 (otx (od 2 (oV b.at 0 (dT 3 (cs (cT 2 (cc _ a (λe a=>?_) λe a=>?_))))))))
 ·exact cT 1 (crt (zd (sj a▸rT 4 (iv (-1)) ⟨l,rfl,(iK (-1))⟩)))
 exact ckt (cT 2 (crt (sj a▸rT 4 (iv (w64 (p1 - (p0.1.length:Int)))) ⟨l,rfl,(zp _)⟩)))
def ztO{g:K}{p0:LG}{m:OA}{c2:Nat}{p1:Int}(A:Sl tGlue g m c2 p0)(G:I64 p1){r:Int}(a:zoR p0 p1=some r):
 fP 68 #[vl m p0 c2,iv p1] g (λv h=>Step [] g h/\v=iv r/\I64 r):=by
 refine fnc 27 [] func68 ntmps68 λe=>cO 1 (otx (dT 5 (cs (cT 2 (cc _ a (λi a=>?_) λi a=>?_)))))
 ·exact cT 1 (crt (zd (sj a▸rT 4 (iv (-1)) ⟨e,rfl,(iK (-1))⟩)))
 refine ckt (cs (cT 1 (cb 0 ?_)));refine zi 0 (λZ=>∀(c:Int)(j:Env)(d:K),Step [] g d->I64 c->zlm c=some r->Z (ups j [(1,iv c)]) d) ?_ λB=>?_
 ·intro c j d e n a;exact zf (za (cT 2 (crt (sj a▸rT 4 (iv c) ⟨e,rfl,n⟩))))
 refine lB (J:=λb C h=>(∃j,C=ups j [(0,vl m p0 c2),(1,iv b.1),(5,iv b.2)])/\Step [] g h/\I64 b.1/\I64 b.2) kr a ⟨⟨_,eY⟩,e,(zp _),(iK 0)⟩ ?_;rintro b _ D ⟨⟨j,rfl⟩,e,l,H⟩ z a f;refine cs (cT 4 (cc _ a (λi a=>?_) λi a=>?_))
 ·refine ckt (cs (cb 1 (cO 2 (bE a λI q a=>oJ (A.X e) q λL M s t k=>oL k.at 0 2 (od 1 (bE a λN u a=>oC e (zuK s t l u) ?_))))));rintro E O e _ ⟨rfl,w⟩;refine od 1 (otx (dT 2 (cc _ a (λi a=>?_) λi a=>?_)))
  ·exact cT 1 (crt (zj (zd (zt (zj (zd (sj (f _ a)▸rT 4 (iv (-1)) ⟨e,rfl,(iK (-1))⟩)))))))
  exact ck (zc (za (cr (od 3 (oe (ze (sj a).symm ⟨⟨_,eY⟩,e,w,(zp _)⟩))))))
 exact cx 0 (zg (zh (zo eY (B b.1  _ _ e l (f _ a)))))
def zko{b:K}{p0:LI}{c:OA}{c2:Nat}{p1:Int}(g:Sl tI64 b c c2 p0)(f:I64 p1){r:Int}(a:zer p0 p1=some r):
 fP 34 #[vl c p0 c2,iv p1] b (λv d=>b=d/\v=iv r/\I64 r):=by
 refine fnc 12 [] func34 ntmps34 λh=>cO 1 (otx (dT 5 (cs (cT 2 (cc _ a (λe a=>?_) λe a=>?_)))))
 ·exact cT 1 (crt (zd (sj a▸rT 4 (iv (-1)) ⟨rfl,rfl,(iK (-1))⟩)))
 exact ckt (cT 2 (crt (sj a▸rT 4 (iv (w64 (p1 - (p0.length:Int)))) ⟨rfl,rfl,(zp _)⟩)))
def zuJ{c:K}{p0:BS×LI}{a2:OA}{d:Nat}{p1:Int}(k:p0.1.length<=9223372036854775807)(j:Sl tI64 c a2 d p0.2)(l:I64 p1){r:Int}(a:zns p0 p1=some r):
 fP 101 #[.agg #[zr p0.1,vl a2 p0.2 d],iv p1] c (λv h=>Step [] c h/\v=iv r/\I64 r):=by
 refine fnc 19 [] func101 ntmps101 λo=>csr (oB 168 101001 [zr p0.1,vl a2 p0.2 d] o λn m o p b=>od 1 (otx (od 2 (oV b.at 0 (dT 3 (cs (cT 2 (cc _ a (λe a=>?_) λe a=>?_))))))))
 ·exact cT 1 (crt (zd (sj a▸rT 4 (iv (-1)) ⟨o,rfl,(iK (-1))⟩)))
 refine ckt (cO 1 (oV b.at 1 (od 1 (bE a λi f a=>ocl 15 (zko (j.X o) (zp _) f) ?_))));rintro _ _ ⟨rfl,rfl,g⟩;refine dT 1 (cs (cT 2 (cc _ a (λe a=>?_) λe a=>?_)))
 ·exact cT 1 (crt (zd (sj a▸rT 4 (iv (-1)) ⟨o,rfl,(iK (-1))⟩)))
 exact ckt (cT 2 (crt (sj a▸rT 4 (iv i) ⟨o,rfl,g⟩)))
def ztM{g:K}{p0:LT}{m:OA}{c2:Nat}{p1:Int}(A:Sl tTile g m c2 p0)(G:I64 p1){r:Int}(a:zoQ p0 p1=some r):
 fP 69 #[vl m p0 c2,iv p1] g (λv h=>Step [] g h/\v=iv r/\I64 r):=by
 refine fnc 27 [] func69 ntmps69 λe=>cO 1 (otx (dT 5 (cs (cT 2 (cc _ a (λi a=>?_) λi a=>?_)))))
 ·exact cT 1 (crt (zd (sj a▸rT 4 (iv (-1)) ⟨e,rfl,(iK (-1))⟩)))
 refine ckt (cs (cT 1 (cb 0 ?_)));refine zi 0 (λZ=>∀(c:Int)(j:Env)(d:K),Step [] g d->I64 c->zll c=some r->Z (ups j [(1,iv c)]) d) ?_ λB=>?_
 ·intro c j d e n a;exact zf (za (cT 2 (crt (sj a▸rT 4 (iv c) ⟨e,rfl,n⟩))))
 refine lB (J:=λb C h=>(∃j,C=ups j [(0,vl m p0 c2),(1,iv b.1),(5,iv b.2)])/\Step [] g h/\I64 b.1/\I64 b.2) kr a ⟨⟨_,eY⟩,e,(zp _),(iK 0)⟩ ?_;rintro b _ D ⟨⟨j,rfl⟩,e,l,H⟩ z a f;refine cs (cT 4 (cc _ a (λi a=>?_) λi a=>?_))
 ·refine ckt (cs (cb 1 (cO 2 (bE a λI q a=>oJ (A.X e) q λL M s N O y k=>oL k.at 0 2 (od 1 (bE a λP t a=>oC e (zuJ s y l t) ?_))))));rintro E Q e _ ⟨rfl,u⟩;refine od 1 (otx (dT 2 (cc _ a (λi a=>?_) λi a=>?_)))
  ·exact cT 1 (crt (zj (zd (zt (zj (zd (sj (f _ a)▸rT 4 (iv (-1)) ⟨e,rfl,(iK (-1))⟩)))))))
  exact ck (zc (za (cr (od 3 (oe (ze (sj a).symm ⟨⟨_,eY⟩,e,u,(zp _)⟩))))))
 exact cx 0 (zg (zh (zo eY (B b.1  _ _ e l (f _ a)))))
def zsa{c:K}{p0:LG×LT}{d e:OA}{c2 f:Nat}{p1:Int}(q:Sl tGlue c d c2 p0.1)(f6:Sl tTile c e f p0.2)(l:I64 p1){r:Int}(a:zmJ p0 p1=some r):
 fP 31 #[.agg #[vl d p0.1 c2,vl e p0.2 f],iv p1] c (λv m=>Step [] c m/\v=iv r/\I64 r):=by
 refine fnc 18 [] func31 ntmps31 λo=>csr (oB 25 31001 [vl d p0.1 c2,vl e p0.2 f] o λz s o w b=>od 1 (otx (od 1 (oV b.at 0 (od 1 (bE a λx g a=>oC o (ztO (q.X o) l g) ?_))))));rintro t n o _ ⟨rfl,h⟩;have b:=b.Y n;refine dT 1 (cs (cT 2 (cc _ a (λi a=>?_) λi a=>?_)))
 ·exact cT 1 (crt (zd (sj a▸rT 4 (iv (-1)) ⟨o,rfl,(iK (-1))⟩)))
 refine ckt (cO 1 (oV b.at 1 (od 1 (bE a λp j a=>oC o (ztM (f6.X o) h j) ?_))));rintro u y o _ ⟨rfl,k⟩;refine dT 1 (cs (cT 2 (cc _ a (λi a=>?_) λi a=>?_)))
 ·exact cT 1 (crt (zd (sj a▸rT 4 (iv (-1)) ⟨o,rfl,(iK (-1))⟩)))
 exact ckt (cT 2 (crt (sj a▸rT 4 (iv p) ⟨o,rfl,k⟩)))
def zs2{c:K}{p0:TS×(LP)×Int}{d e f:OA}{c2 g h:Nat}{p1:Int}(t:Sl tGlue c d c2 p0.1.1)(f6:Sl tTile c e g p0.1.2)(u:Sl tPlaced c f h p0.2.1)(w:I64 p0.2.2)(i:I64 p1){r:Int}(a:zkM p0 p1=some r):
 fP 13 #[.agg #[vl d p0.1.1 c2,vl e p0.1.2 g,vl f p0.2.1 h,iv p0.2.2],iv p1] c (λv p=>Step [] c p/\v=iv r/\I64 r):=by
 refine fnc 18 [] func13 ntmps13 λo=>csr (oB 30 13001 [vl d p0.1.1 c2,vl e p0.1.2 g,vl f p0.2.1 h,iv p0.2.2] o λA x o B b=>od 1 (otx (od 1 (oL b.at 0 2 (od 1 (bE a λC j a=>oC o (zsa (t.X o) (f6.X o) i j) ?_))))));rintro y q o _ ⟨rfl,k⟩;have b:=b.Y q;refine dT 1 (cs (cT 2 (cc _ a (λl a=>?_) λl a=>?_)))
 ·exact cT 1 (crt (zd (sj a▸rT 4 (iv (-1)) ⟨o,rfl,(iK (-1))⟩)))
 refine ckt (cO 1 (oL b.at 2 1 (od 1 (bE a λs m a=>oC o (zmM (u.X o) k m) ?_))));rintro z D o _ ⟨rfl,n⟩;refine dT 1 (cs (cT 2 (cc _ a (λl a=>?_) λl a=>?_)))
 ·exact cT 1 (crt (zd (sj a▸rT 4 (iv (-1)) ⟨o,rfl,(iK (-1))⟩)))
 exact ckt (cT 2 (crt (sj a▸rT 4 (iv s) ⟨o,rfl,n⟩)))
def znt{b:K}{p0:LP}{c:OA}{c2:Nat}{p1:Int}(g:Sl tPlaced b c c2 p0)(f:I64 p1){r:Int}(a:zjv p0 p1=some r):
 fP 33 #[vl c p0 c2,iv p1] b (λv d=>b=d/\v=iv r/\I64 r):=by
 refine fnc 12 [] func33 ntmps33 λh=>cO 1 (otx (dT 5 (cs (cT 2 (cc _ a (λe a=>?_) λe a=>?_)))))
 ·exact cT 1 (crt (zd (sj a▸rT 4 (iv (-1)) ⟨rfl,rfl,(iK (-1))⟩)))
 exact ckt (cT 2 (crt (sj a▸rT 4 (iv (w64 (p1 - (p0.length:Int)))) ⟨rfl,rfl,(zp _)⟩)))
def zsc{f:K}{p0:LM}{l:OA}{c2:Nat}{p1:Int}(y:Sl (tSl tI64) f l c2 p0)(B:I64 p1){r:Int}(a:zmL p0 p1=some r):
 fP 35 #[vl l p0 c2,iv p1] f (λv g=>f=g/\v=iv r/\I64 r):=by
 refine fnc 27 [] func35 ntmps35 λd=>cO 1 (otx (dT 5 (cs (cT 2 (cc _ a (λh a=>?_) λh a=>?_)))))
 ·exact cT 1 (crt (zd (sj a▸rT 4 (iv (-1)) ⟨rfl,rfl,(iK (-1))⟩)))
 refine ckt (cs (cT 1 (cb 0 ?_)));refine zi 0 (λZ=>∀(c:Int)(i:Env),I64 c->zjw c=some r->Z (ups i [(1,iv c)]) f) ?_ λz=>?_
 ·intro c i m a;exact zf (za (cT 2 (crt (sj a▸rT 4 (iv c) ⟨rfl,rfl,m⟩))))
 refine lB (J:=λb A g=>(∃i,A=ups i [(0,vl l p0 c2),(1,iv b.1),(5,iv b.2)])/\f=g/\I64 b.1/\I64 b.2) kr a ⟨⟨_,eY⟩,rfl,(zp _),(iK 0)⟩ ?_;rintro b _ _ ⟨⟨i,rfl⟩,rfl,k,C⟩ w a e;refine cs (cT 4 (cc _ a (λh a=>?_) λh a=>?_))
 ·refine ckt (cs (cb 1 (cO 2 (bE a λD p a=>oJ y p λE G H I u j=>oV j.at 0 (od 1 (bE a λL q a=>ocl 23 (zko u k q) ?_))))));rintro _ _ ⟨rfl,rfl,s⟩;refine od 1 (otx (dT 2 (cc _ a (λh a=>?_) λh a=>?_)))
  ·exact cT 1 (crt (zj (zd (zt (zj (zd (sj (e _ a)▸rT 4 (iv (-1)) ⟨rfl,rfl,(iK (-1))⟩)))))))
  exact ck (zc (za (cr (od 3 (oe (ze (sj a).symm ⟨⟨_,eY⟩,rfl,s,(zp _)⟩))))))
 exact cx 0 (zg (zh (zo eY (z b.1  _ k (e _ a)))))
def ztN{d:K}{p0:Int×LP×LP×LI×LM}{a2 g h e:OA}{i j k f:Nat}{p1:Int}(E:I64 p0.1)(B:Sl tPlaced d a2 i p0.2.1)(C:Sl tPlaced d g j p0.2.2.1)(x:Sl tI64 d h k p0.2.2.2.1)(y:Sl (tSl tI64) d e f p0.2.2.2.2)(l:I64 p1){r:Int}(a:zlW p0 p1=some r):
 fP 15 #[.agg #[iv p0.1,vl a2 p0.2.1 i,vl g p0.2.2.1 j,vl h p0.2.2.2.1 k,vl e p0.2.2.2.2 f],iv p1] d (λv z=>Step [] d z/\v=iv r/\I64 r):=by
 refine fnc 30 [] func15 ntmps15 λo=>csr (oB 35 15001 [iv p0.1,vl a2 p0.2.1 i,vl g p0.2.2.1 j,vl h p0.2.2.2.1 k,vl e p0.2.2.2.2 f] o λF D o G b=>od 1 (otx (od 1 (oV b.at 1 (od 1 (bE a λH m a=>ocl 8 (znt (B.X o) l m) ?_))))));rintro _ _ ⟨rfl,rfl,n⟩;refine dT 1 (cs (cT 2 (cc _ a (λc a=>?_) λc a=>?_)))
 ·exact cT 1 (crt (zd (sj a▸rT 4 (iv (-1)) ⟨o,rfl,(iK (-1))⟩)))
 refine ckt (cO 1 (oV b.at 2 (od 1 (bE a λI p a=>ocl 14 (znt (C.X o) n p) ?_))));rintro _ _ ⟨rfl,rfl,q⟩;refine dT 1 (cs (cT 2 (cc _ a (λc a=>?_) λc a=>?_)))
 ·exact cT 1 (crt (zd (sj a▸rT 4 (iv (-1)) ⟨o,rfl,(iK (-1))⟩)))
 refine ckt (cO 1 (oV b.at 3 (od 1 (bE a λJ s a=>ocl 20 (zko (x.X o) q s) ?_))));rintro _ _ ⟨rfl,rfl,t⟩;refine dT 1 (cs (cT 2 (cc _ a (λc a=>?_) λc a=>?_)))
 ·exact cT 1 (crt (zd (sj a▸rT 4 (iv (-1)) ⟨o,rfl,(iK (-1))⟩)))
 refine ckt (cO 1 (oV b.at 4 (od 1 (bE a λA u a=>ocl 26 (zsc (y.X o) t u) ?_))));rintro _ _ ⟨rfl,rfl,w⟩;refine dT 1 (cs (cT 2 (cc _ a (λc a=>?_) λc a=>?_)))
 ·exact cT 1 (crt (zd (sj a▸rT 4 (iv (-1)) ⟨o,rfl,(iK (-1))⟩)))
 exact ckt (cT 2 (crt (sj a▸rT 4 (iv A) ⟨o,rfl,w⟩)))
def ztP{c:K}{p0:BS×(TS×(LP)×Int)×(LP)×(Int×LP×LP×LI×LM)}{a2 p q e f g h i:OA}{s t u j k l m n:Nat}{p1:Int}(X:p0.1.length<=9223372036854775807)(P:Sl tGlue c a2 s p0.2.1.1.1)(Q:Sl tTile c p t p0.2.1.1.2)(E:Sl tPlaced c q u p0.2.1.2.1)(w:I64 p0.2.1.2.2)(F:Sl tPlaced c e j p0.2.2.1)(x:I64 p0.2.2.2.1)(G:Sl tPlaced c f k p0.2.2.2.2.1)(H:Sl tPlaced c g l p0.2.2.2.2.2.1)(I:Sl tI64 c h m p0.2.2.2.2.2.2.1)(J:Sl (tSl tI64) c i n p0.2.2.2.2.2.2.2)(R:I64 p1){r:Int}(a:zjx p0 p1=some r):
 fP 4 #[.agg #[zr p0.1,vl a2 p0.2.1.1.1 s,vl p p0.2.1.1.2 t,vl q p0.2.1.2.1 u,iv p0.2.1.2.2,vl e p0.2.2.1 j,iv p0.2.2.2.1,vl f p0.2.2.2.2.1 k,vl g p0.2.2.2.2.2.1 l,vl h p0.2.2.2.2.2.2.1 m,vl i p0.2.2.2.2.2.2.2 n],iv p1] c (λv L=>Step [] c L/\v=iv r/\I64 r):=by
 refine fnc 31 [] func4 ntmps4 λo=>csr (oB 37 4001 [zr p0.1,vl a2 p0.2.1.1.1 s,vl p p0.2.1.1.2 t,vl q p0.2.1.2.1 u,iv p0.2.1.2.2,vl e p0.2.2.1 j,iv p0.2.2.2.1,vl f p0.2.2.2.2.1 k,vl g p0.2.2.2.2.2.1 l,vl h p0.2.2.2.2.2.2.1 m,vl i p0.2.2.2.2.2.2.2 n] o λY S o Z b=>od 1 (otx (od 2 (oV b.at 0 (dT 3 (cs (cT 2 (cc _ a (λd a=>?_) λd a=>?_))))))))
 ·exact cT 1 (crt (zd (sj a▸rT 4 (iv (-1)) ⟨o,rfl,(iK (-1))⟩)))
 refine ckt (cO 1 (oL b.at 1 4 (od 1 (bE a λa0 y a=>oC o (zs2 (P.X o) (Q.X o) (E.X o) w (zp _) y) ?_))));rintro T M o _ ⟨rfl,z⟩;have b:=b.Y M;refine dT 1 (cs (cT 2 (cc _ a (λd a=>?_) λd a=>?_)))
 ·exact cT 1 (crt (zd (sj a▸rT 4 (iv (-1)) ⟨o,rfl,(iK (-1))⟩)))
 refine ckt (cO 1 (oL b.at 5 1 (od 1 (bE a λa1 A a=>oC o (zmM (F.X o) z A) ?_))));rintro U N o _ ⟨rfl,B⟩;have b:=b.Y N;refine dT 1 (cs (cT 2 (cc _ a (λd a=>?_) λd a=>?_)))
 ·exact cT 1 (crt (zd (sj a▸rT 4 (iv (-1)) ⟨o,rfl,(iK (-1))⟩)))
 refine ckt (cO 1 (oL b.at 6 5 (od 1 (bE a λO C a=>oC o (ztN x (G.X o) (H.X o) (I.X o) (J.X o) B C) ?_))));rintro V a3 o _ ⟨rfl,D⟩;refine dT 1 (cs (cT 2 (cc _ a (λd a=>?_) λd a=>?_)))
 ·exact cT 1 (crt (zd (sj a▸rT 4 (iv (-1)) ⟨o,rfl,(iK (-1))⟩)))
 exact ckt (cT 2 (crt (sj a▸rT 4 (iv O) ⟨o,rfl,D⟩)))
def zni{c:K}{p0:Int}(e:0<=p0/\p0<=255){r:Bool}(a:zgA p0=some r):
 fP 70 #[.int .u8 p0] c (λv d=>c=d/\v=.bool r):=by
 refine fnc 17 [] func70 ntmps70 λf=>cO 1 (otx (od 2 (osp 5 (decide (p0≥97)) a (λb a=>?_) λb a=>?_)))
 ·refine oz [6,7] (od 4 (osp 12 (decide (p0≥65)) a (λb a=>?_) λb a=>?_))
  ·exact oz [13,14] (dT 3 (crt (sj a▸rT 2 ff ⟨rfl,rfl⟩)))
  exact dT 5 (crt (sj a▸rT 2 (bW (p0<=90)) ⟨rfl,rfl⟩))
 refine od 3 (osp 9 (decide (p0<=122)) a (λb a=>?_) λb a=>?_)
 ·refine od 2 (osp 12 (decide (p0≥65)) a (λb a=>?_) λb a=>?_)
  ·exact oz [13,14] (dT 3 (crt (sj a▸rT 2 ff ⟨rfl,rfl⟩)))
  exact dT 5 (crt (sj a▸rT 2 (bW (p0<=90)) ⟨rfl,rfl⟩))
 exact oz [10,11,12,13,14,15] (dT 2 (crt (sj a▸rT 2 tt ⟨rfl,rfl⟩)))
def zsO{b:K}{p0:Int}(e:0<=p0/\p0<=255){r:Bool}(a:zkJ p0=some r):
 fP 71 #[.int .u8 p0] b (λv c=>b=c/\v=.bool r):=by
 refine fnc 9 [] func71 ntmps71 λf=>cO 1 (otx (od 2 (osp 5 (decide (p0≥48)) a (λd a=>?_) λd a=>?_)))
 ·exact oz [6,7] (dT 2 (crt (sj a▸rT 2 ff ⟨rfl,rfl⟩)))
 exact dT 4 (crt (sj a▸rT 2 (bW (p0<=57)) ⟨rfl,rfl⟩))
def zmy{e:K}{p0:BS}(N:p0.length<=9223372036854775807){r:Bool}(a:zgE p0=some r):
 fP 36 #[zr p0] e (λv f=>e=f/\v=.bool r):=by
 refine fnc 42 [] func36 ntmps36 λh=>cT 1 (cs ?_);refine zm (λZ=>∀(k:Bool)(b:Env),zgD p0 k=some r->cwp prog 42 (sub (zB f36) [1,0,1]) Z (ups b [(0,zr p0),(17,.bool k)]) e) ?_ λl=>?_
 ·intro k b a;refine cc _ a (λg a=>?_) λg a=>?_
  ·exact cT 1 (crt (zd (sj a▸rT 2 ff ⟨rfl,rfl⟩)))
  refine ckt (cs (cT 1 (cb 0 ?_)));refine zi 0 (λZ=>∀(b:Env),zpK=some r->Z (b) e) ?_ λG=>?_
  ·intro b a;exact zf (za (cT 1 (crt (sj a▸rT 2 tt ⟨rfl,rfl⟩))))
  refine lB (J:=λc I f=>(∃b,I=ups b [(0,zr p0),(3,iv c)])/\e=f/\I64 c) kr a ⟨⟨_,eY⟩,rfl,(iK 1)⟩ ?_;rintro c _ _ ⟨⟨b,rfl⟩,rfl,O⟩ m a i;refine cs (cT 4 (cc _ a (λg a=>?_) λg a=>?_))
  ·refine ckt (cs (cb 1 ?_));refine zm (λZ=>∀(n:Bool)(b:Env),zeP c n=some m->cwp prog 42 (sub (zB f36) [1,0,0,1,0,0,1,0,1,1]) Z (ups b [(0,zr p0),(3,iv c),(41,.bool n)]) e) ?_ λp=>?_
   ·intro n b a;refine cc _ a (λg a=>?_) λg a=>?_
    ·exact cT 1 (crt (zj (zd (zt (zj (zd (sj (i _ a)▸rT 2 ff ⟨rfl,rfl⟩)))))))
    exact ck (zc (za (cr (od 3 (oe (ze (sj a).symm ⟨⟨_,eY⟩,rfl,(zp _)⟩))))))
   refine cO 2 (bE a λL z a=>oq 26 (.int .u8 (L.toNat:Int)) (λ_=>zjo 9 .i64 kr kr z) (bE a λM A a=>ocl 27 (zni (zAp _) A) ?_));rintro _ _ ⟨rfl,rfl⟩;refine od 1 (osp 29 (!M) a (λd a=>?_) λd a=>?_)
   ·exact oz [30,31,32,33,34] (od 2 (oz [37,38,39,40] (dT 1 (zl eY (p false  _  a)))))
   refine od 2 (bE a λB q a=>oq 32 (.int .u8 (B.toNat:Int)) (λ_=>zjo 9 .i64 kr kr q) (bE a λC s a=>ocl 33 (zsO (zAp _) s) ?_));rintro _ _ ⟨rfl,rfl⟩;refine od 2 (osp 36 (!C) a (λd a=>?_) λd a=>?_)
   ·exact oz [37,38,39,40] (dT 1 (zl eY (p false  _  a)))
   exact od 2 (bE a λj t a=>oq 39 (.int .u8 (j.toNat:Int)) (λ_=>zjo 9 .i64 kr kr t) (dT 2 (zl eY (p (!decide ((j.toNat:Int)=95))  _  a))))
  exact cx 0 (zg (zh (zo rfl (G   _  (i _ a)))))
 refine cO 3 ?_;refine osp 7 (decide ((p0.length:Int)<1)) a ?_ ?_
 ·intro d a;refine od 4 ?_;refine osp 12 (decide ((p0.length:Int)>12)) a ?_ ?_
  ·intro d a;refine od 1 (bE a λD u a=>oq 14 (.int .u8 (D.toNat:Int)) (λ_=>zjo 9 .i64 kr kr u) (bE a λE w a=>ocl 15 (zni (zAp _) w) ?_));rintro _ _ ⟨rfl,rfl⟩;exact dT 2 (zl eY (l (!E)  _  a))
  intro d a;exact oz [13,14,15,16] (dT 1 (zl eY (l true  _  a)))
 intro d a;exact oz [8,9,10] (od 2 (oz [13,14,15,16] (dT 1 (zl eY (l true  _  a)))))
def zah{c:K}{p0:Int}{p1:Int}{b:Int}(f:I64 p0)(g:I64 p1)(h:I64 b){r:Bool}(a:zaq p0 p1 b=some r):
 fP 73 #[iv p0,iv p1,iv b] c (λv d=>c=d/\v=.bool r):=by
 refine fnc 15 [] func73 ntmps73 λi=>cO 1 (otx (od 3 (osp 10 (decide (p0≥p1)) a (λe a=>?_) λe a=>?_)))
 ·exact oz [11,12,13] (dT 2 (crt (sj a▸rT 6 ff ⟨rfl,rfl⟩)))
 exact dT 5 (crt (sj a▸rT 6 (bW (p0<=b)) ⟨rfl,rfl⟩))
def zhf{c:K}{p0:Int×Int}(d:I64 p0.1)(e:I64 p0.2){r:Bool}(a:zeo p0=some r):
 fP 112 #[.agg #[iv p0.1,iv p0.2]] c (λv f=>Step [] c f/\v=.bool r):=by
 refine fnc 11 [] func112 ntmps112 λo=>csr (oB 104 112001 [iv p0.1,iv p0.2] o λm l o n b=>od 1 (otx (od 1 (oV b.at 0 (bE a λi g a=>ocl 5 (zah d (iK (-60)) (iK 60) g) ?_)))));rintro _ _ ⟨rfl,rfl⟩;refine osp 6 (i) a (λj a=>?_) λj a=>?_
 ·exact oz [7,8,9] (dT 2 (crt (sj a▸rT 2 ff ⟨o,rfl⟩)))
 refine od 1 (oV b.at 1 (bE a λk h a=>ocl 9 (zah e (iK (-60)) (iK 60) h) ?_));rintro _ _ ⟨rfl,rfl⟩;exact dT 2 (crt (sj a▸rT 2 (.bool k) ⟨o,rfl⟩))
def zgh{e:K}{p0:Int×Int}{p1:Int×Int}(h:I64 p0.1)(i:I64 p0.2)(j:I64 p1.1)(k:I64 p1.2){r:Bool}(b:zde p0 p1=some r):
 fP 163 #[.agg #[iv p0.1,iv p0.2],.agg #[iv p1.1,iv p1.2]] e (λv f=>Step [] e f/\v=.bool r):=by
 refine fnc 24 [] func163 ntmps163 λo=>csr (oB 104 163001 [iv p0.1,iv p0.2] o λn l o p a=>oB 104 163002 [iv p1.1,iv p1.2] o λq m o g c=>?_);have a:=a.Y g;refine od 1 (otx (od 1 (oV a.at 1 (od 1 (oV c.at 1 (od 1 (osp 10 (decide (p0.2<p1.2)) b (λd b=>?_) λd b=>?_)))))))
 ·refine od 1 (oV a.at 1 (od 1 (oV c.at 1 (od 1 (osp 16 (decide (p0.2=p1.2)) b (λd b=>?_) λd b=>?_)))))
  ·exact oz [17,18,19,20,21] (dT 3 (crt (sj b▸rT 4 ff ⟨o,rfl⟩)))
  exact od 1 (oV a.at 0 (od 1 (oV c.at 0 (dT 4 (crt (sj b▸rT 4 (bW (p0.1<p1.1)) ⟨o,rfl⟩))))))
 exact oz [11,12,13,14,15,16,17,18,19,20,21,22] (dT 2 (crt (sj b▸rT 4 tt ⟨o,rfl⟩)))
def ztC{g:K}{p0:LP}{d e:Nat}{P:OA}{c2:Nat}(y:At g d e [vl P p0 c2])(Q:Sl tPlaced g P c2 p0){r:Bool}(a:zlQ p0=some r):
 fP 132 #[pt d e] g (λv i=>Step [] g i/\v=.bool r):=by
 refine fnc 56 [] func132 ntmps132 λl=>cT 1 (cs (cO 3 (oV (y.Y l) 0 (dT 2 (cc _ a (λj a=>?_) λj a=>?_)))))
 ·exact cT 1 (crt (zd (sj a▸rT 2 ff ⟨l,rfl⟩)))
 refine ckt (cs (cT 1 (cb 0 ?_)));refine zi 0 (λZ=>∀(f:Env)(k:K),Step [] g k->zlf=some r->Z (f) k) ?_ λX=>?_
 ·intro f k l a;exact zf (za (cT 1 (crt (sj a▸rT 2 tt ⟨l,rfl⟩))))
 refine lB (J:=λc E' i=>(∃f,E'=ups f [(0,pt d e),(3,iv c)])/\Step [] g i/\I64 c) kr a ⟨⟨_,eY⟩,l,(iK 0)⟩ ?_;rintro c _ a7 ⟨⟨f,rfl⟩,l,a8⟩ D a m;refine cs (cO 4 (oV (y.Y l) 0 (dT 2 (cc _ a (λj a=>?_) λj a=>?_))))
 ·refine ckt (cs (cb 1 (cO 3 (oV (y.Y l) 0 (od 1 (bE a λE S a=>oJ (Q.X l) S λa9 b0 n p G z=>oL z.at 0 3 (oA 106 132001 [iv 0,iv 0,iv 0] l λq a2 l b1 b=>oS 0 [iv E.1.1,iv E.1.2,iv E.2] b l λa3 l b2 b=>ot ?_)))))));refine zm (λZ=>∀(s:Bool)(f:Env)(h:K),Step [] g h->zcp c s=some D->cwp prog 56 (sub (zB f132) [1,1,0,0,1,0,0,1,0,1,1]) Z (ups f [(0,pt d e),(3,iv c),(55,.bool s)]) h) ?_ λA=>?_
  ·intro s f h l a;refine cc _ a (λj a=>?_) λj a=>?_
   ·exact cT 1 (crt (zj (zd (zt (zj (zd (sj (m _ a)▸rT 2 ff ⟨l,rfl⟩)))))))
   exact ck (zc (za (cr (od 3 (oe (ze (sj a).symm ⟨⟨_,eY⟩,l,(zp _)⟩))))))
  refine cs (cx_ 25 [0,1,2,3,4,5,6,7,8,9,10,11,12,13,14,15,16,17,18,19,20,21,22,23,24] [2,7] 25 [] (xp 27 (pt q 0) (xL b.at 0 2 (bE a λC H a=>xcl 29 (zhf n p H) ?_))));rintro _ a4 ⟨t,rfl⟩;refine⟨t,?_⟩;have l:=l.tr0 t;have b:=b.Y t;refine xp 30 (.bool (!C)) ?_;refine xsp 31 (!C) a ?_ ?_
  ·intro u a;refine xp 32 (pt q 2) (xV b.at 2 (bE a λw I a=>xcl 34 (zah G (iK 0) (iK 159) I) ?_));rintro _ _ ⟨rfl,rfl⟩;refine⟨Step.refl _ _,?_⟩;refine xp 35 (.bool (!w)) (xp 36 (.bool (!w)) ?_);refine xsp 37 (!w) a ?_ ?_
   ·intro u a;refine xp 38 (iv c) (xp 39 (bW (c>0)) ?_);refine xsp 40 (decide (c>0)) a ?_ ?_
    ·intro u a;exact xs 41 (xs 42 (xs 43 (xs 44 (xs 45 (xs 46 (xs 47 (xs 48 (xs 49 (xs 50 (xs 51 (xe (oz [52,53] (dT 2 (zl eY (A false  _ _ l  a)))))))))))))))
    intro u a;refine xp 41 (pt d e) (xp 42 (pt d e) (xp 43 (pt d e) (xV (y.Y l) 0 (xp 45 (iv c) (xp 46 (iv (w64 (c - 1))) (bE a λb3 L a=>xI (Q.X l) L λT U M N a5 B=>xp 48 (pt T U) (xL B.at 0 2 (xp 50 (pt q 0) (xL b.at 0 2 (xe (bE a λV O a=>oC l (zgh M N n p O) ?_)))))))))));rintro a6 b4 l _ rfl;exact dT 3 (zl eY (A (!V)  _ _ l  a))
   intro u a;exact xs 38 (xs 39 (xs 40 (xs 41 (xs 42 (xs 43 (xs 44 (xs 45 (xs 46 (xs 47 (xs 48 (xs 49 (xs 50 (xs 51 (xe (oz [52,53,54] (dT 1 (zl eY (A true  _ _ l  a))))))))))))))))))
  intro u a;refine xs 32 (xs 33 (xs 34 (xs 35 (xp 36 tt (xp 37 tt (xs 38 (xs 39 (xs 40 (xs 41 (xs 42 (xs 43 (xs 44 (xs 45 (xs 46 (xs 47 (xs 48 (xs 49 (xs 50 (xs 51 (xe (oz [52,53,54] ?_)))))))))))))))))))));exact dT 1 (zl eY (A true  _ _ l  a))
 exact cx 0 (zg (zh (zo rfl (X   _ _ l  (m _ a)))))
def zof{a:K}{p0:LG×LT}{b c:Nat}{e f:OA}{c2 g:Nat}{p1:Int}(k:At a b c [vl e p0.1 c2,vl f p0.2 g])(m:Sl tGlue a e c2 p0.1)(f6:Sl tTile a f g p0.2)(h:I64 p1){r:Bool}(d:zh0 p0 p1=some r):
 fP 133 #[pt b c,iv p1] a (λv i=>a=i/\v=.bool r):=by
 refine fnc 13 [] func133 ntmps133 λn=>cO 1 (otx (od 4 (oV (k.Y n) 1 (od 2 (bE d λl j d=>ocl 12 (zah h (iK 0) (zp _) j) ?_)))));rintro _ _ ⟨rfl,rfl⟩;exact dT 1 (crt (sj d▸rT 4 (.bool l) ⟨rfl,rfl⟩))
def znI{b:K}{p0:LG×LT}{f g:Nat}{w y z:OA}{c2 A B:Nat}{p1:LP}{h i:Nat}(G:At b f g [vl w p0.1 c2,vl y p0.2 A])(H:Sl tGlue b w c2 p0.1)(f6:Sl tTile b y A p0.2)(m1:At b h i [vl z p1 B])(C:Sl tPlaced b z B p1){r:Bool}(a:zkg p0 p1=some r):
 fP 103 #[pt f g,pt h i] b (λv j=>Step [] b j/\v=.bool r):=by
 refine fnc 29 [] func103 ntmps103 λd=>cT 1 (cs (cO 1 (bE a λP p a=>oC d (ztC ((m1.Y d).part 0 1) C p) ?_)));rintro k Q d _ rfl;refine dT 1 (cc _ a (λl a=>?_) λl a=>?_)
 ·exact cT 1 (crt (zd (sj a▸rT 4 ff ⟨d,rfl⟩)))
 refine ckt (cs (cT 1 (cb 0 ?_)));refine zi 0 (λZ=>∀(m:Env),znJ=some r->Z (m) k) ?_ λI=>?_
 ·intro m a;exact zf (za (cT 1 (crt (sj a▸rT 4 tt ⟨d,rfl⟩))))
 refine lB (J:=λc L j=>(∃m,L=ups m [(0,pt f g),(1,pt h i),(5,iv c)])/\k=j/\I64 c) kr a ⟨⟨_,eY⟩,rfl,(iK 0)⟩ ?_;rintro c _ _ ⟨⟨m,rfl⟩,rfl,M⟩ E a e;refine cs (cO 4 (oV (m1.Y d) 0 (dT 2 (cc _ a (λl a=>?_) λl a=>?_))))
 ·refine ckt (cs (cb 1 (cO 4 (oV (m1.Y d) 0 (od 1 (bE a λR s a=>oJ (C.X d) s λS T N O t n=>od 1 (oV n.at 2 (bE a λU u a=>ocl 27 (zof ((G.Y d).part 0 2) (H.X d) (f6.X d) t u) ?_))))))));rintro _ _ ⟨rfl,rfl⟩;refine dT 1 (cc _ a (λl a=>?_) λl a=>?_)
  ·exact cT 1 (crt (zj (zd (zt (zj (zd (sj (e _ a)▸rT 4 ff ⟨d,rfl⟩)))))))
  exact ck (zc (za (cr (od 3 (oe (ze (sj a).symm ⟨⟨_,eY⟩,rfl,(zp _)⟩))))))
 exact cx 0 (zg (zh (zo rfl (I   _  (e _ a)))))
def ztE{c:K}{p0:LG×LT}{f g:Nat}{n p:OA}{c2 q:Nat}{p1:BS}(s:At c f g [vl n p0.1 c2,vl p p0.2 q])(y:Sl tGlue c n c2 p0.1)(f6:Sl tTile c p q p0.2)(E:p1.length<=9223372036854775807){r:Int}(a:zhe p0 p1=some r):
 fP 159 #[pt f g,zr p1] c (λv h=>c=h/\v=iv r/\I64 r):=by
 refine fnc 27 [] func159 ntmps159 λd=>cT 1 (cs (cT 1 (cb 0 ?_)));refine zi 0 (λZ=>∀(i:Env),zli=some r->Z (i) c) ?_ λz=>?_
 ·intro i a;exact zf (za (cT 1 (crt (sj a▸rT 4 (iv 0) ⟨rfl,rfl,(iK 0)⟩))))
 refine lB (J:=λb A h=>(∃i,A=ups i [(0,pt f g),(1,zr p1),(5,iv b)])/\c=h/\I64 b) kr a ⟨⟨_,eY⟩,rfl,(iK 0)⟩ ?_;rintro b _ _ ⟨⟨i,rfl⟩,rfl,B⟩ w a e;refine cs (cO 4 (oV (s.Y d) 0 (dT 2 (cc _ a (λl a=>?_) λl a=>?_))))
 ·refine ckt (cs (cb 1 (cO 3 (oV (s.Y d) 0 (od 1 (bE a λu m a=>oJ y m λG H C D j=>od 1 (oV j.at 0 (od 1 (oq 24 (bW (u.1=p1)) (λ_=>zol kr) (ot (cc _ a (λl a=>?_) λl a=>?_)))))))))))
  ·exact cT 3 (crt (zj (zd (zt (zj (zd (sj (e _ a)▸rT 4 (iv (w64 (b+1))) ⟨rfl,rfl,(zp _)⟩)))))))
  exact ck (zc (za (cr (od 3 (oe (ze (sj a).symm ⟨⟨_,eY⟩,rfl,(zp _)⟩))))))
 exact cx 0 (zg (zh (zo rfl (z   _  (e _ a)))))
def ztD{c:K}{p0:LG×LT}{f g:Nat}{p q:OA}{c2 s:Nat}{p1:BS}(t:At c f g [vl p p0.1 c2,vl q p0.2 s])(L:Sl tGlue c p c2 p0.1)(f6:Sl tTile c q s p0.2)(C:p1.length<=9223372036854775807){r:Int}(a:zhd p0 p1=some r):
 fP 160 #[pt f g,zr p1] c (λv h=>c=h/\v=iv r/\I64 r):=by
 refine fnc 26 [] func160 ntmps160 λd=>cT 1 (cs (cT 1 (cb 0 ?_)));refine zi 0 (λZ=>∀(i:Env),zlh=some r->Z (i) c) ?_ λz=>?_
 ·intro i a;exact zf (za (cT 1 (crt (sj a▸rT 4 (iv (-1)) ⟨rfl,rfl,(iK (-1))⟩))))
 refine lB (J:=λb A h=>(∃i,A=ups i [(0,pt f g),(1,zr p1),(5,iv b)])/\c=h/\I64 b) kr a ⟨⟨_,eY⟩,rfl,(iK 0)⟩ ?_;rintro b _ _ ⟨⟨i,rfl⟩,rfl,l⟩ y a e;refine cs (cO 4 (oV (t.Y d) 1 (dT 2 (cc _ a (λm a=>?_) λm a=>?_))))
 ·refine ckt (cs (cb 1 (cO 3 (oV (t.Y d) 1 (od 1 (bE a λw n a=>oJ f6 n λD E B G H I j=>od 1 (oV j.at 0 (od 1 (oq 24 (bW (w.1=p1)) (λ_=>zol kr) (ot (cc _ a (λm a=>?_) λm a=>?_)))))))))))
  ·exact cT 2 (crt (zj (zd (zt (zj (zd (sj (e _ a)▸rT 4 (iv b) ⟨rfl,rfl,l⟩)))))))
  exact ck (zc (za (cr (od 3 (oe (ze (sj a).symm ⟨⟨_,eY⟩,rfl,(zp _)⟩))))))
 exact cx 0 (zg (zh (zo rfl (z   _  (e _ a)))))
def zqX{l:K}{p0:LG×LT}{e f:Nat}{a1 a4:OA}{c2 c5:Nat}(m:At l e f [vl a1 p0.1 c2,vl a4 p0.2 c5])(M:Sl tGlue l a1 c2 p0.1)(f6:Sl tTile l a4 c5 p0.2){r:Bool}(a:zki p0=some r):
 fP 129 #[pt e f] l (λv j=>Step [] l j/\v=.bool r):=by
 refine fnc 115 [] func129 ntmps129 λn=>cT 1 (cs ?_);refine zm (λZ=>∀(T:Bool)(b:Env),zhZ p0 T=some r->cwp prog 115 (sub (zB f129) [1,0,1]) Z (ups b [(0,pt e f),(29,.bool T)]) l) ?_ λU=>?_
 ·intro T b a;refine cc _ a (λh a=>?_) λh a=>?_
  ·exact cT 1 (crt (zd (sj a▸rT 2 ff ⟨n,rfl⟩)))
  refine ckt (cs (cT 1 (cb 0 ?_)));refine zi 0 (λZ=>∀(b:Env)(t:K),Step [] l t->znM p0=some r->Z (ups b [(0,pt e f)]) t) ?_ λJ2=>?_
  ·intro b t n a;refine zf (za (cs (cT 1 (cb 2 ?_))));refine zi 2 (λZ=>∀(b:Env)(u:K),Step [] l u->znL=some r->Z (b) u) ?_ λJ3=>?_
   ·intro b u n a;exact zf (za (cT 1 (crt (sj a▸rT 2 tt ⟨n,rfl⟩))))
   refine lB (J:=λc E j=>(∃b,E=ups b [(0,pt e f),(5,iv c)])/\Step [] l j/\I64 c) kr a ⟨⟨_,eY⟩,n,(iK 0)⟩ ?_;rintro c _ d7 ⟨⟨b,rfl⟩,n,d8⟩ z a p;refine cs (cO 4 (oV (m.Y n) 1 (dT 2 (cc _ a (λh a=>?_) λh a=>?_))))
   ·refine ckt (cs (cb 3 (cO 3 (oV (m.Y n) 1 (od 1 (bE a λq X a=>oJ (f6.X n) X λe6 e7 G c0 c1 s N=>oL N.at 0 2 (oA 108 129002 [zr ([]:BS),sl none 0 0] n λR d9 n c3 d=>?_)))))));have s:=s.X c3;refine oS 0 [zr q.1,vl c0 q.2 c1] d n λw n c4 d=>?_;have s:=s.X c4;refine ot (cs ?_);refine zm (λZ=>∀(H:Bool)(b:Env),zf0 p0 c q H=some z->cwp prog 115 (sub (zB f129) [1,0,1,0,0,1,0,0,1,0,1,1,1]) Z (ups b [(0,pt e f),(5,iv c),(6,pt R 0),(98,.bool H)]) w) ?_ λY=>?_
    ·intro H b a;refine cc _ a (λh a=>?_) λh a=>?_
     ·exact cT 1 (crt (zd (zj (zd (zt (zj (zd (sj (p _ a)▸rT 2 ff ⟨n,rfl⟩))))))))
     refine ckt (cT 1 (cb 4 ?_));refine zi 4 (λZ=>∀(b:Env),zkI c=some z->Z (ups b [(0,pt e f),(5,iv c)]) w) ?_ λJ5=>?_
     ·intro b a;exact zf (zc (za (cr (od 3 (oe (ze (sj a).symm ⟨⟨_,eY⟩,n,(zp _)⟩))))))
     refine lB (J:=λy E j=>(∃b,E=ups b [(0,pt e f),(5,iv c),(6,pt R 0),(7,iv y)])/\w=j/\I64 y) kr a ⟨⟨_,eY⟩,rfl,(iK 0)⟩ ?_;rintro y _ _ ⟨⟨b,rfl⟩,rfl,e1⟩ d4 a B;refine cs (cT 2 (cc _ a (λh a=>?_) λh a=>?_))
     ·refine ckt (cs (cb 5 (cs (cd 10 (dd 1 (dV d.at 1 (dd 1 (bE a λe8 a2 a=>dI s a2 λe9 f0 a3 O=>dV O.at 0 (dd 3 (dV (m.Y n) 0 (dd 1 (de (bE a λf1 a5 a=>ocl 113 (zah a3 (iK 0) (zf6 (M.X n).most) a5) ?_)))))))))))));rintro _ _ ⟨rfl,rfl⟩;refine dT 1 (cc _ a (λh a=>?_) λh a=>?_)
      ·refine cT 1 (crt (zj (zd ?_)));have a:=B _ a;exact zt (zj (zj (zd (zt (zj (zd (sj (p _ a)▸rT 2 ff ⟨n,rfl⟩)))))))
      exact ck (zc (za (cr (od 3 (oe (ze (sj a).symm ⟨⟨_,eY⟩,rfl,(zp _)⟩))))))
     exact cx 4 (zg (zh (zo eY (J5   _  (B _ a)))))
    refine cO 1 (oV d.at 0 (bE a λc7 a6 a=>ocl 83 (zmy G a6) ?_));rintro _ _ ⟨rfl,rfl⟩;refine od 1 (osp 85 (!c7) a (λk a=>?_) λk a=>?_)
    ·refine od 1 (oV d.at 1 (od 3 ?_));refine osp 91 (!decide ((q.2.length:Int)=4)) a ?_ ?_
     ·intro k a;refine od 2 (oV d.at 0 (bE a λc8 a7 a=>ocl 95 (ztD ((m.Y n).part 0 2) (M.X n) (f6.X n) G a7) ?_));rintro _ _ ⟨rfl,rfl,e2⟩;exact dT 3 (zl eY (Y (!decide (c8=c))  _  a))
     intro k a;exact oz [92,93,94,95,96,97] (dT 1 (zl eY (Y true  _  a)))
    exact oz [86,87,88,89] (od 2 (oz [92,93,94,95,96,97] (dT 1 (zl eY (Y true  _  a)))))
   exact cx 2 (zg (zh (zo rfl (J3   _ _ n  (p _ a)))))
  refine lB (J:=λi E j=>(∃b,E=ups b [(0,pt e f),(3,iv i)])/\Step [] l j/\I64 i) kr a ⟨⟨_,eY⟩,n,(iK 0)⟩ ?_;rintro i _ e3 ⟨⟨b,rfl⟩,n,f2⟩ P a D;refine cs (cO 4 (oV (m.Y n) 0 (dT 2 (cc _ a (λh a=>?_) λh a=>?_))))
  ·refine ckt (cs (cb 1 (cO 3 (oV (m.Y n) 0 (od 1 (bE a λS a9 a=>oJ (M.X n) a9 λf4 f5 I b0 Q=>oL Q.at 0 2 (oA 182 129001 [zr ([]:BS),iv 0] n λf7 e4 n f8 g=>oS 0 [zr S.1,iv S.2] g n λb1 n f9 g=>ot ?_)))))));refine zm (λZ=>∀(L:Bool)(b:Env),zfZ i L=some P->cwp prog 115 (sub (zB f129) [1,1,0,0,1,0,0,1,0,1,1]) Z (ups b [(0,pt e f),(3,iv i),(64,.bool L)]) b1) ?_ λJ6=>?_
   ·intro L b a;refine cc _ a (λh a=>?_) λh a=>?_
    ·exact cT 1 (crt (zj (zd (zt (zj (zd (sj (D _ a)▸rT 2 ff ⟨n,rfl⟩)))))))
    exact ck (zc (za (cr (od 3 (oe (ze (sj a).symm ⟨⟨_,eY⟩,n,(zp _)⟩))))))
   refine cO 1 (oV g.at 0 (bE a λd0 b3 a=>ocl 48 (zmy I b3) ?_));rintro _ _ ⟨rfl,rfl⟩;refine od 1 (osp 50 (!d0) a (λk a=>?_) λk a=>?_)
   ·refine od 1 (oV g.at 1 (bE a λd2 b4 a=>ocl 53 (zah b0 (iK 1) (iK 4) b4) ?_));rintro _ _ ⟨rfl,rfl⟩;refine od 2 (osp 56 (!d2) a (λk a=>?_) λk a=>?_)
    ·refine od 2 (oV g.at 0 (bE a λd3 b5 a=>ocl 60 (ztE ((m.Y n).part 0 2) (M.X n) (f6.X n) I b5) ?_));rintro _ _ ⟨rfl,rfl,e5⟩;exact dT 4 (zl eY (J6 (!decide (d3=(w64 (i+1))))  _  a))
    exact oz [57,58,59,60,61,62,63] (dT 1 (zl eY (J6 true  _  a)))
   exact oz [51,52,53,54] (od 2 (oz [57,58,59,60,61,62,63] (dT 1 (zl eY (J6 true  _  a)))))
  exact cx 0 (zg (zh (zo eY (J2   _ _ n  (D _ a)))))
 refine cO 3 (oV (m.Y n) 0 (od 2 ?_));refine osp 14 (decide ((p0.1.length:Int)>200)) a ?_ ?_
 ·intro k a;refine od 3 (oV (m.Y n) 1 (od 3 ?_));refine osp 22 (decide ((p0.2.length:Int)<1)) a ?_ ?_
  ·intro k a;exact od 3 (oV (m.Y n) 1 (dT 3 (zl eY (U (decide ((p0.2.length:Int)>160))  _  a))))
  intro k a;exact oz [23,24,25,26,27,28] (dT 1 (zl eY (U true  _  a)))
 intro k a;exact oz [15,16,17,18,19,20] (od 2 (oz [23,24,25,26,27,28] (dT 1 (zl eY (U true  _  a)))))
def zoG{b:K}{p0:Int}(c:I64 p0){r:Bool}(a:zeu p0=some r):
 fP 130 #[iv p0] b (λv d=>b=d/\v=.bool r):=by
 refine fnc 5 [] func130 ntmps130 λg=>cO 1 (otx (od 1 (bE a λf e a=>ocl 4 (zah c (iK 1) (iK 16) e) ?_)));rintro _ _ ⟨rfl,rfl⟩;exact dT 1 (crt (sj a▸rT 2 (.bool f) ⟨rfl,rfl⟩))
def zul{b:K}{p0:Int}(c:I64 p0){r:Bool}(a:ztn p0=some r):
 fP 197 #[iv p0] b (λv d=>b=d/\v=.bool r):=by
 refine fnc 5 [] func197 ntmps197 λg=>cO 1 (otx (od 1 (bE a λf e a=>ocl 4 (zah c (iK 0) (iK 3) e) ?_)));rintro _ _ ⟨rfl,rfl⟩;exact dT 1 (crt (sj a▸rT 2 (.bool f) ⟨rfl,rfl⟩))
def zkj{b:K}{p0:Int}(c:I64 p0){r:Int}(a:zf1 p0=some r):
 fP 168 #[iv p0] b (λv d=>b=d/\v=iv r/\I64 r):=by
 refine fnc 9 [] func168 ntmps168 λh=>cT 1 (cs (cO 1 (bE a λg e a=>ocl 4 (zul c e) ?_)));rintro _ _ ⟨rfl,rfl⟩;refine dT 1 (cc _ a (λf a=>?_) λf a=>?_)
 ·exact cT 1 (crt (zd (sj a▸rT 2 (iv (-1)) ⟨rfl,rfl,(iK (-1))⟩)))
 exact ckt (cT 4 (crt (sj a▸rT 2 (iv (Int.tmod (w64 (p0+2)) 4)) ⟨rfl,rfl,(zoF (by decide) (zp _))⟩)))
def zly{b:K}{p0:LG×LT}{d e:Nat}{g h:OA}{c2 i:Nat}{p1:Int}(l:At b d e [vl g p0.1 c2,vl h p0.2 i])(m:Sl tGlue b g c2 p0.1)(f6:Sl tTile b h i p0.2)(s:I64 p1){r:Int}(a:zat p0 p1=some r):
 fP 169 #[pt d e,iv p1] b (λv j=>b=j/\v=iv r/\I64 r):=by
 refine fnc 16 [] func169 ntmps169 λo=>cT 1 (cs (cT 2 (cc _ a (λn a=>?_) λn a=>?_)))
 ·exact cT 1 (crt (zd (sj a▸rT 4 (iv 0) ⟨rfl,rfl,(iK 0)⟩)))
 exact ckt (cO 3 (oV (l.Y o) 0 (od 2 (bE a λp k a=>oJ m k λt u q f c=>od 1 (oV c.at 1 (dT 1 (crt (sj a▸rT 4 (iv p.2) ⟨rfl,rfl,f⟩))))))))
def zlj{b:K}{p0:LG×LT}{g h:Nat}{w x:OA}{c2 y:Nat}{p1:Int}{i:Int}{j:Int}(k:At b g h [vl w p0.1 c2,vl x p0.2 y])(E:Sl tGlue b w c2 p0.1)(f6:Sl tTile b x y p0.2)(L:I64 p1)(z:I64 i)(M:I64 j){r:Int}(a:zdV p0 p1 i j=some r):
 fP 171 #[pt g h,iv p1,iv i,iv j] b (λv A=>b=A/\v=iv r/\I64 r):=by
 refine fnc 38 [] func171 ntmps171 λo=>cO 1 (otx (od 3 (oV (k.Y o) 1 (od 1 (bE a λN l a=>oJ f6 l λO P F Q R B c=>od 1 (oV c.at 1 (od 1 (bE a λS m a=>oJ B m λT U n d=>oV d.at 0 (dT 1 (cs (cs (cd 13 (dd 2 ?_)))))))))))));refine dd 2 (dV (k.Y o) 1 (dd 1 (bE a λV p a=>dI f6 p λX Y G Z a0 C e=>dd 1 (dV e.at 1 (dd 1 (bE a λa2 q a=>dc 31 (zkj z q) λH=>bE a λa3 s a=>dI C s λa5 a6 I f=>dV f.at 0 (de (dT 1 (cc _ a (λJ a=>?_) λJ a=>?_)))))))))
 ·exact cT 1 (crt (zd (sj a▸rT 8 (iv 0) ⟨rfl,rfl,(iK 0)⟩)))
 refine ckt (cO 2 (bE a λD t a=>ocl 37 (zly ((k.Y o).part 0 2) E f6 n t) ?_));rintro _ _ ⟨rfl,rfl,u⟩;exact dT 1 (crt (sj a▸rT 8 (iv D) ⟨rfl,rfl,u⟩))
def zcq{i:K}{p0:Int×Int}{p1:Int}(j:I64 p0.1)(k:I64 p0.2)(G:I64 p1){r:(Int×Int)}(c:zad p0 p1=some r):
 fP 164 #[.agg #[iv p0.1,iv p0.2],iv p1] i (λv q=>Step [] i q/\v=.agg #[iv r.1,iv r.2]/\I64 r.1/\I64 r.2):=by
 refine fnc 31 [] func164 ntmps164 λo=>csr (oB 104 164001 [iv p0.1,iv p0.2] o λs H o J a=>oA 104 164002 [iv 0,iv 0] o λm A o t b=>?_);have a:=a.Y t;refine ot ?_;refine zm (λZ=>∀(e:Int)(f:Int)(u:Env)(g:K),Step [] i g->I64 e->I64 f->Box (i.H.size,164001) g s [iv e,iv f] 104->Box (i.H.size,164002) g m [iv 0,iv 0] 104->zae e f=some r->cwp prog 31 (sub (zB f164) [1,1]) Z (ups u [(2,pt s 0),(4,pt m 0)]) g) ?_ λl=>?_
 ·intro e f u g o n p a b c;refine csr (oL a.at 0 2 (oS 0 [iv e,iv f] b o λB o I b=>ot (crt ?_)));obtain rfl:=sj c;exact rt [.cell 4 104] [.agg #[iv e,iv f]] ⟨⟨m,0,[iv e,iv f],rfl,rfl,kr,kr,(b.at.part 0 2).2⟩,trivial⟩ (⟨o,rfl,n,p⟩)
 refine cs (cT 1 (cb 0 (cT 2 (cc _ c (λh c=>?_) λh c=>?_))))
 ·refine cr (od 1 (oV a.at 1 (od 2 (oS 1 [iv p0.1,iv (w64 (p0.2+1))] a o λC o w d=>?_))));have b:=b.X w (nm1 (b.ne a (zk kr)));have a:=d;exact oe (zc (za (zl eY (l p0.1 (w64 (p0.2+1))  _ _ o j (zp _) a b c))))
 refine cT 2 (cc _ c (λh c=>?_) λh c=>?_)
 ·refine cr (od 1 (oV a.at 0 (od 2 (oS 0 [iv (w64 (p0.1+1)),iv p0.2] a o λD o x d=>?_))));have b:=b.X x (nm1 (b.ne a (zk kr)));have a:=d;exact oe (zc (za (zl eY (l (w64 (p0.1+1)) p0.2  _ _ o (zp _) k a b c))))
 refine cT 2 (cc _ c (λh c=>?_) λh c=>?_)
 ·refine cr (od 1 (oV a.at 1 (od 2 (oS 1 [iv p0.1,iv (w64 (p0.2 - 1))] a o λE o y d=>?_))));have b:=b.X y (nm1 (b.ne a (zk kr)));have a:=d;exact oe (zc (za (zl eY (l p0.1 (w64 (p0.2 - 1))  _ _ o j (zp _) a b c))))
 refine cT 2 (cc _ c (λh c=>?_) λh c=>?_)
 ·refine cr (od 1 (oV a.at 0 (od 2 (oS 0 [iv (w64 (p0.1 - 1)),iv p0.2] a o λF o z d=>?_))));have b:=b.X z (nm1 (b.ne a (zk kr)));have a:=d;exact oe (zc (za (zl eY (l (w64 (p0.1 - 1)) p0.2  _ _ o (zp _) k a b c))))
 exact ck (zc (za (zl eY (l p0.1 p0.2  _ _ o j k a b c))))
def zhb{f:K}{p0:LP}{h i:Nat}{I:OA}{c2:Nat}{p1:Int×Int}(p:At f h i [vl I p0 c2])(y:Sl tPlaced f I c2 p0)(L:I64 p1.1)(M:I64 p1.2){r:Int}(a:zaZ p0 p1=some r):
 fP 165 #[pt h i,.agg #[iv p1.1,iv p1.2]] f (λv j=>Step [] f j/\v=iv r/\I64 r):=by
 refine fnc 53 [] func165 ntmps165 λo=>csr (oB 104 165001 [iv p1.1,iv p1.2] o λq a4 o s9 b=>od 1 (otx (od 1 (otx (od 3 (oV (p.Y o) 0 (dT 2 (cs (cb 0 ?_)))))))));refine zi 0 (λZ=>∀(d:Int)(g:Env)(e:K),Step [] f e->I64 d->Box (f.H.size,165001) e q [iv p1.1,iv p1.2] 104->zkh p0 p1 d=some r->Z (ups g [(0,pt h i),(3,pt q 0),(5,iv d)]) e) ?_ λR=>?_
 ·intro d g e o z b a;refine zf (za (cs ?_));refine zm (λZ=>∀(l:Bool)(g:Env),zhc d l=some r->cwp prog 53 (sub (zB f165) [1,0,1,1,1,1]) Z (ups g [(5,iv d),(51,.bool l)]) e) ?_ λN=>?_
  ·intro l g a;refine cc _ a (λm a=>?_) λm a=>?_
   ·exact cT 2 (crt (zd (sj a▸rT 4 (iv d) ⟨o,rfl,z⟩)))
   exact ckt (cT 1 (crt (sj a▸rT 4 (iv (-1)) ⟨o,rfl,(iK (-1))⟩)))
  refine cs (cd 17 (dd 4 (dV (p.Y o) 0 (dd 2 ?_))));refine dsp 40 (decide (d<(p0.length:Int))) a ?_ ?_
  ·intro S a;exact ds 41 (ds 42 (ds 43 (ds 44 (ds 45 (ds 46 (ds 47 (ds 48 (ds 49 (de (os 50 (dT 1 (zl eY (N false  _  a)))))))))))))
  intro S a;exact dd 3 (dV (p.Y o) 0 (dd 1 (bE a λk A a=>dI (y.X o) A λa5 a6 U V X s=>dd 1 (dL s.at 0 2 (dL b.at 0 2 (de (oq 50 (.bool (decide (k.1.1=p1.1)&&decide (k.1.2=p1.2))) (λ_=>zgH (T:=104) (k1:=.i64) (k2:=.i64) kr kr) (dT 1 (zl eY (N (decide (k.1.1=p1.1)&&decide (k.1.2=p1.2))  _  a))))))))))
 refine lB (J:=λc Y j=>(∃g,Y=ups g [(0,pt h i),(3,pt q 0),(5,iv c.1),(6,iv c.2)])/\Step [] f j/\I64 c.1/\I64 c.2/\Box (f.H.size,165001) j q [iv p1.1,iv p1.2] 104) kr a ⟨⟨_,eY⟩,o,(iK 0),(zf6 (y.X o).most),b⟩ ?_;rintro c _ a0 ⟨⟨g,rfl⟩,o,n,C,b⟩ Q a u;refine cs (cT 3 (cc _ a (λm a=>?_) λm a=>?_))
 ·refine ckt (cb 1 (cT 5 (cs (cd 9 (dd 3 (dV (p.Y o) 0 (dd 1 (bE a λa7 D a=>dI (y.X o) D λa8 a9 E G a2 w=>dd 1 (dL w.at 0 2 (dL b.at 0 2 (de (bE a λb0 H a=>oC o (zgh E G L M H) ?_))))))))))));rintro a3 P o _ rfl;have b:=b.Y P;refine ot (cc _ a (λm a=>?_) λm a=>?_)
  ·exact cr (od 3 (oe (zc (ze (sj a).symm ⟨⟨_,eY⟩,o,(zp _),C,b⟩))))
  exact cr (od 2 (oe (zc (ze (sj a).symm ⟨⟨_,eY⟩,o,n,(zp _),b⟩))))
 exact cx 0 (zg (zh (zo eY (R c.1  _ _ o n b (u _ a)))))
def zqC{b:K}{p0:LP}{c d:Nat}{n:OA}{c2:Nat}{p1:Int}{e:Int}(p:At b c d [vl n p0 c2])(q:Sl tPlaced b n c2 p0)(A:I64 p1)(s:I64 e){r:Int}(a:zg9 p0 p1 e=some r):
 fP 179 #[pt c d,iv p1,iv e] b (λv t=>Step [] b t/\v=iv r/\I64 r):=by
 refine fnc 19 [] func179 ntmps179 λo=>cO 1 (otx (od 4 (oV (p.Y o) 0 (od 1 (bE a λE u a=>oJ q u λF G f g x h=>od 1 (oL h.at 0 2 (od 1 (bE a λB i a=>oC o (zcq f g s i) ?_))))))));rintro y C o _ ⟨rfl,j,k⟩;refine bE a λw l a=>oC o (zhb ((p.Y o).part 0 1) (q.X o) j k l) ?_;rintro z D o _ ⟨rfl,m⟩;exact dT 1 (crt (sj a▸rT 6 (iv w) ⟨o,rfl,m⟩))
def zkc{d:K}{p0:LG×LT}{h i:Nat}{a1 a4 a7:OA}{c2 c5 c8:Nat}{p1:LP}{j k:Nat}(m0:At d h i [vl a1 p0.1 c2,vl a4 p0.2 c5])(f3:Sl tGlue d a1 c2 p0.1)(f6:Sl tTile d a4 c5 p0.2)(m1:At d j k [vl a7 p1 c8])(Y:Sl tPlaced d a7 c8 p1){r:LB}(a:zen p0 p1=some r):
 fP 146 #[pt h i,pt j k] d (λv g=>Step [] d g/\∃(U:OA)(V:Nat),v=vl U r V/\Sl z6 g U V r):=by
 refine fnc 59 [] func146 ntmps146 λo=>cO 1 (otx (oT (t:=z6) 258 146001 true [] o rfl λf4 e1 o f5 c1=>dT 1 (cs (cT 1 (cb 0 ?_)))));refine zi 0 (λZ=>∀(p:LB)(s:OA)(u:Nat)(e:Env)(l:K),Step [] d l->Gr z6 true (d.H.size,146001) l 258 s u p->zke p=some r->Z (ups e [(5,vl s p u)]) l) ?_ λJ1=>?_
 ·intro p s u e l o c3 a;exact zf (za (cT 2 (crt (sj a▸rT 4 (vl s p u) ⟨o,_,_,rfl,c3.sl⟩))))
 refine lB (J:=λb E' g=>∃(z:OA)(A:Nat),(∃e,E'=ups e [(0,pt h i),(1,pt j k),(5,vl z b.1 A),(6,iv b.2)])/\Step [] d g/\Gr z6 true (d.H.size,146001) g 258 z A b.1/\I64 b.2) kr a ⟨_,_,⟨_,eY⟩,o,c1,(iK 0)⟩ ?_;rintro b _ e3 ⟨z,A,⟨e,rfl⟩,o,X,B⟩ N a O;refine cs (cO 4 (oV (m1.Y o) 0 (dT 2 (cc _ a (λq a=>?_) λq a=>?_))))
 ·refine ckt (cs (cb 1 (cT 1 (cb 2 ?_))));refine zi 2 (λZ=>∀(w:LB)(C:OA)(D:Nat)(e:Env)(m:K),Step [] d m->Gr z6 true (d.H.size,146001) m 258 C D w->zkd b w=some N->Z (ups e [(0,pt h i),(1,pt j k),(5,vl C w D),(6,iv b.2)]) m) ?_ λJ2=>?_
  ·intro w C D e m o c6 a;exact zf (zc (za (cr (od 3 (oe (ze (sj a).symm ⟨_,_,⟨_,eY⟩,o,c6,(zp _)⟩))))))
  refine lB (J:=λc E' g=>∃(E:OA)(G:Nat),(∃e,E'=ups e [(0,pt h i),(1,pt j k),(5,vl E c.1 G),(6,iv b.2),(7,iv c.2)])/\Step [] d g/\Gr z6 true (d.H.size,146001) g 258 E G c.1/\I64 c.2) kr a ⟨_,_,⟨_,eY⟩,o,X,(iK 1)⟩ ?_;rintro c _ e5 ⟨E,G,⟨e,rfl⟩,o,f,H⟩ Q a R;refine cs (cT 2 (cc _ a (λq a=>?_) λq a=>?_))
  ·refine ckt ?_;refine zm (λZ=>∀(y:LB)(I:OA)(L:Nat)(e:Env)(n:K),Step [] d n->Gr z6 true (d.H.size,146001) n 258 I L y->zc1 c y=some Q->cwp prog 59 (sub (zB f146) [1,1,0,0,1,0,0,1,0,0,1,0,1,1]) Z (ups e [(0,pt h i),(1,pt j k),(5,vl I y L),(6,iv b.2),(7,iv c.2)]) n) ?_ λJ3=>?_
   ·intro y I L e n o c9 a;exact cr (od 3 (oe (ze (sj a).symm ⟨_,_,⟨_,eY⟩,o,c9,(zp _)⟩)))
   refine cs (cb 3 (cO 3 (bE a λd0 a6 a=>oC o (zqC ((m1.Y o).part 0 1) (Y.X o) B H a6) ?_)));rintro e6 d2 o _ ⟨rfl,a8⟩;have f:=f.Y d2;refine dT 1 (cs (cT 2 (cc _ a (λq a=>?_) λq a=>?_)))
   ·exact cx 3 (zg (zf (za (zl eY (J3 c.1 _ _ _ _ o f a)))))
   refine ckt (cs (cd 18 (dd 4 (dV (m1.Y o) 0 (dd 1 (bE a λf7 a9 a=>dI (Y.X o) a9 λf8 g0 e7 e8 b0 S=>dd 1 (dV S.at 2 (dd 4 (dV (m1.Y o) 0 (dd 1 (bE a λg1 b1 a=>dI (Y.X o) b1 λg2 g3 e9 f0 b2 T=>dd 1 (dV T.at 2 (de ?_)))))))))))));refine bE a λd3 b3 a=>ocl 48 (zlj ((m0.Y o).part 0 2) (f3.X o) (f6.X o) b0 H b2 b3) ?_;rintro _ _ ⟨rfl,rfl,b4⟩;refine od 1 (otx (dT 2 (cc _ a (λq a=>?_) λq a=>?_)))
   ·refine cr (od 5 (oT (t:=z6) 258 146002 true [(b.2,(d0,d3))] o ⟨_,_,rfl,⟨_,_,rfl,⟨rfl,B⟩,⟨_,_,rfl,⟨rfl,a8⟩,⟨rfl,b4⟩⟩⟩,rfl⟩ λg4 f1 o d4 d5=>?_));have f:=f.Y d4;refine bE a λd6 b5 a=>oP 231 f d5.sl o.1 b5 λg5 g6 f2 d7 d8 hw=>?_;clear hw;have o:=o.trG (f.own (gl _)) d7;exact od 1 (oe (zc (za (zl eY (J3 d6 _ _ _ _ o d8 a)))))
   exact ck (zc (za (zl eY (J3 c.1 _ _ _ _ o f a))))
  exact cx 2 (zg (zh (zo eY (J2 c.1 _ _ _ _ o f (R _ a)))))
 exact cx 0 (zg (zh (zo eY (J1 b.1 _ _ _ _ o X (O _ a)))))
def zmw{b:K}{p0:Int}{p1:Int}(c:I64 p0)(d:I64 p1){r:Int}(a:zdW p0 p1=some r):
 fP 142 #[iv p0,iv p1] b (λv e=>b=e/\v=iv r/\I64 r):=by
 refine fnc 10 [] func142 ntmps142 λg=>cT 1 (cs (cT 3 (cc _ a (λf a=>?_) λf a=>?_)))
 ·exact cT 2 (crt (zd (sj a▸rT 4 (iv p0) ⟨rfl,rfl,c⟩)))
 exact ckt (cT 2 (crt (sj a▸rT 4 (iv p1) ⟨rfl,rfl,d⟩)))
def zpI{b:K}{p0:Int}{p1:Int}(c:I64 p0)(d:I64 p1){r:Int}(a:zgB p0 p1=some r):
 fP 193 #[iv p0,iv p1] b (λv e=>b=e/\v=iv r/\I64 r):=by
 refine fnc 10 [] func193 ntmps193 λg=>cT 1 (cs (cT 3 (cc _ a (λf a=>?_) λf a=>?_)))
 ·exact cT 2 (crt (zd (sj a▸rT 4 (iv p0) ⟨rfl,rfl,c⟩)))
 exact ckt (cT 2 (crt (sj a▸rT 4 (iv p1) ⟨rfl,rfl,d⟩)))
def zrJ{e:K}{p0:Int}{p1:LB}{a2:OA}{D:Nat}(q8:I64 p0)(f4:Sl z6 e a2 D p1){r:LM}(a:zjd p0 p1=some r):
 fP 192 #[iv p0,vl a2 p1 D] e (λv h=>Step [] e h/\∃(a5:OA)(c6:Nat),v=vl a5 r c6/\Sl (tSl tI64) h a5 c6 r):=by
 refine fnc 101 [] func192 ntmps192 λo=>cO 1 (otx (oT (t:=tI64) 2 192001 false [] o rfl λq9 r0 o s9 j7=>dT 1 (cs (cT 1 (cb 0 ?_)))));refine zi 0 (λZ=>∀(S:LI)(b5:OA)(b6:Nat)(d:Env)(E:K),Step [] e E->Gr tI64 false (e.H.size,192001) E 2 b5 b6 S->zjc p0 p1 S=some r->Z (ups d [(0,iv p0),(1,vl a2 p1 D),(5,vl b5 S b6)]) E) ?_ λJ1=>?_
 ·intro S b5 b6 d E o j8 a;refine zf (za (cs (cT 1 (cb 2 ?_))));refine zi 2 (λZ=>∀(j:LI)(l:OA)(m:Nat)(d:Env)(G:K),Step [] e G->Gr tI64 false (e.H.size,192001) G 2 l m j->zjb p0 j=some r->Z (ups d [(0,iv p0),(5,vl l j m)]) G) ?_ λJ2=>?_
  ·intro j l m d G o b a;refine zf (za (csr (oT (t:=(tSl tI64)) 32 192003 true [] o rfl λr1 n7 o j9 k0=>?_)));have b:=b.Y j9;refine dT 1 (cs (cT 1 (cb 6 ?_)));refine zi 6 (λZ=>∀(T:LM)(a6:OA)(a7:Nat)(d:Env)(H:K),Step [] e H->Gr (tSl tI64) true (e.H.size,192003) H 32 a6 a7 T->zja T=some r->Z (ups d [(11,vl a6 T a7)]) H) ?_ λJ3=>?_
   ·intro T a6 a7 d H o k1 a;exact zf (za (cT 2 (crt (sj a▸rT 4 (vl a6 T a7) ⟨o,_,_,rfl,k1.sl⟩))))
   refine lB (J:=λc I h=>∃(s:OA)(u:Nat),(∃d,I=ups d [(0,iv p0),(5,vl l j m),(11,vl s c.1 u),(12,iv c.2)])/\Step [] e h/\Gr (tSl tI64) true (e.H.size,192003) h 32 s u c.1/\I64 c.2/\Gr tI64 false (e.H.size,192001) h 2 l m j) kr a ⟨_,_,⟨_,eY⟩,o,k0,(iK 0),b⟩ ?_;rintro c _ n9 ⟨s,u,⟨d,rfl⟩,o,f,h1,b⟩ a8 a e8;refine cs (cT 3 (cc _ a (λp a=>?_) λp a=>?_))
   ·refine ckt ?_;refine zm (λZ=>∀(a9:LM)(b7:OA)(b8:Nat)(d:Env)(C:K),Step [] e C->Gr (tSl tI64) true (e.H.size,192003) C 32 b7 b8 a9->Gr tI64 false (e.H.size,192001) C 2 l m j->zdT c a9=some a8->cwp prog 101 (sub (zB f192) [1,1,0,0,1,0,1,1,1,1,1]) Z (ups d [(0,iv p0),(5,vl l j m),(11,vl b7 a9 b8),(12,iv c.2)]) C) ?_ λJ4=>?_
    ·intro a9 b7 b8 d C o k4 b a;exact cr (od 3 (oe (ze (sj a).symm ⟨_,_,⟨_,eY⟩,o,k4,(zp _),b⟩)))
    refine cs (cb 7 (cs (cO 2 (bE a λr2 h2 a=>oG b h2 λ_ _ o0 e9=>oV e9 0 (dT 2 (cc _ a (λp a=>?_) λp a=>?_))))))
    ·exact cx 7 (zg (zf (za (zl eY (J4 c.1 _ _ _ _ o f b a)))))
    refine ckt (csr (oT (t:=tI64) 2 192004 true [] o rfl λr3 o2 o k5 k6=>?_));obtain⟨b,f⟩:=sQ2 k5 b f;refine dT 1 (cs (cT 2 (cb 8 ?_)));refine zi 8 (λZ=>∀(U:LI)(b9:OA)(c0:Nat)(d:Env)(w:K),Step [] e w->Gr tI64 true (e.H.size,192004) w 2 b9 c0 U->Gr tI64 false (e.H.size,192001) w 2 l m j->Gr (tSl tI64) true (e.H.size,192003) w 32 s u c.1->zi9 c U=some a8->Z (ups d [(0,iv p0),(5,vl l j m),(11,vl s c.1 u),(12,iv c.2),(13,vl b9 U c0)]) w) ?_ λJ5=>?_
    ·intro U b9 c0 d w o k7 b f a;refine zf (za (cr (od 2 (oT (t:=(tSl tI64)) 32 192006 true [U] o ⟨_,_,rfl,⟨_,_,rfl,k7.sl⟩,rfl⟩ λr4 o4 o k8 k9=>?_))));obtain⟨b,f⟩:=sQ2 k8 b f;refine bE a λl0 h3 a=>oP 33 f k9.sl o.1 h3 λr5 r6 o5 g9 l1 hw=>?_;clear hw;have o:=o.trG (f.own (gl _)) g9;have b:=b.X g9 (b.ng f (zk kr));exact od 1 (oe (zc (za (zl eY (J4 l0 _ _ _ _ o l1 b a)))))
    refine lB (J:=λk I h=>∃(c1:OA)(c2:Nat),(∃d,I=ups d [(0,iv p0),(5,vl l j m),(11,vl s c.1 u),(12,iv c.2),(13,vl c1 k.1 c2),(14,iv k.2)])/\Step [] e h/\Gr tI64 true (e.H.size,192004) h 2 c1 c2 k.1/\I64 k.2/\Gr tI64 false (e.H.size,192001) h 2 l m j/\Gr (tSl tI64) true (e.H.size,192003) h 32 s u c.1) kr a ⟨_,_,⟨_,eY⟩,o,k6,h1,b,f⟩ ?_;rintro k _ o6 ⟨c1,c2,⟨d,rfl⟩,o,z,h5,b,f⟩ f1 a f2;refine cs (cT 3 (cc _ a (λp a=>?_) λp a=>?_))
    ·refine ckt ?_;refine zm (λZ=>∀(b0:LI)(c4:OA)(c5:Nat)(d:Env)(y:K),Step [] e y->Gr tI64 true (e.H.size,192004) y 2 c4 c5 b0->Gr tI64 false (e.H.size,192001) y 2 l m j->Gr (tSl tI64) true (e.H.size,192003) y 32 s u c.1->zgg k b0=some f1->cwp prog 101 (sub (zB f192) [1,1,0,0,1,0,1,1,0,0,1,0,0,1,0,1,1,1,1,1]) Z (ups d [(0,iv p0),(5,vl l j m),(11,vl s c.1 u),(12,iv c.2),(13,vl c4 b0 c5),(14,iv k.2)]) y) ?_ λJ6=>?_
     ·intro b0 c4 c5 d y o l4 b f a;exact cr (od 3 (oe (ze (sj a).symm ⟨_,_,⟨_,eY⟩,o,l4,(zp _),b,f⟩)))
     refine cs (cb 9 (cO 2 (bE a λr7 h6 a=>oG b h6 λ_ _ o7 f3=>oV f3 0 (dT 2 (cc _ a (λp a=>?_) λp a=>?_)))))
     ·refine cr (od 2 (oT (t:=tI64) 2 192005 true [k.2] o ⟨_,_,rfl,⟨rfl,h5⟩,rfl⟩ λo8 o9 o l5 h7=>?_));obtain⟨b,f,z⟩:=sQ3 l5 b f z;refine bE a λh8 f5 a=>oP 32 z h7.sl o.1 f5 λp2 p3 l9 X h9 hw=>?_;clear hw;have o:=o.trG (z.own (gl _)) X;have b:=b.X X (b.ng z (zk kr));have f:=f.X X (f.ng z (zk kr));exact od 1 (oe (zc (za (zl eY (J6 h8 _ _ _ _ o h9 b f a)))))
     exact ck (zc (za (zl eY (J6 k.1 _ _ _ _ o z b f a))))
    exact cx 8 (zg (zh (zo eY (J5 k.1 _ _ _ _ o z b f (f2 _ a)))))
   exact cx 6 (zg (zh (zo eY (J3 c.1 _ _ _ _ o f (e8 _ a)))))
  refine lB (J:=λg I h=>∃(c8:OA)(c9:Nat),(∃d,I=ups d [(0,iv p0),(1,vl a2 p1 D),(5,vl c8 g.1 c9),(7,iv g.2)])/\Step [] e h/\Gr tI64 false (e.H.size,192001) h 2 c8 c9 g.1/\I64 g.2) kr a ⟨_,_,⟨_,eY⟩,o,j8,(iK 0)⟩ ?_;rintro g _ m0 ⟨c8,c9,⟨d,rfl⟩,o,b1,p4⟩ d0 a d2;refine cs (cT 4 (cc _ a (λp a=>?_) λp a=>?_))
  ·refine ckt (cs (cb 3 (cO 3 (bE a λi1 b2 a=>oJ (f4.X o) b2 λp5 p6 m1 m2 m3 d3=>od 1 (oV d3.at 0 (bE a λL f7 a=>oG b1 f7 λ_ _ b3 d4=>oV d4 0 (od 1 (otx (od 3 (bE a λi2 M a=>?_))))))))));have d5:i1=i2:=sj (b2.symm.trans M);subst d5;have l6:=M;refine oJ (f4.X o) M λp7 p8 m4 m5 m6 d6=>od 1 (oV d6.at 1 (bE a λN f8 a=>oG b1 f8 λ_ _ b4 d7=>oV d7 0 (od 1 (otx (dT 1 (cb 4 ?_))))));refine zi 4 (λZ=>∀(O:LI)(Y:OA)(a0:Nat)(d:Env)(A:K),Step [] e A->Gr tI64 false (e.H.size,192001) A 2 Y a0 O->zi8 g O=some d0->Z (ups d [(0,iv p0),(1,vl a2 p1 D),(5,vl Y O a0),(7,iv g.2)]) A) ?_ λJ7=>?_
   ·intro O Y a0 d A o i3 a;exact zf (zc (za (cr (od 3 (oe (ze (sj a).symm ⟨_,_,⟨_,eY⟩,o,i3,(zp _)⟩))))))
   refine lB (J:=λi I h=>∃(P:OA)(Q:Nat),(∃d,I=ups d [(0,iv p0),(1,vl a2 p1 D),(5,vl P i.1 Q),(7,iv g.2),(8,iv L),(9,iv N),(10,iv i.2)])/\Step [] e h/\Gr tI64 false (e.H.size,192001) h 2 P Q i.1/\I64 i.2) kr a ⟨_,_,⟨_,eY⟩,o,b1,(iK 0)⟩ ?_;rintro i _ m7 ⟨P,Q,⟨d,rfl⟩,o,q,m8⟩ d9 a e0;refine cs (cT 4 (cc _ a (λp a=>?_) λp a=>?_))
   ·refine ckt ?_;refine zm (λZ=>∀(R:LI)(a1:OA)(a3:Nat)(d:Env)(B:K),Step [] e B->Gr tI64 false (e.H.size,192001) B 2 a1 a3 R->zgf i R=some d9->cwp prog 101 (sub (zB f192) [1,1,0,0,1,1,1,0,0,1,0,0,1,0,1,1,1]) Z (ups d [(0,iv p0),(1,vl a2 p1 D),(5,vl a1 R a3),(7,iv g.2),(8,iv L),(9,iv N),(10,iv i.2)]) B) ?_ λJ8=>?_
    ·intro R a1 a3 d B o i5 a;exact cr (od 3 (oe (ze (sj a).symm ⟨_,_,⟨_,eY⟩,o,i5,(zp _)⟩)))
    refine cs (cb 5 (cs (cd 7 (dd 2 (bE a λq0 g0 a=>dG q g0 λ_ _ m9 e1=>dV e1 0 (dd 2 (bE a λq1 g1 a=>dc 59 (zmw b3 b4 g1) λn0=>de (dT 1 (cc _ a (λp a=>?_) λp a=>?_)))))))))
    ·refine cr (od 4 (bE a λq2 g2 a=>ocl 65 (zpI b3 b4 g2) ?_));rintro _ _ ⟨rfl,rfl,g3⟩;refine bE a λq3 g4 a=>bE a λe2 g5 a=>oW q g4 g5 ⟨rfl,g3⟩ λ_ n1 i6 g6 a4=>?_;have o:=o.trG (q.own (gl _)) i6;have q:=g6;exact zT (eA 10 (v:=iv i.2) (eA 9 (v:=iv N) (eA 8 (v:=iv L) (eA 7 (v:=iv g.2) (zb (t:=5) (v:=vl P e2 Q) (eA 1 (v:=vl a2 p1 D) (eA 0 (v:=iv p0) rfl)) (by unfold vl;rw[a4];kernel_rfl)))))) (oe (zc (za (zl eY (J8 e2 _ _ _ _ o q a)))))
    exact ck (zc (za (zl eY (J8 i.1 _ _ _ _ o q a))))
   exact cx 4 (zg (zh (zo eY (J7 i.1 _ _ _ _ o q (e0 _ a)))))
  exact cx 2 (zg (zh (zo eY (J2 g.1 _ _ _ _ o b1 (d2 _ a)))))
 refine lB (J:=λn I h=>∃(e4:OA)(e5:Nat),(∃d,I=ups d [(0,iv p0),(1,vl a2 p1 D),(5,vl e4 n.1 e5),(6,iv n.2)])/\Step [] e h/\Gr tI64 false (e.H.size,192001) h 2 e4 e5 n.1/\I64 n.2) kr a ⟨_,_,⟨_,eY⟩,o,j7,(iK 0)⟩ ?_;rintro n _ n2 ⟨e4,e5,⟨d,rfl⟩,o,V,i8⟩ l8 a e6;refine cs (cT 3 (cc _ a (λp a=>?_) λp a=>?_))
 ·refine ckt (cs (cb 1 (cr (od 2 (oT (t:=tI64) 2 192002 true [n.2] o ⟨_,_,rfl,⟨rfl,i8⟩,rfl⟩ λq4 n3 o i9 j1=>?_)))));have V:=V.Y i9;refine bE a λq5 g8 a=>oP 32 V j1.sl o.1 g8 λq6 q7 n4 j2 j3 hw=>?_;clear hw;have o:=o.trG (V.own (gl _)) j2;exact od 1 (oe (zc (za (cr (od 3 (oe (ze (sj a).symm ⟨_,_,⟨_,eY⟩,o,j3,(zp _)⟩)))))))
 exact cx 0 (zg (zh (zo eY (J1 n.1 _ _ _ _ o V (e6 _ a)))))
def zrH{i:K}{p0:Int}{p1:LB}{a2:OA}{y:Nat}{p2:Int}(l3:I64 p0)(f4:Sl z6 i a2 y p1)(t6:I64 p2){r:Int×LB}(a:zi6 p0 p1 p2=some r):
 fP 161 #[iv p0,vl a2 p1 y,iv p2] i (λv h=>Step [] i h/\∃(a7:OA)(c8:Nat),v=.tuple #[iv r.1,vl a7 r.2 c8]/\I64 r.1/\Sl z6 h a7 c8 r.2):=by
 refine fnc 113 [] func161 ntmps161 λo=>cO 2 (otx (oT (t:=z6) 258 161001 true [] o rfl λt7 p3 o t8 l6=>dT 1 (cs (cT 1 (cb 0 ?_)))));refine zi 0 (λZ=>∀(b1:LB)(c4:OA)(c5:Nat)(g:Env)(O:K),Step [] i O->Gr z6 true (i.H.size,161001) O 258 c4 c5 b1->zi5 p0 p1 b1=some r->Z (ups g [(0,iv p0),(1,vl a2 p1 y),(8,vl c4 b1 c5)]) O) ?_ λJ1=>?_
 ·intro b1 c4 c5 g O o l7 a;refine zf (za (cO 2 (bE a λf i1 a=>oC o (zrJ l3 l7.sl i1) ?_)));rintro p5 t9 o _ ⟨k,n,rfl,b⟩;refine od 1 (otx (od 1 (bE a λl8 i2 a=>zd5 (d:=43) (T:=32) (e:=2) (t:=tI64) (pub:=false) (τ:=(i.H.size,161003)) (bytes:=8) (k1:=.i64) (k2:=.i64) (m:=p0) (zs:=[iv 0]) (z:=0) kr kr kr kr ⟨rfl,(iK 0)⟩ i2 o.1 λu0 p6 h7 l9=>?_)));have o:=o.tr0 h7;have b:=b.X h7;refine dT 1 (cs (cT 1 (cb 2 ?_)));refine zi 2 (λZ=>∀(u:LI)(C:OA)(D:Nat)(g:Env)(E:K),Step [] i E->Gr tI64 false (i.H.size,161003) E 2 C D u->Sl (tSl tI64) E k n f->zi4 p1 f u=some r->Z (ups g [(1,vl a2 p1 y),(10,vl k f n),(11,vl C u D)]) E) ?_ λJ2=>?_
  ·intro u C D g E o p b a;refine zf (za (csr (oT (t:=z6) 258 161004 true [] o rfl λu1 p8 o m0 m1=>?_)));obtain⟨b,p⟩:=sQ2 m0 b p;refine dT 1 (cs (cT 1 (cb 6 ?_)));refine zi 6 (λZ=>∀(X:LB)(b2:OA)(b3:Nat)(g:Env)(G:K),Step [] i G->Gr z6 true (i.H.size,161004) G 258 b2 b3 X->Sl (tSl tI64) G k n f->zi3 f X=some r->Z (ups g [(10,vl k f n),(14,vl b2 X b3)]) G) ?_ λJ3=>?_
   ·intro X b2 b3 g G o m2 b a;refine zf (za (cT 5 (crt ?_)));obtain rfl:=sj a;exact rt [.tmp 6,.tmp 7] [iv (f.length:Int),vl b2 X b3] ⟨kr,kr,trivial⟩ (⟨o,_,_,rfl,(zf6 b.most),m2.sl⟩)
   refine lB (J:=λq Y h=>∃(b4:OA)(b5:Nat),(∃g,Y=ups g [(1,vl a2 p1 y),(10,vl k f n),(11,vl C u D),(14,vl b4 q.1 b5),(15,iv q.2)])/\Step [] i h/\Gr z6 true (i.H.size,161004) h 258 b4 b5 q.1/\I64 q.2/\Sl (tSl tI64) h k n f/\Gr tI64 false (i.H.size,161003) h 2 C D u) kr a ⟨_,_,⟨_,eY⟩,o,m1,(iK 0),b,p⟩ ?_;rintro q _ q0 ⟨b4,b5,⟨g,rfl⟩,o,H,q1,b,p⟩ f6 a f7;refine cs (cT 4 (cc _ a (λI a=>?_) λI a=>?_))
   ·refine ckt ?_;refine zm (λZ=>∀(b6:LB)(c6:OA)(c7:Nat)(g:Env)(A:K),Step [] i A->Gr z6 true (i.H.size,161004) A 258 c6 c7 b6->Sl (tSl tI64) A k n f->Gr tI64 false (i.H.size,161003) A 2 C D u->zgd q b6=some f6->cwp prog 113 (sub (zB f161) [1,1,0,0,1,0,1,1,1,1,1,1,1]) Z (ups g [(1,vl a2 p1 y),(10,vl k f n),(11,vl C u D),(14,vl c6 b6 c7),(15,iv q.2)]) A) ?_ λJ4=>?_
    ·intro b6 c6 c7 g A o m5 b p a;exact cr (od 3 (oe (ze (sj a).symm ⟨_,_,⟨_,eY⟩,o,m5,(zp _),b,p⟩)))
    refine cs (cb 7 (cO 3 (bE a λM a0 a=>oJ (f4.X o) a0 λu2 u3 q2 q3 q4 f8=>od 1 (oV f8.at 0 (bE a λh8 i4 a=>oG p i4 λ_ _ c9 f9=>oV f9 0 (od 1 (otx (od 3 (bE a λm6 a1 a=>?_)))))))));have g0:M=m6:=sj (a0.symm.trans a1);subst g0;have n4:=a1;refine oJ (f4.X o) a1 λu4 u5 q5 q6 q7 g1=>od 1 (oV g1.at 1 (bE a λh9 i5 a=>oG p i5 λ_ _ d0 g2=>oV g2 0 (od 1 (otx (dT 3 (cc _ a (λI a=>?_) λI a=>?_))))))
    ·refine cx_ 14 [0,1,2,4,5,7,8,9,10,11,3,6,12,13] [3,6,13] 14 [] (xp 95 (vl b4 q.1 b5) (xp 96 (iv h8) (xp 97 (iv h9) (xp 99 (iv h8) (xp 100 (iv h9) (xp 102 (vl a2 p1 y) (xp 103 (iv q.2) (bE a λm7 a3 a=>?_))))))));have g3:M=m7:=sj (a0.symm.trans a3);subst g3;have n5:=a3;refine xI (f4.X o) a3 λm8 m9 q8 q9 i6 g4=>xp 105 (pt m8 (m9+2)) (xV g4.at 2 (bE a λb7 i7 a=>xcl 98 (zpI c9 d0 i7) ?_));rintro _ _ ⟨rfl,rfl,i8⟩;refine⟨Step.refl _ _,?_⟩;refine bE a λb8 i9 a=>xcl 101 (zmw c9 d0 i9) ?_;rintro _ _ ⟨rfl,rfl,j1⟩;refine⟨Step.refl _ _,?_⟩;refine xp 107 (.agg #[iv b7,iv b8,iv M.2.2]) (ziW (d:=108) (T:=231) (e:=258) (t:=z6) (pub:=true) (τ:=(i.H.size,161005)) (len:=1) (l:=[(b7,(b8,M.2.2))]) (parts:=#[(0,.agg #[iv b7,iv b8,iv M.2.2])]) (cs:=[iv b7,iv b8,iv M.2.2]) kr kr kr kr o.1 rfl ⟨_,_,rfl,⟨_,_,rfl,⟨rfl,i8⟩,⟨_,_,rfl,⟨rfl,j1⟩,⟨rfl,i6⟩⟩⟩,rfl⟩ kr λr0 n6 d2 j2=>?_);have o:=o.tr0 d2;obtain⟨b,p,H⟩:=sQ3 d2 b p H;refine xe (bE a λj3 g5 a=>oP 231 H j2.sl o.1 g5 λr1 r2 n7 a4 j4 hw=>?_);clear hw;have o:=o.trG (H.own (gl _)) a4;have b:=b.X a4;have p:=p.X a4 (p.ng H (zk kr));exact od 1 (oe (zc (za (zl eY (J4 j3 _ _ _ _ o j4 b p a)))))
    exact ck (zc (za (zl eY (J4 q.1 _ _ _ _ o H b p a))))
   exact cx 6 (zg (zh (zo eY (J3 q.1 _ _ _ _ o H b (f7 _ a)))))
  refine lB (J:=λc Y h=>∃(d4:OA)(d5:Nat),(∃g,Y=ups g [(1,vl a2 p1 y),(10,vl k f n),(11,vl d4 c.1 d5),(12,iv c.2)])/\Step [] i h/\Gr tI64 false (i.H.size,161003) h 2 d4 d5 c.1/\I64 c.2/\Sl (tSl tI64) h k n f) kr a ⟨_,_,⟨_,eY⟩,o,l9,(iK 0),b⟩ ?_;rintro c _ n8 ⟨d4,d5,⟨g,rfl⟩,o,i0,j6,b⟩ d6 a d7;refine cs (cT 4 (cc _ a (λI a=>?_) λI a=>?_))
  ·refine ckt (cs (cb 3 (cT 1 (cb 4 ?_))));refine zi 4 (λZ=>∀(P:LI)(a5:OA)(a6:Nat)(g:Env)(w:K),Step [] i w->Gr tI64 false (i.H.size,161003) w 2 a5 a6 P->Sl (tSl tI64) w k n f->znd c P=some d6->Z (ups g [(1,vl a2 p1 y),(10,vl k f n),(11,vl a5 P a6),(12,iv c.2)]) w) ?_ λJ5=>?_
   ·intro P a5 a6 g w o j7 b a;exact zf (zc (za (cr (od 3 (oe (ze (sj a).symm ⟨_,_,⟨_,eY⟩,o,j7,(zp _),b⟩))))))
   refine lB (J:=λs Y h=>∃(Q:OA)(R:Nat),(∃g,Y=ups g [(1,vl a2 p1 y),(10,vl k f n),(11,vl Q s.1 R),(12,iv c.2),(13,iv s.2)])/\Step [] i h/\Gr tI64 false (i.H.size,161003) h 2 Q R s.1/\I64 s.2/\Sl (tSl tI64) h k n f) kr a ⟨_,_,⟨_,eY⟩,o,i0,(iK 0),b⟩ ?_;rintro s _ n9 ⟨Q,R,⟨g,rfl⟩,o,L,o0,b⟩ n0 a d9;refine cs (cO 3 (bE a λj9 b9 a=>oJ b b9 λr4 r5 r6 r7 r8 e0=>oV e0.at 0 (dT 2 (cc _ a (λI a=>?_) λI a=>?_))))
   ·refine ckt (cs (cb 5 (cr (od 3 (bE a λk0 S a=>?_)))));have e1:j9=k0:=sj (b9.symm.trans S);subst e1;have n1:=S;refine oJ b S λr9 s1 s2 s3 k3 e2=>oV e2.at 0 (od 1 (bE a λs4 g8 a=>oJ k3 g8 λs5 s6 o2 e3=>oV e3.at 0 (od 1 (bE a λs7 g9 a=>bE a λk4 h0 a=>oW L g9 h0 ⟨rfl,j6⟩ λ_ o3 e4 h1 a8=>?_))));have o:=o.trG (L.own (gl _)) e4;have b:=b.X e4;have L:=h1;exact zT (eA 13 (v:=iv s.2) (eA 12 (v:=iv c.2) (zb (t:=11) (v:=vl Q k4 R) (eA 10 (v:=vl k f n) (eA 1 (v:=vl a2 p1 y) rfl)) (by unfold vl;rw[a8];kernel_rfl)))) (oe (zc (za (cr (od 3 (oe (ze (sj a).symm ⟨_,_,⟨_,eY⟩,o,L,(zp _),b⟩)))))))
   exact cx 4 (zg (zh (zo eY (J5 s.1 _ _ _ _ o L b (d9 _ a)))))
  exact cx 2 (zg (zh (zo eY (J2 c.1 _ _ _ _ o i0 b (d7 _ a)))))
 refine lB (J:=λj Y h=>∃(e6:OA)(e7:Nat),(∃g,Y=ups g [(0,iv p0),(1,vl a2 p1 y),(2,iv p2),(8,vl e6 j.1 e7),(9,iv j.2)])/\Step [] i h/\Gr z6 true (i.H.size,161001) h 258 e6 e7 j.1/\I64 j.2) kr a ⟨_,_,⟨_,eY⟩,o,l6,(iK 0)⟩ ?_;rintro j _ o4 ⟨e6,e7,⟨g,rfl⟩,o,N,s8⟩ e8 a e9;refine cs (cT 4 (cc _ a (λI a=>?_) λI a=>?_))
 ·refine ckt ?_;refine zm (λZ=>∀(U:LB)(a9:OA)(b0:Nat)(g:Env)(B:K),Step [] i B->Gr z6 true (i.H.size,161001) B 258 a9 b0 U->zgc j U=some e8->cwp prog 113 (sub (zB f161) [1,1,0,0,1,0,1,1]) Z (ups g [(0,iv p0),(1,vl a2 p1 y),(2,iv p2),(8,vl a9 U b0),(9,iv j.2)]) B) ?_ λJ6=>?_
  ·intro U a9 b0 g B o k6 a;exact cr (od 3 (oe (ze (sj a).symm ⟨_,_,⟨_,eY⟩,o,k6,(zp _)⟩)))
  refine cs (cb 1 (cO 2 (bE a λf0 c0 a=>oJ (f4.X o) c0 λs9 t0 o5 o6 o7 f1=>od 1 (oV f1.at 2 (dT 2 (cc _ a (λI a=>?_) λI a=>?_))))))
  ·refine cr (od 3 (bE a λk7 V a=>?_));have f2:f0=k7:=sj (c0.symm.trans V);subst f2;have n3:=V;refine oJ (f4.X o) V λt1 t2 h3 h4 h5 f3=>oL f3.at 0 3 (oT (t:=z6) 258 161002 true [f0] o ⟨_,_,rfl,⟨_,_,rfl,⟨rfl,h3⟩,⟨_,_,rfl,⟨rfl,h4⟩,⟨rfl,h5⟩⟩⟩,rfl⟩ λt3 o8 o k8 k9=>?_);have N:=N.Y k8;refine bE a λl0 h6 a=>oP 231 N k9.sl o.1 h6 λt4 t5 o9 l1 l2 hw=>?_;clear hw;have o:=o.trG (N.own (gl _)) l1;exact od 1 (oe (zc (za (zl eY (J6 l0 _ _ _ _ o l2 a)))))
  exact ck (zc (za (zl eY (J6 j.1 _ _ _ _ o N a))))
 exact cx 0 (zg (zh (zo eY (J1 j.1 _ _ _ _ o N (e9 _ a)))))
def zui{p:K}{p0:Int}{p1:LB}{a2:OA}{y:Nat}(h8:I64 p0)(f4:Sl z6 p a2 y p1){r:(Int×LB×LM×LI)}(i:zne p0 p1=some r):
 fP 208 #[iv p0,vl a2 p1 y] p (λv w=>Step [] p w/\∃(b5:Nat)(N6:Nat)(a8:OA)(c9:Nat)(f0:OA)(f1:Nat)(f2:OA)(f3:Nat),v=pt b5 0/\p.H.size<=N6/\Box (N6,208001) w b5 [iv r.1,vl a8 r.2.1 c9,vl f0 r.2.2.1 f1,vl f2 r.2.2.2 f3] 297/\I64 r.1/\Sl z6 w a8 c9 r.2.1/\Gr (tSl tI64) true (N6,208002) w 32 f0 f1 r.2.2.1/\Gr tI64 false (N6,208003) w 2 f2 f3 r.2.2.2):=by
 refine fnc 77 [] func208 ntmps208 λhs=>cO 1 (otx (od 3 (oB 297 208001 [iv p0,vl a2 p1 y,sl none 0 0,sl none 0 0] hs λj l4 hs n9 c=>od 1 (otx (od 2 (bE i λY g0 i=>?_))))));obtain⟨g1,g2,I⟩:=zDu g0;refine zd5 (d:=13) (T:=33) (e:=32) (t:=tH) (pub:=false) (τ:=(p.H.size,208002)) (bytes:=24) (k1:=.i64) (k2:=.i64) (m:=p0) (zs:=[sl none 0 0]) (z:=(none,0,0)) kr kr kr kr rfl g1 hs.1 λf5 l5 f6 q=>?_;rw[I];have q:=Mat.made (t:=tI64) (pub:=false) (ei:=2) q;rw[←g2,I]at q;obtain⟨o0,g3⟩:∃H:List Hd,H=List.replicate p0.toNat (none,0,0):=⟨_,rfl⟩;rw[←g3]at q;have hs:=hs.tr0 f6;have c:=c.Y f6;refine od 2 (oS 2 [iv p0,vl a2 p1 y,vl f5 Y Y.length,sl none 0 0] c hs λl6 hs i2 D=>?_);have q:=q.X i2 (q.nb c (zk kr));have c:=D;refine otx (od 3 (bE i λk g4 i=>zd5 (d:=19) (T:=32) (e:=2) (t:=tI64) (pub:=false) (τ:=(p.H.size,208003)) (bytes:=8) (k1:=.i64) (k2:=.i64) (m:=(p1.length:Int)) (zs:=[iv 0]) (z:=0) kr kr kr kr ⟨rfl,(iK 0)⟩ g4 hs.1 λE l7 f7 g=>?_));have hs:=hs.tr0 f7;obtain⟨q,c⟩:=sQ2 f7 q c;refine od 2 (oS 3 [iv p0,vl a2 p1 y,vl f5 Y Y.length,vl E k k.length] c hs λl8 hs f8 D=>?_);have q:=q.X f8 (q.nb c (zk kr));have g:=g.X f8 (g.nb c (zk kr));have c:=D;refine ot (cs (cT 1 (cb 0 ?_)));refine zi 0 (λZ=>∀(b0:LM)(b9:OA)(c0:Nat)(c1:List Hd)(E0:Env)(B:K),Step [] p B->Mat tI64 false (p.H.size,208002) B 32 2 b9 c0 c1 c1 b0->Gr tI64 false (p.H.size,208003) B 2 E k.length k->Box (p.H.size,208001) B j [iv p0,vl a2 p1 y,vl b9 b0 c0,vl E k k.length] 297->zpE p0 p1 k b0=some r->Z (ups E0 [(5,pt j 0)]) B) ?_ λJ1=>?_
 ·intro b0 b9 c0 c1 E0 B hs L g c i;refine zf (za (cT 2 (zo9 L λm0 c5 g5=>?_)));have hs:=hs.trG (L.own (gl _)) c5;have g:=g.X c5 (g.ngm L (zk kr));have c:=c.X c5 (L.bn c (zk kr));have L:=g5;exact crt (sj i▸rT 4 (pt j 0) ⟨hs,_,_,_,_,_,_,_,_,rfl,(gl _),c,h8,(f4.X hs),L,g⟩)
 refine lB (J:=λf E' w=>∃(A:OA)(s:Nat)(M:List Hd),(∃E0,E'=ups E0 [(1,vl a2 p1 y),(5,pt j 0),(6,iv f.1)])/\Step [] p w/\I64 f.1/\Mat tI64 false (p.H.size,208002) w 32 2 A s M M f.2/\Gr tI64 false (p.H.size,208003) w 2 E k.length k/\Box (p.H.size,208001) w j [iv p0,vl a2 p1 y,vl A f.2 s,vl E k k.length] 297) kr i ⟨_,_,_,⟨_,eY⟩,hs,(iK 0),q,g,c⟩ ?_;rintro f _ m2 ⟨A,s,M,⟨E0,rfl⟩,hs,c6,h,g,c⟩ k7 i d7;refine cs (cT 4 (cc _ i (λhc i=>?_) λhc i=>?_))
 ·refine ckt (cs (cb 1 (cs (cx_ 23 [0,1,2,3,4,5,6,7,8,9,10,11,12,13,14,15,16,17,18,19,20,21,22] [21,22] 22 (mblk A s M) (xp 28 (pt j 0) (xp 29 (pt j 0) (xp 30 (pt j 2) (x1f 31 33 (vl A f.2 s) c.at (h.bn c (zk kr)) 2 rfl (xp 32 (vl a2 p1 y) (xp 33 (iv f.1) (bE i λn O i=>xI (f4.X hs) O λi4 i5 m4 m5 m6 d8=>xp 35 (pt i4 i5) (x1p 36 2 (iv n.1) d8 0 rfl (xp 37 (pt j 0) (xp 38 (pt j 0) (xp 39 (pt j 2) (xV c.at 2 (xp 41 (vl a2 p1 y) (xp 42 (iv f.1) (bE i λi6 a1 i=>?_)))))))))))))))))));have d9:n=i6:=sj (O.symm.trans a1);subst d9;have k8:=a1;refine xI (f4.X hs) a1 λi7 i8 m7 m8 m9 e0=>xp 44 (pt i7 i8) (xV e0.at 0 (bE i λi9 g7 i=>?_));obtain⟨j1,j2,j3,P,Q,R,b1,e1,N⟩:=h.idx g7;refine xi 46 33 32 1 f.2.length s .i64 n.1 (off:=0) P Q R (xV e1 0 (xp 48 (iv f.1) (ziW (d:=49) (T:=32) (e:=2) (t:=tI64) (pub:=true) (τ:=(p.H.size,208004)) (len:=1) (l:=[f.1]) (parts:=#[(0,iv f.1)]) (cs:=[iv f.1]) kr kr kr kr hs.1 rfl ⟨_,_,rfl,⟨rfl,c6⟩,rfl⟩ kr λj4 n0 f9 j5=>?_)));have hs:=hs.tr0 f9;obtain⟨g,h,N,c⟩:=sQ4 f9 g h N c;refine bE i λc7 g8 i=>ztk (d:=50) (T:=32) (e:=2) (t:=tI64) (pub:=false) (τ:=(p.H.size,208002)) (bytes:=8) (a:=j2) (cp:=j3) (l:=i9) (a2:=j4) (c2:=1) (l2:=[f.1]) kr kr N j5.sl hs.1 kr g8 kr (zhu b1) λc8 d0 n1 b2 j6 hw=>?_;have u:=h.row b1 b2 j6 hw;clear hw;have hs:=hs.trG (N.own (gl _)) b2;have g:=g.X b2 (g.ng N (zk kr));have c:=c.X b2 (N.bn c (zk kr));have h:=u;refine xe (oi 51 33 32 1 f.2.length s .i64 n.1 (off:=0) P Q R (bE i λb3 d2 i=>zut (T:=32) (b:=j1) (ix:=n.1) (hd:=(c8,c7.length,d0)) kr kr P h Q (by rw[h.len0,ep];exact R) kr λg9 a0 u=>?_));have a0:=a0.mono (zhi (hs:=(M.set n.1.toNat (c8,c7.length,d0))));have hs:=hs.trG (h.own (gl _)) a0;have g:=g.X a0 (g.ngm h (zk kr));have c:=c.X a0 (h.bn c (zk kr));obtain⟨d3,h0⟩:∃H:List Hd,H=(M.set n.1.toNat (c8,c7.length,d0)):=⟨_,rfl⟩;rw[←h0]at u;have h:=zoL d2 u;have b7:=zaz d2;have c:Box (p.H.size,208001) g9 j [iv p0,vl a2 p1 y,vl A b3 s,vl E k k.length] 297:=by unfold vl;rw[b7];exact c
  refine ot (cx_ 23 [0,1,2,3,4,5,6,7,8,9,10,11,12,13,14,15,16,17,18,19,20,21,22] [21,22] 22 (mblk A s d3) (xp 52 (pt j 0) (xp 53 (pt j 0) (xp 54 (pt j 2) (x1f 55 33 (vl A b3 s) c.at (h.bn c (zk kr)) 2 rfl (xp 56 (vl a2 p1 y) (xp 57 (iv f.1) (bE i λj7 a3 i=>?_))))))));have e2:n=j7:=sj (O.symm.trans a3);subst e2;have k9:=a3;refine xI (f4.X hs) a3 λj8 j9 n2 n3 n4 e3=>xp 59 (pt j8 (j9+1)) (x1p 60 2 (iv n.2.1) e3 1 rfl (xp 61 (pt j 0) (xp 62 (pt j 0) (xp 63 (pt j 2) (xV c.at 2 (xp 65 (vl a2 p1 y) (xp 66 (iv f.1) (bE i λk0 a4 i=>?_))))))));have e4:n=k0:=sj (O.symm.trans a4);subst e4;have l0:=a4;refine xI (f4.X hs) a4 λk3 k4 n5 n6 n7 e5=>xp 68 (pt k3 (k4+1)) (xV e5.at 1 (bE i λk5 h1 i=>?_));obtain⟨k6,h2,h3,S,U,V,b4,e6,C⟩:=h.idx h1;refine xi 70 33 32 1 b3.length s .i64 n.2.1 (off:=0) S U V (xV e6 0 (xp 72 (iv f.1) (ziW (d:=73) (T:=32) (e:=2) (t:=tI64) (pub:=true) (τ:=(p.H.size,208005)) (len:=1) (l:=[f.1]) (parts:=#[(0,iv f.1)]) (cs:=[iv f.1]) kr kr kr kr hs.1 rfl ⟨_,_,rfl,⟨rfl,c6⟩,rfl⟩ kr λh4 l1 d4 h5=>?_)));have hs:=hs.tr0 d4;obtain⟨g,h,C,c⟩:=sQ4 d4 g h C c;refine bE i λa5 e7 i=>ztk (d:=74) (T:=32) (e:=2) (t:=tI64) (pub:=false) (τ:=(p.H.size,208002)) (bytes:=8) (a:=h2) (cp:=h3) (l:=k5) (a2:=h4) (c2:=1) (l2:=[f.1]) kr kr C h5.sl hs.1 kr e7 kr (zhu b4) λa6 a7 l3 X h6 hw=>?_;have u:=h.row b4 X h6 hw;clear hw;have hs:=hs.trG (C.own (gl _)) X;have g:=g.X X (g.ng C (zk kr));have c:=c.X X (C.bn c (zk kr));have h:=u;refine xe (oi 75 33 32 1 b3.length s .i64 n.2.1 (off:=0) S U V (bE i λh7 b6 i=>zut (T:=32) (b:=k6) (ix:=n.2.1) (hd:=(a6,a5.length,a7)) kr kr S h U (by rw[h.len0,ep];exact V) kr λe8 G u=>?_));have G:=G.mono (zhi (hs:=(d3.set n.2.1.toNat (a6,a5.length,a7))));have hs:=hs.trG (h.own (gl _)) G;have g:=g.X G (g.ngm h (zk kr));have c:=c.X G (h.bn c (zk kr));obtain⟨n8,e9⟩:∃H:List Hd,H=(d3.set n.2.1.toNat (a6,a5.length,a7)):=⟨_,rfl⟩;rw[←e9]at u;have h:=zoL b6 u;have a9:=zaz b6;have c:Box (p.H.size,208001) e8 j [iv p0,vl a2 p1 y,vl A h7 s,vl E k k.length] 297:=by unfold vl;rw[a9];exact c
  exact oe (zc (za (cr (od 3 (oe (ze (sj i).symm ⟨_,_,_,⟨_,eY⟩,hs,(zp _),h,g,c⟩))))))
 exact cx 0 (zg (zh (zo eY (J1 f.2 _ _ _ _ _ hs h g c (d7 _ i)))))
def zlw{k:K}{p0:Int×LB×LM×LI}{e D E m:Nat}{q:Tag}{a2 F n:OA}{d:Tag}{p1:Int}{G:Int}(b:Box q k e [iv p0.1,vl a2 p0.2.1 D,vl F p0.2.2.1 E,vl n p0.2.2.2 m] 297)(a1:I64 p0.1)(Q:Sl z6 k a2 D p0.2.1)(f7:Sl (tSl tI64) k F E p0.2.2.1)(c:Gr tI64 false d k 2 n m p0.2.2.2)(p:d.1<k.H.size)(R:I64 p1)(S:I64 G)(f:q≠d){r:Int×Int×(Int×LB×LM×LI)}(h:zeG p0 p1 G=some r):
 fP 223 #[pt e 0,iv p1,iv G] k (λv s=>Step ([e]++blk n m) k s/\∃(t:OA)(u:Nat),v=.tuple #[iv r.1,iv r.2.1]/\I64 r.1/\I64 r.2.1/\Box q s e [iv p0.1,vl a2 p0.2.1 D,vl F p0.2.2.1 E,vl t r.2.2.2.2.2 u] 297/\Gr tI64 false d s 2 t u r.2.2.2.2.2/\(∀g∈blk t u,g∈([e]++blk n m)\/k.H.size<=g)):=by
 refine fnc 44 ([e]++blk n m) func223 ntmps223 λo=>?_;have w:=b.tlt;have x:=f.symm;have l:∀g∈blk n m,g∈([e]++blk n m)\/k.H.size<=g:=λg T=>.inl (by simp[T]);refine cO 2 (otx (od 3 (oV b.at 1 (od 1 (bE h λj H h=>oJ Q H λa3 a4 I J U z=>oL z.at 0 3 (oA 258 223001 [iv 0,iv 0,iv 0] o λa6 V o N a=>?_))))));obtain⟨c,b⟩:=sQ2 N c b;refine oS 0 [iv j.1,iv j.2.1,iv j.2.2] a o λX o C y=>?_;have c:=c.X C (c.nb a (zfe (i:=223001) p));have b:=b.X C (nm1 (b.ne a (zfe (i:=223001) w)));have a:=y;refine ot (cs (cO 1 (oV a.at 0 (dT 2 (cc _ h (λY h=>?_) λY h=>?_)))))
 ·refine cs (cd 13 (dd 1 (dV a.at 2 (dd 3 (dV b.at 3 (dd 1 (bE h λO L h=>dG c L λ_ _ Z A=>dV A 0 (dd 2 (dV a.at 1 (dd 1 (de (dT 1 (crt (zd ?_))))))))))))));obtain rfl:=sj h;exact rt [.tmp 6,.tmp 7] [iv (w64 (j.2.2 - O)),iv j.2.1] ⟨kr,kr,trivial⟩ (⟨o,_,_,rfl,(zp _),J,b,c,l⟩)
 refine ckt (cs (cd 13 (dd 1 (dV a.at 2 (dd 3 (dV b.at 3 (dd 1 (bE h λP M h=>dG c M λ_ _ a0 B=>dV B 0 (dd 2 (dV a.at 0 (dd 1 (de (dT 1 (crt ?_))))))))))))));obtain rfl:=sj h;exact rt [.tmp 6,.tmp 7] [iv (w64 (j.2.2+P)),iv j.1] ⟨kr,kr,trivial⟩ (⟨o,_,_,rfl,(zp _),I,b,c,l⟩)
def zkW{j:K}{p0:Int×LB×LM×LI}{d P Q q:Nat}{E:Tag}{a2 R s:OA}{m:Tag}{p1:Int}(a:Box E j d [iv p0.1,vl a2 p0.2.1 P,vl R p0.2.2.1 Q,vl s p0.2.2.2 q] 297)(o3:I64 p0.1)(f4:Sl z6 j a2 P p0.2.1)(f7:Sl (tSl tI64) j R Q p0.2.2.1)(n:Gr tI64 false m j 2 s q p0.2.2.2)(f:m.1<j.H.size)(l9:I64 p1)(B:E≠m){r:LI×(Int×LB×LM×LI)}(b:zdN p0 p1=some r):
 fP 210 #[pt d 0,iv p1] j (λv k=>Step ([d]++blk s q) j k/\∃(k8:OA)(k9:Nat)(f2:OA)(f3:Nat),v=vl k8 r.1 k9/\Sl tI64 k k8 k9 r.1/\Box E k d [iv p0.1,vl a2 p0.2.1 P,vl R p0.2.2.1 Q,vl f2 r.2.2.2.2 f3] 297/\Gr tI64 false m k 2 f2 f3 r.2.2.2.2/\(∀g∈blk f2 f3,g∈([d]++blk s q)\/j.H.size<=g)):=by
 refine fnc 112 ([d]++blk s q) func210 ntmps210 λo=>?_;have u:=a.tlt;have f5:=B.symm;have f6:∀g∈blk s q,g∈([d]++blk s q)\/j.H.size<=g:=λg hg=>.inl (by simp[hg]);refine cO 1 (otx (oT (t:=tI64) 2 210001 false [] o rfl λv0 r2 o o4 o5=>?_));obtain⟨n,a⟩:=sQ2 o4 n a;refine dT 1 (cs (cT 1 (cb 0 ?_)));refine zi 0 (λZ=>∀(d4:LI)(d5:OA)(d6:Nat)(w:Env)(H:K),Step ([d]++blk s q) j H->Gr tI64 false (j.H.size,210001) H 2 d5 d6 d4->Gr tI64 false m H 2 s q p0.2.2.2->Box E H d [iv p0.1,vl a2 p0.2.1 P,vl R p0.2.2.1 Q,vl s p0.2.2.2 q] 297->zgx p0 p1 d4=some r->Z (ups w [(0,pt d 0),(1,iv p1),(5,vl d5 d4 d6)]) H) ?_ λJ1=>?_
 ·intro d4 d5 d6 w H o L n a b;refine zf (za (cO 2 (bE b λv1 m0 b=>bE b λl0 m1 b=>oW L m0 m1 ⟨rfl,(iK 0)⟩ λ_ r4 f9 m2 f1=>?_)));have o:=o.trG (L.own (gl _)) f9;have n:=n.X f9 (n.ng L (zfe (i:=210001) f));have a:=a.X f9 (L.bn a (zfe (i:=210001) u));have L:=m2;refine zT (zb (t:=5) (v:=vl d5 l0 d6) (eA 1 (v:=iv p1) (eA 0 (v:=pt d 0) rfl)) (by unfold vl;rw[f1];kernel_rfl)) (otx (od 1 (oT (t:=tI64) 2 210003 true [p1] o ⟨_,_,rfl,⟨rfl,l9⟩,rfl⟩ λv2 r5 o o6 o7=>?_)));obtain⟨n,L,a⟩:=sQ3 o6 n L a;refine dT 1 (cs (cT 1 (cb 2 ?_)));refine zi 2 (λZ=>∀(b1:LI)(d7:LI)(d8:OA)(d9:Nat)(e0:OA)(e1:Nat)(w:Env)(I:K)(o:Step ([d]++blk s q) j I)(M:Gr tI64 false (j.H.size,210001) I 2 d8 d9 b1)(b2:Gr tI64 false m I 2 e0 e1 d7)(b3:(∀g∈blk e0 e1,g∈([d]++blk s q)\/j.H.size<=g))(a:Box E I d [iv p0.1,vl a2 p0.2.1 P,vl R p0.2.2.1 Q,vl e0 d7 e1] 297),zgw p0 b1 d7=some r->Z (ups w [(5,vl d8 b1 d9)]) I) ?_ λJ2=>?_
  ·intro b1 d7 d8 d9 e0 e1 w I o M b2 b3 a b;refine zf (za (cT 2 (zcX M λr7 g0 m3=>?_)));have o:=o.trG (M.own (gl _)) g0;have b2:=b2.X g0 (b2.ng M (zfe (i:=210001) f));have a:=a.X g0 (M.bn a (zfe (i:=210001) u));have M:=m3;exact crt (sj b▸rT 4 (vl d8 b1 d9) ⟨o,_,_,_,_,rfl,M.sl,a,b2,b3⟩)
  refine lB (J:=λe E' k=>∃(g2:OA)(g3:Nat)(g4:OA)(g5:Nat)(e2:OA)(e3:Nat),(∃w,E'=ups w [(0,pt d 0),(5,vl g2 e.1 g3),(7,vl g4 e.2.1 g5),(8,iv e.2.2.1)])/\Step ([d]++blk s q) j k/\Gr tI64 false (j.H.size,210001) k 2 g2 g3 e.1/\Gr tI64 true (j.H.size,210003) k 2 g4 g5 e.2.1/\I64 e.2.2.1/\Gr tI64 false m k 2 e2 e3 e.2.2.2/\(∀g∈blk e2 e3,g∈([d]++blk s q)\/j.H.size<=g)/\Box E k d [iv p0.1,vl a2 p0.2.1 P,vl R p0.2.2.1 Q,vl e2 e.2.2.2 e3] 297) kr b ⟨_,_,_,_,_,_,⟨_,eY⟩,o,L,o7,(iK 0),n,f6,a⟩ ?_;rintro e _ r8 ⟨g2,g3,g4,g5,e2,e3,⟨w,rfl⟩,o,l1,l2,r9,l3,b4,a⟩ i9 b j1;refine cs (cT 4 (cc _ b (λhc b=>?_) λhc b=>?_))
  ·refine ckt (cs (cb 3 (cO 2 (bE b λG m5 b=>oJ l2.sl m5 λv3 v4 s1 j2=>oV j2.at 0 (od 1 (otx (dT 1 (cb 4 ?_))))))));refine zi 4 (λZ=>∀(e4:LI)(e5:LI)(e6:LI)(g6:OA)(g7:Nat)(g8:OA)(g9:Nat)(T:OA)(U:Nat)(w:Env)(z:K)(o:Step ([d]++blk s q) j z)(l4:Gr tI64 false (j.H.size,210001) z 2 g6 g7 e4)(l5:Gr tI64 true (j.H.size,210003) z 2 g8 g9 e5)(l6:Gr tI64 false m z 2 T U e6)(b5:(∀g∈blk T U,g∈([d]++blk s q)\/j.H.size<=g))(a:Box E z d [iv p0.1,vl a2 p0.2.1 P,vl R p0.2.2.1 Q,vl T e6 U] 297),zkX e e4 e5 e6=some i9->Z (ups w [(0,pt d 0),(5,vl g6 e4 g7),(7,vl g8 e5 g9),(8,iv e.2.2.1)]) z) ?_ λJ3=>?_
   ·intro e4 e5 e6 g6 g7 g8 g9 T U w z o l4 l5 l6 b5 a b;exact zf (zc (za (cr (od 3 (oe (ze (sj b).symm ⟨_,_,_,_,_,_,⟨_,eY⟩,o,l4,l5,(zp _),l6,b5,a⟩))))))
   refine lB (J:=λc E' k=>∃(b6:OA)(b7:Nat)(b8:OA)(b9:Nat)(e7:OA)(e8:Nat),(∃w,E'=ups w [(0,pt d 0),(5,vl b6 c.1 b7),(7,vl b8 c.2.1 b9),(8,iv e.2.2.1),(9,iv G),(10,iv c.2.2.1)])/\Step ([d]++blk s q) j k/\Gr tI64 false (j.H.size,210001) k 2 b6 b7 c.1/\Gr tI64 true (j.H.size,210003) k 2 b8 b9 c.2.1/\I64 c.2.2.1/\Gr tI64 false m k 2 e7 e8 c.2.2.2/\(∀g∈blk e7 e8,g∈([d]++blk s q)\/j.H.size<=g)/\Box E k d [iv p0.1,vl a2 p0.2.1 P,vl R p0.2.2.1 Q,vl e7 c.2.2.2 e8] 297) kr b ⟨_,_,_,_,_,_,⟨_,eY⟩,o,l1,l2,(iK 0),l3,b4,a⟩ ?_;rintro c _ p5 ⟨b6,b7,b8,b9,e7,e8,⟨w,rfl⟩,o,l,p,s3,e9,N,a⟩ c0 b h1;refine cs (cO 4 (oV a.at 2 (od 1 (bE b λm7 f0 b=>oJ (f7.X o) f0 λs4 s5 s6 s7 s8 h2=>oV h2.at 0 (dT 2 (cc _ b (λhc b=>?_) λhc b=>?_))))))
   ·refine ckt ?_;refine zm (λZ=>∀(V:LI)(X:LI)(Y:LI)(c2:OA)(c4:Nat)(c5:OA)(c7:Nat)(a0:OA)(a1:Nat)(w:Env)(A:K)(o:Step ([d]++blk s q) j A)(h3:Gr tI64 false (j.H.size,210001) A 2 c2 c4 V)(h4:Gr tI64 true (j.H.size,210003) A 2 c5 c7 X)(h5:Gr tI64 false m A 2 a0 a1 Y)(S:(∀g∈blk a0 a1,g∈([d]++blk s q)\/j.H.size<=g))(a:Box E A d [iv p0.1,vl a2 p0.2.1 P,vl R p0.2.2.1 Q,vl a0 Y a1] 297),zbV c V X Y=some c0->cwp prog 112 (sub (zB f210) [1,1,0,0,1,1,0,0,1,0,0,1,0,1,1,1,1,1]) Z (ups w [(0,pt d 0),(5,vl c2 V c4),(7,vl c5 X c7),(8,iv e.2.2.1),(9,iv G),(10,iv c.2.2.1)]) A) ?_ λJ4=>?_
    ·intro V X Y c2 c4 c5 c7 a0 a1 w A o h3 h4 h5 S a b;exact cr (od 3 (oe (ze (sj b).symm ⟨_,_,_,_,_,_,⟨_,eY⟩,o,h3,h4,(zp _),h5,S,a⟩)))
    refine cs (cb 5 (cO 3 (oV a.at 2 (od 1 (bE b λm8 a3 b=>?_)))));have h6:m7=m8:=sj (f0.symm.trans a3);subst h6;have p2:=a3;refine oJ (f7.X o) a3 λs9 t0 t1 t2 m9 h7=>oV h7.at 0 (od 1 (bE b λt3 j4 b=>oJ m9 j4 λt4 t5 j5 h8=>oV h8.at 0 (dT 1 (cs (cd 18 (dd 3 (dV a.at 1 (dd 1 (bE b λa4 j6 b=>dI (f4.X o) j6 λt6 t7 p6 p7 p8 h9=>dd 1 (dV h9.at 0 (dd 3 (dV a.at 1 (dd 1 ?_)))))))))))));refine bE b λa6 j7 b=>dI (f4.X o) j7 λt8 t9 p9 q0 q1 i0=>dd 1 (dV i0.at 1 (dd 2 (de (od 2 (otx (od 3 (bE b λa7 j8 b=>ocl 87 (zlw (p0:=(p0.1,(p0.2.1,(p0.2.2.1,c.2.2.2)))) a o3 (f4.X o) (f7.X o) e9 (gq f o.1) (zp _) j5 (B) j8) ?_)))))));rintro _ j9 ⟨c8,n0,n1,rfl,q2,q3,k0,y,C⟩;have C:∀g∈blk n0 n1,g∈([d]++blk s q)\/j.H.size<=g:=λg hg=>(C g hg).elim ((zr2 (zve si) N) g) (λh=>.inr (gm o.1 h));have o:=o.trM (zr2 (zve si) N) c8;have l:=l.X c8 (zBL (l.nb a (zla (i:=210001) u)) (l.ng e9 (zla (i:=210001) f)));have p:=p.X c8 (zBL (p.nb a (zla (i:=210003) u)) (p.ng e9 (zla (i:=210003) f)));have a:=k0;refine dT 5 ?_;refine zm (λZ=>∀(d0:Bool)(w:Env),zaR G c a4 a6 a7 d0=some c0->cwp prog 112 (sub (zB f210) [1,1,1,1,0,0,1,0,0,1,1,0,0,1,0,0,1,0,1,1,1,1,1]) Z (ups w [(0,pt d 0),(5,vl b6 c.1 b7),(7,vl b8 c.2.1 b9),(8,iv e.2.2.1),(9,iv G),(10,iv c.2.2.1),(12,iv (w64 ((w64 (a4.1+a6.2.1)) - G))),(98,.bool d0)]) j9) ?_ λJ5=>?_
    ·intro d0 w b;refine cc _ b (λhc b=>?_) λhc b=>?_
     ·refine cO 4 (bE b λu0 k1 b=>oG l k1 λ_ _ q4 i1=>oV i1 0 (od 1 (bE b λu1 k2 b=>bE b λi2 k3 b=>oW l k2 k3 ⟨rfl,(zp _)⟩ λ_ q5 a9 n2 d2=>?_)));have o:=o.trG (l.own (gl _)) a9;have p:=p.X a9 (p.ng l (zk kr));have y:=y.X a9 (y.ng l (zfe (i:=210001) f));have a:=a.X a9 (l.bn a (zfe (i:=210001) u));have l:=n2;refine zT (eA 12 (v:=iv (w64 ((w64 (a4.1+a6.2.1)) - G))) (eA 10 (v:=iv c.2.2.1) (eA 9 (v:=iv G) (eA 8 (v:=iv e.2.2.1) (eA 7 (v:=vl b8 c.2.1 b9) (zb (t:=5) (v:=vl b6 i2 b7) (eA 0 (v:=pt d 0) rfl) (by unfold vl;rw[d2];kernel_rfl))))))) (otr (od 2 (oT (t:=tI64) 2 210004 true [w64 ((w64 (a4.1+a6.2.1)) - G)] o ⟨_,_,rfl,⟨rfl,(zp _)⟩,rfl⟩ λu2 q6 o n3 n4=>?_)));obtain⟨l,p,y,a⟩:=sQ4 n3 l p y a;refine bE b λn5 k4 b=>oP 32 p n4.sl o.1 k4 λu3 u4 q7 b0 n6 hw=>?_;clear hw;have o:=o.trG (p.own (gl _)) b0;have l:=l.X b0 (l.ng p (zk kr));have y:=y.X b0 (y.ng p (zfe (i:=210003) f));have a:=a.X b0 (p.bn a (zfe (i:=210003) u));exact od 1 (oe (zc (za (zl eY (J4 i2 n5 a7.2.2.2.2.2 _ _ _ _ _ _ _ _ o l n6 y C a b)))))
     exact ck (zc (za (zl eY (J4 c.1 c.2.1 a7.2.2.2.2.2 _ _ _ _ _ _ _ _ o l p y C a b))))
    refine cO 2 (bE b λn7 k5 b=>oG l k5 λ_ _ q8 i3=>oV i3 0 (od 1 (osp 95 (decide (n7<0)) b (λhg b=>?_) λhg b=>?_)))
    ·exact oz [96,97] (dT 1 (zl eY (J5 false  _  b)))
    exact dT 3 (zl eY (J5 (decide (a7.1>0))  _  b))
   exact cx 4 (zg (zh (zo eY (J3 c.1 c.2.1 c.2.2.2 _ _ _ _ _ _ _ _ o l p e9 N a (h1 _ b)))))
  exact cx 2 (zg (zh (zo eY (J2 e.1 e.2.2.2 _ _ _ _ _ _ o l1 l3 b4 a (j1 _ b)))))
 refine lB (J:=λD E' k=>∃(i5:OA)(i6:Nat),(∃w,E'=ups w [(0,pt d 0),(1,iv p1),(5,vl i5 D.1 i6),(6,iv D.2)])/\Step ([d]++blk s q) j k/\Gr tI64 false (j.H.size,210001) k 2 i5 i6 D.1/\I64 D.2/\Gr tI64 false m k 2 s q p0.2.2.2/\Box E k d [iv p0.1,vl a2 p0.2.1 P,vl R p0.2.2.1 Q,vl s p0.2.2.2 q] 297) kr b ⟨_,_,⟨_,eY⟩,o,o5,(iK 0),n,a⟩ ?_;rintro D _ q9 ⟨i5,i6,⟨w,rfl⟩,o,O,u5,n,a⟩ p4 b i7;refine cs (cO 4 (oV a.at 0 (dT 1 (cc _ b (λhc b=>?_) λhc b=>?_))))
 ·refine ckt (cs (cb 1 (cr (od 1 (oT (t:=tI64) 2 210002 true [(-1)] o ⟨_,_,rfl,⟨rfl,(iK (-1))⟩,rfl⟩ λu6 r0 o n9 o0=>?_)))));obtain⟨n,O,a⟩:=sQ3 n9 n O a;refine bE b λu7 k7 b=>oP 32 O o0.sl o.1 k7 λu8 u9 r1 d3 o2 hw=>?_;clear hw;have o:=o.trG (O.own (gl _)) d3;have n:=n.X d3 (n.ng O (zfe (i:=210001) f));have a:=a.X d3 (O.bn a (zfe (i:=210001) u));exact od 1 (oe (zc (za (cr (od 3 (oe (ze (sj b).symm ⟨_,_,⟨_,eY⟩,o,o2,(zp _),n,a⟩)))))))
 exact cx 0 (zg (zh (zo eY (J1 D.1 _ _ _ _ o O n a (i7 _ b)))))
def zqA{i:K}{p0:Int×LB×LM×LI}{e q s j:Nat}{l:Tag}{a2 t k:OA}{h:Tag}{p1:Int}{E:Int}(a:Box l i e [iv p0.1,vl a2 p0.2.1 q,vl t p0.2.2.1 s,vl k p0.2.2.2 j] 297)(a6:I64 p0.1)(T:Sl z6 i a2 q p0.2.1)(f7:Sl (tSl tI64) i t s p0.2.2.1)(d:Gr tI64 false h i 2 k j p0.2.2.2)(F:h.1<i.H.size)(U:I64 p1)(V:I64 E)(b:l≠h){r:(Int×LB×LM×LI)}(c:zg8 p0 p1 E=some r):
 fP 224 #[pt e 0,iv p1,iv E] i (λv u=>Step ([e]++blk k j) i u/\∃(w:OA)(x:Nat),v=.tuple #[]/\Box l u e [iv p0.1,vl a2 p0.2.1 q,vl t p0.2.2.1 s,vl w r.2.2.2 x] 297/\Gr tI64 false h u 2 w x r.2.2.2/\(∀g∈blk w x,g∈([e]++blk k j)\/i.H.size<=g)):=by
 refine fnc 34 ([e]++blk k j) func224 ntmps224 λo=>?_;have Q:=a.tlt;have y:=b.symm;have f:∀g∈blk k j,g∈([e]++blk k j)\/i.H.size<=g:=λg X=>.inl (by simp[X]);refine cO 3 (oV a.at 1 (od 1 (bE c λa7 G c=>oJ T G λa9 b0 Y Z a0 z=>od 1 (oV z.at 0 (dT 2 (cc _ c (λhc c=>?_) λhc c=>?_))))))
 ·refine cr (od 3 (oV a.at 3 (od 1 (bE c λb1 H c=>oG d H λ_ _ a3 A=>oV A 0 (od 1 (bE c λb2 I c=>bE c λR J c=>oW d I J ⟨rfl,(zp _)⟩ λ_ L C m n=>?_))))));have o:=o.trM f C;have a:=a.X C (d.bn a (b));have d:=m;have a:Box l L e [iv p0.1,vl a2 p0.2.1 q,vl t p0.2.2.1 s,vl k R j] 297:=by unfold vl;rw[n];exact a
  refine oe ?_;obtain rfl:=sj c;exact rn [] [] trivial (⟨o,_,_,rfl,a,d,f⟩)
 refine cr (od 3 (oV a.at 3 (od 1 (bE c λb3 M c=>oG d M λ_ _ a4 B=>oV B 0 (od 1 (bE c λb4 N c=>bE c λS O c=>oW d N O ⟨rfl,(zp _)⟩ λ_ P D m p=>?_))))));have o:=o.trM f D;have a:=a.X D (d.bn a (b));have d:=m;have a:Box l P e [iv p0.1,vl a2 p0.2.1 q,vl t p0.2.2.1 s,vl k S j] 297:=by unfold vl;rw[p];exact a
 refine oe ?_;obtain rfl:=sj c;exact rn [] [] trivial (⟨o,_,_,rfl,a,d,f⟩)
def zqB{k:K}{p0:Int×LB×LM×LI}{d P Q l:Nat}{D:Tag}{a2 R m:OA}{j:Tag}{p1:Int}{M:Int}(b:Box D k d [iv p0.1,vl a2 p0.2.1 P,vl R p0.2.2.1 Q,vl m p0.2.2.2 l] 297)(c5:I64 p0.1)(f4:Sl z6 k a2 P p0.2.1)(f7:Sl (tSl tI64) k R Q p0.2.2.1)(j2:Gr tI64 false j k 2 m l p0.2.2.2)(s:j.1<k.H.size)(h5:I64 p1)(h6:I64 M)(f:D≠j){r:Bool×(Int×LB×LM×LI)}(a:zeH p0 p1 M=some r):
 fP 209 #[pt d 0,iv p1,iv M] k (λv n=>Step ([d]++blk m l) k n/\∃(c7:OA)(c8:Nat),v=.bool r.1/\Box D n d [iv p0.1,vl a2 p0.2.1 P,vl R p0.2.2.1 Q,vl c7 r.2.2.2.2 c8] 297/\Gr tI64 false j n 2 c7 c8 r.2.2.2.2/\(∀g∈blk c7 c8,g∈([d]++blk m l)\/k.H.size<=g)):=by
 refine fnc 93 ([d]++blk m l) func209 ntmps209 λo=>?_;have j3:=b.tlt;have d0:=f.symm;have S:∀g∈blk m l,g∈([d]++blk m l)\/k.H.size<=g:=λg A=>.inl (by simp[A]);refine cO 1 (otx (od 2 (bE a λp h7 a=>ocl 16 (zkW (p0:=p0) b c5 f4 f7 j2 (gq s o.1) h6 (f) h7) ?_)));rintro _ l2 ⟨j4,t,u,j5,j6,rfl,e,w,g6,y⟩;have y:∀g∈blk j5 j6,g∈([d]++blk m l)\/k.H.size<=g:=λg A=>(y g A).elim ((zr2 (zve si) S) g) (λh=>.inr (gm o.1 h));have o:=o.trM (zr2 (zve si) S) j4;have b:=w;refine dT 1 (cs (cO 2 (bE a λn1 h8 a=>oJ e h8 λn2 n3 l3 e9=>oV e9.at 0 (dT 1 (cc _ a (λY a=>?_) λY a=>?_)))))
 ·exact cT 1 (crt (zd (sj a▸rT 6 ff ⟨o,_,_,rfl,b,g6,y⟩)))
 refine ckt (cs (cT 2 (cb 0 ?_)));refine zi 0 (λZ=>∀(a4:LI)(a6:OA)(a7:Nat)(q:Env)(E:K)(o:Step ([d]++blk m l) k E)(g7:Gr tI64 false j E 2 a6 a7 a4)(T:(∀g∈blk a6 a7,g∈([d]++blk m l)\/k.H.size<=g))(b:Box D E d [iv p0.1,vl a2 p0.2.1 P,vl R p0.2.2.1 Q,vl a6 a4 a7] 297),zlx p0 a4=some r->Z (q) E) ?_ λJ1=>?_
 ·intro a4 a6 a7 q E o g7 T b a;exact zf (za (cT 1 (crt (sj a▸rT 6 tt ⟨o,_,_,rfl,b,g7,T⟩))))
 refine lB (J:=λi E' n=>∃(a9:OA)(b0:Nat),(∃q,E'=ups q [(0,pt d 0),(2,iv M),(7,vl t p.1 u),(8,iv i.1)])/\Step ([d]++blk m l) k n/\I64 i.1/\Gr tI64 false j n 2 a9 b0 i.2/\(∀g∈blk a9 b0,g∈([d]++blk m l)\/k.H.size<=g)/\Sl tI64 n t u p.1/\Box D n d [iv p0.1,vl a2 p0.2.1 P,vl R p0.2.2.1 Q,vl a9 i.2 b0] 297) kr a ⟨_,_,⟨_,eY⟩,o,h5,g6,y,e,b⟩ ?_;rintro i _ l5 ⟨a9,b0,⟨q,rfl⟩,o,d2,g8,U,e,b⟩ f1 a f2;refine cs (cT 3 (cc _ a (λY a=>?_) λY a=>?_))
 ·refine ckt (cb 1 (cO 1 (otx (dT 1 (cs (cT 1 (cb 2 ?_)))))));refine zi 2 (λZ=>∀(b1:Int)(b2:Int)(V:LI)(b3:OA)(b4:Nat)(q:Env)(B:K)(o:Step ([d]++blk m l) k B)(d3:I64 b1)(d4:I64 b2)(g9:Gr tI64 false j B 2 b3 b4 V)(G:(∀g∈blk b3 b4,g∈([d]++blk m l)\/k.H.size<=g))(e:Sl tI64 B t u p.1)(b:Box D B d [iv p0.1,vl a2 p0.2.1 P,vl R p0.2.2.1 Q,vl b3 V b4] 297),zhz p0 i b1 b2 V=some f1->Z (ups q [(0,pt d 0),(2,iv M),(7,vl t p.1 u),(8,iv i.1),(9,iv b1),(10,iv b2)]) B) ?_ λJ2=>?_
  ·intro b1 b2 V b3 b4 q B o d3 d4 g9 G e b a;refine zf (za (cO 3 (bE a λn4 i1 a=>ocl 91 (zqA (p0:=(p0.1,(p0.2.1,(p0.2.2.1,V)))) b c5 (f4.X o) (f7.X o) g9 (gq s o.1) d2 d4 (f) i1) ?_)));rintro _ l7 ⟨h0,j8,j9,rfl,w,k0,H⟩;have H:∀g∈blk j8 j9,g∈([d]++blk m l)\/k.H.size<=g:=λg A=>(H g A).elim ((zr2 (zve si) G) g) (λh=>.inr (gm o.1 h));have o:=o.trM (zr2 (zve si) G) h0;have e:=e.X h0;have b:=w;exact otr (od 2 (oe (zc (ze (sj a).symm ⟨_,_,⟨_,eY⟩,o,d3,k0,H,e,b⟩))))
  refine lB (J:=λc E' n=>∃(b5:OA)(b6:Nat),(∃q,E'=ups q [(0,pt d 0),(2,iv M),(7,vl t p.1 u),(8,iv i.1),(9,iv c.1),(10,iv c.2.1),(11,iv c.2.2.1)])/\Step ([d]++blk m l) k n/\I64 c.1/\I64 c.2.1/\I64 c.2.2.1/\Gr tI64 false j n 2 b5 b6 c.2.2.2/\(∀g∈blk b5 b6,g∈([d]++blk m l)\/k.H.size<=g)/\Sl tI64 n t u p.1/\Box D n d [iv p0.1,vl a2 p0.2.1 P,vl R p0.2.2.1 Q,vl b5 c.2.2.2 b6] 297) kr a ⟨_,_,⟨_,eY⟩,o,(iK (-1)),(iK 0),(iK 0),g8,U,e,b⟩ ?_;rintro c _ l8 ⟨b5,b6,⟨q,rfl⟩,o,d5,d6,l9,h1,I,e,b⟩ b7 a f5;refine cs (cO 4 (oV b.at 2 (od 1 (bE a λd7 a0 a=>oJ (f7.X o) a0 λn5 n6 n7 n8 n9 f6=>oV f6.at 0 (dT 2 (cc _ a (λY a=>?_) λY a=>?_))))))
  ·refine ckt ?_;refine zm (λZ=>∀(b8:Int)(b9:Int)(c0:LI)(c1:OA)(c2:Nat)(q:Env)(C:K)(o:Step ([d]++blk m l) k C)(d8:I64 b8)(d9:I64 b9)(h2:Gr tI64 false j C 2 c1 c2 c0)(X:(∀g∈blk c1 c2,g∈([d]++blk m l)\/k.H.size<=g))(e:Sl tI64 C t u p.1)(b:Box D C d [iv p0.1,vl a2 p0.2.1 P,vl R p0.2.2.1 Q,vl c1 c0 c2] 297),zcz c b8 b9 c0=some b7->cwp prog 93 (sub (zB f209) [1,1,0,0,1,0,1,1,0,1,0,0,1,0,1,1,1]) Z (ups q [(0,pt d 0),(2,iv M),(7,vl t p.1 u),(8,iv i.1),(9,iv b8),(10,iv b9),(11,iv c.2.2.1)]) C) ?_ λJ3=>?_
   ·intro b8 b9 c0 c1 c2 q C o d8 d9 h2 X e b a;exact cr (od 3 (oe (ze (sj a).symm ⟨_,_,⟨_,eY⟩,o,d8,d9,(zp _),h2,X,e,b⟩)))
   refine cs (cb 3 (cO 5 (oV b.at 2 (od 1 (bE a λk3 a1 a=>?_)))));have f8:d7=k3:=sj (a0.symm.trans a1);subst f8;have k9:=a1;refine oJ (f7.X o) a1 λo0 o2 o3 o4 k4 f9=>oV f9.at 0 (od 1 (bE a λe0 e1 a=>oJ k4 e1 λo5 o6 i3 g0=>oV g0.at 0 (bE a λL i4 a=>ocl 51 (zlw (p0:=(p0.1,(p0.2.1,(p0.2.2.1,c.2.2.2)))) b c5 (f4.X o) (f7.X o) h1 (gq s o.1) d2 i3 (f) i4) ?_)));rintro _ g1 ⟨e2,k5,k6,rfl,m0,i5,w,h3,z⟩;have z:∀g∈blk k5 k6,g∈([d]++blk m l)\/k.H.size<=g:=λg A=>(z g A).elim ((zr2 (zve si) I) g) (λh=>.inr (gm o.1 h));have o:=o.trM (zr2 (zve si) I) e2;have e:=e.X e2;have b:=w;refine dT 5 ?_;refine zm (λZ=>∀(a3:Bool)(q:Env),zac p0 i c d7 e0 L a3=some b7->cwp prog 93 (sub (zB f209) [1,1,0,0,1,0,0,1,0,1,1,0,1,0,0,1,0,1,1,1]) Z (ups q [(0,pt d 0),(2,iv M),(7,vl t p.1 u),(8,iv i.1),(9,iv c.1),(10,iv c.2.1),(11,iv c.2.2.1),(13,iv L.2.1),(76,.bool a3)]) g1) ?_ λJ4=>?_
   ·intro a3 q a;refine cc _ a (λY a=>?_) λY a=>?_
    ·refine cO 2 (otr (od 3 (oV b.at 2 (od 1 (bE a λi6 N a=>?_)))));have e3:d7=i6:=sj (a0.symm.trans N);subst e3;have k7:=N;refine oJ (f7.X o) N λm1 m2 m3 m4 i7 e4=>oV e4.at 0 (od 1 (bE a λi8 O a=>?_));have e5:e0=i8:=sj (e1.symm.trans O);subst e5;have k8:=O;exact oJ i7 O λm5 m6 g3 e6=>oV e6.at 0 (od 1 (oe (zc (za (zl eY (J3 L.2.1 e0 L.2.2.2.2.2 _ _ _ _ o i5 g3 h3 z e b a))))))
    exact ck (zc (za (zl eY (J3 c.1 c.2.1 L.2.2.2.2.2 _ _ _ _ o d5 d6 h3 z e b a))))
   refine cs (cd 20 (dd 2 ?_));refine dsp 56 (decide (L.1>0)) a ?_ ?_
   ·intro A a;exact ds 57 (ds 58 (ds 59 (ds 60 (ds 61 (ds 62 (ds 63 (ds 64 (ds 65 (ds 66 (dd 2 (ds 69 (ds 70 (ds 71 (ds 72 (ds 73 (de (oz [74,75] (dT 1 (zl eY (J4 false  _  a))))))))))))))))))))
   intro A a;refine dd 2 (bE a λi9 g4 a=>dI e g4 λm7 m8 l0 e7=>dV e7.at 0 (dd 2 (bE a λj1 g5 a=>dI e g5 λm9 n0 l1 e8=>dV e8.at 0 (dd 3 ?_))));refine dsp 68 (decide (i9=(w64 (j1 - 1)))) a ?_ ?_
   ·intro A a;exact ds 69 (ds 70 (ds 71 (ds 72 (ds 73 (de (oz [74,75] (dT 1 (zl eY (J4 false  _  a)))))))))
   intro A a;refine dd 2 ?_;refine dsp 71 (decide (c.1<0)) a ?_ ?_
   ·intro A a;exact dd 2 (de (dT 3 (zl eY (J4 (decide (L.2.1<c.1))  _  a))))
   intro A a;exact ds 72 (ds 73 (de (os 74 (dT 2 (zl eY (J4 true  _  a))))))
  exact cx 2 (zg (zh (zo eY (J2 c.1 c.2.1 c.2.2.2 _ _ _ _ o d5 d6 h1 I e b (f5 _ a)))))
 exact cx 0 (zg (zh (zo rfl (J1 i.2 _ _ _ _ o g8 U b (f2 _ a)))))
def ztz{t:K}{p0:Int}{p1:LB}{a2:OA}{c3:Nat}{u:Int}{w:Int}(a4:I64 p0)(f4:Sl z6 t a2 c3 p1)(a5:I64 u)(a6:I64 w){r:(Int×LB×LM×LI)×Int}(f:zlO p0 p1 u w=some r):
 fP 194 #[iv p0,vl a2 p1 c3,iv u,iv w] t (λv c=>Step [] t c/\∃(b7:Nat)(L:Nat)(O:OA)(P:Nat)(Q:OA)(R:Nat)(S:OA)(T:Nat),v=.tuple #[pt b7 0,iv r.2]/\t.H.size<=L/\Box (L,208001) c b7 [iv r.1.1,vl O r.1.2.1 P,vl Q r.1.2.2.1 R,vl S r.1.2.2.2 T] 297/\I64 r.1.1/\Sl z6 c O P r.1.2.1/\Gr (tSl tI64) true (L,208002) c 32 Q R r.1.2.2.1/\Gr tI64 false (L,208003) c 2 S T r.1.2.2.2/\I64 r.2):=by
 refine fnc 23 [] func194 ntmps194 λo=>cO 2 (otx (od 2 (bE f λb V f=>ocl 14 (zui a4 f4 V) ?_)));rintro _ b5 ⟨a8,k,j,m,n,p,q,c2,c4,rfl,d,a,y,i,e,a9⟩;have d:=gm o.1 d;have o:=o.tr0 a8;refine od 1 (otx (dT 1 (cs (cb 0 ?_))));refine zi 0 (λZ=>∀(l:Int)(s:LI)(z:OA)(A:Nat)(B:Env)(g:K),Step [] t g->I64 l->Gr tI64 false (j,208003) g 2 z A s->Sl z6 g m n b.2.1->Gr (tSl tI64) true (j,208002) g 32 p q b.2.2.1->Box (j,208001) g k [iv b.1,vl m b.2.1 n,vl p b.2.2.1 q,vl z s A] 297->zld b l s=some r->Z (ups B [(10,pt k 0),(11,iv l)]) g) ?_ λJ1=>?_
 ·intro l s z A B g o X b0 i e a f;refine zf (za (cT 4 (crt ?_)));obtain rfl:=sj f;exact rt [.tmp 8,.tmp 9] [pt k 0,iv l] ⟨kr,kr,trivial⟩ (⟨o,_,_,_,_,_,_,_,_,rfl,d,a,y,i,e,b0,X⟩)
 refine lB (J:=λh E' c=>∃(C:OA)(D:Nat),(∃B,E'=ups B [(2,iv u),(3,iv w),(10,pt k 0),(11,iv h.1)])/\Step [] t c/\I64 h.1/\Gr tI64 false (j,208003) c 2 C D h.2/\Sl z6 c m n b.2.1/\Gr (tSl tI64) true (j,208002) c 32 p q b.2.2.1/\Box (j,208001) c k [iv b.1,vl m b.2.1 n,vl p b.2.2.1 q,vl C h.2 D] 297) kr f ⟨_,_,⟨_,eY⟩,o,(iK 0),a9,i,e,a⟩ ?_;rintro h _ b9 ⟨C,D,⟨B,rfl⟩,o,a0,E,i,e,a⟩ b3 f N;refine cs (cO 3 (bE f λb2 a1 f=>ocl 18 (zqB (p0:=(b.1,(b.2.1,(b.2.2.1,h.2)))) a y i e.sl E (show((j,208003):Tag).1<_ from a.tlt) a5 a6 (zk kr) a1) ?_));rintro _ c0 ⟨G,c5,c6,rfl,H,U,I⟩;clear I;have o:=o.trM (zr2 (zxu (gm d a.ge)) (zwp (E.own d))) G;have i:=i.X G;have e:=e.X G (zBL (e.nb a (zk kr)) (e.ng E (zk kr)));have a:=H;refine ot (cc _ f (λhc f=>?_) λhc f=>?_)
 ·exact ckt (cb 1 (cr (od 3 (oe (zc (ze (sj f).symm ⟨_,_,⟨_,eY⟩,o,(zp _),U,i,e,a⟩))))))
 exact cx 0 (zg (zh (zo eY (J1 h.1 b2.2.2.2.2 _ _ _ _ o a0 U i e a (N _ f)))))
def zqz{m:K}{p0:Int×LB×LM×LI}{b P Q u:Nat}{C:Tag}{a2 R w:OA}{j:Tag}{p1:Int}(a:Box C m b [iv p0.1,vl a2 p0.2.1 P,vl R p0.2.2.1 Q,vl w p0.2.2.2 u] 297)(c0:I64 p0.1)(f4:Sl z6 m a2 P p0.2.1)(f7:Sl (tSl tI64) m R Q p0.2.2.1)(c1:Gr tI64 false j m 2 w u p0.2.2.2)(y:j.1<m.H.size)(b2:I64 p1)(l:C≠j){r:LI×(Int×LB×LM×LI)}(d:zg7 p0 p1=some r):
 fP 195 #[pt b 0,iv p1] m (λv n=>Step ([b]++blk w u) m n/\∃(b0:OA)(b1:Nat)(S:OA)(T:Nat),v=vl b0 r.1 b1/\Sl tI64 n b0 b1 r.1/\Box C n b [iv p0.1,vl a2 p0.2.1 P,vl R p0.2.2.1 Q,vl S r.2.2.2.2 T] 297/\Gr tI64 false j n 2 S T r.2.2.2.2/\(∀g∈blk S T,g∈([b]++blk w u)\/m.H.size<=g)):=by
 refine fnc 30 ([b]++blk w u) func195 ntmps195 λo=>?_;have U:=a.tlt;have V:=l.symm;have D:∀g∈blk w u,g∈([b]++blk w u)\/m.H.size<=g:=λg hg=>.inl (by simp[hg]);refine cO 1 (otx (od 2 (bE d λk b4 d=>ocl 10 (zkW (p0:=p0) a c0 f4 f7 c1 (gq y o.1) b2 (l) b4) ?_)));rintro _ d9 ⟨c2,H,I,z,A,rfl,f,a3,c,B⟩;have B:∀g∈blk z A,g∈([b]++blk w u)\/m.H.size<=g:=λg hg=>(B g hg).elim ((zr2 (zve si) D) g) (λh=>.inr (gm o.1 h));have o:=o.trM (zr2 (zve si) D) c2;have a:=a3;refine od 1 (otx (oT (t:=tI64) 2 195001 true [] o rfl λe7 e0 o c4 c5=>?_));obtain⟨f,c,a⟩:=sQ3 c4 f c a;refine dT 1 (cs (cT 1 (cb 0 ?_)));refine zi 0 (λZ=>∀(E:LI)(L:OA)(M:Nat)(G:Env)(q:K),Step ([b]++blk w u) m q->Gr tI64 true (m.H.size,195001) q 2 L M E->Gr tI64 false j q 2 z A k.2.2.2.2->Box C q b [iv p0.1,vl a2 p0.2.1 P,vl R p0.2.2.1 Q,vl z k.2.2.2.2 A] 297->zhy p0 k E=some r->Z (ups G [(6,vl L E M)]) q) ?_ λJ1=>?_
 ·intro E L M G q o c7 c a d;exact zf (za (cT 2 (crt (sj d▸rT 4 (vl L E M) ⟨o,_,_,_,_,rfl,c7.sl,a,c,B⟩))))
 refine lB (J:=λe E' n=>∃(X:OA)(Y:Nat),(∃G,E'=ups G [(0,pt b 0),(5,vl H k.1 I),(6,vl X e.1 Y),(7,iv e.2)])/\Step ([b]++blk w u) m n/\Gr tI64 true (m.H.size,195001) n 2 X Y e.1/\I64 e.2/\Sl tI64 n H I k.1/\Gr tI64 false j n 2 z A k.2.2.2.2/\Box C n b [iv p0.1,vl a2 p0.2.1 P,vl R p0.2.2.1 Q,vl z k.2.2.2.2 A] 297) kr d ⟨_,_,⟨_,eY⟩,o,c5,(iK 0),f,c,a⟩ ?_;rintro e _ e3 ⟨X,Y,⟨G,rfl⟩,o,s,b6,f,c,a⟩ a6 d a7;refine cs (cO 4 (oV a.at 0 (dT 1 (cc _ d (λhc d=>?_) λhc d=>?_))))
 ·refine ckt ?_;refine zm (λZ=>∀(N:LI)(a0:OA)(a1:Nat)(G:Env)(p:K),Step ([b]++blk w u) m p->Gr tI64 true (m.H.size,195001) p 2 a0 a1 N->Sl tI64 p H I k.1->Gr tI64 false j p 2 z A k.2.2.2.2->Box C p b [iv p0.1,vl a2 p0.2.1 P,vl R p0.2.2.1 Q,vl z k.2.2.2.2 A] 297->zew e N=some a6->cwp prog 30 (sub (zB f195) [1,1,0,0,1,0,1,1,1]) Z (ups G [(0,pt b 0),(5,vl H k.1 I),(6,vl a0 N a1),(7,iv e.2)]) p) ?_ λJ2=>?_
  ·intro N a0 a1 G p o d2 f c a d;exact cr (od 3 (oe (ze (sj d).symm ⟨_,_,⟨_,eY⟩,o,d2,(zp _),f,c,a⟩)))
  refine cs (cb 1 (cO 2 (bE d λe8 b8 d=>oJ f b8 λe9 f0 e4 a9=>oV a9.at 0 (dT 1 (cc _ d (λhc d=>?_) λhc d=>?_)))))
  ·refine cr (od 2 (oT (t:=tI64) 2 195002 true [e.2] o ⟨_,_,rfl,⟨rfl,b6⟩,rfl⟩ λf1 e5 o d3 d4=>?_));obtain⟨f,c,s,a⟩:=sQ4 d3 f c s a;refine bE d λd5 b9 d=>oP 32 s d4.sl o.1 b9 λf2 f3 e6 O d6 hw=>?_;clear hw;have o:=o.trG (s.own (gl _)) O;have f:=f.X O;have c:=c.X O (c.ng s (zfe (i:=195001) y));have a:=a.X O (s.bn a (zfe (i:=195001) U));exact od 1 (oe (zc (za (zl eY (J2 d5 _ _ _ _ o d6 f c a d)))))
  exact ck (zc (za (zl eY (J2 e.1 _ _ _ _ o s f c a d))))
 exact cx 0 (zg (zh (zo eY (J1 e.1 _ _ _ _ o s c a (a7 _ d)))))
def zrI{f:K}{p0:Int}{p1:LI}{a2 p:OA}{q s:Nat}{j:Int}{g:LI}(Q:I64 p0)(A:Sl tI64 f a2 q p1)(R:I64 j)(B:Sl tI64 f p s g){r:Bool}(a:zi7 p0 p1 j g=some r):
 fP 196 #[iv p0,vl a2 p1 q,iv j,vl p g s] f (λv h=>f=h/\v=.bool r):=by
 refine fnc 50 [] func196 ntmps196 λd=>cT 1 (cs (cT 3 (cc _ a (λb a=>?_) λb a=>?_)))
 ·exact cT 4 (crt (zd (sj a▸rT 8 (bW (p0<j)) ⟨rfl,rfl⟩)))
 refine ckt (cs (cT 5 (cc _ a (λb a=>?_) λb a=>?_)))
 ·exact cT 6 (crt (zd (sj a▸rT 8 (bW ((p1.length:Int)<(g.length:Int))) ⟨rfl,rfl⟩)))
 refine ckt (cs (cT 1 (cb 0 ?_)));refine zi 0 (λZ=>∀(i:Env),znf=some r->Z (i) f) ?_ λH=>?_
 ·intro i a;exact zf (za (cT 1 (crt (sj a▸rT 8 ff ⟨rfl,rfl⟩))))
 refine lB (J:=λc I h=>(∃i,I=ups i [(1,vl a2 p1 q),(3,vl p g s),(9,iv c)])/\f=h/\I64 c) kr a ⟨⟨_,eY⟩,rfl,(iK 0)⟩ ?_;rintro c _ _ ⟨⟨i,rfl⟩,rfl,L⟩ G a e;refine cs (cT 4 (cc _ a (λb a=>?_) λb a=>?_))
 ·refine ckt (cs (cb 1 (cs (cd 8 (dd 2 (bE a λS u a=>dI A u λT U M k=>dV k.at 0 (dd 2 (bE a λV w a=>dI B w λX Y N l=>dV l.at 0 (de (dT 1 (cc _ a (λb a=>?_) λb a=>?_)))))))))))
  ·exact cs (cd 8 (dd 2 (bE a λD y a=>dI A y λa0 a1 O m=>dV m.at 0 (dd 2 (bE a λE z a=>dI B z λa3 a4 P n=>dV n.at 0 (de (dT 2 (crt (zj (zd (zt (zj (zd (sj (e _ a)▸rT 8 (bW (D<E)) ⟨rfl,rfl⟩))))))))))))))
  exact ck (zc (za (cr (od 3 (oe (ze (sj a).symm ⟨⟨_,eY⟩,rfl,(zp _)⟩))))))
 exact cx 0 (zg (zh (zo rfl (H   _  (e _ a)))))
def zq3{z:K}{p0:Int}{p1:LB}{a2:OA}{A:Nat}(a4:I64 p0)(f4:Sl z6 z a2 A p1){r:Int×LI}(b:zib p0 p1=some r):
 fP 162 #[iv p0,vl a2 p1 A] z (λv i=>Step [] z i/\∃(a6:OA)(c7:Nat),v=.tuple #[iv r.1,vl a6 r.2 c7]/\I64 r.1/\Sl tI64 i a6 c7 r.2):=by
 refine fnc 41 [] func162 ntmps162 λo=>cO 2 (otx (od 1 (otx (oT (t:=tI64) 2 162001 true [] o rfl λc8 c9 o d0 a8=>dT 1 (cs (cT 1 (cb 0 ?_)))))));refine zi 0 (λZ=>∀(j:Int)(k:LI)(m:OA)(n:Nat)(e:Env)(g:K),Step [] z g->I64 j->Sl tI64 g m n k->ziy j k=some r->Z (ups e [(6,iv j),(7,vl m k n)]) g) ?_ λJ1=>?_
 ·intro j k m n e g o S a9 b;refine zf (za (cT 4 (crt ?_)));obtain rfl:=sj b;exact rt [.tmp 4,.tmp 5] [iv j,vl m k n] ⟨kr,kr,trivial⟩ (⟨o,_,_,rfl,S,a9⟩)
 refine lB (J:=λa E' i=>∃(p:OA)(q:Nat),(∃e,E'=ups e [(0,iv p0),(1,vl a2 p1 A),(6,iv a.1),(7,vl p a.2.1 q),(8,iv a.2.2)])/\Step [] z i/\I64 a.1/\Sl tI64 i p q a.2.1/\I64 a.2.2) kr b ⟨_,_,⟨_,eY⟩,o,(iK (-1)),a8.sl,(iK 1)⟩ ?_;rintro a _ c4 ⟨p,q,⟨e,rfl⟩,o,l,f,B⟩ s b N;refine cs (cT 3 (cc _ b (λU b=>?_) λU b=>?_))
 ·refine ckt ?_;refine zm (λZ=>∀(u:Int)(w:LI)(C:OA)(D:Nat)(e:Env)(h:K),Step [] z h->I64 u->Sl tI64 h C D w->zdb a u w=some s->cwp prog 41 (sub (zB f162) [1,1,0,0,1,0,1,1,1]) Z (ups e [(0,iv p0),(1,vl a2 p1 A),(6,iv u),(7,vl C w D),(8,iv a.2.2)]) h) ?_ λJ2=>?_
  ·intro u w C D e h o V b2 b;exact cr (od 3 (oe (ze (sj b).symm ⟨_,_,⟨_,eY⟩,o,V,b2,(zp _)⟩)))
  refine cs (cb 1 (cO 3 (bE b λy X b=>ocl 22 (ztz a4 (f4.X o) (iK 0) B X) ?_)));rintro _ c5 ⟨O,d2,b3,d3,d4,d5,d6,d7,d8,rfl,c,d,Y,b4,b5,P,E⟩;have c:=gm o.1 c;have o:=o.tr0 O;have f:=f.X O;refine od 5 (otx (od 2 (bE b λG a0 b=>ocl 27 (zqz (p0:=y.1) d Y b4 b5.sl P (show((b3,208003):Tag).1<_ from d.tlt) B (zk kr) a0) ?_)));rintro _ a1 ⟨Q,b6,b7,d9,e0,rfl,R,H,e1,I⟩;clear I;have o:=o.trM (zr2 (zxu (gm c d.ge)) (zwp (P.own c))) Q;have f:=f.X Q;have d:=H;refine dT 1 ?_;refine zm (λZ=>∀(L:Bool)(e:Env),zaM a y G L=some s->cwp prog 41 (sub (zB f162) [1,1,1,0,0,1,0,0,1,0,1,1,1]) Z (ups e [(0,iv p0),(1,vl a2 p1 A),(6,iv a.1),(7,vl p a.2.1 q),(8,iv a.2.2),(10,iv y.2),(11,vl b6 G.1 b7),(36,.bool L)]) a1) ?_ λJ3=>?_
  ·intro L e b;refine cc _ b (λU b=>?_) λU b=>?_
   ·exact cO 2 (otr (od 2 (oe (zc (za (zl eY (J2 y.2 G.1 _ _ _ _ o E R b)))))))
   exact ck (zc (za (zl eY (J2 a.1 a.2.1 _ _ _ _ o l f b))))
  refine cO 2 (osp 30 (decide (a.1<0)) b (λhg b=>?_) λhg b=>?_)
  ·refine od 4 (bE b λb9 a3 b=>ocl 35 (zrI E R l f a3) ?_);rintro _ _ ⟨rfl,rfl⟩;exact dT 1 (zl eY (J3 b9  _  b))
  exact oz [31,32,33,34,35] (dT 1 (zl eY (J3 true  _  b)))
 exact cx 0 (zg (zh (zo eY (J1 a.1 a.2.1 _ _ _ _ o l f (N _ b)))))
def zrG{e:K}{p0:LG×LT}{f g:Nat}{u w x:OA}{c2 y z:Nat}{p1:LP}{b c:Nat}{h:Int}(F:At e f g [vl u p0.1 c2,vl w p0.2 y])(G:Sl tGlue e u c2 p0.1)(f6:Sl tTile e w y p0.2)(m1:At e b c [vl x p1 z])(A:Sl tPlaced e x z p1)(m:I64 h){r:Bool×Int}(a:zi2 p0 p1 h=some r):
 fP 131 #[pt f g,pt b c,iv h] e (λv B=>Step [] e B/\v=.tuple #[.bool r.1,iv r.2]/\I64 r.2):=by
 refine fnc 38 [] func131 ntmps131 λo=>cT 2 (cs (cx_ 14 [0,1,2,3,4,5,6,8,7,9,10,11,12,13] [7,9] 14 [] (xp 13 (pt b c) (xp 14 (pt b c) (xp 15 (pt b c) (xV (m1.Y o) 0 (xp 17 (iv (p1.length:Int)) (xp 18 (pt f g) (xp 19 (pt b c) (xp 21 (iv h) (bE a λM n a=>xcl 20 (zkc ((F.Y o).part 0 2) G f6 ((m1.Y o).part 0 1) A n) ?_)))))))))));rintro _ H ⟨i,N,O,rfl,C⟩;refine⟨i,?_⟩;have o:=o.tr0 i;refine bE a λd p a=>xcl 22 (zrH (zf6 A.most) C m p) ?_;rintro _ I ⟨j,k,l,rfl,q,D⟩;refine⟨j,?_⟩;have o:=o.tr0 j;refine xp 12 (.tuple #[iv d.1,vl k d.2 l]) (xp 23 (iv d.1) (xp 24 (vl k d.2 l) (xp 8 (iv d.1) (xe (dT 1 (cs (cT 2 (cc _ a (λs a=>?_) λs a=>?_))))))))
 ·refine cT 2 (crt (zd ?_));obtain rfl:=sj a;exact rt [.tmp 6,.tmp 7] [ff,iv 4] ⟨kr,kr,trivial⟩ (⟨o,rfl,(iK 4)⟩)
 refine ckt (cs (cT 2 (cc _ a (λs a=>?_) λs a=>?_)))
 ·refine cT 2 (crt (zd ?_));obtain rfl:=sj a;exact rt [.tmp 6,.tmp 7] [tt,iv 0] ⟨kr,kr,trivial⟩ (⟨o,rfl,(iK 0)⟩)
 refine ckt (cO 2 (bE a λE t a=>oC o (zq3 q D t) ?_));rintro J P o _ ⟨Q,R,rfl,L,S⟩;refine od 5 (otx (dT 5 (crt ?_)));obtain rfl:=sj a;exact rt [.tmp 6,.tmp 7] [bW (E.1≥h),iv 0] ⟨kr,kr,trivial⟩ (⟨o,rfl,(iK 0)⟩)
def zqV{f:K}{p0:TS×(LP)×Int}{a b:Nat}{w x y:OA}{c2 z A:Nat}(e:At f a b [vl w p0.1.1 c2,vl x p0.1.2 z,vl y p0.2.1 A,iv p0.2.2])(p:Sl tGlue f w c2 p0.1.1)(f6:Sl tTile f x z p0.1.2)(B:Sl tPlaced f y A p0.2.1)(i:I64 p0.2.2){r:Bool}(c:zfi p0=some r):
 fP 102 #[pt a b] f (λv C=>Step [] f C/\v=.bool r):=by
 refine fnc 56 [] func102 ntmps102 λo=>cT 1 (cs ?_);refine zm (λZ=>∀(j:Bool)(D:Env)(g:K),Step [] f g->zfV p0 j=some r->cwp prog 56 (sub (zB f102) [1,0,1]) Z (ups D [(0,pt a b),(36,.bool j)]) g) ?_ λk=>?_
 ·intro j D g o c;refine cc _ c (λF c=>?_) λF c=>?_
  ·exact cT 1 (crt (zd (sj c▸rT 2 ff ⟨o,rfl⟩)))
  refine ckt (cs (cx_ 15 [0,1,2,3,4,5,6,7,8,9,10,11,12,13,14] [10] 15 [] (xp 38 (pt a b) (xp 39 (pt a b) (xp 40 (pt a b) (xp 41 (pt a b) (xp 42 (pt a b) (xp 43 (pt a (b+2)) (xp 44 (pt a b) (xp 45 (pt a b) (xp 46 (pt a (b+3)) (xV (e.Y o) 3 (bE c λd q c=>xcl 48 (zrG ((e.Y o).part 0 2) (p.X o) (f6.X o) ((e.Y o).part 2 1) (B.X o) i q) ?_)))))))))))));rintro _ G ⟨l,rfl,H⟩;refine⟨l,?_⟩;have o:=o.tr0 l;refine xp 37 (.tuple #[.bool d.1,iv d.2]) (xp 49 (.bool d.1) (xp 50 (iv d.2) (xp 3 (.bool d.1) (xe (od 1 (otx (od 1 (osp 52 (d.1) c (λh c=>?_) λh c=>?_))))))))
  ·exact oz [53,54] (dT 2 (crt (sj c▸rT 2 ff ⟨o,rfl⟩)))
  exact dT 4 (crt (sj c▸rT 2 (bW (d.2=0)) ⟨o,rfl⟩))
 refine cs (cx_ 12 [0,1,2,3,4,5,6,7,8,9,10,11] [3] 12 [] (xp 5 (pt a b) (xp 6 (pt a b) (xp 7 (pt a b) (bE c λm s c=>xcl 8 (zqX ((e.Y o).part 0 2) p f6 s) ?_)))));rintro _ I ⟨n,rfl⟩;refine⟨n,?_⟩;have o:=o.tr0 n;refine xp 9 (.bool (!m)) ?_;refine xsp 10 (!m) c ?_ ?_
 ·intro h c;refine xp 11 (pt a b) (xp 12 (pt a b) (xp 13 (pt a b) (xp 14 (pt a b) (xp 15 (pt a b) (xp 16 (pt a (b+2)) (xe (bE c λE t c=>oC o (znI ((e.Y o).part 0 2) (p.X o) (f6.X o) ((e.Y o).part 2 1) (B.X o) t) ?_)))))));rintro J L o _ rfl;refine od 2 (osp 20 (!E) c (λh c=>?_) λh c=>?_)
  ·refine od 4 (oV (e.Y o) 2 (od 3 ?_));refine osp 29 (decide ((p0.2.1.length:Int)=0)) c ?_ ?_
   ·intro h c;refine od 3 (oV (e.Y o) 3 (bE c λx23 u c=>ocl 34 (zoG i u) ?_));rintro _ _ ⟨rfl,rfl⟩;exact dT 2 (zl eY (k (!x23)  _ _ o  c))
   intro h c;exact oz [30,31,32,33,34,35] (dT 1 (zl eY (k true  _ _ o  c)))
  exact oz [21,22,23,24,25,26,27] (od 2 (oz [30,31,32,33,34,35] (dT 1 (zl eY (k true  _ _ o  c)))))
 intro h c;refine xs 11 (xs 12 (xs 13 (xs 14 (xs 15 (xs 16 (xe (oz [17,18] (od 2 (oz [21,22,23,24,25,26,27] (od 2 (oz [30,31,32,33] ?_)))))))))));exact oz [34,35] (dT 1 (zl eY (k true  _ _ o  c)))
def zsM{b:K}{p0:TS×(LP)×Int}{e f:Nat}{n p q g:OA}{c2 s t h:Nat}{p1:LP}{i j:Nat}(u:At b e f [vl n p0.1.1 c2,vl p p0.1.2 s,vl q p0.2.1 t,iv p0.2.2])(w:Sl tGlue b n c2 p0.1.1)(f6:Sl tTile b p s p0.1.2)(D:Sl tPlaced b q t p0.2.1)(k:I64 p0.2.2)(m1:At b i j [vl g p1 h])(x:Sl tPlaced b g h p1){r:Int}(a:znH p0 p1=some r):
 fP 72 #[pt e f,pt i j] b (λv y=>Step [] b y/\v=iv r/\I64 r):=by
 refine fnc 16 [] func72 ntmps72 λo=>cT 1 (cs ?_);refine zm (λZ=>∀(d:Bool)(z:Env)(c:K),Step [] b c->zg6 d=some r->cwp prog 16 (sub (zB f72) [1,0,1]) Z (ups z [(15,.bool d)]) c) ?_ λA=>?_
 ·intro d z c o a;refine cc _ a (λE a=>?_) λE a=>?_
  ·exact cT 1 (crt (zd (sj a▸rT 4 (iv 1) ⟨o,rfl,(iK 1)⟩)))
  exact ckt (cT 1 (crt (sj a▸rT 4 (iv 0) ⟨o,rfl,(iK 0)⟩)))
 refine cO 1 (bE a λB l a=>oC o (zqV ((u.Y o).part 0 4) w f6 D k l) ?_);rintro F I o _ rfl;refine od 1 (osp 8 (!B) a (λG a=>?_) λG a=>?_)
 ·refine od 4 (bE a λC m a=>oC o (znI ((u.Y o).part 0 2) (w.X o) (f6.X o) ((m1.Y o).part 0 1) (x.X o) m) ?_);rintro H J o _ rfl;exact dT 2 (zl eY (A (!C)  _ _ o  a))
 exact oz [9,10,11,12,13,14] (dT 1 (zl eY (A true  _ _ o  a)))
def zrD{d:K}{p0:Int×LP×LP×LI×LM}{e f:Nat}{a2 i j g:OA}{k l m h:Nat}(c:At d e f [iv p0.1,vl a2 p0.2.1 k,vl i p0.2.2.1 l,vl j p0.2.2.2.1 m,vl g p0.2.2.2.2 h])(p:I64 p0.1)(t:Sl tPlaced d a2 k p0.2.1)(u:Sl tPlaced d i l p0.2.2.1)(q:Sl tI64 d j m p0.2.2.2.1)(s:Sl (tSl tI64) d g h p0.2.2.2.2){r:Bool}(a:zgu p0=some r):
 fP 74 #[pt e f] d (λv n=>d=n/\v=.bool r):=by
 refine fnc 63 [] func74 ntmps74 λo=>cO 1 (otx (od 3 (oV (c.Y o) 0 (od 2 (otx (od 1 (osp 10 (decide (p0.1<=4)) a (λb a=>?_) λb a=>?_)))))))
 ·refine od 3 (oV (c.Y o) 1 (od 3 ?_));refine osp 18 (decide ((p0.2.1.length:Int)=0)) a ?_ ?_
  ·intro b a;refine oz [19,20,21,22,23,24,25,26,27,28,29,30,31] (od 2 (oz [34,35,36,37,38,39,40,41,42] ?_));exact oz [43,44,45,46] (od 2 (oz [49,50,51,52,53,54,55,56,57,58,59,60,61] (dT 2 (crt (sj a▸rT 2 ff ⟨rfl,rfl⟩)))))
  intro b a;refine od 3 (oV (c.Y o) 0 (od 1 (osp 24 (decide (p0.1=4)) a (λb a=>?_) λb a=>?_)))
  ·refine od 3 (oV (c.Y o) 2 (od 4 ?_));refine osp 33 (decide ((p0.2.2.1.length:Int)=0)) a ?_ ?_
   ·intro b a;refine oz [34,35,36,37,38,39,40,41,42,43,44,45,46] (od 2 (oz [49,50,51,52,53,54,55,56,57] ?_));exact oz [58,59,60,61] (dT 2 (crt (sj a▸rT 2 ff ⟨rfl,rfl⟩)))
   intro b a;refine od 3 (oV (c.Y o) 0 (od 1 (osp 39 (decide (p0.1=6)) a (λb a=>?_) λb a=>?_)))
   ·refine od 3 (oV (c.Y o) 3 (od 4 ?_));refine osp 48 (decide ((p0.2.2.2.1.length:Int)=0)) a ?_ ?_
    ·intro b a;exact oz [49,50,51,52,53,54,55,56,57,58,59,60,61] (dT 2 (crt (sj a▸rT 2 ff ⟨rfl,rfl⟩)))
    intro b a;refine od 3 (oV (c.Y o) 0 (od 1 (osp 54 (decide (p0.1=5)) a (λb a=>?_) λb a=>?_)))
    ·exact od 3 (oV (c.Y o) 4 (dT 5 (crt (sj a▸rT 2 (bW ((p0.2.2.2.2.length:Int)=0)) ⟨rfl,rfl⟩))))
    exact oz [55,56,57,58,59,60] (dT 3 (crt (sj a▸rT 2 tt ⟨rfl,rfl⟩)))
   refine oz [40,41,42,43,44,45] (od 6 (oV (c.Y o) 0 (od 1 (osp 54 (decide (p0.1=5)) a (λb a=>?_) λb a=>?_))))
   ·exact od 3 (oV (c.Y o) 4 (dT 5 (crt (sj a▸rT 2 (bW ((p0.2.2.2.2.length:Int)=0)) ⟨rfl,rfl⟩))))
   exact oz [55,56,57,58,59,60] (dT 3 (crt (sj a▸rT 2 tt ⟨rfl,rfl⟩)))
  refine oz [25,26,27,28,29,30] (od 6 (oV (c.Y o) 0 (od 1 (osp 39 (decide (p0.1=6)) a (λb a=>?_) λb a=>?_))))
  ·refine od 3 (oV (c.Y o) 3 (od 4 ?_));refine osp 48 (decide ((p0.2.2.2.1.length:Int)=0)) a ?_ ?_
   ·intro b a;exact oz [49,50,51,52,53,54,55,56,57,58,59,60,61] (dT 2 (crt (sj a▸rT 2 ff ⟨rfl,rfl⟩)))
   intro b a;refine od 3 (oV (c.Y o) 0 (od 1 (osp 54 (decide (p0.1=5)) a (λb a=>?_) λb a=>?_)))
   ·exact od 3 (oV (c.Y o) 4 (dT 5 (crt (sj a▸rT 2 (bW ((p0.2.2.2.2.length:Int)=0)) ⟨rfl,rfl⟩))))
   exact oz [55,56,57,58,59,60] (dT 3 (crt (sj a▸rT 2 tt ⟨rfl,rfl⟩)))
  refine oz [40,41,42,43,44,45] (od 6 (oV (c.Y o) 0 (od 1 (osp 54 (decide (p0.1=5)) a (λb a=>?_) λb a=>?_))))
  ·exact od 3 (oV (c.Y o) 4 (dT 5 (crt (sj a▸rT 2 (bW ((p0.2.2.2.2.length:Int)=0)) ⟨rfl,rfl⟩))))
  exact oz [55,56,57,58,59,60] (dT 3 (crt (sj a▸rT 2 tt ⟨rfl,rfl⟩)))
 refine oz [11,12,13,14,15,16] (od 5 (oV (c.Y o) 0 (od 1 (osp 24 (decide (p0.1=4)) a (λb a=>?_) λb a=>?_))))
 ·refine od 3 (oV (c.Y o) 2 (od 4 ?_));refine osp 33 (decide ((p0.2.2.1.length:Int)=0)) a ?_ ?_
  ·intro b a;refine oz [34,35,36,37,38,39,40,41,42,43,44,45,46] (od 2 (oz [49,50,51,52,53,54,55,56,57] ?_));exact oz [58,59,60,61] (dT 2 (crt (sj a▸rT 2 ff ⟨rfl,rfl⟩)))
  intro b a;refine od 3 (oV (c.Y o) 0 (od 1 (osp 39 (decide (p0.1=6)) a (λb a=>?_) λb a=>?_)))
  ·refine od 3 (oV (c.Y o) 3 (od 4 ?_));refine osp 48 (decide ((p0.2.2.2.1.length:Int)=0)) a ?_ ?_
   ·intro b a;exact oz [49,50,51,52,53,54,55,56,57,58,59,60,61] (dT 2 (crt (sj a▸rT 2 ff ⟨rfl,rfl⟩)))
   intro b a;refine od 3 (oV (c.Y o) 0 (od 1 (osp 54 (decide (p0.1=5)) a (λb a=>?_) λb a=>?_)))
   ·exact od 3 (oV (c.Y o) 4 (dT 5 (crt (sj a▸rT 2 (bW ((p0.2.2.2.2.length:Int)=0)) ⟨rfl,rfl⟩))))
   exact oz [55,56,57,58,59,60] (dT 3 (crt (sj a▸rT 2 tt ⟨rfl,rfl⟩)))
  refine oz [40,41,42,43,44,45] (od 6 (oV (c.Y o) 0 (od 1 (osp 54 (decide (p0.1=5)) a (λb a=>?_) λb a=>?_))))
  ·exact od 3 (oV (c.Y o) 4 (dT 5 (crt (sj a▸rT 2 (bW ((p0.2.2.2.2.length:Int)=0)) ⟨rfl,rfl⟩))))
  exact oz [55,56,57,58,59,60] (dT 3 (crt (sj a▸rT 2 tt ⟨rfl,rfl⟩)))
 refine oz [25,26,27,28,29,30] (od 6 (oV (c.Y o) 0 (od 1 (osp 39 (decide (p0.1=6)) a (λb a=>?_) λb a=>?_))))
 ·refine od 3 (oV (c.Y o) 3 (od 4 ?_));refine osp 48 (decide ((p0.2.2.2.1.length:Int)=0)) a ?_ ?_
  ·intro b a;exact oz [49,50,51,52,53,54,55,56,57,58,59,60,61] (dT 2 (crt (sj a▸rT 2 ff ⟨rfl,rfl⟩)))
  intro b a;refine od 3 (oV (c.Y o) 0 (od 1 (osp 54 (decide (p0.1=5)) a (λb a=>?_) λb a=>?_)))
  ·exact od 3 (oV (c.Y o) 4 (dT 5 (crt (sj a▸rT 2 (bW ((p0.2.2.2.2.length:Int)=0)) ⟨rfl,rfl⟩))))
  exact oz [55,56,57,58,59,60] (dT 3 (crt (sj a▸rT 2 tt ⟨rfl,rfl⟩)))
 refine oz [40,41,42,43,44,45] (od 6 (oV (c.Y o) 0 (od 1 (osp 54 (decide (p0.1=5)) a (λb a=>?_) λb a=>?_))))
 ·exact od 3 (oV (c.Y o) 4 (dT 5 (crt (sj a▸rT 2 (bW ((p0.2.2.2.2.length:Int)=0)) ⟨rfl,rfl⟩))))
 exact oz [55,56,57,58,59,60] (dT 3 (crt (sj a▸rT 2 tt ⟨rfl,rfl⟩)))
def zpH{g:K}{p0:LP}{i j:Nat}{p:OA}{c2:Nat}(x:At g i j [vl p p0 c2])(y:Sl tPlaced g p c2 p0){r:(LP)}(m:zdU p0=some r):
 fP 170 #[pt i j] g (λv k=>Step [] g k/\∃(q:OA)(s:Nat),v=.agg #[vl q r s]/\Sl tPlaced k q s r):=by
 refine fnc 10 [] func170 ntmps170 λo=>csr (oA 48 170001 [sl none 0 0] o λz D o F a=>otx (oT (t:=tPlaced) 106 170002 true [] o rfl λE A o u c=>?_));have a:=a.Y u;refine od 3 (oV (x.Y o) 0 (bE m λd n m=>oP 46 c (y.X o) o.1 n λe f B l b hw=>?_));clear hw;have o:=o.trG (c.own (gl _)) l;have a:=a.X l (c.bn a (zk kr));refine od 1 (oS 0 [vl e d f] a o λC o w h=>?_);have b:=b.X w (b.nb a (zk kr));have a:=h;refine ot (crt ?_);obtain rfl:=sj m;exact rt [.cell 2 48] [.agg #[vl e d f]] ⟨⟨z,0,[vl e d f],rfl,rfl,kr,kr,(a.at.part 0 1).2⟩,trivial⟩ (⟨o,_,_,rfl,b.sl⟩)
def znK{b:K}{p0:LP}{d e:Nat}{j:OA}{c2:Nat}{p1:Int×Int}(k:At b d e [vl j p0 c2])(l:Sl tPlaced b j c2 p0)(m:I64 p1.1)(n:I64 p1.2){r:Int}(a:zdd p0 p1=some r):
 fP 167 #[pt d e,.agg #[iv p1.1,iv p1.2]] b (λv p=>Step [] b p/\v=iv r/\I64 r):=by
 refine fnc 19 [] func167 ntmps167 λo=>csr (oB 104 167001 [iv p1.1,iv p1.2] o λD y o E f=>od 1 (otx (od 1 (oL f.at 0 2 (bE a λz g a=>oC o (zhb ((k.Y o).part 0 1) (l.X o) m n g) ?_)))));rintro s A o _ ⟨rfl,t⟩;refine dT 1 (cs (cT 2 (cc _ a (λu a=>?_) λu a=>?_)))
 ·exact cT 1 (crt (zd (sj a▸rT 4 (iv (-1)) ⟨o,rfl,(iK (-1))⟩)))
 exact ckt (cO 3 (oV (k.Y o) 0 (od 1 (bE a λq h a=>oJ (l.X o) h λB C w x i c=>od 1 (oV c.at 2 (dT 1 (crt (sj a▸rT 4 (iv q.2) ⟨o,rfl,i⟩))))))))
end Go.Lf
