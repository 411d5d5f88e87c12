import Derived.Test.YtfbcemhoeecepaaGreatDoorE
set_option linter.all false
set_option maxRecDepth 100000
set_option maxHeartbeats 4000000
namespace Go.Lf
open Go Go.Proofs
theorem zis {κ:K} {p0:LI} {a1:OA} {c2:Nat} {p1:Int→Option Bool} {fi1:Nat} {cv1:Array Value} (f3:Sl tI64 κ a1 c2 p0) (hf1:zdh Tryz.prog fi1=true) (H1:∀ {κ':K},Step [] κ κ'→∀ {q1_0:Int} (hb4:I64 q1_0) {r:Bool},p1 q1_0=some r→Fn Tryz.prog fi1 (#[iv q1_0]++cv1) κ' (fun v κ''=>Step [] κ' κ''∧v=.bool r)) {r:Int} (hr:zec p0 p1=some r) :
 Fn Tryz.prog 194 #[sl a1 p0.length c2,.func (.func fi1) #[] cv1] κ (fun v κ'=>Step [] κ κ'∧v=iv r∧I64 r):=by
 refine fnc 19 [] Tryz.func194 Tryz.ntmps194 fun hs=>csr (op 4 (iv 0) (ot (cs (csr (op 6 (sl a1 p0.length c2) (op 7 (iv (p0.length:Int)) (op 8 (iv 0) (ot ?_))))))))
 refine cb 0 ?_
 refine zj 0 (fun Z=>∀ (E0:Env) (κ8:K) (hs:Step [] κ κ8),zc3=some r→Z (E0) κ8) ?_ fun J1=>?_
 ·intro E0 κ8 hs hr
  refine zg (za (csr (op 4 (iv (-1)) (ot (crt ?_)))))
  obtain rfl:=sj hr
  refine rt [.tmp 4] [iv (-1)] ⟨rfl,trivial⟩ ?_
  exact ⟨hs,rfl,(show I64 (-1) by unfold I64;omega)⟩
 obtain ⟨x9,hx9,hrx9⟩:=bind_some hr
 refine zo (F:=zc2 p0 p1) (J:=fun (sx9:Int) (E':Env) (κ':K)=>(∃ E0,E'=upd (upd (upd (upd (E0) 0 (sl a1 p0.length c2)) 1 (.func (.func fi1) #[] cv1)) 7 (iv (p0.length:Int))) 8 (iv sx9))∧Step [] κ κ'∧I64 sx9) (s0:=0) (x:=x9) kr hx9 ⟨⟨_,(eA 8 (eA 7 (eA 1 (eA 0 rfl))))⟩,hs,(show I64 0 by unfold I64;omega)⟩ ?_
 rintro sx9 _ κ10 ⟨⟨E0,rfl⟩,hs,hb7⟩ yyx9 hr hdx9
 refine csr (op 9 (bW (sx9<(p0.length:Int))) (ot (cs ?_)))
 refine cc (decide (sx9<(p0.length:Int))) hr ?_ ?_
 ·intro hc hr
  refine ckt (cs (cb 1 (csr (op 10 (iv sx9) (op 5 (iv sx9) (otx (op 11 (.func (.func fi1) #[] cv1) (op 12 (sl a1 p0.length c2) (op 13 (iv sx9) ?_)))))))))
  obtain ⟨x11,hx11,hr⟩:=bind_some hr
  obtain ⟨b12,o13,eab12,i0x11,i1x11,csx11,p_b12,owx11⟩:=(f3.step hs).idx hx11
  obtain ⟨rfl,hb14⟩:=owx11
  replace p_b12:PubAt κ10 b12 (o13+sx9.toNat*1) [iv x11]:=p_b12
  refine oi 14 95 2 1 p0.length c2 .i64 sx9 eab12 i0x11 i1x11 (o1 15 2 (iv x11) (p_b12.at.one (o:=0) rfl) ?_)
  obtain ⟨x15,hx15,hr⟩:=bind_some hr
  refine ocl 16 (H1 hs (q1_0:=x11) hb14 hx15) ?_ kr (fun w=>zbP (show _=(callFunc fi1 (#[iv x11]++cv1)).run _ w by kernel_rfl) hf1)
  rintro _ κ16 ⟨s17,rfl⟩
  replace hs:=hs.tr0 s17
  refine ot ?_
  refine cc (x15) hr ?_ ?_
  ·intro hc hr
   refine csr (op 17 (iv sx9) (op 4 (iv sx9) (ot (crt (zf (zb ?_))))))
   have hx:=hdx9 _ (sj hr).symm
   subst hx
   replace hr:=hrx9
   refine zt (zf (zb ?_))
   obtain rfl:=sj hr
   refine rt [.tmp 4] [iv sx9] ⟨rfl,trivial⟩ ?_
   exact ⟨hs,rfl,hb7⟩
  intro hc hr
  refine ck (zd (za (cr (op 18 (iv (w64 (sx9+1))) (op 8 (iv (w64 (sx9+1))) (oe ?_))))))
  exact ze (sj hr).symm ⟨⟨_,(eA 8 (eA 7 (eA 1 (eA 0 rfl))))⟩,hs,(zq _)⟩
 intro hc hr
 refine cx 0 (zh ?_)
 have hx:=hdx9 _ (sj hr).symm
 subst hx
 replace hr:=hrx9
 refine zi ?_
 exact zr rfl (J1   _ _ hs  hr)
theorem zhz {κ:K} {p0:LI} {a1:OA} {c2:Nat} {p1:Int→Option Bool} {fi1:Nat} {cv1:Array Value} (f3:Sl tI64 κ a1 c2 p0) (hf1:zdh Tryz.prog fi1=true) (H1:∀ {κ':K},Step [] κ κ'→∀ {q1_0:Int} (hb4:I64 q1_0) {r:Bool},p1 q1_0=some r→Fn Tryz.prog fi1 (#[iv q1_0]++cv1) κ' (fun v κ''=>Step [] κ' κ''∧v=.bool r)) {r:Bool} (hr:zbt p0 p1=some r) :
 Fn Tryz.prog 167 #[sl a1 p0.length c2,.func (.func fi1) #[] cv1] κ (fun v κ'=>Step [] κ κ'∧v=.bool r):=by
 refine fnc 9 [] Tryz.func167 Tryz.ntmps167 fun hs=>csr (op 4 (.bool false) (otx (op 5 (sl a1 p0.length c2) (op 6 (.func (.func fi1) #[] cv1) ?_))))
 obtain ⟨x5,hx5,hr⟩:=bind_some hr
 refine ocl 7 (zis f3 (fi1:=fi1) (cv1:=cv1) hf1 (fun s=>H1 (hs.tr0 s)) hx5) ?_
 rintro _ κ7 ⟨s8,rfl,hb6⟩
 replace hs:=hs.tr0 s8
 refine op 8 (bW (x5≥0)) (op 4 (bW (x5≥0)) (ot (crt ?_)))
 obtain rfl:=sj hr
 refine rt [.tmp 4] [bW (x5≥0)] ⟨rfl,trivial⟩ ?_
 exact ⟨hs,rfl⟩
theorem zkn {κ:K} {p0:Int} {p1:LG×LT} {pb1 po1:Nat} {a2:OA} {c3:Nat} {a5:OA} {c6:Nat} (hb1:I64 p0) (m1:At κ pb1 po1 [sl a2 p1.1.length c3,sl a5 p1.2.length c6]) (f4:Sl tGlue κ a2 c3 p1.1) (f7:Sl zQ κ a5 c6 p1.2) {r:Bool} (hr:za6 p0 p1=some r) :
 Fn Tryz.prog 168 #[iv p0,pt pb1 po1] κ (fun v κ'=>κ=κ'∧v=.bool r):=by
 refine fnc 10 [] Tryz.func168 Tryz.ntmps168 fun hs=>csr (op 3 (.bool false) (otx (op 4 (iv p0) (op 5 (pt pb1 po1) (o1 6 22 (sl a2 p1.1.length c3) ((m1.step0 hs).one (o:=0) rfl) (op 7 (iv (p1.1.length:Int)) ?_))))))
 obtain ⟨x8,hx8,hr⟩:=bind_some hr
 refine ocl 8 (zbh hb1 (show I64 0 by unfold I64;omega) (zg5 f4.most) hx8) ?_
 rintro _ _ ⟨rfl,rfl⟩
 refine op 9 (.bool (!x8)) (op 3 (.bool (!x8)) (ot (crt ?_)))
 obtain rfl:=sj hr
 refine rt [.tmp 3] [.bool (!x8)] ⟨rfl,trivial⟩ ?_
 exact ⟨rfl,rfl⟩
theorem zlX {κ:K} {p0:LG×LT} {a1:OA} {c2:Nat} {a4:OA} {c5:Nat} (f3:Sl tGlue κ a1 c2 p0.1) (f6:Sl zQ κ a4 c5 p0.2) {r:Bool} (hr:ze1 p0=some r) :
 Fn Tryz.prog 131 #[.agg #[sl a1 p0.1.length c2,sl a4 p0.2.length c5]] κ (fun v κ'=>Step [] κ κ'∧v=.bool r):=by
 refine fnc 80 [] Tryz.func131 Tryz.ntmps131 fun hs=>csr (zv (d:=1) (T:=25) (κ.H.size,131001) hs.1 (.agg #[sl a1 p0.1.length c2,sl a4 p0.2.length c5]) [sl a1 p0.1.length c2,sl a4 p0.2.length c5] kr kr rfl fun b7 κ8 s9 B_b7=>?_)
 replace hs:=hs.tr0 s9
 refine op 2 (.bool false) (ot (cs ?_))
 refine zl (fun Z=>∀ (y10:Bool) (E0:Env),zeF p0 y10=some r→cwp Tryz.prog 80 (sub (zC Tryz.f131) [1,0,1]) Z (upd (upd (E0) 1 (pt b7 0)) 19 (.bool y10)) κ8) ?_ fun J1=>?_
 ·intro y10 E0 hr
  refine cc (y10) hr ?_ ?_
  ·intro hc hr
   refine csr (op 2 (.bool false) (ot (crt (zb ?_))))
   obtain rfl:=sj hr
   refine rt [.tmp 2] [.bool false] ⟨rfl,trivial⟩ ?_
   exact ⟨hs,rfl⟩
  intro hc hr
  refine ckt (csr (omk (d:=20) (T:=240) zpe zoG (κ.H.size,131002) hs.1 fun b11 κ12 s13 B_b11=>?_))
  replace hs:=hs.tr0 s13
  replace B_b7:=B_b7.step0 s13
  refine op 3 (.map (some b11)) (ot (cs (csr (op 21 (pt b7 0) (o1 22 22 (sl a1 p0.1.length c2) (B_b7.at.one (o:=0) rfl) (op 23 (iv (p0.1.length:Int)) (op 24 (iv 0) (ot (cb 0 ?_)))))))))
  refine zj 0 (fun Z=>∀ (E0:Env) (κ17:K) (hs:Step [] κ κ17) (B_b7:Box (κ.H.size,131001) κ17 b7 [sl a1 p0.1.length c2,sl a4 p0.2.length c5] 25),zgB p0=some r→Z (upd (E0) 1 (pt b7 0)) κ17) ?_ fun J2=>?_
  ·intro E0 κ17 hs B_b7 hr
   refine zg (za (csr (omk (d:=48) (T:=240) zpe zoG (κ.H.size,131004) hs.1 fun b18 κ19 s20 B_b18=>?_)))
   replace hs:=hs.tr0 s20
   replace B_b7:=B_b7.step0 s20
   refine op 6 (.map (some b18)) (ot (cs (csr (op 49 (pt b7 1) (o1 50 23 (sl a4 p0.2.length c5) (B_b7.at.one (o:=1) rfl) (op 51 (iv (p0.2.length:Int)) (op 52 (iv 0) (ot (cb 2 ?_)))))))))
   refine zj 2 (fun Z=>∀ (E0:Env) (κ24:K) (hs:Step [] κ κ24),zgA=some r→Z (E0) κ24) ?_ fun J3=>?_
   ·intro E0 κ24 hs hr
    refine zg (za (csr (op 2 (.bool true) (ot (crt ?_)))))
    obtain rfl:=sj hr
    refine rt [.tmp 2] [.bool true] ⟨rfl,trivial⟩ ?_
    exact ⟨hs,rfl⟩
   obtain ⟨x25,hx25,hrx25⟩:=bind_some hr
   refine zo (F:=zaI p0) (J:=fun (sx25:Int×(List (BS×Bool))) (E':Env) (κ':K)=>(∃ E0,E'=upd (upd (upd (upd (upd (E0) 1 (pt b7 0)) 6 (.map (some b18))) 50 (sl a4 p0.2.length c5)) 51 (iv (p0.2.length:Int))) 52 (iv sx25.1))∧Step [] κ κ'∧I64 sx25.1∧Box (κ.H.size,131001) κ' b7 [sl a1 p0.1.length c2,sl a4 p0.2.length c5] 25∧Mp zpe zoG (κ.H.size,131004) κ' b18 sx25.2) (s0:=(0,([]:List (BS×Bool)))) (x:=x25) kr hx25 ⟨⟨_,(eA 52 (eA 51 (eA 50 (eA 6 (eA 1 rfl)))))⟩,hs,(show I64 0 by unfold I64;omega),B_b7,B_b18⟩ ?_
   rintro sx25 _ κ26 ⟨⟨E0,rfl⟩,hs,hb22,B_b7,B_b18⟩ yyx25 hr hdx25
   refine csr (op 53 (bW (sx25.1<(p0.2.length:Int))) (ot (cs ?_)))
   refine cc (decide (sx25.1<(p0.2.length:Int))) hr ?_ ?_
   ·intro hc hr
    refine ckt (cs (cb 3 (csr ?_)))
    obtain ⟨x27,hx27,hr⟩:=bind_some hr
    obtain ⟨b28,o29,eab28,i0x27,i1x27,csx27,p_b28,owx27⟩:=(f6.step hs).idx hx27
    obtain ⟨_,_,rfl,⟨rfl,hb30⟩,⟨a31,c32,rfl,f33⟩⟩:=owx27
    replace p_b28:PubAt κ26 b28 (o29+sx25.1.toNat*2) [strV x27.1,sl a31 x27.2.length c32]:=p_b28
    refine oi 54 23 97 2 p0.2.length c5 .i64 sx25.1 eab28 i0x27 i1x27 (oN 55 97 [strV x27.1,sl a31 x27.2.length c32] (p_b28.at.part 0 2).2 (zz (d:=8) (T:=97) (κ.H.size,131005) hs.1 [strV ([]:BS),sl none 0 0] kr kr kr fun b34 κ35 s36 B_b34=>?_))
    replace hs:=hs.tr0 s36
    replace f33:=f33.step s36
    replace B_b7:=B_b7.step0 s36
    replace B_b18:=B_b18.step0 s36
    refine zn (b:=b34) (off:=0) (T:=97) (.agg #[strV x27.1,sl a31 x27.2.length c32]) [strV x27.1,sl a31 x27.2.length c32] [strV x27.1,sl a31 x27.2.length c32] kr kr B_b34 rfl kr kr kr rfl fun κ37 s38 _ NB_b34=>?_
    replace hs:=hs.trB B_b34.ge s38
    replace f33:=f33.step s38
    replace B_b7:=B_b7.step s38 (nm1 (B_b7.ne B_b34 (zm (N:=κ.H.size) (M:=κ.H.size) (i:=131001) (j:=131005) kr)))
    replace B_b18:=B_b18.step s38 (nm1 (B_b18.o.ne B_b34.o (zm (N:=κ.H.size) (M:=κ.H.size) (i:=131004) (j:=131005) kr)))
    replace B_b34:=NB_b34
    refine ot (cs ?_)
    refine zl (fun Z=>∀ (y39:Bool) (E0:Env),zbZ p0 sx25 x27 y39=some yyx25→cwp Tryz.prog 80 (sub (zC Tryz.f131) [1,0,1,0,0,1,1,0,0,1,0,1,1,1,1,1]) Z (upd (upd (upd (upd (upd (upd (upd (E0) 1 (pt b7 0)) 6 (.map (some b18))) 8 (pt b34 0)) 50 (sl a4 p0.2.length c5)) 51 (iv (p0.2.length:Int))) 52 (iv sx25.1)) 71 (.bool y39)) κ37) ?_ fun J4=>?_
    ·intro y39 E0 hr
     refine cc (y39) hr ?_ ?_
     ·intro hc hr
      refine csr (op 2 (.bool false) (ot (crt (zb (zf (zb ?_))))))
      have hx:=hdx25 _ (sj hr).symm
      subst hx
      replace hr:=hrx25
      refine zt (zf (zb ?_))
      obtain rfl:=sj hr
      refine rt [.tmp 2] [.bool false] ⟨rfl,trivial⟩ ?_
      exact ⟨hs,rfl⟩
     intro hc hr
     refine ckt (csr (op 72 (.map (some b18)) (op 73 (pt b34 0) (o1 74 9 (strV x27.1) (B_b34.at.one (o:=0) rfl) (omp zpe (T:=240) (kd:=9) (e:=4) (x:=x27.1) (y:=true) (v:=.bool true) B_b18 rfl fun κ40 s41 _ NB_b18=>?_)))))
     replace hs:=hs.trB B_b18.ge s41
     replace f33:=f33.step s41
     replace B_b7:=B_b7.step s41 (nm1 (B_b7.o.ne B_b18.o (zm (N:=κ.H.size) (M:=κ.H.size) (i:=131001) (j:=131004) kr)))
     replace B_b34:=B_b34.step s41 (nm1 (B_b34.o.ne B_b18.o (zm (N:=κ.H.size) (M:=κ.H.size) (i:=131005) (j:=131004) kr)))
     replace B_b18:=NB_b18
     refine otx (op 75 (pt b34 1) (o1 76 95 (sl a31 x27.2.length c32) (B_b34.at.one (o:=1) rfl) (op 77 (.func (.func 168) #[] #[pt b7 0]) ?_)))
     obtain ⟨x43,hx43,hr⟩:=bind_some hr
     refine ocl 78 (zhz f33 (fi1:=168) (cv1:=#[pt b7 0]) kr (by intro _ s _ w0 _ hp;exact zi1 kr ((zkn w0 (B_b7.at.step0 s) ((f3.step hs).step s) ((f6.step hs).step s) hp).mono fun _ _ h=>⟨Step.of_eq h.1,h.2⟩)) hx43) ?_
     rintro _ κ44 ⟨s45,rfl⟩
     replace hs:=hs.tr0 s45
     replace B_b7:=B_b7.step0 s45
     replace B_b18:=B_b18.step0 s45
     refine ot ?_
     refine cc (x43) hr ?_ ?_
     ·intro hc hr
      refine csr (op 2 (.bool false) (ot (crt (zf (zb ?_)))))
      have hx:=hdx25 _ (sj hr).symm
      subst hx
      replace hr:=hrx25
      refine zt (zf (zb ?_))
      obtain rfl:=sj hr
      refine rt [.tmp 2] [.bool false] ⟨rfl,trivial⟩ ?_
      exact ⟨hs,rfl⟩
     intro hc hr
     refine ck (zd (za (cr (op 79 (iv (w64 (sx25.1+1))) (op 52 (iv (w64 (sx25.1+1))) (oe ?_))))))
     exact ze (sj hr).symm ⟨⟨_,(eA 52 (eA 51 (eA 50 (eA 6 (eA 1 rfl)))))⟩,hs,(zq _),B_b7,B_b18⟩
    refine csr (op 56 (pt b34 0) (o1 57 9 (strV x27.1) (B_b34.at.one (o:=0) rfl) ?_))
    obtain ⟨x46,hx46,hr⟩:=bind_some hr
    refine ocl 58 (zjQ hb30 hx46) ?_
    rintro _ _ ⟨rfl,rfl⟩
    refine op 59 (.bool (!x46)) ?_
    refine osp 60 (!x46) hr ?_ ?_
    ·intro hg hr
     refine op 61 (.map (some b18)) (op 62 (pt b34 0) (o1 63 9 (strV x27.1) (B_b34.at.one (o:=0) rfl) (olk zpe (d:=64) (T:=240) (kd:=9) (e:=4) (x:=x27.1) (y0:=false) (.bool false) B_b18 rfl fun _ o48=>?_)))
     obtain rfl:=znM o48
     refine op 65 (.bool ((zd1 sx25.2 x27.1).getD false)) ?_
     refine osp 66 (((zd1 sx25.2 x27.1).getD false)) hr ?_ ?_
     ·intro hg hr
      refine op 67 (pt b34 1) (o1 68 95 (sl a31 x27.2.length c32) (B_b34.at.one (o:=1) rfl) (op 69 (iv (x27.2.length:Int)) (op 70 (.bool (!decide ((x27.2.length:Int)=4))) (op 71 (.bool (!decide ((x27.2.length:Int)=4))) (ot ?_)))))
      exact zk (eA 71 (eA 52 (eA 51 (eA 50 (eA 8 (eA 6 (eA 1 rfl))))))) (J4 (!decide ((x27.2.length:Int)=4))  _  hr)
     intro hg hr
     refine os 67 (os 68 (os 69 (os 70 (op 71 (.bool true) (ot ?_)))))
     exact zk (eA 71 (eA 52 (eA 51 (eA 50 (eA 8 (eA 6 (eA 1 rfl))))))) (J4 true  _  hr)
    intro hg hr
    refine os 61 (os 62 (os 63 (os 64 (op 65 (.bool true) (op 66 (.bool true) (os 67 (os 68 (os 69 (os 70 ?_)))))))))
    refine op 71 (.bool true) (ot ?_)
    exact zk (eA 71 (eA 52 (eA 51 (eA 50 (eA 8 (eA 6 (eA 1 rfl))))))) (J4 true  _  hr)
   intro hc hr
   refine cx 2 (zh ?_)
   have hx:=hdx25 _ (sj hr).symm
   subst hx
   replace hr:=hrx25
   refine zi ?_
   exact zr rfl (J3   _ _ hs  hr)
  obtain ⟨x49,hx49,hrx49⟩:=bind_some hr
  refine zo (F:=zaJ p0) (J:=fun (sx49:Int×(List (BS×Bool))) (E':Env) (κ':K)=>(∃ E0,E'=upd (upd (upd (upd (upd (E0) 1 (pt b7 0)) 3 (.map (some b11))) 22 (sl a1 p0.1.length c2)) 23 (iv (p0.1.length:Int))) 24 (iv sx49.1))∧Step [] κ κ'∧I64 sx49.1∧Box (κ.H.size,131001) κ' b7 [sl a1 p0.1.length c2,sl a4 p0.2.length c5] 25∧Mp zpe zoG (κ.H.size,131002) κ' b11 sx49.2) (s0:=(0,([]:List (BS×Bool)))) (x:=x49) kr hx49 ⟨⟨_,(eA 24 (eA 23 (eA 22 (eA 3 (eA 1 rfl)))))⟩,hs,(show I64 0 by unfold I64;omega),B_b7,B_b11⟩ ?_
  rintro sx49 _ κ50 ⟨⟨E0,rfl⟩,hs,hb15,B_b7,B_b11⟩ yyx49 hr hdx49
  refine csr (op 25 (bW (sx49.1<(p0.1.length:Int))) (ot (cs ?_)))
  refine cc (decide (sx49.1<(p0.1.length:Int))) hr ?_ ?_
  ·intro hc hr
   refine ckt (cs (cb 1 (csr ?_)))
   obtain ⟨x51,hx51,hr⟩:=bind_some hr
   obtain ⟨b52,o53,eab52,i0x51,i1x51,csx51,p_b52,owx51⟩:=(f3.step hs).idx hx51
   obtain ⟨_,_,rfl,⟨rfl,hb54⟩,⟨rfl,hb55⟩⟩:=owx51
   replace p_b52:PubAt κ50 b52 (o53+sx49.1.toNat*2) [strV x51.1,iv x51.2]:=p_b52
   refine oi 26 22 94 2 p0.1.length c2 .i64 sx49.1 eab52 i0x51 i1x51 (oN 27 94 [strV x51.1,iv x51.2] (p_b52.at.part 0 2).2 (zz (d:=5) (T:=94) (κ.H.size,131003) hs.1 [strV ([]:BS),iv 0] kr kr kr fun b56 κ57 s58 B_b56=>?_))
   replace hs:=hs.tr0 s58
   replace B_b7:=B_b7.step0 s58
   replace B_b11:=B_b11.step0 s58
   refine zn (b:=b56) (off:=0) (T:=94) (.agg #[strV x51.1,iv x51.2]) [strV x51.1,iv x51.2] [strV x51.1,iv x51.2] kr kr B_b56 rfl kr kr kr rfl fun κ59 s60 _ NB_b56=>?_
   replace hs:=hs.trB B_b56.ge s60
   replace B_b7:=B_b7.step s60 (nm1 (B_b7.ne B_b56 (zm (N:=κ.H.size) (M:=κ.H.size) (i:=131001) (j:=131003) kr)))
   replace B_b11:=B_b11.step s60 (nm1 (B_b11.o.ne B_b56.o (zm (N:=κ.H.size) (M:=κ.H.size) (i:=131002) (j:=131003) kr)))
   replace B_b56:=NB_b56
   refine ot (cs ?_)
   refine zl (fun Z=>∀ (y61:Bool) (E0:Env),zbY sx49 x51 y61=some yyx49→cwp Tryz.prog 80 (sub (zC Tryz.f131) [1,0,1,0,0,1,1,0,0,1,0,1,1,1]) Z (upd (upd (upd (upd (upd (upd (upd (E0) 1 (pt b7 0)) 3 (.map (some b11))) 5 (pt b56 0)) 22 (sl a1 p0.1.length c2)) 23 (iv (p0.1.length:Int))) 24 (iv sx49.1)) 43 (.bool y61)) κ59) ?_ fun J5=>?_
   ·intro y61 E0 hr
    refine cc (y61) hr ?_ ?_
    ·intro hc hr
     refine csr (op 2 (.bool false) (ot (crt (zb (zf (zb ?_))))))
     have hx:=hdx49 _ (sj hr).symm
     subst hx
     replace hr:=hrx49
     refine zt (zf (zb ?_))
     obtain rfl:=sj hr
     refine rt [.tmp 2] [.bool false] ⟨rfl,trivial⟩ ?_
     exact ⟨hs,rfl⟩
    intro hc hr
    refine ckt (cr (op 44 (.map (some b11)) (op 45 (pt b56 0) (o1 46 9 (strV x51.1) (B_b56.at.one (o:=0) rfl) (omp zpe (T:=240) (kd:=9) (e:=4) (x:=x51.1) (y:=true) (v:=.bool true) B_b11 rfl fun κ62 s63 _ NB_b11=>?_)))))
    replace hs:=hs.trB B_b11.ge s63
    replace B_b7:=B_b7.step s63 (nm1 (B_b7.o.ne B_b11.o (zm (N:=κ.H.size) (M:=κ.H.size) (i:=131001) (j:=131002) kr)))
    replace B_b11:=NB_b11
    refine oe (zd (za (cr (op 47 (iv (w64 (sx49.1+1))) (op 24 (iv (w64 (sx49.1+1))) (oe ?_))))))
    exact ze (sj hr).symm ⟨⟨_,(eA 24 (eA 23 (eA 22 (eA 3 (eA 1 rfl)))))⟩,hs,(zq _),B_b7,B_b11⟩
   refine csr (op 28 (pt b56 0) (o1 29 9 (strV x51.1) (B_b56.at.one (o:=0) rfl) ?_))
   obtain ⟨x64,hx64,hr⟩:=bind_some hr
   refine ocl 30 (zjQ hb54 hx64) ?_
   rintro _ _ ⟨rfl,rfl⟩
   refine op 31 (.bool (!x64)) ?_
   refine osp 32 (!x64) hr ?_ ?_
   ·intro hg hr
    refine op 33 (.map (some b11)) (op 34 (pt b56 0) (o1 35 9 (strV x51.1) (B_b56.at.one (o:=0) rfl) (olk zpe (d:=36) (T:=240) (kd:=9) (e:=4) (x:=x51.1) (y0:=false) (.bool false) B_b11 rfl fun _ o66=>?_)))
    obtain rfl:=znM o66
    refine op 37 (.bool ((zd1 sx49.2 x51.1).getD false)) ?_
    refine osp 38 (((zd1 sx49.2 x51.1).getD false)) hr ?_ ?_
    ·intro hg hr
     refine op 39 (pt b56 1) (o1 40 2 (iv x51.2) (B_b56.at.one (o:=1) rfl) ?_)
     obtain ⟨x67,hx67,hr⟩:=bind_some hr
     refine ocl 41 (zbh hb55 (show I64 1 by unfold I64;omega) (show I64 4 by unfold I64;omega) hx67) ?_
     rintro _ _ ⟨rfl,rfl⟩
     refine op 42 (.bool (!x67)) (op 43 (.bool (!x67)) (ot ?_))
     exact zk (eA 43 (eA 24 (eA 23 (eA 22 (eA 5 (eA 3 (eA 1 rfl))))))) (J5 (!x67)  _  hr)
    intro hg hr
    refine os 39 (os 40 (os 41 (os 42 (op 43 (.bool true) (ot ?_)))))
    exact zk (eA 43 (eA 24 (eA 23 (eA 22 (eA 5 (eA 3 (eA 1 rfl))))))) (J5 true  _  hr)
   intro hg hr
   refine os 33 (os 34 (os 35 (os 36 (op 37 (.bool true) (op 38 (.bool true) (os 39 (os 40 (os 41 (os 42 ?_)))))))))
   refine op 43 (.bool true) (ot ?_)
   exact zk (eA 43 (eA 24 (eA 23 (eA 22 (eA 5 (eA 3 (eA 1 rfl))))))) (J5 true  _  hr)
  intro hc hr
  refine cx 0 (zh ?_)
  have hx:=hdx49 _ (sj hr).symm
  subst hx
  replace hr:=hrx49
  refine zi ?_
  exact zr (eA 1 rfl) (J2   _ _ hs B_b7 hr)
 refine csr (op 9 (pt b7 0) (o1 10 22 (sl a1 p0.1.length c2) (B_b7.at.one (o:=0) rfl) (op 11 (iv (p0.1.length:Int)) (op 12 (bW ((p0.1.length:Int)>200)) ?_))))
 refine osp 13 (decide ((p0.1.length:Int)>200)) hr ?_ ?_
 ·intro hg hr
  refine op 14 (pt b7 1) (o1 15 23 (sl a4 p0.2.length c5) (B_b7.at.one (o:=1) rfl) (op 16 (iv (p0.2.length:Int)) ?_))
  obtain ⟨x69,hx69,hr⟩:=bind_some hr
  refine ocl 17 (zbh (zg5 (f6.step hs).most) (show I64 1 by unfold I64;omega) (show I64 160 by unfold I64;omega) hx69) ?_
  rintro _ _ ⟨rfl,rfl⟩
  refine op 18 (.bool (!x69)) (op 19 (.bool (!x69)) (ot ?_))
  exact zk (eA 19 (eA 1 rfl)) (J1 (!x69)  _  hr)
 intro hg hr
 refine os 14 (os 15 (os 16 (os 17 (os 18 (op 19 (.bool true) (ot ?_))))))
 exact zk (eA 19 (eA 1 rfl)) (J1 true  _  hr)
theorem zjb {κ:K} {p0:Int} {p1:Int} (hb1:I64 p0) (hb2:I64 p1) {r:Bool} (hr:zeD p0 p1=some r) :
 Fn Tryz.prog 169 #[iv p0,iv p1] κ (fun v κ'=>κ=κ'∧v=.bool r):=by
 refine fnc 9 [] Tryz.func169 Tryz.ntmps169 fun hs=>csr (op 4 (.bool false) (otx (op 5 (iv p0) (op 6 (iv p1) (op 7 (iv (w64 (p1 - 1))) ?_)))))
 obtain ⟨x3,hx3,hr⟩:=bind_some hr
 refine ocl 8 (zbh hb1 (show I64 0 by unfold I64;omega) (zq _) hx3) ?_
 rintro _ _ ⟨rfl,rfl⟩
 refine op 4 (.bool x3) (ot (crt ?_))
 obtain rfl:=sj hr
 refine rt [.tmp 4] [.bool x3] ⟨rfl,trivial⟩ ?_
 exact ⟨rfl,rfl⟩
theorem zlt {κ:K} {p0:Int×Int} {p1:Int×Int} (hb1:I64 p0.1) (hb2:I64 p0.2) (hb3:I64 p1.1) (hb4:I64 p1.2) {r:Bool} (hr:zgb p0 p1=some r) :
 Fn Tryz.prog 170 #[.agg #[iv p0.1,iv p0.2],.agg #[iv p1.1,iv p1.2]] κ (fun v κ'=>Step [] κ κ'∧v=.bool r):=by
 refine fnc 9 [] Tryz.func170 Tryz.ntmps170 fun hs=>csr (zv (d:=2) (T:=100) (κ.H.size,170001) hs.1 (.agg #[iv p0.1,iv p0.2]) [iv p0.1,iv p0.2] kr kr rfl fun b5 κ6 s7 B_b5=>?_)
 replace hs:=hs.tr0 s7
 refine zv (d:=3) (T:=100) (κ.H.size,170002) hs.1 (.agg #[iv p1.1,iv p1.2]) [iv p1.1,iv p1.2] kr kr rfl fun b8 κ9 s10 B_b8=>?_
 replace hs:=hs.tr0 s10
 replace B_b5:=B_b5.step0 s10
 refine op 4 (.bool false) (otx (oN 5 100 [iv p0.1,iv p0.2] (B_b5.at.part 0 2).2 (oN 6 100 [iv p1.1,iv p1.2] (B_b8.at.part 0 2).2 ?_)))
 obtain ⟨x11,hx11,hr⟩:=bind_some hr
 refine ocl 7 (zdL hx11) ?_
 rintro _ κ13 ⟨s14,rfl,hb12⟩
 replace hs:=hs.tr0 s14
 refine op 8 (bW (x11<0)) (op 4 (bW (x11<0)) (ot (crt ?_)))
 obtain rfl:=sj hr
 refine rt [.tmp 4] [bW (x11<0)] ⟨rfl,trivial⟩ ?_
 exact ⟨hs,rfl⟩
theorem zmx {κ:K} {p0:LP} {a1:OA} {c2:Nat} (f3:Sl tPlaced κ a1 c2 p0) {r:Bool} (hr:zhs p0=some r) :
 Fn Tryz.prog 132 #[.agg #[sl a1 p0.length c2]] κ (fun v κ'=>Step [] κ κ'∧v=.bool r):=by
 refine fnc 45 [] Tryz.func132 Tryz.ntmps132 fun hs=>csr (zv (d:=1) (T:=28) (κ.H.size,132001) hs.1 (.agg #[sl a1 p0.length c2]) [sl a1 p0.length c2] kr kr rfl fun b4 κ5 s6 B_b4=>?_)
 replace hs:=hs.tr0 s6
 refine op 2 (.bool false) (ot (cs (csr (op 5 (pt b4 0) (o1 6 26 (sl a1 p0.length c2) (B_b4.at.one (o:=0) rfl) (op 7 (iv (p0.length:Int)) (op 8 (iv 0) (ot (cb 0 ?_)))))))))
 refine zj 0 (fun Z=>∀ (E0:Env) (κ9:K) (hs:Step [] κ κ9) (B_b4:Box (κ.H.size,132001) κ9 b4 [sl a1 p0.length c2] 28),zha p0=some r→Z (upd (E0) 1 (pt b4 0)) κ9) ?_ fun J1=>?_
 ·intro E0 κ9 hs B_b4 hr
  refine zg (za (csr (op 41 (pt b4 0) (o1 42 26 (sl a1 p0.length c2) (B_b4.at.one (o:=0) rfl) (op 43 (iv (p0.length:Int)) (op 44 (bW ((p0.length:Int)≤500)) (op 2 (bW ((p0.length:Int)≤500)) (ot (crt ?_)))))))))
  obtain rfl:=sj hr
  refine rt [.tmp 2] [bW ((p0.length:Int)≤500)] ⟨rfl,trivial⟩ ?_
  exact ⟨hs,rfl⟩
 obtain ⟨x10,hx10,hrx10⟩:=bind_some hr
 refine zo (F:=zaW p0) (J:=fun (sx10:Int) (E':Env) (κ':K)=>(∃ E0,E'=upd (upd (upd (upd (E0) 1 (pt b4 0)) 6 (sl a1 p0.length c2)) 7 (iv (p0.length:Int))) 8 (iv sx10))∧Step [] κ κ'∧I64 sx10∧Box (κ.H.size,132001) κ' b4 [sl a1 p0.length c2] 28) (s0:=0) (x:=x10) kr hx10 ⟨⟨_,(eA 8 (eA 7 (eA 6 (eA 1 rfl))))⟩,hs,(show I64 0 by unfold I64;omega),B_b4⟩ ?_
 rintro sx10 _ κ11 ⟨⟨E0,rfl⟩,hs,hb8,B_b4⟩ yyx10 hr hdx10
 refine csr (op 9 (bW (sx10<(p0.length:Int))) (ot (cs ?_)))
 refine cc (decide (sx10<(p0.length:Int))) hr ?_ ?_
 ·intro hc hr
  refine ckt (cs (cb 1 (csr (op 10 (iv sx10) ?_))))
  obtain ⟨x12,hx12,hr⟩:=bind_some hr
  obtain ⟨b13,o14,eab13,i0x12,i1x12,csx12,p_b13,owx12⟩:=(f3.step hs).idx hx12
  obtain ⟨_,_,rfl,⟨_,_,rfl,⟨rfl,hb15⟩,⟨rfl,hb16⟩⟩,⟨rfl,hb17⟩⟩:=owx12
  replace p_b13:PubAt κ11 b13 (o14+sx10.toNat*3) [iv x12.1.1,iv x12.1.2,iv x12.2]:=p_b13
  refine oi 11 26 108 3 p0.length c2 .i64 sx10 eab13 i0x12 i1x12 (oN 12 108 [iv x12.1.1,iv x12.1.2,iv x12.2] (p_b13.at.part 0 3).2 (zz (d:=4) (T:=108) (κ.H.size,132002) hs.1 [iv 0,iv 0,iv 0] kr kr kr fun b18 κ19 s20 B_b18=>?_))
  replace hs:=hs.tr0 s20
  replace B_b4:=B_b4.step0 s20
  refine op 3 (iv sx10) (zn (b:=b18) (off:=0) (T:=108) (.agg #[iv x12.1.1,iv x12.1.2,iv x12.2]) [iv x12.1.1,iv x12.1.2,iv x12.2] [iv x12.1.1,iv x12.1.2,iv x12.2] kr kr B_b18 rfl kr kr kr rfl fun κ21 s22 _ NB_b18=>?_)
  replace hs:=hs.trB B_b18.ge s22
  replace B_b4:=B_b4.step s22 (nm1 (B_b4.ne B_b18 (zm (N:=κ.H.size) (M:=κ.H.size) (i:=132001) (j:=132002) kr)))
  replace B_b18:=NB_b18
  refine ot ?_
  refine zl (fun Z=>∀ (y23:Bool) (E0:Env) (κ24:K) (hs:Step [] κ κ24) (B_b4:Box (κ.H.size,132001) κ24 b4 [sl a1 p0.length c2] 28),zbA sx10 y23=some yyx10→cwp Tryz.prog 45 (sub (zC Tryz.f132) [1,1,0,0,1,1,0,0,1,0,1]) Z (upd (upd (upd (upd (upd (E0) 1 (pt b4 0)) 6 (sl a1 p0.length c2)) 7 (iv (p0.length:Int))) 8 (iv sx10)) 39 (.bool y23)) κ24) ?_ fun J2=>?_
  ·intro y23 E0 κ24 hs B_b4 hr
   refine cc (y23) hr ?_ ?_
   ·intro hc hr
    refine csr (op 2 (.bool false) (ot (crt (zf (zb ?_)))))
    have hx:=hdx10 _ (sj hr).symm
    subst hx
    replace hr:=hrx10
    refine zt (zf (zb ?_))
    obtain rfl:=sj hr
    refine rt [.tmp 2] [.bool false] ⟨rfl,trivial⟩ ?_
    exact ⟨hs,rfl⟩
   intro hc hr
   refine ck (zd (za (cr (op 40 (iv (w64 (sx10+1))) (op 8 (iv (w64 (sx10+1))) (oe ?_))))))
   exact ze (sj hr).symm ⟨⟨_,(eA 8 (eA 7 (eA 6 (eA 1 rfl))))⟩,hs,(zq _),B_b4⟩
  refine cs (cx_ 23 [0,1,2,3,4,5,6,7,8,9,10,11,12,13,14,15,16,17,18,19,20,21,22] [2,7] 23 [] (xp 13 (pt b18 0) (xN 14 100 [iv x12.1.1,iv x12.1.2] B_b18.at 0 2 rfl ?_)))
  obtain ⟨x25,hx25,hr⟩:=bind_some hr
  refine xcl 15 (zhF hb15 hb16 hx25) ?_
  rintro _ κ26 ⟨s27,rfl⟩
  refine ⟨s27,?_⟩
  replace hs:=hs.tr0 s27
  replace B_b4:=B_b4.step0 s27
  replace B_b18:=B_b18.step0 s27
  refine xp 16 (.bool (!x25)) ?_
  refine xsp 17 (!x25) hr ?_ ?_
  ·intro hg hr
   refine xp 18 (pt b18 2) (x1 19 2 (iv x12.2) B_b18.at 2 rfl ?_)
   obtain ⟨x28,hx28,hr⟩:=bind_some hr
   refine xcl 20 (zjb hb17 (show I64 160 by unfold I64;omega) hx28) ?_
   rintro _ _ ⟨rfl,rfl⟩
   refine ⟨Step.refl _ _,?_⟩
   refine xp 21 (.bool (!x28)) (xp 22 (.bool (!x28)) ?_)
   refine xsp 23 (!x28) hr ?_ ?_
   ·intro hg hr
    refine xp 24 (iv sx10) (xp 25 (bW (sx10>0)) ?_)
    refine xsp 26 (decide (sx10>0)) hr ?_ ?_
    ·intro hg hr
     refine xs 27 (xs 28 (xs 29 (xs 30 (xs 31 (xs 32 (xs 33 (xs 34 (xs 35 (xe ?_)))))))))
     refine os 36 (os 37 (op 38 (.bool false) (op 39 (.bool false) (ot ?_))))
     exact zk (eA 39 (eA 8 (eA 7 (eA 6 (eA 1 rfl))))) (J2 false  _ _ hs B_b4 hr)
    intro hg hr
    refine xp 27 (pt b4 0) (x1 28 26 (sl a1 p0.length c2) B_b4.at 0 rfl (xp 29 (iv sx10) (xp 30 (iv (w64 (sx10 - 1))) ?_)))
    obtain ⟨x30,hx30,hr⟩:=bind_some hr
    obtain ⟨b31,o32,eab31,i0x30,i1x30,csx30,p_b31,owx30⟩:=(f3.step hs).idx hx30
    obtain ⟨_,_,rfl,⟨_,_,rfl,⟨rfl,hb33⟩,⟨rfl,hb34⟩⟩,⟨rfl,hb35⟩⟩:=owx30
    replace p_b31:PubAt κ26 b31 (o32+(w64 (sx10 - 1)).toNat*3) [iv x30.1.1,iv x30.1.2,iv x30.2]:=p_b31
    refine xi 31 26 108 3 p0.length c2 .i64 (w64 (sx10 - 1)) eab31 i0x30 i1x30 (xp 32 (pt b31 (o32+(w64 (sx10 - 1)).toNat*3)) (xN 33 100 [iv x30.1.1,iv x30.1.2] p_b31.at 0 2 rfl (xp 34 (pt b18 0) (xN 35 100 [iv x12.1.1,iv x12.1.2] B_b18.at 0 2 rfl (xe ?_)))))
    obtain ⟨x36,hx36,hr⟩:=bind_some hr
    refine ocl 36 (zlt hb33 hb34 hb15 hb16 hx36) ?_
    rintro _ κ37 ⟨s38,rfl⟩
    replace hs:=hs.tr0 s38
    replace B_b4:=B_b4.step0 s38
    refine op 37 (.bool (!x36)) (op 38 (.bool (!x36)) (op 39 (.bool (!x36)) (ot ?_)))
    exact zk (eA 39 (eA 8 (eA 7 (eA 6 (eA 1 rfl))))) (J2 (!x36)  _ _ hs B_b4 hr)
   intro hg hr
   refine xs 24 (xs 25 (xs 26 (xs 27 (xs 28 (xs 29 (xs 30 (xs 31 (xs 32 (xs 33 ?_)))))))))
   refine xs 34 (xs 35 (xe (os 36 (os 37 (os 38 (op 39 (.bool true) (ot ?_)))))))
   exact zk (eA 39 (eA 8 (eA 7 (eA 6 (eA 1 rfl))))) (J2 true  _ _ hs B_b4 hr)
  intro hg hr
  refine xs 18 (xs 19 (xs 20 (xs 21 (xp 22 (.bool true) (xp 23 (.bool true) (xs 24 (xs 25 (xs 26 (xs 27 ?_)))))))))
  refine xs 28 (xs 29 (xs 30 (xs 31 (xs 32 (xs 33 (xs 34 (xs 35 (xe (os 36 ?_)))))))))
  refine os 37 (os 38 (op 39 (.bool true) (ot ?_)))
  exact zk (eA 39 (eA 8 (eA 7 (eA 6 (eA 1 rfl))))) (J2 true  _ _ hs B_b4 hr)
 intro hc hr
 refine cx 0 (zh ?_)
 have hx:=hdx10 _ (sj hr).symm
 subst hx
 replace hr:=hrx10
 refine zi ?_
 exact zr (eA 1 rfl) (J1   _ _ hs B_b4 hr)
theorem ziX {κ:K} {p0:LG×LT} {a1:OA} {c2:Nat} {a4:OA} {c5:Nat} {p1:Int} (f3:Sl tGlue κ a1 c2 p0.1) (f6:Sl zQ κ a4 c5 p0.2) (hb7:I64 p1) {r:Bool} (hr:zcR p0 p1=some r) :
 Fn Tryz.prog 134 #[.agg #[sl a1 p0.1.length c2,sl a4 p0.2.length c5],iv p1] κ (fun v κ'=>Step [] κ κ'∧v=.bool r):=by
 refine fnc 10 [] Tryz.func134 Tryz.ntmps134 fun hs=>csr (zv (d:=2) (T:=25) (κ.H.size,134001) hs.1 (.agg #[sl a1 p0.1.length c2,sl a4 p0.2.length c5]) [sl a1 p0.1.length c2,sl a4 p0.2.length c5] kr kr rfl fun b8 κ9 s10 B_b8=>?_)
 replace hs:=hs.tr0 s10
 refine op 4 (.bool false) (otx (op 5 (iv p1) (op 6 (pt b8 1) (o1 7 23 (sl a4 p0.2.length c5) (B_b8.at.one (o:=1) rfl) (op 8 (iv (p0.2.length:Int)) ?_)))))
 obtain ⟨x11,hx11,hr⟩:=bind_some hr
 refine ocl 9 (zjb hb7 (zg5 (f6.step hs).most) hx11) ?_
 rintro _ _ ⟨rfl,rfl⟩
 refine op 4 (.bool x11) (ot (crt ?_))
 obtain rfl:=sj hr
 refine rt [.tmp 4] [.bool x11] ⟨rfl,trivial⟩ ?_
 exact ⟨hs,rfl⟩
theorem zie {κ:K} {p0:(Int×Int)×Int} {p1:LG×LT} {pb1 po1:Nat} {a4:OA} {c5:Nat} {a7:OA} {c8:Nat} (hb1:I64 p0.1.1) (hb2:I64 p0.1.2) (hb3:I64 p0.2) (m1:At κ pb1 po1 [sl a4 p1.1.length c5,sl a7 p1.2.length c8]) (f6:Sl tGlue κ a4 c5 p1.1) (f9:Sl zQ κ a7 c8 p1.2) {r:Bool} (hr:zax p0 p1=some r) :
 Fn Tryz.prog 133 #[.agg #[iv p0.1.1,iv p0.1.2,iv p0.2],pt pb1 po1] κ (fun v κ'=>Step [] κ κ'∧v=.bool r):=by
 refine fnc 9 [] Tryz.func133 Tryz.ntmps133 fun hs=>csr (zv (d:=2) (T:=108) (κ.H.size,133001) hs.1 (.agg #[iv p0.1.1,iv p0.1.2,iv p0.2]) [iv p0.1.1,iv p0.1.2,iv p0.2] kr kr rfl fun b10 κ11 s12 B_b10=>?_)
 replace hs:=hs.tr0 s12
 refine op 3 (.bool false) (otx (oN 4 25 [sl a4 p1.1.length c5,sl a7 p1.2.length c8] ((m1.step0 hs).part 0 2).2 (op 5 (pt b10 2) (o1 6 2 (iv p0.2) (B_b10.at.one (o:=2) rfl) ?_))))
 obtain ⟨x13,hx13,hr⟩:=bind_some hr
 refine ocl 7 (ziX (f6.step hs) (f9.step hs) hb3 hx13) ?_
 rintro _ κ14 ⟨s15,rfl⟩
 replace hs:=hs.tr0 s15
 refine op 8 (.bool (!x13)) (op 3 (.bool (!x13)) (ot (crt ?_)))
 obtain rfl:=sj hr
 refine rt [.tmp 3] [.bool (!x13)] ⟨rfl,trivial⟩ ?_
 exact ⟨hs,rfl⟩
theorem zji {κ:K} {p0:LG×LT} {a1:OA} {c2:Nat} {a4:OA} {c5:Nat} {p1:LP} {a7:OA} {c8:Nat} (f3:Sl tGlue κ a1 c2 p0.1) (f6:Sl zQ κ a4 c5 p0.2) (f9:Sl tPlaced κ a7 c8 p1) {r:Bool} (hr:zds p0 p1=some r) :
 Fn Tryz.prog 101 #[.agg #[sl a1 p0.1.length c2,sl a4 p0.2.length c5],.agg #[sl a7 p1.length c8]] κ (fun v κ'=>Step [] κ κ'∧v=.bool r):=by
 refine fnc 18 [] Tryz.func101 Tryz.ntmps101 fun hs=>csr (zv (d:=2) (T:=25) (κ.H.size,101001) hs.1 (.agg #[sl a1 p0.1.length c2,sl a4 p0.2.length c5]) [sl a1 p0.1.length c2,sl a4 p0.2.length c5] kr kr rfl fun b10 κ11 s12 B_b10=>?_)
 replace hs:=hs.tr0 s12
 refine zv (d:=3) (T:=28) (κ.H.size,101002) hs.1 (.agg #[sl a7 p1.length c8]) [sl a7 p1.length c8] kr kr rfl fun b13 κ14 s15 B_b13=>?_
 replace hs:=hs.tr0 s15
 replace B_b10:=B_b10.step0 s15
 refine op 4 (.bool false) (otx (oN 5 25 [sl a1 p0.1.length c2,sl a4 p0.2.length c5] (B_b10.at.part 0 2).2 ?_))
 obtain ⟨x16,hx16,hr⟩:=bind_some hr
 refine ocl 6 (zlX (f3.step hs) (f6.step hs) hx16) ?_
 rintro _ κ17 ⟨s18,rfl⟩
 replace hs:=hs.tr0 s18
 replace B_b10:=B_b10.step0 s18
 replace B_b13:=B_b13.step0 s18
 refine osp 7 (x16) hr ?_ ?_
 ·intro hg hr
  refine os 8 (os 9 (op 10 (.bool false) (op 11 (.bool false) (os 12 (os 13 (os 14 (os 15 (os 16 (op 17 (.bool false) ?_)))))))))
  refine op 4 (.bool false) (ot (crt ?_))
  obtain rfl:=sj hr
  refine rt [.tmp 4] [.bool false] ⟨rfl,trivial⟩ ?_
  exact ⟨hs,rfl⟩
 intro hg hr
 refine oN 8 28 [sl a7 p1.length c8] (B_b13.at.part 0 1).2 ?_
 obtain ⟨x19,hx19,hr⟩:=bind_some hr
 refine ocl 9 (zmx (f9.step hs) hx19) ?_
 rintro _ κ20 ⟨s21,rfl⟩
 replace hs:=hs.tr0 s21
 replace B_b10:=B_b10.step0 s21
 replace B_b13:=B_b13.step0 s21
 refine op 10 (.bool x19) ?_
 refine osp 11 (x19) hr ?_ ?_
 ·intro hg hr
  refine os 12 (os 13 (os 14 (os 15 (os 16 (op 17 (.bool false) (op 4 (.bool false) (ot (crt ?_))))))))
  obtain rfl:=sj hr
  refine rt [.tmp 4] [.bool false] ⟨rfl,trivial⟩ ?_
  exact ⟨hs,rfl⟩
 intro hg hr
 refine op 12 (pt b13 0) (o1 13 26 (sl a7 p1.length c8) (B_b13.at.one (o:=0) rfl) (op 14 (.func (.func 133) #[] #[pt b10 0]) ?_))
 obtain ⟨x25,hx25,hr⟩:=bind_some hr
 refine ocl 15 (zef (f9.step hs) (fi1:=133) (cv1:=#[pt b10 0]) kr (by intro _ s _ w0 w1 w2 _ hp;exact zi1 kr ((zie w0 w1 w2 (B_b10.at.step0 s) ((f3.step hs).step s) ((f6.step hs).step s) hp))) hx25) ?_
 rintro _ κ26 ⟨s27,rfl⟩
 replace hs:=hs.tr0 s27
 refine op 16 (.bool (!x25)) (op 17 (.bool (!x25)) (op 4 (.bool (!x25)) (ot (crt ?_))))
 obtain rfl:=sj hr
 refine rt [.tmp 4] [.bool (!x25)] ⟨rfl,trivial⟩ ?_
 exact ⟨hs,rfl⟩
theorem zje {κ:K} {p0:Int} (hb1:I64 p0) {r:Bool} (hr:zdq p0=some r) :
 Fn Tryz.prog 102 #[iv p0] κ (fun v κ'=>κ=κ'∧v=.bool r):=by
 refine fnc 5 [] Tryz.func102 Tryz.ntmps102 fun hs=>csr (op 2 (.bool false) (otx (op 3 (iv p0) ?_)))
 obtain ⟨x2,hx2,hr⟩:=bind_some hr
 refine ocl 4 (zbh hb1 (show I64 1 by unfold I64;omega) (show I64 16 by unfold I64;omega) hx2) ?_
 rintro _ _ ⟨rfl,rfl⟩
 refine op 2 (.bool x2) (ot (crt ?_))
 obtain rfl:=sj hr
 refine rt [.tmp 2] [.bool x2] ⟨rfl,trivial⟩ ?_
 exact ⟨rfl,rfl⟩
theorem zlW {κ:K} {p0:Int} {p1:LB} {a2:OA} {c3:Nat} (hb1:I64 p0) (f4:Sl zR κ a2 c3 p1) {r:LM} (hr:zgN p0 p1=some r) :
 Fn Tryz.prog 171 #[iv p0,sl a2 p1.length c3] κ (fun v κ'=>Step [] κ κ'∧∃ (a5:OA) (c6:Nat),v=sl a5 r.length c6∧Sl (tSl tI64) κ' a5 c6 r):=by
 refine fnc 118 [] Tryz.func171 Tryz.ntmps171 fun hs=>csr (op 4 (sl none 0 0) (otx (op 17 (iv p0) ?_)))
 obtain ⟨x8,hx8,hr⟩:=bind_some hr
 refine zur (τ:=(κ.H.size,171001)) (d:=18) (T:=271) (eP:=272) (bytes:=8) (k1:=.i64) (k2:=.i64) (m:=p0) 274 kr kr hx8 hs.1 fun a11 κ9 s10 F12=>?_
 replace hs:=hs.tr0 s10
 refine op 5 (sl a11 p0.toNat p0.toNat) (ot (cs (csr (op 19 (sl a11 p0.toNat p0.toNat) (op 20 (iv (p0.toNat:Int)) (op 21 (iv 0) (ot (cb 0 ?_))))))))
 refine zj 0 (fun Z=>∀ (y17:LI) (B18:List Nat) (E0:Env) (κ19:K) (hs:Step [] κ κ19) (F12:Fst (κ.H.size,171001) κ19 272 274 a11 p0.toNat B18 y17),zgx p0 p1 y17=some r→Z (upd (upd (E0) 1 (sl a2 p1.length c3)) 5 (sl a11 p0.toNat p0.toNat)) κ19) ?_ fun J1=>?_
 ·intro y17 B18 E0 κ19 hs F12 hr
  refine zg (za (cs (csr (op 31 (sl a2 p1.length c3) (op 32 (iv (p1.length:Int)) (op 33 (iv 0) (ot (cb 2 ?_))))))))
  refine zj 2 (fun Z=>∀ (y24:LI) (B25:List Nat) (E0:Env) (κ26:K) (hs:Step [] κ κ26) (F12:Fst (κ.H.size,171001) κ26 272 274 a11 p0.toNat B25 y24),zgw p0 y24=some r→Z (upd (E0) 5 (sl a11 p0.toNat p0.toNat)) κ26) ?_ fun J2=>?_
  ·intro y24 B25 E0 κ26 hs F12 hr
   refine zg (za (csr (op 11 (sl none 0 0) (otx (omk (d:=78) (T:=276) zsd tI64 (κ.H.size,171004) hs.1 fun b27 κ28 s29 B_b27=>?_)))))
   replace hs:=hs.tr0 s29
   replace F12:=F12.step0 s29
   refine op 12 (.map (some b27)) (ot (cs (csr (op 79 (sl a11 p0.toNat p0.toNat) (op 80 (iv (p0.toNat:Int)) (op 81 (iv 0) (ot (cb 5 ?_))))))))
   refine zj 5 (fun Z=>∀ (y38:LM) (a40:OA) (c41:Nat) (H42:List Hd) (E0:Env) (κ43:K) (hs:Step [] κ κ43) (f39:Mat tI64 false (κ.H.size,171006) κ43 95 2 a40 c41 H42 H42 y38),zgv y38=some r→Z (upd (E0) 11 (sl a40 y38.length c41)) κ43) ?_ fun J3=>?_
   ·intro y38 a40 c41 H42 E0 κ43 hs f39 hr
    refine zg (za (csr (op 117 (sl a40 y38.length c41) (op 4 (sl a40 y38.length c41) (ot (zi5 f39 fun κ44 s45 Nf39=>?_))))))
    replace hs:=hs.trG (f39.own (Nat.le_refl _)) s45
    replace f39:=Nf39
    refine crt ?_
    obtain rfl:=sj hr
    refine rt [.tmp 4] [sl a40 y38.length c41] ⟨rfl,trivial⟩ ?_
    exact ⟨hs,_,_,rfl,f39.sl⟩
   obtain ⟨x46,hx46,hrx46⟩:=bind_some hr
   refine zo (F:=zdb p0 y24) (J:=fun (sx46:LM×Int×(List (Int×Int))) (E':Env) (κ':K)=>∃ (a32:OA) (c33:Nat) (H34:List Hd),(∃ E0,E'=upd (upd (upd (upd (upd (E0) 11 (sl a32 sx46.1.length c33)) 12 (.map (some b27))) 79 (sl a11 p0.toNat p0.toNat)) 80 (iv (p0.toNat:Int))) 81 (iv sx46.2.1))∧Step [] κ κ'∧Mat tI64 false (κ.H.size,171006) κ' 95 2 a32 c33 H34 H34 sx46.1∧I64 sx46.2.1∧Fst (κ.H.size,171001) κ' 272 274 a11 p0.toNat B25 y24∧Mp zsd tI64 (κ.H.size,171004) κ' b27 sx46.2.2) (s0:=([],0,([]:List (Int×Int)))) (x:=x46) kr hx46 ⟨_,_,_,⟨_,(eA 81 (eA 80 (eA 79 (eA 12 (eA 11 rfl)))))⟩,hs,Mat.nil,(show I64 0 by unfold I64;omega),F12,B_b27⟩ ?_
   rintro sx46 _ κ47 ⟨a32,c33,H34,⟨E0,rfl⟩,hs,f31,hb36,F12,B_b27⟩ yyx46 hr hdx46
   refine csr (op 82 (bW (sx46.2.1<(p0.toNat:Int))) (ot (cs ?_)))
   refine cc (decide (sx46.2.1<(p0.toNat:Int))) hr ?_ ?_
   ·intro hc hr
    refine ckt (cs (cb 6 (csr (op 83 (iv sx46.2.1) ?_))))
    obtain ⟨x48,hx48,hr⟩:=bind_some hr
    have hn_x48:=F12.inb hx48
    obtain ⟨b49,eab49,i0x48,i1x48,p_x48⟩:=F12.vcell hx48
    refine oi 84 271 272 1 p0.toNat p0.toNat .i64 sx46.2.1 (off:=0) eab49 i0x48 i1x48 (o1 85 272 (pt (nb B25 sx46.2.1) 0) (p_x48.one (o:=0) rfl) (op 13 (iv sx46.2.1) (op 14 (pt (nb B25 sx46.2.1) 0) (otx (op 87 (.map (some b27)) (op 88 (pt (nb B25 sx46.2.1) 0) ?_))))))
    obtain ⟨x50,hx50,hr⟩:=bind_some hr
    have hn_x50:=zop F12 hn_x48 hx50
    refine ocl 89 (zeS F12 hn_x48 hx50) ?_
    rintro _ _ ⟨rfl,rfl⟩
    refine op 90 (pt (nb B25 x50) 0) (op 91 (pt (nb B25 x50) 1) (o1 92 2 (iv x50) (F12.num hn_x50) (zuq zsd (d:=93) (T:=276) (kd:=2) (e:=3) (x:=x50) (y0:=0) (iv 0) B_b27 ⟨rfl,(show I64 0 by unfold I64;omega)⟩ fun _ o51=>?_)))
    obtain ⟨rfl,hb52⟩:=zrI o51
    refine op 86 (.tuple #[iv ((zd1 sx46.2.2 x50).getD 0),.bool (zfm sx46.2.2 x50)]) (op 94 (iv ((zd1 sx46.2.2 x50).getD 0)) (op 95 (.bool (zfm sx46.2.2 x50)) (op 15 (iv ((zd1 sx46.2.2 x50).getD 0)) (op 16 (.bool (zfm sx46.2.2 x50)) (ot ?_)))))
    refine zl (fun Z=>∀ (y53:LM) (y58:Int) (y60:List (Int×Int)) (a55:OA) (c56:Nat) (H57:List Hd) (E0:Env) (κ61:K) (hs:Step [] κ κ61) (f54:Mat tI64 false (κ.H.size,171006) κ61 95 2 a55 c56 H57 H57 y53) (hb59:I64 y58) (F12:Fst (κ.H.size,171001) κ61 272 274 a11 p0.toNat B25 y24) (B_b27:Mp zsd tI64 (κ.H.size,171004) κ61 b27 y60),zdf sx46 y53 y58 y60=some yyx46→cwp Tryz.prog 118 (sub (zC Tryz.f171) [1,1,1,0,0,1,1,0,0,1,0,1,1,1,1,1,1]) Z (upd (upd (upd (upd (upd (upd (upd (E0) 11 (sl a55 y53.length c56)) 12 (.map (some b27))) 13 (iv sx46.2.1)) 15 (iv y58)) 79 (sl a11 p0.toNat p0.toNat)) 80 (iv (p0.toNat:Int))) 81 (iv sx46.2.1)) κ61) ?_ fun J4=>?_
    ·intro y53 y58 y60 a55 c56 H57 E0 κ61 hs f54 hb59 F12 B_b27 hr
     refine cr (op 106 (sl a55 y53.length c56) (op 107 (iv y58) (op 108 (sl a55 y53.length c56) (op 109 (iv y58) ?_))))
     obtain ⟨x62,hx62,hr⟩:=bind_some hr
     obtain ⟨b63,a64,c65,eab63,i0x62,i1x62,hhx62,p_b63,f66⟩:=f54.idx hx62
     refine oi 110 135 95 1 y53.length c56 .i64 y58 (off:=0) eab63 i0x62 i1x62 (o1 111 95 (sl a64 x62.length c65) (p_b63.one (o:=0) rfl) (op 112 (iv sx46.2.1) (zO (d:=113) (T:=95) (e:=2) (t:=tI64) (pub:=true) (τ:=(κ.H.size,171007)) (len:=1) (l:=[sx46.2.1]) (parts:=#[(0,iv sx46.2.1)]) (cs:=[iv sx46.2.1]) kr kr kr kr hs.1 rfl ⟨_,_,rfl,⟨rfl,hb36⟩,rfl⟩ kr fun a69 κ67 s68 f70=>?_)))
     replace hs:=hs.tr0 s68
     replace f54:=f54.step0 s68
     replace f66:=f66.step0 s68
     replace F12:=F12.step0 s68
     replace B_b27:=B_b27.step0 s68
     obtain ⟨x72,hx72,hr⟩:=bind_some hr
     refine zM (d:=114) (T:=95) (e:=2) (t:=tI64) (pub:=false) (τ:=(κ.H.size,171006)) (bytes:=8) (a:=a64) (cp:=c65) (l:=x62) (a2:=a69) (c2:=1) (l2:=[sx46.2.1]) kr kr f66 f70.sl hs.1 kr hx72 fun a75 c76 κ73 s74 f77 hw=>?_
     have Nf54:=f54.row hhx62 s74 f77 hw
     clear hw
     replace hs:=hs.trG (f66.own (Nat.le_refl _)) s74
     replace F12:=F12.step s74 (F12.gn f66 (zm (N:=κ.H.size) (M:=κ.H.size) (i:=171001) (j:=171006) kr))
     replace B_b27:=B_b27.step s74 (f66.bno B_b27.o (zm (N:=κ.H.size) (M:=κ.H.size) (i:=171004) (j:=171006) kr))
     replace f54:=Nf54
     refine oi 115 135 95 1 y53.length c56 .i64 y58 (off:=0) eab63 i0x62 i1x62 ?_
     obtain ⟨x78,hx78,hr⟩:=bind_some hr
     refine zmX (T:=95) (b:=b63) (ix:=y58) (hd:=(a75,x72.length,c76)) kr kr eab63 f54 i0x62 (by rw [f54.len0,List.length_set];exact i1x62) kr fun κ79 s80 Nf54=>?_
     replace s80:=s80.mono (zex (hs:=(H57.set y58.toNat (a75,x72.length,c76))))
     replace hs:=hs.trG (f54.own (Nat.le_refl _)) s80
     replace F12:=F12.step s80 (F12.gnm f54 (zm (N:=κ.H.size) (M:=κ.H.size) (i:=171001) (j:=171006) kr))
     replace B_b27:=B_b27.step s80 (f54.bno B_b27.o (zm (N:=κ.H.size) (M:=κ.H.size) (i:=171004) (j:=171006) kr))
     obtain ⟨H81,eH81⟩:∃ H:List Hd,H=(H57.set y58.toNat (a75,x72.length,c76)):=⟨_,rfl⟩
     rw [←eH81] at Nf54
     replace f54:=ziP hx78 Nf54
     have len_x78:=zS hx78
     refine zca (eA 81 (v:=iv sx46.2.1) (eA 80 (v:=iv (p0.toNat:Int)) (eA 79 (v:=sl a11 p0.toNat p0.toNat) (eA 12 (v:=.map (some b27)) (zc (t:=11) (v:=sl a55 x78.length c56) rfl (by rw [len_x78];kernel_rfl)))))) (oe (zd (za (cr (op 116 (iv (w64 (sx46.2.1+1))) (op 81 (iv (w64 (sx46.2.1+1))) (oe ?_)))))))
     exact ze (sj hr).symm ⟨_,_,_,⟨_,(eA 81 (eA 80 (eA 79 (eA 12 (eA 11 rfl)))))⟩,hs,f54,(zq _),F12,B_b27⟩
    refine cs (csr (op 96 (.bool (zfm sx46.2.2 x50)) (op 97 (.bool (!(zfm sx46.2.2 x50))) (ot ?_))))
    refine cc (!(zfm sx46.2.2 x50)) hr ?_ ?_
    ·intro hc hr
     refine csr (op 98 (sl a32 sx46.1.length c33) ?_)
     have hb82:=(zg5 f31.most)
     refine op 99 (iv (sx46.1.length:Int)) (op 15 (iv (sx46.1.length:Int)) (otx (op 100 (.map (some b27)) (op 101 (iv sx46.2.1) (op 102 (iv (sx46.1.length:Int)) (omp zsd (T:=276) (kd:=2) (e:=3) (x:=sx46.2.1) (y:=(sx46.1.length:Int)) (v:=iv (sx46.1.length:Int)) B_b27 ⟨rfl,hb82⟩ fun κ83 s84 _ NB_b27=>?_))))))
     replace hs:=hs.trB B_b27.ge s84
     replace f31:=f31.step s84 (f31.nbo B_b27.o (zm (N:=κ.H.size) (M:=κ.H.size) (i:=171006) (j:=171004) kr))
     replace F12:=F12.step s84 (F12.bn B_b27.o (zm (N:=κ.H.size) (M:=κ.H.size) (i:=171001) (j:=171004) kr))
     replace B_b27:=NB_b27
     refine otr (op 103 (sl a32 sx46.1.length c33) (zO (d:=104) (T:=135) (e:=95) (t:=tH) (pub:=true) (τ:=(κ.H.size,171005)) (len:=1) (l:=[(none,0,0)]) (parts:=#[(0,sl none 0 0)]) (cs:=[sl none 0 0]) kr kr kr kr hs.1 rfl ⟨_,_,rfl,rfl,rfl⟩ kr fun a87 κ85 s86 f88=>?_))
     replace hs:=hs.tr0 s86
     replace f31:=f31.step0 s86
     replace F12:=F12.step0 s86
     replace B_b27:=B_b27.step0 s86
     obtain ⟨x89,hx89,hr⟩:=bind_some hr
     obtain ⟨hq95,hp96,len_x89⟩:=zql (H2:=[(none,0,0)]) hx89 f31.len rfl
     refine zo1 (d:=105) (T:=135) (e:=95) (t:=tH) (pub:=false) (τ:=(κ.H.size,171006)) (bytes:=24) (a:=a32) (cp:=c33) (l:=H34) (a2:=a87) (c2:=1) (l2:=[(none,0,0)]) sx46.1.length x89.length f31.len len_x89 kr kr f31.out f88.sl hs.1 kr hq95 fun a92 c93 κ90 s91 f94 hw=>?_
     have Nf31:=f31.outer s91 f94 hw
     clear hw
     replace s91:=s91.mono (zex (hs:=H34))
     replace hs:=hs.trG (f31.own (Nat.le_refl _)) s91
     replace F12:=F12.step s91 (F12.gnm f31 (zm (N:=κ.H.size) (M:=κ.H.size) (i:=171001) (j:=171006) kr))
     replace B_b27:=B_b27.step s91 (f31.bno B_b27.o (zm (N:=κ.H.size) (M:=κ.H.size) (i:=171004) (j:=171006) kr))
     replace f31:=Nf31
     replace f31:=f31.snocN
     obtain ⟨H97,eH97⟩:∃ H:List Hd,H=H34++[(none,0,0)]:=⟨_,rfl⟩
     rw [←eH97,←hp96] at f31
     refine op 11 (sl a92 x89.length c93) (ot ?_)
     exact zk (eA 81 (eA 80 (eA 79 (eA 15 (eA 13 (eA 12 (eA 11 rfl))))))) (J4 x89 (sx46.1.length:Int) (zix sx46.2.2 sx46.2.1 (sx46.1.length:Int)) _ _ _ _ _ hs f31 hb82 F12 B_b27 hr)
    intro hc hr
    refine ckt ?_
    exact zk (eA 81 (eA 80 (eA 79 (eA 15 (eA 13 (eA 12 (eA 11 rfl))))))) (J4 sx46.1 ((zd1 sx46.2.2 x50).getD 0) sx46.2.2 _ _ _ _ _ hs f31 hb52 F12 B_b27 hr)
   intro hc hr
   refine cx 5 (zh ?_)
   have hx:=hdx46 _ (sj hr).symm
   subst hx
   replace hr:=hrx46
   refine zi ?_
   exact zr (eA 11 rfl) (J3 sx46.1 _ _ _ _ _ hs f31 hr)
  obtain ⟨x98,hx98,hrx98⟩:=bind_some hr
  refine zo (F:=zdc p1) (J:=fun (sx98:Int×LI) (E':Env) (κ':K)=>∃ (B23:List Nat),(∃ E0,E'=upd (upd (upd (upd (E0) 5 (sl a11 p0.toNat p0.toNat)) 31 (sl a2 p1.length c3)) 32 (iv (p1.length:Int))) 33 (iv sx98.1))∧Step [] κ κ'∧I64 sx98.1∧Fst (κ.H.size,171001) κ' 272 274 a11 p0.toNat B23 sx98.2) (s0:=(0,y17)) (x:=x98) kr hx98 ⟨_,⟨_,(eA 33 (eA 32 (eA 31 (eA 5 rfl))))⟩,hs,(show I64 0 by unfold I64;omega),F12⟩ ?_
  rintro sx98 _ κ99 ⟨B23,⟨E0,rfl⟩,hs,hb21,F12⟩ yyx98 hr hdx98
  refine csr (op 34 (bW (sx98.1<(p1.length:Int))) (ot (cs ?_)))
  refine cc (decide (sx98.1<(p1.length:Int))) hr ?_ ?_
  ·intro hc hr
   refine ckt ?_
   refine zl (fun Z=>∀ (y100:LI) (B101:List Nat) (E0:Env) (κ102:K) (hs:Step [] κ κ102) (F12:Fst (κ.H.size,171001) κ102 272 274 a11 p0.toNat B101 y100),zde sx98 y100=some yyx98→cwp Tryz.prog 118 (sub (zC Tryz.f171) [1,1,1,0,0,1,0,1,1,1]) Z (upd (upd (upd (upd (E0) 5 (sl a11 p0.toNat p0.toNat)) 31 (sl a2 p1.length c3)) 32 (iv (p1.length:Int))) 33 (iv sx98.1)) κ102) ?_ fun J5=>?_
   ·intro y100 B101 E0 κ102 hs F12 hr
    refine cr (op 77 (iv (w64 (sx98.1+1))) (op 33 (iv (w64 (sx98.1+1))) (oe ?_)))
    exact ze (sj hr).symm ⟨_,⟨_,(eA 33 (eA 32 (eA 31 (eA 5 rfl))))⟩,hs,(zq _),F12⟩
   refine cs (cb 3 (csr ?_))
   obtain ⟨x103,hx103,hr⟩:=bind_some hr
   obtain ⟨b104,o105,eab104,i0x103,i1x103,csx103,p_b104,owx103⟩:=(f4.step hs).idx hx103
   obtain ⟨_,_,rfl,⟨rfl,hb106⟩,⟨_,_,rfl,⟨rfl,hb107⟩,⟨rfl,hb108⟩⟩⟩:=owx103
   replace p_b104:PubAt κ99 b104 (o105+sx98.1.toNat*3) [iv x103.1,iv x103.2.1,iv x103.2.2]:=p_b104
   refine oi 35 109 134 3 p1.length c3 .i64 sx98.1 eab104 i0x103 i1x103 (oN 36 134 [iv x103.1,iv x103.2.1,iv x103.2.2] (p_b104.at.part 0 3).2 (zz (d:=8) (T:=134) (κ.H.size,171003) hs.1 [iv 0,iv 0,iv 0] kr kr kr fun b109 κ110 s111 B_b109=>?_))
   replace hs:=hs.tr0 s111
   replace F12:=F12.step0 s111
   refine zn (b:=b109) (off:=0) (T:=134) (.agg #[iv x103.1,iv x103.2.1,iv x103.2.2]) [iv x103.1,iv x103.2.1,iv x103.2.2] [iv x103.1,iv x103.2.1,iv x103.2.2] kr kr B_b109 rfl kr kr kr rfl fun κ112 s113 _ NB_b109=>?_
   replace hs:=hs.trB B_b109.ge s113
   replace F12:=F12.step s113 (F12.bn B_b109.o (zm (N:=κ.H.size) (M:=κ.H.size) (i:=171001) (j:=171003) kr))
   replace B_b109:=NB_b109
   refine ot (cs (cd 11 (dp 37 (sl a11 p0.toNat p0.toNat) (dp 38 (pt b109 0) (d1 39 2 (iv x103.1) (B_b109.at.one (o:=0) rfl) ?_)))))
   obtain ⟨x114,hx114,hr⟩:=bind_some hr
   have hn_x114:=F12.inb hx114
   obtain ⟨b115,eab115,i0x114,i1x114,p_x114⟩:=F12.vcell hx114
   refine di 40 271 272 1 p0.toNat p0.toNat .i64 x103.1 (off:=0) eab115 i0x114 i1x114 (d1 41 272 (pt (nb B23 x103.1) 0) (p_x114.one (o:=0) rfl) ?_)
   obtain ⟨x116,hx116,hr⟩:=bind_some hr
   have hn_x116:=zop F12 hn_x114 hx116
   refine dc0 42 (zeS F12 hn_x114 hx116) (dp 43 (sl a11 p0.toNat p0.toNat) (dp 44 (pt b109 1) (d1 45 2 (iv x103.2.1) (B_b109.at.one (o:=1) rfl) ?_)))
   obtain ⟨x117,hx117,hr⟩:=bind_some hr
   have hn_x117:=F12.inb hx117
   obtain ⟨b118,eab118,i0x117,i1x117,p_x117⟩:=F12.vcell hx117
   refine di 46 271 272 1 p0.toNat p0.toNat .i64 x103.2.1 (off:=0) eab118 i0x117 i1x117 (d1 47 272 (pt (nb B23 x103.2.1) 0) (p_x117.one (o:=0) rfl) (de ?_))
   obtain ⟨x119,hx119,hr⟩:=bind_some hr
   have hn_x119:=zop F12 hn_x117 hx119
   refine ocl 48 (zeS F12 hn_x117 hx119) ?_
   rintro _ _ ⟨rfl,rfl⟩
   refine op 9 (pt (nb B23 x116) 0) (op 10 (pt (nb B23 x119) 0) (ot (cb 4 (cs (cd 8 (dp 50 (pt (nb B23 x116) 0) (dp 51 (pt (nb B23 x116) 0) (dp 52 (pt (nb B23 x116) 1) (d1 53 2 (iv x116) (F12.num hn_x116) ?_)))))))))
   refine dp 54 (pt (nb B23 x119) 0) (dp 55 (pt (nb B23 x119) 0) (dp 56 (pt (nb B23 x119) 1) (d1 57 2 (iv x119) (F12.num hn_x119) (de (op 58 (bW (x116<x119)) (op 49 (bW (x116<x119)) (ot ?_)))))))
   refine cc (decide (x116<x119)) hr ?_ ?_
   ·intro hc hr
    refine cr (op 59 (pt (nb B23 x119) 0) (op 60 (pt (nb B23 x116) 0) (op 61 (pt (nb B23 x119) 0) (op 62 (pt (nb B23 x119) 0) (ztv (T:=272) F12 hn_x119 hn_x116 kr fun κ120 s121 NF=>?_)))))
    replace hs:=hs.trG (F12.own (Nat.le_refl _)) s121
    replace F12:=NF
    refine oe (zd (zd (za ?_)))
    exact zk (eA 33 (eA 32 (eA 31 (eA 5 rfl)))) (J5 (sx98.2.set x119.toNat x116) _ _ _ hs F12 hr)
   intro hc hr
   refine cs (cd 8 (dp 64 (pt (nb B23 x119) 0) (dp 65 (pt (nb B23 x119) 0) (dp 66 (pt (nb B23 x119) 1) (d1 67 2 (iv x119) (F12.num hn_x119) (dp 68 (pt (nb B23 x116) 0) (dp 69 (pt (nb B23 x116) 0) (dp 70 (pt (nb B23 x116) 1) (d1 71 2 (iv x116) (F12.num hn_x116) ?_)))))))))
   refine de (op 72 (bW (x119<x116)) (op 63 (bW (x119<x116)) (ot ?_)))
   refine cc (decide (x119<x116)) hr ?_ ?_
   ·intro hc hr
    refine cr (op 73 (pt (nb B23 x116) 0) (op 74 (pt (nb B23 x119) 0) (op 75 (pt (nb B23 x116) 0) (op 76 (pt (nb B23 x116) 0) (ztv (T:=272) F12 hn_x116 hn_x119 kr fun κ122 s123 NF=>?_)))))
    replace hs:=hs.trG (F12.own (Nat.le_refl _)) s123
    replace F12:=NF
    refine oe (zd (zd (za ?_)))
    exact zk (eA 33 (eA 32 (eA 31 (eA 5 rfl)))) (J5 (sx98.2.set x116.toNat x119) _ _ _ hs F12 hr)
   intro hc hr
   refine ck (zd (zd (za ?_)))
   exact zk (eA 33 (eA 32 (eA 31 (eA 5 rfl)))) (J5 sx98.2 _ _ _ hs F12 hr)
  intro hc hr
  refine cx 2 (zh ?_)
  have hx:=hdx98 _ (sj hr).symm
  subst hx
  replace hr:=hrx98
  refine zi ?_
  exact zr (eA 5 rfl) (J2 sx98.2 _ _ _ hs F12 hr)
 obtain ⟨x124,hx124,hrx124⟩:=bind_some hr
 refine zo (F:=zdd p0) (J:=fun (sx124:Int×LI) (E':Env) (κ':K)=>∃ (B16:List Nat),(∃ E0,E'=upd (upd (upd (upd (E0) 1 (sl a2 p1.length c3)) 5 (sl a11 p0.toNat p0.toNat)) 20 (iv (p0.toNat:Int))) 21 (iv sx124.1))∧Step [] κ κ'∧I64 sx124.1∧Fst (κ.H.size,171001) κ' 272 274 a11 p0.toNat B16 sx124.2) (s0:=(0,x8)) (x:=x124) kr hx124 ⟨_,⟨_,(eA 21 (eA 20 (eA 5 (eA 1 rfl))))⟩,hs,(show I64 0 by unfold I64;omega),F12⟩ ?_
 rintro sx124 _ κ125 ⟨B16,⟨E0,rfl⟩,hs,hb14,F12⟩ yyx124 hr hdx124
 refine csr (op 22 (bW (sx124.1<(p0.toNat:Int))) (ot (cs ?_)))
 refine cc (decide (sx124.1<(p0.toNat:Int))) hr ?_ ?_
 ·intro hc hr
  refine ckt (cs (cb 1 (csr (op 23 (iv sx124.1) (op 6 (iv sx124.1) (otr (op 24 (sl a11 p0.toNat p0.toNat) (op 25 (iv sx124.1) (op 26 (iv sx124.1) ?_)))))))))
  refine op 27 (.agg #[.pointer none,iv sx124.1]) (zv (d:=28) (T:=274) (κ.H.size,171002) hs.1 (.agg #[.pointer none,iv sx124.1]) [.pointer none,iv sx124.1] kr kr rfl fun b126 κ127 s128 B_b126=>?_)
  replace hs:=hs.tr0 s128
  replace F12:=F12.step0 s128
  obtain ⟨x129,hx129,hr⟩:=bind_some hr
  obtain ⟨b130,eab130,i0x129,i1x129⟩:=F12.newat hx129
  refine oi 29 271 272 1 p0.toNat p0.toNat .i64 sx124.1 (off:=0) eab130 i0x129 i1x129 (ztM (T:=272) F12 hx129 eab130 B_b126 (zm (N:=κ.H.size) (M:=κ.H.size) (i:=171002) (j:=171001) kr) (Nat.le_refl _) kr fun κ131 κ132 s133 s134 NF=>?_)
  replace hs:=hs.trG (F12.own (Nat.le_refl _)) s133
  replace B_b126:=B_b126.step s133 (F12.nb B_b126.o (zm (N:=κ.H.size) (M:=κ.H.size) (i:=171002) (j:=171001) kr))
  replace hs:=hs.trB B_b126.ge s134
  replace F12:=NF
  refine oe (zd (za (cr (op 30 (iv (w64 (sx124.1+1))) (op 21 (iv (w64 (sx124.1+1))) (oe ?_))))))
  exact ze (sj hr).symm ⟨_,⟨_,(eA 21 (eA 20 (eA 5 (eA 1 rfl))))⟩,hs,(zq _),F12⟩
 intro hc hr
 refine cx 0 (zh ?_)
 have hx:=hdx124 _ (sj hr).symm
 subst hx
 replace hr:=hrx124
 refine zi ?_
 exact zr (eA 5 (eA 1 rfl)) (J1 sx124.2 _ _ _ hs F12 hr)
theorem zir {κ:K} {p0:LB} {a1:OA} {c2:Nat} {p1:(Int×Int×Int)→Option Bool} {fi1:Nat} {cv1:Array Value} (f3:Sl zR κ a1 c2 p0) (hf1:zdh Tryz.prog fi1=true) (H1:∀ {κ':K},Step [] κ κ'→∀ {q1_0:Int×Int×Int} (hb4:I64 q1_0.1) (hb5:I64 q1_0.2.1) (hb6:I64 q1_0.2.2) {r:Bool},p1 q1_0=some r→Fn Tryz.prog fi1 (#[.agg #[iv q1_0.1,iv q1_0.2.1,iv q1_0.2.2]]++cv1) κ' (fun v κ''=>Step [] κ' κ''∧v=.bool r)) {r:Int} (hr:zcy p0 p1=some r) :
 Fn Tryz.prog 196 #[sl a1 p0.length c2,.func (.func fi1) #[] cv1] κ (fun v κ'=>Step [] κ κ'∧v=iv r∧I64 r):=by
 refine fnc 19 [] Tryz.func196 Tryz.ntmps196 fun hs=>csr (op 4 (iv 0) (ot (cs (csr (op 6 (sl a1 p0.length c2) (op 7 (iv (p0.length:Int)) (op 8 (iv 0) (ot ?_))))))))
 refine cb 0 ?_
 refine zj 0 (fun Z=>∀ (E0:Env) (κ10:K) (hs:Step [] κ κ10),zfw=some r→Z (E0) κ10) ?_ fun J1=>?_
 ·intro E0 κ10 hs hr
  refine zg (za (csr (op 4 (iv (-1)) (ot (crt ?_)))))
  obtain rfl:=sj hr
  refine rt [.tmp 4] [iv (-1)] ⟨rfl,trivial⟩ ?_
  exact ⟨hs,rfl,(show I64 (-1) by unfold I64;omega)⟩
 obtain ⟨x11,hx11,hrx11⟩:=bind_some hr
 refine zo (F:=zbq p0 p1) (J:=fun (sx11:Int) (E':Env) (κ':K)=>(∃ E0,E'=upd (upd (upd (upd (E0) 0 (sl a1 p0.length c2)) 1 (.func (.func fi1) #[] cv1)) 7 (iv (p0.length:Int))) 8 (iv sx11))∧Step [] κ κ'∧I64 sx11) (s0:=0) (x:=x11) kr hx11 ⟨⟨_,(eA 8 (eA 7 (eA 1 (eA 0 rfl))))⟩,hs,(show I64 0 by unfold I64;omega)⟩ ?_
 rintro sx11 _ κ12 ⟨⟨E0,rfl⟩,hs,hb9⟩ yyx11 hr hdx11
 refine csr (op 9 (bW (sx11<(p0.length:Int))) (ot (cs ?_)))
 refine cc (decide (sx11<(p0.length:Int))) hr ?_ ?_
 ·intro hc hr
  refine ckt (cs (cb 1 (csr (op 10 (iv sx11) (op 5 (iv sx11) (otx (op 11 (.func (.func fi1) #[] cv1) (op 12 (sl a1 p0.length c2) (op 13 (iv sx11) ?_)))))))))
  obtain ⟨x13,hx13,hr⟩:=bind_some hr
  obtain ⟨b14,o15,eab14,i0x13,i1x13,csx13,p_b14,owx13⟩:=(f3.step hs).idx hx13
  obtain ⟨_,_,rfl,⟨rfl,hb16⟩,⟨_,_,rfl,⟨rfl,hb17⟩,⟨rfl,hb18⟩⟩⟩:=owx13
  replace p_b14:PubAt κ12 b14 (o15+sx11.toNat*3) [iv x13.1,iv x13.2.1,iv x13.2.2]:=p_b14
  refine oi 14 109 134 3 p0.length c2 .i64 sx11 eab14 i0x13 i1x13 (oN 15 134 [iv x13.1,iv x13.2.1,iv x13.2.2] (p_b14.at.part 0 3).2 ?_)
  obtain ⟨x19,hx19,hr⟩:=bind_some hr
  refine ocl 16 (H1 hs (q1_0:=x13) hb16 hb17 hb18 hx19) ?_ kr (fun w=>zbP (show _=(callFunc fi1 (#[.agg #[iv x13.1,iv x13.2.1,iv x13.2.2]]++cv1)).run _ w by kernel_rfl) hf1)
  rintro _ κ20 ⟨s21,rfl⟩
  replace hs:=hs.tr0 s21
  refine ot ?_
  refine cc (x19) hr ?_ ?_
  ·intro hc hr
   refine csr (op 17 (iv sx11) (op 4 (iv sx11) (ot (crt (zf (zb ?_))))))
   have hx:=hdx11 _ (sj hr).symm
   subst hx
   replace hr:=hrx11
   refine zt (zf (zb ?_))
   obtain rfl:=sj hr
   refine rt [.tmp 4] [iv sx11] ⟨rfl,trivial⟩ ?_
   exact ⟨hs,rfl,hb9⟩
  intro hc hr
  refine ck (zd (za (cr (op 18 (iv (w64 (sx11+1))) (op 8 (iv (w64 (sx11+1))) (oe ?_))))))
  exact ze (sj hr).symm ⟨⟨_,(eA 8 (eA 7 (eA 1 (eA 0 rfl))))⟩,hs,(zq _)⟩
 intro hc hr
 refine cx 0 (zh ?_)
 have hx:=hdx11 _ (sj hr).symm
 subst hx
 replace hr:=hrx11
 refine zi ?_
 exact zr rfl (J1   _ _ hs  hr)
theorem zia {κ:K} {p0:LB} {a1:OA} {c2:Nat} {τ0:Tag} {p1:(Int×Int×Int)→Option Bool} {fi1:Nat} {cv1:Array Value} (f3:Gr zR false τ0 κ 134 a1 c2 p0) (lt_τ0:τ0.1<κ.H.size) (hf1:zdh Tryz.prog fi1=true) (H1:∀ {κ':K},Step (blk a1 c2) κ κ'→∀ {q1_0:Int×Int×Int} (hb4:I64 q1_0.1) (hb5:I64 q1_0.2.1) (hb6:I64 q1_0.2.2) {r:Bool},p1 q1_0=some r→Fn Tryz.prog fi1 (#[.agg #[iv q1_0.1,iv q1_0.2.1,iv q1_0.2.2]]++cv1) κ' (fun v κ''=>Step [] κ' κ''∧v=.bool r)) {r:LB} (hr:zb9 p0 p1=some r) :
 Fn Tryz.prog 172 #[sl a1 p0.length c2,.func (.func fi1) #[] cv1] κ (fun v κ'=>Step (blk a1 c2) κ κ'∧∃ (a8:OA) (c9:Nat),v=sl a8 r.length c9∧Gr zR false τ0 κ' 134 a8 c9 r∧(∀ g∈blk a8 c9,g∈(blk a1 c2)∨κ.H.size≤g)):=by
 refine fnc 42 (blk a1 c2) Tryz.func172 Tryz.ntmps172 fun hs=>?_
 have ow_f3:∀ g∈blk a1 c2,g∈(blk a1 c2)∨κ.H.size≤g:=fun g hg=>.inl (by simp [hg])
 refine csr (op 4 (sl none 0 0) (otx (op 8 (sl a1 p0.length c2) (op 9 (.func (.func fi1) #[] cv1) ?_))))
 obtain ⟨x10,hx10,hr⟩:=bind_some hr
 refine ocl 10 (Fn.borrow f3 (fun _ _ sb gb=>zir gb.sl (fi1:=fi1) (cv1:=cv1) hf1 (fun s=>H1 ((hs.trM ow_f3 sb).tr0 s)) hx10)) ?_
 rintro _ κ12 ⟨s13,rfl,hb11⟩
 replace hs:=hs.tr0 s13
 replace f3:=f3.step0 s13
 refine op 5 (iv x10) (ot (cs (csr (op 11 (iv x10) (op 12 (bW (x10=(-1))) (ot ?_))))))
 refine cc (decide (x10=(-1))) hr ?_ ?_
 ·intro hc hr
  refine csr (op 13 (sl a1 p0.length c2) (op 4 (sl a1 p0.length c2) (ot (crt (zb ?_)))))
  obtain rfl:=sj hr
  refine rt [.tmp 4] [sl a1 p0.length c2] ⟨rfl,trivial⟩ ?_
  exact ⟨hs,_,_,rfl,f3,ow_f3⟩
 intro hc hr
 refine ckt (cs (csr (op 14 (iv x10) (op 15 (iv (w64 (x10+1))) (op 6 (iv (w64 (x10+1))) (ot (cb 0 ?_)))))))
 refine zj 0 (fun Z=>∀ (y22:LB) (y26:Int) (a24:OA) (c25:Nat) (E0:Env) (κ28:K) (hs:Step (blk a1 c2) κ κ28) (f23:Gr zR false τ0 κ28 134 a24 c25 y22) (ow_f23:(∀ g∈blk a24 c25,g∈(blk a1 c2)∨κ.H.size≤g)) (hb27:I64 y26),zcF y22 y26=some r→Z (upd (upd (E0) 0 (sl a24 y22.length c25)) 5 (iv y26)) κ28) ?_ fun J1=>?_
 ·intro y22 y26 a24 c25 E0 κ28 hs f23 ow_f23 hb27 hr
  refine zg (za (csr (op 36 (sl a24 y22.length c25) (op 37 (iv y26) ?_))))
  obtain ⟨x30,hx30,hr⟩:=bind_some hr
  refine zut 38 0 (T:=109) (lo:=y26) [iv 0,iv 0,iv 0] (z:=(0,(0,0))) f23 ⟨_,_,rfl,⟨rfl,(show I64 0 by unfold I64;omega)⟩,⟨_,_,rfl,⟨rfl,(show I64 0 by unfold I64;omega)⟩,⟨rfl,(show I64 0 by unfold I64;omega)⟩⟩⟩ hx30 fun κ31 s32 Nf23=>?_
  replace hs:=hs.trM ow_f23 s32
  replace f23:=Nf23
  have len_x30:=ztk hx30
  refine zca (eA 5 (v:=iv y26) (zc (t:=0) (v:=sl a24 x30.length c25) rfl (by rw [len_x30];kernel_rfl))) (otx (op 39 (sl a24 x30.length c25) (op 40 (iv y26) ?_)))
  obtain ⟨x33,hx33,hr⟩:=bind_some hr
  refine osv 41 (T:=109) (hi:=y26) f23 hx33 fun f34=>?_
  have ow_f34:=ow_f23
  refine op 4 (sl a24 x33.length c25) (ot (crt ?_))
  obtain rfl:=sj hr
  refine rt [.tmp 4] [sl a24 x33.length c25] ⟨rfl,trivial⟩ ?_
  exact ⟨hs,_,_,rfl,f34,ow_f34⟩
 obtain ⟨x35,hx35,hrx35⟩:=bind_some hr
 refine zo (F:=za9 p1) (J:=fun (sx35:LB×Int×Int) (E':Env) (κ':K)=>∃ (a16:OA) (c17:Nat),(∃ E0,E'=upd (upd (upd (upd (E0) 0 (sl a16 sx35.1.length c17)) 1 (.func (.func fi1) #[] cv1)) 5 (iv sx35.2.1)) 6 (iv sx35.2.2))∧Step (blk a1 c2) κ κ'∧Gr zR false τ0 κ' 134 a16 c17 sx35.1∧(∀ g∈blk a16 c17,g∈(blk a1 c2)∨κ.H.size≤g)∧I64 sx35.2.1∧I64 sx35.2.2) (s0:=(p0,x10,w64 (x10+1))) (x:=x35) kr hx35 ⟨_,_,⟨_,(eA 6 (eA 5 (eA 1 (eA 0 rfl))))⟩,hs,f3,ow_f3,hb11,(zq _)⟩ ?_
 rintro sx35 _ κ36 ⟨a16,c17,⟨E0,rfl⟩,hs,f15,ow_f15,hb19,hb21⟩ yyx35 hr hdx35
 refine cs (csr (op 16 (iv sx35.2.2) (op 17 (sl a16 sx35.1.length c17) (op 18 (iv (sx35.1.length:Int)) (op 19 (bW (sx35.2.2<(sx35.1.length:Int))) (ot ?_))))))
 refine cc (decide (sx35.2.2<(sx35.1.length:Int))) hr ?_ ?_
 ·intro hc hr
  refine ckt ?_
  refine zl (fun Z=>∀ (y37:LB) (y41:Int) (a39:OA) (c40:Nat) (E0:Env) (κ43:K) (hs:Step (blk a1 c2) κ κ43) (f38:Gr zR false τ0 κ43 134 a39 c40 y37) (ow_f38:(∀ g∈blk a39 c40,g∈(blk a1 c2)∨κ.H.size≤g)) (hb42:I64 y41),zba sx35 y37 y41=some yyx35→cwp Tryz.prog 42 (sub (zC Tryz.f172) [1,1,0,0,1,0,1,1,1]) Z (upd (upd (upd (upd (E0) 0 (sl a39 y37.length c40)) 1 (.func (.func fi1) #[] cv1)) 5 (iv y41)) 6 (iv sx35.2.2)) κ43) ?_ fun J2=>?_
  ·intro y37 y41 a39 c40 E0 κ43 hs f38 ow_f38 hb42 hr
   refine cr (op 20 (iv sx35.2.2) (op 21 (iv (w64 (sx35.2.2+1))) (op 6 (iv (w64 (sx35.2.2+1))) (oe ?_))))
   exact ze (sj hr).symm ⟨_,_,⟨_,(eA 6 (eA 5 (eA 1 (eA 0 rfl))))⟩,hs,f38,ow_f38,hb42,(zq _)⟩
  refine cs (cb 1 (csr (op 22 (sl a16 sx35.1.length c17) (op 23 (iv sx35.2.2) ?_))))
  obtain ⟨x44,hx44,hr⟩:=bind_some hr
  obtain ⟨b45,eab45,i0x44,i1x44,csx44,p_b45,owx44⟩:=f15.idx hx44
  obtain ⟨_,_,rfl,⟨rfl,hb46⟩,⟨_,_,rfl,⟨rfl,hb47⟩,⟨rfl,hb48⟩⟩⟩:=owx44
  replace p_b45:At κ36 b45 (0+sx35.2.2.toNat*3) [iv x44.1,iv x44.2.1,iv x44.2.2]:=p_b45
  refine oi 24 109 134 3 sx35.1.length c17 .i64 sx35.2.2 (off:=0) eab45 i0x44 i1x44 (oN 25 134 [iv x44.1,iv x44.2.1,iv x44.2.2] (p_b45.part 0 3).2 (zz (d:=7) (T:=134) (κ.H.size,172001) hs.1 [iv 0,iv 0,iv 0] kr kr kr fun b49 κ50 s51 B_b49=>?_))
  replace hs:=hs.tr0 s51
  replace f15:=f15.step0 s51
  refine zn (b:=b49) (off:=0) (T:=134) (.agg #[iv x44.1,iv x44.2.1,iv x44.2.2]) [iv x44.1,iv x44.2.1,iv x44.2.2] [iv x44.1,iv x44.2.1,iv x44.2.2] kr kr B_b49 rfl kr kr kr rfl fun κ52 s53 _ NB_b49=>?_
  replace hs:=hs.trB B_b49.ge s53
  replace f15:=f15.step s53 (f15.nb B_b49 (zai (i:=172001) lt_τ0))
  replace B_b49:=NB_b49
  refine otx (op 26 (.func (.func fi1) #[] cv1) (oN 27 134 [iv x44.1,iv x44.2.1,iv x44.2.2] (B_b49.at.part 0 3).2 ?_))
  obtain ⟨x54,hx54,hr⟩:=bind_some hr
  refine ocl 28 (H1 hs (q1_0:=x44) hb46 hb47 hb48 hx54) ?_ kr (fun w=>zbP (show _=(callFunc fi1 (#[.agg #[iv x44.1,iv x44.2.1,iv x44.2.2]]++cv1)).run _ w by kernel_rfl) hf1)
  rintro _ κ55 ⟨s56,rfl⟩
  replace hs:=hs.tr0 s56
  replace f15:=f15.step0 s56
  replace B_b49:=B_b49.step0 s56
  refine op 29 (.bool (!x54)) (ot ?_)
  refine cc (!x54) hr ?_ ?_
  ·intro hc hr
   refine csr (op 30 (sl a16 sx35.1.length c17) (op 31 (iv sx35.2.1) (oN 32 134 [iv x44.1,iv x44.2.1,iv x44.2.2] (B_b49.at.part 0 3).2 ?_)))
   obtain ⟨x57,hx57,hr⟩:=bind_some hr
   obtain ⟨b58,eab58,i0x57,i1x57,csx57,p_b58,owx57⟩:=f15.idx hx57
   obtain ⟨_,_,rfl,⟨rfl,hb59⟩,⟨_,_,rfl,⟨rfl,hb60⟩,⟨rfl,hb61⟩⟩⟩:=owx57
   replace p_b58:At κ55 b58 (0+sx35.2.1.toNat*3) [iv x57.1,iv x57.2.1,iv x57.2.2]:=p_b58
   refine oi 33 109 134 3 sx35.1.length c17 .i64 sx35.2.1 (off:=0) eab58 i0x57 i1x57 ?_
   obtain ⟨x62,hx62,hr⟩:=bind_some hr
   refine zbu (T:=134) (t:=zR) (τ:=τ0) (e:=134) (ix:=sx35.2.1) (x':=x44) (b:=b58) (δ:=0) (cp:=c17) (l:=sx35.1) (vs:=[iv x44.1,iv x44.2.1,iv x44.2.2]) (.agg #[iv x44.1,iv x44.2.1,iv x44.2.2]) kr kr eab58 f15 i0x57 i1x57 kr kr kr kr (fun cs hx=>by obtain ⟨x,_,ho⟩:=hx;rw [zat ((zR.len ho).trans kr)];exact ⟨_,_,rfl,⟨rfl,hb46⟩,⟨_,_,rfl,⟨rfl,hb47⟩,⟨rfl,hb48⟩⟩⟩) fun κ63 s64 Nf15=>?_
   replace hs:=hs.trM ow_f15 s64
   replace f15:=Nf15
   replace f15:=zeM hx62 f15
   have len_x62:=zS hx62
   refine zca (eA 6 (v:=iv sx35.2.2) (eA 5 (v:=iv sx35.2.1) (eA 1 (v:=.func (.func fi1) #[] cv1) (zc (t:=0) (v:=sl a16 x62.length c17) rfl (by rw [len_x62];kernel_rfl))))) (otr (op 34 (iv sx35.2.1) (op 35 (iv (w64 (sx35.2.1+1))) (op 5 (iv (w64 (sx35.2.1+1))) (oe (zd (za ?_)))))))
   exact zk (eA 6 (eA 5 (eA 1 (eA 0 rfl)))) (J2 x62 (w64 (sx35.2.1+1)) _ _ _ _ hs f15 ow_f15 (zq _) hr)
  intro hc hr
  refine ck (zd (za ?_))
  exact zk (eA 6 (eA 5 (eA 1 (eA 0 rfl)))) (J2 sx35.1 sx35.2.1 _ _ _ _ hs f15 ow_f15 hb19 hr)
 intro hc hr
 refine cx 0 (zh ?_)
 have hx:=hdx35 _ (sj hr).symm
 subst hx
 replace hr:=hrx35
 refine zi ?_
 exact zr (eA 5 (eA 0 rfl)) (J1 sx35.1 sx35.2.1 _ _ _ _ hs f15 ow_f15 hb19 hr)
theorem zkf {κ:K} {p0:LB} {a1:OA} {c2:Nat} (f3:Sl zR κ a1 c2 p0) {r:LB} (hr:zc8 p0=some r) :
 Fn Tryz.prog 173 #[sl a1 p0.length c2] κ (fun v κ'=>Step [] κ κ'∧∃ (N4:Nat) (a5:OA) (c6:Nat),v=sl a5 r.length c6∧κ.H.size≤N4∧Gr zR false (N4,173001) κ' 134 a5 c6 r):=by
 refine fnc 8 [] Tryz.func173 Tryz.ntmps173 fun hs=>csr (op 2 (sl none 0 0) (ot (cs ?_)))
 refine zl (fun Z=>∀ (y8:LB) (y12:Bool) (a9:OA) (c10:Nat) (E0:Env) (f11:Sl zR κ a9 c10 y8),zbI y8 y12=some r→cwp Tryz.prog 8 (sub (zC Tryz.f173) [1,0,1]) Z (upd (upd (E0) 0 (sl a9 y8.length c10)) 4 (.bool y12)) κ) ?_ fun J1=>?_
 ·intro y8 y12 a9 c10 E0 f11 hr
  refine cc (y12) hr ?_ ?_
  ·intro hc hr
   refine csr (op 2 (sl none 0 0) (ot (crt (zb ?_))))
   obtain rfl:=sj hr
   refine rt [.tmp 2] [sl none 0 0] ⟨rfl,trivial⟩ ?_
   exact ⟨hs,_,_,_,rfl,(Nat.le_refl _),Gr.nil⟩
  intro hc hr
  refine ckt (csr (zO (d:=5) (T:=109) (e:=134) (t:=zR) (pub:=false) (τ:=(κ.H.size,173001)) (len:=0) (l:=[]) (parts:=#[]) (cs:=[]) kr kr kr kr hs.1 rfl rfl kr fun a15 κ13 s14 f16=>?_))
  replace hs:=hs.tr0 s14
  refine op 6 (sl a9 y8.length c10) ?_
  obtain ⟨x18,hx18,hr⟩:=bind_some hr
  refine zM (d:=7) (T:=109) (e:=134) (t:=zR) (pub:=false) (τ:=(κ.H.size,173001)) (bytes:=24) (a:=a15) (cp:=0) (l:=[]) (a2:=a9) (c2:=c10) (l2:=y8) kr kr f16 (f11.step hs) hs.1 kr hx18 fun a21 c22 κ19 s20 f23 hw=>?_
  clear hw
  replace hs:=hs.trG (f16.own (Nat.le_refl _)) s20
  refine op 2 (sl a21 x18.length c22) (ot (crt ?_))
  obtain rfl:=sj hr
  refine rt [.tmp 2] [sl a21 x18.length c22] ⟨rfl,trivial⟩ ?_
  exact ⟨hs,_,_,_,rfl,(Nat.le_refl _),f23⟩
 refine csr (op 3 (sl a1 p0.length c2) ?_)
 rcases a1 with _ | ad24
 ·have hnil:=Sl.of_none f3
  replace hr:zbI p0 true=some r:=by rw [hnil] at hr ⊢;simpa [app,zc8,zbI] using hr
  refine op 4 (.bool true) (ot ?_)
  exact zk (eA 4 (eA 0 rfl)) (J1 p0 true _ _ _ f3 hr)
 refine op 4 (.bool false) (ot ?_)
 exact zk (eA 4 (eA 0 rfl)) (J1 p0 false _ _ _ f3 hr)
theorem zjf {κ:K} {p0:Int×Int×Int} {p1:Int} {pb1 po1:Nat} (hb1:I64 p0.1) (hb2:I64 p0.2.1) (hb3:I64 p0.2.2) (m1:At κ pb1 po1 [iv p1]) (hb4:I64 p1) {r:Bool} (hr:zft p0 p1=some r) :
 Fn Tryz.prog 174 #[.agg #[iv p0.1,iv p0.2.1,iv p0.2.2],pt pb1 po1] κ (fun v κ'=>Step [] κ κ'∧v=.bool r):=by
 refine fnc 8 [] Tryz.func174 Tryz.ntmps174 fun hs=>csr (zv (d:=2) (T:=134) (κ.H.size,174001) hs.1 (.agg #[iv p0.1,iv p0.2.1,iv p0.2.2]) [iv p0.1,iv p0.2.1,iv p0.2.2] kr kr rfl fun b5 κ6 s7 B_b5=>?_)
 replace hs:=hs.tr0 s7
 refine op 3 (.bool false) (otx (op 4 (pt b5 2) (o1 5 2 (iv p0.2.2) (B_b5.at.one (o:=2) rfl) (o1 6 2 (iv p1) ((m1.step0 hs).one (o:=0) rfl) (op 7 (bW (p0.2.2<p1)) (op 3 (bW (p0.2.2<p1)) (ot (crt ?_))))))))
 obtain rfl:=sj hr
 refine rt [.tmp 3] [bW (p0.2.2<p1)] ⟨rfl,trivial⟩ ?_
 exact ⟨hs,rfl⟩
theorem zkQ {κ:K} {p0:Int} {p1:LB} {a2:OA} {c3:Nat} {p2:Int} (hb1:I64 p0) (f4:Sl zR κ a2 c3 p1) (hb5:I64 p2) {r:Int×LB} (hr:zfe p0 p1 p2=some r) :
 Fn Tryz.prog 135 #[iv p0,sl a2 p1.length c3,iv p2] κ (fun v κ'=>Step [] κ κ'∧∃ (a7:OA) (c8:Nat),v=.tuple #[iv r.1,sl a7 r.2.length c8]∧I64 r.1∧Sl zR κ' a7 c8 r.2):=by
 refine fnc 81 [] Tryz.func135 Tryz.ntmps135 fun hs=>csr (zv (d:=5) (T:=2) (κ.H.size,135001) hs.1 (iv p2) [iv p2] kr kr rfl fun b10 κ11 s12 B_b10=>?_)
 replace hs:=hs.tr0 s12
 refine op 6 (iv 0) (op 7 (sl none 0 0) (otx (op 17 (iv p0) (op 18 (sl a2 p1.length c3) ?_))))
 obtain ⟨x13,hx13,hr⟩:=bind_some hr
 refine ocl 19 (zkf (f4.step hs) hx13) ?_
 rintro _ κ18 ⟨s19,N14,a15,c16,rfl,go_N14,f17⟩
 replace go_N14:=Nat.le_trans hs.1 go_N14
 replace hs:=hs.tr0 s19
 replace B_b10:=B_b10.step0 s19
 refine op 20 (.func (.func 174) #[] #[pt b10 0]) ?_
 obtain ⟨N20,go_N20,lt_N20,f17⟩:=f17.low go_N14 B_b10.tlt
 obtain ⟨x24,hx24,hr⟩:=bind_some hr
 refine ocl 21 (zia f17 lt_N20 (fi1:=174) (cv1:=#[pt b10 0]) kr (by intro _ s _ w0 w1 w2 _ hp;exact zi1 kr ((zjf w0 w1 w2 (B_b10.at.step s (f17.bn B_b10 (zm (N:=κ.H.size) (M:=N20) (i:=135001) (j:=173001) kr))) hb5 hp))) hx24) ?_
 rintro _ κ28 ⟨s29,a26,c27,rfl,f25,ow_f25⟩
 clear ow_f25
 replace hs:=hs.trM (znA (f17.own go_N20)) s29
 refine zmd f25 fun κ30 s31 Nf25=>?_
 replace hs:=hs.trG (f25.own go_N20) s31
 replace f25:=Nf25
 obtain ⟨x32,hx32,hr⟩:=bind_some hr
 refine ocl 22 (zlW hb1 f25.sl hx32) ?_
 rintro _ κ36 ⟨s37,a33,c34,rfl,f35⟩
 replace hs:=hs.tr0 s37
 refine op 8 (sl a33 x32.length c34) (otx (op 23 (iv p0) ?_))
 obtain ⟨x42,hx42,hr⟩:=bind_some hr
 refine ziw (d:=24) (T:=95) (e:=2) (t:=tI64) (pub:=false) (τ:=(κ.H.size,135002)) (bytes:=8) (k1:=.i64) (k2:=.i64) (m:=p0) (zs:=[iv 0]) (z:=0) kr kr kr kr ⟨rfl,(show I64 0 by unfold I64;omega)⟩ hx42 hs.1 fun a40 κ38 s39 f41=>?_
 replace hs:=hs.tr0 s39
 replace f35:=f35.step s39
 refine op 9 (sl a40 x42.length x42.length) (ot (cs (csr (op 25 (sl a33 x32.length c34) (op 26 (iv (x32.length:Int)) (op 27 (iv 0) (ot (cb 0 ?_))))))))
 refine zj 0 (fun Z=>∀ (y49:LI) (a51:OA) (c52:Nat) (E0:Env) (κ53:K) (hs:Step [] κ κ53) (f50:Gr tI64 false (κ.H.size,135002) κ53 2 a51 c52 y49) (f35:Sl (tSl tI64) κ53 a33 c34 x32),zfs p1 x32 y49=some r→Z (upd (upd (upd (E0) 1 (sl a2 p1.length c3)) 8 (sl a33 x32.length c34)) 9 (sl a51 y49.length c52)) κ53) ?_ fun J1=>?_
 ·intro y49 a51 c52 E0 κ53 hs f50 f35 hr
  refine zg (za (csr (op 14 (sl none 0 0) (ot (cs (csr (op 44 (sl a2 p1.length c3) (op 45 (iv (p1.length:Int)) (op 46 (iv 0) ?_)))))))))
  refine ot (cb 4 ?_)
  refine zj 4 (fun Z=>∀ (y60:LB) (a62:OA) (c63:Nat) (E0:Env) (κ64:K) (hs:Step [] κ κ64) (f61:Gr zR true (κ.H.size,135005) κ64 134 a62 c63 y60) (f35:Sl (tSl tI64) κ64 a33 c34 x32),zfr x32 y60=some r→Z (upd (upd (E0) 8 (sl a33 x32.length c34)) 14 (sl a62 y60.length c63)) κ64) ?_ fun J2=>?_
  ·intro y60 a62 c63 E0 κ64 hs f61 f35 hr
   refine zg (za (csr (op 78 (sl a33 x32.length c34) (op 79 (iv (x32.length:Int)) (op 80 (sl a62 y60.length c63) (op 6 (iv (x32.length:Int)) (op 7 (sl a62 y60.length c63) (ot (crt ?_)))))))))
   obtain rfl:=sj hr
   refine rt [.tmp 6,.tmp 7] [iv (x32.length:Int),sl a62 y60.length c63] ⟨rfl,rfl,trivial⟩ ?_
   exact ⟨hs,_,_,rfl,(zg5 f35.most),f61.sl⟩
  obtain ⟨x65,hx65,hrx65⟩:=bind_some hr
  refine zo (F:=zb5 p1 y49) (J:=fun (sx65:LB×Int) (E':Env) (κ':K)=>∃ (a56:OA) (c57:Nat),(∃ E0,E'=upd (upd (upd (upd (upd (upd (E0) 8 (sl a33 x32.length c34)) 9 (sl a51 y49.length c52)) 14 (sl a56 sx65.1.length c57)) 44 (sl a2 p1.length c3)) 45 (iv (p1.length:Int))) 46 (iv sx65.2))∧Step [] κ κ'∧Gr zR true (κ.H.size,135005) κ' 134 a56 c57 sx65.1∧I64 sx65.2∧Sl (tSl tI64) κ' a33 c34 x32∧Gr tI64 false (κ.H.size,135002) κ' 2 a51 c52 y49) (s0:=([],0)) (x:=x65) kr hx65 ⟨_,_,⟨_,(eA 46 (eA 45 (eA 44 (eA 14 (eA 9 (eA 8 rfl))))))⟩,hs,Gr.nil,(show I64 0 by unfold I64;omega),f35,f50⟩ ?_
  rintro sx65 _ κ66 ⟨a56,c57,⟨E0,rfl⟩,hs,f55,hb59,f35,f50⟩ yyx65 hr hdx65
  refine csr (op 47 (bW (sx65.2<(p1.length:Int))) (ot (cs ?_)))
  refine cc (decide (sx65.2<(p1.length:Int))) hr ?_ ?_
  ·intro hc hr
   refine ckt ?_
   refine zl (fun Z=>∀ (y67:LB) (a69:OA) (c70:Nat) (E0:Env) (κ71:K) (hs:Step [] κ κ71) (f68:Gr zR true (κ.H.size,135005) κ71 134 a69 c70 y67) (f35:Sl (tSl tI64) κ71 a33 c34 x32) (f50:Gr tI64 false (κ.H.size,135002) κ71 2 a51 c52 y49),zdr sx65 y67=some yyx65→cwp Tryz.prog 81 (sub (zC Tryz.f135) [1,1,1,0,0,1,0,1,1,1,1,1]) Z (upd (upd (upd (upd (upd (upd (E0) 8 (sl a33 x32.length c34)) 9 (sl a51 y49.length c52)) 14 (sl a69 y67.length c70)) 44 (sl a2 p1.length c3)) 45 (iv (p1.length:Int))) 46 (iv sx65.2)) κ71) ?_ fun J3=>?_
   ·intro y67 a69 c70 E0 κ71 hs f68 f35 f50 hr
    refine cr (op 77 (iv (w64 (sx65.2+1))) (op 46 (iv (w64 (sx65.2+1))) (oe ?_)))
    exact ze (sj hr).symm ⟨_,_,⟨_,(eA 46 (eA 45 (eA 44 (eA 14 (eA 9 (eA 8 rfl))))))⟩,hs,f68,(zq _),f35,f50⟩
   refine cs (cb 5 (csr ?_))
   obtain ⟨x72,hx72,hr⟩:=bind_some hr
   obtain ⟨b73,o74,eab73,i0x72,i1x72,csx72,p_b73,owx72⟩:=(f4.step hs).idx hx72
   obtain ⟨_,_,rfl,⟨rfl,hb75⟩,⟨_,_,rfl,⟨rfl,hb76⟩,⟨rfl,hb77⟩⟩⟩:=owx72
   replace p_b73:PubAt κ66 b73 (o74+sx65.2.toNat*3) [iv x72.1,iv x72.2.1,iv x72.2.2]:=p_b73
   refine oi 48 109 134 3 p1.length c3 .i64 sx65.2 eab73 i0x72 i1x72 (oN 49 134 [iv x72.1,iv x72.2.1,iv x72.2.2] (p_b73.at.part 0 3).2 (zz (d:=16) (T:=134) (κ.H.size,135003) hs.1 [iv 0,iv 0,iv 0] kr kr kr fun b78 κ79 s80 B_b78=>?_))
   replace hs:=hs.tr0 s80
   replace f35:=f35.step s80
   replace f50:=f50.step0 s80
   replace f55:=f55.step0 s80
   refine zn (b:=b78) (off:=0) (T:=134) (.agg #[iv x72.1,iv x72.2.1,iv x72.2.2]) [iv x72.1,iv x72.2.1,iv x72.2.2] [iv x72.1,iv x72.2.1,iv x72.2.2] kr kr B_b78 rfl kr kr kr rfl fun κ81 s82 _ NB_b78=>?_
   replace hs:=hs.trB B_b78.ge s82
   replace f35:=f35.step s82
   replace f50:=f50.step s82 (f50.nb B_b78 (zm (N:=κ.H.size) (M:=κ.H.size) (i:=135002) (j:=135003) kr))
   replace f55:=f55.step s82 (f55.nb B_b78 (zm (N:=κ.H.size) (M:=κ.H.size) (i:=135005) (j:=135003) kr))
   replace B_b78:=NB_b78
   refine ot (cs (cd 10 (dp 50 (sl a51 y49.length c52) (dp 51 (pt b78 0) (d1 52 2 (iv x72.1) (B_b78.at.one (o:=0) rfl) ?_)))))
   obtain ⟨x83,hx83,hr⟩:=bind_some hr
   obtain ⟨b84,eab84,i0x83,i1x83,csx83,p_b84,owx83⟩:=f50.idx hx83
   obtain ⟨rfl,hb85⟩:=owx83
   replace p_b84:At κ81 b84 (0+x72.1.toNat*1) [iv x83]:=p_b84
   refine di 53 95 2 1 y49.length c52 .i64 x72.1 (off:=0) eab84 i0x83 i1x83 (d1 54 2 (iv x83) (p_b84.one (o:=0) rfl) (dp 55 (sl a51 y49.length c52) (dp 56 (pt b78 1) (d1 57 2 (iv x72.2.1) (B_b78.at.one (o:=1) rfl) ?_))))
   obtain ⟨x86,hx86,hr⟩:=bind_some hr
   obtain ⟨b87,eab87,i0x86,i1x86,csx86,p_b87,owx86⟩:=f50.idx hx86
   obtain ⟨rfl,hb88⟩:=owx86
   replace p_b87:At κ81 b87 (0+x72.2.1.toNat*1) [iv x86]:=p_b87
   refine di 58 95 2 1 y49.length c52 .i64 x72.2.1 (off:=0) eab87 i0x86 i1x86 (d1 59 2 (iv x86) (p_b87.one (o:=0) rfl) (de (op 60 (.bool (!decide (x83=x86))) (ot ?_))))
   refine cc (!decide (x83=x86)) hr ?_ ?_
   ·intro hc hr
    refine cx_ 15 [0,1,2,3,4,5,6,7,8,9,10,11,12,13,14] [14] 15 [] (xp 61 (sl a56 sx65.1.length c57) (xp 62 (sl a51 y49.length c52) (xp 63 (pt b78 0) (x1 64 2 (iv x72.1) B_b78.at 0 rfl ?_))))
    obtain ⟨x89,hx89,hr⟩:=bind_some hr
    obtain ⟨b90,eab90,i0x89,i1x89,csx89,p_b90,owx89⟩:=f50.idx hx89
    obtain ⟨rfl,hb91⟩:=owx89
    replace p_b90:At κ81 b90 (0+x72.1.toNat*1) [iv x89]:=p_b90
    refine xi 65 95 2 1 y49.length c52 .i64 x72.1 (off:=0) eab90 i0x89 i1x89 (x1 66 2 (iv x89) p_b90 0 rfl (xp 67 (sl a51 y49.length c52) (xp 68 (pt b78 1) (x1 69 2 (iv x72.2.1) B_b78.at 1 rfl ?_))))
    obtain ⟨x92,hx92,hr⟩:=bind_some hr
    obtain ⟨b93,eab93,i0x92,i1x92,csx92,p_b93,owx92⟩:=f50.idx hx92
    obtain ⟨rfl,hb94⟩:=owx92
    replace p_b93:At κ81 b93 (0+x72.2.1.toNat*1) [iv x92]:=p_b93
    refine xi 70 95 2 1 y49.length c52 .i64 x72.2.1 (off:=0) eab93 i0x92 i1x92 (x1 71 2 (iv x92) p_b93 0 rfl (xp 72 (pt b78 2) (x1 73 2 (iv x72.2.2) B_b78.at 2 rfl (xp 74 (.agg #[iv x89,iv x92,iv x72.2.2]) (zem (d:=75) (T:=109) (e:=134) (t:=zR) (pub:=true) (τ:=(κ.H.size,135004)) (len:=1) (l:=[(x89,(x92,x72.2.2))]) (parts:=#[(0,.agg #[iv x89,iv x92,iv x72.2.2])]) (cs:=[iv x89,iv x92,iv x72.2.2]) kr kr kr kr hs.1 rfl ⟨_,_,rfl,⟨_,_,rfl,⟨rfl,hb91⟩,⟨_,_,rfl,⟨rfl,hb94⟩,⟨rfl,hb77⟩⟩⟩,rfl⟩ kr fun a97 κ95 s96 f98=>?_)))))
    replace hs:=hs.tr0 s96
    replace f35:=f35.step s96
    replace f50:=f50.step0 s96
    replace f55:=f55.step0 s96
    refine xe ?_
    obtain ⟨x100,hx100,hr⟩:=bind_some hr
    refine zM (d:=76) (T:=109) (e:=134) (t:=zR) (pub:=true) (τ:=(κ.H.size,135005)) (bytes:=24) (a:=a56) (cp:=c57) (l:=sx65.1) (a2:=a97) (c2:=1) (l2:=[(x89,(x92,x72.2.2))]) kr kr f55 f98.sl hs.1 kr hx100 fun a103 c104 κ101 s102 f105 hw=>?_
    clear hw
    replace hs:=hs.trG (f55.own (Nat.le_refl _)) s102
    replace f35:=f35.step s102
    replace f50:=f50.step s102 (f50.ng f55 (zm (N:=κ.H.size) (M:=κ.H.size) (i:=135002) (j:=135005) kr))
    refine op 14 (sl a103 x100.length c104) (oe (zd (za ?_)))
    exact zk (eA 46 (eA 45 (eA 44 (eA 14 (eA 9 (eA 8 rfl)))))) (J3 x100 _ _ _ _ hs f105 f35 f50 hr)
   intro hc hr
   refine ck (zd (za ?_))
   exact zk (eA 46 (eA 45 (eA 44 (eA 14 (eA 9 (eA 8 rfl)))))) (J3 sx65.1 _ _ _ _ hs f55 f35 f50 hr)
  intro hc hr
  refine cx 4 (zh ?_)
  have hx:=hdx65 _ (sj hr).symm
  subst hx
  replace hr:=hrx65
  refine zi ?_
  exact zr (eA 14 (eA 8 rfl)) (J2 sx65.1 _ _ _ _ hs f55 f35 hr)
 obtain ⟨x106,hx106,hrx106⟩:=bind_some hr
 refine zo (F:=zaE x32) (J:=fun (sx106:LI×Int) (E':Env) (κ':K)=>∃ (a45:OA) (c46:Nat),(∃ E0,E'=upd (upd (upd (upd (upd (upd (E0) 1 (sl a2 p1.length c3)) 8 (sl a33 x32.length c34)) 9 (sl a45 sx106.1.length c46)) 25 (sl a33 x32.length c34)) 26 (iv (x32.length:Int))) 27 (iv sx106.2))∧Step [] κ κ'∧Gr tI64 false (κ.H.size,135002) κ' 2 a45 c46 sx106.1∧I64 sx106.2∧Sl (tSl tI64) κ' a33 c34 x32) (s0:=(x42,0)) (x:=x106) kr hx106 ⟨_,_,⟨_,(eA 27 (eA 26 (eA 25 (eA 9 (eA 8 (eA 1 rfl))))))⟩,hs,f41,(show I64 0 by unfold I64;omega),f35⟩ ?_
 rintro sx106 _ κ107 ⟨a45,c46,⟨E0,rfl⟩,hs,f44,hb48,f35⟩ yyx106 hr hdx106
 refine csr (op 28 (bW (sx106.2<(x32.length:Int))) (ot (cs ?_)))
 refine cc (decide (sx106.2<(x32.length:Int))) hr ?_ ?_
 ·intro hc hr
  refine ckt (cs (cb 1 (csr (op 29 (iv sx106.2) ?_))))
  obtain ⟨x108,hx108,hr⟩:=bind_some hr
  obtain ⟨b109,o110,eab109,i0x108,i1x108,csx108,p_b109,owx108⟩:=f35.idx hx108
  obtain ⟨a111,c112,rfl,f113⟩:=owx108
  replace p_b109:PubAt κ107 b109 (o110+sx106.2.toNat*1) [sl a111 x108.length c112]:=p_b109
  refine oi 30 135 95 1 x32.length c34 .i64 sx106.2 eab109 i0x108 i1x108 (o1 31 95 (sl a111 x108.length c112) (p_b109.at.one (o:=0) rfl) (op 10 (iv sx106.2) (op 11 (sl a111 x108.length c112) (otx (op 32 (sl a111 x108.length c112) (op 33 (iv (x108.length:Int)) (op 34 (iv 0) (ot (cb 2 ?_)))))))))
  refine zj 2 (fun Z=>∀ (y120:LI) (a122:OA) (c123:Nat) (E0:Env) (κ124:K) (hs:Step [] κ κ124) (f121:Gr tI64 false (κ.H.size,135002) κ124 2 a122 c123 y120) (f35:Sl (tSl tI64) κ124 a33 c34 x32),zfq sx106 y120=some yyx106→Z (upd (upd (upd (upd (upd (upd (E0) 1 (sl a2 p1.length c3)) 8 (sl a33 x32.length c34)) 9 (sl a122 y120.length c123)) 25 (sl a33 x32.length c34)) 26 (iv (x32.length:Int))) 27 (iv sx106.2)) κ124) ?_ fun J4=>?_
  ·intro y120 a122 c123 E0 κ124 hs f121 f35 hr
   refine zg (zd (za (cr (op 43 (iv (w64 (sx106.2+1))) (op 27 (iv (w64 (sx106.2+1))) (oe ?_))))))
   exact ze (sj hr).symm ⟨_,_,⟨_,(eA 27 (eA 26 (eA 25 (eA 9 (eA 8 (eA 1 rfl))))))⟩,hs,f121,(zq _),f35⟩
  obtain ⟨x125,hx125,hrx125⟩:=bind_some hr
  refine zo (F:=za5 sx106 x108) (J:=fun (sx125:LI×Int) (E':Env) (κ':K)=>∃ (a116:OA) (c117:Nat),(∃ E0,E'=upd (upd (upd (upd (upd (upd (upd (upd (upd (upd (E0) 1 (sl a2 p1.length c3)) 8 (sl a33 x32.length c34)) 9 (sl a116 sx125.1.length c117)) 10 (iv sx106.2)) 25 (sl a33 x32.length c34)) 26 (iv (x32.length:Int))) 27 (iv sx106.2)) 32 (sl a111 x108.length c112)) 33 (iv (x108.length:Int))) 34 (iv sx125.2))∧Step [] κ κ'∧Gr tI64 false (κ.H.size,135002) κ' 2 a116 c117 sx125.1∧I64 sx125.2∧Sl (tSl tI64) κ' a33 c34 x32∧Sl tI64 κ' a111 c112 x108) (s0:=(sx106.1,0)) (x:=x125) kr hx125 ⟨_,_,⟨_,(eA 34 (eA 33 (eA 32 (eA 27 (eA 26 (eA 25 (eA 10 (eA 9 (eA 8 (eA 1 rfl))))))))))⟩,hs,f44,(show I64 0 by unfold I64;omega),f35,f113⟩ ?_
  rintro sx125 _ κ126 ⟨a116,c117,⟨E0,rfl⟩,hs,f115,hb119,f35,f113⟩ yyx125 hr hdx125
  refine csr (op 35 (bW (sx125.2<(x108.length:Int))) (ot (cs ?_)))
  refine cc (decide (sx125.2<(x108.length:Int))) hr ?_ ?_
  ·intro hc hr
   refine ckt (cs (cb 3 (csr ?_)))
   obtain ⟨x127,hx127,hr⟩:=bind_some hr
   obtain ⟨b128,o129,eab128,i0x127,i1x127,csx127,p_b128,owx127⟩:=f113.idx hx127
   obtain ⟨rfl,hb130⟩:=owx127
   replace p_b128:PubAt κ126 b128 (o129+sx125.2.toNat*1) [iv x127]:=p_b128
   refine oi 36 95 2 1 x108.length c112 .i64 sx125.2 eab128 i0x127 i1x127 (o1 37 2 (iv x127) (p_b128.at.one (o:=0) rfl) (op 13 (iv x127) (otr (op 38 (sl a116 sx125.1.length c117) (op 39 (iv x127) (op 40 (iv sx106.2) ?_))))))
   obtain ⟨x131,hx131,hr⟩:=bind_some hr
   obtain ⟨b132,eab132,i0x131,i1x131,csx131,p_b132,owx131⟩:=f115.idx hx131
   obtain ⟨rfl,hb133⟩:=owx131
   replace p_b132:At κ126 b132 (0+x127.toNat*1) [iv x131]:=p_b132
   refine oi 41 95 2 1 sx125.1.length c117 .i64 x127 (off:=0) eab132 i0x131 i1x131 ?_
   obtain ⟨x134,hx134,hr⟩:=bind_some hr
   refine zbu (T:=2) (t:=tI64) (τ:=(κ.H.size,135002)) (e:=2) (ix:=x127) (x':=sx106.2) (b:=b132) (δ:=0) (cp:=c117) (l:=sx125.1) (vs:=[iv sx106.2]) (iv sx106.2) kr kr eab132 f115 i0x131 i1x131 kr kr kr kr (fun cs hx=>by obtain ⟨x,_,ho⟩:=hx;rw [zat ((tI64.len ho).trans kr)];exact ⟨rfl,hb48⟩) fun κ135 s136 Nf115=>?_
   replace hs:=hs.trG (f115.own (Nat.le_refl _)) s136
   replace f35:=f35.step s136
   replace f113:=f113.step s136
   replace f115:=Nf115
   replace f115:=zeM hx134 f115
   have len_x134:=zS hx134
   refine zca (eA 34 (v:=iv sx125.2) (eA 33 (v:=iv (x108.length:Int)) (eA 32 (v:=sl a111 x108.length c112) (eA 27 (v:=iv sx106.2) (eA 26 (v:=iv (x32.length:Int)) (eA 25 (v:=sl a33 x32.length c34) (eA 10 (v:=iv sx106.2) (zc (t:=9) (v:=sl a116 x134.length c117) (eA 8 (v:=sl a33 x32.length c34) (eA 1 (v:=sl a2 p1.length c3) rfl)) (by rw [len_x134];kernel_rfl))))))))) (oe (zd (za (cr (op 42 (iv (w64 (sx125.2+1))) (op 34 (iv (w64 (sx125.2+1))) (oe ?_)))))))
   exact ze (sj hr).symm ⟨_,_,⟨_,(eA 34 (eA 33 (eA 32 (eA 27 (eA 26 (eA 25 (eA 10 (eA 9 (eA 8 (eA 1 rfl))))))))))⟩,hs,f115,(zq _),f35,f113⟩
  intro hc hr
  refine cx 2 (zh ?_)
  have hx:=hdx125 _ (sj hr).symm
  subst hx
  replace hr:=hrx125
  refine zi ?_
  exact zr (eA 27 (eA 26 (eA 25 (eA 9 (eA 8 (eA 1 rfl)))))) (J4 sx125.1 _ _ _ _ hs f115 f35 hr)
 intro hc hr
 refine cx 0 (zh ?_)
 have hx:=hdx106 _ (sj hr).symm
 subst hx
 replace hr:=hrx106
 refine zi ?_
 exact zr (eA 9 (eA 8 (eA 1 rfl))) (J1 sx106.1 _ _ _ _ hs f44 f35 hr)
theorem zgo {κ:K} {p0:LP} {a1:OA} {c2:Nat} {p1:Int×Int} {p2:((Int×Int)×Int)→(Int×Int)→Option Int} {fi2:Nat} {cv2:Array Value} (f3:Sl tPlaced κ a1 c2 p0) (hb4:I64 p1.1) (hb5:I64 p1.2) (hf2:zdh Tryz.prog fi2=true) (H2:∀ {κ':K},Step [] κ κ'→∀ {q2_0:(Int×Int)×Int} {q2_1:Int×Int} (hb6:I64 q2_0.1.1) (hb7:I64 q2_0.1.2) (hb8:I64 q2_0.2) (hb9:I64 q2_1.1) (hb10:I64 q2_1.2) {r:Int},p2 q2_0 q2_1=some r→Fn Tryz.prog fi2 (#[.agg #[iv q2_0.1.1,iv q2_0.1.2,iv q2_0.2],.agg #[iv q2_1.1,iv q2_1.2]]++cv2) κ' (fun v κ''=>Step [] κ' κ''∧v=iv r∧I64 r)) {r:Int×Bool} (hr:zbO p0 p1 p2=some r) :
 Fn Tryz.prog 210 #[sl a1 p0.length c2,.agg #[iv p1.1,iv p1.2],.func (.func fi2) #[] cv2] κ (fun v κ'=>Step [] κ κ'∧v=.tuple #[iv r.1,.bool r.2]∧I64 r.1):=by
 refine fnc 49 [] Tryz.func210 Tryz.ntmps210 fun hs=>csr (zv (d:=4) (T:=100) (κ.H.size,210001) hs.1 (.agg #[iv p1.1,iv p1.2]) [iv p1.1,iv p1.2] kr kr rfl fun b13 κ14 s15 B_b13=>?_)
 replace hs:=hs.tr0 s15
 refine op 6 (iv 0) (op 7 (.bool false) (otx (op 12 (sl a1 p0.length c2) (op 13 (iv (p0.length:Int)) (op 8 (iv (p0.length:Int)) (otx (op 14 (iv (p0.length:Int)) (op 9 (iv 0) (op 10 (iv (p0.length:Int)) ?_)))))))))
 refine ot (cs (cb 0 ?_))
 refine zj 0 (fun Z=>∀ (y20:Int) (E0:Env) (κ22:K) (hs:Step [] κ κ22) (hb21:I64 y20) (B_b13:Box (κ.H.size,210001) κ22 b13 [iv p1.1,iv p1.2] 100),za3 p0 p1 p2 y20=some r→Z (upd (upd (upd (upd (upd (E0) 0 (sl a1 p0.length c2)) 2 (.func (.func fi2) #[] cv2)) 4 (pt b13 0)) 8 (iv (p0.length:Int))) 9 (iv y20)) κ22) ?_ fun J1=>?_
 ·intro y20 E0 κ22 hs hb21 B_b13 hr
  refine zg (za (cs (cx_ 15 [0,1,2,3,4,5,6,7,8,9,10,11,12,13,14] [11] 15 [] (xp 35 (iv y20) (xp 36 (iv y20) (xp 37 (iv (p0.length:Int)) (xp 38 (bW (y20<(p0.length:Int))) ?_)))))))
  refine xsp 39 (decide (y20<(p0.length:Int))) hr ?_ ?_
  ·intro hg hr
   refine xs 40 (xs 41 (xs 42 (xs 43 (xs 44 (xs 45 (xs 46 (xs 47 (xp 48 (.bool false) (xp 6 (iv y20) ?_)))))))))
   refine xe (op 7 (.bool false) (ot (crt ?_)))
   obtain rfl:=sj hr
   refine rt [.tmp 6,.tmp 7] [iv y20,.bool false] ⟨rfl,rfl,trivial⟩ ?_
   exact ⟨hs,rfl,hb21⟩
  intro hg hr
  refine xp 40 (.func (.func fi2) #[] cv2) (xp 41 (sl a1 p0.length c2) (xp 42 (iv y20) ?_))
  obtain ⟨x23,hx23,hr⟩:=bind_some hr
  obtain ⟨b24,o25,eab24,i0x23,i1x23,csx23,p_b24,owx23⟩:=(f3.step hs).idx hx23
  obtain ⟨_,_,rfl,⟨_,_,rfl,⟨rfl,hb26⟩,⟨rfl,hb27⟩⟩,⟨rfl,hb28⟩⟩:=owx23
  replace p_b24:PubAt κ22 b24 (o25+y20.toNat*3) [iv x23.1.1,iv x23.1.2,iv x23.2]:=p_b24
  refine xi 43 26 108 3 p0.length c2 .i64 y20 eab24 i0x23 i1x23 (xN 44 108 [iv x23.1.1,iv x23.1.2,iv x23.2] p_b24.at 0 3 rfl (xN 45 100 [iv p1.1,iv p1.2] B_b13.at 0 2 rfl ?_))
  obtain ⟨x29,hx29,hr⟩:=bind_some hr
  refine xcl 46 (H2 hs (q2_0:=x23) (q2_1:=p1) hb26 hb27 hb28 hb4 hb5 hx29) ?_ kr (fun w=>zbP (show _=(callFunc fi2 (#[.agg #[iv x23.1.1,iv x23.1.2,iv x23.2],.agg #[iv p1.1,iv p1.2]]++cv2)).run _ w by kernel_rfl) hf2)
  rintro _ κ31 ⟨s32,rfl,hb30⟩
  refine ⟨s32,?_⟩
  replace hs:=hs.tr0 s32
  refine xp 47 (bW (x29=0)) (xp 48 (bW (x29=0)) (xp 6 (iv y20) (xe (op 7 (bW (x29=0)) (ot (crt ?_))))))
  obtain rfl:=sj hr
  refine rt [.tmp 6,.tmp 7] [iv y20,bW (x29=0)] ⟨rfl,rfl,trivial⟩ ?_
  exact ⟨hs,rfl,hb21⟩
 obtain ⟨x33,hx33,hrx33⟩:=bind_some hr
 refine zo (F:=zZ p0 p1 p2) (J:=fun (sx33:Int×Int) (E':Env) (κ':K)=>(∃ E0,E'=upd (upd (upd (upd (upd (upd (E0) 0 (sl a1 p0.length c2)) 2 (.func (.func fi2) #[] cv2)) 4 (pt b13 0)) 8 (iv (p0.length:Int))) 9 (iv sx33.1)) 10 (iv sx33.2))∧Step [] κ κ'∧I64 sx33.1∧I64 sx33.2∧Box (κ.H.size,210001) κ' b13 [iv p1.1,iv p1.2] 100) (s0:=(0,(p0.length:Int))) (x:=x33) kr hx33 ⟨⟨_,(eA 10 (eA 9 (eA 8 (eA 4 (eA 2 (eA 0 rfl))))))⟩,hs,(show I64 0 by unfold I64;omega),(zg5 (f3.step hs).most),B_b13⟩ ?_
 rintro sx33 _ κ34 ⟨⟨E0,rfl⟩,hs,hb17,hb19,B_b13⟩ yyx33 hr hdx33
 refine cs (csr (op 15 (iv sx33.1) (op 16 (iv sx33.2) (op 17 (bW (sx33.1<sx33.2)) (ot ?_)))))
 refine cc (decide (sx33.1<sx33.2)) hr ?_ ?_
 ·intro hc hr
  refine ckt (cb 1 (csr (op 18 (iv sx33.1) (op 19 (iv sx33.2) (op 20 (iv (w64 (sx33.1+sx33.2))) (op 21 (.int .u64 (IntKind.wrap .u64 (w64 (sx33.1+sx33.2)))) (op 22 (.int .u64 (Int.fdiv (IntKind.wrap .u64 (w64 (sx33.1+sx33.2))) (2 ^ 1))) (op 23 (iv (w64 (Int.fdiv (IntKind.wrap .u64 (w64 (sx33.1+sx33.2))) (2 ^ 1)))) (op 11 (iv (w64 (Int.fdiv (IntKind.wrap .u64 (w64 (sx33.1+sx33.2))) (2 ^ 1)))) ?_)))))))))
  refine ot (cs (cd 6 (dp 24 (.func (.func fi2) #[] cv2) (dp 25 (sl a1 p0.length c2) (dp 26 (iv (w64 (Int.fdiv (IntKind.wrap .u64 (w64 (sx33.1+sx33.2))) (2 ^ 1)))) ?_)))))
  obtain ⟨x35,hx35,hr⟩:=bind_some hr
  obtain ⟨b36,o37,eab36,i0x35,i1x35,csx35,p_b36,owx35⟩:=(f3.step hs).idx hx35
  obtain ⟨_,_,rfl,⟨_,_,rfl,⟨rfl,hb38⟩,⟨rfl,hb39⟩⟩,⟨rfl,hb40⟩⟩:=owx35
  replace p_b36:PubAt κ34 b36 (o37+(w64 (Int.fdiv (IntKind.wrap .u64 (w64 (sx33.1+sx33.2))) (2 ^ 1))).toNat*3) [iv x35.1.1,iv x35.1.2,iv x35.2]:=p_b36
  refine di 27 26 108 3 p0.length c2 .i64 (w64 (Int.fdiv (IntKind.wrap .u64 (w64 (sx33.1+sx33.2))) (2 ^ 1))) eab36 i0x35 i1x35 (dN 28 108 [iv x35.1.1,iv x35.1.2,iv x35.2] (p_b36.at.part 0 3).2 (dN 29 100 [iv p1.1,iv p1.2] (B_b13.at.part 0 2).2 (de ?_)))
  obtain ⟨x41,hx41,hr⟩:=bind_some hr
  refine ocl 30 (H2 hs (q2_0:=x35) (q2_1:=p1) hb38 hb39 hb40 hb4 hb5 hx41) ?_ kr (fun w=>zbP (show _=(callFunc fi2 (#[.agg #[iv x35.1.1,iv x35.1.2,iv x35.2],.agg #[iv p1.1,iv p1.2]]++cv2)).run _ w by kernel_rfl) hf2)
  rintro _ κ43 ⟨s44,rfl,hb42⟩
  replace hs:=hs.tr0 s44
  replace B_b13:=B_b13.step0 s44
  refine op 31 (bW (x41<0)) (ot ?_)
  refine cc (decide (x41<0)) hr ?_ ?_
  ·intro hc hr
   refine cr (op 32 (iv (w64 (Int.fdiv (IntKind.wrap .u64 (w64 (sx33.1+sx33.2))) (2 ^ 1)))) (op 33 (iv (w64 ((w64 (Int.fdiv (IntKind.wrap .u64 (w64 (sx33.1+sx33.2))) (2 ^ 1)))+1))) (op 9 (iv (w64 ((w64 (Int.fdiv (IntKind.wrap .u64 (w64 (sx33.1+sx33.2))) (2 ^ 1)))+1))) (oe (zd ?_)))))
   exact ze (sj hr).symm ⟨⟨_,(eA 10 (eA 9 (eA 8 (eA 4 (eA 2 (eA 0 rfl))))))⟩,hs,(zq _),hb19,B_b13⟩
  intro hc hr
  refine cr (op 34 (iv (w64 (Int.fdiv (IntKind.wrap .u64 (w64 (sx33.1+sx33.2))) (2 ^ 1)))) (op 10 (iv (w64 (Int.fdiv (IntKind.wrap .u64 (w64 (sx33.1+sx33.2))) (2 ^ 1)))) (oe (zd ?_))))
  exact ze (sj hr).symm ⟨⟨_,(eA 10 (eA 9 (eA 8 (eA 4 (eA 2 (eA 0 rfl))))))⟩,hs,hb17,(zq _),B_b13⟩
 intro hc hr
 refine cx 0 (zh ?_)
 have hx:=hdx33 _ (sj hr).symm
 subst hx
 replace hr:=hrx33
 refine zi ?_
 exact zr (eA 9 (eA 8 (eA 4 (eA 2 (eA 0 rfl))))) (J1 sx33.1  _ _ hs hb17 B_b13 hr)
theorem zjg {κ:K} {p0:(Int×Int)×Int} {p1:Int×Int} (hb1:I64 p0.1.1) (hb2:I64 p0.1.2) (hb3:I64 p0.2) (hb4:I64 p1.1) (hb5:I64 p1.2) {r:Int} (hr:zb6 p0 p1=some r) :
 Fn Tryz.prog 211 #[.agg #[iv p0.1.1,iv p0.1.2,iv p0.2],.agg #[iv p1.1,iv p1.2]] κ (fun v κ'=>Step [] κ κ'∧v=iv r∧I64 r):=by
 refine fnc 9 [] Tryz.func211 Tryz.ntmps211 fun hs=>csr (zv (d:=2) (T:=108) (κ.H.size,211001) hs.1 (.agg #[iv p0.1.1,iv p0.1.2,iv p0.2]) [iv p0.1.1,iv p0.1.2,iv p0.2] kr kr rfl fun b7 κ8 s9 B_b7=>?_)
 replace hs:=hs.tr0 s9
 refine zv (d:=3) (T:=100) (κ.H.size,211002) hs.1 (.agg #[iv p1.1,iv p1.2]) [iv p1.1,iv p1.2] kr kr rfl fun b10 κ11 s12 B_b10=>?_
 replace hs:=hs.tr0 s12
 replace B_b7:=B_b7.step0 s12
 refine op 4 (iv 0) (otx (op 5 (pt b7 0) (oN 6 100 [iv p0.1.1,iv p0.1.2] (B_b7.at.part 0 2).2 (oN 7 100 [iv p1.1,iv p1.2] (B_b10.at.part 0 2).2 ?_))))
 obtain ⟨x13,hx13,hr⟩:=bind_some hr
 refine ocl 8 (zdL hx13) ?_
 rintro _ κ15 ⟨s16,rfl,hb14⟩
 replace hs:=hs.tr0 s16
 refine op 4 (iv x13) (ot (crt ?_))
 obtain rfl:=sj hr
 refine rt [.tmp 4] [iv x13] ⟨rfl,trivial⟩ ?_
 exact ⟨hs,rfl,hb14⟩
theorem zih {κ:K} {p0:LP} {a1:OA} {c2:Nat} {p1:Int×Int} (f3:Sl tPlaced κ a1 c2 p0) (hb4:I64 p1.1) (hb5:I64 p1.2) {r:Int} (hr:zcc p0 p1=some r) :
 Fn Tryz.prog 198 #[.agg #[sl a1 p0.length c2],.agg #[iv p1.1,iv p1.2]] κ (fun v κ'=>Step [] κ κ'∧v=iv r∧I64 r):=by
 refine fnc 16 [] Tryz.func198 Tryz.ntmps198 fun hs=>csr (zv (d:=2) (T:=28) (κ.H.size,198001) hs.1 (.agg #[sl a1 p0.length c2]) [sl a1 p0.length c2] kr kr rfl fun b7 κ8 s9 B_b7=>?_)
 replace hs:=hs.tr0 s9
 refine zv (d:=3) (T:=100) (κ.H.size,198002) hs.1 (.agg #[iv p1.1,iv p1.2]) [iv p1.1,iv p1.2] kr kr rfl fun b10 κ11 s12 B_b10=>?_
 replace hs:=hs.tr0 s12
 replace B_b7:=B_b7.step0 s12
 refine op 4 (iv 0) (ot (cs (csr (op 8 (pt b7 0) (o1 9 26 (sl a1 p0.length c2) (B_b7.at.one (o:=0) rfl) (oN 10 100 [iv p1.1,iv p1.2] (B_b10.at.part 0 2).2 ?_))))))
 obtain ⟨x18,hx18,hr⟩:=bind_some hr
 refine ocl 11 (zgo (f3.step hs) hb4 hb5 (fi2:=211) (cv2:=#[]) kr (by intro _ s _ _ w0 w1 w2 w3 w4 _ hp;exact zi1 kr ((zjg w0 w1 w2 w3 w4 hp))) hx18) ?_
 rintro _ κ20 ⟨s21,rfl,hb19⟩
 replace hs:=hs.tr0 s21
 refine op 7 (.tuple #[iv x18.1,.bool x18.2]) (op 12 (iv x18.1) (op 13 (.bool x18.2) (op 5 (iv x18.1) (op 6 (.bool x18.2) (otx (op 14 (.bool x18.2) (ot ?_)))))))
 refine cc (x18.2) hr ?_ ?_
 ·intro hc hr
  refine csr (op 15 (iv x18.1) (op 4 (iv x18.1) (ot (crt (zb ?_)))))
  obtain rfl:=sj hr
  refine rt [.tmp 4] [iv x18.1] ⟨rfl,trivial⟩ ?_
  exact ⟨hs,rfl,hb19⟩
 intro hc hr
 refine ckt (csr (op 4 (iv (-1)) (ot (crt ?_))))
 obtain rfl:=sj hr
 refine rt [.tmp 4] [iv (-1)] ⟨rfl,trivial⟩ ?_
 exact ⟨hs,rfl,(show I64 (-1) by unfold I64;omega)⟩
theorem zkU {κ:K} {p0:Int×Int} {p1:Int×Int} (hb1:I64 p0.1) (hb2:I64 p0.2) (hb3:I64 p1.1) (hb4:I64 p1.2) {r:(Int×Int)} (hr:zfh p0 p1=some r) :
 Fn Tryz.prog 212 #[.agg #[iv p0.1,iv p0.2],.agg #[iv p1.1,iv p1.2]] κ (fun v κ'=>Step [] κ κ'∧v=.agg #[iv r.1,iv r.2]∧I64 r.1∧I64 r.2):=by
 refine fnc 16 [] Tryz.func212 Tryz.ntmps212 fun hs=>csr (zv (d:=2) (T:=100) (κ.H.size,212001) hs.1 (.agg #[iv p0.1,iv p0.2]) [iv p0.1,iv p0.2] kr kr rfl fun b7 κ8 s9 B_b7=>?_)
 replace hs:=hs.tr0 s9
 refine zv (d:=3) (T:=100) (κ.H.size,212002) hs.1 (.agg #[iv p1.1,iv p1.2]) [iv p1.1,iv p1.2] kr kr rfl fun b10 κ11 s12 B_b10=>?_
 replace hs:=hs.tr0 s12
 replace B_b7:=B_b7.step0 s12
 refine zz (d:=4) (T:=100) (κ.H.size,212003) hs.1 [iv 0,iv 0] kr kr kr fun b13 κ14 s15 B_b13=>?_
 replace hs:=hs.tr0 s15
 replace B_b7:=B_b7.step0 s15
 replace B_b10:=B_b10.step0 s15
 refine otx (op 5 (pt b7 0) (o1 6 2 (iv p0.1) (B_b7.at.one (o:=0) rfl) (op 7 (pt b10 0) (o1 8 2 (iv p1.1) (B_b10.at.one (o:=0) rfl) (op 9 (iv (w64 (p0.1+p1.1))) (op 10 (pt b7 1) (o1 11 2 (iv p0.2) (B_b7.at.one (o:=1) rfl) (op 12 (pt b10 1) (o1 13 2 (iv p1.2) (B_b10.at.one (o:=1) rfl) ?_)))))))))
 refine op 14 (iv (w64 (p0.2+p1.2))) (op 15 (.agg #[iv (w64 (p0.1+p1.1)),iv (w64 (p0.2+p1.2))]) (zn (b:=b13) (off:=0) (T:=100) (.agg #[iv (w64 (p0.1+p1.1)),iv (w64 (p0.2+p1.2))]) [iv (w64 (p0.1+p1.1)),iv (w64 (p0.2+p1.2))] [iv (w64 (p0.1+p1.1)),iv (w64 (p0.2+p1.2))] kr kr B_b13 rfl kr kr kr rfl fun κ16 s17 _ NB_b13=>?_))
 replace hs:=hs.trB B_b13.ge s17
 replace B_b13:=NB_b13
 refine ot (crt ?_)
 obtain rfl:=sj hr
 refine rt [.cell 4 100] [.agg #[iv (w64 (p0.1+p1.1)),iv (w64 (p0.2+p1.2))]] ⟨⟨b13,0,[iv (w64 (p0.1+p1.1)),iv (w64 (p0.2+p1.2))],rfl,rfl,kr,kr,(B_b13.at.part 0 2).2⟩,trivial⟩ ?_
 exact ⟨hs,rfl,(zq _),(zq _)⟩
theorem zkT {κ:K} {p0:Int×Int} {p1:Int} (hb1:I64 p0.1) (hb2:I64 p0.2) (hb3:I64 p1) {r:(Int×Int)} (hr:zdB p0 p1=some r) :
 Fn Tryz.prog 199 #[.agg #[iv p0.1,iv p0.2],iv p1] κ (fun v κ'=>Step [] κ κ'∧v=.agg #[iv r.1,iv r.2]∧I64 r.1∧I64 r.2):=by
 refine fnc 16 [] Tryz.func199 Tryz.ntmps199 fun hs=>csr (zv (d:=2) (T:=100) (κ.H.size,199001) hs.1 (.agg #[iv p0.1,iv p0.2]) [iv p0.1,iv p0.2] kr kr rfl fun b6 κ7 s8 B_b6=>?_)
 replace hs:=hs.tr0 s8
 refine zz (d:=4) (T:=100) (κ.H.size,199002) hs.1 [iv 0,iv 0] kr kr kr fun b9 κ10 s11 B_b9=>?_
 replace hs:=hs.tr0 s11
 replace B_b6:=B_b6.step0 s11
 refine otx (op 6 (.agg #[iv 0,iv 1]) (op 7 (.agg #[iv 1,iv 0]) (op 8 (.agg #[iv 0,iv (-1)]) (op 9 (.agg #[iv (-1),iv 0]) (op 10 (.agg #[iv 0,iv 1,iv 1,iv 0,iv 0,iv (-1),iv (-1),iv 0]) (op 11 (iv p1) ?_))))))
 obtain ⟨x12,hx12,hr⟩:=bind_some hr
 have hb13:I64 x12.1:=by rcases zkV hx12 with ⟨_,h2⟩ | ⟨_,h2⟩ | ⟨_,h2⟩ | ⟨_,h2⟩<;>rw [h2]<;>unfold I64<;>omega
 have hb14:I64 x12.2:=by rcases zkV hx12 with ⟨_,h2⟩ | ⟨_,h2⟩ | ⟨_,h2⟩ | ⟨_,h2⟩<;>rw [h2]<;>unfold I64<;>omega
 refine oq 12 (.agg #[iv x12.1,iv x12.2]) (fun w=>zjA (s:=vOf (Instr.index 299 (.agg #[iv 0,iv 1,iv 1,iv 0,iv 0,iv (-1),iv (-1),iv 0]) (iv p1))) kr (by rcases zkV hx12 with ⟨h1,h2⟩ | ⟨h1,h2⟩ | ⟨h1,h2⟩ | ⟨h1,h2⟩<;>(rw [h1,h2];kernel_rfl))) (zz (d:=5) (T:=100) (κ.H.size,199003) hs.1 [iv 0,iv 0] kr kr kr fun b15 κ16 s17 B_b15=>?_)
 replace hs:=hs.tr0 s17
 replace B_b6:=B_b6.step0 s17
 replace B_b9:=B_b9.step0 s17
 refine zn (b:=b15) (off:=0) (T:=100) (.agg #[iv x12.1,iv x12.2]) [iv x12.1,iv x12.2] [iv x12.1,iv x12.2] kr kr B_b15 rfl kr kr kr rfl fun κ18 s19 _ NB_b15=>?_
 replace hs:=hs.trB B_b15.ge s19
 replace B_b6:=B_b6.step s19 (nm1 (B_b6.ne B_b15 (zm (N:=κ.H.size) (M:=κ.H.size) (i:=199001) (j:=199003) kr)))
 replace B_b9:=B_b9.step s19 (nm1 (B_b9.ne B_b15 (zm (N:=κ.H.size) (M:=κ.H.size) (i:=199002) (j:=199003) kr)))
 replace B_b15:=NB_b15
 refine otx (oN 13 100 [iv p0.1,iv p0.2] (B_b6.at.part 0 2).2 (oN 14 100 [iv x12.1,iv x12.2] (B_b15.at.part 0 2).2 ?_))
 obtain ⟨x20,hx20,hr⟩:=bind_some hr
 refine ocl 15 (zkU hb1 hb2 hb13 hb14 hx20) ?_
 rintro _ κ23 ⟨s24,rfl,hb21,hb22⟩
 replace hs:=hs.tr0 s24
 replace B_b9:=B_b9.step0 s24
 refine zn (b:=b9) (off:=0) (T:=100) (.agg #[iv x20.1,iv x20.2]) [iv x20.1,iv x20.2] [iv x20.1,iv x20.2] kr kr B_b9 rfl kr kr kr rfl fun κ25 s26 _ NB_b9=>?_
 replace hs:=hs.trB B_b9.ge s26
 replace B_b9:=NB_b9
 refine ot (crt ?_)
 obtain rfl:=sj hr
 refine rt [.cell 4 100] [.agg #[iv x20.1,iv x20.2]] ⟨⟨b9,0,[iv x20.1,iv x20.2],rfl,rfl,kr,kr,(B_b9.at.part 0 2).2⟩,trivial⟩ ?_
 exact ⟨hs,rfl,hb21,hb22⟩
theorem zgX {κ:K} {σ:Type} {y0:σ→(Int×Int)→Int→Option σ} {J0:σ→K→Prop} {F0 B0 l0:Nat} {s0:σ} {p1:LP} {pb1 po1:Nat} {a4:OA} {c5:Nat} (Hs0:Stab F0 B0 J0) (Hy0:∀ {κ':K} {s s':σ} {q0_0:Int×Int} {q0_1:Int} (hb1:I64 q0_0.1) (hb2:I64 q0_0.2) (hb3:I64 q0_1),J0 s κ'→y0 s q0_0 q0_1=some s'→Yl Tryz.prog l0 #[.agg #[iv q0_0.1,iv q0_0.2],iv q0_1] κ' (fun κ''=>Step (tb F0 κ') κ' κ''∧J0 s' κ'')) (hJ0:J0 s0 κ) (hB0:B0≤κ.H.size) (hF0:Nat.beq 197 F0=false) (m1:At κ pb1 po1 [sl a4 p1.length c5]) (nm_m1:pb1∉(tb F0 κ)) (f6:Sl tPlaced κ a4 c5 p1) {r:σ} (hr:zb8 y0 s0 p1=some r) :
 Fn Tryz.prog 197 #[.func (.yield l0) #[] #[],pt pb1 po1] κ (fun v κ'=>Step (tb F0 κ) κ κ'∧v=.tuple #[]∧J0 r κ'):=by
 refine fnc 41 (tb F0 κ) Tryz.func197 Tryz.ntmps197 fun hs=>csr (op 8 (pt pb1 po1) (o1 9 26 (sl a4 p1.length c5) ((m1.step hs nm_m1).one (o:=0) rfl) (op 10 (iv (p1.length:Int)) (op 11 (iv 0) (ot (cb 0 ?_))))))
 refine zj 0 (fun Z=>∀ (y10:σ) (E0:Env) (κ11:K) (hs:Step (tb F0 κ) κ κ11) (hJ0:J0 y10 κ11),zbo y10=some r→Z (E0) κ11) ?_ fun J1=>?_
 ·intro y10 E0 κ11 hs hJ0 hr
  refine zg ?_
  obtain rfl:=sj hr
  refine rn [] [] trivial ?_
  exact ⟨hs,rfl,hJ0⟩
 obtain ⟨x12,hx12,hrx12⟩:=bind_some hr
 refine zo (F:=zK y0 p1) (J:=fun (sx12:Int×σ) (E':Env) (κ':K)=>(∃ E0,E'=upd (upd (upd (upd (upd (E0) 0 (.func (.yield l0) #[] #[])) 1 (pt pb1 po1)) 9 (sl a4 p1.length c5)) 10 (iv (p1.length:Int))) 11 (iv sx12.1))∧Step (tb F0 κ) κ κ'∧I64 sx12.1∧J0 sx12.2 κ') (s0:=(0,s0)) (x:=x12) kr hx12 ⟨⟨_,(eA 11 (eA 10 (eA 9 (eA 1 (eA 0 rfl)))))⟩,hs,(show I64 0 by unfold I64;omega),hJ0⟩ ?_
 rintro sx12 _ κ13 ⟨⟨E0,rfl⟩,hs,hb8,hJ0⟩ yyx12 hr hdx12
 refine csr (op 12 (bW (sx12.1<(p1.length:Int))) (ot (cs ?_)))
 refine cc (decide (sx12.1<(p1.length:Int))) hr ?_ ?_
 ·intro hc hr
  refine ckt (cs (cb 1 (csr (op 13 (iv sx12.1) ?_))))
  obtain ⟨x14,hx14,hr⟩:=bind_some hr
  obtain ⟨b15,o16,eab15,i0x14,i1x14,csx14,p_b15,owx14⟩:=(f6.step hs).idx hx14
  obtain ⟨_,_,rfl,⟨_,_,rfl,⟨rfl,hb17⟩,⟨rfl,hb18⟩⟩,⟨rfl,hb19⟩⟩:=owx14
  replace p_b15:PubAt κ13 b15 (o16+sx12.1.toNat*3) [iv x14.1.1,iv x14.1.2,iv x14.2]:=p_b15
  refine oi 14 26 108 3 p1.length c5 .i64 sx12.1 eab15 i0x14 i1x14 (oN 15 108 [iv x14.1.1,iv x14.1.2,iv x14.2] (p_b15.at.part 0 3).2 (zz (d:=4) (T:=108) (κ.H.size,197001) hs.1 [iv 0,iv 0,iv 0] kr kr kr fun b20 κ21 s22 B_b20=>?_))
  replace hs:=hs.tr0 s22
  replace hJ0:=Hs0.j0 hJ0 s22
  refine op 3 (iv sx12.1) (zn (b:=b20) (off:=0) (T:=108) (.agg #[iv x14.1.1,iv x14.1.2,iv x14.2]) [iv x14.1.1,iv x14.1.2,iv x14.2] [iv x14.1.1,iv x14.1.2,iv x14.2] kr kr B_b20 rfl kr kr kr rfl fun κ23 s24 _ NB_b20=>?_)
  replace hs:=hs.trB B_b20.ge s24
  replace hJ0:=Hs0.jo hJ0 s24 B_b20.o (zsa hF0) (Nat.le_trans hB0 B_b20.ge)
  replace B_b20:=NB_b20
  refine otx (zO (d:=16) (T:=95) (e:=2) (t:=tI64) (pub:=true) (τ:=(κ.H.size,197002)) (len:=2) (l:=[1,0]) (parts:=#[(0,iv 1),(1,iv 0)]) (cs:=[iv 1,iv 0]) kr kr kr kr hs.1 rfl ⟨_,_,rfl,⟨rfl,(show I64 1 by unfold I64;omega)⟩,⟨_,_,rfl,⟨rfl,(show I64 0 by unfold I64;omega)⟩,rfl⟩⟩ kr fun a27 κ25 s26 f28=>?_)
  replace hs:=hs.tr0 s26
  replace hJ0:=Hs0.j0 hJ0 s26
  replace B_b20:=B_b20.step0 s26
  refine op 17 (iv ([1,0].length:Int)) (op 18 (iv 0) (ot (cb 2 ?_)))
  refine zj 2 (fun Z=>∀ (y33:σ) (E0:Env) (κ34:K) (hs:Step (tb F0 κ) κ κ34) (hJ0:J0 y33 κ34),zbn sx12 y33=some yyx12→Z (upd (upd (upd (upd (upd (E0) 0 (.func (.yield l0) #[] #[])) 1 (pt pb1 po1)) 9 (sl a4 p1.length c5)) 10 (iv (p1.length:Int))) 11 (iv sx12.1)) κ34) ?_ fun J2=>?_
  ·intro y33 E0 κ34 hs hJ0 hr
   refine zg (zd (za (cr (op 40 (iv (w64 (sx12.1+1))) (op 11 (iv (w64 (sx12.1+1))) (oe ?_))))))
   exact ze (sj hr).symm ⟨⟨_,(eA 11 (eA 10 (eA 9 (eA 1 (eA 0 rfl)))))⟩,hs,(zq _),hJ0⟩
  obtain ⟨x35,hx35,hrx35⟩:=bind_some hr
  refine zo (F:=zJ y0 p1 sx12 x14) (J:=fun (sx35:Int×σ) (E':Env) (κ':K)=>(∃ E0,E'=upd (upd (upd (upd (upd (upd (upd (upd (upd (upd (E0) 0 (.func (.yield l0) #[] #[])) 1 (pt pb1 po1)) 3 (iv sx12.1)) 4 (pt b20 0)) 9 (sl a4 p1.length c5)) 10 (iv (p1.length:Int))) 11 (iv sx12.1)) 16 (sl a27 ([1,0]).length 2)) 17 (iv ([1,0].length:Int))) 18 (iv sx35.1))∧Step (tb F0 κ) κ κ'∧I64 sx35.1∧Gr tI64 true (κ.H.size,197002) κ' 2 a27 2 [1,0]∧J0 sx35.2 κ'∧Box (κ.H.size,197001) κ' b20 [iv x14.1.1,iv x14.1.2,iv x14.2] 108) (s0:=(0,sx12.2)) (x:=x35) kr hx35 ⟨⟨_,(eA 18 (eA 17 (eA 16 (eA 11 (eA 10 (eA 9 (eA 4 (eA 3 (eA 1 (eA 0 rfl))))))))))⟩,hs,(show I64 0 by unfold I64;omega),f28,hJ0,B_b20⟩ ?_
  rintro sx35 _ κ36 ⟨⟨E0,rfl⟩,hs,hb31,f28,hJ0,B_b20⟩ yyx35 hr hdx35
  refine csr (op 19 (bW (sx35.1<([1,0].length:Int))) (ot (cs ?_)))
  refine cc (decide (sx35.1<([1,0].length:Int))) hr ?_ ?_
  ·intro hc hr
   refine ckt (cs (cb 3 (csr ?_)))
   obtain ⟨x37,hx37,hr⟩:=bind_some hr
   obtain ⟨b38,o39,eab38,i0x37,i1x37,csx37,p_b38,owx37⟩:=f28.sl.idx hx37
   obtain ⟨rfl,hb40⟩:=owx37
   replace p_b38:PubAt κ36 b38 (o39+sx35.1.toNat*1) [iv x37]:=p_b38
   refine oi 20 95 2 1 (([1,0]).length) 2 .i64 sx35.1 eab38 i0x37 i1x37 (o1 21 2 (iv x37) (p_b38.at.one (o:=0) rfl) (op 6 (iv x37) (ot (cs (cx_ 5 [0,1,2,3,4] [4] 5 [] (xN 22 28 [sl a4 p1.length c5] (m1.step hs nm_m1) 0 1 rfl (xp 23 (pt b20 0) (xN 24 100 [iv x14.1.1,iv x14.1.2] B_b20.at 0 2 rfl (xp 25 (iv x37) ?_)))))))))
   obtain ⟨x41,hx41,hr⟩:=bind_some hr
   refine xcl 26 (zkT hb17 hb18 hb40 hx41) ?_
   rintro _ κ44 ⟨s45,rfl,hb42,hb43⟩
   refine ⟨s45,?_⟩
   replace hs:=hs.tr0 s45
   replace f28:=f28.step0 s45
   replace hJ0:=Hs0.j0 hJ0 s45
   replace B_b20:=B_b20.step0 s45
   refine xe ?_
   obtain ⟨x46,hx46,hr⟩:=bind_some hr
   refine ocl 27 (zih (f6.step hs) hb42 hb43 hx46) ?_
   rintro _ κ48 ⟨s49,rfl,hb47⟩
   replace hs:=hs.tr0 s49
   replace f28:=f28.step0 s49
   replace hJ0:=Hs0.j0 hJ0 s49
   replace B_b20:=B_b20.step0 s49
   refine op 7 (iv x46) (ot ?_)
   refine zl (fun Z=>∀ (y50:σ) (E0:Env) (κ51:K) (hs:Step (tb F0 κ) κ κ51) (f28:Gr tI64 true (κ.H.size,197002) κ51 2 a27 2 [1,0]) (hJ0:J0 y50 κ51) (B_b20:Box (κ.H.size,197001) κ51 b20 [iv x14.1.1,iv x14.1.2,iv x14.2] 108),z1 sx35 y50=some yyx35→cwp Tryz.prog 41 (sub (zC Tryz.f197) [1,1,1,0,0,1,1,0,0,1,1,0,0,1,1,0,0,1]) Z (upd (upd (upd (upd (upd (upd (upd (upd (upd (upd (upd (E0) 0 (.func (.yield l0) #[] #[])) 1 (pt pb1 po1)) 3 (iv sx12.1)) 4 (pt b20 0)) 9 (sl a4 p1.length c5)) 10 (iv (p1.length:Int))) 11 (iv sx12.1)) 16 (sl a27 ([1,0]).length 2)) 17 (iv ([1,0].length:Int))) 18 (iv sx35.1)) 38 (.bool false)) κ51) ?_ fun J3=>?_
   ·intro y50 E0 κ51 hs f28 hJ0 B_b20 hr
    refine cf (ck (zd (za (cr (op 39 (iv (w64 (sx35.1+1))) (op 18 (iv (w64 (sx35.1+1))) (oe ?_)))))))
    exact ze (sj hr).symm ⟨⟨_,(eA 18 (eA 17 (eA 16 (eA 11 (eA 10 (eA 9 (eA 4 (eA 3 (eA 1 (eA 0 rfl))))))))))⟩,hs,(zq _),f28,hJ0,B_b20⟩
   refine csr (op 28 (iv x46) (op 29 (bW (x46≥0)) ?_))
   refine osp 30 (decide (x46≥0)) hr ?_ ?_
   ·intro hg hr
    refine os 31 (os 32 (os 33 (os 34 (os 35 (os 36 (os 37 (op 38 (.bool false) (ot ?_))))))))
    exact zk (eA 38 (eA 18 (eA 17 (eA 16 (eA 11 (eA 10 (eA 9 (eA 4 (eA 3 (eA 1 (eA 0 rfl))))))))))) (J3 sx35.2  _ _ hs f28 hJ0 B_b20 hr)
   intro hg hr
   refine op 31 (.func (.yield l0) #[] #[]) (op 32 (iv sx12.1) (op 33 (iv x46) (op 34 (.agg #[iv sx12.1,iv x46]) (op 35 (iv x37) ?_))))
   obtain ⟨x52,hx52,hr⟩:=bind_some hr
   refine oyl 36 (Hy0 (q0_0:=(sx12.1,x46)) (q0_1:=x37) hb8 hb47 hb40 hJ0 hx52) fun κ53 ⟨s54,NhJ⟩=>?_
   replace hs:=hs.trT (by intro b hb;simp [hb]) s54
   replace f28:=f28.step s54 (f28.ntb (zpH hF0))
   replace B_b20:=B_b20.step s54 (B_b20.ntb (zpH hF0))
   replace hJ0:=NhJ
   refine op 37 (.bool false) (op 38 (.bool false) (ot ?_))
   exact zk (eA 38 (eA 18 (eA 17 (eA 16 (eA 11 (eA 10 (eA 9 (eA 4 (eA 3 (eA 1 (eA 0 rfl))))))))))) (J3 x52  _ _ hs f28 hJ0 B_b20 hr)
  intro hc hr
  refine cx 2 (zh ?_)
  have hx:=hdx35 _ (sj hr).symm
  subst hx
  replace hr:=hrx35
  refine zi ?_
  exact zr (eA 11 (eA 10 (eA 9 (eA 1 (eA 0 rfl))))) (J2 sx35.2  _ _ hs hJ0 hr)
 intro hc hr
 refine cx 0 (zh ?_)
 have hx:=hdx12 _ (sj hr).symm
 subst hx
 replace hr:=hrx12
 refine zi ?_
 exact zr rfl (J1 sx12.2  _ _ hs hJ0 hr)
theorem zhI {κ:K} {p0:LP} {a1:OA} {c2:Nat} (f3:Sl tPlaced κ a1 c2 p0) {r:(LP)} (hr:zdg p0=some r) :
 Fn Tryz.prog 175 #[.agg #[sl a1 p0.length c2]] κ (fun v κ'=>Step [] κ κ'∧∃ (b4:Nat) (N5:Nat) (a6:OA) (c7:Nat),v=.func (.func 197) #[] #[pt b4 0]∧κ.H.size≤N5∧Box (N5,175001) κ' b4 [sl a6 r.length c7] 28∧Sl tPlaced κ' a6 c7 r):=by
 refine fnc 4 [] Tryz.func175 Tryz.ntmps175 fun hs=>csr (zv (d:=1) (T:=28) (κ.H.size,175001) hs.1 (.agg #[sl a1 p0.length c2]) [sl a1 p0.length c2] kr kr rfl fun b9 κ10 s11 B_b9=>?_)
 replace hs:=hs.tr0 s11
 refine op 2 (.nilFunc) (otx (op 3 (.func (.func 197) #[] #[pt b9 0]) (op 2 (.func (.func 197) #[] #[pt b9 0]) (ot (crt ?_)))))
 obtain rfl:=sj hr
 refine rt [.tmp 2] [.func (.func 197) #[] #[pt b9 0]] ⟨rfl,trivial⟩ ?_
 exact ⟨hs,_,_,_,_,rfl,(Nat.le_refl _),B_b9,(f3.step hs)⟩
theorem zlV {κ:K} {p0:Int} (hb1:I64 p0) {r:Int} (hr:zid p0=some r) :
 Fn Tryz.prog 200 #[iv p0] κ (fun v κ'=>κ=κ'∧v=iv r∧I64 r):=by
 refine fnc 6 [] Tryz.func200 Tryz.ntmps200 fun hs=>csr (op 2 (iv 0) (otx (op 3 (iv p0) (op 4 (iv (w64 (p0+2))) (op 5 (iv (Int.tmod (w64 (p0+2)) 4)) (op 2 (iv (Int.tmod (w64 (p0+2)) 4)) (ot (crt ?_))))))))
 obtain rfl:=sj hr
 refine rt [.tmp 2] [iv (Int.tmod (w64 (p0+2)) 4)] ⟨rfl,trivial⟩ ?_
 exact ⟨rfl,rfl,(zn4 (by decide) (zq _))⟩
theorem zif {κ:K} {p0:LG×LT} {a1:OA} {c2:Nat} {a4:OA} {c5:Nat} {p1:Int} {p2:Int} (f3:Sl tGlue κ a1 c2 p0.1) (f6:Sl zQ κ a4 c5 p0.2) (hb7:I64 p1) (hb8:I64 p2) {r:Int} (hr:zcb p0 p1 p2=some r) :
 Fn Tryz.prog 201 #[.agg #[sl a1 p0.1.length c2,sl a4 p0.2.length c5],iv p1,iv p2] κ (fun v κ'=>Step [] κ κ'∧v=iv r∧I64 r):=by
 refine fnc 26 [] Tryz.func201 Tryz.ntmps201 fun hs=>csr (zv (d:=3) (T:=25) (κ.H.size,201001) hs.1 (.agg #[sl a1 p0.1.length c2,sl a4 p0.2.length c5]) [sl a1 p0.1.length c2,sl a4 p0.2.length c5] kr kr rfl fun b10 κ11 s12 B_b10=>?_)
 replace hs:=hs.tr0 s12
 refine op 6 (iv 0) (ot (cs (csr (op 8 (pt b10 1) (o1 9 23 (sl a4 p0.2.length c5) (B_b10.at.one (o:=1) rfl) (op 10 (iv p1) ?_))))))
 obtain ⟨x13,hx13,hr⟩:=bind_some hr
 obtain ⟨b14,o15,eab14,i0x13,i1x13,csx13,p_b14,owx13⟩:=(f6.step hs).idx hx13
 obtain ⟨_,_,rfl,⟨rfl,hb16⟩,⟨a17,c18,rfl,f19⟩⟩:=owx13
 replace p_b14:PubAt κ11 b14 (o15+p1.toNat*2) [strV x13.1,sl a17 x13.2.length c18]:=p_b14
 refine oi 11 23 97 2 p0.2.length c5 .i64 p1 eab14 i0x13 i1x13 (op 12 (pt b14 (o15+p1.toNat*2+1)) (o1 13 95 (sl a17 x13.2.length c18) (p_b14.at.one (o:=1) rfl) (op 14 (iv p2) ?_)))
 obtain ⟨x20,hx20,hr⟩:=bind_some hr
 obtain ⟨b21,o22,eab21,i0x20,i1x20,csx20,p_b21,owx20⟩:=f19.idx hx20
 obtain ⟨rfl,hb23⟩:=owx20
 replace p_b21:PubAt κ11 b21 (o22+p2.toNat*1) [iv x20]:=p_b21
 refine oi 15 95 2 1 x13.2.length c18 .i64 p2 eab21 i0x20 i1x20 (o1 16 2 (iv x20) (p_b21.at.one (o:=0) rfl) (op 7 (iv x20) (otx (op 17 (iv x20) (op 18 (bW (x20>0)) (ot ?_))))))
 refine cc (decide (x20>0)) hr ?_ ?_
 ·intro hc hr
  refine csr (op 19 (pt b10 0) (o1 20 22 (sl a1 p0.1.length c2) (B_b10.at.one (o:=0) rfl) (op 21 (iv x20) (op 22 (iv (w64 (x20 - 1))) ?_))))
  obtain ⟨x24,hx24,hr⟩:=bind_some hr
  obtain ⟨b25,o26,eab25,i0x24,i1x24,csx24,p_b25,owx24⟩:=(f3.step hs).idx hx24
  obtain ⟨_,_,rfl,⟨rfl,hb27⟩,⟨rfl,hb28⟩⟩:=owx24
  replace p_b25:PubAt κ11 b25 (o26+(w64 (x20 - 1)).toNat*2) [strV x24.1,iv x24.2]:=p_b25
  refine oi 23 22 94 2 p0.1.length c2 .i64 (w64 (x20 - 1)) eab25 i0x24 i1x24 (op 24 (pt b25 (o26+(w64 (x20 - 1)).toNat*2+1)) (o1 25 2 (iv x24.2) (p_b25.at.one (o:=1) rfl) (op 6 (iv x24.2) (ot (crt (zb ?_))))))
  obtain rfl:=sj hr
  refine rt [.tmp 6] [iv x24.2] ⟨rfl,trivial⟩ ?_
  exact ⟨hs,rfl,hb28⟩
 intro hc hr
 refine ckt (csr (op 6 (iv 0) (ot (crt ?_))))
 obtain rfl:=sj hr
 refine rt [.tmp 6] [iv 0] ⟨rfl,trivial⟩ ?_
 exact ⟨hs,rfl,(show I64 0 by unfold I64;omega)⟩
theorem zjP {κ:K} {p0:LG×LT} {a1:OA} {c2:Nat} {a4:OA} {c5:Nat} {p1:Int} {p2:Int} {p3:Int} (f3:Sl tGlue κ a1 c2 p0.1) (f6:Sl zQ κ a4 c5 p0.2) (hb7:I64 p1) (hb8:I64 p2) (hb9:I64 p3) {r:Int} (hr:zd0 p0 p1 p2 p3=some r) :
 Fn Tryz.prog 176 #[.agg #[sl a1 p0.1.length c2,sl a4 p0.2.length c5],iv p1,iv p2,iv p3] κ (fun v κ'=>Step [] κ κ'∧v=iv r∧I64 r):=by
 refine fnc 33 [] Tryz.func176 Tryz.ntmps176 fun hs=>csr (zv (d:=4) (T:=25) (κ.H.size,176001) hs.1 (.agg #[sl a1 p0.1.length c2,sl a4 p0.2.length c5]) [sl a1 p0.1.length c2,sl a4 p0.2.length c5] kr kr rfl fun b11 κ12 s13 B_b11=>?_)
 replace hs:=hs.tr0 s13
 refine op 8 (iv 0) (ot (cs (cs (cd 19 (dp 9 (pt b11 1) (d1 10 23 (sl a4 p0.2.length c5) (B_b11.at.one (o:=1) rfl) (dp 11 (iv p1) ?_)))))))
 obtain ⟨x14,hx14,hr⟩:=bind_some hr
 obtain ⟨b15,o16,eab15,i0x14,i1x14,csx14,p_b15,owx14⟩:=(f6.step hs).idx hx14
 obtain ⟨_,_,rfl,⟨rfl,hb17⟩,⟨a18,c19,rfl,f20⟩⟩:=owx14
 replace p_b15:PubAt κ12 b15 (o16+p1.toNat*2) [strV x14.1,sl a18 x14.2.length c19]:=p_b15
 refine di 12 23 97 2 p0.2.length c5 .i64 p1 eab15 i0x14 i1x14 (dp 13 (pt b15 (o16+p1.toNat*2+1)) (d1 14 95 (sl a18 x14.2.length c19) (p_b15.at.one (o:=1) rfl) (dp 15 (iv p2) ?_)))
 obtain ⟨x21,hx21,hr⟩:=bind_some hr
 obtain ⟨b22,o23,eab22,i0x21,i1x21,csx21,p_b22,owx21⟩:=f20.idx hx21
 obtain ⟨rfl,hb24⟩:=owx21
 replace p_b22:PubAt κ12 b22 (o23+p2.toNat*1) [iv x21]:=p_b22
 refine di 16 95 2 1 x14.2.length c19 .i64 p2 eab22 i0x21 i1x21 (d1 17 2 (iv x21) (p_b22.at.one (o:=0) rfl) (dp 18 (pt b11 1) (d1 19 23 (sl a4 p0.2.length c5) (B_b11.at.one (o:=1) rfl) (dp 20 (iv p3) ?_))))
 obtain ⟨x25,hx25,hr⟩:=bind_some hr
 obtain ⟨b26,o27,eab26,i0x25,i1x25,csx25,p_b26,owx25⟩:=(f6.step hs).idx hx25
 obtain ⟨_,_,rfl,⟨rfl,hb28⟩,⟨a29,c30,rfl,f31⟩⟩:=owx25
 replace p_b26:PubAt κ12 b26 (o27+p3.toNat*2) [strV x25.1,sl a29 x25.2.length c30]:=p_b26
 refine di 21 23 97 2 p0.2.length c5 .i64 p3 eab26 i0x25 i1x25 (dp 22 (pt b26 (o27+p3.toNat*2+1)) (d1 23 95 (sl a29 x25.2.length c30) (p_b26.at.one (o:=1) rfl) (dp 24 (iv p2) ?_)))
 obtain ⟨x32,hx32,hr⟩:=bind_some hr
 refine dc 25 (zlV hb8 hx32) fun hb33=>?_
 obtain ⟨x34,hx34,hr⟩:=bind_some hr
 obtain ⟨b35,o36,eab35,i0x34,i1x34,csx34,p_b35,owx34⟩:=f31.idx hx34
 obtain ⟨rfl,hb37⟩:=owx34
 replace p_b35:PubAt κ12 b35 (o36+x32.toNat*1) [iv x34]:=p_b35
 refine di 26 95 2 1 x25.2.length c30 .i64 x32 eab35 i0x34 i1x34 (d1 27 2 (iv x34) (p_b35.at.one (o:=0) rfl) (de (op 28 (bW (x21=x34)) (ot ?_))))
 refine cc (decide (x21=x34)) hr ?_ ?_
 ·intro hc hr
  refine csr (oN 29 25 [sl a1 p0.1.length c2,sl a4 p0.2.length c5] (B_b11.at.part 0 2).2 (op 30 (iv p1) (op 31 (iv p2) ?_)))
  obtain ⟨x38,hx38,hr⟩:=bind_some hr
  refine ocl 32 (zif (f3.step hs) (f6.step hs) hb7 hb8 hx38) ?_
  rintro _ κ40 ⟨s41,rfl,hb39⟩
  replace hs:=hs.tr0 s41
  refine op 8 (iv x38) (ot (crt (zb ?_)))
  obtain rfl:=sj hr
  refine rt [.tmp 8] [iv x38] ⟨rfl,trivial⟩ ?_
  exact ⟨hs,rfl,hb39⟩
 intro hc hr
 refine ckt (csr (op 8 (iv 0) (ot (crt ?_))))
 obtain rfl:=sj hr
 refine rt [.tmp 8] [iv 0] ⟨rfl,trivial⟩ ?_
 exact ⟨hs,rfl,(show I64 0 by unfold I64;omega)⟩
theorem zjj {κ:K} {p0:LG×LT} {a1:OA} {c2:Nat} {a4:OA} {c5:Nat} {p1:LP} {a7:OA} {c8:Nat} (f3:Sl tGlue κ a1 c2 p0.1) (f6:Sl zQ κ a4 c5 p0.2) (f9:Sl tPlaced κ a7 c8 p1) {r:LB} (hr:zb7 p0 p1=some r) :
 Fn Tryz.prog 136 #[.agg #[sl a1 p0.1.length c2,sl a4 p0.2.length c5],.agg #[sl a7 p1.length c8]] κ (fun v κ'=>Step [] κ κ'∧∃ (a10:OA) (c11:Nat),v=sl a10 r.length c11∧Sl zR κ' a10 c11 r):=by
 refine zug 42 [] Tryz.func136 Tryz.ntmps136 fun hs=>csM (cr (zv (d:=2) (T:=25) (κ.H.size,136001) hs.1 (.agg #[sl a1 p0.1.length c2,sl a4 p0.2.length c5]) [sl a1 p0.1.length c2,sl a4 p0.2.length c5] kr kr rfl fun b13 κ14 s15 B_b13=>?_))
 replace hs:=hs.tr0 s15
 refine zv (d:=3) (T:=28) (κ.H.size,136002) hs.1 (.agg #[sl a7 p1.length c8]) [sl a7 p1.length c8] kr kr rfl fun b16 κ17 s18 B_b16=>?_
 replace hs:=hs.tr0 s18
 replace B_b13:=B_b13.step0 s18
 refine op 4 (sl none 0 0) (oe (tMn (csM (cr (zz (d:=5) (T:=109) (κ.H.size,136003) hs.1 [sl none 0 0] kr kr kr fun b19 κ20 s21 B_b19=>?_)))))
 replace hs:=hs.tr0 s21
 replace B_b13:=B_b13.step0 s21
 replace B_b16:=B_b16.step0 s21
 refine oe (tMn (csB (cr (oN 9 28 [sl a7 p1.length c8] (B_b16.at.part 0 1).2 ?_))))
 obtain ⟨x22,hx22,hr⟩:=bind_some hr
 refine ocl 10 (zhI (f9.step hs) hx22) ?_
 rintro _ κ28 ⟨s29,b23,N24,a25,c26,rfl,go_N24,B_b23,f27⟩
 replace go_N24:=Nat.le_trans hs.1 go_N24
 replace hs:=hs.tr0 s29
 replace B_b13:=B_b13.step0 s29
 replace B_b16:=B_b16.step0 s29
 replace B_b19:=B_b19.step0 s29
 refine oe (tBn ?_)
 obtain ⟨x34,hx34,hr⟩:=bind_some hr
 have hl0:=hs.1
 refine zqF (id:=0) (g:=.tmp 10) (ps:=[11,12]) (gf:=197) (lb:=#[pt b23 0]) 136 κ.H.size (fun (sx34:LB) (κ':K)=>∃ (a32:OA) (c33:Nat),Step [] κ κ'∧Gr zR true (κ.H.size,136006) κ' 134 a32 c33 sx34∧Box (κ.H.size,136001) κ' b13 [sl a1 p0.1.length c2,sl a4 p0.2.length c5] 25∧Box (κ.H.size,136002) κ' b16 [sl a7 p1.length c8] 28∧Box (κ.H.size,136003) κ' b19 [sl a32 sx34.length c33] 109) (fun κ' (q:(Int×Int)×Int)=>I64 q.1.1∧I64 q.1.2∧I64 q.2) (fun κ' (q:(Int×Int)×Int) vs=>vs=[.agg #[iv q.1.1,iv q.1.2],iv q.2]) (zT p0 p1) [] x34 hs.1 ?_ ⟨_,_,hs,Gr.nil,B_b13,B_b16,B_b19⟩ ?_ ?_ ?_
 ·intro s κa κb M hj st hM
  obtain ⟨a32,c33,hs,f31,B_b13,B_b16,B_b19⟩:=hj
  exact ⟨_,_,hs.trZ st hM,f31.stepZ st hM kr,B_b13.stepZ st hM kr,B_b16.stepZ st hM kr,B_b19.stepZ st hM kr⟩
 ·intro l N ob1 ob2 κ35 sx34 s' q vs hN Rl hj hok henc hr
  obtain ⟨a32,c33,hs,f31,B_b13,B_b16,B_b19⟩:=hj
  obtain ⟨hb36,hb37,hb38⟩:=hok
  subst henc
  refine ⟨rfl,fun inst hds=>?_⟩
  have go_N:κ.H.size≤N:=Nat.le_trans hl0 hN
  have hy:Step (tb 136 κ35) κ35 κ35:=Step.refl _ _
  refine zk (eA 12 (v:=iv q.2) (eA 11 (v:=.agg #[iv q.1.1,iv q.1.2]) (eA 5 (v:=pt b19 0) (eA 3 (v:=pt b16 0) (eA 2 (v:=pt b13 0) rfl))))) (csr (zz (d:=6) (T:=250) (κ.H.size,136004) hs.1 [iv 0,iv 0] kr kr kr fun b39 κ40 s41 B_b39=>?_))
  replace hy:=hy.tr0 s41
  replace hs:=hs.tr0 s41
  replace f31:=f31.step0 s41
  replace B_b13:=B_b13.step0 s41
  replace B_b16:=B_b16.step0 s41
  replace B_b19:=B_b19.step0 s41
  replace Rl:=Rl.step0 s41
  refine zn (b:=b39) (off:=0) (T:=250) (.agg #[iv q.1.1,iv q.1.2]) [iv q.1.1,iv q.1.2] [iv q.1.1,iv q.1.2] kr kr B_b39 rfl kr kr kr rfl fun κ42 s43 _ NB_b39=>?_
  replace hy:=hy.trY (B_b39.o.tb1 kr) s43
  replace hs:=hs.trB B_b39.ge s43
  replace f31:=f31.step s43 (f31.nb B_b39 (zm (N:=κ.H.size) (M:=κ.H.size) (i:=136006) (j:=136004) kr))
  replace B_b13:=B_b13.step s43 (nm1 (B_b13.ne B_b39 (zm (N:=κ.H.size) (M:=κ.H.size) (i:=136001) (j:=136004) kr)))
  replace B_b16:=B_b16.step s43 (nm1 (B_b16.ne B_b39 (zm (N:=κ.H.size) (M:=κ.H.size) (i:=136002) (j:=136004) kr)))
  replace B_b19:=B_b19.step s43 (nm1 (B_b19.ne B_b39 (zm (N:=κ.H.size) (M:=κ.H.size) (i:=136003) (j:=136004) kr)))
  replace Rl:=Rl.step s43 (nm1 (Rl.o.ne B_b39.o (zm (N:=N) (M:=κ.H.size) (i:=999) (j:=136004) kr)))
  replace B_b39:=NB_b39
  refine otr (op 7 (iv q.2) (oe (rfb Rl fun κ44 s45 NRl=>?_)))
  replace hy:=hy.trY (Rl.o.tb1 kr) s45
  replace hs:=hs.trB (Nat.le_trans go_N Rl.ge) s45
  replace f31:=f31.step s45 (f31.nbo Rl.o (zm (N:=κ.H.size) (M:=N) (i:=136006) (j:=999) kr))
  replace B_b13:=B_b13.step s45 (nm1 (B_b13.o.ne Rl.o (zm (N:=κ.H.size) (M:=N) (i:=136001) (j:=999) kr)))
  replace B_b16:=B_b16.step s45 (nm1 (B_b16.o.ne Rl.o (zm (N:=κ.H.size) (M:=N) (i:=136002) (j:=999) kr)))
  replace B_b19:=B_b19.step s45 (nm1 (B_b19.o.ne Rl.o (zm (N:=κ.H.size) (M:=N) (i:=136003) (j:=999) kr)))
  replace B_b39:=B_b39.step s45 (nm1 (B_b39.o.ne Rl.o (zm (N:=κ.H.size) (M:=N) (i:=136004) (j:=999) kr)))
  replace Rl:=NRl
  refine cb 1 (cs (cd 16 (dN 13 25 [sl a1 p0.1.length c2,sl a4 p0.2.length c5] (B_b13.at.part 0 2).2 (dp 14 (pt b16 0) (d1 15 26 (sl a7 p1.length c8) (B_b16.at.one (o:=0) rfl) (dp 16 (pt b39 0) (d1 17 2 (iv q.1.1) (B_b39.at.one (o:=0) rfl) ?_)))))))
  obtain ⟨x46,hx46,hr⟩:=bind_some hr
  obtain ⟨b47,o48,eab47,i0x46,i1x46,csx46,p_b47,owx46⟩:=(f9.step hs).idx hx46
  obtain ⟨_,_,rfl,⟨_,_,rfl,⟨rfl,hb49⟩,⟨rfl,hb50⟩⟩,⟨rfl,hb51⟩⟩:=owx46
  replace p_b47:PubAt κ44 b47 (o48+q.1.1.toNat*3) [iv x46.1.1,iv x46.1.2,iv x46.2]:=p_b47
  refine di 18 26 108 3 p1.length c8 .i64 q.1.1 eab47 i0x46 i1x46 (dp 19 (pt b47 (o48+q.1.1.toNat*3+2)) (d1 20 2 (iv x46.2) (p_b47.at.one (o:=2) rfl) (dp 21 (iv q.2) (dp 22 (pt b16 0) (d1 23 26 (sl a7 p1.length c8) (B_b16.at.one (o:=0) rfl) (dp 24 (pt b39 1) (d1 25 2 (iv q.1.2) (B_b39.at.one (o:=1) rfl) ?_)))))))
  obtain ⟨x52,hx52,hr⟩:=bind_some hr
  obtain ⟨b53,o54,eab53,i0x52,i1x52,csx52,p_b53,owx52⟩:=(f9.step hs).idx hx52
  obtain ⟨_,_,rfl,⟨_,_,rfl,⟨rfl,hb55⟩,⟨rfl,hb56⟩⟩,⟨rfl,hb57⟩⟩:=owx52
  replace p_b53:PubAt κ44 b53 (o54+q.1.2.toNat*3) [iv x52.1.1,iv x52.1.2,iv x52.2]:=p_b53
  refine di 26 26 108 3 p1.length c8 .i64 q.1.2 eab53 i0x52 i1x52 (dp 27 (pt b53 (o54+q.1.2.toNat*3+2)) (d1 28 2 (iv x52.2) (p_b53.at.one (o:=2) rfl) (de ?_)))
  obtain ⟨x58,hx58,hr⟩:=bind_some hr
  refine ocl 29 (zjP (f3.step hs) (f6.step hs) hb51 hb38 hb57 hx58) ?_
  rintro _ κ60 ⟨s61,rfl,hb59⟩
  replace hy:=hy.tr0 s61
  replace hs:=hs.tr0 s61
  replace f31:=f31.step0 s61
  replace B_b13:=B_b13.step0 s61
  replace B_b16:=B_b16.step0 s61
  replace B_b19:=B_b19.step0 s61
  replace Rl:=Rl.step0 s61
  replace B_b39:=B_b39.step0 s61
  refine op 8 (iv x58) (otx (op 30 (iv x58) (op 31 (bW (x58>0)) (ot ?_))))
  refine cc (decide (x58>0)) hr ?_ ?_
  ·intro hc hr
   refine cr (o1 32 109 (sl a32 sx34.length c33) (B_b19.at.one (o:=0) rfl) (op 33 (pt b39 0) (o1 34 2 (iv q.1.1) (B_b39.at.one (o:=0) rfl) (op 35 (pt b39 1) (o1 36 2 (iv q.1.2) (B_b39.at.one (o:=1) rfl) (op 37 (iv x58) (op 38 (.agg #[iv q.1.1,iv q.1.2,iv x58]) (zO (d:=39) (T:=109) (e:=134) (t:=zR) (pub:=true) (τ:=(κ.H.size,136005)) (len:=1) (l:=[(q.1.1,(q.1.2,x58))]) (parts:=#[(0,.agg #[iv q.1.1,iv q.1.2,iv x58])]) (cs:=[iv q.1.1,iv q.1.2,iv x58]) kr kr kr kr hs.1 rfl ⟨_,_,rfl,⟨_,_,rfl,⟨rfl,hb36⟩,⟨_,_,rfl,⟨rfl,hb37⟩,⟨rfl,hb59⟩⟩⟩,rfl⟩ kr fun a64 κ62 s63 f65=>?_))))))))
   replace hy:=hy.tr0 s63
   replace hs:=hs.tr0 s63
   replace f31:=f31.step0 s63
   replace B_b13:=B_b13.step0 s63
   replace B_b16:=B_b16.step0 s63
   replace B_b19:=B_b19.step0 s63
   replace Rl:=Rl.step0 s63
   obtain ⟨x67,hx67,hr⟩:=bind_some hr
   have f31q:=f31.sl
   refine zM (d:=40) (T:=109) (e:=134) (t:=zR) (pub:=true) (τ:=(κ.H.size,136006)) (bytes:=24) (a:=a32) (cp:=c33) (l:=sx34) (a2:=a64) (c2:=1) (l2:=[(q.1.1,(q.1.2,x58))]) kr kr f31 f65.sl hs.1 kr hx67 fun a70 c71 κ68 s69 f72 hw=>?_
   clear hw
   replace hy:=hy.trY (f31.tb1 kr) s69
   replace hs:=hs.trG (f31.own (Nat.le_refl _)) s69
   replace f31q:=f31q.step s69
   replace B_b13:=B_b13.step s69 (f31.bn B_b13 (zm (N:=κ.H.size) (M:=κ.H.size) (i:=136001) (j:=136006) kr))
   replace B_b16:=B_b16.step s69 (f31.bn B_b16 (zm (N:=κ.H.size) (M:=κ.H.size) (i:=136002) (j:=136006) kr))
   replace B_b19:=B_b19.step s69 (f31.bn B_b19 (zm (N:=κ.H.size) (M:=κ.H.size) (i:=136003) (j:=136006) kr))
   replace Rl:=Rl.step s69 (f31.bno Rl.o (zm (N:=N) (M:=κ.H.size) (i:=999) (j:=136006) kr))
   refine zn (b:=b19) (off:=0) (T:=109) (sl a70 x67.length c71) [sl a70 x67.length c71] [sl a70 x67.length c71] kr kr B_b19 rfl kr kr kr rfl fun κ73 s74 _ NB_b19=>?_
   replace hy:=hy.trY (B_b19.o.tb1 kr) s74
   replace hs:=hs.trB B_b19.ge s74
   replace f31q:=f31q.step s74
   replace f72:=f72.step s74 (f72.nb B_b19 (zm (N:=κ.H.size) (M:=κ.H.size) (i:=136006) (j:=136003) kr))
   replace B_b13:=B_b13.step s74 (nm1 (B_b13.ne B_b19 (zm (N:=κ.H.size) (M:=κ.H.size) (i:=136001) (j:=136003) kr)))
   replace B_b16:=B_b16.step s74 (nm1 (B_b16.ne B_b19 (zm (N:=κ.H.size) (M:=κ.H.size) (i:=136002) (j:=136003) kr)))
   replace Rl:=Rl.step s74 (nm1 (Rl.o.ne B_b19.o (zm (N:=N) (M:=κ.H.size) (i:=999) (j:=136003) kr)))
   replace B_b19:=NB_b19
   refine oe (zd ?_)
   obtain rfl:=sj hr
   exact rfe Rl hy ⟨_,_,hs,f72,B_b13,B_b16,B_b19⟩
  intro hc hr
  refine ck (zd ?_)
  obtain rfl:=sj hr
  exact rfe Rl hy ⟨_,_,hs,f31,B_b13,B_b16,B_b19⟩
 ·intro J' l κ1 s1 Hs Hy hJ
  exact (zgX (σ:=LB) (F0:=136) (B0:=κ.H.size) (J0:=J') (l0:=l) (y0:=(fun s q0 q1=>zT p0 p1 s (q0,q1))) (s0:=[]) (Hs0:=Hs) (Hy0 := @fun _ _ _ q0 q1 w0 w1 w2 hj he=>Hy (a:=(q0,q1)) hj ⟨w0,w1,w2⟩ rfl he) (hJ0:=hJ) (hB0:=Nat.le_trans hl0 s1.1) (hF0:=kr) (m1:=(B_b23.at.step0 s1).part 0 1) (nm_m1:=(B_b23.step0 s1).ntb (zpH kr)) (f6:=f27.step s1) hx34).mono fun _ _ h=>by obtain ⟨_,_,hj⟩:=h;exact hj
 intro N D κ75 hN Md hj inst hds
 obtain ⟨a32,c33,hs,f31,B_b13,B_b16,B_b19⟩:=hj
 have go_N:κ.H.size≤N:=Nat.le_trans hl0 hN
 refine zk (eA 5 (v:=pt b19 0) rfl) (csr (o1 41 109 (sl a32 x34.length c33) (B_b19.at.one (o:=0) rfl) (op 4 (sl a32 x34.length c33) (ot (crt (rtM Md fun κ76 s77 _=>?_))))))
 replace hs:=hs.trB (Nat.le_trans go_N Md.ge) s77
 replace f31:=f31.step s77 (f31.nbo Md.o (zm (N:=κ.H.size) (M:=N) (i:=136006) (j:=998) kr))
 obtain rfl:=sj hr
 refine rt [.tmp 4] [sl a32 x34.length c33] ⟨rfl,trivial⟩ ?_
 exact ⟨hs,_,_,rfl,f31.sl⟩
theorem zlr {κ:K} {p0:Int} {p1:LB} {a2:OA} {c3:Nat} (hb1:I64 p0) (f4:Sl zR κ a2 c3 p1) {r:(LM×LM)} (hr:zf9 p0 p1=some r) :
 Fn Tryz.prog 177 #[iv p0,sl a2 p1.length c3] κ (fun v κ'=>Step [] κ κ'∧∃ (b5:Nat) (N6:Nat) (a7:OA) (c8:Nat) (a10:OA) (c11:Nat) (H13:List Hd),v=pt b5 0∧κ.H.size≤N6∧Box (N6,177001) κ' b5 [sl a7 r.1.length c8,sl a10 r.2.length c11] 282∧Gr (tSl tI64) true (N6,177004) κ' 95 a7 c8 r.1∧Mat tI64 false (N6,177007) κ' 95 2 a10 c11 H13 H13 r.2):=by
 refine fnc 76 [] Tryz.func177 Tryz.ntmps177 fun hs=>csr (op 4 (.pointer none) (otx (op 8 (.agg #[sl none 0 0,sl none 0 0]) (zv (d:=9) (T:=282) (κ.H.size,177001) hs.1 (.agg #[sl none 0 0,sl none 0 0]) [sl none 0 0,sl none 0 0] kr kr rfl fun b14 κ15 s16 B_b14=>?_))))
 replace hs:=hs.tr0 s16
 refine op 5 (pt b14 0) (ot (cs (csr (op 10 (iv p0) (op 11 (iv 0) (ot (cb 0 ?_)))))))
 refine zj 0 (fun Z=>∀ (y29:LM) (y34:LM) (a31:OA) (c32:Nat) (H33:List Hd) (a36:OA) (c37:Nat) (H38:List Hd) (E0:Env) (κ39:K) (hs:Step [] κ κ39) (f30:Mat tI64 false (κ.H.size,177004) κ39 95 2 a31 c32 H33 H33 y29) (f35:Mat tI64 false (κ.H.size,177007) κ39 95 2 a36 c37 H38 H38 y34) (B_b14:Box (κ.H.size,177001) κ39 b14 [sl a31 y29.length c32,sl a36 y34.length c37] 282),zf8 p1 y29 y34=some r→Z (upd (upd (E0) 1 (sl a2 p1.length c3)) 5 (pt b14 0)) κ39) ?_ fun J1=>?_
 ·intro y29 y34 a31 c32 H33 a36 c37 H38 E0 κ39 hs f30 f35 B_b14 hr
  refine zg (za (cs (csr (op 36 (sl a2 p1.length c3) (op 37 (iv (p1.length:Int)) (op 38 (iv 0) (ot (cb 2 ?_))))))))
  refine zj 2 (fun Z=>∀ (y47:LM) (a49:OA) (c50:Nat) (H51:List Hd) (E0:Env) (κ52:K) (hs:Step [] κ κ52) (f48:Mat tI64 false (κ.H.size,177004) κ52 95 2 a49 c50 H51 H51 y47) (f35:Mat tI64 false (κ.H.size,177007) κ52 95 2 a36 c37 H38 H38 y34) (B_b14:Box (κ.H.size,177001) κ52 b14 [sl a49 y47.length c50,sl a36 y34.length c37] 282),zf7 y34 y47=some r→Z (upd (E0) 5 (pt b14 0)) κ52) ?_ fun J2=>?_
  ·intro y47 a49 c50 H51 E0 κ52 hs f48 f35 B_b14 hr
   refine zg (za (csr (op 75 (pt b14 0) (op 4 (pt b14 0) (ot (zi5 f48 fun κ53 s54 Nf48=>?_))))))
   replace hs:=hs.trG (f48.own (Nat.le_refl _)) s54
   replace f35:=f35.step s54 (f35.ngm f48 (zm (N:=κ.H.size) (M:=κ.H.size) (i:=177007) (j:=177004) kr))
   replace B_b14:=B_b14.step s54 (f48.bn B_b14 (zm (N:=κ.H.size) (M:=κ.H.size) (i:=177001) (j:=177004) kr))
   replace f48:=Nf48
   refine crt ?_
   obtain rfl:=sj hr
   refine rt [.tmp 4] [pt b14 0] ⟨rfl,trivial⟩ ?_
   exact ⟨hs,_,_,_,_,_,_,_,rfl,(Nat.le_refl _),B_b14,f48,f35⟩
  obtain ⟨x55,hx55,hrx55⟩:=bind_some hr
  refine zo (F:=zcC p1) (J:=fun (sx55:Int×LM) (E':Env) (κ':K)=>∃ (a44:OA) (c45:Nat) (H46:List Hd),(∃ E0,E'=upd (upd (upd (upd (E0) 5 (pt b14 0)) 36 (sl a2 p1.length c3)) 37 (iv (p1.length:Int))) 38 (iv sx55.1))∧Step [] κ κ'∧I64 sx55.1∧Mat tI64 false (κ.H.size,177004) κ' 95 2 a44 c45 H46 H46 sx55.2∧Mat tI64 false (κ.H.size,177007) κ' 95 2 a36 c37 H38 H38 y34∧Box (κ.H.size,177001) κ' b14 [sl a44 sx55.2.length c45,sl a36 y34.length c37] 282) (s0:=(0,y29)) (x:=x55) kr hx55 ⟨_,_,_,⟨_,(eA 38 (eA 37 (eA 36 (eA 5 rfl))))⟩,hs,(show I64 0 by unfold I64;omega),f30,f35,B_b14⟩ ?_
  rintro sx55 _ κ56 ⟨a44,c45,H46,⟨E0,rfl⟩,hs,hb41,f43,f35,B_b14⟩ yyx55 hr hdx55
  refine csr (op 39 (bW (sx55.1<(p1.length:Int))) (ot (cs ?_)))
  refine cc (decide (sx55.1<(p1.length:Int))) hr ?_ ?_
  ·intro hc hr
   refine ckt (cs (cb 3 (csr ?_)))
   obtain ⟨x57,hx57,hr⟩:=bind_some hr
   obtain ⟨b58,o59,eab58,i0x57,i1x57,csx57,p_b58,owx57⟩:=(f4.step hs).idx hx57
   obtain ⟨_,_,rfl,⟨rfl,hb60⟩,⟨_,_,rfl,⟨rfl,hb61⟩,⟨rfl,hb62⟩⟩⟩:=owx57
   replace p_b58:PubAt κ56 b58 (o59+sx55.1.toNat*3) [iv x57.1,iv x57.2.1,iv x57.2.2]:=p_b58
   refine oi 40 109 134 3 p1.length c3 .i64 sx55.1 eab58 i0x57 i1x57 (oN 41 134 [iv x57.1,iv x57.2.1,iv x57.2.2] (p_b58.at.part 0 3).2 (zz (d:=7) (T:=134) (κ.H.size,177008) hs.1 [iv 0,iv 0,iv 0] kr kr kr fun b63 κ64 s65 B_b63=>?_))
   replace hs:=hs.tr0 s65
   replace f35:=f35.step0 s65
   replace f43:=f43.step0 s65
   replace B_b14:=B_b14.step0 s65
   refine zn (b:=b63) (off:=0) (T:=134) (.agg #[iv x57.1,iv x57.2.1,iv x57.2.2]) [iv x57.1,iv x57.2.1,iv x57.2.2] [iv x57.1,iv x57.2.1,iv x57.2.2] kr kr B_b63 rfl kr kr kr rfl fun κ66 s67 _ NB_b63=>?_
   replace hs:=hs.trB B_b63.ge s67
   replace f35:=f35.step s67 (f35.nb B_b63 (zm (N:=κ.H.size) (M:=κ.H.size) (i:=177007) (j:=177008) kr))
   replace f43:=f43.step s67 (f43.nb B_b63 (zm (N:=κ.H.size) (M:=κ.H.size) (i:=177004) (j:=177008) kr))
   replace B_b14:=B_b14.step s67 (nm1 (B_b14.ne B_b63 (zm (N:=κ.H.size) (M:=κ.H.size) (i:=177001) (j:=177008) kr)))
   replace B_b63:=NB_b63
   refine ot (cs (cd 14 (dp 42 (pt b14 0) (dp 43 (pt b14 0) (dp 44 (pt b14 0) (d1 45 135 (sl a44 sx55.2.length c45) (B_b14.at.one (o:=0) rfl) (dp 46 (pt b63 0) (d1 47 2 (iv x57.1) (B_b63.at.one (o:=0) rfl) ?_))))))))
   obtain ⟨x68,hx68,hr⟩:=bind_some hr
   obtain ⟨b69,a70,c71,eab69,i0x68,i1x68,hhx68,p_b69,f72⟩:=f43.idx hx68
   refine di 48 135 95 1 sx55.2.length c45 .i64 x57.1 (off:=0) eab69 i0x68 i1x68 (d1 49 95 (sl a70 x68.length c71) (p_b69.one (o:=0) rfl) (dp 50 (pt b63 1) (d1 51 2 (iv x57.2.1) (B_b63.at.one (o:=1) rfl) ?_)))
   obtain ⟨x73,hx73,hr⟩:=bind_some hr
   obtain ⟨b74,eab74,i0x73,i1x73,csx73,p_b74,owx73⟩:=f72.idx hx73
   obtain ⟨rfl,hb75⟩:=owx73
   replace p_b74:At κ66 b74 (0+x57.2.1.toNat*1) [iv x73]:=p_b74
   refine di 52 95 2 1 x68.length c71 .i64 x57.2.1 (off:=0) eab74 i0x73 i1x73 (d1 53 2 (iv x73) (p_b74.one (o:=0) rfl) (dp 54 (pt b63 2) (d1 55 2 (iv x57.2.2) (B_b63.at.one (o:=2) rfl) (de (op 56 (iv (w64 (x73+x57.2.2))) ?_)))))
   obtain ⟨x76,hx76,hr⟩:=bind_some hr
   obtain ⟨b77,eab77,i0x76,i1x76,csx76,p_b77,owx76⟩:=f72.idx hx76
   obtain ⟨rfl,hb78⟩:=owx76
   replace p_b77:At κ66 b77 (0+x57.2.1.toNat*1) [iv x76]:=p_b77
   refine oi 57 95 2 1 x68.length c71 .i64 x57.2.1 (off:=0) eab77 i0x76 i1x76 ?_
   obtain ⟨x79,hx79,hr⟩:=bind_some hr
   refine zlg (T:=2) (t:=tI64) (jx:=x57.2.1) (x':=w64 (x73+x57.2.2)) (b:=b77) (δ:=0) (vs:=[iv (w64 (x73+x57.2.2))]) (iv (w64 (x73+x57.2.2))) kr kr eab77 f43 hhx68 (zom hx68) i0x76 i1x76 kr kr kr kr (fun cs hx=>by obtain ⟨x,_,ho⟩:=hx;rw [zat ((tI64.len ho).trans kr)];exact ⟨rfl,(zq _)⟩) fun κ80 s81 Nf43=>?_
   replace s81:=s81.mono (zeG (a:=a44) (c:=c45) hhx68)
   replace hs:=hs.trG (f43.own (Nat.le_refl _)) s81
   replace f35:=f35.step s81 (f35.ngm f43 (zm (N:=κ.H.size) (M:=κ.H.size) (i:=177007) (j:=177004) kr))
   replace B_b14:=B_b14.step s81 (f43.bn B_b14 (zm (N:=κ.H.size) (M:=κ.H.size) (i:=177001) (j:=177004) kr))
   replace B_b63:=B_b63.step s81 (f43.bn B_b63 (zm (N:=κ.H.size) (M:=κ.H.size) (i:=177008) (j:=177004) kr))
   replace f43:=ziP hx79 Nf43
   have len_x79:=zS hx79
   replace B_b14:Box (κ.H.size,177001) κ80 b14 [sl a44 x79.length c45,sl a36 y34.length c37] 282:=by rw [len_x79];exact B_b14
   refine ot (cd 14 (dp 58 (pt b14 0) (dp 59 (pt b14 0) (dp 60 (pt b14 0) (d1 61 135 (sl a44 x79.length c45) (B_b14.at.one (o:=0) rfl) (dp 62 (pt b63 1) (d1 63 2 (iv x57.2.1) (B_b63.at.one (o:=1) rfl) ?_)))))))
   obtain ⟨x82,hx82,hr⟩:=bind_some hr
   obtain ⟨b83,a84,c85,eab83,i0x82,i1x82,hhx82,p_b83,f86⟩:=f43.idx hx82
   refine di 64 135 95 1 x79.length c45 .i64 x57.2.1 (off:=0) eab83 i0x82 i1x82 (d1 65 95 (sl a84 x82.length c85) (p_b83.one (o:=0) rfl) (dp 66 (pt b63 0) (d1 67 2 (iv x57.1) (B_b63.at.one (o:=0) rfl) ?_)))
   obtain ⟨x87,hx87,hr⟩:=bind_some hr
   obtain ⟨b88,eab88,i0x87,i1x87,csx87,p_b88,owx87⟩:=f86.idx hx87
   obtain ⟨rfl,hb89⟩:=owx87
   replace p_b88:At κ80 b88 (0+x57.1.toNat*1) [iv x87]:=p_b88
   refine di 68 95 2 1 x82.length c85 .i64 x57.1 (off:=0) eab88 i0x87 i1x87 (d1 69 2 (iv x87) (p_b88.one (o:=0) rfl) (dp 70 (pt b63 2) (d1 71 2 (iv x57.2.2) (B_b63.at.one (o:=2) rfl) (de (op 72 (iv (w64 (x87+x57.2.2))) ?_)))))
   obtain ⟨x90,hx90,hr⟩:=bind_some hr
   obtain ⟨b91,eab91,i0x90,i1x90,csx90,p_b91,owx90⟩:=f86.idx hx90
   obtain ⟨rfl,hb92⟩:=owx90
   replace p_b91:At κ80 b91 (0+x57.1.toNat*1) [iv x90]:=p_b91
   refine oi 73 95 2 1 x82.length c85 .i64 x57.1 (off:=0) eab91 i0x90 i1x90 ?_
   obtain ⟨x93,hx93,hr⟩:=bind_some hr
   refine zlg (T:=2) (t:=tI64) (jx:=x57.1) (x':=w64 (x87+x57.2.2)) (b:=b91) (δ:=0) (vs:=[iv (w64 (x87+x57.2.2))]) (iv (w64 (x87+x57.2.2))) kr kr eab91 f43 hhx82 (zom hx82) i0x90 i1x90 kr kr kr kr (fun cs hx=>by obtain ⟨x,_,ho⟩:=hx;rw [zat ((tI64.len ho).trans kr)];exact ⟨rfl,(zq _)⟩) fun κ94 s95 Nf43=>?_
   replace s95:=s95.mono (zeG (a:=a44) (c:=c45) hhx82)
   replace hs:=hs.trG (f43.own (Nat.le_refl _)) s95
   replace f35:=f35.step s95 (f35.ngm f43 (zm (N:=κ.H.size) (M:=κ.H.size) (i:=177007) (j:=177004) kr))
   replace B_b14:=B_b14.step s95 (f43.bn B_b14 (zm (N:=κ.H.size) (M:=κ.H.size) (i:=177001) (j:=177004) kr))
   replace f43:=ziP hx93 Nf43
   have len_x93:=zS hx93
   replace B_b14:Box (κ.H.size,177001) κ94 b14 [sl a44 x93.length c45,sl a36 y34.length c37] 282:=by rw [len_x93];exact B_b14
   refine oe (zd (za (cr (op 74 (iv (w64 (sx55.1+1))) (op 38 (iv (w64 (sx55.1+1))) (oe ?_))))))
   exact ze (sj hr).symm ⟨_,_,_,⟨_,(eA 38 (eA 37 (eA 36 (eA 5 rfl))))⟩,hs,(zq _),f43,f35,B_b14⟩
  intro hc hr
  refine cx 2 (zh ?_)
  have hx:=hdx55 _ (sj hr).symm
  subst hx
  replace hr:=hrx55
  refine zi ?_
  exact zr (eA 5 rfl) (J2 sx55.2 _ _ _ _ _ hs f43 f35 B_b14 hr)
 obtain ⟨x96,hx96,hrx96⟩:=bind_some hr
 refine zo (F:=zcD p0) (J:=fun (sx96:Int×LM×LM) (E':Env) (κ':K)=>∃ (a21:OA) (c22:Nat) (H23:List Hd) (a26:OA) (c27:Nat) (H28:List Hd),(∃ E0,E'=upd (upd (upd (upd (upd (E0) 0 (iv p0)) 1 (sl a2 p1.length c3)) 5 (pt b14 0)) 10 (iv p0)) 11 (iv sx96.1))∧Step [] κ κ'∧I64 sx96.1∧Mat tI64 false (κ.H.size,177004) κ' 95 2 a21 c22 H23 H23 sx96.2.1∧Mat tI64 false (κ.H.size,177007) κ' 95 2 a26 c27 H28 H28 sx96.2.2∧Box (κ.H.size,177001) κ' b14 [sl a21 sx96.2.1.length c22,sl a26 sx96.2.2.length c27] 282) (s0:=(0,[],[])) (x:=x96) kr hx96 ⟨_,_,_,_,_,_,⟨_,(eA 11 (eA 10 (eA 5 (eA 1 (eA 0 rfl)))))⟩,hs,(show I64 0 by unfold I64;omega),Mat.nil,Mat.nil,B_b14⟩ ?_
 rintro sx96 _ κ97 ⟨a21,c22,H23,a26,c27,H28,⟨E0,rfl⟩,hs,hb18,f20,f25,B_b14⟩ yyx96 hr hdx96
 refine csr (op 12 (bW (sx96.1<p0)) (ot (cs ?_)))
 refine cc (decide (sx96.1<p0)) hr ?_ ?_
 ·intro hc hr
  refine ckt (cs (cb 1 (cs (cx_ 9 [0,1,2,3,4,5,6,7,8] [6,7,8] 8 (blk a21 c22) (xp 13 (pt b14 0) (xp 14 (pt b14 0) (xp 15 (pt b14 0) (xp 16 (pt b14 0) (x1 17 135 (sl a21 sx96.2.1.length c22) B_b14.at 0 rfl ?_)))))))))
  refine xp 18 (iv p0) ?_
  obtain ⟨x102,hx102,hr⟩:=bind_some hr
  refine zoD (d:=19) (T:=95) (e:=2) (t:=tI64) (pub:=false) (τ:=(κ.H.size,177002)) (bytes:=8) (k1:=.i64) (k2:=.i64) (m:=p0) (zs:=[iv 0]) (z:=0) kr kr kr kr ⟨rfl,(show I64 0 by unfold I64;omega)⟩ hx102 hs.1 fun a100 κ98 s99 f101=>?_
  replace hs:=hs.tr0 s99
  replace f20:=f20.step0 s99
  replace f25:=f25.step0 s99
  replace B_b14:=B_b14.step0 s99
  refine zem (d:=20) (T:=135) (e:=95) (t:=tH) (pub:=true) (τ:=(κ.H.size,177003)) (len:=1) (l:=[(a100,x102.length,x102.length)]) (parts:=#[(0,sl a100 x102.length x102.length)]) (cs:=[sl a100 x102.length x102.length]) kr kr kr kr hs.1 rfl ⟨_,_,rfl,rfl,rfl⟩ kr fun a105 κ103 s104 f106=>?_
  replace hs:=hs.tr0 s104
  replace f20:=f20.step0 s104
  replace f25:=f25.step0 s104
  replace f101:=f101.step0 s104
  replace B_b14:=B_b14.step0 s104
  obtain ⟨x107,hx107,hr⟩:=bind_some hr
  obtain ⟨hq113,hp114,len_x107⟩:=zql (H2:=[(a100,x102.length,x102.length)]) hx107 f20.len rfl
  refine zl5 (d:=21) (T:=135) (e:=95) (t:=tH) (pub:=false) (τ:=(κ.H.size,177004)) (bytes:=24) (a:=a21) (cp:=c22) (l:=H23) (a2:=a105) (c2:=1) (l2:=[(a100,x102.length,x102.length)]) sx96.2.1.length x107.length f20.len len_x107 kr kr f20.out f106.sl hs.1 kr hq113 kr fun a110 c111 κ108 s109 f112 hw=>?_
  have Nf20:=f20.outer s109 f112 hw
  clear hw
  replace s109:=s109.mono (zex (hs:=H23))
  replace hs:=hs.trG (f20.own (Nat.le_refl _)) s109
  replace f25:=f25.step s109 (f25.ngm f20 (zm (N:=κ.H.size) (M:=κ.H.size) (i:=177007) (j:=177004) kr))
  replace f101:=f101.step s109 (f101.ngm f20 (zm (N:=κ.H.size) (M:=κ.H.size) (i:=177002) (j:=177004) kr))
  replace B_b14:=B_b14.step s109 (f20.bn B_b14 (zm (N:=κ.H.size) (M:=κ.H.size) (i:=177001) (j:=177004) kr))
  replace f20:=Nf20
  refine xe ?_
  obtain ⟨κ115,e116,s117,Nf20⟩:=f20.snoc f101 (zm (N:=κ.H.size) (M:=κ.H.size) (i:=177002) (j:=177004) kr) (Nat.le_refl _)
  refine zfy e116 ?_
  replace hs:=hs.trG (f101.own (Nat.le_refl _)) s117
  replace f25:=f25.step s117 (f25.ng f101 (zm (N:=κ.H.size) (M:=κ.H.size) (i:=177007) (j:=177002) kr))
  replace B_b14:=B_b14.step s117 (f101.bn B_b14 (zm (N:=κ.H.size) (M:=κ.H.size) (i:=177001) (j:=177002) kr))
  replace f20:=Nf20
  obtain ⟨H118,eH118⟩:∃ H:List Hd,H=H23++[(a100,x102.length,x102.length)]:=⟨_,rfl⟩
  rw [←eH118,←hp114] at f20
  refine op 22 (pt b14 0) (op 23 (pt b14 0) (zn (b:=b14) (off:=0) (T:=135) (sl a110 x107.length c111) [sl a110 x107.length c111] [sl a110 x107.length c111,sl a26 sx96.2.2.length c27] kr kr B_b14 rfl kr kr kr rfl fun κ119 s120 _ NB_b14=>?_))
  replace hs:=hs.trB B_b14.ge s120
  replace f25:=f25.step s120 (f25.nb B_b14 (zm (N:=κ.H.size) (M:=κ.H.size) (i:=177007) (j:=177001) kr))
  replace f20:=f20.step s120 (f20.nb B_b14 (zm (N:=κ.H.size) (M:=κ.H.size) (i:=177004) (j:=177001) kr))
  replace B_b14:=NB_b14
  refine ot (cx_ 9 [0,1,2,3,4,5,6,7,8] [6,7,8] 8 (blk a26 c27) (xp 24 (pt b14 0) (xp 25 (pt b14 0) (xp 26 (pt b14 0) (xp 27 (pt b14 1) (x1 28 135 (sl a26 sx96.2.2.length c27) B_b14.at 1 rfl (xp 29 (iv p0) ?_)))))))
  obtain ⟨x125,hx125,hr⟩:=bind_some hr
  refine zoD (d:=30) (T:=95) (e:=2) (t:=tI64) (pub:=false) (τ:=(κ.H.size,177005)) (bytes:=8) (k1:=.i64) (k2:=.i64) (m:=p0) (zs:=[iv 0]) (z:=0) kr kr kr kr ⟨rfl,(show I64 0 by unfold I64;omega)⟩ hx125 hs.1 fun a123 κ121 s122 f124=>?_
  replace hs:=hs.tr0 s122
  replace f25:=f25.step0 s122
  replace f20:=f20.step0 s122
  replace B_b14:=B_b14.step0 s122
  refine zem (d:=31) (T:=135) (e:=95) (t:=tH) (pub:=true) (τ:=(κ.H.size,177006)) (len:=1) (l:=[(a123,x125.length,x125.length)]) (parts:=#[(0,sl a123 x125.length x125.length)]) (cs:=[sl a123 x125.length x125.length]) kr kr kr kr hs.1 rfl ⟨_,_,rfl,rfl,rfl⟩ kr fun a128 κ126 s127 f129=>?_
  replace hs:=hs.tr0 s127
  replace f25:=f25.step0 s127
  replace f20:=f20.step0 s127
  replace f124:=f124.step0 s127
  replace B_b14:=B_b14.step0 s127
  obtain ⟨x130,hx130,hr⟩:=bind_some hr
  obtain ⟨hq136,hp137,len_x130⟩:=zql (H2:=[(a123,x125.length,x125.length)]) hx130 f25.len rfl
  refine zl5 (d:=32) (T:=135) (e:=95) (t:=tH) (pub:=false) (τ:=(κ.H.size,177007)) (bytes:=24) (a:=a26) (cp:=c27) (l:=H28) (a2:=a128) (c2:=1) (l2:=[(a123,x125.length,x125.length)]) sx96.2.2.length x130.length f25.len len_x130 kr kr f25.out f129.sl hs.1 kr hq136 kr fun a133 c134 κ131 s132 f135 hw=>?_
  have Nf25:=f25.outer s132 f135 hw
  clear hw
  replace s132:=s132.mono (zex (hs:=H28))
  replace hs:=hs.trG (f25.own (Nat.le_refl _)) s132
  replace f20:=f20.step s132 (f20.ngm f25 (zm (N:=κ.H.size) (M:=κ.H.size) (i:=177004) (j:=177007) kr))
  replace f124:=f124.step s132 (f124.ngm f25 (zm (N:=κ.H.size) (M:=κ.H.size) (i:=177005) (j:=177007) kr))
  replace B_b14:=B_b14.step s132 (f25.bn B_b14 (zm (N:=κ.H.size) (M:=κ.H.size) (i:=177001) (j:=177007) kr))
  replace f25:=Nf25
  refine xe ?_
  obtain ⟨κ138,e139,s140,Nf25⟩:=f25.snoc f124 (zm (N:=κ.H.size) (M:=κ.H.size) (i:=177005) (j:=177007) kr) (Nat.le_refl _)
  refine zfy e139 ?_
  replace hs:=hs.trG (f124.own (Nat.le_refl _)) s140
  replace f20:=f20.step s140 (f20.ng f124 (zm (N:=κ.H.size) (M:=κ.H.size) (i:=177004) (j:=177005) kr))
  replace B_b14:=B_b14.step s140 (f124.bn B_b14 (zm (N:=κ.H.size) (M:=κ.H.size) (i:=177001) (j:=177005) kr))
  replace f25:=Nf25
  obtain ⟨H141,eH141⟩:∃ H:List Hd,H=H28++[(a123,x125.length,x125.length)]:=⟨_,rfl⟩
  rw [←eH141,←hp137] at f25
  refine op 33 (pt b14 0) (op 34 (pt b14 1) (zn (b:=b14) (off:=1) (T:=135) (sl a133 x130.length c134) [sl a133 x130.length c134] [sl a110 x107.length c111,sl a133 x130.length c134] kr kr B_b14 rfl kr kr kr rfl fun κ142 s143 _ NB_b14=>?_))
  replace hs:=hs.trB B_b14.ge s143
  replace f20:=f20.step s143 (f20.nb B_b14 (zm (N:=κ.H.size) (M:=κ.H.size) (i:=177004) (j:=177001) kr))
  replace f25:=f25.step s143 (f25.nb B_b14 (zm (N:=κ.H.size) (M:=κ.H.size) (i:=177007) (j:=177001) kr))
  replace B_b14:=NB_b14
  refine oe (zd (za (cr (op 35 (iv (w64 (sx96.1+1))) (op 11 (iv (w64 (sx96.1+1))) (oe ?_))))))
  exact ze (sj hr).symm ⟨_,_,_,_,_,_,⟨_,(eA 11 (eA 10 (eA 5 (eA 1 (eA 0 rfl)))))⟩,hs,(zq _),f20,f25,B_b14⟩
 intro hc hr
 refine cx 0 (zh ?_)
 have hx:=hdx96 _ (sj hr).symm
 subst hx
 replace hr:=hrx96
 refine zi ?_
 exact zr (eA 5 (eA 1 rfl)) (J1 sx96.2.1 sx96.2.2 _ _ _ _ _ _ _ _ hs f20 f25 B_b14 hr)
end Go.Lf
