import Derived.Test.YtfbcemhoeecepaaGreatDoorD
set_option linter.all false
set_option maxRecDepth 100000
set_option maxHeartbeats 4000000
namespace Go.Lf
open Go Go.Proofs
theorem zmo {κ:K} {p0:Int×Int} {p1:Int} (hb1:I64 p0.1) (hb2:I64 p0.2) (hb3:I64 p1) {r:(Int×Int)} (hr:zfS p0 p1=some r) :
 Fn Tryz.prog 112 #[.agg #[iv p0.1,iv p0.2],iv p1] κ (fun v κ'=>Step [] κ κ'∧v=.agg #[iv r.1,iv r.2]∧I64 r.1∧I64 r.2):=by
 refine fnc 31 [] Tryz.func112 Tryz.ntmps112 fun hs=>csr (zv (d:=2) (T:=100) (κ.H.size,112001) hs.1 (.agg #[iv p0.1,iv p0.2]) [iv p0.1,iv p0.2] kr kr rfl fun b6 κ7 s8 B_b6=>?_)
 replace hs:=hs.tr0 s8
 refine zz (d:=4) (T:=100) (κ.H.size,112002) hs.1 [iv 0,iv 0] kr kr kr fun b9 κ10 s11 B_b9=>?_
 replace hs:=hs.tr0 s11
 replace B_b6:=B_b6.step0 s11
 refine ot ?_
 refine zl (fun Z=>∀ (y12:Int) (y14:Int) (E0:Env) (κ16:K) (hs:Step [] κ κ16) (hb13:I64 y12) (hb15:I64 y14) (B_b6:Box (κ.H.size,112001) κ16 b6 [iv y12,iv y14] 100) (B_b9:Box (κ.H.size,112002) κ16 b9 [iv 0,iv 0] 100),zaV y12 y14=some r→cwp Tryz.prog 31 (sub (zC Tryz.f112) [1,1]) Z (upd (upd (E0) 2 (pt b6 0)) 4 (pt b9 0)) κ16) ?_ fun J1=>?_
 ·intro y12 y14 E0 κ16 hs hb13 hb15 B_b6 B_b9 hr
  refine csr (oN 30 100 [iv y12,iv y14] (B_b6.at.part 0 2).2 (zn (b:=b9) (off:=0) (T:=100) (.agg #[iv y12,iv y14]) [iv y12,iv y14] [iv y12,iv y14] kr kr B_b9 rfl kr kr kr rfl fun κ17 s18 _ NB_b9=>?_))
  replace hs:=hs.trB B_b9.ge s18
  replace B_b9:=NB_b9
  refine ot (crt ?_)
  obtain rfl:=sj hr
  refine rt [.cell 4 100] [.agg #[iv y12,iv y14]] ⟨⟨b9,0,[iv y12,iv y14],rfl,rfl,kr,kr,(B_b9.at.part 0 2).2⟩,trivial⟩ ?_
  exact ⟨hs,rfl,hb13,hb15⟩
 refine cs (csr (op 5 (iv p1) (ot (cb 0 (csr (op 7 (bW (p1=0)) (op 6 (bW (p1=0)) (ot ?_))))))))
 refine cc (decide (p1=0)) hr ?_ ?_
 ·intro hc hr
  refine cr (op 8 (pt b6 1) (o1 9 2 (iv p0.2) (B_b6.at.one (o:=1) rfl) (op 10 (iv (w64 (p0.2+1))) (op 11 (pt b6 1) (zn (b:=b6) (off:=1) (T:=2) (iv (w64 (p0.2+1))) [iv (w64 (p0.2+1))] [iv p0.1,iv (w64 (p0.2+1))] kr kr B_b6 rfl kr kr kr rfl fun κ19 s20 _ NB_b6=>?_)))))
  replace hs:=hs.trB B_b6.ge s20
  replace B_b9:=B_b9.step s20 (nm1 (B_b9.ne B_b6 (zm (N:=κ.H.size) (M:=κ.H.size) (i:=112002) (j:=112001) kr)))
  replace B_b6:=NB_b6
  refine oe (zd (za ?_))
  exact zk (eA 4 (eA 2 rfl)) (J1 p0.1 (w64 (p0.2+1))  _ _ hs hb1 (zq _) B_b6 B_b9 hr)
 intro hc hr
 refine csr (op 13 (bW (p1=1)) (op 12 (bW (p1=1)) (ot ?_)))
 refine cc (decide (p1=1)) hr ?_ ?_
 ·intro hc hr
  refine cr (op 14 (pt b6 0) (o1 15 2 (iv p0.1) (B_b6.at.one (o:=0) rfl) (op 16 (iv (w64 (p0.1+1))) (op 17 (pt b6 0) (zn (b:=b6) (off:=0) (T:=2) (iv (w64 (p0.1+1))) [iv (w64 (p0.1+1))] [iv (w64 (p0.1+1)),iv p0.2] kr kr B_b6 rfl kr kr kr rfl fun κ21 s22 _ NB_b6=>?_)))))
  replace hs:=hs.trB B_b6.ge s22
  replace B_b9:=B_b9.step s22 (nm1 (B_b9.ne B_b6 (zm (N:=κ.H.size) (M:=κ.H.size) (i:=112002) (j:=112001) kr)))
  replace B_b6:=NB_b6
  refine oe (zd (za ?_))
  exact zk (eA 4 (eA 2 rfl)) (J1 (w64 (p0.1+1)) p0.2  _ _ hs (zq _) hb2 B_b6 B_b9 hr)
 intro hc hr
 refine csr (op 19 (bW (p1=2)) (op 18 (bW (p1=2)) (ot ?_)))
 refine cc (decide (p1=2)) hr ?_ ?_
 ·intro hc hr
  refine cr (op 20 (pt b6 1) (o1 21 2 (iv p0.2) (B_b6.at.one (o:=1) rfl) (op 22 (iv (w64 (p0.2 - 1))) (op 23 (pt b6 1) (zn (b:=b6) (off:=1) (T:=2) (iv (w64 (p0.2 - 1))) [iv (w64 (p0.2 - 1))] [iv p0.1,iv (w64 (p0.2 - 1))] kr kr B_b6 rfl kr kr kr rfl fun κ23 s24 _ NB_b6=>?_)))))
  replace hs:=hs.trB B_b6.ge s24
  replace B_b9:=B_b9.step s24 (nm1 (B_b9.ne B_b6 (zm (N:=κ.H.size) (M:=κ.H.size) (i:=112002) (j:=112001) kr)))
  replace B_b6:=NB_b6
  refine oe (zd (za ?_))
  exact zk (eA 4 (eA 2 rfl)) (J1 p0.1 (w64 (p0.2 - 1))  _ _ hs hb1 (zq _) B_b6 B_b9 hr)
 intro hc hr
 refine csr (op 25 (bW (p1=3)) (op 24 (bW (p1=3)) (ot ?_)))
 refine cc (decide (p1=3)) hr ?_ ?_
 ·intro hc hr
  refine cr (op 26 (pt b6 0) (o1 27 2 (iv p0.1) (B_b6.at.one (o:=0) rfl) (op 28 (iv (w64 (p0.1 - 1))) (op 29 (pt b6 0) (zn (b:=b6) (off:=0) (T:=2) (iv (w64 (p0.1 - 1))) [iv (w64 (p0.1 - 1))] [iv (w64 (p0.1 - 1)),iv p0.2] kr kr B_b6 rfl kr kr kr rfl fun κ25 s26 _ NB_b6=>?_)))))
  replace hs:=hs.trB B_b6.ge s26
  replace B_b9:=B_b9.step s26 (nm1 (B_b9.ne B_b6 (zm (N:=κ.H.size) (M:=κ.H.size) (i:=112002) (j:=112001) kr)))
  replace B_b6:=NB_b6
  refine oe (zd (za ?_))
  exact zk (eA 4 (eA 2 rfl)) (J1 (w64 (p0.1 - 1)) p0.2  _ _ hs (zq _) hb2 B_b6 B_b9 hr)
 intro hc hr
 refine ck (zd (za ?_))
 exact zk (eA 4 (eA 2 rfl)) (J1 p0.1 p0.2  _ _ hs hb1 hb2 B_b6 B_b9 hr)
theorem zkd {κ:K} {p0:LP} {pb0 po0:Nat} {a1:OA} {c2:Nat} {p1:Int} {p2:Int} (m0:At κ pb0 po0 [sl a1 p0.length c2]) (f3:Sl tPlaced κ a1 c2 p0) (hb4:I64 p1) (hb5:I64 p2) {r:Int} (hr:zes p0 p1 p2=some r) :
 Fn Tryz.prog 85 #[pt pb0 po0,iv p1,iv p2] κ (fun v κ'=>Step [] κ κ'∧v=iv r∧I64 r):=by
 refine fnc 19 [] Tryz.func85 Tryz.ntmps85 fun hs=>csr (op 6 (iv 0) (otx (op 7 (pt pb0 po0) (op 8 (pt pb0 po0) (op 9 (pt pb0 po0) (op 10 (pt pb0 po0) (o1 11 26 (sl a1 p0.length c2) ((m0.step0 hs).one (o:=0) rfl) (op 12 (iv p1) ?_))))))))
 obtain ⟨x7,hx7,hr⟩:=bind_some hr
 obtain ⟨b8,o9,eab8,i0x7,i1x7,csx7,p_b8,owx7⟩:=f3.idx hx7
 obtain ⟨_,_,rfl,⟨_,_,rfl,⟨rfl,hb10⟩,⟨rfl,hb11⟩⟩,⟨rfl,hb12⟩⟩:=owx7
 replace p_b8:PubAt κ b8 (o9+p1.toNat*3) [iv x7.1.1,iv x7.1.2,iv x7.2]:=p_b8
 refine oi 13 26 108 3 p0.length c2 .i64 p1 eab8 i0x7 i1x7 (op 14 (pt b8 (o9+p1.toNat*3)) (oN 15 100 [iv x7.1.1,iv x7.1.2] (p_b8.at.part 0 2).2 (op 16 (iv p2) ?_)))
 obtain ⟨x13,hx13,hr⟩:=bind_some hr
 refine ocl 17 (zmo hb10 hb11 hb5 hx13) ?_
 rintro _ κ16 ⟨s17,rfl,hb14,hb15⟩
 replace hs:=hs.tr0 s17
 obtain ⟨x18,hx18,hr⟩:=bind_some hr
 refine ocl 18 (zil ((m0.step0 hs).part 0 1) (f3.step hs) hb14 hb15 hx18) ?_
 rintro _ κ20 ⟨s21,rfl,hb19⟩
 replace hs:=hs.tr0 s21
 refine op 6 (iv x18) (ot (crt ?_))
 obtain rfl:=sj hr
 refine rt [.tmp 6] [iv x18] ⟨rfl,trivial⟩ ?_
 exact ⟨hs,rfl,hb19⟩
theorem zmR {κ:K} {p0:Int} (hb1:I64 p0) {r:Bool} (hr:zma p0=some r) :
 Fn Tryz.prog 141 #[iv p0] κ (fun v κ'=>κ=κ'∧v=.bool r):=by
 refine fnc 5 [] Tryz.func141 Tryz.ntmps141 fun hs=>csr (op 2 (.bool false) (otx (op 3 (iv p0) ?_)))
 obtain ⟨x2,hx2,hr⟩:=bind_some hr
 refine ocl 4 (za8 hb1 (show I64 0 by unfold I64;omega) (show I64 3 by unfold I64;omega) hx2) ?_
 rintro _ _ ⟨rfl,rfl⟩
 refine op 2 (.bool x2) (ot (crt ?_))
 obtain rfl:=sj hr
 refine rt [.tmp 2] [.bool x2] ⟨rfl,trivial⟩ ?_
 exact ⟨rfl,rfl⟩
theorem zlJ {κ:K} {p0:Int} (hb1:I64 p0) {r:Int} (hr:zh9 p0=some r) :
 Fn Tryz.prog 113 #[iv p0] κ (fun v κ'=>κ=κ'∧v=iv r∧I64 r):=by
 refine fnc 9 [] Tryz.func113 Tryz.ntmps113 fun hs=>csr (op 2 (iv 0) (ot (cs (csr (op 3 (iv p0) ?_)))))
 obtain ⟨x3,hx3,hr⟩:=bind_some hr
 refine ocl 4 (zmR hb1 hx3) ?_
 rintro _ _ ⟨rfl,rfl⟩
 refine op 5 (.bool (!x3)) (ot ?_)
 refine cc (!x3) hr ?_ ?_
 ·intro hc hr
  refine csr (op 2 (iv (-1)) (ot (crt (zb ?_))))
  obtain rfl:=sj hr
  refine rt [.tmp 2] [iv (-1)] ⟨rfl,trivial⟩ ?_
  exact ⟨rfl,rfl,(show I64 (-1) by unfold I64;omega)⟩
 intro hc hr
 refine ckt (csr (op 6 (iv p0) (op 7 (iv (w64 (p0+2))) (op 8 (iv (Int.tmod (w64 (p0+2)) 4)) (op 2 (iv (Int.tmod (w64 (p0+2)) 4)) (ot (crt ?_)))))))
 obtain rfl:=sj hr
 refine rt [.tmp 2] [iv (Int.tmod (w64 (p0+2)) 4)] ⟨rfl,trivial⟩ ?_
 exact ⟨rfl,rfl,(zn4 (by decide) (zq _))⟩
theorem zke {κ:K} {p0:LG×LT} {pb0 po0:Nat} {a1:OA} {c2:Nat} {a4:OA} {c5:Nat} {p1:Int} (m0:At κ pb0 po0 [sl a1 p0.1.length c2,sl a4 p0.2.length c5]) (f3:Sl tGlue κ a1 c2 p0.1) (f6:Sl zQ κ a4 c5 p0.2) (hb7:I64 p1) {r:Int} (hr:zew p0 p1=some r) :
 Fn Tryz.prog 114 #[pt pb0 po0,iv p1] κ (fun v κ'=>κ=κ'∧v=iv r∧I64 r):=by
 refine fnc 16 [] Tryz.func114 Tryz.ntmps114 fun hs=>csr (op 4 (iv 0) (ot (cs (csr (op 5 (iv p1) (op 6 (bW (p1=0)) (ot ?_)))))))
 refine cc (decide (p1=0)) hr ?_ ?_
 ·intro hc hr
  refine csr (op 4 (iv 0) (ot (crt (zb ?_))))
  obtain rfl:=sj hr
  refine rt [.tmp 4] [iv 0] ⟨rfl,trivial⟩ ?_
  exact ⟨rfl,rfl,(show I64 0 by unfold I64;omega)⟩
 intro hc hr
 refine ckt (csr (op 7 (pt pb0 po0) (op 8 (pt pb0 po0) (op 9 (pt pb0 po0) (o1 10 22 (sl a1 p0.1.length c2) ((m0.step0 hs).one (o:=0) rfl) (op 11 (iv p1) (op 12 (iv (w64 (p1 - 1))) ?_)))))))
 obtain ⟨x9,hx9,hr⟩:=bind_some hr
 obtain ⟨b10,o11,eab10,i0x9,i1x9,csx9,p_b10,owx9⟩:=f3.idx hx9
 obtain ⟨_,_,rfl,⟨rfl,hb12⟩,⟨rfl,hb13⟩⟩:=owx9
 replace p_b10:PubAt κ b10 (o11+(w64 (p1 - 1)).toNat*2) [strV x9.1,iv x9.2]:=p_b10
 refine oi 13 22 94 2 p0.1.length c2 .i64 (w64 (p1 - 1)) eab10 i0x9 i1x9 (op 14 (pt b10 (o11+(w64 (p1 - 1)).toNat*2+1)) (o1 15 2 (iv x9.2) (p_b10.at.one (o:=1) rfl) (op 4 (iv x9.2) (ot (crt ?_)))))
 obtain rfl:=sj hr
 refine rt [.tmp 4] [iv x9.2] ⟨rfl,trivial⟩ ?_
 exact ⟨rfl,rfl,hb13⟩
theorem zmn {κ:K} {p0:LG×LT} {pb0 po0:Nat} {a1:OA} {c2:Nat} {a4:OA} {c5:Nat} {p1:Int} {p2:Int} {p3:Int} (m0:At κ pb0 po0 [sl a1 p0.1.length c2,sl a4 p0.2.length c5]) (f3:Sl tGlue κ a1 c2 p0.1) (f6:Sl zQ κ a4 c5 p0.2) (hb7:I64 p1) (hb8:I64 p2) (hb9:I64 p3) {r:Int} (hr:zhj p0 p1 p2 p3=some r) :
 Fn Tryz.prog 86 #[pt pb0 po0,iv p1,iv p2,iv p3] κ (fun v κ'=>κ=κ'∧v=iv r∧I64 r):=by
 refine fnc 38 [] Tryz.func86 Tryz.ntmps86 fun hs=>csr (op 8 (iv 0) (otx (op 10 (pt pb0 po0) (op 11 (pt pb0 po0) (op 12 (pt pb0 (po0+1)) (o1 13 23 (sl a4 p0.2.length c5) ((m0.step0 hs).one (o:=1) rfl) (op 14 (iv p1) ?_)))))))
 obtain ⟨x11,hx11,hr⟩:=bind_some hr
 obtain ⟨b12,o13,eab12,i0x11,i1x11,csx11,p_b12,owx11⟩:=f6.idx hx11
 obtain ⟨_,_,rfl,⟨rfl,hb14⟩,⟨a15,c16,rfl,f17⟩⟩:=owx11
 replace p_b12:PubAt κ b12 (o13+p1.toNat*2) [strV x11.1,sl a15 x11.2.length c16]:=p_b12
 refine oi 15 23 97 2 p0.2.length c5 .i64 p1 eab12 i0x11 i1x11 (op 16 (pt b12 (o13+p1.toNat*2+1)) (o1 17 95 (sl a15 x11.2.length c16) (p_b12.at.one (o:=1) rfl) (op 18 (iv p2) ?_)))
 obtain ⟨x18,hx18,hr⟩:=bind_some hr
 obtain ⟨b19,o20,eab19,i0x18,i1x18,csx18,p_b19,owx18⟩:=f17.idx hx18
 obtain ⟨rfl,hb21⟩:=owx18
 replace p_b19:PubAt κ b19 (o20+p2.toNat*1) [iv x18]:=p_b19
 refine oi 19 95 2 1 x11.2.length c16 .i64 p2 eab19 i0x18 i1x18 (o1 20 2 (iv x18) (p_b19.at.one (o:=0) rfl) (op 9 (iv x18) (ot (cs (cs (cd 13 (dp 21 (iv x18) (dp 22 (pt pb0 po0) (dp 23 (pt pb0 po0) ?_)))))))))
 refine dp 24 (pt pb0 (po0+1)) (d1 25 23 (sl a4 p0.2.length c5) ((m0.step0 hs).one (o:=1) rfl) (dp 26 (iv p3) ?_))
 obtain ⟨x22,hx22,hr⟩:=bind_some hr
 obtain ⟨b23,o24,eab23,i0x22,i1x22,csx22,p_b23,owx22⟩:=f6.idx hx22
 obtain ⟨_,_,rfl,⟨rfl,hb25⟩,⟨a26,c27,rfl,f28⟩⟩:=owx22
 replace p_b23:PubAt κ b23 (o24+p3.toNat*2) [strV x22.1,sl a26 x22.2.length c27]:=p_b23
 refine di 27 23 97 2 p0.2.length c5 .i64 p3 eab23 i0x22 i1x22 (dp 28 (pt b23 (o24+p3.toNat*2+1)) (d1 29 95 (sl a26 x22.2.length c27) (p_b23.at.one (o:=1) rfl) (dp 30 (iv p2) ?_)))
 obtain ⟨x29,hx29,hr⟩:=bind_some hr
 refine dc 31 (zlJ hb8 hx29) fun hb30=>?_
 obtain ⟨x31,hx31,hr⟩:=bind_some hr
 obtain ⟨b32,o33,eab32,i0x31,i1x31,csx31,p_b32,owx31⟩:=f28.idx hx31
 obtain ⟨rfl,hb34⟩:=owx31
 replace p_b32:PubAt κ b32 (o33+x29.toNat*1) [iv x31]:=p_b32
 refine di 32 95 2 1 x22.2.length c27 .i64 x29 eab32 i0x31 i1x31 (d1 33 2 (iv x31) (p_b32.at.one (o:=0) rfl) (de (op 34 (.bool (!decide (x18=x31))) (ot ?_))))
 refine cc (!decide (x18=x31)) hr ?_ ?_
 ·intro hc hr
  refine csr (op 8 (iv 0) (ot (crt (zb ?_))))
  obtain rfl:=sj hr
  refine rt [.tmp 8] [iv 0] ⟨rfl,trivial⟩ ?_
  exact ⟨rfl,rfl,(show I64 0 by unfold I64;omega)⟩
 intro hc hr
 refine ckt (csr (op 35 (pt pb0 po0) (op 36 (iv x18) ?_)))
 obtain ⟨x35,hx35,hr⟩:=bind_some hr
 refine ocl 37 (zke ((m0.step0 hs).part 0 2) f3 f6 hb21 hx35) ?_
 rintro _ _ ⟨rfl,rfl,hb36⟩
 refine op 8 (iv x35) (ot (crt ?_))
 obtain rfl:=sj hr
 refine rt [.tmp 8] [iv x35] ⟨rfl,trivial⟩ ?_
 exact ⟨rfl,rfl,hb36⟩
theorem zlE {κ:K} {p0:LG×LT} {pb0 po0:Nat} {a1:OA} {c2:Nat} {a4:OA} {c5:Nat} {p1:LP} {pb1 po1:Nat} {a7:OA} {c8:Nat} (m0:At κ pb0 po0 [sl a1 p0.1.length c2,sl a4 p0.2.length c5]) (f3:Sl tGlue κ a1 c2 p0.1) (f6:Sl zQ κ a4 c5 p0.2) (m1:At κ pb1 po1 [sl a7 p1.length c8]) (f9:Sl tPlaced κ a7 c8 p1) {r:LB} (hr:zeU p0 p1=some r) :
 Fn Tryz.prog 59 #[pt pb0 po0,pt pb1 po1] κ (fun v κ'=>Step [] κ κ'∧∃ (a10:OA) (c11:Nat),v=sl a10 r.length c11∧Sl zR κ' a10 c11 r):=by
 refine fnc 59 [] Tryz.func59 Tryz.ntmps59 fun hs=>csr (op 4 (sl none 0 0) (otx (zO (d:=10) (T:=109) (e:=134) (t:=zR) (pub:=true) (τ:=(κ.H.size,59001)) (len:=0) (l:=[]) (parts:=#[]) (cs:=[]) kr kr kr kr hs.1 rfl rfl kr fun a15 κ13 s14 f16=>?_)))
 replace hs:=hs.tr0 s14
 refine op 5 (sl a15 0 0) (ot (cs (csr (op 6 (iv 0) (ot (cb 0 ?_))))))
 refine zj 0 (fun Z=>∀ (y24:LB) (a26:OA) (c27:Nat) (E0:Env) (κ28:K) (hs:Step [] κ κ28) (f25:Gr zR true (κ.H.size,59001) κ28 134 a26 c27 y24),zgk y24=some r→Z (upd (E0) 5 (sl a26 y24.length c27)) κ28) ?_ fun J1=>?_
 ·intro y24 a26 c27 E0 κ28 hs f25 hr
  refine zg (za (csr (op 58 (sl a26 y24.length c27) (op 4 (sl a26 y24.length c27) (ot (crt ?_))))))
  obtain rfl:=sj hr
  refine rt [.tmp 4] [sl a26 y24.length c27] ⟨rfl,trivial⟩ ?_
  exact ⟨hs,_,_,rfl,f25.sl⟩
 obtain ⟨x29,hx29,hrx29⟩:=bind_some hr
 refine zo (F:=za1 p0 p1) (J:=fun (sx29:LB×Int) (E':Env) (κ':K)=>∃ (a20:OA) (c21:Nat),(∃ E0,E'=upd (upd (upd (upd (E0) 0 (pt pb0 po0)) 1 (pt pb1 po1)) 5 (sl a20 sx29.1.length c21)) 6 (iv sx29.2))∧Step [] κ κ'∧Gr zR true (κ.H.size,59001) κ' 134 a20 c21 sx29.1∧I64 sx29.2) (s0:=([],0)) (x:=x29) kr hx29 ⟨_,_,⟨_,(eA 6 (eA 5 (eA 1 (eA 0 rfl))))⟩,hs,f16,(show I64 0 by unfold I64;omega)⟩ ?_
 rintro sx29 _ κ30 ⟨a20,c21,⟨E0,rfl⟩,hs,f19,hb23⟩ yyx29 hr hdx29
 refine cs (csr (op 11 (iv sx29.2) (op 12 (pt pb1 po1) (op 13 (pt pb1 po1) (op 14 (pt pb1 po1) (o1 15 26 (sl a7 p1.length c8) ((m1.step0 hs).one (o:=0) rfl) (op 16 (iv (p1.length:Int)) (op 17 (bW (sx29.2<(p1.length:Int))) (ot ?_)))))))))
 refine cc (decide (sx29.2<(p1.length:Int))) hr ?_ ?_
 ·intro hc hr
  refine ckt (cs (cb 1 (csr (op 7 (iv 1) (ot (cb 2 ?_))))))
  refine zj 2 (fun Z=>∀ (y37:LB) (a39:OA) (c40:Nat) (E0:Env) (κ41:K) (hs:Step [] κ κ41) (f38:Gr zR true (κ.H.size,59001) κ41 134 a39 c40 y37),zgj sx29 y37=some yyx29→Z (upd (upd (upd (upd (E0) 0 (pt pb0 po0)) 1 (pt pb1 po1)) 5 (sl a39 y37.length c40)) 6 (iv sx29.2)) κ41) ?_ fun J2=>?_
  ·intro y37 a39 c40 E0 κ41 hs f38 hr
   refine zg (zd (za (cr (op 18 (iv sx29.2) (op 19 (iv (w64 (sx29.2+1))) (op 6 (iv (w64 (sx29.2+1))) (oe ?_)))))))
   exact ze (sj hr).symm ⟨_,_,⟨_,(eA 6 (eA 5 (eA 1 (eA 0 rfl))))⟩,hs,f38,(zq _)⟩
  obtain ⟨x42,hx42,hrx42⟩:=bind_some hr
  refine zo (F:=za0 p0 p1 sx29) (J:=fun (sx42:LB×Int) (E':Env) (κ':K)=>∃ (a33:OA) (c34:Nat),(∃ E0,E'=upd (upd (upd (upd (upd (E0) 0 (pt pb0 po0)) 1 (pt pb1 po1)) 5 (sl a33 sx42.1.length c34)) 6 (iv sx29.2)) 7 (iv sx42.2))∧Step [] κ κ'∧Gr zR true (κ.H.size,59001) κ' 134 a33 c34 sx42.1∧I64 sx42.2) (s0:=(sx29.1,1)) (x:=x42) kr hx42 ⟨_,_,⟨_,(eA 7 (eA 6 (eA 5 (eA 1 (eA 0 rfl)))))⟩,hs,f19,(show I64 1 by unfold I64;omega)⟩ ?_
  rintro sx42 _ κ43 ⟨a33,c34,⟨E0,rfl⟩,hs,f32,hb36⟩ yyx42 hr hdx42
  refine cs (csr (op 20 (iv sx42.2) (op 21 (bW (sx42.2≥0)) (ot ?_))))
  refine cc (decide (sx42.2≥0)) hr ?_ ?_
  ·intro hc hr
   refine ckt ?_
   refine zl (fun Z=>∀ (y44:LB) (a46:OA) (c47:Nat) (E0:Env) (κ48:K) (hs:Step [] κ κ48) (f45:Gr zR true (κ.H.size,59001) κ48 134 a46 c47 y44),zbW sx42 y44=some yyx42→cwp Tryz.prog 59 (sub (zC Tryz.f59) [1,1,0,0,1,0,0,1,0,0,1,0,1,1]) Z (upd (upd (upd (upd (upd (E0) 0 (pt pb0 po0)) 1 (pt pb1 po1)) 5 (sl a46 y44.length c47)) 6 (iv sx29.2)) 7 (iv sx42.2)) κ48) ?_ fun J3=>?_
   ·intro y44 a46 c47 E0 κ48 hs f45 hr
    refine cr (op 22 (iv sx42.2) (op 23 (iv (w64 (sx42.2 - 1))) (op 7 (iv (w64 (sx42.2 - 1))) (oe ?_))))
    exact ze (sj hr).symm ⟨_,_,⟨_,(eA 7 (eA 6 (eA 5 (eA 1 (eA 0 rfl)))))⟩,hs,f45,(zq _)⟩
   refine cs (cb 3 (csr (op 24 (pt pb1 po1) (op 25 (iv sx29.2) (op 26 (iv sx42.2) ?_)))))
   obtain ⟨x49,hx49,hr⟩:=bind_some hr
   refine ocl 27 (zkd ((m1.step0 hs).part 0 1) (f9.step hs) hb23 hb36 hx49) ?_
   rintro _ κ51 ⟨s52,rfl,hb50⟩
   replace hs:=hs.tr0 s52
   replace f32:=f32.step0 s52
   refine op 8 (iv x49) (ot (cs (csr (op 28 (iv x49) (op 29 (bW (x49<0)) (ot ?_))))))
   refine cc (decide (x49<0)) hr ?_ ?_
   ·intro hc hr
    refine cx 3 (zh (zg (za ?_)))
    exact zk (eA 7 (eA 6 (eA 5 (eA 1 (eA 0 rfl))))) (J3 sx42.1 _ _ _ _ hs f32 hr)
   intro hc hr
   refine ckt (cs (cd 18 (dp 30 (pt pb0 po0) (dp 31 (pt pb1 po1) (dp 32 (pt pb1 po1) (dp 33 (pt pb1 po1) (d1 34 26 (sl a7 p1.length c8) ((m1.step0 hs).one (o:=0) rfl) (dp 35 (iv sx29.2) ?_))))))))
   obtain ⟨x53,hx53,hr⟩:=bind_some hr
   obtain ⟨b54,o55,eab54,i0x53,i1x53,csx53,p_b54,owx53⟩:=(f9.step hs).idx hx53
   obtain ⟨_,_,rfl,⟨_,_,rfl,⟨rfl,hb56⟩,⟨rfl,hb57⟩⟩,⟨rfl,hb58⟩⟩:=owx53
   replace p_b54:PubAt κ51 b54 (o55+sx29.2.toNat*3) [iv x53.1.1,iv x53.1.2,iv x53.2]:=p_b54
   refine di 36 26 108 3 p1.length c8 .i64 sx29.2 eab54 i0x53 i1x53 (dp 37 (pt b54 (o55+sx29.2.toNat*3+2)) (d1 38 2 (iv x53.2) (p_b54.at.one (o:=2) rfl) (dp 39 (iv sx42.2) (dp 40 (pt pb1 po1) (dp 41 (pt pb1 po1) (dp 42 (pt pb1 po1) (d1 43 26 (sl a7 p1.length c8) ((m1.step0 hs).one (o:=0) rfl) (dp 44 (iv x49) ?_))))))))
   obtain ⟨x59,hx59,hr⟩:=bind_some hr
   obtain ⟨b60,o61,eab60,i0x59,i1x59,csx59,p_b60,owx59⟩:=(f9.step hs).idx hx59
   obtain ⟨_,_,rfl,⟨_,_,rfl,⟨rfl,hb62⟩,⟨rfl,hb63⟩⟩,⟨rfl,hb64⟩⟩:=owx59
   replace p_b60:PubAt κ51 b60 (o61+x49.toNat*3) [iv x59.1.1,iv x59.1.2,iv x59.2]:=p_b60
   refine di 45 26 108 3 p1.length c8 .i64 x49 eab60 i0x59 i1x59 (dp 46 (pt b60 (o61+x49.toNat*3+2)) (d1 47 2 (iv x59.2) (p_b60.at.one (o:=2) rfl) (de ?_)))
   obtain ⟨x65,hx65,hr⟩:=bind_some hr
   refine ocl 48 (zmn ((m0.step0 hs).part 0 2) (f3.step hs) (f6.step hs) hb58 hb36 hb64 hx65) ?_
   rintro _ _ ⟨rfl,rfl,hb66⟩
   refine op 9 (iv x65) (otx (op 49 (iv x65) (op 50 (bW (x65>0)) (ot ?_))))
   refine cc (decide (x65>0)) hr ?_ ?_
   ·intro hc hr
    refine cr (op 51 (sl a33 sx42.1.length c34) (op 52 (iv sx29.2) (op 53 (iv x49) (op 54 (iv x65) (op 55 (.agg #[iv sx29.2,iv x49,iv x65]) (zO (d:=56) (T:=109) (e:=134) (t:=zR) (pub:=true) (τ:=(κ.H.size,59002)) (len:=1) (l:=[(sx29.2,(x49,x65))]) (parts:=#[(0,.agg #[iv sx29.2,iv x49,iv x65])]) (cs:=[iv sx29.2,iv x49,iv x65]) kr kr kr kr hs.1 rfl ⟨_,_,rfl,⟨_,_,rfl,⟨rfl,hb23⟩,⟨_,_,rfl,⟨rfl,hb50⟩,⟨rfl,hb66⟩⟩⟩,rfl⟩ kr fun a70 κ68 s69 f71=>?_))))))
    replace hs:=hs.tr0 s69
    replace f32:=f32.step0 s69
    obtain ⟨x73,hx73,hr⟩:=bind_some hr
    refine zM (d:=57) (T:=109) (e:=134) (t:=zR) (pub:=true) (τ:=(κ.H.size,59001)) (bytes:=24) (a:=a33) (cp:=c34) (l:=sx42.1) (a2:=a70) (c2:=1) (l2:=[(sx29.2,(x49,x65))]) kr kr f32 f71.sl hs.1 kr hx73 fun a76 c77 κ74 s75 f78 hw=>?_
    clear hw
    replace hs:=hs.trG (f32.own (Nat.le_refl _)) s75
    refine op 5 (sl a76 x73.length c77) (oe (zd (za ?_)))
    exact zk (eA 7 (eA 6 (eA 5 (eA 1 (eA 0 rfl))))) (J3 x73 _ _ _ _ hs f78 hr)
   intro hc hr
   refine ck (zd (za ?_))
   exact zk (eA 7 (eA 6 (eA 5 (eA 1 (eA 0 rfl))))) (J3 sx42.1 _ _ _ _ hs f32 hr)
  intro hc hr
  refine cx 2 (zh ?_)
  have hx:=hdx42 _ (sj hr).symm
  subst hx
  replace hr:=hrx42
  refine zi ?_
  exact zr (eA 6 (eA 5 (eA 1 (eA 0 rfl)))) (J2 sx42.1 _ _ _ _ hs f32 hr)
 intro hc hr
 refine cx 0 (zh ?_)
 have hx:=hdx29 _ (sj hr).symm
 subst hx
 replace hr:=hrx29
 refine zi ?_
 exact zr (eA 5 rfl) (J1 sx29.1 _ _ _ _ hs f19 hr)
theorem zmP {κ:K} {p0:Int} {p1:LB} {a2:OA} {c3:Nat} (hb1:I64 p0) (f4:Sl zR κ a2 c3 p1) {r:(Int×LB×LM×LI)} (hr:zhW p0 p1=some r) :
 Fn Tryz.prog 115 #[iv p0,sl a2 p1.length c3] κ (fun v κ'=>Step [] κ κ'∧∃ (b5:Nat) (N6:Nat) (a8:OA) (c9:Nat) (a11:OA) (c12:Nat) (a14:OA) (c15:Nat),v=pt b5 0∧κ.H.size≤N6∧Box (N6,115001) κ' b5 [iv r.1,sl a8 r.2.1.length c9,sl a11 r.2.2.1.length c12,sl a14 r.2.2.2.length c15] 187∧I64 r.1∧Sl zR κ' a8 c9 r.2.1∧Gr (tSl tI64) true (N6,115002) κ' 95 a11 c12 r.2.2.1∧Gr tI64 false (N6,115003) κ' 2 a14 c15 r.2.2.2):=by
 refine fnc 77 [] Tryz.func115 Tryz.ntmps115 fun hs=>csr (op 4 (.pointer none) (otx (op 7 (iv p0) (op 8 (sl a2 p1.length c3) (op 9 (.agg #[iv p0,sl a2 p1.length c3,sl none 0 0,sl none 0 0]) (zv (d:=10) (T:=187) (κ.H.size,115001) hs.1 (.agg #[iv p0,sl a2 p1.length c3,sl none 0 0,sl none 0 0]) [iv p0,sl a2 p1.length c3,sl none 0 0,sl none 0 0] kr kr rfl fun b17 κ18 s19 B_b17=>?_))))))
 replace hs:=hs.tr0 s19
 refine op 5 (pt b17 0) (otx (op 11 (pt b17 0) (op 12 (iv p0) ?_)))
 obtain ⟨x24,hx24,hr⟩:=bind_some hr
 obtain ⟨hq25,hp26,len_x24⟩:=ztQ hx24
 refine ziw (d:=13) (T:=135) (e:=95) (t:=tH) (pub:=false) (τ:=(κ.H.size,115002)) (bytes:=24) (k1:=.i64) (k2:=.i64) (m:=p0) (zs:=[sl none 0 0]) (z:=(none,0,0)) kr kr kr kr rfl hq25 hs.1 fun a22 κ20 s21 f23=>?_
 rw [len_x24]
 replace f23:=Mat.made (t:=tI64) (pub:=false) (ei:=2) f23
 rw [←hp26,len_x24] at f23
 obtain ⟨H27,eH27⟩:∃ H:List Hd,H=List.replicate p0.toNat (none,0,0):=⟨_,rfl⟩
 rw [←eH27] at f23
 replace hs:=hs.tr0 s21
 replace B_b17:=B_b17.step0 s21
 refine op 14 (pt b17 0) (op 15 (pt b17 2) (zn (b:=b17) (off:=2) (T:=135) (sl a22 x24.length x24.length) [sl a22 x24.length x24.length] [iv p0,sl a2 p1.length c3,sl a22 x24.length x24.length,sl none 0 0] kr kr B_b17 rfl kr kr kr rfl fun κ28 s29 _ NB_b17=>?_))
 replace hs:=hs.trB B_b17.ge s29
 replace f23:=f23.step s29 (f23.nb B_b17 (zm (N:=κ.H.size) (M:=κ.H.size) (i:=115002) (j:=115001) kr))
 replace B_b17:=NB_b17
 refine otx (op 16 (pt b17 0) (op 17 (sl a2 p1.length c3) (op 18 (iv (p1.length:Int)) ?_)))
 obtain ⟨x34,hx34,hr⟩:=bind_some hr
 refine ziw (d:=19) (T:=95) (e:=2) (t:=tI64) (pub:=false) (τ:=(κ.H.size,115003)) (bytes:=8) (k1:=.i64) (k2:=.i64) (m:=(p1.length:Int)) (zs:=[iv 0]) (z:=0) kr kr kr kr ⟨rfl,(show I64 0 by unfold I64;omega)⟩ hx34 hs.1 fun a32 κ30 s31 f33=>?_
 replace hs:=hs.tr0 s31
 replace f23:=f23.step0 s31
 replace B_b17:=B_b17.step0 s31
 refine op 20 (pt b17 0) (op 21 (pt b17 3) (zn (b:=b17) (off:=3) (T:=95) (sl a32 x34.length x34.length) [sl a32 x34.length x34.length] [iv p0,sl a2 p1.length c3,sl a22 x24.length x24.length,sl a32 x34.length x34.length] kr kr B_b17 rfl kr kr kr rfl fun κ35 s36 _ NB_b17=>?_))
 replace hs:=hs.trB B_b17.ge s36
 replace f23:=f23.step s36 (f23.nb B_b17 (zm (N:=κ.H.size) (M:=κ.H.size) (i:=115002) (j:=115001) kr))
 replace f33:=f33.step s36 (f33.nb B_b17 (zm (N:=κ.H.size) (M:=κ.H.size) (i:=115003) (j:=115001) kr))
 replace B_b17:=NB_b17
 refine ot (cs (csr (op 6 (iv 0) (ot (cb 0 ?_)))))
 refine zj 0 (fun Z=>∀ (y44:LM) (a46:OA) (c47:Nat) (H48:List Hd) (E0:Env) (κ49:K) (hs:Step [] κ κ49) (f45:Mat tI64 false (κ.H.size,115002) κ49 95 2 a46 c47 H48 H48 y44) (f33:Gr tI64 false (κ.H.size,115003) κ49 2 a32 x34.length x34) (B_b17:Box (κ.H.size,115001) κ49 b17 [iv p0,sl a2 p1.length c3,sl a46 y44.length c47,sl a32 x34.length x34.length] 187),zjr p0 p1 x34 y44=some r→Z (upd (E0) 5 (pt b17 0)) κ49) ?_ fun J1=>?_
 ·intro y44 a46 c47 H48 E0 κ49 hs f45 f33 B_b17 hr
  refine zg (za (csr (op 76 (pt b17 0) (op 4 (pt b17 0) (ot (zi5 f45 fun κ50 s51 Nf45=>?_))))))
  replace hs:=hs.trG (f45.own (Nat.le_refl _)) s51
  replace f33:=f33.step s51 (f33.ngm f45 (zm (N:=κ.H.size) (M:=κ.H.size) (i:=115003) (j:=115002) kr))
  replace B_b17:=B_b17.step s51 (f45.bn B_b17 (zm (N:=κ.H.size) (M:=κ.H.size) (i:=115001) (j:=115002) kr))
  replace f45:=Nf45
  refine crt ?_
  obtain rfl:=sj hr
  refine rt [.tmp 4] [pt b17 0] ⟨rfl,trivial⟩ ?_
  exact ⟨hs,_,_,_,_,_,_,_,_,rfl,(Nat.le_refl _),B_b17,hb1,(f4.step hs),f45,f33⟩
 obtain ⟨x52,hx52,hrx52⟩:=bind_some hr
 refine zo (F:=zb3 p1) (J:=fun (sx52:Int×LM) (E':Env) (κ':K)=>∃ (a41:OA) (c42:Nat) (H43:List Hd),(∃ E0,E'=upd (upd (upd (E0) 1 (sl a2 p1.length c3)) 5 (pt b17 0)) 6 (iv sx52.1))∧Step [] κ κ'∧I64 sx52.1∧Mat tI64 false (κ.H.size,115002) κ' 95 2 a41 c42 H43 H43 sx52.2∧Gr tI64 false (κ.H.size,115003) κ' 2 a32 x34.length x34∧Box (κ.H.size,115001) κ' b17 [iv p0,sl a2 p1.length c3,sl a41 sx52.2.length c42,sl a32 x34.length x34.length] 187) (s0:=(0,x24)) (x:=x52) kr hx52 ⟨_,_,_,⟨_,(eA 6 (eA 5 (eA 1 rfl)))⟩,hs,(show I64 0 by unfold I64;omega),f23,f33,B_b17⟩ ?_
 rintro sx52 _ κ53 ⟨a41,c42,H43,⟨E0,rfl⟩,hs,hb38,f40,f33,B_b17⟩ yyx52 hr hdx52
 refine cs (csr (op 22 (iv sx52.1) (op 23 (sl a2 p1.length c3) (op 24 (iv (p1.length:Int)) (op 25 (bW (sx52.1<(p1.length:Int))) (ot ?_))))))
 refine cc (decide (sx52.1<(p1.length:Int))) hr ?_ ?_
 ·intro hc hr
  refine ckt (cs (cb 1 (cs (cx_ 23 [0,1,2,3,4,5,6,7,8,9,10,11,12,13,14,15,16,17,18,19,20,21,22] [21,22] 22 (mblk a41 c42 H43) (xp 28 (pt b17 0) (xp 29 (pt b17 0) (xp 30 (pt b17 2) (x1f 31 135 (sl a41 sx52.2.length c42) B_b17.at (f40.bn B_b17 (zm (N:=κ.H.size) (M:=κ.H.size) (i:=115001) (j:=115002) kr)) 2 rfl (xp 32 (sl a2 p1.length c3) ?_)))))))))
  refine xp 33 (iv sx52.1) ?_
  obtain ⟨x54,hx54,hr⟩:=bind_some hr
  obtain ⟨b55,o56,eab55,i0x54,i1x54,csx54,p_b55,owx54⟩:=(f4.step hs).idx hx54
  obtain ⟨_,_,rfl,⟨rfl,hb57⟩,⟨_,_,rfl,⟨rfl,hb58⟩,⟨rfl,hb59⟩⟩⟩:=owx54
  replace p_b55:PubAt κ53 b55 (o56+sx52.1.toNat*3) [iv x54.1,iv x54.2.1,iv x54.2.2]:=p_b55
  refine xi 34 109 134 3 p1.length c3 .i64 sx52.1 eab55 i0x54 i1x54 (xp 35 (pt b55 (o56+sx52.1.toNat*3)) (x1p 36 2 (iv x54.1) p_b55 0 rfl (xp 37 (pt b17 0) (xp 38 (pt b17 0) (xp 39 (pt b17 2) (x1 40 135 (sl a41 sx52.2.length c42) B_b17.at 2 rfl (xp 41 (sl a2 p1.length c3) (xp 42 (iv sx52.1) ?_))))))))
  obtain ⟨x60,hx60,hr⟩:=bind_some hr
  have eqx60:x54=x60:=sj (hx54.symm.trans hx60);subst eqx60
  have hx60q:=hx60
  obtain ⟨b61,o62,eab61,i0x60,i1x60,csx60,p_b61,owx60⟩:=(f4.step hs).idx hx60
  obtain ⟨_,_,rfl,⟨rfl,hb63⟩,⟨_,_,rfl,⟨rfl,hb64⟩,⟨rfl,hb65⟩⟩⟩:=owx60
  replace p_b61:PubAt κ53 b61 (o62+sx52.1.toNat*3) [iv x54.1,iv x54.2.1,iv x54.2.2]:=p_b61
  refine xi 43 109 134 3 p1.length c3 .i64 sx52.1 eab61 i0x60 i1x60 (xp 44 (pt b61 (o62+sx52.1.toNat*3)) (x1 45 2 (iv x54.1) p_b61.at 0 rfl ?_))
  obtain ⟨x66,hx66,hr⟩:=bind_some hr
  obtain ⟨b67,a68,c69,eab67,i0x66,i1x66,hhx66,p_b67,f70⟩:=f40.idx hx66
  refine xi 46 135 95 1 sx52.2.length c42 .i64 x54.1 (off:=0) eab67 i0x66 i1x66 (x1 47 95 (sl a68 x66.length c69) p_b67 0 rfl (xp 48 (iv sx52.1) (zem (d:=49) (T:=95) (e:=2) (t:=tI64) (pub:=true) (τ:=(κ.H.size,115004)) (len:=1) (l:=[sx52.1]) (parts:=#[(0,iv sx52.1)]) (cs:=[iv sx52.1]) kr kr kr kr hs.1 rfl ⟨_,_,rfl,⟨rfl,hb38⟩,rfl⟩ kr fun a73 κ71 s72 f74=>?_)))
  replace hs:=hs.tr0 s72
  replace f33:=f33.step0 s72
  replace f40:=f40.step0 s72
  replace f70:=f70.step0 s72
  replace B_b17:=B_b17.step0 s72
  obtain ⟨x76,hx76,hr⟩:=bind_some hr
  refine zl4 (d:=50) (T:=95) (e:=2) (t:=tI64) (pub:=false) (τ:=(κ.H.size,115002)) (bytes:=8) (a:=a68) (cp:=c69) (l:=x66) (a2:=a73) (c2:=1) (l2:=[sx52.1]) kr kr f70 f74.sl hs.1 kr hx76 kr (zeG hhx66) fun a79 c80 κ77 s78 f81 hw=>?_
  have Nf40:=f40.row hhx66 s78 f81 hw
  clear hw
  replace hs:=hs.trG (f70.own (Nat.le_refl _)) s78
  replace f33:=f33.step s78 (f33.ng f70 (zm (N:=κ.H.size) (M:=κ.H.size) (i:=115003) (j:=115002) kr))
  replace B_b17:=B_b17.step s78 (f70.bn B_b17 (zm (N:=κ.H.size) (M:=κ.H.size) (i:=115001) (j:=115002) kr))
  replace f40:=Nf40
  refine xe (oi 51 135 95 1 sx52.2.length c42 .i64 x54.1 (off:=0) eab67 i0x66 i1x66 ?_)
  obtain ⟨x82,hx82,hr⟩:=bind_some hr
  refine zmX (T:=95) (b:=b67) (ix:=x54.1) (hd:=(a79,x76.length,c80)) kr kr eab67 f40 i0x66 (by rw [f40.len0,List.length_set];exact i1x66) kr fun κ83 s84 Nf40=>?_
  replace s84:=s84.mono (zex (hs:=(H43.set x54.1.toNat (a79,x76.length,c80))))
  replace hs:=hs.trG (f40.own (Nat.le_refl _)) s84
  replace f33:=f33.step s84 (f33.ngm f40 (zm (N:=κ.H.size) (M:=κ.H.size) (i:=115003) (j:=115002) kr))
  replace B_b17:=B_b17.step s84 (f40.bn B_b17 (zm (N:=κ.H.size) (M:=κ.H.size) (i:=115001) (j:=115002) kr))
  obtain ⟨H85,eH85⟩:∃ H:List Hd,H=(H43.set x54.1.toNat (a79,x76.length,c80)):=⟨_,rfl⟩
  rw [←eH85] at Nf40
  replace f40:=ziP hx82 Nf40
  have len_x82:=zS hx82
  replace B_b17:Box (κ.H.size,115001) κ83 b17 [iv p0,sl a2 p1.length c3,sl a41 x82.length c42,sl a32 x34.length x34.length] 187:=by rw [len_x82];exact B_b17
  refine ot (cx_ 23 [0,1,2,3,4,5,6,7,8,9,10,11,12,13,14,15,16,17,18,19,20,21,22] [21,22] 22 (mblk a41 c42 H85) (xp 52 (pt b17 0) (xp 53 (pt b17 0) (xp 54 (pt b17 2) (x1f 55 135 (sl a41 x82.length c42) B_b17.at (f40.bn B_b17 (zm (N:=κ.H.size) (M:=κ.H.size) (i:=115001) (j:=115002) kr)) 2 rfl (xp 56 (sl a2 p1.length c3) (xp 57 (iv sx52.1) ?_)))))))
  obtain ⟨x86,hx86,hr⟩:=bind_some hr
  have eqx86:x54=x86:=sj (hx54.symm.trans hx86);subst eqx86
  have hx86q:=hx86
  obtain ⟨b87,o88,eab87,i0x86,i1x86,csx86,p_b87,owx86⟩:=(f4.step hs).idx hx86
  obtain ⟨_,_,rfl,⟨rfl,hb89⟩,⟨_,_,rfl,⟨rfl,hb90⟩,⟨rfl,hb91⟩⟩⟩:=owx86
  replace p_b87:PubAt κ83 b87 (o88+sx52.1.toNat*3) [iv x54.1,iv x54.2.1,iv x54.2.2]:=p_b87
  refine xi 58 109 134 3 p1.length c3 .i64 sx52.1 eab87 i0x86 i1x86 (xp 59 (pt b87 (o88+sx52.1.toNat*3+1)) (x1p 60 2 (iv x54.2.1) p_b87 1 rfl (xp 61 (pt b17 0) (xp 62 (pt b17 0) (xp 63 (pt b17 2) (x1 64 135 (sl a41 x82.length c42) B_b17.at 2 rfl (xp 65 (sl a2 p1.length c3) (xp 66 (iv sx52.1) ?_))))))))
  obtain ⟨x92,hx92,hr⟩:=bind_some hr
  have eqx92:x54=x92:=sj (hx54.symm.trans hx92);subst eqx92
  have hx92q:=hx92
  obtain ⟨b93,o94,eab93,i0x92,i1x92,csx92,p_b93,owx92⟩:=(f4.step hs).idx hx92
  obtain ⟨_,_,rfl,⟨rfl,hb95⟩,⟨_,_,rfl,⟨rfl,hb96⟩,⟨rfl,hb97⟩⟩⟩:=owx92
  replace p_b93:PubAt κ83 b93 (o94+sx52.1.toNat*3) [iv x54.1,iv x54.2.1,iv x54.2.2]:=p_b93
  refine xi 67 109 134 3 p1.length c3 .i64 sx52.1 eab93 i0x92 i1x92 (xp 68 (pt b93 (o94+sx52.1.toNat*3+1)) (x1 69 2 (iv x54.2.1) p_b93.at 1 rfl ?_))
  obtain ⟨x98,hx98,hr⟩:=bind_some hr
  obtain ⟨b99,a100,c101,eab99,i0x98,i1x98,hhx98,p_b99,f102⟩:=f40.idx hx98
  refine xi 70 135 95 1 x82.length c42 .i64 x54.2.1 (off:=0) eab99 i0x98 i1x98 (x1 71 95 (sl a100 x98.length c101) p_b99 0 rfl (xp 72 (iv sx52.1) (zem (d:=73) (T:=95) (e:=2) (t:=tI64) (pub:=true) (τ:=(κ.H.size,115005)) (len:=1) (l:=[sx52.1]) (parts:=#[(0,iv sx52.1)]) (cs:=[iv sx52.1]) kr kr kr kr hs.1 rfl ⟨_,_,rfl,⟨rfl,hb38⟩,rfl⟩ kr fun a105 κ103 s104 f106=>?_)))
  replace hs:=hs.tr0 s104
  replace f33:=f33.step0 s104
  replace f40:=f40.step0 s104
  replace f102:=f102.step0 s104
  replace B_b17:=B_b17.step0 s104
  obtain ⟨x108,hx108,hr⟩:=bind_some hr
  refine zl4 (d:=74) (T:=95) (e:=2) (t:=tI64) (pub:=false) (τ:=(κ.H.size,115002)) (bytes:=8) (a:=a100) (cp:=c101) (l:=x98) (a2:=a105) (c2:=1) (l2:=[sx52.1]) kr kr f102 f106.sl hs.1 kr hx108 kr (zeG hhx98) fun a111 c112 κ109 s110 f113 hw=>?_
  have Nf40:=f40.row hhx98 s110 f113 hw
  clear hw
  replace hs:=hs.trG (f102.own (Nat.le_refl _)) s110
  replace f33:=f33.step s110 (f33.ng f102 (zm (N:=κ.H.size) (M:=κ.H.size) (i:=115003) (j:=115002) kr))
  replace B_b17:=B_b17.step s110 (f102.bn B_b17 (zm (N:=κ.H.size) (M:=κ.H.size) (i:=115001) (j:=115002) kr))
  replace f40:=Nf40
  refine xe (oi 75 135 95 1 x82.length c42 .i64 x54.2.1 (off:=0) eab99 i0x98 i1x98 ?_)
  obtain ⟨x114,hx114,hr⟩:=bind_some hr
  refine zmX (T:=95) (b:=b99) (ix:=x54.2.1) (hd:=(a111,x108.length,c112)) kr kr eab99 f40 i0x98 (by rw [f40.len0,List.length_set];exact i1x98) kr fun κ115 s116 Nf40=>?_
  replace s116:=s116.mono (zex (hs:=(H85.set x54.2.1.toNat (a111,x108.length,c112))))
  replace hs:=hs.trG (f40.own (Nat.le_refl _)) s116
  replace f33:=f33.step s116 (f33.ngm f40 (zm (N:=κ.H.size) (M:=κ.H.size) (i:=115003) (j:=115002) kr))
  replace B_b17:=B_b17.step s116 (f40.bn B_b17 (zm (N:=κ.H.size) (M:=κ.H.size) (i:=115001) (j:=115002) kr))
  obtain ⟨H117,eH117⟩:∃ H:List Hd,H=(H85.set x54.2.1.toNat (a111,x108.length,c112)):=⟨_,rfl⟩
  rw [←eH117] at Nf40
  replace f40:=ziP hx114 Nf40
  have len_x114:=zS hx114
  replace B_b17:Box (κ.H.size,115001) κ115 b17 [iv p0,sl a2 p1.length c3,sl a41 x114.length c42,sl a32 x34.length x34.length] 187:=by rw [len_x114];exact B_b17
  refine oe (zd (za (cr (op 26 (iv sx52.1) (op 27 (iv (w64 (sx52.1+1))) (op 6 (iv (w64 (sx52.1+1))) (oe ?_)))))))
  exact ze (sj hr).symm ⟨_,_,_,⟨_,(eA 6 (eA 5 (eA 1 rfl)))⟩,hs,(zq _),f40,f33,B_b17⟩
 intro hc hr
 refine cx 0 (zh ?_)
 have hx:=hdx52 _ (sj hr).symm
 subst hx
 replace hr:=hrx52
 refine zi ?_
 exact zr (eA 5 rfl) (J1 sx52.2 _ _ _ _ _ hs f40 f33 B_b17 hr)
theorem zhf {κ:K} {p0:Int×LB×LM×LI} {pb0:Nat} {τ0:Tag} {a2:OA} {c3:Nat} {a5:OA} {c6:Nat} {a8:OA} {c9:Nat} {τ0_3:Tag} {p1:Int} {p2:Int} (B_m0:Box τ0 κ pb0 [iv p0.1,sl a2 p0.2.1.length c3,sl a5 p0.2.2.1.length c6,sl a8 p0.2.2.2.length c9] 187) (hb1:I64 p0.1) (f4:Sl zR κ a2 c3 p0.2.1) (f7:Sl (tSl tI64) κ a5 c6 p0.2.2.1) (f10:Gr tI64 false τ0_3 κ 2 a8 c9 p0.2.2.2) (lt_τ0_3:τ0_3.1<κ.H.size) (hb11:I64 p1) (hb12:I64 p2) (ne_τ0_τ0_3:τ0≠τ0_3) {r:Int×Int×(Int×LB×LM×LI)} (hr:zcT p0 p1 p2=some r) :
 Fn Tryz.prog 142 #[pt pb0 0,iv p1,iv p2] κ (fun v κ'=>Step ([pb0]++blk a8 c9) κ κ'∧∃ (a15:OA) (c16:Nat),v=.tuple #[iv r.1,iv r.2.1]∧I64 r.1∧I64 r.2.1∧Box τ0 κ' pb0 [iv p0.1,sl a2 p0.2.1.length c3,sl a5 p0.2.2.1.length c6,sl a15 r.2.2.2.2.2.length c16] 187∧Gr tI64 false τ0_3 κ' 2 a15 c16 r.2.2.2.2.2∧(∀ g∈blk a15 c16,g∈([pb0]++blk a8 c9)∨κ.H.size≤g)):=by
 refine fnc 44 ([pb0]++blk a8 c9) Tryz.func142 Tryz.ntmps142 fun hs=>?_
 have lt_τ0:=B_m0.tlt
 have ne_τ0_3_τ0:=ne_τ0_τ0_3.symm
 have ow_f10:∀ g∈blk a8 c9,g∈([pb0]++blk a8 c9)∨κ.H.size≤g:=fun g hg=>.inl (by simp [hg])
 refine csr (op 6 (iv 0) (op 7 (iv 0) (otx (op 9 (pt pb0 0) (op 10 (pt pb0 0) (op 11 (pt pb0 1) (o1 12 109 (sl a2 p0.2.1.length c3) (B_m0.at.one (o:=1) rfl) (op 13 (iv p2) ?_))))))))
 obtain ⟨x18,hx18,hr⟩:=bind_some hr
 obtain ⟨b19,o20,eab19,i0x18,i1x18,csx18,p_b19,owx18⟩:=f4.idx hx18
 obtain ⟨_,_,rfl,⟨rfl,hb21⟩,⟨_,_,rfl,⟨rfl,hb22⟩,⟨rfl,hb23⟩⟩⟩:=owx18
 replace p_b19:PubAt κ b19 (o20+p2.toNat*3) [iv x18.1,iv x18.2.1,iv x18.2.2]:=p_b19
 refine oi 14 109 134 3 p0.2.1.length c3 .i64 p2 eab19 i0x18 i1x18 (oN 15 134 [iv x18.1,iv x18.2.1,iv x18.2.2] (p_b19.at.part 0 3).2 (zz (d:=8) (T:=134) (κ.H.size,142001) hs.1 [iv 0,iv 0,iv 0] kr kr kr fun b24 κ25 s26 B_b24=>?_))
 replace hs:=hs.tr0 s26
 replace f10:=f10.step0 s26
 replace B_m0:=B_m0.step0 s26
 refine zn (b:=b24) (off:=0) (T:=134) (.agg #[iv x18.1,iv x18.2.1,iv x18.2.2]) [iv x18.1,iv x18.2.1,iv x18.2.2] [iv x18.1,iv x18.2.1,iv x18.2.2] kr kr B_b24 rfl kr kr kr rfl fun κ27 s28 _ NB_b24=>?_
 replace hs:=hs.trB B_b24.ge s28
 replace f10:=f10.step s28 (f10.nb B_b24 (zai (i:=142001) lt_τ0_3))
 replace B_m0:=B_m0.step s28 (nm1 (B_m0.ne B_b24 (zai (i:=142001) lt_τ0)))
 replace B_b24:=NB_b24
 refine ot (cs (csr (op 16 (pt b24 0) (o1 17 2 (iv x18.1) (B_b24.at.one (o:=0) rfl) (op 18 (iv p1) (op 19 (bW (x18.1=p1)) (ot ?_)))))))
 refine cc (decide (x18.1=p1)) hr ?_ ?_
 ·intro hc hr
  refine cs (cd 13 (dp 20 (pt b24 2) (d1 21 2 (iv x18.2.2) (B_b24.at.one (o:=2) rfl) (dp 22 (pt pb0 0) (dp 23 (pt pb0 0) (dp 24 (pt pb0 3) (d1 25 95 (sl a8 p0.2.2.2.length c9) (B_m0.at.one (o:=3) rfl) (dp 26 (iv p2) ?_))))))))
  obtain ⟨x29,hx29,hr⟩:=bind_some hr
  obtain ⟨b30,eab30,i0x29,i1x29,csx29,p_b30,owx29⟩:=f10.idx hx29
  obtain ⟨rfl,hb31⟩:=owx29
  replace p_b30:At κ27 b30 (0+p2.toNat*1) [iv x29]:=p_b30
  refine di 27 95 2 1 p0.2.2.2.length c9 .i64 p2 (off:=0) eab30 i0x29 i1x29 (d1 28 2 (iv x29) (p_b30.one (o:=0) rfl) (dp 29 (iv (w64 (x18.2.2 - x29))) (dp 30 (pt b24 1) (d1 31 2 (iv x18.2.1) (B_b24.at.one (o:=1) rfl) (dp 6 (iv (w64 (x18.2.2 - x29))) (de (op 7 (iv x18.2.1) (ot (crt ?_)))))))))
  refine zb ?_
  obtain rfl:=sj hr
  refine rt [.tmp 6,.tmp 7] [iv (w64 (x18.2.2 - x29)),iv x18.2.1] ⟨rfl,rfl,trivial⟩ ?_
  exact ⟨hs,_,_,rfl,(zq _),hb22,B_m0,f10,ow_f10⟩
 intro hc hr
 refine ckt (cs (cd 13 (dp 32 (pt b24 2) (d1 33 2 (iv x18.2.2) (B_b24.at.one (o:=2) rfl) (dp 34 (pt pb0 0) (dp 35 (pt pb0 0) (dp 36 (pt pb0 3) (d1 37 95 (sl a8 p0.2.2.2.length c9) (B_m0.at.one (o:=3) rfl) (dp 38 (iv p2) ?_)))))))))
 obtain ⟨x32,hx32,hr⟩:=bind_some hr
 obtain ⟨b33,eab33,i0x32,i1x32,csx32,p_b33,owx32⟩:=f10.idx hx32
 obtain ⟨rfl,hb34⟩:=owx32
 replace p_b33:At κ27 b33 (0+p2.toNat*1) [iv x32]:=p_b33
 refine di 39 95 2 1 p0.2.2.2.length c9 .i64 p2 (off:=0) eab33 i0x32 i1x32 (d1 40 2 (iv x32) (p_b33.one (o:=0) rfl) (dp 41 (iv (w64 (x18.2.2+x32))) (dp 42 (pt b24 0) (d1 43 2 (iv x18.1) (B_b24.at.one (o:=0) rfl) (dp 6 (iv (w64 (x18.2.2+x32))) (de (op 7 (iv x18.1) (ot (crt ?_)))))))))
 obtain rfl:=sj hr
 refine rt [.tmp 6,.tmp 7] [iv (w64 (x18.2.2+x32)),iv x18.1] ⟨rfl,rfl,trivial⟩ ?_
 exact ⟨hs,_,_,rfl,(zq _),hb21,B_m0,f10,ow_f10⟩
theorem zgS {κ:K} {p0:Int×LB×LM×LI} {pb0:Nat} {τ0:Tag} {a2:OA} {c3:Nat} {a5:OA} {c6:Nat} {a8:OA} {c9:Nat} {τ0_3:Tag} {p1:Int} (B_m0:Box τ0 κ pb0 [iv p0.1,sl a2 p0.2.1.length c3,sl a5 p0.2.2.1.length c6,sl a8 p0.2.2.2.length c9] 187) (hb1:I64 p0.1) (f4:Sl zR κ a2 c3 p0.2.1) (f7:Sl (tSl tI64) κ a5 c6 p0.2.2.1) (f10:Gr tI64 false τ0_3 κ 2 a8 c9 p0.2.2.2) (lt_τ0_3:τ0_3.1<κ.H.size) (hb11:I64 p1) (ne_τ0_τ0_3:τ0≠τ0_3) {r:LI×(Int×LB×LM×LI)} (hr:zco p0 p1=some r) :
 Fn Tryz.prog 117 #[pt pb0 0,iv p1] κ (fun v κ'=>Step ([pb0]++blk a8 c9) κ κ'∧∃ (a12:OA) (c13:Nat) (a15:OA) (c16:Nat),v=sl a12 r.1.length c13∧Sl tI64 κ' a12 c13 r.1∧Box τ0 κ' pb0 [iv p0.1,sl a2 p0.2.1.length c3,sl a5 p0.2.2.1.length c6,sl a15 r.2.2.2.2.length c16] 187∧Gr tI64 false τ0_3 κ' 2 a15 c16 r.2.2.2.2∧(∀ g∈blk a15 c16,g∈([pb0]++blk a8 c9)∨κ.H.size≤g)):=by
 refine fnc 112 ([pb0]++blk a8 c9) Tryz.func117 Tryz.ntmps117 fun hs=>?_
 have lt_τ0:=B_m0.tlt
 have ne_τ0_3_τ0:=ne_τ0_τ0_3.symm
 have ow_f10:∀ g∈blk a8 c9,g∈([pb0]++blk a8 c9)∨κ.H.size≤g:=fun g hg=>.inl (by simp [hg])
 refine csr (op 4 (sl none 0 0) (otx (zO (d:=15) (T:=95) (e:=2) (t:=tI64) (pub:=false) (τ:=(κ.H.size,117001)) (len:=0) (l:=[]) (parts:=#[]) (cs:=[]) kr kr kr kr hs.1 rfl rfl kr fun a20 κ18 s19 f21=>?_)))
 replace hs:=hs.tr0 s19
 replace f10:=f10.step0 s19
 replace B_m0:=B_m0.step0 s19
 refine op 5 (sl a20 0 0) (ot (cs (csr (op 6 (iv 0) (ot (cb 0 ?_))))))
 refine zj 0 (fun Z=>∀ (y29:LI) (a31:OA) (c32:Nat) (E0:Env) (κ33:K) (hs:Step ([pb0]++blk a8 c9) κ κ33) (f30:Gr tI64 false (κ.H.size,117001) κ33 2 a31 c32 y29) (f10:Gr tI64 false τ0_3 κ33 2 a8 c9 p0.2.2.2) (B_m0:Box τ0 κ33 pb0 [iv p0.1,sl a2 p0.2.1.length c3,sl a5 p0.2.2.1.length c6,sl a8 p0.2.2.2.length c9] 187),zd5 p0 p1 y29=some r→Z (upd (upd (upd (E0) 0 (pt pb0 0)) 1 (iv p1)) 5 (sl a31 y29.length c32)) κ33) ?_ fun J1=>?_
 ·intro y29 a31 c32 E0 κ33 hs f30 f10 B_m0 hr
  refine zg (za (csr (op 27 (sl a31 y29.length c32) (op 28 (iv p1) ?_))))
  obtain ⟨x34,hx34,hr⟩:=bind_some hr
  obtain ⟨b35,eab35,i0x34,i1x34,csx34,p_b35,owx34⟩:=f30.idx hx34
  obtain ⟨rfl,hb36⟩:=owx34
  replace p_b35:At κ33 b35 (0+p1.toNat*1) [iv x34]:=p_b35
  refine oi 29 95 2 1 y29.length c32 .i64 p1 (off:=0) eab35 i0x34 i1x34 ?_
  obtain ⟨x37,hx37,hr⟩:=bind_some hr
  refine zbu (T:=2) (t:=tI64) (τ:=(κ.H.size,117001)) (e:=2) (ix:=p1) (x':=0) (b:=b35) (δ:=0) (cp:=c32) (l:=y29) (vs:=[iv 0]) (iv 0) kr kr eab35 f30 i0x34 i1x34 kr kr kr kr (fun cs hx=>by obtain ⟨x,_,ho⟩:=hx;rw [zat ((tI64.len ho).trans kr)];exact ⟨rfl,(show I64 0 by unfold I64;omega)⟩) fun κ38 s39 Nf30=>?_
  replace hs:=hs.trG (f30.own (Nat.le_refl _)) s39
  replace f10:=f10.step s39 (f10.ng f30 (zai (i:=117001) lt_τ0_3))
  replace B_m0:=B_m0.step s39 (f30.bn B_m0 (zai (i:=117001) lt_τ0))
  replace f30:=Nf30
  replace f30:=zeM hx37 f30
  have len_x37:=zS hx37
  refine zca (zc (t:=5) (v:=sl a31 x37.length c32) (eA 1 (v:=iv p1) (eA 0 (v:=pt pb0 0) rfl)) (by rw [len_x37];kernel_rfl)) (otx (op 30 (iv p1) (zO (d:=31) (T:=95) (e:=2) (t:=tI64) (pub:=true) (τ:=(κ.H.size,117003)) (len:=1) (l:=[p1]) (parts:=#[(0,iv p1)]) (cs:=[iv p1]) kr kr kr kr hs.1 rfl ⟨_,_,rfl,⟨rfl,hb11⟩,rfl⟩ kr fun a42 κ40 s41 f43=>?_)))
  replace hs:=hs.tr0 s41
  replace f10:=f10.step0 s41
  replace f30:=f30.step0 s41
  replace B_m0:=B_m0.step0 s41
  refine op 7 (sl a42 ([p1]).length 1) (ot (cs (csr (op 8 (iv 0) (ot (cb 2 ?_))))))
  refine zj 2 (fun Z=>∀ (y59:LI) (y63:LI) (a61:OA) (c62:Nat) (a65:OA) (c66:Nat) (E0:Env) (κ67:K) (hs:Step ([pb0]++blk a8 c9) κ κ67) (f60:Gr tI64 false (κ.H.size,117001) κ67 2 a61 c62 y59) (f64:Gr tI64 false τ0_3 κ67 2 a65 c66 y63) (ow_f64:(∀ g∈blk a65 c66,g∈([pb0]++blk a8 c9)∨κ.H.size≤g)) (B_m0:Box τ0 κ67 pb0 [iv p0.1,sl a2 p0.2.1.length c3,sl a5 p0.2.2.1.length c6,sl a65 y63.length c66] 187),zd4 p0 y59 y63=some r→Z (upd (E0) 5 (sl a61 y59.length c62)) κ67) ?_ fun J2=>?_
  ·intro y59 y63 a61 c62 a65 c66 E0 κ67 hs f60 f64 ow_f64 B_m0 hr
   refine zg (za (csr (op 111 (sl a61 y59.length c62) (op 4 (sl a61 y59.length c62) (ot (zpx f60 fun κ68 s69 Nf60=>?_))))))
   replace hs:=hs.trG (f60.own (Nat.le_refl _)) s69
   replace f64:=f64.step s69 (f64.ng f60 (zai (i:=117001) lt_τ0_3))
   replace B_m0:=B_m0.step s69 (f60.bn B_m0 (zai (i:=117001) lt_τ0))
   replace f60:=Nf60
   refine crt ?_
   obtain rfl:=sj hr
   refine rt [.tmp 4] [sl a61 y59.length c62] ⟨rfl,trivial⟩ ?_
   exact ⟨hs,_,_,_,_,rfl,f60.sl,B_m0,f64,ow_f64⟩
  obtain ⟨x70,hx70,hrx70⟩:=bind_some hr
  refine zo (F:=zbd p0) (J:=fun (sx70:LI×LI×Int×LI) (E':Env) (κ':K)=>∃ (a47:OA) (c48:Nat) (a51:OA) (c52:Nat) (a57:OA) (c58:Nat),(∃ E0,E'=upd (upd (upd (upd (E0) 0 (pt pb0 0)) 5 (sl a47 sx70.1.length c48)) 7 (sl a51 sx70.2.1.length c52)) 8 (iv sx70.2.2.1))∧Step ([pb0]++blk a8 c9) κ κ'∧Gr tI64 false (κ.H.size,117001) κ' 2 a47 c48 sx70.1∧Gr tI64 true (κ.H.size,117003) κ' 2 a51 c52 sx70.2.1∧I64 sx70.2.2.1∧Gr tI64 false τ0_3 κ' 2 a57 c58 sx70.2.2.2∧(∀ g∈blk a57 c58,g∈([pb0]++blk a8 c9)∨κ.H.size≤g)∧Box τ0 κ' pb0 [iv p0.1,sl a2 p0.2.1.length c3,sl a5 p0.2.2.1.length c6,sl a57 sx70.2.2.2.length c58] 187) (s0:=(x37,[p1],0,p0.2.2.2)) (x:=x70) kr hx70 ⟨_,_,_,_,_,_,⟨_,(eA 8 (eA 7 (eA 5 (eA 0 rfl))))⟩,hs,f30,f43,(show I64 0 by unfold I64;omega),f10,ow_f10,B_m0⟩ ?_
  rintro sx70 _ κ71 ⟨a47,c48,a51,c52,a57,c58,⟨E0,rfl⟩,hs,f46,f50,hb54,f56,ow_f56,B_m0⟩ yyx70 hr hdx70
  refine cs (csr (op 32 (iv sx70.2.2.1) (op 33 (sl a51 sx70.2.1.length c52) (op 34 (iv (sx70.2.1.length:Int)) (op 35 (bW (sx70.2.2.1<(sx70.2.1.length:Int))) (ot ?_))))))
  refine cc (decide (sx70.2.2.1<(sx70.2.1.length:Int))) hr ?_ ?_
  ·intro hc hr
   refine ckt (cs (cb 3 (csr (op 38 (sl a51 sx70.2.1.length c52) (op 39 (iv sx70.2.2.1) ?_)))))
   obtain ⟨x72,hx72,hr⟩:=bind_some hr
   obtain ⟨b73,o74,eab73,i0x72,i1x72,csx72,p_b73,owx72⟩:=f50.sl.idx hx72
   obtain ⟨rfl,hb75⟩:=owx72
   replace p_b73:PubAt κ71 b73 (o74+sx70.2.2.1.toNat*1) [iv x72]:=p_b73
   refine oi 40 95 2 1 sx70.2.1.length c52 .i64 sx70.2.2.1 eab73 i0x72 i1x72 (o1 41 2 (iv x72) (p_b73.at.one (o:=0) rfl) (op 9 (iv x72) (otx (op 10 (iv 0) (ot (cb 4 ?_))))))
   refine zj 4 (fun Z=>∀ (y90:LI) (y94:LI) (y98:LI) (a92:OA) (c93:Nat) (a96:OA) (c97:Nat) (a100:OA) (c101:Nat) (E0:Env) (κ102:K) (hs:Step ([pb0]++blk a8 c9) κ κ102) (f91:Gr tI64 false (κ.H.size,117001) κ102 2 a92 c93 y90) (f95:Gr tI64 true (κ.H.size,117003) κ102 2 a96 c97 y94) (f99:Gr tI64 false τ0_3 κ102 2 a100 c101 y98) (ow_f99:(∀ g∈blk a100 c101,g∈([pb0]++blk a8 c9)∨κ.H.size≤g)) (B_m0:Box τ0 κ102 pb0 [iv p0.1,sl a2 p0.2.1.length c3,sl a5 p0.2.2.1.length c6,sl a100 y98.length c101] 187),zgT sx70 y90 y94 y98=some yyx70→Z (upd (upd (upd (upd (E0) 0 (pt pb0 0)) 5 (sl a92 y90.length c93)) 7 (sl a96 y94.length c97)) 8 (iv sx70.2.2.1)) κ102) ?_ fun J3=>?_
   ·intro y90 y94 y98 a92 c93 a96 c97 a100 c101 E0 κ102 hs f91 f95 f99 ow_f99 B_m0 hr
    refine zg (zd (za (cr (op 36 (iv sx70.2.2.1) (op 37 (iv (w64 (sx70.2.2.1+1))) (op 8 (iv (w64 (sx70.2.2.1+1))) (oe ?_)))))))
    exact ze (sj hr).symm ⟨_,_,_,_,_,_,⟨_,(eA 8 (eA 7 (eA 5 (eA 0 rfl))))⟩,hs,f91,f95,(zq _),f99,ow_f99,B_m0⟩
   obtain ⟨x103,hx103,hrx103⟩:=bind_some hr
   refine zo (F:=zbc p0 x72) (J:=fun (sx103:LI×LI×Int×LI) (E':Env) (κ':K)=>∃ (a78:OA) (c79:Nat) (a82:OA) (c83:Nat) (a88:OA) (c89:Nat),(∃ E0,E'=upd (upd (upd (upd (upd (upd (E0) 0 (pt pb0 0)) 5 (sl a78 sx103.1.length c79)) 7 (sl a82 sx103.2.1.length c83)) 8 (iv sx70.2.2.1)) 9 (iv x72)) 10 (iv sx103.2.2.1))∧Step ([pb0]++blk a8 c9) κ κ'∧Gr tI64 false (κ.H.size,117001) κ' 2 a78 c79 sx103.1∧Gr tI64 true (κ.H.size,117003) κ' 2 a82 c83 sx103.2.1∧I64 sx103.2.2.1∧Gr tI64 false τ0_3 κ' 2 a88 c89 sx103.2.2.2∧(∀ g∈blk a88 c89,g∈([pb0]++blk a8 c9)∨κ.H.size≤g)∧Box τ0 κ' pb0 [iv p0.1,sl a2 p0.2.1.length c3,sl a5 p0.2.2.1.length c6,sl a88 sx103.2.2.2.length c89] 187) (s0:=(sx70.1,sx70.2.1,0,sx70.2.2.2)) (x:=x103) kr hx103 ⟨_,_,_,_,_,_,⟨_,(eA 10 (eA 9 (eA 8 (eA 7 (eA 5 (eA 0 rfl))))))⟩,hs,f46,f50,(show I64 0 by unfold I64;omega),f56,ow_f56,B_m0⟩ ?_
   rintro sx103 _ κ104 ⟨a78,c79,a82,c83,a88,c89,⟨E0,rfl⟩,hs,f77,f81,hb85,f87,ow_f87,B_m0⟩ yyx103 hr hdx103
   refine cs (csr (op 42 (iv sx103.2.2.1) (op 43 (pt pb0 0) (op 44 (pt pb0 0) (op 45 (pt pb0 2) (o1 46 135 (sl a5 p0.2.2.1.length c6) (B_m0.at.one (o:=2) rfl) (op 47 (iv x72) ?_)))))))
   obtain ⟨x105,hx105,hr⟩:=bind_some hr
   obtain ⟨b106,o107,eab106,i0x105,i1x105,csx105,p_b106,owx105⟩:=(f7.step hs).idx hx105
   obtain ⟨a108,c109,rfl,f110⟩:=owx105
   replace p_b106:PubAt κ104 b106 (o107+x72.toNat*1) [sl a108 x105.length c109]:=p_b106
   refine oi 48 135 95 1 p0.2.2.1.length c6 .i64 x72 eab106 i0x105 i1x105 (o1 49 95 (sl a108 x105.length c109) (p_b106.at.one (o:=0) rfl) (op 50 (iv (x105.length:Int)) (op 51 (bW (sx103.2.2.1<(x105.length:Int))) (ot ?_))))
   refine cc (decide (sx103.2.2.1<(x105.length:Int))) hr ?_ ?_
   ·intro hc hr
    refine ckt ?_
    refine zl (fun Z=>∀ (y111:LI) (y115:LI) (y119:LI) (a113:OA) (c114:Nat) (a117:OA) (c118:Nat) (a121:OA) (c122:Nat) (E0:Env) (κ123:K) (hs:Step ([pb0]++blk a8 c9) κ κ123) (f112:Gr tI64 false (κ.H.size,117001) κ123 2 a113 c114 y111) (f116:Gr tI64 true (κ.H.size,117003) κ123 2 a117 c118 y115) (f120:Gr tI64 false τ0_3 κ123 2 a121 c122 y119) (ow_f120:(∀ g∈blk a121 c122,g∈([pb0]++blk a8 c9)∨κ.H.size≤g)) (B_m0:Box τ0 κ123 pb0 [iv p0.1,sl a2 p0.2.1.length c3,sl a5 p0.2.2.1.length c6,sl a121 y119.length c122] 187),zbf sx103 y111 y115 y119=some yyx103→cwp Tryz.prog 112 (sub (zC Tryz.f117) [1,1,0,0,1,1,0,0,1,0,0,1,0,1,1,1,1,1]) Z (upd (upd (upd (upd (upd (upd (E0) 0 (pt pb0 0)) 5 (sl a113 y111.length c114)) 7 (sl a117 y115.length c118)) 8 (iv sx70.2.2.1)) 9 (iv x72)) 10 (iv sx103.2.2.1)) κ123) ?_ fun J4=>?_
    ·intro y111 y115 y119 a113 c114 a117 c118 a121 c122 E0 κ123 hs f112 f116 f120 ow_f120 B_m0 hr
     refine cr (op 52 (iv sx103.2.2.1) (op 53 (iv (w64 (sx103.2.2.1+1))) (op 10 (iv (w64 (sx103.2.2.1+1))) (oe ?_))))
     exact ze (sj hr).symm ⟨_,_,_,_,_,_,⟨_,(eA 10 (eA 9 (eA 8 (eA 7 (eA 5 (eA 0 rfl))))))⟩,hs,f112,f116,(zq _),f120,ow_f120,B_m0⟩
    refine cs (cb 5 (csr (op 54 (pt pb0 0) (op 55 (pt pb0 0) (op 56 (pt pb0 2) (o1 57 135 (sl a5 p0.2.2.1.length c6) (B_m0.at.one (o:=2) rfl) (op 58 (iv x72) ?_)))))))
    obtain ⟨x124,hx124,hr⟩:=bind_some hr
    have eqx124:x105=x124:=sj (hx105.symm.trans hx124);subst eqx124
    have hx124q:=hx124
    obtain ⟨b125,o126,eab125,i0x124,i1x124,csx124,p_b125,owx124⟩:=(f7.step hs).idx hx124
    obtain ⟨a127,c128,rfl,f129⟩:=owx124
    replace p_b125:PubAt κ104 b125 (o126+x72.toNat*1) [sl a127 x105.length c128]:=p_b125
    refine oi 59 135 95 1 p0.2.2.1.length c6 .i64 x72 eab125 i0x124 i1x124 (o1 60 95 (sl a127 x105.length c128) (p_b125.at.one (o:=0) rfl) (op 61 (iv sx103.2.2.1) ?_))
    obtain ⟨x130,hx130,hr⟩:=bind_some hr
    obtain ⟨b131,o132,eab131,i0x130,i1x130,csx130,p_b131,owx130⟩:=f129.idx hx130
    obtain ⟨rfl,hb133⟩:=owx130
    replace p_b131:PubAt κ104 b131 (o132+sx103.2.2.1.toNat*1) [iv x130]:=p_b131
    refine oi 62 95 2 1 x105.length c128 .i64 sx103.2.2.1 eab131 i0x130 i1x130 (o1 63 2 (iv x130) (p_b131.at.one (o:=0) rfl) (op 11 (iv x130) (ot (cs (cd 18 (dp 64 (pt pb0 0) (dp 65 (pt pb0 0) (dp 66 (pt pb0 1) (d1 67 109 (sl a2 p0.2.1.length c3) (B_m0.at.one (o:=1) rfl) ?_)))))))))
    refine dp 68 (iv x130) ?_
    obtain ⟨x134,hx134,hr⟩:=bind_some hr
    obtain ⟨b135,o136,eab135,i0x134,i1x134,csx134,p_b135,owx134⟩:=(f4.step hs).idx hx134
    obtain ⟨_,_,rfl,⟨rfl,hb137⟩,⟨_,_,rfl,⟨rfl,hb138⟩,⟨rfl,hb139⟩⟩⟩:=owx134
    replace p_b135:PubAt κ104 b135 (o136+x130.toNat*3) [iv x134.1,iv x134.2.1,iv x134.2.2]:=p_b135
    refine di 69 109 134 3 p0.2.1.length c3 .i64 x130 eab135 i0x134 i1x134 (dp 70 (pt b135 (o136+x130.toNat*3)) (d1 71 2 (iv x134.1) (p_b135.at.one (o:=0) rfl) (dp 72 (pt pb0 0) (dp 73 (pt pb0 0) (dp 74 (pt pb0 1) (d1 75 109 (sl a2 p0.2.1.length c3) (B_m0.at.one (o:=1) rfl) (dp 76 (iv x130) ?_)))))))
    obtain ⟨x140,hx140,hr⟩:=bind_some hr
    obtain ⟨b141,o142,eab141,i0x140,i1x140,csx140,p_b141,owx140⟩:=(f4.step hs).idx hx140
    obtain ⟨_,_,rfl,⟨rfl,hb143⟩,⟨_,_,rfl,⟨rfl,hb144⟩,⟨rfl,hb145⟩⟩⟩:=owx140
    replace p_b141:PubAt κ104 b141 (o142+x130.toNat*3) [iv x140.1,iv x140.2.1,iv x140.2.2]:=p_b141
    refine di 77 109 134 3 p0.2.1.length c3 .i64 x130 eab141 i0x140 i1x140 (dp 78 (pt b141 (o142+x130.toNat*3+1)) (d1 79 2 (iv x140.2.1) (p_b141.at.one (o:=1) rfl) (dp 80 (iv (w64 (x134.1+x140.2.1))) (dp 81 (iv x72) (de (op 82 (iv (w64 ((w64 (x134.1+x140.2.1)) - x72))) (op 12 (iv (w64 ((w64 (x134.1+x140.2.1)) - x72))) (otx (op 84 (pt pb0 0) ?_)))))))))
    refine op 85 (iv (w64 ((w64 (x134.1+x140.2.1)) - x72))) (op 86 (iv x130) ?_)
    obtain ⟨x146,hx146,hr⟩:=bind_some hr
    refine ocl 87 (zhf (p0:=(p0.1,(p0.2.1,(p0.2.2.1,sx103.2.2.2)))) B_m0 hb1 (f4.step hs) (f7.step hs) f87 (Nat.lt_of_lt_of_le lt_τ0_3 hs.1) (zq _) hb133 (ne_τ0_τ0_3) hx146) ?_
    rintro _ κ152 ⟨s153,a149,c150,rfl,hb147,hb148,NB_m0,f151,ow_f151⟩
    replace ow_f151:∀ g∈blk a149 c150,g∈([pb0]++blk a8 c9)∨κ.H.size≤g:=fun g hg=>(ow_f151 g hg).elim ((zeZ (zhQ (by simp)) ow_f87) g) (fun h=>.inr (Nat.le_trans hs.1 h))
    replace hs:=hs.trM (zeZ (zhQ (by simp)) ow_f87) s153
    replace f77:=f77.step s153 (zlz (f77.nb B_m0 (zlB (i:=117001) lt_τ0)) (f77.ng f87 (zlB (i:=117001) lt_τ0_3)))
    replace f81:=f81.step s153 (zlz (f81.nb B_m0 (zlB (i:=117003) lt_τ0)) (f81.ng f87 (zlB (i:=117003) lt_τ0_3)))
    replace B_m0:=NB_m0
    refine op 83 (.tuple #[iv x146.1,iv x146.2.1]) (op 88 (iv x146.1) (op 89 (iv x146.2.1) (op 13 (iv x146.1) (op 14 (iv x146.2.1) (ot ?_)))))
    refine zl (fun Z=>∀ (y154:Bool) (E0:Env),zaG x72 sx103 x134 x140 x146 y154=some yyx103→cwp Tryz.prog 112 (sub (zC Tryz.f117) [1,1,1,1,0,0,1,0,0,1,1,0,0,1,0,0,1,0,1,1,1,1,1]) Z (upd (upd (upd (upd (upd (upd (upd (upd (E0) 0 (pt pb0 0)) 5 (sl a78 sx103.1.length c79)) 7 (sl a82 sx103.2.1.length c83)) 8 (iv sx70.2.2.1)) 9 (iv x72)) 10 (iv sx103.2.2.1)) 12 (iv (w64 ((w64 (x134.1+x140.2.1)) - x72)))) 98 (.bool y154)) κ152) ?_ fun J5=>?_
    ·intro y154 E0 hr
     refine cc (y154) hr ?_ ?_
     ·intro hc hr
      refine csr (op 99 (sl a78 sx103.1.length c79) (op 100 (iv (w64 ((w64 (x134.1+x140.2.1)) - x72))) (op 101 (sl a78 sx103.1.length c79) (op 102 (iv x72) ?_))))
      obtain ⟨x155,hx155,hr⟩:=bind_some hr
      obtain ⟨b156,eab156,i0x155,i1x155,csx155,p_b156,owx155⟩:=f77.idx hx155
      obtain ⟨rfl,hb157⟩:=owx155
      replace p_b156:At κ152 b156 (0+x72.toNat*1) [iv x155]:=p_b156
      refine oi 103 95 2 1 sx103.1.length c79 .i64 x72 (off:=0) eab156 i0x155 i1x155 (o1 104 2 (iv x155) (p_b156.one (o:=0) rfl) (op 105 (iv (w64 (x155+1))) ?_))
      obtain ⟨x158,hx158,hr⟩:=bind_some hr
      obtain ⟨b159,eab159,i0x158,i1x158,csx158,p_b159,owx158⟩:=f77.idx hx158
      obtain ⟨rfl,hb160⟩:=owx158
      replace p_b159:At κ152 b159 (0+(w64 ((w64 (x134.1+x140.2.1)) - x72)).toNat*1) [iv x158]:=p_b159
      refine oi 106 95 2 1 sx103.1.length c79 .i64 (w64 ((w64 (x134.1+x140.2.1)) - x72)) (off:=0) eab159 i0x158 i1x158 ?_
      obtain ⟨x161,hx161,hr⟩:=bind_some hr
      refine zbu (T:=2) (t:=tI64) (τ:=(κ.H.size,117001)) (e:=2) (ix:=w64 ((w64 (x134.1+x140.2.1)) - x72)) (x':=w64 (x155+1)) (b:=b159) (δ:=0) (cp:=c79) (l:=sx103.1) (vs:=[iv (w64 (x155+1))]) (iv (w64 (x155+1))) kr kr eab159 f77 i0x158 i1x158 kr kr kr kr (fun cs hx=>by obtain ⟨x,_,ho⟩:=hx;rw [zat ((tI64.len ho).trans kr)];exact ⟨rfl,(zq _)⟩) fun κ162 s163 Nf77=>?_
      replace hs:=hs.trG (f77.own (Nat.le_refl _)) s163
      replace f81:=f81.step s163 (f81.ng f77 (zm (N:=κ.H.size) (M:=κ.H.size) (i:=117003) (j:=117001) kr))
      replace f151:=f151.step s163 (f151.ng f77 (zai (i:=117001) lt_τ0_3))
      replace B_m0:=B_m0.step s163 (f77.bn B_m0 (zai (i:=117001) lt_τ0))
      replace f77:=Nf77
      replace f77:=zeM hx161 f77
      have len_x161:=zS hx161
      refine zca (eA 12 (v:=iv (w64 ((w64 (x134.1+x140.2.1)) - x72))) (eA 10 (v:=iv sx103.2.2.1) (eA 9 (v:=iv x72) (eA 8 (v:=iv sx70.2.2.1) (eA 7 (v:=sl a82 sx103.2.1.length c83) (zc (t:=5) (v:=sl a78 x161.length c79) (eA 0 (v:=pt pb0 0) rfl) (by rw [len_x161];kernel_rfl))))))) (otr (op 107 (sl a82 sx103.2.1.length c83) (op 108 (iv (w64 ((w64 (x134.1+x140.2.1)) - x72))) (zO (d:=109) (T:=95) (e:=2) (t:=tI64) (pub:=true) (τ:=(κ.H.size,117004)) (len:=1) (l:=[w64 ((w64 (x134.1+x140.2.1)) - x72)]) (parts:=#[(0,iv (w64 ((w64 (x134.1+x140.2.1)) - x72)))]) (cs:=[iv (w64 ((w64 (x134.1+x140.2.1)) - x72))]) kr kr kr kr hs.1 rfl ⟨_,_,rfl,⟨rfl,(zq _)⟩,rfl⟩ kr fun a166 κ164 s165 f167=>?_))))
      replace hs:=hs.tr0 s165
      replace f77:=f77.step0 s165
      replace f81:=f81.step0 s165
      replace f151:=f151.step0 s165
      replace B_m0:=B_m0.step0 s165
      obtain ⟨x169,hx169,hr⟩:=bind_some hr
      refine zM (d:=110) (T:=95) (e:=2) (t:=tI64) (pub:=true) (τ:=(κ.H.size,117003)) (bytes:=8) (a:=a82) (cp:=c83) (l:=sx103.2.1) (a2:=a166) (c2:=1) (l2:=[w64 ((w64 (x134.1+x140.2.1)) - x72)]) kr kr f81 f167.sl hs.1 kr hx169 fun a172 c173 κ170 s171 f174 hw=>?_
      clear hw
      replace hs:=hs.trG (f81.own (Nat.le_refl _)) s171
      replace f77:=f77.step s171 (f77.ng f81 (zm (N:=κ.H.size) (M:=κ.H.size) (i:=117001) (j:=117003) kr))
      replace f151:=f151.step s171 (f151.ng f81 (zai (i:=117003) lt_τ0_3))
      replace B_m0:=B_m0.step s171 (f81.bn B_m0 (zai (i:=117003) lt_τ0))
      refine op 7 (sl a172 x169.length c173) (oe (zd (za ?_)))
      exact zk (eA 10 (eA 9 (eA 8 (eA 7 (eA 5 (eA 0 rfl)))))) (J4 x161 x169 x146.2.2.2.2.2 _ _ _ _ _ _ _ _ hs f77 f174 f151 ow_f151 B_m0 hr)
     intro hc hr
     refine ck (zd (za ?_))
     exact zk (eA 10 (eA 9 (eA 8 (eA 7 (eA 5 (eA 0 rfl)))))) (J4 sx103.1 sx103.2.1 x146.2.2.2.2.2 _ _ _ _ _ _ _ _ hs f77 f81 f151 ow_f151 B_m0 hr)
    refine csr (op 90 (sl a78 sx103.1.length c79) (op 91 (iv (w64 ((w64 (x134.1+x140.2.1)) - x72))) ?_))
    obtain ⟨x175,hx175,hr⟩:=bind_some hr
    obtain ⟨b176,eab176,i0x175,i1x175,csx175,p_b176,owx175⟩:=f77.idx hx175
    obtain ⟨rfl,hb177⟩:=owx175
    replace p_b176:At κ152 b176 (0+(w64 ((w64 (x134.1+x140.2.1)) - x72)).toNat*1) [iv x175]:=p_b176
    refine oi 92 95 2 1 sx103.1.length c79 .i64 (w64 ((w64 (x134.1+x140.2.1)) - x72)) (off:=0) eab176 i0x175 i1x175 (o1 93 2 (iv x175) (p_b176.one (o:=0) rfl) (op 94 (bW (x175<0)) ?_))
    refine osp 95 (decide (x175<0)) hr ?_ ?_
    ·intro hg hr
     refine os 96 (os 97 (op 98 (.bool false) (ot ?_)))
     exact zk (eA 98 (eA 12 (eA 10 (eA 9 (eA 8 (eA 7 (eA 5 (eA 0 rfl)))))))) (J5 false  _  hr)
    intro hg hr
    refine op 96 (iv x146.1) (op 97 (bW (x146.1>0)) (op 98 (bW (x146.1>0)) (ot ?_)))
    exact zk (eA 98 (eA 12 (eA 10 (eA 9 (eA 8 (eA 7 (eA 5 (eA 0 rfl)))))))) (J5 (decide (x146.1>0))  _  hr)
   intro hc hr
   refine cx 4 (zh ?_)
   have hx:=hdx103 _ (sj hr).symm
   subst hx
   replace hr:=hrx103
   refine zi ?_
   exact zr (eA 8 (eA 7 (eA 5 (eA 0 rfl)))) (J3 sx103.1 sx103.2.1 sx103.2.2.2 _ _ _ _ _ _ _ _ hs f77 f81 f87 ow_f87 B_m0 hr)
  intro hc hr
  refine cx 2 (zh ?_)
  have hx:=hdx70 _ (sj hr).symm
  subst hx
  replace hr:=hrx70
  refine zi ?_
  exact zr (eA 5 rfl) (J2 sx70.1 sx70.2.2.2 _ _ _ _ _ _ hs f46 f56 ow_f56 B_m0 hr)
 obtain ⟨x178,hx178,hrx178⟩:=bind_some hr
 refine zo (F:=zbe p0) (J:=fun (sx178:LI×Int) (E':Env) (κ':K)=>∃ (a25:OA) (c26:Nat),(∃ E0,E'=upd (upd (upd (upd (E0) 0 (pt pb0 0)) 1 (iv p1)) 5 (sl a25 sx178.1.length c26)) 6 (iv sx178.2))∧Step ([pb0]++blk a8 c9) κ κ'∧Gr tI64 false (κ.H.size,117001) κ' 2 a25 c26 sx178.1∧I64 sx178.2∧Gr tI64 false τ0_3 κ' 2 a8 c9 p0.2.2.2∧Box τ0 κ' pb0 [iv p0.1,sl a2 p0.2.1.length c3,sl a5 p0.2.2.1.length c6,sl a8 p0.2.2.2.length c9] 187) (s0:=([],0)) (x:=x178) kr hx178 ⟨_,_,⟨_,(eA 6 (eA 5 (eA 1 (eA 0 rfl))))⟩,hs,f21,(show I64 0 by unfold I64;omega),f10,B_m0⟩ ?_
 rintro sx178 _ κ179 ⟨a25,c26,⟨E0,rfl⟩,hs,f24,hb28,f10,B_m0⟩ yyx178 hr hdx178
 refine cs (csr (op 16 (iv sx178.2) (op 17 (pt pb0 0) (op 18 (pt pb0 0) (op 19 (pt pb0 0) (o1 20 2 (iv p0.1) (B_m0.at.one (o:=0) rfl) (op 21 (bW (sx178.2<p0.1)) (ot ?_))))))))
 refine cc (decide (sx178.2<p0.1)) hr ?_ ?_
 ·intro hc hr
  refine ckt (cs (cb 1 (cr (op 24 (sl a25 sx178.1.length c26) (zO (d:=25) (T:=95) (e:=2) (t:=tI64) (pub:=true) (τ:=(κ.H.size,117002)) (len:=1) (l:=[(-1)]) (parts:=#[(0,iv (-1))]) (cs:=[iv (-1)]) kr kr kr kr hs.1 rfl ⟨_,_,rfl,⟨rfl,(show I64 (-1) by unfold I64;omega)⟩,rfl⟩ kr fun a182 κ180 s181 f183=>?_)))))
  replace hs:=hs.tr0 s181
  replace f10:=f10.step0 s181
  replace f24:=f24.step0 s181
  replace B_m0:=B_m0.step0 s181
  obtain ⟨x185,hx185,hr⟩:=bind_some hr
  refine zM (d:=26) (T:=95) (e:=2) (t:=tI64) (pub:=false) (τ:=(κ.H.size,117001)) (bytes:=8) (a:=a25) (cp:=c26) (l:=sx178.1) (a2:=a182) (c2:=1) (l2:=[(-1)]) kr kr f24 f183.sl hs.1 kr hx185 fun a188 c189 κ186 s187 f190 hw=>?_
  clear hw
  replace hs:=hs.trG (f24.own (Nat.le_refl _)) s187
  replace f10:=f10.step s187 (f10.ng f24 (zai (i:=117001) lt_τ0_3))
  replace B_m0:=B_m0.step s187 (f24.bn B_m0 (zai (i:=117001) lt_τ0))
  refine op 5 (sl a188 x185.length c189) (oe (zd (za (cr (op 22 (iv sx178.2) (op 23 (iv (w64 (sx178.2+1))) (op 6 (iv (w64 (sx178.2+1))) (oe ?_))))))))
  exact ze (sj hr).symm ⟨_,_,⟨_,(eA 6 (eA 5 (eA 1 (eA 0 rfl))))⟩,hs,f190,(zq _),f10,B_m0⟩
 intro hc hr
 refine cx 0 (zh ?_)
 have hx:=hdx178 _ (sj hr).symm
 subst hx
 replace hr:=hrx178
 refine zi ?_
 exact zr (eA 5 (eA 1 (eA 0 rfl))) (J1 sx178.1 _ _ _ _ hs f24 f10 B_m0 hr)
theorem zkb {κ:K} {p0:Int×LB×LM×LI} {pb0:Nat} {τ0:Tag} {a2:OA} {c3:Nat} {a5:OA} {c6:Nat} {a8:OA} {c9:Nat} {τ0_3:Tag} {p1:Int} {p2:Int} (B_m0:Box τ0 κ pb0 [iv p0.1,sl a2 p0.2.1.length c3,sl a5 p0.2.2.1.length c6,sl a8 p0.2.2.2.length c9] 187) (hb1:I64 p0.1) (f4:Sl zR κ a2 c3 p0.2.1) (f7:Sl (tSl tI64) κ a5 c6 p0.2.2.1) (f10:Gr tI64 false τ0_3 κ 2 a8 c9 p0.2.2.2) (lt_τ0_3:τ0_3.1<κ.H.size) (hb11:I64 p1) (hb12:I64 p2) (ne_τ0_τ0_3:τ0≠τ0_3) {r:(Int×LB×LM×LI)} (hr:zer p0 p1 p2=some r) :
 Fn Tryz.prog 143 #[pt pb0 0,iv p1,iv p2] κ (fun v κ'=>Step ([pb0]++blk a8 c9) κ κ'∧∃ (a13:OA) (c14:Nat),v=.tuple #[]∧Box τ0 κ' pb0 [iv p0.1,sl a2 p0.2.1.length c3,sl a5 p0.2.2.1.length c6,sl a13 r.2.2.2.length c14] 187∧Gr tI64 false τ0_3 κ' 2 a13 c14 r.2.2.2∧(∀ g∈blk a13 c14,g∈([pb0]++blk a8 c9)∨κ.H.size≤g)):=by
 refine fnc 34 ([pb0]++blk a8 c9) Tryz.func143 Tryz.ntmps143 fun hs=>?_
 have lt_τ0:=B_m0.tlt
 have ne_τ0_3_τ0:=ne_τ0_τ0_3.symm
 have ow_f10:∀ g∈blk a8 c9,g∈([pb0]++blk a8 c9)∨κ.H.size≤g:=fun g hg=>.inl (by simp [hg])
 refine csr (op 6 (pt pb0 0) (op 7 (pt pb0 0) (op 8 (pt pb0 1) (o1 9 109 (sl a2 p0.2.1.length c3) (B_m0.at.one (o:=1) rfl) (op 10 (iv p2) ?_)))))
 obtain ⟨x16,hx16,hr⟩:=bind_some hr
 obtain ⟨b17,o18,eab17,i0x16,i1x16,csx16,p_b17,owx16⟩:=f4.idx hx16
 obtain ⟨_,_,rfl,⟨rfl,hb19⟩,⟨_,_,rfl,⟨rfl,hb20⟩,⟨rfl,hb21⟩⟩⟩:=owx16
 replace p_b17:PubAt κ b17 (o18+p2.toNat*3) [iv x16.1,iv x16.2.1,iv x16.2.2]:=p_b17
 refine oi 11 109 134 3 p0.2.1.length c3 .i64 p2 eab17 i0x16 i1x16 (op 12 (pt b17 (o18+p2.toNat*3)) (o1 13 2 (iv x16.1) (p_b17.at.one (o:=0) rfl) (op 14 (iv p1) (op 15 (bW (x16.1=p1)) (ot ?_)))))
 refine cc (decide (x16.1=p1)) hr ?_ ?_
 ·intro hc hr
  refine cr (op 16 (pt pb0 0) (op 17 (pt pb0 0) (op 18 (pt pb0 3) (o1 19 95 (sl a8 p0.2.2.2.length c9) (B_m0.at.one (o:=3) rfl) (op 20 (iv p2) ?_)))))
  obtain ⟨x22,hx22,hr⟩:=bind_some hr
  obtain ⟨b23,eab23,i0x22,i1x22,csx22,p_b23,owx22⟩:=f10.idx hx22
  obtain ⟨rfl,hb24⟩:=owx22
  replace p_b23:At κ b23 (0+p2.toNat*1) [iv x22]:=p_b23
  refine oi 21 95 2 1 p0.2.2.2.length c9 .i64 p2 (off:=0) eab23 i0x22 i1x22 (o1 22 2 (iv x22) (p_b23.one (o:=0) rfl) (op 23 (iv (w64 (x22+1))) ?_))
  obtain ⟨x25,hx25,hr⟩:=bind_some hr
  obtain ⟨b26,eab26,i0x25,i1x25,csx25,p_b26,owx25⟩:=f10.idx hx25
  obtain ⟨rfl,hb27⟩:=owx25
  replace p_b26:At κ b26 (0+p2.toNat*1) [iv x25]:=p_b26
  refine oi 24 95 2 1 p0.2.2.2.length c9 .i64 p2 (off:=0) eab26 i0x25 i1x25 ?_
  obtain ⟨x28,hx28,hr⟩:=bind_some hr
  refine zbu (T:=2) (t:=tI64) (τ:=τ0_3) (e:=2) (ix:=p2) (x':=w64 (x22+1)) (b:=b26) (δ:=0) (cp:=c9) (l:=p0.2.2.2) (vs:=[iv (w64 (x22+1))]) (iv (w64 (x22+1))) kr kr eab26 f10 i0x25 i1x25 kr kr kr kr (fun cs hx=>by obtain ⟨x,_,ho⟩:=hx;rw [zat ((tI64.len ho).trans kr)];exact ⟨rfl,(zq _)⟩) fun κ29 s30 Nf10=>?_
  replace hs:=hs.trM ow_f10 s30
  replace B_m0:=B_m0.step s30 (f10.bn B_m0 (ne_τ0_τ0_3))
  replace f10:=Nf10
  replace f10:=zeM hx28 f10
  have len_x28:=zS hx28
  replace B_m0:Box τ0 κ29 pb0 [iv p0.1,sl a2 p0.2.1.length c3,sl a5 p0.2.2.1.length c6,sl a8 x28.length c9] 187:=by rw [len_x28];exact B_m0
  refine oe ?_
  obtain rfl:=sj hr
  refine rn [] [] trivial ?_
  exact ⟨hs,_,_,rfl,B_m0,f10,ow_f10⟩
 intro hc hr
 refine cr (op 25 (pt pb0 0) (op 26 (pt pb0 0) (op 27 (pt pb0 3) (o1 28 95 (sl a8 p0.2.2.2.length c9) (B_m0.at.one (o:=3) rfl) (op 29 (iv p2) ?_)))))
 obtain ⟨x31,hx31,hr⟩:=bind_some hr
 obtain ⟨b32,eab32,i0x31,i1x31,csx31,p_b32,owx31⟩:=f10.idx hx31
 obtain ⟨rfl,hb33⟩:=owx31
 replace p_b32:At κ b32 (0+p2.toNat*1) [iv x31]:=p_b32
 refine oi 30 95 2 1 p0.2.2.2.length c9 .i64 p2 (off:=0) eab32 i0x31 i1x31 (o1 31 2 (iv x31) (p_b32.one (o:=0) rfl) (op 32 (iv (w64 (x31 - 1))) ?_))
 obtain ⟨x34,hx34,hr⟩:=bind_some hr
 obtain ⟨b35,eab35,i0x34,i1x34,csx34,p_b35,owx34⟩:=f10.idx hx34
 obtain ⟨rfl,hb36⟩:=owx34
 replace p_b35:At κ b35 (0+p2.toNat*1) [iv x34]:=p_b35
 refine oi 33 95 2 1 p0.2.2.2.length c9 .i64 p2 (off:=0) eab35 i0x34 i1x34 ?_
 obtain ⟨x37,hx37,hr⟩:=bind_some hr
 refine zbu (T:=2) (t:=tI64) (τ:=τ0_3) (e:=2) (ix:=p2) (x':=w64 (x31 - 1)) (b:=b35) (δ:=0) (cp:=c9) (l:=p0.2.2.2) (vs:=[iv (w64 (x31 - 1))]) (iv (w64 (x31 - 1))) kr kr eab35 f10 i0x34 i1x34 kr kr kr kr (fun cs hx=>by obtain ⟨x,_,ho⟩:=hx;rw [zat ((tI64.len ho).trans kr)];exact ⟨rfl,(zq _)⟩) fun κ38 s39 Nf10=>?_
 replace hs:=hs.trM ow_f10 s39
 replace B_m0:=B_m0.step s39 (f10.bn B_m0 (ne_τ0_τ0_3))
 replace f10:=Nf10
 replace f10:=zeM hx37 f10
 have len_x37:=zS hx37
 replace B_m0:Box τ0 κ38 pb0 [iv p0.1,sl a2 p0.2.1.length c3,sl a5 p0.2.2.1.length c6,sl a8 x37.length c9] 187:=by rw [len_x37];exact B_m0
 refine oe ?_
 obtain rfl:=sj hr
 refine rn [] [] trivial ?_
 exact ⟨hs,_,_,rfl,B_m0,f10,ow_f10⟩
theorem zkc {κ:K} {p0:Int×LB×LM×LI} {pb0:Nat} {τ0:Tag} {a2:OA} {c3:Nat} {a5:OA} {c6:Nat} {a8:OA} {c9:Nat} {τ0_3:Tag} {p1:Int} {p2:Int} (B_m0:Box τ0 κ pb0 [iv p0.1,sl a2 p0.2.1.length c3,sl a5 p0.2.2.1.length c6,sl a8 p0.2.2.2.length c9] 187) (hb1:I64 p0.1) (f4:Sl zR κ a2 c3 p0.2.1) (f7:Sl (tSl tI64) κ a5 c6 p0.2.2.1) (f10:Gr tI64 false τ0_3 κ 2 a8 c9 p0.2.2.2) (lt_τ0_3:τ0_3.1<κ.H.size) (hb11:I64 p1) (hb12:I64 p2) (ne_τ0_τ0_3:τ0≠τ0_3) {r:Bool×(Int×LB×LM×LI)} (hr:zcU p0 p1 p2=some r) :
 Fn Tryz.prog 116 #[pt pb0 0,iv p1,iv p2] κ (fun v κ'=>Step ([pb0]++blk a8 c9) κ κ'∧∃ (a13:OA) (c14:Nat),v=.bool r.1∧Box τ0 κ' pb0 [iv p0.1,sl a2 p0.2.1.length c3,sl a5 p0.2.2.1.length c6,sl a13 r.2.2.2.2.length c14] 187∧Gr tI64 false τ0_3 κ' 2 a13 c14 r.2.2.2.2∧(∀ g∈blk a13 c14,g∈([pb0]++blk a8 c9)∨κ.H.size≤g)):=by
 refine fnc 93 ([pb0]++blk a8 c9) Tryz.func116 Tryz.ntmps116 fun hs=>?_
 have lt_τ0:=B_m0.tlt
 have ne_τ0_3_τ0:=ne_τ0_τ0_3.symm
 have ow_f10:∀ g∈blk a8 c9,g∈([pb0]++blk a8 c9)∨κ.H.size≤g:=fun g hg=>.inl (by simp [hg])
 refine csr (op 6 (.bool false) (otx (op 14 (pt pb0 0) (op 15 (iv p2) ?_))))
 obtain ⟨x16,hx16,hr⟩:=bind_some hr
 refine ocl 16 (zgS (p0:=p0) B_m0 hb1 f4 f7 f10 (Nat.lt_of_lt_of_le lt_τ0_3 hs.1) hb12 (ne_τ0_τ0_3) hx16) ?_
 rintro _ κ23 ⟨s24,a17,c18,a20,c21,rfl,f19,NB_m0,f22,ow_f22⟩
 replace ow_f22:∀ g∈blk a20 c21,g∈([pb0]++blk a8 c9)∨κ.H.size≤g:=fun g hg=>(ow_f22 g hg).elim ((zeZ (zhQ (by simp)) ow_f10) g) (fun h=>.inr (Nat.le_trans hs.1 h))
 replace hs:=hs.trM (zeZ (zhQ (by simp)) ow_f10) s24
 replace B_m0:=NB_m0
 refine op 7 (sl a17 x16.1.length c18) (ot (cs (csr (op 17 (sl a17 x16.1.length c18) (op 18 (iv p1) ?_)))))
 obtain ⟨x25,hx25,hr⟩:=bind_some hr
 obtain ⟨b26,o27,eab26,i0x25,i1x25,csx25,p_b26,owx25⟩:=f19.idx hx25
 obtain ⟨rfl,hb28⟩:=owx25
 replace p_b26:PubAt κ23 b26 (o27+p1.toNat*1) [iv x25]:=p_b26
 refine oi 19 95 2 1 x16.1.length c18 .i64 p1 eab26 i0x25 i1x25 (o1 20 2 (iv x25) (p_b26.at.one (o:=0) rfl) (op 21 (bW (x25<0)) (ot ?_)))
 refine cc (decide (x25<0)) hr ?_ ?_
 ·intro hc hr
  refine csr (op 6 (.bool false) (ot (crt (zb ?_))))
  obtain rfl:=sj hr
  refine rt [.tmp 6] [.bool false] ⟨rfl,trivial⟩ ?_
  exact ⟨hs,_,_,rfl,B_m0,f22,ow_f22⟩
 intro hc hr
 refine ckt (cs (csr (op 22 (iv p1) (op 8 (iv p1) (ot (cb 0 ?_))))))
 refine zj 0 (fun Z=>∀ (y35:LI) (a37:OA) (c38:Nat) (E0:Env) (κ39:K) (hs:Step ([pb0]++blk a8 c9) κ κ39) (f36:Gr tI64 false τ0_3 κ39 2 a37 c38 y35) (ow_f36:(∀ g∈blk a37 c38,g∈([pb0]++blk a8 c9)∨κ.H.size≤g)) (B_m0:Box τ0 κ39 pb0 [iv p0.1,sl a2 p0.2.1.length c3,sl a5 p0.2.2.1.length c6,sl a37 y35.length c38] 187),zhg p0 y35=some r→Z (E0) κ39) ?_ fun J1=>?_
 ·intro y35 a37 c38 E0 κ39 hs f36 ow_f36 B_m0 hr
  refine zg (za (csr (op 6 (.bool true) (ot (crt ?_)))))
  obtain rfl:=sj hr
  refine rt [.tmp 6] [.bool true] ⟨rfl,trivial⟩ ?_
  exact ⟨hs,_,_,rfl,B_m0,f36,ow_f36⟩
 obtain ⟨x40,hx40,hrx40⟩:=bind_some hr
 refine zo (F:=zbE p0 p2 x16) (J:=fun (sx40:Int×LI) (E':Env) (κ':K)=>∃ (a33:OA) (c34:Nat),(∃ E0,E'=upd (upd (upd (upd (E0) 0 (pt pb0 0)) 2 (iv p2)) 7 (sl a17 x16.1.length c18)) 8 (iv sx40.1))∧Step ([pb0]++blk a8 c9) κ κ'∧I64 sx40.1∧Gr tI64 false τ0_3 κ' 2 a33 c34 sx40.2∧(∀ g∈blk a33 c34,g∈([pb0]++blk a8 c9)∨κ.H.size≤g)∧Sl tI64 κ' a17 c18 x16.1∧Box τ0 κ' pb0 [iv p0.1,sl a2 p0.2.1.length c3,sl a5 p0.2.2.1.length c6,sl a33 sx40.2.length c34] 187) (s0:=(p1,x16.2.2.2.2)) (x:=x40) kr hx40 ⟨_,_,⟨_,(eA 8 (eA 7 (eA 2 (eA 0 rfl))))⟩,hs,hb11,f22,ow_f22,f19,B_m0⟩ ?_
 rintro sx40 _ κ41 ⟨a33,c34,⟨E0,rfl⟩,hs,hb30,f32,ow_f32,f19,B_m0⟩ yyx40 hr hdx40
 refine cs (csr (op 23 (iv sx40.1) (op 24 (iv p2) (op 25 (.bool (!decide (sx40.1=p2))) (ot ?_)))))
 refine cc (!decide (sx40.1=p2)) hr ?_ ?_
 ·intro hc hr
  refine ckt (cb 1 (csr (op 9 (iv (-1)) (otx (op 10 (iv 0) (ot (cs (csr (op 11 (iv 0) ?_)))))))))
  refine ot (cb 2 ?_)
  refine zj 2 (fun Z=>∀ (y52:Int) (y54:Int) (y56:LI) (a58:OA) (c59:Nat) (E0:Env) (κ60:K) (hs:Step ([pb0]++blk a8 c9) κ κ60) (hb53:I64 y52) (hb55:I64 y54) (f57:Gr tI64 false τ0_3 κ60 2 a58 c59 y56) (ow_f57:(∀ g∈blk a58 c59,g∈([pb0]++blk a8 c9)∨κ.H.size≤g)) (f19:Sl tI64 κ60 a17 c18 x16.1) (B_m0:Box τ0 κ60 pb0 [iv p0.1,sl a2 p0.2.1.length c3,sl a5 p0.2.2.1.length c6,sl a58 y56.length c59] 187),zeL p0 sx40 y52 y54 y56=some yyx40→Z (upd (upd (upd (upd (upd (upd (E0) 0 (pt pb0 0)) 2 (iv p2)) 7 (sl a17 x16.1.length c18)) 8 (iv sx40.1)) 9 (iv y52)) 10 (iv y54)) κ60) ?_ fun J2=>?_
  ·intro y52 y54 y56 a58 c59 E0 κ60 hs hb53 hb55 f57 ow_f57 f19 B_m0 hr
   refine zg (za (csr (op 88 (pt pb0 0) (op 89 (iv sx40.1) (op 90 (iv y54) ?_)))))
   obtain ⟨x61,hx61,hr⟩:=bind_some hr
   refine ocl 91 (zkb (p0:=(p0.1,(p0.2.1,(p0.2.2.1,y56)))) B_m0 hb1 (f4.step hs) (f7.step hs) f57 (Nat.lt_of_lt_of_le lt_τ0_3 hs.1) hb30 hb55 (ne_τ0_τ0_3) hx61) ?_
   rintro _ κ65 ⟨s66,a62,c63,rfl,NB_m0,f64,ow_f64⟩
   replace ow_f64:∀ g∈blk a62 c63,g∈([pb0]++blk a8 c9)∨κ.H.size≤g:=fun g hg=>(ow_f64 g hg).elim ((zeZ (zhQ (by simp)) ow_f57) g) (fun h=>.inr (Nat.le_trans hs.1 h))
   replace hs:=hs.trM (zeZ (zhQ (by simp)) ow_f57) s66
   replace f19:=f19.step s66
   replace B_m0:=NB_m0
   refine otr (op 92 (iv y52) (op 8 (iv y52) (oe (zd ?_))))
   exact ze (sj hr).symm ⟨_,_,⟨_,(eA 8 (eA 7 (eA 2 (eA 0 rfl))))⟩,hs,hb53,f64,ow_f64,f19,B_m0⟩
  obtain ⟨x67,hx67,hrx67⟩:=bind_some hr
  refine zo (F:=zbD p0 x16 sx40) (J:=fun (sx67:Int×Int×Int×LI) (E':Env) (κ':K)=>∃ (a50:OA) (c51:Nat),(∃ E0,E'=upd (upd (upd (upd (upd (upd (upd (E0) 0 (pt pb0 0)) 2 (iv p2)) 7 (sl a17 x16.1.length c18)) 8 (iv sx40.1)) 9 (iv sx67.1)) 10 (iv sx67.2.1)) 11 (iv sx67.2.2.1))∧Step ([pb0]++blk a8 c9) κ κ'∧I64 sx67.1∧I64 sx67.2.1∧I64 sx67.2.2.1∧Gr tI64 false τ0_3 κ' 2 a50 c51 sx67.2.2.2∧(∀ g∈blk a50 c51,g∈([pb0]++blk a8 c9)∨κ.H.size≤g)∧Sl tI64 κ' a17 c18 x16.1∧Box τ0 κ' pb0 [iv p0.1,sl a2 p0.2.1.length c3,sl a5 p0.2.2.1.length c6,sl a50 sx67.2.2.2.length c51] 187) (s0:=((-1),0,0,sx40.2)) (x:=x67) kr hx67 ⟨_,_,⟨_,(eA 11 (eA 10 (eA 9 (eA 8 (eA 7 (eA 2 (eA 0 rfl)))))))⟩,hs,(show I64 (-1) by unfold I64;omega),(show I64 0 by unfold I64;omega),(show I64 0 by unfold I64;omega),f32,ow_f32,f19,B_m0⟩ ?_
  rintro sx67 _ κ68 ⟨a50,c51,⟨E0,rfl⟩,hs,hb43,hb45,hb47,f49,ow_f49,f19,B_m0⟩ yyx67 hr hdx67
  refine cs (csr (op 26 (iv sx67.2.2.1) (op 27 (pt pb0 0) (op 28 (pt pb0 0) (op 29 (pt pb0 2) (o1 30 135 (sl a5 p0.2.2.1.length c6) (B_m0.at.one (o:=2) rfl) (op 31 (iv sx40.1) ?_)))))))
  obtain ⟨x69,hx69,hr⟩:=bind_some hr
  obtain ⟨b70,o71,eab70,i0x69,i1x69,csx69,p_b70,owx69⟩:=(f7.step hs).idx hx69
  obtain ⟨a72,c73,rfl,f74⟩:=owx69
  replace p_b70:PubAt κ68 b70 (o71+sx40.1.toNat*1) [sl a72 x69.length c73]:=p_b70
  refine oi 32 135 95 1 p0.2.2.1.length c6 .i64 sx40.1 eab70 i0x69 i1x69 (o1 33 95 (sl a72 x69.length c73) (p_b70.at.one (o:=0) rfl) (op 34 (iv (x69.length:Int)) (op 35 (bW (sx67.2.2.1<(x69.length:Int))) (ot ?_))))
  refine cc (decide (sx67.2.2.1<(x69.length:Int))) hr ?_ ?_
  ·intro hc hr
   refine ckt ?_
   refine zl (fun Z=>∀ (y75:Int) (y77:Int) (y79:LI) (a81:OA) (c82:Nat) (E0:Env) (κ83:K) (hs:Step ([pb0]++blk a8 c9) κ κ83) (hb76:I64 y75) (hb78:I64 y77) (f80:Gr tI64 false τ0_3 κ83 2 a81 c82 y79) (ow_f80:(∀ g∈blk a81 c82,g∈([pb0]++blk a8 c9)∨κ.H.size≤g)) (f19:Sl tI64 κ83 a17 c18 x16.1) (B_m0:Box τ0 κ83 pb0 [iv p0.1,sl a2 p0.2.1.length c3,sl a5 p0.2.2.1.length c6,sl a81 y79.length c82] 187),zbF sx67 y75 y77 y79=some yyx67→cwp Tryz.prog 93 (sub (zC Tryz.f116) [1,1,0,0,1,0,1,1,0,1,0,0,1,0,1,1,1]) Z (upd (upd (upd (upd (upd (upd (upd (E0) 0 (pt pb0 0)) 2 (iv p2)) 7 (sl a17 x16.1.length c18)) 8 (iv sx40.1)) 9 (iv y75)) 10 (iv y77)) 11 (iv sx67.2.2.1)) κ83) ?_ fun J3=>?_
   ·intro y75 y77 y79 a81 c82 E0 κ83 hs hb76 hb78 f80 ow_f80 f19 B_m0 hr
    refine cr (op 36 (iv sx67.2.2.1) (op 37 (iv (w64 (sx67.2.2.1+1))) (op 11 (iv (w64 (sx67.2.2.1+1))) (oe ?_))))
    exact ze (sj hr).symm ⟨_,_,⟨_,(eA 11 (eA 10 (eA 9 (eA 8 (eA 7 (eA 2 (eA 0 rfl)))))))⟩,hs,hb76,hb78,(zq _),f80,ow_f80,f19,B_m0⟩
   refine cs (cb 3 (csr (op 39 (pt pb0 0) (op 40 (iv sx40.1) (op 41 (pt pb0 0) (op 42 (pt pb0 0) (op 43 (pt pb0 2) (o1 44 135 (sl a5 p0.2.2.1.length c6) (B_m0.at.one (o:=2) rfl) (op 45 (iv sx40.1) ?_)))))))))
   obtain ⟨x84,hx84,hr⟩:=bind_some hr
   have eqx84:x69=x84:=sj (hx69.symm.trans hx84);subst eqx84
   have hx84q:=hx84
   obtain ⟨b85,o86,eab85,i0x84,i1x84,csx84,p_b85,owx84⟩:=(f7.step hs).idx hx84
   obtain ⟨a87,c88,rfl,f89⟩:=owx84
   replace p_b85:PubAt κ68 b85 (o86+sx40.1.toNat*1) [sl a87 x69.length c88]:=p_b85
   refine oi 46 135 95 1 p0.2.2.1.length c6 .i64 sx40.1 eab85 i0x84 i1x84 (o1 47 95 (sl a87 x69.length c88) (p_b85.at.one (o:=0) rfl) (op 48 (iv sx67.2.2.1) ?_))
   obtain ⟨x90,hx90,hr⟩:=bind_some hr
   obtain ⟨b91,o92,eab91,i0x90,i1x90,csx90,p_b91,owx90⟩:=f89.idx hx90
   obtain ⟨rfl,hb93⟩:=owx90
   replace p_b91:PubAt κ68 b91 (o92+sx67.2.2.1.toNat*1) [iv x90]:=p_b91
   refine oi 49 95 2 1 x69.length c88 .i64 sx67.2.2.1 eab91 i0x90 i1x90 (o1 50 2 (iv x90) (p_b91.at.one (o:=0) rfl) ?_)
   obtain ⟨x94,hx94,hr⟩:=bind_some hr
   refine ocl 51 (zhf (p0:=(p0.1,(p0.2.1,(p0.2.2.1,sx67.2.2.2)))) B_m0 hb1 (f4.step hs) (f7.step hs) f49 (Nat.lt_of_lt_of_le lt_τ0_3 hs.1) hb30 hb93 (ne_τ0_τ0_3) hx94) ?_
   rintro _ κ100 ⟨s101,a97,c98,rfl,hb95,hb96,NB_m0,f99,ow_f99⟩
   replace ow_f99:∀ g∈blk a97 c98,g∈([pb0]++blk a8 c9)∨κ.H.size≤g:=fun g hg=>(ow_f99 g hg).elim ((zeZ (zhQ (by simp)) ow_f49) g) (fun h=>.inr (Nat.le_trans hs.1 h))
   replace hs:=hs.trM (zeZ (zhQ (by simp)) ow_f49) s101
   replace f19:=f19.step s101
   replace B_m0:=NB_m0
   refine op 38 (.tuple #[iv x94.1,iv x94.2.1]) (op 52 (iv x94.1) (op 53 (iv x94.2.1) (op 12 (iv x94.1) (op 13 (iv x94.2.1) (ot ?_)))))
   refine zl (fun Z=>∀ (y102:Bool) (E0:Env),zW p0 sx40 sx67 x69 x90 x94 y102=some yyx67→cwp Tryz.prog 93 (sub (zC Tryz.f116) [1,1,0,0,1,0,0,1,0,1,1,0,1,0,0,1,0,1,1,1]) Z (upd (upd (upd (upd (upd (upd (upd (upd (upd (E0) 0 (pt pb0 0)) 2 (iv p2)) 7 (sl a17 x16.1.length c18)) 8 (iv sx40.1)) 9 (iv sx67.1)) 10 (iv sx67.2.1)) 11 (iv sx67.2.2.1)) 13 (iv x94.2.1)) 76 (.bool y102)) κ100) ?_ fun J4=>?_
   ·intro y102 E0 hr
    refine cc (y102) hr ?_ ?_
    ·intro hc hr
     refine csr (op 77 (iv x94.2.1) (op 9 (iv x94.2.1) (otr (op 78 (pt pb0 0) (op 79 (pt pb0 0) (op 80 (pt pb0 2) (o1 81 135 (sl a5 p0.2.2.1.length c6) (B_m0.at.one (o:=2) rfl) (op 82 (iv sx40.1) ?_))))))))
     obtain ⟨x103,hx103,hr⟩:=bind_some hr
     have eqx103:x69=x103:=sj (hx69.symm.trans hx103);subst eqx103
     have hx103q:=hx103
     obtain ⟨b104,o105,eab104,i0x103,i1x103,csx103,p_b104,owx103⟩:=(f7.step hs).idx hx103
     obtain ⟨a106,c107,rfl,f108⟩:=owx103
     replace p_b104:PubAt κ100 b104 (o105+sx40.1.toNat*1) [sl a106 x69.length c107]:=p_b104
     refine oi 83 135 95 1 p0.2.2.1.length c6 .i64 sx40.1 eab104 i0x103 i1x103 (o1 84 95 (sl a106 x69.length c107) (p_b104.at.one (o:=0) rfl) (op 85 (iv sx67.2.2.1) ?_))
     obtain ⟨x109,hx109,hr⟩:=bind_some hr
     have eqx109:x90=x109:=sj (hx90.symm.trans hx109);subst eqx109
     have hx109q:=hx109
     obtain ⟨b110,o111,eab110,i0x109,i1x109,csx109,p_b110,owx109⟩:=f108.idx hx109
     obtain ⟨rfl,hb112⟩:=owx109
     replace p_b110:PubAt κ100 b110 (o111+sx67.2.2.1.toNat*1) [iv x90]:=p_b110
     refine oi 86 95 2 1 x69.length c107 .i64 sx67.2.2.1 eab110 i0x109 i1x109 (o1 87 2 (iv x90) (p_b110.at.one (o:=0) rfl) (op 10 (iv x90) (oe (zd (za ?_)))))
     exact zk (eA 11 (eA 10 (eA 9 (eA 8 (eA 7 (eA 2 (eA 0 rfl))))))) (J3 x94.2.1 x90 x94.2.2.2.2.2 _ _ _ _ hs hb96 hb112 f99 ow_f99 f19 B_m0 hr)
    intro hc hr
    refine ck (zd (za ?_))
    exact zk (eA 11 (eA 10 (eA 9 (eA 8 (eA 7 (eA 2 (eA 0 rfl))))))) (J3 sx67.1 sx67.2.1 x94.2.2.2.2.2 _ _ _ _ hs hb43 hb45 f99 ow_f99 f19 B_m0 hr)
   refine cs (cd 20 (dp 54 (iv x94.1) (dp 55 (bW (x94.1>0)) ?_)))
   refine dsp 56 (decide (x94.1>0)) hr ?_ ?_
   ·intro hg hr
    refine ds 57 (ds 58 (ds 59 (ds 60 (ds 61 (ds 62 (ds 63 (ds 64 (ds 65 (ds 66 ?_)))))))))
    refine dp 67 (.bool false) (dp 68 (.bool false) (ds 69 (ds 70 (ds 71 (ds 72 (ds 73 (de (os 74 (os 75 ?_)))))))))
    refine op 76 (.bool false) (ot ?_)
    exact zk (eA 76 (eA 13 (eA 11 (eA 10 (eA 9 (eA 8 (eA 7 (eA 2 (eA 0 rfl))))))))) (J4 false  _  hr)
   intro hg hr
   refine dp 57 (sl a17 x16.1.length c18) (dp 58 (iv x94.2.1) ?_)
   obtain ⟨x113,hx113,hr⟩:=bind_some hr
   obtain ⟨b114,o115,eab114,i0x113,i1x113,csx113,p_b114,owx113⟩:=f19.idx hx113
   obtain ⟨rfl,hb116⟩:=owx113
   replace p_b114:PubAt κ100 b114 (o115+x94.2.1.toNat*1) [iv x113]:=p_b114
   refine di 59 95 2 1 x16.1.length c18 .i64 x94.2.1 eab114 i0x113 i1x113 (d1 60 2 (iv x113) (p_b114.at.one (o:=0) rfl) (dp 61 (sl a17 x16.1.length c18) (dp 62 (iv sx40.1) ?_)))
   obtain ⟨x117,hx117,hr⟩:=bind_some hr
   obtain ⟨b118,o119,eab118,i0x117,i1x117,csx117,p_b118,owx117⟩:=f19.idx hx117
   obtain ⟨rfl,hb120⟩:=owx117
   replace p_b118:PubAt κ100 b118 (o119+sx40.1.toNat*1) [iv x117]:=p_b118
   refine di 63 95 2 1 x16.1.length c18 .i64 sx40.1 eab118 i0x117 i1x117 (d1 64 2 (iv x117) (p_b118.at.one (o:=0) rfl) (dp 65 (iv (w64 (x117 - 1))) (dp 66 (bW (x113=(w64 (x117 - 1)))) (dp 67 (bW (x113=(w64 (x117 - 1)))) ?_))))
   refine dsp 68 (decide (x113=(w64 (x117 - 1)))) hr ?_ ?_
   ·intro hg hr
    refine ds 69 (ds 70 (ds 71 (ds 72 (ds 73 (de (os 74 (os 75 (op 76 (.bool false) (ot ?_)))))))))
    exact zk (eA 76 (eA 13 (eA 11 (eA 10 (eA 9 (eA 8 (eA 7 (eA 2 (eA 0 rfl))))))))) (J4 false  _  hr)
   intro hg hr
   refine dp 69 (iv sx67.1) (dp 70 (bW (sx67.1<0)) ?_)
   refine dsp 71 (decide (sx67.1<0)) hr ?_ ?_
   ·intro hg hr
    refine dp 72 (iv x94.2.1) (dp 73 (iv sx67.1) (de (op 74 (bW (x94.2.1<sx67.1)) (op 75 (bW (x94.2.1<sx67.1)) (op 76 (bW (x94.2.1<sx67.1)) (ot ?_))))))
    exact zk (eA 76 (eA 13 (eA 11 (eA 10 (eA 9 (eA 8 (eA 7 (eA 2 (eA 0 rfl))))))))) (J4 (decide (x94.2.1<sx67.1))  _  hr)
   intro hg hr
   refine ds 72 (ds 73 (de (os 74 (op 75 (.bool true) (op 76 (.bool true) (ot ?_))))))
   exact zk (eA 76 (eA 13 (eA 11 (eA 10 (eA 9 (eA 8 (eA 7 (eA 2 (eA 0 rfl))))))))) (J4 true  _  hr)
  intro hc hr
  refine cx 2 (zh ?_)
  have hx:=hdx67 _ (sj hr).symm
  subst hx
  replace hr:=hrx67
  refine zi ?_
  exact zr (eA 10 (eA 9 (eA 8 (eA 7 (eA 2 (eA 0 rfl)))))) (J2 sx67.1 sx67.2.1 sx67.2.2.2 _ _ _ _ hs hb43 hb45 f49 ow_f49 f19 B_m0 hr)
 intro hc hr
 refine cx 0 (zh ?_)
 have hx:=hdx40 _ (sj hr).symm
 subst hx
 replace hr:=hrx40
 refine zi ?_
 exact zr rfl (J1 sx40.2 _ _ _ _ hs f32 ow_f32 B_m0 hr)
theorem zml {κ:K} {p0:Int} {p1:LB} {a2:OA} {c3:Nat} {p2:Int} {p3:Int} (hb1:I64 p0) (f4:Sl zR κ a2 c3 p1) (hb5:I64 p2) (hb6:I64 p3) {r:(Int×LB×LM×LI)×Int} (hr:zhh p0 p1 p2 p3=some r) :
 Fn Tryz.prog 87 #[iv p0,sl a2 p1.length c3,iv p2,iv p3] κ (fun v κ'=>Step [] κ κ'∧∃ (b7:Nat) (N8:Nat) (a10:OA) (c11:Nat) (a13:OA) (c14:Nat) (a16:OA) (c17:Nat),v=.tuple #[pt b7 0,iv r.2]∧κ.H.size≤N8∧Box (N8,115001) κ' b7 [iv r.1.1,sl a10 r.1.2.1.length c11,sl a13 r.1.2.2.1.length c14,sl a16 r.1.2.2.2.length c17] 187∧I64 r.1.1∧Sl zR κ' a10 c11 r.1.2.1∧Gr (tSl tI64) true (N8,115002) κ' 95 a13 c14 r.1.2.2.1∧Gr tI64 false (N8,115003) κ' 2 a16 c17 r.1.2.2.2∧I64 r.2):=by
 refine fnc 23 [] Tryz.func87 Tryz.ntmps87 fun hs=>csr (op 8 (.pointer none) (op 9 (iv 0) (otx (op 12 (iv p0) (op 13 (sl a2 p1.length c3) ?_)))))
 obtain ⟨x20,hx20,hr⟩:=bind_some hr
 refine ocl 14 (zmP hb1 f4 hx20) ?_
 rintro _ κ33 ⟨s34,b21,N22,a24,c25,a27,c28,a30,c31,rfl,go_N22,B_b21,hb23,f26,f29,f32⟩
 replace go_N22:=Nat.le_trans hs.1 go_N22
 replace hs:=hs.tr0 s34
 refine op 10 (pt b21 0) (otx (op 11 (iv 0) (ot (cs (cb 0 ?_)))))
 refine zj 0 (fun Z=>∀ (y41:Int) (y43:LI) (a45:OA) (c46:Nat) (E0:Env) (κ47:K) (hs:Step [] κ κ47) (hb42:I64 y41) (f44:Gr tI64 false (N22,115003) κ47 2 a45 c46 y43) (f26:Sl zR κ47 a24 c25 x20.2.1) (f29:Gr (tSl tI64) true (N22,115002) κ47 95 a27 c28 x20.2.2.1) (B_b21:Box (N22,115001) κ47 b21 [iv x20.1,sl a24 x20.2.1.length c25,sl a27 x20.2.2.1.length c28,sl a45 y43.length c46] 187),zgZ x20 y41 y43=some r→Z (upd (upd (E0) 10 (pt b21 0)) 11 (iv y41)) κ47) ?_ fun J1=>?_
 ·intro y41 y43 a45 c46 E0 κ47 hs hb42 f44 f26 f29 B_b21 hr
  refine zg (za (csr (op 21 (pt b21 0) (op 22 (iv y41) (op 8 (pt b21 0) (op 9 (iv y41) (ot (crt ?_))))))))
  obtain rfl:=sj hr
  refine rt [.tmp 8,.tmp 9] [pt b21 0,iv y41] ⟨rfl,rfl,trivial⟩ ?_
  exact ⟨hs,_,_,_,_,_,_,_,_,rfl,go_N22,B_b21,hb23,f26,f29,f44,hb42⟩
 obtain ⟨x48,hx48,hrx48⟩:=bind_some hr
 refine zo (F:=zdw p2 p3 x20) (J:=fun (sx48:Int×LI) (E':Env) (κ':K)=>∃ (a39:OA) (c40:Nat),(∃ E0,E'=upd (upd (upd (upd (E0) 2 (iv p2)) 3 (iv p3)) 10 (pt b21 0)) 11 (iv sx48.1))∧Step [] κ κ'∧I64 sx48.1∧Gr tI64 false (N22,115003) κ' 2 a39 c40 sx48.2∧Sl zR κ' a24 c25 x20.2.1∧Gr (tSl tI64) true (N22,115002) κ' 95 a27 c28 x20.2.2.1∧Box (N22,115001) κ' b21 [iv x20.1,sl a24 x20.2.1.length c25,sl a27 x20.2.2.1.length c28,sl a39 sx48.2.length c40] 187) (s0:=(0,x20.2.2.2)) (x:=x48) kr hx48 ⟨_,_,⟨_,(eA 11 (eA 10 (eA 3 (eA 2 rfl))))⟩,hs,(show I64 0 by unfold I64;omega),f32,f26,f29,B_b21⟩ ?_
 rintro sx48 _ κ49 ⟨a39,c40,⟨E0,rfl⟩,hs,hb36,f38,f26,f29,B_b21⟩ yyx48 hr hdx48
 refine cs (csr (op 15 (pt b21 0) (op 16 (iv p2) (op 17 (iv p3) ?_))))
 obtain ⟨x50,hx50,hr⟩:=bind_some hr
 refine ocl 18 (zkc (p0:=(x20.1,(x20.2.1,(x20.2.2.1,sx48.2)))) B_b21 hb23 f26 f29.sl f38 (show ((N22,115003):Tag).1<_ from B_b21.tlt) hb5 hb6 (zm (N:=N22) (M:=N22) (i:=115001) (j:=115003) kr) hx50) ?_
 rintro _ κ54 ⟨s55,a51,c52,rfl,NB_b21,f53,ow_f53⟩
 clear ow_f53
 replace hs:=hs.trM (zeZ (zo7 (Nat.le_trans go_N22 B_b21.ge)) (znA (f38.own go_N22))) s55
 replace f26:=f26.step s55
 replace f29:=f29.step s55 (zlz (f29.nb B_b21 (zm (N:=N22) (M:=N22) (i:=115002) (j:=115001) kr)) (f29.ng f38 (zm (N:=N22) (M:=N22) (i:=115002) (j:=115003) kr)))
 replace B_b21:=NB_b21
 refine ot ?_
 refine cc (x50.1) hr ?_ ?_
 ·intro hc hr
  refine ckt (cb 1 (cr (op 19 (iv sx48.1) (op 20 (iv (w64 (sx48.1+1))) (op 11 (iv (w64 (sx48.1+1))) (oe (zd ?_)))))))
  exact ze (sj hr).symm ⟨_,_,⟨_,(eA 11 (eA 10 (eA 3 (eA 2 rfl))))⟩,hs,(zq _),f53,f26,f29,B_b21⟩
 intro hc hr
 refine cx 0 (zh ?_)
 have hx:=hdx48 _ (sj hr).symm
 subst hx
 replace hr:=hrx48
 refine zi ?_
 exact zr (eA 11 (eA 10 rfl)) (J1 sx48.1 x50.2.2.2.2 _ _ _ _ hs hb36 f53 f26 f29 B_b21 hr)
theorem zka {κ:K} {p0:Int×LB×LM×LI} {pb0:Nat} {τ0:Tag} {a2:OA} {c3:Nat} {a5:OA} {c6:Nat} {a8:OA} {c9:Nat} {τ0_3:Tag} {p1:Int} (B_m0:Box τ0 κ pb0 [iv p0.1,sl a2 p0.2.1.length c3,sl a5 p0.2.2.1.length c6,sl a8 p0.2.2.2.length c9] 187) (hb1:I64 p0.1) (f4:Sl zR κ a2 c3 p0.2.1) (f7:Sl (tSl tI64) κ a5 c6 p0.2.2.1) (f10:Gr tI64 false τ0_3 κ 2 a8 c9 p0.2.2.2) (lt_τ0_3:τ0_3.1<κ.H.size) (hb11:I64 p1) (ne_τ0_τ0_3:τ0≠τ0_3) {r:LI×(Int×LB×LM×LI)} (hr:zeq p0 p1=some r) :
 Fn Tryz.prog 88 #[pt pb0 0,iv p1] κ (fun v κ'=>Step ([pb0]++blk a8 c9) κ κ'∧∃ (a12:OA) (c13:Nat) (a15:OA) (c16:Nat),v=sl a12 r.1.length c13∧Sl tI64 κ' a12 c13 r.1∧Box τ0 κ' pb0 [iv p0.1,sl a2 p0.2.1.length c3,sl a5 p0.2.2.1.length c6,sl a15 r.2.2.2.2.length c16] 187∧Gr tI64 false τ0_3 κ' 2 a15 c16 r.2.2.2.2∧(∀ g∈blk a15 c16,g∈([pb0]++blk a8 c9)∨κ.H.size≤g)):=by
 refine fnc 30 ([pb0]++blk a8 c9) Tryz.func88 Tryz.ntmps88 fun hs=>?_
 have lt_τ0:=B_m0.tlt
 have ne_τ0_3_τ0:=ne_τ0_τ0_3.symm
 have ow_f10:∀ g∈blk a8 c9,g∈([pb0]++blk a8 c9)∨κ.H.size≤g:=fun g hg=>.inl (by simp [hg])
 refine csr (op 4 (sl none 0 0) (otx (op 8 (pt pb0 0) (op 9 (iv p1) ?_))))
 obtain ⟨x18,hx18,hr⟩:=bind_some hr
 refine ocl 10 (zgS (p0:=p0) B_m0 hb1 f4 f7 f10 (Nat.lt_of_lt_of_le lt_τ0_3 hs.1) hb11 (ne_τ0_τ0_3) hx18) ?_
 rintro _ κ25 ⟨s26,a19,c20,a22,c23,rfl,f21,NB_m0,f24,ow_f24⟩
 replace ow_f24:∀ g∈blk a22 c23,g∈([pb0]++blk a8 c9)∨κ.H.size≤g:=fun g hg=>(ow_f24 g hg).elim ((zeZ (zhQ (by simp)) ow_f10) g) (fun h=>.inr (Nat.le_trans hs.1 h))
 replace hs:=hs.trM (zeZ (zhQ (by simp)) ow_f10) s26
 replace B_m0:=NB_m0
 refine op 5 (sl a19 x18.1.length c20) (otx (zO (d:=11) (T:=95) (e:=2) (t:=tI64) (pub:=true) (τ:=(κ.H.size,88001)) (len:=0) (l:=[]) (parts:=#[]) (cs:=[]) kr kr kr kr hs.1 rfl rfl kr fun a29 κ27 s28 f30=>?_))
 replace hs:=hs.tr0 s28
 replace f21:=f21.step s28
 replace f24:=f24.step0 s28
 replace B_m0:=B_m0.step0 s28
 refine op 6 (sl a29 0 0) (ot (cs (csr (op 7 (iv 0) (ot (cb 0 ?_))))))
 refine zj 0 (fun Z=>∀ (y38:LI) (a40:OA) (c41:Nat) (E0:Env) (κ42:K) (hs:Step ([pb0]++blk a8 c9) κ κ42) (f39:Gr tI64 true (κ.H.size,88001) κ42 2 a40 c41 y38) (f24:Gr tI64 false τ0_3 κ42 2 a22 c23 x18.2.2.2.2) (B_m0:Box τ0 κ42 pb0 [iv p0.1,sl a2 p0.2.1.length c3,sl a5 p0.2.2.1.length c6,sl a22 x18.2.2.2.2.length c23] 187),zeK p0 x18 y38=some r→Z (upd (E0) 6 (sl a40 y38.length c41)) κ42) ?_ fun J1=>?_
 ·intro y38 a40 c41 E0 κ42 hs f39 f24 B_m0 hr
  refine zg (za (csr (op 29 (sl a40 y38.length c41) (op 4 (sl a40 y38.length c41) (ot (crt ?_))))))
  obtain rfl:=sj hr
  refine rt [.tmp 4] [sl a40 y38.length c41] ⟨rfl,trivial⟩ ?_
  exact ⟨hs,_,_,_,_,rfl,f39.sl,B_m0,f24,ow_f24⟩
 obtain ⟨x43,hx43,hrx43⟩:=bind_some hr
 refine zo (F:=zcJ p0 x18) (J:=fun (sx43:LI×Int) (E':Env) (κ':K)=>∃ (a34:OA) (c35:Nat),(∃ E0,E'=upd (upd (upd (upd (E0) 0 (pt pb0 0)) 5 (sl a19 x18.1.length c20)) 6 (sl a34 sx43.1.length c35)) 7 (iv sx43.2))∧Step ([pb0]++blk a8 c9) κ κ'∧Gr tI64 true (κ.H.size,88001) κ' 2 a34 c35 sx43.1∧I64 sx43.2∧Sl tI64 κ' a19 c20 x18.1∧Gr tI64 false τ0_3 κ' 2 a22 c23 x18.2.2.2.2∧Box τ0 κ' pb0 [iv p0.1,sl a2 p0.2.1.length c3,sl a5 p0.2.2.1.length c6,sl a22 x18.2.2.2.2.length c23] 187) (s0:=([],0)) (x:=x43) kr hx43 ⟨_,_,⟨_,(eA 7 (eA 6 (eA 5 (eA 0 rfl))))⟩,hs,f30,(show I64 0 by unfold I64;omega),f21,f24,B_m0⟩ ?_
 rintro sx43 _ κ44 ⟨a34,c35,⟨E0,rfl⟩,hs,f33,hb37,f21,f24,B_m0⟩ yyx43 hr hdx43
 refine cs (csr (op 12 (iv sx43.2) (op 13 (pt pb0 0) (op 14 (pt pb0 0) (op 15 (pt pb0 0) (o1 16 2 (iv p0.1) (B_m0.at.one (o:=0) rfl) (op 17 (bW (sx43.2<p0.1)) (ot ?_))))))))
 refine cc (decide (sx43.2<p0.1)) hr ?_ ?_
 ·intro hc hr
  refine ckt ?_
  refine zl (fun Z=>∀ (y45:LI) (a47:OA) (c48:Nat) (E0:Env) (κ49:K) (hs:Step ([pb0]++blk a8 c9) κ κ49) (f46:Gr tI64 true (κ.H.size,88001) κ49 2 a47 c48 y45) (f21:Sl tI64 κ49 a19 c20 x18.1) (f24:Gr tI64 false τ0_3 κ49 2 a22 c23 x18.2.2.2.2) (B_m0:Box τ0 κ49 pb0 [iv p0.1,sl a2 p0.2.1.length c3,sl a5 p0.2.2.1.length c6,sl a22 x18.2.2.2.2.length c23] 187),zcK sx43 y45=some yyx43→cwp Tryz.prog 30 (sub (zC Tryz.f88) [1,1,0,0,1,0,1,1,1]) Z (upd (upd (upd (upd (E0) 0 (pt pb0 0)) 5 (sl a19 x18.1.length c20)) 6 (sl a47 y45.length c48)) 7 (iv sx43.2)) κ49) ?_ fun J2=>?_
  ·intro y45 a47 c48 E0 κ49 hs f46 f21 f24 B_m0 hr
   refine cr (op 18 (iv sx43.2) (op 19 (iv (w64 (sx43.2+1))) (op 7 (iv (w64 (sx43.2+1))) (oe ?_))))
   exact ze (sj hr).symm ⟨_,_,⟨_,(eA 7 (eA 6 (eA 5 (eA 0 rfl))))⟩,hs,f46,(zq _),f21,f24,B_m0⟩
  refine cs (cb 1 (csr (op 20 (sl a19 x18.1.length c20) (op 21 (iv sx43.2) ?_))))
  obtain ⟨x50,hx50,hr⟩:=bind_some hr
  obtain ⟨b51,o52,eab51,i0x50,i1x50,csx50,p_b51,owx50⟩:=f21.idx hx50
  obtain ⟨rfl,hb53⟩:=owx50
  replace p_b51:PubAt κ44 b51 (o52+sx43.2.toNat*1) [iv x50]:=p_b51
  refine oi 22 95 2 1 x18.1.length c20 .i64 sx43.2 eab51 i0x50 i1x50 (o1 23 2 (iv x50) (p_b51.at.one (o:=0) rfl) (op 24 (bW (x50≥0)) (ot ?_)))
  refine cc (decide (x50≥0)) hr ?_ ?_
  ·intro hc hr
   refine cr (op 25 (sl a34 sx43.1.length c35) (op 26 (iv sx43.2) (zO (d:=27) (T:=95) (e:=2) (t:=tI64) (pub:=true) (τ:=(κ.H.size,88002)) (len:=1) (l:=[sx43.2]) (parts:=#[(0,iv sx43.2)]) (cs:=[iv sx43.2]) kr kr kr kr hs.1 rfl ⟨_,_,rfl,⟨rfl,hb37⟩,rfl⟩ kr fun a56 κ54 s55 f57=>?_)))
   replace hs:=hs.tr0 s55
   replace f21:=f21.step s55
   replace f24:=f24.step0 s55
   replace f33:=f33.step0 s55
   replace B_m0:=B_m0.step0 s55
   obtain ⟨x59,hx59,hr⟩:=bind_some hr
   refine zM (d:=28) (T:=95) (e:=2) (t:=tI64) (pub:=true) (τ:=(κ.H.size,88001)) (bytes:=8) (a:=a34) (cp:=c35) (l:=sx43.1) (a2:=a56) (c2:=1) (l2:=[sx43.2]) kr kr f33 f57.sl hs.1 kr hx59 fun a62 c63 κ60 s61 f64 hw=>?_
   clear hw
   replace hs:=hs.trG (f33.own (Nat.le_refl _)) s61
   replace f21:=f21.step s61
   replace f24:=f24.step s61 (f24.ng f33 (zai (i:=88001) lt_τ0_3))
   replace B_m0:=B_m0.step s61 (f33.bn B_m0 (zai (i:=88001) lt_τ0))
   refine op 6 (sl a62 x59.length c63) (oe (zd (za ?_)))
   exact zk (eA 7 (eA 6 (eA 5 (eA 0 rfl)))) (J2 x59 _ _ _ _ hs f64 f21 f24 B_m0 hr)
  intro hc hr
  refine ck (zd (za ?_))
  exact zk (eA 7 (eA 6 (eA 5 (eA 0 rfl)))) (J2 sx43.1 _ _ _ _ hs f33 f21 f24 B_m0 hr)
 intro hc hr
 refine cx 0 (zh ?_)
 have hx:=hdx43 _ (sj hr).symm
 subst hx
 replace hr:=hrx43
 refine zi ?_
 exact zr (eA 6 rfl) (J1 sx43.1 _ _ _ _ hs f33 f24 B_m0 hr)
theorem zla {κ:K} {p0:Int} {p1:LI} {a2:OA} {c3:Nat} {p2:Int} {p3:LI} {a6:OA} {c7:Nat} (hb1:I64 p0) (f4:Sl tI64 κ a2 c3 p1) (hb5:I64 p2) (f8:Sl tI64 κ a6 c7 p3) {r:Bool} (hr:zfL p0 p1 p2 p3=some r) :
 Fn Tryz.prog 89 #[iv p0,sl a2 p1.length c3,iv p2,sl a6 p3.length c7] κ (fun v κ'=>κ=κ'∧v=.bool r):=by
 refine fnc 50 [] Tryz.func89 Tryz.ntmps89 fun hs=>csr (op 8 (.bool false) (ot (cs (csr (op 10 (iv p0) (op 11 (iv p2) (op 12 (.bool (!decide (p0=p2))) (ot ?_))))))))
 refine cc (!decide (p0=p2)) hr ?_ ?_
 ·intro hc hr
  refine csr (op 13 (iv p0) (op 14 (iv p2) (op 15 (bW (p0<p2)) (op 8 (bW (p0<p2)) (ot (crt (zb ?_)))))))
  obtain rfl:=sj hr
  refine rt [.tmp 8] [bW (p0<p2)] ⟨rfl,trivial⟩ ?_
  exact ⟨rfl,rfl⟩
 intro hc hr
 refine ckt (cs (csr (op 16 (sl a2 p1.length c3) (op 17 (iv (p1.length:Int)) (op 18 (sl a6 p3.length c7) (op 19 (iv (p3.length:Int)) (op 20 (.bool (!decide ((p1.length:Int)=(p3.length:Int)))) (ot ?_))))))))
 refine cc (!decide ((p1.length:Int)=(p3.length:Int))) hr ?_ ?_
 ·intro hc hr
  refine csr (op 21 (sl a2 p1.length c3) (op 22 (iv (p1.length:Int)) (op 23 (sl a6 p3.length c7) (op 24 (iv (p3.length:Int)) (op 25 (bW ((p1.length:Int)<(p3.length:Int))) (op 8 (bW ((p1.length:Int)<(p3.length:Int))) (ot (crt (zb ?_)))))))))
  obtain rfl:=sj hr
  refine rt [.tmp 8] [bW ((p1.length:Int)<(p3.length:Int))] ⟨rfl,trivial⟩ ?_
  exact ⟨rfl,rfl⟩
 intro hc hr
 refine ckt (cs (csr (op 9 (iv 0) (ot (cb 0 ?_)))))
 refine zj 0 (fun Z=>∀ (E0:Env),zhX=some r→Z (E0) κ) ?_ fun J1=>?_
 ·intro E0 hr
  refine zg (za (csr (op 8 (.bool false) (ot (crt ?_)))))
  obtain rfl:=sj hr
  refine rt [.tmp 8] [.bool false] ⟨rfl,trivial⟩ ?_
  exact ⟨rfl,rfl⟩
 obtain ⟨x11,hx11,hrx11⟩:=bind_some hr
 refine zo (F:=zdR p1 p3) (J:=fun (sx11:Int) (E':Env) (κ':K)=>(∃ E0,E'=upd (upd (upd (E0) 1 (sl a2 p1.length c3)) 3 (sl a6 p3.length c7)) 9 (iv sx11))∧κ=κ'∧I64 sx11) (s0:=0) (x:=x11) kr hx11 ⟨⟨_,(eA 9 (eA 3 (eA 1 rfl)))⟩,rfl,(show I64 0 by unfold I64;omega)⟩ ?_
 rintro sx11 _ _ ⟨⟨E0,rfl⟩,rfl,hb10⟩ yyx11 hr hdx11
 refine cs (csr (op 26 (iv sx11) (op 27 (sl a2 p1.length c3) (op 28 (iv (p1.length:Int)) (op 29 (bW (sx11<(p1.length:Int))) (ot ?_))))))
 refine cc (decide (sx11<(p1.length:Int))) hr ?_ ?_
 ·intro hc hr
  refine ckt (cs (cb 1 (cs (cd 8 (dp 32 (sl a2 p1.length c3) (dp 33 (iv sx11) ?_))))))
  obtain ⟨x12,hx12,hr⟩:=bind_some hr
  obtain ⟨b13,o14,eab13,i0x12,i1x12,csx12,p_b13,owx12⟩:=f4.idx hx12
  obtain ⟨rfl,hb15⟩:=owx12
  replace p_b13:PubAt κ b13 (o14+sx11.toNat*1) [iv x12]:=p_b13
  refine di 34 95 2 1 p1.length c3 .i64 sx11 eab13 i0x12 i1x12 (d1 35 2 (iv x12) (p_b13.at.one (o:=0) rfl) (dp 36 (sl a6 p3.length c7) (dp 37 (iv sx11) ?_)))
  obtain ⟨x16,hx16,hr⟩:=bind_some hr
  obtain ⟨b17,o18,eab17,i0x16,i1x16,csx16,p_b17,owx16⟩:=f8.idx hx16
  obtain ⟨rfl,hb19⟩:=owx16
  replace p_b17:PubAt κ b17 (o18+sx11.toNat*1) [iv x16]:=p_b17
  refine di 38 95 2 1 p3.length c7 .i64 sx11 eab17 i0x16 i1x16 (d1 39 2 (iv x16) (p_b17.at.one (o:=0) rfl) (de (op 40 (.bool (!decide (x12=x16))) (ot ?_))))
  refine cc (!decide (x12=x16)) hr ?_ ?_
  ·intro hc hr
   refine cs (cd 8 (dp 41 (sl a2 p1.length c3) (dp 42 (iv sx11) ?_)))
   obtain ⟨x20,hx20,hr⟩:=bind_some hr
   obtain ⟨b21,o22,eab21,i0x20,i1x20,csx20,p_b21,owx20⟩:=f4.idx hx20
   obtain ⟨rfl,hb23⟩:=owx20
   replace p_b21:PubAt κ b21 (o22+sx11.toNat*1) [iv x20]:=p_b21
   refine di 43 95 2 1 p1.length c3 .i64 sx11 eab21 i0x20 i1x20 (d1 44 2 (iv x20) (p_b21.at.one (o:=0) rfl) (dp 45 (sl a6 p3.length c7) (dp 46 (iv sx11) ?_)))
   obtain ⟨x24,hx24,hr⟩:=bind_some hr
   obtain ⟨b25,o26,eab25,i0x24,i1x24,csx24,p_b25,owx24⟩:=f8.idx hx24
   obtain ⟨rfl,hb27⟩:=owx24
   replace p_b25:PubAt κ b25 (o26+sx11.toNat*1) [iv x24]:=p_b25
   refine di 47 95 2 1 p3.length c7 .i64 sx11 eab25 i0x24 i1x24 (d1 48 2 (iv x24) (p_b25.at.one (o:=0) rfl) (de (op 49 (bW (x20<x24)) (op 8 (bW (x20<x24)) (ot (crt (zf (zb ?_))))))))
   have hx:=hdx11 _ (sj hr).symm
   subst hx
   replace hr:=hrx11
   refine zt (zf (zb ?_))
   obtain rfl:=sj hr
   refine rt [.tmp 8] [bW (x20<x24)] ⟨rfl,trivial⟩ ?_
   exact ⟨rfl,rfl⟩
  intro hc hr
  refine ck (zd (za (cr (op 30 (iv sx11) (op 31 (iv (w64 (sx11+1))) (op 9 (iv (w64 (sx11+1))) (oe ?_)))))))
  exact ze (sj hr).symm ⟨⟨_,(eA 9 (eA 3 (eA 1 rfl)))⟩,rfl,(zq _)⟩
 intro hc hr
 refine cx 0 (zh ?_)
 have hx:=hdx11 _ (sj hr).symm
 subst hx
 replace hr:=hrx11
 refine zi ?_
 exact zr rfl (J1   _  hr)
theorem zkt {κ:K} {p0:Int} {p1:LB} {a2:OA} {c3:Nat} (hb1:I64 p0) (f4:Sl zR κ a2 c3 p1) {r:Int×LI} (hr:ze5 p0 p1=some r) :
 Fn Tryz.prog 60 #[iv p0,sl a2 p1.length c3] κ (fun v κ'=>Step [] κ κ'∧∃ (a6:OA) (c7:Nat),v=.tuple #[iv r.1,sl a6 r.2.length c7]∧I64 r.1∧Sl tI64 κ' a6 c7 r.2):=by
 refine fnc 41 [] Tryz.func60 Tryz.ntmps60 fun hs=>csr (op 4 (iv 0) (op 5 (sl none 0 0) (otx (op 6 (iv (-1)) (otx (zO (d:=12) (T:=95) (e:=2) (t:=tI64) (pub:=true) (τ:=(κ.H.size,60001)) (len:=0) (l:=[]) (parts:=#[]) (cs:=[]) kr kr kr kr hs.1 rfl rfl kr fun a11 κ9 s10 f12=>?_))))))
 replace hs:=hs.tr0 s10
 refine op 7 (sl a11 0 0) (ot (cs (csr (op 8 (iv 1) (ot (cb 0 ?_))))))
 refine zj 0 (fun Z=>∀ (y22:Int) (y24:LI) (a25:OA) (c26:Nat) (E0:Env) (κ28:K) (hs:Step [] κ κ28) (hb23:I64 y22) (f27:Sl tI64 κ28 a25 c26 y24),zfj y22 y24=some r→Z (upd (upd (E0) 6 (iv y22)) 7 (sl a25 y24.length c26)) κ28) ?_ fun J1=>?_
 ·intro y22 y24 a25 c26 E0 κ28 hs hb23 f27 hr
  refine zg (za (csr (op 39 (iv y22) (op 40 (sl a25 y24.length c26) (op 4 (iv y22) (op 5 (sl a25 y24.length c26) (ot (crt ?_))))))))
  obtain rfl:=sj hr
  refine rt [.tmp 4,.tmp 5] [iv y22,sl a25 y24.length c26] ⟨rfl,rfl,trivial⟩ ?_
  exact ⟨hs,_,_,rfl,hb23,f27⟩
 obtain ⟨x29,hx29,hrx29⟩:=bind_some hr
 refine zo (F:=zdj p0 p1) (J:=fun (sx29:Int×LI×Int) (E':Env) (κ':K)=>∃ (a17:OA) (c18:Nat),(∃ E0,E'=upd (upd (upd (upd (upd (E0) 0 (iv p0)) 1 (sl a2 p1.length c3)) 6 (iv sx29.1)) 7 (sl a17 sx29.2.1.length c18)) 8 (iv sx29.2.2))∧Step [] κ κ'∧I64 sx29.1∧Sl tI64 κ' a17 c18 sx29.2.1∧I64 sx29.2.2) (s0:=((-1),[],1)) (x:=x29) kr hx29 ⟨_,_,⟨_,(eA 8 (eA 7 (eA 6 (eA 1 (eA 0 rfl)))))⟩,hs,(show I64 (-1) by unfold I64;omega),f12.sl,(show I64 1 by unfold I64;omega)⟩ ?_
 rintro sx29 _ κ30 ⟨a17,c18,⟨E0,rfl⟩,hs,hb15,f19,hb21⟩ yyx29 hr hdx29
 refine cs (csr (op 13 (iv sx29.2.2) (op 14 (iv p0) (op 15 (bW (sx29.2.2<p0)) (ot ?_)))))
 refine cc (decide (sx29.2.2<p0)) hr ?_ ?_
 ·intro hc hr
  refine ckt ?_
  refine zl (fun Z=>∀ (y31:Int) (y33:LI) (a34:OA) (c35:Nat) (E0:Env) (κ37:K) (hs:Step [] κ κ37) (hb32:I64 y31) (f36:Sl tI64 κ37 a34 c35 y33),zb2 sx29 y31 y33=some yyx29→cwp Tryz.prog 41 (sub (zC Tryz.f60) [1,1,0,0,1,0,1,1,1]) Z (upd (upd (upd (upd (upd (E0) 0 (iv p0)) 1 (sl a2 p1.length c3)) 6 (iv y31)) 7 (sl a34 y33.length c35)) 8 (iv sx29.2.2)) κ37) ?_ fun J2=>?_
  ·intro y31 y33 a34 c35 E0 κ37 hs hb32 f36 hr
   refine cr (op 16 (iv sx29.2.2) (op 17 (iv (w64 (sx29.2.2+1))) (op 8 (iv (w64 (sx29.2.2+1))) (oe ?_))))
   exact ze (sj hr).symm ⟨_,_,⟨_,(eA 8 (eA 7 (eA 6 (eA 1 (eA 0 rfl)))))⟩,hs,hb32,f36,(zq _)⟩
  refine cs (cb 1 (csr (op 19 (iv p0) (op 20 (sl a2 p1.length c3) (op 21 (iv sx29.2.2) ?_)))))
  obtain ⟨x38,hx38,hr⟩:=bind_some hr
  refine ocl 22 (zml hb1 (f4.step hs) (show I64 0 by unfold I64;omega) hb21 hx38) ?_
  rintro _ κ52 ⟨s53,b39,N40,a42,c43,a45,c46,a48,c49,rfl,go_N40,B_b39,hb41,f44,f47,f50,hb51⟩
  replace go_N40:=Nat.le_trans hs.1 go_N40
  replace hs:=hs.tr0 s53
  replace f19:=f19.step s53
  refine op 18 (.tuple #[pt b39 0,iv x38.2]) (op 23 (pt b39 0) (op 24 (iv x38.2) (op 9 (pt b39 0) (op 10 (iv x38.2) (otx (op 25 (pt b39 0) (op 26 (iv sx29.2.2) ?_)))))))
  obtain ⟨x54,hx54,hr⟩:=bind_some hr
  refine ocl 27 (zka (p0:=x38.1) B_b39 hb41 f44 f47.sl f50 (show ((N40,115003):Tag).1<_ from B_b39.tlt) hb21 (zm (N:=N40) (M:=N40) (i:=115001) (j:=115003) kr) hx54) ?_
  rintro _ κ61 ⟨s62,a55,c56,a58,c59,rfl,f57,NB_b39,f60,ow_f60⟩
  clear ow_f60
  replace hs:=hs.trM (zeZ (zo7 (Nat.le_trans go_N40 B_b39.ge)) (znA (f50.own go_N40))) s62
  replace f19:=f19.step s62
  replace B_b39:=NB_b39
  refine op 11 (sl a55 x54.1.length c56) (ot ?_)
  refine zl (fun Z=>∀ (y63:Bool) (E0:Env),zaC sx29 x38 x54 y63=some yyx29→cwp Tryz.prog 41 (sub (zC Tryz.f60) [1,1,1,0,0,1,0,0,1,0,1,1,1]) Z (upd (upd (upd (upd (upd (upd (upd (upd (E0) 0 (iv p0)) 1 (sl a2 p1.length c3)) 6 (iv sx29.1)) 7 (sl a17 sx29.2.1.length c18)) 8 (iv sx29.2.2)) 10 (iv x38.2)) 11 (sl a55 x54.1.length c56)) 36 (.bool y63)) κ61) ?_ fun J3=>?_
  ·intro y63 E0 hr
   refine cc (y63) hr ?_ ?_
   ·intro hc hr
    refine csr (op 37 (iv x38.2) (op 6 (iv x38.2) (otr (op 38 (sl a55 x54.1.length c56) (op 7 (sl a55 x54.1.length c56) (oe (zd (za ?_))))))))
    exact zk (eA 8 (eA 7 (eA 6 (eA 1 (eA 0 rfl))))) (J2 x38.2 x54.1 _ _ _ _ hs hb51 f57 hr)
   intro hc hr
   refine ck (zd (za ?_))
   exact zk (eA 8 (eA 7 (eA 6 (eA 1 (eA 0 rfl))))) (J2 sx29.1 sx29.2.1 _ _ _ _ hs hb15 f19 hr)
  refine csr (op 28 (iv sx29.1) (op 29 (bW (sx29.1<0)) ?_))
  refine osp 30 (decide (sx29.1<0)) hr ?_ ?_
  ·intro hg hr
   refine op 31 (iv x38.2) (op 32 (sl a55 x54.1.length c56) (op 33 (iv sx29.1) (op 34 (sl a17 sx29.2.1.length c18) ?_)))
   obtain ⟨x64,hx64,hr⟩:=bind_some hr
   refine ocl 35 (zla hb51 f57 hb15 f19 hx64) ?_
   rintro _ _ ⟨rfl,rfl⟩
   refine op 36 (.bool x64) (ot ?_)
   exact zk (eA 36 (eA 11 (eA 10 (eA 8 (eA 7 (eA 6 (eA 1 (eA 0 rfl)))))))) (J3 x64  _  hr)
  intro hg hr
  refine os 31 (os 32 (os 33 (os 34 (os 35 (op 36 (.bool true) (ot ?_))))))
  exact zk (eA 36 (eA 11 (eA 10 (eA 8 (eA 7 (eA 6 (eA 1 (eA 0 rfl)))))))) (J3 true  _  hr)
 intro hc hr
 refine cx 0 (zh ?_)
 have hx:=hdx29 _ (sj hr).symm
 subst hx
 replace hr:=hrx29
 refine zi ?_
 exact zr (eA 7 (eA 6 rfl)) (J1 sx29.1 sx29.2.1 _ _ _ _ hs hb15 f19 hr)
theorem zk8 {κ:K} {p0:LG×LT} {pb0 po0:Nat} {a1:OA} {c2:Nat} {a4:OA} {c5:Nat} {p1:LP} {pb1 po1:Nat} {a7:OA} {c8:Nat} {p2:Int} (m0:At κ pb0 po0 [sl a1 p0.1.length c2,sl a4 p0.2.length c5]) (f3:Sl tGlue κ a1 c2 p0.1) (f6:Sl zQ κ a4 c5 p0.2) (m1:At κ pb1 po1 [sl a7 p1.length c8]) (f9:Sl tPlaced κ a7 c8 p1) (hb10:I64 p2) {r:Bool×Int} (hr:zfG p0 p1 p2=some r) :
 Fn Tryz.prog 30 #[pt pb0 po0,pt pb1 po1,iv p2] κ (fun v κ'=>Step [] κ κ'∧v=.tuple #[.bool r.1,iv r.2]∧I64 r.2):=by
 refine fnc 38 [] Tryz.func30 Tryz.ntmps30 fun hs=>csr (op 6 (.bool false) (op 7 (iv 0) (ot (cs (cx_ 14 [0,1,2,3,4,5,6,8,7,9,10,11,12,13] [7,9] 14 [] (xp 13 (pt pb1 po1) (xp 14 (pt pb1 po1) (xp 15 (pt pb1 po1) ?_))))))))
 refine x1 16 26 (sl a7 p1.length c8) (m1.step0 hs) 0 rfl (xp 17 (iv (p1.length:Int)) (xp 18 (pt pb0 po0) (xp 19 (pt pb1 po1) (xp 21 (iv p2) ?_))))
 obtain ⟨x12,hx12,hr⟩:=bind_some hr
 refine xcl 20 (zlE ((m0.step0 hs).part 0 2) f3 f6 ((m1.step0 hs).part 0 1) f9 hx12) ?_
 rintro _ κ16 ⟨s17,a13,c14,rfl,f15⟩
 refine ⟨s17,?_⟩
 replace hs:=hs.tr0 s17
 obtain ⟨x18,hx18,hr⟩:=bind_some hr
 refine xcl 22 (zk9 (zg5 f9.most) f15 hb10 hx18) ?_
 rintro _ κ23 ⟨s24,a20,c21,rfl,hb19,f22⟩
 refine ⟨s24,?_⟩
 replace hs:=hs.tr0 s24
 refine xp 12 (.tuple #[iv x18.1,sl a20 x18.2.length c21]) (xp 23 (iv x18.1) (xp 24 (sl a20 x18.2.length c21) (xp 8 (iv x18.1) (xe (op 9 (sl a20 x18.2.length c21) (ot (cs (csr (op 25 (iv x18.1) ?_)))))))))
 refine op 26 (bW (x18.1>64)) (ot ?_)
 refine cc (decide (x18.1>64)) hr ?_ ?_
 ·intro hc hr
  refine csr (op 6 (.bool false) (op 7 (iv 4) (ot (crt (zb ?_)))))
  obtain rfl:=sj hr
  refine rt [.tmp 6,.tmp 7] [.bool false,iv 4] ⟨rfl,rfl,trivial⟩ ?_
  exact ⟨hs,rfl,(show I64 4 by unfold I64;omega)⟩
 intro hc hr
 refine ckt (cs (csr (op 27 (iv x18.1) (op 28 (bW (x18.1<2)) (ot ?_)))))
 refine cc (decide (x18.1<2)) hr ?_ ?_
 ·intro hc hr
  refine csr (op 6 (.bool true) (op 7 (iv 0) (ot (crt (zb ?_)))))
  obtain rfl:=sj hr
  refine rt [.tmp 6,.tmp 7] [.bool true,iv 0] ⟨rfl,rfl,trivial⟩ ?_
  exact ⟨hs,rfl,(show I64 0 by unfold I64;omega)⟩
 intro hc hr
 refine ckt (csr (op 30 (iv x18.1) (op 31 (sl a20 x18.2.length c21) ?_)))
 obtain ⟨x25,hx25,hr⟩:=bind_some hr
 refine ocl 32 (zkt hb19 f22 hx25) ?_
 rintro _ κ30 ⟨s31,a27,c28,rfl,hb26,f29⟩
 replace hs:=hs.tr0 s31
 refine op 29 (.tuple #[iv x25.1,sl a27 x25.2.length c28]) (op 33 (iv x25.1) (op 34 (sl a27 x25.2.length c28) (op 10 (iv x25.1) (op 11 (sl a27 x25.2.length c28) (otx (op 35 (iv x25.1) (op 36 (iv p2) (op 37 (bW (x25.1≥p2)) (op 6 (bW (x25.1≥p2)) ?_)))))))))
 refine op 7 (iv 0) (ot (crt ?_))
 obtain rfl:=sj hr
 refine rt [.tmp 6,.tmp 7] [bW (x25.1≥p2),iv 0] ⟨rfl,rfl,trivial⟩ ?_
 exact ⟨hs,rfl,(show I64 0 by unfold I64;omega)⟩
theorem znv {κ:K} {p0:TS×(LP)×Int} {pb0 po0:Nat} {a1:OA} {c2:Nat} {a4:OA} {c5:Nat} {a7:OA} {c8:Nat} (m0:At κ pb0 po0 [sl a1 p0.1.1.length c2,sl a4 p0.1.2.length c5,sl a7 p0.2.1.length c8,iv p0.2.2]) (f3:Sl tGlue κ a1 c2 p0.1.1) (f6:Sl zQ κ a4 c5 p0.1.2) (f9:Sl tPlaced κ a7 c8 p0.2.1) (hb10:I64 p0.2.2) {r:Bool} (hr:ziG p0=some r) :
 Fn Tryz.prog 12 #[pt pb0 po0] κ (fun v κ'=>Step [] κ κ'∧v=.bool r):=by
 refine fnc 56 [] Tryz.func12 Tryz.ntmps12 fun hs=>csr (op 2 (.bool false) (ot (cs ?_)))
 refine zl (fun Z=>∀ (y11:Bool) (E0:Env) (κ12:K) (hs:Step [] κ κ12),zdF p0 y11=some r→cwp Tryz.prog 56 (sub (zC Tryz.f12) [1,0,1]) Z (upd (upd (E0) 0 (pt pb0 po0)) 36 (.bool y11)) κ12) ?_ fun J1=>?_
 ·intro y11 E0 κ12 hs hr
  refine cc (y11) hr ?_ ?_
  ·intro hc hr
   refine csr (op 2 (.bool false) (ot (crt (zb ?_))))
   obtain rfl:=sj hr
   refine rt [.tmp 2] [.bool false] ⟨rfl,trivial⟩ ?_
   exact ⟨hs,rfl⟩
  intro hc hr
  refine ckt (cs (cx_ 15 [0,1,2,3,4,5,6,7,8,9,10,11,12,13,14] [10] 15 [] (xp 38 (pt pb0 po0) (xp 39 (pt pb0 po0) (xp 40 (pt pb0 po0) (xp 41 (pt pb0 po0) (xp 42 (pt pb0 po0) (xp 43 (pt pb0 (po0+2)) (xp 44 (pt pb0 po0) ?_)))))))))
  refine xp 45 (pt pb0 po0) (xp 46 (pt pb0 (po0+3)) (x1 47 2 (iv p0.2.2) (m0.step0 hs) 3 rfl ?_))
  obtain ⟨x13,hx13,hr⟩:=bind_some hr
  refine xcl 48 (zk8 ((m0.step0 hs).part 0 2) (f3.step hs) (f6.step hs) ((m0.step0 hs).part 2 1) (f9.step hs) hb10 hx13) ?_
  rintro _ κ15 ⟨s16,rfl,hb14⟩
  refine ⟨s16,?_⟩
  replace hs:=hs.tr0 s16
  refine xp 37 (.tuple #[.bool x13.1,iv x13.2]) (xp 49 (.bool x13.1) (xp 50 (iv x13.2) (xp 3 (.bool x13.1) (xe (op 4 (iv x13.2) (otx (op 51 (.bool x13.1) ?_)))))))
  refine osp 52 (x13.1) hr ?_ ?_
  ·intro hg hr
   refine os 53 (os 54 (op 55 (.bool false) (op 2 (.bool false) (ot (crt ?_)))))
   obtain rfl:=sj hr
   refine rt [.tmp 2] [.bool false] ⟨rfl,trivial⟩ ?_
   exact ⟨hs,rfl⟩
  intro hg hr
  refine op 53 (iv x13.2) (op 54 (bW (x13.2=0)) (op 55 (bW (x13.2=0)) (op 2 (bW (x13.2=0)) (ot (crt ?_)))))
  obtain rfl:=sj hr
  refine rt [.tmp 2] [bW (x13.2=0)] ⟨rfl,trivial⟩ ?_
  exact ⟨hs,rfl⟩
 refine cs (cx_ 12 [0,1,2,3,4,5,6,7,8,9,10,11] [3] 12 [] (xp 5 (pt pb0 po0) (xp 6 (pt pb0 po0) (xp 7 (pt pb0 po0) ?_))))
 obtain ⟨x17,hx17,hr⟩:=bind_some hr
 refine xcl 8 (znx ((m0.step0 hs).part 0 2) f3 f6 hx17) ?_
 rintro _ κ18 ⟨s19,rfl⟩
 refine ⟨s19,?_⟩
 replace hs:=hs.tr0 s19
 refine xp 9 (.bool (!x17)) ?_
 refine xsp 10 (!x17) hr ?_ ?_
 ·intro hg hr
  refine xp 11 (pt pb0 po0) (xp 12 (pt pb0 po0) (xp 13 (pt pb0 po0) (xp 14 (pt pb0 po0) (xp 15 (pt pb0 po0) (xp 16 (pt pb0 (po0+2)) (xe ?_))))))
  obtain ⟨x20,hx20,hr⟩:=bind_some hr
  refine ocl 17 (znw ((m0.step0 hs).part 0 2) (f3.step hs) (f6.step hs) ((m0.step0 hs).part 2 1) (f9.step hs) hx20) ?_
  rintro _ κ21 ⟨s22,rfl⟩
  replace hs:=hs.tr0 s22
  refine op 18 (.bool (!x20)) (op 19 (.bool (!x20)) ?_)
  refine osp 20 (!x20) hr ?_ ?_
  ·intro hg hr
   refine op 21 (pt pb0 po0) (op 22 (pt pb0 po0) (op 23 (pt pb0 (po0+2)) (op 24 (pt pb0 (po0+2)) (o1 25 26 (sl a7 p0.2.1.length c8) ((m0.step0 hs).one (o:=2) rfl) (op 26 (iv (p0.2.1.length:Int)) (op 27 (bW ((p0.2.1.length:Int)=0)) (op 28 (bW ((p0.2.1.length:Int)=0)) ?_)))))))
   refine osp 29 (decide ((p0.2.1.length:Int)=0)) hr ?_ ?_
   ·intro hg hr
    refine op 30 (pt pb0 po0) (op 31 (pt pb0 po0) (op 32 (pt pb0 (po0+3)) (o1 33 2 (iv p0.2.2) ((m0.step0 hs).one (o:=3) rfl) ?_)))
    obtain ⟨x23,hx23,hr⟩:=bind_some hr
    refine ocl 34 (ziH hb10 hx23) ?_
    rintro _ _ ⟨rfl,rfl⟩
    refine op 35 (.bool (!x23)) (op 36 (.bool (!x23)) (ot ?_))
    exact zk (eA 36 (eA 0 rfl)) (J1 (!x23)  _ _ hs  hr)
   intro hg hr
   refine os 30 (os 31 (os 32 (os 33 (os 34 (os 35 (op 36 (.bool true) (ot ?_)))))))
   exact zk (eA 36 (eA 0 rfl)) (J1 true  _ _ hs  hr)
  intro hg hr
  refine os 21 (os 22 (os 23 (os 24 (os 25 (os 26 (os 27 (op 28 (.bool true) (op 29 (.bool true) (os 30 ?_)))))))))
  refine os 31 (os 32 (os 33 (os 34 (os 35 (op 36 (.bool true) (ot ?_))))))
  exact zk (eA 36 (eA 0 rfl)) (J1 true  _ _ hs  hr)
 intro hg hr
 refine xs 11 (xs 12 (xs 13 (xs 14 (xs 15 (xs 16 (xe (os 17 (os 18 (op 19 (.bool true) ?_)))))))))
 refine op 20 (.bool true) (os 21 (os 22 (os 23 (os 24 (os 25 (os 26 (os 27 (op 28 (.bool true) (op 29 (.bool true) ?_)))))))))
 refine os 30 (os 31 (os 32 (os 33 (os 34 (os 35 (op 36 (.bool true) (ot ?_)))))))
 exact zk (eA 36 (eA 0 rfl)) (J1 true  _ _ hs  hr)
theorem zkx {κ:K} {p0:BS} (hb1:p0.length≤9223372036854775807) {r:(TS×(LP)×Int)×Int×Int} (hr:ze8 p0=some r) :
 Fn Tryz.prog 4 #[strV p0] κ (fun v κ'=>Step [] κ κ'∧∃ (a2:OA) (c3:Nat) (a5:OA) (c6:Nat) (a8:OA) (c9:Nat),v=.tuple #[.agg #[sl a2 r.1.1.1.length c3,sl a5 r.1.1.2.length c6,sl a8 r.1.2.1.length c9,iv r.1.2.2],iv r.2.1,iv r.2.2]∧Sl tGlue κ' a2 c3 r.1.1.1∧Sl zQ κ' a5 c6 r.1.1.2∧Sl tPlaced κ' a8 c9 r.1.2.1∧I64 r.1.2.2∧I64 r.2.1∧I64 r.2.2):=by
 refine fnc 40 [] Tryz.func4 Tryz.ntmps4 fun hs=>csr (zz (d:=2) (T:=30) (κ.H.size,4001) hs.1 [sl none 0 0,sl none 0 0,sl none 0 0,iv 0] kr kr kr fun b14 κ15 s16 B_b14=>?_)
 replace hs:=hs.tr0 s16
 refine op 3 (iv 0) (op 4 (iv 0) (ot (cs (csr (op 9 (strV p0) (op 10 (iv (p0.length:Int)) (op 11 (bW ((p0.length:Int)>20000)) (ot ?_))))))))
 refine cc (decide ((p0.length:Int)>20000)) hr ?_ ?_
 ·intro hc hr
  refine csr (op 12 (.agg #[sl none 0 0,sl none 0 0,sl none 0 0,iv 0]) (zn (b:=b14) (off:=0) (T:=30) (.agg #[sl none 0 0,sl none 0 0,sl none 0 0,iv 0]) [sl none 0 0,sl none 0 0,sl none 0 0,iv 0] [sl none 0 0,sl none 0 0,sl none 0 0,iv 0] kr kr B_b14 rfl kr kr kr rfl fun κ17 s18 _ NB_b14=>?_))
  replace hs:=hs.trB B_b14.ge s18
  replace B_b14:=NB_b14
  refine op 3 (iv 0) (op 4 (iv 2) (ot (crt (zb ?_))))
  obtain rfl:=sj hr
  refine rt [.cell 2 30,.tmp 3,.tmp 4] [.agg #[sl none 0 0,sl none 0 0,sl none 0 0,iv 0],iv 0,iv 2] ⟨⟨b14,0,[sl none 0 0,sl none 0 0,sl none 0 0,iv 0],rfl,rfl,kr,kr,(B_b14.at.part 0 4).2⟩,rfl,rfl,trivial⟩ ?_
  exact ⟨hs,_,_,_,_,_,_,rfl,(Sl.nil _ _),(Sl.nil _ _),(Sl.nil _ _),(show I64 0 by unfold I64;omega),(show I64 0 by unfold I64;omega),(show I64 2 by unfold I64;omega)⟩
 intro hc hr
 refine ckt (csr (op 13 (.agg #[sl none 0 0,sl none 0 0,sl none 0 0,iv 0]) (zz (d:=5) (T:=30) (κ.H.size,4002) hs.1 [sl none 0 0,sl none 0 0,sl none 0 0,iv 0] kr kr kr fun b19 κ20 s21 B_b19=>?_)))
 replace hs:=hs.tr0 s21
 replace B_b14:=B_b14.step0 s21
 refine zn (b:=b19) (off:=0) (T:=30) (.agg #[sl none 0 0,sl none 0 0,sl none 0 0,iv 0]) [sl none 0 0,sl none 0 0,sl none 0 0,iv 0] [sl none 0 0,sl none 0 0,sl none 0 0,iv 0] kr kr B_b19 rfl kr kr kr rfl fun κ22 s23 _ NB_b19=>?_
 replace hs:=hs.trB B_b19.ge s23
 replace B_b14:=B_b14.step s23 (nm1 (B_b14.ne B_b19 (zm (N:=κ.H.size) (M:=κ.H.size) (i:=4001) (j:=4002) kr)))
 replace B_b19:=NB_b19
 refine otx (op 14 (strV p0) ?_)
 obtain ⟨x24,hx24,hr⟩:=bind_some hr
 refine ocl 15 (zlG hb1 hx24) ?_
 rintro _ κ28 ⟨s29,a25,c26,rfl,f27⟩
 replace hs:=hs.tr0 s29
 replace B_b14:=B_b14.step0 s29
 replace B_b19:=B_b19.step0 s29
 refine op 6 (sl a25 x24.length c26) (ot (cs (csr (op 7 (iv 0) (ot (cb 0 ?_))))))
 refine zj 0 (fun Z=>∀ (y46:LG) (y50:LT) (y54:LP) (y58:Int) (a48:OA) (c49:Nat) (a52:OA) (c53:Nat) (a55:OA) (c56:Nat) (E0:Env) (κ60:K) (hs:Step [] κ κ60) (f47:Gr tGlue true (κ.H.size,4003) κ60 94 a48 c49 y46) (f51:Gr zQ true (κ.H.size,4004) κ60 97 a52 c53 y50) (f57:Sl tPlaced κ60 a55 c56 y54) (hb59:I64 y58) (B_b14:Box (κ.H.size,4001) κ60 b14 [sl none 0 0,sl none 0 0,sl none 0 0,iv 0] 30) (B_b19:Box (κ.H.size,4002) κ60 b19 [sl a48 y46.length c49,sl a52 y50.length c53,sl a55 y54.length c56,iv y58] 30),zdm y46 y50 y54 y58=some r→Z (upd (upd (E0) 2 (pt b14 0)) 5 (pt b19 0)) κ60) ?_ fun J1=>?_
 ·intro y46 y50 y54 y58 a48 c49 a52 c53 a55 c56 E0 κ60 hs f47 f51 f57 hb59 B_b14 B_b19 hr
  refine zg (za (cs (csr ?_)))
  obtain ⟨x61,hx61,hr⟩:=bind_some hr
  refine ocl 36 (znv (B_b19.at.part 0 4) f47.sl f51.sl f57 hb59 hx61) ?_
  rintro _ κ62 ⟨s63,rfl⟩
  replace hs:=hs.tr0 s63
  replace f57:=f57.step s63
  replace f47:=f47.step0 s63
  replace f51:=f51.step0 s63
  replace B_b14:=B_b14.step0 s63
  replace B_b19:=B_b19.step0 s63
  refine op 37 (.bool (!x61)) (ot ?_)
  refine cc (!x61) hr ?_ ?_
  ·intro hc hr
   refine csr (op 38 (.agg #[sl none 0 0,sl none 0 0,sl none 0 0,iv 0]) (zn (b:=b14) (off:=0) (T:=30) (.agg #[sl none 0 0,sl none 0 0,sl none 0 0,iv 0]) [sl none 0 0,sl none 0 0,sl none 0 0,iv 0] [sl none 0 0,sl none 0 0,sl none 0 0,iv 0] kr kr B_b14 rfl kr kr kr rfl fun κ64 s65 _ NB_b14=>?_))
   replace hs:=hs.trB B_b14.ge s65
   replace B_b14:=NB_b14
   refine op 3 (iv 0) (op 4 (iv 1) (ot (crt (zb ?_))))
   obtain rfl:=sj hr
   refine rt [.cell 2 30,.tmp 3,.tmp 4] [.agg #[sl none 0 0,sl none 0 0,sl none 0 0,iv 0],iv 0,iv 1] ⟨⟨b14,0,[sl none 0 0,sl none 0 0,sl none 0 0,iv 0],rfl,rfl,kr,kr,(B_b14.at.part 0 4).2⟩,rfl,rfl,trivial⟩ ?_
   exact ⟨hs,_,_,_,_,_,_,rfl,(Sl.nil _ _),(Sl.nil _ _),(Sl.nil _ _),(show I64 0 by unfold I64;omega),(show I64 0 by unfold I64;omega),(show I64 1 by unfold I64;omega)⟩
  intro hc hr
  refine ckt (csr (oN 39 30 [sl a48 y46.length c49,sl a52 y50.length c53,sl a55 y54.length c56,iv y58] (B_b19.at.part 0 4).2 (zn (b:=b14) (off:=0) (T:=30) (.agg #[sl a48 y46.length c49,sl a52 y50.length c53,sl a55 y54.length c56,iv y58]) [sl a48 y46.length c49,sl a52 y50.length c53,sl a55 y54.length c56,iv y58] [sl a48 y46.length c49,sl a52 y50.length c53,sl a55 y54.length c56,iv y58] kr kr B_b14 rfl kr kr kr rfl fun κ66 s67 _ NB_b14=>?_)))
  replace hs:=hs.trB B_b14.ge s67
  replace f57:=f57.step s67
  replace f47:=f47.step s67 (f47.nb B_b14 (zm (N:=κ.H.size) (M:=κ.H.size) (i:=4003) (j:=4001) kr))
  replace f51:=f51.step s67 (f51.nb B_b14 (zm (N:=κ.H.size) (M:=κ.H.size) (i:=4004) (j:=4001) kr))
  replace B_b14:=NB_b14
  refine op 3 (iv 0) (op 4 (iv 0) (ot (crt ?_)))
  obtain rfl:=sj hr
  refine rt [.cell 2 30,.tmp 3,.tmp 4] [.agg #[sl a48 y46.length c49,sl a52 y50.length c53,sl a55 y54.length c56,iv y58],iv 0,iv 0] ⟨⟨b14,0,[sl a48 y46.length c49,sl a52 y50.length c53,sl a55 y54.length c56,iv y58],rfl,rfl,kr,kr,(B_b14.at.part 0 4).2⟩,rfl,rfl,trivial⟩ ?_
  exact ⟨hs,_,_,_,_,_,_,rfl,f47.sl,f51.sl,f57,hb59,(show I64 0 by unfold I64;omega),(show I64 0 by unfold I64;omega)⟩
 obtain ⟨x68,hx68,hrx68⟩:=bind_some hr
 refine zo (F:=zV x24) (J:=fun (sx68:Int×LG×LT×LP×Int) (E':Env) (κ':K)=>∃ (a34:OA) (c35:Nat) (a38:OA) (c39:Nat) (a41:OA) (c42:Nat),(∃ E0,E'=upd (upd (upd (upd (E0) 2 (pt b14 0)) 5 (pt b19 0)) 6 (sl a25 x24.length c26)) 7 (iv sx68.1))∧Step [] κ κ'∧I64 sx68.1∧Gr tGlue true (κ.H.size,4003) κ' 94 a34 c35 sx68.2.1∧Gr zQ true (κ.H.size,4004) κ' 97 a38 c39 sx68.2.2.1∧Sl tPlaced κ' a41 c42 sx68.2.2.2.1∧I64 sx68.2.2.2.2∧Sl tStr κ' a25 c26 x24∧Box (κ.H.size,4001) κ' b14 [sl none 0 0,sl none 0 0,sl none 0 0,iv 0] 30∧Box (κ.H.size,4002) κ' b19 [sl a34 sx68.2.1.length c35,sl a38 sx68.2.2.1.length c39,sl a41 sx68.2.2.2.1.length c42,iv sx68.2.2.2.2] 30) (s0:=(0,[],[],[],0)) (x:=x68) kr hx68 ⟨_,_,_,_,_,_,⟨_,(eA 7 (eA 6 (eA 5 (eA 2 rfl))))⟩,hs,(show I64 0 by unfold I64;omega),Gr.nil,Gr.nil,(Sl.nil _ _),(show I64 0 by unfold I64;omega),f27,B_b14,B_b19⟩ ?_
 rintro sx68 _ κ69 ⟨a34,c35,a38,c39,a41,c42,⟨E0,rfl⟩,hs,hb31,f33,f37,f43,hb45,f27,B_b14,B_b19⟩ yyx68 hr hdx68
 refine cs (csr (op 16 (iv sx68.1) (op 17 (sl a25 x24.length c26) (op 18 (iv (x24.length:Int)) (op 19 (bW (sx68.1<(x24.length:Int))) (ot ?_))))))
 refine cc (decide (sx68.1<(x24.length:Int))) hr ?_ ?_
 ·intro hc hr
  refine ckt (cs (cb 1 (csr (op 22 (sl a25 x24.length c26) (op 23 (iv sx68.1) ?_)))))
  obtain ⟨x70,hx70,hr⟩:=bind_some hr
  obtain ⟨b71,o72,eab71,i0x70,i1x70,csx70,p_b71,owx70⟩:=f27.idx hx70
  obtain ⟨rfl,hb73⟩:=owx70
  replace p_b71:PubAt κ69 b71 (o72+sx68.1.toNat*1) [strV x70]:=p_b71
  refine oi 24 36 9 1 x24.length c26 .i64 sx68.1 eab71 i0x70 i1x70 (o1 25 9 (strV x70) (p_b71.at.one (o:=0) rfl) ?_)
  obtain ⟨x74,hx74,hr⟩:=bind_some hr
  refine ocl 26 (zlF hb73 hx74) ?_
  rintro _ κ78 ⟨s79,a75,c76,rfl,f77⟩
  replace hs:=hs.tr0 s79
  replace f27:=f27.step s79
  replace f43:=f43.step s79
  replace f33:=f33.step0 s79
  replace f37:=f37.step0 s79
  replace B_b14:=B_b14.step0 s79
  replace B_b19:=B_b19.step0 s79
  refine op 27 (iv sx68.1) (op 28 (bW (sx68.1=0)) ?_)
  obtain ⟨x80,hx80,hr⟩:=bind_some hr
  refine ocl 29 (zmk (p0:=((sx68.2.1,sx68.2.2.1),sx68.2.2.2)) B_b19 f33 (show ((κ.H.size,4003):Tag).1<_ from B_b19.tlt) f37 (show ((κ.H.size,4004):Tag).1<_ from B_b19.tlt) f43 hb45 f77 (zm (N:=κ.H.size) (M:=κ.H.size) (i:=4002) (j:=4003) kr) (zm (N:=κ.H.size) (M:=κ.H.size) (i:=4002) (j:=4004) kr) (zm (N:=κ.H.size) (M:=κ.H.size) (i:=4003) (j:=4004) kr) hx80) ?_
  rintro _ κ92 ⟨s93,a82,c83,a85,c86,a88,c89,rfl,hb81,NB_b19,f84,ow_f84,f87,ow_f87,f90,hb91⟩
  clear ow_f84
  clear ow_f87
  replace hs:=hs.trM (zeZ (zeZ (zo7 B_b19.ge) (znA (f33.own (Nat.le_refl _)))) (znA (f37.own (Nat.le_refl _)))) s93
  replace f27:=f27.step s93
  replace f43:=f43.step s93
  replace B_b14:=B_b14.step s93 (zq6 (zq6 (nm1 (B_b14.ne B_b19 (zm (N:=κ.H.size) (M:=κ.H.size) (i:=4001) (j:=4002) kr))) (f33.bn B_b14 (zm (N:=κ.H.size) (M:=κ.H.size) (i:=4001) (j:=4003) kr))) (f37.bn B_b14 (zm (N:=κ.H.size) (M:=κ.H.size) (i:=4001) (j:=4004) kr)))
  replace B_b19:=NB_b19
  refine op 8 (iv x80.1) (otx (op 30 (iv x80.1) (op 31 (.bool (!decide (x80.1=0))) (ot ?_))))
  refine cc (!decide (x80.1=0)) hr ?_ ?_
  ·intro hc hr
   refine csr (op 32 (.agg #[sl none 0 0,sl none 0 0,sl none 0 0,iv 0]) (op 33 (iv sx68.1) (op 34 (iv (w64 (sx68.1+1))) (op 35 (iv x80.1) (zn (b:=b14) (off:=0) (T:=30) (.agg #[sl none 0 0,sl none 0 0,sl none 0 0,iv 0]) [sl none 0 0,sl none 0 0,sl none 0 0,iv 0] [sl none 0 0,sl none 0 0,sl none 0 0,iv 0] kr kr B_b14 rfl kr kr kr rfl fun κ94 s95 _ NB_b14=>?_)))))
   replace hs:=hs.trB B_b14.ge s95
   replace B_b14:=NB_b14
   refine op 3 (iv (w64 (sx68.1+1))) (op 4 (iv x80.1) (ot (crt (zf (zb ?_)))))
   have hx:=hdx68 _ (sj hr).symm
   subst hx
   replace hr:=hrx68
   refine zt (zf (zb ?_))
   obtain rfl:=sj hr
   refine rt [.cell 2 30,.tmp 3,.tmp 4] [.agg #[sl none 0 0,sl none 0 0,sl none 0 0,iv 0],iv (w64 (sx68.1+1)),iv x80.1] ⟨⟨b14,0,[sl none 0 0,sl none 0 0,sl none 0 0,iv 0],rfl,rfl,kr,kr,(B_b14.at.part 0 4).2⟩,rfl,rfl,trivial⟩ ?_
   exact ⟨hs,_,_,_,_,_,_,rfl,(Sl.nil _ _),(Sl.nil _ _),(Sl.nil _ _),(show I64 0 by unfold I64;omega),(zq _),hb81⟩
  intro hc hr
  refine ck (zd (za (cr (op 20 (iv sx68.1) (op 21 (iv (w64 (sx68.1+1))) (op 7 (iv (w64 (sx68.1+1))) (oe ?_)))))))
  exact ze (sj hr).symm ⟨_,_,_,_,_,_,⟨_,(eA 7 (eA 6 (eA 5 (eA 2 rfl))))⟩,hs,(zq _),f84,f87,f90,hb91,f27,B_b14,B_b19⟩
 intro hc hr
 refine cx 0 (zh ?_)
 have hx:=hdx68 _ (sj hr).symm
 subst hx
 replace hr:=hrx68
 refine zi ?_
 exact zr (eA 5 (eA 2 rfl)) (J1 sx68.2.1 sx68.2.2.1 sx68.2.2.2.1 sx68.2.2.2.2 _ _ _ _ _ _ _ _ hs f33 f37 f43 hb45 B_b14 B_b19 hr)
theorem zbh {κ:K} {p0:Int} {p1:Int} {p2:Int} (hb1:I64 p0) (hb2:I64 p1) (hb3:I64 p2) {r:Bool} (hr:zbi p0 p1 p2=some r) :
 Fn Tryz.prog 93 #[iv p0,iv p1,iv p2] κ (fun v κ'=>κ=κ'∧v=.bool r):=by
 refine fnc 15 [] Tryz.func93 Tryz.ntmps93 fun hs=>csr (op 6 (.bool false) (otx (op 7 (iv p0) (op 8 (iv p1) (op 9 (bW (p0≥p1)) ?_)))))
 refine osp 10 (decide (p0≥p1)) hr ?_ ?_
 ·intro hg hr
  refine os 11 (os 12 (os 13 (op 14 (.bool false) (op 6 (.bool false) (ot (crt ?_))))))
  obtain rfl:=sj hr
  refine rt [.tmp 6] [.bool false] ⟨rfl,trivial⟩ ?_
  exact ⟨rfl,rfl⟩
 intro hg hr
 refine op 11 (iv p0) (op 12 (iv p2) (op 13 (bW (p0≤p2)) (op 14 (bW (p0≤p2)) (op 6 (bW (p0≤p2)) (ot (crt ?_))))))
 obtain rfl:=sj hr
 refine rt [.tmp 6] [bW (p0≤p2)] ⟨rfl,trivial⟩ ?_
 exact ⟨rfl,rfl⟩
theorem zmz {κ:K} {p0:Int} (hb1:I64 p0) (G0:Glob κ) {r:BS} (hr:ziY p0=some r) :
 Fn Tryz.prog 94 #[iv p0] κ (fun v κ'=>Step [] κ κ'∧v=strV r∧r.length≤9223372036854775807):=by
 refine fnc 5 [] Tryz.func94 Tryz.ntmps94 fun hs=>csr (op 2 (strV ([]:BS)) (otx (op 3 (iv p0) ?_)))
 obtain ⟨x3,hx3,hr⟩:=bind_some hr
 refine ocl 4 (zjp hb1 (show I64 10 by unfold I64;omega) (G0.step hs) hx3) ?_
 rintro _ κ5 ⟨s6,rfl,hb4⟩
 replace hs:=hs.tr0 s6
 refine op 2 (strV x3) (ot (crt ?_))
 obtain rfl:=sj hr
 refine rt [.tmp 2] [strV x3] ⟨rfl,trivial⟩ ?_
 exact ⟨hs,rfl,hb4⟩
theorem zcS {κ:K} {p0:BS} (hb1:p0.length≤9223372036854775807) (G0:Glob κ) {r:Int×Bool} (hr:zap p0=some r) :
 Fn Tryz.prog 62 #[strV p0] κ (fun v κ'=>Step [] κ κ'∧v=.tuple #[iv r.1,.bool r.2]∧I64 r.1):=by
 refine fnc 25 [] Tryz.func62 Tryz.ntmps62 fun hs=>csr (op 2 (iv 0) (op 3 (.bool false) (otx (op 7 (strV p0) ?_))))
 obtain ⟨x3,hx3,hr⟩:=bind_some hr
 refine ocl 8 (zj9 hb1 (show I64 10 by unfold I64;omega) (show I64 64 by unfold I64;omega) (G0.step hs) hx3) ?_
 rintro _ κ7 ⟨s8,v5,rfl,hb4,f6⟩
 replace hs:=hs.tr0 s8
 refine op 6 (.tuple #[iv x3.1,v5]) (op 9 (iv x3.1) (op 10 (v5) (op 4 (iv x3.1) (op 5 (v5) (ot (cs ?_))))))
 refine zl (fun Z=>∀ (y9:Bool) (E0:Env) (κ10:K) (hs:Step [] κ κ10),zbN x3 y9=some r→cwp Tryz.prog 25 (sub (zC Tryz.f62) [1,0,1,1]) Z (upd (upd (E0) 4 (iv x3.1)) 23 (.bool y9)) κ10) ?_ fun J1=>?_
 ·intro y9 E0 κ10 hs hr
  refine cc (y9) hr ?_ ?_
  ·intro hc hr
   refine csr (op 2 (iv 0) (op 3 (.bool false) (ot (crt (zb ?_)))))
   obtain rfl:=sj hr
   refine rt [.tmp 2,.tmp 3] [iv 0,.bool false] ⟨rfl,rfl,trivial⟩ ?_
   exact ⟨hs,rfl,(show I64 0 by unfold I64;omega)⟩
  intro hc hr
  refine ckt (csr (op 24 (iv x3.1) (op 2 (iv x3.1) (op 3 (.bool true) (ot (crt ?_))))))
  obtain rfl:=sj hr
  refine rt [.tmp 2,.tmp 3] [iv x3.1,.bool true] ⟨rfl,rfl,trivial⟩ ?_
  exact ⟨hs,rfl,hb4⟩
 refine csr (op 11 (v5) (oq 12 (.bool (!x3.2.isNil)) (fun w=>by rcases zsm f6 with ⟨hv,h2⟩ | ⟨t,b,hv,h2⟩<;>(subst hv;rw [h2];kernel_rfl)) ?_))
 refine osp 13 (!x3.2.isNil) hr ?_ ?_
 ·intro hg hr
  refine op 14 (iv x3.1) ?_
  obtain ⟨x11,hx11,hr⟩:=bind_some hr
  refine ocl 15 (zbh hb4 (show I64 (-1000000000) by unfold I64;omega) (show I64 1000000000 by unfold I64;omega) hx11) ?_
  rintro _ _ ⟨rfl,rfl⟩
  refine op 16 (.bool (!x11)) (op 17 (.bool (!x11)) ?_)
  refine osp 18 (!x11) hr ?_ ?_
  ·intro hg hr
   refine op 19 (iv x3.1) ?_
   obtain ⟨x13,hx13,hr⟩:=bind_some hr
   refine ocl 20 (zmz hb4 (G0.step hs) hx13) ?_
   rintro _ κ15 ⟨s16,rfl,hb14⟩
   replace hs:=hs.tr0 s16
   refine op 21 (strV p0) (oq 22 (.bool (!decide (x13=p0))) (fun _=>zch kr) (op 23 (.bool (!decide (x13=p0))) (ot ?_)))
   exact zk (eA 23 (eA 4 rfl)) (J1 (!decide (x13=p0))  _ _ hs  hr)
  intro hg hr
  refine os 19 (os 20 (os 21 (os 22 (op 23 (.bool true) (ot ?_)))))
  exact zk (eA 23 (eA 4 rfl)) (J1 true  _ _ hs  hr)
 intro hg hr
 refine os 14 (os 15 (os 16 (op 17 (.bool true) (op 18 (.bool true) (os 19 (os 20 (os 21 (os 22 (op 23 (.bool true) ?_)))))))))
 refine ot ?_
 exact zk (eA 23 (eA 4 rfl)) (J1 true  _ _ hs  hr)
theorem zhq {κ:K} {p0:BS} {p1:BS} (hb1:p0.length≤9223372036854775807) (hb2:p1.length≤9223372036854775807) {r:BS×BS×Bool} (hr:zcG p0 p1=some r) :
 Fn Tryz.prog 188 #[strV p0,strV p1] κ (fun v κ'=>κ=κ'∧v=.tuple #[strV r.1,strV r.2.1,.bool r.2.2]∧r.1.length≤9223372036854775807∧r.2.1.length≤9223372036854775807):=by
 refine fnc 23 [] Tryz.func188 Tryz.ntmps188 fun hs=>csr (op 4 (strV ([]:BS)) (op 5 (strV ([]:BS)) (op 6 (.bool false) (ot (cs (csr (op 8 (strV p0) (op 9 (strV p1) ?_))))))))
 obtain ⟨x5,hx5,hr⟩:=bind_some hr
 refine ocl 10 (zjm hb1 hb2 hx5) ?_
 rintro _ _ ⟨rfl,rfl,hb6⟩
 refine op 7 (iv x5) (otx (op 11 (iv x5) (op 12 (bW (x5≥0)) (ot ?_))))
 refine cc (decide (x5≥0)) hr ?_ ?_
 ·intro hc hr
  refine cs (cd 10 (dp 13 (strV p0) (dp 14 (iv x5) ?_)))
  obtain ⟨x8,hx8,hr⟩:=bind_some hr
  refine dq 15 (strV x8) (fun _=>zdn (T:=9) (s:=p0) (lo:=none) (hi:=(some x5)) kr kr hx8) (dp 16 (strV p0) (dp 17 (iv x5) (dp 18 (strV p1) (dp 19 (iv (p1.length:Int)) (dp 20 (iv (w64 (x5+(p1.length:Int)))) ?_)))))
  obtain ⟨x9,hx9,hr⟩:=bind_some hr
  refine dq 21 (strV x9) (fun _=>zdn (T:=9) (s:=p0) (lo:=(some (w64 (x5+(p1.length:Int))))) (hi:=none) kr kr hx9) (dp 4 (strV x8) (de (op 5 (strV x9) (op 6 (.bool true) (ot (crt (zb ?_)))))))
  obtain rfl:=sj hr
  refine rt [.tmp 4,.tmp 5,.tmp 6] [strV x8,strV x9,.bool true] ⟨rfl,rfl,rfl,trivial⟩ ?_
  exact ⟨rfl,rfl,(zd3 hx8 hb1),(zd3 hx9 hb1)⟩
 intro hc hr
 refine ckt (csr (op 22 (strV p0) (op 4 (strV p0) (op 5 (strV ([]:BS)) (op 6 (.bool false) (ot (crt ?_)))))))
 obtain rfl:=sj hr
 refine rt [.tmp 4,.tmp 5,.tmp 6] [strV p0,strV ([]:BS),.bool false] ⟨rfl,rfl,rfl,trivial⟩ ?_
 exact ⟨rfl,rfl,hb1,(by simp)⟩
theorem zmL {κ:K} {p0:BS} {p1:BS} (hb1:p0.length≤9223372036854775807) (hb2:p1.length≤9223372036854775807) {r:BS×BS×Bool} (hr:zjo p0 p1=some r) :
 Fn Tryz.prog 150 #[strV p0,strV p1] κ (fun v κ'=>κ=κ'∧v=.tuple #[strV r.1,strV r.2.1,.bool r.2.2]∧r.1.length≤9223372036854775807∧r.2.1.length≤9223372036854775807):=by
 refine fnc 13 [] Tryz.func150 Tryz.ntmps150 fun hs=>csr (op 4 (strV ([]:BS)) (op 5 (strV ([]:BS)) (op 6 (.bool false) (otx (op 7 (strV p0) (op 8 (strV p1) ?_))))))
 obtain ⟨x5,hx5,hr⟩:=bind_some hr
 refine ocl 9 (zhq hb1 hb2 hx5) ?_
 rintro _ _ ⟨rfl,rfl,hb6,hb7⟩
 refine op 10 (strV x5.1) (op 11 (strV x5.2.1) (op 12 (.bool x5.2.2) (op 4 (strV x5.1) (op 5 (strV x5.2.1) (op 6 (.bool x5.2.2) (ot (crt ?_)))))))
 obtain rfl:=sj hr
 refine rt [.tmp 4,.tmp 5,.tmp 6] [strV x5.1,strV x5.2.1,.bool x5.2.2] ⟨rfl,rfl,rfl,trivial⟩ ?_
 exact ⟨rfl,rfl,hb6,hb7⟩
theorem zhF {κ:K} {p0:Int×Int} (hb1:I64 p0.1) (hb2:I64 p0.2) {r:Bool} (hr:zdA p0=some r) :
 Fn Tryz.prog 151 #[.agg #[iv p0.1,iv p0.2]] κ (fun v κ'=>Step [] κ κ'∧v=.bool r):=by
 refine fnc 11 [] Tryz.func151 Tryz.ntmps151 fun hs=>csr (zv (d:=1) (T:=100) (κ.H.size,151001) hs.1 (.agg #[iv p0.1,iv p0.2]) [iv p0.1,iv p0.2] kr kr rfl fun b3 κ4 s5 B_b3=>?_)
 replace hs:=hs.tr0 s5
 refine op 2 (.bool false) (otx (op 3 (pt b3 0) (o1 4 2 (iv p0.1) (B_b3.at.one (o:=0) rfl) ?_)))
 obtain ⟨x6,hx6,hr⟩:=bind_some hr
 refine ocl 5 (zbh hb1 (show I64 (-60) by unfold I64;omega) (show I64 60 by unfold I64;omega) hx6) ?_
 rintro _ _ ⟨rfl,rfl⟩
 refine osp 6 (x6) hr ?_ ?_
 ·intro hg hr
  refine os 7 (os 8 (os 9 (op 10 (.bool false) (op 2 (.bool false) (ot (crt ?_))))))
  obtain rfl:=sj hr
  refine rt [.tmp 2] [.bool false] ⟨rfl,trivial⟩ ?_
  exact ⟨hs,rfl⟩
 intro hg hr
 refine op 7 (pt b3 1) (o1 8 2 (iv p0.2) (B_b3.at.one (o:=1) rfl) ?_)
 obtain ⟨x8,hx8,hr⟩:=bind_some hr
 refine ocl 9 (zbh hb2 (show I64 (-60) by unfold I64;omega) (show I64 60 by unfold I64;omega) hx8) ?_
 rintro _ _ ⟨rfl,rfl⟩
 refine op 10 (.bool x8) (op 2 (.bool x8) (ot (crt ?_)))
 obtain rfl:=sj hr
 refine rt [.tmp 2] [.bool x8] ⟨rfl,trivial⟩ ?_
 exact ⟨hs,rfl⟩
theorem zls {κ:K} {p0:BS} (hb1:p0.length≤9223372036854775807) (G0:Glob κ) {r:(Int×Int)×Bool} (hr:zga p0=some r) :
 Fn Tryz.prog 121 #[strV p0] κ (fun v κ'=>Step [] κ κ'∧v=.tuple #[.agg #[iv r.1.1,iv r.1.2],.bool r.2]∧I64 r.1.1∧I64 r.1.2):=by
 refine fnc 44 [] Tryz.func121 Tryz.ntmps121 fun hs=>csr (zz (d:=2) (T:=100) (κ.H.size,121001) hs.1 [iv 0,iv 0] kr kr kr fun b4 κ5 s6 B_b4=>?_)
 replace hs:=hs.tr0 s6
 refine op 3 (.bool false) (otx (op 13 (strV p0) ?_))
 obtain ⟨x7,hx7,hr⟩:=bind_some hr
 refine ocl 14 (zmL hb1 (by simp) hx7) ?_
 rintro _ _ ⟨rfl,rfl,hb8,hb9⟩
 refine op 12 (.tuple #[strV x7.1,strV x7.2.1,.bool x7.2.2]) (op 15 (strV x7.1) (op 16 (strV x7.2.1) (op 17 (.bool x7.2.2) (op 4 (strV x7.1) (op 5 (strV x7.2.1) (op 6 (.bool x7.2.2) (otx (op 19 (strV x7.1) ?_))))))))
 obtain ⟨x11,hx11,hr⟩:=bind_some hr
 refine ocl 20 (zcS hb8 (G0.step hs) hx11) ?_
 rintro _ κ13 ⟨s14,rfl,hb12⟩
 replace hs:=hs.tr0 s14
 replace B_b4:=B_b4.step0 s14
 refine op 18 (.tuple #[iv x11.1,.bool x11.2]) (op 21 (iv x11.1) (op 22 (.bool x11.2) (op 7 (iv x11.1) (op 8 (.bool x11.2) (otx (op 24 (strV x7.2.1) ?_))))))
 obtain ⟨x15,hx15,hr⟩:=bind_some hr
 refine ocl 25 (zcS hb9 (G0.step hs) hx15) ?_
 rintro _ κ17 ⟨s18,rfl,hb16⟩
 replace hs:=hs.tr0 s18
 replace B_b4:=B_b4.step0 s18
 refine op 23 (.tuple #[iv x15.1,.bool x15.2]) (op 26 (iv x15.1) (op 27 (.bool x15.2) (op 9 (iv x15.1) (op 10 (.bool x15.2) (otx (op 28 (iv x11.1) (op 29 (iv x15.1) (op 30 (.agg #[iv x11.1,iv x15.1]) (zz (d:=11) (T:=100) (κ.H.size,121002) hs.1 [iv 0,iv 0] kr kr kr fun b19 κ20 s21 B_b19=>?_)))))))))
 replace hs:=hs.tr0 s21
 replace B_b4:=B_b4.step0 s21
 refine zn (b:=b19) (off:=0) (T:=100) (.agg #[iv x11.1,iv x15.1]) [iv x11.1,iv x15.1] [iv x11.1,iv x15.1] kr kr B_b19 rfl kr kr kr rfl fun κ22 s23 _ NB_b19=>?_
 replace hs:=hs.trB B_b19.ge s23
 replace B_b4:=B_b4.step s23 (nm1 (B_b4.ne B_b19 (zm (N:=κ.H.size) (M:=κ.H.size) (i:=121001) (j:=121002) kr)))
 replace B_b19:=NB_b19
 refine ot (cs ?_)
 refine zl (fun Z=>∀ (y24:Bool) (E0:Env) (κ25:K) (hs:Step [] κ κ25) (B_b4:Box (κ.H.size,121001) κ25 b4 [iv 0,iv 0] 100) (B_b19:Box (κ.H.size,121002) κ25 b19 [iv x11.1,iv x15.1] 100),zbx x11 x15 y24=some r→cwp Tryz.prog 44 (sub (zC Tryz.f121) [1,0,1,1,1,1,1]) Z (upd (upd (upd (E0) 2 (pt b4 0)) 11 (pt b19 0)) 41 (.bool y24)) κ25) ?_ fun J1=>?_
 ·intro y24 E0 κ25 hs B_b4 B_b19 hr
  refine cc (y24) hr ?_ ?_
  ·intro hc hr
   refine csr (op 42 (.agg #[iv 0,iv 0]) (zn (b:=b4) (off:=0) (T:=100) (.agg #[iv 0,iv 0]) [iv 0,iv 0] [iv 0,iv 0] kr kr B_b4 rfl kr kr kr rfl fun κ26 s27 _ NB_b4=>?_))
   replace hs:=hs.trB B_b4.ge s27
   replace B_b4:=NB_b4
   refine op 3 (.bool false) (ot (crt (zb ?_)))
   obtain rfl:=sj hr
   refine rt [.cell 2 100,.tmp 3] [.agg #[iv 0,iv 0],.bool false] ⟨⟨b4,0,[iv 0,iv 0],rfl,rfl,kr,kr,(B_b4.at.part 0 2).2⟩,rfl,trivial⟩ ?_
   exact ⟨hs,rfl,(show I64 0 by unfold I64;omega),(show I64 0 by unfold I64;omega)⟩
  intro hc hr
  refine ckt (csr (oN 43 100 [iv x11.1,iv x15.1] (B_b19.at.part 0 2).2 (zn (b:=b4) (off:=0) (T:=100) (.agg #[iv x11.1,iv x15.1]) [iv x11.1,iv x15.1] [iv x11.1,iv x15.1] kr kr B_b4 rfl kr kr kr rfl fun κ28 s29 _ NB_b4=>?_)))
  replace hs:=hs.trB B_b4.ge s29
  replace B_b4:=NB_b4
  refine op 3 (.bool true) (ot (crt ?_))
  obtain rfl:=sj hr
  refine rt [.cell 2 100,.tmp 3] [.agg #[iv x11.1,iv x15.1],.bool true] ⟨⟨b4,0,[iv x11.1,iv x15.1],rfl,rfl,kr,kr,(B_b4.at.part 0 2).2⟩,rfl,trivial⟩ ?_
  exact ⟨hs,rfl,hb12,hb16⟩
 refine csr (op 31 (.bool x11.2) (op 32 (.bool (!x11.2)) ?_))
 refine osp 33 (!x11.2) hr ?_ ?_
 ·intro hg hr
  refine op 34 (.bool x15.2) (op 35 (.bool (!x15.2)) (op 36 (.bool (!x15.2)) ?_))
  refine osp 37 (!x15.2) hr ?_ ?_
  ·intro hg hr
   refine oN 38 100 [iv x11.1,iv x15.1] (B_b19.at.part 0 2).2 ?_
   obtain ⟨x30,hx30,hr⟩:=bind_some hr
   refine ocl 39 (zhF hb12 hb16 hx30) ?_
   rintro _ κ31 ⟨s32,rfl⟩
   replace hs:=hs.tr0 s32
   replace B_b4:=B_b4.step0 s32
   replace B_b19:=B_b19.step0 s32
   refine op 40 (.bool (!x30)) (op 41 (.bool (!x30)) (ot ?_))
   exact zk (eA 41 (eA 11 (eA 2 rfl))) (J1 (!x30)  _ _ hs B_b4 B_b19 hr)
  intro hg hr
  refine os 38 (os 39 (os 40 (op 41 (.bool true) (ot ?_))))
  exact zk (eA 41 (eA 11 (eA 2 rfl))) (J1 true  _ _ hs B_b4 B_b19 hr)
 intro hg hr
 refine os 34 (os 35 (op 36 (.bool true) (op 37 (.bool true) (os 38 (os 39 (os 40 (op 41 (.bool true) (ot ?_))))))))
 exact zk (eA 41 (eA 11 (eA 2 rfl))) (J1 true  _ _ hs B_b4 B_b19 hr)
theorem ziu {κ:K} {p0:LT} {a1:OA} {c2:Nat} {p1:(BS×LI)→Option Bool} {fi1:Nat} {cv1:Array Value} (f3:Sl zQ κ a1 c2 p0) (hf1:zdh Tryz.prog fi1=true) (H1:∀ {κ':K},Step [] κ κ'→∀ {q1_0:BS×LI} {a5:OA} {c6:Nat} (hb4:q1_0.1.length≤9223372036854775807) (f7:Sl tI64 κ' a5 c6 q1_0.2) {r:Bool},p1 q1_0=some r→Fn Tryz.prog fi1 (#[.agg #[strV q1_0.1,sl a5 q1_0.2.length c6]]++cv1) κ' (fun v κ''=>Step [] κ' κ''∧v=.bool r)) {r:Int} (hr:zed p0 p1=some r) :
 Fn Tryz.prog 152 #[sl a1 p0.length c2,.func (.func fi1) #[] cv1] κ (fun v κ'=>Step [] κ κ'∧v=iv r∧I64 r):=by
 refine fnc 19 [] Tryz.func152 Tryz.ntmps152 fun hs=>csr (op 4 (iv 0) (ot (cs (csr (op 6 (sl a1 p0.length c2) (op 7 (iv (p0.length:Int)) (op 8 (iv 0) (ot ?_))))))))
 refine cb 0 ?_
 refine zj 0 (fun Z=>∀ (E0:Env) (κ11:K) (hs:Step [] κ κ11),zc5=some r→Z (E0) κ11) ?_ fun J1=>?_
 ·intro E0 κ11 hs hr
  refine zg (za (csr (op 4 (iv (-1)) (ot (crt ?_)))))
  obtain rfl:=sj hr
  refine rt [.tmp 4] [iv (-1)] ⟨rfl,trivial⟩ ?_
  exact ⟨hs,rfl,(show I64 (-1) by unfold I64;omega)⟩
 obtain ⟨x12,hx12,hrx12⟩:=bind_some hr
 refine zo (F:=zc4 p0 p1) (J:=fun (sx12:Int) (E':Env) (κ':K)=>(∃ E0,E'=upd (upd (upd (upd (E0) 0 (sl a1 p0.length c2)) 1 (.func (.func fi1) #[] cv1)) 7 (iv (p0.length:Int))) 8 (iv sx12))∧Step [] κ κ'∧I64 sx12) (s0:=0) (x:=x12) kr hx12 ⟨⟨_,(eA 8 (eA 7 (eA 1 (eA 0 rfl))))⟩,hs,(show I64 0 by unfold I64;omega)⟩ ?_
 rintro sx12 _ κ13 ⟨⟨E0,rfl⟩,hs,hb10⟩ yyx12 hr hdx12
 refine csr (op 9 (bW (sx12<(p0.length:Int))) (ot (cs ?_)))
 refine cc (decide (sx12<(p0.length:Int))) hr ?_ ?_
 ·intro hc hr
  refine ckt (cs (cb 1 (csr (op 10 (iv sx12) (op 5 (iv sx12) (otx (op 11 (.func (.func fi1) #[] cv1) (op 12 (sl a1 p0.length c2) (op 13 (iv sx12) ?_)))))))))
  obtain ⟨x14,hx14,hr⟩:=bind_some hr
  obtain ⟨b15,o16,eab15,i0x14,i1x14,csx14,p_b15,owx14⟩:=(f3.step hs).idx hx14
  obtain ⟨_,_,rfl,⟨rfl,hb17⟩,⟨a18,c19,rfl,f20⟩⟩:=owx14
  replace p_b15:PubAt κ13 b15 (o16+sx12.toNat*2) [strV x14.1,sl a18 x14.2.length c19]:=p_b15
  refine oi 14 23 97 2 p0.length c2 .i64 sx12 eab15 i0x14 i1x14 (oN 15 97 [strV x14.1,sl a18 x14.2.length c19] (p_b15.at.part 0 2).2 ?_)
  obtain ⟨x21,hx21,hr⟩:=bind_some hr
  refine ocl 16 (H1 hs (q1_0:=x14) hb17 f20 hx21) ?_ kr (fun w=>zbP (show _=(callFunc fi1 (#[.agg #[strV x14.1,sl a18 x14.2.length c19]]++cv1)).run _ w by kernel_rfl) hf1)
  rintro _ κ22 ⟨s23,rfl⟩
  replace hs:=hs.tr0 s23
  refine ot ?_
  refine cc (x21) hr ?_ ?_
  ·intro hc hr
   refine csr (op 17 (iv sx12) (op 4 (iv sx12) (ot (crt (zf (zb ?_))))))
   have hx:=hdx12 _ (sj hr).symm
   subst hx
   replace hr:=hrx12
   refine zt (zf (zb ?_))
   obtain rfl:=sj hr
   refine rt [.tmp 4] [iv sx12] ⟨rfl,trivial⟩ ?_
   exact ⟨hs,rfl,hb10⟩
  intro hc hr
  refine ck (zd (za (cr (op 18 (iv (w64 (sx12+1))) (op 8 (iv (w64 (sx12+1))) (oe ?_))))))
  exact ze (sj hr).symm ⟨⟨_,(eA 8 (eA 7 (eA 1 (eA 0 rfl))))⟩,hs,(zq _)⟩
 intro hc hr
 refine cx 0 (zh ?_)
 have hx:=hdx12 _ (sj hr).symm
 subst hx
 replace hr:=hrx12
 refine zi ?_
 exact zr rfl (J1   _ _ hs  hr)
theorem zhb {κ:K} {p0:BS×LI} {a2:OA} {c3:Nat} {p1:BS} {pb1 po1:Nat} (hb1:p0.1.length≤9223372036854775807) (f4:Sl tI64 κ a2 c3 p0.2) (m1:At κ pb1 po1 [strV p1]) (hb5:p1.length≤9223372036854775807) {r:Bool} (hr:zcf p0 p1=some r) :
 Fn Tryz.prog 153 #[.agg #[strV p0.1,sl a2 p0.2.length c3],pt pb1 po1] κ (fun v κ'=>Step [] κ κ'∧v=.bool r):=by
 refine fnc 8 [] Tryz.func153 Tryz.ntmps153 fun hs=>csr (zv (d:=2) (T:=97) (κ.H.size,153001) hs.1 (.agg #[strV p0.1,sl a2 p0.2.length c3]) [strV p0.1,sl a2 p0.2.length c3] kr kr rfl fun b6 κ7 s8 B_b6=>?_)
 replace hs:=hs.tr0 s8
 refine op 3 (.bool false) (otx (op 4 (pt b6 0) (o1 5 9 (strV p0.1) (B_b6.at.one (o:=0) rfl) (o1 6 9 (strV p1) ((m1.step0 hs).one (o:=0) rfl) (oq 7 (bW (p0.1=p1)) (fun _=>zci kr) (op 3 (bW (p0.1=p1)) (ot (crt ?_))))))))
 obtain rfl:=sj hr
 refine rt [.tmp 3] [bW (p0.1=p1)] ⟨rfl,trivial⟩ ?_
 exact ⟨hs,rfl⟩
theorem zhT {κ:K} {p0:LG×LT} {a1:OA} {c2:Nat} {a4:OA} {c5:Nat} {p1:BS} (f3:Sl tGlue κ a1 c2 p0.1) (f6:Sl zQ κ a4 c5 p0.2) (hb7:p1.length≤9223372036854775807) {r:Int} (hr:zaQ p0 p1=some r) :
 Fn Tryz.prog 122 #[.agg #[sl a1 p0.1.length c2,sl a4 p0.2.length c5],strV p1] κ (fun v κ'=>Step [] κ κ'∧v=iv r∧I64 r):=by
 refine fnc 9 [] Tryz.func122 Tryz.ntmps122 fun hs=>csr (zv (d:=2) (T:=25) (κ.H.size,122001) hs.1 (.agg #[sl a1 p0.1.length c2,sl a4 p0.2.length c5]) [sl a1 p0.1.length c2,sl a4 p0.2.length c5] kr kr rfl fun b9 κ10 s11 B_b9=>?_)
 replace hs:=hs.tr0 s11
 refine zv (d:=3) (T:=9) (κ.H.size,122002) hs.1 (strV p1) [strV p1] kr kr rfl fun b12 κ13 s14 B_b12=>?_
 replace hs:=hs.tr0 s14
 replace B_b9:=B_b9.step0 s14
 refine op 4 (iv 0) (otx (op 5 (pt b9 1) (o1 6 23 (sl a4 p0.2.length c5) (B_b9.at.one (o:=1) rfl) (op 7 (.func (.func 153) #[] #[pt b12 0]) ?_))))
 obtain ⟨x19,hx19,hr⟩:=bind_some hr
 refine ocl 8 (ziu (f6.step hs) (fi1:=153) (cv1:=#[pt b12 0]) kr (by intro _ s _ _ _ w0 w1 _ hp;exact zi1 kr ((zhb w0 w1 (B_b12.at.step0 s) hb7 hp))) hx19) ?_
 rintro _ κ21 ⟨s22,rfl,hb20⟩
 replace hs:=hs.tr0 s22
 refine op 4 (iv x19) (ot (crt ?_))
 obtain rfl:=sj hr
 refine rt [.tmp 4] [iv x19] ⟨rfl,trivial⟩ ?_
 exact ⟨hs,rfl,hb20⟩
theorem zit {κ:K} {p0:LP} {a1:OA} {c2:Nat} {p1:((Int×Int)×Int)→Option Bool} {fi1:Nat} {cv1:Array Value} (f3:Sl tPlaced κ a1 c2 p0) (hf1:zdh Tryz.prog fi1=true) (H1:∀ {κ':K},Step [] κ κ'→∀ {q1_0:(Int×Int)×Int} (hb4:I64 q1_0.1.1) (hb5:I64 q1_0.1.2) (hb6:I64 q1_0.2) {r:Bool},p1 q1_0=some r→Fn Tryz.prog fi1 (#[.agg #[iv q1_0.1.1,iv q1_0.1.2,iv q1_0.2]]++cv1) κ' (fun v κ''=>Step [] κ' κ''∧v=.bool r)) {r:Int} (hr:zcz p0 p1=some r) :
 Fn Tryz.prog 154 #[sl a1 p0.length c2,.func (.func fi1) #[] cv1] κ (fun v κ'=>Step [] κ κ'∧v=iv r∧I64 r):=by
 refine fnc 19 [] Tryz.func154 Tryz.ntmps154 fun hs=>csr (op 4 (iv 0) (ot (cs (csr (op 6 (sl a1 p0.length c2) (op 7 (iv (p0.length:Int)) (op 8 (iv 0) (ot ?_))))))))
 refine cb 0 ?_
 refine zj 0 (fun Z=>∀ (E0:Env) (κ10:K) (hs:Step [] κ κ10),zbs=some r→Z (E0) κ10) ?_ fun J1=>?_
 ·intro E0 κ10 hs hr
  refine zg (za (csr (op 4 (iv (-1)) (ot (crt ?_)))))
  obtain rfl:=sj hr
  refine rt [.tmp 4] [iv (-1)] ⟨rfl,trivial⟩ ?_
  exact ⟨hs,rfl,(show I64 (-1) by unfold I64;omega)⟩
 obtain ⟨x11,hx11,hrx11⟩:=bind_some hr
 refine zo (F:=zbr p0 p1) (J:=fun (sx11:Int) (E':Env) (κ':K)=>(∃ E0,E'=upd (upd (upd (upd (E0) 0 (sl a1 p0.length c2)) 1 (.func (.func fi1) #[] cv1)) 7 (iv (p0.length:Int))) 8 (iv sx11))∧Step [] κ κ'∧I64 sx11) (s0:=0) (x:=x11) kr hx11 ⟨⟨_,(eA 8 (eA 7 (eA 1 (eA 0 rfl))))⟩,hs,(show I64 0 by unfold I64;omega)⟩ ?_
 rintro sx11 _ κ12 ⟨⟨E0,rfl⟩,hs,hb9⟩ yyx11 hr hdx11
 refine csr (op 9 (bW (sx11<(p0.length:Int))) (ot (cs ?_)))
 refine cc (decide (sx11<(p0.length:Int))) hr ?_ ?_
 ·intro hc hr
  refine ckt (cs (cb 1 (csr (op 10 (iv sx11) (op 5 (iv sx11) (otx (op 11 (.func (.func fi1) #[] cv1) (op 12 (sl a1 p0.length c2) (op 13 (iv sx11) ?_)))))))))
  obtain ⟨x13,hx13,hr⟩:=bind_some hr
  obtain ⟨b14,o15,eab14,i0x13,i1x13,csx13,p_b14,owx13⟩:=(f3.step hs).idx hx13
  obtain ⟨_,_,rfl,⟨_,_,rfl,⟨rfl,hb16⟩,⟨rfl,hb17⟩⟩,⟨rfl,hb18⟩⟩:=owx13
  replace p_b14:PubAt κ12 b14 (o15+sx11.toNat*3) [iv x13.1.1,iv x13.1.2,iv x13.2]:=p_b14
  refine oi 14 26 108 3 p0.length c2 .i64 sx11 eab14 i0x13 i1x13 (oN 15 108 [iv x13.1.1,iv x13.1.2,iv x13.2] (p_b14.at.part 0 3).2 ?_)
  obtain ⟨x19,hx19,hr⟩:=bind_some hr
  refine ocl 16 (H1 hs (q1_0:=x13) hb16 hb17 hb18 hx19) ?_ kr (fun w=>zbP (show _=(callFunc fi1 (#[.agg #[iv x13.1.1,iv x13.1.2,iv x13.2]]++cv1)).run _ w by kernel_rfl) hf1)
  rintro _ κ20 ⟨s21,rfl⟩
  replace hs:=hs.tr0 s21
  refine ot ?_
  refine cc (x19) hr ?_ ?_
  ·intro hc hr
   refine csr (op 17 (iv sx11) (op 4 (iv sx11) (ot (crt (zf (zb ?_))))))
   have hx:=hdx11 _ (sj hr).symm
   subst hx
   replace hr:=hrx11
   refine zt (zf (zb ?_))
   obtain rfl:=sj hr
   refine rt [.tmp 4] [iv sx11] ⟨rfl,trivial⟩ ?_
   exact ⟨hs,rfl,hb9⟩
  intro hc hr
  refine ck (zd (za (cr (op 18 (iv (w64 (sx11+1))) (op 8 (iv (w64 (sx11+1))) (oe ?_))))))
  exact ze (sj hr).symm ⟨⟨_,(eA 8 (eA 7 (eA 1 (eA 0 rfl))))⟩,hs,(zq _)⟩
 intro hc hr
 refine cx 0 (zh ?_)
 have hx:=hdx11 _ (sj hr).symm
 subst hx
 replace hr:=hrx11
 refine zi ?_
 exact zr rfl (J1   _ _ hs  hr)
theorem zef {κ:K} {p0:LP} {a1:OA} {c2:Nat} {p1:((Int×Int)×Int)→Option Bool} {fi1:Nat} {cv1:Array Value} (f3:Sl tPlaced κ a1 c2 p0) (hf1:zdh Tryz.prog fi1=true) (H1:∀ {κ':K},Step [] κ κ'→∀ {q1_0:(Int×Int)×Int} (hb4:I64 q1_0.1.1) (hb5:I64 q1_0.1.2) (hb6:I64 q1_0.2) {r:Bool},p1 q1_0=some r→Fn Tryz.prog fi1 (#[.agg #[iv q1_0.1.1,iv q1_0.1.2,iv q1_0.2]]++cv1) κ' (fun v κ''=>Step [] κ' κ''∧v=.bool r)) {r:Bool} (hr:zag p0 p1=some r) :
 Fn Tryz.prog 123 #[sl a1 p0.length c2,.func (.func fi1) #[] cv1] κ (fun v κ'=>Step [] κ κ'∧v=.bool r):=by
 refine fnc 9 [] Tryz.func123 Tryz.ntmps123 fun hs=>csr (op 4 (.bool false) (otx (op 5 (sl a1 p0.length c2) (op 6 (.func (.func fi1) #[] cv1) ?_))))
 obtain ⟨x7,hx7,hr⟩:=bind_some hr
 refine ocl 7 (zit f3 (fi1:=fi1) (cv1:=cv1) hf1 (fun s=>H1 (hs.tr0 s)) hx7) ?_
 rintro _ κ9 ⟨s10,rfl,hb8⟩
 replace hs:=hs.tr0 s10
 refine op 8 (bW (x7≥0)) (op 4 (bW (x7≥0)) (ot (crt ?_)))
 obtain rfl:=sj hr
 refine rt [.tmp 4] [bW (x7≥0)] ⟨rfl,trivial⟩ ?_
 exact ⟨hs,rfl⟩
theorem zgz {κ:K} {p0:(Int×Int)×Int} {p1:Int×Int} {pb1 po1:Nat} (hb1:I64 p0.1.1) (hb2:I64 p0.1.2) (hb3:I64 p0.2) (m1:At κ pb1 po1 [iv p1.1,iv p1.2]) (hb4:I64 p1.1) (hb5:I64 p1.2) {r:Bool} (hr:zaf p0 p1=some r) :
 Fn Tryz.prog 124 #[.agg #[iv p0.1.1,iv p0.1.2,iv p0.2],pt pb1 po1] κ (fun v κ'=>Step [] κ κ'∧v=.bool r):=by
 refine fnc 8 [] Tryz.func124 Tryz.ntmps124 fun hs=>csr (zv (d:=2) (T:=108) (κ.H.size,124001) hs.1 (.agg #[iv p0.1.1,iv p0.1.2,iv p0.2]) [iv p0.1.1,iv p0.1.2,iv p0.2] kr kr rfl fun b6 κ7 s8 B_b6=>?_)
 replace hs:=hs.tr0 s8
 refine op 3 (.bool false) (otx (op 4 (pt b6 0) (oN 5 100 [iv p0.1.1,iv p0.1.2] (B_b6.at.part 0 2).2 (oN 6 100 [iv p1.1,iv p1.2] ((m1.step0 hs).part 0 2).2 (oq 7 (.bool (decide (p0.1.1=p1.1)&&decide (p0.1.2=p1.2))) (fun _=>zmV (T:=100) (k1:=.i64) (k2:=.i64) kr kr) (op 3 (.bool (decide (p0.1.1=p1.1)&&decide (p0.1.2=p1.2))) (ot (crt ?_))))))))
 obtain rfl:=sj hr
 refine rt [.tmp 3] [.bool (decide (p0.1.1=p1.1)&&decide (p0.1.2=p1.2))] ⟨rfl,trivial⟩ ?_
 exact ⟨hs,rfl⟩
theorem ziv {κ:K} {p0:LG} {a1:OA} {c2:Nat} {p1:(BS×Int)→Option Bool} {fi1:Nat} {cv1:Array Value} (f3:Sl tGlue κ a1 c2 p0) (hf1:zdh Tryz.prog fi1=true) (H1:∀ {κ':K},Step [] κ κ'→∀ {q1_0:BS×Int} (hb4:q1_0.1.length≤9223372036854775807) (hb5:I64 q1_0.2) {r:Bool},p1 q1_0=some r→Fn Tryz.prog fi1 (#[.agg #[strV q1_0.1,iv q1_0.2]]++cv1) κ' (fun v κ''=>Step [] κ' κ''∧v=.bool r)) {r:Int} (hr:zee p0 p1=some r) :
 Fn Tryz.prog 125 #[sl a1 p0.length c2,.func (.func fi1) #[] cv1] κ (fun v κ'=>Step [] κ κ'∧v=iv r∧I64 r):=by
 refine fnc 19 [] Tryz.func125 Tryz.ntmps125 fun hs=>csr (op 4 (iv 0) (ot (cs (csr (op 6 (sl a1 p0.length c2) (op 7 (iv (p0.length:Int)) (op 8 (iv 0) (ot ?_))))))))
 refine cb 0 ?_
 refine zj 0 (fun Z=>∀ (E0:Env) (κ9:K) (hs:Step [] κ κ9),zc7=some r→Z (E0) κ9) ?_ fun J1=>?_
 ·intro E0 κ9 hs hr
  refine zg (za (csr (op 4 (iv (-1)) (ot (crt ?_)))))
  obtain rfl:=sj hr
  refine rt [.tmp 4] [iv (-1)] ⟨rfl,trivial⟩ ?_
  exact ⟨hs,rfl,(show I64 (-1) by unfold I64;omega)⟩
 obtain ⟨x10,hx10,hrx10⟩:=bind_some hr
 refine zo (F:=zc6 p0 p1) (J:=fun (sx10:Int) (E':Env) (κ':K)=>(∃ E0,E'=upd (upd (upd (upd (E0) 0 (sl a1 p0.length c2)) 1 (.func (.func fi1) #[] cv1)) 7 (iv (p0.length:Int))) 8 (iv sx10))∧Step [] κ κ'∧I64 sx10) (s0:=0) (x:=x10) kr hx10 ⟨⟨_,(eA 8 (eA 7 (eA 1 (eA 0 rfl))))⟩,hs,(show I64 0 by unfold I64;omega)⟩ ?_
 rintro sx10 _ κ11 ⟨⟨E0,rfl⟩,hs,hb8⟩ yyx10 hr hdx10
 refine csr (op 9 (bW (sx10<(p0.length:Int))) (ot (cs ?_)))
 refine cc (decide (sx10<(p0.length:Int))) hr ?_ ?_
 ·intro hc hr
  refine ckt (cs (cb 1 (csr (op 10 (iv sx10) (op 5 (iv sx10) (otx (op 11 (.func (.func fi1) #[] cv1) (op 12 (sl a1 p0.length c2) (op 13 (iv sx10) ?_)))))))))
  obtain ⟨x12,hx12,hr⟩:=bind_some hr
  obtain ⟨b13,o14,eab13,i0x12,i1x12,csx12,p_b13,owx12⟩:=(f3.step hs).idx hx12
  obtain ⟨_,_,rfl,⟨rfl,hb15⟩,⟨rfl,hb16⟩⟩:=owx12
  replace p_b13:PubAt κ11 b13 (o14+sx10.toNat*2) [strV x12.1,iv x12.2]:=p_b13
  refine oi 14 22 94 2 p0.length c2 .i64 sx10 eab13 i0x12 i1x12 (oN 15 94 [strV x12.1,iv x12.2] (p_b13.at.part 0 2).2 ?_)
  obtain ⟨x17,hx17,hr⟩:=bind_some hr
  refine ocl 16 (H1 hs (q1_0:=x12) hb15 hb16 hx17) ?_ kr (fun w=>zbP (show _=(callFunc fi1 (#[.agg #[strV x12.1,iv x12.2]]++cv1)).run _ w by kernel_rfl) hf1)
  rintro _ κ18 ⟨s19,rfl⟩
  replace hs:=hs.tr0 s19
  refine ot ?_
  refine cc (x17) hr ?_ ?_
  ·intro hc hr
   refine csr (op 17 (iv sx10) (op 4 (iv sx10) (ot (crt (zf (zb ?_))))))
   have hx:=hdx10 _ (sj hr).symm
   subst hx
   replace hr:=hrx10
   refine zt (zf (zb ?_))
   obtain rfl:=sj hr
   refine rt [.tmp 4] [iv sx10] ⟨rfl,trivial⟩ ?_
   exact ⟨hs,rfl,hb8⟩
  intro hc hr
  refine ck (zd (za (cr (op 18 (iv (w64 (sx10+1))) (op 8 (iv (w64 (sx10+1))) (oe ?_))))))
  exact ze (sj hr).symm ⟨⟨_,(eA 8 (eA 7 (eA 1 (eA 0 rfl))))⟩,hs,(zq _)⟩
 intro hc hr
 refine cx 0 (zh ?_)
 have hx:=hdx10 _ (sj hr).symm
 subst hx
 replace hr:=hrx10
 refine zi ?_
 exact zr rfl (J1   _ _ hs  hr)
theorem zhc {κ:K} {p0:BS×Int} {p1:BS} {pb1 po1:Nat} (hb1:p0.1.length≤9223372036854775807) (hb2:I64 p0.2) (m1:At κ pb1 po1 [strV p1]) (hb3:p1.length≤9223372036854775807) {r:Bool} (hr:zaY p0 p1=some r) :
 Fn Tryz.prog 126 #[.agg #[strV p0.1,iv p0.2],pt pb1 po1] κ (fun v κ'=>Step [] κ κ'∧v=.bool r):=by
 refine fnc 8 [] Tryz.func126 Tryz.ntmps126 fun hs=>csr (zv (d:=2) (T:=94) (κ.H.size,126001) hs.1 (.agg #[strV p0.1,iv p0.2]) [strV p0.1,iv p0.2] kr kr rfl fun b4 κ5 s6 B_b4=>?_)
 replace hs:=hs.tr0 s6
 refine op 3 (.bool false) (otx (op 4 (pt b4 0) (o1 5 9 (strV p0.1) (B_b4.at.one (o:=0) rfl) (o1 6 9 (strV p1) ((m1.step0 hs).one (o:=0) rfl) (oq 7 (bW (p0.1=p1)) (fun _=>zci kr) (op 3 (bW (p0.1=p1)) (ot (crt ?_))))))))
 obtain rfl:=sj hr
 refine rt [.tmp 3] [bW (p0.1=p1)] ⟨rfl,trivial⟩ ?_
 exact ⟨hs,rfl⟩
theorem zhU {κ:K} {p0:LG×LT} {a1:OA} {c2:Nat} {a4:OA} {c5:Nat} {p1:BS} (f3:Sl tGlue κ a1 c2 p0.1) (f6:Sl zQ κ a4 c5 p0.2) (hb7:p1.length≤9223372036854775807) {r:Int} (hr:zbS p0 p1=some r) :
 Fn Tryz.prog 96 #[.agg #[sl a1 p0.1.length c2,sl a4 p0.2.length c5],strV p1] κ (fun v κ'=>Step [] κ κ'∧v=iv r∧I64 r):=by
 refine fnc 10 [] Tryz.func96 Tryz.ntmps96 fun hs=>csr (zv (d:=2) (T:=25) (κ.H.size,96001) hs.1 (.agg #[sl a1 p0.1.length c2,sl a4 p0.2.length c5]) [sl a1 p0.1.length c2,sl a4 p0.2.length c5] kr kr rfl fun b9 κ10 s11 B_b9=>?_)
 replace hs:=hs.tr0 s11
 refine zv (d:=3) (T:=9) (κ.H.size,96002) hs.1 (strV p1) [strV p1] kr kr rfl fun b12 κ13 s14 B_b12=>?_
 replace hs:=hs.tr0 s14
 replace B_b9:=B_b9.step0 s14
 refine op 4 (iv 0) (otx (op 5 (pt b9 0) (o1 6 22 (sl a1 p0.1.length c2) (B_b9.at.one (o:=0) rfl) (op 7 (.func (.func 126) #[] #[pt b12 0]) ?_))))
 obtain ⟨x17,hx17,hr⟩:=bind_some hr
 refine ocl 8 (ziv (f3.step hs) (fi1:=126) (cv1:=#[pt b12 0]) kr (by intro _ s _ w0 w1 _ hp;exact zi1 kr ((zhc w0 w1 (B_b12.at.step0 s) hb7 hp))) hx17) ?_
 rintro _ κ19 ⟨s20,rfl,hb18⟩
 replace hs:=hs.tr0 s20
 refine op 9 (iv (w64 (x17+1))) (op 4 (iv (w64 (x17+1))) (ot (crt ?_)))
 obtain rfl:=sj hr
 refine rt [.tmp 4] [iv (w64 (x17+1))] ⟨rfl,trivial⟩ ?_
 exact ⟨hs,rfl,(zq _)⟩
theorem zgy {κ:K} {p0:Bool×(TS×(LP)×Int)×(TS)×(BS×(TS×LP))} {pb0:Nat} {τ0:Tag} {a1:OA} {c2:Nat} {a4:OA} {c5:Nat} {a7:OA} {c8:Nat} {a11:OA} {c12:Nat} {a14:OA} {c15:Nat} {a18:OA} {c19:Nat} {a21:OA} {c22:Nat} {a24:OA} {c25:Nat} {τ0_10:Tag} {p1:BS} (B_m0:Box τ0 κ pb0 [.bool p0.1,sl a1 p0.2.1.1.1.length c2,sl a4 p0.2.1.1.2.length c5,sl a7 p0.2.1.2.1.length c8,iv p0.2.1.2.2,sl a11 p0.2.2.1.1.length c12,sl a14 p0.2.2.1.2.length c15,strV p0.2.2.2.1,sl a18 p0.2.2.2.2.1.1.length c19,sl a21 p0.2.2.2.2.1.2.length c22,sl a24 p0.2.2.2.2.2.length c25] 71) (f3:Sl tGlue κ a1 c2 p0.2.1.1.1) (f6:Sl zQ κ a4 c5 p0.2.1.1.2) (f9:Sl tPlaced κ a7 c8 p0.2.1.2.1) (hb10:I64 p0.2.1.2.2) (f13:Sl tGlue κ a11 c12 p0.2.2.1.1) (f16:Sl zQ κ a14 c15 p0.2.2.1.2) (hb17:p0.2.2.2.1.length≤9223372036854775807) (f20:Sl tGlue κ a18 c19 p0.2.2.2.2.1.1) (f23:Sl zQ κ a21 c22 p0.2.2.2.2.1.2) (f26:Gr tPlaced true τ0_10 κ 108 a24 c25 p0.2.2.2.2.2) (lt_τ0_10:τ0_10.1<κ.H.size) (hb27:p1.length≤9223372036854775807) (ne_τ0_τ0_10:τ0≠τ0_10) (G0:Glob κ) {r:Int×(Bool×(TS×(LP)×Int)×(TS)×(BS×(TS×LP)))} (hr:zbR p0 p1=some r) :
 Fn Tryz.prog 95 #[pt pb0 8,strV p1] κ (fun v κ'=>Step ([pb0]++blk a24 c25) κ κ'∧∃ (a29:OA) (c30:Nat),v=iv r.1∧I64 r.1∧Box τ0 κ' pb0 [.bool p0.1,sl a1 p0.2.1.1.1.length c2,sl a4 p0.2.1.1.2.length c5,sl a7 p0.2.1.2.1.length c8,iv p0.2.1.2.2,sl a11 p0.2.2.1.1.length c12,sl a14 p0.2.2.1.2.length c15,strV p0.2.2.2.1,sl a18 p0.2.2.2.2.1.1.length c19,sl a21 p0.2.2.2.2.1.2.length c22,sl a29 r.2.2.2.2.2.2.length c30] 71∧Gr tPlaced true τ0_10 κ' 108 a29 c30 r.2.2.2.2.2.2∧(∀ g∈blk a29 c30,g∈([pb0]++blk a24 c25)∨κ.H.size≤g)):=by
 refine fnc 61 ([pb0]++blk a24 c25) Tryz.func95 Tryz.ntmps95 fun hs=>?_
 have lt_τ0:=B_m0.tlt
 have ne_τ0_10_τ0:=ne_τ0_τ0_10.symm
 have ow_f26:∀ g∈blk a24 c25,g∈([pb0]++blk a24 c25)∨κ.H.size≤g:=fun g hg=>.inl (by simp [hg])
 refine csr (op 4 (iv 0) (otx (op 9 (strV p1) ?_)))
 obtain ⟨x32,hx32,hr⟩:=bind_some hr
 refine ocl 10 (zdt hb27 hx32) ?_
 rintro _ κ36 ⟨s37,a33,c34,rfl,f35⟩
 replace hs:=hs.tr0 s37
 replace f26:=f26.step0 s37
 replace B_m0:=B_m0.step0 s37
 refine op 5 (sl a33 x32.length c34) (ot (cs (csr (op 11 (sl a33 x32.length c34) (op 12 (iv (x32.length:Int)) (op 13 (.bool (!decide ((x32.length:Int)=2))) (ot ?_)))))))
 refine cc (!decide ((x32.length:Int)=2)) hr ?_ ?_
 ·intro hc hr
  refine csr (op 4 (iv 6) (ot (crt (zb ?_))))
  obtain rfl:=sj hr
  refine rt [.tmp 4] [iv 6] ⟨rfl,trivial⟩ ?_
  exact ⟨hs,_,_,rfl,(show I64 6 by unfold I64;omega),B_m0,f26,ow_f26⟩
 intro hc hr
 refine ckt (csr (op 15 (sl a33 x32.length c34) ?_))
 obtain ⟨x38,hx38,hr⟩:=bind_some hr
 obtain ⟨b39,o40,eab39,i0x38,i1x38,csx38,p_b39,owx38⟩:=f35.idx hx38
 obtain ⟨rfl,hb41⟩:=owx38
 replace p_b39:PubAt κ36 b39 (o40+(1:Int).toNat*1) [strV x38]:=p_b39
 refine oi 16 36 9 1 x32.length c34 .i64 1 eab39 i0x38 i1x38 (o1 17 9 (strV x38) (p_b39.at.one (o:=0) rfl) ?_)
 obtain ⟨x42,hx42,hr⟩:=bind_some hr
 refine ocl 18 (zls hb41 (G0.step hs) hx42) ?_
 rintro _ κ45 ⟨s46,rfl,hb43,hb44⟩
 replace hs:=hs.tr0 s46
 replace f35:=f35.step s46
 replace f26:=f26.step0 s46
 replace B_m0:=B_m0.step0 s46
 refine op 14 (.tuple #[.agg #[iv x42.1.1,iv x42.1.2],.bool x42.2]) (op 19 (.agg #[iv x42.1.1,iv x42.1.2]) (op 20 (.bool x42.2) (zz (d:=6) (T:=100) (κ.H.size,95001) hs.1 [iv 0,iv 0] kr kr kr fun b47 κ48 s49 B_b47=>?_)))
 replace hs:=hs.tr0 s49
 replace f35:=f35.step s49
 replace f26:=f26.step0 s49
 replace B_m0:=B_m0.step0 s49
 refine zn (b:=b47) (off:=0) (T:=100) (.agg #[iv x42.1.1,iv x42.1.2]) [iv x42.1.1,iv x42.1.2] [iv x42.1.1,iv x42.1.2] kr kr B_b47 rfl kr kr kr rfl fun κ50 s51 _ NB_b47=>?_
 replace hs:=hs.trB B_b47.ge s51
 replace f35:=f35.step s51
 replace f26:=f26.step s51 (f26.nb B_b47 (zai (i:=95001) lt_τ0_10))
 replace B_m0:=B_m0.step s51 (nm1 (B_m0.ne B_b47 (zai (i:=95001) lt_τ0)))
 replace B_b47:=NB_b47
 refine op 7 (.bool x42.2) (ot (cs (cd 7 (dp 21 (pt pb0 8) (dp 22 (pt pb0 8) (dp 23 (pt pb0 8) (dN 24 25 [sl a18 p0.2.2.2.2.1.1.length c19,sl a21 p0.2.2.2.2.1.2.length c22] (B_m0.at.part 8 2).2 (dp 25 (sl a33 x32.length c34) ?_))))))))
 obtain ⟨x52,hx52,hr⟩:=bind_some hr
 obtain ⟨b53,o54,eab53,i0x52,i1x52,csx52,p_b53,owx52⟩:=f35.idx hx52
 obtain ⟨rfl,hb55⟩:=owx52
 replace p_b53:PubAt κ50 b53 (o54+(0:Int).toNat*1) [strV x52]:=p_b53
 refine di 26 36 9 1 x32.length c34 .i64 0 eab53 i0x52 i1x52 (d1 27 9 (strV x52) (p_b53.at.one (o:=0) rfl) (de ?_))
 obtain ⟨x56,hx56,hr⟩:=bind_some hr
 refine ocl 28 (zhT (f20.step hs) (f23.step hs) hb55 hx56) ?_
 rintro _ κ58 ⟨s59,rfl,hb57⟩
 replace hs:=hs.tr0 s59
 replace f26:=f26.step0 s59
 replace B_m0:=B_m0.step0 s59
 replace B_b47:=B_b47.step0 s59
 refine op 8 (iv x56) (ot (cs (cb 0 (csr (op 30 (.bool x42.2) (op 31 (.bool (!x42.2)) (op 29 (.bool (!x42.2)) (ot ?_))))))))
 refine cc (!x42.2) hr ?_ ?_
 ·intro hc hr
  refine csr (op 4 (iv 6) (ot (crt (zf (zb ?_)))))
  obtain rfl:=sj hr
  refine rt [.tmp 4] [iv 6] ⟨rfl,trivial⟩ ?_
  exact ⟨hs,_,_,rfl,(show I64 6 by unfold I64;omega),B_m0,f26,ow_f26⟩
 intro hc hr
 refine csr (op 33 (iv x56) (op 34 (bW (x56<0)) (op 32 (bW (x56<0)) (ot ?_))))
 refine cc (decide (x56<0)) hr ?_ ?_
 ·intro hc hr
  refine csr (op 4 (iv 3) (ot (crt (zf (zb ?_)))))
  obtain rfl:=sj hr
  refine rt [.tmp 4] [iv 3] ⟨rfl,trivial⟩ ?_
  exact ⟨hs,_,_,rfl,(show I64 3 by unfold I64;omega),B_m0,f26,ow_f26⟩
 intro hc hr
 refine csr (op 36 (pt pb0 8) (op 37 (pt pb0 8) (op 38 (pt pb0 10) (o1 39 26 (sl a24 p0.2.2.2.2.2.length c25) (B_m0.at.one (o:=10) rfl) (op 40 (.func (.func 124) #[] #[pt b47 0]) ?_)))))
 obtain ⟨x63,hx63,hr⟩:=bind_some hr
 refine ocl 41 (zef f26.sl (fi1:=124) (cv1:=#[pt b47 0]) kr (by intro _ s _ w0 w1 w2 _ hp;exact zi1 kr ((zgz w0 w1 w2 (B_b47.at.step0 s) hb43 hb44 hp))) hx63) ?_
 rintro _ κ64 ⟨s65,rfl⟩
 replace hs:=hs.tr0 s65
 replace f26:=f26.step0 s65
 replace B_m0:=B_m0.step0 s65
 replace B_b47:=B_b47.step0 s65
 refine op 35 (.bool x63) (ot ?_)
 refine cc (x63) hr ?_ ?_
 ·intro hc hr
  refine csr (op 4 (iv 7) (ot (crt (zf (zb ?_)))))
  obtain rfl:=sj hr
  refine rt [.tmp 4] [iv 7] ⟨rfl,trivial⟩ ?_
  exact ⟨hs,_,_,rfl,(show I64 7 by unfold I64;omega),B_m0,f26,ow_f26⟩
 intro hc hr
 refine csr (op 43 (pt pb0 8) (op 44 (pt pb0 8) (op 45 (pt pb0 10) (o1 46 26 (sl a24 p0.2.2.2.2.2.length c25) (B_m0.at.one (o:=10) rfl) (op 47 (iv (p0.2.2.2.2.2.length:Int)) (op 48 (bW ((p0.2.2.2.2.2.length:Int)≥500)) (op 42 (bW ((p0.2.2.2.2.2.length:Int)≥500)) (ot ?_))))))))
 refine cc (decide ((p0.2.2.2.2.2.length:Int)≥500)) hr ?_ ?_
 ·intro hc hr
  refine csr (op 4 (iv 4) (ot (crt (zf (zb ?_)))))
  obtain rfl:=sj hr
  refine rt [.tmp 4] [iv 4] ⟨rfl,trivial⟩ ?_
  exact ⟨hs,_,_,rfl,(show I64 4 by unfold I64;omega),B_m0,f26,ow_f26⟩
 intro hc hr
 refine ck (zd (za (cs (cx_ 10 [0,1,2,3,4,5,6,7,8,9] [8,9] 9 (blk a24 c25) (xp 49 (pt pb0 8) (xp 50 (pt pb0 8) (xp 51 (pt pb0 8) (xp 52 (pt pb0 10) (x1 53 26 (sl a24 p0.2.2.2.2.2.length c25) B_m0.at 10 rfl ?_)))))))))
 refine xN 54 100 [iv x42.1.1,iv x42.1.2] B_b47.at 0 2 rfl (xp 55 (iv x56) (xp 56 (.agg #[iv x42.1.1,iv x42.1.2,iv x56]) (zem (d:=57) (T:=26) (e:=108) (t:=tPlaced) (pub:=true) (τ:=(κ.H.size,95002)) (len:=1) (l:=[(x42.1,x56)]) (parts:=#[(0,.agg #[iv x42.1.1,iv x42.1.2,iv x56])]) (cs:=[iv x42.1.1,iv x42.1.2,iv x56]) kr kr kr kr hs.1 rfl ⟨_,_,rfl,⟨_,_,rfl,⟨_,_,rfl,⟨rfl,hb43⟩,⟨rfl,hb44⟩⟩,⟨rfl,hb57⟩⟩,rfl⟩ kr fun a68 κ66 s67 f69=>?_)))
 replace hs:=hs.tr0 s67
 replace f26:=f26.step0 s67
 replace B_m0:=B_m0.step0 s67
 obtain ⟨x71,hx71,hr⟩:=bind_some hr
 have f26q:=f26.sl
 refine zgf (d:=58) (T:=26) (e:=108) (t:=tPlaced) (pub:=true) (τ:=τ0_10) (bytes:=24) (a:=a24) (cp:=c25) (l:=p0.2.2.2.2.2) (a2:=a68) (c2:=1) (l2:=[(x42.1,x56)]) kr kr f26 f69.sl (Nat.le_trans (Nat.le_of_lt lt_τ0_10) hs.1) kr hx71 kr fun a74 c75 κ72 s73 f76 hw=>?_
 have ow_f76:∀ g∈blk a74 c75,g∈([pb0]++blk a24 c25)∨κ.H.size≤g:=fun g hg=>(hw g hg).elim (ow_f26 g) (fun h=>.inr (Nat.le_trans hs.1 h))
 replace hs:=hs.trM ow_f26 s73
 replace f26q:=f26q.step s73
 replace B_m0:=B_m0.step s73 (f26.bn B_m0 (ne_τ0_τ0_10))
 refine xe (op 59 (pt pb0 8) (op 60 (pt pb0 10) (zn (b:=pb0) (off:=10) (T:=26) (sl a74 x71.length c75) [sl a74 x71.length c75] [.bool p0.1,sl a1 p0.2.1.1.1.length c2,sl a4 p0.2.1.1.2.length c5,sl a7 p0.2.1.2.1.length c8,iv p0.2.1.2.2,sl a11 p0.2.2.1.1.length c12,sl a14 p0.2.2.1.2.length c15,strV p0.2.2.2.1,sl a18 p0.2.2.2.2.1.1.length c19,sl a21 p0.2.2.2.2.1.2.length c22,sl a74 x71.length c75] kr kr B_m0 rfl kr kr kr rfl fun κ77 s78 _ NB_m0=>?_)))
 replace hs:=hs.trP (by simp) s78
 replace f26q:=f26q.step s78
 replace f76:=f76.step s78 (f76.nb B_m0 (ne_τ0_10_τ0))
 replace B_m0:=NB_m0
 refine otx (op 4 (iv 0) (ot (crt ?_)))
 obtain rfl:=sj hr
 refine rt [.tmp 4] [iv 0] ⟨rfl,trivial⟩ ?_
 exact ⟨hs,_,_,rfl,(show I64 0 by unfold I64;omega),B_m0,f76,ow_f76⟩
theorem zg9 {κ:K} {p0:Bool×(TS×(LP)×Int)×(TS)×(BS×(TS×LP))} {pb0:Nat} {τ0:Tag} {a1:OA} {c2:Nat} {a4:OA} {c5:Nat} {a7:OA} {c8:Nat} {a11:OA} {c12:Nat} {a14:OA} {c15:Nat} {a18:OA} {c19:Nat} {a21:OA} {c22:Nat} {a24:OA} {c25:Nat} {τ0_10:Tag} {p1:BS} (B_m0:Box τ0 κ pb0 [.bool p0.1,sl a1 p0.2.1.1.1.length c2,sl a4 p0.2.1.1.2.length c5,sl a7 p0.2.1.2.1.length c8,iv p0.2.1.2.2,sl a11 p0.2.2.1.1.length c12,sl a14 p0.2.2.1.2.length c15,strV p0.2.2.2.1,sl a18 p0.2.2.2.2.1.1.length c19,sl a21 p0.2.2.2.2.1.2.length c22,sl a24 p0.2.2.2.2.2.length c25] 71) (f3:Sl tGlue κ a1 c2 p0.2.1.1.1) (f6:Sl zQ κ a4 c5 p0.2.1.1.2) (f9:Sl tPlaced κ a7 c8 p0.2.1.2.1) (hb10:I64 p0.2.1.2.2) (f13:Sl tGlue κ a11 c12 p0.2.2.1.1) (f16:Sl zQ κ a14 c15 p0.2.2.1.2) (hb17:p0.2.2.2.1.length≤9223372036854775807) (f20:Sl tGlue κ a18 c19 p0.2.2.2.2.1.1) (f23:Sl zQ κ a21 c22 p0.2.2.2.2.1.2) (f26:Gr tPlaced true τ0_10 κ 108 a24 c25 p0.2.2.2.2.2) (lt_τ0_10:τ0_10.1<κ.H.size) (hb27:p1.length≤9223372036854775807) (ne_τ0_τ0_10:τ0≠τ0_10) (G0:Glob κ) {r:Int×(Bool×(TS×(LP)×Int)×(TS)×(BS×(TS×LP)))} (hr:zas p0 p1=some r) :
 Fn Tryz.prog 63 #[pt pb0 7,strV p1] κ (fun v κ'=>Step ([pb0]++blk a24 c25) κ κ'∧∃ (a29:OA) (c30:Nat),v=iv r.1∧I64 r.1∧Box τ0 κ' pb0 [.bool p0.1,sl a1 p0.2.1.1.1.length c2,sl a4 p0.2.1.1.2.length c5,sl a7 p0.2.1.2.1.length c8,iv p0.2.1.2.2,sl a11 p0.2.2.1.1.length c12,sl a14 p0.2.2.1.2.length c15,strV p0.2.2.2.1,sl a18 p0.2.2.2.2.1.1.length c19,sl a21 p0.2.2.2.2.1.2.length c22,sl a29 r.2.2.2.2.2.2.length c30] 71∧Gr tPlaced true τ0_10 κ' 108 a29 c30 r.2.2.2.2.2.2∧(∀ g∈blk a29 c30,g∈([pb0]++blk a24 c25)∨κ.H.size≤g)):=by
 refine fnc 33 ([pb0]++blk a24 c25) Tryz.func63 Tryz.ntmps63 fun hs=>?_
 have lt_τ0:=B_m0.tlt
 have ne_τ0_10_τ0:=ne_τ0_τ0_10.symm
 have ow_f26:∀ g∈blk a24 c25,g∈([pb0]++blk a24 c25)∨κ.H.size≤g:=fun g hg=>.inl (by simp [hg])
 refine csr (op 4 (iv 0) (otx (op 6 (strV p1) ?_)))
 obtain ⟨x32,hx32,hr⟩:=bind_some hr
 refine ocl 7 (zdt hb27 hx32) ?_
 rintro _ κ36 ⟨s37,a33,c34,rfl,f35⟩
 replace hs:=hs.tr0 s37
 replace f26:=f26.step0 s37
 replace B_m0:=B_m0.step0 s37
 refine op 5 (sl a33 x32.length c34) (ot (cs ?_))
 refine zl (fun Z=>∀ (y38:Bool) (E0:Env),zad p0 x32 y38=some r→cwp Tryz.prog 33 (sub (zC Tryz.f63) [1,0,1,1]) Z (upd (upd (upd (E0) 0 (pt pb0 7)) 5 (sl a33 x32.length c34)) 20 (.bool y38)) κ36) ?_ fun J1=>?_
 ·intro y38 E0 hr
  refine cc (y38) hr ?_ ?_
  ·intro hc hr
   refine csr (op 4 (iv 6) (ot (crt (zb ?_))))
   obtain rfl:=sj hr
   refine rt [.tmp 4] [iv 6] ⟨rfl,trivial⟩ ?_
   exact ⟨hs,_,_,rfl,(show I64 6 by unfold I64;omega),B_m0,f26,ow_f26⟩
  intro hc hr
  refine ckt (cs (cd 11 (dp 21 (pt pb0 7) (dp 22 (pt pb0 7) (dp 23 (pt pb0 8) (dp 24 (sl a33 x32.length c34) ?_))))))
  obtain ⟨x39,hx39,hr⟩:=bind_some hr
  obtain ⟨b40,o41,eab40,i0x39,i1x39,csx39,p_b40,owx39⟩:=f35.idx hx39
  obtain ⟨rfl,hb42⟩:=owx39
  replace p_b40:PubAt κ36 b40 (o41+(1:Int).toNat*1) [strV x39]:=p_b40
  refine di 25 36 9 1 x32.length c34 .i64 1 eab40 i0x39 i1x39 (d1 26 9 (strV x39) (p_b40.at.one (o:=0) rfl) ?_)
  obtain ⟨x43,hx43,hr⟩:=bind_some hr
  refine dq 27 (strV x43) (fun _=>zgp kr hx43) (dp 28 (sl a33 x32.length c34) ?_)
  obtain ⟨x44,hx44,hr⟩:=bind_some hr
  obtain ⟨b45,o46,eab45,i0x44,i1x44,csx44,p_b45,owx44⟩:=f35.idx hx44
  obtain ⟨rfl,hb47⟩:=owx44
  replace p_b45:PubAt κ36 b45 (o46+(2:Int).toNat*1) [strV x44]:=p_b45
  refine di 29 36 9 1 x32.length c34 .i64 2 eab45 i0x44 i1x44 (d1 30 9 (strV x44) (p_b45.at.one (o:=0) rfl) ?_)
  obtain ⟨x48,hx48,hr⟩:=bind_some hr
  refine dq 31 (strV x48) (fun _=>zgp kr hx48) (de ?_)
  obtain ⟨x49,hx49,hr⟩:=bind_some hr
  refine ocl 32 (zgy (p0:=p0) B_m0 (f3.step hs) (f6.step hs) (f9.step hs) hb10 (f13.step hs) (f16.step hs) hb17 (f20.step hs) (f23.step hs) f26 (Nat.lt_of_lt_of_le lt_τ0_10 hs.1) (zjz hx48) (ne_τ0_τ0_10) (G0.step hs) hx49) ?_
  rintro _ κ54 ⟨s55,a51,c52,rfl,hb50,NB_m0,f53,ow_f53⟩
  replace ow_f53:∀ g∈blk a51 c52,g∈([pb0]++blk a24 c25)∨κ.H.size≤g:=fun g hg=>(ow_f53 g hg).elim ((zeZ (zhQ (by simp)) ow_f26) g) (fun h=>.inr (Nat.le_trans hs.1 h))
  replace hs:=hs.trM (zeZ (zhQ (by simp)) ow_f26) s55
  replace B_m0:=NB_m0
  refine op 4 (iv x49.1) (ot (crt ?_))
  obtain rfl:=sj hr
  refine rt [.tmp 4] [iv x49.1] ⟨rfl,trivial⟩ ?_
  exact ⟨hs,_,_,rfl,hb50,B_m0,f53,ow_f53⟩
 refine cs (cd 11 (dp 8 (sl a33 x32.length c34) (dp 9 (iv (x32.length:Int)) (dp 10 (.bool (!decide ((x32.length:Int)=3))) ?_))))
 refine dsp 11 (!decide ((x32.length:Int)=3)) hr ?_ ?_
 ·intro hg hr
  refine dp 12 (sl a33 x32.length c34) ?_
  obtain ⟨x56,hx56,hr⟩:=bind_some hr
  obtain ⟨b57,o58,eab57,i0x56,i1x56,csx56,p_b57,owx56⟩:=f35.idx hx56
  obtain ⟨rfl,hb59⟩:=owx56
  replace p_b57:PubAt κ36 b57 (o58+(0:Int).toNat*1) [strV x56]:=p_b57
  refine di 13 36 9 1 x32.length c34 .i64 0 eab57 i0x56 i1x56 (d1 14 9 (strV x56) (p_b57.at.one (o:=0) rfl) (dp 15 (pt pb0 7) (dp 16 (pt pb0 7) (dp 17 (pt pb0 7) (d1 18 9 (strV p0.2.2.2.1) (B_m0.at.one (o:=7) rfl) (de (oq 19 (.bool (!decide (x56=p0.2.2.2.1))) (fun _=>zch kr) (op 20 (.bool (!decide (x56=p0.2.2.2.1))) (ot ?_)))))))))
  exact zk (eA 20 (eA 5 (eA 0 rfl))) (J1 (!decide (x56=p0.2.2.2.1))  _  hr)
 intro hg hr
 refine ds 12 (ds 13 (ds 14 (ds 15 (ds 16 (ds 17 (ds 18 (de (os 19 (op 20 (.bool true) ?_)))))))))
 refine ot ?_
 exact zk (eA 20 (eA 5 (eA 0 rfl))) (J1 true  _  hr)
theorem zhS {κ:K} {p0:Bool×(TS×(LP)×Int)×(TS)×(BS×(TS×LP))} {pb0:Nat} {τ0:Tag} {a1:OA} {c2:Nat} {a4:OA} {c5:Nat} {a7:OA} {c8:Nat} {a11:OA} {c12:Nat} {a14:OA} {c15:Nat} {a18:OA} {c19:Nat} {a21:OA} {c22:Nat} {a24:OA} {c25:Nat} {τ0_5:Tag} {τ0_6:Tag} {p1:BS} (B_m0:Box τ0 κ pb0 [.bool p0.1,sl a1 p0.2.1.1.1.length c2,sl a4 p0.2.1.1.2.length c5,sl a7 p0.2.1.2.1.length c8,iv p0.2.1.2.2,sl a11 p0.2.2.1.1.length c12,sl a14 p0.2.2.1.2.length c15,strV p0.2.2.2.1,sl a18 p0.2.2.2.2.1.1.length c19,sl a21 p0.2.2.2.2.1.2.length c22,sl a24 p0.2.2.2.2.2.length c25] 71) (f3:Sl tGlue κ a1 c2 p0.2.1.1.1) (f6:Sl zQ κ a4 c5 p0.2.1.1.2) (f9:Sl tPlaced κ a7 c8 p0.2.1.2.1) (hb10:I64 p0.2.1.2.2) (f13:Gr tGlue true τ0_5 κ 94 a11 c12 p0.2.2.1.1) (lt_τ0_5:τ0_5.1<κ.H.size) (f16:GrE tStr tI64 64004 2 τ0_6 κ 97 a14 c15 p0.2.2.1.2) (lt_τ0_6:τ0_6.1<κ.H.size) (hb17:p0.2.2.2.1.length≤9223372036854775807) (f20:Sl tGlue κ a18 c19 p0.2.2.2.2.1.1) (f23:Sl zQ κ a21 c22 p0.2.2.2.2.1.2) (f26:Sl tPlaced κ a24 c25 p0.2.2.2.2.2) (hb27:p1.length≤9223372036854775807) (ne_τ0_τ0_5:τ0≠τ0_5) (ne_τ0_τ0_6:τ0≠τ0_6) (ne_τ0_5_τ0_6:τ0_5≠τ0_6) (G0:Glob κ) {r:Int×(Bool×(TS×(LP)×Int)×(TS)×(BS×(TS×LP)))} (hr:zaP p0 p1=some r) :
 Fn Tryz.prog 64 #[pt pb0 5,strV p1] κ (fun v κ'=>Step ([pb0]++blk a11 c12++blk a14 c15) κ κ'∧∃ (a29:OA) (c30:Nat) (a32:OA) (c33:Nat),v=iv r.1∧I64 r.1∧Box τ0 κ' pb0 [.bool p0.1,sl a1 p0.2.1.1.1.length c2,sl a4 p0.2.1.1.2.length c5,sl a7 p0.2.1.2.1.length c8,iv p0.2.1.2.2,sl a29 r.2.2.2.1.1.length c30,sl a32 r.2.2.2.1.2.length c33,strV p0.2.2.2.1,sl a18 p0.2.2.2.2.1.1.length c19,sl a21 p0.2.2.2.2.1.2.length c22,sl a24 p0.2.2.2.2.2.length c25] 71∧Gr tGlue true τ0_5 κ' 94 a29 c30 r.2.2.2.1.1∧(∀ g∈blk a29 c30,g∈([pb0]++blk a11 c12++blk a14 c15)∨κ.H.size≤g)∧GrE tStr tI64 64004 2 τ0_6 κ' 97 a32 c33 r.2.2.2.1.2∧(∀ g∈blk a32 c33,g∈([pb0]++blk a11 c12++blk a14 c15)∨κ.H.size≤g)):=by
 refine fnc 108 ([pb0]++blk a11 c12++blk a14 c15) Tryz.func64 Tryz.ntmps64 fun hs=>?_
 obtain ⟨Hx,f16⟩:=f16
 have hltx:=f16.hlt
 have lt_τ0:=B_m0.tlt
 have ne_τ0_5_τ0:=ne_τ0_τ0_5.symm
 have ne_τ0_6_τ0:=ne_τ0_τ0_6.symm
 have ne_τ0_6_τ0_5:=ne_τ0_5_τ0_6.symm
 have ow_f13:∀ g∈blk a11 c12,g∈([pb0]++blk a11 c12++blk a14 c15)∨κ.H.size≤g:=fun g hg=>.inl (by simp [hg])
 have ow_f16:∀ g∈blk a14 c15,g∈([pb0]++blk a11 c12++blk a14 c15)∨κ.H.size≤g:=fun g hg=>.inl (by simp [hg])
 refine csr (op 4 (iv 0) (otx (op 12 (strV p1) ?_)))
 obtain ⟨x35,hx35,hr⟩:=bind_some hr
 refine ocl 13 (zdt hb27 hx35) ?_
 rintro _ κ39 ⟨s40,a36,c37,rfl,f38⟩
 replace hs:=hs.tr0 s40
 replace f13:=f13.step0 s40
 replace f16:=f16.step0 s40
 replace B_m0:=B_m0.step0 s40
 refine op 5 (sl a36 x35.length c37) (ot (cs (cb 0 ?_)))
 refine zl (fun Z=>∀ (y41:Bool) (E0:Env),zE p0 x35 y41=some r→cwp Tryz.prog 108 (sub (zC Tryz.f64) [1,0,0,1,1]) Z (upd (upd (upd (E0) 0 (pt pb0 5)) 5 (sl a36 x35.length c37)) 14 (.bool y41)) κ39) ?_ fun J1=>?_
 ·intro y41 E0 hr
  refine cc (y41) hr ?_ ?_
  ·intro hc hr
   refine csr (op 34 (sl a36 x35.length c37) ?_)
   obtain ⟨x42,hx42,hr⟩:=bind_some hr
   obtain ⟨b43,o44,eab43,i0x42,i1x42,csx42,p_b43,owx42⟩:=f38.idx hx42
   obtain ⟨rfl,hb45⟩:=owx42
   replace p_b43:PubAt κ39 b43 (o44+(2:Int).toNat*1) [strV x42]:=p_b43
   refine oi 35 36 9 1 x35.length c37 .i64 2 eab43 i0x42 i1x42 (o1 36 9 (strV x42) (p_b43.at.one (o:=0) rfl) ?_)
   obtain ⟨x46,hx46,hr⟩:=bind_some hr
   refine ocl 37 (zcS hb45 (G0.step hs) hx46) ?_
   rintro _ κ48 ⟨s49,rfl,hb47⟩
   replace hs:=hs.tr0 s49
   replace f38:=f38.step s49
   replace f13:=f13.step0 s49
   replace f16:=f16.step0 s49
   replace B_m0:=B_m0.step0 s49
   refine op 33 (.tuple #[iv x46.1,.bool x46.2]) (op 38 (iv x46.1) (op 39 (.bool x46.2) (op 6 (iv x46.1) (op 7 (.bool x46.2) (ot (cs (csr (op 40 (.bool x46.2) (op 41 (.bool (!x46.2)) ?_)))))))))
   refine ot ?_
   refine cc (!x46.2) hr ?_ ?_
   ·intro hc hr
    refine csr (op 4 (iv 6) (ot (crt (zb (zf (zb ?_))))))
    obtain rfl:=sj hr
    refine rt [.tmp 4] [iv 6] ⟨rfl,trivial⟩ ?_
    exact ⟨hs,_,_,_,_,rfl,(show I64 6 by unfold I64;omega),B_m0,f13,ow_f13,⟨_,f16⟩,ow_f16⟩
   intro hc hr
   refine ckt (cs (cx_ 13 [0,1,2,3,4,5,6,7,8,9,10,11,12] [11,12] 12 (blk a11 c12) (xp 42 (pt pb0 5) (xp 43 (pt pb0 5) (xp 44 (pt pb0 5) (xp 45 (pt pb0 5) (xp 46 (pt pb0 5) (x1 47 22 (sl a11 p0.2.2.1.1.length c12) B_m0.at 5 rfl (xp 48 (sl a36 x35.length c37) ?_)))))))))
   obtain ⟨x50,hx50,hr⟩:=bind_some hr
   obtain ⟨b51,o52,eab51,i0x50,i1x50,csx50,p_b51,owx50⟩:=f38.idx hx50
   obtain ⟨rfl,hb53⟩:=owx50
   replace p_b51:PubAt κ48 b51 (o52+(1:Int).toNat*1) [strV x50]:=p_b51
   refine xi 49 36 9 1 x35.length c37 .i64 1 eab51 i0x50 i1x50 (x1 50 9 (strV x50) p_b51.at 0 rfl (xp 51 (iv x46.1) (xp 52 (.agg #[strV x50,iv x46.1]) (zem (d:=53) (T:=22) (e:=94) (t:=tGlue) (pub:=true) (τ:=(κ.H.size,64001)) (len:=1) (l:=[(x50,x46.1)]) (parts:=#[(0,.agg #[strV x50,iv x46.1])]) (cs:=[strV x50,iv x46.1]) kr kr kr kr hs.1 rfl ⟨_,_,rfl,⟨_,_,rfl,⟨rfl,hb53⟩,⟨rfl,hb47⟩⟩,rfl⟩ kr fun a56 κ54 s55 f57=>?_))))
   replace hs:=hs.tr0 s55
   replace f13:=f13.step0 s55
   replace f16:=f16.step0 s55
   replace B_m0:=B_m0.step0 s55
   obtain ⟨x59,hx59,hr⟩:=bind_some hr
   have f13q:=f13.sl
   refine zgf (d:=54) (T:=22) (e:=94) (t:=tGlue) (pub:=true) (τ:=τ0_5) (bytes:=24) (a:=a11) (cp:=c12) (l:=p0.2.2.1.1) (a2:=a56) (c2:=1) (l2:=[(x50,x46.1)]) kr kr f13 f57.sl (Nat.le_trans (Nat.le_of_lt lt_τ0_5) hs.1) kr hx59 kr fun a62 c63 κ60 s61 f64 hw=>?_
   have ow_f64:∀ g∈blk a62 c63,g∈([pb0]++blk a11 c12++blk a14 c15)∨κ.H.size≤g:=fun g hg=>(hw g hg).elim (ow_f13 g) (fun h=>.inr (Nat.le_trans hs.1 h))
   replace hs:=hs.trM ow_f13 s61
   replace f13q:=f13q.step s61
   replace f16:=f16.step s61 (f16.ng f13 (ne_τ0_6_τ0_5))
   replace B_m0:=B_m0.step s61 (f13.bn B_m0 (ne_τ0_τ0_5))
   refine xe (op 55 (pt pb0 5) (op 56 (pt pb0 5) (op 57 (pt pb0 5) (zn (b:=pb0) (off:=5) (T:=22) (sl a62 x59.length c63) [sl a62 x59.length c63] [.bool p0.1,sl a1 p0.2.1.1.1.length c2,sl a4 p0.2.1.1.2.length c5,sl a7 p0.2.1.2.1.length c8,iv p0.2.1.2.2,sl a62 x59.length c63,sl a14 p0.2.2.1.2.length c15,strV p0.2.2.2.1,sl a18 p0.2.2.2.2.1.1.length c19,sl a21 p0.2.2.2.2.1.2.length c22,sl a24 p0.2.2.2.2.2.length c25] kr kr B_m0 rfl kr kr kr rfl fun κ65 s66 _ NB_m0=>?_))))
   replace hs:=hs.trP (by simp) s66
   replace f13q:=f13q.step s66
   replace f16:=f16.step s66 (f16.nb B_m0 (ne_τ0_6_τ0))
   replace f64:=f64.step s66 (f64.nb B_m0 (ne_τ0_5_τ0))
   replace B_m0:=NB_m0
   refine otx (op 4 (iv 0) (ot (crt (zf (zb ?_)))))
   obtain rfl:=sj hr
   refine rt [.tmp 4] [iv 0] ⟨rfl,trivial⟩ ?_
   exact ⟨hs,_,_,_,_,rfl,(show I64 0 by unfold I64;omega),B_m0,f64,ow_f64,⟨_,f16⟩,ow_f16⟩
  intro hc hr
  refine zl (fun Z=>∀ (y67:Bool) (E0:Env),zar p0 x35 y67=some r→cwp Tryz.prog 108 (sub (zC Tryz.f64) [1,1,1,0,0,1,1]) Z (upd (upd (upd (E0) 0 (pt pb0 5)) 5 (sl a36 x35.length c37)) 58 (.bool y67)) κ39) ?_ fun J2=>?_
  ·intro y67 E0 hr
   refine cc (y67) hr ?_ ?_
   ·intro hc hr
    refine csr (op 4 (iv 6) (ot (crt (zf (zb ?_)))))
    obtain rfl:=sj hr
    refine rt [.tmp 4] [iv 6] ⟨rfl,trivial⟩ ?_
    exact ⟨hs,_,_,_,_,rfl,(show I64 6 by unfold I64;omega),B_m0,f13,ow_f13,⟨_,f16⟩,ow_f16⟩
   intro hc hr
   refine ck (zd (za (csr (op 68 (sl a36 x35.length c37) ?_))))
   obtain ⟨x68,hx68,hr⟩:=bind_some hr
   obtain ⟨b69,o70,eab69,i0x68,i1x68,csx68,p_b69,owx68⟩:=f38.idx hx68
   obtain ⟨rfl,hb71⟩:=owx68
   replace p_b69:PubAt κ39 b69 (o70+(1:Int).toNat*1) [strV x68]:=p_b69
   refine oi 69 36 9 1 x35.length c37 .i64 1 eab69 i0x68 i1x68 (o1 70 9 (strV x68) (p_b69.at.one (o:=0) rfl) (op 71 (.agg #[strV x68,sl none 0 0]) (zz (d:=8) (T:=97) (κ.H.size,64002) hs.1 [strV ([]:BS),sl none 0 0] kr kr kr fun b72 κ73 s74 B_b72=>?_)))
   replace hs:=hs.tr0 s74
   replace f38:=f38.step s74
   replace f13:=f13.step0 s74
   replace f16:=f16.step0 s74
   replace B_m0:=B_m0.step0 s74
   refine zn (b:=b72) (off:=0) (T:=97) (.agg #[strV x68,sl none 0 0]) [strV x68,sl none 0 0] [strV x68,sl none 0 0] kr kr B_b72 rfl kr kr kr rfl fun κ75 s76 _ NB_b72=>?_
   replace hs:=hs.trB B_b72.ge s76
   replace f38:=f38.step s76
   replace f13:=f13.step s76 (f13.nb B_b72 (zai (i:=64002) lt_τ0_5))
   replace f16:=f16.step s76 (f16.nb B_b72 (zai (i:=64002) lt_τ0_6))
   replace B_m0:=B_m0.step s76 (nm1 (B_m0.ne B_b72 (zai (i:=64002) lt_τ0)))
   replace B_b72:=NB_b72
   refine ot (cs (csr (op 72 (sl a36 x35.length c37) ?_)))
   obtain ⟨x77,hx77,hr⟩:=bind_some hr
   refine zo0 (d:=73) (T:=36) (e:=9) (t:=tStr) (lo:=(some 2)) (hi:=none) kr kr kr kr f38 hx77 fun a78 c79 f80=>op 74 (iv (x77.length:Int)) (op 75 (iv 0) (ot (cb 1 ?_)))
   refine zj 1 (fun Z=>∀ (y87:LI) (a89:OA) (c90:Nat) (E0:Env) (κ91:K) (hs:Step ([pb0]++blk a11 c12++blk a14 c15) κ κ91) (f88:Gr tI64 true (κ.H.size,64004) κ91 2 a89 c90 y87) (f13:Gr tGlue true τ0_5 κ91 94 a11 c12 p0.2.2.1.1) (f16:GrT tStr tI64 64004 2 τ0_6 κ91 97 a14 c15 p0.2.2.1.2 Hx) (B_m0:Box τ0 κ91 pb0 [.bool p0.1,sl a1 p0.2.1.1.1.length c2,sl a4 p0.2.1.1.2.length c5,sl a7 p0.2.1.2.1.length c8,iv p0.2.1.2.2,sl a11 p0.2.2.1.1.length c12,sl a14 p0.2.2.1.2.length c15,strV p0.2.2.2.1,sl a18 p0.2.2.2.2.1.1.length c19,sl a21 p0.2.2.2.2.1.2.length c22,sl a24 p0.2.2.2.2.2.length c25] 71) (B_b72:Box (κ.H.size,64002) κ91 b72 [strV x68,sl a89 y87.length c90] 97),zce p0 x68 y87=some r→Z (upd (upd (E0) 0 (pt pb0 5)) 8 (pt b72 0)) κ91) ?_ fun J3=>?_
   ·intro y87 a89 c90 E0 κ91 hs f88 f13 f16 B_m0 B_b72 hr
    refine zg (za (cs (cx_ 9 [0,1,2,3,4,5,6,7,8] [7,8] 8 (blk a14 c15) (xp 96 (pt pb0 5) (xp 97 (pt pb0 5) (xp 98 (pt pb0 5) (xp 99 (pt pb0 5) (xp 100 (pt pb0 6) (x1 101 23 (sl a14 p0.2.2.1.2.length c15) B_m0.at 6 rfl ?_)))))))))
    refine xN 102 97 [strV x68,sl a89 y87.length c90] B_b72.at 0 2 rfl (zem (d:=103) (T:=23) (e:=97) (t:=tX tStr tI64) (pub:=true) (τ:=(κ.H.size,64005)) (len:=1) (l:=[((x68,y87),(a89,y87.length,c90))]) (parts:=#[(0,.agg #[strV x68,sl a89 y87.length c90])]) (cs:=[strV x68,sl a89 y87.length c90]) kr kr kr kr hs.1 rfl ⟨_,_,rfl,⟨_,rfl,⟨rfl,hb71⟩,rfl,f88.sl⟩,rfl⟩ kr fun a94 κ92 s93 f95=>?_)
    replace f88:=f88.step0 s93
    replace hs:=hs.tr0 s93
    replace f13:=f13.step0 s93
    replace f16:=f16.step0 s93
    replace B_m0:=B_m0.step0 s93
    obtain ⟨x97,hx97,hr⟩:=bind_some hr
    have f16q:=f16.sl
    refine zuo (d:=104) (T:=23) (tb:=tStr) (t:=tI64) (S:=64004) (eS:=2) (e:=97) (τ:=τ0_6) (bytes:=40) (a:=a14) (cp:=c15) (L:=p0.2.2.1.2) (a2:=a94) (c2:=1) (x:=(x68,y87)) (hd:=(a89,y87.length,c90)) (N:=κ.H.size) kr kr f16 f95 f88 rfl (f88.ng f16.gr1 (zai (i:=64004) lt_τ0_6).symm) hltx (Nat.le_trans (Nat.le_of_lt lt_τ0_6) hs.1) kr hx97 kr (fun a100 c101 κ98 s99 f102 hw=>?_)
    have ow_f102:∀ g∈blk a100 c101,g∈([pb0]++blk a11 c12++blk a14 c15)∨κ.H.size≤g:=fun g hg=>(hw g hg).elim (ow_f16 g) (fun h=>.inr (Nat.le_trans hs.1 h))
    replace hs:=hs.trM ow_f16 s99
    replace f16q:=f16q.step s99
    replace f13:=f13.step s99 (f13.ng f16.gr1 (ne_τ0_5_τ0_6))
    replace B_m0:=B_m0.step s99 (f16.bn B_m0 (ne_τ0_τ0_6))
    refine xe (op 105 (pt pb0 5) (op 106 (pt pb0 5) (op 107 (pt pb0 6) (zn (b:=pb0) (off:=6) (T:=23) (sl a100 x97.length c101) [sl a100 x97.length c101] [.bool p0.1,sl a1 p0.2.1.1.1.length c2,sl a4 p0.2.1.1.2.length c5,sl a7 p0.2.1.2.1.length c8,iv p0.2.1.2.2,sl a11 p0.2.2.1.1.length c12,sl a100 x97.length c101,strV p0.2.2.2.1,sl a18 p0.2.2.2.2.1.1.length c19,sl a21 p0.2.2.2.2.1.2.length c22,sl a24 p0.2.2.2.2.2.length c25] kr kr B_m0 rfl kr kr kr rfl fun κ103 s104 _ NB_m0=>?_))))
    replace hs:=hs.trP (by simp) s104
    replace f16q:=f16q.step s104
    replace f13:=f13.step s104 (f13.nb B_m0 (ne_τ0_5_τ0))
    replace f102:=f102.step s104 (f102.nb B_m0 (ne_τ0_6_τ0))
    replace B_m0:=NB_m0
    refine otx (op 4 (iv 0) (ot (crt ?_)))
    obtain rfl:=sj hr
    refine rt [.tmp 4] [iv 0] ⟨rfl,trivial⟩ ?_
    exact ⟨hs,_,_,_,_,rfl,(show I64 0 by unfold I64;omega),B_m0,f13,ow_f13,⟨_,f102⟩,ow_f102⟩
   obtain ⟨x105,hx105,hrx105⟩:=bind_some hr
   refine zo (F:=z7 p0 x77) (J:=fun (sx105:Int×LI) (E':Env) (κ':K)=>∃ (a85:OA) (c86:Nat),(∃ E0,E'=upd (upd (upd (upd (upd (E0) 0 (pt pb0 5)) 8 (pt b72 0)) 73 (sl a78 x77.length c79)) 74 (iv (x77.length:Int))) 75 (iv sx105.1))∧Step ([pb0]++blk a11 c12++blk a14 c15) κ κ'∧I64 sx105.1∧Gr tI64 true (κ.H.size,64004) κ' 2 a85 c86 sx105.2∧Sl tStr κ' a78 c79 x77∧Gr tGlue true τ0_5 κ' 94 a11 c12 p0.2.2.1.1∧GrT tStr tI64 64004 2 τ0_6 κ' 97 a14 c15 p0.2.2.1.2 Hx∧Box τ0 κ' pb0 [.bool p0.1,sl a1 p0.2.1.1.1.length c2,sl a4 p0.2.1.1.2.length c5,sl a7 p0.2.1.2.1.length c8,iv p0.2.1.2.2,sl a11 p0.2.2.1.1.length c12,sl a14 p0.2.2.1.2.length c15,strV p0.2.2.2.1,sl a18 p0.2.2.2.2.1.1.length c19,sl a21 p0.2.2.2.2.1.2.length c22,sl a24 p0.2.2.2.2.2.length c25] 71∧Box (κ.H.size,64002) κ' b72 [strV x68,sl a85 sx105.2.length c86] 97) (s0:=(0,[])) (x:=x105) kr hx105 ⟨_,_,⟨_,(eA 75 (eA 74 (eA 73 (eA 8 (eA 0 rfl)))))⟩,hs,(show I64 0 by unfold I64;omega),Gr.nil,f80,f13,f16,B_m0,B_b72⟩ ?_
   rintro sx105 _ κ106 ⟨a85,c86,⟨E0,rfl⟩,hs,hb82,f84,f80,f13,f16,B_m0,B_b72⟩ yyx105 hr hdx105
   refine csr (op 76 (bW (sx105.1<(x77.length:Int))) (ot (cs ?_)))
   refine cc (decide (sx105.1<(x77.length:Int))) hr ?_ ?_
   ·intro hc hr
    refine ckt (cs (cb 2 (csr ?_)))
    obtain ⟨x107,hx107,hr⟩:=bind_some hr
    obtain ⟨b108,o109,eab108,i0x107,i1x107,csx107,p_b108,owx107⟩:=f80.idx hx107
    obtain ⟨rfl,hb110⟩:=owx107
    replace p_b108:PubAt κ106 b108 (o109+sx105.1.toNat*1) [strV x107]:=p_b108
    refine oi 77 36 9 1 x77.length c79 .i64 sx105.1 eab108 i0x107 i1x107 (o1 78 9 (strV x107) (p_b108.at.one (o:=0) rfl) (op 10 (strV x107) (otx (op 11 (iv 0) (ot ?_)))))
    refine zl (fun Z=>∀ (y111:Int) (E0:Env) (κ113:K) (hs:Step ([pb0]++blk a11 c12++blk a14 c15) κ κ113) (hb112:I64 y111) (f80:Sl tStr κ113 a78 c79 x77) (f13:Gr tGlue true τ0_5 κ113 94 a11 c12 p0.2.2.1.1) (f16:GrT tStr tI64 64004 2 τ0_6 κ113 97 a14 c15 p0.2.2.1.2 Hx) (f84:Gr tI64 true (κ.H.size,64004) κ113 2 a85 c86 sx105.2) (B_m0:Box τ0 κ113 pb0 [.bool p0.1,sl a1 p0.2.1.1.1.length c2,sl a4 p0.2.1.1.2.length c5,sl a7 p0.2.1.2.1.length c8,iv p0.2.1.2.2,sl a11 p0.2.2.1.1.length c12,sl a14 p0.2.2.1.2.length c15,strV p0.2.2.2.1,sl a18 p0.2.2.2.2.1.1.length c19,sl a21 p0.2.2.2.2.1.2.length c22,sl a24 p0.2.2.2.2.2.length c25] 71) (B_b72:Box (κ.H.size,64002) κ113 b72 [strV x68,sl a85 sx105.2.length c86] 97),zaX sx105 y111=some yyx105→cwp Tryz.prog 108 (sub (zC Tryz.f64) [1,1,1,0,0,1,1,0,0,1,0,1,1,1,1]) Z (upd (upd (upd (upd (upd (upd (E0) 0 (pt pb0 5)) 8 (pt b72 0)) 11 (iv y111)) 73 (sl a78 x77.length c79)) 74 (iv (x77.length:Int))) 75 (iv sx105.1)) κ113) ?_ fun J4=>?_
    ·intro y111 E0 κ113 hs hb112 f80 f13 f16 f84 B_m0 B_b72 hr
     refine cr (op 89 (pt b72 1) (o1 90 95 (sl a85 sx105.2.length c86) (B_b72.at.one (o:=1) rfl) (op 91 (iv y111) (zO (d:=92) (T:=95) (e:=2) (t:=tI64) (pub:=true) (τ:=(κ.H.size,64003)) (len:=1) (l:=[y111]) (parts:=#[(0,iv y111)]) (cs:=[iv y111]) kr kr kr kr hs.1 rfl ⟨_,_,rfl,⟨rfl,hb112⟩,rfl⟩ kr fun a116 κ114 s115 f117=>?_))))
     replace hs:=hs.tr0 s115
     replace f80:=f80.step s115
     replace f13:=f13.step0 s115
     replace f16:=f16.step0 s115
     replace f84:=f84.step0 s115
     replace B_m0:=B_m0.step0 s115
     replace B_b72:=B_b72.step0 s115
     obtain ⟨x119,hx119,hr⟩:=bind_some hr
     have f84q:=f84.sl
     refine zM (d:=93) (T:=95) (e:=2) (t:=tI64) (pub:=true) (τ:=(κ.H.size,64004)) (bytes:=8) (a:=a85) (cp:=c86) (l:=sx105.2) (a2:=a116) (c2:=1) (l2:=[y111]) kr kr f84 f117.sl hs.1 kr hx119 fun a122 c123 κ120 s121 f124 hw=>?_
     clear hw
     replace hs:=hs.trG (f84.own (Nat.le_refl _)) s121
     replace f80:=f80.step s121
     replace f84q:=f84q.step s121
     replace f13:=f13.step s121 (f13.ng f84 (zai (i:=64004) lt_τ0_5))
     replace f16:=f16.step s121 (f16.ng f84 (zai (i:=64004) lt_τ0_6))
     replace B_m0:=B_m0.step s121 (f84.bn B_m0 (zai (i:=64004) lt_τ0))
     replace B_b72:=B_b72.step s121 (f84.bn B_b72 (zm (N:=κ.H.size) (M:=κ.H.size) (i:=64002) (j:=64004) kr))
     refine op 94 (pt b72 1) (zn (b:=b72) (off:=1) (T:=95) (sl a122 x119.length c123) [sl a122 x119.length c123] [strV x68,sl a122 x119.length c123] kr kr B_b72 rfl kr kr kr rfl fun κ125 s126 _ NB_b72=>?_)
     replace hs:=hs.trB B_b72.ge s126
     replace f80:=f80.step s126
     replace f84q:=f84q.step s126
     replace f13:=f13.step s126 (f13.nb B_b72 (zai (i:=64002) lt_τ0_5))
     replace f16:=f16.step s126 (f16.nb B_b72 (zai (i:=64002) lt_τ0_6))
     replace f124:=f124.step s126 (f124.nb B_b72 (zm (N:=κ.H.size) (M:=κ.H.size) (i:=64004) (j:=64002) kr))
     replace B_m0:=B_m0.step s126 (nm1 (B_m0.ne B_b72 (zai (i:=64002) lt_τ0)))
     replace B_b72:=NB_b72
     refine oe (zd (za (cr (op 95 (iv (w64 (sx105.1+1))) (op 75 (iv (w64 (sx105.1+1))) (oe ?_))))))
     exact ze (sj hr).symm ⟨_,_,⟨_,(eA 75 (eA 74 (eA 73 (eA 8 (eA 0 rfl)))))⟩,hs,(zq _),f124,f80,f13,f16,B_m0,B_b72⟩
    refine cs (csr (op 79 (strV x107) (oq 80 (.bool (!decide (x107=([45]:BS)))) (fun _=>zch kr) (ot ?_))))
    refine cc (!decide (x107=([45]:BS))) hr ?_ ?_
    ·intro hc hr
     refine csr (op 81 (pt pb0 5) (op 82 (pt pb0 5) (op 83 (pt pb0 5) (oN 84 25 [sl a11 p0.2.2.1.1.length c12,sl a14 p0.2.2.1.2.length c15] (B_m0.at.part 5 2).2 (op 85 (strV x107) ?_)))))
     obtain ⟨x127,hx127,hr⟩:=bind_some hr
     refine ocl 86 (zhU f13.sl f16.sl hb110 hx127) ?_
     rintro _ κ129 ⟨s130,rfl,hb128⟩
     replace hs:=hs.tr0 s130
     replace f80:=f80.step s130
     replace f13:=f13.step0 s130
     replace f16:=f16.step0 s130
     replace f84:=f84.step0 s130
     replace B_m0:=B_m0.step0 s130
     replace B_b72:=B_b72.step0 s130
     refine op 11 (iv x127) (otx (op 87 (iv x127) (op 88 (bW (x127=0)) (ot ?_))))
     refine cc (decide (x127=0)) hr ?_ ?_
     ·intro hc hr
      refine csr (op 4 (iv 3) (ot (crt (zb (zf (zb ?_))))))
      have hx:=hdx105 _ (sj hr).symm
      subst hx
      replace hr:=hrx105
      refine zt (zf (zb ?_))
      obtain rfl:=sj hr
      refine rt [.tmp 4] [iv 3] ⟨rfl,trivial⟩ ?_
      exact ⟨hs,_,_,_,_,rfl,(show I64 3 by unfold I64;omega),B_m0,f13,ow_f13,⟨_,f16⟩,ow_f16⟩
     intro hc hr
     refine ckt ?_
     exact zk (eA 75 (eA 74 (eA 73 (eA 11 (eA 8 (eA 0 rfl)))))) (J4 x127  _ _ hs hb128 f80 f13 f16 f84 B_m0 B_b72 hr)
    intro hc hr
    refine ckt ?_
    exact zk (eA 75 (eA 74 (eA 73 (eA 11 (eA 8 (eA 0 rfl)))))) (J4 0  _ _ hs (show I64 0 by unfold I64;omega) f80 f13 f16 f84 B_m0 B_b72 hr)
   intro hc hr
   refine cx 1 (zh ?_)
   have hx:=hdx105 _ (sj hr).symm
   subst hx
   replace hr:=hrx105
   refine zi ?_
   exact zr (eA 8 (eA 0 rfl)) (J3 sx105.2 _ _ _ _ hs f84 f13 f16 B_m0 B_b72 hr)
  refine csr (op 59 (sl a36 x35.length c37) (op 60 (iv (x35.length:Int)) (op 61 (.bool (!decide ((x35.length:Int)=6))) ?_)))
  refine osp 62 (!decide ((x35.length:Int)=6)) hr ?_ ?_
  ·intro hg hr
   refine op 63 (sl a36 x35.length c37) ?_
   obtain ⟨x131,hx131,hr⟩:=bind_some hr
   obtain ⟨b132,o133,eab132,i0x131,i1x131,csx131,p_b132,owx131⟩:=f38.idx hx131
   obtain ⟨rfl,hb134⟩:=owx131
   replace p_b132:PubAt κ39 b132 (o133+(0:Int).toNat*1) [strV x131]:=p_b132
   refine oi 64 36 9 1 x35.length c37 .i64 0 eab132 i0x131 i1x131 (o1 65 9 (strV x131) (p_b132.at.one (o:=0) rfl) (oq 66 (.bool (!decide (x131=([116,105,108,101]:BS)))) (fun _=>zch kr) (op 67 (.bool (!decide (x131=([116,105,108,101]:BS)))) (op 58 (.bool (!decide (x131=([116,105,108,101]:BS)))) (ot ?_)))))
   exact zk (eA 58 (eA 5 (eA 0 rfl))) (J2 (!decide (x131=([116,105,108,101]:BS)))  _  hr)
  intro hg hr
  refine os 63 (os 64 (os 65 (os 66 (op 67 (.bool true) (op 58 (.bool true) (ot ?_))))))
  exact zk (eA 58 (eA 5 (eA 0 rfl))) (J2 true  _  hr)
 refine csr (op 15 (sl a36 x35.length c37) (op 16 (iv (x35.length:Int)) (op 17 (bW ((x35.length:Int)=3)) ?_)))
 refine osp 18 (decide ((x35.length:Int)=3)) hr ?_ ?_
 ·intro hg hr
  refine os 19 (os 20 (os 21 (os 22 (op 23 (.bool false) (op 24 (.bool false) (os 25 (os 26 (os 27 (os 28 ?_)))))))))
  refine os 29 (os 30 (os 31 (op 32 (.bool false) (op 14 (.bool false) (ot ?_)))))
  exact zk (eA 14 (eA 5 (eA 0 rfl))) (J1 false  _  hr)
 intro hg hr
 refine op 19 (sl a36 x35.length c37) ?_
 obtain ⟨x135,hx135,hr⟩:=bind_some hr
 obtain ⟨b136,o137,eab136,i0x135,i1x135,csx135,p_b136,owx135⟩:=f38.idx hx135
 obtain ⟨rfl,hb138⟩:=owx135
 replace p_b136:PubAt κ39 b136 (o137+(0:Int).toNat*1) [strV x135]:=p_b136
 refine oi 20 36 9 1 x35.length c37 .i64 0 eab136 i0x135 i1x135 (o1 21 9 (strV x135) (p_b136.at.one (o:=0) rfl) (oq 22 (bW (x135=([103,108,117,101]:BS))) (fun _=>zci kr) (op 23 (bW (x135=([103,108,117,101]:BS))) ?_)))
 refine osp 24 (decide (x135=([103,108,117,101]:BS))) hr ?_ ?_
 ·intro hg hr
  refine os 25 (os 26 (os 27 (os 28 (os 29 (os 30 (os 31 (op 32 (.bool false) (op 14 (.bool false) (ot ?_)))))))))
  exact zk (eA 14 (eA 5 (eA 0 rfl))) (J1 false  _  hr)
 intro hg hr
 refine op 25 (pt pb0 5) (op 26 (pt pb0 5) (op 27 (pt pb0 5) (op 28 (pt pb0 6) (o1 29 23 (sl a14 p0.2.2.1.2.length c15) (B_m0.at.one (o:=6) rfl) (op 30 (iv (p0.2.2.1.2.length:Int)) (op 31 (bW ((p0.2.2.1.2.length:Int)=0)) (op 32 (bW ((p0.2.2.1.2.length:Int)=0)) (op 14 (bW ((p0.2.2.1.2.length:Int)=0)) (ot ?_)))))))))
 exact zk (eA 14 (eA 5 (eA 0 rfl))) (J1 (decide ((p0.2.2.1.2.length:Int)=0))  _  hr)
theorem zhR {κ:K} {p0:Bool×(TS×(LP)×Int)×(TS)×(BS×(TS×LP))} {pb0:Nat} {τ0:Tag} {a1:OA} {c2:Nat} {a4:OA} {c5:Nat} {a7:OA} {c8:Nat} {a11:OA} {c12:Nat} {a14:OA} {c15:Nat} {a18:OA} {c19:Nat} {a21:OA} {c22:Nat} {a24:OA} {c25:Nat} {τ0_5:Tag} {τ0_6:Tag} {τ0_10:Tag} {p1:BS} (B_m0:Box τ0 κ pb0 [.bool p0.1,sl a1 p0.2.1.1.1.length c2,sl a4 p0.2.1.1.2.length c5,sl a7 p0.2.1.2.1.length c8,iv p0.2.1.2.2,sl a11 p0.2.2.1.1.length c12,sl a14 p0.2.2.1.2.length c15,strV p0.2.2.2.1,sl a18 p0.2.2.2.2.1.1.length c19,sl a21 p0.2.2.2.2.1.2.length c22,sl a24 p0.2.2.2.2.2.length c25] 71) (f3:Sl tGlue κ a1 c2 p0.2.1.1.1) (f6:Sl zQ κ a4 c5 p0.2.1.1.2) (f9:Sl tPlaced κ a7 c8 p0.2.1.2.1) (hb10:I64 p0.2.1.2.2) (f13:Gr tGlue true τ0_5 κ 94 a11 c12 p0.2.2.1.1) (lt_τ0_5:τ0_5.1<κ.H.size) (f16:GrE tStr tI64 64004 2 τ0_6 κ 97 a14 c15 p0.2.2.1.2) (lt_τ0_6:τ0_6.1<κ.H.size) (hb17:p0.2.2.2.1.length≤9223372036854775807) (f20:Sl tGlue κ a18 c19 p0.2.2.2.2.1.1) (f23:Sl zQ κ a21 c22 p0.2.2.2.2.1.2) (f26:Gr tPlaced true τ0_10 κ 108 a24 c25 p0.2.2.2.2.2) (lt_τ0_10:τ0_10.1<κ.H.size) (hb27:p1.length≤9223372036854775807) (ne_τ0_τ0_5:τ0≠τ0_5) (ne_τ0_τ0_6:τ0≠τ0_6) (ne_τ0_τ0_10:τ0≠τ0_10) (ne_τ0_5_τ0_6:τ0_5≠τ0_6) (ne_τ0_5_τ0_10:τ0_5≠τ0_10) (ne_τ0_6_τ0_10:τ0_6≠τ0_10) (G0:Glob κ) {r:Int×(Bool×(TS×(LP)×Int)×(TS)×(BS×(TS×LP)))} (hr:zA p0 p1=some r) :
 Fn Tryz.prog 31 #[pt pb0 0,strV p1] κ (fun v κ'=>Step ([pb0]++blk a11 c12++blk a14 c15++blk a24 c25) κ κ'∧∃ (a30:OA) (c31:Nat) (a33:OA) (c34:Nat) (a37:OA) (c38:Nat) (a40:OA) (c41:Nat) (a43:OA) (c44:Nat),v=iv r.1∧I64 r.1∧Box τ0 κ' pb0 [.bool r.2.1,sl a1 p0.2.1.1.1.length c2,sl a4 p0.2.1.1.2.length c5,sl a7 p0.2.1.2.1.length c8,iv r.2.2.1.2.2,sl a30 r.2.2.2.1.1.length c31,sl a33 r.2.2.2.1.2.length c34,strV r.2.2.2.2.1,sl a37 r.2.2.2.2.2.1.1.length c38,sl a40 r.2.2.2.2.2.1.2.length c41,sl a43 r.2.2.2.2.2.2.length c44] 71∧I64 r.2.2.1.2.2∧Gr tGlue true τ0_5 κ' 94 a30 c31 r.2.2.2.1.1∧(∀ g∈blk a30 c31,g∈([pb0]++blk a11 c12++blk a14 c15++blk a24 c25)∨κ.H.size≤g)∧GrE tStr tI64 64004 2 τ0_6 κ' 97 a33 c34 r.2.2.2.1.2∧(∀ g∈blk a33 c34,g∈([pb0]++blk a11 c12++blk a14 c15++blk a24 c25)∨κ.H.size≤g)∧r.2.2.2.2.1.length≤9223372036854775807∧Sl tGlue κ' a37 c38 r.2.2.2.2.2.1.1∧Sl zQ κ' a40 c41 r.2.2.2.2.2.1.2∧Gr tPlaced true τ0_10 κ' 108 a43 c44 r.2.2.2.2.2.2∧(∀ g∈blk a43 c44,g∈([pb0]++blk a11 c12++blk a14 c15++blk a24 c25)∨κ.H.size≤g)):=by
 refine fnc 85 ([pb0]++blk a11 c12++blk a14 c15++blk a24 c25) Tryz.func31 Tryz.ntmps31 fun hs=>?_
 have lt_τ0:=B_m0.tlt
 have ne_τ0_5_τ0:=ne_τ0_τ0_5.symm
 have ne_τ0_6_τ0:=ne_τ0_τ0_6.symm
 have ne_τ0_10_τ0:=ne_τ0_τ0_10.symm
 have ne_τ0_6_τ0_5:=ne_τ0_5_τ0_6.symm
 have ne_τ0_10_τ0_5:=ne_τ0_5_τ0_10.symm
 have ne_τ0_10_τ0_6:=ne_τ0_6_τ0_10.symm
 have ow_f13:∀ g∈blk a11 c12,g∈([pb0]++blk a11 c12++blk a14 c15++blk a24 c25)∨κ.H.size≤g:=fun g hg=>.inl (by simp [hg])
 have ow_f16:∀ g∈blk a14 c15,g∈([pb0]++blk a11 c12++blk a14 c15++blk a24 c25)∨κ.H.size≤g:=fun g hg=>.inl (by simp [hg])
 have ow_f26:∀ g∈blk a24 c25,g∈([pb0]++blk a11 c12++blk a14 c15++blk a24 c25)∨κ.H.size≤g:=fun g hg=>.inl (by simp [hg])
 refine csr (op 4 (iv 0) (otx (op 8 (strV p1) ?_)))
 obtain ⟨x46,hx46,hr⟩:=bind_some hr
 refine ocl 9 (zdt hb27 hx46) ?_
 rintro _ κ50 ⟨s51,a47,c48,rfl,f49⟩
 replace hs:=hs.tr0 s51
 replace f13:=f13.step0 s51
 replace f16:=f16.step0 s51
 replace f26:=f26.step0 s51
 replace B_m0:=B_m0.step0 s51
 refine op 5 (sl a47 x46.length c48) (ot (cs (cb 0 (csr (op 11 (pt pb0 0) (op 12 (pt pb0 0) (op 13 (pt pb0 0) (o1 14 4 (.bool p0.1) (B_m0.at.one (o:=0) rfl) (op 15 (.bool (!p0.1)) ?_)))))))))
 refine op 10 (.bool (!p0.1)) (ot ?_)
 refine cc (!p0.1) hr ?_ ?_
 ·intro hc hr
  refine cs ?_
  refine zl (fun Z=>∀ (y52:Bool) (E0:Env),zaq p0 x46 y52=some r→cwp Tryz.prog 85 (sub (zC Tryz.f31) [1,0,0,1,0,0,1,1]) Z (upd (upd (upd (E0) 0 (pt pb0 0)) 5 (sl a47 x46.length c48)) 24 (.bool y52)) κ50) ?_ fun J1=>?_
  ·intro y52 E0 hr
   refine cc (y52) hr ?_ ?_
   ·intro hc hr
    refine csr (op 4 (iv 6) (ot (crt (zb (zf (zb ?_))))))
    obtain rfl:=sj hr
    refine rt [.tmp 4] [iv 6] ⟨rfl,trivial⟩ ?_
    exact ⟨hs,_,_,_,_,_,_,_,_,_,_,rfl,(show I64 6 by unfold I64;omega),B_m0,hb10,f13,ow_f13,f16,ow_f16,hb17,(f20.step hs),(f23.step hs),f26,ow_f26⟩
   intro hc hr
   refine ckt (csr (op 26 (sl a47 x46.length c48) ?_))
   obtain ⟨x53,hx53,hr⟩:=bind_some hr
   obtain ⟨b54,o55,eab54,i0x53,i1x53,csx53,p_b54,owx53⟩:=f49.idx hx53
   obtain ⟨rfl,hb56⟩:=owx53
   replace p_b54:PubAt κ50 b54 (o55+(1:Int).toNat*1) [strV x53]:=p_b54
   refine oi 27 36 9 1 x46.length c48 .i64 1 eab54 i0x53 i1x53 (o1 28 9 (strV x53) (p_b54.at.one (o:=0) rfl) ?_)
   obtain ⟨x57,hx57,hr⟩:=bind_some hr
   refine ocl 29 (zcS hb56 (G0.step hs) hx57) ?_
   rintro _ κ59 ⟨s60,rfl,hb58⟩
   replace hs:=hs.tr0 s60
   replace f13:=f13.step0 s60
   replace f16:=f16.step0 s60
   replace f26:=f26.step0 s60
   replace B_m0:=B_m0.step0 s60
   refine op 25 (.tuple #[iv x57.1,.bool x57.2]) (op 30 (iv x57.1) (op 31 (.bool x57.2) (op 6 (iv x57.1) (op 7 (.bool x57.2) (ot (cs (csr (op 32 (.bool x57.2) (op 33 (.bool (!x57.2)) ?_)))))))))
   refine ot ?_
   refine cc (!x57.2) hr ?_ ?_
   ·intro hc hr
    refine csr (op 4 (iv 6) (ot (crt (zb (zf (zb ?_))))))
    obtain rfl:=sj hr
    refine rt [.tmp 4] [iv 6] ⟨rfl,trivial⟩ ?_
    exact ⟨hs,_,_,_,_,_,_,_,_,_,_,rfl,(show I64 6 by unfold I64;omega),B_m0,hb10,f13,ow_f13,f16,ow_f16,hb17,(f20.step hs),(f23.step hs),f26,ow_f26⟩
   intro hc hr
   refine ckt (csr (op 34 (pt pb0 0) (op 35 (pt pb0 0) (op 36 (pt pb0 0) (zn (b:=pb0) (off:=0) (T:=4) (.bool true) [.bool true] [.bool true,sl a1 p0.2.1.1.1.length c2,sl a4 p0.2.1.1.2.length c5,sl a7 p0.2.1.2.1.length c8,iv p0.2.1.2.2,sl a11 p0.2.2.1.1.length c12,sl a14 p0.2.2.1.2.length c15,strV p0.2.2.2.1,sl a18 p0.2.2.2.2.1.1.length c19,sl a21 p0.2.2.2.2.1.2.length c22,sl a24 p0.2.2.2.2.2.length c25] kr kr B_m0 rfl kr kr kr rfl fun κ61 s62 _ NB_m0=>?_)))))
   replace hs:=hs.trP (by simp) s62
   replace f13:=f13.step s62 (f13.nb B_m0 (ne_τ0_5_τ0))
   replace f16:=f16.step s62 (f16.nb B_m0 (ne_τ0_6_τ0))
   replace f26:=f26.step s62 (f26.nb B_m0 (ne_τ0_10_τ0))
   replace B_m0:=NB_m0
   refine otx (op 37 (pt pb0 0) (op 38 (iv x57.1) (op 39 (pt pb0 0) (op 40 (pt pb0 1) (op 41 (pt pb0 4) (zn (b:=pb0) (off:=4) (T:=2) (iv x57.1) [iv x57.1] [.bool true,sl a1 p0.2.1.1.1.length c2,sl a4 p0.2.1.1.2.length c5,sl a7 p0.2.1.2.1.length c8,iv x57.1,sl a11 p0.2.2.1.1.length c12,sl a14 p0.2.2.1.2.length c15,strV p0.2.2.2.1,sl a18 p0.2.2.2.2.1.1.length c19,sl a21 p0.2.2.2.2.1.2.length c22,sl a24 p0.2.2.2.2.2.length c25] kr kr B_m0 rfl kr kr kr rfl fun κ63 s64 _ NB_m0=>?_))))))
   replace hs:=hs.trP (by simp) s64
   replace f13:=f13.step s64 (f13.nb B_m0 (ne_τ0_5_τ0))
   replace f16:=f16.step s64 (f16.nb B_m0 (ne_τ0_6_τ0))
   replace f26:=f26.step s64 (f26.nb B_m0 (ne_τ0_10_τ0))
   replace B_m0:=NB_m0
   refine otx (op 4 (iv 0) (ot (crt (zf (zb ?_)))))
   obtain rfl:=sj hr
   refine rt [.tmp 4] [iv 0] ⟨rfl,trivial⟩ ?_
   exact ⟨hs,_,_,_,_,_,_,_,_,_,_,rfl,(show I64 0 by unfold I64;omega),B_m0,hb58,f13,ow_f13,f16,ow_f16,hb17,(f20.step hs),(f23.step hs),f26,ow_f26⟩
  refine csr (op 16 (sl a47 x46.length c48) (op 17 (iv (x46.length:Int)) (op 18 (.bool (!decide ((x46.length:Int)=2))) ?_)))
  refine osp 19 (!decide ((x46.length:Int)=2)) hr ?_ ?_
  ·intro hg hr
   refine op 20 (sl a47 x46.length c48) ?_
   obtain ⟨x65,hx65,hr⟩:=bind_some hr
   obtain ⟨b66,o67,eab66,i0x65,i1x65,csx65,p_b66,owx65⟩:=f49.idx hx65
   obtain ⟨rfl,hb68⟩:=owx65
   replace p_b66:PubAt κ50 b66 (o67+(0:Int).toNat*1) [strV x65]:=p_b66
   refine oi 21 36 9 1 x46.length c48 .i64 0 eab66 i0x65 i1x65 (o1 22 9 (strV x65) (p_b66.at.one (o:=0) rfl) (oq 23 (.bool (!decide (x65=([116,101,109,112,101,114,97,116,117,114,101]:BS)))) (fun _=>zch kr) (op 24 (.bool (!decide (x65=([116,101,109,112,101,114,97,116,117,114,101]:BS)))) (ot ?_))))
   exact zk (eA 24 (eA 5 (eA 0 rfl))) (J1 (!decide (x65=([116,101,109,112,101,114,97,116,117,114,101]:BS)))  _  hr)
  intro hg hr
  refine os 20 (os 21 (os 22 (os 23 (op 24 (.bool true) (ot ?_)))))
  exact zk (eA 24 (eA 5 (eA 0 rfl))) (J1 true  _  hr)
 intro hc hr
 refine zl (fun Z=>∀ (y69:Bool) (E0:Env),z6 p0 p1 y69=some r→cwp Tryz.prog 85 (sub (zC Tryz.f31) [1,1,1,0,0,1,1]) Z (upd (upd (upd (E0) 0 (pt pb0 0)) 1 (strV p1)) 42 (.bool y69)) κ50) ?_ fun J2=>?_
 ·intro y69 E0 hr
  refine cc (y69) hr ?_ ?_
  ·intro hc hr
   refine csr (op 52 (pt pb0 0) (op 53 (pt pb0 0) (op 54 (pt pb0 7) (op 55 (pt pb0 7) (zn (b:=pb0) (off:=7) (T:=9) (strV ([115,101,101,100]:BS)) [strV ([115,101,101,100]:BS)] [.bool p0.1,sl a1 p0.2.1.1.1.length c2,sl a4 p0.2.1.1.2.length c5,sl a7 p0.2.1.2.1.length c8,iv p0.2.1.2.2,sl a11 p0.2.2.1.1.length c12,sl a14 p0.2.2.1.2.length c15,strV ([115,101,101,100]:BS),sl a18 p0.2.2.2.2.1.1.length c19,sl a21 p0.2.2.2.2.1.2.length c22,sl a24 p0.2.2.2.2.2.length c25] kr kr B_m0 rfl kr kr kr rfl fun κ70 s71 _ NB_m0=>?_)))))
   replace hs:=hs.trP (by simp) s71
   replace f13:=f13.step s71 (f13.nb B_m0 (ne_τ0_5_τ0))
   replace f16:=f16.step s71 (f16.nb B_m0 (ne_τ0_6_τ0))
   replace f26:=f26.step s71 (f26.nb B_m0 (ne_τ0_10_τ0))
   replace B_m0:=NB_m0
   refine otx (op 56 (pt pb0 0) (op 57 (pt pb0 0) (op 58 (pt pb0 0) (op 59 (pt pb0 5) (op 60 (pt pb0 5) (oN 61 25 [sl a11 p0.2.2.1.1.length c12,sl a14 p0.2.2.1.2.length c15] (B_m0.at.part 5 2).2 (op 62 (pt pb0 0) (op 63 (pt pb0 7) (op 64 (pt pb0 8) ?_)))))))))
   refine op 65 (pt pb0 8) (zn (b:=pb0) (off:=8) (T:=25) (.agg #[sl a11 p0.2.2.1.1.length c12,sl a14 p0.2.2.1.2.length c15]) [sl a11 p0.2.2.1.1.length c12,sl a14 p0.2.2.1.2.length c15] [.bool p0.1,sl a1 p0.2.1.1.1.length c2,sl a4 p0.2.1.1.2.length c5,sl a7 p0.2.1.2.1.length c8,iv p0.2.1.2.2,sl a11 p0.2.2.1.1.length c12,sl a14 p0.2.2.1.2.length c15,strV ([115,101,101,100]:BS),sl a11 p0.2.2.1.1.length c12,sl a14 p0.2.2.1.2.length c15,sl a24 p0.2.2.2.2.2.length c25] kr kr B_m0 rfl kr kr kr rfl fun κ72 s73 _ NB_m0=>?_)
   replace hs:=hs.trP (by simp) s73
   replace f13:=f13.step s73 (f13.nb B_m0 (ne_τ0_5_τ0))
   replace f16:=f16.step s73 (f16.nb B_m0 (ne_τ0_6_τ0))
   replace f26:=f26.step s73 (f26.nb B_m0 (ne_τ0_10_τ0))
   replace B_m0:=NB_m0
   refine otx (op 66 (pt pb0 0) (op 67 (pt pb0 0) (op 68 (pt pb0 7) (op 69 (strV p1) ?_))))
   obtain ⟨x74,hx74,hr⟩:=bind_some hr
   refine ocl 70 (zg9 (p0:=(p0.1,(p0.2.1,(p0.2.2.1,(([115,101,101,100]:BS),(p0.2.2.1,p0.2.2.2.2.2)))))) B_m0 (f3.step hs) (f6.step hs) (f9.step hs) hb10 f13.sl f16.sl (by simp) f13.sl f16.sl f26 (Nat.lt_of_lt_of_le lt_τ0_10 hs.1) hb27 (ne_τ0_τ0_10) (G0.step hs) hx74) ?_
   rintro _ κ79 ⟨s80,a76,c77,rfl,hb75,NB_m0,f78,ow_f78⟩
   replace ow_f78:∀ g∈blk a76 c77,g∈([pb0]++blk a11 c12++blk a14 c15++blk a24 c25)∨κ.H.size≤g:=fun g hg=>(ow_f78 g hg).elim ((zeZ (zhQ (by simp)) ow_f26) g) (fun h=>.inr (Nat.le_trans hs.1 h))
   replace hs:=hs.trM (zeZ (zhQ (by simp)) ow_f26) s80
   replace f13:=f13.step s80 (zlz (f13.nb B_m0 (ne_τ0_5_τ0)) (f13.ng f26 (ne_τ0_5_τ0_10)))
   replace f16:=f16.step s80 (zlz (f16.nb B_m0 (ne_τ0_6_τ0)) (f16.ng f26 (ne_τ0_6_τ0_10)))
   replace B_m0:=NB_m0
   refine op 4 (iv x74.1) (ot (crt (zf (zb ?_))))
   obtain rfl:=sj hr
   refine rt [.tmp 4] [iv x74.1] ⟨rfl,trivial⟩ ?_
   exact ⟨hs,_,_,_,_,_,_,_,_,_,_,rfl,hb75,B_m0,hb10,f13,ow_f13,f16,ow_f16,(by simp),f13.sl,f16.sl,f78,ow_f78⟩
  intro hc hr
  refine csr (op 72 (pt pb0 0) (op 73 (pt pb0 0) (op 74 (pt pb0 7) (op 75 (pt pb0 8) (op 76 (pt pb0 10) (o1 77 26 (sl a24 p0.2.2.2.2.2.length c25) (B_m0.at.one (o:=10) rfl) (op 78 (iv (p0.2.2.2.2.2.length:Int)) (op 79 (bW ((p0.2.2.2.2.2.length:Int)>0)) (op 71 (bW ((p0.2.2.2.2.2.length:Int)>0)) ?_)))))))))
  refine ot ?_
  refine cc (decide ((p0.2.2.2.2.2.length:Int)>0)) hr ?_ ?_
  ·intro hc hr
   refine csr (op 4 (iv 6) (ot (crt (zf (zb ?_)))))
   obtain rfl:=sj hr
   refine rt [.tmp 4] [iv 6] ⟨rfl,trivial⟩ ?_
   exact ⟨hs,_,_,_,_,_,_,_,_,_,_,rfl,(show I64 6 by unfold I64;omega),B_m0,hb10,f13,ow_f13,f16,ow_f16,hb17,(f20.step hs),(f23.step hs),f26,ow_f26⟩
  intro hc hr
  refine ck (zd (za (csr (op 80 (pt pb0 0) (op 81 (pt pb0 0) (op 82 (pt pb0 5) (op 83 (strV p1) ?_)))))))
  obtain ⟨x81,hx81,hr⟩:=bind_some hr
  refine ocl 84 (zhS (p0:=p0) B_m0 (f3.step hs) (f6.step hs) (f9.step hs) hb10 f13 (Nat.lt_of_lt_of_le lt_τ0_5 hs.1) f16 (Nat.lt_of_lt_of_le lt_τ0_6 hs.1) hb17 (f20.step hs) (f23.step hs) f26.sl hb27 (ne_τ0_τ0_5) (ne_τ0_τ0_6) (ne_τ0_5_τ0_6) (G0.step hs) hx81) ?_
  rintro _ κ89 ⟨s90,a83,c84,a86,c87,rfl,hb82,NB_m0,f85,ow_f85,f88,ow_f88⟩
  replace ow_f85:∀ g∈blk a83 c84,g∈([pb0]++blk a11 c12++blk a14 c15++blk a24 c25)∨κ.H.size≤g:=fun g hg=>(ow_f85 g hg).elim ((zeZ (zeZ (zhQ (by simp)) ow_f13) ow_f16) g) (fun h=>.inr (Nat.le_trans hs.1 h))
  replace ow_f88:∀ g∈blk a86 c87,g∈([pb0]++blk a11 c12++blk a14 c15++blk a24 c25)∨κ.H.size≤g:=fun g hg=>(ow_f88 g hg).elim ((zeZ (zeZ (zhQ (by simp)) ow_f13) ow_f16) g) (fun h=>.inr (Nat.le_trans hs.1 h))
  replace hs:=hs.trM (zeZ (zeZ (zhQ (by simp)) ow_f13) ow_f16) s90
  replace f26:=f26.step s90 (zlz (zlz (f26.nb B_m0 (ne_τ0_10_τ0)) (f26.ng f13 (ne_τ0_10_τ0_5))) (f26.ng f16.gr1 (ne_τ0_10_τ0_6)))
  replace B_m0:=NB_m0
  refine op 4 (iv x81.1) (ot (crt ?_))
  obtain rfl:=sj hr
  refine rt [.tmp 4] [iv x81.1] ⟨rfl,trivial⟩ ?_
  exact ⟨hs,_,_,_,_,_,_,_,_,_,_,rfl,hb82,B_m0,hb10,f85,ow_f85,f88,ow_f88,hb17,(f20.step hs),(f23.step hs),f26,ow_f26⟩
 refine csr (op 43 (sl a47 x46.length c48) (op 44 (iv (x46.length:Int)) (op 45 (bW ((x46.length:Int)>0)) ?_)))
 refine osp 46 (decide ((x46.length:Int)>0)) hr ?_ ?_
 ·intro hg hr
  refine os 47 (os 48 (os 49 (os 50 (op 51 (.bool false) (op 42 (.bool false) (ot ?_))))))
  exact zk (eA 42 (eA 1 (eA 0 rfl))) (J2 false  _  hr)
 intro hg hr
 refine op 47 (sl a47 x46.length c48) ?_
 obtain ⟨x91,hx91,hr⟩:=bind_some hr
 obtain ⟨b92,o93,eab92,i0x91,i1x91,csx91,p_b92,owx91⟩:=f49.idx hx91
 obtain ⟨rfl,hb94⟩:=owx91
 replace p_b92:PubAt κ50 b92 (o93+(0:Int).toNat*1) [strV x91]:=p_b92
 refine oi 48 36 9 1 x46.length c48 .i64 0 eab92 i0x91 i1x91 (o1 49 9 (strV x91) (p_b92.at.one (o:=0) rfl) (oq 50 (bW (x91=([115,101,101,100]:BS))) (fun _=>zci kr) (op 51 (bW (x91=([115,101,101,100]:BS))) (op 42 (bW (x91=([115,101,101,100]:BS))) (ot ?_)))))
 exact zk (eA 42 (eA 1 (eA 0 rfl))) (J2 (decide (x91=([115,101,101,100]:BS)))  _  hr)
theorem zky {κ:K} {p0:LP} {a1:OA} {c2:Nat} (f3:Sl tPlaced κ a1 c2 p0) {r:LP} (hr:zfa p0=some r) :
 Fn Tryz.prog 97 #[sl a1 p0.length c2] κ (fun v κ'=>Step [] κ κ'∧∃ (N4:Nat) (a5:OA) (c6:Nat),v=sl a5 r.length c6∧κ.H.size≤N4∧Gr tPlaced false (N4,97001) κ' 108 a5 c6 r):=by
 refine fnc 8 [] Tryz.func97 Tryz.ntmps97 fun hs=>csr (op 2 (sl none 0 0) (ot (cs ?_)))
 refine zl (fun Z=>∀ (y8:LP) (y12:Bool) (a9:OA) (c10:Nat) (E0:Env) (f11:Sl tPlaced κ a9 c10 y8),zb4 y8 y12=some r→cwp Tryz.prog 8 (sub (zC Tryz.f97) [1,0,1]) Z (upd (upd (E0) 0 (sl a9 y8.length c10)) 4 (.bool y12)) κ) ?_ fun J1=>?_
 ·intro y8 y12 a9 c10 E0 f11 hr
  refine cc (y12) hr ?_ ?_
  ·intro hc hr
   refine csr (op 2 (sl none 0 0) (ot (crt (zb ?_))))
   obtain rfl:=sj hr
   refine rt [.tmp 2] [sl none 0 0] ⟨rfl,trivial⟩ ?_
   exact ⟨hs,_,_,_,rfl,(Nat.le_refl _),Gr.nil⟩
  intro hc hr
  refine ckt (csr (zO (d:=5) (T:=26) (e:=108) (t:=tPlaced) (pub:=false) (τ:=(κ.H.size,97001)) (len:=0) (l:=[]) (parts:=#[]) (cs:=[]) kr kr kr kr hs.1 rfl rfl kr fun a15 κ13 s14 f16=>?_))
  replace hs:=hs.tr0 s14
  refine op 6 (sl a9 y8.length c10) ?_
  obtain ⟨x18,hx18,hr⟩:=bind_some hr
  refine zM (d:=7) (T:=26) (e:=108) (t:=tPlaced) (pub:=false) (τ:=(κ.H.size,97001)) (bytes:=24) (a:=a15) (cp:=0) (l:=[]) (a2:=a9) (c2:=c10) (l2:=y8) kr kr f16 (f11.step hs) hs.1 kr hx18 fun a21 c22 κ19 s20 f23 hw=>?_
  clear hw
  replace hs:=hs.trG (f16.own (Nat.le_refl _)) s20
  refine op 2 (sl a21 x18.length c22) (ot (crt ?_))
  obtain rfl:=sj hr
  refine rt [.tmp 2] [sl a21 x18.length c22] ⟨rfl,trivial⟩ ?_
  exact ⟨hs,_,_,_,rfl,(Nat.le_refl _),f23⟩
 refine csr (op 3 (sl a1 p0.length c2) ?_)
 rcases a1 with _ | ad24
 ·have hnil:=Sl.of_none f3
  replace hr:zb4 p0 true=some r:=by rw [hnil] at hr ⊢;simpa [app,zfa,zb4] using hr
  refine op 4 (.bool true) (ot ?_)
  exact zk (eA 4 (eA 0 rfl)) (J1 p0 true _ _ _ f3 hr)
 refine op 4 (.bool false) (ot ?_)
 exact zk (eA 4 (eA 0 rfl)) (J1 p0 false _ _ _ f3 hr)
theorem znK [Fb] {κ:K} {p0:LI} {a1:OA} {c2:Nat} (f3:Sl tI64 κ a1 c2 p0) {r:Int} (hr:zi6 p0=some r) :
 Fn Tryz.prog 129 #[sl a1 p0.length c2] κ (fun v κ'=>κ=κ'∧v=iv r∧I64 r):=by
 refine fnc 18 [] Tryz.func129 Tryz.ntmps129 fun hs=>csr (op 2 (iv 0) (otx (op 3 (iv 0) (ot (cs (csr (op 6 (sl a1 p0.length c2) (op 7 (iv (p0.length:Int)) ?_))))))))
 refine op 8 (iv 0) (ot (cb 0 ?_))
 refine zj 0 (fun Z=>∀ (E0:Env),zii=some r→Z (upd (E0) 3 (iv 0)) κ) ?_ fun J1=>?_
 ·intro E0 hr
  refine zg (za (csr (op 17 (iv 0) (op 2 (iv 0) (ot (crt ?_))))))
  obtain rfl:=sj hr
  refine rt [.tmp 2] [iv 0] ⟨rfl,trivial⟩ ?_
  exact ⟨rfl,rfl,(show I64 0 by unfold I64;omega)⟩
 obtain ⟨x7,hx7,hrx7⟩:=bind_some hr
 refine zo (F:=zak p0) (J:=fun (sx7:Int) (E':Env) (κ':K)=>(∃ E0,E'=upd (upd (upd (upd (E0) 3 (iv 0)) 6 (sl a1 p0.length c2)) 7 (iv (p0.length:Int))) 8 (iv sx7))∧κ=κ'∧I64 sx7) (s0:=0) (x:=x7) kr hx7 ⟨⟨_,(eA 8 (eA 7 (eA 6 (eA 3 rfl))))⟩,rfl,(show I64 0 by unfold I64;omega)⟩ ?_
 rintro sx7 _ _ ⟨⟨E0,rfl⟩,rfl,hb6⟩ yyx7 hr hdx7
 refine csr (op 9 (bW (sx7<(p0.length:Int))) (ot (cs ?_)))
 refine cc (decide (sx7<(p0.length:Int))) hr ?_ ?_
 ·intro hc hr
  refine ckt (cs (cb 1 (csr ?_)))
  obtain ⟨x8,hx8,hr⟩:=bind_some hr
  obtain ⟨b9,o10,eab9,i0x8,i1x8,csx8,p_b9,owx8⟩:=f3.idx hx8
  obtain ⟨rfl,hb11⟩:=owx8
  replace p_b9:PubAt κ b9 (o10+sx7.toNat*1) [iv x8]:=p_b9
  refine oi 10 239 3 1 p0.length c2 .i64 sx7 eab9 i0x8 i1x8 (o1 11 3 (iv x8) (p_b9.at.one (o:=0) rfl) (op 5 (iv x8) (otx (op 12 (iv x8) (op 13 (iv 0) (op 14 (.bool (!decide (x8=0))) (ot ?_)))))))
  refine cc (!decide (x8=0)) hr ?_ ?_
  ·intro hc hr
   refine csr (op 15 (iv x8) (op 2 (iv x8) (ot (crt (zf (zb ?_))))))
   have hx:=hdx7 _ (sj hr).symm
   subst hx
   replace hr:=hrx7
   refine zt (zf (zb ?_))
   obtain rfl:=sj hr
   refine rt [.tmp 2] [iv x8] ⟨rfl,trivial⟩ ?_
   exact ⟨rfl,rfl,hb11⟩
  intro hc hr
  refine ck (zd (za (cr (op 16 (iv (w64 (sx7+1))) (op 8 (iv (w64 (sx7+1))) (oe ?_))))))
  exact ze (sj hr).symm ⟨⟨_,(eA 8 (eA 7 (eA 6 (eA 3 rfl))))⟩,rfl,(zq _)⟩
 intro hc hr
 refine cx 0 (zh ?_)
 have hx:=hdx7 _ (sj hr).symm
 subst hx
 replace hr:=hrx7
 refine zi ?_
 exact zr (eA 3 rfl) (J1   _  hr)
theorem ziD [Fb] {κ:K} {p0:Int} {r:Bool} (hr:zgP p0=some r) :
 Fn Tryz.prog 165 #[iv p0] κ (fun v κ'=>κ=κ'∧v=.bool r):=by
 refine fnc 6 [] Tryz.func165 Tryz.ntmps165 fun hs=>csr (op 2 (.bool false) (otx (op 3 (iv p0) (op 4 (iv p0) (op 5 (.bool (!decide (p0=p0))) (op 2 (.bool (!decide (p0=p0))) (ot (crt ?_))))))))
 obtain rfl:=sj hr
 refine rt [.tmp 2] [.bool (!decide (p0=p0))] ⟨rfl,trivial⟩ ?_
 exact ⟨rfl,rfl⟩
theorem zhN [Fb] {κ:K} {p0:Int} {p1:Int} {r:Int} (hr:zdC p0 p1=some r) :
 Fn Tryz.prog 130 #[iv p0,iv p1] κ (fun v κ'=>κ=κ'∧v=iv r∧I64 r):=by
 refine fnc 20 [] Tryz.func130 Tryz.ntmps130 fun hs=>csr (op 4 (iv 0) (otx (op 7 (iv p0) ?_)))
 obtain ⟨x4,hx4,hr⟩:=bind_some hr
 refine ocl 8 (ziD hx4) ?_
 rintro _ _ ⟨rfl,rfl⟩
 refine op 5 (.bool x4) (otx (op 9 (iv p1) ?_))
 obtain ⟨x6,hx6,hr⟩:=bind_some hr
 refine ocl 10 (ziD hx6) ?_
 rintro _ _ ⟨rfl,rfl⟩
 refine op 6 (.bool x6) (ot (cs (csr (op 11 (.bool x4) (ot ?_)))))
 refine cc (x4) hr ?_ ?_
 ·intro hc hr
  refine cs (csr (op 12 (.bool x6) (ot ?_)))
  refine cc (x6) hr ?_ ?_
  ·intro hc hr
   refine csr (op 4 (iv 0) (ot (crt (zb (zb ?_)))))
   obtain rfl:=sj hr
   refine rt [.tmp 4] [iv 0] ⟨rfl,trivial⟩ ?_
   exact ⟨rfl,rfl,(show I64 0 by unfold I64;omega)⟩
  intro hc hr
  refine ckt (csr (op 4 (iv (-1)) (ot (crt (zb ?_)))))
  obtain rfl:=sj hr
  refine rt [.tmp 4] [iv (-1)] ⟨rfl,trivial⟩ ?_
  exact ⟨rfl,rfl,(show I64 (-1) by unfold I64;omega)⟩
 intro hc hr
 refine ckt (cs (csr (op 13 (.bool x6) (ot ?_))))
 refine cc (x6) hr ?_ ?_
 ·intro hc hr
  refine csr (op 4 (iv 1) (ot (crt (zb ?_))))
  obtain rfl:=sj hr
  refine rt [.tmp 4] [iv 1] ⟨rfl,trivial⟩ ?_
  exact ⟨rfl,rfl,(show I64 1 by unfold I64;omega)⟩
 intro hc hr
 refine ckt (cs (csr (op 14 (iv p0) (op 15 (iv p1) (op 16 (bW (p0<p1)) (ot ?_))))))
 refine cc (decide (p0<p1)) hr ?_ ?_
 ·intro hc hr
  refine csr (op 4 (iv (-1)) (ot (crt (zb ?_))))
  obtain rfl:=sj hr
  refine rt [.tmp 4] [iv (-1)] ⟨rfl,trivial⟩ ?_
  exact ⟨rfl,rfl,(show I64 (-1) by unfold I64;omega)⟩
 intro hc hr
 refine ckt (cs (csr (op 17 (iv p0) (op 18 (iv p1) (op 19 (bW (p0>p1)) (ot ?_))))))
 refine cc (decide (p0>p1)) hr ?_ ?_
 ·intro hc hr
  refine csr (op 4 (iv 1) (ot (crt (zb ?_))))
  obtain rfl:=sj hr
  refine rt [.tmp 4] [iv 1] ⟨rfl,trivial⟩ ?_
  exact ⟨rfl,rfl,(show I64 1 by unfold I64;omega)⟩
 intro hc hr
 refine ckt (csr (op 4 (iv 0) (ot (crt ?_))))
 obtain rfl:=sj hr
 refine rt [.tmp 4] [iv 0] ⟨rfl,trivial⟩ ?_
 exact ⟨rfl,rfl,(show I64 0 by unfold I64;omega)⟩
theorem zdL [Fb] {κ:K} {p0:Int×Int} {p1:Int×Int} {r:Int} (hr:zaF p0 p1=some r) :
 Fn Tryz.prog 100 #[.agg #[iv p0.1,iv p0.2],.agg #[iv p1.1,iv p1.2]] κ (fun v κ'=>Step [] κ κ'∧v=iv r∧I64 r):=by
 refine fnc 17 [] Tryz.func100 Tryz.ntmps100 fun hs=>csr (zv (d:=2) (T:=100) (κ.H.size,100001) hs.1 (.agg #[iv p0.1,iv p0.2]) [iv p0.1,iv p0.2] kr kr rfl fun b6 κ7 s8 B_b6=>?_)
 replace hs:=hs.tr0 s8
 refine zv (d:=3) (T:=100) (κ.H.size,100002) hs.1 (.agg #[iv p1.1,iv p1.2]) [iv p1.1,iv p1.2] kr kr rfl fun b9 κ10 s11 B_b9=>?_
 replace hs:=hs.tr0 s11
 replace B_b6:=B_b6.step0 s11
 refine op 4 (iv 0) (ot (cs (cd 9 (dp 5 (pt b6 1) (d1 6 2 (iv p0.2) (B_b6.at.one (o:=1) rfl) (dp 7 (pt b9 1) (d1 8 2 (iv p1.2) (B_b9.at.one (o:=1) rfl) ?_)))))))
 obtain ⟨x12,hx12,hr⟩:=bind_some hr
 refine dc 9 (zhN hx12) fun hb13=>dp 10 (pt b6 0) (d1 11 2 (iv p0.1) (B_b6.at.one (o:=0) rfl) (dp 12 (pt b9 0) (d1 13 2 (iv p1.1) (B_b9.at.one (o:=0) rfl) (de ?_))))
 obtain ⟨x14,hx14,hr⟩:=bind_some hr
 refine ocl 14 (zhN hx14) ?_
 rintro _ _ ⟨rfl,rfl,hb15⟩
 refine zO (d:=15) (T:=239) (e:=3) (t:=tI64) (pub:=true) (τ:=(κ.H.size,100003)) (len:=2) (l:=[x12,x14]) (parts:=#[(0,iv x12),(1,iv x14)]) (cs:=[iv x12,iv x14]) kr kr kr kr hs.1 rfl ⟨_,_,rfl,⟨rfl,hb13⟩,⟨_,_,rfl,⟨rfl,hb15⟩,rfl⟩⟩ kr fun a19 κ17 s18 f20=>?_
 replace hs:=hs.tr0 s18
 obtain ⟨x22,hx22,hr⟩:=bind_some hr
 refine ocl 16 (znK f20.sl hx22) ?_
 rintro _ _ ⟨rfl,rfl,hb23⟩
 refine op 4 (iv x22) (ot (crt ?_))
 obtain rfl:=sj hr
 refine rt [.tmp 4] [iv x22] ⟨rfl,trivial⟩ ?_
 exact ⟨hs,rfl,hb23⟩
theorem zjh [Fb] {κ:K} {p0:(Int×Int)×Int} {p1:(Int×Int)×Int} {r:Int} (hr:zfu p0 p1=some r) :
 Fn Tryz.prog 99 #[.agg #[iv p0.1.1,iv p0.1.2,iv p0.2],.agg #[iv p1.1.1,iv p1.1.2,iv p1.2]] κ (fun v κ'=>Step [] κ κ'∧v=iv r∧I64 r):=by
 refine fnc 10 [] Tryz.func99 Tryz.ntmps99 fun hs=>csr (zv (d:=2) (T:=108) (κ.H.size,99001) hs.1 (.agg #[iv p0.1.1,iv p0.1.2,iv p0.2]) [iv p0.1.1,iv p0.1.2,iv p0.2] kr kr rfl fun b8 κ9 s10 B_b8=>?_)
 replace hs:=hs.tr0 s10
 refine zv (d:=3) (T:=108) (κ.H.size,99002) hs.1 (.agg #[iv p1.1.1,iv p1.1.2,iv p1.2]) [iv p1.1.1,iv p1.1.2,iv p1.2] kr kr rfl fun b11 κ12 s13 B_b11=>?_
 replace hs:=hs.tr0 s13
 replace B_b8:=B_b8.step0 s13
 refine op 4 (iv 0) (otx (op 5 (pt b8 0) (oN 6 100 [iv p0.1.1,iv p0.1.2] (B_b8.at.part 0 2).2 (op 7 (pt b11 0) (oN 8 100 [iv p1.1.1,iv p1.1.2] (B_b11.at.part 0 2).2 ?_)))))
 obtain ⟨x14,hx14,hr⟩:=bind_some hr
 refine ocl 9 (zdL hx14) ?_
 rintro _ κ16 ⟨s17,rfl,hb15⟩
 replace hs:=hs.tr0 s17
 refine op 4 (iv x14) (ot (crt ?_))
 obtain rfl:=sj hr
 refine rt [.tmp 4] [iv x14] ⟨rfl,trivial⟩ ?_
 exact ⟨hs,rfl,hb15⟩
theorem zkR {κ:K} {p0:LP} {a1:OA} {c2:Nat} (f3:Sl tPlaced κ a1 c2 p0) {r:(LP)} (hr:zdz p0=some r) :
 Fn Tryz.prog 65 #[sl a1 p0.length c2] κ (fun v κ'=>Step [] κ κ'∧∃ (a4:OA) (c5:Nat),v=.agg #[sl a4 r.length c5]∧SlE tPlaced 108 97001 κ' a4 c5 r):=by
 unfold zdz at hr
 split at hr
 ·rename_i hle
  obtain rfl:=sj hr
  have hlen:(Go.Sort.pdq (fun x y=>decide (z8 x y<0)) p0.toArray 0 p0.length (Go.Lib.bitLen p0.length) true true).toList.length=p0.length:=(Go.Sort.pdq_sorts (ltOf z8) zsK p0.toArray 0 p0.length (Lib.bitLen p0.length) true true (Nat.zero_le _) (by simp) (Or.inl rfl)).1.1
  have hsort:∀ {κ:K} {τ:Tag} {a:OA} {c:Nat},Gr tPlaced false τ κ 108 a c p0→Fn Tryz.prog 98 #[sl a p0.length c,.func (.func 99) #[] #[]] κ (fun v κ'=>Step (blk a c) κ κ'∧v=.tuple #[]∧Gr tPlaced false τ κ' 108 a c (Go.Sort.pdq (fun x y=>decide (z8 x y<0)) p0.toArray 0 p0.length (Go.Lib.bitLen p0.length) true true).toList):=by
    intro κ τ a c hg
    by_cases h0:0<p0.length
    · exact zsP (fun inst κ x y=>(zjh (ztm x y)).mono fun v κ' h=>⟨h.1,h.2.1⟩) hg h0 hle
    · have hn:p0=[]:=List.eq_nil_of_length_eq_zero (by omega)
      rw [List.eq_nil_of_length_eq_zero (hlen.trans (by omega:p0.length=0))]
      rw [hn] at hg ⊢
      refine (zqT (a:=a) (c:=c)).mono fun v κ' h=>?_
      rw [show κ'=κ from h.1.symm]
      exact ⟨Step.refl _ _,h.2,hg⟩
  refine fnc 10 [] Tryz.func65 Tryz.ntmps65 fun hs=>csr (zz (d:=2) (T:=28) (κ.H.size,65001) hs.1 [sl none 0 0] kr kr kr fun b7 κ8 s9 B_b7=>?_)
  replace hs:=hs.tr0 s9
  refine otx (op 4 (sl a1 p0.length c2) (ocl 5 (zky (f3.step hs) (zqh p0 hle)) ?_))
  rintro _ κ10 ⟨s11,N,a12,c13,rfl,hN,f14⟩
  have hN':κ.H.size≤N:=Nat.le_trans hs.1 hN
  replace hs:=hs.tr0 s11
  replace B_b7:=B_b7.step0 s11
  refine op 3 (sl a12 p0.length c13) (otx (op 6 (sl a12 p0.length c13) (ocl 7 (hsort f14) ?_)))
  rintro _ κ15 ⟨s16,rfl,f17⟩
  have hne:∀ i,i≠97001→∀ {κ'':K} {cs:List Value} {T:TypeId} {b:Nat},Box (κ.H.size,i) κ'' b cs T→Gr tPlaced false (N,97001) κ'' 108 a12 c13 p0→b∉blk a12 c13:=fun i hi _ _ _ _ hB hG=>hG.bn hB (fun e=>hi (by injection e))
  replace B_b7:=B_b7.step s16 (hne 65001 (by decide) B_b7 f14)
  replace hs:=hs.trG (fun g hg=>Nat.le_trans hN' (f14.lt g hg).2.2) s16
  refine zmd f17 fun κ18 s19 f20=>?_
  have f14':=f17.lt
  replace B_b7:=B_b7.step s19 (fun h=>by
    have:=(f14' _ h).2.1
    rw [B_b7.tag] at this
    injection this with _ h;cases h)
  replace hs:=hs.trG (fun g hg=>Nat.le_trans hN' (f14' g hg).2.2) s19
  have f21:=SlE.of f20
  refine otx (op 8 (sl a12 p0.length c13) (op 9 (.agg #[sl a12 p0.length c13]) (zn (b:=b7) (off:=0) (T:=28) (.agg #[sl a12 p0.length c13]) [sl a12 p0.length c13] [sl a12 p0.length c13] kr kr B_b7 rfl kr kr kr rfl fun κ22 s23 _ NB_b7=>?_)))
  replace hs:=hs.trB B_b7.ge s23
  replace f21:=f21.step s23
  refine ot (crt (rt [.cell 2 28] [.agg #[sl a12 p0.length c13]] ⟨⟨b7,0,[sl a12 p0.length c13],rfl,rfl,kr,kr,(NB_b7.at.part 0 1).2⟩,trivial⟩ ?_))
  exact ⟨hs,a12,c13,by rw [hlen];rfl,f21⟩
 cases hr
theorem zhr {κ:K} {p0:Bool×(TS×(LP)×Int)×(TS)×(BS×(TS×LP))} {pb0 po0 N1 N2:Nat} {a1:OA} {c2:Nat} {a4:OA} {c5:Nat} {a7:OA} {c8:Nat} {a11:OA} {c12:Nat} {a14:OA} {c15:Nat} {a18:OA} {c19:Nat} {a21:OA} {c22:Nat} {a24:OA} {c25:Nat} (m0:At κ pb0 po0 [.bool p0.1,sl a1 p0.2.1.1.1.length c2,sl a4 p0.2.1.1.2.length c5,sl a7 p0.2.1.2.1.length c8,iv p0.2.1.2.2,sl a11 p0.2.2.1.1.length c12,sl a14 p0.2.2.1.2.length c15,strV p0.2.2.2.1,sl a18 p0.2.2.2.2.1.1.length c19,sl a21 p0.2.2.2.2.1.2.length c22,sl a24 p0.2.2.2.2.2.length c25]) (f3:Sl tGlue κ a1 c2 p0.2.1.1.1) (f6:Sl zQ κ a4 c5 p0.2.1.1.2) (f9:Sl tPlaced κ a7 c8 p0.2.1.2.1) (hb10:I64 p0.2.1.2.2) (f13:SlO tGlue 94 (N1,13003) κ a11 c12 p0.2.2.1.1) (f16:TlO tStr tI64 64004 2 97 (N2,13004) κ a14 c15 p0.2.2.1.2) (hb17:p0.2.2.2.1.length≤9223372036854775807) (f20:Sl tGlue κ a18 c19 p0.2.2.2.2.1.1) (f23:Sl zQ κ a21 c22 p0.2.2.2.2.1.2) (f26:Sl tPlaced κ a24 c25 p0.2.2.2.2.2) {r:(TS×(LP)×Int)} (hr:zcH p0=some r) :
 Fn Tryz.prog 32 #[pt pb0 po0] κ (fun v κ'=>Step [] κ κ'∧∃ (a27:OA) (c28:Nat) (a30:OA) (c31:Nat) (a33:OA) (c34:Nat),v=.agg #[sl a27 r.1.1.length c28,sl a30 r.1.2.length c31,sl a33 r.2.1.length c34,iv r.2.2]∧SysO κ' a27 c28 a30 c31 a33 c34 r∧I64 r.2.2):=by
 refine fnc 21 [] Tryz.func32 Tryz.ntmps32 fun hs=>csr (zz (d:=2) (T:=30) (κ.H.size,32001) hs.1 [sl none 0 0,sl none 0 0,sl none 0 0,iv 0] kr kr kr fun b37 κ38 s39 B_b37=>?_)
 replace hs:=hs.tr0 s39
 refine ot (cs (cx_ 17 [0,1,2,3,4,5,6,7,8,9,10,12,13,14,15,16,11] [11] 17 [] (xp 3 (pt pb0 po0) (xp 4 (pt pb0 po0) (xp 5 (pt pb0 (po0+5)) (xp 6 (pt pb0 (po0+5)) (xN 7 25 [sl a11 p0.2.2.1.1.length c12,sl a14 p0.2.2.1.2.length c15] (m0.step0 hs) 5 2 rfl (xp 8 (pt pb0 po0) (xp 9 (pt pb0 po0) ?_)))))))))
 refine xp 10 (pt pb0 (po0+7)) (xp 11 (pt pb0 (po0+8)) (xp 12 (pt pb0 (po0+10)) (x1 13 26 (sl a24 p0.2.2.2.2.2.length c25) (m0.step0 hs) 10 rfl (xp 15 (pt pb0 po0) (xp 16 (pt pb0 po0) (xp 17 (pt pb0 (po0+1)) (xp 18 (pt pb0 (po0+4)) (x1 19 2 (iv p0.2.1.2.2) (m0.step0 hs) 4 rfl ?_))))))))
 obtain ⟨x40,hx40,hr⟩:=bind_some hr
 refine xcl 14 (zkR (f26.step hs) hx40) ?_
 rintro _ κ44 ⟨s45,a41,c42,rfl,f43⟩
 refine ⟨s45,?_⟩
 replace hs:=hs.tr0 s45
 replace B_b37:=B_b37.step0 s45
 refine xe (op 20 (.agg #[sl a11 p0.2.2.1.1.length c12,sl a14 p0.2.2.1.2.length c15,sl a41 x40.length c42,iv p0.2.1.2.2]) (zn (b:=b37) (off:=0) (T:=30) (.agg #[sl a11 p0.2.2.1.1.length c12,sl a14 p0.2.2.1.2.length c15,sl a41 x40.length c42,iv p0.2.1.2.2]) [sl a11 p0.2.2.1.1.length c12,sl a14 p0.2.2.1.2.length c15,sl a41 x40.length c42,iv p0.2.1.2.2] [sl a11 p0.2.2.1.1.length c12,sl a14 p0.2.2.1.2.length c15,sl a41 x40.length c42,iv p0.2.1.2.2] kr kr B_b37 rfl kr kr kr rfl fun κ46 s47 _ NB_b37=>?_))
 replace hs:=hs.trB B_b37.ge s47
 replace f43:=f43.step s47
 replace B_b37:=NB_b37
 refine ot (crt ?_)
 obtain rfl:=sj hr
 refine rt [.cell 2 30] [.agg #[sl a11 p0.2.2.1.1.length c12,sl a14 p0.2.2.1.2.length c15,sl a41 x40.length c42,iv p0.2.1.2.2]] ⟨⟨b37,0,[sl a11 p0.2.2.1.1.length c12,sl a14 p0.2.2.1.2.length c15,sl a41 x40.length c42,iv p0.2.1.2.2],rfl,rfl,kr,kr,(B_b37.at.part 0 4).2⟩,trivial⟩ ?_
 exact ⟨hs,_,_,_,_,_,_,rfl,⟨⟨_,f13.step hs⟩,⟨_,f16.step hs⟩,f43⟩,hb10⟩
theorem zjQ {κ:K} {p0:BS} (hb1:p0.length≤9223372036854775807) {r:Bool} (hr:zfB p0=some r) :
 Fn Tryz.prog 166 #[strV p0] κ (fun v κ'=>κ=κ'∧v=.bool r):=by
 refine fnc 55 [] Tryz.func166 Tryz.ntmps166 fun hs=>csr (op 2 (.bool false) (ot (cs (csr (op 6 (strV p0) (op 7 (iv (p0.length:Int)) (op 8 (iv 0) (ot ?_))))))))
 refine cb 0 ?_
 refine zj 0 (fun Z=>∀ (E0:Env),zhH p0=some r→Z (upd (E0) 0 (strV p0)) κ) ?_ fun J1=>?_
 ·intro E0 hr
  refine zg (za (csr (op 47 (strV p0) (op 48 (iv (p0.length:Int)) (op 49 (bW ((p0.length:Int)≥1)) ?_)))))
  refine osp 50 (decide ((p0.length:Int)≥1)) hr ?_ ?_
  ·intro hg hr
   refine os 51 (os 52 (os 53 (op 54 (.bool false) (op 2 (.bool false) (ot (crt ?_))))))
   obtain rfl:=sj hr
   refine rt [.tmp 2] [.bool false] ⟨rfl,trivial⟩ ?_
   exact ⟨rfl,rfl⟩
  intro hg hr
  refine op 51 (strV p0) (op 52 (iv (p0.length:Int)) (op 53 (bW ((p0.length:Int)≤12)) (op 54 (bW ((p0.length:Int)≤12)) (op 2 (bW ((p0.length:Int)≤12)) (ot (crt ?_))))))
  obtain rfl:=sj hr
  refine rt [.tmp 2] [bW ((p0.length:Int)≤12)] ⟨rfl,trivial⟩ ?_
  exact ⟨rfl,rfl⟩
 obtain ⟨x4,hx4,hrx4⟩:=bind_some hr
 refine zo (F:=zbl p0) (J:=fun (sx4:Int) (E':Env) (κ':K)=>(∃ E0,E'=upd (upd (upd (E0) 0 (strV p0)) 7 (iv (p0.length:Int))) 8 (iv sx4))∧κ=κ'∧I64 sx4) (s0:=0) (x:=x4) kr hx4 ⟨⟨_,(eA 8 (eA 7 (eA 0 rfl)))⟩,rfl,(show I64 0 by unfold I64;omega)⟩ ?_
 rintro sx4 _ _ ⟨⟨E0,rfl⟩,rfl,hb3⟩ yyx4 hr hdx4
 refine csr (op 9 (bW (sx4<(p0.length:Int))) (ot (cs ?_)))
 refine cc (decide (sx4<(p0.length:Int))) hr ?_ ?_
 ·intro hc hr
  refine ckt (cs (cb 1 (csr (op 10 (iv sx4) (op 3 (iv sx4) (otx (op 11 (strV p0) (op 12 (iv sx4) ?_))))))))
  obtain ⟨x5,hx5,hr⟩:=bind_some hr
  refine oq 13 (.int .u8 (x5.toNat:Int)) (fun _=>zaN 9 .i64 kr kr hx5) (op 4 (.int .u8 (x5.toNat:Int)) (ot ?_))
  refine zl (fun Z=>∀ (y6:Bool) (E0:Env),zaR sx4 x5 y6=some yyx4→cwp Tryz.prog 55 (sub (zC Tryz.f166) [1,1,1,0,0,1,1,0,0,1,0,1]) Z (upd (upd (upd (upd (upd (upd (E0) 0 (strV p0)) 3 (iv sx4)) 4 (.int .u8 (x5.toNat:Int))) 5 (.bool y6)) 7 (iv (p0.length:Int))) 8 (iv sx4)) κ) ?_ fun J2=>?_
  ·intro y6 E0 hr
   refine zl (fun Z=>∀ (y7:Bool) (E0:Env),zbm sx4 y7=some yyx4→cwp Tryz.prog 55 (sub (zC Tryz.f166) [1,1,1,1,0,0,1,1,0,0,1,0,1]) Z (upd (upd (upd (upd (E0) 0 (strV p0)) 7 (iv (p0.length:Int))) 8 (iv sx4)) 45 (.bool y7)) κ) ?_ fun J3=>?_
   ·intro y7 E0 hr
    refine cc (y7) hr ?_ ?_
    ·intro hc hr
     refine csr (op 2 (.bool false) (ot (crt (zf (zb ?_)))))
     have hx:=hdx4 _ (sj hr).symm
     subst hx
     replace hr:=hrx4
     refine zt (zf (zb ?_))
     obtain rfl:=sj hr
     refine rt [.tmp 2] [.bool false] ⟨rfl,trivial⟩ ?_
     exact ⟨rfl,rfl⟩
    intro hc hr
    refine ck (zd (za (cr (op 46 (iv (w64 (sx4+1))) (op 8 (iv (w64 (sx4+1))) (oe ?_))))))
    exact ze (sj hr).symm ⟨⟨_,(eA 8 (eA 7 (eA 0 rfl)))⟩,rfl,(zq _)⟩
   refine csr (op 28 (.bool y6) (op 29 (.bool (!y6)) ?_))
   refine osp 30 (!y6) hr ?_ ?_
   ·intro hg hr
    refine os 31 (os 32 (os 33 (os 34 (os 35 (os 36 (os 37 (os 38 (os 39 (os 40 ?_)))))))))
    refine os 41 (os 42 (os 43 (os 44 (op 45 (.bool false) (ot ?_)))))
    exact zk (eA 45 (eA 8 (eA 7 (eA 0 rfl)))) (J3 false  _  hr)
   intro hg hr
   refine op 31 (iv sx4) (op 32 (bW (sx4=0)) ?_)
   refine osp 33 (decide (sx4=0)) hr ?_ ?_
   ·intro hg hr
    refine op 34 (.int .u8 (x5.toNat:Int)) (op 35 (bW ((x5.toNat:Int)<48)) ?_)
    refine osp 36 (decide ((x5.toNat:Int)<48)) hr ?_ ?_
    ·intro hg hr
     refine op 37 (.int .u8 (x5.toNat:Int)) (op 38 (bW ((x5.toNat:Int)>57)) (op 39 (bW ((x5.toNat:Int)>57)) ?_))
     refine osp 40 (decide ((x5.toNat:Int)>57)) hr ?_ ?_
     ·intro hg hr
      refine os 41 (os 42 (op 43 (.bool false) (op 44 (.bool false) (op 45 (.bool false) (ot ?_)))))
      exact zk (eA 45 (eA 8 (eA 7 (eA 0 rfl)))) (J3 false  _  hr)
     intro hg hr
     refine op 41 (.int .u8 (x5.toNat:Int)) (op 42 (.bool (!decide ((x5.toNat:Int)=95))) (op 43 (.bool (!decide ((x5.toNat:Int)=95))) (op 44 (.bool (!decide ((x5.toNat:Int)=95))) (op 45 (.bool (!decide ((x5.toNat:Int)=95))) (ot ?_)))))
     exact zk (eA 45 (eA 8 (eA 7 (eA 0 rfl)))) (J3 (!decide ((x5.toNat:Int)=95))  _  hr)
    intro hg hr
    refine os 37 (os 38 (op 39 (.bool true) (op 40 (.bool true) (op 41 (.int .u8 (x5.toNat:Int)) (op 42 (.bool (!decide ((x5.toNat:Int)=95))) (op 43 (.bool (!decide ((x5.toNat:Int)=95))) (op 44 (.bool (!decide ((x5.toNat:Int)=95))) (op 45 (.bool (!decide ((x5.toNat:Int)=95))) (ot ?_)))))))))
    exact zk (eA 45 (eA 8 (eA 7 (eA 0 rfl)))) (J3 (!decide ((x5.toNat:Int)=95))  _  hr)
   intro hg hr
   refine os 34 (os 35 (os 36 (os 37 (os 38 (os 39 (os 40 (os 41 (os 42 (os 43 ?_)))))))))
   refine op 44 (.bool true) (op 45 (.bool true) (ot ?_))
   exact zk (eA 45 (eA 8 (eA 7 (eA 0 rfl)))) (J3 true  _  hr)
  refine csr (op 14 (.int .u8 (x5.toNat:Int)) (op 15 (bW ((x5.toNat:Int)≥97)) ?_))
  refine osp 16 (decide ((x5.toNat:Int)≥97)) hr ?_ ?_
  ·intro hg hr
   refine os 17 (os 18 (op 19 (.bool false) (op 20 (.bool false) (op 21 (.int .u8 (x5.toNat:Int)) (op 22 (bW ((x5.toNat:Int)≥65)) ?_)))))
   refine osp 23 (decide ((x5.toNat:Int)≥65)) hr ?_ ?_
   ·intro hg hr
    refine os 24 (os 25 (op 26 (.bool false) (op 27 (.bool false) (op 5 (.bool false) (ot ?_)))))
    exact zk (eA 8 (eA 7 (eA 5 (eA 4 (eA 3 (eA 0 rfl)))))) (J2 false  _  hr)
   intro hg hr
   refine op 24 (.int .u8 (x5.toNat:Int)) (op 25 (bW ((x5.toNat:Int)≤90)) (op 26 (bW ((x5.toNat:Int)≤90)) (op 27 (bW ((x5.toNat:Int)≤90)) (op 5 (bW ((x5.toNat:Int)≤90)) (ot ?_)))))
   exact zk (eA 8 (eA 7 (eA 5 (eA 4 (eA 3 (eA 0 rfl)))))) (J2 (decide ((x5.toNat:Int)≤90))  _  hr)
  intro hg hr
  refine op 17 (.int .u8 (x5.toNat:Int)) (op 18 (bW ((x5.toNat:Int)≤122)) (op 19 (bW ((x5.toNat:Int)≤122)) ?_))
  refine osp 20 (decide ((x5.toNat:Int)≤122)) hr ?_ ?_
  ·intro hg hr
   refine op 21 (.int .u8 (x5.toNat:Int)) (op 22 (bW ((x5.toNat:Int)≥65)) ?_)
   refine osp 23 (decide ((x5.toNat:Int)≥65)) hr ?_ ?_
   ·intro hg hr
    refine os 24 (os 25 (op 26 (.bool false) (op 27 (.bool false) (op 5 (.bool false) (ot ?_)))))
    exact zk (eA 8 (eA 7 (eA 5 (eA 4 (eA 3 (eA 0 rfl)))))) (J2 false  _  hr)
   intro hg hr
   refine op 24 (.int .u8 (x5.toNat:Int)) (op 25 (bW ((x5.toNat:Int)≤90)) (op 26 (bW ((x5.toNat:Int)≤90)) (op 27 (bW ((x5.toNat:Int)≤90)) (op 5 (bW ((x5.toNat:Int)≤90)) (ot ?_)))))
   exact zk (eA 8 (eA 7 (eA 5 (eA 4 (eA 3 (eA 0 rfl)))))) (J2 (decide ((x5.toNat:Int)≤90))  _  hr)
  intro hg hr
  refine os 21 (os 22 (os 23 (os 24 (os 25 (os 26 (op 27 (.bool true) (op 5 (.bool true) (ot ?_))))))))
  exact zk (eA 8 (eA 7 (eA 5 (eA 4 (eA 3 (eA 0 rfl)))))) (J2 true  _  hr)
 intro hc hr
 refine cx 0 (zh ?_)
 have hx:=hdx4 _ (sj hr).symm
 subst hx
 replace hr:=hrx4
 refine zi ?_
 exact zr (eA 0 rfl) (J1   _  hr)
end Go.Lf
