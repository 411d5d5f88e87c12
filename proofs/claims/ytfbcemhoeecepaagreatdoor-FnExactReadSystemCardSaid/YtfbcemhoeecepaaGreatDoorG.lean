import Derived.Test.YtfbcemhoeecepaaGreatDoorF
set_option linter.all false
set_option maxRecDepth 100000
set_option maxHeartbeats 4000000
namespace Go.Lf
open Go Go.Proofs
theorem zjx {κ:K} {p0:LI} {a1:OA} {c2:Nat} {p1:Int} (f3:Sl tI64 κ a1 c2 p0) (hb4:I64 p1) {r:LI} (hr:zdV p0 p1=some r) :
 Fn Tryz.prog 213 #[sl a1 p0.length c2,iv p1] κ (fun v κ'=>Step [] κ κ'∧∃ (N5:Nat) (a6:OA) (c7:Nat),v=sl a6 r.length c7∧κ.H.size≤N5∧Gr tI64 false (N5,213001) κ' 3 a6 c7 r):=by
 refine fnc 48 [] Tryz.func213 Tryz.ntmps213 fun hs=>csr (op 4 (sl none 0 0) (ot (cs (csr (op 9 (iv p1) (op 10 (bW (p1<0)) (ot ?_)))))))
 refine cc (decide (p1<0)) hr ?_ ?_
 ·intro hc hr
  cases hr
 intro hc hr
 refine ckt (csr (op 13 (sl a1 p0.length c2) (op 14 (iv (p0.length:Int)) (op 15 (.int .u64 (IntKind.wrap .u64 (p0.length:Int))) (op 16 (iv p1) (op 17 (.int .u64 (IntKind.wrap .u64 p1)) ?_))))))
 obtain ⟨x9,hx9,hr⟩:=bind_some hr
 refine ocl 18 (zlP  hx9) ?_
 rintro _ _ ⟨rfl,rfl⟩
 refine op 12 (.tuple #[.int .u64 x9.1,.int .u64 x9.2]) (op 19 (.int .u64 x9.1) (op 20 (.int .u64 x9.2) (op 5 (.int .u64 x9.1) (op 6 (.int .u64 x9.2) (ot (cs ?_))))))
 refine zl (fun Z=>∀ (y11:Bool) (E0:Env),zcx p0 x9 y11=some r→cwp Tryz.prog 48 (sub (zC Tryz.f213) [1,0,1,1,1]) Z (upd (upd (upd (E0) 0 (sl a1 p0.length c2)) 6 (.int .u64 x9.2)) 26 (.bool y11)) κ) ?_ fun J1=>?_
 ·intro y11 E0 hr
  refine cc (y11) hr ?_ ?_
  ·intro hc hr
   cases hr
  intro hc hr
  refine ckt (csr (op 28 (.int .u64 x9.2) (op 29 (iv (w64 x9.2)) ?_)))
  obtain ⟨x16,hx16,hr⟩:=bind_some hr
  refine ziw (d:=30) (T:=239) (e:=3) (t:=tI64) (pub:=false) (τ:=(κ.H.size,213001)) (bytes:=8) (k1:=.i64) (k2:=.i64) (m:=w64 x9.2) (zs:=[iv 0]) (z:=0) kr kr kr kr ⟨rfl,(show I64 0 by unfold I64;omega)⟩ hx16 hs.1 fun a14 κ12 s13 f15=>?_
  replace hs:=hs.tr0 s13
  refine op 7 (sl a14 x16.length x16.length) (otx (op 31 (sl a14 x16.length x16.length) (op 32 (sl a1 p0.length c2) ?_)))
  obtain ⟨x17,hx17,hr⟩:=bind_some hr
  refine zus (ty:=3) (d:=33) (T:=239) (T2:=239) f15 (f3.step hs) fun κ18 s19 Nf15=>?_
  have hb20:=ztj (l2:=p0) f15.most
  replace hs:=hs.trG (f15.own (Nat.le_refl _)) s19
  replace f15:=Nf15
  have len_x17:=zsc hx17 (Nat.zero_le _)
  replace f15:=zsx hx17 f15
  refine zca (eA 33 (v:=iv ((min p0.length x16.length:Nat):Int)) (zc (t:=7) (v:=sl a14 x17.length x16.length) rfl (by rw [len_x17];kernel_rfl))) (op 8 (iv ((min p0.length x16.length:Nat):Int)) (ot (cs (cb 0 ?_))))
  refine zj 0 (fun Z=>∀ (y27:LI) (a29:OA) (c30:Nat) (E0:Env) (κ31:K) (hs:Step [] κ κ31) (f28:Gr tI64 false (κ.H.size,213001) κ31 3 a29 c30 y27),zgU y27=some r→Z (upd (E0) 7 (sl a29 y27.length c30)) κ31) ?_ fun J2=>?_
  ·intro y27 a29 c30 E0 κ31 hs f28 hr
   refine zg (za (csr (op 47 (sl a29 y27.length c30) (op 4 (sl a29 y27.length c30) (ot (crt ?_))))))
   obtain rfl:=sj hr
   refine rt [.tmp 4] [sl a29 y27.length c30] ⟨rfl,trivial⟩ ?_
   exact ⟨hs,_,_,_,rfl,(Nat.le_refl _),f28⟩
  obtain ⟨x32,hx32,hrx32⟩:=bind_some hr
  refine zo (F:=zcw) (J:=fun (sx32:LI×Int) (E':Env) (κ':K)=>∃ (a23:OA) (c24:Nat),(∃ E0,E'=upd (upd (E0) 7 (sl a23 sx32.1.length c24)) 8 (iv sx32.2))∧Step [] κ κ'∧Gr tI64 false (κ.H.size,213001) κ' 3 a23 c24 sx32.1∧I64 sx32.2) (s0:=(x17,((min p0.length x16.length:Nat):Int))) (x:=x32) kr hx32 ⟨_,_,⟨_,(eA 8 (eA 7 rfl))⟩,hs,f15,hb20⟩ ?_
  rintro sx32 _ κ33 ⟨a23,c24,⟨E0,rfl⟩,hs,f22,hb26⟩ yyx32 hr hdx32
  refine cs (csr (op 34 (iv sx32.2) (op 35 (sl a23 sx32.1.length c24) (op 36 (iv (sx32.1.length:Int)) (op 37 (bW (sx32.2<(sx32.1.length:Int))) (ot ?_))))))
  refine cc (decide (sx32.2<(sx32.1.length:Int))) hr ?_ ?_
  ·intro hc hr
   refine ckt (cb 1 (cx_ 8 [0,1,2,3,4,5,6,7] [7] 7 (blk a23 c24) (xp 38 (iv sx32.2) (xp 39 (sl a23 sx32.1.length c24) (xp 40 (iv sx32.2) ?_)))))
   obtain ⟨x34,hx34,hr⟩:=bind_some hr
   refine xq 41 (sl (if c24=sx32.2.toNat then a23 else a23.map (·.add (sx32.2.toNat*1))) x34.length (c24 - sx32.2.toNat)) (fun w=>zjA (s:=vOf (Instr.sliceAt 239 (sl a23 sx32.1.length c24) (zdy (some sx32.2)) none none)) kr (zL (zgI (e:=3) (t:=tI64) (lo:=some sx32.2) (hi:=none) kr kr f22.cap hx34 w))) (xp 42 (sl a23 sx32.1.length c24) (xp 43 (iv sx32.2) ?_))
   obtain ⟨x35,hx35,hr⟩:=bind_some hr
   refine xq 44 (sl a23 x35.length c24) (fun w=>zjA (s:=vOf (Instr.sliceAt 239 (sl a23 sx32.1.length c24) none (zdy (some sx32.2)) none)) kr (zL (zsQ (e:=3) (t:=tI64) kr kr f22.cap hx35 w))) ?_
   obtain ⟨x36,hx36,hr⟩:=bind_some hr
   refine zun (ty:=3) (d:=45) (T:=239) (T2:=239) f22 hx34 hx35 kr fun κ37 s38 Nf22=>?_
   have hb39:=ztW (p:=x35) (lo:=sx32.2.toNat) f22.most
   replace hs:=hs.trG (f22.own (Nat.le_refl _)) s38
   replace f22:=Nf22
   have len_x36:=zsc hx36 (zsM hx34)
   replace f22:=zsx hx36 f22
   refine zsE (eA 45 (v:=iv ((min x35.length (sx32.1.length - sx32.2.toNat):Nat):Int)) (eA 38 (v:=iv sx32.2) (zc (t:=7) (v:=sl a23 x36.length c24) rfl (by rw [len_x36];kernel_rfl)))) (xe (op 46 (iv (w64 (sx32.2+((min x35.length (sx32.1.length - sx32.2.toNat):Nat):Int)))) (op 8 (iv (w64 (sx32.2+((min x35.length (sx32.1.length - sx32.2.toNat):Nat):Int)))) (oe (zd ?_)))))
   exact ze (sj hr).symm ⟨_,_,⟨_,(eA 8 (eA 7 rfl))⟩,hs,f22,(zq _)⟩
  intro hc hr
  refine cx 0 (zh ?_)
  have hx:=hdx32 _ (sj hr).symm
  subst hx
  replace hr:=hrx32
  refine zi ?_
  exact zr (eA 7 rfl) (J2 sx32.1 _ _ _ _ hs f22 hr)
 refine csr (op 21 (.int .u64 x9.1) (op 22 (bW (x9.1>0)) ?_))
 refine osp 23 (decide (x9.1>0)) hr ?_ ?_
 ·intro hg hr
  refine op 24 (.int .u64 x9.2) (op 25 (bW (x9.2>9223372036854775807)) (op 26 (bW (x9.2>9223372036854775807)) (ot ?_)))
  exact zk (eA 26 (eA 6 (eA 0 rfl))) (J1 (decide (x9.2>9223372036854775807))  _  hr)
 intro hg hr
 refine os 24 (os 25 (op 26 (.bool true) (ot ?_)))
 exact zk (eA 26 (eA 6 (eA 0 rfl))) (J1 true  _  hr)
theorem zjN {κ:K} {p0:LM×LM} {pb0 po0:Nat} {a1:OA} {c2:Nat} {a4:OA} {c5:Nat} {p1:Int} {p2:Int} (m0:At κ pb0 po0 [sl a1 p0.1.length c2,sl a4 p0.2.length c5]) (f3:Sl (tSl tI64) κ a1 c2 p0.1) (f6:Sl (tSl tI64) κ a4 c5 p0.2) (hb7:I64 p1) (hb8:I64 p2) {r:Bool} (hr:zdZ p0 p1 p2=some r) :
 Fn Tryz.prog 214 #[pt pb0 po0,iv p1,iv p2] κ (fun v κ'=>κ=κ'∧v=.bool r):=by
 refine fnc 28 [] Tryz.func214 Tryz.ntmps214 fun hs=>csr (op 6 (.bool false) (ot (cs (cd 20 (dp 7 (pt pb0 po0) (dp 8 (pt pb0 po0) (dp 9 (pt pb0 po0) (d1 10 135 (sl a1 p0.1.length c2) ((m0.step0 hs).one (o:=0) rfl) ?_))))))))
 refine dp 11 (iv p1) ?_
 obtain ⟨x9,hx9,hr⟩:=bind_some hr
 obtain ⟨b10,o11,eab10,i0x9,i1x9,csx9,p_b10,owx9⟩:=f3.idx hx9
 obtain ⟨a12,c13,rfl,f14⟩:=owx9
 replace p_b10:PubAt κ b10 (o11+p1.toNat*1) [sl a12 x9.length c13]:=p_b10
 refine di 12 135 95 1 p0.1.length c2 .i64 p1 eab10 i0x9 i1x9 (d1 13 95 (sl a12 x9.length c13) (p_b10.at.one (o:=0) rfl) (dp 14 (iv p2) ?_))
 obtain ⟨x15,hx15,hr⟩:=bind_some hr
 obtain ⟨b16,o17,eab16,i0x15,i1x15,csx15,p_b16,owx15⟩:=f14.idx hx15
 obtain ⟨rfl,hb18⟩:=owx15
 replace p_b16:PubAt κ b16 (o17+p2.toNat*1) [iv x15]:=p_b16
 refine di 15 95 2 1 x9.length c13 .i64 p2 eab16 i0x15 i1x15 (d1 16 2 (iv x15) (p_b16.at.one (o:=0) rfl) (dp 17 (pt pb0 po0) (dp 18 (pt pb0 po0) (dp 19 (pt pb0 (po0+1)) (d1 20 135 (sl a4 p0.2.length c5) ((m0.step0 hs).one (o:=1) rfl) (dp 21 (iv p1) ?_))))))
 obtain ⟨x19,hx19,hr⟩:=bind_some hr
 obtain ⟨b20,o21,eab20,i0x19,i1x19,csx19,p_b20,owx19⟩:=f6.idx hx19
 obtain ⟨a22,c23,rfl,f24⟩:=owx19
 replace p_b20:PubAt κ b20 (o21+p1.toNat*1) [sl a22 x19.length c23]:=p_b20
 refine di 22 135 95 1 p0.2.length c5 .i64 p1 eab20 i0x19 i1x19 (d1 23 95 (sl a22 x19.length c23) (p_b20.at.one (o:=0) rfl) (dp 24 (iv p2) ?_))
 obtain ⟨x25,hx25,hr⟩:=bind_some hr
 obtain ⟨b26,o27,eab26,i0x25,i1x25,csx25,p_b26,owx25⟩:=f24.idx hx25
 obtain ⟨rfl,hb28⟩:=owx25
 replace p_b26:PubAt κ b26 (o27+p2.toNat*1) [iv x25]:=p_b26
 refine di 25 95 2 1 x19.length c23 .i64 p2 eab26 i0x25 i1x25 (d1 26 2 (iv x25) (p_b26.at.one (o:=0) rfl) (de (op 27 (bW (x15>x25)) (op 6 (bW (x15>x25)) (ot (crt ?_))))))
 obtain rfl:=sj hr
 refine rt [.tmp 6] [bW (x15>x25)] ⟨rfl,trivial⟩ ?_
 exact ⟨rfl,rfl⟩
theorem zkl {κ:K} {p0:LM×LM} {pb0 po0:Nat} {a1:OA} {c2:Nat} {a4:OA} {c5:Nat} {p1:Int} {p2:Int} (m0:At κ pb0 po0 [sl a1 p0.1.length c2,sl a4 p0.2.length c5]) (f3:Sl (tSl tI64) κ a1 c2 p0.1) (f6:Sl (tSl tI64) κ a4 c5 p0.2) (hb7:I64 p1) (hb8:I64 p2) {r:LI} (hr:zeC p0 p1 p2=some r) :
 Fn Tryz.prog 202 #[pt pb0 po0,iv p1,iv p2] κ (fun v κ'=>Step [] κ κ'∧∃ (N9:Nat) (a10:OA) (c11:Nat),v=sl a10 r.length c11∧κ.H.size≤N9∧Gr tI64 false (N9,202003) κ' 3 a10 c11 r∧(r=[]→a10=none)):=by
 refine fnc 79 [] Tryz.func202 Tryz.ntmps202 fun hs=>csr (op 6 (sl none 0 0) (otx (op 14 (pt pb0 po0) (op 15 (pt pb0 po0) (op 16 (pt pb0 po0) (o1 17 135 (sl a1 p0.1.length c2) ((m0.step0 hs).one (o:=0) rfl) (op 18 (iv (p0.1.length:Int)) (op 7 (iv (p0.1.length:Int)) ?_))))))))
 refine otx (zO (d:=19) (T:=239) (e:=3) (t:=tI64) (pub:=true) (τ:=(κ.H.size,202001)) (len:=1) (l:=[(-1)]) (parts:=#[(0,iv (-1))]) (cs:=[iv (-1)]) kr kr kr kr hs.1 rfl ⟨_,_,rfl,⟨rfl,(show I64 (-1) by unfold I64;omega)⟩,rfl⟩ kr fun a15 κ13 s14 f16=>?_)
 replace hs:=hs.tr0 s14
 refine op 20 (iv (p0.1.length:Int)) ?_
 obtain ⟨x18,hx18,hr⟩:=bind_some hr
 refine ocl 21 (zjx f16.sl (zg5 f3.most) hx18) ?_
 rintro _ κ23 ⟨s24,N19,a20,c21,rfl,go_N19,f22⟩
 replace go_N19:=Nat.le_trans hs.1 go_N19
 replace hs:=hs.tr0 s24
 refine op 8 (sl a20 x18.length c21) (otx (op 22 (iv (p0.1.length:Int)) ?_))
 obtain ⟨x25,hx25,hr⟩:=bind_some hr
 refine zup (d:=23) (T:=302) (k:=.i64) (m:=(p0.1.length:Int)) (κ.H.size,202002) hs.1 hx25 fun b26 κ27 s28 B_b26=>?_
 replace hs:=hs.tr0 s28
 replace f22:=f22.step0 s28
 refine op 9 (.chan (some b26)) (ot (cs (sr (sp 24 (.chan (some b26)) (sp 25 (iv p1) ?_)))))
 obtain ⟨x29,hx29,hr⟩:=bind_some hr
 obtain ⟨hroom,ex29⟩:=znm hx29
 refine ztu (x:=p1) (z:=.tuple #[]) B_b26 hroom fun κ30 s31 _ NB_b26=>?_
 rw [ex29] at NB_b26
 clear hroom
 replace hs:=hs.trB B_b26.ge s31
 replace f22:=f22.step s31 (f22.nbo B_b26.o (zm (N:=N19) (M:=κ.H.size) (i:=213001) (j:=202002) kr))
 replace B_b26:=NB_b26
 refine se (za (csr (op 26 (sl a20 x18.length c21) (op 27 (iv p1) (op 28 (iv p1) ?_)))))
 obtain ⟨x32,hx32,hr⟩:=bind_some hr
 obtain ⟨b33,eab33,i0x32,i1x32,csx32,p_b33,owx32⟩:=f22.idx hx32
 obtain ⟨rfl,hb34⟩:=owx32
 replace p_b33:At κ30 b33 (0+p1.toNat*1) [iv x32]:=p_b33
 refine oi 29 239 3 1 x18.length c21 .i64 p1 (off:=0) eab33 i0x32 i1x32 ?_
 obtain ⟨x35,hx35,hr⟩:=bind_some hr
 refine zbu (T:=3) (t:=tI64) (τ:=(N19,213001)) (e:=3) (ix:=p1) (x':=p1) (b:=b33) (δ:=0) (cp:=c21) (l:=x18) (vs:=[iv p1]) (iv p1) kr kr eab33 f22 i0x32 i1x32 kr kr kr kr (fun cs hx=>by obtain ⟨x,_,ho⟩:=hx;rw [zat ((tI64.len ho).trans kr)];exact ⟨rfl,hb7⟩) fun κ36 s37 Nf22=>?_
 replace hs:=hs.trG (f22.own go_N19) s37
 replace B_b26:=B_b26.step s37 (f22.bno B_b26.o (zm (N:=κ.H.size) (M:=N19) (i:=202002) (j:=213001) kr))
 replace f22:=Nf22
 replace f22:=zeM hx35 f22
 have len_x35:=zS hx35
 refine zca (eA 9 (v:=.chan (some b26)) (zc (t:=8) (v:=sl a20 x35.length c21) (eA 7 (v:=iv (p0.1.length:Int)) (eA 2 (v:=iv p2) (eA 1 (v:=iv p1) (eA 0 (v:=pt pb0 po0) rfl)))) (by rw [len_x35];kernel_rfl))) (ot (cs (cb 0 ?_)))
 refine zj 0 (fun Z=>∀ (y43:LI) (a45:OA) (c46:Nat) (E0:Env) (κ47:K) (hs:Step [] κ κ47) (f44:Gr tI64 false (N19,213001) κ47 3 a45 c46 y43),zeR p1 p2 y43=some r→Z (upd (upd (upd (E0) 1 (iv p1)) 2 (iv p2)) 8 (sl a45 y43.length c46)) κ47) ?_ fun J1=>?_
 ·intro y43 a45 c46 E0 κ47 hs f44 hr
  refine zg (za (cs (csr (op 57 (sl a45 y43.length c46) (op 58 (iv p2) ?_)))))
  obtain ⟨x48,hx48,hr⟩:=bind_some hr
  obtain ⟨b49,eab49,i0x48,i1x48,csx48,p_b49,owx48⟩:=f44.idx hx48
  obtain ⟨rfl,hb50⟩:=owx48
  replace p_b49:At κ47 b49 (0+p2.toNat*1) [iv x48]:=p_b49
  refine oi 59 239 3 1 y43.length c46 .i64 p2 (off:=0) eab49 i0x48 i1x48 (o1 60 3 (iv x48) (p_b49.one (o:=0) rfl) (op 61 (bW (x48<0)) (ot ?_)))
  refine cc (decide (x48<0)) hr ?_ ?_
  ·intro hc hr
   refine csr (op 6 (sl none 0 0) (ot (crt (zb ?_))))
   obtain rfl:=sj hr
   refine rt [.tmp 6] [sl none 0 0] ⟨rfl,trivial⟩ ?_
   exact ⟨hs,_,_,_,rfl,(Nat.le_refl _),Gr.nil,(fun _=>rfl)⟩
  intro hc hr
  refine ckt (csr (op 62 (iv p2) (zO (d:=63) (T:=239) (e:=3) (t:=tI64) (pub:=false) (τ:=(κ.H.size,202003)) (len:=1) (l:=[p2]) (parts:=#[(0,iv p2)]) (cs:=[iv p2]) kr kr kr kr hs.1 rfl ⟨_,_,rfl,⟨rfl,hb8⟩,rfl⟩ kr fun a53 κ51 s52 f54=>?_)))
  replace hs:=hs.tr0 s52
  replace f44:=f44.step0 s52
  refine op 12 (sl a53 ([p2]).length 1) (ot (cs (csr (op 64 (iv p2) (op 13 (iv p2) (ot (cb 4 ?_)))))))
  refine zj 4 (fun Z=>∀ (y62:LI) (a64:OA) (c65:Nat) (E0:Env) (κ66:K) (hs:Step [] κ κ66) (f63:Gr tI64 false (κ.H.size,202003) κ66 3 a64 c65 y62),zeQ y62=some r→Z (upd (E0) 12 (sl a64 y62.length c65)) κ66) ?_ fun J2=>?_
  ·intro y62 a64 c65 E0 κ66 hs f63 hr
   refine zg (za (csr (op 76 (sl a64 y62.length c65) ?_)))
   obtain ⟨x67,hx67,hr⟩:=bind_some hr
   refine ocl 77 (zjd f63  hx67) ?_
   rintro _ κ69 ⟨s70,rfl,f68,len_f68⟩
   replace hs:=hs.trM (znA (f63.own (Nat.le_refl _))) s70
   refine zca (zc (t:=12) (v:=sl a64 x67.length c65) rfl (by rw [len_f68];kernel_rfl)) (otx (op 78 (sl a64 x67.length c65) (op 6 (sl a64 x67.length c65) (ot (crt ?_)))))
   obtain ⟨x71,hx71,hr⟩:=bind_some hr
   obtain ⟨ex71,nx71⟩:=zsZ hx71
   subst ex71
   obtain rfl:=sj hr
   refine rt [.tmp 6] [sl a64 x67.length c65] ⟨rfl,trivial⟩ ?_
   exact ⟨hs,_,_,_,rfl,(Nat.le_refl _),f68,(fun h=>absurd h nx71)⟩
  obtain ⟨x72,hx72,hrx72⟩:=bind_some hr
  refine zo (F:=zaS p1 y43) (J:=fun (sx72:LI×Int) (E':Env) (κ':K)=>∃ (a58:OA) (c59:Nat),(∃ E0,E'=upd (upd (upd (upd (E0) 1 (iv p1)) 8 (sl a45 y43.length c46)) 12 (sl a58 sx72.1.length c59)) 13 (iv sx72.2))∧Step [] κ κ'∧Gr tI64 false (κ.H.size,202003) κ' 3 a58 c59 sx72.1∧I64 sx72.2∧Gr tI64 false (N19,213001) κ' 3 a45 c46 y43) (s0:=([p2],p2)) (x:=x72) kr hx72 ⟨_,_,⟨_,(eA 13 (eA 12 (eA 8 (eA 1 rfl))))⟩,hs,f54,hb8,f44⟩ ?_
  rintro sx72 _ κ73 ⟨a58,c59,⟨E0,rfl⟩,hs,f57,hb61,f44⟩ yyx72 hr hdx72
  refine cs (csr (op 65 (iv sx72.2) (op 66 (iv p1) (op 67 (.bool (!decide (sx72.2=p1))) (ot ?_)))))
  refine cc (!decide (sx72.2=p1)) hr ?_ ?_
  ·intro hc hr
   refine ckt (cb 5 (csr (op 68 (sl a45 y43.length c46) (op 69 (iv sx72.2) ?_))))
   obtain ⟨x74,hx74,hr⟩:=bind_some hr
   obtain ⟨b75,eab75,i0x74,i1x74,csx74,p_b75,owx74⟩:=f44.idx hx74
   obtain ⟨rfl,hb76⟩:=owx74
   replace p_b75:At κ73 b75 (0+sx72.2.toNat*1) [iv x74]:=p_b75
   refine oi 70 239 3 1 y43.length c46 .i64 sx72.2 (off:=0) eab75 i0x74 i1x74 (o1 71 3 (iv x74) (p_b75.one (o:=0) rfl) (op 13 (iv x74) (otr (op 72 (sl a58 sx72.1.length c59) (op 73 (iv x74) (zO (d:=74) (T:=239) (e:=3) (t:=tI64) (pub:=true) (τ:=(κ.H.size,202004)) (len:=1) (l:=[x74]) (parts:=#[(0,iv x74)]) (cs:=[iv x74]) kr kr kr kr hs.1 rfl ⟨_,_,rfl,⟨rfl,hb76⟩,rfl⟩ kr fun a79 κ77 s78 f80=>?_))))))
   replace hs:=hs.tr0 s78
   replace f44:=f44.step0 s78
   replace f57:=f57.step0 s78
   obtain ⟨x82,hx82,hr⟩:=bind_some hr
   refine zM (d:=75) (T:=239) (e:=3) (t:=tI64) (pub:=false) (τ:=(κ.H.size,202003)) (bytes:=8) (a:=a58) (cp:=c59) (l:=sx72.1) (a2:=a79) (c2:=1) (l2:=[x74]) kr kr f57 f80.sl hs.1 kr hx82 fun a85 c86 κ83 s84 f87 hw=>?_
   clear hw
   replace hs:=hs.trG (f57.own (Nat.le_refl _)) s84
   replace f44:=f44.step s84 (f44.ng f57 (zm (N:=N19) (M:=κ.H.size) (i:=213001) (j:=202003) kr))
   refine op 12 (sl a85 x82.length c86) (oe (zd ?_))
   exact ze (sj hr).symm ⟨_,_,⟨_,(eA 13 (eA 12 (eA 8 (eA 1 rfl))))⟩,hs,f87,hb76,f44⟩
  intro hc hr
  refine cx 4 (zh ?_)
  have hx:=hdx72 _ (sj hr).symm
  subst hx
  replace hr:=hrx72
  refine zi ?_
  exact zr (eA 12 rfl) (J2 sx72.1 _ _ _ _ hs f57 hr)
 obtain ⟨x88,hx88,hrx88⟩:=bind_some hr
 refine zo (F:=zbL p0) (J:=fun (sx88:LI×LI) (E':Env) (κ':K)=>∃ (a40:OA) (c41:Nat),(∃ E0,E'=upd (upd (upd (upd (upd (upd (E0) 0 (pt pb0 po0)) 1 (iv p1)) 2 (iv p2)) 7 (iv (p0.1.length:Int))) 8 (sl a40 sx88.1.length c41)) 9 (.chan (some b26)))∧Step [] κ κ'∧Gr tI64 false (N19,213001) κ' 3 a40 c41 sx88.1∧Chn (κ.H.size,202002) κ' b26 ((p0.1.length:Int).toNat) sx88.2) (s0:=(x35,x29)) (x:=x88) kr hx88 ⟨_,_,⟨_,(eA 9 (eA 8 (eA 7 (eA 2 (eA 1 (eA 0 rfl))))))⟩,hs,f22,B_b26⟩ ?_
 rintro sx88 _ κ89 ⟨a40,c41,⟨E0,rfl⟩,hs,f39,B_b26⟩ yyx88 hr hdx88
 refine cs (csr (op 30 (.chan (some b26)) ?_))
 obtain ⟨x90,hx90,hr⟩:=bind_some hr
 refine zub (d:=31) (T:=302) B_b26 hx90 (op 32 (bW (x90>0)) (ot ?_))
 refine cc (decide (x90>0)) hr ?_ ?_
 ·intro hc hr
  refine ckt (cb 1 (cs (sr (sp 33 (.chan (some b26)) ?_))))
  obtain ⟨x91,hx91,hr⟩:=bind_some hr
  obtain ⟨ex91,hbx91⟩:=zqf hx91
  rw [ex91] at B_b26
  refine zt5 34 (iv 0) B_b26 fun κ92 s93 _ NB_b26=>?_
  replace hs:=hs.trB B_b26.ge s93
  replace f39:=f39.step s93 (f39.nbo B_b26.o (zm (N:=N19) (M:=κ.H.size) (i:=213001) (j:=202002) kr))
  replace B_b26:=NB_b26
  refine sp 10 (iv x91.1) (se (za (csr (op 35 (iv (p0.1.length:Int)) (op 36 (iv 0) (ot (cb 2 ?_)))))))
  refine zj 2 (fun Z=>∀ (y101:LI) (y105:LI) (a103:OA) (c104:Nat) (E0:Env) (κ106:K) (hs:Step [] κ κ106) (f102:Gr tI64 false (N19,213001) κ106 3 a103 c104 y101) (B_b26:Chn (κ.H.size,202002) κ106 b26 ((p0.1.length:Int).toNat) y105),zeP y101 y105=some yyx88→Z (upd (upd (upd (upd (upd (upd (E0) 0 (pt pb0 po0)) 1 (iv p1)) 2 (iv p2)) 7 (iv (p0.1.length:Int))) 8 (sl a103 y101.length c104)) 9 (.chan (some b26))) κ106) ?_ fun J3=>?_
  ·intro y101 y105 a103 c104 E0 κ106 hs f102 B_b26 hr
   refine zg (zd ?_)
   exact ze (sj hr).symm ⟨_,_,⟨_,(eA 9 (eA 8 (eA 7 (eA 2 (eA 1 (eA 0 rfl))))))⟩,hs,f102,B_b26⟩
  obtain ⟨x107,hx107,hrx107⟩:=bind_some hr
  refine zo (F:=zbK p0 x91) (J:=fun (sx107:LI×Int×LI) (E':Env) (κ':K)=>∃ (a96:OA) (c97:Nat),(∃ E0,E'=upd (upd (upd (upd (upd (upd (upd (upd (upd (E0) 0 (pt pb0 po0)) 1 (iv p1)) 2 (iv p2)) 7 (iv (p0.1.length:Int))) 8 (sl a96 sx107.1.length c97)) 9 (.chan (some b26))) 10 (iv x91.1)) 35 (iv (p0.1.length:Int))) 36 (iv sx107.2.1))∧Step [] κ κ'∧Gr tI64 false (N19,213001) κ' 3 a96 c97 sx107.1∧I64 sx107.2.1∧Chn (κ.H.size,202002) κ' b26 ((p0.1.length:Int).toNat) sx107.2.2) (s0:=(sx88.1,0,x91.2)) (x:=x107) kr hx107 ⟨_,_,⟨_,(eA 36 (eA 35 (eA 10 (eA 9 (eA 8 (eA 7 (eA 2 (eA 1 (eA 0 rfl)))))))))⟩,hs,f39,(show I64 0 by unfold I64;omega),B_b26⟩ ?_
  rintro sx107 _ κ108 ⟨a96,c97,⟨E0,rfl⟩,hs,f95,hb99,B_b26⟩ yyx107 hr hdx107
  refine csr (op 37 (bW (sx107.2.1<(p0.1.length:Int))) (ot (cs ?_)))
  refine cc (decide (sx107.2.1<(p0.1.length:Int))) hr ?_ ?_
  ·intro hc hr
   refine ckt ?_
   refine zl (fun Z=>∀ (y109:LI) (y113:LI) (a111:OA) (c112:Nat) (E0:Env) (κ114:K) (hs:Step [] κ κ114) (f110:Gr tI64 false (N19,213001) κ114 3 a111 c112 y109) (B_b26:Chn (κ.H.size,202002) κ114 b26 ((p0.1.length:Int).toNat) y113),zbM sx107 y109 y113=some yyx107→cwp Tryz.prog 79 (sub (zC Tryz.f202) [1,1,1,0,0,1,1,0,1,0,0,0,1,1,1,1,1,1]) Z (upd (upd (upd (upd (upd (upd (upd (upd (upd (E0) 0 (pt pb0 po0)) 1 (iv p1)) 2 (iv p2)) 7 (iv (p0.1.length:Int))) 8 (sl a111 y109.length c112)) 9 (.chan (some b26))) 10 (iv x91.1)) 35 (iv (p0.1.length:Int))) 36 (iv sx107.2.1)) κ114) ?_ fun J4=>?_
   ·intro y109 y113 a111 c112 E0 κ114 hs f110 B_b26 hr
    refine cr (op 56 (iv (w64 (sx107.2.1+1))) (op 36 (iv (w64 (sx107.2.1+1))) (oe ?_)))
    exact ze (sj hr).symm ⟨_,_,⟨_,(eA 36 (eA 35 (eA 10 (eA 9 (eA 8 (eA 7 (eA 2 (eA 1 (eA 0 rfl)))))))))⟩,hs,f110,(zq _),B_b26⟩
   refine cs (cb 3 (csr (op 38 (iv sx107.2.1) (op 11 (iv sx107.2.1) (ot ?_)))))
   refine zl (fun Z=>∀ (y115:Bool) (E0:Env),zaT p0 x91 sx107 y115=some yyx107→cwp Tryz.prog 79 (sub (zC Tryz.f202) [1,1,0,0,1,1,0,0,1,1,0,1,0,0,0,1,1,1,1,1,1]) Z (upd (upd (upd (upd (upd (upd (upd (upd (upd (upd (upd (E0) 0 (pt pb0 po0)) 1 (iv p1)) 2 (iv p2)) 7 (iv (p0.1.length:Int))) 8 (sl a96 sx107.1.length c97)) 9 (.chan (some b26))) 10 (iv x91.1)) 11 (iv sx107.2.1)) 35 (iv (p0.1.length:Int))) 36 (iv sx107.2.1)) 49 (.bool y115)) κ108) ?_ fun J5=>?_
   ·intro y115 E0 hr
    refine cc (y115) hr ?_ ?_
    ·intro hc hr
     refine csr (op 50 (sl a96 sx107.1.length c97) (op 51 (iv sx107.2.1) (op 52 (iv x91.1) ?_)))
     obtain ⟨x116,hx116,hr⟩:=bind_some hr
     obtain ⟨b117,eab117,i0x116,i1x116,csx116,p_b117,owx116⟩:=f95.idx hx116
     obtain ⟨rfl,hb118⟩:=owx116
     replace p_b117:At κ108 b117 (0+sx107.2.1.toNat*1) [iv x116]:=p_b117
     refine oi 53 239 3 1 sx107.1.length c97 .i64 sx107.2.1 (off:=0) eab117 i0x116 i1x116 ?_
     obtain ⟨x119,hx119,hr⟩:=bind_some hr
     refine zbu (T:=3) (t:=tI64) (τ:=(N19,213001)) (e:=3) (ix:=sx107.2.1) (x':=x91.1) (b:=b117) (δ:=0) (cp:=c97) (l:=sx107.1) (vs:=[iv x91.1]) (iv x91.1) kr kr eab117 f95 i0x116 i1x116 kr kr kr kr (fun cs hx=>by obtain ⟨x,_,ho⟩:=hx;rw [zat ((tI64.len ho).trans kr)];exact ⟨rfl,hbx91⟩) fun κ120 s121 Nf95=>?_
     replace hs:=hs.trG (f95.own go_N19) s121
     replace B_b26:=B_b26.step s121 (f95.bno B_b26.o (zm (N:=κ.H.size) (M:=N19) (i:=202002) (j:=213001) kr))
     replace f95:=Nf95
     replace f95:=zeM hx119 f95
     have len_x119:=zS hx119
     refine zca (eA 36 (v:=iv sx107.2.1) (eA 35 (v:=iv (p0.1.length:Int)) (eA 11 (v:=iv sx107.2.1) (eA 10 (v:=iv x91.1) (eA 9 (v:=.chan (some b26)) (zc (t:=8) (v:=sl a96 x119.length c97) (eA 7 (v:=iv (p0.1.length:Int)) (eA 2 (v:=iv p2) (eA 1 (v:=iv p1) (eA 0 (v:=pt pb0 po0) rfl)))) (by rw [len_x119];kernel_rfl))))))) (ot (sr (sp 54 (.chan (some b26)) (sp 55 (iv sx107.2.1) ?_))))
     obtain ⟨x122,hx122,hr⟩:=bind_some hr
     obtain ⟨hroom,ex122⟩:=znm hx122
     refine ztu (x:=sx107.2.1) (z:=.tuple #[]) B_b26 hroom fun κ123 s124 _ NB_b26=>?_
     rw [ex122] at NB_b26
     clear hroom
     replace hs:=hs.trB B_b26.ge s124
     replace f95:=f95.step s124 (f95.nbo B_b26.o (zm (N:=N19) (M:=κ.H.size) (i:=213001) (j:=202002) kr))
     replace B_b26:=NB_b26
     refine se (zd (za ?_))
     exact zk (eA 36 (eA 35 (eA 10 (eA 9 (eA 8 (eA 7 (eA 2 (eA 1 (eA 0 rfl))))))))) (J4 x119 x122 _ _ _ _ hs f95 B_b26 hr)
    intro hc hr
    refine ck (zd (za ?_))
    exact zk (eA 36 (eA 35 (eA 10 (eA 9 (eA 8 (eA 7 (eA 2 (eA 1 (eA 0 rfl))))))))) (J4 sx107.1 sx107.2.2 _ _ _ _ hs f95 B_b26 hr)
   refine csr (op 39 (sl a96 sx107.1.length c97) (op 40 (iv sx107.2.1) ?_))
   obtain ⟨x125,hx125,hr⟩:=bind_some hr
   obtain ⟨b126,eab126,i0x125,i1x125,csx125,p_b126,owx125⟩:=f95.idx hx125
   obtain ⟨rfl,hb127⟩:=owx125
   replace p_b126:At κ108 b126 (0+sx107.2.1.toNat*1) [iv x125]:=p_b126
   refine oi 41 239 3 1 sx107.1.length c97 .i64 sx107.2.1 (off:=0) eab126 i0x125 i1x125 (o1 42 3 (iv x125) (p_b126.one (o:=0) rfl) (op 43 (bW (x125<0)) ?_))
   refine osp 44 (decide (x125<0)) hr ?_ ?_
   ·intro hg hr
    refine os 45 (os 46 (os 47 (os 48 (op 49 (.bool false) (ot ?_)))))
    exact zk (eA 49 (eA 36 (eA 35 (eA 11 (eA 10 (eA 9 (eA 8 (eA 7 (eA 2 (eA 1 (eA 0 rfl))))))))))) (J5 false  _  hr)
   intro hg hr
   refine op 45 (pt pb0 po0) (op 46 (iv x91.1) (op 47 (iv sx107.2.1) ?_))
   obtain ⟨x128,hx128,hr⟩:=bind_some hr
   refine ocl 48 (zjN ((m0.step0 hs).part 0 2) (f3.step hs) (f6.step hs) hbx91 hb99 hx128) ?_
   rintro _ _ ⟨rfl,rfl⟩
   refine op 49 (.bool x128) (ot ?_)
   exact zk (eA 49 (eA 36 (eA 35 (eA 11 (eA 10 (eA 9 (eA 8 (eA 7 (eA 2 (eA 1 (eA 0 rfl))))))))))) (J5 x128  _  hr)
  intro hc hr
  refine cx 2 (zh ?_)
  have hx:=hdx107 _ (sj hr).symm
  subst hx
  replace hr:=hrx107
  refine zi ?_
  exact zr (eA 9 (eA 8 (eA 7 (eA 2 (eA 1 (eA 0 rfl)))))) (J3 sx107.1 sx107.2.2 _ _ _ _ hs f95 B_b26 hr)
 intro hc hr
 refine cx 0 (zh ?_)
 have hx:=hdx88 _ (sj hr).symm
 subst hx
 replace hr:=hrx88
 refine zi ?_
 exact zr (eA 8 (eA 2 (eA 1 rfl))) (J1 sx88.1 _ _ _ _ hs f39 hr)
theorem zjM {κ:K} {p0:LM×LM} {pb0:Nat} {τ0:Tag} {a1:OA} {c2:Nat} {a4:OA} {c5:Nat} {H7:List Hd} {τ0_1:Tag} {p1:Int} {p2:Int} {p3:Int} (B_m0:Box τ0 κ pb0 [sl a1 p0.1.length c2,sl a4 p0.2.length c5] 282) (f3:Sl (tSl tI64) κ a1 c2 p0.1) (f6:Mat tI64 false τ0_1 κ 95 2 a4 c5 H7 H7 p0.2) (lt_τ0_1:τ0_1.1<κ.H.size) (hb8:I64 p1) (hb9:I64 p2) (hb10:I64 p3) (ne_τ0_τ0_1:τ0≠τ0_1) {r:Int×(LM×LM)} (hr:zdY p0 p1 p2 p3=some r) :
 Fn Tryz.prog 178 #[pt pb0 0,iv p1,iv p2,iv p3] κ (fun v κ'=>Step ([pb0]++mblk a4 c5 H7) κ κ'∧∃ (a12:OA) (c13:Nat) (H15:List Hd),v=iv r.1∧I64 r.1∧Box τ0 κ' pb0 [sl a1 p0.1.length c2,sl a12 r.2.2.length c13] 282∧Mat tI64 false τ0_1 κ' 95 2 a12 c13 H15 H15 r.2.2∧(∀ g∈mblk a12 c13 H15,g∈([pb0]++mblk a4 c5 H7)∨κ.H.size≤g)):=by
 refine fnc 70 ([pb0]++mblk a4 c5 H7) Tryz.func178 Tryz.ntmps178 fun hs=>?_
 have lt_τ0:=B_m0.tlt
 have ne_τ0_1_τ0:=ne_τ0_τ0_1.symm
 have ow_f6:∀ g∈mblk a4 c5 H7,g∈([pb0]++mblk a4 c5 H7)∨κ.H.size≤g:=fun g hg=>.inl (by simp [hg])
 refine csr (op 8 (iv 0) (otx (op 9 (iv 0) (ot (cb 0 ?_)))))
 obtain ⟨x23,hx23,hrx23⟩:=bind_some hr
 refine zo (F:=zcB p0 p1 p2 p3) (J:=fun (sx23:Int×LM) (E':Env) (κ':K)=>∃ (a20:OA) (c21:Nat) (H22:List Hd),(∃ E0,E'=upd (upd (upd (upd (upd (E0) 0 (pt pb0 0)) 1 (iv p1)) 2 (iv p2)) 3 (iv p3)) 9 (iv sx23.1))∧Step ([pb0]++mblk a4 c5 H7) κ κ'∧I64 sx23.1∧Mat tI64 false τ0_1 κ' 95 2 a20 c21 H22 H22 sx23.2∧(∀ g∈mblk a20 c21 H22,g∈([pb0]++mblk a4 c5 H7)∨κ.H.size≤g)∧Box τ0 κ' pb0 [sl a1 p0.1.length c2,sl a20 sx23.2.length c21] 282) (s0:=(0,p0.2)) (x:=x23) kr hx23 ⟨_,_,_,⟨_,(eA 9 (eA 3 (eA 2 (eA 1 (eA 0 rfl)))))⟩,hs,(show I64 0 by unfold I64;omega),f6,ow_f6,B_m0⟩ ?_
 rintro sx23 _ κ24 ⟨a20,c21,H22,⟨E0,rfl⟩,hs,hb17,f19,ow_f19,B_m0⟩ yyx23 hr hdx23
 refine cs (cb 1 (csr (op 14 (pt pb0 0) (op 15 (iv p1) (op 16 (iv p2) ?_)))))
 obtain ⟨x25,hx25,hr⟩:=bind_some hr
 obtain ⟨κL26,eL26,tL26,sb,gb⟩:=f19.publish
 refine ocl 17 (Fn.lend eL26 tL26 (zkl (p0:=(p0.1,sx23.2)) ((B_m0.at.step sb (f19.bn B_m0 (ne_τ0_τ0_1))).part 0 2) ((f3.step hs).step sb) gb.sl hb8 hb9 hx25) (fun _ _ _ hR=>by obtain ⟨N,a,c,e,go,g,nl⟩:=hR;exact ⟨N,a,c,e,go,g.back (by rw [←eL26];exact go),nl⟩)) ?_
 rintro _ κ31 ⟨s32,N27,a28,c29,rfl,go_N27,f30,nil_f30⟩
 rw [eL26] at go_N27
 replace go_N27:=Nat.le_trans hs.1 go_N27
 replace hs:=hs.tr0 s32
 replace f19:=f19.step0 s32
 replace B_m0:=B_m0.step0 s32
 refine op 10 (sl a28 x25.length c29) (ot (cs ?_))
 refine zl (fun Z=>∀ (y33:Bool) (E0:Env),zbk p0 sx23 x25 y33=some yyx23→cwp Tryz.prog 70 (sub (zC Tryz.f178) [1,0,1,0,0,0,0,1,1]) Z (upd (upd (upd (upd (upd (upd (upd (E0) 0 (pt pb0 0)) 1 (iv p1)) 2 (iv p2)) 3 (iv p3)) 9 (iv sx23.1)) 10 (sl a28 x25.length c29)) 24 (.bool y33)) κ31) ?_ fun J1=>?_
 ·intro y33 E0 hr
  refine cc (y33) hr ?_ ?_
  ·intro hc hr
   refine csr (op 25 (iv sx23.1) (op 8 (iv sx23.1) (ot (crt (zb (zf (zb ?_)))))))
   have hx:=hdx23 _ (sj hr).symm
   subst hx
   replace hr:=hrx23
   refine zt (zf ?_)
   obtain rfl:=sj hr
   refine rt [.tmp 8] [iv sx23.1] ⟨rfl,trivial⟩ ?_
   exact ⟨hs,_,_,_,rfl,hb17,B_m0,f19,ow_f19⟩
  intro hc hr
  refine ckt (csr (op 11 (iv 1) (ot (cb 2 ?_))))
  refine zj 2 (fun Z=>∀ (y41:LM) (a43:OA) (c44:Nat) (H45:List Hd) (E0:Env) (κ46:K) (hs:Step ([pb0]++mblk a4 c5 H7) κ κ46) (f42:Mat tI64 false τ0_1 κ46 95 2 a43 c44 H45 H45 y41) (ow_f42:(∀ g∈mblk a43 c44 H45,g∈([pb0]++mblk a4 c5 H7)∨κ.H.size≤g)) (B_m0:Box τ0 κ46 pb0 [sl a1 p0.1.length c2,sl a43 y41.length c44] 282),zek sx23 y41=some yyx23→Z (upd (upd (upd (upd (upd (E0) 0 (pt pb0 0)) 1 (iv p1)) 2 (iv p2)) 3 (iv p3)) 9 (iv sx23.1)) κ46) ?_ fun J2=>?_
  ·intro y41 a43 c44 H45 E0 κ46 hs f42 ow_f42 B_m0 hr
   refine zg (zd (za (cr (op 12 (iv sx23.1) (op 13 (iv (w64 (sx23.1+1))) (op 9 (iv (w64 (sx23.1+1))) (oe ?_)))))))
   exact ze (sj hr).symm ⟨_,_,_,⟨_,(eA 9 (eA 3 (eA 2 (eA 1 (eA 0 rfl)))))⟩,hs,(zq _),f42,ow_f42,B_m0⟩
  obtain ⟨x47,hx47,hrx47⟩:=bind_some hr
  refine zo (F:=zbj x25) (J:=fun (sx47:Int×LM) (E':Env) (κ':K)=>∃ (a38:OA) (c39:Nat) (H40:List Hd),(∃ E0,E'=upd (upd (upd (upd (upd (upd (upd (E0) 0 (pt pb0 0)) 1 (iv p1)) 2 (iv p2)) 3 (iv p3)) 9 (iv sx23.1)) 10 (sl a28 x25.length c29)) 11 (iv sx47.1))∧Step ([pb0]++mblk a4 c5 H7) κ κ'∧I64 sx47.1∧Mat tI64 false τ0_1 κ' 95 2 a38 c39 H40 H40 sx47.2∧(∀ g∈mblk a38 c39 H40,g∈([pb0]++mblk a4 c5 H7)∨κ.H.size≤g)∧Gr tI64 false (N27,202003) κ' 3 a28 c29 x25∧Box τ0 κ' pb0 [sl a1 p0.1.length c2,sl a38 sx47.2.length c39] 282) (s0:=(1,sx23.2)) (x:=x47) kr hx47 ⟨_,_,_,⟨_,(eA 11 (eA 10 (eA 9 (eA 3 (eA 2 (eA 1 (eA 0 rfl)))))))⟩,hs,(show I64 1 by unfold I64;omega),f19,ow_f19,f30,B_m0⟩ ?_
  rintro sx47 _ κ48 ⟨a38,c39,H40,⟨E0,rfl⟩,hs,hb35,f37,ow_f37,f30,B_m0⟩ yyx47 hr hdx47
  refine cs (csr (op 26 (iv sx47.1) (op 27 (sl a28 x25.length c29) (op 28 (iv (x25.length:Int)) (op 29 (bW (sx47.1<(x25.length:Int))) (ot ?_))))))
  refine cc (decide (sx47.1<(x25.length:Int))) hr ?_ ?_
  ·intro hc hr
   refine ckt (cs (cb 3 (cs (cd 15 (dp 32 (pt pb0 0) (dp 33 (pt pb0 0) (dp 34 (pt pb0 1) (d1 35 135 (sl a38 sx47.2.length c39) (B_m0.at.one (o:=1) rfl) (dp 36 (sl a28 x25.length c29) ?_)))))))))
   refine dp 37 (iv sx47.1) (dp 38 (iv (w64 (sx47.1 - 1))) ?_)
   obtain ⟨x49,hx49,hr⟩:=bind_some hr
   obtain ⟨b50,eab50,i0x49,i1x49,csx49,p_b50,owx49⟩:=f30.idx hx49
   obtain ⟨rfl,hb51⟩:=owx49
   replace p_b50:At κ48 b50 (0+(w64 (sx47.1 - 1)).toNat*1) [iv x49]:=p_b50
   refine di 39 239 3 1 x25.length c29 .i64 (w64 (sx47.1 - 1)) (off:=0) eab50 i0x49 i1x49 (d1 40 3 (iv x49) (p_b50.one (o:=0) rfl) ?_)
   obtain ⟨x52,hx52,hr⟩:=bind_some hr
   obtain ⟨b53,a54,c55,eab53,i0x52,i1x52,hhx52,p_b53,f56⟩:=f37.idx hx52
   refine di 41 135 95 1 sx47.2.length c39 .i64 x49 (off:=0) eab53 i0x52 i1x52 (d1 42 95 (sl a54 x52.length c55) (p_b53.one (o:=0) rfl) (dp 43 (sl a28 x25.length c29) (dp 44 (iv sx47.1) ?_)))
   obtain ⟨x57,hx57,hr⟩:=bind_some hr
   obtain ⟨b58,eab58,i0x57,i1x57,csx57,p_b58,owx57⟩:=f30.idx hx57
   obtain ⟨rfl,hb59⟩:=owx57
   replace p_b58:At κ48 b58 (0+sx47.1.toNat*1) [iv x57]:=p_b58
   refine di 45 239 3 1 x25.length c29 .i64 sx47.1 (off:=0) eab58 i0x57 i1x57 (d1 46 3 (iv x57) (p_b58.one (o:=0) rfl) (de ?_))
   obtain ⟨x60,hx60,hr⟩:=bind_some hr
   obtain ⟨b61,eab61,i0x60,i1x60,csx60,p_b61,owx60⟩:=f56.idx hx60
   obtain ⟨rfl,hb62⟩:=owx60
   replace p_b61:At κ48 b61 (0+x57.toNat*1) [iv x60]:=p_b61
   refine oi 47 95 2 1 x52.length c55 .i64 x57 (off:=0) eab61 i0x60 i1x60 (o1 48 2 (iv x60) (p_b61.one (o:=0) rfl) (op 49 (iv (w64 (x60+1))) ?_))
   obtain ⟨x63,hx63,hr⟩:=bind_some hr
   obtain ⟨b64,eab64,i0x63,i1x63,csx63,p_b64,owx63⟩:=f56.idx hx63
   obtain ⟨rfl,hb65⟩:=owx63
   replace p_b64:At κ48 b64 (0+x57.toNat*1) [iv x63]:=p_b64
   refine oi 50 95 2 1 x52.length c55 .i64 x57 (off:=0) eab64 i0x63 i1x63 ?_
   obtain ⟨x66,hx66,hr⟩:=bind_some hr
   refine zlg (T:=2) (t:=tI64) (jx:=x57) (x':=w64 (x60+1)) (b:=b64) (δ:=0) (vs:=[iv (w64 (x60+1))]) (iv (w64 (x60+1))) kr kr eab64 f37 hhx52 (zom hx52) i0x63 i1x63 kr kr kr kr (fun cs hx=>by obtain ⟨x,_,ho⟩:=hx;rw [zat ((tI64.len ho).trans kr)];exact ⟨rfl,(zq _)⟩) fun κ67 s68 Nf37=>?_
   replace s68:=s68.mono (zeG (a:=a38) (c:=c39) hhx52)
   replace hs:=hs.trM ow_f37 s68
   replace f30:=f30.step s68 (f30.ngm f37 (zlB (i:=202003) (Nat.lt_of_lt_of_le lt_τ0_1 go_N27)))
   replace B_m0:=B_m0.step s68 (f37.bn B_m0 (ne_τ0_τ0_1))
   replace f37:=ziP hx66 Nf37
   have len_x66:=zS hx66
   replace B_m0:Box τ0 κ67 pb0 [sl a1 p0.1.length c2,sl a38 x66.length c39] 282:=by rw [len_x66];exact B_m0
   refine ot (cd 15 (dp 51 (pt pb0 0) (dp 52 (pt pb0 0) (dp 53 (pt pb0 1) (d1 54 135 (sl a38 x66.length c39) (B_m0.at.one (o:=1) rfl) (dp 55 (sl a28 x25.length c29) (dp 56 (iv sx47.1) ?_)))))))
   obtain ⟨x69,hx69,hr⟩:=bind_some hr
   obtain ⟨b70,eab70,i0x69,i1x69,csx69,p_b70,owx69⟩:=f30.idx hx69
   obtain ⟨rfl,hb71⟩:=owx69
   replace p_b70:At κ67 b70 (0+sx47.1.toNat*1) [iv x69]:=p_b70
   refine di 57 239 3 1 x25.length c29 .i64 sx47.1 (off:=0) eab70 i0x69 i1x69 (d1 58 3 (iv x69) (p_b70.one (o:=0) rfl) ?_)
   obtain ⟨x72,hx72,hr⟩:=bind_some hr
   obtain ⟨b73,a74,c75,eab73,i0x72,i1x72,hhx72,p_b73,f76⟩:=f37.idx hx72
   refine di 59 135 95 1 x66.length c39 .i64 x69 (off:=0) eab73 i0x72 i1x72 (d1 60 95 (sl a74 x72.length c75) (p_b73.one (o:=0) rfl) (dp 61 (sl a28 x25.length c29) (dp 62 (iv sx47.1) (dp 63 (iv (w64 (sx47.1 - 1))) ?_))))
   obtain ⟨x77,hx77,hr⟩:=bind_some hr
   obtain ⟨b78,eab78,i0x77,i1x77,csx77,p_b78,owx77⟩:=f30.idx hx77
   obtain ⟨rfl,hb79⟩:=owx77
   replace p_b78:At κ67 b78 (0+(w64 (sx47.1 - 1)).toNat*1) [iv x77]:=p_b78
   refine di 64 239 3 1 x25.length c29 .i64 (w64 (sx47.1 - 1)) (off:=0) eab78 i0x77 i1x77 (d1 65 3 (iv x77) (p_b78.one (o:=0) rfl) (de ?_))
   obtain ⟨x80,hx80,hr⟩:=bind_some hr
   obtain ⟨b81,eab81,i0x80,i1x80,csx80,p_b81,owx80⟩:=f76.idx hx80
   obtain ⟨rfl,hb82⟩:=owx80
   replace p_b81:At κ67 b81 (0+x77.toNat*1) [iv x80]:=p_b81
   refine oi 66 95 2 1 x72.length c75 .i64 x77 (off:=0) eab81 i0x80 i1x80 (o1 67 2 (iv x80) (p_b81.one (o:=0) rfl) (op 68 (iv (w64 (x80 - 1))) ?_))
   obtain ⟨x83,hx83,hr⟩:=bind_some hr
   obtain ⟨b84,eab84,i0x83,i1x83,csx83,p_b84,owx83⟩:=f76.idx hx83
   obtain ⟨rfl,hb85⟩:=owx83
   replace p_b84:At κ67 b84 (0+x77.toNat*1) [iv x83]:=p_b84
   refine oi 69 95 2 1 x72.length c75 .i64 x77 (off:=0) eab84 i0x83 i1x83 ?_
   obtain ⟨x86,hx86,hr⟩:=bind_some hr
   refine zlg (T:=2) (t:=tI64) (jx:=x77) (x':=w64 (x80 - 1)) (b:=b84) (δ:=0) (vs:=[iv (w64 (x80 - 1))]) (iv (w64 (x80 - 1))) kr kr eab84 f37 hhx72 (zom hx72) i0x83 i1x83 kr kr kr kr (fun cs hx=>by obtain ⟨x,_,ho⟩:=hx;rw [zat ((tI64.len ho).trans kr)];exact ⟨rfl,(zq _)⟩) fun κ87 s88 Nf37=>?_
   replace s88:=s88.mono (zeG (a:=a38) (c:=c39) hhx72)
   replace hs:=hs.trM ow_f37 s88
   replace f30:=f30.step s88 (f30.ngm f37 (zlB (i:=202003) (Nat.lt_of_lt_of_le lt_τ0_1 go_N27)))
   replace B_m0:=B_m0.step s88 (f37.bn B_m0 (ne_τ0_τ0_1))
   replace f37:=ziP hx86 Nf37
   have len_x86:=zS hx86
   replace B_m0:Box τ0 κ87 pb0 [sl a1 p0.1.length c2,sl a38 x86.length c39] 282:=by rw [len_x86];exact B_m0
   refine oe (zd (za (cr (op 30 (iv sx47.1) (op 31 (iv (w64 (sx47.1+1))) (op 11 (iv (w64 (sx47.1+1))) (oe ?_)))))))
   exact ze (sj hr).symm ⟨_,_,_,⟨_,(eA 11 (eA 10 (eA 9 (eA 3 (eA 2 (eA 1 (eA 0 rfl)))))))⟩,hs,(zq _),f37,ow_f37,f30,B_m0⟩
  intro hc hr
  refine cx 2 (zh ?_)
  have hx:=hdx47 _ (sj hr).symm
  subst hx
  replace hr:=hrx47
  refine zi ?_
  exact zr (eA 9 (eA 3 (eA 2 (eA 1 (eA 0 rfl))))) (J2 sx47.2 _ _ _ _ _ hs f37 ow_f37 B_m0 hr)
 refine csr (op 18 (sl a28 x25.length c29) (oq 19 (bW (x25=[])) (fun _=>zqX f30 nil_f30 (T:=239) (e:=3) kr kr) ?_))
 refine osp 20 (decide (x25=[])) hr ?_ ?_
 ·intro hg hr
  refine op 21 (iv sx23.1) (op 22 (iv p3) (op 23 (bW (sx23.1≥p3)) (op 24 (bW (sx23.1≥p3)) (ot ?_))))
  exact zk (eA 24 (eA 10 (eA 9 (eA 3 (eA 2 (eA 1 (eA 0 rfl))))))) (J1 (decide (sx23.1≥p3))  _  hr)
 intro hg hr
 refine os 21 (os 22 (os 23 (op 24 (.bool true) (ot ?_))))
 exact zk (eA 24 (eA 10 (eA 9 (eA 3 (eA 2 (eA 1 (eA 0 rfl))))))) (J1 true  _  hr)
theorem znF {κ:K} {p0:Int} {p1:LB} {a2:OA} {c3:Nat} {p2:Int} (hb1:I64 p0) (f4:Sl zR κ a2 c3 p1) (hb5:I64 p2) {r:Bool} (hr:ziV p0 p1 p2=some r) :
 Fn Tryz.prog 137 #[iv p0,sl a2 p1.length c3,iv p2] κ (fun v κ'=>Step [] κ κ'∧v=.bool r):=by
 refine fnc 21 [] Tryz.func137 Tryz.ntmps137 fun hs=>csr (op 6 (.bool false) (ot (cs (csr (op 7 (iv 1) (ot (cb 0 ?_)))))))
 refine zj 0 (fun Z=>∀ (E0:Env) (κ8:K) (hs:Step [] κ κ8),zkp=some r→Z (E0) κ8) ?_ fun J1=>?_
 ·intro E0 κ8 hs hr
  refine zg (za (csr (op 6 (.bool true) (ot (crt ?_)))))
  obtain rfl:=sj hr
  refine rt [.tmp 6] [.bool true] ⟨rfl,trivial⟩ ?_
  exact ⟨hs,rfl⟩
 obtain ⟨x9,hx9,hrx9⟩:=bind_some hr
 refine zo (F:=zgM p0 p1 p2) (J:=fun (sx9:Int) (E':Env) (κ':K)=>(∃ E0,E'=upd (upd (upd (upd (E0) 0 (iv p0)) 1 (sl a2 p1.length c3)) 2 (iv p2)) 7 (iv sx9))∧Step [] κ κ'∧I64 sx9) (s0:=1) (x:=x9) kr hx9 ⟨⟨_,(eA 7 (eA 2 (eA 1 (eA 0 rfl))))⟩,hs,(show I64 1 by unfold I64;omega)⟩ ?_
 rintro sx9 _ κ10 ⟨⟨E0,rfl⟩,hs,hb7⟩ yyx9 hr hdx9
 refine cs (csr (op 8 (iv sx9) (op 9 (iv p0) (op 10 (bW (sx9<p0)) (ot ?_)))))
 refine cc (decide (sx9<p0)) hr ?_ ?_
 ·intro hc hr
  refine ckt (cs (cb 1 (csr (op 13 (iv p0) (op 14 (sl a2 p1.length c3) ?_)))))
  obtain ⟨x11,hx11,hr⟩:=bind_some hr
  refine ocl 15 (zlr hb1 (f4.step hs) hx11) ?_
  rintro _ κ21 ⟨s22,b12,N13,a14,c15,a17,c18,H20,rfl,go_N13,B_b12,f16,f19⟩
  replace go_N13:=Nat.le_trans hs.1 go_N13
  replace hs:=hs.tr0 s22
  refine op 16 (iv sx9) (op 17 (iv p2) ?_)
  obtain ⟨x23,hx23,hr⟩:=bind_some hr
  refine ocl 18 (zjM (p0:=x11) B_b12 f16.sl f19 (show ((N13,177007):Tag).1<_ from B_b12.tlt) (show I64 0 by unfold I64;omega) hb7 hb5 (zm (N:=N13) (M:=N13) (i:=177001) (j:=177007) kr) hx23) ?_
  rintro _ κ29 ⟨s30,a25,c26,H28,rfl,hb24,NB_b12,f27,ow_f27⟩
  clear ow_f27
  replace hs:=hs.trM (zeZ (zo7 (Nat.le_trans go_N13 B_b12.ge)) (znA (f19.own go_N13))) s30
  replace B_b12:=NB_b12
  refine op 19 (iv p2) (op 20 (bW (x23.1<p2)) (ot ?_))
  refine cc (decide (x23.1<p2)) hr ?_ ?_
  ·intro hc hr
   refine csr (op 6 (.bool false) (ot (crt (zf (zb ?_)))))
   have hx:=hdx9 _ (sj hr).symm
   subst hx
   replace hr:=hrx9
   refine zt (zf (zb ?_))
   obtain rfl:=sj hr
   refine rt [.tmp 6] [.bool false] ⟨rfl,trivial⟩ ?_
   exact ⟨hs,rfl⟩
  intro hc hr
  refine ck (zd (za (cr (op 11 (iv sx9) (op 12 (iv (w64 (sx9+1))) (op 7 (iv (w64 (sx9+1))) (oe ?_)))))))
  exact ze (sj hr).symm ⟨⟨_,(eA 7 (eA 2 (eA 1 (eA 0 rfl))))⟩,hs,(zq _)⟩
 intro hc hr
 refine cx 0 (zh ?_)
 have hx:=hdx9 _ (sj hr).symm
 subst hx
 replace hr:=hrx9
 refine zi ?_
 exact zr rfl (J1   _ _ hs  hr)
theorem ziW {κ:K} {p0:LG×LT} {a1:OA} {c2:Nat} {a4:OA} {c5:Nat} {p1:LP} {a7:OA} {c8:Nat} {p2:Int} (f3:Sl tGlue κ a1 c2 p0.1) (f6:Sl zQ κ a4 c5 p0.2) (f9:Sl tPlaced κ a7 c8 p1) (hb10:I64 p2) {r:Bool×Bool} (hr:zcQ p0 p1 p2=some r) :
 Fn Tryz.prog 103 #[.agg #[sl a1 p0.1.length c2,sl a4 p0.2.length c5],.agg #[sl a7 p1.length c8],iv p2] κ (fun v κ'=>Step [] κ κ'∧v=.tuple #[.bool r.1,.bool r.2]):=by
 refine fnc 27 [] Tryz.func103 Tryz.ntmps103 fun hs=>csr (zv (d:=3) (T:=25) (κ.H.size,103001) hs.1 (.agg #[sl a1 p0.1.length c2,sl a4 p0.2.length c5]) [sl a1 p0.1.length c2,sl a4 p0.2.length c5] kr kr rfl fun b11 κ12 s13 B_b11=>?_)
 replace hs:=hs.tr0 s13
 refine zv (d:=4) (T:=28) (κ.H.size,103002) hs.1 (.agg #[sl a7 p1.length c8]) [sl a7 p1.length c8] kr kr rfl fun b14 κ15 s16 B_b14=>?_
 replace hs:=hs.tr0 s16
 replace B_b11:=B_b11.step0 s16
 refine op 6 (.bool false) (op 7 (.bool false) (ot (cs (cx_ 12 [0,1,2,3,4,6,5,7,8,9,10,11] [5,7] 12 [] (xp 11 (pt b14 0) (x1 12 26 (sl a7 p1.length c8) B_b14.at 0 rfl (xp 13 (iv (p1.length:Int)) (xN 14 25 [sl a1 p0.1.length c2,sl a4 p0.2.length c5] B_b11.at 0 2 rfl (xN 15 28 [sl a7 p1.length c8] B_b14.at 0 1 rfl ?_)))))))))
 refine xp 17 (iv p2) ?_
 obtain ⟨x17,hx17,hr⟩:=bind_some hr
 refine xcl 16 (zjj (f3.step hs) (f6.step hs) (f9.step hs) hx17) ?_
 rintro _ κ21 ⟨s22,a18,c19,rfl,f20⟩
 refine ⟨s22,?_⟩
 replace hs:=hs.tr0 s22
 obtain ⟨x23,hx23,hr⟩:=bind_some hr
 refine xcl 18 (zkQ (zg5 (f9.step hs).most) f20 hb10 hx23) ?_
 rintro _ κ28 ⟨s29,a25,c26,rfl,hb24,f27⟩
 refine ⟨s29,?_⟩
 replace hs:=hs.tr0 s29
 refine xp 10 (.tuple #[iv x23.1,sl a25 x23.2.length c26]) (xp 19 (iv x23.1) (xp 20 (sl a25 x23.2.length c26) (xp 8 (iv x23.1) (xe (op 9 (sl a25 x23.2.length c26) (ot (cs (csr (op 21 (iv x23.1) ?_)))))))))
 refine op 22 (bW (x23.1>64)) (ot ?_)
 refine cc (decide (x23.1>64)) hr ?_ ?_
 ·intro hc hr
  refine csr (op 6 (.bool false) (op 7 (.bool false) (ot (crt (zb ?_)))))
  obtain rfl:=sj hr
  refine rt [.tmp 6,.tmp 7] [.bool false,.bool false] ⟨rfl,rfl,trivial⟩ ?_
  exact ⟨hs,rfl⟩
 intro hc hr
 refine ckt (csr (op 23 (iv x23.1) (op 24 (sl a25 x23.2.length c26) (op 25 (iv p2) ?_))))
 obtain ⟨x30,hx30,hr⟩:=bind_some hr
 refine ocl 26 (znF hb24 f27 hb10 hx30) ?_
 rintro _ κ31 ⟨s32,rfl⟩
 replace hs:=hs.tr0 s32
 refine op 6 (.bool x30) (op 7 (.bool true) (ot (crt ?_)))
 obtain rfl:=sj hr
 refine rt [.tmp 6,.tmp 7] [.bool x30,.bool true] ⟨rfl,rfl,trivial⟩ ?_
 exact ⟨hs,rfl⟩
theorem zlY {κ:K} {p0:LG×LT} {a1:OA} {c2:Nat} {a4:OA} {c5:Nat} {p1:LP} {a7:OA} {c8:Nat} {p2:Int} (f3:Sl tGlue κ a1 c2 p0.1) (f6:Sl zQ κ a4 c5 p0.2) (f9:Sl tPlaced κ a7 c8 p1) (hb10:I64 p2) {r:Bool×Int} (hr:zig p0 p1 p2=some r) :
 Fn Tryz.prog 66 #[.agg #[sl a1 p0.1.length c2,sl a4 p0.2.length c5],.agg #[sl a7 p1.length c8],iv p2] κ (fun v κ'=>Step [] κ κ'∧v=.tuple #[.bool r.1,iv r.2]∧I64 r.2):=by
 refine fnc 29 [] Tryz.func66 Tryz.ntmps66 fun hs=>csr (zv (d:=3) (T:=25) (κ.H.size,66001) hs.1 (.agg #[sl a1 p0.1.length c2,sl a4 p0.2.length c5]) [sl a1 p0.1.length c2,sl a4 p0.2.length c5] kr kr rfl fun b12 κ13 s14 B_b12=>?_)
 replace hs:=hs.tr0 s14
 refine zv (d:=4) (T:=28) (κ.H.size,66002) hs.1 (.agg #[sl a7 p1.length c8]) [sl a7 p1.length c8] kr kr rfl fun b15 κ16 s17 B_b15=>?_
 replace hs:=hs.tr0 s17
 replace B_b12:=B_b12.step0 s17
 refine op 6 (.bool false) (op 7 (iv 0) (ot (cs (cb 0 (csr (oN 11 25 [sl a1 p0.1.length c2,sl a4 p0.2.length c5] (B_b12.at.part 0 2).2 (oN 12 28 [sl a7 p1.length c8] (B_b15.at.part 0 1).2 ?_)))))))
 obtain ⟨x18,hx18,hr⟩:=bind_some hr
 refine ocl 13 (zji (f3.step hs) (f6.step hs) (f9.step hs) hx18) ?_
 rintro _ κ19 ⟨s20,rfl⟩
 replace hs:=hs.tr0 s20
 replace B_b12:=B_b12.step0 s20
 replace B_b15:=B_b15.step0 s20
 refine op 14 (.bool (!x18)) (op 10 (.bool (!x18)) (ot ?_))
 refine cc (!x18) hr ?_ ?_
 ·intro hc hr
  refine csr (op 6 (.bool false) (op 7 (iv 1) (ot (crt (zf (zb ?_))))))
  obtain rfl:=sj hr
  refine rt [.tmp 6,.tmp 7] [.bool false,iv 1] ⟨rfl,rfl,trivial⟩ ?_
  exact ⟨hs,rfl,(show I64 1 by unfold I64;omega)⟩
 intro hc hr
 refine csr (op 16 (iv p2) ?_)
 obtain ⟨x21,hx21,hr⟩:=bind_some hr
 refine ocl 17 (zje hb10 hx21) ?_
 rintro _ _ ⟨rfl,rfl⟩
 refine op 18 (.bool (!x21)) (op 15 (.bool (!x21)) (ot ?_))
 refine cc (!x21) hr ?_ ?_
 ·intro hc hr
  refine csr (op 6 (.bool false) (op 7 (iv 2) (ot (crt (zf (zb ?_))))))
  obtain rfl:=sj hr
  refine rt [.tmp 6,.tmp 7] [.bool false,iv 2] ⟨rfl,rfl,trivial⟩ ?_
  exact ⟨hs,rfl,(show I64 2 by unfold I64;omega)⟩
 intro hc hr
 refine ck (zd (za (csr (oN 20 25 [sl a1 p0.1.length c2,sl a4 p0.2.length c5] (B_b12.at.part 0 2).2 (oN 21 28 [sl a7 p1.length c8] (B_b15.at.part 0 1).2 (op 22 (iv p2) ?_))))))
 obtain ⟨x23,hx23,hr⟩:=bind_some hr
 refine ocl 23 (ziW (f3.step hs) (f6.step hs) (f9.step hs) hb10 hx23) ?_
 rintro _ κ24 ⟨s25,rfl⟩
 replace hs:=hs.tr0 s25
 refine op 19 (.tuple #[.bool x23.1,.bool x23.2]) (op 24 (.bool x23.1) (op 25 (.bool x23.2) (op 8 (.bool x23.1) (op 9 (.bool x23.2) (ot (cs (csr (op 26 (.bool x23.2) (op 27 (.bool (!x23.2)) ?_)))))))))
 refine ot ?_
 refine cc (!x23.2) hr ?_ ?_
 ·intro hc hr
  refine csr (op 6 (.bool false) (op 7 (iv 4) (ot (crt (zb ?_)))))
  obtain rfl:=sj hr
  refine rt [.tmp 6,.tmp 7] [.bool false,iv 4] ⟨rfl,rfl,trivial⟩ ?_
  exact ⟨hs,rfl,(show I64 4 by unfold I64;omega)⟩
 intro hc hr
 refine ckt (csr (op 28 (.bool x23.1) (op 6 (.bool x23.1) (op 7 (iv 0) (ot (crt ?_))))))
 obtain rfl:=sj hr
 refine rt [.tmp 6,.tmp 7] [.bool x23.1,iv 0] ⟨rfl,rfl,trivial⟩ ?_
 exact ⟨hs,rfl,(show I64 0 by unfold I64;omega)⟩
theorem zkm {κ:K} {p0:TS×(LP)×Int} {a1:OA} {c2:Nat} {a4:OA} {c5:Nat} {a7:OA} {c8:Nat} (f3:Sl tGlue κ a1 c2 p0.1.1) (f6:Sl zQ κ a4 c5 p0.1.2) (f9:Sl tPlaced κ a7 c8 p0.2.1) (hb10:I64 p0.2.2) {r:Bool} (hr:zeE p0=some r) :
 Fn Tryz.prog 33 #[.agg #[sl a1 p0.1.1.length c2,sl a4 p0.1.2.length c5,sl a7 p0.2.1.length c8,iv p0.2.2]] κ (fun v κ'=>Step [] κ κ'∧v=.bool r):=by
 refine fnc 25 [] Tryz.func33 Tryz.ntmps33 fun hs=>csr (zv (d:=1) (T:=30) (κ.H.size,33001) hs.1 (.agg #[sl a1 p0.1.1.length c2,sl a4 p0.1.2.length c5,sl a7 p0.2.1.length c8,iv p0.2.2]) [sl a1 p0.1.1.length c2,sl a4 p0.1.2.length c5,sl a7 p0.2.1.length c8,iv p0.2.2] kr kr rfl fun b11 κ12 s13 B_b11=>?_)
 replace hs:=hs.tr0 s13
 refine op 2 (.bool false) (ot (cs (csr (op 5 (pt b11 2) (op 6 (pt b11 2) (o1 7 26 (sl a7 p0.2.1.length c8) (B_b11.at.one (o:=2) rfl) (op 8 (iv (p0.2.1.length:Int)) (op 9 (bW ((p0.2.1.length:Int)=0)) (ot ?_)))))))))
 refine cc (decide ((p0.2.1.length:Int)=0)) hr ?_ ?_
 ·intro hc hr
  refine csr (op 2 (.bool false) (ot (crt (zb ?_))))
  obtain rfl:=sj hr
  refine rt [.tmp 2] [.bool false] ⟨rfl,trivial⟩ ?_
  exact ⟨hs,rfl⟩
 intro hc hr
 refine ckt (csr (op 11 (pt b11 0) (oN 12 25 [sl a1 p0.1.1.length c2,sl a4 p0.1.2.length c5] (B_b11.at.part 0 2).2 (op 13 (pt b11 2) (oN 14 28 [sl a7 p0.2.1.length c8] (B_b11.at.part 2 1).2 (op 15 (pt b11 3) (o1 16 2 (iv p0.2.2) (B_b11.at.one (o:=3) rfl) ?_)))))))
 obtain ⟨x14,hx14,hr⟩:=bind_some hr
 refine ocl 17 (zlY (f3.step hs) (f6.step hs) (f9.step hs) hb10 hx14) ?_
 rintro _ κ16 ⟨s17,rfl,hb15⟩
 replace hs:=hs.tr0 s17
 refine op 10 (.tuple #[.bool x14.1,iv x14.2]) (op 18 (.bool x14.1) (op 19 (iv x14.2) (op 3 (.bool x14.1) (op 4 (iv x14.2) (otx (op 20 (.bool x14.1) ?_))))))
 refine osp 21 (x14.1) hr ?_ ?_
 ·intro hg hr
  refine os 22 (os 23 (op 24 (.bool false) (op 2 (.bool false) (ot (crt ?_)))))
  obtain rfl:=sj hr
  refine rt [.tmp 2] [.bool false] ⟨rfl,trivial⟩ ?_
  exact ⟨hs,rfl⟩
 intro hg hr
 refine op 22 (iv x14.2) (op 23 (bW (x14.2=0)) (op 24 (bW (x14.2=0)) (op 2 (bW (x14.2=0)) (ot (crt ?_)))))
 obtain rfl:=sj hr
 refine rt [.tmp 2] [bW (x14.2=0)] ⟨rfl,trivial⟩ ?_
 exact ⟨hs,rfl⟩
theorem ziB {κ:K} {p0:LW} {a1:OA} {c2:Nat} {p1:Int} (f3:Sl tStr κ a1 c2 p0) (hb4:I64 p1) (G0:Glob κ) {r:(TS×(LP)×Int)×Er} (hr:zej p0 p1=some r) :
 Fn Tryz.prog 13 #[sl a1 p0.length c2,iv p1] κ (fun v κ'=>Step [] κ κ'∧∃ (a5:OA) (c6:Nat) (a8:OA) (c9:Nat) (a11:OA) (c12:Nat) (v15:Value),v=.tuple #[.agg #[sl a5 r.1.1.1.length c6,sl a8 r.1.1.2.length c9,sl a11 r.1.2.1.length c12,iv r.1.2.2],v15]∧SysO κ' a5 c6 a8 c9 a11 c12 r.1∧I64 r.1.2.2∧ErV κ' v15 r.2):=by
 refine fnc 43 [] Tryz.func13 Tryz.ntmps13 fun hs=>csr (zz (d:=4) (T:=30) (κ.H.size,13001) hs.1 [sl none 0 0,sl none 0 0,sl none 0 0,iv 0] kr kr kr fun b17 κ18 s19 B_b17=>?_)
 replace hs:=hs.tr0 s19
 refine op 5 (Value.nilIface) (otx (op 11 (.agg #[.bool false,sl none 0 0,sl none 0 0,sl none 0 0,iv 0,sl none 0 0,sl none 0 0,strV ([]:BS),sl none 0 0,sl none 0 0,sl none 0 0]) (zv (d:=12) (T:=71) (κ.H.size,13002) hs.1 (.agg #[.bool false,sl none 0 0,sl none 0 0,sl none 0 0,iv 0,sl none 0 0,sl none 0 0,strV ([]:BS),sl none 0 0,sl none 0 0,sl none 0 0]) [.bool false,sl none 0 0,sl none 0 0,sl none 0 0,iv 0,sl none 0 0,sl none 0 0,strV ([]:BS),sl none 0 0,sl none 0 0,sl none 0 0] kr kr rfl fun b20 κ21 s22 B_b20=>?_)))
 replace hs:=hs.tr0 s22
 replace B_b17:=B_b17.step0 s22
 refine op 6 (pt b20 0) (ot (cs (csr (op 13 (sl a1 p0.length c2) (op 14 (iv (p0.length:Int)) (op 15 (iv 0) (ot (cb 0 ?_))))))))
 refine zj 0 (fun Z=>∀ (y50:Bool) (y51:Int) (y53:LG) (y57:LT) (y61:BS) (y63:LG) (y67:LT) (y71:LP) (a55:OA) (c56:Nat) (a59:OA) (c60:Nat) (a64:OA) (c65:Nat) (a68:OA) (c69:Nat) (a73:OA) (c74:Nat) (E0:Env) (κ75:K) (hs:Step [] κ κ75) (hb52:I64 y51) (f54:Gr tGlue true (κ.H.size,13003) κ75 94 a55 c56 y53) (f58:GrE tStr tI64 64004 2 (κ.H.size,13004) κ75 97 a59 c60 y57) (hb62:y61.length≤9223372036854775807) (f66:Sl tGlue κ75 a64 c65 y63) (f70:Sl zQ κ75 a68 c69 y67) (f72:Gr tPlaced true (κ.H.size,13005) κ75 108 a73 c74 y71) (B_b17:Box (κ.H.size,13001) κ75 b17 [sl none 0 0,sl none 0 0,sl none 0 0,iv 0] 30) (B_b20:Box (κ.H.size,13002) κ75 b20 [.bool y50,sl none 0 0,sl none 0 0,sl none 0 0,iv y51,sl a55 y53.length c56,sl a59 y57.length c60,strV y61,sl a64 y63.length c65,sl a68 y67.length c69,sl a73 y71.length c74] 71),zbw y50 y51 y53 y57 y61 y63 y67 y71=some r→Z (upd (upd (E0) 4 (pt b17 0)) 6 (pt b20 0)) κ75) ?_ fun J1=>?_
 ·intro y50 y51 y53 y57 y61 y63 y67 y71 a55 c56 a59 c60 a64 c65 a68 c69 a73 c74 E0 κ75 hs hb52 f54 f58 hb62 f66 f70 f72 B_b17 B_b20 hr
  refine zg (za (csr (op 35 (pt b20 0) ?_)))
  obtain ⟨x76,hx76,hr⟩:=bind_some hr
  refine ocl 36 (zhr (B_b20.at.part 0 11) (Sl.nil _ _) (Sl.nil _ _) (Sl.nil _ _) hb52 (f54.slO (by decide)) f58.tlO hb62 f66 f70 f72.sl hx76) ?_
  rintro _ κ87 ⟨s88,a77,c78,a80,c81,a83,c84,rfl,f79,hb86⟩
  replace hs:=hs.tr0 s88
  replace B_b17:=B_b17.step0 s88
  refine zz (d:=10) (T:=30) (κ.H.size,13007) hs.1 [sl none 0 0,sl none 0 0,sl none 0 0,iv 0] kr kr kr fun b89 κ90 s91 B_b89=>?_
  replace hs:=hs.tr0 s91
  replace f79:=f79.step s91
  replace B_b17:=B_b17.step0 s91
  refine zn (b:=b89) (off:=0) (T:=30) (.agg #[sl a77 x76.1.1.length c78,sl a80 x76.1.2.length c81,sl a83 x76.2.1.length c84,iv x76.2.2]) [sl a77 x76.1.1.length c78,sl a80 x76.1.2.length c81,sl a83 x76.2.1.length c84,iv x76.2.2] [sl a77 x76.1.1.length c78,sl a80 x76.1.2.length c81,sl a83 x76.2.1.length c84,iv x76.2.2] kr kr B_b89 rfl kr kr kr rfl fun κ92 s93 _ NB_b89=>?_
  replace hs:=hs.trB B_b89.ge s93
  replace f79:=f79.step s93
  replace B_b17:=B_b17.step s93 (nm1 (B_b17.ne B_b89 (zm (N:=κ.H.size) (M:=κ.H.size) (i:=13001) (j:=13007) kr)))
  replace B_b89:=NB_b89
  refine ot (cs (csr (oN 37 30 [sl a77 x76.1.1.length c78,sl a80 x76.1.2.length c81,sl a83 x76.2.1.length c84,iv x76.2.2] (B_b89.at.part 0 4).2 ?_)))
  obtain ⟨x94,hx94,hr⟩:=bind_some hr
  refine ocl 38 (zkm f79.g f79.t f79.p hb86 hx94) ?_
  rintro _ κ95 ⟨s96,rfl⟩
  replace hs:=hs.tr0 s96
  replace f79:=f79.step s96
  replace B_b17:=B_b17.step0 s96
  replace B_b89:=B_b89.step0 s96
  refine op 39 (.bool (!x94)) (ot ?_)
  refine cc (!x94) hr ?_ ?_
  ·intro hc hr
   refine cs ?_
   obtain ⟨v97,f98⟩:=(G0.step hs).whole
   refine zuw (b:=b17) (gb:=0) (T:=30) (T1:=42) (vs:=[sl none 0 0,sl none 0 0,sl none 0 0,iv 0]) (cs':=[sl none 0 0,sl none 0 0,sl none 0 0,iv 0]) 40 41 5 (.agg #[sl none 0 0,sl none 0 0,sl none 0 0,iv 0]) v97 B_b17 f98.at0 (fun κ99 s100 NB_b17=>?_) rfl kr kr kr rfl kr (fun E' he=>by rcases he with rfl | rfl<;>exact ⟨kr,kr⟩) (fun E' he=>by rcases he with rfl | rfl<;>exact ⟨kr,kr⟩) (fun _=>⟨⟨kr,fun _ _=>kr⟩,⟨kr,fun _ _=>kr⟩⟩) (fun _=>⟨kr,fun _ _=>kr⟩)
   replace hs:=hs.trB B_b17.ge s100
   replace f98:=f98.step s100
   replace B_b17:=NB_b17
   refine za (crt (zb ?_))
   obtain rfl:=sj hr
   refine rt [.cell 4 30,.tmp 5] [.agg #[sl none 0 0,sl none 0 0,sl none 0 0,iv 0],v97] ⟨⟨b17,0,[sl none 0 0,sl none 0 0,sl none 0 0,iv 0],rfl,rfl,kr,kr,(B_b17.at.part 0 4).2⟩,rfl,trivial⟩ ?_
   exact ⟨hs,_,_,_,_,_,_,_,rfl,SysO.nil,(show I64 0 by unfold I64;omega),f98⟩
  intro hc hr
  refine ckt (csr (oN 42 30 [sl a77 x76.1.1.length c78,sl a80 x76.1.2.length c81,sl a83 x76.2.1.length c84,iv x76.2.2] (B_b89.at.part 0 4).2 (zn (b:=b17) (off:=0) (T:=30) (.agg #[sl a77 x76.1.1.length c78,sl a80 x76.1.2.length c81,sl a83 x76.2.1.length c84,iv x76.2.2]) [sl a77 x76.1.1.length c78,sl a80 x76.1.2.length c81,sl a83 x76.2.1.length c84,iv x76.2.2] [sl a77 x76.1.1.length c78,sl a80 x76.1.2.length c81,sl a83 x76.2.1.length c84,iv x76.2.2] kr kr B_b17 rfl kr kr kr rfl fun κ101 s102 _ NB_b17=>?_)))
  replace hs:=hs.trB B_b17.ge s102
  replace f79:=f79.step s102
  replace B_b17:=NB_b17
  refine op 5 (Value.nilIface) (ot (crt ?_))
  obtain rfl:=sj hr
  refine rt [.cell 4 30,.tmp 5] [.agg #[sl a77 x76.1.1.length c78,sl a80 x76.1.2.length c81,sl a83 x76.2.1.length c84,iv x76.2.2],Value.nilIface] ⟨⟨b17,0,[sl a77 x76.1.1.length c78,sl a80 x76.1.2.length c81,sl a83 x76.2.1.length c84,iv x76.2.2],rfl,rfl,kr,kr,(B_b17.at.part 0 4).2⟩,rfl,trivial⟩ ?_
  exact ⟨hs,_,_,_,_,_,_,_,rfl,f79,hb86,ErV.nil⟩
 obtain ⟨x103,hx103,hrx103⟩:=bind_some hr
 refine zo (F:=zH p0 p1) (J:=fun (sx103:Int×Bool×Int×LG×LT×BS×LG×LT×LP) (E':Env) (κ':K)=>∃ (a30:OA) (c31:Nat) (a34:OA) (c35:Nat) (a39:OA) (c40:Nat) (a43:OA) (c44:Nat) (a48:OA) (c49:Nat),(∃ E0,E'=upd (upd (upd (upd (upd (upd (E0) 1 (iv p1)) 4 (pt b17 0)) 6 (pt b20 0)) 13 (sl a1 p0.length c2)) 14 (iv (p0.length:Int))) 15 (iv sx103.1))∧Step [] κ κ'∧I64 sx103.1∧I64 sx103.2.2.1∧Gr tGlue true (κ.H.size,13003) κ' 94 a30 c31 sx103.2.2.2.1∧GrE tStr tI64 64004 2 (κ.H.size,13004) κ' 97 a34 c35 sx103.2.2.2.2.1∧sx103.2.2.2.2.2.1.length≤9223372036854775807∧Sl tGlue κ' a39 c40 sx103.2.2.2.2.2.2.1∧Sl zQ κ' a43 c44 sx103.2.2.2.2.2.2.2.1∧Gr tPlaced true (κ.H.size,13005) κ' 108 a48 c49 sx103.2.2.2.2.2.2.2.2∧Box (κ.H.size,13001) κ' b17 [sl none 0 0,sl none 0 0,sl none 0 0,iv 0] 30∧Box (κ.H.size,13002) κ' b20 [.bool sx103.2.1,sl none 0 0,sl none 0 0,sl none 0 0,iv sx103.2.2.1,sl a30 sx103.2.2.2.1.length c31,sl a34 sx103.2.2.2.2.1.length c35,strV sx103.2.2.2.2.2.1,sl a39 sx103.2.2.2.2.2.2.1.length c40,sl a43 sx103.2.2.2.2.2.2.2.1.length c44,sl a48 sx103.2.2.2.2.2.2.2.2.length c49] 71) (s0:=(0,false,0,[],[],([]:BS),[],[],[])) (x:=x103) kr hx103 ⟨_,_,_,_,_,_,_,_,_,_,⟨_,(eA 15 (eA 14 (eA 13 (eA 6 (eA 4 (eA 1 rfl))))))⟩,hs,(show I64 0 by unfold I64;omega),(show I64 0 by unfold I64;omega),Gr.nil,GrE.nil,(by simp),(Sl.nil _ _),(Sl.nil _ _),Gr.nil,B_b17,B_b20⟩ ?_
 rintro sx103 _ κ104 ⟨a30,c31,a34,c35,a39,c40,a43,c44,a48,c49,⟨E0,rfl⟩,hs,hb24,hb27,f29,f33,hb37,f41,f45,f47,B_b17,B_b20⟩ yyx103 hr hdx103
 refine csr (op 16 (bW (sx103.1<(p0.length:Int))) (ot (cs ?_)))
 refine cc (decide (sx103.1<(p0.length:Int))) hr ?_ ?_
 ·intro hc hr
  refine ckt (cs (cb 1 (csr (op 17 (iv sx103.1) ?_))))
  obtain ⟨x105,hx105,hr⟩:=bind_some hr
  obtain ⟨b106,o107,eab106,i0x105,i1x105,csx105,p_b106,owx105⟩:=(f3.step hs).idx hx105
  obtain ⟨rfl,hb108⟩:=owx105
  replace p_b106:PubAt κ104 b106 (o107+sx103.1.toNat*1) [strV x105]:=p_b106
  refine oi 18 36 9 1 p0.length c2 .i64 sx103.1 eab106 i0x105 i1x105 (o1 19 9 (strV x105) (p_b106.at.one (o:=0) rfl) (op 7 (iv sx103.1) (op 8 (strV x105) (otx (op 20 (pt b20 0) (op 21 (strV x105) ?_))))))
  obtain ⟨x109,hx109,hr⟩:=bind_some hr
  refine ocl 22 (zhR (p0:=(sx103.2.1,((([],[]),([],sx103.2.2.1)),((sx103.2.2.2.1,sx103.2.2.2.2.1),(sx103.2.2.2.2.2.1,((sx103.2.2.2.2.2.2.1,sx103.2.2.2.2.2.2.2.1),sx103.2.2.2.2.2.2.2.2)))))) B_b20 (Sl.nil _ _) (Sl.nil _ _) (Sl.nil _ _) hb27 f29 (show ((κ.H.size,13003):Tag).1<_ from B_b20.tlt) f33 (show ((κ.H.size,13004):Tag).1<_ from B_b20.tlt) hb37 f41 f45 f47 (show ((κ.H.size,13005):Tag).1<_ from B_b20.tlt) hb108 (zm (N:=κ.H.size) (M:=κ.H.size) (i:=13002) (j:=13003) kr) (zm (N:=κ.H.size) (M:=κ.H.size) (i:=13002) (j:=13004) kr) (zm (N:=κ.H.size) (M:=κ.H.size) (i:=13002) (j:=13005) kr) (zm (N:=κ.H.size) (M:=κ.H.size) (i:=13003) (j:=13004) kr) (zm (N:=κ.H.size) (M:=κ.H.size) (i:=13003) (j:=13005) kr) (zm (N:=κ.H.size) (M:=κ.H.size) (i:=13004) (j:=13005) kr) (G0.step hs) hx109) ?_
  rintro _ κ128 ⟨s129,a112,c113,a115,c116,a119,c120,a122,c123,a125,c126,rfl,hb110,NB_b20,hb111,f114,ow_f114,f117,ow_f117,hb118,f121,f124,f127,ow_f127⟩
  clear ow_f114
  clear ow_f117
  clear ow_f127
  replace hs:=hs.trM (zeZ (zeZ (zeZ (zo7 B_b20.ge) (znA (f29.own (Nat.le_refl _)))) (znA (f33.own (Nat.le_refl _)))) (znA (f47.own (Nat.le_refl _)))) s129
  replace f41:=f41.step s129
  replace f45:=f45.step s129
  replace B_b17:=B_b17.step s129 (zq6 (zq6 (zq6 (nm1 (B_b17.ne B_b20 (zm (N:=κ.H.size) (M:=κ.H.size) (i:=13001) (j:=13002) kr))) (f29.bn B_b17 (zm (N:=κ.H.size) (M:=κ.H.size) (i:=13001) (j:=13003) kr))) (f33.bn B_b17 (zm (N:=κ.H.size) (M:=κ.H.size) (i:=13001) (j:=13004) kr))) (f47.bn B_b17 (zm (N:=κ.H.size) (M:=κ.H.size) (i:=13001) (j:=13005) kr)))
  replace B_b20:=NB_b20
  refine op 9 (iv x109.1) (otx (op 23 (iv x109.1) (op 24 (.bool (!decide (x109.1=0))) (ot ?_))))
  refine cc (!decide (x109.1=0)) hr ?_ ?_
  ·intro hc hr
   refine csr (op 25 (.agg #[sl none 0 0,sl none 0 0,sl none 0 0,iv 0]) (op 26 (iv p1) (op 27 (iv sx103.1) (op 28 (iv (w64 (p1+sx103.1))) (op 29 (iv (w64 ((w64 (p1+sx103.1))+1))) (op 30 (iv x109.1) (op 31 (.agg #[iv (w64 ((w64 (p1+sx103.1))+1)),iv x109.1]) (zv (d:=32) (T:=75) (κ.H.size,13006) hs.1 (.agg #[iv (w64 ((w64 (p1+sx103.1))+1)),iv x109.1]) [iv (w64 ((w64 (p1+sx103.1))+1)),iv x109.1] kr kr rfl fun b130 κ131 s132 B_b130=>?_))))))))
   replace hs:=hs.tr0 s132
   replace B_b17:=B_b17.step0 s132
   refine zpQ B_b130 fun κ133 s134 NP=>?_
   replace hs:=hs.trB B_b130.ge s134
   replace B_b17:=B_b17.step s134 (nm1 (B_b17.ne B_b130 (zm (N:=κ.H.size) (M:=κ.H.size) (i:=13001) (j:=13006) kr)))
   obtain ⟨v135,ev135,f136⟩:∃ v,v=Value.iface 73 (pt b130 0)∧ErV κ133 v (Er.line (w64 ((w64 (p1+sx103.1))+1)) x109.1):=⟨_,rfl,ErV.mkline NP (zq _) hb110⟩
   refine oq 33 v135 (fun _=>by rw [ev135];kernel_rfl) (zn (b:=b17) (off:=0) (T:=30) (.agg #[sl none 0 0,sl none 0 0,sl none 0 0,iv 0]) [sl none 0 0,sl none 0 0,sl none 0 0,iv 0] [sl none 0 0,sl none 0 0,sl none 0 0,iv 0] kr kr B_b17 rfl kr kr kr rfl fun κ137 s138 _ NB_b17=>?_)
   replace hs:=hs.trB B_b17.ge s138
   replace f136:=f136.step s138
   replace B_b17:=NB_b17
   refine op 5 (v135) (ot (crt (zf (zb ?_))))
   have hx:=hdx103 _ (sj hr).symm
   subst hx
   replace hr:=hrx103
   refine zt (zf (zb ?_))
   obtain rfl:=sj hr
   refine rt [.cell 4 30,.tmp 5] [.agg #[sl none 0 0,sl none 0 0,sl none 0 0,iv 0],v135] ⟨⟨b17,0,[sl none 0 0,sl none 0 0,sl none 0 0,iv 0],rfl,rfl,kr,kr,(B_b17.at.part 0 4).2⟩,rfl,trivial⟩ ?_
   exact ⟨hs,_,_,_,_,_,_,_,rfl,SysO.nil,(show I64 0 by unfold I64;omega),f136⟩
  intro hc hr
  refine ck (zd (za (cr (op 34 (iv (w64 (sx103.1+1))) (op 15 (iv (w64 (sx103.1+1))) (oe ?_))))))
  exact ze (sj hr).symm ⟨_,_,_,_,_,_,_,_,_,_,⟨_,(eA 15 (eA 14 (eA 13 (eA 6 (eA 4 (eA 1 rfl))))))⟩,hs,(zq _),hb111,f114,f117,hb118,f121,f124,f127,B_b17,B_b20⟩
 intro hc hr
 refine cx 0 (zh ?_)
 have hx:=hdx103 _ (sj hr).symm
 subst hx
 replace hr:=hrx103
 refine zi ?_
 exact zr (eA 6 (eA 4 rfl)) (J1 sx103.2.1 sx103.2.2.1 sx103.2.2.2.1 sx103.2.2.2.2.1 sx103.2.2.2.2.2.1 sx103.2.2.2.2.2.2.1 sx103.2.2.2.2.2.2.2.1 sx103.2.2.2.2.2.2.2.2 _ _ _ _ _ _ _ _ _ _ _ _ hs hb27 f29 f33 hb37 f41 f45 f47 B_b17 B_b20 hr)
theorem zj8 {κ:K} {σ:Type} {y0:σ→BS→Option σ} {J0:σ→K→Prop} {F0 B0 l0:Nat} {s0:σ} {p1:BS} {pb1:Nat} {τ1:Tag} (Hs0:Stab F0 B0 J0) (Hy0:∀ {κ':K} {s s':σ} {q0_0:BS} (hb1:q0_0.length≤9223372036854775807),J0 s κ'→y0 s q0_0=some s'→Yl Tryz.prog l0 #[strV q0_0] κ' (fun κ''=>Step (tb F0 κ') κ' κ''∧J0 s' κ'')) (hJ0:J0 s0 κ) (hB0:B0≤κ.H.size) (hF0:Nat.beq 67 F0=false) (B_m1:Box τ1 κ pb1 [strV p1] 9) (nI_τ1:nI F0 τ1=true) (hB_τ1:B0≤pb1) (hb2:p1.length≤9223372036854775807) {r:BS×σ} (hr:zgh y0 s0 p1=some r) :
 Fn Tryz.prog 67 #[.func (.yield l0) #[] #[],pt pb1 0] κ (fun v κ'=>Step (tb F0 κ++[pb1]) κ κ'∧v=.tuple #[]∧Box τ1 κ' pb1 [strV r.1] 9∧r.1.length≤9223372036854775807∧J0 r.2 κ'):=by
 refine fnc 25 (tb F0 κ++[pb1]) Tryz.func67 Tryz.ntmps67 fun hs=>?_
 have lt_τ1:=B_m1.tlt
 refine cb 0 ?_
 refine zj 0 (fun Z=>∀ (y7:σ) (y8:BS) (E0:Env) (κ10:K) (hs:Step (tb F0 κ++[pb1]) κ κ10) (hb9:y8.length≤9223372036854775807) (hJ0:J0 y7 κ10) (B_m1:Box τ1 κ10 pb1 [strV y8] 9),zeJ y7 y8=some r→Z (E0) κ10) ?_ fun J1=>?_
 ·intro y7 y8 E0 κ10 hs hb9 hJ0 B_m1 hr
  refine zg ?_
  obtain rfl:=sj hr
  refine rn [] [] trivial ?_
  exact ⟨hs,rfl,B_m1,hb9,hJ0⟩
 obtain ⟨x11,hx11,hrx11⟩:=bind_some hr
 refine zo (F:=zU y0) (J:=fun (sx11:σ×BS) (E':Env) (κ':K)=>(∃ E0,E'=upd (upd (E0) 0 (.func (.yield l0) #[] #[])) 1 (pt pb1 0))∧Step (tb F0 κ++[pb1]) κ κ'∧sx11.2.length≤9223372036854775807∧J0 sx11.1 κ'∧Box τ1 κ' pb1 [strV sx11.2] 9) (s0:=(s0,p1)) (x:=x11) kr hx11 ⟨⟨_,(eA 1 (eA 0 rfl))⟩,hs,hb2,hJ0,B_m1⟩ ?_
 rintro sx11 _ κ12 ⟨⟨E0,rfl⟩,hs,hb6,hJ0,B_m1⟩ yyx11 hr hdx11
 refine cs (csr (o1 5 9 (strV sx11.2) (B_m1.at.one (o:=0) rfl) (op 6 (iv (sx11.2.length:Int)) (op 7 (bW ((sx11.2.length:Int)>0)) (ot ?_)))))
 refine cc (decide ((sx11.2.length:Int)>0)) hr ?_ ?_
 ·intro hc hr
  refine ckt (cb 1 (csr (op 3 (strV ([]:BS)) (ot ?_))))
  refine zl (fun Z=>∀ (y13:BS) (y15:BS) (E0:Env) (κ17:K) (hs:Step (tb F0 κ++[pb1]) κ κ17) (hb14:y13.length≤9223372036854775807) (hb16:y15.length≤9223372036854775807) (hJ0:J0 sx11.1 κ17) (B_m1:Box τ1 κ17 pb1 [strV y15] 9),zbC y0 sx11 y13 y15=some yyx11→cwp Tryz.prog 25 (sub (zC Tryz.f67) [1,1,0,1,0,0]) Z (upd (upd (upd (E0) 0 (.func (.yield l0) #[] #[])) 1 (pt pb1 0)) 3 (strV y13)) κ17) ?_ fun J2=>?_
  ·intro y13 y15 E0 κ17 hs hb14 hb16 hJ0 B_m1 hr
   refine csr (op 21 (.func (.yield l0) #[] #[]) (op 22 (strV y13) ?_))
   obtain ⟨x18,hx18,hr⟩:=bind_some hr
   refine oyl 23 (Hy0 (q0_0:=y13) hb14 hJ0 hx18) fun κ19 ⟨s20,NhJ⟩=>?_
   replace hs:=hs.trT (by intro b hb;simp [hb]) s20
   replace B_m1:=B_m1.step s20 (B_m1.ntb (zr9 nI_τ1))
   replace hJ0:=NhJ
   refine op 24 (.bool false) (ot (cf (ck (zd ?_))))
   exact ze (sj hr).symm ⟨⟨_,(eA 1 (eA 0 rfl))⟩,hs,hb16,hJ0,B_m1⟩
  refine cs (csr (o1 8 9 (strV sx11.2) (B_m1.at.one (o:=0) rfl) ?_))
  obtain ⟨x21,hx21,hr⟩:=bind_some hr
  refine ocl 9 (zjn hb6 (show (0:Int)≤10∧(10:Int)≤255 by omega) hx21) ?_
  rintro _ _ ⟨rfl,rfl,hb22⟩
  refine op 4 (iv x21) (otx (op 10 (iv x21) (op 11 (bW (x21≥0)) (ot ?_))))
  refine cc (decide (x21≥0)) hr ?_ ?_
  ·intro hc hr
   refine cd 9 (d1 12 9 (strV sx11.2) (B_m1.at.one (o:=0) rfl) (dp 13 (iv x21) (dp 14 (iv (w64 (x21+1))) ?_)))
   obtain ⟨x24,hx24,hr⟩:=bind_some hr
   refine dq 15 (strV x24) (fun _=>zdn (T:=9) (s:=sx11.2) (lo:=none) (hi:=(some (w64 (x21+1)))) kr kr hx24) (d1 16 9 (strV sx11.2) (B_m1.at.one (o:=0) rfl) (dp 17 (iv x21) (dp 18 (iv (w64 (x21+1))) ?_)))
   obtain ⟨x25,hx25,hr⟩:=bind_some hr
   refine dq 19 (strV x25) (fun _=>zdn (T:=9) (s:=sx11.2) (lo:=(some (w64 (x21+1)))) (hi:=none) kr kr hx25) (dp 3 (strV x24) (de (zn (b:=pb1) (off:=0) (T:=9) (strV x25) [strV x25] [strV x25] kr kr B_m1 rfl kr kr kr rfl fun κ26 s27 _ NB_m1=>?_)))
   replace hs:=hs.trP (by simp) s27
   replace hJ0:=Hs0.jo hJ0 s27 B_m1.o nI_τ1 hB_τ1
   replace B_m1:=NB_m1
   refine ot ?_
   exact zk (eA 3 (eA 1 (eA 0 rfl))) (J2 x24 x25  _ _ hs (zd3 hx24 hb6) (zd3 hx25 hb6) hJ0 B_m1 hr)
  intro hc hr
  refine cr (o1 20 9 (strV sx11.2) (B_m1.at.one (o:=0) rfl) (op 3 (strV sx11.2) (zn (b:=pb1) (off:=0) (T:=9) (strV ([]:BS)) [strV ([]:BS)] [strV ([]:BS)] kr kr B_m1 rfl kr kr kr rfl fun κ28 s29 _ NB_m1=>?_)))
  replace hs:=hs.trP (by simp) s29
  replace hJ0:=Hs0.jo hJ0 s29 B_m1.o nI_τ1 hB_τ1
  replace B_m1:=NB_m1
  refine ot ?_
  exact zk (eA 3 (eA 1 (eA 0 rfl))) (J2 sx11.2 ([]:BS)  _ _ hs hb6 (by simp) hJ0 B_m1 hr)
 intro hc hr
 refine cx 0 (zh ?_)
 have hx:=hdx11 _ (sj hr).symm
 subst hx
 replace hr:=hrx11
 refine zi ?_
 exact zr rfl (J1 sx11.1 sx11.2  _ _ hs hb6 hJ0 B_m1 hr)
theorem zlC {κ:K} {p0:BS} (hb1:p0.length≤9223372036854775807) {r:BS} (hr:zh5 p0=some r) :
 Fn Tryz.prog 34 #[strV p0] κ (fun v κ'=>Step [] κ κ'∧∃ (b2:Nat) (N3:Nat),v=.func (.func 67) #[] #[pt b2 0]∧κ.H.size≤N3∧Box (N3,34001) κ' b2 [strV r] 9∧r.length≤9223372036854775807):=by
 refine fnc 4 [] Tryz.func34 Tryz.ntmps34 fun hs=>csr (zv (d:=1) (T:=9) (κ.H.size,34001) hs.1 (strV p0) [strV p0] kr kr rfl fun b5 κ6 s7 B_b5=>?_)
 replace hs:=hs.tr0 s7
 refine op 2 (.nilFunc) (otx (op 3 (.func (.func 67) #[] #[pt b5 0]) (op 2 (.func (.func 67) #[] #[pt b5 0]) (ot (crt ?_)))))
 obtain rfl:=sj hr
 refine rt [.tmp 2] [.func (.func 67) #[] #[pt b5 0]] ⟨rfl,trivial⟩ ?_
 exact ⟨hs,_,_,rfl,(Nat.le_refl _),B_b5,hb1⟩
theorem zfD {κ:K} {p0:BS} {p1:BS} (hb1:p0.length≤9223372036854775807) (hb2:p1.length≤9223372036854775807) {r:Bool} (hr:zao p0 p1=some r) :
 Fn Tryz.prog 105 #[strV p0,strV p1] κ (fun v κ'=>κ=κ'∧v=.bool r):=by
 refine fnc 21 [] Tryz.func105 Tryz.ntmps105 fun hs=>csr (op 4 (.bool false) (otx (op 5 (strV p0) (op 6 (iv (p0.length:Int)) (op 7 (strV p1) (op 8 (iv (p1.length:Int)) (op 9 (bW ((p0.length:Int)≥(p1.length:Int))) ?_)))))))
 refine osp 10 (decide ((p0.length:Int)≥(p1.length:Int))) hr ?_ ?_
 ·intro hg hr
  refine os 11 (os 12 (os 13 (os 14 (os 15 (os 16 (os 17 (os 18 (os 19 (op 20 (.bool false) ?_)))))))))
  refine op 4 (.bool false) (ot (crt ?_))
  obtain rfl:=sj hr
  refine rt [.tmp 4] [.bool false] ⟨rfl,trivial⟩ ?_
  exact ⟨rfl,rfl⟩
 intro hg hr
 refine op 11 (strV p0) (op 12 (strV p0) (op 13 (iv (p0.length:Int)) (op 14 (strV p1) (op 15 (iv (p1.length:Int)) (op 16 (iv (w64 ((p0.length:Int) - (p1.length:Int)))) ?_)))))
 obtain ⟨x3,hx3,hr⟩:=bind_some hr
 refine oq 17 (strV x3) (fun _=>zdn (T:=9) (s:=p0) (lo:=(some (w64 ((p0.length:Int) - (p1.length:Int))))) (hi:=none) kr kr hx3) (op 18 (strV p1) (oq 19 (bW (x3=p1)) (fun _=>zci kr) (op 20 (bW (x3=p1)) (op 4 (bW (x3=p1)) (ot (crt ?_))))))
 obtain rfl:=sj hr
 refine rt [.tmp 4] [bW (x3=p1)] ⟨rfl,trivial⟩ ?_
 exact ⟨rfl,rfl⟩
theorem zfp {κ:K} {p0:BS} {p1:BS} (hb1:p0.length≤9223372036854775807) (hb2:p1.length≤9223372036854775807) {r:BS} (hr:zah p0 p1=some r) :
 Fn Tryz.prog 69 #[strV p0,strV p1] κ (fun v κ'=>κ=κ'∧v=strV r∧r.length≤9223372036854775807):=by
 refine fnc 16 [] Tryz.func69 Tryz.ntmps69 fun hs=>csr (op 4 (strV ([]:BS)) (ot (cs (csr (op 5 (strV p0) (op 6 (strV p1) ?_))))))
 obtain ⟨x4,hx4,hr⟩:=bind_some hr
 refine ocl 7 (zfD hb1 hb2 hx4) ?_
 rintro _ _ ⟨rfl,rfl⟩
 refine ot ?_
 refine cc (x4) hr ?_ ?_
 ·intro hc hr
  refine csr (op 8 (strV p0) (op 9 (strV p0) (op 10 (iv (p0.length:Int)) (op 11 (strV p1) (op 12 (iv (p1.length:Int)) (op 13 (iv (w64 ((p0.length:Int) - (p1.length:Int)))) ?_))))))
  obtain ⟨x6,hx6,hr⟩:=bind_some hr
  refine oq 14 (strV x6) (fun _=>zdn (T:=9) (s:=p0) (lo:=none) (hi:=(some (w64 ((p0.length:Int) - (p1.length:Int))))) kr kr hx6) (op 4 (strV x6) (ot (crt (zb ?_))))
  obtain rfl:=sj hr
  refine rt [.tmp 4] [strV x6] ⟨rfl,trivial⟩ ?_
  exact ⟨rfl,rfl,(zd3 hx6 hb1)⟩
 intro hc hr
 refine ckt (csr (op 15 (strV p0) (op 4 (strV p0) (ot (crt ?_)))))
 obtain rfl:=sj hr
 refine rt [.tmp 4] [strV p0] ⟨rfl,trivial⟩ ?_
 exact ⟨rfl,rfl,hb1⟩
theorem zjc {κ:K} {p0:BS} {p1:BS} (hb1:p0.length≤9223372036854775807) (hb2:p1.length≤9223372036854775807) {r:BS} (hr:zaB p0 p1=some r) :
 Fn Tryz.prog 35 #[strV p0,strV p1] κ (fun v κ'=>κ=κ'∧v=strV r∧r.length≤9223372036854775807):=by
 refine fnc 8 [] Tryz.func35 Tryz.ntmps35 fun hs=>csr (op 4 (strV ([]:BS)) (otx (op 5 (strV p0) (op 6 (strV p1) ?_))))
 obtain ⟨x4,hx4,hr⟩:=bind_some hr
 refine ocl 7 (zfp hb1 hb2 hx4) ?_
 rintro _ _ ⟨rfl,rfl,hb5⟩
 refine op 4 (strV x4) (ot (crt ?_))
 obtain rfl:=sj hr
 refine rt [.tmp 4] [strV x4] ⟨rfl,trivial⟩ ?_
 exact ⟨rfl,rfl,hb5⟩
theorem zkS {κ:K} {p0:BS} (hb1:p0.length≤9223372036854775807) {r:LW} (hr:zff p0=some r) :
 Fn Tryz.prog 14 #[strV p0] κ (fun v κ'=>Step [] κ κ'∧∃ (a2:OA) (c3:Nat),v=sl a2 r.length c3∧Sl tStr κ' a2 c3 r):=by
 refine zug 14 [] Tryz.func14 Tryz.ntmps14 fun hs=>csM (cr (op 2 (sl none 0 0) (oe (tMn (csM (cr (zz (d:=3) (T:=36) (κ.H.size,14001) hs.1 [sl none 0 0] kr kr kr fun b5 κ6 s7 B_b5=>?_)))))))
 replace hs:=hs.tr0 s7
 refine oe (tMn (csB (cr (op 5 (strV p0) ?_))))
 obtain ⟨x8,hx8,hr⟩:=bind_some hr
 refine ocl 6 (zlC hb1 hx8) ?_
 rintro _ κ12 ⟨s13,b9,N10,rfl,go_N10,B_b9,hb11⟩
 replace go_N10:=Nat.le_trans hs.1 go_N10
 replace hs:=hs.tr0 s13
 replace B_b5:=B_b5.step0 s13
 refine oe (tBn ?_)
 obtain ⟨x18,hx18,hr⟩:=bind_some hr
 have hl0:=hs.1
 refine zqF (id:=0) (g:=.tmp 6) (ps:=[7]) (gf:=67) (lb:=#[pt b9 0]) 14 κ.H.size (fun (sx18:LW) (κ':K)=>∃ (a16:OA) (c17:Nat),Step [] κ κ'∧Gr tStr true (κ.H.size,14003) κ' 9 a16 c17 sx18∧Box (κ.H.size,14001) κ' b5 [sl a16 sx18.length c17] 36) (fun κ' (q:BS)=>q.length≤9223372036854775807) (fun κ' (q:BS) vs=>vs=[strV q]) (zab) [] x18.2 hs.1 ?_ ⟨_,_,hs,Gr.nil,B_b5⟩ ?_ ?_ ?_
 ·intro s κa κb M hj st hM
  obtain ⟨a16,c17,hs,f15,B_b5⟩:=hj
  exact ⟨_,_,hs.trZ st hM,f15.stepZ st hM kr,B_b5.stepZ st hM kr⟩
 ·intro l N ob1 ob2 κ19 sx18 s' q vs hN Rl hj hok henc hr
  obtain ⟨a16,c17,hs,f15,B_b5⟩:=hj
  have hb20:=hok
  subst henc
  refine ⟨rfl,fun inst hds=>?_⟩
  have go_N:κ.H.size≤N:=Nat.le_trans hl0 hN
  have hy:Step (tb 14 κ19) κ19 κ19:=Step.refl _ _
  refine zk (eA 7 (v:=strV q) (eA 3 (v:=pt b5 0) rfl)) (cr (op 4 (strV q) (oe (rfb Rl fun κ21 s22 NRl=>?_))))
  replace hy:=hy.trY (Rl.o.tb1 kr) s22
  replace hs:=hs.trB (Nat.le_trans go_N Rl.ge) s22
  replace f15:=f15.step s22 (f15.nbo Rl.o (zm (N:=κ.H.size) (M:=N) (i:=14003) (j:=999) kr))
  replace B_b5:=B_b5.step s22 (nm1 (B_b5.o.ne Rl.o (zm (N:=κ.H.size) (M:=N) (i:=14001) (j:=999) kr)))
  replace Rl:=NRl
  refine cb 1 (cx_ 4 [0,1,2,3] [2,3] 4 [] (x1 8 36 (sl a16 sx18.length c17) B_b5.at 0 rfl (xp 9 (strV q) ?_)))
  obtain ⟨x23,hx23,hr⟩:=bind_some hr
  refine xcl 10 (zjc hb20 (by simp) hx23) ?_
  rintro _ _ ⟨rfl,rfl,hb24⟩
  refine ⟨Step.refl _ _,?_⟩
  refine zem (d:=11) (T:=36) (e:=9) (t:=tStr) (pub:=true) (τ:=(κ.H.size,14002)) (len:=1) (l:=[x23]) (parts:=#[(0,strV x23)]) (cs:=[strV x23]) kr kr kr kr hs.1 rfl ⟨_,_,rfl,⟨rfl,hb24⟩,rfl⟩ kr fun a28 κ26 s27 f29=>?_
  replace hy:=hy.tr0 s27
  replace hs:=hs.tr0 s27
  replace f15:=f15.step0 s27
  replace B_b5:=B_b5.step0 s27
  replace Rl:=Rl.step0 s27
  refine xe ?_
  obtain ⟨x31,hx31,hr⟩:=bind_some hr
  have f15q:=f15.sl
  refine zM (d:=12) (T:=36) (e:=9) (t:=tStr) (pub:=true) (τ:=(κ.H.size,14003)) (bytes:=16) (a:=a16) (cp:=c17) (l:=sx18) (a2:=a28) (c2:=1) (l2:=[x23]) kr kr f15 f29.sl hs.1 kr hx31 fun a34 c35 κ32 s33 f36 hw=>?_
  clear hw
  replace hy:=hy.trY (f15.tb1 kr) s33
  replace hs:=hs.trG (f15.own (Nat.le_refl _)) s33
  replace f15q:=f15q.step s33
  replace B_b5:=B_b5.step s33 (f15.bn B_b5 (zm (N:=κ.H.size) (M:=κ.H.size) (i:=14001) (j:=14003) kr))
  replace Rl:=Rl.step s33 (f15.bno Rl.o (zm (N:=N) (M:=κ.H.size) (i:=999) (j:=14003) kr))
  refine zn (b:=b5) (off:=0) (T:=36) (sl a34 x31.length c35) [sl a34 x31.length c35] [sl a34 x31.length c35] kr kr B_b5 rfl kr kr kr rfl fun κ37 s38 _ NB_b5=>?_
  replace hy:=hy.trY (B_b5.o.tb1 kr) s38
  replace hs:=hs.trB B_b5.ge s38
  replace f15q:=f15q.step s38
  replace f36:=f36.step s38 (f36.nb B_b5 (zm (N:=κ.H.size) (M:=κ.H.size) (i:=14003) (j:=14001) kr))
  replace Rl:=Rl.step s38 (nm1 (Rl.o.ne B_b5.o (zm (N:=N) (M:=κ.H.size) (i:=999) (j:=14001) kr)))
  replace B_b5:=NB_b5
  refine oe (zd ?_)
  obtain rfl:=sj hr
  exact rfe Rl hy ⟨_,_,hs,f36,B_b5⟩
 ·intro J' l κ1 s1 Hs Hy hJ
  exact (zj8 (σ:=LW) (F0:=14) (B0:=κ.H.size) (J0:=J') (l0:=l) (y0:=(fun s q0=>zab s q0)) (s0:=[]) (Hs0:=Hs) (Hy0 := @fun _ _ _ q0 w0 hj he=>Hy (a:=q0) hj w0 rfl he) (hJ0:=hJ) (hB0:=Nat.le_trans hl0 s1.1) (hF0:=kr) (B_m1:=B_b9.step0 s1) (nI_τ1:=zsa kr) (hB_τ1:=Nat.le_trans go_N10 B_b9.ge) (hb2:=hb11) hx18).mono fun _ _ h=>by obtain ⟨_,_,_,_,hj⟩:=h;exact hj
 intro N D κ39 hN Md hj inst hds
 obtain ⟨a16,c17,hs,f15,B_b5⟩:=hj
 have go_N:κ.H.size≤N:=Nat.le_trans hl0 hN
 refine zk (eA 3 (v:=pt b5 0) rfl) (csr (o1 13 36 (sl a16 x18.2.length c17) (B_b5.at.one (o:=0) rfl) (op 2 (sl a16 x18.2.length c17) (ot (crt (rtM Md fun κ40 s41 _=>?_))))))
 replace hs:=hs.trB (Nat.le_trans go_N Md.ge) s41
 replace f15:=f15.step s41 (f15.nbo Md.o (zm (N:=κ.H.size) (M:=N) (i:=14003) (j:=998) kr))
 obtain rfl:=sj hr
 refine rt [.tmp 2] [sl a16 x18.2.length c17] ⟨rfl,trivial⟩ ?_
 exact ⟨hs,_,_,rfl,f15.sl⟩
theorem zhG {κ:K} {p0:BS} (hb1:p0.length≤9223372036854775807) (G0:Glob κ) {r:(TS×(LP)×Int)×Int×Int} (hr:zfg p0=some r) :
 Fn Tryz.prog 5 #[strV p0] κ (fun v κ'=>Step [] κ κ'∧∃ (a2:OA) (c3:Nat) (a5:OA) (c6:Nat) (a8:OA) (c9:Nat),v=.tuple #[.agg #[sl a2 r.1.1.1.length c3,sl a5 r.1.1.2.length c6,sl a8 r.1.2.1.length c9,iv r.1.2.2],iv r.2.1,iv r.2.2]∧SysO κ' a2 c3 a5 c6 a8 c9 r.1∧I64 r.1.2.2∧I64 r.2.1∧I64 r.2.2):=by
 refine fnc 30 [] Tryz.func5 Tryz.ntmps5 fun hs=>csr (zz (d:=2) (T:=30) (κ.H.size,5001) hs.1 [sl none 0 0,sl none 0 0,sl none 0 0,iv 0] kr kr kr fun b14 κ15 s16 B_b14=>?_)
 replace hs:=hs.tr0 s16
 refine op 3 (iv 0) (op 4 (iv 0) (ot (cs (csr (op 9 (strV p0) (op 10 (iv (p0.length:Int)) (op 11 (bW ((p0.length:Int)>20000)) (ot ?_))))))))
 refine cc (decide ((p0.length:Int)>20000)) hr ?_ ?_
 ·intro hc hr
  refine csr (op 12 (.agg #[sl none 0 0,sl none 0 0,sl none 0 0,iv 0]) (zn (b:=b14) (off:=0) (T:=30) (.agg #[sl none 0 0,sl none 0 0,sl none 0 0,iv 0]) [sl none 0 0,sl none 0 0,sl none 0 0,iv 0] [sl none 0 0,sl none 0 0,sl none 0 0,iv 0] kr kr B_b14 rfl kr kr kr rfl fun κ17 s18 _ NB_b14=>?_))
  replace hs:=hs.trB B_b14.ge s18
  replace B_b14:=NB_b14
  refine op 3 (iv 0) (op 4 (iv 2) (ot (crt (zb ?_))))
  obtain rfl:=sj hr
  refine rt [.cell 2 30,.tmp 3,.tmp 4] [.agg #[sl none 0 0,sl none 0 0,sl none 0 0,iv 0],iv 0,iv 2] ⟨⟨b14,0,[sl none 0 0,sl none 0 0,sl none 0 0,iv 0],rfl,rfl,kr,kr,(B_b14.at.part 0 4).2⟩,rfl,rfl,trivial⟩ ?_
  exact ⟨hs,_,_,_,_,_,_,rfl,SysO.nil,(show I64 0 by unfold I64;omega),(show I64 0 by unfold I64;omega),(show I64 2 by unfold I64;omega)⟩
 intro hc hr
 refine ckt (csr (op 14 (strV p0) ?_))
 obtain ⟨x19,hx19,hr⟩:=bind_some hr
 refine ocl 15 (zkS hb1 hx19) ?_
 rintro _ κ23 ⟨s24,a20,c21,rfl,f22⟩
 replace hs:=hs.tr0 s24
 replace B_b14:=B_b14.step0 s24
 obtain ⟨x25,hx25,hr⟩:=bind_some hr
 refine ocl 16 (ziB f22 (show I64 0 by unfold I64;omega) (G0.step hs) hx25) ?_
 rintro _ κ38 ⟨s39,a26,c27,a29,c30,a32,c33,v36,rfl,f28,hb35,f37⟩
 replace hs:=hs.tr0 s39
 replace B_b14:=B_b14.step0 s39
 refine op 13 (.tuple #[.agg #[sl a26 x25.1.1.1.length c27,sl a29 x25.1.1.2.length c30,sl a32 x25.1.2.1.length c33,iv x25.1.2.2],v36]) (op 17 (.agg #[sl a26 x25.1.1.1.length c27,sl a29 x25.1.1.2.length c30,sl a32 x25.1.2.1.length c33,iv x25.1.2.2]) (op 18 (v36) (zz (d:=5) (T:=30) (κ.H.size,5002) hs.1 [sl none 0 0,sl none 0 0,sl none 0 0,iv 0] kr kr kr fun b40 κ41 s42 B_b40=>?_)))
 replace hs:=hs.tr0 s42
 replace f28:=f28.step s42
 replace f37:=f37.step s42
 replace B_b14:=B_b14.step0 s42
 refine zn (b:=b40) (off:=0) (T:=30) (.agg #[sl a26 x25.1.1.1.length c27,sl a29 x25.1.1.2.length c30,sl a32 x25.1.2.1.length c33,iv x25.1.2.2]) [sl a26 x25.1.1.1.length c27,sl a29 x25.1.1.2.length c30,sl a32 x25.1.2.1.length c33,iv x25.1.2.2] [sl a26 x25.1.1.1.length c27,sl a29 x25.1.1.2.length c30,sl a32 x25.1.2.1.length c33,iv x25.1.2.2] kr kr B_b40 rfl kr kr kr rfl fun κ43 s44 _ NB_b40=>?_
 replace hs:=hs.trB B_b40.ge s44
 replace f28:=f28.step s44
 replace f37:=f37.step s44
 replace B_b14:=B_b14.step s44 (nm1 (B_b14.ne B_b40 (zm (N:=κ.H.size) (M:=κ.H.size) (i:=5001) (j:=5002) kr)))
 replace B_b40:=NB_b40
 refine op 6 (v36) (ot (cs (csr (op 20 (v36) ?_))))
 obtain ⟨x45,hx45,hr⟩:=bind_some hr
 refine ocl 21 (znc f37 (show I64 1 by unfold I64;omega) (G0.step hs) hx45) ?_
 rintro _ κ48 ⟨s49,rfl,hb46,hb47⟩
 replace hs:=hs.tr0 s49
 replace f28:=f28.step s49
 replace B_b14:=B_b14.step0 s49
 replace B_b40:=B_b40.step0 s49
 refine op 19 (.tuple #[iv x45.1,iv x45.2]) (op 22 (iv x45.1) (op 23 (iv x45.2) (op 7 (iv x45.1) (op 8 (iv x45.2) (otx (op 24 (iv x45.2) (op 25 (.bool (!decide (x45.2=0))) (ot ?_))))))))
 refine cc (!decide (x45.2=0)) hr ?_ ?_
 ·intro hc hr
  refine csr (op 26 (.agg #[sl none 0 0,sl none 0 0,sl none 0 0,iv 0]) (op 27 (iv x45.1) (op 28 (iv x45.2) (zn (b:=b14) (off:=0) (T:=30) (.agg #[sl none 0 0,sl none 0 0,sl none 0 0,iv 0]) [sl none 0 0,sl none 0 0,sl none 0 0,iv 0] [sl none 0 0,sl none 0 0,sl none 0 0,iv 0] kr kr B_b14 rfl kr kr kr rfl fun κ50 s51 _ NB_b14=>?_))))
  replace hs:=hs.trB B_b14.ge s51
  replace B_b14:=NB_b14
  refine op 3 (iv x45.1) (op 4 (iv x45.2) (ot (crt (zb ?_))))
  obtain rfl:=sj hr
  refine rt [.cell 2 30,.tmp 3,.tmp 4] [.agg #[sl none 0 0,sl none 0 0,sl none 0 0,iv 0],iv x45.1,iv x45.2] ⟨⟨b14,0,[sl none 0 0,sl none 0 0,sl none 0 0,iv 0],rfl,rfl,kr,kr,(B_b14.at.part 0 4).2⟩,rfl,rfl,trivial⟩ ?_
  exact ⟨hs,_,_,_,_,_,_,rfl,SysO.nil,(show I64 0 by unfold I64;omega),hb46,hb47⟩
 intro hc hr
 refine ckt (csr (oN 29 30 [sl a26 x25.1.1.1.length c27,sl a29 x25.1.1.2.length c30,sl a32 x25.1.2.1.length c33,iv x25.1.2.2] (B_b40.at.part 0 4).2 (zn (b:=b14) (off:=0) (T:=30) (.agg #[sl a26 x25.1.1.1.length c27,sl a29 x25.1.1.2.length c30,sl a32 x25.1.2.1.length c33,iv x25.1.2.2]) [sl a26 x25.1.1.1.length c27,sl a29 x25.1.1.2.length c30,sl a32 x25.1.2.1.length c33,iv x25.1.2.2] [sl a26 x25.1.1.1.length c27,sl a29 x25.1.1.2.length c30,sl a32 x25.1.2.1.length c33,iv x25.1.2.2] kr kr B_b14 rfl kr kr kr rfl fun κ52 s53 _ NB_b14=>?_)))
 replace hs:=hs.trB B_b14.ge s53
 replace f28:=f28.step s53
 replace B_b14:=NB_b14
 refine op 3 (iv 0) (op 4 (iv 0) (ot (crt ?_)))
 obtain rfl:=sj hr
 refine rt [.cell 2 30,.tmp 3,.tmp 4] [.agg #[sl a26 x25.1.1.1.length c27,sl a29 x25.1.1.2.length c30,sl a32 x25.1.2.1.length c33,iv x25.1.2.2],iv 0,iv 0] ⟨⟨b14,0,[sl a26 x25.1.1.1.length c27,sl a29 x25.1.1.2.length c30,sl a32 x25.1.2.1.length c33,iv x25.1.2.2],rfl,rfl,kr,kr,(B_b14.at.part 0 4).2⟩,rfl,rfl,trivial⟩ ?_
 exact ⟨hs,_,_,_,_,_,_,rfl,f28,hb35,(show I64 0 by unfold I64;omega),(show I64 0 by unfold I64;omega)⟩
theorem zm7 {κ:K} {p0:BS×Int} {p1:BS×Int} (hb1:p0.1.length≤9223372036854775807) (hb2:I64 p0.2) (hb3:p1.1.length≤9223372036854775807) (hb4:I64 p1.2) {r:Bool} (hr:zjK p0 p1=some r) :
 Fn Tryz.prog 73 #[.agg #[strV p0.1,iv p0.2],.agg #[strV p1.1,iv p1.2]] κ (fun v κ'=>Step [] κ κ'∧v=.bool r):=by
 refine fnc 15 [] Tryz.func73 Tryz.ntmps73 fun hs=>csr (zv (d:=2) (T:=94) (κ.H.size,73001) hs.1 (.agg #[strV p0.1,iv p0.2]) [strV p0.1,iv p0.2] kr kr rfl fun b5 κ6 s7 B_b5=>?_)
 replace hs:=hs.tr0 s7
 refine zv (d:=3) (T:=94) (κ.H.size,73002) hs.1 (.agg #[strV p1.1,iv p1.2]) [strV p1.1,iv p1.2] kr kr rfl fun b8 κ9 s10 B_b8=>?_
 replace hs:=hs.tr0 s10
 replace B_b5:=B_b5.step0 s10
 refine op 4 (.bool false) (ot (cs (csr (op 5 (pt b5 0) (o1 6 9 (strV p0.1) (B_b5.at.one (o:=0) rfl) (op 7 (pt b8 0) (o1 8 9 (strV p1.1) (B_b8.at.one (o:=0) rfl) (oq 9 (.bool (!decide (p0.1=p1.1))) (fun _=>zch kr) (ot ?_)))))))))
 refine cc (!decide (p0.1=p1.1)) hr ?_ ?_
 ·intro hc hr
  refine csr (op 4 (.bool false) (ot (crt (zb ?_))))
  obtain rfl:=sj hr
  refine rt [.tmp 4] [.bool false] ⟨rfl,trivial⟩ ?_
  exact ⟨hs,rfl⟩
 intro hc hr
 refine ckt (cs (csr (op 10 (pt b5 1) (o1 11 2 (iv p0.2) (B_b5.at.one (o:=1) rfl) (op 12 (pt b8 1) (o1 13 2 (iv p1.2) (B_b8.at.one (o:=1) rfl) (op 14 (.bool (!decide (p0.2=p1.2))) (ot ?_))))))))
 refine cc (!decide (p0.2=p1.2)) hr ?_ ?_
 ·intro hc hr
  refine csr (op 4 (.bool false) (ot (crt (zb ?_))))
  obtain rfl:=sj hr
  refine rt [.tmp 4] [.bool false] ⟨rfl,trivial⟩ ?_
  exact ⟨hs,rfl⟩
 intro hc hr
 refine ckt (csr (op 4 (.bool true) (ot (crt ?_))))
 obtain rfl:=sj hr
 refine rt [.tmp 4] [.bool true] ⟨rfl,trivial⟩ ?_
 exact ⟨hs,rfl⟩
theorem zmv {κ:K} {p0:LG} {a1:OA} {c2:Nat} {p1:LG} {a4:OA} {c5:Nat} (f3:Sl tGlue κ a1 c2 p0) (f6:Sl tGlue κ a4 c5 p1) {r:Bool} (hr:zhp p0 p1=some r) :
 Fn Tryz.prog 38 #[sl a1 p0.length c2,sl a4 p1.length c5] κ (fun v κ'=>Step [] κ κ'∧v=.bool r):=by
 refine fnc 27 [] Tryz.func38 Tryz.ntmps38 fun hs=>csr (op 4 (.bool false) (ot (cs (csr (op 6 (sl a1 p0.length c2) (op 7 (iv (p0.length:Int)) (op 8 (sl a4 p1.length c5) (op 9 (iv (p1.length:Int)) ?_))))))))
 refine op 10 (.bool (!decide ((p0.length:Int)=(p1.length:Int)))) (ot ?_)
 refine cc (!decide ((p0.length:Int)=(p1.length:Int))) hr ?_ ?_
 ·intro hc hr
  refine csr (op 4 (.bool false) (ot (crt (zb ?_))))
  obtain rfl:=sj hr
  refine rt [.tmp 4] [.bool false] ⟨rfl,trivial⟩ ?_
  exact ⟨hs,rfl⟩
 intro hc hr
 refine ckt (cs (csr (op 5 (iv 0) (ot (cb 0 ?_)))))
 refine zj 0 (fun Z=>∀ (E0:Env) (κ9:K) (hs:Step [] κ κ9),zg7=some r→Z (E0) κ9) ?_ fun J1=>?_
 ·intro E0 κ9 hs hr
  refine zg (za (csr (op 4 (.bool true) (ot (crt ?_)))))
  obtain rfl:=sj hr
  refine rt [.tmp 4] [.bool true] ⟨rfl,trivial⟩ ?_
  exact ⟨hs,rfl⟩
 obtain ⟨x10,hx10,hrx10⟩:=bind_some hr
 refine zo (F:=zcl p0 p1) (J:=fun (sx10:Int) (E':Env) (κ':K)=>(∃ E0,E'=upd (upd (upd (E0) 0 (sl a1 p0.length c2)) 1 (sl a4 p1.length c5)) 5 (iv sx10))∧Step [] κ κ'∧I64 sx10) (s0:=0) (x:=x10) kr hx10 ⟨⟨_,(eA 5 (eA 1 (eA 0 rfl)))⟩,hs,(show I64 0 by unfold I64;omega)⟩ ?_
 rintro sx10 _ κ11 ⟨⟨E0,rfl⟩,hs,hb8⟩ yyx10 hr hdx10
 refine cs (csr (op 11 (iv sx10) (op 12 (sl a1 p0.length c2) (op 13 (iv (p0.length:Int)) (op 14 (bW (sx10<(p0.length:Int))) (ot ?_))))))
 refine cc (decide (sx10<(p0.length:Int))) hr ?_ ?_
 ·intro hc hr
  refine ckt (cs (cb 1 (cs (cd 8 (dp 17 (sl a1 p0.length c2) (dp 18 (iv sx10) ?_))))))
  obtain ⟨x12,hx12,hr⟩:=bind_some hr
  obtain ⟨b13,o14,eab13,i0x12,i1x12,csx12,p_b13,owx12⟩:=(f3.step hs).idx hx12
  obtain ⟨_,_,rfl,⟨rfl,hb15⟩,⟨rfl,hb16⟩⟩:=owx12
  replace p_b13:PubAt κ11 b13 (o14+sx10.toNat*2) [strV x12.1,iv x12.2]:=p_b13
  refine di 19 22 94 2 p0.length c2 .i64 sx10 eab13 i0x12 i1x12 (dN 20 94 [strV x12.1,iv x12.2] (p_b13.at.part 0 2).2 (dp 21 (sl a4 p1.length c5) (dp 22 (iv sx10) ?_)))
  obtain ⟨x17,hx17,hr⟩:=bind_some hr
  obtain ⟨b18,o19,eab18,i0x17,i1x17,csx17,p_b18,owx17⟩:=(f6.step hs).idx hx17
  obtain ⟨_,_,rfl,⟨rfl,hb20⟩,⟨rfl,hb21⟩⟩:=owx17
  replace p_b18:PubAt κ11 b18 (o19+sx10.toNat*2) [strV x17.1,iv x17.2]:=p_b18
  refine di 23 22 94 2 p1.length c5 .i64 sx10 eab18 i0x17 i1x17 (dN 24 94 [strV x17.1,iv x17.2] (p_b18.at.part 0 2).2 (de ?_))
  obtain ⟨x22,hx22,hr⟩:=bind_some hr
  refine ocl 25 (zm7 hb15 hb16 hb20 hb21 hx22) ?_
  rintro _ κ23 ⟨s24,rfl⟩
  replace hs:=hs.tr0 s24
  refine op 26 (.bool (!x22)) (ot ?_)
  refine cc (!x22) hr ?_ ?_
  ·intro hc hr
   refine csr (op 4 (.bool false) (ot (crt (zf (zb ?_)))))
   have hx:=hdx10 _ (sj hr).symm
   subst hx
   replace hr:=hrx10
   refine zt (zf (zb ?_))
   obtain rfl:=sj hr
   refine rt [.tmp 4] [.bool false] ⟨rfl,trivial⟩ ?_
   exact ⟨hs,rfl⟩
  intro hc hr
  refine ck (zd (za (cr (op 15 (iv sx10) (op 16 (iv (w64 (sx10+1))) (op 5 (iv (w64 (sx10+1))) (oe ?_)))))))
  exact ze (sj hr).symm ⟨⟨_,(eA 5 (eA 1 (eA 0 rfl)))⟩,hs,(zq _)⟩
 intro hc hr
 refine cx 0 (zh ?_)
 have hx:=hdx10 _ (sj hr).symm
 subst hx
 replace hr:=hrx10
 refine zi ?_
 exact zr rfl (J1   _ _ hs  hr)
theorem zlS {κ:K} {p0:LI} {a1:OA} {c2:Nat} {p1:LI} {a4:OA} {c5:Nat} (f3:Sl tI64 κ a1 c2 p0) (f6:Sl tI64 κ a4 c5 p1) {r:Bool} (hr:zgK p0 p1=some r) :
 Fn Tryz.prog 110 #[sl a1 p0.length c2,sl a4 p1.length c5] κ (fun v κ'=>κ=κ'∧v=.bool r):=by
 refine fnc 26 [] Tryz.func110 Tryz.ntmps110 fun hs=>csr (op 4 (.bool false) (ot (cs (csr (op 6 (sl a1 p0.length c2) (op 7 (iv (p0.length:Int)) (op 8 (sl a4 p1.length c5) (op 9 (iv (p1.length:Int)) ?_))))))))
 refine op 10 (.bool (!decide ((p0.length:Int)=(p1.length:Int)))) (ot ?_)
 refine cc (!decide ((p0.length:Int)=(p1.length:Int))) hr ?_ ?_
 ·intro hc hr
  refine csr (op 4 (.bool false) (ot (crt (zb ?_))))
  obtain rfl:=sj hr
  refine rt [.tmp 4] [.bool false] ⟨rfl,trivial⟩ ?_
  exact ⟨rfl,rfl⟩
 intro hc hr
 refine ckt (cs (csr (op 5 (iv 0) (ot (cb 0 ?_)))))
 refine zj 0 (fun Z=>∀ (E0:Env),zgu=some r→Z (E0) κ) ?_ fun J1=>?_
 ·intro E0 hr
  refine zg (za (csr (op 4 (.bool true) (ot (crt ?_)))))
  obtain rfl:=sj hr
  refine rt [.tmp 4] [.bool true] ⟨rfl,trivial⟩ ?_
  exact ⟨rfl,rfl⟩
 obtain ⟨x9,hx9,hrx9⟩:=bind_some hr
 refine zo (F:=zbX p0 p1) (J:=fun (sx9:Int) (E':Env) (κ':K)=>(∃ E0,E'=upd (upd (upd (E0) 0 (sl a1 p0.length c2)) 1 (sl a4 p1.length c5)) 5 (iv sx9))∧κ=κ'∧I64 sx9) (s0:=0) (x:=x9) kr hx9 ⟨⟨_,(eA 5 (eA 1 (eA 0 rfl)))⟩,rfl,(show I64 0 by unfold I64;omega)⟩ ?_
 rintro sx9 _ _ ⟨⟨E0,rfl⟩,rfl,hb8⟩ yyx9 hr hdx9
 refine cs (csr (op 11 (iv sx9) (op 12 (sl a1 p0.length c2) (op 13 (iv (p0.length:Int)) (op 14 (bW (sx9<(p0.length:Int))) (ot ?_))))))
 refine cc (decide (sx9<(p0.length:Int))) hr ?_ ?_
 ·intro hc hr
  refine ckt (cs (cb 1 (cs (cd 8 (dp 17 (sl a1 p0.length c2) (dp 18 (iv sx9) ?_))))))
  obtain ⟨x10,hx10,hr⟩:=bind_some hr
  obtain ⟨b11,o12,eab11,i0x10,i1x10,csx10,p_b11,owx10⟩:=f3.idx hx10
  obtain ⟨rfl,hb13⟩:=owx10
  replace p_b11:PubAt κ b11 (o12+sx9.toNat*1) [iv x10]:=p_b11
  refine di 19 95 2 1 p0.length c2 .i64 sx9 eab11 i0x10 i1x10 (d1 20 2 (iv x10) (p_b11.at.one (o:=0) rfl) (dp 21 (sl a4 p1.length c5) (dp 22 (iv sx9) ?_)))
  obtain ⟨x14,hx14,hr⟩:=bind_some hr
  obtain ⟨b15,o16,eab15,i0x14,i1x14,csx14,p_b15,owx14⟩:=f6.idx hx14
  obtain ⟨rfl,hb17⟩:=owx14
  replace p_b15:PubAt κ b15 (o16+sx9.toNat*1) [iv x14]:=p_b15
  refine di 23 95 2 1 p1.length c5 .i64 sx9 eab15 i0x14 i1x14 (d1 24 2 (iv x14) (p_b15.at.one (o:=0) rfl) (de (op 25 (.bool (!decide (x10=x14))) (ot ?_))))
  refine cc (!decide (x10=x14)) hr ?_ ?_
  ·intro hc hr
   refine csr (op 4 (.bool false) (ot (crt (zf (zb ?_)))))
   have hx:=hdx9 _ (sj hr).symm
   subst hx
   replace hr:=hrx9
   refine zt (zf (zb ?_))
   obtain rfl:=sj hr
   refine rt [.tmp 4] [.bool false] ⟨rfl,trivial⟩ ?_
   exact ⟨rfl,rfl⟩
  intro hc hr
  refine ck (zd (za (cr (op 15 (iv sx9) (op 16 (iv (w64 (sx9+1))) (op 5 (iv (w64 (sx9+1))) (oe ?_)))))))
  exact ze (sj hr).symm ⟨⟨_,(eA 5 (eA 1 (eA 0 rfl)))⟩,rfl,(zq _)⟩
 intro hc hr
 refine cx 0 (zh ?_)
 have hx:=hdx9 _ (sj hr).symm
 subst hx
 replace hr:=hrx9
 refine zi ?_
 exact zr rfl (J1   _  hr)
theorem zm6 {κ:K} {p0:BS×LI} {a2:OA} {c3:Nat} {p1:BS×LI} {a6:OA} {c7:Nat} (hb1:p0.1.length≤9223372036854775807) (f4:Sl tI64 κ a2 c3 p0.2) (hb5:p1.1.length≤9223372036854775807) (f8:Sl tI64 κ a6 c7 p1.2) {r:Bool} (hr:zjJ p0 p1=some r) :
 Fn Tryz.prog 74 #[.agg #[strV p0.1,sl a2 p0.2.length c3],.agg #[strV p1.1,sl a6 p1.2.length c7]] κ (fun v κ'=>Step [] κ κ'∧v=.bool r):=by
 refine fnc 16 [] Tryz.func74 Tryz.ntmps74 fun hs=>csr (zv (d:=2) (T:=97) (κ.H.size,74001) hs.1 (.agg #[strV p0.1,sl a2 p0.2.length c3]) [strV p0.1,sl a2 p0.2.length c3] kr kr rfl fun b9 κ10 s11 B_b9=>?_)
 replace hs:=hs.tr0 s11
 refine zv (d:=3) (T:=97) (κ.H.size,74002) hs.1 (.agg #[strV p1.1,sl a6 p1.2.length c7]) [strV p1.1,sl a6 p1.2.length c7] kr kr rfl fun b12 κ13 s14 B_b12=>?_
 replace hs:=hs.tr0 s14
 replace B_b9:=B_b9.step0 s14
 refine op 4 (.bool false) (ot (cs (csr (op 5 (pt b9 0) (o1 6 9 (strV p0.1) (B_b9.at.one (o:=0) rfl) (op 7 (pt b12 0) (o1 8 9 (strV p1.1) (B_b12.at.one (o:=0) rfl) (oq 9 (.bool (!decide (p0.1=p1.1))) (fun _=>zch kr) (ot ?_)))))))))
 refine cc (!decide (p0.1=p1.1)) hr ?_ ?_
 ·intro hc hr
  refine csr (op 4 (.bool false) (ot (crt (zb ?_))))
  obtain rfl:=sj hr
  refine rt [.tmp 4] [.bool false] ⟨rfl,trivial⟩ ?_
  exact ⟨hs,rfl⟩
 intro hc hr
 refine ckt (cs (csr (op 10 (pt b9 1) (o1 11 95 (sl a2 p0.2.length c3) (B_b9.at.one (o:=1) rfl) (op 12 (pt b12 1) (o1 13 95 (sl a6 p1.2.length c7) (B_b12.at.one (o:=1) rfl) ?_))))))
 obtain ⟨x15,hx15,hr⟩:=bind_some hr
 refine ocl 14 (zlS (f4.step hs) (f8.step hs) hx15) ?_
 rintro _ _ ⟨rfl,rfl⟩
 refine op 15 (.bool (!x15)) (ot ?_)
 refine cc (!x15) hr ?_ ?_
 ·intro hc hr
  refine csr (op 4 (.bool false) (ot (crt (zb ?_))))
  obtain rfl:=sj hr
  refine rt [.tmp 4] [.bool false] ⟨rfl,trivial⟩ ?_
  exact ⟨hs,rfl⟩
 intro hc hr
 refine ckt (csr (op 4 (.bool true) (ot (crt ?_))))
 obtain rfl:=sj hr
 refine rt [.tmp 4] [.bool true] ⟨rfl,trivial⟩ ?_
 exact ⟨hs,rfl⟩
theorem zmt {κ:K} {p0:LT} {a1:OA} {c2:Nat} {p1:LT} {a4:OA} {c5:Nat} (f3:Sl zQ κ a1 c2 p0) (f6:Sl zQ κ a4 c5 p1) {r:Bool} (hr:zho p0 p1=some r) :
 Fn Tryz.prog 39 #[sl a1 p0.length c2,sl a4 p1.length c5] κ (fun v κ'=>Step [] κ κ'∧v=.bool r):=by
 refine fnc 27 [] Tryz.func39 Tryz.ntmps39 fun hs=>csr (op 4 (.bool false) (ot (cs (csr (op 6 (sl a1 p0.length c2) (op 7 (iv (p0.length:Int)) (op 8 (sl a4 p1.length c5) (op 9 (iv (p1.length:Int)) ?_))))))))
 refine op 10 (.bool (!decide ((p0.length:Int)=(p1.length:Int)))) (ot ?_)
 refine cc (!decide ((p0.length:Int)=(p1.length:Int))) hr ?_ ?_
 ·intro hc hr
  refine csr (op 4 (.bool false) (ot (crt (zb ?_))))
  obtain rfl:=sj hr
  refine rt [.tmp 4] [.bool false] ⟨rfl,trivial⟩ ?_
  exact ⟨hs,rfl⟩
 intro hc hr
 refine ckt (cs (csr (op 5 (iv 0) (ot (cb 0 ?_)))))
 refine zj 0 (fun Z=>∀ (E0:Env) (κ9:K) (hs:Step [] κ κ9),zg6=some r→Z (E0) κ9) ?_ fun J1=>?_
 ·intro E0 κ9 hs hr
  refine zg (za (csr (op 4 (.bool true) (ot (crt ?_)))))
  obtain rfl:=sj hr
  refine rt [.tmp 4] [.bool true] ⟨rfl,trivial⟩ ?_
  exact ⟨hs,rfl⟩
 obtain ⟨x10,hx10,hrx10⟩:=bind_some hr
 refine zo (F:=zck p0 p1) (J:=fun (sx10:Int) (E':Env) (κ':K)=>(∃ E0,E'=upd (upd (upd (E0) 0 (sl a1 p0.length c2)) 1 (sl a4 p1.length c5)) 5 (iv sx10))∧Step [] κ κ'∧I64 sx10) (s0:=0) (x:=x10) kr hx10 ⟨⟨_,(eA 5 (eA 1 (eA 0 rfl)))⟩,hs,(show I64 0 by unfold I64;omega)⟩ ?_
 rintro sx10 _ κ11 ⟨⟨E0,rfl⟩,hs,hb8⟩ yyx10 hr hdx10
 refine cs (csr (op 11 (iv sx10) (op 12 (sl a1 p0.length c2) (op 13 (iv (p0.length:Int)) (op 14 (bW (sx10<(p0.length:Int))) (ot ?_))))))
 refine cc (decide (sx10<(p0.length:Int))) hr ?_ ?_
 ·intro hc hr
  refine ckt (cs (cb 1 (cs (cd 8 (dp 17 (sl a1 p0.length c2) (dp 18 (iv sx10) ?_))))))
  obtain ⟨x12,hx12,hr⟩:=bind_some hr
  obtain ⟨b13,o14,eab13,i0x12,i1x12,csx12,p_b13,owx12⟩:=(f3.step hs).idx hx12
  obtain ⟨_,_,rfl,⟨rfl,hb15⟩,⟨a16,c17,rfl,f18⟩⟩:=owx12
  replace p_b13:PubAt κ11 b13 (o14+sx10.toNat*2) [strV x12.1,sl a16 x12.2.length c17]:=p_b13
  refine di 19 23 97 2 p0.length c2 .i64 sx10 eab13 i0x12 i1x12 (dN 20 97 [strV x12.1,sl a16 x12.2.length c17] (p_b13.at.part 0 2).2 (dp 21 (sl a4 p1.length c5) (dp 22 (iv sx10) ?_)))
  obtain ⟨x19,hx19,hr⟩:=bind_some hr
  obtain ⟨b20,o21,eab20,i0x19,i1x19,csx19,p_b20,owx19⟩:=(f6.step hs).idx hx19
  obtain ⟨_,_,rfl,⟨rfl,hb22⟩,⟨a23,c24,rfl,f25⟩⟩:=owx19
  replace p_b20:PubAt κ11 b20 (o21+sx10.toNat*2) [strV x19.1,sl a23 x19.2.length c24]:=p_b20
  refine di 23 23 97 2 p1.length c5 .i64 sx10 eab20 i0x19 i1x19 (dN 24 97 [strV x19.1,sl a23 x19.2.length c24] (p_b20.at.part 0 2).2 (de ?_))
  obtain ⟨x26,hx26,hr⟩:=bind_some hr
  refine ocl 25 (zm6 hb15 f18 hb22 f25 hx26) ?_
  rintro _ κ27 ⟨s28,rfl⟩
  replace hs:=hs.tr0 s28
  refine op 26 (.bool (!x26)) (ot ?_)
  refine cc (!x26) hr ?_ ?_
  ·intro hc hr
   refine csr (op 4 (.bool false) (ot (crt (zf (zb ?_)))))
   have hx:=hdx10 _ (sj hr).symm
   subst hx
   replace hr:=hrx10
   refine zt (zf (zb ?_))
   obtain rfl:=sj hr
   refine rt [.tmp 4] [.bool false] ⟨rfl,trivial⟩ ?_
   exact ⟨hs,rfl⟩
  intro hc hr
  refine ck (zd (za (cr (op 15 (iv sx10) (op 16 (iv (w64 (sx10+1))) (op 5 (iv (w64 (sx10+1))) (oe ?_)))))))
  exact ze (sj hr).symm ⟨⟨_,(eA 5 (eA 1 (eA 0 rfl)))⟩,hs,(zq _)⟩
 intro hc hr
 refine cx 0 (zh ?_)
 have hx:=hdx10 _ (sj hr).symm
 subst hx
 replace hr:=hrx10
 refine zi ?_
 exact zr rfl (J1   _ _ hs  hr)
theorem zlo {κ:K} {p0:LG×LT} {a1:OA} {c2:Nat} {a4:OA} {c5:Nat} {p1:LG×LT} {a7:OA} {c8:Nat} {a10:OA} {c11:Nat} (f3:Sl tGlue κ a1 c2 p0.1) (f6:Sl zQ κ a4 c5 p0.2) (f9:Sl tGlue κ a7 c8 p1.1) (f12:Sl zQ κ a10 c11 p1.2) {r:Bool} (hr:zhC p0 p1=some r) :
 Fn Tryz.prog 16 #[.agg #[sl a1 p0.1.length c2,sl a4 p0.2.length c5],.agg #[sl a7 p1.1.length c8,sl a10 p1.2.length c11]] κ (fun v κ'=>Step [] κ κ'∧v=.bool r):=by
 refine fnc 17 [] Tryz.func16 Tryz.ntmps16 fun hs=>csr (zv (d:=2) (T:=25) (κ.H.size,16001) hs.1 (.agg #[sl a1 p0.1.length c2,sl a4 p0.2.length c5]) [sl a1 p0.1.length c2,sl a4 p0.2.length c5] kr kr rfl fun b13 κ14 s15 B_b13=>?_)
 replace hs:=hs.tr0 s15
 refine zv (d:=3) (T:=25) (κ.H.size,16002) hs.1 (.agg #[sl a7 p1.1.length c8,sl a10 p1.2.length c11]) [sl a7 p1.1.length c8,sl a10 p1.2.length c11] kr kr rfl fun b16 κ17 s18 B_b16=>?_
 replace hs:=hs.tr0 s18
 replace B_b13:=B_b13.step0 s18
 refine op 4 (.bool false) (ot (cs (csr (op 5 (pt b13 0) (o1 6 22 (sl a1 p0.1.length c2) (B_b13.at.one (o:=0) rfl) (op 7 (pt b16 0) (o1 8 22 (sl a7 p1.1.length c8) (B_b16.at.one (o:=0) rfl) ?_)))))))
 obtain ⟨x19,hx19,hr⟩:=bind_some hr
 refine ocl 9 (zmv (f3.step hs) (f9.step hs) hx19) ?_
 rintro _ κ20 ⟨s21,rfl⟩
 replace hs:=hs.tr0 s21
 replace B_b13:=B_b13.step0 s21
 replace B_b16:=B_b16.step0 s21
 refine op 10 (.bool (!x19)) (ot ?_)
 refine cc (!x19) hr ?_ ?_
 ·intro hc hr
  refine csr (op 4 (.bool false) (ot (crt (zb ?_))))
  obtain rfl:=sj hr
  refine rt [.tmp 4] [.bool false] ⟨rfl,trivial⟩ ?_
  exact ⟨hs,rfl⟩
 intro hc hr
 refine ckt (cs (csr (op 11 (pt b13 1) (o1 12 23 (sl a4 p0.2.length c5) (B_b13.at.one (o:=1) rfl) (op 13 (pt b16 1) (o1 14 23 (sl a10 p1.2.length c11) (B_b16.at.one (o:=1) rfl) ?_))))))
 obtain ⟨x22,hx22,hr⟩:=bind_some hr
 refine ocl 15 (zmt (f6.step hs) (f12.step hs) hx22) ?_
 rintro _ κ23 ⟨s24,rfl⟩
 replace hs:=hs.tr0 s24
 refine op 16 (.bool (!x22)) (ot ?_)
 refine cc (!x22) hr ?_ ?_
 ·intro hc hr
  refine csr (op 4 (.bool false) (ot (crt (zb ?_))))
  obtain rfl:=sj hr
  refine rt [.tmp 4] [.bool false] ⟨rfl,trivial⟩ ?_
  exact ⟨hs,rfl⟩
 intro hc hr
 refine ckt (csr (op 4 (.bool true) (ot (crt ?_))))
 obtain rfl:=sj hr
 refine rt [.tmp 4] [.bool true] ⟨rfl,trivial⟩ ?_
 exact ⟨hs,rfl⟩
theorem zmu {κ:K} {p0:Int×Int} {p1:Int×Int} (hb1:I64 p0.1) (hb2:I64 p0.2) (hb3:I64 p1.1) (hb4:I64 p1.2) {r:Bool} (hr:ziS p0 p1=some r) :
 Fn Tryz.prog 111 #[.agg #[iv p0.1,iv p0.2],.agg #[iv p1.1,iv p1.2]] κ (fun v κ'=>Step [] κ κ'∧v=.bool r):=by
 refine fnc 15 [] Tryz.func111 Tryz.ntmps111 fun hs=>csr (zv (d:=2) (T:=100) (κ.H.size,111001) hs.1 (.agg #[iv p0.1,iv p0.2]) [iv p0.1,iv p0.2] kr kr rfl fun b5 κ6 s7 B_b5=>?_)
 replace hs:=hs.tr0 s7
 refine zv (d:=3) (T:=100) (κ.H.size,111002) hs.1 (.agg #[iv p1.1,iv p1.2]) [iv p1.1,iv p1.2] kr kr rfl fun b8 κ9 s10 B_b8=>?_
 replace hs:=hs.tr0 s10
 replace B_b5:=B_b5.step0 s10
 refine op 4 (.bool false) (ot (cs (csr (op 5 (pt b5 0) (o1 6 2 (iv p0.1) (B_b5.at.one (o:=0) rfl) (op 7 (pt b8 0) (o1 8 2 (iv p1.1) (B_b8.at.one (o:=0) rfl) (op 9 (.bool (!decide (p0.1=p1.1))) (ot ?_)))))))))
 refine cc (!decide (p0.1=p1.1)) hr ?_ ?_
 ·intro hc hr
  refine csr (op 4 (.bool false) (ot (crt (zb ?_))))
  obtain rfl:=sj hr
  refine rt [.tmp 4] [.bool false] ⟨rfl,trivial⟩ ?_
  exact ⟨hs,rfl⟩
 intro hc hr
 refine ckt (cs (csr (op 10 (pt b5 1) (o1 11 2 (iv p0.2) (B_b5.at.one (o:=1) rfl) (op 12 (pt b8 1) (o1 13 2 (iv p1.2) (B_b8.at.one (o:=1) rfl) (op 14 (.bool (!decide (p0.2=p1.2))) (ot ?_))))))))
 refine cc (!decide (p0.2=p1.2)) hr ?_ ?_
 ·intro hc hr
  refine csr (op 4 (.bool false) (ot (crt (zb ?_))))
  obtain rfl:=sj hr
  refine rt [.tmp 4] [.bool false] ⟨rfl,trivial⟩ ?_
  exact ⟨hs,rfl⟩
 intro hc hr
 refine ckt (csr (op 4 (.bool true) (ot (crt ?_))))
 obtain rfl:=sj hr
 refine rt [.tmp 4] [.bool true] ⟨rfl,trivial⟩ ?_
 exact ⟨hs,rfl⟩
theorem zlR {κ:K} {p0:(Int×Int)×Int} {p1:(Int×Int)×Int} (hb1:I64 p0.1.1) (hb2:I64 p0.1.2) (hb3:I64 p0.2) (hb4:I64 p1.1.1) (hb5:I64 p1.1.2) (hb6:I64 p1.2) {r:Bool} (hr:zic p0 p1=some r) :
 Fn Tryz.prog 75 #[.agg #[iv p0.1.1,iv p0.1.2,iv p0.2],.agg #[iv p1.1.1,iv p1.1.2,iv p1.2]] κ (fun v κ'=>Step [] κ κ'∧v=.bool r):=by
 refine fnc 16 [] Tryz.func75 Tryz.ntmps75 fun hs=>csr (zv (d:=2) (T:=108) (κ.H.size,75001) hs.1 (.agg #[iv p0.1.1,iv p0.1.2,iv p0.2]) [iv p0.1.1,iv p0.1.2,iv p0.2] kr kr rfl fun b7 κ8 s9 B_b7=>?_)
 replace hs:=hs.tr0 s9
 refine zv (d:=3) (T:=108) (κ.H.size,75002) hs.1 (.agg #[iv p1.1.1,iv p1.1.2,iv p1.2]) [iv p1.1.1,iv p1.1.2,iv p1.2] kr kr rfl fun b10 κ11 s12 B_b10=>?_
 replace hs:=hs.tr0 s12
 replace B_b7:=B_b7.step0 s12
 refine op 4 (.bool false) (ot (cs (csr (op 5 (pt b7 0) (oN 6 100 [iv p0.1.1,iv p0.1.2] (B_b7.at.part 0 2).2 (op 7 (pt b10 0) (oN 8 100 [iv p1.1.1,iv p1.1.2] (B_b10.at.part 0 2).2 ?_)))))))
 obtain ⟨x13,hx13,hr⟩:=bind_some hr
 refine ocl 9 (zmu hb1 hb2 hb4 hb5 hx13) ?_
 rintro _ κ14 ⟨s15,rfl⟩
 replace hs:=hs.tr0 s15
 replace B_b7:=B_b7.step0 s15
 replace B_b10:=B_b10.step0 s15
 refine op 10 (.bool (!x13)) (ot ?_)
 refine cc (!x13) hr ?_ ?_
 ·intro hc hr
  refine csr (op 4 (.bool false) (ot (crt (zb ?_))))
  obtain rfl:=sj hr
  refine rt [.tmp 4] [.bool false] ⟨rfl,trivial⟩ ?_
  exact ⟨hs,rfl⟩
 intro hc hr
 refine ckt (cs (csr (op 11 (pt b7 2) (o1 12 2 (iv p0.2) (B_b7.at.one (o:=2) rfl) (op 13 (pt b10 2) (o1 14 2 (iv p1.2) (B_b10.at.one (o:=2) rfl) (op 15 (.bool (!decide (p0.2=p1.2))) (ot ?_))))))))
 refine cc (!decide (p0.2=p1.2)) hr ?_ ?_
 ·intro hc hr
  refine csr (op 4 (.bool false) (ot (crt (zb ?_))))
  obtain rfl:=sj hr
  refine rt [.tmp 4] [.bool false] ⟨rfl,trivial⟩ ?_
  exact ⟨hs,rfl⟩
 intro hc hr
 refine ckt (csr (op 4 (.bool true) (ot (crt ?_))))
 obtain rfl:=sj hr
 refine rt [.tmp 4] [.bool true] ⟨rfl,trivial⟩ ?_
 exact ⟨hs,rfl⟩
theorem zlp {κ:K} {p0:LP} {a1:OA} {c2:Nat} {p1:LP} {a4:OA} {c5:Nat} (f3:Sl tPlaced κ a1 c2 p0) (f6:Sl tPlaced κ a4 c5 p1) {r:Bool} (hr:zf5 p0 p1=some r) :
 Fn Tryz.prog 40 #[sl a1 p0.length c2,sl a4 p1.length c5] κ (fun v κ'=>Step [] κ κ'∧v=.bool r):=by
 refine fnc 27 [] Tryz.func40 Tryz.ntmps40 fun hs=>csr (op 4 (.bool false) (ot (cs (csr (op 6 (sl a1 p0.length c2) (op 7 (iv (p0.length:Int)) (op 8 (sl a4 p1.length c5) (op 9 (iv (p1.length:Int)) ?_))))))))
 refine op 10 (.bool (!decide ((p0.length:Int)=(p1.length:Int)))) (ot ?_)
 refine cc (!decide ((p0.length:Int)=(p1.length:Int))) hr ?_ ?_
 ·intro hc hr
  refine csr (op 4 (.bool false) (ot (crt (zb ?_))))
  obtain rfl:=sj hr
  refine rt [.tmp 4] [.bool false] ⟨rfl,trivial⟩ ?_
  exact ⟨hs,rfl⟩
 intro hc hr
 refine ckt (cs (csr (op 5 (iv 0) (ot (cb 0 ?_)))))
 refine zj 0 (fun Z=>∀ (E0:Env) (κ9:K) (hs:Step [] κ κ9),zf4=some r→Z (E0) κ9) ?_ fun J1=>?_
 ·intro E0 κ9 hs hr
  refine zg (za (csr (op 4 (.bool true) (ot (crt ?_)))))
  obtain rfl:=sj hr
  refine rt [.tmp 4] [.bool true] ⟨rfl,trivial⟩ ?_
  exact ⟨hs,rfl⟩
 obtain ⟨x10,hx10,hrx10⟩:=bind_some hr
 refine zo (F:=zbv p0 p1) (J:=fun (sx10:Int) (E':Env) (κ':K)=>(∃ E0,E'=upd (upd (upd (E0) 0 (sl a1 p0.length c2)) 1 (sl a4 p1.length c5)) 5 (iv sx10))∧Step [] κ κ'∧I64 sx10) (s0:=0) (x:=x10) kr hx10 ⟨⟨_,(eA 5 (eA 1 (eA 0 rfl)))⟩,hs,(show I64 0 by unfold I64;omega)⟩ ?_
 rintro sx10 _ κ11 ⟨⟨E0,rfl⟩,hs,hb8⟩ yyx10 hr hdx10
 refine cs (csr (op 11 (iv sx10) (op 12 (sl a1 p0.length c2) (op 13 (iv (p0.length:Int)) (op 14 (bW (sx10<(p0.length:Int))) (ot ?_))))))
 refine cc (decide (sx10<(p0.length:Int))) hr ?_ ?_
 ·intro hc hr
  refine ckt (cs (cb 1 (cs (cd 8 (dp 17 (sl a1 p0.length c2) (dp 18 (iv sx10) ?_))))))
  obtain ⟨x12,hx12,hr⟩:=bind_some hr
  obtain ⟨b13,o14,eab13,i0x12,i1x12,csx12,p_b13,owx12⟩:=(f3.step hs).idx hx12
  obtain ⟨_,_,rfl,⟨_,_,rfl,⟨rfl,hb15⟩,⟨rfl,hb16⟩⟩,⟨rfl,hb17⟩⟩:=owx12
  replace p_b13:PubAt κ11 b13 (o14+sx10.toNat*3) [iv x12.1.1,iv x12.1.2,iv x12.2]:=p_b13
  refine di 19 26 108 3 p0.length c2 .i64 sx10 eab13 i0x12 i1x12 (dN 20 108 [iv x12.1.1,iv x12.1.2,iv x12.2] (p_b13.at.part 0 3).2 (dp 21 (sl a4 p1.length c5) (dp 22 (iv sx10) ?_)))
  obtain ⟨x18,hx18,hr⟩:=bind_some hr
  obtain ⟨b19,o20,eab19,i0x18,i1x18,csx18,p_b19,owx18⟩:=(f6.step hs).idx hx18
  obtain ⟨_,_,rfl,⟨_,_,rfl,⟨rfl,hb21⟩,⟨rfl,hb22⟩⟩,⟨rfl,hb23⟩⟩:=owx18
  replace p_b19:PubAt κ11 b19 (o20+sx10.toNat*3) [iv x18.1.1,iv x18.1.2,iv x18.2]:=p_b19
  refine di 23 26 108 3 p1.length c5 .i64 sx10 eab19 i0x18 i1x18 (dN 24 108 [iv x18.1.1,iv x18.1.2,iv x18.2] (p_b19.at.part 0 3).2 (de ?_))
  obtain ⟨x24,hx24,hr⟩:=bind_some hr
  refine ocl 25 (zlR hb15 hb16 hb17 hb21 hb22 hb23 hx24) ?_
  rintro _ κ25 ⟨s26,rfl⟩
  replace hs:=hs.tr0 s26
  refine op 26 (.bool (!x24)) (ot ?_)
  refine cc (!x24) hr ?_ ?_
  ·intro hc hr
   refine csr (op 4 (.bool false) (ot (crt (zf (zb ?_)))))
   have hx:=hdx10 _ (sj hr).symm
   subst hx
   replace hr:=hrx10
   refine zt (zf (zb ?_))
   obtain rfl:=sj hr
   refine rt [.tmp 4] [.bool false] ⟨rfl,trivial⟩ ?_
   exact ⟨hs,rfl⟩
  intro hc hr
  refine ck (zd (za (cr (op 15 (iv sx10) (op 16 (iv (w64 (sx10+1))) (op 5 (iv (w64 (sx10+1))) (oe ?_)))))))
  exact ze (sj hr).symm ⟨⟨_,(eA 5 (eA 1 (eA 0 rfl)))⟩,hs,(zq _)⟩
 intro hc hr
 refine cx 0 (zh ?_)
 have hx:=hdx10 _ (sj hr).symm
 subst hx
 replace hr:=hrx10
 refine zi ?_
 exact zr rfl (J1   _ _ hs  hr)
theorem zkM {κ:K} {p0:LP} {a1:OA} {c2:Nat} {p1:LP} {a4:OA} {c5:Nat} (f3:Sl tPlaced κ a1 c2 p0) (f6:Sl tPlaced κ a4 c5 p1) {r:Bool} (hr:zg8 p0 p1=some r) :
 Fn Tryz.prog 17 #[.agg #[sl a1 p0.length c2],.agg #[sl a4 p1.length c5]] κ (fun v κ'=>Step [] κ κ'∧v=.bool r):=by
 refine fnc 11 [] Tryz.func17 Tryz.ntmps17 fun hs=>csr (zv (d:=2) (T:=28) (κ.H.size,17001) hs.1 (.agg #[sl a1 p0.length c2]) [sl a1 p0.length c2] kr kr rfl fun b7 κ8 s9 B_b7=>?_)
 replace hs:=hs.tr0 s9
 refine zv (d:=3) (T:=28) (κ.H.size,17002) hs.1 (.agg #[sl a4 p1.length c5]) [sl a4 p1.length c5] kr kr rfl fun b10 κ11 s12 B_b10=>?_
 replace hs:=hs.tr0 s12
 replace B_b7:=B_b7.step0 s12
 refine op 4 (.bool false) (ot (cs (csr (op 5 (pt b7 0) (o1 6 26 (sl a1 p0.length c2) (B_b7.at.one (o:=0) rfl) (op 7 (pt b10 0) (o1 8 26 (sl a4 p1.length c5) (B_b10.at.one (o:=0) rfl) ?_)))))))
 obtain ⟨x13,hx13,hr⟩:=bind_some hr
 refine ocl 9 (zlp (f3.step hs) (f6.step hs) hx13) ?_
 rintro _ κ14 ⟨s15,rfl⟩
 replace hs:=hs.tr0 s15
 refine op 10 (.bool (!x13)) (ot ?_)
 refine cc (!x13) hr ?_ ?_
 ·intro hc hr
  refine csr (op 4 (.bool false) (ot (crt (zb ?_))))
  obtain rfl:=sj hr
  refine rt [.tmp 4] [.bool false] ⟨rfl,trivial⟩ ?_
  exact ⟨hs,rfl⟩
 intro hc hr
 refine ckt (csr (op 4 (.bool true) (ot (crt ?_))))
 obtain rfl:=sj hr
 refine rt [.tmp 4] [.bool true] ⟨rfl,trivial⟩ ?_
 exact ⟨hs,rfl⟩
theorem ziz {κ:K} {p0:TS×(LP)×Int} {a1:OA} {c2:Nat} {a4:OA} {c5:Nat} {a7:OA} {c8:Nat} {p1:TS×(LP)×Int} {a11:OA} {c12:Nat} {a14:OA} {c15:Nat} {a17:OA} {c18:Nat} (f3:Sl tGlue κ a1 c2 p0.1.1) (f6:Sl zQ κ a4 c5 p0.1.2) (f9:Sl tPlaced κ a7 c8 p0.2.1) (hb10:I64 p0.2.2) (f13:Sl tGlue κ a11 c12 p1.1.1) (f16:Sl zQ κ a14 c15 p1.1.2) (f19:Sl tPlaced κ a17 c18 p1.2.1) (hb20:I64 p1.2.2) {r:Bool} (hr:zgJ p0 p1=some r) :
 Fn Tryz.prog 6 #[.agg #[sl a1 p0.1.1.length c2,sl a4 p0.1.2.length c5,sl a7 p0.2.1.length c8,iv p0.2.2],.agg #[sl a11 p1.1.1.length c12,sl a14 p1.1.2.length c15,sl a17 p1.2.1.length c18,iv p1.2.2]] κ (fun v κ'=>Step [] κ κ'∧v=.bool r):=by
 refine fnc 22 [] Tryz.func6 Tryz.ntmps6 fun hs=>csr (zv (d:=2) (T:=30) (κ.H.size,6001) hs.1 (.agg #[sl a1 p0.1.1.length c2,sl a4 p0.1.2.length c5,sl a7 p0.2.1.length c8,iv p0.2.2]) [sl a1 p0.1.1.length c2,sl a4 p0.1.2.length c5,sl a7 p0.2.1.length c8,iv p0.2.2] kr kr rfl fun b21 κ22 s23 B_b21=>?_)
 replace hs:=hs.tr0 s23
 refine zv (d:=3) (T:=30) (κ.H.size,6002) hs.1 (.agg #[sl a11 p1.1.1.length c12,sl a14 p1.1.2.length c15,sl a17 p1.2.1.length c18,iv p1.2.2]) [sl a11 p1.1.1.length c12,sl a14 p1.1.2.length c15,sl a17 p1.2.1.length c18,iv p1.2.2] kr kr rfl fun b24 κ25 s26 B_b24=>?_
 replace hs:=hs.tr0 s26
 replace B_b21:=B_b21.step0 s26
 refine op 4 (.bool false) (ot (cs (csr (op 5 (pt b21 0) (oN 6 25 [sl a1 p0.1.1.length c2,sl a4 p0.1.2.length c5] (B_b21.at.part 0 2).2 (op 7 (pt b24 0) (oN 8 25 [sl a11 p1.1.1.length c12,sl a14 p1.1.2.length c15] (B_b24.at.part 0 2).2 ?_)))))))
 obtain ⟨x27,hx27,hr⟩:=bind_some hr
 refine ocl 9 (zlo (f3.step hs) (f6.step hs) (f13.step hs) (f16.step hs) hx27) ?_
 rintro _ κ28 ⟨s29,rfl⟩
 replace hs:=hs.tr0 s29
 replace B_b21:=B_b21.step0 s29
 replace B_b24:=B_b24.step0 s29
 refine op 10 (.bool (!x27)) (ot ?_)
 refine cc (!x27) hr ?_ ?_
 ·intro hc hr
  refine csr (op 4 (.bool false) (ot (crt (zb ?_))))
  obtain rfl:=sj hr
  refine rt [.tmp 4] [.bool false] ⟨rfl,trivial⟩ ?_
  exact ⟨hs,rfl⟩
 intro hc hr
 refine ckt (cs (csr (op 11 (pt b21 2) (oN 12 28 [sl a7 p0.2.1.length c8] (B_b21.at.part 2 1).2 (op 13 (pt b24 2) (oN 14 28 [sl a17 p1.2.1.length c18] (B_b24.at.part 2 1).2 ?_))))))
 obtain ⟨x30,hx30,hr⟩:=bind_some hr
 refine ocl 15 (zkM (f9.step hs) (f19.step hs) hx30) ?_
 rintro _ κ31 ⟨s32,rfl⟩
 replace hs:=hs.tr0 s32
 replace B_b21:=B_b21.step0 s32
 replace B_b24:=B_b24.step0 s32
 refine op 16 (.bool (!x30)) (ot ?_)
 refine cc (!x30) hr ?_ ?_
 ·intro hc hr
  refine csr (op 4 (.bool false) (ot (crt (zb ?_))))
  obtain rfl:=sj hr
  refine rt [.tmp 4] [.bool false] ⟨rfl,trivial⟩ ?_
  exact ⟨hs,rfl⟩
 intro hc hr
 refine ckt (cs (csr (op 17 (pt b21 3) (o1 18 2 (iv p0.2.2) (B_b21.at.one (o:=3) rfl) (op 19 (pt b24 3) (o1 20 2 (iv p1.2.2) (B_b24.at.one (o:=3) rfl) (op 21 (.bool (!decide (p0.2.2=p1.2.2))) (ot ?_))))))))
 refine cc (!decide (p0.2.2=p1.2.2)) hr ?_ ?_
 ·intro hc hr
  refine csr (op 4 (.bool false) (ot (crt (zb ?_))))
  obtain rfl:=sj hr
  refine rt [.tmp 4] [.bool false] ⟨rfl,trivial⟩ ?_
  exact ⟨hs,rfl⟩
 intro hc hr
 refine ckt (csr (op 4 (.bool true) (ot (crt ?_))))
 obtain rfl:=sj hr
 refine rt [.tmp 4] [.bool true] ⟨rfl,trivial⟩ ?_
 exact ⟨hs,rfl⟩
theorem zez {κ:K} {p0:Int} (hb1:I64 p0) {r:BS} (hr:zbb p0=some r) :
 Fn Tryz.prog 76 #[iv p0] κ (fun v κ'=>Step [] κ κ'∧v=strV r∧r.length≤9223372036854775807):=by
 refine fnc 20 [] Tryz.func76 Tryz.ntmps76 fun hs=>csr (op 2 (strV ([]:BS)) (ot (cs (csr (op 4 (iv p0) (op 5 (bW (p0≤0)) (ot ?_)))))))
 refine cc (decide (p0≤0)) hr ?_ ?_
 ·intro hc hr
  refine csr (op 2 (strV ([109,48]:BS)) (ot (crt (zb ?_))))
  obtain rfl:=sj hr
  refine rt [.tmp 2] [strV ([109,48]:BS)] ⟨rfl,trivial⟩ ?_
  exact ⟨hs,rfl,(by simp)⟩
 intro hc hr
 refine ckt (csr (op 3 (strV ([]:BS)) (ot (cs (cb 0 ?_)))))
 refine zj 0 (fun Z=>∀ (y7:BS) (E0:Env) (κ9:K) (hs:Step [] κ κ9) (hb8:y7.length≤9223372036854775807),zgs y7=some r→Z (upd (E0) 3 (strV y7)) κ9) ?_ fun J1=>?_
 ·intro y7 E0 κ9 hs hb8 hr
  refine zg (za (csr (op 18 (strV y7) ?_)))
  obtain ⟨x10,hx10,hr⟩:=bind_some hr
  refine oq 19 (strV x10) (fun _=>zgp kr hx10) (op 2 (strV x10) (ot (crt ?_)))
  obtain rfl:=sj hr
  refine rt [.tmp 2] [strV x10] ⟨rfl,trivial⟩ ?_
  exact ⟨hs,rfl,(zjz hx10)⟩
 obtain ⟨x11,hx11,hrx11⟩:=bind_some hr
 refine zo (F:=zeA) (J:=fun (sx11:Int×BS) (E':Env) (κ':K)=>(∃ E0,E'=upd (upd (E0) 0 (iv sx11.1)) 3 (strV sx11.2))∧Step [] κ κ'∧I64 sx11.1∧sx11.2.length≤9223372036854775807) (s0:=(p0,([]:BS))) (x:=x11) kr hx11 ⟨⟨_,(eA 3 (eA 0 rfl))⟩,hs,hb1,(by simp)⟩ ?_
 rintro sx11 _ κ12 ⟨⟨E0,rfl⟩,hs,hb4,hb6⟩ yyx11 hr hdx11
 refine cs (csr (op 6 (iv sx11.1) (op 7 (bW (sx11.1>0)) (ot ?_))))
 refine cc (decide (sx11.1>0)) hr ?_ ?_
 ·intro hc hr
  refine ckt (cb 1 (csr (op 8 (iv sx11.1) (op 9 (iv (Int.tmod sx11.1 10)) (op 10 (iv (w64 (48+(Int.tmod sx11.1 10)))) (op 11 (.int .u8 (IntKind.wrap .u8 (w64 (48+(Int.tmod sx11.1 10))))) (zO (d:=12) (T:=130) (e:=5) (t:=tU8) (pub:=true) (τ:=(κ.H.size,76001)) (len:=1) (l:=[IntKind.wrap .u8 (w64 (48+(Int.tmod sx11.1 10)))]) (parts:=#[(0,.int .u8 (IntKind.wrap .u8 (w64 (48+(Int.tmod sx11.1 10)))))]) (cs:=[.int .u8 (IntKind.wrap .u8 (w64 (48+(Int.tmod sx11.1 10))))]) kr kr kr kr hs.1 rfl ⟨_,_,rfl,⟨rfl,(zrC _)⟩,rfl⟩ kr fun a15 κ13 s14 f16=>?_)))))))
  replace hs:=hs.tr0 s14
  refine obs 13 130 9 5 f16.sl (op 14 (strV sx11.2) ?_)
  obtain ⟨x18,hx18,hr⟩:=bind_some hr
  refine oq 15 (strV x18) (fun _=>zgp kr hx18) (op 3 (strV x18) (otr (op 16 (iv sx11.1) (op 17 (iv (w64 (Int.tdiv sx11.1 10))) (op 0 (iv (w64 (Int.tdiv sx11.1 10))) (oe (zd ?_)))))))
  exact ze (sj hr).symm ⟨⟨_,(eA 3 (eA 0 rfl))⟩,hs,(zq _),(zjz hx18)⟩
 intro hc hr
 refine cx 0 (zh ?_)
 have hx:=hdx11 _ (sj hr).symm
 subst hx
 replace hr:=hrx11
 refine zi ?_
 exact zr (eA 3 rfl) (J1 sx11.2  _ _ hs hb6 hr)
theorem zll {κ:K} {p0:LG} {a1:OA} {c2:Nat} {τ0:Tag} {p1:Int} (f3:Gr tGlue false τ0 κ 94 a1 c2 p0) (lt_τ0:τ0.1<κ.H.size) (hb4:I64 p1) {r:Int×LG} (hr:zda p0 p1=some r) :
 Fn Tryz.prog 41 #[sl a1 p0.length c2,iv p1] κ (fun v κ'=>Step (blk a1 c2) κ κ'∧v=iv r.1∧I64 r.1∧Gr tGlue false τ0 κ' 94 a1 c2 r.2):=by
 refine fnc 28 (blk a1 c2) Tryz.func41 Tryz.ntmps41 fun hs=>?_
 have ow_f3:∀ g∈blk a1 c2,g∈(blk a1 c2)∨κ.H.size≤g:=fun g hg=>.inl (by simp [hg])
 refine csr (op 4 (iv 0) (ot (cs (csr (op 5 (iv 0) (ot (cb 0 ?_)))))))
 refine zj 0 (fun Z=>∀ (y13:LG) (y15:Int) (E0:Env) (κ17:K) (hs:Step (blk a1 c2) κ κ17) (f14:Gr tGlue false τ0 κ17 94 a1 c2 y13) (ow_f14:(∀ g∈blk a1 c2,g∈(blk a1 c2)∨κ.H.size≤g)) (hb16:I64 y15),zfY y13 y15=some r→Z (upd (upd (E0) 0 (sl a1 y13.length c2)) 1 (iv y15)) κ17) ?_ fun J1=>?_
 ·intro y13 y15 E0 κ17 hs f14 ow_f14 hb16 hr
  refine zg (za (csr (op 27 (iv y15) (op 4 (iv y15) (ot (crt ?_))))))
  obtain rfl:=sj hr
  refine rt [.tmp 4] [iv y15] ⟨rfl,trivial⟩ ?_
  exact ⟨hs,rfl,hb16,f14⟩
 obtain ⟨x18,hx18,hrx18⟩:=bind_some hr
 refine zo (F:=zaO) (J:=fun (sx18:LG×Int×Int) (E':Env) (κ':K)=>(∃ E0,E'=upd (upd (upd (E0) 0 (sl a1 sx18.1.length c2)) 1 (iv sx18.2.1)) 5 (iv sx18.2.2))∧Step (blk a1 c2) κ κ'∧Gr tGlue false τ0 κ' 94 a1 c2 sx18.1∧(∀ g∈blk a1 c2,g∈(blk a1 c2)∨κ.H.size≤g)∧I64 sx18.2.1∧I64 sx18.2.2) (s0:=(p0,p1,0)) (x:=x18) kr hx18 ⟨⟨_,(eA 5 (eA 1 (eA 0 rfl)))⟩,hs,f3,ow_f3,hb4,(show I64 0 by unfold I64;omega)⟩ ?_
 rintro sx18 _ κ19 ⟨⟨E0,rfl⟩,hs,f8,ow_f8,hb10,hb12⟩ yyx18 hr hdx18
 refine cs (csr (op 6 (iv sx18.2.2) (op 7 (sl a1 sx18.1.length c2) (op 8 (iv (sx18.1.length:Int)) (op 9 (bW (sx18.2.2<(sx18.1.length:Int))) (ot ?_))))))
 refine cc (decide (sx18.2.2<(sx18.1.length:Int))) hr ?_ ?_
 ·intro hc hr
  refine ckt (cs (cb 1 (csr (op 12 (sl a1 sx18.1.length c2) (op 13 (iv sx18.2.2) (op 14 (iv sx18.2.1) ?_))))))
  obtain ⟨x20,hx20,hr⟩:=bind_some hr
  refine ocl 15 (zez hb10 hx20) ?_
  rintro _ κ22 ⟨s23,rfl,hb21⟩
  replace hs:=hs.tr0 s23
  replace f8:=f8.step0 s23
  obtain ⟨x24,hx24,hr⟩:=bind_some hr
  obtain ⟨b25,eab25,i0x24,i1x24,csx24,p_b25,owx24⟩:=f8.idx hx24
  obtain ⟨_,_,rfl,⟨rfl,hb26⟩,⟨rfl,hb27⟩⟩:=owx24
  replace p_b25:At κ22 b25 (0+sx18.2.2.toNat*2) [strV x24.1,iv x24.2]:=p_b25
  refine oi 16 22 94 2 sx18.1.length c2 .i64 sx18.2.2 (off:=0) eab25 i0x24 i1x24 (op 17 (pt b25 (0+sx18.2.2.toNat*2)) ?_)
  obtain ⟨x28,hx28,hr⟩:=bind_some hr
  refine zbu (T:=9) (t:=tGlue) (τ:=τ0) (e:=94) (ix:=sx18.2.2) (x':=(x20,x24.2)) (b:=b25) (δ:=0) (cp:=c2) (l:=sx18.1) (vs:=[strV x20]) (strV x20) kr kr eab25 f8 i0x24 i1x24 kr kr kr kr (fun cs hx=>by obtain ⟨x,hx0,ho⟩:=hx;obtain rfl:=sj (hx0.symm.trans hx24);obtain ⟨_,_,rfl,⟨rfl,hb31⟩,⟨rfl,hb32⟩⟩:=ho;exact ⟨_,_,rfl,⟨rfl,hb21⟩,⟨rfl,hb32⟩⟩) fun κ29 s30 Nf8=>?_
  replace hs:=hs.trM ow_f8 s30
  replace f8:=Nf8
  replace f8:=zeM hx28 f8
  have len_x28:=zS hx28
  refine zca (eA 5 (v:=iv sx18.2.2) (eA 1 (v:=iv sx18.2.1) (zc (t:=0) (v:=sl a1 x28.length c2) rfl (by rw [len_x28];kernel_rfl)))) (otx (op 18 (iv sx18.2.1) (op 19 (iv (w64 (sx18.2.1+1))) (op 1 (iv (w64 (sx18.2.1+1))) (otx (op 20 (sl a1 x28.length c2) (op 21 (iv sx18.2.2) (op 22 (iv (w64 (sx18.2.1+1))) ?_))))))))
  obtain ⟨x33,hx33,hr⟩:=bind_some hr
  obtain ⟨b34,eab34,i0x33,i1x33,csx33,p_b34,owx33⟩:=f8.idx hx33
  obtain ⟨_,_,rfl,⟨rfl,hb35⟩,⟨rfl,hb36⟩⟩:=owx33
  replace p_b34:At κ29 b34 (0+sx18.2.2.toNat*2) [strV x33.1,iv x33.2]:=p_b34
  refine oi 23 22 94 2 x28.length c2 .i64 sx18.2.2 (off:=0) eab34 i0x33 i1x33 (op 24 (pt b34 (0+sx18.2.2.toNat*2+1)) ?_)
  obtain ⟨x37,hx37,hr⟩:=bind_some hr
  refine zbu (T:=2) (t:=tGlue) (τ:=τ0) (e:=94) (ix:=sx18.2.2) (x':=(x33.1,w64 (sx18.2.1+1))) (b:=b34) (δ:=1) (cp:=c2) (l:=x28) (vs:=[iv (w64 (sx18.2.1+1))]) (iv (w64 (sx18.2.1+1))) kr kr eab34 f8 i0x33 i1x33 kr kr kr kr (fun cs hx=>by obtain ⟨x,hx0,ho⟩:=hx;obtain rfl:=sj (hx0.symm.trans hx33);obtain ⟨_,_,rfl,⟨rfl,hb40⟩,⟨rfl,hb41⟩⟩:=ho;exact ⟨_,_,rfl,⟨rfl,hb40⟩,⟨rfl,(zq _)⟩⟩) fun κ38 s39 Nf8=>?_
  replace hs:=hs.trM ow_f8 s39
  replace f8:=Nf8
  replace f8:=zeM hx37 f8
  have len_x37:=zS hx37
  refine zca (eA 5 (v:=iv sx18.2.2) (eA 1 (v:=iv (w64 (sx18.2.1+1))) (zc (t:=0) (v:=sl a1 x37.length c2) rfl (by rw [len_x37];kernel_rfl)))) (otr (op 25 (iv (w64 (sx18.2.1+1))) (op 26 (iv (w64 ((w64 (sx18.2.1+1))+1))) (op 1 (iv (w64 ((w64 (sx18.2.1+1))+1))) (oe (zd (za (cr (op 10 (iv sx18.2.2) ?_)))))))))
  refine op 11 (iv (w64 (sx18.2.2+1))) (op 5 (iv (w64 (sx18.2.2+1))) (oe ?_))
  exact ze (sj hr).symm ⟨⟨_,(eA 5 (eA 1 (eA 0 rfl)))⟩,hs,f8,ow_f8,(zq _),(zq _)⟩
 intro hc hr
 refine cx 0 (zh ?_)
 have hx:=hdx18 _ (sj hr).symm
 subst hx
 replace hr:=hrx18
 refine zi ?_
 exact zr (eA 1 (eA 0 rfl)) (J1 sx18.1 sx18.2.1  _ _ hs f8 ow_f8 hb10 hr)
theorem zkI {κ:K} {p0:LI} {a1:OA} {c2:Nat} {τ0:Tag} {p1:Int} (f3:Gr tI64 false τ0 κ 2 a1 c2 p0) (lt_τ0:τ0.1<κ.H.size) (hb4:I64 p1) {r:Int×LI} (hr:zcj p0 p1=some r) :
 Fn Tryz.prog 77 #[sl a1 p0.length c2,iv p1] κ (fun v κ'=>Step (blk a1 c2) κ κ'∧v=iv r.1∧I64 r.1∧Gr tI64 false τ0 κ' 2 a1 c2 r.2):=by
 refine fnc 19 (blk a1 c2) Tryz.func77 Tryz.ntmps77 fun hs=>?_
 have ow_f3:∀ g∈blk a1 c2,g∈(blk a1 c2)∨κ.H.size≤g:=fun g hg=>.inl (by simp [hg])
 refine csr (op 4 (iv 0) (ot (cs (csr (op 5 (iv 0) (ot (cb 0 ?_)))))))
 refine zj 0 (fun Z=>∀ (y13:LI) (y15:Int) (E0:Env) (κ17:K) (hs:Step (blk a1 c2) κ κ17) (f14:Gr tI64 false τ0 κ17 2 a1 c2 y13) (ow_f14:(∀ g∈blk a1 c2,g∈(blk a1 c2)∨κ.H.size≤g)) (hb16:I64 y15),zfn y13 y15=some r→Z (upd (upd (E0) 0 (sl a1 y13.length c2)) 1 (iv y15)) κ17) ?_ fun J1=>?_
 ·intro y13 y15 E0 κ17 hs f14 ow_f14 hb16 hr
  refine zg (za (csr (op 18 (iv y15) (op 4 (iv y15) (ot (crt ?_))))))
  obtain rfl:=sj hr
  refine rt [.tmp 4] [iv y15] ⟨rfl,trivial⟩ ?_
  exact ⟨hs,rfl,hb16,f14⟩
 obtain ⟨x18,hx18,hrx18⟩:=bind_some hr
 refine zo (F:=zaD) (J:=fun (sx18:LI×Int×Int) (E':Env) (κ':K)=>(∃ E0,E'=upd (upd (upd (E0) 0 (sl a1 sx18.1.length c2)) 1 (iv sx18.2.1)) 5 (iv sx18.2.2))∧Step (blk a1 c2) κ κ'∧Gr tI64 false τ0 κ' 2 a1 c2 sx18.1∧(∀ g∈blk a1 c2,g∈(blk a1 c2)∨κ.H.size≤g)∧I64 sx18.2.1∧I64 sx18.2.2) (s0:=(p0,p1,0)) (x:=x18) kr hx18 ⟨⟨_,(eA 5 (eA 1 (eA 0 rfl)))⟩,hs,f3,ow_f3,hb4,(show I64 0 by unfold I64;omega)⟩ ?_
 rintro sx18 _ κ19 ⟨⟨E0,rfl⟩,hs,f8,ow_f8,hb10,hb12⟩ yyx18 hr hdx18
 refine cs (csr (op 6 (iv sx18.2.2) (op 7 (sl a1 sx18.1.length c2) (op 8 (iv (sx18.1.length:Int)) (op 9 (bW (sx18.2.2<(sx18.1.length:Int))) (ot ?_))))))
 refine cc (decide (sx18.2.2<(sx18.1.length:Int))) hr ?_ ?_
 ·intro hc hr
  refine ckt (cs (cb 1 (csr (op 12 (sl a1 sx18.1.length c2) (op 13 (iv sx18.2.2) (op 14 (iv sx18.2.1) ?_))))))
  obtain ⟨x20,hx20,hr⟩:=bind_some hr
  obtain ⟨b21,eab21,i0x20,i1x20,csx20,p_b21,owx20⟩:=f8.idx hx20
  obtain ⟨rfl,hb22⟩:=owx20
  replace p_b21:At κ19 b21 (0+sx18.2.2.toNat*1) [iv x20]:=p_b21
  refine oi 15 95 2 1 sx18.1.length c2 .i64 sx18.2.2 (off:=0) eab21 i0x20 i1x20 ?_
  obtain ⟨x23,hx23,hr⟩:=bind_some hr
  refine zbu (T:=2) (t:=tI64) (τ:=τ0) (e:=2) (ix:=sx18.2.2) (x':=sx18.2.1) (b:=b21) (δ:=0) (cp:=c2) (l:=sx18.1) (vs:=[iv sx18.2.1]) (iv sx18.2.1) kr kr eab21 f8 i0x20 i1x20 kr kr kr kr (fun cs hx=>by obtain ⟨x,_,ho⟩:=hx;rw [zat ((tI64.len ho).trans kr)];exact ⟨rfl,hb10⟩) fun κ24 s25 Nf8=>?_
  replace hs:=hs.trM ow_f8 s25
  replace f8:=Nf8
  replace f8:=zeM hx23 f8
  have len_x23:=zS hx23
  refine zca (eA 5 (v:=iv sx18.2.2) (eA 1 (v:=iv sx18.2.1) (zc (t:=0) (v:=sl a1 x23.length c2) rfl (by rw [len_x23];kernel_rfl)))) (otr (op 16 (iv sx18.2.1) (op 17 (iv (w64 (sx18.2.1+1))) (op 1 (iv (w64 (sx18.2.1+1))) (oe (zd (za (cr (op 10 (iv sx18.2.2) ?_)))))))))
  refine op 11 (iv (w64 (sx18.2.2+1))) (op 5 (iv (w64 (sx18.2.2+1))) (oe ?_))
  exact ze (sj hr).symm ⟨⟨_,(eA 5 (eA 1 (eA 0 rfl)))⟩,hs,f8,ow_f8,(zq _),(zq _)⟩
 intro hc hr
 refine cx 0 (zh ?_)
 have hx:=hdx18 _ (sj hr).symm
 subst hx
 replace hr:=hrx18
 refine zi ?_
 exact zr (eA 1 (eA 0 rfl)) (J1 sx18.1 sx18.2.1  _ _ hs f8 ow_f8 hb10 hr)
theorem zkh {κ:K} {p0:LP} {a1:OA} {c2:Nat} {τ0:Tag} {p1:Int} (f3:Gr tPlaced false τ0 κ 108 a1 c2 p0) (lt_τ0:τ0.1<κ.H.size) (hb4:I64 p1) {r:Int×LP} (hr:za4 p0 p1=some r) :
 Fn Tryz.prog 43 #[sl a1 p0.length c2,iv p1] κ (fun v κ'=>Step (blk a1 c2) κ κ'∧v=iv r.1∧I64 r.1∧Gr tPlaced false τ0 κ' 108 a1 c2 r.2):=by
 refine fnc 36 (blk a1 c2) Tryz.func43 Tryz.ntmps43 fun hs=>?_
 have ow_f3:∀ g∈blk a1 c2,g∈(blk a1 c2)∨κ.H.size≤g:=fun g hg=>.inl (by simp [hg])
 refine csr (op 4 (iv 0) (ot (cs (csr (op 5 (iv 0) (ot (cb 0 ?_)))))))
 refine zj 0 (fun Z=>∀ (y13:LP) (y15:Int) (E0:Env) (κ17:K) (hs:Step (blk a1 c2) κ κ17) (f14:Gr tPlaced false τ0 κ17 108 a1 c2 y13) (ow_f14:(∀ g∈blk a1 c2,g∈(blk a1 c2)∨κ.H.size≤g)) (hb16:I64 y15),zeN y13 y15=some r→Z (upd (upd (E0) 0 (sl a1 y13.length c2)) 1 (iv y15)) κ17) ?_ fun J1=>?_
 ·intro y13 y15 E0 κ17 hs f14 ow_f14 hb16 hr
  refine zg (za (csr (op 35 (iv y15) (op 4 (iv y15) (ot (crt ?_))))))
  obtain rfl:=sj hr
  refine rt [.tmp 4] [iv y15] ⟨rfl,trivial⟩ ?_
  exact ⟨hs,rfl,hb16,f14⟩
 obtain ⟨x18,hx18,hrx18⟩:=bind_some hr
 refine zo (F:=zaw) (J:=fun (sx18:LP×Int×Int) (E':Env) (κ':K)=>(∃ E0,E'=upd (upd (upd (E0) 0 (sl a1 sx18.1.length c2)) 1 (iv sx18.2.1)) 5 (iv sx18.2.2))∧Step (blk a1 c2) κ κ'∧Gr tPlaced false τ0 κ' 108 a1 c2 sx18.1∧(∀ g∈blk a1 c2,g∈(blk a1 c2)∨κ.H.size≤g)∧I64 sx18.2.1∧I64 sx18.2.2) (s0:=(p0,p1,0)) (x:=x18) kr hx18 ⟨⟨_,(eA 5 (eA 1 (eA 0 rfl)))⟩,hs,f3,ow_f3,hb4,(show I64 0 by unfold I64;omega)⟩ ?_
 rintro sx18 _ κ19 ⟨⟨E0,rfl⟩,hs,f8,ow_f8,hb10,hb12⟩ yyx18 hr hdx18
 refine cs (csr (op 6 (iv sx18.2.2) (op 7 (sl a1 sx18.1.length c2) (op 8 (iv (sx18.1.length:Int)) (op 9 (bW (sx18.2.2<(sx18.1.length:Int))) (ot ?_))))))
 refine cc (decide (sx18.2.2<(sx18.1.length:Int))) hr ?_ ?_
 ·intro hc hr
  refine ckt (cs (cb 1 (csr (op 12 (sl a1 sx18.1.length c2) (op 13 (iv sx18.2.2) (op 14 (iv sx18.2.1) ?_))))))
  obtain ⟨x20,hx20,hr⟩:=bind_some hr
  obtain ⟨b21,eab21,i0x20,i1x20,csx20,p_b21,owx20⟩:=f8.idx hx20
  obtain ⟨_,_,rfl,⟨_,_,rfl,⟨rfl,hb22⟩,⟨rfl,hb23⟩⟩,⟨rfl,hb24⟩⟩:=owx20
  replace p_b21:At κ19 b21 (0+sx18.2.2.toNat*3) [iv x20.1.1,iv x20.1.2,iv x20.2]:=p_b21
  refine oi 15 26 108 3 sx18.1.length c2 .i64 sx18.2.2 (off:=0) eab21 i0x20 i1x20 (op 16 (pt b21 (0+sx18.2.2.toNat*3)) (op 17 (pt b21 (0+sx18.2.2.toNat*3)) ?_))
  obtain ⟨x25,hx25,hr⟩:=bind_some hr
  refine zbu (T:=2) (t:=tPlaced) (τ:=τ0) (e:=108) (ix:=sx18.2.2) (x':=((sx18.2.1,x20.1.2),x20.2)) (b:=b21) (δ:=0) (cp:=c2) (l:=sx18.1) (vs:=[iv sx18.2.1]) (iv sx18.2.1) kr kr eab21 f8 i0x20 i1x20 kr kr kr kr (fun cs hx=>by obtain ⟨x,hx0,ho⟩:=hx;obtain rfl:=sj (hx0.symm.trans hx20);obtain ⟨_,_,rfl,⟨_,_,rfl,⟨rfl,hb28⟩,⟨rfl,hb29⟩⟩,⟨rfl,hb30⟩⟩:=ho;exact ⟨_,_,rfl,⟨_,_,rfl,⟨rfl,hb10⟩,⟨rfl,hb29⟩⟩,⟨rfl,hb30⟩⟩) fun κ26 s27 Nf8=>?_
  replace hs:=hs.trM ow_f8 s27
  replace f8:=Nf8
  replace f8:=zeM hx25 f8
  have len_x25:=zS hx25
  refine zca (eA 5 (v:=iv sx18.2.2) (eA 1 (v:=iv sx18.2.1) (zc (t:=0) (v:=sl a1 x25.length c2) rfl (by rw [len_x25];kernel_rfl)))) (otx (op 18 (iv sx18.2.1) (op 19 (iv (w64 (sx18.2.1+1))) (op 1 (iv (w64 (sx18.2.1+1))) (otx (op 20 (sl a1 x25.length c2) (op 21 (iv sx18.2.2) (op 22 (iv (w64 (sx18.2.1+1))) ?_))))))))
  obtain ⟨x31,hx31,hr⟩:=bind_some hr
  obtain ⟨b32,eab32,i0x31,i1x31,csx31,p_b32,owx31⟩:=f8.idx hx31
  obtain ⟨_,_,rfl,⟨_,_,rfl,⟨rfl,hb33⟩,⟨rfl,hb34⟩⟩,⟨rfl,hb35⟩⟩:=owx31
  replace p_b32:At κ26 b32 (0+sx18.2.2.toNat*3) [iv x31.1.1,iv x31.1.2,iv x31.2]:=p_b32
  refine oi 23 26 108 3 x25.length c2 .i64 sx18.2.2 (off:=0) eab32 i0x31 i1x31 (op 24 (pt b32 (0+sx18.2.2.toNat*3)) (op 25 (pt b32 (0+sx18.2.2.toNat*3+1)) ?_))
  obtain ⟨x36,hx36,hr⟩:=bind_some hr
  refine zbu (T:=2) (t:=tPlaced) (τ:=τ0) (e:=108) (ix:=sx18.2.2) (x':=((x31.1.1,w64 (sx18.2.1+1)),x31.2)) (b:=b32) (δ:=1) (cp:=c2) (l:=x25) (vs:=[iv (w64 (sx18.2.1+1))]) (iv (w64 (sx18.2.1+1))) kr kr eab32 f8 i0x31 i1x31 kr kr kr kr (fun cs hx=>by obtain ⟨x,hx0,ho⟩:=hx;obtain rfl:=sj (hx0.symm.trans hx31);obtain ⟨_,_,rfl,⟨_,_,rfl,⟨rfl,hb39⟩,⟨rfl,hb40⟩⟩,⟨rfl,hb41⟩⟩:=ho;exact ⟨_,_,rfl,⟨_,_,rfl,⟨rfl,hb39⟩,⟨rfl,(zq _)⟩⟩,⟨rfl,hb41⟩⟩) fun κ37 s38 Nf8=>?_
  replace hs:=hs.trM ow_f8 s38
  replace f8:=Nf8
  replace f8:=zeM hx36 f8
  have len_x36:=zS hx36
  refine zca (eA 5 (v:=iv sx18.2.2) (eA 1 (v:=iv (w64 (sx18.2.1+1))) (zc (t:=0) (v:=sl a1 x36.length c2) rfl (by rw [len_x36];kernel_rfl)))) (otx (op 26 (iv (w64 (sx18.2.1+1))) (op 27 (iv (w64 ((w64 (sx18.2.1+1))+1))) (op 1 (iv (w64 ((w64 (sx18.2.1+1))+1))) (otx (op 28 (sl a1 x36.length c2) (op 29 (iv sx18.2.2) (op 30 (iv (w64 ((w64 (sx18.2.1+1))+1))) ?_))))))))
  obtain ⟨x42,hx42,hr⟩:=bind_some hr
  obtain ⟨b43,eab43,i0x42,i1x42,csx42,p_b43,owx42⟩:=f8.idx hx42
  obtain ⟨_,_,rfl,⟨_,_,rfl,⟨rfl,hb44⟩,⟨rfl,hb45⟩⟩,⟨rfl,hb46⟩⟩:=owx42
  replace p_b43:At κ37 b43 (0+sx18.2.2.toNat*3) [iv x42.1.1,iv x42.1.2,iv x42.2]:=p_b43
  refine oi 31 26 108 3 x36.length c2 .i64 sx18.2.2 (off:=0) eab43 i0x42 i1x42 (op 32 (pt b43 (0+sx18.2.2.toNat*3+2)) ?_)
  obtain ⟨x47,hx47,hr⟩:=bind_some hr
  refine zbu (T:=2) (t:=tPlaced) (τ:=τ0) (e:=108) (ix:=sx18.2.2) (x':=(x42.1,w64 ((w64 (sx18.2.1+1))+1))) (b:=b43) (δ:=2) (cp:=c2) (l:=x36) (vs:=[iv (w64 ((w64 (sx18.2.1+1))+1))]) (iv (w64 ((w64 (sx18.2.1+1))+1))) kr kr eab43 f8 i0x42 i1x42 kr kr kr kr (fun cs hx=>by obtain ⟨x,hx0,ho⟩:=hx;obtain rfl:=sj (hx0.symm.trans hx42);obtain ⟨_,_,rfl,⟨_,_,rfl,⟨rfl,hb50⟩,⟨rfl,hb51⟩⟩,⟨rfl,hb52⟩⟩:=ho;exact ⟨_,_,rfl,⟨_,_,rfl,⟨rfl,hb50⟩,⟨rfl,hb51⟩⟩,⟨rfl,(zq _)⟩⟩) fun κ48 s49 Nf8=>?_
  replace hs:=hs.trM ow_f8 s49
  replace f8:=Nf8
  replace f8:=zeM hx47 f8
  have len_x47:=zS hx47
  refine zca (eA 5 (v:=iv sx18.2.2) (eA 1 (v:=iv (w64 ((w64 (sx18.2.1+1))+1))) (zc (t:=0) (v:=sl a1 x47.length c2) rfl (by rw [len_x47];kernel_rfl)))) (otr (op 33 (iv (w64 ((w64 (sx18.2.1+1))+1))) (op 34 (iv (w64 ((w64 ((w64 (sx18.2.1+1))+1))+1))) (op 1 (iv (w64 ((w64 ((w64 (sx18.2.1+1))+1))+1))) (oe (zd (za (cr (op 10 (iv sx18.2.2) ?_)))))))))
  refine op 11 (iv (w64 (sx18.2.2+1))) (op 5 (iv (w64 (sx18.2.2+1))) (oe ?_))
  exact ze (sj hr).symm ⟨⟨_,(eA 5 (eA 1 (eA 0 rfl)))⟩,hs,f8,ow_f8,(zq _),(zq _)⟩
 intro hc hr
 refine cx 0 (zh ?_)
 have hx:=hdx18 _ (sj hr).symm
 subst hx
 replace hr:=hrx18
 refine zi ?_
 exact zr (eA 1 (eA 0 rfl)) (J1 sx18.1 sx18.2.1  _ _ hs f8 ow_f8 hb10 hr)
theorem zln {κ:K} {p0:LG} {a1:OA} {c2:Nat} {p1:Int} (f3:Sl tGlue κ a1 c2 p0) (hb4:I64 p1) {r:Int} (hr:zf2 p0 p1=some r) :
 Fn Tryz.prog 44 #[sl a1 p0.length c2,iv p1] κ (fun v κ'=>Step [] κ κ'∧v=iv r∧I64 r):=by
 refine fnc 32 [] Tryz.func44 Tryz.ntmps44 fun hs=>csr (op 4 (iv 0) (ot (cs (csr (op 5 (iv 0) (ot (cb 0 ?_)))))))
 refine zj 0 (fun Z=>∀ (y10:Int) (E0:Env) (κ12:K) (hs:Step [] κ κ12) (hb11:I64 y10),zf1 y10=some r→Z (upd (E0) 1 (iv y10)) κ12) ?_ fun J1=>?_
 ·intro y10 E0 κ12 hs hb11 hr
  refine zg (za (csr (op 31 (iv y10) (op 4 (iv y10) (ot (crt ?_))))))
  obtain rfl:=sj hr
  refine rt [.tmp 4] [iv y10] ⟨rfl,trivial⟩ ?_
  exact ⟨hs,rfl,hb11⟩
 obtain ⟨x13,hx13,hrx13⟩:=bind_some hr
 refine zo (F:=zdX p0) (J:=fun (sx13:Int×Int) (E':Env) (κ':K)=>(∃ E0,E'=upd (upd (upd (E0) 0 (sl a1 p0.length c2)) 1 (iv sx13.1)) 5 (iv sx13.2))∧Step [] κ κ'∧I64 sx13.1∧I64 sx13.2) (s0:=(p1,0)) (x:=x13) kr hx13 ⟨⟨_,(eA 5 (eA 1 (eA 0 rfl)))⟩,hs,hb4,(show I64 0 by unfold I64;omega)⟩ ?_
 rintro sx13 _ κ14 ⟨⟨E0,rfl⟩,hs,hb7,hb9⟩ yyx13 hr hdx13
 refine cs (csr (op 6 (iv sx13.2) (op 7 (sl a1 p0.length c2) (op 8 (iv (p0.length:Int)) (op 9 (bW (sx13.2<(p0.length:Int))) (ot ?_))))))
 refine cc (decide (sx13.2<(p0.length:Int))) hr ?_ ?_
 ·intro hc hr
  refine ckt (cs (cb 1 (cs (cs (cx_ 7 [0,1,2,3,4,5,6] [6] 7 [] (xp 12 (sl a1 p0.length c2) (xp 13 (iv sx13.2) ?_)))))))
  obtain ⟨x15,hx15,hr⟩:=bind_some hr
  obtain ⟨b16,o17,eab16,i0x15,i1x15,csx15,p_b16,owx15⟩:=(f3.step hs).idx hx15
  obtain ⟨_,_,rfl,⟨rfl,hb18⟩,⟨rfl,hb19⟩⟩:=owx15
  replace p_b16:PubAt κ14 b16 (o17+sx13.2.toNat*2) [strV x15.1,iv x15.2]:=p_b16
  refine xi 14 22 94 2 p0.length c2 .i64 sx13.2 eab16 i0x15 i1x15 (xp 15 (pt b16 (o17+sx13.2.toNat*2)) (x1 16 9 (strV x15.1) p_b16.at 0 rfl (xp 17 (iv sx13.1) ?_)))
  obtain ⟨x20,hx20,hr⟩:=bind_some hr
  refine xcl 18 (zez hb7 hx20) ?_
  rintro _ κ22 ⟨s23,rfl,hb21⟩
  refine ⟨s23,?_⟩
  replace hs:=hs.tr0 s23
  refine xe (oq 19 (.bool (!decide (x15.1=x20))) (fun _=>zch kr) (ot ?_))
  refine cc (!decide (x15.1=x20)) hr ?_ ?_
  ·intro hc hr
   refine csr (op 4 (iv (-1)) (ot (crt (zb (zf (zb ?_))))))
   have hx:=hdx13 _ (sj hr).symm
   subst hx
   replace hr:=hrx13
   refine zt (zf (zb ?_))
   obtain rfl:=sj hr
   refine rt [.tmp 4] [iv (-1)] ⟨rfl,trivial⟩ ?_
   exact ⟨hs,rfl,(show I64 (-1) by unfold I64;omega)⟩
  intro hc hr
  refine ckt (csr (op 20 (iv sx13.1) (op 21 (iv (w64 (sx13.1+1))) (op 1 (iv (w64 (sx13.1+1))) (ot (cs (csr (op 22 (sl a1 p0.length c2) (op 23 (iv sx13.2) ?_)))))))))
  obtain ⟨x24,hx24,hr⟩:=bind_some hr
  have eqx24:x15=x24:=sj (hx15.symm.trans hx24);subst eqx24
  have hx24q:=hx24
  obtain ⟨b25,o26,eab25,i0x24,i1x24,csx24,p_b25,owx24⟩:=(f3.step hs).idx hx24
  obtain ⟨_,_,rfl,⟨rfl,hb27⟩,⟨rfl,hb28⟩⟩:=owx24
  replace p_b25:PubAt κ22 b25 (o26+sx13.2.toNat*2) [strV x15.1,iv x15.2]:=p_b25
  refine oi 24 22 94 2 p0.length c2 .i64 sx13.2 eab25 i0x24 i1x24 (op 25 (pt b25 (o26+sx13.2.toNat*2+1)) (o1 26 2 (iv x15.2) (p_b25.at.one (o:=1) rfl) (op 27 (iv (w64 (sx13.1+1))) (op 28 (.bool (!decide (x15.2=(w64 (sx13.1+1))))) (ot ?_)))))
  refine cc (!decide (x15.2=(w64 (sx13.1+1)))) hr ?_ ?_
  ·intro hc hr
   refine csr (op 4 (iv (-1)) (ot (crt (zb (zf (zb ?_))))))
   have hx:=hdx13 _ (sj hr).symm
   subst hx
   replace hr:=hrx13
   refine zt (zf (zb ?_))
   obtain rfl:=sj hr
   refine rt [.tmp 4] [iv (-1)] ⟨rfl,trivial⟩ ?_
   exact ⟨hs,rfl,(show I64 (-1) by unfold I64;omega)⟩
  intro hc hr
  refine ckt (cr (op 29 (iv (w64 (sx13.1+1))) (op 30 (iv (w64 ((w64 (sx13.1+1))+1))) (op 1 (iv (w64 ((w64 (sx13.1+1))+1))) (oe (zd (za (cr (op 10 (iv sx13.2) ?_)))))))))
  refine op 11 (iv (w64 (sx13.2+1))) (op 5 (iv (w64 (sx13.2+1))) (oe ?_))
  exact ze (sj hr).symm ⟨⟨_,(eA 5 (eA 1 (eA 0 rfl)))⟩,hs,(zq _),(zq _)⟩
 intro hc hr
 refine cx 0 (zh ?_)
 have hx:=hdx13 _ (sj hr).symm
 subst hx
 replace hr:=hrx13
 refine zi ?_
 exact zr (eA 1 rfl) (J1 sx13.1  _ _ hs hb7 hr)
theorem zkL {κ:K} {p0:LI} {a1:OA} {c2:Nat} {p1:Int} (f3:Sl tI64 κ a1 c2 p0) (hb4:I64 p1) {r:Int} (hr:zfd p0 p1=some r) :
 Fn Tryz.prog 78 #[sl a1 p0.length c2,iv p1] κ (fun v κ'=>κ=κ'∧v=iv r∧I64 r):=by
 refine fnc 21 [] Tryz.func78 Tryz.ntmps78 fun hs=>csr (op 4 (iv 0) (ot (cs (csr (op 5 (iv 0) (ot (cb 0 ?_)))))))
 refine zj 0 (fun Z=>∀ (y10:Int) (E0:Env) (hb11:I64 y10),zfo y10=some r→Z (upd (E0) 1 (iv y10)) κ) ?_ fun J1=>?_
 ·intro y10 E0 hb11 hr
  refine zg (za (csr (op 20 (iv y10) (op 4 (iv y10) (ot (crt ?_))))))
  obtain rfl:=sj hr
  refine rt [.tmp 4] [iv y10] ⟨rfl,trivial⟩ ?_
  exact ⟨rfl,rfl,hb11⟩
 obtain ⟨x12,hx12,hrx12⟩:=bind_some hr
 refine zo (F:=zdp p0) (J:=fun (sx12:Int×Int) (E':Env) (κ':K)=>(∃ E0,E'=upd (upd (upd (E0) 0 (sl a1 p0.length c2)) 1 (iv sx12.1)) 5 (iv sx12.2))∧κ=κ'∧I64 sx12.1∧I64 sx12.2) (s0:=(p1,0)) (x:=x12) kr hx12 ⟨⟨_,(eA 5 (eA 1 (eA 0 rfl)))⟩,rfl,hb4,(show I64 0 by unfold I64;omega)⟩ ?_
 rintro sx12 _ _ ⟨⟨E0,rfl⟩,rfl,hb7,hb9⟩ yyx12 hr hdx12
 refine cs (csr (op 6 (iv sx12.2) (op 7 (sl a1 p0.length c2) (op 8 (iv (p0.length:Int)) (op 9 (bW (sx12.2<(p0.length:Int))) (ot ?_))))))
 refine cc (decide (sx12.2<(p0.length:Int))) hr ?_ ?_
 ·intro hc hr
  refine ckt (cs (cb 1 (cs (csr (op 12 (sl a1 p0.length c2) (op 13 (iv sx12.2) ?_))))))
  obtain ⟨x13,hx13,hr⟩:=bind_some hr
  obtain ⟨b14,o15,eab14,i0x13,i1x13,csx13,p_b14,owx13⟩:=f3.idx hx13
  obtain ⟨rfl,hb16⟩:=owx13
  replace p_b14:PubAt κ b14 (o15+sx12.2.toNat*1) [iv x13]:=p_b14
  refine oi 14 95 2 1 p0.length c2 .i64 sx12.2 eab14 i0x13 i1x13 (o1 15 2 (iv x13) (p_b14.at.one (o:=0) rfl) (op 16 (iv sx12.1) (op 17 (.bool (!decide (x13=sx12.1))) (ot ?_))))
  refine cc (!decide (x13=sx12.1)) hr ?_ ?_
  ·intro hc hr
   refine csr (op 4 (iv (-1)) (ot (crt (zb (zf (zb ?_))))))
   have hx:=hdx12 _ (sj hr).symm
   subst hx
   replace hr:=hrx12
   refine zt (zf (zb ?_))
   obtain rfl:=sj hr
   refine rt [.tmp 4] [iv (-1)] ⟨rfl,trivial⟩ ?_
   exact ⟨rfl,rfl,(show I64 (-1) by unfold I64;omega)⟩
  intro hc hr
  refine ckt (cr (op 18 (iv sx12.1) (op 19 (iv (w64 (sx12.1+1))) (op 1 (iv (w64 (sx12.1+1))) (oe (zd (za (cr (op 10 (iv sx12.2) ?_)))))))))
  refine op 11 (iv (w64 (sx12.2+1))) (op 5 (iv (w64 (sx12.2+1))) (oe ?_))
  exact ze (sj hr).symm ⟨⟨_,(eA 5 (eA 1 (eA 0 rfl)))⟩,rfl,(zq _),(zq _)⟩
 intro hc hr
 refine cx 0 (zh ?_)
 have hx:=hdx12 _ (sj hr).symm
 subst hx
 replace hr:=hrx12
 refine zi ?_
 exact zr (eA 1 rfl) (J1 sx12.1  _ hb7 hr)
theorem zlm {κ:K} {p0:LT} {a1:OA} {c2:Nat} {p1:Int} (f3:Sl zQ κ a1 c2 p0) (hb4:I64 p1) {r:Int} (hr:zf0 p0 p1=some r) :
 Fn Tryz.prog 45 #[sl a1 p0.length c2,iv p1] κ (fun v κ'=>Step [] κ κ'∧v=iv r∧I64 r):=by
 refine fnc 32 [] Tryz.func45 Tryz.ntmps45 fun hs=>csr (op 4 (iv 0) (ot (cs (csr (op 5 (iv 0) (ot (cb 0 ?_)))))))
 refine zj 0 (fun Z=>∀ (y10:Int) (E0:Env) (κ12:K) (hs:Step [] κ κ12) (hb11:I64 y10),zfZ y10=some r→Z (upd (E0) 1 (iv y10)) κ12) ?_ fun J1=>?_
 ·intro y10 E0 κ12 hs hb11 hr
  refine zg (za (csr (op 31 (iv y10) (op 4 (iv y10) (ot (crt ?_))))))
  obtain rfl:=sj hr
  refine rt [.tmp 4] [iv y10] ⟨rfl,trivial⟩ ?_
  exact ⟨hs,rfl,hb11⟩
 obtain ⟨x13,hx13,hrx13⟩:=bind_some hr
 refine zo (F:=zdW p0) (J:=fun (sx13:Int×Int) (E':Env) (κ':K)=>(∃ E0,E'=upd (upd (upd (E0) 0 (sl a1 p0.length c2)) 1 (iv sx13.1)) 5 (iv sx13.2))∧Step [] κ κ'∧I64 sx13.1∧I64 sx13.2) (s0:=(p1,0)) (x:=x13) kr hx13 ⟨⟨_,(eA 5 (eA 1 (eA 0 rfl)))⟩,hs,hb4,(show I64 0 by unfold I64;omega)⟩ ?_
 rintro sx13 _ κ14 ⟨⟨E0,rfl⟩,hs,hb7,hb9⟩ yyx13 hr hdx13
 refine cs (csr (op 6 (iv sx13.2) (op 7 (sl a1 p0.length c2) (op 8 (iv (p0.length:Int)) (op 9 (bW (sx13.2<(p0.length:Int))) (ot ?_))))))
 refine cc (decide (sx13.2<(p0.length:Int))) hr ?_ ?_
 ·intro hc hr
  refine ckt (cs (cb 1 (cs (cs (cx_ 7 [0,1,2,3,4,5,6] [6] 7 [] (xp 12 (sl a1 p0.length c2) (xp 13 (iv sx13.2) ?_)))))))
  obtain ⟨x15,hx15,hr⟩:=bind_some hr
  obtain ⟨b16,o17,eab16,i0x15,i1x15,csx15,p_b16,owx15⟩:=(f3.step hs).idx hx15
  obtain ⟨_,_,rfl,⟨rfl,hb18⟩,⟨a19,c20,rfl,f21⟩⟩:=owx15
  replace p_b16:PubAt κ14 b16 (o17+sx13.2.toNat*2) [strV x15.1,sl a19 x15.2.length c20]:=p_b16
  refine xi 14 23 97 2 p0.length c2 .i64 sx13.2 eab16 i0x15 i1x15 (xp 15 (pt b16 (o17+sx13.2.toNat*2)) (x1 16 9 (strV x15.1) p_b16.at 0 rfl (xp 17 (iv sx13.1) ?_)))
  obtain ⟨x22,hx22,hr⟩:=bind_some hr
  refine xcl 18 (zez hb7 hx22) ?_
  rintro _ κ24 ⟨s25,rfl,hb23⟩
  refine ⟨s25,?_⟩
  replace hs:=hs.tr0 s25
  refine xe (oq 19 (.bool (!decide (x15.1=x22))) (fun _=>zch kr) (ot ?_))
  refine cc (!decide (x15.1=x22)) hr ?_ ?_
  ·intro hc hr
   refine csr (op 4 (iv (-1)) (ot (crt (zb (zf (zb ?_))))))
   have hx:=hdx13 _ (sj hr).symm
   subst hx
   replace hr:=hrx13
   refine zt (zf (zb ?_))
   obtain rfl:=sj hr
   refine rt [.tmp 4] [iv (-1)] ⟨rfl,trivial⟩ ?_
   exact ⟨hs,rfl,(show I64 (-1) by unfold I64;omega)⟩
  intro hc hr
  refine ckt (csr (op 20 (iv sx13.1) (op 21 (iv (w64 (sx13.1+1))) (op 1 (iv (w64 (sx13.1+1))) (otx (op 22 (sl a1 p0.length c2) (op 23 (iv sx13.2) ?_)))))))
  obtain ⟨x26,hx26,hr⟩:=bind_some hr
  have eqx26:x15=x26:=sj (hx15.symm.trans hx26);subst eqx26
  have hx26q:=hx26
  obtain ⟨b27,o28,eab27,i0x26,i1x26,csx26,p_b27,owx26⟩:=(f3.step hs).idx hx26
  obtain ⟨_,_,rfl,⟨rfl,hb29⟩,⟨a30,c31,rfl,f32⟩⟩:=owx26
  replace p_b27:PubAt κ24 b27 (o28+sx13.2.toNat*2) [strV x15.1,sl a30 x15.2.length c31]:=p_b27
  refine oi 24 23 97 2 p0.length c2 .i64 sx13.2 eab27 i0x26 i1x26 (op 25 (pt b27 (o28+sx13.2.toNat*2+1)) (o1 26 95 (sl a30 x15.2.length c31) (p_b27.at.one (o:=1) rfl) (op 27 (iv (w64 (sx13.1+1))) ?_)))
  obtain ⟨x33,hx33,hr⟩:=bind_some hr
  refine ocl 28 (zkL f32 (zq _) hx33) ?_
  rintro _ _ ⟨rfl,rfl,hb34⟩
  refine op 1 (iv x33) (otx (op 29 (iv x33) (op 30 (bW (x33<0)) (ot ?_))))
  refine cc (decide (x33<0)) hr ?_ ?_
  ·intro hc hr
   refine csr (op 4 (iv (-1)) (ot (crt (zf (zb ?_)))))
   have hx:=hdx13 _ (sj hr).symm
   subst hx
   replace hr:=hrx13
   refine zt (zf (zb ?_))
   obtain rfl:=sj hr
   refine rt [.tmp 4] [iv (-1)] ⟨rfl,trivial⟩ ?_
   exact ⟨hs,rfl,(show I64 (-1) by unfold I64;omega)⟩
  intro hc hr
  refine ck (zd (za (cr (op 10 (iv sx13.2) (op 11 (iv (w64 (sx13.2+1))) (op 5 (iv (w64 (sx13.2+1))) (oe ?_)))))))
  exact ze (sj hr).symm ⟨⟨_,(eA 5 (eA 1 (eA 0 rfl)))⟩,hs,hb34,(zq _)⟩
 intro hc hr
 refine cx 0 (zh ?_)
 have hx:=hdx13 _ (sj hr).symm
 subst hx
 replace hr:=hrx13
 refine zi ?_
 exact zr (eA 1 rfl) (J1 sx13.1  _ _ hs hb7 hr)
theorem zkj {κ:K} {p0:LG×LT} {a1:OA} {c2:Nat} {a4:OA} {c5:Nat} {p1:Int} (f3:Sl tGlue κ a1 c2 p0.1) (f6:Sl zQ κ a4 c5 p0.2) (hb7:I64 p1) {r:Int} (hr:zgt p0 p1=some r) :
 Fn Tryz.prog 20 #[.agg #[sl a1 p0.1.length c2,sl a4 p0.2.length c5],iv p1] κ (fun v κ'=>Step [] κ κ'∧v=iv r∧I64 r):=by
 refine fnc 18 [] Tryz.func20 Tryz.ntmps20 fun hs=>csr (zv (d:=2) (T:=25) (κ.H.size,20001) hs.1 (.agg #[sl a1 p0.1.length c2,sl a4 p0.2.length c5]) [sl a1 p0.1.length c2,sl a4 p0.2.length c5] kr kr rfl fun b9 κ10 s11 B_b9=>?_)
 replace hs:=hs.tr0 s11
 refine op 4 (iv 0) (otx (op 5 (pt b9 0) (o1 6 22 (sl a1 p0.1.length c2) (B_b9.at.one (o:=0) rfl) (op 7 (iv p1) ?_))))
 obtain ⟨x12,hx12,hr⟩:=bind_some hr
 refine ocl 8 (zln (f3.step hs) hb7 hx12) ?_
 rintro _ κ14 ⟨s15,rfl,hb13⟩
 replace hs:=hs.tr0 s15
 replace B_b9:=B_b9.step0 s15
 refine op 1 (iv x12) (ot (cs (csr (op 9 (iv x12) (op 10 (bW (x12<0)) (ot ?_))))))
 refine cc (decide (x12<0)) hr ?_ ?_
 ·intro hc hr
  refine csr (op 4 (iv (-1)) (ot (crt (zb ?_))))
  obtain rfl:=sj hr
  refine rt [.tmp 4] [iv (-1)] ⟨rfl,trivial⟩ ?_
  exact ⟨hs,rfl,(show I64 (-1) by unfold I64;omega)⟩
 intro hc hr
 refine ckt (csr (op 11 (pt b9 1) (o1 12 23 (sl a4 p0.2.length c5) (B_b9.at.one (o:=1) rfl) (op 13 (iv x12) ?_))))
 obtain ⟨x16,hx16,hr⟩:=bind_some hr
 refine ocl 14 (zlm (f6.step hs) hb13 hx16) ?_
 rintro _ κ18 ⟨s19,rfl,hb17⟩
 replace hs:=hs.tr0 s19
 refine op 1 (iv x16) (ot (cs (csr (op 15 (iv x16) (op 16 (bW (x16<0)) (ot ?_))))))
 refine cc (decide (x16<0)) hr ?_ ?_
 ·intro hc hr
  refine csr (op 4 (iv (-1)) (ot (crt (zb ?_))))
  obtain rfl:=sj hr
  refine rt [.tmp 4] [iv (-1)] ⟨rfl,trivial⟩ ?_
  exact ⟨hs,rfl,(show I64 (-1) by unfold I64;omega)⟩
 intro hc hr
 refine ckt (csr (op 17 (iv x16) (op 4 (iv x16) (ot (crt ?_)))))
 obtain rfl:=sj hr
 refine rt [.tmp 4] [iv x16] ⟨rfl,trivial⟩ ?_
 exact ⟨hs,rfl,hb17⟩
theorem zkk {κ:K} {p0:LP} {a1:OA} {c2:Nat} {p1:Int} (f3:Sl tPlaced κ a1 c2 p0) (hb4:I64 p1) {r:Int} (hr:zeB p0 p1=some r) :
 Fn Tryz.prog 46 #[sl a1 p0.length c2,iv p1] κ (fun v κ'=>κ=κ'∧v=iv r∧I64 r):=by
 refine fnc 42 [] Tryz.func46 Tryz.ntmps46 fun hs=>csr (op 4 (iv 0) (ot (cs (csr (op 5 (iv 0) (ot (cb 0 ?_)))))))
 refine zj 0 (fun Z=>∀ (y10:Int) (E0:Env) (hb11:I64 y10),zeO y10=some r→Z (upd (E0) 1 (iv y10)) κ) ?_ fun J1=>?_
 ·intro y10 E0 hb11 hr
  refine zg (za (csr (op 41 (iv y10) (op 4 (iv y10) (ot (crt ?_))))))
  obtain rfl:=sj hr
  refine rt [.tmp 4] [iv y10] ⟨rfl,trivial⟩ ?_
  exact ⟨rfl,rfl,hb11⟩
 obtain ⟨x12,hx12,hrx12⟩:=bind_some hr
 refine zo (F:=zcP p0) (J:=fun (sx12:Int×Int) (E':Env) (κ':K)=>(∃ E0,E'=upd (upd (upd (E0) 0 (sl a1 p0.length c2)) 1 (iv sx12.1)) 5 (iv sx12.2))∧κ=κ'∧I64 sx12.1∧I64 sx12.2) (s0:=(p1,0)) (x:=x12) kr hx12 ⟨⟨_,(eA 5 (eA 1 (eA 0 rfl)))⟩,rfl,hb4,(show I64 0 by unfold I64;omega)⟩ ?_
 rintro sx12 _ _ ⟨⟨E0,rfl⟩,rfl,hb7,hb9⟩ yyx12 hr hdx12
 refine cs (csr (op 6 (iv sx12.2) (op 7 (sl a1 p0.length c2) (op 8 (iv (p0.length:Int)) (op 9 (bW (sx12.2<(p0.length:Int))) (ot ?_))))))
 refine cc (decide (sx12.2<(p0.length:Int))) hr ?_ ?_
 ·intro hc hr
  refine ckt (cs (cb 1 (cs (csr (op 12 (sl a1 p0.length c2) (op 13 (iv sx12.2) ?_))))))
  obtain ⟨x13,hx13,hr⟩:=bind_some hr
  obtain ⟨b14,o15,eab14,i0x13,i1x13,csx13,p_b14,owx13⟩:=f3.idx hx13
  obtain ⟨_,_,rfl,⟨_,_,rfl,⟨rfl,hb16⟩,⟨rfl,hb17⟩⟩,⟨rfl,hb18⟩⟩:=owx13
  replace p_b14:PubAt κ b14 (o15+sx12.2.toNat*3) [iv x13.1.1,iv x13.1.2,iv x13.2]:=p_b14
  refine oi 14 26 108 3 p0.length c2 .i64 sx12.2 eab14 i0x13 i1x13 (op 15 (pt b14 (o15+sx12.2.toNat*3)) (op 16 (pt b14 (o15+sx12.2.toNat*3)) (o1 17 2 (iv x13.1.1) (p_b14.at.one (o:=0) rfl) (op 18 (iv sx12.1) (op 19 (.bool (!decide (x13.1.1=sx12.1))) (ot ?_))))))
  refine cc (!decide (x13.1.1=sx12.1)) hr ?_ ?_
  ·intro hc hr
   refine csr (op 4 (iv (-1)) (ot (crt (zb (zf (zb ?_))))))
   have hx:=hdx12 _ (sj hr).symm
   subst hx
   replace hr:=hrx12
   refine zt (zf (zb ?_))
   obtain rfl:=sj hr
   refine rt [.tmp 4] [iv (-1)] ⟨rfl,trivial⟩ ?_
   exact ⟨rfl,rfl,(show I64 (-1) by unfold I64;omega)⟩
  intro hc hr
  refine ckt (csr (op 20 (iv sx12.1) (op 21 (iv (w64 (sx12.1+1))) (op 1 (iv (w64 (sx12.1+1))) (ot (cs (csr (op 22 (sl a1 p0.length c2) (op 23 (iv sx12.2) ?_)))))))))
  obtain ⟨x19,hx19,hr⟩:=bind_some hr
  have eqx19:x13=x19:=sj (hx13.symm.trans hx19);subst eqx19
  have hx19q:=hx19
  obtain ⟨b20,o21,eab20,i0x19,i1x19,csx19,p_b20,owx19⟩:=f3.idx hx19
  obtain ⟨_,_,rfl,⟨_,_,rfl,⟨rfl,hb22⟩,⟨rfl,hb23⟩⟩,⟨rfl,hb24⟩⟩:=owx19
  replace p_b20:PubAt κ b20 (o21+sx12.2.toNat*3) [iv x13.1.1,iv x13.1.2,iv x13.2]:=p_b20
  refine oi 24 26 108 3 p0.length c2 .i64 sx12.2 eab20 i0x19 i1x19 (op 25 (pt b20 (o21+sx12.2.toNat*3)) (op 26 (pt b20 (o21+sx12.2.toNat*3+1)) (o1 27 2 (iv x13.1.2) (p_b20.at.one (o:=1) rfl) (op 28 (iv (w64 (sx12.1+1))) (op 29 (.bool (!decide (x13.1.2=(w64 (sx12.1+1))))) (ot ?_))))))
  refine cc (!decide (x13.1.2=(w64 (sx12.1+1)))) hr ?_ ?_
  ·intro hc hr
   refine csr (op 4 (iv (-1)) (ot (crt (zb (zf (zb ?_))))))
   have hx:=hdx12 _ (sj hr).symm
   subst hx
   replace hr:=hrx12
   refine zt (zf (zb ?_))
   obtain rfl:=sj hr
   refine rt [.tmp 4] [iv (-1)] ⟨rfl,trivial⟩ ?_
   exact ⟨rfl,rfl,(show I64 (-1) by unfold I64;omega)⟩
  intro hc hr
  refine ckt (csr (op 30 (iv (w64 (sx12.1+1))) (op 31 (iv (w64 ((w64 (sx12.1+1))+1))) (op 1 (iv (w64 ((w64 (sx12.1+1))+1))) (ot (cs (csr (op 32 (sl a1 p0.length c2) (op 33 (iv sx12.2) ?_)))))))))
  obtain ⟨x25,hx25,hr⟩:=bind_some hr
  have eqx25:x13=x25:=sj (hx13.symm.trans hx25);subst eqx25
  have hx25q:=hx25
  obtain ⟨b26,o27,eab26,i0x25,i1x25,csx25,p_b26,owx25⟩:=f3.idx hx25
  obtain ⟨_,_,rfl,⟨_,_,rfl,⟨rfl,hb28⟩,⟨rfl,hb29⟩⟩,⟨rfl,hb30⟩⟩:=owx25
  replace p_b26:PubAt κ b26 (o27+sx12.2.toNat*3) [iv x13.1.1,iv x13.1.2,iv x13.2]:=p_b26
  refine oi 34 26 108 3 p0.length c2 .i64 sx12.2 eab26 i0x25 i1x25 (op 35 (pt b26 (o27+sx12.2.toNat*3+2)) (o1 36 2 (iv x13.2) (p_b26.at.one (o:=2) rfl) (op 37 (iv (w64 ((w64 (sx12.1+1))+1))) (op 38 (.bool (!decide (x13.2=(w64 ((w64 (sx12.1+1))+1))))) (ot ?_)))))
  refine cc (!decide (x13.2=(w64 ((w64 (sx12.1+1))+1)))) hr ?_ ?_
  ·intro hc hr
   refine csr (op 4 (iv (-1)) (ot (crt (zb (zf (zb ?_))))))
   have hx:=hdx12 _ (sj hr).symm
   subst hx
   replace hr:=hrx12
   refine zt (zf (zb ?_))
   obtain rfl:=sj hr
   refine rt [.tmp 4] [iv (-1)] ⟨rfl,trivial⟩ ?_
   exact ⟨rfl,rfl,(show I64 (-1) by unfold I64;omega)⟩
  intro hc hr
  refine ckt (cr (op 39 (iv (w64 ((w64 (sx12.1+1))+1))) (op 40 (iv (w64 ((w64 ((w64 (sx12.1+1))+1))+1))) (op 1 (iv (w64 ((w64 ((w64 (sx12.1+1))+1))+1))) (oe (zd (za (cr (op 10 (iv sx12.2) ?_)))))))))
  refine op 11 (iv (w64 (sx12.2+1))) (op 5 (iv (w64 (sx12.2+1))) (oe ?_))
  exact ze (sj hr).symm ⟨⟨_,(eA 5 (eA 1 (eA 0 rfl)))⟩,rfl,(zq _),(zq _)⟩
 intro hc hr
 refine cx 0 (zh ?_)
 have hx:=hdx12 _ (sj hr).symm
 subst hx
 replace hr:=hrx12
 refine zi ?_
 exact zr (eA 1 rfl) (J1 sx12.1  _ hb7 hr)
theorem zjI {κ:K} {p0:LP} {a1:OA} {c2:Nat} {p1:Int} (f3:Sl tPlaced κ a1 c2 p0) (hb4:I64 p1) {r:Int} (hr:zf3 p0 p1=some r) :
 Fn Tryz.prog 21 #[.agg #[sl a1 p0.length c2],iv p1] κ (fun v κ'=>Step [] κ κ'∧v=iv r∧I64 r):=by
 refine fnc 12 [] Tryz.func21 Tryz.ntmps21 fun hs=>csr (zv (d:=2) (T:=28) (κ.H.size,21001) hs.1 (.agg #[sl a1 p0.length c2]) [sl a1 p0.length c2] kr kr rfl fun b6 κ7 s8 B_b6=>?_)
 replace hs:=hs.tr0 s8
 refine op 4 (iv 0) (otx (op 5 (pt b6 0) (o1 6 26 (sl a1 p0.length c2) (B_b6.at.one (o:=0) rfl) (op 7 (iv p1) ?_))))
 obtain ⟨x9,hx9,hr⟩:=bind_some hr
 refine ocl 8 (zkk (f3.step hs) hb4 hx9) ?_
 rintro _ _ ⟨rfl,rfl,hb10⟩
 refine op 1 (iv x9) (ot (cs (csr (op 9 (iv x9) (op 10 (bW (x9<0)) (ot ?_))))))
 refine cc (decide (x9<0)) hr ?_ ?_
 ·intro hc hr
  refine csr (op 4 (iv (-1)) (ot (crt (zb ?_))))
  obtain rfl:=sj hr
  refine rt [.tmp 4] [iv (-1)] ⟨rfl,trivial⟩ ?_
  exact ⟨hs,rfl,(show I64 (-1) by unfold I64;omega)⟩
 intro hc hr
 refine ckt (csr (op 11 (iv x9) (op 4 (iv x9) (ot (crt ?_)))))
 obtain rfl:=sj hr
 refine rt [.tmp 4] [iv x9] ⟨rfl,trivial⟩ ?_
 exact ⟨hs,rfl,hb10⟩
theorem zkK {κ:K} {p0:TS×(LP)×Int} {a1:OA} {c2:Nat} {a4:OA} {c5:Nat} {a7:OA} {c8:Nat} {p1:Int} (f3:Sl tGlue κ a1 c2 p0.1.1) (f6:Sl zQ κ a4 c5 p0.1.2) (f9:Sl tPlaced κ a7 c8 p0.2.1) (hb10:I64 p0.2.2) (hb11:I64 p1) {r:Int} (hr:zfc p0 p1=some r) :
 Fn Tryz.prog 8 #[.agg #[sl a1 p0.1.1.length c2,sl a4 p0.1.2.length c5,sl a7 p0.2.1.length c8,iv p0.2.2],iv p1] κ (fun v κ'=>Step [] κ κ'∧v=iv r∧I64 r):=by
 refine fnc 18 [] Tryz.func8 Tryz.ntmps8 fun hs=>csr (zv (d:=2) (T:=30) (κ.H.size,8001) hs.1 (.agg #[sl a1 p0.1.1.length c2,sl a4 p0.1.2.length c5,sl a7 p0.2.1.length c8,iv p0.2.2]) [sl a1 p0.1.1.length c2,sl a4 p0.1.2.length c5,sl a7 p0.2.1.length c8,iv p0.2.2] kr kr rfl fun b13 κ14 s15 B_b13=>?_)
 replace hs:=hs.tr0 s15
 refine op 4 (iv 0) (otx (op 5 (pt b13 0) (oN 6 25 [sl a1 p0.1.1.length c2,sl a4 p0.1.2.length c5] (B_b13.at.part 0 2).2 (op 7 (iv p1) ?_))))
 obtain ⟨x16,hx16,hr⟩:=bind_some hr
 refine ocl 8 (zkj (f3.step hs) (f6.step hs) hb11 hx16) ?_
 rintro _ κ18 ⟨s19,rfl,hb17⟩
 replace hs:=hs.tr0 s19
 replace B_b13:=B_b13.step0 s19
 refine op 1 (iv x16) (ot (cs (csr (op 9 (iv x16) (op 10 (bW (x16<0)) (ot ?_))))))
 refine cc (decide (x16<0)) hr ?_ ?_
 ·intro hc hr
  refine csr (op 4 (iv (-1)) (ot (crt (zb ?_))))
  obtain rfl:=sj hr
  refine rt [.tmp 4] [iv (-1)] ⟨rfl,trivial⟩ ?_
  exact ⟨hs,rfl,(show I64 (-1) by unfold I64;omega)⟩
 intro hc hr
 refine ckt (csr (op 11 (pt b13 2) (oN 12 28 [sl a7 p0.2.1.length c8] (B_b13.at.part 2 1).2 (op 13 (iv x16) ?_))))
 obtain ⟨x20,hx20,hr⟩:=bind_some hr
 refine ocl 14 (zjI (f9.step hs) hb17 hx20) ?_
 rintro _ κ22 ⟨s23,rfl,hb21⟩
 replace hs:=hs.tr0 s23
 refine op 1 (iv x20) (ot (cs (csr (op 15 (iv x20) (op 16 (bW (x20<0)) (ot ?_))))))
 refine cc (decide (x20<0)) hr ?_ ?_
 ·intro hc hr
  refine csr (op 4 (iv (-1)) (ot (crt (zb ?_))))
  obtain rfl:=sj hr
  refine rt [.tmp 4] [iv (-1)] ⟨rfl,trivial⟩ ?_
  exact ⟨hs,rfl,(show I64 (-1) by unfold I64;omega)⟩
 intro hc hr
 refine ckt (csr (op 17 (iv x20) (op 4 (iv x20) (ot (crt ?_)))))
 obtain rfl:=sj hr
 refine rt [.tmp 4] [iv x20] ⟨rfl,trivial⟩ ?_
 exact ⟨hs,rfl,hb21⟩
end Go.Lf
