import Derived.Test.YtfdinifiacaicaaGreatC
import Derived.Test.YtfdinifiacaicaaGreatB
import Derived.Test.YtfdinifiacaicaaGreatG
set_option linter.all false
set_option maxRecDepth 100000
set_option maxHeartbeats 4000000
namespace Go.Lf
open Go Go.Proofs
structure Cry (τ:Tag) (κ:K) (b bm bo:Nat) (q:CrySt):Prop where
 ex:∃ a1 c1 a2 c2 a3 c3,Box τ κ b [sl a1 q.1.1.1.length c1,sl a2 q.1.1.2.length c2,sl a3 q.1.2.1.length c3,iv q.1.2.2,.map (some bm),.map (some bo)] 300∧
  Sl tGlue κ a1 c1 q.1.1.1∧Sl tTile κ a2 c2 q.1.1.2∧Sl tPlaced κ a3 c3 q.1.2.1
 tm:I64 q.1.2.2
 m:Mp kPt tI64 τ κ bm q.2.1
 o:Mp kPt (tSl tI64) τ κ bo q.2.2
 nd:b≠bm∧b≠bo∧bm≠bo
 kb:∀ p∈q.2.1,I64 p.1.1∧I64 p.1.2
 kc:∀ p∈q.2.2,I64 p.1.1∧I64 p.1.2
 tg:Nat.beq (τ.2 / 1000) 198=true
section
variable {τ τ':Tag} {κ κ':K} {b bm bo:Nat} {q:CrySt} {M:List Nat}
theorem Cry.own1 (h:Cry τ κ b bm bo q):Own τ κ b:=by
 obtain ⟨_,_,_,_,_,_,B,_⟩:=h.ex;exact B.o
theorem Cry.mem (h:Cry τ κ b bm bo q):∀ g∈zgt b bm bo,g<κ.H.size∧κ.tag g=τ∧τ.1≤g:=by
 intro g a
 simp only [zgt,er,List.not_mem_nil,or_false] at a
 rcases a with rfl | rfl | rfl
 ·exact ⟨h.own1.lt,h.own1.tag,h.own1.ge⟩
 ·exact ⟨h.m.lt,h.m.tag,h.m.ge⟩
 exact ⟨h.o.lt,h.o.tag,h.o.ge⟩
theorem Cry.step (s:Step M κ κ') (hm:∀ g∈zgt b bm bo,g∉M) (h:Cry τ κ b bm bo q):Cry τ κ' b bm bo q:=by
 obtain ⟨a,c,a2,c2,d,e,B,f,i,j⟩:=h.ex
 exact ⟨⟨a,c,a2,c2,d,e,B.step s (hm b (by simp [zgt])),f.step s,i.step s,j.step s⟩,h.tm,h.m.step s (hm bm (by simp [zgt])),h.o.step s (hm bo (by simp [zgt])),h.nd,h.kb,h.kc,h.tg⟩
theorem Cry.step0 (s:Step [] κ κ') (h:Cry τ κ b bm bo q):Cry τ κ' b bm bo q:=h.step s (fun _ _=>by simp)
theorem Cry.own {a:K} (h:Cry τ κ b bm bo q) (c:a.H.size≤τ.1):∀ g∈zgt b bm bo,a.H.size≤g:=fun g d=>ga c (h.mem g d).2.2
theorem Cry.nb {x:Nat} (h:Cry τ κ b bm bo q) (h':Own τ' κ x) (hn:τ'≠τ):x∉zgt b bm bo:=fun a=>hn (h'.tag.symm.trans (h.mem x a).2.1)
theorem Cry.bn {x:Nat} (h:Cry τ κ b bm bo q) (h':Own τ' κ x) (hn:τ≠τ'):∀ g∈zgt b bm bo,g∉[x]:=fun g a hx=>by
  have c:=fe.1 hx
  subst c
  exact hn ((h.mem g a).2.1.symm.trans h'.tag)
theorem Cry.gn {α:Type} {t:Ty α} {pub:Bool} {e:TypeId} {a':OA} {c':Nat} {l:List α} (h:Cry τ κ b bm bo q) (h':Gr t pub τ' κ e a' c' l) (hn:τ≠τ'):∀ g∈zgt b bm bo,g∉blk a' c':=
  fun g a hx=>hn ((h.mem g a).2.1.symm.trans (h'.lt g hx).2.1)
theorem Cry.ng {α:Type} {t:Ty α} {pub:Bool} {e:TypeId} {a':OA} {c':Nat} {l:List α} (h:Cry τ κ b bm bo q) (h':Gr t pub τ' κ e a' c' l) (hn:τ'≠τ):∀ g∈blk a' c',g∉zgt b bm bo:=
  fun g a hx=>hn ((h'.lt g a).2.1.symm.trans (h.mem g hx).2.1)
end
section
variable {τ τ' τ2 τ3:Tag} {κ κ':K} {b bm bo:Nat} {q:CrySt} {M:List Nat}
theorem Cry.putT {x:Int×Int} {y:Int} (h:Cry τ κ b bm bo q) (s:Step [bm] κ κ') (N:Mp kPt tI64 τ κ' bm (zbC q.2.1 x y)) (hx:I64 x.1∧I64 x.2):Step (zgt b bm bo) κ κ'∧Cry τ κ' b bm bo (q.1,zbC q.2.1 x y,q.2.2):=by
 obtain ⟨c,d,a2,c2,f,g,B,i,j,k⟩:=h.ex
 have a:=h.nd
 refine ⟨s.mono (fun x hx=>by simp only [fe] at hx;subst hx;simp [zgt]),⟨c,d,a2,c2,f,g,B.step s (by simpa using a.1),i.step s,j.step s,k.step s⟩,h.tm,N,h.o.step s (by simpa using Ne.symm a.2.2),h.nd,fun p hp=>?_,h.kc,h.tg⟩
 rcases zr6 p hp with e | ⟨r,l,e⟩
 ·rw [e];exact hx
 rw [←e];exact h.kb r l
theorem Cry.setO {m:List ((Int×Int)×LI)} (h:Cry τ κ b bm bo q) (s:Step [bo] κ κ') (N:Mp kPt (tSl tI64) τ κ' bo m) (hk:∀ p∈m,I64 p.1.1∧I64 p.1.2):Step (zgt b bm bo) κ κ'∧Cry τ κ' b bm bo (q.1,q.2.1,m):=by
 obtain ⟨c,d,a2,c2,e,f,B,g,i,j⟩:=h.ex
 have a:=h.nd
 exact ⟨s.mono (fun x hx=>by simp only [fe] at hx;subst hx;simp [zgt]),⟨c,d,a2,c2,e,f,B.step s (by simpa using a.2.1),g.step s,i.step s,j.step s⟩,h.tm,h.m.step s (by simpa using a.2.2),N,h.nd,h.kb,hk,h.tg⟩
theorem Cry.putO {x:Int×Int} {y:LI} (h:Cry τ κ b bm bo q) (s:Step [bo] κ κ') (N:Mp kPt (tSl tI64) τ κ' bo (zbC q.2.2 x y)) (hx:I64 x.1∧I64 x.2):Step (zgt b bm bo) κ κ'∧Cry τ κ' b bm bo (q.1,q.2.1,zbC q.2.2 x y):=
  h.setO s N fun p hp=>by
    rcases zr6 p hp with e | ⟨r,a,e⟩
    · rw [e];exact hx
    · rw [←e];exact h.kc r a
theorem Cry.delO {x:Int×Int} (h:Cry τ κ b bm bo q) (s:Step [bo] κ κ') (N:Mp kPt (tSl tI64) τ κ' bo (zko q.2.2 x)):Step (zgt b bm bo) κ κ'∧Cry τ κ' b bm bo (q.1,q.2.1,zko q.2.2 x):=
  h.setO s N fun p hp=>h.kc p (eu.1 hp).1
theorem Cry.mk' {sy:Sy} {a a2 c:OA} {d c2 e:Nat} (B:Box τ κ b [vl a sy.1.1 d,vl a2 sy.1.2 c2,vl c sy.2.1 e,iv sy.2.2,.map (some bm),.map (some bo)] 300)
 (f:Mp kPt tI64 τ2 κ bm ([]:LP)) (g:Mp kPt (tSl tI64) τ3 κ bo ([]:List ((Int×Int)×LI))) (k:Sl tGlue κ a d sy.1.1) (l:Sl tTile κ a2 c2 sy.1.2) (m:Sl tPlaced κ c e sy.2.1) (tm:I64 sy.2.2)
 (n:τ≠τ2) (p:τ≠τ3) (r:τ2≠τ3) (l2:τ.1≤τ2.1) (t:τ.1≤τ3.1) (ht:Nat.beq (τ.2 / 1000) 198=true:=by kernel_rfl):∃ κ',κ'.H=κ.H∧Step ([bm]++[bo]) κ κ'∧Cry τ κ' b bm bo (sy,[],[]):=by
 have nd:b≠bm∧b≠bo∧bm≠bo:=⟨B.o.ne f.o n,B.o.ne g.o p,f.o.ne g.o r⟩
 obtain ⟨u,i⟩:=f.retag (τ:=τ) l2
 have M2':=g.step i (by simpa using Ne.symm nd.2.2)
 obtain ⟨v,j⟩:=M2'.retag (τ:=τ) t
 have s1':Step ([bm]++[bo]) κ (κ.retag [bm] τ):=i.mono (fun x hx=>by simp only [fe] at hx;subst hx;simp)
 have s2':Step ([bm]++[bo]) (κ.retag [bm] τ) ((κ.retag [bm] τ).retag [bo] τ):=j.mono (fun x hx=>by simp only [fe] at hx;subst hx;simp)
 have s:=s1'.trans s2'
 exact ⟨(κ.retag [bm] τ).retag [bo] τ,rfl,s,⟨a,d,a2,c2,c,e,B.step s (by simp [nd.1,nd.2.1]),k.step s,l.step s,m.step s⟩,tm,u.step j (by simpa using nd.2.2),v,nd,(fun _ h=>by cases h),(fun _ h=>by cases h),ht⟩
end
theorem Cry.ntg {τ:Tag} {κ:K} {b bm bo:Nat} {q:CrySt} (h:Cry τ κ b bm bo q) {F:Nat} (hF:Nat.beq F 198=false):tsF F τ=false:=by
 have a:=fv h.tg
 unfold tsF
 rw [a]
 have c:Nat.beq τ.2 999=false:=by
   cases hb:Nat.beq τ.2 999 with
   | false=>rfl
   | true=>rw [fv hb] at a;cases a
 have d:Nat.beq 198 F=false:=by
   cases hb:Nat.beq 198 F with
   | false=>rfl
   | true=>rw [←fv hb] at hF;cases hF
 rw [c,d];rfl
theorem zyZ {kt:KT (Int×Int)} {τ:Tag} {κ:K} {b:Nat} {m:LP} (hm:Mp kt tI64 τ κ b m) (p:Int×Int):I64 (cat m p):=by
 unfold cat;split
 ·exact zxK hm
 unfold I64;omega
theorem zhb {κ:K} {τ:Tag} {b bm bo:Nat} {q:CrySt} {p:Int×Int} (C:Cry τ κ b bm bo q) (i:I64 p.1) (j:I64 p.2) {r:Int} (h:zeN q p=some r) :
 Fn Tryz.prog 204 #[pt b 0,.agg #[iv p.1,iv p.2]] κ (fun v f=>Step [] κ f∧v=iv r∧I64 r):=by
 obtain rfl:=sj h
 have hbd:=zyZ C.m p
 refine fnc 18 [] Tryz.func204 Tryz.ntmps204 fun hs=>csr (xO 3 103 (κ.H.size,204001) hs.1 [iv p.1,iv p.2] fun l k g a=>?_)
 replace hs:=hs.tr0 g
 replace C:=C.step0 g
 obtain ⟨m,n,a2,c2,s,t,B,u,w,y⟩:=C.ex
 refine dT 1 (cs (cs (cd 10 (dd 3 (d1 11 297 (.map (some bm)) (B.at.one (o:=4) rfl) (dN 12 103 [iv p.1,iv p.2] (a.at.part 0 2).2 ?_))))))
 refine zzy kPt (d:=13) (T:=297) (e:=2) (x:=p) C.m ?_ zp7
 refine dd 4 (de (dT 1 (cT 1 ?_)))
 refine cc (zgm q.2.1 p) (A:=some (cat q.2.1 p)) (B:=some (cat q.2.1 p)) (o:=some (cat q.2.1 p)) (by split<;>rfl) ?_ ?_
 ·intro c _
  have e:cat q.2.1 p=(zcT q.2.1 p).getD 0:=by unfold cat;rw [if_pos c]
  exact cT 2 (crt (zc (rT 4 (iv ((zcT q.2.1 p).getD 0)) ⟨hs,by rw [e];rfl,hbd⟩)))
 intro c _
 have e:cat q.2.1 p = -1:=by unfold cat;rw [if_neg (by rw [c];simp)]
 exact ckt (cT 1 (crt (rT 4 (iv (-1)) ⟨hs,by rw [e];rfl,hbd⟩)))
theorem zje {κ:K} {τ:Tag} {b bm bo:Nat} {q:CrySt} {p:Int×Int} {k:Int} (C:Cry τ κ b bm bo q) (f:I64 p.1) (g:I64 p.2) (l:I64 k) {r:Bool} (c:zbU q p k=some r) :
 Fn Tryz.prog 199 #[pt b 0,.agg #[iv p.1,iv p.2],iv k] κ (fun v m=>Step [] κ m∧v=.bool r):=by
 refine fnc 33 [] Tryz.func199 Tryz.ntmps199 fun hs=>csr (xO 4 103 (κ.H.size,199001) hs.1 [iv p.1,iv p.2] fun M J n a=>?_)
 replace hs:=hs.tr0 n
 replace C:=C.step0 n
 refine dT 1 (cs (cx_ 24 [0,1,2,3,4,5,6,7,8,9,10,11,12,13,14,15,16,17,19,20,21,22,23,18] [1,5,18] 24 [] (xN 7 103 [iv p.1,iv p.2] a.at 0 2 rfl ?_)))
 unfold zbU at c
 refine bE c fun w t c=>xcl 8 (zkz f g t) ?_
 rintro _ L ⟨d,rfl⟩
 refine ⟨d,?_⟩
 replace hs:=hs.tr0 d
 replace C:=C.step0 d
 replace a:=a.step0 d
 refine xsp 9 w c ?_ ?_
 ·intro i c
  refine xs 10 (xs 11 (xs 12 (xs 13 ?_)))
  refine xp 14 ff (xp 15 ff ?_)
  refine xs 16 (xs 17 (xs 18 (xs 19 (xs 20 (xs 21 (xs 22 (xs 23 (xs 24 (xs 26 (xs 27 (xs 28 (xs 29 (xs 30 (xs 25 ?_))))))))))))))
  refine xe (os 31 (dT 2 (crt ?_)))
  obtain rfl:=sj c
  exact rT 6 ff ⟨hs,rfl⟩
 intro i c
 refine xp 10 (pt b 0) (xN 11 103 [iv p.1,iv p.2] a.at 0 2 rfl (xcl 12 (zhb (p:=p) C f g rfl) ?_))
 rintro _ x ⟨e,rfl,hbc⟩
 refine ⟨e,?_⟩
 replace hs:=hs.tr0 e
 replace C:=C.step0 e
 replace a:=a.step0 e
 refine xp 13 (bW (cat q.2.1 p<0)) (xp 14 (bW (cat q.2.1 p<0)) ?_)
 refine xsp 15 (decide (cat q.2.1 p<0)) c ?_ ?_
 ·intro i c
  refine xs 16 (xs 17 (xs 18 (xs 19 (xs 20 (xs 21 (xs 22 (xs 23 (xs 24 (xs 26 (xs 27 (xs 28 (xs 29 (xs 30 (xs 25 ?_))))))))))))))
  refine xe (os 31 (dT 2 (crt ?_)))
  obtain rfl:=sj c
  exact rT 6 ff ⟨hs,rfl⟩
 intro i c
 obtain ⟨y,z,a2,c2,N,O,B,A,D,P⟩:=C.ex
 refine xp 16 (pt b 0) (xp 17 (pt b 0) (xp 18 (pt b 0) (xp 19 (pt b 0) (xN 20 43 [vl y q.1.1.1 z,vl a2 q.1.1.2 c2] B.at 0 2 rfl (xN 21 103 [iv p.1,iv p.2] a.at 0 2 rfl (xp 22 (iv k) (xp 23 (pt b 0) (xp 24 (.func (.func 204) #[pt b 0] #[]) (xp 26 (pt b 0) (xp 27 (pt b 0) (xp 28 (pt b 0) (xp 29 (pt b (0+3)) (x1 30 2 (iv q.1.2.2) B.at 3 rfl (bE c fun u j c=>?_))))))))))))))
 refine xcl 25 (zhm (fi3:=204) (bv3:=#[pt b 0]) (cv3:=#[]) A D f g l kr (by
   intro _ s E F G Q hp
   obtain rfl:=sj hp
   exact zig kr (zhb (p:=E) (C.step0 s) F G rfl)) j) ?_
 rintro _ H ⟨h,rfl,I⟩
 refine ⟨h,?_⟩
 replace hs:=hs.tr0 h
 replace C:=C.step0 h
 refine xe (dT 3 (crt ?_))
 obtain rfl:=sj c
 exact rT 6 (bW (u≥q.1.2.2)) ⟨hs,rfl⟩
abbrev Pnt:=Int×Int
def zpZ (m:List (Pnt×LI)) (done:List Pnt):Int:=(m.map fun p=>if p.1∈done then (p.2.length:Int) else 0).sum
def ztX (m:List (Pnt×LI)) (done:List Pnt):Nat:=(m.map fun p=>if p.1∈done then 0 else 1).sum
theorem zw8 (m:List (Pnt×LI)):zpZ m []=0:=by
 unfold zpZ;induction m with
 | nil=>rfl
 | cons p m ih=>rw [eh,List.sum_cons,ih];simp
theorem zzA {m:List (Pnt×LI)} (hnd:m.Pairwise (fun p q=>p.1≠q.1)) {p:Pnt×LI} {done:List Pnt} (hp:p∈m) (hd:p.1∉done) :
 zpZ m (p.1::done)=zpZ m done+p.2.length∧ztX m (p.1::done)+1=ztX m done:=by
 unfold zpZ ztX
 induction m with
 | nil=>cases hp
 | cons x m ih=>
   obtain ⟨a,b⟩:=fi.1 hnd
   simp only [eh,List.sum_cons]
   rcases er.1 hp with rfl | hp
   · have hsame:∀ y∈m,(y.1∈p.1::done)=(y.1∈done):=fun y hy=>by
       have:=a y hy
       simp [Ne.symm this]
     have c:(m.map fun y=>if y.1∈p.1::done then (y.2.length:Int) else 0)=m.map fun y=>if y.1∈done then (y.2.length:Int) else 0:=ef fun y hy=>by simp only [hsame y hy]
     have d:(m.map fun y=>if y.1∈p.1::done then 0 else 1)=m.map fun y=>if y.1∈done then 0 else 1:=ef fun y hy=>by simp only [hsame y hy]
     rw [c,d,if_pos (by simp),if_neg hd,if_pos (by simp),if_neg hd]
     constructor<;>omega
   · have hx:(x.1∈p.1::done)=(x.1∈done):=by
       have:=a p hp
       simp [this]
     obtain ⟨e,f⟩:=ih b hp
     simp only [hx]
     constructor<;>omega
theorem zvQ {κ:K} {τ:Tag} {b bm bo:Nat} {q:CrySt} (C:Cry τ κ b bm bo q) :
 Fn Tryz.prog 229 #[pt b 0] κ (fun v f=>Step [] κ f∧∃ done,(∀ p∈q.2.2,p.1∈done)∧v=iv (w64 (zpZ q.2.2 done))):=by
 refine fnc 20 [] Tryz.func229 Tryz.ntmps229 fun hs=>?_
 have l1:=C.own1.lt
 have l2:=C.m.lt
 have z:=C.o.lt
 obtain ⟨A,D,a2,c2,E,F,B,G,H,J⟩:=C.ex
 refine csr (op 2 (iv 0) (ot ?_))
 refine csr (op 3 (iv 0) (ot ?_))
 refine cs (cO 3 (o1 9 298 (.map (some bo)) (B.at.one (o:=5) rfl) (zyF (d:=10) (T:=298) (kd:=103) (e:=32) (κ.H.size,229001) hs.1 C.o fun r w h x n=>?_)))
 replace hs:=hs.tr0 h
 replace C:=C.step0 h
 refine ot (cb 0 ?_)
 refine zgb (fun m i f=>∃ done cur,m=ztX q.2.2 done∧Step [] κ f∧Cry τ f b bm bo q∧It (κ.H.size,229001) f r bo q.2.2 done cur∧r≠bo∧∃ j,i=ups j [(3,iv (w64 (zpZ q.2.2 done))),(10,pt r 0)]) kr _
   ⟨[],none,rfl,hs,C,n,fun e=>by omega,_,(by rw [zw8];exact eY)⟩ ?_
 rintro m i f ⟨done,cur,hm,hs,C,I,hne,j,rfl⟩
 refine csr ?_
 refine onx (d:=11) (ty:=298) C.o I hne ?_ ?_
 ·intro hall
  exact dT 1 (cs (cf (cx 0 (zh (zf (zb (cT 2 (crt (rT 2 (iv (w64 (zpZ q.2.2 done))) ⟨hs,done,hall,rfl⟩)))))))))
 intro p v y hp hnd hv k hsz l
 obtain ⟨ea,eb⟩:=zzA C.o.nd hp hnd
 have hrle:κ.H.size≤r:=I.ge
 replace hs:=hs.trB hrle k
 replace C:=C.step k (fun g s hx=>by
   have L:=fe.1 hx
   simp only [zgt,er,List.not_mem_nil,or_false] at s
   omega)
 refine dT 1 (cs (ct (ckt (cb 1 (csr (zyL (d:=13) C.o l fun u hu=>?_))))))
 obtain ⟨a,c,rfl,hsl⟩:=zsw hu
 refine dT 2 (cr (od 5 (oe (zd ?_))))
 have t:w64 (zpZ q.2.2 (p.1::done))=w64 (w64 (zpZ q.2.2 done)+(p.2.length:Int)):=by
   rw [ea,zow,zow (w64 _+_),zow (zpZ q.2.2 done)];omega
 exact ⟨ztX q.2.2 (p.1::done),by omega,p.1::done,some p,rfl,hs,C,l,hne,_,(by rw [t];exact eY)⟩
theorem zw9 {m:List (Pnt×LI)} {done:List Pnt} (h:∀ p∈m,p.1∈done):zpZ m done=(m.map fun p=>(p.2.length:Int)).sum:=by
 unfold zpZ
 congr 1
 exact ef fun p hp=>if_pos (h p hp)
theorem zmM {κ:K} {τ:Tag} {b bm bo:Nat} {q:CrySt} (C:Cry τ κ b bm bo q) {r:Int} (c:zha q=some r) :
 Fn Tryz.prog 229 #[pt b 0] κ (fun v a=>Step [] κ a∧v=iv r∧I64 r):=by
 obtain rfl:=sj c
 refine (zvQ C).mono fun v a h=>?_
 obtain ⟨hs,done,hd,rfl⟩:=h
 rw [zw9 hd]
 exact ⟨hs,rfl,zr _⟩
end Go.Lf
namespace Go.Lf
open Go Go.Proofs Go.Sort
theorem zxd {l m:List PT} (hp:l.Perm m) (hnd:m.Pairwise (fun p q=>p.1≠q.1)) {r:List PT} (c:zaB m=some r):zaB l=some r:=by
 unfold zaB at c ⊢
 split at c
 ·rename_i hle
  rw [if_pos (by rw [hp.length_eq];exact hle),←c]
  congr 1
  have h:=zr1 zxn hp (fun a b ha hb d f=>by
    rw [ltP] at d f
    have e:a.1=b.1:=by
      simp only [decide_eq_false_iff_not] at d f
      exact Prod.ext (by omega) (by omega)
    obtain ⟨i,hi⟩:=cv ha
    obtain ⟨j,hj⟩:=cv hb
    have hpw:=fj.1 hnd
    obtain ⟨li,ei⟩:=co.1 hi
    obtain ⟨lj,ej⟩:=co.1 hj
    rcases gi i j with h | h | h
    · have:=hpw i j li lj h;rw [ei,ej] at this;exact absurd e this
    · subst h;rw [←ei,←ej]
    · have:=hpw j i lj li h;rw [ei,ej] at this;exact absurd e.symm this)
  exact h
 cases c
theorem zlB {κ:K} {τ:Tag} {b bm bo:Nat} {q:CrySt} (C:Cry τ κ b bm bo q) {r:List PT} (A:zcO q=some r) :
 Fn Tryz.prog 201 #[pt b 0] κ (fun v h=>Step [] κ h∧∃ (a:OA) (c:Nat),v=.agg #[vl a r c]∧Sl tPlaced h a c r):=by
 have hlen:q.2.1.length≤1048576:=by
   unfold zcO zaB at A
   split at A
   · assumption
   · cases A
 have hnd:=C.m.nd
 refine fnc 24 [] Tryz.func201 Tryz.ntmps201 fun hs=>?_
 have l1:=C.own1.lt
 have l2:=C.m.lt
 have l3:=C.o.lt
 refine csr (xT 2 46 (κ.H.size,201001) hs.1 [sl none 0 0] fun H N n f=>?_)
 replace hs:=hs.tr0 n
 replace C:=C.step0 n
 refine ot ?_
 refine csr (op 3 (sl none 0 0) (ot ?_))
 refine cs (csr ?_)
 obtain ⟨a1,c1,a2,c2,a3,c3,B,g1,g2,g3⟩:=C.ex
 refine od 3 (o1 9 297 (.map (some bm)) (B.at.one (o:=4) rfl) (zyF (d:=10) (T:=297) (kd:=103) (e:=2) (κ.H.size,201002) hs.1 C.m fun s b0 J b1 O=>?_))
 replace hs:=hs.tr0 J
 replace C:=C.step0 J
 replace f:=f.step0 J
 refine ot (cb 0 ?_)
 refine zgb (fun m P h=>∃ done cur,m=zoq q.2.1 done∧Step [] κ h∧Cry τ h b bm bo q∧It (κ.H.size,201002) h s bm q.2.1 done cur∧s≠bm∧Box (κ.H.size,201001) h H [sl none 0 0] 46∧∃ a c l,Gr tPlaced true (κ.H.size,201003) h 105 a c l∧l.Perm (zpj q.2.1 done)∧∃ Q,P=ups Q [(2,pt H 0),(3,vl a l c),(10,pt s 0)]) kr _
   ⟨[],none,rfl,hs,C,O,fun e=>by have:=O.ge;simp only at this;omega,f,none,0,[],Gr.nil,by rw [ztZ],_,eY⟩ ?_
 rintro m P h ⟨done,cur,hm,hs,C,I,hne,f,a,c,l,G,hperm,Q,rfl⟩
 have hll:l.length≤q.2.1.length:=by rw [hperm.length_eq];exact zsZ _ _
 refine csr ?_
 refine onx (d:=11) (ty:=297) C.m I hne ?_ ?_
 ·intro hall
  refine dT 1 (cs (cf (cx 0 (zh (zf (zb ?_))))))
  rw [zt0 hall] at hperm
  refine cO 1 (ocl 23 (zoi G.sl (zxd hperm hnd A)) ?_)
  rintro _ R ⟨j,D,E,rfl,L⟩
  replace hs:=hs.tr0 j
  replace f:=f.step0 j
  refine xM 46 [vl D r E] f fun S k _ Y=>?_
  replace hs:=hs.trB f.ge k
  replace L:=L.step k
  refine ot (crt (rt [.cell 2 46] [.agg #[vl D r E]] ⟨⟨H,0,[vl D r E],rfl,rfl,kr,kr,(Y.at.part 0 1).2⟩,trivial⟩ ?_))
  exact ⟨hs,D,E,rfl,L⟩
 intro p v N hp hnd' hv n hsz i
 have hrle:κ.H.size≤s:=I.ge
 have hcm:=zrA hnd hp hnd'
 have hcl:=zsl hnd hp hnd'
 replace hs:=hs.trB hrle n
 replace f:=f.step n (by simp only [fe];exact f.o.ne I.o (zay kr))
 replace G:=G.step n (G.nbo I.o (zay kr))
 replace C:=C.step n (fun g w hx=>by
   have x:=fe.1 hx
   simp only [zgt,er,List.not_mem_nil,or_false] at w
   omega)
 refine dT 1 (cs (ct (ckt (cb 1 (csr (zyL (d:=13) C.m i fun u hu=>?_))))))
 obtain ⟨rfl,U⟩:=zoz hu
 refine od 2 (xT 4 103 (κ.H.size,201004) hs.1 [iv 0,iv 0] fun V b3 y z=>?_)
 replace hs:=hs.tr0 y
 replace C:=C.step0 y
 replace f:=f.step0 y
 replace G:=G.step0 y
 replace i:=i.step y (by simp) (by simp)
 refine xM 103 [iv p.1.1,iv p.1.2] z fun R j _ Z=>?_
 have X:V≠s:=z.o.ne i.o (zay kr)
 have M:κ.H.size≤V:=z.ge
 replace hs:=hs.trB M j
 replace C:=C.step j (fun g w hx=>by
   have x:=fe.1 hx
   simp only [zgt,er,List.not_mem_nil,or_false] at w
   omega)
 replace f:=f.step j (by simp only [fe];exact f.o.ne z.o (zay kr))
 replace G:=G.step j (G.nbo z.o (zay kr))
 replace i:=i.step j (by simpa using X.symm) (by simp only [fe];omega)
 refine dT 1 ?_
 have hbp:I64 p.1.1∧I64 p.1.2:=C.kb p hp
 refine cr (od 1 (oN 17 103 [iv p.1.1,iv p.1.2] (Z.at.part 0 2).2 (od 2 (zJ (d:=20) (T:=44) (e:=105) (t:=tPlaced) (pub:=true) (τ:=(κ.H.size,201005)) (len:=1) (l:=[p]) (parts:=#[(0,.agg #[iv p.1.1,iv p.1.2,iv p.2])]) (cs:=[iv p.1.1,iv p.1.2,iv p.2]) kr kr kr kr hs.1 rfl ⟨_,_,rfl,⟨_,_,rfl,⟨_,_,rfl,⟨rfl,hbp.1⟩,⟨rfl,hbp.2⟩⟩,⟨rfl,U⟩⟩,rfl⟩ kr fun a6 S k f6=>?_))))
 replace hs:=hs.tr0 k
 replace C:=C.step0 k
 replace f:=f.step0 k
 replace G:=G.step0 k
 replace i:=i.step k (by simp) (by simp)
 refine zH (d:=21) (T:=44) (e:=105) (t:=tPlaced) (pub:=true) (τ:=(κ.H.size,201003)) (bytes:=24) (a:=a) (cp:=c) (l:=l) (a2:=a6) (c2:=1) (l2:=[p]) (r:=l++[p]) kr kr G f6.sl hs.1 kr (by unfold app;rw [if_pos (by simp;omega)]) fun a7 c7 b5 F f7 hw=>?_
 replace hs:=hs.trG (G.own (fz _)) F
 replace C:=C.step F (fun g w hx=>by
   have x:=(G.lt g hx).2.2
   simp only [zgt,er,List.not_mem_nil,or_false] at w
   simp only at x
   omega)
 replace f:=f.step F (G.bno f.o (zay kr))
 replace i:=i.step F (G.bno i.o (zay kr)) (fun hx=>by
   have x:=(G.lt _ hx).2.2
   simp only at x
   omega)
 refine od 1 (oe (zd ?_))
 exact ⟨zoq q.2.1 (p.1::done),by omega,p.1::done,some p,rfl,hs,C,i,hne,f,a7,c7,l++[p],f7,(hperm.append_right [p]).trans hcm.symm,_,eY⟩
def ySt (s:List Pnt) (q:Pnt):Option (List Pnt):=if s.length<1048576 then some (zjP (ltOf zdG) (s++[q])) else none
theorem zzm (a b:Pnt) (c:ltOf zdG a b=false) (d:ltOf zdG b a=false):a=b:=by
 rw [ltQ] at c d
 simp only [decide_eq_false_iff_not] at c d
 exact Prod.ext (by omega) (by omega)
theorem zq1 {l l':List Pnt} (h:l.Perm l'):zjP (ltOf zdG) l=zjP (ltOf zdG) l':=zr1 zqO h fun a b _ _=>zzm a b
theorem zvd:zjP (ltOf zdG) ([]:List Pnt)=[]:=List.Perm.eq_nil (zcY zqO []).1
theorem zqm {κ:K} {J0:List Pnt→K→Prop} {F0 B0 l0:Nat} {τb τo:Tag} {bk bo:Nat} {m:List (Pnt×LI)} (Hs0:Stab F0 B0 J0)
 (Hy0:∀ {a:K} {s s':List Pnt} {q:Pnt},I64 q.1→I64 q.2→J0 s a→ySt s q=some s'→Yl Tryz.prog l0 #[.agg #[iv q.1,iv q.2]] a (fun κ''=>Step (tb F0 a) a κ''∧J0 s' κ''))
 (hJ0:J0 [] κ) (hB0:B0≤κ.H.size) (hF0:Nat.beq 249 F0=false) (Bk:Box τb κ bk [.map (some bo)] 298) (hb:tsF F0 τb=false) (Mo:Mp kPt (tSl tI64) τo κ bo m) (ho:tsF F0 τo=false)
 (hk:∀ p∈m,I64 p.1.1∧I64 p.1.2) (hm:m.length≤1048576) :
 Fn Tryz.prog 249 #[.func (.yield l0) #[] #[],pt bk 0] κ (fun v a=>Step (tb F0 κ) κ a∧v=.tuple #[]∧J0 (zjP (ltOf zdG) (m.map Prod.fst)) a):=by
 have hnd:=Mo.nd
 have lbo:=Mo.lt
 have lbk:=Bk.lt
 refine fnc 14 (tb F0 κ) Tryz.func249 Tryz.ntmps249 fun hs=>csr (o1 4 298 (.map (some bo)) (Bk.at.one (o:=0) rfl) (zyF (d:=5) (T:=298) (kd:=103) (e:=32) (κ.H.size,249001) hs.1 Mo fun f C l D z=>?_))
 replace hs:=hs.tr0 l
 replace hJ0:=Hs0.j0 hJ0 l
 replace Mo:=Mo.step0 l
 refine ot (cb 0 ?_)
 refine zgb (fun k t a=>∃ done cur,k=zoq m done∧Step (tb F0 κ) κ a∧Mp kPt (tSl tI64) τo a bo m∧It (κ.H.size,249001) a f bo m done cur∧f≠bo∧J0 (zjP (ltOf zdG) ((zpj m done).map Prod.fst)) a∧∃ w,t=ups w [(0,.func (.yield l0) #[] #[]),(5,pt f 0)]) kr _
   ⟨[],none,rfl,hs,Mo,z,fun e=>by omega,by rw [ztZ];simpa [zvd] using hJ0,_,eY⟩ ?_
 rintro k t a ⟨done,cur,hk',hs,Mo,I,hne,hJ,w,rfl⟩
 have hrge:κ.H.size≤f:=I.ge
 refine csr ?_
 refine onx (d:=6) (ty:=298) Mo I hne ?_ ?_
 ·intro hall
  refine dT 1 (cs (cf (cx 0 (zh (zf (rn [] [] trivial ?_))))))
  rw [zt0 hall] at hJ
  exact ⟨hs,rfl,hJ⟩
 intro p v E hp hnd' hv n hsz c
 have hcm:=zrA hnd hp hnd'
 have hcl:=zsl hnd hp hnd'
 replace hs:=hs.trB hrge n
 replace Mo:=Mo.step n (by simpa using hne.symm)
 replace hJ:=Hs0.jo hJ n I.o (zui hF0) (ga hB0 hrge)
 refine dT 1 (cs (ct (ckt (cb 1 (csr (zyL (d:=8) Mo c fun u hu=>od 1 (xT 3 103 (κ.H.size,249002) hs.1 [iv 0,iv 0] fun x F h i=>?_)))))))
 replace hs:=hs.tr0 h
 replace Mo:=Mo.step0 h
 replace c:=c.step h (by simp) (by simp)
 replace hJ:=Hs0.j0 hJ h
 refine xM 103 [iv p.1.1,iv p.1.2] i fun G j _ A=>?_
 have g:κ.H.size≤x:=i.ge
 have y:x≠f:=i.o.ne c.o (zay kr)
 replace hs:=hs.trB g j
 replace Mo:=Mo.step j (by simp only [fe];omega)
 replace c:=c.step j (by simpa using y.symm) (by simp only [fe];omega)
 replace hJ:=Hs0.jo hJ j i.o (zui hF0) (ga hB0 g)
 refine otx (od 1 (oN 11 103 [iv p.1.1,iv p.1.2] (A.at.part 0 2).2 ?_))
 have hlen:((zpj m done).map Prod.fst).length<1048576:=by
   have B:=hcm.length_eq
   have J:(zpj m (p.1::done)).length≤m.length:=zsZ _ _
   rw [dl,ec] at B
   rw [dv];omega
 have hy:ySt (zjP (ltOf zdG) ((zpj m done).map Prod.fst)) p.1=some (zjP (ltOf zdG) ((zpj m (p.1::done)).map Prod.fst)):=by
   unfold ySt
   rw [if_pos (by rw [(zcY zqO _).1.length_eq];exact hlen)]
   congr 1
   refine zq1 (((zcY zqO _).1.append_right _).trans ?_)
   have:=(hcm.map Prod.fst).symm
   rw [ee] at this
   exact this
 refine oyl 12 (Hy0 (hk p hp).1 (hk p hp).2 hJ hy) fun H ⟨r,hJ⟩=>?_
 replace hs:=hs.trT (by intro b hb;simp [hb]) r
 replace c:=c.step r (c.o.ntb (zsu hF0)) (Mo.o.ntb ho)
 replace Mo:=Mo.step r (Mo.o.ntb ho)
 refine dT 1 (cf (ck (zd ?_)))
 exact ⟨zoq m (p.1::done),by omega,p.1::done,some p,rfl,hs,Mo,c,hne,hJ,_,eY⟩
theorem zsK {κ:K} {bo:Nat} :
 Fn Tryz.prog 242 #[.map (some bo)] κ (fun v a=>Step [] κ a∧∃ (b N:Nat),v=.func (.func 249) #[] #[pt b 0]∧κ.H.size≤N∧Box (N,242001) a b [.map (some bo)] 298):=by
 refine fnc 4 [] Tryz.func242 Tryz.ntmps242 fun hs=>csr (zo (d:=1) (T:=298) (κ.H.size,242001) hs.1 (.map (some bo)) [.map (some bo)] kr kr rfl fun e g f c=>?_)
 replace hs:=hs.tr0 f
 exact od 1 (otx (dT 2 (crt (rT 2 (.func (.func 249) #[] #[pt e 0]) ⟨hs,_,_,rfl,fz _,c⟩))))
theorem znL {κ:K} {τb τo:Tag} {bk bo:Nat} {m:List (Pnt×LI)} (Bk:Box τb κ bk [.map (some bo)] 298) (hb:tsF 253 τb=false) (hbn:Nat.beq (τb.2 / 1000) 253=false) (Mo:Mp kPt (tSl tI64) τo κ bo m) (ho:tsF 253 τo=false)
 (hk:∀ p∈m,I64 p.1.1∧I64 p.1.2) (hm:m.length≤1048576) :
 Fn Tryz.prog 253 #[sl none 0 0,.func (.func 249) #[] #[pt bk 0]] κ (fun v i=>Step [] κ i∧∃ (a:OA) (c:Nat) (l:List Pnt) (N:Nat),v=vl a l c∧κ.H.size≤N∧Gr tPoint false (N,253001) i 103 a c l∧l.Perm (zjP (ltOf zdG) (m.map Prod.fst))):=by
 refine zzg 13 [] Tryz.func253 Tryz.ntmps253 fun hs=>csM (cr (zo (d:=2) (T:=170) (κ.H.size,253002) hs.1 (sl none 0 0) [sl none 0 0] kr kr rfl fun C Z I Q=>?_))
 replace hs:=hs.tr0 I
 replace Bk:=Bk.step0 I
 replace Mo:=Mo.step0 I
 refine od 1 (oe (tMn (csB (cr (od 1 (oe (tBn ?_)))))))
 have u:=hs.1
 refine zu0 (id:=0) (g:=.tmp 6) (ps:=[7]) (gf:=249) (lb:=#[pt bk 0]) 253 κ.H.size (fun (s:List Pnt) (i:K)=>∃ (a:OA) (c:Nat) (l:List Pnt),l.Perm s∧Step [] κ i∧Gr tPoint false (κ.H.size,253001) i 103 a c l∧Box (κ.H.size,253002) i C [vl a l c] 170) (fun i (q:Pnt)=>I64 q.1∧I64 q.2) (fun i (q:Pnt) vs=>vs=[.agg #[iv q.1,iv q.2]]) ySt [] (zjP (ltOf zdG) (m.map Prod.fst)) hs.1 ?_ ⟨_,_,[],List.Perm.refl _,hs,Gr.nil,Q⟩ ?_ ?_ ?_
 ·intro s κa κb M hj st hM
  obtain ⟨a,c,l,hp,hs,f,B⟩:=hj
  exact ⟨a,c,l,hp,hs.trZ st hM,f.stepZ st hM kr,B.stepZ st hM kr⟩
 ·intro l0 N a0 a1 k s s' q vs hN Rl hj hok henc w
  obtain ⟨a,c,l,hp,hs,f,B⟩:=hj
  obtain ⟨L,O⟩:=hok
  subst henc
  unfold ySt at w
  have hsl:s.length<1048576:=by
    by_cases h:s.length<1048576
    · exact h
    · rw [if_neg h] at w;cases w
  rw [if_pos hsl] at w
  obtain rfl:=sj w
  refine ⟨rfl,fun inst hds=>?_⟩
  have go_N:κ.H.size≤N:=ga u hN
  have hy:Step (tb 253 k) k k:=Step.refl _ _
  refine zk (eA 7 (v:=.agg #[iv q.1,iv q.2]) (eA 2 (v:=pt C 0) rfl)) (cr (xT 5 103 (κ.H.size,253003) hs.1 [iv 0,iv 0] fun b5 a3 x j=>?_))
  replace hy:=hy.tr0 x
  replace hs:=hs.tr0 x
  replace f:=f.step0 x
  replace B:=B.step0 x
  replace Rl:=Rl.step0 x
  refine xM 103 [iv q.1,iv q.2] j fun a4 y _ R=>?_
  replace hy:=hy.trY (j.o.tb1 kr) y
  replace hs:=hs.trB j.ge y
  replace f:=f.step y (f.nb j (zay kr))
  replace B:=B.step y (nm1 (B.ne j (zay kr)))
  replace Rl:=Rl.step y (nm1 (Rl.o.ne j.o (zl kr)))
  replace j:=R
  refine oe (rfb Rl fun a5 z NRl=>?_)
  replace hy:=hy.trY (Rl.o.tb1 kr) z
  replace hs:=hs.trB (ga go_N Rl.ge) z
  replace f:=f.step z (f.nbo Rl.o (zl kr))
  replace B:=B.step z (nm1 (B.o.ne Rl.o (zl kr)))
  replace j:=j.step z (nm1 (j.o.ne Rl.o (zl kr)))
  replace Rl:=NRl
  refine cb 1 (cr (o1 8 170 (vl a l c) (B.at.one (o:=0) rfl) (oN 9 103 [iv q.1,iv q.2] (j.at.part 0 2).2 (zJ (d:=10) (T:=170) (e:=103) (t:=tPoint) (pub:=true) (τ:=(κ.H.size,253004)) (len:=1) (l:=[q]) (parts:=#[(0,.agg #[iv q.1,iv q.2])]) (cs:=[iv q.1,iv q.2]) kr kr kr kr hs.1 rfl ⟨_,_,rfl,⟨_,_,rfl,⟨rfl,L⟩,⟨rfl,O⟩⟩,rfl⟩ kr fun S a6 A U=>?_))))
  replace hy:=hy.tr0 A
  replace hs:=hs.tr0 A
  replace f:=f.step0 A
  replace B:=B.step0 A
  replace Rl:=Rl.step0 A
  refine zH (d:=11) (T:=170) (e:=103) (t:=tPoint) (pub:=false) (τ:=(κ.H.size,253001)) (bytes:=16) (a:=a) (cp:=c) (l:=l) (a2:=S) (c2:=1) (l2:=[q]) (r:=l++[q]) kr kr f U.sl hs.1 kr (by unfold app;rw [if_pos (by rw [hp.length_eq];simp;omega)]) fun E F a7 G H hw=>?_
  replace hy:=hy.trY (f.tb1 kr) G
  replace hs:=hs.trG (f.own (fz _)) G
  replace B:=B.step G (f.bn B (zay kr))
  replace Rl:=Rl.step G (f.bno Rl.o (zl kr))
  refine zm (b:=C) (off:=0) (T:=170) (sl E (l++[q]).length F) [sl E (l++[q]).length F] [sl E (l++[q]).length F] kr kr B rfl kr kr kr rfl fun V n _ NB=>?_
  replace hy:=hy.trY (B.o.tb1 kr) n
  replace hs:=hs.trB B.ge n
  replace H:=H.step n (H.nb B (zay kr))
  replace Rl:=Rl.step n (nm1 (Rl.o.ne B.o (zl kr)))
  refine oe (zd ?_)
  exact rfe Rl hy ⟨E,F,l++[q],(hp.append_right [q]).trans (zcY zqO _).1.symm,hs,H,NB⟩
 ·intro J' l1 b0 J Hs Hy hJ
  exact (zqm (J0:=J') (F0:=253) (B0:=κ.H.size) (l0:=l1) Hs (fun {i s s' q} X Y hj he=>Hy (a:=q) hj ⟨X,Y⟩ rfl he) hJ (ga u J.1) kr (Bk.step0 J) hb (Mo.step0 J) ho hk hm).mono fun _ _ h=>h.2.2
 intro N D k hN Md hj inst hds
 obtain ⟨a,c,l,hp,hs,f,B⟩:=hj
 have go_N:κ.H.size≤N:=ga u hN
 refine zk (eA 2 (v:=pt C 0) rfl) (csr (o1 12 170 (vl a l c) (B.at.one (o:=0) rfl) (dT 1 (crt (rtM Md fun b1 P _=>?_)))))
 replace hs:=hs.trB (ga go_N Md.ge) P
 replace f:=f.step P (f.nbo Md.o (zl kr))
 exact rT 4 (vl a l c) ⟨hs,a,c,l,κ.H.size,rfl,fz _,f,hp⟩
theorem zoK {κ:K} {τb τo:Tag} {bk bo:Nat} {m:List (Pnt×LI)} (Bk:Box τb κ bk [.map (some bo)] 298) (hb:tsF 253 τb=false) (hbn:Nat.beq (τb.2 / 1000) 253=false) (Mo:Mp kPt (tSl tI64) τo κ bo m) (ho:tsF 253 τo=false)
 (hk:∀ p∈m,I64 p.1.1∧I64 p.1.2) (hm:m.length≤1048576) :
 Fn Tryz.prog 247 #[.func (.func 249) #[] #[pt bk 0]] κ (fun v b=>Step [] κ b∧∃ (a:OA) (c:Nat) (l:List Pnt) (N:Nat),v=vl a l c∧κ.H.size≤N∧Gr tPoint false (N,253001) b 103 a c l∧l.Perm (zjP (ltOf zdG) (m.map Prod.fst))):=by
 refine fnc 5 [] Tryz.func247 Tryz.ntmps247 fun hs=>cO 1 (otx (od 1 (ocl 4 (znL Bk hb hbn Mo ho hk hm) ?_)))
 rintro _ e ⟨d,a,c,l,N,rfl,hN,f,hp⟩
 replace hs:=hs.tr0 d
 exact dT 1 (crt (rT 2 (vl a l c) ⟨hs,a,c,l,N,rfl,hN,f,hp⟩))
theorem zmZ {κ:K} {τb τo:Tag} {bk bo:Nat} {m:List (Pnt×LI)} (Bk:Box τb κ bk [.map (some bo)] 298) (hb:tsF 253 τb=false) (hbn:Nat.beq (τb.2 / 1000) 253=false) (Mo:Mp kPt (tSl tI64) τo κ bo m) (ho:tsF 253 τo=false)
 (hk:∀ p∈m,I64 p.1.1∧I64 p.1.2) (hm:m.length≤1048576) :
 Fn Tryz.prog 241 #[.func (.func 249) #[] #[pt bk 0],.func (.func 137) #[] #[]] κ (fun v b=>Step [] κ b∧∃ (a:OA) (c:Nat) (N:Nat),v=sl a (zjP (ltOf zdG) (m.map Prod.fst)).length c∧κ.H.size≤N∧Gr tPoint false (N,253001) b 103 a c (zjP (ltOf zdG) (m.map Prod.fst))):=by
 refine fnc 12 [] Tryz.func241 Tryz.ntmps241 fun hs=>cO 1 (otx (od 1 (ocl 7 (zoK Bk hb hbn Mo ho hk hm) ?_)))
 rintro _ k ⟨g,a,c,l,N,rfl,hN,f,hp⟩
 replace hs:=hs.tr0 g
 have hl:l.length≤1048576:=by rw [hp.length_eq,(zcY zqO _).1.length_eq,dv];exact hm
 have i:zjP (ltOf zdG) l=zjP (ltOf zdG) (m.map Prod.fst):=zq1 (hp.trans (zcY zqO _).1)
 refine od 1 (otx (od 2 (ocl 10 (zwd (fun inst κ x y=>(zh7 (zrx x y)).mono fun v b h=>⟨h.1,h.2.1⟩) f hl) ?_)))
 rintro _ e ⟨j,rfl,d⟩
 replace hs:=hs.trG (f.own hN) j
 replace d:Gr tPoint false (N,253001) e 103 a c (zjP (ltOf zdG) l):=d
 have hll:l.length=(zjP (ltOf zdG) l).length:=(zcY zqO l).1.length_eq.symm
 refine otx (dT 2 (crt (rt [.tmp 4] [vl a l c] ⟨kr,trivial⟩ ?_)))
 rw [i] at d hll
 exact ⟨hs,a,c,N,by rw [←hll];rfl,hN,d⟩
theorem znj {κ:K} {τ:Tag} {b bm bo:Nat} {q:CrySt} (C:Cry τ κ b bm bo q) {r:List PT} (J:zdx q=some r) :
 Fn Tryz.prog 236 #[pt b 0] κ (fun v f=>Step [] κ f∧∃ (a:OA) (c:Nat),v=vl a r c∧Sl tPlaced f a c r):=by
 unfold zdx at J
 split at J
 case isFalse=>cases J
 rename_i hb
 obtain ⟨hm,hfit⟩:=hb
 obtain ⟨F,hF⟩:∃ F:Pnt→List PT,F=fun p=>((zcT q.2.2 p).getD []).map fun k=>(p,k):=⟨_,rfl⟩
 obtain ⟨ks,hks⟩:∃ ks,ks=zjP (ltOf zdG) (q.2.2.map Prod.fst):=⟨_,rfl⟩
 have hr':ks.flatMap F=r:=by rw [hks,hF];exact sj J
 have hkp:ks.Perm (q.2.2.map Prod.fst):=by rw [hks];exact (zcY zqO _).1
 have hkl:ks.length≤100000:=by rw [hkp.length_eq,dv];exact hm
 have hkm:∀ p∈ks,∃ y,zcT q.2.2 p=some y∧y.length≤100000∧I64 p.1∧I64 p.2:=fun p hp=>by
   obtain ⟨e,he,rfl⟩:=ey.1 (hkp.mem_iff.1 hp)
   obtain ⟨j,hj⟩:=cv he
   exact ⟨e.2,(zuT C.o.nd hj).1,hfit e he,C.kc e he⟩
 have hFl:∀ l:List Pnt,(∀ p∈l,p∈ks)→(l.flatMap F).length≤l.length*100000:=by
   intro l
   induction l with
   | nil=>intro _;simp
   | cons p l ih=>
     intro hl
     obtain ⟨y,M,N,_⟩:=hkm p (hl p (by simp))
     have O:=ih fun x hx=>hl x (by simp [hx])
     rw [ca,dl,dm]
     have:(F p).length=y.length:=by rw [hF];simp [M]
     omega
 refine fnc 39 [] Tryz.func236 Tryz.ntmps236 fun hs=>?_
 have l1:=C.own1.lt
 have l2:=C.m.lt
 have l3:=C.o.lt
 obtain ⟨a1,c1,a2,c2,a3,c3,B,g1,g2,g3⟩:=C.ex
 refine csr (op 2 (sl none 0 0) (ot ?_))
 refine csr (op 3 (sl none 0 0) (ot ?_))
 refine cs (cO 3 (o1 11 298 (.map (some bo)) (B.at.one (o:=5) rfl) (ocl 12 (zsK (bo:=bo)) ?_)))
 rintro _ d4 ⟨X,bk,N1,rfl,d5,Bk⟩
 replace hs:=hs.tr0 X
 replace C:=C.step0 X
 refine ocl 13 (zmZ Bk kr kr C.o (C.ntg kr) C.kc (by omega)) ?_
 rintro _ d6 ⟨Y,ak,ck,Z,rfl,a0,fk⟩
 have hN2':κ.H.size≤Z:=ga hs.1 a0
 replace hs:=hs.tr0 Y
 replace C:=C.step0 Y
 rw [←hks] at fk ⊢
 have hnotin:∀ (f:K),Cry τ f b bm bo q→Gr tPoint false (Z,253001) f 103 ak ck ks→∀ g∈zgt b bm bo,g∉blk ak ck:=fun f C' f' g hg hx=>by
   have M:=(f'.lt g hx).2.1
   have N:=(C'.mem g hg).2.1
   rw [M] at N
   have O:=fv C.tg
   rw [←N] at O
   exact absurd (show (253001:Nat) / 1000=198 from O) (by decide)
 refine zm6 fk fun d7 s3 fk'=>?_
 replace hs:=hs.trG (fk.own hN2') s3
 replace C:=C.step s3 (hnotin _ C fk)
 have fks:=fk'.sl
 refine dT 2 (cb 0 ?_)
 refine zgb (fun n D f=>∃ i,n+i=ks.length∧Step [] κ f∧Cry τ f b bm bo q∧Sl tPoint f ak ck ks∧∃ a c out,Gr tPlaced true (κ.H.size,236001) f 110 a c out∧out=(ks.take i).flatMap F∧∃ E,D=ups E [(0,pt b 0),(3,vl a out c),(13,vl ak ks ck),(14,iv (ks.length:Int)),(15,iv (i:Int))]) kr ks.length
   ⟨0,rfl,hs,C,fks,none,0,[],Gr.nil,by simp,_,eY⟩ ?_
 rintro n D f ⟨i,hi,hs,C,fks,a,c,out,G,hout,E,rfl⟩
 refine cT 1 (cs ?_)
 refine cc (decide ((i:Int)<(ks.length:Int))) (A:=some ()) (B:=some ()) (o:=some ()) (by split<;>rfl) ?_ ?_
 case refine_2=>
   intro u _
   replace u:=of_decide_eq_false u
   have hii:i=ks.length:=by omega
   subst hii
   rw [fq] at hout
   refine cx 0 ?_
   refine zh ?_
   refine zf ?_
   refine zb ?_
   refine csr ?_
   refine op 38 (vl a out c) ?_
   refine op 2 (vl a out c) ?_
   refine ot ?_
   refine crt ?_
   refine rt [.tmp 2] [vl a out c] ⟨kr,trivial⟩ ?_
   rw [←hr',←hout]
   exact ⟨hs,a,c,rfl,G.sl⟩
 intro u _
 replace u:=of_decide_eq_true u
 have hil:i<ks.length:=by omega
 have hx:idx ks (i:Int)=some ks[i]:=by unfold idx;rw [if_pos (by omega)];simp [hil]
 obtain ⟨p,hp⟩:∃ p,p=ks[i]:=⟨_,rfl⟩
 rw [←hp] at hx
 obtain ⟨y,hy,hyl,a5,a6⟩:=hkm p (by rw [hp];exact dj hil)
 have hFp:F p=y.map fun k=>(p,k):=by rw [hF];simp [hy]
 have htake:(ks.take (i+1)).flatMap F=(ks.take i).flatMap F++F p:=by
   rw [fp,cm hil,bz,←hp];simp
 have b2:out.length≤100000*100000:=by
   rw [hout]
   have:=hFl (ks.take i) (fun x hx=>List.mem_of_mem_take hx)
   rw [ed] at this
   exact ga this (gj _ (by omega))
 obtain ⟨vy,hvy,hrun⟩:=zwI (T:=298) (kd:=103) (e:=32) C.o kr zp7 hy
 obtain ⟨ay,cy,rfl,fy⟩:=zsw hvy
 refine ckt (cs (cb 1 (csr ?_)))
 obtain ⟨bx,ox,eab,i0,i1,_,p_b,own⟩:=fks.idx hx
 obtain ⟨_,_,rfl,⟨rfl,_⟩,⟨rfl,_⟩⟩:=own
 refine oi 17 170 103 2 ks.length ck .i64 (i:Int) eab i0 i1 (oN 18 103 [iv p.1,iv p.2] (p_b.at.part 0 2).2 (xT 5 103 (κ.H.size,236002) hs.1 [iv 0,iv 0] fun P d8 H m=>?_))
 replace hs:=hs.tr0 H
 replace C:=C.step0 H
 replace fks:=fks.step H
 replace G:=G.step0 H
 replace fy:=fy.step H
 refine xM 103 [iv p.1,iv p.2] m fun d9 w _ N5=>?_
 have Q:κ.H.size≤P:=m.ge
 replace hs:=hs.trB Q w
 replace C:=C.step w (C.bn m.o (fun e=>by have:=fv C.tg;rw [e] at this;exact absurd (show (236002:Nat) / 1000=198 from this) (by decide)))
 replace fks:=fks.step w
 replace G:=G.step w (G.nb m (zay kr))
 replace fy:=fy.step w
 replace m:=N5
 obtain ⟨vy,hvy,hrun⟩:=zwI (T:=298) (kd:=103) (e:=32) C.o kr zp7 hy
 obtain ⟨ay,cy,rfl,fy⟩:=zsw hvy
 obtain ⟨a1,c1,a2,c2,a3,c3,B,g1,g2,g3⟩:=C.ex
 refine ot (cs (cd 8 (dd 3 (d1 22 298 (.map (some bo)) (B.at.one (o:=5) rfl) (dN 23 103 [iv p.1,iv p.2] (m.at.part 0 2).2 (zzx (kt:=kPt) (d:=24) (T:=298) (kd:=103) (e:=32) (x:=p) (b:=bo) (vl ay y cy) hrun (dd 2 (de (oe (zb (cb 2 ?_)))))))))))
 refine zgb (fun R D f=>∃ j,R+j=y.length∧Step [] κ f∧Cry τ f b bm bo q∧Sl tPoint f ak ck ks∧Sl tI64 f ay cy y∧Box (κ.H.size,236002) f P [iv p.1,iv p.2] 103∧∃ a c h,Gr tPlaced true (κ.H.size,236001) f 110 a c h∧h=out++(y.take j).map (fun k=>(p,k))∧∃ E,D=ups E [(0,pt b 0),(3,vl a h c),(5,pt P 0),(13,vl ak ks ck),(14,iv (ks.length:Int)),(15,iv (i:Int)),(24,vl ay y cy),(25,iv (y.length:Int)),(26,iv (j:Int))]) kr y.length
   ⟨0,rfl,hs,C,fks,fy,m,a,c,out,G,by simp,_,eY⟩ ?_
 clear hs C fks fy m N5 G B hrun hvy w
 rintro R D f ⟨j,hj,hs,C,fks,fy,m,a,c,h,G,s,E,rfl⟩
 refine cT 1 (cs ?_)
 refine cc (decide ((j:Int)<(y.length:Int))) (A:=some ()) (B:=some ()) (o:=some ()) (by split<;>rfl) ?_ ?_
 case refine_2=>
   intro u _
   replace u:=of_decide_eq_false u
   have hjj:j=y.length:=by omega
   subst hjj
   rw [fq,←hFp,hout,←htake] at s
   refine cx 2 ?_
   refine zh ?_
   refine zf ?_
   refine zd ?_
   refine zb ?_
   refine cr ?_
   have hw:w64 ((i:Int)+1)=((i+1:Nat):Int):=by rw [zsr ⟨by omega,by omega⟩];omega
   refine op 37 (iv (w64 ((i:Int)+1))) ?_
   refine op 15 (iv (w64 ((i:Int)+1))) ?_
   refine oe ?_
   exact ⟨n - 1,by omega,i+1,by omega,hs,C,fks,a,c,h,G,s,_,(by rw [←hw];exact eY)⟩
 intro u _
 replace u:=of_decide_eq_true u
 have hjl:j<y.length:=by omega
 have L:idx y (j:Int)=some y[j]:=by unfold idx;rw [if_pos (by omega)];simp [hjl]
 obtain ⟨k,hk⟩:∃ k,k=y[j]:=⟨_,rfl⟩
 rw [←hk] at L
 have htk:y.take (j+1)=y.take j++[k]:=by rw [fp,cm hjl,←hk];rfl
 have e0:h.length≤100000*100000+100000:=by rw [s,dl,dv,ed];omega
 refine ckt (cs (cb 3 (csr ?_)))
 obtain ⟨e1,e2,S,b0,b1,_,U,V⟩:=fy.idx L
 obtain ⟨rfl,hbk⟩:=V
 refine oi 28 32 2 1 y.length cy .i64 (j:Int) S b0 b1 (o1 29 2 (iv k) (U.at.one (o:=0) rfl) (od 1 (otr (od 1 (oN 31 103 [iv p.1,iv p.2] (m.at.part 0 2).2 (od 2 (zJ (d:=34) (T:=49) (e:=110) (t:=tPlaced) (pub:=true) (τ:=(κ.H.size,236003)) (len:=1) (l:=[(p,k)]) (parts:=#[(0,.agg #[iv p.1,iv p.2,iv k])]) (cs:=[iv p.1,iv p.2,iv k]) kr kr kr kr hs.1 rfl ⟨_,_,rfl,⟨_,_,rfl,⟨_,_,rfl,⟨rfl,a5⟩,⟨rfl,a6⟩⟩,⟨rfl,hbk⟩⟩,rfl⟩ kr fun a7 e3 z f7=>?_)))))))
 replace hs:=hs.tr0 z
 replace C:=C.step0 z
 replace fks:=fks.step z
 replace fy:=fy.step z
 replace m:=m.step0 z
 replace G:=G.step0 z
 refine zH (d:=35) (T:=49) (e:=110) (t:=tPlaced) (pub:=true) (τ:=(κ.H.size,236001)) (bytes:=24) (a:=a) (cp:=c) (l:=h) (a2:=a7) (c2:=1) (l2:=[(p,k)]) (r:=h++[(p,k)]) kr kr G f7.sl hs.1 kr (by unfold app;rw [if_pos (by simp;omega)]) fun a8 c8 e4 I f8 hw=>?_
 have hGC:∀ g∈zgt b bm bo,g∉blk a c:=C.gn G (fun e=>by have:=fv C.tg;rw [e] at this;exact absurd (show (236001:Nat) / 1000=198 from this) (by decide))
 replace hs:=hs.trG (G.own (fz _)) I
 replace C:=C.step I hGC
 replace fks:=fks.step I
 replace fy:=fy.step I
 replace m:=m.step I (G.bn m (zay kr))
 refine od 1 (oe (zd (zb (cr ?_))))
 have hw:w64 ((j:Int)+1)=((j+1:Nat):Int):=by rw [zsr ⟨by omega,by omega⟩];omega
 refine od 2 (oe ?_)
 exact ⟨R - 1,by omega,j+1,by omega,hs,C,fks,fy,m,a8,c8,h++[(p,k)],f8,by rw [htk,ee,s];simp,_,(by rw [←hw];exact eY)⟩
end Go.Lf
namespace Go.Lf
open Go Go.Proofs
def ckV (k:Int) (s1 s2 s3 s4:Value):Value:=
 if k=1 then .iface 116 (.agg #[s1]) else if k=2 then .iface 118 (.agg #[s1]) else if k=3 then .iface 119 (.agg #[s1])
 else if k=4 then .iface 122 (.agg #[s1,s2]) else if k=5 then .iface 124 (.agg #[s4]) else .iface 126 (.agg #[s3])
theorem dB {E:Env} {x:Operand} {p:Prop} [Decidable p] (h:p) (e:ev E x=.bool (decide p)):ev E x=tt:=by rw [e,decide_eq_true h]
theorem zmO {κ:K} {p0:Prf} {a2 l m g:OA} {j n p i:Nat} (c7:I64 p0.1) (f4:Sl tPlaced κ a2 j p0.2.1) (Y:Sl tPlaced κ l n p0.2.2.1) (I:Sl tI64 κ m p p0.2.2.2.1) (L:Sl (tSl tI64) κ g i p0.2.2.2.2) {r:Bool} (hr:zey p0=some r) :
 Fn Tryz.prog 35 #[.agg #[iv p0.1,vl a2 p0.2.1 j,vl l p0.2.2.1 n,vl m p0.2.2.2.1 p,vl g p0.2.2.2.2 i]] κ (fun v a4=>Step [] κ a4∧v=if r=true then ckV p0.1 (vl a2 p0.2.1 j) (vl l p0.2.2.1 n) (vl m p0.2.2.2.1 p) (vl g p0.2.2.2.2 i) else .nilIface):=by
 obtain ⟨ckv,hckv⟩:∃ x,x=ckV p0.1 (vl a2 p0.2.1 j) (vl l p0.2.2.1 n) (vl m p0.2.2.2.1 p) (vl g p0.2.2.2.2 i):=⟨_,rfl⟩
 rw [←hckv]
 refine fnc 59 [] Tryz.func35 Tryz.ntmps35 fun hs=>csr (xO 1 51 (κ.H.size,35001) hs.1 [iv p0.1,vl a2 p0.2.1 j,vl l p0.2.2.1 n,vl m p0.2.2.2.1 p,vl g p0.2.2.2.2 i] fun N c8 s1 c=>?_)
 replace hs:=hs.tr0 s1
 refine od 1 (otx (oN 6 51 [iv p0.1,vl a2 p0.2.1 j,vl l p0.2.2.1 n,vl m p0.2.2.2.1 p,vl g p0.2.2.2.2 i] (c.at.part 0 5).2 (xT 3 51 (κ.H.size,35002) hs.1 [iv 0,sl none 0 0,sl none 0 0,sl none 0 0,sl none 0 0] fun s d0 s3 a=>?_)))
 replace hs:=hs.tr0 s3
 replace c:=c.step0 s3
 refine xM 51 [iv p0.1,vl a2 p0.2.1 j,vl l p0.2.2.1 n,vl m p0.2.2.2.1 p,vl g p0.2.2.2.2 i] a fun d2 s4 _ u=>?_
 replace hs:=hs.trB a.ge s4
 replace c:=c.step s4 (nm1 (c.ne a (zay kr)))
 replace a:=u
 refine otx (od 1 (zm (b:=s) (off:=0) (T:=2) (iv 0) [iv 0] [iv 0,vl a2 p0.2.1 j,vl l p0.2.2.1 n,vl m p0.2.2.2.1 p,vl g p0.2.2.2.2 i] kr kr a rfl kr kr kr rfl fun a9 s5 _ u=>?_))
 replace hs:=hs.trB a.ge s5
 replace c:=c.step s5 (nm1 (c.ne a (zay kr)))
 replace a:=u
 refine otx (dT 1 ?_)
 refine zn (fun Z=>∀ (q:Prf) (O P Q D:OA) (R S U E:Nat) (M:Env) (w:K),Step [] κ w→q.1=0→zlT p0=q→Sl tPlaced κ O R q.2.1→Sl tPlaced κ P S q.2.2.1→Sl tI64 κ Q U q.2.2.2.1→Sl (tSl tI64) κ D E q.2.2.2.2→
     Box (κ.H.size,35002) w s [iv q.1,vl O q.2.1 R,vl P q.2.2.1 S,vl Q q.2.2.2.1 U,vl D q.2.2.2.2 E] 51→
     cwp Tryz.prog 59 (sub (zB Tryz.f35) [1,1,1,1,1]) Z (ups M [(2,.nilIface),(3,pt s 0),(4,ckv)]) w) ?_ fun J=>?_
 ·intro q O P Q D R S U E M w hs b2 hq g1 g2 g3 g4 Bq
  unfold zey at hr
  rw [hq] at hr
  refine cs (csr (oN 54 51 [iv q.1,vl O q.2.1 R,vl P q.2.2.1 S,vl Q q.2.2.2.1 U,vl D q.2.2.2.2 E] (Bq.at.part 0 5).2 (od 1 (ocl 56 (zpa (p0:=q) (p1:=(0,[],[],[],[])) (by rw [b2];unfold I64;omega) (g1.step hs) (g2.step hs) (g3.step hs) (g4.step hs) (iK 0) (Sl.nil _ _) (Sl.nil _ _) (Sl.nil _ _) (Sl.nil _ _) hr) ?_))))
  rintro _ X ⟨C,rfl⟩
  replace hs:=hs.tr0 C
  refine dT 1 ?_
  cases r with
  | false=>
    refine ct ?_
    refine csr ?_
    refine op 2 .nilIface ?_
    refine ot ?_
    refine crt ?_
    refine zc ?_
    exact rT 2 .nilIface ⟨hs,rfl⟩
  | true=>
    refine cf ?_
    refine ckt ?_
    refine csr ?_
    refine op 58 ckv ?_
    refine op 2 ckv ?_
    refine ot ?_
    refine crt ?_
    exact rT 2 ckv ⟨hs,rfl⟩
 refine cs (cO 1 (o1 9 2 (iv p0.1) (c.at.one (o:=0) rfl) (ot (cb 0 ?_))))
 refine zn (fun ZZ=>(p0.1=1∨p0.1=2∨p0.1=3)→∀ M:Env,cwp Tryz.prog 59 (sub (zB Tryz.f35) [0,1,0,1,0,1,1,1,1]) ZZ (ups M [(1,pt N 0),(2,.nilIface),(3,pt s 0)]) a9) ?_ fun JT=>?_
 ·intro hk M
  refine cO 1 (zm (b:=s) (off:=1) (T:=49) (sl none 0 0) [sl none 0 0] [iv 0,sl none 0 0,vl l p0.2.2.1 n,vl m p0.2.2.2.1 p,vl g p0.2.2.2.2 i] kr kr a rfl kr kr kr rfl fun w z _ u=>?_)
  replace hs:=hs.trB a.ge z
  replace c:=c.step z (nm1 (c.ne a (zay kr)))
  replace a:=u
  refine otx (od 1 (o1 21 49 (vl a2 p0.2.1 j) (c.at.one (o:=1) rfl) (od 1 (xT 5 116 (κ.H.size,35003) hs.1 [sl none 0 0] fun b5 X C k=>?_))))
  replace hs:=hs.tr0 C
  replace c:=c.step0 C
  replace a:=a.step0 C
  refine xM 116 [vl a2 p0.2.1 j] k fun d3 s8 _ N5=>?_
  replace hs:=hs.trB k.ge s8
  replace c:=c.step s8 (nm1 (c.ne k (zay kr)))
  replace a:=a.step s8 (nm1 (a.ne k (zay kr)))
  replace k:=N5
  refine otr (omk (d:=23) (T:=120) zrm zzn (κ.H.size,35004) hs.1 fun bm d4 V Bm=>?_)
  replace hs:=hs.tr0 V
  replace c:=c.step0 V
  replace a:=a.step0 V
  replace k:=k.step0 V
  refine oN 24 116 [vl a2 p0.2.1 j] (k.at.part 0 1).2 (od 1 (omp zrm (T:=120) (kd:=2) (e:=83) (x:=1) (y:=.iface 116 (.agg #[vl a2 p0.2.1 j])) (v:=.iface 116 (.agg #[vl a2 p0.2.1 j])) Bm ⟨rfl,rfl⟩ fun c2 F _ Nm=>?_))
  replace hs:=hs.trB Bm.ge F
  replace c:=c.step F (nm1 (c.o.ne Bm.o (zay kr)))
  replace a:=a.step F (nm1 (a.o.ne Bm.o (zay kr)))
  replace k:=k.step F (nm1 (k.o.ne Bm.o (zay kr)))
  replace Bm:=Nm
  refine oN 26 116 [vl a2 p0.2.1 j] (k.at.part 0 1).2 (od 2 (omp zrm (T:=120) (kd:=2) (e:=83) (x:=2) (y:=.iface 118 (.agg #[vl a2 p0.2.1 j])) (v:=.iface 118 (.agg #[vl a2 p0.2.1 j])) Bm ⟨rfl,rfl⟩ fun c4 G _ Nm=>?_))
  replace hs:=hs.trB Bm.ge G
  replace c:=c.step G (nm1 (c.o.ne Bm.o (zay kr)))
  replace a:=a.step G (nm1 (a.o.ne Bm.o (zay kr)))
  replace k:=k.step G (nm1 (k.o.ne Bm.o (zay kr)))
  replace Bm:=Nm
  refine oN 29 116 [vl a2 p0.2.1 j] (k.at.part 0 1).2 (od 2 (omp zrm (T:=120) (kd:=2) (e:=83) (x:=3) (y:=.iface 119 (.agg #[vl a2 p0.2.1 j])) (v:=.iface 119 (.agg #[vl a2 p0.2.1 j])) Bm ⟨rfl,rfl⟩ fun c5 H _ Nm=>?_))
  replace hs:=hs.trB Bm.ge H
  replace c:=c.step H (nm1 (c.o.ne Bm.o (zay kr)))
  replace a:=a.step H (nm1 (a.o.ne Bm.o (zay kr)))
  replace k:=k.step H (nm1 (k.o.ne Bm.o (zay kr)))
  replace Bm:=Nm
  refine od 2 (o1 34 2 (iv p0.1) (c.at.one (o:=0) rfl) (olk zrm (d:=35) (T:=120) (kd:=2) (e:=83) (x:=p0.1) (y0:=.nilIface) (.nilIface) Bm ⟨rfl,rfl⟩ fun v hv=>?_))
  have hvc:v=ckv:=by
    have b4:=(List.cons.inj hv.1).1
    rw [b4,hckv]
    rcases hk with h | h | h<;>(rw [h];rfl)
  subst hvc
  refine od 1 (oe (zd (zb ?_)))
  exact zk (eA 4 (v:=v) (eA 3 (v:=pt s 0) (eA 2 (v:=.nilIface) rfl))) (J (0,[],p0.2.2.1,p0.2.2.2.1,p0.2.2.2.2) none l m g 0 n p i _ _ hs rfl (by unfold zlT;rw [if_pos hk]) (Sl.nil _ _) Y I L a)
 refine cs (cT 2 ?_)
 refine cc (decide (p0.1=1)) (A:=some ()) (B:=some ()) (o:=some ()) (by split<;>rfl) ?_ ?_
 ·intro f _
  replace f:=of_decide_eq_true f
  refine ckt ?_
  refine ct ?_ kr (dB f kr)
  exact zk (eA 3 (v:=pt s 0) (eA 2 (v:=.nilIface) (eA 1 (v:=pt N 0) rfl))) (JT (.inl f) _)
 intro f _
 replace f:=of_decide_eq_false f
 have h1:=f
 refine cT 2 ?_
 refine cc (decide (p0.1=2)) (A:=some ()) (B:=some ()) (o:=some ()) (by split<;>rfl) ?_ ?_
 ·intro f _
  replace f:=of_decide_eq_true f
  refine ckt ?_
  refine ct ?_ kr (dB f kr)
  exact zk (eA 3 (v:=pt s 0) (eA 2 (v:=.nilIface) (eA 1 (v:=pt N 0) rfl))) (JT (.inr (.inl f)) _)
 intro f _
 replace f:=of_decide_eq_false f
 have h2:=f
 refine cr (dT 2 ?_)
 refine cc (decide (p0.1=3)) (A:=some ()) (B:=some ()) (o:=some ()) (by split<;>rfl) ?_ ?_
 ·intro f _
  replace f:=of_decide_eq_true f
  exact zk (eA 3 (v:=pt s 0) (eA 2 (v:=.nilIface) (eA 1 (v:=pt N 0) rfl))) (JT (.inr (.inr f)) _)
 intro f _
 replace f:=of_decide_eq_false f
 have h3:=f
 refine cT 2 ?_
 refine cc (decide (p0.1=4)) (A:=some ()) (B:=some ()) (o:=some ()) (by split<;>rfl) ?_ ?_
 ·intro f _
  replace f:=of_decide_eq_true f
  refine cO 1 (zm (b:=s) (off:=1) (T:=49) (sl none 0 0) [sl none 0 0] [iv 0,sl none 0 0,vl l p0.2.2.1 n,vl m p0.2.2.2.1 p,vl g p0.2.2.2.2 i] kr kr a rfl kr kr kr rfl fun w z _ u=>?_)
  replace hs:=hs.trB a.ge z
  replace c:=c.step z (nm1 (c.ne a (zay kr)))
  replace a:=u
  refine od 1 (zm (b:=s) (off:=2) (T:=49) (sl none 0 0) [sl none 0 0] [iv 0,sl none 0 0,sl none 0 0,vl m p0.2.2.2.1 p,vl g p0.2.2.2.2 i] kr kr a rfl kr kr kr rfl fun X C _ u=>?_)
  replace hs:=hs.trB a.ge C
  replace c:=c.step C (nm1 (c.ne a (zay kr)))
  replace a:=u
  refine otr (od 1 (o1 41 49 (vl a2 p0.2.1 j) (c.at.one (o:=1) rfl) (od 2 (o1 44 49 (vl l p0.2.2.1 n) (c.at.one (o:=2) rfl) (od 1 ?_)))))
  have ev:ckv=.iface 122 (.agg #[vl a2 p0.2.1 j,vl l p0.2.2.1 n]):=by rw [hckv,f];rfl
  refine od 2 (oe (zd (zb ?_)))
  exact zk (za (t:=4) (v:=ckv) (eA 3 (v:=pt s 0) (eA 2 (v:=.nilIface) rfl)) (by rw [ev];kernel_rfl)) (J (0,[],[],p0.2.2.2.1,p0.2.2.2.2) none none m g 0 0 p i _ _ hs rfl (by unfold zlT;rw [if_neg (by omega),if_pos f]) (Sl.nil _ _) (Sl.nil _ _) I L a)
 intro f _
 replace f:=of_decide_eq_false f
 refine cT 2 ?_
 refine cc (decide (p0.1=5)) (A:=some ()) (B:=some ()) (o:=some ()) (by split<;>rfl) ?_ ?_
 ·intro f _
  replace f:=of_decide_eq_true f
  refine cO 1 (zm (b:=s) (off:=4) (T:=33) (sl none 0 0) [sl none 0 0] [iv 0,vl a2 p0.2.1 j,vl l p0.2.2.1 n,vl m p0.2.2.2.1 p,sl none 0 0] kr kr a rfl kr kr kr rfl fun w z _ u=>?_)
  replace hs:=hs.trB a.ge z
  replace c:=c.step z (nm1 (c.ne a (zay kr)))
  replace a:=u
  refine otr (od 1 (o1 51 33 (vl g p0.2.2.2.2 i) (c.at.one (o:=4) rfl) (od 1 ?_)))
  have ev:ckv=.iface 124 (.agg #[vl g p0.2.2.2.2 i]):=by rw [hckv,f];rfl
  refine od 2 (oe (zd (zb ?_)))
  exact zk (za (t:=4) (v:=ckv) (eA 3 (v:=pt s 0) (eA 2 (v:=.nilIface) rfl)) (by rw [ev];kernel_rfl)) (J (0,p0.2.1,p0.2.2.1,p0.2.2.2.1,[]) a2 l m none j n p 0 _ _ hs rfl (by unfold zlT;rw [if_neg (by omega),if_neg (by omega),if_pos f]) f4 Y I (Sl.nil _ _) a)
 intro f _
 replace f:=of_decide_eq_false f
 refine cO 1 (zm (b:=s) (off:=3) (T:=32) (sl none 0 0) [sl none 0 0] [iv 0,vl a2 p0.2.1 j,vl l p0.2.2.1 n,sl none 0 0,vl g p0.2.2.2.2 i] kr kr a rfl kr kr kr rfl fun w z _ u=>?_)
 replace hs:=hs.trB a.ge z
 replace c:=c.step z (nm1 (c.ne a (zay kr)))
 replace a:=u
 refine otr (od 1 (o1 12 32 (vl m p0.2.2.2.1 p) (c.at.one (o:=3) rfl) (od 1 ?_)))
 have ev:ckv=.iface 126 (.agg #[vl m p0.2.2.2.1 p]):=by rw [hckv];unfold ckV;rw [if_neg (by omega),if_neg (by omega),if_neg (by omega),if_neg (by omega),if_neg (by omega)]
 refine od 2 (oe (zd (zb ?_)))
 exact zk (za (t:=4) (v:=ckv) (eA 3 (v:=pt s 0) (eA 2 (v:=.nilIface) rfl)) (by rw [ev];kernel_rfl)) (J (0,p0.2.1,p0.2.2.1,[],p0.2.2.2.2) a2 l none g j n 0 i _ _ hs rfl (by unfold zlT;rw [if_neg (by omega),if_neg (by omega),if_neg (by omega)]) f4 Y (Sl.nil _ _) L a)
theorem zfG {κ:K} {p0:CrySt} {k q p:Nat} {C:Tag} {p1:Int×Int} (b:Cry C κ k q p p0) (c7:I64 p1.1) (c8:I64 p1.2) {r:CrySt} (j:zaJ p0 p1=some r) :
 Fn Tryz.prog 203 #[pt k 0,.agg #[iv p1.1,iv p1.2]] κ (fun v s=>Step (zgt k q p) κ s∧v=.tuple #[]∧Cry C s k q p r):=by
 refine fnc 48 (zgt k q p) Tryz.func203 Tryz.ntmps203 fun hs=>?_
 have B:=b.own1.tlt
 refine csr (xO 3 103 (κ.H.size,203001) hs.1 [iv p1.1,iv p1.2] fun G g1 s5 c=>?_)
 replace hs:=hs.tr0 s5
 replace b:=b.step0 s5
 refine otx (dT 1 (cb 0 ?_))
 refine zj 0 (fun Z=>∀ (y9:CrySt) (u:Env) (I:K),Step (zgt k q p) κ I→Cry C I k q p y9→zfH y9=some r→Z (u) I) ?_ fun J1=>?_
 ·intro y9 u I hs b j
  refine zf ?_
  obtain rfl:=sj j
  refine rn [] [] trivial ?_
  exact ⟨hs,rfl,b⟩
 refine bE j fun d0 b9 b2=>zp (F:=zan p1) (J:=fun h E' s=>(∃ u,E'=ups u [(0,pt k 0),(3,pt G 0),(8,iv h.1)])∧Step (zgt k q p) κ s∧I64 h.1∧Cry C s k q p h.2∧Box (κ.H.size,203001) s G [iv p1.1,iv p1.2] 103) (s0:=(0,p0)) (x:=d0) kr b9 ⟨⟨_,eY⟩,hs,(iK 0),b,c⟩ ?_
 rintro h _ f0 ⟨⟨u,rfl⟩,hs,d2,b,c⟩ P j b4
 refine cT 1 (cs ?_)
 refine cc _ j ?_ ?_
 ·intro O j
  refine ckt ?_
  refine zn (fun Z=>∀ (a1:CrySt) (u:Env) (D:K),Step (zgt k q p) κ D→Cry C D k q p a1→Box (κ.H.size,203001) D G [iv p1.1,iv p1.2] 103→zaX h a1=some P→cwp Tryz.prog 48 (sub (zB Tryz.f203) [1,1,1,0,0,1,1]) Z (ups u [(0,pt k 0),(3,pt G 0),(8,iv h.1)]) D) ?_ fun J2=>?_
  ·intro a1 u D hs b c j
   refine cr (od 2 (oe ?_))
   exact ze (sj j).symm ⟨⟨_,eY⟩,hs,(zr _),b,c⟩
  refine cs (cb 1 (cO 2 (otx (oN 11 103 [iv p1.1,iv p1.2] (c.at.part 0 2).2 (od 1 (bE j fun m c1 j=>ocl 13 (zbn c7 c8 d2 c1) ?_))))))
  rintro _ f1 ⟨a3,rfl,a4,a5⟩
  replace hs:=hs.tr0 a3
  replace b:=b.step0 a3
  replace c:=c.step0 a3
  refine xT 5 103 (κ.H.size,203002) hs.1 [iv 0,iv 0] fun H f2 a6 f=>?_
  replace hs:=hs.tr0 a6
  replace b:=b.step0 a6
  replace c:=c.step0 a6
  refine xM 103 [iv m.1,iv m.2] f fun f3 a7 _ a8=>?_
  replace hs:=hs.trB f.ge a7
  replace b:=b.step a7 (b.bn f.o (zed (i:=203002) B))
  replace c:=c.step a7 (nm1 (c.ne f (zl kr)))
  replace f:=a8
  refine otx (dT 1 (cs (cO 5 ?_)))
  obtain ⟨g2,g3,d4,d5,g4,g5,d6,g6,g7,g8⟩:=b.ex
  refine o1 19 41 (vl d4 h.2.1.1.2 d5) (d6.at.one (o:=1) rfl) (dT 2 (cb 2 ?_))
  refine zj 2 (fun Z=>∀ (E:LI) (Q:OA) (R:Nat) (u:Env) (z:K),Step (zgt k q p) κ z→Gr tI64 true (κ.H.size,203004) z 2 Q R E→Cry C z k q p h.2→Box (κ.H.size,203001) z G [iv p1.1,iv p1.2] 103→Box (κ.H.size,203002) z H [iv m.1,iv m.2] 103→zcI h m E=some P→Z (ups u [(0,pt k 0),(3,pt G 0),(5,pt H 0),(6,vl Q E R),(8,iv h.1)]) z) ?_ fun J3=>?_
  ·intro E Q R u z hs d7 b c f j
   refine zf (zb (cT 3 ?_))
   refine cc _ j ?_ ?_
   ·intro O j
    refine cd 6 (dd 3 ?_)
    obtain ⟨g9,h0,h1,h2,h3,h4,d8,h5,h6,h7⟩:=b.ex
    refine d1 39 298 (.map (some p)) (d8.at.one (o:=5) rfl) (dN 40 103 [iv m.1,iv m.2] (f.at.part 0 2).2 (dd 1 (de ?_)))
    refine omp kPt (T:=298) (kd:=103) (e:=32) (x:=m) (y:=E) (v:=vl Q E R) (hkd:=zp7) b.o ⟨_,_,rfl,d7.sl⟩ (fun f5 S _ d9=>?_)
    obtain ⟨S,L⟩:=b.putO S d9 ⟨a4,a5⟩
    replace hs:=hs.trM (fun g hg=>.inl hg) S
    replace c:=c.step S (b.nb c.o (zjh (i:=203001) B))
    replace b:=L
    refine oe (zd (zb ?_))
    exact zk eY (J2 (h.2.1,h.2.2.1,zbC h.2.2.2 m E)  _ _ hs b c j)
   intro O j
   refine cd 5 (dd 3 ?_)
   obtain ⟨h8,h9,i0,i1,i2,i3,e0,i4,i5,i6⟩:=b.ex
   refine d1 45 298 (.map (some p)) (e0.at.one (o:=5) rfl) (dN 46 103 [iv m.1,iv m.2] (f.at.part 0 2).2 (de ?_))
   refine zzb kPt (T:=298) (kd:=103) (e:=32) (ty:=0) (x:=m) b.o  (fun f6 U _ e1=>?_) zp7
   obtain ⟨U,L⟩:=b.delO U e1
   replace hs:=hs.trM (fun g hg=>.inl hg) U
   replace c:=c.step U (b.nb c.o (zjh (i:=203001) B))
   replace b:=L
   refine oe (zd (zb ?_))
   exact zk eY (J2 (h.2.1,h.2.2.1,zko h.2.2.2 m)  _ _ hs b c j)
  refine bE j fun e2 c4 b5=>zp (F:=zab h m) (J:=fun n E' s=>∃ (V:OA) (X:Nat),(∃ u,E'=ups u [(0,pt k 0),(3,pt G 0),(5,pt H 0),(6,vl V n.1 X),(8,iv h.1),(20,iv (h.2.1.1.2.length:Int)),(21,iv n.2)])∧Step (zgt k q p) κ s∧Gr tI64 true (κ.H.size,203004) s 2 V X n.1∧I64 n.2∧Cry C s k q p h.2∧Box (κ.H.size,203001) s G [iv p1.1,iv p1.2] 103∧Box (κ.H.size,203002) s H [iv m.1,iv m.2] 103) (s0:=([],0)) (x:=e2) kr c4 ⟨_,_,⟨_,eY⟩,hs,Gr.nil,(iK 0),b,c,f⟩ ?_
  rintro n _ f7 ⟨V,X,⟨u,rfl⟩,hs,w,a9,b,c,f⟩ b6 j b7
  refine cT 1 (cs ?_)
  refine cc _ j ?_ ?_
  ·intro O j
   refine ckt ?_
   refine zn (fun Z=>∀ (Y:LI) (b0:OA) (b1:Nat) (u:Env) (A:K),Step (zgt k q p) κ A→Gr tI64 true (κ.H.size,203004) A 2 b0 b1 Y→Cry C A k q p h.2→Box (κ.H.size,203001) A G [iv p1.1,iv p1.2] 103→Box (κ.H.size,203002) A H [iv m.1,iv m.2] 103→zaW n Y=some b6→cwp Tryz.prog 48 (sub (zB Tryz.f203) [1,1,1,0,0,1,0,1,1,1,0,0,1,1,0,0,1,1]) Z (ups u [(0,pt k 0),(3,pt G 0),(5,pt H 0),(6,vl b0 Y b1),(8,iv h.1),(20,iv (h.2.1.1.2.length:Int)),(21,iv n.2)]) A) ?_ fun J4=>?_
   ·intro Y b0 b1 u A hs e4 b c f j
    refine cr (od 2 (oe ?_))
    exact ze (sj j).symm ⟨_,_,⟨_,eY⟩,hs,e4,(zr _),b,c,f⟩
   refine cs (cb 3 (cO 2 (otx (od 1 (oN 25 103 [iv m.1,iv m.2] (f.at.part 0 2).2 (od 1 (bE j fun i7 c5 j=>ocl 27 (zje b a4 a5 a9 c5) ?_)))))))
   rintro _ f8 ⟨M,rfl⟩
   replace hs:=hs.tr0 M
   replace w:=w.step0 M
   replace b:=b.step0 M
   replace c:=c.step0 M
   replace f:=f.step0 M
   refine ot ?_
   refine cc _ j ?_ ?_
   ·intro O j
    refine cr (od 2 (zJ (d:=30) (T:=32) (e:=2) (t:=tI64) (pub:=true) (τ:=(κ.H.size,203003)) (len:=1) (l:=[n.2]) (parts:=#[(0,iv n.2)]) (cs:=[iv n.2]) kr kr kr kr hs.1 rfl ⟨_,_,rfl,⟨rfl,a9⟩,rfl⟩ kr fun e5 f9 N e6=>?_))
    replace hs:=hs.tr0 N
    replace w:=w.step0 N
    replace b:=b.step0 N
    replace c:=c.step0 N
    replace f:=f.step0 N
    refine bE j fun e7 c6 j=>zH (d:=31) (T:=32) (e:=2) (t:=tI64) (pub:=true) (τ:=(κ.H.size,203004)) (bytes:=8) (a:=V) (cp:=X) (l:=n.1) (a2:=e5) (c2:=1) (l2:=[n.2]) kr kr w e6.sl hs.1 kr c6 fun i8 i9 g0 a0 e8 hw=>?_
    clear hw
    replace hs:=hs.trG (w.own (fz _)) a0
    replace b:=b.step a0 (b.gn w (zed (i:=203004) B))
    replace c:=c.step a0 (w.bn c (zl kr))
    replace f:=f.step a0 (w.bn f (zl kr))
    refine od 1 (oe (zd (zb ?_)))
    exact zk eY (J4 e7 _ _ _ _ hs e8 b c f j)
   intro O j
   refine ck (zd (zb ?_))
   exact zk eY (J4 n.1 _ _ _ _ hs w b c f j)
  intro O j
  refine cx 2 (zh ?_)
  have hx:=b7 _ (sj j).symm
  subst hx
  replace j:=b5
  refine zi ?_
  exact zq eY (J3 n.1 _ _ _ _ hs w b c f j)
 intro O j
 refine cx 0 (zh ?_)
 have hx:=b4 _ (sj j).symm
 subst hx
 replace j:=b2
 refine zi ?_
 exact zq rfl (J1 h.2  _ _ hs b j)
theorem zeu {κ:K} {p0:TS×(LP)×Int} {N O P n:OA} {c2 Q R i:Nat} {p1:LP} (f3:Sl tGlue κ N c2 p0.1.1) (f6:Sl tTile κ O Q p0.1.2) (f9:Sl tPlaced κ P R p0.2.1) (c6:I64 p0.2.2) (b7:Sl tPlaced κ n i p1) {r:CrySt} (c:zb1 p0 p1=some r) :
 Fn Tryz.prog 198 #[.agg #[vl N p0.1.1 c2,vl O p0.1.2 Q,vl P p0.2.1 R,iv p0.2.2],.agg #[vl n p1 i]] κ (fun v p=>Step [] κ p∧∃ (b8:Nat) (e3:Nat) (e4:Nat) (b9:Nat),v=pt b8 0∧κ.H.size≤b9∧Cry (b9,198005) p b8 e3 e4 r):=by
 refine fnc 44 [] Tryz.func198 Tryz.ntmps198 fun hs=>csr (xO 2 48 (κ.H.size,198001) hs.1 [vl N p0.1.1 c2,vl O p0.1.2 Q,vl P p0.2.1 R,iv p0.2.2] fun i2 g5 e5 B=>?_)
 replace hs:=hs.tr0 e5
 refine xO 3 46 (κ.H.size,198002) hs.1 [vl n p1 i] fun H g6 c0 b=>?_
 replace hs:=hs.tr0 c0
 replace B:=B.step0 c0
 refine od 1 (otx (oN 10 48 [vl N p0.1.1 c2,vl O p0.1.2 Q,vl P p0.2.1 R,iv p0.2.2] (B.at.part 0 4).2 (omk (d:=11) (T:=297) kPt tI64 (κ.H.size,198003) hs.1 fun A g7 c1 g=>?_)))
 replace hs:=hs.tr0 c1
 replace b:=b.step0 c1
 refine omk (d:=12) (T:=298) kPt (tSl tI64) (κ.H.size,198004) hs.1 fun G g8 S k=>?_
 replace hs:=hs.tr0 S
 replace b:=b.step0 S
 replace g:=g.step0 S
 refine od 1 (xO 14 300 (κ.H.size,198005) hs.1 [vl N p0.1.1 c2,vl O p0.1.2 Q,vl P p0.2.1 R,iv p0.2.2,.map (some A),.map (some G)] fun q g9 I s=>?_)
 replace hs:=hs.tr0 I
 replace b:=b.step0 I
 replace g:=g.step0 I
 replace k:=k.step0 I
 obtain ⟨h0,e6,U,a⟩:=Cry.mk' (sy:=((p0.1.1,p0.1.2),p0.2.1,p0.2.2)) s g k (f3.step hs) (f6.step hs) (f9.step hs) c6 (zl kr) (zl kr) (zl kr) (fz _) (fz _)
 refine zlU e6 ?_
 replace hs:=hs.trM (zoV (ztE g.ge) (ztE k.ge)) U
 replace b:=b.step U (zyM (nm1 (b.o.ne g.o (zl kr))) (nm1 (b.o.ne k.o (zl kr))))
 replace s:=s.step U (zyM (nm1 (s.o.ne g.o (zl kr))) (nm1 (s.o.ne k.o (zl kr))))
 refine dT 1 (cs (cO 1 (o1 16 44 (vl n p1 i) (b.at.one (o:=0) rfl) (dT 2 (cb 0 ?_)))))
 refine zj 0 (fun Z=>∀ (L:CrySt) (u:Env) (w:K),Step [] κ w→Box (κ.H.size,198002) w H [vl n p1 i] 46→Cry (κ.H.size,198005) w q A G L→zg9 p1 L=some r→Z (ups u [(3,pt H 0),(5,pt q 0)]) w) ?_ fun J1=>?_
 ·intro L u w hs b a c
  refine zf (zb (cs (cO 1 (o1 32 44 (vl n p1 i) (b.at.one (o:=0) rfl) (dT 2 (cb 2 ?_))))))
  refine zj 2 (fun Z=>∀ (V:CrySt) (u:Env) (C:K),Step [] κ C→Cry (κ.H.size,198005) C q A G V→zky V=some r→Z (ups u [(5,pt q 0)]) C) ?_ fun J2=>?_
  ·intro V u C hs a c
   refine zf (zb (cT 2 (crt ?_)))
   obtain rfl:=sj c
   exact rT 4 (pt q 0) ⟨hs,_,_,_,_,rfl,(fz _),a⟩
  refine bE c fun e7 c7 a3=>zp (F:=zbj p1) (J:=fun l E' p=>(∃ u,E'=ups u [(5,pt q 0),(32,vl n p1 i),(33,iv (p1.length:Int)),(34,iv l.1)])∧Step [] κ p∧I64 l.1∧Cry (κ.H.size,198005) p q A G l.2) (s0:=(0,L)) (x:=e7) kr c7 ⟨⟨_,eY⟩,hs,(iK 0),a⟩ ?_
  rintro l _ d0 ⟨⟨u,rfl⟩,hs,h3,a⟩ f8 c a5
  refine cT 1 (cs ?_)
  refine cc _ c ?_ ?_
  ·intro hc c
   refine ckt (cs (cb 3 (csr (bE c fun j d3 c=>?_))))
   obtain ⟨e8,e9,a6,a8,a9,g0,D,b0⟩:=(b7.step hs).idx d3
   obtain ⟨_,_,rfl,⟨_,_,rfl,⟨rfl,d4⟩,⟨rfl,d5⟩⟩,⟨rfl,h4⟩⟩:=b0
   replace D:PubAt d0 e8 (e9+l.1.toNat*3) [iv j.1.1,iv j.1.2,iv j.2]:=D
   refine oi 36 44 105 3 p1.length i .i64 l.1 a6 a8 a9 (oN 37 105 [iv j.1.1,iv j.1.2,iv j.2] (D.at.part 0 3).2 (xT 9 105 (κ.H.size,198007) hs.1 [iv 0,iv 0,iv 0] fun i3 h5 c3 t=>?_))
   replace hs:=hs.tr0 c3
   replace a:=a.step0 c3
   refine xM 105 [iv j.1.1,iv j.1.2,iv j.2] t fun h6 c4 _ X=>?_
   replace hs:=hs.trB t.ge c4
   replace a:=a.step c4 (a.bn t.o (zl kr))
   replace t:=X
   refine otr (od 2 (oN 40 103 [iv j.1.1,iv j.1.2] (t.at.part 0 2).2 (bE c fun i4 d6 c=>ocl 41 (zfG a d4 d5 d6) ?_)))
   rintro _ h7 ⟨f0,rfl,z⟩
   replace hs:=hs.trG (a.own (fz _)) f0
   replace a:=z
   refine oe (zd (zb (cr (od 2 (oe ?_)))))
   exact ze (sj c).symm ⟨⟨_,eY⟩,hs,(zr _),a⟩
  intro hc c
  refine cx 2 (zh ?_)
  have hx:=a5 _ (sj c).symm
  subst hx
  replace c:=a3
  refine zi ?_
  exact zq eY (J2 l.2  _ _ hs a c)
 refine bE c fun f1 d7 b1=>zp (F:=zbk p1) (J:=fun m E' p=>(∃ u,E'=ups u [(3,pt H 0),(5,pt q 0),(16,vl n p1 i),(17,iv (p1.length:Int)),(18,iv m.1)])∧Step [] κ p∧I64 m.1∧Box (κ.H.size,198002) p H [vl n p1 i] 46∧Cry (κ.H.size,198005) p q A G m.2) (s0:=(0,(((p0.1.1,p0.1.2),p0.2.1,p0.2.2),[],[]))) (x:=f1) kr d7 ⟨⟨_,eY⟩,hs,(iK 0),b,a⟩ ?_
 rintro m _ d8 ⟨⟨u,rfl⟩,hs,h8,b,a⟩ g1 c b2
 refine cT 1 (cs ?_)
 refine cc _ c ?_ ?_
 ·intro hc c
  refine ckt (cs (cb 1 (csr (bE c fun f d9 c=>?_))))
  obtain ⟨f2,f4,b3,b4,b5,g2,E,b6⟩:=(b7.step hs).idx d9
  obtain ⟨_,_,rfl,⟨_,_,rfl,⟨rfl,e0⟩,⟨rfl,e1⟩⟩,⟨rfl,e2⟩⟩:=b6
  replace E:PubAt d8 f2 (f4+m.1.toNat*3) [iv f.1.1,iv f.1.2,iv f.2]:=E
  refine oi 20 44 105 3 p1.length i .i64 m.1 b3 b4 b5 (oN 21 105 [iv f.1.1,iv f.1.2,iv f.2] (E.at.part 0 3).2 (xT 7 105 (κ.H.size,198006) hs.1 [iv 0,iv 0,iv 0] fun i5 h9 Y h=>?_))
  replace hs:=hs.tr0 Y
  replace b:=b.step0 Y
  replace a:=a.step0 Y
  refine xM 105 [iv f.1.1,iv f.1.2,iv f.2] h fun i0 a0 _ a2=>?_
  replace hs:=hs.trB h.ge a0
  replace b:=b.step a0 (nm1 (b.ne h (zl kr)))
  replace a:=a.step a0 (a.bn h.o (zl kr))
  replace h:=a2
  refine ot (cd 8 (dd 3 ?_))
  obtain ⟨i6,i7,i8,i9,j1,j2,f5,j3,j4,j5⟩:=a.ex
  refine d1 25 297 (.map (some A)) (f5.at.one (o:=4) rfl) (dd 1 (dN 27 103 [iv f.1.1,iv f.1.2] (h.at.part 0 2).2 (dd 1 (d1 29 2 (iv f.2) (h.at.one (o:=2) rfl) (de ?_)))))
  refine omp kPt (T:=297) (kd:=103) (e:=2) (x:=f.1) (y:=f.2) (v:=iv f.2) (hkd:=zp7) a.m ⟨rfl,e2⟩ (fun i1 M _ f7=>?_)
  obtain ⟨M,z⟩:=a.putT M f7 ⟨e0,e1⟩
  replace hs:=hs.trG (a.own (fz _)) M
  replace b:=b.step M (a.nb b.o (zl kr))
  replace a:=z
  refine oe (zd (zb (cr (od 2 (oe ?_)))))
  exact ze (sj c).symm ⟨⟨_,eY⟩,hs,(zr _),b,a⟩
 intro hc c
 refine cx 0 (zh ?_)
 have hx:=b2 _ (sj c).symm
 subst hx
 replace c:=b1
 refine zi ?_
 exact zq eY (J1 m.2  _ _ hs b a c)
theorem zjF {κ:K} {p0:CrySt} {d f h:Nat} {p:Tag} {p1:Int×Int} {m:Int} (a:Cry p κ d f h p0) (q:I64 p1.1) (s:I64 p1.2) (z:I64 m) {r:CrySt} (u:zea p0 p1 m=some r) :
 Fn Tryz.prog 200 #[pt d 0,.agg #[iv p1.1,iv p1.2],iv m] κ (fun v t=>Step (zgt d f h) κ t∧v=.tuple #[]∧Cry p t d f h r):=by
 refine fnc 20 (zgt d f h) Tryz.func200 Tryz.ntmps200 fun hs=>?_
 have j:=a.own1.tlt
 refine csr (xO 4 103 (κ.H.size,200001) hs.1 [iv p1.1,iv p1.2] fun b4 J A b=>?_)
 replace hs:=hs.tr0 A
 replace a:=a.step0 A
 refine ot (cs (cd 6 (dd 3 ?_)))
 obtain ⟨a8,L,a9,M,N,O,F,P,Q,R⟩:=a.ex
 refine d1 9 297 (.map (some f)) (F.at.one (o:=4) rfl) (dN 10 103 [iv p1.1,iv p1.2] (b.at.part 0 2).2 (dd 1 (de ?_)))
 refine omp kPt (T:=297) (kd:=103) (e:=2) (x:=p1) (y:=m) (v:=iv m) (hkd:=zp7) a.m ⟨rfl,z⟩ (fun G k _ B=>?_)
 obtain ⟨k,c⟩:=a.putT k B ⟨q,s⟩
 replace hs:=hs.trM (fun g n=>.inl n) k
 replace b:=b.step k (a.nb b.o (zjh (i:=200001) j))
 replace a:=c
 refine ot (cs (cd 5 (dd 3 ?_)))
 obtain ⟨S,U,V,X,Y,Z,C,a0,a1,a2⟩:=a.ex
 refine d1 15 298 (.map (some h)) (C.at.one (o:=5) rfl) (dN 16 103 [iv p1.1,iv p1.2] (b.at.part 0 2).2 (de ?_))
 refine zzb kPt (T:=298) (kd:=103) (e:=32) (ty:=0) (x:=p1) a.o  (fun H l _ D=>?_) zp7
 obtain ⟨l,c⟩:=a.delO l D
 replace hs:=hs.trM (fun g n=>.inl n) l
 replace b:=b.step l (a.nb b.o (zjh (i:=200001) j))
 replace a:=c
 refine otr (od 1 (oN 18 103 [iv p1.1,iv p1.2] (b.at.part 0 2).2 (bE u fun a3 w u=>ocl 19 (zfG a q s w) ?_)))
 rintro _ I ⟨E,rfl,c⟩
 replace hs:=hs.trM (fun g n=>.inl n) E
 replace a:=c
 refine oe ?_
 obtain rfl:=sj u
 refine rn [] [] trivial ?_
 exact ⟨hs,rfl,a⟩
theorem zfJ {κ:K} {p0:TS×(LP)×Int} {z A B M:OA} {c2 C D E:Nat} {p1:LP} (f3:Sl tGlue κ z c2 p0.1.1) (f6:Sl tTile κ A C p0.1.2) (f9:Sl tPlaced κ B D p0.2.1) (R:I64 p0.2.2) (e1:Sl tPlaced κ M E p1) {r:(LP)×Int×Int} (f:zbX p0 p1=some r) :
 Fn Tryz.prog 196 #[.agg #[vl z p0.1.1 c2,vl A p0.1.2 C,vl B p0.2.1 D,iv p0.2.2],vl M p1 E] κ (fun v n=>Step [] κ n∧∃ (b8:OA) (b9:Nat),v=.tuple #[.agg #[vl b8 r.1 b9],iv r.2.1,iv r.2.2]∧Sl tPlaced n b8 b9 r.1∧I64 r.2.1∧I64 r.2.2):=by
 refine fnc 66 [] Tryz.func196 Tryz.ntmps196 fun hs=>csr (xO 2 48 (κ.H.size,196001) hs.1 [vl z p0.1.1 c2,vl A p0.1.2 C,vl B p0.2.1 D,iv p0.2.2] fun N f8 e2 b=>?_)
 replace hs:=hs.tr0 e2
 refine xT 4 46 (κ.H.size,196002) hs.1 [sl none 0 0] fun l g0 c0 a=>?_
 replace hs:=hs.tr0 c0
 replace b:=b.step0 c0
 refine dT 2 (cs (cb 0 (csr (oN 11 48 [vl z p0.1.1 c2,vl A p0.1.2 C,vl B p0.2.1 D,iv p0.2.2] (b.at.part 0 4).2 (bE f fun h7 c9 f=>ocl 12 (zjG (f3.step hs) (f6.step hs) (f9.step hs) R c9) ?_)))))
 rintro _ g1 ⟨S,rfl⟩
 replace hs:=hs.tr0 S
 replace b:=b.step0 S
 replace a:=a.step0 S
 refine dT 2 ?_
 refine cc _ f ?_ ?_
 ·intro t f
  refine cO 1 (xM 46 [sl none 0 0] a fun g2 e3 _ i=>?_)
  replace hs:=hs.trB a.ge e3
  replace a:=i
  refine dT 2 (crt (zg (zc ?_)))
  obtain rfl:=sj f
  refine rt [.cell 4 46,.tmp 5,.tmp 6] [.agg #[sl none 0 0],iv 0,iv 1] ⟨⟨l,0,[sl none 0 0],rfl,rfl,kr,kr,(a.at.part 0 1).2⟩,rfl,rfl,trivial⟩ ?_
  exact ⟨hs,_,_,rfl,(Sl.nil _ _),(iK 0),(iK 1)⟩
 intro t f
 refine cT 4 ?_
 refine cc _ f ?_ ?_
 ·intro t f
  refine cO 1 (xM 46 [sl none 0 0] a fun g3 e4 _ i=>?_)
  replace hs:=hs.trB a.ge e4
  replace a:=i
  refine dT 2 (crt (zg (zc ?_)))
  obtain rfl:=sj f
  refine rt [.cell 4 46,.tmp 5,.tmp 6] [.agg #[sl none 0 0],iv 0,iv 2] ⟨⟨l,0,[sl none 0 0],rfl,rfl,kr,kr,(a.at.part 0 1).2⟩,rfl,rfl,trivial⟩ ?_
  exact ⟨hs,_,_,rfl,(Sl.nil _ _),(iK 0),(iK 2)⟩
 intro t f
 refine ck (zd (zb (csr (oN 20 48 [vl z p0.1.1 c2,vl A p0.1.2 C,vl B p0.2.1 D,iv p0.2.2] (b.at.part 0 4).2 (od 1 (oN 22 46 [vl B p0.2.1 D] (b.at.part 2 1).2 (bE f fun e5 d0 f=>ocl 23 (zeu (f3.step hs) (f6.step hs) (f9.step hs) R (f9.step hs) d0) ?_)))))))
 rintro _ g4 ⟨U,s,O,V,X,rfl,p,c⟩
 replace p:=ga hs.1 p
 replace hs:=hs.tr0 U
 replace b:=b.step0 U
 replace a:=a.step0 U
 refine dT 1 (cs (cT 3 (cb 1 ?_)))
 refine zj 1 (fun Z=>∀ (Y:CrySt) (G:Env) (q:K),Step [] κ q→Box (κ.H.size,196002) q l [sl none 0 0] 46→Cry (X,198005) q s O V Y→zfK Y=some r→Z (ups G [(4,pt l 0),(7,pt s 0)]) q) ?_ fun J1=>?_
 ·intro Y G q hs a c f
  refine zf (zb (cO 1 (bE f fun a0 d2 f=>ocl 65 (zlB c d2) ?_)))
  rintro _ g6 ⟨c1,a2,a3,rfl,a5⟩
  replace hs:=hs.tr0 c1
  replace a:=a.step0 c1
  refine xM 46 [vl a2 a0 a3] a fun g7 c3 _ i=>?_
  replace hs:=hs.trB a.ge c3
  replace a5:=a5.step c3
  replace a:=i
  refine dT 2 (crt ?_)
  obtain rfl:=sj f
  refine rt [.cell 4 46,.tmp 5,.tmp 6] [.agg #[vl a2 a0 a3],iv 0,iv 0] ⟨⟨l,0,[vl a2 a0 a3],rfl,rfl,kr,kr,(a.at.part 0 1).2⟩,rfl,rfl,trivial⟩ ?_
  exact ⟨hs,_,_,rfl,a5,(iK 0),(iK 0)⟩
 refine bE f fun e6 d3 u=>zp (F:=zY p0 p1) (J:=fun j E' n=>(∃ G,E'=ups G [(2,pt N 0),(4,pt l 0),(7,pt s 0),(24,vl M p1 E),(25,iv (p1.length:Int)),(26,iv j.1)])∧Step [] κ n∧I64 j.1∧Box (κ.H.size,196001) n N [vl z p0.1.1 c2,vl A p0.1.2 C,vl B p0.2.1 D,iv p0.2.2] 48∧Box (κ.H.size,196002) n l [sl none 0 0] 46∧Cry (X,198005) n s O V j.2) (s0:=(0,e5)) (x:=e6) kr d3 ⟨⟨_,eY⟩,hs,(iK 0),b,a,c⟩ ?_
 rintro j _ d4 ⟨⟨G,rfl⟩,hs,d5,b,a,c⟩ b3 f w
 refine cT 1 (cs ?_)
 refine cc _ f ?_ ?_
 ·intro t f
  refine ckt (cs (cb 2 (cO 1 (bE f fun h d6 f=>?_))))
  obtain ⟨e7,e8,b4,b5,b6,f7,y,b7⟩:=(e1.step hs).idx d6
  obtain ⟨_,_,rfl,⟨_,_,rfl,⟨rfl,a6⟩,⟨rfl,a8⟩⟩,⟨rfl,L⟩⟩:=b7
  replace y:PubAt d4 e7 (e8+j.1.toNat*3) [iv h.1.1,iv h.1.2,iv h.2]:=y
  refine oi 29 49 110 3 p1.length E .i64 j.1 b4 b5 b6 (oN 30 110 [iv h.1.1,iv h.1.2,iv h.2] (y.at.part 0 3).2 (xT 9 110 (κ.H.size,196003) hs.1 [iv 0,iv 0,iv 0] fun c4 g9 P g=>?_))
  replace hs:=hs.tr0 P
  replace b:=b.step0 P
  replace a:=a.step0 P
  replace c:=c.step0 P
  refine od 1 (xM 110 [iv h.1.1,iv h.1.2,iv h.2] g fun h0 Q _ a9=>?_)
  replace hs:=hs.trB g.ge Q
  replace b:=b.step Q (nm1 (b.ne g (zl kr)))
  replace a:=a.step Q (nm1 (a.ne g (zl kr)))
  replace c:=c.step Q (c.bn g.o (zl kr))
  replace g:=a9
  refine ot (cs (cb 3 ?_))
  refine zn (fun Z=>∀ (b0:Bool) (G:Env) (m:K),Step [] κ m→Box (κ.H.size,196001) m N [vl z p0.1.1 c2,vl A p0.1.2 C,vl B p0.2.1 D,iv p0.2.2] 48→Box (κ.H.size,196002) m l [sl none 0 0] 46→Cry (X,198005) m s O V j.2→Box (κ.H.size,196003) m c4 [iv h.1.1,iv h.1.2,iv h.2] 110→zao j h b0=some b3→cwp Tryz.prog 66 (sub (zB Tryz.f196) [1,0,0,1,0,0,1,1,0,0,1,0,1,1,1]) Z (ups G [(2,pt N 0),(4,pt l 0),(7,pt s 0),(8,iv j.1),(9,pt c4 0),(24,vl M p1 E),(25,iv (p1.length:Int)),(26,iv j.1),(31,.bool b0)]) m) ?_ fun J2=>?_
  ·intro b0 G m hs b a c g f
   refine cc _ f ?_ ?_
   ·intro t f
    refine cO 2 (xM 46 [sl none 0 0] a fun h1 f0 _ i=>?_)
    replace hs:=hs.trB a.ge f0
    replace a:=i
    refine dT 2 (crt (zg (zc (zg (zc ?_)))))
    have hx:=w _ (sj f).symm
    subst hx
    replace f:=u
    refine zv (zg (zc ?_))
    obtain rfl:=sj f
    refine rt [.cell 4 46,.tmp 5,.tmp 6] [.agg #[sl none 0 0],iv j.1,iv 5] ⟨⟨l,0,[sl none 0 0],rfl,rfl,kr,kr,(a.at.part 0 1).2⟩,rfl,rfl,trivial⟩ ?_
    exact ⟨hs,_,_,rfl,(Sl.nil _ _),d5,(iK 5)⟩
   intro t f
   refine cO 3 ?_
   obtain ⟨h8,h9,i0,i1,i2,i3,f1,i4,i5,i6⟩:=c.ex
   refine o1 53 297 (.map (some O)) (f1.at.one (o:=4) rfl) (bE f fun i7 d7 f=>zza (d:=54) (T:=297) (k:=103) (e:=2) c.m d7 (dT 2 ?_))
   refine cc _ f ?_ ?_
   ·intro t f
    refine cO 1 (xM 46 [sl none 0 0] a fun h2 f2 _ i=>?_)
    replace hs:=hs.trB a.ge f2
    replace a:=i
    refine dT 2 (crt (zg (zc (zg (zc ?_)))))
    have hx:=w _ (sj f).symm
    subst hx
    replace f:=u
    refine zv (zg (zc ?_))
    obtain rfl:=sj f
    refine rt [.cell 4 46,.tmp 5,.tmp 6] [.agg #[sl none 0 0],iv 0,iv 4] ⟨⟨l,0,[sl none 0 0],rfl,rfl,kr,kr,(a.at.part 0 1).2⟩,rfl,rfl,trivial⟩ ?_
    exact ⟨hs,_,_,rfl,(Sl.nil _ _),(iK 0),(iK 4)⟩
   intro t f
   refine ck (zd (zb (cr (od 2 (oN 59 103 [iv h.1.1,iv h.1.2] (g.at.part 0 2).2 (od 1 (o1 61 2 (iv h.2) (g.at.one (o:=2) rfl) (bE f fun i8 d8 f=>ocl 62 (zjF c a6 a8 L d8) ?_))))))))
   rintro _ h3 ⟨b1,rfl,b2⟩
   replace hs:=hs.trG (c.own p) b1
   replace b:=b.step b1 (c.nb b.o (zl kr))
   replace a:=a.step b1 (c.nb a.o (zl kr))
   replace c:=b2
   refine oe (zd (zb (cr (od 2 (oe ?_)))))
   exact ze (sj f).symm ⟨⟨_,eY⟩,hs,(zr _),b,a,c⟩
  refine cO 1 (oN 33 43 [vl z p0.1.1 c2,vl A p0.1.2 C] (b.at.part 0 2).2 (od 1 (o1 35 2 (iv h.2) (g.at.one (o:=2) rfl) (bE f fun f4 d9 f=>ocl 36 (zh8 (f3.step hs) (f6.step hs) L d9) ?_))))
  rintro _ h4 ⟨H,rfl⟩
  replace hs:=hs.tr0 H
  replace b:=b.step0 H
  replace a:=a.step0 H
  replace c:=c.step0 H
  replace g:=g.step0 H
  refine od 1 ?_
  refine osp 38 (!f4) f ?_ ?_
  ·intro hg f
   refine od 2 (oN 41 103 [iv h.1.1,iv h.1.2] (g.at.part 0 2).2 (od 1 (o1 43 2 (iv h.2) (g.at.one (o:=2) rfl) (bE f fun f5 e0 f=>ocl 44 (zje c a6 a8 L e0) ?_))))
   rintro _ h6 ⟨I,rfl⟩
   replace hs:=hs.tr0 I
   replace b:=b.step0 I
   replace a:=a.step0 I
   replace c:=c.step0 I
   replace g:=g.step0 I
   refine dT 3 ?_
   exact zk eY (J2 (!f5)  _ _ hs b a c g f)
  intro hg f
  refine oz [39,40,41,42,43,44,45] (dT 2 ?_)
  exact zk eY (J2 true  _ _ hs b a c g f)
 intro t f
 refine cx 1 (zh ?_)
 have hx:=w _ (sj f).symm
 subst hx
 replace f:=u
 refine zi ?_
 exact zq eY (J1 j.2  _ _ hs a c f)
theorem zbu {κ:K} {p0:LP} {s t u g h:OA} {c2 w x i j:Nat} {p1:TS×(LP)×Int} {k:LP} (M:Sl tPlaced κ s c2 p0) (f6:Sl tGlue κ t w p1.1.1) (N:Sl tTile κ u x p1.1.2) (F:Sl tPlaced κ g i p1.2.1) (C:I64 p1.2.2) (G:Sl tPlaced κ h j k) {r:Bool} (d:zaj p0 p1 k=some r) :
 Fn Tryz.prog 195 #[.agg #[vl s p0 c2],.agg #[vl t p1.1.1 w,vl u p1.1.2 x,vl g p1.2.1 i,iv p1.2.2],.agg #[vl h k j]] κ (fun v H=>Step [] κ H∧v=.bool r):=by
 refine fnc 25 [] Tryz.func195 Tryz.ntmps195 fun hs=>csr (xO 3 116 (κ.H.size,195001) hs.1 [vl s p0 c2] fun Z O I b=>?_)
 replace hs:=hs.tr0 I
 refine xO 4 48 (κ.H.size,195002) hs.1 [vl t p1.1.1 w,vl u p1.1.2 x,vl g p1.2.1 i,iv p1.2.2] fun a0 P y e=>?_
 replace hs:=hs.tr0 y
 replace b:=b.step0 y
 refine xO 5 46 (κ.H.size,195003) hs.1 [vl h k j] fun a2 Q l a=>?_
 replace hs:=hs.tr0 l
 replace b:=b.step0 l
 replace e:=e.step0 l
 refine od 1 (otx (oN 11 48 [vl t p1.1.1 w,vl u p1.1.2 x,vl g p1.2.1 i,iv p1.2.2] (e.at.part 0 4).2 (od 1 (o1 13 49 (vl s p0 c2) (b.at.one (o:=0) rfl) (bE d fun m D d=>ocl 14 (zfJ (f6.step hs) (N.step hs) (F.step hs) C (M.step hs) D) ?_)))))
 rintro _ R ⟨z,A,B,rfl,f,S,T⟩
 replace hs:=hs.tr0 z
 replace a:=a.step0 z
 refine od 4 (xT 7 46 (κ.H.size,195004) hs.1 [sl none 0 0] fun a3 U n c=>?_)
 replace hs:=hs.tr0 n
 replace f:=f.step n
 replace a:=a.step0 n
 refine xM 46 [vl A m.1 B] c fun V p _ q=>?_
 replace hs:=hs.trB c.ge p
 replace f:=f.step p
 replace a:=a.step p (nm1 (a.ne c (zl kr)))
 replace c:=q
 refine od 2 (otx (od 2 ?_))
 refine osp 20 (decide (m.2.2=0)) d ?_ ?_
 ·intro X d
  refine oz [21,22,23] (dT 2 (crt ?_))
  obtain rfl:=sj d
  exact rT 6 ff ⟨hs,rfl⟩
 intro X d
 refine oN 21 46 [vl h k j] (a.at.part 0 1).2 (oN 22 46 [vl A m.1 B] (c.at.part 0 1).2 (bE d fun J E d=>ocl 23 (znk (G.step hs) f E) ?_))
 rintro _ Y ⟨L,rfl⟩
 replace hs:=hs.tr0 L
 refine dT 2 (crt ?_)
 obtain rfl:=sj d
 exact rT 6 (.bool J) ⟨hs,rfl⟩
theorem zjW {κ:K} {p0:(LP)} {t k l e f:OA} {c2 m n g h:Nat} {p1:TS×(LP)×Int} {j:LP} (J:Sl tPlaced κ t c2 p0) (f6:Sl tGlue κ k m p1.1.1) (C:Sl tTile κ l n p1.1.2) (w:Sl tPlaced κ e g p1.2.1) (p:I64 p1.2.2) (x:Sl tPlaced κ f h j) {r:Bool} (d:zbt p0 p1 j=some r) :
 Fn Tryz.prog 228 #[.agg #[vl t p0 c2],.agg #[vl k p1.1.1 m,vl l p1.1.2 n,vl e p1.2.1 g,iv p1.2.2],.agg #[vl f j h]] κ (fun v D=>Step [] κ D∧v=.bool r):=by
 refine fnc 19 [] Tryz.func228 Tryz.ntmps228 fun hs=>csr (xO 3 118 (κ.H.size,228001) hs.1 [vl t p0 c2] fun T L E b=>?_)
 replace hs:=hs.tr0 E
 refine xO 4 48 (κ.H.size,228002) hs.1 [vl k p1.1.1 m,vl l p1.1.2 n,vl e p1.2.1 g,iv p1.2.2] fun U M y a=>?_
 replace hs:=hs.tr0 y
 replace b:=b.step0 y
 refine xO 5 46 (κ.H.size,228003) hs.1 [vl f j h] fun V N q c=>?_
 replace hs:=hs.tr0 q
 replace b:=b.step0 q
 replace a:=a.step0 q
 refine od 1 (otx (od 1 (oN 8 116 [vl t p0 c2] (b.at.part 0 1).2 (oN 9 48 [vl k p1.1.1 m,vl l p1.1.2 n,vl e p1.2.1 g,iv p1.2.2] (a.at.part 0 4).2 (oN 10 46 [vl f j h] (c.at.part 0 1).2 (bE d fun F z d=>ocl 11 (zbu (J.step hs) (f6.step hs) (C.step hs) (w.step hs) p (x.step hs) z) ?_))))))
 rintro _ O ⟨s,rfl⟩
 replace hs:=hs.tr0 s
 replace a:=a.step0 s
 replace c:=c.step0 s
 refine osp 12 (F) d ?_ ?_
 ·intro P d
  refine oz [13,14,15,16,17] (dT 2 (crt ?_))
  obtain rfl:=sj d
  exact rT 6 ff ⟨hs,rfl⟩
 intro P d
 refine oN 13 48 [vl k p1.1.1 m,vl l p1.1.2 n,vl e p1.2.1 g,iv p1.2.2] (a.at.part 0 4).2 (oN 14 46 [vl f j h] (c.at.part 0 1).2 (bE d fun X A d=>ocl 15 (zeu (f6.step hs) (C.step hs) (w.step hs) p (x.step hs) A) ?_))
 rintro _ Q ⟨G,Y,Z,a0,a2,rfl,i,u⟩
 replace i:=ga hs.1 i
 replace hs:=hs.tr0 G
 refine bE d fun H B d=>ocl 16 (zmM u B) ?_
 rintro _ R ⟨I,rfl,S⟩
 replace hs:=hs.tr0 I
 refine dT 3 (crt ?_)
 obtain rfl:=sj d
 exact rT 6 (bW (H=0)) ⟨hs,rfl⟩
theorem zsO {κ:K} {p0:TS×(LP)×Int} {G H I D:OA} {c2 L M A:Nat} {p1:LP} (f3:Sl tGlue κ G c2 p0.1.1) (f6:Sl tTile κ H L p0.1.2) (f9:Sl tPlaced κ I M p0.2.1) (d3:I64 p0.2.2) (e6:Sl tPlaced κ D A p1) {r:((TS×(LP)×Int)×LP×(LP)×LI×LI)×Int} (m:zpT p0 p1=some r) :
 Fn Tryz.prog 233 #[.agg #[vl G p0.1.1 c2,vl H p0.1.2 L,vl I p0.2.1 M,iv p0.2.2],vl D p1 A] κ (fun v q=>Step [] κ q∧∃ (j2:Nat) (d8:Nat) (j3:OA) (j4:Nat) (j5:OA) (j6:Nat) (j7:OA) (j8:Nat) (j9:OA) (k0:Nat) (k1:OA) (k2:Nat) (k3:OA) (k4:Nat) (k5:OA) (k6:Nat),v=.tuple #[pt j2 0,iv r.2]∧κ.H.size≤d8∧Box (d8,233003) q j2 [vl j3 r.1.1.1.1 j4,vl j5 r.1.1.1.2 j6,vl j7 r.1.1.2.1 j8,iv r.1.1.2.2,vl j9 r.1.2.1 k0,vl k1 r.1.2.2.1 k2,vl k3 r.1.2.2.2.1 k4,vl k5 r.1.2.2.2.2 k6] 342∧Sl tGlue q j3 j4 r.1.1.1.1∧Sl tTile q j5 j6 r.1.1.1.2∧Sl tPlaced q j7 j8 r.1.1.2.1∧I64 r.1.1.2.2∧Sl tPlaced q j9 k0 r.1.2.1∧Sl tPlaced q k1 k2 r.1.2.2.1∧Gr tI64 true (d8,233006) q 2 k3 k4 r.1.2.2.2.1∧Gr tI64 true (d8,233008) q 2 k5 k6 r.1.2.2.2.2∧I64 r.2):=by
 refine fnc 99 [] Tryz.func233 Tryz.ntmps233 fun hs=>csr (xO 2 48 (κ.H.size,233001) hs.1 [vl G p0.1.1 c2,vl H p0.1.2 L,vl I p0.2.1 M,iv p0.2.2] fun b4 o3 m2 f=>?_)
 replace hs:=hs.tr0 m2
 refine od 2 (otx (oN 19 48 [vl G p0.1.1 c2,vl H p0.1.2 L,vl I p0.2.1 M,iv p0.2.2] (f.at.part 0 4).2 (od 1 (bE m fun z k8 m=>ocl 21 (zfJ (f3.step hs) (f6.step hs) (f9.step hs) d3 (e6.step hs) k8) ?_))))
 rintro _ o4 ⟨k7,B,C,rfl,j,o5,o6⟩
 replace hs:=hs.tr0 k7
 replace f:=f.step0 k7
 refine od 4 (xT 6 46 (κ.H.size,233002) hs.1 [sl none 0 0] fun q1 o7 e7 b1=>?_)
 replace hs:=hs.tr0 e7
 replace j:=j.step e7
 replace f:=f.step0 e7
 refine xM 46 [vl B z.1 C] b1 fun o8 e8 _ e9=>?_
 replace hs:=hs.trB b1.ge e8
 replace j:=j.step e8
 replace f:=f.step e8 (nm1 (f.ne b1 (zl kr)))
 replace b1:=e9
 refine dT 2 (cs (cT 2 ?_))
 refine cc _ m ?_ ?_
 ·intro hc m
  refine cT 3 (crt (zc ?_))
  cases m
 intro hc m
 refine ckt (csr (oN 28 48 [vl G p0.1.1 c2,vl H p0.1.2 L,vl I p0.2.1 M,iv p0.2.2] (f.at.part 0 4).2 (od 1 (oN 30 46 [vl B z.1 C] (b1.at.part 0 1).2 (od 1 (xO 32 342 (κ.H.size,233003) hs.1 [vl G p0.1.1 c2,vl H p0.1.2 L,vl I p0.2.1 M,iv p0.2.2,vl D p1 A,vl B z.1 C,sl none 0 0,sl none 0 0] fun E o9 f0 c=>?_))))))
 replace hs:=hs.tr0 f0
 replace j:=j.step f0
 replace f:=f.step0 f0
 refine od 1 (otx (oN 33 48 [vl G p0.1.1 c2,vl H p0.1.2 L,vl I p0.2.1 M,iv p0.2.2] (f.at.part 0 4).2 (od 1 (oN 35 46 [vl I p0.2.1 M] (f.at.part 2 1).2 (bE m fun m3 k9 m=>ocl 36 (zeu (f3.step hs) (f6.step hs) (f9.step hs) d3 (f9.step hs) k9) ?_)))))
 rintro _ p2 ⟨d9,b5,e0,e1,e2,rfl,b6,g⟩
 replace b6:=ga hs.1 b6
 replace hs:=hs.tr0 d9
 replace j:=j.step d9
 replace f:=f.step0 d9
 replace c:=c.step0 d9
 refine dT 1 (cs (cT 3 (cb 0 ?_)))
 refine zj 0 (fun Z=>∀ (e3:LI) (e4:LI) (f1:OA) (f2:Nat) (f4:OA) (f5:Nat) (E0:Env) (a9:K),Step [] κ a9→Gr tI64 true (κ.H.size,233006) a9 2 f1 f2 e3→Gr tI64 true (κ.H.size,233008) a9 2 f4 f5 e4→Sl tPlaced a9 B C z.1→Box (κ.H.size,233003) a9 E [vl G p0.1.1 c2,vl H p0.1.2 L,vl I p0.2.1 M,iv p0.2.2,vl D p1 A,vl B z.1 C,vl f1 e3 f2,vl f4 e4 f5] 342→zmp p0 p1 z e3 e4=some r→Z (ups E0 [(9,pt E 0)]) a9) ?_ fun J1=>?_
 ·intro e3 e4 f1 f2 f4 f5 E0 a9 hs m4 m5 j c m
  refine zf (zb (cT 3 (crt ?_)))
  obtain rfl:=sj m
  refine rt [.tmp 4,.tmp 5] [pt E 0,iv 0] ⟨kr,kr,trivial⟩ ?_
  exact ⟨hs,_,_,_,_,_,_,_,_,_,_,_,_,_,_,_,_,rfl,(fz _),c,(f3.step hs),(f6.step hs),(f9.step hs),d3,(e6.step hs),j,m4,m5,(iK 0)⟩
 refine bE m fun m6 l0 g9=>zp (F:=zf7 p0 p1) (J:=fun i E' q=>∃ (P:OA) (Q:Nat) (N:OA) (O:Nat),(∃ E0,E'=ups E0 [(2,pt b4 0),(9,pt E 0),(10,pt b5 0),(37,vl D p1 A),(38,iv (p1.length:Int)),(39,iv i.1)])∧Step [] κ q∧I64 i.1∧Gr tI64 true (κ.H.size,233006) q 2 P Q i.2.1∧Gr tI64 true (κ.H.size,233008) q 2 N O i.2.2.1∧Sl tPlaced q B C z.1∧Box (κ.H.size,233001) q b4 [vl G p0.1.1 c2,vl H p0.1.2 L,vl I p0.2.1 M,iv p0.2.2] 48∧Box (κ.H.size,233003) q E [vl G p0.1.1 c2,vl H p0.1.2 L,vl I p0.2.1 M,iv p0.2.2,vl D p1 A,vl B z.1 C,vl P i.2.1 Q,vl N i.2.2.1 O] 342∧Cry (e2,198005) q b5 e0 e1 i.2.2.2) (s0:=(0,[],[],m3)) (x:=m6) kr l0 ⟨_,_,_,_,⟨_,eY⟩,hs,(iK 0),Gr.nil,Gr.nil,j,f,c,g⟩ ?_
 rintro i _ l3 ⟨P,Q,N,O,⟨E0,rfl⟩,hs,p4,n,k,j,f,c,g⟩ h0 m h1
 refine cT 1 (cs ?_)
 refine cc _ m ?_ ?_
 ·intro hc m
  refine ckt (cs (cb 1 (csr (bE m fun s l4 m=>?_))))
  obtain ⟨m7,m8,h2,h3,h4,m9,c3,h5⟩:=(e6.step hs).idx l4
  obtain ⟨_,_,rfl,⟨_,_,rfl,⟨rfl,f7⟩,⟨rfl,f8⟩⟩,⟨rfl,g0⟩⟩:=h5
  replace c3:PubAt l3 m7 (m8+i.1.toNat*3) [iv s.1.1,iv s.1.2,iv s.2]:=c3
  refine oi 41 49 110 3 p1.length A .i64 i.1 h2 h3 h4 (oN 42 110 [iv s.1.1,iv s.1.2,iv s.2] (c3.at.part 0 3).2 (xT 12 110 (κ.H.size,233004) hs.1 [iv 0,iv 0,iv 0] fun c0 p5 b7 h=>?_))
  replace hs:=hs.tr0 b7
  replace j:=j.step b7
  replace n:=n.step0 b7
  replace k:=k.step0 b7
  replace f:=f.step0 b7
  replace c:=c.step0 b7
  replace g:=g.step0 b7
  refine xM 110 [iv s.1.1,iv s.1.2,iv s.2] h fun p6 b8 _ g1=>?_
  replace hs:=hs.trB h.ge b8
  replace j:=j.step b8
  replace n:=n.step b8 (n.nb h (zl kr))
  replace k:=k.step b8 (k.nb h (zl kr))
  replace f:=f.step b8 (nm1 (f.ne h (zl kr)))
  replace c:=c.step b8 (nm1 (c.ne h (zl kr)))
  replace g:=g.step b8 (g.bn h.o (zl kr))
  replace h:=g1
  refine otx (dT 2 (cs (cT 1 (cb 2 ?_))))
  refine zj 2 (fun Z=>∀ (R:Int) (S:Int) (E0:Env) (w:K),Step [] κ w→I64 R→I64 S→Sl tPlaced w B C z.1→Gr tI64 true (κ.H.size,233006) w 2 P Q i.2.1→Gr tI64 true (κ.H.size,233008) w 2 N O i.2.2.1→Box (κ.H.size,233001) w b4 [vl G p0.1.1 c2,vl H p0.1.2 L,vl I p0.2.1 M,iv p0.2.2] 48→Box (κ.H.size,233003) w E [vl G p0.1.1 c2,vl H p0.1.2 L,vl I p0.2.1 M,iv p0.2.2,vl D p1 A,vl B z.1 C,vl P i.2.1 Q,vl N i.2.2.1 O] 342→Cry (e2,198005) w b5 e0 e1 i.2.2.2→Box (κ.H.size,233004) w c0 [iv s.1.1,iv s.1.2,iv s.2] 110→zmo i s R S=some h0→Z (ups E0 [(2,pt b4 0),(9,pt E 0),(10,pt b5 0),(12,pt c0 0),(13,iv R),(14,iv S),(37,vl D p1 A),(38,iv (p1.length:Int)),(39,iv i.1)]) w) ?_ fun J2=>?_
  ·intro R S E0 w hs h6 h7 j n k f c g h m
   refine zf (zb (cO 4 (o1 75 32 (vl P i.2.1 Q) (c.at.one (o:=6) rfl) (od 1 (zJ (d:=77) (T:=32) (e:=2) (t:=tI64) (pub:=true) (τ:=(κ.H.size,233005)) (len:=1) (l:=[R]) (parts:=#[(0,iv R)]) (cs:=[iv R]) kr kr kr kr hs.1 rfl ⟨_,_,rfl,⟨rfl,h6⟩,rfl⟩ kr fun l5 n0 U l6=>?_)))))
   replace hs:=hs.tr0 U
   replace j:=j.step U
   replace n:=n.step0 U
   replace k:=k.step0 U
   replace f:=f.step0 U
   replace c:=c.step0 U
   replace g:=g.step0 U
   replace h:=h.step0 U
   refine bE m fun c4 h8 m=>?_
   have f68q:=n.sl
   refine zH (d:=78) (T:=32) (e:=2) (t:=tI64) (pub:=true) (τ:=(κ.H.size,233006)) (bytes:=8) (a:=P) (cp:=Q) (l:=i.2.1) (a2:=l5) (c2:=1) (l2:=[R]) kr kr n l6.sl hs.1 kr h8 fun c6 c7 n1 V u hw=>?_
   clear hw
   replace hs:=hs.trG (n.own (fz _)) V
   replace j:=j.step V
   replace f68q:=f68q.step V
   replace k:=k.step V (k.ng n (zl kr))
   replace f:=f.step V (n.bn f (zl kr))
   replace c:=c.step V (n.bn c (zl kr))
   replace g:=g.step V (g.gn n (zl kr))
   replace h:=h.step V (n.bn h (zl kr))
   refine od 2 (zm (b:=E) (off:=6) (T:=32) (vl c6 c4 c7) [vl c6 c4 c7] [vl G p0.1.1 c2,vl H p0.1.2 L,vl I p0.2.1 M,iv p0.2.2,vl D p1 A,vl B z.1 C,vl c6 c4 c7,vl N i.2.2.1 O] kr kr c rfl kr kr kr rfl fun n2 X _ b9=>?_)
   replace hs:=hs.trB c.ge X
   replace j:=j.step X
   replace f68q:=f68q.step X
   replace k:=k.step X (k.nb c (zl kr))
   replace u:=u.step X (u.nb c (zl kr))
   replace f:=f.step X (nm1 (f.ne c (zl kr)))
   replace g:=g.step X (g.bn c.o (zl kr))
   replace h:=h.step X (nm1 (h.ne c (zl kr)))
   replace c:=b9
   refine otx (od 4 (o1 85 32 (vl N i.2.2.1 O) (c.at.one (o:=7) rfl) (od 1 (zJ (d:=87) (T:=32) (e:=2) (t:=tI64) (pub:=true) (τ:=(κ.H.size,233007)) (len:=1) (l:=[S]) (parts:=#[(0,iv S)]) (cs:=[iv S]) kr kr kr kr hs.1 rfl ⟨_,_,rfl,⟨rfl,h7⟩,rfl⟩ kr fun l7 n3 Y l8=>?_))))
   replace hs:=hs.tr0 Y
   replace j:=j.step Y
   replace k:=k.step0 Y
   replace u:=u.step0 Y
   replace f:=f.step0 Y
   replace c:=c.step0 Y
   replace g:=g.step0 Y
   replace h:=h.step0 Y
   refine bE m fun d4 h9 m=>?_
   have f72q:=k.sl
   refine zH (d:=88) (T:=32) (e:=2) (t:=tI64) (pub:=true) (τ:=(κ.H.size,233008)) (bytes:=8) (a:=N) (cp:=O) (l:=i.2.2.1) (a2:=l7) (c2:=1) (l2:=[S]) kr kr k l8.sl hs.1 kr h9 fun d5 d6 n4 a0 b0 hw=>?_
   clear hw
   replace hs:=hs.trG (k.own (fz _)) a0
   replace j:=j.step a0
   replace f72q:=f72q.step a0
   replace u:=u.step a0 (u.ng k (zl kr))
   replace f:=f.step a0 (k.bn f (zl kr))
   replace c:=c.step a0 (k.bn c (zl kr))
   replace g:=g.step a0 (g.gn k (zl kr))
   replace h:=h.step a0 (k.bn h (zl kr))
   refine od 2 (zm (b:=E) (off:=7) (T:=32) (vl d5 d4 d6) [vl d5 d4 d6] [vl G p0.1.1 c2,vl H p0.1.2 L,vl I p0.2.1 M,iv p0.2.2,vl D p1 A,vl B z.1 C,vl c6 c4 c7,vl d5 d4 d6] kr kr c rfl kr kr kr rfl fun n5 a3 _ b9=>?_)
   replace hs:=hs.trB c.ge a3
   replace j:=j.step a3
   replace f72q:=f72q.step a3
   replace u:=u.step a3 (u.nb c (zl kr))
   replace b0:=b0.step a3 (b0.nb c (zl kr))
   replace f:=f.step a3 (nm1 (f.ne c (zl kr)))
   replace g:=g.step a3 (g.bn c.o (zl kr))
   replace h:=h.step a3 (nm1 (h.ne c (zl kr)))
   replace c:=b9
   refine otr (od 2 (oN 93 103 [iv s.1.1,iv s.1.2] (h.at.part 0 2).2 (od 1 (o1 95 2 (iv s.2) (h.at.one (o:=2) rfl) (bE m fun p8 i0 m=>ocl 96 (zjF g f7 f8 g0 i0) ?_)))))
   rintro _ n6 ⟨b3,rfl,g2⟩
   replace hs:=hs.trG (g.own b6) b3
   replace j:=j.step b3
   replace u:=u.step b3 (g.ng u (zl kr))
   replace b0:=b0.step b3 (g.ng b0 (zl kr))
   replace f:=f.step b3 (g.nb f.o (zl kr))
   replace c:=c.step b3 (g.nb c.o (zl kr))
   replace g:=g2
   refine oe (zd (zb (cr (od 2 (oe ?_)))))
   exact ze (sj m).symm ⟨_,_,_,_,⟨_,eY⟩,hs,(zr _),u,b0,j,f,c,g⟩
  refine bE m fun l9 i1 g3=>zp (F:=zf6 p0 i s) (J:=fun p E' q=>(∃ E0,E'=ups E0 [(2,pt b4 0),(9,pt E 0),(10,pt b5 0),(12,pt c0 0),(13,iv p.1),(14,iv p.2.1),(37,vl D p1 A),(38,iv (p1.length:Int)),(39,iv i.1),(43,iv p.2.2)])∧Step [] κ q∧I64 p.1∧I64 p.2.1∧I64 p.2.2∧Sl tPlaced q B C z.1∧Gr tI64 true (κ.H.size,233006) q 2 P Q i.2.1∧Gr tI64 true (κ.H.size,233008) q 2 N O i.2.2.1∧Box (κ.H.size,233001) q b4 [vl G p0.1.1 c2,vl H p0.1.2 L,vl I p0.2.1 M,iv p0.2.2] 48∧Box (κ.H.size,233003) q E [vl G p0.1.1 c2,vl H p0.1.2 L,vl I p0.2.1 M,iv p0.2.2,vl D p1 A,vl B z.1 C,vl P i.2.1 Q,vl N i.2.2.1 O] 342∧Cry (e2,198005) q b5 e0 e1 i.2.2.2∧Box (κ.H.size,233004) q c0 [iv s.1.1,iv s.1.2,iv s.2] 110) (s0:=(0,0,0)) (x:=l9) kr i1 ⟨⟨_,eY⟩,hs,(iK 0),(iK 0),(iK 0),j,n,k,f,c,g,h⟩ ?_
  rintro p _ n7 ⟨⟨E0,rfl⟩,hs,d7,c9,e5,j,n,k,f,c,g,h⟩ g4 m g5
  refine cT 1 (cs ?_)
  refine cc _ m ?_ ?_
  ·intro hc m
   refine ckt ?_
   refine zn (fun Z=>∀ (d0:Int) (d2:Int) (E0:Env) (y:K),Step [] κ y→I64 d0→I64 d2→Sl tPlaced y B C z.1→Gr tI64 true (κ.H.size,233006) y 2 P Q i.2.1→Gr tI64 true (κ.H.size,233008) y 2 N O i.2.2.1→Box (κ.H.size,233001) y b4 [vl G p0.1.1 c2,vl H p0.1.2 L,vl I p0.2.1 M,iv p0.2.2] 48→Box (κ.H.size,233003) y E [vl G p0.1.1 c2,vl H p0.1.2 L,vl I p0.2.1 M,iv p0.2.2,vl D p1 A,vl B z.1 C,vl P i.2.1 Q,vl N i.2.2.1 O] 342→Cry (e2,198005) y b5 e0 e1 i.2.2.2→Box (κ.H.size,233004) y c0 [iv s.1.1,iv s.1.2,iv s.2] 110→zh3 p d0 d2=some g4→cwp Tryz.prog 99 (sub (zB Tryz.f233) [1,1,1,0,0,1,0,1,1,0,0,1,1,0,0,1,0,1,1,1,1,1]) Z (ups E0 [(2,pt b4 0),(9,pt E 0),(10,pt b5 0),(12,pt c0 0),(13,iv d0),(14,iv d2),(37,vl D p1 A),(38,iv (p1.length:Int)),(39,iv i.1),(43,iv p.2.2)]) y) ?_ fun J3=>?_
   ·intro d0 d2 E0 y hs i2 i3 j n k f c g h m
    refine cr (od 2 (oe ?_))
    exact ze (sj m).symm ⟨⟨_,eY⟩,hs,i2,i3,(zr _),j,n,k,f,c,g,h⟩
   refine cs (cb 3 (cO 2 (otx (od 2 (oN 48 103 [iv s.1.1,iv s.1.2] (h.at.part 0 2).2 (od 1 (bE m fun p9 i4 m=>ocl 50 (zbn f7 f8 e5 i4) ?_)))))))
   rintro _ n8 ⟨a5,rfl,i5,i6⟩
   replace hs:=hs.tr0 a5
   replace j:=j.step a5
   replace n:=n.step0 a5
   replace k:=k.step0 a5
   replace f:=f.step0 a5
   replace c:=c.step0 a5
   replace g:=g.step0 a5
   replace h:=h.step0 a5
   refine bE m fun q0 i7 m=>ocl 51 (zhb g i5 i6 i7) ?_
   rintro _ n9 ⟨a6,rfl,i8⟩
   replace hs:=hs.tr0 a6
   replace j:=j.step a6
   replace n:=n.step0 a6
   replace k:=k.step0 a6
   replace f:=f.step0 a6
   replace c:=c.step0 a6
   replace g:=g.step0 a6
   replace h:=h.step0 a6
   refine od 1 (otx (dT 2 ?_))
   refine cc _ m ?_ ?_
   ·intro hc m
    refine cO 1 (oN 55 43 [vl G p0.1.1 c2,vl H p0.1.2 L] (f.at.part 0 2).2 (od 1 (o1 57 2 (iv s.2) (h.at.one (o:=2) rfl) (od 2 (bE m fun m1 i9 m=>ocl 60 (zfI (f3.step hs) (f6.step hs) g0 e5 i8 i9) ?_)))))
    rintro _ o0 ⟨a8,rfl,o2⟩
    replace hs:=hs.tr0 a8
    replace j:=j.step a8
    replace n:=n.step0 a8
    replace k:=k.step0 a8
    replace f:=f.step0 a8
    replace c:=c.step0 a8
    replace g:=g.step0 a8
    replace h:=h.step0 a8
    refine od 1 (otx (dT 2 ?_))
    refine cc _ m ?_ ?_
    ·intro hc m
     refine cO 2 (bE m fun g6 j1 m=>oq 65 (iv g6) (fun _=>zqF (yk:=.i64) kr j1) (od 2 (otr (od 4 (oe (zd (zb ?_)))))))
     exact zk eY (J3 (ior .i64 p.1 g6) (w64 (p.2.1+m1))  _ _ hs (zwR _ _) (zr _) j n k f c g h m)
    intro hc m
    refine ck (zd (zb ?_))
    exact zk eY (J3 p.1 p.2.1  _ _ hs d7 c9 j n k f c g h m)
   intro hc m
   refine ck (zd (zb ?_))
   exact zk eY (J3 p.1 p.2.1  _ _ hs d7 c9 j n k f c g h m)
  intro hc m
  refine cx 2 (zh ?_)
  have hx:=g5 _ (sj m).symm
  subst hx
  replace m:=g3
  refine zi ?_
  exact zq eY (J2 p.1 p.2.1  _ _ hs d7 c9 j n k f c g h m)
 intro hc m
 refine cx 0 (zh ?_)
 have hx:=h1 _ (sj m).symm
 subst hx
 replace m:=g9
 refine zi ?_
 exact zq eY (J1 i.2.1 i.2.2.1 _ _ _ _ _ _ hs n k j c m)
theorem zne {κ:K} {p0:(TS×(LP)×Int)×LP×(LP)×LI×LI} {p q:Nat} {a1 a4 a7 s w Y y:OA} {c2 c5 c8 k z a0 t:Nat} (u:At κ p q [vl a1 p0.1.1.1 c2,vl a4 p0.1.1.2 c5,vl a7 p0.1.2.1 c8,iv p0.1.2.2,vl s p0.2.1 k,vl w p0.2.2.1 z,vl Y p0.2.2.2.1 a0,vl y p0.2.2.2.2 t]) (f3:Sl tGlue κ a1 c2 p0.1.1.1) (f6:Sl tTile κ a4 c5 p0.1.1.2) (f9:Sl tPlaced κ a7 c8 p0.1.2.1) (A:I64 p0.1.2.2) (a2:Sl tPlaced κ s k p0.2.1) (a3:Sl tPlaced κ w z p0.2.2.1) (d4:Sl tI64 κ Y a0 p0.2.2.2.1) (a5:Sl tI64 κ y t p0.2.2.2.2) {r:(Option (Nat×((Int×Int)×Int)))} (a:zh1 p0=some r) :
 Fn Tryz.prog 234 #[pt p q] κ (fun v B=>Step [] κ B∧v=zxT r∧zxi r):=by
 refine fnc 57 [] Tryz.func234 Tryz.ntmps234 fun hs=>cT 1 (cs (cO 3 (o1 9 49 (vl s p0.2.1 k) ((u.step0 hs).one (o:=4) rfl) (dT 2 (cb 0 ?_)))))
 refine zj 0 (fun Z=>∀ (C:Env) (m:K),Step [] κ m→zfE p0=some r→Z (ups C [(0,pt p q)]) m) ?_ fun J1=>?_
 ·intro C m hs a
  refine zf (zb (cs (cs (cd 8 (dd 3 (dN 42 48 [vl a1 p0.1.1.1 c2,vl a4 p0.1.1.2 c5,vl a7 p0.1.2.1 c8,iv p0.1.2.2] ((u.step0 hs).part 0 4).2 (dd 3 (dN 46 46 [vl w p0.2.2.1 z] ((u.step0 hs).part 5 1).2 (de (bE a fun g2 b4 a=>ocl 47 (zeu (f3.step hs) (f6.step hs) (f9.step hs) A (a3.step hs) b4) ?_))))))))))
  rintro _ f5 ⟨d5,g3,g4,g5,g6,rfl,l,I⟩
  replace l:=ga hs.1 l
  replace hs:=hs.tr0 d5
  refine bE a fun d6 b5 a=>ocl 48 (znj I b5) ?_
  rintro _ b6 ⟨d7,g7,d8,rfl,d9⟩
  replace hs:=hs.tr0 d7
  refine od 1 (otx (dT 3 ?_))
  refine cc _ a ?_ ?_
  ·intro n a
   refine cO 1 (bE a fun e b7 a=>?_)
   obtain ⟨e0,e1,L,M,N,e9,f,O⟩:=d9.idx b7
   obtain ⟨_,_,rfl,⟨_,_,rfl,⟨rfl,b8⟩,⟨rfl,b9⟩⟩,⟨rfl,c0⟩⟩:=O
   replace f:PubAt b6 e0 (e1+(0:Int).toNat*3) [iv e.1.1,iv e.1.2,iv e.2]:=f
   refine oi 53 49 110 3 d6.length d8 .i64 0 L M N (oN 54 110 [iv e.1.1,iv e.1.2,iv e.2] (f.at.part 0 3).2 (dT 3 (crt (zc ?_))))
   obtain rfl:=sj a
   exact rT 2 (zxT (some (348,(e.1.1,e.1.2),e.2))) ⟨hs,rfl,(zrr (by decide) b8 b9 c0)⟩
  intro n a
  refine ckt (cT 1 (crt ?_))
  obtain rfl:=sj a
  exact rT 2 Value.nilIface ⟨hs,rfl,zuq⟩
 refine bE a fun e2 c1 g=>zp (F:=zdt p0) (J:=fun d E' B=>(∃ C,E'=ups C [(0,pt p q),(9,vl s p0.2.1 k),(10,iv (p0.2.1.length:Int)),(11,iv d)])∧Step [] κ B∧I64 d) (s0:=0) (x:=e2) kr c1 ⟨⟨_,eY⟩,hs,(iK 0)⟩ ?_
 rintro d _ c3 ⟨⟨C,rfl⟩,hs,c4⟩ f0 a h
 refine cT 1 (cs ?_)
 refine cc _ a ?_ ?_
 ·intro n a
  refine ckt (cs (cb 1 (cO 1 (bE a fun b c6 a=>?_))))
  obtain ⟨e3,e4,P,Q,R,f1,i,S⟩:=(a2.step hs).idx c6
  obtain ⟨_,_,rfl,⟨_,_,rfl,⟨rfl,D⟩,⟨rfl,E⟩⟩,⟨rfl,G⟩⟩:=S
  replace i:PubAt c3 e3 (e4+d.toNat*3) [iv b.1.1,iv b.1.2,iv b.2]:=i
  refine oi 14 49 110 3 p0.2.1.length k .i64 d P Q R (oN 15 110 [iv b.1.1,iv b.1.2,iv b.2] (i.at.part 0 3).2 (xT 4 110 (κ.H.size,234001) hs.1 [iv 0,iv 0,iv 0] fun g8 f8 e5 c=>?_))
  replace hs:=hs.tr0 e5
  refine od 1 (xM 110 [iv b.1.1,iv b.1.2,iv b.2] c fun c7 e6 _ H=>?_)
  replace hs:=hs.trB c.ge e6
  replace c:=H
  refine ot (cs (cs (cd 12 (dd 3 (d1 19 32 (vl y p0.2.2.2.2 t) ((u.step0 hs).one (o:=7) rfl) (dd 1 (bE a fun a6 c9 a=>?_)))))))
  obtain ⟨e7,e8,T,U,V,f2,j,X⟩:=(a5.step hs).idx c9
  obtain ⟨rfl,g0⟩:=X
  replace j:PubAt c7 e7 (e8+d.toNat*1) [iv a6]:=j
  refine di 21 32 2 1 p0.2.2.2.2.length t .i64 d T U V (d1 22 2 (iv a6) (j.at.one (o:=0) rfl) (dd 4 (d1 27 2 (iv p0.1.2.2) ((u.step0 hs).one (o:=3) rfl) (de (dT 1 ?_)))))
  refine cc _ a ?_ ?_
  ·intro n a
   refine csr (oN 29 110 [iv b.1.1,iv b.1.2,iv b.2] (c.at.part 0 3).2 (dT 3 (crt (zc (zg (zc ?_))))))
   have hx:=h _ (sj a).symm
   subst hx
   replace a:=g
   refine zv (zg (zc ?_))
   obtain rfl:=sj a
   exact rT 2 (zxT (some (344,(b.1.1,b.1.2),b.2))) ⟨hs,rfl,(zrr (by decide) D E G)⟩
  intro n a
  refine ckt (cO 2 (bE a fun g9 d0 a=>ocl 34 (zmn ((u.step0 hs).part 0 8) (f3.step hs) (f6.step hs) (f9.step hs) A (a2.step hs) (a3.step hs) (d4.step hs) (a5.step hs) c4 d0) ?_))
  rintro _ g1 ⟨a8,rfl⟩
  replace hs:=hs.tr0 a8
  replace c:=c.step0 a8
  refine ot ?_
  refine cc _ a ?_ ?_
  ·intro n a
   refine csr (oN 35 110 [iv b.1.1,iv b.1.2,iv b.2] (c.at.part 0 3).2 (dT 3 (crt (zg (zc ?_)))))
   have hx:=h _ (sj a).symm
   subst hx
   replace a:=g
   refine zv (zg (zc ?_))
   obtain rfl:=sj a
   exact rT 2 (zxT (some (346,(b.1.1,b.1.2),b.2))) ⟨hs,rfl,(zrr (by decide) D E G)⟩
  intro n a
  refine ck (zd (zb (cr (od 2 (oe ?_)))))
  exact ze (sj a).symm ⟨⟨_,eY⟩,hs,(zr _)⟩
 intro n a
 refine cx 0 (zh ?_)
 have hx:=h _ (sj a).symm
 subst hx
 replace a:=g
 refine zi ?_
 exact zq eY (J1   _ _ hs  a)
theorem zol {κ:K} {p0:Sy} {p q s w:OA} {c2 t u y:Nat} {p1:LP} (J:Sl tGlue κ p c2 p0.1.1) (f6:Sl tTile κ q t p0.1.2) (L:Sl tPlaced κ s u p0.2.1) (B:I64 p0.2.2) (D:Sl tPlaced κ w y p1) {r:Int×(Int×Int)×Int} (b:zgU p0 p1=some r) :
 Fn Tryz.prog 232 #[.agg #[vl p p0.1.1 c2,vl q p0.1.2 t,vl s p0.2.1 u,iv p0.2.2],vl w p1 y] κ (fun v E=>Step [] κ E∧v=.tuple #[iv r.1,.agg #[iv r.2.1.1,iv r.2.1.2],iv r.2.2]∧I64 r.1∧I64 r.2.1.1∧I64 r.2.1.2∧I64 r.2.2):=by
 unfold zgU at b
 refine fnc 29 [] Tryz.func232 Tryz.ntmps232 fun hs=>csr (xO 2 48 (κ.H.size,232001) hs.1 [vl p p0.1.1 c2,vl q p0.1.2 t,vl s p0.2.1 u,iv p0.2.2] fun b2 Z M C=>?_)
 replace hs:=hs.tr0 M
 refine od 1 (xT 5 103 (κ.H.size,232002) hs.1 [iv 0,iv 0] fun l a0 F a=>?_)
 replace hs:=hs.tr0 F
 replace C:=C.step0 F
 refine od 1 (otx (oN 11 48 [vl p p0.1.1 c2,vl q p0.1.2 t,vl s p0.2.1 u,iv p0.2.2] (C.at.part 0 4).2 (od 1 (bE b fun x hx b=>ocl 13 (zsO (J.step hs) (f6.step hs) (L.step hs) B (D.step hs) hx) ?_))))
 rintro _ N ⟨z,a2,a3,a5,a6,a8,a9,b0,b1,b3,b4,b6,b7,b8,b9,c0,c1,rfl,hN,G,O,P,Q,H,R,S,U,V,I⟩
 replace hs:=hs.tr0 z
 replace a:=a.step0 z
 refine dT 5 (cs (cs (cr (dT 2 ?_))))
 refine cc _ b ?_ ?_
 ·intro X b
  obtain rfl:=sj b
  refine cO 3 (xM 103 [iv 0,iv 0] a fun k i _ j=>?_)
  replace hs:=hs.trB a.ge i
  refine dT 1 (crt (zc (rt [.tmp 4,.cell 5 103,.tmp 6] [iv 0,.agg #[iv 0,iv 0],iv x.2] ⟨rfl,⟨l,0,[iv 0,iv 0],rfl,rfl,kr,kr,(j.at.part 0 2).2⟩,rfl,trivial⟩ ?_)))
  exact ⟨hs,rfl,(iK 0),(iK 0),(iK 0),I⟩
 intro X b
 refine ck (zb (cO 1 (bE b fun e he b=>ocl 21 (zne (p0:=x.1) (G.at.part 0 8) O P Q H R S U.sl V.sl he) ?_)))
 rintro _ Y ⟨A,rfl,hfl⟩
 replace hs:=hs.tr0 A
 replace a:=a.step0 A
 refine dT 1 (cs ?_)
 cases e with
 | none=>
   obtain rfl:=sj b
   refine csr ?_
   refine op 22 .nilIface ?_
   refine op 23 tt ?_
   refine ot ?_
   refine ct ?_
   refine csr ?_
   refine op 24 (.agg #[iv 0,iv 0]) ?_
   refine op 4 (iv 0) ?_
   refine xM 103 [iv 0,iv 0] a fun k i _ j=>?_
   replace hs:=hs.trB a.ge i
   refine op 6 (iv 3) ?_
   refine ot ?_
   refine crt ?_
   refine zc ?_
   refine rt [.tmp 4,.cell 5 103,.tmp 6] [iv 0,.agg #[iv 0,iv 0],iv 3] ⟨rfl,⟨l,0,[iv 0,iv 0],rfl,rfl,kr,kr,(j.at.part 0 2).2⟩,rfl,trivial⟩ ?_
   exact ⟨hs,rfl,(iK 0),(iK 0),(iK 0),(iK 3)⟩
 | some To=>
   obtain ⟨T,o⟩:=To
   obtain ⟨hT,c,d,h⟩:=hfl T o rfl
   replace b:=sj b
   rcases hT with rfl | rfl | rfl
   · subst b
     refine csr ?_
     refine op 22 (.iface 344 (.agg #[iv o.1.1,iv o.1.2,iv o.2])) ?_
     refine op 23 ff ?_
     refine ot ?_
     refine cf ?_
     refine ckt ?_
     refine csr ?_
     refine op 25 (.iface 344 (.agg #[iv o.1.1,iv o.1.2,iv o.2])) ?_
     refine ocl 26 (zlz (p0:=o) c d h rfl) ?_
     rintro _ m ⟨f,rfl,_⟩
     replace hs:=hs.tr0 f
     replace a:=a.step0 f
     refine op 27 (.iface 344 (.agg #[iv o.1.1,iv o.1.2,iv o.2])) ?_
     refine ocl 28 (zmk (p0:=o) c d h rfl) ?_
     rintro _ n ⟨g,rfl,_⟩
     replace hs:=hs.tr0 g
     replace a:=a.step0 g
     refine op 4 (iv 1) ?_
     refine xM 103 [iv o.1.1,iv o.1.2] a fun k i _ j=>?_
     replace hs:=hs.trB a.ge i
     refine op 6 (iv 0) ?_
     refine ot ?_
     refine crt ?_
     refine rt [.tmp 4,.cell 5 103,.tmp 6] [iv 1,.agg #[iv o.1.1,iv o.1.2],iv 0] ⟨rfl,⟨l,0,[iv o.1.1,iv o.1.2],rfl,rfl,kr,kr,(j.at.part 0 2).2⟩,rfl,trivial⟩ ?_
     exact ⟨hs,rfl,(iK 1),c,d,(iK 0)⟩
   · subst b
     refine csr ?_
     refine op 22 (.iface 346 (.agg #[iv o.1.1,iv o.1.2,iv o.2])) ?_
     refine op 23 ff ?_
     refine ot ?_
     refine cf ?_
     refine ckt ?_
     refine csr ?_
     refine op 25 (.iface 346 (.agg #[iv o.1.1,iv o.1.2,iv o.2])) ?_
     refine ocl 26 (zl0 (p0:=o) c d h rfl) ?_
     rintro _ m ⟨f,rfl,_⟩
     replace hs:=hs.tr0 f
     replace a:=a.step0 f
     refine op 27 (.iface 346 (.agg #[iv o.1.1,iv o.1.2,iv o.2])) ?_
     refine ocl 28 (zmJ (p0:=o) c d h rfl) ?_
     rintro _ n ⟨g,rfl,_⟩
     replace hs:=hs.tr0 g
     replace a:=a.step0 g
     refine op 4 (iv 2) ?_
     refine xM 103 [iv o.1.1,iv o.1.2] a fun k i _ j=>?_
     replace hs:=hs.trB a.ge i
     refine op 6 (iv 0) ?_
     refine ot ?_
     refine crt ?_
     refine rt [.tmp 4,.cell 5 103,.tmp 6] [iv 2,.agg #[iv o.1.1,iv o.1.2],iv 0] ⟨rfl,⟨l,0,[iv o.1.1,iv o.1.2],rfl,rfl,kr,kr,(j.at.part 0 2).2⟩,rfl,trivial⟩ ?_
     exact ⟨hs,rfl,(iK 2),c,d,(iK 0)⟩
   · subst b
     refine csr ?_
     refine op 22 (.iface 348 (.agg #[iv o.1.1,iv o.1.2,iv o.2])) ?_
     refine op 23 ff ?_
     refine ot ?_
     refine cf ?_
     refine ckt ?_
     refine csr ?_
     refine op 25 (.iface 348 (.agg #[iv o.1.1,iv o.1.2,iv o.2])) ?_
     refine ocl 26 (zmL (p0:=o) c d h rfl) ?_
     rintro _ m ⟨f,rfl,_⟩
     replace hs:=hs.tr0 f
     replace a:=a.step0 f
     refine op 27 (.iface 348 (.agg #[iv o.1.1,iv o.1.2,iv o.2])) ?_
     refine ocl 28 (znP (p0:=o) c d h rfl) ?_
     rintro _ n ⟨g,rfl,_⟩
     replace hs:=hs.tr0 g
     replace a:=a.step0 g
     refine op 4 (iv 3) ?_
     refine xM 103 [iv o.1.1,iv o.1.2] a fun k i _ j=>?_
     replace hs:=hs.trB a.ge i
     refine op 6 (iv 0) ?_
     refine ot ?_
     refine crt ?_
     refine rt [.tmp 4,.cell 5 103,.tmp 6] [iv 3,.agg #[iv o.1.1,iv o.1.2],iv 0] ⟨rfl,⟨l,0,[iv o.1.1,iv o.1.2],rfl,rfl,kr,kr,(j.at.part 0 2).2⟩,rfl,trivial⟩ ?_
     exact ⟨hs,rfl,(iK 3),c,d,(iK 0)⟩
theorem zqB {κ:K} {p0:TS×(LP)×Int} {d e f j:OA} {c2 g h k:Nat} {p1:LP} (x:Sl tGlue κ d c2 p0.1.1) (f6:Sl tTile κ e g p0.1.2) (y:Sl tPlaced κ f h p0.2.1) (l:I64 p0.2.2) (p:Sl tPlaced κ j k p1) {r:Bool} (m:zjZ p0 p1=some r) :
 Fn Tryz.prog 231 #[.agg #[vl d p0.1.1 c2,vl e p0.1.2 g,vl f p0.2.1 h,iv p0.2.2],vl j p1 k] κ (fun v q=>Step [] κ q∧v=.bool r):=by
 refine fnc 17 [] Tryz.func231 Tryz.ntmps231 fun hs=>csr (xO 2 48 (κ.H.size,231001) hs.1 [vl d p0.1.1 c2,vl e p0.1.2 g,vl f p0.2.1 h,iv p0.2.2] fun H z s i=>?_)
 replace hs:=hs.tr0 s
 refine od 1 (otx (oN 9 48 [vl d p0.1.1 c2,vl e p0.1.2 g,vl f p0.2.1 h,iv p0.2.2] (i.at.part 0 4).2 (od 1 (bE m fun b n m=>ocl 11 (zol (x.step hs) (f6.step hs) (y.step hs) l (p.step hs) n) ?_))))
 rintro _ A ⟨t,rfl,B,C,D,E⟩
 replace hs:=hs.tr0 t
 refine od 4 (xT 6 103 (κ.H.size,231002) hs.1 [iv 0,iv 0] fun I F u a=>?_)
 replace hs:=hs.tr0 u
 refine od 1 (xM 103 [iv b.2.1.1,iv b.2.1.2] a fun G w _ c=>?_)
 replace hs:=hs.trB a.ge w
 replace a:=c
 refine od 1 (otx (dT 3 (crt ?_)))
 obtain rfl:=sj m
 exact rT 4 (bW (b.2.2=3)) ⟨hs,rfl⟩
theorem zkM {κ:K} {p0:(LP)} {h i j d f:OA} {c2 k l e g:Nat} {p1:TS×(LP)×Int} {m:LP} (y:Sl tPlaced κ h c2 p0) (f6:Sl tGlue κ i k p1.1.1) (z:Sl tTile κ j l p1.1.2) (t:Sl tPlaced κ d e p1.2.1) (n:I64 p1.2.2) (A:Sl tPlaced κ f g m) {r:Bool} (c:zcg p0 p1 m=some r) :
 Fn Tryz.prog 230 #[.agg #[vl h p0 c2],.agg #[vl i p1.1.1 k,vl j p1.1.2 l,vl d p1.2.1 e,iv p1.2.2],.agg #[vl f m g]] κ (fun v B=>Step [] κ B∧v=.bool r):=by
 refine fnc 19 [] Tryz.func230 Tryz.ntmps230 fun hs=>csr (xO 3 119 (κ.H.size,230001) hs.1 [vl h p0 c2] fun N G C a=>?_)
 replace hs:=hs.tr0 C
 refine xO 4 48 (κ.H.size,230002) hs.1 [vl i p1.1.1 k,vl j p1.1.2 l,vl d p1.2.1 e,iv p1.2.2] fun O H u b=>?_
 replace hs:=hs.tr0 u
 replace a:=a.step0 u
 refine xO 5 46 (κ.H.size,230003) hs.1 [vl f m g] fun P I p s=>?_
 replace hs:=hs.tr0 p
 replace a:=a.step0 p
 replace b:=b.step0 p
 refine od 1 (otx (od 1 (oN 8 116 [vl h p0 c2] (a.at.part 0 1).2 (oN 9 48 [vl i p1.1.1 k,vl j p1.1.2 l,vl d p1.2.1 e,iv p1.2.2] (b.at.part 0 4).2 (oN 10 46 [vl f m g] (s.at.part 0 1).2 (bE c fun D w c=>ocl 11 (zbu (y.step hs) (f6.step hs) (z.step hs) (t.step hs) n (A.step hs) w) ?_))))))
 rintro _ J ⟨q,rfl⟩
 replace hs:=hs.tr0 q
 replace a:=a.step0 q
 replace b:=b.step0 q
 refine osp 12 (D) c ?_ ?_
 ·intro L c
  refine oz [13,14,15,16,17] (dT 2 (crt ?_))
  obtain rfl:=sj c
  exact rT 6 ff ⟨hs,rfl⟩
 intro L c
 refine oN 13 48 [vl i p1.1.1 k,vl j p1.1.2 l,vl d p1.2.1 e,iv p1.2.2] (b.at.part 0 4).2 (od 2 (o1 16 49 (vl h p0 c2) (a.at.one (o:=0) rfl) (bE c fun E x c=>ocl 17 (zqB (f6.step hs) (z.step hs) (t.step hs) n (y.step hs) x) ?_)))
 rintro _ M ⟨F,rfl⟩
 replace hs:=hs.tr0 F
 refine dT 2 (crt ?_)
 obtain rfl:=sj c
 exact rT 6 (.bool E) ⟨hs,rfl⟩
theorem zjY {κ:K} {p0:(LP)×LP} {D E R z A O:OA} {c2 F S B C P:Nat} {p1:TS×(LP)×Int} {U:LP} (f3:Sl tPlaced κ D c2 p0.1) (f6:Sl tPlaced κ E F p0.2) (f9:Sl tGlue κ R S p1.1.1) (c1:Sl tTile κ z B p1.1.2) (c3:Sl tPlaced κ A C p1.2.1) (V:I64 p1.2.2) (d9:Sl tPlaced κ O P U) {r:Bool} (f:zbv p0 p1 U=some r) :
 Fn Tryz.prog 267 #[.agg #[vl D p0.1 c2,vl E p0.2 F],.agg #[vl R p1.1.1 S,vl z p1.1.2 B,vl A p1.2.1 C,iv p1.2.2],.agg #[vl O U P]] κ (fun v m=>Step [] κ m∧v=.bool r):=by
 refine fnc 62 [] Tryz.func267 Tryz.ntmps267 fun hs=>csr (xO 3 122 (κ.H.size,267001) hs.1 [vl D p0.1 c2,vl E p0.2 F] fun k e8 e0 a=>?_)
 replace hs:=hs.tr0 e0
 refine xO 4 48 (κ.H.size,267002) hs.1 [vl R p1.1.1 S,vl z p1.1.2 B,vl A p1.2.1 C,iv p1.2.2] fun c4 f0 c6 j=>?_
 replace hs:=hs.tr0 c6
 replace a:=a.step0 c6
 refine xO 5 46 (κ.H.size,267003) hs.1 [vl O U P] fun g7 f1 X c0=>?_
 replace hs:=hs.tr0 X
 replace a:=a.step0 X
 replace j:=j.step0 X
 refine dT 1 (cs ?_)
 refine zn (fun Z=>∀ (Y:Bool) (E0:Env) (y:K),Step [] κ y→Box (κ.H.size,267001) y k [vl D p0.1 c2,vl E p0.2 F] 122→Box (κ.H.size,267002) y c4 [vl R p1.1.1 S,vl z p1.1.2 B,vl A p1.2.1 C,iv p1.2.2] 48→zak p0 p1 Y=some r→cwp Tryz.prog 62 (sub (zB Tryz.f267) [1,0,1]) Z (ups E0 [(3,pt k 0),(4,pt c4 0),(30,.bool Y)]) y) ?_ fun J1=>?_
 ·intro Y E0 y hs a j f
  refine cc _ f ?_ ?_
  ·intro hc f
   refine cT 1 (crt (zc ?_))
   obtain rfl:=sj f
   exact rT 6 ff ⟨hs,rfl⟩
  intro hc f
  refine ckt (csr (oN 32 48 [vl R p1.1.1 S,vl z p1.1.2 B,vl A p1.2.1 C,iv p1.2.2] (j.at.part 0 4).2 (od 1 (o1 34 49 (vl E p0.2 F) (a.at.one (o:=1) rfl) (bE f fun a0 d3 f=>ocl 35 (zfJ (f9.step hs) (c1.step hs) (c3.step hs) V (f6.step hs) d3) ?_)))))
  rintro _ f4 ⟨c7,e2,e4,rfl,Q,f5,f7⟩
  replace hs:=hs.tr0 c7
  replace a:=a.step0 c7
  refine od 4 (xT 7 46 (κ.H.size,267004) hs.1 [sl none 0 0] fun g8 f8 a2 x=>?_)
  replace hs:=hs.tr0 a2
  replace Q:=Q.step a2
  replace a:=a.step0 a2
  refine xM 46 [vl e2 a0.1 e4] x fun l a3 _ a5=>?_
  replace hs:=hs.trB x.ge a3
  replace Q:=Q.step a3
  replace a:=a.step a3 (nm1 (a.ne x (zl kr)))
  replace x:=a5
  refine dT 2 (cs (bE f fun g d4 f=>bE f fun i d5 f=>?_))
  refine zsj 9 (Step []) (Step []) (fun _=>Step.refl _ _) (fun _ _ _=>Step.trans) (fun _ _ _=>Step.trans) (fun _ _=>Step.nil) 9 [39,40,41,42,43,44,45,10,11] [(fun v m=>v=pt k 0),(fun v m=>v=pt k 0),(fun v m=>v=vl D p0.1 c2),(fun v m=>v=.agg #[iv g.1.1,iv g.1.2,iv g.2]∧I64 g.1.1∧I64 g.1.2∧I64 g.2),(fun v m=>v=pt k 1),(fun v m=>v=vl E p0.2 F),(fun v m=>v=.agg #[iv i.1.1,iv i.1.2,iv i.2]∧I64 i.1.1∧I64 i.1.2∧I64 i.2),(fun v m=>∃ (u:Nat),v=pt u 0∧Box (κ.H.size,267005) m u [iv 0,iv 0,iv 0] 110),(fun v m=>∃ (w:Nat),v=pt w 0∧Box (κ.H.size,267006) m w [iv 0,iv 0,iv 0] 110)] kr kr kr kr (ltS 8 (ltS 7 (ltS 6 (ltS 5 (ltS 4 (ltS 3 (ltS 2 (ltS 1 (ltS 0 lt0 ?_) ?_) ?_) ?_) ?_) ?_) ?_) ?_) ?_) (ltS 8 (ltS 7 (ltS 6 (ltS 5 (ltS 4 (ltS 3 (ltS 2 (ltS 1 (ltS 0 lt0 ?_) ?_) ?_) ?_) ?_) ?_) ?_) ?_) ?_) ?_
  ·exact fun v n p _ h=>h
  ·exact fun v n p _ h=>h
  ·exact fun v n p _ h=>h
  ·intro v n p s h;replace s:Step [] n p:=s;obtain ⟨e,G,H,I⟩:=h;exact ⟨e,G,H,I⟩
  ·exact fun v n p _ h=>h
  ·exact fun v n p _ h=>h
  ·intro v n p s h;replace s:Step [] n p:=s;obtain ⟨e,J,L,M⟩:=h;exact ⟨e,J,L,M⟩
  ·intro v n p s h;replace s:Step [] n p:=s;obtain ⟨u,e,c⟩:=h;exact ⟨u,e,c.step0 s⟩
  ·intro v n p s h;replace s:Step [] n p:=s;obtain ⟨w,e,d⟩:=h;exact ⟨w,e,d.step0 s⟩
  ·intro q κd hst off dp
   replace hst:Step [] l κd:=hst
   change OpQ _ (Step []) _ _ _ _ _
   have e3:=(off 3 kr).trans (show _=pt k 0 by kernel_rfl)
   refine zbT (za (t:=3) rfl e3) ?_
   exact zgV rrS (pt k 0) kr (fun _ _=>kr) rfl
  ·intro q κd hst off dp
   replace hst:Step [] l κd:=hst
   change OpQ _ (Step []) _ _ _ _ _
   obtain a6:=dp 0 kr kr
   replace a6:q 39=pt k 0:=a6
   refine zbT (za (t:=39) rfl a6) ?_
   exact zgV rrS (pt k 0) kr (fun _ _=>kr) rfl
  ·intro q κd hst off dp
   replace hst:Step [] l κd:=hst
   change OpQ _ (Step []) _ _ _ _ _
   obtain a8:=dp 1 kr kr
   replace a8:q 40=pt k 0:=a8
   refine zbT (za (t:=40) rfl a8) ?_
   have a:=a.step0 hst
   exact zpG (b:=k) (off:=0) (T:=49) (v:=vl D p0.1 c2) rrS kr kr kr (a.at.one (o:=0) rfl) rfl
  ·intro q κd hst off dp
   replace hst:Step [] l κd:=hst
   change OpQ _ (Step []) _ _ _ _ _
   obtain a9:=dp 2 kr kr
   replace a9:q 41=vl D p0.1 c2:=a9
   refine zbT (za (t:=41) rfl a9) ?_
   have f3:=(f3.step hs).step hst
   exact zrF rrS kr (fun _=>kr) ((zl2 f3 d4).mono fun v _ hp=>by obtain ⟨hk,hv,G,H,I⟩:=hp;exact ⟨hk,hv,G,H,I⟩)
  ·intro q κd hst off dp
   replace hst:Step [] l κd:=hst
   change OpQ _ (Step []) _ _ _ _ _
   have e3:=(off 3 kr).trans (show _=pt k 0 by kernel_rfl)
   refine zbT (za (t:=3) rfl e3) ?_
   exact zgV rrS (pt k 1) kr (fun _ _=>kr) rfl
  ·intro q κd hst off dp
   replace hst:Step [] l κd:=hst
   change OpQ _ (Step []) _ _ _ _ _
   obtain b0:=dp 4 kr kr
   replace b0:q 43=pt k 1:=b0
   refine zbT (za (t:=43) rfl b0) ?_
   have a:=a.step0 hst
   exact zpG (b:=k) (off:=1) (T:=49) (v:=vl E p0.2 F) rrS kr kr kr (a.at.one (o:=1) rfl) rfl
  ·intro q κd hst off dp
   replace hst:Step [] l κd:=hst
   change OpQ _ (Step []) _ _ _ _ _
   obtain b1:=dp 5 kr kr
   replace b1:q 44=vl E p0.2 F:=b1
   refine zbT (za (t:=44) rfl b1) ?_
   have f6:=(f6.step hs).step hst
   exact zrF rrS kr (fun _=>kr) ((zl2 f6 d5).mono fun v _ hp=>by obtain ⟨hk,hv,J,L,M⟩:=hp;exact ⟨hk,hv,J,L,M⟩)
  ·intro q κd hst off dp
   replace hst:Step [] l κd:=hst
   change OpQ _ (Step []) _ _ _ _ _
   refine zbT rfl ?_
   exact zpH (T:=110) (κ.H.size,267005) (ga hs.1 hst.1) [iv 0,iv 0,iv 0] kr kr kr fun u g0 e5 c=>⟨e5,u,rfl,c⟩
  ·intro q κd hst off dp
   replace hst:Step [] l κd:=hst
   change OpQ _ (Step []) _ _ _ _ _
   refine zbT rfl ?_
   exact zpH (T:=110) (κ.H.size,267006) (ga hs.1 hst.1) [iv 0,iv 0,iv 0] kr kr kr fun w g1 e6 d=>⟨e6,w,rfl,d⟩
  intro q g2 hst off dn
  have e9:=(off 9 kr).trans (show _=iv a0.2.2 by kernel_rfl)
  obtain ⟨u,b2,c⟩:=dn 7 kr
  replace b2:q 10=pt u 0:=b2
  obtain ⟨w,b3,d⟩:=dn 8 kr
  replace b3:q 11=pt w 0:=b3
  obtain ⟨b4,G,H,I⟩:=dn 3 kr
  replace b4:q 42=.agg #[iv g.1.1,iv g.1.2,iv g.2]:=b4
  obtain ⟨b5,J,L,M⟩:=dn 6 kr
  replace b5:q 45=.agg #[iv i.1.1,iv i.1.2,iv i.2]:=b5
  refine zam (za (t:=45) (za (t:=42) (za (t:=11) (za (t:=10) (za (t:=9) rfl e9) b2) b3) b4) b5) ?_
  replace hs:=hs.tr0 hst
  refine xM 110 [iv g.1.1,iv g.1.2,iv g.2] c fun g4 c9 _ b6=>?_
  replace hs:=hs.trB c.ge c9
  replace d:=d.step c9 (nm1 (d.ne c (zl kr)))
  replace c:=b6
  refine xM 110 [iv i.1.1,iv i.1.2,iv i.2] d fun g5 d0 _ b7=>?_
  replace hs:=hs.trB d.ge d0
  replace c:=c.step d0 (nm1 (c.ne d (zl kr)))
  replace d:=b7
  refine otx (od 2 ?_)
  refine osp 48 (decide (a0.2.2=0)) f ?_ ?_
  ·intro N f
   refine oz [49,50,51,52,53] (od 2 (oz [56,57,58,59,60] (dT 2 (crt ?_))))
   obtain rfl:=sj f
   exact rT 6 ff ⟨hs,rfl⟩
  intro N f
  refine od 1 (oN 50 103 [iv g.1.1,iv g.1.2] (c.at.part 0 2).2 (od 1 (oN 52 103 [iv i.1.1,iv i.1.2] (d.at.part 0 2).2 (oq 53 (.bool (decide (g.1.1=i.1.1)&&decide (g.1.2=i.1.2))) (fun _=>zfA (T:=103) (k1:=.i64) (k2:=.i64) kr kr) (od 1 ?_)))))
  refine osp 55 ((decide (g.1.1=i.1.1)&&decide (g.1.2=i.1.2))) f ?_ ?_
  ·intro N f
   refine oz [56,57,58,59,60] (dT 2 (crt ?_))
   obtain rfl:=sj f
   exact rT 6 ff ⟨hs,rfl⟩
  intro N f
  refine od 1 (o1 57 2 (iv g.2) (c.at.one (o:=2) rfl) (od 1 (o1 59 2 (iv i.2) (d.at.one (o:=2) rfl) (dT 3 (crt ?_)))))
  obtain rfl:=sj f
  exact rT 6 (.bool (!decide (g.2=i.2))) ⟨hs,rfl⟩
 refine cO 2 (o1 14 49 (vl D p0.1 c2) (a.at.one (o:=0) rfl) (od 2 ?_))
 refine osp 17 (decide ((p0.1.length:Int)=0)) f ?_ ?_
 ·intro N f
  refine od 1 (o1 19 49 (vl E p0.2 F) (a.at.one (o:=1) rfl) (od 3 ?_))
  refine osp 23 (decide ((p0.2.length:Int)=0)) f ?_ ?_
  ·intro N f
   refine od 1 (oN 25 116 [vl D p0.1 c2] (a.at.part 0 1).2 (oN 26 48 [vl R p1.1.1 S,vl z p1.1.2 B,vl A p1.2.1 C,iv p1.2.2] (j.at.part 0 4).2 (oN 27 46 [vl O U P] (c0.at.part 0 1).2 (bE f fun e7 d7 f=>ocl 28 (zbu (f3.step hs) (f9.step hs) (c1.step hs) (c3.step hs) V (d9.step hs) d7) ?_))))
   rintro _ g6 ⟨b8,rfl⟩
   replace hs:=hs.tr0 b8
   replace a:=a.step0 b8
   replace j:=j.step0 b8
   refine dT 2 ?_
   exact zk eY (J1 (!e7)  _ _ hs a j f)
  intro N f
  refine oz [24,25,26,27,28,29] (dT 1 ?_)
  exact zk eY (J1 true  _ _ hs a j f)
 intro N f
 refine oz [18,19,20,21] (od 2 (oz [24,25,26,27,28,29] (dT 1 ?_)))
 exact zk eY (J1 true  _ _ hs a j f)
theorem zom {κ:K} {p0:Sy} {x y z g d m n p:OA} {c2 A B h e q s t:Nat} {p1:LP} {a:Prf} (F:Sl tGlue κ x c2 p0.1.1) (f6:Sl tTile κ y A p0.1.2) (G:Sl tPlaced κ z B p0.2.1) (i:I64 p0.2.2) (u:Sl tPlaced κ g h p1) (H:I64 a.1) (C:Sl tPlaced κ d e a.2.1) (M:Sl tPlaced κ m q a.2.2.1) (N:Sl tI64 κ n s a.2.2.2.1) (O:Sl (tSl tI64) κ p t a.2.2.2.2) {r:Int} (f:zeP p0 p1 a=some r) :
 Fn Tryz.prog 17 #[.agg #[vl x p0.1.1 c2,vl y p0.1.2 A,vl z p0.2.1 B,iv p0.2.2],.agg #[vl g p1 h],.agg #[iv a.1,vl d a.2.1 e,vl m a.2.2.1 q,vl n a.2.2.2.1 s,vl p a.2.2.2.2 t]] κ (fun v D=>Step [] κ D∧v=iv r∧I64 r):=by
 unfold zeP at f
 refine fnc 29 [] Tryz.func17 Tryz.ntmps17 fun hs=>csr (xO 3 48 (κ.H.size,17001) hs.1 [vl x p0.1.1 c2,vl y p0.1.2 A,vl z p0.2.1 B,iv p0.2.2] fun b3 a9 s1 j=>?_)
 replace hs:=hs.tr0 s1
 refine xO 4 46 (κ.H.size,17002) hs.1 [vl g p1 h] fun b4 b0 s2 l=>?_
 replace hs:=hs.tr0 s2
 replace j:=j.step0 s2
 refine xO 5 51 (κ.H.size,17003) hs.1 [iv a.1,vl d a.2.1 e,vl m a.2.2.1 q,vl n a.2.2.2.1 s,vl p a.2.2.2.2 t] fun b5 b1 R I=>?_
 replace hs:=hs.tr0 R
 replace j:=j.step0 R
 replace l:=l.step0 R
 refine dT 1 (cs (cb 0 (csr (oN 9 48 [vl x p0.1.1 c2,vl y p0.1.2 A,vl z p0.2.1 B,iv p0.2.2] (j.at.part 0 4).2 (oN 10 46 [vl g p1 h] (l.at.part 0 1).2 (bE f fun b2 S f=>ocl 11 (zof (F.step hs) (f6.step hs) (G.step hs) i (u.step hs) S) ?_))))))
 rintro _ b6 ⟨L,rfl,a8⟩
 replace hs:=hs.tr0 L
 replace j:=j.step0 L
 replace l:=l.step0 L
 replace I:=I.step0 L
 refine dT 2 ?_
 refine cc _ f ?_ ?_
 ·intro T f
  obtain rfl:=sj f
  exact cT 1 (crt (zg (zc (rT 6 (iv 1) ⟨hs,rfl,(by unfold I64;omega)⟩))))
 intro T f
 refine cO 1 (o1 15 2 (iv a.1) (I.at.one (o:=0) rfl) (bE f fun P k f=>ocl 16 (zaS H (iK 1) (iK 6) k) ?_))
 rintro _ _ ⟨rfl,rfl⟩
 refine dT 2 ?_
 refine cc _ f ?_ ?_
 ·intro T f
  obtain rfl:=sj f
  exact cT 1 (crt (zg (zc (rT 6 (iv 2) ⟨hs,rfl,(by unfold I64;omega)⟩))))
 intro T f
 have hkind:1≤a.1∧a.1≤6:=by
   have a2:P=true:=by cases P<;>simp_all
   unfold zaI at k
   rw [a2] at k
   by_cases U:a.1≥1
   · rw [if_pos (by simpa using U)] at k
     have:=sj k
     exact ⟨U,by simpa using this⟩
   · rw [if_neg (by simpa using U)] at k
     have:=sj k
     cases this
 refine ck (zd (zb (csr (oN 18 51 [iv a.1,vl d a.2.1 e,vl m a.2.2.1 q,vl n a.2.2.2.1 s,vl p a.2.2.2.2 t] (I.at.part 0 5).2 (bE f fun Q X f=>ocl 19 (zmO H (C.step hs) (M.step hs) (N.step hs) (O.step hs) X) ?_)))))
 rintro _ b7 ⟨Y,rfl⟩
 replace hs:=hs.tr0 Y
 replace j:=j.step0 Y
 replace l:=l.step0 Y
 obtain ⟨V,hV⟩:∃ V,V=if Q=true then ckV a.1 (vl d a.2.1 e) (vl m a.2.2.1 q) (vl n a.2.2.2.1 s) (vl p a.2.2.2.2 t) else .nilIface:=⟨_,rfl⟩
 rw [←hV]
 refine dT 1 (cs ?_)
 refine zn (fun Z=>∀ (res:Bool) (E0:Env) (D:K),Step [] κ D→(r=if res=true then 10 else 0)→cwp Tryz.prog 29 (sub (zB Tryz.f17) [1,0,1,1,1]) Z (ups E0 [(28,.bool res)]) D) ?_ fun J=>?_
 ·intro res E0 D hs hres
  cases res with
  | true=>
    refine ct ?_
    refine csr ?_
    refine op 6 (iv 10) ?_
    refine ot ?_
    refine crt ?_
    refine zc ?_
    refine rt [.tmp 6] [iv 10] ⟨kr,trivial⟩ ?_
    rw [hres]
    exact ⟨hs,rfl,(by unfold I64;decide)⟩
  | false=>
    refine cf ?_
    refine ck ?_
    refine zb ?_
    refine csr ?_
    refine op 6 (iv 0) ?_
    refine ot ?_
    refine crt ?_
    refine rt [.tmp 6] [iv 0] ⟨kr,trivial⟩ ?_
    rw [hres]
    exact ⟨hs,rfl,(by unfold I64;decide)⟩
 refine csr ?_
 cases Q with
 | false=>
   subst hV
   obtain rfl:=sj f
   refine op 20 .nilIface ?_
   refine op 21 tt ?_
   refine op 22 tt ?_
   refine os 23 (os 24 (os 25 (os 26 (os 27 ?_))))
   refine op 28 tt ?_
   refine ot ?_
   exact zk rfl (J true _ _ hs rfl)
 | true=>
   obtain ⟨c,b,f⟩:=bD f
   obtain rfl:=sj f
   have a5:a.1=1∨a.1=2∨a.1=3∨a.1=4∨a.1=5∨a.1=6:=by omega
   rcases a5 with hk | hk | hk | hk | hk | hk
   · replace hV:V=.iface 116 (.agg #[vl d a.2.1 e]):=by rw [hV,hk];rfl
     subst hV
     unfold zer at b
     rw [hk] at b
     refine op 20 (.iface 116 (.agg #[vl d a.2.1 e])) ?_
     refine op 21 ff ?_
     refine op 22 ff ?_
     refine op 23 (.iface 116 (.agg #[vl d a.2.1 e])) ?_
     refine oN 24 48 [vl x p0.1.1 c2,vl y p0.1.2 A,vl z p0.2.1 B,iv p0.2.2] (j.at.part 0 4).2 ?_
     refine oN 25 46 [vl g p1 h] (l.at.part 0 1).2 ?_
     refine ocl 26 (zbu (p0:=a.2.1) (C.step hs) (F.step hs) (f6.step hs) (G.step hs) i (u.step hs) b) ?_
     rintro _ E ⟨w,rfl⟩
     replace hs:=hs.tr0 w
     refine op 27 (.bool (!c)) ?_
     refine op 28 (.bool (!c)) ?_
     refine ot ?_
     exact zk rfl (J (!c) _ _ hs (by cases c<;>rfl))
   · replace hV:V=.iface 118 (.agg #[vl d a.2.1 e]):=by rw [hV,hk];rfl
     subst hV
     unfold zer at b
     rw [hk] at b
     refine op 20 (.iface 118 (.agg #[vl d a.2.1 e])) ?_
     refine op 21 ff ?_
     refine op 22 ff ?_
     refine op 23 (.iface 118 (.agg #[vl d a.2.1 e])) ?_
     refine oN 24 48 [vl x p0.1.1 c2,vl y p0.1.2 A,vl z p0.2.1 B,iv p0.2.2] (j.at.part 0 4).2 ?_
     refine oN 25 46 [vl g p1 h] (l.at.part 0 1).2 ?_
     refine ocl 26 (zjW (p0:=a.2.1) (C.step hs) (F.step hs) (f6.step hs) (G.step hs) i (u.step hs) b) ?_
     rintro _ E ⟨w,rfl⟩
     replace hs:=hs.tr0 w
     refine op 27 (.bool (!c)) ?_
     refine op 28 (.bool (!c)) ?_
     refine ot ?_
     exact zk rfl (J (!c) _ _ hs (by cases c<;>rfl))
   · replace hV:V=.iface 119 (.agg #[vl d a.2.1 e]):=by rw [hV,hk];rfl
     subst hV
     unfold zer at b
     rw [hk] at b
     refine op 20 (.iface 119 (.agg #[vl d a.2.1 e])) ?_
     refine op 21 ff ?_
     refine op 22 ff ?_
     refine op 23 (.iface 119 (.agg #[vl d a.2.1 e])) ?_
     refine oN 24 48 [vl x p0.1.1 c2,vl y p0.1.2 A,vl z p0.2.1 B,iv p0.2.2] (j.at.part 0 4).2 ?_
     refine oN 25 46 [vl g p1 h] (l.at.part 0 1).2 ?_
     refine ocl 26 (zkM (p0:=a.2.1) (C.step hs) (F.step hs) (f6.step hs) (G.step hs) i (u.step hs) b) ?_
     rintro _ E ⟨w,rfl⟩
     replace hs:=hs.tr0 w
     refine op 27 (.bool (!c)) ?_
     refine op 28 (.bool (!c)) ?_
     refine ot ?_
     exact zk rfl (J (!c) _ _ hs (by cases c<;>rfl))
   · replace hV:V=.iface 122 (.agg #[vl d a.2.1 e,vl m a.2.2.1 q]):=by rw [hV,hk];rfl
     subst hV
     unfold zer at b
     rw [hk] at b
     refine op 20 (.iface 122 (.agg #[vl d a.2.1 e,vl m a.2.2.1 q])) ?_
     refine op 21 ff ?_
     refine op 22 ff ?_
     refine op 23 (.iface 122 (.agg #[vl d a.2.1 e,vl m a.2.2.1 q])) ?_
     refine oN 24 48 [vl x p0.1.1 c2,vl y p0.1.2 A,vl z p0.2.1 B,iv p0.2.2] (j.at.part 0 4).2 ?_
     refine oN 25 46 [vl g p1 h] (l.at.part 0 1).2 ?_
     refine ocl 26 (zjY (p0:=(a.2.1,a.2.2.1)) (C.step hs) (M.step hs) (F.step hs) (f6.step hs) (G.step hs) i (u.step hs) b) ?_
     rintro _ E ⟨w,rfl⟩
     replace hs:=hs.tr0 w
     refine op 27 (.bool (!c)) ?_
     refine op 28 (.bool (!c)) ?_
     refine ot ?_
     exact zk rfl (J (!c) _ _ hs (by cases c<;>rfl))
   · replace hV:V=.iface 124 (.agg #[vl p a.2.2.2.2 t]):=by rw [hV,hk];rfl
     subst hV
     unfold zer at b
     rw [hk] at b
     refine op 20 (.iface 124 (.agg #[vl p a.2.2.2.2 t])) ?_
     refine op 21 ff ?_
     refine op 22 ff ?_
     refine op 23 (.iface 124 (.agg #[vl p a.2.2.2.2 t])) ?_
     refine oN 24 48 [vl x p0.1.1 c2,vl y p0.1.2 A,vl z p0.2.1 B,iv p0.2.2] (j.at.part 0 4).2 ?_
     refine oN 25 46 [vl g p1 h] (l.at.part 0 1).2 ?_
     refine ocl 26 (zkN (p0:=a.2.2.2.2) (O.step hs) (F.step hs) (f6.step hs) (G.step hs) i (u.step hs) b) ?_
     rintro _ E ⟨w,rfl⟩
     replace hs:=hs.tr0 w
     refine op 27 (.bool (!c)) ?_
     refine op 28 (.bool (!c)) ?_
     refine ot ?_
     exact zk rfl (J (!c) _ _ hs (by cases c<;>rfl))
   · replace hV:V=.iface 126 (.agg #[vl n a.2.2.2.1 s]):=by rw [hV,hk];rfl
     subst hV
     unfold zer at b
     rw [hk] at b
     refine op 20 (.iface 126 (.agg #[vl n a.2.2.2.1 s])) ?_
     refine op 21 ff ?_
     refine op 22 ff ?_
     refine op 23 (.iface 126 (.agg #[vl n a.2.2.2.1 s])) ?_
     refine oN 24 48 [vl x p0.1.1 c2,vl y p0.1.2 A,vl z p0.2.1 B,iv p0.2.2] (j.at.part 0 4).2 ?_
     refine oN 25 46 [vl g p1 h] (l.at.part 0 1).2 ?_
     refine ocl 26 (zlA (p0:=a.2.2.2.1) (N.step hs) (F.step hs) (f6.step hs) (G.step hs) i (u.step hs) b) ?_
     rintro _ E ⟨w,rfl⟩
     replace hs:=hs.tr0 w
     refine op 27 (.bool (!c)) ?_
     refine op 28 (.bool (!c)) ?_
     refine ot ?_
     exact zk rfl (J (!c) _ _ hs (by cases c<;>rfl))
theorem zoj {κ:K} {p0:BS×(TS×(LP)×Int)×(LP)×(Int×LP×LP×LI×LM)} {a2 m n c d e f g:OA} {p q s h i j k l:Nat} (y:p0.1.length≤9223372036854775807) (L:Sl tGlue κ a2 p p0.2.1.1.1) (M:Sl tTile κ m q p0.2.1.1.2) (z:Sl tPlaced κ n s p0.2.1.2.1) (t:I64 p0.2.1.2.2) (A:Sl tPlaced κ c h p0.2.2.1) (u:I64 p0.2.2.2.1) (B:Sl tPlaced κ d i p0.2.2.2.2.1) (C:Sl tPlaced κ e j p0.2.2.2.2.2.1) (D:Sl tI64 κ f k p0.2.2.2.2.2.2.1) (E:Sl (tSl tI64) κ g l p0.2.2.2.2.2.2.2) {r:Bool} (b:zgT p0=some r) :
 Fn Tryz.prog 7 #[.agg #[zy p0.1,vl a2 p0.2.1.1.1 p,vl m p0.2.1.1.2 q,vl n p0.2.1.2.1 s,iv p0.2.1.2.2,vl c p0.2.2.1 h,iv p0.2.2.2.1,vl d p0.2.2.2.2.1 i,vl e p0.2.2.2.2.2.1 j,vl f p0.2.2.2.2.2.2.1 k,vl g p0.2.2.2.2.2.2.2 l]] κ (fun v F=>Step [] κ F∧v=.bool r):=by
 refine fnc 16 [] Tryz.func7 Tryz.ntmps7 fun hs=>csr (xO 1 53 (κ.H.size,7001) hs.1 [zy p0.1,vl a2 p0.2.1.1.1 p,vl m p0.2.1.1.2 q,vl n p0.2.1.2.1 s,iv p0.2.1.2.2,vl c p0.2.2.1 h,iv p0.2.2.2.1,vl d p0.2.2.2.2.1 i,vl e p0.2.2.2.2.2.1 j,vl f p0.2.2.2.2.2.2.1 k,vl g p0.2.2.2.2.2.2.2 l] fun R N G a=>?_)
 replace hs:=hs.tr0 G
 refine od 1 (otx (od 1 (o1 4 9 (zy p0.1) (a.at.one (o:=0) rfl) (bE b fun H w b=>ocl 5 (zkA y w) ?_))))
 rintro _ _ ⟨rfl,rfl⟩
 refine osp 6 (H) b ?_ ?_
 ·intro O b
  refine oz [7,8,9,10,11,12,13,14] (dT 2 (crt ?_))
  obtain rfl:=sj b
  exact rT 2 ff ⟨hs,rfl⟩
 intro O b
 refine od 1 (oN 8 48 [vl a2 p0.2.1.1.1 p,vl m p0.2.1.1.2 q,vl n p0.2.1.2.1 s,iv p0.2.1.2.2] (a.at.part 1 4).2 (od 1 (oN 10 46 [vl c p0.2.2.1 h] (a.at.part 5 1).2 (od 1 (oN 12 51 [iv p0.2.2.2.1,vl d p0.2.2.2.2.1 i,vl e p0.2.2.2.2.2.1 j,vl f p0.2.2.2.2.2.2.1 k,vl g p0.2.2.2.2.2.2.2 l] (a.at.part 6 5).2 (bE b fun I x b=>ocl 13 (zom (L.step hs) (M.step hs) (z.step hs) t (A.step hs) u (B.step hs) (C.step hs) (D.step hs) (E.step hs) x) ?_))))))
 rintro _ P ⟨J,rfl,Q⟩
 replace hs:=hs.tr0 J
 refine dT 3 (crt ?_)
 obtain rfl:=sj b
 exact rT 2 (bW (I=0)) ⟨hs,rfl⟩
theorem laws_FnExactValidEntry_ok {κ:K} {p0:BS×(TS×(LP)×Int)×(LP)×(Int×LP×LP×LI×LM)} {a2 F G s t u w x:OA} {H I J y z A B C:Nat} (L:p0.1.length≤9223372036854775807) (f4:Sl tGlue κ a2 H p0.2.1.1.1) (f7:Sl tTile κ F I p0.2.1.1.2) (M:Sl tPlaced κ G J p0.2.1.2.1) (D:I64 p0.2.1.2.2) (N:Sl tPlaced κ s y p0.2.2.1) (E:I64 p0.2.2.2.1) (O:Sl tPlaced κ t z p0.2.2.2.2.1) (P:Sl tPlaced κ u A p0.2.2.2.2.2.1) (Q:Sl tI64 κ w B p0.2.2.2.2.2.2.1) (R:Sl (tSl tI64) κ x C p0.2.2.2.2.2.2.2) {r:Bool} (c:zep p0=some r) :
 Fn Tryz.prog 3 #[.agg #[zy p0.1,vl a2 p0.2.1.1.1 H,vl F p0.2.1.1.2 I,vl G p0.2.1.2.1 J,iv p0.2.1.2.2,vl s p0.2.2.1 y,iv p0.2.2.2.1,vl t p0.2.2.2.2.1 z,vl u p0.2.2.2.2.2.1 A,vl w p0.2.2.2.2.2.2.1 B,vl x p0.2.2.2.2.2.2.2 C]] κ (fun v κ'=>Step [] κ κ'∧v=.bool r):=by
 refine fnc 27 [] Tryz.func3 Tryz.ntmps3 fun hs=>csr (xO 1 37 (κ.H.size,3001) hs.1 [zy p0.1,vl a2 p0.2.1.1.1 H,vl F p0.2.1.1.2 I,vl G p0.2.1.2.1 J,iv p0.2.1.2.2,vl s p0.2.2.1 y,iv p0.2.2.2.1,vl t p0.2.2.2.2.1 z,vl u p0.2.2.2.2.2.1 A,vl w p0.2.2.2.2.2.2.1 B,vl x p0.2.2.2.2.2.2.2 C] fun j1 g4 e9 b=>?_)
 replace hs:=hs.tr0 e9
 refine od 1 (otx (od 1 (otx (oN 7 37 [zy p0.1,vl a2 p0.2.1.1.1 H,vl F p0.2.1.1.2 I,vl G p0.2.1.2.1 J,iv p0.2.1.2.2,vl s p0.2.2.1 y,iv p0.2.2.2.1,vl t p0.2.2.2.2.1 z,vl u p0.2.2.2.2.2.1 A,vl w p0.2.2.2.2.2.2.1 B,vl x p0.2.2.2.2.2.2.2 C] (b.at.part 0 11).2 (od 1 (bE c fun j2 d3 c=>ocl 9 (zqt L (f4.step hs) (f7.step hs) (M.step hs) D (N.step hs) E (O.step hs) (P.step hs) (Q.step hs) (R.step hs) (iK 1048576) d3) ?_))))))
 rintro _ g5 ⟨c7,rfl,g6⟩
 replace hs:=hs.tr0 c7
 replace b:=b.step0 c7
 refine dT 1 (cs (cT 2 ?_))
 refine cc _ c ?_ ?_
 ·intro S c
  refine cT 1 (crt (zc ?_))
  obtain rfl:=sj c
  exact rT 2 tt ⟨hs,rfl⟩
 intro S c
 refine ckt (csr (oN 12 37 [zy p0.1,vl a2 p0.2.1.1.1 H,vl F p0.2.1.1.2 I,vl G p0.2.1.2.1 J,iv p0.2.1.2.2,vl s p0.2.2.1 y,iv p0.2.2.2.1,vl t p0.2.2.2.2.1 z,vl u p0.2.2.2.2.2.1 A,vl w p0.2.2.2.2.2.2.1 B,vl x p0.2.2.2.2.2.2.2 C] (b.at.part 0 11).2 (bE c fun j3 d4 c=>ocl 13 (zjr L (f4.step hs) (f7.step hs) (M.step hs) D (N.step hs) E (O.step hs) (P.step hs) (Q.step hs) (R.step hs) d4) ?_)))
 rintro _ g7 ⟨c8,j4,j5,j6,j7,j8,j9,k0,k1,k2,k3,k4,k5,k6,k7,k8,k9,rfl,d5,f0,f1,f2,d6,f3,d7,f5,f6,f8,f9⟩
 replace hs:=hs.tr0 c8
 replace b:=b.step0 c8
 refine bE c fun l0 d8 c=>ocl 14 (zn4 d5 f0 f1 f2 d6 f3 d7 f5 f6 f8 f9 d8) ?_
 rintro _ g8 ⟨d0,rfl⟩
 replace hs:=hs.tr0 d0
 replace b:=b.step0 d0
 refine od 1 (otx (oN 15 37 [zy p0.1,vl a2 p0.2.1.1.1 H,vl F p0.2.1.1.2 I,vl G p0.2.1.2.1 J,iv p0.2.1.2.2,vl s p0.2.2.1 y,iv p0.2.2.2.1,vl t p0.2.2.2.2.1 z,vl u p0.2.2.2.2.2.1 A,vl w p0.2.2.2.2.2.2.1 B,vl x p0.2.2.2.2.2.2.2 C] (b.at.part 0 11).2 (bE c fun a d9 c=>ocl 16 (zjr L (f4.step hs) (f7.step hs) (M.step hs) D (N.step hs) E (O.step hs) (P.step hs) (Q.step hs) (R.step hs) d9) ?_)))
 rintro _ g9 ⟨d2,T,U,V,X,Y,Z,a0,a1,a3,a4,a6,a7,a9,b0,b1,b2,rfl,b3,i,j,k,b4,l,b5,m,n,p,q⟩
 replace hs:=hs.tr0 d2
 replace b:=b.step0 d2
 refine xT 5 53 (κ.H.size,3002) hs.1 [zy ([]:BS),sl none 0 0,sl none 0 0,sl none 0 0,iv 0,sl none 0 0,iv 0,sl none 0 0,sl none 0 0,sl none 0 0,sl none 0 0] fun l1 h0 f e=>?_
 replace hs:=hs.tr0 f
 replace i:=i.step f
 replace j:=j.step f
 replace k:=k.step f
 replace l:=l.step f
 replace m:=m.step f
 replace n:=n.step f
 replace p:=p.step f
 replace q:=q.step f
 replace b:=b.step0 f
 refine xM 53 [zy a.1,vl T a.2.1.1.1 U,vl V a.2.1.1.2 X,vl Y a.2.1.2.1 Z,iv a.2.1.2.2,vl a0 a.2.2.1 a1,iv a.2.2.2.1,vl a3 a.2.2.2.2.1 a4,vl a6 a.2.2.2.2.2.1 a7,vl a9 a.2.2.2.2.2.2.1 b0,vl b1 a.2.2.2.2.2.2.2 b2] e fun g0 g _ b6=>?_
 replace hs:=hs.trB e.ge g
 replace i:=i.step g
 replace j:=j.step g
 replace k:=k.step g
 replace l:=l.step g
 replace m:=m.step g
 replace n:=n.step g
 replace p:=p.step g
 replace q:=q.step g
 replace b:=b.step g (nm1 (b.ne e (zl kr)))
 replace e:=b6
 refine otx (oN 17 53 [zy a.1,vl T a.2.1.1.1 U,vl V a.2.1.1.2 X,vl Y a.2.1.2.1 Z,iv a.2.1.2.2,vl a0 a.2.2.1 a1,iv a.2.2.2.1,vl a3 a.2.2.2.2.1 a4,vl a6 a.2.2.2.2.2.1 a7,vl a9 a.2.2.2.2.2.2.1 b0,vl b1 a.2.2.2.2.2.2.2 b2] (e.at.part 0 11).2 (bE c fun h1 b9 c=>ocl 18 (zoj b3 i j k b4 l b5 m n p q b9) ?_))
 rintro _ g1 ⟨d,rfl⟩
 replace hs:=hs.tr0 d
 replace i:=i.step d
 replace j:=j.step d
 replace k:=k.step d
 replace l:=l.step d
 replace m:=m.step d
 replace n:=n.step d
 replace p:=p.step d
 replace q:=q.step d
 replace b:=b.step0 d
 replace e:=e.step0 d
 refine dT 1 (cs (cT 3 ?_))
 refine cc _ c ?_ ?_
 ·intro S c
  refine cT 1 (crt (zc ?_))
  obtain rfl:=sj c
  exact rT 2 ff ⟨hs,rfl⟩
 intro S c
 refine ckt (cs (cs (cx_ 3 [0,1,2] [2] 3 [] (xN 22 53 [zy a.1,vl T a.2.1.1.1 U,vl V a.2.1.1.2 X,vl Y a.2.1.2.1 Z,iv a.2.1.2.2,vl a0 a.2.2.1 a1,iv a.2.2.2.1,vl a3 a.2.2.2.2.1 a4,vl a6 a.2.2.2.2.2.1 a7,vl a9 a.2.2.2.2.2.2.1 b0,vl b1 a.2.2.2.2.2.2.2 b2] e.at 0 11 rfl (xN 23 37 [zy p0.1,vl a2 p0.2.1.1.1 H,vl F p0.2.1.1.2 I,vl G p0.2.1.2.1 J,iv p0.2.1.2.2,vl s p0.2.2.1 y,iv p0.2.2.2.1,vl t p0.2.2.2.2.1 z,vl u p0.2.2.2.2.2.1 A,vl w p0.2.2.2.2.2.2.1 B,vl x p0.2.2.2.2.2.2.2 C] b.at 0 11 rfl (bE c fun h2 c0 c=>xcl 24 (zjr L (f4.step hs) (f7.step hs) (M.step hs) D (N.step hs) E (O.step hs) (P.step hs) (Q.step hs) (R.step hs) c0) ?_))))))
 rintro _ g2 ⟨h,h3,h4,h5,h6,h7,h8,h9,i0,i1,i2,i3,i4,i5,i6,i7,i8,rfl,c1,e0,e1,e2,c2,e3,c4,e4,e5,e6,e7⟩
 refine ⟨h,?_⟩
 replace hs:=hs.tr0 h
 replace i:=i.step h
 replace j:=j.step h
 replace k:=k.step h
 replace l:=l.step h
 replace m:=m.step h
 replace n:=n.step h
 replace p:=p.step h
 replace q:=q.step h
 refine xe (bE c fun i9 c5 c=>ocl 25 (zqx b3 i j k b4 l b5 m n p q c1 e0 e1 e2 c2 e3 c4 e4 e5 e6 e7 c5) ?_)
 rintro _ g3 ⟨e8,rfl⟩
 replace hs:=hs.tr0 e8
 refine dT 1 ?_
 refine cc _ c ?_ ?_
 ·intro S c
  refine cT 1 (crt (zc ?_))
  obtain rfl:=sj c
  exact rT 2 ff ⟨hs,rfl⟩
 intro S c
 refine ckt (cT 1 (crt ?_))
 obtain rfl:=sj c
 exact rT 2 tt ⟨hs,rfl⟩
end Go.Lf
