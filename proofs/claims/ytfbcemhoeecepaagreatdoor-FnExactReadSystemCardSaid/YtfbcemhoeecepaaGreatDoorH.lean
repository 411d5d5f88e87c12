import Derived.Test.YtfbcemhoeecepaaGreatDoorG
set_option linter.all false
set_option maxRecDepth 100000
set_option maxHeartbeats 4000000
namespace Go.Lf
open Go Go.Proofs
def rb (h:Hd):List Nat:=if 0<h.2.1 then blk h.1 h.2.2 else []
def VG {α:Type} (t:Ty α) (e:TypeId) (κ:K) (a:OA) (c:Nat) (l:List α):Prop:=l=[]∨∃ b,a=some ⟨b,0,none⟩∧Gr t false (0,b) κ e a c l
section
variable {α:Type} {t:Ty α} {e:TypeId} {κ κ':K} {a:Option Addr} {c:Nat} {l:List α} {M:List Nat}
theorem zlN {n:Nat} (h:0<n):rb (a,n,c)=blk a c:=by unfold rb;rw [if_pos h]
theorem VG.step (s:Step M κ κ') (hm:∀ g∈rb (a,l.length,c),g∉M) (h:VG t e κ a c l):VG t e κ' a c l:=by
 rcases h with h | ⟨b,h1,h2⟩
 ·exact .inl h
 cases l with
 | nil=>exact .inl rfl
 | cons x l=>exact .inr ⟨b,h1,h2.step s fun g hg=>hm g (by rw [zlN (by simp)];exact hg)⟩
theorem zna {S X:Type} {F:S→Option (S ⊕ X)} (I:S→Prop) (R:X→Prop) (h1:∀ s s',I s→F s=some (.inl s')→I s') (h2:∀ s x,I s→F s=some (.inr x)→R x) {s:S} {x:X} (h0:I s) (h:iter F s=some x):R x:=by
 obtain ⟨n,hn⟩:=zcA.1 h
 clear h
 induction n generalizing s with
 | zero=>cases hn
 | succ n ih=>
   unfold zhD at hn
   cases hF:F s with
   | none=>rw [hF] at hn;cases hn
   | some y=>
     rw [hF] at hn
     cases y with
     | inl s'=>exact ih (h1 s s' h0 hF) hn
     | inr x'=>injection hn with hn;rw [←hn];exact h2 s x' h0 hF
end
theorem zkJ {κ:K} {a1:OA} {c2:Nat} {p1:Int} :
 Fn Tryz.prog 41 #[sl a1 0 c2,iv p1] κ (fun v κ'=>Step [] κ κ'∧v=iv p1):=by
 refine fnc 28 [] Tryz.func41 Tryz.ntmps41 fun hs=>csr (op 4 (iv 0) (ot (cs (csr (op 5 (iv 0) (ot (cb 0 (zo (F:=fun (_:Unit)=>(some (.inr ()):Option (Unit ⊕ Unit))) (J:=fun (_:Unit) (E':Env) (κ':K)=>(∃ E0,E'=upd (upd (upd (E0) 0 (sl a1 0 c2)) 1 (iv p1)) 5 (iv 0))∧Step [] κ κ') (s0:=()) (x:=()) kr (zD rfl) ⟨⟨_,(eA 5 (eA 1 (eA 0 rfl)))⟩,hs⟩ ?_))))))))
 rintro _ _ κ18 ⟨⟨E0,rfl⟩,hs⟩ yyx17 hr hdx17
 refine cs (csr (op 6 (iv 0) (op 7 (sl a1 0 c2) (op 8 (iv 0) (op 9 (.bool false) (ot (cf (cx 0 (zh ?_)))))))))
 obtain rfl:=sj hr
 refine zi (zg (za (csr (op 27 (iv p1) (op 4 (iv p1) (ot (crt (rt [.tmp 4] [iv p1] ⟨rfl,trivial⟩ ?_))))))))
 exact ⟨hs,rfl⟩
theorem zki {κ:K} {a1:OA} {c2:Nat} {p1:Int} :
 Fn Tryz.prog 77 #[sl a1 0 c2,iv p1] κ (fun v κ'=>Step [] κ κ'∧v=iv p1):=by
 refine fnc 19 [] Tryz.func77 Tryz.ntmps77 fun hs=>csr (op 4 (iv 0) (ot (cs (csr (op 5 (iv 0) (ot (cb 0 (zo (F:=fun (_:Unit)=>(some (.inr ()):Option (Unit ⊕ Unit))) (J:=fun (_:Unit) (E':Env) (κ':K)=>(∃ E0,E'=upd (upd (upd (E0) 0 (sl a1 0 c2)) 1 (iv p1)) 5 (iv 0))∧Step [] κ κ') (s0:=()) (x:=()) kr (zD rfl) ⟨⟨_,(eA 5 (eA 1 (eA 0 rfl)))⟩,hs⟩ ?_))))))))
 rintro _ _ κ18 ⟨⟨E0,rfl⟩,hs⟩ yyx17 hr hdx17
 refine cs (csr (op 6 (iv 0) (op 7 (sl a1 0 c2) (op 8 (iv 0) (op 9 (.bool false) (ot (cf (cx 0 (zh ?_)))))))))
 obtain rfl:=sj hr
 refine zi (zg (za (csr (op 18 (iv p1) (op 4 (iv p1) (ot (crt (rt [.tmp 4] [iv p1] ⟨rfl,trivial⟩ ?_))))))))
 exact ⟨hs,rfl⟩
theorem zjG {κ:K} {a1:OA} {c2:Nat} {p1:Int} :
 Fn Tryz.prog 43 #[sl a1 0 c2,iv p1] κ (fun v κ'=>Step [] κ κ'∧v=iv p1):=by
 refine fnc 36 [] Tryz.func43 Tryz.ntmps43 fun hs=>csr (op 4 (iv 0) (ot (cs (csr (op 5 (iv 0) (ot (cb 0 (zo (F:=fun (_:Unit)=>(some (.inr ()):Option (Unit ⊕ Unit))) (J:=fun (_:Unit) (E':Env) (κ':K)=>(∃ E0,E'=upd (upd (upd (E0) 0 (sl a1 0 c2)) 1 (iv p1)) 5 (iv 0))∧Step [] κ κ') (s0:=()) (x:=()) kr (zD rfl) ⟨⟨_,(eA 5 (eA 1 (eA 0 rfl)))⟩,hs⟩ ?_))))))))
 rintro _ _ κ18 ⟨⟨E0,rfl⟩,hs⟩ yyx17 hr hdx17
 refine cs (csr (op 6 (iv 0) (op 7 (sl a1 0 c2) (op 8 (iv 0) (op 9 (.bool false) (ot (cf (cx 0 (zh ?_)))))))))
 obtain rfl:=sj hr
 refine zi (zg (za (csr (op 35 (iv p1) (op 4 (iv p1) (ot (crt (rt [.tmp 4] [iv p1] ⟨rfl,trivial⟩ ?_))))))))
 exact ⟨hs,rfl⟩
theorem znB {p0:List (BS×Int)} {p1:Int} {r:Int×List (BS×Int)} (hr:zda p0 p1=some r):r.2.length=p0.length:=by
 obtain ⟨x,hx,hr⟩:=bind_some hr
 obtain rfl:=sj hr
 refine zna (fun s=>s.1.length=p0.length) (fun x=>x.1.length=p0.length) (fun s s' h0 hF=>?_) (fun s x h0 hF=>?_) (s:=(p0,p1,0)) rfl hx
 ·unfold zaO at hF
  split at hF
  ·obtain ⟨_,_,hF⟩:=bind_some hF
   obtain ⟨_,_,hF⟩:=bind_some hF
   obtain ⟨_,h,hF⟩:=bind_some hF
   obtain rfl:=sj h
   obtain ⟨_,_,hF⟩:=bind_some hF
   obtain ⟨_,h,hF⟩:=bind_some hF
   obtain rfl:=sj h
   injection sj hF with hF;subst hF
   simpa using h0
  injection sj hF
 unfold zaO at hF
 split at hF
 ·obtain ⟨_,_,hF⟩:=bind_some hF
  obtain ⟨_,_,hF⟩:=bind_some hF
  obtain ⟨_,h,hF⟩:=bind_some hF
  obtain rfl:=sj h
  obtain ⟨_,_,hF⟩:=bind_some hF
  obtain ⟨_,h,hF⟩:=bind_some hF
  obtain rfl:=sj h
  injection sj hF
 injection sj hF with hF;subst hF;exact h0
theorem zm3 {p0:LI} {p1:Int} {r:Int×LI} (hr:zcj p0 p1=some r):r.2.length=p0.length:=by
 obtain ⟨x,hx,hr⟩:=bind_some hr
 obtain rfl:=sj hr
 refine zna (fun s=>s.1.length=p0.length) (fun x=>x.1.length=p0.length) (fun s s' h0 hF=>?_) (fun s x h0 hF=>?_) (s:=(p0,p1,0)) rfl hx
 ·unfold zaD at hF
  split at hF
  ·obtain ⟨_,_,hF⟩:=bind_some hF
   obtain ⟨_,h,hF⟩:=bind_some hF
   obtain rfl:=sj h
   injection sj hF with hF;subst hF
   simpa using h0
  injection sj hF
 unfold zaD at hF
 split at hF
 ·obtain ⟨_,_,hF⟩:=bind_some hF
  obtain ⟨_,h,hF⟩:=bind_some hF
  obtain rfl:=sj h
  injection sj hF
 injection sj hF with hF;subst hF;exact h0
theorem zms {p0:LP} {p1:Int} {r:Int×LP} (hr:za4 p0 p1=some r):r.2.length=p0.length:=by
 obtain ⟨x,hx,hr⟩:=bind_some hr
 obtain rfl:=sj hr
 refine zna (fun s=>s.1.length=p0.length) (fun x=>x.1.length=p0.length) (fun s s' h0 hF=>?_) (fun s x h0 hF=>?_) (s:=(p0,p1,0)) rfl hx
 ·unfold zaw at hF
  split at hF
  ·obtain ⟨_,_,hF⟩:=bind_some hF
   obtain ⟨_,h,hF⟩:=bind_some hF
   obtain rfl:=sj h
   obtain ⟨_,_,hF⟩:=bind_some hF
   obtain ⟨_,h,hF⟩:=bind_some hF
   obtain rfl:=sj h
   obtain ⟨_,_,hF⟩:=bind_some hF
   obtain ⟨_,h,hF⟩:=bind_some hF
   obtain rfl:=sj h
   injection sj hF with hF;subst hF
   simpa using h0
  injection sj hF
 unfold zaw at hF
 split at hF
 ·obtain ⟨_,_,hF⟩:=bind_some hF
  obtain ⟨_,h,hF⟩:=bind_some hF
  obtain rfl:=sj h
  obtain ⟨_,_,hF⟩:=bind_some hF
  obtain ⟨_,h,hF⟩:=bind_some hF
  obtain rfl:=sj h
  obtain ⟨_,_,hF⟩:=bind_some hF
  obtain ⟨_,h,hF⟩:=bind_some hF
  obtain rfl:=sj h
  injection sj hF
 injection sj hF with hF;subst hF;exact h0
theorem zlQ {κ:K} {p0:List (BS×Int)} {a:OA} {c:Nat} {p1:Int} (V:VG tGlue 94 κ a c p0) (hb4:I64 p1) {r:Int×(List (BS×Int))} (hr:zda p0 p1=some r) :
 Fn Tryz.prog 41 #[sl a p0.length c,iv p1] κ (fun v κ'=>Step (rb (a,p0.length,c)) κ κ'∧v=iv r.1∧I64 r.1∧VG tGlue 94 κ' a c r.2):=by
 cases p0 with
 | nil=>
   obtain ⟨x,hx,hr⟩:=bind_some hr
   obtain rfl:=sj ((zD (F:=zaO) (s:=([],p1,0)) rfl).symm.trans hx)
   obtain rfl:=sj hr
   exact (zkJ (κ:=κ) (a1:=a) (c2:=c) (p1:=p1)).mono fun v κ' h=>⟨h.1.nil,h.2,hb4,.inl rfl⟩
 | cons x l=>
   rcases V with h | ⟨b,rfl,h⟩
   · cases h
   · have hl:b<κ.H.size:=by
       rcases h.body with ⟨_,h⟩ | ⟨g,cur,xs,ha,hr,hH,_⟩
       · cases h
       · injection ha with ha;injection ha with ha;rw [ha];exact (Array.getElem?_eq_some_iff.1 hH).1
     refine (zll h (Nat.lt_of_le_of_lt (Nat.zero_le _) hl) hb4 hr).mono fun v κ' h=>?_
     rw [zlN (by simp)]
     exact ⟨h.1,h.2.1,h.2.2.1,.inr ⟨b,rfl,h.2.2.2⟩⟩
theorem zlk {κ:K} {p0:LI} {a:OA} {c:Nat} {p1:Int} (V:VG tI64 2 κ a c p0) (hb4:I64 p1) {r:Int×LI} (hr:zcj p0 p1=some r) :
 Fn Tryz.prog 77 #[sl a p0.length c,iv p1] κ (fun v κ'=>Step (rb (a,p0.length,c)) κ κ'∧v=iv r.1∧I64 r.1∧VG tI64 2 κ' a c r.2):=by
 cases p0 with
 | nil=>
   obtain ⟨x,hx,hr⟩:=bind_some hr
   obtain rfl:=sj ((zD (F:=zaD) (s:=([],p1,0)) rfl).symm.trans hx)
   obtain rfl:=sj hr
   exact (zki (κ:=κ) (a1:=a) (c2:=c) (p1:=p1)).mono fun v κ' h=>⟨h.1.nil,h.2,hb4,.inl rfl⟩
 | cons x l=>
   rcases V with h | ⟨b,rfl,h⟩
   · cases h
   · have hl:b<κ.H.size:=by
       rcases h.body with ⟨_,h⟩ | ⟨g,cur,xs,ha,hr,hH,_⟩
       · cases h
       · injection ha with ha;injection ha with ha;rw [ha];exact (Array.getElem?_eq_some_iff.1 hH).1
     refine (zkI h (Nat.lt_of_le_of_lt (Nat.zero_le _) hl) hb4 hr).mono fun v κ' h=>?_
     rw [zlN (by simp)]
     exact ⟨h.1,h.2.1,h.2.2.1,.inr ⟨b,rfl,h.2.2.2⟩⟩
theorem zkH {κ:K} {p0:LP} {a:OA} {c:Nat} {p1:Int} (V:VG tPlaced 108 κ a c p0) (hb4:I64 p1) {r:Int×LP} (hr:za4 p0 p1=some r) :
 Fn Tryz.prog 43 #[sl a p0.length c,iv p1] κ (fun v κ'=>Step (rb (a,p0.length,c)) κ κ'∧v=iv r.1∧I64 r.1∧VG tPlaced 108 κ' a c r.2):=by
 cases p0 with
 | nil=>
   obtain ⟨x,hx,hr⟩:=bind_some hr
   obtain rfl:=sj ((zD (F:=zaw) (s:=([],p1,0)) rfl).symm.trans hx)
   obtain rfl:=sj hr
   exact (zjG (κ:=κ) (a1:=a) (c2:=c) (p1:=p1)).mono fun v κ' h=>⟨h.1.nil,h.2,hb4,.inl rfl⟩
 | cons x l=>
   rcases V with h | ⟨b,rfl,h⟩
   · cases h
   · have hl:b<κ.H.size:=by
       rcases h.body with ⟨_,h⟩ | ⟨g,cur,xs,ha,hr,hH,_⟩
       · cases h
       · injection ha with ha;injection ha with ha;rw [ha];exact (Array.getElem?_eq_some_iff.1 hH).1
     refine (zkh h (Nat.lt_of_le_of_lt (Nat.zero_le _) hl) hb4 hr).mono fun v κ' h=>?_
     rw [zlN (by simp)]
     exact ⟨h.1,h.2.1,h.2.2.1,.inr ⟨b,rfl,h.2.2.2⟩⟩
abbrev TL:=List (BS×LI)
def tTH:Ty (BS×Hd):=zhe tStr tH
def zipH (L:TL) (Hs:List Hd):List (BS×Hd):=(L.map Prod.fst).zip Hs
structure TV (κ:K) (a:OA) (c:Nat) (L:TL) (Hs:List Hd):Prop where
 len:Hs.length=L.length
 out:VG tTH 97 κ a c (zipH L Hs)
 row:∀ (i:Nat) (x:BS×LI) (hd:Hd),L[i]?=some x→Hs[i]?=some hd→hd.2.1=x.2.length∧VG tI64 2 κ hd.1 hd.2.2 x.2
 dis:∀ (i j:Nat) (hd hd':Hd),i≠j→Hs[i]?=some hd→Hs[j]?=some hd'→∀ g∈rb hd,g∉rb hd'
 odis:∀ (i:Nat) (hd:Hd),Hs[i]?=some hd→∀ g∈rb hd,g∉rb (a,L.length,c)
 lt:∀ g∈rb (a,L.length,c)++Hs.flatMap rb,g<κ.H.size
section
variable {κ κ':K} {a:Option Addr} {c:Nat} {L:TL} {Hs:List Hd} {M:List Nat}
theorem zij (h:Hs.length=L.length):(zipH L Hs).length=L.length:=by unfold zipH;rw [List.length_zip,List.length_map,h,Nat.min_self]
theorem zoC (h:Hs.length=L.length) {i:Nat} {x:BS×LI} (hx:L[i]?=some x):∃ hd,Hs[i]?=some hd∧(zipH L Hs)[i]?=some (x.1,hd):=by
 have hi:=(List.getElem?_eq_some_iff.1 hx).1
 have hi2:i<Hs.length:=h▸hi
 refine ⟨Hs[i],List.getElem?_eq_getElem hi2,?_⟩
 unfold zipH
 rw [List.getElem?_zip_eq_some]
 exact ⟨by rw [List.getElem?_map,hx];rfl,List.getElem?_eq_getElem hi2⟩
theorem zoB {i:Nat} {x:BS×LI} {hd:Hd} (hh:Hs[i]?=some hd):(zipH L Hs).set i (x.1,hd)=zipH (L.set i x) Hs:=by
 unfold zipH
 apply List.ext_getElem?
 intro j
 rw [List.getElem?_set]
 by_cases hj:i=j
 ·subst hj
  rw [if_pos rfl]
  by_cases hi:i<L.length
  ·have hi2:=(List.getElem?_eq_some_iff.1 hh).1
   rw [if_pos (by rw [List.length_zip,List.length_map];omega)]
   symm
   rw [List.getElem?_zip_eq_some]
   exact ⟨by rw [List.getElem?_map,List.getElem?_set,if_pos rfl,if_pos hi];rfl,hh⟩
  rw [if_neg (by rw [List.length_zip,List.length_map];omega)]
  rw [List.set_eq_of_length_le (by omega)]
  symm
  rw [List.getElem?_eq_none]
  rw [List.length_zip,List.length_map];omega
 rw [if_neg hj]
 simp [List.zip,List.getElem?_zipWith,List.getElem?_map,List.getElem?_set,hj]
theorem TV.name {nm:BS} {i:Nat} {x:BS×LI} {hd:Hd} (V:TV κ a c L Hs) (s:Step (rb (a,L.length,c)) κ κ') (hx:L[i]?=some x) (hh:Hs[i]?=some hd)
 (G:VG tTH 97 κ' a c ((zipH L Hs).set i (nm,hd))):TV κ' a c (L.set i (nm,x.2)) Hs:=by
 have hl:(L.set i (nm,x.2)).length=L.length:=by simp
 refine ⟨by rw [hl];exact V.len,by rw [←zoB (x:=(nm,x.2)) hh];exact G,fun j y hd' hy hd2=>?_,V.dis,fun j hd' h=>by rw [hl];exact V.odis j hd' h,fun g hg=>by rw [hl] at hg;exact Nat.lt_of_lt_of_le (V.lt g hg) s.1⟩
 rw [List.getElem?_set] at hy
 split at hy
 ·rename_i hij
  subst hij
  split at hy
  ·injection hy with hy;subst hy
   obtain rfl:=sj (hh.symm.trans hd2)
   have h:=V.row i x hd hx hh
   refine ⟨h.1,h.2.step s fun g hg=>V.odis i hd hh g ?_⟩
   rw [←h.1] at hg;exact hg
  cases hy
 have h:=V.row j y hd' hy hd2
 refine ⟨h.1,h.2.step s fun g hg=>V.odis j hd' hd2 g ?_⟩
 rw [←h.1] at hg;exact hg
theorem TV.sides {ro:LI} {i:Nat} {x:BS×LI} {hd:Hd} (V:TV κ a c L Hs) (s:Step (rb hd) κ κ') (hx:L[i]?=some x) (hh:Hs[i]?=some hd) (hl0:ro.length=x.2.length)
 (G:VG tI64 2 κ' hd.1 hd.2.2 ro):TV κ' a c (L.set i (x.1,ro)) Hs:=by
 have hl:(L.set i (x.1,ro)).length=L.length:=by simp
 have hz:zipH (L.set i (x.1,ro)) Hs=zipH L Hs:=by
   rw [←zoB (x:=(x.1,ro)) hh]
   obtain ⟨hd',h1,h2⟩:=zoC V.len hx
   obtain rfl:=sj (hh.symm.trans h1)
   apply List.ext_getElem?
   intro j
   rw [List.getElem?_set]
   split
   · rename_i hij;subst hij
     split
     · exact h2.symm
     · rename_i h;rw [(List.getElem?_eq_none (by omega))]
   · rfl
 refine ⟨by rw [hl];exact V.len,by rw [hz];exact V.out.step s (fun g hg hc=>V.odis i hd hh g hc (by rw [zij V.len] at hg;exact hg)),fun j y hd' hy hd2=>?_,V.dis,fun j hd' h=>by rw [hl];exact V.odis j hd' h,fun g hg=>by rw [hl] at hg;exact Nat.lt_of_lt_of_le (V.lt g hg) s.1⟩
 rw [List.getElem?_set] at hy
 split at hy
 ·rename_i hij
  subst hij
  split at hy
  ·injection hy with hy;subst hy
   obtain rfl:=sj (hh.symm.trans hd2)
   have h:=V.row i x hd hx hh
   exact ⟨h.1.trans hl0.symm,G⟩
  cases hy
 rename_i hij
 have h:=V.row j y hd' hy hd2
 refine ⟨h.1,h.2.step s fun g hg hc=>V.dis i j hd hd' hij hh hd2 g hc ?_⟩
 rw [←h.1] at hg;exact hg
theorem TV.step (V:TV κ a c L Hs) (s:Step M κ κ') (hm:∀ g∈rb (a,L.length,c)++Hs.flatMap rb,g∉M):TV κ' a c L Hs:=by
 refine ⟨V.len,V.out.step s fun g hg=>hm g (List.mem_append_left _ (by rw [zij V.len] at hg;exact hg)),fun j y hd' hy hd2=>?_,V.dis,V.odis,fun g hg=>Nat.lt_of_lt_of_le (V.lt g hg) s.1⟩
 have h:=V.row j y hd' hy hd2
 refine ⟨h.1,h.2.step s fun g hg=>hm g (List.mem_append_right _ (List.mem_flatMap.2 ⟨hd',List.mem_of_getElem? hd2,?_⟩))⟩
 rw [←h.1] at hg;exact hg
end
noncomputable def zhm (sx:TL×Int×Int):Option ((TL×Int×Int) ⊕ (TL×Int)):=
 if decide (sx.2.2<(sx.1.length:Int)) then ((zbb sx.2.1).bind fun nm=>(idx sx.1 sx.2.2).bind fun x=>(zcj x.2 (w64 (sx.2.1+1))).bind fun y=>some (.inl (sx.1.set sx.2.2.toNat (nm,y.2),y.1,w64 (sx.2.2+1)))) else (some (.inr (sx.1,sx.2.1)))
noncomputable def zfX (p0:TL) (p1:Int):Option (Int×TL):=
 (iter zhm (p0,p1,0)).bind fun x=>some (x.2,x.1)
theorem zlj {κ:K} {p0:TL} {a1:OA} {c2:Nat} {Hs:List Hd} {p1:Int} (V:TV κ a1 c2 p0 Hs) (hb4:I64 p1) {r:Int×TL} (hr:zfX p0 p1=some r) :
 Fn Tryz.prog 42 #[sl a1 p0.length c2,iv p1] κ (fun v κ'=>Step (rb (a1,p0.length,c2)++Hs.flatMap rb) κ κ'∧v=iv r.1∧I64 r.1∧TV κ' a1 c2 r.2 Hs∧r.2.length=p0.length):=by
 refine fnc 28 (rb (a1,p0.length,c2)++Hs.flatMap rb) Tryz.func42 Tryz.ntmps42 fun hs=>csr (op 4 (iv 0) (ot (cs (csr (op 5 (iv 0) (ot (cb 0 ?_)))))))
 obtain ⟨x17,hx17,hr⟩:=bind_some hr
 obtain rfl:=sj hr
 refine zo (F:=zhm) (J:=fun (sx17:TL×Int×Int) (E':Env) (κ':K)=>(∃ E0,E'=upd (upd (upd (E0) 0 (sl a1 sx17.1.length c2)) 1 (iv sx17.2.1)) 5 (iv sx17.2.2))∧Step (rb (a1,p0.length,c2)++Hs.flatMap rb) κ κ'∧TV κ' a1 c2 sx17.1 Hs∧sx17.1.length=p0.length∧I64 sx17.2.1∧I64 sx17.2.2) (s0:=(p0,p1,0)) (x:=x17) kr hx17 ⟨⟨_,(eA 5 (eA 1 (eA 0 rfl)))⟩,hs,V,rfl,hb4,(show I64 0 by unfold I64;omega)⟩ ?_
 rintro sx17 _ κ18 ⟨⟨E0,rfl⟩,hs,V,hln,hb11,hb13⟩ yyx17 hr hdx17
 refine cs (csr (op 6 (iv sx17.2.2) (op 7 (sl a1 sx17.1.length c2) (op 8 (iv (sx17.1.length:Int)) (op 9 (.bool (decide (sx17.2.2<(sx17.1.length:Int)))) (ot ?_))))))
 refine cc (decide (sx17.2.2<(sx17.1.length:Int))) hr ?_ ?_
 ·intro hc hr
  refine ckt (cs (cb 1 (csr (op 12 (sl a1 sx17.1.length c2) (op 13 (iv sx17.2.2) (op 14 (iv sx17.2.1) ?_))))))
  obtain ⟨x19,hx19,hr⟩:=bind_some hr
  refine ocl 15 (zez hb11 hx19) ?_
  rintro _ κ21 ⟨s22,rfl,hb20⟩
  replace hs:=hs.tr0 s22
  replace V:=V.step s22 (by simp)
  obtain ⟨x,hx,hr⟩:=bind_some hr
  obtain ⟨i0,i1,hxg⟩:=ze2 hx
  obtain ⟨hd,hhd,hzg⟩:=zoC V.len hxg
  have hpos:0<sx17.1.length:=by omega
  have hzl:=zij V.len
  obtain ⟨b,hab,G⟩:∃ b,a1=some ⟨b,0,none⟩∧Gr tTH false (0,b) κ21 97 a1 c2 (zipH sx17.1 Hs):=by
    rcases V.out with h | h
    · rw [h] at hzl;simp at hzl;omega
    · exact h
  have hzi:idx (zipH sx17.1 Hs) sx17.2.2=some (x.1,hd):=by unfold idx;rw [if_pos i0];exact hzg
  refine oi 16 23 97 2 sx17.1.length c2 .i64 sx17.2.2 (off:=0) hab i0 i1 (op 17 (pt b (0+sx17.2.2.toNat*2)) (zbu (T:=9) (t:=tTH) (τ:=(0,b)) (e:=97) (ix:=sx17.2.2) (x':=(x19,hd)) (b:=b) (δ:=0) (cp:=c2) (l:=zipH sx17.1 Hs) (vs:=[strV x19]) (strV x19) kr kr hab G i0 (by rw [hzl];exact i1) kr kr kr kr (fun cs hx=>by obtain ⟨y,hx0,ho⟩:=hx;obtain rfl:=sj (hx0.symm.trans hzi);obtain ⟨_,_,rfl,⟨rfl,hb30⟩,rfl⟩:=ho;exact ⟨_,_,rfl,⟨rfl,hb20⟩,rfl⟩) fun κ28 s29 Nf9=>?_))
  have s29':Step (rb (a1,sx17.1.length,c2)) κ21 κ28:=by rw [zlN hpos];exact s29
  replace hs:=hs.trM (M':=rb (a1,sx17.1.length,c2)) (fun g hg=>.inl (List.mem_append_left _ (by rw [hln] at hg;exact hg))) s29'
  replace V:=V.name s29' hxg hhd (.inr ⟨b,hab,Nf9⟩)
  have hxg2:(sx17.1.set sx17.2.2.toNat (x19,x.2))[sx17.2.2.toNat]?=some (x19,x.2):=by
    rw [List.getElem?_set,if_pos rfl,if_pos (by omega)]
  have hln2:(sx17.1.set sx17.2.2.toNat (x19,x.2)).length=sx17.1.length:=by simp
  have hzl2:((zipH sx17.1 Hs).set sx17.2.2.toNat (x19,hd)).length=sx17.1.length:=by simp [hzl]
  have hzi2:idx ((zipH sx17.1 Hs).set sx17.2.2.toNat (x19,hd)) sx17.2.2=some (x19,hd):=by
    unfold idx;rw [if_pos i0,List.getElem?_set,if_pos rfl,if_pos (by omega)]
  refine otx (op 18 (iv sx17.2.1) (op 19 (iv (w64 (sx17.2.1+1))) (op 1 (iv (w64 (sx17.2.1+1))) (otr (op 20 (sl a1 sx17.1.length c2) (op 21 (iv sx17.2.2) ?_))))))
  obtain ⟨b33,eab33,_,_,csx32,p_b33,owx32⟩:=Nf9.idx hzi2
  obtain rfl:b=b33:=by have:=hab.symm.trans eab33;injection this with this;injection this
  obtain ⟨_,_,rfl,⟨rfl,hb34⟩,rfl⟩:=owx32
  replace p_b33:At κ28 b (0+sx17.2.2.toNat*2) [strV x19,sl hd.1 hd.2.1 hd.2.2]:=p_b33
  refine oi 22 23 97 2 sx17.1.length c2 .i64 sx17.2.2 (off:=0) hab i0 i1 (op 23 (pt b (0+sx17.2.2.toNat*2+1)) (o1 24 95 (sl hd.1 hd.2.1 hd.2.2) (p_b33.one (o:=1) rfl) (op 25 (iv (w64 (sx17.2.1+1))) ?_)))
  obtain ⟨y,hy,hr⟩:=bind_some hr
  have hrow:=V.row _ _ _ hxg2 hhd
  have hcall:=zlk hrow.2 (zq (sx17.2.1+1)) hy
  rw [←hrow.1] at hcall
  refine ocl 26 hcall ?_
  rintro _ κ40 ⟨s41,rfl,hb42,V43⟩
  replace hs:=hs.trM (M':=rb hd) (fun g hg=>.inl (List.mem_append_right _ (List.mem_flatMap.2 ⟨hd,List.mem_of_getElem? hhd,hg⟩))) s41
  replace V:=V.sides s41 hxg2 hhd (zm3 hy) V43
  rw [List.set_set] at V
  have hln3:(sx17.1.set sx17.2.2.toNat (x19,y.2)).length=sx17.1.length:=by simp
  refine op 1 (iv y.1) (oe (zd (za (cr (op 10 (iv sx17.2.2) (op 11 (iv (w64 (sx17.2.2+1))) (op 5 (iv (w64 (sx17.2.2+1))) (oe ?_))))))))
  exact ze (sj hr).symm ⟨⟨_,(eA 5 (eA 1 (zc (t:=0) rfl (by simp only [hln3];kernel_rfl))))⟩,hs,V,by simp [hln],hb42,(zq _)⟩
 intro hc hr
 refine cx 0 (zh ?_)
 have hx:=hdx17 _ (sj hr).symm
 subst hx
 refine zi (zg (za (csr (op 27 (iv sx17.2.1) (op 4 (iv sx17.2.1) (ot (crt (rt [.tmp 4] [iv sx17.2.1] ⟨rfl,trivial⟩ ?_))))))))
 exact ⟨hs,rfl,hb11,V,hln⟩
def ft (a:OA) (n c:Nat) (Hs:List Hd):List Nat:=rb (a,n,c)++Hs.flatMap rb
noncomputable def zgr (p0:List (BS×Int)×TL) (p1:Int):Option (Int×(List (BS×Int)×TL)):=
 (zda p0.1 p1).bind fun x=>(zfX p0.2 x.1).bind fun y=>some (y.1,x.2,y.2)
noncomputable def zfb (p0:(List (BS×Int)×TL)×LP×Int) (p1:Int):Option (Int×((List (BS×Int)×TL)×LP×Int)):=
 (zgr p0.1 p1).bind fun x=>(za4 p0.2.1 x.1).bind fun y=>some (y.1,x.2,y.2,p0.2.2)
section
variable {κ:K} {a1 a4 a7:Option Addr} {c2 c5 c8:Nat} {Hs:List Hd} {p1:Int}
theorem zkg {p0:List (BS×Int)×TL} (Vg:VG tGlue 94 κ a1 c2 p0.1) (Vt:TV κ a4 c5 p0.2 Hs) (lg:∀ g∈rb (a1,p0.1.length,c2),g<κ.H.size) (dgt:∀ g∈rb (a1,p0.1.length,c2),g∉ft a4 p0.2.length c5 Hs) (hb7:I64 p1)
 {r:Int×(List (BS×Int)×TL)} (hr:zgr p0 p1=some r) :
 Fn Tryz.prog 18 #[.agg #[sl a1 p0.1.length c2,sl a4 p0.2.length c5],iv p1] κ (fun v κ'=>Step (rb (a1,p0.1.length,c2)++ft a4 p0.2.length c5 Hs) κ κ'∧v=iv r.1∧I64 r.1∧VG tGlue 94 κ' a1 c2 r.2.1∧TV κ' a4 c5 r.2.2 Hs∧r.2.1.length=p0.1.length∧r.2.2.length=p0.2.length):=by
 refine fnc 14 (rb (a1,p0.1.length,c2)++ft a4 p0.2.length c5 Hs) Tryz.func18 Tryz.ntmps18 fun hs=>csr (zv (d:=2) (T:=25) (κ.H.size,18001) hs.1 (.agg #[sl a1 p0.1.length c2,sl a4 p0.2.length c5]) [sl a1 p0.1.length c2,sl a4 p0.2.length c5] kr kr rfl fun b9 κ10 s11 B_b9=>?_)
 replace hs:=hs.tr0 s11
 replace Vg:=Vg.step s11 (by simp)
 replace Vt:=Vt.step s11 (by simp)
 refine op 4 (iv 0) (otx (op 5 (pt b9 0) (o1 6 22 (sl a1 p0.1.length c2) (B_b9.at.one (o:=0) rfl) (op 7 (iv p1) ?_))))
 obtain ⟨x,hx,hr⟩:=bind_some hr
 obtain ⟨y,hy,hr⟩:=bind_some hr
 obtain rfl:=sj hr
 refine ocl 8 (zlQ Vg hb7 hx) ?_
 rintro _ κ14 ⟨s15,rfl,hb13,Vg'⟩
 have hB9:∀ g,g<κ.H.size→b9≠g:=fun g hg e=>by have:=B_b9.ge;rw [e] at this;exact absurd (Nat.lt_of_le_of_lt this hg) (Nat.lt_irrefl _)
 replace hs:=hs.trM (fun g hg=>.inl (List.mem_append_left _ hg)) s15
 replace Vt:=Vt.step s15 (fun g hg hc=>dgt g hc hg)
 replace B_b9:=B_b9.step s15 (fun h=>hB9 _ (lg _ h) rfl)
 refine op 1 (iv x.1) (otx (op 9 (pt b9 1) (o1 10 23 (sl a4 p0.2.length c5) (B_b9.at.one (o:=1) rfl) (op 11 (iv x.1) (ocl 12 (zlj Vt hb13 hy) ?_)))))
 rintro _ κ24 ⟨s25,rfl,hb23,Vt',hl⟩
 replace hs:=hs.trM (fun g hg=>.inl (List.mem_append_right _ hg)) s25
 have hlg:=znB hx
 replace Vg':=Vg'.step s25 (by rw [hlg];exact dgt)
 refine op 1 (iv y.1) (otx (op 13 (iv y.1) (op 4 (iv y.1) (ot (crt (rt [.tmp 4] [iv y.1] ⟨rfl,trivial⟩ ?_))))))
 exact ⟨hs,rfl,hb23,Vg',Vt',hlg,hl⟩
theorem zjH {p0:LP} (Vp:VG tPlaced 108 κ a1 c2 p0) (hb7:I64 p1) {r:Int×LP} (hr:za4 p0 p1=some r) :
 Fn Tryz.prog 19 #[.agg #[sl a1 p0.length c2],iv p1] κ (fun v κ'=>Step (rb (a1,p0.length,c2)) κ κ'∧v=iv r.1∧I64 r.1∧VG tPlaced 108 κ' a1 c2 r.2):=by
 refine fnc 10 (rb (a1,p0.length,c2)) Tryz.func19 Tryz.ntmps19 fun hs=>csr (zv (d:=2) (T:=28) (κ.H.size,19001) hs.1 (.agg #[sl a1 p0.length c2]) [sl a1 p0.length c2] kr kr rfl fun b9 κ10 s11 B_b9=>?_)
 replace hs:=hs.tr0 s11
 replace Vp:=Vp.step s11 (by simp)
 refine op 4 (iv 0) (otx (op 5 (pt b9 0) (o1 6 26 (sl a1 p0.length c2) (B_b9.at.one (o:=0) rfl) (op 7 (iv p1) (ocl 8 (zkH Vp hb7 hr) ?_)))))
 rintro _ κ14 ⟨s15,rfl,hb13,Vp'⟩
 replace hs:=hs.trM (fun g hg=>.inl hg) s15
 refine op 1 (iv r.1) (otx (op 9 (iv r.1) (op 4 (iv r.1) (ot (crt (rt [.tmp 4] [iv r.1] ⟨rfl,trivial⟩ ?_))))))
 exact ⟨hs,rfl,hb13,Vp'⟩
structure SV (κ:K) (a1:OA) (c2:Nat) (a4:OA) (c5:Nat) (a7:OA) (c8:Nat) (r:(List (BS×Int)×TL)×LP×Int) (Hs:List Hd):Prop where
 g:VG tGlue 94 κ a1 c2 r.1.1
 t:TV κ a4 c5 r.1.2 Hs
 p:VG tPlaced 108 κ a7 c8 r.2.1
 lg:∀ x∈rb (a1,r.1.1.length,c2),x<κ.H.size
 lp:∀ x∈rb (a7,r.2.1.length,c8),x<κ.H.size
 gt:∀ x∈rb (a1,r.1.1.length,c2),x∉ft a4 r.1.2.length c5 Hs
 gp:∀ x∈rb (a1,r.1.1.length,c2),x∉rb (a7,r.2.1.length,c8)
 tp:∀ x∈ft a4 r.1.2.length c5 Hs,x∉rb (a7,r.2.1.length,c8)
def fS (a1:OA) (c2:Nat) (a4:OA) (c5:Nat) (a7:OA) (c8:Nat) (r:(List (BS×Int)×TL)×LP×Int) (Hs:List Hd):List Nat:=
 (rb (a1,r.1.1.length,c2)++ft a4 r.1.2.length c5 Hs)++rb (a7,r.2.1.length,c8)
theorem zkG {p0:(List (BS×Int)×TL)×LP×Int} (V:SV κ a1 c2 a4 c5 a7 c8 p0 Hs) (hb10:I64 p0.2.2) (hb11:I64 p1) {r:Int×((List (BS×Int)×TL)×LP×Int)} (hr:zfb p0 p1=some r) :
 Fn Tryz.prog 7 #[.agg #[sl a1 p0.1.1.length c2,sl a4 p0.1.2.length c5,sl a7 p0.2.1.length c8,iv p0.2.2],iv p1] κ
 (fun v κ'=>Step (fS a1 c2 a4 c5 a7 c8 p0 Hs) κ κ'∧v=iv r.1∧I64 r.1∧SV κ' a1 c2 a4 c5 a7 c8 r.2 Hs∧r.2.1.1.length=p0.1.1.length∧r.2.1.2.length=p0.1.2.length∧r.2.2.1.length=p0.2.1.length∧r.2.2.2=p0.2.2):=by
 refine fnc 14 (fS a1 c2 a4 c5 a7 c8 p0 Hs) Tryz.func7 Tryz.ntmps7 fun hs=>csr (zv (d:=2) (T:=30) (κ.H.size,7001) hs.1 (.agg #[sl a1 p0.1.1.length c2,sl a4 p0.1.2.length c5,sl a7 p0.2.1.length c8,iv p0.2.2]) [sl a1 p0.1.1.length c2,sl a4 p0.1.2.length c5,sl a7 p0.2.1.length c8,iv p0.2.2] kr kr rfl fun b9 κ10 s11 B_b9=>?_)
 replace hs:=hs.tr0 s11
 have Vg:=V.g.step s11 (by simp)
 have Vt:=V.t.step s11 (by simp)
 have Vp:=V.p.step s11 (by simp)
 refine op 4 (iv 0) (otx (op 5 (pt b9 0) (oN 6 25 [sl a1 p0.1.1.length c2,sl a4 p0.1.2.length c5] (B_b9.at.part 0 2).2 (op 7 (iv p1) ?_))))
 obtain ⟨x,hx,hr⟩:=bind_some hr
 obtain ⟨y,hy,hr⟩:=bind_some hr
 obtain rfl:=sj hr
 refine ocl 8 (zkg Vg Vt (fun g hg=>Nat.lt_of_lt_of_le (V.lg g hg) s11.1) V.gt hb11 hx) ?_
 rintro _ κ14 ⟨s15,rfl,hb13,Vg',Vt',l1,l2⟩
 have hB9:∀ g,g<κ.H.size→b9≠g:=fun g hg e=>by have:=B_b9.ge;rw [e] at this;exact absurd (Nat.lt_of_le_of_lt this hg) (Nat.lt_irrefl _)
 replace hs:=hs.trM (fun g hg=>.inl (List.mem_append_left _ hg)) s15
 replace Vp:=Vp.step s15 (fun g hg hc=>(List.mem_append.1 hc).elim (fun h=>V.gp g h hg) (fun h=>V.tp g h hg))
 replace B_b9:=B_b9.step s15 (fun h=>(List.mem_append.1 h).elim (fun h=>hB9 _ (V.lg _ h) rfl) (fun h=>hB9 _ (V.t.lt _ h) rfl))
 refine op 1 (iv x.1) (otx (op 9 (pt b9 2) (oN 10 28 [sl a7 p0.2.1.length c8] (B_b9.at.part 2 1).2 (op 11 (iv x.1) (ocl 12 (zjH Vp hb13 hy) ?_)))))
 rintro _ κ24 ⟨s25,rfl,hb23,Vp'⟩
 replace hs:=hs.trM (fun g hg=>.inl (List.mem_append_right _ hg)) s25
 have l3:=zms hy
 replace Vg':=Vg'.step s25 (by rw [l1];exact V.gp)
 replace Vt':=Vt'.step s25 (by rw [l2];exact V.tp)
 refine op 1 (iv y.1) (otx (op 13 (iv y.1) (op 4 (iv y.1) (ot (crt (rt [.tmp 4] [iv y.1] ⟨rfl,trivial⟩ ?_))))))
 refine ⟨hs,rfl,hb23,⟨Vg',Vt',Vp',?_,?_,?_,?_,?_⟩,l1,l2,l3,rfl⟩<;>simp only [l1,l2,l3]
 ·exact fun x hx=>Nat.lt_of_lt_of_le (V.lg x hx) hs.1
 ·exact fun x hx=>Nat.lt_of_lt_of_le (V.lp x hx) hs.1
 ·exact V.gt
 ·exact V.gp
 exact V.tp
end
def FlatT {α:Type} (t:Ty α):Prop:=∀ κ κ' cs x,t.own κ cs x→t.own κ' cs x
theorem zhL:FlatT tI64:=fun _ _ _ _ h=>h
theorem zpm:FlatT tStr:=fun _ _ _ _ h=>h
theorem zlZ {α β:Type} {a:Ty α} {b:Ty β} (h1:FlatT a) (h2:FlatT b):FlatT (zhe a b):=fun _ _ _ _ ⟨c1,c2,h,o1,o2⟩=>⟨c1,c2,h,h1 _ _ _ _ o1,h2 _ _ _ _ o2⟩
theorem zl0:FlatT tGlue:=zlZ zpm zhL
theorem zjT:FlatT tPlaced:=zlZ (zlZ zhL zhL) zhL
section
variable {α β:Type} {t:Ty α} {t':Ty β} {κ κ':K} {a:Option Addr} {c:Nat} {l:List α} {l':List β} {e:TypeId} {τ:Tag} {n:Nat}
theorem Rep.flat (F:FlatT t):∀ {l:List α} {xs:List Value},Rep t κ xs l→Rep t κ' xs l
  | [],_,h=>h
  | _::_,_,⟨c,xs',h,ho,hr⟩=>⟨c,xs',h,F _ _ _ _ ho,Rep.flat F hr⟩
theorem zrN {b e sz:Nat} (h:κ.shp b=some (e,sz,(0,0))):∃ cur,κ.H[b]?=some (.cells cur e (0,0))∧cur.size=sz:=by
 unfold K.shp at h
 split at h
 ·rename_i c T k hH
  injection h with h
  injection h with h1 h2
  injection h2 with h2 h3
  subst h1;subst h3
  exact ⟨c,hH,h2⟩
 cases h
theorem zqp (hconv:∀ xs,Rep t κ xs l→Rep t' κ' xs l') (hl:l'.length=l.length) (hsz:t'.size=t.size) (S:Sl t κ a c l) (h:Hm e c t.size τ κ a l.length) (hH:κ'.H=κ.H)
 (hf:∀ b,a=some ⟨b,0,none⟩→0<l.length→κ'.fr b=0∧κ'.tag b=(0,b)):VG t' e κ' a c l':=by
 by_cases h0:0<l.length
 ·right
  obtain ⟨hc,b,rfl,hb,_,_,hs⟩:=h h0
  obtain ⟨cur,hcur,hcs⟩:=zrN hs
  obtain ⟨xs,hr,hx⟩:=Rep.of_sl S
  obtain ⟨b',off,ea,hp⟩:=hx h0
  injection ea with ea
  injection ea with e1 e2
  subst e1;subst e2
  obtain ⟨f1,f2⟩:=hf b rfl h0
  have hxl:=hr.length
  refine ⟨b,rfl,by have:=S.most;rw [hl];unfold maxLen;omega,.inr ⟨b,cur,xs,rfl,hconv xs hr,by rw [hH];exact hcur,by rw [hl];exact S.cap,hc,by rw [hsz];exact hcs,?_,by simpa using f1,f2,Nat.zero_le _⟩⟩
  apply List.ext_getElem?
  intro j
  rw [List.getElem?_take,hl,hsz]
  split
  ·rename_i hj
   have hj':j<xs.length:=by rw [hxl];exact hj
   have h4:=hp.2.2 j _ (List.getElem?_eq_getElem hj')
   unfold K.cell at h4
   rw [hcur] at h4
   simp only [Nat.zero_add] at h4
   rw [List.getElem?_eq_getElem hj',←h4];simp
  rename_i hj
  rw [List.getElem?_eq_none (by omega)]
 left
 exact List.eq_nil_of_length_eq_zero (by omega)
theorem zmc {s c':Nat} (h:Hm e c s τ κ a n):∀ g∈rb (a,n,c'),g<κ.H.size∧κ.tag g=τ∧a=some ⟨g,0,none⟩∧0<n:=by
 intro g hg
 unfold rb at hg
 split at hg
 ·rename_i h0
  obtain ⟨_,b,ha,h1,h2,_⟩:=h h0
  have ha':a=some ⟨b,0,none⟩:=ha
  simp only [ha'] at hg
  have:=(zj6 hg).1
  subst this
  exact ⟨h1,h2,ha',h0⟩
 cases hg
theorem zr1:∀ {L:TL} {Hs:List Hd} {xs:List Value},Rep (tX tStr tI64) κ xs (L.zip Hs)→Rep tTH κ' xs (zipH L Hs)
  | [],_,xs,h=>h
  | _::_,[],xs,h=>h
  | x::L,hd::Hs,xs,h=>by
    obtain ⟨cs,xs',e,⟨c1,h1,h2,h3,h4⟩,hr⟩:=h
    exact ⟨cs,xs',e,⟨c1,[sl hd.1 hd.2.1 hd.2.2],h1,h2,rfl⟩,zr1 hr⟩
theorem zua {H:List (Hd×Nat)} (h:H.Pairwise (fun x y=>0<x.1.2.1→0<y.1.2.1→x.2≠y.2)) {i j:Nat} {x y:Hd×Nat} (hx:H[i]?=some x) (hy:H[j]?=some y) (hij:i≠j) (h1:0<x.1.2.1) (h2:0<y.1.2.1):x.2≠y.2:=by
 rw [List.pairwise_iff_getElem] at h
 obtain ⟨hi,ei⟩:=List.getElem?_eq_some_iff.1 hx
 obtain ⟨hj,ej⟩:=List.getElem?_eq_some_iff.1 hy
 rcases Nat.lt_or_ge i j with hlt | hge
 ·have:=h i j hi hj hlt;rw [ei,ej] at this;exact this h1 h2
 have:=h j i hj hi (by omega);rw [ei,ej] at this;exact (this h2 h1).symm
theorem zt1 {L:TL} {N:Nat} (h:TlO tStr tI64 64004 2 97 (N,13004) κ a c L) (hH:κ'.H=κ.H) (hf:∀ b,(κ.tag b).2=13004∨(κ.tag b).2=64004→κ'.fr b=0∧κ'.tag b=(0,b)) :
 ∃ Hs,TV κ' a c L Hs∧(∀ g∈ft a L.length c Hs,g<κ.H.size∧((κ.tag g).2=13004∨(κ.tag g).2=64004)):=by
 obtain ⟨H,h1,h2,h3,h4,h5⟩:=h
 have hz:(L.zip (H.map Prod.fst)).length=L.length:=by rw [List.length_zip,List.length_map,h1,Nat.min_self]
 have hrow:∀ (i:Nat) (hd:Hd),(H.map Prod.fst)[i]?=some hd→∃ N,H[i]?=some (hd,N)∧Hm 2 hd.2.2 1 (N,64004) κ hd.1 hd.2.1:=by
   intro i hd hi
   rw [List.getElem?_map] at hi
   obtain ⟨y,hy,e⟩:=Option.map_eq_some_iff.1 hi
   subst e
   exact ⟨y.2,hy,h5 y (List.mem_of_getElem? hy)⟩
 have hft:∀ g∈ft a L.length c (H.map Prod.fst),g<κ.H.size∧((κ.tag g).2=13004∨(κ.tag g).2=64004):=by
   intro g hg
   rcases List.mem_append.1 hg with hg | hg
   · have:=zmc h3 g hg
     exact ⟨this.1,.inl (by rw [this.2.1])⟩
   · obtain ⟨hd,hhd,hg⟩:=List.mem_flatMap.1 hg
     obtain ⟨i,hi⟩:=List.getElem?_of_mem hhd
     obtain ⟨M,_,h7⟩:=hrow i hd hi
     have:=zmc h7 g hg
     exact ⟨this.1,.inr (by rw [this.2.1])⟩
 refine ⟨H.map Prod.fst,⟨by rw [List.length_map];exact h1,?_,fun i x hd hx hhd=>?_,fun i j hd hd' hij hi hj g hg hg'=>?_,fun i hd hi g hg hg'=>?_,fun g hg=>by rw [hH];exact (hft g hg).1⟩,hft⟩
 ·refine zqp (t:=tX tStr tI64) (κ:=κ) (τ:=(N,13004)) (fun xs hr=>zr1 hr) (by rw [hz];exact zij (by rw [List.length_map];exact h1)) rfl h2 (by rw [hz];exact h3) hH (fun b hb h0=>hf b (.inl ?_))
  obtain ⟨_,b',e,_,h8,_⟩:=h3 (by rw [hz] at h0;exact h0)
  rw [hb] at e;injection e with e;injection e with e;subst e;rw [h8]
 ·have hx2:(L.zip (H.map Prod.fst))[i]?=some (x,hd):=by rw [List.getElem?_zip_eq_some];exact ⟨hx,hhd⟩
  obtain ⟨b,o,_,h8⟩:=h2.elems (by rw [hz];exact Nat.lt_of_le_of_lt (Nat.zero_le _) (List.getElem?_eq_some_iff.1 hx).1)
  obtain ⟨cs,_,c1,_,_,h9,h10⟩:=h8 i _ hx2
  obtain ⟨M,_,h7⟩:=hrow i hd hhd
  have h9':hd.2.1=x.2.length:=h9
  refine ⟨h9',zqp (t:=tI64) (κ:=κ) (τ:=(M,64004)) (fun xs hr=>hr.flat zhL) rfl rfl h10 (by rw [←h9'];exact h7) hH (fun b hb h0=>hf b (.inr ?_))⟩
  obtain ⟨_,b',e,_,h8,_⟩:=h7 (by rw [h9'];exact h0)
  rw [hb] at e;injection e with e;injection e with e;subst e;rw [h8]
 ·obtain ⟨M,k1,k2⟩:=hrow i hd hi
  obtain ⟨M',k3,k4⟩:=hrow j hd' hj
  have q1:=zmc k2 g hg
  have q2:=zmc k4 g hg'
  have:=zua h4 k1 k3 hij q1.2.2.2 q2.2.2.2
  apply this
  have:=q1.2.1.symm.trans q2.2.1
  injection this
 obtain ⟨M,k1,k2⟩:=hrow i hd hi
 have q1:=zmc k2 g hg
 have q2:=zmc h3 g hg'
 have:=q1.2.1.symm.trans q2.2.1
 injection this with _ h;cases h
theorem zt4 {a1 a4 a7:OA} {c2 c5 c8:Nat} {r:(List (BS×Int)×TL)×LP×Int} (h:SysO κ a1 c2 a4 c5 a7 c8 r) (hH:κ'.H=κ.H)
 (hf:∀ b,5000≤(κ.tag b).2→κ'.fr b=0∧κ'.tag b=(0,b)):∃ Hs,SV κ' a1 c2 a4 c5 a7 c8 r Hs∧∀ g∈fS a1 c2 a4 c5 a7 c8 r Hs,g<κ.H.size∧5000≤(κ.tag g).2:=by
 obtain ⟨⟨N1,g1,g2⟩,⟨N2,ht⟩,⟨N3,p1,p2⟩⟩:=h
 obtain ⟨Hs,V,hV⟩:=zt1 ht hH (fun b hb=>hf b (by rcases hb with hb | hb<;>rw [hb]<;>decide))
 have hg:=fun g hg=>zmc (c':=c2) g2 g hg
 have hp:=fun g hg=>zmc (c':=c8) p2 g hg
 refine ⟨Hs,⟨?_,V,?_,fun x hx=>by rw [hH];exact (hg x hx).1,fun x hx=>by rw [hH];exact (hp x hx).1,fun x hx hx'=>?_,fun x hx hx'=>?_,fun x hx hx'=>?_⟩,fun g hgm=>?_⟩
 ·refine zqp (κ:=κ) (τ:=(N1,13003)) (fun xs hr=>hr.flat zl0) rfl rfl g1 g2 hH (fun b hb h0=>hf b ?_)
  obtain ⟨_,b',e,_,h8,_⟩:=g2 h0
  rw [hb] at e;injection e with e;injection e with e;subst e;rw [h8];show 5000≤_;omega
 ·refine zqp (κ:=κ) (τ:=(N3,97001)) (fun xs hr=>hr.flat zjT) rfl rfl p1 p2 hH (fun b hb h0=>hf b ?_)
  obtain ⟨_,b',e,_,h8,_⟩:=p2 h0
  rw [hb] at e;injection e with e;injection e with e;subst e;rw [h8];show 5000≤_;omega
 ·have q1:=(hg x hx).2.1
  rcases (hV x hx').2 with h | h<;>rw [q1] at h<;>cases h
 ·have:=(hg x hx).2.1.symm.trans (hp x hx').2.1
  injection this with _ h;cases h
 ·have q1:=(hp x hx').2.1
  rcases (hV x hx).2 with h | h<;>rw [q1] at h<;>cases h
 rcases List.mem_append.1 hgm with h | h
 ·rcases List.mem_append.1 h with h | h
  ·exact ⟨(hg g h).1,by rw [(hg g h).2.1];show 5000≤13003;omega⟩
  refine ⟨(hV g h).1,?_⟩
  rcases (hV g h).2 with h | h<;>rw [h]<;>decide
 exact ⟨(hp g h).1,by rw [(hp g h).2.1];show 5000≤97001;omega⟩
def csz (κ:K) (b:Nat):Nat:=match κ.H[b]? with | some (.cells c _ _)=>c.size | _=>0
theorem zqu (hconv:∀ xs,Rep t κ xs l→Rep t' κ' xs l') (hl:l'.length=l.length) (hsz:t'.size=t.size) (V:VG t e κ a c l) (hH:κ'.H=κ.H) (hf:∀ b∈rb (a,l.length,c),csz κ b≤κ'.fr b):Sl t' κ' a c l':=by
 rcases V with h | ⟨b,rfl,h⟩
 ·have:l'=[]:=List.eq_nil_of_length_eq_zero (by rw [hl,h];rfl)
  subst this
  exact ⟨by simp,by simp,fun h0=>by simp at h0⟩
 rcases h.body with ⟨hc,hx⟩ | ⟨g,cur,xs,ha,hr,hHg,h1,h2,h3,h4,h5,h6,h7⟩
 ·have:l'=[]:=List.eq_nil_of_length_eq_zero (by rw [hl,hx];rfl)
  subst this
  exact ⟨by simp,by simp,fun h0=>by simp at h0⟩
 injection ha with ha;injection ha with ha
 subst ha
 refine ⟨by rw [hl];exact h1,by have:=h.most;rw [hl];unfold maxLen at this;omega,fun _=>⟨b,0,rfl,fun i x hx=>?_⟩⟩
 obtain ⟨cs,ho,hcs⟩:=(hconv xs hr).get hx
 have hil:=(List.getElem?_eq_some_iff.1 hx).1
 have hle:(i+1)*t'.size≤cur.size:=by
   rw [h3,hsz];exact Nat.mul_le_mul_right _ (by omega)
 have hcl:=t'.len ho
 refine ⟨cs,⟨by rw [hH];exact (Array.getElem?_eq_some_iff.1 hHg).1,?_,fun j v hj=>?_⟩,ho⟩
 ·have hpos:0<l.length:=by omega
  refine Nat.le_trans ?_ (hf b (by rw [zlN hpos];exact zhO (a:=⟨b,0,none⟩) (by omega)))
  have hcz:csz κ b=cur.size:=by unfold csz;rw [hHg]
  rw [hcz]
  rw [hcl,Nat.zero_add]
  have:(i+1)*t'.size=i*t'.size+t'.size:=Nat.succ_mul _ _
  omega
 unfold K.cell;rw [hH,hHg]
 simp only [Nat.zero_add]
 have hj2:=(List.getElem?_eq_some_iff.1 hj).1
 rw [←hcs,List.getElem?_take] at hj
 split at hj
 ·rw [List.getElem?_drop,←h4,List.getElem?_take] at hj
  split at hj
  ·simpa using hj
  cases hj
 cases hj
theorem zqy:∀ {L:TL} {Hs:List Hd} {xs:List Value},Hs.length=L.length→(∀ (i:Nat) (x:BS×LI) (hd:Hd),L[i]?=some x→Hs[i]?=some hd→hd.2.1=x.2.length∧Sl tI64 κ' hd.1 hd.2.2 x.2)→
    Rep tTH κ xs (zipH L Hs)→Rep zQ κ' xs L
  | [],_,xs,_,_,h=>h
  | _::_,[],xs,hl,_,h=>by simp at hl
  | x::L,hd::Hs,xs,hl,hh,h=>by
    obtain ⟨cs,xs',e,⟨c1,c2,h1,h2,h3⟩,hr⟩:=h
    have h0:=hh 0 x hd rfl rfl
    refine ⟨cs,xs',e,⟨c1,c2,h1,h2,hd.1,hd.2.2,?_,h0.2⟩,zqy (by simpa using hl) (fun i y hd' hy hd2=>hh (i+1) y hd' (by simpa using hy) (by simpa using hd2)) hr⟩
    have h3':c2=[sl hd.1 hd.2.1 hd.2.2]:=h3
    rw [h3',h0.1]
theorem zt3 {a1 a4 a7:OA} {c2 c5 c8:Nat} {r:(List (BS×Int)×TL)×LP×Int} {Hs:List Hd} (V:SV κ a1 c2 a4 c5 a7 c8 r Hs) (hH:κ'.H=κ.H) (hf:∀ b∈fS a1 c2 a4 c5 a7 c8 r Hs,csz κ b≤κ'.fr b) :
 Sl tGlue κ' a1 c2 r.1.1∧Sl zQ κ' a4 c5 r.1.2∧Sl tPlaced κ' a7 c8 r.2.1:=by
 refine ⟨zqu (fun xs hr=>hr.flat zl0) rfl rfl V.g hH fun b hb=>hf b ?_,zqu (t:=tTH) (fun xs hr=>zqy V.t.len (fun i x hd hx hd2=>⟨(V.t.row i x hd hx hd2).1,zqu (fun xs hr=>hr.flat zhL) rfl rfl (V.t.row i x hd hx hd2).2 hH fun b hb=>hf b ?_⟩) hr) (zij V.t.len).symm rfl V.t.out hH fun b hb=>hf b ?_,zqu (fun xs hr=>hr.flat zjT) rfl rfl V.p hH fun b hb=>hf b ?_⟩
 ·exact List.mem_append_left _ (List.mem_append_left _ hb)
 ·rw [←(V.t.row i x hd hx hd2).1] at hb
  exact List.mem_append_left _ (List.mem_append_right _ (List.mem_append_right _ (List.mem_flatMap.2 ⟨hd,List.mem_of_getElem? hd2,hb⟩)))
 ·rw [zij V.t.len] at hb
  exact List.mem_append_left _ (List.mem_append_right _ (List.mem_append_left _ hb))
 exact List.mem_append_right _ hb
def TF {α:Type} (t:Ty α):Prop:=∀ κ κ' cs x,κ'.H=κ.H→κ'.fr=κ.fr→t.own κ cs x→t.own κ' cs x
theorem FlatT.tf (h:FlatT t):TF t:=fun _ _ _ _ _ _=>h _ _ _ _
theorem zqt (F:TF t) (hH:κ'.H=κ.H) (hf:κ'.fr=κ.fr) (S:Sl t κ a c l):Sl t κ' a c l:=by
 refine ⟨S.cap,S.most,fun h0=>?_⟩
 obtain ⟨b,o,ea,he⟩:=S.elems h0
 refine ⟨b,o,ea,fun i x hx=>?_⟩
 obtain ⟨cs,hp,ho⟩:=he i x hx
 refine ⟨cs,⟨by rw [hH];exact hp.1,by rw [hf];exact hp.2.1,fun j v hj=>?_⟩,F _ _ _ _ hH hf ho⟩
 have:=hp.2.2 j v hj
 unfold K.cell at this ⊢
 rw [hH];exact this
theorem zt2 (F:TF t):TF (tSl t):=fun κ κ' cs x hH hf ⟨a,c,h,S⟩=>⟨a,c,h,zqt F hH hf S⟩
theorem zsJ {u:Ty β} (h1:TF t) (h2:TF u):TF (zhe t u):=fun _ _ _ _ hH hf ⟨c1,c2,h,o1,o2⟩=>⟨c1,c2,h,h1 _ _ _ _ hH hf o1,h2 _ _ _ _ hH hf o2⟩
theorem zsI:TF zQ:=zsJ zpm.tf (zt2 zhL.tf)
end
abbrev zuk:=(List (BS×Int)×TL)×LP×Int
theorem laws_FnExactReadSystem_ok {κ:K} {p0:BS} (hle:p0.length≤1048576) (G0:Glob κ) (hT:∀ b,(κ.tag b).2<5000) {w:zuk×Int×Int} {m:Int×zuk} (hspec:ze8 p0=some w) (himpl:zfg p0=some w)
 (heq:zgJ w.1 w.1=some true) (hmk:zfb w.1 1=some m) (hheld:zfc m.2 1=some m.1) (hm0:0≤m.1) :
 Fn Tryz.prog 3 #[strV p0] κ (fun v κ'=>Step [] κ κ'∧v=.bool true):=by
 have hb1:p0.length≤9223372036854775807:=by omega
 refine fnc 82 [] Tryz.func3 Tryz.ntmps3 fun hs=>csr (op 2 (.bool false) (ot (cs (csr (op 14 (strV p0) (op 15 (iv (p0.length:Int)) (op 16 (.bool (decide ((p0.length:Int)>1048576))) ?_)))))))
 rw [show decide ((p0.length:Int)>1048576)=false from decide_eq_false (by omega)]
 refine ot (cf (ckt (csr (op 18 (strV p0) (ocl 19 (zkx hb1 hspec) ?_)))))
 rintro _ κ15 ⟨s16,a3,c4,a6,c7,a9,c10,rfl,f5,f8,f11,hb12,hb13,hb14⟩
 replace hs:=hs.tr0 s16
 refine op 17 (.tuple #[.agg #[sl a3 w.1.1.1.length c4,sl a6 w.1.1.2.length c7,sl a9 w.1.2.1.length c10,iv w.1.2.2],iv w.2.1,iv w.2.2]) (op 20 (.agg #[sl a3 w.1.1.1.length c4,sl a6 w.1.1.2.length c7,sl a9 w.1.2.1.length c10,iv w.1.2.2]) (op 21 (iv w.2.1) (op 22 (iv w.2.2) (zz (d:=3) (T:=30) (κ.H.size,5) hs.1 [sl none 0 0,sl none 0 0,sl none 0 0,iv 0] kr kr kr fun b17 κ18 s19 B_b17=>?_))))
 replace hs:=hs.tr0 s19
 replace f5:=f5.step s19
 replace f8:=f8.step s19
 replace f11:=f11.step s19
 refine zn (b:=b17) (off:=0) (T:=30) (.agg #[sl a3 w.1.1.1.length c4,sl a6 w.1.1.2.length c7,sl a9 w.1.2.1.length c10,iv w.1.2.2]) [sl a3 w.1.1.1.length c4,sl a6 w.1.1.2.length c7,sl a9 w.1.2.1.length c10,iv w.1.2.2] [sl a3 w.1.1.1.length c4,sl a6 w.1.1.2.length c7,sl a9 w.1.2.1.length c10,iv w.1.2.2] kr kr B_b17 rfl kr kr kr rfl fun κ20 s21 _ NB_b17=>?_
 replace hs:=hs.trB B_b17.ge s21
 replace f5:=f5.step s21
 replace f8:=f8.step s21
 replace f11:=f11.step s21
 replace B_b17:=NB_b17
 refine op 4 (iv w.2.1) (op 5 (iv w.2.2) (otx (op 24 (strV p0) ?_)))
 obtain ⟨κr,hκr⟩:∃ κr:K,κr=⟨κ20.H,κ20.fr,fun b=>if b<κ.H.size then κ20.tag b else (κ.H.size,5)⟩:=⟨_,rfl⟩
 have hH:κr.H=κ20.H:=by rw [hκr]
 have hF:κr.fr=κ20.fr:=by rw [hκr]
 have hTr:∀ b,(κr.tag b).2<5000:=fun b=>by
   rw [hκr]
   show (if b<κ.H.size then κ20.tag b else (κ.H.size,5)).2<5000
   split
   · rename_i h;rw [(hs.2.1 b h (by simp)).2.2];exact hT b
   · show 5<5000;omega
 have hsr:Step [] κ κr:=by
   refine ⟨by rw [hH];exact hs.1,fun b hb hn=>?_,fun b hb=>?_,fun b hb hf=>?_⟩
   · have:=hs.2.1 b hb hn
     refine ⟨by rw [hH];exact this.1,by rw [hF];exact this.2.1,?_⟩
     rw [hκr];show (if b<κ.H.size then κ20.tag b else (κ.H.size,5))=_
     rw [if_pos hb];exact this.2.2
   · have:=hs.2.2.1 b hb
     refine ⟨by rw [hF];exact this.1,fun o ho=>?_⟩
     have:=this.2 o ho
     unfold K.cell at this ⊢;rw [hH];exact this
   · have:=hs.2.2.2 b hb hf
     refine ⟨?_,?_⟩
     · rw [hκr];show (if b<κ.H.size then κ20.tag b else (κ.H.size,5))=_
       rw [if_pos hb];exact this.1
     · have:=this.2;unfold K.shp at this ⊢;rw [hH];exact this
 have Br:Box (κ.H.size,5) κr b17 [sl a3 w.1.1.1.length c4,sl a6 w.1.1.2.length c7,sl a9 w.1.2.1.length c10,iv w.1.2.2] 30:=by
   refine ⟨by rw [hH];exact B_b17.obj,by rw [hF];exact B_b17.fr,?_,B_b17.ge⟩
   rw [hκr];show (if b17<κ.H.size then κ20.tag b17 else (κ.H.size,5))=_
   rw [if_neg (by have:=B_b17.ge;simp only at this;omega)]
 have w5:=zqt zl0.tf hH hF f5
 have w8:=zqt zsI hH hF f8
 have w11:=zqt zjT.tf hH hF f11
 refine zfy hH (ocl 25 (zhG hb1 (G0.step hsr) himpl) ?_)
 rintro _ κ35 ⟨hk,a23,c24,a26,c27,a29,c30,rfl,F,hb32,hb33,hb34⟩
 refine op 23 (.tuple #[.agg #[sl a23 w.1.1.1.length c24,sl a26 w.1.1.2.length c27,sl a29 w.1.2.1.length c30,iv w.1.2.2],iv w.2.1,iv w.2.2]) (op 26 (.agg #[sl a23 w.1.1.1.length c24,sl a26 w.1.1.2.length c27,sl a29 w.1.2.1.length c30,iv w.1.2.2]) (op 27 (iv w.2.1) (op 28 (iv w.2.2) (zz (d:=6) (T:=30) (κr.H.size,6) hk.1 [sl none 0 0,sl none 0 0,sl none 0 0,iv 0] kr kr kr fun b37 κ38 s39 B_b37=>?_))))
 replace hk:=hk.tr0 s39
 replace F:=F.step s39
 refine zn (b:=b37) (off:=0) (T:=30) (.agg #[sl a23 w.1.1.1.length c24,sl a26 w.1.1.2.length c27,sl a29 w.1.2.1.length c30,iv w.1.2.2]) [sl a23 w.1.1.1.length c24,sl a26 w.1.1.2.length c27,sl a29 w.1.2.1.length c30,iv w.1.2.2] [sl a23 w.1.1.1.length c24,sl a26 w.1.1.2.length c27,sl a29 w.1.2.1.length c30,iv w.1.2.2] kr kr B_b37 rfl kr kr kr rfl fun κ40 s41 _ NB_b37=>?_
 replace hk:=hk.trB B_b37.ge s41
 replace F:=F.step s41
 replace B_b37:=NB_b37
 refine op 7 (iv w.2.1) (op 8 (iv w.2.2) (ot (cs (csr (oN 29 30 [sl a23 w.1.1.1.length c24,sl a26 w.1.1.2.length c27,sl a29 w.1.2.1.length c30,iv w.1.2.2] (B_b37.at.part 0 4).2 (oN 30 30 [sl a3 w.1.1.1.length c4,sl a6 w.1.1.2.length c7,sl a9 w.1.2.1.length c10,iv w.1.2.2] ((Br.step0 hk).at.part 0 4).2 (ocl 31 (ziz F.g F.t F.p hb32 (w5.step hk) (w8.step hk) (w11.step hk) hb12 heq) ?_)))))))
 rintro _ κ82 ⟨s83,rfl⟩
 replace hk:=hk.tr0 s83
 replace F:=F.step s83
 replace B_b37:=B_b37.step0 s83
 refine op 32 (.bool false) (op 33 (.bool false) (op 34 (iv w.2.1) (op 35 (iv w.2.1) (op 36 (.bool (!decide (w.2.1=w.2.1))) ?_))))
 rw [show (!decide (w.2.1=w.2.1))=false by simp]
 refine op 37 (.bool false) (op 38 (.bool false) (op 39 (iv w.2.2) (op 40 (iv w.2.2) (op 41 (.bool (!decide (w.2.2=w.2.2))) ?_))))
 rw [show (!decide (w.2.2=w.2.2))=false by simp]
 refine op 42 (.bool false) (ot (cf (ckt (csr (op 9 (iv 1) (otx (oN 43 30 [sl a23 w.1.1.1.length c24,sl a26 w.1.1.2.length c27,sl a29 w.1.2.1.length c30,iv w.1.2.2] (B_b37.at.part 0 4).2 (op 44 (iv 1) ?_))))))))
 obtain ⟨κu,hκu⟩:∃ κu:K,κu=⟨κ82.H,fun b=>if b<κr.H.size then κ82.fr b else 0,fun b=>if b<κr.H.size then κ82.tag b else (0,b)⟩:=⟨_,rfl⟩
 have hHu:κu.H=κ82.H:=by rw [hκu]
 have hnew:∀ b,5000≤(κ82.tag b).2→κr.H.size≤b:=fun b hb=>by
   rcases Nat.lt_or_ge b κr.H.size with h | h
   · rw [(hk.2.1 b h (by simp)).2.2] at hb
     have:=hTr b;omega
   · exact h
 have hku:Step [] κr κu:=by
   refine ⟨by rw [hHu];exact hk.1,fun b hb hn=>?_,fun b hb=>?_,fun b hb hf=>?_⟩
   · have:=hk.2.1 b hb hn
     refine ⟨by rw [hHu];exact this.1,?_,?_⟩
     · rw [hκu];show (if b<κr.H.size then κ82.fr b else 0)=_;rw [if_pos hb];exact this.2.1
     · rw [hκu];show (if b<κr.H.size then κ82.tag b else (0,b))=_;rw [if_pos hb];exact this.2.2
   · have:=hk.2.2.1 b hb
     refine ⟨?_,fun o ho=>?_⟩
     · rw [hκu];show _≤(if b<κr.H.size then κ82.fr b else 0);rw [if_pos hb];exact this.1
     · have:=this.2 o ho
       unfold K.cell at this ⊢;rw [hHu];exact this
   · have:=hk.2.2.2 b hb hf
     refine ⟨?_,?_⟩
     · rw [hκu];show (if b<κr.H.size then κ82.tag b else (0,b))=_;rw [if_pos hb];exact this.1
     · have:=this.2;unfold K.shp at this ⊢;rw [hHu];exact this
 obtain ⟨Hs,V,hV⟩:=zt4 F hHu (fun b hb=>by
   have:=hnew b hb
   rw [hκu]
   exact ⟨if_neg (by omega),if_neg (by omega)⟩)
 have A37:At κu b37 0 [sl a23 w.1.1.1.length c24,sl a26 w.1.1.2.length c27,sl a29 w.1.2.1.length c30,iv w.1.2.2]:=by
   have:=B_b37.at
   refine ⟨by rw [hHu];exact this.1,fun j v hj=>?_⟩
   have:=this.2 j v hj
   unfold K.cell at this ⊢;rw [hHu];exact this
 refine zfy hHu (ocl 45 (zkG V hb32 (show I64 1 by unfold I64;omega) hmk) ?_)
 rintro _ κ46 ⟨s47,rfl,hbm,V',l1,l2,l3,l4⟩
 have hfS:∀ g∈fS a23 c24 a26 c27 a29 c30 w.1 Hs,κr.H.size≤g:=fun g hg=>hnew g (hV g hg).2
 replace hku:=hku.trG hfS s47
 replace A37:=A37.step s47 (fun h=>by
   have:=(hV b37 h).2
   rw [B_b37.tag] at this
   have:5000≤6:=this
   omega)
 refine op 9 (iv m.1) (otx (op 10 (iv 1) (otx (oN 46 30 [sl a23 w.1.1.1.length c24,sl a26 w.1.1.2.length c27,sl a29 w.1.2.1.length c30,iv w.1.2.2] (A37.part 0 4).2 (op 47 (iv 1) ?_)))))
 obtain ⟨κp,hκp⟩:∃ κp:K,κp=⟨κ46.H,fun b=>if b<κr.H.size then κ46.fr b else csz κ46 b,κ46.tag⟩:=⟨_,rfl⟩
 have hHp:κp.H=κ46.H:=by rw [hκp]
 replace hk:Step [] κr κp:=by
   refine ⟨by rw [hHp];exact hku.1,fun b hb hn=>?_,fun b hb=>?_,fun b hb hf=>?_⟩
   · have:=hku.2.1 b hb hn
     refine ⟨by rw [hHp];exact this.1,?_,by rw [hκp];exact this.2.2⟩
     rw [hκp];show (if b<κr.H.size then κ46.fr b else csz κ46 b)=_;rw [if_pos hb];exact this.2.1
   · have:=hku.2.2.1 b hb
     refine ⟨?_,fun o ho=>?_⟩
     · rw [hκp];show _≤(if b<κr.H.size then κ46.fr b else csz κ46 b);rw [if_pos hb];exact this.1
     · have:=this.2 o ho
       unfold K.cell at this ⊢;rw [hHp];exact this
   · have:=hku.2.2.2 b hb hf
     refine ⟨by rw [hκp];exact this.1,?_⟩
     have:=this.2;unfold K.shp at this ⊢;rw [hHp];exact this
 have hfS':fS a23 c24 a26 c27 a29 c30 m.2 Hs=fS a23 c24 a26 c27 a29 c30 w.1 Hs:=by unfold fS;rw [l1,l2,l3]
 obtain ⟨f25,f28,f31⟩:=zt3 (κ':=κp) V' hHp (fun b hb=>by
   have:=hfS b (by rw [←hfS'];exact hb)
   rw [hκp];show csz κ46 b≤(if b<κr.H.size then κ46.fr b else csz κ46 b)
   rw [if_neg (by omega)];exact Nat.le_refl _)
 replace A37:At κp b37 0 [sl a23 w.1.1.1.length c24,sl a26 w.1.1.2.length c27,sl a29 w.1.2.1.length c30,iv w.1.2.2]:=by
   refine ⟨by rw [hHp];exact A37.1,fun j v hj=>?_⟩
   have:=A37.2 j v hj
   unfold K.cell at this ⊢;rw [hHp];exact this
 refine zfy hHp ?_
 have hcall:=fun (κ':K) (f25:Sl tGlue κ' a23 c24 m.2.1.1) (f28:Sl zQ κ' a26 c27 m.2.1.2) (f31:Sl tPlaced κ' a29 c30 m.2.2.1)=>zkK f25 f28 f31 (by rw [l4];exact hb32) (show I64 1 by unfold I64;omega) hheld
 rw [l1,l2,l3,l4] at hcall
 refine ocl 48 (hcall κp f25 f28 f31) ?_
 rintro _ κ50 ⟨s51,rfl,hb49⟩
 replace hk:=hk.tr0 s51
 replace f25:=f25.step s51
 replace f28:=f28.step s51
 replace f31:=f31.step s51
 replace A37:=A37.step0 s51
 refine op 10 (iv m.1) (ot (cs (csr (op 49 (iv m.1) (op 50 (.bool (decide (m.1<0))) ?_)))))
 rw [show decide (m.1<0)=false from decide_eq_false (by omega)]
 refine ot (cf (ckt (cs (csr (op 51 (iv m.1) (op 52 (iv m.1) (op 53 (.bool (!decide (m.1=m.1))) ?_)))))))
 rw [show (!decide (m.1=m.1))=false by simp]
 refine ot (cf (ckt (csr (op 55 (strV p0) (ocl 56 (zhG hb1 (G0.step (hsr.tr0 hk)) himpl) ?_)))))
 rintro _ κ65 ⟨s66,a53,c54,a56,c57,a59,c60,rfl,F2,hb62,hb63,hb64⟩
 replace hk:=hk.tr0 s66
 replace f25:=f25.step s66
 replace f28:=f28.step s66
 replace f31:=f31.step s66
 replace A37:=A37.step0 s66
 refine op 54 (.tuple #[.agg #[sl a53 w.1.1.1.length c54,sl a56 w.1.1.2.length c57,sl a59 w.1.2.1.length c60,iv w.1.2.2],iv w.2.1,iv w.2.2]) (op 57 (.agg #[sl a53 w.1.1.1.length c54,sl a56 w.1.1.2.length c57,sl a59 w.1.2.1.length c60,iv w.1.2.2]) (op 58 (iv w.2.1) (op 59 (iv w.2.2) (zz (d:=11) (T:=30) (κ65.H.size,7) (Nat.le_refl _) [sl none 0 0,sl none 0 0,sl none 0 0,iv 0] kr kr kr fun b67 κ68 s69 B_b67=>?_))))
 have hb67:κ65.H.size≤b67:=B_b67.ge
 have h37:=A37.1
 have hkr:=hk.1
 replace hk:=hk.tr0 s69
 replace f25:=f25.step s69
 replace f28:=f28.step s69
 replace f31:=f31.step s69
 replace F2:=F2.step s69
 replace A37:=A37.step0 s69
 refine zn (b:=b67) (off:=0) (T:=30) (.agg #[sl a53 w.1.1.1.length c54,sl a56 w.1.1.2.length c57,sl a59 w.1.2.1.length c60,iv w.1.2.2]) [sl a53 w.1.1.1.length c54,sl a56 w.1.1.2.length c57,sl a59 w.1.2.1.length c60,iv w.1.2.2] [sl a53 w.1.1.1.length c54,sl a56 w.1.1.2.length c57,sl a59 w.1.2.1.length c60,iv w.1.2.2] kr kr B_b67 rfl kr kr kr rfl fun κ70 s71 _ NB_b67=>?_
 replace hk:=hk.trB (by omega) s71
 replace f25:=f25.step s71
 replace f28:=f28.step s71
 replace f31:=f31.step s71
 replace F2:=F2.step s71
 replace A37:=A37.step s71 (fun h=>by have:b37=b67:=(by simpa using h);omega)
 replace B_b67:=NB_b67
 refine op 12 (iv w.2.1) (op 13 (iv w.2.2) (ot (cs (csr (oN 60 30 [sl a53 w.1.1.1.length c54,sl a56 w.1.1.2.length c57,sl a59 w.1.2.1.length c60,iv w.1.2.2] (B_b67.at.part 0 4).2 (oN 61 30 [sl a3 w.1.1.1.length c4,sl a6 w.1.1.2.length c7,sl a9 w.1.2.1.length c10,iv w.1.2.2] ((Br.step0 hk).at.part 0 4).2 (ocl 62 (ziz F2.g F2.t F2.p hb62 (w5.step hk) (w8.step hk) (w11.step hk) hb12 heq) ?_)))))))
 rintro _ κ79 ⟨s80,rfl⟩
 replace hk:=hk.tr0 s80
 replace f25:=f25.step s80
 replace f28:=f28.step s80
 replace f31:=f31.step s80
 replace A37:=A37.step0 s80
 refine op 63 (.bool false) (op 64 (.bool false) (op 65 (iv w.2.1) (op 66 (iv w.2.1) (op 67 (.bool (!decide (w.2.1=w.2.1))) ?_))))
 rw [show (!decide (w.2.1=w.2.1))=false by simp]
 refine op 68 (.bool false) (op 69 (.bool false) (op 70 (iv w.2.2) (op 71 (iv w.2.2) (op 72 (.bool (!decide (w.2.2=w.2.2))) ?_))))
 rw [show (!decide (w.2.2=w.2.2))=false by simp]
 refine op 73 (.bool false) (ot (cf (ckt (csr (op 10 (iv 1) (otx (oN 74 30 [sl a23 w.1.1.1.length c24,sl a26 w.1.1.2.length c27,sl a29 w.1.2.1.length c30,iv w.1.2.2] (A37.part 0 4).2 (op 75 (iv 1) (ocl 76 (hcall _ f25 f28 f31) ?_)))))))))
 rintro _ κ76 ⟨s77,rfl,hb75⟩
 replace hk:=hk.tr0 s77
 refine op 10 (iv m.1) (ot (cs (csr (op 77 (iv m.1) (op 78 (.bool (decide (m.1<0))) ?_)))))
 rw [show decide (m.1<0)=false from decide_eq_false (by omega)]
 refine ot (cf (ckt (cs (csr (op 79 (iv m.1) (op 80 (iv m.1) (op 81 (.bool (!decide (m.1=m.1))) ?_)))))))
 rw [show (!decide (m.1=m.1))=false by simp]
 refine ot (cf (ckt (csr (op 2 (.bool true) (ot (crt (rt [.tmp 2] [.bool true] ⟨rfl,trivial⟩ ?_)))))))
 exact ⟨hsr.tr0 hk,rfl⟩
end Go.Lf
