import Derived.Test.YtinhknndegdcfaaGreatDoorM
import Derived.Test.YtinhknndegdcfaaGreatDoorK
import Derived.Test.YtinhknndegdcfaaGreatDoorH
set_option linter.all false
set_option maxRecDepth 100000
set_option maxHeartbeats 4000000
namespace Go.Lf
open Go Go.Proofs
def tTH:Ty (BS×Hd):=tPair tStr tH
def mT:Nat→Type
 | 0=>BS×Int | 1=>Int | 2=>(Int×Int)×Int | 3=>Int×(Int×Int)×Int | 4=>BS×Hd | 5=>Hd | _=>Int
def mt:∀ i,Ty (mT i)
 | 0=>tGlue | 1=>tI64 | 2=>tPlaced | 3=>tMishap | 4=>tTH | 5=>tH | _+6=>tU8
def me:Nat→Nat
 | 0=>169 | 1=>2 | 2=>99 | 3=>75 | 4=>161 | 5=>149 | n+6=>1000+n
def mh:∀ i,mT i→List (Nat×Hd)
 | 4,x=>[(1,x.2)] | 5,x=>[(1,x)] | 0,_ | 1,_ | 2,_ | 3,_ | _+6,_=>[]
def mi (n:Nat):Nat:=if n=169 then 0 else if n=2 then 1 else if n=99 then 2 else if n=75 then 3 else if n=161 then 4 else if n=149 then 5 else n - 994
theorem zyO (i:Nat):mi (me i)=i:=by
 rcases i with _ | _ | _ | _ | _ | _ | i
 case succ.succ.succ.succ.succ.succ=>
   show mi (1000+i)=i+6;unfold mi
   repeat rw [if_neg (by omega)]
   omega
 all_goals rfl
def mF:Fam:=⟨mT,mt,me,mh,fun i j h=>by rw [←zyO i,h,zyO j],by
 intro i;rcases i with _ | _ | _ | _ | _ | _ | i<;>exact fx kr⟩
theorem zsV {N c b:Nat} {κ:K} {cs:List Value} {T:TypeId} {τ:Tag} (B:Box (N,c) κ b cs T) (h:τ.2<1000) (hc:Nat.ble 1000 c=true:=by kernel_rfl):b∉tk τ κ:=fun hb=>by
  have a:=(zcT.1 hb).2.1;rw [B.tag] at a;rw [←a] at h;have:=fx hc;simp only at h;omega
section
variable {κ:K} {τ:Tag} {a:Option Addr} {n:Nat} {k:Int}
theorem zt2 (h:WL mF 0 τ κ a n) (ht:τ.1<κ.H.size) (hn:n≤1048576) (hk:1≤k) (c:k≤3298534883328) :
    Fn Tryz.prog 78 #[sl a n n,.int .i64 k] κ (fun v b=>Step (tk τ κ) κ b∧Pr mF τ κ b∧∃ k':Int,v=.int .i64 k'∧k≤k'∧k'≤k+2097152):=
  (zvo (F:=mF) (i:=0) (m:=2) zio (fun g ht hk _ d=>zpe g ht hk d) zta (fun _=>rfl) (by decide) h ht hn hk c).mono fun v b ⟨s,hv,p⟩=>⟨s,p,_,hv,by omega,by omega⟩
theorem ztc (h:WL mF 1 τ κ a n) (ht:τ.1<κ.H.size) (hn:n≤1048576) (hk:1≤k) (c:k≤3298534883328) :
    Fn Tryz.prog 122 #[sl a n n,.int .i64 k] κ (fun v b=>Step (tk τ κ) κ b∧Pr mF τ κ b∧∃ k':Int,v=.int .i64 k'∧k≤k'∧k'≤k+1048576):=
  (zvo (F:=mF) (i:=1) (m:=1) zhk (fun g ht hk _ d=>zou g ht hk d) zt0 (fun _=>rfl) (by decide) h ht hn hk c).mono fun v b ⟨s,hv,p⟩=>⟨s,p,_,hv,by omega,by omega⟩
theorem zr7 (h:WL mF 2 τ κ a n) (ht:τ.1<κ.H.size) (hn:n≤1048576) (hk:1≤k) (c:k≤3298534883328) :
    Fn Tryz.prog 41 #[sl a n n,.int .i64 k] κ (fun v b=>Step (tk τ κ) κ b∧Pr mF τ κ b∧∃ k':Int,v=.int .i64 k'∧k≤k'∧k'≤k+3145728):=
  (zvo (F:=mF) (i:=2) (m:=3) zgA (fun g ht hk _ d=>zoc g ht hk d) zr5 (fun _=>rfl) (by decide) h ht hn hk c).mono fun v b ⟨s,hv,p⟩=>⟨s,p,_,hv,by omega,by omega⟩
theorem zr8 (h:WL mF 3 τ κ a n) (ht:τ.1<κ.H.size) (hn:n≤1048576) (hk:1≤k) (c:k≤3298534883328) :
    Fn Tryz.prog 18 #[sl a n n,.int .i64 k] κ (fun v b=>Step (tk τ κ) κ b∧Pr mF τ κ b∧∃ k':Int,v=.int .i64 k'∧k≤k'∧k'≤k+4194304):=
  (zvo (F:=mF) (i:=3) (m:=4) zfC (fun g ht hk _ d=>znp g ht hk d) zrr (fun _=>rfl) (by decide) h ht hn hk c).mono fun v b ⟨s,hv,p⟩=>⟨s,p,_,hv,by omega,by omega⟩
theorem zt1 (h:WK mF 4 τ κ a n) (ht:τ.1<κ.H.size) (hn:n≤1048576) (hk:1≤k) (V:k≤2199023255552) :
 Fn Tryz.prog 79 #[sl a n n,.int .i64 k] κ (fun v d=>Step (tk τ κ) κ d∧Pr mF τ κ d∧∃ k':Int,v=.int .i64 k'∧k≤k'∧k'≤k+1099512676352):=by
 refine fnc 28 (tk τ κ) Tryz.func79 Tryz.ntmps79 fun hs=>csr (op 4 (.int .i64 0) (ot (cs (csr (op 5 (.int .i64 0) (ot (cb 0 (zkj (fun m E d=>∃ (i:Nat) (k':Int),m=n - i∧i≤n∧(∃ A,E=ups A [(0,sl a n n),(1,.int .i64 k'),(5,.int .i64 (i:Int))])∧Step (tk τ κ) κ d∧Pr mF τ κ d∧k≤k'∧k'≤k+i*1048577) kr n ⟨0,k,rfl,Nat.zero_le _,⟨_,eY⟩,hs,Pr.refl,Int.le_refl _,by omega⟩ ?_))))))));rintro m _ X ⟨i,k',rfl,hi,⟨A,rfl⟩,hs,pr,B,Y⟩;refine cs (csr (ou 6 [.int .i64 (i:Int),sl a n n,.int .i64 (n:Int),.bool (decide ((i:Int)<(n:Int)))] (ot ?_)));by_cases hc:(i:Int)<(n:Int)
 ·rw [show decide ((i:Int)<(n:Int))=true from decide_eq_true hc];refine ct (ckt (cs (cb 1 ?_)));have hik:(i:Int)*1048577≤1048576*1048577:=Int.mul_le_mul_of_nonneg_right (by omega) (by decide);refine csr (ou 12 [sl a n n,.int .i64 (i:Int),.int .i64 k'] ?_);obtain ⟨t,ht'⟩:=zrs (k:=k') (by omega) (by omega);refine oC hs (zl5 (show I64 k' by unfold I64;omega) ht') ?_;rintro κ2 L hs _ ⟨rfl,hbt⟩;replace pr:=pr.trans (Pr.step0 L);obtain ⟨l,hl,G,hh⟩:∃ l:List (BS×Hd),l.length=n∧Gr tTH false τ κ2 161 a n l∧∀ x∈l,Hc mF τ κ2 (1,x.2):=by
    obtain ⟨l,M,N,O⟩:=((pr 4 a n).2 h).gr;exact ⟨l,M,N,fun x hx=>O x hx _ (fg.2 rfl)⟩
  have hil:i<l.length:=by omega
  obtain ⟨⟨nm,ha,c,C⟩,hxg⟩:∃ x,l[i]?=some x:=⟨_,cq hil⟩;have hxi:idx l (i:Int)=some (nm,ha,c,C):=zr hxg;obtain ⟨j,c2,r⟩:=hh _ (fd hxg);simp only at j c2 r;replace j:=j.symm;subst j;obtain ⟨b,eab,s,P,Z,hAt,hown⟩:=G.idx hxi;refine oi 16 39 161 2 n n .i64 (i:Int) (off:=0) eab s hc (op 17 (.pointer (some ⟨b,0+(i:Int).toNat*2,none⟩)) (zdz (T:=9) (t:=tTH) (τ:=τ) (e:=161) (ix:=(i:Int)) (x':=(t,ha,c,c)) (b:=b) (δ:=0) (cp:=n) (l:=l) (vs:=[zw t]) (zw t) kr kr eab G s P kr kr kr kr (fun cs hx=>by obtain ⟨y,D,ho⟩:=hx;obtain rfl:=sj (D.symm.trans hxi);obtain ⟨_,_,rfl,⟨rfl,_⟩,rfl⟩:=ho;exact ⟨_,_,rfl,⟨rfl,hbt⟩,rfl⟩) fun q H I=>?_));replace hs:=hs.trM (M':=blk a n) (fun g Q=>zmh hs g (zxF (F:=mF) (i:=4) G g Q)) H;have p3:Pr mF τ κ2 q:=Pr.write (F:=mF) (i:=4) G H I (Eq.trans ee hl) (fun x hx y hy=>by
    obtain rfl:=fg.1 hy;rcases List.mem_or_eq_of_mem_set hx with hx | rfl
    · exact hh x hx
    · exact ⟨rfl,c2,r⟩)
  replace pr:=pr.trans p3;refine otx (ou 18 [.int .i64 k',.int .i64 (w64 (k'+1))] ?_);rw [show w64 (k'+1)=k'+1 from zas ⟨by omega,by omega⟩];refine op 1 (.int .i64 (k'+1)) (otr (ou 20 [sl a n n,.int .i64 (i:Int)] (oi 22 39 161 2 n n .i64 (i:Int) (off:=0) eab s hc (op 23 (.pointer (some ⟨b,0+(i:Int).toNat*2+1,none⟩)) ?_))));have u:idx (l.set (i:Int).toNat (t,ha,c,c)) (i:Int)=some (t,ha,c,c):=zr (by simp [hil]);obtain ⟨R,w,_,_,a0,f,p⟩:=I.idx u;obtain rfl:b=R:=by have:=eab.symm.trans w;injection this with this;injection this
  obtain ⟨_,_,rfl,⟨rfl,_⟩,rfl⟩:=p;replace f:At q b (0+(i:Int).toNat*2) [zw t,sl ha c c]:=f;refine oV f 1 (op 25 (.int .i64 (k'+1)) (ocl 26 (ztc (k:=k'+1) ((p3 1 ha c).1 r) (gc ht hs.1) c2 (by omega) (by omega)) ?_));rintro _ a1 ⟨S,U,J,rfl,a2,a3⟩;replace hs:=hs.trM (zmh hs) S;replace pr:=pr.trans U;refine op 1 (.int .i64 J) (oe (zc (zb (cr (ou 10 [.int .i64 (i:Int),.int .i64 (w64 ((i:Int)+1))] ?_)))));rw [show w64 ((i:Int)+1)=((i+1:Nat):Int) from zas ⟨by omega,by omega⟩];refine op 5 (.int .i64 ((i+1:Nat):Int)) (oe ?_);exact ⟨n - (i+1),by omega,i+1,J,rfl,by omega,⟨_,eY⟩,hs,pr,by omega,by omega⟩
 rw [show decide ((i:Int)<(n:Int))=false from decide_eq_false hc];refine cf (cx 0 (zg ?_));show zb9 0 _ (.exit 0) _ _;refine zf (zb (csr (op 27 (.int .i64 k') (op 4 (.int .i64 k') (ot (crt (rt [.tmp 4] [.int .i64 k'] ⟨kr,trivial⟩ ?_)))))));have:(i:Int)*1048577≤1048576*1048577:=Int.mul_le_mul_of_nonneg_right (by omega) (by decide);exact ⟨hs,pr,k',rfl,B,by omega⟩
end
theorem zr6 {κ:K} {τ:Tag} {k:Int} {ag at_:OA} {ng nt:Nat} (e:WL mF 0 τ κ ag ng) (hgn:ng≤1048576) (hT:WK mF 4 τ κ at_ nt) (htn:nt≤1048576) (ht:τ.1<κ.H.size) (c:τ.2<1000) (hk:1≤k) (g:k≤1000000) :
 Fn Tryz.prog 40 #[.agg #[sl ag ng ng,sl at_ nt nt],.int .i64 k] κ (fun v a=>Step (tk τ κ) κ a∧Pr mF τ κ a∧∃ k':Int,v=.int .i64 k'∧k≤k'∧k'≤k+1099515822080):=by
 refine fnc 14 (tk τ κ) Tryz.func40 Tryz.ntmps40 fun hs=>?_;have pr:Pr mF τ κ κ:=Pr.refl;refine csr (oB 41 40001 [sl ag ng ng,sl at_ nt nt] hs fun b h hs s0 B=>?_);replace pr:=pr.trans (Pr.step0 s0);refine op 4 (.int .i64 0) (otx (op 5 (.pointer (some ⟨b,0,none⟩)) (oV B.at 0 (op 7 (.int .i64 k) (ocl 8 (zt2 (k:=k) ((pr _ _ _).1 e) (gc ht hs.1) hgn (by omega) (by omega)) ?_)))));rintro _ j ⟨d,p1,k1,rfl,m,n⟩;replace hs:=hs.trM (zmh hs) d;replace pr:=pr.trans p1;replace B:=B.step d (zsV B c);refine op 1 (.int .i64 k1) (otx (op 9 (.pointer (some ⟨b,1,none⟩)) (oV B.at 1 (op 11 (.int .i64 k1) (ocl 12 (zt1 (k:=k1) ((pr _ _ _).2 hT) (gc ht hs.1) htn (by omega) (by omega)) ?_)))));rintro _ κ2 ⟨f,p2,k2,rfl,p,q⟩;replace hs:=hs.trM (zmh hs) f;replace pr:=pr.trans p2;exact op 1 (.int .i64 k2) (otx (op 13 (.int .i64 k2) (op 4 (.int .i64 k2) (ot (crt (rT 4 (.int .i64 k2) ⟨hs,pr,_,rfl,by omega,by omega⟩))))))
theorem znl {κ:K} {τ:Tag} {k:Int} {ap:OA} {np:Nat} (hp:WL mF 2 τ κ ap np) (hpn:np≤1048576) (ht:τ.1<κ.H.size) (d:τ.2<1000) (hk:1≤k) (e:k≤3298534883328) :
 Fn Tryz.prog 17 #[.agg #[sl ap np np],.int .i64 k] κ (fun v a=>Step (tk τ κ) κ a∧Pr mF τ κ a∧∃ k':Int,v=.int .i64 k'∧k≤k'∧k'≤k+3145728):=by
 refine fnc 10 (tk τ κ) Tryz.func17 Tryz.ntmps17 fun hs=>?_;have pr:Pr mF τ κ κ:=Pr.refl;refine csr (oB 44 17001 [sl ap np np] hs fun b f hs s0 B=>?_);replace pr:=pr.trans (Pr.step0 s0);refine op 4 (.int .i64 0) (otx (op 5 (.pointer (some ⟨b,0,none⟩)) (oV B.at 0 (op 7 (.int .i64 k) (ocl 8 (zr7 (k:=k) ((pr _ _ _).1 hp) (gc ht hs.1) hpn (by omega) (by omega)) ?_)))));rintro _ g ⟨c,p1,k1,rfl,h,j⟩;replace hs:=hs.trM (zmh hs) c;replace pr:=pr.trans p1;exact op 1 (.int .i64 k1) (otx (op 9 (.int .i64 k1) (op 4 (.int .i64 k1) (ot (crt (rT 4 (.int .i64 k1) ⟨hs,pr,_,rfl,by omega,by omega⟩))))))
theorem ztb {κ:K} {τ:Tag} {k:Int} {ag at_ ap:OA} {ng nt np:Nat} {z:Int} (e:WL mF 0 τ κ ag ng) (hgn:ng≤1048576) (hT:WK mF 4 τ κ at_ nt) (htn:nt≤1048576) (hp:WL mF 2 τ κ ap np) (hpn:np≤1048576) (ht:τ.1<κ.H.size) (a:τ.2<1000) (hk:1≤k) (g:k≤1000000) :
 Fn Tryz.prog 16 #[.agg #[sl ag ng ng,sl at_ nt nt,sl ap np np,.int .i64 z],.int .i64 k] κ (fun v c=>Step (tk τ κ) κ c∧Pr mF τ κ c∧∃ k':Int,v=.int .i64 k'∧k≤k'∧k'≤k+1099518967808):=by
 refine fnc 14 (tk τ κ) Tryz.func16 Tryz.ntmps16 fun hs=>?_;have pr:Pr mF τ κ κ:=Pr.refl;refine csr (oB 46 16001 [sl ag ng ng,sl at_ nt nt,sl ap np np,.int .i64 z] hs fun b h hs s0 B=>?_);replace pr:=pr.trans (Pr.step0 s0);refine op 4 (.int .i64 0) (otx (op 5 (.pointer (some ⟨b,0,none⟩)) (oL B.at 0 2 (op 7 (.int .i64 k) (ocl 8 (zr6 (k:=k) ((pr _ _ _).1 e) hgn ((pr _ _ _).2 hT) htn (gc ht hs.1) a (by omega) (by omega)) ?_)))));rintro _ j ⟨d,p1,k1,rfl,m,n⟩;replace hs:=hs.trM (zmh hs) d;replace pr:=pr.trans p1;replace B:=B.step d (zsV B a);refine op 1 (.int .i64 k1) (otx (op 9 (.pointer (some ⟨b,2,none⟩)) (oL B.at 2 1 (op 11 (.int .i64 k1) (ocl 12 (znl (k:=k1) ((pr _ _ _).1 hp) hpn (gc ht hs.1) a (by omega) (by omega)) ?_)))));rintro _ κ2 ⟨f,p2,k2,rfl,p,q⟩;replace hs:=hs.trM (zmh hs) f;replace pr:=pr.trans p2;exact op 1 (.int .i64 k2) (otx (op 13 (.int .i64 k2) (op 4 (.int .i64 k2) (ot (crt (rT 4 (.int .i64 k2) ⟨hs,pr,_,rfl,by omega,by omega⟩))))))
def zmg {α:Type} (t:Ty α):Prop:=∀ κ κ' cs x,t.own κ cs x→t.own κ' cs x
theorem zf5:zmg tI64:=fun _ _ _ _ h=>h
theorem zxr:zmg tStr:=fun _ _ _ _ h=>h
theorem zi8 {α β:Type} {a:Ty α} {b:Ty β} (c:zmg a) (d:zmg b):zmg (tPair a b):=fun _ _ _ _ ⟨e,c2,h,o1,o2⟩=>⟨e,c2,h,c _ _ _ _ o1,d _ _ _ _ o2⟩
theorem zwe:zmg tGlue:=zi8 zxr zf5
theorem zub:zmg tMishap:=zi8 zf5 (zi8 (zi8 zf5 zf5) zf5)
theorem zrJ:zmg tPoint:=zi8 zf5 zf5
theorem zqn:zmg tPlaced:=zi8 (zi8 zf5 zf5) zf5
section
variable {α:Type} {t:Ty α} {κ κ1 κ' κr κ0:K} {a:Option Addr} {c n:Nat} {l:List α} {e:TypeId} {τ:Tag} {pub:Bool}
theorem Rep.flat (F:zmg t):∀ {l:List α} {xs:List Value},Rep t κ xs l→Rep t κ' xs l
 | [],_,h=>h
 | _::_,_,⟨c,xs',h,ho,b⟩=>⟨c,xs',h,F _ _ _ _ ho,Rep.flat F b⟩
theorem Sl.gh (F:zmg t) (d:κ'.H=κ.H) (f:κ'.fr=κ.fr) (h:Sl t κ a c l):Sl t κ' a c l:=
 ⟨h.cap,h.most,fun g=>by
  obtain ⟨b,off,ha,he⟩:=h.elems g;refine ⟨b,off,ha,fun i x hx=>?_⟩;obtain ⟨cs,hp,ho⟩:=he i x hx;refine ⟨cs,⟨by rw [d];exact hp.1,by rw [f];exact hp.2.1,fun j v hv=>?_⟩,F _ _ _ _ ho⟩;have:=hp.2.2 j v hv;unfold K.cell at this ⊢;rw [d];exact this⟩
theorem Gr.gh (F:zmg t) (d:κ'.H=κ.H) (f:∀ b∈blk a c,κ'.fr b=κ.fr b∧κ'.tag b=κ.tag b) (h:Gr t pub τ κ e a c l):Gr t pub τ κ' e a c l:=by
 refine ⟨h.most,?_⟩;rcases h.body with h | ⟨g,cur,xs,ha,j,hH,k1,k2,k,m,p,q,r⟩
 ·exact .inl h
 ·by_cases hc:c=0
  ·exact .inl ⟨hc,bp (by omega)⟩
  ·have hb:=f g (by rw [ha];exact zi9 (a:=⟨g,0,none⟩) (by omega));exact .inr ⟨g,cur,xs,ha,j.flat F,by rw [d];exact hH,k1,k2,k,m,hb.1.trans p,hb.2.trans q,r⟩
theorem Box.gh {b:Nat} {cs:List Value} {T:TypeId} (f:κ'.H=κ.H) (d:κ'.fr b=κ.fr b∧κ'.tag b=κ.tag b) (h:Box τ κ b cs T):Box τ κ' b cs T:=
 ⟨by rw [f];exact h.obj,d.1.trans h.fr,d.2.trans h.tag,h.ge⟩
theorem zuH (hs:Step [] κ κ1) (hT:∀ b,(κ.tag b).2<5000) :
  ∃ κr:K,κr.H=κ1.H∧κr.fr=κ1.fr∧(∀ b,(κr.tag b).2<5000)∧Step [] κ κr∧∀ b,(κ1.tag b).2<5000→κr.tag b=κ1.tag b:=by
 refine ⟨⟨κ1.H,κ1.fr,fun b=>if (κ1.tag b).2<5000 then κ1.tag b else (0,5)⟩,rfl,rfl,fun b=>?_,⟨hs.1,fun b hb hn=>?_,fun b hb=>?_,fun b hb hf=>?_⟩,fun b hb=>if_pos hb⟩
 ·show (if (κ1.tag b).2<5000 then κ1.tag b else (0,5)).2<5000;split
  ·assumption
  ·decide
 ·have:=hs.2.1 b hb hn;exact ⟨this.1,this.2.1,(if_pos (by rw [this.2.2];exact hT b)).trans this.2.2⟩
 ·exact hs.2.2.1 b hb
 ·have:=hs.2.2.2 b hb hf;exact ⟨(if_pos (by rw [this.1];exact hT b)).trans this.1,this.2⟩
def Hf (κ0 κu:K) (τ:Tag):Prop:=∀ b,b<κ0.H.size→5000≤(κ0.tag b).2→κu.fr b=0∧κu.tag b=τ∧τ.1≤b
theorem zoJ {F:Fam} {i S:Nat} {κu:K} {x:List (F.T i)} (hfl:zmg (F.t i)) (d:∀ y,F.hd i y=[]) (h:SlW (F.t i) (F.e i) S κ0 a c x) (s:Step [] κ0 κ1) (hH:κu.H=κ1.H) (hf:Hf κ0 κu τ) (hS:5000≤S):WL F i τ κu a x.length:=
 (zyE (i:=i) (fun xs f=>⟨x,rfl,f.flat hfl,fun z _ y hy=>by rw [d] at hy;cases hy⟩) rfl h s hH (fun b hb e=>hf b hb (by rw [e];exact hS))).wl
end
section
variable {κ0 κ1 κu:K} {τ:Tag} {a:Option Addr} {c S:Nat}
theorem zy8 {x:List Int} {cs:List Value} (h:zyG.own κ0 cs x) (hl:x.length≤1048576) (s:Step [] κ0 κ1) (hH:κu.H=κ1.H) (hf:Hf κ0 κu τ):∃ hd:Hd,cs=[.slice hd.1 hd.2.1 hd.2.2]∧Hc mF τ κu (1,hd):=by
 obtain ⟨a,c,rfl,hw⟩:=h;exact ⟨(a,x.length,c),rfl,hw.2.2,hl,zoJ (F:=mF) (i:=1) zf5 (fun _=>rfl) hw s hH hf (by decide)⟩
theorem zwp {x:List (List UInt8×List Int)} (h:SlW zlu 161 S κ0 a c x) (hl:∀ y∈x,y.2.length≤1048576) (s:Step [] κ0 κ1) (hH:κu.H=κ1.H) (hf:Hf κ0 κu τ) (hS:5000≤S):WK mF 4 τ κu a x.length:=by
 refine zyE (F:=mF) (i:=4) (fun xs d=>?_) rfl h s hH (fun b hb e=>hf b hb (by rw [e];exact hS));have key:∀ (x:List (List UInt8×List Int)) xs,(∀ y∈x,y.2.length≤1048576)→Rep zlu κ0 xs x→∃ l':List (List UInt8×Hd),l'.length=x.length∧Rep tTH κu xs l'∧∀ z∈l',Hc mF τ κu (1,z.2):=by
  intro x
  induction x with
  | nil=>exact fun xs _ d=>⟨[],rfl,d,fun z hz=>by cases hz⟩
  | cons y x ih=>
   rintro xs hl ⟨cs,xs',rfl,⟨n,c2,rfl,k,m⟩,d⟩;obtain ⟨hd,hcs,hh⟩:=zy8 m (hl y (by simp)) s hH hf;obtain ⟨l',f,g,j⟩:=ih xs' (fun z hz=>hl z (by simp [hz])) d;refine ⟨(y.1,hd)::l',by simp [f],⟨_,xs',rfl,⟨n,c2,rfl,k,hcs⟩,g⟩,fun z hz=>?_⟩;rcases eu.1 hz with rfl | hz
   ·exact hh
   ·exact j z hz
 obtain ⟨l',f,g,j⟩:=key x xs hl d;exact ⟨l',f,g,fun z hz y hy=>by rw [fg.1 hy];exact j z hz⟩
end
def SBd (x:TS×(LP)×Int):Prop:=
 x.1.1.length≤1048576∧x.1.2.length≤1048576∧x.2.1.length≤1048576∧∀ y∈x.1.2,y.2.length≤1048576
section
variable {κ κ1 κ0 κr:K}
theorem zuG (hs:Step [] κ κ1) (hle:κ.H.size≤κr.H.size) (hq:Step [] κr κ1) (hk:Step [] κ0 κ1) (hTr:∀ b,(κr.tag b).2<5000) (d:Step [] κr κ0) :
 ∃ κu:K,κu.H=κ1.H∧Step [] κ κu∧Step [] κr κu∧Hf κ0 κu (κr.H.size,9)∧(∀ b,(κ1.tag b).2<5000∨κ0.H.size≤b→κu.fr b=κ1.fr b∧κu.tag b=κ1.tag b):=by
 classical
 have a:∀ b,b<κr.H.size→¬(b<κ0.H.size∧5000≤(κ0.tag b).2):=fun b hb h=>by
   have:=h.2;rw [(d.2.1 b hb (by simp)).2.2] at this;have:=hTr b;omega
 have key:∀ {κ:K},Step [] κ κ1→κ.H.size≤κr.H.size→Step [] κ ⟨κ1.H,fun b=>if b<κ0.H.size∧5000≤(κ0.tag b).2 then 0 else κ1.fr b,fun b=>if b<κ0.H.size∧5000≤(κ0.tag b).2 then (κr.H.size,9) else κ1.tag b⟩:=fun {κ} hs hle=>by
   have hn:∀ b,b<κ.H.size→¬(b<κ0.H.size∧5000≤(κ0.tag b).2):=fun b hb=>a b (by omega);refine ⟨hs.1,fun b hb h=>?_,fun b hb=>?_,fun b hb hf=>?_⟩
   · have:=hs.2.1 b hb h
     exact ⟨this.1,(if_neg (hn b hb)).trans this.2.1,(if_neg (hn b hb)).trans this.2.2⟩
   · have:=hs.2.2.1 b hb
     exact ⟨fz this.1 (Nat.le_of_eq (if_neg (hn b hb)).symm),this.2⟩
   · have:=hs.2.2.2 b hb hf
     exact ⟨(if_neg (hn b hb)).trans this.1,this.2⟩
 refine ⟨⟨κ1.H,fun b=>if b<κ0.H.size∧5000≤(κ0.tag b).2 then 0 else κ1.fr b,fun b=>if b<κ0.H.size∧5000≤(κ0.tag b).2 then (κr.H.size,9) else κ1.tag b⟩,rfl,key hs hle,key hq (fy _),fun b hb c=>⟨if_pos ⟨hb,c⟩,if_pos ⟨hb,c⟩,?_⟩,fun b h=>?_⟩
 ·rcases gd b κr.H.size with h | h
  ·exact absurd ⟨hb,c⟩ (a b h)
  exact h
 have hn:¬(b<κ0.H.size∧5000≤(κ0.tag b).2):=fun ⟨e,f⟩=>by
   rcases h with h | h
   · rw [(hk.2.1 b e (by simp)).2.2] at h;omega
   · omega
 exact ⟨if_neg hn,if_neg hn⟩
end
theorem zob {p0:List (Int×Int)} {p1:Int} {r:Int×List (Int×Int)} (a:ze7 p0 p1=some r):r.2.length=p0.length:=by
 refine bE a fun x hx a=>?_;obtain rfl:=sj a;have key:∀ (n:Nat) (s:List (Int×Int)×Int×Int) x,zj0 n zaJ s=some x→x.1.length=s.1.length:=by
   intro n
   induction n with
   | zero=>intro s x h;cases h
   | succ n ih=>
     intro s x h;unfold zj0 at h;cases hF:zaJ s with
     | none=>rw [hF] at h;cases h
     | some y=>
       rw [hF] at h;unfold zaJ at hF;split at hF
       · obtain ⟨_,_,hF⟩:=bD hF
         obtain ⟨_,b,hF⟩:=bD hF;obtain rfl:=sj b;obtain ⟨_,_,hF⟩:=bD hF;obtain ⟨_,b,hF⟩:=bD hF;obtain rfl:=sj b;obtain rfl:=sj hF;rw [ih _ _ h];simp
       · obtain rfl:=sj hF
         injection h with h
         rw [←h]
 obtain ⟨n,hn⟩:=zdF.1 hx;exact key n _ _ hn
theorem laws_FnExactProofErrors_ok {κ:K} {p0:TS×(LP)×Int} {a1 a4 a7 b8 Y:OA} {c2 c5 c8 b9 a0:Nat} {p1:LP} {p2:Int} {p3:List (Int×(Int×Int)×Int)} (f3:Sl tGlue κ a1 c2 p0.1.1) (f6:Sl tTile κ a4 c5 p0.1.2) (f9:Sl tPlaced κ a7 c8 p0.2.1) (a2:I64 p0.2.2) (c0:Sl tPlaced κ b8 b9 p1) (d6:I64 p2) (c1:Sl tMishap κ Y a0 p3) (G0:Glob κ) (hT:∀ b,(κ.tag b).2<5000) (hE:∀ z1 z2 z3,zg5 p0 1048576=some z1→decide (z1<0)=false→zdc p1 z1=some z2→decide (z2<0)=false→zfW p3 z2=some z3→decide (z3<0)=false→(∀ x,zbL p0=some x→SBd x)∧(∀ x,zai p1=some x→x.length≤1048576)∧(∀ x,za2 p3=some x→x.length≤1048576)) {r:Bool} (d:zex p0 p1 p2 p3=some r) :
 Fn Tryz.prog 3 #[.agg #[vl a1 p0.1.1 c2,vl a4 p0.1.2 c5,vl a7 p0.2.1 c8,iv p0.2.2],.agg #[vl b8 p1 b9],iv p2,vl Y p3 a0] κ (fun v H=>Step [] κ H∧v=.bool r):=by
 refine fnc 168 [] Tryz.func3 Tryz.ntmps3 fun hs=>csr (oB 30 3001 [vl a1 p0.1.1 c2,vl a4 p0.1.2 c5,vl a7 p0.2.1 c8,iv p0.2.2] hs fun c3 v0 hs C8 a=>oB 28 3002 [vl b8 p1 b9] hs fun c4 v4 hs q5 c=>?_);replace a:=a.step0 q5;refine od 1 (otx (od 1 (otx (oL a.at 0 4 (od 1 (bE d fun C9 i1 d=>oC hs (zpV (f3.step hs) (f6.step hs) (f9.step hs) a2 (iK 1048576) i1) ?_))))));rintro v5 q6 hs _ ⟨rfl,n5⟩;obtain ⟨a,c⟩:=sQ2 q6 a c;refine dT 1 (cs (cT 2 (cc _ d (fun hc d=>?_) fun hc d=>?_)))
 ·refine cT 1 (crt (zd ?_));obtain rfl:=sj d;exact rT 8 tt ⟨hs,rfl⟩
 have hcA:=hc;refine ckt (csr (oL c.at 0 1 (od 1 (bE d fun D0 i2 d=>oC hs (zkE (c0.step hs) n5 i2) ?_))));rintro v6 q7 hs _ ⟨rfl,n6⟩;obtain ⟨a,c⟩:=sQ2 q7 a c;refine dT 1 (cs (cT 2 (cc _ d (fun hc d=>?_) fun hc d=>?_)))
 ·refine cT 1 (crt (zd ?_));obtain rfl:=sj d;exact rT 8 tt ⟨hs,rfl⟩
 have hcB:=hc;refine ckt (cO 2 (bE d fun D1 i3 d=>ocl 37 (zpd (c1.step hs) n6 i3) ?_));rintro _ _ ⟨rfl,rfl,v7⟩;refine dT 1 (cs (cT 2 (cc _ d (fun hc d=>?_) fun hc d=>?_)))
 ·refine cT 1 (crt (zd ?_));obtain rfl:=sj d;exact rT 8 tt ⟨hs,rfl⟩
 have hcC:=hc;refine ckt (cs (cx_ 14 [0,2,4,5,1,3,6,7,8,9,10,11,12,13] [1,3,6,7] 14 [] (xL a.at 0 4 (xL c.at 0 1 (xp 45 (iv p2) (xp 46 (vl Y p3 a0) (bE d fun D2 n7 d=>xcl 42 (ziX (f3.step hs) (f6.step hs) (f9.step hs) a2 n7) ?_)))))));rintro _ v8 ⟨i4,D3,D4,D5,D6,D7,D8,rfl,c6,c7,c9,n8⟩;refine ⟨i4,?_⟩;replace hs:=hs.tr0 i4;obtain ⟨a,c⟩:=sQ2 i4 a c;refine bE d fun D9 n9 d=>xcl 44 (zht (c0.step hs) n9) ?_;rintro _ v9 ⟨i5,E1,E2,rfl,i6⟩;refine ⟨i5,?_⟩;replace hs:=hs.tr0 i5;obtain ⟨c6,c7,c9,a,c⟩:=sQ5 i5 c6 c7 c9 a c;refine bE d fun E3 o0 d=>xcl 47 (zim (c1.step hs) o0) ?_;rintro _ w6 ⟨i7,E4,E5,rfl,q8⟩;refine ⟨i7,?_⟩;replace hs:=hs.tr0 i7;obtain ⟨c6,c7,c9,i6,a,c⟩:=sQ6 i7 c6 c7 c9 i6 a c;refine bE d fun w o2 d=>xcl 48 (zn5 c6 c7 c9 n8 i6 d6 q8 o2) ?_;rintro _ w7 ⟨i8,R,S,rfl,k,w8,w9⟩;refine ⟨i8,?_⟩;replace hs:=hs.tr0 i8;obtain ⟨a,c⟩:=sQ2 i8 a c;refine xp 40 (.tuple #[vl R w.1 S,iv w.2.1,iv w.2.2]) (xp 49 (vl R w.1 S) (xp 50 (iv w.2.1) (xp 51 (iv w.2.2) (xp 10 (vl R w.1 S) (xp 11 (iv w.2.1) (xe (od 1 (otx (oL a.at 0 4 (bE d fun B i9 d=>?_))))))))));obtain ⟨q9,r0,r1⟩:=hE _ _ _ i1 hcA i2 hcB i3 hcC;obtain ⟨κr,hHr,hFr,hTr,hsr,hTk⟩:=zuH hs hT;replace k:=k.gh zrJ hHr hFr;replace a:=a.gh hHr ⟨by rw [hFr],hTk _ (by rw [a.tag];exact (by decide:(3001:Nat)<5000))⟩;replace c:=c.gh hHr ⟨by rw [hFr],hTk _ (by rw [c.tag];exact (by decide:(3002:Nat)<5000))⟩;replace hs:=hsr;refine ziW hHr ?_;have hq:Step [] κr κr:=Step.refl _ _;have f0r:=k;refine oC hs (zlf (f3.step hs) (f6.step hs) (f9.step hs) a2 i9) ?_;rintro x0 m9 hs _ ⟨f8,g0,g1,g2,g3,g4,rfl,m,n,p,j1⟩;replace hq:=hq.tr0 m9;obtain ⟨k,a,c⟩:=sQ3 m9 k a c;refine xT 13 46 (κr.H.size,3003) hq.1 [sl none 0 0,sl none 0 0,sl none 0 0,iv 0] fun n0 x2 j2 e=>?_;replace hs:=hs.tr0 j2;replace hq:=hq.tr0 j2;obtain ⟨k,m,n,p,a,c⟩:=sQ6 j2 k m n p a c;refine xM 46 [vl f8 B.1.1 g0,vl g1 B.1.2 g2,vl g3 B.2.1 g4,iv B.2.2] e fun x3 T _ j3=>?_;replace hs:=hs.trB (fz hsr.1 e.ge) T;replace hq:=hq.trB e.ge T;replace k:=k.step T;replace m:=m.step T;replace n:=n.step T;replace p:=p.step T;replace a:=a.step T (nm1 (a.ne e (zk kr)));replace c:=c.step T (nm1 (c.ne e (zk kr)));replace e:=j3;refine otx (oL c.at 0 1 (bE d fun d0 j4 d=>oC hs (zgP (c0.step hs) j4) ?_));rintro x4 j5 hs _ ⟨g5,g6,rfl,s⟩;replace hq:=hq.tr0 j5;obtain ⟨k,m,n,p,a,c⟩:=sQ6 j5 k m n p a c;replace e:=Stp.m j5 e;refine xT 14 44 (κr.H.size,3004) hq.1 [sl none 0 0] fun n1 x5 g7 f=>?_;replace hs:=hs.tr0 g7;replace hq:=hq.tr0 g7;obtain ⟨k,m,n,p,s,a⟩:=sQ6 g7 k m n p s a;obtain ⟨c,e⟩:=sQ2 g7 c e;refine xM 44 [vl g5 d0 g6] f fun x6 I _ j6=>?_;replace hs:=hs.trB (fz hsr.1 f.ge) I;replace hq:=hq.trB f.ge I;replace k:=k.step I;replace m:=m.step I;replace n:=n.step I;replace p:=p.step I;replace s:=s.step I;replace a:=a.step I (nm1 (a.ne f (zk kr)));replace c:=c.step I (nm1 (c.ne f (zk kr)));replace e:=e.step I (nm1 (e.ne f (zk kr)));replace f:=j6;refine otx (od 1 (bE d fun g8 j7 d=>oC hs (zkB (c1.step hs) j7) ?_));rintro b1 d7 hs _ ⟨j8,j9,rfl,q⟩;replace hq:=hq.tr0 d7;obtain ⟨k,m,n,p,s,a⟩:=sQ6 d7 k m n p s a;obtain ⟨c,e,f⟩:=sQ3 d7 c e f;have k0:=m;replace m:=m.sl;have k4:=n;replace n:=n.slT;have k5:=p;replace p:=p.sl;have k6:=s;replace s:=s.sl;have g9:=q;replace q:=q.sl;have hk:Step [] b1 b1:=Step.refl _ _;have r2:=hq;refine od 1 (otx (oL e.at 0 4 (oL f.at 0 1 (od 2 (bE d fun A k9 d=>ocl 63 (zj2 m n p j1 s d6 q (G0.step hs) k9) ?_)))));rintro _ r9 ⟨a3,k7,J,L,rfl,G,j,s0,s1⟩;have gx:=G;replace G:=fz hs.1 G;replace hs:=hs.tr0 a3;replace hk:=hk.tr0 a3;replace hq:=hq.tr0 a3;obtain ⟨k,m,n,p,s,q⟩:=sQ6 a3 k m n p s q;obtain ⟨a,c,e,f⟩:=sQ4 a3 a c e f;refine dT 7 (cs ?_);refine zn (fun Z=>∀ (d8:Bool) (E0:Env) (u:K),Step [] κ u→Step [] b1 u→Step [] κr u→Sl tPoint u R S w.1→Sl tGlue u f8 g0 B.1.1→Sl tTile u g1 g2 B.1.2→Sl tPlaced u g3 g4 B.2.1→Sl tPlaced u g5 g6 d0→Sl tMishap u j8 j9 g8→Gr tPoint false (k7,34005) u 73 J L A.1→Box (κ.H.size,3001) u c3 [vl a1 p0.1.1 c2,vl a4 p0.1.2 c5,vl a7 p0.2.1 c8,iv p0.2.2] 30→Box (κ.H.size,3002) u c4 [vl b8 p1 b9] 28→Box (κr.H.size,3003) u n0 [vl f8 B.1.1 g0,vl g1 B.1.2 g2,vl g3 B.2.1 g4,iv B.2.2] 46→Box (κr.H.size,3004) u n1 [vl g5 d0 g6] 44→zaw p0 p1 p2 p3 w B d0 g8 A d8=some r→cwp Tryz.prog 168 (sub (zA Tryz.f3) [1,0,1,1,1,1,1,1,1,1,1,1,1,1,1]) Z (ups E0 [(2,iv p2),(3,vl Y p3 a0),(4,pt c3 0),(5,pt c4 0),(10,vl R w.1 S),(11,iv w.2.1),(12,iv w.2.2),(13,pt n0 0),(14,pt n1 0),(15,vl j8 g8 j9),(16,vl J A.1 L),(17,iv A.2.1),(18,iv A.2.2),(80,.bool d8)]) u) ?_ fun J1=>?_
 ·intro d8 E0 u hs hk hq k m n p s q j a c e f d;refine cc _ d (fun hc d=>?_) fun hc d=>?_
  ·refine cT 1 (crt (zd ?_));obtain rfl:=sj d;exact rT 8 ff ⟨hs,rfl⟩
  refine ckt (cs (cs (cx_ 3 [0,1,2] [2] 3 [] (xL e.at 0 4 (xL a.at 0 4 (bE d fun x7 l0 d=>xcl 83 (ziX (f3.step hs) (f6.step hs) (f9.step hs) a2 l0) ?_))))));rintro _ s2 ⟨N,x8,x9,y0,y1,y2,y3,rfl,o4,o5,o6,l1⟩;refine ⟨N,?_⟩;replace hs:=hs.tr0 N;replace hk:=hk.tr0 N;replace hq:=hq.tr0 N;obtain ⟨k,m,n,p,s,q⟩:=sQ6 N k m n p s q;obtain ⟨j,a,c,e,f⟩:=sQ5 N j a c e f;refine xe (bE d fun y4 l2 d=>oC hs (zpX m n p j1 o4 o5 o6 l1 l2) ?_);rintro s3 b2 hs _ rfl;replace hk:=hk.tr0 b2;replace hq:=hq.tr0 b2;obtain ⟨k,m,n,p,s,q⟩:=sQ6 b2 k m n p s q;obtain ⟨j,a,c,e,f⟩:=sQ5 b2 j a c e f;refine dT 1 (cc _ d (fun hc d=>?_) fun hc d=>?_)
  ·refine cT 1 (crt (zd ?_));obtain rfl:=sj d;exact rT 8 ff ⟨hs,rfl⟩
  refine ckt (cs (cs (cx_ 3 [0,1,2] [2] 3 [] (xL f.at 0 1 (xL c.at 0 1 (bE d fun y5 l3 d=>xcl 88 (zht (c0.step hs) l3) ?_))))));rintro _ s4 ⟨O,y6,y7,rfl,o7⟩;refine ⟨O,?_⟩;replace hs:=hs.tr0 O;replace hk:=hk.tr0 O;replace hq:=hq.tr0 O;obtain ⟨k,m,n,p,s,q⟩:=sQ6 O k m n p s q;obtain ⟨j,a,c,e,f⟩:=sQ5 O j a c e f;refine xe (bE d fun y8 l4 d=>oC hs (zkH s o7 l4) ?_);rintro s5 b3 hs _ rfl;replace hk:=hk.tr0 b3;replace hq:=hq.tr0 b3;obtain ⟨k,m,n,p,s,q⟩:=sQ6 b3 k m n p s q;obtain ⟨j,a,c,e,f⟩:=sQ5 b3 j a c e f;refine dT 1 (cc _ d (fun hc d=>?_) fun hc d=>?_)
  ·refine cT 1 (crt (zd ?_));obtain rfl:=sj d;exact rT 8 ff ⟨hs,rfl⟩
  refine ckt (cs (cO 2 (bE d fun y9 l5 d=>oC hs (zim (c1.step hs) l5) ?_)));rintro s6 b4 hs _ ⟨z0,z4,rfl,o8⟩;replace hk:=hk.tr0 b4;replace hq:=hq.tr0 b4;obtain ⟨k,m,n,p,s,q⟩:=sQ6 b4 k m n p s q;obtain ⟨j,a,c,e,f⟩:=sQ5 b4 j a c e f;refine bE d fun z5 l6 d=>oC hs (zph q o8 l6) ?_;rintro s7 b5 hs _ rfl;replace hk:=hk.tr0 b5;replace hq:=hq.tr0 b5;obtain ⟨k,m,n,p,s,q⟩:=sQ6 b5 k m n p s q;obtain ⟨j,a,c,e,f⟩:=sQ5 b5 j a c e f;refine dT 1 (cc _ d (fun hc d=>?_) fun hc d=>?_)
  ·refine cT 1 (crt (zd ?_));obtain rfl:=sj d;exact rT 8 ff ⟨hs,rfl⟩
  refine ckt (cO 1 (otx (oL e.at 0 4 (od 1 (bE d fun z6 s8 d=>?_)))));have ⟨e1,e2,e3,e4⟩:=q9 _ i9;have e5:=r0 _ j4;have e6:=r1 _ j7;obtain ⟨κu,hHu,hsu,hqu,hf,hXn⟩:=zuG hs hsr.1 hq hk hTr r2;have k8:κr.H.size<κu.H.size:=by rw [hHu];exact Nat.lt_of_le_of_lt e.ge e.lt
  have C:∀ (κx:K),∀ g∈tk (κr.H.size,9) κx,κr.H.size≤g:=fun κx g C=>(zcT.1 C).2.2;replace a:=a.gh hHu (hXn _ (.inl (by rw [a.tag];exact (by decide:(3001:Nat)<5000))));replace c:=c.gh hHu (hXn _ (.inl (by rw [c.tag];exact (by decide:(3002:Nat)<5000))));replace e:=e.gh hHu (hXn _ (.inl (by rw [e.tag];exact (by decide:(3003:Nat)<5000))));replace f:=f.gh hHu (hXn _ (.inl (by rw [f.tag];exact (by decide:(3004:Nat)<5000))));replace j:=j.gh zrJ hHu (fun b hb=>hXn b (.inr (fz gx (j.lt b hb).2.2)));have w1:=zoJ (F:=mF) (i:=0) zwe (fun _=>rfl) k0 hk hHu hf (by decide);have w2:=zwp k4 e4 hk hHu hf (by decide);have w3:=zoJ (F:=mF) (i:=2) zqn (fun _=>rfl) k5 hk hHu hf (by decide);have w4:=zoJ (F:=mF) (i:=2) zqn (fun _=>rfl) k6 hk hHu hf (by decide);have w5:=zoJ (F:=mF) (i:=3) zub (fun _=>rfl) g9 hk hHu hf (by decide);refine ziW hHu ?_;have r3:Fn Tryz.prog 16 #[.agg #[vl f8 B.1.1 g0,vl g1 B.1.2 g2,vl g3 B.2.1 g4,iv B.2.2],iv 1] κu (fun v H=>Step (tk (κr.H.size,9) κu) κu H∧Pr mF (κr.H.size,9) κu H∧∃ k':Int,v=iv k'∧1≤k'∧k'≤1+1099518967808):=by
    rw [k0.2.2,k4.2.2,k5.2.2];exact ztb w1 e1 w2 e2 w3 e3 k8 (show (9:Nat)<1000 by decide) (by decide) (by decide)
  refine ocl 98 r3 ?_;rintro _ U ⟨M,n2,k1,rfl,u1,v1⟩;have t1:=M.1;replace hs:=hsu.trG (fun g h=>fz hsr.1 (C _ g h)) M;replace hqu:=hqu.trG (C _) M;replace a:=a.step M (zsV a (show (9:Nat)<1000 by decide));replace c:=c.step M (zsV c (show (9:Nat)<1000 by decide));replace f:=f.step M (zsV f (show (9:Nat)<1000 by decide));replace j:=j.step M (fun g d3 d4=>by have h1:=(j.lt g d3).2.1;rw [(zcT.1 d4).2.1] at h1;exact absurd (congrArg Prod.snd h1) (show (9:Nat)≠34005 by decide));refine od 1 (otx (oL f.at 0 1 (od 1 (bE d fun B0 s9 d=>?_))));have r5:Fn Tryz.prog 17 #[.agg #[vl g5 d0 g6],iv k1] U (fun v H=>Step (tk (κr.H.size,9) U) U H∧Pr mF (κr.H.size,9) U H∧∃ k':Int,v=iv k'∧k1≤k'∧k'≤k1+3145728):=by
    rw [k6.2.2];exact znl ((n2 2 _ _).1 w4) e5 (gc k8 t1) (show (9:Nat)<1000 by decide) (by omega) (by omega)
  refine ocl 101 r5 ?_;rintro _ V ⟨P,r6,k2,rfl,u2,v2⟩;have t2:=P.1;replace hs:=hs.trG (fun g h=>fz hsr.1 (C _ g h)) P;replace hqu:=hqu.trG (C _) P;replace a:=a.step P (zsV a (show (9:Nat)<1000 by decide));replace c:=c.step P (zsV c (show (9:Nat)<1000 by decide));replace j:=j.step P (fun g d3 d4=>by have h1:=(j.lt g d3).2.1;rw [(zcT.1 d4).2.1] at h1;exact absurd (congrArg Prod.snd h1) (show (9:Nat)≠34005 by decide));refine od 1 (otx (od 2 (bE d fun d9 l7 d=>?_)));have r7:=n2.trans r6;have r8:Fn Tryz.prog 18 #[vl j8 g8 j9,iv k2] V (fun v H=>Step (tk (κr.H.size,9) V) V H∧Pr mF (κr.H.size,9) V H∧∃ k':Int,v=iv k'∧k2≤k'∧k'≤k2+4194304):=by
    rw [g9.2.2];exact zr8 ((r7 3 _ _).1 w5) (gc k8 (fz t1 t2)) e6 (by omega) (by omega)
  refine ocl 104 r8 ?_;rintro _ t0 ⟨Q,E6,k3,rfl,u3,v3⟩;have t3:=Q.1;replace hs:=hs.trG (fun g h=>fz hsr.1 (C _ g h)) Q;replace hqu:=hqu.trG (C _) Q;replace a:=a.step Q (zsV a (show (9:Nat)<1000 by decide));replace c:=c.step Q (zsV c (show (9:Nat)<1000 by decide));replace j:=j.step Q (fun g d3 d4=>by have h1:=(j.lt g d3).2.1;rw [(zcT.1 d4).2.1] at h1;exact absurd (congrArg Prod.snd h1) (show (9:Nat)≠34005 by decide));replace k:=f0r.step hqu;have eX:d9=1:=(sj (l7.symm.trans rfl));refine dT 1 (cs ?_);refine zn (fun Z=>∀ (e0:Bool) (E0:Env) (E:K),Step [] κ E→Sl tPoint E R S w.1→Gr tPoint false (k7,34005) E 73 J L A.1→Box (κ.H.size,3001) E c3 [vl a1 p0.1.1 c2,vl a4 p0.1.2 c5,vl a7 p0.2.1 c8,iv p0.2.2] 30→Box (κ.H.size,3002) E c4 [vl b8 p1 b9] 28→zY p0 p1 p2 p3 w A e0=some r→cwp Tryz.prog 168 (sub (zA Tryz.f3) [1,0,1,1,1,1,1,1,1,1,1,1,1,1,1,1,1,1,1,1,1,1,1]) Z (ups E0 [(2,iv p2),(3,vl Y p3 a0),(4,pt c3 0),(5,pt c4 0),(10,vl R w.1 S),(11,iv w.2.1),(12,iv w.2.2),(16,vl J A.1 L),(122,.bool e0)]) E) ?_ fun J2=>?_
  ·intro e0 E0 E hs k j a c d;refine cc _ d (fun hc d=>?_) fun hc d=>?_
   ·refine cT 1 (crt (zd ?_));obtain rfl:=sj d;exact rT 8 ff ⟨hs,rfl⟩
   refine ckt (cO 1 (otx (od 2 ?_)));obtain ⟨p4,h2,h3,j⟩:=j.low G a.tlt;refine bE d fun a5 h0 d=>ocl 125 (zot j h3 (iK 1) h0) ?_;rintro _ t4 ⟨b6,rfl,t5,y⟩;replace hs:=hs.trM (ztV (j.own h2)) b6;replace k:=k.step b6;replace a:=a.step b6 (j.bn a (zk kr));replace c:=c.step b6 (j.bn c (zk kr));have e7:=zob h0;refine zM (za (t:=16) (v:=vl J a5.2 L) (eA 12 (v:=iv w.2.2) (eA 11 (v:=iv w.2.1) (eA 10 (v:=vl R w.1 S) (eA 5 (v:=pt c4 0) (eA 4 (v:=pt c3 0) (eA 3 (v:=vl Y p3 a0) (eA 2 (v:=iv p2) rfl))))))) (by unfold vl;rw [e7];kernel_rfl)) (od 1 (otx (od 1 (otx (od 2 (bE d fun B2 l9 d=>ocl 128 (Fn.borrow0 y (fun _ _ sb gb=>zkF gb.sl (iK 1) l9)) ?_))))));rintro _ _ ⟨rfl,rfl,t6⟩;refine dT 1 (cs (cT 2 (cc _ d (fun hc d=>?_) fun hc d=>?_)))
   ·refine cT 1 (crt (zd ?_));obtain rfl:=sj d;exact rT 8 ff ⟨hs,rfl⟩
   refine ckt (cs (cT 3 (cc _ d (fun hc d=>?_) fun hc d=>?_)))
   ·refine cT 1 (crt (zd ?_));obtain rfl:=sj d;exact rT 8 ff ⟨hs,rfl⟩
   refine ckt (cs (cx_ 14 [0,2,4,5,1,3,6,7,8,9,10,11,12,13] [1,3,6,7] 14 [] (xL a.at 0 4 (xL c.at 0 1 (xp 139 (iv p2) (xp 140 (vl Y p3 a0) (bE d fun B3 m0 d=>xcl 136 (ziX (f3.step hs) (f6.step hs) (f9.step hs) a2 m0) ?_)))))));rintro _ t7 ⟨e8,B4,B5,B6,B7,B8,B9,rfl,a6,a8,a9,m1⟩;refine ⟨e8,?_⟩;replace hs:=hs.tr0 e8;obtain ⟨k,y⟩:=sQ2 e8 k y;refine bE d fun C0 m2 d=>xcl 138 (zht (c0.step hs) m2) ?_;rintro _ t8 ⟨e9,C1,C2,rfl,f0⟩;refine ⟨e9,?_⟩;replace hs:=hs.tr0 e9;obtain ⟨k,a6,a8,a9,y⟩:=sQ5 e9 k a6 a8 a9 y;refine bE d fun C3 m3 d=>xcl 141 (zim (c1.step hs) m3) ?_;rintro _ t9 ⟨f1,C4,C5,rfl,p5⟩;refine ⟨f1,?_⟩;replace hs:=hs.tr0 f1;obtain ⟨k,a6,a8,a9,f0,y⟩:=sQ6 f1 k a6 a8 a9 f0 y;refine bE d fun D m4 d=>xcl 142 (zj2 a6 a8 a9 m1 f0 d6 p5 (G0.step hs) m4) ?_;rintro _ u0 ⟨f2,C6,f4,f5,rfl,b0,p6,u4,u5⟩;refine ⟨f2,?_⟩;replace b0:=fz hs.1 b0;replace hs:=hs.tr0 f2;obtain ⟨k,y⟩:=sQ2 f2 k y;refine xp 134 (.tuple #[vl f4 D.1 f5,iv D.2.1,iv D.2.2]) (xp 143 (vl f4 D.1 f5) (xp 144 (iv D.2.1) (xp 145 (iv D.2.2) (xp 22 (vl f4 D.1 f5) (xp 23 (iv D.2.1) (xe (dT 1 (cs ?_))))))));refine zn (fun Z=>∀ (f7:Bool) (E0:Env) (X:K),Step [] κ X→Gr tPoint false (p4,34005) X 73 J L a5.2→zav a5 f7=some r→cwp Tryz.prog 168 (sub (zA Tryz.f3) [1,0,1,1,1,1,1,1,1,1,1,1,1,1,1,1,1,1,1,1,1,1,1,1,1,1,1,1,1,1,1]) Z (ups E0 [(16,vl J a5.2 L),(20,iv a5.1),(159,.bool f7)]) X) ?_ fun J3=>?_
   ·intro f7 E0 X hs y d;refine cc _ d (fun hc d=>?_) fun hc d=>?_
    ·refine cT 1 (crt (zd ?_));obtain rfl:=sj d;exact rT 8 ff ⟨hs,rfl⟩
    refine ckt (cO 1 (otx (od 2 (bE d fun C7 m5 d=>ocl 162 (Fn.borrow0 y (fun _ _ sb gb=>zkF gb.sl (iK 1) m5)) ?_))));rintro _ _ ⟨rfl,rfl,u6⟩;refine dT 1 (cs (cT 2 (cc _ d (fun hc d=>?_) fun hc d=>?_)))
    ·refine cT 1 (crt (zd ?_));obtain rfl:=sj d;exact rT 8 ff ⟨hs,rfl⟩
    refine ckt (cs (cT 3 (cc _ d (fun hc d=>?_) fun hc d=>?_)))
    ·refine cT 1 (crt (zd ?_));obtain rfl:=sj d;exact rT 8 ff ⟨hs,rfl⟩
    refine ckt (cT 1 (crt ?_));obtain rfl:=sj d;exact rT 8 tt ⟨hs,rfl⟩
   refine cO 2 (bE d fun p8 m6 d=>oC hs (Fn.borrow p6 (fun _ _ sb gb=>ziZ gb.sl (k.step sb) m6)) ?_);rintro u7 p9 hs _ rfl;replace y:=y.step0 p9;refine od 1 (osp 150 (!p8) d (fun C d=>?_) fun C d=>?_)
   ·refine od 4 (osp 155 (!decide (D.2.1=w.2.1)) d (fun C d=>?_) fun C d=>?_)
    ·refine dT 4 ?_;exact zm eY (J3 (!decide (D.2.2=w.2.2))  _ _ hs y d)
    refine oz [156,157,158] (dT 1 ?_);exact zm eY (J3 true  _ _ hs y d)
   refine oz [151,152,153] (od 2 (oz [156,157,158] (dT 1 ?_)));exact zm eY (J3 true  _ _ hs y d)
  refine cO 1 (op 106 (Value.bool<|decide (k3<0)) ?_);rw [show decide (k3<0)=decide (d9<0) by rw [eX,decide_eq_false (show ¬k3<0 by omega)];rfl];refine osp 107 (decide (d9<0)) d (fun C d=>?_) fun C d=>?_
  ·refine od 2 (bE d fun q0 m7 d=>oC hs (Fn.borrow j (fun _ _ sb gb=>ziZ gb.sl (k.step sb) m7)) ?_);rintro u8 q1 hs _ rfl;obtain ⟨k,j,a,c⟩:=sQ4 q1 k j a c;refine od 2 (osp 113 (!q0) d (fun C d=>?_) fun C d=>?_)
   ·refine od 4 (osp 118 (!decide (A.2.1=w.2.1)) d (fun C d=>?_) fun C d=>?_)
    ·refine dT 4 ?_;exact zm eY (J2 (!decide (A.2.2=w.2.2))  _ _ hs k j a c d)
    refine oz [119,120,121] (dT 1 ?_);exact zm eY (J2 true  _ _ hs k j a c d)
   refine oz [114,115,116] (od 2 (oz [119,120,121] (dT 1 ?_)));exact zm eY (J2 true  _ _ hs k j a c d)
  refine oz [108,109,110,111] (od 2 (oz [114,115,116] (od 2 (oz [119,120,121] (dT 1 ?_)))));exact zm eY (J2 true  _ _ hs k j a c d)
 refine cO 2 (bE d fun q2 m8 d=>oC hs (Fn.borrow j (fun _ _ sb gb=>ziZ gb.sl (k.step sb) m8)) ?_);rintro u9 b7 hs _ rfl;replace hk:=hk.tr0 b7;replace hq:=hq.tr0 b7;obtain ⟨k,m,n,p,s,q⟩:=sQ6 b7 k m n p s q;obtain ⟨j,a,c,e,f⟩:=sQ5 b7 j a c e f;refine od 1 (osp 71 (!q2) d (fun C d=>?_) fun C d=>?_)
 ·refine od 4 (osp 76 (!decide (A.2.1=w.2.1)) d (fun C d=>?_) fun C d=>?_)
  ·refine dT 4 ?_;exact zm eY (J1 (!decide (A.2.2=w.2.2))  _ _ hs hk hq k m n p s q j a c e f d)
  refine oz [77,78,79] (dT 1 ?_);exact zm eY (J1 true  _ _ hs hk hq k m n p s q j a c e f d)
 refine oz [72,73,74] (od 2 (oz [77,78,79] (dT 1 ?_)));exact zm eY (J1 true  _ _ hs hk hq k m n p s q j a c e f d)
end Go.Lf
