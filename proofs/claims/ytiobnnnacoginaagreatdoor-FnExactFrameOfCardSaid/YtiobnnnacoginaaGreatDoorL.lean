import Derived.Test.YtiobnnnacoginaaGreatDoorM
import Derived.Test.YtiobnnnacoginaaGreatDoorK
import Derived.Test.YtiobnnnacoginaaGreatDoorH
set_option linter.all false
set_option maxRecDepth 100000
set_option maxHeartbeats 4000000
namespace Go.Lf
open Go Go.Proofs Tryz
def tTH:Ty (BS×Hd):=tPair tStr tH
def mT:Nat->Type
 | 0=>BS×Int | 1=>Int | 2=>(Int×Int)×Int | 3=>(Int×Int)×Int | 4=>BS×Hd | 5=>Hd | _=>Int
def mt:∀i,Ty (mT i)
 | 0=>tGlue | 1=>tI64 | 2=>tPlaced | 3=>tPlaced | 4=>tTH | 5=>tH | _+6=>tU8
def me:Nat->Nat
 | 0=>182 | 1=>2 | 2=>106 | 3=>141 | 4=>108 | 5=>32 | n+6=>1000+n
def mh:∀i,mT i->List (Nat×Hd)
 | 4,x=>[(1,x.2)] | 5,x=>[(1,x)] | 0,_ | 1,_ | 2,_ | 3,_ | _+6,_=>[]
def mi(n:Nat):Nat:=if n=182 then 0 else if n=2 then 1 else if n=106 then 2 else if n=141 then 3 else if n=108 then 4 else if n=32 then 5 else n - 994
def zCQ(i:Nat):mi (me i)=i:=by
 rcases i with _ | _ | _ | _ | _ | _ | i
 case succ.succ.succ.succ.succ.succ=>
   show mi (1000+i)=i+6;unfold mi
   repeat rw[if_neg om]
   omega
 all_goals rfl
def mF:Fam:=⟨mT,mt,me,mh,λi j h=>by rw[←zCQ i,h,zCQ j],by
 intro i;rcases i with _ | _ | _ | _ | _ | _ | i<;>exact gk kr⟩
def zx6{N c b:Nat}{κ:K}{cs:List Value}{T:TypeId}{τ:Tag}(B:Box (N,c) κ b cs T)(h:τ.2<1000)(d:Nat.ble 1000 c=true:=by kernel_rfl):b∉tk τ κ:=λhb=>by
  have a:=(zjr.1 hb).2.1;rw[B.tag]at a;rw[←a]at h;have:=gk d;simp only at h;omega
section
variable {κ:K} {τ:Tag} {a:Option Addr} {n:Nat} {k:Int}
def zxA(h:WL mF 0 τ κ a n)(ht:τ.1<κ.H.size)(hn:n<=1048576)(hk:1<=k)(c:k<=3298534883328):
    fP 98 #[sl a n n,.int .i64 k] κ (λv b=>Step (tk τ κ) κ b/\Pr mF τ κ b/\∃k':Int,v=.int .i64 k'/\k<=k'/\k'<=k+2097152):=
  (zy4 (F:=mF) (i:=0) (m:=2) zjz (λg ht hk _ d=>zsd g ht hk d) zwr (λ_=>rfl) (by decide) h ht hn hk c).mono λv b ⟨s,hv,p⟩=>⟨s,p,_,hv,by omega,by omega⟩
def zoO(h:WL mF 1 τ κ a n)(ht:τ.1<κ.H.size)(hn:n<=1048576)(hk:1<=k)(c:k<=3298534883328):
    fP 66 #[sl a n n,.int .i64 k] κ (λv b=>Step (tk τ κ) κ b/\Pr mF τ κ b/\∃k':Int,v=.int .i64 k'/\k<=k'/\k'<=k+1048576):=
  (zy4 (F:=mF) (i:=1) (m:=1) zii (λg ht hk _ d=>zq9 g ht hk d) zxx (λ_=>rfl) (by decide) h ht hn hk c).mono λv b ⟨s,hv,p⟩=>⟨s,p,_,hv,by omega,by omega⟩
def zvh(h:WL mF 2 τ κ a n)(ht:τ.1<κ.H.size)(hn:n<=1048576)(hk:1<=k)(c:k<=3298534883328):
    fP 64 #[sl a n n,.int .i64 k] κ (λv b=>Step (tk τ κ) κ b/\Pr mF τ κ b/\∃k':Int,v=.int .i64 k'/\k<=k'/\k'<=k+3145728):=
  (zy4 (F:=mF) (i:=2) (m:=3) zhl (λg ht hk _ d=>zqK g ht hk d) zvf (λ_=>rfl) (by decide) h ht hn hk c).mono λv b ⟨s,hv,p⟩=>⟨s,p,_,hv,by omega,by omega⟩
def zqY(h:WL mF 3 τ κ a n)(ht:τ.1<κ.H.size)(hn:n<=1048576)(hk:1<=k)(c:k<=3298534883328):
    fP 65 #[sl a n n,.int .i64 k] κ (λv b=>Step (tk τ κ) κ b/\Pr mF τ κ b/\∃k':Int,v=.int .i64 k'/\k<=k'/\k'<=k+3145728):=
  (zy4 (F:=mF) (i:=3) (m:=3) zhm (λg ht hk _ d=>zqL g ht hk d) zuF (λ_=>rfl) (by decide) h ht hn hk c).mono λv b ⟨s,hv,p⟩=>⟨s,p,_,hv,by omega,by omega⟩
def zxy(h:WK mF 4 τ κ a n)(ht:τ.1<κ.H.size)(hn:n<=1048576)(hk:1<=k)(Y:k<=2199023255552):
 fP 99 #[sl a n n,.int .i64 k] κ (λv d=>Step (tk τ κ) κ d/\Pr mF τ κ d/\∃k':Int,v=.int .i64 k'/\k<=k'/\k'<=k+1099512676352):=by
 refine fnc 28 (tk τ κ) func99 ntmps99 λo=>csr (op 4 (.int .i64 0) (ot (cs (csr (op 5 (.int .i64 0) (ot (cb 0 (zem (λm E d=>∃(i:Nat)(k':Int),m=n - i/\i<=n/\(∃B,E=ups B [(0,sl a n n),(1,.int .i64 k'),(5,.int .i64 (i:Int))])/\Step (tk τ κ) κ d/\Pr mF τ κ d/\k<=k'/\k'<=k+i*1048577) kr n ⟨0,k,rfl,Nat.zero_le _,⟨_,eY⟩,o,Pr.refl,Int.le_refl _,by omega⟩ ?_))))))));rintro m _ Z ⟨i,k',rfl,hi,⟨B,rfl⟩,o,pr,C,a0⟩;refine cs (csr (ou 6 [.int .i64 (i:Int),sl a n n,.int .i64 (n:Int),.bool (decide ((i:Int)<(n:Int)))] (ot ?_)));by_cases p:(i:Int)<(n:Int)
 ·rw[show decide ((i:Int)<(n:Int))=true from decide_eq_true p];refine ct (ckt (cs (cb 1 ?_)));have hik:(i:Int)*1048577<=1048576*1048577:=Int.mul_le_mul_of_nonneg_right om (by decide);refine csr (ou 12 [sl a n n,.int .i64 (i:Int),.int .i64 k'] ?_);obtain⟨t,ht'⟩:=zuG (k:=k') om om;refine oC o (zoq (show I64 k' by unfold I64;omega) ht') ?_;rintro j N o _ ⟨rfl,hbt⟩;have pr:=pr.trans (Pr.Y N);obtain⟨l,hl,G,hh⟩:∃l:List (BS×Hd),l.length=n/\Gr tTH false τ j 108 a n l/\∀x∈l,Hc mF τ j (1,x.2):=by
    obtain⟨l,O,P,Q⟩:=((pr 4 a n).2 h).gr;exact⟨l,O,P,λx hx=>Q x hx _ (fq.2 rfl)⟩
  have hil:i<l.length:=by omega
  obtain⟨⟨nm,ha,c,D⟩,hxg⟩:∃x,l[i]?=some x:=⟨_,cz hil⟩;have hxi:idx l (i:Int)=some (nm,ha,c,D):=zq hxg;obtain⟨q,c2,u⟩:=hh _ (fo hxg);simp only at q c2 u;have q:=q.symm;subst q;obtain⟨b,eab,w,R,a1,hAt,hown⟩:=G.idx hxi;refine oi 16 43 108 2 n n .i64 (i:Int) (off:=0) eab w p (op 17 (.pointer (some ⟨b,0+(i:Int).toNat*2,none⟩)) (zhh (T:=9) (t:=tTH) (τ:=τ) (e:=108) (ix:=(i:Int)) (x':=(t,ha,c,c)) (b:=b) (δ:=0) (cp:=n) (l:=l) (vs:=[zr t]) (zr t) kr kr eab G w R kr kr kr kr (λcs hx=>by obtain⟨y,H,ho⟩:=hx;obtain rfl:=sj (H.symm.trans hxi);obtain⟨_,_,rfl,⟨rfl,_⟩,rfl⟩:=ho;exact⟨_,_,rfl,⟨rfl,hbt⟩,rfl⟩) λs I J=>?_));have o:=o.trM (M':=blk a n) (λg S=>zfd o g (zBI (F:=mF) (i:=4) G g S)) I;have L:Pr mF τ j s:=Pr.write (F:=mF) (i:=4) G I J (Eq.trans ep hl) (λx hx y hy=>by
    obtain rfl:=fq.1 hy;rcases List.mem_or_eq_of_mem_set hx with hx | rfl
    · exact hh x hx
    · exact⟨rfl,c2,u⟩)
  have pr:=pr.trans L;refine otx (ou 18 [.int .i64 k',.int .i64 (w64 (k'+1))] ?_);rw[show w64 (k'+1)=k'+1 from zax ⟨by omega,by omega⟩];refine op 1 (.int .i64 (k'+1)) (otr (ou 20 [sl a n n,.int .i64 (i:Int)] (oi 22 43 108 2 n n .i64 (i:Int) (off:=0) eab w p (op 23 (.pointer (some ⟨b,0+(i:Int).toNat*2+1,none⟩)) ?_))));have z:idx (l.set (i:Int).toNat (t,ha,c,c)) (i:Int)=some (t,ha,c,c):=zq (by simp[hil]);obtain⟨U,A,_,_,a2,f,r⟩:=J.idx z;obtain rfl:b=U:=by have:=eab.symm.trans A;injection this with this;injection this
  obtain⟨_,_,rfl,⟨rfl,_⟩,rfl⟩:=r;have f:At s b (0+(i:Int).toNat*2) [zr t,sl ha c c]:=f;refine oV f 1 (op 25 (.int .i64 (k'+1)) (ocl 26 (zoO (k:=k'+1) ((L 1 ha c).1 u) (gq ht o.1) c2 om om) ?_));rintro _ a3 ⟨V,X,M,rfl,a4,a5⟩;have o:=o.trM (zfd o) V;have pr:=pr.trans X;refine op 1 (.int .i64 M) (oe (zc (za (cr (ou 10 [.int .i64 (i:Int),.int .i64 (w64 ((i:Int)+1))] ?_)))));rw[show w64 ((i:Int)+1)=((i+1:Nat):Int)from zax ⟨by omega,by omega⟩];exact op 5 (.int .i64 ((i+1:Nat):Int)) (oe (⟨n - (i+1),by omega,i+1,M,rfl,by omega,⟨_,eY⟩,o,pr,by omega,by omega⟩))
 rw[show decide ((i:Int)<(n:Int))=false from decide_eq_false p];refine cf (cx 0 (zg ?_));show zdI 0 _ (.exit 0) _ _;refine zf (za (csr (op 27 (.int .i64 k') (op 4 (.int .i64 k') (ot (crt (rt [.tmp 4] [.int .i64 k'] ⟨kr,trivial⟩ ?_)))))));have:(i:Int)*1048577<=1048576*1048577:=Int.mul_le_mul_of_nonneg_right om (by decide);exact⟨o,pr,k',rfl,C,by omega⟩
def zvi(h:WK mF 5 τ κ a n)(ht:τ.1<κ.H.size)(hn:n<=1048576)(hk:1<=k)(B:k<=2199023255552):
 fP 67 #[sl a n n,.int .i64 k] κ (λv c=>Step (tk τ κ) κ c/\Pr mF τ κ c/\∃k':Int,v=.int .i64 k'/\k<=k'/\k'<=k+1099512676352):=by
 refine fnc 19 (tk τ κ) func67 ntmps67 λo=>csr (op 4 (.int .i64 0) (ot (cs (csr (op 5 (.int .i64 0) (ot (cb 0 (zem (λm E c=>∃(i:Nat)(k':Int),m=n - i/\i<=n/\(∃j,E=ups j [(0,sl a n n),(1,.int .i64 k'),(5,.int .i64 (i:Int))])/\Step (tk τ κ) κ c/\Pr mF τ κ c/\k<=k'/\k'<=k+i*1048577) kr n ⟨0,k,rfl,Nat.zero_le _,⟨_,eY⟩,o,Pr.refl,Int.le_refl _,by omega⟩ ?_))))))));rintro m _ d ⟨i,k',rfl,hi,⟨j,rfl⟩,o,pr,p,C⟩;refine cs (csr (ou 6 [.int .i64 (i:Int),sl a n n,.int .i64 (n:Int),.bool (decide ((i:Int)<(n:Int)))] (ot ?_)));by_cases g:(i:Int)<(n:Int)
 ·rw[show decide ((i:Int)<(n:Int))=true from decide_eq_true g];refine ct (ckt (cs (cb 1 ?_)));have hik:(i:Int)*1048577<=1048576*1048577:=Int.mul_le_mul_of_nonneg_right om (by decide);refine cr (ou 12 [sl a n n,.int .i64 (i:Int)] ?_);obtain⟨l,hl,G,hh⟩:∃l:List Hd,l.length=n/\Gr tH false τ d 32 a n l/\∀x∈l,Hc mF τ d (1,x):=by
    obtain⟨l,t,u,w⟩:=((pr 5 a n).2 h).gr;exact⟨l,t,u,λx hx=>w x hx _ (fq.2 rfl)⟩
  have hil:i<l.length:=by omega
  obtain⟨⟨ha,e,q⟩,hxg⟩:∃x,l[i]?=some x:=⟨_,cz hil⟩;have hxi:idx l (i:Int)=some (ha,e,q):=zq hxg;obtain⟨f,c2,r⟩:=hh _ (fo hxg);simp only at f c2 r;have f:=f.symm;subst f;obtain⟨b,eab,y,J,D,hAt,hown⟩:=G.idx hxi;refine oi 14 33 32 1 n n .i64 (i:Int) (off:=0) eab y g ?_;obtain rfl:=hown;have hAt:At d b (0+(i:Int).toNat*1) [sl ha e e]:=hAt;refine oV hAt 0 (op 16 (.int .i64 k') (ocl 17 (zoO (k:=k') r (gq ht o.1) c2 om om) ?_));rintro _ F ⟨z,A,s,rfl,H,I⟩;have o:=o.trM (zfd o) z;have pr:=pr.trans A;refine op 1 (.int .i64 s) (oe (zc (za (cr (ou 10 [.int .i64 (i:Int),.int .i64 (w64 ((i:Int)+1))] ?_)))));rw[show w64 ((i:Int)+1)=((i+1:Nat):Int)from zax ⟨by omega,by omega⟩];exact op 5 (.int .i64 ((i+1:Nat):Int)) (oe (⟨n - (i+1),by omega,i+1,s,rfl,by omega,⟨_,eY⟩,o,pr,by omega,by omega⟩))
 rw[show decide ((i:Int)<(n:Int))=false from decide_eq_false g];refine cf (cx 0 (zg ?_));show zdI 0 _ (.exit 0) _ _;refine zf (za (csr (op 18 (.int .i64 k') (op 4 (.int .i64 k') (ot (crt (rt [.tmp 4] [.int .i64 k'] ⟨kr,trivial⟩ ?_)))))));have:(i:Int)*1048577<=1048576*1048577:=Int.mul_le_mul_of_nonneg_right om (by decide);exact⟨o,pr,k',rfl,p,by omega⟩
end
def zvg{κ:K}{τ:Tag}{k:Int}{ag at_:OA}{ng nt:Nat}(e:WL mF 0 τ κ ag ng)(hgn:ng<=1048576)(hT:WK mF 4 τ κ at_ nt)(htn:nt<=1048576)(ht:τ.1<κ.H.size)(c:τ.2<1000)(hk:1<=k)(h:k<=1000000):
 fP 63 #[.agg #[sl ag ng ng,sl at_ nt nt],.int .i64 k] κ (λv a=>Step (tk τ κ) κ a/\Pr mF τ κ a/\∃k':Int,v=.int .i64 k'/\k<=k'/\k'<=k+1099515822080):=by
 refine fnc 14 (tk τ κ) func63 ntmps63 λo=>?_;have pr:Pr mF τ κ κ:=Pr.refl;refine csr (oB 45 63001 [sl ag ng ng,sl at_ nt nt] o λb i o s0 B=>?_);have pr:=pr.trans (Pr.Y s0);refine op 4 (.int .i64 0) (otx (op 5 (.pointer (some ⟨b,0,none⟩)) (oV B.at 0 (op 7 (.int .i64 k) (ocl 8 (zxA (k:=k) ((pr _ _ _).1 e) (gq ht o.1) hgn om om) ?_)))));rintro _ j ⟨d,p1,k1,rfl,m,n⟩;have o:=o.trM (zfd o) d;have pr:=pr.trans p1;have B:=B.X d (zx6 B c);refine op 1 (.int .i64 k1) (otx (op 9 (.pointer (some ⟨b,1,none⟩)) (oV B.at 1 (op 11 (.int .i64 k1) (ocl 12 (zxy (k:=k1) ((pr _ _ _).2 hT) (gq ht o.1) htn om om) ?_)))));rintro _ l ⟨f,g,k2,rfl,p,q⟩;have o:=o.trM (zfd o) f;have pr:=pr.trans g;exact op 1 (.int .i64 k2) (otx (op 13 (.int .i64 k2) (op 4 (.int .i64 k2) (ot (crt (rT 4 (.int .i64 k2) ⟨o,pr,_,rfl,by omega,by omega⟩))))))
def zpW{κ:K}{τ:Tag}{k:Int}{ap:OA}{np:Nat}(hp:WL mF 2 τ κ ap np)(hpn:np<=1048576)(ht:τ.1<κ.H.size)(d:τ.2<1000)(hk:1<=k)(e:k<=3298534883328):
 fP 29 #[.agg #[sl ap np np],.int .i64 k] κ (λv a=>Step (tk τ κ) κ a/\Pr mF τ κ a/\∃k':Int,v=.int .i64 k'/\k<=k'/\k'<=k+3145728):=by
 refine fnc 10 (tk τ κ) func29 ntmps29 λj=>?_;have pr:Pr mF τ κ κ:=Pr.refl;refine csr (oB 48 29001 [sl ap np np] j λb f j s0 B=>?_);have pr:=pr.trans (Pr.Y s0);refine op 4 (.int .i64 0) (otx (op 5 (.pointer (some ⟨b,0,none⟩)) (oV B.at 0 (op 7 (.int .i64 k) (ocl 8 (zvh (k:=k) ((pr _ _ _).1 hp) (gq ht j.1) hpn om om) ?_)))));rintro _ g ⟨c,p1,k1,rfl,h,i⟩;have j:=j.trM (zfd j) c;have pr:=pr.trans p1;exact op 1 (.int .i64 k1) (otx (op 9 (.int .i64 k1) (op 4 (.int .i64 k1) (ot (crt (rT 4 (.int .i64 k1) ⟨j,pr,_,rfl,by omega,by omega⟩))))))
def zws{κ:K}{τ:Tag}{k:Int}{ag at_ ap:OA}{ng nt np:Nat}{z:Int}(e:WL mF 0 τ κ ag ng)(hgn:ng<=1048576)(hT:WK mF 4 τ κ at_ nt)(htn:nt<=1048576)(hp:WL mF 2 τ κ ap np)(hpn:np<=1048576)(ht:τ.1<κ.H.size)(a:τ.2<1000)(hk:1<=k)(h:k<=1000000):
 fP 28 #[.agg #[sl ag ng ng,sl at_ nt nt,sl ap np np,.int .i64 z],.int .i64 k] κ (λv c=>Step (tk τ κ) κ c/\Pr mF τ κ c/\∃k':Int,v=.int .i64 k'/\k<=k'/\k'<=k+1099518967808):=by
 refine fnc 14 (tk τ κ) func28 ntmps28 λo=>?_;have pr:Pr mF τ κ κ:=Pr.refl;refine csr (oB 50 28001 [sl ag ng ng,sl at_ nt nt,sl ap np np,.int .i64 z] o λb i o s0 B=>?_);have pr:=pr.trans (Pr.Y s0);refine op 4 (.int .i64 0) (otx (op 5 (.pointer (some ⟨b,0,none⟩)) (oL B.at 0 2 (op 7 (.int .i64 k) (ocl 8 (zvg (k:=k) ((pr _ _ _).1 e) hgn ((pr _ _ _).2 hT) htn (gq ht o.1) a om om) ?_)))));rintro _ j ⟨d,p1,k1,rfl,m,n⟩;have o:=o.trM (zfd o) d;have pr:=pr.trans p1;have B:=B.X d (zx6 B a);refine op 1 (.int .i64 k1) (otx (op 9 (.pointer (some ⟨b,2,none⟩)) (oL B.at 2 1 (op 11 (.int .i64 k1) (ocl 12 (zpW (k:=k1) ((pr _ _ _).1 hp) hpn (gq ht o.1) a om om) ?_)))));rintro _ l ⟨f,g,k2,rfl,p,q⟩;have o:=o.trM (zfd o) f;have pr:=pr.trans g;exact op 1 (.int .i64 k2) (otx (op 13 (.int .i64 k2) (op 4 (.int .i64 k2) (ot (crt (rT 4 (.int .i64 k2) ⟨o,pr,_,rfl,by omega,by omega⟩))))))
def zxz{κ:K}{τ:Tag}{k:Int}{as_ ao aq af:OA}{ns no nq nf:Nat}{z:Int}(h:WL mF 3 τ κ as_ ns)(h1n:ns<=1048576)(i:WL mF 3 τ κ ao no)(h2n:no<=1048576)(j:WL mF 1 τ κ aq nq)(h3n:nq<=1048576)(l:WK mF 5 τ κ af nf)(h4n:nf<=1048576)(ht:τ.1<κ.H.size)(a:τ.2<1000)(hk:1<=k)(r:k<=2000000000000):
 fP 30 #[.agg #[.int .i64 z,sl as_ ns ns,sl ao no no,sl aq nq nq,sl af nf nf],.int .i64 k] κ (λv d=>Step (tk τ κ) κ d/\Pr mF τ κ d/\∃k':Int,v=.int .i64 k'/\k<=k'/\k'<=k+1099522113536):=by
 refine fnc 22 (tk τ κ) func30 ntmps30 λo=>?_;have pr:Pr mF τ κ κ:=Pr.refl;refine csr (oB 53 30001 [.int .i64 z,sl as_ ns ns,sl ao no no,sl aq nq nq,sl af nf nf] o λb s o s0 B=>?_);have pr:=pr.trans (Pr.Y s0);refine op 4 (.int .i64 0) (otx (op 5 (.pointer (some ⟨b,1,none⟩)) (oV B.at 1 (op 7 (.int .i64 k) (ocl 8 (zqY (k:=k) ((pr _ _ _).1 h) (gq ht o.1) h1n om om) ?_)))));rintro _ t ⟨e,p1,k1,rfl,y,A⟩;have o:=o.trM (zfd o) e;have pr:=pr.trans p1;have B:=B.X e (zx6 B a);refine op 1 (.int .i64 k1) (otx (op 9 (.pointer (some ⟨b,2,none⟩)) (oV B.at 2 (op 11 (.int .i64 k1) (ocl 12 (zqY (k:=k1) ((pr _ _ _).1 i) (gq ht o.1) h2n om om) ?_)))));rintro _ u ⟨f,m,k2,rfl,C,D⟩;have o:=o.trM (zfd o) f;have pr:=pr.trans m;have B:=B.X f (zx6 B a);refine op 1 (.int .i64 k2) (otx (op 13 (.pointer (some ⟨b,3,none⟩)) (oV B.at 3 (op 15 (.int .i64 k2) (ocl 16 (zoO (k:=k2) ((pr _ _ _).1 j) (gq ht o.1) h3n om om) ?_)))));rintro _ w ⟨g,n,k3,rfl,E,F⟩;have o:=o.trM (zfd o) g;have pr:=pr.trans n;have B:=B.X g (zx6 B a);refine op 1 (.int .i64 k3) (otx (op 17 (.pointer (some ⟨b,4,none⟩)) (oV B.at 4 (op 19 (.int .i64 k3) (ocl 20 (zvi (k:=k3) ((pr _ _ _).2 l) (gq ht o.1) h4n om om) ?_)))));rintro _ x ⟨p,q,c,rfl,G,H⟩;have o:=o.trM (zfd o) p;have pr:=pr.trans q;exact op 1 (.int .i64 c) (otx (op 21 (.int .i64 c) (op 4 (.int .i64 c) (ot (crt (rT 4 (.int .i64 c) ⟨o,pr,_,rfl,by omega,by omega⟩))))))
def zxB{κ:K}{τ:Tag}{k:Int}{ag at_ ap ae as_ ao aq af:OA}{ng nt np ne ns no nq nf:Nat}{nm:BS}{z y:Int}(f:WL mF 0 τ κ ag ng)(hgn:ng<=1048576)(hT:WK mF 4 τ κ at_ nt)(htn:nt<=1048576)(hp:WL mF 2 τ κ ap np)(hpn:np<=1048576)(he:WL mF 2 τ κ ae ne)(hen:ne<=1048576)(g:WL mF 3 τ κ as_ ns)(h1n:ns<=1048576)(h:WL mF 3 τ κ ao no)(h2n:no<=1048576)(i:WL mF 1 τ κ aq nq)(h3n:nq<=1048576)(j:WK mF 5 τ κ af nf)(h4n:nf<=1048576)(ht:τ.1<κ.H.size)(a:τ.2<1000)(hk:1<=k)(p:k<=1000):
 fP 10 #[.agg #[zr nm,sl ag ng ng,sl at_ nt nt,sl ap np np,.int .i64 z,sl ae ne ne,.int .i64 y,sl as_ ns ns,sl ao no no,sl aq nq nq,sl af nf nf],.int .i64 k] κ (λv c=>Step (tk τ κ) κ c/\Pr mF τ κ c/\∃k':Int,v=.int .i64 k'/\k<=k'/\k'<=k+2199044227072):=by
 refine fnc 18 (tk τ κ) func10 ntmps10 λo=>?_;have pr:Pr mF τ κ κ:=Pr.refl;refine csr (oB 55 10001 [zr nm,sl ag ng ng,sl at_ nt nt,sl ap np np,.int .i64 z,sl ae ne ne,.int .i64 y,sl as_ ns ns,sl ao no no,sl aq nq nq,sl af nf nf] o λb q o s0 B=>?_);have pr:=pr.trans (Pr.Y s0);refine op 4 (.int .i64 0) (otx (op 5 (.pointer (some ⟨b,1,none⟩)) (oL B.at 1 4 (op 7 (.int .i64 k) (ocl 8 (zws (z:=z) (k:=k) ((pr _ _ _).1 f) hgn ((pr _ _ _).2 hT) htn ((pr _ _ _).1 hp) hpn (gq ht o.1) a om om) ?_)))));rintro _ r ⟨d,p1,k1,rfl,u,w⟩;have o:=o.trM (zfd o) d;have pr:=pr.trans p1;have B:=B.X d (zx6 B a);refine op 1 (.int .i64 k1) (otx (op 9 (.pointer (some ⟨b,5,none⟩)) (oL B.at 5 1 (op 11 (.int .i64 k1) (ocl 12 (zpW (k:=k1) ((pr _ _ _).1 he) hen (gq ht o.1) a om om) ?_)))));rintro _ s ⟨e,l,k2,rfl,x,A⟩;have o:=o.trM (zfd o) e;have pr:=pr.trans l;have B:=B.X e (zx6 B a);refine op 1 (.int .i64 k2) (otx (op 13 (.pointer (some ⟨b,6,none⟩)) (oL B.at 6 5 (op 15 (.int .i64 k2) (ocl 16 (zxz (z:=y) (k:=k2) ((pr _ _ _).1 g) h1n ((pr _ _ _).1 h) h2n ((pr _ _ _).1 i) h3n ((pr _ _ _).2 j) h4n (gq ht o.1) a om om) ?_)))));rintro _ t ⟨m,n,k3,rfl,C,D⟩;have o:=o.trM (zfd o) m;have pr:=pr.trans n;exact op 1 (.int .i64 k3) (otx (op 17 (.int .i64 k3) (op 4 (.int .i64 k3) (ot (crt (rT 4 (.int .i64 k3) ⟨o,pr,_,rfl,by omega,by omega⟩))))))
def zpm{α:Type}(t:Ty α):Prop:=∀κ κ' cs x,t.own κ cs x->t.own κ' cs x
def zoA:zpm tI64:=λ_ _ _ _ h=>h
def zy8:zpm tU8:=λ_ _ _ _ h=>h
def zBr:zpm tStr:=λ_ _ _ _ h=>h
def zte{α β:Type}{a:Ty α}{b:Ty β}(c:zpm a)(d:zpm b):zpm (tPair a b):=λ_ _ _ _ ⟨e,c2,h,o1,o2⟩=>⟨e,c2,h,c _ _ _ _ o1,d _ _ _ _ o2⟩
def zz4:zpm tGlue:=zte zBr zoA
def znA:zpm tPlaced:=zte (zte zoA zoA) zoA
section
variable {α:Type} {t:Ty α} {κ κ1 κ' κr κ0:K} {a:Option Addr} {c n:Nat} {l:List α} {e:TypeId} {τ:Tag} {pub:Bool}
def Rep.flat(F:zpm t):∀{l:List α} {xs:List Value},Rep t κ xs l->Rep t κ' xs l
 |[],_,h=>h
 | _::_,_,⟨c,xs',h,ho,b⟩=>⟨c,xs',h,F _ _ _ _ ho,Rep.flat F b⟩
def Sl.gh(F:zpm t)(d:κ'.H=κ.H)(f:κ'.fr=κ.fr)(h:Sl t κ a c l):Sl t κ' a c l:=
 ⟨h.cap,h.most,λg=>by
  obtain⟨b,off,ha,he⟩:=h.elems g;refine⟨b,off,ha,λi x hx=>?_⟩;obtain⟨cs,hp,ho⟩:=he i x hx;refine⟨cs,⟨by rw[d];exact hp.1,by rw[f];exact hp.2.1,λj v hv=>?_⟩,F _ _ _ _ ho⟩;have:=hp.2.2 j v hv;unfold K.cell at this ⊢;rw[d];exact this⟩
def Gr.gh(F:zpm t)(d:κ'.H=κ.H)(f:∀b∈blk a c,κ'.fr b=κ.fr b/\κ'.tag b=κ.tag b)(h:Gr t pub τ κ e a c l):Gr t pub τ κ' e a c l:=by
 refine⟨h.most,?_⟩;rcases h.body with h |⟨g,cur,xs,ha,i,hH,k1,k2,k3,j,k,m,p⟩
 ·exact .inl h
 ·by_cases q:c=0
  ·exact .inl ⟨q,bz om⟩
  ·have hb:=f g (by rw[ha];exact zlv (a:=⟨g,0,none⟩) om);exact .inr ⟨g,cur,xs,ha,i.flat F,by rw[d];exact hH,k1,k2,k3,j,hb.1.trans k,hb.2.trans m,p⟩
def Box.gh{b:Nat}{cs:List Value}{T:TypeId}(f:κ'.H=κ.H)(d:κ'.fr b=κ.fr b/\κ'.tag b=κ.tag b)(h:Box τ κ b cs T):Box τ κ' b cs T:=
 ⟨by rw[f];exact h.obj,d.1.trans h.fr,d.2.trans h.tag,h.ge⟩
def zzP{d N c:Nat}{cs:List Value}{T:TypeId}(a:Step [] κ κ1)(hT:∀b,(κ.tag b).2<5000)(B:Box (N,c) κ1 d cs T)(f:c<5000):
  ∃κr:K,κr.H=κ1.H/\κr.fr=κ1.fr/\(∀b,(κr.tag b).2<5000)/\Step [] κ κr/\Box (N,c) κr d cs T:=by
 classical
 refine⟨⟨κ1.H,κ1.fr,λb=>if b<κ.H.size\/b=d then κ1.tag b else(0,5)⟩,rfl,rfl,λb=>?_,⟨a.1,λb hb hn=>?_,λb hb=>?_,λb hb hf=>?_⟩,Box.gh (κ:=κ1) rfl ⟨rfl,if_pos (Or.inr rfl)⟩ B⟩
 ·show(if b<κ.H.size\/b=d then κ1.tag b else(0,5)).2<5000;split
  ·rename_i h;rcases h with h | rfl
   ·rw[(a.2.1 b h si).2.2];exact hT b
   ·rw[B.tag];exact f
  ·decide
 ·have:=a.2.1 b hb hn;exact⟨this.1,this.2.1,(if_pos (.inl hb)).trans this.2.2⟩
 ·exact a.2.2.1 b hb
 ·have:=a.2.2.2 b hb hf;exact⟨(if_pos (.inl hb)).trans this.1,this.2⟩
def zzO(n:Nat)(a:Step [] κ κ1)(hle:κ.H.size<=κr.H.size)(hq:Step [] κr κ1):
  ∃κu:K,κu.H=κ1.H/\Step [] κ κu/\Step [] κr κu/\(∀b,κr.H.size<=b->b<n->κu.fr b=0/\κu.tag b=(κr.H.size,9))/\(∀b,¬(κr.H.size<=b/\b<n)->κu.fr b=κ1.fr b/\κu.tag b=κ1.tag b):=by
 classical
 have key:∀{κ:K},Step [] κ κ1->κ.H.size<=κr.H.size->Step [] κ ⟨κ1.H,λb=>if κr.H.size<=b/\b<n then 0 else κ1.fr b,λb=>if κr.H.size<=b/\b<n then(κr.H.size,9)else κ1.tag b⟩:=λ{κ} a hle=>by
  have hn:∀b,b<κ.H.size->¬(κr.H.size<=b/\b<n):=λb hb h=>by omega
  refine⟨a.1,λb hb h=>?_,λb hb=>?_,λb hb hf=>?_⟩
  ·have:=a.2.1 b hb h;exact⟨this.1,(if_neg (hn b hb)).trans this.2.1,(if_neg (hn b hb)).trans this.2.2⟩
  ·have:=a.2.2.1 b hb;exact⟨gm this.1 (Nat.le_of_eq (if_neg (hn b hb)).symm),this.2⟩
  ·have:=a.2.2.2 b hb hf;exact⟨(if_neg (hn b hb)).trans this.1,this.2⟩
 exact⟨⟨κ1.H,λb=>if κr.H.size<=b/\b<n then 0 else κ1.fr b,λb=>if κr.H.size<=b/\b<n then(κr.H.size,9)else κ1.tag b⟩,rfl,key a hle,key hq (gl _),λb d f=>⟨if_pos ⟨d,f⟩,if_pos ⟨d,f⟩⟩,λb h=>⟨if_neg h,if_neg h⟩⟩
def Hf(κ0 κu:K)(τ:Tag):Prop:=∀b,b<κ0.H.size->5000<=(κ0.tag b).2->κu.fr b=0/\κu.tag b=τ/\τ.1<=b
def zDw{κu:K}(hTr:∀b,(κr.tag b).2<5000)(hq:Step [] κr κ0)(h:∀b,κr.H.size<=b->b<κ0.H.size->κu.fr b=0/\κu.tag b=(κr.H.size,9)):Hf κ0 κu (κr.H.size,9):=λb hb f=>by
 have d:κr.H.size<=b:=by
  rcases gt b κr.H.size with h | h
  ·rw[(hq.2.1 b h si).2.2]at f;have:=hTr b;omega
  ·exact h
 exact⟨(h b d hb).1,(h b d hb).2,d⟩
def zoC{F:Fam}{i S:Nat}{κu:K}{x:List (F.T i)}(hfl:zpm (F.t i))(d:∀y,F.hd i y=[])(h:SlW (F.t i) (F.e i) S κ0 a c x)(s:Step [] κ0 κ1)(hH:κu.H=κ1.H)(hf:Hf κ0 κu τ)(hS:5000<=S):WL F i τ κu a x.length:=
 (zAk (i:=i) (λxs f=>⟨x,rfl,f.flat hfl,λz _ y hy=>by rw[d]at hy;cases hy⟩) rfl h s hH (λb hb e=>hf b hb (by rw[e];exact hS))).wl
end
section
variable {κ0 κ1 κu:K} {τ:Tag} {a:Option Addr} {c S:Nat}
def zAL{x:List Int}{cs:List Value}(h:zpb.own κ0 cs x)(hl:x.length<=1048576)(s:Step [] κ0 κ1)(hH:κu.H=κ1.H)(hf:Hf κ0 κu τ):∃hd:Hd,cs=[.slice hd.1 hd.2.1 hd.2.2]/\Hc mF τ κu (1,hd):=by
 obtain⟨a,c,rfl,hw⟩:=h;exact⟨(a,x.length,c),rfl,hw.2.2,hl,zoC (F:=mF) (i:=1) zoA (λ_=>rfl) hw s hH hf (by decide)⟩
def zBR{x:List (List Int)}(h:SlW zpb 32 S κ0 a c x)(hl:∀y∈x,y.length<=1048576)(s:Step [] κ0 κ1)(hH:κu.H=κ1.H)(hf:Hf κ0 κu τ)(hS:5000<=S):WK mF 5 τ κu a x.length:=by
 refine zAk (F:=mF) (i:=5) (λxs d=>?_) rfl h s hH (λb hb e=>hf b hb (by rw[e];exact hS));have key:∀(x:List (List Int)) xs,(∀y∈x,y.length<=1048576)->Rep zpb κ0 xs x->∃l':List Hd,l'.length=x.length/\Rep tH κu xs l'/\∀z∈l',Hc mF τ κu (1,z):=by
  intro x
  induction x with
  | nil=>exact λxs _ d=>⟨[],rfl,d,λz hz=>by cases hz⟩
  | cons y x ih=>
   rintro xs hl ⟨cs,xs',rfl,ho,d⟩;obtain⟨hd,hcs,hh⟩:=zAL ho (hl y si) s hH hf;obtain⟨l',f,g,j⟩:=ih xs' (λz hz=>hl z (by simp[hz])) d;refine⟨hd::l',by simp[f],⟨cs,xs',rfl,hcs,g⟩,λz hz=>?_⟩;rcases fh.1 hz with rfl | hz
   ·exact hh
   ·exact j z hz
 obtain⟨l',f,g,j⟩:=key x xs hl d;exact⟨l',f,g,λz hz y hy=>by rw[fq.1 hy];exact j z hz⟩
def zAj{x:List (List UInt8×List Int)}(h:SlW zmi 108 S κ0 a c x)(hl:∀y∈x,y.2.length<=1048576)(s:Step [] κ0 κ1)(hH:κu.H=κ1.H)(hf:Hf κ0 κu τ)(hS:5000<=S):WK mF 4 τ κu a x.length:=by
 refine zAk (F:=mF) (i:=4) (λxs d=>?_) rfl h s hH (λb hb e=>hf b hb (by rw[e];exact hS));have key:∀(x:List (List UInt8×List Int)) xs,(∀y∈x,y.2.length<=1048576)->Rep zmi κ0 xs x->∃l':List (List UInt8×Hd),l'.length=x.length/\Rep tTH κu xs l'/\∀z∈l',Hc mF τ κu (1,z.2):=by
  intro x
  induction x with
  | nil=>exact λxs _ d=>⟨[],rfl,d,λz hz=>by cases hz⟩
  | cons y x ih=>
   rintro xs hl ⟨cs,xs',rfl,⟨m,c2,rfl,k,l⟩,d⟩;obtain⟨hd,hcs,hh⟩:=zAL l (hl y si) s hH hf;obtain⟨l',f,g,j⟩:=ih xs' (λz hz=>hl z (by simp[hz])) d;refine⟨(y.1,hd)::l',by simp[f],⟨_,xs',rfl,⟨m,c2,rfl,k,hcs⟩,g⟩,λz hz=>?_⟩;rcases fh.1 hz with rfl | hz
   ·exact hh
   ·exact j z hz
 obtain⟨l',f,g,j⟩:=key x xs hl d;exact⟨l',f,g,λz hz y hy=>by rw[fq.1 hy];exact j z hz⟩
end
def zra{p0:List Int}{p1:Int}{r:Int×List Int}(a:zgK p0 p1=some r):r.2.length=p0.length:=by
 obtain⟨x,hx,a⟩:=bD a;obtain rfl:=Option.some.inj a;have key:∀(n:Nat)(s:List Int×Int×Int) x,zlG n za5 s=some x->x.1.length=s.1.length:=by
  intro n
  induction n with
  | zero=>intro s x h;cases h
  | succ n ih=>
   intro s x h;unfold zlG at h;cases hF:za5 s with
   | none=>rw[hF]at h;cases h
   | some y=>
    rw[hF]at h;unfold za5 at hF;split at hF
    ·obtain⟨_,_,hF⟩:=bD hF;obtain⟨_,b,hF⟩:=bD hF;obtain rfl:=Option.some.inj b;obtain rfl:=Option.some.inj hF;rw[ih _ _ h];simp
    ·obtain rfl:=Option.some.inj hF;injection h with h
     rw[←h]
 obtain⟨n,hn⟩:=zed.1 hx;exact key n _ _ hn
def EBd(x:BS×(TS×(LP)×Int)×(LP)×(Int×LP×LP×LI×LM)):Prop:=
 x.2.1.1.1.length<=1048576/\x.2.1.1.2.length<=1048576/\x.2.1.2.1.length<=1048576/\x.2.2.1.length<=1048576/\x.2.2.2.2.1.length<=1048576/\x.2.2.2.2.2.1.length<=1048576/\x.2.2.2.2.2.2.1.length<=1048576/\x.2.2.2.2.2.2.2.length<=1048576/\(∀y∈x.2.1.1.2,y.2.length<=1048576)/\∀y∈x.2.2.2.2.2.2.2,y.length<=1048576
def laws_FnExactFrameOf_ok{κ:K}{p0:BS×(TS×(LP)×Int)×(LP)×(Int×LP×LP×LI×LM)}{a2 a5 a8 d0 d2 d3 d4 d5:OA}{c3 c6 c9 d6 d7 d8 d9 e0:Nat}(T:p0.1.length<=9223372036854775807)(f4:Sl tGlue κ a2 c3 p0.2.1.1.1)(f7:Sl tTile κ a5 c6 p0.2.1.1.2)(U:Sl tPlaced κ a8 c9 p0.2.1.2.1)(H:I64 p0.2.1.2.2)(V:Sl tPlaced κ d0 d6 p0.2.2.1)(I:I64 p0.2.2.2.1)(X:Sl tPlaced κ d2 d7 p0.2.2.2.2.1)(Y:Sl tPlaced κ d3 d8 p0.2.2.2.2.2.1)(a0:Sl tI64 κ d4 d9 p0.2.2.2.2.2.2.1)(a1:Sl (tSl tI64) κ d5 e0 p0.2.2.2.2.2.2.2)(G0:Glob κ)(hT:∀b,(κ.tag b).2<5000)(hEB:∀z,zjx p0 1048576=some z->decide (z<0)=false->∀x,zbN p0=some x->EBd x){r:Bool}(a:zhN p0=some r):
 fP 3 #[.agg #[zr p0.1,vl a2 p0.2.1.1.1 c3,vl a5 p0.2.1.1.2 c6,vl a8 p0.2.1.2.1 c9,iv p0.2.1.2.2,vl d0 p0.2.2.1 d6,iv p0.2.2.2.1,vl d2 p0.2.2.2.2.1 d7,vl d3 p0.2.2.2.2.2.1 d8,vl d4 p0.2.2.2.2.2.2.1 d9,vl d5 p0.2.2.2.2.2.2.2 e0]] κ (λv κ'=>Step [] κ κ'/\v=.bool r):=by
 refine fnc 96 [] func3 ntmps3 λo=>csr (oB 37 3001 [zr p0.1,vl a2 p0.2.1.1.1 c3,vl a5 p0.2.1.1.2 c6,vl a8 p0.2.1.2.1 c9,iv p0.2.1.2.2,vl d0 p0.2.2.1 d6,iv p0.2.2.2.1,vl d2 p0.2.2.2.2.1 d7,vl d3 p0.2.2.2.2.2.1 d8,vl d4 p0.2.2.2.2.2.2.1 d9,vl d5 p0.2.2.2.2.2.2.2 e0] o λc2 r1 o w8 c=>od 1 (otx (od 1 (otx (oL c.at 0 11 (od 1 (bE a λw9 e3 a=>oC o (ztP T (f4.X o) (f7.X o) (U.X o) H (V.X o) I (X.X o) (Y.X o) (a0.X o) (a1.X o) (iK 1048576) e3) ?_)))))));rintro r2 n9 o _ ⟨rfl,r3⟩;have c:=c.Y n9;refine dT 1 (cs (cT 2 (cc _ a (λy a=>?_) λy a=>?_)))
 ·exact cT 1 (crt (zd (sj a▸rT 2 tt ⟨o,rfl⟩)))
 refine ckt (csr (oL c.at 0 11 (bE a λx0 k7 a=>oC o (zlk T (f4.X o) (f7.X o) (U.X o) H (V.X o) I (X.X o) (Y.X o) (a0.X o) (a1.X o) k7) ?_)));rintro r4 o0 o _ ⟨x2,x3,x4,x5,x6,x7,x8,x9,y0,y1,y2,y3,y4,y5,y6,y7,rfl,k8,o2,o3,o4,k9,o5,l0,o6,o7,o8,o9⟩;have c:=c.Y o0;refine bE a λA l1 a=>oC o (ztG k8 o2 o3 o4 k9 o5 l0 o6 o7 o8 o9 l1) ?_;rintro r5 p1 o _ ⟨e4,e5,rfl,e,r6⟩;have c:=c.Y p1;refine od 5 (otx (oL c.at 0 11 (bE a λf e6 a=>?_)));have hEb:=hEB _ e3 y;obtain⟨κr,hHr,hFr,hTr,hsr,NB⟩:=zzP o hT c (by decide);have e:=e.gh zy8 hHr hFr;have o:=hsr;have c:=NB;refine ziQ hHr ?_;have hq:Step [] κr κr:=Step.refl _ _;have f0r:=e;have B0r:=c.lt;refine oC o (zop T (f4.X o) (f7.X o) (U.X o) H (V.X o) I (X.X o) (Y.X o) (a0.X o) (a1.X o) e6) ?_;rintro p9 e7 o _ ⟨i5,i6,i7,i8,i9,j1,j2,j3,j4,j5,j6,j7,j8,j9,k0,k1,rfl,e8,l,m,n,e9,p,f0,q,s,u,w⟩;have hq:=hq.tr0 e7;obtain⟨e,c⟩:=sQ2 e7 e c;refine xT 6 55 (κr.H.size,3002) hq.1 [zr ([]:BS),sl none 0 0,sl none 0 0,sl none 0 0,iv 0,sl none 0 0,iv 0,sl none 0 0,sl none 0 0,sl none 0 0,sl none 0 0] λl2 q0 O d=>?_;have o:=o.tr0 O;have hq:=hq.tr0 O;obtain⟨e,l,m,n,p,q⟩:=sQ6 O e l m n p q;obtain⟨s,u,w,c⟩:=sQ4 O s u w c;refine xM 55 [zr f.1,vl i5 f.2.1.1.1 i6,vl i7 f.2.1.1.2 i8,vl i9 f.2.1.2.1 j1,iv f.2.1.2.2,vl j2 f.2.2.1 j3,iv f.2.2.2.1,vl j4 f.2.2.2.2.1 j5,vl j6 f.2.2.2.2.2.1 j7,vl j8 f.2.2.2.2.2.2.1 j9,vl k0 f.2.2.2.2.2.2.2 k1] d λP k _ c5=>?_;have o:=o.trB (gm hsr.1 d.ge) k;have hq:=hq.trB d.ge k;have e:=e.X k;have l:=l.X k;have m:=m.X k;have n:=n.X k;have p:=p.X k;have q:=q.X k;have s:=s.X k;have u:=u.X k;have w:=w.X k;have c:=c.X k (nm1 (c.ne d (zk kr)));have d:=c5;have f1:=l;have f2:=m;have f3:=n;have f5:=p;have f6:=q;have f8:=s;have f9:=u;have g0:=w;have hk:Step [] P P:=Step.refl _ _;have p2:=hq;refine otx (oL d.at 0 11 (bE a λB g4 a=>ocl 29 (zpj e8 l.sl m.slT n.sl e9 p.sl f0 q.sl s.sl u.sl w.slR (G0.X o) g4) ?_));rintro _ g5 ⟨J,g1,L,M,rfl,C,j,q1⟩;have gx:=C;have C:=gm o.1 C;have o:=o.tr0 J;have hk:=hk.tr0 J;have hq:=hq.tr0 J;obtain⟨e,l,m,n,p,q⟩:=sQ6 J e l m n p q;obtain⟨s,u,w,c,d⟩:=sQ5 J s u w c d;refine dT 5 (cs ?_);refine zm (λZ=>∀(a4:Bool)(E0:Env),zcM p0 A f B a4=some r->cwp prog 96 (sub (zB Tryz.f3) [1,0,1,1,1,1,1,1,1]) Z (ups E0 [(1,pt c2 0),(4,vl e4 A.1 e5),(5,iv A.2),(6,pt l2 0),(7,vl L B.1 M),(8,iv B.2),(40,.bool a4)]) g5) ?_ λJ1=>?_
 ·intro a4 E0 a;refine cc _ a (λy a=>?_) λy a=>?_
  ·exact cT 1 (crt (zd (sj a▸rT 2 ff ⟨o,rfl⟩)))
  refine ckt (cs (cs (cx_ 3 [0,1,2] [2] 3 [] (xL d.at 0 11 (xL c.at 0 11 (bE a λr7 g6 a=>xcl 43 (zlk T (f4.X o) (f7.X o) (U.X o) H (V.X o) I (X.X o) (Y.X o) (a0.X o) (a1.X o) g6) ?_))))));rintro _ q2 ⟨D,r8,r9,s0,s1,s2,s3,s4,s5,s6,s7,s8,s9,t0,t1,t2,t3,rfl,g7,l3,l4,l5,g8,l6,g9,l7,l8,l9,m0⟩;refine⟨D,?_⟩;have o:=o.tr0 D;have hk:=hk.tr0 D;have hq:=hq.tr0 D;obtain⟨e,l,m,n,p,q⟩:=sQ6 D e l m n p q;obtain⟨s,u,w,j,c,d⟩:=sQ6 D s u w j c d;refine xe (bE a λt4 h0 a=>oC o (ztT e8 l.sl m.slT n.sl e9 p.sl f0 q.sl s.sl u.sl w.slR g7 l3 l4 l5 g8 l6 g9 l7 l8 l9 m0 h0) ?_);rintro q3 Q o _ rfl;have hk:=hk.tr0 Q;have hq:=hq.tr0 Q;obtain⟨e,l,m,n,p,q⟩:=sQ6 Q e l m n p q;obtain⟨s,u,w,j,c,d⟩:=sQ6 Q s u w j c d;refine dT 1 (cc _ a (λy a=>?_) λy a=>?_)
  ·exact cT 1 (crt (zd (sj a▸rT 2 ff ⟨o,rfl⟩)))
  refine ckt (cO 1 (otx (oL d.at 0 11 (od 1 (bE a λa6 h2 a=>?_)))));have⟨b1,b2,b3,b4,b5,b6,b7,b8,b9,p4⟩:=hEb _ e6;obtain⟨κu,hHu,hsu,hqu,hXy,hXn⟩:=zzO P.H.size o hsr.1 hq;have hf:=zDw hTr p2 hXy;have hcall:fP 10 #[.agg #[zr f.1,vl i5 f.2.1.1.1 i6,vl i7 f.2.1.1.2 i8,vl i9 f.2.1.2.1 j1,iv f.2.1.2.2,vl j2 f.2.2.1 j3,iv f.2.2.2.1,vl j4 f.2.2.2.2.1 j5,vl j6 f.2.2.2.2.2.1 j7,vl j8 f.2.2.2.2.2.2.1 j9,vl k0 f.2.2.2.2.2.2.2 k1],iv 1] κu (λv κ'=>Step (tk (κr.H.size,9) κu) κu κ'/\Pr mF (κr.H.size,9) κu κ'/\∃k':Int,v=iv k'/\1<=k'/\k'<=1+2199044227072):=by
    rw[f1.2.2,f2.2.2,f3.2.2,f5.2.2,f6.2.2,f8.2.2,f9.2.2,g0.2.2];exact zxB (zoC (F:=mF) (i:=0) zz4 (λ_=>rfl) f1 hk hHu hf (by decide)) b1 (zAj f2 b9 hk hHu hf (by decide)) b2 (zoC (F:=mF) (i:=2) znA (λ_=>rfl) f3 hk hHu hf (by decide)) b3 (zoC (F:=mF) (i:=2) znA (λ_=>rfl) f5 hk hHu hf (by decide)) b4 (zoC (F:=mF) (i:=3) znA (λ_=>rfl) f6 hk hHu hf (by decide)) b5 (zoC (F:=mF) (i:=3) znA (λ_=>rfl) f8 hk hHu hf (by decide)) b6 (zoC (F:=mF) (i:=1) zoA (λ_=>rfl) f9 hk hHu hf (by decide)) b7 (zBR g0 p4 hk hHu hf (by decide)) b8 (by rw[hHu];exact gq (Nat.lt_of_le_of_lt d.ge d.lt) (gl _)) (show(9:Nat)<1000 by decide) (by decide) (by decide)
  have m1:a6=1:=(sj (h2.symm.trans rfl));refine ziQ hHu (ocl 48 hcall ?_);rintro _ h3 ⟨R,_,a7,rfl,q4,_⟩;have E:∀g∈tk (κr.H.size,9) κu,κr.H.size<=g:=λg E=>(zjr.1 E).2.2;have o:=hsu.trG (λg h=>gm hsr.1 (E g h)) R;have e:=f0r.X (hqu.trG E R);have g2:Gr tU8 false (g1,55001) κu 5 L M B.1:=j.gh zy8 hHu (λb hb=>hXn b λh=>by have:=(j.lt b hb).2.2;have:g1<=b:=this;omega);have j:=g2.X R (λg p5 p6=>by have h1:=(g2.lt g p5).2.1;rw[(zjr.1 p6).2.1]at h1;exact absurd (congrArg Prod.snd h1) (show(9:Nat)≠55001 by decide));have m2:=c.gh hHu (hXn c2 λh=>by omega);have c:=m2.X R (λh=>by have:=E _ h;omega);refine dT 1 (cs ?_);refine zm (λZ=>∀(a9:Bool)(E0:Env),za6 p0 A B a9=some r->cwp prog 96 (sub (zB Tryz.f3) [1,0,1,1,1,1,1,1,1,1,1,1,1]) Z (ups E0 [(1,pt c2 0),(4,vl e4 A.1 e5),(5,iv A.2),(7,vl L B.1 M),(61,.bool a9)]) h3) ?_ λJ2=>?_
  ·intro a9 E0 a;refine cc _ a (λy a=>?_) λy a=>?_
   ·exact cT 1 (crt (zd (sj a▸rT 2 ff ⟨o,rfl⟩)))
   refine ckt (cO 1 (otx (od 2 ?_)));obtain⟨u4,c7,c8,j⟩:=j.low C c.tlt;refine bE a λS c4 a=>ocl 64 (zse j c8 (iK 1) c4) ?_;rintro _ q5 ⟨b0,rfl,q6,G⟩;have o:=o.trM (zwp (j.own c7)) b0;have e:=e.X b0;have c:=c.X b0 (j.bn c (zk kr));have c0:=zra c4;refine zT (zb (t:=7) (v:=vl L S.2 M) (eA 5 (v:=iv A.2) (eA 4 (v:=vl e4 A.1 e5) (eA 1 (v:=pt c2 0) rfl))) (by unfold vl;rw[c0];kernel_rfl)) (od 1 (otx (od 1 (otx (od 2 (bE a λu5 h4 a=>ocl 67 (Fn.borrow0 G (λ_ _ sb gb=>znv gb.sl (iK 1) h4)) ?_))))));rintro _ _ ⟨rfl,rfl,q7⟩;refine dT 1 (cs (cT 2 (cc _ a (λy a=>?_) λy a=>?_)))
   ·exact cT 1 (crt (zd (sj a▸rT 2 ff ⟨o,rfl⟩)))
   refine ckt (cs (cT 3 (cc _ a (λy a=>?_) λy a=>?_)))
   ·exact cT 1 (crt (zd (sj a▸rT 2 ff ⟨o,rfl⟩)))
   refine ckt (csr (oL c.at 0 11 (bE a λu6 h5 a=>oC o (zlk T (f4.X o) (f7.X o) (U.X o) H (V.X o) I (X.X o) (Y.X o) (a0.X o) (a1.X o) h5) ?_)));rintro q8 m4 o _ ⟨u7,u8,u9,v0,v1,v2,v3,v4,v5,v6,v7,v8,v9,w1,w2,w3,rfl,h6,m5,m6,m7,h7,m8,h8,m9,n0,n1,n2⟩;obtain⟨e,G⟩:=sQ2 m4 e G;refine bE a λn3 h9 a=>ocl 76 (zpj h6 m5 m6 m7 h7 m8 h8 m9 n0 n1 n2 (G0.X o) h9) ?_;rintro _ i0 ⟨g3,w4,w5,w6,rfl,N,n4,q9⟩;have N:=gm o.1 N;have o:=o.tr0 g3;obtain⟨e,G⟩:=sQ2 g3 e G;refine dT 5 (cs ?_);refine zm (λZ=>∀(c1:Bool)(E0:Env),zcL S c1=some r->cwp prog 96 (sub (zB Tryz.f3) [1,0,1,1,1,1,1,1,1,1,1,1,1,1,1,1,1,1,1,1,1]) Z (ups E0 [(7,vl L S.2 M),(10,iv S.1),(87,.bool c1)]) i0) ?_ λJ3=>?_
   ·intro c1 E0 a;refine cc _ a (λy a=>?_) λy a=>?_
    ·exact cT 1 (crt (zd (sj a▸rT 2 ff ⟨o,rfl⟩)))
    refine ckt (cO 1 (otx (od 2 (bE a λw7 i1 a=>ocl 90 (Fn.borrow0 G (λ_ _ sb gb=>znv gb.sl (iK 1) i1)) ?_))));rintro _ _ ⟨rfl,rfl,r0⟩;refine dT 1 (cs (cT 2 (cc _ a (λy a=>?_) λy a=>?_)))
    ·exact cT 1 (crt (zd (sj a▸rT 2 ff ⟨o,rfl⟩)))
    refine ckt (cs (cT 3 (cc _ a (λy a=>?_) λy a=>?_)))
    ·exact cT 1 (crt (zd (sj a▸rT 2 ff ⟨o,rfl⟩)))
    exact ckt (cT 1 (crt (sj a▸rT 2 tt ⟨o,rfl⟩)))
   refine cO 2 (bE a λn5 i2 a=>ocl 81 (Fn.borrow0 n4 (λ_ _ sb gb=>zlp gb.sl (e.X sb) i2)) ?_);rintro _ _ ⟨rfl,rfl⟩;refine od 1 (osp 83 (!n5) a (λE a=>?_) λE a=>?_)
   ·exact dT 4 (zl eY (J3 (!decide (n3.2=A.2))  _  a))
   exact oz [84,85,86] (dT 1 (zl eY (J3 true  _  a)))
  refine cO 1 (op 50 (Value.bool<|decide (a7<0)) ?_);rw[show decide (a7<0)=decide (a6<0) by rw[m1,decide_eq_false (show ¬a7<0 by omega)];rfl];refine osp 51 (decide (a6<0)) a (λE a=>?_) λE a=>?_
  ·refine od 2 (bE a λn6 i3 a=>ocl 54 (Fn.borrow0 j (λ_ _ sb gb=>zlp gb.sl (e.X sb) i3)) ?_);rintro _ _ ⟨rfl,rfl⟩;refine od 2 (osp 57 (!n6) a (λE a=>?_) λE a=>?_)
   ·exact dT 4 (zl eY (J2 (!decide (B.2=A.2))  _  a))
   exact oz [58,59,60] (dT 1 (zl eY (J2 true  _  a)))
  exact oz [52,53,54,55] (od 2 (oz [58,59,60] (dT 1 (zl eY (J2 true  _  a)))))
 refine cO 2 (bE a λn7 i4 a=>ocl 34 (Fn.borrow0 j (λ_ _ sb gb=>zlp gb.sl (e.X sb) i4)) ?_);rintro _ _ ⟨rfl,rfl⟩;refine od 1 (osp 36 (!n7) a (λE a=>?_) λE a=>?_)
 ·exact dT 4 (zl eY (J1 (!decide (B.2=A.2))  _  a))
 exact oz [37,38,39] (dT 1 (zl eY (J1 true  _  a)))
end Go.Lf
