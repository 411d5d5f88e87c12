/- FnExactFrameOf, called with any entry, returns true. -/
import Derived.Test.YtiobnnnacoginaaGreatDoorK
import Derived.Test.YtiobnnnacoginaaGreatDoorL
import Derived.Test.YtiobnnnacoginaaGreatDoorRows
import Derived.ProofKit
import Derived.Deep.Slices
import Derived.Test.YtiobnnnacoginaaGreatDoorTie
import Derived.Test.YtiobnnnacoginaaGreatDoorCards
import Derived.LaidMore
import Derived.LaidLaws
import Derived.LaidHandle
import Derived.LaidSub
import Derived.OpenShut
import Derived.OpenVars
import Derived.SevenTiedAt
import Derived.Lib.LaidTab
import Derived.Lib.LaidU8
set_option linter.all false
set_option maxRecDepth 100000
set_option maxHeartbeats 4000000
namespace Go.Lf
open Go
def zC7:zpC=zfS:=rfl
def zCr:zlM=zgP:=rfl
def zzk(l:List Int)(h:l.length<=2000000):∃s,zfS l=some s:=by
 obtain⟨x,hx,_⟩:=zz (F:=zfx l) (λs=>∃i:Nat,s.2.2=(i:Int)/\i<=l.length) (λs=>(l.length - s.2.2).toNat) (λ_=>True) (by
  rintro⟨a,b,j⟩ ⟨i,rfl,hi⟩;unfold zfx;by_cases hc:i<l.length
  ·left;have e3:w64 ((i:Int)+1)=((i+1:Nat):Int):=zax ⟨by omega,by omega⟩;rw[if_pos (by simp[hc])];simp only[zq (List.getElem?_eq_getElem hc),Option.bind_some,e3];exact⟨_,rfl,⟨i+1,rfl,by omega⟩,by simp only[];omega⟩
  ·right;rw[if_neg (by simp;omega)];exact⟨_,rfl,trivial⟩) (1,0,0) ⟨0,rfl,Nat.zero_le _⟩
 exact⟨_,by unfold zfS;rw[hx];rfl⟩
def zCB(a b c:List Int)(ha:a.length<=1000000)(hb:b.length<=1000000)(hc:c.length<=1000000)(h0:0<a.length):zhg [a,b,c]=some (a++b++c):=by
 have w:∀n:Nat,n<=4000000->w64 (n:Int)=n:=λn h=>zax ⟨by omega,by omega⟩;have n1:z1 [a,b,c] (0,0)=some (.inl ((a.length:Int),1)):=by
  unfold z1 idx;simp[w a.length (by omega),show w64 1=1 by decide]
 have n2:z1 [a,b,c] ((a.length:Int),1)=some (.inl (((a.length+b.length:Nat):Int),2)):=by
  have e:=w (a.length+b.length) (by omega);unfold z1 idx;simp only[Int.natCast_add]at e ⊢;simp[e,show w64 2=2 by decide];omega
 have n3:z1 [a,b,c] (((a.length+b.length:Nat):Int),2)=some (.inl (((a.length+b.length+c.length:Nat):Int),3)):=by
  have e:=w (a.length+b.length+c.length) (by omega);unfold z1 idx;simp only[Int.natCast_add]at e ⊢;simp[e,show w64 3=3 by decide];omega
 have n4:z1 [a,b,c] (((a.length+b.length+c.length:Nat):Int),3)=some (.inr ((a.length+b.length+c.length:Nat):Int)):=by
  unfold z1;rw[if_neg (by simp)]
 have ap:∀x y:List Int,x.length<=4000000->y.length<=4000000->app 1 x y=some (x++y):=λx y h1 h2=>zaL (by omega);have m1:zZ [a,b,c] ([],0)=some (.inl (a,1)):=by
  unfold zZ idx;simp[ap [] a (by simp) (by omega),show w64 1=1 by decide]
 have m2:zZ [a,b,c] (a,1)=some (.inl (a++b,2)):=by
  unfold zZ idx;simp[ap a b (by omega) (by omega),show w64 2=2 by decide]
 have m3:zZ [a,b,c] (a++b,2)=some (.inl (a++b++c,3)):=by
  unfold zZ idx;simp[ap (a++b) c (by simp;omega) (by omega),show w64 3=3 by decide]
 have m4:zZ [a,b,c] (a++b++c,3)=some (.inr (a++b++c)):=by
  unfold zZ;rw[if_neg (by simp)]
 unfold zhg zhJ zhI zjm;rw[zv n1,zv n2,zv n3,zC n4];simp only[Option.bind_some];rw[if_pos ⟨by omega,by omega⟩];simp only[Option.bind_some];rw[zv m1,zv m2,zv m3,zC m4];rfl
def zBn{t:List UInt8}(h:t.length<=1000000):∃r,zo1 t=some r/\zkB t=some r/\r.length=t.length+8:=by
 obtain⟨s,hs⟩:=zzk (zy t) (by rw[zF];omega);unfold zo1 zkB;rw[zCr,zC7];simp only[hs];unfold zgP;simp only[Option.bind_some];rw[zCB _ _ _ (by simp) (by rw[zF];omega) (by simp) (by simp),zaL (by rw[zF];simp;omega)];simp only[Option.bind_some];rw[zaL (by simp[zF];omega)];exact⟨_,rfl,rfl,by simp[zF]⟩
def zyu{e:En}(hs:ES e)(hp:PI e.2.2.2)(ht:I64 e.2.1.2.2):∃r,zjX e=some r/\zlR e=some r/\r.1.length<=1000008:=by
 obtain⟨b,b1,b2,b3⟩:=zqT hs;obtain⟨t,t1,t2,tl⟩:=zwI hs hp ht;unfold zjX zlR;rw[b1,b2];simp only[Option.bind_some];cases b with
 | false=>exact⟨([],10),rfl,rfl,by simp⟩
 | true=>
  rw[t1,t2];simp only[Bool.not_true,Bool.false_eq_true,if_false,Option.bind_some];by_cases h0:t=[]
  ·rw[if_pos (by simpa using h0),if_pos (by simpa using h0)];exact⟨([],4),rfl,rfl,by simp⟩
  ·obtain⟨r,r1,r2,r3⟩:=zBn (t:=t) (by omega);rw[if_neg (by simpa using h0),if_neg (by simpa using h0),r1,r2];exact⟨(r,0),rfl,rfl,by show r.length<=_;omega⟩
def zxR(l:List Int)(h:l.length<=2000000):zhn l l=some true:=by
 unfold zhn zlq;rw[if_neg (by simp),zq7 l h (zfK l l) (λi x hx=>by unfold zfK;rw[if_pos (by have:=zA hx;simp;omega)];simp[zq hx]) (by unfold zfK;rw[if_neg (by simp)])];rfl
def zyn(l:List Int)(hl:l.length<=2000000):∃l',zgK l 1=some (1+(l.length:Int),l')/\zgL l' 1=some (1+(l.length:Int)):=by
 have key:=zz (F:=za5) (λs=>∃i:Nat,s.2.2=(i:Int)/\i<=l.length/\s.2.1=1+(i:Int)/\s.1.length=l.length/\∀(j:Nat) y,j<i->s.1[j]?=some y->y=IntKind.wrap .u8 (1+(j:Int))) (λs=>(l.length - s.2.2).toNat)
  (λz=>z.2=1+(l.length:Int)/\z.1.length=l.length/\∀(j:Nat) y,z.1[j]?=some y->y=IntKind.wrap .u8 (1+(j:Int))) ?_ (l,1,0) ⟨0,rfl,Nat.zero_le _,rfl,rfl,λj y hj=>absurd hj (Nat.not_lt_zero _)⟩
 ·obtain⟨⟨l',k'⟩,hz,e,h,hm⟩:=key;simp only at e h hm;subst e;refine⟨l',by unfold zgK zjA;rw[hz];rfl,?_⟩;have key2:=zz (F:=zgm l') (λs=>∃i:Nat,s.2=(i:Int)/\i<=l'.length/\s.1=1+(i:Int)) (λs=>(l'.length - s.2).toNat) (λz=>z=.inl (1+(l'.length:Int))) ?_ (1,0) ⟨0,rfl,Nat.zero_le _,rfl⟩
  ·obtain⟨z,hz,rfl⟩:=key2;unfold zgL zjB;rw[hz];simp only[Option.bind_some,h]
  ·rintro⟨q,i1⟩ ⟨i,rfl,hi,rfl⟩;simp only at hi ⊢;unfold zgm;by_cases hc:i<l'.length
   ·left;have hx:l'[i]?=some l'[i]:=List.getElem?_eq_getElem hc;have e1:w64 (1+(i:Int)+1)=1+((i+1:Nat):Int):=(zax ⟨by omega,by omega⟩).trans (by omega);have e3:w64 ((i:Int)+1)=((i+1:Nat):Int):=zax ⟨by omega,by omega⟩;rw[if_pos (by simp[hc])];simp only[zq hx,Option.bind_some,e1,e3];rw[if_neg (by rw[←hm i _ hx];simp)];exact⟨_,rfl,⟨i+1,rfl,by omega,rfl⟩,by simp only[];omega⟩
   ·right;rw[if_neg (by simp;omega)];have:i=l'.length:=by omega
    exact⟨_,rfl,by simp only[this]⟩
 ·rintro⟨m,q,i1⟩ ⟨i,rfl,hi,rfl,g2,g3⟩;simp only at hi g2 g3 ⊢;unfold za5;by_cases hlt:i<m.length
  ·left;have hx:m[i]?=some m[i]:=List.getElem?_eq_getElem hlt;have e1:w64 (1+(i:Int)+1)=1+((i+1:Nat):Int):=(zax ⟨by omega,by omega⟩).trans (by omega);have e3:w64 ((i:Int)+1)=((i+1:Nat):Int):=zax ⟨by omega,by omega⟩;rw[if_pos (by simp[hlt])];simp only[zq hx,Option.bind_some,Int.toNat_natCast,e1,e3];refine⟨_,rfl,⟨i+1,rfl,by omega,rfl,by simp only[List.length_set];exact g2,λj y hj hy=>?_⟩,by simp only[];omega⟩;simp only at hy;by_cases hji:i=j
   ·subst hji;rw[zU hlt]at hy;injection hy with hy
    rw[←hy]
   ·rw[zL hji]at hy;exact g3 j y (by omega) hy
  ·right;rw[if_neg (by simp;omega)];have:i=l.length:=by omega
   subst this;exact⟨_,rfl,rfl,g2,λj y hy=>g3 j y (by have:=zA hy;simp only at this;omega) hy⟩
def frame_law{p:En}(h:EB p)(ht:I64 p.2.1.2.2)(q1:∀o∈p.2.2.2.2.1,∀n∈optN o,I64 n)(q2:∀o∈p.2.2.2.2.2.1,∀n∈optN o,I64 n)(c1:∀n∈p.2.2.2.2.2.2.1,I64 n)(f1:∀l∈p.2.2.2.2.2.2.2,∀n∈l,I64 n):
  zhN p=some true:=by
 obtain⟨k,hk,hor⟩:=zyP h;unfold zhN;rw[hk];simp only[Option.bind_some];rcases hor with h0 |⟨h0,_,hs⟩
 ·rw[if_pos (by simpa using h0)]
 ·rw[if_neg (by simp;omega),zoE hs];simp only[Option.bind_some];obtain⟨r,r1,r2,r3⟩:=zyu hs ⟨q1,q2,c1,f1,hs.2.2.2.2.1,hs.2.2.2.2.2.1,hs.2.2.2.2.2.2.1,hs.2.2.2.2.2.2.2.1,hs.2.2.2.2.2.2.2.2⟩ ht;have er:=zxR r.1 (by omega);obtain⟨l',m1,m2⟩:=zyn r.1 (by omega);rw[r1,r2];simp only[Option.bind_some,er];rw[if_neg (by simp)];unfold zcM;rw[if_neg (by simp),zoE hs];simp only[Option.bind_some,zwH hs];rw[if_neg (by simp)];unfold zp1;simp only[Option.bind_some,er];rw[if_neg (by simp),if_neg (by simp)];unfold za6;rw[if_neg (by simp),m1];simp only[Option.bind_some,m2];rw[if_neg (by simp;omega),if_neg (by simp),zoE hs];simp only[Option.bind_some,r1,er];rw[if_neg (by simp)];unfold zcL;rw[if_neg (by simp)];simp only[m2,Option.bind_some];rw[if_neg (by simp;omega),if_neg (by simp)]
def sizes_of{p:En}(h:EB p){z:Int}(hz:zjx p 1048576=some z)(hn:decide (z<0)=false){x:En}(hx:zbN p=some x):x=p/\ES p:=by
 obtain⟨k,hk,hor⟩:=zyP h;obtain rfl:=Option.some.inj (hk.symm.trans hz);rcases hor with h0 |⟨_,_,hs⟩
 ·exact absurd h0 (of_decide_eq_false hn)
 ·exact⟨(Option.some.inj (hx.symm.trans (zoE hs))),hs⟩
end Go.Lf
namespace Go.Proofs.YtiobnnnacoginaaGreatDoor
open Go Go.ChangeShapes Go.WideShapes Go.ChangeAt Go.RowKit Go.Deep
def hsz(H:Array Obj)(b:Nat):Nat:=match H[b]? with | some (.cells c _ _)=>c.size | _=>0
def start(W:World):Lf.K:=⟨W.heap,λb=>hsz W.heap b,λ_=>(0,5)⟩
def zyD{W:World}{b o:Nat}{v:Value}(h:W.cell? ⟨b,o,none⟩=some v):∃c T k,W.heap[b]?=some (.cells c T k)/\c[o]?=some v:=by
 unfold World.cell? at h;split at h
 ·rename_i c T k hH;simp only[Option.isSome_none,Bool.false_eq_true,if_false]at h;exact⟨c,T,k,hH,h⟩
 ·cases h
def zzy{W:World}{b off n:Nat}{cs:List Value}(hn:1<=n)(h:W.cells? 0 ⟨b,off,none⟩ n=some cs):Lf.PubAt (start W) b off cs:=by
 obtain⟨_,hl,hc⟩:=World.cells?_some h;have hcell:∀i,i<n->∃v c T k,cs[i]?=some v/\W.heap[b]?=some (.cells c T k)/\c[off+i]?=some v:=λi hi=>by
  have h1:=hc i hi;rw[Go.WideShapes.add_plain,List.getElem?_eq_getElem (by omega)]at h1;obtain⟨c,T,k,h2,h3⟩:=zyD h1;exact⟨_,c,T,k,List.getElem?_eq_getElem (by omega),h2,h3⟩
 obtain⟨v,c,T,k,_,hH,hv⟩:=hcell (n - 1) (by omega);have hz0:off+(n - 1)<c.size:=(Array.getElem?_eq_some_iff.1 hv).1;refine⟨(Array.getElem?_eq_some_iff.1 hH).1,?_,λj v hj=>?_⟩
 ·show off+cs.length<=hsz W.heap b;unfold hsz;rw[hH];simp only;omega
 ·have hjn:j<n:=by rw[←hl];exact(List.getElem?_eq_some_iff.1 hj).1
  obtain⟨v',c',T',k',e1,e2,e3⟩:=hcell j hjn;rw[hj]at e1;injection e1 with e1
  subst e1;unfold Lf.K.cell start;simp only[e2];exact e3
section
variable {H:Type} {enc:TypeId×Value->H} {W:World} {α β:Type}
def Op(enc:TypeId×Value->H)(W:World)(t:Lf.Ty α)(T:TypeId):Prop:=∀fuel cs x,DataW.trod enc Tryz.prog W 0 (λ_=>true) true fuel T cs=some x->∃l,t.own (start W) cs l
def zDl{T:TypeId}(hu:Tryz.prog.underlying T=some (.int .i64)):Op enc W Lf.tI64 T:=λfuel cs x h=>by
 obtain⟨n,rfl,_,hw⟩:=DataW.trod_int hu h;simp[Lit.wf,IntKind.min,IntKind.max,IntKind.signed,IntKind.bits]at hw;exact⟨n,rfl,by unfold Lf.I64;omega⟩
def zDk{T:TypeId}(hu:Tryz.prog.underlying T=some .string):Op enc W Lf.tStr T:=λfuel cs x h=>by
 obtain⟨s,rfl,_,hw⟩:=DataW.trod_string hu h;refine⟨s.data.toList,rfl,?_⟩;have:s.data.toList.length=s.size:=by simp
 unfold maxLen at hw;omega
noncomputable def zlL(T:TypeId)(l:List (TypeId×Nat)):Bool:=match Tryz.prog.underlying T with
 | some (.struct fs)=>fs.toList.map (λf=>(f.type,f.offset)) == l
 | _=>false
def zoK{T:TypeId}{l:List (TypeId×Nat)}(hu:zlL T l=true){fuel:Nat}{cs:List Value}{x:DataW H×List MemPlace}(h:DataW.trod enc Tryz.prog W 0 (λ_=>true) true fuel T cs=some x):
  cs.length=Tryz.prog.cellsOf T/\∀(i:Nat)(A:TypeId)(o:Nat),l[i]?=some (A,o)->∃y n,DataW.trod enc Tryz.prog W 0 (λ_=>true) true n A ((cs.drop o).take (Tryz.prog.cellsOf A))=some y:=by
 unfold zlL at hu;split at hu
 ·rename_i fs hfs;have hl:fs.toList.map (λf=>(f.type,f.offset))=l:=by simpa using hu
  obtain⟨xs,n,_,_,hlen,hxl,hf⟩:=DataW.trod_struct hfs h;refine⟨hlen,λi A o hi=>?_⟩;rw[←hl,List.getElem?_map]at hi;obtain⟨f,hf',e⟩:=Option.map_eq_some_iff.1 hi;injection e with e1 e2
  have hfi:fs[i]?=some f:=by simpa using hf'
  have g:=hf i f hfi;have hi':i<xs.length:=by rw[hxl];exact(Array.getElem?_eq_some_iff.1 hfi).1
  rw[e1,e2,List.getElem?_eq_getElem hi']at g;exact⟨_,n,g⟩
 ·cases hu
def zr1{T A B:TypeId}{a:Lf.Ty α}{b:Lf.Ty β}(hu:zlL T [(A,0),(B,a.size)]=true)(hT:Tryz.prog.cellsOf T=a.size+b.size)(hA:Tryz.prog.cellsOf A=a.size)(hB:Tryz.prog.cellsOf B=b.size)(oA:Op enc W a A)(oB:Op enc W b B):Op enc W (Lf.tPair a b) T:=λfuel cs x h=>by
 obtain⟨hlen,hf⟩:=zoK hu h;obtain⟨y0,n0,g0⟩:=hf 0 A 0 rfl;obtain⟨y1,n1,g1⟩:=hf 1 B a.size rfl;rw[hA,List.drop_zero]at g0;rw[hB,List.take_of_length_le (by rw[List.length_drop];omega)]at g1;obtain⟨l0,e0⟩:=oA _ _ _ g0;obtain⟨l1,e1⟩:=oB _ _ _ g1;exact⟨(l0,l1),cs.take a.size,cs.drop a.size,(List.take_append_drop _ _).symm,e0,e1⟩
def zvH[Inhabited α]{T E:TypeId}{t:Lf.Ty α}(hu:Tryz.prog.underlying T=some (.slice E))(hC:Tryz.prog.cellsOf E=t.size)(h1:1<=t.size)(oE:Op enc W t E):Op enc W (Lf.tSl t) T:=λfuel cs x h=>by
 rcases open_slice hu h with⟨rfl,_⟩ |⟨a,len,cap,m,n,D,Pl,rfl,hb,hl,hm,hmm,_,hi⟩
 ·exact⟨[],none,0,rfl,Nat.le_refl _,by simp,λh=>by cases h⟩
 ·have hlm:len<=m:=by rw[hmm];simpa using hl
  rw[hC]at hi;obtain⟨f,hf⟩:=choose_lt (n:=len) (p:=λi (x:α)=>∃cs',W.cells? 0 (a.add (i*t.size)) t.size=some cs'/\t.own (start W) cs' x) (λi hi'=>by
   obtain⟨cs',h1,h2⟩:=hi i (by omega);obtain⟨l,hl⟩:=oE _ _ _ h2;exact⟨l,cs',h1,hl⟩)
  refine⟨(List.range len).map f,some a,cap,by simp,by simpa using hl,by unfold maxLen at hm;simp;omega,λh0=>?_⟩;have h0':0<len:=by simpa using h0
  obtain⟨cs0,hc0,_⟩:=hf 0 h0';obtain⟨b,off,spot⟩:=a;obtain⟨_,hl0,hcell⟩:=World.cells?_some hc0;have hc1:=hcell 0 (by omega);rw[List.getElem?_eq_getElem (by omega)]at hc1;have hspot:spot=none:=by simpa[Addr.add]using World.cell?_spot hc1
  subst hspot;refine⟨b,off,rfl,λi x hx=>?_⟩;rw[List.getElem?_map]at hx;obtain⟨k,hk,rfl⟩:=Option.map_eq_some_iff.1 hx;have hil:i<len:=by have:=(List.getElem?_eq_some_iff.1 hk).1;simpa using this
  have:k=i:=by
   rw[List.getElem?_range hil]at hk;exact(Option.some.inj hk).symm
  subst this;obtain⟨cs',hc',ho⟩:=hf k hil;rw[Go.WideShapes.add_plain]at hc';exact⟨cs',zzy h1 hc',ho⟩
def op2:Op enc W Lf.tI64 2:=zDl (by kernel_rfl)
def op9:Op enc W Lf.tStr 9:=zDk (by kernel_rfl)
def zDm:Op enc W (Lf.tSl Lf.tI64) 32:=zvH (by kernel_rfl) (by kernel_rfl) (Nat.le_refl _) op2
def zD6:Op enc W (Lf.tSl (Lf.tSl Lf.tI64)) 33:=zvH (by kernel_rfl) (by kernel_rfl) (Nat.le_refl _) zDm
def zCL:Op enc W Lf.tPoint 138:=zr1 (by kernel_rfl) (by kernel_rfl) (by kernel_rfl) (by kernel_rfl) op2 op2
def zDQ:Op enc W Lf.tPlaced 140:=zr1 (by kernel_rfl) (by kernel_rfl) (by kernel_rfl) (by kernel_rfl) zCL op2
def zDP:Op enc W Lf.tPlaced 143:=zr1 (by kernel_rfl) (by kernel_rfl) (by kernel_rfl) (by kernel_rfl) zCL op2
def zDO:Op enc W Lf.tGlue 166:=zr1 (by kernel_rfl) (by kernel_rfl) (by kernel_rfl) (by kernel_rfl) op9 op2
def zDN:Op enc W Lf.tTile 168:=zr1 (by kernel_rfl) (by kernel_rfl) (by kernel_rfl) (by kernel_rfl) op9 zDm
def zD8:Op enc W (Lf.tSl Lf.tGlue) 22:=zvH (by kernel_rfl) (by kernel_rfl) (by decide) zDO
def zD7:Op enc W (Lf.tSl Lf.tTile) 23:=zvH (by kernel_rfl) (by kernel_rfl) (by decide) zDN
def zDM:Op enc W (Lf.tSl Lf.tPlaced) 26:=zvH (by kernel_rfl) (by kernel_rfl) (by decide) zDQ
def zDL:Op enc W (Lf.tSl Lf.tPlaced) 31:=zvH (by kernel_rfl) (by kernel_rfl) (by decide) zDP
def zzQ(hG:Lf.Glob (start W)){v:Value}{d:DataW H}{ps:List MemPlace}(hv:Value.okWide Tryz.prog W .any 0 37 v)(h:DataW.Trod enc Tryz.prog W 0 (λ_=>true) true 37 v d ps):Calls Tryz.prog 3 #[v] W λe W'=>e=.returned (.bool true)/\Below W.heap.size W W':=by
 have hu:zlL 37 [(9,0),(30,1),(28,5),(35,6)]=true:=by kernel_rfl
 have hu30:zlL 30 [(25,0),(28,2),(2,3)]=true:=by kernel_rfl
 have hu25:zlL 25 [(22,0),(23,1)]=true:=by kernel_rfl
 have hu28:zlL 28 [(26,0)]=true:=by kernel_rfl
 have hu35:zlL 35 [(2,0),(31,1),(31,2),(32,3),(33,4)]=true:=by kernel_rfl
 have c9:Tryz.prog.cellsOf 9=1:=by kernel_rfl
 have c2:Tryz.prog.cellsOf 2=1:=by kernel_rfl
 have c22:Tryz.prog.cellsOf 22=1:=by kernel_rfl
 have c23:Tryz.prog.cellsOf 23=1:=by kernel_rfl
 have c26:Tryz.prog.cellsOf 26=1:=by kernel_rfl
 have c31:Tryz.prog.cellsOf 31=1:=by kernel_rfl
 have c32:Tryz.prog.cellsOf 32=1:=by kernel_rfl
 have c33:Tryz.prog.cellsOf 33=1:=by kernel_rfl
 have c30:Tryz.prog.cellsOf 30=4:=by kernel_rfl
 have c28:Tryz.prog.cellsOf 28=1:=by kernel_rfl
 have c35:Tryz.prog.cellsOf 35=5:=by kernel_rfl
 have c25:Tryz.prog.cellsOf 25=2:=by kernel_rfl
 have c37:Tryz.prog.cellsOf 37=11:=by kernel_rfl
 have hag:∃cs,v=.agg cs/\cs.size=11:=by
  have h1:=hu;unfold zlL at h1;split at h1
  ·rename_i fs hfs;obtain⟨cs,e,hs⟩:=okWide_struct hfs hv;exact⟨cs,e,hs.trans c37⟩
  ·cases h1
 obtain⟨⟨cs⟩,rfl,hsz⟩:=hag
 match cs,hsz with
 |[v0,v1,v2,v3,v4,v5,v6,v7,v8,v9,v10],_=>
  obtain⟨fuel,hf⟩:=h;have hf':DataW.trod enc Tryz.prog W 0 (λ_=>true) true fuel 37 [v0,v1,v2,v3,v4,v5,v6,v7,v8,v9,v10]=some (d,ps):=hf;obtain⟨_,g⟩:=zoK hu hf';obtain⟨_,_,g0⟩:=g 0 9 0 rfl;obtain⟨_,_,g1⟩:=g 1 30 1 rfl;obtain⟨_,_,g2⟩:=g 2 28 5 rfl;obtain⟨_,_,g3⟩:=g 3 35 6 rfl;rw[c9]at g0;rw[c30]at g1;rw[c28]at g2;rw[c35]at g3;obtain⟨_,s⟩:=zoK hu30 g1;obtain⟨_,_,s0⟩:=s 0 25 0 rfl;obtain⟨_,_,s1⟩:=s 1 28 2 rfl;obtain⟨_,_,s2⟩:=s 2 2 3 rfl;rw[c25]at s0;rw[c28]at s1;rw[c2]at s2;obtain⟨_,t⟩:=zoK hu25 s0;obtain⟨_,_,t0⟩:=t 0 22 0 rfl;obtain⟨_,_,t1⟩:=t 1 23 1 rfl;rw[c22]at t0;rw[c23]at t1;obtain⟨_,a⟩:=zoK hu28 s1;obtain⟨_,_,a0⟩:=a 0 26 0 rfl;obtain⟨_,b⟩:=zoK hu28 g2;obtain⟨_,_,b0⟩:=b 0 26 0 rfl;rw[c26]at a0 b0;obtain⟨_,q⟩:=zoK hu35 g3;obtain⟨_,_,q0⟩:=q 0 2 0 rfl;obtain⟨_,_,q1⟩:=q 1 31 1 rfl;obtain⟨_,_,q2⟩:=q 2 31 2 rfl;obtain⟨_,_,q3⟩:=q 3 32 3 rfl;obtain⟨_,_,q4⟩:=q 4 33 4 rfl;rw[c2]at q0;rw[c31]at q1 q2;rw[c32]at q3;rw[c33]at q4;obtain⟨l0,e0,n0⟩:=op9 _ _ _ g0;obtain⟨l1,x1,k1,e1,f1⟩:=zD8 _ _ _ t0;obtain⟨l2,x2,k2,e2,f2⟩:=zD7 _ _ _ t1;obtain⟨l3,x3,k3,e3,f3⟩:=zDM _ _ _ a0;obtain⟨l4,e4,n4⟩:=op2 _ _ _ s2;obtain⟨l5,x5,k5,e5,f5⟩:=zDM _ _ _ b0;obtain⟨l6,e6,n6⟩:=op2 _ _ _ q0;obtain⟨l7,x7,k7,e7,f7⟩:=zDL _ _ _ q1;obtain⟨l8,x8,k8,e8,f8⟩:=zDL _ _ _ q2;obtain⟨l9,x9,k9,e9,f9⟩:=zDm _ _ _ q3;obtain⟨l10,x10,k10,e10,f10⟩:=zD6 _ _ _ q4;obtain rfl:v0=_:=(List.cons.inj e0).1;obtain rfl:v1=_:=(List.cons.inj e1).1;obtain rfl:v2=_:=(List.cons.inj e2).1;obtain rfl:v3=_:=(List.cons.inj e3).1;obtain rfl:v4=_:=(List.cons.inj e4).1;obtain rfl:v5=_:=(List.cons.inj e5).1;obtain rfl:v6=_:=(List.cons.inj e6).1;obtain rfl:v7=_:=(List.cons.inj e7).1;obtain rfl:v8=_:=(List.cons.inj e8).1;obtain rfl:v9=_:=(List.cons.inj e9).1;obtain rfl:v10=_:=(List.cons.inj e10).1;have inner:∀{γ:Type} {t:Lf.Ty γ} {a c} {l:List γ},Lf.Sl t (start W) a c l->∀x∈l,∃cs,t.own (start W) cs x:=λhS x hx=>by
   obtain⟨i,hi⟩:=List.getElem?_of_mem hx;obtain⟨b,off,_,he⟩:=hS.elems (by have:=(List.getElem?_eq_some_iff.1 hi).1;omega);obtain⟨cs,_,ho⟩:=he i x hi;exact⟨cs,ho⟩
  have hEB:Lf.EB (l0,((l1,l2),l3,l4),l5,l6,l7,l8,l9,l10):=by
   refine⟨n0,f1.most,λx hx=>?_,f2.most,λx hx=>?_,f3.most,f5.most,f7.most,f8.most,f9.most,f10.most,λx hx=>?_⟩
   ·obtain⟨_,_,_,_,⟨_,h1⟩,_⟩:=inner f1 x hx;exact h1
   ·obtain⟨_,_,_,_,⟨_,h1⟩,_,_,_,h2⟩:=inner f2 x hx;exact⟨h1,h2.most⟩
   ·obtain⟨_,_,_,_,h2⟩:=inner f10 x hx;exact h2.most
  have i64:∀{cs:List Value} {n:Int},Lf.tI64.own (start W) cs n->Lf.I64 n:=λh=>h.2;have opt:∀{x:(Int×Int)×Int} {cs:List Value},Lf.tPlaced.own (start W) cs x->∀n∈Lf.optN x,Lf.I64 n:=λh n hn=>by
   obtain⟨_,_,_,⟨_,_,_,h1,h2⟩,h3⟩:=h;simp only[Lf.optN,List.mem_cons,List.not_mem_nil,or_false]at hn;rcases hn with rfl | rfl | rfl
   ·exact i64 h1
   ·exact i64 h2
   ·exact i64 h3
  have hf:=Lf.laws_FnExactFrameOf_ok (κ:=start W) (p0:=(l0,((l1,l2),l3,l4),l5,l6,l7,l8,l9,l10)) n0 f1 f2 f3 n4 f5 n6 f7 f8 f9 f10 hG (λ_=>(by decide:(5:Nat)<5000)) (λ_ hz hn _ hx=>by obtain⟨rfl,h⟩:=Lf.sizes_of hEB hz hn hx;exact⟨h.2.1.g,h.2.1.t,h.2.2.1,h.2.2.2.1,h.2.2.2.2.1,h.2.2.2.2.2.1,h.2.2.2.2.2.2.1,h.2.2.2.2.2.2.2.1,h.2.1.ts,h.2.2.2.2.2.2.2.2⟩) (Lf.frame_law hEB n4
   (λx hx=>by obtain⟨cs,h⟩:=inner f7 x hx;exact opt h) (λx hx=>by obtain⟨cs,h⟩:=inner f8 x hx;exact opt h) (λx hx=>by obtain⟨cs,h⟩:=inner f9 x hx;exact i64 h)
   (λx hx=>by obtain⟨cs,_,_,_,h2⟩:=inner f10 x hx;exact λn hn=>by obtain⟨cs,h⟩:=inner h2 n hn;exact i64 h))
  have hw:W=Lf.W (@Lf.Cx.mk Lf.fb0 W.os W.tape W.output 0 rfl) (start W) W.drawn:=by
   cases W
   unfold Lf.W start;simp
  have hc:=hf (@Lf.Cx.mk Lf.fb0 W.os W.tape W.output 0 rfl) W.drawn;rw[←hw]at hc;refine hc.mono ?_;rintro e W' ⟨v,κ',d',rfl,rfl,st,rfl⟩;exact⟨rfl,⟨rfl,rfl,rfl,st.1,λb hb=>(st.2.1 b hb (by simp)).1⟩⟩
end
end Go.Proofs.YtiobnnnacoginaaGreatDoor
namespace Go.Proofs.YtiobnnnacoginaaGreatDoor
open Go Go.ChangeShapes Go.WideShapes Go.ChangeAt Go.RowKit Go.ChangeMaps
def own:ownKnob Tryz.prog.godebug=none:=by kernel_rfl
def laidOut:laidOutB Tryz.prog=true:=by kernel_rfl
abbrev lst:List (String×DataW Unit):=Rows.fnExactFrameOfRow.laid
def g1n:Tryz.prog.globalNamed "internal/strconv.uint64pow10" = some 1:=by kernel_rfl
def pub_of_var{W:World}{n:String}{g:Nat}{cs:Array Value}(hg:Tryz.prog.globalNamed n=some g)(h:W.var? Tryz.prog n=some cs):
  ∃T k,W.heap[g]?=some (.cells cs T k):=by
 unfold World.var? at h;rw[hg]at h;simp only[Option.bind_some]at h;split at h
 ·rename_i c T k hH;injection h with h
  exact⟨T,k,by rw[hH,h]⟩
 ·cases h
def pub_start{W:World}{n:String}{g:Nat}{cs:Array Value}(hg:Tryz.prog.globalNamed n=some g)(h:W.var? Tryz.prog n=some cs):Lf.PubAt (start W) g 0 cs.toList:=by
 obtain⟨T,k,hH⟩:=pub_of_var hg h;refine⟨(Array.getElem?_eq_some_iff.1 hH).1,?_,λj v hj=>?_⟩
 ·show 0+cs.toList.length<=hsz W.heap g;unfold hsz;rw[hH];simp
 ·unfold Lf.K.cell start;simp only[hH,Nat.zero_add];simpa using hj
def glob_of {W:World} (h:laidMet Tryz.prog lst W):Lf.Glob (start W):=by
 have h2:=laidMet.filter (λx=>x.1 == "internal/strconv.uint64pow10") h;have e:(lst.filter λx=>x.1 == "internal/strconv.uint64pow10")=[("internal/strconv.uint64pow10",Lib.tabData .u64 Lf.pow10s)]:=by kernel_rfl
 rw[e]at h2;have w5:Lib.TabIs Tryz.prog W "internal/strconv.uint64pow10" .u64 Lf.pow10s:=
  Lib.tabIs_of_head (t:=289) (e:=270) (n:=20) g1n (by kernel_rfl) Tryz.underlying289 Tryz.underlying270 (by kernel_rfl) (by kernel_rfl) h2
 have p5:=pub_start g1n w5;obtain⟨T5,k5,hH5⟩:=pub_of_var g1n w5;refine⟨p5,⟨by decide,T5,k5,?_⟩⟩;unfold Lf.K.shp start;simp only[hH5];rfl
set_option maxRecDepth 100000 in
def lifted(os:Os)(started:os.Started)(H:Type)(enc:TypeId×Value->H):
  ReturnsInHanded {} Tryz.checked os 3 .any (λw args=>(Rows.fnExactFrameOfSpec.pre enc Tryz.prog Tryz.f3 [] false w args/\laidMetH Tryz.prog lst w)/\sizedMet enc Tryz.prog Tryz.f3 (OpenSpec.ofChange Rows.fnExactFrameOfSpec) false w args)
   (Rows.fnExactFrameOfSpec.post enc Tryz.prog Tryz.f3 false true false false):=by
 refine returnsInHanded_of_change_and (C:=Tryz.checked) (X:=λw _=>laidMetH Tryz.prog lst w) (λ_ _ _ hh h=>h.of_heap hh) own started (by kernel_rfl) Tryz.func3
  (ChangeSpec.witness_shaped (enc:=enc) (C:=Tryz.checked) (os:=os) (X:=λw _=>laidMetH Tryz.prog lst w) false (World.doorLaid Tryz.prog 400 os) #[.agg #[.string ⟨#[]⟩,.slice none 0 0,.slice none 0 0,.slice none 0 0,.int .i64 0,.slice none 0 0,.int .i64 0,.slice none 0 0,.slice none 0 0,.slice none 0 0,.slice none 0 0]] 8 rfl (World.shaped_of_RefB (by kernel_rfl) (by kernel_rfl)) (by kernel_rfl) (by kernel_rfl) (by kernel_rfl)
   (laidMetH_of_parts3 (fuel:=8) (laidMet_of_run' 8 (by kernel_rfl) (by kernel_rfl)) (by kernel_rfl) (by kernel_rfl))) ?_
 intro W base args ds gs before hval0 hW _ _ hL _;have hL':laidMet Tryz.prog lst W:=by rw[MakeChecks.laidMetH_plain _ _ _ (by kernel_rfl)]at hL;exact hL
 have hval:∀(j:Nat) t v,Tryz.f3.params[j]?=some t->args[j]?=some v->Value.okWide Tryz.prog W .any base t v:=hval0;have hW':=hW;obtain⟨p,q,hA0,hV,rfl,hfz,hnd⟩:=hW;have hA:DataW.TrodAll enc Tryz.prog W 0 (λ_=>true) true Tryz.f3.params.toList args.toList ds p:=hA0;rw[Tryz.params3]at hA hval;obtain⟨v0,d0,rfl,rfl,h0⟩:=trodAll_one hA;obtain⟨rfl,rfl⟩:=trodVars_none hV;have hv:=hval 0 37 v0 rfl rfl;have hlt:∀x∈p,x.block<W.heap.size:=λx hx=>hW'.lt x (by simpa using hx);refine(zzQ (glob_of hL') hv h0).mono λe W' ⟨he,hb⟩=>?_;subst he;have again:DataW.Trod enc Tryz.prog W' 0 (λb=>decide (b<W.heap.size)) true 37 v0 d0 p:=Below.trod laidOut (by kernel_rfl) (of_decide_eq_true (by kernel_rfl)) h0 hb hlt;refine⟨_,rfl,_,_,_,[],p,[],hW',?_,?_,rfl,hb.frame _,λh=>by cases h⟩
 ·exact trodAll_mk1 (shut_bool (by kernel_rfl) true)
 ·exact trodAll_mk1 again
def ff:Tryz.prog.funcNamed Rows.fnExactFrameOfRow.func=some 3:=by kernel_rfl
def jf:joinedFacts Tryz.prog 3 Tryz.f3 Rows.fnExactFrameOfSpec Rows.fnExactFrameOfRow=true:=by kernel_rfl
def li(os:Os)(started:os.Started)(H:Type)(enc:TypeId×Value->H):ReturnsInHanded Rows.fnExactFrameOfRow.assume Tryz.pinned.checked os 3 .any (Rows.fnExactFrameOfRow.pre enc Tryz.pinned.checked.prog Tryz.f3 (OpenSpec.ofChange Rows.fnExactFrameOfSpec)) (Rows.fnExactFrameOfSpec.post enc Tryz.pinned.checked.prog Tryz.f3 Rows.fnExactFrameOfRow.apart Rows.fnExactFrameOfRow.fresh Rows.fnExactFrameOfRow.handsOn Rows.fnExactFrameOfRow.again):=lifted os started H enc
theorem fnExactFrameOf_said:Rows.FnExactFrameOfSaid:=
 OpenClaim.holds_of_wide 3 Tryz.f3 rfl rfl rfl rfl rfl rfl rfl ⟨rfl,rfl,rfl,rfl,rfl⟩ rfl rfl rfl rfl rfl ff Tryz.func3 jf
  (of_decide_eq_true (by kernel_rfl)) (by unfold Func.isWrapper;rw[if_neg (of_decide_eq_false (by kernel_rfl))];exact⟨rfl,rfl⟩)
  (λos started H enc _=>li os started H enc)
theorem fnExactFrameOf_card:Rows.FnExactFrameOfCardSaid:=
 Claim7.holds_tied_plain_at .later [] [.data,.data,.data] true (true, "5b2645e93bc2cbe0e567758bb8367c32cd88e065fa5b86ad7e4ba020a9620852") false
  fnExactFrameOf_said (λ_ h=>by cases h) (by kernel_rfl) (λ_ h=>by cases h) fnExactFrameOf_row_tie rfl ⟨rfl,rfl⟩ (by kernel_rfl) rfl
  (λf fn hf hfn=>by
   obtain rfl:f=3:=Option.some.inj (ff.symm.trans hf) |>.symm;obtain rfl:fn=Tryz.f3:=(Option.some.inj (Tryz.func3.symm.trans hfn)).symm;exact⟨by kernel_rfl,λj t ht=>by
    rw[Tryz.params3]at ht;have hm:t∈[37]:=by simpa using Array.mem_of_getElem? ht
    have hall:([37].all λu=>!Tryz.prog.wantsStandIn u)=true:=by kernel_rfl
    exact(show Tryz.prog.wantsStandIn t=false by simpa using List.all_eq_true.1 hall t hm)⟩)
  (by kernel_rfl)
end Go.Proofs.YtiobnnnacoginaaGreatDoor
#print axioms Go.Proofs.YtiobnnnacoginaaGreatDoor.fnExactFrameOf_card
