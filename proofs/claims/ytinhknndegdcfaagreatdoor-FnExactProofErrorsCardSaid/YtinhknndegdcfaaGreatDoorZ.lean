/- FnExactProofErrors, called with any system, assembly, number and list of mishaps, returns true. -/
import Derived.Test.YtinhknndegdcfaaGreatDoorL
import Derived.Test.YtinhknndegdcfaaGreatDoorK
import Derived.Test.YtinhknndegdcfaaGreatDoorRows
import Derived.ProofKit
import Derived.Deep.Slices
import Derived.Test.YtinhknndegdcfaaGreatDoorTie
import Derived.Test.YtinhknndegdcfaaGreatDoorCards
import Derived.LaidMore
import Derived.LaidLaws
import Derived.LaidHandle
import Derived.LaidSub
import Derived.OpenShut
import Derived.OpenVars
import Derived.SevenTiedAt
import Derived.Lib.LaidTab
import Derived.Lib.LaidU8
set_option linter.all false
set_option maxRecDepth 100000
set_option maxHeartbeats 4000000
namespace Go.Proofs.YtinhknndegdcfaaGreatDoor
open Go Go.ChangeShapes Go.WideShapes Go.ChangeAt Go.RowKit Go.Deep
def hsz (H:Array Obj) (b:Nat):Nat:=match H[b]? with | some (.cells c _ _)=>c.size | _=>0
def start (W:World):Lf.K:=⟨W.heap,fun b=>hsz W.heap b,fun _=>(0,5)⟩
theorem zuZ {W:World} {b o:Nat} {v:Value} (h:W.cell? ⟨b,o,none⟩=some v):∃ c T k,W.heap[b]?=some (.cells c T k)∧c[o]?=some v:=by
 unfold World.cell? at h;split at h
 ·rename_i c T k hH;simp only [Option.isSome_none,Bool.false_eq_true,if_false] at h;exact ⟨c,T,k,hH,h⟩
 ·cases h
theorem zvO {W:World} {b off n:Nat} {cs:List Value} (hn:1≤n) (h:W.cells? 0 ⟨b,off,none⟩ n=some cs):Lf.PubAt (start W) b off cs:=by
 obtain ⟨_,hl,hc⟩:=World.cells?_some h;have hcell:∀ i,i<n→∃ v c T k,cs[i]?=some v∧W.heap[b]?=some (.cells c T k)∧c[off+i]?=some v:=fun i hi=>by
  have h1:=hc i hi;rw [Go.WideShapes.add_plain,List.getElem?_eq_getElem (by omega)] at h1;obtain ⟨c,T,k,h2,h3⟩:=zuZ h1;exact ⟨_,c,T,k,List.getElem?_eq_getElem (by omega),h2,h3⟩
 obtain ⟨v,c,T,k,_,hH,hv⟩:=hcell (n - 1) (by omega);have hz0:off+(n - 1)<c.size:=(Array.getElem?_eq_some_iff.1 hv).1;refine ⟨(Array.getElem?_eq_some_iff.1 hH).1,?_,fun j v hj=>?_⟩
 ·show off+cs.length≤hsz W.heap b;unfold hsz;rw [hH];simp only;omega
 ·have hjn:j<n:=by rw [←hl];exact (List.getElem?_eq_some_iff.1 hj).1
  obtain ⟨v',c',T',k',e1,e2,e3⟩:=hcell j hjn;rw [hj] at e1;injection e1 with e1
  subst e1;unfold Lf.K.cell start;simp only [e2];exact e3
section
variable {H:Type} {enc:TypeId×Value→H} {W:World} {α β:Type}
def Op (enc:TypeId×Value→H) (W:World) (t:Lf.Ty α) (T:TypeId):Prop:=∀ fuel cs x,DataW.trod enc Tryz.prog W 0 (fun _=>true) true fuel T cs=some x→∃ l,t.own (start W) cs l
theorem zzi {T:TypeId} (hu:Tryz.prog.underlying T=some (.int .i64)):Op enc W Lf.tI64 T:=fun fuel cs x h=>by
 obtain ⟨n,rfl,_,hw⟩:=DataW.trod_int hu h;simp [Lit.wf,IntKind.min,IntKind.max,IntKind.signed,IntKind.bits] at hw;exact ⟨n,rfl,by unfold Lf.I64;omega⟩
theorem zzh {T:TypeId} (hu:Tryz.prog.underlying T=some .string):Op enc W Lf.tStr T:=fun fuel cs x h=>by
 obtain ⟨s,rfl,_,hw⟩:=DataW.trod_string hu h;refine ⟨s.data.toList,rfl,?_⟩;have:s.data.toList.length=s.size:=by simp
 unfold maxLen at hw;omega
noncomputable def zj8 (T:TypeId) (l:List (TypeId×Nat)):Bool:=match Tryz.prog.underlying T with
 | some (.struct fs)=>fs.toList.map (fun f=>(f.type,f.offset)) == l
 | _=>false
theorem znM {T:TypeId} {l:List (TypeId×Nat)} (hu:zj8 T l=true) {fuel:Nat} {cs:List Value} {x:DataW H×List MemPlace} (h:DataW.trod enc Tryz.prog W 0 (fun _=>true) true fuel T cs=some x) :
  cs.length=Tryz.prog.cellsOf T∧∀ (i:Nat) (A:TypeId) (o:Nat),l[i]?=some (A,o)→∃ y n,DataW.trod enc Tryz.prog W 0 (fun _=>true) true n A ((cs.drop o).take (Tryz.prog.cellsOf A))=some y:=by
 unfold zj8 at hu;split at hu
 ·rename_i fs hfs;have hl:fs.toList.map (fun f=>(f.type,f.offset))=l:=by simpa using hu
  obtain ⟨xs,n,_,_,hlen,hxl,hf⟩:=DataW.trod_struct hfs h;refine ⟨hlen,fun i A o hi=>?_⟩;rw [←hl,List.getElem?_map] at hi;obtain ⟨f,hf',e⟩:=Option.map_eq_some_iff.1 hi;injection e with e1 e2
  have hfi:fs[i]?=some f:=by simpa using hf'
  have g:=hf i f hfi;have hi':i<xs.length:=by rw [hxl];exact (Array.getElem?_eq_some_iff.1 hfi).1
  rw [e1,e2,List.getElem?_eq_getElem hi'] at g;exact ⟨_,n,g⟩
 ·cases hu
theorem zqJ {T A B:TypeId} {a:Lf.Ty α} {b:Lf.Ty β} (hu:zj8 T [(A,0),(B,a.size)]=true)
  (hT:Tryz.prog.cellsOf T=a.size+b.size) (hA:Tryz.prog.cellsOf A=a.size) (hB:Tryz.prog.cellsOf B=b.size) (oA:Op enc W a A) (oB:Op enc W b B):Op enc W (Lf.tPair a b) T:=fun fuel cs x h=>by
 obtain ⟨hlen,hf⟩:=znM hu h;obtain ⟨y0,n0,g0⟩:=hf 0 A 0 rfl;obtain ⟨y1,n1,g1⟩:=hf 1 B a.size rfl;rw [hA,List.drop_zero] at g0;rw [hB,List.take_of_length_le (by rw [List.length_drop];omega)] at g1;obtain ⟨l0,e0⟩:=oA _ _ _ g0;obtain ⟨l1,e1⟩:=oB _ _ _ g1;exact ⟨(l0,l1),cs.take a.size,cs.drop a.size,(List.take_append_drop _ _).symm,e0,e1⟩
theorem ztQ [Inhabited α] {T E:TypeId} {t:Lf.Ty α} (hu:Tryz.prog.underlying T=some (.slice E)) (hC:Tryz.prog.cellsOf E=t.size) (h1:1≤t.size) (oE:Op enc W t E):Op enc W (Lf.tSl t) T:=fun fuel cs x h=>by
 rcases open_slice hu h with ⟨rfl,_⟩ | ⟨a,len,cap,m,n,D,Pl,rfl,hb,hl,hm,hmm,_,hi⟩
 ·exact ⟨[],none,0,rfl,Nat.le_refl _,by simp,fun h=>by cases h⟩
 ·have hlm:len≤m:=by rw [hmm];simpa using hl
  rw [hC] at hi;obtain ⟨f,hf⟩:=choose_lt (n:=len) (p:=fun i (x:α)=>∃ cs',W.cells? 0 (a.add (i*t.size)) t.size=some cs'∧t.own (start W) cs' x) (fun i hi'=>by
   obtain ⟨cs',h1,h2⟩:=hi i (by omega);obtain ⟨l,hl⟩:=oE _ _ _ h2;exact ⟨l,cs',h1,hl⟩)
  refine ⟨(List.range len).map f,some a,cap,by simp,by simpa using hl,by unfold maxLen at hm;simp;omega,fun h0=>?_⟩;have h0':0<len:=by simpa using h0
  obtain ⟨cs0,hc0,_⟩:=hf 0 h0';obtain ⟨b,off,spot⟩:=a;obtain ⟨_,hl0,hcell⟩:=World.cells?_some hc0;have hc1:=hcell 0 (by omega);rw [List.getElem?_eq_getElem (by omega)] at hc1;have hspot:spot=none:=by simpa [Addr.add] using World.cell?_spot hc1
  subst hspot;refine ⟨b,off,rfl,fun i x hx=>?_⟩;rw [List.getElem?_map] at hx;obtain ⟨k,hk,rfl⟩:=Option.map_eq_some_iff.1 hx;have hil:i<len:=by have:=(List.getElem?_eq_some_iff.1 hk).1;simpa using this
  have:k=i:=by
   rw [List.getElem?_range hil] at hk;exact (Option.some.inj hk).symm
  subst this;obtain ⟨cs',hc',ho⟩:=hf k hil;rw [Go.WideShapes.add_plain] at hc';exact ⟨cs',zvO h1 hc',ho⟩
theorem op2:Op enc W Lf.tI64 2:=zzi (by kernel_rfl)
theorem op9:Op enc W Lf.tStr 9:=zzh (by kernel_rfl)
theorem zAe:Op enc W (Lf.tSl Lf.tI64) 149:=ztQ (by kernel_rfl) (by kernel_rfl) (Nat.le_refl _) op2
theorem zyK:Op enc W Lf.tPoint 77:=zqJ (by kernel_rfl) (by kernel_rfl) (by kernel_rfl) (by kernel_rfl) op2 op2
theorem zzV:Op enc W Lf.tPlaced 111:=zqJ (by kernel_rfl) (by kernel_rfl) (by kernel_rfl) (by kernel_rfl) zyK op2
theorem zzU:Op enc W Lf.tGlue 147:=zqJ (by kernel_rfl) (by kernel_rfl) (by kernel_rfl) (by kernel_rfl) op9 op2
theorem zzT:Op enc W Lf.tTile 151:=zqJ (by kernel_rfl) (by kernel_rfl) (by kernel_rfl) (by kernel_rfl) op9 zAe
theorem zAg:Op enc W (Lf.tSl Lf.tGlue) 22:=ztQ (by kernel_rfl) (by kernel_rfl) (by decide) zzU
theorem zAf:Op enc W (Lf.tSl Lf.tTile) 23:=ztQ (by kernel_rfl) (by kernel_rfl) (by decide) zzT
theorem zzS:Op enc W (Lf.tSl Lf.tPlaced) 26:=ztQ (by kernel_rfl) (by kernel_rfl) (by decide) zzV
theorem opM:Op enc W Lf.tMishap 79:=fun fuel cs x h=>by
 have hu:zj8 79 [(2,0),(77,1),(2,3)]=true:=by kernel_rfl
 have c2:Tryz.prog.cellsOf 2=1:=by kernel_rfl
 have cP:Tryz.prog.cellsOf 77=2:=by kernel_rfl
 have cM:Tryz.prog.cellsOf 79=4:=by kernel_rfl
 obtain ⟨hlen,hf⟩:=znM hu h;rw [cM] at hlen
 match cs,hlen with
 | [v0,v1,v2,v3],_=>
  obtain ⟨_,_,g0⟩:=hf 0 2 0 rfl;obtain ⟨_,_,g1⟩:=hf 1 77 1 rfl;obtain ⟨_,_,g2⟩:=hf 2 2 3 rfl;rw [c2] at g0 g2;rw [cP] at g1;obtain ⟨l0,e0⟩:=op2 _ _ _ g0;obtain ⟨l1,e1⟩:=zyK _ _ _ g1;obtain ⟨l2,e2⟩:=op2 _ _ _ g2;exact ⟨(l0,l1,l2),[v0],[v1,v2,v3],rfl,e0,[v1,v2],[v3],rfl,e1,e2⟩
theorem zAd:Op enc W (Lf.tSl Lf.tMishap) 31:=ztQ (by kernel_rfl) (by kernel_rfl) (by decide) opM
theorem zv2 (hG:Lf.Glob (start W)) {vS:Value} {dS:DataW H} {psS:List MemPlace} (hvS:Value.okWide Tryz.prog W .any 0 30 vS) (hS:DataW.Trod enc Tryz.prog W 0 (fun _=>true) true 30 vS dS psS) {vA:Value} {dA:DataW H} {psA:List MemPlace} (hvA:Value.okWide Tryz.prog W .any 0 28 vA) (hA:DataW.Trod enc Tryz.prog W 0 (fun _=>true) true 28 vA dA psA) {vK:Value} {dK:DataW H} {psK:List MemPlace} (hvK:Value.okWide Tryz.prog W .any 0 2 vK) (hK:DataW.Trod enc Tryz.prog W 0 (fun _=>true) true 2 vK dK psK) {vM:Value} {dM:DataW H} {psM:List MemPlace} (hvM:Value.okWide Tryz.prog W .any 0 31 vM) (hM:DataW.Trod enc Tryz.prog W 0 (fun _=>true) true 31 vM dM psM):Calls Tryz.prog 3 #[vS,vA,vK,vM] W fun e W'=>e=.returned (.bool true)∧Below W.heap.size W W':=by
 have hu30:zj8 30 [(25,0),(28,2),(2,3)]=true:=by kernel_rfl
 have hu25:zj8 25 [(22,0),(23,1)]=true:=by kernel_rfl
 have hu28:zj8 28 [(26,0)]=true:=by kernel_rfl
 have c2:Tryz.prog.cellsOf 2=1:=by kernel_rfl
 have c22:Tryz.prog.cellsOf 22=1:=by kernel_rfl
 have c23:Tryz.prog.cellsOf 23=1:=by kernel_rfl
 have c26:Tryz.prog.cellsOf 26=1:=by kernel_rfl
 have c30:Tryz.prog.cellsOf 30=4:=by kernel_rfl
 have c28:Tryz.prog.cellsOf 28=1:=by kernel_rfl
 have c25:Tryz.prog.cellsOf 25=2:=by kernel_rfl
 have ag:∀ {T:TypeId} {v:Value} {l:List (TypeId×Nat)} {n:Nat},zj8 T l=true→Tryz.prog.cellsOf T=n→Value.okWide Tryz.prog W .any 0 T v→∃ cs,v=.agg cs∧cs.size=n:=fun hu hc hv=>by
  unfold zj8 at hu;split at hu
  ·rename_i fs hfs;obtain ⟨cs,e,hs⟩:=okWide_struct hfs hv;exact ⟨cs,e,hs.trans hc⟩
  ·cases hu
 obtain ⟨⟨cs⟩,rfl,hsz⟩:=ag hu30 c30 hvS;obtain ⟨⟨ds⟩,rfl,hszd⟩:=ag hu28 c28 hvA;obtain ⟨nk,rfl⟩:=okWide_int (show Tryz.prog.underlying 2=some (.int .i64) by kernel_rfl) hvK;obtain ⟨am,lm,cm,rfl⟩:=okWide_slice (show Tryz.prog.underlying 31=some (.slice 79) by kernel_rfl) hvM
 match cs,hsz,ds,hszd with
 | [v1,v2,v3,v4],_,[v5],_=>
  obtain ⟨fS,g1⟩:=hS;obtain ⟨fA,g2⟩:=hA;obtain ⟨fK,g3⟩:=hK;obtain ⟨fM,g4⟩:=hM;replace g1:DataW.trod enc Tryz.prog W 0 (fun _=>true) true fS 30 [v1,v2,v3,v4]=some (dS,psS):=g1;replace g2:DataW.trod enc Tryz.prog W 0 (fun _=>true) true fA 28 [v5]=some (dA,psA):=g2;replace g3:DataW.trod enc Tryz.prog W 0 (fun _=>true) true fK 2 [.int .i64 nk]=some (dK,psK):=g3;replace g4:DataW.trod enc Tryz.prog W 0 (fun _=>true) true fM 31 [.slice am lm cm]=some (dM,psM):=g4;obtain ⟨_,s⟩:=znM hu30 g1;obtain ⟨_,_,s0⟩:=s 0 25 0 rfl;obtain ⟨_,_,s1⟩:=s 1 28 2 rfl;obtain ⟨_,_,s2⟩:=s 2 2 3 rfl;rw [c25] at s0;rw [c28] at s1;rw [c2] at s2;obtain ⟨_,t⟩:=znM hu25 s0;obtain ⟨_,_,t0⟩:=t 0 22 0 rfl;obtain ⟨_,_,t1⟩:=t 1 23 1 rfl;rw [c22] at t0;rw [c23] at t1;obtain ⟨_,a⟩:=znM hu28 s1;obtain ⟨_,_,a0⟩:=a 0 26 0 rfl;obtain ⟨_,b⟩:=znM hu28 g2;obtain ⟨_,_,b0⟩:=b 0 26 0 rfl;rw [c26] at a0 b0;obtain ⟨l1,x1,k1,e1,f1⟩:=zAg _ _ _ t0;obtain ⟨l2,x2,k2,e2,f2⟩:=zAf _ _ _ t1;obtain ⟨l3,x3,k3,e3,f3⟩:=zzS _ _ _ a0;obtain ⟨l4,e4,n4⟩:=op2 _ _ _ s2;obtain ⟨l5,x5,k5,e5,f5⟩:=zzS _ _ _ b0;obtain ⟨l6,e6,n6⟩:=op2 _ _ _ g3;obtain ⟨l7,x7,k7,e7,f7⟩:=zAd _ _ _ g4;obtain rfl:v1=_:=(List.cons.inj e1).1;obtain rfl:v2=_:=(List.cons.inj e2).1;obtain rfl:v3=_:=(List.cons.inj e3).1;obtain rfl:v4=_:=(List.cons.inj e4).1;obtain rfl:v5=_:=(List.cons.inj e5).1;rw [(List.cons.inj e6).1,(List.cons.inj e7).1];have inner:∀ {γ:Type} {t:Lf.Ty γ} {a c} {l:List γ},Lf.Sl t (start W) a c l→∀ x∈l,∃ cs,t.own (start W) cs x:=fun hS x hx=>by
   obtain ⟨i,hi⟩:=List.getElem?_of_mem hx;obtain ⟨b,off,_,he⟩:=hS.elems (by have:=(List.getElem?_eq_some_iff.1 hi).1;omega);obtain ⟨cs,_,ho⟩:=he i x hi;exact ⟨cs,ho⟩
  have hEB:Lf.EB ((l1,l2),l3,l4) l5 l7:=by
   refine ⟨f1.most,fun x hx=>?_,f2.most,fun x hx=>?_,f3.most,f5.most,f7.most⟩
   ·obtain ⟨_,_,_,_,⟨_,h1⟩,_⟩:=inner f1 x hx;exact h1
   ·obtain ⟨_,_,_,_,⟨_,h1⟩,_,_,_,h2⟩:=inner f2 x hx;exact ⟨h1,h2.most⟩
  have hf:=Lf.laws_FnExactProofErrors_ok (κ:=start W) (p0:=((l1,l2),l3,l4)) (p1:=l5) (p2:=l6) (p3:=l7) f1 f2 f3 n4 f5 n6 f7 hG (fun _=>(by decide:(5:Nat)<5000))
   (fun z1 z2 z3 y1 m1 y2 m2 y3 m3=>by
    obtain ⟨hT,s1,s2,s3⟩:=Lf.sizes_of hEB y1 m1 y2 m2 y3 m3;refine ⟨fun x hx=>?_,fun x hx=>?_,fun x hx=>?_⟩
    ·rw [Lf.toSys hT s1] at hx;cases hx;exact ⟨hT.g,hT.t,s1,hT.ts⟩
    ·rw [Lf.toAsm s2] at hx;cases hx;exact s2
    ·rw [Lf.toMis l7 (by omega)] at hx;cases hx;exact s3) (Lf.errors_law hEB)
  have hw:W=Lf.W (@Lf.Cx.mk Lf.fb0 W.os W.tape W.output 0 rfl) (start W) W.drawn:=by
   cases W
   unfold Lf.W start;simp
  have hc:=hf (@Lf.Cx.mk Lf.fb0 W.os W.tape W.output 0 rfl) W.drawn;rw [←hw] at hc;refine hc.mono ?_;rintro e W' ⟨v,κ',d',rfl,rfl,st,rfl⟩;exact ⟨rfl,⟨rfl,rfl,rfl,st.1,fun b hb=>(st.2.1 b hb (by simp)).1⟩⟩
end
end Go.Proofs.YtinhknndegdcfaaGreatDoor
namespace Go.Proofs.YtinhknndegdcfaaGreatDoor
open Go Go.ChangeShapes Go.WideShapes Go.ChangeAt Go.RowKit Go.ChangeMaps
theorem own:ownKnob Tryz.prog.godebug=none:=by kernel_rfl
theorem laidOut:laidOutB Tryz.prog=true:=by kernel_rfl
abbrev lst:List (String×DataW Unit):=Rows.fnExactProofErrorsRow.laid
theorem g1n:Tryz.prog.globalNamed "internal/strconv.uint64pow10" = some 0:=by kernel_rfl
theorem pub_of_var {W:World} {n:String} {g:Nat} {cs:Array Value} (hg:Tryz.prog.globalNamed n=some g) (h:W.var? Tryz.prog n=some cs) :
  ∃ T k,W.heap[g]?=some (.cells cs T k):=by
 unfold World.var? at h;rw [hg] at h;simp only [Option.bind_some] at h;split at h
 ·rename_i c T k hH;injection h with h
  exact ⟨T,k,by rw [hH,h]⟩
 ·cases h
theorem pub_start {W:World} {n:String} {g:Nat} {cs:Array Value} (hg:Tryz.prog.globalNamed n=some g) (h:W.var? Tryz.prog n=some cs):Lf.PubAt (start W) g 0 cs.toList:=by
 obtain ⟨T,k,hH⟩:=pub_of_var hg h;refine ⟨(Array.getElem?_eq_some_iff.1 hH).1,?_,fun j v hj=>?_⟩
 ·show 0+cs.toList.length≤hsz W.heap g;unfold hsz;rw [hH];simp
 ·unfold Lf.K.cell start;simp only [hH,Nat.zero_add];simpa using hj
theorem glob_of {W:World} (h:laidMet Tryz.prog lst W):Lf.Glob (start W):=by
 have h2:=laidMet.filter (fun x=>x.1 == "internal/strconv.uint64pow10") h;have e:(lst.filter fun x=>x.1 == "internal/strconv.uint64pow10")=[("internal/strconv.uint64pow10",Lib.tabData .u64 Lf.pow10s)]:=by kernel_rfl
 rw [e] at h2;have w5:Lib.TabIs Tryz.prog W "internal/strconv.uint64pow10" .u64 Lf.pow10s:=
  Lib.tabIs_of_head (t:=321) (e:=278) (n:=20) g1n (by kernel_rfl) Tryz.underlying321 Tryz.underlying278 (by kernel_rfl) (by kernel_rfl) h2
 have p5:=pub_start g1n w5;obtain ⟨T5,k5,hH5⟩:=pub_of_var g1n w5;refine ⟨p5,⟨by decide,T5,k5,?_⟩⟩;unfold Lf.K.shp start;simp only [hH5];rfl
set_option maxRecDepth 100000 in
theorem lifted (os:Os) (started:os.Started) (H:Type) (enc:TypeId×Value→H) :
  ReturnsInHanded {} Tryz.checked os 3 .any (fun w args=>(Rows.fnExactProofErrorsSpec.pre enc Tryz.prog Tryz.f3 [] false w args∧laidMetH Tryz.prog lst w)∧sizedMet enc Tryz.prog Tryz.f3 (OpenSpec.ofChange Rows.fnExactProofErrorsSpec) false w args)
   (Rows.fnExactProofErrorsSpec.post enc Tryz.prog Tryz.f3 false true false false):=by
 refine returnsInHanded_of_change_and (C:=Tryz.checked) (X:=fun w _=>laidMetH Tryz.prog lst w) (fun _ _ _ hh h=>h.of_heap hh) own started (by kernel_rfl) Tryz.func3
  (ChangeSpec.witness_shaped (enc:=enc) (C:=Tryz.checked) (os:=os) (X:=fun w _=>laidMetH Tryz.prog lst w) false (World.doorLaid Tryz.prog 400 os) #[.agg #[.slice none 0 0,.slice none 0 0,.slice none 0 0,.int .i64 0],.agg #[.slice none 0 0],.int .i64 0,.slice none 0 0] 8 rfl (World.shaped_of_RefB (by kernel_rfl) (by kernel_rfl)) (by kernel_rfl) (by kernel_rfl) (by kernel_rfl)
   (laidMetH_of_parts3 (fuel:=8) (laidMet_of_run' 8 (by kernel_rfl) (by kernel_rfl)) (by kernel_rfl) (by kernel_rfl))) ?_
 intro W base args ds gs before hval0 hW _ _ hL _;have hL':laidMet Tryz.prog lst W:=by rw [MakeChecks.laidMetH_plain _ _ _ (by kernel_rfl)] at hL;exact hL
 have hval:∀ (j:Nat) t v,Tryz.f3.params[j]?=some t→args[j]?=some v→Value.okWide Tryz.prog W .any base t v:=hval0;have hW':=hW;obtain ⟨p,q,hA0,hV,rfl,hfz,hnd⟩:=hW;have hA:DataW.TrodAll enc Tryz.prog W 0 (fun _=>true) true Tryz.f3.params.toList args.toList ds p:=hA0;rw [Tryz.params3] at hA hval;obtain ⟨v1,v2,v3,v4,d1,d2,d3,d4,p1,p2,p3,p4,rfl,rfl,rfl,h1,h2,h3,h4⟩:=Go.RowKit.trodAll_four hA;obtain ⟨rfl,rfl⟩:=trodVars_none hV;have hv1:=hval 0 30 v1 rfl rfl;have hv2:=hval 1 28 v2 rfl rfl;have hv3:=hval 2 2 v3 rfl rfl;have hv4:=hval 3 31 v4 rfl rfl;refine (zv2 (glob_of hL') hv1 h1 hv2 h2 hv3 h3 hv4 h4).mono fun e W' ⟨he,hb⟩=>?_;subst he;have again1:DataW.Trod enc Tryz.prog W' 0 (fun b=>decide (b<W.heap.size)) true 30 v1 d1 p1:=Below.trod laidOut (by kernel_rfl) (of_decide_eq_true (by kernel_rfl)) h1 hb (fun x hx=>hW'.lt x (by simp [hx]));have again2:DataW.Trod enc Tryz.prog W' 0 (fun b=>decide (b<W.heap.size)) true 28 v2 d2 p2:=Below.trod laidOut (by kernel_rfl) (of_decide_eq_true (by kernel_rfl)) h2 hb (fun x hx=>hW'.lt x (by simp [hx]));have again3:DataW.Trod enc Tryz.prog W' 0 (fun b=>decide (b<W.heap.size)) true 2 v3 d3 p3:=Below.trod laidOut (by kernel_rfl) (of_decide_eq_true (by kernel_rfl)) h3 hb (fun x hx=>hW'.lt x (by simp [hx]));have again4:DataW.Trod enc Tryz.prog W' 0 (fun b=>decide (b<W.heap.size)) true 31 v4 d4 p4:=Below.trod laidOut (by kernel_rfl) (of_decide_eq_true (by kernel_rfl)) h4 hb (fun x hx=>hW'.lt x (by simp [hx]));refine ⟨_,rfl,_,_,_,[],p1++p2++p3++p4,[],hW',?_,?_,rfl,hb.frame _,fun h=>by cases h⟩
 ·exact trodAll_mk1 (shut_bool (by kernel_rfl) true)
 ·have:=Go.RowKit.trodAll_mk4 again1 again2 again3 again4;rw [show p1++(p2++(p3++p4))=p1++p2++p3++p4 by simp] at this;exact this
theorem ff:Tryz.prog.funcNamed Rows.fnExactProofErrorsRow.func=some 3:=by kernel_rfl
theorem jm:mapsRowed Tryz.prog=true:=by kernel_rfl
theorem ji:(Rows.fnExactProofErrorsRow.inPlace == Tryz.prog.inPlace 3)=true:=by kernel_rfl
theorem ju:(Rows.fnExactProofErrorsRow.unfollowed == Tryz.prog.unfollowed 3)=true:=by kernel_rfl
theorem jr:(Rows.fnExactProofErrorsRow.recurses == Tryz.prog.recurses 3)=true:=by kernel_rfl
theorem jn:(Rows.fnExactProofErrorsRow.named == Tryz.prog.varsNamed 3)=true:=by kernel_rfl
theorem jk:(Rows.fnExactProofErrorsRow.plainKeys == Tryz.prog.plainKeys)=true:=by kernel_rfl
theorem jh:Tryz.prog.stopsHeard=true:=by kernel_rfl
theorem je:Tryz.prog.mayEnter=true:=by kernel_rfl
theorem and_t {a b:Bool} (ha:a=true) (hb:b=true):(a&&b)=true:=by rw [ha,hb];rfl
theorem jf:joinedFacts Tryz.prog 3 Tryz.f3 Rows.fnExactProofErrorsSpec Rows.fnExactProofErrorsRow=true:=by
 unfold joinedFacts
 repeat' (with_reducible apply and_t)
 all_goals first | with_reducible exact laidOut | with_reducible exact jm | with_reducible exact ji | with_reducible exact ju | with_reducible exact jr | with_reducible exact jn | with_reducible exact jk | with_reducible exact jh | with_reducible exact je | kernel_rfl
theorem li (os:Os) (started:os.Started) (H:Type) (enc:TypeId×Value→H):ReturnsInHanded Rows.fnExactProofErrorsRow.assume Tryz.pinned.checked os 3 .any (Rows.fnExactProofErrorsRow.pre enc Tryz.pinned.checked.prog Tryz.f3 (OpenSpec.ofChange Rows.fnExactProofErrorsSpec)) (Rows.fnExactProofErrorsSpec.post enc Tryz.pinned.checked.prog Tryz.f3 Rows.fnExactProofErrorsRow.apart Rows.fnExactProofErrorsRow.fresh Rows.fnExactProofErrorsRow.handsOn Rows.fnExactProofErrorsRow.again):=lifted os started H enc
theorem fnExactProofErrors_said:Rows.FnExactProofErrorsSaid:=
 OpenClaim.holds_of_wide 3 Tryz.f3 rfl rfl rfl rfl rfl rfl rfl ⟨rfl,rfl,rfl,rfl,rfl⟩ rfl rfl rfl rfl rfl ff Tryz.func3 jf
  (of_decide_eq_true (by kernel_rfl)) (by unfold Func.isWrapper;rw [if_neg (of_decide_eq_false (by kernel_rfl))];exact ⟨rfl,rfl⟩)
  (fun os started H enc _=>li os started H enc)
theorem fnExactProofErrors_card:Rows.FnExactProofErrorsCardSaid:=
 Claim7.holds_tied_plain_at .later [] [.data,.data,.data] true (true, "6fcaaa286f20d0549eee2cde96a68830d5135944b10350581aced52e45372065") true
  fnExactProofErrors_said (fun _ h=>by cases h) (by kernel_rfl) (fun _ h=>by cases h) fnExactProofErrors_row_tie rfl ⟨rfl,rfl⟩ (by kernel_rfl) rfl
  (fun f fn hf hfn=>by
   obtain rfl:f=3:=Option.some.inj (ff.symm.trans hf) |>.symm;obtain rfl:fn=Tryz.f3:=(Option.some.inj (Tryz.func3.symm.trans hfn)).symm;exact ⟨by kernel_rfl,fun j t ht=>by
    rw [Tryz.params3] at ht;have hm:t∈[30,28,2,31]:=by simpa using Array.mem_of_getElem? ht
    have hall:([30,28,2,31].all fun u=>!Tryz.prog.wantsStandIn u)=true:=by kernel_rfl
    exact (show Tryz.prog.wantsStandIn t=false by simpa using List.all_eq_true.1 hall t hm)⟩)
  (by kernel_rfl)
end Go.Proofs.YtinhknndegdcfaaGreatDoor
#print axioms Go.Proofs.YtinhknndegdcfaaGreatDoor.fnExactProofErrors_card
