/- FnExactEntryText, called with any entry, returns true. -/
import Derived.Test.YtjpmnloapngipaaGreatDoorH
import Derived.Test.YtjpmnloapngipaaGreatDoorK
import Derived.Test.YtjpmnloapngipaaGreatDoorRows
import Derived.ProofKit
import Derived.Deep.Slices
import Derived.Test.YtjpmnloapngipaaGreatDoorTie
import Derived.Test.YtjpmnloapngipaaGreatDoorCards
import Derived.LaidMore
import Derived.LaidLaws
import Derived.LaidHandle
import Derived.LaidSub
import Derived.OpenShut
import Derived.OpenVars
import Derived.SevenTiedAt
import Derived.Lib.LaidTab
import Derived.Lib.LaidU8
set_option linter.all false
set_option maxRecDepth 100000
set_option maxHeartbeats 4000000
namespace Go.Proofs.YtjpmnloapngipaaGreatDoor
open Go Go.ChangeShapes Go.WideShapes Go.ChangeAt Go.RowKit Go.Deep
def hsz (H:Array Obj) (b:Nat):Nat:=match H[b]? with | some (.cells c _ _)=>c.size | _=>0
def start (W:World):Lf.K:=⟨W.heap,fun b=>hsz W.heap b,fun _=>(0,5)⟩
theorem zw4 {W:World} {b o:Nat} {v:Value} (h:W.cell? ⟨b,o,none⟩=some v):∃ c T k,W.heap[b]?=some (.cells c T k)∧c[o]?=some v:=by
 unfold World.cell? at h;split at h
 ·rename_i c T k hH;simp only [Option.isSome_none,Bool.false_eq_true,if_false] at h;exact ⟨c,T,k,hH,h⟩
 ·cases h
theorem zxV {W:World} {b off n:Nat} {cs:List Value} (hn:1≤n) (h:W.cells? 0 ⟨b,off,none⟩ n=some cs):Lf.PubAt (start W) b off cs:=by
 obtain ⟨_,hl,hc⟩:=World.cells?_some h;have hcell:∀ i,i<n→∃ v c T k,cs[i]?=some v∧W.heap[b]?=some (.cells c T k)∧c[off+i]?=some v:=fun i hi=>by
  have h1:=hc i hi;rw [Go.WideShapes.add_plain,List.getElem?_eq_getElem (by omega)] at h1;obtain ⟨c,T,k,h2,h3⟩:=zw4 h1;exact ⟨_,c,T,k,List.getElem?_eq_getElem (by omega),h2,h3⟩
 obtain ⟨v,c,T,k,_,hH,hv⟩:=hcell (n - 1) (by omega);have hz0:off+(n - 1)<c.size:=(Array.getElem?_eq_some_iff.1 hv).1;refine ⟨(Array.getElem?_eq_some_iff.1 hH).1,?_,fun j v hj=>?_⟩
 ·show off+cs.length≤hsz W.heap b;unfold hsz;rw [hH];simp only;omega
 ·have hjn:j<n:=by rw [←hl];exact (List.getElem?_eq_some_iff.1 hj).1
  obtain ⟨v',c',T',k',e1,e2,e3⟩:=hcell j hjn;rw [hj] at e1;injection e1 with e1
  subst e1;unfold Lf.K.cell start;simp only [e2];exact e3
section
variable {H:Type} {enc:TypeId×Value→H} {W:World} {α β:Type}
def Op (enc:TypeId×Value→H) (W:World) (t:Lf.Ty α) (T:TypeId):Prop:=∀ fuel cs x,DataW.trod enc Tryz.prog W 0 (fun _=>true) true fuel T cs=some x→∃ l,t.own (start W) cs l
theorem zBw {T:TypeId} (hu:Tryz.prog.underlying T=some (.int .i64)):Op enc W Lf.tI64 T:=fun fuel cs x h=>by
 obtain ⟨n,rfl,_,hw⟩:=DataW.trod_int hu h;simp [Lit.wf,IntKind.min,IntKind.max,IntKind.signed,IntKind.bits] at hw;exact ⟨n,rfl,by unfold Lf.I64;omega⟩
theorem zBv {T:TypeId} (hu:Tryz.prog.underlying T=some .string):Op enc W Lf.tStr T:=fun fuel cs x h=>by
 obtain ⟨s,rfl,_,hw⟩:=DataW.trod_string hu h;refine ⟨s.data.toList,rfl,?_⟩;have:s.data.toList.length=s.size:=by simp
 unfold maxLen at hw;omega
noncomputable def zkZ (T:TypeId) (l:List (TypeId×Nat)):Bool:=match Tryz.prog.underlying T with
 | some (.struct fs)=>fs.toList.map (fun f=>(f.type,f.offset)) == l
 | _=>false
theorem znL {T:TypeId} {l:List (TypeId×Nat)} (hu:zkZ T l=true) {fuel:Nat} {cs:List Value} {x:DataW H×List MemPlace} (h:DataW.trod enc Tryz.prog W 0 (fun _=>true) true fuel T cs=some x) :
  cs.length=Tryz.prog.cellsOf T∧∀ (i:Nat) (A:TypeId) (o:Nat),l[i]?=some (A,o)→∃ y n,DataW.trod enc Tryz.prog W 0 (fun _=>true) true n A ((cs.drop o).take (Tryz.prog.cellsOf A))=some y:=by
 unfold zkZ at hu;split at hu
 ·rename_i fs hfs;have hl:fs.toList.map (fun f=>(f.type,f.offset))=l:=by simpa using hu
  obtain ⟨xs,n,_,_,hlen,hxl,hf⟩:=DataW.trod_struct hfs h;refine ⟨hlen,fun i A o hi=>?_⟩;rw [←hl,List.getElem?_map] at hi;obtain ⟨f,hf',e⟩:=Option.map_eq_some_iff.1 hi;injection e with e1 e2
  have hfi:fs[i]?=some f:=by simpa using hf'
  have g:=hf i f hfi;have hi':i<xs.length:=by rw [hxl];exact (Array.getElem?_eq_some_iff.1 hfi).1
  rw [e1,e2,List.getElem?_eq_getElem hi'] at g;exact ⟨_,n,g⟩
 ·cases hu
theorem zqJ {T A B:TypeId} {a:Lf.Ty α} {b:Lf.Ty β} (hu:zkZ T [(A,0),(B,a.size)]=true)
  (hT:Tryz.prog.cellsOf T=a.size+b.size) (hA:Tryz.prog.cellsOf A=a.size) (hB:Tryz.prog.cellsOf B=b.size) (oA:Op enc W a A) (oB:Op enc W b B):Op enc W (Lf.tPair a b) T:=fun fuel cs x h=>by
 obtain ⟨hlen,hf⟩:=znL hu h;obtain ⟨y0,n0,g0⟩:=hf 0 A 0 rfl;obtain ⟨y1,n1,g1⟩:=hf 1 B a.size rfl;rw [hA,List.drop_zero] at g0;rw [hB,List.take_of_length_le (by rw [List.length_drop];omega)] at g1;obtain ⟨l0,e0⟩:=oA _ _ _ g0;obtain ⟨l1,e1⟩:=oB _ _ _ g1;exact ⟨(l0,l1),cs.take a.size,cs.drop a.size,(List.take_append_drop _ _).symm,e0,e1⟩
theorem zuh [Inhabited α] {T E:TypeId} {t:Lf.Ty α} (hu:Tryz.prog.underlying T=some (.slice E)) (hC:Tryz.prog.cellsOf E=t.size) (h1:1≤t.size) (oE:Op enc W t E):Op enc W (Lf.tSl t) T:=fun fuel cs x h=>by
 rcases open_slice hu h with ⟨rfl,_⟩ | ⟨a,len,cap,m,n,D,Pl,rfl,hb,hl,hm,hmm,_,hi⟩
 ·exact ⟨[],none,0,rfl,Nat.le_refl _,by simp,fun h=>by cases h⟩
 ·have hlm:len≤m:=by rw [hmm];simpa using hl
  rw [hC] at hi;obtain ⟨f,hf⟩:=choose_lt (n:=len) (p:=fun i (x:α)=>∃ cs',W.cells? 0 (a.add (i*t.size)) t.size=some cs'∧t.own (start W) cs' x) (fun i hi'=>by
   obtain ⟨cs',h1,h2⟩:=hi i (by omega);obtain ⟨l,hl⟩:=oE _ _ _ h2;exact ⟨l,cs',h1,hl⟩)
  refine ⟨(List.range len).map f,some a,cap,by simp,by simpa using hl,by unfold maxLen at hm;simp;omega,fun h0=>?_⟩;have h0':0<len:=by simpa using h0
  obtain ⟨cs0,hc0,_⟩:=hf 0 h0';obtain ⟨b,off,spot⟩:=a;obtain ⟨_,hl0,hcell⟩:=World.cells?_some hc0;have hc1:=hcell 0 (by omega);rw [List.getElem?_eq_getElem (by omega)] at hc1;have hspot:spot=none:=by simpa [Addr.add] using World.cell?_spot hc1
  subst hspot;refine ⟨b,off,rfl,fun i x hx=>?_⟩;rw [List.getElem?_map] at hx;obtain ⟨k,hk,rfl⟩:=Option.map_eq_some_iff.1 hx;have hil:i<len:=by have:=(List.getElem?_eq_some_iff.1 hk).1;simpa using this
  have:k=i:=by
   rw [List.getElem?_range hil] at hk;exact (Option.some.inj hk).symm
  subst this;obtain ⟨cs',hc',ho⟩:=hf k hil;rw [Go.WideShapes.add_plain] at hc';exact ⟨cs',zxV h1 hc',ho⟩
theorem op2:Op enc W Lf.tI64 2:=zBw (by kernel_rfl)
theorem op9:Op enc W Lf.tStr 9:=zBv (by kernel_rfl)
theorem zBx:Op enc W (Lf.tSl Lf.tI64) 32:=zuh (by kernel_rfl) (by kernel_rfl) (Nat.le_refl _) op2
theorem zCg:Op enc W (Lf.tSl (Lf.tSl Lf.tI64)) 33:=zuh (by kernel_rfl) (by kernel_rfl) (Nat.le_refl _) zBx
theorem zAW:Op enc W Lf.tPoint 134:=zqJ (by kernel_rfl) (by kernel_rfl) (by kernel_rfl) (by kernel_rfl) op2 op2
theorem zB0:Op enc W Lf.tPlaced 136:=zqJ (by kernel_rfl) (by kernel_rfl) (by kernel_rfl) (by kernel_rfl) zAW op2
theorem zBZ:Op enc W Lf.tPlaced 138:=zqJ (by kernel_rfl) (by kernel_rfl) (by kernel_rfl) (by kernel_rfl) zAW op2
theorem zBY:Op enc W Lf.tGlue 156:=zqJ (by kernel_rfl) (by kernel_rfl) (by kernel_rfl) (by kernel_rfl) op9 op2
theorem zBX:Op enc W Lf.tTile 158:=zqJ (by kernel_rfl) (by kernel_rfl) (by kernel_rfl) (by kernel_rfl) op9 zBx
theorem zCi:Op enc W (Lf.tSl Lf.tGlue) 22:=zuh (by kernel_rfl) (by kernel_rfl) (by decide) zBY
theorem zCh:Op enc W (Lf.tSl Lf.tTile) 23:=zuh (by kernel_rfl) (by kernel_rfl) (by decide) zBX
theorem zBW:Op enc W (Lf.tSl Lf.tPlaced) 26:=zuh (by kernel_rfl) (by kernel_rfl) (by decide) zB0
theorem zBV:Op enc W (Lf.tSl Lf.tPlaced) 31:=zuh (by kernel_rfl) (by kernel_rfl) (by decide) zBZ
theorem zyb (hG:Lf.Glob (start W)) {v:Value} {d:DataW H} {ps:List MemPlace} (hv:Value.okWide Tryz.prog W .any 0 37 v) (h:DataW.Trod enc Tryz.prog W 0 (fun _=>true) true 37 v d ps):Calls Tryz.prog 3 #[v] W fun e W'=>e=.returned (.bool true)∧Below W.heap.size W W':=by
 have hu:zkZ 37 [(9,0),(30,1),(28,5),(35,6)]=true:=by kernel_rfl
 have hu30:zkZ 30 [(25,0),(28,2),(2,3)]=true:=by kernel_rfl
 have hu25:zkZ 25 [(22,0),(23,1)]=true:=by kernel_rfl
 have hu28:zkZ 28 [(26,0)]=true:=by kernel_rfl
 have hu35:zkZ 35 [(2,0),(31,1),(31,2),(32,3),(33,4)]=true:=by kernel_rfl
 have c9:Tryz.prog.cellsOf 9=1:=by kernel_rfl
 have c2:Tryz.prog.cellsOf 2=1:=by kernel_rfl
 have c22:Tryz.prog.cellsOf 22=1:=by kernel_rfl
 have c23:Tryz.prog.cellsOf 23=1:=by kernel_rfl
 have c26:Tryz.prog.cellsOf 26=1:=by kernel_rfl
 have c31:Tryz.prog.cellsOf 31=1:=by kernel_rfl
 have c32:Tryz.prog.cellsOf 32=1:=by kernel_rfl
 have c33:Tryz.prog.cellsOf 33=1:=by kernel_rfl
 have c30:Tryz.prog.cellsOf 30=4:=by kernel_rfl
 have c28:Tryz.prog.cellsOf 28=1:=by kernel_rfl
 have c35:Tryz.prog.cellsOf 35=5:=by kernel_rfl
 have c25:Tryz.prog.cellsOf 25=2:=by kernel_rfl
 have c37:Tryz.prog.cellsOf 37=11:=by kernel_rfl
 have hag:∃ cs,v=.agg cs∧cs.size=11:=by
  have h1:=hu;unfold zkZ at h1;split at h1
  ·rename_i fs hfs;obtain ⟨cs,e,hs⟩:=okWide_struct hfs hv;exact ⟨cs,e,hs.trans c37⟩
  ·cases h1
 obtain ⟨⟨cs⟩,rfl,hsz⟩:=hag
 match cs,hsz with
 | [v0,v1,v2,v3,v4,v5,v6,v7,v8,v9,v10],_=>
  obtain ⟨fuel,hf⟩:=h;have hf':DataW.trod enc Tryz.prog W 0 (fun _=>true) true fuel 37 [v0,v1,v2,v3,v4,v5,v6,v7,v8,v9,v10]=some (d,ps):=hf;obtain ⟨_,g⟩:=znL hu hf';obtain ⟨_,_,g0⟩:=g 0 9 0 rfl;obtain ⟨_,_,g1⟩:=g 1 30 1 rfl;obtain ⟨_,_,g2⟩:=g 2 28 5 rfl;obtain ⟨_,_,g3⟩:=g 3 35 6 rfl;rw [c9] at g0;rw [c30] at g1;rw [c28] at g2;rw [c35] at g3;obtain ⟨_,s⟩:=znL hu30 g1;obtain ⟨_,_,s0⟩:=s 0 25 0 rfl;obtain ⟨_,_,s1⟩:=s 1 28 2 rfl;obtain ⟨_,_,s2⟩:=s 2 2 3 rfl;rw [c25] at s0;rw [c28] at s1;rw [c2] at s2;obtain ⟨_,t⟩:=znL hu25 s0;obtain ⟨_,_,t0⟩:=t 0 22 0 rfl;obtain ⟨_,_,t1⟩:=t 1 23 1 rfl;rw [c22] at t0;rw [c23] at t1;obtain ⟨_,a⟩:=znL hu28 s1;obtain ⟨_,_,a0⟩:=a 0 26 0 rfl;obtain ⟨_,b⟩:=znL hu28 g2;obtain ⟨_,_,b0⟩:=b 0 26 0 rfl;rw [c26] at a0 b0;obtain ⟨_,q⟩:=znL hu35 g3;obtain ⟨_,_,q0⟩:=q 0 2 0 rfl;obtain ⟨_,_,q1⟩:=q 1 31 1 rfl;obtain ⟨_,_,q2⟩:=q 2 31 2 rfl;obtain ⟨_,_,q3⟩:=q 3 32 3 rfl;obtain ⟨_,_,q4⟩:=q 4 33 4 rfl;rw [c2] at q0;rw [c31] at q1 q2;rw [c32] at q3;rw [c33] at q4;obtain ⟨l0,e0,n0⟩:=op9 _ _ _ g0;obtain ⟨l1,x1,k1,e1,f1⟩:=zCi _ _ _ t0;obtain ⟨l2,x2,k2,e2,f2⟩:=zCh _ _ _ t1;obtain ⟨l3,x3,k3,e3,f3⟩:=zBW _ _ _ a0;obtain ⟨l4,e4,n4⟩:=op2 _ _ _ s2;obtain ⟨l5,x5,k5,e5,f5⟩:=zBW _ _ _ b0;obtain ⟨l6,e6,n6⟩:=op2 _ _ _ q0;obtain ⟨l7,x7,k7,e7,f7⟩:=zBV _ _ _ q1;obtain ⟨l8,x8,k8,e8,f8⟩:=zBV _ _ _ q2;obtain ⟨l9,x9,k9,e9,f9⟩:=zBx _ _ _ q3;obtain ⟨l10,x10,k10,e10,f10⟩:=zCg _ _ _ q4;obtain rfl:v0=_:=(List.cons.inj e0).1;obtain rfl:v1=_:=(List.cons.inj e1).1;obtain rfl:v2=_:=(List.cons.inj e2).1;obtain rfl:v3=_:=(List.cons.inj e3).1;obtain rfl:v4=_:=(List.cons.inj e4).1;obtain rfl:v5=_:=(List.cons.inj e5).1;obtain rfl:v6=_:=(List.cons.inj e6).1;obtain rfl:v7=_:=(List.cons.inj e7).1;obtain rfl:v8=_:=(List.cons.inj e8).1;obtain rfl:v9=_:=(List.cons.inj e9).1;obtain rfl:v10=_:=(List.cons.inj e10).1;have inner:∀ {γ:Type} {t:Lf.Ty γ} {a c} {l:List γ},Lf.Sl t (start W) a c l→∀ x∈l,∃ cs,t.own (start W) cs x:=fun hS x hx=>by
   obtain ⟨i,hi⟩:=List.getElem?_of_mem hx;obtain ⟨b,off,_,he⟩:=hS.elems (by have:=(List.getElem?_eq_some_iff.1 hi).1;omega);obtain ⟨cs,_,ho⟩:=he i x hi;exact ⟨cs,ho⟩
  have hEB:Lf.EB (l0,((l1,l2),l3,l4),l5,l6,l7,l8,l9,l10):=by
   refine ⟨n0,f1.most,fun x hx=>?_,f2.most,fun x hx=>?_,f3.most,f5.most,f7.most,f8.most,f9.most,f10.most,fun x hx=>?_⟩
   ·obtain ⟨_,_,_,_,⟨_,h1⟩,_⟩:=inner f1 x hx;exact h1
   ·obtain ⟨_,_,_,_,⟨_,h1⟩,_,_,_,h2⟩:=inner f2 x hx;exact ⟨h1,h2.most⟩
   ·obtain ⟨_,_,_,_,h2⟩:=inner f10 x hx;exact h2.most
  have i64:∀ {cs:List Value} {n:Int},Lf.tI64.own (start W) cs n→Lf.I64 n:=fun h=>h.2;have opt:∀ {x:(Int×Int)×Int} {cs:List Value},Lf.tPlaced.own (start W) cs x→∀ n∈Lf.optN x,Lf.I64 n:=fun h n hn=>by
   obtain ⟨_,_,_,⟨_,_,_,h1,h2⟩,h3⟩:=h;simp only [Lf.optN,List.mem_cons,List.not_mem_nil,or_false] at hn;rcases hn with rfl | rfl | rfl
   ·exact i64 h1
   ·exact i64 h2
   ·exact i64 h3
  have hf:=Lf.laws_FnExactEntryText_ok (κ:=start W) (p0:=(l0,((l1,l2),l3,l4),l5,l6,l7,l8,l9,l10)) n0 f1 f2 f3 n4 f5 n6 f7 f8 f9 f10 hG (Lf.entry_law hEB n4
   (fun x hx=>by obtain ⟨cs,h⟩:=inner f7 x hx;exact opt h) (fun x hx=>by obtain ⟨cs,h⟩:=inner f8 x hx;exact opt h) (fun x hx=>by obtain ⟨cs,h⟩:=inner f9 x hx;exact i64 h)
   (fun x hx=>by obtain ⟨cs,_,_,_,h2⟩:=inner f10 x hx;exact fun n hn=>by obtain ⟨cs,h⟩:=inner h2 n hn;exact i64 h))
  have hw:W=Lf.W (@Lf.Cx.mk Lf.fb0 W.os W.tape W.output 0 rfl) (start W) W.drawn:=by
   cases W
   unfold Lf.W start;simp
  have hc:=hf (@Lf.Cx.mk Lf.fb0 W.os W.tape W.output 0 rfl) W.drawn;rw [←hw] at hc;refine hc.mono ?_;rintro e W' ⟨v,κ',d',rfl,rfl,st,rfl⟩;exact ⟨rfl,⟨rfl,rfl,rfl,st.1,fun b hb=>(st.2.1 b hb (by simp)).1⟩⟩
end
end Go.Proofs.YtjpmnloapngipaaGreatDoor
namespace Go.Proofs.YtjpmnloapngipaaGreatDoor
open Go Go.ChangeShapes Go.WideShapes Go.ChangeAt Go.RowKit Go.ChangeMaps
theorem own:ownKnob Tryz.prog.godebug=none:=by kernel_rfl
theorem laidOut:laidOutB Tryz.prog=true:=by kernel_rfl
abbrev lst:List (String×DataW Unit):=Rows.fnExactEntryTextRow.laid
theorem g1n:Tryz.prog.globalNamed "internal/strconv.uint64pow10" = some 1:=by kernel_rfl
theorem pub_of_var {W:World} {n:String} {g:Nat} {cs:Array Value} (hg:Tryz.prog.globalNamed n=some g) (h:W.var? Tryz.prog n=some cs) :
  ∃ T k,W.heap[g]?=some (.cells cs T k):=by
 unfold World.var? at h;rw [hg] at h;simp only [Option.bind_some] at h;split at h
 ·rename_i c T k hH;injection h with h
  exact ⟨T,k,by rw [hH,h]⟩
 ·cases h
theorem pub_start {W:World} {n:String} {g:Nat} {cs:Array Value} (hg:Tryz.prog.globalNamed n=some g) (h:W.var? Tryz.prog n=some cs):Lf.PubAt (start W) g 0 cs.toList:=by
 obtain ⟨T,k,hH⟩:=pub_of_var hg h;refine ⟨(Array.getElem?_eq_some_iff.1 hH).1,?_,fun j v hj=>?_⟩
 ·show 0+cs.toList.length≤hsz W.heap g;unfold hsz;rw [hH];simp
 ·unfold Lf.K.cell start;simp only [hH,Nat.zero_add];simpa using hj
theorem glob_of {W:World} (h:laidMet Tryz.prog lst W):Lf.Glob (start W):=by
 have h2:=laidMet.filter (fun x=>x.1 == "internal/strconv.uint64pow10") h;have e:(lst.filter fun x=>x.1 == "internal/strconv.uint64pow10")=[("internal/strconv.uint64pow10",Lib.tabData .u64 Lf.pow10s)]:=by kernel_rfl
 rw [e] at h2;have w5:Lib.TabIs Tryz.prog W "internal/strconv.uint64pow10" .u64 Lf.pow10s:=
  Lib.tabIs_of_head (t:=257) (e:=222) (n:=20) g1n (by kernel_rfl) Tryz.underlying257 Tryz.underlying222 (by kernel_rfl) (by kernel_rfl) h2
 have p5:=pub_start g1n w5;obtain ⟨T5,k5,hH5⟩:=pub_of_var g1n w5;refine ⟨p5,⟨by decide,T5,k5,?_⟩⟩;unfold Lf.K.shp start;simp only [hH5];rfl
set_option maxRecDepth 100000 in
theorem lifted (os:Os) (started:os.Started) (H:Type) (enc:TypeId×Value→H) :
  ReturnsInHanded {} Tryz.checked os 3 .any (fun w args=>(Rows.fnExactEntryTextSpec.pre enc Tryz.prog Tryz.f3 [] false w args∧laidMetH Tryz.prog lst w)∧sizedMet enc Tryz.prog Tryz.f3 (OpenSpec.ofChange Rows.fnExactEntryTextSpec) false w args)
   (Rows.fnExactEntryTextSpec.post enc Tryz.prog Tryz.f3 false true false false):=by
 refine returnsInHanded_of_change_and (C:=Tryz.checked) (X:=fun w _=>laidMetH Tryz.prog lst w) (fun _ _ _ hh h=>h.of_heap hh) own started (by kernel_rfl) Tryz.func3
  (ChangeSpec.witness_shaped (enc:=enc) (C:=Tryz.checked) (os:=os) (X:=fun w _=>laidMetH Tryz.prog lst w) false (World.doorLaid Tryz.prog 400 os) #[.agg #[.string ⟨#[]⟩,.slice none 0 0,.slice none 0 0,.slice none 0 0,.int .i64 0,.slice none 0 0,.int .i64 0,.slice none 0 0,.slice none 0 0,.slice none 0 0,.slice none 0 0]] 8 rfl (World.shaped_of_RefB (by kernel_rfl) (by kernel_rfl)) (by kernel_rfl) (by kernel_rfl) (by kernel_rfl)
   (laidMetH_of_parts3 (fuel:=8) (laidMet_of_run' 8 (by kernel_rfl) (by kernel_rfl)) (by kernel_rfl) (by kernel_rfl))) ?_
 intro W base args ds gs before hval0 hW _ _ hL _;have hL':laidMet Tryz.prog lst W:=by rw [MakeChecks.laidMetH_plain _ _ _ (by kernel_rfl)] at hL;exact hL
 have hval:∀ (j:Nat) t v,Tryz.f3.params[j]?=some t→args[j]?=some v→Value.okWide Tryz.prog W .any base t v:=hval0;have hW':=hW;obtain ⟨p,q,hA0,hV,rfl,hfz,hnd⟩:=hW;have hA:DataW.TrodAll enc Tryz.prog W 0 (fun _=>true) true Tryz.f3.params.toList args.toList ds p:=hA0;rw [Tryz.params3] at hA hval;obtain ⟨v0,d0,rfl,rfl,h0⟩:=trodAll_one hA;obtain ⟨rfl,rfl⟩:=trodVars_none hV;have hv:=hval 0 37 v0 rfl rfl;have hlt:∀ x∈p,x.block<W.heap.size:=fun x hx=>hW'.lt x (by simpa using hx);refine (zyb (glob_of hL') hv h0).mono fun e W' ⟨he,hb⟩=>?_;subst he;have again:DataW.Trod enc Tryz.prog W' 0 (fun b=>decide (b<W.heap.size)) true 37 v0 d0 p:=Below.trod laidOut (by kernel_rfl) (of_decide_eq_true (by kernel_rfl)) h0 hb hlt;refine ⟨_,rfl,_,_,_,[],p,[],hW',?_,?_,rfl,hb.frame _,fun h=>by cases h⟩
 ·exact trodAll_mk1 (shut_bool (by kernel_rfl) true)
 ·exact trodAll_mk1 again
theorem ff:Tryz.prog.funcNamed Rows.fnExactEntryTextRow.func=some 3:=by kernel_rfl
theorem jf:joinedFacts Tryz.prog 3 Tryz.f3 Rows.fnExactEntryTextSpec Rows.fnExactEntryTextRow=true:=by kernel_rfl
theorem li (os:Os) (started:os.Started) (H:Type) (enc:TypeId×Value→H):ReturnsInHanded Rows.fnExactEntryTextRow.assume Tryz.pinned.checked os 3 .any (Rows.fnExactEntryTextRow.pre enc Tryz.pinned.checked.prog Tryz.f3 (OpenSpec.ofChange Rows.fnExactEntryTextSpec)) (Rows.fnExactEntryTextSpec.post enc Tryz.pinned.checked.prog Tryz.f3 Rows.fnExactEntryTextRow.apart Rows.fnExactEntryTextRow.fresh Rows.fnExactEntryTextRow.handsOn Rows.fnExactEntryTextRow.again):=lifted os started H enc
theorem fnExactEntryText_said:Rows.FnExactEntryTextSaid:=
 OpenClaim.holds_of_wide 3 Tryz.f3 rfl rfl rfl rfl rfl rfl rfl ⟨rfl,rfl,rfl,rfl,rfl⟩ rfl rfl rfl rfl rfl ff Tryz.func3 jf
  (of_decide_eq_true (by kernel_rfl)) (by unfold Func.isWrapper;rw [if_neg (of_decide_eq_false (by kernel_rfl))];exact ⟨rfl,rfl⟩)
  (fun os started H enc _=>li os started H enc)
theorem fnExactEntryText_card:Rows.FnExactEntryTextCardSaid:=
 Claim7.holds_tied_plain_at .later [] [.data,.data,.data] true (true, "0d2c543592854febd226a044df98bcd0834dcb2bbf886eb1fb777a2273f7826c") false
  fnExactEntryText_said (fun _ h=>by cases h) (by kernel_rfl) (fun _ h=>by cases h) fnExactEntryText_row_tie rfl ⟨rfl,rfl⟩ (by kernel_rfl) rfl
  (fun f fn hf hfn=>by
   obtain rfl:f=3:=Option.some.inj (ff.symm.trans hf) |>.symm;obtain rfl:fn=Tryz.f3:=(Option.some.inj (Tryz.func3.symm.trans hfn)).symm;exact ⟨by kernel_rfl,fun j t ht=>by
    rw [Tryz.params3] at ht;have hm:t∈[37]:=by simpa using Array.mem_of_getElem? ht
    have hall:([37].all fun u=>!Tryz.prog.wantsStandIn u)=true:=by kernel_rfl
    exact (show Tryz.prog.wantsStandIn t=false by simpa using List.all_eq_true.1 hall t hm)⟩)
  (by kernel_rfl)
end Go.Proofs.YtjpmnloapngipaaGreatDoor
#print axioms Go.Proofs.YtjpmnloapngipaaGreatDoor.fnExactEntryText_card
