/- The law FnExactReadSystem returns true at each text; its globals as the row takes them. -/
import Derived.Test.YtfbcemhoeecepaaGreatDoorH
import Derived.Test.YtfbcemhoeecepaaGreatDoorJ
import Derived.Test.YtfbcemhoeecepaaGreatDoorRows
import Derived.Test.YtfbcemhoeecepaaGreatDoorTie
import Derived.Test.YtfbcemhoeecepaaGreatDoorCards
import Derived.ProofKit
import Derived.LaidMore
import Derived.LaidLaws
import Derived.LaidHandle
import Derived.LaidSub
import Derived.OpenShut
import Derived.OpenVars
import Derived.SevenTiedAt
import Derived.Stop.Joined
import Derived.Stop.LaidErr
import Derived.Lib.LaidTab
import Derived.Lib.LaidU8
set_option linter.all false
set_option maxRecDepth 100000
set_option maxHeartbeats 4000000
namespace Go.Lf
open Go Go.Proofs
theorem law_long {κ:K} {p0:List UInt8} (hl:¬p0.length≤1048576):Fn Tryz.prog 3 #[strV p0] κ (fun v κ'=>Step [] κ κ'∧v=.bool true):=by
  refine fnc 82 [] Tryz.func3 Tryz.ntmps3 fun hs=>?_
  refine csr ?_
  refine op 2 (.bool false) ?_
  refine ot ?_
  refine cs ?_
  refine csr ?_
  refine op 14 (strV p0) ?_
  refine op 15 (.int .i64 (p0.length:Int)) ?_
  refine op 16 (.bool (decide ((p0.length:Int)>1048576))) ?_
  have hd:decide ((p0.length:Int)>1048576)=true:=by rw [decide_eq_true_eq];omega
  rw [hd]
  refine ot ?_
  refine ct ?_
  refine csr ?_
  refine op 2 (.bool true) ?_
  refine ot ?_
  refine crt ?_
  refine zb ?_
  refine rt [.tmp 2] [.bool true] ⟨rfl,trivial⟩ ?_
  exact ⟨hs,rfl⟩
theorem law_any {κ:K} {p0:List UInt8} (G0:Glob κ) (hT:∀ b,(κ.tag b).2<5000):Fn Tryz.prog 3 #[strV p0] κ (fun v κ'=>Step [] κ κ'∧v=.bool true):=by
  by_cases hl:p0.length≤1048576
  · obtain ⟨w,h1,h2,h3⟩:=znz hl
    obtain ⟨m,h4,h5,h6⟩:=zpX h3
    exact laws_FnExactReadSystem_ok hl G0 hT h1 h2 (znH h3) h4 h5 h6
  · exact law_long hl
end Go.Lf
namespace Go.Proofs.YtfbcemhoeecepaaGreatDoor
open Go Go.ChangeShapes Go.WideShapes Go.ChangeAt Go.RowKit Go.ChangeMaps
theorem own:ownKnob Tryz.prog.godebug=none:=by kernel_rfl
theorem laidOut:laidOutB Tryz.prog=true:=by kernel_rfl
abbrev lst:List (String×DataW Unit):=Rows.fnExactReadSystemRow.laid
theorem star : "*" ++ "errors.errorString" = "*errors.errorString" := by decide
theorem row285 (u:TypeId) (h:Tryz.prog.typeName? 3 u=some "*errors.errorString"):u=285:=
  typeName_ptr_named (nm := "errors.errorString") (by rw [star];kernel_rfl) (by kernel_rfl) (by decide) u (by rw [star];exact h)
theorem pub_of_var {W:World} {n:String} {g:Nat} {cs:Array Value} (hg:Tryz.prog.globalNamed n=some g) (h:W.var? Tryz.prog n=some cs) :
    ∃ T k,W.heap[g]?=some (.cells cs T k):=by
  unfold World.var? at h
  rw [hg] at h
  simp only [Option.bind_some] at h
  split at h
  · rename_i c T k hH
    injection h with h
    exact ⟨T,k,by rw [hH,h]⟩
  · cases h
def start (W:World):Lf.K:=⟨W.heap,fun b=>Lf.hsz W.heap b,fun _=>(0,5)⟩
theorem pub_start {W:World} {n:String} {g:Nat} {cs:Array Value} (hg:Tryz.prog.globalNamed n=some g) (h:W.var? Tryz.prog n=some cs):Lf.PubAt (start W) g 0 cs.toList:=by
  obtain ⟨T,k,hH⟩:=pub_of_var hg h
  refine ⟨(Array.getElem?_eq_some_iff.1 hH).1,?_,fun j v hj=>?_⟩
  · show 0+cs.toList.length≤Lf.hsz W.heap g
    unfold Lf.hsz
    rw [hH]
    simp
  · unfold Lf.K.cell start
    simp only [hH,Nat.zero_add]
    simpa using hj
theorem one_of {W:World} (h:laidMetH Tryz.prog lst W) (n:String) (d:DataW Unit) (e:((lst.filter fun x=>x.2.handleName?.isNone).filter fun x=>x.1 == n)=[(n,d)]):laidMet Tryz.prog [(n,d)] W:=by
  have h1:=(laidMetH_iff.1 h).1
  have h2:=laidMet.filter (fun x=>x.1 == n) h1
  rw [e] at h2
  exact h2
theorem sent_of {W:World} {n:String} {text:List UInt8} {g:Nat} (h:laidMet Tryz.prog [(n,.iface "*errors.errorString" (.ptr (.agg [.lit (.string text)])))] W) (hg:Tryz.prog.globalNamed n=some g) (ht:(Tryz.prog.globals[g]?).map (·.type)=some 42) :
    ∃ a,W.var? Tryz.prog n=some #[.iface 285 (.pointer (some a))]:=by
  obtain ⟨a,s,h1,_⟩:=laid_sentinel h hg ht Tryz.underlying42 row285 Tryz.underlying285 Tryz.underlying287 rfl rfl Tryz.underlying9 (by kernel_rfl) (by kernel_rfl)
  exact ⟨a,h1⟩
theorem g0n:Tryz.prog.globalNamed "loop.example/g01081/impl.errWhole" = some 0:=by kernel_rfl
theorem g1n:Tryz.prog.globalNamed "errors.errorType" = some 1:=by kernel_rfl
theorem g3n:Tryz.prog.globalNamed "strconv.ErrSyntax" = some 3:=by kernel_rfl
theorem g4n:Tryz.prog.globalNamed "strconv.ErrRange" = some 4:=by kernel_rfl
theorem g5n:Tryz.prog.globalNamed "internal/strconv.uint64pow10" = some 5:=by kernel_rfl
theorem rtn:(Tryz.prog.cutTypes.find? (·.1 == "internal/reflectlite.rtype")).map (·.2)=some 160:=by kernel_rfl
theorem tsz:Tryz.prog.types.size=342:=by kernel_rfl
theorem oneRow:((List.range 342).filter fun t=>Tryz.prog.rowNamed t [101,114,114,111,114])=[42]:=by kernel_rfl
theorem glob_of {W:World} (h:laidMetH Tryz.prog lst W):Lf.Glob (start W):=by
  obtain ⟨a0,w0⟩:=sent_of (one_of h "loop.example/g01081/impl.errWhole" Rows.laid_loop_example_g01081_impl_errWhole (by kernel_rfl)) g0n (by kernel_rfl)
  obtain ⟨a3,w3⟩:=sent_of (one_of h "strconv.ErrSyntax" Rows.laid_strconv_ErrSyntax (by kernel_rfl)) g3n (by kernel_rfl)
  obtain ⟨a4,w4⟩:=sent_of (one_of h "strconv.ErrRange" Rows.laid_strconv_ErrRange (by kernel_rfl)) g4n (by kernel_rfl)
  have ht:=one_of h "internal/strconv.uint64pow10" (Lib.tabData .u64 Lf.pow10s) (by kernel_rfl)
  have w5:Lib.TabIs Tryz.prog W "internal/strconv.uint64pow10" .u64 Lf.pow10s:=
    Lib.tabIs_of_head (t:=290) (e:=217) (n:=20) g5n (by kernel_rfl) Tryz.underlying290 Tryz.underlying217 (by kernel_rfl) (by kernel_rfl) ht
  have hh:=(laidMetH_iff.1 h).2
  have hm:("errors.errorType",(Rows.laid_errors_errorType:DataW Unit))∈lst.filter fun x=>x.2.handleName?.isSome:=by
    have e:(lst.filter fun x=>x.2.handleName?.isSome)=[("errors.errorType",(Rows.laid_errors_errorType:DataW Unit))]:=by kernel_rfl
    rw [e];exact List.mem_singleton.2 rfl
  obtain ⟨name,u,ty,e1,e2,e3,e4,e5⟩:=hh _ hm
  have en:name=[101,114,114,111,114]:=(Option.some.inj e1).symm
  subst en
  obtain rfl:=Option.some.inj (rtn.symm.trans e2)
  have hmm:ty∈(List.range 342).filter fun t=>Tryz.prog.rowNamed t [101,114,114,111,114]:=List.mem_filter.2 ⟨List.mem_range.2 (by rw [←tsz];exact e3),e4⟩
  rw [oneRow] at hmm
  obtain rfl:=List.mem_singleton.1 hmm
  have hth:typeHandle Tryz.prog 42=.pointer (some ⟨8,42,none⟩):=by kernel_rfl
  rw [hth] at e5
  have p5:=pub_start g5n w5
  obtain ⟨T5,k5,hH5⟩:=pub_of_var g5n w5
  refine ⟨⟨a0,pub_start g0n w0⟩,⟨_,_,pub_start g3n w3⟩,⟨_,_,pub_start g4n w4⟩,p5,⟨by decide,T5,k5,?_⟩,pub_start g1n e5⟩
  unfold Lf.K.shp start
  simp only [hH5]
  rfl
theorem law_calls {W:World} (h:laidMetH Tryz.prog lst W) (s:ByteArray):Calls Tryz.prog 3 #[.string s] W fun e W'=>e=.returned (.bool true)∧Below W.heap.size W W':=by
  have hf:=Lf.law_any (κ:=start W) (p0:=s.data.toList) (glob_of h) (fun b=>by show (5:Nat)<5000;omega)
  have hw:W=Lf.W (@Lf.Cx.mk Lf.fb0 W.os W.tape W.output 0 rfl) (start W) W.drawn:=by
    cases W
    unfold Lf.W start
    simp
  have hs:Lf.strV s.data.toList=.string s:=rfl
  have hc:=hf (@Lf.Cx.mk Lf.fb0 W.os W.tape W.output 0 rfl) W.drawn
  rw [←hw,hs] at hc
  refine hc.mono ?_
  rintro e W' ⟨v,κ',d',rfl,rfl,st,rfl⟩
  refine ⟨rfl,⟨rfl,rfl,rfl,st.1,fun b hb=>(st.2.1 b hb (by simp)).1⟩⟩
end Go.Proofs.YtfbcemhoeecepaaGreatDoor
