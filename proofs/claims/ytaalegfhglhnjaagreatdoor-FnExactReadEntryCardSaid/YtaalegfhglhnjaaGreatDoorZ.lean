/- FnExactReadEntry, called with any text, returns true. -/
import Derived.Test.YtaalegfhglhnjaaGreatDoorL
import Derived.Test.YtaalegfhglhnjaaGreatDoorRows
import Derived.Test.YtaalegfhglhnjaaGreatDoorTie
import Derived.Test.YtaalegfhglhnjaaGreatDoorCards
import Derived.ProofKit
import Derived.LaidMore
import Derived.LaidLaws
import Derived.LaidHandle
import Derived.LaidSub
import Derived.OpenShut
import Derived.OpenVars
import Derived.SevenTiedAt
import Derived.Stop.Joined
import Derived.Stop.LaidErr
import Derived.Lib.LaidTab
import Derived.Lib.LaidU8
set_option linter.all false
set_option maxRecDepth 100000
set_option maxHeartbeats 4000000
namespace Go.Lf
open Go Go.Proofs
def Sa{p0:List UInt8}{κ}(hl:¬p0.length<=1048576):Fn Tryz.prog 3 #[strV p0] κ (λv κ'=>Step [] κ κ'/\v=.bool true):=by
 refine aL 82 [] Tryz.func3 Tryz.ntmps3 λhs=>?_;refine aM ?_;refine op 2 (.bool false) ?_;refine ot ?_;refine cs ?_;refine aM ?_;refine op 14 (strV p0) ?_;refine op 15 (.int .i64 (p0.length:Int)) ?_;refine op 16 (.bool<|decide ((p0.length:Int)>1048576)) ?_;have hd:decide ((p0.length:Int)>1048576)=true:=by rw[decide_eq_true_eq];omega
 rw[hd];refine ot ?_;refine ct ?_;refine aM ?_;refine op 2 (.bool true) ?_;refine ot ?_;refine aC ?_;refine zc ?_;refine rt [.tmp 2] [.bool true] ⟨rfl,trivial⟩ ?_;exact⟨hs,rfl⟩
def law_any{κ:K}{p0}(G0:Glob κ)(hT:∀b,(κ.tag b).2<5000):Fn Tryz.prog 3 #[strV p0] κ (λv κ'=>Step [] κ κ'/\v=.bool true):=by
 by_cases hl:p0.length<=1048576
 ·obtain⟨w,h1,h2,h3⟩:=zyr hl;obtain⟨m,h4,h5,h6⟩:=PR h3;exact Wq hl G0 hT h1 h2 (zyZ h3) h4 h5 h6
 ·exact Sa hl
end Go.Lf
namespace Go.Proofs.YtaalegfhglhnjaaGreatDoor
open Go Go.ChangeShapes Go.WideShapes Go.ChangeAt Go.RowKit Go.ChangeMaps
def own:ownKnob Tryz.prog.godebug=none:=by kernel_rfl
def H_:laidOutB Tryz.prog=true:=by kernel_rfl
abbrev lst:List (String×DataW Unit):=Rows.fnExactReadEntryRow.laid
def star : "*" ++ "errors.errorString" = "*errors.errorString" := by decide
def UJ(u:TypeId)(h:Tryz.prog.typeName? 3 u=some "*errors.errorString"):u=384:=typeName_ptr_named (nm := "errors.errorString") (by rw[star];kernel_rfl) (by kernel_rfl) (by decide) u (by rw[star];exact h)
def NU{W:World}{cs:Array Value}{n g}(hg:Tryz.prog.globalNamed n=some g)(h:W.var? Tryz.prog n=some cs):
  ∃T k,W.heap[g]?=some (.cells cs T k):=by
 unfold World.var? at h;rw[hg]at h;simp only[Option.bind_some]at h;split at h
 ·rename_i c T k hH;injection h with h
  exact⟨T,k,by rw[hH,h]⟩
 ·cases h
def start(W:World):Lf.K:=⟨W.heap,λb=>Lf.hsz W.heap b,λ_=>(0,5)⟩
def uS{W:World}{cs:Array Value}{n g}(hg:Tryz.prog.globalNamed n=some g)(h:W.var? Tryz.prog n=some cs):Lf.PubAt (start W) g 0 cs.toList:=by
 obtain⟨T,k,hH⟩:=NU hg h;refine⟨(Array.getElem?_eq_some_iff.1 hH).1,?_,λj v hj=>?_⟩
 ·show 0+cs.toList.length<=Lf.hsz W.heap g;unfold Lf.hsz;rw[hH];simp
 ·unfold Lf.K.cell start;simp only[hH,Nat.zero_add];simpa using hj
def Cz{W}(h:laidMetH Tryz.prog lst W)(n:String)(d:DataW Unit)(e:((lst.filter λx=>x.2.handleName?.isNone).filter λx=>x.1 == n)=[(n,d)]):laidMet Tryz.prog [(n,d)] W:=by
 have h1:=(laidMetH_iff.1 h).1;have h2:=laidMet.filter (λx=>x.1 == n) h1;rw[e]at h2;exact h2
def Hq{W:World}{n text g}(h:laidMet Tryz.prog [(n,.iface "*errors.errorString" (.ptr (.agg [.lit (.string text)])))] W)(hg:Tryz.prog.globalNamed n=some g)(ht:(Tryz.prog.globals[g]?).map (·.type)=some 58):
  ∃a,W.var? Tryz.prog n=some #[.iface 384 (.pointer (some a))]:=by
 obtain⟨a,s,h1,_⟩:=laid_sentinel h hg ht Tryz.underlying58 UJ Tryz.underlying384 Tryz.underlying386 rfl rfl Tryz.underlying9 (by kernel_rfl) (by kernel_rfl);exact⟨a,h1⟩
def HD:Tryz.prog.globalNamed "loop.example/g01081/impl.errWhole" = some 0:=by kernel_rfl
def Pp:Tryz.prog.globalNamed "errors.errorType" = some 1:=by kernel_rfl
def HE:Tryz.prog.globalNamed "strconv.ErrSyntax" = some 3:=by kernel_rfl
def HF:Tryz.prog.globalNamed "strconv.ErrRange" = some 4:=by kernel_rfl
def CI:Tryz.prog.globalNamed "internal/strconv.uint64pow10" = some 5:=by kernel_rfl
def Ps:(Tryz.prog.cutTypes.find? (·.1 == "internal/reflectlite.rtype")).map (·.2)=some 204:=by kernel_rfl
def Py:Tryz.prog.types.size=496:=by kernel_rfl
def TH:((List.range 496).filter λt=>Tryz.prog.rowNamed t [101,114,114,111,114])=[58]:=by kernel_rfl
def Uf{W}(h:laidMetH Tryz.prog lst W):Lf.Glob (start W):=by
 obtain⟨a0,w0⟩:=Hq (Cz h "loop.example/g01081/impl.errWhole" Rows.laid_loop_example_g01081_impl_errWhole (by kernel_rfl)) HD (by kernel_rfl);obtain⟨a3,w3⟩:=Hq (Cz h "strconv.ErrSyntax" Rows.laid_strconv_ErrSyntax (by kernel_rfl)) HE (by kernel_rfl);obtain⟨a4,w4⟩:=Hq (Cz h "strconv.ErrRange" Rows.laid_strconv_ErrRange (by kernel_rfl)) HF (by kernel_rfl);have ht:=Cz h "internal/strconv.uint64pow10" (Lib.tabData .u64 Lf.pow10s) (by kernel_rfl);have w5:Lib.TabIs Tryz.prog W "internal/strconv.uint64pow10" .u64 Lf.pow10s:=Lib.tabIs_of_head (t:=389) (e:=324) (n:=20) CI (by kernel_rfl) Tryz.underlying389 Tryz.underlying324 (by kernel_rfl) (by kernel_rfl) ht
 have hh:=(laidMetH_iff.1 h).2;have hm:("errors.errorType",(Rows.laid_errors_errorType:DataW Unit))∈lst.filter λx=>x.2.handleName?.isSome:=by
  have e:(lst.filter λx=>x.2.handleName?.isSome)=[("errors.errorType",(Rows.laid_errors_errorType:DataW Unit))]:=by kernel_rfl
  rw[e];exact List.mem_singleton.2 rfl
 obtain⟨name,u,ty,e1,e2,e3,e4,e5⟩:=hh _ hm;have en:name=[101,114,114,111,114]:=(Option.some.inj e1).symm;subst en;obtain rfl:=Option.some.inj (Ps.symm.trans e2);have hmm:ty∈(List.range 496).filter λt=>Tryz.prog.rowNamed t [101,114,114,111,114]:=List.mem_filter.2 ⟨List.mem_range.2 (by rw[←Py];exact e3),e4⟩;rw[TH]at hmm;obtain rfl:=List.mem_singleton.1 hmm;have hth:typeHandle Tryz.prog 58=.pointer (some ⟨8,58,none⟩):=by kernel_rfl
 rw[hth]at e5;have p5:=uS CI w5;obtain⟨T5,k5,hH5⟩:=NU CI w5;refine⟨⟨a0,uS HD w0⟩,⟨_,_,uS HE w3⟩,⟨_,_,uS HF w4⟩,p5,⟨by decide,T5,k5,?_⟩,uS Pp e5⟩;unfold Lf.K.shp start;simp only[hH5];rfl
def RA{W:World}(h:laidMetH Tryz.prog lst W)(s:ByteArray):Calls Tryz.prog 3 #[.string s] W λe W'=>e=.returned (.bool true)/\Below W.heap.size W W':=by
 have hf:=Lf.law_any (κ:=start W) (p0:=s.data.toList) (Uf h) (λb=>by show(5:Nat)<5000;omega);have hw:W=Lf.W (@Lf.Cx.mk Lf.fb0 W.os W.tape W.output 0 rfl) (start W) W.drawn:=by
  cases W
  unfold Lf.W start;simp
 have hs:Lf.strV s.data.toList=.string s:=rfl;have hc:=hf (@Lf.Cx.mk Lf.fb0 W.os W.tape W.output 0 rfl) W.drawn;rw[←hw,hs]at hc;refine hc.mono ?_;rintro e W' ⟨v,κ',d',rfl,rfl,st,rfl⟩;refine⟨rfl,⟨rfl,rfl,rfl,st.1,λb hb=>(st.2.1 b hb (by simp)).1⟩⟩
set_option maxRecDepth 100000 in
def lifted(os:Os)(started:os.Started)(H:Type)(enc:TypeId×Value->H):
  ReturnsInHanded {} Tryz.checked os 3 .any (λw args=>(Rows.fnExactReadEntrySpec.pre enc Tryz.prog Tryz.f3 [] false w args/\laidMetH Tryz.prog lst w)/\sizedMet enc Tryz.prog Tryz.f3 (OpenSpec.ofChange Rows.fnExactReadEntrySpec) false w args)
   (Rows.fnExactReadEntrySpec.post enc Tryz.prog Tryz.f3 false true false false):=by
 refine returnsInHanded_of_change_and (C:=Tryz.checked) (X:=λw _=>laidMetH Tryz.prog lst w) (λ_ _ _ hh h=>h.of_heap hh) own started (by kernel_rfl) Tryz.func3
  (ChangeSpec.witness_shaped (enc:=enc) (C:=Tryz.checked) (os:=os) (X:=λw _=>laidMetH Tryz.prog lst w) false (World.doorLaid Tryz.prog 400 os) #[.string ⟨#[]⟩] 8 rfl (World.shaped_of_RefB (by kernel_rfl) (by kernel_rfl)) (by kernel_rfl) (by kernel_rfl) (by kernel_rfl)
   (laidMetH_of_parts3 (fuel:=8) (laidMet_of_run' 8 (by kernel_rfl) (by kernel_rfl)) (by kernel_rfl) (by kernel_rfl))) ?_
 intro W base args ds gs before hval0 hW _ _ hL _;have hval:∀(j:Nat) t v,Tryz.f3.params[j]?=some t->args[j]?=some v->Value.okWide Tryz.prog W .any base t v:=hval0;have hW':=hW;obtain⟨p,q,hA0,hV0,rfl,hfz,hnd⟩:=hW;have hA:DataW.TrodAll enc Tryz.prog W 0 (λ_=>true) true Tryz.f3.params.toList args.toList ds p:=hA0;have hV:DataW.TrodVars enc Tryz.prog W (λ_=>true) ["loop.example/g01081/impl.errWhole"] gs q:=hV0;rw[Tryz.params3]at hA hval;obtain⟨v0,d0,rfl,rfl,h0⟩:=trodAll_one hA;obtain⟨s,rfl,rfl,rfl,hz⟩:=open_string Tryz.underlying9 (hval 0 9 v0 rfl rfl) h0;have hg:∃g,gs=[g]:=by
  match gs,hV with
  |[g],_=>exact⟨g,rfl⟩
  | g::g'::r,hV=>obtain⟨_,_,_,_,_,_,_,_,_,_,h,_⟩:=hV;exact h.elim
 obtain⟨g,rfl⟩:=hg;refine(RA hL s).mono λe W' ⟨he,hb⟩=>?_;subst he;have e1:Rows.fnExactReadEntrySpec.fn H ([.lit (.string s.data.toList)]++[g])={results:=[.lit (.bool true)],args:=[.lit (.string s.data.toList)],vars:=[g]}:=rfl;refine⟨_,rfl,_,_,_,[],[],q,hW',?_,?_,?_,hb.frame _,λh=>by cases h⟩
 ·rw[e1];exact trodAll_mk1 (shut_bool Tryz.underlying4 true)
 ·rw[e1];exact trodAll_mk1 (shut_string Tryz.underlying9 hz)
 ·rw[e1];exact Below.trodVars H_ hb (by kernel_rfl) hV
def ff:Tryz.prog.funcNamed Rows.fnExactReadEntryRow.func=some 3:=by kernel_rfl
def jm:mapsRowed Tryz.prog=true:=by kernel_rfl
def ji:(Rows.fnExactReadEntryRow.inPlace == Tryz.prog.inPlace 3)=true:=by kernel_rfl
def ju:(Rows.fnExactReadEntryRow.unfollowed == Tryz.prog.unfollowed 3)=true:=by kernel_rfl
def jr:(Rows.fnExactReadEntryRow.recurses == Tryz.prog.recurses 3)=true:=by kernel_rfl
def jn:(Rows.fnExactReadEntryRow.named == Tryz.prog.varsNamed 3)=true:=by kernel_rfl
def jk:(Rows.fnExactReadEntryRow.plainKeys == Tryz.prog.plainKeys)=true:=by kernel_rfl
def jh:Tryz.prog.stopsHeard=true:=by kernel_rfl
def je:Tryz.prog.mayEnter=true:=by kernel_rfl
def and_t{a b}(ha:a=true)(hb:b=true):(a&&b)=true:=by rw[ha,hb];rfl
def jf:joinedFacts Tryz.prog 3 Tryz.f3 Rows.fnExactReadEntrySpec Rows.fnExactReadEntryRow=true:=by
 unfold joinedFacts
 repeat' (with_reducible apply and_t)
 all_goals first | with_reducible exact H_ | with_reducible exact jm | with_reducible exact ji | with_reducible exact ju | with_reducible exact jr | with_reducible exact jn | with_reducible exact jk | with_reducible exact jh | with_reducible exact je | kernel_rfl
def li(os:Os)(started:os.Started)(H:Type)(enc:TypeId×Value->H):ReturnsInHanded Rows.fnExactReadEntryRow.assume Tryz.pinned.checked os 3 .any (Rows.fnExactReadEntryRow.pre enc Tryz.pinned.checked.prog Tryz.f3 (OpenSpec.ofChange Rows.fnExactReadEntrySpec)) (Rows.fnExactReadEntrySpec.post enc Tryz.pinned.checked.prog Tryz.f3 Rows.fnExactReadEntryRow.apart Rows.fnExactReadEntryRow.fresh Rows.fnExactReadEntryRow.handsOn Rows.fnExactReadEntryRow.again):=lifted os started H enc
theorem fnExactReadEntry_said:Rows.FnExactReadEntrySaid:=OpenClaim.holds_of_wide 3 Tryz.f3 rfl rfl rfl rfl rfl rfl rfl ⟨rfl,rfl,rfl,rfl,rfl⟩ rfl rfl rfl rfl rfl ff Tryz.func3 jf
  (of_decide_eq_true (by kernel_rfl)) (by unfold Func.isWrapper;rw[if_neg<|of_decide_eq_false (by kernel_rfl)];exact⟨rfl,rfl⟩)
  (λos started H enc _=>li os started H enc)
theorem fnExactReadEntry_card:Rows.FnExactReadEntryCardSaid:=Claim7.holds_tied_plain_at .later [] [.data,.data,.data,.handle,.sentinel,.sentinel,.sentinel] true (true, "252b9eed08c77f4df7ad9c1115427c8764d863a3ab65805e1e2f5ddc3aaf92fd") true
  fnExactReadEntry_said (λ_ h=>by cases h) (by kernel_rfl) (λ_ h=>by cases h) fnExactReadEntry_row_tie rfl ⟨rfl,rfl⟩ (by kernel_rfl) rfl
  (λf fn hf hfn=>by
   obtain rfl:f=3:=Option.some.inj (ff.symm.trans hf) |>.symm;obtain rfl:fn=Tryz.f3:=(Option.some.inj (Tryz.func3.symm.trans hfn)).symm;exact⟨by kernel_rfl,λj t ht=>by
    rw[Tryz.params3]at ht;have hm:t∈[9]:=by simpa using Array.mem_of_getElem? ht
    have hall:([9].all λu=>!Tryz.prog.wantsStandIn u)=true:=by kernel_rfl
    exact(show Tryz.prog.wantsStandIn t=false by simpa using List.all_eq_true.1 hall t hm)⟩)
  (by kernel_rfl)
end Go.Proofs.YtaalegfhglhnjaaGreatDoor
#print axioms Go.Proofs.YtaalegfhglhnjaaGreatDoor.fnExactReadEntry_card
