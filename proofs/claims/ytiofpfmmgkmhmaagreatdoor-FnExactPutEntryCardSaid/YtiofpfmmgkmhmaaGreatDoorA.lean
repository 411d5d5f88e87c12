import Derived.Orders
import Derived.StillTail
import Derived.KernelRfl
import Derived.Tactics
import Derived.TacticsIn
import Derived.OrdersIn
import Derived.Laws.Cells
import Derived.Laws.World
import Derived.Laws.AppendOwn
import Derived.Deep.AppendSrc
import Derived.Laws.MakeOwn
import Derived.Laws.StructEq
import Derived.Conc.LoneCalls
import Derived.Conc.LoneSelectN
import Derived.Laws.Concat
import Derived.Laws.BytesString
import Derived.Laws.IdiomStrings
import Derived.MapKept
set_option linter.all false
set_option maxHeartbeats 1000000
namespace Go.Lf
open Go
theorem om{p:Prop}(h:p:=by omega):p:=h
theorem so{p:Prop}(h:p:=by simp;omega):p:=h
theorem si{p:Prop}(h:p:=by simp):p:=h
abbrev ab:=@Array.getElem?_append
abbrev ac:=@Array.getElem?_eq_getElem
abbrev ai:=@Array.getElem?_eq_some_iff
abbrev aj:=@Array.getElem?_modify
abbrev am:=@Array.getElem?_setIfInBounds_ne
abbrev an:=@Array.getElem?_toList
abbrev au:=@Array.length_toList
abbrev av:=@Bool.and_eq_true
abbrev aw:=@Bool.eq_iff_iff
abbrev ba:=@Bool.false_eq_true
abbrev bb:=@Bool.not_eq_true'
abbrev bc:=@Bool.not_true
abbrev bd:=@Go.Result.andThen_ok
abbrev be:=@Go.Sem.run_bind
abbrev bf:=@Go.Sem.run_pure
abbrev bg:=@Int.eq_ofNat_of_zero_le
abbrev bh:=@Int.toNat_natCast
abbrev bi:=@Int.toNat_of_nonneg
abbrev bj:=@List.all_eq_true
abbrev bl:=@List.any_eq_true
abbrev bp:=@List.append_assoc
abbrev bq:=@List.append_nil
abbrev br:=@List.contains_iff_mem
abbrev bu:=@List.drop_eq_getElem_cons
abbrev bz:=@List.eq_nil_iff_forall_not_mem
abbrev ca:=@List.eq_nil_of_length_eq_zero
abbrev ce:=@List.ext_getElem?
abbrev ci:=@List.filter_append
abbrev cj:=@List.filter_cons_of_neg
abbrev cm:=@List.filter_cons_of_pos
abbrev cn:=@List.filter_eq_self
abbrev co:=@List.flatMap_append
abbrev cv:=@List.flatMap_cons
abbrev cw:=@List.foldl_cons
abbrev df:=@List.getElem?_append_left
abbrev dg:=@List.getElem?_append_right
abbrev dh:=@List.getElem?_drop
abbrev dj:=@List.getElem?_eq_getElem
abbrev dl:=@List.getElem?_eq_none
abbrev dm:=@List.getElem?_eq_some_iff
abbrev dt:=@List.getElem?_map
abbrev du:=@List.getElem?_of_mem
abbrev dv:=@List.getElem?_range
abbrev dx:=@List.getElem?_replicate
abbrev dy:=@List.getElem?_set_ne
abbrev dz:=@List.getElem?_set_self
abbrev ec:=@List.getElem?_take
abbrev ed:=@List.getElem_mem
abbrev ef:=@List.length_append
abbrev eh:=@List.length_cons
abbrev ek:=@List.length_drop
abbrev ep:=@List.length_filter_le
abbrev er:=@List.length_map
abbrev eu:=@List.length_nil
abbrev ey:=@List.length_replicate
abbrev fa:=@List.length_set
abbrev fc:=@List.length_singleton
abbrev fd:=@List.length_take
abbrev fe:=@List.map_append
abbrev fh:=@List.map_congr_left
abbrev fi:=@List.map_cons
abbrev fj:=@List.mem_append
abbrev fp:=@List.mem_append_left
abbrev fq:=@List.mem_cons
abbrev ft:=@List.mem_filter
abbrev fu:=@List.mem_map
abbrev fv:=@List.mem_of_find?_eq_some
abbrev fx:=@List.mem_of_getElem?
abbrev fz:=@List.mem_range
abbrev ga:=@List.mem_singleton
abbrev gc:=@List.nil_append
abbrev gd:=@List.nodup_append
abbrev gg:=@List.pairwise_cons
abbrev gi:=@List.pairwise_iff_getElem
abbrev gj:=@List.range_succ
abbrev gk:=@List.size_toArray
abbrev gl:=@List.take_add_one
abbrev gm:=@List.take_length
abbrev gp:=@List.take_of_length_le
abbrev gq:=@Nat.add_mul
abbrev gt:=@Nat.eq_of_beq_eq_true
abbrev gu:=@Nat.le_of_ble_eq_true
abbrev gv:=@Nat.le_refl
abbrev gy:=@Nat.le_trans
abbrev ia:=@Nat.lt_iff_add_one_le
abbrev ib:=@Nat.lt_of_lt_of_le
abbrev ic:=@Nat.lt_or_ge
abbrev ie:=@Nat.lt_or_gt_of_ne
abbrev ig:=@Nat.lt_trichotomy
abbrev ii:=@Nat.mul_le_mul_right
abbrev ij:=@Nat.succ_mul
abbrev ik:=@Nat.zero_add
abbrev il:=@Option.bind_eq_some_iff
abbrev im:=@Option.bind_some
abbrev io:=@Option.getD_some
abbrev ip:=@Option.map_eq_some_iff
class Fc where
 rd:Option Nat
 ds:List Deferred
instance BO:Fc:=⟨none,[]⟩
class Fb where
 lo:Nat->Bool
 b0:Nat
 h0:lo b0=true
instance fb0:Fb:=⟨λn=>Nat.beq n 0,0,rfl⟩
def FF[Fc]:Fence:={Fence.wide with round:=Fc.rd}
def PS[Fc]{args:Array Value}{R:Ending->World->Prop}{n P f w}(h:Calls P f args w R):CallsIn FF n P f args w R:=(callsIn_wide (n:=n)).2 h
def Be{ρ:Operand->Value}{o:Oper}{ro P w w' nx}(h:(execOp ρ o).run P w=.ok nx w')(hn:∀d,nx≠.defer d):
  (o.semAt ro ρ).run P w=.ok nx w':=by
 rw[Oper.semAt_eq _ _ _ (λc a=>?_)]
 ·exact h
 ·unfold execOp at h;rw[a]at h;simp only[be]at h;cases hr:(resolve ρ c o.type).run P w with
  | ok d w1=>rw[hr]at h;simp[Result.andThen]at h;exact hn d h.1.symm
  | halt x w1=>rw[hr]at h;simp[Result.andThen]at h
def Kf{p:Nat->Prop}(h:∃m,p m):∃m,p m/\∀k,p k->m<=k:=by
 classical
 obtain⟨m,hm⟩:=h
 induction m using Nat.strongRecOn with
 | _ m ih=>
  by_cases a:∃k,k<m/\p k
  ·obtain⟨k,c,hp⟩:=a;exact ih k c hp
  ·exact⟨m,hm,λk hp=>Nat.le_of_not_lt λb=>a ⟨k,b,hp⟩⟩
section
variable [Fc] {P:Program} {o:Oper} {a:Act} {w w':World} {K:Act->World->Prop} {Q:Exit->Act->World->Prop}
def kG{v}(h:(execOp a.eval o).run P w=.ok (.value v) w')(hk:K (a.put o.dst v) w'):o.wpIn FF 0 P a w K Q:=by
 unfold Oper.wpIn;rw[Be h (λ_ e=>by cases e)];exact⟨λ_ _=>trivial,hk⟩
def HP(h:(execOp a.eval o).run P w=.ok .skip w')(hk:K (a.put o.dst undef) w'):o.wpIn FF 0 P a w K Q:=by
 unfold Oper.wpIn;rw[Be h (λ_ e=>by cases e)];exact⟨λ_ _=>trivial,hk⟩
def AN{args:Array Value}{f}(h:(execOp a.eval o).run P w=.ok (.enter f args) w')(hk:Calls P f args w' λ| .returned v,w''=>K (a.put o.dst v) w'' | .panicked chain,w''=>Q (.panic chain) a w'' | .outgrown,_=>LetsOut Q):o.wpIn FF 0 P a w K Q:=by
 unfold Oper.wpIn;rw[Be h (λ_ e=>by cases e)];refine⟨λ_ _=>trivial,λb=>?_,PS (n:=0) hk⟩;simp[FF,Fence.wide]at b
def yq{F:Fence}{ops:Array Oper}{Q':Exit->Act->World->Prop}{n md}:∀(l:List Oper)k(listed:Array Bool)a w,(∀j,l[j]?=ops[k+j]?)->
  Region.seqB md ops l.length k listed=true->wpListIn F n P ops Q' l a w->wpAnyIn F n P md ops Q' l.length listed a w
 |[],_,_,_,_,_,hB,h=>⟨by simpa[Region.seqB]using hB,h⟩
 | o::l,k,listed,a,w,hl,hB,h=>by
  have e:ops[k]?=some o:=by simpa using(hl 0).symm
  simp only[eh,Region.seqB,av,decide_eq_true_eq]at hB;refine⟨λc=>(by rw[hB.1]at c;cases c),λi hi=>?_⟩;rw[hB.1]at hi;have b:i=k:=by simpa using hi
  subst b;have d:wpOpIn F n P ops Q' i (wpListIn F n P ops Q' l) a w:=by unfold wpOpIn;simp only[e];exact h
  exact wpOpIn_mono (λa' w' h'=>yq l (i+1) _ a' w' (λj=>by have:=hl (j+1);simpa[Nat.add_assoc,Nat.add_comm 1 j]using this) hB.2 h') d
def Yu{F:Fence}{x:Code}{Q:Exit->Act->World->Prop}{n a w}(I:Act->World->Nat->Prop)m(h0:I a w m)(round:∀m a w,I a w m->x.wpIn F n P (λe a' w'=>match e with
   | .normal=>∃d,d<m/\I a' w' d
   | e=>Q e a' w') a w):(Code.loop x).wpIn F n P Q a w:=by
 obtain⟨J,g⟩:∃J:Act->World->Prop,J=λa w=>∃m,I a w m:=⟨_,rfl⟩;obtain⟨μ,j⟩:∃μ:Act->World->Nat,∀a w m,I a w m->μ a w<=m/\I a w (μ a w):=by
  classical
  refine⟨λa w=>if h:∃m,I a w m then Classical.choose (Kf h)else 0,λa w m h=>?_⟩;have b:∃m,I a w m:=⟨m,h⟩;simp only[b,dif_pos];have hs:=Classical.choose_spec<|Kf b;exact⟨hs.2 m h,hs.1⟩
 refine wpIn_loop J μ (by rw[g];exact⟨m,h0⟩) ?_;intro a w i;rw[g]at i;obtain⟨m,hm⟩:=i;refine wpIn_mono (round _ a w (j a w m hm).2) ?_;intro e a' w' k;cases e with
 | normal=>obtain⟨d,f,c⟩:=k;exact⟨by rw[g];exact⟨d,c⟩,Nat.lt_of_le_of_lt (j a' w' d c).1 f⟩
 | _=>exact k
end
structure K where
 H:Array Obj
 fr:Nat->Nat
 tag:Nat->Nat×Nat
structure Cx[Fb] where
 os:Os
 tape:Nat->Question->Nat
 output:Array (Nat×ByteArray)
 base:Nat
 hb:Fb.lo base=true
def W[Fb](C:Cx)(κ:K)(d:Nat):World:={heap:=κ.H,tape:=C.tape,drawn:=C.base+d,os:=C.os,output:=C.output}
def K.cell(κ:K)(b o:Nat):Option Value:=
 match κ.H[b]? with
 | some (.cells c _ _)=>c[o]?
 | _=>none
def K.shp(κ:K)(b:Nat):Option (TypeId×Nat×(Nat×Nat)):=
 match κ.H[b]? with
 | some (.cells c T k)=>some (T,c.size,k)
 | _=>none
def Step(M:List Nat)(κ κ':K):Prop:=κ.H.size<=κ'.H.size/\(∀b,b<κ.H.size->b∉M->κ'.H[b]?=κ.H[b]?/\κ'.fr b=κ.fr b/\κ'.tag b=κ.tag b)/\
 (∀b,b<κ.H.size->κ.fr b<=κ'.fr b/\∀o,o<κ.fr b->κ'.cell b o=κ.cell b o)/\
 (∀b,b<κ.H.size->0<κ.fr b->κ'.tag b=κ.tag b/\κ'.shp b=κ.shp b)
def Step.refl M κ:Step M κ κ:=⟨gv _,λ_ _ _=>⟨rfl,rfl,rfl⟩,λ_ _=>⟨gv _,λ_ _=>rfl⟩,λ_ _ _=>⟨rfl,rfl⟩⟩
def Step.mono{M M' κ κ'}(h:Step M κ κ')(hm:∀b,b∈M->b∈M'):Step M' κ κ':=⟨h.1,λb d c=>h.2.1 b d (λa=>c<|hm b a),h.2.2⟩
def Step.trans{M κ κ' κ''}(h:Step M κ κ')(h':Step M κ' κ''):Step M κ κ'':=by
 refine⟨gy h.1 h'.1,λb d g=>?_,λb d=>?_,λb d e=>?_⟩
 ·have a:=h.2.1 b d g;have c:=h'.2.1 b (ib d h.1) g;exact⟨c.1.trans a.1,c.2.1.trans a.2.1,c.2.2.trans a.2.2⟩
 ·have a:=h.2.2.1 b d;have c:=h'.2.2.1 b<|ib d h.1;exact⟨gy a.1 c.1,λo f=>(c.2 o<|ib f a.1).trans<|a.2 o f⟩
 ·have a:=h.2.2.2 b d e;have c:=h'.2.2.2 b (ib d h.1)<|ib e (h.2.2.1 b d).1;exact⟨c.1.trans a.1,c.2.trans a.2⟩
def Step.nil{M κ κ'}(h:Step [] κ κ'):Step M κ κ':=h.mono (λ_ a=>by cases a)
def Fn[Fb](P:Program)(f:FuncId)(args:Array Value)(κ:K)(R:Value->K->Prop):Prop:=∀C d,Calls P f args (W C κ d) λe w'=>∃v κ' d',e=.returned v/\w'=W C κ' d'/\R v κ'
def Fn.mono[Fb]{args:Array Value}{R R':Value->K->Prop}{P f κ}(h:Fn P f args κ R)(hr:∀v κ',R v κ'->R' v κ'):
  Fn P f args κ R':=λC d=>(h C d).mono λ_ _ ⟨v,κ',d',he,hw,hR⟩=>⟨v,κ',d',he,hw,hr v κ' hR⟩
abbrev aB:=Nat->Value
def aQ(E:aB)(t:Nat)(v:Value):aB:=λs=>bif Nat.beq s t then v else E s
def ON{E:aB}{t v}(h:E t=v):E=aQ E t v:=by
 funext s;unfold aQ;cases hs:Nat.beq s t with
 | false=>rfl
 | true=>have:=gt hs;subst this;exact h
def ev(E:aB):Operand->Value
 | .tmp t=>E t
 | .const v=>v
 | .global g=>.pointer (some ⟨g,0,none⟩)
 | .func f=>.func (.func f) #[] #[]
structure Fits[Fc](n:Nat)(a:Act)(E:aB):Prop where
 size:a.tmps.size=n
 defers:a.defers=Fc.ds
 tmps:∀t,a.tmps.getD t undef=E t
def Fits.eval[Fc][Fb]{a:Act}{n E}(h:Fits n a E):a.eval=ev E:=by
 funext x;cases x with
 | tmp t=>exact h.tmps t
 | _=>rfl
def Fits.put[Fc][Fb]{a:Act}{n d E}(h:Fits n a E)(hd:d<n)v:Fits n (a.put (some d) v) (aQ E d v):=by
 refine⟨by simpa[Act.put]using h.size,h.defers,λt=>?_⟩;unfold aQ;cases hs:Nat.beq t d with
 | true=>
  have:=gt hs;subst this;have c:t<a.tmps.size:=by rw[h.size];exact hd
  simp[Act.put,c]
 | false=>
  have b:d≠t:=λe=>by subst e;simp at hs
  have:=h.tmps t;simp only[Act.put,cond_false];rw[←this];simp[am b]
abbrev bC:=Exit->aB->K->Prop
def dZ[Fc][Fb](n:Nat)(C:Cx)(Q:bC):Exit->Act->World->Prop:=λe a w=>∃E κ d,Fits n a E/\w=W C κ d/\Q e E κ
def Qz[Fc][Fb]{Q Q':bC}{n C}(h:∀e E κ,Q e E κ->Q' e E κ):∀e a w,dZ n C Q e a w->dZ n C Q' e a w:=λ_ _ _ ⟨E,κ,d,hf,hw,hq⟩=>⟨E,κ,d,hf,hw,h _ _ _ hq⟩
def aO[Fc][Fb](P:Program)(n:Nat)(c:Code)(Q:bC)(E:aB)(κ:K):Prop:=∀C d a,Fits n a E->c.wpIn FF 0 P (dZ n C Q) a (W C κ d)
def QZ[Fc][Fb]{Q Q':bC}{P n c E κ}(h:aO P n c Q E κ)(hq:∀e E κ,Q e E κ->Q' e E κ):aO P n c Q' E κ:=λC d a b=>wpIn_mono (h C d a b)<|Qz hq
def dU(i:Nat):Code->Code
 | .seq a b=>if i=0 then a else b
 | .cond _ a b=>if i=0 then a else b
 | .block _ b=>b
 | .loop b=>b
 | .scope b=>b
 | .rangeFunc _ _ a b=>if i=0 then a else b
 | c=>c
def sub(c:Code):List Nat->Code
 |[]=>c
 | i::p=>dU i (sub c p)
def zC(f:Func):Code:=f.body.getD .skip
def iz:Code->Bool
 | .seq _ _=>true
 | _=>false
def BI:Code->Bool
 | .skip=>true
 | _=>false
def Ck:Code->Bool
 | .ret=>true
 | _=>false
def BL:Code->Bool
 | .loop _=>true
 | _=>false
def ZP:Code->Option Operand
 | .cond o _ _=>some o
 | _=>none
def nc:Code->Bool
 | .cond _ _ _=>true
 | _=>false
def pW:Code->Operand
 | .cond o _ _=>o
 | _=>.func 0
def ua:Code->Option Nat
 | .block id _=>some id
 | _=>none
def IA:Code->Option Nat
 | .exit id=>some id
 | _=>none
def eD:Code->Option Bool
 | .region _ _ d=>some d
 | _=>none
def opsOf:Code->Array Oper
 | .region _ ops _=>ops
 | _=>#[]
section rules
variable [Fc] [Fb] {P:Program} {n:Nat} {c:Code} {Q:bC} {E:aB} {κ:K} {p:List Nat}
def gX[Fb](P:Program)(n:Nat)(c:Code)(Q:bC):bC:=λe E κ=>
 match e with
 | .normal=>aO P n c Q E κ
 | e=>Q e E κ
def Jd(h:iz (sub c p)=true)(hx:aO P n (sub c (0::p)) (gX P n (sub c (1::p)) Q) E κ):aO P n (sub c p) Q E κ:=by
 have i:sub c (0::p)=dU 0 (sub c p):=rfl;have k:sub c (1::p)=dU 1 (sub c p):=rfl;rw[i,k]at hx;clear i k;generalize sub c p=s at *;cases s<;>simp[iz]at h;rename_i x y;intro C d a l;have f:aO P n x (gX P n y Q) E κ:=hx;refine wpIn_seq<|wpIn_mono (f C d a l) ?_;rintro e a' w' ⟨m,κ',j,b,rfl,g⟩;cases e with
 | normal=>exact g C j a' b
 | _=>exact⟨m,κ',j,b,rfl,g⟩
def O_(h:BI (sub c p)=true)(hq:Q .normal E κ):aO P n (sub c p) Q E κ:=by
 generalize sub c p=s at *;cases s<;>simp[BI]at h;intro C d a b;exact wpIn_skip ⟨E,κ,d,b,rfl,hq⟩
def RI(h:Ck (sub c p)=true)(hq:Q .ret E κ):aO P n (sub c p) Q E κ:=by
 generalize sub c p=s at *;cases s<;>simp[Ck]at h;intro C d a b;exact wpIn_ret ⟨E,κ,d,b,rfl,hq⟩
def Sf{id}(h:IA (sub c p)=some id)(hq:Q (.exit id) E κ):aO P n (sub c p) Q E κ:=by
 generalize sub c p=s at *;cases s<;>simp[IA]at h;subst h;intro C d a b;exact wpIn_exit ⟨E,κ,d,b,rfl,hq⟩
def HY b(h:nc (sub c p)=true)(hb:ev E (pW (sub c p))=.bool b)(ht:b=true->aO P n (sub c (0::p)) Q E κ)(he:b=false->aO P n (sub c (1::p)) Q E κ):aO P n (sub c p) Q E κ:=by
 have i:sub c (0::p)=dU 0 (sub c p):=rfl;have g:sub c (1::p)=dU 1 (sub c p):=rfl;rw[i]at ht;rw[g]at he;clear i g;generalize sub c p=s at *;cases s<;>simp[nc]at h;rename_i o x y;intro C d a f;have e:a.eval o=.bool b:=by rw[f.eval];exact hb
 cases b with
 | true=>exact wpIn_cond e<|(ht rfl) C d a f
 | false=>exact wpIn_cond e<|(he rfl) C d a f
def ir(id:Nat)(Q:bC):bC:=λe E κ=>
 match e with
 | .exit id'=>if id'=id then Q .normal E κ else Q (.exit id') E κ
 | e=>Q e E κ
def Qe{id}(h:ua (sub c p)=some id)(hx:aO P n (sub c (0::p)) (ir id Q) E κ):aO P n (sub c p) Q E κ:=by
 have l:sub c (0::p)=dU 0 (sub c p):=rfl;rw[l]at hx;clear l;generalize sub c p=s at *;cases s<;>simp[ua]at h;rename_i id' x;subst h;intro C d a m;have g:aO P n x (ir id' Q) E κ:=hx;refine wpIn_block<|wpIn_mono (g C d a m) ?_;rintro e a' w' ⟨j,κ',k,b,rfl,f⟩;cases e with
 | exit i=>
  simp only[Exit.inBlock];simp only[ir]at f;split
  ·rename_i hi;rw[if_pos hi]at f;exact⟨j,κ',k,b,rfl,f⟩
  ·rename_i hi;rw[if_neg hi]at f;exact⟨j,κ',k,b,rfl,f⟩
 | _=>exact⟨j,κ',k,b,rfl,f⟩
def kz(I:Nat->aB->K->Prop)(h:BL (sub c p)=true)m(h0:I m E κ)(round:∀m E κ,I m E κ->aO P n (sub c (0::p)) (λe g κ'=>match e with
   | .normal=>∃k,k<m/\I k g κ'
   | e=>Q e g κ') E κ):aO P n (sub c p) Q E κ:=by
 have t:sub c (0::p)=dU 0 (sub c p):=rfl;rw[t]at round;clear t;generalize sub c p=s at *;cases s<;>simp[BL]at h;rename_i x;intro C d a l;obtain⟨f,b⟩:∃f:Act->World->Nat->Prop,f=λa w m=>∃E κ d,Fits n a E/\w=W C κ d/\I m E κ:=⟨_,rfl⟩;refine Yu f m (by rw[b];exact⟨E,κ,d,l,rfl,h0⟩) ?_;intro m a w j;rw[b]at j;obtain⟨E,κ,d,l,rfl,j⟩:=j;refine wpIn_mono (round m E κ j C d a l) ?_;rintro e a' w' ⟨g,κ',v,i,rfl,u⟩;cases e with
 | normal=>obtain⟨k,q,r⟩:=u;rw[b];exact⟨k,q,g,κ',v,i,rfl,r⟩
 | _=>exact⟨g,κ',v,i,rfl,u⟩
end rules
def Ol[Fc][Fb]{κ κ':K}{P n c Q E}(h:κ'.H=κ.H)(hk:aO P n c Q E κ'):aO P n c Q E κ:=by
 intro C d a b;have e:W C κ d=W C κ' d:=by unfold W;rw[h]
 rw[e];exact hk C d a b
def nJ(fn:Func)(E:aB):Sem Value:=do
 let vs ←fn.results.mapM fun
  | .tmp t=>pure (E t)
  | .cell a t=>do loadVar t (←asAddr (E a))
 pure (if h:vs.size=1 then vs[0]else .tuple vs)
def Ik[Fc][Fb]{a:Act}{n E}(h:Fits n a E)(fn:Func):results fn a.tmps=nJ fn E:=by
 unfold results nJ;simp only[h.tmps];congr 1
def kN[Fb](P:Program)(fn:Func)(R:Value->K->Prop):bC:=λe E κ=>
 match e with
 | .normal | .ret=>∃v,(∀C d,(nJ fn E).run P (W C κ d)=.ok v (W C κ d))/\R v κ
 | _=>False
def nu(args:Array Value):aB:=λt=>args.getD t undef
def QN[Fb]{P:Program}{fn:Func}{args:Array Value}{R:Value->K->Prop}{f c n κ}(hf:P.funcs[f]?=some fn)(hb:fn.body=some c)(hn:fn.ntmps=n)(ha:args.size<=n)(h:aO P n c (kN P fn R) (nu args) κ):Fn P f args κ R:=by
 intro C d;have b:Fits n {tmps:=args++Array.replicate (fn.ntmps - args.size) undef,defers:=[]} (nu args):=by
  refine⟨by simp[hn];omega,rfl,λt=>?_⟩;unfold nu;by_cases m:t<args.size
  ·simp[ab,m]
  ·by_cases g:t - args.size<fn.ntmps - args.size
   ·simp[ab,m,g]
   ·simp[ab,m,g]
 refine calls_of_wp hf hb<|wp_mono (wpIn_wide.1<|h C d _ b) ?_;rintro e a' w' ⟨p,κ',i,a,rfl,j⟩;cases e with
 | normal=>
  obtain⟨v,l,k⟩:=j;exact⟨a.defers,v,by rw[Ik a];exact l C i,v,κ',i,rfl,rfl,k⟩
 | ret=>
  obtain⟨v,l,k⟩:=j;exact⟨a.defers,v,by rw[Ik a];exact l C i,v,κ',i,rfl,rfl,k⟩
 | _=>exact j.elim
def zw(c:Code)(i:Nat):Oper:=((opsOf c)[i]?).getD default
def dstOf(c:Code)(i:Nat):Nat:=((zw c i).dst).getD 0
def cD(c:Code)(i:Nat)(E:aB):Bool:=
 match(zw c i).guard with
 | none=>true
 | some (j,w)=>
  match((opsOf c)[j]?).bind (·.dst)with
  | some t=>match E t with
   | .bool b=>b == w
   | _=>false
  | none=>false
def st(c:Code)(i n:Nat)(E:aB)(d:Option Nat):Bool:=decide (i<(opsOf c).size)&&cD c i E&&((zw c i).dst == d)&&d.all (λt=>decide (t<n))
def sk(c:Code)(i n:Nat)(E:aB)(d:Nat):Bool:=decide (i<(opsOf c).size)&&!cD c i E&&((zw c i).dst == some d)&&decide (d<n)
def jP[Fc][Fb]{a:Act}{n E}(h:Fits n a E)c i:
  Region.wanted (zw c i) (yielded (opsOf c) a.tmps)=cD c i E:=by
 unfold Region.wanted cD yielded;cases hg:(zw c i).guard with
 | none=>rfl
 | some g=>
  obtain⟨j,w⟩:=g;simp only[];cases hd:((opsOf c)[j]?).bind (·.dst)with
  | none=>simp
  | some t=>
   simp only[im];have b:=h.tmps t;by_cases hs:t<a.tmps.size
   ·have:a.tmps[t]?=some (E t):=by
     rw[←b];simp[hs]
    rw[this];cases E t<;>simp
   ·have d:a.tmps[t]?=none:=Array.getElem?_eq_none<|Nat.le_of_not_lt hs;have e:E t=undef:=by rw[←b];simp[hs]
    rw[d,e];rfl
def jR{c i}(h:i<(opsOf c).size):(opsOf c)[i]?=some (zw c i):=by
 unfold zw;simp[h]
def aN[Fc][Fb](P:Program)(n:Nat)(c:Code)(i:Nat)(Q:bC)(E:aB)(κ:K):Prop:=∀C d a,Fits n a E->wpOpsIn FF 0 P (opsOf c) (dZ n C Q) (List.range' i<|(opsOf c).size - i) a (W C κ d)
section
variable [Fc] [Fb] {P:Program} {n:Nat} {c:Code} {i:Nat} {Q:bC} {E:aB} {κ:K}
def Hu{c0 p}(h:eD (sub c0 p)=some false)(hx:aN P n (sub c0 p) 0 Q E κ):aO P n (sub c0 p) Q E κ:=by
 generalize sub c0 p=s at *;cases s<;>simp[eD]at h;subst h;intro C d a b;refine wpIn_region ?_;have:=hx C d a b;simpa[List.range_eq_range',opsOf]using this
def tv{i m}(h:i<m):List.range' i (m - i)=i::List.range' (i+1) (m - (i+1)):=by
 have:m - i=(m - (i+1))+1:=by omega
 rw[this,List.range'_succ]
def tT(h:decide ((opsOf c).size<=i)=true)(hq:Q .normal E κ):aN P n c i Q E κ:=by
 intro C d a b;have h':(opsOf c).size - i=0:=by have:=of_decide_eq_true h;omega
 rw[h'];exact⟨E,κ,d,b,rfl,hq⟩
def iU{d}(h:st c i n E d=true):i<(opsOf c).size/\cD c i E=true/\(zw c i).dst=d/\∀t,d=some t->t<n:=by
 unfold st at h;simp only[av,decide_eq_true_eq,beq_iff_eq]at h;refine⟨h.1.1.1,h.1.1.2,h.1.2,λt a=>?_⟩;subst a;simpa using h.2
def lD{d}(h:st c i n E d=true)(hr:∀C b (a:Act),Fits n a E->
  (zw c i).wpIn FF 0 P a (W C κ b) (wpOpsIn FF 0 P (opsOf c) (dZ n C Q) (List.range' (i+1) ((opsOf c).size - (i+1)))) (dZ n C Q)):aN P n c i Q E κ:=by
 obtain⟨f,g,k,j⟩:=iU h;intro C b a e;rw[tv f,wpOpsIn];simp only[jR f];rw[jP e,g,if_pos rfl];exact hr C b a e
def iR{d κ'}v(h:st c i n E (some d)=true)(hr:∀C b,(execOp (ev E) (zw c i)).run P (W C κ b)=.ok (.value v) (W C κ' b))(hk:aN P n c (i+1) Q (aQ E d v) κ'):aN P n c i Q E κ:=by
 refine lD h λC b a e=>?_;obtain⟨k,j,g,f⟩:=iU h;refine kG (by rw[e.eval];exact hr C b) ?_;rw[g];exact hk C b _<|e.put (f d rfl) v
def Bg{d}v(h:st c i n E (some d)=true)(hr:∀w,(execOp (ev E) (zw c i)).run P w=.ok (.value v) w)(hk:aN P n c (i+1) Q (aQ E d v) κ):aN P n c i Q E κ:=iR v h (λ_ _=>hr _) hk
def gZ{d}(R:Value->K->Prop)(h:st c i n E (some d)=true)(hr:∀C b,∃v κ' d1,(execOp (ev E) (zw c i)).run P (W C κ b)=.ok (.value v) (W C κ' d1)/\R v κ')(hk:∀v κ',R v κ'->aN P n c (i+1) Q (aQ E d v) κ'):aN P n c i Q E κ:=by
 refine lD h λC b a f=>?_;obtain⟨m,l,k,g⟩:=iU h;obtain⟨v,κ',d1,e,j⟩:=hr C b;refine kG (by rw[f.eval];exact e) ?_;rw[k];exact hk v κ' j C d1 _<|f.put (g d rfl) v
def JO{κ'}(h:st c i n E none=true)(hr:∀C b,(execOp (ev E) (zw c i)).run P (W C κ b)=.ok .skip (W C κ' b))(hk:aN P n c (i+1) Q E κ'):aN P n c i Q E κ:=by
 refine lD h λC b a d=>?_;obtain⟨j,f,e,g⟩:=iU h;refine HP (by rw[d.eval];exact hr C b) ?_;rw[e];exact hk C b _ d
def iN{κ':K}(h:κ'.H=κ.H)(hk:aN P n c i Q E κ'):aN P n c i Q E κ:=by
 intro C d a b;have e:W C κ d=W C κ' d:=by unfold W;rw[h]
 rw[e];exact hk C d a b
def zR{F}(h:E=F)(hk:aN P n c i Q F κ):aN P n c i Q E κ:=by rw[h];exact hk
def Rz{args:Array Value}{R:Value->K->Prop}{d f}(h:st c i n E (some d)=true)(hr:∀w,(execOp (ev E) (zw c i)).run P w=.ok (.enter f args) w)(hf:Fn P f args κ R)(hk:∀v κ',R v κ'->aN P n c (i+1) Q (aQ E d v) κ'):aN P n c i Q E κ:=by
 refine lD h λC g a b=>?_;obtain⟨q,p,m,j⟩:=iU h;refine AN (by rw[b.eval];exact hr _) ?_;refine(hf C g).mono ?_;rintro e w' ⟨v,κ',l,rfl,rfl,k⟩;simp only[m];exact hk v κ' k C l _<|b.put (j d rfl) v
def Ry{d}(h:sk c i n E d=true)(hk:aN P n c (i+1) Q (aQ E d undef) κ):aN P n c i Q E κ:=by
 unfold sk at h;simp only[av,decide_eq_true_eq,beq_iff_eq,bb]at h;obtain⟨⟨⟨e,g⟩,k⟩,j⟩:=h;intro C f a b;rw[tv e,wpOpsIn];simp only[jR e];rw[jP b,g,if_neg si,k];exact⟨λ_ _=>trivial,hk C f _<|b.put j undef⟩
end
def Km(P:Program)(Rel:K->K->Prop)[Fb](C:Cx)(κ:K)(R:Value->K->Prop):Result Next->Prop
 | .ok (.value v) w'=>∃κ' d',w'=W C κ' d'/\Rel κ κ'/\R v κ'
 | .ok (.enter f args) w'=>∃κ' d',w'=W C κ' d'/\Rel κ κ'/\Fn P f args κ' (λv κ''=>Rel κ' κ''/\R v κ'')
 | _=>False
def bA[Fb](P:Program)(Rel:K->K->Prop)(c:Code)(i:Nat)(E:aB)(κ:K)(R:Value->K->Prop):Prop:=(cD c i E=true->∀C d,Km P Rel C κ R<|(execOp (ev E)<|zw c i).run P<|W C κ d)/\(cD c i E=false->R undef κ)
def Cq(c:Code):Bool:=(List.range (opsOf c).size).all λi=>(zw c i).after.all λe=>!Region.binds .any e||decide (e.on<i)
def cQ(c:Code)(i j:Nat):Bool:=(zw c i).after.any λe=>Region.binds .any e&&e.on == j
def Cj(c:Code)(n k:Nat):Bool:=(List.range k).all λi=>((zw c i).dst == some (dstOf c i))&&decide (dstOf c i<n)&&((List.range i).all λj=>dstOf c j != dstOf c i)
def gO(k m:Nat):Array Bool:=(Array.range m).map λi=>decide (i<k)
def jY(c:Code)(n k:Nat):Bool:=decide (k<=(opsOf c).size)&&Cq c&&Cj c n k &&
 (decide (k=(opsOf c).size)||(Region.sinkB .any (opsOf c) k&&Region.chainB .any (opsOf c) k)) &&
 Region.seqB .any (opsOf c) ((opsOf c).size - k) k (gO k (opsOf c).size)
def fC(listed:Array Bool)(k:Nat):Nat:=((List.range k).filter λi=>!listed.getD i false).length
def Bs{listed:Array Bool}{k i}(hi:i<k)(hs:i<listed.size)(hl:listed.getD i false=false):
  fC (listed.setIfInBounds i true) k+1=fC listed k:=by
 unfold fC
 induction k with
 | zero=>omega
 | succ k ih=>
  rw[gj,ci,ci,ef,ef];by_cases a:i=k
  ·subst a;have c:List.filter (λj=>!(listed.setIfInBounds i true).getD j false) (List.range i)=List.filter (λj=>!listed.getD j false) (List.range i):=by
    apply List.filter_congr;intro j d;have:i≠j:=by have:=fz.1 d;omega
    simp[am this]
   rw[c];have b:(listed.setIfInBounds i true).getD i false=true:=by simp[hs]
   simp only[List.filter_cons,List.filter_nil,b,hl];simp
  ·have c:=ih om;have b:(listed.setIfInBounds i true).getD k false=listed.getD k false:=by
    simp[am a]
   simp only[List.filter_cons,List.filter_nil,b];omega
def HR{listed:Array Bool}{k}(h:fC listed k=0):∀i,i<k->listed.getD i false=true:=by
 intro i hi;unfold fC at h;have h':=List.length_eq_zero_iff.1 h;rw[List.filter_eq_nil_iff]at h';have:=h' i<|fz.2 hi;simpa using this
def Iu{listed:Array Bool}{k m}(h:fC listed k=m+1):∃i,i<k/\listed.getD i false=false/\∀j,j<i->listed.getD j false=true:=by
 have f:∃i,i<k/\listed.getD i false=false:=by
  unfold fC at h;have e:(List.range k).filter (λi=>!listed.getD i false)≠[]:=by
   intro l;rw[l]at h;simp at h
  obtain⟨x,g⟩:=List.exists_mem_of_ne_nil _ e;rw[ft]at g;exact⟨x,fz.1 g.1,by simpa using g.2⟩
 have key:∀i,i<k->listed.getD i false=false->∃i,i<k/\listed.getD i false=false/\∀j,j<i->listed.getD j false=true:=by
  intro i
  induction i using Nat.strongRecOn with
  | _ i ih=>
   intro hi c;by_cases a:∀j,j<i->listed.getD j false=true
   ·exact⟨i,hi,c,a⟩
   ·have b:∃j,j<i/\listed.getD j false=false:=Classical.byContradiction λn=>
     a λj b=>by
      cases hb:listed.getD j false with
      | true=>rfl
      | false=>exact absurd ⟨j,b,hb⟩ n
    obtain⟨j,b,d⟩:=b;exact ih j b om d
 obtain⟨i,hi,c⟩:=f;exact key i hi c
section
variable [Fc] [Fb] {P:Program} {n:Nat} {c:Code} {Q:bC} {E:aB} {κ:K} {k:Nat}
def Rl(i0 i:Nat)(A B:K->K->Prop):K->K->Prop:=bif Nat.beq i i0 then A else B
def Kk{A B:K->K->Prop}{i0 i}(h:∀κ1 κ2,B κ1 κ2->A κ1 κ2){κ1 κ2}(hr:Rl i0 i A B κ1 κ2):A κ1 κ2:=by
 unfold Rl at hr;cases hb:Nat.beq i i0 with
 | false=>rw[hb]at hr;exact h _ _ hr
 | true=>rw[hb]at hr;exact hr
def Kj{A B:K->K->Prop}{i0 i}(hne:i≠i0){κ1 κ2}(hr:Rl i0 i A B κ1 κ2):B κ1 κ2:=by
 unfold Rl at hr;cases hb:Nat.beq i i0 with
 | false=>rw[hb]at hr;exact hr
 | true=>exact absurd (gt hb) hne
def Tt{A B:K->K->Prop}{i0 i j}(h:∀κ1 κ2,B κ1 κ2->A κ1 κ2)(hji:j≠i){κ1 κ2}(hr:Rl i0 i A B κ1 κ2):Rl i0 j B A κ1 κ2:=by
 unfold Rl;cases hb:Nat.beq j i0 with
 | false=>exact Kk h hr
 | true=>
  have:=gt hb;subst this;exact Kj (Ne.symm hji) hr
def Ts{A B:K->K->Prop}{i0 i}(h:∀κ1 κ2,B κ1 κ2->A κ1 κ2)(rr:∀κ,B κ κ){κ}:Rl i0 i A B κ κ:=by
 unfold Rl;cases Nat.beq i i0 with
 | false=>exact rr κ
 | true=>exact h _ _<|rr κ
def Sm{A B:K->K->Prop}{i0 i}(ta:∀κ1 κ2 κ3,A κ1 κ2->A κ2 κ3->A κ1 κ3)(tb:∀κ1 κ2 κ3,B κ1 κ2->B κ2 κ3->B κ1 κ3){κ1 κ2 κ3}(h:Rl i0 i A B κ1 κ2)(h':Rl i0 i A B κ2 κ3):Rl i0 i A B κ1 κ3:=by
 unfold Rl at *;cases hb:Nat.beq i i0 with
 | false=>rw[hb]at h h';exact tb _ _ _ h h'
 | true=>rw[hb]at h h';exact ta _ _ _ h h'
structure DInv(q0:Nat)(Rel0 Rel1:K->K->Prop)(n:Nat)(c:Code)(E:aB)(κ:K)(k:Nat)(S:Nat->Value->K->Prop)(listed:Array Bool)(E':aB)(κ':K):Prop where
 head:HeadInv .any (opsOf c) k listed
 step:Rel0 κ κ'
 pre:listed.getD q0 false=false->Rel1 κ κ'
 off:∀t,(∀j,j<k->t≠dstOf c j)->E' t=E t
 done:∀j,j<k->listed.getD j false=true->S j (E' (dstOf c j)) κ'
def Pa{c0 p}q0(Rel0 Rel1:K->K->Prop)(rr:∀κ,Rel1 κ κ)(rt0:∀κ1 κ2 κ3,Rel0 κ1 κ2->Rel0 κ2 κ3->Rel0 κ1 κ3)(rt1:∀κ1 κ2 κ3,Rel1 κ1 κ2->Rel1 κ2 κ3->Rel1 κ1 κ3)(r10:∀κ1 κ2,Rel1 κ1 κ2->Rel0 κ1 κ2)k(S:Nat->Value->K->Prop)(h:eD (sub c0 p)=some true)(hm:P.follows .mixedOrders=true)(hB:jY (sub c0 p) n k=true)(mono:∀i v κ1 κ2,i<k->S i v κ1->Rl q0 i Rel1 Rel0 κ1 κ2->S i v κ2)(hop:∀i,i<k->∀q κ',Rl q0 i Rel1 Rel0 κ κ'->(∀t,(∀j,j<k->t≠dstOf (sub c0 p) j)->q t=E t)->
   (∀j,j<k->cQ (sub c0 p) i j=true->S j (q (dstOf (sub c0 p) j)) κ')->bA P (Rl q0 i Rel0 Rel1) (sub c0 p) i q κ' (S i))(fin:∀q κ',Rel0 κ κ'->(∀t,(∀j,j<k->t≠dstOf (sub c0 p) j)->q t=E t)->(∀j,j<k->S j (q (dstOf (sub c0 p) j)) κ')->
   aN P n (sub c0 p) k Q q κ'):aO P n (sub c0 p) Q E κ:=by
 generalize sub c0 p=s at *;unfold jY at hB;simp only[av,decide_eq_true_eq,Bool.or_eq_true]at hB;obtain⟨⟨⟨⟨hk,a3⟩,b3⟩,a0⟩,a7⟩:=hB;have N:∀i o,(opsOf s)[i]?=some o->∀e∈o.after,Region.binds .any e=true->e.on<i:=by
  intro i o hi e U g;have c3:i<(opsOf s).size:=(ai.1 hi).1;have G:=bj.1 a3 i<|fz.2 c3;have ho:zw s i=o:=by unfold zw;rw[hi];rfl
  rw[ho]at G;have h2:=(Array.all_eq_true_iff_forall_mem.1 G) e U;simpa[g]using h2
 have u:∀i,i<k->(zw s i).dst=some (dstOf s i)/\dstOf s i<n/\∀j,j<i->dstOf s j≠dstOf s i:=by
  intro i hi;have G:=bj.1 b3 i<|fz.2 hi;simp only[av,beq_iff_eq,decide_eq_true_eq]at G;refine⟨G.1.1,G.1.2,λj D=>?_⟩;have:=bj.1 G.2 j<|fz.2 D;simpa using this
 have a9:∀i j,i<k->j<k->i≠j->dstOf s i≠dstOf s j:=by
  intro i j hi D c4;rcases ie c4 with h | h
  ·exact(u j D).2.2 i h
  ·exact((u i hi).2.2 j h).symm
 cases s<;>simp[eD]at h;rename_i id ops dr;subst h;simp only[opsOf]at *;have b2:∀m listed q κ' C d a,Fits n a q->DInv q0 Rel0 Rel1 n (.region id ops true) E κ k S listed q κ'->fC listed k=m->
   wpAnyIn FF 0 P .any ops (dZ n C Q) (m+(ops.size - k)) listed a (W C κ' d):=by
  intro m
  induction m with
  | zero=>
   intro listed q κ' C d a hf b hu;have B:=HR hu;have Z:listed=gO k ops.size:=by
    apply Array.ext
    ·simp[gO];exact b.head.size
    ·intro i G h2;simp only[gO,Array.getElem_map,Array.getElem_range];by_cases c:i<k
     ·have:=B i c;simp[G]at this;rw[this];simp[c]
     ·have:=b.head.tail i om (by rw[←b.head.size];exact G);simp[G]at this;rw[this];simp[c]
   subst Z;have c8:=fin q κ' b.step b.off (λj D=>b.done j D<|B j D) C d a hf;have T:=yq (F:=FF) (n:=0) (P:=P) (md:=.any) (ops:=ops) (Q':=dZ n C Q) (ops.toList.drop k) k (gO k ops.size) a (W C κ' d)
    (λj=>by simp[dh]) (by simpa using a7) (by
     have U:=wpOpsIn_eq_wpListIn (F:=FF) (n:=0) (P:=P) (ops:=ops) (Q:=dZ n C Q) (ops.toList.drop k) k (λj=>by simp[dh]);have hlen:(ops.toList.drop k).length=ops.size - k:=by simp
     rw[hlen]at U;rw[←U];exact c8)
   have hlen:(ops.toList.drop k).length=ops.size - k:=by simp
   rw[hlen]at T;simpa using T
  | succ m ih=>
   intro listed q κ' C d a hf b hu;obtain⟨O,c9,Y,a8⟩:=Iu hu;have A:O<ops.size:=by omega
   have l:O∈Region.ready .any ops listed:=by
    refine mem_ready.2 ⟨?_,ops[O],by simp[A],?_⟩
    ·have:O<listed.size:=by rw[b.head.size];exact A
     simp[this]at Y ⊢;exact Y
    ·intro e U g;exact a8 e.on<|N O ops[O] (by simp[A]) e U g
   have d0:m+1+(ops.size - k)=(m+(ops.size - k))+1:=by omega
   rw[d0];refine⟨λh0=>(by rw[h0]at l;cases l),λi hi=>?_⟩;obtain⟨b8,oi,a4,B⟩:=mem_ready.1 hi;have a5:i<ops.size:=(ai.1 a4).1;have c:i<k:=by
    rcases ic i k with h | h
    ·exact h
    ·rcases a0 with ht |⟨hs,hc⟩
     ·omega
     ·have a6:listed.getD O true=false:=getD_in (by rw[b.head.size];exact A) Y;exact absurd hi<|tail_waits hs hc om b.head _ O rfl c9 a6 i h
   have L:zw (.region id ops true) i=oi:=by unfold zw opsOf;rw[a4];rfl
   obtain⟨c6,c2,d7⟩:=u i c;have b7:Rl q0 i Rel1 Rel0 κ κ':=by
    unfold Rl;cases g:Nat.beq i q0 with
    | false=>exact b.step
    | true=>have:=gt g;subst this;exact b.pre<|getD_both b8
   have V:=hop i c q κ' b7 b.off (λj D I=>by
    refine b.done j D ?_;unfold cQ at I;rw[L]at I;obtain⟨e,U,g⟩:=Array.any_eq_true'.1 I;simp only[av,beq_iff_eq]at g;have:=B e U g.1;rw[g.2]at this;exact this)
   have c5:listed.getD i false=false:=getD_both b8;have R:i<listed.size:=by rw[b.head.size];exact a5
   have H:∀v κ2 X,Rl q0 i Rel0 Rel1 κ' κ2->S i v κ2->wpAnyIn FF 0 P .any ops (dZ n C Q) (m+(ops.size - k)) (listed.setIfInBounds i true) (a.put oi.dst v) (W C κ2 X):=by
    intro v κ2 X y hS;rw[←L,c6];refine ih _ (aQ q (dstOf (.region id ops true) i) v) κ2 C X _ (hf.put c2 v) ⟨b.head.set hi c,?_,?_,λt ht=>?_,λj D b9=>?_⟩ ?_
    ·exact rt0 _ _ _ b.step<|Kk r10 y
    ·intro a1;have J:i≠q0:=λe=>by
      subst e;simp[R]at a1
     rw[getD_set_ne false J]at a1;have b5:Rel1 κ' κ2:=Kj J y;exact rt1 _ _ _ (b.pre a1) b5
    ·have J:=ht i c;unfold aQ;have g:Nat.beq t (dstOf (.region id ops true) i)=false:=by
      cases g:Nat.beq t (dstOf (.region id ops true) i)with
      | false=>rfl
      | true=>exact absurd (gt g) J
     rw[g];exact b.off t ht
    ·by_cases M:j=i
     ·subst M;unfold aQ;rw[Nat.beq_refl];exact hS
     ·have g:Nat.beq (dstOf (.region id ops true) j) (dstOf (.region id ops true) i)=false:=by
       cases g:Nat.beq (dstOf (.region id ops true) j) (dstOf (.region id ops true) i)with
       | false=>rfl
       | true=>exact absurd (gt g)<|a9 j i D c M
      unfold aQ;rw[g];refine mono j _ κ' κ2 D (b.done j D ?_)<|Tt r10 M y;rw[getD_set_ne false<|Ne.symm M]at b9;exact b9
    ·have:=Bs c R c5;omega
   unfold wpOpIn;simp only[a4];have w:=jP hf (.region id ops true) i;rw[L]at w;simp only[opsOf]at w;rw[w];cases hw:cD (.region id ops true) i q with
   | false=>
    rw[if_neg si];exact⟨λ_ _=>trivial,H undef κ' d (Ts r10 rr)<|V.2 hw⟩
   | true=>
    rw[if_pos rfl];have hq:=V.1 hw C d;rw[L,←hf.eval]at hq;generalize hrr:(execOp a.eval oi).run P (W C κ' d)=r at *;cases r with
    | halt x w'=>exact hq.elim
    | ok nx w'=>
     cases nx with
     | value v=>
      obtain⟨κ2,X,rfl,y,hS⟩:=hq;exact kG hrr<|H v κ2 X y hS
     | enter f args=>
      obtain⟨κ2,X,rfl,y,c7⟩:=hq;refine AN hrr ?_;refine(c7 C X).mono ?_;rintro e w2 ⟨v,κ3,d3,rfl,rfl,c1,hS⟩;exact H v κ3 d3 (Sm rt0 rt1 y c1) hS
     | _=>exact hq.elim
 intro C d a hf;refine wpIn_region_any hm ?_;have b0:DInv q0 Rel0 Rel1 n (.region id ops true) E κ k S (Array.replicate ops.size false) E κ:=by
  refine⟨⟨by simp[opsOf],λj oj _ T=>?_,λt _ ht=>?_⟩,r10 _ _<|rr _,λ_=>rr _,λ_ _=>rfl,λj _ T=>?_⟩
  ·rw[getD_replicate_false]at T;cases T
  ·exact getD_in (by simpa[opsOf]using ht)<|getD_replicate_false _ _
  ·rw[getD_replicate_false]at T;cases T
 have hu:fC (Array.replicate ops.size false) k=k:=by
  unfold fC;rw[cn.2 (λi _=>by rw[getD_replicate_false];rfl)];simp
 have hm':=b2 k (Array.replicate ops.size false) E κ C (d+1) a hf b0 hu;have bN:k+(ops.size - k)=ops.size:=by omega
 rw[bN]at hm';exact hm'
end
def I64(n:Int):Prop := -9223372036854775808<=n/\n<=9223372036854775807
def kM(κ:K)(b off:Nat)(cs:List Value):Prop:=∀j v,cs[j]?=some v->κ.cell b (off+j)=some v
def PubAt(κ:K)(b off:Nat)(cs:List Value):Prop:=b<κ.H.size/\off+cs.length<=κ.fr b/\kM κ b off cs
def PubAt.step{M κ κ' b off cs}(s:Step M κ κ')(h:PubAt κ b off cs):PubAt κ' b off cs:=by
 obtain⟨a,e,f⟩:=h;refine⟨ib a s.1,gy e (s.2.2.1 b a).1,λj v c=>?_⟩;have d:j<cs.length:=(dm.1 c).1;rw[(s.2.2.1 b a).2 (off+j) om];exact f j v c
def At(κ:K)(b off:Nat)(cs:List Value):Prop:=b<κ.H.size/\kM κ b off cs
def PubAt.at{κ b off cs}(h:PubAt κ b off cs):At κ b off cs:=⟨h.1,h.2.2⟩
def At.step{M κ κ' b off cs}(s:Step M κ κ')(hm:b∉M)(h:At κ b off cs):At κ' b off cs:=by
 obtain⟨a,d⟩:=h;refine⟨ib a s.1,λj v c=>?_⟩;have:=d j v c;unfold K.cell at *;rw[(s.2.1 b a hm).1];exact this
def At.step0{κ κ' b off cs}(s:Step [] κ κ')(h:At κ b off cs):At κ' b off cs:=h.step s si
def At.part{cs:List Value}{κ b off}(h:At κ b off cs)i m:At κ b (off+i) ((cs.drop i).take m):=⟨h.1,λj v a=>by
  rw[ec]at a;split at a
  ·rw[dh]at a;rw[Nat.add_assoc];exact h.2 (i+j) v a
  ·cases a⟩
structure Ty(α:Type) where
 size:Nat
 own:K->List Value->α->Prop
 len:∀{κ cs x},own κ cs x->cs.length=size
 step:∀{M κ κ' cs x},Step M κ κ'->own κ cs x->own κ' cs x
 one:∀{κ cs x},own κ cs x->∀v∈cs,v.oneCell'=true
def tI64:Ty Int:=⟨1,λ_ cs n=>cs=[.int .i64 n]/\I64 n,λh=>by rw[h.1];rfl,λ_ h=>h,λh v hv=>by rw[h.1]at hv;simp at hv;subst hv;rfl⟩
def tU8:Ty Int:=⟨1,λ_ cs n=>cs=[.int .u8 n]/\0<=n/\n<=255,λh=>by rw[h.1];rfl,λ_ h=>h,λh v hv=>by rw[h.1]at hv;simp at hv;subst hv;rfl⟩
def TA:Ty Int:=⟨1,λ_ cs n=>cs=[.int .i32 n] /\ -2147483648<=n/\n<=2147483647,λh=>by rw[h.1];rfl,λ_ h=>h,λh v hv=>by rw[h.1]at hv;simp at hv;subst hv;rfl⟩
def p_:Ty Bool:=⟨1,λ_ cs b=>cs=[.bool b],λh=>by rw[h];rfl,λ_ h=>h,λh v hv=>by rw[h]at hv;simp at hv;subst hv;rfl⟩
def zu(s:List UInt8):Value:=.string ⟨s.toArray⟩
def tStr:Ty (List UInt8):=⟨1,λ_ cs s=>cs=[zu s]/\s.length<=9223372036854775807,λh=>by rw[h.1];rfl,λ_ h=>h,λh v hv=>by rw[h.1]at hv;simp at hv;subst hv;rfl⟩
def Kn:Ty Value:=⟨1,λ_ cs v=>cs=[v]/\v.oneCell'=true,λh=>by rw[h.1];rfl,λ_ h=>h,λh v hv=>by rw[h.1]at hv;simp at hv;rw[hv];exact h.2⟩
def tPair{α β:Type}(a:Ty α)(b:Ty β):Ty (α×β):=⟨a.size+b.size,λκ cs x=>∃c1 c2,cs=c1++c2/\a.own κ c1 x.1/\b.own κ c2 x.2,
  λ⟨c1,c2,h,h1,h2⟩=>by rw[h,ef,a.len h1,b.len h2],
  λs ⟨c1,c2,h,h1,h2⟩=>⟨c1,c2,h,a.step s h1,b.step s h2⟩,
  λ⟨c1,c2,h,h1,h2⟩ v hv=>by rw[h,fj]at hv;exact hv.elim (a.one h1 v)<|b.one h2 v⟩
structure Sl{α:Type}(t:Ty α)(κ:K)(a:Option Addr)(c:Nat)(l:List α):Prop where
 cap:l.length<=c
 most:l.length<=9223372036854775807
 elems:0<l.length->∃b off,a=some ⟨b,off,none⟩/\∀i x,l[i]?=some x->∃cs,PubAt κ b (off+i*t.size) cs/\t.own κ cs x
def Sl.step{α:Type}{t:Ty α}{l:List α}{M κ κ' a c}(s:Step M κ κ')(h:Sl t κ a c l):Sl t κ' a c l:=⟨h.cap,h.most,λf=>by
  obtain⟨b,off,e,d⟩:=h.elems f;exact⟨b,off,e,λi x g=>let ⟨cs,hp,ho⟩:=d i x g;⟨cs,hp.step s,t.step s ho⟩⟩⟩
def tSl{α:Type}(t:Ty α):Ty (List α):=⟨1,λκ cs l=>∃a c,cs=[.slice a l.length c]/\Sl t κ a c l,λ⟨_,_,h,_⟩=>by rw[h];rfl,λs ⟨a,c,h,hs⟩=>⟨a,c,h,hs.step s⟩,
  λ⟨_,_,h,_⟩ v hv=>by rw[h]at hv;simp at hv;subst hv;rfl⟩
def idx{α:Type}(l:List α)(i:Int):Option α:=if 0<=i then l[i.toNat]? else none
theorem iO{α:Type}{l:List α}{i:Int}{x:α}(h:idx l i=some x):0<=i/\i<l.length/\l[i.toNat]?=some x:=by
 grind [idx]
def Sl.nil{α:Type}(t:Ty α)κ:Sl t κ none 0 []:=⟨gv _,by simp,λh=>by simp at h⟩
def Sl.idx{α:Type}{t:Ty α}{l:List α}{κ a c}(h:Sl t κ a c l){i:Int}{x:α}(hx:idx l i=some x):
  ∃b off,a=some ⟨b,off,none⟩/\0<=i/\i<(l.length:Int)/\∃cs,PubAt κ b (off+i.toNat*t.size) cs/\t.own κ cs x:=by
 obtain⟨k,j,g⟩:=iO hx;have m:0<l.length:=by omega
 obtain⟨b,off,f,e⟩:=h.elems m;obtain⟨cs,hp,d⟩:=e _ _ g;exact⟨b,off,f,k,j,cs,hp,d⟩
def dK(P:Program)(T:TypeId):Option Bool:=
 match P.underlying T with
 | some (.struct _) | some (.array _ _)=>some true
 | some _=>some false
 | none=>none
def zO(P:Program)(T:TypeId):Option Nat:=(P.info? T).map (·.size)
def lG(P:Program)(T:TypeId):Option Nat:=(P.info? T).map (·.bytes)
def zK(P:Program)(T:TypeId):Option TypeId:=
 match P.underlying T with
 | some (.slice e)=>some e
 | _=>none
def eJ(P:Program)(T:TypeId):Option Value:=(P.info? T).bind (·.zero)
section
variable {P:Program} {T:TypeId}
def zG{d:TypeDesc}(h:P.underlying T=some d)w:(underlying T).run P w=.ok d w:=by
 unfold underlying;simp[h]
theorem pI{b}(h:dK P T=some b)w:(isAgg T).run P w=.ok b w:=by
 unfold dK at h;unfold isAgg;cases hd:P.underlying T with
 | none=>rw[hd]at h;cases h
 | some d=>rw[hd]at h;rw[be,zG hd];cases d<;>simp_all
def gV{k}(h:zO P T=some k)w:(sizeOf T).run P w=.ok k w:=by
 unfold zO at h;unfold sizeOf typeInfo;cases hd:P.info? T with
 | none=>rw[hd]at h;cases h
 | some d=>rw[hd]at h;simp at h;simp[hd,h]
def sO{z}(h:eJ P T=some z)w:(zeroValue T).run P w=.ok z w:=by
 unfold eJ at h;unfold zeroValue typeInfo;cases hd:P.info? T with
 | none=>rw[hd]at h;cases h
 | some d=>
  rw[hd]at h;simp only[im]at h;simp[hd,h]
end
def aW(s:Sem Value):Sem Next:=do pure (.value (←s))
def gH(s:Sem Unit):Sem Next:=do s;pure .skip
theorem zI{s:Sem Value}{P w w' v}(h:s.run P w=.ok v w'):(aW s).run P w=.ok (.value v) w':=by
 unfold aW;rw[be,h];rfl
def tZ{s:Sem Unit}{P w w'}(h:s.run P w=.ok () w'):(gH s).run P w=.ok .skip w':=by
 unfold gH;rw[be,h];rfl
theorem iu[Fb](C:Cx)(κ:K)d b o:(W C κ d).cell? ⟨b,o,none⟩=κ.cell b o:=by
 unfold World.cell? K.cell W;cases κ.H[b]? with
 | none=>rfl
 | some x=>cases x<;>rfl
def pA{T:TypeId}{P}[Fb]{κ:K}{C d b off v}(hT:dK P T=some false)(h:κ.cell b off=some v):
  (Instr.loadAt T (.pointer (some ⟨b,off,none⟩))).run P (W C κ d)=.ok v (W C κ d):=by
 unfold Instr.loadAt Instr.sureAddr loadVar;simp only[be,bf,bd,pI hT,Sem.run_ite,ba,if_false];rw[run_load];rw[iu,h]
theorem sX{T:TypeId}{P}[Fb]{cs:List Value}{C κ d b off}(hT:dK P T=some true)(hs:zO P T=some cs.length)(h:kM κ b off cs):(Instr.loadAt T (.pointer (some ⟨b,off,none⟩))).run P (W C κ d)=.ok (.agg cs.toArray) (W C κ d):=by
 unfold Instr.loadAt Instr.sureAddr loadVar;simp only[be,bf,bd,pI hT,Sem.run_ite,if_true,gV hs];rw[run_loadCells_list _ _ cs (λj v a=>?_)]
 ·rfl
 ·have:Addr.add ⟨b,off,none⟩ j=⟨b,off+j,none⟩:=by unfold Addr.add;split<;>simp_all
  rw[this,iu];exact h j v a
abbrev aK:=Nat×Nat
structure aI(τ:aK)(κ:K)(b:Nat)(cs:List Value)(T:TypeId):Prop where
 obj:κ.H[b]?=some (.cells cs.toArray T (0,0))
 fr:κ.fr b=0
 tag:κ.tag b=τ
 ge:τ.1<=b
def cV{N i j}(h:Nat.beq i j=false):((N,i):aK)≠(N,j):=by
 intro e;have:i=j:=congrArg Prod.snd e;subst this;simp at h
def aI.lt{κ:K}{T:TypeId}{τ b cs}(h:aI τ κ b cs T):b<κ.H.size:=(ai.1 h.obj).1
def aI.at{T:TypeId}{τ κ b cs}(h:aI τ κ b cs T):At κ b 0 cs:=⟨h.lt,λj v a=>by unfold K.cell;rw[h.obj];simpa using a⟩
def aI.step{T:TypeId}{M τ κ κ' b cs}(s:Step M κ κ')(hm:b∉M)(h:aI τ κ b cs T):aI τ κ' b cs T:=⟨(s.2.1 b h.lt hm).1.trans h.obj,(s.2.1 b h.lt hm).2.1.trans h.fr,(s.2.1 b h.lt hm).2.2.trans h.tag,h.ge⟩
def aI.ne{T T':TypeId}{τ τ' κ b b' cs cs'}(h:aI τ κ b cs T)(h':aI τ' κ b' cs' T')(hn:τ≠τ'):b≠b':=by
 intro e;subst e;exact hn<|h.tag.symm.trans h'.tag
def aI.step0{T:TypeId}{τ κ κ' b cs}(s:Step [] κ κ')(h:aI τ κ b cs T):aI τ κ' b cs T:=h.step s si
def K.push(κ:K)(o:Obj)(m:Nat)(τ:aK):K:=⟨κ.H.push o,λb=>if b=κ.H.size then m else κ.fr b,λb=>if b=κ.H.size then τ else κ.tag b⟩
theorem gW(κ:K)(o:Obj)m(τ:aK):Step [] κ (κ.push o m τ):=by
 refine⟨by simp[K.push],λb a _=>⟨?_,?_,?_⟩,λb a=>⟨?_,λi _=>?_⟩,λb a _=>⟨?_,?_⟩⟩
 all_goals grind [K.push,K.cell,K.shp]
def H'(κ:K)(cs:List Value)(T:TypeId)(τ:aK)(h:τ.1<=κ.H.size):aI τ (κ.push (.cells cs.toArray T) 0 τ) κ.H.size cs T:=⟨by simp[K.push],by simp[K.push],by simp[K.push],h⟩
section
variable [Fc] [Fb] {P:Program} {n:Nat} {c:Code} {i:Nat} {Q:bC} {E:aB} {κ:K}
def Py{T:TypeId}{d b off v}(h:st c i n E (some d)=true)(ho:execOp (ev E) (zw c i)=aW (Instr.loadAt T (.pointer (some ⟨b,off,none⟩))))(hT:dK P T=some false)(hv:κ.cell b off=some v)(hk:aN P n c (i+1) Q (aQ E d v) κ):aN P n c i Q E κ:=iR v h (λC a=>by rw[ho];exact zI<|pA hT hv) hk
def Px{T:TypeId}{cs:List Value}{d b off}(h:st c i n E (some d)=true)(ho:execOp (ev E) (zw c i)=aW (Instr.loadAt T (.pointer (some ⟨b,off,none⟩))))(hT:dK P T=some true)(hs:zO P T=some cs.length)(hv:kM κ b off cs)(hk:aN P n c (i+1) Q (aQ E d (.agg cs.toArray)) κ):aN P n c i Q E κ:=iR _ h (λC a=>by rw[ho];exact zI<|sX hT hs hv) hk
def At.one{cs:List Value}{b off o v}(h:At κ b off cs)(hj:cs[o]?=some v):κ.cell b (off+o)=some v:=h.2 o v hj
def Li{T:TypeId}{d}(τ:aK)(hτ:τ.1<=κ.H.size)(zs:List Value)(h:st c i n E (some d)=true)(ho:execOp (ev E) (zw c i)=aW (Instr.alloc T true (.tuple #[])))(hz:(eJ P T).map Value.cells=some zs.toArray)(hk:∀b κ',Step [] κ κ'->aI τ κ' b zs T->aN P n c (i+1) Q (aQ E d (.pointer (some ⟨b,0,none⟩))) κ'):aN P n c i Q E κ:=by
 obtain⟨z,e,a⟩:=ip.1 hz;refine iR (κ':=κ.push (.cells zs.toArray T) 0 τ) _ h (λC f=>?_)<|hk κ.H.size _ (gW _ _ _ _)<|H' _ _ _ _ hτ;rw[ho];refine zI ?_;unfold Instr.alloc;simp only[be,sO e,bd];unfold newVar newRow;rw[a];rfl
def xT d T(τ:aK)(hτ:τ.1<=κ.H.size)(zs:List Value)(hk:∀b κ',Step [] κ κ'->aI τ κ' b zs T->aN P n c (i+1) Q (aQ E d (.pointer (some ⟨b,0,none⟩))) κ')(h:st c i n E (some d)=true:=by kernel_rfl)(ho:execOp (ev E) (zw c i)=aW (Instr.alloc T true (.tuple #[])):=by kernel_rfl)(hz:(eJ P T).map Value.cells=some zs.toArray:=by kernel_rfl):aN P n c i Q E κ:=Li τ hτ zs h ho hz hk
def JR{T:TypeId}{d}(τ:aK)(hτ:τ.1<=κ.H.size)(v:Value)(cs:List Value)(h:st c i n E (some d)=true)(ho:execOp (ev E) (zw c i)=aW (Instr.box T v))(hv:v.cells=cs.toArray)(hk:∀b κ',Step [] κ κ'->aI τ κ' b cs T->aN P n c (i+1) Q (aQ E d (.pointer (some ⟨b,0,none⟩))) κ'):aN P n c i Q E κ:=by
 refine iR (κ':=κ.push (.cells cs.toArray T) 0 τ) _ h (λC a=>?_)<|hk κ.H.size _ (gW _ _ _ _)<|H' _ _ _ _ hτ;rw[ho];refine zI ?_;unfold Instr.box newVar newRow;rw[hv];rfl
def xO d T(τ:aK)(hτ:τ.1<=κ.H.size)(cs:List Value)(hk:∀b κ',Step [] κ κ'->aI τ κ' b cs T->aN P n c (i+1) Q (aQ E d (.pointer (some ⟨b,0,none⟩))) κ')(h:st c i n E (some d)=true:=by kernel_rfl)(ho:execOp (ev E) (zw c i)=aW (Instr.box T (.agg cs.toArray)):=by kernel_rfl):aN P n c i Q E κ:=JR τ hτ (.agg cs.toArray) cs h ho rfl hk
end
def splice(cs:List Value)(off:Nat):List Value->List Value
 |[]=>cs
 | v::vs=>splice (cs.set off v) (off+1) vs
def pd vs:∀(cs:List Value)off,(splice cs off vs).length=cs.length:=by
 induction vs with
 | nil=>intro cs off;rfl
 | cons v vs ih=>intro cs off;rw[splice,ih,fa]
def K.setB(κ:K)(b:Nat)(cs:List Value)(T:TypeId):K:=⟨κ.H.setIfInBounds b (.cells cs.toArray T (0,0)),κ.fr,κ.tag⟩
def ly{κ:K}{T:TypeId}{τ b cs cs'}(h:aI τ κ b cs T):Step [b] κ (κ.setB b cs' T):=by
 refine⟨by simp[K.setB],λx c hm=>⟨?_,rfl,rfl⟩,λx c=>⟨gv _,λo f=>?_⟩,λx c d=>⟨rfl,?_⟩⟩
 ·simp only[K.setB];have:b≠x:=λe=>hm (by simp[e]);rw[am this]
 ·by_cases a:b=x
  ·subst a;rw[h.fr]at f;omega
  ·unfold K.cell K.setB;rw[am a]
 ·have a:b≠x:=λe=>by rw[←e,h.fr]at d;omega
  unfold K.shp K.setB;rw[am a]
def kI{κ:K}{T:TypeId}{τ b cs cs'}(h:aI τ κ b cs T):aI τ (κ.setB b cs' T) b cs' T:=⟨by simp[K.setB,h.lt],h.fr,h.tag,h.ge⟩
theorem Qm{τ}[Fb]{κ:K}{cs:List Value}{T:TypeId}{C d b off v}(h:aI τ κ b cs T):
  (W C κ d).setCell ⟨b,off,none⟩ v=W C (κ.setB b (cs.set off v) T) d:=by
 have e:=h.lt;unfold World.setCell W K.setB;simp only[Option.isSome_none,ba,if_false];congr 1;apply Array.ext
 ·simp
 ·intro j g i;have f:j<κ.H.size:=by simpa using g
  rw[Array.getElem_modify];by_cases a:b=j
  ·subst a;have c:=h.obj
   simp_all
  ·rw[if_neg a,Array.getElem_setIfInBounds_ne f a]
theorem Gb{P τ}[Fb]{T:TypeId}{C d b off}(vs:List Value):∀i(κ:K)(cs:List Value),aI τ κ b cs T->(∀v∈vs,v.oneCell'=true)->
  off+i+vs.length<=cs.length->
  (storeCells ⟨b,off,none⟩ vs i).run P (W C κ d)=.ok () (W C (κ.setB b (splice cs (off+i) vs) T) d):=by
 induction vs with
 | nil=>
  intro i κ cs h _ _;have:κ.setB b cs T=κ:=by
   have k:=h.lt;have c:=h.obj;rw[ac k]at c;cases κ with
   | mk H fr=>
    simp only[K.setB];congr 1;apply Array.ext
    ·simp
    ·intro j q p;by_cases g:b=j
     ·subst g;simp;exact(Option.some.inj c).symm
     ·rw[Array.getElem_setIfInBounds_ne];exact g
  rw[splice,this];rfl
 | cons v vs ih=>
  intro i κ cs h a hlen;have m:Addr.add ⟨b,off,none⟩ i=⟨b,off+i,none⟩:=by unfold Addr.add;split<;>simp_all
  have e:off+i<cs.length:=by simp only[eh]at hlen;omega
  unfold storeCells;rw[be,run_store _ _ _ _ _<|a v si,m,iu];have f:κ.cell b (off+i)=some cs[off+i]:=by
   unfold K.cell;rw[h.obj];simp[e]
  have l:(W C κ d).frozen? ⟨b,off+i,none⟩=false:=by
   unfold World.frozen? W;simp only[h.obj];simp
  rw[f];simp only[l];rw[Qm h];simp only[ba,if_false,bd];have h':=ih (i+1) (κ.setB b (cs.set (off+i) v) T) (cs.set (off+i) v) (kI h) (λu n=>a u (by simp[n])) (by simp only[eh]at hlen;simp;omega);rw[h'];rw[splice];congr 2;unfold K.setB;simp only[];congr 1;apply Array.ext_getElem?;intro j;by_cases g:b=j
  ·subst g;simp[Nat.add_assoc]
  ·simp[am g]
def nj(vs:List Value):Bool:=vs.all Value.oneCell'
def Ad{T U:TypeId}{P τ}[Fb]{κ:K}{cs:List Value}{v:Value}{vs:List Value}{C d b off}(h:aI τ κ b cs U)(hv:v.cells=vs.toArray)(hs:zO P T=some vs.length)(hone:nj vs=true)(hlen:off+vs.length<=cs.length):
  (Instr.storeAt T (.pointer (some ⟨b,off,none⟩)) v).run P (W C κ d)=.ok () (W C (κ.setB b (splice cs off vs) U) d):=by
 unfold Instr.storeAt Instr.sureAddr storeVar;simp only[be,bf,bd,gV hs,Sem.run_ite];rw[hv];simp only[gk,ne_eq,not_true_eq_false,if_false];have:=Gb (P:=P) (C:=C) (d:=d) (off:=off) vs 0 κ cs h (λu a=>(bj.1 hone) u a) om;simpa using this
section
variable [Fc] [Fb] {P:Program} {n:Nat} {c:Code} {i:Nat} {Q:bC} {E:aB} {κ:K}
def gL{T U:TypeId}{cs:List Value}{τ b off}(v:Value)(vs cs':List Value)(h:st c i n E none=true)(ho:execOp (ev E) (zw c i)=gH (Instr.storeAt T (.pointer (some ⟨b,off,none⟩)) v))(hb:aI τ κ b cs U)(hv:v.cells=vs.toArray)(hs:zO P T=some vs.length)(hone:nj vs=true)(hlen:Nat.ble (off+vs.length) cs.length=true)(hcs:splice cs off vs=cs')(hk:∀κ',Step [b] κ κ'->κ.H.size=κ'.H.size->aI τ κ' b cs' U->aN P n c (i+1) Q E κ'):aN P n c i Q E κ:=by
 subst hcs;exact JO h (λC a=>by rw[ho];exact tZ<|Ad hb hv hs hone<|gu hlen)<|hk _ (ly hb) (by simp[K.setB])<|kI hb
def xM T(cs':List Value){U:TypeId}{cs:List Value}{τ b}(hb:aI τ κ b cs U)(hk:∀κ',Step [b] κ κ'->κ.H.size=κ'.H.size->aI τ κ' b cs' U->aN P n c (i+1) Q E κ')(h:st c i n E none=true:=by kernel_rfl)(ho:execOp (ev E) (zw c i)=gH (Instr.storeAt T (.pointer (some ⟨b,0,none⟩)) (.agg cs'.toArray)):=by kernel_rfl)(hs:zO P T=some cs'.length:=by kernel_rfl)(hone:nj cs'=true:=by kernel_rfl)(hlen:Nat.ble (0+cs'.length) cs.length=true:=by kernel_rfl)(hcs:splice cs 0 cs'=cs':=by rfl):aN P n c i Q E κ:=gL (.agg cs'.toArray) cs' cs' h ho hb rfl hs hone hlen hcs hk
theorem Ay{T el:TypeId}{sz:Nat}{a:Addr}{ln cp:Nat}{k:IntKind}{ix:Int}(hT:zK P T=some el)(hs:zO P el=some sz)(h0:0<=ix)(h1:ix<ln)(w:World):(Instr.indexAt T (.slice (some a) ln cp) (.int k ix)).run P w=.ok (.pointer (some (a.add (ix.toNat*sz)))) w:=by
 have b:P.underlying T=some (.slice el):=by
  grind [zK]
 unfold Instr.indexAt asIntOf;simp only[be,bf,bd,zG b];rw[if_pos ⟨h0,h1⟩];simp only[be,gV hs,bd,bf]
theorem js b off k:Addr.add ⟨b,off,none⟩ k=⟨b,off+k,none⟩:=by unfold Addr.add;split<;>simp_all
def Pz{T el:TypeId}{ix:Int}{d b off a sz ln cp k}(ea:a=some ⟨b,off,none⟩)(h:st c i n E (some d)=true)(ho:execOp (ev E) (zw c i)=aW (Instr.indexAt T (.slice a ln cp) (.int k ix)))(hT:zK P T=some el)(hs:zO P el=some sz)(h0:0<=ix)(h1:ix<ln)(hk:aN P n c (i+1) Q (aQ E d (.pointer (some ⟨b,off+ix.toNat*sz,none⟩))) κ):aN P n c i Q E κ:=by
 subst ea;exact iR _ h (λC e=>by rw[ho];exact zI (by rw[Ay hT hs h0 h1,js])) hk
end
def m':List Value->Value
 |[v]=>v
 | vs=>.tuple vs.toArray
def lV(P:Program)(E:aB)(κ:K):List ResultVar->List Value->Prop
 |[],[]=>True
 | .tmp t::rs,v::vs=>E t=v/\lV P E κ rs vs
 | .cell a T::rs,v::vs=>(∃b off cs,E a=.pointer (some ⟨b,off,none⟩)/\v=.agg cs.toArray/\dK P T=some true/\zO P T=some cs.length/\kM κ b off cs)/\lV P E κ rs vs
 | _,_=>False
def nn(E:aB):ResultVar->Sem Value
 | .tmp t=>pure (E t)
 | .cell a t=>do loadVar t (←asAddr (E a))
def IB{P E κ}[Fb](C:Cx)d:∀(rs:List ResultVar)vs,lV P E κ rs vs->
  (rs.mapM (nn E)).run P (W C κ d)=.ok vs (W C κ d)
 |[],[],_=>rfl
 | .tmp t::rs,v::vs,h=>by
  obtain⟨f,e⟩:=h;rw[List.mapM_cons];simp only[nn,be,bf,bd,IB C d rs vs e,f]
 | .cell a T::rs,v::vs,h=>by
  obtain⟨⟨b,off,cs,f,e,k,i,j⟩,g⟩:=h;rw[List.mapM_cons];have c:=sX (C:=C) (d:=d) k i j;unfold Instr.loadAt Instr.sureAddr at c;simp only[be,bf,bd]at c;simp only[nn,f,asAddr,be,bf,bd,c,IB C d rs vs g,e]
 |[],_::_,h=>by cases h
 | .tmp _::_,[],h=>by cases h
 | .cell _ _::_,[],h=>by cases h
def OB{fn:Func}{P E κ}(rs:List ResultVar)vs(hr:fn.results=rs.toArray)(h:lV P E κ rs vs)[Fb](C:Cx)d:
  (nJ fn E).run P (W C κ d)=.ok (m' vs) (W C κ d):=by
 have c:(λ(x:ResultVar)=>(match x with
   | .tmp t=>(pure (E t):Sem Value)
   | .cell a t=>do loadVar t (←asAddr (E a))))=nn E:=by funext x;cases x<;>rfl
 unfold nJ;rw[hr];have hm:rs.toArray.mapM (m:=Sem) (nn E)=Functor.map List.toArray (rs.mapM<|nn E):=List.mapM_toArray;have b:vs.length=rs.length:=by
  clear hr hm
  induction rs generalizing vs with
  | nil=>cases vs with
   | nil=>rfl
   | cons v vs=>exact h.elim
  | cons r rs ih=>cases vs with
   | nil=>cases r<;>exact h.elim
   | cons v vs=>cases r<;>simp[ih vs h.2]
 rw[be];change ((rs.toArray.mapM (m:=Sem)<|nn E).run P<|W C κ d).andThen _=_;rw[hm,Sem.run_map,IB C d rs vs h];simp only[bd,bf];congr 1
 match vs with
 |[]=>rfl
 |[v]=>rfl
 | v::u::vs=>simp[m']
def bind_some{α β:Type}{o:Option α}{f:α->Option β}{r:β}(h:o.bind f=some r):∃x,o=some x/\f x=some r:=il.1 h
def uI{α:Type}{a b o:α}{c}(hc:c=true)(h:(if c=true then a else b)=o):a=o:=by rw[if_pos hc]at h;exact h
def uD{α:Type}{a b o:α}{c}(hc:c=false)(h:(if c=true then a else b)=o):b=o:=by rw[if_neg (by simp[hc])]at h;exact h
def aA(n:Int):Int:=IntKind.i64.wrap n
def tY n:aA n=(n+9223372036854775808) % 18446744073709551616 - 9223372036854775808:=by
 have h:aA n=(if n % 18446744073709551616≥9223372036854775808 then n % 18446744073709551616 - 18446744073709551616 else n % 18446744073709551616):=by
  unfold aA IntKind.wrap;simp[IntKind.bits,IntKind.signed]
 rw[h];split<;>omega
def zp n:I64 (aA n):=by
 rw[tY];unfold I64;omega
def cK{n}(h:I64 n):aA n=n:=by
 rw[tY];unfold I64 at h;omega
def gE{S X:Type}:Nat->(S->Option (S ⊕ X))->S->Option X
 | 0,_,_=>none
 | n+1,F,s=>match F s with
  | none=>none
  | some (.inl s')=>gE n F s'
  | some (.inr x)=>some x
def Hq{S X:Type}{F:S->Option (S ⊕ X)}:∀n m s x,n<=m->gE n F s=some x->gE m F s=some x
 | 0,_,_,_,_,h=>by cases h
 | n+1,0,_,_,hle,_=>by omega
 | n+1,m+1,s,x,hle,h=>by
  unfold gE at h ⊢;cases hF:F s with
  | none=>rw[hF]at h;cases h
  | some y=>
   rw[hF]at h;cases y with
   | inl s'=>exact Hq n m s' x om h
   | inr x'=>exact h
open Classical in
noncomputable def iter{S X:Type}(F:S->Option (S ⊕ X))(s:S):Option X:=
 if h:∃x,∃n,gE n F s=some x then some (Classical.choose h)else none
def ls{S X:Type}{F:S->Option (S ⊕ X)}{s x}:iter F s=some x↔∃n,gE n F s=some x:=by
 unfold iter;constructor
 ·intro h;split at h
  ·rename_i a;injection h with h
   rw[←h];exact Classical.choose_spec a
  ·cases h
 ·intro b;have a:∃x,∃n,gE n F s=some x:=⟨x,b⟩;rw[dif_pos a];obtain⟨n,b⟩:=b;obtain⟨m,hm⟩:=Classical.choose_spec a;have d:=Hq n (max n m) s x om b;have c:=Hq m (max n m) s _ om hm;rw[d]at c;exact c.symm
def zt{S X:Type}{F:S->Option (S ⊕ X)}{s s'}(h:F s=some (.inl s')):iter F s=iter F s':=by
 apply Option.ext;intro x;rw[ls,ls];constructor
 ·rintro⟨n,a⟩;cases n with
  | zero=>cases a
  | succ n=>unfold gE at a;rw[h]at a;exact⟨n,a⟩
 ·rintro⟨n,a⟩;exact⟨n+1,by unfold gE;rw[h];exact a⟩
def zy{S X:Type}{F:S->Option (S ⊕ X)}{s x}(h:F s=some (.inr x)):iter F s=some x:=ls.2 ⟨1,by unfold gE;rw[h]⟩
def QD{S X:Type}{F:S->Option (S ⊕ X)}{s}(h:F s=none):iter F s=none:=by
 cases hi:iter F s with
 | none=>rfl
 | some x=>
  obtain⟨n,a⟩:=ls.1 hi;cases n with
  | zero=>cases a
  | succ n=>unfold gE at a;rw[h]at a;cases a
def zB{S X:Type}{F:S->Option (S ⊕ X)}(I:S->Prop)(μ:S->Nat)(R:X->Prop)(hstep:∀s,I s->(∃a,F s=some (.inl a)/\I a/\μ a<μ s)\/∃x,F s=some (.inr x)/\R x):∀s,I s->∃x,iter F s=some x/\R x:=by
 have key:∀m s,μ s=m->I s->∃x,iter F s=some x/\R x:=by
  intro m
  induction m using Nat.strongRecOn with
  | _ m ih=>
   intro s hm b;rcases hstep s b with⟨a,d,c,f⟩ |⟨x,d,c⟩
   ·obtain⟨x,g,e⟩:=ih (μ a) (hm▸f) a rfl c;exact⟨x,by rw[zt d];exact g,e⟩
   ·exact⟨x,zy d,c⟩
 exact λs b=>key _ s rfl b
section
variable [Fc] [Fb] {P:Program} {n:Nat} {c:Code} {Q:bC} {E:aB} {κ:K} {p:List Nat}
def tP{S X:Type}(y:S ⊕ X)(J:S->aB->K->Prop)(Q:bC):bC:=λe E' κ'=>
 match e with
 | .normal=>∃s',y=.inl s'/\J s' E' κ'
 | e=>Q e E' κ'
def zn{S X:Type}(F:S->Option (S ⊕ X))(J:S->aB->K->Prop)(s0:S)(x:X)(h:BL (sub c p)=true)(hx:iter F s0=some x)(h0:J s0 E κ)(round:∀s E κ,J s E κ->∀y,F s=some y->(∀x',y=.inr x'->x'=x)->aO P n (sub c (0::p)) (tP y J Q) E κ):aO P n (sub c p) Q E κ:=by
 obtain⟨m,hm⟩:=ls.1 hx;refine kz (λm E κ=>∃s,gE m F s=some x/\J s E κ) h m ⟨s0,hm,h0⟩ ?_;rintro m E κ ⟨s,hs,f⟩;cases m with
 | zero=>cases hs
 | succ m=>
  unfold gE at hs;cases hF:F s with
  | none=>rw[hF]at hs;cases hs
  | some y=>
   rw[hF]at hs;refine QZ (round s E κ f y hF ?_) ?_
   ·rintro x' rfl;exact Option.some.inj hs
   ·intro e g κ' b;cases e with
    | normal=>
     obtain⟨d,rfl,a⟩:=b;exact⟨m,by omega,d,hs,a⟩
    | _=>exact b
end
def aP{b x:Nat}(h:b≠x):b∉[x]:=by simp[h]
def BB[Fb]{Rel:K->K->Prop}{R:Value->K->Prop}{P c i E κ}(h:cD c i E=true)(hr:∀C d,Km P Rel C κ R ((execOp (ev E) (zw c i)).run P (W C κ d))):bA P Rel c i E κ R:=⟨λ_=>hr,λa=>(by rw[h]at a;cases a)⟩
def Sn[Fb]{Rel:K->K->Prop}{R:Value->K->Prop}{P c i E κ}(h:cD c i E=false)(hR:R undef κ):bA P Rel c i E κ R:=⟨λa=>(by rw[h]at a;cases a),λ_=>hR⟩
def c_[Fb]{Rel:K->K->Prop}{P}(rr:∀κ,Rel κ κ){R:Value->K->Prop}{c i E κ}v(h:cD c i E=true)(hr:∀C d,(execOp (ev E) (zw c i)).run P (W C κ d)=.ok (.value v) (W C κ d))(hR:R v κ):bA P Rel c i E κ R:=BB h λC d=>by rw[hr];exact⟨κ,d,rfl,rr _,hR⟩
def kK[Fb]{Rel:K->K->Prop}{P}(rr:∀κ,Rel κ κ){R:Value->K->Prop}{args:Array Value}{c i E κ f}(h:cD c i E=true)(hr:∀w,(execOp (ev E) (zw c i)).run P w=.ok (.enter f args) w)(hf:Fn P f args κ (λv κ'=>Rel κ κ'/\R v κ')):bA P Rel c i E κ R:=BB h λC d=>by rw[hr];exact⟨κ,d,rfl,rr _,hf⟩
section
variable [Fc] [Fb] {P:Program} {n:Nat} {c:Code} {Q:bC} {E F:aB} {κ:K} {id id':Nat}
def za(h:aO P n c Q E κ):gX P n c Q .normal E κ:=h
def zg(h:Q (.exit id) E κ):gX P n c Q (.exit id) E κ:=h
def zc(h:Q .ret E κ):gX P n c Q .ret E κ:=h
def zd(h:Q .normal E κ):ir id Q .normal E κ:=h
def zf(h:Q .normal E κ):ir id Q (.exit id) E κ:=by unfold ir;simp only[if_true];exact h
def XV(hne:Nat.beq id' id=false)(h:Q (.exit id') E κ):ir id Q (.exit id') E κ:=by
 show(if id'=id then _ else _);rw[if_neg (λe=>by subst e;simp at hne)];exact h
def zj(h:Q .ret E κ):ir id Q .ret E κ:=h
def ze{S X:Type}{y:S ⊕ X}{J:S->aB->K->Prop}{s}(h:y=.inl s)(hJ:J s E κ):tP y J Q .normal E κ:=⟨s,h,hJ⟩
def zh{S X:Type}{y:S ⊕ X}{J:S->aB->K->Prop}(h:Q (.exit id) E κ):tP y J Q (.exit id) E κ:=h
def zr{S X:Type}{y:S ⊕ X}{J:S->aB->K->Prop}(h:Q .ret E κ):tP y J Q .ret E κ:=h
def Zn{c0 p}(h:nc (sub c0 p)=true)(hb:ev E (pW (sub c0 p))=.bool true)(ht:aO P n (sub c0 (0::p)) Q E κ):aO P n (sub c0 p) Q E κ:=HY true h hb (λ_=>ht) (λe=>by cases e)
def PP{c0 p}(h:nc (sub c0 p)=true)(hb:ev E (pW (sub c0 p))=.bool false)(he:aO P n (sub c0 (1::p)) Q E κ):aO P n (sub c0 p) Q E κ:=HY false h hb (λe=>by cases e) (λ_=>he)
def S'{fn:Func}{R:Value->K->Prop}(rs:List ResultVar)vs(hr:fn.results=rs.toArray)(h:lV P E κ rs vs)(hR:R (m' vs) κ):kN P fn R .ret E κ:=⟨_,OB rs vs hr h,hR⟩
def RN{fn:Func}{R:Value->K->Prop}(rs:List ResultVar)vs(hr:fn.results=rs.toArray)(h:lV P E κ rs vs)(hR:R (m' vs) κ):kN P fn R .normal E κ:=⟨_,OB rs vs hr h,hR⟩
def zb(h:E=F){t v}(hv:F t=v):E=aQ F t v:=h.trans (ON hv)
def zl(h:E=F)(hw:aO P n c Q F κ):aO P n c Q E κ:=by rw[h];exact hw
def zo{e}(h:E=F)(hw:Q e F κ):Q e E κ:=by rw[h];exact hw
def zm(B:bC->Prop)(h1:B Q)(h2:B Q->aO P n c Q E κ):aO P n c Q E κ:=h2 h1
def zi id(B:(aB->K->Prop)->Prop)(h1:B (Q (.exit id)))(h2:B (Q (.exit id))->aO P n c Q E κ):aO P n c Q E κ:=h2 h1
end
def fI{α:Type}{l:List α}(h:l.length<=9223372036854775807):I64 (l.length:Int):=by unfold I64;omega
def Ce(x:UInt8):0<=(x.toNat:Int)/\(x.toNat:Int)<=255:=by have:=x.toNat_lt;omega
def na{a b}(_hb:b ≠ -1)(h:I64 a):I64 (Int.tmod a b):=by
 unfold I64 at *;have e:=Int.natAbs_tmod a b;have c:a.natAbs % b.natAbs<=a.natAbs:=Nat.mod_le _ _;have g:(Int.tmod a b).natAbs<=a.natAbs:=by omega
 have d:0<=a->0<=Int.tmod a b:=λh=>Int.tmod_nonneg b h;have f:a<=0->Int.tmod a b<=0:=λh=>by
  have:=Int.tmod_nonneg b (show 0 <= -a by omega);rw[Int.neg_tmod]at this;omega
 omega
def yZ(s:List UInt8):(⟨s.toArray⟩:ByteArray).toList=s:=by
 have h:∀n i(a:List UInt8),n=s.length - i->i<=s.length->ByteArray.toList.loop (⟨s.toArray⟩:ByteArray) i a=a.reverse++s.drop i:=by
  intro n
  induction n with
  | zero=>
   intro i a c hi;have:i=s.length:=by omega
   subst this;unfold ByteArray.toList.loop;have hs:¬s.length<(⟨s.toArray⟩:ByteArray).size:=by simp[ByteArray.size]
   rw[if_neg hs];simp
  | succ n ih=>
   intro i a c hi;unfold ByteArray.toList.loop;have b:i<s.length:=by omega
   have hs:i<(⟨s.toArray⟩:ByteArray).size:=by simpa[ByteArray.size]using b
   rw[if_pos hs,ih (i+1) _ om om];have d:(⟨s.toArray⟩:ByteArray).get! i=s[i]:=by
    simp[ByteArray.get!,b]
   rw[d,List.reverse_cons,bp,List.singleton_append,bu b]
 have:=h s.length 0 [] om om;simpa[ByteArray.toList]using this
def tB{P E c i s t w}(h:execOp (ev E) (zw c i)=aW (do eqGuard .eql 0 (.tmp 0) (.tmp 0) (zu s) (zu t);binOp .eql 0 (zu s) (zu t))):
  (execOp (ev E) (zw c i)).run P w=.ok (.value (.bool (decide (s=t)))) w:=by
 rw[h];refine zI ?_;have:binOp .eql 0 (zu s) (zu t)=pure (.bool<|(⟨s.toArray⟩:ByteArray).toList == (⟨t.toArray⟩:ByteArray).toList):=rfl;rw[this,yZ,yZ];by_cases a:s=t
 ·subst a;simp[eqGuard,zu]
 ·simp[eqGuard,zu,a]
def HD{P E c i s t w}(h:execOp (ev E) (zw c i)=aW (do eqGuard .neq 0 (.tmp 0) (.tmp 0) (zu s) (zu t);binOp .neq 0 (zu s) (zu t))):
  (execOp (ev E) (zw c i)).run P w=.ok (.value (.bool (!decide (s=t)))) w:=by
 rw[h];refine zI ?_;have:binOp .neq 0 (zu s) (zu t)=pure (.bool<|!((⟨s.toArray⟩:ByteArray).toList == (⟨t.toArray⟩:ByteArray).toList)):=rfl;rw[this,yZ,yZ];by_cases a:s=t
 ·subst a;simp[eqGuard,zu]
 ·simp[eqGuard,zu,a]
def sW{P:Program}{E c i}(T:TypeId)(k:IntKind){x:UInt8}{s ix w}(h:execOp (ev E) (zw c i)=aW (Instr.index T (zu s) (.int k ix)))(hT:P.underlying T=some .string)(hx:idx s ix=some x):
  (execOp (ev E) (zw c i)).run P w=.ok (.value (.int .u8 (x.toNat:Int))) w:=by
 obtain⟨d,f,b⟩:=iO hx;rw[h];refine zI ?_;unfold Instr.index asIntOf zu;simp only[be,bf,bd,zG hT];have e:(if 0<=ix then(⟨s.toArray⟩:ByteArray)[ix.toNat]? else none)=some x:=by
  rw[if_pos d];have a:ix.toNat<s.length:=by omega
  have hs:ix.toNat<(⟨s.toArray⟩:ByteArray).size:=by simpa[ByteArray.size]using a
  rw[getElem?_pos (⟨s.toArray⟩:ByteArray) ix.toNat hs];have:=b;rw[dj a]at this;exact this
 rw[e];rfl
def kr{p:Prop}(h:p:=by kernel_rfl):p:=h
def sj{α:Type _}{a b:α}(h:some a=some b):a=b:=Option.some.inj h
abbrev BS:=List UInt8
abbrev LI:=List Int
abbrev LG:=List (BS×Int)
abbrev LT:=List (BS×LI)
abbrev LP:=List ((Int×Int)×Int)
abbrev LB:=List (Int×Int×Int)
abbrev LW:=List BS
abbrev LM:=List LI
abbrev TS:=LG×LT
abbrev OA:=Option Addr
abbrev iv(n:Int):Value:=.int .i64 n
abbrev pt(b o:Nat):Value:=.pointer (some ⟨b,o,none⟩)
abbrev bW(p:Prop)[Decidable p]:Value:=.bool (decide p)
abbrev sl(a:Option Addr)(n c:Nat):Value:=.slice a n c
def eA{F:aB}{E}t(h:E=F){v}(hv:F t=v:=by kernel_rfl):E=aQ F t v:=zb h hv
def gQ:List (Value->K->Prop)->Nat->Value->K->Prop
 |[],_=>λ_ _=>True
 | S::_,0=>S
 | _::Ss,i+1=>gQ Ss i
def iC:List Nat->Nat->Nat
 |[],_=>0
 | d::_,0=>d
 | _::ds,i+1=>iC ds i
def jH{X:Nat->Prop}:∀i,i<0->X i:=λi h=>absurd h (Nat.not_lt_zero i)
theorem aS{X:Nat->Prop}k(h:∀i,i<k->X i)(hk:X k):∀i,i<k+1->X i:=by
 grind
def Jz(c:Code)(k:Nat)(ds:List Nat):Bool:=(List.range k).all λi=>Nat.beq (dstOf c i) (iC ds i)
def lR(k:Nat)(ds:List Nat)(t:Nat):Bool:=(List.range k).all λi=>!Nat.beq t (iC ds i)
section
variable [Fc] [Fb] {P:Program} {n:Nat} {Q:bC} {E:aB} {κ:K}
theorem HL{c0 p}i0(Rel0 Rel1:K->K->Prop)(rr:∀κ,Rel1 κ κ)(rt0:∀κ1 κ2 κ3,Rel0 κ1 κ2->Rel0 κ2 κ3->Rel0 κ1 κ3)(rt1:∀κ1 κ2 κ3,Rel1 κ1 κ2->Rel1 κ2 κ3->Rel1 κ1 κ3)(r10:∀κ1 κ2,Rel1 κ1 κ2->Rel0 κ1 κ2)k ds(Ss:List (Value->K->Prop))(h:eD (sub c0 p)=some true)(hm:P.follows .mixedOrders=true)(hB:jY (sub c0 p) n k=true)(hds:Jz (sub c0 p) k ds=true)(mono:∀i,i<k->∀v κ1 κ2,Rl i0 i Rel1 Rel0 κ1 κ2->gQ Ss i v κ1->gQ Ss i v κ2)(hop:∀i,i<k->∀a κ',Rl i0 i Rel1 Rel0 κ κ'->(∀t,lR k ds t=true->a t=E t)->
   (∀j,Nat.blt j k=true->cQ (sub c0 p) i j=true->gQ Ss j (a (iC ds j)) κ')->bA P (Rl i0 i Rel0 Rel1) (sub c0 p) i a κ' (gQ Ss i))(fin:∀a κ',Rel0 κ κ'->(∀t,lR k ds t=true->a t=E t)->(∀j,Nat.blt j k=true->gQ Ss j (a (iC ds j)) κ')->
   aN P n (sub c0 p) k Q a κ'):aO P n (sub c0 p) Q E κ:=by
 have hd:∀j,j<k->dstOf (sub c0 p) j=iC ds j:=λj c=>gt<|bj.1 hds j<|fz.2 c;have l:∀t,lR k ds t=true->∀j,j<k->t≠dstOf (sub c0 p) j:=by
  intro t f j c e;have:=bj.1 f j<|fz.2 c;rw[hd j c]at e;rw[←e]at this;simp at this
 refine Pa i0 Rel0 Rel1 rr rt0 rt1 r10 k (gQ Ss) h hm hB (λi v κ1 κ2 hi hS d=>mono i hi v κ1 κ2 d hS) ?_ ?_
 ·intro i hi a κ' d b m;exact hop i hi a κ' d (λt f=>b t<|l t f) λj c q=>by
   simp_all
 ·intro a κ' d b g;exact fin a κ' d (λt f=>b t<|l t f) λj c=>by
   simp_all
def zH{Rel:K->K->Prop}{R:Value->K->Prop}{c i E F κ}(h:E=F)(hk:bA P Rel c i F κ R):bA P Rel c i E κ R:=by rw[h];exact hk
def lz{Rel:K->K->Prop}(rr:∀κ,Rel κ κ){R:Value->K->Prop}{T:TypeId}{c i b off v}(h:cD c i E=true)(ho:execOp (ev E) (zw c i)=aW (Instr.loadAt T (.pointer (some ⟨b,off,none⟩))))(hT:dK P T=some false)(hv:κ.cell b off=some v)(hR:R v κ):bA P Rel c i E κ R:=c_ rr v h (λC a=>by rw[ho];exact zI<|pA hT hv) hR
def tC{Rel:K->K->Prop}(rr:∀κ,Rel κ κ){R:Value->K->Prop}{T:TypeId}{cs:List Value}{c i b off}(h:cD c i E=true)(ho:execOp (ev E) (zw c i)=aW (Instr.loadAt T (.pointer (some ⟨b,off,none⟩))))(hT:dK P T=some true)(hs:zO P T=some cs.length)(hv:kM κ b off cs)(hR:R (.agg cs.toArray) κ):bA P Rel c i E κ R:=c_ rr _ h (λC a=>by rw[ho];exact zI<|sX hT hs hv) hR
def AT{Rel:K->K->Prop}(rr:∀κ,Rel κ κ){R:Value->K->Prop}{T el:TypeId}{ix:Int}{c i b off a sz ln cp k}(ea:a=some ⟨b,off,none⟩)(h:cD c i E=true)(ho:execOp (ev E) (zw c i)=aW (Instr.indexAt T (.slice a ln cp) (.int k ix)))(hT:zK P T=some el)(hs:zO P el=some sz)(h0:0<=ix)(h1:ix<ln)(hR:R (.pointer (some ⟨b,off+ix.toNat*sz,none⟩)) κ):bA P Rel c i E κ R:=by
 subst ea;exact c_ rr _ h (λC d=>by rw[ho];exact zI (by rw[Ay hT hs h0 h1,js])) hR
def Ip{Rel:K->K->Prop}{R:Value->K->Prop}{c i}(h:cD c i E=true)(hr:∀C d,∃v κ' a,(execOp (ev E) (zw c i)).run P (W C κ d)=.ok (.value v) (W C κ' a)/\Rel κ κ'/\R v κ'):bA P Rel c i E κ R:=BB h λC d=>by obtain⟨v,κ',a,e,b,f⟩:=hr C d;rw[e];exact⟨κ',a,rfl,b,f⟩
end
def aZ{α:Type}(t:Ty α)(κ:K)(xs:List Value):List α->Prop
 |[]=>xs=[]
 | x::l=>∃c xs',xs=c++xs'/\t.own κ c x/\aZ t κ xs' l
section
variable {α:Type} {t:Ty α} {κ κ':K} {M:List Nat}
def aZ.length:∀{l:List α} {xs:List Value},aZ t κ xs l->xs.length=l.length*t.size
 |[],xs,h=>by have h:xs=[]:=h;rw[h];simp
 | x::l,xs,⟨c,xs',h,ho,hr⟩=>by rw[h,ef,t.len ho,hr.length,eh,ij,Nat.add_comm]
def aZ.step(s:Step M κ κ'):∀{l:List α} {xs:List Value},aZ t κ xs l->aZ t κ' xs l
 |[],_,h=>h
 | _::_,_,⟨c,xs',h,ho,hr⟩=>⟨c,xs',h,t.step s ho,aZ.step s hr⟩
def aZ.append:∀{l l':List α} {xs xs':List Value},aZ t κ xs l->aZ t κ xs' l'->aZ t κ (xs++xs') (l++l')
 |[],_,xs,_,h,h'=>by have h:xs=[]:=h;rw[h];exact h'
 | x::l,_,_,xs2,⟨c,xs',h,ho,hr⟩,h'=>⟨c,xs'++xs2,by rw[h,bp],ho,hr.append h'⟩
def aZ.one:∀{l:List α} {xs:List Value},aZ t κ xs l->∀v∈xs,v.oneCell'=true
 |[],xs,h,v,hv=>by have h:xs=[]:=h;rw[h]at hv;cases hv
 | x::l,xs,⟨c,xs',h,ho,hr⟩,v,hv=>by
  rw[h,fj]at hv;exact hv.elim (t.one ho v) (hr.one v)
def aZ.get:∀{l:List α} {xs:List Value} {i:Nat} {x:α},aZ t κ xs l->l[i]?=some x->∃cs,t.own κ cs x/\(xs.drop (i*t.size)).take t.size=cs
 |[],_,i,x,_,hx=>by simp at hx
 | y::l,xs,0,x,⟨c,xs',h,ho,hr⟩,hx=>by
  simp at hx;subst hx;refine⟨c,ho,?_⟩;rw[h,←t.len ho];simp
 | y::l,xs,i+1,x,⟨c,xs',h,ho,hr⟩,hx=>by
  simp at hx;obtain⟨cs,a,b⟩:=hr.get hx;refine⟨cs,a,?_⟩;have e:(i+1)*t.size=c.length+i*t.size:=by rw[ij,t.len ho,Nat.add_comm]
  rw[←b,h,e,List.drop_length_add_append]
def aZ.set:∀{l:List α} {xs:List Value} {i:Nat} {x:α} {cs:List Value},aZ t κ xs l->t.own κ cs x->i<l.length->
  aZ t κ (xs.take (i*t.size)++cs++xs.drop ((i+1)*t.size)) (l.set i x)
 |[],_,i,x,_,_,_,hi=>by simp at hi
 | y::l,xs,0,x,cs,⟨c,xs',h,ho,hr⟩,hx,hi=>by
  refine⟨cs,xs',?_,hx,hr⟩;rw[h,←t.len ho];simp
 | y::l,xs,i+1,x,cs,⟨c,xs',h,ho,hr⟩,hx,hi=>by
  refine⟨c,_,?_,ho,hr.set hx (by simpa using hi)⟩;have a:(i+1)*t.size=c.length+i*t.size:=by rw[ij,t.len ho,Nat.add_comm]
  have b:(i+1+1)*t.size=c.length+(i+1)*t.size:=by rw[ij,t.len ho,Nat.add_comm]
  rw[h,a,b,List.take_length_add_append,List.drop_length_add_append];simp[bp];rw[a]
theorem aZ.of_sl{a c}:∀{l:List α},Sl t κ a c l->∃xs,aZ t κ xs l/\(0<l.length->∃b off,a=some ⟨b,off,none⟩/\PubAt κ b off xs)
 | l,h=>by
  induction l generalizing a c with
  | nil=>exact⟨[],rfl,λh=>by simp at h⟩
  | cons x l ih=>
   obtain⟨b,off,u,q⟩:=h.elems si;obtain⟨cs,hp,m⟩:=q 0 x si;simp only[Nat.zero_mul,Nat.add_zero]at hp;have h':Sl t κ (some ⟨b,off+t.size,none⟩) l.length l:=by
    refine⟨gv _,by have:=h.most;simp at this;omega,λ_=>⟨b,off+t.size,rfl,λi y r=>?_⟩⟩;obtain⟨s,d,w⟩:=q (i+1) y (by simpa using r)
    grind
   obtain⟨xs,n,A⟩:=ih h';refine⟨cs++xs,⟨cs,xs,rfl,m,n⟩,λ_=>⟨b,off,u,?_⟩⟩;have B:=t.len m;by_cases g:0<l.length
   ·obtain⟨C,p,e,d⟩:=A g;injection e with e
    injection e with e1 e2
    subst e1;subst e2;refine⟨hp.1,?_,λj v f=>?_⟩
    ·have:=d.2.1;rw[ef];omega
    ·rw[List.getElem?_append]at f;split at f
     ·exact hp.2.2 j v f
     ·have:=d.2.2 _ v f;rw[←this];congr 1;omega
   ·have:l=[]:=ca om;subst this;have k:xs=[]:=n;subst k;simpa using hp
end
def aG(a:Option Addr)(c:Nat):List Nat:=
 match a with
 | some a=>if c=0 then[]else[a.block]
 | none=>[]
def ub{a:Addr}{g c}(h:g∈aG (some a) c):g=a.block/\0<c:=by
 by_cases b:c=0
 ·simp[aG,b]at h
 ·simp[aG,b]at h;exact⟨h,by omega⟩
def hE{a:Addr}{c}(h:0<c):a.block∈aG (some a) c:=by
 have:¬c=0:=by omega
 simp[aG,this]
def pO{a}:aG a 0=[]:=by cases a<;>simp[aG]
structure Gr{α:Type}(t:Ty α)(pub:Bool)(τ:aK)(κ:K)(e:TypeId)(a:Option Addr)(c:Nat)(l:List α):Prop where
 most:l.length<=maxLen
 body:(c=0/\l=[])\/∃g cur xs,a=some ⟨g,0,none⟩/\aZ t κ xs l/\κ.H[g]?=some (.cells cur e (0,0))/\l.length<=c/\c<=maxLen/\
  cur.size=c*t.size/\cur.toList.take (l.length*t.size)=xs/\κ.fr g=(if pub=true then l.length*t.size else 0)/\κ.tag g=τ/\τ.1<=g
section
variable {α:Type} {t:Ty α} {pub:Bool} {τ τ':aK} {κ κ':K} {e:TypeId} {a:Option Addr} {c:Nat} {l:List α} {M:List Nat}
theorem Gr.nil:Gr t pub τ κ e none 0 []:=⟨by simp,.inl ⟨rfl,rfl⟩⟩
def Gr.lt(h:Gr t pub τ κ e a c l):∀g∈aG a c,g<κ.H.size/\κ.tag g=τ/\τ.1<=g:=by
 intro g b;rcases h.body with⟨d,_⟩ |⟨g',cur,xs,d,hr,hH,h1,h2,h3,h4,h5,h6,h7⟩
 ·rw[d,pO]at b;cases b
 ·rw[d]at b;have:g=g':=(ub b).1;subst this;exact⟨(ai.1 hH).1,h6,h7⟩
def Gr.step(s:Step M κ κ')(hm:∀g∈aG a c,g∉M)(h:Gr t pub τ κ e a c l):Gr t pub τ κ' e a c l:=by
 refine⟨h.most,?_⟩;rcases h.body with⟨j,i⟩ |⟨g,cur,xs,ha,hr,hH,h1,h2,h3,h4,h5,h6,h7⟩
 ·exact .inl ⟨j,i⟩
 ·by_cases d:c=0
  ·exact .inl ⟨d,ca om⟩
  have b:g<κ.H.size:=(ai.1 hH).1;have f:=s.2.1 g b<|hm g (by rw[ha];exact hE om);exact .inr ⟨g,cur,xs,ha,hr.step s,f.1.trans hH,h1,h2,h3,h4,f.2.1.trans h5,f.2.2.trans h6,h7⟩
def Gr.step0(s:Step [] κ κ')(h:Gr t pub τ κ e a c l):Gr t pub τ κ' e a c l:=h.step s si
def Gr.nb{T:TypeId}{b cs}(h:Gr t pub τ κ e a c l)(hb:aI τ' κ b cs T)(hn:τ≠τ'):∀g∈aG a c,g∉[b]:=by
 intro g d f;have:g=b:=by simpa using f
 subst this;exact hn<|(h.lt g d).2.1.symm.trans hb.tag
def Gr.bn{T:TypeId}{b cs}(h:Gr t pub τ κ e a c l)(hb:aI τ' κ b cs T)(hn:τ'≠τ):b∉aG a c:=by
 intro d;exact hn<|hb.tag.symm.trans (h.lt b d).2.1
def Gr.ng{β:Type}{t':Ty β}{e':TypeId}{l':List β}{pub' a' c'}(h:Gr t pub τ κ e a c l)(h':Gr t' pub' τ' κ e' a' c' l')(hn:τ≠τ'):∀g∈aG a c,g∉aG a' c':=by
 intro g b d;exact hn<|(h.lt g b).2.1.symm.trans (h'.lt g d).2.1
def Gr.own{κ0:K}(h:Gr t pub τ κ e a c l)(h0:κ0.H.size<=τ.1):∀b∈aG a c,κ0.H.size<=b:=λb d=>gy h0 (h.lt b d).2.2
def Gr.sl(h:Gr t true τ κ e a c l):Sl t κ a c l:=by
 rcases h.body with⟨p,m⟩ |⟨g,cur,xs,ha,hr,hH,h1,h2,h3,h4,h5,h6,h7⟩
 ·rw[p,m];exact⟨gv _,by simp,λh=>by simp at h⟩
 ·refine⟨h1,h.most,λ_=>⟨g,0,ha,λi x k=>?_⟩⟩;obtain⟨cs,f,d⟩:=hr.get k;have hi:i<l.length:=(dm.1 k).1;have n:i*t.size+t.size<=l.length*t.size:=by rw[←ij];exact ii _ hi
  refine⟨cs,⟨(ai.1 hH).1,?_,λj v b=>?_⟩,f⟩
  ·rw[h5,if_pos rfl,t.len f];omega
  ·rw[←d,←h4]at b;rw[ec]at b;split at b
   ·rw[dh,ec]at b;split at b
    ·unfold K.cell;rw[hH];simp only[ik];rw[←an];exact b
    ·cases b
   ·cases b
def K.pubB(κ:K)(g m:Nat):K:=⟨κ.H,λb=>if b=g then m else κ.fr b,κ.tag⟩
def Gr.publish(h:Gr t false τ κ e a c l):∃κ',κ'.H=κ.H/\Step (aG a c) κ κ'/\Gr t true τ κ' e a c l:=by
 rcases h.body with⟨j,i⟩ |⟨g,cur,xs,ha,hr,hH,h1,h2,h3,h4,h5,h6,h7⟩
 ·exact⟨κ,rfl,Step.refl _ _,h.most,.inl ⟨j,i⟩⟩
 ·by_cases d:c=0
  ·exact⟨κ,rfl,Step.refl _ _,h.most,.inl ⟨d,ca om⟩⟩
  have hs:Step (aG a c) κ (κ.pubB g (l.length*t.size)):=by
   refine⟨gv _,λb f hm=>⟨rfl,?_,rfl⟩,λb f=>⟨?_,λo _=>rfl⟩,λb f _=>⟨rfl,rfl⟩⟩
   ·simp only[K.pubB];rw[if_neg];intro e;exact hm (by rw[ha,e];exact hE om)
   ·simp only[K.pubB];split
    ·rename_i e;subst e;rw[h5];simp
    ·exact gv _
  exact⟨κ.pubB g (l.length*t.size),rfl,hs,h.most,.inr ⟨g,cur,xs,ha,hr.step hs,hH,h1,h2,h3,h4,by simp[K.pubB],h6,h7⟩⟩
def Ao[Fc][Fb]{P n c0 i Q E}(h:Gr t false τ κ e a c l)(hk:∀κ',Step (aG a c) κ κ'->Gr t true τ κ' e a c l->aN P n c0 i Q E κ'):aN P n c0 i Q E κ:=by
 obtain⟨κ',b,s,h'⟩:=h.publish;exact iN b<|hk κ' s h'
def iJ[Fc][Fb]{P n c0 Q E}(h:Gr t false τ κ e a c l)(hk:∀κ',Step (aG a c) κ κ'->Gr t true τ κ' e a c l->aO P n c0 Q E κ'):aO P n c0 Q E κ:=by
 obtain⟨κ',b,s,h'⟩:=h.publish;exact Ol b<|hk κ' s h'
def pJ:maxLen=9223372036854775807:=by unfold maxLen;omega
def pQ(P:Program)(T:TypeId):Option Nat:=(eJ P T).map (·.cells.size)
def K.row(κ:K)(g m:Nat)(cs:List Value)(e:TypeId):K:=⟨κ.H.setIfInBounds g (.cells cs.toArray e (0,0)),λb=>if b=g then m else κ.fr b,κ.tag⟩
theorem Tv[Fb]{cur:Array Value}{cs:List Value}{C d g m}(hg:κ.H[g]?=some (.cells cur e (0,0))):(W C κ d).setRow g cs.toArray=W C (κ.row g m cs e) d:=by
 have a:g<κ.H.size:=(ai.1 hg).1;unfold World.setRow W K.row;simp only[];congr 1
 grind
theorem PZ{cur:Array Value}{cs:List Value}{g m}(hg:κ.H[g]?=some (.cells cur e (0,0)))(hm:κ.fr g<=m)(hk:∀o,o<κ.fr g->cs[o]?=cur[o]?)(hz:cs.length=cur.size):Step [g] κ (κ.row g m cs e):=by
 have b:g<κ.H.size:=(ai.1 hg).1;refine⟨by simp[K.row],λx a hm=>⟨?_,?_,rfl⟩,λx a=>⟨?_,λo d=>?_⟩,λx a c=>⟨rfl,?_⟩⟩
 all_goals grind [K.row,K.cell,K.shp]
theorem Np{T tx ty:TypeId}{P bytes}(h:Gr t pub τ κ e a c l){l2:List α}{x ys}(hys:aZ t κ ys l2)(hτ:τ.1<=κ.H.size)(hT:zK P T=some e)(bN:zO P e=some t.size)(hz:pQ P e=some t.size)(hby:lG P e=some bytes)(L:(l.length+l2.length)*bytes<=140737488355328)(hmax:l.length+l2.length<=9223372036854775807)[Fb](C:Cx)d(hS:Src P t.size tx x l2.length ys (W C κ d)):
  ∃a' c' κ' d',(Builtin.append_ #[T,tx] ty #[.slice a l.length c,x]).run P (W C κ d)=.ok (.slice a' (l++l2).length c') (W C κ' d')/\
   Step (aG a c) κ κ'/\Gr t pub τ κ' e a' c' (l++l2)/\∀g∈aG a' c',g∈aG a c\/κ.H.size<=g:=by
 have v:P.underlying T=some (.slice e):=by
  grind [zK]
 obtain⟨i,hi,O⟩:∃i,P.info? e=some i/\i.bytes=bytes:=by
  unfold lG at hby;obtain⟨i,G,h2⟩:=ip.1 hby;exact⟨i,G,h2⟩
 have q:i.size=t.size:=by unfold zO at bN;rw[hi]at bN;simpa using bN
 obtain⟨z,Q,R⟩:∃z,i.zero=some z/\z.cells.size=t.size:=by
  unfold pQ eJ at hz
  simp_all
 have k:l.length+l2.length<=maxLen:=by rw[pJ];exact hmax
 rw[←q]at hS;have S:l.length<=c:=by
  rcases h.body with⟨_,H⟩ |⟨g,cur,xs,ha,p,hH,G,_⟩
  ·rw[H];simp
  ·exact G
 by_cases B:l2=[]
 ·subst B;have hy:ys=[]:=by have:=hys.length;simpa using this
  subst hy;refine⟨a,c,κ,d,?_,Step.refl _ _,by simpa using h,λg w=>.inl w⟩;have U:=hS.cells;have X:=hS.len;simp only[eu]at U X;simp only[bq];rcases hS.kind with⟨e',A⟩ | A<;>cases a<;>simp[Builtin.append_,run_underlying v,run_underlying A,sizeOf,typeInfo,hi,X,S,U,storeCells]
 ·have Y:0<l2.length:=List.length_pos_iff.2 B;have N:ys.length=l2.length*i.size:=by rw[q];exact hys.length
  have s:∀(xs:List Value)cp,aZ t κ xs l->l.length+l2.length<=cp->cp<=maxLen->
    let κ':=κ.push (.cells ((xs++ys).toArray++Builtin.zeroCells z.cells (cp - (l.length+l2.length))) e) (if pub=true then(l++l2).length*t.size else 0) τ
    Step (aG a c) κ κ'/\Gr t pub τ κ' e (some ⟨κ.H.size,0,none⟩) cp (l++l2):=by
   intro xs cp p I J κ';have hs:Step [] κ κ':=gW _ _ _ _;refine⟨hs.nil,by rw[ef];exact k,.inr ⟨κ.H.size,(xs++ys).toArray++Builtin.zeroCells z.cells (cp - (l.length+l2.length)),xs++ys,rfl,(p.step hs).append<|hys.step hs,by simp[κ',K.push],by rw[ef];exact I,J,?_,?_,by simp[κ',K.push],by simp[κ',K.push],hτ⟩⟩
   ·simp only[Array.size_append,gk,ef,size_zeroCells,R,p.length,hys.length,←gq];congr 1;omega
   ·simp only[Array.toList_append];have hlen:(l++l2).length*t.size=(xs++ys).length:=by rw[ef,ef,p.length,hys.length,gq]
    rw[hlen];exact List.take_left
  have m:∀xs,aZ t κ xs l->(Builtin.firstCells i.size l.length<|.slice a l.length c).run P (W C κ d).drew=.ok xs.toArray (W C κ d).drew->c<l.length+l2.length->∃a' c' κ' d',(Builtin.append_ #[T,tx] ty #[.slice a l.length c,x]).run P (W C κ d)=.ok (.slice a' (l++l2).length c') (W C κ' d')/\
   Step (aG a c) κ κ'/\Gr t pub τ κ' e a' c' (l++l2)/\∀g∈aG a' c',g∈aG a c\/κ.H.size<=g:=by
   intro xs p D r;have n:=run_append_grow_src (P:=P) (W C κ d) T tx ty e i z v hi Q a l.length c xs D x l2.length ys hS r om<|growslice_fits om (by rw[O];exact L);have F:=s xs (grownCap (W C κ d) (l.length+l2.length) c e) p (grownCap_ge _ _ _ _)<|grownCap_le_maxLen _ _ _ _ k;refine⟨_,_,_,d+1,?_,F.1,F.2,λg w=>.inr (by have:=(ub w).1;rw[this];exact gv _)⟩;rw[n,ef];rfl
  rcases h.body with⟨U,H⟩ |⟨g,cur,xs,ha,p,hH,G,h2',h3,h4,h5,h6,h7⟩
  ·refine m [] (by rw[H];exact rfl) ?_ om;rw[H];cases a<;>simp[Builtin.firstCells,loadCells,loadCellsFrom]
  ·by_cases f:l.length+l2.length<=c
   ·subst ha;have E:l.length*i.size+ys.length<=cur.size:=by rw[N,h3,←gq,q];exact ii _ f
    have y:=run_storeCells_at P g (l.length*i.size) e ys 0 cur (W C κ d) hH (by simpa using E) hys.one;simp only[Nat.add_zero]at y;have n:(Builtin.append_ #[T,tx] ty #[.slice (some ⟨g,0,none⟩) l.length c,x]).run P (W C κ d)=.ok (.slice (some ⟨g,0,none⟩) (l.length+l2.length) c) ((W C κ d).setRow g (cur.toList.take (l.length*i.size)++ys++cur.toList.drop (l.length*i.size+ys.length)).toArray):=by
     rcases hS.kind with⟨e',A⟩ | A<;>simp[Builtin.append_,run_underlying v,run_underlying A,sizeOf,typeInfo,hi,hS.len,f,hS.cells,Addr.add_lit,y]
    have Z:κ.fr g<=(if pub=true then(l++l2).length*t.size else 0):=by
     rw[h5];split
     ·exact ii _ si
     ·exact gv _
    have V:(cur.toList.take (l.length*i.size)).length=l.length*t.size:=by
     grind
    have hs:Step [g] κ (κ.row g (if pub=true then(l++l2).length*t.size else 0) (cur.toList.take (l.length*i.size)++ys++cur.toList.drop (l.length*i.size+ys.length)) e):=by
     grind [PZ]
    refine⟨some ⟨g,0,none⟩,c,κ.row g (if pub=true then(l++l2).length*t.size else 0) (cur.toList.take (l.length*i.size)++ys++cur.toList.drop (l.length*i.size+ys.length)) e,d,?_,hs.mono (λb L=>by rw[ga.1 L];exact hE (a:=⟨g,0,none⟩) om),⟨by rw[ef];exact k,.inr ⟨g,(cur.toList.take (l.length*i.size)++ys++cur.toList.drop (l.length*i.size+ys.length)).toArray,xs++ys,rfl,(p.step hs).append<|hys.step hs,?_,by rw[ef];exact f,h2',?_,?_,by simp[K.row],h6,h7⟩⟩,λg w=>.inl w⟩
    ·rw[n,Tv hH,ef]
    ·have r:g<κ.H.size:=(ai.1 hH).1;simp[K.row,r]
    ·simp only[gk,ef,fd,ek,au];omega
    ·have M:cur.toList.take (l.length*i.size)=xs:=by rw[q];exact h4
     simp only[];rw[M];have hlen:(l++l2).length*t.size=(xs++ys).length:=by rw[ef,ef,p.length,hys.length,gq]
     rw[hlen];exact List.take_left
   ·subst ha;refine m xs p (run_firstCells_some (P:=P) _ i.size l.length ⟨g,0,none⟩ l.length c xs (by rw[q];exact p.length) λj u hj=>?_) om;rw[js];show(W C κ (d+1)).cell? ⟨g,0+j,none⟩=some u
    grind [iu,K.cell]
theorem AG{T ty:TypeId}{P bytes}(h:Gr t pub τ κ e a c l){l2:List α}{a2 c2}(h2:Sl t κ a2 c2 l2)(hτ:τ.1<=κ.H.size)(hT:zK P T=some e)(bN:zO P e=some t.size)(hz:pQ P e=some t.size)(hby:lG P e=some bytes)(hb:(l.length+l2.length)*bytes<=140737488355328)(hmax:l.length+l2.length<=9223372036854775807)[Fb](C:Cx)d:
  ∃a' c' κ' d',(Builtin.append_ #[T,T] ty #[.slice a l.length c,.slice a2 l2.length c2]).run P (W C κ d)=.ok (.slice a' (l++l2).length c') (W C κ' d')/\
   Step (aG a c) κ κ'/\Gr t pub τ κ' e a' c' (l++l2)/\∀g∈aG a' c',g∈aG a c\/κ.H.size<=g:=by
 have f:P.underlying T=some (.slice e):=by
  grind [zK]
 obtain⟨s,b,k⟩:=aZ.of_sl h2;refine Np h b hτ hT bN hz hby hb hmax C d ?_;by_cases i:l2=[]
 ·subst i;have v:s=[]:=by have:=b.length;simpa using this
  subst v;cases a2 with
  | none=>exact Src.ofNil _ f c2
  | some q=>exact Src.ofSlice _ f q _ c2 _ si (λj u m=>by cases m) (λu w=>by cases w)
 ·obtain⟨x,r,n,p⟩:=k<|List.length_pos_iff.2 i;subst n;exact Src.ofSlice _ f _ _ c2 _ b.length (λj u m=>by rw[js,iu];exact p.2.2 j u m) b.one
end
def aU{α:Type}(bytes:Nat)(l l2:List α):Option (List α):=if(l.length+l2.length)*bytes<=140737488355328/\l.length+l2.length<=9223372036854775807 then some (l++l2)else none
theorem kJ{α:Type}{l l2 r:List α}{bytes}(h:aU bytes l l2=some r):(l.length+l2.length)*bytes<=140737488355328/\l.length+l2.length<=9223372036854775807/\r=l++l2:=by
 unfold aU at h;split at h
 ·rename_i h0;injection h with h;exact⟨h0.1,h0.2,h.symm⟩
 ·cases h
def cZ{α:Type}(bytes:Nat)(n:Int)(z:α):Option (List α):=if 0<=n/\n<=9223372036854775807/\n*bytes<=140737488355328 then some (List.replicate n.toNat z)else none
theorem OK{α:Type}{n:Int}{z:α}{r:List α}{bytes}(h:cZ bytes n z=some r):0<=n/\n<=9223372036854775807/\n*bytes<=140737488355328/\r=List.replicate n.toNat z:=by
 unfold cZ at h;split at h
 ·rename_i h0;injection h with h;exact⟨h0.1,h0.2.1,h0.2.2,h.symm⟩
 ·cases h
def dR{α:Type}(l:List α)(lo hi:Int):Option (List α):=if 0<=lo/\lo<=hi/\hi<=l.length then some ((l.take hi.toNat).drop lo.toNat)else none
def tG{α:Type}{l r:List α}{lo hi:Int}(h:dR l lo hi=some r):0<=lo/\lo<=hi/\hi<=l.length/\r=(l.take hi.toNat).drop lo.toNat:=by
 unfold dR at h;split at h
 ·rename_i h0;injection h with h;exact⟨h0.1,h0.2.1,h0.2.2,h.symm⟩
 ·cases h
def gC(P:Program)(T:TypeId):Option (TypeId×Nat×Nat×Nat):=
 match zK P T with
 | some e=>match zO P e,pQ P e,lG P e with
  | some s,some z,some b=>some (e,s,z,b)
  | _,_,_=>none
 | none=>none
def mU{T e:TypeId}{P s z b}(h:gC P T=some (e,s,z,b)):zK P T=some e/\zO P e=some s/\pQ P e=some z/\lG P e=some b:=by
 unfold gC at h;split at h
 ·rename_i e' he;split at h
  ·rename_i h1 h2 h3;injection h with h
   injection h with h4 h
   injection h with h5 h
   injection h with h6 h7
   subst h4;subst h5;subst h6;subst h7;exact⟨he,h1,h2,h3⟩
  ·cases h
 ·cases h
def lu{P:Program}{T e:TypeId}(hT:zK P T=some e):P.underlying T=some (.slice e):=by
 unfold zK at hT;split at hT
 ·rename_i e' he;rw[he];injection hT with hT;subst hT;rfl
 ·cases hT
section
variable [Fc] [Fb] {P:Program} {n:Nat} {c:Code} {i:Nat} {Q:bC} {E:aB} {κ:K} {α:Type} {t:Ty α} {pub:Bool} {τ:aK} {e T:TypeId} {a a2:Option Addr} {cp c2:Nat} {l l2 r:List α} {Rel:K->K->Prop} {R:Value->K->Prop}
def pG{d bytes}(h:st c i n E (some d)=true)(ho:execOp (ev E) (zw c i)=aW (Builtin.append_ #[T,T] 0 #[.slice a l.length cp,.slice a2 l2.length c2]))(hg:Gr t pub τ κ e a cp l)(h2:Sl t κ a2 c2 l2)(hτ:τ.1<=κ.H.size)(hT:gC P T=some (e,t.size,t.size,bytes))(hx:aU bytes l l2=some r)(hk:∀a' c' κ',Step (aG a cp) κ κ'->Gr t pub τ κ' e a' c' r->(∀g∈aG a' c',g∈aG a cp\/κ.H.size<=g)->aN P n c (i+1) Q (aQ E d (.slice a' r.length c')) κ'):aN P n c i Q E κ:=by
 obtain⟨q,u,k,s⟩:=mU hT;obtain⟨w,hm,rfl⟩:=kJ hx;refine gZ (λv κ'=>∃a' c',v=.slice a' (l++l2).length c'/\Step (aG a cp) κ κ'/\Gr t pub τ κ' e a' c' (l++l2)/\∀g∈aG a' c',g∈aG a cp\/κ.H.size<=g) h (λC j=>?_) ?_
 ·obtain⟨a',c',κ',m,p,hs,b,f⟩:=AG (P:=P) (T:=T) (ty:=0) hg h2 hτ q u k s w hm C j;exact⟨_,κ',m,by rw[ho];exact zI p,a',c',rfl,hs,b,f⟩
 ·rintro v κ' ⟨a',c',rfl,hs,b,f⟩;exact hk a' c' κ' hs b f
def ND{bytes}(h:cD c i E=true)(ho:execOp (ev E) (zw c i)=aW (Builtin.append_ #[T,T] 0 #[.slice a l.length cp,.slice a2 l2.length c2]))(hg:Gr t pub τ κ e a cp l)(h2:Sl t κ a2 c2 l2)(hτ:τ.1<=κ.H.size)(hT:gC P T=some (e,t.size,t.size,bytes))(hx:aU bytes l l2=some r)(hk:∀a' c' κ',Step (aG a cp) κ κ'->Gr t pub τ κ' e a' c' r->(∀g∈aG a' c',g∈aG a cp\/κ.H.size<=g)->Rel κ κ'/\R (.slice a' r.length c') κ'):bA P Rel c i E κ R:=by
 obtain⟨m,q,j,p⟩:=mU hT;obtain⟨s,hm,rfl⟩:=kJ hx;refine Ip h λC f=>?_;obtain⟨a',c',κ',n,k,hs,b,d⟩:=AG (P:=P) (T:=T) (ty:=0) hg h2 hτ m q j p s hm C f;exact⟨_,κ',n,by rw[ho];exact zI k,hk a' c' κ' hs b d⟩
def pX(P:Program)(T:TypeId)(len:Nat)(parts:Array (Nat×Value)):Option (TypeId×Nat×List Value):=
 match zK P T with
 | some e=>match zO P e,(if len=0 then some (.tuple #[])else eJ P e)with
  | some s,some z=>if len*s>2 ^ 24 then none else
   match Instr.fill (λi=>some (i*s,s)) ((Array.range (len*s)).map ((if len*s=0 then #[]else z.cells)[· % (if len*s=0 then #[]else z.cells).size]!)) parts.toList with
   | some cs=>some (e,s,cs.toList)
   | none=>none
  | _,_=>none
 | none=>none
def IC{parts:Array (Nat×Value)}{cs:List Value}{len s}(hi:pX P T len parts=some (e,s,cs))(hs:0<s)[Fb](C:Cx)d m(τ:aK):
  (Instr.buildSlice T len parts).run P (W C κ d)=.ok (.slice (some ⟨κ.H.size,0,none⟩) len len) (W C (κ.push (.cells cs.toArray e) m τ) d):=by
 unfold pX at hi;split at hi
 ·rename_i e' he;split at hi
  ·rename_i s' z h1 h2;split at hi
   ·cases hi
   ·rename_i hle;split at hi
    ·rename_i cs' hcs;injection hi with hi
     injection hi with h3 hi
     injection hi with h4 h5
     subst h3;subst h4;subst h5;have hlen:len*s'=0↔len=0:=by
      constructor
      ·intro h;rcases Nat.mul_eq_zero.1 h with h | h
       ·exact h
       ·omega
      ·intro h;rw[h];simp
     unfold Instr.buildSlice;simp only[be,zG<|lu he,bd,gV h1,Sem.run_ite,if_neg hle,bf];by_cases b:len=0
     ·have a:len*s'=0:=hlen.2 b;rw[if_pos a];simp only[a,if_true]at hcs;simp only[bd,bf,a];rw[hcs];simp only[be];rfl
     ·have a:¬len*s'=0:=λh=>b<|hlen.1 h;rw[if_neg a];rw[if_neg b]at h2;simp only[if_neg a]at hcs;simp only[bd,bf,be,sO h2];rw[hcs];simp only[be];rfl
    ·cases hi
  ·cases hi
 ·cases hi
def BA{cs:List Value}(hr:aZ t κ cs l)(hmax:l.length<=9223372036854775807)(hτ:τ.1<=κ.H.size):
  Gr t pub τ (κ.push (.cells cs.toArray e) (if pub=true then l.length*t.size else 0) τ) e (some ⟨κ.H.size,0,none⟩) l.length l:=⟨by rw[pJ];exact hmax,.inr ⟨κ.H.size,cs.toArray,cs,rfl,hr.step<|gW _ _ _ _,by simp[K.push],gv _,by rw[pJ];exact hmax,by simpa using hr.length,
  by simp[←hr.length],by simp[K.push],by simp[K.push],hτ⟩⟩
def Im{parts:Array (Nat×Value)}{d len cs}(h:st c i n E (some d)=true)(ho:execOp (ev E) (zw c i)=aW (Instr.buildSlice T len parts))(hi:pX P T len parts=some (e,t.size,cs))(hs:Nat.blt 0 t.size=true)(hτ:τ.1<=κ.H.size)(hl:l.length=len)(hr:aZ t κ cs l)(hm:Nat.ble len 1000000=true)(hk:∀a' κ',Step [] κ κ'->Gr t pub τ κ' e a' len l->aN P n c (i+1) Q (aQ E d (.slice a' len len)) κ'):aN P n c i Q E κ:=by
 subst hl;have hm':=gu hm;refine iR _ h (λC a=>by rw[ho];exact zI<|IC hi (gu hs) C a (if pub=true then l.length*t.size else 0) τ)<|hk _ _ (gW _ _ _ _)<|BA hr om hτ
def Io{parts:Array (Nat×Value)}{len cs}(h:cD c i E=true)(ho:execOp (ev E) (zw c i)=aW (Instr.buildSlice T len parts))(hi:pX P T len parts=some (e,t.size,cs))(hs:Nat.blt 0 t.size=true)(hτ:τ.1<=κ.H.size)(hl:l.length=len)(hr:aZ t κ cs l)(hm:Nat.ble len 1000000=true)(hk:∀a' κ',Step [] κ κ'->Gr t pub τ κ' e a' len l->Rel κ κ'/\R (.slice a' len len) κ'):bA P Rel c i E κ R:=by
 subst hl;have hm':=gu hm;refine Ip h λC a=>⟨_,_,a,by rw[ho];exact zI<|IC hi (gu hs) C a (if pub=true then l.length*t.size else 0) τ,hk _ _ (gW _ _ _ _)<|BA hr om hτ⟩
def OC{zs:List Value}{z:α}(hz:t.own κ zs z)m:aZ t κ ((List.range (m*t.size)).map λi=>(zs.toArray)[i % zs.toArray.size]!) (List.replicate m z):=by
 have d:=t.len hz;have key:∀k s0,s0 % t.size=0->aZ t κ ((List.range' s0 (k*t.size)).map λi=>(zs.toArray)[i % zs.toArray.size]!) (List.replicate k z):=by
  intro k
  induction k with
  | zero=>intro s0 _;simp[aZ]
  | succ k ih=>
   intro s0 e;refine⟨zs,_,?_,hz,ih (s0+t.size) (by rw[Nat.add_mod_right];exact e)⟩;rw[ij,Nat.add_comm,←List.range'_append,fe];congr 1
   ·apply ce;intro j;rw[dt];by_cases c:j<t.size
    ·rw[List.getElem?_range' c];have b:j<zs.length:=by rw[d];exact c
     have a:(s0+1*j) % zs.toArray.size=j:=by
      rw[gk,d,Nat.one_mul,Nat.add_mod,e,ik,Nat.mod_mod,Nat.mod_eq_of_lt c]
     simp[b,a]at a ⊢;rw[a];simp[b]
    ·rw[dl so,dl om];rfl
   ·simp
 have:=key m 0 si;rw[List.range_eq_range'];exact this
def JJ{zs:List Value}{z:α}{bytes k1 k2 m}(hT:gC P T=some (e,t.size,t.size,bytes))(hz:(eJ P e).map Value.cells=some zs.toArray)(hzo:t.own κ zs z)(hx:cZ bytes m z=some r)(hτ:τ.1<=κ.H.size)[Fb](C:Cx)d:∃a' κ',(Instr.makeSlice T (.int k1 m) (.int k2 m)).run P (W C κ d)=.ok (.slice a' r.length r.length) (W C κ' d)/\
   Step [] κ κ'/\Gr t pub τ κ' e a' r.length r:=by
 obtain⟨u,l,x,q⟩:=mU hT;obtain⟨v,hm,y,rfl⟩:=OK hx;obtain⟨n,b,g⟩:=ip.1 hz;obtain⟨i,hi,j,p,k⟩:∃i,P.info? e=some i/\i.bytes=bytes/\i.size=t.size/\i.zero=some n:=by
  unfold lG at q;obtain⟨i,h,s⟩:=ip.1 q;unfold zO at l;rw[h]at l;unfold eJ at b;rw[h]at b;exact⟨i,h,s,by simpa using l,by simpa using b⟩
 have f:=run_make (P:=P) (W C κ d) T e i n (lu u) hi k k1 k2 m m v (Int.le_refl _) (by rw[j,Int.mul_comm];omega) hm;have c:aZ t κ ((List.range (m.toNat*t.size)).map λi=>(zs.toArray)[i % zs.toArray.size]!) (List.replicate m.toNat z):=OC hzo m.toNat;have a:madeCells n.cells (m.toNat*i.size)=((List.range (m.toNat*t.size)).map λi=>(zs.toArray)[i % zs.toArray.size]!).toArray:=by
  unfold madeCells;rw[g,p];apply Array.ext';simp[Array.toList_range]
 have hlen:(List.replicate m.toNat z).length=m.toNat:=by simp
 have w:=BA (pub:=pub) (τ:=τ) (e:=e) c (by rw[hlen];omega) hτ;refine⟨_,_,?_,gW _ _ _ _,w⟩;rw[f,a,hlen];rfl
def gB{zs:List Value}{z:α}{d bytes k1 k2 m}(h:st c i n E (some d)=true)(ho:execOp (ev E) (zw c i)=aW (Instr.makeSlice T (.int k1 m) (.int k2 m)))(hT:gC P T=some (e,t.size,t.size,bytes))(hz:(eJ P e).map Value.cells=some zs.toArray)(hzo:t.own κ zs z)(hx:cZ bytes m z=some r)(hτ:τ.1<=κ.H.size)(hk:∀a' κ',Step [] κ κ'->Gr t pub τ κ' e a' r.length r->aN P n c (i+1) Q (aQ E d (.slice a' r.length r.length)) κ'):aN P n c i Q E κ:=by
 refine gZ (λv κ'=>∃a',v=.slice a' r.length r.length/\Step [] κ κ'/\Gr t pub τ κ' e a' r.length r) h (λC b=>?_) ?_
 ·obtain⟨a',κ',f,hs,a⟩:=JJ (P:=P) (T:=T) (pub:=pub) (k1:=k1) (k2:=k2) hT hz hzo hx hτ C b;exact⟨_,κ',b,by rw[ho];exact zI f,a',rfl,hs,a⟩
 ·rintro v κ' ⟨a',rfl,hs,a⟩;exact hk a' κ' hs a
def jB:Option Int->Option Value
 | some n=>some (.int .i64 n)
 | none=>none
def Gr.idx{ix:Int}{x:α}(h:Gr t pub τ κ e a cp l)(hx:idx l ix=some x):
  ∃b,a=some ⟨b,0,none⟩/\0<=ix/\ix<(l.length:Int)/\∃cs,At κ b (0+ix.toNat*t.size) cs/\t.own κ cs x:=by
 obtain⟨n,d,m⟩:=iO hx;rcases h.body with⟨_,k⟩ |⟨g,cur,xs,ha,hr,hH,h3,h4,h5,h6,h7,h8,h9⟩
 ·rw[k]at d;simp at d;omega
 ·refine⟨g,ha,n,d,?_⟩;obtain⟨cs,i,f⟩:=hr.get m;refine⟨cs,⟨(ai.1 hH).1,λj v c=>?_⟩,i⟩;rw[←f,←h6]at c;rw[ec]at c;split at c
  ·rw[dh,ec]at c;split at c
   ·unfold K.cell;rw[hH];simp only[ik];rw[←an];exact c
   ·cases c
  ·cases c
theorem mV(vs:List Value):∀(cs:List Value)off j,off+vs.length<=cs.length->(splice cs off vs)[j]?=if off<=j/\j<off+vs.length then vs[j - off]? else cs[j]?:=by
 induction vs with
 | nil=>intro cs off j _;rw[splice,if_neg (λh=>by simp only[eu]at h;omega)]
 | cons v vs ih=>
  intro cs off j b;simp only[eh]at b;rw[splice,ih (cs.set off v) (off+1) j (by rw[fa];omega)];simp only[eh];by_cases a:off+1<=j/\j<off+1+vs.length
  ·rw[if_pos a,if_pos om];have:j - off=(j - (off+1))+1:=by omega
   rw[this,List.getElem?_cons_succ]
  ·rw[if_neg a];by_cases c:j=off
   ·subst c;rw[if_pos om,Nat.sub_self,dz om];rfl
   ·rw[if_neg om,dy om]
def Za{cur vs xs:List Value}{cs m s i δ}(hm:m*s<=cur.length)(hxs:cur.take (m*s)=xs)(hi:i<m)(hcs:(xs.drop (i*s)).take s=cs)(hδ:δ+vs.length<=s):
  (splice cur (i*s+δ) vs).take (m*s)=xs.take (i*s)++splice cs δ vs++xs.drop ((i+1)*s):=by
 have n:(i+1)*s<=m*s:=ii _ hi;have l:(i+1)*s=i*s+s:=ij i s;have h:xs.length=m*s:=by rw[←hxs,fd];omega
 have c:cs.length=s:=by rw[←hcs,fd,ek];omega
 have a:∀j,j<m*s->xs[j]?=cur[j]?:=λj b=>by rw[←hxs,ec,if_pos b]
 have f:∀j,j<s->cs[j]?=cur[i*s+j]?:=λj b=>by rw[←hcs,ec,if_pos b,dh,a _ om]
 apply ce;intro j;rw[ec];by_cases b:j<m*s
 ·rw[if_pos b,mV _ _ _ _ om];have d:(xs.take (i*s)).length=i*s:=by rw[fd];omega
  have e:(splice cs δ vs).length=s:=by rw[pd,c]
  by_cases k:j<i*s
  ·rw[if_neg om,bp,df om,ec,if_pos k,a j b]
  ·by_cases p:j<i*s+s
   ·rw[bp,dg om,df om,mV _ _ _ _ om,d];by_cases g:i*s+δ<=j/\j<i*s+δ+vs.length
    ·rw[if_pos g,if_pos om];congr 1;omega
    ·rw[if_neg g,if_neg om,f _ om];congr 1;omega
   ·rw[if_neg om,dg (by rw[ef];omega),dh,ef,d,e,a _ om];congr 1;omega
 ·rw[if_neg b,dl];rw[ef,ef,pd,c,fd,ek];omega
def gY{ix:Int}{x':α}{T:TypeId}{vs:List Value}{b δ}(v:Value)(h:st c i n E none=true)(ho:execOp (ev E) (zw c i)=gH (Instr.storeAt T (.pointer (some ⟨b,0+ix.toNat*t.size+δ,none⟩)) v))(ea:a=some ⟨b,0,none⟩)(hg:Gr t false τ κ e a cp l)(h0:0<=ix)(h1:ix<(l.length:Int))(hv:v.cells=vs.toArray)(hs:zO P T=some vs.length)(hone:nj vs=true)(hδ:Nat.ble (δ+vs.length) t.size=true)(hnew:∀cs,(∃x,idx l ix=some x/\t.own κ cs x)->t.own κ (splice cs δ vs) x')(hk:∀κ',Step (aG a cp) κ κ'->Gr t false τ κ' e a cp (l.set ix.toNat x')->aN P n c (i+1) Q E κ'):aN P n c i Q E κ:=by
 subst ea;rcases hg.body with⟨_,A⟩ |⟨g,cur,xs,ha,hr,hH,h3,h4,h5,h6,h7,h8,h9⟩
 ·rw[A]at h1;simp at h1;omega
 ·have w:b=g:=by injection ha with ha;injection ha
  subst w;have j:aI τ κ b cur.toList e:=⟨by simpa using hH,by rw[h7];simp,h8,h9⟩;have s:=gu hδ;have f:ix.toNat<l.length:=by omega
  have B:(ix.toNat+1)*t.size<=l.length*t.size:=ii _ f;have m:l.length*t.size<=cur.toList.length:=by have y:cur.toList.length=cp*t.size:=by{simpa using h5};rw[y];exact ii _ h3
  have D:(ix.toNat+1)*t.size=ix.toNat*t.size+t.size:=ij _ _;have k:l[ix.toNat]?=some l[ix.toNat]:=dj f;obtain⟨r,p,q⟩:=hr.get k;have u:=hnew r ⟨l[ix.toNat],by unfold Lf.idx;rw[if_pos h0];exact k,p⟩;have d:Step [b] κ (κ.setB b (splice cur.toList (0+ix.toNat*t.size+δ) vs) e):=ly j;refine JO h (λC G=>by rw[ho];exact tZ<|Ad j hv hs hone om)<|hk _ (d.mono (λx F=>by rw[ga.1 F];exact hE (a:=⟨b,0,none⟩) om)) ⟨by rw[fa];exact hg.most,.inr ⟨b,(splice cur.toList (0+ix.toNat*t.size+δ) vs).toArray,_,rfl,
   (hr.step d).set (t.step d u) f,?_,by rw[fa];exact h3,h4,?_,?_,?_,h8,h9⟩⟩
  ·exact(kI j).obj
  ·rw[gk,pd,au,h5]
  ·rw[fa,ik];exact Za m h6 f q s
  ·exact h7
end
section
variable {M M':List Nat} {κ κ1 κ2:K}
def Step.tr0(h:Step M κ κ1)(s:Step [] κ1 κ2):Step M κ κ2:=h.trans s.nil
def Step.trM(h:Step M κ κ1)(hb:∀b∈M',b∈M\/κ.H.size<=b)(s:Step M' κ1 κ2):Step M κ κ2:=by
 refine⟨gy h.1 s.1,λb a g=>?_,λb a=>?_,λb a e=>?_⟩
 ·have c:=h.2.1 b a g;have d:=s.2.1 b (ib a h.1) (λi=>(hb b i).elim g om);exact⟨d.1.trans c.1,d.2.1.trans c.2.1,d.2.2.trans c.2.2⟩
 ·have c:=h.2.2.1 b a;have d:=s.2.2.1 b<|ib a h.1;exact⟨gy c.1 d.1,λo f=>(d.2 o<|ib f c.1).trans<|c.2 o f⟩
 ·have c:=h.2.2.2 b a e;have d:=s.2.2.2 b (ib a h.1)<|ib e (h.2.2.1 b a).1;exact⟨d.1.trans c.1,d.2.trans c.2⟩
def Step.trB{b}(h:Step M κ κ1)(hb:κ.H.size<=b)(s:Step [b] κ1 κ2):Step M κ κ2:=h.trM (λx a=>.inr (by have:x=b:=(by simpa using a);rw[this];exact hb)) s
def Step.trG(h:Step M κ κ1)(hb:∀b∈M',κ.H.size<=b)(s:Step M' κ1 κ2):Step M κ κ2:=h.trM (λb a=>.inr (hb b a)) s
def Step.of_eq(h:κ=κ1):Step M κ κ1:=h▸Step.refl _ _
def eR{τ:aK}{N i:Nat}(h:τ.1<N):τ≠(N,i):=by
 intro e;rw[e]at h;exact absurd h<|Nat.lt_irrefl _
def iV{τ N i}(h:τ.1<N):((N,i):aK)≠τ:=(eR h).symm
end
section
variable [Fc] [Fb] {P:Program} {n:Nat} {Q:bC} {E:aB} {κ:K}
def bS:∀κ:K,Step [] κ κ:=λ_=>Step.refl _ _
end
section
variable {α:Type} {t:Ty α} {pub:Bool} {τ:aK} {κ:K} {e:TypeId} {a:Option Addr} {c:Nat} {l l' r:List α}
def kO(h:some l'=some r)(hg:Gr t pub τ κ e a c l'):Gr t pub τ κ e a c r:=by injection h with h;rw[←h];exact hg
def pC{cs vs:List Value}(h:cs.length=vs.length):splice cs 0 vs=vs:=by
 apply ce;intro j;rw[mV vs cs 0 j om];simp only[ik,Nat.zero_le,true_and,Nat.sub_zero];split
 ·rfl
 ·rw[dl om,dl om]
def tO(h:l.length<=maxLen):l.length<=9223372036854775807:=by rw[←pJ];exact h
end
section
variable {P:Program} {c:Code} {i:Nat} {E:aB} {T:TypeId} {s r:List UInt8} {w:World}
end
def jw n:0<=IntKind.wrap .u8 n/\IntKind.wrap .u8 n<=255:=by
 unfold IntKind.wrap;simp only[IntKind.bits,IntKind.signed];simp;omega
def iQ(P:Program)(f:Field)(off:Nat):Bool:=(f.name != "_")&&Nat.beq f.offset off&&(match P.underlying f.type with | some (.int _)=>true | _=>false)
def jS(P:Program)(T:TypeId):Bool:=(match P.underlying T with | some (.struct _)=>true | _=>false)&&!P.stoodInHeld T&&!P.eqGuardType P.depth T &&
 (match(P.fieldsOf T).toList with |[f,g]=>iQ P f 0&&iQ P g 1 | _=>false)
section
variable {P:Program}
def jN{f:Field}{off}(h:iQ P f off=true){xs:Array Value}{v}(hv:xs[off]?=some v)w:(part f.type xs f.offset).run P w=.ok v w:=by
 unfold iQ at h;simp only[av]at h;have c:=gt h.1.2;have b:dK P f.type=some false:=by
  unfold dK;have a:=h.2;split at a
  ·rename_i k hk;rw[hk]
  ·cases a
 unfold part;simp[pI b,c,hv]
def tc{f:Field}{off}(h:iQ P f off=true)d(k:IntKind)a b w:(Op.equalIn (d+1) f.type (.int k a) (.int k b)).run P w=.ok (a == b) w:=by
 unfold iQ at h;simp only[av]at h;have c:=h.2;split at c
 ·rename_i k' hk;exact run_equalIn_int w d f.type k k' a b hk
 ·cases c
theorem Jl{T:TypeId}(h:jS P T=true)(k1 k2:IntKind)a b a' b' w:
  (Op.equalIn 10000 T (.agg #[.int k1 a,.int k2 b]) (.agg #[.int k1 a',.int k2 b'])).run P w=.ok (decide (a=a')&&decide (b=b')) w:=by
 unfold jS at h;simp only[av,bb]at h;obtain⟨⟨⟨l,n⟩,q⟩,c⟩:=h;have p:P.underlying T=some (.struct (P.fieldsOf T)):=by
  unfold Program.fieldsOf;split at l
  ·rename_i fs hfs;simp[hfs]
  ·cases l
 rw[show(10000:Nat)=9999+1 from rfl,run_equalIn_agg w 9999 T _ _ p n];split at c
 ·rename_i f g hfg;rw[hfg];simp only[av]at c;obtain⟨d,j⟩:=c;have e:f.name ≠ "_" := by
   grind [iQ]
  have i:g.name ≠ "_" := by
   grind [iQ]
  simp only[Op.eqFields,if_pos e,if_pos i,be];rw[jN d (v:=.int k1 a) rfl];simp only[bd];rw[jN d (v:=.int k1 a') rfl];simp only[bd];rw[show(9999:Nat)=9998+1 from rfl,tc d];simp only[bd];by_cases k:a=a'
  ·subst k;simp only[BEq.rfl,bc,ba,if_false,decide_true,Bool.true_and,be];rw[jN j (v:=.int k2 b) rfl];simp only[bd];rw[jN j (v:=.int k2 b') rfl];simp only[bd];rw[tc j];simp only[bd];by_cases m:b=b'
   ·subst m;simp
   ·simp[m]
  ·simp[k]
 ·cases c
def lw{T:TypeId}{E c i k1 k2 a b a' b' w}(h:execOp (ev E) (zw c i)=aW (do eqGuard .eql T (.tmp 0) (.tmp 0) (.agg #[.int k1 a,.int k2 b]) (.agg #[.int k1 a',.int k2 b']);binOp .eql T (.agg #[.int k1 a,.int k2 b]) (.agg #[.int k1 a',.int k2 b'])))(hT:jS P T=true):(execOp (ev E) (zw c i)).run P w=.ok (.value (.bool (decide (a=a')&&decide (b=b')))) w:=by
 rw[h];refine zI ?_;have hm:P.eqGuardType P.depth T=false:=by unfold jS at hT;simp only[av,bb]at hT;exact hT.1.2
 rw[be,run_eqGuard_agg _ _ _ _ _ _ _ hm];simp only[bd];rw[run_eql_struct,Jl hT];rfl
def Zw{T:TypeId}{E c i k1 k2 a b a' b' w}(h:execOp (ev E) (zw c i)=aW (do eqGuard .neq T (.tmp 0) (.tmp 0) (.agg #[.int k1 a,.int k2 b]) (.agg #[.int k1 a',.int k2 b']);binOp .neq T (.agg #[.int k1 a,.int k2 b]) (.agg #[.int k1 a',.int k2 b'])))(hT:jS P T=true):(execOp (ev E) (zw c i)).run P w=.ok (.value (.bool (!(decide (a=a')&&decide (b=b'))))) w:=by
 rw[h];refine zI ?_;have hm:P.eqGuardType P.depth T=false:=by unfold jS at hT;simp only[av,bb]at hT;exact hT.1.2
 rw[be,run_eqGuard_agg _ _ _ _ _ _ _ hm];simp only[bd];rw[run_neq_struct,Jl hT];rfl
end
def fY{α:Type}{l r:List α}{x:α}{i}(h:some (l.set i x)=some r):r.length=l.length:=by
 injection h with h;rw[←h,fa]
def zk{N M i j}(h:Nat.beq i j=false):((N,i):aK)≠(M,j):=by
 intro e;have:i=j:=congrArg Prod.snd e;subst this;simp at h
def iS[Fb]{A B:Array Value}{R:Value->K->Prop}{P f κ}(h:A=B)(hf:Fn P f B κ R):Fn P f A κ R:=by rw[h];exact hf
def fL(P:Program)(f:FuncId):Bool:=
 match P.funcs[f]? with
 | some fn=>!(fn.name == "runtime.NumGoroutine")&&fn.body.isSome
 | none=>false
def iF{args:Array Value}{P f w r}(h:r=(callFunc f args).run P w)(hf:fL P f=true):r=.ok (.enter f args) w:=by
 rw[h];unfold fL at hf;split at hf
 ·rename_i fn hfn;simp only[av,bb]at hf;unfold callFunc;have c:fn.body≠none:=by intro a;rw[a]at hf;simp at hf
  have b:¬fn.name = "runtime.NumGoroutine" := by simpa using hf.1
  simp[hfn,b,c]
 ·cases hf
def GV{s:Sem Next}{P E c i w r}(h:execOp (ev E) (zw c i)=s)(hs:s.run P w=r):(execOp (ev E) (zw c i)).run P w=r:=by
 rw[h];exact hs
theorem Hr{α:Type}{a b c d x:α}{ix}(h:idx [a,b,c,d] ix=some x):(ix=0/\x=a)\/(ix=1/\x=b)\/(ix=2/\x=c)\/(ix=3/\x=d):=by
 obtain⟨g,e,f⟩:=iO h
 grind
def aI.tlt{κ:K}{T:TypeId}{τ b cs}(h:aI τ κ b cs T):τ.1<κ.H.size:=Nat.lt_of_le_of_lt h.ge h.lt
section
variable {b x:Nat} {M1 M2 M:List Nat} {l:List Nat} {N:Nat}
def Cw(h1:b∉M1)(h2:b∉M2):b∉M1++M2:=λh=>(fj.1 h).elim h1 h2
def Cs(h1:∀g∈l,g∉M1)(h2:∀g∈l,g∉M2):∀g∈l,g∉M1++M2:=λg a=>Cw (h1 g a) (h2 g a)
def hQ(h1:∀g∈M1,g∈M\/N<=g)(h2:∀g∈M2,g∈M\/N<=g):∀g∈M1++M2,g∈M\/N<=g:=λg a=>(fj.1 a).elim (h1 g) (h2 g)
def ka(h:x∈M):∀g∈[x],g∈M\/N<=g:=λg a=>.inl (by rw[ga.1 a];exact h)
def um(h:N<=x):∀g∈[x],g∈M\/N<=g:=λg a=>.inr (by rw[ga.1 a];exact h)
def lT(h:∀g∈l,N<=g):∀g∈l,g∈M\/N<=g:=λg a=>.inr (h g a)
end
def gG(c:Code)(i:Nat):List Nat:=(zw c i).looksAt (opsOf c)
def lL(c:Code)(i:Nat):Bool:=
 match(zw c i).op with
 | .select _ _=>true
 | _=>false
def BE(c:Code)(k:Nat):Bool:=(List.range k).all λi=>!lL c i&&(gG c i).all λt=>((List.range k).all λj=>dstOf c j != t)||((List.range i).any λj=>(dstOf c j == t)&&cQ c i j)
def td{E E':aB}{c i}(h:∀t∈gG c i,E t=E' t):cD c i E=cD c i E':=by
 unfold cD;cases hg:(zw c i).guard with
 | none=>rfl
 | some g=>
  obtain⟨j,w⟩:=g;simp only[];cases hd:((opsOf c)[j]?).bind (·.dst)with
  | none=>rfl
  | some t=>
   simp only[];have:t∈gG c i:=by
    unfold gG Oper.looksAt;rw[hg];simp[hd]
   rw[h t this]
def AM{E E':aB}{c i}(hs:lL c i=false)(h:∀t∈gG c i,E t=E' t):execOp (ev E) (zw c i)=execOp (ev E') (zw c i):=by
 refine execOp_congr _ (λcs b e=>by unfold lL at hs;rw[e]at hs;cases hs) λx a=>?_;cases x with
 | tmp t=>
  refine h t ?_;unfold gG Oper.looksAt;exact fp _<|List.mem_filterMap.2 ⟨.tmp t,by simpa using a,rfl⟩
 | _=>rfl
def QC[Fb](P:Program)(c:Code):Nat->Nat->aB->K->(aB->Prop)->Prop
 | 0,_,E,_,R=>R E
 | m+1,i,E,κ,R=>
  (cD c i E=true/\∃v,(∀C d,(execOp (ev E) (zw c i)).run P (W C κ d)=.ok (.value v) (W C κ d))/\QC P c m (i+1) (aQ E (dstOf c i) v) κ R) \/
  (cD c i E=false/\QC P c m (i+1) (aQ E (dstOf c i) undef) κ R) \/
  (cD c i E=true/\∃v f args,(∀C d,(execOp (ev E) (zw c i)).run P (W C κ d)=.ok (.enter f args) (W C κ d))/\Fn P f args κ (λu κ'=>κ=κ'/\u=v)/\QC P c m (i+1) (aQ E (dstOf c i) v) κ R)
def QC.out[Fb]{R:aB->Prop}{P c κ}:∀m(i:Nat)(E:aB),QC P c m i E κ R->
  ∃(vs:Nat->Value)(a:Nat->aB),a i=E/\R (a (i+m))/\∀j,i<=j->j<i+m->a (j+1)=aQ (a j) (dstOf c j) (vs j)/\
   bA P Eq c j (a j) κ (λv _=>v=vs j)
 | 0,i,E,h=>⟨λ_=>undef,λ_=>E,rfl,h,λj p l=>absurd l om⟩
 | m+1,i,E,h=>by
  have step:∀v,bA P Eq c i E κ (λu _=>u=v)->QC P c m (i+1) (aQ E (dstOf c i) v) κ R->
    ∃(vs:Nat->Value)(a:Nat->aB),a i=E/\R (a (i+(m+1)))/\∀j,i<=j->j<i+(m+1)->a (j+1)=aQ (a j) (dstOf c j) (vs j)/\
     bA P Eq c j (a j) κ (λv _=>v=vs j):=by
   intro v q b;obtain⟨vs,a,p,l,s⟩:=QC.out m (i+1) _ b;refine⟨λj=>if j=i then v else vs j,λj=>if j=i then E else a j,by simp,?_,λj r t=>?_⟩
   ·have e:i+(m+1)=i+1+m:=by omega
    dsimp only;rw[if_neg om,e];exact l
   ·by_cases g:j=i
    ·subst g;dsimp only;rw[if_neg om,if_pos rfl,if_pos rfl];exact⟨p,q⟩
    ·dsimp only;rw[if_neg om,if_neg g,if_neg g];exact s j om om
  rcases h with⟨k,v,n,b⟩ |⟨k,b⟩ |⟨k,v,f,args,n,hf,b⟩
  ·exact step v (c_ (λ_=>rfl) v k n rfl) b
  ·exact step undef (Sn k rfl) b
  ·refine step v (BB k λC d=>?_) b;rw[n];exact⟨κ,d,rfl,rfl,hf.mono λu κ' ⟨e1,e2⟩=>⟨e1,e2⟩⟩
def jv{E:aB}{t:Nat}{v:Value}{s}:aQ E t v s=if s=t then v else E s:=by
 unfold aQ;by_cases h:s=t
 ·subst h;simp
 ·rw[if_neg h];cases hb:Nat.beq s t with
  | false=>rfl
  | true=>exact absurd (gt hb) h
section
variable [Fc] [Fb] {P:Program} {n:Nat} {c:Code} {Q:bC} {E:aB} {κ:K} {i k:Nat}
theorem QY{c0 p}k(hk:QC P (sub c0 p) k 0 E κ (λe=>aN P n (sub c0 p) k Q e κ))(h:eD (sub c0 p)=some true:=by kernel_rfl)(hm:P.follows .mixedOrders=true:=by kernel_rfl)(hB:jY (sub c0 p) n k=true:=by kernel_rfl)(hrd:BE (sub c0 p) k=true:=by kernel_rfl):aO P n (sub c0 p) Q E κ:=by
 obtain⟨vs,l,H,A,x⟩:=QC.out k 0 E hk;rw[ik]at A;have b:∀i,i<k->∀j,j<i->dstOf (sub c0 p) j≠dstOf (sub c0 p) i:=by
  intro i hi j c;unfold jY at hB;simp only[av]at hB;have B:=hB.1.1.2;unfold Cj at B;have s:=bj.1 B i<|fz.2 hi;simp only[av]at s;have:=bj.1 s.2 j<|fz.2 c;simpa using this
 have q:∀i j,i<k->j<k->i≠j->dstOf (sub c0 p) i≠dstOf (sub c0 p) j:=by
  intro i j hi c r;rcases ie r with h | h
  ·exact b j c i h
  ·exact(b i hi j h).symm
 have F:∀i,i<=k->∀t,(∀j,j<i->t≠dstOf (sub c0 p) j)->l i t=E t:=by
  intro i
  induction i with
  | zero=>intro _ t _;rw[H]
  | succ i ih=>
   intro hi t g;rw[(x i om om).1,jv,if_neg<|g i om];exact ih om t λj c=>g j om
 have G:∀i,i<=k->∀j,j<i->l i (dstOf (sub c0 p) j)=vs j:=by
  intro i
  induction i with
  | zero=>intro _ j c;omega
  | succ i ih=>
   intro hi j c;rw[(x i om om).1,jv];by_cases f:j=i
   ·subst f;rw[if_pos rfl]
   ·rw[if_neg<|q j i om om f];exact ih om j om
 have w:∀i:Nat,Rl k i (Eq:K->K->Prop) Eq=Eq:=λi=>by unfold Rl;cases Nat.beq i k<;>rfl
 refine Pa k Eq Eq (λ_=>rfl) (λ_ _ _=>Eq.trans) (λ_ _ _=>Eq.trans) (λ_ _ h=>h) k (λj v _=>v=vs j) h hm hB ?_ ?_ ?_
 ·intro i v κ1 κ2 _ hS _;exact hS
 ·intro i hi e κ' m y D;rw[w]at m ⊢;subst m;have a:=bj.1 hrd i<|fz.2 hi;simp only[av,bb]at a;have d:∀t∈gG (sub c0 p) i,e t=l i t:=by
   intro t g;have s:=bj.1 a.2 t g
   grind
  have C:=(x i om om).2;unfold bA at C ⊢;rw[td d,AM a.1 d];exact C
 ·intro e κ' m y u;subst m;have:e=l k:=by
   grind
  rw[this];exact A
def bV[Fc][Fb](P:Program)(n:Nat)(c:Code)(k i:Nat)(Q:bC)(E:aB)(κ:K):Prop:=QC P c (k - i) i E κ (λE'=>aN P n c k Q E' κ)
def Qd{c0 p}k(hk:bV P n (sub c0 p) k 0 Q E κ)(h:eD (sub c0 p)=some true:=by kernel_rfl)(hm:P.follows .mixedOrders=true:=by kernel_rfl)(hB:jY (sub c0 p) n k=true:=by kernel_rfl)(hrd:BE (sub c0 p) k=true:=by kernel_rfl):aO P n (sub c0 p) Q E κ:=QY k hk h hm hB hrd
def dst(c:Code)(k i:Nat)(E:aB)(d:Nat):Bool:=Nat.blt i k&&cD c i E&&Nat.beq (dstOf c i) d
def BN(c:Code)(k i:Nat)(E:aB)(d:Nat):Bool:=Nat.blt i k&&!cD c i E&&Nat.beq (dstOf c i) d
def kL{d}v(h:dst c k i E d=true)(hr:∀C d0,(execOp (ev E) (zw c i)).run P (W C κ d0)=.ok (.value v) (W C κ d0))(hk:bV P n c k (i+1) Q (aQ E d v) κ):bV P n c k i Q E κ:=by
 unfold dst at h;simp only[av]at h;have a:i<k:=by have:=h.1.1;simpa[Nat.blt,ia]using this
 have hd:=gt h.2;subst hd;unfold bV at *;have e:k - i=(k - (i+1))+1:=by omega
 rw[e];exact .inl ⟨h.1.2,v,hr,hk⟩
def QV{d}(h:BN c k i E d=true)(hk:bV P n c k (i+1) Q (aQ E d undef) κ):bV P n c k i Q E κ:=by
 unfold BN at h;simp only[av,bb]at h;have a:i<k:=by have:=h.1.1;simpa[Nat.blt,ia]using this
 have hd:=gt h.2;subst hd;unfold bV at *;have e:k - i=(k - (i+1))+1:=by omega
 rw[e];exact .inr<|.inl ⟨h.1.2,hk⟩
def OZ{args:Array Value}{d f v}(h:dst c k i E d=true)(hr:∀w,(execOp (ev E) (zw c i)).run P w=.ok (.enter f args) w)(hf:Fn P f args κ (λu κ'=>κ=κ'/\u=v))(hk:bV P n c k (i+1) Q (aQ E d v) κ):bV P n c k i Q E κ:=by
 unfold dst at h;simp only[av]at h;have a:i<k:=by have:=h.1.1;simpa[Nat.blt,ia]using this
 have hd:=gt h.2;subst hd;unfold bV at *;have e:k - i=(k - (i+1))+1:=by omega
 rw[e];exact .inr<|.inr ⟨h.1.2,v,f,args,λC d=>hr _,hf,hk⟩
def RH(h:Nat.beq i k=true)(hk:aN P n c i Q E κ):bV P n c k i Q E κ:=by
 have:=gt h;subst this;unfold bV;rw[Nat.sub_self];exact hk
end
def Fn.ex[Fb]{args:Array Value}{R:Value->K->Prop}{P f κ}(h:Fn P f args κ R):∃v κ',R v κ':=by
 have o:Os:=by constructor<;>first | exact #[] | exact 0 | exact none | exact false | exact[] | exact ByteArray.empty | exact default
 have C:Cx:=⟨o,λ_ _=>0,#[],Fb.b0,Fb.h0⟩;obtain⟨e,w',b,⟨v,κ',c,_,_,a⟩,_⟩:=h C 0 [];exact⟨v,κ',a⟩
section
variable [Fc] [Fb] {P:Program} {n:Nat} {c:Code} {i k:Nat} {Q:bC} {E:aB} {κ:K}
def op d v(hk:aN P n c (i+1) Q (aQ E d v) κ)(h:st c i n E (some d)=true:=by kernel_rfl)(hr:∀w,(execOp (ev E) (zw c i)).run P w=.ok (.value v) w:=by intro _;kernel_rfl):aN P n c i Q E κ:=Bg v h hr hk
def oq d v(hr:∀w,(execOp (ev E) (zw c i)).run P w=.ok (.value v) w)(hk:aN P n c (i+1) Q (aQ E d v) κ)(h:st c i n E (some d)=true:=by kernel_rfl):aN P n c i Q E κ:=Bg v h hr hk
def os d(hk:aN P n c (i+1) Q (aQ E d undef) κ)(h:sk c i n E d=true:=by kernel_rfl):aN P n c i Q E κ:=Ry h hk
def o1 d T v{b off}(hv:κ.cell b off=some v)(hk:aN P n c (i+1) Q (aQ E d v) κ)(h:st c i n E (some d)=true:=by kernel_rfl)(ho:execOp (ev E) (zw c i)=aW (Instr.loadAt T (.pointer (some ⟨b,off,none⟩))):=by kernel_rfl)(hT:dK P T=some false:=by kernel_rfl):aN P n c i Q E κ:=Py h ho hT hv hk
def oN d T(cs:List Value){b off}(hv:kM κ b off cs)(hk:aN P n c (i+1) Q (aQ E d (.agg cs.toArray)) κ)(h:st c i n E (some d)=true:=by kernel_rfl)(ho:execOp (ev E) (zw c i)=aW (Instr.loadAt T (.pointer (some ⟨b,off,none⟩))):=by kernel_rfl)(hT:dK P T=some true:=by kernel_rfl)(hs:zO P T=some cs.length:=by kernel_rfl):aN P n c i Q E κ:=Px h ho hT hs hv hk
def oi(d T el sz ln cp:Nat)(k:IntKind)(ix:Int){b off:Nat}{a:Option Addr}(ea:a=some ⟨b,off,none⟩)(h0:0<=ix)(h1:ix<ln)(hk:aN P n c (i+1) Q (aQ E d (.pointer (some ⟨b,off+ix.toNat*sz,none⟩))) κ)(h:st c i n E (some d)=true:=by kernel_rfl)(ho:execOp (ev E) (zw c i)=aW (Instr.indexAt T (.slice a ln cp) (.int k ix)):=by kernel_rfl)(hT:zK P T=some el:=by kernel_rfl)(hs:zO P el=some sz:=by kernel_rfl):aN P n c i Q E κ:=Pz ea h ho hT hs h0 h1 hk
def dp d v(hk:bV P n c k (i+1) Q (aQ E d v) κ)(h:dst c k i E d=true:=by kernel_rfl)(hr:∀w,(execOp (ev E) (zw c i)).run P w=.ok (.value v) w:=by intro _;kernel_rfl):bV P n c k i Q E κ:=kL v h (λ_ _=>hr _) hk
def dq d v(hr:∀w,(execOp (ev E) (zw c i)).run P w=.ok (.value v) w)(hk:bV P n c k (i+1) Q (aQ E d v) κ)(h:dst c k i E d=true:=by kernel_rfl):bV P n c k i Q E κ:=kL v h (λ_ _=>hr _) hk
def ds d(hk:bV P n c k (i+1) Q (aQ E d undef) κ)(h:BN c k i E d=true:=by kernel_rfl):bV P n c k i Q E κ:=QV h hk
def d1 d T v{b off}(hv:κ.cell b off=some v)(hk:bV P n c k (i+1) Q (aQ E d v) κ)(h:dst c k i E d=true:=by kernel_rfl)(ho:execOp (ev E) (zw c i)=aW (Instr.loadAt T (.pointer (some ⟨b,off,none⟩))):=by kernel_rfl)(hT:dK P T=some false:=by kernel_rfl):bV P n c k i Q E κ:=kL v h (λC a=>by rw[ho];exact zI<|pA hT hv) hk
def dN d T(cs:List Value){b off}(hv:kM κ b off cs)(hk:bV P n c k (i+1) Q (aQ E d (.agg cs.toArray)) κ)(h:dst c k i E d=true:=by kernel_rfl)(ho:execOp (ev E) (zw c i)=aW (Instr.loadAt T (.pointer (some ⟨b,off,none⟩))):=by kernel_rfl)(hT:dK P T=some true:=by kernel_rfl)(hs:zO P T=some cs.length:=by kernel_rfl):bV P n c k i Q E κ:=kL _ h (λC a=>by rw[ho];exact zI<|sX hT hs hv) hk
def di(d T el sz ln cp:Nat)(kd:IntKind)(ix:Int){b off:Nat}{a:Option Addr}(ea:a=some ⟨b,off,none⟩)(h0:0<=ix)(h1:ix<ln)(hk:bV P n c k (i+1) Q (aQ E d (.pointer (some ⟨b,off+ix.toNat*sz,none⟩))) κ)(h:dst c k i E d=true:=by kernel_rfl)(ho:execOp (ev E) (zw c i)=aW (Instr.indexAt T (.slice a ln cp) (.int kd ix)):=by kernel_rfl)(hT:zK P T=some el:=by kernel_rfl)(hs:zO P el=some sz:=by kernel_rfl):bV P n c k i Q E κ:=by
 subst ea;exact kL _ h (λC e=>by rw[ho];exact zI (by rw[Ay hT hs h0 h1,js])) hk
def dc{args:Array Value}{B:Prop}{f v}d(hf:Fn P f args κ (λu κ'=>κ=κ'/\u=v/\B))(hk:B->bV P n c k (i+1) Q (aQ E d v) κ)(h:dst c k i E d=true:=by kernel_rfl)(hr:∀w,(execOp (ev E) (zw c i)).run P w=.ok (.enter f args) w:=by intro _;kernel_rfl):bV P n c k i Q E κ:=OZ h hr (hf.mono λ_ _ h=>⟨h.1,h.2.1⟩) (hk (by obtain⟨_,_,h⟩:=hf.ex;exact h.2.2))
def qh{args:Array Value}{f v}d(hf:Fn P f args κ (λu κ'=>κ=κ'/\u=v))(hk:bV P n c k (i+1) Q (aQ E d v) κ)(h:dst c k i E d=true:=by kernel_rfl)(hr:∀w,(execOp (ev E) (zw c i)).run P w=.ok (.enter f args) w:=by intro _;kernel_rfl):bV P n c k i Q E κ:=OZ h hr hf hk
def de(hk:aN P n c i Q E κ)(h:Nat.beq i k=true:=by kernel_rfl):bV P n c k i Q E κ:=RH h hk
def aT{α:Type}{A B o:Option α}d b(hr:(if b=true then A else B)=o)(hf:b=false->B=o->aN P n c (i+1) Q (aQ E d (.bool false)) κ)(ht:b=true->A=o->aN P n c (i+1) Q (aQ E d (.bool true)) κ)(h:st c i n E (some d)=true:=by kernel_rfl)(hx:∀w,(execOp (ev E) (zw c i)).run P w=.ok (.value (.bool b)) w:=by intro _;kernel_rfl):aN P n c i Q E κ:=by
 cases b with
 | false=>exact Bg _ h hx<|hf rfl<|uD rfl hr
 | true=>exact Bg _ h hx<|ht rfl<|uI rfl hr
def h_{α:Type}{A B o:Option α}d b(hr:(if b=true then A else B)=o)(hf:b=false->B=o->bV P n c k (i+1) Q (aQ E d (.bool false)) κ)(ht:b=true->A=o->bV P n c k (i+1) Q (aQ E d (.bool true)) κ)(h:dst c k i E d=true:=by kernel_rfl)(hx:∀w,(execOp (ev E) (zw c i)).run P w=.ok (.value (.bool b)) w:=by intro _;kernel_rfl):bV P n c k i Q E κ:=by
 cases b with
 | false=>exact kL _ h (λ_ _=>hx _)<|hf rfl<|uD rfl hr
 | true=>exact kL _ h (λ_ _=>hx _)<|ht rfl<|uI rfl hr
def oe(hq:Q .normal E κ)(h:decide ((opsOf c).size<=i)=true:=by kernel_rfl):aN P n c i Q E κ:=tT h hq
def ot{c1}(hq:aO P n c1 Q E κ)(h:decide ((opsOf c).size<=i)=true:=by kernel_rfl):aN P n c i (gX P n c1 Q) E κ:=tT h hq
def cs{c p}(hx:aO P n (sub c (0::p)) (gX P n (sub c (1::p)) Q) E κ)(h:iz (sub c p)=true:=by kernel_rfl):aO P n (sub c p) Q E κ:=Jd h hx
def cr{c p}(hx:aN P n (sub c p) 0 Q E κ)(h:eD (sub c p)=some false:=by kernel_rfl):aO P n (sub c p) Q E κ:=Hu h hx
def cd{c p}k(hx:bV P n (sub c p) k 0 Q E κ)(h:eD (sub c p)=some true:=by kernel_rfl)(hm:P.follows .mixedOrders=true:=by kernel_rfl)(hB:jY (sub c p) n k=true:=by kernel_rfl)(hrd:BE (sub c p) k=true:=by kernel_rfl):aO P n (sub c p) Q E κ:=Qd k hx h hm hB hrd
def aJ{c p}(hx:aN P n (sub c (0::p)) 0 (gX P n (sub c (1::p)) Q) E κ)(h:iz (sub c p)=true:=by kernel_rfl)(h2:eD (sub c (0::p))=some false:=by kernel_rfl):aO P n (sub c p) Q E κ:=Jd h (Hu h2 hx)
def cF{c1 p}(hx:aN P n (sub c1 p) 0 Q E κ)(h:decide ((opsOf c).size<=i)=true:=by kernel_rfl)(h2:eD (sub c1 p)=some false:=by kernel_rfl):aN P n c i (gX P n (sub c1 p) Q) E κ:=tT h (Hu h2 hx)
def aD{c1 p}(hx:aN P n (sub c1 (0::p)) 0 (gX P n (sub c1 (1::p)) Q) E κ)(h:decide ((opsOf c).size<=i)=true:=by kernel_rfl)(h1:iz (sub c1 p)=true:=by kernel_rfl)(h2:eD (sub c1 (0::p))=some false:=by kernel_rfl):
  aN P n c i (gX P n (sub c1 p) Q) E κ:=tT h (aJ hx h1 h2)
def cc{α:Type}{A B o:Option α}{c p}b(hr:(if b=true then A else B)=o)(ht:b=true->A=o->aO P n (sub c (0::p)) Q E κ)(hf:b=false->B=o->aO P n (sub c (1::p)) Q E κ)(h:nc (sub c p)=true:=by kernel_rfl)(hb:ev E (pW (sub c p))=.bool b:=by kernel_rfl):aO P n (sub c p) Q E κ:=HY b h hb (λe=>ht e (uI e hr)) (λe=>hf e (uD e hr))
def ct{c p}(ht:aO P n (sub c (0::p)) Q E κ)(h:nc (sub c p)=true:=by kernel_rfl)(hb:ev E (pW (sub c p))=.bool true:=by kernel_rfl):aO P n (sub c p) Q E κ:=Zn h hb ht
def cf{c p}(ht:aO P n (sub c (1::p)) Q E κ)(h:nc (sub c p)=true:=by kernel_rfl)(hb:ev E (pW (sub c p))=.bool false:=by kernel_rfl):aO P n (sub c p) Q E κ:=PP h hb ht
def ck{c p}(hq:Q .normal E κ)(h:BI (sub c p)=true:=by kernel_rfl):aO P n (sub c p) Q E κ:=O_ h hq
def aF{c c1 p}(hq:aO P n c1 Q E κ)(h:BI (sub c p)=true:=by kernel_rfl):aO P n (sub c p) (gX P n c1 Q) E κ:=O_ h hq
def cx{c p}id(hq:Q (.exit id) E κ)(h:IA (sub c p)=some id:=by kernel_rfl):aO P n (sub c p) Q E κ:=Sf h hq
def cb{c p}id(hx:aO P n (sub c (0::p)) (ir id Q) E κ)(h:ua (sub c p)=some id:=by kernel_rfl):aO P n (sub c p) Q E κ:=Qe h hx
def az{c p}(hq:Q .ret E κ)(h:Ck (sub c p)=true:=by kernel_rfl):aO P n (sub c p) Q E κ:=RI h hq
def rt{fn:Func}{R:Value->K->Prop}(rs:List ResultVar)vs(h:lV P E κ rs vs)(hR:R (m' vs) κ)(hr:fn.results=rs.toArray:=by kernel_rfl):kN P fn R .ret E κ:=S' rs vs hr h hR
def rn{fn:Func}{R:Value->K->Prop}(rs:List ResultVar)vs(h:lV P E κ rs vs)(hR:R (m' vs) κ)(hr:fn.results=rs.toArray:=by kernel_rfl):kN P fn R .normal E κ:=RN rs vs hr h hR
def bo{id id'}(h:Q (.exit id') E κ)(hne:Nat.beq id' id=false:=by kernel_rfl):ir id Q (.exit id') E κ:=XV hne h
def aL{args:Array Value}{R:Value->K->Prop}{f}d(hf:Fn P f args κ R)(hk:∀v κ',R v κ'->aN P n c (i+1) Q (aQ E d v) κ')(h:st c i n E (some d)=true:=by kernel_rfl)(hr:∀w,(execOp (ev E) (zw c i)).run P w=.ok (.enter f args) w:=by intro _;kernel_rfl):aN P n c i Q E κ:=Rz h hr hf hk
end
def aH[Fb]{P:Program}{fn:Func}{args:Array Value}{R:Value->K->Prop}{f κ}n M(hf:P.funcs[f]?=some fn)(hn:fn.ntmps=n)(h:Step M κ κ->aO P n (sub (zC fn) []) (kN P fn R) (nu args) κ)(hb:fn.body=some (zC fn):=by kernel_rfl)(ha:Nat.ble args.size n=true:=by kernel_rfl):Fn P f args κ R:=QN hf hb hn (gu ha) (h<|Step.refl _ _)
end Go.Lf
namespace Go.Lf
open Go Go.Conc
def TM{α:Type}(x:α)(l:List α):(x::l).toArray.extract 1 (x::l).toArray.size=l.toArray:=by
 apply Array.ext
 ·simp
 ·intro i a b;simp
def km[Fb](P:Program)(n:Nat)(c:Code)(i:Nat)(Q:bC)(E:aB)(κ:K):Prop:=∀C d a,Fits n a E->∀b k cs,∃e a' w',dZ n C Q e a' w'/\Arrives P (lone (b.at a (.inRegion (opsOf c) (List.range' i<|(opsOf c).size - i)::k)) cs<|W C κ d) b k cs e a' w'
section
variable {P:Program} {n:Nat} {c:Code} {i:Nat} {Q:bC} {E:aB} {κ:K}
def Zr(h:aN P n c i Q E κ):km P n c i Q E κ:=λC d a f b k cs=>by
 obtain⟨e,a',w',q,r⟩:=wp_opsIn (F:=Fence.wide) (n:=0) _ _ _ (h C d a f) {b with roundOf:=none} k cs rfl trivial (room_wide _);exact⟨e,a',w',q,(arrivesIn_iff (b:={b with roundOf:=none}) (λ_ _=>stepsIn_wide) rfl).1 r⟩
def sr{c p}(hx:km P n (sub c p) 0 Q E κ)(h:eD (sub c p)=some false:=by kernel_rfl):aO P n (sub c p) Q E κ:=by
 generalize sub c p=s at *;cases s<;>simp[eD]at h;subst h;intro C d a g;refine wpIn_wide.2 λb k cs=>?_;obtain⟨e,a',w',i,f⟩:=hx C d a g b k cs;refine⟨e,a',w',i,.of_steps (.one step_region) ?_⟩;simpa[List.range_eq_range',opsOf]using f
def sp d v(hk:km P n c (i+1) Q (aQ E d v) κ)(h:st c i n E (some d)=true:=by kernel_rfl)(hr:∀w,(execOp (ev E) (zw c i)).run P w=.ok (.value v) w:=by intro _;kernel_rfl):km P n c i Q E κ:=by
 obtain⟨l,q,s,r⟩:=iU h;intro C m a j b k cs;obtain⟨e,a',w',p,g⟩:=hk C m _ (j.put (r d rfl) v) b k cs;refine⟨e,a',w',p,.of_steps (.one<|step_lone_go ?_) g⟩;rw[tv l];have t:=stepG_op (P:=P) (b:=b) (k:=k) (cs:=cs) (w:=W C κ m) (rest:=List.range' (i+1)<|(opsOf c).size - (i+1)) (a:=a) (jR l) (by rw[jP j];exact q);rw[t,j.eval];have f:(b.at a (.inRegion (opsOf c) (i::List.range' (i+1) ((opsOf c).size - (i+1)))::k)).finish v=b.at (a.put (some d) v) (.inRegion (opsOf c) (List.range' (i+1)<|(opsOf c).size - (i+1))::k):=by
  rw[Frame.finish_at,jR l];simp only[im,s]
 rw[←f];simp[stepG.apply,hr]
def se(hq:Q .normal E κ)(h:decide ((opsOf c).size<=i)=true:=by kernel_rfl):km P n c i Q E κ:=Zr (tT h hq)
def Om{b:Frame}{a:Act}{ops:Array Oper}{cases:Array CommCase}{P k cs i rest o blocking shape w w'}(ho:ops[i]?=some o)(hw:Region.wanted o (yielded ops a.tmps)=true)(hr:(execOp a.eval o).run P w=.ok (.comm cases blocking shape) w'):
  ∃es,stepG P true (G (b.at a (.inRegion ops (i::rest)::k)) cs) w=.comm (G (b.at a (.inRegion ops (i::rest)::k)) cs) cases blocking shape w' es:=by
 rw[stepG_oper ho hw];by_cases c:b.kind=.early
 ·exact⟨_,by simp[stepG.apply,hr,G,Frame.at,c,GStep.after];rfl⟩
 ·exact⟨_,by simp[stepG.apply,hr,G,Frame.at,c,GStep.after];rfl⟩
structure dY(τ:aK)(κ:K)(b cap:Nat)(l:List Int):Prop where
 obj:∃s r,κ.H[b]?=some (.chan cap (l.map λn=>Value.int .i64 n).toArray false s r false)
 fr:κ.fr b=0
 tag:κ.tag b=τ
 ge:τ.1<=b
def dY.lt{κ:K}{τ b cap l}(h:dY τ κ b cap l):b<κ.H.size:=by
 obtain⟨s,r,a⟩:=h.obj;exact(ai.1 a).1
def dY.step{M τ κ κ' b cap l}(s:Step M κ κ')(hm:b∉M)(h:dY τ κ b cap l):dY τ κ' b cap l:=by
 have hs:=s.2.1 b h.lt hm;obtain⟨x,y,a⟩:=h.obj;exact⟨⟨x,y,hs.1.trans a⟩,hs.2.1.trans h.fr,hs.2.2.trans h.tag,h.ge⟩
def K.setO(κ:K)(b:Nat)(o:Obj):K:=⟨κ.H.setIfInBounds b o,κ.fr,κ.tag⟩
def pH{κ:K}{b o}(hf:κ.fr b=0):Step [b] κ (κ.setO b o):=by
 refine⟨by simp[K.setO],λx d hm=>⟨?_,rfl,rfl⟩,λx d=>⟨gv _,λg f=>?_⟩,λx d c=>⟨rfl,?_⟩⟩
 ·simp only[K.setO];have:b≠x:=λe=>hm (by simp[e]);rw[am this]
 ·by_cases a:b=x
  ·subst a;rw[hf]at f;omega
  ·unfold K.cell K.setO;rw[am a]
 ·have a:b≠x:=λe=>by rw[←e,hf]at c;omega
  unfold K.shp K.setO;rw[am a]
def Jh{κ:K}{l':List Int}{τ b cap l}(h:dY τ κ b cap l)s r:dY τ (κ.setO b (.chan cap (l'.map λn=>Value.int .i64 n).toArray false s r false)) b cap l':=⟨⟨s,r,by simp[K.setO,h.lt]⟩,h.fr,h.tag,h.ge⟩
def Oo[Fb]{buf:Array Value}{C d b cap s r cl tm}:(W C κ d).setChan b cap buf cl s r tm=W C (κ.setO b (.chan cap buf cl s r tm)) d:=rfl
def JX{l:List Int}{τ b cap x z}(h:dY τ κ b cap l)(hroom:l.length<cap)(hk:∀κ',Step [b] κ κ'->κ.H.size=κ'.H.size->dY τ κ' b cap (l++[x])->km P n c (i+1) Q E κ')(hst:st c i n E none=true:=by kernel_rfl)(hr:∀w,(execOp (ev E) (zw c i)).run P w=.ok (.comm #[scase b (.int .i64 x) z] true .send) w:=by intro _;kernel_rfl):km P n c i Q E κ:=by
 obtain⟨u,A,B,F⟩:=iU hst;intro C p a t q k cs;obtain⟨s,r,f⟩:=h.obj;have v:(execOp a.eval<|zw c i).run P (W C κ p)=.ok (.comm #[scase b (.int .i64 x) z] true .send) (W C κ p):=by rw[t.eval];exact hr _
 obtain⟨G,D⟩:=Om (P:=P) (b:=q) (k:=k) (cs:=cs) (rest:=List.range' (i+1)<|(opsOf c).size - (i+1)) (jR u) (by rw[jP t];exact A) v;have d:=step_lone_send_room D (show(W C κ p).heap[b]?=_ from f) (by simpa using hroom);have j:(q.at a (.inRegion (opsOf c) (i::List.range' (i+1) ((opsOf c).size - (i+1)))::k)).finish undef=q.at a (.inRegion (opsOf c) (List.range' (i+1)<|(opsOf c).size - (i+1))::k):=by
  rw[Frame.finish_at,jR u];simp only[im,B];rfl
 rw[j,Oo]at d;have g:(List.map (λn=>Value.int .i64 n) l).toArray.push (.int .i64 x)=(List.map (λn=>Value.int .i64 n) (l++[x])).toArray:=by simp
 rw[g]at d;obtain⟨e,a',w',y,m⟩:=hk _ (pH h.fr) (by simp[K.setO]) (Jh h (s+1) r) C p a t q k cs;refine⟨e,a',w',y,.of_steps (.one ?_) m⟩;rw[tv u];exact d
def TZ{τ b cap l x}d z(h:dY τ κ b cap (x::l))(hk:∀κ',Step [b] κ κ'->κ.H.size=κ'.H.size->dY τ κ' b cap l->km P n c (i+1) Q (aQ E d (.int .i64 x)) κ')(hst:st c i n E (some d)=true:=by kernel_rfl)(hr:∀w,(execOp (ev E) (zw c i)).run P w=.ok (.comm #[rcase b z] true (.recv false)) w:=by intro _;kernel_rfl):km P n c i Q E κ:=by
 obtain⟨A,F,H,G⟩:=iU hst;intro C t a y u k cs;obtain⟨s,r,j⟩:=h.obj;have B:(execOp a.eval<|zw c i).run P (W C κ t)=.ok (.comm #[rcase b z] true (.recv false)) (W C κ t):=by rw[y.eval];exact hr _
 obtain⟨J,I⟩:=Om (P:=P) (b:=u) (k:=k) (cs:=cs) (rest:=List.range' (i+1)<|(opsOf c).size - (i+1)) (jR A) (by rw[jP y];exact F) B;have f:=step_lone_recv_buf false I (show(W C κ t).heap[b]?=_ from j) si;have p:∀v,(u.at a (.inRegion (opsOf c) (i::List.range' (i+1) ((opsOf c).size - (i+1)))::k)).finish v=u.at (a.put (some d) v) (.inRegion (opsOf c) (List.range' (i+1)<|(opsOf c).size - (i+1))::k):=by
  intro v;rw[Frame.finish_at,jR A];simp only[im,H]
 rw[p,Oo]at f;have m:(List.map (λn=>Value.int .i64 n) (x::l)).toArray.extract 1 (List.map (λn=>Value.int .i64 n) (x::l)).toArray.size=(List.map (λn=>Value.int .i64 n) l).toArray:=by
  rw[fi];exact TM _ _
 have g:got false ((List.map (λn=>Value.int .i64 n) (x::l)).toArray.getD 0 undef) true=.int .i64 x:=by simp[got]
 rw[m,g]at f;obtain⟨e,a',w',D,q⟩:=hk _ (pH h.fr) (by simp[K.setO]) (Jh h s (r+1)) C t _ (y.put (G d rfl)<|.int .i64 x) u k cs;refine⟨e,a',w',D,.of_steps (.one ?_) q⟩;rw[tv A];exact f
end
end Go.Lf
namespace Go.Lf
open Go
def jC(c:Code)(i:Nat):Bool:=
 match(zw c i).op with
 | .load _ _=>true
 | .lookup _ _ _ _=>true
 | .convert _ _ _=>true
 | .call _=>true
 | .index _ _ _=>false
 | _=>false
def hX(q0:Nat)(M:List Nat)(i:Nat):K->K->Prop:=bif Nat.beq i q0 then Step M else Step []
def gR(c:Code):Nat->List (List Nat)
 | 0=>[]
 | k+1=>
  let A:=gR c k
  A++[(List.range k).flatMap λj=>bif cQ c k j then j::(A.getD j [])else[]]
def frB(c:Code)(q0 i:Nat):Bool:=!(((gR c (q0+1)).getD q0 []).contains i)
def lS(c:Code)(q0:Nat)(M:List Nat)(i:Nat):List Nat:=bif frB c q0 i then M else[]
def XRun(P:Program)(Rel:K->K->Prop)[Fb](C:Cx)(κ:K)(R:Value->K->Prop):Result Next->Prop
 | .ok (.value v) w'=>∃κ' d',w'=W C κ' d'/\Rel κ κ'/\R v κ'
 | .ok (.enter f args) w'=>∃κ' d',w'=W C κ' d'/\Rel κ κ'/\Fn P f args κ' (λv κ''=>Rel κ' κ''/\R v κ'')
 | _=>False
def XC[Fb](P:Program)(c:Code)(nq:List Nat)(q0:Nat)(M:List Nat):List Nat->aB->K->(aB->K->Prop)->Prop
 |[],E,κ,R=>R E κ
 | i::l,E,κ,R=>
  (cD c i E=false/\XC P c nq q0 M l (aQ E (dstOf c i) undef) κ R) \/
  (cD c i E=true/\nq.contains i=true/\∀C d,XRun P (hX q0 M i) C κ (λv κ'=>XC P c nq q0 M l (aQ E (dstOf c i) v) κ' R) ((execOp (ev E) (zw c i)).run P (W C κ d))) \/
  (cD c i E=true/\nq.contains i=false/\∃v,(∀κ',(jC c i=true->Step (lS c q0 M i) κ κ')->∀C d,(execOp (ev E) (zw c i)).run P (W C κ' d)=.ok (.value v) (W C κ' d))/\XC P c nq q0 M l (aQ E (dstOf c i) v) κ R)
def HQ{E s t v u}(h:s≠t):aQ (aQ E s v) t u=aQ (aQ E t u) s v:=by
 funext x;rw[jv,jv,jv,jv];by_cases a:x=t
 ·by_cases b:x=s
  ·exact absurd (b.symm.trans a) h
  ·rw[if_pos a,if_neg b,if_pos a]
 ·rw[if_neg a,if_neg a]
def XRun.mono{Rel:K->K->Prop}{P}[Fb]{R R':Value->K->Prop}{C κ}(h:∀v κ',Rel κ κ'->R v κ'->R' v κ')(tr:∀a b c,Rel a b->Rel b c->Rel a c){r}(hx:XRun P Rel C κ R r):XRun P Rel C κ R' r:=by
 cases r with
 | halt _ _=>exact hx.elim
 | ok nx w=>
  cases nx with
  | value v=>
   obtain⟨κ',g,i,d,j⟩:=hx;exact⟨κ',g,i,d,h _ _ d j⟩
  | enter f args=>
   obtain⟨κ',g,i,d,j⟩:=hx;exact⟨κ',g,i,d,j.mono λv κ'' e=>⟨e.1,h _ _ (tr _ _ _ d e.1) e.2⟩⟩
  | _=>exact hx.elim
def Ny{q0 M i}:∀a b c,hX q0 M i a b->hX q0 M i b c->hX q0 M i a c:=by
 intro a b c h h';unfold hX at *;cases hb:Nat.beq i q0 with
 | false=>rw[hb]at h h';exact Step.trans h h'
 | true=>rw[hb]at h h';exact Step.trans h h'
section
variable [Fb] {P:Program} {c:Code} {nq:List Nat} {q0:Nat} {M:List Nat} {R:aB->K->Prop}
def XC.swap{i j l E κ}(hj:nq.contains j=false)(hji:dstOf c j≠dstOf c i)(hri:dstOf c j∉gG c i)(hrj:dstOf c i∉gG c j)(hsi:lL c i=false)(hsj:lL c j=false)(hq:Nat.beq i q0=true->jC c j=true->frB c q0 j=true)(h:XC P c nq q0 M (j::i::l) E κ R):XC P c nq q0 M (i::j::l) E κ R:=by
 have g:∀v,∀t∈gG c i,aQ E (dstOf c j) v t=E t:=λv t x=>by
  have k:t≠dstOf c j:=λe=>hri (by rw[←e];exact x);rw[jv,if_neg k]
 have a:∀v,∀t∈gG c j,aQ E (dstOf c i) v t=E t:=λv t x=>by
  have k:t≠dstOf c i:=λe=>hrj (by rw[←e];exact x);rw[jv,if_neg k]
 have w:∀v,cD c i (aQ E (dstOf c j) v)=cD c i E:=λv=>td<|g v;have y:∀v,cD c j (aQ E (dstOf c i) v)=cD c j E:=λv=>td<|a v;have xi:∀v,execOp (ev<|aQ E (dstOf c j) v) (zw c i)=execOp (ev E) (zw c i):=λv=>AM hsi<|g v;have A:∀v,execOp (ev<|aQ E (dstOf c i) v) (zw c j)=execOp (ev E) (zw c j):=λv=>AM hsj<|a v;have key:∃u,(∀(n:aB)κ',(∀t∈gG c j,n t=E t)->(jC c j=true->Step (lS c q0 M j) κ κ')->XC P c nq q0 M l (aQ n (dstOf c j) u) κ' R->XC P c nq q0 M (j::l) n κ' R)/\XC P c nq q0 M (i::l) (aQ E (dstOf c j) u) κ R:=by
  rcases h with⟨b,f⟩ |⟨b,f,_⟩ |⟨b,f,v,h3,h4⟩
  ·exact⟨undef,λn κ' s _ r=>.inl ⟨by rw[td s];exact b,r⟩,f⟩
  ·rw[hj]at f;cases f
  ·refine⟨v,λn κ' s hs r=>.inr<|.inr ⟨by rw[td s];exact b,f,v,λκ'' hs' C d=>?_,r⟩,h4⟩;rw[AM hsj s];exact h3 κ'' (λhm=>(hs hm).trans<|hs' hm) C d
 obtain⟨u,m,hi⟩:=key;rcases hi with⟨b,f⟩ |⟨b,f,h3⟩ |⟨b,f,v,h3,h4⟩
 ·rw[w]at b;exact .inl ⟨b,m _ _ (a undef) (λ_=>Step.refl _ _) (by rw[←HQ hji];exact f)⟩
 ·rw[w]at b;refine .inr<|.inl ⟨b,f,λC d=>?_⟩;have q:=h3 C d;rw[xi]at q;refine XRun.mono (λv κ' p r=>?_) Ny q;refine m _ _ (a v) (λhm=>?_) (by rw[←HQ hji];exact r);unfold hX at p;cases hb:Nat.beq i q0 with
  | false=>rw[hb]at p;exact Step.nil p
  | true=>rw[hb]at p;unfold lS;rw[hq hb hm];exact p
 ·rw[w]at b;refine .inr<|.inr ⟨b,f,v,λκ' hs C d=>?_,?_⟩
  ·rw[←xi u];exact h3 κ' hs C d
  ·exact m _ _ (a v) (λ_=>Step.refl _ _) (by rw[←HQ hji];exact h4)
def XC.cons{i l l'}(h:∀E κ,XC P c nq q0 M l E κ R->XC P c nq q0 M l' E κ R){E κ}(hx:XC P c nq q0 M (i::l) E κ R):XC P c nq q0 M (i::l') E κ R:=by
 rcases hx with⟨a,b⟩ |⟨a,b,h3⟩ |⟨a,b,v,h3,h4⟩
 ·exact .inl ⟨a,h _ _ b⟩
 ·exact .inr<|.inl ⟨a,b,λC d=>(h3 C d).mono (λv κ' _ e=>h _ _ e) Ny⟩
 ·exact .inr<|.inr ⟨a,b,v,h3,h _ _ h4⟩
def XC.front{i l2}:∀{l1:List Nat},(∀j∈l1,nq.contains j=false/\dstOf c j≠dstOf c i/\dstOf c j∉gG c i/\dstOf c i∉gG c j/\lL c j=false/\(Nat.beq i q0=true->jC c j=true->frB c q0 j=true))->lL c i=false->
  ∀{E:aB} {κ:K},XC P c nq q0 M (l1++i::l2) E κ R->XC P c nq q0 M (i::(l1++l2)) E κ R
 |[],_,_,_,_,h=>h
 | j::l1,hl,hsi,E,κ,h=>by
  obtain⟨f,d,l,e,g,b⟩:=hl j si;have h':XC P c nq q0 M (j::i::(l1++l2)) E κ R:=XC.cons (λE κ m=>XC.front (λk a=>hl k (by simp[a])) hsi m) h;exact XC.swap f d l e hsi g b h'
end
def qg:List Nat->Nat->Nat->Bool
 |[],_,_=>false
 | x::xs,j,i=>bif Nat.beq x j then xs.contains i else(bif Nat.beq x i then false else qg xs j i)
def uH:List Nat->Bool
 |[]=>true
 | x::xs=>!xs.contains x&&uH xs
def Cz(k:Nat)(π:List Nat):Bool:=uH π&&π.all (λi=>Nat.blt i k)&&(List.range k).all (λi=>π.contains i)
def Cy(c:Code)(k:Nat)(π nq:List Nat)(q0:Nat):Bool:=let A:=gR c k
 Cz k π&&BE c k&&((List.range k).all λi=>(List.range k).all λj=>!qg π j i||!cQ c j i) &&
 ((List.range k).all λi=>(List.range k).all λj=>!qg π j i||!nq.contains j||(A.getD i []).contains j)
def Bi c:∀k,(gR c k).length=k
 | 0=>rfl
 | k+1=>by simp[gR,Bi c k]
def A_ c(listed:Nat->Bool)(hcl:∀i j,cQ c i j=true->listed i=true->listed j=true):
  ∀k i j,i<k->((gR c k).getD i []).contains j=true->(∀m,cQ c i m=true->listed m=true)->listed j=true
 | 0,i,j,hi,_,_=>by omega
 | k+1,i,j,hi,hc,hd=>by
  unfold gR at hc;by_cases a:i<k
  ·have e:(gR c k++[(List.range k).flatMap λj=>bif cQ c k j then j::((gR c k).getD j [])else[]]).getD i []=(gR c k).getD i []:=by
    simp only[List.getD_eq_getElem?_getD];rw[df (by rw[Bi];exact a)]
   simp only[]at hc;rw[e]at hc;exact A_ c listed hcl k i j a hc hd
  ·have a:i=k:=by omega
   subst a;have e:(gR c i++[(List.range i).flatMap λj=>bif cQ c i j then j::((gR c i).getD j [])else[]]).getD i []=(List.range i).flatMap λj=>bif cQ c i j then j::((gR c i).getD j [])else[]:=by
    simp only[List.getD_eq_getElem?_getD];rw[dg (by rw[Bi];omega),Bi];simp
   simp only[]at hc;rw[e]at hc;rw[br,List.mem_flatMap]at hc;obtain⟨m,hm,b⟩:=hc;have f:=fz.1 hm;cases hdm:cQ c i m with
   | false=>rw[hdm]at b;simp at b
   | true=>
    rw[hdm]at b;have d:=hd m hdm;simp only[cond_true,fq]at b;rcases b with rfl | b
    ·exact d
    ·exact A_ c listed hcl i m j f (by rw[br];exact b) (λx g=>hcl m x g d)
def Hv(p:Nat->Bool)i j:∀(π:List Nat)l1 l2,π.Nodup->π.filter p=l1++i::l2->j∈l1->qg π j i=true
 |[],l1,l2,_,h,_=>by simp at h
 | x::xs,l1,l2,hn,h,hj=>by
  have a:=List.nodup_cons.1 hn;have d:i∈(x::xs).filter p:=by rw[h];simp
  have l:j∈(x::xs).filter p:=by rw[h];simp[hj]
  have k:i≠j:=by
   have g:(l1++i::l2).Nodup:=by rw[←h];exact hn.filter p
   have:=(gd.1 g).2.2 j hj i si;exact this.symm
  unfold qg;by_cases b:x=j
  ·subst b;rw[show Nat.beq x x=true by simp];simp only[cond_true];rw[br];have:=(ft.1 d).1;rcases fq.1 this with h1 | h1
   ·exact absurd h1 k
   ·exact h1
  ·rw[show Nat.beq x j=false by cases hb:Nat.beq x j with | false=>rfl | true=>exact absurd (gt hb) b];simp only[cond_false];by_cases hp:p x=true
   ·rw[cm hp]at h;cases l1 with
    | nil=>cases hj
    | cons y l1=>
     rw[List.cons_append,List.cons.injEq]at h;obtain⟨rfl,h⟩:=h;have f:j∈l1:=by
      rcases fq.1 hj with h1 | h1
      ·exact absurd h1.symm b
      ·exact h1
     have c:x≠i:=by
      intro e;subst e;have:x∈xs.filter p:=by rw[h];simp
      exact a.1 (ft.1 this).1
     rw[show Nat.beq x i=false by cases hb:Nat.beq x i with | false=>rfl | true=>exact absurd (gt hb) c];exact Hv p i j xs l1 l2 a.2 h f
   ·rw[cj (by simpa using hp)]at h;have c:x≠i:=by
     intro e;subst e;have:x∈xs.filter p:=by rw[h];simp
     exact a.1 (ft.1 this).1
    rw[show Nat.beq x i=false by cases hb:Nat.beq x i with | false=>rfl | true=>exact absurd (gt hb) c];exact Hv p i j xs l1 l2 a.2 h hj
def NT:∀{l:List Nat},uH l=true->l.Nodup
 |[],_=>List.nodup_nil
 | x::xs,h=>by
  unfold uH at h;simp only[av,bb]at h;refine List.nodup_cons.2 ⟨λhm=>?_,NT h.2⟩;rw[br.2 hm]at h;cases h.1
def Pw{π:List Nat}{k}(h:Cz k π=true):π.Nodup/\(∀i,i<k->i∈π)/\∀i∈π,i<k:=by
 unfold Cz at h;simp only[av]at h;refine⟨NT h.1.1,λi hi=>?_,λi hi=>?_⟩
 ·have:=bj.1 h.2 i<|fz.2 hi
  rwa [br]at this
 ·have:=bj.1 h.1.2 i hi;simpa[Nat.blt,ia]using this
section
variable [Fc] [Fb] {P:Program} {n:Nat} {Q:bC} {E:aB} {κ:K}
def Tu{c0 p}k π nq q0 M(N:XC P (sub c0 p) nq q0 M π E κ (λR κ'=>aN P n (sub c0 p) k Q R κ'))(h:eD (sub c0 p)=some true)(hm:P.follows .mixedOrders=true)(hB:jY (sub c0 p) n k=true)(hchk:Cy (sub c0 p) k π nq q0=true):aO P n (sub c0 p) Q E κ:=by
 generalize sub c0 p=s at *;unfold jY at hB;simp only[av,decide_eq_true_eq,Bool.or_eq_true]at hB;obtain⟨⟨⟨⟨hk,b9⟩,d4⟩,c5⟩,f0⟩:=hB;unfold Cy at hchk;simp only[av]at hchk;obtain⟨⟨⟨e3,e9⟩,c3⟩,g7⟩:=hchk;obtain⟨T,g5,a1⟩:=Pw e3;have H:∀i o,(opsOf s)[i]?=some o->∀e∈o.after,Region.binds .any e=true->e.on<i:=by
  intro i o hi e he A;have a1:i<(opsOf s).size:=(ai.1 hi).1;have l:=bj.1 b9 i<|fz.2 a1;have ho:zw s i=o:=by unfold zw;rw[hi];rfl
  rw[ho]at l;have u:=(Array.all_eq_true_iff_forall_mem.1 l) e he;simpa[A]using u
 have D:∀i,i<k->(zw s i).dst=some (dstOf s i)/\dstOf s i<n/\∀j,j<i->dstOf s j≠dstOf s i:=by
  intro i hi;have l:=bj.1 d4 i<|fz.2 hi;simp only[av,beq_iff_eq,decide_eq_true_eq]at l;refine⟨l.1.1,l.1.2,λj Z=>?_⟩;have:=bj.1 l.2 j<|fz.2 Z;simpa using this
 have a4:∀i j,i<k->j<k->i≠j->dstOf s i≠dstOf s j:=by
  intro i j hi Z b6;rcases ie b6 with h | h
  ·exact(D j Z).2.2 i h
  ·exact((D i hi).2.2 j h).symm
 have a8:∀i,i<k->lL s i=false:=λi hi=>by
  have:=bj.1 e9 i<|fz.2 hi;simp only[av,bb]at this;exact this.1
 have S:∀i j,i<k->j<k->cQ s i j=false->dstOf s j∉gG s i:=by
  intro i j hi Z hd e4;have:=bj.1 e9 i<|fz.2 hi;simp only[av]at this;have l:=bj.1 this.2 _ e4;rcases Bool.or_eq_true_iff.1 l with u | u
  ·have:=bj.1 u j<|fz.2 Z;simp at this
  ·obtain⟨m,hm,a2⟩:=bl.1 u;simp only[av,beq_iff_eq]at a2;have h9:=fz.1 hm;by_cases e0:m=j
   ·subst e0;rw[hd]at a2;cases a2.2
   ·exact a4 m j om Z e0 a2.1
 have g4:∀i j,i<(opsOf s).size->cQ s i j=true->j<i:=by
  intro i j hi hd;unfold cQ at hd;obtain⟨e,he,A⟩:=Array.any_eq_true'.1 hd;simp only[av,beq_iff_eq]at A;have:=H i (zw s i) (jR hi) e he A.1;omega
 cases s<;>simp[eD]at h;rename_i id ops dr;subst h;simp only[opsOf]at *;generalize hs:Code.region id ops true=s at *;have c2:opsOf s=ops:=by rw[←hs];rfl
 have e7:∀m listed R κ' C d a,Fits n a R->HeadInv .any ops k listed->(∀i j,i<k->listed.getD i false=true->cQ s i j=true->listed.getD j false=true)->
   XC P s nq q0 M (π.filter λi=>!listed.getD i false) R κ' (λR κ'=>aN P n s k Q R κ')->fC listed k=m->
   wpAnyIn FF 0 P .any ops (dZ n C Q) (m+(ops.size - k)) listed a (W C κ' d):=by
  intro m
  induction m with
  | zero=>
   intro listed R κ' C d a hf b a3 Y hu;have I:=HR hu;have c4:listed=gO k ops.size:=by
    apply Array.ext
    ·simp[gO];exact b.size
    ·intro i l u;simp only[gO,Array.getElem_map,Array.getElem_range];by_cases g:i<k
     ·have:=I i g;simp[l]at this;rw[this];simp[g]
     ·have:=b.tail i om (by rw[←b.size];exact l);simp[l]at this;rw[this];simp[g]
   have e6:(π.filter λi=>!listed.getD i false)=[]:=by
    rw[List.filter_eq_nil_iff];intro i hi;rw[I i<|a1 i hi];simp
   rw[e6]at Y;subst c4;have f1:=Y C d a hf;rw[c2]at f1;have hl:=yq (F:=FF) (n:=0) (P:=P) (md:=.any) (ops:=ops) (Q':=dZ n C Q) (ops.toList.drop k) k (gO k ops.size) a (W C κ' d)
    (λj=>by simp[dh]) (by simpa using f0) (by
     have he:=wpOpsIn_eq_wpListIn (F:=FF) (n:=0) (P:=P) (ops:=ops) (Q:=dZ n C Q) (ops.toList.drop k) k (λj=>by simp[dh]);have hlen:(ops.toList.drop k).length=ops.size - k:=by simp
     rw[hlen]at he;rw[←he];exact f1)
   have hlen:(ops.toList.drop k).length=ops.size - k:=by simp
   rw[hlen]at hl;simpa using hl
  | succ m ih=>
   intro listed R κ' C d a hf b a3 Y hu;obtain⟨i0,g2,b4,c9⟩:=Iu hu;have J:i0<ops.size:=by omega
   have w:i0∈Region.ready .any ops listed:=by
    refine mem_ready.2 ⟨?_,ops[i0],by simp[J],?_⟩
    ·have:i0<listed.size:=by rw[b.size];exact J
     simp[this]at b4 ⊢;exact b4
    ·intro e he A;exact c9 e.on<|H i0 ops[i0] (by simp[J]) e he A
   have f6:m+1+(ops.size - k)=(m+(ops.size - k))+1:=by omega
   rw[f6];refine⟨λh0=>(by rw[h0]at w;cases w),λi hi=>?_⟩;obtain⟨g6,oi,b8,I⟩:=mem_ready.1 hi;have e5:i<ops.size:=(ai.1 b8).1;have g:i<k:=by
    rcases ic i k with h | h
    ·exact h
    ·rcases c5 with ht |⟨hs',hc⟩
     ·omega
     ·have c8:listed.getD i0 true=false:=getD_in (by rw[b.size];exact J) b4;exact absurd hi<|tail_waits hs' hc om b _ i0 rfl g2 c8 i h
   have V:zw s i=oi:=by unfold zw;rw[c2,b8];rfl
   obtain⟨f9,f7,h5⟩:=D i g;have d5:listed.getD i false=false:=getD_both g6;have U:i<listed.size:=by rw[b.size];exact e5
   have q:∀j,cQ s i j=true->listed.getD j false=true:=by
    intro j c1;unfold cQ at c1;rw[V]at c1;obtain⟨e,he,A⟩:=Array.any_eq_true'.1 c1;simp only[av,beq_iff_eq]at A;have l:=I e he A.1;rw[A.2]at l;exact l
   have b5:i∈π.filter λi=>!listed.getD i false:=ft.2 ⟨g5 i g,by rw[d5];rfl⟩;obtain⟨l1,l2,c⟩:=List.append_of_mem b5;have e2:∀j,j<k->((gR s k).getD i []).contains j=true->listed.getD j false=true:=λj _ hc=>
    A_ s (λx=>listed.getD x false) (λx y b7 N=>by
     rcases ic x k with h | h
     ·exact a3 x y h N b7
     ·have:listed.getD x false=false:=by
       rcases ic x ops.size with u | u
       ·exact getD_both<|b.tail x h u
       ·simp[Array.getElem?_eq_none (show listed.size<=x by rw[b.size];exact u)]
      rw[this]at N;cases N) k i j g hc q
   rw[c]at Y;have g3:=XC.front (l1:=l1) (λj Z=>by
    have d6:j∈π.filter λi=>!listed.getD i false:=by rw[c];simp[Z]
    have B:=a1 j (ft.1 d6).1;have L:listed.getD j false=false:=by have:=(ft.1 d6).2;simpa using this
    have d9:=Hv _ i j π l1 l2 T c Z;have b6:i≠j:=by
     have c7:(l1++i::l2).Nodup:=by rw[←c];exact T.filter _
     exact((gd.1 c7).2.2 j Z i si).symm
    refine⟨?_,a4 j i B g b6.symm,S i j g B ?_,S j i B g ?_,a8 j B,λf8 _=>?_⟩
    ·have l:=bj.1 (bj.1 g7 i<|fz.2 g) j<|fz.2 B;rw[d9]at l;cases hc:nq.contains j with
     | false=>rfl
     | true=>
      rw[hc]at l;simp only[bc,Bool.false_or]at l;rw[e2 j B l]at L;cases L
    ·cases hd:cQ s i j with
     | false=>rfl
     | true=>rw[q j hd]at L;cases L
    ·have l:=bj.1 (bj.1 c3 i<|fz.2 g) j<|fz.2 B;rw[d9]at l;simpa using l
    ·have:=gt f8;subst this;cases hc:frB s i j with
     | true=>rfl
     | false=>
      unfold frB at hc;have f4:((gR s (i+1)).getD i []).contains j=true:=by simpa using hc
      have:=A_ s (λx=>listed.getD x false) (λx y b7 N=>by
       rcases ic x k with h | h
       ·exact a3 x y h N b7
       ·have:listed.getD x false=false:=by
         rcases ic x ops.size with u | u
         ·exact getD_both<|b.tail x h u
         ·simp[Array.getElem?_eq_none (show listed.size<=x by rw[b.size];exact u)]
        rw[this]at N;cases N) (i+1) i j om f4 q
      rw[this]at L;cases L) (a8 i g) Y
   have c7:(l1++i::l2).Nodup:=by rw[←c];exact T.filter _
   have d7:(π.filter λx=>!(listed.setIfInBounds i true).getD x false)=l1++l2:=by
    have e1:(π.filter λx=>!(listed.setIfInBounds i true).getD x false)=(π.filter λx=>!listed.getD x false).filter (λx=>!Nat.beq x i):=by
     rw[List.filter_filter];apply List.filter_congr;intro x _;by_cases O:x=i
     ·subst O;simp[U]
     ·rw[getD_set_ne false<|Ne.symm O];have:Nat.beq x i=false:=by
       cases A:Nat.beq x i with
       | false=>rfl
       | true=>exact absurd (gt A) O
      rw[this];simp
    rw[e1,c,ci,cj si];have b0:=gd.1 c7;have g0:=List.nodup_cons.1 b0.2.1;rw[cn.2,cn.2]
    ·intro x N;have:x≠i:=λe=>g0.1 (e▸N);cases A:Nat.beq x i with
     | false=>rfl
     | true=>exact absurd (gt A) this
    ·intro x N;have:x≠i:=b0.2.2 x N i si;cases A:Nat.beq x i with
     | false=>rfl
     | true=>exact absurd (gt A) this
   have G:∀v κ2 d2,XC P s nq q0 M (l1++l2) (aQ R (dstOf s i) v) κ2 (λR κ'=>aN P n s k Q R κ')->
     wpAnyIn FF 0 P .any ops (dZ n C Q) (m+(ops.size - k)) (listed.setIfInBounds i true) (a.put oi.dst v) (W C κ2 d2):=by
    intro v κ2 d2 f5;rw[←V,f9];refine ih _ (aQ R (dstOf s i) v) κ2 C d2 _ (hf.put f7 v) (b.set hi g) ?_ (by rw[d7];exact f5) ?_
    ·intro x y f2 d8 b2;by_cases d0:y=i
     ·subst d0;simp[U]
     ·rw[getD_set_ne false<|Ne.symm d0];by_cases O:x=i
      ·subst O;exact q y b2
      ·rw[getD_set_ne false<|Ne.symm O]at d8;exact a3 x y f2 d8 b2
    ·have:=Bs g U d5;omega
   unfold wpOpIn;simp only[b8];have X:=jP hf s i;rw[V,c2]at X;rw[X];rcases g3 with⟨l,u⟩ |⟨l,u,h3⟩ |⟨l,u,v,h3,h4⟩
   ·rw[l,if_neg si];exact⟨λ_ _=>trivial,G undef κ' d u⟩
   ·rw[l,if_pos rfl];have hq:=h3 C d;rw[V,←hf.eval]at hq;generalize hrr:(execOp a.eval oi).run P (W C κ' d)=r at *;cases r with
    | halt x w'=>exact hq.elim
    | ok nx w'=>
     cases nx with
     | value v=>
      obtain⟨κ2,d2,rfl,f3,hS⟩:=hq;exact kG hrr<|G v κ2 d2 hS
     | enter f args=>
      obtain⟨κ2,d2,rfl,f3,g1⟩:=hq;refine AN hrr ?_;refine(g1 C d2).mono ?_;rintro e w2 ⟨v,κ3,d3,rfl,rfl,g9,hS⟩;exact G v κ3 d3 hS
     | _=>exact hq.elim
   ·rw[l,if_pos rfl];have hq:=h3 κ' (λ_=>Step.refl _ _) C d;rw[V,←hf.eval]at hq;exact kG hq<|G v κ' d h4
 intro C d a hf;rw[←hs];refine wpIn_region_any hm ?_;have hu:fC (Array.replicate ops.size false) k=k:=by
  unfold fC;rw[cn.2 (λi _=>by rw[getD_replicate_false];rfl)];simp
 have c6:(π.filter λi=>!(Array.replicate ops.size false).getD i false)=π:=by
  rw[cn];intro i _;rw[getD_replicate_false];rfl
 have hm':=e7 k (Array.replicate ops.size false) E κ C (d+1) a hf
  ⟨by simp,λj oj _ hl=>(by rw[getD_replicate_false]at hl;cases hl),λt _ ht=>getD_in (by simpa using ht)<|getD_replicate_false _ _⟩
  (λi j _ hl=>by rw[getD_replicate_false]at hl;cases hl) (by rw[c6];exact N) hu
 have bN:k+(ops.size - k)=ops.size:=by omega
 rw[bN]at hm';exact hm'
end
def bY[Fc][Fb](P:Program)(n:Nat)(c:Code)(k:Nat)(nq:List Nat)(q0:Nat)(M:List Nat)(π:List Nat)(Q:bC)(E:aB)(κ:K):Prop:=XC P c nq q0 M π E κ (λE' κ'=>aN P n c k Q E' κ')
def jI(c:Code)(nq:List Nat)(i:Nat)(E:aB)(d:Nat):Bool:=cD c i E&&nq.contains i&&Nat.beq (dstOf c i) d
def gI(c:Code)(nq:List Nat)(i:Nat)(E:aB)(d:Nat):Bool:=cD c i E&&!nq.contains i&&Nat.beq (dstOf c i) d
def IZ(c:Code)(i:Nat)(E:aB)(d:Nat):Bool:=!cD c i E&&Nat.beq (dstOf c i) d
section
variable [Fc] [Fb] {P:Program} {n:Nat} {c:Code} {i k:Nat} {nq:List Nat} {q0:Nat} {M:List Nat} {π:List Nat} {Q:bC} {E:aB} {κ:K}
def cC{c0 p}k π nq q0 M(hx:bY P n (sub c0 p) k nq q0 M π Q E κ)(h:eD (sub c0 p)=some true:=by kernel_rfl)(hm:P.follows .mixedOrders=true:=by kernel_rfl)(hB:jY (sub c0 p) n k=true:=by kernel_rfl)(hchk:Cy (sub c0 p) k π nq q0=true:=by kernel_rfl):aO P n (sub c0 p) Q E κ:=Tu k π nq q0 M hx h hm hB hchk
def xe(hk:aN P n c k Q E κ):bY P n c k nq q0 M [] Q E κ:=hk
def uA{d}v(h:gI c nq i E d=true)(hr:∀κ',Step (lS c q0 M i) κ κ'->∀C d0,(execOp (ev E) (zw c i)).run P (W C κ' d0)=.ok (.value v) (W C κ' d0))(hm:jC c i=true)(hk:bY P n c k nq q0 M π Q (aQ E d v) κ):bY P n c k nq q0 M (i::π) Q E κ:=by
 unfold gI at h;simp only[av,bb]at h;obtain⟨⟨a,b⟩,e⟩:=h;have:=gt e;subst this;exact .inr<|.inr ⟨a,b,v,λκ' hs C d=>hr κ' (hs hm) C d,hk⟩
def xq d v(hr:∀w,(execOp (ev E) (zw c i)).run P w=.ok (.value v) w)(hk:bY P n c k nq q0 M π Q (aQ E d v) κ)(h:gI c nq i E d=true:=by kernel_rfl):bY P n c k nq q0 M (i::π) Q E κ:=by
 unfold gI at h;simp only[av,bb]at h;obtain⟨⟨a,b⟩,e⟩:=h;have:=gt e;subst this;exact .inr<|.inr ⟨a,b,v,λκ' hs C d=>hr _,hk⟩
def xp d v(hk:bY P n c k nq q0 M π Q (aQ E d v) κ)(h:gI c nq i E d=true:=by kernel_rfl)(hr:∀w,(execOp (ev E) (zw c i)).run P w=.ok (.value v) w:=by intro _;kernel_rfl):bY P n c k nq q0 M (i::π) Q E κ:=xq d v hr hk h
def xs d(hk:bY P n c k nq q0 M π Q (aQ E d undef) κ)(h:IZ c i E d=true:=by kernel_rfl):bY P n c k nq q0 M (i::π) Q E κ:=by
 unfold IZ at h;simp only[av,bb]at h;have:=gt h.2;subst this;exact .inl ⟨h.1,hk⟩
def OI{κ'}(h:frB c q0 i=false)(hs:Step (lS c q0 M i) κ κ'):Step [] κ κ':=by unfold lS at hs;rw[h]at hs;exact hs
def SH{κ'}(hs:Step (lS c q0 M i) κ κ'):Step M κ κ':=by
 unfold lS at hs;cases hb:frB c q0 i with
 | false=>rw[hb]at hs;exact hs.nil
 | true=>rw[hb]at hs;exact hs
def IX d T v{cs:List Value}{b off}(hv:At κ b off cs)(hn:b∉M)o(hj:cs[o]?=some v)(hk:bY P n c k nq q0 M π Q (aQ E d v) κ)(h:gI c nq i E d=true:=by kernel_rfl)(ho:execOp (ev E) (zw c i)=aW (Instr.loadAt T (.pointer (some ⟨b,off+o,none⟩))):=by kernel_rfl)(hT:dK P T=some false:=by kernel_rfl)(hm:jC c i=true:=by kernel_rfl):bY P n c k nq q0 M (i::π) Q E κ:=uA v h (λκ' hs C a=>by rw[ho];exact zI<|pA hT<|(hv.step (SH hs) hn).one hj) hm hk
def IY d T v{cs:List Value}{b off}(hv:PubAt κ b off cs)o(hj:cs[o]?=some v)(hk:bY P n c k nq q0 M π Q (aQ E d v) κ)(h:gI c nq i E d=true:=by kernel_rfl)(ho:execOp (ev E) (zw c i)=aW (Instr.loadAt T (.pointer (some ⟨b,off+o,none⟩))):=by kernel_rfl)(hT:dK P T=some false:=by kernel_rfl)(hm:jC c i=true:=by kernel_rfl):bY P n c k nq q0 M (i::π) Q E κ:=uA v h (λκ' hs C a=>by rw[ho];exact zI<|pA hT<|(hv.step hs).at.one hj) hm hk
def x1 d T v{cs:List Value}{b off}(hv:At κ b off cs)o(hj:cs[o]?=some v)(hk:bY P n c k nq q0 M π Q (aQ E d v) κ)(h:gI c nq i E d=true:=by kernel_rfl)(ho:execOp (ev E) (zw c i)=aW (Instr.loadAt T (.pointer (some ⟨b,off+o,none⟩))):=by kernel_rfl)(hT:dK P T=some false:=by kernel_rfl)(hm:jC c i=true:=by kernel_rfl)(hf:frB c q0 i=false:=by kernel_rfl):bY P n c k nq q0 M (i::π) Q E κ:=uA v h (λκ' hs C a=>by rw[ho];exact zI<|pA hT<|(hv.step0<|OI hf hs).one hj) hm hk
def xN d T(vs:List Value){cs:List Value}{b off}(hv:At κ b off cs)o m(hj:(cs.drop o).take m=vs)(hk:bY P n c k nq q0 M π Q (aQ E d (.agg vs.toArray)) κ)(h:gI c nq i E d=true:=by kernel_rfl)(ho:execOp (ev E) (zw c i)=aW (Instr.loadAt T (.pointer (some ⟨b,off+o,none⟩))):=by kernel_rfl)(hT:dK P T=some true:=by kernel_rfl)(hs:zO P T=some vs.length:=by kernel_rfl)(hm:jC c i=true:=by kernel_rfl)(hf:frB c q0 i=false:=by kernel_rfl):bY P n c k nq q0 M (i::π) Q E κ:=uA _ h (λκ' a C e=>by rw[ho];exact zI<|sX hT hs (by have:=((hv.step0<|OI hf a).part o m).2;rw[hj]at this;exact this)) hm hk
def xi(d T el sz ln cp:Nat)(kd:IntKind)(ix:Int){b off:Nat}{a:Option Addr}(ea:a=some ⟨b,off,none⟩)(h0:0<=ix)(h1:ix<ln)(hk:bY P n c k nq q0 M π Q (aQ E d (.pointer (some ⟨b,off+ix.toNat*sz,none⟩))) κ)(h:gI c nq i E d=true:=by kernel_rfl)(ho:execOp (ev E) (zw c i)=aW (Instr.indexAt T (.slice a ln cp) (.int kd ix)):=by kernel_rfl)(hT:zK P T=some el:=by kernel_rfl)(hs:zO P el=some sz:=by kernel_rfl):bY P n c k nq q0 M (i::π) Q E κ:=by
 subst ea;exact xq d _ (λw=>by rw[ho];exact zI (by rw[Ay hT hs h0 h1,js])) hk h
def tV{d}(R:Value->K->Prop)(h:jI c nq i E d=true)(hrel:∀v κ',R v κ'->hX q0 M i κ κ')(hr:∀C b,∃v κ' d1,(execOp (ev E) (zw c i)).run P (W C κ b)=.ok (.value v) (W C κ' d1)/\R v κ')(hk:∀v κ',R v κ'->bY P n c k nq q0 M π Q (aQ E d v) κ'):bY P n c k nq q0 M (i::π) Q E κ:=by
 unfold jI at h;simp only[av]at h;obtain⟨⟨g,f⟩,j⟩:=h;have:=gt j;subst this;refine .inr<|.inl ⟨g,f,λC b=>?_⟩;obtain⟨v,κ',d1,a,e⟩:=hr C b;rw[a];exact⟨κ',d1,rfl,hrel _ _ e,hk _ _ e⟩
def Bf{κ κ'}(h:Step [] κ κ'):hX q0 M i κ κ':=by
 unfold hX;cases Nat.beq i q0 with
 | false=>exact h
 | true=>exact h.nil
def bP{args:Array Value}{R:Value->K->Prop}{f}d(hf:Fn P f args κ R)(hk:∀v κ',R v κ'->Step [] κ κ'/\bY P n c k nq q0 M π Q (aQ E d v) κ')(h:jI c nq i E d=true:=by kernel_rfl)(hr:∀w,(execOp (ev E) (zw c i)).run P w=.ok (.enter f args) w:=by intro _;kernel_rfl):bY P n c k nq q0 M (i::π) Q E κ:=by
 unfold jI at h;simp only[av]at h;obtain⟨⟨g,e⟩,j⟩:=h;have:=gt j;subst this;refine .inr<|.inl ⟨g,e,λC b=>?_⟩;rw[hr];exact⟨κ,b,rfl,Bf<|Step.refl _ _,hf.mono λv κ' a=>⟨Bf (hk v κ' a).1,(hk v κ' a).2⟩⟩
variable {α:Type} {t:Ty α} {pub:Bool} {τ:aK} {e T:TypeId} {a a2:Option Addr} {cp c2:Nat} {l l2 r:List α}
def Zo{d bytes}(h:jI c nq i E d=true)(ho:execOp (ev E) (zw c i)=aW (Builtin.append_ #[T,T] 0 #[.slice a l.length cp,.slice a2 l2.length c2]))(hg:Gr t pub τ κ e a cp l)(h2:Sl t κ a2 c2 l2)(hτ:τ.1<=κ.H.size)(hT:gC P T=some (e,t.size,t.size,bytes))(hx:aU bytes l l2=some r)(hrel:hX q0 M i=Step (aG a cp))(hk:∀a' c' κ',Step (aG a cp) κ κ'->Gr t pub τ κ' e a' c' r->(∀g∈aG a' c',g∈aG a cp\/κ.H.size<=g)->bY P n c k nq q0 M π Q (aQ E d (.slice a' r.length c')) κ'):bY P n c k nq q0 M (i::π) Q E κ:=by
 obtain⟨s,w,m,u⟩:=mU hT;obtain⟨x,hm,rfl⟩:=kJ hx;refine tV (λv κ'=>∃a' c',v=.slice a' (l++l2).length c'/\Step (aG a cp) κ κ'/\Gr t pub τ κ' e a' c' (l++l2)/\∀g∈aG a' c',g∈aG a cp\/κ.H.size<=g) h (λv κ' ⟨_,_,_,hs,_⟩=>by rw[hrel];exact hs) (λC j=>?_) ?_
 ·obtain⟨a',c',κ',p,q,hs,b,f⟩:=AG (P:=P) (T:=T) (ty:=0) hg h2 hτ s w m u x hm C j;exact⟨_,κ',p,by rw[ho];exact zI q,a',c',rfl,hs,b,f⟩
 ·rintro v κ' ⟨a',c',rfl,hs,b,f⟩;exact hk a' c' κ' hs b f
def iT{parts:Array (Nat×Value)}{d len cs}(h:jI c nq i E d=true)(ho:execOp (ev E) (zw c i)=aW (Instr.buildSlice T len parts))(hi:pX P T len parts=some (e,t.size,cs))(hs:Nat.blt 0 t.size=true)(hτ:τ.1<=κ.H.size)(hl:l.length=len)(hr:aZ t κ cs l)(hm:Nat.ble len 1000000=true)(hk:∀a' κ',Step [] κ κ'->Gr t pub τ κ' e a' len l->bY P n c k nq q0 M π Q (aQ E d (.slice a' len len)) κ'):bY P n c k nq q0 M (i::π) Q E κ:=by
 subst hl;have hm':=gu hm;refine tV (λv κ'=>∃a',v=.slice a' l.length l.length/\Step [] κ κ'/\Gr t pub τ κ' e a' l.length l) h (λv κ' ⟨_,_,hs,_⟩=>Bf hs) (λC a=>?_) ?_
 ·exact⟨_,_,a,by rw[ho];exact zI<|IC hi (gu hs) C a (if pub=true then l.length*t.size else 0) τ,_,rfl,gW _ _ _ _,BA hr om hτ⟩
 ·rintro v κ' ⟨a',rfl,hs,b⟩;exact hk a' κ' hs b
def OM{zs:List Value}{z:α}{d bytes k1 k2 m}(h:jI c nq i E d=true)(ho:execOp (ev E) (zw c i)=aW (Instr.makeSlice T (.int k1 m) (.int k2 m)))(hT:gC P T=some (e,t.size,t.size,bytes))(hz:(eJ P e).map Value.cells=some zs.toArray)(hzo:t.own κ zs z)(hx:cZ bytes m z=some r)(hτ:τ.1<=κ.H.size)(hk:∀a' κ',Step [] κ κ'->Gr t pub τ κ' e a' r.length r->bY P n c k nq q0 M π Q (aQ E d (.slice a' r.length r.length)) κ'):bY P n c k nq q0 M (i::π) Q E κ:=by
 refine tV (λv κ'=>∃a',v=.slice a' r.length r.length/\Step [] κ κ'/\Gr t pub τ κ' e a' r.length r) h (λv κ' ⟨_,_,hs,_⟩=>Bf hs) (λC b=>?_) ?_
 ·obtain⟨a',κ',f,hs,a⟩:=JJ (P:=P) (T:=T) (pub:=pub) (k1:=k1) (k2:=k2) hT hz hzo hx hτ C b;exact⟨_,κ',b,by rw[ho];exact zI f,a',rfl,hs,a⟩
 ·rintro v κ' ⟨a',rfl,hs,a⟩;exact hk a' κ' hs a
def gJ{β:Type}{A B o:Option β}d b(hr:(if b=true then A else B)=o)(hf:b=false->B=o->bY P n c k nq q0 M π Q (aQ E d (.bool false)) κ)(ht:b=true->A=o->bY P n c k nq q0 M π Q (aQ E d (.bool true)) κ)(h:gI c nq i E d=true:=by kernel_rfl)(hx:∀w,(execOp (ev E) (zw c i)).run P w=.ok (.value (.bool b)) w:=by intro _;kernel_rfl):bY P n c k nq q0 M (i::π) Q E κ:=by
 cases b with
 | false=>exact xq d _ hx (hf rfl<|uD rfl hr) h
 | true=>exact xq d _ hx (ht rfl<|uI rfl hr) h
end
def bB(s t:List UInt8):Option (List UInt8):=if s.length+t.length<=9223372036854775807 then some (s++t)else none
def NO{s t:List UInt8}{r}(h:bB s t=some r):s.length+t.length<=9223372036854775807/\r=s++t:=by
 unfold bB at h;split at h
 ·rename_i h0;exact⟨h0,(Option.some.inj h).symm⟩
 ·cases h
def fE{r:List UInt8}{s t}(h:bB s t=some r):r.length<=9223372036854775807:=by
 obtain⟨a,rfl⟩:=NO h;rw[ef];exact a
section
variable {P:Program} {E:aB} {c:Code} {i:Nat} {s t r:List UInt8} {w:World} {κ:K}
def zx(h:execOp (ev E) (zw c i)=aW (do eqGuard .add 0 (.tmp 0) (.tmp 0) (zu s) (zu t);binOp .add 0 (zu s) (zu t)))(hx:bB s t=some r):
  (execOp (ev E) (zw c i)).run P w=.ok (.value (zu r)) w:=by
 obtain⟨a,rfl⟩:=NO hx;rw[h];refine zI ?_;have d:binOp .add 0 (zu s) (zu t)=Op.stringOp .add ⟨s.toArray⟩ ⟨t.toArray⟩:=rfl;rw[be,d];have b:(eqGuard .add 0 (.tmp 0) (.tmp 0) (zu s)<|zu t).run P w=.ok () w:=by simp[eqGuard,zu]
 rw[b];simp only[bd];rw[run_string_add_sum w _ _ (by simpa[ByteArray.size]using a),ByteArray.mk_append_mk];rfl
def cM(l:List Int):List UInt8:=l.map λn=>UInt8.ofNat n.toNat
def YY(l:List Int):(cM l).length=l.length:=by simp[cM]
def Zk(l:List Int):∀r:ByteArray,l.foldl (λr n=>r.push (UInt8.ofNat n.toNat)) r=⟨r.data++(cM l).toArray⟩:=by
 induction l with
 | nil=>intro r;simp[cM]
 | cons n l ih=>
  intro r;rw[cw,ih];simp[cM,ByteArray.push]
def YB{src dst e:TypeId}{l:List Int}{a cp}(hs:zK P src=some e)(he:P.underlying e=some (.int .u8))(hd:P.underlying dst=some .string)(h:Sl tU8 κ a cp l)[Fb](C:Cx)d:
  (convert src dst (.slice a l.length cp)).run P (W C κ d)=.ok (zu (cM l)) (W C κ d):=by
 rw[run_convert_bytes_string _ src dst e a l.length cp (lu hs) he hd];cases a with
 | none=>
  have:l=[]:=by
   cases l with
   | nil=>rfl
   | cons x l=>obtain⟨b,off,c,_⟩:=h.elems si;cases c
  subst this;rfl
 | some ad=>
  have q:(loadCells ad l.length).run P (W C κ d)=.ok (l.map<|Value.int .u8).toArray (W C κ d):=by
   have:=run_loadCells_list (P:=P) (W C κ d) ad (l.map<|Value.int .u8) (λj v g=>?_)
   ·rw[er]at this;exact this
   ·rw[dt]at g;obtain⟨n,i,rfl⟩:=ip.1 g;have k:=(dm.1 i).1;obtain⟨b,off,c,f⟩:=h.elems om;obtain⟨cs,hp,m,_⟩:=f j n i;injection c with c
    subst c;rw[js,iu];subst m;have:=hp.2.2 0 _ rfl;have p:tU8.size=1:=rfl;rw[p,Nat.mul_one,Nat.add_zero]at this;exact this
  rw[run_bytesToString _ ad l.length cp l q,Zk];unfold zu;have:ByteArray.empty.data=#[]:=rfl;rw[this];simp
def Gr.blen{e:TypeId}{pub τ a cp l}(h:Gr tU8 pub τ κ e a cp l):(cM l).length<=9223372036854775807:=by rw[YY];exact tO h.most
end
section
variable [Fc] [Fb] {P:Program} {n:Nat} {c:Code} {i k:Nat} {nq:List Nat} {q0:Nat} {M:List Nat} {π:List Nat} {Q:bC} {E:aB} {κ:K}
def BQ d src dst e{l:List Int}{a cp}(hf:Sl tU8 κ a cp l)(hk:aN P n c (i+1) Q (aQ E d (zu (cM l))) κ)(h:st c i n E (some d)=true:=by kernel_rfl)(ho:execOp (ev E) (zw c i)=aW (convert src dst (.slice a l.length cp)):=by kernel_rfl)(hs:zK P src=some e:=by kernel_rfl)(he:P.underlying e=some (.int .u8):=by kernel_rfl)(hd:P.underlying dst=some .string:=by kernel_rfl):aN P n c i Q E κ:=iR _ h (λC b=>by rw[ho];exact zI<|YB hs he hd hf C b) hk
end
structure dF(τ:aK)(κ:K)(b:Nat):Prop where
 lt:b<κ.H.size
 fr:κ.fr b=0
 tag:κ.tag b=τ
 ge:τ.1<=b
def aI.o{T:TypeId}{τ κ b cs}(h:aI τ κ b cs T):dF τ κ b:=⟨h.lt,h.fr,h.tag,h.ge⟩
def dF.ne{τ τ' κ b b'}(h:dF τ κ b)(h':dF τ' κ b')(hn:τ≠τ'):b≠b':=λe=>by
 subst e;exact hn (h.tag.symm.trans h'.tag)
def dF.tlt{κ:K}{τ b}(h:dF τ κ b):τ.1<κ.H.size:=Nat.lt_of_le_of_lt h.ge h.lt
section
variable {α:Type} {t:Ty α} {pub:Bool} {τ τ':aK} {κ:K} {e:TypeId} {a:Option Addr} {c:Nat} {l:List α} {b:Nat}
def Gr.nbo(h:Gr t pub τ κ e a c l)(h':dF τ' κ b)(hn:τ≠τ'):∀g∈aG a c,g∉[b]:=λg d hm=>by
 have f:g=b:=by simpa using hm
 subst f;exact hn ((h.lt g d).2.1.symm.trans h'.tag)
def Gr.bno(h:Gr t pub τ κ e a c l)(h':dF τ' κ b)(hn:τ'≠τ):b∉aG a c:=λd=>hn (h'.tag.symm.trans (h.lt b d).2.1)
end
structure KT(α:Type) where
 enc:α->Value
 inj:∀{x y},enc x=enc y->x=y
def kV:KT (List UInt8):=⟨zu,λ{x y} h=>by unfold zu at h;injection h with h;injection h with h;injection h⟩
def jF:KT Int:=⟨λn=>.int .i64 n,λ{x y} h=>by injection h⟩
def cI:KT (Int×Int):=⟨λp=>.agg #[.int .i64 p.1,.int .i64 p.2],λ{x y} h=>by
 injection h with h;injection h with h;injection h with h1 h2;injection h2 with h2 _;injection h1 with _ h1;injection h2 with _ h2;exact Prod.ext h1 h2⟩
structure KeyOk{α:Type}(P:Program)(kd:TypeId)(kt:KT α):Prop where
 check:∀em w x,(Instr.checkKey em 10000 kd (kt.enc x)).run P w=.ok () w
 find:∀x (es:List MapEntry) w,(∀e∈es,∃y,e.key=kt.enc y)->
  ((∀e∈es,e.key≠kt.enc x)/\(Instr.findKey kd (kt.enc x) es).run P w=.ok none w) \/
  ∃(j:Nat)(e:MapEntry),es[j]?=some e/\e.key=kt.enc x/\(Instr.findKey kd (kt.enc x) es).run P w=.ok (some (j,e.val)) w
 stays:∀w x,(Instr.keyThatStays (kt.enc x) (kt.enc x)).run P w=.ok (kt.enc x) w
def OU{α:Type}{P:Program}{kd:TypeId}{kt:KT α}{d:TypeDesc}(hd:P.underlying kd=some d)(hk:∀x,Go.MapKept.IsKey d (kt.enc x)):KeyOk P kd kt where
 check:=λem w x=>Go.MapKept.run_checkKey hd (hk x) em 9999
 find:=λx es w he=>by
  rcases Go.MapKept.findNow_spec (hk x) es 0 (λe h=>by obtain⟨y,hy⟩:=he e h;rw[hy];exact hk y)with⟨h1,h2⟩ |⟨j,e,h1,h2,h3⟩
  ·exact .inl ⟨h2,Go.MapKept.run_findKey hd h1⟩
  ·exact .inr ⟨j,e,h2,h3,by simpa using Go.MapKept.run_findKey (P:=P) (w:=w) hd h1⟩
 stays:=λw x=>Go.MapKept.run_keyThatStays (hk x)
def Hw{P:Program}{kd:TypeId}(hd:P.underlying kd=some .string):KeyOk P kd kV:=OU hd λ_=>trivial
def HG{P:Program}{kd:TypeId}(hd:P.underlying kd=some (.int .i64)):KeyOk P kd jF:=OU hd λ_=>rfl
theorem Rh{P:Program}{kd:TypeId}(hc:∀A w x y,(Instr.checkKey A 10000 kd (.agg #[.int .i64 x,.int .i64 y])).run P w=.ok () w)(hu:∃d,P.underlying kd=some d/\∀a b k c j,b.size=2->Instr.findNow d (.agg a) (({key:=.agg b,val:=k,born:=j}:MapEntry)::c) 0=none)(hq:∀w x y z t,(Op.equal kd (.agg #[.int .i64 x,.int .i64 y]) (.agg #[.int .i64 z,.int .i64 t])).run P w=.ok (decide (x=z)&&decide (y=t)) w):KeyOk P kd cI where
 check:=λA w x=>hc A w x.1 x.2
 find:=λx c w s=>by
  obtain⟨d,hd,u⟩:=hu;have C:∀(c:List MapEntry)i,(∀e∈c,∃y,e.key=cI.enc y)->
    ((∀e∈c,e.key≠cI.enc x)/\(Instr.findAsking kd (cI.enc x) c i).run P w=.ok none w) \/
    ∃(j:Nat)(e:MapEntry),c[j]?=some e/\e.key=cI.enc x/\(Instr.findAsking kd (cI.enc x) c i).run P w=.ok (some (i+j,e.val)) w:=by
   intro c
   induction c with
   | nil=>intro i _;exact .inl ⟨by simp,rfl⟩
   | cons e c ih=>
    intro i h;obtain⟨y,n⟩:=h e<|.head _;have B:(Op.equal kd (cI.enc x) e.key).run P w=.ok (decide (x.1=y.1)&&decide (x.2=y.2)) w:=by rw[n];exact hq w _ _ _ _
    by_cases p:x=y
    ·subst p;refine .inr ⟨0,e,rfl,n,?_⟩;unfold Instr.findAsking;simp only[be,B,Result.andThen];simp
    ·have D:(decide (x.1=y.1)&&decide (x.2=y.2))=false:=by
      grind
     rw[D]at B;have f:(Instr.findAsking kd (cI.enc x) (e::c) i).run P w=(Instr.findAsking kd (cI.enc x) c (i+1)).run P w:=by
      conv=>lhs;unfold Instr.findAsking
      simp only[be,B,Result.andThen];simp
     rcases ih (i+1) (λe s=>h e<|.tail _ s)with⟨l,g⟩ |⟨j,r,l,g,h5⟩
     ·refine .inl ⟨λr m=>?_,f.trans g⟩;cases m with
      | head=>rw[n];exact λq=>p (cI.inj q).symm
      | tail _ m=>exact l r m
     ·refine .inr ⟨j+1,r,by simpa using l,g,?_⟩;rw[f,h5];congr 3;omega
  cases c with
  | nil=>exact .inl ⟨by simp,by unfold Instr.findKey;simp[zG hd,Instr.findNow]⟩
  | cons e c=>
   obtain⟨y,n⟩:=s e<|.head _;have E:Instr.findNow d (cI.enc x) (e::c) 0=none:=by
    obtain⟨k,v,b⟩:=e;simp only at n;subst n;exact u _ _ _ _ _ rfl
   have f:(Instr.findKey kd (cI.enc x) (e::c)).run P w=(Instr.findAsking kd (cI.enc x) (e::c) 0).run P w:=by
    conv=>lhs;unfold Instr.findKey
    simp only[be,zG hd,Result.andThen,E]
   rcases C (e::c) 0 s with⟨l,g⟩ |⟨j,r,l,g,h5⟩
   ·exact .inl ⟨l,f.trans g⟩
   ·exact .inr ⟨j,r,l,g,by rw[f,h5];simp⟩
 stays:=λw x=>by
  have h:Instr.sameBits 10000 (cI.enc x) (cI.enc x)=true:=by simp[cI,Instr.sameBits]
  unfold Instr.keyThatStays;simp[h]
def cB{α β:Type}[DecidableEq α](m:List (α×β))(k:α):Option β:=(m.find? (λp=>decide (p.1=k))).map (·.2)
def cW{α β:Type}[DecidableEq α](m:List (α×β))(k:α):Bool:=m.any (λp=>decide (p.1=k))
def bQ{α β:Type}[DecidableEq α](m:List (α×β))(k:α)(v:β):List (α×β):=if cW m k=true then m.map (λp=>if p.1=k then(k,v)else p)else m++[(k,v)]
structure Mp{α β:Type}(kt:KT α)(t:Ty β)(τ:aK)(κ:K)(b:Nat)(m:List (α×β)):Prop where
 obj:∃(es:Array MapEntry)(clock:Nat),κ.H[b]?=some (.map es clock)/\es.size=m.length/\(∀(i:Nat)(p:α×β),m[i]?=some p->∃e,es[i]?=some e/\e.key=kt.enc p.1/\t.own κ [e.val] p.2)
  /\ (es.toList.map (·.born)).Pairwise (· < ·)/\∀e∈es.toList,e.born<clock
 nd:m.Pairwise (λp q=>p.1≠q.1)
 fr:κ.fr b=0
 tag:κ.tag b=τ
 ge:τ.1<=b
section
variable {α β:Type} {kt:KT α} {t:Ty β} {τ:aK} {κ κ':K} {b:Nat} {m:List (α×β)}
def Mp.lt(h:Mp kt t τ κ b m):b<κ.H.size:=by
 obtain⟨c,d,a,_⟩:=h.obj;exact(ai.1 a).1
def Mp.o(h:Mp kt t τ κ b m):dF τ κ b:=⟨h.lt,h.fr,h.tag,h.ge⟩
def Mp.step{M}(s:Step M κ κ')(hm:b∉M)(h:Mp kt t τ κ b m):Mp kt t τ κ' b m:=by
 obtain⟨l,a,k,g,n,j⟩:=h.obj;refine⟨⟨l,a,(s.2.1 b h.lt hm).1.trans k,g,λi p hp=>?_,j⟩,h.nd,(s.2.1 b h.lt hm).2.1.trans h.fr,(s.2.1 b h.lt hm).2.2.trans h.tag,h.ge⟩;obtain⟨e,f,c,d⟩:=n i p hp;exact⟨e,f,c,t.step s d⟩
def Mp.step0(s:Step [] κ κ')(h:Mp kt t τ κ b m):Mp kt t τ κ' b m:=h.step s si
def RX(κ:K)(τ:aK)(h:τ.1<=κ.H.size):Mp kt t τ (κ.push (.map #[] 0) 0 τ) κ.H.size ([]:List (α×β)):=⟨⟨#[],0,by simp[K.push],rfl,λi p hp=>by simp at hp,by simp,by simp⟩,List.Pairwise.nil,by simp[K.push],by simp[K.push],h⟩
variable [DecidableEq α]
theorem Qv(x:α)(h:∀p∈m,p.1≠x):cB m x=none/\cW m x=false:=by
 grind [cB,cW]
def Ju(hnd:m.Pairwise (λp q=>p.1≠q.1)){j:Nat}{p:α×β}(hj:m[j]?=some p):cB m p.1=some p.2/\cW m p.1=true:=by
 constructor
 ·induction m generalizing j with
  | nil=>simp at hj
  | cons q m ih=>
   obtain⟨b,c⟩:=gg.1 hnd;cases j with
   | zero=>simp at hj;subst hj;simp[cB]
   | succ j=>
    simp at hj;have a:q.1≠p.1:=b p<|fx hj;have:=ih c hj;unfold cB at this ⊢;rw[List.find?_cons];simp[a];simpa using this
 ·unfold cW;rw[bl];exact⟨p,fx hj,by simp⟩
omit [DecidableEq α]
def NU{κ v x}(h:p_.own κ [v] x):v=.bool x:=by injection h
def Ba{κ v x}(h:tI64.own κ [v] x):v=.int .i64 x/\I64 x:=⟨by have:=h.1;injection this,h.2⟩
def Ig{γ:Type}{t:Ty γ}{x:List γ}{κ v}(h:(tSl t).own κ [v] x):∃a c,v=.slice a x.length c/\Sl t κ a c x:=by
 obtain⟨a,c,b,d⟩:=h;exact⟨a,c,by injection b,d⟩
variable [DecidableEq α]
def g_(P:Program)(T:TypeId):Option (TypeId×TypeId):=
 match P.underlying T with
 | some (.map k e)=>some (k,e)
 | _=>none
theorem kA{P:Program}{T k e:TypeId}(h:g_ P T=some (k,e)):P.underlying T=some (.map k e):=by
 grind [g_]
theorem Bw{kd:TypeId}{P}(h:Mp kt t τ κ b m)(hk:KeyOk P kd kt)(x:α){es:Array MapEntry}{cl}(hb:κ.H[b]?=some (.map es cl))w:
  (cB m x=none/\cW m x=false/\(Instr.findKey kd (kt.enc x) es.toList).run P w=.ok none w) \/
  ∃j e y,m[j]?=some (x,y)/\cB m x=some y/\cW m x=true/\es[j]?=some e/\e.key=kt.enc x/\t.own κ [e.val] y/\(Instr.findKey kd (kt.enc x) es.toList).run P w=.ok (some (j,e.val)) w:=by
 obtain⟨C,E,d,q,u,_⟩:=h.obj;rw[hb]at d;injection d with d
 injection d with d _
 subst d;have l:∀e∈es.toList,∃p,p∈m/\e.key=kt.enc p.1:=by
  intro e g;obtain⟨i,hi⟩:=du g;rw[an]at hi;have c:i<m.length:=by rw[←q];exact(ai.1 hi).1
  obtain⟨A,B,v,_⟩:=u i m[i] (by simp[c])
  grind
 rcases hk.find x es.toList w (λe g=>by obtain⟨p,_,hp⟩:=l e g;exact⟨_,hp⟩)with⟨h5,h4⟩ |⟨j,e,h5,h6,h4⟩
 ·have k:∀p∈m,p.1≠x:=by
   intro p hp g;obtain⟨i,hi⟩:=du hp
   grind
  obtain⟨s,r⟩:=Qv x k;exact .inl ⟨s,r,h4⟩
 ·rw[an]at h5;have c:j<m.length:=by rw[←q];exact(ai.1 h5).1
  have f:m[j]?=some m[j]:=by simp[c]
  obtain⟨A,a,n,D⟩:=u j m[j] f;rw[h5]at a;injection a with a
  subst a;have F:m[j].1=x:=kt.inj<|n.symm.trans h6;obtain⟨s,r⟩:=Ju h.nd f
  grind
def qd[Fb](C:Cx)(κ:K)d b{es:Array MapEntry}{cl}(h:κ.H[b]?=some (.map es cl))(P:Program):(getObj b).run P (W C κ d)=.ok (.map es cl) (W C κ d):=Go.MapKept.run_getObj_map h
def Bj[Fb](C:Cx)(κ:K)d b{es:Array MapEntry}{cl}(o:Obj)(h:κ.H[b]?=some (.map es cl))(P:Program):(setObj b o).run P (W C κ d)=.ok () (W C (κ.setO b o) d):=Go.MapKept.run_setObj_map o h
def GW{T kd e:TypeId}{y0:β}{x:α}{P z}(h:Mp kt t τ κ b m)(hT:g_ P T=some (kd,e))(hk:KeyOk P kd kt)(hz:eJ P e=some z)(hzo:t.own κ [z] y0)[Fb](C:Cx)d:
  ∃v,t.own κ [v] ((cB m x).getD y0)/\(Instr.lookup T (.map (some b)) (kt.enc x) false).run P (W C κ d)=.ok v (W C κ d)/\
   (Instr.lookup T (.map (some b)) (kt.enc x) true).run P (W C κ d)=.ok (.tuple #[v,.bool (cW m x)]) (W C κ d):=by
 obtain⟨l,k,g,_⟩:=h.obj;have a:=qd C κ d b g P;rcases Bw h hk x g (W C κ d)with⟨f,c,i⟩ |⟨j,en,y,g0,f,c,i,g4,g5,g6⟩
 ·refine⟨z,by rw[f];exact hzo,?_,?_⟩ <;>
  ·unfold Instr.lookup;simp[zG<|kA hT,a,hk.check,i,sO hz,c]
 ·refine⟨en.val,by rw[f];exact g5,?_,?_⟩ <;>
  ·unfold Instr.lookup;simp[zG<|kA hT,a,hk.check,g6,c]
def YC{x:α}{y:β}(h:cW m x=true):(bQ m x y).length=m.length:=by unfold bQ;rw[if_pos h,er]
theorem RW(hnd:m.Pairwise (λp q=>p.1≠q.1))(x:α)(y:β):(bQ m x y).Pairwise (λp q=>p.1≠q.1):=by
 unfold bQ;split
 ·rw[List.pairwise_map];refine hnd.imp ?_;intro p q c;by_cases a:p.1=x<;>by_cases b:q.1=x
  ·exact absurd (a.trans b.symm) c
  ·rw[if_pos a,if_neg b];exact λe=>b e.symm
  ·rw[if_neg a,if_pos b];exact a
  ·rw[if_neg a,if_neg b];exact c
 ·rename_i h;rw[List.pairwise_append];refine⟨hnd,by simp,λp hp q d=>?_⟩;have:q=(x,y):=by simpa using d
  grind [cW]
theorem Rr{P:Program}{T kd e:TypeId}{x:α}{v:Value}{y:β}(h:Mp kt t τ κ b m)(hT:g_ P T=some (kd,e))(hk:KeyOk P kd kt)(hv:t.own κ [v] y)[Fb](C:Cx)(d:Nat):
  ∃κ',(Instr.mapUpdate T (.map (some b)) (kt.enc x) v).run P (W C κ d)=.ok () (W C κ' d)/\Step [b] κ κ'/\κ.H.size=κ'.H.size/\Mp kt t τ κ' b (bQ m x y):=by
 obtain⟨n,H,F,bN,B,N,I⟩:=h.obj;have A:=qd C κ d b F P;have Q:∀(a:Array MapEntry)(c:Nat),a.size=(bQ m x y).length->(∀κ':K,Step [b] κ κ'->∀(i:Nat)(p:α×β),(bQ m x y)[i]?=some p->∃e,a[i]?=some e/\e.key=kt.enc p.1/\t.own κ' [e.val] p.2)->((a.toList.map (·.born)).Pairwise (· < ·)/\∀e∈a.toList,e.born<c)->
   Step [b] κ (κ.setO b<|.map a c)/\κ.H.size=(κ.setO b<|.map a c).H.size/\Mp kt t τ (κ.setO b<|.map a c) b (bQ m x y):=by
  intro a c G E X;have u:Step [b] κ (κ.setO b<|.map a c):=pH h.fr;exact⟨u,by simp[K.setO],⟨a,c,by simp[K.setO,h.lt],G,E _ u,X⟩,RW h.nd x y,h.fr,h.tag,h.ge⟩
 rcases Bw h hk x F (W C κ d)with⟨V,w,r⟩ |⟨j,en,y',g0,V,w,r,g4,g5,g6⟩
 ·refine⟨κ.setO b<|.map (n.push {key:=kt.enc x,val:=v,born:=H}) (H+1),?_,Q _ _ ?_ ?_ ?_⟩
  ·unfold Instr.mapUpdate;simp[zG<|kA hT,A,hk.check,r,Bj C κ d b _ F P]
  ·unfold bQ;rw[if_neg (by rw[w];simp),Array.size_push,bN,ef];rfl
  ·intro κ' hs i p hp;unfold bQ at hp;rw[if_neg (by rw[w];simp)]at hp;by_cases hi:i<m.length
   ·rw[df hi]at hp;obtain⟨e,D,l,M⟩:=B i p hp;exact⟨e,by rw[Array.getElem?_push];rw[if_neg om];exact D,l,t.step hs M⟩
   ·rw[dg om]at hp;have O:i - m.length=0:=by
     have:=(dm.1 hp).1;simp at this;omega
    rw[O]at hp;simp at hp;subst hp;refine⟨{key:=kt.enc x,val:=v,born:=H},?_,rfl,t.step hs hv⟩;rw[Array.getElem?_push,if_pos om]
  all_goals grind
 ·have R:j<n.size:=(ai.1 r).1;refine⟨κ.setO b<|.map (n.modify j λe=>{e with key:=kt.enc x,val:=v}) H,?_,Q _ _ ?_ ?_ ?_⟩
  ·unfold Instr.mapUpdate;simp[zG<|kA hT,A,hk.check,g6,r,g4,hk.stays,Bj C κ d b _ F P]
  ·rw[YC w];simpa using bN
  ·intro κ' hs i p hp;unfold bQ at hp;rw[if_pos w,dt]at hp;obtain⟨q,k,f⟩:=ip.1 hp;obtain⟨e,D,l,M⟩:=B i q k;by_cases s:j=i
   ·subst s;rw[g0]at k;injection k with k
    subst k;rw[if_pos rfl]at f;subst f;refine⟨{en with key:=kt.enc x,val:=v},?_,rfl,t.step hs hv⟩;rw[aj,if_pos rfl,r];rfl
   ·have J:q.1≠x:=λZ=>by
     have G:=(dm.1 k).1;have E:=(dm.1 g0).1;have S:=gi.1 h.nd;have e1:=(dm.1 k).2;have Y:=(dm.1 g0).2
     grind
    rw[if_neg J]at f;subst f;exact⟨e,by rw[aj,if_neg s];exact D,l,t.step hs M⟩
  ·have g:(n.modify j λe=>{e with key:=kt.enc x,val:=v}).toList.map (·.born)=n.toList.map (·.born):=by
    apply ce;intro i
    grind
   refine⟨by rw[g];exact N,λe D=>?_⟩;have G:e.born∈n.toList.map (·.born):=by rw[←g];exact fu.2 ⟨e,D,rfl⟩
   obtain⟨U,L,E⟩:=fu.1 G;rw[←E];exact I U L
end
section
variable [Fc] [Fb] {P:Program} {n:Nat} {c:Code} {i k:Nat} {Q:bC} {E:aB} {κ:K} {α β:Type} {t:Ty β} {τ:aK} {b:Nat} {m:List (α×β)} {nq:List Nat} {q0:Nat} {M:List Nat} {π:List Nat}
def RA(R:K->Prop)(h:st c i n E none=true)(hr:∀C b,∃κ' d1,(execOp (ev E) (zw c i)).run P (W C κ b)=.ok .skip (W C κ' d1)/\R κ')(hk:∀κ',R κ'->aN P n c (i+1) Q E κ'):aN P n c i Q E κ:=by
 refine lD h (λC b a d=>?_);obtain⟨κ',d1,f,e⟩:=hr C b;obtain⟨_,_,g,_⟩:=iU h;refine HP (by rw[d.eval];exact f) ?_;rw[g];exact hk κ' e C d1 _ d
def nF{d T}(kt:KT α)(t:Ty β)(τ:aK)(hτ:τ.1<=κ.H.size)(hk:∀b κ',Step [] κ κ'->Mp kt t τ κ' b ([]:List (α×β))->aN P n c (i+1) Q (aQ E d (.map (some b))) κ')(h:st c i n E (some d)=true:=by kernel_rfl)(ho:execOp (ev E) (zw c i)=aW (Instr.makeMap T none):=by kernel_rfl):aN P n c i Q E κ:=by
 refine gZ (λv κ'=>∃b,v=.map (some b)/\Step [] κ κ'/\Mp kt t τ κ' b ([]:List (α×β))) h (λC a=>?_) ?_
 ·exact⟨_,κ.push (.map #[] 0) 0 τ,a,by rw[ho];exact zI rfl,κ.H.size,rfl,gW _ _ _ _,RX _ _ hτ⟩
 ·rintro v κ' ⟨b,rfl,hs,hm⟩;exact hk b κ' hs hm
variable [DecidableEq α]
def BR(kt:KT α){x:α}{y0:β}{d T kd e}z(hm:Mp kt t τ κ b m)(hzo:t.own κ [z] y0)(hk:∀v,t.own κ [v] ((cB m x).getD y0)->aN P n c (i+1) Q (aQ E d v) κ)(hT:g_ P T=some (kd,e):=by kernel_rfl)(h:st c i n E (some d)=true:=by kernel_rfl)(ho:execOp (ev E) (zw c i)=aW (Instr.lookup T (.map (some b)) (kt.enc x) false):=by kernel_rfl)(hkd:KeyOk P kd kt:=by first | exact HG (by kernel_rfl) | exact Hw (by kernel_rfl))(hz:eJ P e=some z:=by kernel_rfl):aN P n c i Q E κ:=by
 refine gZ (λv κ'=>κ=κ'/\t.own κ [v] ((cB m x).getD y0)) h (λC f=>?_) ?_
 ·obtain⟨v,a,g,_⟩:=GW hm hT hkd hz hzo (x:=x) C f;exact⟨v,κ,f,by rw[ho];exact zI g,rfl,a⟩
 ·rintro v κ' ⟨rfl,a⟩;exact hk v a
def TH(kt:KT α){x:α}{y0:β}{d T kd e}z(hm:Mp kt t τ κ b m)(hzo:t.own κ [z] y0)(hk:∀v,t.own κ [v] ((cB m x).getD y0)->aN P n c (i+1) Q (aQ E d (.tuple #[v,.bool (cW m x)])) κ)(hT:g_ P T=some (kd,e):=by kernel_rfl)(h:st c i n E (some d)=true:=by kernel_rfl)(ho:execOp (ev E) (zw c i)=aW (Instr.lookup T (.map (some b)) (kt.enc x) true):=by kernel_rfl)(hkd:KeyOk P kd kt:=by first | exact HG (by kernel_rfl) | exact Hw (by kernel_rfl))(hz:eJ P e=some z:=by kernel_rfl):aN P n c i Q E κ:=by
 refine gZ (λf κ'=>κ=κ'/\∃v,f=.tuple #[v,.bool<|cW m x]/\t.own κ [v] ((cB m x).getD y0)) h (λC g=>?_) ?_
 ·obtain⟨v,a,_,j⟩:=GW hm hT hkd hz hzo (x:=x) C g;exact⟨_,κ,g,by rw[ho];exact zI j,rfl,v,rfl,a⟩
 ·rintro f κ' ⟨rfl,v,rfl,a⟩;exact hk v a
def kg(kt:KT α){x:α}{y:β}{T kd e v}(hm:Mp kt t τ κ b m)(hv:t.own κ [v] y)(hk:∀κ',Step [b] κ κ'->κ.H.size=κ'.H.size->Mp kt t τ κ' b (bQ m x y)->aN P n c (i+1) Q E κ')(hT:g_ P T=some (kd,e):=by kernel_rfl)(h:st c i n E none=true:=by kernel_rfl)(ho:execOp (ev E) (zw c i)=gH (Instr.mapUpdate T (.map (some b)) (kt.enc x) v):=by kernel_rfl)(hkd:KeyOk P kd kt:=by first | exact HG (by kernel_rfl) | exact Hw (by kernel_rfl)):aN P n c i Q E κ:=by
 refine RA (λκ'=>Step [b] κ κ'/\κ.H.size=κ'.H.size/\Mp kt t τ κ' b (bQ m x y)) h (λC g=>?_) ?_
 ·obtain⟨κ',j,d,a,f⟩:=Rr hm hT hkd hv (x:=x) C g;exact⟨κ',g,by rw[ho];exact tZ j,d,a,f⟩
 ·rintro κ' ⟨d,a,f⟩;exact hk κ' d a f
end
def Sl.of_none{α:Type}{t:Ty α}{l:List α}{κ c}(h:Sl t κ none c l):l=[]:=by
 cases l with
 | nil=>rfl
 | cons x l=>obtain⟨b,off,a,_⟩:=h.elems si;cases a
end Go.Lf
