import Derived.Orders
import Derived.StillTail
import Derived.KernelRfl
import Derived.Tactics
import Derived.TacticsIn
import Derived.OrdersIn
import Derived.Laws.Cells
import Derived.Laws.World
import Derived.Laws.AppendOwn
import Derived.Deep.AppendSrc
import Derived.Laws.MakeOwn
import Derived.Laws.StructEq
import Derived.Conc.LoneCalls
import Derived.Conc.LoneSelectN
import Derived.Laws.Concat
import Derived.Laws.BytesString
import Derived.Laws.IdiomStrings
import Derived.MapKept
set_option linter.all false
namespace Go.Lf
open Go
theorem om {p:Prop} (h:p:=by omega):p:=h
theorem so {p:Prop} (h:p:=by simp;omega):p:=h
theorem si {p:Prop} (h:p:=by simp):p:=h
abbrev ab:=@Array.getElem?_append
abbrev ac:=@Array.getElem?_eq_getElem
abbrev ai:=@Array.getElem?_eq_some_iff
abbrev aj:=@Array.getElem?_modify
abbrev am:=@Array.getElem?_setIfInBounds_ne
abbrev an:=@Array.getElem?_setIfInBounds_self_of_lt
abbrev au:=@Array.getElem?_toList
abbrev av:=@Array.length_toList
abbrev aw:=@Bool.and_eq_true
abbrev ax:=@Bool.eq_iff_iff
abbrev az:=@Bool.false_eq_true
abbrev ba:=@Bool.not_eq_true'
abbrev bb:=@Bool.not_true
abbrev bc:=@Go.Result.andThen_ok
abbrev bd:=@Go.Sem.run_bind
abbrev be:=@Go.Sem.run_pure
abbrev bf:=@Int.eq_ofNat_of_zero_le
abbrev bg:=@Int.toNat_natCast
abbrev bh:=@Int.toNat_of_nonneg
abbrev bi:=@List.all_eq_true
abbrev bj:=@List.any_eq_true
abbrev bl:=@List.append_assoc
abbrev bp:=@List.append_nil
abbrev bq:=@List.contains_iff_mem
abbrev br:=@List.drop_eq_getElem_cons
abbrev bu:=@List.eq_nil_iff_forall_not_mem
abbrev bz:=@List.eq_nil_of_length_eq_zero
abbrev ca:=@List.ext_getElem?
abbrev ce:=@List.filter_append
abbrev cg:=@List.filter_cons_of_neg
abbrev ci:=@List.filter_cons_of_pos
abbrev cj:=@List.filter_eq_self
abbrev cm:=@List.flatMap_append
abbrev cn:=@List.flatMap_cons
abbrev co:=@List.foldl_cons
abbrev cq:=@List.getElem?_append_left
abbrev cv:=@List.getElem?_append_right
abbrev cw:=@List.getElem?_drop
abbrev cz:=@List.getElem?_eq_getElem
abbrev df:=@List.getElem?_eq_none
abbrev dg:=@List.getElem?_eq_some_iff
abbrev dh:=@List.getElem?_map
abbrev dj:=@List.getElem?_of_mem
abbrev dl:=@List.getElem?_range
abbrev dm:=@List.getElem?_replicate
abbrev dt:=@List.getElem?_set_ne
abbrev du:=@List.getElem?_set_self
abbrev dv:=@List.getElem?_take
abbrev dx:=@List.getElem_mem
abbrev dy:=@List.length_append
abbrev dz:=@List.length_cons
abbrev ec:=@List.length_drop
abbrev ed:=@List.length_filter_le
abbrev ef:=@List.length_map
abbrev eh:=@List.length_nil
abbrev ek:=@List.length_replicate
abbrev ep:=@List.length_set
abbrev eu:=@List.length_singleton
abbrev ey:=@List.length_take
abbrev fa:=@List.map_append
abbrev fc:=@List.map_congr_left
abbrev fd:=@List.map_cons
abbrev fe:=@List.mem_append
abbrev fg:=@List.mem_append_left
abbrev fh:=@List.mem_cons
abbrev fi:=@List.mem_filter
abbrev fj:=@List.mem_map
abbrev fm:=@List.mem_of_find?_eq_some
abbrev fo:=@List.mem_of_getElem?
abbrev fp:=@List.mem_range
abbrev fq:=@List.mem_singleton
abbrev ft:=@List.nil_append
abbrev fu:=@List.nodup_append
abbrev fv:=@List.pairwise_cons
abbrev fx:=@List.pairwise_iff_getElem
abbrev fz:=@List.range_succ
abbrev ga:=@List.size_toArray
abbrev gc:=@List.take_add_one
abbrev gd:=@List.take_length
abbrev gg:=@List.take_of_length_le
abbrev gi:=@Nat.add_mul
abbrev gj:=@Nat.eq_of_beq_eq_true
abbrev gk:=@Nat.le_of_ble_eq_true
abbrev gl:=@Nat.le_refl
abbrev gm:=@Nat.le_trans
abbrev gp:=@Nat.lt_iff_add_one_le
abbrev gq:=@Nat.lt_of_lt_of_le
abbrev gt:=@Nat.lt_or_ge
abbrev gu:=@Nat.lt_or_gt_of_ne
abbrev gv:=@Nat.lt_trichotomy
abbrev gy:=@Nat.mul_le_mul_right
abbrev gz:=@Nat.succ_mul
abbrev ia:=@Nat.zero_add
abbrev ib:=@Option.bind_eq_some_iff
abbrev ic:=@Option.bind_some
abbrev ie:=@Option.getD_some
abbrev ig:=@Option.map_eq_some_iff
class Fc where
 rd:Option Nat
 ds:List Deferred
instance fc0:Fc:=⟨none,[]⟩
class Fb where
 lo:Nat->Bool
 b0:Nat
 h0:lo b0=true
instance fb0:Fb:=⟨λn=>Nat.beq n 0,0,rfl⟩
def FF[Fc]:Fence:={Fence.wide with round:=Fc.rd}
def zyF[Fc]{n:Nat}{P:Program}{f:FuncId}{args:Array Value}{w:World}{R:Ending->World->Prop}(h:Calls P f args w R):CallsIn FF n P f args w R:=
 (callsIn_wide (n:=n)).2 h
def zrS{ro:Option Nat}{P:Program}{ρ:Operand->Value}{o:Oper}{w w':World}{nx:Next}(h:(execOp ρ o).run P w=.ok nx w')(hn:∀d,nx≠.defer d):
  (o.semAt ro ρ).run P w=.ok nx w':=by
 rw[Oper.semAt_eq _ _ _ (λc a=>?_)]
 ·exact h
 ·unfold execOp at h;rw[a]at h;simp only[bd]at h;cases hr:(resolve ρ c o.type).run P w with
  | ok d w1=>rw[hr]at h;simp[Result.andThen]at h;exact hn d h.1.symm
  | halt x w1=>rw[hr]at h;simp[Result.andThen]at h
def zCS{p:Nat->Prop}(h:∃m,p m):∃m,p m/\∀k,p k->m<=k:=by
 classical
 obtain⟨m,hm⟩:=h
 induction m using Nat.strongRecOn with
 | _ m ih=>
  by_cases a:∃k,k<m/\p k
  ·obtain⟨k,c,hp⟩:=a;exact ih k c hp
  ·exact⟨m,hm,λk hp=>Nat.le_of_not_lt λb=>a ⟨k,b,hp⟩⟩
section
variable [Fc] {P:Program} {o:Oper} {a:Act} {w w':World} {K:Act->World->Prop} {Q:Exit->Act->World->Prop}
def zme{v:Value}(h:(execOp a.eval o).run P w=.ok (.value v) w')(hk:K (a.put o.dst v) w'):o.wpIn FF 0 P a w K Q:=by
 unfold Oper.wpIn;rw[zrS h (λ_ e=>by cases e)];exact⟨λ_ _=>trivial,hk⟩
def zwP(h:(execOp a.eval o).run P w=.ok .skip w')(hk:K (a.put o.dst undef) w'):o.wpIn FF 0 P a w K Q:=by
 unfold Oper.wpIn;rw[zrS h (λ_ e=>by cases e)];exact⟨λ_ _=>trivial,hk⟩
def zq0{f:FuncId}{args:Array Value}(h:(execOp a.eval o).run P w=.ok (.enter f args) w')(hk:Calls P f args w' λ| .returned v,w''=>K (a.put o.dst v) w'' | .panicked chain,w''=>Q (.panic chain) a w'' | .outgrown,_=>LetsOut Q):o.wpIn FF 0 P a w K Q:=by
 unfold Oper.wpIn;rw[zrS h (λ_ e=>by cases e)];refine⟨λ_ _=>trivial,λb=>?_,zyF (n:=0) hk⟩;simp[FF,Fence.wide]at b
def zmf{n:Nat}{F:Fence}{md:Region.Mode}{ops:Array Oper}{Q':Exit->Act->World->Prop}:∀(l:List Oper)(k:Nat)(listed:Array Bool)(a:Act)(w:World),(∀j,l[j]?=ops[k+j]?)->
  Region.seqB md ops l.length k listed=true->wpListIn F n P ops Q' l a w->wpAnyIn F n P md ops Q' l.length listed a w
 |[],_,_,_,_,_,hB,h=>⟨by simpa[Region.seqB]using hB,h⟩
 | o::l,k,listed,a,w,hl,hB,h=>by
  have e:ops[k]?=some o:=by simpa using(hl 0).symm
  simp only[dz,Region.seqB,aw,decide_eq_true_eq]at hB;refine⟨λc=>(by rw[hB.1]at c;cases c),λi hi=>?_⟩;rw[hB.1]at hi;have b:i=k:=by simpa using hi
  subst b;have d:wpOpIn F n P ops Q' i (wpListIn F n P ops Q' l) a w:=by unfold wpOpIn;simp only[e];exact h
  exact wpOpIn_mono (λa' w' h'=>zmf l (i+1) _ a' w' (λj=>by have:=hl (j+1);simpa[Nat.add_assoc,Nat.add_comm 1 j]using this) hB.2 h') d
def zvb{n:Nat}{F:Fence}{x:Code}{Q:Exit->Act->World->Prop}{a:Act}{w:World}(I:Act->World->Nat->Prop)(m:Nat)(h0:I a w m)(round:∀m a w,I a w m->x.wpIn F n P (λe a' w'=>match e with
   | .normal=>∃d,d<m/\I a' w' d
   | e=>Q e a' w') a w):(Code.loop x).wpIn F n P Q a w:=by
 obtain⟨J,g⟩:∃J:Act->World->Prop,J=λa w=>∃m,I a w m:=⟨_,rfl⟩;obtain⟨μ,j⟩:∃μ:Act->World->Nat,∀a w m,I a w m->μ a w<=m/\I a w (μ a w):=by
  classical
  refine⟨λa w=>if h:∃m,I a w m then Classical.choose (zCS h)else 0,λa w m h=>?_⟩;have b:∃m,I a w m:=⟨m,h⟩;simp only[b,dif_pos];have hs:=Classical.choose_spec (zCS b);exact⟨hs.2 m h,hs.1⟩
 refine wpIn_loop J μ (by rw[g];exact⟨m,h0⟩) ?_;intro a w i;rw[g]at i;obtain⟨m,hm⟩:=i;refine wpIn_mono (round _ a w (j a w m hm).2) ?_;intro e a' w' k;cases e with
 | normal=>obtain⟨d,f,c⟩:=k;exact⟨by rw[g];exact⟨d,c⟩,Nat.lt_of_le_of_lt (j a' w' d c).1 f⟩
 | _=>exact k
end
structure K where
 H:Array Obj
 fr:Nat->Nat
 tag:Nat->Nat×Nat
structure Cx[Fb] where
 os:Os
 tape:Nat->Question->Nat
 output:Array (Nat×ByteArray)
 base:Nat
 hb:Fb.lo base=true
def W[Fb](C:Cx)(κ:K)(d:Nat):World:={heap:=κ.H,tape:=C.tape,drawn:=C.base+d,os:=C.os,output:=C.output}
def K.cell(κ:K)(b o:Nat):Option Value:=
 match κ.H[b]? with
 | some (.cells c _ _)=>c[o]?
 | _=>none
def K.shp(κ:K)(b:Nat):Option (TypeId×Nat×(Nat×Nat)):=
 match κ.H[b]? with
 | some (.cells c T k)=>some (T,c.size,k)
 | _=>none
def Step(M:List Nat)(κ κ':K):Prop:=
 κ.H.size<=κ'.H.size/\(∀b,b<κ.H.size->b∉M->κ'.H[b]?=κ.H[b]?/\κ'.fr b=κ.fr b/\κ'.tag b=κ.tag b)/\
 (∀b,b<κ.H.size->κ.fr b<=κ'.fr b/\∀o,o<κ.fr b->κ'.cell b o=κ.cell b o)/\
 (∀b,b<κ.H.size->0<κ.fr b->κ'.tag b=κ.tag b/\κ'.shp b=κ.shp b)
def Step.refl(M:List Nat)(κ:K):Step M κ κ:=⟨gl _,λ_ _ _=>⟨rfl,rfl,rfl⟩,λ_ _=>⟨gl _,λ_ _=>rfl⟩,λ_ _ _=>⟨rfl,rfl⟩⟩
def Step.mono{M M':List Nat}{κ κ':K}(h:Step M κ κ')(hm:∀b,b∈M->b∈M'):Step M' κ κ':=
 ⟨h.1,λb d c=>h.2.1 b d (λa=>c (hm b a)),h.2.2⟩
def Step.trans{M:List Nat}{κ κ' κ'':K}(h:Step M κ κ')(h':Step M κ' κ''):Step M κ κ'':=by
 refine⟨gm h.1 h'.1,λb d g=>?_,λb d=>?_,λb d e=>?_⟩
 ·have a:=h.2.1 b d g;have c:=h'.2.1 b (gq d h.1) g;exact⟨c.1.trans a.1,c.2.1.trans a.2.1,c.2.2.trans a.2.2⟩
 ·have a:=h.2.2.1 b d;have c:=h'.2.2.1 b (gq d h.1);exact⟨gm a.1 c.1,λo f=>(c.2 o (gq f a.1)).trans (a.2 o f)⟩
 ·have a:=h.2.2.2 b d e;have c:=h'.2.2.2 b (gq d h.1) (gq e (h.2.2.1 b d).1);exact⟨c.1.trans a.1,c.2.trans a.2⟩
def Step.nil{M:List Nat}{κ κ':K}(h:Step [] κ κ'):Step M κ κ':=h.mono (λ_ a=>by cases a)
def Fn[Fb](P:Program)(f:FuncId)(args:Array Value)(κ:K)(R:Value->K->Prop):Prop:=
 ∀C d,Calls P f args (W C κ d) λe w'=>∃v κ' d',e=.returned v/\w'=W C κ' d'/\R v κ'
def Fn.mono[Fb]{P:Program}{f:FuncId}{args:Array Value}{κ:K}{R R':Value->K->Prop}(h:Fn P f args κ R)(hr:∀v κ',R v κ'->R' v κ'):
  Fn P f args κ R':=
 λC d=>(h C d).mono λ_ _ ⟨v,κ',d',he,hw,hR⟩=>⟨v,κ',d',he,hw,hr v κ' hR⟩
abbrev Env:=Nat->Value
def upd(E:Env)(t:Nat)(v:Value):Env:=λs=>bif Nat.beq s t then v else E s
def zAn{E:Env}{t:Nat}{v:Value}(h:E t=v):E=upd E t v:=by
 funext s;unfold upd;cases hs:Nat.beq s t with
 | false=>rfl
 | true=>have:=gj hs;subst this;exact h
def ev(E:Env):Operand->Value
 | .tmp t=>E t
 | .const v=>v
 | .global g=>.pointer (some ⟨g,0,none⟩)
 | .func f=>.func (.func f) #[] #[]
structure Fits[Fc](n:Nat)(a:Act)(E:Env):Prop where
 size:a.tmps.size=n
 defers:a.defers=Fc.ds
 tmps:∀t,a.tmps.getD t undef=E t
def Fits.eval[Fc][Fb]{n:Nat}{a:Act}{E:Env}(h:Fits n a E):a.eval=ev E:=by
 funext x;cases x with
 | tmp t=>exact h.tmps t
 | _=>rfl
def Fits.put[Fc][Fb]{n d:Nat}{a:Act}{E:Env}(h:Fits n a E)(hd:d<n)(v:Value):Fits n (a.put (some d) v) (upd E d v):=by
 refine⟨by simpa[Act.put]using h.size,h.defers,λt=>?_⟩;unfold upd;cases hs:Nat.beq t d with
 | true=>
  have:=gj hs;subst this;have c:t<a.tmps.size:=by rw[h.size];exact hd
  simp[Act.put,c]
 | false=>
  have b:d≠t:=λe=>by subst e;simp at hs
  have:=h.tmps t;simp only[Act.put,cond_false];rw[←this];simp[am b]
abbrev zaY:=Exit->Env->K->Prop
def zqJ[Fc][Fb](n:Nat)(C:Cx)(Q:zaY):Exit->Act->World->Prop:=
 λe a w=>∃E κ d,Fits n a E/\w=W C κ d/\Q e E κ
def zzM[Fc][Fb]{n:Nat}{C:Cx}{Q Q':zaY}(h:∀e E κ,Q e E κ->Q' e E κ):∀e a w,zqJ n C Q e a w->zqJ n C Q' e a w:=
 λ_ _ _ ⟨E,κ,d,hf,hw,hq⟩=>⟨E,κ,d,hf,hw,h _ _ _ hq⟩
def cwp[Fc][Fb](P:Program)(n:Nat)(c:Code)(Q:zaY)(E:Env)(κ:K):Prop:=
 ∀C d a,Fits n a E->c.wpIn FF 0 P (zqJ n C Q) a (W C κ d)
def zBB[Fc][Fb]{P:Program}{n:Nat}{c:Code}{Q Q':zaY}{E:Env}{κ:K}(h:cwp P n c Q E κ)(hq:∀e E κ,Q e E κ->Q' e E κ):cwp P n c Q' E κ:=
 λC d a b=>wpIn_mono (h C d a b) (zzM hq)
def zgY(i:Nat):Code->Code
 | .seq a b=>if i=0 then a else b
 | .cond _ a b=>if i=0 then a else b
 | .block _ b=>b
 | .loop b=>b
 | .scope b=>b
 | .rangeFunc _ _ a b=>if i=0 then a else b
 | c=>c
def sub(c:Code):List Nat->Code
 |[]=>c
 | i::p=>zgY i (sub c p)
def zB(f:Func):Code:=f.body.getD .skip
def zot:Code->Bool
 | .seq _ _=>true
 | _=>false
def zwv:Code->Bool
 | .skip=>true
 | _=>false
def zBh:Code->Bool
 | .ret=>true
 | _=>false
def zyp:Code->Bool
 | .loop _=>true
 | _=>false
def zEh:Code->Option Operand
 | .cond o _ _=>some o
 | _=>none
def zrd:Code->Bool
 | .cond _ _ _=>true
 | _=>false
def zth:Code->Operand
 | .cond o _ _=>o
 | _=>.func 0
def zsA:Code->Option Nat
 | .block id _=>some id
 | _=>none
def zyy:Code->Option Nat
 | .exit id=>some id
 | _=>none
def zcJ:Code->Option Bool
 | .region _ _ d=>some d
 | _=>none
def opsOf:Code->Array Oper
 | .region _ ops _=>ops
 | _=>#[]
section rules
variable [Fc] [Fb] {P:Program} {n:Nat} {c:Code} {Q:zaY} {E:Env} {κ:K} {p:List Nat}
def zdJ[Fb](P:Program)(n:Nat)(c:Code)(Q:zaY):zaY:=λe E κ=>
 match e with
 | .normal=>cwp P n c Q E κ
 | e=>Q e E κ
def zy9(h:zot (sub c p)=true)(hx:cwp P n (sub c (0::p)) (zdJ P n (sub c (1::p)) Q) E κ):cwp P n (sub c p) Q E κ:=by
 have i:sub c (0::p)=zgY 0 (sub c p):=rfl;have k:sub c (1::p)=zgY 1 (sub c p):=rfl;rw[i,k]at hx;clear i k;generalize sub c p=s at *;cases s<;>simp[zot]at h;rename_i x y;intro C d a l;have f:cwp P n x (zdJ P n y Q) E κ:=hx;refine wpIn_seq (wpIn_mono (f C d a l) ?_);rintro e a' w' ⟨m,κ',j,b,rfl,g⟩;cases e with
 | normal=>exact g C j a' b
 | _=>exact⟨m,κ',j,b,rfl,g⟩
def zxT(h:zwv (sub c p)=true)(hq:Q .normal E κ):cwp P n (sub c p) Q E κ:=by
 generalize sub c p=s at *;cases s<;>simp[zwv]at h;intro C d a b;exact wpIn_skip ⟨E,κ,d,b,rfl,hq⟩
def zCy(h:zBh (sub c p)=true)(hq:Q .ret E κ):cwp P n (sub c p) Q E κ:=by
 generalize sub c p=s at *;cases s<;>simp[zBh]at h;intro C d a b;exact wpIn_ret ⟨E,κ,d,b,rfl,hq⟩
def zBC{id:Nat}(h:zyy (sub c p)=some id)(hq:Q (.exit id) E κ):cwp P n (sub c p) Q E κ:=by
 generalize sub c p=s at *;cases s<;>simp[zyy]at h;subst h;intro C d a b;exact wpIn_exit ⟨E,κ,d,b,rfl,hq⟩
def zuX(b:Bool)(h:zrd (sub c p)=true)(hb:ev E (zth (sub c p))=.bool b)(ht:b=true->cwp P n (sub c (0::p)) Q E κ)(he:b=false->cwp P n (sub c (1::p)) Q E κ):cwp P n (sub c p) Q E κ:=by
 have i:sub c (0::p)=zgY 0 (sub c p):=rfl;have g:sub c (1::p)=zgY 1 (sub c p):=rfl;rw[i]at ht;rw[g]at he;clear i g;generalize sub c p=s at *;cases s<;>simp[zrd]at h;rename_i o x y;intro C d a f;have e:a.eval o=.bool b:=by rw[f.eval];exact hb
 cases b with
 | true=>exact wpIn_cond e ((ht rfl) C d a f)
 | false=>exact wpIn_cond e ((he rfl) C d a f)
def zdI(id:Nat)(Q:zaY):zaY:=λe E κ=>
 match e with
 | .exit id'=>if id'=id then Q .normal E κ else Q (.exit id') E κ
 | e=>Q e E κ
def zz8{id:Nat}(h:zsA (sub c p)=some id)(hx:cwp P n (sub c (0::p)) (zdI id Q) E κ):cwp P n (sub c p) Q E κ:=by
 have l:sub c (0::p)=zgY 0 (sub c p):=rfl;rw[l]at hx;clear l;generalize sub c p=s at *;cases s<;>simp[zsA]at h;rename_i id' x;subst h;intro C d a m;have g:cwp P n x (zdI id' Q) E κ:=hx;refine wpIn_block (wpIn_mono (g C d a m) ?_);rintro e a' w' ⟨j,κ',k,b,rfl,f⟩;cases e with
 | exit i=>
  simp only[Exit.inBlock];simp only[zdI]at f;split
  ·rename_i hi;rw[if_pos hi]at f;exact⟨j,κ',k,b,rfl,f⟩
  ·rename_i hi;rw[if_neg hi]at f;exact⟨j,κ',k,b,rfl,f⟩
 | _=>exact⟨j,κ',k,b,rfl,f⟩
def zem(I:Nat->Env->K->Prop)(h:zyp (sub c p)=true)(m:Nat)(h0:I m E κ)(round:∀m E κ,I m E κ->cwp P n (sub c (0::p)) (λe g κ'=>match e with
   | .normal=>∃k,k<m/\I k g κ'
   | e=>Q e g κ') E κ):cwp P n (sub c p) Q E κ:=by
 have t:sub c (0::p)=zgY 0 (sub c p):=rfl;rw[t]at round;clear t;generalize sub c p=s at *;cases s<;>simp[zyp]at h;rename_i x;intro C d a l;obtain⟨f,b⟩:∃f:Act->World->Nat->Prop,f=λa w m=>∃E κ d,Fits n a E/\w=W C κ d/\I m E κ:=⟨_,rfl⟩;refine zvb f m (by rw[b];exact⟨E,κ,d,l,rfl,h0⟩) ?_;intro m a w j;rw[b]at j;obtain⟨E,κ,d,l,rfl,j⟩:=j;refine wpIn_mono (round m E κ j C d a l) ?_;rintro e a' w' ⟨g,κ',v,i,rfl,u⟩;cases e with
 | normal=>obtain⟨k,q,r⟩:=u;rw[b];exact⟨k,q,g,κ',v,i,rfl,r⟩
 | _=>exact⟨g,κ',v,i,rfl,u⟩
end rules
def zvW[Fc][Fb]{P:Program}{n:Nat}{c:Code}{Q:zaY}{E:Env}{κ κ':K}(h:κ'.H=κ.H)(hk:cwp P n c Q E κ'):cwp P n c Q E κ:=by
 intro C d a b;have e:W C κ d=W C κ' d:=by unfold W;rw[h]
 rw[e];exact hk C d a b
def zzw(fn:Func)(E:Env):Sem Value:=do
 let vs ←fn.results.mapM fun
  | .tmp t=>pure (E t)
  | .cell a t=>do loadVar t (←asAddr (E a))
 pure (if h:vs.size=1 then vs[0]else .tuple vs)
def zwh[Fc][Fb]{n:Nat}{a:Act}{E:Env}(h:Fits n a E)(fn:Func):results fn a.tmps=zzw fn E:=by
 unfold results zzw;simp only[h.tmps];congr 1
def zlS[Fb](P:Program)(fn:Func)(R:Value->K->Prop):zaY:=λe E κ=>
 match e with
 | .normal | .ret=>∃v,(∀C d,(zzw fn E).run P (W C κ d)=.ok v (W C κ d))/\R v κ
 | _=>False
def zuV(args:Array Value):Env:=λt=>args.getD t undef
def zz1[Fb]{P:Program}{f:FuncId}{fn:Func}{c:Code}{n:Nat}{args:Array Value}{κ:K}{R:Value->K->Prop}(hf:P.funcs[f]?=some fn)(hb:fn.body=some c)(hn:fn.ntmps=n)(ha:args.size<=n)(h:cwp P n c (zlS P fn R) (zuV args) κ):Fn P f args κ R:=by
 intro C d;have b:Fits n {tmps:=args++Array.replicate (fn.ntmps - args.size) undef,defers:=[]} (zuV args):=by
  refine⟨by simp[hn];omega,rfl,λt=>?_⟩;unfold zuV;by_cases m:t<args.size
  ·simp[ab,m]
  ·by_cases g:t - args.size<fn.ntmps - args.size
   ·simp[ab,m,g]
   ·simp[ab,m,g]
 refine calls_of_wp hf hb (wp_mono (wpIn_wide.1 (h C d _ b)) ?_);rintro e a' w' ⟨p,κ',i,a,rfl,j⟩;cases e with
 | normal=>
  obtain⟨v,l,k⟩:=j;exact⟨a.defers,v,by rw[zwh a];exact l C i,v,κ',i,rfl,rfl,k⟩
 | ret=>
  obtain⟨v,l,k⟩:=j;exact⟨a.defers,v,by rw[zwh a];exact l C i,v,κ',i,rfl,rfl,k⟩
 | _=>exact j.elim
def zx(c:Code)(i:Nat):Oper:=((opsOf c)[i]?).getD default
def dstOf(c:Code)(i:Nat):Nat:=((zx c i).dst).getD 0
def zbR(c:Code)(i:Nat)(E:Env):Bool:=
 match(zx c i).guard with
 | none=>true
 | some (j,w)=>
  match((opsOf c)[j]?).bind (·.dst)with
  | some t=>match E t with
   | .bool b=>b == w
   | _=>false
  | none=>false
def st(c:Code)(i n:Nat)(E:Env)(d:Option Nat):Bool:=
 decide (i<(opsOf c).size)&&zbR c i E&&((zx c i).dst == d)&&d.all (λt=>decide (t<n))
def sk(c:Code)(i n:Nat)(E:Env)(d:Nat):Bool:=
 decide (i<(opsOf c).size)&&!zbR c i E&&((zx c i).dst == some d)&&decide (d<n)
def zj8[Fc][Fb]{n:Nat}{a:Act}{E:Env}(h:Fits n a E)(c:Code)(i:Nat):
  Region.wanted (zx c i) (yielded (opsOf c) a.tmps)=zbR c i E:=by
 unfold Region.wanted zbR yielded;cases hg:(zx c i).guard with
 | none=>rfl
 | some g=>
  obtain⟨j,w⟩:=g;simp only[];cases hd:((opsOf c)[j]?).bind (·.dst)with
  | none=>simp
  | some t=>
   simp only[ic];have b:=h.tmps t;by_cases hs:t<a.tmps.size
   ·have:a.tmps[t]?=some (E t):=by
     rw[←b];simp[hs]
    rw[this];cases E t<;>simp
   ·have d:a.tmps[t]?=none:=Array.getElem?_eq_none (Nat.le_of_not_lt hs);have e:E t=undef:=by rw[←b];simp[hs]
    rw[d,e];rfl
def zjq{c:Code}{i:Nat}(h:i<(opsOf c).size):(opsOf c)[i]?=some (zx c i):=by
 unfold zx;simp[h]
def owp[Fc][Fb](P:Program)(n:Nat)(c:Code)(i:Nat)(Q:zaY)(E:Env)(κ:K):Prop:=
 ∀C d a,Fits n a E->wpOpsIn FF 0 P (opsOf c) (zqJ n C Q) (List.range' i ((opsOf c).size - i)) a (W C κ d)
section
variable [Fc] [Fb] {P:Program} {n:Nat} {c:Code} {i:Nat} {Q:zaY} {E:Env} {κ:K}
def zrr{c0:Code}{p:List Nat}(h:zcJ (sub c0 p)=some false)(hx:owp P n (sub c0 p) 0 Q E κ):cwp P n (sub c0 p) Q E κ:=by
 generalize sub c0 p=s at *;cases s<;>simp[zcJ]at h;subst h;intro C d a b;refine wpIn_region ?_;have:=hx C d a b;simpa[List.range_eq_range',opsOf]using this
def zmC{i m:Nat}(h:i<m):List.range' i (m - i)=i::List.range' (i+1) (m - (i+1)):=by
 have:m - i=(m - (i+1))+1:=by omega
 rw[this,List.range'_succ]
def zr0(h:decide ((opsOf c).size<=i)=true)(hq:Q .normal E κ):owp P n c i Q E κ:=by
 intro C d a b;have h':(opsOf c).size - i=0:=by have:=of_decide_eq_true h;omega
 rw[h'];exact⟨E,κ,d,b,rfl,hq⟩
def zh8{d:Option Nat}(h:st c i n E d=true):i<(opsOf c).size/\zbR c i E=true/\(zx c i).dst=d/\∀t,d=some t->t<n:=by
 unfold st at h;simp only[aw,decide_eq_true_eq,beq_iff_eq]at h;refine⟨h.1.1.1,h.1.1.2,h.1.2,λt a=>?_⟩;subst a;simpa using h.2
def znn{d:Option Nat}(h:st c i n E d=true)(hr:∀C b (a:Act),Fits n a E->
  (zx c i).wpIn FF 0 P a (W C κ b) (wpOpsIn FF 0 P (opsOf c) (zqJ n C Q) (List.range' (i+1) ((opsOf c).size - (i+1)))) (zqJ n C Q)):owp P n c i Q E κ:=by
 obtain⟨f,g,k,j⟩:=zh8 h;intro C b a e;rw[zmC f,wpOpsIn];simp only[zjq f];rw[zj8 e,g,if_pos rfl];exact hr C b a e
def zie{d:Nat}{κ':K}(v:Value)(h:st c i n E (some d)=true)(hr:∀C b,(execOp (ev E) (zx c i)).run P (W C κ b)=.ok (.value v) (W C κ' b))(hk:owp P n c (i+1) Q (upd E d v) κ'):owp P n c i Q E κ:=by
 refine znn h λC b a e=>?_;obtain⟨k,j,g,f⟩:=zh8 h;refine zme (by rw[e.eval];exact hr C b) ?_;rw[g];exact hk C b _ (e.put (f d rfl) v)
def zrY{d:Nat}(v:Value)(h:st c i n E (some d)=true)(hr:∀w,(execOp (ev E) (zx c i)).run P w=.ok (.value v) w)(hk:owp P n c (i+1) Q (upd E d v) κ):owp P n c i Q E κ:=zie v h (λ_ _=>hr _) hk
def zgj{d:Nat}(R:Value->K->Prop)(h:st c i n E (some d)=true)(hr:∀C b,∃v κ' d1,(execOp (ev E) (zx c i)).run P (W C κ b)=.ok (.value v) (W C κ' d1)/\R v κ')(hk:∀v κ',R v κ'->owp P n c (i+1) Q (upd E d v) κ'):owp P n c i Q E κ:=by
 refine znn h λC b a f=>?_;obtain⟨m,l,k,g⟩:=zh8 h;obtain⟨v,κ',d1,e,j⟩:=hr C b;refine zme (by rw[f.eval];exact e) ?_;rw[k];exact hk v κ' j C d1 _ (f.put (g d rfl) v)
def zAY{κ':K}(h:st c i n E none=true)(hr:∀C b,(execOp (ev E) (zx c i)).run P (W C κ b)=.ok .skip (W C κ' b))(hk:owp P n c (i+1) Q E κ'):owp P n c i Q E κ:=by
 refine znn h λC b a d=>?_;obtain⟨j,f,e,g⟩:=zh8 h;refine zwP (by rw[d.eval];exact hr C b) ?_;rw[e];exact hk C b _ d
def ziQ{κ':K}(h:κ'.H=κ.H)(hk:owp P n c i Q E κ'):owp P n c i Q E κ:=by
 intro C d a b;have e:W C κ d=W C κ' d:=by unfold W;rw[h]
 rw[e];exact hk C d a b
def zT{F:Env}(h:E=F)(hk:owp P n c i Q F κ):owp P n c i Q E κ:=by rw[h];exact hk
def zAZ{d:Nat}{f:FuncId}{args:Array Value}{R:Value->K->Prop}(h:st c i n E (some d)=true)(hr:∀w,(execOp (ev E) (zx c i)).run P w=.ok (.enter f args) w)(hf:Fn P f args κ R)(hk:∀v κ',R v κ'->owp P n c (i+1) Q (upd E d v) κ'):owp P n c i Q E κ:=by
 refine znn h λC g a b=>?_;obtain⟨q,p,m,j⟩:=zh8 h;refine zq0 (by rw[b.eval];exact hr _) ?_;refine(hf C g).mono ?_;rintro e w' ⟨v,κ',l,rfl,rfl,k⟩;simp only[m];exact hk v κ' k C l _ (b.put (j d rfl) v)
def zAX{d:Nat}(h:sk c i n E d=true)(hk:owp P n c (i+1) Q (upd E d undef) κ):owp P n c i Q E κ:=by
 unfold sk at h;simp only[aw,decide_eq_true_eq,beq_iff_eq,ba]at h;obtain⟨⟨⟨e,g⟩,k⟩,j⟩:=h;intro C f a b;rw[zmC e,wpOpsIn];simp only[zjq e];rw[zj8 b,g,if_neg si,k];exact⟨λ_ _=>trivial,hk C f _ (b.put j undef)⟩
end
def zD2(P:Program)(Rel:K->K->Prop)[Fb](C:Cx)(κ:K)(R:Value->K->Prop):Result Next->Prop
 | .ok (.value v) w'=>∃κ' d',w'=W C κ' d'/\Rel κ κ'/\R v κ'
 | .ok (.enter f args) w'=>∃κ' d',w'=W C κ' d'/\Rel κ κ'/\Fn P f args κ' (λv κ''=>Rel κ' κ''/\R v κ'')
 | _=>False
def OpQ[Fb](P:Program)(Rel:K->K->Prop)(c:Code)(i:Nat)(E:Env)(κ:K)(R:Value->K->Prop):Prop:=
 (zbR c i E=true->∀C d,zD2 P Rel C κ R ((execOp (ev E) (zx c i)).run P (W C κ d)))/\(zbR c i E=false->R undef κ)
def zDZ(c:Code):Bool:=
 (List.range (opsOf c).size).all λi=>(zx c i).after.all λe=>!Region.binds .any e||decide (e.on<i)
def dep(c:Code)(i j:Nat):Bool:=(zx c i).after.any λe=>Region.binds .any e&&e.on == j
def zCU(c:Code)(n k:Nat):Bool:=
 (List.range k).all λi=>((zx c i).dst == some (dstOf c i))&&decide (dstOf c i<n)&&((List.range i).all λj=>dstOf c j != dstOf c i)
def zo7(k m:Nat):Array Bool:=(Array.range m).map λi=>decide (i<k)
def znP(c:Code)(n k:Nat):Bool:=
 decide (k<=(opsOf c).size)&&zDZ c&&zCU c n k &&
 (decide (k=(opsOf c).size)||(Region.sinkB .any (opsOf c) k&&Region.chainB .any (opsOf c) k)) &&
 Region.seqB .any (opsOf c) ((opsOf c).size - k) k (zo7 k (opsOf c).size)
def unl(listed:Array Bool)(k:Nat):Nat:=((List.range k).filter λi=>!listed.getD i false).length
def zyM{listed:Array Bool}{k i:Nat}(hi:i<k)(hs:i<listed.size)(hl:listed.getD i false=false):
  unl (listed.setIfInBounds i true) k+1=unl listed k:=by
 unfold unl
 induction k with
 | zero=>omega
 | succ k ih=>
  rw[fz,ce,ce,dy,dy];by_cases a:i=k
  ·subst a;have c:List.filter (λj=>!(listed.setIfInBounds i true).getD j false) (List.range i)=List.filter (λj=>!listed.getD j false) (List.range i):=by
    apply List.filter_congr;intro j d;have:i≠j:=by have:=fp.1 d;omega
    simp[am this]
   rw[c];have b:(listed.setIfInBounds i true).getD i false=true:=by simp[hs]
   simp only[List.filter_cons,List.filter_nil,b,hl];simp
  ·have c:=ih om;have b:(listed.setIfInBounds i true).getD k false=listed.getD k false:=by
    simp[am a]
   simp only[List.filter_cons,List.filter_nil,b];omega
def zwQ{listed:Array Bool}{k:Nat}(h:unl listed k=0):∀i,i<k->listed.getD i false=true:=by
 intro i hi;unfold unl at h;have h':=List.length_eq_zero_iff.1 h;rw[List.filter_eq_nil_iff]at h';have:=h' i (fp.2 hi);simpa using this
def zyN{listed:Array Bool}{k m:Nat}(h:unl listed k=m+1):∃i,i<k/\listed.getD i false=false/\∀j,j<i->listed.getD j false=true:=by
 have f:∃i,i<k/\listed.getD i false=false:=by
  unfold unl at h;have e:(List.range k).filter (λi=>!listed.getD i false)≠[]:=by
   intro l;rw[l]at h;simp at h
  obtain⟨x,g⟩:=List.exists_mem_of_ne_nil _ e;rw[fi]at g;exact⟨x,fp.1 g.1,by simpa using g.2⟩
 have key:∀i,i<k->listed.getD i false=false->∃i,i<k/\listed.getD i false=false/\∀j,j<i->listed.getD j false=true:=by
  intro i
  induction i using Nat.strongRecOn with
  | _ i ih=>
   intro hi c;by_cases a:∀j,j<i->listed.getD j false=true
   ·exact⟨i,hi,c,a⟩
   ·have b:∃j,j<i/\listed.getD j false=false:=Classical.byContradiction λn=>
     a λj b=>by
      cases hb:listed.getD j false with
      | true=>rfl
      | false=>exact absurd ⟨j,b,hb⟩ n
    obtain⟨j,b,d⟩:=b;exact ih j b om d
 obtain⟨i,hi,c⟩:=f;exact key i hi c
section
variable [Fc] [Fb] {P:Program} {n:Nat} {c:Code} {Q:zaY} {E:Env} {κ:K} {k:Nat}
def Rl(i0 i:Nat)(A B:K->K->Prop):K->K->Prop:=bif Nat.beq i i0 then A else B
def zCX{i0 i:Nat}{A B:K->K->Prop}(h:∀κ1 κ2,B κ1 κ2->A κ1 κ2){κ1 κ2:K}(hr:Rl i0 i A B κ1 κ2):A κ1 κ2:=by
 unfold Rl at hr;cases hb:Nat.beq i i0 with
 | false=>rw[hb]at hr;exact h _ _ hr
 | true=>rw[hb]at hr;exact hr
def zCW{i0 i:Nat}{A B:K->K->Prop}(hne:i≠i0){κ1 κ2:K}(hr:Rl i0 i A B κ1 κ2):B κ1 κ2:=by
 unfold Rl at hr;cases hb:Nat.beq i i0 with
 | false=>rw[hb]at hr;exact hr
 | true=>exact absurd (gj hb) hne
def zCI{i0 i j:Nat}{A B:K->K->Prop}(h:∀κ1 κ2,B κ1 κ2->A κ1 κ2)(hji:j≠i){κ1 κ2:K}(hr:Rl i0 i A B κ1 κ2):Rl i0 j B A κ1 κ2:=by
 unfold Rl;cases hb:Nat.beq j i0 with
 | false=>exact zCX h hr
 | true=>
  have:=gj hb;subst this;exact zCW (Ne.symm hji) hr
def zCH{i0 i:Nat}{A B:K->K->Prop}(h:∀κ1 κ2,B κ1 κ2->A κ1 κ2)(rr:∀κ,B κ κ){κ:K}:Rl i0 i A B κ κ:=by
 unfold Rl;cases Nat.beq i i0 with
 | false=>exact rr κ
 | true=>exact h _ _ (rr κ)
def zBM{i0 i:Nat}{A B:K->K->Prop}(ta:∀κ1 κ2 κ3,A κ1 κ2->A κ2 κ3->A κ1 κ3)(tb:∀κ1 κ2 κ3,B κ1 κ2->B κ2 κ3->B κ1 κ3){κ1 κ2 κ3:K}(h:Rl i0 i A B κ1 κ2)(h':Rl i0 i A B κ2 κ3):Rl i0 i A B κ1 κ3:=by
 unfold Rl at *;cases hb:Nat.beq i i0 with
 | false=>rw[hb]at h h';exact tb _ _ _ h h'
 | true=>rw[hb]at h h';exact ta _ _ _ h h'
structure DInv(q0:Nat)(Rel0 Rel1:K->K->Prop)(n:Nat)(c:Code)(E:Env)(κ:K)(k:Nat)(S:Nat->Value->K->Prop)(listed:Array Bool)(E':Env)(κ':K):Prop where
 head:HeadInv .any (opsOf c) k listed
 step:Rel0 κ κ'
 pre:listed.getD q0 false=false->Rel1 κ κ'
 off:∀t,(∀j,j<k->t≠dstOf c j)->E' t=E t
 done:∀j,j<k->listed.getD j false=true->S j (E' (dstOf c j)) κ'
def zxU{c0:Code}{p:List Nat}(q0:Nat)(Rel0 Rel1:K->K->Prop)(rr:∀κ,Rel1 κ κ)(rt0:∀κ1 κ2 κ3,Rel0 κ1 κ2->Rel0 κ2 κ3->Rel0 κ1 κ3)(rt1:∀κ1 κ2 κ3,Rel1 κ1 κ2->Rel1 κ2 κ3->Rel1 κ1 κ3)(r10:∀κ1 κ2,Rel1 κ1 κ2->Rel0 κ1 κ2)(k:Nat)(S:Nat->Value->K->Prop)(h:zcJ (sub c0 p)=some true)(hm:P.follows .mixedOrders=true)(hB:znP (sub c0 p) n k=true)(mono:∀i v κ1 κ2,i<k->S i v κ1->Rl q0 i Rel1 Rel0 κ1 κ2->S i v κ2)(hop:∀i,i<k->∀u κ',Rl q0 i Rel1 Rel0 κ κ'->(∀t,(∀j,j<k->t≠dstOf (sub c0 p) j)->u t=E t)->
   (∀j,j<k->dep (sub c0 p) i j=true->S j (u (dstOf (sub c0 p) j)) κ')->OpQ P (Rl q0 i Rel0 Rel1) (sub c0 p) i u κ' (S i))(fin:∀u κ',Rel0 κ κ'->(∀t,(∀j,j<k->t≠dstOf (sub c0 p) j)->u t=E t)->(∀j,j<k->S j (u (dstOf (sub c0 p) j)) κ')->
   owp P n (sub c0 p) k Q u κ'):cwp P n (sub c0 p) Q E κ:=by
 generalize sub c0 p=s at *;unfold znP at hB;simp only[aw,decide_eq_true_eq,Bool.or_eq_true]at hB;obtain⟨⟨⟨⟨hk,a3⟩,b3⟩,a0⟩,a7⟩:=hB;have N:∀i o,(opsOf s)[i]?=some o->∀e∈o.after,Region.binds .any e=true->e.on<i:=by
  intro i o hi e U l;have c3:i<(opsOf s).size:=(ai.1 hi).1;have G:=bi.1 a3 i (fp.2 c3);have ho:zx s i=o:=by unfold zx;rw[hi];rfl
  rw[ho]at G;have h2:=(Array.all_eq_true_iff_forall_mem.1 G) e U;simpa[l]using h2
 have w:∀i,i<k->(zx s i).dst=some (dstOf s i)/\dstOf s i<n/\∀j,j<i->dstOf s j≠dstOf s i:=by
  intro i hi;have G:=bi.1 b3 i (fp.2 hi);simp only[aw,beq_iff_eq,decide_eq_true_eq]at G;refine⟨G.1.1,G.1.2,λj D=>?_⟩;have:=bi.1 G.2 j (fp.2 D);simpa using this
 have a9:∀i j,i<k->j<k->i≠j->dstOf s i≠dstOf s j:=by
  intro i j hi D c4;rcases gu c4 with h | h
  ·exact(w j D).2.2 i h
  ·exact((w i hi).2.2 j h).symm
 cases s<;>simp[zcJ]at h;rename_i id ops dr;subst h;simp only[opsOf]at *;have b2:∀m b u κ' C d a,Fits n a u->DInv q0 Rel0 Rel1 n (.region id ops true) E κ k S b u κ'->unl b k=m->
   wpAnyIn FF 0 P .any ops (zqJ n C Q) (m+(ops.size - k)) b a (W C κ' d):=by
  intro m
  induction m with
  | zero=>
   intro b u κ' C d a hf c hu;have B:=zwQ hu;have Z:b=zo7 k ops.size:=by
    apply Array.ext
    ·simp[zo7];exact c.head.size
    ·intro i G h2;simp only[zo7,Array.getElem_map,Array.getElem_range];by_cases g:i<k
     ·have:=B i g;simp[G]at this;rw[this];simp[g]
     ·have:=c.head.tail i om (by rw[←c.head.size];exact G);simp[G]at this;rw[this];simp[g]
   subst Z;have c8:=fin u κ' c.step c.off (λj D=>c.done j D (B j D)) C d a hf;have T:=zmf (F:=FF) (n:=0) (P:=P) (md:=.any) (ops:=ops) (Q':=zqJ n C Q) (ops.toList.drop k) k (zo7 k ops.size) a (W C κ' d)
    (λj=>by simp[cw]) (by simpa using a7) (by
     have U:=wpOpsIn_eq_wpListIn (F:=FF) (n:=0) (P:=P) (ops:=ops) (Q:=zqJ n C Q) (ops.toList.drop k) k (λj=>by simp[cw]);have hlen:(ops.toList.drop k).length=ops.size - k:=by simp
     rw[hlen]at U;rw[←U];exact c8)
   have hlen:(ops.toList.drop k).length=ops.size - k:=by simp
   rw[hlen]at T;simpa using T
  | succ m ih=>
   intro b u κ' C d a hf c hu;obtain⟨O,c9,Y,a8⟩:=zyN hu;have A:O<ops.size:=by omega
   have q:O∈Region.ready .any ops b:=by
    refine mem_ready.2 ⟨?_,ops[O],by simp[A],?_⟩
    ·have:O<b.size:=by rw[c.head.size];exact A
     simp[this]at Y ⊢;exact Y
    ·intro e U l;exact a8 e.on (N O ops[O] (by simp[A]) e U l)
   have d0:m+1+(ops.size - k)=(m+(ops.size - k))+1:=by omega
   rw[d0];refine⟨λh0=>(by rw[h0]at q;cases q),λi hi=>?_⟩;obtain⟨b8,oi,a4,B⟩:=mem_ready.1 hi;have a5:i<ops.size:=(ai.1 a4).1;have g:i<k:=by
    rcases gt i k with h | h
    ·exact h
    ·rcases a0 with ht |⟨hs,hc⟩
     ·omega
     ·have a6:b.getD O true=false:=getD_in (by rw[c.head.size];exact A) Y;exact absurd hi (tail_waits hs hc om c.head _ O rfl c9 a6 i h)
   have L:zx (.region id ops true) i=oi:=by unfold zx opsOf;rw[a4];rfl
   obtain⟨c6,c2,d7⟩:=w i g;have b7:Rl q0 i Rel1 Rel0 κ κ':=by
    unfold Rl;cases l:Nat.beq i q0 with
    | false=>exact c.step
    | true=>have:=gj l;subst this;exact c.pre (getD_both b8)
   have V:=hop i g u κ' b7 c.off (λj D I=>by
    refine c.done j D ?_;unfold dep at I;rw[L]at I;obtain⟨e,U,l⟩:=Array.any_eq_true'.1 I;simp only[aw,beq_iff_eq]at l;have:=B e U l.1;rw[l.2]at this;exact this)
   have c5:b.getD i false=false:=getD_both b8;have R:i<b.size:=by rw[c.head.size];exact a5
   have H:∀v κ2 X,Rl q0 i Rel0 Rel1 κ' κ2->S i v κ2->wpAnyIn FF 0 P .any ops (zqJ n C Q) (m+(ops.size - k)) (b.setIfInBounds i true) (a.put oi.dst v) (W C κ2 X):=by
    intro v κ2 X z hS;rw[←L,c6];refine ih _ (upd u (dstOf (.region id ops true) i) v) κ2 C X _ (hf.put c2 v) ⟨c.head.set hi g,?_,?_,λt ht=>?_,λj D b9=>?_⟩ ?_
    ·exact rt0 _ _ _ c.step (zCX r10 z)
    ·intro a1;have J:i≠q0:=λe=>by
      subst e;simp[R]at a1
     rw[getD_set_ne false J]at a1;have b5:Rel1 κ' κ2:=zCW J z;exact rt1 _ _ _ (c.pre a1) b5
    ·have J:=ht i g;unfold upd;have l:Nat.beq t (dstOf (.region id ops true) i)=false:=by
      cases l:Nat.beq t (dstOf (.region id ops true) i)with
      | false=>rfl
      | true=>exact absurd (gj l) J
     rw[l];exact c.off t ht
    ·by_cases M:j=i
     ·subst M;unfold upd;rw[Nat.beq_refl];exact hS
     ·have l:Nat.beq (dstOf (.region id ops true) j) (dstOf (.region id ops true) i)=false:=by
       cases l:Nat.beq (dstOf (.region id ops true) j) (dstOf (.region id ops true) i)with
       | false=>rfl
       | true=>exact absurd (gj l) (a9 j i D g M)
      unfold upd;rw[l];refine mono j _ κ' κ2 D (c.done j D ?_) (zCI r10 M z);rw[getD_set_ne false (Ne.symm M)]at b9;exact b9
    ·have:=zyM g R c5;omega
   unfold wpOpIn;simp only[a4];have y:=zj8 hf (.region id ops true) i;rw[L]at y;simp only[opsOf]at y;rw[y];cases hw:zbR (.region id ops true) i u with
   | false=>
    rw[if_neg si];exact⟨λ_ _=>trivial,H undef κ' d (zCH r10 rr) (V.2 hw)⟩
   | true=>
    rw[if_pos rfl];have hq:=V.1 hw C d;rw[L,←hf.eval]at hq;generalize hrr:(execOp a.eval oi).run P (W C κ' d)=r at *;cases r with
    | halt x w'=>exact hq.elim
    | ok nx w'=>
     cases nx with
     | value v=>
      obtain⟨κ2,X,rfl,z,hS⟩:=hq;exact zme hrr (H v κ2 X z hS)
     | enter f args=>
      obtain⟨κ2,X,rfl,z,c7⟩:=hq;refine zq0 hrr ?_;refine(c7 C X).mono ?_;rintro e w2 ⟨v,κ3,d3,rfl,rfl,c1,hS⟩;exact H v κ3 d3 (zBM rt0 rt1 z c1) hS
     | _=>exact hq.elim
 intro C d a hf;refine wpIn_region_any hm ?_;have b0:DInv q0 Rel0 Rel1 n (.region id ops true) E κ k S (Array.replicate ops.size false) E κ:=by
  refine⟨⟨by simp[opsOf],λj oj _ T=>?_,λt _ ht=>?_⟩,r10 _ _ (rr _),λ_=>rr _,λ_ _=>rfl,λj _ T=>?_⟩
  ·rw[getD_replicate_false]at T;cases T
  ·exact getD_in (by simpa[opsOf]using ht) (getD_replicate_false _ _)
  ·rw[getD_replicate_false]at T;cases T
 have hu:unl (Array.replicate ops.size false) k=k:=by
  unfold unl;rw[cj.2 (λi _=>by rw[getD_replicate_false];rfl)];simp
 have hm':=b2 k (Array.replicate ops.size false) E κ C (d+1) a hf b0 hu;have hsz:k+(ops.size - k)=ops.size:=by omega
 rw[hsz]at hm';exact hm'
end
def I64(n:Int):Prop := -9223372036854775808<=n/\n<=9223372036854775807
def zl8(κ:K)(b off:Nat)(cs:List Value):Prop:=∀j v,cs[j]?=some v->κ.cell b (off+j)=some v
def PubAt(κ:K)(b off:Nat)(cs:List Value):Prop:=b<κ.H.size/\off+cs.length<=κ.fr b/\zl8 κ b off cs
def PubAt.step{M:List Nat}{κ κ':K}{b off:Nat}{cs:List Value}(s:Step M κ κ')(h:PubAt κ b off cs):PubAt κ' b off cs:=by
 obtain⟨a,e,f⟩:=h;refine⟨gq a s.1,gm e (s.2.2.1 b a).1,λj v c=>?_⟩;have d:j<cs.length:=(dg.1 c).1;rw[(s.2.2.1 b a).2 (off+j) om];exact f j v c
def At(κ:K)(b off:Nat)(cs:List Value):Prop:=b<κ.H.size/\zl8 κ b off cs
def PubAt.at{κ:K}{b off:Nat}{cs:List Value}(h:PubAt κ b off cs):At κ b off cs:=⟨h.1,h.2.2⟩
def At.step{M:List Nat}{κ κ':K}{b off:Nat}{cs:List Value}(s:Step M κ κ')(hm:b∉M)(h:At κ b off cs):At κ' b off cs:=by
 obtain⟨a,d⟩:=h;refine⟨gq a s.1,λj v c=>?_⟩;have:=d j v c;unfold K.cell at *;rw[(s.2.1 b a hm).1];exact this
def At.step0{κ κ':K}{b off:Nat}{cs:List Value}(s:Step [] κ κ')(h:At κ b off cs):At κ' b off cs:=h.step s si
def At.part{κ:K}{b off:Nat}{cs:List Value}(h:At κ b off cs)(i m:Nat):At κ b (off+i) ((cs.drop i).take m):=
 ⟨h.1,λj v a=>by
  rw[dv]at a;split at a
  ·rw[cw]at a;rw[Nat.add_assoc];exact h.2 (i+j) v a
  ·cases a⟩
structure Ty(α:Type) where
 size:Nat
 own:K->List Value->α->Prop
 len:∀{κ cs x},own κ cs x->cs.length=size
 step:∀{M κ κ' cs x},Step M κ κ'->own κ cs x->own κ' cs x
 one:∀{κ cs x},own κ cs x->∀v∈cs,v.oneCell'=true
def tI64:Ty Int:=⟨1,λ_ cs n=>cs=[.int .i64 n]/\I64 n,λh=>by rw[h.1];rfl,λ_ h=>h,λh v hv=>by rw[h.1]at hv;simp at hv;subst hv;rfl⟩
def tU8:Ty Int:=⟨1,λ_ cs n=>cs=[.int .u8 n]/\0<=n/\n<=255,λh=>by rw[h.1];rfl,λ_ h=>h,λh v hv=>by rw[h.1]at hv;simp at hv;subst hv;rfl⟩
def zD5:Ty Int:=⟨1,λ_ cs n=>cs=[.int .i32 n] /\ -2147483648<=n/\n<=2147483647,λh=>by rw[h.1];rfl,λ_ h=>h,λh v hv=>by rw[h.1]at hv;simp at hv;subst hv;rfl⟩
def zvw:Ty Bool:=⟨1,λ_ cs b=>cs=[.bool b],λh=>by rw[h];rfl,λ_ h=>h,λh v hv=>by rw[h]at hv;simp at hv;subst hv;rfl⟩
def zr(s:List UInt8):Value:=.string ⟨s.toArray⟩
def tStr:Ty (List UInt8):=⟨1,λ_ cs s=>cs=[zr s]/\s.length<=9223372036854775807,λh=>by rw[h.1];rfl,λ_ h=>h,λh v hv=>by rw[h.1]at hv;simp at hv;subst hv;rfl⟩
def zDI:Ty Value:=⟨1,λ_ cs v=>cs=[v]/\v.oneCell'=true,λh=>by rw[h.1];rfl,λ_ h=>h,λh v hv=>by rw[h.1]at hv;simp at hv;rw[hv];exact h.2⟩
def tPair{α β:Type}(a:Ty α)(b:Ty β):Ty (α×β):=
 ⟨a.size+b.size,λκ cs x=>∃c1 c2,cs=c1++c2/\a.own κ c1 x.1/\b.own κ c2 x.2,
  λ⟨c1,c2,h,h1,h2⟩=>by rw[h,dy,a.len h1,b.len h2],
  λs ⟨c1,c2,h,h1,h2⟩=>⟨c1,c2,h,a.step s h1,b.step s h2⟩,
  λ⟨c1,c2,h,h1,h2⟩ v hv=>by rw[h,fe]at hv;exact hv.elim (a.one h1 v) (b.one h2 v)⟩
structure Sl{α:Type}(t:Ty α)(κ:K)(a:Option Addr)(c:Nat)(l:List α):Prop where
 cap:l.length<=c
 most:l.length<=9223372036854775807
 elems:0<l.length->∃b off,a=some ⟨b,off,none⟩/\∀i x,l[i]?=some x->∃cs,PubAt κ b (off+i*t.size) cs/\t.own κ cs x
def Sl.step{α:Type}{t:Ty α}{M:List Nat}{κ κ':K}{a:Option Addr}{c:Nat}{l:List α}(s:Step M κ κ')(h:Sl t κ a c l):Sl t κ' a c l:=
 ⟨h.cap,h.most,λf=>by
  obtain⟨b,off,e,d⟩:=h.elems f;exact⟨b,off,e,λi x g=>let ⟨cs,hp,ho⟩:=d i x g;⟨cs,hp.step s,t.step s ho⟩⟩⟩
def tSl{α:Type}(t:Ty α):Ty (List α):=
 ⟨1,λκ cs l=>∃a c,cs=[.slice a l.length c]/\Sl t κ a c l,λ⟨_,_,h,_⟩=>by rw[h];rfl,λs ⟨a,c,h,hs⟩=>⟨a,c,h,hs.step s⟩,
  λ⟨_,_,h,_⟩ v hv=>by rw[h]at hv;simp at hv;subst hv;rfl⟩
def idx{α:Type}(l:List α)(i:Int):Option α:=if 0<=i then l[i.toNat]? else none
def zh6{α:Type}{l:List α}{i:Int}{x:α}(h:idx l i=some x):0<=i/\i<l.length/\l[i.toNat]?=some x:=by
 unfold idx at h;split at h
 ·rename_i h0;have:=(dg.1 h).1;exact⟨h0,by omega,h⟩
 ·cases h
def Sl.nil{α:Type}(t:Ty α)(κ:K):Sl t κ none 0 []:=⟨gl _,by simp,λh=>by simp at h⟩
def Sl.idx{α:Type}{t:Ty α}{κ:K}{a:Option Addr}{c:Nat}{l:List α}(h:Sl t κ a c l){i:Int}{x:α}(hx:idx l i=some x):
  ∃b off,a=some ⟨b,off,none⟩/\0<=i/\i<(l.length:Int)/\∃cs,PubAt κ b (off+i.toNat*t.size) cs/\t.own κ cs x:=by
 obtain⟨k,j,g⟩:=zh6 hx;have m:0<l.length:=by omega
 obtain⟨b,off,f,e⟩:=h.elems m;obtain⟨cs,hp,d⟩:=e _ _ g;exact⟨b,off,f,k,j,cs,hp,d⟩
def zeD(P:Program)(T:TypeId):Option Bool:=
 match P.underlying T with
 | some (.struct _) | some (.array _ _)=>some true
 | some _=>some false
 | none=>none
def zM(P:Program)(T:TypeId):Option Nat:=(P.info? T).map (·.size)
def zm8(P:Program)(T:TypeId):Option Nat:=(P.info? T).map (·.bytes)
def zJ(P:Program)(T:TypeId):Option TypeId:=
 match P.underlying T with
 | some (.slice e)=>some e
 | _=>none
def zfc(P:Program)(T:TypeId):Option Value:=(P.info? T).bind (·.zero)
section
variable {P:Program} {T:TypeId}
def zG{d:TypeDesc}(h:P.underlying T=some d)(w:World):(underlying T).run P w=.ok d w:=by
 unfold underlying;simp[h]
def zmb{b:Bool}(h:zeD P T=some b)(w:World):(isAgg T).run P w=.ok b w:=by
 unfold zeD at h;unfold isAgg;cases hd:P.underlying T with
 | none=>rw[hd]at h;cases h
 | some d=>rw[hd]at h;rw[bd,zG hd];cases d<;>simp_all
def za3{k:Nat}(h:zM P T=some k)(w:World):(sizeOf T).run P w=.ok k w:=by
 unfold zM at h;unfold sizeOf typeInfo;cases hd:P.info? T with
 | none=>rw[hd]at h;cases h
 | some d=>rw[hd]at h;simp at h;simp[hd,h]
def zh2{z:Value}(h:zfc P T=some z)(w:World):(zeroValue T).run P w=.ok z w:=by
 unfold zfc at h;unfold zeroValue typeInfo;cases hd:P.info? T with
 | none=>rw[hd]at h;cases h
 | some d=>
  rw[hd]at h;simp only[ic]at h;simp[hd,h]
end
def vOf(s:Sem Value):Sem Next:=do pure (.value (←s))
def uOf(s:Sem Unit):Sem Next:=do s;pure .skip
def zH{P:Program}{s:Sem Value}{w w':World}{v:Value}(h:s.run P w=.ok v w'):(vOf s).run P w=.ok (.value v) w':=by
 unfold vOf;rw[bd,h];rfl
def zv6{P:Program}{s:Sem Unit}{w w':World}(h:s.run P w=.ok () w'):(uOf s).run P w=.ok .skip w':=by
 unfold uOf;rw[bd,h];rfl
def zkz[Fb](C:Cx)(κ:K)(d b o:Nat):(W C κ d).cell? ⟨b,o,none⟩=κ.cell b o:=by
 unfold World.cell? K.cell W;cases κ.H[b]? with
 | none=>rfl
 | some x=>cases x<;>rfl
def ziO{P:Program}{T:TypeId}[Fb]{C:Cx}{κ:K}{d b off:Nat}{v:Value}(hT:zeD P T=some false)(h:κ.cell b off=some v):
  (Instr.loadAt T (.pointer (some ⟨b,off,none⟩))).run P (W C κ d)=.ok v (W C κ d):=by
 unfold Instr.loadAt Instr.sureAddr loadVar;simp only[bd,be,bc,zmb hT,Sem.run_ite,az,if_false];rw[run_load];rw[zkz,h]
def zjp{P:Program}{T:TypeId}[Fb]{C:Cx}{κ:K}{d b off:Nat}{cs:List Value}(hT:zeD P T=some true)(hs:zM P T=some cs.length)(h:zl8 κ b off cs):(Instr.loadAt T (.pointer (some ⟨b,off,none⟩))).run P (W C κ d)=.ok (.agg cs.toArray) (W C κ d):=by
 unfold Instr.loadAt Instr.sureAddr loadVar;simp only[bd,be,bc,zmb hT,Sem.run_ite,if_true,za3 hs];rw[run_loadCells_list _ _ cs (λj v a=>?_)]
 ·rfl
 ·have:Addr.add ⟨b,off,none⟩ j=⟨b,off+j,none⟩:=by unfold Addr.add;split<;>simp_all
  rw[this,zkz];exact h j v a
abbrev Tag:=Nat×Nat
structure Box(τ:Tag)(κ:K)(b:Nat)(cs:List Value)(T:TypeId):Prop where
 obj:κ.H[b]?=some (.cells cs.toArray T (0,0))
 fr:κ.fr b=0
 tag:κ.tag b=τ
 ge:τ.1<=b
def zaE{N i j:Nat}(h:Nat.beq i j=false):((N,i):Tag)≠(N,j):=by
 intro e;have:i=j:=congrArg Prod.snd e;subst this;simp at h
def Box.lt{τ:Tag}{κ:K}{b:Nat}{cs:List Value}{T:TypeId}(h:Box τ κ b cs T):b<κ.H.size:=(ai.1 h.obj).1
def Box.at{τ:Tag}{κ:K}{b:Nat}{cs:List Value}{T:TypeId}(h:Box τ κ b cs T):At κ b 0 cs:=
 ⟨h.lt,λj v a=>by unfold K.cell;rw[h.obj];simpa using a⟩
def Box.step{M:List Nat}{τ:Tag}{κ κ':K}{b:Nat}{cs:List Value}{T:TypeId}(s:Step M κ κ')(hm:b∉M)(h:Box τ κ b cs T):Box τ κ' b cs T:=
 ⟨(s.2.1 b h.lt hm).1.trans h.obj,(s.2.1 b h.lt hm).2.1.trans h.fr,(s.2.1 b h.lt hm).2.2.trans h.tag,h.ge⟩
def Box.ne{τ τ':Tag}{κ:K}{b b':Nat}{cs cs':List Value}{T T':TypeId}(h:Box τ κ b cs T)(h':Box τ' κ b' cs' T')(hn:τ≠τ'):b≠b':=by
 intro e;subst e;exact hn (h.tag.symm.trans h'.tag)
def Box.step0{τ:Tag}{κ κ':K}{b:Nat}{cs:List Value}{T:TypeId}(s:Step [] κ κ')(h:Box τ κ b cs T):Box τ κ' b cs T:=h.step s si
def K.push(κ:K)(o:Obj)(m:Nat)(τ:Tag):K:=⟨κ.H.push o,λb=>if b=κ.H.size then m else κ.fr b,λb=>if b=κ.H.size then τ else κ.tag b⟩
def zcY(κ:K)(o:Obj)(m:Nat)(τ:Tag):Step [] κ (κ.push o m τ):=by
 refine⟨by simp[K.push],λb a _=>⟨?_,?_,?_⟩,λb a=>⟨?_,λi _=>?_⟩,λb a _=>⟨?_,?_⟩⟩
 ·simp only[K.push];rw[Array.getElem?_push_lt a];simp[a]
 ·simp only[K.push];rw[if_neg om]
 ·simp only[K.push];rw[if_neg om]
 ·simp only[K.push];rw[if_neg om];exact gl _
 ·unfold K.cell K.push;rw[Array.getElem?_push_lt a];simp[a]
 ·simp only[K.push];rw[if_neg om]
 ·unfold K.shp K.push;rw[Array.getElem?_push_lt a];simp[a]
def zu7(κ:K)(cs:List Value)(T:TypeId)(τ:Tag)(h:τ.1<=κ.H.size):Box τ (κ.push (.cells cs.toArray T) 0 τ) κ.H.size cs T:=
 ⟨by simp[K.push],by simp[K.push],by simp[K.push],h⟩
section
variable [Fc] [Fb] {P:Program} {n:Nat} {c:Code} {i:Nat} {Q:zaY} {E:Env} {κ:K}
def zzB{d b off:Nat}{T:TypeId}{v:Value}(h:st c i n E (some d)=true)(ho:execOp (ev E) (zx c i)=vOf (Instr.loadAt T (.pointer (some ⟨b,off,none⟩))))(hT:zeD P T=some false)(hv:κ.cell b off=some v)(hk:owp P n c (i+1) Q (upd E d v) κ):owp P n c i Q E κ:=
 zie v h (λC a=>by rw[ho];exact zH (ziO hT hv)) hk
def zzA{d b off:Nat}{T:TypeId}{cs:List Value}(h:st c i n E (some d)=true)(ho:execOp (ev E) (zx c i)=vOf (Instr.loadAt T (.pointer (some ⟨b,off,none⟩))))(hT:zeD P T=some true)(hs:zM P T=some cs.length)(hv:zl8 κ b off cs)(hk:owp P n c (i+1) Q (upd E d (.agg cs.toArray)) κ):owp P n c i Q E κ:=
 zie _ h (λC a=>by rw[ho];exact zH (zjp hT hs hv)) hk
def At.one{b off o:Nat}{cs:List Value}{v:Value}(h:At κ b off cs)(hj:cs[o]?=some v):κ.cell b (off+o)=some v:=h.2 o v hj
def zqn{d:Nat}{T:TypeId}(τ:Tag)(hτ:τ.1<=κ.H.size)(zs:List Value)(h:st c i n E (some d)=true)(ho:execOp (ev E) (zx c i)=vOf (Instr.alloc T true (.tuple #[])))(hz:(zfc P T).map Value.cells=some zs.toArray)(hk:∀b κ',Step [] κ κ'->Box τ κ' b zs T->owp P n c (i+1) Q (upd E d (.pointer (some ⟨b,0,none⟩))) κ'):owp P n c i Q E κ:=by
 obtain⟨z,e,a⟩:=ig.1 hz;refine zie (κ':=κ.push (.cells zs.toArray T) 0 τ) _ h (λC f=>?_) (hk κ.H.size _ (zcY _ _ _ _) (zu7 _ _ _ _ hτ));rw[ho];refine zH ?_;unfold Instr.alloc;simp only[bd,zh2 e,bc];unfold newVar newRow;rw[a];rfl
def xT(d T:Nat)(τ:Tag)(hτ:τ.1<=κ.H.size)(zs:List Value)(hk:∀b κ',Step [] κ κ'->Box τ κ' b zs T->owp P n c (i+1) Q (upd E d (.pointer (some ⟨b,0,none⟩))) κ')(h:st c i n E (some d)=true:=by kernel_rfl)(ho:execOp (ev E) (zx c i)=vOf (Instr.alloc T true (.tuple #[])):=by kernel_rfl)(hz:(zfc P T).map Value.cells=some zs.toArray:=by kernel_rfl):owp P n c i Q E κ:=zqn τ hτ zs h ho hz hk
def zB9{d:Nat}{T:TypeId}(τ:Tag)(hτ:τ.1<=κ.H.size)(v:Value)(cs:List Value)(h:st c i n E (some d)=true)(ho:execOp (ev E) (zx c i)=vOf (Instr.box T v))(hv:v.cells=cs.toArray)(hk:∀b κ',Step [] κ κ'->Box τ κ' b cs T->owp P n c (i+1) Q (upd E d (.pointer (some ⟨b,0,none⟩))) κ'):owp P n c i Q E κ:=by
 refine zie (κ':=κ.push (.cells cs.toArray T) 0 τ) _ h (λC a=>?_) (hk κ.H.size _ (zcY _ _ _ _) (zu7 _ _ _ _ hτ));rw[ho];refine zH ?_;unfold Instr.box newVar newRow;rw[hv];rfl
def xO(d T:Nat)(τ:Tag)(hτ:τ.1<=κ.H.size)(cs:List Value)(hk:∀b κ',Step [] κ κ'->Box τ κ' b cs T->owp P n c (i+1) Q (upd E d (.pointer (some ⟨b,0,none⟩))) κ')(h:st c i n E (some d)=true:=by kernel_rfl)(ho:execOp (ev E) (zx c i)=vOf (Instr.box T (.agg cs.toArray)):=by kernel_rfl):owp P n c i Q E κ:=zB9 τ hτ (.agg cs.toArray) cs h ho rfl hk
end
def splice(cs:List Value)(off:Nat):List Value->List Value
 |[]=>cs
 | v::vs=>splice (cs.set off v) (off+1) vs
def zfU(vs:List Value):∀(cs:List Value)(off:Nat),(splice cs off vs).length=cs.length:=by
 induction vs with
 | nil=>intro cs off;rfl
 | cons v vs ih=>intro cs off;rw[splice,ih,ep]
def K.setB(κ:K)(b:Nat)(cs:List Value)(T:TypeId):K:=⟨κ.H.setIfInBounds b (.cells cs.toArray T (0,0)),κ.fr,κ.tag⟩
def zma{τ:Tag}{κ:K}{b:Nat}{cs cs':List Value}{T:TypeId}(h:Box τ κ b cs T):Step [b] κ (κ.setB b cs' T):=by
 refine⟨by simp[K.setB],λx c hm=>⟨?_,rfl,rfl⟩,λx c=>⟨gl _,λo f=>?_⟩,λx c d=>⟨rfl,?_⟩⟩
 ·simp only[K.setB];have:b≠x:=λe=>hm (by simp[e]);rw[am this]
 ·by_cases a:b=x
  ·subst a;rw[h.fr]at f;omega
  ·unfold K.cell K.setB;rw[am a]
 ·have a:b≠x:=λe=>by rw[←e,h.fr]at d;omega
  unfold K.shp K.setB;rw[am a]
def zm1{τ:Tag}{κ:K}{b:Nat}{cs cs':List Value}{T:TypeId}(h:Box τ κ b cs T):Box τ (κ.setB b cs' T) b cs' T:=
 ⟨by simp[K.setB,h.lt],h.fr,h.tag,h.ge⟩
def zAg{τ:Tag}[Fb]{C:Cx}{κ:K}{d b off:Nat}{cs:List Value}{T:TypeId}{v:Value}(h:Box τ κ b cs T):
  (W C κ d).setCell ⟨b,off,none⟩ v=W C (κ.setB b (cs.set off v) T) d:=by
 have g:=h.lt;unfold World.setCell W K.setB;simp only[Option.isSome_none,az,if_false];congr 1;apply Array.ext
 ·simp
 ·intro j i k;have f:j<κ.H.size:=by simpa using i
  rw[Array.getElem_modify];by_cases e:b=j
  ·subst e;have a:=h.obj;rw[ac f]at a;have c:=Option.some.inj a;simp[c]
  ·rw[if_neg e,Array.getElem_setIfInBounds_ne f e]
def zmB{P:Program}{τ:Tag}[Fb]{C:Cx}{d b off:Nat}{T:TypeId}(vs:List Value):∀(i:Nat)(κ:K)(cs:List Value),Box τ κ b cs T->(∀v∈vs,v.oneCell'=true)->
  off+i+vs.length<=cs.length->
  (storeCells ⟨b,off,none⟩ vs i).run P (W C κ d)=.ok () (W C (κ.setB b (splice cs (off+i) vs) T) d):=by
 induction vs with
 | nil=>
  intro i κ cs h _ _;have:κ.setB b cs T=κ:=by
   have k:=h.lt;have c:=h.obj;rw[ac k]at c;cases κ with
   | mk H fr=>
    simp only[K.setB];congr 1;apply Array.ext
    ·simp
    ·intro j q p;by_cases g:b=j
     ·subst g;simp;exact(Option.some.inj c).symm
     ·rw[Array.getElem_setIfInBounds_ne];exact g
  rw[splice,this];rfl
 | cons v vs ih=>
  intro i κ cs h a hlen;have m:Addr.add ⟨b,off,none⟩ i=⟨b,off+i,none⟩:=by unfold Addr.add;split<;>simp_all
  have e:off+i<cs.length:=by simp only[dz]at hlen;omega
  unfold storeCells;rw[bd,run_store _ _ _ _ _ (a v si),m,zkz];have f:κ.cell b (off+i)=some cs[off+i]:=by
   unfold K.cell;rw[h.obj];simp[e]
  have l:(W C κ d).frozen? ⟨b,off+i,none⟩=false:=by
   unfold World.frozen? W;simp only[h.obj];simp
  rw[f];simp only[l];rw[zAg h];simp only[az,if_false,bc];have h':=ih (i+1) (κ.setB b (cs.set (off+i) v) T) (cs.set (off+i) v) (zm1 h) (λu n=>a u (by simp[n])) (by simp only[dz]at hlen;simp;omega);rw[h'];rw[splice];congr 2;unfold K.setB;simp only[];congr 1;apply Array.ext_getElem?;intro j;by_cases g:b=j
  ·subst g;simp[Nat.add_assoc]
  ·simp[am g]
def ztj(vs:List Value):Bool:=vs.all Value.oneCell'
def zrT{P:Program}{τ:Tag}{T U:TypeId}[Fb]{C:Cx}{κ:K}{d b off:Nat}{cs:List Value}{v:Value}{vs:List Value}(h:Box τ κ b cs U)(hv:v.cells=vs.toArray)(hs:zM P T=some vs.length)(hone:ztj vs=true)(hlen:off+vs.length<=cs.length):
  (Instr.storeAt T (.pointer (some ⟨b,off,none⟩)) v).run P (W C κ d)=.ok () (W C (κ.setB b (splice cs off vs) U) d):=by
 unfold Instr.storeAt Instr.sureAddr storeVar;simp only[bd,be,bc,za3 hs,Sem.run_ite];rw[hv];simp only[ga,ne_eq,not_true_eq_false,if_false];have:=zmB (P:=P) (C:=C) (d:=d) (off:=off) vs 0 κ cs h (λu a=>(bi.1 hone) u a) om;simpa using this
section
variable [Fc] [Fb] {P:Program} {n:Nat} {c:Code} {i:Nat} {Q:zaY} {E:Env} {κ:K}
def zav{τ:Tag}{b off:Nat}{T U:TypeId}{cs:List Value}(v:Value)(vs cs':List Value)(h:st c i n E none=true)(ho:execOp (ev E) (zx c i)=uOf (Instr.storeAt T (.pointer (some ⟨b,off,none⟩)) v))(hb:Box τ κ b cs U)(hv:v.cells=vs.toArray)(hs:zM P T=some vs.length)(hone:ztj vs=true)(hlen:Nat.ble (off+vs.length) cs.length=true)(hcs:splice cs off vs=cs')(hk:∀κ',Step [b] κ κ'->κ.H.size=κ'.H.size->Box τ κ' b cs' U->owp P n c (i+1) Q E κ'):owp P n c i Q E κ:=by
 subst hcs;exact zAY h (λC a=>by rw[ho];exact zv6 (zrT hb hv hs hone (gk hlen))) (hk _ (zma hb) (by simp[K.setB]) (zm1 hb))
def xM(T:Nat)(cs':List Value){τ:Tag}{b:Nat}{U:TypeId}{cs:List Value}(hb:Box τ κ b cs U)(hk:∀κ',Step [b] κ κ'->κ.H.size=κ'.H.size->Box τ κ' b cs' U->owp P n c (i+1) Q E κ')(h:st c i n E none=true:=by kernel_rfl)(ho:execOp (ev E) (zx c i)=uOf (Instr.storeAt T (.pointer (some ⟨b,0,none⟩)) (.agg cs'.toArray)):=by kernel_rfl)(hs:zM P T=some cs'.length:=by kernel_rfl)(hone:ztj cs'=true:=by kernel_rfl)(hlen:Nat.ble (0+cs'.length) cs.length=true:=by kernel_rfl)(hcs:splice cs 0 cs'=cs':=by rfl):owp P n c i Q E κ:=zav (.agg cs'.toArray) cs' cs' h ho hb rfl hs hone hlen hcs hk
def znk{T el:TypeId}{sz:Nat}{a:Addr}{ln cp:Nat}{k:IntKind}{ix:Int}(hT:zJ P T=some el)(hs:zM P el=some sz)(h0:0<=ix)(h1:ix<ln)(w:World):(Instr.indexAt T (.slice (some a) ln cp) (.int k ix)).run P w=.ok (.pointer (some (a.add (ix.toNat*sz)))) w:=by
 have b:P.underlying T=some (.slice el):=by
  unfold zJ at hT;split at hT
  ·rename_i e he;rw[he];injection hT with hT;subst hT;rfl
  ·cases hT
 unfold Instr.indexAt asIntOf;simp only[bd,be,bc,zG b];rw[if_pos ⟨h0,h1⟩];simp only[bd,za3 hs,bc,be]
def zgZ(b off k:Nat):Addr.add ⟨b,off,none⟩ k=⟨b,off+k,none⟩:=by unfold Addr.add;split<;>simp_all
def zzC{d b off:Nat}{a:Option Addr}{T el:TypeId}{sz ln cp:Nat}{k:IntKind}{ix:Int}(ea:a=some ⟨b,off,none⟩)(h:st c i n E (some d)=true)(ho:execOp (ev E) (zx c i)=vOf (Instr.indexAt T (.slice a ln cp) (.int k ix)))(hT:zJ P T=some el)(hs:zM P el=some sz)(h0:0<=ix)(h1:ix<ln)(hk:owp P n c (i+1) Q (upd E d (.pointer (some ⟨b,off+ix.toNat*sz,none⟩))) κ):owp P n c i Q E κ:=by
 subst ea;exact zie _ h (λC e=>by rw[ho];exact zH (by rw[znk hT hs h0 h1,zgZ])) hk
end
def zoD:List Value->Value
 |[v]=>v
 | vs=>.tuple vs.toArray
def zx4(P:Program)(E:Env)(κ:K):List ResultVar->List Value->Prop
 |[],[]=>True
 | .tmp t::rs,v::vs=>E t=v/\zx4 P E κ rs vs
 | .cell a T::rs,v::vs=>(∃b off cs,E a=.pointer (some ⟨b,off,none⟩)/\v=.agg cs.toArray/\zeD P T=some true/\zM P T=some cs.length/\zl8 κ b off cs)/\zx4 P E κ rs vs
 | _,_=>False
def zuq(E:Env):ResultVar->Sem Value
 | .tmp t=>pure (E t)
 | .cell a t=>do loadVar t (←asAddr (E a))
def zyb{P:Program}{E:Env}{κ:K}[Fb](C:Cx)(d:Nat):∀(rs:List ResultVar)(vs:List Value),zx4 P E κ rs vs->
  (rs.mapM (zuq E)).run P (W C κ d)=.ok vs (W C κ d)
 |[],[],_=>rfl
 | .tmp t::rs,v::vs,h=>by
  obtain⟨f,e⟩:=h;rw[List.mapM_cons];simp only[zuq,bd,be,bc,zyb C d rs vs e,f]
 | .cell a T::rs,v::vs,h=>by
  obtain⟨⟨b,off,cs,f,e,k,i,j⟩,g⟩:=h;rw[List.mapM_cons];have c:=zjp (C:=C) (d:=d) k i j;unfold Instr.loadAt Instr.sureAddr at c;simp only[bd,be,bc]at c;simp only[zuq,f,asAddr,bd,be,bc,c,zyb C d rs vs g,e]
 |[],_::_,h=>by cases h
 | .tmp _::_,[],h=>by cases h
 | .cell _ _::_,[],h=>by cases h
def zxg{P:Program}{fn:Func}{E:Env}{κ:K}(rs:List ResultVar)(vs:List Value)(hr:fn.results=rs.toArray)(h:zx4 P E κ rs vs)[Fb](C:Cx)(d:Nat):
  (zzw fn E).run P (W C κ d)=.ok (zoD vs) (W C κ d):=by
 have c:(λ(x:ResultVar)=>(match x with
   | .tmp t=>(pure (E t):Sem Value)
   | .cell a t=>do loadVar t (←asAddr (E a))))=zuq E:=by funext x;cases x<;>rfl
 unfold zzw;rw[hr];have hm:rs.toArray.mapM (m:=Sem) (zuq E)=Functor.map List.toArray (rs.mapM (zuq E)):=List.mapM_toArray;have b:vs.length=rs.length:=by
  clear hr hm
  induction rs generalizing vs with
  | nil=>cases vs with
   | nil=>rfl
   | cons v vs=>exact h.elim
  | cons r rs ih=>cases vs with
   | nil=>cases r<;>exact h.elim
   | cons v vs=>cases r<;>simp[ih vs h.2]
 rw[bd];change ((rs.toArray.mapM (m:=Sem) (zuq E)).run P (W C κ d)).andThen _=_;rw[hm,Sem.run_map,zyb C d rs vs h];simp only[bc,be];congr 1
 match vs with
 |[]=>rfl
 |[v]=>rfl
 | v::u::vs=>simp[zoD]
def bind_some{α β:Type}{o:Option α}{f:α->Option β}{r:β}(h:o.bind f=some r):∃x,o=some x/\f x=some r:=
 ib.1 h
def zCo{α:Type}{c:Bool}{a b o:α}(hc:c=true)(h:(if c=true then a else b)=o):a=o:=by rw[if_pos hc]at h;exact h
def zCp{α:Type}{c:Bool}{a b o:α}(hc:c=false)(h:(if c=true then a else b)=o):b=o:=by rw[if_neg (by simp[hc])]at h;exact h
def w64(n:Int):Int:=IntKind.i64.wrap n
def zrx(n:Int):w64 n=(n+9223372036854775808) % 18446744073709551616 - 9223372036854775808:=by
 have h:w64 n=(if n % 18446744073709551616≥9223372036854775808 then n % 18446744073709551616 - 18446744073709551616 else n % 18446744073709551616):=by
  unfold w64 IntKind.wrap;simp[IntKind.bits,IntKind.signed]
 rw[h];split<;>omega
def zp(n:Int):I64 (w64 n):=by
 rw[zrx];unfold I64;omega
def zax{n:Int}(h:I64 n):w64 n=n:=by
 rw[zrx];unfold I64 at h;omega
def zlG{S X:Type}:Nat->(S->Option (S ⊕ X))->S->Option X
 | 0,_,_=>none
 | n+1,F,s=>match F s with
  | none=>none
  | some (.inl s')=>zlG n F s'
  | some (.inr x)=>some x
def zrc{S X:Type}{F:S->Option (S ⊕ X)}:∀(n m:Nat)(s:S)(x:X),n<=m->zlG n F s=some x->zlG m F s=some x
 | 0,_,_,_,_,h=>by cases h
 | n+1,0,_,_,hle,_=>by omega
 | n+1,m+1,s,x,hle,h=>by
  unfold zlG at h ⊢;cases hF:F s with
  | none=>rw[hF]at h;cases h
  | some y=>
   rw[hF]at h;cases y with
   | inl s'=>exact zrc n m s' x om h
   | inr x'=>exact h
open Classical in
noncomputable def iter{S X:Type}(F:S->Option (S ⊕ X))(s:S):Option X:=
 if h:∃x,∃n,zlG n F s=some x then some (Classical.choose h)else none
def zed{S X:Type}{F:S->Option (S ⊕ X)}{s:S}{x:X}:iter F s=some x↔∃n,zlG n F s=some x:=by
 unfold iter;constructor
 ·intro h;split at h
  ·rename_i a;injection h with h
   rw[←h];exact Classical.choose_spec a
  ·cases h
 ·intro b;have a:∃x,∃n,zlG n F s=some x:=⟨x,b⟩;rw[dif_pos a];obtain⟨n,b⟩:=b;obtain⟨m,hm⟩:=Classical.choose_spec a;have d:=zrc n (max n m) s x om b;have c:=zrc m (max n m) s _ om hm;rw[d]at c;exact c.symm
def zv{S X:Type}{F:S->Option (S ⊕ X)}{s s':S}(h:F s=some (.inl s')):iter F s=iter F s':=by
 apply Option.ext;intro x;rw[zed,zed];constructor
 ·rintro⟨n,a⟩;cases n with
  | zero=>cases a
  | succ n=>unfold zlG at a;rw[h]at a;exact⟨n,a⟩
 ·rintro⟨n,a⟩;exact⟨n+1,by unfold zlG;rw[h];exact a⟩
def zC{S X:Type}{F:S->Option (S ⊕ X)}{s:S}{x:X}(h:F s=some (.inr x)):iter F s=some x:=
 zed.2 ⟨1,by unfold zlG;rw[h]⟩
def zzR{S X:Type}{F:S->Option (S ⊕ X)}{s:S}(h:F s=none):iter F s=none:=by
 cases hi:iter F s with
 | none=>rfl
 | some x=>
  obtain⟨n,a⟩:=zed.1 hi;cases n with
  | zero=>cases a
  | succ n=>unfold zlG at a;rw[h]at a;cases a
def zz{S X:Type}{F:S->Option (S ⊕ X)}(I:S->Prop)(μ:S->Nat)(R:X->Prop)(hstep:∀s,I s->(∃a,F s=some (.inl a)/\I a/\μ a<μ s)\/∃x,F s=some (.inr x)/\R x):∀s,I s->∃x,iter F s=some x/\R x:=by
 have key:∀m s,μ s=m->I s->∃x,iter F s=some x/\R x:=by
  intro m
  induction m using Nat.strongRecOn with
  | _ m ih=>
   intro s hm b;rcases hstep s b with⟨a,d,c,f⟩ |⟨x,d,c⟩
   ·obtain⟨x,g,e⟩:=ih (μ a) (hm▸f) a rfl c;exact⟨x,by rw[zv d];exact g,e⟩
   ·exact⟨x,zC d,c⟩
 exact λs b=>key _ s rfl b
section
variable [Fc] [Fb] {P:Program} {n:Nat} {c:Code} {Q:zaY} {E:Env} {κ:K} {p:List Nat}
def zr6{S X:Type}(y:S ⊕ X)(J:S->Env->K->Prop)(Q:zaY):zaY:=λe E' κ'=>
 match e with
 | .normal=>∃s',y=.inl s'/\J s' E' κ'
 | e=>Q e E' κ'
def zn{S X:Type}(F:S->Option (S ⊕ X))(J:S->Env->K->Prop)(s0:S)(x:X)(h:zyp (sub c p)=true)(hx:iter F s0=some x)(h0:J s0 E κ)(round:∀s E κ,J s E κ->∀y,F s=some y->(∀x',y=.inr x'->x'=x)->cwp P n (sub c (0::p)) (zr6 y J Q) E κ):cwp P n (sub c p) Q E κ:=by
 obtain⟨m,hm⟩:=zed.1 hx;refine zem (λm E κ=>∃s,zlG m F s=some x/\J s E κ) h m ⟨s0,hm,h0⟩ ?_;rintro m E κ ⟨s,hs,f⟩;cases m with
 | zero=>cases hs
 | succ m=>
  unfold zlG at hs;cases hF:F s with
  | none=>rw[hF]at hs;cases hs
  | some y=>
   rw[hF]at hs;refine zBB (round s E κ f y hF ?_) ?_
   ·rintro x' rfl;exact Option.some.inj hs
   ·intro e g κ' b;cases e with
    | normal=>
     obtain⟨d,rfl,a⟩:=b;exact⟨m,by omega,d,hs,a⟩
    | _=>exact b
end
def nm1{b x:Nat}(h:b≠x):b∉[x]:=by simp[h]
def zt6[Fb]{P:Program}{Rel:K->K->Prop}{c:Code}{i:Nat}{E:Env}{κ:K}{R:Value->K->Prop}(h:zbR c i E=true)(hr:∀C d,zD2 P Rel C κ R ((execOp (ev E) (zx c i)).run P (W C κ d))):OpQ P Rel c i E κ R:=
 ⟨λ_=>hr,λa=>(by rw[h]at a;cases a)⟩
def zBO[Fb]{P:Program}{Rel:K->K->Prop}{c:Code}{i:Nat}{E:Env}{κ:K}{R:Value->K->Prop}(h:zbR c i E=false)(hR:R undef κ):OpQ P Rel c i E κ R:=
 ⟨λa=>(by rw[h]at a;cases a),λ_=>hR⟩
def ziq[Fb]{P:Program}{Rel:K->K->Prop}(rr:∀κ,Rel κ κ){c:Code}{i:Nat}{E:Env}{κ:K}{R:Value->K->Prop}(v:Value)(h:zbR c i E=true)(hr:∀C d,(execOp (ev E) (zx c i)).run P (W C κ d)=.ok (.value v) (W C κ d))(hR:R v κ):OpQ P Rel c i E κ R:=
 zt6 h λC d=>by rw[hr];exact⟨κ,d,rfl,rr _,hR⟩
def zva[Fb]{P:Program}{Rel:K->K->Prop}(rr:∀κ,Rel κ κ){c:Code}{i:Nat}{E:Env}{κ:K}{R:Value->K->Prop}{f:FuncId}{args:Array Value}(h:zbR c i E=true)(hr:∀w,(execOp (ev E) (zx c i)).run P w=.ok (.enter f args) w)(hf:Fn P f args κ (λv κ'=>Rel κ κ'/\R v κ')):OpQ P Rel c i E κ R:=
 zt6 h λC d=>by rw[hr];exact⟨κ,d,rfl,rr _,hf⟩
section
variable [Fc] [Fb] {P:Program} {n:Nat} {c:Code} {Q:zaY} {E F:Env} {κ:K} {id id':Nat}
def za(h:cwp P n c Q E κ):zdJ P n c Q .normal E κ:=h
def zg(h:Q (.exit id) E κ):zdJ P n c Q (.exit id) E κ:=h
def zd(h:Q .ret E κ):zdJ P n c Q .ret E κ:=h
def zc(h:Q .normal E κ):zdI id Q .normal E κ:=h
def zf(h:Q .normal E κ):zdI id Q (.exit id) E κ:=by unfold zdI;simp only[if_true];exact h
def ztZ(hne:Nat.beq id' id=false)(h:Q (.exit id') E κ):zdI id Q (.exit id') E κ:=by
 show(if id'=id then _ else _);rw[if_neg (λe=>by subst e;simp at hne)];exact h
def zj(h:Q .ret E κ):zdI id Q .ret E κ:=h
def ze{S X:Type}{y:S ⊕ X}{J:S->Env->K->Prop}{s:S}(h:y=.inl s)(hJ:J s E κ):zr6 y J Q .normal E κ:=⟨s,h,hJ⟩
def zh{S X:Type}{y:S ⊕ X}{J:S->Env->K->Prop}(h:Q (.exit id) E κ):zr6 y J Q (.exit id) E κ:=h
def zt{S X:Type}{y:S ⊕ X}{J:S->Env->K->Prop}(h:Q .ret E κ):zr6 y J Q .ret E κ:=h
def zyA{c0:Code}{p:List Nat}(h:zrd (sub c0 p)=true)(hb:ev E (zth (sub c0 p))=.bool true)(ht:cwp P n (sub c0 (0::p)) Q E κ):cwp P n (sub c0 p) Q E κ:=
 zuX true h hb (λ_=>ht) (λe=>by cases e)
def zyB{c0:Code}{p:List Nat}(h:zrd (sub c0 p)=true)(hb:ev E (zth (sub c0 p))=.bool false)(he:cwp P n (sub c0 (1::p)) Q E κ):cwp P n (sub c0 p) Q E κ:=
 zuX false h hb (λe=>by cases e) (λ_=>he)
def zDc{fn:Func}{R:Value->K->Prop}(rs:List ResultVar)(vs:List Value)(hr:fn.results=rs.toArray)(h:zx4 P E κ rs vs)(hR:R (zoD vs) κ):zlS P fn R .ret E κ:=
 ⟨_,zxg rs vs hr h,hR⟩
def zB3{fn:Func}{R:Value->K->Prop}(rs:List ResultVar)(vs:List Value)(hr:fn.results=rs.toArray)(h:zx4 P E κ rs vs)(hR:R (zoD vs) κ):zlS P fn R .normal E κ:=
 ⟨_,zxg rs vs hr h,hR⟩
def zb(h:E=F){t:Nat}{v:Value}(hv:F t=v):E=upd F t v:=h.trans (zAn hv)
def zl(h:E=F)(hw:cwp P n c Q F κ):cwp P n c Q E κ:=by rw[h];exact hw
def zo{e:Exit}(h:E=F)(hw:Q e F κ):Q e E κ:=by rw[h];exact hw
def zm(B:zaY->Prop)(h1:B Q)(h2:B Q->cwp P n c Q E κ):cwp P n c Q E κ:=h2 h1
def zi(id:Nat)(B:(Env->K->Prop)->Prop)(h1:B (Q (.exit id)))(h2:B (Q (.exit id))->cwp P n c Q E κ):cwp P n c Q E κ:=h2 h1
end
def zf6{α:Type}{l:List α}(h:l.length<=9223372036854775807):I64 (l.length:Int):=by unfold I64;omega
def zAp(x:UInt8):0<=(x.toNat:Int)/\(x.toNat:Int)<=255:=by have:=x.toNat_lt;omega
def zoF{a b:Int}(_hb:b ≠ -1)(h:I64 a):I64 (Int.tmod a b):=by
 unfold I64 at *;have e:=Int.natAbs_tmod a b;have c:a.natAbs % b.natAbs<=a.natAbs:=Nat.mod_le _ _;have g:(Int.tmod a b).natAbs<=a.natAbs:=by omega
 have d:0<=a->0<=Int.tmod a b:=λh=>Int.tmod_nonneg b h;have f:a<=0->Int.tmod a b<=0:=λh=>by
  have:=Int.tmod_nonneg b (show 0 <= -a by omega);rw[Int.neg_tmod]at this;omega
 omega
def zl7(s:List UInt8):(⟨s.toArray⟩:ByteArray).toList=s:=by
 have h:∀(n i:Nat)(a:List UInt8),n=s.length - i->i<=s.length->ByteArray.toList.loop (⟨s.toArray⟩:ByteArray) i a=a.reverse++s.drop i:=by
  intro n
  induction n with
  | zero=>
   intro i a c hi;have:i=s.length:=by omega
   subst this;unfold ByteArray.toList.loop;have hs:¬s.length<(⟨s.toArray⟩:ByteArray).size:=by simp[ByteArray.size]
   rw[if_neg hs];simp
  | succ n ih=>
   intro i a c hi;unfold ByteArray.toList.loop;have b:i<s.length:=by omega
   have hs:i<(⟨s.toArray⟩:ByteArray).size:=by simpa[ByteArray.size]using b
   rw[if_pos hs,ih (i+1) _ om om];have d:(⟨s.toArray⟩:ByteArray).get! i=s[i]:=by
    simp[ByteArray.get!,b]
   rw[d,List.reverse_cons,bl,List.singleton_append,br b]
 have:=h s.length 0 [] om om;simpa[ByteArray.toList]using this
def zol{P:Program}{E:Env}{c:Code}{i:Nat}{s t:List UInt8}{w:World}(h:execOp (ev E) (zx c i)=vOf (do eqGuard .eql 0 (.tmp 0) (.tmp 0) (zr s) (zr t);binOp .eql 0 (zr s) (zr t))):
  (execOp (ev E) (zx c i)).run P w=.ok (.value (.bool (decide (s=t)))) w:=by
 rw[h];refine zH ?_;have:binOp .eql 0 (zr s) (zr t)=pure (.bool ((⟨s.toArray⟩:ByteArray).toList == (⟨t.toArray⟩:ByteArray).toList)):=rfl;rw[this,zl7,zl7];by_cases a:s=t
 ·subst a;simp[eqGuard,zr]
 ·simp[eqGuard,zr,a]
def zsT{P:Program}{E:Env}{c:Code}{i:Nat}{s t:List UInt8}{w:World}(h:execOp (ev E) (zx c i)=vOf (do eqGuard .neq 0 (.tmp 0) (.tmp 0) (zr s) (zr t);binOp .neq 0 (zr s) (zr t))):
  (execOp (ev E) (zx c i)).run P w=.ok (.value (.bool (!decide (s=t)))) w:=by
 rw[h];refine zH ?_;have:binOp .neq 0 (zr s) (zr t)=pure (.bool (!((⟨s.toArray⟩:ByteArray).toList == (⟨t.toArray⟩:ByteArray).toList))):=rfl;rw[this,zl7,zl7];by_cases a:s=t
 ·subst a;simp[eqGuard,zr]
 ·simp[eqGuard,zr,a]
def zjo{P:Program}{E:Env}{c:Code}{i:Nat}(T:TypeId)(k:IntKind){s:List UInt8}{ix:Int}{x:UInt8}{w:World}(h:execOp (ev E) (zx c i)=vOf (Instr.index T (zr s) (.int k ix)))(hT:P.underlying T=some .string)(hx:idx s ix=some x):
  (execOp (ev E) (zx c i)).run P w=.ok (.value (.int .u8 (x.toNat:Int))) w:=by
 obtain⟨d,f,b⟩:=zh6 hx;rw[h];refine zH ?_;unfold Instr.index asIntOf zr;simp only[bd,be,bc,zG hT];have e:(if 0<=ix then(⟨s.toArray⟩:ByteArray)[ix.toNat]? else none)=some x:=by
  rw[if_pos d];have a:ix.toNat<s.length:=by omega
  have hs:ix.toNat<(⟨s.toArray⟩:ByteArray).size:=by simpa[ByteArray.size]using a
  rw[getElem?_pos (⟨s.toArray⟩:ByteArray) ix.toNat hs];have:=b;rw[cz a]at this;exact this
 rw[e];rfl
def kr{p:Prop}(h:p:=by kernel_rfl):p:=h
def sj{α:Type _}{a b:α}(h:some a=some b):a=b:=Option.some.inj h
abbrev BS:=List UInt8
abbrev LI:=List Int
abbrev LG:=List (BS×Int)
abbrev LT:=List (BS×LI)
abbrev LP:=List ((Int×Int)×Int)
abbrev LB:=List (Int×Int×Int)
abbrev LW:=List BS
abbrev LM:=List LI
abbrev TS:=LG×LT
abbrev OA:=Option Addr
abbrev iv(n:Int):Value:=.int .i64 n
abbrev pt(b o:Nat):Value:=.pointer (some ⟨b,o,none⟩)
abbrev bW(p:Prop)[Decidable p]:Value:=.bool (decide p)
abbrev sl(a:Option Addr)(n c:Nat):Value:=.slice a n c
def eA{E F:Env}(t:Nat)(h:E=F){v:Value}(hv:F t=v:=by kernel_rfl):E=upd F t v:=zb h hv
def zyk:List (Value->K->Prop)->Nat->Value->K->Prop
 |[],_=>λ_ _=>True
 | S::_,0=>S
 | _::Ss,i+1=>zyk Ss i
def zzE:List Nat->Nat->Nat
 |[],_=>0
 | d::_,0=>d
 | _::ds,i+1=>zzE ds i
def lt0{X:Nat->Prop}:∀i,i<0->X i:=λi h=>absurd h (Nat.not_lt_zero i)
def ltS{X:Nat->Prop}(k:Nat)(h:∀i,i<k->X i)(hk:X k):∀i,i<k+1->X i:=by
 intro i hi;rcases gt i k with h1 | h1
 ·exact h i h1
 ·have:i=k:=by omega
  rw[this];exact hk
def zDB(c:Code)(k:Nat)(ds:List Nat):Bool:=(List.range k).all λi=>Nat.beq (dstOf c i) (zzE ds i)
def zDo(k:Nat)(ds:List Nat)(t:Nat):Bool:=(List.range k).all λi=>!Nat.beq t (zzE ds i)
section
variable [Fc] [Fb] {P:Program} {n:Nat} {Q:zaY} {E:Env} {κ:K}
def zvX{c0:Code}{p:List Nat}(i0:Nat)(Rel0 Rel1:K->K->Prop)(rr:∀κ,Rel1 κ κ)(rt0:∀κ1 κ2 κ3,Rel0 κ1 κ2->Rel0 κ2 κ3->Rel0 κ1 κ3)(rt1:∀κ1 κ2 κ3,Rel1 κ1 κ2->Rel1 κ2 κ3->Rel1 κ1 κ3)(r10:∀κ1 κ2,Rel1 κ1 κ2->Rel0 κ1 κ2)(k:Nat)(ds:List Nat)(Ss:List (Value->K->Prop))(h:zcJ (sub c0 p)=some true)(hm:P.follows .mixedOrders=true)(hB:znP (sub c0 p) n k=true)(hds:zDB (sub c0 p) k ds=true)(mono:∀i,i<k->∀v κ1 κ2,Rl i0 i Rel1 Rel0 κ1 κ2->zyk Ss i v κ1->zyk Ss i v κ2)(hop:∀i,i<k->∀a κ',Rl i0 i Rel1 Rel0 κ κ'->(∀t,zDo k ds t=true->a t=E t)->
   (∀j,Nat.blt j k=true->dep (sub c0 p) i j=true->zyk Ss j (a (zzE ds j)) κ')->OpQ P (Rl i0 i Rel0 Rel1) (sub c0 p) i a κ' (zyk Ss i))(fin:∀a κ',Rel0 κ κ'->(∀t,zDo k ds t=true->a t=E t)->(∀j,Nat.blt j k=true->zyk Ss j (a (zzE ds j)) κ')->
   owp P n (sub c0 p) k Q a κ'):cwp P n (sub c0 p) Q E κ:=by
 have hd:∀j,j<k->dstOf (sub c0 p) j=zzE ds j:=λj d=>gj (bi.1 hds j (fp.2 d));have r:∀t,zDo k ds t=true->∀j,j<k->t≠dstOf (sub c0 p) j:=by
  intro t m j d e;have:=bi.1 m j (fp.2 d);rw[hd j d]at e;rw[←e]at this;simp at this
 refine zxU i0 Rel0 Rel1 rr rt0 rt1 r10 k (zyk Ss) h hm hB (λi v κ1 κ2 hi hS g=>mono i hi v κ1 κ2 g hS) ?_ ?_
 ·intro i hi a κ' g c l;exact hop i hi a κ' g (λt m=>c t (r t m)) λj d q=>by
   have b:j<k:=by simpa[Nat.blt,gp]using d
   rw[←hd j b];exact l j b q
 ·intro a κ' g c f;exact fin a κ' g (λt m=>c t (r t m)) λj d=>by
   have b:j<k:=by simpa[Nat.blt,gp]using d
   rw[←hd j b];exact f j b
def zcf{Rel:K->K->Prop}{c:Code}{i:Nat}{E F:Env}{κ:K}{R:Value->K->Prop}(h:E=F)(hk:OpQ P Rel c i F κ R):OpQ P Rel c i E κ R:=by rw[h];exact hk
def zsW{Rel:K->K->Prop}(rr:∀κ,Rel κ κ){c:Code}{i:Nat}{R:Value->K->Prop}{b off:Nat}{T:TypeId}{v:Value}(h:zbR c i E=true)(ho:execOp (ev E) (zx c i)=vOf (Instr.loadAt T (.pointer (some ⟨b,off,none⟩))))(hT:zeD P T=some false)(hv:κ.cell b off=some v)(hR:R v κ):OpQ P Rel c i E κ R:=
 ziq rr v h (λC a=>by rw[ho];exact zH (ziO hT hv)) hR
def zzD{Rel:K->K->Prop}(rr:∀κ,Rel κ κ){c:Code}{i:Nat}{R:Value->K->Prop}{b off:Nat}{T:TypeId}{cs:List Value}(h:zbR c i E=true)(ho:execOp (ev E) (zx c i)=vOf (Instr.loadAt T (.pointer (some ⟨b,off,none⟩))))(hT:zeD P T=some true)(hs:zM P T=some cs.length)(hv:zl8 κ b off cs)(hR:R (.agg cs.toArray) κ):OpQ P Rel c i E κ R:=
 ziq rr _ h (λC a=>by rw[ho];exact zH (zjp hT hs hv)) hR
def zvG{Rel:K->K->Prop}(rr:∀κ,Rel κ κ){c:Code}{i:Nat}{R:Value->K->Prop}{b off:Nat}{a:Option Addr}{T el:TypeId}{sz ln cp:Nat}{k:IntKind}{ix:Int}(ea:a=some ⟨b,off,none⟩)(h:zbR c i E=true)(ho:execOp (ev E) (zx c i)=vOf (Instr.indexAt T (.slice a ln cp) (.int k ix)))(hT:zJ P T=some el)(hs:zM P el=some sz)(h0:0<=ix)(h1:ix<ln)(hR:R (.pointer (some ⟨b,off+ix.toNat*sz,none⟩)) κ):OpQ P Rel c i E κ R:=by
 subst ea;exact ziq rr _ h (λC d=>by rw[ho];exact zH (by rw[znk hT hs h0 h1,zgZ])) hR
def zCa{Rel:K->K->Prop}{c:Code}{i:Nat}{R:Value->K->Prop}(h:zbR c i E=true)(hr:∀C d,∃v κ' a,(execOp (ev E) (zx c i)).run P (W C κ d)=.ok (.value v) (W C κ' a)/\Rel κ κ'/\R v κ'):OpQ P Rel c i E κ R:=
 zt6 h λC d=>by obtain⟨v,κ',a,e,b,f⟩:=hr C d;rw[e];exact⟨κ',a,rfl,b,f⟩
end
def Rep{α:Type}(t:Ty α)(κ:K)(xs:List Value):List α->Prop
 |[]=>xs=[]
 | x::l=>∃c xs',xs=c++xs'/\t.own κ c x/\Rep t κ xs' l
section
variable {α:Type} {t:Ty α} {κ κ':K} {M:List Nat}
def Rep.length:∀{l:List α} {xs:List Value},Rep t κ xs l->xs.length=l.length*t.size
 |[],xs,h=>by have h:xs=[]:=h;rw[h];simp
 | x::l,xs,⟨c,xs',h,ho,hr⟩=>by rw[h,dy,t.len ho,hr.length,dz,gz,Nat.add_comm]
def Rep.step(s:Step M κ κ'):∀{l:List α} {xs:List Value},Rep t κ xs l->Rep t κ' xs l
 |[],_,h=>h
 | _::_,_,⟨c,xs',h,ho,hr⟩=>⟨c,xs',h,t.step s ho,Rep.step s hr⟩
def Rep.append:∀{l l':List α} {xs xs':List Value},Rep t κ xs l->Rep t κ xs' l'->Rep t κ (xs++xs') (l++l')
 |[],_,xs,_,h,h'=>by have h:xs=[]:=h;rw[h];exact h'
 | x::l,_,_,xs2,⟨c,xs',h,ho,hr⟩,h'=>⟨c,xs'++xs2,by rw[h,bl],ho,hr.append h'⟩
def Rep.one:∀{l:List α} {xs:List Value},Rep t κ xs l->∀v∈xs,v.oneCell'=true
 |[],xs,h,v,hv=>by have h:xs=[]:=h;rw[h]at hv;cases hv
 | x::l,xs,⟨c,xs',h,ho,hr⟩,v,hv=>by
  rw[h,fe]at hv;exact hv.elim (t.one ho v) (hr.one v)
def Rep.get:∀{l:List α} {xs:List Value} {i:Nat} {x:α},Rep t κ xs l->l[i]?=some x->∃cs,t.own κ cs x/\(xs.drop (i*t.size)).take t.size=cs
 |[],_,i,x,_,hx=>by simp at hx
 | y::l,xs,0,x,⟨c,xs',h,ho,hr⟩,hx=>by
  simp at hx;subst hx;refine⟨c,ho,?_⟩;rw[h,←t.len ho];simp
 | y::l,xs,i+1,x,⟨c,xs',h,ho,hr⟩,hx=>by
  simp at hx;obtain⟨cs,a,b⟩:=hr.get hx;refine⟨cs,a,?_⟩;have e:(i+1)*t.size=c.length+i*t.size:=by rw[gz,t.len ho,Nat.add_comm]
  rw[←b,h,e,List.drop_length_add_append]
def Rep.set:∀{l:List α} {xs:List Value} {i:Nat} {x:α} {cs:List Value},Rep t κ xs l->t.own κ cs x->i<l.length->
  Rep t κ (xs.take (i*t.size)++cs++xs.drop ((i+1)*t.size)) (l.set i x)
 |[],_,i,x,_,_,_,hi=>by simp at hi
 | y::l,xs,0,x,cs,⟨c,xs',h,ho,hr⟩,hx,hi=>by
  refine⟨cs,xs',?_,hx,hr⟩;rw[h,←t.len ho];simp
 | y::l,xs,i+1,x,cs,⟨c,xs',h,ho,hr⟩,hx,hi=>by
  refine⟨c,_,?_,ho,hr.set hx (by simpa using hi)⟩;have a:(i+1)*t.size=c.length+i*t.size:=by rw[gz,t.len ho,Nat.add_comm]
  have b:(i+1+1)*t.size=c.length+(i+1)*t.size:=by rw[gz,t.len ho,Nat.add_comm]
  rw[h,a,b,List.take_length_add_append,List.drop_length_add_append];simp[bl];rw[a]
def Rep.of_sl{a:Option Addr}{c:Nat}:∀{l:List α},Sl t κ a c l->∃xs,Rep t κ xs l/\(0<l.length->∃b off,a=some ⟨b,off,none⟩/\PubAt κ b off xs)
 | l,h=>by
  induction l generalizing a c with
  | nil=>exact⟨[],rfl,λh=>by simp at h⟩
  | cons x l ih=>
   obtain⟨b,off,w,s⟩:=h.elems si;obtain⟨cs,hp,p⟩:=s 0 x si;simp only[Nat.zero_mul,Nat.add_zero]at hp;have h':Sl t κ (some ⟨b,off+t.size,none⟩) l.length l:=by
    refine⟨gl _,by have:=h.most;simp at this;omega,λ_=>⟨b,off+t.size,rfl,λi y u=>?_⟩⟩;obtain⟨m,d,n⟩:=s (i+1) y (by simpa using u);refine⟨m,?_,n⟩;have:off+t.size+i*t.size=off+(i+1)*t.size:=by rw[gz];omega
    rw[this];exact d
   obtain⟨xs,q,z⟩:=ih h';refine⟨cs++xs,⟨cs,xs,rfl,p,q⟩,λ_=>⟨b,off,w,?_⟩⟩;have A:=t.len p;by_cases g:0<l.length
   ·obtain⟨B,r,e,d⟩:=z g;injection e with e
    injection e with e1 e2
    subst e1;subst e2;refine⟨hp.1,?_,λj v f=>?_⟩
    ·have:=d.2.1;rw[dy];omega
    ·rw[List.getElem?_append]at f;split at f
     ·exact hp.2.2 j v f
     ·have:=d.2.2 _ v f;rw[←this];congr 1;omega
   ·have:l=[]:=bz om;subst this;have k:xs=[]:=q;subst k;simpa using hp
end
def blk(a:Option Addr)(c:Nat):List Nat:=
 match a with
 | some a=>if c=0 then[]else[a.block]
 | none=>[]
def zsC{g:Nat}{a:Addr}{c:Nat}(h:g∈blk (some a) c):g=a.block/\0<c:=by
 by_cases b:c=0
 ·simp[blk,b]at h
 ·simp[blk,b]at h;exact⟨h,by omega⟩
def zlv{a:Addr}{c:Nat}(h:0<c):a.block∈blk (some a) c:=by
 have:¬c=0:=by omega
 simp[blk,this]
def zsB{a:Option Addr}:blk a 0=[]:=by cases a<;>simp[blk]
structure Gr{α:Type}(t:Ty α)(pub:Bool)(τ:Tag)(κ:K)(e:TypeId)(a:Option Addr)(c:Nat)(l:List α):Prop where
 most:l.length<=maxLen
 body:(c=0/\l=[])\/∃g cur xs,a=some ⟨g,0,none⟩/\Rep t κ xs l/\κ.H[g]?=some (.cells cur e (0,0))/\l.length<=c/\c<=maxLen/\
  cur.size=c*t.size/\cur.toList.take (l.length*t.size)=xs/\κ.fr g=(if pub=true then l.length*t.size else 0)/\κ.tag g=τ/\τ.1<=g
section
variable {α:Type} {t:Ty α} {pub:Bool} {τ τ':Tag} {κ κ':K} {e:TypeId} {a:Option Addr} {c:Nat} {l:List α} {M:List Nat}
def Gr.nil:Gr t pub τ κ e none 0 []:=⟨by simp,.inl ⟨rfl,rfl⟩⟩
def Gr.lt(h:Gr t pub τ κ e a c l):∀g∈blk a c,g<κ.H.size/\κ.tag g=τ/\τ.1<=g:=by
 intro g b;rcases h.body with⟨d,_⟩ |⟨g',cur,xs,d,hr,hH,h1,h2,h3,h4,h5,h6,h7⟩
 ·rw[d,zsB]at b;cases b
 ·rw[d]at b;have:g=g':=(zsC b).1;subst this;exact⟨(ai.1 hH).1,h6,h7⟩
def Gr.step(s:Step M κ κ')(hm:∀g∈blk a c,g∉M)(h:Gr t pub τ κ e a c l):Gr t pub τ κ' e a c l:=by
 refine⟨h.most,?_⟩;rcases h.body with⟨j,i⟩ |⟨g,cur,xs,ha,hr,hH,h1,h2,h3,h4,h5,h6,h7⟩
 ·exact .inl ⟨j,i⟩
 ·by_cases d:c=0
  ·exact .inl ⟨d,bz om⟩
  have b:g<κ.H.size:=(ai.1 hH).1;have f:=s.2.1 g b (hm g (by rw[ha];exact zlv om));exact .inr ⟨g,cur,xs,ha,hr.step s,f.1.trans hH,h1,h2,h3,h4,f.2.1.trans h5,f.2.2.trans h6,h7⟩
def Gr.step0(s:Step [] κ κ')(h:Gr t pub τ κ e a c l):Gr t pub τ κ' e a c l:=h.step s si
def Gr.nb{b:Nat}{cs:List Value}{T:TypeId}(h:Gr t pub τ κ e a c l)(hb:Box τ' κ b cs T)(hn:τ≠τ'):∀g∈blk a c,g∉[b]:=by
 intro g d f;have:g=b:=by simpa using f
 subst this;exact hn ((h.lt g d).2.1.symm.trans hb.tag)
def Gr.bn{b:Nat}{cs:List Value}{T:TypeId}(h:Gr t pub τ κ e a c l)(hb:Box τ' κ b cs T)(hn:τ'≠τ):b∉blk a c:=by
 intro d;exact hn (hb.tag.symm.trans (h.lt b d).2.1)
def Gr.ng{β:Type}{t':Ty β}{pub':Bool}{e':TypeId}{a':Option Addr}{c':Nat}{l':List β}(h:Gr t pub τ κ e a c l)(h':Gr t' pub' τ' κ e' a' c' l')(hn:τ≠τ'):∀g∈blk a c,g∉blk a' c':=by
 intro g b d;exact hn ((h.lt g b).2.1.symm.trans (h'.lt g d).2.1)
def Gr.own{κ0:K}(h:Gr t pub τ κ e a c l)(h0:κ0.H.size<=τ.1):∀b∈blk a c,κ0.H.size<=b:=λb d=>gm h0 (h.lt b d).2.2
def Gr.sl(h:Gr t true τ κ e a c l):Sl t κ a c l:=by
 rcases h.body with⟨p,m⟩ |⟨g,cur,xs,ha,hr,hH,h1,h2,h3,h4,h5,h6,h7⟩
 ·rw[p,m];exact⟨gl _,by simp,λh=>by simp at h⟩
 ·refine⟨h1,h.most,λ_=>⟨g,0,ha,λi x k=>?_⟩⟩;obtain⟨cs,f,d⟩:=hr.get k;have hi:i<l.length:=(dg.1 k).1;have n:i*t.size+t.size<=l.length*t.size:=by rw[←gz];exact gy _ hi
  refine⟨cs,⟨(ai.1 hH).1,?_,λj v b=>?_⟩,f⟩
  ·rw[h5,if_pos rfl,t.len f];omega
  ·rw[←d,←h4]at b;rw[dv]at b;split at b
   ·rw[cw,dv]at b;split at b
    ·unfold K.cell;rw[hH];simp only[ia];rw[←au];exact b
    ·cases b
   ·cases b
def K.pubB(κ:K)(g m:Nat):K:=⟨κ.H,λb=>if b=g then m else κ.fr b,κ.tag⟩
def Gr.publish(h:Gr t false τ κ e a c l):∃κ',κ'.H=κ.H/\Step (blk a c) κ κ'/\Gr t true τ κ' e a c l:=by
 rcases h.body with⟨j,i⟩ |⟨g,cur,xs,ha,hr,hH,h1,h2,h3,h4,h5,h6,h7⟩
 ·exact⟨κ,rfl,Step.refl _ _,h.most,.inl ⟨j,i⟩⟩
 ·by_cases d:c=0
  ·exact⟨κ,rfl,Step.refl _ _,h.most,.inl ⟨d,bz om⟩⟩
  have hs:Step (blk a c) κ (κ.pubB g (l.length*t.size)):=by
   refine⟨gl _,λb f hm=>⟨rfl,?_,rfl⟩,λb f=>⟨?_,λo _=>rfl⟩,λb f _=>⟨rfl,rfl⟩⟩
   ·simp only[K.pubB];rw[if_neg];intro e;exact hm (by rw[ha,e];exact zlv om)
   ·simp only[K.pubB];split
    ·rename_i e;subst e;rw[h5];simp
    ·exact gl _
  exact⟨κ.pubB g (l.length*t.size),rfl,hs,h.most,.inr ⟨g,cur,xs,ha,hr.step hs,hH,h1,h2,h3,h4,by simp[K.pubB],h6,h7⟩⟩
def znm[Fc][Fb]{P:Program}{n:Nat}{c0:Code}{i:Nat}{Q:zaY}{E:Env}(h:Gr t false τ κ e a c l)(hk:∀κ',Step (blk a c) κ κ'->Gr t true τ κ' e a c l->owp P n c0 i Q E κ'):owp P n c0 i Q E κ:=by
 obtain⟨κ',b,s,h'⟩:=h.publish;exact ziQ b (hk κ' s h')
def zcX[Fc][Fb]{P:Program}{n:Nat}{c0:Code}{Q:zaY}{E:Env}(h:Gr t false τ κ e a c l)(hk:∀κ',Step (blk a c) κ κ'->Gr t true τ κ' e a c l->cwp P n c0 Q E κ'):cwp P n c0 Q E κ:=by
 obtain⟨κ',b,s,h'⟩:=h.publish;exact zvW b (hk κ' s h')
def zmc:maxLen=9223372036854775807:=by unfold maxLen;omega
def zqi(P:Program)(T:TypeId):Option Nat:=(zfc P T).map (·.cells.size)
def K.row(κ:K)(g m:Nat)(cs:List Value)(e:TypeId):K:=⟨κ.H.setIfInBounds g (.cells cs.toArray e (0,0)),λb=>if b=g then m else κ.fr b,κ.tag⟩
def zD0[Fb]{C:Cx}{d g m:Nat}{cur:Array Value}{cs:List Value}(hg:κ.H[g]?=some (.cells cur e (0,0))):(W C κ d).setRow g cs.toArray=W C (κ.row g m cs e) d:=by
 have f:g<κ.H.size:=(ai.1 hg).1;unfold World.setRow W K.row;simp only[];congr 1;apply Array.ext
 ·simp
 ·intro j h i;have c:j<κ.H.size:=by simpa using h
  rw[Array.getElem_modify];by_cases a:g=j
  ·subst a;rw[ac c]at hg;have b:=Option.some.inj hg;simp[b]
  ·rw[if_neg a,Array.getElem_setIfInBounds_ne c a]
def zAx{g m:Nat}{cur:Array Value}{cs:List Value}(hg:κ.H[g]?=some (.cells cur e (0,0)))(hm:κ.fr g<=m)(hk:∀o,o<κ.fr g->cs[o]?=cur[o]?)(hz:cs.length=cur.size):Step [g] κ (κ.row g m cs e):=by
 have b:g<κ.H.size:=(ai.1 hg).1;refine⟨by simp[K.row],λx c hm=>⟨?_,?_,rfl⟩,λx c=>⟨?_,λo d=>?_⟩,λx c f=>⟨rfl,?_⟩⟩
 ·have:g≠x:=λe=>hm (by simp[e]);simp only[K.row];rw[am this]
 ·have:x≠g:=λe=>hm (by simp[e]);simp only[K.row];rw[if_neg this]
 ·simp only[K.row];split
  ·rename_i hx';rw[hx'];exact hm
  ·exact gl _
 ·by_cases a:g=x
  ·subst a;unfold K.cell K.row;simp only[an b,hg];rw[←hk o d];simp
  ·unfold K.cell K.row;simp only[am a]
 ·by_cases a:g=x
  ·subst a;unfold K.shp K.row;simp only[an b,hg];simp[hz]
  ·unfold K.shp K.row;simp only[am a]
def zto{P:Program}{T tx ty:TypeId}{bytes:Nat}(h:Gr t pub τ κ e a c l){x:Value}{l2:List α}{ys:List Value}(hys:Rep t κ ys l2)(hτ:τ.1<=κ.H.size)(hT:zJ P T=some e)(hsz:zM P e=some t.size)(hz:zqi P e=some t.size)(hby:zm8 P e=some bytes)(R:(l.length+l2.length)*bytes<=140737488355328)(hmax:l.length+l2.length<=9223372036854775807)[Fb](C:Cx)(d:Nat)(hS:Src P t.size tx x l2.length ys (W C κ d)):
  ∃a' c' κ' d',(Builtin.append_ #[T,tx] ty #[.slice a l.length c,x]).run P (W C κ d)=.ok (.slice a' (l++l2).length c') (W C κ' d')/\
   Step (blk a c) κ κ'/\Gr t pub τ κ' e a' c' (l++l2)/\∀g∈blk a' c',g∈blk a c\/κ.H.size<=g:=by
 have w:P.underlying T=some (.slice e):=by
  unfold zJ at hT;split at hT
  ·rename_i e' he;rw[he];injection hT with hT;subst hT;rfl
  ·cases hT
 obtain⟨i,hi,V⟩:∃i,P.info? e=some i/\i.bytes=bytes:=by
  unfold zm8 at hby;obtain⟨i,s,O⟩:=ig.1 hby;exact⟨i,s,O⟩
 have m:i.size=t.size:=by unfold zM at hsz;rw[hi]at hsz;simpa using hsz
 obtain⟨z,X,Y⟩:∃z,i.zero=some z/\z.cells.size=t.size:=by
  unfold zqi zfc at hz;rw[hi]at hz;obtain⟨z,s,O⟩:=ig.1 hz;exact⟨z,by simpa using s,O⟩
 have k:l.length+l2.length<=maxLen:=by rw[zmc];exact hmax
 rw[←m]at hS;have a0:l.length<=c:=by
  rcases h.body with⟨_,J⟩ |⟨g,cur,xs,ha,q,hH,s,_⟩
  ·rw[J];simp
  ·exact s
 by_cases E:l2=[]
 ·subst E;have hy:ys=[]:=by have:=hys.length;simpa using this
  subst hy;refine⟨a,c,κ,d,?_,Step.refl _ _,by simpa using h,λg y=>.inl y⟩;have hc:=hS.cells;have hn:=hS.len;simp only[eh]at hc hn;simp only[bp];rcases hS.kind with⟨e',D⟩ | D<;>cases a<;>simp[Builtin.append_,run_underlying w,run_underlying D,sizeOf,typeInfo,hi,hn,a0,hc,storeCells]
 ·have a5:0<l2.length:=List.length_pos_iff.2 E;have U:ys.length=l2.length*i.size:=by rw[m];exact hys.length
  have v:∀(xs:List Value)(cp:Nat),Rep t κ xs l->l.length+l2.length<=cp->cp<=maxLen->
    let κ':=κ.push (.cells ((xs++ys).toArray++Builtin.zeroCells z.cells (cp - (l.length+l2.length))) e) (if pub=true then(l++l2).length*t.size else 0) τ
    Step (blk a c) κ κ'/\Gr t pub τ κ' e (some ⟨κ.H.size,0,none⟩) cp (l++l2):=by
   intro xs cp q M Q κ';have hs:Step [] κ κ':=zcY _ _ _ _;refine⟨hs.nil,by rw[dy];exact k,.inr ⟨κ.H.size,(xs++ys).toArray++Builtin.zeroCells z.cells (cp - (l.length+l2.length)),xs++ys,rfl,(q.step hs).append (hys.step hs),by simp[κ',K.push],by rw[dy];exact M,Q,?_,?_,by simp[κ',K.push],by simp[κ',K.push],hτ⟩⟩
   ·simp only[Array.size_append,ga,dy,size_zeroCells,Y,q.length,hys.length,←gi];congr 1;omega
   ·simp only[Array.toList_append];have hlen:(l++l2).length*t.size=(xs++ys).length:=by rw[dy,dy,q.length,hys.length,gi]
    rw[hlen];exact List.take_left
  have n:∀xs,Rep t κ xs l->(Builtin.firstCells i.size l.length (.slice a l.length c)).run P (W C κ d).drew=.ok xs.toArray (W C κ d).drew->c<l.length+l2.length->∃a' c' κ' d',(Builtin.append_ #[T,tx] ty #[.slice a l.length c,x]).run P (W C κ d)=.ok (.slice a' (l++l2).length c') (W C κ' d')/\
   Step (blk a c) κ κ'/\Gr t pub τ κ' e a' c' (l++l2)/\∀g∈blk a' c',g∈blk a c\/κ.H.size<=g:=by
   intro xs q F r;have p:=run_append_grow_src (P:=P) (W C κ d) T tx ty e i z w hi X a l.length c xs F x l2.length ys hS r om (growslice_fits om (by rw[V];exact R));have H:=v xs (grownCap (W C κ d) (l.length+l2.length) c e) q (grownCap_ge _ _ _ _) (grownCap_le_maxLen _ _ _ _ k);refine⟨_,_,_,d+1,?_,H.1,H.2,λg y=>.inr (by have:=(zsC y).1;rw[this];exact gl _)⟩;rw[p,dy];rfl
  rcases h.body with⟨hc,J⟩ |⟨g,cur,xs,ha,q,hH,s,h2',h3,h4,h5,h6,h7⟩
  ·refine n [] (by rw[J];exact rfl) ?_ om;rw[J];cases a<;>simp[Builtin.firstCells,loadCells,loadCellsFrom]
  ·by_cases f:l.length+l2.length<=c
   ·subst ha;have G:l.length*i.size+ys.length<=cur.size:=by rw[U,h3,←gi,m];exact gy _ f
    have B:=run_storeCells_at P g (l.length*i.size) e ys 0 cur (W C κ d) hH (by simpa using G) hys.one;simp only[Nat.add_zero]at B;have p:(Builtin.append_ #[T,tx] ty #[.slice (some ⟨g,0,none⟩) l.length c,x]).run P (W C κ d)=.ok (.slice (some ⟨g,0,none⟩) (l.length+l2.length) c) ((W C κ d).setRow g (cur.toList.take (l.length*i.size)++ys++cur.toList.drop (l.length*i.size+ys.length)).toArray):=by
     rcases hS.kind with⟨e',D⟩ | D<;>simp[Builtin.append_,run_underlying w,run_underlying D,sizeOf,typeInfo,hi,hS.len,f,hS.cells,Addr.add_lit,B]
    have N:κ.fr g<=(if pub=true then(l++l2).length*t.size else 0):=by
     rw[h5];split
     ·exact gy _ si
     ·exact gl _
    have A:(cur.toList.take (l.length*i.size)).length=l.length*t.size:=by
     have a1:cur.toList.length=c*t.size:=by simpa using h3
     rw[ey,m,a1];exact Nat.min_eq_left (gy _ s)
    have hs:Step [g] κ (κ.row g (if pub=true then(l++l2).length*t.size else 0) (cur.toList.take (l.length*i.size)++ys++cur.toList.drop (l.length*i.size+ys.length)) e):=by
     refine zAx hH N (λo Z=>?_) (by simp only[dy,ey,ec,av];omega);have I:o<l.length*t.size:=by
      rw[h5]at Z;split at Z
      ·exact Z
      ·omega
     rw[bl,cq (by rw[A];exact I),dv,if_pos (by rw[m];exact I)];simp
    refine⟨some ⟨g,0,none⟩,c,κ.row g (if pub=true then(l++l2).length*t.size else 0) (cur.toList.take (l.length*i.size)++ys++cur.toList.drop (l.length*i.size+ys.length)) e,d,?_,hs.mono (λb R=>by rw[fq.1 R];exact zlv (a:=⟨g,0,none⟩) om),⟨by rw[dy];exact k,.inr ⟨g,(cur.toList.take (l.length*i.size)++ys++cur.toList.drop (l.length*i.size+ys.length)).toArray,xs++ys,rfl,(q.step hs).append (hys.step hs),?_,by rw[dy];exact f,h2',?_,?_,by simp[K.row],h6,h7⟩⟩,λg y=>.inl y⟩
    ·rw[p,zD0 hH,dy]
    ·have r:g<κ.H.size:=(ai.1 hH).1;simp[K.row,r]
    ·simp only[ga,dy,ey,ec,av];omega
    ·have S:cur.toList.take (l.length*i.size)=xs:=by rw[m];exact h4
     simp only[];rw[S];have hlen:(l++l2).length*t.size=(xs++ys).length:=by rw[dy,dy,q.length,hys.length,gi]
     rw[hlen];exact List.take_left
   ·subst ha;refine n xs q (run_firstCells_some (P:=P) _ i.size l.length ⟨g,0,none⟩ l.length c xs (by rw[m];exact q.length) λj u L=>?_) om;rw[zgZ];show(W C κ (d+1)).cell? ⟨g,0+j,none⟩=some u;rw[zkz];unfold K.cell;rw[hH];simp only[ia];rw[←h4,dv]at L;split at L
    ·rw[←au];exact L
    ·cases L
def zq5{P:Program}{T ty:TypeId}{bytes:Nat}(h:Gr t pub τ κ e a c l){a2:Option Addr}{c2:Nat}{l2:List α}(h2:Sl t κ a2 c2 l2)(hτ:τ.1<=κ.H.size)(hT:zJ P T=some e)(hsz:zM P e=some t.size)(hz:zqi P e=some t.size)(hby:zm8 P e=some bytes)(hb:(l.length+l2.length)*bytes<=140737488355328)(hmax:l.length+l2.length<=9223372036854775807)[Fb](C:Cx)(d:Nat):
  ∃a' c' κ' d',(Builtin.append_ #[T,T] ty #[.slice a l.length c,.slice a2 l2.length c2]).run P (W C κ d)=.ok (.slice a' (l++l2).length c') (W C κ' d')/\
   Step (blk a c) κ κ'/\Gr t pub τ κ' e a' c' (l++l2)/\∀g∈blk a' c',g∈blk a c\/κ.H.size<=g:=by
 have f:P.underlying T=some (.slice e):=by
  unfold zJ at hT;split at hT
  ·rename_i e' he;rw[he];injection hT with hT;subst hT;rfl
  ·cases hT
 obtain⟨s,b,k⟩:=Rep.of_sl h2;refine zto h b hτ hT hsz hz hby hb hmax C d ?_;by_cases i:l2=[]
 ·subst i;have v:s=[]:=by have:=b.length;simpa using this
  subst v;cases a2 with
  | none=>exact Src.ofNil _ f c2
  | some q=>exact Src.ofSlice _ f q _ c2 _ si (λj u m=>by cases m) (λu w=>by cases w)
 ·obtain⟨x,r,n,p⟩:=k (List.length_pos_iff.2 i);subst n;exact Src.ofSlice _ f _ _ c2 _ b.length (λj u m=>by rw[zgZ,zkz];exact p.2.2 j u m) b.one
end
def app{α:Type}(bytes:Nat)(l l2:List α):Option (List α):=
 if(l.length+l2.length)*bytes<=140737488355328/\l.length+l2.length<=9223372036854775807 then some (l++l2)else none
def zm3{α:Type}{bytes:Nat}{l l2 r:List α}(h:app bytes l l2=some r):(l.length+l2.length)*bytes<=140737488355328/\l.length+l2.length<=9223372036854775807/\r=l++l2:=by
 unfold app at h;split at h
 ·rename_i h0;injection h with h;exact⟨h0.1,h0.2,h.symm⟩
 ·cases h
def mkl{α:Type}(bytes:Nat)(n:Int)(z:α):Option (List α):=
 if 0<=n/\n<=9223372036854775807/\n*bytes<=140737488355328 then some (List.replicate n.toNat z)else none
def zxv{α:Type}{bytes:Nat}{n:Int}{z:α}{r:List α}(h:mkl bytes n z=some r):0<=n/\n<=9223372036854775807/\n*bytes<=140737488355328/\r=List.replicate n.toNat z:=by
 unfold mkl at h;split at h
 ·rename_i h0;injection h with h;exact⟨h0.1,h0.2.1,h0.2.2,h.symm⟩
 ·cases h
def zlK{α:Type}(l:List α)(lo hi:Int):Option (List α):=
 if 0<=lo/\lo<=hi/\hi<=l.length then some ((l.take hi.toNat).drop lo.toNat)else none
def zob{α:Type}{l r:List α}{lo hi:Int}(h:zlK l lo hi=some r):0<=lo/\lo<=hi/\hi<=l.length/\r=(l.take hi.toNat).drop lo.toNat:=by
 unfold zlK at h;split at h
 ·rename_i h0;injection h with h;exact⟨h0.1,h0.2.1,h0.2.2,h.symm⟩
 ·cases h
def zj5(P:Program)(T:TypeId):Option (TypeId×Nat×Nat×Nat):=
 match zJ P T with
 | some e=>match zM P e,zqi P e,zm8 P e with
  | some s,some z,some b=>some (e,s,z,b)
  | _,_,_=>none
 | none=>none
def ziV{P:Program}{T e:TypeId}{s z b:Nat}(h:zj5 P T=some (e,s,z,b)):zJ P T=some e/\zM P e=some s/\zqi P e=some z/\zm8 P e=some b:=by
 unfold zj5 at h;split at h
 ·rename_i e' he;split at h
  ·rename_i h1 h2 h3;injection h with h
   injection h with h4 h
   injection h with h5 h
   injection h with h6 h7
   subst h4;subst h5;subst h6;subst h7;exact⟨he,h1,h2,h3⟩
  ·cases h
 ·cases h
def zgG{P:Program}{T e:TypeId}(hT:zJ P T=some e):P.underlying T=some (.slice e):=by
 unfold zJ at hT;split at hT
 ·rename_i e' he;rw[he];injection hT with hT;subst hT;rfl
 ·cases hT
section
variable [Fc] [Fb] {P:Program} {n:Nat} {c:Code} {i:Nat} {Q:zaY} {E:Env} {κ:K} {α:Type} {t:Ty α} {pub:Bool} {τ:Tag} {e T:TypeId} {a a2:Option Addr} {cp c2:Nat} {l l2 r:List α} {Rel:K->K->Prop} {R:Value->K->Prop}
def zmE{d bytes:Nat}(h:st c i n E (some d)=true)(ho:execOp (ev E) (zx c i)=vOf (Builtin.append_ #[T,T] 0 #[.slice a l.length cp,.slice a2 l2.length c2]))(hg:Gr t pub τ κ e a cp l)(h2:Sl t κ a2 c2 l2)(hτ:τ.1<=κ.H.size)(hT:zj5 P T=some (e,t.size,t.size,bytes))(hx:app bytes l l2=some r)(hk:∀a' c' κ',Step (blk a cp) κ κ'->Gr t pub τ κ' e a' c' r->(∀g∈blk a' c',g∈blk a cp\/κ.H.size<=g)->owp P n c (i+1) Q (upd E d (.slice a' r.length c')) κ'):owp P n c i Q E κ:=by
 obtain⟨q,u,k,s⟩:=ziV hT;obtain⟨w,hm,rfl⟩:=zm3 hx;refine zgj (λv κ'=>∃a' c',v=.slice a' (l++l2).length c'/\Step (blk a cp) κ κ'/\Gr t pub τ κ' e a' c' (l++l2)/\∀g∈blk a' c',g∈blk a cp\/κ.H.size<=g) h (λC j=>?_) ?_
 ·obtain⟨a',c',κ',m,p,hs,b,f⟩:=zq5 (P:=P) (T:=T) (ty:=0) hg h2 hτ q u k s w hm C j;exact⟨_,κ',m,by rw[ho];exact zH p,a',c',rfl,hs,b,f⟩
 ·rintro v κ' ⟨a',c',rfl,hs,b,f⟩;exact hk a' c' κ' hs b f
def zu6(P:Program)(T:TypeId)(len:Nat)(parts:Array (Nat×Value)):Option (TypeId×Nat×List Value):=
 match zJ P T with
 | some e=>match zM P e,(if len=0 then some (.tuple #[])else zfc P e)with
  | some s,some z=>if len*s>2 ^ 24 then none else
   match Instr.fill (λi=>some (i*s,s)) ((Array.range (len*s)).map ((if len*s=0 then #[]else z.cells)[· % (if len*s=0 then #[]else z.cells).size]!)) parts.toList with
   | some cs=>some (e,s,cs.toList)
   | none=>none
  | _,_=>none
 | none=>none
def zAK{len s:Nat}{parts:Array (Nat×Value)}{cs:List Value}(hi:zu6 P T len parts=some (e,s,cs))(hs:0<s)[Fb](C:Cx)(d m:Nat)(τ:Tag):
  (Instr.buildSlice T len parts).run P (W C κ d)=.ok (.slice (some ⟨κ.H.size,0,none⟩) len len) (W C (κ.push (.cells cs.toArray e) m τ) d):=by
 unfold zu6 at hi;split at hi
 ·rename_i e' he;split at hi
  ·rename_i s' z h1 h2;split at hi
   ·cases hi
   ·rename_i hle;split at hi
    ·rename_i cs' hcs;injection hi with hi
     injection hi with h3 hi
     injection hi with h4 h5
     subst h3;subst h4;subst h5;have hlen:len*s'=0↔len=0:=by
      constructor
      ·intro h;rcases Nat.mul_eq_zero.1 h with h | h
       ·exact h
       ·omega
      ·intro h;rw[h];simp
     unfold Instr.buildSlice;simp only[bd,zG (zgG he),bc,za3 h1,Sem.run_ite,if_neg hle,be];by_cases b:len=0
     ·have a:len*s'=0:=hlen.2 b;rw[if_pos a];simp only[a,if_true]at hcs;simp only[bc,be,a];rw[hcs];simp only[bd];rfl
     ·have a:¬len*s'=0:=λh=>b (hlen.1 h);rw[if_neg a];rw[if_neg b]at h2;simp only[if_neg a]at hcs;simp only[bc,be,bd,zh2 h2];rw[hcs];simp only[bd];rfl
    ·cases hi
  ·cases hi
 ·cases hi
def zwB{cs:List Value}(hr:Rep t κ cs l)(hmax:l.length<=9223372036854775807)(hτ:τ.1<=κ.H.size):
  Gr t pub τ (κ.push (.cells cs.toArray e) (if pub=true then l.length*t.size else 0) τ) e (some ⟨κ.H.size,0,none⟩) l.length l:=
 ⟨by rw[zmc];exact hmax,.inr ⟨κ.H.size,cs.toArray,cs,rfl,hr.step (zcY _ _ _ _),by simp[K.push],gl _,by rw[zmc];exact hmax,by simpa using hr.length,
  by simp[←hr.length],by simp[K.push],by simp[K.push],hτ⟩⟩
def zwl{d len:Nat}{parts:Array (Nat×Value)}{cs:List Value}(h:st c i n E (some d)=true)(ho:execOp (ev E) (zx c i)=vOf (Instr.buildSlice T len parts))(hi:zu6 P T len parts=some (e,t.size,cs))(hs:Nat.blt 0 t.size=true)(hτ:τ.1<=κ.H.size)(hl:l.length=len)(hr:Rep t κ cs l)(hm:Nat.ble len 1000000=true)(hk:∀a' κ',Step [] κ κ'->Gr t pub τ κ' e a' len l->owp P n c (i+1) Q (upd E d (.slice a' len len)) κ'):owp P n c i Q E κ:=by
 subst hl;have hm':=gk hm;refine zie _ h (λC a=>by rw[ho];exact zH (zAK hi (gk hs) C a (if pub=true then l.length*t.size else 0) τ)) (hk _ _ (zcY _ _ _ _) (zwB hr om hτ))
def zxi{zs:List Value}{z:α}(hz:t.own κ zs z)(m:Nat):Rep t κ ((List.range (m*t.size)).map λi=>(zs.toArray)[i % zs.toArray.size]!) (List.replicate m z):=by
 have d:=t.len hz;have key:∀k s0,s0 % t.size=0->Rep t κ ((List.range' s0 (k*t.size)).map λi=>(zs.toArray)[i % zs.toArray.size]!) (List.replicate k z):=by
  intro k
  induction k with
  | zero=>intro s0 _;simp[Rep]
  | succ k ih=>
   intro s0 e;refine⟨zs,_,?_,hz,ih (s0+t.size) (by rw[Nat.add_mod_right];exact e)⟩;rw[gz,Nat.add_comm,←List.range'_append,fa];congr 1
   ·apply ca;intro j;rw[dh];by_cases c:j<t.size
    ·rw[List.getElem?_range' c];have b:j<zs.length:=by rw[d];exact c
     have a:(s0+1*j) % zs.toArray.size=j:=by
      rw[ga,d,Nat.one_mul,Nat.add_mod,e,ia,Nat.mod_mod,Nat.mod_eq_of_lt c]
     simp[b,a]at a ⊢;rw[a];simp[b]
    ·rw[df so,df om];rfl
   ·simp
 have:=key m 0 si;rw[List.range_eq_range'];exact this
def zAG{bytes:Nat}{k1 k2:IntKind}{m:Int}{zs:List Value}{z:α}(hT:zj5 P T=some (e,t.size,t.size,bytes))(hz:(zfc P e).map Value.cells=some zs.toArray)(hzo:t.own κ zs z)(hx:mkl bytes m z=some r)(hτ:τ.1<=κ.H.size)[Fb](C:Cx)(d:Nat):∃a' κ',(Instr.makeSlice T (.int k1 m) (.int k2 m)).run P (W C κ d)=.ok (.slice a' r.length r.length) (W C κ' d)/\
   Step [] κ κ'/\Gr t pub τ κ' e a' r.length r:=by
 obtain⟨u,l,x,q⟩:=ziV hT;obtain⟨v,hm,y,rfl⟩:=zxv hx;obtain⟨n,b,g⟩:=ig.1 hz;obtain⟨i,hi,j,p,k⟩:∃i,P.info? e=some i/\i.bytes=bytes/\i.size=t.size/\i.zero=some n:=by
  unfold zm8 at q;obtain⟨i,h,s⟩:=ig.1 q;unfold zM at l;rw[h]at l;unfold zfc at b;rw[h]at b;exact⟨i,h,s,by simpa using l,by simpa using b⟩
 have f:=run_make (P:=P) (W C κ d) T e i n (zgG u) hi k k1 k2 m m v (Int.le_refl _) (by rw[j,Int.mul_comm];omega) hm;have c:Rep t κ ((List.range (m.toNat*t.size)).map λi=>(zs.toArray)[i % zs.toArray.size]!) (List.replicate m.toNat z):=zxi hzo m.toNat;have a:madeCells n.cells (m.toNat*i.size)=((List.range (m.toNat*t.size)).map λi=>(zs.toArray)[i % zs.toArray.size]!).toArray:=by
  unfold madeCells;rw[g,p];apply Array.ext';simp[Array.toList_range]
 have hlen:(List.replicate m.toNat z).length=m.toNat:=by simp
 have w:=zwB (pub:=pub) (τ:=τ) (e:=e) c (by rw[hlen];omega) hτ;refine⟨_,_,?_,zcY _ _ _ _,w⟩;rw[f,a,hlen];rfl
def zd5{d bytes:Nat}{k1 k2:IntKind}{m:Int}{zs:List Value}{z:α}(h:st c i n E (some d)=true)(ho:execOp (ev E) (zx c i)=vOf (Instr.makeSlice T (.int k1 m) (.int k2 m)))(hT:zj5 P T=some (e,t.size,t.size,bytes))(hz:(zfc P e).map Value.cells=some zs.toArray)(hzo:t.own κ zs z)(hx:mkl bytes m z=some r)(hτ:τ.1<=κ.H.size)(hk:∀a' κ',Step [] κ κ'->Gr t pub τ κ' e a' r.length r->owp P n c (i+1) Q (upd E d (.slice a' r.length r.length)) κ'):owp P n c i Q E κ:=by
 refine zgj (λv κ'=>∃a',v=.slice a' r.length r.length/\Step [] κ κ'/\Gr t pub τ κ' e a' r.length r) h (λC b=>?_) ?_
 ·obtain⟨a',κ',f,hs,a⟩:=zAG (P:=P) (T:=T) (pub:=pub) (k1:=k1) (k2:=k2) hT hz hzo hx hτ C b;exact⟨_,κ',b,by rw[ho];exact zH f,a',rfl,hs,a⟩
 ·rintro v κ' ⟨a',rfl,hs,a⟩;exact hk a' κ' hs a
def zpY:Option Int->Option Value
 | some n=>some (.int .i64 n)
 | none=>none
def Gr.idx{ix:Int}{x:α}(h:Gr t pub τ κ e a cp l)(hx:idx l ix=some x):
  ∃b,a=some ⟨b,0,none⟩/\0<=ix/\ix<(l.length:Int)/\∃cs,At κ b (0+ix.toNat*t.size) cs/\t.own κ cs x:=by
 obtain⟨n,d,m⟩:=zh6 hx;rcases h.body with⟨_,k⟩ |⟨g,cur,xs,ha,hr,hH,h3,h4,h5,h6,h7,h8,h9⟩
 ·rw[k]at d;simp at d;omega
 ·refine⟨g,ha,n,d,?_⟩;obtain⟨cs,i,f⟩:=hr.get m;refine⟨cs,⟨(ai.1 hH).1,λj v c=>?_⟩,i⟩;rw[←f,←h6]at c;rw[dv]at c;split at c
  ·rw[cw,dv]at c;split at c
   ·unfold K.cell;rw[hH];simp only[ia];rw[←au];exact c
   ·cases c
  ·cases c
def zir(vs:List Value):∀(cs:List Value)(off j:Nat),off+vs.length<=cs.length->(splice cs off vs)[j]?=if off<=j/\j<off+vs.length then vs[j - off]? else cs[j]?:=by
 induction vs with
 | nil=>intro cs off j _;rw[splice,if_neg (λh=>by simp only[eh]at h;omega)]
 | cons v vs ih=>
  intro cs off j b;simp only[dz]at b;rw[splice,ih (cs.set off v) (off+1) j (by rw[ep];omega)];simp only[dz];by_cases a:off+1<=j/\j<off+1+vs.length
  ·rw[if_pos a,if_pos om];have:j - off=(j - (off+1))+1:=by omega
   rw[this,List.getElem?_cons_succ]
  ·rw[if_neg a];by_cases c:j=off
   ·subst c;rw[if_pos om,Nat.sub_self,du om];rfl
   ·rw[if_neg om,dt om]
def zw0{cur vs xs cs:List Value}{m s i δ:Nat}(hm:m*s<=cur.length)(hxs:cur.take (m*s)=xs)(hi:i<m)(hcs:(xs.drop (i*s)).take s=cs)(hδ:δ+vs.length<=s):
  (splice cur (i*s+δ) vs).take (m*s)=xs.take (i*s)++splice cs δ vs++xs.drop ((i+1)*s):=by
 have n:(i+1)*s<=m*s:=gy _ hi;have l:(i+1)*s=i*s+s:=gz i s;have h:xs.length=m*s:=by rw[←hxs,ey];omega
 have c:cs.length=s:=by rw[←hcs,ey,ec];omega
 have a:∀j,j<m*s->xs[j]?=cur[j]?:=λj b=>by rw[←hxs,dv,if_pos b]
 have f:∀j,j<s->cs[j]?=cur[i*s+j]?:=λj b=>by rw[←hcs,dv,if_pos b,cw,a _ om]
 apply ca;intro j;rw[dv];by_cases b:j<m*s
 ·rw[if_pos b,zir _ _ _ _ om];have d:(xs.take (i*s)).length=i*s:=by rw[ey];omega
  have e:(splice cs δ vs).length=s:=by rw[zfU,c]
  by_cases k:j<i*s
  ·rw[if_neg om,bl,cq om,dv,if_pos k,a j b]
  ·by_cases p:j<i*s+s
   ·rw[bl,cv om,cq om,zir _ _ _ _ om,d];by_cases g:i*s+δ<=j/\j<i*s+δ+vs.length
    ·rw[if_pos g,if_pos om];congr 1;omega
    ·rw[if_neg g,if_neg om,f _ om];congr 1;omega
   ·rw[if_neg om,cv (by rw[dy];omega),cw,dy,d,e,a _ om];congr 1;omega
 ·rw[if_neg b,df];rw[dy,dy,zfU,c,ey,ec];omega
def zhh{ix:Int}{x':α}{b δ:Nat}{T:TypeId}{vs:List Value}(v:Value)(h:st c i n E none=true)(ho:execOp (ev E) (zx c i)=uOf (Instr.storeAt T (.pointer (some ⟨b,0+ix.toNat*t.size+δ,none⟩)) v))(ea:a=some ⟨b,0,none⟩)(hg:Gr t false τ κ e a cp l)(h0:0<=ix)(h1:ix<(l.length:Int))(hv:v.cells=vs.toArray)(hs:zM P T=some vs.length)(hone:ztj vs=true)(hδ:Nat.ble (δ+vs.length) t.size=true)(hnew:∀cs,(∃x,idx l ix=some x/\t.own κ cs x)->t.own κ (splice cs δ vs) x')(hk:∀κ',Step (blk a cp) κ κ'->Gr t false τ κ' e a cp (l.set ix.toNat x')->owp P n c (i+1) Q E κ'):owp P n c i Q E κ:=by
 subst ea;rcases hg.body with⟨_,z⟩ |⟨g,cur,xs,ha,hr,hH,h3,h4,h5,h6,h7,h8,h9⟩
 ·rw[z]at h1;simp at h1;omega
 ·have w:b=g:=by injection ha with ha;injection ha
  subst w;have j:Box τ κ b cur.toList e:=⟨by simpa using hH,by rw[h7];simp,h8,h9⟩;have s:=gk hδ;have f:ix.toNat<l.length:=by omega
  have A:(ix.toNat+1)*t.size<=l.length*t.size:=gy _ f;have m:l.length*t.size<=cur.toList.length:=by have y:cur.toList.length=cp*t.size:=by{simpa using h5};rw[y];exact gy _ h3
  have B:(ix.toNat+1)*t.size=ix.toNat*t.size+t.size:=gz _ _;have k:l[ix.toNat]?=some l[ix.toNat]:=cz f;obtain⟨r,p,q⟩:=hr.get k;have u:=hnew r ⟨l[ix.toNat],by unfold Lf.idx;rw[if_pos h0];exact k,p⟩;have d:Step [b] κ (κ.setB b (splice cur.toList (0+ix.toNat*t.size+δ) vs) e):=zma j;refine zAY h (λC F=>by rw[ho];exact zv6 (zrT j hv hs hone om)) (hk _ (d.mono (λx D=>by rw[fq.1 D];exact zlv (a:=⟨b,0,none⟩) om)) ⟨by rw[ep];exact hg.most,.inr ⟨b,(splice cur.toList (0+ix.toNat*t.size+δ) vs).toArray,_,rfl,
   (hr.step d).set (t.step d u) f,?_,by rw[ep];exact h3,h4,?_,?_,?_,h8,h9⟩⟩)
  ·exact(zm1 j).obj
  ·rw[ga,zfU,av,h5]
  ·rw[ep,ia];exact zw0 m h6 f q s
  ·exact h7
end
section
variable {M M':List Nat} {κ κ1 κ2:K}
def Step.tr0(h:Step M κ κ1)(s:Step [] κ1 κ2):Step M κ κ2:=h.trans s.nil
def Step.trM(h:Step M κ κ1)(hb:∀b∈M',b∈M\/κ.H.size<=b)(s:Step M' κ1 κ2):Step M κ κ2:=by
 refine⟨gm h.1 s.1,λb a g=>?_,λb a=>?_,λb a e=>?_⟩
 ·have c:=h.2.1 b a g;have d:=s.2.1 b (gq a h.1) (λi=>(hb b i).elim g om);exact⟨d.1.trans c.1,d.2.1.trans c.2.1,d.2.2.trans c.2.2⟩
 ·have c:=h.2.2.1 b a;have d:=s.2.2.1 b (gq a h.1);exact⟨gm c.1 d.1,λo f=>(d.2 o (gq f c.1)).trans (c.2 o f)⟩
 ·have c:=h.2.2.2 b a e;have d:=s.2.2.2 b (gq a h.1) (gq e (h.2.2.1 b a).1);exact⟨d.1.trans c.1,d.2.trans c.2⟩
def Step.trB{b:Nat}(h:Step M κ κ1)(hb:κ.H.size<=b)(s:Step [b] κ1 κ2):Step M κ κ2:=
 h.trM (λx a=>.inr (by have:x=b:=(by simpa using a);rw[this];exact hb)) s
def Step.trG(h:Step M κ κ1)(hb:∀b∈M',κ.H.size<=b)(s:Step M' κ1 κ2):Step M κ κ2:=h.trM (λb a=>.inr (hb b a)) s
def Step.of_eq(h:κ=κ1):Step M κ κ1:=h▸Step.refl _ _
def zfe{τ:Tag}{N i:Nat}(h:τ.1<N):τ≠(N,i):=by
 intro e;rw[e]at h;exact absurd h (Nat.lt_irrefl _)
def zla{τ:Tag}{N i:Nat}(h:τ.1<N):((N,i):Tag)≠τ:=(zfe h).symm
end
section
variable [Fc] [Fb] {P:Program} {n:Nat} {Q:zaY} {E:Env} {κ:K}
def rrS:∀κ:K,Step [] κ κ:=λ_=>Step.refl _ _
end
section
variable {α:Type} {t:Ty α} {pub:Bool} {τ:Tag} {κ:K} {e:TypeId} {a:Option Addr} {c:Nat} {l l' r:List α}
def zoJ(h:some l'=some r)(hg:Gr t pub τ κ e a c l'):Gr t pub τ κ e a c r:=by injection h with h;rw[←h];exact hg
def zj9{cs vs:List Value}(h:cs.length=vs.length):splice cs 0 vs=vs:=by
 apply ca;intro j;rw[zir vs cs 0 j om];simp only[ia,Nat.zero_le,true_and,Nat.sub_zero];split
 ·rfl
 ·rw[df om,df om]
def zr3(h:l.length<=maxLen):l.length<=9223372036854775807:=by rw[←zmc];exact h
end
section
variable {P:Program} {c:Code} {i:Nat} {E:Env} {T:TypeId} {s r:List UInt8} {w:World}
end
def zmg(n:Int):0<=IntKind.wrap .u8 n/\IntKind.wrap .u8 n<=255:=by
 unfold IntKind.wrap;simp only[IntKind.bits,IntKind.signed];simp;omega
def zfL (P:Program) (f:Field) (off:Nat):Bool:=
 (f.name != "_")&&Nat.beq f.offset off&&(match P.underlying f.type with | some (.int _)=>true | _=>false)
def zkA(P:Program)(T:TypeId):Bool:=
 (match P.underlying T with | some (.struct _)=>true | _=>false)&&!P.stoodInHeld T&&!P.eqGuardType P.depth T &&
 (match(P.fieldsOf T).toList with |[f,g]=>zfL P f 0&&zfL P g 1 | _=>false)
section
variable {P:Program}
def za0{f:Field}{off:Nat}(h:zfL P f off=true){xs:Array Value}{v:Value}(hv:xs[off]?=some v)(w:World):(part f.type xs f.offset).run P w=.ok v w:=by
 unfold zfL at h;simp only[aw]at h;have c:=gj h.1.2;have b:zeD P f.type=some false:=by
  unfold zeD;have a:=h.2;split at a
  ·rename_i k hk;rw[hk]
  ·cases a
 unfold part;simp[zmb b,c,hv]
def zk6{f:Field}{off:Nat}(h:zfL P f off=true)(d:Nat)(k:IntKind)(a b:Int)(w:World):(Op.equalIn (d+1) f.type (.int k a) (.int k b)).run P w=.ok (a == b) w:=by
 unfold zfL at h;simp only[aw]at h;have c:=h.2;split at c
 ·rename_i k' hk;exact run_equalIn_int w d f.type k k' a b hk
 ·cases c
def zyS {T:TypeId} (h:zkA P T=true) (k1 k2:IntKind) (a b a' b':Int) (w:World) :
  (Op.equalIn 10000 T (.agg #[.int k1 a,.int k2 b]) (.agg #[.int k1 a',.int k2 b'])).run P w=.ok (decide (a=a')&&decide (b=b')) w:=by
 unfold zkA at h;simp only[aw,ba]at h;obtain⟨⟨⟨l,n⟩,q⟩,d⟩:=h;have p:P.underlying T=some (.struct (P.fieldsOf T)):=by
  unfold Program.fieldsOf;split at l
  ·rename_i fs hfs;simp[hfs]
  ·cases l
 rw[show(10000:Nat)=9999+1 from rfl,run_equalIn_agg w 9999 T _ _ p n];split at d
 ·rename_i f g hfg;rw[hfg];simp only[aw]at d;obtain⟨c,e⟩:=d;have i:f.name ≠ "_" := by
   have:=c;unfold zfL at this;simp only[aw]at this;simpa using this.1.1
  have j:g.name ≠ "_" := by
   have:=e;unfold zfL at this;simp only[aw]at this;simpa using this.1.1
  simp only[Op.eqFields,if_pos i,if_pos j,bd];rw[za0 c (v:=.int k1 a) rfl];simp only[bc];rw[za0 c (v:=.int k1 a') rfl];simp only[bc];rw[show(9999:Nat)=9998+1 from rfl,zk6 c];simp only[bc];by_cases k:a=a'
  ·subst k;simp only[BEq.rfl,bb,az,if_false,decide_true,Bool.true_and,bd];rw[za0 e (v:=.int k2 b) rfl];simp only[bc];rw[za0 e (v:=.int k2 b') rfl];simp only[bc];rw[zk6 e];simp only[bc];by_cases m:b=b'
   ·subst m;simp
   ·simp[m]
  ·simp[k]
 ·cases d
def zgH{E:Env}{c:Code}{i:Nat}{T:TypeId}{k1 k2:IntKind}{a b a' b':Int}{w:World}(h:execOp (ev E) (zx c i)=vOf (do eqGuard .eql T (.tmp 0) (.tmp 0) (.agg #[.int k1 a,.int k2 b]) (.agg #[.int k1 a',.int k2 b']);binOp .eql T (.agg #[.int k1 a,.int k2 b]) (.agg #[.int k1 a',.int k2 b'])))(hT:zkA P T=true):(execOp (ev E) (zx c i)).run P w=.ok (.value (.bool (decide (a=a')&&decide (b=b')))) w:=by
 rw[h];refine zH ?_;have hm:P.eqGuardType P.depth T=false:=by unfold zkA at hT;simp only[aw,ba]at hT;exact hT.1.2
 rw[bd,run_eqGuard_agg _ _ _ _ _ _ _ hm];simp only[bc];rw[run_eql_struct,zyS hT];rfl
def zye{E:Env}{c:Code}{i:Nat}{T:TypeId}{k1 k2:IntKind}{a b a' b':Int}{w:World}(h:execOp (ev E) (zx c i)=vOf (do eqGuard .neq T (.tmp 0) (.tmp 0) (.agg #[.int k1 a,.int k2 b]) (.agg #[.int k1 a',.int k2 b']);binOp .neq T (.agg #[.int k1 a,.int k2 b]) (.agg #[.int k1 a',.int k2 b'])))(hT:zkA P T=true):(execOp (ev E) (zx c i)).run P w=.ok (.value (.bool (!(decide (a=a')&&decide (b=b'))))) w:=by
 rw[h];refine zH ?_;have hm:P.eqGuardType P.depth T=false:=by unfold zkA at hT;simp only[aw,ba]at hT;exact hT.1.2
 rw[bd,run_eqGuard_agg _ _ _ _ _ _ _ hm];simp only[bc];rw[run_neq_struct,zyS hT];rfl
end
def zaz{α:Type}{l r:List α}{i:Nat}{x:α}(h:some (l.set i x)=some r):r.length=l.length:=by
 injection h with h;rw[←h,ep]
def zk{N M i j:Nat}(h:Nat.beq i j=false):((N,i):Tag)≠(M,j):=by
 intro e;have:i=j:=congrArg Prod.snd e;subst this;simp at h
def zj4[Fb]{P:Program}{f:FuncId}{A B:Array Value}{κ:K}{R:Value->K->Prop}(h:A=B)(hf:Fn P f B κ R):Fn P f A κ R:=by rw[h];exact hf
def zdm (P:Program) (f:FuncId):Bool:=
 match P.funcs[f]? with
 | some fn=>!(fn.name == "runtime.NumGoroutine")&&fn.body.isSome
 | none=>false
def za4 {P:Program} {f:FuncId} {args:Array Value} {w:World} {r:Result Next} (h:r=(callFunc f args).run P w) (hf:zdm P f=true):r=.ok (.enter f args) w:=by
 rw[h];unfold zdm at hf;split at hf
 ·rename_i fn hfn;simp only[aw,ba]at hf;unfold callFunc;have c:fn.body≠none:=by intro a;rw[a]at hf;simp at hf
  have b:¬fn.name = "runtime.NumGoroutine" := by simpa using hf.1
  simp[hfn,b,c]
 ·cases hf
def zpP{P:Program}{E:Env}{c:Code}{i:Nat}{s:Sem Next}{w:World}{r:Result Next}(h:execOp (ev E) (zx c i)=s)(hs:s.run P w=r):(execOp (ev E) (zx c i)).run P w=r:=by
 rw[h];exact hs
def zrp{α:Type}{a b c d x:α}{ix:Int}(h:idx [a,b,c,d] ix=some x):(ix=0/\x=a)\/(ix=1/\x=b)\/(ix=2/\x=c)\/(ix=3/\x=d):=by
 obtain⟨g,f,e⟩:=zh6 h;simp only[dz,eh]at f;have:ix=0\/ix=1\/ix=2\/ix=3:=by omega
 rcases this with h3 | h3 | h3 | h3
 ·subst h3;left;simp at e;exact⟨rfl,e.symm⟩
 ·subst h3;right;left;simp at e;exact⟨rfl,e.symm⟩
 ·subst h3;right;right;left;simp at e;exact⟨rfl,e.symm⟩
 ·subst h3;right;right;right;simp at e;exact⟨rfl,e.symm⟩
def Box.tlt{τ:Tag}{κ:K}{b:Nat}{cs:List Value}{T:TypeId}(h:Box τ κ b cs T):τ.1<κ.H.size:=Nat.lt_of_le_of_lt h.ge h.lt
section
variable {b x:Nat} {M1 M2 M:List Nat} {l:List Nat} {N:Nat}
def zDq(h1:b∉M1)(h2:b∉M2):b∉M1++M2:=λh=>(fe.1 h).elim h1 h2
def zBL(h1:∀g∈l,g∉M1)(h2:∀g∈l,g∉M2):∀g∈l,g∉M1++M2:=λg a=>zDq (h1 g a) (h2 g a)
def zr2(h1:∀g∈M1,g∈M\/N<=g)(h2:∀g∈M2,g∈M\/N<=g):∀g∈M1++M2,g∈M\/N<=g:=λg a=>(fe.1 a).elim (h1 g) (h2 g)
def zve(h:x∈M):∀g∈[x],g∈M\/N<=g:=λg a=>.inl (by rw[fq.1 a];exact h)
def zxu(h:N<=x):∀g∈[x],g∈M\/N<=g:=λg a=>.inr (by rw[fq.1 a];exact h)
def zwp(h:∀g∈l,N<=g):∀g∈l,g∈M\/N<=g:=λg a=>.inr (h g a)
end
def rds(c:Code)(i:Nat):List Nat:=(zx c i).looksAt (opsOf c)
def zts(c:Code)(i:Nat):Bool:=
 match(zx c i).op with
 | .select _ _=>true
 | _=>false
def zwi(c:Code)(k:Nat):Bool:=
 (List.range k).all λi=>!zts c i&&(rds c i).all λt=>((List.range k).all λj=>dstOf c j != t)||((List.range i).any λj=>(dstOf c j == t)&&dep c i j)
def zkV{c:Code}{i:Nat}{E E':Env}(h:∀t∈rds c i,E t=E' t):zbR c i E=zbR c i E':=by
 unfold zbR;cases hg:(zx c i).guard with
 | none=>rfl
 | some g=>
  obtain⟨j,w⟩:=g;simp only[];cases hd:((opsOf c)[j]?).bind (·.dst)with
  | none=>rfl
  | some t=>
   simp only[];have:t∈rds c i:=by
    unfold rds Oper.looksAt;rw[hg];simp[hd]
   rw[h t this]
def zo8{c:Code}{i:Nat}{E E':Env}(hs:zts c i=false)(h:∀t∈rds c i,E t=E' t):execOp (ev E) (zx c i)=execOp (ev E') (zx c i):=by
 refine execOp_congr _ (λcs b e=>by unfold zts at hs;rw[e]at hs;cases hs) λx a=>?_;cases x with
 | tmp t=>
  refine h t ?_;unfold rds Oper.looksAt;exact fg _ (List.mem_filterMap.2 ⟨.tmp t,by simpa using a,rfl⟩)
 | _=>rfl
def QC[Fb](P:Program)(c:Code):Nat->Nat->Env->K->(Env->Prop)->Prop
 | 0,_,E,_,R=>R E
 | m+1,i,E,κ,R=>
  (zbR c i E=true/\∃v,(∀C d,(execOp (ev E) (zx c i)).run P (W C κ d)=.ok (.value v) (W C κ d))/\QC P c m (i+1) (upd E (dstOf c i) v) κ R) \/
  (zbR c i E=false/\QC P c m (i+1) (upd E (dstOf c i) undef) κ R) \/
  (zbR c i E=true/\∃v f args,(∀C d,(execOp (ev E) (zx c i)).run P (W C κ d)=.ok (.enter f args) (W C κ d))/\Fn P f args κ (λu κ'=>κ=κ'/\u=v)/\QC P c m (i+1) (upd E (dstOf c i) v) κ R)
def QC.out[Fb]{P:Program}{c:Code}{κ:K}{R:Env->Prop}:∀(m i:Nat)(E:Env),QC P c m i E κ R->
  ∃(vs:Nat->Value)(a:Nat->Env),a i=E/\R (a (i+m))/\∀j,i<=j->j<i+m->a (j+1)=upd (a j) (dstOf c j) (vs j)/\
   OpQ P Eq c j (a j) κ (λv _=>v=vs j)
 | 0,i,E,h=>⟨λ_=>undef,λ_=>E,rfl,h,λj p l=>absurd l om⟩
 | m+1,i,E,h=>by
  have step:∀v,OpQ P Eq c i E κ (λu _=>u=v)->QC P c m (i+1) (upd E (dstOf c i) v) κ R->
    ∃(vs:Nat->Value)(a:Nat->Env),a i=E/\R (a (i+(m+1)))/\∀j,i<=j->j<i+(m+1)->a (j+1)=upd (a j) (dstOf c j) (vs j)/\
     OpQ P Eq c j (a j) κ (λv _=>v=vs j):=by
   intro v q b;obtain⟨vs,a,p,l,s⟩:=QC.out m (i+1) _ b;refine⟨λj=>if j=i then v else vs j,λj=>if j=i then E else a j,by simp,?_,λj r t=>?_⟩
   ·have e:i+(m+1)=i+1+m:=by omega
    dsimp only;rw[if_neg om,e];exact l
   ·by_cases g:j=i
    ·subst g;dsimp only;rw[if_neg om,if_pos rfl,if_pos rfl];exact⟨p,q⟩
    ·dsimp only;rw[if_neg om,if_neg g,if_neg g];exact s j om om
  rcases h with⟨k,v,n,b⟩ |⟨k,b⟩ |⟨k,v,f,args,n,hf,b⟩
  ·exact step v (ziq (λ_=>rfl) v k n rfl) b
  ·exact step undef (zBO k rfl) b
  ·refine step v (zt6 k λC d=>?_) b;rw[n];exact⟨κ,d,rfl,rfl,hf.mono λu κ' ⟨e1,e2⟩=>⟨e1,e2⟩⟩
def zpx{E:Env}{t s:Nat}{v:Value}:upd E t v s=if s=t then v else E s:=by
 unfold upd;by_cases h:s=t
 ·subst h;simp
 ·rw[if_neg h];cases hb:Nat.beq s t with
  | false=>rfl
  | true=>exact absurd (gj hb) h
section
variable [Fc] [Fb] {P:Program} {n:Nat} {c:Code} {Q:zaY} {E:Env} {κ:K} {i k:Nat}
def zBA{c0:Code}{p:List Nat}(k:Nat)(hk:QC P (sub c0 p) k 0 E κ (λu=>owp P n (sub c0 p) k Q u κ))(h:zcJ (sub c0 p)=some true:=by kernel_rfl)(hm:P.follows .mixedOrders=true:=by kernel_rfl)(hB:znP (sub c0 p) n k=true:=by kernel_rfl)(hrd:zwi (sub c0 p) k=true:=by kernel_rfl):cwp P n (sub c0 p) Q E κ:=by
 obtain⟨vs,y,J,G,F⟩:=QC.out k 0 E hk;rw[ia]at G;have d:∀i,i<k->∀j,j<i->dstOf (sub c0 p) j≠dstOf (sub c0 p) i:=by
  intro i hi j a;unfold znP at hB;simp only[aw]at hB;have H:=hB.1.1.2;unfold zCU at H;have z:=bi.1 H i (fp.2 hi);simp only[aw]at z;have:=bi.1 z.2 j (fp.2 a);simpa using this
 have B:∀i j,i<k->j<k->i≠j->dstOf (sub c0 p) i≠dstOf (sub c0 p) j:=by
  intro i j hi a C;rcases gu C with h | h
  ·exact d j a i h
  ·exact(d i hi j h).symm
 have f:∀i,i<=k->∀t,(∀j,j<i->t≠dstOf (sub c0 p) j)->y i t=E t:=by
  intro i
  induction i with
  | zero=>intro _ t _;rw[J]
  | succ i ih=>
   intro hi t g;rw[(F i om om).1,zpx,if_neg (g i om)];exact ih om t λj a=>g j om
 have s:∀i,i<=k->∀j,j<i->y i (dstOf (sub c0 p) j)=vs j:=by
  intro i
  induction i with
  | zero=>intro _ j a;omega
  | succ i ih=>
   intro hi j a;rw[(F i om om).1,zpx];by_cases c:j=i
   ·subst c;rw[if_pos rfl]
   ·rw[if_neg (B j i om om c)];exact ih om j om
 have D:∀i:Nat,Rl k i (Eq:K->K->Prop) Eq=Eq:=λi=>by unfold Rl;cases Nat.beq i k<;>rfl
 refine zxU k Eq Eq (λ_=>rfl) (λ_ _ _=>Eq.trans) (λ_ _ _=>Eq.trans) (λ_ _ h=>h) k (λj v _=>v=vs j) h hm hB ?_ ?_ ?_
 ·intro i v κ1 κ2 _ hS _;exact hS
 ·intro i hi u κ' A m x;rw[D]at A ⊢;subst A;have b:=bi.1 hrd i (fp.2 hi);simp only[aw,ba]at b;have r:∀t∈rds (sub c0 p) i,u t=y i t:=by
   intro t g;have z:=bi.1 b.2 t g;rcases Bool.or_eq_true_iff.1 z with h6 | h6
   ·have w:∀j,j<k->t≠dstOf (sub c0 p) j:=λj a=>by
     have:=bi.1 h6 j (fp.2 a);exact λe=>by rw[e]at this;simp at this
    rw[m t w,f i om t λj a=>w j om]
   ·obtain⟨j,a,q⟩:=bj.1 h6;simp only[aw,beq_iff_eq]at q;have c:=fp.1 a;rw[←q.1,x j om q.2,s i om j c]
  have I:=(F i om om).2;unfold OpQ at I ⊢;rw[zkV r,zo8 b.1 r];exact I
 ·intro u κ' A m l;subst A;have:u=y k:=by
   funext t;by_cases g:∃j,j<k/\t=dstOf (sub c0 p) j
   ·obtain⟨j,a,rfl⟩:=g;rw[l j a,s k (gl _) j a]
   ·have w:∀j,j<k->t≠dstOf (sub c0 p) j:=λj a e=>g ⟨j,a,e⟩;rw[m t w,f k (gl _) t w]
  rw[this];exact G
def dwp[Fc][Fb](P:Program)(n:Nat)(c:Code)(k i:Nat)(Q:zaY)(E:Env)(κ:K):Prop:=QC P c (k - i) i E κ (λE'=>owp P n c k Q E' κ)
def zz7{c0:Code}{p:List Nat}(k:Nat)(hk:dwp P n (sub c0 p) k 0 Q E κ)(h:zcJ (sub c0 p)=some true:=by kernel_rfl)(hm:P.follows .mixedOrders=true:=by kernel_rfl)(hB:znP (sub c0 p) n k=true:=by kernel_rfl)(hrd:zwi (sub c0 p) k=true:=by kernel_rfl):cwp P n (sub c0 p) Q E κ:=zBA k hk h hm hB hrd
def dst(c:Code)(k i:Nat)(E:Env)(d:Nat):Bool:=Nat.blt i k&&zbR c i E&&Nat.beq (dstOf c i) d
def dsk(c:Code)(k i:Nat)(E:Env)(d:Nat):Bool:=Nat.blt i k&&!zbR c i E&&Nat.beq (dstOf c i) d
def zl6{d:Nat}(v:Value)(h:dst c k i E d=true)(hr:∀C d0,(execOp (ev E) (zx c i)).run P (W C κ d0)=.ok (.value v) (W C κ d0))(hk:dwp P n c k (i+1) Q (upd E d v) κ):dwp P n c k i Q E κ:=by
 unfold dst at h;simp only[aw]at h;have a:i<k:=by have:=h.1.1;simpa[Nat.blt,gp]using this
 have hd:=gj h.2;subst hd;unfold dwp at *;have e:k - i=(k - (i+1))+1:=by omega
 rw[e];exact .inl ⟨h.1.2,v,hr,hk⟩
def zBx{d:Nat}(h:dsk c k i E d=true)(hk:dwp P n c k (i+1) Q (upd E d undef) κ):dwp P n c k i Q E κ:=by
 unfold dsk at h;simp only[aw,ba]at h;have a:i<k:=by have:=h.1.1;simpa[Nat.blt,gp]using this
 have hd:=gj h.2;subst hd;unfold dwp at *;have e:k - i=(k - (i+1))+1:=by omega
 rw[e];exact .inr (.inl ⟨h.1.2,hk⟩)
def zxS{d:Nat}{f:FuncId}{args:Array Value}{v:Value}(h:dst c k i E d=true)(hr:∀w,(execOp (ev E) (zx c i)).run P w=.ok (.enter f args) w)(hf:Fn P f args κ (λu κ'=>κ=κ'/\u=v))(hk:dwp P n c k (i+1) Q (upd E d v) κ):dwp P n c k i Q E κ:=by
 unfold dst at h;simp only[aw]at h;have a:i<k:=by have:=h.1.1;simpa[Nat.blt,gp]using this
 have hd:=gj h.2;subst hd;unfold dwp at *;have e:k - i=(k - (i+1))+1:=by omega
 rw[e];exact .inr (.inr ⟨h.1.2,v,f,args,λC d=>hr _,hf,hk⟩)
def zCx(h:Nat.beq i k=true)(hk:owp P n c i Q E κ):dwp P n c k i Q E κ:=by
 have:=gj h;subst this;unfold dwp;rw[Nat.sub_self];exact hk
end
def Fn.ex[Fb]{P:Program}{f:FuncId}{args:Array Value}{κ:K}{R:Value->K->Prop}(h:Fn P f args κ R):∃v κ',R v κ':=by
 have o:Os:=by constructor<;>first | exact #[] | exact 0 | exact none | exact false | exact[] | exact ByteArray.empty | exact default
 have C:Cx:=⟨o,λ_ _=>0,#[],Fb.b0,Fb.h0⟩;obtain⟨e,w',b,⟨v,κ',c,_,_,a⟩,_⟩:=h C 0 [];exact⟨v,κ',a⟩
section
variable [Fc] [Fb] {P:Program} {n:Nat} {c:Code} {i k:Nat} {Q:zaY} {E:Env} {κ:K}
def op(d:Nat)(v:Value)(hk:owp P n c (i+1) Q (upd E d v) κ)(h:st c i n E (some d)=true:=by kernel_rfl)(hr:∀w,(execOp (ev E) (zx c i)).run P w=.ok (.value v) w:=by intro _;kernel_rfl):owp P n c i Q E κ:=zrY v h hr hk
def oq(d:Nat)(v:Value)(hr:∀w,(execOp (ev E) (zx c i)).run P w=.ok (.value v) w)(hk:owp P n c (i+1) Q (upd E d v) κ)(h:st c i n E (some d)=true:=by kernel_rfl):owp P n c i Q E κ:=zrY v h hr hk
def os(d:Nat)(hk:owp P n c (i+1) Q (upd E d undef) κ)(h:sk c i n E d=true:=by kernel_rfl):owp P n c i Q E κ:=zAX h hk
def o1(d T:Nat)(v:Value){b off:Nat}(hv:κ.cell b off=some v)(hk:owp P n c (i+1) Q (upd E d v) κ)(h:st c i n E (some d)=true:=by kernel_rfl)(ho:execOp (ev E) (zx c i)=vOf (Instr.loadAt T (.pointer (some ⟨b,off,none⟩))):=by kernel_rfl)(hT:zeD P T=some false:=by kernel_rfl):owp P n c i Q E κ:=zzB h ho hT hv hk
def oN(d T:Nat)(cs:List Value){b off:Nat}(hv:zl8 κ b off cs)(hk:owp P n c (i+1) Q (upd E d (.agg cs.toArray)) κ)(h:st c i n E (some d)=true:=by kernel_rfl)(ho:execOp (ev E) (zx c i)=vOf (Instr.loadAt T (.pointer (some ⟨b,off,none⟩))):=by kernel_rfl)(hT:zeD P T=some true:=by kernel_rfl)(hs:zM P T=some cs.length:=by kernel_rfl):owp P n c i Q E κ:=zzA h ho hT hs hv hk
def oi(d T el sz ln cp:Nat)(k:IntKind)(ix:Int){b off:Nat}{a:Option Addr}(ea:a=some ⟨b,off,none⟩)(h0:0<=ix)(h1:ix<ln)(hk:owp P n c (i+1) Q (upd E d (.pointer (some ⟨b,off+ix.toNat*sz,none⟩))) κ)(h:st c i n E (some d)=true:=by kernel_rfl)(ho:execOp (ev E) (zx c i)=vOf (Instr.indexAt T (.slice a ln cp) (.int k ix)):=by kernel_rfl)(hT:zJ P T=some el:=by kernel_rfl)(hs:zM P el=some sz:=by kernel_rfl):owp P n c i Q E κ:=zzC ea h ho hT hs h0 h1 hk
def dp(d:Nat)(v:Value)(hk:dwp P n c k (i+1) Q (upd E d v) κ)(h:dst c k i E d=true:=by kernel_rfl)(hr:∀w,(execOp (ev E) (zx c i)).run P w=.ok (.value v) w:=by intro _;kernel_rfl):dwp P n c k i Q E κ:=zl6 v h (λ_ _=>hr _) hk
def dq(d:Nat)(v:Value)(hr:∀w,(execOp (ev E) (zx c i)).run P w=.ok (.value v) w)(hk:dwp P n c k (i+1) Q (upd E d v) κ)(h:dst c k i E d=true:=by kernel_rfl):dwp P n c k i Q E κ:=zl6 v h (λ_ _=>hr _) hk
def ds(d:Nat)(hk:dwp P n c k (i+1) Q (upd E d undef) κ)(h:dsk c k i E d=true:=by kernel_rfl):dwp P n c k i Q E κ:=zBx h hk
def d1(d T:Nat)(v:Value){b off:Nat}(hv:κ.cell b off=some v)(hk:dwp P n c k (i+1) Q (upd E d v) κ)(h:dst c k i E d=true:=by kernel_rfl)(ho:execOp (ev E) (zx c i)=vOf (Instr.loadAt T (.pointer (some ⟨b,off,none⟩))):=by kernel_rfl)(hT:zeD P T=some false:=by kernel_rfl):dwp P n c k i Q E κ:=
 zl6 v h (λC a=>by rw[ho];exact zH (ziO hT hv)) hk
def dN(d T:Nat)(cs:List Value){b off:Nat}(hv:zl8 κ b off cs)(hk:dwp P n c k (i+1) Q (upd E d (.agg cs.toArray)) κ)(h:dst c k i E d=true:=by kernel_rfl)(ho:execOp (ev E) (zx c i)=vOf (Instr.loadAt T (.pointer (some ⟨b,off,none⟩))):=by kernel_rfl)(hT:zeD P T=some true:=by kernel_rfl)(hs:zM P T=some cs.length:=by kernel_rfl):dwp P n c k i Q E κ:=
 zl6 _ h (λC a=>by rw[ho];exact zH (zjp hT hs hv)) hk
def di(d T el sz ln cp:Nat)(kd:IntKind)(ix:Int){b off:Nat}{a:Option Addr}(ea:a=some ⟨b,off,none⟩)(h0:0<=ix)(h1:ix<ln)(hk:dwp P n c k (i+1) Q (upd E d (.pointer (some ⟨b,off+ix.toNat*sz,none⟩))) κ)(h:dst c k i E d=true:=by kernel_rfl)(ho:execOp (ev E) (zx c i)=vOf (Instr.indexAt T (.slice a ln cp) (.int kd ix)):=by kernel_rfl)(hT:zJ P T=some el:=by kernel_rfl)(hs:zM P el=some sz:=by kernel_rfl):dwp P n c k i Q E κ:=by
 subst ea;exact zl6 _ h (λC e=>by rw[ho];exact zH (by rw[znk hT hs h0 h1,zgZ])) hk
def dc{f:FuncId}{args:Array Value}{v:Value}{B:Prop}(d:Nat)(hf:Fn P f args κ (λu κ'=>κ=κ'/\u=v/\B))(hk:B->dwp P n c k (i+1) Q (upd E d v) κ)(h:dst c k i E d=true:=by kernel_rfl)(hr:∀w,(execOp (ev E) (zx c i)).run P w=.ok (.enter f args) w:=by intro _;kernel_rfl):dwp P n c k i Q E κ:=
 zxS h hr (hf.mono λ_ _ h=>⟨h.1,h.2.1⟩) (hk (by obtain⟨_,_,h⟩:=hf.ex;exact h.2.2))
def dc0{f:FuncId}{args:Array Value}{v:Value}(d:Nat)(hf:Fn P f args κ (λu κ'=>κ=κ'/\u=v))(hk:dwp P n c k (i+1) Q (upd E d v) κ)(h:dst c k i E d=true:=by kernel_rfl)(hr:∀w,(execOp (ev E) (zx c i)).run P w=.ok (.enter f args) w:=by intro _;kernel_rfl):dwp P n c k i Q E κ:=zxS h hr hf hk
def de(hk:owp P n c i Q E κ)(h:Nat.beq i k=true:=by kernel_rfl):dwp P n c k i Q E κ:=zCx h hk
def osp{α:Type}{A B o:Option α}(d:Nat)(b:Bool)(hr:(if b=true then A else B)=o)(hf:b=false->B=o->owp P n c (i+1) Q (upd E d (.bool false)) κ)(ht:b=true->A=o->owp P n c (i+1) Q (upd E d (.bool true)) κ)(h:st c i n E (some d)=true:=by kernel_rfl)(hx:∀w,(execOp (ev E) (zx c i)).run P w=.ok (.value (.bool b)) w:=by intro _;kernel_rfl):owp P n c i Q E κ:=by
 cases b with
 | false=>exact zrY _ h hx (hf rfl (zCp rfl hr))
 | true=>exact zrY _ h hx (ht rfl (zCo rfl hr))
def dsp{α:Type}{A B o:Option α}(d:Nat)(b:Bool)(hr:(if b=true then A else B)=o)(hf:b=false->B=o->dwp P n c k (i+1) Q (upd E d (.bool false)) κ)(ht:b=true->A=o->dwp P n c k (i+1) Q (upd E d (.bool true)) κ)(h:dst c k i E d=true:=by kernel_rfl)(hx:∀w,(execOp (ev E) (zx c i)).run P w=.ok (.value (.bool b)) w:=by intro _;kernel_rfl):dwp P n c k i Q E κ:=by
 cases b with
 | false=>exact zl6 _ h (λ_ _=>hx _) (hf rfl (zCp rfl hr))
 | true=>exact zl6 _ h (λ_ _=>hx _) (ht rfl (zCo rfl hr))
def oe(hq:Q .normal E κ)(h:decide ((opsOf c).size<=i)=true:=by kernel_rfl):owp P n c i Q E κ:=zr0 h hq
def ot{c1:Code}(hq:cwp P n c1 Q E κ)(h:decide ((opsOf c).size<=i)=true:=by kernel_rfl):owp P n c i (zdJ P n c1 Q) E κ:=zr0 h hq
def cs{c:Code}{p:List Nat}(hx:cwp P n (sub c (0::p)) (zdJ P n (sub c (1::p)) Q) E κ)(h:zot (sub c p)=true:=by kernel_rfl):cwp P n (sub c p) Q E κ:=zy9 h hx
def cr{c:Code}{p:List Nat}(hx:owp P n (sub c p) 0 Q E κ)(h:zcJ (sub c p)=some false:=by kernel_rfl):cwp P n (sub c p) Q E κ:=zrr h hx
def cd{c:Code}{p:List Nat}(k:Nat)(hx:dwp P n (sub c p) k 0 Q E κ)(h:zcJ (sub c p)=some true:=by kernel_rfl)(hm:P.follows .mixedOrders=true:=by kernel_rfl)(hB:znP (sub c p) n k=true:=by kernel_rfl)(hrd:zwi (sub c p) k=true:=by kernel_rfl):cwp P n (sub c p) Q E κ:=zz7 k hx h hm hB hrd
def csr{c:Code}{p:List Nat}(hx:owp P n (sub c (0::p)) 0 (zdJ P n (sub c (1::p)) Q) E κ)(h:zot (sub c p)=true:=by kernel_rfl)(h2:zcJ (sub c (0::p))=some false:=by kernel_rfl):cwp P n (sub c p) Q E κ:=zy9 h (zrr h2 hx)
def otr{c1:Code}{p:List Nat}(hx:owp P n (sub c1 p) 0 Q E κ)(h:decide ((opsOf c).size<=i)=true:=by kernel_rfl)(h2:zcJ (sub c1 p)=some false:=by kernel_rfl):owp P n c i (zdJ P n (sub c1 p) Q) E κ:=zr0 h (zrr h2 hx)
def otx{c1:Code}{p:List Nat}(hx:owp P n (sub c1 (0::p)) 0 (zdJ P n (sub c1 (1::p)) Q) E κ)(h:decide ((opsOf c).size<=i)=true:=by kernel_rfl)(h1:zot (sub c1 p)=true:=by kernel_rfl)(h2:zcJ (sub c1 (0::p))=some false:=by kernel_rfl):
  owp P n c i (zdJ P n (sub c1 p) Q) E κ:=zr0 h (csr hx h1 h2)
def cc{α:Type}{A B o:Option α}{c:Code}{p:List Nat}(b:Bool)(hr:(if b=true then A else B)=o)(ht:b=true->A=o->cwp P n (sub c (0::p)) Q E κ)(hf:b=false->B=o->cwp P n (sub c (1::p)) Q E κ)(h:zrd (sub c p)=true:=by kernel_rfl)(hb:ev E (zth (sub c p))=.bool b:=by kernel_rfl):cwp P n (sub c p) Q E κ:=zuX b h hb (λe=>ht e (zCo e hr)) (λe=>hf e (zCp e hr))
def ct{c:Code}{p:List Nat}(ht:cwp P n (sub c (0::p)) Q E κ)(h:zrd (sub c p)=true:=by kernel_rfl)(hb:ev E (zth (sub c p))=.bool true:=by kernel_rfl):cwp P n (sub c p) Q E κ:=zyA h hb ht
def cf{c:Code}{p:List Nat}(ht:cwp P n (sub c (1::p)) Q E κ)(h:zrd (sub c p)=true:=by kernel_rfl)(hb:ev E (zth (sub c p))=.bool false:=by kernel_rfl):cwp P n (sub c p) Q E κ:=zyB h hb ht
def ck{c:Code}{p:List Nat}(hq:Q .normal E κ)(h:zwv (sub c p)=true:=by kernel_rfl):cwp P n (sub c p) Q E κ:=zxT h hq
def ckt{c c1:Code}{p:List Nat}(hq:cwp P n c1 Q E κ)(h:zwv (sub c p)=true:=by kernel_rfl):cwp P n (sub c p) (zdJ P n c1 Q) E κ:=zxT h hq
def cx{c:Code}{p:List Nat}(id:Nat)(hq:Q (.exit id) E κ)(h:zyy (sub c p)=some id:=by kernel_rfl):cwp P n (sub c p) Q E κ:=zBC h hq
def cb{c:Code}{p:List Nat}(id:Nat)(hx:cwp P n (sub c (0::p)) (zdI id Q) E κ)(h:zsA (sub c p)=some id:=by kernel_rfl):cwp P n (sub c p) Q E κ:=zz8 h hx
def crt{c:Code}{p:List Nat}(hq:Q .ret E κ)(h:zBh (sub c p)=true:=by kernel_rfl):cwp P n (sub c p) Q E κ:=zCy h hq
def rt{fn:Func}{R:Value->K->Prop}(rs:List ResultVar)(vs:List Value)(h:zx4 P E κ rs vs)(hR:R (zoD vs) κ)(hr:fn.results=rs.toArray:=by kernel_rfl):zlS P fn R .ret E κ:=zDc rs vs hr h hR
def rn{fn:Func}{R:Value->K->Prop}(rs:List ResultVar)(vs:List Value)(h:zx4 P E κ rs vs)(hR:R (zoD vs) κ)(hr:fn.results=rs.toArray:=by kernel_rfl):zlS P fn R .normal E κ:=zB3 rs vs hr h hR
def bo{id id':Nat}(h:Q (.exit id') E κ)(hne:Nat.beq id' id=false:=by kernel_rfl):zdI id Q (.exit id') E κ:=ztZ hne h
def ocl{f:FuncId}{args:Array Value}{R:Value->K->Prop}(d:Nat)(hf:Fn P f args κ R)(hk:∀v κ',R v κ'->owp P n c (i+1) Q (upd E d v) κ')(h:st c i n E (some d)=true:=by kernel_rfl)(hr:∀w,(execOp (ev E) (zx c i)).run P w=.ok (.enter f args) w:=by intro _;kernel_rfl):owp P n c i Q E κ:=zAZ h hr hf hk
end
def fnc[Fb]{P:Program}{f:FuncId}{fn:Func}{args:Array Value}{κ:K}{R:Value->K->Prop}(n:Nat)(M:List Nat)(hf:P.funcs[f]?=some fn)(hn:fn.ntmps=n)(h:Step M κ κ->cwp P n (sub (zB fn) []) (zlS P fn R) (zuV args) κ)(hb:fn.body=some (zB fn):=by kernel_rfl)(ha:Nat.ble args.size n=true:=by kernel_rfl):Fn P f args κ R:=
 zz1 hf hb hn (gk ha) (h (Step.refl _ _))
end Go.Lf
namespace Go.Lf
open Go Go.Conc
def zEe{α:Type}(x:α)(l:List α):(x::l).toArray.extract 1 (x::l).toArray.size=l.toArray:=by
 apply Array.ext
 ·simp
 ·intro i a b;simp
def swp[Fb](P:Program)(n:Nat)(c:Code)(i:Nat)(Q:zaY)(E:Env)(κ:K):Prop:=
 ∀C d a,Fits n a E->∀b k cs,∃e a' w',zqJ n C Q e a' w'/\Arrives P (lone (b.at a (.inRegion (opsOf c) (List.range' i ((opsOf c).size - i))::k)) cs (W C κ d)) b k cs e a' w'
section
variable {P:Program} {n:Nat} {c:Code} {i:Nat} {Q:zaY} {E:Env} {κ:K}
def zx7(h:owp P n c i Q E κ):swp P n c i Q E κ:=λC d a f b k cs=>by
 obtain⟨e,a',w',q,r⟩:=wp_opsIn (F:=Fence.wide) (n:=0) _ _ _ (h C d a f) {b with roundOf:=none} k cs rfl trivial (room_wide _);exact⟨e,a',w',q,(arrivesIn_iff (b:={b with roundOf:=none}) (λ_ _=>stepsIn_wide) rfl).1 r⟩
def sr{c:Code}{p:List Nat}(hx:swp P n (sub c p) 0 Q E κ)(h:zcJ (sub c p)=some false:=by kernel_rfl):cwp P n (sub c p) Q E κ:=by
 generalize sub c p=s at *;cases s<;>simp[zcJ]at h;subst h;intro C d a g;refine wpIn_wide.2 λb k cs=>?_;obtain⟨e,a',w',i,f⟩:=hx C d a g b k cs;refine⟨e,a',w',i,.of_steps (.one step_region) ?_⟩;simpa[List.range_eq_range',opsOf]using f
def sp(d:Nat)(v:Value)(hk:swp P n c (i+1) Q (upd E d v) κ)(h:st c i n E (some d)=true:=by kernel_rfl)(hr:∀w,(execOp (ev E) (zx c i)).run P w=.ok (.value v) w:=by intro _;kernel_rfl):swp P n c i Q E κ:=by
 obtain⟨l,q,s,r⟩:=zh8 h;intro C m a j b k cs;obtain⟨e,a',w',p,g⟩:=hk C m _ (j.put (r d rfl) v) b k cs;refine⟨e,a',w',p,.of_steps (.one (step_lone_go ?_)) g⟩;rw[zmC l];have t:=stepG_op (P:=P) (b:=b) (k:=k) (cs:=cs) (w:=W C κ m) (rest:=List.range' (i+1) ((opsOf c).size - (i+1))) (a:=a) (zjq l) (by rw[zj8 j];exact q);rw[t,j.eval];have f:(b.at a (.inRegion (opsOf c) (i::List.range' (i+1) ((opsOf c).size - (i+1)))::k)).finish v=b.at (a.put (some d) v) (.inRegion (opsOf c) (List.range' (i+1) ((opsOf c).size - (i+1)))::k):=by
  rw[Frame.finish_at,zjq l];simp only[ic,s]
 rw[←f];simp[stepG.apply,hr]
def se(hq:Q .normal E κ)(h:decide ((opsOf c).size<=i)=true:=by kernel_rfl):swp P n c i Q E κ:=zx7 (zr0 h hq)
def zvY{P:Program}{b:Frame}{a:Act}{k:List Item}{cs:List Frame}{ops:Array Oper}{i:Nat}{rest:List Nat}{o:Oper}{cases:Array CommCase}{blocking:Bool}{shape:CommShape}{w w':World}(ho:ops[i]?=some o)(hw:Region.wanted o (yielded ops a.tmps)=true)(hr:(execOp a.eval o).run P w=.ok (.comm cases blocking shape) w'):
  ∃es,stepG P true (G (b.at a (.inRegion ops (i::rest)::k)) cs) w=.comm (G (b.at a (.inRegion ops (i::rest)::k)) cs) cases blocking shape w' es:=by
 rw[stepG_oper ho hw];by_cases c:b.kind=.early
 ·exact⟨_,by simp[stepG.apply,hr,G,Frame.at,c,GStep.after];rfl⟩
 ·exact⟨_,by simp[stepG.apply,hr,G,Frame.at,c,GStep.after];rfl⟩
structure Chn(τ:Tag)(κ:K)(b cap:Nat)(l:List Int):Prop where
 obj:∃s r,κ.H[b]?=some (.chan cap (l.map λn=>Value.int .i64 n).toArray false s r false)
 fr:κ.fr b=0
 tag:κ.tag b=τ
 ge:τ.1<=b
def Chn.lt{τ:Tag}{κ:K}{b cap:Nat}{l:List Int}(h:Chn τ κ b cap l):b<κ.H.size:=by
 obtain⟨s,r,a⟩:=h.obj;exact(ai.1 a).1
def Chn.step{M:List Nat}{τ:Tag}{κ κ':K}{b cap:Nat}{l:List Int}(s:Step M κ κ')(hm:b∉M)(h:Chn τ κ b cap l):Chn τ κ' b cap l:=by
 have hs:=s.2.1 b h.lt hm;obtain⟨x,y,a⟩:=h.obj;exact⟨⟨x,y,hs.1.trans a⟩,hs.2.1.trans h.fr,hs.2.2.trans h.tag,h.ge⟩
def K.setO(κ:K)(b:Nat)(o:Obj):K:=⟨κ.H.setIfInBounds b o,κ.fr,κ.tag⟩
def zl9{κ:K}{b:Nat}{o:Obj}(hf:κ.fr b=0):Step [b] κ (κ.setO b o):=by
 refine⟨by simp[K.setO],λx d hm=>⟨?_,rfl,rfl⟩,λx d=>⟨gl _,λg f=>?_⟩,λx d c=>⟨rfl,?_⟩⟩
 ·simp only[K.setO];have:b≠x:=λe=>hm (by simp[e]);rw[am this]
 ·by_cases a:b=x
  ·subst a;rw[hf]at f;omega
  ·unfold K.cell K.setO;rw[am a]
 ·have a:b≠x:=λe=>by rw[←e,hf]at c;omega
  unfold K.shp K.setO;rw[am a]
def zze{τ:Tag}{κ:K}{b cap:Nat}{l l':List Int}(h:Chn τ κ b cap l)(s r:Nat):Chn τ (κ.setO b (.chan cap (l'.map λn=>Value.int .i64 n).toArray false s r false)) b cap l':=
 ⟨⟨s,r,by simp[K.setO,h.lt]⟩,h.fr,h.tag,h.ge⟩
def zv0[Fb]{C:Cx}{d b cap s r:Nat}{buf:Array Value}{cl:Bool}{tm:Bool}:(W C κ d).setChan b cap buf cl s r tm=W C (κ.setO b (.chan cap buf cl s r tm)) d:=rfl
def zCK{τ:Tag}{b cap:Nat}{l:List Int}{x:Int}{z:Value}(h:Chn τ κ b cap l)(hroom:l.length<cap)(hk:∀κ',Step [b] κ κ'->κ.H.size=κ'.H.size->Chn τ κ' b cap (l++[x])->swp P n c (i+1) Q E κ')(hst:st c i n E none=true:=by kernel_rfl)(hr:∀w,(execOp (ev E) (zx c i)).run P w=.ok (.comm #[scase b (.int .i64 x) z] true .send) w:=by intro _;kernel_rfl):swp P n c i Q E κ:=by
 obtain⟨u,A,B,F⟩:=zh8 hst;intro C p a t q k cs;obtain⟨s,r,f⟩:=h.obj;have v:(execOp a.eval (zx c i)).run P (W C κ p)=.ok (.comm #[scase b (.int .i64 x) z] true .send) (W C κ p):=by rw[t.eval];exact hr _
 obtain⟨G,D⟩:=zvY (P:=P) (b:=q) (k:=k) (cs:=cs) (rest:=List.range' (i+1) ((opsOf c).size - (i+1))) (zjq u) (by rw[zj8 t];exact A) v;have d:=step_lone_send_room D (show(W C κ p).heap[b]?=_ from f) (by simpa using hroom);have j:(q.at a (.inRegion (opsOf c) (i::List.range' (i+1) ((opsOf c).size - (i+1)))::k)).finish undef=q.at a (.inRegion (opsOf c) (List.range' (i+1) ((opsOf c).size - (i+1)))::k):=by
  rw[Frame.finish_at,zjq u];simp only[ic,B];rfl
 rw[j,zv0]at d;have g:(List.map (λn=>Value.int .i64 n) l).toArray.push (.int .i64 x)=(List.map (λn=>Value.int .i64 n) (l++[x])).toArray:=by simp
 rw[g]at d;obtain⟨e,a',w',y,m⟩:=hk _ (zl9 h.fr) (by simp[K.setO]) (zze h (s+1) r) C p a t q k cs;refine⟨e,a',w',y,.of_steps (.one ?_) m⟩;rw[zmC u];exact d
def zDJ{τ:Tag}{b cap:Nat}{l:List Int}{x:Int}(d:Nat)(z:Value)(h:Chn τ κ b cap (x::l))(hk:∀κ',Step [b] κ κ'->κ.H.size=κ'.H.size->Chn τ κ' b cap l->swp P n c (i+1) Q (upd E d (.int .i64 x)) κ')(hst:st c i n E (some d)=true:=by kernel_rfl)(hr:∀w,(execOp (ev E) (zx c i)).run P w=.ok (.comm #[rcase b z] true (.recv false)) w:=by intro _;kernel_rfl):swp P n c i Q E κ:=by
 obtain⟨A,F,H,G⟩:=zh8 hst;intro C t a y u k cs;obtain⟨s,r,j⟩:=h.obj;have B:(execOp a.eval (zx c i)).run P (W C κ t)=.ok (.comm #[rcase b z] true (.recv false)) (W C κ t):=by rw[y.eval];exact hr _
 obtain⟨J,I⟩:=zvY (P:=P) (b:=u) (k:=k) (cs:=cs) (rest:=List.range' (i+1) ((opsOf c).size - (i+1))) (zjq A) (by rw[zj8 y];exact F) B;have f:=step_lone_recv_buf false I (show(W C κ t).heap[b]?=_ from j) si;have p:∀v,(u.at a (.inRegion (opsOf c) (i::List.range' (i+1) ((opsOf c).size - (i+1)))::k)).finish v=u.at (a.put (some d) v) (.inRegion (opsOf c) (List.range' (i+1) ((opsOf c).size - (i+1)))::k):=by
  intro v;rw[Frame.finish_at,zjq A];simp only[ic,H]
 rw[p,zv0]at f;have m:(List.map (λn=>Value.int .i64 n) (x::l)).toArray.extract 1 (List.map (λn=>Value.int .i64 n) (x::l)).toArray.size=(List.map (λn=>Value.int .i64 n) l).toArray:=by
  rw[fd];exact zEe _ _
 have g:got false ((List.map (λn=>Value.int .i64 n) (x::l)).toArray.getD 0 undef) true=.int .i64 x:=by simp[got]
 rw[m,g]at f;obtain⟨e,a',w',D,q⟩:=hk _ (zl9 h.fr) (by simp[K.setO]) (zze h s (r+1)) C t _ (y.put (G d rfl) (.int .i64 x)) u k cs;refine⟨e,a',w',D,.of_steps (.one ?_) q⟩;rw[zmC A];exact f
end
end Go.Lf
namespace Go.Lf
open Go
def zuE(c:Code)(i:Nat):Bool:=
 match(zx c i).op with
 | .load _ _=>true
 | .lookup _ _ _ _=>true
 | .convert _ _ _=>true
 | .call _=>true
 | .index _ _ _=>false
 | _=>false
def zrV(q0:Nat)(M:List Nat)(i:Nat):K->K->Prop:=bif Nat.beq i q0 then Step M else Step []
def zru(c:Code):Nat->List (List Nat)
 | 0=>[]
 | k+1=>
  let A:=zru c k
  A++[(List.range k).flatMap λj=>bif dep c k j then j::(A.getD j [])else[]]
def frB(c:Code)(q0 i:Nat):Bool:=!(((zru c (q0+1)).getD q0 []).contains i)
def zxs(c:Code)(q0:Nat)(M:List Nat)(i:Nat):List Nat:=bif frB c q0 i then M else[]
def XRun(P:Program)(Rel:K->K->Prop)[Fb](C:Cx)(κ:K)(R:Value->K->Prop):Result Next->Prop
 | .ok (.value v) w'=>∃κ' d',w'=W C κ' d'/\Rel κ κ'/\R v κ'
 | .ok (.enter f args) w'=>∃κ' d',w'=W C κ' d'/\Rel κ κ'/\Fn P f args κ' (λv κ''=>Rel κ' κ''/\R v κ'')
 | _=>False
def XC[Fb](P:Program)(c:Code)(nq:List Nat)(q0:Nat)(M:List Nat):List Nat->Env->K->(Env->K->Prop)->Prop
 |[],E,κ,R=>R E κ
 | i::l,E,κ,R=>
  (zbR c i E=false/\XC P c nq q0 M l (upd E (dstOf c i) undef) κ R) \/
  (zbR c i E=true/\nq.contains i=true/\∀C d,XRun P (zrV q0 M i) C κ (λv κ'=>XC P c nq q0 M l (upd E (dstOf c i) v) κ' R) ((execOp (ev E) (zx c i)).run P (W C κ d))) \/
  (zbR c i E=true/\nq.contains i=false/\∃v,(∀κ',(zuE c i=true->Step (zxs c q0 M i) κ κ')->∀C d,(execOp (ev E) (zx c i)).run P (W C κ' d)=.ok (.value v) (W C κ' d))/\XC P c nq q0 M l (upd E (dstOf c i) v) κ R)
def zt8{E:Env}{s t:Nat}{v u:Value}(h:s≠t):upd (upd E s v) t u=upd (upd E t u) s v:=by
 funext x;rw[zpx,zpx,zpx,zpx];by_cases a:x=t
 ·by_cases b:x=s
  ·exact absurd (b.symm.trans a) h
  ·rw[if_pos a,if_neg b,if_pos a]
 ·rw[if_neg a,if_neg a]
def XRun.mono{P:Program}{Rel:K->K->Prop}[Fb]{C:Cx}{κ:K}{R R':Value->K->Prop}(h:∀v κ',Rel κ κ'->R v κ'->R' v κ')(tr:∀a b c,Rel a b->Rel b c->Rel a c){r:Result Next}(hx:XRun P Rel C κ R r):XRun P Rel C κ R' r:=by
 cases r with
 | halt _ _=>exact hx.elim
 | ok nx w=>
  cases nx with
  | value v=>
   obtain⟨κ',g,i,d,j⟩:=hx;exact⟨κ',g,i,d,h _ _ d j⟩
  | enter f args=>
   obtain⟨κ',g,i,d,j⟩:=hx;exact⟨κ',g,i,d,j.mono λv κ'' e=>⟨e.1,h _ _ (tr _ _ _ d e.1) e.2⟩⟩
  | _=>exact hx.elim
def zur{q0:Nat}{M:List Nat}{i:Nat}:∀a b c,zrV q0 M i a b->zrV q0 M i b c->zrV q0 M i a c:=by
 intro a b c h h';unfold zrV at *;cases hb:Nat.beq i q0 with
 | false=>rw[hb]at h h';exact Step.trans h h'
 | true=>rw[hb]at h h';exact Step.trans h h'
section
variable [Fb] {P:Program} {c:Code} {nq:List Nat} {q0:Nat} {M:List Nat} {R:Env->K->Prop}
def XC.swap{i j:Nat}{l:List Nat}{E:Env}{κ:K}(hj:nq.contains j=false)(hji:dstOf c j≠dstOf c i)(hri:dstOf c j∉rds c i)(hrj:dstOf c i∉rds c j)(hsi:zts c i=false)(hsj:zts c j=false)(hq:Nat.beq i q0=true->zuE c j=true->frB c q0 j=true)(h:XC P c nq q0 M (j::i::l) E κ R):XC P c nq q0 M (i::j::l) E κ R:=by
 have g:∀v,∀t∈rds c i,upd E (dstOf c j) v t=E t:=λv t x=>by
  have k:t≠dstOf c j:=λe=>hri (by rw[←e];exact x);rw[zpx,if_neg k]
 have a:∀v,∀t∈rds c j,upd E (dstOf c i) v t=E t:=λv t x=>by
  have k:t≠dstOf c i:=λe=>hrj (by rw[←e];exact x);rw[zpx,if_neg k]
 have w:∀v,zbR c i (upd E (dstOf c j) v)=zbR c i E:=λv=>zkV (g v);have y:∀v,zbR c j (upd E (dstOf c i) v)=zbR c j E:=λv=>zkV (a v);have xi:∀v,execOp (ev (upd E (dstOf c j) v)) (zx c i)=execOp (ev E) (zx c i):=λv=>zo8 hsi (g v);have z:∀v,execOp (ev (upd E (dstOf c i) v)) (zx c j)=execOp (ev E) (zx c j):=λv=>zo8 hsj (a v);have key:∃u,(∀(n:Env)(κ':K),(∀t∈rds c j,n t=E t)->(zuE c j=true->Step (zxs c q0 M j) κ κ')->XC P c nq q0 M l (upd n (dstOf c j) u) κ' R->XC P c nq q0 M (j::l) n κ' R)/\XC P c nq q0 M (i::l) (upd E (dstOf c j) u) κ R:=by
  rcases h with⟨b,f⟩ |⟨b,f,_⟩ |⟨b,f,v,h3,h4⟩
  ·exact⟨undef,λn κ' s _ r=>.inl ⟨by rw[zkV s];exact b,r⟩,f⟩
  ·rw[hj]at f;cases f
  ·refine⟨v,λn κ' s hs r=>.inr (.inr ⟨by rw[zkV s];exact b,f,v,λκ'' hs' C d=>?_,r⟩),h4⟩;rw[zo8 hsj s];exact h3 κ'' (λhm=>(hs hm).trans (hs' hm)) C d
 obtain⟨u,m,hi⟩:=key;rcases hi with⟨b,f⟩ |⟨b,f,h3⟩ |⟨b,f,v,h3,h4⟩
 ·rw[w]at b;exact .inl ⟨b,m _ _ (a undef) (λ_=>Step.refl _ _) (by rw[←zt8 hji];exact f)⟩
 ·rw[w]at b;refine .inr (.inl ⟨b,f,λC d=>?_⟩);have q:=h3 C d;rw[xi]at q;refine XRun.mono (λv κ' p r=>?_) zur q;refine m _ _ (a v) (λhm=>?_) (by rw[←zt8 hji];exact r);unfold zrV at p;cases hb:Nat.beq i q0 with
  | false=>rw[hb]at p;exact Step.nil p
  | true=>rw[hb]at p;unfold zxs;rw[hq hb hm];exact p
 ·rw[w]at b;refine .inr (.inr ⟨b,f,v,λκ' hs C d=>?_,?_⟩)
  ·rw[←xi u];exact h3 κ' hs C d
  ·exact m _ _ (a v) (λ_=>Step.refl _ _) (by rw[←zt8 hji];exact h4)
def XC.cons{i:Nat}{l l':List Nat}(h:∀E κ,XC P c nq q0 M l E κ R->XC P c nq q0 M l' E κ R){E:Env}{κ:K}(hx:XC P c nq q0 M (i::l) E κ R):XC P c nq q0 M (i::l') E κ R:=by
 rcases hx with⟨a,b⟩ |⟨a,b,h3⟩ |⟨a,b,v,h3,h4⟩
 ·exact .inl ⟨a,h _ _ b⟩
 ·exact .inr (.inl ⟨a,b,λC d=>(h3 C d).mono (λv κ' _ e=>h _ _ e) zur⟩)
 ·exact .inr (.inr ⟨a,b,v,h3,h _ _ h4⟩)
def XC.front{i:Nat}{l2:List Nat}:∀{l1:List Nat},(∀j∈l1,nq.contains j=false/\dstOf c j≠dstOf c i/\dstOf c j∉rds c i/\dstOf c i∉rds c j/\zts c j=false/\(Nat.beq i q0=true->zuE c j=true->frB c q0 j=true))->zts c i=false->
  ∀{E:Env} {κ:K},XC P c nq q0 M (l1++i::l2) E κ R->XC P c nq q0 M (i::(l1++l2)) E κ R
 |[],_,_,_,_,h=>h
 | j::l1,hl,hsi,E,κ,h=>by
  obtain⟨f,d,l,e,g,b⟩:=hl j si;have h':XC P c nq q0 M (j::i::(l1++l2)) E κ R:=XC.cons (λE κ m=>XC.front (λk a=>hl k (by simp[a])) hsi m) h;exact XC.swap f d l e hsi g b h'
end
def bef:List Nat->Nat->Nat->Bool
 |[],_,_=>false
 | x::xs,j,i=>bif Nat.beq x j then xs.contains i else(bif Nat.beq x i then false else bef xs j i)
def zCb:List Nat->Bool
 |[]=>true
 | x::xs=>!xs.contains x&&zCb xs
def zDg(k:Nat)(π:List Nat):Bool:=zCb π&&π.all (λi=>Nat.blt i k)&&(List.range k).all (λi=>π.contains i)
def zCY(c:Code)(k:Nat)(π nq:List Nat)(q0:Nat):Bool:=
 let A:=zru c k
 zDg k π&&zwi c k&&((List.range k).all λi=>(List.range k).all λj=>!bef π j i||!dep c j i) &&
 ((List.range k).all λi=>(List.range k).all λj=>!bef π j i||!nq.contains j||(A.getD i []).contains j)
def zsD(c:Code):∀k,(zru c k).length=k
 | 0=>rfl
 | k+1=>by simp[zru,zsD c k]
def zqw(c:Code)(listed:Nat->Bool)(hcl:∀i j,dep c i j=true->listed i=true->listed j=true):
  ∀(k i j:Nat),i<k->((zru c k).getD i []).contains j=true->(∀m,dep c i m=true->listed m=true)->listed j=true
 | 0,i,j,hi,_,_=>by omega
 | k+1,i,j,hi,hc,hd=>by
  unfold zru at hc;by_cases a:i<k
  ·have e:(zru c k++[(List.range k).flatMap λj=>bif dep c k j then j::((zru c k).getD j [])else[]]).getD i []=(zru c k).getD i []:=by
    simp only[List.getD_eq_getElem?_getD];rw[cq (by rw[zsD];exact a)]
   simp only[]at hc;rw[e]at hc;exact zqw c listed hcl k i j a hc hd
  ·have a:i=k:=by omega
   subst a;have e:(zru c i++[(List.range i).flatMap λj=>bif dep c i j then j::((zru c i).getD j [])else[]]).getD i []=(List.range i).flatMap λj=>bif dep c i j then j::((zru c i).getD j [])else[]:=by
    simp only[List.getD_eq_getElem?_getD];rw[cv (by rw[zsD];omega),zsD];simp
   simp only[]at hc;rw[e]at hc;rw[bq,List.mem_flatMap]at hc;obtain⟨m,hm,b⟩:=hc;have f:=fp.1 hm;cases hdm:dep c i m with
   | false=>rw[hdm]at b;simp at b
   | true=>
    rw[hdm]at b;have d:=hd m hdm;simp only[cond_true,fh]at b;rcases b with rfl | b
    ·exact d
    ·exact zqw c listed hcl i m j f (by rw[bq];exact b) (λx g=>hcl m x g d)
def zrt(p:Nat->Bool)(i j:Nat):∀(π l1 l2:List Nat),π.Nodup->π.filter p=l1++i::l2->j∈l1->bef π j i=true
 |[],l1,l2,_,h,_=>by simp at h
 | x::xs,l1,l2,hn,h,hj=>by
  have a:=List.nodup_cons.1 hn;have d:i∈(x::xs).filter p:=by rw[h];simp
  have l:j∈(x::xs).filter p:=by rw[h];simp[hj]
  have k:i≠j:=by
   have g:(l1++i::l2).Nodup:=by rw[←h];exact hn.filter p
   have:=(fu.1 g).2.2 j hj i si;exact this.symm
  unfold bef;by_cases b:x=j
  ·subst b;rw[show Nat.beq x x=true by simp];simp only[cond_true];rw[bq];have:=(fi.1 d).1;rcases fh.1 this with h1 | h1
   ·exact absurd h1 k
   ·exact h1
  ·rw[show Nat.beq x j=false by cases hb:Nat.beq x j with | false=>rfl | true=>exact absurd (gj hb) b];simp only[cond_false];by_cases hp:p x=true
   ·rw[ci hp]at h;cases l1 with
    | nil=>cases hj
    | cons y l1=>
     rw[List.cons_append,List.cons.injEq]at h;obtain⟨rfl,h⟩:=h;have f:j∈l1:=by
      rcases fh.1 hj with h1 | h1
      ·exact absurd h1.symm b
      ·exact h1
     have c:x≠i:=by
      intro e;subst e;have:x∈xs.filter p:=by rw[h];simp
      exact a.1 (fi.1 this).1
     rw[show Nat.beq x i=false by cases hb:Nat.beq x i with | false=>rfl | true=>exact absurd (gj hb) c];exact zrt p i j xs l1 l2 a.2 h f
   ·rw[cg (by simpa using hp)]at h;have c:x≠i:=by
     intro e;subst e;have:x∈xs.filter p:=by rw[h];simp
     exact a.1 (fi.1 this).1
    rw[show Nat.beq x i=false by cases hb:Nat.beq x i with | false=>rfl | true=>exact absurd (gj hb) c];exact zrt p i j xs l1 l2 a.2 h hj
def zvJ:∀{l:List Nat},zCb l=true->l.Nodup
 |[],_=>List.nodup_nil
 | x::xs,h=>by
  unfold zCb at h;simp only[aw,ba]at h;refine List.nodup_cons.2 ⟨λhm=>?_,zvJ h.2⟩;rw[bq.2 hm]at h;cases h.1
def zzz{k:Nat}{π:List Nat}(h:zDg k π=true):π.Nodup/\(∀i,i<k->i∈π)/\∀i∈π,i<k:=by
 unfold zDg at h;simp only[aw]at h;refine⟨zvJ h.1.1,λi hi=>?_,λi hi=>?_⟩
 ·have:=bi.1 h.2 i (fp.2 hi)
  rwa [bq]at this
 ·have:=bi.1 h.1.2 i hi;simpa[Nat.blt,gp]using this
section
variable [Fc] [Fb] {P:Program} {n:Nat} {Q:zaY} {E:Env} {κ:K}
def zDY{c0:Code}{p:List Nat}(k:Nat)(π nq:List Nat)(q0:Nat)(M:List Nat)(N:XC P (sub c0 p) nq q0 M π E κ (λR κ'=>owp P n (sub c0 p) k Q R κ'))(h:zcJ (sub c0 p)=some true)(hm:P.follows .mixedOrders=true)(hB:znP (sub c0 p) n k=true)(hchk:zCY (sub c0 p) k π nq q0=true):cwp P n (sub c0 p) Q E κ:=by
 generalize sub c0 p=s at *;unfold znP at hB;simp only[aw,decide_eq_true_eq,Bool.or_eq_true]at hB;obtain⟨⟨⟨⟨hk,b9⟩,d4⟩,c5⟩,f0⟩:=hB;unfold zCY at hchk;simp only[aw]at hchk;obtain⟨⟨⟨e3,e9⟩,c3⟩,g7⟩:=hchk;obtain⟨T,g5,a1⟩:=zzz e3;have H:∀i o,(opsOf s)[i]?=some o->∀e∈o.after,Region.binds .any e=true->e.on<i:=by
  intro i o hi e he A;have a1:i<(opsOf s).size:=(ai.1 hi).1;have q:=bi.1 b9 i (fp.2 a1);have ho:zx s i=o:=by unfold zx;rw[hi];rfl
  rw[ho]at q;have w:=(Array.all_eq_true_iff_forall_mem.1 q) e he;simpa[A]using w
 have D:∀i,i<k->(zx s i).dst=some (dstOf s i)/\dstOf s i<n/\∀j,j<i->dstOf s j≠dstOf s i:=by
  intro i hi;have q:=bi.1 d4 i (fp.2 hi);simp only[aw,beq_iff_eq,decide_eq_true_eq]at q;refine⟨q.1.1,q.1.2,λj Z=>?_⟩;have:=bi.1 q.2 j (fp.2 Z);simpa using this
 have a4:∀i j,i<k->j<k->i≠j->dstOf s i≠dstOf s j:=by
  intro i j hi Z b6;rcases gu b6 with h | h
  ·exact(D j Z).2.2 i h
  ·exact((D i hi).2.2 j h).symm
 have a8:∀i,i<k->zts s i=false:=λi hi=>by
  have:=bi.1 e9 i (fp.2 hi);simp only[aw,ba]at this;exact this.1
 have S:∀i j,i<k->j<k->dep s i j=false->dstOf s j∉rds s i:=by
  intro i j hi Z hd e4;have:=bi.1 e9 i (fp.2 hi);simp only[aw]at this;have q:=bi.1 this.2 _ e4;rcases Bool.or_eq_true_iff.1 q with w | w
  ·have:=bi.1 w j (fp.2 Z);simp at this
  ·obtain⟨m,hm,a2⟩:=bj.1 w;simp only[aw,beq_iff_eq]at a2;have h9:=fp.1 hm;by_cases e0:m=j
   ·subst e0;rw[hd]at a2;cases a2.2
   ·exact a4 m j om Z e0 a2.1
 have g4:∀i j,i<(opsOf s).size->dep s i j=true->j<i:=by
  intro i j hi hd;unfold dep at hd;obtain⟨e,he,A⟩:=Array.any_eq_true'.1 hd;simp only[aw,beq_iff_eq]at A;have:=H i (zx s i) (zjq hi) e he A.1;omega
 cases s<;>simp[zcJ]at h;rename_i id ops dr;subst h;simp only[opsOf]at *;generalize hs:Code.region id ops true=s at *;have c2:opsOf s=ops:=by rw[←hs];rfl
 have e7:∀m b R κ' C d a,Fits n a R->HeadInv .any ops k b->(∀i j,i<k->b.getD i false=true->dep s i j=true->b.getD j false=true)->
   XC P s nq q0 M (π.filter λi=>!b.getD i false) R κ' (λR κ'=>owp P n s k Q R κ')->unl b k=m->
   wpAnyIn FF 0 P .any ops (zqJ n C Q) (m+(ops.size - k)) b a (W C κ' d):=by
  intro m
  induction m with
  | zero=>
   intro b R κ' C d a hf c a3 Y hu;have I:=zwQ hu;have c4:b=zo7 k ops.size:=by
    apply Array.ext
    ·simp[zo7];exact c.size
    ·intro i q w;simp only[zo7,Array.getElem_map,Array.getElem_range];by_cases l:i<k
     ·have:=I i l;simp[q]at this;rw[this];simp[l]
     ·have:=c.tail i om (by rw[←c.size];exact q);simp[q]at this;rw[this];simp[l]
   have e6:(π.filter λi=>!b.getD i false)=[]:=by
    rw[List.filter_eq_nil_iff];intro i hi;rw[I i (a1 i hi)];simp
   rw[e6]at Y;subst c4;have f1:=Y C d a hf;rw[c2]at f1;have hl:=zmf (F:=FF) (n:=0) (P:=P) (md:=.any) (ops:=ops) (Q':=zqJ n C Q) (ops.toList.drop k) k (zo7 k ops.size) a (W C κ' d)
    (λj=>by simp[cw]) (by simpa using f0) (by
     have he:=wpOpsIn_eq_wpListIn (F:=FF) (n:=0) (P:=P) (ops:=ops) (Q:=zqJ n C Q) (ops.toList.drop k) k (λj=>by simp[cw]);have hlen:(ops.toList.drop k).length=ops.size - k:=by simp
     rw[hlen]at he;rw[←he];exact f1)
   have hlen:(ops.toList.drop k).length=ops.size - k:=by simp
   rw[hlen]at hl;simpa using hl
  | succ m ih=>
   intro b R κ' C d a hf c a3 Y hu;obtain⟨i0,g2,b4,c9⟩:=zyN hu;have J:i0<ops.size:=by omega
   have z:i0∈Region.ready .any ops b:=by
    refine mem_ready.2 ⟨?_,ops[i0],by simp[J],?_⟩
    ·have:i0<b.size:=by rw[c.size];exact J
     simp[this]at b4 ⊢;exact b4
    ·intro e he A;exact c9 e.on (H i0 ops[i0] (by simp[J]) e he A)
   have f6:m+1+(ops.size - k)=(m+(ops.size - k))+1:=by omega
   rw[f6];refine⟨λh0=>(by rw[h0]at z;cases z),λi hi=>?_⟩;obtain⟨g6,oi,b8,I⟩:=mem_ready.1 hi;have e5:i<ops.size:=(ai.1 b8).1;have l:i<k:=by
    rcases gt i k with h | h
    ·exact h
    ·rcases c5 with ht |⟨hs',hc⟩
     ·omega
     ·have c8:b.getD i0 true=false:=getD_in (by rw[c.size];exact J) b4;exact absurd hi (tail_waits hs' hc om c _ i0 rfl g2 c8 i h)
   have V:zx s i=oi:=by unfold zx;rw[c2,b8];rfl
   obtain⟨f9,f7,h5⟩:=D i l;have d5:b.getD i false=false:=getD_both g6;have U:i<b.size:=by rw[c.size];exact e5
   have u:∀j,dep s i j=true->b.getD j false=true:=by
    intro j c1;unfold dep at c1;rw[V]at c1;obtain⟨e,he,A⟩:=Array.any_eq_true'.1 c1;simp only[aw,beq_iff_eq]at A;have q:=I e he A.1;rw[A.2]at q;exact q
   have b5:i∈π.filter λi=>!b.getD i false:=fi.2 ⟨g5 i l,by rw[d5];rfl⟩;obtain⟨l1,l2,g⟩:=List.append_of_mem b5;have e2:∀j,j<k->((zru s k).getD i []).contains j=true->b.getD j false=true:=λj _ hc=>
    zqw s (λx=>b.getD x false) (λx y b7 N=>by
     rcases gt x k with h | h
     ·exact a3 x y h N b7
     ·have:b.getD x false=false:=by
       rcases gt x ops.size with w | w
       ·exact getD_both (c.tail x h w)
       ·simp[Array.getElem?_eq_none (show b.size<=x by rw[c.size];exact w)]
      rw[this]at N;cases N) k i j l hc u
   rw[g]at Y;have g3:=XC.front (l1:=l1) (λj Z=>by
    have d6:j∈π.filter λi=>!b.getD i false:=by rw[g];simp[Z]
    have B:=a1 j (fi.1 d6).1;have L:b.getD j false=false:=by have:=(fi.1 d6).2;simpa using this
    have d9:=zrt _ i j π l1 l2 T g Z;have b6:i≠j:=by
     have c7:(l1++i::l2).Nodup:=by rw[←g];exact T.filter _
     exact((fu.1 c7).2.2 j Z i si).symm
    refine⟨?_,a4 j i B l b6.symm,S i j l B ?_,S j i B l ?_,a8 j B,λf8 _=>?_⟩
    ·have q:=bi.1 (bi.1 g7 i (fp.2 l)) j (fp.2 B);rw[d9]at q;cases hc:nq.contains j with
     | false=>rfl
     | true=>
      rw[hc]at q;simp only[bb,Bool.false_or]at q;rw[e2 j B q]at L;cases L
    ·cases hd:dep s i j with
     | false=>rfl
     | true=>rw[u j hd]at L;cases L
    ·have q:=bi.1 (bi.1 c3 i (fp.2 l)) j (fp.2 B);rw[d9]at q;simpa using q
    ·have:=gj f8;subst this;cases hc:frB s i j with
     | true=>rfl
     | false=>
      unfold frB at hc;have f4:((zru s (i+1)).getD i []).contains j=true:=by simpa using hc
      have:=zqw s (λx=>b.getD x false) (λx y b7 N=>by
       rcases gt x k with h | h
       ·exact a3 x y h N b7
       ·have:b.getD x false=false:=by
         rcases gt x ops.size with w | w
         ·exact getD_both (c.tail x h w)
         ·simp[Array.getElem?_eq_none (show b.size<=x by rw[c.size];exact w)]
        rw[this]at N;cases N) (i+1) i j om f4 u
      rw[this]at L;cases L) (a8 i l) Y
   have c7:(l1++i::l2).Nodup:=by rw[←g];exact T.filter _
   have d7:(π.filter λx=>!(b.setIfInBounds i true).getD x false)=l1++l2:=by
    have e1:(π.filter λx=>!(b.setIfInBounds i true).getD x false)=(π.filter λx=>!b.getD x false).filter (λx=>!Nat.beq x i):=by
     rw[List.filter_filter];apply List.filter_congr;intro x _;by_cases O:x=i
     ·subst O;simp[U]
     ·rw[getD_set_ne false (Ne.symm O)];have:Nat.beq x i=false:=by
       cases A:Nat.beq x i with
       | false=>rfl
       | true=>exact absurd (gj A) O
      rw[this];simp
    rw[e1,g,ce,cg si];have b0:=fu.1 c7;have g0:=List.nodup_cons.1 b0.2.1;rw[cj.2,cj.2]
    ·intro x N;have:x≠i:=λe=>g0.1 (e▸N);cases A:Nat.beq x i with
     | false=>rfl
     | true=>exact absurd (gj A) this
    ·intro x N;have:x≠i:=b0.2.2 x N i si;cases A:Nat.beq x i with
     | false=>rfl
     | true=>exact absurd (gj A) this
   have G:∀v κ2 d2,XC P s nq q0 M (l1++l2) (upd R (dstOf s i) v) κ2 (λR κ'=>owp P n s k Q R κ')->
     wpAnyIn FF 0 P .any ops (zqJ n C Q) (m+(ops.size - k)) (b.setIfInBounds i true) (a.put oi.dst v) (W C κ2 d2):=by
    intro v κ2 d2 f5;rw[←V,f9];refine ih _ (upd R (dstOf s i) v) κ2 C d2 _ (hf.put f7 v) (c.set hi l) ?_ (by rw[d7];exact f5) ?_
    ·intro x y f2 d8 b2;by_cases d0:y=i
     ·subst d0;simp[U]
     ·rw[getD_set_ne false (Ne.symm d0)];by_cases O:x=i
      ·subst O;exact u y b2
      ·rw[getD_set_ne false (Ne.symm O)]at d8;exact a3 x y f2 d8 b2
    ·have:=zyM l U d5;omega
   unfold wpOpIn;simp only[b8];have X:=zj8 hf s i;rw[V,c2]at X;rw[X];rcases g3 with⟨q,w⟩ |⟨q,w,h3⟩ |⟨q,w,v,h3,h4⟩
   ·rw[q,if_neg si];exact⟨λ_ _=>trivial,G undef κ' d w⟩
   ·rw[q,if_pos rfl];have hq:=h3 C d;rw[V,←hf.eval]at hq;generalize hrr:(execOp a.eval oi).run P (W C κ' d)=r at *;cases r with
    | halt x w'=>exact hq.elim
    | ok nx w'=>
     cases nx with
     | value v=>
      obtain⟨κ2,d2,rfl,f3,hS⟩:=hq;exact zme hrr (G v κ2 d2 hS)
     | enter f args=>
      obtain⟨κ2,d2,rfl,f3,g1⟩:=hq;refine zq0 hrr ?_;refine(g1 C d2).mono ?_;rintro e w2 ⟨v,κ3,d3,rfl,rfl,g9,hS⟩;exact G v κ3 d3 hS
     | _=>exact hq.elim
   ·rw[q,if_pos rfl];have hq:=h3 κ' (λ_=>Step.refl _ _) C d;rw[V,←hf.eval]at hq;exact zme hq (G v κ' d h4)
 intro C d a hf;rw[←hs];refine wpIn_region_any hm ?_;have hu:unl (Array.replicate ops.size false) k=k:=by
  unfold unl;rw[cj.2 (λi _=>by rw[getD_replicate_false];rfl)];simp
 have c6:(π.filter λi=>!(Array.replicate ops.size false).getD i false)=π:=by
  rw[cj];intro i _;rw[getD_replicate_false];rfl
 have hm':=e7 k (Array.replicate ops.size false) E κ C (d+1) a hf
  ⟨by simp,λj oj _ hl=>(by rw[getD_replicate_false]at hl;cases hl),λt _ ht=>getD_in (by simpa using ht) (getD_replicate_false _ _)⟩
  (λi j _ hl=>by rw[getD_replicate_false]at hl;cases hl) (by rw[c6];exact N) hu
 have hsz:k+(ops.size - k)=ops.size:=by omega
 rw[hsz]at hm';exact hm'
end
def xwp[Fc][Fb](P:Program)(n:Nat)(c:Code)(k:Nat)(nq:List Nat)(q0:Nat)(M:List Nat)(π:List Nat)(Q:zaY)(E:Env)(κ:K):Prop:=
 XC P c nq q0 M π E κ (λE' κ'=>owp P n c k Q E' κ')
def xsN(c:Code)(nq:List Nat)(i:Nat)(E:Env)(d:Nat):Bool:=zbR c i E&&nq.contains i&&Nat.beq (dstOf c i) d
def xsQ(c:Code)(nq:List Nat)(i:Nat)(E:Env)(d:Nat):Bool:=zbR c i E&&!nq.contains i&&Nat.beq (dstOf c i) d
def xsS(c:Code)(i:Nat)(E:Env)(d:Nat):Bool:=!zbR c i E&&Nat.beq (dstOf c i) d
section
variable [Fc] [Fb] {P:Program} {n:Nat} {c:Code} {i k:Nat} {nq:List Nat} {q0:Nat} {M:List Nat} {π:List Nat} {Q:zaY} {E:Env} {κ:K}
def cx_{c0:Code}{p:List Nat}(k:Nat)(π nq:List Nat)(q0:Nat)(M:List Nat)(hx:xwp P n (sub c0 p) k nq q0 M π Q E κ)(h:zcJ (sub c0 p)=some true:=by kernel_rfl)(hm:P.follows .mixedOrders=true:=by kernel_rfl)(hB:znP (sub c0 p) n k=true:=by kernel_rfl)(hchk:zCY (sub c0 p) k π nq q0=true:=by kernel_rfl):cwp P n (sub c0 p) Q E κ:=
 zDY k π nq q0 M hx h hm hB hchk
def xe(hk:owp P n c k Q E κ):xwp P n c k nq q0 M [] Q E κ:=hk
def zyL{d:Nat}(v:Value)(h:xsQ c nq i E d=true)(hr:∀κ',Step (zxs c q0 M i) κ κ'->∀C d0,(execOp (ev E) (zx c i)).run P (W C κ' d0)=.ok (.value v) (W C κ' d0))(hm:zuE c i=true)(hk:xwp P n c k nq q0 M π Q (upd E d v) κ):xwp P n c k nq q0 M (i::π) Q E κ:=by
 unfold xsQ at h;simp only[aw,ba]at h;obtain⟨⟨a,b⟩,e⟩:=h;have:=gj e;subst this;exact .inr (.inr ⟨a,b,v,λκ' hs C d=>hr κ' (hs hm) C d,hk⟩)
def xq(d:Nat)(v:Value)(hr:∀w,(execOp (ev E) (zx c i)).run P w=.ok (.value v) w)(hk:xwp P n c k nq q0 M π Q (upd E d v) κ)(h:xsQ c nq i E d=true:=by kernel_rfl):xwp P n c k nq q0 M (i::π) Q E κ:=by
 unfold xsQ at h;simp only[aw,ba]at h;obtain⟨⟨a,b⟩,e⟩:=h;have:=gj e;subst this;exact .inr (.inr ⟨a,b,v,λκ' hs C d=>hr _,hk⟩)
def xp(d:Nat)(v:Value)(hk:xwp P n c k nq q0 M π Q (upd E d v) κ)(h:xsQ c nq i E d=true:=by kernel_rfl)(hr:∀w,(execOp (ev E) (zx c i)).run P w=.ok (.value v) w:=by intro _;kernel_rfl):xwp P n c k nq q0 M (i::π) Q E κ:=xq d v hr hk h
def xs(d:Nat)(hk:xwp P n c k nq q0 M π Q (upd E d undef) κ)(h:xsS c i E d=true:=by kernel_rfl):xwp P n c k nq q0 M (i::π) Q E κ:=by
 unfold xsS at h;simp only[aw,ba]at h;have:=gj h.2;subst this;exact .inl ⟨h.1,hk⟩
def zxr{κ':K}(h:frB c q0 i=false)(hs:Step (zxs c q0 M i) κ κ'):Step [] κ κ':=by unfold zxs at hs;rw[h]at hs;exact hs
def zDt{κ':K}(hs:Step (zxs c q0 M i) κ κ'):Step M κ κ':=by
 unfold zxs at hs;cases hb:frB c q0 i with
 | false=>rw[hb]at hs;exact hs.nil
 | true=>rw[hb]at hs;exact hs
def x1f(d T:Nat)(v:Value){b off:Nat}{cs:List Value}(hv:At κ b off cs)(hn:b∉M)(o:Nat)(hj:cs[o]?=some v)(hk:xwp P n c k nq q0 M π Q (upd E d v) κ)(h:xsQ c nq i E d=true:=by kernel_rfl)(ho:execOp (ev E) (zx c i)=vOf (Instr.loadAt T (.pointer (some ⟨b,off+o,none⟩))):=by kernel_rfl)(hT:zeD P T=some false:=by kernel_rfl)(hm:zuE c i=true:=by kernel_rfl):xwp P n c k nq q0 M (i::π) Q E κ:=
 zyL v h (λκ' hs C a=>by rw[ho];exact zH (ziO hT ((hv.step (zDt hs) hn).one hj))) hm hk
def x1p(d T:Nat)(v:Value){b off:Nat}{cs:List Value}(hv:PubAt κ b off cs)(o:Nat)(hj:cs[o]?=some v)(hk:xwp P n c k nq q0 M π Q (upd E d v) κ)(h:xsQ c nq i E d=true:=by kernel_rfl)(ho:execOp (ev E) (zx c i)=vOf (Instr.loadAt T (.pointer (some ⟨b,off+o,none⟩))):=by kernel_rfl)(hT:zeD P T=some false:=by kernel_rfl)(hm:zuE c i=true:=by kernel_rfl):xwp P n c k nq q0 M (i::π) Q E κ:=
 zyL v h (λκ' hs C a=>by rw[ho];exact zH (ziO hT ((hv.step hs).at.one hj))) hm hk
def x1(d T:Nat)(v:Value){b off:Nat}{cs:List Value}(hv:At κ b off cs)(o:Nat)(hj:cs[o]?=some v)(hk:xwp P n c k nq q0 M π Q (upd E d v) κ)(h:xsQ c nq i E d=true:=by kernel_rfl)(ho:execOp (ev E) (zx c i)=vOf (Instr.loadAt T (.pointer (some ⟨b,off+o,none⟩))):=by kernel_rfl)(hT:zeD P T=some false:=by kernel_rfl)(hm:zuE c i=true:=by kernel_rfl)(hf:frB c q0 i=false:=by kernel_rfl):xwp P n c k nq q0 M (i::π) Q E κ:=
 zyL v h (λκ' hs C a=>by rw[ho];exact zH (ziO hT ((hv.step0 (zxr hf hs)).one hj))) hm hk
def xN(d T:Nat)(vs:List Value){b off:Nat}{cs:List Value}(hv:At κ b off cs)(o m:Nat)(hj:(cs.drop o).take m=vs)(hk:xwp P n c k nq q0 M π Q (upd E d (.agg vs.toArray)) κ)(h:xsQ c nq i E d=true:=by kernel_rfl)(ho:execOp (ev E) (zx c i)=vOf (Instr.loadAt T (.pointer (some ⟨b,off+o,none⟩))):=by kernel_rfl)(hT:zeD P T=some true:=by kernel_rfl)(hs:zM P T=some vs.length:=by kernel_rfl)(hm:zuE c i=true:=by kernel_rfl)(hf:frB c q0 i=false:=by kernel_rfl):xwp P n c k nq q0 M (i::π) Q E κ:=
 zyL _ h (λκ' a C e=>by rw[ho];exact zH (zjp hT hs (by have:=((hv.step0 (zxr hf a)).part o m).2;rw[hj]at this;exact this))) hm hk
def xi(d T el sz ln cp:Nat)(kd:IntKind)(ix:Int){b off:Nat}{a:Option Addr}(ea:a=some ⟨b,off,none⟩)(h0:0<=ix)(h1:ix<ln)(hk:xwp P n c k nq q0 M π Q (upd E d (.pointer (some ⟨b,off+ix.toNat*sz,none⟩))) κ)(h:xsQ c nq i E d=true:=by kernel_rfl)(ho:execOp (ev E) (zx c i)=vOf (Instr.indexAt T (.slice a ln cp) (.int kd ix)):=by kernel_rfl)(hT:zJ P T=some el:=by kernel_rfl)(hs:zM P el=some sz:=by kernel_rfl):xwp P n c k nq q0 M (i::π) Q E κ:=by
 subst ea;exact xq d _ (λw=>by rw[ho];exact zH (by rw[znk hT hs h0 h1,zgZ])) hk h
def zrw{d:Nat}(R:Value->K->Prop)(h:xsN c nq i E d=true)(hrel:∀v κ',R v κ'->zrV q0 M i κ κ')(hr:∀C b,∃v κ' d1,(execOp (ev E) (zx c i)).run P (W C κ b)=.ok (.value v) (W C κ' d1)/\R v κ')(hk:∀v κ',R v κ'->xwp P n c k nq q0 M π Q (upd E d v) κ'):xwp P n c k nq q0 M (i::π) Q E κ:=by
 unfold xsN at h;simp only[aw]at h;obtain⟨⟨g,f⟩,j⟩:=h;have:=gj j;subst this;refine .inr (.inl ⟨g,f,λC b=>?_⟩);obtain⟨v,κ',d1,a,e⟩:=hr C b;rw[a];exact⟨κ',d1,rfl,hrel _ _ e,hk _ _ e⟩
def zrU{κ κ':K}(h:Step [] κ κ'):zrV q0 M i κ κ':=by
 unfold zrV;cases Nat.beq i q0 with
 | false=>exact h
 | true=>exact h.nil
def xcl{f:FuncId}{args:Array Value}{R:Value->K->Prop}(d:Nat)(hf:Fn P f args κ R)(hk:∀v κ',R v κ'->Step [] κ κ'/\xwp P n c k nq q0 M π Q (upd E d v) κ')(h:xsN c nq i E d=true:=by kernel_rfl)(hr:∀w,(execOp (ev E) (zx c i)).run P w=.ok (.enter f args) w:=by intro _;kernel_rfl):xwp P n c k nq q0 M (i::π) Q E κ:=by
 unfold xsN at h;simp only[aw]at h;obtain⟨⟨g,e⟩,j⟩:=h;have:=gj j;subst this;refine .inr (.inl ⟨g,e,λC b=>?_⟩);rw[hr];exact⟨κ,b,rfl,zrU (Step.refl _ _),hf.mono λv κ' a=>⟨zrU (hk v κ' a).1,(hk v κ' a).2⟩⟩
variable {α:Type} {t:Ty α} {pub:Bool} {τ:Tag} {e T:TypeId} {a a2:Option Addr} {cp c2:Nat} {l l2 r:List α}
def zx5{d bytes:Nat}(h:xsN c nq i E d=true)(ho:execOp (ev E) (zx c i)=vOf (Builtin.append_ #[T,T] 0 #[.slice a l.length cp,.slice a2 l2.length c2]))(hg:Gr t pub τ κ e a cp l)(h2:Sl t κ a2 c2 l2)(hτ:τ.1<=κ.H.size)(hT:zj5 P T=some (e,t.size,t.size,bytes))(hx:app bytes l l2=some r)(hrel:zrV q0 M i=Step (blk a cp))(hk:∀a' c' κ',Step (blk a cp) κ κ'->Gr t pub τ κ' e a' c' r->(∀g∈blk a' c',g∈blk a cp\/κ.H.size<=g)->xwp P n c k nq q0 M π Q (upd E d (.slice a' r.length c')) κ'):xwp P n c k nq q0 M (i::π) Q E κ:=by
 obtain⟨s,w,m,u⟩:=ziV hT;obtain⟨x,hm,rfl⟩:=zm3 hx;refine zrw (λv κ'=>∃a' c',v=.slice a' (l++l2).length c'/\Step (blk a cp) κ κ'/\Gr t pub τ κ' e a' c' (l++l2)/\∀g∈blk a' c',g∈blk a cp\/κ.H.size<=g) h (λv κ' ⟨_,_,_,hs,_⟩=>by rw[hrel];exact hs) (λC j=>?_) ?_
 ·obtain⟨a',c',κ',p,q,hs,b,f⟩:=zq5 (P:=P) (T:=T) (ty:=0) hg h2 hτ s w m u x hm C j;exact⟨_,κ',p,by rw[ho];exact zH q,a',c',rfl,hs,b,f⟩
 ·rintro v κ' ⟨a',c',rfl,hs,b,f⟩;exact hk a' c' κ' hs b f
def ziW{d len:Nat}{parts:Array (Nat×Value)}{cs:List Value}(h:xsN c nq i E d=true)(ho:execOp (ev E) (zx c i)=vOf (Instr.buildSlice T len parts))(hi:zu6 P T len parts=some (e,t.size,cs))(hs:Nat.blt 0 t.size=true)(hτ:τ.1<=κ.H.size)(hl:l.length=len)(hr:Rep t κ cs l)(hm:Nat.ble len 1000000=true)(hk:∀a' κ',Step [] κ κ'->Gr t pub τ κ' e a' len l->xwp P n c k nq q0 M π Q (upd E d (.slice a' len len)) κ'):xwp P n c k nq q0 M (i::π) Q E κ:=by
 subst hl;have hm':=gk hm;refine zrw (λv κ'=>∃a',v=.slice a' l.length l.length/\Step [] κ κ'/\Gr t pub τ κ' e a' l.length l) h (λv κ' ⟨_,_,hs,_⟩=>zrU hs) (λC a=>?_) ?_
 ·exact⟨_,_,a,by rw[ho];exact zH (zAK hi (gk hs) C a (if pub=true then l.length*t.size else 0) τ),_,rfl,zcY _ _ _ _,zwB hr om hτ⟩
 ·rintro v κ' ⟨a',rfl,hs,b⟩;exact hk a' κ' hs b
def zwO{d bytes:Nat}{k1 k2:IntKind}{m:Int}{zs:List Value}{z:α}(h:xsN c nq i E d=true)(ho:execOp (ev E) (zx c i)=vOf (Instr.makeSlice T (.int k1 m) (.int k2 m)))(hT:zj5 P T=some (e,t.size,t.size,bytes))(hz:(zfc P e).map Value.cells=some zs.toArray)(hzo:t.own κ zs z)(hx:mkl bytes m z=some r)(hτ:τ.1<=κ.H.size)(hk:∀a' κ',Step [] κ κ'->Gr t pub τ κ' e a' r.length r->xwp P n c k nq q0 M π Q (upd E d (.slice a' r.length r.length)) κ'):xwp P n c k nq q0 M (i::π) Q E κ:=by
 refine zrw (λv κ'=>∃a',v=.slice a' r.length r.length/\Step [] κ κ'/\Gr t pub τ κ' e a' r.length r) h (λv κ' ⟨_,_,hs,_⟩=>zrU hs) (λC b=>?_) ?_
 ·obtain⟨a',κ',f,hs,a⟩:=zAG (P:=P) (T:=T) (pub:=pub) (k1:=k1) (k2:=k2) hT hz hzo hx hτ C b;exact⟨_,κ',b,by rw[ho];exact zH f,a',rfl,hs,a⟩
 ·rintro v κ' ⟨a',rfl,hs,a⟩;exact hk a' κ' hs a
def xsp{β:Type}{A B o:Option β}(d:Nat)(b:Bool)(hr:(if b=true then A else B)=o)(hf:b=false->B=o->xwp P n c k nq q0 M π Q (upd E d (.bool false)) κ)(ht:b=true->A=o->xwp P n c k nq q0 M π Q (upd E d (.bool true)) κ)(h:xsQ c nq i E d=true:=by kernel_rfl)(hx:∀w,(execOp (ev E) (zx c i)).run P w=.ok (.value (.bool b)) w:=by intro _;kernel_rfl):xwp P n c k nq q0 M (i::π) Q E κ:=by
 cases b with
 | false=>exact xq d _ hx (hf rfl (zCp rfl hr)) h
 | true=>exact xq d _ hx (ht rfl (zCo rfl hr)) h
end
def zaI(s t:List UInt8):Option (List UInt8):=if s.length+t.length<=9223372036854775807 then some (s++t)else none
def zvC{s t r:List UInt8}(h:zaI s t=some r):s.length+t.length<=9223372036854775807/\r=s++t:=by
 unfold zaI at h;split at h
 ·rename_i h0;exact⟨h0,(Option.some.inj h).symm⟩
 ·cases h
def zbr{s t r:List UInt8}(h:zaI s t=some r):r.length<=9223372036854775807:=by
 obtain⟨a,rfl⟩:=zvC h;rw[dy];exact a
section
variable {P:Program} {E:Env} {c:Code} {i:Nat} {s t r:List UInt8} {w:World} {κ:K}
def zw(h:execOp (ev E) (zx c i)=vOf (do eqGuard .add 0 (.tmp 0) (.tmp 0) (zr s) (zr t);binOp .add 0 (zr s) (zr t)))(hx:zaI s t=some r):
  (execOp (ev E) (zx c i)).run P w=.ok (.value (zr r)) w:=by
 obtain⟨a,rfl⟩:=zvC hx;rw[h];refine zH ?_;have d:binOp .add 0 (zr s) (zr t)=Op.stringOp .add ⟨s.toArray⟩ ⟨t.toArray⟩:=rfl;rw[bd,d];have b:(eqGuard .add 0 (.tmp 0) (.tmp 0) (zr s) (zr t)).run P w=.ok () w:=by simp[eqGuard,zr]
 rw[b];simp only[bc];rw[run_string_add_sum w _ _ (by simpa[ByteArray.size]using a),ByteArray.mk_append_mk];rfl
def zV(l:List Int):List UInt8:=l.map λn=>UInt8.ofNat n.toNat
def zwT(l:List Int):(zV l).length=l.length:=by simp[zV]
def zyv(l:List Int):∀r:ByteArray,l.foldl (λr n=>r.push (UInt8.ofNat n.toNat)) r=⟨r.data++(zV l).toArray⟩:=by
 induction l with
 | nil=>intro r;simp[zV]
 | cons n l ih=>
  intro r;rw[co,ih];simp[zV,ByteArray.push]
def zwf{src dst e:TypeId}{a:Option Addr}{cp:Nat}{l:List Int}(hs:zJ P src=some e)(he:P.underlying e=some (.int .u8))(hd:P.underlying dst=some .string)(h:Sl tU8 κ a cp l)[Fb](C:Cx)(d:Nat):
  (convert src dst (.slice a l.length cp)).run P (W C κ d)=.ok (zr (zV l)) (W C κ d):=by
 rw[run_convert_bytes_string _ src dst e a l.length cp (zgG hs) he hd];cases a with
 | none=>
  have:l=[]:=by
   cases l with
   | nil=>rfl
   | cons x l=>obtain⟨b,off,c,_⟩:=h.elems si;cases c
  subst this;rfl
 | some ad=>
  have q:(loadCells ad l.length).run P (W C κ d)=.ok (l.map (Value.int .u8)).toArray (W C κ d):=by
   have:=run_loadCells_list (P:=P) (W C κ d) ad (l.map (Value.int .u8)) (λj v g=>?_)
   ·rw[ef]at this;exact this
   ·rw[dh]at g;obtain⟨n,i,rfl⟩:=ig.1 g;have k:=(dg.1 i).1;obtain⟨b,off,c,f⟩:=h.elems om;obtain⟨cs,hp,m,_⟩:=f j n i;injection c with c
    subst c;rw[zgZ,zkz];subst m;have:=hp.2.2 0 _ rfl;have p:tU8.size=1:=rfl;rw[p,Nat.mul_one,Nat.add_zero]at this;exact this
  rw[run_bytesToString _ ad l.length cp l q,zyv];unfold zr;have:ByteArray.empty.data=#[]:=rfl;rw[this];simp
def Gr.blen{pub:Bool}{τ:Tag}{e:TypeId}{a:Option Addr}{cp:Nat}{l:List Int}(h:Gr tU8 pub τ κ e a cp l):(zV l).length<=9223372036854775807:=by rw[zwT];exact zr3 h.most
end
section
variable [Fc] [Fb] {P:Program} {n:Nat} {c:Code} {i k:Nat} {nq:List Nat} {q0:Nat} {M:List Nat} {π:List Nat} {Q:zaY} {E:Env} {κ:K}
def obs(d src dst e:Nat){a:Option Addr}{cp:Nat}{l:List Int}(hf:Sl tU8 κ a cp l)(hk:owp P n c (i+1) Q (upd E d (zr (zV l))) κ)(h:st c i n E (some d)=true:=by kernel_rfl)(ho:execOp (ev E) (zx c i)=vOf (convert src dst (.slice a l.length cp)):=by kernel_rfl)(hs:zJ P src=some e:=by kernel_rfl)(he:P.underlying e=some (.int .u8):=by kernel_rfl)(hd:P.underlying dst=some .string:=by kernel_rfl):owp P n c i Q E κ:=
 zie _ h (λC b=>by rw[ho];exact zH (zwf hs he hd hf C b)) hk
end
structure Own(τ:Tag)(κ:K)(b:Nat):Prop where
 lt:b<κ.H.size
 fr:κ.fr b=0
 tag:κ.tag b=τ
 ge:τ.1<=b
def Box.o{τ:Tag}{κ:K}{b:Nat}{cs:List Value}{T:TypeId}(h:Box τ κ b cs T):Own τ κ b:=⟨h.lt,h.fr,h.tag,h.ge⟩
def Own.ne{τ τ':Tag}{κ:K}{b b':Nat}(h:Own τ κ b)(h':Own τ' κ b')(hn:τ≠τ'):b≠b':=λe=>by
 subst e;exact hn (h.tag.symm.trans h'.tag)
def Own.tlt{τ:Tag}{κ:K}{b:Nat}(h:Own τ κ b):τ.1<κ.H.size:=Nat.lt_of_le_of_lt h.ge h.lt
section
variable {α:Type} {t:Ty α} {pub:Bool} {τ τ':Tag} {κ:K} {e:TypeId} {a:Option Addr} {c:Nat} {l:List α} {b:Nat}
def Gr.nbo(h:Gr t pub τ κ e a c l)(h':Own τ' κ b)(hn:τ≠τ'):∀g∈blk a c,g∉[b]:=λg d hm=>by
 have f:g=b:=by simpa using hm
 subst f;exact hn ((h.lt g d).2.1.symm.trans h'.tag)
def Gr.bno(h:Gr t pub τ κ e a c l)(h':Own τ' κ b)(hn:τ'≠τ):b∉blk a c:=λd=>hn (h'.tag.symm.trans (h.lt b d).2.1)
end
structure KT(α:Type) where
 enc:α->Value
 inj:∀{x y},enc x=enc y->x=y
def zwu:KT (List UInt8):=⟨zr,λ{x y} h=>by unfold zr at h;injection h with h;injection h with h;injection h⟩
def zuO:KT Int:=⟨λn=>.int .i64 n,λ{x y} h=>by injection h⟩
def kPt:KT (Int×Int):=⟨λp=>.agg #[.int .i64 p.1,.int .i64 p.2],λ{x y} h=>by
 injection h with h;injection h with h;injection h with h1 h2;injection h2 with h2 _;injection h1 with _ h1;injection h2 with _ h2;exact Prod.ext h1 h2⟩
structure KeyOk{α:Type}(P:Program)(kd:TypeId)(kt:KT α):Prop where
 check:∀em w x,(Instr.checkKey em 10000 kd (kt.enc x)).run P w=.ok () w
 find:∀x (es:List MapEntry) w,(∀e∈es,∃y,e.key=kt.enc y)->
  ((∀e∈es,e.key≠kt.enc x)/\(Instr.findKey kd (kt.enc x) es).run P w=.ok none w) \/
  ∃(j:Nat)(e:MapEntry),es[j]?=some e/\e.key=kt.enc x/\(Instr.findKey kd (kt.enc x) es).run P w=.ok (some (j,e.val)) w
 stays:∀w x,(Instr.keyThatStays (kt.enc x) (kt.enc x)).run P w=.ok (kt.enc x) w
def zxG{α:Type}{P:Program}{kd:TypeId}{kt:KT α}{d:TypeDesc}(hd:P.underlying kd=some d)(hk:∀x,Go.MapKept.IsKey d (kt.enc x)):KeyOk P kd kt where
 check:=λem w x=>Go.MapKept.run_checkKey hd (hk x) em 9999
 find:=λx es w he=>by
  rcases Go.MapKept.findNow_spec (hk x) es 0 (λe h=>by obtain⟨y,hy⟩:=he e h;rw[hy];exact hk y)with⟨h1,h2⟩ |⟨j,e,h1,h2,h3⟩
  ·exact .inl ⟨h2,Go.MapKept.run_findKey hd h1⟩
  ·exact .inr ⟨j,e,h2,h3,by simpa using Go.MapKept.run_findKey (P:=P) (w:=w) hd h1⟩
 stays:=λw x=>Go.MapKept.run_keyThatStays (hk x)
def zs6{P:Program}{kd:TypeId}(hd:P.underlying kd=some .string):KeyOk P kd zwu:=zxG hd λ_=>trivial
def zs7{P:Program}{kd:TypeId}(hd:P.underlying kd=some (.int .i64)):KeyOk P kd zuO:=zxG hd λ_=>rfl
def zBg{P:Program}{kd:TypeId}(hc:∀B w x y,(Instr.checkKey B 10000 kd (.agg #[.int .i64 x,.int .i64 y])).run P w=.ok () w)(hu:∃d,P.underlying kd=some d/\∀a b k c j,b.size=2->Instr.findNow d (.agg a) (({key:=.agg b,val:=k,born:=j}:MapEntry)::c) 0=none)(hq:∀w x y z t,(Op.equal kd (.agg #[.int .i64 x,.int .i64 y]) (.agg #[.int .i64 z,.int .i64 t])).run P w=.ok (decide (x=z)&&decide (y=t)) w):KeyOk P kd kPt where
 check:=λB w x=>hc B w x.1 x.2
 find:=λx c w u=>by
  obtain⟨d,hd,A⟩:=hu;have C:∀(c:List MapEntry)(i:Nat),(∀e∈c,∃y,e.key=kPt.enc y)->
    ((∀e∈c,e.key≠kPt.enc x)/\(Instr.findAsking kd (kPt.enc x) c i).run P w=.ok none w) \/
    ∃(j:Nat)(e:MapEntry),c[j]?=some e/\e.key=kPt.enc x/\(Instr.findAsking kd (kPt.enc x) c i).run P w=.ok (some (i+j,e.val)) w:=by
   intro c
   induction c with
   | nil=>intro i _;exact .inl ⟨by simp,rfl⟩
   | cons e c ih=>
    intro i h;obtain⟨y,p⟩:=h e (.head _);have r:(Op.equal kd (kPt.enc x) e.key).run P w=.ok (decide (x.1=y.1)&&decide (x.2=y.2)) w:=by rw[p];exact hq w _ _ _ _
    by_cases g:x=y
    ·subst g;refine .inr ⟨0,e,rfl,p,?_⟩;unfold Instr.findAsking;simp only[bd,r,Result.andThen];simp
    ·have E:(decide (x.1=y.1)&&decide (x.2=y.2))=false:=by
      rw[Bool.and_eq_false_iff];by_cases D:x.1=y.1
      ·right;exact decide_eq_false λr=>g (Prod.ext D r)
      ·left;exact decide_eq_false D
     rw[E]at r;have f:(Instr.findAsking kd (kPt.enc x) (e::c) i).run P w=(Instr.findAsking kd (kPt.enc x) c (i+1)).run P w:=by
      conv=>lhs;unfold Instr.findAsking
      simp only[bd,r,Result.andThen];simp
     rcases ih (i+1) (λe u=>h e (.tail _ u))with⟨m,l⟩ |⟨j,s,m,l,h5⟩
     ·refine .inl ⟨λs n=>?_,f.trans l⟩;cases n with
      | head=>rw[p];exact λq=>g (kPt.inj q).symm
      | tail _ n=>exact m s n
     ·refine .inr ⟨j+1,s,by simpa using m,l,?_⟩;rw[f,h5];congr 3;omega
  cases c with
  | nil=>exact .inl ⟨by simp,by unfold Instr.findKey;simp[zG hd,Instr.findNow]⟩
  | cons e c=>
   obtain⟨y,p⟩:=u e (.head _);have F:Instr.findNow d (kPt.enc x) (e::c) 0=none:=by
    obtain⟨k,v,b⟩:=e;simp only at p;subst p;exact A _ _ _ _ _ rfl
   have f:(Instr.findKey kd (kPt.enc x) (e::c)).run P w=(Instr.findAsking kd (kPt.enc x) (e::c) 0).run P w:=by
    conv=>lhs;unfold Instr.findKey
    simp only[bd,zG hd,Result.andThen,F]
   rcases C (e::c) 0 u with⟨m,l⟩ |⟨j,s,m,l,h5⟩
   ·exact .inl ⟨m,f.trans l⟩
   ·exact .inr ⟨j,s,m,l,by rw[f,h5];simp⟩
 stays:=λw x=>by
  have h:Instr.sameBits 10000 (kPt.enc x) (kPt.enc x)=true:=by simp[kPt,Instr.sameBits]
  unfold Instr.keyThatStays;simp[h]
def zdw{α β:Type}[DecidableEq α](m:List (α×β))(k:α):Option β:=(m.find? (λp=>decide (p.1=k))).map (·.2)
def zhK{α β:Type}[DecidableEq α](m:List (α×β))(k:α):Bool:=m.any (λp=>decide (p.1=k))
def zbX{α β:Type}[DecidableEq α](m:List (α×β))(k:α)(v:β):List (α×β):=
 if zhK m k=true then m.map (λp=>if p.1=k then(k,v)else p)else m++[(k,v)]
structure Mp{α β:Type}(kt:KT α)(t:Ty β)(τ:Tag)(κ:K)(b:Nat)(m:List (α×β)):Prop where
 obj:∃(es:Array MapEntry)(clock:Nat),κ.H[b]?=some (.map es clock)/\es.size=m.length/\(∀(i:Nat)(p:α×β),m[i]?=some p->∃e,es[i]?=some e/\e.key=kt.enc p.1/\t.own κ [e.val] p.2)
  /\ (es.toList.map (·.born)).Pairwise (· < ·)/\∀e∈es.toList,e.born<clock
 nd:m.Pairwise (λp q=>p.1≠q.1)
 fr:κ.fr b=0
 tag:κ.tag b=τ
 ge:τ.1<=b
section
variable {α β:Type} {kt:KT α} {t:Ty β} {τ:Tag} {κ κ':K} {b:Nat} {m:List (α×β)}
def Mp.lt(h:Mp kt t τ κ b m):b<κ.H.size:=by
 obtain⟨c,d,a,_⟩:=h.obj;exact(ai.1 a).1
def Mp.o(h:Mp kt t τ κ b m):Own τ κ b:=⟨h.lt,h.fr,h.tag,h.ge⟩
def Mp.step{M:List Nat}(s:Step M κ κ')(hm:b∉M)(h:Mp kt t τ κ b m):Mp kt t τ κ' b m:=by
 obtain⟨l,a,k,g,n,j⟩:=h.obj;refine⟨⟨l,a,(s.2.1 b h.lt hm).1.trans k,g,λi p hp=>?_,j⟩,h.nd,(s.2.1 b h.lt hm).2.1.trans h.fr,(s.2.1 b h.lt hm).2.2.trans h.tag,h.ge⟩;obtain⟨e,f,c,d⟩:=n i p hp;exact⟨e,f,c,t.step s d⟩
def Mp.step0(s:Step [] κ κ')(h:Mp kt t τ κ b m):Mp kt t τ κ' b m:=h.step s si
def zCg(κ:K)(τ:Tag)(h:τ.1<=κ.H.size):Mp kt t τ (κ.push (.map #[] 0) 0 τ) κ.H.size ([]:List (α×β)):=
 ⟨⟨#[],0,by simp[K.push],rfl,λi p hp=>by simp at hp,by simp,by simp⟩,List.Pairwise.nil,by simp[K.push],by simp[K.push],h⟩
variable [DecidableEq α]
def zzJ(x:α)(h:∀p∈m,p.1≠x):zdw m x=none/\zhK m x=false:=by
 unfold zdw zhK;constructor
 ·rw[List.find?_eq_none.2 (λp hp=>by simpa using h p hp)];rfl
 ·rw[List.any_eq_false];intro p hp;simpa using h p hp
def zy1(hnd:m.Pairwise (λp q=>p.1≠q.1)){j:Nat}{p:α×β}(hj:m[j]?=some p):zdw m p.1=some p.2/\zhK m p.1=true:=by
 constructor
 ·induction m generalizing j with
  | nil=>simp at hj
  | cons q m ih=>
   obtain⟨b,c⟩:=fv.1 hnd;cases j with
   | zero=>simp at hj;subst hj;simp[zdw]
   | succ j=>
    simp at hj;have a:q.1≠p.1:=b p (fo hj);have:=ih c hj;unfold zdw at this ⊢;rw[List.find?_cons];simp[a];simpa using this
 ·unfold zhK;rw[bj];exact⟨p,fo hj,by simp⟩
omit [DecidableEq α]
def zvv{κ:K}{v:Value}{x:Bool}(h:zvw.own κ [v] x):v=.bool x:=by injection h
def zrA{κ:K}{v:Value}{x:Int}(h:tI64.own κ [v] x):v=.int .i64 x/\I64 x:=⟨by have:=h.1;injection this,h.2⟩
def zv9{γ:Type}{t:Ty γ}{κ:K}{v:Value}{x:List γ}(h:(tSl t).own κ [v] x):∃a c,v=.slice a x.length c/\Sl t κ a c x:=by
 obtain⟨a,c,b,d⟩:=h;exact⟨a,c,by injection b,d⟩
variable [DecidableEq α]
def zgk(P:Program)(T:TypeId):Option (TypeId×TypeId):=
 match P.underlying T with
 | some (.map k e)=>some (k,e)
 | _=>none
def zcK{P:Program}{T k e:TypeId}(h:zgk P T=some (k,e)):P.underlying T=some (.map k e):=by
 unfold zgk at h;split at h
 ·rename_i h0;injection h with h;injection h with h1 h2;subst h1;subst h2;exact h0
 ·cases h
def zt2{P:Program}{kd:TypeId}(h:Mp kt t τ κ b m)(hk:KeyOk P kd kt)(x:α){es:Array MapEntry}{cl:Nat}(hb:κ.H[b]?=some (.map es cl))(w:World):
  (zdw m x=none/\zhK m x=false/\(Instr.findKey kd (kt.enc x) es.toList).run P w=.ok none w) \/
  ∃j e y,m[j]?=some (x,y)/\zdw m x=some y/\zhK m x=true/\es[j]?=some e/\e.key=kt.enc x/\t.own κ [e.val] y/\(Instr.findKey kd (kt.enc x) es.toList).run P w=.ok (some (j,e.val)) w:=by
 obtain⟨D,E,k,A,z,_⟩:=h.obj;rw[hb]at k;injection k with k
 injection k with k _
 subst k;have s:∀e∈es.toList,∃p,p∈m/\e.key=kt.enc p.1:=by
  intro e l;obtain⟨i,hi⟩:=dj l;rw[au]at hi;have c:i<m.length:=by rw[←A];exact(ai.1 hi).1
  obtain⟨C,d,u,_⟩:=z i m[i] (by simp[c]);rw[hi]at d;injection d with d
  subst d;exact⟨m[i],dx c,u⟩
 rcases hk.find x es.toList w (λe l=>by obtain⟨p,_,hp⟩:=s e l;exact⟨_,hp⟩)with⟨h5,h4⟩ |⟨j,e,h5,h6,h4⟩
 ·have r:∀p∈m,p.1≠x:=by
   intro p hp l;obtain⟨i,hi⟩:=dj hp;obtain⟨e,a,g,_⟩:=z i p hi;refine h5 e ?_ (by rw[g,l]);rw[←au]at a;exact fo a
  obtain⟨q,n⟩:=zzJ x r;exact .inl ⟨q,n,h4⟩
 ·rw[au]at h5;have c:j<m.length:=by rw[←A];exact(ai.1 h5).1
  have f:m[j]?=some m[j]:=by simp[c]
  obtain⟨C,a,g,v⟩:=z j m[j] f;rw[h5]at a;injection a with a
  subst a;have B:m[j].1=x:=kt.inj (g.symm.trans h6);obtain⟨q,n⟩:=zy1 h.nd f;rw[B]at q n;exact .inr ⟨j,e,m[j].2,by rw[f,←B],q,n,h5,h6,v,h4⟩
def zv1[Fb](C:Cx)(κ:K)(d b:Nat){es:Array MapEntry}{cl:Nat}(h:κ.H[b]?=some (.map es cl))(P:Program):(getObj b).run P (W C κ d)=.ok (.map es cl) (W C κ d):=
 Go.MapKept.run_getObj_map h
def zsE[Fb](C:Cx)(κ:K)(d b:Nat){es:Array MapEntry}{cl:Nat}(o:Obj)(h:κ.H[b]?=some (.map es cl))(P:Program):(setObj b o).run P (W C κ d)=.ok () (W C (κ.setO b o) d):=
 Go.MapKept.run_setObj_map o h
def zpQ{P:Program}{T kd e:TypeId}{z:Value}{y0:β}{x:α}(h:Mp kt t τ κ b m)(hT:zgk P T=some (kd,e))(hk:KeyOk P kd kt)(hz:zfc P e=some z)(hzo:t.own κ [z] y0)[Fb](C:Cx)(d:Nat):
  ∃v,t.own κ [v] ((zdw m x).getD y0)/\(Instr.lookup T (.map (some b)) (kt.enc x) false).run P (W C κ d)=.ok v (W C κ d)/\
   (Instr.lookup T (.map (some b)) (kt.enc x) true).run P (W C κ d)=.ok (.tuple #[v,.bool (zhK m x)]) (W C κ d):=by
 obtain⟨l,k,g,_⟩:=h.obj;have a:=zv1 C κ d b g P;rcases zt2 h hk x g (W C κ d)with⟨f,c,i⟩ |⟨j,en,y,g0,f,c,i,g4,g5,g6⟩
 ·refine⟨z,by rw[f];exact hzo,?_,?_⟩ <;>
  ·unfold Instr.lookup;simp[zG (zcK hT),a,hk.check,i,zh2 hz,c]
 ·refine⟨en.val,by rw[f];exact g5,?_,?_⟩ <;>
  ·unfold Instr.lookup;simp[zG (zcK hT),a,hk.check,g6,c]
def zwo{x:α}{y:β}(h:zhK m x=true):(zbX m x y).length=m.length:=by unfold zbX;rw[if_pos h,ef]
def zCf(hnd:m.Pairwise (λp q=>p.1≠q.1))(x:α)(y:β):(zbX m x y).Pairwise (λp q=>p.1≠q.1):=by
 unfold zbX;split
 ·rw[List.pairwise_map];refine hnd.imp ?_;intro p q c;by_cases a:p.1=x<;>by_cases b:q.1=x
  ·exact absurd (a.trans b.symm) c
  ·rw[if_pos a,if_neg b];exact λe=>b e.symm
  ·rw[if_neg a,if_pos b];exact a
  ·rw[if_neg a,if_neg b];exact c
 ·rename_i h;rw[List.pairwise_append];refine⟨hnd,by simp,λp hp q d=>?_⟩;have:q=(x,y):=by simpa using d
  subst this;intro e;apply h;unfold zhK;rw[bj];exact⟨p,hp,by simpa using e⟩
def zAF{P:Program}{T kd e:TypeId}{x:α}{v:Value}{y:β}(h:Mp kt t τ κ b m)(hT:zgk P T=some (kd,e))(hk:KeyOk P kd kt)(hv:t.own κ [v] y)[Fb](C:Cx)(d:Nat):
  ∃κ',(Instr.mapUpdate T (.map (some b)) (kt.enc x) v).run P (W C κ d)=.ok () (W C κ' d)/\Step [b] κ κ'/\κ.H.size=κ'.H.size/\Mp kt t τ κ' b (zbX m x y):=by
 obtain⟨w,B,L,hsz,I,J,r⟩:=h.obj;have H:=zv1 C κ d b L P;have S:∀(c:Array MapEntry)(f:Nat),c.size=(zbX m x y).length->(∀κ':K,Step [b] κ κ'->∀(i:Nat)(p:α×β),(zbX m x y)[i]?=some p->∃e,c[i]?=some e/\e.key=kt.enc p.1/\t.own κ' [e.val] p.2)->((c.toList.map (·.born)).Pairwise (· < ·)/\∀e∈c.toList,e.born<f)->
   Step [b] κ (κ.setO b (.map c f))/\κ.H.size=(κ.setO b (.map c f)).H.size/\Mp kt t τ (κ.setO b (.map c f)) b (zbX m x y):=by
  intro c f A z h3;have F:Step [b] κ (κ.setO b (.map c f)):=zl9 h.fr;exact⟨F,by simp[K.setO],⟨c,f,by simp[K.setO,h.lt],A,z _ F,h3⟩,zCf h.nd x y,h.fr,h.tag,h.ge⟩
 rcases zt2 h hk x L (W C κ d)with⟨g1,G,E⟩ |⟨j,en,y',g0,g1,G,E,g4,g5,g6⟩
 ·refine⟨κ.setO b (.map (w.push {key:=kt.enc x,val:=v,born:=B}) (B+1)),?_,S _ _ ?_ ?_ ?_⟩
  ·unfold Instr.mapUpdate;simp[zG (zcK hT),H,hk.check,E,zsE C κ d b _ L P]
  ·unfold zbX;rw[if_neg (by rw[G];simp),Array.size_push,hsz,dy];rfl
  ·intro κ' hs i p hp;unfold zbX at hp;rw[if_neg (by rw[G];simp)]at hp;by_cases hi:i<m.length
   ·rw[cq hi]at hp;obtain⟨e,g,u,O⟩:=I i p hp;exact⟨e,by rw[Array.getElem?_push];rw[if_neg om];exact g,u,t.step hs O⟩
   ·rw[cv om]at hp;have R:i - m.length=0:=by
     have:=(dg.1 hp).1;simp at this;omega
    rw[R]at hp;simp at hp;subst hp;refine⟨{key:=kt.enc x,val:=v,born:=B},?_,rfl,t.step hs hv⟩;rw[Array.getElem?_push,if_pos om]
  ·constructor
   ·rw[Array.toList_push,fa,List.pairwise_append];refine⟨J,by simp,λa ha Z Q=>?_⟩;obtain⟨e,g,rfl⟩:=fj.1 ha;have:Z=B:=by simpa using Q
    rw[this];exact r e g
   ·intro e g;rw[Array.toList_push,fe]at g;rcases g with g | g
    ·exact Nat.lt_succ_of_lt (r e g)
    ·have:e={key:=kt.enc x,val:=v,born:=B}:=by simpa using g
     rw[this];exact Nat.lt_succ_self _
 ·have Y:j<w.size:=(ai.1 E).1;refine⟨κ.setO b (.map (w.modify j λe=>{e with key:=kt.enc x,val:=v}) B),?_,S _ _ ?_ ?_ ?_⟩
  ·unfold Instr.mapUpdate;simp[zG (zcK hT),H,hk.check,g6,E,g4,hk.stays,zsE C κ d b _ L P]
  ·rw[zwo G];simpa using hsz
  ·intro κ' hs i p hp;unfold zbX at hp;rw[if_pos G,dh]at hp;obtain⟨q,s,l⟩:=ig.1 hp;obtain⟨e,g,u,O⟩:=I i q s;by_cases k:j=i
   ·subst k;rw[g0]at s;injection s with s
    subst s;rw[if_pos rfl]at l;subst l;refine⟨{en with key:=kt.enc x,val:=v},?_,rfl,t.step hs hv⟩;rw[aj,if_pos rfl,E];rfl
   ·have M:q.1≠x:=λV=>by
     have A:=(dg.1 s).1;have z:=(dg.1 g0).1;have D:=fx.1 h.nd;have X:=(dg.1 s).2;have U:=(dg.1 g0).2;rcases gu k with hlt' | hlt'
     ·have:=D j i z A hlt';rw[X,U]at this;exact this V.symm
     ·have:=D i j A z hlt';rw[X,U]at this;exact this V
    rw[if_neg M]at l;subst l;exact⟨e,by rw[aj,if_neg k];exact g,u,t.step hs O⟩
  ·have n:(w.modify j λe=>{e with key:=kt.enc x,val:=v}).toList.map (·.born)=w.toList.map (·.born):=by
    apply ca;intro i;rw[dh,dh,au,au,aj];by_cases k:j=i
    ·rw[if_pos k];cases w[i]?<;>rfl
    ·rw[if_neg k]
   refine⟨by rw[n];exact J,λe g=>?_⟩;have A:e.born∈w.toList.map (·.born):=by rw[←n];exact fj.2 ⟨e,g,rfl⟩
   obtain⟨e',N,z⟩:=fj.1 A;rw[←z];exact r e' N
end
section
variable [Fc] [Fb] {P:Program} {n:Nat} {c:Code} {i k:Nat} {Q:zaY} {E:Env} {κ:K} {α β:Type} {t:Ty β} {τ:Tag} {b:Nat} {m:List (α×β)} {nq:List Nat} {q0:Nat} {M:List Nat} {π:List Nat}
def zA0(R:K->Prop)(h:st c i n E none=true)(hr:∀C b,∃κ' d1,(execOp (ev E) (zx c i)).run P (W C κ b)=.ok .skip (W C κ' d1)/\R κ')(hk:∀κ',R κ'->owp P n c (i+1) Q E κ'):owp P n c i Q E κ:=by
 refine znn h (λC b a d=>?_);obtain⟨κ',d1,f,e⟩:=hr C b;obtain⟨_,_,g,_⟩:=zh8 h;refine zwP (by rw[d.eval];exact f) ?_;rw[g];exact hk κ' e C d1 _ d
def omk{d T:Nat}(kt:KT α)(t:Ty β)(τ:Tag)(hτ:τ.1<=κ.H.size)(hk:∀b κ',Step [] κ κ'->Mp kt t τ κ' b ([]:List (α×β))->owp P n c (i+1) Q (upd E d (.map (some b))) κ')(h:st c i n E (some d)=true:=by kernel_rfl)(ho:execOp (ev E) (zx c i)=vOf (Instr.makeMap T none):=by kernel_rfl):owp P n c i Q E κ:=by
 refine zgj (λv κ'=>∃b,v=.map (some b)/\Step [] κ κ'/\Mp kt t τ κ' b ([]:List (α×β))) h (λC a=>?_) ?_
 ·exact⟨_,κ.push (.map #[] 0) 0 τ,a,by rw[ho];exact zH rfl,κ.H.size,rfl,zcY _ _ _ _,zCg _ _ hτ⟩
 ·rintro v κ' ⟨b,rfl,hs,hm⟩;exact hk b κ' hs hm
variable [DecidableEq α]
def olk(kt:KT α){d T kd e:Nat}{x:α}{y0:β}(z:Value)(hm:Mp kt t τ κ b m)(hzo:t.own κ [z] y0)(hk:∀v,t.own κ [v] ((zdw m x).getD y0)->owp P n c (i+1) Q (upd E d v) κ)(hT:zgk P T=some (kd,e):=by kernel_rfl)(h:st c i n E (some d)=true:=by kernel_rfl)(ho:execOp (ev E) (zx c i)=vOf (Instr.lookup T (.map (some b)) (kt.enc x) false):=by kernel_rfl)(hkd:KeyOk P kd kt:=by first | exact zs7 (by kernel_rfl) | exact zs6 (by kernel_rfl))(hz:zfc P e=some z:=by kernel_rfl):owp P n c i Q E κ:=by
 refine zgj (λv κ'=>κ=κ'/\t.own κ [v] ((zdw m x).getD y0)) h (λC f=>?_) ?_
 ·obtain⟨v,a,g,_⟩:=zpQ hm hT hkd hz hzo (x:=x) C f;exact⟨v,κ,f,by rw[ho];exact zH g,rfl,a⟩
 ·rintro v κ' ⟨rfl,a⟩;exact hk v a
def zEa(kt:KT α){d T kd e:Nat}{x:α}{y0:β}(z:Value)(hm:Mp kt t τ κ b m)(hzo:t.own κ [z] y0)(hk:∀v,t.own κ [v] ((zdw m x).getD y0)->owp P n c (i+1) Q (upd E d (.tuple #[v,.bool (zhK m x)])) κ)(hT:zgk P T=some (kd,e):=by kernel_rfl)(h:st c i n E (some d)=true:=by kernel_rfl)(ho:execOp (ev E) (zx c i)=vOf (Instr.lookup T (.map (some b)) (kt.enc x) true):=by kernel_rfl)(hkd:KeyOk P kd kt:=by first | exact zs7 (by kernel_rfl) | exact zs6 (by kernel_rfl))(hz:zfc P e=some z:=by kernel_rfl):owp P n c i Q E κ:=by
 refine zgj (λf κ'=>κ=κ'/\∃v,f=.tuple #[v,.bool (zhK m x)]/\t.own κ [v] ((zdw m x).getD y0)) h (λC g=>?_) ?_
 ·obtain⟨v,a,_,j⟩:=zpQ hm hT hkd hz hzo (x:=x) C g;exact⟨_,κ,g,by rw[ho];exact zH j,rfl,v,rfl,a⟩
 ·rintro f κ' ⟨rfl,v,rfl,a⟩;exact hk v a
def omp(kt:KT α){T kd e:Nat}{x:α}{y:β}{v:Value}(hm:Mp kt t τ κ b m)(hv:t.own κ [v] y)(hk:∀κ',Step [b] κ κ'->κ.H.size=κ'.H.size->Mp kt t τ κ' b (zbX m x y)->owp P n c (i+1) Q E κ')(hT:zgk P T=some (kd,e):=by kernel_rfl)(h:st c i n E none=true:=by kernel_rfl)(ho:execOp (ev E) (zx c i)=uOf (Instr.mapUpdate T (.map (some b)) (kt.enc x) v):=by kernel_rfl)(hkd:KeyOk P kd kt:=by first | exact zs7 (by kernel_rfl) | exact zs6 (by kernel_rfl)):owp P n c i Q E κ:=by
 refine zA0 (λκ'=>Step [b] κ κ'/\κ.H.size=κ'.H.size/\Mp kt t τ κ' b (zbX m x y)) h (λC g=>?_) ?_
 ·obtain⟨κ',j,d,a,f⟩:=zAF hm hT hkd hv (x:=x) C g;exact⟨κ',g,by rw[ho];exact zv6 j,d,a,f⟩
 ·rintro κ' ⟨d,a,f⟩;exact hk κ' d a f
end
def Sl.of_none{α:Type}{t:Ty α}{κ:K}{c:Nat}{l:List α}(h:Sl t κ none c l):l=[]:=by
 cases l with
 | nil=>rfl
 | cons x l=>obtain⟨b,off,a,_⟩:=h.elems si;cases a
end Go.Lf
