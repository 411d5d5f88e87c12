import Derived.Orders
import Derived.StillTail
import Derived.KernelRfl
import Derived.Tactics
import Derived.TacticsIn
import Derived.OrdersIn
import Derived.Laws.Cells
import Derived.Laws.World
import Derived.Laws.AppendOwn
import Derived.Deep.AppendSrc
import Derived.Laws.MakeOwn
import Derived.Laws.StructEq
import Derived.Conc.LoneCalls
import Derived.Conc.LoneSelectN
import Derived.Laws.Concat
import Derived.Laws.BytesString
import Derived.Laws.IdiomStrings
import Derived.MapKept
set_option linter.all false
namespace Go.Lf
open Go
abbrev ab:=@Array.getElem?_append
abbrev ac:=@Array.getElem?_eq_getElem
abbrev ae:=@Array.getElem?_eq_some_iff
abbrev af:=@Array.getElem?_modify
abbrev ai:=@Array.getElem?_setIfInBounds_ne
abbrev aj:=@Array.getElem?_setIfInBounds_self_of_lt
abbrev ak:=@Array.getElem?_toList
abbrev an:=@Array.length_toList
abbrev ao:=@Bool.and_eq_true
abbrev aq:=@Bool.false_eq_true
abbrev au:=@Bool.not_eq_true'
abbrev aw:=@Bool.not_true
abbrev ax:=@Go.Result.andThen_ok
abbrev ay:=@Go.Sem.run_bind
abbrev az:=@Go.Sem.run_pure
abbrev ba:=@Int.eq_ofNat_of_zero_le
abbrev bb:=@Int.toNat_natCast
abbrev bc:=@Int.toNat_of_nonneg
abbrev be:=@List.all_eq_true
abbrev bf:=@List.any_eq_true
abbrev bg:=@List.append_assoc
abbrev bh:=@List.append_nil
abbrev bi:=@List.contains_iff_mem
abbrev bj:=@List.drop_eq_getElem_cons
abbrev bl:=@List.eq_nil_iff_forall_not_mem
abbrev bp:=@List.eq_nil_of_length_eq_zero
abbrev bq:=@List.ext_getElem?
abbrev br:=@List.filter_append
abbrev bu:=@List.filter_cons_of_neg
abbrev bx:=@List.filter_cons_of_pos
abbrev bz:=@List.filter_eq_self
abbrev ca:=@List.flatMap_append
abbrev cg:=@List.flatMap_cons
abbrev ci:=@List.foldl_cons
abbrev cj:=@List.getElem?_append_left
abbrev cn:=@List.getElem?_append_right
abbrev co:=@List.getElem?_drop
abbrev cq:=@List.getElem?_eq_getElem
abbrev cu:=@List.getElem?_eq_none
abbrev cv:=@List.getElem?_eq_some_iff
abbrev cw:=@List.getElem?_map
abbrev cy:=@List.getElem?_of_mem
abbrev df:=@List.getElem?_range
abbrev dg:=@List.getElem?_replicate
abbrev dh:=@List.getElem?_set_ne
abbrev dj:=@List.getElem?_set_self
abbrev dm:=@List.getElem?_take
abbrev dt:=@List.getElem_mem
abbrev du:=@List.length_append
abbrev dv:=@List.length_cons
abbrev dx:=@List.length_drop
abbrev dy:=@List.length_filter_le
abbrev dz:=@List.length_map
abbrev ec:=@List.length_nil
abbrev ed:=@List.length_replicate
abbrev ee:=@List.length_set
abbrev ef:=@List.length_take
abbrev eh:=@List.map_append
abbrev ej:=@List.map_congr_left
abbrev ek:=@List.map_cons
abbrev ep:=@List.mem_append
abbrev er:=@List.mem_append_left
abbrev eu:=@List.mem_cons
abbrev ey:=@List.mem_filter
abbrev fa:=@List.mem_map
abbrev fc:=@List.mem_of_find?_eq_some
abbrev fd:=@List.mem_of_getElem?
abbrev fe:=@List.mem_range
abbrev fg:=@List.mem_singleton
abbrev fh:=@List.nil_append
abbrev fi:=@List.nodup_append
abbrev fj:=@List.pairwise_cons
abbrev fk:=@List.pairwise_iff_getElem
abbrev fm:=@List.range_succ
abbrev fo:=@List.size_toArray
abbrev fp:=@List.take_add_one
abbrev fq:=@List.take_length
abbrev ft:=@List.take_of_length_le
abbrev fu:=@Nat.add_mul
abbrev fv:=@Nat.eq_of_beq_eq_true
abbrev fx:=@Nat.le_of_ble_eq_true
abbrev fy:=@Nat.le_refl
abbrev fz:=@Nat.le_trans
abbrev ga:=@Nat.lt_iff_add_one_le
abbrev gc:=@Nat.lt_of_lt_of_le
abbrev gd:=@Nat.lt_or_ge
abbrev gg:=@Nat.lt_or_gt_of_ne
abbrev gi:=@Nat.lt_trichotomy
abbrev gj:=@Nat.mul_le_mul_right
abbrev gk:=@Nat.succ_mul
abbrev gl:=@Nat.zero_add
abbrev gm:=@Option.bind_eq_some_iff
abbrev gp:=@Option.bind_some
abbrev gq:=@Option.getD_some
abbrev gt:=@Option.map_eq_some_iff
class Fc where
 rd:Option Nat
 ds:List Deferred
instance fc0:Fc:=⟨none,[]⟩
class Fb where
 lo:Nat→Bool
 b0:Nat
 h0:lo b0=true
instance fb0:Fb:=⟨fun n=>Nat.beq n 0,0,rfl⟩
def FF [Fc]:Fence:={Fence.wide with round:=Fc.rd}
theorem zu1 [Fc] {n:Nat} {P:Program} {f:FuncId} {args:Array Value} {w:World} {R:Ending→World→Prop} (h:Calls P f args w R):CallsIn FF n P f args w R:=
 (callsIn_wide (n:=n)).2 h
theorem zoX {ro:Option Nat} {P:Program} {ρ:Operand→Value} {o:Oper} {w w':World} {nx:Next} (h:(execOp ρ o).run P w=.ok nx w') (hn:∀ d,nx≠.defer d) :
  (o.semAt ro ρ).run P w=.ok nx w':=by
 rw [Oper.semAt_eq _ _ _ (fun c hc=>?_)]
 ·exact h
 ·unfold execOp at h;rw [hc] at h;simp only [ay] at h;cases hr:(resolve ρ c o.type).run P w with
  | ok d w1=>rw [hr] at h;simp [Result.andThen] at h;exact hn d h.1.symm
  | halt x w1=>rw [hr] at h;simp [Result.andThen] at h
theorem zyP {p:Nat→Prop} (h:∃ m,p m):∃ m,p m∧∀ k,p k→m≤k:=by
 classical
 obtain ⟨m,hm⟩:=h
 induction m using Nat.strongRecOn with
 | _ m ih=>
  by_cases b:∃ k,k<m∧p k
  ·obtain ⟨k,d,a⟩:=b;exact ih k d a
  ·exact ⟨m,hm,fun k a=>Nat.le_of_not_lt fun c=>b ⟨k,c,a⟩⟩
section
variable [Fc] {P:Program} {o:Oper} {a:Act} {w w':World} {K:Act→World→Prop} {Q:Exit→Act→World→Prop}
theorem zju {v:Value} (h:(execOp a.eval o).run P w=.ok (.value v) w') (hk:K (a.put o.dst v) w'):o.wpIn FF 0 P a w K Q:=by
 unfold Oper.wpIn;rw [zoX h (fun _ e=>by cases e)];exact ⟨fun _ _=>trivial,hk⟩
theorem zqT (h:(execOp a.eval o).run P w=.ok .skip w') (hk:K (a.put o.dst undef) w'):o.wpIn FF 0 P a w K Q:=by
 unfold Oper.wpIn;rw [zoX h (fun _ e=>by cases e)];exact ⟨fun _ _=>trivial,hk⟩
theorem zol {f:FuncId} {args:Array Value} (h:(execOp a.eval o).run P w=.ok (.enter f args) w')
  (hk:Calls P f args w' fun | .returned v,w''=>K (a.put o.dst v) w'' | .panicked chain,w''=>Q (.panic chain) a w'' | .outgrown,_=>LetsOut Q):o.wpIn FF 0 P a w K Q:=by
 unfold Oper.wpIn;rw [zoX h (fun _ e=>by cases e)];refine ⟨fun _ _=>trivial,fun b=>?_,zu1 (n:=0) hk⟩;simp [FF,Fence.wide] at b
theorem zhS {n:Nat} {F:Fence} {md:Region.Mode} {ops:Array Oper} {Q':Exit→Act→World→Prop}:∀ (l:List Oper) (k:Nat) (listed:Array Bool) (a:Act) (w:World),(∀ j,l[j]?=ops[k+j]?)→
  Region.seqB md ops l.length k listed=true→wpListIn F n P ops Q' l a w→wpAnyIn F n P md ops Q' l.length listed a w
 | [],_,_,_,_,_,hB,h=>⟨by simpa [Region.seqB] using hB,h⟩
 | o::l,k,listed,a,w,hl,hB,h=>by
  have e:ops[k]?=some o:=by simpa using (hl 0).symm
  simp only [dv,Region.seqB,ao,decide_eq_true_eq] at hB;refine ⟨fun c=>(by rw [hB.1] at c;cases c),fun i hi=>?_⟩;rw [hB.1] at hi;have b:i=k:=by simpa using hi
  subst b;have d:wpOpIn F n P ops Q' i (wpListIn F n P ops Q' l) a w:=by unfold wpOpIn;simp only [e];exact h
  exact wpOpIn_mono (fun a' w' h'=>zhS l (i+1) _ a' w' (fun j=>by have:=hl (j+1);simpa [Nat.add_assoc,Nat.add_comm 1 j] using this) hB.2 h') d
theorem zrX {n:Nat} {F:Fence} {x:Code} {Q:Exit→Act→World→Prop} {a:Act} {w:World} (I:Act→World→Nat→Prop) (m:Nat) (h0:I a w m)
  (round:∀ m a w,I a w m→x.wpIn F n P (fun e a' w'=>match e with
   | .normal=>∃ d,d<m∧I a' w' d
   | e=>Q e a' w') a w):(Code.loop x).wpIn F n P Q a w:=by
 obtain ⟨J,g⟩:∃ J:Act→World→Prop,J=fun a w=>∃ m,I a w m:=⟨_,rfl⟩;obtain ⟨μ,k⟩:∃ μ:Act→World→Nat,∀ a w m,I a w m→μ a w≤m∧I a w (μ a w):=by
  classical
  refine ⟨fun a w=>if h:∃ m,I a w m then Classical.choose (zyP h) else 0,fun a w m h=>?_⟩;have b:∃ m,I a w m:=⟨m,h⟩;simp only [b,dif_pos];have hs:=Classical.choose_spec (zyP b);exact ⟨hs.2 m h,hs.1⟩
 refine wpIn_loop J μ (by rw [g];exact ⟨m,h0⟩) ?_;intro a w j;rw [g] at j;obtain ⟨m,hm⟩:=j;refine wpIn_mono (round _ a w (k a w m hm).2) ?_;intro e a' w' p;cases e with
 | normal=>obtain ⟨d,f,c⟩:=p;exact ⟨by rw [g];exact ⟨d,c⟩,Nat.lt_of_le_of_lt (k a' w' d c).1 f⟩
 | _=>exact p
end
structure K where
 H:Array Obj
 fr:Nat→Nat
 tag:Nat→Nat×Nat
structure Cx [Fb] where
 os:Os
 tape:Nat→Question→Nat
 output:Array (Nat×ByteArray)
 base:Nat
 hb:Fb.lo base=true
def W [Fb] (C:Cx) (κ:K) (d:Nat):World:={heap:=κ.H,tape:=C.tape,drawn:=C.base+d,os:=C.os,output:=C.output}
def K.cell (κ:K) (b o:Nat):Option Value:=
 match κ.H[b]? with
 | some (.cells c _ _)=>c[o]?
 | _=>none
def K.shp (κ:K) (b:Nat):Option (TypeId×Nat×(Nat×Nat)):=
 match κ.H[b]? with
 | some (.cells c T k)=>some (T,c.size,k)
 | _=>none
def Step (M:List Nat) (κ κ':K):Prop:=
 κ.H.size≤κ'.H.size∧(∀ b,b<κ.H.size→b∉M→κ'.H[b]?=κ.H[b]?∧κ'.fr b=κ.fr b∧κ'.tag b=κ.tag b)∧
 (∀ b,b<κ.H.size→κ.fr b≤κ'.fr b∧∀ o,o<κ.fr b→κ'.cell b o=κ.cell b o)∧
 (∀ b,b<κ.H.size→0<κ.fr b→κ'.tag b=κ.tag b∧κ'.shp b=κ.shp b)
theorem Step.refl (M:List Nat) (κ:K):Step M κ κ:=⟨fy _,fun _ _ _=>⟨rfl,rfl,rfl⟩,fun _ _=>⟨fy _,fun _ _=>rfl⟩,fun _ _ _=>⟨rfl,rfl⟩⟩
theorem Step.mono {M M':List Nat} {κ κ':K} (h:Step M κ κ') (hm:∀ b,b∈M→b∈M'):Step M' κ κ':=
 ⟨h.1,fun b c a=>h.2.1 b c (fun hc=>a (hm b hc)),h.2.2⟩
theorem Step.trans {M:List Nat} {κ κ' κ'':K} (h:Step M κ κ') (h':Step M κ' κ''):Step M κ κ'':=by
 refine ⟨fz h.1 h'.1,fun b d g=>?_,fun b d=>?_,fun b d e=>?_⟩
 ·have a:=h.2.1 b d g;have c:=h'.2.1 b (gc d h.1) g;exact ⟨c.1.trans a.1,c.2.1.trans a.2.1,c.2.2.trans a.2.2⟩
 ·have a:=h.2.2.1 b d;have c:=h'.2.2.1 b (gc d h.1);exact ⟨fz a.1 c.1,fun o f=>(c.2 o (gc f a.1)).trans (a.2 o f)⟩
 ·have a:=h.2.2.2 b d e;have c:=h'.2.2.2 b (gc d h.1) (gc e (h.2.2.1 b d).1);exact ⟨c.1.trans a.1,c.2.trans a.2⟩
theorem Step.nil {M:List Nat} {κ κ':K} (h:Step [] κ κ'):Step M κ κ':=h.mono (fun _ a=>by cases a)
def Fn [Fb] (P:Program) (f:FuncId) (args:Array Value) (κ:K) (R:Value→K→Prop):Prop:=
 ∀ C d,Calls P f args (W C κ d) fun e w'=>∃ v κ' d',e=.returned v∧w'=W C κ' d'∧R v κ'
theorem Fn.mono [Fb] {P:Program} {f:FuncId} {args:Array Value} {κ:K} {R R':Value→K→Prop} (h:Fn P f args κ R) (hr:∀ v κ',R v κ'→R' v κ') :
  Fn P f args κ R':=
 fun C d=>(h C d).mono fun _ _ ⟨v,κ',d',he,hw,hR⟩=>⟨v,κ',d',he,hw,hr v κ' hR⟩
abbrev Env:=Nat→Value
def upd (E:Env) (t:Nat) (v:Value):Env:=fun s=>bif Nat.beq s t then v else E s
theorem zws {E:Env} {t:Nat} {v:Value} (h:E t=v):E=upd E t v:=by
 funext s;unfold upd;cases hs:Nat.beq s t with
 | false=>rfl
 | true=>have:=fv hs;subst this;exact h
def ev (E:Env):Operand→Value
 | .tmp t=>E t
 | .const v=>v
 | .global g=>.pointer (some ⟨g,0,none⟩)
 | .func f=>.func (.func f) #[] #[]
structure Fits [Fc] (n:Nat) (a:Act) (E:Env):Prop where
 size:a.tmps.size=n
 defers:a.defers=Fc.ds
 tmps:∀ t,a.tmps.getD t undef=E t
theorem Fits.eval [Fc] [Fb] {n:Nat} {a:Act} {E:Env} (h:Fits n a E):a.eval=ev E:=by
 funext x;cases x with
 | tmp t=>exact h.tmps t
 | _=>rfl
theorem Fits.put [Fc] [Fb] {n d:Nat} {a:Act} {E:Env} (h:Fits n a E) (hd:d<n) (v:Value):Fits n (a.put (some d) v) (upd E d v):=by
 refine ⟨by simpa [Act.put] using h.size,h.defers,fun t=>?_⟩;unfold upd;cases hs:Nat.beq t d with
 | true=>
  have:=fv hs;subst this;have c:t<a.tmps.size:=by rw [h.size];exact hd
  simp [Act.put,c]
 | false=>
  have b:d≠t:=fun e=>by subst e;simp at hs
  have:=h.tmps t;simp only [Act.put,cond_false];rw [←this];simp [ai b]
abbrev zaH:=Exit→Env→K→Prop
def zl3 [Fc] [Fb] (n:Nat) (C:Cx) (Q:zaH):Exit→Act→World→Prop:=
 fun e a w=>∃ E κ d,Fits n a E∧w=W C κ d∧Q e E κ
theorem zv0 [Fc] [Fb] {n:Nat} {C:Cx} {Q Q':zaH} (h:∀ e E κ,Q e E κ→Q' e E κ):∀ e a w,zl3 n C Q e a w→zl3 n C Q' e a w:=
 fun _ _ _ ⟨E,κ,d,hf,hw,hq⟩=>⟨E,κ,d,hf,hw,h _ _ _ hq⟩
def cwp [Fc] [Fb] (P:Program) (n:Nat) (c:Code) (Q:zaH) (E:Env) (κ:K):Prop:=
 ∀ C d a,Fits n a E→c.wpIn FF 0 P (zl3 n C Q) a (W C κ d)
theorem zxz [Fc] [Fb] {P:Program} {n:Nat} {c:Code} {Q Q':zaH} {E:Env} {κ:K} (h:cwp P n c Q E κ) (hq:∀ e E κ,Q e E κ→Q' e E κ):cwp P n c Q' E κ:=
 fun C d a b=>wpIn_mono (h C d a b) (zv0 hq)
def zf6 (i:Nat):Code→Code
 | .seq a b=>if i=0 then a else b
 | .cond _ a b=>if i=0 then a else b
 | .block _ b=>b
 | .loop b=>b
 | .scope b=>b
 | .rangeFunc _ _ a b=>if i=0 then a else b
 | c=>c
def sub (c:Code):List Nat→Code
 | []=>c
 | i::p=>zf6 i (sub c p)
def zA (f:Func):Code:=f.body.getD .skip
def zl7:Code→Bool
 | .seq _ _=>true
 | _=>false
def zte:Code→Bool
 | .skip=>true
 | _=>false
def zxn:Code→Bool
 | .ret=>true
 | _=>false
def zuJ:Code→Bool
 | .loop _=>true
 | _=>false
def zAq:Code→Option Operand
 | .cond o _ _=>some o
 | _=>none
def zow:Code→Bool
 | .cond _ _ _=>true
 | _=>false
def zqc:Code→Operand
 | .cond o _ _=>o
 | _=>.func 0
def zpt:Code→Option Nat
 | .block id _=>some id
 | _=>none
def zuT:Code→Option Nat
 | .exit id=>some id
 | _=>none
def zbK:Code→Option Bool
 | .region _ _ d=>some d
 | _=>none
def opsOf:Code→Array Oper
 | .region _ ops _=>ops
 | _=>#[]
section rules
variable [Fc] [Fb] {P:Program} {n:Nat} {c:Code} {Q:zaH} {E:Env} {κ:K} {p:List Nat}
def zdi [Fb] (P:Program) (n:Nat) (c:Code) (Q:zaH):zaH:=fun e E κ=>
 match e with
 | .normal=>cwp P n c Q E κ
 | e=>Q e E κ
theorem zvt (h:zl7 (sub c p)=true) (hx:cwp P n (sub c (0::p)) (zdi P n (sub c (1::p)) Q) E κ):cwp P n (sub c p) Q E κ:=by
 have j:sub c (0::p)=zf6 0 (sub c p):=rfl;have m:sub c (1::p)=zf6 1 (sub c p):=rfl;rw [j,m] at hx;clear j m;generalize sub c p=s at *;cases s<;>simp [zl7] at h;rename_i x y;intro C d a q;have f:cwp P n x (zdi P n y Q) E κ:=hx;refine wpIn_seq (wpIn_mono (f C d a q) ?_);rintro e a' w' ⟨r,κ',k,b,rfl,g⟩;cases e with
 | normal=>exact g C k a' b
 | _=>exact ⟨r,κ',k,b,rfl,g⟩
theorem zue (h:zte (sub c p)=true) (hq:Q .normal E κ):cwp P n (sub c p) Q E κ:=by
 generalize sub c p=s at *;cases s<;>simp [zte] at h;intro C d a b;exact wpIn_skip ⟨E,κ,d,b,rfl,hq⟩
theorem zyt (h:zxn (sub c p)=true) (hq:Q .ret E κ):cwp P n (sub c p) Q E κ:=by
 generalize sub c p=s at *;cases s<;>simp [zxn] at h;intro C d a b;exact wpIn_ret ⟨E,κ,d,b,rfl,hq⟩
theorem zxA {id:Nat} (h:zuT (sub c p)=some id) (hq:Q (.exit id) E κ):cwp P n (sub c p) Q E κ:=by
 generalize sub c p=s at *;cases s<;>simp [zuT] at h;subst h;intro C d a b;exact wpIn_exit ⟨E,κ,d,b,rfl,hq⟩
theorem zrO (b:Bool) (h:zow (sub c p)=true) (hb:ev E (zqc (sub c p))=.bool b)
  (ht:b=true→cwp P n (sub c (0::p)) Q E κ) (he:b=false→cwp P n (sub c (1::p)) Q E κ):cwp P n (sub c p) Q E κ:=by
 have j:sub c (0::p)=zf6 0 (sub c p):=rfl;have g:sub c (1::p)=zf6 1 (sub c p):=rfl;rw [j] at ht;rw [g] at he;clear j g;generalize sub c p=s at *;cases s<;>simp [zow] at h;rename_i o x y;intro C d a f;have e:a.eval o=.bool b:=by rw [f.eval];exact hb
 cases b with
 | true=>exact wpIn_cond e ((ht rfl) C d a f)
 | false=>exact wpIn_cond e ((he rfl) C d a f)
def zb9 (id:Nat) (Q:zaH):zaH:=fun e E κ=>
 match e with
 | .exit id'=>if id'=id then Q .normal E κ else Q (.exit id') E κ
 | e=>Q e E κ
theorem zwj {id:Nat} (h:zpt (sub c p)=some id) (hx:cwp P n (sub c (0::p)) (zb9 id Q) E κ):cwp P n (sub c p) Q E κ:=by
 have m:sub c (0::p)=zf6 0 (sub c p):=rfl;rw [m] at hx;clear m;generalize sub c p=s at *;cases s<;>simp [zpt] at h;rename_i id' x;subst h;intro C d a q;have g:cwp P n x (zb9 id' Q) E κ:=hx;refine wpIn_block (wpIn_mono (g C d a q) ?_);rintro e a' w' ⟨j,κ',k,b,rfl,f⟩;cases e with
 | exit i=>
  simp only [Exit.inBlock];simp only [zb9] at f;split
  ·rename_i hi;rw [if_pos hi] at f;exact ⟨j,κ',k,b,rfl,f⟩
  ·rename_i hi;rw [if_neg hi] at f;exact ⟨j,κ',k,b,rfl,f⟩
 | _=>exact ⟨j,κ',k,b,rfl,f⟩
theorem zkj (I:Nat→Env→K→Prop) (h:zuJ (sub c p)=true) (m:Nat) (h0:I m E κ)
  (round:∀ m E κ,I m E κ→cwp P n (sub c (0::p)) (fun e g κ'=>match e with
   | .normal=>∃ q,q<m∧I q g κ'
   | e=>Q e g κ') E κ):cwp P n (sub c p) Q E κ:=by
 have v:sub c (0::p)=zf6 0 (sub c p):=rfl;rw [v] at round;clear v;generalize sub c p=s at *;cases s<;>simp [zuJ] at h;rename_i x;intro C d a r;obtain ⟨f,b⟩:∃ f:Act→World→Nat→Prop,f=fun a w m=>∃ E κ d,Fits n a E∧w=W C κ d∧I m E κ:=⟨_,rfl⟩;refine zrX f m (by rw [b];exact ⟨E,κ,d,r,rfl,h0⟩) ?_;intro m a w k;rw [b] at k;obtain ⟨E,κ,d,r,rfl,k⟩:=k;refine wpIn_mono (round m E κ k C d a r) ?_;rintro e a' w' ⟨g,κ',A,j,rfl,y⟩;cases e with
 | normal=>obtain ⟨q,t,u⟩:=y;rw [b];exact ⟨q,t,g,κ',A,j,rfl,u⟩
 | _=>exact ⟨g,κ',A,j,rfl,y⟩
end rules
theorem zsK [Fc] [Fb] {P:Program} {n:Nat} {c:Code} {Q:zaH} {E:Env} {κ κ':K} (h:κ'.H=κ.H) (hk:cwp P n c Q E κ'):cwp P n c Q E κ:=by
 intro C d a b;have e:W C κ d=W C κ' d:=by unfold W;rw [h]
 rw [e];exact hk C d a b
def zvM (fn:Func) (E:Env):Sem Value:=do
 let vs ←fn.results.mapM fun
  | .tmp t=>pure (E t)
  | .cell a t=>do loadVar t (←asAddr (E a))
 pure (if h:vs.size=1 then vs[0] else .tuple vs)
theorem zs0 [Fc] [Fb] {n:Nat} {a:Act} {E:Env} (h:Fits n a E) (fn:Func):results fn a.tmps=zvM fn E:=by
 unfold results zvM;simp only [h.tmps];congr 1
def zka [Fb] (P:Program) (fn:Func) (R:Value→K→Prop):zaH:=fun e E κ=>
 match e with
 | .normal | .ret=>∃ v,(∀ C d,(zvM fn E).run P (W C κ d)=.ok v (W C κ d))∧R v κ
 | _=>False
def zrN (args:Array Value):Env:=fun t=>args.getD t undef
theorem zwb [Fb] {P:Program} {f:FuncId} {fn:Func} {c:Code} {n:Nat} {args:Array Value} {κ:K} {R:Value→K→Prop}
  (hf:P.funcs[f]?=some fn) (hb:fn.body=some c) (hn:fn.ntmps=n) (ha:args.size≤n)
  (h:cwp P n c (zka P fn R) (zrN args) κ):Fn P f args κ R:=by
 intro C d;have b:Fits n {tmps:=args++Array.replicate (fn.ntmps - args.size) undef,defers:=[]} (zrN args):=by
  refine ⟨by simp [hn];omega,rfl,fun t=>?_⟩;unfold zrN;by_cases q:t<args.size
  ·simp [ab,q]
  ·by_cases g:t - args.size<fn.ntmps - args.size
   ·simp [ab,q,g]
   ·simp [ab,q,g]
 refine calls_of_wp hf hb (wp_mono (wpIn_wide.1 (h C d _ b)) ?_);rintro e a' w' ⟨r,κ',j,a,rfl,k⟩;cases e with
 | normal=>
  obtain ⟨v,p,m⟩:=k;exact ⟨a.defers,v,by rw [zs0 a];exact p C j,v,κ',j,rfl,rfl,m⟩
 | ret=>
  obtain ⟨v,p,m⟩:=k;exact ⟨a.defers,v,by rw [zs0 a];exact p C j,v,κ',j,rfl,rfl,m⟩
 | _=>exact k.elim
def zv (c:Code) (i:Nat):Oper:=((opsOf c)[i]?).getD default
def dstOf (c:Code) (i:Nat):Nat:=((zv c i).dst).getD 0
def za0 (c:Code) (i:Nat) (E:Env):Bool:=
 match (zv c i).guard with
 | none=>true
 | some (j,w)=>
  match ((opsOf c)[j]?).bind (·.dst) with
  | some t=>match E t with
   | .bool b=>b == w
   | _=>false
  | none=>false
def st (c:Code) (i n:Nat) (E:Env) (d:Option Nat):Bool:=
 decide (i<(opsOf c).size)&&za0 c i E&&((zv c i).dst == d)&&d.all (fun t=>decide (t<n))
def sk (c:Code) (i n:Nat) (E:Env) (d:Nat):Bool:=
 decide (i<(opsOf c).size)&&!za0 c i E&&((zv c i).dst == some d)&&decide (d<n)
theorem zhI [Fc] [Fb] {n:Nat} {a:Act} {E:Env} (h:Fits n a E) (c:Code) (i:Nat) :
  Region.wanted (zv c i) (yielded (opsOf c) a.tmps)=za0 c i E:=by
 unfold Region.wanted za0 yielded;cases hg:(zv c i).guard with
 | none=>rfl
 | some g=>
  obtain ⟨j,w⟩:=g;simp only [];cases hd:((opsOf c)[j]?).bind (·.dst) with
  | none=>simp
  | some t=>
   simp only [gp];have b:=h.tmps t;by_cases hs:t<a.tmps.size
   ·have:a.tmps[t]?=some (E t):=by
     rw [←b];simp [hs]
    rw [this];cases E t<;>simp
   ·have d:a.tmps[t]?=none:=Array.getElem?_eq_none (Nat.le_of_not_lt hs);have e:E t=undef:=by rw [←b];simp [hs]
    rw [d,e];rfl
theorem zg3 {c:Code} {i:Nat} (h:i<(opsOf c).size):(opsOf c)[i]?=some (zv c i):=by
 unfold zv;simp [h]
def owp [Fc] [Fb] (P:Program) (n:Nat) (c:Code) (i:Nat) (Q:zaH) (E:Env) (κ:K):Prop:=
 ∀ C d a,Fits n a E→wpOpsIn FF 0 P (opsOf c) (zl3 n C Q) (List.range' i ((opsOf c).size - i)) a (W C κ d)
section
variable [Fc] [Fb] {P:Program} {n:Nat} {c:Code} {i:Nat} {Q:zaH} {E:Env} {κ:K}
theorem zoE {c0:Code} {p:List Nat} (h:zbK (sub c0 p)=some false) (hx:owp P n (sub c0 p) 0 Q E κ):cwp P n (sub c0 p) Q E κ:=by
 generalize sub c0 p=s at *;cases s<;>simp [zbK] at h;subst h;intro C d a b;refine wpIn_region ?_;have:=hx C d a b;simpa [List.range_eq_range',opsOf] using this
theorem zkx {i m:Nat} (h:i<m):List.range' i (m - i)=i::List.range' (i+1) (m - (i+1)):=by
 have:m - i=(m - (i+1))+1:=by omega
 rw [this,List.range'_succ]
theorem zo4 (h:decide ((opsOf c).size≤i)=true) (hq:Q .normal E κ):owp P n c i Q E κ:=by
 intro C d a b;have h':(opsOf c).size - i=0:=by have:=of_decide_eq_true h;omega
 rw [h'];exact ⟨E,κ,d,b,rfl,hq⟩
theorem zhe {d:Option Nat} (h:st c i n E d=true):i<(opsOf c).size∧za0 c i E=true∧(zv c i).dst=d∧∀ t,d=some t→t<n:=by
 unfold st at h;simp only [ao,decide_eq_true_eq,beq_iff_eq] at h;refine ⟨h.1.1.1,h.1.1.2,h.1.2,fun t a=>?_⟩;subst a;simpa using h.2
theorem zle {d:Option Nat} (h:st c i n E d=true) (hr:∀ C b (a:Act),Fits n a E→
  (zv c i).wpIn FF 0 P a (W C κ b) (wpOpsIn FF 0 P (opsOf c) (zl3 n C Q) (List.range' (i+1) ((opsOf c).size - (i+1)))) (zl3 n C Q)):owp P n c i Q E κ:=by
 obtain ⟨f,g,k,j⟩:=zhe h;intro C b a e;rw [zkx f,wpOpsIn];simp only [zg3 f];rw [zhI e,g,if_pos rfl];exact hr C b a e
theorem zfB {d:Nat} {κ':K} (v:Value) (h:st c i n E (some d)=true) (hr:∀ C b,(execOp (ev E) (zv c i)).run P (W C κ b)=.ok (.value v) (W C κ' b))
  (hk:owp P n c (i+1) Q (upd E d v) κ'):owp P n c i Q E κ:=by
 refine zle h fun C b a e=>?_;obtain ⟨k,j,g,f⟩:=zhe h;refine zju (by rw [e.eval];exact hr C b) ?_;rw [g];exact hk C b _ (e.put (f d rfl) v)
theorem zo2 {d:Nat} (v:Value) (h:st c i n E (some d)=true) (hr:∀ w,(execOp (ev E) (zv c i)).run P w=.ok (.value v) w)
  (hk:owp P n c (i+1) Q (upd E d v) κ):owp P n c i Q E κ:=zfB v h (fun _ _=>hr _) hk
theorem zkb {d:Nat} (R:Value→K→Prop) (h:st c i n E (some d)=true)
  (hr:∀ C b,∃ v κ' d1,(execOp (ev E) (zv c i)).run P (W C κ b)=.ok (.value v) (W C κ' d1)∧R v κ')
  (hk:∀ v κ',R v κ'→owp P n c (i+1) Q (upd E d v) κ'):owp P n c i Q E κ:=by
 refine zle h fun C b a f=>?_;obtain ⟨p,m,k,g⟩:=zhe h;obtain ⟨v,κ',d1,e,j⟩:=hr C b;refine zju (by rw [f.eval];exact e) ?_;rw [k];exact hk v κ' j C d1 _ (f.put (g d rfl) v)
theorem zw2 {κ':K} (h:st c i n E none=true) (hr:∀ C b,(execOp (ev E) (zv c i)).run P (W C κ b)=.ok .skip (W C κ' b))
  (hk:owp P n c (i+1) Q E κ'):owp P n c i Q E κ:=by
 refine zle h fun C b a d=>?_;obtain ⟨j,f,e,g⟩:=zhe h;refine zqT (by rw [d.eval];exact hr C b) ?_;rw [e];exact hk C b _ d
theorem ziW {κ':K} (h:κ'.H=κ.H) (hk:owp P n c i Q E κ'):owp P n c i Q E κ:=by
 intro C d a b;have e:W C κ d=W C κ' d:=by unfold W;rw [h]
 rw [e];exact hk C d a b
theorem zM {F:Env} (h:E=F) (hk:owp P n c i Q F κ):owp P n c i Q E κ:=by rw [h];exact hk
theorem zw3 {d:Nat} {f:FuncId} {args:Array Value} {R:Value→K→Prop} (h:st c i n E (some d)=true)
  (hr:∀ w,(execOp (ev E) (zv c i)).run P w=.ok (.enter f args) w) (hf:Fn P f args κ R)
  (hk:∀ v κ',R v κ'→owp P n c (i+1) Q (upd E d v) κ'):owp P n c i Q E κ:=by
 refine zle h fun C g a b=>?_;obtain ⟨r,q,p,j⟩:=zhe h;refine zol (by rw [b.eval];exact hr _) ?_;refine (hf C g).mono ?_;rintro e w' ⟨v,κ',m,rfl,rfl,k⟩;simp only [p];exact hk v κ' k C m _ (b.put (j d rfl) v)
theorem zw1 {d:Nat} (h:sk c i n E d=true) (hk:owp P n c (i+1) Q (upd E d undef) κ):owp P n c i Q E κ:=by
 unfold sk at h;simp only [ao,decide_eq_true_eq,beq_iff_eq,au] at h;obtain ⟨⟨⟨e,g⟩,k⟩,j⟩:=h;intro C f a b;rw [zkx e,wpOpsIn];simp only [zg3 e];rw [zhI b,g,if_neg (by simp),k];exact ⟨fun _ _=>trivial,hk C f _ (b.put j undef)⟩
end
def zz6 (P:Program) (Rel:K→K→Prop) [Fb] (C:Cx) (κ:K) (R:Value→K→Prop):Result Next→Prop
 | .ok (.value v) w'=>∃ κ' d',w'=W C κ' d'∧Rel κ κ'∧R v κ'
 | .ok (.enter f args) w'=>∃ κ' d',w'=W C κ' d'∧Rel κ κ'∧Fn P f args κ' (fun v κ''=>Rel κ' κ''∧R v κ'')
 | _=>False
def OpQ [Fb] (P:Program) (Rel:K→K→Prop) (c:Code) (i:Nat) (E:Env) (κ:K) (R:Value→K→Prop):Prop:=
 (za0 c i E=true→∀ C d,zz6 P Rel C κ R ((execOp (ev E) (zv c i)).run P (W C κ d)))∧(za0 c i E=false→R undef κ)
def zxG (c:Code):Bool:=
 (List.range (opsOf c).size).all fun i=>(zv c i).after.all fun e=>!Region.binds .any e||decide (e.on<i)
def dep (c:Code) (i j:Nat):Bool:=(zv c i).after.any fun e=>Region.binds .any e&&e.on == j
def zyS (c:Code) (n k:Nat):Bool:=
 (List.range k).all fun i=>((zv c i).dst == some (dstOf c i))&&decide (dstOf c i<n)&&((List.range i).all fun j=>dstOf c j != dstOf c i)
def zhH (k m:Nat):Array Bool:=(Array.range m).map fun i=>decide (i<k)
def zlB (c:Code) (n k:Nat):Bool:=
 decide (k≤(opsOf c).size)&&zxG c&&zyS c n k &&
 (decide (k=(opsOf c).size)||(Region.sinkB .any (opsOf c) k&&Region.chainB .any (opsOf c) k)) &&
 Region.seqB .any (opsOf c) ((opsOf c).size - k) k (zhH k (opsOf c).size)
def unl (listed:Array Bool) (k:Nat):Nat:=((List.range k).filter fun i=>!listed.getD i false).length
theorem zsS {listed:Array Bool} {k i:Nat} (hi:i<k) (hs:i<listed.size) (hl:listed.getD i false=false) :
  unl (listed.setIfInBounds i true) k+1=unl listed k:=by
 unfold unl
 induction k with
 | zero=>omega
 | succ k ih=>
  rw [fm,br,br,du,du];by_cases a:i=k
  ·subst a;have c:List.filter (fun j=>!(listed.setIfInBounds i true).getD j false) (List.range i)=List.filter (fun j=>!listed.getD j false) (List.range i):=by
    apply List.filter_congr;intro j d;have:i≠j:=by have:=fe.1 d;omega
    simp [ai this]
   rw [c];have b:(listed.setIfInBounds i true).getD i false=true:=by simp [hs]
   simp only [List.filter_cons,List.filter_nil,b,hl];simp
  ·have c:=ih (by omega);have b:(listed.setIfInBounds i true).getD k false=listed.getD k false:=by
    simp [ai a]
   simp only [List.filter_cons,List.filter_nil,b];omega
theorem zqW {listed:Array Bool} {k:Nat} (h:unl listed k=0):∀ i,i<k→listed.getD i false=true:=by
 intro i hi;unfold unl at h;have h':=List.length_eq_zero_iff.1 h;rw [List.filter_eq_nil_iff] at h';have:=h' i (fe.2 hi);simpa using this
theorem zsT {listed:Array Bool} {k m:Nat} (h:unl listed k=m+1):∃ i,i<k∧listed.getD i false=false∧∀ j,j<i→listed.getD j false=true:=by
 have f:∃ i,i<k∧listed.getD i false=false:=by
  unfold unl at h;have e:(List.range k).filter (fun i=>!listed.getD i false)≠[]:=by
   intro n;rw [n] at h;simp at h
  obtain ⟨x,g⟩:=List.exists_mem_of_ne_nil _ e;rw [ey] at g;exact ⟨x,fe.1 g.1,by simpa using g.2⟩
 have key:∀ i,i<k→listed.getD i false=false→∃ i,i<k∧listed.getD i false=false∧∀ j,j<i→listed.getD j false=true:=by
  intro i
  induction i using Nat.strongRecOn with
  | _ i ih=>
   intro hi c;by_cases a:∀ j,j<i→listed.getD j false=true
   ·exact ⟨i,hi,c,a⟩
   ·have b:∃ j,j<i∧listed.getD j false=false:=Classical.byContradiction fun hc=>
     a fun j b=>by
      cases hb:listed.getD j false with
      | true=>rfl
      | false=>exact absurd ⟨j,b,hb⟩ hc
    obtain ⟨j,b,d⟩:=b;exact ih j b (by omega) d
 obtain ⟨i,hi,c⟩:=f;exact key i hi c
section
variable [Fc] [Fb] {P:Program} {n:Nat} {c:Code} {Q:zaH} {E:Env} {κ:K} {k:Nat}
def Rl (i0 i:Nat) (A B:K→K→Prop):K→K→Prop:=bif Nat.beq i i0 then A else B
theorem zyW {i0 i:Nat} {A B:K→K→Prop} (h:∀ κ1 κ2,B κ1 κ2→A κ1 κ2) {κ1 κ2:K} (hr:Rl i0 i A B κ1 κ2):A κ1 κ2:=by
 unfold Rl at hr;cases hb:Nat.beq i i0 with
 | false=>rw [hb] at hr;exact h _ _ hr
 | true=>rw [hb] at hr;exact hr
theorem zyV {i0 i:Nat} {A B:K→K→Prop} (hne:i≠i0) {κ1 κ2:K} (hr:Rl i0 i A B κ1 κ2):B κ1 κ2:=by
 unfold Rl at hr;cases hb:Nat.beq i i0 with
 | false=>rw [hb] at hr;exact hr
 | true=>exact absurd (fv hb) hne
theorem zyD {i0 i j:Nat} {A B:K→K→Prop} (h:∀ κ1 κ2,B κ1 κ2→A κ1 κ2) (hji:j≠i) {κ1 κ2:K} (hr:Rl i0 i A B κ1 κ2):Rl i0 j B A κ1 κ2:=by
 unfold Rl;cases hb:Nat.beq j i0 with
 | false=>exact zyW h hr
 | true=>
  have:=fv hb;subst this;exact zyV (Ne.symm hji) hr
theorem zyC {i0 i:Nat} {A B:K→K→Prop} (h:∀ κ1 κ2,B κ1 κ2→A κ1 κ2) (rr:∀ κ,B κ κ) {κ:K}:Rl i0 i A B κ κ:=by
 unfold Rl;cases Nat.beq i i0 with
 | false=>exact rr κ
 | true=>exact h _ _ (rr κ)
theorem zxM {i0 i:Nat} {A B:K→K→Prop} (ta:∀ κ1 κ2 κ3,A κ1 κ2→A κ2 κ3→A κ1 κ3) (tb:∀ κ1 κ2 κ3,B κ1 κ2→B κ2 κ3→B κ1 κ3) {κ1 κ2 κ3:K}
  (h:Rl i0 i A B κ1 κ2) (h':Rl i0 i A B κ2 κ3):Rl i0 i A B κ1 κ3:=by
 unfold Rl at *;cases hb:Nat.beq i i0 with
 | false=>rw [hb] at h h';exact tb _ _ _ h h'
 | true=>rw [hb] at h h';exact ta _ _ _ h h'
structure DInv (q0:Nat) (Rel0 Rel1:K→K→Prop) (n:Nat) (c:Code) (E:Env) (κ:K) (k:Nat) (S:Nat→Value→K→Prop) (listed:Array Bool) (E':Env) (κ':K):Prop where
 head:HeadInv .any (opsOf c) k listed
 step:Rel0 κ κ'
 pre:listed.getD q0 false=false→Rel1 κ κ'
 off:∀ t,(∀ j,j<k→t≠dstOf c j)→E' t=E t
 done:∀ j,j<k→listed.getD j false=true→S j (E' (dstOf c j)) κ'
theorem zuf {c0:Code} {p:List Nat} (q0:Nat) (Rel0 Rel1:K→K→Prop) (rr:∀ κ,Rel1 κ κ) (rt0:∀ κ1 κ2 κ3,Rel0 κ1 κ2→Rel0 κ2 κ3→Rel0 κ1 κ3) (rt1:∀ κ1 κ2 κ3,Rel1 κ1 κ2→Rel1 κ2 κ3→Rel1 κ1 κ3)
  (r10:∀ κ1 κ2,Rel1 κ1 κ2→Rel0 κ1 κ2) (k:Nat) (S:Nat→Value→K→Prop) (h:zbK (sub c0 p)=some true) (hm:P.follows .mixedOrders=true)
  (hB:zlB (sub c0 p) n k=true)
  (mono:∀ i v κ1 κ2,i<k→S i v κ1→Rl q0 i Rel1 Rel0 κ1 κ2→S i v κ2)
  (hop:∀ i,i<k→∀ w κ',Rl q0 i Rel1 Rel0 κ κ'→(∀ t,(∀ j,j<k→t≠dstOf (sub c0 p) j)→w t=E t)→
   (∀ j,j<k→dep (sub c0 p) i j=true→S j (w (dstOf (sub c0 p) j)) κ')→OpQ P (Rl q0 i Rel0 Rel1) (sub c0 p) i w κ' (S i))
  (fin:∀ w κ',Rel0 κ κ'→(∀ t,(∀ j,j<k→t≠dstOf (sub c0 p) j)→w t=E t)→(∀ j,j<k→S j (w (dstOf (sub c0 p) j)) κ')→
   owp P n (sub c0 p) k Q w κ'):cwp P n (sub c0 p) Q E κ:=by
 generalize sub c0 p=s at *;unfold zlB at hB;simp only [ao,decide_eq_true_eq,Bool.or_eq_true] at hB;obtain ⟨⟨⟨⟨hk,a6⟩,b6⟩,a3⟩,b0⟩:=hB;have T:∀ i o,(opsOf s)[i]?=some o→∀ e∈o.after,Region.binds .any e=true→e.on<i:=by
  intro i o hi e Y q;have c6:i<(opsOf s).size:=(ae.1 hi).1;have I:=be.1 a6 i (fe.2 c6);have ho:zv s i=o:=by unfold zv;rw [hi];rfl
  rw [ho] at I;have h2:=(Array.all_eq_true_iff_forall_mem.1 I) e Y;simpa [q] using h2
 have y:∀ i,i<k→(zv s i).dst=some (dstOf s i)∧dstOf s i<n∧∀ j,j<i→dstOf s j≠dstOf s i:=by
  intro i hi;have I:=be.1 b6 i (fe.2 hi);simp only [ao,beq_iff_eq,decide_eq_true_eq] at I;refine ⟨I.1.1,I.1.2,fun j H=>?_⟩;have:=be.1 I.2 j (fe.2 H);simpa using this
 have b2:∀ i j,i<k→j<k→i≠j→dstOf s i≠dstOf s j:=by
  intro i j hi H c7;rcases gg c7 with h | h
  ·exact (y j H).2.2 i h
  ·exact ((y i hi).2.2 j h).symm
 cases s<;>simp [zbK] at h;rename_i id ops dr;subst h;simp only [opsOf] at *;have b5:∀ m b w κ' C d a,Fits n a w→DInv q0 Rel0 Rel1 n (.region id ops true) E κ k S b w κ'→unl b k=m→
   wpAnyIn FF 0 P .any ops (zl3 n C Q) (m+(ops.size - k)) b a (W C κ' d):=by
  intro m
  induction m with
  | zero=>
   intro b w κ' C d a hf c hu;have G:=zqW hu;have a2:b=zhH k ops.size:=by
    apply Array.ext
    ·simp [zhH];exact c.head.size
    ·intro i I h2;simp only [zhH,Array.getElem_map,Array.getElem_range];by_cases g:i<k
     ·have:=G i g;simp [I] at this;rw [this];simp [g]
     ·have:=c.head.tail i (by omega) (by rw [←c.head.size];exact I);simp [I] at this;rw [this];simp [g]
   subst a2;have d4:=fin w κ' c.step c.off (fun j H=>c.done j H (G j H)) C d a hf;have X:=zhS (F:=FF) (n:=0) (P:=P) (md:=.any) (ops:=ops) (Q':=zl3 n C Q) (ops.toList.drop k) k (zhH k ops.size) a (W C κ' d)
    (fun j=>by simp [co]) (by simpa using b0) (by
     have Y:=wpOpsIn_eq_wpListIn (F:=FF) (n:=0) (P:=P) (ops:=ops) (Q:=zl3 n C Q) (ops.toList.drop k) k (fun j=>by simp [co]);have J:(ops.toList.drop k).length=ops.size - k:=by simp
     rw [J] at Y;rw [←Y];exact d4)
   have J:(ops.toList.drop k).length=ops.size - k:=by simp
   rw [J] at X;simpa using X
  | succ m ih=>
   intro b w κ' C d a hf c hu;obtain ⟨U,d5,a1,b1⟩:=zsT hu;have D:U<ops.size:=by omega
   have u:U∈Region.ready .any ops b:=by
    refine mem_ready.2 ⟨?_,ops[U],by simp [D],?_⟩
    ·have:U<b.size:=by rw [c.head.size];exact D
     simp [this] at a1 ⊢;exact a1
    ·intro e Y q;exact b1 e.on (T U ops[U] (by simp [D]) e Y q)
   have d6:m+1+(ops.size - k)=(m+(ops.size - k))+1:=by omega
   rw [d6];refine ⟨fun h0=>(by rw [h0] at u;cases u),fun i hi=>?_⟩;obtain ⟨c2,oi,a7,G⟩:=mem_ready.1 hi;have a8:i<ops.size:=(ae.1 a7).1;have g:i<k:=by
    rcases gd i k with h | h
    ·exact h
    ·rcases a3 with ht | ⟨hs,hc⟩
     ·omega
     ·have a9:b.getD U true=false:=getD_in (by rw [c.head.size];exact D) a1;exact absurd hi (tail_waits hs hc (by omega) c.head _ U rfl d5 a9 i h)
   have O:zv (.region id ops true) i=oi:=by unfold zv opsOf;rw [a7];rfl
   obtain ⟨c9,c5,e0⟩:=y i g;have c1:Rl q0 i Rel1 Rel0 κ κ':=by
    unfold Rl;cases q:Nat.beq i q0 with
    | false=>exact c.step
    | true=>have:=fv q;subst this;exact c.pre (getD_both c2)
   have Z:=hop i g w κ' c1 c.off (fun j H M=>by
    refine c.done j H ?_;unfold dep at M;rw [O] at M;obtain ⟨e,Y,q⟩:=Array.any_eq_true'.1 M;simp only [ao,beq_iff_eq] at q;have:=G e Y q.1;rw [q.2] at this;exact this)
   have c8:b.getD i false=false:=getD_both c2;have V:i<b.size:=by rw [c.head.size];exact a8
   have L:∀ v κ2 d2,Rl q0 i Rel0 Rel1 κ' κ2→S i v κ2→wpAnyIn FF 0 P .any ops (zl3 n C Q) (m+(ops.size - k)) (b.setIfInBounds i true) (a.put oi.dst v) (W C κ2 d2):=by
    intro v κ2 d2 B hS;rw [←O,c9];refine ih _ (upd w (dstOf (.region id ops true) i) v) κ2 C d2 _ (hf.put c5 v) ⟨c.head.set hi g,?_,?_,fun t ht=>?_,fun j H c3=>?_⟩ ?_
    ·exact rt0 _ _ _ c.step (zyW r10 B)
    ·intro a4;have N:i≠q0:=fun e=>by
      subst e;simp [V] at a4
     rw [getD_set_ne false N] at a4;have b8:Rel1 κ' κ2:=zyV N B;exact rt1 _ _ _ (c.pre a4) b8
    ·have N:=ht i g;unfold upd;have q:Nat.beq t (dstOf (.region id ops true) i)=false:=by
      cases q:Nat.beq t (dstOf (.region id ops true) i) with
      | false=>rfl
      | true=>exact absurd (fv q) N
     rw [q];exact c.off t ht
    ·by_cases R:j=i
     ·subst R;unfold upd;rw [Nat.beq_refl];exact hS
     ·have q:Nat.beq (dstOf (.region id ops true) j) (dstOf (.region id ops true) i)=false:=by
       cases q:Nat.beq (dstOf (.region id ops true) j) (dstOf (.region id ops true) i) with
       | false=>rfl
       | true=>exact absurd (fv q) (b2 j i H g R)
      unfold upd;rw [q];refine mono j _ κ' κ2 H (c.done j H ?_) (zyD r10 R B);rw [getD_set_ne false (Ne.symm R)] at c3;exact c3
    ·have:=zsS g V c8;omega
   unfold wpOpIn;simp only [a7];have A:=zhI hf (.region id ops true) i;rw [O] at A;simp only [opsOf] at A;rw [A];cases hw:za0 (.region id ops true) i w with
   | false=>
    rw [if_neg (by simp)];exact ⟨fun _ _=>trivial,L undef κ' d (zyC r10 rr) (Z.2 hw)⟩
   | true=>
    rw [if_pos rfl];have hq:=Z.1 hw C d;rw [O,←hf.eval] at hq;generalize hrr:(execOp a.eval oi).run P (W C κ' d)=r at *;cases r with
    | halt x w'=>exact hq.elim
    | ok nx w'=>
     cases nx with
     | value v=>
      obtain ⟨κ2,d2,rfl,B,hS⟩:=hq;exact zju hrr (L v κ2 d2 B hS)
     | enter f args=>
      obtain ⟨κ2,d2,rfl,B,d0⟩:=hq;refine zol hrr ?_;refine (d0 C d2).mono ?_;rintro e w2 ⟨v,κ3,d3,rfl,rfl,c4,hS⟩;exact L v κ3 d3 (zxM rt0 rt1 B c4) hS
     | _=>exact hq.elim
 intro C d a hf;refine wpIn_region_any hm ?_;have b3:DInv q0 Rel0 Rel1 n (.region id ops true) E κ k S (Array.replicate ops.size false) E κ:=by
  refine ⟨⟨by simp [opsOf],fun j oj _ X=>?_,fun t _ ht=>?_⟩,r10 _ _ (rr _),fun _=>rr _,fun _ _=>rfl,fun j _ X=>?_⟩
  ·rw [getD_replicate_false] at X;cases X
  ·exact getD_in (by simpa [opsOf] using ht) (getD_replicate_false _ _)
  ·rw [getD_replicate_false] at X;cases X
 have hu:unl (Array.replicate ops.size false) k=k:=by
  unfold unl;rw [bz.2 (fun i _=>by rw [getD_replicate_false];rfl)];simp
 have hm':=b5 k (Array.replicate ops.size false) E κ C (d+1) a hf b3 hu;have hsz:k+(ops.size - k)=ops.size:=by omega
 rw [hsz] at hm';exact hm'
end
def I64 (n:Int):Prop := -9223372036854775808≤n∧n≤9223372036854775807
def zkn (κ:K) (b off:Nat) (cs:List Value):Prop:=∀ j v,cs[j]?=some v→κ.cell b (off+j)=some v
def PubAt (κ:K) (b off:Nat) (cs:List Value):Prop:=b<κ.H.size∧off+cs.length≤κ.fr b∧zkn κ b off cs
theorem PubAt.step {M:List Nat} {κ κ':K} {b off:Nat} {cs:List Value} (s:Step M κ κ') (h:PubAt κ b off cs):PubAt κ' b off cs:=by
 obtain ⟨a,e,f⟩:=h;refine ⟨gc a s.1,fz e (s.2.2.1 b a).1,fun j v c=>?_⟩;have d:j<cs.length:=(cv.1 c).1;rw [(s.2.2.1 b a).2 (off+j) (by omega)];exact f j v c
def At (κ:K) (b off:Nat) (cs:List Value):Prop:=b<κ.H.size∧zkn κ b off cs
theorem PubAt.at {κ:K} {b off:Nat} {cs:List Value} (h:PubAt κ b off cs):At κ b off cs:=⟨h.1,h.2.2⟩
theorem At.step {M:List Nat} {κ κ':K} {b off:Nat} {cs:List Value} (s:Step M κ κ') (hm:b∉M) (h:At κ b off cs):At κ' b off cs:=by
 obtain ⟨a,d⟩:=h;refine ⟨gc a s.1,fun j v c=>?_⟩;have:=d j v c;unfold K.cell at *;rw [(s.2.1 b a hm).1];exact this
theorem At.step0 {κ κ':K} {b off:Nat} {cs:List Value} (s:Step [] κ κ') (h:At κ b off cs):At κ' b off cs:=h.step s (by simp)
theorem At.part {κ:K} {b off:Nat} {cs:List Value} (h:At κ b off cs) (i m:Nat):At κ b (off+i) ((cs.drop i).take m):=
 ⟨h.1,fun j v a=>by
  rw [dm] at a;split at a
  ·rw [co] at a;rw [Nat.add_assoc];exact h.2 (i+j) v a
  ·cases a⟩
structure Ty (α:Type) where
 size:Nat
 own:K→List Value→α→Prop
 len:∀ {κ cs x},own κ cs x→cs.length=size
 step:∀ {M κ κ' cs x},Step M κ κ'→own κ cs x→own κ' cs x
 one:∀ {κ cs x},own κ cs x→∀ v∈cs,v.oneCell'=true
def tI64:Ty Int:=⟨1,fun _ cs n=>cs=[.int .i64 n]∧I64 n,fun h=>by rw [h.1];rfl,fun _ h=>h,fun h v hv=>by rw [h.1] at hv;simp at hv;subst hv;rfl⟩
def tU8:Ty Int:=⟨1,fun _ cs n=>cs=[.int .u8 n]∧0≤n∧n≤255,fun h=>by rw [h.1];rfl,fun _ h=>h,fun h v hv=>by rw [h.1] at hv;simp at hv;subst hv;rfl⟩
def zAc:Ty Int:=⟨1,fun _ cs n=>cs=[.int .i32 n] ∧ -2147483648≤n∧n≤2147483647,fun h=>by rw [h.1];rfl,fun _ h=>h,fun h v hv=>by rw [h.1] at hv;simp at hv;subst hv;rfl⟩
def zsj:Ty Bool:=⟨1,fun _ cs b=>cs=[.bool b],fun h=>by rw [h];rfl,fun _ h=>h,fun h v hv=>by rw [h] at hv;simp at hv;subst hv;rfl⟩
def zw (s:List UInt8):Value:=.string ⟨s.toArray⟩
def tStr:Ty (List UInt8):=⟨1,fun _ cs s=>cs=[zw s]∧s.length≤9223372036854775807,fun h=>by rw [h.1];rfl,fun _ h=>h,fun h v hv=>by rw [h.1] at hv;simp at hv;subst hv;rfl⟩
def zAa:Ty Value:=⟨1,fun _ cs v=>cs=[v]∧v.oneCell'=true,fun h=>by rw [h.1];rfl,fun _ h=>h,fun h v hv=>by rw [h.1] at hv;simp at hv;rw [hv];exact h.2⟩
def tPair {α β:Type} (a:Ty α) (b:Ty β):Ty (α×β):=
 ⟨a.size+b.size,fun κ cs x=>∃ c1 c2,cs=c1++c2∧a.own κ c1 x.1∧b.own κ c2 x.2,
  fun ⟨c1,c2,h,h1,h2⟩=>by rw [h,du,a.len h1,b.len h2],
  fun s ⟨c1,c2,h,h1,h2⟩=>⟨c1,c2,h,a.step s h1,b.step s h2⟩,
  fun ⟨c1,c2,h,h1,h2⟩ v hv=>by rw [h,ep] at hv;exact hv.elim (a.one h1 v) (b.one h2 v)⟩
structure Sl {α:Type} (t:Ty α) (κ:K) (a:Option Addr) (c:Nat) (l:List α):Prop where
 cap:l.length≤c
 most:l.length≤9223372036854775807
 elems:0<l.length→∃ b off,a=some ⟨b,off,none⟩∧∀ i x,l[i]?=some x→∃ cs,PubAt κ b (off+i*t.size) cs∧t.own κ cs x
theorem Sl.step {α:Type} {t:Ty α} {M:List Nat} {κ κ':K} {a:Option Addr} {c:Nat} {l:List α} (s:Step M κ κ') (h:Sl t κ a c l):Sl t κ' a c l:=
 ⟨h.cap,h.most,fun f=>by
  obtain ⟨b,off,e,d⟩:=h.elems f;exact ⟨b,off,e,fun i x g=>let ⟨cs,hp,ho⟩:=d i x g;⟨cs,hp.step s,t.step s ho⟩⟩⟩
def tSl {α:Type} (t:Ty α):Ty (List α):=
 ⟨1,fun κ cs l=>∃ a c,cs=[.slice a l.length c]∧Sl t κ a c l,fun ⟨_,_,h,_⟩=>by rw [h];rfl,fun s ⟨a,c,h,hs⟩=>⟨a,c,h,hs.step s⟩,
  fun ⟨_,_,h,_⟩ v hv=>by rw [h] at hv;simp at hv;subst hv;rfl⟩
def idx {α:Type} (l:List α) (i:Int):Option α:=if 0≤i then l[i.toNat]? else none
theorem ziD {α:Type} {l:List α} {i:Int} {x:α} (h:idx l i=some x):0≤i∧i<l.length∧l[i.toNat]?=some x:=by
 unfold idx at h;split at h
 ·rename_i h0;have:=(cv.1 h).1;exact ⟨h0,by omega,h⟩
 ·cases h
theorem Sl.nil {α:Type} (t:Ty α) (κ:K):Sl t κ none 0 []:=⟨fy _,by simp,fun h=>by simp at h⟩
theorem Sl.idx {α:Type} {t:Ty α} {κ:K} {a:Option Addr} {c:Nat} {l:List α} (h:Sl t κ a c l) {i:Int} {x:α} (hx:idx l i=some x) :
  ∃ b off,a=some ⟨b,off,none⟩∧0≤i∧i<(l.length:Int)∧∃ cs,PubAt κ b (off+i.toNat*t.size) cs∧t.own κ cs x:=by
 obtain ⟨m,k,j⟩:=ziD hx;have n:0<l.length:=by omega
 obtain ⟨b,off,g,f⟩:=h.elems n;obtain ⟨cs,d,e⟩:=f _ _ j;exact ⟨b,off,g,m,k,cs,d,e⟩
def zdY (P:Program) (T:TypeId):Option Bool:=
 match P.underlying T with
 | some (.struct _) | some (.array _ _)=>some true
 | some _=>some false
 | none=>none
def zG (P:Program) (T:TypeId):Option Nat:=(P.info? T).map (·.size)
def zj6 (P:Program) (T:TypeId):Option Nat:=(P.info? T).map (·.bytes)
def zC (P:Program) (T:TypeId):Option TypeId:=
 match P.underlying T with
 | some (.slice e)=>some e
 | _=>none
def zct (P:Program) (T:TypeId):Option Value:=(P.info? T).bind (·.zero)
section
variable {P:Program} {T:TypeId}
theorem zy {d:TypeDesc} (h:P.underlying T=some d) (w:World):(underlying T).run P w=.ok d w:=by
 unfold underlying;simp [h]
theorem zlZ {b:Bool} (h:zdY P T=some b) (w:World):(isAgg T).run P w=.ok b w:=by
 unfold zdY at h;unfold isAgg;cases hd:P.underlying T with
 | none=>rw [hd] at h;cases h
 | some d=>rw [hd] at h;rw [ay,zy hd];cases d<;>simp_all
theorem zS {k:Nat} (h:zG P T=some k) (w:World):(sizeOf T).run P w=.ok k w:=by
 unfold zG at h;unfold sizeOf typeInfo;cases hd:P.info? T with
 | none=>rw [hd] at h;cases h
 | some d=>rw [hd] at h;simp at h;simp [hd,h]
theorem zfk {z:Value} (h:zct P T=some z) (w:World):(zeroValue T).run P w=.ok z w:=by
 unfold zct at h;unfold zeroValue typeInfo;cases hd:P.info? T with
 | none=>rw [hd] at h;cases h
 | some d=>
  rw [hd] at h;simp only [gp] at h;simp [hd,h]
end
def vOf (s:Sem Value):Sem Next:=do pure (.value (←s))
def uOf (s:Sem Unit):Sem Next:=do s;pure .skip
theorem zB {P:Program} {s:Sem Value} {w w':World} {v:Value} (h:s.run P w=.ok v w'):(vOf s).run P w=.ok (.value v) w':=by
 unfold vOf;rw [ay,h];rfl
theorem zqI {P:Program} {s:Sem Unit} {w w':World} (h:s.run P w=.ok () w'):(uOf s).run P w=.ok .skip w':=by
 unfold uOf;rw [ay,h];rfl
theorem zkX [Fb] (C:Cx) (κ:K) (d b o:Nat):(W C κ d).cell? ⟨b,o,none⟩=κ.cell b o:=by
 unfold World.cell? K.cell W;cases κ.H[b]? with
 | none=>rfl
 | some x=>cases x<;>rfl
theorem zfT {P:Program} {T:TypeId} [Fb] {C:Cx} {κ:K} {d b off:Nat} {v:Value} (hT:zdY P T=some false) (h:κ.cell b off=some v) :
  (Instr.loadAt T (.pointer (some ⟨b,off,none⟩))).run P (W C κ d)=.ok v (W C κ d):=by
 unfold Instr.loadAt Instr.sureAddr loadVar;simp only [ay,az,ax,zlZ hT,Sem.run_ite,aq,if_false];rw [run_load];rw [zkX,h]
theorem zeO {P:Program} {T:TypeId} [Fb] {C:Cx} {κ:K} {d b off:Nat} {cs:List Value} (hT:zdY P T=some true) (hs:zG P T=some cs.length)
  (h:zkn κ b off cs):(Instr.loadAt T (.pointer (some ⟨b,off,none⟩))).run P (W C κ d)=.ok (.agg cs.toArray) (W C κ d):=by
 unfold Instr.loadAt Instr.sureAddr loadVar;simp only [ay,az,ax,zlZ hT,Sem.run_ite,if_true,zS hs];rw [run_loadCells_list _ _ cs (fun j v a=>?_)]
 ·rfl
 ·have:Addr.add ⟨b,off,none⟩ j=⟨b,off+j,none⟩:=by unfold Addr.add;split<;>simp_all
  rw [this,zkX];exact h j v a
abbrev Tag:=Nat×Nat
structure Box (τ:Tag) (κ:K) (b:Nat) (cs:List Value) (T:TypeId):Prop where
 obj:κ.H[b]?=some (.cells cs.toArray T (0,0))
 fr:κ.fr b=0
 tag:κ.tag b=τ
 ge:τ.1≤b
theorem Box.lt {τ:Tag} {κ:K} {b:Nat} {cs:List Value} {T:TypeId} (h:Box τ κ b cs T):b<κ.H.size:=(ae.1 h.obj).1
theorem Box.at {τ:Tag} {κ:K} {b:Nat} {cs:List Value} {T:TypeId} (h:Box τ κ b cs T):At κ b 0 cs:=
 ⟨h.lt,fun j v a=>by unfold K.cell;rw [h.obj];simpa using a⟩
theorem Box.step {M:List Nat} {τ:Tag} {κ κ':K} {b:Nat} {cs:List Value} {T:TypeId} (s:Step M κ κ') (hm:b∉M) (h:Box τ κ b cs T):Box τ κ' b cs T:=
 ⟨(s.2.1 b h.lt hm).1.trans h.obj,(s.2.1 b h.lt hm).2.1.trans h.fr,(s.2.1 b h.lt hm).2.2.trans h.tag,h.ge⟩
theorem Box.ne {τ τ':Tag} {κ:K} {b b':Nat} {cs cs':List Value} {T T':TypeId} (h:Box τ κ b cs T) (h':Box τ' κ b' cs' T') (hn:τ≠τ'):b≠b':=by
 intro e;subst e;exact hn (h.tag.symm.trans h'.tag)
theorem Box.step0 {τ:Tag} {κ κ':K} {b:Nat} {cs:List Value} {T:TypeId} (s:Step [] κ κ') (h:Box τ κ b cs T):Box τ κ' b cs T:=h.step s (by simp)
def K.push (κ:K) (o:Obj) (m:Nat) (τ:Tag):K:=⟨κ.H.push o,fun b=>if b=κ.H.size then m else κ.fr b,fun b=>if b=κ.H.size then τ else κ.tag b⟩
theorem zbp (κ:K) (o:Obj) (m:Nat) (τ:Tag):Step [] κ (κ.push o m τ):=by
 refine ⟨by simp [K.push],fun b a _=>⟨?_,?_,?_⟩,fun b a=>⟨?_,fun i _=>?_⟩,fun b a _=>⟨?_,?_⟩⟩
 ·simp only [K.push];rw [Array.getElem?_push_lt a];simp [a]
 ·simp only [K.push];rw [if_neg (by omega)]
 ·simp only [K.push];rw [if_neg (by omega)]
 ·simp only [K.push];rw [if_neg (by omega)];exact fy _
 ·unfold K.cell K.push;rw [Array.getElem?_push_lt a];simp [a]
 ·simp only [K.push];rw [if_neg (by omega)]
 ·unfold K.shp K.push;rw [Array.getElem?_push_lt a];simp [a]
theorem zps (κ:K) (cs:List Value) (T:TypeId) (τ:Tag) (h:τ.1≤κ.H.size):Box τ (κ.push (.cells cs.toArray T) 0 τ) κ.H.size cs T:=
 ⟨by simp [K.push],by simp [K.push],by simp [K.push],h⟩
section
variable [Fc] [Fb] {P:Program} {n:Nat} {c:Code} {i:Nat} {Q:zaH} {E:Env} {κ:K}
theorem zvT {d b off:Nat} {T:TypeId} {v:Value} (h:st c i n E (some d)=true) (ho:execOp (ev E) (zv c i)=vOf (Instr.loadAt T (.pointer (some ⟨b,off,none⟩))))
  (hT:zdY P T=some false) (hv:κ.cell b off=some v) (hk:owp P n c (i+1) Q (upd E d v) κ):owp P n c i Q E κ:=
 zfB v h (fun C a=>by rw [ho];exact zB (zfT hT hv)) hk
theorem zvS {d b off:Nat} {T:TypeId} {cs:List Value} (h:st c i n E (some d)=true) (ho:execOp (ev E) (zv c i)=vOf (Instr.loadAt T (.pointer (some ⟨b,off,none⟩))))
  (hT:zdY P T=some true) (hs:zG P T=some cs.length) (hv:zkn κ b off cs) (hk:owp P n c (i+1) Q (upd E d (.agg cs.toArray)) κ):owp P n c i Q E κ:=
 zfB _ h (fun C a=>by rw [ho];exact zB (zeO hT hs hv)) hk
theorem At.one {b off o:Nat} {cs:List Value} {v:Value} (h:At κ b off cs) (hj:cs[o]?=some v):κ.cell b (off+o)=some v:=h.2 o v hj
theorem znJ {d:Nat} {T:TypeId} (τ:Tag) (hτ:τ.1≤κ.H.size) (zs:List Value) (h:st c i n E (some d)=true) (ho:execOp (ev E) (zv c i)=vOf (Instr.alloc T true (.tuple #[])))
  (hz:(zct P T).map Value.cells=some zs.toArray)
  (hk:∀ b κ',Step [] κ κ'→Box τ κ' b zs T→owp P n c (i+1) Q (upd E d (.pointer (some ⟨b,0,none⟩))) κ'):owp P n c i Q E κ:=by
 obtain ⟨z,e,a⟩:=gt.1 hz;refine zfB (κ':=κ.push (.cells zs.toArray T) 0 τ) _ h (fun C f=>?_) (hk κ.H.size _ (zbp _ _ _ _) (zps _ _ _ _ hτ));rw [ho];refine zB ?_;unfold Instr.alloc;simp only [ay,zfk e,ax];unfold newVar newRow;rw [a];rfl
theorem xT (d T:Nat) (τ:Tag) (hτ:τ.1≤κ.H.size) (zs:List Value)
  (hk:∀ b κ',Step [] κ κ'→Box τ κ' b zs T→owp P n c (i+1) Q (upd E d (.pointer (some ⟨b,0,none⟩))) κ') (h:st c i n E (some d)=true:=by kernel_rfl) (ho:execOp (ev E) (zv c i)=vOf (Instr.alloc T true (.tuple #[])):=by kernel_rfl)
  (hz:(zct P T).map Value.cells=some zs.toArray:=by kernel_rfl):owp P n c i Q E κ:=znJ τ hτ zs h ho hz hk
theorem zx5 {d:Nat} {T:TypeId} (τ:Tag) (hτ:τ.1≤κ.H.size) (v:Value) (cs:List Value) (h:st c i n E (some d)=true) (ho:execOp (ev E) (zv c i)=vOf (Instr.box T v))
  (hv:v.cells=cs.toArray)
  (hk:∀ b κ',Step [] κ κ'→Box τ κ' b cs T→owp P n c (i+1) Q (upd E d (.pointer (some ⟨b,0,none⟩))) κ'):owp P n c i Q E κ:=by
 refine zfB (κ':=κ.push (.cells cs.toArray T) 0 τ) _ h (fun C a=>?_) (hk κ.H.size _ (zbp _ _ _ _) (zps _ _ _ _ hτ));rw [ho];refine zB ?_;unfold Instr.box newVar newRow;rw [hv];rfl
theorem xO (d T:Nat) (τ:Tag) (hτ:τ.1≤κ.H.size) (cs:List Value)
  (hk:∀ b κ',Step [] κ κ'→Box τ κ' b cs T→owp P n c (i+1) Q (upd E d (.pointer (some ⟨b,0,none⟩))) κ') (h:st c i n E (some d)=true:=by kernel_rfl) (ho:execOp (ev E) (zv c i)=vOf (Instr.box T (.agg cs.toArray)):=by kernel_rfl):owp P n c i Q E κ:=zx5 τ hτ (.agg cs.toArray) cs h ho rfl hk
end
def splice (cs:List Value) (off:Nat):List Value→List Value
 | []=>cs
 | v::vs=>splice (cs.set off v) (off+1) vs
theorem zfe (vs:List Value):∀ (cs:List Value) (off:Nat),(splice cs off vs).length=cs.length:=by
 induction vs with
 | nil=>intro cs off;rfl
 | cons v vs ih=>intro cs off;rw [splice,ih,ee]
def K.setB (κ:K) (b:Nat) (cs:List Value) (T:TypeId):K:=⟨κ.H.setIfInBounds b (.cells cs.toArray T (0,0)),κ.fr,κ.tag⟩
theorem zhJ {τ:Tag} {κ:K} {b:Nat} {cs cs':List Value} {T:TypeId} (h:Box τ κ b cs T):Step [b] κ (κ.setB b cs' T):=by
 refine ⟨by simp [K.setB],fun x c hm=>⟨?_,rfl,rfl⟩,fun x c=>⟨fy _,fun o f=>?_⟩,fun x c d=>⟨rfl,?_⟩⟩
 ·simp only [K.setB];have:b≠x:=fun e=>hm (by simp [e]);rw [ai this]
 ·by_cases a:b=x
  ·subst a;rw [h.fr] at f;omega
  ·unfold K.cell K.setB;rw [ai a]
 ·have a:b≠x:=fun e=>by rw [←e,h.fr] at d;omega
  unfold K.shp K.setB;rw [ai a]
theorem ziF {τ:Tag} {κ:K} {b:Nat} {cs cs':List Value} {T:TypeId} (h:Box τ κ b cs T):Box τ (κ.setB b cs' T) b cs' T:=
 ⟨by simp [K.setB,h.lt],h.fr,h.tag,h.ge⟩
theorem zwo {τ:Tag} [Fb] {C:Cx} {κ:K} {d b off:Nat} {cs:List Value} {T:TypeId} {v:Value} (h:Box τ κ b cs T) :
  (W C κ d).setCell ⟨b,off,none⟩ v=W C (κ.setB b (cs.set off v) T) d:=by
 have g:=h.lt;unfold World.setCell W K.setB;simp only [Option.isSome_none,aq,if_false];congr 1;apply Array.ext
 ·simp
 ·intro j k m;have f:j<κ.H.size:=by simpa using k
  rw [Array.getElem_modify];by_cases e:b=j
  ·subst e;have a:=h.obj;rw [ac f] at a;have c:=Option.some.inj a;simp [c]
  ·rw [if_neg e,Array.getElem_setIfInBounds_ne f e]
theorem zih {P:Program} {τ:Tag} [Fb] {C:Cx} {d b off:Nat} {T:TypeId} (vs:List Value):∀ (i:Nat) (κ:K) (cs:List Value),Box τ κ b cs T→(∀ v∈vs,v.oneCell'=true)→
  off+i+vs.length≤cs.length→
  (storeCells ⟨b,off,none⟩ vs i).run P (W C κ d)=.ok () (W C (κ.setB b (splice cs (off+i) vs) T) d):=by
 induction vs with
 | nil=>
  intro i κ cs h _ _;have:κ.setB b cs T=κ:=by
   have m:=h.lt;have c:=h.obj;rw [ac m] at c;cases κ with
   | mk H fr=>
    simp only [K.setB];congr 1;apply Array.ext
    ·simp
    ·intro j s r;by_cases k:b=j
     ·subst k;simp;exact (Option.some.inj c).symm
     ·rw [Array.getElem_setIfInBounds_ne];exact k
  rw [splice,this];rfl
 | cons v vs ih=>
  intro i κ cs h a e;have p:Addr.add ⟨b,off,none⟩ i=⟨b,off+i,none⟩:=by unfold Addr.add;split<;>simp_all
  have f:off+i<cs.length:=by simp only [dv] at e;omega
  unfold storeCells;rw [ay,run_store _ _ _ _ _ (a v (by simp)),p,zkX];have g:κ.cell b (off+i)=some cs[off+i]:=by
   unfold K.cell;rw [h.obj];simp [f]
  have n:(W C κ d).frozen? ⟨b,off+i,none⟩=false:=by
   unfold World.frozen? W;simp only [h.obj];simp
  rw [g];simp only [n];rw [zwo h];simp only [aq,if_false,ax];have h':=ih (i+1) (κ.setB b (cs.set (off+i) v) T) (cs.set (off+i) v) (ziF h) (fun u q=>a u (by simp [q])) (by simp only [dv] at e;simp;omega);rw [h'];rw [splice];congr 2;unfold K.setB;simp only [];congr 1;apply Array.ext_getElem?;intro j;by_cases k:b=j
  ·subst k;simp [Nat.add_assoc]
  ·simp [ai k]
def zoH (vs:List Value):Bool:=vs.all Value.oneCell'
theorem zmo {P:Program} {τ:Tag} {T U:TypeId} [Fb] {C:Cx} {κ:K} {d b off:Nat} {cs:List Value} {v:Value} {vs:List Value} (h:Box τ κ b cs U)
  (hv:v.cells=vs.toArray) (hs:zG P T=some vs.length) (hone:zoH vs=true) (hlen:off+vs.length≤cs.length) :
  (Instr.storeAt T (.pointer (some ⟨b,off,none⟩)) v).run P (W C κ d)=.ok () (W C (κ.setB b (splice cs off vs) U) d):=by
 unfold Instr.storeAt Instr.sureAddr storeVar;simp only [ay,az,ax,zS hs,Sem.run_ite];rw [hv];simp only [fo,ne_eq,not_true_eq_false,if_false];have:=zih (P:=P) (C:=C) (d:=d) (off:=off) vs 0 κ cs h (fun u a=>(be.1 hone) u a) (by omega);simpa using this
section
variable [Fc] [Fb] {P:Program} {n:Nat} {c:Code} {i:Nat} {Q:zaH} {E:Env} {κ:K}
theorem zet {τ:Tag} {b off:Nat} {T U:TypeId} {cs:List Value} (v:Value) (vs cs':List Value) (h:st c i n E none=true)
  (ho:execOp (ev E) (zv c i)=uOf (Instr.storeAt T (.pointer (some ⟨b,off,none⟩)) v)) (hb:Box τ κ b cs U)
  (hv:v.cells=vs.toArray) (hs:zG P T=some vs.length) (hone:zoH vs=true) (hlen:Nat.ble (off+vs.length) cs.length=true) (hcs:splice cs off vs=cs')
  (hk:∀ κ',Step [b] κ κ'→κ.H.size=κ'.H.size→Box τ κ' b cs' U→owp P n c (i+1) Q E κ'):owp P n c i Q E κ:=by
 subst hcs;exact zw2 h (fun C a=>by rw [ho];exact zqI (zmo hb hv hs hone (fx hlen))) (hk _ (zhJ hb) (by simp [K.setB]) (ziF hb))
theorem xM (T:Nat) (cs':List Value) {τ:Tag} {b:Nat} {U:TypeId} {cs:List Value} (hb:Box τ κ b cs U)
  (hk:∀ κ',Step [b] κ κ'→κ.H.size=κ'.H.size→Box τ κ' b cs' U→owp P n c (i+1) Q E κ') (h:st c i n E none=true:=by kernel_rfl)
  (ho:execOp (ev E) (zv c i)=uOf (Instr.storeAt T (.pointer (some ⟨b,0,none⟩)) (.agg cs'.toArray)):=by kernel_rfl)
  (hs:zG P T=some cs'.length:=by kernel_rfl) (hone:zoH cs'=true:=by kernel_rfl) (hlen:Nat.ble (0+cs'.length) cs.length=true:=by kernel_rfl) (hcs:splice cs 0 cs'=cs':=by rfl):owp P n c i Q E κ:=zet (.agg cs'.toArray) cs' cs' h ho hb rfl hs hone hlen hcs hk
theorem znf {T el:TypeId} {sz:Nat} {a:Addr} {ln cp:Nat} {k:IntKind} {ix:Int} (hT:zC P T=some el) (hs:zG P el=some sz)
  (h0:0≤ix) (h1:ix<ln) (w:World):(Instr.indexAt T (.slice (some a) ln cp) (.int k ix)).run P w=.ok (.pointer (some (a.add (ix.toNat*sz)))) w:=by
 have b:P.underlying T=some (.slice el):=by
  unfold zC at hT;split at hT
  ·rename_i e he;rw [he];injection hT with hT;subst hT;rfl
  ·cases hT
 unfold Instr.indexAt asIntOf;simp only [ay,az,ax,zy b];rw [if_pos ⟨h0,h1⟩];simp only [ay,zS hs,ax,az]
theorem zbn (b off k:Nat):Addr.add ⟨b,off,none⟩ k=⟨b,off+k,none⟩:=by unfold Addr.add;split<;>simp_all
theorem zvU {d b off:Nat} {a:Option Addr} {T el:TypeId} {sz ln cp:Nat} {k:IntKind} {ix:Int} (ea:a=some ⟨b,off,none⟩) (h:st c i n E (some d)=true)
  (ho:execOp (ev E) (zv c i)=vOf (Instr.indexAt T (.slice a ln cp) (.int k ix))) (hT:zC P T=some el) (hs:zG P el=some sz)
  (h0:0≤ix) (h1:ix<ln) (hk:owp P n c (i+1) Q (upd E d (.pointer (some ⟨b,off+ix.toNat*sz,none⟩))) κ):owp P n c i Q E κ:=by
 subst ea;exact zfB _ h (fun C e=>by rw [ho];exact zB (by rw [znf hT hs h0 h1,zbn])) hk
end
def zk2:List Value→Value
 | [v]=>v
 | vs=>.tuple vs.toArray
def zun (P:Program) (E:Env) (κ:K):List ResultVar→List Value→Prop
 | [],[]=>True
 | .tmp t::rs,v::vs=>E t=v∧zun P E κ rs vs
 | .cell a T::rs,v::vs=>(∃ b off cs,E a=.pointer (some ⟨b,off,none⟩)∧v=.agg cs.toArray∧zdY P T=some true∧zG P T=some cs.length∧zkn κ b off cs)∧zun P E κ rs vs
 | _,_=>False
def zrc (E:Env):ResultVar→Sem Value
 | .tmp t=>pure (E t)
 | .cell a t=>do loadVar t (←asAddr (E a))
theorem zuu {P:Program} {E:Env} {κ:K} [Fb] (C:Cx) (d:Nat):∀ (rs:List ResultVar) (vs:List Value),zun P E κ rs vs→
  (rs.mapM (zrc E)).run P (W C κ d)=.ok vs (W C κ d)
 | [],[],_=>rfl
 | .tmp t::rs,v::vs,h=>by
  obtain ⟨f,e⟩:=h;rw [List.mapM_cons];simp only [zrc,ay,az,ax,zuu C d rs vs e,f]
 | .cell a T::rs,v::vs,h=>by
  obtain ⟨⟨b,off,cs,f,e,m,j,k⟩,g⟩:=h;rw [List.mapM_cons];have c:=zeO (C:=C) (d:=d) m j k;unfold Instr.loadAt Instr.sureAddr at c;simp only [ay,az,ax] at c;simp only [zrc,f,asAddr,ay,az,ax,c,zuu C d rs vs g,e]
 | [],_::_,h=>by cases h
 | .tmp _::_,[],h=>by cases h
 | .cell _ _::_,[],h=>by cases h
theorem ztI {P:Program} {fn:Func} {E:Env} {κ:K} (rs:List ResultVar) (vs:List Value) (hr:fn.results=rs.toArray) (h:zun P E κ rs vs) [Fb] (C:Cx) (d:Nat) :
  (zvM fn E).run P (W C κ d)=.ok (zk2 vs) (W C κ d):=by
 have c:(fun (x:ResultVar)=>(match x with
   | .tmp t=>(pure (E t):Sem Value)
   | .cell a t=>do loadVar t (←asAddr (E a))))=zrc E:=by funext x;cases x<;>rfl
 unfold zvM;rw [hr];have hm:rs.toArray.mapM (m:=Sem) (zrc E)=Functor.map List.toArray (rs.mapM (zrc E)):=List.mapM_toArray;have b:vs.length=rs.length:=by
  clear hr hm
  induction rs generalizing vs with
  | nil=>cases vs with
   | nil=>rfl
   | cons v vs=>exact h.elim
  | cons r rs ih=>cases vs with
   | nil=>cases r<;>exact h.elim
   | cons v vs=>cases r<;>simp [ih vs h.2]
 rw [ay];change ((rs.toArray.mapM (m:=Sem) (zrc E)).run P (W C κ d)).andThen _=_;rw [hm,Sem.run_map,zuu C d rs vs h];simp only [ax,az];congr 1
 match vs with
 | []=>rfl
 | [v]=>rfl
 | v::u::vs=>simp [zk2]
theorem bind_some {α β:Type} {o:Option α} {f:α→Option β} {r:β} (h:o.bind f=some r):∃ x,o=some x∧f x=some r:=
 gm.1 h
theorem zyi {α:Type} {c:Bool} {a b o:α} (hc:c=true) (h:(if c=true then a else b)=o):a=o:=by rw [if_pos hc] at h;exact h
theorem zyj {α:Type} {c:Bool} {a b o:α} (hc:c=false) (h:(if c=true then a else b)=o):b=o:=by rw [if_neg (by simp [hc])] at h;exact h
def w64 (n:Int):Int:=IntKind.i64.wrap n
theorem zu8 (n:Int):w64 n=(n+9223372036854775808) % 18446744073709551616 - 9223372036854775808:=by
 have h:w64 n=(if n % 18446744073709551616≥9223372036854775808 then n % 18446744073709551616 - 18446744073709551616 else n % 18446744073709551616):=by
  unfold w64 IntKind.wrap;simp [IntKind.bits,IntKind.signed]
 rw [h];split<;>omega
theorem zo (n:Int):I64 (w64 n):=by
 rw [zu8];unfold I64;omega
theorem zas {n:Int} (h:I64 n):w64 n=n:=by
 rw [zu8];unfold I64 at h;omega
def zj0 {S X:Type}:Nat→(S→Option (S ⊕ X))→S→Option X
 | 0,_,_=>none
 | n+1,F,s=>match F s with
  | none=>none
  | some (.inl s')=>zj0 n F s'
  | some (.inr x)=>some x
theorem zov {S X:Type} {F:S→Option (S ⊕ X)}:∀ (n m:Nat) (s:S) (x:X),n≤m→zj0 n F s=some x→zj0 m F s=some x
 | 0,_,_,_,_,h=>by cases h
 | n+1,0,_,_,hle,_=>by omega
 | n+1,m+1,s,x,hle,h=>by
  unfold zj0 at h ⊢;cases hF:F s with
  | none=>rw [hF] at h;cases h
  | some y=>
   rw [hF] at h;cases y with
   | inl s'=>exact zov n m s' x (by omega) h
   | inr x'=>exact h
open Classical in
noncomputable def iter {S X:Type} (F:S→Option (S ⊕ X)) (s:S):Option X:=
 if h:∃ x,∃ n,zj0 n F s=some x then some (Classical.choose h) else none
theorem zdF {S X:Type} {F:S→Option (S ⊕ X)} {s:S} {x:X}:iter F s=some x↔∃ n,zj0 n F s=some x:=by
 unfold iter;constructor
 ·intro h;split at h
  ·rename_i a;injection h with h
   rw [←h];exact Classical.choose_spec a
  ·cases h
 ·intro b;have a:∃ x,∃ n,zj0 n F s=some x:=⟨x,b⟩;rw [dif_pos a];obtain ⟨n,b⟩:=b;obtain ⟨m,hm⟩:=Classical.choose_spec a;have d:=zov n (max n m) s x (by omega) b;have c:=zov m (max n m) s _ (by omega) hm;rw [d] at c;exact c.symm
theorem zD {S X:Type} {F:S→Option (S ⊕ X)} {s s':S} (h:F s=some (.inl s')):iter F s=iter F s':=by
 apply Option.ext;intro x;rw [zdF,zdF];constructor
 ·rintro ⟨n,a⟩;cases n with
  | zero=>cases a
  | succ n=>unfold zj0 at a;rw [h] at a;exact ⟨n,a⟩
 ·rintro ⟨n,a⟩;exact ⟨n+1,by unfold zj0;rw [h];exact a⟩
theorem zI {S X:Type} {F:S→Option (S ⊕ X)} {s:S} {x:X} (h:F s=some (.inr x)):iter F s=some x:=
 zdF.2 ⟨1,by unfold zj0;rw [h]⟩
theorem zv5 {S X:Type} {F:S→Option (S ⊕ X)} {s:S} (h:F s=none):iter F s=none:=by
 cases hi:iter F s with
 | none=>rfl
 | some x=>
  obtain ⟨n,a⟩:=zdF.1 hi;cases n with
  | zero=>cases a
  | succ n=>unfold zj0 at a;rw [h] at a;cases a
theorem zz {S X:Type} {F:S→Option (S ⊕ X)} (I:S→Prop) (μ:S→Nat) (R:X→Prop)
  (hstep:∀ s,I s→(∃ a,F s=some (.inl a)∧I a∧μ a<μ s)∨∃ x,F s=some (.inr x)∧R x):∀ s,I s→∃ x,iter F s=some x∧R x:=by
 have key:∀ m s,μ s=m→I s→∃ x,iter F s=some x∧R x:=by
  intro m
  induction m using Nat.strongRecOn with
  | _ m ih=>
   intro s hm b;rcases hstep s b with ⟨a,d,c,f⟩ | ⟨x,d,c⟩
   ·obtain ⟨x,g,e⟩:=ih (μ a) (hm▸f) a rfl c;exact ⟨x,by rw [zD d];exact g,e⟩
   ·exact ⟨x,zI d,c⟩
 exact fun s b=>key _ s rfl b
section
variable [Fc] [Fb] {P:Program} {n:Nat} {c:Code} {Q:zaH} {E:Env} {κ:K} {p:List Nat}
def zo8 {S X:Type} (y:S ⊕ X) (J:S→Env→K→Prop) (Q:zaH):zaH:=fun e E' κ'=>
 match e with
 | .normal=>∃ s',y=.inl s'∧J s' E' κ'
 | e=>Q e E' κ'
theorem zp {S X:Type} (F:S→Option (S ⊕ X)) (J:S→Env→K→Prop) (s0:S) (x:X) (h:zuJ (sub c p)=true) (hx:iter F s0=some x) (h0:J s0 E κ)
  (round:∀ s E κ,J s E κ→∀ y,F s=some y→(∀ x',y=.inr x'→x'=x)→cwp P n (sub c (0::p)) (zo8 y J Q) E κ):cwp P n (sub c p) Q E κ:=by
 obtain ⟨m,hm⟩:=zdF.1 hx;refine zkj (fun m E κ=>∃ s,zj0 m F s=some x∧J s E κ) h m ⟨s0,hm,h0⟩ ?_;rintro m E κ ⟨s,hs,f⟩;cases m with
 | zero=>cases hs
 | succ m=>
  unfold zj0 at hs;cases hF:F s with
  | none=>rw [hF] at hs;cases hs
  | some y=>
   rw [hF] at hs;refine zxz (round s E κ f y hF ?_) ?_
   ·rintro x' rfl;exact Option.some.inj hs
   ·intro e g κ' b;cases e with
    | normal=>
     obtain ⟨d,rfl,a⟩:=b;exact ⟨m,by omega,d,hs,a⟩
    | _=>exact b
end
theorem nm1 {b x:Nat} (h:b≠x):b∉[x]:=by simp [h]
theorem zqS [Fb] {P:Program} {Rel:K→K→Prop} {c:Code} {i:Nat} {E:Env} {κ:K} {R:Value→K→Prop} (h:za0 c i E=true)
  (hr:∀ C d,zz6 P Rel C κ R ((execOp (ev E) (zv c i)).run P (W C κ d))):OpQ P Rel c i E κ R:=
 ⟨fun _=>hr,fun a=>(by rw [h] at a;cases a)⟩
theorem zxO [Fb] {P:Program} {Rel:K→K→Prop} {c:Code} {i:Nat} {E:Env} {κ:K} {R:Value→K→Prop} (h:za0 c i E=false) (hR:R undef κ):OpQ P Rel c i E κ R:=
 ⟨fun a=>(by rw [h] at a;cases a),fun _=>hR⟩
theorem zaa [Fb] {P:Program} {Rel:K→K→Prop} (rr:∀ κ,Rel κ κ) {c:Code} {i:Nat} {E:Env} {κ:K} {R:Value→K→Prop} (v:Value) (h:za0 c i E=true)
  (hr:∀ C d,(execOp (ev E) (zv c i)).run P (W C κ d)=.ok (.value v) (W C κ d)) (hR:R v κ):OpQ P Rel c i E κ R:=
 zqS h fun C d=>by rw [hr];exact ⟨κ,d,rfl,rr _,hR⟩
theorem zkY [Fb] {P:Program} {Rel:K→K→Prop} (rr:∀ κ,Rel κ κ) {c:Code} {i:Nat} {E:Env} {κ:K} {R:Value→K→Prop} {f:FuncId} {args:Array Value} (h:za0 c i E=true)
  (hr:∀ w,(execOp (ev E) (zv c i)).run P w=.ok (.enter f args) w) (hf:Fn P f args κ (fun v κ'=>Rel κ κ'∧R v κ')):OpQ P Rel c i E κ R:=
 zqS h fun C d=>by rw [hr];exact ⟨κ,d,rfl,rr _,hf⟩
section
variable [Fc] [Fb] {P:Program} {n:Nat} {c:Code} {Q:zaH} {E F:Env} {κ:K} {id id':Nat}
theorem zb (h:cwp P n c Q E κ):zdi P n c Q .normal E κ:=h
theorem zg (h:Q (.exit id) E κ):zdi P n c Q (.exit id) E κ:=h
theorem zd (h:Q .ret E κ):zdi P n c Q .ret E κ:=h
theorem zc (h:Q .normal E κ):zb9 id Q .normal E κ:=h
theorem zf (h:Q .normal E κ):zb9 id Q (.exit id) E κ:=by unfold zb9;simp only [if_true];exact h
theorem zqH (hne:Nat.beq id' id=false) (h:Q (.exit id') E κ):zb9 id Q (.exit id') E κ:=by
 show (if id'=id then _ else _);rw [if_neg (fun e=>by subst e;simp at hne)];exact h
theorem zl (h:Q .ret E κ):zb9 id Q .ret E κ:=h
theorem ze {S X:Type} {y:S ⊕ X} {J:S→Env→K→Prop} {s:S} (h:y=.inl s) (hJ:J s E κ):zo8 y J Q .normal E κ:=⟨s,h,hJ⟩
theorem zh {S X:Type} {y:S ⊕ X} {J:S→Env→K→Prop} (h:Q (.exit id) E κ):zo8 y J Q (.exit id) E κ:=h
theorem zx {S X:Type} {y:S ⊕ X} {J:S→Env→K→Prop} (h:Q .ret E κ):zo8 y J Q .ret E κ:=h
theorem zuU {c0:Code} {p:List Nat} (h:zow (sub c0 p)=true) (hb:ev E (zqc (sub c0 p))=.bool true) (ht:cwp P n (sub c0 (0::p)) Q E κ):cwp P n (sub c0 p) Q E κ:=
 zrO true h hb (fun _=>ht) (fun e=>by cases e)
theorem zuV {c0:Code} {p:List Nat} (h:zow (sub c0 p)=true) (hb:ev E (zqc (sub c0 p))=.bool false) (he:cwp P n (sub c0 (1::p)) Q E κ):cwp P n (sub c0 p) Q E κ:=
 zrO false h hb (fun e=>by cases e) (fun _=>he)
theorem zzb {fn:Func} {R:Value→K→Prop} (rs:List ResultVar) (vs:List Value) (hr:fn.results=rs.toArray) (h:zun P E κ rs vs) (hR:R (zk2 vs) κ):zka P fn R .ret E κ:=
 ⟨_,ztI rs vs hr h,hR⟩
theorem zx0 {fn:Func} {R:Value→K→Prop} (rs:List ResultVar) (vs:List Value) (hr:fn.results=rs.toArray) (h:zun P E κ rs vs) (hR:R (zk2 vs) κ):zka P fn R .normal E κ:=
 ⟨_,ztI rs vs hr h,hR⟩
theorem za (h:E=F) {t:Nat} {v:Value} (hv:F t=v):E=upd F t v:=h.trans (zws hv)
theorem zm (h:E=F) (hw:cwp P n c Q F κ):cwp P n c Q E κ:=by rw [h];exact hw
theorem zq {e:Exit} (h:E=F) (hw:Q e F κ):Q e E κ:=by rw [h];exact hw
theorem zn (B:zaH→Prop) (h1:B Q) (h2:B Q→cwp P n c Q E κ):cwp P n c Q E κ:=h2 h1
theorem zj (id:Nat) (B:(Env→K→Prop)→Prop) (h1:B (Q (.exit id))) (h2:B (Q (.exit id))→cwp P n c Q E κ):cwp P n c Q E κ:=h2 h1
end
theorem zij {α:Type} {l:List α} (h:l.length≤9223372036854775807):I64 (l.length:Int):=by unfold I64;omega
theorem zwv (x:UInt8):0≤(x.toNat:Int)∧(x.toNat:Int)≤255:=by have:=x.toNat_lt;omega
theorem zsU {a b:Int} (_hb:b ≠ -1) (h:I64 a):I64 (Int.tmod a b):=by
 unfold I64 at *;have e:=Int.natAbs_tmod a b;have c:a.natAbs % b.natAbs≤a.natAbs:=Nat.mod_le _ _;have g:(Int.tmod a b).natAbs≤a.natAbs:=by omega
 have d:0≤a→0≤Int.tmod a b:=fun h=>Int.tmod_nonneg b h;have f:a≤0→Int.tmod a b≤0:=fun h=>by
  have:=Int.tmod_nonneg b (show 0 ≤ -a by omega);rw [Int.neg_tmod] at this;omega
 omega
theorem zkl (s:List UInt8):(⟨s.toArray⟩:ByteArray).toList=s:=by
 have h:∀ (n i:Nat) (a:List UInt8),n=s.length - i→i≤s.length→ByteArray.toList.loop (⟨s.toArray⟩:ByteArray) i a=a.reverse++s.drop i:=by
  intro n
  induction n with
  | zero=>
   intro i a c hi;have:i=s.length:=by omega
   subst this;unfold ByteArray.toList.loop;have hs:¬s.length<(⟨s.toArray⟩:ByteArray).size:=by simp [ByteArray.size]
   rw [if_neg hs];simp
  | succ n ih=>
   intro i a c hi;unfold ByteArray.toList.loop;have b:i<s.length:=by omega
   have hs:i<(⟨s.toArray⟩:ByteArray).size:=by simpa [ByteArray.size] using b
   rw [if_pos hs,ih (i+1) _ (by omega) (by omega)];have d:(⟨s.toArray⟩:ByteArray).get! i=s[i]:=by
    simp [ByteArray.get!,b]
   rw [d,List.reverse_cons,bg,List.singleton_append,bj b]
 have:=h s.length 0 [] (by omega) (by omega);simpa [ByteArray.toList] using this
theorem zsq {P:Program} {E:Env} {c:Code} {i:Nat} {s t:List UInt8} {w:World}
  (h:execOp (ev E) (zv c i)=vOf (do eqGuard .eql 0 (.tmp 0) (.tmp 0) (zw s) (zw t);binOp .eql 0 (zw s) (zw t))) :
  (execOp (ev E) (zv c i)).run P w=.ok (.value (.bool (decide (s=t)))) w:=by
 rw [h];refine zB ?_;have:binOp .eql 0 (zw s) (zw t)=pure (.bool ((⟨s.toArray⟩:ByteArray).toList == (⟨t.toArray⟩:ByteArray).toList)):=rfl;rw [this,zkl,zkl];by_cases a:s=t
 ·subst a;simp [eqGuard,zw]
 ·simp [eqGuard,zw,a]
theorem zsp {P:Program} {E:Env} {c:Code} {i:Nat} {s t:List UInt8} {w:World}
  (h:execOp (ev E) (zv c i)=vOf (do eqGuard .neq 0 (.tmp 0) (.tmp 0) (zw s) (zw t);binOp .neq 0 (zw s) (zw t))) :
  (execOp (ev E) (zv c i)).run P w=.ok (.value (.bool (!decide (s=t)))) w:=by
 rw [h];refine zB ?_;have:binOp .neq 0 (zw s) (zw t)=pure (.bool (!((⟨s.toArray⟩:ByteArray).toList == (⟨t.toArray⟩:ByteArray).toList))):=rfl;rw [this,zkl,zkl];by_cases a:s=t
 ·subst a;simp [eqGuard,zw]
 ·simp [eqGuard,zw,a]
theorem zig {P:Program} {E:Env} {c:Code} {i:Nat} (T:TypeId) (k:IntKind) {s:List UInt8} {ix:Int} {x:UInt8} {w:World}
  (h:execOp (ev E) (zv c i)=vOf (Instr.index T (zw s) (.int k ix))) (hT:P.underlying T=some .string) (hx:idx s ix=some x) :
  (execOp (ev E) (zv c i)).run P w=.ok (.value (.int .u8 (x.toNat:Int))) w:=by
 obtain ⟨d,f,b⟩:=ziD hx;rw [h];refine zB ?_;unfold Instr.index asIntOf zw;simp only [ay,az,ax,zy hT];have e:(if 0≤ix then (⟨s.toArray⟩:ByteArray)[ix.toNat]? else none)=some x:=by
  rw [if_pos d];have a:ix.toNat<s.length:=by omega
  have hs:ix.toNat<(⟨s.toArray⟩:ByteArray).size:=by simpa [ByteArray.size] using a
  rw [getElem?_pos (⟨s.toArray⟩:ByteArray) ix.toNat hs];have:=b;rw [cq a] at this;exact this
 rw [e];rfl
theorem kr {p:Prop} (h:p:=by kernel_rfl):p:=h
theorem sj {α:Type _} {a b:α} (h:some a=some b):a=b:=Option.some.inj h
abbrev BS:=List UInt8
abbrev LI:=List Int
abbrev LG:=List (BS×Int)
abbrev LT:=List (BS×LI)
abbrev LP:=List ((Int×Int)×Int)
abbrev LB:=List (Int×Int×Int)
abbrev LW:=List BS
abbrev LM:=List LI
abbrev TS:=LG×LT
abbrev OA:=Option Addr
abbrev iv (n:Int):Value:=.int .i64 n
abbrev pt (b o:Nat):Value:=.pointer (some ⟨b,o,none⟩)
abbrev bW (p:Prop) [Decidable p]:Value:=.bool (decide p)
abbrev sl (a:Option Addr) (n c:Nat):Value:=.slice a n c
theorem eA {E F:Env} (t:Nat) (h:E=F) {v:Value} (hv:F t=v:=by kernel_rfl):E=upd F t v:=za h hv
def zuz:List (Value→K→Prop)→Nat→Value→K→Prop
 | [],_=>fun _ _=>True
 | S::_,0=>S
 | _::Ss,i+1=>zuz Ss i
def zlC:List Nat→Nat→Nat
 | [],_=>0
 | d::_,0=>d
 | _::ds,i+1=>zlC ds i
theorem lt0 {X:Nat→Prop}:∀ i,i<0→X i:=fun i h=>absurd h (Nat.not_lt_zero i)
theorem ltS {X:Nat→Prop} (k:Nat) (h:∀ i,i<k→X i) (hk:X k):∀ i,i<k+1→X i:=by
 intro i hi;rcases gd i k with h1 | h1
 ·exact h i h1
 ·have:i=k:=by omega
  rw [this];exact hk
def zzA (c:Code) (k:Nat) (ds:List Nat):Bool:=(List.range k).all fun i=>Nat.beq (dstOf c i) (zlC ds i)
def zzk (k:Nat) (ds:List Nat) (t:Nat):Bool:=(List.range k).all fun i=>!Nat.beq t (zlC ds i)
section
variable [Fc] [Fb] {P:Program} {n:Nat} {Q:zaH} {E:Env} {κ:K}
theorem zko {c0:Code} {p:List Nat} (i0:Nat) (Rel0 Rel1:K→K→Prop) (rr:∀ κ,Rel1 κ κ) (rt0:∀ κ1 κ2 κ3,Rel0 κ1 κ2→Rel0 κ2 κ3→Rel0 κ1 κ3) (rt1:∀ κ1 κ2 κ3,Rel1 κ1 κ2→Rel1 κ2 κ3→Rel1 κ1 κ3)
  (r10:∀ κ1 κ2,Rel1 κ1 κ2→Rel0 κ1 κ2) (k:Nat) (ds:List Nat) (Ss:List (Value→K→Prop))
  (h:zbK (sub c0 p)=some true) (hm:P.follows .mixedOrders=true) (hB:zlB (sub c0 p) n k=true) (hds:zzA (sub c0 p) k ds=true)
  (mono:∀ i,i<k→∀ v κ1 κ2,Rl i0 i Rel1 Rel0 κ1 κ2→zuz Ss i v κ1→zuz Ss i v κ2)
  (hop:∀ i,i<k→∀ a κ',Rl i0 i Rel1 Rel0 κ κ'→(∀ t,zzk k ds t=true→a t=E t)→
   (∀ j,Nat.blt j k=true→dep (sub c0 p) i j=true→zuz Ss j (a (zlC ds j)) κ')→OpQ P (Rl i0 i Rel0 Rel1) (sub c0 p) i a κ' (zuz Ss i))
  (fin:∀ a κ',Rel0 κ κ'→(∀ t,zzk k ds t=true→a t=E t)→(∀ j,Nat.blt j k=true→zuz Ss j (a (zlC ds j)) κ')→
   owp P n (sub c0 p) k Q a κ'):cwp P n (sub c0 p) Q E κ:=by
 have hd:∀ j,j<k→dstOf (sub c0 p) j=zlC ds j:=fun j d=>fv (be.1 hds j (fe.2 d));have s:∀ t,zzk k ds t=true→∀ j,j<k→t≠dstOf (sub c0 p) j:=by
  intro t q j d e;have:=be.1 q j (fe.2 d);rw [hd j d] at e;rw [←e] at this;simp at this
 refine zuf i0 Rel0 Rel1 rr rt0 rt1 r10 k (zuz Ss) h hm hB (fun i v κ1 κ2 hi hS g=>mono i hi v κ1 κ2 g hS) ?_ ?_
 ·intro i hi a κ' g c m;exact hop i hi a κ' g (fun t q=>c t (s t q)) fun j d r=>by
   have b:j<k:=by simpa [Nat.blt,ga] using d
   rw [←hd j b];exact m j b r
 ·intro a κ' g c f;exact fin a κ' g (fun t q=>c t (s t q)) fun j d=>by
   have b:j<k:=by simpa [Nat.blt,ga] using d
   rw [←hd j b];exact f j b
theorem zF {Rel:K→K→Prop} {c:Code} {i:Nat} {E F:Env} {κ:K} {R:Value→K→Prop} (h:E=F) (hk:OpQ P Rel c i F κ R):OpQ P Rel c i E κ R:=by rw [h];exact hk
theorem znK {Rel:K→K→Prop} (rr:∀ κ,Rel κ κ) {c:Code} {i:Nat} {R:Value→K→Prop} {b off:Nat} {T:TypeId} {v:Value} (h:za0 c i E=true)
  (ho:execOp (ev E) (zv c i)=vOf (Instr.loadAt T (.pointer (some ⟨b,off,none⟩)))) (hT:zdY P T=some false) (hv:κ.cell b off=some v) (hR:R v κ):OpQ P Rel c i E κ R:=
 zaa rr v h (fun C a=>by rw [ho];exact zB (zfT hT hv)) hR
theorem zl0 {Rel:K→K→Prop} (rr:∀ κ,Rel κ κ) {c:Code} {i:Nat} {R:Value→K→Prop} {b off:Nat} {T:TypeId} {cs:List Value} (h:za0 c i E=true)
  (ho:execOp (ev E) (zv c i)=vOf (Instr.loadAt T (.pointer (some ⟨b,off,none⟩)))) (hT:zdY P T=some true) (hs:zG P T=some cs.length) (hv:zkn κ b off cs) (hR:R (.agg cs.toArray) κ):OpQ P Rel c i E κ R:=
 zaa rr _ h (fun C a=>by rw [ho];exact zB (zeO hT hs hv)) hR
theorem zvj {Rel:K→K→Prop} {c:Code} {i:Nat} {R:Value→K→Prop} (h:za0 c i E=true)
  (hr:∀ C d,∃ v κ' a,(execOp (ev E) (zv c i)).run P (W C κ d)=.ok (.value v) (W C κ' a)∧Rel κ κ'∧R v κ'):OpQ P Rel c i E κ R:=
 zqS h fun C d=>by obtain ⟨v,κ',a,e,b,f⟩:=hr C d;rw [e];exact ⟨κ',a,rfl,b,f⟩
end
def Rep {α:Type} (t:Ty α) (κ:K) (xs:List Value):List α→Prop
 | []=>xs=[]
 | x::l=>∃ c xs',xs=c++xs'∧t.own κ c x∧Rep t κ xs' l
section
variable {α:Type} {t:Ty α} {κ κ':K} {M:List Nat}
theorem Rep.length:∀ {l:List α} {xs:List Value},Rep t κ xs l→xs.length=l.length*t.size
 | [],xs,h=>by have h:xs=[]:=h;rw [h];simp
 | x::l,xs,⟨c,xs',h,ho,hr⟩=>by rw [h,du,t.len ho,hr.length,dv,gk,Nat.add_comm]
theorem Rep.step (s:Step M κ κ'):∀ {l:List α} {xs:List Value},Rep t κ xs l→Rep t κ' xs l
 | [],_,h=>h
 | _::_,_,⟨c,xs',h,ho,hr⟩=>⟨c,xs',h,t.step s ho,Rep.step s hr⟩
theorem Rep.append:∀ {l l':List α} {xs xs':List Value},Rep t κ xs l→Rep t κ xs' l'→Rep t κ (xs++xs') (l++l')
 | [],_,xs,_,h,h'=>by have h:xs=[]:=h;rw [h];exact h'
 | x::l,_,_,xs2,⟨c,xs',h,ho,hr⟩,h'=>⟨c,xs'++xs2,by rw [h,bg],ho,hr.append h'⟩
theorem Rep.one:∀ {l:List α} {xs:List Value},Rep t κ xs l→∀ v∈xs,v.oneCell'=true
 | [],xs,h,v,hv=>by have h:xs=[]:=h;rw [h] at hv;cases hv
 | x::l,xs,⟨c,xs',h,ho,hr⟩,v,hv=>by
  rw [h,ep] at hv;exact hv.elim (t.one ho v) (hr.one v)
theorem Rep.get:∀ {l:List α} {xs:List Value} {i:Nat} {x:α},Rep t κ xs l→l[i]?=some x→∃ cs,t.own κ cs x∧(xs.drop (i*t.size)).take t.size=cs
 | [],_,i,x,_,hx=>by simp at hx
 | y::l,xs,0,x,⟨c,xs',h,ho,hr⟩,hx=>by
  simp at hx;subst hx;refine ⟨c,ho,?_⟩;rw [h,←t.len ho];simp
 | y::l,xs,i+1,x,⟨c,xs',h,ho,hr⟩,hx=>by
  simp at hx;obtain ⟨cs,a,b⟩:=hr.get hx;refine ⟨cs,a,?_⟩;have e:(i+1)*t.size=c.length+i*t.size:=by rw [gk,t.len ho,Nat.add_comm]
  rw [←b,h,e,List.drop_length_add_append]
theorem Rep.set:∀ {l:List α} {xs:List Value} {i:Nat} {x:α} {cs:List Value},Rep t κ xs l→t.own κ cs x→i<l.length→
  Rep t κ (xs.take (i*t.size)++cs++xs.drop ((i+1)*t.size)) (l.set i x)
 | [],_,i,x,_,_,_,hi=>by simp at hi
 | y::l,xs,0,x,cs,⟨c,xs',h,ho,hr⟩,hx,hi=>by
  refine ⟨cs,xs',?_,hx,hr⟩;rw [h,←t.len ho];simp
 | y::l,xs,i+1,x,cs,⟨c,xs',h,ho,hr⟩,hx,hi=>by
  refine ⟨c,_,?_,ho,hr.set hx (by simpa using hi)⟩;have a:(i+1)*t.size=c.length+i*t.size:=by rw [gk,t.len ho,Nat.add_comm]
  have b:(i+1+1)*t.size=c.length+(i+1)*t.size:=by rw [gk,t.len ho,Nat.add_comm]
  rw [h,a,b,List.take_length_add_append,List.drop_length_add_append];simp [bg];rw [a]
theorem Rep.of_sl {a:Option Addr} {c:Nat}:∀ {l:List α},Sl t κ a c l→∃ xs,Rep t κ xs l∧(0<l.length→∃ b off,a=some ⟨b,off,none⟩∧PubAt κ b off xs)
 | l,h=>by
  induction l generalizing a c with
  | nil=>exact ⟨[],rfl,fun h=>by simp at h⟩
  | cons x l ih=>
   obtain ⟨b,off,A,u⟩:=h.elems (by simp);obtain ⟨cs,f,q⟩:=u 0 x (by simp);simp only [Nat.zero_mul,Nat.add_zero] at f;have h':Sl t κ (some ⟨b,off+t.size,none⟩) l.length l:=by
    refine ⟨fy _,by have:=h.most;simp at this;omega,fun _=>⟨b,off+t.size,rfl,fun i y w=>?_⟩⟩;obtain ⟨n,d,p⟩:=u (i+1) y (by simpa using w);refine ⟨n,?_,p⟩;have:off+t.size+i*t.size=off+(i+1)*t.size:=by rw [gk];omega
    rw [this];exact d
   obtain ⟨xs,r,B⟩:=ih h';refine ⟨cs++xs,⟨cs,xs,rfl,q,r⟩,fun _=>⟨b,off,A,?_⟩⟩;have C:=t.len q;by_cases k:0<l.length
   ·obtain ⟨D,s,e,d⟩:=B k;injection e with e
    injection e with e1 e2
    subst e1;subst e2;refine ⟨f.1,?_,fun j v g=>?_⟩
    ·have:=d.2.1;rw [du];omega
    ·rw [List.getElem?_append] at g;split at g
     ·exact f.2.2 j v g
     ·have:=d.2.2 _ v g;rw [←this];congr 1;omega
   ·have:l=[]:=bp (by omega);subst this;have m:xs=[]:=r;subst m;simpa using f
end
def blk (a:Option Addr) (c:Nat):List Nat:=
 match a with
 | some a=>if c=0 then [] else [a.block]
 | none=>[]
theorem znV {g:Nat} {a:Addr} {c:Nat} (h:g∈blk (some a) c):g=a.block∧0<c:=by
 by_cases hc:c=0
 ·simp [blk,hc] at h
 ·simp [blk,hc] at h;exact ⟨h,by omega⟩
theorem zi9 {a:Addr} {c:Nat} (h:0<c):a.block∈blk (some a) c:=by
 have:¬c=0:=by omega
 simp [blk,this]
theorem zmf {a:Option Addr}:blk a 0=[]:=by cases a<;>simp [blk]
structure Gr {α:Type} (t:Ty α) (pub:Bool) (τ:Tag) (κ:K) (e:TypeId) (a:Option Addr) (c:Nat) (l:List α):Prop where
 most:l.length≤maxLen
 body:(c=0∧l=[])∨∃ g cur xs,a=some ⟨g,0,none⟩∧Rep t κ xs l∧κ.H[g]?=some (.cells cur e (0,0))∧l.length≤c∧c≤maxLen∧
  cur.size=c*t.size∧cur.toList.take (l.length*t.size)=xs∧κ.fr g=(if pub=true then l.length*t.size else 0)∧κ.tag g=τ∧τ.1≤g
section
variable {α:Type} {t:Ty α} {pub:Bool} {τ τ':Tag} {κ κ':K} {e:TypeId} {a:Option Addr} {c:Nat} {l:List α} {M:List Nat}
theorem Gr.nil:Gr t pub τ κ e none 0 []:=⟨by simp,.inl ⟨rfl,rfl⟩⟩
theorem Gr.lt (h:Gr t pub τ κ e a c l):∀ g∈blk a c,g<κ.H.size∧κ.tag g=τ∧τ.1≤g:=by
 intro g b;rcases h.body with ⟨d,_⟩ | ⟨g',cur,xs,d,hr,hH,h1,h2,h3,h4,h5,h6,h7⟩
 ·rw [d,zmf] at b;cases b
 ·rw [d] at b;have:g=g':=(znV b).1;subst this;exact ⟨(ae.1 hH).1,h6,h7⟩
theorem Gr.step (s:Step M κ κ') (hm:∀ g∈blk a c,g∉M) (h:Gr t pub τ κ e a c l):Gr t pub τ κ' e a c l:=by
 refine ⟨h.most,?_⟩;rcases h.body with ⟨hc,j⟩ | ⟨g,cur,xs,ha,hr,hH,h1,h2,h3,h4,h5,h6,h7⟩
 ·exact .inl ⟨hc,j⟩
 ·by_cases d:c=0
  ·exact .inl ⟨d,bp (by omega)⟩
  have f:g<κ.H.size:=(ae.1 hH).1;have b:=s.2.1 g f (hm g (by rw [ha];exact zi9 (by omega)));exact .inr ⟨g,cur,xs,ha,hr.step s,b.1.trans hH,h1,h2,h3,h4,b.2.1.trans h5,b.2.2.trans h6,h7⟩
theorem Gr.step0 (s:Step [] κ κ') (h:Gr t pub τ κ e a c l):Gr t pub τ κ' e a c l:=h.step s (by simp)
theorem Gr.nb {b:Nat} {cs:List Value} {T:TypeId} (h:Gr t pub τ κ e a c l) (hb:Box τ' κ b cs T) (hn:τ≠τ'):∀ g∈blk a c,g∉[b]:=by
 intro g d hc;have:g=b:=by simpa using hc
 subst this;exact hn ((h.lt g d).2.1.symm.trans hb.tag)
theorem Gr.bn {b:Nat} {cs:List Value} {T:TypeId} (h:Gr t pub τ κ e a c l) (hb:Box τ' κ b cs T) (hn:τ'≠τ):b∉blk a c:=by
 intro hc;exact hn (hb.tag.symm.trans (h.lt b hc).2.1)
theorem Gr.ng {β:Type} {t':Ty β} {pub':Bool} {e':TypeId} {a':Option Addr} {c':Nat} {l':List β} (h:Gr t pub τ κ e a c l) (h':Gr t' pub' τ' κ e' a' c' l') (hn:τ≠τ'):∀ g∈blk a c,g∉blk a' c':=by
 intro g b hc;exact hn ((h.lt g b).2.1.symm.trans (h'.lt g hc).2.1)
theorem Gr.own {κ0:K} (h:Gr t pub τ κ e a c l) (h0:κ0.H.size≤τ.1):∀ b∈blk a c,κ0.H.size≤b:=fun b d=>fz h0 (h.lt b d).2.2
theorem Gr.sl (h:Gr t true τ κ e a c l):Sl t κ a c l:=by
 rcases h.body with ⟨hc,m⟩ | ⟨g,cur,xs,ha,hr,hH,h1,h2,h3,h4,h5,h6,h7⟩
 ·rw [hc,m];exact ⟨fy _,by simp,fun h=>by simp at h⟩
 ·refine ⟨h1,h.most,fun _=>⟨g,0,ha,fun i x k=>?_⟩⟩;obtain ⟨cs,f,d⟩:=hr.get k;have hi:i<l.length:=(cv.1 k).1;have n:i*t.size+t.size≤l.length*t.size:=by rw [←gk];exact gj _ hi
  refine ⟨cs,⟨(ae.1 hH).1,?_,fun j v b=>?_⟩,f⟩
  ·rw [h5,if_pos rfl,t.len f];omega
  ·rw [←d,←h4] at b;rw [dm] at b;split at b
   ·rw [co,dm] at b;split at b
    ·unfold K.cell;rw [hH];simp only [gl];rw [←ak];exact b
    ·cases b
   ·cases b
def K.pubB (κ:K) (g m:Nat):K:=⟨κ.H,fun b=>if b=g then m else κ.fr b,κ.tag⟩
theorem Gr.publish (h:Gr t false τ κ e a c l):∃ κ',κ'.H=κ.H∧Step (blk a c) κ κ'∧Gr t true τ κ' e a c l:=by
 rcases h.body with ⟨hc,j⟩ | ⟨g,cur,xs,ha,hr,hH,h1,h2,h3,h4,h5,h6,h7⟩
 ·exact ⟨κ,rfl,Step.refl _ _,h.most,.inl ⟨hc,j⟩⟩
 ·by_cases d:c=0
  ·exact ⟨κ,rfl,Step.refl _ _,h.most,.inl ⟨d,bp (by omega)⟩⟩
  have hs:Step (blk a c) κ (κ.pubB g (l.length*t.size)):=by
   refine ⟨fy _,fun b f hm=>⟨rfl,?_,rfl⟩,fun b f=>⟨?_,fun o _=>rfl⟩,fun b f _=>⟨rfl,rfl⟩⟩
   ·simp only [K.pubB];rw [if_neg];intro e;exact hm (by rw [ha,e];exact zi9 (by omega))
   ·simp only [K.pubB];split
    ·rename_i e;subst e;rw [h5];simp
    ·exact fy _
  exact ⟨κ.pubB g (l.length*t.size),rfl,hs,h.most,.inr ⟨g,cur,xs,ha,hr.step hs,hH,h1,h2,h3,h4,by simp [K.pubB],h6,h7⟩⟩
theorem zhN [Fc] [Fb] {P:Program} {n:Nat} {c0:Code} {i:Nat} {Q:zaH} {E:Env} (h:Gr t false τ κ e a c l)
  (hk:∀ κ',Step (blk a c) κ κ'→Gr t true τ κ' e a c l→owp P n c0 i Q E κ'):owp P n c0 i Q E κ:=by
 obtain ⟨κ',b,s,h'⟩:=h.publish;exact ziW b (hk κ' s h')
theorem zdN [Fc] [Fb] {P:Program} {n:Nat} {c0:Code} {Q:zaH} {E:Env} (h:Gr t false τ κ e a c l)
  (hk:∀ κ',Step (blk a c) κ κ'→Gr t true τ κ' e a c l→cwp P n c0 Q E κ'):cwp P n c0 Q E κ:=by
 obtain ⟨κ',b,s,h'⟩:=h.publish;exact zsK b (hk κ' s h')
theorem zgw:maxLen=9223372036854775807:=by unfold maxLen;omega
def zoK (P:Program) (T:TypeId):Option Nat:=(zct P T).map (·.cells.size)
def K.row (κ:K) (g m:Nat) (cs:List Value) (e:TypeId):K:=⟨κ.H.setIfInBounds g (.cells cs.toArray e (0,0)),fun b=>if b=g then m else κ.fr b,κ.tag⟩
theorem zz5 [Fb] {C:Cx} {d g m:Nat} {cur:Array Value} {cs:List Value} (hg:κ.H[g]?=some (.cells cur e (0,0))):(W C κ d).setRow g cs.toArray=W C (κ.row g m cs e) d:=by
 have f:g<κ.H.size:=(ae.1 hg).1;unfold World.setRow W K.row;simp only [];congr 1;apply Array.ext
 ·simp
 ·intro j h k;have c:j<κ.H.size:=by simpa using h
  rw [Array.getElem_modify];by_cases a:g=j
  ·subst a;rw [ac c] at hg;have b:=Option.some.inj hg;simp [b]
  ·rw [if_neg a,Array.getElem_setIfInBounds_ne c a]
theorem zwB {g m:Nat} {cur:Array Value} {cs:List Value} (hg:κ.H[g]?=some (.cells cur e (0,0))) (hm:κ.fr g≤m)
  (hk:∀ o,o<κ.fr g→cs[o]?=cur[o]?) (hz:cs.length=cur.size):Step [g] κ (κ.row g m cs e):=by
 have b:g<κ.H.size:=(ae.1 hg).1;refine ⟨by simp [K.row],fun x c hm=>⟨?_,?_,rfl⟩,fun x c=>⟨?_,fun o d=>?_⟩,fun x c f=>⟨rfl,?_⟩⟩
 ·have:g≠x:=fun e=>hm (by simp [e]);simp only [K.row];rw [ai this]
 ·have:x≠g:=fun e=>hm (by simp [e]);simp only [K.row];rw [if_neg this]
 ·simp only [K.row];split
  ·rename_i hx';rw [hx'];exact hm
  ·exact fy _
 ·by_cases a:g=x
  ·subst a;unfold K.cell K.row;simp only [aj b,hg];rw [←hk o d];simp
  ·unfold K.cell K.row;simp only [ai a]
 ·by_cases a:g=x
  ·subst a;unfold K.shp K.row;simp only [aj b,hg];simp [hz]
  ·unfold K.shp K.row;simp only [ai a]
theorem ztG {P:Program} {T tx ty:TypeId} {bytes:Nat} (h:Gr t pub τ κ e a c l) {x:Value} {l2:List α} {ys:List Value} (hys:Rep t κ ys l2) (hτ:τ.1≤κ.H.size)
  (hT:zC P T=some e) (hsz:zG P e=some t.size) (hz:zoK P e=some t.size) (hby:zj6 P e=some bytes)
  (S:(l.length+l2.length)*bytes≤140737488355328) (hmax:l.length+l2.length≤9223372036854775807) [Fb] (C:Cx) (d:Nat) (hS:Src P t.size tx x l2.length ys (W C κ d)) :
  ∃ a' c' κ' d',(Builtin.append_ #[T,tx] ty #[.slice a l.length c,x]).run P (W C κ d)=.ok (.slice a' (l++l2).length c') (W C κ' d')∧
   Step (blk a c) κ κ'∧Gr t pub τ κ' e a' c' (l++l2)∧∀ g∈blk a' c',g∈blk a c∨κ.H.size≤g:=by
 have y:P.underlying T=some (.slice e):=by
  unfold zC at hT;split at hT
  ·rename_i e' he;rw [he];injection hT with hT;subst hT;rfl
  ·cases hT
 obtain ⟨i,hi,X⟩:∃ i,P.info? e=some i∧i.bytes=bytes:=by
  unfold zj6 at hby;obtain ⟨i,v,Q⟩:=gt.1 hby;exact ⟨i,v,Q⟩
 have m:i.size=t.size:=by unfold zG at hsz;rw [hi] at hsz;simpa using hsz
 obtain ⟨z,Y,Z⟩:∃ z,i.zero=some z∧z.cells.size=t.size:=by
  unfold zoK zct at hz;rw [hi] at hz;obtain ⟨z,v,Q⟩:=gt.1 hz;exact ⟨z,by simpa using v,Q⟩
 have k:l.length+l2.length≤maxLen:=by rw [zgw];exact hmax
 rw [←m] at hS;have a1:l.length≤c:=by
  rcases h.body with ⟨_,L⟩ | ⟨g,cur,xs,ha,r,hH,v,_⟩
  ·rw [L];simp
  ·exact v
 by_cases F:l2=[]
 ·subst F;have hy:ys=[]:=by have:=hys.length;simpa using this
  subst hy;refine ⟨a,c,κ,d,?_,Step.refl _ _,by simpa using h,fun g A=>.inl A⟩;have hc:=hS.cells;have hn:=hS.len;simp only [ec] at hc hn;simp only [bh];rcases hS.kind with ⟨e',E⟩ | E<;>cases a<;>simp [Builtin.append_,run_underlying y,run_underlying E,sizeOf,typeInfo,hi,hn,a1,hc,storeCells]
 ·have a5:0<l2.length:=List.length_pos_iff.2 F;have V:ys.length=l2.length*i.size:=by rw [m];exact hys.length
  have w:∀ (xs:List Value) (cp:Nat),Rep t κ xs l→l.length+l2.length≤cp→cp≤maxLen→
    let κ':=κ.push (.cells ((xs++ys).toArray++Builtin.zeroCells z.cells (cp - (l.length+l2.length))) e) (if pub=true then (l++l2).length*t.size else 0) τ
    Step (blk a c) κ κ'∧Gr t pub τ κ' e (some ⟨κ.H.size,0,none⟩) cp (l++l2):=by
   intro xs cp r N R κ';have hs:Step [] κ κ':=zbp _ _ _ _;refine ⟨hs.nil,by rw [du];exact k,.inr ⟨κ.H.size,(xs++ys).toArray++Builtin.zeroCells z.cells (cp - (l.length+l2.length)),xs++ys,rfl,(r.step hs).append (hys.step hs),by simp [κ',K.push],by rw [du];exact N,R,?_,?_,by simp [κ',K.push],by simp [κ',K.push],hτ⟩⟩
   ·simp only [Array.size_append,fo,du,size_zeroCells,Z,r.length,hys.length,←fu];congr 1;omega
   ·simp only [Array.toList_append];have p:(l++l2).length*t.size=(xs++ys).length:=by rw [du,du,r.length,hys.length,fu]
    rw [p];exact List.take_left
  have n:∀ xs,Rep t κ xs l→(Builtin.firstCells i.size l.length (.slice a l.length c)).run P (W C κ d).drew=.ok xs.toArray (W C κ d).drew→c<l.length+l2.length→∃ a' c' κ' d',(Builtin.append_ #[T,tx] ty #[.slice a l.length c,x]).run P (W C κ d)=.ok (.slice a' (l++l2).length c') (W C κ' d')∧
   Step (blk a c) κ κ'∧Gr t pub τ κ' e a' c' (l++l2)∧∀ g∈blk a' c',g∈blk a c∨κ.H.size≤g:=by
   intro xs r G s;have q:=run_append_grow_src (P:=P) (W C κ d) T tx ty e i z y hi Y a l.length c xs G x l2.length ys hS s (by omega) (growslice_fits (by omega) (by rw [X];exact S));have I:=w xs (grownCap (W C κ d) (l.length+l2.length) c e) r (grownCap_ge _ _ _ _) (grownCap_le_maxLen _ _ _ _ k);refine ⟨_,_,_,d+1,?_,I.1,I.2,fun g A=>.inr (by have:=(znV A).1;rw [this];exact fy _)⟩;rw [q,du];rfl
  rcases h.body with ⟨hc,L⟩ | ⟨g,cur,xs,ha,r,hH,v,h2',h3,h4,h5,h6,h7⟩
  ·refine n [] (by rw [L];exact rfl) ?_ (by omega);rw [L];cases a<;>simp [Builtin.firstCells,loadCells,loadCellsFrom]
  ·by_cases f:l.length+l2.length≤c
   ·subst ha;have H:l.length*i.size+ys.length≤cur.size:=by rw [V,h3,←fu,m];exact gj _ f
    have D:=run_storeCells_at P g (l.length*i.size) e ys 0 cur (W C κ d) hH (by simpa using H) hys.one;simp only [Nat.add_zero] at D;have q:(Builtin.append_ #[T,tx] ty #[.slice (some ⟨g,0,none⟩) l.length c,x]).run P (W C κ d)=.ok (.slice (some ⟨g,0,none⟩) (l.length+l2.length) c) ((W C κ d).setRow g (cur.toList.take (l.length*i.size)++ys++cur.toList.drop (l.length*i.size+ys.length)).toArray):=by
     rcases hS.kind with ⟨e',E⟩ | E<;>simp [Builtin.append_,run_underlying y,run_underlying E,sizeOf,typeInfo,hi,hS.len,f,hS.cells,Addr.add_lit,D]
    have O:κ.fr g≤(if pub=true then (l++l2).length*t.size else 0):=by
     rw [h5];split
     ·exact gj _ (by simp)
     ·exact fy _
    have B:(cur.toList.take (l.length*i.size)).length=l.length*t.size:=by
     have a2:cur.toList.length=c*t.size:=by simpa using h3
     rw [ef,m,a2];exact Nat.min_eq_left (gj _ v)
    have hs:Step [g] κ (κ.row g (if pub=true then (l++l2).length*t.size else 0) (cur.toList.take (l.length*i.size)++ys++cur.toList.drop (l.length*i.size+ys.length)) e):=by
     refine zwB hH O (fun o ho=>?_) (by simp only [du,ef,dx,an];omega);have J:o<l.length*t.size:=by
      rw [h5] at ho;split at ho
      ·exact ho
      ·omega
     rw [bg,cj (by rw [B];exact J),dm,if_pos (by rw [m];exact J)];simp
    refine ⟨some ⟨g,0,none⟩,c,κ.row g (if pub=true then (l++l2).length*t.size else 0) (cur.toList.take (l.length*i.size)++ys++cur.toList.drop (l.length*i.size+ys.length)) e,d,?_,hs.mono (fun b S=>by rw [fg.1 S];exact zi9 (a:=⟨g,0,none⟩) (by omega)),⟨by rw [du];exact k,.inr ⟨g,(cur.toList.take (l.length*i.size)++ys++cur.toList.drop (l.length*i.size+ys.length)).toArray,xs++ys,rfl,(r.step hs).append (hys.step hs),?_,by rw [du];exact f,h2',?_,?_,by simp [K.row],h6,h7⟩⟩,fun g A=>.inl A⟩
    ·rw [q,zz5 hH,du]
    ·have s:g<κ.H.size:=(ae.1 hH).1;simp [K.row,s]
    ·simp only [fo,du,ef,dx,an];omega
    ·have U:cur.toList.take (l.length*i.size)=xs:=by rw [m];exact h4
     simp only [];rw [U];have p:(l++l2).length*t.size=(xs++ys).length:=by rw [du,du,r.length,hys.length,fu]
     rw [p];exact List.take_left
   ·subst ha;refine n xs r (run_firstCells_some (P:=P) _ i.size l.length ⟨g,0,none⟩ l.length c xs (by rw [m];exact r.length) fun j u M=>?_) (by omega);rw [zbn];show (W C κ (d+1)).cell? ⟨g,0+j,none⟩=some u;rw [zkX];unfold K.cell;rw [hH];simp only [gl];rw [←h4,dm] at M;split at M
    ·rw [←ak];exact M
    ·cases M
theorem zop {P:Program} {T ty:TypeId} {bytes:Nat} (h:Gr t pub τ κ e a c l) {a2:Option Addr} {c2:Nat} {l2:List α} (h2:Sl t κ a2 c2 l2) (hτ:τ.1≤κ.H.size)
  (hT:zC P T=some e) (hsz:zG P e=some t.size) (hz:zoK P e=some t.size) (hby:zj6 P e=some bytes)
  (hb:(l.length+l2.length)*bytes≤140737488355328) (hmax:l.length+l2.length≤9223372036854775807) [Fb] (C:Cx) (d:Nat) :
  ∃ a' c' κ' d',(Builtin.append_ #[T,T] ty #[.slice a l.length c,.slice a2 l2.length c2]).run P (W C κ d)=.ok (.slice a' (l++l2).length c') (W C κ' d')∧
   Step (blk a c) κ κ'∧Gr t pub τ κ' e a' c' (l++l2)∧∀ g∈blk a' c',g∈blk a c∨κ.H.size≤g:=by
 have f:P.underlying T=some (.slice e):=by
  unfold zC at hT;split at hT
  ·rename_i e' he;rw [he];injection hT with hT;subst hT;rfl
  ·cases hT
 obtain ⟨ys,b,m⟩:=Rep.of_sl h2;refine ztG h b hτ hT hsz hz hby hb hmax C d ?_;by_cases k:l2=[]
 ·subst k;have v:ys=[]:=by have:=b.length;simpa using this
  subst v;cases a2 with
  | none=>exact Src.ofNil _ f c2
  | some q=>exact Src.ofSlice _ f q _ c2 _ (by simp) (fun j u n=>by cases n) (fun u w=>by cases w)
 ·obtain ⟨x,s,p,r⟩:=m (List.length_pos_iff.2 k);subst p;exact Src.ofSlice _ f _ _ c2 _ b.length (fun j u n=>by rw [zbn,zkX];exact r.2.2 j u n) b.one
end
def app {α:Type} (bytes:Nat) (l l2:List α):Option (List α):=
 if (l.length+l2.length)*bytes≤140737488355328∧l.length+l2.length≤9223372036854775807 then some (l++l2) else none
theorem zpv {α:Type} {bytes:Nat} {l l2 r:List α} (h:app bytes l l2=some r):(l.length+l2.length)*bytes≤140737488355328∧l.length+l2.length≤9223372036854775807∧r=l++l2:=by
 unfold app at h;split at h
 ·rename_i h0;injection h with h;exact ⟨h0.1,h0.2,h.symm⟩
 ·cases h
def mkl {α:Type} (bytes:Nat) (n:Int) (z:α):Option (List α):=
 if 0≤n∧n≤9223372036854775807∧n*bytes≤140737488355328 then some (List.replicate n.toNat z) else none
theorem ztX {α:Type} {bytes:Nat} {n:Int} {z:α} {r:List α} (h:mkl bytes n z=some r):0≤n∧n≤9223372036854775807∧n*bytes≤140737488355328∧r=List.replicate n.toNat z:=by
 unfold mkl at h;split at h
 ·rename_i h0;injection h with h;exact ⟨h0.1,h0.2.1,h0.2.2,h.symm⟩
 ·cases h
def zf7 {α:Type} (l:List α) (lo hi:Int):Option (List α):=
 if 0≤lo∧lo≤hi∧hi≤l.length then some ((l.take hi.toNat).drop lo.toNat) else none
theorem ziH {α:Type} {l r:List α} {lo hi:Int} (h:zf7 l lo hi=some r):0≤lo∧lo≤hi∧hi≤l.length∧r=(l.take hi.toNat).drop lo.toNat:=by
 unfold zf7 at h;split at h
 ·rename_i h0;injection h with h;exact ⟨h0.1,h0.2.1,h0.2.2,h.symm⟩
 ·cases h
def zjW (P:Program) (T:TypeId):Option (TypeId×Nat×Nat×Nat):=
 match zC P T with
 | some e=>match zG P e,zoK P e,zj6 P e with
  | some s,some z,some b=>some (e,s,z,b)
  | _,_,_=>none
 | none=>none
theorem zlt {P:Program} {T e:TypeId} {s z b:Nat} (h:zjW P T=some (e,s,z,b)):zC P T=some e∧zG P e=some s∧zoK P e=some z∧zj6 P e=some b:=by
 unfold zjW at h;split at h
 ·rename_i e' he;split at h
  ·rename_i h1 h2 h3;injection h with h
   injection h with h4 h
   injection h with h5 h
   injection h with h6 h7
   subst h4;subst h5;subst h6;subst h7;exact ⟨he,h1,h2,h3⟩
  ·cases h
 ·cases h
theorem zcc {P:Program} {T e:TypeId} (hT:zC P T=some e):P.underlying T=some (.slice e):=by
 unfold zC at hT;split at hT
 ·rename_i e' he;rw [he];injection hT with hT;subst hT;rfl
 ·cases hT
section
variable [Fc] [Fb] {P:Program} {n:Nat} {c:Code} {i:Nat} {Q:zaH} {E:Env} {κ:K} {α:Type} {t:Ty α} {pub:Bool} {τ:Tag} {e T:TypeId} {a a2:Option Addr} {cp c2:Nat} {l l2 r:List α} {Rel:K→K→Prop} {R:Value→K→Prop}
theorem zrk {d bytes:Nat} (h:st c i n E (some d)=true) (ho:execOp (ev E) (zv c i)=vOf (Builtin.append_ #[T,T] 0 #[.slice a l.length cp,.slice a2 l2.length c2]))
  (hg:Gr t pub τ κ e a cp l) (h2:Sl t κ a2 c2 l2) (hτ:τ.1≤κ.H.size) (hT:zjW P T=some (e,t.size,t.size,bytes)) (hx:app bytes l l2=some r)
  (hk:∀ a' c' κ',Step (blk a cp) κ κ'→Gr t pub τ κ' e a' c' r→(∀ g∈blk a' c',g∈blk a cp∨κ.H.size≤g)→owp P n c (i+1) Q (upd E d (.slice a' r.length c')) κ'):owp P n c i Q E κ:=by
 obtain ⟨q,u,k,s⟩:=zlt hT;obtain ⟨w,hm,rfl⟩:=zpv hx;refine zkb (fun v κ'=>∃ a' c',v=.slice a' (l++l2).length c'∧Step (blk a cp) κ κ'∧Gr t pub τ κ' e a' c' (l++l2)∧∀ g∈blk a' c',g∈blk a cp∨κ.H.size≤g) h (fun C j=>?_) ?_
 ·obtain ⟨a',c',κ',m,p,hs,b,f⟩:=zop (P:=P) (T:=T) (ty:=0) hg h2 hτ q u k s w hm C j;exact ⟨_,κ',m,by rw [ho];exact zB p,a',c',rfl,hs,b,f⟩
 ·rintro v κ' ⟨a',c',rfl,hs,b,f⟩;exact hk a' c' κ' hs b f
def zqd (P:Program) (T:TypeId) (len:Nat) (parts:Array (Nat×Value)):Option (TypeId×Nat×List Value):=
 match zC P T with
 | some e=>match zG P e,(if len=0 then some (.tuple #[]) else zct P e) with
  | some s,some z=>if len*s>2 ^ 24 then none else
   match Instr.fill (fun i=>some (i*s,s)) ((Array.range (len*s)).map ((if len*s=0 then #[] else z.cells)[· % (if len*s=0 then #[] else z.cells).size]!)) parts.toList with
   | some cs=>some (e,s,cs.toList)
   | none=>none
  | _,_=>none
 | none=>none
theorem zuv {len s:Nat} {parts:Array (Nat×Value)} {cs:List Value} (hi:zqd P T len parts=some (e,s,cs)) (hs:0<s) [Fb] (C:Cx) (d m:Nat) (τ:Tag) :
  (Instr.buildSlice T len parts).run P (W C κ d)=.ok (.slice (some ⟨κ.H.size,0,none⟩) len len) (W C (κ.push (.cells cs.toArray e) m τ) d):=by
 unfold zqd at hi;split at hi
 ·rename_i e' he;split at hi
  ·rename_i s' z h1 h2;split at hi
   ·cases hi
   ·rename_i hle;split at hi
    ·rename_i cs' hcs;injection hi with hi
     injection hi with h3 hi
     injection hi with h4 h5
     subst h3;subst h4;subst h5;have b:len*s'=0↔len=0:=by
      constructor
      ·intro h;rcases Nat.mul_eq_zero.1 h with h | h
       ·exact h
       ·omega
      ·intro h;rw [h];simp
     unfold Instr.buildSlice;simp only [ay,zy (zcc he),ax,zS h1,Sem.run_ite,if_neg hle,az];by_cases c:len=0
     ·have a:len*s'=0:=b.2 c;rw [if_pos a];simp only [a,if_true] at hcs;simp only [ax,az,a];rw [hcs];simp only [ay];rfl
     ·have a:¬len*s'=0:=fun h=>c (b.1 h);rw [if_neg a];rw [if_neg c] at h2;simp only [if_neg a] at hcs;simp only [ax,az,ay,zfk h2];rw [hcs];simp only [ay];rfl
    ·cases hi
  ·cases hi
 ·cases hi
theorem zqO {cs:List Value} (hr:Rep t κ cs l) (hmax:l.length≤9223372036854775807) (hτ:τ.1≤κ.H.size) :
  Gr t pub τ (κ.push (.cells cs.toArray e) (if pub=true then l.length*t.size else 0) τ) e (some ⟨κ.H.size,0,none⟩) l.length l:=
 ⟨by rw [zgw];exact hmax,.inr ⟨κ.H.size,cs.toArray,cs,rfl,hr.step (zbp _ _ _ _),by simp [K.push],fy _,by rw [zgw];exact hmax,by simpa using hr.length,
  by simp [←hr.length],by simp [K.push],by simp [K.push],hτ⟩⟩
theorem zs4 {d len:Nat} {parts:Array (Nat×Value)} {cs:List Value} (h:st c i n E (some d)=true) (ho:execOp (ev E) (zv c i)=vOf (Instr.buildSlice T len parts))
  (hi:zqd P T len parts=some (e,t.size,cs)) (hs:Nat.blt 0 t.size=true) (hτ:τ.1≤κ.H.size) (hl:l.length=len) (hr:Rep t κ cs l) (hm:Nat.ble len 1000000=true)
  (hk:∀ a' κ',Step [] κ κ'→Gr t pub τ κ' e a' len l→owp P n c (i+1) Q (upd E d (.slice a' len len)) κ'):owp P n c i Q E κ:=by
 subst hl;have hm':=fx hm;refine zfB _ h (fun C a=>by rw [ho];exact zB (zuv hi (fx hs) C a (if pub=true then l.length*t.size else 0) τ)) (hk _ _ (zbp _ _ _ _) (zqO hr (by omega) hτ))
theorem zvi {len:Nat} {parts:Array (Nat×Value)} {cs:List Value} (h:za0 c i E=true) (ho:execOp (ev E) (zv c i)=vOf (Instr.buildSlice T len parts))
  (hi:zqd P T len parts=some (e,t.size,cs)) (hs:Nat.blt 0 t.size=true) (hτ:τ.1≤κ.H.size) (hl:l.length=len) (hr:Rep t κ cs l) (hm:Nat.ble len 1000000=true)
  (hk:∀ a' κ',Step [] κ κ'→Gr t pub τ κ' e a' len l→Rel κ κ'∧R (.slice a' len len) κ'):OpQ P Rel c i E κ R:=by
 subst hl;have hm':=fx hm;refine zvj h fun C a=>⟨_,_,a,by rw [ho];exact zB (zuv hi (fx hs) C a (if pub=true then l.length*t.size else 0) τ),hk _ _ (zbp _ _ _ _) (zqO hr (by omega) hτ)⟩
theorem zrd {zs:List Value} {z:α} (hz:t.own κ zs z) (m:Nat):Rep t κ ((List.range (m*t.size)).map fun i=>(zs.toArray)[i % zs.toArray.size]!) (List.replicate m z):=by
 have d:=t.len hz;have key:∀ k s0,s0 % t.size=0→Rep t κ ((List.range' s0 (k*t.size)).map fun i=>(zs.toArray)[i % zs.toArray.size]!) (List.replicate k z):=by
  intro k
  induction k with
  | zero=>intro s0 _;simp [Rep]
  | succ k ih=>
   intro s0 e;refine ⟨zs,_,?_,hz,ih (s0+t.size) (by rw [Nat.add_mod_right];exact e)⟩;rw [gk,Nat.add_comm,←List.range'_append,eh];congr 1
   ·apply bq;intro j;rw [cw];by_cases c:j<t.size
    ·rw [List.getElem?_range' c];have b:j<zs.length:=by rw [d];exact c
     have a:(s0+1*j) % zs.toArray.size=j:=by
      rw [fo,d,Nat.one_mul,Nat.add_mod,e,gl,Nat.mod_mod,Nat.mod_eq_of_lt c]
     simp [b,a] at a ⊢;rw [a];simp [b]
    ·rw [cu (by simp;omega),cu (by omega)];rfl
   ·simp
 have:=key m 0 (by simp);rw [List.range_eq_range'];exact this
theorem zwO {bytes:Nat} {k1 k2:IntKind} {m:Int} {zs:List Value} {z:α} (hT:zjW P T=some (e,t.size,t.size,bytes)) (hz:(zct P e).map Value.cells=some zs.toArray) (hzo:t.own κ zs z)
  (hx:mkl bytes m z=some r) (hτ:τ.1≤κ.H.size) [Fb] (C:Cx) (d:Nat):∃ a' κ',(Instr.makeSlice T (.int k1 m) (.int k2 m)).run P (W C κ d)=.ok (.slice a' r.length r.length) (W C κ' d)∧
   Step [] κ κ'∧Gr t pub τ κ' e a' r.length r:=by
 obtain ⟨y,p,B,u⟩:=zlt hT;obtain ⟨v,hm,A,rfl⟩:=ztX hx;obtain ⟨h,c,n⟩:=gt.1 hz;obtain ⟨i,hi,j,s,k⟩:∃ i,P.info? e=some i∧i.bytes=bytes∧i.size=t.size∧i.zero=some h:=by
  unfold zj6 at u;obtain ⟨i,q,x⟩:=gt.1 u;unfold zG at p;rw [q] at p;unfold zct at c;rw [q] at c;exact ⟨i,q,x,by simpa using p,by simpa using c⟩
 have f:=run_make (P:=P) (W C κ d) T e i h (zcc y) hi k k1 k2 m m v (Int.le_refl _) (by rw [j,Int.mul_comm];omega) hm;have g:Rep t κ ((List.range (m.toNat*t.size)).map fun i=>(zs.toArray)[i % zs.toArray.size]!) (List.replicate m.toNat z):=zrd hzo m.toNat;have a:madeCells h.cells (m.toNat*i.size)=((List.range (m.toNat*t.size)).map fun i=>(zs.toArray)[i % zs.toArray.size]!).toArray:=by
  unfold madeCells;rw [n,s];apply Array.ext';simp [Array.toList_range]
 have b:(List.replicate m.toNat z).length=m.toNat:=by simp
 have w:=zqO (pub:=pub) (τ:=τ) (e:=e) g (by rw [b];omega) hτ;refine ⟨_,_,?_,zbp _ _ _ _,w⟩;rw [f,a,b];rfl
theorem zfV {d bytes:Nat} {k1 k2:IntKind} {m:Int} {zs:List Value} {z:α} (h:st c i n E (some d)=true) (ho:execOp (ev E) (zv c i)=vOf (Instr.makeSlice T (.int k1 m) (.int k2 m)))
  (hT:zjW P T=some (e,t.size,t.size,bytes)) (hz:(zct P e).map Value.cells=some zs.toArray) (hzo:t.own κ zs z) (hx:mkl bytes m z=some r) (hτ:τ.1≤κ.H.size)
  (hk:∀ a' κ',Step [] κ κ'→Gr t pub τ κ' e a' r.length r→owp P n c (i+1) Q (upd E d (.slice a' r.length r.length)) κ'):owp P n c i Q E κ:=by
 refine zkb (fun v κ'=>∃ a',v=.slice a' r.length r.length∧Step [] κ κ'∧Gr t pub τ κ' e a' r.length r) h (fun C b=>?_) ?_
 ·obtain ⟨a',κ',f,hs,a⟩:=zwO (P:=P) (T:=T) (pub:=pub) (k1:=k1) (k2:=k2) hT hz hzo hx hτ C b;exact ⟨_,κ',b,by rw [ho];exact zB f,a',rfl,hs,a⟩
 ·rintro v κ' ⟨a',rfl,hs,a⟩;exact hk a' κ' hs a
def zbE:Option Int→Option Value
 | some n=>some (.int .i64 n)
 | none=>none
theorem zy7 {lo hi:Int} (h:Sl t κ a cp l) (hx:zf7 l lo hi=some r) (ha:r.length=hi.toNat - lo.toNat) :
  Sl t κ (if cp=lo.toNat then a else a.map (·.add (lo.toNat*t.size))) (cp - lo.toNat) r:=by
 obtain ⟨p,n,m,rfl⟩:=ziH hx;have hc:=h.cap;have hm:=h.most;refine ⟨by rw [ha];omega,by rw [ha];omega,fun g=>?_⟩;rw [ha] at g;obtain ⟨b,off,k,e⟩:=h.elems (by omega);refine ⟨b,off+lo.toNat*t.size,?_,fun j x d=>?_⟩
 ·rw [if_neg (by omega),k];simp [zbn]
 ·rw [co,dm] at d;split at d
  ·obtain ⟨cs,c,f⟩:=e _ _ d;refine ⟨cs,?_,f⟩;rw [fu,←Nat.add_assoc] at c;exact c
  ·cases d
theorem zwM {lo hi:Option Int} (hT:zC P T=some e) (hs:zG P e=some t.size) (h:Sl t κ a cp l)
  (hx:zf7 l (lo.getD 0) (hi.getD l.length)=some r) :
  ∃ a' c',(∀ w,(Instr.sliceAt T (.slice a l.length cp) (zbE lo) (zbE hi) none).run P w=.ok (.slice a' r.length c') w)∧Sl t κ a' c' r:=by
 have b:=zcc hT;obtain ⟨p,n,k,g⟩:=ziH hx;have hc:=h.cap;have c:r.length=(hi.getD l.length).toNat - (lo.getD 0).toNat:=by
  rw [g,dx,ef];omega
 have f:(hi.getD l.length).toNat≤cp:=by omega
 refine ⟨_,_,fun w=>?_,zy7 h hx c⟩;unfold Instr.sliceAt Instr.slice Instr.sliceBounds;rw [c];cases lo with
 | none=>
  cases hi with
  | none=>simp [zy b,zbE,zS hs]
  | some hv=>
   simp only [gq,Option.getD_none] at *;have d:0≤hv∧hv≤(cp:Int):=by omega
   simp [zy b,zbE,zS hs,Instr.sliceBound,asIntOf,d]
 | some lv=>
  cases hi with
  | none=>
   simp only [gq,Option.getD_none] at *;have d:0≤lv∧lv≤(l.length:Int):=by omega
   simp [zy b,zbE,zS hs,Instr.sliceBound,asIntOf,d]
  | some hv=>
   simp only [gq] at *;have d:0≤hv∧hv≤(cp:Int):=by omega
   have j:0≤lv∧lv≤(hv.toNat:Int):=by omega
   simp [zy b,zbE,zS hs,Instr.sliceBound,asIntOf,d,j];intro m;omega
theorem Gr.idx {ix:Int} {x:α} (h:Gr t pub τ κ e a cp l) (hx:idx l ix=some x) :
  ∃ b,a=some ⟨b,0,none⟩∧0≤ix∧ix<(l.length:Int)∧∃ cs,At κ b (0+ix.toNat*t.size) cs∧t.own κ cs x:=by
 obtain ⟨p,d,n⟩:=ziD hx;rcases h.body with ⟨_,m⟩ | ⟨g,cur,xs,ha,hr,hH,h3,h4,h5,h6,h7,h8,h9⟩
 ·rw [m] at d;simp at d;omega
 ·refine ⟨g,ha,p,d,?_⟩;obtain ⟨cs,k,f⟩:=hr.get n;refine ⟨cs,⟨(ae.1 hH).1,fun j v c=>?_⟩,k⟩;rw [←f,←h6] at c;rw [dm] at c;split at c
  ·rw [co,dm] at c;split at c
   ·unfold K.cell;rw [hH];simp only [gl];rw [←ak];exact c
   ·cases c
  ·cases c
theorem zfH (vs:List Value):∀ (cs:List Value) (off j:Nat),off+vs.length≤cs.length→(splice cs off vs)[j]?=if off≤j∧j<off+vs.length then vs[j - off]? else cs[j]?:=by
 induction vs with
 | nil=>intro cs off j _;rw [splice,if_neg (fun h=>by simp only [ec] at h;omega)]
 | cons v vs ih=>
  intro cs off j b;simp only [dv] at b;rw [splice,ih (cs.set off v) (off+1) j (by rw [ee];omega)];simp only [dv];by_cases a:off+1≤j∧j<off+1+vs.length
  ·rw [if_pos a,if_pos (by omega)];have:j - off=(j - (off+1))+1:=by omega
   rw [this,List.getElem?_cons_succ]
  ·rw [if_neg a];by_cases c:j=off
   ·subst c;rw [if_pos (by omega),Nat.sub_self,dj (by omega)];rfl
   ·rw [if_neg (by omega),dh (by omega)]
theorem ztz {cur vs xs cs:List Value} {m s i δ:Nat} (hm:m*s≤cur.length) (hxs:cur.take (m*s)=xs) (hi:i<m) (hcs:(xs.drop (i*s)).take s=cs) (hδ:δ+vs.length≤s) :
  (splice cur (i*s+δ) vs).take (m*s)=xs.take (i*s)++splice cs δ vs++xs.drop ((i+1)*s):=by
 have n:(i+1)*s≤m*s:=gj _ hi;have k:(i+1)*s=i*s+s:=gk i s;have g:xs.length=m*s:=by rw [←hxs,ef];omega
 have c:cs.length=s:=by rw [←hcs,ef,dx];omega
 have a:∀ j,j<m*s→xs[j]?=cur[j]?:=fun j b=>by rw [←hxs,dm,if_pos b]
 have f:∀ j,j<s→cs[j]?=cur[i*s+j]?:=fun j b=>by rw [←hcs,dm,if_pos b,co,a _ (by omega)]
 apply bq;intro j;rw [dm];by_cases b:j<m*s
 ·rw [if_pos b,zfH _ _ _ _ (by omega)];have d:(xs.take (i*s)).length=i*s:=by rw [ef];omega
  have e:(splice cs δ vs).length=s:=by rw [zfe,c]
  by_cases h:j<i*s
  ·rw [if_neg (by omega),bg,cj (by omega),dm,if_pos h,a j b]
  ·by_cases p:j<i*s+s
   ·rw [bg,cn (by omega),cj (by omega),zfH _ _ _ _ (by omega),d];by_cases hc:i*s+δ≤j∧j<i*s+δ+vs.length
    ·rw [if_pos hc,if_pos (by omega)];congr 1;omega
    ·rw [if_neg hc,if_neg (by omega),f _ (by omega)];congr 1;omega
   ·rw [if_neg (by omega),cn (by rw [du];omega),co,du,d,e,a _ (by omega)];congr 1;omega
 ·rw [if_neg b,cu];rw [du,du,zfe,c,ef,dx];omega
theorem zdz {ix:Int} {x':α} {b δ:Nat} {T:TypeId} {vs:List Value} (v:Value) (h:st c i n E none=true)
  (ho:execOp (ev E) (zv c i)=uOf (Instr.storeAt T (.pointer (some ⟨b,0+ix.toNat*t.size+δ,none⟩)) v)) (ea:a=some ⟨b,0,none⟩) (hg:Gr t false τ κ e a cp l)
  (h0:0≤ix) (h1:ix<(l.length:Int)) (hv:v.cells=vs.toArray) (hs:zG P T=some vs.length) (hone:zoH vs=true) (hδ:Nat.ble (δ+vs.length) t.size=true)
  (hnew:∀ cs,(∃ x,idx l ix=some x∧t.own κ cs x)→t.own κ (splice cs δ vs) x')
  (hk:∀ κ',Step (blk a cp) κ κ'→Gr t false τ κ' e a cp (l.set ix.toNat x')→owp P n c (i+1) Q E κ'):owp P n c i Q E κ:=by
 subst ea;rcases hg.body with ⟨_,A⟩ | ⟨g,cur,xs,ha,hr,hH,h3,h4,h5,h6,h7,h8,h9⟩
 ·rw [A] at h1;simp at h1;omega
 ·have w:b=g:=by injection ha with ha;injection ha
  subst w;have j:Box τ κ b cur.toList e:=⟨by simpa using hH,by rw [h7];simp,h8,h9⟩;have s:=fx hδ;have f:ix.toNat<l.length:=by omega
  have B:(ix.toNat+1)*t.size≤l.length*t.size:=gj _ f;have m:l.length*t.size≤cur.toList.length:=by have y:cur.toList.length=cp*t.size:=by {simpa using h5};rw [y];exact gj _ h3
  have D:(ix.toNat+1)*t.size=ix.toNat*t.size+t.size:=gk _ _;have k:l[ix.toNat]?=some l[ix.toNat]:=cq f;obtain ⟨r,p,q⟩:=hr.get k;have u:=hnew r ⟨l[ix.toNat],by unfold Lf.idx;rw [if_pos h0];exact k,p⟩;have d:Step [b] κ (κ.setB b (splice cur.toList (0+ix.toNat*t.size+δ) vs) e):=zhJ j;refine zw2 h (fun C G=>by rw [ho];exact zqI (zmo j hv hs hone (by omega))) (hk _ (d.mono (fun x F=>by rw [fg.1 F];exact zi9 (a:=⟨b,0,none⟩) (by omega))) ⟨by rw [ee];exact hg.most,.inr ⟨b,(splice cur.toList (0+ix.toNat*t.size+δ) vs).toArray,_,rfl,
   (hr.step d).set (t.step d u) f,?_,by rw [ee];exact h3,h4,?_,?_,?_,h8,h9⟩⟩)
  ·exact (ziF j).obj
  ·rw [fo,zfe,an,h5]
  ·rw [ee,gl];exact ztz m h6 f q s
  ·exact h7
end
section
variable {M M':List Nat} {κ κ1 κ2:K}
theorem Step.tr0 (h:Step M κ κ1) (s:Step [] κ1 κ2):Step M κ κ2:=h.trans s.nil
theorem Step.trM (h:Step M κ κ1) (hb:∀ b∈M',b∈M∨κ.H.size≤b) (s:Step M' κ1 κ2):Step M κ κ2:=by
 refine ⟨fz h.1 s.1,fun b a g=>?_,fun b a=>?_,fun b a e=>?_⟩
 ·have c:=h.2.1 b a g;have d:=s.2.1 b (gc a h.1) (fun hc=>(hb b hc).elim g (by omega));exact ⟨d.1.trans c.1,d.2.1.trans c.2.1,d.2.2.trans c.2.2⟩
 ·have c:=h.2.2.1 b a;have d:=s.2.2.1 b (gc a h.1);exact ⟨fz c.1 d.1,fun o f=>(d.2 o (gc f c.1)).trans (c.2 o f)⟩
 ·have c:=h.2.2.2 b a e;have d:=s.2.2.2 b (gc a h.1) (gc e (h.2.2.1 b a).1);exact ⟨d.1.trans c.1,d.2.trans c.2⟩
theorem Step.trB {b:Nat} (h:Step M κ κ1) (hb:κ.H.size≤b) (s:Step [b] κ1 κ2):Step M κ κ2:=
 h.trM (fun x a=>.inr (by have:x=b:=(by simpa using a);rw [this];exact hb)) s
theorem Step.trG (h:Step M κ κ1) (hb:∀ b∈M',κ.H.size≤b) (s:Step M' κ1 κ2):Step M κ κ2:=h.trM (fun b a=>.inr (hb b a)) s
theorem Step.of_eq (h:κ=κ1):Step M κ κ1:=h▸Step.refl _ _
theorem zc7 {τ:Tag} {N i:Nat} (h:τ.1<N):τ≠(N,i):=by
 intro e;rw [e] at h;exact absurd h (Nat.lt_irrefl _)
theorem zc8 {τ:Tag} {N i:Nat} (h:τ.1<N):((N,i):Tag)≠τ:=(zc7 h).symm
end
section
variable [Fc] [Fb] {P:Program} {n:Nat} {Q:zaH} {E:Env} {κ:K}
theorem rrS:∀ κ:K,Step [] κ κ:=fun _=>Step.refl _ _
end
section
variable {α:Type} {t:Ty α} {pub:Bool} {τ:Tag} {κ:K} {e:TypeId} {a:Option Addr} {c:Nat} {l l' r:List α}
theorem zjM (h:some l'=some r) (hg:Gr t pub τ κ e a c l'):Gr t pub τ κ e a c r:=by injection h with h;rw [←h];exact hg
theorem zhp {cs vs:List Value} (h:cs.length=vs.length):splice cs 0 vs=vs:=by
 apply bq;intro j;rw [zfH vs cs 0 j (by omega)];simp only [gl,Nat.zero_le,true_and,Nat.sub_zero];split
 ·rfl
 ·rw [cu (by omega),cu (by omega)]
theorem zqK (h:l.length≤maxLen):l.length≤9223372036854775807:=by rw [←zgw];exact h
end
section
variable {P:Program} {c:Code} {i:Nat} {E:Env} {T:TypeId} {s r:List UInt8} {w:World}
end
theorem zwu (n:Int):0≤IntKind.wrap .u8 n∧IntKind.wrap .u8 n≤255:=by
 unfold IntKind.wrap;simp only [IntKind.bits,IntKind.signed];simp;omega
def zg7 (P:Program) (f:Field) (off:Nat):Bool:=
 (f.name != "_")&&Nat.beq f.offset off&&(match P.underlying f.type with | some (.int _)=>true | _=>false)
def zk1 (P:Program) (T:TypeId):Bool:=
 (match P.underlying T with | some (.struct _)=>true | _=>false)&&!P.stoodInHeld T&&!P.eqGuardType P.depth T &&
 (match (P.fieldsOf T).toList with | [f,g]=>zg7 P f 0&&zg7 P g 1 | _=>false)
section
variable {P:Program}
theorem zcy {f:Field} {off:Nat} (h:zg7 P f off=true) {xs:Array Value} {v:Value} (hv:xs[off]?=some v) (w:World):(part f.type xs f.offset).run P w=.ok v w:=by
 unfold zg7 at h;simp only [ao] at h;have c:=fv h.1.2;have b:zdY P f.type=some false:=by
  unfold zdY;have a:=h.2;split at a
  ·rename_i k hk;rw [hk]
  ·cases a
 unfold part;simp [zlZ b,c,hv]
theorem zll {f:Field} {off:Nat} (h:zg7 P f off=true) (d:Nat) (k:IntKind) (a b:Int) (w:World):(Op.equalIn (d+1) f.type (.int k a) (.int k b)).run P w=.ok (a == b) w:=by
 unfold zg7 at h;simp only [ao] at h;have c:=h.2;split at c
 ·rename_i k' hk;exact run_equalIn_int w d f.type k k' a b hk
 ·cases c
theorem zve {T:TypeId} (h:zk1 P T=true) (k1 k2:IntKind) (a b a' b':Int) (w:World) :
  (Op.equalIn 10000 T (.agg #[.int k1 a,.int k2 b]) (.agg #[.int k1 a',.int k2 b'])).run P w=.ok (decide (a=a')&&decide (b=b')) w:=by
 unfold zk1 at h;simp only [ao,au] at h;obtain ⟨⟨⟨n,q⟩,s⟩,d⟩:=h;have r:P.underlying T=some (.struct (P.fieldsOf T)):=by
  unfold Program.fieldsOf;split at n
  ·rename_i fs hfs;simp [hfs]
  ·cases n
 rw [show (10000:Nat)=9999+1 from rfl,run_equalIn_agg w 9999 T _ _ r q];split at d
 ·rename_i f g hfg;rw [hfg];simp only [ao] at d;obtain ⟨c,e⟩:=d;have j:f.name ≠ "_" := by
   have:=c;unfold zg7 at this;simp only [ao] at this;simpa using this.1.1
  have k:g.name ≠ "_" := by
   have:=e;unfold zg7 at this;simp only [ao] at this;simpa using this.1.1
  simp only [Op.eqFields,if_pos j,if_pos k,ay];rw [zcy c (v:=.int k1 a) rfl];simp only [ax];rw [zcy c (v:=.int k1 a') rfl];simp only [ax];rw [show (9999:Nat)=9998+1 from rfl,zll c];simp only [ax];by_cases m:a=a'
  ·subst m;simp only [BEq.rfl,aw,aq,if_false,decide_true,Bool.true_and,ay];rw [zcy e (v:=.int k2 b) rfl];simp only [ax];rw [zcy e (v:=.int k2 b') rfl];simp only [ax];rw [zll e];simp only [ax];by_cases p:b=b'
   ·subst p;simp
   ·simp [p]
  ·simp [m]
 ·cases d
theorem zmq {E:Env} {c:Code} {i:Nat} {T:TypeId} {k1 k2:IntKind} {a b a' b':Int} {w:World}
  (h:execOp (ev E) (zv c i)=vOf (do eqGuard .eql T (.tmp 0) (.tmp 0) (.agg #[.int k1 a,.int k2 b]) (.agg #[.int k1 a',.int k2 b']);binOp .eql T (.agg #[.int k1 a,.int k2 b]) (.agg #[.int k1 a',.int k2 b'])))
  (hT:zk1 P T=true):(execOp (ev E) (zv c i)).run P w=.ok (.value (.bool (decide (a=a')&&decide (b=b')))) w:=by
 rw [h];refine zB ?_;have hm:P.eqGuardType P.depth T=false:=by unfold zk1 at hT;simp only [ao,au] at hT;exact hT.1.2
 rw [ay,run_eqGuard_agg _ _ _ _ _ _ _ hm];simp only [ax];rw [run_eql_struct,zve hT];rfl
theorem zuw {E:Env} {c:Code} {i:Nat} {T:TypeId} {k1 k2:IntKind} {a b a' b':Int} {w:World}
  (h:execOp (ev E) (zv c i)=vOf (do eqGuard .neq T (.tmp 0) (.tmp 0) (.agg #[.int k1 a,.int k2 b]) (.agg #[.int k1 a',.int k2 b']);binOp .neq T (.agg #[.int k1 a,.int k2 b]) (.agg #[.int k1 a',.int k2 b'])))
  (hT:zk1 P T=true):(execOp (ev E) (zv c i)).run P w=.ok (.value (.bool (!(decide (a=a')&&decide (b=b'))))) w:=by
 rw [h];refine zB ?_;have hm:P.eqGuardType P.depth T=false:=by unfold zk1 at hT;simp only [ao,au] at hT;exact hT.1.2
 rw [ay,run_eqGuard_agg _ _ _ _ _ _ _ hm];simp only [ax];rw [run_neq_struct,zve hT];rfl
end
theorem zaf {α:Type} {l r:List α} {i:Nat} {x:α} (h:some (l.set i x)=some r):r.length=l.length:=by
 injection h with h;rw [←h,ee]
theorem zk {N M i j:Nat} (h:Nat.beq i j=false):((N,i):Tag)≠(M,j):=by
 intro e;have:i=j:=congrArg Prod.snd e;subst this;simp at h
theorem zho [Fb] {P:Program} {f:FuncId} {A B:Array Value} {κ:K} {R:Value→K→Prop} (h:A=B) (hf:Fn P f B κ R):Fn P f A κ R:=by rw [h];exact hf
def zdO (P:Program) (f:FuncId):Bool:=
 match P.funcs[f]? with
 | some fn=>!(fn.name == "runtime.NumGoroutine")&&fn.body.isSome
 | none=>false
theorem zbJ {P:Program} {f:FuncId} {args:Array Value} {w:World} {r:Result Next} (h:r=(callFunc f args).run P w) (hf:zdO P f=true):r=.ok (.enter f args) w:=by
 rw [h];unfold zdO at hf;split at hf
 ·rename_i fn hfn;simp only [ao,au] at hf;unfold callFunc;have c:fn.body≠none:=by intro a;rw [a] at hf;simp at hf
  have b:¬fn.name = "runtime.NumGoroutine" := by simpa using hf.1
  simp [hfn,b,c]
 ·cases hf
theorem zac {P:Program} {E:Env} {c:Code} {i:Nat} {s:Sem Next} {w:World} {r:Result Next} (h:execOp (ev E) (zv c i)=s) (hs:s.run P w=r):(execOp (ev E) (zv c i)).run P w=r:=by
 rw [h];exact hs
theorem zoC {α:Type} {a b c d x:α} {ix:Int} (h:idx [a,b,c,d] ix=some x):(ix=0∧x=a)∨(ix=1∧x=b)∨(ix=2∧x=c)∨(ix=3∧x=d):=by
 obtain ⟨g,f,e⟩:=ziD h;simp only [dv,ec] at f;have:ix=0∨ix=1∨ix=2∨ix=3:=by omega
 rcases this with h3 | h3 | h3 | h3
 ·subst h3;left;simp at e;exact ⟨rfl,e.symm⟩
 ·subst h3;right;left;simp at e;exact ⟨rfl,e.symm⟩
 ·subst h3;right;right;left;simp at e;exact ⟨rfl,e.symm⟩
 ·subst h3;right;right;right;simp at e;exact ⟨rfl,e.symm⟩
theorem Box.tlt {τ:Tag} {κ:K} {b:Nat} {cs:List Value} {T:TypeId} (h:Box τ κ b cs T):τ.1<κ.H.size:=Nat.lt_of_le_of_lt h.ge h.lt
section
variable {b x:Nat} {M1 M2 M:List Nat} {l:List Nat} {N:Nat}
theorem zzm (h1:b∉M1) (h2:b∉M2):b∉M1++M2:=fun h=>(ep.1 h).elim h1 h2
theorem zxJ (h1:∀ g∈l,g∉M1) (h2:∀ g∈l,g∉M2):∀ g∈l,g∉M1++M2:=fun g a=>zzm (h1 g a) (h2 g a)
theorem zo6 (h1:∀ g∈M1,g∈M∨N≤g) (h2:∀ g∈M2,g∈M∨N≤g):∀ g∈M1++M2,g∈M∨N≤g:=fun g a=>(ep.1 a).elim (h1 g) (h2 g)
theorem zr4 (h:x∈M):∀ g∈[x],g∈M∨N≤g:=fun g a=>.inl (by rw [fg.1 a];exact h)
theorem ztW (h:N≤x):∀ g∈[x],g∈M∨N≤g:=fun g a=>.inr (by rw [fg.1 a];exact h)
theorem ztV (h:∀ g∈l,N≤g):∀ g∈l,g∈M∨N≤g:=fun g a=>.inr (h g a)
end
def rds (c:Code) (i:Nat):List Nat:=(zv c i).looksAt (opsOf c)
def zqk (c:Code) (i:Nat):Bool:=
 match (zv c i).op with
 | .select _ _=>true
 | _=>false
def zs1 (c:Code) (k:Nat):Bool:=
 (List.range k).all fun i=>!zqk c i&&(rds c i).all fun t=>((List.range k).all fun j=>dstOf c j != t)||((List.range i).any fun j=>(dstOf c j == t)&&dep c i j)
theorem zjv {c:Code} {i:Nat} {E E':Env} (h:∀ t∈rds c i,E t=E' t):za0 c i E=za0 c i E':=by
 unfold za0;cases hg:(zv c i).guard with
 | none=>rfl
 | some g=>
  obtain ⟨j,w⟩:=g;simp only [];cases hd:((opsOf c)[j]?).bind (·.dst) with
  | none=>rfl
  | some t=>
   simp only [];have:t∈rds c i:=by
    unfold rds Oper.looksAt;rw [hg];simp [hd]
   rw [h t this]
theorem zmD {c:Code} {i:Nat} {E E':Env} (hs:zqk c i=false) (h:∀ t∈rds c i,E t=E' t):execOp (ev E) (zv c i)=execOp (ev E') (zv c i):=by
 refine execOp_congr _ (fun cs b e=>by unfold zqk at hs;rw [e] at hs;cases hs) fun x a=>?_;cases x with
 | tmp t=>
  refine h t ?_;unfold rds Oper.looksAt;exact er _ (List.mem_filterMap.2 ⟨.tmp t,by simpa using a,rfl⟩)
 | _=>rfl
def QC [Fb] (P:Program) (c:Code):Nat→Nat→Env→K→(Env→Prop)→Prop
 | 0,_,E,_,R=>R E
 | m+1,i,E,κ,R=>
  (za0 c i E=true∧∃ v,(∀ C d,(execOp (ev E) (zv c i)).run P (W C κ d)=.ok (.value v) (W C κ d))∧QC P c m (i+1) (upd E (dstOf c i) v) κ R) ∨
  (za0 c i E=false∧QC P c m (i+1) (upd E (dstOf c i) undef) κ R) ∨
  (za0 c i E=true∧∃ v f args,(∀ C d,(execOp (ev E) (zv c i)).run P (W C κ d)=.ok (.enter f args) (W C κ d))∧Fn P f args κ (fun u κ'=>κ=κ'∧u=v)∧QC P c m (i+1) (upd E (dstOf c i) v) κ R)
theorem QC.out [Fb] {P:Program} {c:Code} {κ:K} {R:Env→Prop}:∀ (m i:Nat) (E:Env),QC P c m i E κ R→
  ∃ (vs:Nat→Value) (a:Nat→Env),a i=E∧R (a (i+m))∧∀ j,i≤j→j<i+m→a (j+1)=upd (a j) (dstOf c j) (vs j)∧
   OpQ P Eq c j (a j) κ (fun v _=>v=vs j)
 | 0,i,E,h=>⟨fun _=>undef,fun _=>E,rfl,h,fun j q n=>absurd n (by omega)⟩
 | m+1,i,E,h=>by
  have step:∀ v,OpQ P Eq c i E κ (fun u _=>u=v)→QC P c m (i+1) (upd E (dstOf c i) v) κ R→
    ∃ (vs:Nat→Value) (a:Nat→Env),a i=E∧R (a (i+(m+1)))∧∀ j,i≤j→j<i+(m+1)→a (j+1)=upd (a j) (dstOf c j) (vs j)∧
     OpQ P Eq c j (a j) κ (fun v _=>v=vs j):=by
   intro v r b;obtain ⟨vs,a,q,n,t⟩:=QC.out m (i+1) _ b;refine ⟨fun j=>if j=i then v else vs j,fun j=>if j=i then E else a j,by simp,?_,fun j s w=>?_⟩
   ·have e:i+(m+1)=i+1+m:=by omega
    dsimp only;rw [if_neg (by omega),e];exact n
   ·by_cases g:j=i
    ·subst g;dsimp only;rw [if_neg (by omega),if_pos rfl,if_pos rfl];exact ⟨q,r⟩
    ·dsimp only;rw [if_neg (by omega),if_neg g,if_neg g];exact t j (by omega) (by omega)
  rcases h with ⟨k,v,p,b⟩ | ⟨k,b⟩ | ⟨k,v,f,args,p,hf,b⟩
  ·exact step v (zaa (fun _=>rfl) v k p rfl) b
  ·exact step undef (zxO k rfl) b
  ·refine step v (zqS k fun C d=>?_) b;rw [p];exact ⟨κ,d,rfl,rfl,hf.mono fun u κ' ⟨e1,e2⟩=>⟨e1,e2⟩⟩
theorem zkp {E:Env} {t s:Nat} {v:Value}:upd E t v s=if s=t then v else E s:=by
 unfold upd;by_cases h:s=t
 ·subst h;simp
 ·rw [if_neg h];cases hb:Nat.beq s t with
  | false=>rfl
  | true=>exact absurd (fv hb) h
section
variable [Fc] [Fb] {P:Program} {n:Nat} {c:Code} {Q:zaH} {E:Env} {κ:K} {i k:Nat}
theorem zxy {c0:Code} {p:List Nat} (k:Nat) (hk:QC P (sub c0 p) k 0 E κ (fun w=>owp P n (sub c0 p) k Q w κ))
  (h:zbK (sub c0 p)=some true:=by kernel_rfl) (hm:P.follows .mixedOrders=true:=by kernel_rfl) (hB:zlB (sub c0 p) n k=true:=by kernel_rfl)
  (hrd:zs1 (sub c0 p) k=true:=by kernel_rfl):cwp P n (sub c0 p) Q E κ:=by
 obtain ⟨vs,A,M,I,H⟩:=QC.out k 0 E hk;rw [gl] at I;have d:∀ i,i<k→∀ j,j<i→dstOf (sub c0 p) j≠dstOf (sub c0 p) i:=by
  intro i hi j a;unfold zlB at hB;simp only [ao] at hB;have J:=hB.1.1.2;unfold zyS at J;have B:=be.1 J i (fe.2 hi);simp only [ao] at B;have:=be.1 B.2 j (fe.2 a);simpa using this
 have D:∀ i j,i<k→j<k→i≠j→dstOf (sub c0 p) i≠dstOf (sub c0 p) j:=by
  intro i j hi a F;rcases gg F with h | h
  ·exact d j a i h
  ·exact (d i hi j h).symm
 have f:∀ i,i≤k→∀ t,(∀ j,j<i→t≠dstOf (sub c0 p) j)→A i t=E t:=by
  intro i
  induction i with
  | zero=>intro _ t _;rw [M]
  | succ i ih=>
   intro hi t g;rw [(H i (by omega) (by omega)).1,zkp,if_neg (g i (by omega))];exact ih (by omega) t fun j a=>g j (by omega)
 have u:∀ i,i≤k→∀ j,j<i→A i (dstOf (sub c0 p) j)=vs j:=by
  intro i
  induction i with
  | zero=>intro _ j a;omega
  | succ i ih=>
   intro hi j a;rw [(H i (by omega) (by omega)).1,zkp];by_cases c:j=i
   ·subst c;rw [if_pos rfl]
   ·rw [if_neg (D j i (by omega) (by omega) c)];exact ih (by omega) j (by omega)
 have G:∀ i:Nat,Rl k i (Eq:K→K→Prop) Eq=Eq:=fun i=>by unfold Rl;cases Nat.beq i k<;>rfl
 refine zuf k Eq Eq (fun _=>rfl) (fun _ _ _=>Eq.trans) (fun _ _ _=>Eq.trans) (fun _ _ h=>h) k (fun j v _=>v=vs j) h hm hB ?_ ?_ ?_
 ·intro i v κ1 κ2 _ hS _;exact hS
 ·intro i hi w κ' C q y;rw [G] at C ⊢;subst C;have b:=be.1 hrd i (fe.2 hi);simp only [ao,au] at b;have s:∀ t∈rds (sub c0 p) i,w t=A i t:=by
   intro t g;have B:=be.1 b.2 t g;rcases Bool.or_eq_true_iff.1 B with h6 | h6
   ·have x:∀ j,j<k→t≠dstOf (sub c0 p) j:=fun j a=>by
     have:=be.1 h6 j (fe.2 a);exact fun e=>by rw [e] at this;simp at this
    rw [q t x,f i (by omega) t fun j a=>x j (by omega)]
   ·obtain ⟨j,a,r⟩:=bf.1 h6;simp only [ao,beq_iff_eq] at r;have c:=fe.1 a;rw [←r.1,y j (by omega) r.2,u i (by omega) j c]
  have L:=(H i (by omega) (by omega)).2;unfold OpQ at L ⊢;rw [zjv s,zmD b.1 s];exact L
 ·intro w κ' C q m;subst C;have:w=A k:=by
   funext t;by_cases g:∃ j,j<k∧t=dstOf (sub c0 p) j
   ·obtain ⟨j,a,rfl⟩:=g;rw [m j a,u k (fy _) j a]
   ·have x:∀ j,j<k→t≠dstOf (sub c0 p) j:=fun j a e=>g ⟨j,a,e⟩;rw [q t x,f k (fy _) t x]
  rw [this];exact I
def dwp [Fc] [Fb] (P:Program) (n:Nat) (c:Code) (k i:Nat) (Q:zaH) (E:Env) (κ:K):Prop:=QC P c (k - i) i E κ (fun E'=>owp P n c k Q E' κ)
theorem zwi {c0:Code} {p:List Nat} (k:Nat) (hk:dwp P n (sub c0 p) k 0 Q E κ)
  (h:zbK (sub c0 p)=some true:=by kernel_rfl) (hm:P.follows .mixedOrders=true:=by kernel_rfl) (hB:zlB (sub c0 p) n k=true:=by kernel_rfl)
  (hrd:zs1 (sub c0 p) k=true:=by kernel_rfl):cwp P n (sub c0 p) Q E κ:=zxy k hk h hm hB hrd
def dst (c:Code) (k i:Nat) (E:Env) (d:Nat):Bool:=Nat.blt i k&&za0 c i E&&Nat.beq (dstOf c i) d
def dsk (c:Code) (k i:Nat) (E:Env) (d:Nat):Bool:=Nat.blt i k&&!za0 c i E&&Nat.beq (dstOf c i) d
theorem zlq {d:Nat} (v:Value) (h:dst c k i E d=true) (hr:∀ C d0,(execOp (ev E) (zv c i)).run P (W C κ d0)=.ok (.value v) (W C κ d0))
  (hk:dwp P n c k (i+1) Q (upd E d v) κ):dwp P n c k i Q E κ:=by
 unfold dst at h;simp only [ao] at h;have a:i<k:=by have:=h.1.1;simpa [Nat.blt,ga] using this
 have hd:=fv h.2;subst hd;unfold dwp at *;have e:k - i=(k - (i+1))+1:=by omega
 rw [e];exact .inl ⟨h.1.2,v,hr,hk⟩
theorem zxt {d:Nat} (h:dsk c k i E d=true) (hk:dwp P n c k (i+1) Q (upd E d undef) κ):dwp P n c k i Q E κ:=by
 unfold dsk at h;simp only [ao,au] at h;have a:i<k:=by have:=h.1.1;simpa [Nat.blt,ga] using this
 have hd:=fv h.2;subst hd;unfold dwp at *;have e:k - i=(k - (i+1))+1:=by omega
 rw [e];exact .inr (.inl ⟨h.1.2,hk⟩)
theorem zud {d:Nat} {f:FuncId} {args:Array Value} {v:Value} (h:dst c k i E d=true) (hr:∀ w,(execOp (ev E) (zv c i)).run P w=.ok (.enter f args) w)
  (hf:Fn P f args κ (fun u κ'=>κ=κ'∧u=v)) (hk:dwp P n c k (i+1) Q (upd E d v) κ):dwp P n c k i Q E κ:=by
 unfold dst at h;simp only [ao] at h;have a:i<k:=by have:=h.1.1;simpa [Nat.blt,ga] using this
 have hd:=fv h.2;subst hd;unfold dwp at *;have e:k - i=(k - (i+1))+1:=by omega
 rw [e];exact .inr (.inr ⟨h.1.2,v,f,args,fun C d=>hr _,hf,hk⟩)
theorem zyp (h:Nat.beq i k=true) (hk:owp P n c i Q E κ):dwp P n c k i Q E κ:=by
 have:=fv h;subst this;unfold dwp;rw [Nat.sub_self];exact hk
end
theorem Fn.ex [Fb] {P:Program} {f:FuncId} {args:Array Value} {κ:K} {R:Value→K→Prop} (h:Fn P f args κ R):∃ v κ',R v κ':=by
 have o:Os:=by constructor<;>first | exact #[] | exact 0 | exact none | exact false | exact [] | exact ByteArray.empty | exact default
 have C:Cx:=⟨o,fun _ _=>0,#[],Fb.b0,Fb.h0⟩;obtain ⟨e,w',b,⟨v,κ',c,_,_,a⟩,_⟩:=h C 0 [];exact ⟨v,κ',a⟩
section
variable [Fc] [Fb] {P:Program} {n:Nat} {c:Code} {i k:Nat} {Q:zaH} {E:Env} {κ:K}
theorem op (d:Nat) (v:Value) (hk:owp P n c (i+1) Q (upd E d v) κ) (h:st c i n E (some d)=true:=by kernel_rfl)
  (hr:∀ w,(execOp (ev E) (zv c i)).run P w=.ok (.value v) w:=by intro _;kernel_rfl):owp P n c i Q E κ:=zo2 v h hr hk
theorem oq (d:Nat) (v:Value) (hr:∀ w,(execOp (ev E) (zv c i)).run P w=.ok (.value v) w) (hk:owp P n c (i+1) Q (upd E d v) κ) (h:st c i n E (some d)=true:=by kernel_rfl):owp P n c i Q E κ:=zo2 v h hr hk
theorem os (d:Nat) (hk:owp P n c (i+1) Q (upd E d undef) κ) (h:sk c i n E d=true:=by kernel_rfl):owp P n c i Q E κ:=zw1 h hk
theorem o1 (d T:Nat) (v:Value) {b off:Nat} (hv:κ.cell b off=some v) (hk:owp P n c (i+1) Q (upd E d v) κ) (h:st c i n E (some d)=true:=by kernel_rfl)
  (ho:execOp (ev E) (zv c i)=vOf (Instr.loadAt T (.pointer (some ⟨b,off,none⟩))):=by kernel_rfl) (hT:zdY P T=some false:=by kernel_rfl):owp P n c i Q E κ:=zvT h ho hT hv hk
theorem oN (d T:Nat) (cs:List Value) {b off:Nat} (hv:zkn κ b off cs) (hk:owp P n c (i+1) Q (upd E d (.agg cs.toArray)) κ) (h:st c i n E (some d)=true:=by kernel_rfl)
  (ho:execOp (ev E) (zv c i)=vOf (Instr.loadAt T (.pointer (some ⟨b,off,none⟩))):=by kernel_rfl) (hT:zdY P T=some true:=by kernel_rfl) (hs:zG P T=some cs.length:=by kernel_rfl):owp P n c i Q E κ:=zvS h ho hT hs hv hk
theorem oi (d T el sz ln cp:Nat) (k:IntKind) (ix:Int) {b off:Nat} {a:Option Addr} (ea:a=some ⟨b,off,none⟩) (h0:0≤ix) (h1:ix<ln) (hk:owp P n c (i+1) Q (upd E d (.pointer (some ⟨b,off+ix.toNat*sz,none⟩))) κ)
  (h:st c i n E (some d)=true:=by kernel_rfl) (ho:execOp (ev E) (zv c i)=vOf (Instr.indexAt T (.slice a ln cp) (.int k ix)):=by kernel_rfl)
  (hT:zC P T=some el:=by kernel_rfl) (hs:zG P el=some sz:=by kernel_rfl):owp P n c i Q E κ:=zvU ea h ho hT hs h0 h1 hk
theorem dp (d:Nat) (v:Value) (hk:dwp P n c k (i+1) Q (upd E d v) κ) (h:dst c k i E d=true:=by kernel_rfl)
  (hr:∀ w,(execOp (ev E) (zv c i)).run P w=.ok (.value v) w:=by intro _;kernel_rfl):dwp P n c k i Q E κ:=zlq v h (fun _ _=>hr _) hk
theorem dq (d:Nat) (v:Value) (hr:∀ w,(execOp (ev E) (zv c i)).run P w=.ok (.value v) w) (hk:dwp P n c k (i+1) Q (upd E d v) κ) (h:dst c k i E d=true:=by kernel_rfl):dwp P n c k i Q E κ:=zlq v h (fun _ _=>hr _) hk
theorem ds (d:Nat) (hk:dwp P n c k (i+1) Q (upd E d undef) κ) (h:dsk c k i E d=true:=by kernel_rfl):dwp P n c k i Q E κ:=zxt h hk
theorem d1 (d T:Nat) (v:Value) {b off:Nat} (hv:κ.cell b off=some v) (hk:dwp P n c k (i+1) Q (upd E d v) κ) (h:dst c k i E d=true:=by kernel_rfl)
  (ho:execOp (ev E) (zv c i)=vOf (Instr.loadAt T (.pointer (some ⟨b,off,none⟩))):=by kernel_rfl) (hT:zdY P T=some false:=by kernel_rfl):dwp P n c k i Q E κ:=
 zlq v h (fun C a=>by rw [ho];exact zB (zfT hT hv)) hk
theorem dN (d T:Nat) (cs:List Value) {b off:Nat} (hv:zkn κ b off cs) (hk:dwp P n c k (i+1) Q (upd E d (.agg cs.toArray)) κ) (h:dst c k i E d=true:=by kernel_rfl)
  (ho:execOp (ev E) (zv c i)=vOf (Instr.loadAt T (.pointer (some ⟨b,off,none⟩))):=by kernel_rfl) (hT:zdY P T=some true:=by kernel_rfl) (hs:zG P T=some cs.length:=by kernel_rfl):dwp P n c k i Q E κ:=
 zlq _ h (fun C a=>by rw [ho];exact zB (zeO hT hs hv)) hk
theorem di (d T el sz ln cp:Nat) (kd:IntKind) (ix:Int) {b off:Nat} {a:Option Addr} (ea:a=some ⟨b,off,none⟩) (h0:0≤ix) (h1:ix<ln) (hk:dwp P n c k (i+1) Q (upd E d (.pointer (some ⟨b,off+ix.toNat*sz,none⟩))) κ)
  (h:dst c k i E d=true:=by kernel_rfl) (ho:execOp (ev E) (zv c i)=vOf (Instr.indexAt T (.slice a ln cp) (.int kd ix)):=by kernel_rfl)
  (hT:zC P T=some el:=by kernel_rfl) (hs:zG P el=some sz:=by kernel_rfl):dwp P n c k i Q E κ:=by
 subst ea;exact zlq _ h (fun C e=>by rw [ho];exact zB (by rw [znf hT hs h0 h1,zbn])) hk
theorem dc {f:FuncId} {args:Array Value} {v:Value} {B:Prop} (d:Nat) (hf:Fn P f args κ (fun u κ'=>κ=κ'∧u=v∧B)) (hk:B→dwp P n c k (i+1) Q (upd E d v) κ) (h:dst c k i E d=true:=by kernel_rfl)
  (hr:∀ w,(execOp (ev E) (zv c i)).run P w=.ok (.enter f args) w:=by intro _;kernel_rfl):dwp P n c k i Q E κ:=
 zud h hr (hf.mono fun _ _ h=>⟨h.1,h.2.1⟩) (hk (by obtain ⟨_,_,h⟩:=hf.ex;exact h.2.2))
theorem dc0 {f:FuncId} {args:Array Value} {v:Value} (d:Nat) (hf:Fn P f args κ (fun u κ'=>κ=κ'∧u=v)) (hk:dwp P n c k (i+1) Q (upd E d v) κ) (h:dst c k i E d=true:=by kernel_rfl)
  (hr:∀ w,(execOp (ev E) (zv c i)).run P w=.ok (.enter f args) w:=by intro _;kernel_rfl):dwp P n c k i Q E κ:=zud h hr hf hk
theorem de (hk:owp P n c i Q E κ) (h:Nat.beq i k=true:=by kernel_rfl):dwp P n c k i Q E κ:=zyp h hk
theorem osp {α:Type} {A B o:Option α} (d:Nat) (b:Bool) (hr:(if b=true then A else B)=o) (hf:b=false→B=o→owp P n c (i+1) Q (upd E d (.bool false)) κ) (ht:b=true→A=o→owp P n c (i+1) Q (upd E d (.bool true)) κ)
  (h:st c i n E (some d)=true:=by kernel_rfl) (hx:∀ w,(execOp (ev E) (zv c i)).run P w=.ok (.value (.bool b)) w:=by intro _;kernel_rfl):owp P n c i Q E κ:=by
 cases b with
 | false=>exact zo2 _ h hx (hf rfl (zyj rfl hr))
 | true=>exact zo2 _ h hx (ht rfl (zyi rfl hr))
theorem dsp {α:Type} {A B o:Option α} (d:Nat) (b:Bool) (hr:(if b=true then A else B)=o) (hf:b=false→B=o→dwp P n c k (i+1) Q (upd E d (.bool false)) κ) (ht:b=true→A=o→dwp P n c k (i+1) Q (upd E d (.bool true)) κ)
  (h:dst c k i E d=true:=by kernel_rfl) (hx:∀ w,(execOp (ev E) (zv c i)).run P w=.ok (.value (.bool b)) w:=by intro _;kernel_rfl):dwp P n c k i Q E κ:=by
 cases b with
 | false=>exact zlq _ h (fun _ _=>hx _) (hf rfl (zyj rfl hr))
 | true=>exact zlq _ h (fun _ _=>hx _) (ht rfl (zyi rfl hr))
theorem oe (hq:Q .normal E κ) (h:decide ((opsOf c).size≤i)=true:=by kernel_rfl):owp P n c i Q E κ:=zo4 h hq
theorem ot {c1:Code} (hq:cwp P n c1 Q E κ) (h:decide ((opsOf c).size≤i)=true:=by kernel_rfl):owp P n c i (zdi P n c1 Q) E κ:=zo4 h hq
theorem cs {c:Code} {p:List Nat} (hx:cwp P n (sub c (0::p)) (zdi P n (sub c (1::p)) Q) E κ) (h:zl7 (sub c p)=true:=by kernel_rfl):cwp P n (sub c p) Q E κ:=zvt h hx
theorem cr {c:Code} {p:List Nat} (hx:owp P n (sub c p) 0 Q E κ) (h:zbK (sub c p)=some false:=by kernel_rfl):cwp P n (sub c p) Q E κ:=zoE h hx
theorem cd {c:Code} {p:List Nat} (k:Nat) (hx:dwp P n (sub c p) k 0 Q E κ) (h:zbK (sub c p)=some true:=by kernel_rfl) (hm:P.follows .mixedOrders=true:=by kernel_rfl) (hB:zlB (sub c p) n k=true:=by kernel_rfl)
  (hrd:zs1 (sub c p) k=true:=by kernel_rfl):cwp P n (sub c p) Q E κ:=zwi k hx h hm hB hrd
theorem csr {c:Code} {p:List Nat} (hx:owp P n (sub c (0::p)) 0 (zdi P n (sub c (1::p)) Q) E κ) (h:zl7 (sub c p)=true:=by kernel_rfl) (h2:zbK (sub c (0::p))=some false:=by kernel_rfl):cwp P n (sub c p) Q E κ:=zvt h (zoE h2 hx)
theorem otr {c1:Code} {p:List Nat} (hx:owp P n (sub c1 p) 0 Q E κ) (h:decide ((opsOf c).size≤i)=true:=by kernel_rfl) (h2:zbK (sub c1 p)=some false:=by kernel_rfl):owp P n c i (zdi P n (sub c1 p) Q) E κ:=zo4 h (zoE h2 hx)
theorem otx {c1:Code} {p:List Nat} (hx:owp P n (sub c1 (0::p)) 0 (zdi P n (sub c1 (1::p)) Q) E κ) (h:decide ((opsOf c).size≤i)=true:=by kernel_rfl) (h1:zl7 (sub c1 p)=true:=by kernel_rfl) (h2:zbK (sub c1 (0::p))=some false:=by kernel_rfl) :
  owp P n c i (zdi P n (sub c1 p) Q) E κ:=zo4 h (csr hx h1 h2)
theorem cc {α:Type} {A B o:Option α} {c:Code} {p:List Nat} (b:Bool) (hr:(if b=true then A else B)=o) (ht:b=true→A=o→cwp P n (sub c (0::p)) Q E κ) (hf:b=false→B=o→cwp P n (sub c (1::p)) Q E κ)
  (h:zow (sub c p)=true:=by kernel_rfl) (hb:ev E (zqc (sub c p))=.bool b:=by kernel_rfl):cwp P n (sub c p) Q E κ:=zrO b h hb (fun e=>ht e (zyi e hr)) (fun e=>hf e (zyj e hr))
theorem ct {c:Code} {p:List Nat} (ht:cwp P n (sub c (0::p)) Q E κ) (h:zow (sub c p)=true:=by kernel_rfl) (hb:ev E (zqc (sub c p))=.bool true:=by kernel_rfl):cwp P n (sub c p) Q E κ:=zuU h hb ht
theorem cf {c:Code} {p:List Nat} (ht:cwp P n (sub c (1::p)) Q E κ) (h:zow (sub c p)=true:=by kernel_rfl) (hb:ev E (zqc (sub c p))=.bool false:=by kernel_rfl):cwp P n (sub c p) Q E κ:=zuV h hb ht
theorem ck {c:Code} {p:List Nat} (hq:Q .normal E κ) (h:zte (sub c p)=true:=by kernel_rfl):cwp P n (sub c p) Q E κ:=zue h hq
theorem ckt {c c1:Code} {p:List Nat} (hq:cwp P n c1 Q E κ) (h:zte (sub c p)=true:=by kernel_rfl):cwp P n (sub c p) (zdi P n c1 Q) E κ:=zue h hq
theorem cx {c:Code} {p:List Nat} (id:Nat) (hq:Q (.exit id) E κ) (h:zuT (sub c p)=some id:=by kernel_rfl):cwp P n (sub c p) Q E κ:=zxA h hq
theorem cb {c:Code} {p:List Nat} (id:Nat) (hx:cwp P n (sub c (0::p)) (zb9 id Q) E κ) (h:zpt (sub c p)=some id:=by kernel_rfl):cwp P n (sub c p) Q E κ:=zwj h hx
theorem crt {c:Code} {p:List Nat} (hq:Q .ret E κ) (h:zxn (sub c p)=true:=by kernel_rfl):cwp P n (sub c p) Q E κ:=zyt h hq
theorem rt {fn:Func} {R:Value→K→Prop} (rs:List ResultVar) (vs:List Value) (h:zun P E κ rs vs) (hR:R (zk2 vs) κ) (hr:fn.results=rs.toArray:=by kernel_rfl):zka P fn R .ret E κ:=zzb rs vs hr h hR
theorem rn {fn:Func} {R:Value→K→Prop} (rs:List ResultVar) (vs:List Value) (h:zun P E κ rs vs) (hR:R (zk2 vs) κ) (hr:fn.results=rs.toArray:=by kernel_rfl):zka P fn R .normal E κ:=zx0 rs vs hr h hR
theorem bo {id id':Nat} (h:Q (.exit id') E κ) (hne:Nat.beq id' id=false:=by kernel_rfl):zb9 id Q (.exit id') E κ:=zqH hne h
theorem ocl {f:FuncId} {args:Array Value} {R:Value→K→Prop} (d:Nat) (hf:Fn P f args κ R) (hk:∀ v κ',R v κ'→owp P n c (i+1) Q (upd E d v) κ') (h:st c i n E (some d)=true:=by kernel_rfl)
  (hr:∀ w,(execOp (ev E) (zv c i)).run P w=.ok (.enter f args) w:=by intro _;kernel_rfl):owp P n c i Q E κ:=zw3 h hr hf hk
end
theorem fnc [Fb] {P:Program} {f:FuncId} {fn:Func} {args:Array Value} {κ:K} {R:Value→K→Prop} (n:Nat) (M:List Nat) (hf:P.funcs[f]?=some fn) (hn:fn.ntmps=n)
  (h:Step M κ κ→cwp P n (sub (zA fn) []) (zka P fn R) (zrN args) κ) (hb:fn.body=some (zA fn):=by kernel_rfl) (ha:Nat.ble args.size n=true:=by kernel_rfl):Fn P f args κ R:=
 zwb hf hb hn (fx ha) (h (Step.refl _ _))
end Go.Lf
namespace Go.Lf
open Go Go.Conc
theorem zAo {α:Type} (x:α) (l:List α):(x::l).toArray.extract 1 (x::l).toArray.size=l.toArray:=by
 apply Array.ext
 ·simp
 ·intro i a b;simp
def swp [Fb] (P:Program) (n:Nat) (c:Code) (i:Nat) (Q:zaH) (E:Env) (κ:K):Prop:=
 ∀ C d a,Fits n a E→∀ b k cs,∃ e a' w',zl3 n C Q e a' w'∧Arrives P (lone (b.at a (.inRegion (opsOf c) (List.range' i ((opsOf c).size - i))::k)) cs (W C κ d)) b k cs e a' w'
section
variable {P:Program} {n:Nat} {c:Code} {i:Nat} {Q:zaH} {E:Env} {κ:K}
theorem zur (h:owp P n c i Q E κ):swp P n c i Q E κ:=fun C d a f b k cs=>by
 obtain ⟨e,a',w',q,r⟩:=wp_opsIn (F:=Fence.wide) (n:=0) _ _ _ (h C d a f) {b with roundOf:=none} k cs rfl trivial (room_wide _);exact ⟨e,a',w',q,(arrivesIn_iff (b:={b with roundOf:=none}) (fun _ _=>stepsIn_wide) rfl).1 r⟩
theorem sr {c:Code} {p:List Nat} (hx:swp P n (sub c p) 0 Q E κ) (h:zbK (sub c p)=some false:=by kernel_rfl):cwp P n (sub c p) Q E κ:=by
 generalize sub c p=s at *;cases s<;>simp [zbK] at h;subst h;intro C d a g;refine wpIn_wide.2 fun b k cs=>?_;obtain ⟨e,a',w',j,f⟩:=hx C d a g b k cs;refine ⟨e,a',w',j,.of_steps (.one step_region) ?_⟩;simpa [List.range_eq_range',opsOf] using f
theorem sp (d:Nat) (v:Value) (hk:swp P n c (i+1) Q (upd E d v) κ) (h:st c i n E (some d)=true:=by kernel_rfl)
  (hr:∀ w,(execOp (ev E) (zv c i)).run P w=.ok (.value v) w:=by intro _;kernel_rfl):swp P n c i Q E κ:=by
 obtain ⟨m,r,t,s⟩:=zhe h;intro C p a j b k cs;obtain ⟨e,a',w',q,g⟩:=hk C p _ (j.put (s d rfl) v) b k cs;refine ⟨e,a',w',q,.of_steps (.one (step_lone_go ?_)) g⟩;rw [zkx m];have u:=stepG_op (P:=P) (b:=b) (k:=k) (cs:=cs) (w:=W C κ p) (rest:=List.range' (i+1) ((opsOf c).size - (i+1))) (a:=a) (zg3 m) (by rw [zhI j];exact r);rw [u,j.eval];have f:(b.at a (.inRegion (opsOf c) (i::List.range' (i+1) ((opsOf c).size - (i+1)))::k)).finish v=b.at (a.put (some d) v) (.inRegion (opsOf c) (List.range' (i+1) ((opsOf c).size - (i+1)))::k):=by
  rw [Frame.finish_at,zg3 m];simp only [gp,t]
 rw [←f];simp [stepG.apply,hr]
theorem se (hq:Q .normal E κ) (h:decide ((opsOf c).size≤i)=true:=by kernel_rfl):swp P n c i Q E κ:=zur (zo4 h hq)
theorem zsL {P:Program} {b:Frame} {a:Act} {k:List Item} {cs:List Frame} {ops:Array Oper} {i:Nat} {rest:List Nat} {o:Oper} {cases:Array CommCase} {blocking:Bool} {shape:CommShape} {w w':World} (ho:ops[i]?=some o) (hw:Region.wanted o (yielded ops a.tmps)=true)
  (hr:(execOp a.eval o).run P w=.ok (.comm cases blocking shape) w') :
  ∃ es,stepG P true (G (b.at a (.inRegion ops (i::rest)::k)) cs) w=.comm (G (b.at a (.inRegion ops (i::rest)::k)) cs) cases blocking shape w' es:=by
 rw [stepG_oper ho hw];by_cases c:b.kind=.early
 ·exact ⟨_,by simp [stepG.apply,hr,G,Frame.at,c,GStep.after];rfl⟩
 ·exact ⟨_,by simp [stepG.apply,hr,G,Frame.at,c,GStep.after];rfl⟩
structure Chn (τ:Tag) (κ:K) (b cap:Nat) (l:List Int):Prop where
 obj:∃ s r,κ.H[b]?=some (.chan cap (l.map fun n=>Value.int .i64 n).toArray false s r false)
 fr:κ.fr b=0
 tag:κ.tag b=τ
 ge:τ.1≤b
theorem Chn.lt {τ:Tag} {κ:K} {b cap:Nat} {l:List Int} (h:Chn τ κ b cap l):b<κ.H.size:=by
 obtain ⟨s,r,a⟩:=h.obj;exact (ae.1 a).1
theorem Chn.step {M:List Nat} {τ:Tag} {κ κ':K} {b cap:Nat} {l:List Int} (s:Step M κ κ') (hm:b∉M) (h:Chn τ κ b cap l):Chn τ κ' b cap l:=by
 have hs:=s.2.1 b h.lt hm;obtain ⟨x,y,a⟩:=h.obj;exact ⟨⟨x,y,hs.1.trans a⟩,hs.2.1.trans h.fr,hs.2.2.trans h.tag,h.ge⟩
def K.setO (κ:K) (b:Nat) (o:Obj):K:=⟨κ.H.setIfInBounds b o,κ.fr,κ.tag⟩
theorem zlT {κ:K} {b:Nat} {o:Obj} (hf:κ.fr b=0):Step [b] κ (κ.setO b o):=by
 refine ⟨by simp [K.setO],fun x d hm=>⟨?_,rfl,rfl⟩,fun x d=>⟨fy _,fun g f=>?_⟩,fun x d c=>⟨rfl,?_⟩⟩
 ·simp only [K.setO];have:b≠x:=fun e=>hm (by simp [e]);rw [ai this]
 ·by_cases a:b=x
  ·subst a;rw [hf] at f;omega
  ·unfold K.cell K.setO;rw [ai a]
 ·have a:b≠x:=fun e=>by rw [←e,hf] at c;omega
  unfold K.shp K.setO;rw [ai a]
theorem zvx {τ:Tag} {κ:K} {b cap:Nat} {l l':List Int} (h:Chn τ κ b cap l) (s r:Nat):Chn τ (κ.setO b (.chan cap (l'.map fun n=>Value.int .i64 n).toArray false s r false)) b cap l':=
 ⟨⟨s,r,by simp [K.setO,h.lt]⟩,h.fr,h.tag,h.ge⟩
theorem zsP [Fb] {C:Cx} {d b cap s r:Nat} {buf:Array Value} {cl:Bool} {tm:Bool}:(W C κ d).setChan b cap buf cl s r tm=W C (κ.setO b (.chan cap buf cl s r tm)) d:=rfl
theorem zyJ {τ:Tag} {b cap:Nat} {l:List Int} {x:Int} {z:Value} (h:Chn τ κ b cap l) (hroom:l.length<cap)
  (hk:∀ κ',Step [b] κ κ'→κ.H.size=κ'.H.size→Chn τ κ' b cap (l++[x])→swp P n c (i+1) Q E κ')
  (hst:st c i n E none=true:=by kernel_rfl)
  (hr:∀ w,(execOp (ev E) (zv c i)).run P w=.ok (.comm #[scase b (.int .i64 x) z] true .send) w:=by intro _;kernel_rfl):swp P n c i Q E κ:=by
 obtain ⟨u,A,B,F⟩:=zhe hst;intro C p a t q k cs;obtain ⟨s,r,f⟩:=h.obj;have v:(execOp a.eval (zv c i)).run P (W C κ p)=.ok (.comm #[scase b (.int .i64 x) z] true .send) (W C κ p):=by rw [t.eval];exact hr _
 obtain ⟨G,D⟩:=zsL (P:=P) (b:=q) (k:=k) (cs:=cs) (rest:=List.range' (i+1) ((opsOf c).size - (i+1))) (zg3 u) (by rw [zhI t];exact A) v;have d:=step_lone_send_room D (show (W C κ p).heap[b]?=_ from f) (by simpa using hroom);have j:(q.at a (.inRegion (opsOf c) (i::List.range' (i+1) ((opsOf c).size - (i+1)))::k)).finish undef=q.at a (.inRegion (opsOf c) (List.range' (i+1) ((opsOf c).size - (i+1)))::k):=by
  rw [Frame.finish_at,zg3 u];simp only [gp,B];rfl
 rw [j,zsP] at d;have g:(List.map (fun n=>Value.int .i64 n) l).toArray.push (.int .i64 x)=(List.map (fun n=>Value.int .i64 n) (l++[x])).toArray:=by simp
 rw [g] at d;obtain ⟨e,a',w',y,m⟩:=hk _ (zlT h.fr) (by simp [K.setO]) (zvx h (s+1) r) C p a t q k cs;refine ⟨e,a',w',y,.of_steps (.one ?_) m⟩;rw [zkx u];exact d
theorem zzL {τ:Tag} {b cap:Nat} {l:List Int} {x:Int} (d:Nat) (z:Value) (h:Chn τ κ b cap (x::l))
  (hk:∀ κ',Step [b] κ κ'→κ.H.size=κ'.H.size→Chn τ κ' b cap l→swp P n c (i+1) Q (upd E d (.int .i64 x)) κ')
  (hst:st c i n E (some d)=true:=by kernel_rfl)
  (hr:∀ w,(execOp (ev E) (zv c i)).run P w=.ok (.comm #[rcase b z] true (.recv false)) w:=by intro _;kernel_rfl):swp P n c i Q E κ:=by
 obtain ⟨A,F,H,G⟩:=zhe hst;intro C t a y u k cs;obtain ⟨s,r,j⟩:=h.obj;have B:(execOp a.eval (zv c i)).run P (W C κ t)=.ok (.comm #[rcase b z] true (.recv false)) (W C κ t):=by rw [y.eval];exact hr _
 obtain ⟨J,I⟩:=zsL (P:=P) (b:=u) (k:=k) (cs:=cs) (rest:=List.range' (i+1) ((opsOf c).size - (i+1))) (zg3 A) (by rw [zhI y];exact F) B;have f:=step_lone_recv_buf false I (show (W C κ t).heap[b]?=_ from j) (by simp);have p:∀ v,(u.at a (.inRegion (opsOf c) (i::List.range' (i+1) ((opsOf c).size - (i+1)))::k)).finish v=u.at (a.put (some d) v) (.inRegion (opsOf c) (List.range' (i+1) ((opsOf c).size - (i+1)))::k):=by
  intro v;rw [Frame.finish_at,zg3 A];simp only [gp,H]
 rw [p,zsP] at f;have m:(List.map (fun n=>Value.int .i64 n) (x::l)).toArray.extract 1 (List.map (fun n=>Value.int .i64 n) (x::l)).toArray.size=(List.map (fun n=>Value.int .i64 n) l).toArray:=by
  rw [ek];exact zAo _ _
 have g:got false ((List.map (fun n=>Value.int .i64 n) (x::l)).toArray.getD 0 undef) true=.int .i64 x:=by simp [got]
 rw [m,g] at f;obtain ⟨e,a',w',D,q⟩:=hk _ (zlT h.fr) (by simp [K.setO]) (zvx h s (r+1)) C t _ (y.put (G d rfl) (.int .i64 x)) u k cs;refine ⟨e,a',w',D,.of_steps (.one ?_) q⟩;rw [zkx A];exact f
end
end Go.Lf
namespace Go.Lf
open Go
def zpQ (c:Code) (i:Nat):Bool:=
 match (zv c i).op with
 | .load _ _=>true
 | .lookup _ _ _ _=>true
 | .convert _ _ _=>true
 | .call _=>true
 | .index _ _ _=>false
 | _=>false
def zoZ (q0:Nat) (M:List Nat) (i:Nat):K→K→Prop:=bif Nat.beq i q0 then Step M else Step []
def zoG (c:Code):Nat→List (List Nat)
 | 0=>[]
 | k+1=>
  let A:=zoG c k
  A++[(List.range k).flatMap fun j=>bif dep c k j then j::(A.getD j []) else []]
def frB (c:Code) (q0 i:Nat):Bool:=!(((zoG c (q0+1)).getD q0 []).contains i)
def ztU (c:Code) (q0:Nat) (M:List Nat) (i:Nat):List Nat:=bif frB c q0 i then M else []
def XRun (P:Program) (Rel:K→K→Prop) [Fb] (C:Cx) (κ:K) (R:Value→K→Prop):Result Next→Prop
 | .ok (.value v) w'=>∃ κ' d',w'=W C κ' d'∧Rel κ κ'∧R v κ'
 | .ok (.enter f args) w'=>∃ κ' d',w'=W C κ' d'∧Rel κ κ'∧Fn P f args κ' (fun v κ''=>Rel κ' κ''∧R v κ'')
 | _=>False
def XC [Fb] (P:Program) (c:Code) (nq:List Nat) (q0:Nat) (M:List Nat):List Nat→Env→K→(Env→K→Prop)→Prop
 | [],E,κ,R=>R E κ
 | i::l,E,κ,R=>
  (za0 c i E=false∧XC P c nq q0 M l (upd E (dstOf c i) undef) κ R) ∨
  (za0 c i E=true∧nq.contains i=true∧∀ C d,XRun P (zoZ q0 M i) C κ (fun v κ'=>XC P c nq q0 M l (upd E (dstOf c i) v) κ' R) ((execOp (ev E) (zv c i)).run P (W C κ d))) ∨
  (za0 c i E=true∧nq.contains i=false∧∃ v,(∀ κ',(zpQ c i=true→Step (ztU c q0 M i) κ κ')→∀ C d,(execOp (ev E) (zv c i)).run P (W C κ' d)=.ok (.value v) (W C κ' d))∧XC P c nq q0 M l (upd E (dstOf c i) v) κ R)
theorem zqV {E:Env} {s t:Nat} {v u:Value} (h:s≠t):upd (upd E s v) t u=upd (upd E t u) s v:=by
 funext x;rw [zkp,zkp,zkp,zkp];by_cases a:x=t
 ·by_cases b:x=s
  ·exact absurd (b.symm.trans a) h
  ·rw [if_pos a,if_neg b,if_pos a]
 ·rw [if_neg a,if_neg a]
theorem XRun.mono {P:Program} {Rel:K→K→Prop} [Fb] {C:Cx} {κ:K} {R R':Value→K→Prop} (h:∀ v κ',Rel κ κ'→R v κ'→R' v κ') (tr:∀ a b c,Rel a b→Rel b c→Rel a c) {r:Result Next} (hx:XRun P Rel C κ R r):XRun P Rel C κ R' r:=by
 cases r with
 | halt _ _=>exact hx.elim
 | ok nx w=>
  cases nx with
  | value v=>
   obtain ⟨κ',g,j,d,k⟩:=hx;exact ⟨κ',g,j,d,h _ _ d k⟩
  | enter f args=>
   obtain ⟨κ',g,j,d,k⟩:=hx;exact ⟨κ',g,j,d,k.mono fun v κ'' e=>⟨e.1,h _ _ (tr _ _ _ d e.1) e.2⟩⟩
  | _=>exact hx.elim
theorem zrg {q0:Nat} {M:List Nat} {i:Nat}:∀ a b c,zoZ q0 M i a b→zoZ q0 M i b c→zoZ q0 M i a c:=by
 intro a b c h h';unfold zoZ at *;cases hb:Nat.beq i q0 with
 | false=>rw [hb] at h h';exact Step.trans h h'
 | true=>rw [hb] at h h';exact Step.trans h h'
section
variable [Fb] {P:Program} {c:Code} {nq:List Nat} {q0:Nat} {M:List Nat} {R:Env→K→Prop}
theorem XC.swap {i j:Nat} {l:List Nat} {E:Env} {κ:K} (hj:nq.contains j=false) (hji:dstOf c j≠dstOf c i) (hri:dstOf c j∉rds c i) (hrj:dstOf c i∉rds c j)
  (hsi:zqk c i=false) (hsj:zqk c j=false) (hq:Nat.beq i q0=true→zpQ c j=true→frB c q0 j=true) (h:XC P c nq q0 M (j::i::l) E κ R):XC P c nq q0 M (i::j::l) E κ R:=by
 have g:∀ v,∀ t∈rds c i,upd E (dstOf c j) v t=E t:=fun v t x=>by
  have k:t≠dstOf c j:=fun e=>hri (by rw [←e];exact x);rw [zkp,if_neg k]
 have a:∀ v,∀ t∈rds c j,upd E (dstOf c i) v t=E t:=fun v t x=>by
  have k:t≠dstOf c i:=fun e=>hrj (by rw [←e];exact x);rw [zkp,if_neg k]
 have w:∀ v,za0 c i (upd E (dstOf c j) v)=za0 c i E:=fun v=>zjv (g v);have y:∀ v,za0 c j (upd E (dstOf c i) v)=za0 c j E:=fun v=>zjv (a v);have xi:∀ v,execOp (ev (upd E (dstOf c j) v)) (zv c i)=execOp (ev E) (zv c i):=fun v=>zmD hsi (g v);have A:∀ v,execOp (ev (upd E (dstOf c i) v)) (zv c j)=execOp (ev E) (zv c j):=fun v=>zmD hsj (a v);have key:∃ u,(∀ (n:Env) (κ':K),(∀ t∈rds c j,n t=E t)→(zpQ c j=true→Step (ztU c q0 M j) κ κ')→XC P c nq q0 M l (upd n (dstOf c j) u) κ' R→XC P c nq q0 M (j::l) n κ' R)∧XC P c nq q0 M (i::l) (upd E (dstOf c j) u) κ R:=by
  rcases h with ⟨b,f⟩ | ⟨b,f,_⟩ | ⟨b,f,v,h3,h4⟩
  ·exact ⟨undef,fun n κ' s _ r=>.inl ⟨by rw [zjv s];exact b,r⟩,f⟩
  ·rw [hj] at f;cases f
  ·refine ⟨v,fun n κ' s hs r=>.inr (.inr ⟨by rw [zjv s];exact b,f,v,fun κ'' hs' C d=>?_,r⟩),h4⟩;rw [zmD hsj s];exact h3 κ'' (fun hm=>(hs hm).trans (hs' hm)) C d
 obtain ⟨u,m,hi⟩:=key;rcases hi with ⟨b,f⟩ | ⟨b,f,h3⟩ | ⟨b,f,v,h3,h4⟩
 ·rw [w] at b;exact .inl ⟨b,m _ _ (a undef) (fun _=>Step.refl _ _) (by rw [←zqV hji];exact f)⟩
 ·rw [w] at b;refine .inr (.inl ⟨b,f,fun C d=>?_⟩);have q:=h3 C d;rw [xi] at q;refine XRun.mono (fun v κ' p r=>?_) zrg q;refine m _ _ (a v) (fun hm=>?_) (by rw [←zqV hji];exact r);unfold zoZ at p;cases hb:Nat.beq i q0 with
  | false=>rw [hb] at p;exact Step.nil p
  | true=>rw [hb] at p;unfold ztU;rw [hq hb hm];exact p
 ·rw [w] at b;refine .inr (.inr ⟨b,f,v,fun κ' hs C d=>?_,?_⟩)
  ·rw [←xi u];exact h3 κ' hs C d
  ·exact m _ _ (a v) (fun _=>Step.refl _ _) (by rw [←zqV hji];exact h4)
theorem XC.cons {i:Nat} {l l':List Nat} (h:∀ E κ,XC P c nq q0 M l E κ R→XC P c nq q0 M l' E κ R) {E:Env} {κ:K} (hx:XC P c nq q0 M (i::l) E κ R):XC P c nq q0 M (i::l') E κ R:=by
 rcases hx with ⟨a,b⟩ | ⟨a,b,h3⟩ | ⟨a,b,v,h3,h4⟩
 ·exact .inl ⟨a,h _ _ b⟩
 ·exact .inr (.inl ⟨a,b,fun C d=>(h3 C d).mono (fun v κ' _ e=>h _ _ e) zrg⟩)
 ·exact .inr (.inr ⟨a,b,v,h3,h _ _ h4⟩)
theorem XC.front {i:Nat} {l2:List Nat}:∀ {l1:List Nat},(∀ j∈l1,nq.contains j=false∧dstOf c j≠dstOf c i∧dstOf c j∉rds c i∧dstOf c i∉rds c j∧zqk c j=false∧(Nat.beq i q0=true→zpQ c j=true→frB c q0 j=true))→zqk c i=false→
  ∀ {E:Env} {κ:K},XC P c nq q0 M (l1++i::l2) E κ R→XC P c nq q0 M (i::(l1++l2)) E κ R
 | [],_,_,_,_,h=>h
 | j::l1,hl,hsi,E,κ,h=>by
  obtain ⟨f,d,m,e,g,b⟩:=hl j (by simp);have h':XC P c nq q0 M (j::i::(l1++l2)) E κ R:=XC.cons (fun E κ n=>XC.front (fun k a=>hl k (by simp [a])) hsi n) h;exact XC.swap f d m e hsi g b h'
end
def bef:List Nat→Nat→Nat→Bool
 | [],_,_=>false
 | x::xs,j,i=>bif Nat.beq x j then xs.contains i else (bif Nat.beq x i then false else bef xs j i)
def zx6:List Nat→Bool
 | []=>true
 | x::xs=>!xs.contains x&&zx6 xs
def zze (k:Nat) (π:List Nat):Bool:=zx6 π&&π.all (fun i=>Nat.blt i k)&&(List.range k).all (fun i=>π.contains i)
def zyY (c:Code) (k:Nat) (π nq:List Nat) (q0:Nat):Bool:=
 let A:=zoG c k
 zze k π&&zs1 c k&&((List.range k).all fun i=>(List.range k).all fun j=>!bef π j i||!dep c j i) &&
 ((List.range k).all fun i=>(List.range k).all fun j=>!bef π j i||!nq.contains j||(A.getD i []).contains j)
theorem zpw (c:Code):∀ k,(zoG c k).length=k
 | 0=>rfl
 | k+1=>by simp [zoG,zpw c k]
theorem znW (c:Code) (listed:Nat→Bool) (hcl:∀ i j,dep c i j=true→listed i=true→listed j=true) :
  ∀ (k i j:Nat),i<k→((zoG c k).getD i []).contains j=true→(∀ m,dep c i m=true→listed m=true)→listed j=true
 | 0,i,j,hi,_,_=>by omega
 | k+1,i,j,hi,hc,hd=>by
  unfold zoG at hc;by_cases a:i<k
  ·have e:(zoG c k++[(List.range k).flatMap fun j=>bif dep c k j then j::((zoG c k).getD j []) else []]).getD i []=(zoG c k).getD i []:=by
    simp only [List.getD_eq_getElem?_getD];rw [cj (by rw [zpw];exact a)]
   simp only [] at hc;rw [e] at hc;exact znW c listed hcl k i j a hc hd
  ·have a:i=k:=by omega
   subst a;have e:(zoG c i++[(List.range i).flatMap fun j=>bif dep c i j then j::((zoG c i).getD j []) else []]).getD i []=(List.range i).flatMap fun j=>bif dep c i j then j::((zoG c i).getD j []) else []:=by
    simp only [List.getD_eq_getElem?_getD];rw [cn (by rw [zpw];omega),zpw];simp
   simp only [] at hc;rw [e] at hc;rw [bi,List.mem_flatMap] at hc;obtain ⟨m,hm,b⟩:=hc;have f:=fe.1 hm;cases hdm:dep c i m with
   | false=>rw [hdm] at b;simp at b
   | true=>
    rw [hdm] at b;have d:=hd m hdm;simp only [cond_true,eu] at b;rcases b with rfl | b
    ·exact d
    ·exact znW c listed hcl i m j f (by rw [bi];exact b) (fun x g=>hcl m x g d)
theorem zoF (p:Nat→Bool) (i j:Nat):∀ (π l1 l2:List Nat),π.Nodup→π.filter p=l1++i::l2→j∈l1→bef π j i=true
 | [],l1,l2,_,h,_=>by simp at h
 | x::xs,l1,l2,hn,h,hj=>by
  have a:=List.nodup_cons.1 hn;have d:i∈(x::xs).filter p:=by rw [h];simp
  have n:j∈(x::xs).filter p:=by rw [h];simp [hj]
  have k:i≠j:=by
   have g:(l1++i::l2).Nodup:=by rw [←h];exact hn.filter p
   have:=(fi.1 g).2.2 j hj i (by simp);exact this.symm
  unfold bef;by_cases b:x=j
  ·subst b;rw [show Nat.beq x x=true by simp];simp only [cond_true];rw [bi];have:=(ey.1 d).1;rcases eu.1 this with h1 | h1
   ·exact absurd h1 k
   ·exact h1
  ·rw [show Nat.beq x j=false by cases hb:Nat.beq x j with | false=>rfl | true=>exact absurd (fv hb) b];simp only [cond_false];by_cases m:p x=true
   ·rw [bx m] at h;cases l1 with
    | nil=>cases hj
    | cons y l1=>
     rw [List.cons_append,List.cons.injEq] at h;obtain ⟨rfl,h⟩:=h;have f:j∈l1:=by
      rcases eu.1 hj with h1 | h1
      ·exact absurd h1.symm b
      ·exact h1
     have c:x≠i:=by
      intro e;subst e;have:x∈xs.filter p:=by rw [h];simp
      exact a.1 (ey.1 this).1
     rw [show Nat.beq x i=false by cases hb:Nat.beq x i with | false=>rfl | true=>exact absurd (fv hb) c];exact zoF p i j xs l1 l2 a.2 h f
   ·rw [bu (by simpa using m)] at h;have c:x≠i:=by
     intro e;subst e;have:x∈xs.filter p:=by rw [h];simp
     exact a.1 (ey.1 this).1
    rw [show Nat.beq x i=false by cases hb:Nat.beq x i with | false=>rfl | true=>exact absurd (fv hb) c];exact zoF p i j xs l1 l2 a.2 h hj
theorem zsx:∀ {l:List Nat},zx6 l=true→l.Nodup
 | [],_=>List.nodup_nil
 | x::xs,h=>by
  unfold zx6 at h;simp only [ao,au] at h;refine List.nodup_cons.2 ⟨fun hm=>?_,zsx h.2⟩;rw [bi.2 hm] at h;cases h.1
theorem zvQ {k:Nat} {π:List Nat} (h:zze k π=true):π.Nodup∧(∀ i,i<k→i∈π)∧∀ i∈π,i<k:=by
 unfold zze at h;simp only [ao] at h;refine ⟨zsx h.1.1,fun i hi=>?_,fun i hi=>?_⟩
 ·have:=be.1 h.2 i (fe.2 hi)
  rwa [bi] at this
 ·have:=be.1 h.1.2 i hi;simpa [Nat.blt,ga] using this
section
variable [Fc] [Fb] {P:Program} {n:Nat} {Q:zaH} {E:Env} {κ:K}
theorem zz1 {c0:Code} {p:List Nat} (k:Nat) (π nq:List Nat) (q0:Nat) (M:List Nat)
  (R:XC P (sub c0 p) nq q0 M π E κ (fun T κ'=>owp P n (sub c0 p) k Q T κ'))
  (h:zbK (sub c0 p)=some true) (hm:P.follows .mixedOrders=true) (hB:zlB (sub c0 p) n k=true) (hchk:zyY (sub c0 p) k π nq q0=true):cwp P n (sub c0 p) Q E κ:=by
 generalize sub c0 p=s at *;unfold zlB at hB;simp only [ao,decide_eq_true_eq,Bool.or_eq_true] at hB;obtain ⟨⟨⟨⟨hk,c2⟩,d6⟩,c7⟩,f2⟩:=hB;unfold zyY at hchk;simp only [ao] at hchk;obtain ⟨⟨⟨e5,f1⟩,c5⟩,g9⟩:=hchk;obtain ⟨X,g7,a4⟩:=zvQ e5;have J:∀ i o,(opsOf s)[i]?=some o→∀ e∈o.after,Region.binds .any e=true→e.on<i:=by
  intro i o hi e he D;have a4:i<(opsOf s).size:=(ae.1 hi).1;have u:=be.1 c2 i (fe.2 a4);have ho:zv s i=o:=by unfold zv;rw [hi];rfl
  rw [ho] at u;have A:=(Array.all_eq_true_iff_forall_mem.1 u) e he;simpa [D] using A
 have H:∀ i,i<k→(zv s i).dst=some (dstOf s i)∧dstOf s i<n∧∀ j,j<i→dstOf s j≠dstOf s i:=by
  intro i hi;have u:=be.1 d6 i (fe.2 hi);simp only [ao,beq_iff_eq,decide_eq_true_eq] at u;refine ⟨u.1.1,u.1.2,fun j hj=>?_⟩;have:=be.1 u.2 j (fe.2 hj);simpa using this
 have a7:∀ i j,i<k→j<k→i≠j→dstOf s i≠dstOf s j:=by
  intro i j hi hj b8;rcases gg b8 with h | h
  ·exact (H j hj).2.2 i h
  ·exact ((H i hi).2.2 j h).symm
 have b0:∀ i,i<k→zqk s i=false:=fun i hi=>by
  have:=be.1 f1 i (fe.2 hi);simp only [ao,au] at this;exact this.1
 have V:∀ i j,i<k→j<k→dep s i j=false→dstOf s j∉rds s i:=by
  intro i j hi hj hd e6;have:=be.1 f1 i (fe.2 hi);simp only [ao] at this;have u:=be.1 this.2 _ e6;rcases Bool.or_eq_true_iff.1 u with A | A
  ·have:=be.1 A j (fe.2 hj);simp at this
  ·obtain ⟨m,hm,a5⟩:=bf.1 A;simp only [ao,beq_iff_eq] at a5;have i2:=fe.1 hm;by_cases e3:m=j
   ·subst e3;rw [hd] at a5;cases a5.2
   ·exact a7 m j (by omega) hj e3 a5.1
 have g6:∀ i j,i<(opsOf s).size→dep s i j=true→j<i:=by
  intro i j hi hd;unfold dep at hd;obtain ⟨e,he,D⟩:=Array.any_eq_true'.1 hd;simp only [ao,beq_iff_eq] at D;have:=J i (zv s i) (zg3 hi) e he D.1;omega
 cases s<;>simp [zbK] at h;rename_i id ops dr;subst h;simp only [opsOf] at *;generalize hs:Code.region id ops true=s at *;have c4:opsOf s=ops:=by rw [←hs];rfl
 have e9:∀ m b T κ' C d a,Fits n a T→HeadInv .any ops k b→(∀ i j,i<k→b.getD i false=true→dep s i j=true→b.getD j false=true)→
   XC P s nq q0 M (π.filter fun i=>!b.getD i false) T κ' (fun T κ'=>owp P n s k Q T κ')→unl b k=m→
   wpAnyIn FF 0 P .any ops (zl3 n C Q) (m+(ops.size - k)) b a (W C κ' d):=by
  intro m
  induction m with
  | zero=>
   intro b T κ' C d a hf c a6 a1 hu;have L:=zqW hu;have c6:b=zhH k ops.size:=by
    apply Array.ext
    ·simp [zhH];exact c.size
    ·intro i u A;simp only [zhH,Array.getElem_map,Array.getElem_range];by_cases q:i<k
     ·have:=L i q;simp [u] at this;rw [this];simp [q]
     ·have:=c.tail i (by omega) (by rw [←c.size];exact u);simp [u] at this;rw [this];simp [q]
   have e8:(π.filter fun i=>!b.getD i false)=[]:=by
    rw [List.filter_eq_nil_iff];intro i hi;rw [L i (a4 i hi)];simp
   rw [e8] at a1;subst c6;have f3:=a1 C d a hf;rw [c4] at f3;have hl:=zhS (F:=FF) (n:=0) (P:=P) (md:=.any) (ops:=ops) (Q':=zl3 n C Q) (ops.toList.drop k) k (zhH k ops.size) a (W C κ' d)
    (fun j=>by simp [co]) (by simpa using f2) (by
     have he:=wpOpsIn_eq_wpListIn (F:=FF) (n:=0) (P:=P) (ops:=ops) (Q:=zl3 n C Q) (ops.toList.drop k) k (fun j=>by simp [co]);have U:(ops.toList.drop k).length=ops.size - k:=by simp
     rw [U] at he;rw [←he];exact f3)
   have U:(ops.toList.drop k).length=ops.size - k:=by simp
   rw [U] at hl;simpa using hl
  | succ m ih=>
   intro b T κ' C d a hf c a6 a1 hu;obtain ⟨i0,g4,b6,d4⟩:=zsT hu;have N:i0<ops.size:=by omega
   have B:i0∈Region.ready .any ops b:=by
    refine mem_ready.2 ⟨?_,ops[i0],by simp [N],?_⟩
    ·have:i0<b.size:=by rw [c.size];exact N
     simp [this] at b6 ⊢;exact b6
    ·intro e he D;exact d4 e.on (J i0 ops[i0] (by simp [N]) e he D)
   have f8:m+1+(ops.size - k)=(m+(ops.size - k))+1:=by omega
   rw [f8];refine ⟨fun h0=>(by rw [h0] at B;cases B),fun i hi=>?_⟩;obtain ⟨g8,oi,c1,L⟩:=mem_ready.1 hi;have e7:i<ops.size:=(ae.1 c1).1;have q:i<k:=by
    rcases gd i k with h | h
    ·exact h
    ·rcases c7 with ht | ⟨hs',hc⟩
     ·omega
     ·have d0:b.getD i0 true=false:=getD_in (by rw [c.size];exact N) b6;exact absurd hi (tail_waits hs' hc (by omega) c _ i0 rfl g4 d0 i h)
   have Z:zv s i=oi:=by unfold zv;rw [c4,c1];rfl
   obtain ⟨g1,f9,h7⟩:=H i q;have d7:b.getD i false=false:=getD_both g8;have Y:i<b.size:=by rw [c.size];exact e7
   have w:∀ j,dep s i j=true→b.getD j false=true:=by
    intro j c3;unfold dep at c3;rw [Z] at c3;obtain ⟨e,he,D⟩:=Array.any_eq_true'.1 c3;simp only [ao,beq_iff_eq] at D;have u:=L e he D.1;rw [D.2] at u;exact u
   have b7:i∈π.filter fun i=>!b.getD i false:=ey.2 ⟨g7 i q,by rw [d7];rfl⟩;obtain ⟨l1,l2,g⟩:=List.append_of_mem b7;have e4:∀ j,j<k→((zoG s k).getD i []).contains j=true→b.getD j false=true:=fun j _ hc=>
    znW s (fun x=>b.getD x false) (fun x y b9 R=>by
     rcases gd x k with h | h
     ·exact a6 x y h R b9
     ·have:b.getD x false=false:=by
       rcases gd x ops.size with A | A
       ·exact getD_both (c.tail x h A)
       ·simp [Array.getElem?_eq_none (show b.size≤x by rw [c.size];exact A)]
      rw [this] at R;cases R) k i j q hc w
   rw [g] at a1;have g5:=XC.front (l1:=l1) (fun j hj=>by
    have d8:j∈π.filter fun i=>!b.getD i false:=by rw [g];simp [hj]
    have G:=a4 j (ey.1 d8).1;have O:b.getD j false=false:=by have:=(ey.1 d8).2;simpa using this
    have e2:=zoF _ i j π l1 l2 X g hj;have b8:i≠j:=by
     have c9:(l1++i::l2).Nodup:=by rw [←g];exact X.filter _
     exact ((fi.1 c9).2.2 j hj i (by simp)).symm
    refine ⟨?_,a7 j i G q b8.symm,V i j q G ?_,V j i G q ?_,b0 j G,fun g0 _=>?_⟩
    ·have u:=be.1 (be.1 g9 i (fe.2 q)) j (fe.2 G);rw [e2] at u;cases hc:nq.contains j with
     | false=>rfl
     | true=>
      rw [hc] at u;simp only [aw,Bool.false_or] at u;rw [e4 j G u] at O;cases O
    ·cases hd:dep s i j with
     | false=>rfl
     | true=>rw [w j hd] at O;cases O
    ·have u:=be.1 (be.1 c5 i (fe.2 q)) j (fe.2 G);rw [e2] at u;simpa using u
    ·have:=fv g0;subst this;cases hc:frB s i j with
     | true=>rfl
     | false=>
      unfold frB at hc;have f6:((zoG s (i+1)).getD i []).contains j=true:=by simpa using hc
      have:=znW s (fun x=>b.getD x false) (fun x y b9 R=>by
       rcases gd x k with h | h
       ·exact a6 x y h R b9
       ·have:b.getD x false=false:=by
         rcases gd x ops.size with A | A
         ·exact getD_both (c.tail x h A)
         ·simp [Array.getElem?_eq_none (show b.size≤x by rw [c.size];exact A)]
        rw [this] at R;cases R) (i+1) i j (by omega) f6 w
      rw [this] at O;cases O) (b0 i q) a1
   have c9:(l1++i::l2).Nodup:=by rw [←g];exact X.filter _
   have d9:(π.filter fun x=>!(b.setIfInBounds i true).getD x false)=l1++l2:=by
    have e1:(π.filter fun x=>!(b.setIfInBounds i true).getD x false)=(π.filter fun x=>!b.getD x false).filter (fun x=>!Nat.beq x i):=by
     rw [List.filter_filter];apply List.filter_congr;intro x _;by_cases S:x=i
     ·subst S;simp [Y]
     ·rw [getD_set_ne false (Ne.symm S)];have:Nat.beq x i=false:=by
       cases D:Nat.beq x i with
       | false=>rfl
       | true=>exact absurd (fv D) S
      rw [this];simp
    rw [e1,g,br,bu (by simp)];have b2:=fi.1 c9;have g2:=List.nodup_cons.1 b2.2.1;rw [bz.2,bz.2]
    ·intro x R;have:x≠i:=fun e=>g2.1 (e▸R);cases D:Nat.beq x i with
     | false=>rfl
     | true=>exact absurd (fv D) this
    ·intro x R;have:x≠i:=b2.2.2 x R i (by simp);cases D:Nat.beq x i with
     | false=>rfl
     | true=>exact absurd (fv D) this
   have I:∀ v κ2 d2,XC P s nq q0 M (l1++l2) (upd T (dstOf s i) v) κ2 (fun T κ'=>owp P n s k Q T κ')→
     wpAnyIn FF 0 P .any ops (zl3 n C Q) (m+(ops.size - k)) (b.setIfInBounds i true) (a.put oi.dst v) (W C κ2 d2):=by
    intro v κ2 d2 f7;rw [←Z,g1];refine ih _ (upd T (dstOf s i) v) κ2 C d2 _ (hf.put f9 v) (c.set hi q) ?_ (by rw [d9];exact f7) ?_
    ·intro x y f4 e0 b4;by_cases d5:y=i
     ·subst d5;simp [Y]
     ·rw [getD_set_ne false (Ne.symm d5)];by_cases S:x=i
      ·subst S;exact w y b4
      ·rw [getD_set_ne false (Ne.symm S)] at e0;exact a6 x y f4 e0 b4
    ·have:=zsS q Y d7;omega
   unfold wpOpIn;simp only [c1];have a0:=zhI hf s i;rw [Z,c4] at a0;rw [a0];rcases g5 with ⟨u,A⟩ | ⟨u,A,h3⟩ | ⟨u,A,v,h3,h4⟩
   ·rw [u,if_neg (by simp)];exact ⟨fun _ _=>trivial,I undef κ' d A⟩
   ·rw [u,if_pos rfl];have hq:=h3 C d;rw [Z,←hf.eval] at hq;generalize hrr:(execOp a.eval oi).run P (W C κ' d)=r at *;cases r with
    | halt x w'=>exact hq.elim
    | ok nx w'=>
     cases nx with
     | value v=>
      obtain ⟨κ2,d2,rfl,f5,hS⟩:=hq;exact zju hrr (I v κ2 d2 hS)
     | enter f args=>
      obtain ⟨κ2,d2,rfl,f5,g3⟩:=hq;refine zol hrr ?_;refine (g3 C d2).mono ?_;rintro e w2 ⟨v,κ3,d3,rfl,rfl,h6,hS⟩;exact I v κ3 d3 hS
     | _=>exact hq.elim
   ·rw [u,if_pos rfl];have hq:=h3 κ' (fun _=>Step.refl _ _) C d;rw [Z,←hf.eval] at hq;exact zju hq (I v κ' d h4)
 intro C d a hf;rw [←hs];refine wpIn_region_any hm ?_;have hu:unl (Array.replicate ops.size false) k=k:=by
  unfold unl;rw [bz.2 (fun i _=>by rw [getD_replicate_false];rfl)];simp
 have c8:(π.filter fun i=>!(Array.replicate ops.size false).getD i false)=π:=by
  rw [bz];intro i _;rw [getD_replicate_false];rfl
 have hm':=e9 k (Array.replicate ops.size false) E κ C (d+1) a hf
  ⟨by simp,fun j oj _ hl=>(by rw [getD_replicate_false] at hl;cases hl),fun t _ ht=>getD_in (by simpa using ht) (getD_replicate_false _ _)⟩
  (fun i j _ hl=>by rw [getD_replicate_false] at hl;cases hl) (by rw [c8];exact R) hu
 have hsz:k+(ops.size - k)=ops.size:=by omega
 rw [hsz] at hm';exact hm'
end
def xwp [Fc] [Fb] (P:Program) (n:Nat) (c:Code) (k:Nat) (nq:List Nat) (q0:Nat) (M:List Nat) (π:List Nat) (Q:zaH) (E:Env) (κ:K):Prop:=
 XC P c nq q0 M π E κ (fun E' κ'=>owp P n c k Q E' κ')
def xsN (c:Code) (nq:List Nat) (i:Nat) (E:Env) (d:Nat):Bool:=za0 c i E&&nq.contains i&&Nat.beq (dstOf c i) d
def xsQ (c:Code) (nq:List Nat) (i:Nat) (E:Env) (d:Nat):Bool:=za0 c i E&&!nq.contains i&&Nat.beq (dstOf c i) d
def xsS (c:Code) (i:Nat) (E:Env) (d:Nat):Bool:=!za0 c i E&&Nat.beq (dstOf c i) d
section
variable [Fc] [Fb] {P:Program} {n:Nat} {c:Code} {i k:Nat} {nq:List Nat} {q0:Nat} {M:List Nat} {π:List Nat} {Q:zaH} {E:Env} {κ:K}
theorem cx_ {c0:Code} {p:List Nat} (k:Nat) (π nq:List Nat) (q0:Nat) (M:List Nat) (hx:xwp P n (sub c0 p) k nq q0 M π Q E κ)
  (h:zbK (sub c0 p)=some true:=by kernel_rfl) (hm:P.follows .mixedOrders=true:=by kernel_rfl) (hB:zlB (sub c0 p) n k=true:=by kernel_rfl) (hchk:zyY (sub c0 p) k π nq q0=true:=by kernel_rfl):cwp P n (sub c0 p) Q E κ:=
 zz1 k π nq q0 M hx h hm hB hchk
theorem xe (hk:owp P n c k Q E κ):xwp P n c k nq q0 M [] Q E κ:=hk
theorem zsf {d:Nat} (v:Value) (h:xsQ c nq i E d=true) (hr:∀ κ',Step (ztU c q0 M i) κ κ'→∀ C d0,(execOp (ev E) (zv c i)).run P (W C κ' d0)=.ok (.value v) (W C κ' d0)) (hm:zpQ c i=true)
  (hk:xwp P n c k nq q0 M π Q (upd E d v) κ):xwp P n c k nq q0 M (i::π) Q E κ:=by
 unfold xsQ at h;simp only [ao,au] at h;obtain ⟨⟨a,b⟩,e⟩:=h;have:=fv e;subst this;exact .inr (.inr ⟨a,b,v,fun κ' hs C d=>hr κ' (hs hm) C d,hk⟩)
theorem xq (d:Nat) (v:Value) (hr:∀ w,(execOp (ev E) (zv c i)).run P w=.ok (.value v) w) (hk:xwp P n c k nq q0 M π Q (upd E d v) κ) (h:xsQ c nq i E d=true:=by kernel_rfl):xwp P n c k nq q0 M (i::π) Q E κ:=by
 unfold xsQ at h;simp only [ao,au] at h;obtain ⟨⟨a,b⟩,e⟩:=h;have:=fv e;subst this;exact .inr (.inr ⟨a,b,v,fun κ' hs C d=>hr _,hk⟩)
theorem xp (d:Nat) (v:Value) (hk:xwp P n c k nq q0 M π Q (upd E d v) κ) (h:xsQ c nq i E d=true:=by kernel_rfl)
  (hr:∀ w,(execOp (ev E) (zv c i)).run P w=.ok (.value v) w:=by intro _;kernel_rfl):xwp P n c k nq q0 M (i::π) Q E κ:=xq d v hr hk h
theorem xs (d:Nat) (hk:xwp P n c k nq q0 M π Q (upd E d undef) κ) (h:xsS c i E d=true:=by kernel_rfl):xwp P n c k nq q0 M (i::π) Q E κ:=by
 unfold xsS at h;simp only [ao,au] at h;have:=fv h.2;subst this;exact .inl ⟨h.1,hk⟩
theorem ztT {κ':K} (h:frB c q0 i=false) (hs:Step (ztU c q0 M i) κ κ'):Step [] κ κ':=by unfold ztU at hs;rw [h] at hs;exact hs
theorem zuA {κ':K} (hs:Step (ztU c q0 M i) κ κ'):Step M κ κ':=by
 unfold ztU at hs;cases hb:frB c q0 i with
 | false=>rw [hb] at hs;exact hs.nil
 | true=>rw [hb] at hs;exact hs
theorem x1f (d T:Nat) (v:Value) {b off:Nat} {cs:List Value} (hv:At κ b off cs) (hn:b∉M) (o:Nat) (hj:cs[o]?=some v) (hk:xwp P n c k nq q0 M π Q (upd E d v) κ) (h:xsQ c nq i E d=true:=by kernel_rfl)
  (ho:execOp (ev E) (zv c i)=vOf (Instr.loadAt T (.pointer (some ⟨b,off+o,none⟩))):=by kernel_rfl) (hT:zdY P T=some false:=by kernel_rfl) (hm:zpQ c i=true:=by kernel_rfl):xwp P n c k nq q0 M (i::π) Q E κ:=
 zsf v h (fun κ' hs C a=>by rw [ho];exact zB (zfT hT ((hv.step (zuA hs) hn).one hj))) hm hk
theorem x1p (d T:Nat) (v:Value) {b off:Nat} {cs:List Value} (hv:PubAt κ b off cs) (o:Nat) (hj:cs[o]?=some v) (hk:xwp P n c k nq q0 M π Q (upd E d v) κ) (h:xsQ c nq i E d=true:=by kernel_rfl)
  (ho:execOp (ev E) (zv c i)=vOf (Instr.loadAt T (.pointer (some ⟨b,off+o,none⟩))):=by kernel_rfl) (hT:zdY P T=some false:=by kernel_rfl) (hm:zpQ c i=true:=by kernel_rfl):xwp P n c k nq q0 M (i::π) Q E κ:=
 zsf v h (fun κ' hs C a=>by rw [ho];exact zB (zfT hT ((hv.step hs).at.one hj))) hm hk
theorem xNf (d T:Nat) (vs:List Value) {b off:Nat} {cs:List Value} (hv:At κ b off cs) (hn:b∉M) (o m:Nat) (hj:(cs.drop o).take m=vs) (hk:xwp P n c k nq q0 M π Q (upd E d (.agg vs.toArray)) κ) (h:xsQ c nq i E d=true:=by kernel_rfl)
  (ho:execOp (ev E) (zv c i)=vOf (Instr.loadAt T (.pointer (some ⟨b,off+o,none⟩))):=by kernel_rfl) (hT:zdY P T=some true:=by kernel_rfl) (hs:zG P T=some vs.length:=by kernel_rfl) (hm:zpQ c i=true:=by kernel_rfl):xwp P n c k nq q0 M (i::π) Q E κ:=
 zsf _ h (fun κ' a C e=>by rw [ho];exact zB (zeO hT hs (by have:=((hv.step (zuA a) hn).part o m).2;rw [hj] at this;exact this))) hm hk
theorem x1 (d T:Nat) (v:Value) {b off:Nat} {cs:List Value} (hv:At κ b off cs) (o:Nat) (hj:cs[o]?=some v) (hk:xwp P n c k nq q0 M π Q (upd E d v) κ) (h:xsQ c nq i E d=true:=by kernel_rfl)
  (ho:execOp (ev E) (zv c i)=vOf (Instr.loadAt T (.pointer (some ⟨b,off+o,none⟩))):=by kernel_rfl) (hT:zdY P T=some false:=by kernel_rfl) (hm:zpQ c i=true:=by kernel_rfl) (hf:frB c q0 i=false:=by kernel_rfl):xwp P n c k nq q0 M (i::π) Q E κ:=
 zsf v h (fun κ' hs C a=>by rw [ho];exact zB (zfT hT ((hv.step0 (ztT hf hs)).one hj))) hm hk
theorem xN (d T:Nat) (vs:List Value) {b off:Nat} {cs:List Value} (hv:At κ b off cs) (o m:Nat) (hj:(cs.drop o).take m=vs) (hk:xwp P n c k nq q0 M π Q (upd E d (.agg vs.toArray)) κ) (h:xsQ c nq i E d=true:=by kernel_rfl)
  (ho:execOp (ev E) (zv c i)=vOf (Instr.loadAt T (.pointer (some ⟨b,off+o,none⟩))):=by kernel_rfl) (hT:zdY P T=some true:=by kernel_rfl) (hs:zG P T=some vs.length:=by kernel_rfl) (hm:zpQ c i=true:=by kernel_rfl) (hf:frB c q0 i=false:=by kernel_rfl):xwp P n c k nq q0 M (i::π) Q E κ:=
 zsf _ h (fun κ' a C e=>by rw [ho];exact zB (zeO hT hs (by have:=((hv.step0 (ztT hf a)).part o m).2;rw [hj] at this;exact this))) hm hk
theorem xi (d T el sz ln cp:Nat) (kd:IntKind) (ix:Int) {b off:Nat} {a:Option Addr} (ea:a=some ⟨b,off,none⟩) (h0:0≤ix) (h1:ix<ln) (hk:xwp P n c k nq q0 M π Q (upd E d (.pointer (some ⟨b,off+ix.toNat*sz,none⟩))) κ)
  (h:xsQ c nq i E d=true:=by kernel_rfl) (ho:execOp (ev E) (zv c i)=vOf (Instr.indexAt T (.slice a ln cp) (.int kd ix)):=by kernel_rfl)
  (hT:zC P T=some el:=by kernel_rfl) (hs:zG P el=some sz:=by kernel_rfl):xwp P n c k nq q0 M (i::π) Q E κ:=by
 subst ea;exact xq d _ (fun w=>by rw [ho];exact zB (by rw [znf hT hs h0 h1,zbn])) hk h
theorem znD {d:Nat} (R:Value→K→Prop) (h:xsN c nq i E d=true) (hrel:∀ v κ',R v κ'→zoZ q0 M i κ κ')
  (hr:∀ C b,∃ v κ' d1,(execOp (ev E) (zv c i)).run P (W C κ b)=.ok (.value v) (W C κ' d1)∧R v κ')
  (hk:∀ v κ',R v κ'→xwp P n c k nq q0 M π Q (upd E d v) κ'):xwp P n c k nq q0 M (i::π) Q E κ:=by
 unfold xsN at h;simp only [ao] at h;obtain ⟨⟨g,f⟩,j⟩:=h;have:=fv j;subst this;refine .inr (.inl ⟨g,f,fun C b=>?_⟩);obtain ⟨v,κ',d1,a,e⟩:=hr C b;rw [a];exact ⟨κ',d1,rfl,hrel _ _ e,hk _ _ e⟩
theorem zng {κ κ':K} (h:Step [] κ κ'):zoZ q0 M i κ κ':=by
 unfold zoZ;cases Nat.beq i q0 with
 | false=>exact h
 | true=>exact h.nil
theorem xcl {f:FuncId} {args:Array Value} {R:Value→K→Prop} (d:Nat) (hf:Fn P f args κ R) (hk:∀ v κ',R v κ'→Step [] κ κ'∧xwp P n c k nq q0 M π Q (upd E d v) κ') (h:xsN c nq i E d=true:=by kernel_rfl)
  (hr:∀ w,(execOp (ev E) (zv c i)).run P w=.ok (.enter f args) w:=by intro _;kernel_rfl):xwp P n c k nq q0 M (i::π) Q E κ:=by
 unfold xsN at h;simp only [ao] at h;obtain ⟨⟨g,e⟩,j⟩:=h;have:=fv j;subst this;refine .inr (.inl ⟨g,e,fun C b=>?_⟩);rw [hr];exact ⟨κ,b,rfl,zng (Step.refl _ _),hf.mono fun v κ' a=>⟨zng (hk v κ' a).1,(hk v κ' a).2⟩⟩
theorem zvz {d:Nat} {T:TypeId} (τ:Tag) (hτ:τ.1≤κ.H.size) (zs:List Value) (h:xsN c nq i E d=true) (ho:execOp (ev E) (zv c i)=vOf (Instr.alloc T true (.tuple #[])))
  (hz:(zct P T).map Value.cells=some zs.toArray)
  (hk:∀ b κ',Step [] κ κ'→Box τ κ' b zs T→xwp P n c k nq q0 M π Q (upd E d (.pointer (some ⟨b,0,none⟩))) κ'):xwp P n c k nq q0 M (i::π) Q E κ:=by
 obtain ⟨z,e,a⟩:=gt.1 hz;refine znD (fun v κ'=>∃ b,v=.pointer (some ⟨b,0,none⟩)∧Step [] κ κ'∧Box τ κ' b zs T) h (fun v κ' ⟨b,_,hs,_⟩=>zng hs) (fun C f=>?_) ?_
 ·refine ⟨_,κ.push (.cells zs.toArray T) 0 τ,f,?_,κ.H.size,rfl,zbp _ _ _ _,zps _ _ _ _ hτ⟩;rw [ho];refine zB ?_;unfold Instr.alloc;simp only [ay,zfk e,ax];unfold newVar newRow;rw [a];rfl
 ·rintro v κ' ⟨b,rfl,hs,g⟩;exact hk b κ' hs g
variable {α:Type} {t:Ty α} {pub:Bool} {τ:Tag} {e T:TypeId} {a a2:Option Addr} {cp c2:Nat} {l l2 r:List α}
theorem zok {d bytes:Nat} (h:xsN c nq i E d=true) (ho:execOp (ev E) (zv c i)=vOf (Builtin.append_ #[T,T] 0 #[.slice a l.length cp,.slice a2 l2.length c2]))
  (hg:Gr t pub τ κ e a cp l) (h2:Sl t κ a2 c2 l2) (hτ:τ.1≤κ.H.size) (hT:zjW P T=some (e,t.size,t.size,bytes)) (hx:app bytes l l2=some r) (hrel:zoZ q0 M i=Step (blk a cp))
  (hk:∀ a' c' κ',Step (blk a cp) κ κ'→Gr t pub τ κ' e a' c' r→(∀ g∈blk a' c',g∈blk a cp∨κ.H.size≤g)→xwp P n c k nq q0 M π Q (upd E d (.slice a' r.length c')) κ'):xwp P n c k nq q0 M (i::π) Q E κ:=by
 obtain ⟨s,w,m,u⟩:=zlt hT;obtain ⟨x,hm,rfl⟩:=zpv hx;refine znD (fun v κ'=>∃ a' c',v=.slice a' (l++l2).length c'∧Step (blk a cp) κ κ'∧Gr t pub τ κ' e a' c' (l++l2)∧∀ g∈blk a' c',g∈blk a cp∨κ.H.size≤g) h (fun v κ' ⟨_,_,_,hs,_⟩=>by rw [hrel];exact hs) (fun C j=>?_) ?_
 ·obtain ⟨a',c',κ',p,q,hs,b,f⟩:=zop (P:=P) (T:=T) (ty:=0) hg h2 hτ s w m u x hm C j;exact ⟨_,κ',p,by rw [ho];exact zB q,a',c',rfl,hs,b,f⟩
 ·rintro v κ' ⟨a',c',rfl,hs,b,f⟩;exact hk a' c' κ' hs b f
theorem zfq {d len:Nat} {parts:Array (Nat×Value)} {cs:List Value} (h:xsN c nq i E d=true) (ho:execOp (ev E) (zv c i)=vOf (Instr.buildSlice T len parts))
  (hi:zqd P T len parts=some (e,t.size,cs)) (hs:Nat.blt 0 t.size=true) (hτ:τ.1≤κ.H.size) (hl:l.length=len) (hr:Rep t κ cs l) (hm:Nat.ble len 1000000=true)
  (hk:∀ a' κ',Step [] κ κ'→Gr t pub τ κ' e a' len l→xwp P n c k nq q0 M π Q (upd E d (.slice a' len len)) κ'):xwp P n c k nq q0 M (i::π) Q E κ:=by
 subst hl;have hm':=fx hm;refine znD (fun v κ'=>∃ a',v=.slice a' l.length l.length∧Step [] κ κ'∧Gr t pub τ κ' e a' l.length l) h (fun v κ' ⟨_,_,hs,_⟩=>zng hs) (fun C a=>?_) ?_
 ·exact ⟨_,_,a,by rw [ho];exact zB (zuv hi (fx hs) C a (if pub=true then l.length*t.size else 0) τ),_,rfl,zbp _ _ _ _,zqO hr (by omega) hτ⟩
 ·rintro v κ' ⟨a',rfl,hs,b⟩;exact hk a' κ' hs b
theorem ztu {d bytes:Nat} {k1 k2:IntKind} {m:Int} {zs:List Value} {z:α} (h:xsN c nq i E d=true) (ho:execOp (ev E) (zv c i)=vOf (Instr.makeSlice T (.int k1 m) (.int k2 m)))
  (hT:zjW P T=some (e,t.size,t.size,bytes)) (hz:(zct P e).map Value.cells=some zs.toArray) (hzo:t.own κ zs z) (hx:mkl bytes m z=some r) (hτ:τ.1≤κ.H.size)
  (hk:∀ a' κ',Step [] κ κ'→Gr t pub τ κ' e a' r.length r→xwp P n c k nq q0 M π Q (upd E d (.slice a' r.length r.length)) κ'):xwp P n c k nq q0 M (i::π) Q E κ:=by
 refine znD (fun v κ'=>∃ a',v=.slice a' r.length r.length∧Step [] κ κ'∧Gr t pub τ κ' e a' r.length r) h (fun v κ' ⟨_,_,hs,_⟩=>zng hs) (fun C b=>?_) ?_
 ·obtain ⟨a',κ',f,hs,a⟩:=zwO (P:=P) (T:=T) (pub:=pub) (k1:=k1) (k2:=k2) hT hz hzo hx hτ C b;exact ⟨_,κ',b,by rw [ho];exact zB f,a',rfl,hs,a⟩
 ·rintro v κ' ⟨a',rfl,hs,a⟩;exact hk a' κ' hs a
theorem ztt {d:Nat} {lo hi:Option Int} (h:xsQ c nq i E d=true) (ho:execOp (ev E) (zv c i)=vOf (Instr.sliceAt T (.slice a l.length cp) (zbE lo) (zbE hi) none))
  (hT:zC P T=some e) (hs:zG P e=some t.size) (hg:Sl t κ a cp l) (hx:zf7 l (lo.getD 0) (hi.getD l.length)=some r)
  (hk:∀ a' c',Sl t κ a' c' r→xwp P n c k nq q0 M π Q (upd E d (.slice a' r.length c')) κ):xwp P n c k nq q0 M (i::π) Q E κ:=by
 obtain ⟨a',c',f,b⟩:=zwM hT hs hg hx;exact xq d _ (fun w=>by rw [ho];exact zB (f w)) (hk a' c' b) h
theorem xsp {β:Type} {A B o:Option β} (d:Nat) (b:Bool) (hr:(if b=true then A else B)=o) (hf:b=false→B=o→xwp P n c k nq q0 M π Q (upd E d (.bool false)) κ) (ht:b=true→A=o→xwp P n c k nq q0 M π Q (upd E d (.bool true)) κ)
  (h:xsQ c nq i E d=true:=by kernel_rfl) (hx:∀ w,(execOp (ev E) (zv c i)).run P w=.ok (.value (.bool b)) w:=by intro _;kernel_rfl):xwp P n c k nq q0 M (i::π) Q E κ:=by
 cases b with
 | false=>exact xq d _ hx (hf rfl (zyj rfl hr)) h
 | true=>exact xq d _ hx (ht rfl (zyi rfl hr)) h
end
def zif (s t:List UInt8):Option (List UInt8):=if s.length+t.length≤9223372036854775807 then some (s++t) else none
theorem zso {s t r:List UInt8} (h:zif s t=some r):s.length+t.length≤9223372036854775807∧r=s++t:=by
 unfold zif at h;split at h
 ·rename_i h0;exact ⟨h0,(Option.some.inj h).symm⟩
 ·cases h
theorem ze4 {s t r:List UInt8} (h:zif s t=some r):r.length≤9223372036854775807:=by
 obtain ⟨a,rfl⟩:=zso h;rw [du];exact a
section
variable {P:Program} {E:Env} {c:Code} {i:Nat} {s t r:List UInt8} {w:World} {κ:K}
theorem zag (h:execOp (ev E) (zv c i)=vOf (do eqGuard .add 0 (.tmp 0) (.tmp 0) (zw s) (zw t);binOp .add 0 (zw s) (zw t))) (hx:zif s t=some r) :
  (execOp (ev E) (zv c i)).run P w=.ok (.value (zw r)) w:=by
 obtain ⟨a,rfl⟩:=zso hx;rw [h];refine zB ?_;have d:binOp .add 0 (zw s) (zw t)=Op.stringOp .add ⟨s.toArray⟩ ⟨t.toArray⟩:=rfl;rw [ay,d];have b:(eqGuard .add 0 (.tmp 0) (.tmp 0) (zw s) (zw t)).run P w=.ok () w:=by simp [eqGuard,zw]
 rw [b];simp only [ax];rw [run_string_add_sum w _ _ (by simpa [ByteArray.size] using a),ByteArray.mk_append_mk];rfl
def zj7 (l:List Int):List UInt8:=l.map fun n=>UInt8.ofNat n.toNat
theorem zuS (l:List Int):∀ r:ByteArray,l.foldl (fun r n=>r.push (UInt8.ofNat n.toNat)) r=⟨r.data++(zj7 l).toArray⟩:=by
 induction l with
 | nil=>intro r;simp [zj7]
 | cons n l ih=>
  intro r;rw [ci,ih];simp [zj7,ByteArray.push]
theorem zsZ {src dst e:TypeId} {a:Option Addr} {cp:Nat} {l:List Int} (hs:zC P src=some e) (he:P.underlying e=some (.int .u8)) (hd:P.underlying dst=some .string) (h:Sl tU8 κ a cp l) [Fb] (C:Cx) (d:Nat) :
  (convert src dst (.slice a l.length cp)).run P (W C κ d)=.ok (zw (zj7 l)) (W C κ d):=by
 rw [run_convert_bytes_string _ src dst e a l.length cp (zcc hs) he hd];cases a with
 | none=>
  have:l=[]:=by
   cases l with
   | nil=>rfl
   | cons x l=>obtain ⟨b,off,c,_⟩:=h.elems (by simp);cases c
  subst this;rfl
 | some ad=>
  have s:(loadCells ad l.length).run P (W C κ d)=.ok (l.map (Value.int .u8)).toArray (W C κ d):=by
   have:=run_loadCells_list (P:=P) (W C κ d) ad (l.map (Value.int .u8)) (fun j v g=>?_)
   ·rw [dz] at this;exact this
   ·rw [cw] at g;obtain ⟨n,k,rfl⟩:=gt.1 g;have p:=(cv.1 k).1;obtain ⟨b,off,c,f⟩:=h.elems (by omega);obtain ⟨cs,m,q,_⟩:=f j n k;injection c with c
    subst c;rw [zbn,zkX];subst q;have:=m.2.2 0 _ rfl;have r:tU8.size=1:=rfl;rw [r,Nat.mul_one,Nat.add_zero] at this;exact this
  rw [run_bytesToString _ ad l.length cp l s,zuS];unfold zw;have:ByteArray.empty.data=#[]:=rfl;rw [this];simp
end
section
variable [Fc] [Fb] {P:Program} {n:Nat} {c:Code} {i k:Nat} {nq:List Nat} {q0:Nat} {M:List Nat} {π:List Nat} {Q:zaH} {E:Env} {κ:K}
theorem obs (d src dst e:Nat) {a:Option Addr} {cp:Nat} {l:List Int} (hf:Sl tU8 κ a cp l) (hk:owp P n c (i+1) Q (upd E d (zw (zj7 l))) κ) (h:st c i n E (some d)=true:=by kernel_rfl)
  (ho:execOp (ev E) (zv c i)=vOf (convert src dst (.slice a l.length cp)):=by kernel_rfl) (hs:zC P src=some e:=by kernel_rfl) (he:P.underlying e=some (.int .u8):=by kernel_rfl) (hd:P.underlying dst=some .string:=by kernel_rfl):owp P n c i Q E κ:=
 zfB _ h (fun C b=>by rw [ho];exact zB (zsZ hs he hd hf C b)) hk
end
structure Own (τ:Tag) (κ:K) (b:Nat):Prop where
 lt:b<κ.H.size
 fr:κ.fr b=0
 tag:κ.tag b=τ
 ge:τ.1≤b
theorem Box.o {τ:Tag} {κ:K} {b:Nat} {cs:List Value} {T:TypeId} (h:Box τ κ b cs T):Own τ κ b:=⟨h.lt,h.fr,h.tag,h.ge⟩
theorem Own.ne {τ τ':Tag} {κ:K} {b b':Nat} (h:Own τ κ b) (h':Own τ' κ b') (hn:τ≠τ'):b≠b':=fun e=>by
 subst e;exact hn (h.tag.symm.trans h'.tag)
theorem Own.tlt {τ:Tag} {κ:K} {b:Nat} (h:Own τ κ b):τ.1<κ.H.size:=Nat.lt_of_le_of_lt h.ge h.lt
section
variable {α:Type} {t:Ty α} {pub:Bool} {τ τ':Tag} {κ:K} {e:TypeId} {a:Option Addr} {c:Nat} {l:List α} {b:Nat}
theorem Gr.nbo (h:Gr t pub τ κ e a c l) (h':Own τ' κ b) (hn:τ≠τ'):∀ g∈blk a c,g∉[b]:=fun g d hm=>by
 have f:g=b:=by simpa using hm
 subst f;exact hn ((h.lt g d).2.1.symm.trans h'.tag)
theorem Gr.bno (h:Gr t pub τ κ e a c l) (h':Own τ' κ b) (hn:τ'≠τ):b∉blk a c:=fun d=>hn (h'.tag.symm.trans (h.lt b d).2.1)
end
structure KT (α:Type) where
 enc:α→Value
 inj:∀ {x y},enc x=enc y→x=y
def kStr:KT (List UInt8):=⟨zw,fun {x y} h=>by unfold zw at h;injection h with h;injection h with h;injection h⟩
def zv3:KT Int:=⟨fun n=>.int .i64 n,fun {x y} h=>by injection h⟩
def kPt:KT (Int×Int):=⟨fun p=>.agg #[.int .i64 p.1,.int .i64 p.2],fun {x y} h=>by
 injection h with h;injection h with h;injection h with h1 h2;injection h2 with h2 _;injection h1 with _ h1;injection h2 with _ h2;exact Prod.ext h1 h2⟩
structure KeyOk {α:Type} (P:Program) (kd:TypeId) (kt:KT α):Prop where
 check:∀ em w x,(Instr.checkKey em 10000 kd (kt.enc x)).run P w=.ok () w
 find:∀ x (es:List MapEntry) w,(∀ e∈es,∃ y,e.key=kt.enc y)→
  ((∀ e∈es,e.key≠kt.enc x)∧(Instr.findKey kd (kt.enc x) es).run P w=.ok none w) ∨
  ∃ (j:Nat) (e:MapEntry),es[j]?=some e∧e.key=kt.enc x∧(Instr.findKey kd (kt.enc x) es).run P w=.ok (some (j,e.val)) w
 stays:∀ w x,(Instr.keyThatStays (kt.enc x) (kt.enc x)).run P w=.ok (kt.enc x) w
theorem zt5 {α:Type} {P:Program} {kd:TypeId} {kt:KT α} {d:TypeDesc} (hd:P.underlying kd=some d) (hk:∀ x,Go.MapKept.IsKey d (kt.enc x)):KeyOk P kd kt where
 check:=fun em w x=>Go.MapKept.run_checkKey hd (hk x) em 9999
 find:=fun x es w he=>by
  rcases Go.MapKept.findNow_spec (hk x) es 0 (fun e h=>by obtain ⟨y,hy⟩:=he e h;rw [hy];exact hk y) with ⟨h1,h2⟩ | ⟨j,e,h1,h2,h3⟩
  ·exact .inl ⟨h2,Go.MapKept.run_findKey hd h1⟩
  ·exact .inr ⟨j,e,h2,h3,by simpa using Go.MapKept.run_findKey (P:=P) (w:=w) hd h1⟩
 stays:=fun w x=>Go.MapKept.run_keyThatStays (hk x)
theorem znO {P:Program} {kd:TypeId} (hd:P.underlying kd=some .string):KeyOk P kd kStr:=zt5 hd fun _=>trivial
theorem znP {P:Program} {kd:TypeId} (hd:P.underlying kd=some (.int .i64)):KeyOk P kd zv3:=zt5 hd fun _=>rfl
theorem zxk {P:Program} {kd:TypeId} (hc:∀ C w x y,(Instr.checkKey C 10000 kd (.agg #[.int .i64 x,.int .i64 y])).run P w=.ok () w)
  (hu:∃ d,P.underlying kd=some d∧∀ a b k c j,b.size=2→Instr.findNow d (.agg a) (({key:=.agg b,val:=k,born:=j}:MapEntry)::c) 0=none)
  (hq:∀ w x y z t,(Op.equal kd (.agg #[.int .i64 x,.int .i64 y]) (.agg #[.int .i64 z,.int .i64 t])).run P w=.ok (decide (x=z)&&decide (y=t)) w):KeyOk P kd kPt where
 check:=fun C w x=>hc C w x.1 x.2
 find:=fun x c w A=>by
  obtain ⟨d,hd,B⟩:=hu;have D:∀ (c:List MapEntry) (i:Nat),(∀ e∈c,∃ y,e.key=kPt.enc y)→
    ((∀ e∈c,e.key≠kPt.enc x)∧(Instr.findAsking kd (kPt.enc x) c i).run P w=.ok none w) ∨
    ∃ (j:Nat) (e:MapEntry),c[j]?=some e∧e.key=kPt.enc x∧(Instr.findAsking kd (kPt.enc x) c i).run P w=.ok (some (i+j,e.val)) w:=by
   intro c
   induction c with
   | nil=>intro i _;exact .inl ⟨by simp,rfl⟩
   | cons e c ih=>
    intro i h;obtain ⟨y,r⟩:=h e (.head _);have s:(Op.equal kd (kPt.enc x) e.key).run P w=.ok (decide (x.1=y.1)&&decide (x.2=y.2)) w:=by rw [r];exact hq w _ _ _ _
    by_cases g:x=y
    ·subst g;refine .inr ⟨0,e,rfl,r,?_⟩;unfold Instr.findAsking;simp only [ay,s,Result.andThen];simp
    ·have F:(decide (x.1=y.1)&&decide (x.2=y.2))=false:=by
      rw [Bool.and_eq_false_iff];by_cases E:x.1=y.1
      ·right;exact decide_eq_false fun s=>g (Prod.ext E s)
      ·left;exact decide_eq_false E
     rw [F] at s;have f:(Instr.findAsking kd (kPt.enc x) (e::c) i).run P w=(Instr.findAsking kd (kPt.enc x) c (i+1)).run P w:=by
      conv=>lhs;unfold Instr.findAsking
      simp only [ay,s,Result.andThen];simp
     rcases ih (i+1) (fun e A=>h e (.tail _ A)) with ⟨n,m⟩ | ⟨j,u,n,m,h5⟩
     ·refine .inl ⟨fun u p=>?_,f.trans m⟩;cases p with
      | head=>rw [r];exact fun q=>g (kPt.inj q).symm
      | tail _ p=>exact n u p
     ·refine .inr ⟨j+1,u,by simpa using n,m,?_⟩;rw [f,h5];congr 3;omega
  cases c with
  | nil=>exact .inl ⟨by simp,by unfold Instr.findKey;simp [zy hd,Instr.findNow]⟩
  | cons e c=>
   obtain ⟨y,r⟩:=A e (.head _);have G:Instr.findNow d (kPt.enc x) (e::c) 0=none:=by
    obtain ⟨k,v,b⟩:=e;simp only at r;subst r;exact B _ _ _ _ _ rfl
   have f:(Instr.findKey kd (kPt.enc x) (e::c)).run P w=(Instr.findAsking kd (kPt.enc x) (e::c) 0).run P w:=by
    conv=>lhs;unfold Instr.findKey
    simp only [ay,zy hd,Result.andThen,G]
   rcases D (e::c) 0 A with ⟨n,m⟩ | ⟨j,u,n,m,h5⟩
   ·exact .inl ⟨n,f.trans m⟩
   ·exact .inr ⟨j,u,n,m,by rw [f,h5];simp⟩
 stays:=fun w x=>by
  have h:Instr.sameBits 10000 (kPt.enc x) (kPt.enc x)=true:=by simp [kPt,Instr.sameBits]
  unfold Instr.keyThatStays;simp [h]
def mget {α β:Type} [DecidableEq α] (m:List (α×β)) (k:α):Option β:=(m.find? (fun p=>decide (p.1=k))).map (·.2)
def mhas {α β:Type} [DecidableEq α] (m:List (α×β)) (k:α):Bool:=m.any (fun p=>decide (p.1=k))
def zgv {α β:Type} [DecidableEq α] (m:List (α×β)) (k:α) (v:β):List (α×β):=
 if mhas m k=true then m.map (fun p=>if p.1=k then (k,v) else p) else m++[(k,v)]
structure Mp {α β:Type} (kt:KT α) (t:Ty β) (τ:Tag) (κ:K) (b:Nat) (m:List (α×β)):Prop where
 obj:∃ (es:Array MapEntry) (clock:Nat),κ.H[b]?=some (.map es clock)∧es.size=m.length∧(∀ (i:Nat) (p:α×β),m[i]?=some p→∃ e,es[i]?=some e∧e.key=kt.enc p.1∧t.own κ [e.val] p.2)
  ∧ (es.toList.map (·.born)).Pairwise (· < ·)∧∀ e∈es.toList,e.born<clock
 nd:m.Pairwise (fun p q=>p.1≠q.1)
 fr:κ.fr b=0
 tag:κ.tag b=τ
 ge:τ.1≤b
section
variable {α β:Type} {kt:KT α} {t:Ty β} {τ:Tag} {κ κ':K} {b:Nat} {m:List (α×β)}
theorem Mp.lt (h:Mp kt t τ κ b m):b<κ.H.size:=by
 obtain ⟨c,cl,a,_⟩:=h.obj;exact (ae.1 a).1
theorem Mp.o (h:Mp kt t τ κ b m):Own τ κ b:=⟨h.lt,h.fr,h.tag,h.ge⟩
theorem Mp.step {M:List Nat} (s:Step M κ κ') (hm:b∉M) (h:Mp kt t τ κ b m):Mp kt t τ κ' b m:=by
 obtain ⟨n,cl,k,g,q,j⟩:=h.obj;refine ⟨⟨n,cl,(s.2.1 b h.lt hm).1.trans k,g,fun i p a=>?_,j⟩,h.nd,(s.2.1 b h.lt hm).2.1.trans h.fr,(s.2.1 b h.lt hm).2.2.trans h.tag,h.ge⟩;obtain ⟨e,f,c,d⟩:=q i p a;exact ⟨e,f,c,t.step s d⟩
theorem Mp.step0 (s:Step [] κ κ') (h:Mp kt t τ κ b m):Mp kt t τ κ' b m:=h.step s (by simp)
theorem zya (κ:K) (τ:Tag) (h:τ.1≤κ.H.size):Mp kt t τ (κ.push (.map #[] 0) 0 τ) κ.H.size ([]:List (α×β)):=
 ⟨⟨#[],0,by simp [K.push],rfl,fun i p a=>by simp at a,by simp,by simp⟩,List.Pairwise.nil,by simp [K.push],by simp [K.push],h⟩
variable [DecidableEq α]
theorem zvX (x:α) (h:∀ p∈m,p.1≠x):mget m x=none∧mhas m x=false:=by
 unfold mget mhas;constructor
 ·rw [List.find?_eq_none.2 (fun p a=>by simpa using h p a)];rfl
 ·rw [List.any_eq_false];intro p a;simpa using h p a
theorem zyb (hnd:m.Pairwise (fun p q=>p.1≠q.1)) {j:Nat} {p:α×β} (hj:m[j]?=some p):mget m p.1=some p.2∧mhas m p.1=true:=by
 constructor
 ·induction m generalizing j with
  | nil=>simp at hj
  | cons q m ih=>
   obtain ⟨b,c⟩:=fj.1 hnd;cases j with
   | zero=>simp at hj;subst hj;simp [mget]
   | succ j=>
    simp at hj;have a:q.1≠p.1:=b p (fd hj);have:=ih c hj;unfold mget at this ⊢;rw [List.find?_cons];simp [a];simpa using this
 ·unfold mhas;rw [bf];exact ⟨p,fd hj,by simp⟩
omit [DecidableEq α]
theorem zsi {κ:K} {v:Value} {x:Bool} (h:zsj.own κ [v] x):v=.bool x:=by injection h
theorem zoM {κ:K} {v:Value} {x:Int} (h:tI64.own κ [v] x):v=.int .i64 x∧I64 x:=⟨by have:=h.1;injection this,h.2⟩
variable [DecidableEq α]
def zii (P:Program) (T:TypeId):Option (TypeId×TypeId):=
 match P.underlying T with
 | some (.map k e)=>some (k,e)
 | _=>none
theorem zgx {P:Program} {T k e:TypeId} (h:zii P T=some (k,e)):P.underlying T=some (.map k e):=by
 unfold zii at h;split at h
 ·rename_i h0;injection h with h;injection h with h1 h2;subst h1;subst h2;exact h0
 ·cases h
theorem zs7 {P:Program} {kd:TypeId} (h:Mp kt t τ κ b m) (hk:KeyOk P kd kt) (x:α) {es:Array MapEntry} {cl:Nat} (hb:κ.H[b]?=some (.map es cl)) (w:World) :
  (mget m x=none∧mhas m x=false∧(Instr.findKey kd (kt.enc x) es.toList).run P w=.ok none w) ∨
  ∃ j e y,m[j]?=some (x,y)∧mget m x=some y∧mhas m x=true∧es[j]?=some e∧e.key=kt.enc x∧t.own κ [e.val] y∧(Instr.findKey kd (kt.enc x) es.toList).run P w=.ok (some (j,e.val)) w:=by
 obtain ⟨G,H,k,D,C,_⟩:=h.obj;rw [hb] at k;injection k with k
 injection k with k _
 subst k;have u:∀ e∈es.toList,∃ p,p∈m∧e.key=kt.enc p.1:=by
  intro e n;obtain ⟨i,hi⟩:=cy n;rw [ak] at hi;have c:i<m.length:=by rw [←D];exact (ae.1 hi).1
  obtain ⟨F,d,v,_⟩:=C i m[i] (by simp [c]);rw [hi] at d;injection d with d
  subst d;exact ⟨m[i],dt c,v⟩
 rcases hk.find x es.toList w (fun e n=>by obtain ⟨p,_,A⟩:=u e n;exact ⟨_,A⟩) with ⟨h5,h4⟩ | ⟨j,e,h5,h6,h4⟩
 ·have s:∀ p∈m,p.1≠x:=by
   intro p A n;obtain ⟨i,hi⟩:=cy A;obtain ⟨e,a,g,_⟩:=C i p hi;refine h5 e ?_ (by rw [g,n]);rw [←ak] at a;exact fd a
  obtain ⟨r,q⟩:=zvX x s;exact .inl ⟨r,q,h4⟩
 ·rw [ak] at h5;have c:j<m.length:=by rw [←D];exact (ae.1 h5).1
  have f:m[j]?=some m[j]:=by simp [c]
  obtain ⟨F,a,g,B⟩:=C j m[j] f;rw [h5] at a;injection a with a
  subst a;have E:m[j].1=x:=kt.inj (g.symm.trans h6);obtain ⟨r,q⟩:=zyb h.nd f;rw [E] at r q;exact .inr ⟨j,e,m[j].2,by rw [f,←E],r,q,h5,h6,B,h4⟩
theorem zxK [Fb] (C:Cx) (κ:K) (d b:Nat) {es:Array MapEntry} {cl:Nat} (h:κ.H[b]?=some (.map es cl)) (P:Program):(getObj b).run P (W C κ d)=.ok (.map es cl) (W C κ d):=
 Go.MapKept.run_getObj_map h
theorem zpx [Fb] (C:Cx) (κ:K) (d b:Nat) {es:Array MapEntry} {cl:Nat} (o:Obj) (h:κ.H[b]?=some (.map es cl)) (P:Program):(setObj b o).run P (W C κ d)=.ok () (W C (κ.setO b o) d):=
 Go.MapKept.run_setObj_map o h
theorem zld {P:Program} {T kd e:TypeId} {z:Value} {y0:β} {x:α} (h:Mp kt t τ κ b m) (hT:zii P T=some (kd,e)) (hk:KeyOk P kd kt) (hz:zct P e=some z) (hzo:t.own κ [z] y0) [Fb] (C:Cx) (d:Nat) :
  ∃ v,t.own κ [v] ((mget m x).getD y0)∧(Instr.lookup T (.map (some b)) (kt.enc x) false).run P (W C κ d)=.ok v (W C κ d)∧
   (Instr.lookup T (.map (some b)) (kt.enc x) true).run P (W C κ d)=.ok (.tuple #[v,.bool (mhas m x)]) (W C κ d):=by
 obtain ⟨n,cl,g,_⟩:=h.obj;have a:=zxK C κ d b g P;rcases zs7 h hk x g (W C κ d) with ⟨f,c,k⟩ | ⟨j,en,y,g0,f,c,k,g4,g5,g6⟩
 ·refine ⟨z,by rw [f];exact hzo,?_,?_⟩ <;>
  ·unfold Instr.lookup;simp [zy (zgx hT),a,hk.check,k,zfk hz,c]
 ·refine ⟨en.val,by rw [f];exact g5,?_,?_⟩ <;>
  ·unfold Instr.lookup;simp [zy (zgx hT),a,hk.check,g6,c]
theorem zs6 {x:α} {y:β} (h:mhas m x=true):(zgv m x y).length=m.length:=by unfold zgv;rw [if_pos h,dz]
theorem zx9 (hnd:m.Pairwise (fun p q=>p.1≠q.1)) (x:α) (y:β):(zgv m x y).Pairwise (fun p q=>p.1≠q.1):=by
 unfold zgv;split
 ·rw [List.pairwise_map];refine hnd.imp ?_;intro p q b;by_cases c:p.1=x<;>by_cases a:q.1=x
  ·exact absurd (c.trans a.symm) b
  ·rw [if_pos c,if_neg a];exact fun e=>a e.symm
  ·rw [if_neg c,if_pos a];exact c
  ·rw [if_neg c,if_neg a];exact b
 ·rename_i h;rw [List.pairwise_append];refine ⟨hnd,by simp,fun p d q f=>?_⟩;have:q=(x,y):=by simpa using f
  subst this;intro e;apply h;unfold mhas;rw [bf];exact ⟨p,d,by simpa using e⟩
theorem zwN {P:Program} {T kd e:TypeId} {x:α} {v:Value} {y:β} (h:Mp kt t τ κ b m) (hT:zii P T=some (kd,e)) (hk:KeyOk P kd kt) (hv:t.own κ [v] y) [Fb] (C:Cx) (d:Nat) :
  ∃ κ',(Instr.mapUpdate T (.map (some b)) (kt.enc x) v).run P (W C κ d)=.ok () (W C κ' d)∧Step [b] κ κ'∧κ.H.size=κ'.H.size∧Mp kt t τ κ' b (zgv m x y):=by
 obtain ⟨B,cl,N,hsz,L,M,u⟩:=h.obj;have J:=zxK C κ d b N P;have V:∀ (c:Array MapEntry) (f:Nat),c.size=(zgv m x y).length→(∀ κ':K,Step [b] κ κ'→∀ (i:Nat) (p:α×β),(zgv m x y)[i]?=some p→∃ e,c[i]?=some e∧e.key=kt.enc p.1∧t.own κ' [e.val] p.2)→((c.toList.map (·.born)).Pairwise (· < ·)∧∀ e∈c.toList,e.born<f)→
   Step [b] κ (κ.setO b (.map c f))∧κ.H.size=(κ.setO b (.map c f)).H.size∧Mp kt t τ (κ.setO b (.map c f)) b (zgv m x y):=by
  intro c f E D h3;have H:Step [b] κ (κ.setO b (.map c f)):=zlT h.fr;exact ⟨H,by simp [K.setO],⟨c,f,by simp [K.setO,h.lt],E,D _ H,h3⟩,zx9 h.nd x y,h.fr,h.tag,h.ge⟩
 rcases zs7 h hk x N (W C κ d) with ⟨g1,I,G⟩ | ⟨j,en,y',g0,g1,I,G,g4,g5,g6⟩
 ·refine ⟨κ.setO b (.map (B.push {key:=kt.enc x,val:=v,born:=cl}) (cl+1)),?_,V _ _ ?_ ?_ ?_⟩
  ·unfold Instr.mapUpdate;simp [zy (zgx hT),J,hk.check,G,zpx C κ d b _ N P]
  ·unfold zgv;rw [if_neg (by rw [I];simp),Array.size_push,hsz,du];rfl
  ·intro κ' hs i p n;unfold zgv at n;rw [if_neg (by rw [I];simp)] at n;by_cases hi:i<m.length
   ·rw [cj hi] at n;obtain ⟨e,g,A,R⟩:=L i p n;exact ⟨e,by rw [Array.getElem?_push];rw [if_neg (by omega)];exact g,A,t.step hs R⟩
   ·rw [cn (by omega)] at n;have U:i - m.length=0:=by
     have:=(cv.1 n).1;simp at this;omega
    rw [U] at n;simp at n;subst n;refine ⟨{key:=kt.enc x,val:=v,born:=cl},?_,rfl,t.step hs hv⟩;rw [Array.getElem?_push,if_pos (by omega)]
  ·constructor
   ·rw [Array.toList_push,eh,List.pairwise_append];refine ⟨M,by simp,fun a ha b' S=>?_⟩;obtain ⟨e,g,rfl⟩:=fa.1 ha;have:b'=cl:=by simpa using S
    rw [this];exact u e g
   ·intro e g;rw [Array.toList_push,ep] at g;rcases g with g | g
    ·exact Nat.lt_succ_of_lt (u e g)
    ·have:e={key:=kt.enc x,val:=v,born:=cl}:=by simpa using g
     rw [this];exact Nat.lt_succ_self _
 ·have a0:j<B.size:=(ae.1 G).1;refine ⟨κ.setO b (.map (B.modify j fun e=>{e with key:=kt.enc x,val:=v}) cl),?_,V _ _ ?_ ?_ ?_⟩
  ·unfold Instr.mapUpdate;simp [zy (zgx hT),J,hk.check,g6,G,g4,hk.stays,zpx C κ d b _ N P]
  ·rw [zs6 I];simpa using hsz
  ·intro κ' hs i p n;unfold zgv at n;rw [if_pos I,cw] at n;obtain ⟨q,w,r⟩:=gt.1 n;obtain ⟨e,g,A,R⟩:=L i q w;by_cases k:j=i
   ·subst k;rw [g0] at w;injection w with w
    subst w;rw [if_pos rfl] at r;subst r;refine ⟨{en with key:=kt.enc x,val:=v},?_,rfl,t.step hs hv⟩;rw [af,if_pos rfl,G];rfl
   ·have O:q.1≠x:=fun Y=>by
     have E:=(cv.1 w).1;have D:=(cv.1 g0).1;have F:=fk.1 h.nd;have Z:=(cv.1 w).2;have X:=(cv.1 g0).2;rcases gg k with hlt' | hlt'
     ·have:=F j i D E hlt';rw [Z,X] at this;exact this Y.symm
     ·have:=F i j E D hlt';rw [Z,X] at this;exact this Y
    rw [if_neg O] at r;subst r;exact ⟨e,by rw [af,if_neg k];exact g,A,t.step hs R⟩
  ·have s:(B.modify j fun e=>{e with key:=kt.enc x,val:=v}).toList.map (·.born)=B.toList.map (·.born):=by
    apply bq;intro i;rw [cw,cw,ak,ak,af];by_cases k:j=i
    ·rw [if_pos k];cases B[i]?<;>rfl
    ·rw [if_neg k]
   refine ⟨by rw [s];exact M,fun e g=>?_⟩;have E:e.born∈B.toList.map (·.born):=by rw [←s];exact fa.2 ⟨e,g,rfl⟩
   obtain ⟨e',Q,D⟩:=fa.1 E;rw [←D];exact u e' Q
end
section
variable [Fc] [Fb] {P:Program} {n:Nat} {c:Code} {i k:Nat} {Q:zaH} {E:Env} {κ:K} {α β:Type} {t:Ty β} {τ:Tag} {b:Nat} {m:List (α×β)} {nq:List Nat} {q0:Nat} {M:List Nat} {π:List Nat}
theorem zw4 (R:K→Prop) (h:st c i n E none=true)
  (hr:∀ C b,∃ κ' d1,(execOp (ev E) (zv c i)).run P (W C κ b)=.ok .skip (W C κ' d1)∧R κ')
  (hk:∀ κ',R κ'→owp P n c (i+1) Q E κ'):owp P n c i Q E κ:=by
 refine zle h (fun C b a d=>?_);obtain ⟨κ',d1,f,e⟩:=hr C b;obtain ⟨_,_,g,_⟩:=zhe h;refine zqT (by rw [d.eval];exact f) ?_;rw [g];exact hk κ' e C d1 _ d
theorem omk {d T:Nat} (kt:KT α) (t:Ty β) (τ:Tag) (hτ:τ.1≤κ.H.size) (hk:∀ b κ',Step [] κ κ'→Mp kt t τ κ' b ([]:List (α×β))→owp P n c (i+1) Q (upd E d (.map (some b))) κ')
  (h:st c i n E (some d)=true:=by kernel_rfl) (ho:execOp (ev E) (zv c i)=vOf (Instr.makeMap T none):=by kernel_rfl):owp P n c i Q E κ:=by
 refine zkb (fun v κ'=>∃ b,v=.map (some b)∧Step [] κ κ'∧Mp kt t τ κ' b ([]:List (α×β))) h (fun C a=>?_) ?_
 ·exact ⟨_,κ.push (.map #[] 0) 0 τ,a,by rw [ho];exact zB rfl,κ.H.size,rfl,zbp _ _ _ _,zya _ _ hτ⟩
 ·rintro v κ' ⟨b,rfl,hs,hm⟩;exact hk b κ' hs hm
variable [DecidableEq α]
theorem olk (kt:KT α) {d T kd e:Nat} {x:α} {y0:β} (z:Value) (hm:Mp kt t τ κ b m) (hzo:t.own κ [z] y0) (hk:∀ v,t.own κ [v] ((mget m x).getD y0)→owp P n c (i+1) Q (upd E d v) κ)
  (hT:zii P T=some (kd,e):=by kernel_rfl) (h:st c i n E (some d)=true:=by kernel_rfl) (ho:execOp (ev E) (zv c i)=vOf (Instr.lookup T (.map (some b)) (kt.enc x) false):=by kernel_rfl)
  (hkd:KeyOk P kd kt:=by first | exact znP (by kernel_rfl) | exact znO (by kernel_rfl)) (hz:zct P e=some z:=by kernel_rfl):owp P n c i Q E κ:=by
 refine zkb (fun v κ'=>κ=κ'∧t.own κ [v] ((mget m x).getD y0)) h (fun C f=>?_) ?_
 ·obtain ⟨v,a,g,_⟩:=zld hm hT hkd hz hzo (x:=x) C f;exact ⟨v,κ,f,by rw [ho];exact zB g,rfl,a⟩
 ·rintro v κ' ⟨rfl,a⟩;exact hk v a
theorem zAi (kt:KT α) {d T kd e:Nat} {x:α} {y0:β} (z:Value) (hm:Mp kt t τ κ b m) (hzo:t.own κ [z] y0) (hk:∀ v,t.own κ [v] ((mget m x).getD y0)→owp P n c (i+1) Q (upd E d (.tuple #[v,.bool (mhas m x)])) κ)
  (hT:zii P T=some (kd,e):=by kernel_rfl) (h:st c i n E (some d)=true:=by kernel_rfl) (ho:execOp (ev E) (zv c i)=vOf (Instr.lookup T (.map (some b)) (kt.enc x) true):=by kernel_rfl)
  (hkd:KeyOk P kd kt:=by first | exact znP (by kernel_rfl) | exact znO (by kernel_rfl)) (hz:zct P e=some z:=by kernel_rfl):owp P n c i Q E κ:=by
 refine zkb (fun f κ'=>κ=κ'∧∃ v,f=.tuple #[v,.bool (mhas m x)]∧t.own κ [v] ((mget m x).getD y0)) h (fun C g=>?_) ?_
 ·obtain ⟨v,a,_,j⟩:=zld hm hT hkd hz hzo (x:=x) C g;exact ⟨_,κ,g,by rw [ho];exact zB j,rfl,v,rfl,a⟩
 ·rintro f κ' ⟨rfl,v,rfl,a⟩;exact hk v a
theorem omp (kt:KT α) {T kd e:Nat} {x:α} {y:β} {v:Value} (hm:Mp kt t τ κ b m) (hv:t.own κ [v] y) (hk:∀ κ',Step [b] κ κ'→κ.H.size=κ'.H.size→Mp kt t τ κ' b (zgv m x y)→owp P n c (i+1) Q E κ')
  (hT:zii P T=some (kd,e):=by kernel_rfl) (h:st c i n E none=true:=by kernel_rfl) (ho:execOp (ev E) (zv c i)=uOf (Instr.mapUpdate T (.map (some b)) (kt.enc x) v):=by kernel_rfl)
  (hkd:KeyOk P kd kt:=by first | exact znP (by kernel_rfl) | exact znO (by kernel_rfl)):owp P n c i Q E κ:=by
 refine zw4 (fun κ'=>Step [b] κ κ'∧κ.H.size=κ'.H.size∧Mp kt t τ κ' b (zgv m x y)) h (fun C g=>?_) ?_
 ·obtain ⟨κ',j,d,a,f⟩:=zwN hm hT hkd hv (x:=x) C g;exact ⟨κ',g,by rw [ho];exact zqI j,d,a,f⟩
 ·rintro κ' ⟨d,a,f⟩;exact hk κ' d a f
end
theorem Sl.of_none {α:Type} {t:Ty α} {κ:K} {c:Nat} {l:List α} (h:Sl t κ none c l):l=[]:=by
 cases l with
 | nil=>rfl
 | cons x l=>obtain ⟨b,off,a,_⟩:=h.elems (by simp);cases a
end Go.Lf
