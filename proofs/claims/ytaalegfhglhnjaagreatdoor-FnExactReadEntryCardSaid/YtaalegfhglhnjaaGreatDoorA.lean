import Derived.Orders
import Derived.StillTail
import Derived.KernelRfl
import Derived.Tactics
import Derived.TacticsIn
import Derived.OrdersIn
import Derived.Laws.Cells
import Derived.Laws.World
import Derived.Laws.AppendOwn
import Derived.Deep.AppendSrc
import Derived.Laws.MakeOwn
import Derived.Laws.StructEq
import Derived.Conc.LoneCalls
import Derived.Conc.LoneSelectN
import Derived.Laws.Concat
import Derived.Laws.BytesString
import Derived.Laws.IdiomStrings
import Derived.MapKept
set_option linter.all false
namespace Go.Lf
open Go
section
variable{p:Prop}{α:Sort _}(x:α){β:Sort _}(y:β){γ:Sort _}(z:γ){δ:Sort _}(u:δ){ε:Sort _}(v:ε){ζ:Sort _}(w:ζ){η:Sort _}(t:η){θ:Sort _}(s:θ){ι:Sort _}(q:ι){ν:Sort _}(n:ν){ξ:Sort _}(m:ξ){ο:Sort _}(k:ο){ρ:Sort _}(g:ρ){φ:Sort _}(c:φ)
def C9(h:let x:=x;p:=by intro x;exact λg hg=>(hw g hg).elim (x g) (A0 o)):=h
def O3(h:p:=by exact ϔ 15 [] λe=>cO 1<|aH<|od 3<|aT 10 (p0≥p1:Ϛ) a (λf a=>oz [11,12,13]<|Φ 2 a 6) λf a=>Φ 5 a 6):=h
def C3(h:let x:=x;let y:=y;p:=by intro x y;exact ⟨_,_,rfl,υ x,υ y⟩):=h
def B3(h:let x:=x;p:=by intro x;exact cr<|od 3<|ϋ x):=h
def D3(h:p:=by rw[zt om om];omega):=h
def F7(h:p:=by exact λj=>by simp[cm]):=h
def T3(h:p:=by exact λj i a=>cc _ a (λw a=>Ω 2 f 6) λw a=>ω 3):=h
def B9(h:let x:=x;p:=by intro x;exact aU<|u1 x.ne b):=h
def ϖ(h:p:=by simp only[];omega):=h
def ϶(h:let x:=x;p:=by intro x;simpa using x):=h
def ψ(h:p:=by exact D3):=h
def Ξ(h:let y:=y;let z:=z;let u:=u;let v:=v;p:=by intro y z u v;exact sj y▸rT 4 (iv z) ⟨o,_,_,rfl,(iK z),c,u,v⟩):=h
def Φ(h:let x:=x;let y:=y;let z:=z;p:=by intro x y z;exact dT x<|aC<|ϊ y z):=h
def Ψ(h:let x:=x;let y:=y;p:=by intro x y;exact cx 0<|zh<|zi<|zg<|za<|cT 1<|aC<|ϊ (x _ a) y):=h
def Ω(h:let x:=x;let y:=y;let z:=z;p:=by intro x y z;exact cT x<|aC<|ze<|zc<|zo<|ze<|zc<|ϊ (y _ a) z):=h
def ω(h:let x:=x;p:=by intro x;exact ck<|zd<|za<|cr<|od x<|ϋ a):=h
def π(h:p:=by simp;omega):=h
def χ(h:let x:=x;p:=by intro x;exact dT 1<|zj eY<|J1 true _ x):=h
def υ(h:let x:=x;p:=by intro x;exact ⟨rfl,x⟩):=h
def v6(h:let x:=x;let y:=y;p:=by intro x y;exact cT x<|aC<|zc<|ϊ a y):=h
def u4(h:p:=by exact Step.refl _ _):=h
def u3(h:p:=by exact ⟨_,rfl⟩):=h
def A0(h:let x:=x;p:=by intro x;exact λh=>.inr<|gg x.1 h):=h
def x8(h:let x:=x;p:=by intro x;rw[ho];exact zD x):=h
def C5(h:p:=by exact λ_=>kV (T:=116) (k1:=.i64) (k2:=.i64) kr kr):=h
def x7(h:p:=by simp[K.push]):=h
def A7(h:p:=by exact λg hg=>.inl (by simp[hg])):=h
def A4(h:let x:=x;p:=by intro x;simpa[Nat.blt,gh]using x):=h
def M0(h:let x:=x;p:=by intro x;exact dT 1<|aC<|zc<|sj x▸rt [.cell 2 116,.tmp 3] [_,ff] ⟨a_ a,kr,xO⟩ (⟨e,rfl,(iK 0),(iK 0)⟩)):=h
def A1(h:p:=by exact λh=>(by cases h)):=h
def re(h:let x:=x;let y:=y;p:=by intro x y;exact zV (i:=x) y):=h
def v7(h:let x:=x;p:=by intro x;exact cB (d_ si) x):=h
def C7(h:let x:=x;let y:=y;let z:=z;let u:=u;let v:=v;let w:=w;let t:=t;p:=by intro x y z u v w t;exact cx x<|zh<|zi<|zg<|za<|cT 2<|aC<|sj (y _ z)▸rT u v ⟨w,_,_,rfl,t⟩):=h
def w8(h:p:=by simpa using this):=h
def A2(h:p:=by rw[ef];omega):=h
def F1(h:p:=by simp only[an]at this;simpa using this.1.1):=h
def G9(h:p:=by rw[ho];exact zD (by rw[Bi hT hs h0 h1,jE])):=h
def P6(h:p:=by rw[Ϙ ⟨by omega,by omega,by rw[dt,L,ec];omega⟩];simp only[Int.toNat_zero,List.drop_zero];rw[List.take_append_of_le_length om,fx om]):=h
def w9(h:let x:=x;let y:=y;let z:=z;p:=by intro x y z;exact bd.1 x y<|fg.2 z):=h
def y5(h:let y:=y;p:=by intro y;have:=y;omega):=h
def E4(h:let x:=x;p:=by intro x;rw[getD_replicate_false]at x;cases x):=h
def A3(h:p:=by exact⟨_,rfl,rfl⟩):=h
def A9(h:p:=by exact λh=>(by cases h)):=h
def u1(h:let x:=x;let y:=y;p:=by intro x y;exact x y<|zl kr):=h
def v8(h:p:=by congr 1;omega):=h
def K4(h:let x:=x;let z:=z;p:=by intro x z;exact zh<|zi<|zg<|zd<|za<|cr<|od 3<|oe<|zf (sj<|x _ a).symm ⟨_,_,S1,e,z,(zm _)⟩):=h
def x6(h:let x:=x;p:=by intro x;simp at x):=h
def O8(h:p:=by simp only[bb];rw[show((k:Int)+1).toNat=k+1 by omega,fu,n,bq,MI λj G D x=>by rw[hlow j G D x];rfl];simp[hq]):=h
def H0(h:p:=by rw[he];injection hT with hT;subst hT;rfl):=h
def O1(h:p:=by rw[bz.2 (λi _=>by rw[getD_replicate_false];rfl)];simp):=h
def E8(h:p:=by exact jG (a:=⟨g,0,none⟩) om):=h
def y7(h:let x:=x;p:=by intro x;exact x.at.part 0 1):=h
def A8(h:let x:=x;p:=by intro x;rw[dy];exact x):=h
def B1(h:p:=by exact λ_ _=>trivial):=h
def D9(h:let x:=x;p:=by intro x;exact λh0=>(by rw[h0]at x;cases x)):=h
def F4(h:let x:=x;let y:=y;let z:=z;p:=by intro x y z;exact cr<|od 3<|S5 a ⟨_,_,S1,x,y,(zm _),z⟩):=h
def T8(h:p:=by rw[ho];exact zD<|IP hi (gc hs) C a (if pub=true then l.length*t.size else 0) τ):=h
def M6(h:p:=by have:=h.1.1;simpa[Nat.blt,gh]using this):=h
def H5(h:let x:=x;let y:=y;let z:=z;let u:=u;p:=by intro x y z u;exact sj a▸rt [.tmp x,.tmp y] z ⟨kr,kr,xO⟩ (⟨e,rfl,u⟩)):=h
def I8(h:p:=by exact λC a=>by rw[ho];exact zD<|uA hT hs hv):=h
def I6(h:p:=by exact ⟨h.lt,h.fr,h.tag,h.ge⟩):=h
def C2(h:let x:=x;p:=by intro x;have:=zz x;omega):=h
def I7(h:p:=by exact λC a=>by rw[ho];exact zD<|nN hT hv):=h
def H9(h:p:=by simp at f;exact⟨rfl,f.symm⟩):=h
def D5(h:p:=by simp[K.setO]):=h
def N0(h:p:=by unfold Addr.add;split<;>simp_all):=h
def C0(h:let x:=x;let y:=y;p:=by intro x y;exact aG<|cT x<|aC<|ϊ a y):=h
def F9(h:p:=by exact λg B=>.inl (by simp[B])):=h
def y8(h:let x:=x;p:=by intro x;exact x.own<|gd _):=h
def C8(h:p:=by exact λh=>by cases h):=h
def E5(h:p:=by unfold aA;omega):=h
def T9(h:p:=by exact IN (P:=P) (T:=T) (pub:=pub) (k1:=k1) (k2:=k2) hT hz hzo hx hτ C b):=h
def C4(h:p:=by simp at this;omega):=h
def B7(h:let x:=x;p:=by intro x;rw[ed];exact x):=h
def K5(h:p:=by rw[Array.getElem?_push_lt a];simp[a]):=h
def R5(h:p:=by exact⟨a.defers,v,by rw[Hu a];exact m C j,v,g',j,rfl,rfl,l⟩):=h
def L6(h:p:=by unfold kQ;rw[zO so so];rfl):=h
def D7(h:p:=by exact b.at.part 0 4):=h
def V5(h:p:=by exact⟨c.1.trans a.1,c.2.1.trans a.2.1,c.2.2.trans a.2.2⟩):=h
def U3(h:p:=by unfold km at hT;simp only[an,au]at hT;exact hT.1.2):=h
def R6(h:p:=by simp[stepG.apply,hr,G,Frame.at,c,GStep.after];rfl):=h
def X0(h:p:=by have:x=b:=(by simpa using a);rw[this];exact hb):=h
def L5(h:let x:=x;p:=by intro x;injection h with h;rw[←h];exact x):=h
def W9(h:p:=by injection h with h;exact⟨h0.1,h0.2.1,h0.2.2,h.symm⟩):=h
def P3(h:p:=by rw[fu,zZ om,fu,c,bq,List.take_set_of_le om,g6];simp[hq]):=h
def D6(h:p:=by exact h.step s si):=h
def R3(h:let x:=x;p:=by intro x;exact aC<|sj f▸rt [.cell 6 28] [_] ⟨a_ b,xO⟩ (⟨g,_,_,rfl,x.sl⟩)):=h
def L7(h:p:=by exact getD_replicate_false _ _):=h
def B6(h:let x:=x;p:=by intro x;exact λe=>x e.symm):=h
def N7(h:p:=by exact λg J=>.inl (by simp[J])):=h
def F6(h:p:=by exact ⟨_,h.step s⟩):=h
def V4(h:p:=by rw[ϙ];intro e;exact hm (by rw[ha,e];exact jG om)):=h
def T6(h:let x:=x;let y:=y;p:=by intro x y;exact zh<|zi<|zg<|zd<|za<|cr<|od 3<|oe<|zf (sj<|x _ a).symm ⟨_,_,S1,g,y,(zm _),b⟩):=h
def P2(h:p:=by unfold js;rw[Ϙ ⟨by omega,by omega⟩]):=h
end
abbrev Ϙ:=@if_pos
abbrev ϙ:=@if_neg
abbrev Ϛ:=Bool
abbrev ϛ:=@decide_eq_true_eq
abbrev Ϝ:=@decide_eq_false_iff_not
abbrev ϝ:=@List.mem_append_right
abbrev Ϟ:=@decide_true
abbrev ϟ:=@if_false
abbrev Ϡ:=@if_true
abbrev ϡ:=@decide_false
abbrev Ϣ:=@decide_eq_false
abbrev ϣ:=@Nat.lt_of_le_of_lt
abbrev Ϥ:=@decide_eq_true
abbrev ϥ:=@List.length_pos_iff
abbrev Ϧ:=@Nat.zero_le
abbrev ϧ:=@Nat.le_of_lt
abbrev Ϩ:=@Nat.add_zero
abbrev ϩ:=@Array.getElem?_eq_none
abbrev Ϫ:=@of_decide_eq_true
abbrev ϫ:=@List.getElem?_set
abbrev Ϭ:=@List.length_zip
abbrev ϭ:=@List.mem_flatMap
abbrev Ϯ:=@Int.add_zero
abbrev ϯ:=@of_decide_eq_false
abbrev ϰ:=@List.cons_append
abbrev ϱ:=@beq_iff_eq
abbrev ϲ:=@Option.getD_none
abbrev ϳ:=@List.getD_eq_getElem?_getD
abbrev ϴ:=@Option.map_some
abbrev ϵ:=@Bool.not_false
abbrev Ϸ:=@Nat.lt_irrefl
abbrev ϸ:=@Nat.min_self
abbrev Ϲ:=@Int.lt_or_le
abbrev Ϻ:=@List.getElem?_zip_eq_some
abbrev ϻ:=@Nat.add_assoc
abbrev E7:=@Array.ext_getElem?
abbrev D2:=@Nat.sub_self
abbrev Em:=@Nat.ne_of_lt
abbrev Eo:=@Nat.add_comm
abbrev K6:=@List.mem_iff_getElem
abbrev Iw:=@List.filter_congr
abbrev K7:=@List.take_append_drop
abbrev I5:=@Nat.le_of_not_lt
abbrev Ow:=@List.not_mem_nil
abbrev A5:=@Option.some.inj
abbrev x4:=@absurd
abbrev xO:=@trivial
theorem om{p:Prop}(h:p:=by omega):p:=h
theorem so{p:Prop}(h:p:=by simp;omega):p:=h
theorem si{p:Prop}(h:p:=by simp):p:=h
abbrev ab:=@Array.getElem?_append
abbrev ac:=@Array.getElem?_eq_getElem
abbrev ae:=@Array.getElem?_eq_some_iff
abbrev af:=@Array.getElem?_modify
abbrev ag:=@Array.getElem?_setIfInBounds_ne
abbrev ai:=@Array.getElem?_setIfInBounds_self_of_lt
abbrev aj:=@Array.getElem?_toList
abbrev am:=@Array.length_toList
abbrev an:=@Bool.and_eq_true
abbrev ao:=@Bool.eq_iff_iff
abbrev aq:=@Bool.false_eq_true
abbrev au:=@Bool.not_eq_true'
abbrev av:=@Bool.not_true
abbrev aw:=@Go.Result.andThen_ok
abbrev ax:=@Go.Sem.run_bind
abbrev az:=@Go.Sem.run_pure
abbrev ba:=@Int.eq_ofNat_of_zero_le
abbrev bb:=@Int.toNat_natCast
abbrev bc:=@Int.toNat_of_nonneg
abbrev bd:=@List.all_eq_true
abbrev be:=@List.any_eq_true
abbrev bf:=@List.append_assoc
abbrev bg:=@List.append_nil
abbrev bh:=@List.contains_iff_mem
abbrev bi:=@List.drop_eq_getElem_cons
abbrev bj:=@List.eq_nil_iff_forall_not_mem
abbrev bl:=@List.eq_nil_of_length_eq_zero
abbrev bp:=@List.ext_getElem?
abbrev bq:=@List.filter_append
abbrev br:=@List.filter_cons_of_neg
abbrev bu:=@List.filter_cons_of_pos
abbrev bz:=@List.filter_eq_self
abbrev ca:=@List.flatMap_append
abbrev ce:=@List.flatMap_cons
abbrev cg:=@List.foldl_cons
abbrev ci:=@List.getElem?_append_left
abbrev cj:=@List.getElem?_append_right
abbrev cm:=@List.getElem?_drop
abbrev cn:=@List.getElem?_eq_getElem
abbrev co:=@List.getElem?_eq_none
abbrev cv:=@List.getElem?_eq_some_iff
abbrev cw:=@List.getElem?_map
abbrev cz:=@List.getElem?_of_mem
abbrev df:=@List.getElem?_range
abbrev dg:=@List.getElem?_replicate
abbrev dh:=@List.getElem?_set_ne
abbrev dj:=@List.getElem?_set_self
abbrev dl:=@List.getElem?_take
abbrev dm:=@List.getElem_mem
abbrev dt:=@List.length_append
abbrev du:=@List.length_cons
abbrev dv:=@List.length_drop
abbrev dx:=@List.length_filter_le
abbrev dy:=@List.length_map
abbrev dz:=@List.length_nil
abbrev ec:=@List.length_replicate
abbrev ed:=@List.length_set
abbrev ee:=@List.length_singleton
abbrev ef:=@List.length_take
abbrev eh:=@List.map_append
abbrev ek:=@List.map_congr_left
abbrev ep:=@List.map_cons
abbrev er:=@List.mem_append
abbrev eu:=@List.mem_append_left
abbrev ey:=@List.mem_cons
abbrev fa:=@List.mem_filter
abbrev fc:=@List.mem_map
abbrev fd:=@List.mem_of_find?_eq_some
abbrev fe:=@List.mem_of_getElem?
abbrev fg:=@List.mem_range
abbrev fh:=@List.mem_singleton
abbrev fi:=@List.nil_append
abbrev fj:=@List.nodup_append
abbrev fm:=@List.pairwise_cons
abbrev fo:=@List.pairwise_iff_getElem
abbrev fp:=@List.range_succ
abbrev fq:=@List.size_toArray
abbrev fu:=@List.take_add_one
abbrev fv:=@List.take_length
abbrev fx:=@List.take_of_length_le
abbrev fz:=@Nat.add_mul
abbrev ga:=@Nat.eq_of_beq_eq_true
abbrev gc:=@Nat.le_of_ble_eq_true
abbrev gd:=@Nat.le_refl
abbrev gg:=@Nat.le_trans
abbrev gh:=@Nat.lt_iff_add_one_le
abbrev gi:=@Nat.lt_of_lt_of_le
abbrev gj:=@Nat.lt_or_ge
abbrev gk:=@Nat.lt_or_gt_of_ne
abbrev gm:=@Nat.lt_trichotomy
abbrev gq:=@Nat.mul_le_mul_right
abbrev gu:=@Nat.succ_mul
abbrev gv:=@Nat.zero_add
abbrev gx:=@Option.bind_eq_some_iff
theorem gy{b c:Type}:(∀(a:b)(f:b->Option c),(some a>>=f)=f a)/\∀(a:b)(f:b->Option c),(some a).bind f=f a:=⟨λ_ _=>rfl,λ_ _=>rfl⟩
abbrev gz:=@Option.getD_some
abbrev ia:=@Option.map_eq_some_iff
class Fc where
 rd:Option Nat
 ds:List Deferred
instance CH:Fc:=⟨none,[]⟩
class Fb where
 lo:Nat->Bool
 b0:Nat
 h0:lo b0=true
instance fb0:Fb:=⟨λn=>Nat.beq n 0,0,rfl⟩
def FF[Fc]:Fence:={Fence.wide with round:=Fc.rd}
def QJ[Fc]{args:Array Value}{R:Ending->World->Prop}{n P f w}(h:Calls P f args w R):CallsIn FF n P f args w R:=(callsIn_wide (n:=n)).2 h
def BJ{ρ:Operand->Value}{o:Oper}{ro P w w' nx}(h:(execOp ρ o).run P w=.ok nx w')(hn:∀d,nx≠.defer d):
  (o.semAt ro ρ).run P w=.ok nx w':=by
 rw[Oper.semAt_eq _ _ _ (λc a=>?_)]
 ·exact h
 ·unfold execOp at h;rw[a]at h;simp only[ax]at h;cases hr:(resolve ρ c o.type).run P w with
  | ok d w1=>rw[hr]at h;simp[Result.andThen]at h;exact hn d h.1.symm
  | halt x w1=>rw[hr]at h;simp[Result.andThen]at h
def Jd{p:Nat->Prop}(h:∃m,p m):∃m,p m/\∀k,p k->m<=k:=by
 classical
 obtain⟨m,hm⟩:=h
 induction m using Nat.strongRecOn with
 | _ m ih=>
  by_cases a:∃k,k<m/\p k
  ·obtain⟨k,c,hp⟩:=a;exact ih k c hp
  ·exact⟨m,hm,λk hp=>I5 λb=>a ⟨k,b,hp⟩⟩
section
variable [Fc] {P:Program} {o:Oper} {a:Act} {w w':World} {K:Act->World->Prop} {Q:Exit->Act->World->Prop}
def kl{v}(h:(execOp a.eval o).run P w=.ok (.value v) w')(hk:K (a.put o.dst v) w'):o.wpIn FF 0 P a w K Q:=by
 unfold Oper.wpIn;rw[BJ h (λ_ e=>by cases e)];exact⟨B1,hk⟩
def BM(h:(execOp a.eval o).run P w=.ok .skip w')(hk:K (a.put o.dst undef) w'):o.wpIn FF 0 P a w K Q:=by
 unfold Oper.wpIn;rw[BJ h (λ_ e=>by cases e)];exact⟨B1,hk⟩
def Bw{args:Array Value}{f}(h:(execOp a.eval o).run P w=.ok (.enter f args) w')(hk:Calls P f args w' λ| .returned v,w''=>K (a.put o.dst v) w'' | .panicked chain,w''=>Q (.panic chain) a w'' | .outgrown,_=>LetsOut Q):o.wpIn FF 0 P a w K Q:=by
 unfold Oper.wpIn;rw[BJ h (λ_ e=>by cases e)];refine⟨B1,λb=>?_,QJ (n:=0) hk⟩;simp[FF,Fence.wide]at b
def yY{F:Fence}{ops:Array Oper}{Q':Exit->Act->World->Prop}{n md}:∀(l:List Oper)k(listed:Array Bool)a w,(∀j,l[j]?=ops[k+j]?)->
  Region.seqB md ops l.length k listed=true->wpListIn F n P ops Q' l a w->wpAnyIn F n P md ops Q' l.length listed a w
 |[],_,_,_,_,_,hB,h=>⟨by simpa[Region.seqB]using hB,h⟩
 | o::l,k,listed,a,w,hl,hB,h=>by
  have f:ops[k]?=some o:=by simpa using(hl 0).symm
  simp only[du,Region.seqB,an,ϛ]at hB;refine⟨λc=>(by rw[hB.1]at c;cases c),λi hi=>?_⟩;rw[hB.1]at hi;have b:i=k:=by simpa using hi
  subst b;have d:wpOpIn F n P ops Q' i (wpListIn F n P ops Q' l) a w:=by unfold wpOpIn;simp only[f];exact h
  exact wpOpIn_mono (λa' w' h'=>yY l (i+1) _ a' w' (λj=>by have:=hl (j+1);simpa[ϻ,Eo 1 j]using this) hB.2 h') d
def zxe{F:Fence}{x:Code}{Q:Exit->Act->World->Prop}{n a w}(I:Act->World->Nat->Prop)m(h0:I a w m)(round:∀m a w,I a w m->x.wpIn F n P (λe a' w'=>match e with
   | .normal=>∃d,d<m/\I a' w' d
   | e=>Q e a' w') a w):(Code.loop x).wpIn F n P Q a w:=by
 obtain⟨J,f⟩:∃J:Act->World->Prop,J=λa w=>∃m,I a w m:=u3;obtain⟨μ,i⟩:∃μ:Act->World->Nat,∀a w m,I a w m->μ a w<=m/\I a w (μ a w):=by
  classical
  refine⟨λa w=>if h:∃m,I a w m then Classical.choose (Jd h)else 0,λa w m h=>?_⟩;have b:∃m,I a w m:=⟨m,h⟩;simp only[b,dif_pos];have hs:=Classical.choose_spec<|Jd b;exact⟨hs.2 m h,hs.1⟩
 refine wpIn_loop J μ (by rw[f];exact⟨m,h0⟩) ?_;intro a w j;rw[f]at j;obtain⟨m,hm⟩:=j;refine wpIn_mono (round _ a w (i a w m hm).2) ?_;intro e a' w' k;cases e with
 | normal=>obtain⟨d,hlt,c⟩:=k;exact⟨by rw[f];exact⟨d,c⟩,ϣ (i a' w' d c).1 hlt⟩
 | _=>exact k
end
structure K where
 H:Array Obj
 fr:Nat->Nat
 tag:Nat->Nat×Nat
structure Cx[Fb] where
 os:Os
 tape:Nat->Question->Nat
 output:Array (Nat×ByteArray)
 base:Nat
 hb:Fb.lo base=true
def W[Fb](C:Cx)(a:K)(d:Nat):World:={heap:=a.H,tape:=C.tape,drawn:=C.base+d,os:=C.os,output:=C.output}
def K.cell(a:K)(b o:Nat):Option Value:=
 match a.H[b]? with
 | some (.cells c _ _)=>c[o]?
 | _=>none
def K.shp(a:K)(b:Nat):Option (TypeId×Nat×(Nat×Nat)):=
 match a.H[b]? with
 | some (.cells c T k)=>some (T,c.size,k)
 | _=>none
def Step(M:List Nat)(a a':K):Prop:=a.H.size<=a'.H.size/\(∀b,b<a.H.size->b∉M->a'.H[b]?=a.H[b]?/\a'.fr b=a.fr b/\a'.tag b=a.tag b)/\
 (∀b,b<a.H.size->a.fr b<=a'.fr b/\∀o,o<a.fr b->a'.cell b o=a.cell b o)/\
 (∀b,b<a.H.size->0<a.fr b->a'.tag b=a.tag b/\a'.shp b=a.shp b)
def Step.refl M a:Step M a a:=⟨gd _,λ_ _ _=>⟨rfl,rfl,rfl⟩,λ_ _=>⟨gd _,λ_ _=>rfl⟩,λ_ _ _=>⟨rfl,rfl⟩⟩
def Step.mono{M M' e e'}(h:Step M e e')(hm:∀b,b∈M->b∈M'):Step M' e e':=⟨h.1,λb d c=>h.2.1 b d (λa=>c<|hm b a),h.2.2⟩
def Step.trans{M e e' e''}(h:Step M e e')(h':Step M e' e''):Step M e e'':=by
 refine⟨gg h.1 h'.1,λb d j=>?_,λb d=>?_,λb d f=>?_⟩
 ·have a:=h.2.1 b d j;have c:=h'.2.1 b (gi d h.1) j;exact V5
 ·have a:=h.2.2.1 b d;have c:=h'.2.2.1 b<|gi d h.1;exact⟨gg a.1 c.1,λo i=>(c.2 o<|gi i a.1).trans<|a.2 o i⟩
 ·have a:=h.2.2.2 b d f;have c:=h'.2.2.2 b (gi d h.1)<|gi f (h.2.2.1 b d).1;exact⟨c.1.trans a.1,c.2.trans a.2⟩
def Step.nil{M b b'}(h:Step [] b b'):Step M b b':=h.mono (λ_ a=>by cases a)
def Fn[Fb](P:Program)(f:FuncId)(args:Array Value)(a:K)(R:Value->K->Prop):Prop:=∀C d,Calls P f args (W C a d) λe w'=>∃v a' d',e=.returned v/\w'=W C a' d'/\R v a'
def Fn.mono[Fb]{args:Array Value}{R R':Value->K->Prop}{P f a}(h:Fn P f args a R)(hr:∀v a',R v a'->R' v a'):
  Fn P f args a R':=λC d=>(h C d).mono λ_ _ ⟨v,a',d',he,hw,hR⟩=>⟨v,a',d',he,hw,hr v a' hR⟩
abbrev aK:=Nat->Value
def aR(E:aK)(t:Nat)(v:Value):aK:=λs=>bif Nat.beq s t then v else E s
def Pc{E:aK}{t v}(h:E t=v):E=aR E t v:=by
 funext s;unfold aR;cases hs:Nat.beq s t with
 | false=>rfl
 | true=>have:=ga hs;subst this;exact h
def ev(E:aK):Operand->Value
 | .tmp t=>E t
 | .const v=>v
 | .global g=>.pointer (some ⟨g,0,none⟩)
 | .func f=>.func (.func f) #[] #[]
structure Fits[Fc](n:Nat)(a:Act)(E:aK):Prop where
 size:a.tmps.size=n
 defers:a.defers=Fc.ds
 tmps:∀t,a.tmps.getD t undef=E t
def Fits.eval[Fc][Fb]{a:Act}{n E}(h:Fits n a E):a.eval=ev E:=by
 funext x;cases x with
 | tmp t=>exact h.tmps t
 | _=>rfl
def Fits.put[Fc][Fb]{a:Act}{n d E}(h:Fits n a E)(hd:d<n)v:Fits n (a.put (some d) v) (aR E d v):=by
 refine⟨by simpa[Act.put]using h.size,h.defers,λt=>?_⟩;unfold aR;cases hs:Nat.beq t d with
 | true=>
  have:=ga hs;subst this;have c:t<a.tmps.size:=by rw[h.size];exact hd
  simp[Act.put,c]
 | false=>
  have b:d≠t:=λe=>by subst e;simp at hs
  have:=h.tmps t;simp only[Act.put,cond_false];rw[←this];simp[ag b]
abbrev bH:=Exit->aK->K->Prop
def cQ[Fc][Fb](n:Nat)(C:Cx)(Q:bH):Exit->Act->World->Prop:=λe a w=>∃E b d,Fits n a E/\w=W C b d/\Q e E b
def Ry[Fc][Fb]{Q Q':bH}{n C}(h:∀e E b,Q e E b->Q' e E b):∀e a w,cQ n C Q e a w->cQ n C Q' e a w:=λ_ _ _ ⟨E,b,d,hf,hw,hq⟩=>⟨E,b,d,hf,hw,h _ _ _ hq⟩
def aO[Fc][Fb](P:Program)(n:Nat)(c:Code)(Q:bH)(E:aK)(b:K):Prop:=∀C d a,Fits n a E->c.wpIn FF 0 P (cQ n C Q) a (W C b d)
def Tr[Fc][Fb]{Q Q':bH}{P n c E f}(h:aO P n c Q E f)(hq:∀e E f,Q e E f->Q' e E f):aO P n c Q' E f:=λC d a b=>wpIn_mono (h C d a b)<|Ry hq
def eJ(i:Nat):Code->Code
 | .seq a b=>if i=0 then a else b
 | .cond _ a b=>if i=0 then a else b
 | .block _ b=>b
 | .loop b=>b
 | .scope b=>b
 | .rangeFunc _ _ a b=>if i=0 then a else b
 | c=>c
def sub(c:Code):List Nat->Code
 |[]=>c
 | i::p=>eJ i (sub c p)
def zu(f:Func):Code:=f.body.getD .skip
def iL:Code->Bool
 | .seq _ _=>true
 | _=>false
def Cp:Code->Bool
 | .skip=>true
 | _=>false
def De:Code->Bool
 | .ret=>true
 | _=>false
def vG:Code->Bool
 | .loop _=>true
 | _=>false
def oa:Code->Bool
 | .cond _ _ _=>true
 | _=>false
def qZ:Code->Operand
 | .cond o _ _=>o
 | _=>.func 0
def vk:Code->Option Nat
 | .block id _=>some id
 | _=>none
def CR:Code->Option Nat
 | .exit id=>some id
 | _=>none
def eF:Code->Option Bool
 | .region _ _ d=>some d
 | _=>none
def opsOf:Code->Array Oper
 | .region _ ops _=>ops
 | _=>#[]
section rules
variable [Fc] [Fb] {P:Program} {n:Nat} {c:Code} {Q:bH} {E:aK} {g:K} {p:List Nat}
def im[Fb](P:Program)(n:Nat)(c:Code)(Q:bH):bH:=λe E g=>
 match e with
 | .normal=>aO P n c Q E g
 | e=>Q e E g
def Ie(h:iL (sub c p)=true)(hx:aO P n (sub c (0::p)) (im P n (sub c (1::p)) Q) E g):aO P n (sub c p) Q E g:=by
 have j:sub c (0::p)=eJ 0 (sub c p):=rfl;have l:sub c (1::p)=eJ 1 (sub c p):=rfl;rw[j,l]at hx;clear j l;generalize sub c p=s at *;cases s<;>simp[iL]at h;rename_i x y;intro C d a m;have f:aO P n x (im P n y Q) E g:=hx;refine wpIn_seq<|wpIn_mono (f C d a m) ?_;rintro e a' w' ⟨r,g',k,b,rfl,i⟩;cases e with
 | normal=>exact i C k a' b
 | _=>exact⟨r,g',k,b,rfl,i⟩
def HS(h:Cp (sub c p)=true)(hq:Q .normal E g):aO P n (sub c p) Q E g:=by
 generalize sub c p=s at *;cases s<;>simp[Cp]at h;intro C d a b;exact wpIn_skip ⟨E,g,d,b,rfl,hq⟩
def Ul(h:De (sub c p)=true)(hq:Q .ret E g):aO P n (sub c p) Q E g:=by
 generalize sub c p=s at *;cases s<;>simp[De]at h;intro C d a b;exact wpIn_ret ⟨E,g,d,b,rfl,hq⟩
def Ts{id}(h:CR (sub c p)=some id)(hq:Q (.exit id) E g):aO P n (sub c p) Q E g:=by
 generalize sub c p=s at *;cases s<;>simp[CR]at h;subst h;intro C d a b;exact wpIn_exit ⟨E,g,d,b,rfl,hq⟩
def GJ b(h:oa (sub c p)=true)(hb:ev E (qZ (sub c p))=.bool b)(ht:b=true->aO P n (sub c (0::p)) Q E g)(he:b=false->aO P n (sub c (1::p)) Q E g):aO P n (sub c p) Q E g:=by
 have k:sub c (0::p)=eJ 0 (sub c p):=rfl;have j:sub c (1::p)=eJ 1 (sub c p):=rfl;rw[k]at ht;rw[j]at he;clear k j;generalize sub c p=s at *;cases s<;>simp[oa]at h;rename_i o x y;intro C d a i;have f:a.eval o=.bool b:=by rw[i.eval];exact hb
 cases b with
 | true=>exact wpIn_cond f<|(ht rfl) C d a i
 | false=>exact wpIn_cond f<|(he rfl) C d a i
def kj(id:Nat)(Q:bH):bH:=λe E g=>
 match e with
 | .exit id'=>if id'=id then Q .normal E g else Q (.exit id') E g
 | e=>Q e E g
def Q_{id}(h:vk (sub c p)=some id)(hx:aO P n (sub c (0::p)) (kj id Q) E g):aO P n (sub c p) Q E g:=by
 have m:sub c (0::p)=eJ 0 (sub c p):=rfl;rw[m]at hx;clear m;generalize sub c p=s at *;cases s<;>simp[vk]at h;rename_i id' x;subst h;intro C d a r;have j:aO P n x (kj id' Q) E g:=hx;refine wpIn_block<|wpIn_mono (j C d a r) ?_;rintro e a' w' ⟨k,g',l,b,rfl,f⟩;cases e with
 | exit i=>
  simp only[Exit.inBlock];simp only[kj]at f;split
  ·rename_i hi;rw[Ϙ hi]at f;exact⟨k,g',l,b,rfl,f⟩
  ·rename_i hi;rw[ϙ hi]at f;exact⟨k,g',l,b,rfl,f⟩
 | _=>exact⟨k,g',l,b,rfl,f⟩
def qD(I:Nat->aK->K->Prop)(h:vG (sub c p)=true)m(h0:I m E g)(round:∀m E g,I m E g->aO P n (sub c (0::p)) (λe i g'=>match e with
   | .normal=>∃l,l<m/\I l i g'
   | e=>Q e i g') E g):aO P n (sub c p) Q E g:=by
 have v:sub c (0::p)=eJ 0 (sub c p):=rfl;rw[v]at round;clear v;generalize sub c p=s at *;cases s<;>simp[vG]at h;rename_i x;intro C d a r;obtain⟨f,b⟩:∃f:Act->World->Nat->Prop,f=λa w m=>∃E g d,Fits n a E/\w=W C g d/\I m E g:=u3;refine zxe f m (by rw[b];exact⟨E,g,d,r,rfl,h0⟩) ?_;intro m a w k;rw[b]at k;obtain⟨E,g,d,r,rfl,k⟩:=k;refine wpIn_mono (round m E g k C d a r) ?_;rintro e a' w' ⟨i,g',z,j,rfl,y⟩;cases e with
 | normal=>obtain⟨l,hlt,u⟩:=y;rw[b];exact⟨l,hlt,i,g',z,j,rfl,u⟩
 | _=>exact⟨i,g',z,j,rfl,y⟩
end rules
def OB[Fc][Fb]{f f':K}{P n c Q E}(h:f'.H=f.H)(hk:aO P n c Q E f'):aO P n c Q E f:=by
 intro C d a b;have e:W C f d=W C f' d:=by unfold W;rw[h]
 rw[e];exact hk C d a b
def oX(fn:Func)(E:aK):Sem Value:=do
 let vs ←fn.results.mapM fun
  | .tmp t=>pure (E t)
  | .cell a t=>do loadVar t (←asAddr (E a))
 pure (if h:vs.size=1 then vs[0]else .tuple vs)
def Hu[Fc][Fb]{a:Act}{n E}(h:Fits n a E)(fn:Func):results fn a.tmps=oX fn E:=by
 unfold results oX;simp only[h.tmps];congr 1
def ll[Fb](P:Program)(fn:Func)(R:Value->K->Prop):bH:=λe E a=>
 match e with
 | .normal | .ret=>∃v,(∀C d,(oX fn E).run P (W C a d)=.ok v (W C a d))/\R v a
 | _=>False
def oo(args:Array Value):aK:=λt=>args.getD t undef
def RJ[Fb]{P:Program}{fn:Func}{args:Array Value}{R:Value->K->Prop}{f c n g}(hf:P.funcs[f]?=some fn)(hb:fn.body=some c)(hn:fn.ntmps=n)(ha:args.size<=n)(h:aO P n c (ll P fn R) (oo args) g):Fn P f args g R:=by
 intro C d;have b:Fits n {tmps:=args++Array.replicate (fn.ntmps - args.size) undef,defers:=[]} (oo args):=by
  refine⟨by simp[hn];omega,rfl,λt=>?_⟩;unfold oo;by_cases r:t<args.size
  ·simp[ab,r]
  ·by_cases i:t - args.size<fn.ntmps - args.size
   ·simp[ab,r,i]
   ·simp[ab,r,i]
 refine calls_of_wp hf hb<|wp_mono (wpIn_wide.1<|h C d _ b) ?_;rintro e a' w' ⟨u,g',j,a,rfl,k⟩;cases e with
 | normal=>
  obtain⟨v,m,l⟩:=k;exact R5
 | ret=>
  obtain⟨v,m,l⟩:=k;exact R5
 | _=>exact k.elim
def zv(c:Code)(i:Nat):Oper:=((opsOf c)[i]?).getD default
def dstOf(c:Code)(i:Nat):Nat:=((zv c i).dst).getD 0
def bV(c:Code)(i:Nat)(E:aK):Bool:=
 match(zv c i).guard with
 | none=>true
 | some (j,w)=>
  match((opsOf c)[j]?).bind (·.dst)with
  | some t=>match E t with
   | .bool b=>b == w
   | _=>false
  | none=>false
def st(c:Code)(i n:Nat)(E:aK)(d:Option Nat):Bool:=decide (i<(opsOf c).size)&&bV c i E&&((zv c i).dst == d)&&d.all (λt=>decide (t<n))
def sk(c:Code)(i n:Nat)(E:aK)(d:Nat):Bool:=decide (i<(opsOf c).size)&&!bV c i E&&((zv c i).dst == some d)&&decide (d<n)
def iY[Fc][Fb]{a:Act}{n E}(h:Fits n a E)c i:
  Region.wanted (zv c i) (yielded (opsOf c) a.tmps)=bV c i E:=by
 unfold Region.wanted bV yielded;cases hg:(zv c i).guard with
 | none=>rfl
 | some g=>
  obtain⟨j,w⟩:=g;simp only[];cases hd:((opsOf c)[j]?).bind (·.dst)with
  | none=>simp
  | some t=>
   simp only[gy];have b:=h.tmps t;by_cases hs:t<a.tmps.size
   ·have:a.tmps[t]?=some (E t):=by
     rw[←b];simp[hs]
    rw[this];cases E t<;>simp
   ·have d:a.tmps[t]?=none:=ϩ<|I5 hs;have f:E t=undef:=by rw[←b];simp[hs]
    rw[d,f];rfl
def ja{c i}(h:i<(opsOf c).size):(opsOf c)[i]?=some (zv c i):=by
 unfold zv;simp[h]
def aS[Fc][Fb](P:Program)(n:Nat)(c:Code)(i:Nat)(Q:bH)(E:aK)(b:K):Prop:=∀C d a,Fits n a E->wpOpsIn FF 0 P (opsOf c) (cQ n C Q) (List.range' i<|(opsOf c).size - i) a (W C b d)
section
variable [Fc] [Fb] {P:Program} {n:Nat} {c:Code} {i:Nat} {Q:bH} {E:aK} {κ:K}
def F_{c0 p}(h:eF (sub c0 p)=some false)(hx:aS P n (sub c0 p) 0 Q E κ):aO P n (sub c0 p) Q E κ:=by
 generalize sub c0 p=s at *;cases s<;>simp[eF]at h;subst h;intro C d a b;refine wpIn_region ?_;have:=hx C d a b;simpa[List.range_eq_range',opsOf]using this
def uL{i m}(h:i<m):List.range' i (m - i)=i::List.range' (i+1) (m - (i+1)):=by
 have:m - i=(m - (i+1))+1:=by omega
 rw[this,List.range'_succ]
def vg(h:decide ((opsOf c).size<=i)=true)(hq:Q .normal E κ):aS P n c i Q E κ:=by
 intro C d a b;have h':(opsOf c).size - i=0:=by have:=Ϫ h;omega
 rw[h'];exact⟨E,κ,d,b,rfl,hq⟩
def jb{d}(h:st c i n E d=true):i<(opsOf c).size/\bV c i E=true/\(zv c i).dst=d/\∀t,d=some t->t<n:=by
 unfold st at h;simp only[an,ϛ,ϱ]at h;refine⟨h.1.1.1,h.1.1.2,h.1.2,λt a=>?_⟩;subst a;simpa using h.2
def mo{d}(h:st c i n E d=true)(hr:∀C b (a:Act),Fits n a E->
  (zv c i).wpIn FF 0 P a (W C κ b) (wpOpsIn FF 0 P (opsOf c) (cQ n C Q) (List.range' (i+1) ((opsOf c).size - (i+1)))) (cQ n C Q)):aS P n c i Q E κ:=by
 obtain⟨j,k,m,l⟩:=jb h;intro C b a f;rw[uL j,wpOpsIn];simp only[ja j];rw[iY f,k,Ϙ rfl];exact hr C b a f
def jc{d κ'}v(h:st c i n E (some d)=true)(hr:∀C b,(execOp (ev E) (zv c i)).run P (W C κ b)=.ok (.value v) (W C κ' b))(hk:aS P n c (i+1) Q (aR E d v) κ'):aS P n c i Q E κ:=by
 refine mo h λC b a f=>?_;obtain⟨m,l,k,j⟩:=jb h;refine kl (by rw[f.eval];exact hr C b) ?_;rw[k];exact hk C b _<|f.put (j d rfl) v
def uY{d}v(h:st c i n E (some d)=true)(hr:∀w,(execOp (ev E) (zv c i)).run P w=.ok (.value v) w)(hk:aS P n c (i+1) Q (aR E d v) κ):aS P n c i Q E κ:=jc v h (λ_ _=>hr _) hk
def jF{d}(R:Value->K->Prop)(h:st c i n E (some d)=true)(hr:∀C b,∃v κ' d1,(execOp (ev E) (zv c i)).run P (W C κ b)=.ok (.value v) (W C κ' d1)/\R v κ')(hk:∀v κ',R v κ'->aS P n c (i+1) Q (aR E d v) κ'):aS P n c i Q E κ:=by
 refine mo h λC b a j=>?_;obtain⟨u,r,m,k⟩:=jb h;obtain⟨v,κ',d1,f,l⟩:=hr C b;refine kl (by rw[j.eval];exact f) ?_;rw[m];exact hk v κ' l C d1 _<|j.put (k d rfl) v
def IU{κ'}(h:st c i n E none=true)(hr:∀C b,(execOp (ev E) (zv c i)).run P (W C κ b)=.ok .skip (W C κ' b))(hk:aS P n c (i+1) Q E κ'):aS P n c i Q E κ:=by
 refine mo h λC b a d=>?_;obtain⟨l,j,f,k⟩:=jb h;refine BM (by rw[d.eval];exact hr C b) ?_;rw[f];exact hk C b _ d
def kZ{κ':K}(h:κ'.H=κ.H)(hk:aS P n c i Q E κ'):aS P n c i Q E κ:=by
 intro C d a b;have e:W C κ d=W C κ' d:=by unfold W;rw[h]
 rw[e];exact hk C d a b
def cU{F}(h:E=F)(hk:aS P n c i Q F κ):aS P n c i Q E κ:=by rw[h];exact hk
def Su{args:Array Value}{R:Value->K->Prop}{d f}(h:st c i n E (some d)=true)(hr:∀w,(execOp (ev E) (zv c i)).run P w=.ok (.enter f args) w)(hf:Fn P f args κ R)(hk:∀v κ',R v κ'->aS P n c (i+1) Q (aR E d v) κ'):aS P n c i Q E κ:=by
 refine mo h λC j a b=>?_;obtain⟨x,u,r,k⟩:=jb h;refine Bw (by rw[b.eval];exact hr _) ?_;refine(hf C j).mono ?_;rintro e w' ⟨v,κ',m,rfl,rfl,l⟩;simp only[r];exact hk v κ' l C m _<|b.put (k d rfl) v
def St{d}(h:sk c i n E d=true)(hk:aS P n c (i+1) Q (aR E d undef) κ):aS P n c i Q E κ:=by
 unfold sk at h;simp only[an,ϛ,ϱ,au]at h;obtain⟨⟨⟨f,k⟩,m⟩,l⟩:=h;intro C j a b;rw[uL f,wpOpsIn];simp only[ja f];rw[iY b,k,ϙ si,m];exact⟨B1,hk C j _<|b.put l undef⟩
end
def Jp(P:Program)(bJ:K->K->Prop)[Fb](C:Cx)(a:K)(R:Value->K->Prop):Result Next->Prop
 | .ok (.value v) w'=>∃a' d',w'=W C a' d'/\bJ a a'/\R v a'
 | .ok (.enter f args) w'=>∃a' d',w'=W C a' d'/\bJ a a'/\Fn P f args a' (λv a''=>bJ a' a''/\R v a'')
 | _=>False
def bP[Fb](P:Program)(bJ:K->K->Prop)(c:Code)(i:Nat)(E:aK)(a:K)(R:Value->K->Prop):Prop:=(bV c i E=true->∀C d,Jp P bJ C a R<|(execOp (ev E)<|zv c i).run P<|W C a d)/\(bV c i E=false->R undef a)
def Dk(c:Code):Bool:=(List.range (opsOf c).size).all λi=>(zv c i).after.all λe=>!Region.binds .any e||decide (e.on<i)
def cP(c:Code)(i j:Nat):Bool:=(zv c i).after.any λe=>Region.binds .any e&&e.on == j
def Dj(c:Code)(n k:Nat):Bool:=(List.range k).all λi=>((zv c i).dst == some (dstOf c i))&&decide (dstOf c i<n)&&((List.range i).all λj=>dstOf c j != dstOf c i)
def hU(k m:Nat):Array Bool:=(Array.range m).map λi=>decide (i<k)
def kq(c:Code)(n k:Nat):Bool:=decide (k<=(opsOf c).size)&&Dk c&&Dj c n k &&
 (decide (k=(opsOf c).size)||(Region.sinkB .any (opsOf c) k&&Region.chainB .any (opsOf c) k)) &&
 Region.seqB .any (opsOf c) ((opsOf c).size - k) k (hU k (opsOf c).size)
def fW(listed:Array Bool)(k:Nat):Nat:=((List.range k).filter λi=>!listed.getD i false).length
def Cd{listed:Array Bool}{k i}(hi:i<k)(hs:i<listed.size)(hl:listed.getD i false=false):
  fW (listed.setIfInBounds i true) k+1=fW listed k:=by
 unfold fW
 induction k with
 | zero=>omega
 | succ k ih=>
  rw[fp,bq,bq,dt,dt];by_cases a:i=k
  ·subst a;have c:List.filter (λj=>!(listed.setIfInBounds i true).getD j false) (List.range i)=List.filter (λj=>!listed.getD j false) (List.range i):=by
    apply Iw;intro j d;have:i≠j:=by have:=fg.1 d;omega
    simp[ag this]
   rw[c];have b:(listed.setIfInBounds i true).getD i false=true:=by simp[hs]
   simp only[List.filter_cons,List.filter_nil,b,hl];simp
  ·have c:=ih om;have b:(listed.setIfInBounds i true).getD k false=listed.getD k false:=by
    simp[ag a]
   simp only[List.filter_cons,List.filter_nil,b];omega
def GR{listed:Array Bool}{k}(h:fW listed k=0):∀i,i<k->listed.getD i false=true:=by
 intro i hi;unfold fW at h;have h':=List.length_eq_zero_iff.1 h;rw[List.filter_eq_nil_iff]at h';have:=h' i<|fg.2 hi;exact w8
def GX{listed:Array Bool}{k m}(h:fW listed k=m+1):∃i,i<k/\listed.getD i false=false/\∀j,j<i->listed.getD j false=true:=by
 have l:∃i,i<k/\listed.getD i false=false:=by
  unfold fW at h;have f:(List.range k).filter (λi=>!listed.getD i false)≠[]:=by
   intro r;rw[r]at h;simp at h
  obtain⟨x,n⟩:=List.exists_mem_of_ne_nil _ f;rw[fa]at n;exact⟨x,fg.1 n.1,϶ n.2⟩
 have key:∀i,i<k->listed.getD i false=false->∃i,i<k/\listed.getD i false=false/\∀j,j<i->listed.getD j false=true:=by
  intro i
  induction i using Nat.strongRecOn with
  | _ i ih=>
   intro hi c;by_cases a:∀j,j<i->listed.getD j false=true
   ·exact⟨i,hi,c,a⟩
   ·have b:∃j,j<i/\listed.getD j false=false:=Classical.byContradiction λu=>
     a λj b=>by
      cases hb:listed.getD j false with
      | true=>rfl
      | false=>exact x4 ⟨j,b,hb⟩ u
    obtain⟨j,b,d⟩:=b;exact ih j b om d
 obtain⟨i,hi,c⟩:=l;exact key i hi c
section
variable [Fc] [Fb] {P:Program} {n:Nat} {c:Code} {Q:bH} {E:aK} {g:K} {k:Nat}
def Rl(i0 i:Nat)(A B:K->K->Prop):K->K->Prop:=bif Nat.beq i i0 then A else B
def Ji{A B:K->K->Prop}{i0 i}(h:∀g1 g2,B g1 g2->A g1 g2){g1 g2}(hr:Rl i0 i A B g1 g2):A g1 g2:=by
 unfold Rl at hr;cases hb:Nat.beq i i0 with
 | false=>rw[hb]at hr;exact h _ _ hr
 | true=>rw[hb]at hr;exact hr
def Jh{A B:K->K->Prop}{i0 i}(hne:i≠i0){g1 g2}(hr:Rl i0 i A B g1 g2):B g1 g2:=by
 unfold Rl at hr;cases hb:Nat.beq i i0 with
 | false=>rw[hb]at hr;exact hr
 | true=>exact x4 (ga hb) hne
def TP{A B:K->K->Prop}{i0 i j}(h:∀g1 g2,B g1 g2->A g1 g2)(hji:j≠i){g1 g2}(hr:Rl i0 i A B g1 g2):Rl i0 j B A g1 g2:=by
 unfold Rl;cases hb:Nat.beq j i0 with
 | false=>exact Ji h hr
 | true=>
  have:=ga hb;subst this;exact Jh (Ne.symm hji) hr
def TO{A B:K->K->Prop}{i0 i}(h:∀g1 g2,B g1 g2->A g1 g2)(rr:∀g,B g g){g}:Rl i0 i A B g g:=by
 unfold Rl;cases Nat.beq i i0 with
 | false=>exact rr g
 | true=>exact h _ _<|rr g
def Tz{A B:K->K->Prop}{i0 i}(ta:∀g1 g2 g3,A g1 g2->A g2 g3->A g1 g3)(tb:∀g1 g2 g3,B g1 g2->B g2 g3->B g1 g3){g1 g2 g3}(h:Rl i0 i A B g1 g2)(h':Rl i0 i A B g2 g3):Rl i0 i A B g1 g3:=by
 unfold Rl at *;cases hb:Nat.beq i i0 with
 | false=>rw[hb]at h h';exact tb _ _ _ h h'
 | true=>rw[hb]at h h';exact ta _ _ _ h h'
structure DInv(q0:Nat)(Rel0 Rel1:K->K->Prop)(n:Nat)(c:Code)(E:aK)(g:K)(k:Nat)(S:Nat->Value->K->Prop)(listed:Array Bool)(E':aK)(g':K):Prop where
 head:HeadInv .any (opsOf c) k listed
 step:Rel0 g g'
 pre:listed.getD q0 false=false->Rel1 g g'
 off:∀t,(∀j,j<k->t≠dstOf c j)->E' t=E t
 done:∀j,j<k->listed.getD j false=true->S j (E' (dstOf c j)) g'
def HT{c0 p}q0(Rel0 Rel1:K->K->Prop)(rr:∀g,Rel1 g g)(rt0:∀g1 g2 g3,Rel0 g1 g2->Rel0 g2 g3->Rel0 g1 g3)(rt1:∀g1 g2 g3,Rel1 g1 g2->Rel1 g2 g3->Rel1 g1 g3)(r10:∀g1 g2,Rel1 g1 g2->Rel0 g1 g2)k(S:Nat->Value->K->Prop)(h:eF (sub c0 p)=some true)(hm:P.follows .mixedOrders=true)(hB:kq (sub c0 p) n k=true)(mono:∀i v g1 g2,i<k->S i v g1->Rl q0 i Rel1 Rel0 g1 g2->S i v g2)(hop:∀i,i<k->∀w g',Rl q0 i Rel1 Rel0 g g'->(∀t,(∀j,j<k->t≠dstOf (sub c0 p) j)->w t=E t)->
   (∀j,j<k->cP (sub c0 p) i j=true->S j (w (dstOf (sub c0 p) j)) g')->bP P (Rl q0 i Rel0 Rel1) (sub c0 p) i w g' (S i))(fin:∀w g',Rel0 g g'->(∀t,(∀j,j<k->t≠dstOf (sub c0 p) j)->w t=E t)->(∀j,j<k->S j (w (dstOf (sub c0 p) j)) g')->
   aS P n (sub c0 p) k Q w g'):aO P n (sub c0 p) Q E g:=by
 generalize sub c0 p=s at *;unfold kq at hB;simp only[an,ϛ,Bool.or_eq_true]at hB;obtain⟨⟨⟨⟨hk,a3⟩,b3⟩,a0⟩,a7⟩:=hB;have O:∀i o,(opsOf s)[i]?=some o->∀e∈o.after,Region.binds .any e=true->e.on<i:=by
  intro i o hi e V l;have hlt:i<(opsOf s).size:=(ae.1 hi).1;have H:=w9 a3 i hlt;have ho:zv s i=o:=by unfold zv;rw[hi];rfl
  rw[ho]at H;have h2:=(Array.all_eq_true_iff_forall_mem.1 H) e V;simpa[l]using h2
 have y:∀i,i<k->(zv s i).dst=some (dstOf s i)/\dstOf s i<n/\∀j,j<i->dstOf s j≠dstOf s i:=by
  intro i hi;have H:=w9 b3 i hi;simp only[an,ϱ,ϛ]at H;refine⟨H.1.1,H.1.2,λj G=>?_⟩;have:=bd.1 H.2 j<|fg.2 G;exact w8
 have a9:∀i j,i<k->j<k->i≠j->dstOf s i≠dstOf s j:=by
  intro i j hi G c3;rcases gk c3 with h | h
  ·exact(y j G).2.2 i h
  ·exact((y i hi).2.2 j h).symm
 cases s<;>simp[eF]at h;rename_i id ops dr;subst h;simp only[opsOf]at *;have b2:∀m listed w g' C d a,Fits n a w->DInv q0 Rel0 Rel1 n (.region id ops true) E g k S listed w g'->fW listed k=m->
   wpAnyIn FF 0 P .any ops (cQ n C Q) (m+(ops.size - k)) listed a (W C g' d):=by
  intro m
  induction m with
  | zero=>
   intro listed w g' C d a hf b hu;have D:=GR hu;have Z:listed=hU k ops.size:=by
    apply Array.ext
    ·simp[hU];exact b.head.size
    ·intro i H h2;simp only[hU,Array.getElem_map,Array.getElem_range];by_cases c:i<k
     ·have:=D i c;simp[H]at this;rw[this];simp[c]
     ·have:=b.head.tail i om (by rw[←b.head.size];exact H);simp[H]at this;rw[this];simp[c]
   subst Z;have c7:=fin w g' b.step b.off (λj G=>b.done j G<|D j G) C d a hf;have U:=yY (F:=FF) (n:=0) (P:=P) (md:=.any) (ops:=ops) (Q':=cQ n C Q) (ops.toList.drop k) k (hU k ops.size) a (W C g' d)
    F7 (϶ a7) (by
     have V:=wpOpsIn_eq_wpListIn (F:=FF) (n:=0) (P:=P) (ops:=ops) (Q:=cQ n C Q) (ops.toList.drop k) k F7;have hlen:(ops.toList.drop k).length=ops.size - k:=by simp
     rw[hlen]at V;rw[←V];exact c7)
   have hlen:(ops.toList.drop k).length=ops.size - k:=by simp
   rw[hlen]at U;simpa using U
  | succ m ih=>
   intro listed w g' C d a hf b hu;obtain⟨R,c8,Y,a8⟩:=GX hu;have B:R<ops.size:=by omega
   have u:R∈Region.ready .any ops listed:=by
    refine mem_ready.2 ⟨?_,ops[R],by simp[B],?_⟩
    ·have:R<listed.size:=by rw[b.head.size];exact B
     simp[this]at Y ⊢;exact Y
    ·intro e V l;exact a8 e.on<|O R ops[R] (by simp[B]) e V l
   have c9:m+1+(ops.size - k)=(m+(ops.size - k))+1:=by omega
   rw[c9];refine⟨D9 u,λi hi=>?_⟩;obtain⟨b8,oi,a4,D⟩:=mem_ready.1 hi;have a5:i<ops.size:=(ae.1 a4).1;have c:i<k:=by
    rcases gj i k with h | h
    ·exact h
    ·rcases a0 with ht |⟨hs,hc⟩
     ·omega
     ·have a6:listed.getD R true=false:=getD_in (by rw[b.head.size];exact B) Y;exact x4 hi<|tail_waits hs hc om b.head _ R rfl c8 a6 i h
   have M:zv (.region id ops true) i=oi:=by unfold zv opsOf;rw[a4];rfl
   obtain⟨c5,c2,d5⟩:=y i c;have b7:Rl q0 i Rel1 Rel0 g g':=by
    unfold Rl;cases l:Nat.beq i q0 with
    | false=>exact b.step
    | true=>have:=ga l;subst this;exact b.pre<|getD_both b8
   have X:=hop i c w g' b7 b.off (λj G J=>by
    refine b.done j G ?_;unfold cP at J;rw[M]at J;obtain⟨e,V,l⟩:=Array.any_eq_true'.1 J;simp only[an,ϱ]at l;have:=D e V l.1;rw[l.2]at this;exact this)
   have c4:listed.getD i false=false:=getD_both b8;have T:i<listed.size:=by rw[b.head.size];exact a5
   have I:∀v g2 d2,Rl q0 i Rel0 Rel1 g' g2->S i v g2->wpAnyIn FF 0 P .any ops (cQ n C Q) (m+(ops.size - k)) (listed.setIfInBounds i true) (a.put oi.dst v) (W C g2 d2):=by
    intro v g2 d2 A hS;rw[←M,c5];refine ih _ (aR w (dstOf (.region id ops true) i) v) g2 C d2 _ (hf.put c2 v) ⟨b.head.set hi c,?_,?_,λt ht=>?_,λj G b9=>?_⟩ ?_
    ·exact rt0 _ _ _ b.step<|Ji r10 A
    ·intro a1;have L:i≠q0:=λe=>by
      subst e;simp[T]at a1
     rw[getD_set_ne false L]at a1;have b5:Rel1 g' g2:=Jh L A;exact rt1 _ _ _ (b.pre a1) b5
    ·have L:=ht i c;unfold aR;have l:Nat.beq t (dstOf (.region id ops true) i)=false:=by
      cases l:Nat.beq t (dstOf (.region id ops true) i)with
      | false=>rfl
      | true=>exact x4 (ga l) L
     rw[l];exact b.off t ht
    ·by_cases N:j=i
     ·subst N;unfold aR;rw[Nat.beq_refl];exact hS
     ·have l:Nat.beq (dstOf (.region id ops true) j) (dstOf (.region id ops true) i)=false:=by
       cases l:Nat.beq (dstOf (.region id ops true) j) (dstOf (.region id ops true) i)with
       | false=>rfl
       | true=>exact x4 (ga l)<|a9 j i G c N
      unfold aR;rw[l];refine mono j _ g' g2 G (b.done j G ?_)<|TP r10 N A;rw[getD_set_ne false<|Ne.symm N]at b9;exact b9
    ·have:=Cd c T c4;omega
   unfold wpOpIn;simp only[a4];have z:=iY hf (.region id ops true) i;rw[M]at z;simp only[opsOf]at z;rw[z];cases hw:bV (.region id ops true) i w with
   | false=>
    rw[ϙ si];exact⟨B1,I undef g' d (TO r10 rr)<|X.2 hw⟩
   | true=>
    rw[Ϙ rfl];have hq:=X.1 hw C d;rw[M,←hf.eval]at hq;generalize hrr:(execOp a.eval oi).run P (W C g' d)=r at *;cases r with
    | halt x w'=>exact hq.elim
    | ok nx w'=>
     cases nx with
     | value v=>
      obtain⟨g2,d2,rfl,A,hS⟩:=hq;exact kl hrr<|I v g2 d2 A hS
     | enter f args=>
      obtain⟨g2,d2,rfl,A,c6⟩:=hq;refine Bw hrr ?_;refine(c6 C d2).mono ?_;rintro e w2 ⟨v,g3,d3,rfl,rfl,c1,hS⟩;exact I v g3 d3 (Tz rt0 rt1 A c1) hS
     | _=>exact hq.elim
 intro C d a hf;refine wpIn_region_any hm ?_;have b0:DInv q0 Rel0 Rel1 n (.region id ops true) E g k S (Array.replicate ops.size false) E g:=by
  refine⟨⟨by simp[opsOf],λj oj _ U=>?_,λt _ ht=>?_⟩,r10 _ _<|rr _,λ_=>rr _,λ_ _=>rfl,λj _ U=>?_⟩
  ·rw[getD_replicate_false]at U;cases U
  ·exact getD_in (by simpa[opsOf]using ht)<|L7
  ·rw[getD_replicate_false]at U;cases U
 have hu:fW (Array.replicate ops.size false) k=k:=by
  unfold fW;exact O1
 have hm':=b2 k (Array.replicate ops.size false) E g C (d+1) a hf b0 hu;have hsz:k+(ops.size - k)=ops.size:=by omega
 rw[hsz]at hm';exact hm'
end
def aA(n:Int):Prop := -9223372036854775808<=n/\n<=9223372036854775807
def kp(a:K)(b off:Nat)(cs:List Value):Prop:=∀j v,cs[j]?=some v->a.cell b (off+j)=some v
def PubAt(a:K)(b off:Nat)(cs:List Value):Prop:=b<a.H.size/\off+cs.length<=a.fr b/\kp a b off cs
def PubAt.step{M e e' b off cs}(s:Step M e e')(h:PubAt e b off cs):PubAt e' b off cs:=by
 obtain⟨a,f,i⟩:=h;refine⟨gi a s.1,gg f (s.2.2.1 b a).1,λj v c=>?_⟩;have d:j<cs.length:=(cv.1 c).1;rw[(s.2.2.1 b a).2 (off+j) om];exact i j v c
def At(a:K)(b off:Nat)(cs:List Value):Prop:=b<a.H.size/\kp a b off cs
def PubAt.at{a b off cs}(h:PubAt a b off cs):At a b off cs:=⟨h.1,h.2.2⟩
def At.step{M e e' b off cs}(s:Step M e e')(hm:b∉M)(h:At e b off cs):At e' b off cs:=by
 obtain⟨a,d⟩:=h;refine⟨gi a s.1,λj v c=>?_⟩;have:=d j v c;unfold K.cell at *;rw[(s.2.1 b a hm).1];exact this
def At.step0{a a' b off cs}(s:Step [] a a')(h:At a b off cs):At a' b off cs:=D6
def At.part{cs:List Value}{c b off}(h:At c b off cs)i m:At c b (off+i) ((cs.drop i).take m):=⟨h.1,λj v a=>by
  rw[dl]at a;split at a
  ·rw[cm]at a;rw[ϻ];exact h.2 (i+j) v a
  ·cases a⟩
structure Ty(b:Type) where
 size:Nat
 own:K->List Value->b->Prop
 len:∀{a cs x},own a cs x->cs.length=size
 step:∀{M a a' cs x},Step M a a'->own a cs x->own a' cs x
 one:∀{a cs x},own a cs x->∀v∈cs,v.oneCell'=true
def tI64:Ty Int:=⟨1,λ_ cs n=>cs=[.int .i64 n]/\aA n,λh=>by rw[h.1];rfl,λ_ h=>h,λh v hv=>by rw[h.1]at hv;simp at hv;subst hv;rfl⟩
def eV:Ty Int:=⟨1,λ_ cs n=>cs=[.int .u8 n]/\0<=n/\n<=255,λh=>by rw[h.1];rfl,λ_ h=>h,λh v hv=>by rw[h.1]at hv;simp at hv;subst hv;rfl⟩
def Ux:Ty Int:=⟨1,λ_ cs n=>cs=[.int .i32 n] /\ -2147483648<=n/\n<=2147483647,λh=>by rw[h.1];rfl,λ_ h=>h,λh v hv=>by rw[h.1]at hv;simp at hv;subst hv;rfl⟩
def rk:Ty Bool:=⟨1,λ_ cs b=>cs=[.bool b],λh=>by rw[h];rfl,λ_ h=>h,λh v hv=>by rw[h]at hv;simp at hv;subst hv;rfl⟩
def strV(s:List UInt8):Value:=.string ⟨s.toArray⟩
def tStr:Ty (List UInt8):=⟨1,λ_ cs s=>cs=[strV s]/\s.length<=9223372036854775807,λh=>by rw[h.1];rfl,λ_ h=>h,λh v hv=>by rw[h.1]at hv;simp at hv;subst hv;rfl⟩
def Js:Ty Value:=⟨1,λ_ cs v=>cs=[v]/\v.oneCell'=true,λh=>by rw[h.1];rfl,λ_ h=>h,λh v hv=>by rw[h.1]at hv;simp at hv;rw[hv];exact h.2⟩
def dW{e c:Type}(a:Ty e)(b:Ty c):Ty (e×c):=⟨a.size+b.size,λd cs x=>∃c1 c2,cs=c1++c2/\a.own d c1 x.1/\b.own d c2 x.2,
  λ⟨c1,c2,h,h1,h2⟩=>by rw[h,dt,a.len h1,b.len h2],
  λs ⟨c1,c2,h,h1,h2⟩=>⟨c1,c2,h,a.step s h1,b.step s h2⟩,
  λ⟨c1,c2,h,h1,h2⟩ v hv=>by rw[h,er]at hv;exact hv.elim (a.one h1 v)<|b.one h2 v⟩
structure Sl{e:Type}(t:Ty e)(d:K)(a:Option Addr)(c:Nat)(l:List e):Prop where
 cap:l.length<=c
 most:l.length<=9223372036854775807
 elems:0<l.length->∃b off,a=some ⟨b,off,none⟩/\∀i x,l[i]?=some x->∃cs,PubAt d b (off+i*t.size) cs/\t.own d cs x
def Sl.step{g:Type}{t:Ty g}{l:List g}{M e e' a c}(s:Step M e e')(h:Sl t e a c l):Sl t e' a c l:=⟨h.cap,h.most,λj=>by
  obtain⟨b,off,f,d⟩:=h.elems j;exact⟨b,off,f,λi x k=>let ⟨cs,hp,ho⟩:=d i x k;⟨cs,hp.step s,t.step s ho⟩⟩⟩
def aW{b:Type}(t:Ty b):Ty (List b):=⟨1,λd cs l=>∃a c,cs=[.slice a l.length c]/\Sl t d a c l,λ⟨_,_,h,_⟩=>by rw[h];rfl,λs ⟨a,c,h,hs⟩=>⟨a,c,h,hs.step s⟩,
  λ⟨_,_,h,_⟩ v hv=>by rw[h]at hv;simp at hv;subst hv;rfl⟩
def idx{a:Type}(l:List a)(i:Int):Option a:=if 0<=i then l[i.toNat]? else none
def i'{a:Type}{l:List a}{i:Int}{x:a}(h:idx l i=some x):0<=i/\i<l.length/\l[i.toNat]?=some x:=by
 unfold idx at h;split at h
 ·rename_i h0;have:=(cv.1 h).1;exact⟨h0,by omega,h⟩
 ·cases h
def Sl.nil{b:Type}(t:Ty b)a:Sl t a none 0 []:=⟨gd _,by simp,λh=>by simp at h⟩
def Sl.idx{g:Type}{t:Ty g}{l:List g}{e a c}(h:Sl t e a c l){i:Int}{x:g}(hx:idx l i=some x):
  ∃b off,a=some ⟨b,off,none⟩/\0<=i/\i<(l.length:Int)/\∃cs,PubAt e b (off+i.toNat*t.size) cs/\t.own e cs x:=by
 obtain⟨n,m,k⟩:=i' hx;have r:0<l.length:=by omega
 obtain⟨b,off,j,f⟩:=h.elems r;obtain⟨cs,hp,d⟩:=f _ _ k;exact⟨b,off,j,n,m,cs,hp,d⟩
def dw(P:Program)(T:TypeId):Option Bool:=
 match P.underlying T with
 | some (.struct _) | some (.array _ _)=>some true
 | some _=>some false
 | none=>none
def zL(P:Program)(T:TypeId):Option Nat:=(P.info? T).map (·.size)
def nX(P:Program)(T:TypeId):Option Nat:=(P.info? T).map (·.bytes)
def zH(P:Program)(T:TypeId):Option TypeId:=
 match P.underlying T with
 | some (.slice e)=>some e
 | _=>none
def eX(P:Program)(T:TypeId):Option Value:=(P.info? T).bind (·.zero)
section
variable {P:Program} {T:TypeId}
def zw{d:TypeDesc}(h:P.underlying T=some d)w:(underlying T).run P w=.ok d w:=by
 unfold underlying;simp[h]
theorem qL{b}(h:dw P T=some b)w:(isAgg T).run P w=.ok b w:=by
 unfold dw at h;unfold isAgg;cases hd:P.underlying T with
 | none=>rw[hd]at h;cases h
 | some d=>rw[hd]at h;rw[ax,zw hd];cases d<;>simp_all
def fY{k}(h:zL P T=some k)w:(sizeOf T).run P w=.ok k w:=by
 unfold zL at h;unfold sizeOf typeInfo;cases hd:P.info? T with
 | none=>rw[hd]at h;cases h
 | some d=>rw[hd]at h;simp at h;simp[hd,h]
def qA{z}(h:eX P T=some z)w:(zeroValue T).run P w=.ok z w:=by
 unfold eX at h;unfold zeroValue typeInfo;cases hd:P.info? T with
 | none=>rw[hd]at h;cases h
 | some d=>
  rw[hd]at h;simp only[gy]at h;simp[hd,h]
end
def aY(s:Sem Value):Sem Next:=do pure (.value (←s))
def ik(s:Sem Unit):Sem Next:=do s;pure .skip
def zD{s:Sem Value}{P w w' v}(h:s.run P w=.ok v w'):(aY s).run P w=.ok (.value v) w':=by
 unfold aY;rw[ax,h];rfl
def qV{s:Sem Unit}{P w w'}(h:s.run P w=.ok () w'):(ik s).run P w=.ok .skip w':=by
 unfold ik;rw[ax,h];rfl
def lm[Fb](C:Cx)(a:K)d b o:(W C a d).cell? ⟨b,o,none⟩=a.cell b o:=by
 unfold World.cell? K.cell W;cases a.H[b]? with
 | none=>rfl
 | some x=>cases x<;>rfl
def nN{T:TypeId}{P}[Fb]{a:K}{C d b off v}(hT:dw P T=some false)(h:a.cell b off=some v):
  (Instr.loadAt T (.pointer (some ⟨b,off,none⟩))).run P (W C a d)=.ok v (W C a d):=by
 unfold Instr.loadAt Instr.sureAddr loadVar;simp only[ax,az,aw,qL hT,Sem.run_ite,aq,ϟ];rw[run_load];rw[lm,h]
theorem uA{T:TypeId}{P}[Fb]{cs:List Value}{C c d b off}(hT:dw P T=some true)(hs:zL P T=some cs.length)(h:kp c b off cs):(Instr.loadAt T (.pointer (some ⟨b,off,none⟩))).run P (W C c d)=.ok (.agg cs.toArray) (W C c d):=by
 unfold Instr.loadAt Instr.sureAddr loadVar;simp only[ax,az,aw,qL hT,Sem.run_ite,Ϡ,fY hs];rw[run_loadCells_list _ _ cs (λj v a=>?_)]
 ·rfl
 ·have:Addr.add ⟨b,off,none⟩ j=⟨b,off+j,none⟩:=N0
  rw[this,lm];exact h j v a
abbrev aN:=Nat×Nat
structure aI(c:aN)(a:K)(b:Nat)(cs:List Value)(T:TypeId):Prop where
 obj:a.H[b]?=some (.cells cs.toArray T (0,0))
 fr:a.fr b=0
 tag:a.tag b=c
 ge:c.1<=b
def cV{N i j}(h:Nat.beq i j=false):((N,i):aN)≠(N,j):=by
 intro e;have:i=j:=congrArg Prod.snd e;subst this;simp at h
def aI.lt{a:K}{T:TypeId}{c b cs}(h:aI c a b cs T):b<a.H.size:=(ae.1 h.obj).1
def aI.at{T:TypeId}{d c b cs}(h:aI d c b cs T):At c b 0 cs:=⟨h.lt,λj v a=>by unfold K.cell;rw[h.obj];simpa using a⟩
def aI.step{T:TypeId}{M c a a' b cs}(s:Step M a a')(hm:b∉M)(h:aI c a b cs T):aI c a' b cs T:=⟨(s.2.1 b h.lt hm).1.trans h.obj,(s.2.1 b h.lt hm).2.1.trans h.fr,(s.2.1 b h.lt hm).2.2.trans h.tag,h.ge⟩
def aI.ne{T T':TypeId}{a a' c b b' cs cs'}(h:aI a c b cs T)(h':aI a' c b' cs' T')(hn:a≠a'):b≠b':=by
 intro e;subst e;exact hn<|h.tag.symm.trans h'.tag
def aI.step0{T:TypeId}{c a a' b cs}(s:Step [] a a')(h:aI c a b cs T):aI c a' b cs T:=D6
def K.push(a:K)(o:Obj)(m:Nat)(c:aN):K:=⟨a.H.push o,λb=>if b=a.H.size then m else a.fr b,λb=>if b=a.H.size then c else a.tag b⟩
def fZ(c:K)(o:Obj)m(d:aN):Step [] c (c.push o m d):=by
 refine⟨x7,λb a _=>⟨?_,?_,?_⟩,λb a=>⟨?_,λi _=>?_⟩,λb a _=>⟨?_,?_⟩⟩
 ·simp only[K.push];exact K5
 ·simp only[K.push];rw[ϙ om]
 ·simp only[K.push];rw[ϙ om]
 ·simp only[K.push];rw[ϙ om];exact gd _
 ·unfold K.cell K.push;exact K5
 ·simp only[K.push];rw[ϙ om]
 ·unfold K.shp K.push;exact K5
def BU(b:K)(cs:List Value)(T:TypeId)(a:aN)(h:a.1<=b.H.size):aI a (b.push (.cells cs.toArray T) 0 a) b.H.size cs T:=⟨x7,x7,x7,h⟩
section
variable [Fc] [Fb] {P:Program} {n:Nat} {c:Code} {i:Nat} {Q:bH} {E:aK} {e:K}
def Rn{T:TypeId}{d b off v}(h:st c i n E (some d)=true)(ho:execOp (ev E) (zv c i)=aY (Instr.loadAt T (.pointer (some ⟨b,off,none⟩))))(hT:dw P T=some false)(hv:e.cell b off=some v)(hk:aS P n c (i+1) Q (aR E d v) e):aS P n c i Q E e:=jc v h I7 hk
def Rm{T:TypeId}{cs:List Value}{d b off}(h:st c i n E (some d)=true)(ho:execOp (ev E) (zv c i)=aY (Instr.loadAt T (.pointer (some ⟨b,off,none⟩))))(hT:dw P T=some true)(hs:zL P T=some cs.length)(hv:kp e b off cs)(hk:aS P n c (i+1) Q (aR E d (.agg cs.toArray)) e):aS P n c i Q E e:=jc _ h I8 hk
def At.one{cs:List Value}{b off o v}(h:At e b off cs)(hj:cs[o]?=some v):e.cell b (off+o)=some v:=h.2 o v hj
def uw{T:TypeId}{d}(g:aN)(hτ:g.1<=e.H.size)(zs:List Value)(h:st c i n E (some d)=true)(ho:execOp (ev E) (zv c i)=aY (Instr.alloc T true (.tuple #[])))(hz:(eX P T).map Value.cells=some zs.toArray)(hk:∀b e',Step [] e e'->aI g e' b zs T->aS P n c (i+1) Q (aR E d (.pointer (some ⟨b,0,none⟩))) e'):aS P n c i Q E e:=by
 obtain⟨z,f,a⟩:=ia.1 hz;refine jc (κ':=e.push (.cells zs.toArray T) 0 g) _ h (λC j=>?_)<|hk e.H.size _ (fZ _ _ _ _)<|BU _ _ _ _ hτ;rw[ho];refine zD ?_;unfold Instr.alloc;simp only[ax,qA f,aw];unfold newVar newRow;rw[a];rfl
def xT d T(a:aN)(hτ:a.1<=e.H.size)(zs:List Value)(hk:∀b e',Step [] e e'->aI a e' b zs T->aS P n c (i+1) Q (aR E d (.pointer (some ⟨b,0,none⟩))) e')(h:st c i n E (some d)=true:=by kernel_rfl)(ho:execOp (ev E) (zv c i)=aY (Instr.alloc T true (.tuple #[])):=by kernel_rfl)(hz:(eX P T).map Value.cells=some zs.toArray:=by kernel_rfl):aS P n c i Q E e:=uw a hτ zs h ho hz hk
def IV{T:TypeId}{d}(f:aN)(hτ:f.1<=e.H.size)(v:Value)(cs:List Value)(h:st c i n E (some d)=true)(ho:execOp (ev E) (zv c i)=aY (Instr.box T v))(hv:v.cells=cs.toArray)(hk:∀b e',Step [] e e'->aI f e' b cs T->aS P n c (i+1) Q (aR E d (.pointer (some ⟨b,0,none⟩))) e'):aS P n c i Q E e:=by
 refine jc (κ':=e.push (.cells cs.toArray T) 0 f) _ h (λC a=>?_)<|hk e.H.size _ (fZ _ _ _ _)<|BU _ _ _ _ hτ;rw[ho];refine zD ?_;unfold Instr.box newVar newRow;rw[hv];rfl
end
def splice(cs:List Value)(off:Nat):List Value->List Value
 |[]=>cs
 | v::vs=>splice (cs.set off v) (off+1) vs
def qu vs:∀(cs:List Value)off,(splice cs off vs).length=cs.length:=by
 induction vs with
 | nil=>intro cs off;rfl
 | cons v vs ih=>intro cs off;rw[splice,ih,ed]
def K.setB(a:K)(b:Nat)(cs:List Value)(T:TypeId):K:=⟨a.H.setIfInBounds b (.cells cs.toArray T (0,0)),a.fr,a.tag⟩
def mi{g:K}{T:TypeId}{i b cs cs'}(h:aI i g b cs T):Step [b] g (g.setB b cs' T):=by
 refine⟨by simp[K.setB],λx c hm=>⟨?_,rfl,rfl⟩,λx c=>⟨gd _,λo f=>?_⟩,λx c d=>⟨rfl,?_⟩⟩
 ·simp only[K.setB];have:b≠x:=λe=>hm (by simp[e]);rw[ag this]
 ·by_cases a:b=x
  ·subst a;rw[h.fr]at f;omega
  ·unfold K.cell K.setB;rw[ag a]
 ·have a:b≠x:=λe=>by rw[←e,h.fr]at d;omega
  unfold K.shp K.setB;rw[ag a]
def lc{c:K}{T:TypeId}{a b cs cs'}(h:aI a c b cs T):aI a (c.setB b cs' T) b cs' T:=⟨by simp[K.setB,h.lt],h.fr,h.tag,h.ge⟩
def N_{g}[Fb]{e:K}{cs:List Value}{T:TypeId}{C d b off v}(h:aI g e b cs T):
  (W C e d).setCell ⟨b,off,none⟩ v=W C (e.setB b (cs.set off v) T) d:=by
 have hlt:=h.lt;unfold World.setCell W K.setB;simp only[Option.isSome_none,aq,ϟ];congr 1;apply Array.ext
 ·simp
 ·intro j k l;have i:j<e.H.size:=϶ k
  rw[Array.getElem_modify];by_cases f:b=j
  ·subst f;have a:=h.obj;rw[ac i]at a;have c:=A5 a;simp[c]
  ·rw[ϙ f,Array.getElem_setIfInBounds_ne i f]
theorem Fh{P g}[Fb]{T:TypeId}{C d b off}(vs:List Value):∀i(e:K)(cs:List Value),aI g e b cs T->(∀v∈vs,v.oneCell'=true)->
  off+i+vs.length<=cs.length->
  (storeCells ⟨b,off,none⟩ vs i).run P (W C e d)=.ok () (W C (e.setB b (splice cs (off+i) vs) T) d):=by
 induction vs with
 | nil=>
  intro i e cs h _ _;have:e.setB b cs T=e:=by
   have hlt:=h.lt;have c:=h.obj;rw[ac hlt]at c;cases e with
   | mk H fr=>
    simp only[K.setB];congr 1;apply Array.ext
    ·simp
    ·intro j x w;by_cases l:b=j
     ·subst l;simp;exact(A5 c).symm
     ·rw[Array.getElem_setIfInBounds_ne];exact l
  rw[splice,this];rfl
 | cons v vs ih=>
  intro i e cs h a hlen;have n:Addr.add ⟨b,off,none⟩ i=⟨b,off+i,none⟩:=N0
  have f:off+i<cs.length:=by simp only[du]at hlen;omega
  unfold storeCells;rw[ax,run_store _ _ _ _ _<|a v si,n,lm];have k:e.cell b (off+i)=some cs[off+i]:=by
   unfold K.cell;rw[h.obj];simp[f]
  have m:(W C e d).frozen? ⟨b,off+i,none⟩=false:=by
   unfold World.frozen? W;simp only[h.obj];simp
  rw[k];simp only[m];rw[N_ h];simp only[aq,ϟ,aw];have h':=ih (i+1) (e.setB b (cs.set (off+i) v) T) (cs.set (off+i) v) (lc h) (λu r=>a u (by simp[r])) (by simp only[du]at hlen;simp;omega);rw[h'];rw[splice];congr 2;unfold K.setB;simp only[];congr 1;apply E7;intro j;by_cases l:b=j
  ·subst l;simp[ϻ]
  ·simp[ag l]
def lu(vs:List Value):Bool:=vs.all Value.oneCell'
def A_{T U:TypeId}{P e}[Fb]{c:K}{cs:List Value}{v:Value}{vs:List Value}{C d b off}(h:aI e c b cs U)(hv:v.cells=vs.toArray)(hs:zL P T=some vs.length)(hone:lu vs=true)(hlen:off+vs.length<=cs.length):
  (Instr.storeAt T (.pointer (some ⟨b,off,none⟩)) v).run P (W C c d)=.ok () (W C (c.setB b (splice cs off vs) U) d):=by
 unfold Instr.storeAt Instr.sureAddr storeVar;simp only[ax,az,aw,fY hs,Sem.run_ite];rw[hv];simp only[fq,ne_eq,not_true_eq_false,ϟ];have:=Fh (P:=P) (C:=C) (d:=d) (off:=off) vs 0 c cs h (λu a=>(bd.1 hone) u a) om;exact w8
section
variable [Fc] [Fb] {P:Program} {n:Nat} {c:Code} {i:Nat} {Q:bH} {E:aK} {g:K}
def zB{T U:TypeId}{cs:List Value}{d b off}(v:Value)(vs cs':List Value)(h:st c i n E none=true)(ho:execOp (ev E) (zv c i)=ik (Instr.storeAt T (.pointer (some ⟨b,off,none⟩)) v))(hb:aI d g b cs U)(hv:v.cells=vs.toArray)(hs:zL P T=some vs.length)(hone:lu vs=true)(hlen:Nat.ble (off+vs.length) cs.length=true)(hcs:splice cs off vs=cs')(hk:∀g',Step [b] g g'->g.H.size=g'.H.size->aI d g' b cs' U->aS P n c (i+1) Q E g'):aS P n c i Q E g:=by
 subst hcs;exact IU h (λC a=>by rw[ho];exact qV<|A_ hb hv hs hone<|gc hlen)<|hk _ (mi hb) (by simp[K.setB])<|lc hb
def xM T(cs':List Value){U:TypeId}{cs:List Value}{a b}(hb:aI a g b cs U)(hk:∀g',Step [b] g g'->g.H.size=g'.H.size->aI a g' b cs' U->aS P n c (i+1) Q E g')(h:st c i n E none=true:=by kernel_rfl)(ho:execOp (ev E) (zv c i)=ik (Instr.storeAt T (.pointer (some ⟨b,0,none⟩)) (.agg cs'.toArray)):=by kernel_rfl)(hs:zL P T=some cs'.length:=by kernel_rfl)(hone:lu cs'=true:=by kernel_rfl)(hlen:Nat.ble (0+cs'.length) cs.length=true:=by kernel_rfl)(hcs:splice cs 0 cs'=cs':=by rfl):aS P n c i Q E g:=zB (.agg cs'.toArray) cs' cs' h ho hb rfl hs hone hlen hcs hk
def Bi{T el:TypeId}{sz:Nat}{a:Addr}{ln cp:Nat}{k:IntKind}{ix:Int}(hT:zH P T=some el)(hs:zL P el=some sz)(h0:0<=ix)(h1:ix<ln)(w:World):(Instr.indexAt T (.slice (some a) ln cp) (.int k ix)).run P w=.ok (.pointer (some (a.add (ix.toNat*sz)))) w:=by
 have b:P.underlying T=some (.slice el):=by
  unfold zH at hT;split at hT
  ·rename_i e he;exact H0
  ·cases hT
 unfold Instr.indexAt asIntOf;simp only[ax,az,aw,zw b];rw[Ϙ ⟨h0,h1⟩];simp only[ax,fY hs,aw,az]
theorem jE b off k:Addr.add ⟨b,off,none⟩ k=⟨b,off+k,none⟩:=N0
def Ro{T el:TypeId}{ix:Int}{d b off a sz ln cp k}(ea:a=some ⟨b,off,none⟩)(h:st c i n E (some d)=true)(ho:execOp (ev E) (zv c i)=aY (Instr.indexAt T (.slice a ln cp) (.int k ix)))(hT:zH P T=some el)(hs:zL P el=some sz)(h0:0<=ix)(h1:ix<ln)(hk:aS P n c (i+1) Q (aR E d (.pointer (some ⟨b,off+ix.toNat*sz,none⟩))) g):aS P n c i Q E g:=by
 subst ea;exact jc _ h (λC f=>G9) hk
end
def nY:List Value->Value
 |[v]=>v
 | vs=>.tuple vs.toArray
def lK(P:Program)(E:aK)(c:K):List ResultVar->List Value->Prop
 |[],[]=>True
 | .tmp t::rs,v::vs=>E t=v/\lK P E c rs vs
 | .cell a T::rs,v::vs=>(∃b off cs,E a=.pointer (some ⟨b,off,none⟩)/\v=.agg cs.toArray/\dw P T=some true/\zL P T=some cs.length/\kp c b off cs)/\lK P E c rs vs
 | _,_=>False
def oy(E:aK):ResultVar->Sem Value
 | .tmp t=>pure (E t)
 | .cell a t=>do loadVar t (←asAddr (E a))
def CW{P E e}[Fb](C:Cx)d:∀(rs:List ResultVar)vs,lK P E e rs vs->
  (rs.mapM (oy E)).run P (W C e d)=.ok vs (W C e d)
 |[],[],_=>rfl
 | .tmp t::rs,v::vs,h=>by
  obtain⟨i,f⟩:=h;rw[List.mapM_cons];simp only[oy,ax,az,aw,CW C d rs vs f,i]
 | .cell a T::rs,v::vs,h=>by
  obtain⟨⟨b,off,cs,i,f,m,k,l⟩,j⟩:=h;rw[List.mapM_cons];have c:=uA (C:=C) (d:=d) m k l;unfold Instr.loadAt Instr.sureAddr at c;simp only[ax,az,aw]at c;simp only[oy,i,asAddr,ax,az,aw,c,CW C d rs vs j,f]
 |[],_::_,h=>by cases h
 | .tmp _::_,[],h=>by cases h
 | .cell _ _::_,[],h=>by cases h
def OK{fn:Func}{P E e}(rs:List ResultVar)vs(hr:fn.results=rs.toArray)(h:lK P E e rs vs)[Fb](C:Cx)d:
  (oX fn E).run P (W C e d)=.ok (nY vs) (W C e d):=by
 have c:(λ(x:ResultVar)=>(match x with
   | .tmp t=>(pure (E t):Sem Value)
   | .cell a t=>do loadVar t (←asAddr (E a))))=oy E:=by funext x;cases x<;>rfl
 unfold oX;rw[hr];have hm:rs.toArray.mapM (m:=Sem) (oy E)=Functor.map List.toArray (rs.mapM<|oy E):=List.mapM_toArray;have b:vs.length=rs.length:=by
  clear hr hm
  induction rs generalizing vs with
  | nil=>cases vs with
   | nil=>rfl
   | cons v vs=>exact h.elim
  | cons r rs ih=>cases vs with
   | nil=>cases r<;>exact h.elim
   | cons v vs=>cases r<;>simp[ih vs h.2]
 rw[ax];change ((rs.toArray.mapM (m:=Sem)<|oy E).run P<|W C e d).andThen _=_;rw[hm,Sem.run_map,CW C d rs vs h];simp only[aw,az];congr 1
 match vs with
 |[]=>rfl
 |[v]=>rfl
 | v::u::vs=>simp[nY]
def bind_some{b a:Type}{o:Option b}{f:b->Option a}{r:a}(h:o.bind f=some r):∃x,o=some x/\f x=some r:=gx.1 h
def vQ{d:Type}{a b o:d}{c}(hc:c=true)(h:(if c=true then a else b)=o):a=o:=by rw[Ϙ hc]at h;exact h
def vR{d:Type}{a b o:d}{c}(hc:c=false)(h:(if c=true then a else b)=o):b=o:=by rw[ϙ (by simp[hc])]at h;exact h
def aB(n:Int):Int:=IntKind.i64.wrap n
def vi n:aB n=(n+9223372036854775808) % 18446744073709551616 - 9223372036854775808:=by
 have h:aB n=(if n % 18446744073709551616≥9223372036854775808 then n % 18446744073709551616 - 18446744073709551616 else n % 18446744073709551616):=by
  unfold aB IntKind.wrap;simp[IntKind.bits,IntKind.signed]
 rw[h];split<;>omega
def zm n:aA (aB n):=by
 rw[vi];unfold aA;omega
def dH{n}(h:aA n):aB n=n:=by
 rw[vi];unfold aA at h;omega
def hZ{S X:Type}:Nat->(S->Option (S ⊕ X))->S->Option X
 | 0,_,_=>none
 | n+1,F,s=>match F s with
  | none=>none
  | some (.inl s')=>hZ n F s'
  | some (.inr x)=>some x
def Gh{S X:Type}{F:S->Option (S ⊕ X)}:∀n m s x,n<=m->hZ n F s=some x->hZ m F s=some x
 | 0,_,_,_,_,h=>by cases h
 | n+1,0,_,_,hle,_=>by omega
 | n+1,m+1,s,x,hle,h=>by
  unfold hZ at h ⊢;cases hF:F s with
  | none=>rw[hF]at h;cases h
  | some y=>
   rw[hF]at h;cases y with
   | inl s'=>exact Gh n m s' x om h
   | inr x'=>exact h
open Classical in
noncomputable def iter{S X:Type}(F:S->Option (S ⊕ X))(s:S):Option X:=
 if h:∃x,∃n,hZ n F s=some x then some (Classical.choose h)else none
def l_{S X:Type}{F:S->Option (S ⊕ X)}{s x}:iter F s=some x↔∃n,hZ n F s=some x:=by
 unfold iter;constructor
 ·intro h;split at h
  ·rename_i a;injection h with h
   rw[←h];exact Classical.choose_spec a
  ·cases h
 ·intro b;have a:∃x,∃n,hZ n F s=some x:=⟨x,b⟩;rw[dif_pos a];obtain⟨n,b⟩:=b;obtain⟨m,hm⟩:=Classical.choose_spec a;have d:=Gh n (max n m) s x om b;have c:=Gh m (max n m) s _ om hm;rw[d]at c;exact c.symm
def zp{S X:Type}{F:S->Option (S ⊕ X)}{s s'}(h:F s=some (.inl s')):iter F s=iter F s':=by
 apply Option.ext;intro x;rw[l_,l_];constructor
 ·rintro⟨n,a⟩;cases n with
  | zero=>cases a
  | succ n=>unfold hZ at a;rw[h]at a;exact⟨n,a⟩
 ·rintro⟨n,a⟩;exact⟨n+1,by unfold hZ;rw[h];exact a⟩
def zq{S X:Type}{F:S->Option (S ⊕ X)}{s x}(h:F s=some (.inr x)):iter F s=some x:=l_.2 ⟨1,by unfold hZ;rw[h]⟩
def RC{S X:Type}{F:S->Option (S ⊕ X)}{s}(h:F s=none):iter F s=none:=by
 cases hi:iter F s with
 | none=>rfl
 | some x=>
  obtain⟨n,a⟩:=l_.1 hi;cases n with
  | zero=>cases a
  | succ n=>unfold hZ at a;rw[h]at a;cases a
def zy{S X:Type}{F:S->Option (S ⊕ X)}(I:S->Prop)(μ:S->Nat)(R:X->Prop)(hstep:∀s,I s->(∃a,F s=some (.inl a)/\I a/\μ a<μ s)\/∃x,F s=some (.inr x)/\R x):∀s,I s->∃x,iter F s=some x/\R x:=by
 have key:∀m s,μ s=m->I s->∃x,iter F s=some x/\R x:=by
  intro m
  induction m using Nat.strongRecOn with
  | _ m ih=>
   intro s hm b;rcases hstep s b with⟨a,d,c,h⟩ |⟨x,d,c⟩
   ·obtain⟨x,i,f⟩:=ih (μ a) (hm▸h) a rfl c;exact⟨x,by rw[zp d];exact i,f⟩
   ·exact⟨x,zq d,c⟩
 exact λs b=>key _ s rfl b
section
variable [Fc] [Fb] {P:Program} {n:Nat} {c:Code} {Q:bH} {E:aK} {g:K} {p:List Nat}
def vh{S X:Type}(y:S ⊕ X)(J:S->aK->K->Prop)(Q:bH):bH:=λe E' g'=>
 match e with
 | .normal=>∃s',y=.inl s'/\J s' E' g'
 | e=>Q e E' g'
def zn{S X:Type}(F:S->Option (S ⊕ X))(J:S->aK->K->Prop)(s0:S)(x:X)(h:vG (sub c p)=true)(hx:iter F s0=some x)(h0:J s0 E g)(round:∀s E g,J s E g->∀y,F s=some y->(∀x',y=.inr x'->x'=x)->aO P n (sub c (0::p)) (vh y J Q) E g):aO P n (sub c p) Q E g:=by
 obtain⟨m,hm⟩:=l_.1 hx;refine qD (λm E g=>∃s,hZ m F s=some x/\J s E g) h m ⟨s0,hm,h0⟩ ?_;rintro m E g ⟨s,hs,f⟩;cases m with
 | zero=>cases hs
 | succ m=>
  unfold hZ at hs;cases hF:F s with
  | none=>rw[hF]at hs;cases hs
  | some y=>
   rw[hF]at hs;refine Tr (round s E g f y hF ?_) ?_
   ·rintro x' rfl;exact A5 hs
   ·intro e i g' b;cases e with
    | normal=>
     obtain⟨d,rfl,a⟩:=b;exact⟨m,by omega,d,hs,a⟩
    | _=>exact b
end
def aU{b x:Nat}(h:b≠x):b∉[x]:=by simp[h]
def Cc[Fb]{bJ:K->K->Prop}{R:Value->K->Prop}{P c i E b}(h:bV c i E=true)(hr:∀C d,Jp P bJ C b R ((execOp (ev E) (zv c i)).run P (W C b d))):bP P bJ c i E b R:=⟨λ_=>hr,λa=>(by rw[h]at a;cases a)⟩
def TA[Fb]{bJ:K->K->Prop}{R:Value->K->Prop}{P c i E b}(h:bV c i E=false)(hR:R undef b):bP P bJ c i E b R:=⟨λa=>(by rw[h]at a;cases a),λ_=>hR⟩
def dY[Fb]{bJ:K->K->Prop}{P}(rr:∀a,bJ a a){R:Value->K->Prop}{c i E a}v(h:bV c i E=true)(hr:∀C d,(execOp (ev E) (zv c i)).run P (W C a d)=.ok (.value v) (W C a d))(hR:R v a):bP P bJ c i E a R:=Cc h λC d=>by rw[hr];exact⟨a,d,rfl,rr _,hR⟩
def BX[Fb]{bJ:K->K->Prop}{P}(rr:∀a,bJ a a){R:Value->K->Prop}{args:Array Value}{c i E a f}(h:bV c i E=true)(hr:∀w,(execOp (ev E) (zv c i)).run P w=.ok (.enter f args) w)(hf:Fn P f args a (λv a'=>bJ a a'/\R v a')):bP P bJ c i E a R:=Cc h λC d=>by rw[hr];exact⟨a,d,rfl,rr _,hf⟩
section
variable [Fc] [Fb] {P:Program} {n:Nat} {c:Code} {Q:bH} {E F:aK} {a:K} {id id':Nat}
def za(h:aO P n c Q E a):im P n c Q .normal E a:=h
def zh(h:Q (.exit id) E a):im P n c Q (.exit id) E a:=h
def zc(h:Q .ret E a):im P n c Q .ret E a:=h
def zd(h:Q .normal E a):kj id Q .normal E a:=h
def zg(h:Q .normal E a):kj id Q (.exit id) E a:=by unfold kj;simp only[Ϡ];exact h
def ZT(hne:Nat.beq id' id=false)(h:Q (.exit id') E a):kj id Q (.exit id') E a:=by
 show(if id'=id then _ else _);rw[ϙ (λe=>by subst e;simp at hne)];exact h
def ze(h:Q .ret E a):kj id Q .ret E a:=h
def zf{S X:Type}{y:S ⊕ X}{J:S->aK->K->Prop}{s}(h:y=.inl s)(hJ:J s E a):vh y J Q .normal E a:=⟨s,h,hJ⟩
def zi{S X:Type}{y:S ⊕ X}{J:S->aK->K->Prop}(h:Q (.exit id) E a):vh y J Q (.exit id) E a:=h
def zo{S X:Type}{y:S ⊕ X}{J:S->aK->K->Prop}(h:Q .ret E a):vh y J Q .ret E a:=h
def PF{c0 p}(h:oa (sub c0 p)=true)(hb:ev E (qZ (sub c0 p))=.bool true)(ht:aO P n (sub c0 (0::p)) Q E a):aO P n (sub c0 p) Q E a:=GJ true h hb (λ_=>ht) (λe=>by cases e)
def QH{c0 p}(h:oa (sub c0 p)=true)(hb:ev E (qZ (sub c0 p))=.bool false)(he:aO P n (sub c0 (1::p)) Q E a):aO P n (sub c0 p) Q E a:=GJ false h hb (λe=>by cases e) (λ_=>he)
def TZ{fn:Func}{R:Value->K->Prop}(rs:List ResultVar)vs(hr:fn.results=rs.toArray)(h:lK P E a rs vs)(hR:R (nY vs) a):ll P fn R .ret E a:=⟨_,OK rs vs hr h,hR⟩
def SZ{fn:Func}{R:Value->K->Prop}(rs:List ResultVar)vs(hr:fn.results=rs.toArray)(h:lK P E a rs vs)(hR:R (nY vs) a):ll P fn R .normal E a:=⟨_,OK rs vs hr h,hR⟩
def zb(h:E=F){t v}(hv:F t=v):E=aR F t v:=h.trans (Pc hv)
def zj(h:E=F)(hw:aO P n c Q F a):aO P n c Q E a:=by rw[h];exact hw
def qP{e}(h:E=F)(hw:Q e F a):Q e E a:=by rw[h];exact hw
def zk(B:bH->Prop)(h1:B Q)(h2:B Q->aO P n c Q E a):aO P n c Q E a:=h2 h1
def qC id(B:(aK->K->Prop)->Prop)(h1:B (Q (.exit id)))(h2:B (Q (.exit id))->aO P n c Q E a):aO P n c Q E a:=h2 h1
end
def fL{a:Type}{l:List a}(h:l.length<=9223372036854775807):aA (l.length:Int):=E5
def vL(x:UInt8):0<=(x.toNat:Int)/\(x.toNat:Int)<=255:=y5 x.toNat_lt
def Hl{a b}(_hb:b ≠ -1)(h:aA a):aA (Int.tmod a b):=by
 unfold aA at *;have f:=Int.natAbs_tmod a b;have c:a.natAbs % b.natAbs<=a.natAbs:=Nat.mod_le _ _;have j:(Int.tmod a b).natAbs<=a.natAbs:=by omega
 have d:0<=a->0<=Int.tmod a b:=λh=>Int.tmod_nonneg b h;have i:a<=0->Int.tmod a b<=0:=λh=>by
  have:=Int.tmod_nonneg b (show 0 <= -a by omega);rw[Int.neg_tmod]at this;omega
 omega
def AT(s:List UInt8):(⟨s.toArray⟩:ByteArray).toList=s:=by
 have h:∀n i(a:List UInt8),n=s.length - i->i<=s.length->ByteArray.toList.loop (⟨s.toArray⟩:ByteArray) i a=a.reverse++s.drop i:=by
  intro n
  induction n with
  | zero=>
   intro i a c hi;have:i=s.length:=by omega
   subst this;unfold ByteArray.toList.loop;have hs:¬s.length<(⟨s.toArray⟩:ByteArray).size:=by simp[ByteArray.size]
   rw[ϙ hs];simp
  | succ n ih=>
   intro i a c hi;unfold ByteArray.toList.loop;have hlt:i<s.length:=by omega
   have hs:i<(⟨s.toArray⟩:ByteArray).size:=by simpa[ByteArray.size]using hlt
   rw[Ϙ hs,ih (i+1) _ om om];have b:(⟨s.toArray⟩:ByteArray).get! i=s[i]:=by
    simp[ByteArray.get!,hlt]
   rw[b,List.reverse_cons,bf,List.singleton_append,bi hlt]
 have:=h s.length 0 [] om om;simpa[ByteArray.toList]using this
def eW{P E c i s t w}(h:execOp (ev E) (zv c i)=aY (do eqGuard .eql 0 (.tmp 0) (.tmp 0) (strV s) (strV t);binOp .eql 0 (strV s) (strV t))):
  (execOp (ev E) (zv c i)).run P w=.ok (.value (.bool (decide (s=t)))) w:=by
 rw[h];refine zD ?_;have:binOp .eql 0 (strV s) (strV t)=pure (.bool<|(⟨s.toArray⟩:ByteArray).toList == (⟨t.toArray⟩:ByteArray).toList):=rfl;rw[this,AT,AT];by_cases a:s=t
 ·subst a;simp[eqGuard,strV]
 ·simp[eqGuard,strV,a]
def gE{P E c i s t w}(h:execOp (ev E) (zv c i)=aY (do eqGuard .neq 0 (.tmp 0) (.tmp 0) (strV s) (strV t);binOp .neq 0 (strV s) (strV t))):
  (execOp (ev E) (zv c i)).run P w=.ok (.value (.bool (!decide (s=t)))) w:=by
 rw[h];refine zD ?_;have:binOp .neq 0 (strV s) (strV t)=pure (.bool<|!((⟨s.toArray⟩:ByteArray).toList == (⟨t.toArray⟩:ByteArray).toList)):=rfl;rw[this,AT,AT];by_cases a:s=t
 ·subst a;simp[eqGuard,strV]
 ·simp[eqGuard,strV,a]
def iB{P:Program}{E c i}(T:TypeId)(k:IntKind){x:UInt8}{s ix w}(h:execOp (ev E) (zv c i)=aY (Instr.index T (strV s) (.int k ix)))(hT:P.underlying T=some .string)(hx:idx s ix=some x):
  (execOp (ev E) (zv c i)).run P w=.ok (.value (.int .u8 (x.toNat:Int))) w:=by
 obtain⟨d,j,b⟩:=i' hx;rw[h];refine zD ?_;unfold Instr.index asIntOf strV;simp only[ax,az,aw,zw hT];have f:(if 0<=ix then(⟨s.toArray⟩:ByteArray)[ix.toNat]? else none)=some x:=by
  rw[Ϙ d];have a:ix.toNat<s.length:=by omega
  have hs:ix.toNat<(⟨s.toArray⟩:ByteArray).size:=by simpa[ByteArray.size]using a
  rw[getElem?_pos (⟨s.toArray⟩:ByteArray) ix.toNat hs];have:=b;rw[cn a]at this;exact this
 rw[f];rfl
def kr{p:Prop}(h:p:=by kernel_rfl):p:=h
def sj{c:Type _}{a b:c}(h:some a=some b):a=b:=A5 h
abbrev BS:=List UInt8
abbrev LI:=List Int
abbrev LG:=List (BS×Int)
abbrev LT:=List (BS×LI)
abbrev LP:=List ((Int×Int)×Int)
abbrev LB:=List (Int×Int×Int)
abbrev LW:=List BS
abbrev LM:=List LI
abbrev TS:=LG×LT
abbrev OA:=Option Addr
abbrev iv(n:Int):Value:=.int .i64 n
abbrev pt(b o:Nat):Value:=.pointer (some ⟨b,o,none⟩)
abbrev bW(p:Prop)[Decidable p]:Value:=.bool (decide p)
abbrev sl(a:Option Addr)(n c:Nat):Value:=.slice a n c
abbrev aF:Value:=.slice none 0 0
def eA{F:aK}{E}t(h:E=F){v}(hv:F t=v:=by kernel_rfl):E=aR F t v:=zb h hv
def ic:List (Value->K->Prop)->Nat->Value->K->Prop
 |[],_=>λ_ _=>True
 | S::_,0=>S
 | _::Ss,i+1=>ic Ss i
def fN:List Nat->Nat->Nat
 |[],_=>0
 | d::_,0=>d
 | _::ds,i+1=>fN ds i
def oM{X:Nat->Prop}:∀i,i<0->X i:=λi h=>x4 h (Nat.not_lt_zero i)
def bG{X:Nat->Prop}k(h:∀i,i<k->X i)(hk:X k):∀i,i<k+1->X i:=by
 intro i hi;rcases gj i k with h1 | h1
 ·exact h i h1
 ·have:i=k:=by omega
  rw[this];exact hk
def IX(c:Code)(k:Nat)(ds:List Nat):Bool:=(List.range k).all λi=>Nat.beq (dstOf c i) (fN ds i)
def mx(k:Nat)(ds:List Nat)(t:Nat):Bool:=(List.range k).all λi=>!Nat.beq t (fN ds i)
section
variable [Fc] [Fb] {P:Program} {n:Nat} {Q:bH} {E:aK} {g:K}
def OC{c0 p}i0(Rel0 Rel1:K->K->Prop)(rr:∀g,Rel1 g g)(rt0:∀g1 g2 g3,Rel0 g1 g2->Rel0 g2 g3->Rel0 g1 g3)(rt1:∀g1 g2 g3,Rel1 g1 g2->Rel1 g2 g3->Rel1 g1 g3)(r10:∀g1 g2,Rel1 g1 g2->Rel0 g1 g2)k ds(Ss:List (Value->K->Prop))(h:eF (sub c0 p)=some true)(hm:P.follows .mixedOrders=true)(hB:kq (sub c0 p) n k=true)(hds:IX (sub c0 p) k ds=true)(mono:∀i,i<k->∀v g1 g2,Rl i0 i Rel1 Rel0 g1 g2->ic Ss i v g1->ic Ss i v g2)(hop:∀i,i<k->∀a g',Rl i0 i Rel1 Rel0 g g'->(∀t,mx k ds t=true->a t=E t)->
   (∀j,Nat.blt j k=true->cP (sub c0 p) i j=true->ic Ss j (a (fN ds j)) g')->bP P (Rl i0 i Rel0 Rel1) (sub c0 p) i a g' (ic Ss i))(fin:∀a g',Rel0 g g'->(∀t,mx k ds t=true->a t=E t)->(∀j,Nat.blt j k=true->ic Ss j (a (fN ds j)) g')->
   aS P n (sub c0 p) k Q a g'):aO P n (sub c0 p) Q E g:=by
 have hd:∀j,j<k->dstOf (sub c0 p) j=fN ds j:=λj d=>ga<|bd.1 hds j<|fg.2 d;have w:∀t,mx k ds t=true->∀j,j<k->t≠dstOf (sub c0 p) j:=by
  intro t r j d e;have:=w9 r j d;rw[hd j d]at e;rw[←e]at this;simp at this
 refine HT i0 Rel0 Rel1 rr rt0 rt1 r10 k (ic Ss) h hm hB (λi v g1 g2 hi hS l=>mono i hi v g1 g2 l hS) ?_ ?_
 ·intro i hi a g' l c m;exact hop i hi a g' l (λt r=>c t<|w t r) λj d u=>by
   have b:j<k:=A4 d
   rw[←hd j b];exact m j b u
 ·intro a g' l c f;exact fin a g' l (λt r=>c t<|w t r) λj d=>by
   have b:j<k:=A4 d
   rw[←hd j b];exact f j b
def cM{bJ:K->K->Prop}{R:Value->K->Prop}{c i E F g}(h:E=F)(hk:bP P bJ c i F g R):bP P bJ c i E g R:=by rw[h];exact hk
def Gv{bJ:K->K->Prop}(rr:∀g,bJ g g){R:Value->K->Prop}{T:TypeId}{c i b off v}(h:bV c i E=true)(ho:execOp (ev E) (zv c i)=aY (Instr.loadAt T (.pointer (some ⟨b,off,none⟩))))(hT:dw P T=some false)(hv:g.cell b off=some v)(hR:R v g):bP P bJ c i E g R:=dY rr v h I7 hR
def Of{bJ:K->K->Prop}(rr:∀g,bJ g g){R:Value->K->Prop}{T:TypeId}{cs:List Value}{c i b off}(h:bV c i E=true)(ho:execOp (ev E) (zv c i)=aY (Instr.loadAt T (.pointer (some ⟨b,off,none⟩))))(hT:dw P T=some true)(hs:zL P T=some cs.length)(hv:kp g b off cs)(hR:R (.agg cs.toArray) g):bP P bJ c i E g R:=dY rr _ h I8 hR
def Og{bJ:K->K->Prop}(rr:∀g,bJ g g){R:Value->K->Prop}{T el:TypeId}{ix:Int}{c i b off a sz ln cp k}(ea:a=some ⟨b,off,none⟩)(h:bV c i E=true)(ho:execOp (ev E) (zv c i)=aY (Instr.indexAt T (.slice a ln cp) (.int k ix)))(hT:zH P T=some el)(hs:zL P el=some sz)(h0:0<=ix)(h1:ix<ln)(hR:R (.pointer (some ⟨b,off+ix.toNat*sz,none⟩)) g):bP P bJ c i E g R:=by
 subst ea;exact dY rr _ h (λC d=>G9) hR
def Te{bJ:K->K->Prop}{R:Value->K->Prop}{c i}(h:bV c i E=true)(hr:∀C d,∃v g' a,(execOp (ev E) (zv c i)).run P (W C g d)=.ok (.value v) (W C g' a)/\bJ g g'/\R v g'):bP P bJ c i E g R:=Cc h λC d=>by obtain⟨v,g',a,e,b,f⟩:=hr C d;rw[e];exact⟨g',a,rfl,b,f⟩
end
def bA{b:Type}(t:Ty b)(a:K)(xs:List Value):List b->Prop
 |[]=>xs=[]
 | x::l=>∃c xs',xs=c++xs'/\t.own a c x/\bA t a xs' l
section
variable {o:Type} {t:Ty o} {g g':K} {M:List Nat}
def bA.length:∀{l:List o} {xs:List Value},bA t g xs l->xs.length=l.length*t.size
 |[],xs,h=>by have h:xs=[]:=h;rw[h];simp
 | x::l,xs,⟨c,xs',h,ho,hr⟩=>by rw[h,dt,t.len ho,hr.length,du,gu,Eo]
def bA.step(s:Step M g g'):∀{l:List o} {xs:List Value},bA t g xs l->bA t g' xs l
 |[],_,h=>h
 | _::_,_,⟨c,xs',h,ho,hr⟩=>⟨c,xs',h,t.step s ho,bA.step s hr⟩
def bA.append:∀{l l':List o} {xs xs':List Value},bA t g xs l->bA t g xs' l'->bA t g (xs++xs') (l++l')
 |[],_,xs,_,h,h'=>by have h:xs=[]:=h;rw[h];exact h'
 | x::l,_,_,xs2,⟨c,xs',h,ho,hr⟩,h'=>⟨c,xs'++xs2,by rw[h,bf],ho,hr.append h'⟩
def bA.one:∀{l:List o} {xs:List Value},bA t g xs l->∀v∈xs,v.oneCell'=true
 |[],xs,h,v,hv=>by have h:xs=[]:=h;rw[h]at hv;cases hv
 | x::l,xs,⟨c,xs',h,ho,hr⟩,v,hv=>by
  rw[h,er]at hv;exact hv.elim (t.one ho v) (hr.one v)
def bA.get:∀{l:List o} {xs:List Value} {i:Nat} {x:o},bA t g xs l->l[i]?=some x->∃cs,t.own g cs x/\(xs.drop (i*t.size)).take t.size=cs
 |[],_,i,x,_,hx=>x6 hx
 | y::l,xs,0,x,⟨c,xs',h,ho,hr⟩,hx=>by
  simp at hx;subst hx;refine⟨c,ho,?_⟩;rw[h,←t.len ho];simp
 | y::l,xs,i+1,x,⟨c,xs',h,ho,hr⟩,hx=>by
  simp at hx;obtain⟨cs,a,b⟩:=hr.get hx;refine⟨cs,a,?_⟩;have e:(i+1)*t.size=c.length+i*t.size:=by rw[gu,t.len ho,Eo]
  rw[←b,h,e,List.drop_length_add_append]
def bA.set:∀{l:List o} {xs:List Value} {i:Nat} {x:o} {cs:List Value},bA t g xs l->t.own g cs x->i<l.length->
  bA t g (xs.take (i*t.size)++cs++xs.drop ((i+1)*t.size)) (l.set i x)
 |[],_,i,x,_,_,_,hi=>x6 hi
 | y::l,xs,0,x,cs,⟨c,xs',h,ho,hr⟩,hx,hi=>by
  refine⟨cs,xs',?_,hx,hr⟩;rw[h,←t.len ho];simp
 | y::l,xs,i+1,x,cs,⟨c,xs',h,ho,hr⟩,hx,hi=>by
  refine⟨c,_,?_,ho,hr.set hx (϶ hi)⟩;have a:(i+1)*t.size=c.length+i*t.size:=by rw[gu,t.len ho,Eo]
  have b:(i+1+1)*t.size=c.length+(i+1)*t.size:=by rw[gu,t.len ho,Eo]
  rw[h,a,b,List.take_length_add_append,List.drop_length_add_append];simp[bf];rw[a]
def bA.of_sl{a c}:∀{l:List o},Sl t g a c l->∃xs,bA t g xs l/\(0<l.length->∃b off,a=some ⟨b,off,none⟩/\PubAt g b off xs)
 | l,h=>by
  induction l generalizing a c with
  | nil=>exact⟨[],rfl,λh=>x6 h⟩
  | cons x l ih=>
   obtain⟨b,off,C,A⟩:=h.elems si;obtain⟨cs,hp,u⟩:=A 0 x si;simp only[Nat.zero_mul,Ϩ]at hp;have h':Sl t g (some ⟨b,off+t.size,none⟩) l.length l:=by
    refine⟨gd _,by have:=h.most;simp at this;omega,λ_=>⟨b,off+t.size,rfl,λi y B=>?_⟩⟩;obtain⟨cs',d,r⟩:=A (i+1) y (by simpa using B);refine⟨cs',?_,r⟩;have:off+t.size+i*t.size=off+(i+1)*t.size:=by rw[gu];omega
    rw[this];exact d
   obtain⟨xs,z,D⟩:=ih h';refine⟨cs++xs,⟨cs,xs,rfl,u,z⟩,λ_=>⟨b,off,C,?_⟩⟩;have E:=t.len u;by_cases m:0<l.length
   ·obtain⟨F,w,f,d⟩:=D m;injection f with f
    injection f with e1 e2
    subst e1;subst e2;refine⟨hp.1,?_,λj v k=>?_⟩
    ·have:=d.2.1;rw[dt];omega
    ·rw[List.getElem?_append]at k;split at k
     ·exact hp.2.2 j v k
     ·have:=d.2.2 _ v k;rw[←this];exact v8
   ·have:l=[]:=bl om;subst this;have n:xs=[]:=z;subst n;simpa using hp
end
def aD(a:Option Addr)(c:Nat):List Nat:=
 match a with
 | some a=>if c=0 then[]else[a.block]
 | none=>[]
def Ca{a:Addr}{g c}(h:g∈aD (some a) c):g=a.block/\0<c:=by
 by_cases b:c=0
 ·simp[aD,b]at h
 ·simp[aD,b]at h;exact⟨h,by omega⟩
def jG{a:Addr}{c}(h:0<c):a.block∈aD (some a) c:=by
 have:¬c=0:=by omega
 simp[aD,this]
def GZ{a}:aD a 0=[]:=by cases a<;>simp[aD]
structure Gr{f:Type}(t:Ty f)(pub:Bool)(d:aN)(b:K)(e:TypeId)(a:Option Addr)(c:Nat)(l:List f):Prop where
 most:l.length<=maxLen
 body:(c=0/\l=[])\/∃g cur xs,a=some ⟨g,0,none⟩/\bA t b xs l/\b.H[g]?=some (.cells cur e (0,0))/\l.length<=c/\c<=maxLen/\
  cur.size=c*t.size/\cur.toList.take (l.length*t.size)=xs/\b.fr g=(if pub=true then l.length*t.size else 0)/\b.tag g=d/\d.1<=g
section
variable {α:Type} {t:Ty α} {pub:Bool} {τ τ':aN} {p p':K} {e:TypeId} {a:Option Addr} {c:Nat} {l:List α} {M:List Nat}
def Gr.nil:Gr t pub τ p e none 0 []:=⟨by simp,.inl ⟨rfl,rfl⟩⟩
def Gr.lt(h:Gr t pub τ p e a c l):∀g∈aD a c,g<p.H.size/\p.tag g=τ/\τ.1<=g:=by
 intro g b;rcases h.body with⟨d,_⟩ |⟨g',cur,xs,d,hr,hH,h1,h2,h3,h4,h5,h6,h7⟩
 ·rw[d,GZ]at b;cases b
 ·rw[d]at b;have:g=g':=(Ca b).1;subst this;exact⟨(ae.1 hH).1,h6,h7⟩
def Gr.step(s:Step M p p')(hm:∀g∈aD a c,g∉M)(h:Gr t pub τ p e a c l):Gr t pub τ p' e a c l:=by
 refine⟨h.most,?_⟩;rcases h.body with⟨f,i⟩ |⟨g,cur,xs,ha,hr,hH,h1,h2,h3,h4,h5,h6,h7⟩
 ·exact .inl ⟨f,i⟩
 ·by_cases d:c=0
  ·exact .inl ⟨d,bl om⟩
  have hlt:g<p.H.size:=(ae.1 hH).1;have b:=s.2.1 g hlt<|hm g (by rw[ha];exact jG om);exact .inr ⟨g,cur,xs,ha,hr.step s,b.1.trans hH,h1,h2,h3,h4,b.2.1.trans h5,b.2.2.trans h6,h7⟩
def Gr.step0(s:Step [] p p')(h:Gr t pub τ p e a c l):Gr t pub τ p' e a c l:=D6
def Gr.nb{T:TypeId}{b cs}(h:Gr t pub τ p e a c l)(hb:aI τ' p b cs T)(hn:τ≠τ'):∀g∈aD a c,g∉[b]:=by
 intro g d f;have:g=b:=϶ f
 subst this;exact hn<|(h.lt g d).2.1.symm.trans hb.tag
def Gr.bn{T:TypeId}{b cs}(h:Gr t pub τ p e a c l)(hb:aI τ' p b cs T)(hn:τ'≠τ):b∉aD a c:=by
 intro d;exact hn<|hb.tag.symm.trans (h.lt b d).2.1
def Gr.ng{f:Type}{t':Ty f}{e':TypeId}{l':List f}{pub' a' c'}(h:Gr t pub τ p e a c l)(h':Gr t' pub' τ' p e' a' c' l')(hn:τ≠τ'):∀g∈aD a c,g∉aD a' c':=by
 intro g b d;exact hn<|(h.lt g b).2.1.symm.trans (h'.lt g d).2.1
def Gr.own{p0:K}(h:Gr t pub τ p e a c l)(h0:p0.H.size<=τ.1):∀b∈aD a c,p0.H.size<=b:=λb d=>gg h0 (h.lt b d).2.2
def Gr.sl(h:Gr t true τ p e a c l):Sl t p a c l:=by
 rcases h.body with⟨r,m⟩ |⟨g,cur,xs,ha,hr,hH,h1,h2,h3,h4,h5,h6,h7⟩
 ·rw[r,m];exact⟨gd _,by simp,λh=>x6 h⟩
 ·refine⟨h1,h.most,λ_=>⟨g,0,ha,λi x k=>?_⟩⟩;obtain⟨cs,f,d⟩:=hr.get k;have hi:i<l.length:=(cv.1 k).1;have n:i*t.size+t.size<=l.length*t.size:=by rw[←gu];exact gq _ hi
  refine⟨cs,⟨(ae.1 hH).1,?_,λj v b=>?_⟩,f⟩
  ·rw[h5,Ϙ rfl,t.len f];omega
  ·rw[←d,←h4]at b;rw[dl]at b;split at b
   ·rw[cm,dl]at b;split at b
    ·unfold K.cell;rw[hH];simp only[gv];rw[←aj];exact b
    ·cases b
   ·cases b
def K.pubB(p:K)(g m:Nat):K:=⟨p.H,λb=>if b=g then m else p.fr b,p.tag⟩
def Gr.publish(h:Gr t false τ p e a c l):∃p',p'.H=p.H/\Step (aD a c) p p'/\Gr t true τ p' e a c l:=by
 rcases h.body with⟨j,i⟩ |⟨g,cur,xs,ha,hr,hH,h1,h2,h3,h4,h5,h6,h7⟩
 ·exact⟨p,rfl,u4,h.most,.inl ⟨j,i⟩⟩
 ·by_cases d:c=0
  ·exact⟨p,rfl,u4,h.most,.inl ⟨d,bl om⟩⟩
  have hs:Step (aD a c) p (p.pubB g (l.length*t.size)):=by
   refine⟨gd _,λb f hm=>⟨rfl,?_,rfl⟩,λb f=>⟨?_,λo _=>rfl⟩,λb f _=>⟨rfl,rfl⟩⟩
   ·simp only[K.pubB];exact V4
   ·simp only[K.pubB];split
    ·rename_i e;subst e;rw[h5];simp
    ·exact gd _
  exact⟨p.pubB g (l.length*t.size),rfl,hs,h.most,.inr ⟨g,cur,xs,ha,hr.step hs,hH,h1,h2,h3,h4,by simp[K.pubB],h6,h7⟩⟩
def FT[Fc][Fb]{P n c0 i Q E}(h:Gr t false τ p e a c l)(hk:∀p',Step (aD a c) p p'->Gr t true τ p' e a c l->aS P n c0 i Q E p'):aS P n c0 i Q E p:=by
 obtain⟨p',b,s,h'⟩:=h.publish;exact kZ b<|hk p' s h'
def FX[Fc][Fb]{P n c0 Q E}(h:Gr t false τ p e a c l)(hk:∀p',Step (aD a c) p p'->Gr t true τ p' e a c l->aO P n c0 Q E p'):aO P n c0 Q E p:=by
 obtain⟨p',b,s,h'⟩:=h.publish;exact OB b<|hk p' s h'
def nR:maxLen=9223372036854775807:=by unfold maxLen;omega
def qW(P:Program)(T:TypeId):Option Nat:=(eX P T).map (·.cells.size)
def K.row(p:K)(g m:Nat)(cs:List Value)(e:TypeId):K:=⟨p.H.setIfInBounds g (.cells cs.toArray e (0,0)),λb=>if b=g then m else p.fr b,p.tag⟩
def UT[Fb]{cur:Array Value}{cs:List Value}{C d g m}(hg:p.H[g]?=some (.cells cur e (0,0))):(W C p d).setRow g cs.toArray=W C (p.row g m cs e) d:=by
 have hlt:g<p.H.size:=(ae.1 hg).1;unfold World.setRow W K.row;simp only[];congr 1;apply Array.ext
 ·simp
 ·intro j f h;have c:j<p.H.size:=϶ f
  rw[Array.getElem_modify];by_cases a:g=j
  ·subst a;rw[ac c]at hg;have b:=A5 hg;simp[b]
  ·rw[ϙ a,Array.getElem_setIfInBounds_ne c a]
def QN{cur:Array Value}{cs:List Value}{g m}(hg:p.H[g]?=some (.cells cur e (0,0)))(hm:p.fr g<=m)(hk:∀o,o<p.fr g->cs[o]?=cur[o]?)(hz:cs.length=cur.size):Step [g] p (p.row g m cs e):=by
 have hlt:g<p.H.size:=(ae.1 hg).1;refine⟨by simp[K.row],λx b hm=>⟨?_,?_,rfl⟩,λx b=>⟨?_,λo c=>?_⟩,λx b d=>⟨rfl,?_⟩⟩
 ·have:g≠x:=λe=>hm (by simp[e]);simp only[K.row];rw[ag this]
 ·have:x≠g:=λe=>hm (by simp[e]);simp only[K.row];rw[ϙ this]
 ·simp only[K.row];split
  ·rename_i hx';rw[hx'];exact hm
  ·exact gd _
 ·by_cases a:g=x
  ·subst a;unfold K.cell K.row;simp only[ai hlt,hg];rw[←hk o c];simp
  ·unfold K.cell K.row;simp only[ag a]
 ·by_cases a:g=x
  ·subst a;unfold K.shp K.row;simp only[ai hlt,hg];simp[hz]
  ·unfold K.shp K.row;simp only[ag a]
def Nt{T tx ty:TypeId}{P bytes}(h:Gr t pub τ p e a c l){l2:List α}{x ys}(hys:bA t p ys l2)(hτ:τ.1<=p.H.size)(hT:zH P T=some e)(hsz:zL P e=some t.size)(hz:qW P e=some t.size)(hby:nX P e=some bytes)(U:(l.length+l2.length)*bytes<=140737488355328)(hmax:l.length+l2.length<=9223372036854775807)[Fb](C:Cx)d(hS:Src P t.size tx x l2.length ys (W C p d)):
  ∃a' c' p' d',(Builtin.append_ #[T,tx] ty #[.slice a l.length c,x]).run P (W C p d)=.ok (.slice a' (l++l2).length c') (W C p' d')/\
   Step (aD a c) p p'/\Gr t pub τ p' e a' c' (l++l2)/\∀g∈aD a' c',g∈aD a c\/p.H.size<=g:=by
 have A:P.underlying T=some (.slice e):=by
  unfold zH at hT;split at hT
  ·rename_i e' he;exact H0
  ·cases hT
 obtain⟨i,hi,Y⟩:∃i,P.info? e=some i/\i.bytes=bytes:=by
  unfold nX at hby;obtain⟨i,w,R⟩:=ia.1 hby;exact⟨i,w,R⟩
 have m:i.size=t.size:=by unfold zL at hsz;rw[hi]at hsz;simpa using hsz
 obtain⟨z,Z,a0⟩:∃z,i.zero=some z/\z.cells.size=t.size:=by
  unfold qW eX at hz;rw[hi]at hz;obtain⟨z,w,R⟩:=ia.1 hz;exact⟨z,϶ w,R⟩
 have k:l.length+l2.length<=maxLen:=by rw[nR];exact hmax
 rw[←m]at hS;have a2:l.length<=c:=by
  rcases h.body with⟨_,M⟩ |⟨g,cur,xs,ha,v,hH,w,_⟩
  ·rw[M];simp
  ·exact w
 by_cases G:l2=[]
 ·subst G;have hy:ys=[]:=by have:=hys.length;simpa using this
  subst hy;refine⟨a,c,p,d,?_,u4,϶ h,λg B=>.inl B⟩;have hc:=hS.cells;have hn:=hS.len;simp only[dz]at hc hn;simp only[bg];rcases hS.kind with⟨e',F⟩ | F<;>cases a<;>simp[Builtin.append_,run_underlying A,run_underlying F,sizeOf,typeInfo,hi,hn,a2,hc,storeCells]
 ·have a7:0<l2.length:=ϥ.2 G;have X:ys.length=l2.length*i.size:=by rw[m];exact hys.length
  have y:∀(xs:List Value)cp,bA t p xs l->l.length+l2.length<=cp->cp<=maxLen->
    let p':=p.push (.cells ((xs++ys).toArray++Builtin.zeroCells z.cells (cp - (l.length+l2.length))) e) (if pub=true then(l++l2).length*t.size else 0) τ
    Step (aD a c) p p'/\Gr t pub τ p' e (some ⟨p.H.size,0,none⟩) cp (l++l2):=by
   intro xs cp v O S p';have hs:Step [] p p':=fZ _ _ _ _;refine⟨hs.nil,by rw[dt];exact k,.inr ⟨p.H.size,(xs++ys).toArray++Builtin.zeroCells z.cells (cp - (l.length+l2.length)),xs++ys,rfl,(v.step hs).append<|hys.step hs,by simp[p',K.push],by rw[dt];exact O,S,?_,?_,by simp[p',K.push],by simp[p',K.push],hτ⟩⟩
   ·simp only[Array.size_append,fq,dt,size_zeroCells,a0,v.length,hys.length,←fz];exact v8
   ·simp only[Array.toList_append];have hlen:(l++l2).length*t.size=(xs++ys).length:=by rw[dt,dt,v.length,hys.length,fz]
    rw[hlen];exact List.take_left
  have n:∀xs,bA t p xs l->(Builtin.firstCells i.size l.length<|.slice a l.length c).run P (W C p d).drew=.ok xs.toArray (W C p d).drew->c<l.length+l2.length->∃a' c' p' d',(Builtin.append_ #[T,tx] ty #[.slice a l.length c,x]).run P (W C p d)=.ok (.slice a' (l++l2).length c') (W C p' d')/\
   Step (aD a c) p p'/\Gr t pub τ p' e a' c' (l++l2)/\∀g∈aD a' c',g∈aD a c\/p.H.size<=g:=by
   intro xs v H hlt;have r:=run_append_grow_src (P:=P) (W C p d) T tx ty e i z A hi Z a l.length c xs H x l2.length ys hS hlt om<|growslice_fits om (by rw[Y];exact U);have J:=y xs (grownCap (W C p d) (l.length+l2.length) c e) v (grownCap_ge _ _ _ _)<|grownCap_le_maxLen _ _ _ _ k;refine⟨_,_,_,d+1,?_,J.1,J.2,λg B=>.inr (by have:=(Ca B).1;rw[this];exact gd _)⟩;rw[r,dt];rfl
  rcases h.body with⟨hc,M⟩ |⟨g,cur,xs,ha,v,hH,w,h2',h3,h4,h5,h6,h7⟩
  ·refine n [] (by rw[M];exact rfl) ?_ om;rw[M];cases a<;>simp[Builtin.firstCells,loadCells,loadCellsFrom]
  ·by_cases f:l.length+l2.length<=c
   ·subst ha;have I:l.length*i.size+ys.length<=cur.size:=by rw[X,h3,←fz,m];exact gq _ f
    have E:=run_storeCells_at P g (l.length*i.size) e ys 0 cur (W C p d) hH (϶ I) hys.one;simp only[Ϩ]at E;have r:(Builtin.append_ #[T,tx] ty #[.slice (some ⟨g,0,none⟩) l.length c,x]).run P (W C p d)=.ok (.slice (some ⟨g,0,none⟩) (l.length+l2.length) c) ((W C p d).setRow g (cur.toList.take (l.length*i.size)++ys++cur.toList.drop (l.length*i.size+ys.length)).toArray):=by
     rcases hS.kind with⟨e',F⟩ | F<;>simp[Builtin.append_,run_underlying A,run_underlying F,sizeOf,typeInfo,hi,hS.len,f,hS.cells,Addr.add_lit,E]
    have Q:p.fr g<=(if pub=true then(l++l2).length*t.size else 0):=by
     rw[h5];split
     ·exact gq _ si
     ·exact gd _
    have D:(cur.toList.take (l.length*i.size)).length=l.length*t.size:=by
     have a3:cur.toList.length=c*t.size:=϶ h3
     rw[ef,m,a3];exact Nat.min_eq_left<|gq _ w
    have hs:Step [g] p (p.row g (if pub=true then(l++l2).length*t.size else 0) (cur.toList.take (l.length*i.size)++ys++cur.toList.drop (l.length*i.size+ys.length)) e):=by
     refine QN hH Q (λo ho=>?_) (by simp only[dt,ef,dv,am];omega);have L:o<l.length*t.size:=by
      rw[h5]at ho;split at ho
      ·exact ho
      ·omega
     rw[bf,ci (by rw[D];exact L),dl,Ϙ (by rw[m];exact L)];simp
    refine⟨some ⟨g,0,none⟩,c,p.row g (if pub=true then(l++l2).length*t.size else 0) (cur.toList.take (l.length*i.size)++ys++cur.toList.drop (l.length*i.size+ys.length)) e,d,?_,hs.mono (λb U=>by rw[fh.1 U];exact E8),⟨by rw[dt];exact k,.inr ⟨g,(cur.toList.take (l.length*i.size)++ys++cur.toList.drop (l.length*i.size+ys.length)).toArray,xs++ys,rfl,(v.step hs).append<|hys.step hs,?_,by rw[dt];exact f,h2',?_,?_,by simp[K.row],h6,h7⟩⟩,λg B=>.inl B⟩
    ·rw[r,UT hH,dt]
    ·have hlt:g<p.H.size:=(ae.1 hH).1;simp[K.row,hlt]
    ·simp only[fq,dt,ef,dv,am];omega
    ·have V:cur.toList.take (l.length*i.size)=xs:=by rw[m];exact h4
     simp only[];rw[V];have hlen:(l++l2).length*t.size=(xs++ys).length:=by rw[dt,dt,v.length,hys.length,fz]
     rw[hlen];exact List.take_left
   ·subst ha;refine n xs v (run_firstCells_some (P:=P) _ i.size l.length ⟨g,0,none⟩ l.length c xs (by rw[m];exact v.length) λj u N=>?_) om;rw[jE];show(W C p (d+1)).cell? ⟨g,0+j,none⟩=some u;rw[lm];unfold K.cell;rw[hH];simp only[gv];rw[←h4,dl]at N;split at N
    ·rw[←aj];exact N
    ·cases N
def Ga{T ty:TypeId}{P bytes}(h:Gr t pub τ p e a c l){l2:List α}{a2 c2}(h2:Sl t p a2 c2 l2)(hτ:τ.1<=p.H.size)(hT:zH P T=some e)(hsz:zL P e=some t.size)(hz:qW P e=some t.size)(hby:nX P e=some bytes)(hb:(l.length+l2.length)*bytes<=140737488355328)(hmax:l.length+l2.length<=9223372036854775807)[Fb](C:Cx)d:
  ∃a' c' p' d',(Builtin.append_ #[T,T] ty #[.slice a l.length c,.slice a2 l2.length c2]).run P (W C p d)=.ok (.slice a' (l++l2).length c') (W C p' d')/\
   Step (aD a c) p p'/\Gr t pub τ p' e a' c' (l++l2)/\∀g∈aD a' c',g∈aD a c\/p.H.size<=g:=by
 have f:P.underlying T=some (.slice e):=by
  unfold zH at hT;split at hT
  ·rename_i e' he;exact H0
  ·cases hT
 obtain⟨w,b,k⟩:=bA.of_sl h2;refine Nt h b hτ hT hsz hz hby hb hmax C d ?_;by_cases i:l2=[]
 ·subst i;have x:w=[]:=by have:=b.length;simpa using this
  subst x;cases a2 with
  | none=>exact Src.ofNil _ f c2
  | some q=>exact Src.ofSlice _ f q _ c2 _ si (λj u m=>by cases m) (λu y=>by cases y)
 ·obtain⟨b2,v,n,r⟩:=k<|ϥ.2 i;subst n;exact Src.ofSlice _ f _ _ c2 _ b.length (λj u m=>by rw[jE,lm];exact r.2.2 j u m) b.one
end
def aX{a:Type}(bytes:Nat)(l l2:List a):Option (List a):=if(l.length+l2.length)*bytes<=140737488355328/\l.length+l2.length<=9223372036854775807 then some (l++l2)else none
def nU{a:Type}{l l2 r:List a}{bytes}(h:aX bytes l l2=some r):(l.length+l2.length)*bytes<=140737488355328/\l.length+l2.length<=9223372036854775807/\r=l++l2:=by
 unfold aX at h;split at h
 ·rename_i h0;injection h with h;exact⟨h0.1,h0.2,h.symm⟩
 ·cases h
def eM{a:Type}(bytes:Nat)(n:Int)(z:a):Option (List a):=if 0<=n/\n<=9223372036854775807/\n*bytes<=140737488355328 then some (List.replicate n.toNat z)else none
def OV{a:Type}{n:Int}{z:a}{r:List a}{bytes}(h:eM bytes n z=some r):0<=n/\n<=9223372036854775807/\n*bytes<=140737488355328/\r=List.replicate n.toNat z:=by
 unfold eM at h;split at h
 ·rename_i h0;exact W9
 ·cases h
def bB{a:Type}(l:List a)(lo hi:Int):Option (List a):=if 0<=lo/\lo<=hi/\hi<=l.length then some ((l.take hi.toNat).drop lo.toNat)else none
def kY{a:Type}{l r:List a}{lo hi:Int}(h:bB l lo hi=some r):0<=lo/\lo<=hi/\hi<=l.length/\r=(l.take hi.toNat).drop lo.toNat:=by
 unfold bB at h;split at h
 ·rename_i h0;exact W9
 ·cases h
def hX(P:Program)(T:TypeId):Option (TypeId×Nat×Nat×Nat):=
 match zH P T with
 | some e=>match zL P e,qW P e,nX P e with
  | some s,some z,some b=>some (e,s,z,b)
  | _,_,_=>none
 | none=>none
def uI{T e:TypeId}{P s z b}(h:hX P T=some (e,s,z,b)):zH P T=some e/\zL P e=some s/\qW P e=some z/\nX P e=some b:=by
 unfold hX at h;split at h
 ·rename_i e' he;split at h
  ·rename_i h1 h2 h3;injection h with h
   injection h with h4 h
   injection h with h5 h
   injection h with h6 h7
   subst h4;subst h5;subst h6;subst h7;exact⟨he,h1,h2,h3⟩
  ·cases h
 ·cases h
def mh{P:Program}{T e:TypeId}(hT:zH P T=some e):P.underlying T=some (.slice e):=by
 unfold zH at hT;split at hT
 ·rename_i e' he;exact H0
 ·cases hT
section
variable [Fc] [Fb] {P:Program} {n:Nat} {c:Code} {i:Nat} {Q:bH} {E:aK} {o:K} {p:Type} {t:Ty p} {pub:Bool} {τ:aN} {e T:TypeId} {a a2:Option Addr} {cp c2:Nat} {l l2 r:List p} {bJ:K->K->Prop} {R:Value->K->Prop}
def uM{d bytes}(h:st c i n E (some d)=true)(ho:execOp (ev E) (zv c i)=aY (Builtin.append_ #[T,T] 0 #[.slice a l.length cp,.slice a2 l2.length c2]))(hg:Gr t pub τ o e a cp l)(h2:Sl t o a2 c2 l2)(hτ:τ.1<=o.H.size)(hT:hX P T=some (e,t.size,t.size,bytes))(hx:aX bytes l l2=some r)(hk:∀a' c' o',Step (aD a cp) o o'->Gr t pub τ o' e a' c' r->(∀g∈aD a' c',g∈aD a cp\/o.H.size<=g)->aS P n c (i+1) Q (aR E d (.slice a' r.length c')) o'):aS P n c i Q E o:=by
 obtain⟨w,y,k,x⟩:=uI hT;obtain⟨z,hm,rfl⟩:=nU hx;refine jF (λv o'=>∃a' c',v=.slice a' (l++l2).length c'/\Step (aD a cp) o o'/\Gr t pub τ o' e a' c' (l++l2)/\∀g∈aD a' c',g∈aD a cp\/o.H.size<=g) h (λC j=>?_) ?_
 ·obtain⟨a',c',o',m,u,hs,b,f⟩:=Ga (P:=P) (T:=T) (ty:=0) hg h2 hτ w y k x z hm C j;exact⟨_,o',m,x8 u,a',c',rfl,hs,b,f⟩
 ·rintro v o' ⟨a',c',rfl,hs,b,f⟩;exact hk a' c' o' hs b f
def vt(P:Program)(T:TypeId)(len:Nat)(parts:Array (Nat×Value)):Option (TypeId×Nat×List Value):=
 match zH P T with
 | some e=>match zL P e,(if len=0 then some (.tuple #[])else eX P e)with
  | some s,some z=>if len*s>2 ^ 24 then none else
   match Instr.fill (λi=>some (i*s,s)) ((Array.range (len*s)).map ((if len*s=0 then #[]else z.cells)[· % (if len*s=0 then #[]else z.cells).size]!)) parts.toList with
   | some cs=>some (e,s,cs.toList)
   | none=>none
  | _,_=>none
 | none=>none
def IP{parts:Array (Nat×Value)}{cs:List Value}{len s}(hi:vt P T len parts=some (e,s,cs))(hs:0<s)[Fb](C:Cx)d m(τ:aN):
  (Instr.buildSlice T len parts).run P (W C o d)=.ok (.slice (some ⟨o.H.size,0,none⟩) len len) (W C (o.push (.cells cs.toArray e) m τ) d):=by
 unfold vt at hi;split at hi
 ·rename_i e' he;split at hi
  ·rename_i s' z h1 h2;split at hi
   ·cases hi
   ·rename_i hle;split at hi
    ·rename_i cs' hcs;injection hi with hi
     injection hi with h3 hi
     injection hi with h4 h5
     subst h3;subst h4;subst h5;have hlen:len*s'=0↔len=0:=by
      constructor
      ·intro h;rcases Nat.mul_eq_zero.1 h with h | h
       ·exact h
       ·omega
      ·intro h;rw[h];simp
     unfold Instr.buildSlice;simp only[ax,zw<|mh he,aw,fY h1,Sem.run_ite,ϙ hle,az];by_cases b:len=0
     ·have a:len*s'=0:=hlen.2 b;rw[Ϙ a];simp only[a,Ϡ]at hcs;simp only[aw,az,a];rw[hcs];simp only[ax];rfl
     ·have a:¬len*s'=0:=λh=>b<|hlen.1 h;rw[ϙ a];rw[ϙ b]at h2;simp only[ϙ a]at hcs;simp only[aw,az,ax,qA h2];rw[hcs];simp only[ax];rfl
    ·cases hi
  ·cases hi
 ·cases hi
def Hi{cs:List Value}(hr:bA t o cs l)(hmax:l.length<=9223372036854775807)(hτ:τ.1<=o.H.size):
  Gr t pub τ (o.push (.cells cs.toArray e) (if pub=true then l.length*t.size else 0) τ) e (some ⟨o.H.size,0,none⟩) l.length l:=⟨by rw[nR];exact hmax,.inr ⟨o.H.size,cs.toArray,cs,rfl,hr.step<|fZ _ _ _ _,x7,gd _,by rw[nR];exact hmax,϶ hr.length,
  by simp[←hr.length],x7,x7,hτ⟩⟩
def Cg{parts:Array (Nat×Value)}{d len cs}(h:st c i n E (some d)=true)(ho:execOp (ev E) (zv c i)=aY (Instr.buildSlice T len parts))(hi:vt P T len parts=some (e,t.size,cs))(hs:Nat.blt 0 t.size=true)(hτ:τ.1<=o.H.size)(hl:l.length=len)(hr:bA t o cs l)(hm:Nat.ble len 1000000=true)(hk:∀a' o',Step [] o o'->Gr t pub τ o' e a' len l->aS P n c (i+1) Q (aR E d (.slice a' len len)) o'):aS P n c i Q E o:=by
 subst hl;have hm':=gc hm;refine jc _ h (λC a=>T8)<|hk _ _ (fZ _ _ _ _)<|Hi hr om hτ
def OM{zs:List Value}{z:p}(hz:t.own o zs z)m:bA t o ((List.range (m*t.size)).map λi=>(zs.toArray)[i % zs.toArray.size]!) (List.replicate m z):=by
 have d:=t.len hz;have key:∀k s0,s0 % t.size=0->bA t o ((List.range' s0 (k*t.size)).map λi=>(zs.toArray)[i % zs.toArray.size]!) (List.replicate k z):=by
  intro k
  induction k with
  | zero=>intro s0 _;simp[bA]
  | succ k ih=>
   intro s0 f;refine⟨zs,_,?_,hz,ih (s0+t.size) (by rw[Nat.add_mod_right];exact f)⟩;rw[gu,Eo,←List.range'_append,eh];congr 1
   ·apply bp;intro j;rw[cw];by_cases c:j<t.size
    ·rw[List.getElem?_range' c];have b:j<zs.length:=by rw[d];exact c
     have a:(s0+1*j) % zs.toArray.size=j:=by
      rw[fq,d,Nat.one_mul,Nat.add_mod,f,gv,Nat.mod_mod,Nat.mod_eq_of_lt c]
     simp[b,a]at a ⊢;rw[a];simp[b]
    ·rw[co so,co om];rfl
   ·simp
 have:=key m 0 si;rw[List.range_eq_range'];exact this
def IN{zs:List Value}{z:p}{bytes k1 k2 m}(hT:hX P T=some (e,t.size,t.size,bytes))(hz:(eX P e).map Value.cells=some zs.toArray)(hzo:t.own o zs z)(hx:eM bytes m z=some r)(hτ:τ.1<=o.H.size)[Fb](C:Cx)d:∃a' o',(Instr.makeSlice T (.int k1 m) (.int k2 m)).run P (W C o d)=.ok (.slice a' r.length r.length) (W C o' d)/\
   Step [] o o'/\Gr t pub τ o' e a' r.length r:=by
 obtain⟨y,n,D,w⟩:=uI hT;obtain⟨A,hm,E,rfl⟩:=OV hx;obtain⟨u,b,h⟩:=ia.1 hz;obtain⟨i,hi,k,v,l⟩:∃i,P.info? e=some i/\i.bytes=bytes/\i.size=t.size/\i.zero=some u:=by
  unfold nX at w;obtain⟨i,j,x⟩:=ia.1 w;unfold zL at n;rw[j]at n;unfold eX at b;rw[j]at b;exact⟨i,j,x,϶ n,϶ b⟩
 have f:=run_make (P:=P) (W C o d) T e i u (mh y) hi l k1 k2 m m A (Int.le_refl _) (by rw[k,Int.mul_comm];omega) hm;have c:bA t o ((List.range (m.toNat*t.size)).map λi=>(zs.toArray)[i % zs.toArray.size]!) (List.replicate m.toNat z):=OM hzo m.toNat;have a:madeCells u.cells (m.toNat*i.size)=((List.range (m.toNat*t.size)).map λi=>(zs.toArray)[i % zs.toArray.size]!).toArray:=by
  unfold madeCells;rw[h,v];apply Array.ext';simp[Array.toList_range]
 have hlen:(List.replicate m.toNat z).length=m.toNat:=by simp
 have B:=Hi (pub:=pub) (τ:=τ) (e:=e) c (by rw[hlen];omega) hτ;refine⟨_,_,?_,fZ _ _ _ _,B⟩;rw[f,a,hlen];rfl
def mn{zs:List Value}{z:p}{d bytes k1 k2 m}(h:st c i n E (some d)=true)(ho:execOp (ev E) (zv c i)=aY (Instr.makeSlice T (.int k1 m) (.int k2 m)))(hT:hX P T=some (e,t.size,t.size,bytes))(hz:(eX P e).map Value.cells=some zs.toArray)(hzo:t.own o zs z)(hx:eM bytes m z=some r)(hτ:τ.1<=o.H.size)(hk:∀a' o',Step [] o o'->Gr t pub τ o' e a' r.length r->aS P n c (i+1) Q (aR E d (.slice a' r.length r.length)) o'):aS P n c i Q E o:=by
 refine jF (λv o'=>∃a',v=.slice a' r.length r.length/\Step [] o o'/\Gr t pub τ o' e a' r.length r) h (λC b=>?_) ?_
 ·obtain⟨a',o',f,hs,a⟩:=T9;exact⟨_,o',b,x8 f,a',rfl,hs,a⟩
 ·rintro v o' ⟨a',rfl,hs,a⟩;exact hk a' o' hs a
def dQ:Option Int->Option Value
 | some n=>some (.int .i64 n)
 | none=>none
def TR{lo hi:Int}(h:Sl t o a cp l)(hx:bB l lo hi=some r)(ha:r.length=hi.toNat - lo.toNat):
  Sl t o (if cp=lo.toNat then a else a.map (·.add (lo.toNat*t.size))) (cp - lo.toNat) r:=by
 obtain⟨u,n,m,rfl⟩:=kY hx;have v:=h.cap;have hm:=h.most;refine⟨by rw[ha];omega,by rw[ha];omega,λhp=>?_⟩;rw[ha]at hp;obtain⟨b,off,k,f⟩:=h.elems om;refine⟨b,off+lo.toNat*t.size,?_,λj x d=>?_⟩
 ·rw[ϙ om,k];simp[jE]
 ·rw[cm,dl]at d;split at d
  ·obtain⟨cs,c,i⟩:=f _ _ d;refine⟨cs,?_,i⟩;rw[fz,←ϻ]at c;exact c
  ·cases d
def Pj{lo hi:Option Int}(hT:zH P T=some e)(hs:zL P e=some t.size)(h:Sl t o a cp l)(hx:bB l (lo.getD 0) (hi.getD l.length)=some r):
  ∃a' c',(∀w,(Instr.sliceAt T (.slice a l.length cp) (dQ lo) (dQ hi) none).run P w=.ok (.slice a' r.length c') w)/\Sl t o a' c' r:=by
 have b:=mh hT;obtain⟨n,m,j,f⟩:=kY hx;have u:=h.cap;have hlen:r.length=(hi.getD l.length).toNat - (lo.getD 0).toNat:=by
  rw[f,dv,ef];omega
 have d:(hi.getD l.length).toNat<=cp:=by omega
 refine⟨_,_,λw=>?_,TR h hx hlen⟩;unfold Instr.sliceAt Instr.slice Instr.sliceBounds;rw[hlen];cases lo with
 | none=>
  cases hi with
  | none=>simp[zw b,dQ,fY hs]
  | some hv=>
   simp only[gz,ϲ]at *;have c:0<=hv/\hv<=(cp:Int):=by omega
   simp[zw b,dQ,fY hs,Instr.sliceBound,asIntOf,c]
 | some lv=>
  cases hi with
  | none=>
   simp only[gz,ϲ]at *;have c:0<=lv/\lv<=(l.length:Int):=by omega
   simp[zw b,dQ,fY hs,Instr.sliceBound,asIntOf,c]
  | some hv=>
   simp only[gz]at *;have c:0<=hv/\hv<=(cp:Int):=by omega
   have i:0<=lv/\lv<=(hv.toNat:Int):=by omega
   simp[zw b,dQ,fY hs,Instr.sliceBound,asIntOf,c,i];intro k;omega
def lh{lo hi:Option Int}{d}(h:st c i n E (some d)=true)(ho:execOp (ev E) (zv c i)=aY (Instr.sliceAt T (.slice a l.length cp) (dQ lo) (dQ hi) none))(hT:zH P T=some e)(hs:zL P e=some t.size)(hg:Sl t o a cp l)(hx:bB l (lo.getD 0) (hi.getD l.length)=some r)(hk:∀a' c',Sl t o a' c' r->aS P n c (i+1) Q (aR E d (.slice a' r.length c')) o):aS P n c i Q E o:=by
 obtain⟨a',c',b,hs'⟩:=Pj (P:=P) (T:=T) hT hs hg hx;exact uY _ h (λw=>by rw[ho];exact zD<|b w)<|hk a' c' hs'
def RQ{lo hi:Option Int}(rr:∀o,bJ o o)(h:bV c i E=true)(ho:execOp (ev E) (zv c i)=aY (Instr.sliceAt T (.slice a l.length cp) (dQ lo) (dQ hi) none))(hT:zH P T=some e)(hs:zL P e=some t.size)(hg:Sl t o a cp l)(hx:bB l (lo.getD 0) (hi.getD l.length)=some r)(hk:∀a' c',Sl t o a' c' r->R (.slice a' r.length c') o):bP P bJ c i E o R:=by
 obtain⟨a',c',b,hs'⟩:=Pj (P:=P) (T:=T) hT hs hg hx;exact dY rr _ h (λC d=>by rw[ho];exact zD<|b _)<|hk a' c' hs'
def Gr.idx{ix:Int}{x:p}(h:Gr t pub τ o e a cp l)(hx:idx l ix=some x):
  ∃b,a=some ⟨b,0,none⟩/\0<=ix/\ix<(l.length:Int)/\∃cs,At o b (0+ix.toNat*t.size) cs/\t.own o cs x:=by
 obtain⟨n,d,m⟩:=i' hx;rcases h.body with⟨_,k⟩ |⟨g,cur,xs,ha,hr,hH,h3,h4,h5,h6,h7,h8,h9⟩
 ·rw[k]at d;simp at d;omega
 ·refine⟨g,ha,n,d,?_⟩;obtain⟨cs,i,f⟩:=hr.get m;refine⟨cs,⟨(ae.1 hH).1,λj v c=>?_⟩,i⟩;rw[←f,←h6]at c;rw[dl]at c;split at c
  ·rw[cm,dl]at c;split at c
   ·unfold K.cell;rw[hH];simp only[gv];rw[←aj];exact c
   ·cases c
  ·cases c
def nQ(vs:List Value):∀(cs:List Value)off j,off+vs.length<=cs.length->(splice cs off vs)[j]?=if off<=j/\j<off+vs.length then vs[j - off]? else cs[j]?:=by
 induction vs with
 | nil=>intro cs off j _;rw[splice,ϙ (λh=>by simp only[dz]at h;omega)]
 | cons v vs ih=>
  intro cs off j b;simp only[du]at b;rw[splice,ih (cs.set off v) (off+1) j (by rw[ed];omega)];simp only[du];by_cases a:off+1<=j/\j<off+1+vs.length
  ·rw[Ϙ a,Ϙ om];have:j - off=(j - (off+1))+1:=by omega
   rw[this,List.getElem?_cons_succ]
  ·rw[ϙ a];by_cases c:j=off
   ·subst c;rw[Ϙ om,D2,dj om];rfl
   ·rw[ϙ om,dh om]
def zzl{cur vs xs:List Value}{cs m s i e}(hm:m*s<=cur.length)(hxs:cur.take (m*s)=xs)(hi:i<m)(hcs:(xs.drop (i*s)).take s=cs)(hδ:e+vs.length<=s):
  (splice cur (i*s+e) vs).take (m*s)=xs.take (i*s)++splice cs e vs++xs.drop ((i+1)*s):=by
 have u:(i+1)*s<=m*s:=gq _ hi;have r:(i+1)*s=i*s+s:=gu i s;have l:xs.length=m*s:=by rw[←hxs,ef];omega
 have c:cs.length=s:=by rw[←hcs,ef,dv];omega
 have a:∀j,j<m*s->xs[j]?=cur[j]?:=λj b=>by rw[←hxs,dl,Ϙ b]
 have h:∀j,j<s->cs[j]?=cur[i*s+j]?:=λj b=>by rw[←hcs,dl,Ϙ b,cm,a _ om]
 apply bp;intro j;rw[dl];by_cases b:j<m*s
 ·rw[Ϙ b,nQ _ _ _ _ om];have d:(xs.take (i*s)).length=i*s:=A2
  have f:(splice cs e vs).length=s:=by rw[qu,c]
  by_cases n:j<i*s
  ·rw[ϙ om,bf,ci om,dl,Ϙ n,a j b]
  ·by_cases v:j<i*s+s
   ·rw[bf,cj om,ci om,nQ _ _ _ _ om,d];by_cases k:i*s+e<=j/\j<i*s+e+vs.length
    ·rw[Ϙ k,Ϙ om];exact v8
    ·rw[ϙ k,ϙ om,h _ om];exact v8
   ·rw[ϙ om,cj (by rw[dt];omega),cm,dt,d,f,a _ om];exact v8
 ·rw[ϙ b,co];rw[dt,dt,qu,c,ef,dv];omega
def iG{ix:Int}{x':p}{T:TypeId}{vs:List Value}{b δ}(v:Value)(h:st c i n E none=true)(ho:execOp (ev E) (zv c i)=ik (Instr.storeAt T (.pointer (some ⟨b,0+ix.toNat*t.size+δ,none⟩)) v))(ea:a=some ⟨b,0,none⟩)(hg:Gr t false τ o e a cp l)(h0:0<=ix)(h1:ix<(l.length:Int))(hv:v.cells=vs.toArray)(hs:zL P T=some vs.length)(hone:lu vs=true)(hδ:Nat.ble (δ+vs.length) t.size=true)(hnew:∀cs,(∃x,idx l ix=some x/\t.own o cs x)->t.own o (splice cs δ vs) x')(hk:∀o',Step (aD a cp) o o'->Gr t false τ o' e a cp (l.set ix.toNat x')->aS P n c (i+1) Q E o'):aS P n c i Q E o:=by
 subst ea;rcases hg.body with⟨_,D⟩ |⟨g,cur,xs,ha,hr,hH,h3,h4,h5,h6,h7,h8,h9⟩
 ·rw[D]at h1;simp at h1;omega
 ·have A:b=g:=by injection ha with ha;injection ha
  subst A;have j:aI τ o b cur.toList e:=⟨϶ hH,by rw[h7];simp,h8,h9⟩;have y:=gc hδ;have f:ix.toNat<l.length:=by omega
  have F:(ix.toNat+1)*t.size<=l.length*t.size:=gq _ f;have m:l.length*t.size<=cur.toList.length:=by have B:cur.toList.length=cp*t.size:=by{simpa using h5};rw[B];exact gq _ h3
  have G:(ix.toNat+1)*t.size=ix.toNat*t.size+t.size:=gu _ _;have k:l[ix.toNat]?=some l[ix.toNat]:=cn f;obtain⟨w,r,u⟩:=hr.get k;have z:=hnew w ⟨l[ix.toNat],by unfold Lf.idx;rw[Ϙ h0];exact k,r⟩;have d:Step [b] o (o.setB b (splice cur.toList (0+ix.toNat*t.size+δ) vs) e):=mi j;refine IU h (λC I=>by rw[ho];exact qV<|A_ j hv hs hone om)<|hk _ (d.mono (λx H=>by rw[fh.1 H];exact jG (a:=⟨b,0,none⟩) om)) ⟨B7 hg.most,.inr ⟨b,(splice cur.toList (0+ix.toNat*t.size+δ) vs).toArray,_,rfl,
   (hr.step d).set (t.step d z) f,?_,B7 h3,h4,?_,?_,?_,h8,h9⟩⟩
  ·exact(lc j).obj
  ·rw[fq,qu,am,h5]
  ·rw[ed,gv];exact zzl m h6 f u y
  ·exact h7
end
section
variable {M M':List Nat} {g g1 g2:K}
def Step.tr0(h:Step M g g1)(s:Step [] g1 g2):Step M g g2:=h.trans s.nil
def Step.trM(h:Step M g g1)(hb:∀b∈M',b∈M\/g.H.size<=b)(s:Step M' g1 g2):Step M g g2:=by
 refine⟨gg h.1 s.1,λb hlt i=>?_,λb hlt=>?_,λb hlt d=>?_⟩
 ·have a:=h.2.1 b hlt i;have c:=s.2.1 b (gi hlt h.1) (λj=>(hb b j).elim i om);exact V5
 ·have a:=h.2.2.1 b hlt;have c:=s.2.2.1 b<|gi hlt h.1;exact⟨gg a.1 c.1,λo f=>(c.2 o<|gi f a.1).trans<|a.2 o f⟩
 ·have a:=h.2.2.2 b hlt d;have c:=s.2.2.2 b (gi hlt h.1)<|gi d (h.2.2.1 b hlt).1;exact⟨c.1.trans a.1,c.2.trans a.2⟩
def Step.trB{b}(h:Step M g g1)(hb:g.H.size<=b)(s:Step [b] g1 g2):Step M g g2:=h.trM (λx a=>.inr X0) s
def Step.trP{b}(h:Step M g g1)(hb:b∈M)(s:Step [b] g1 g2):Step M g g2:=h.trM (λx a=>.inl X0) s
def Step.trG(h:Step M g g1)(hb:∀b∈M',g.H.size<=b)(s:Step M' g1 g2):Step M g g2:=h.trM (λb a=>.inr (hb b a)) s
def Step.of_eq(h:g=g1):Step M g g1:=h▸u4
def zV{a:aN}{N i:Nat}(h:a.1<N):a≠(N,i):=by
 intro e;rw[e]at h;exact x4 h<|Ϸ _
def jd{a N i}(h:a.1<N):((N,i):aN)≠a:=(zV h).symm
end
section
variable [Fc] [Fb] {P:Program} {n:Nat} {Q:bH} {E:aK} {a:K}
def cR:∀a:K,Step [] a a:=λ_=>u4
end
section
variable {d:Type} {t:Ty d} {pub:Bool} {b:aN} {f:K} {e:TypeId} {a:Option Addr} {c:Nat} {l l' r:List d}
def lr(h:some l'=some r)(hg:Gr t pub b f e a c l'):Gr t pub b f e a c r:=L5 hg
def qH{cs vs:List Value}(h:cs.length=vs.length):splice cs 0 vs=vs:=by
 apply bp;intro j;rw[nQ vs cs 0 j om];simp only[gv,Ϧ,true_and,Nat.sub_zero];split
 ·rfl
 ·rw[co om,co om]
def Ci(h:l.length<=maxLen):l.length<=9223372036854775807:=by rw[←nR];exact h
end
section
variable {P:Program} {c:Code} {i:Nat} {E:aK} {T:TypeId} {s r:List UInt8} {w:World}
def mg{lo hi}(h:bB s lo hi=some r)(hs:s.length<=9223372036854775807):r.length<=9223372036854775807:=by
 obtain⟨_,_,_,rfl⟩:=kY h;simp only[dv,ef];omega
def FJ l h:Value.string ((⟨s.toArray⟩:ByteArray).extract l h)=strV ((s.take h).drop l):=by
 unfold strV;congr 1;apply ByteArray.ext;apply Array.ext';simp[ByteArray.data_extract,List.drop_take]
def kT{lo hi:Option Int}(h:execOp (ev E) (zv c i)=aY (Instr.sliceAt T (strV s) (dQ lo) (dQ hi) none))(hT:P.underlying T=some .string)(hx:bB s (lo.getD 0) (hi.getD s.length)=some r):(execOp (ev E) (zv c i)).run P w=.ok (.value (strV r)) w:=by
 rw[h];refine zD ?_;obtain⟨k,j,f,rfl⟩:=kY hx;have hsz:(⟨s.toArray⟩:ByteArray).size=s.length:=by simp[ByteArray.size]
 unfold Instr.sliceAt Instr.slice Instr.sliceBounds;cases lo with
 | none=>
  cases hi with
  | none=>
   simp only[ϲ]at *;simp[zw hT,dQ,strV]
  | some hv=>
   simp only[gz,ϲ]at *;have a:0<=hv/\hv<=((⟨s.toArray⟩:ByteArray).size:Int):=by rw[hsz];omega
   simp[zw hT,dQ,strV,Instr.sliceBound,asIntOf,a];have:=FJ (s:=s) 0 hv.toNat;simp[strV]at this;exact this
 | some lv=>
  cases hi with
  | none=>
   simp only[gz,ϲ]at *;have a:0<=lv/\lv<=((⟨s.toArray⟩:ByteArray).size:Int):=by rw[hsz];omega
   simp[zw hT,dQ,strV,Instr.sliceBound,asIntOf,a];have:=FJ (s:=s) lv.toNat (⟨s.toArray⟩:ByteArray).size;rw[hsz]at this;simp[strV]at this;rw[hsz];exact this
  | some hv=>
   simp only[gz]at *;have a:0<=hv/\hv<=((⟨s.toArray⟩:ByteArray).size:Int):=by rw[hsz];omega
   have d:0<=lv/\lv<=(hv.toNat:Int):=by omega
   have b:lv<=max hv 0:=by omega
   simp[zw hT,dQ,strV,Instr.sliceBound,asIntOf,a,d,b];have:=FJ (s:=s) lv.toNat hv.toNat;simp[strV]at this;exact this
end
def IA n:0<=IntKind.wrap .u8 n/\IntKind.wrap .u8 n<=255:=by
 unfold IntKind.wrap;simp only[IntKind.bits,IntKind.signed];simp;omega
def i_(P:Program)(f:Field)(off:Nat):Bool:=(f.name != "_")&&Nat.beq f.offset off&&(match P.underlying f.type with | some (.int _)=>true | _=>false)
def km(P:Program)(T:TypeId):Bool:=(match P.underlying T with | some (.struct _)=>true | _=>false)&&!P.stoodInHeld T&&!P.eqGuardType P.depth T &&
 (match(P.fieldsOf T).toList with |[f,g]=>i_ P f 0&&i_ P g 1 | _=>false)
section
variable {P:Program}
def jZ{f:Field}{off}(h:i_ P f off=true){xs:Array Value}{v}(hv:xs[off]?=some v)w:(part f.type xs f.offset).run P w=.ok v w:=by
 unfold i_ at h;simp only[an]at h;have c:=ga h.1.2;have b:dw P f.type=some false:=by
  unfold dw;have a:=h.2;split at a
  ·rename_i k hk;rw[hk]
  ·cases a
 unfold part;simp[qL b,c,hv]
def uG{f:Field}{off}(h:i_ P f off=true)d(k:IntKind)a b w:(Op.equalIn (d+1) f.type (.int k a) (.int k b)).run P w=.ok (a == b) w:=by
 unfold i_ at h;simp only[an]at h;have c:=h.2;split at c
 ·rename_i k' hk;exact run_equalIn_int w d f.type k k' a b hk
 ·cases c
def Im{T:TypeId}(h:km P T=true)(k1 k2:IntKind)a b a' b' w:
  (Op.equalIn 10000 T (.agg #[.int k1 a,.int k2 b]) (.agg #[.int k1 a',.int k2 b'])).run P w=.ok (decide (a=a')&&decide (b=b')) w:=by
 unfold km at h;simp only[an,au]at h;obtain⟨⟨⟨m,r⟩,x⟩,d⟩:=h;have u:P.underlying T=some (.struct (P.fieldsOf T)):=by
  unfold Program.fieldsOf;split at m
  ·rename_i fs hfs;simp[hfs]
  ·cases m
 rw[show(10000:Nat)=9999+1 from rfl,run_equalIn_agg w 9999 T _ _ u r];split at d
 ·rename_i f g hfg;rw[hfg];simp only[an]at d;obtain⟨c,i⟩:=d;have j:f.name ≠ "_" := by
   have:=c;unfold i_ at this;exact F1
  have k:g.name ≠ "_" := by
   have:=i;unfold i_ at this;exact F1
  simp only[Op.eqFields,Ϙ j,Ϙ k,ax];rw[jZ c (v:=.int k1 a) rfl];simp only[aw];rw[jZ c (v:=.int k1 a') rfl];simp only[aw];rw[show(9999:Nat)=9998+1 from rfl,uG c];simp only[aw];by_cases l:a=a'
  ·subst l;simp only[BEq.rfl,av,aq,ϟ,Ϟ,Bool.true_and,ax];rw[jZ i (v:=.int k2 b) rfl];simp only[aw];rw[jZ i (v:=.int k2 b') rfl];simp only[aw];rw[uG i];simp only[aw];by_cases n:b=b'
   ·subst n;simp
   ·simp[n]
  ·simp[l]
 ·cases d
def kV{T:TypeId}{E c i k1 k2 a b a' b' w}(h:execOp (ev E) (zv c i)=aY (do eqGuard .eql T (.tmp 0) (.tmp 0) (.agg #[.int k1 a,.int k2 b]) (.agg #[.int k1 a',.int k2 b']);binOp .eql T (.agg #[.int k1 a,.int k2 b]) (.agg #[.int k1 a',.int k2 b'])))(hT:km P T=true):(execOp (ev E) (zv c i)).run P w=.ok (.value (.bool (decide (a=a')&&decide (b=b')))) w:=by
 rw[h];refine zD ?_;have hm:P.eqGuardType P.depth T=false:=U3
 rw[ax,run_eqGuard_agg _ _ _ _ _ _ _ hm];simp only[aw];rw[run_eql_struct,Im hT];rfl
def Ql{T:TypeId}{E c i k1 k2 a b a' b' w}(h:execOp (ev E) (zv c i)=aY (do eqGuard .neq T (.tmp 0) (.tmp 0) (.agg #[.int k1 a,.int k2 b]) (.agg #[.int k1 a',.int k2 b']);binOp .neq T (.agg #[.int k1 a,.int k2 b]) (.agg #[.int k1 a',.int k2 b'])))(hT:km P T=true):(execOp (ev E) (zv c i)).run P w=.ok (.value (.bool (!(decide (a=a')&&decide (b=b'))))) w:=by
 rw[h];refine zD ?_;have hm:P.eqGuardType P.depth T=false:=U3
 rw[ax,run_eqGuard_agg _ _ _ _ _ _ _ hm];simp only[aw];rw[run_neq_struct,Im hT];rfl
end
def gT{a:Type}{l r:List a}{x:a}{i}(h:some (l.set i x)=some r):r.length=l.length:=by
 injection h with h;rw[←h,ed]
def zl{N M i j}(h:Nat.beq i j=false):((N,i):aN)≠(M,j):=by
 intro e;have:i=j:=congrArg Prod.snd e;subst this;simp at h
def hQ[Fb]{A B:Array Value}{R:Value->K->Prop}{P f a}(h:A=B)(hf:Fn P f B a R):Fn P f A a R:=by rw[h];exact hf
def gF(P:Program)(f:FuncId):Bool:=
 match P.funcs[f]? with
 | some fn=>!(fn.name == "runtime.NumGoroutine")&&fn.body.isSome
 | none=>false
def iC{args:Array Value}{P f w r}(h:r=(callFunc f args).run P w)(hf:gF P f=true):r=.ok (.enter f args) w:=by
 rw[h];unfold gF at hf;split at hf
 ·rename_i fn hfn;simp only[an,au]at hf;unfold callFunc;have c:fn.body≠none:=by intro a;rw[a]at hf;simp at hf
  have b:¬fn.name = "runtime.NumGoroutine" := ϶ hf.1
  simp[hfn,b,c]
 ·cases hf
def FQ{s:Sem Next}{P E c i w r}(h:execOp (ev E) (zv c i)=s)(hs:s.run P w=r):(execOp (ev E) (zv c i)).run P w=r:=by
 rw[h];exact hs
def FY{e:Type}{a b c d x:e}{ix}(h:idx [a,b,c,d] ix=some x):(ix=0/\x=a)\/(ix=1/\x=b)\/(ix=2/\x=c)\/(ix=3/\x=d):=by
 obtain⟨j,i,f⟩:=i' h;simp only[du,dz]at i;have:ix=0\/ix=1\/ix=2\/ix=3:=by omega
 rcases this with h3 | h3 | h3 | h3
 ·subst h3;left;exact H9
 ·subst h3;right;left;exact H9
 ·subst h3;right;right;left;exact H9
 ·subst h3;right;right;right;exact H9
def aI.tlt{c:K}{T:TypeId}{a b cs}(h:aI a c b cs T):a.1<c.H.size:=ϣ h.ge h.lt
section
variable {b x:Nat} {M1 M2 M:List Nat} {l:List Nat} {N:Nat}
def ie(h1:b∉M1)(h2:b∉M2):b∉M1++M2:=λh=>(er.1 h).elim h1 h2
def lA(h1:∀g∈l,g∉M1)(h2:∀g∈l,g∉M2):∀g∈l,g∉M1++M2:=λg a=>ie (h1 g a) (h2 g a)
def cB(h1:∀g∈M1,g∈M\/N<=g)(h2:∀g∈M2,g∈M\/N<=g):∀g∈M1++M2,g∈M\/N<=g:=λg a=>(er.1 a).elim (h1 g) (h2 g)
def d_(h:x∈M):∀g∈[x],g∈M\/N<=g:=λg a=>.inl (by rw[fh.1 a];exact h)
def jJ(h:N<=x):∀g∈[x],g∈M\/N<=g:=λg a=>.inr (by rw[fh.1 a];exact h)
def fF(h:∀g∈l,N<=g):∀g∈l,g∈M\/N<=g:=λg a=>.inr (h g a)
end
def gW(c:Code)(i:Nat):List Nat:=(zv c i).looksAt (opsOf c)
def mv(c:Code)(i:Nat):Bool:=
 match(zv c i).op with
 | .select _ _=>true
 | _=>false
def Cu(c:Code)(k:Nat):Bool:=(List.range k).all λi=>!mv c i&&(gW c i).all λt=>((List.range k).all λj=>dstOf c j != t)||((List.range i).any λj=>(dstOf c j == t)&&cP c i j)
def uJ{E E':aK}{c i}(h:∀t∈gW c i,E t=E' t):bV c i E=bV c i E':=by
 unfold bV;cases hg:(zv c i).guard with
 | none=>rfl
 | some g=>
  obtain⟨j,w⟩:=g;simp only[];cases hd:((opsOf c)[j]?).bind (·.dst)with
  | none=>rfl
  | some t=>
   simp only[];have:t∈gW c i:=by
    unfold gW Oper.looksAt;rw[hg];simp[hd]
   rw[h t this]
def Bv{E E':aK}{c i}(hs:mv c i=false)(h:∀t∈gW c i,E t=E' t):execOp (ev E) (zv c i)=execOp (ev E') (zv c i):=by
 refine execOp_congr _ (λcs b e=>by unfold mv at hs;rw[e]at hs;cases hs) λx a=>?_;cases x with
 | tmp t=>
  refine h t ?_;unfold gW Oper.looksAt;exact eu _<|List.mem_filterMap.2 ⟨.tmp t,by simpa using a,rfl⟩
 | _=>rfl
def QC[Fb](P:Program)(c:Code):Nat->Nat->aK->K->(aK->Prop)->Prop
 | 0,_,E,_,R=>R E
 | m+1,i,E,a,R=>
  (bV c i E=true/\∃v,(∀C d,(execOp (ev E) (zv c i)).run P (W C a d)=.ok (.value v) (W C a d))/\QC P c m (i+1) (aR E (dstOf c i) v) a R) \/
  (bV c i E=false/\QC P c m (i+1) (aR E (dstOf c i) undef) a R) \/
  (bV c i E=true/\∃v f args,(∀C d,(execOp (ev E) (zv c i)).run P (W C a d)=.ok (.enter f args) (W C a d))/\Fn P f args a (λu a'=>a=a'/\u=v)/\QC P c m (i+1) (aR E (dstOf c i) v) a R)
def QC.out[Fb]{R:aK->Prop}{P c g}:∀m(i:Nat)(E:aK),QC P c m i E g R->
  ∃(vs:Nat->Value)(a:Nat->aK),a i=E/\R (a (i+m))/\∀j,i<=j->j<i+m->a (j+1)=aR (a j) (dstOf c j) (vs j)/\
   bP P Eq c j (a j) g (λv _=>v=vs j)
 | 0,i,E,h=>⟨λ_=>undef,λ_=>E,rfl,h,λj w n=>x4 n om⟩
 | m+1,i,E,h=>by
  have step:∀v,bP P Eq c i E g (λu _=>u=v)->QC P c m (i+1) (aR E (dstOf c i) v) g R->
    ∃(vs:Nat->Value)(a:Nat->aK),a i=E/\R (a (i+(m+1)))/\∀j,i<=j->j<i+(m+1)->a (j+1)=aR (a j) (dstOf c j) (vs j)/\
     bP P Eq c j (a j) g (λv _=>v=vs j):=by
   intro v x b;obtain⟨vs,a,w,n,z⟩:=QC.out m (i+1) _ b;refine⟨λj=>if j=i then v else vs j,λj=>if j=i then E else a j,by simp,?_,λj y A=>?_⟩
   ·have e:i+(m+1)=i+1+m:=by omega
    dsimp only;rw[ϙ om,e];exact n
   ·by_cases k:j=i
    ·subst k;dsimp only;rw[ϙ om,Ϙ rfl,Ϙ rfl];exact⟨w,x⟩
    ·dsimp only;rw[ϙ om,ϙ k,ϙ k];exact z j om om
  rcases h with⟨l,v,r,b⟩ |⟨l,b⟩ |⟨l,v,f,args,r,hf,b⟩
  ·exact step v (dY (λ_=>rfl) v l r rfl) b
  ·exact step undef (TA l rfl) b
  ·refine step v (Cc l λC d=>?_) b;rw[r];exact⟨g,d,rfl,rfl,hf.mono λu g' ⟨e1,e2⟩=>⟨e1,e2⟩⟩
def hY{E:aK}{t:Nat}{v:Value}{s}:aR E t v s=if s=t then v else E s:=by
 unfold aR;by_cases h:s=t
 ·subst h;simp
 ·rw[ϙ h];cases hb:Nat.beq s t with
  | false=>rfl
  | true=>exact x4 (ga hb) h
section
variable [Fc] [Fb] {P:Program} {n:Nat} {c:Code} {Q:bH} {E:aK} {g:K} {i k:Nat}
def Tq{c0 p}k(hk:QC P (sub c0 p) k 0 E g (λy=>aS P n (sub c0 p) k Q y g))(h:eF (sub c0 p)=some true:=by kernel_rfl)(hm:P.follows .mixedOrders=true:=by kernel_rfl)(hB:kq (sub c0 p) n k=true:=by kernel_rfl)(hrd:Cu (sub c0 p) k=true:=by kernel_rfl):aO P n (sub c0 p) Q E g:=by
 obtain⟨vs,B,N,J,I⟩:=QC.out k 0 E hk;rw[gv]at J;have d:∀i,i<k->∀j,j<i->dstOf (sub c0 p) j≠dstOf (sub c0 p) i:=by
  intro i hi j a;unfold kq at hB;simp only[an]at hB;have L:=hB.1.1.2;unfold Dj at L;have C:=w9 L i hi;simp only[an]at C;have:=w9 C.2 j a;exact w8
 have F:∀i j,i<k->j<k->i≠j->dstOf (sub c0 p) i≠dstOf (sub c0 p) j:=by
  intro i j hi a G;rcases gk G with h | h
  ·exact d j a i h
  ·exact(d i hi j h).symm
 have f:∀i,i<=k->∀t,(∀j,j<i->t≠dstOf (sub c0 p) j)->B i t=E t:=by
  intro i
  induction i with
  | zero=>intro _ t _;rw[N]
  | succ i ih=>
   intro hi t l;rw[(I i om om).1,hY,ϙ<|l i om];exact ih om t λj a=>l j om
 have x:∀i,i<=k->∀j,j<i->B i (dstOf (sub c0 p) j)=vs j:=by
  intro i
  induction i with
  | zero=>intro _ j a;omega
  | succ i ih=>
   intro hi j a;rw[(I i om om).1,hY];by_cases c:j=i
   ·subst c;rw[Ϙ rfl]
   ·rw[ϙ<|F j i om om c];exact ih om j om
 have H:∀i:Nat,Rl k i (Eq:K->K->Prop) Eq=Eq:=λi=>by unfold Rl;cases Nat.beq i k<;>rfl
 refine HT k Eq Eq (λ_=>rfl) (λ_ _ _=>Eq.trans) (λ_ _ _=>Eq.trans) (λ_ _ h=>h) k (λj v _=>v=vs j) h hm hB ?_ ?_ ?_
 ·intro i v g1 g2 _ hS _;exact hS
 ·intro i hi y g' D r A;rw[H]at D ⊢;subst D;have b:=w9 hrd i hi;simp only[an,au]at b;have w:∀t∈gW (sub c0 p) i,y t=B i t:=by
   intro t l;have C:=bd.1 b.2 t l;rcases Bool.or_eq_true_iff.1 C with h6 | h6
   ·have z:∀j,j<k->t≠dstOf (sub c0 p) j:=λj a=>by
     have:=w9 h6 j a;exact λe=>by rw[e]at this;simp at this
    rw[r t z,f i om t λj a=>z j om]
   ·obtain⟨j,a,u⟩:=be.1 h6;simp only[an,ϱ]at u;have c:=fg.1 a;rw[←u.1,A j om u.2,x i om j c]
  have M:=(I i om om).2;unfold bP at M ⊢;rw[uJ w,Bv b.1 w];exact M
 ·intro y g' D r m;subst D;have:y=B k:=by
   funext t;by_cases l:∃j,j<k/\t=dstOf (sub c0 p) j
   ·obtain⟨j,a,rfl⟩:=l;rw[m j a,x k (gd _) j a]
   ·have z:∀j,j<k->t≠dstOf (sub c0 p) j:=λj a e=>l ⟨j,a,e⟩;rw[r t z,f k (gd _) t z]
  rw[this];exact J
def bU[Fc][Fb](P:Program)(n:Nat)(c:Code)(k i:Nat)(Q:bH)(E:aK)(g:K):Prop:=QC P c (k - i) i E g (λE'=>aS P n c k Q E' g)
def QZ{c0 p}k(hk:bU P n (sub c0 p) k 0 Q E g)(h:eF (sub c0 p)=some true:=by kernel_rfl)(hm:P.follows .mixedOrders=true:=by kernel_rfl)(hB:kq (sub c0 p) n k=true:=by kernel_rfl)(hrd:Cu (sub c0 p) k=true:=by kernel_rfl):aO P n (sub c0 p) Q E g:=Tq k hk h hm hB hrd
def dst(c:Code)(k i:Nat)(E:aK)(d:Nat):Bool:=Nat.blt i k&&bV c i E&&Nat.beq (dstOf c i) d
def CF(c:Code)(k i:Nat)(E:aK)(d:Nat):Bool:=Nat.blt i k&&!bV c i E&&Nat.beq (dstOf c i) d
def lk{d}v(h:dst c k i E d=true)(hr:∀C d0,(execOp (ev E) (zv c i)).run P (W C g d0)=.ok (.value v) (W C g d0))(hk:bU P n c k (i+1) Q (aR E d v) g):bU P n c k i Q E g:=by
 unfold dst at h;simp only[an]at h;have hlt:i<k:=M6
 have hd:=ga h.2;subst hd;unfold bU at *;have e:k - i=(k - (i+1))+1:=by omega
 rw[e];exact .inl ⟨h.1.2,v,hr,hk⟩
def Tk{d}(h:CF c k i E d=true)(hk:bU P n c k (i+1) Q (aR E d undef) g):bU P n c k i Q E g:=by
 unfold CF at h;simp only[an,au]at h;have hlt:i<k:=M6
 have hd:=ga h.2;subst hd;unfold bU at *;have e:k - i=(k - (i+1))+1:=by omega
 rw[e];exact .inr<|.inl ⟨h.1.2,hk⟩
def OJ{args:Array Value}{d f v}(h:dst c k i E d=true)(hr:∀w,(execOp (ev E) (zv c i)).run P w=.ok (.enter f args) w)(hf:Fn P f args g (λu g'=>g=g'/\u=v))(hk:bU P n c k (i+1) Q (aR E d v) g):bU P n c k i Q E g:=by
 unfold dst at h;simp only[an]at h;have hlt:i<k:=M6
 have hd:=ga h.2;subst hd;unfold bU at *;have e:k - i=(k - (i+1))+1:=by omega
 rw[e];exact .inr<|.inr ⟨h.1.2,v,f,args,λC d=>hr _,hf,hk⟩
def Uk(h:Nat.beq i k=true)(hk:aS P n c i Q E g):bU P n c k i Q E g:=by
 have:=ga h;subst this;unfold bU;rw[D2];exact hk
end
def Fn.ex[Fb]{args:Array Value}{R:Value->K->Prop}{P f d}(h:Fn P f args d R):∃v d',R v d':=by
 have o:Os:=by constructor<;>first | exact #[] | exact 0 | exact none | exact false | exact[] | exact ByteArray.empty | exact default
 have C:Cx:=⟨o,λ_ _=>0,#[],Fb.b0,Fb.h0⟩;obtain⟨e,w',b,⟨v,d',c,_,_,a⟩,_⟩:=h C 0 [];exact⟨v,d',a⟩
section
variable [Fc] [Fb] {P:Program} {n:Nat} {c:Code} {i k:Nat} {Q:bH} {E:aK} {g:K}
def op d v(hk:aS P n c (i+1) Q (aR E d v) g)(h:st c i n E (some d)=true:=by kernel_rfl)(hr:∀w,(execOp (ev E) (zv c i)).run P w=.ok (.value v) w:=by intro _;kernel_rfl):aS P n c i Q E g:=uY v h hr hk
def oq d v(hr:∀w,(execOp (ev E) (zv c i)).run P w=.ok (.value v) w)(hk:aS P n c (i+1) Q (aR E d v) g)(h:st c i n E (some d)=true:=by kernel_rfl):aS P n c i Q E g:=uY v h hr hk
def os d(hk:aS P n c (i+1) Q (aR E d undef) g)(h:sk c i n E d=true:=by kernel_rfl):aS P n c i Q E g:=St h hk
def o1 d T v{b off}(hv:g.cell b off=some v)(hk:aS P n c (i+1) Q (aR E d v) g)(h:st c i n E (some d)=true:=by kernel_rfl)(ho:execOp (ev E) (zv c i)=aY (Instr.loadAt T (.pointer (some ⟨b,off,none⟩))):=by kernel_rfl)(hT:dw P T=some false:=by kernel_rfl):aS P n c i Q E g:=Rn h ho hT hv hk
def oN d T(cs:List Value){b off}(hv:kp g b off cs)(hk:aS P n c (i+1) Q (aR E d (.agg cs.toArray)) g)(h:st c i n E (some d)=true:=by kernel_rfl)(ho:execOp (ev E) (zv c i)=aY (Instr.loadAt T (.pointer (some ⟨b,off,none⟩))):=by kernel_rfl)(hT:dw P T=some true:=by kernel_rfl)(hs:zL P T=some cs.length:=by kernel_rfl):aS P n c i Q E g:=Rm h ho hT hs hv hk
def oi(d T el sz ln cp:Nat)(k:IntKind)(ix:Int){b off:Nat}{a:Option Addr}(ea:a=some ⟨b,off,none⟩)(h0:0<=ix)(h1:ix<ln)(hk:aS P n c (i+1) Q (aR E d (.pointer (some ⟨b,off+ix.toNat*sz,none⟩))) g)(h:st c i n E (some d)=true:=by kernel_rfl)(ho:execOp (ev E) (zv c i)=aY (Instr.indexAt T (.slice a ln cp) (.int k ix)):=by kernel_rfl)(hT:zH P T=some el:=by kernel_rfl)(hs:zL P el=some sz:=by kernel_rfl):aS P n c i Q E g:=Ro ea h ho hT hs h0 h1 hk
def dp d v(hk:bU P n c k (i+1) Q (aR E d v) g)(h:dst c k i E d=true:=by kernel_rfl)(hr:∀w,(execOp (ev E) (zv c i)).run P w=.ok (.value v) w:=by intro _;kernel_rfl):bU P n c k i Q E g:=lk v h (λ_ _=>hr _) hk
def dq d v(hr:∀w,(execOp (ev E) (zv c i)).run P w=.ok (.value v) w)(hk:bU P n c k (i+1) Q (aR E d v) g)(h:dst c k i E d=true:=by kernel_rfl):bU P n c k i Q E g:=lk v h (λ_ _=>hr _) hk
def ds d(hk:bU P n c k (i+1) Q (aR E d undef) g)(h:CF c k i E d=true:=by kernel_rfl):bU P n c k i Q E g:=Tk h hk
def d1 d T v{b off}(hv:g.cell b off=some v)(hk:bU P n c k (i+1) Q (aR E d v) g)(h:dst c k i E d=true:=by kernel_rfl)(ho:execOp (ev E) (zv c i)=aY (Instr.loadAt T (.pointer (some ⟨b,off,none⟩))):=by kernel_rfl)(hT:dw P T=some false:=by kernel_rfl):bU P n c k i Q E g:=lk v h I7 hk
def dN d T(cs:List Value){b off}(hv:kp g b off cs)(hk:bU P n c k (i+1) Q (aR E d (.agg cs.toArray)) g)(h:dst c k i E d=true:=by kernel_rfl)(ho:execOp (ev E) (zv c i)=aY (Instr.loadAt T (.pointer (some ⟨b,off,none⟩))):=by kernel_rfl)(hT:dw P T=some true:=by kernel_rfl)(hs:zL P T=some cs.length:=by kernel_rfl):bU P n c k i Q E g:=lk _ h I8 hk
def di(d T el sz ln cp:Nat)(kd:IntKind)(ix:Int){b off:Nat}{a:Option Addr}(ea:a=some ⟨b,off,none⟩)(h0:0<=ix)(h1:ix<ln)(hk:bU P n c k (i+1) Q (aR E d (.pointer (some ⟨b,off+ix.toNat*sz,none⟩))) g)(h:dst c k i E d=true:=by kernel_rfl)(ho:execOp (ev E) (zv c i)=aY (Instr.indexAt T (.slice a ln cp) (.int kd ix)):=by kernel_rfl)(hT:zH P T=some el:=by kernel_rfl)(hs:zL P el=some sz:=by kernel_rfl):bU P n c k i Q E g:=by
 subst ea;exact lk _ h (λC f=>G9) hk
def dc{args:Array Value}{B:Prop}{f v}d(hf:Fn P f args g (λu g'=>g=g'/\u=v/\B))(hk:B->bU P n c k (i+1) Q (aR E d v) g)(h:dst c k i E d=true:=by kernel_rfl)(hr:∀w,(execOp (ev E) (zv c i)).run P w=.ok (.enter f args) w:=by intro _;kernel_rfl):bU P n c k i Q E g:=OJ h hr (hf.mono λ_ _ h=>⟨h.1,h.2.1⟩) (hk (by obtain⟨_,_,h⟩:=hf.ex;exact h.2.2))
def ru{args:Array Value}{f v}d(hf:Fn P f args g (λu g'=>g=g'/\u=v))(hk:bU P n c k (i+1) Q (aR E d v) g)(h:dst c k i E d=true:=by kernel_rfl)(hr:∀w,(execOp (ev E) (zv c i)).run P w=.ok (.enter f args) w:=by intro _;kernel_rfl):bU P n c k i Q E g:=OJ h hr hf hk
def de(hk:aS P n c i Q E g)(h:Nat.beq i k=true:=by kernel_rfl):bU P n c k i Q E g:=Uk h hk
def aT{a:Type}{A B o:Option a}d b(hr:(if b=true then A else B)=o)(hf:b=false->B=o->aS P n c (i+1) Q (aR E d (.bool false)) g)(ht:b=true->A=o->aS P n c (i+1) Q (aR E d (.bool true)) g)(h:st c i n E (some d)=true:=by kernel_rfl)(hx:∀w,(execOp (ev E) (zv c i)).run P w=.ok (.value (.bool b)) w:=by intro _;kernel_rfl):aS P n c i Q E g:=by
 cases b with
 | false=>exact uY _ h hx<|hf rfl<|vR rfl hr
 | true=>exact uY _ h hx<|ht rfl<|vQ rfl hr
def gC{a:Type}{A B o:Option a}d b(hr:(if b=true then A else B)=o)(hf:b=false->B=o->bU P n c k (i+1) Q (aR E d (.bool false)) g)(ht:b=true->A=o->bU P n c k (i+1) Q (aR E d (.bool true)) g)(h:dst c k i E d=true:=by kernel_rfl)(hx:∀w,(execOp (ev E) (zv c i)).run P w=.ok (.value (.bool b)) w:=by intro _;kernel_rfl):bU P n c k i Q E g:=by
 cases b with
 | false=>exact lk _ h (λ_ _=>hx _)<|hf rfl<|vR rfl hr
 | true=>exact lk _ h (λ_ _=>hx _)<|ht rfl<|vQ rfl hr
def oe(hq:Q .normal E g)(h:decide ((opsOf c).size<=i)=true:=by kernel_rfl):aS P n c i Q E g:=vg h hq
def ot{c1}(hq:aO P n c1 Q E g)(h:decide ((opsOf c).size<=i)=true:=by kernel_rfl):aS P n c i (im P n c1 Q) E g:=vg h hq
def cs{c p}(hx:aO P n (sub c (0::p)) (im P n (sub c (1::p)) Q) E g)(h:iL (sub c p)=true:=by kernel_rfl):aO P n (sub c p) Q E g:=Ie h hx
def cr{c p}(hx:aS P n (sub c p) 0 Q E g)(h:eF (sub c p)=some false:=by kernel_rfl):aO P n (sub c p) Q E g:=F_ h hx
def cd{c p}k(hx:bU P n (sub c p) k 0 Q E g)(h:eF (sub c p)=some true:=by kernel_rfl)(hm:P.follows .mixedOrders=true:=by kernel_rfl)(hB:kq (sub c p) n k=true:=by kernel_rfl)(hrd:Cu (sub c p) k=true:=by kernel_rfl):aO P n (sub c p) Q E g:=QZ k hx h hm hB hrd
def aM{c p}(hx:aS P n (sub c (0::p)) 0 (im P n (sub c (1::p)) Q) E g)(h:iL (sub c p)=true:=by kernel_rfl)(h2:eF (sub c (0::p))=some false:=by kernel_rfl):aO P n (sub c p) Q E g:=Ie h (F_ h2 hx)
def cI{c1 p}(hx:aS P n (sub c1 p) 0 Q E g)(h:decide ((opsOf c).size<=i)=true:=by kernel_rfl)(h2:eF (sub c1 p)=some false:=by kernel_rfl):aS P n c i (im P n (sub c1 p) Q) E g:=vg h (F_ h2 hx)
def aH{c1 p}(hx:aS P n (sub c1 (0::p)) 0 (im P n (sub c1 (1::p)) Q) E g)(h:decide ((opsOf c).size<=i)=true:=by kernel_rfl)(h1:iL (sub c1 p)=true:=by kernel_rfl)(h2:eF (sub c1 (0::p))=some false:=by kernel_rfl):
  aS P n c i (im P n (sub c1 p) Q) E g:=vg h (aM hx h1 h2)
def cc{a:Type}{A B o:Option a}{c p}b(hr:(if b=true then A else B)=o)(ht:b=true->A=o->aO P n (sub c (0::p)) Q E g)(hf:b=false->B=o->aO P n (sub c (1::p)) Q E g)(h:oa (sub c p)=true:=by kernel_rfl)(hb:ev E (qZ (sub c p))=.bool b:=by kernel_rfl):aO P n (sub c p) Q E g:=GJ b h hb (λe=>ht e (vQ e hr)) (λe=>hf e (vR e hr))
def ct{c p}(ht:aO P n (sub c (0::p)) Q E g)(h:oa (sub c p)=true:=by kernel_rfl)(hb:ev E (qZ (sub c p))=.bool true:=by kernel_rfl):aO P n (sub c p) Q E g:=PF h hb ht
def cf{c p}(ht:aO P n (sub c (1::p)) Q E g)(h:oa (sub c p)=true:=by kernel_rfl)(hb:ev E (qZ (sub c p))=.bool false:=by kernel_rfl):aO P n (sub c p) Q E g:=QH h hb ht
def ck{c p}(hq:Q .normal E g)(h:Cp (sub c p)=true:=by kernel_rfl):aO P n (sub c p) Q E g:=HS h hq
def aG{c c1 p}(hq:aO P n c1 Q E g)(h:Cp (sub c p)=true:=by kernel_rfl):aO P n (sub c p) (im P n c1 Q) E g:=HS h hq
def cx{c p}id(hq:Q (.exit id) E g)(h:CR (sub c p)=some id:=by kernel_rfl):aO P n (sub c p) Q E g:=Ts h hq
def cb{c p}id(hx:aO P n (sub c (0::p)) (kj id Q) E g)(h:vk (sub c p)=some id:=by kernel_rfl):aO P n (sub c p) Q E g:=Q_ h hx
def aC{c p}(hq:Q .ret E g)(h:De (sub c p)=true:=by kernel_rfl):aO P n (sub c p) Q E g:=Ul h hq
def rt{fn:Func}{R:Value->K->Prop}(rs:List ResultVar)vs(h:lK P E g rs vs)(hR:R (nY vs) g)(hr:fn.results=rs.toArray:=by kernel_rfl):ll P fn R .ret E g:=TZ rs vs hr h hR
def rn{fn:Func}{R:Value->K->Prop}(rs:List ResultVar)vs(h:lK P E g rs vs)(hR:R (nY vs) g)(hr:fn.results=rs.toArray:=by kernel_rfl):ll P fn R .normal E g:=SZ rs vs hr h hR
def bo{id id'}(h:Q (.exit id') E g)(hne:Nat.beq id' id=false:=by kernel_rfl):kj id Q (.exit id') E g:=ZT hne h
def aQ{args:Array Value}{R:Value->K->Prop}{f}d(hf:Fn P f args g R)(hk:∀v g',R v g'->aS P n c (i+1) Q (aR E d v) g')(h:st c i n E (some d)=true:=by kernel_rfl)(hr:∀w,(execOp (ev E) (zv c i)).run P w=.ok (.enter f args) w:=by intro _;kernel_rfl):aS P n c i Q E g:=Su h hr hf hk
end
def aL[Fb]{P:Program}{fn:Func}{args:Array Value}{R:Value->K->Prop}{f a}n M(hf:P.funcs[f]?=some fn)(hn:fn.ntmps=n)(h:Step M a a->aO P n (sub (zu fn) []) (ll P fn R) (oo args) a)(hb:fn.body=some (zu fn):=by kernel_rfl)(ha:Nat.ble args.size n=true:=by kernel_rfl):Fn P f args a R:=RJ hf hb hn (gc ha) (h<|u4)
end Go.Lf
namespace Go.Lf
open Go Go.Conc
def Vv{c:Type}(x:c)(l:List c):(x::l).toArray.extract 1 (x::l).toArray.size=l.toArray:=by
 apply Array.ext
 ·simp
 ·intro i a b;simp
def kC[Fb](P:Program)(n:Nat)(c:Code)(i:Nat)(Q:bH)(E:aK)(f:K):Prop:=∀C d a,Fits n a E->∀b k cs,∃e a' w',cQ n C Q e a' w'/\Arrives P (lone (b.at a (.inRegion (opsOf c) (List.range' i<|(opsOf c).size - i)::k)) cs<|W C f d) b k cs e a' w'
section
variable {P:Program} {n:Nat} {c:Code} {i:Nat} {Q:bH} {E:aK} {g:K}
def Qg(h:aS P n c i Q E g):kC P n c i Q E g:=λC d a f b k cs=>by
 obtain⟨e,a',w',q,r⟩:=wp_opsIn (F:=Fence.wide) (n:=0) _ _ _ (h C d a f) {b with roundOf:=none} k cs rfl trivial (room_wide _);exact⟨e,a',w',q,(arrivesIn_iff (b:={b with roundOf:=none}) (λ_ _=>stepsIn_wide) rfl).1 r⟩
def sr{c p}(hx:kC P n (sub c p) 0 Q E g)(h:eF (sub c p)=some false:=by kernel_rfl):aO P n (sub c p) Q E g:=by
 generalize sub c p=s at *;cases s<;>simp[eF]at h;subst h;intro C d a i;refine wpIn_wide.2 λb k cs=>?_;obtain⟨e,a',w',j,f⟩:=hx C d a i b k cs;refine⟨e,a',w',j,.of_steps (.one step_region) ?_⟩;simpa[List.range_eq_range',opsOf]using f
def sp d v(hk:kC P n c (i+1) Q (aR E d v) g)(h:st c i n E (some d)=true:=by kernel_rfl)(hr:∀w,(execOp (ev E) (zv c i)).run P w=.ok (.value v) w:=by intro _;kernel_rfl):kC P n c i Q E g:=by
 obtain⟨m,x,z,y⟩:=jb h;intro C r a l b k cs;obtain⟨e,a',w',u,j⟩:=hk C r _ (l.put (y d rfl) v) b k cs;refine⟨e,a',w',u,.of_steps (.one<|step_lone_go ?_) j⟩;rw[uL m];have A:=stepG_op (P:=P) (b:=b) (k:=k) (cs:=cs) (w:=W C g r) (rest:=List.range' (i+1)<|(opsOf c).size - (i+1)) (a:=a) (ja m) (by rw[iY l];exact x);rw[A,l.eval];have f:(b.at a (.inRegion (opsOf c) (i::List.range' (i+1) ((opsOf c).size - (i+1)))::k)).finish v=b.at (a.put (some d) v) (.inRegion (opsOf c) (List.range' (i+1)<|(opsOf c).size - (i+1))::k):=by
  rw[Frame.finish_at,ja m];simp only[gy,z]
 rw[←f];simp[stepG.apply,hr]
def se(hq:Q .normal E g)(h:decide ((opsOf c).size<=i)=true:=by kernel_rfl):kC P n c i Q E g:=Qg (vg h hq)
def NX{b:Frame}{a:Act}{ops:Array Oper}{cases:Array CommCase}{P k cs i rest o blocking shape w w'}(ho:ops[i]?=some o)(hw:Region.wanted o (yielded ops a.tmps)=true)(hr:(execOp a.eval o).run P w=.ok (.comm cases blocking shape) w'):
  ∃es,stepG P true (G (b.at a (.inRegion ops (i::rest)::k)) cs) w=.comm (G (b.at a (.inRegion ops (i::rest)::k)) cs) cases blocking shape w' es:=by
 rw[stepG_oper ho hw];by_cases c:b.kind=.early
 ·exact⟨_,R6⟩
 ·exact⟨_,R6⟩
structure eO(a:aN)(g:K)(b cap:Nat)(l:List Int):Prop where
 obj:∃s r,g.H[b]?=some (.chan cap (l.map λn=>Value.int .i64 n).toArray false s r false)
 fr:g.fr b=0
 tag:g.tag b=a
 ge:a.1<=b
def eO.lt{g:K}{c b cap l}(h:eO c g b cap l):b<g.H.size:=by
 obtain⟨s,r,a⟩:=h.obj;exact(ae.1 a).1
def eO.step{M c g g' b cap l}(s:Step M g g')(hm:b∉M)(h:eO c g b cap l):eO c g' b cap l:=by
 have hs:=s.2.1 b h.lt hm;obtain⟨x,y,a⟩:=h.obj;exact⟨⟨x,y,hs.1.trans a⟩,hs.2.1.trans h.fr,hs.2.2.trans h.tag,h.ge⟩
def K.setO(g:K)(b:Nat)(o:Obj):K:=⟨g.H.setIfInBounds b o,g.fr,g.tag⟩
def qK{g:K}{b o}(hf:g.fr b=0):Step [b] g (g.setO b o):=by
 refine⟨D5,λx d hm=>⟨?_,rfl,rfl⟩,λx d=>⟨gd _,λh f=>?_⟩,λx d c=>⟨rfl,?_⟩⟩
 ·simp only[K.setO];have:b≠x:=λe=>hm (by simp[e]);rw[ag this]
 ·by_cases a:b=x
  ·subst a;rw[hf]at f;omega
  ·unfold K.cell K.setO;rw[ag a]
 ·have a:b≠x:=λe=>by rw[←e,hf]at c;omega
  unfold K.shp K.setO;rw[ag a]
def Ih{g:K}{l':List Int}{a b cap l}(h:eO a g b cap l)s r:eO a (g.setO b (.chan cap (l'.map λn=>Value.int .i64 n).toArray false s r false)) b cap l':=⟨⟨s,r,by simp[K.setO,h.lt]⟩,h.fr,h.tag,h.ge⟩
def NZ[Fb]{buf:Array Value}{C d b cap s r cl tm}:(W C g d).setChan b cap buf cl s r tm=W C (g.setO b (.chan cap buf cl s r tm)) d:=rfl
def I_{l:List Int}{o b cap x z}(h:eO o g b cap l)(hroom:l.length<cap)(hk:∀g',Step [b] g g'->g.H.size=g'.H.size->eO o g' b cap (l++[x])->kC P n c (i+1) Q E g')(hst:st c i n E none=true:=by kernel_rfl)(hr:∀w,(execOp (ev E) (zv c i)).run P w=.ok (.comm #[scase b (.int .i64 x) z] true .send) w:=by intro _;kernel_rfl):kC P n c i Q E g:=by
 obtain⟨B,G,H,J⟩:=jb hst;intro C v a A y k cs;obtain⟨s,r,f⟩:=h.obj;have D:(execOp a.eval<|zv c i).run P (W C g v)=.ok (.comm #[scase b (.int .i64 x) z] true .send) (W C g v):=by rw[A.eval];exact hr _
 obtain⟨L,I⟩:=NX (P:=P) (b:=y) (k:=k) (cs:=cs) (rest:=List.range' (i+1)<|(opsOf c).size - (i+1)) (ja B) (by rw[iY A];exact G) D;have d:=step_lone_send_room I (show(W C g v).heap[b]?=_ from f) (϶ hroom);have m:(y.at a (.inRegion (opsOf c) (i::List.range' (i+1) ((opsOf c).size - (i+1)))::k)).finish undef=y.at a (.inRegion (opsOf c) (List.range' (i+1)<|(opsOf c).size - (i+1))::k):=by
  rw[Frame.finish_at,ja B];simp only[gy,H];rfl
 rw[m,NZ]at d;have j:(List.map (λn=>Value.int .i64 n) l).toArray.push (.int .i64 x)=(List.map (λn=>Value.int .i64 n) (l++[x])).toArray:=by simp
 rw[j]at d;obtain⟨e,a',w',F,u⟩:=hk _ (qK h.fr) D5 (Ih h (s+1) r) C v a A y k cs;refine⟨e,a',w',F,.of_steps (.one ?_) u⟩;rw[uL B];exact d
def UG{o b cap l x}d z(h:eO o g b cap (x::l))(hk:∀g',Step [b] g g'->g.H.size=g'.H.size->eO o g' b cap l->kC P n c (i+1) Q (aR E d (.int .i64 x)) g')(hst:st c i n E (some d)=true:=by kernel_rfl)(hr:∀w,(execOp (ev E) (zv c i)).run P w=.ok (.comm #[rcase b z] true (.recv false)) w:=by intro _;kernel_rfl):kC P n c i Q E g:=by
 obtain⟨G,J,M,L⟩:=jb hst;intro C B a F D k cs;obtain⟨s,r,m⟩:=h.obj;have H:(execOp a.eval<|zv c i).run P (W C g B)=.ok (.comm #[rcase b z] true (.recv false)) (W C g B):=by rw[F.eval];exact hr _
 obtain⟨O,N⟩:=NX (P:=P) (b:=D) (k:=k) (cs:=cs) (rest:=List.range' (i+1)<|(opsOf c).size - (i+1)) (ja G) (by rw[iY F];exact J) H;have f:=step_lone_recv_buf false N (show(W C g B).heap[b]?=_ from m) si;have y:∀v,(D.at a (.inRegion (opsOf c) (i::List.range' (i+1) ((opsOf c).size - (i+1)))::k)).finish v=D.at (a.put (some d) v) (.inRegion (opsOf c) (List.range' (i+1)<|(opsOf c).size - (i+1))::k):=by
  intro v;rw[Frame.finish_at,ja G];simp only[gy,M]
 rw[y,NZ]at f;have u:(List.map (λn=>Value.int .i64 n) (x::l)).toArray.extract 1 (List.map (λn=>Value.int .i64 n) (x::l)).toArray.size=(List.map (λn=>Value.int .i64 n) l).toArray:=by
  rw[ep];exact Vv _ _
 have j:got false ((List.map (λn=>Value.int .i64 n) (x::l)).toArray.getD 0 undef) true=.int .i64 x:=by simp[got]
 rw[u,j]at f;obtain⟨e,a',w',I,A⟩:=hk _ (qK h.fr) D5 (Ih h s (r+1)) C B _ (F.put (L d rfl)<|.int .i64 x) D k cs;refine⟨e,a',w',I,.of_steps (.one ?_) A⟩;rw[uL G];exact f
end
end Go.Lf
namespace Go.Lf
open Go
def jN(c:Code)(i:Nat):Bool:=
 match(zv c i).op with
 | .load _ _=>true
 | .lookup _ _ _ _=>true
 | .convert _ _ _=>true
 | .call _=>true
 | .index _ _ _=>false
 | _=>false
def ib(q0:Nat)(M:List Nat)(i:Nat):K->K->Prop:=bif Nat.beq i q0 then Step M else Step []
def ii(c:Code):Nat->List (List Nat)
 | 0=>[]
 | k+1=>
  let A:=ii c k
  A++[(List.range k).flatMap λj=>bif cP c k j then j::(A.getD j [])else[]]
def frB(c:Code)(q0 i:Nat):Bool:=!(((ii c (q0+1)).getD q0 []).contains i)
def my(c:Code)(q0:Nat)(M:List Nat)(i:Nat):List Nat:=bif frB c q0 i then M else[]
def XRun(P:Program)(bJ:K->K->Prop)[Fb](C:Cx)(a:K)(R:Value->K->Prop):Result Next->Prop
 | .ok (.value v) w'=>∃a' d',w'=W C a' d'/\bJ a a'/\R v a'
 | .ok (.enter f args) w'=>∃a' d',w'=W C a' d'/\bJ a a'/\Fn P f args a' (λv a''=>bJ a' a''/\R v a'')
 | _=>False
def XC[Fb](P:Program)(c:Code)(nq:List Nat)(q0:Nat)(M:List Nat):List Nat->aK->K->(aK->K->Prop)->Prop
 |[],E,a,R=>R E a
 | i::l,E,a,R=>
  (bV c i E=false/\XC P c nq q0 M l (aR E (dstOf c i) undef) a R) \/
  (bV c i E=true/\nq.contains i=true/\∀C d,XRun P (ib q0 M i) C a (λv a'=>XC P c nq q0 M l (aR E (dstOf c i) v) a' R) ((execOp (ev E) (zv c i)).run P (W C a d))) \/
  (bV c i E=true/\nq.contains i=false/\∃v,(∀a',(jN c i=true->Step (my c q0 M i) a a')->∀C d,(execOp (ev E) (zv c i)).run P (W C a' d)=.ok (.value v) (W C a' d))/\XC P c nq q0 M l (aR E (dstOf c i) v) a R)
def BN{E s t v u}(h:s≠t):aR (aR E s v) t u=aR (aR E t u) s v:=by
 funext x;rw[hY,hY,hY,hY];by_cases a:x=t
 ·by_cases b:x=s
  ·exact x4 (b.symm.trans a) h
  ·rw[Ϙ a,ϙ b,Ϙ a]
 ·rw[ϙ a,ϙ a]
def XRun.mono{bJ:K->K->Prop}{P}[Fb]{R R':Value->K->Prop}{C e}(h:∀v e',bJ e e'->R v e'->R' v e')(tr:∀a b c,bJ a b->bJ b c->bJ a c){r}(hx:XRun P bJ C e R r):XRun P bJ C e R' r:=by
 cases r with
 | halt _ _=>exact hx.elim
 | ok nx w=>
  cases nx with
  | value v=>
   obtain⟨e',j,k,d,l⟩:=hx;exact⟨e',j,k,d,h _ _ d l⟩
  | enter f args=>
   obtain⟨e',j,k,d,l⟩:=hx;exact⟨e',j,k,d,l.mono λv e'' i=>⟨i.1,h _ _ (tr _ _ _ d i.1) i.2⟩⟩
  | _=>exact hx.elim
def NT{q0 M i}:∀a b c,ib q0 M i a b->ib q0 M i b c->ib q0 M i a c:=by
 intro a b c h h';unfold ib at *;cases hb:Nat.beq i q0 with
 | false=>rw[hb]at h h';exact Step.trans h h'
 | true=>rw[hb]at h h';exact Step.trans h h'
section
variable [Fb] {P:Program} {c:Code} {nq:List Nat} {q0:Nat} {M:List Nat} {R:aK->K->Prop}
def XC.swap{i j l E g}(hj:nq.contains j=false)(hji:dstOf c j≠dstOf c i)(hri:dstOf c j∉gW c i)(hrj:dstOf c i∉gW c j)(hsi:mv c i=false)(hsj:mv c j=false)(hq:Nat.beq i q0=true->jN c j=true->frB c q0 j=true)(h:XC P c nq q0 M (j::i::l) E g R):XC P c nq q0 M (i::j::l) E g R:=by
 have k:∀v,∀t∈gW c i,aR E (dstOf c j) v t=E t:=λv t B=>by
  have m:t≠dstOf c j:=λe=>hri (by rw[←e];exact B);rw[hY,ϙ m]
 have a:∀v,∀t∈gW c j,aR E (dstOf c i) v t=E t:=λv t B=>by
  have m:t≠dstOf c i:=λe=>hrj (by rw[←e];exact B);rw[hY,ϙ m]
 have A:∀v,bV c i (aR E (dstOf c j) v)=bV c i E:=λv=>uJ<|k v;have D:∀v,bV c j (aR E (dstOf c i) v)=bV c j E:=λv=>uJ<|a v;have xi:∀v,execOp (ev<|aR E (dstOf c j) v) (zv c i)=execOp (ev E) (zv c i):=λv=>Bv hsi<|k v;have F:∀v,execOp (ev<|aR E (dstOf c i) v) (zv c j)=execOp (ev E) (zv c j):=λv=>Bv hsj<|a v;have key:∃z,(∀(r:aK)g',(∀t∈gW c j,r t=E t)->(jN c j=true->Step (my c q0 M j) g g')->XC P c nq q0 M l (aR r (dstOf c j) z) g' R->XC P c nq q0 M (j::l) r g' R)/\XC P c nq q0 M (i::l) (aR E (dstOf c j) z) g R:=by
  rcases h with⟨b,f⟩ |⟨b,f,_⟩ |⟨b,f,v,h3,h4⟩
  ·exact⟨undef,λr g' y _ x=>.inl ⟨by rw[uJ y];exact b,x⟩,f⟩
  ·rw[hj]at f;cases f
  ·refine⟨v,λr g' y hs x=>.inr<|.inr ⟨by rw[uJ y];exact b,f,v,λg'' hs' C d=>?_,x⟩,h4⟩;rw[Bv hsj y];exact h3 g'' (λhm=>(hs hm).trans<|hs' hm) C d
 obtain⟨z,n,hi⟩:=key;rcases hi with⟨b,f⟩ |⟨b,f,h3⟩ |⟨b,f,v,h3,h4⟩
 ·rw[A]at b;exact .inl ⟨b,n _ _ (a undef) (λ_=>u4) (by rw[←BN hji];exact f)⟩
 ·rw[A]at b;refine .inr<|.inl ⟨b,f,λC d=>?_⟩;have w:=h3 C d;rw[xi]at w;refine XRun.mono (λv g' u x=>?_) NT w;refine n _ _ (a v) (λhm=>?_) (by rw[←BN hji];exact x);unfold ib at u;cases hb:Nat.beq i q0 with
  | false=>rw[hb]at u;exact Step.nil u
  | true=>rw[hb]at u;unfold my;rw[hq hb hm];exact u
 ·rw[A]at b;refine .inr<|.inr ⟨b,f,v,λg' hs C d=>?_,?_⟩
  ·rw[←xi z];exact h3 g' hs C d
  ·exact n _ _ (a v) (λ_=>u4) (by rw[←BN hji];exact h4)
def XC.cons{i l l'}(h:∀E e,XC P c nq q0 M l E e R->XC P c nq q0 M l' E e R){E e}(hx:XC P c nq q0 M (i::l) E e R):XC P c nq q0 M (i::l') E e R:=by
 rcases hx with⟨a,b⟩ |⟨a,b,h3⟩ |⟨a,b,v,h3,h4⟩
 ·exact .inl ⟨a,h _ _ b⟩
 ·exact .inr<|.inl ⟨a,b,λC d=>(h3 C d).mono (λv e' _ f=>h _ _ f) NT⟩
 ·exact .inr<|.inr ⟨a,b,v,h3,h _ _ h4⟩
def XC.front{i l2}:∀{l1:List Nat},(∀j∈l1,nq.contains j=false/\dstOf c j≠dstOf c i/\dstOf c j∉gW c i/\dstOf c i∉gW c j/\mv c j=false/\(Nat.beq i q0=true->jN c j=true->frB c q0 j=true))->mv c i=false->
  ∀{E:aK} {e:K},XC P c nq q0 M (l1++i::l2) E e R->XC P c nq q0 M (i::(l1++l2)) E e R
 |[],_,_,_,_,h=>h
 | j::l1,hl,hsi,E,e,h=>by
  obtain⟨l,d,n,f,m,b⟩:=hl j si;have h':XC P c nq q0 M (j::i::(l1++l2)) E e R:=XC.cons (λE e r=>XC.front (λk a=>hl k (by simp[a])) hsi r) h;exact XC.swap l d n f hsi m b h'
end
def rp:List Nat->Nat->Nat->Bool
 |[],_,_=>false
 | x::xs,j,i=>bif Nat.beq x j then xs.contains i else(bif Nat.beq x i then false else rp xs j i)
def vP:List Nat->Bool
 |[]=>true
 | x::xs=>!xs.contains x&&vP xs
def Dn(k:Nat)(a:List Nat):Bool:=vP a&&a.all (λi=>Nat.blt i k)&&(List.range k).all (λi=>a.contains i)
def Dq(c:Code)(k:Nat)(a nq:List Nat)(q0:Nat):Bool:=let A:=ii c k
 Dn k a&&Cu c k&&((List.range k).all λi=>(List.range k).all λj=>!rp a j i||!cP c j i) &&
 ((List.range k).all λi=>(List.range k).all λj=>!rp a j i||!nq.contains j||(A.getD i []).contains j)
def BV c:∀k,(ii c k).length=k
 | 0=>rfl
 | k+1=>by simp[ii,BV c k]
def Bz c(listed:Nat->Bool)(hcl:∀i j,cP c i j=true->listed i=true->listed j=true):
  ∀k i j,i<k->((ii c k).getD i []).contains j=true->(∀m,cP c i m=true->listed m=true)->listed j=true
 | 0,i,j,hi,_,_=>by omega
 | k+1,i,j,hi,hc,hd=>by
  unfold ii at hc;by_cases a:i<k
  ·have e:(ii c k++[(List.range k).flatMap λj=>bif cP c k j then j::((ii c k).getD j [])else[]]).getD i []=(ii c k).getD i []:=by
    simp only[ϳ];rw[ci (by rw[BV];exact a)]
   simp only[]at hc;rw[e]at hc;exact Bz c listed hcl k i j a hc hd
  ·have a:i=k:=by omega
   subst a;have e:(ii c i++[(List.range i).flatMap λj=>bif cP c i j then j::((ii c i).getD j [])else[]]).getD i []=(List.range i).flatMap λj=>bif cP c i j then j::((ii c i).getD j [])else[]:=by
    simp only[ϳ];rw[cj (by rw[BV];omega),BV];simp
   simp only[]at hc;rw[e]at hc;rw[bh,ϭ]at hc;obtain⟨m,hm,b⟩:=hc;have f:=fg.1 hm;cases hdm:cP c i m with
   | false=>rw[hdm]at b;simp at b
   | true=>
    rw[hdm]at b;have d:=hd m hdm;simp only[cond_true,ey]at b;rcases b with rfl | b
    ·exact d
    ·exact Bz c listed hcl i m j f (by rw[bh];exact b) (λx h=>hcl m x h d)
def Gk(p:Nat->Bool)i j:∀(g:List Nat)l1 l2,g.Nodup->g.filter p=l1++i::l2->j∈l1->rp g j i=true
 |[],l1,l2,_,h,_=>x6 h
 | x::xs,l1,l2,hn,h,hj=>by
  have a:=List.nodup_cons.1 hn;have d:i∈(x::xs).filter p:=by rw[h];simp
  have m:j∈(x::xs).filter p:=by rw[h];simp[hj]
  have l:i≠j:=by
   have k:(l1++i::l2).Nodup:=by rw[←h];exact hn.filter p
   have:=(fj.1 k).2.2 j hj i si;exact this.symm
  unfold rp;by_cases b:x=j
  ·subst b;rw[show Nat.beq x x=true by simp];simp only[cond_true];rw[bh];have:=(fa.1 d).1;rcases ey.1 this with h1 | h1
   ·exact x4 h1 l
   ·exact h1
  ·rw[show Nat.beq x j=false by cases hb:Nat.beq x j with | false=>rfl | true=>exact x4 (ga hb) b];simp only[cond_false];by_cases hp:p x=true
   ·rw[bu hp]at h;cases l1 with
    | nil=>cases hj
    | cons y l1=>
     rw[ϰ,List.cons.injEq]at h;obtain⟨rfl,h⟩:=h;have f:j∈l1:=by
      rcases ey.1 hj with h1 | h1
      ·exact x4 h1.symm b
      ·exact h1
     have c:x≠i:=by
      intro e;subst e;have:x∈xs.filter p:=by rw[h];simp
      exact a.1 (fa.1 this).1
     rw[show Nat.beq x i=false by cases hb:Nat.beq x i with | false=>rfl | true=>exact x4 (ga hb) c];exact Gk p i j xs l1 l2 a.2 h f
   ·rw[br (by simpa using hp)]at h;have c:x≠i:=by
     intro e;subst e;have:x∈xs.filter p:=by rw[h];simp
     exact a.1 (fa.1 this).1
    rw[show Nat.beq x i=false by cases hb:Nat.beq x i with | false=>rfl | true=>exact x4 (ga hb) c];exact Gk p i j xs l1 l2 a.2 h hj
def Oi:∀{l:List Nat},vP l=true->l.Nodup
 |[],_=>List.nodup_nil
 | x::xs,h=>by
  unfold vP at h;simp only[an,au]at h;refine List.nodup_cons.2 ⟨λhm=>?_,Oi h.2⟩;rw[bh.2 hm]at h;cases h.1
def Qu{a:List Nat}{k}(h:Dn k a=true):a.Nodup/\(∀i,i<k->i∈a)/\∀i∈a,i<k:=by
 unfold Dn at h;simp only[an]at h;refine⟨Oi h.1.1,λi hi=>?_,λi hi=>?_⟩
 ·have:=bd.1 h.2 i<|fg.2 hi
  rwa [bh]at this
 ·have:=bd.1 h.1.2 i hi;simpa[Nat.blt,gh]using this
section
variable [Fc] [Fb] {P:Program} {n:Nat} {Q:bH} {E:aK} {g:K}
def US{c0 p}k q nq q0 M(O:XC P (sub c0 p) nq q0 M q E g (λS g'=>aS P n (sub c0 p) k Q S g'))(h:eF (sub c0 p)=some true)(hm:P.follows .mixedOrders=true)(hB:kq (sub c0 p) n k=true)(hchk:Dq (sub c0 p) k q nq q0=true):aO P n (sub c0 p) Q E g:=by
 generalize sub c0 p=s at *;unfold kq at hB;simp only[an,ϛ,Bool.or_eq_true]at hB;obtain⟨⟨⟨⟨hk,b8⟩,d0⟩,c4⟩,e9⟩:=hB;unfold Dq at hchk;simp only[an]at hchk;obtain⟨⟨⟨e2,e8⟩,c2⟩,g6⟩:=hchk;obtain⟨U,g4,hlt⟩:=Qu e2;have I:∀i o,(opsOf s)[i]?=some o->∀e∈o.after,Region.binds .any e=true->e.on<i:=by
  intro i o hi e he B;have hlt:i<(opsOf s).size:=(ae.1 hi).1;have u:=w9 b8 i hlt;have ho:zv s i=o:=by unfold zv;rw[hi];rfl
  rw[ho]at u;have z:=(Array.all_eq_true_iff_forall_mem.1 u) e he;simpa[B]using z
 have G:∀i,i<k->(zv s i).dst=some (dstOf s i)/\dstOf s i<n/\∀j,j<i->dstOf s j≠dstOf s i:=by
  intro i hi;have u:=w9 d0 i hi;simp only[an,ϱ,ϛ]at u;refine⟨u.1.1,u.1.2,λj hj=>?_⟩;have:=bd.1 u.2 j<|fg.2 hj;exact w8
 have a4:∀i j,i<k->j<k->i≠j->dstOf s i≠dstOf s j:=by
  intro i j hi hj b5;rcases gk b5 with h | h
  ·exact(G j hj).2.2 i h
  ·exact((G i hi).2.2 j h).symm
 have a8:∀i,i<k->mv s i=false:=λi hi=>by
  have:=w9 e8 i hi;simp only[an,au]at this;exact this.1
 have T:∀i j,i<k->j<k->cP s i j=false->dstOf s j∉gW s i:=by
  intro i j hi hj hd e3;have:=w9 e8 i hi;simp only[an]at this;have u:=bd.1 this.2 _ e3;rcases Bool.or_eq_true_iff.1 u with z | z
  ·have:=w9 z j hj;simp at this
  ·obtain⟨m,hm,a2⟩:=be.1 z;simp only[an,ϱ]at a2;have h7:=fg.1 hm;by_cases d9:m=j
   ·subst d9;rw[hd]at a2;cases a2.2
   ·exact a4 m j om hj d9 a2.1
 have g3:∀i j,i<(opsOf s).size->cP s i j=true->j<i:=by
  intro i j hi hd;unfold cP at hd;obtain⟨e,he,B⟩:=Array.any_eq_true'.1 hd;simp only[an,ϱ]at B;have:=I i (zv s i) (ja hi) e he B.1;omega
 cases s<;>simp[eF]at h;rename_i id ops dr;subst h;simp only[opsOf]at *;generalize hs:Code.region id ops true=s at *;have c1:opsOf s=ops:=by rw[←hs];rfl
 have e6:∀m listed S g' C d a,Fits n a S->HeadInv .any ops k listed->(∀i j,i<k->listed.getD i false=true->cP s i j=true->listed.getD j false=true)->
   XC P s nq q0 M (q.filter λi=>!listed.getD i false) S g' (λS g'=>aS P n s k Q S g')->fW listed k=m->
   wpAnyIn FF 0 P .any ops (cQ n C Q) (m+(ops.size - k)) listed a (W C g' d):=by
  intro m
  induction m with
  | zero=>
   intro listed S g' C d a hf b a3 Z hu;have J:=GR hu;have c3:listed=hU k ops.size:=by
    apply Array.ext
    ·simp[hU];exact b.size
    ·intro i u z;simp only[hU,Array.getElem_map,Array.getElem_range];by_cases l:i<k
     ·have:=J i l;simp[u]at this;rw[this];simp[l]
     ·have:=b.tail i om (by rw[←b.size];exact u);simp[u]at this;rw[this];simp[l]
   have e5:(q.filter λi=>!listed.getD i false)=[]:=by
    rw[List.filter_eq_nil_iff];intro i hi;rw[J i<|hlt i hi];simp
   rw[e5]at Z;subst c3;have f0:=Z C d a hf;rw[c1]at f0;have hl:=yY (F:=FF) (n:=0) (P:=P) (md:=.any) (ops:=ops) (Q':=cQ n C Q) (ops.toList.drop k) k (hU k ops.size) a (W C g' d)
    F7 (϶ e9) (by
     have he:=wpOpsIn_eq_wpListIn (F:=FF) (n:=0) (P:=P) (ops:=ops) (Q:=cQ n C Q) (ops.toList.drop k) k F7;have hlen:(ops.toList.drop k).length=ops.size - k:=by simp
     rw[hlen]at he;rw[←he];exact f0)
   have hlen:(ops.toList.drop k).length=ops.size - k:=by simp
   rw[hlen]at hl;simpa using hl
  | succ m ih=>
   intro listed S g' C d a hf b a3 Z hu;obtain⟨i0,g1,b3,c8⟩:=GX hu;have L:i0<ops.size:=by omega
   have A:i0∈Region.ready .any ops listed:=by
    refine mem_ready.2 ⟨?_,ops[i0],by simp[L],?_⟩
    ·have:i0<listed.size:=by rw[b.size];exact L
     simp[this]at b3 ⊢;exact b3
    ·intro e he B;exact c8 e.on<|I i0 ops[i0] (by simp[L]) e he B
   have f5:m+1+(ops.size - k)=(m+(ops.size - k))+1:=by omega
   rw[f5];refine⟨D9 A,λi hi=>?_⟩;obtain⟨g5,oi,b7,J⟩:=mem_ready.1 hi;have e4:i<ops.size:=(ae.1 b7).1;have l:i<k:=by
    rcases gj i k with h | h
    ·exact h
    ·rcases c4 with ht |⟨hs',hc⟩
     ·omega
     ·have c7:listed.getD i0 true=false:=getD_in (by rw[b.size];exact L) b3;exact x4 hi<|tail_waits hs' hc om b _ i0 rfl g1 c7 i h
   have X:zv s i=oi:=by unfold zv;rw[c1,b7];rfl
   obtain⟨f8,f6,g9⟩:=G i l;have d4:listed.getD i false=false:=getD_both g5;have V:i<listed.size:=by rw[b.size];exact e4
   have w:∀j,cP s i j=true->listed.getD j false=true:=by
    intro j b9;unfold cP at b9;rw[X]at b9;obtain⟨e,he,B⟩:=Array.any_eq_true'.1 b9;simp only[an,ϱ]at B;have u:=J e he B.1;rw[B.2]at u;exact u
   have b4:i∈q.filter λi=>!listed.getD i false:=fa.2 ⟨g4 i l,by rw[d4];rfl⟩;obtain⟨l1,l2,c⟩:=List.append_of_mem b4;have e0:∀j,j<k->((ii s k).getD i []).contains j=true->listed.getD j false=true:=λj _ hc=>
    Bz s (λx=>listed.getD x false) (λx y b6 O=>by
     rcases gj x k with h | h
     ·exact a3 x y h O b6
     ·have:listed.getD x false=false:=by
       rcases gj x ops.size with z | z
       ·exact getD_both<|b.tail x h z
       ·simp[ϩ (show listed.size<=x by rw[b.size];exact z)]
      rw[this]at O;cases O) k i j l hc w
   rw[c]at Z;have g2:=XC.front (l1:=l1) (λj hj=>by
    have d5:j∈q.filter λi=>!listed.getD i false:=by rw[c];simp[hj]
    have D:=hlt j (fa.1 d5).1;have N:listed.getD j false=false:=by have:=(fa.1 d5).2;simpa using this
    have d8:=Gk _ i j q l1 l2 U c hj;have b5:i≠j:=by
     have c6:(l1++i::l2).Nodup:=by rw[←c];exact U.filter _
     exact((fj.1 c6).2.2 j hj i si).symm
    refine⟨?_,a4 j i D l b5.symm,T i j l D ?_,T j i D l ?_,a8 j D,λf7 _=>?_⟩
    ·have u:=w9 (bd.1 g6 i<|fg.2 l) j D;rw[d8]at u;cases hc:nq.contains j with
     | false=>rfl
     | true=>
      rw[hc]at u;simp only[av,Bool.false_or]at u;rw[e0 j D u]at N;cases N
    ·cases hd:cP s i j with
     | false=>rfl
     | true=>rw[w j hd]at N;cases N
    ·have u:=w9 (bd.1 c2 i<|fg.2 l) j D;rw[d8]at u;simpa using u
    ·have:=ga f7;subst this;cases hc:frB s i j with
     | true=>rfl
     | false=>
      unfold frB at hc;have f3:((ii s (i+1)).getD i []).contains j=true:=϶ hc
      have:=Bz s (λx=>listed.getD x false) (λx y b6 O=>by
       rcases gj x k with h | h
       ·exact a3 x y h O b6
       ·have:listed.getD x false=false:=by
         rcases gj x ops.size with z | z
         ·exact getD_both<|b.tail x h z
         ·simp[ϩ (show listed.size<=x by rw[b.size];exact z)]
        rw[this]at O;cases O) (i+1) i j om f3 w
      rw[this]at N;cases N) (a8 i l) Z
   have c6:(l1++i::l2).Nodup:=by rw[←c];exact U.filter _
   have d6:(q.filter λx=>!(listed.setIfInBounds i true).getD x false)=l1++l2:=by
    have e1:(q.filter λx=>!(listed.setIfInBounds i true).getD x false)=(q.filter λx=>!listed.getD x false).filter (λx=>!Nat.beq x i):=by
     rw[List.filter_filter];apply Iw;intro x _;by_cases R:x=i
     ·subst R;simp[V]
     ·rw[getD_set_ne false<|Ne.symm R];have:Nat.beq x i=false:=by
       cases B:Nat.beq x i with
       | false=>rfl
       | true=>exact x4 (ga B) R
      rw[this];simp
    rw[e1,c,bq,br si];have b0:=fj.1 c6;have f9:=List.nodup_cons.1 b0.2.1;rw[bz.2,bz.2]
    ·intro x O;have:x≠i:=λe=>f9.1 (e▸O);cases B:Nat.beq x i with
     | false=>rfl
     | true=>exact x4 (ga B) this
    ·intro x O;have:x≠i:=b0.2.2 x O i si;cases B:Nat.beq x i with
     | false=>rfl
     | true=>exact x4 (ga B) this
   have H:∀v g2 d2,XC P s nq q0 M (l1++l2) (aR S (dstOf s i) v) g2 (λS g'=>aS P n s k Q S g')->
     wpAnyIn FF 0 P .any ops (cQ n C Q) (m+(ops.size - k)) (listed.setIfInBounds i true) (a.put oi.dst v) (W C g2 d2):=by
    intro v g2 d2 f4;rw[←X,f8];refine ih _ (aR S (dstOf s i) v) g2 C d2 _ (hf.put f6 v) (b.set hi l) ?_ (by rw[d6];exact f4) ?_
    ·intro x y f1 d7 b2;by_cases c9:y=i
     ·subst c9;simp[V]
     ·rw[getD_set_ne false<|Ne.symm c9];by_cases R:x=i
      ·subst R;exact w y b2
      ·rw[getD_set_ne false<|Ne.symm R]at d7;exact a3 x y f1 d7 b2
    ·have:=Cd l V d4;omega
   unfold wpOpIn;simp only[b7];have Y:=iY hf s i;rw[X,c1]at Y;rw[Y];rcases g2 with⟨u,z⟩ |⟨u,z,h3⟩ |⟨u,z,v,h3,h4⟩
   ·rw[u,ϙ si];exact⟨B1,H undef g' d z⟩
   ·rw[u,Ϙ rfl];have hq:=h3 C d;rw[X,←hf.eval]at hq;generalize hrr:(execOp a.eval oi).run P (W C g' d)=r at *;cases r with
    | halt x w'=>exact hq.elim
    | ok nx w'=>
     cases nx with
     | value v=>
      obtain⟨g2,d2,rfl,f2,hS⟩:=hq;exact kl hrr<|H v g2 d2 hS
     | enter f args=>
      obtain⟨g2,d2,rfl,f2,g0⟩:=hq;refine Bw hrr ?_;refine(g0 C d2).mono ?_;rintro e w2 ⟨v,g3,d3,rfl,rfl,g8,hS⟩;exact H v g3 d3 hS
     | _=>exact hq.elim
   ·rw[u,Ϙ rfl];have hq:=h3 g' (λ_=>u4) C d;rw[X,←hf.eval]at hq;exact kl hq<|H v g' d h4
 intro C d a hf;rw[←hs];refine wpIn_region_any hm ?_;have hu:fW (Array.replicate ops.size false) k=k:=by
  unfold fW;exact O1
 have c5:(q.filter λi=>!(Array.replicate ops.size false).getD i false)=q:=by
  rw[bz];intro i _;rw[getD_replicate_false];rfl
 have hm':=e6 k (Array.replicate ops.size false) E g C (d+1) a hf
  ⟨by simp,λj oj _ hl=>(E4 hl),λt _ ht=>getD_in (϶ ht)<|L7⟩
  (λi j _ hl=>E4 hl) (by rw[c5];exact O) hu
 have hsz:k+(ops.size - k)=ops.size:=by omega
 rw[hsz]at hm';exact hm'
end
def bR[Fc][Fb](P:Program)(n:Nat)(c:Code)(k:Nat)(nq:List Nat)(q0:Nat)(M:List Nat)(b:List Nat)(Q:bH)(E:aK)(a:K):Prop:=XC P c nq q0 M b E a (λE' a'=>aS P n c k Q E' a')
def iR(c:Code)(nq:List Nat)(i:Nat)(E:aK)(d:Nat):Bool:=bV c i E&&nq.contains i&&Nat.beq (dstOf c i) d
def gX(c:Code)(nq:List Nat)(i:Nat)(E:aK)(d:Nat):Bool:=bV c i E&&!nq.contains i&&Nat.beq (dstOf c i) d
def HP(c:Code)(i:Nat)(E:aK)(d:Nat):Bool:=!bV c i E&&Nat.beq (dstOf c i) d
section
variable [Fc] [Fb] {P:Program} {n:Nat} {c:Code} {i k:Nat} {nq:List Nat} {q0:Nat} {M:List Nat} {s:List Nat} {Q:bH} {E:aK} {q:K}
def cA{c0 p}k s nq q0 M(hx:bR P n (sub c0 p) k nq q0 M s Q E q)(h:eF (sub c0 p)=some true:=by kernel_rfl)(hm:P.follows .mixedOrders=true:=by kernel_rfl)(hB:kq (sub c0 p) n k=true:=by kernel_rfl)(hchk:Dq (sub c0 p) k s nq q0=true:=by kernel_rfl):aO P n (sub c0 p) Q E q:=US k s nq q0 M hx h hm hB hchk
def xe(hk:aS P n c k Q E q):bR P n c k nq q0 M [] Q E q:=hk
def vJ{d}v(h:gX c nq i E d=true)(hr:∀q',Step (my c q0 M i) q q'->∀C d0,(execOp (ev E) (zv c i)).run P (W C q' d0)=.ok (.value v) (W C q' d0))(hm:jN c i=true)(hk:bR P n c k nq q0 M s Q (aR E d v) q):bR P n c k nq q0 M (i::s) Q E q:=by
 unfold gX at h;simp only[an,au]at h;obtain⟨⟨a,b⟩,f⟩:=h;have:=ga f;subst this;exact .inr<|.inr ⟨a,b,v,λq' hs C d=>hr q' (hs hm) C d,hk⟩
def xq d v(hr:∀w,(execOp (ev E) (zv c i)).run P w=.ok (.value v) w)(hk:bR P n c k nq q0 M s Q (aR E d v) q)(h:gX c nq i E d=true:=by kernel_rfl):bR P n c k nq q0 M (i::s) Q E q:=by
 unfold gX at h;simp only[an,au]at h;obtain⟨⟨a,b⟩,f⟩:=h;have:=ga f;subst this;exact .inr<|.inr ⟨a,b,v,λq' hs C d=>hr _,hk⟩
def xp d v(hk:bR P n c k nq q0 M s Q (aR E d v) q)(h:gX c nq i E d=true:=by kernel_rfl)(hr:∀w,(execOp (ev E) (zv c i)).run P w=.ok (.value v) w:=by intro _;kernel_rfl):bR P n c k nq q0 M (i::s) Q E q:=xq d v hr hk h
def xs d(hk:bR P n c k nq q0 M s Q (aR E d undef) q)(h:HP c i E d=true:=by kernel_rfl):bR P n c k nq q0 M (i::s) Q E q:=by
 unfold HP at h;simp only[an,au]at h;have:=ga h.2;subst this;exact .inl ⟨h.1,hk⟩
def OT{q'}(h:frB c q0 i=false)(hs:Step (my c q0 M i) q q'):Step [] q q':=by unfold my at hs;rw[h]at hs;exact hs
def UX{q'}(hs:Step (my c q0 M i) q q'):Step M q q':=by
 unfold my at hs;cases hb:frB c q0 i with
 | false=>rw[hb]at hs;exact hs.nil
 | true=>rw[hb]at hs;exact hs
def HN d T v{cs:List Value}{b off}(hv:At q b off cs)(hn:b∉M)o(hj:cs[o]?=some v)(hk:bR P n c k nq q0 M s Q (aR E d v) q)(h:gX c nq i E d=true:=by kernel_rfl)(ho:execOp (ev E) (zv c i)=aY (Instr.loadAt T (.pointer (some ⟨b,off+o,none⟩))):=by kernel_rfl)(hT:dw P T=some false:=by kernel_rfl)(hm:jN c i=true:=by kernel_rfl):bR P n c k nq q0 M (i::s) Q E q:=vJ v h (λq' hs C a=>by rw[ho];exact zD<|nN hT<|(hv.step (UX hs) hn).one hj) hm hk
def HO d T v{cs:List Value}{b off}(hv:PubAt q b off cs)o(hj:cs[o]?=some v)(hk:bR P n c k nq q0 M s Q (aR E d v) q)(h:gX c nq i E d=true:=by kernel_rfl)(ho:execOp (ev E) (zv c i)=aY (Instr.loadAt T (.pointer (some ⟨b,off+o,none⟩))):=by kernel_rfl)(hT:dw P T=some false:=by kernel_rfl)(hm:jN c i=true:=by kernel_rfl):bR P n c k nq q0 M (i::s) Q E q:=vJ v h (λq' hs C a=>by rw[ho];exact zD<|nN hT<|(hv.step hs).at.one hj) hm hk
def x1 d T v{cs:List Value}{b off}(hv:At q b off cs)o(hj:cs[o]?=some v)(hk:bR P n c k nq q0 M s Q (aR E d v) q)(h:gX c nq i E d=true:=by kernel_rfl)(ho:execOp (ev E) (zv c i)=aY (Instr.loadAt T (.pointer (some ⟨b,off+o,none⟩))):=by kernel_rfl)(hT:dw P T=some false:=by kernel_rfl)(hm:jN c i=true:=by kernel_rfl)(hf:frB c q0 i=false:=by kernel_rfl):bR P n c k nq q0 M (i::s) Q E q:=vJ v h (λq' hs C a=>by rw[ho];exact zD<|nN hT<|(hv.step0<|OT hf hs).one hj) hm hk
def xN d T(vs:List Value){cs:List Value}{b off}(hv:At q b off cs)o m(hj:(cs.drop o).take m=vs)(hk:bR P n c k nq q0 M s Q (aR E d (.agg vs.toArray)) q)(h:gX c nq i E d=true:=by kernel_rfl)(ho:execOp (ev E) (zv c i)=aY (Instr.loadAt T (.pointer (some ⟨b,off+o,none⟩))):=by kernel_rfl)(hT:dw P T=some true:=by kernel_rfl)(hs:zL P T=some vs.length:=by kernel_rfl)(hm:jN c i=true:=by kernel_rfl)(hf:frB c q0 i=false:=by kernel_rfl):bR P n c k nq q0 M (i::s) Q E q:=vJ _ h (λq' a C f=>by rw[ho];exact zD<|uA hT hs (by have:=((hv.step0<|OT hf a).part o m).2;rw[hj]at this;exact this)) hm hk
def xi(d T el sz ln cp:Nat)(kd:IntKind)(ix:Int){b off:Nat}{a:Option Addr}(ea:a=some ⟨b,off,none⟩)(h0:0<=ix)(h1:ix<ln)(hk:bR P n c k nq q0 M s Q (aR E d (.pointer (some ⟨b,off+ix.toNat*sz,none⟩))) q)(h:gX c nq i E d=true:=by kernel_rfl)(ho:execOp (ev E) (zv c i)=aY (Instr.indexAt T (.slice a ln cp) (.int kd ix)):=by kernel_rfl)(hT:zH P T=some el:=by kernel_rfl)(hs:zL P el=some sz:=by kernel_rfl):bR P n c k nq q0 M (i::s) Q E q:=by
 subst ea;exact xq d _ (λw=>G9) hk h
def qT{d}(R:Value->K->Prop)(h:iR c nq i E d=true)(hrel:∀v q',R v q'->ib q0 M i q q')(hr:∀C b,∃v q' d1,(execOp (ev E) (zv c i)).run P (W C q b)=.ok (.value v) (W C q' d1)/\R v q')(hk:∀v q',R v q'->bR P n c k nq q0 M s Q (aR E d v) q'):bR P n c k nq q0 M (i::s) Q E q:=by
 unfold iR at h;simp only[an]at h;obtain⟨⟨l,j⟩,m⟩:=h;have:=ga m;subst this;refine .inr<|.inl ⟨l,j,λC b=>?_⟩;obtain⟨v,q',d1,a,f⟩:=hr C b;rw[a];exact⟨q',d1,rfl,hrel _ _ f,hk _ _ f⟩
def uX{q q'}(h:Step [] q q'):ib q0 M i q q':=by
 unfold ib;cases Nat.beq i q0 with
 | false=>exact h
 | true=>exact h.nil
def cS{args:Array Value}{R:Value->K->Prop}{f}d(hf:Fn P f args q R)(hk:∀v q',R v q'->Step [] q q'/\bR P n c k nq q0 M s Q (aR E d v) q')(h:iR c nq i E d=true:=by kernel_rfl)(hr:∀w,(execOp (ev E) (zv c i)).run P w=.ok (.enter f args) w:=by intro _;kernel_rfl):bR P n c k nq q0 M (i::s) Q E q:=by
 unfold iR at h;simp only[an]at h;obtain⟨⟨l,j⟩,m⟩:=h;have:=ga m;subst this;refine .inr<|.inl ⟨l,j,λC b=>?_⟩;rw[hr];exact⟨q,b,rfl,uX<|u4,hf.mono λv q' a=>⟨uX (hk v q' a).1,(hk v q' a).2⟩⟩
def Qw{T:TypeId}{d}(τ:aN)(hτ:τ.1<=q.H.size)(zs:List Value)(h:iR c nq i E d=true)(ho:execOp (ev E) (zv c i)=aY (Instr.alloc T true (.tuple #[])))(hz:(eX P T).map Value.cells=some zs.toArray)(hk:∀b q',Step [] q q'->aI τ q' b zs T->bR P n c k nq q0 M s Q (aR E d (.pointer (some ⟨b,0,none⟩))) q'):bR P n c k nq q0 M (i::s) Q E q:=by
 obtain⟨z,f,a⟩:=ia.1 hz;refine qT (λv q'=>∃b,v=.pointer (some ⟨b,0,none⟩)/\Step [] q q'/\aI τ q' b zs T) h (λv q' ⟨b,_,hs,_⟩=>uX hs) (λC j=>?_) ?_
 ·refine⟨_,q.push (.cells zs.toArray T) 0 τ,j,?_,q.H.size,rfl,fZ _ _ _ _,BU _ _ _ _ hτ⟩;rw[ho];refine zD ?_;unfold Instr.alloc;simp only[ax,qA f,aw];unfold newVar newRow;rw[a];rfl
 ·rintro v q' ⟨b,rfl,hs,l⟩;exact hk b q' hs l
variable {D:Type} {t:Ty D} {pub:Bool} {τ:aN} {e T:TypeId} {a a2:Option Addr} {cp c2:Nat} {l l2 r:List D}
def iD{d bytes}(h:iR c nq i E d=true)(ho:execOp (ev E) (zv c i)=aY (Builtin.append_ #[T,T] 0 #[.slice a l.length cp,.slice a2 l2.length c2]))(hg:Gr t pub τ q e a cp l)(h2:Sl t q a2 c2 l2)(hτ:τ.1<=q.H.size)(hT:hX P T=some (e,t.size,t.size,bytes))(hx:aX bytes l l2=some r)(hrel:ib q0 M i=Step (aD a cp))(hk:∀a' c' q',Step (aD a cp) q q'->Gr t pub τ q' e a' c' r->(∀g∈aD a' c',g∈aD a cp\/q.H.size<=g)->bR P n c k nq q0 M s Q (aR E d (.slice a' r.length c')) q'):bR P n c k nq q0 M (i::s) Q E q:=by
 obtain⟨x,z,m,y⟩:=uI hT;obtain⟨A,hm,rfl⟩:=nU hx;refine qT (λv q'=>∃a' c',v=.slice a' (l++l2).length c'/\Step (aD a cp) q q'/\Gr t pub τ q' e a' c' (l++l2)/\∀g∈aD a' c',g∈aD a cp\/q.H.size<=g) h (λv q' ⟨_,_,_,hs,_⟩=>by rw[hrel];exact hs) (λC j=>?_) ?_
 ·obtain⟨a',c',q',u,w,hs,b,f⟩:=Ga (P:=P) (T:=T) (ty:=0) hg h2 hτ x z m y A hm C j;exact⟨_,q',u,x8 w,a',c',rfl,hs,b,f⟩
 ·rintro v q' ⟨a',c',rfl,hs,b,f⟩;exact hk a' c' q' hs b f
def eD{parts:Array (Nat×Value)}{d len cs}(h:iR c nq i E d=true)(ho:execOp (ev E) (zv c i)=aY (Instr.buildSlice T len parts))(hi:vt P T len parts=some (e,t.size,cs))(hs:Nat.blt 0 t.size=true)(hτ:τ.1<=q.H.size)(hl:l.length=len)(hr:bA t q cs l)(hm:Nat.ble len 1000000=true)(hk:∀a' q',Step [] q q'->Gr t pub τ q' e a' len l->bR P n c k nq q0 M s Q (aR E d (.slice a' len len)) q'):bR P n c k nq q0 M (i::s) Q E q:=by
 subst hl;have hm':=gc hm;refine qT (λv q'=>∃a',v=.slice a' l.length l.length/\Step [] q q'/\Gr t pub τ q' e a' l.length l) h (λv q' ⟨_,_,hs,_⟩=>uX hs) (λC a=>?_) ?_
 ·exact⟨_,_,a,T8,_,rfl,fZ _ _ _ _,Hi hr om hτ⟩
 ·rintro v q' ⟨a',rfl,hs,b⟩;exact hk a' q' hs b
def Pb{zs:List Value}{z:D}{d bytes k1 k2 m}(h:iR c nq i E d=true)(ho:execOp (ev E) (zv c i)=aY (Instr.makeSlice T (.int k1 m) (.int k2 m)))(hT:hX P T=some (e,t.size,t.size,bytes))(hz:(eX P e).map Value.cells=some zs.toArray)(hzo:t.own q zs z)(hx:eM bytes m z=some r)(hτ:τ.1<=q.H.size)(hk:∀a' q',Step [] q q'->Gr t pub τ q' e a' r.length r->bR P n c k nq q0 M s Q (aR E d (.slice a' r.length r.length)) q'):bR P n c k nq q0 M (i::s) Q E q:=by
 refine qT (λv q'=>∃a',v=.slice a' r.length r.length/\Step [] q q'/\Gr t pub τ q' e a' r.length r) h (λv q' ⟨_,_,hs,_⟩=>uX hs) (λC b=>?_) ?_
 ·obtain⟨a',q',f,hs,a⟩:=T9;exact⟨_,q',b,x8 f,a',rfl,hs,a⟩
 ·rintro v q' ⟨a',rfl,hs,a⟩;exact hk a' q' hs a
def gY{a:Type}{A B o:Option a}d b(hr:(if b=true then A else B)=o)(hf:b=false->B=o->bR P n c k nq q0 M s Q (aR E d (.bool false)) q)(ht:b=true->A=o->bR P n c k nq q0 M s Q (aR E d (.bool true)) q)(h:gX c nq i E d=true:=by kernel_rfl)(hx:∀w,(execOp (ev E) (zv c i)).run P w=.ok (.value (.bool b)) w:=by intro _;kernel_rfl):bR P n c k nq q0 M (i::s) Q E q:=by
 cases b with
 | false=>exact xq d _ hx (hf rfl<|vR rfl hr) h
 | true=>exact xq d _ hx (ht rfl<|vQ rfl hr) h
end
def dO(s t:List UInt8):Option (List UInt8):=if s.length+t.length<=9223372036854775807 then some (s++t)else none
def Ob{s t:List UInt8}{r}(h:dO s t=some r):s.length+t.length<=9223372036854775807/\r=s++t:=by
 unfold dO at h;split at h
 ·rename_i h0;exact⟨h0,(A5 h).symm⟩
 ·cases h
def qO{r:List UInt8}{s t}(h:dO s t=some r):r.length<=9223372036854775807:=by
 obtain⟨a,rfl⟩:=Ob h;rw[dt];exact a
section
variable {P:Program} {E:aK} {c:Code} {i:Nat} {s t r:List UInt8} {w:World} {g:K}
def kU(h:execOp (ev E) (zv c i)=aY (do eqGuard .add 0 (.tmp 0) (.tmp 0) (strV s) (strV t);binOp .add 0 (strV s) (strV t)))(hx:dO s t=some r):
  (execOp (ev E) (zv c i)).run P w=.ok (.value (strV r)) w:=by
 obtain⟨a,rfl⟩:=Ob hx;rw[h];refine zD ?_;have d:binOp .add 0 (strV s) (strV t)=Op.stringOp .add ⟨s.toArray⟩ ⟨t.toArray⟩:=rfl;rw[ax,d];have b:(eqGuard .add 0 (.tmp 0) (.tmp 0) (strV s)<|strV t).run P w=.ok () w:=by simp[eqGuard,strV]
 rw[b];simp only[aw];rw[run_string_add_sum w _ _ (by simpa[ByteArray.size]using a),ByteArray.mk_append_mk];rfl
def f_(l:List Int):List UInt8:=l.map λn=>UInt8.ofNat n.toNat
def zze(l:List Int):(f_ l).length=l.length:=by simp[f_]
def P'(l:List Int):∀r:ByteArray,l.foldl (λr n=>r.push (UInt8.ofNat n.toNat)) r=⟨r.data++(f_ l).toArray⟩:=by
 induction l with
 | nil=>intro r;simp[f_]
 | cons n l ih=>
  intro r;rw[cg,ih];simp[f_,ByteArray.push]
def zyl{src dst e:TypeId}{l:List Int}{a cp}(hs:zH P src=some e)(he:P.underlying e=some (.int .u8))(hd:P.underlying dst=some .string)(h:Sl eV g a cp l)[Fb](C:Cx)d:
  (convert src dst (.slice a l.length cp)).run P (W C g d)=.ok (strV (f_ l)) (W C g d):=by
 rw[run_convert_bytes_string _ src dst e a l.length cp (mh hs) he hd];cases a with
 | none=>
  have:l=[]:=by
   cases l with
   | nil=>rfl
   | cons x l=>obtain⟨b,off,c,_⟩:=h.elems si;cases c
  subst this;rfl
 | some ad=>
  have u:(loadCells ad l.length).run P (W C g d)=.ok (l.map<|Value.int .u8).toArray (W C g d):=by
   have:=run_loadCells_list (P:=P) (W C g d) ad (l.map<|Value.int .u8) (λj v i=>?_)
   ·rw[dy]at this;exact this
   ·rw[cw]at i;obtain⟨n,k,rfl⟩:=ia.1 i;have hlt:=(cv.1 k).1;obtain⟨b,off,c,f⟩:=h.elems om;obtain⟨cs,hp,m,_⟩:=f j n k;injection c with c
    subst c;rw[jE,lm];subst m;have:=hp.2.2 0 _ rfl;have r:eV.size=1:=rfl;rw[r,Nat.mul_one,Ϩ]at this;exact this
  rw[run_bytesToString _ ad l.length cp l u,P'];unfold strV;have:ByteArray.empty.data=#[]:=rfl;rw[this];simp
def Gr.blen{e:TypeId}{pub b a cp l}(h:Gr eV pub b g e a cp l):(f_ l).length<=9223372036854775807:=by rw[zze];exact Ci h.most
end
section
variable [Fc] [Fb] {P:Program} {n:Nat} {c:Code} {i k:Nat} {nq:List Nat} {q0:Nat} {M:List Nat} {g:List Nat} {Q:bH} {E:aK} {f:K}
def CJ d src dst e{l:List Int}{a cp}(hf:Sl eV f a cp l)(hk:aS P n c (i+1) Q (aR E d (strV (f_ l))) f)(h:st c i n E (some d)=true:=by kernel_rfl)(ho:execOp (ev E) (zv c i)=aY (convert src dst (.slice a l.length cp)):=by kernel_rfl)(hs:zH P src=some e:=by kernel_rfl)(he:P.underlying e=some (.int .u8):=by kernel_rfl)(hd:P.underlying dst=some .string:=by kernel_rfl):aS P n c i Q E f:=jc _ h (λC b=>by rw[ho];exact zD<|zyl hs he hd hf C b) hk
end
def At.nbox{d:K}{T:TypeId}{d' b off cs f b' cs'}(h:At d b off cs)(hB:aI f d' b' cs' T)(ht:d.H.size<=f.1):b∉[b']:=aU (λe=>by
 have a:=h.1;have c:=hB.ge;omega)
structure dR(c:aN)(a:K)(b:Nat):Prop where
 lt:b<a.H.size
 fr:a.fr b=0
 tag:a.tag b=c
 ge:c.1<=b
def aI.o{T:TypeId}{a c b cs}(h:aI a c b cs T):dR a c b:=I6
def dR.ne{a a' c b b'}(h:dR a c b)(h':dR a' c b')(hn:a≠a'):b≠b':=λe=>by
 subst e;exact hn (h.tag.symm.trans h'.tag)
def dR.tlt{c:K}{a b}(h:dR a c b):a.1<c.H.size:=ϣ h.ge h.lt
section
variable {k:Type} {t:Ty k} {pub:Bool} {i i':aN} {j:K} {e:TypeId} {a:Option Addr} {c:Nat} {l:List k} {b:Nat}
def Gr.nbo(h:Gr t pub i j e a c l)(h':dR i' j b)(hn:i≠i'):∀g∈aD a c,g∉[b]:=λg d hm=>by
 have f:g=b:=by simpa using hm
 subst f;exact hn ((h.lt g d).2.1.symm.trans h'.tag)
def Gr.bno(h:Gr t pub i j e a c l)(h':dR i' j b)(hn:i'≠i):b∉aD a c:=λd=>hn (h'.tag.symm.trans (h.lt b d).2.1)
end
structure KT(a:Type) where
 enc:a->Value
 inj:∀{x y},enc x=enc y->x=y
def kStr:KT (List UInt8):=⟨strV,λ{x y} h=>by unfold strV at h;injection h with h;injection h with h;injection h⟩
def jP:KT Int:=⟨λn=>.int .i64 n,λ{x y} h=>by injection h⟩
def cF:KT (Int×Int):=⟨λp=>.agg #[.int .i64 p.1,.int .i64 p.2],λ{x y} h=>by
 injection h with h;injection h with h;injection h with h1 h2;injection h2 with h2 _;injection h1 with _ h1;injection h2 with _ h2;exact Prod.ext h1 h2⟩
structure KeyOk{a:Type}(P:Program)(kd:TypeId)(kt:KT a):Prop where
 check:∀em w x,(Instr.checkKey em 10000 kd (kt.enc x)).run P w=.ok () w
 find:∀x (es:List MapEntry) w,(∀e∈es,∃y,e.key=kt.enc y)->
  ((∀e∈es,e.key≠kt.enc x)/\(Instr.findKey kd (kt.enc x) es).run P w=.ok none w) \/
  ∃(j:Nat)(e:MapEntry),es[j]?=some e/\e.key=kt.enc x/\(Instr.findKey kd (kt.enc x) es).run P w=.ok (some (j,e.val)) w
 stays:∀w x,(Instr.keyThatStays (kt.enc x) (kt.enc x)).run P w=.ok (kt.enc x) w
def OZ{a:Type}{P:Program}{kd:TypeId}{kt:KT a}{d:TypeDesc}(hd:P.underlying kd=some d)(hk:∀x,Go.MapKept.IsKey d (kt.enc x)):KeyOk P kd kt where
 check:=λem w x=>Go.MapKept.run_checkKey hd (hk x) em 9999
 find:=λx es w he=>by
  rcases Go.MapKept.findNow_spec (hk x) es 0 (λe h=>by obtain⟨y,hy⟩:=he e h;rw[hy];exact hk y)with⟨h1,h2⟩ |⟨j,e,h1,h2,h3⟩
  ·exact .inl ⟨h2,Go.MapKept.run_findKey hd h1⟩
  ·exact .inr ⟨j,e,h2,h3,by simpa using Go.MapKept.run_findKey (P:=P) (w:=w) hd h1⟩
 stays:=λw x=>Go.MapKept.run_keyThatStays (hk x)
def Gz{P:Program}{kd:TypeId}(hd:P.underlying kd=some .string):KeyOk P kd kStr:=OZ hd λ_=>trivial
def GA{P:Program}{kd:TypeId}(hd:P.underlying kd=some (.int .i64)):KeyOk P kd jP:=OZ hd λ_=>rfl
def Sb{P:Program}{kd:TypeId}(hc:∀E w x y,(Instr.checkKey E 10000 kd (.agg #[.int .i64 x,.int .i64 y])).run P w=.ok () w)(hu:∃d,P.underlying kd=some d/\∀a b k c j,b.size=2->Instr.findNow d (.agg a) (({key:=.agg b,val:=k,born:=j}:MapEntry)::c) 0=none)(hq:∀w x y z t,(Op.equal kd (.agg #[.int .i64 x,.int .i64 y]) (.agg #[.int .i64 z,.int .i64 t])).run P w=.ok (decide (x=z)&&decide (y=t)) w):KeyOk P kd cF where
 check:=λE w x=>hc E w x.1 x.2
 find:=λx c w C=>by
  obtain⟨d,hd,D⟩:=hu;have F:∀(c:List MapEntry)i,(∀e∈c,∃y,e.key=cF.enc y)->
    ((∀e∈c,e.key≠cF.enc x)/\(Instr.findAsking kd (cF.enc x) c i).run P w=.ok none w) \/
    ∃(j:Nat)(e:MapEntry),c[j]?=some e/\e.key=cF.enc x/\(Instr.findAsking kd (cF.enc x) c i).run P w=.ok (some (i+j,e.val)) w:=by
   intro c
   induction c with
   | nil=>intro i _;exact .inl ⟨by simp,rfl⟩
   | cons e c ih=>
    intro i h;obtain⟨y,u⟩:=h e<|.head _;have A:(Op.equal kd (cF.enc x) e.key).run P w=.ok (decide (x.1=y.1)&&decide (x.2=y.2)) w:=by rw[u];exact hq w _ _ _ _
    by_cases l:x=y
    ·subst l;refine .inr ⟨0,e,rfl,u,?_⟩;unfold Instr.findAsking;simp only[ax,A,Result.andThen];simp
    ·have H:(decide (x.1=y.1)&&decide (x.2=y.2))=false:=by
      rw[Bool.and_eq_false_iff];by_cases G:x.1=y.1
      ·right;exact Ϣ λA=>l<|Prod.ext G A
      ·left;exact Ϣ G
     rw[H]at A;have f:(Instr.findAsking kd (cF.enc x) (e::c) i).run P w=(Instr.findAsking kd (cF.enc x) c (i+1)).run P w:=by
      conv=>lhs;unfold Instr.findAsking
      simp only[ax,A,Result.andThen];simp
     rcases ih (i+1) (λe C=>h e<|.tail _ C)with⟨n,m⟩ |⟨j,B,n,m,h5⟩
     ·refine .inl ⟨λB r=>?_,f.trans m⟩;cases r with
      | head=>rw[u];exact λq=>l (cF.inj q).symm
      | tail _ r=>exact n B r
     ·refine .inr ⟨j+1,B,϶ n,m,?_⟩;rw[f,h5];congr 3;omega
  cases c with
  | nil=>exact .inl ⟨by simp,by unfold Instr.findKey;simp[zw hd,Instr.findNow]⟩
  | cons e c=>
   obtain⟨y,u⟩:=C e<|.head _;have I:Instr.findNow d (cF.enc x) (e::c) 0=none:=by
    obtain⟨k,v,b⟩:=e;simp only at u;subst u;exact D _ _ _ _ _ rfl
   have f:(Instr.findKey kd (cF.enc x) (e::c)).run P w=(Instr.findAsking kd (cF.enc x) (e::c) 0).run P w:=by
    conv=>lhs;unfold Instr.findKey
    simp only[ax,zw hd,Result.andThen,I]
   rcases F (e::c) 0 C with⟨n,m⟩ |⟨j,B,n,m,h5⟩
   ·exact .inl ⟨n,f.trans m⟩
   ·exact .inr ⟨j,B,n,m,by rw[f,h5];simp⟩
 stays:=λw x=>by
  have h:Instr.sameBits 10000 (cF.enc x) (cF.enc x)=true:=by simp[cF,Instr.sameBits]
  unfold Instr.keyThatStays;simp[h]
def b_{a b:Type}[DecidableEq a](m:List (a×b))(k:a):Option b:=(m.find? (λp=>decide (p.1=k))).map (·.2)
def cW{a b:Type}[DecidableEq a](m:List (a×b))(k:a):Bool:=m.any (λp=>decide (p.1=k))
def bS{a b:Type}[DecidableEq a](m:List (a×b))(k:a)(v:b):List (a×b):=if cW m k=true then m.map (λp=>if p.1=k then(k,v)else p)else m++[(k,v)]
structure Mp{d c:Type}(kt:KT d)(t:Ty c)(f:aN)(a:K)(b:Nat)(m:List (d×c)):Prop where
 obj:∃(es:Array MapEntry)(clock:Nat),a.H[b]?=some (.map es clock)/\es.size=m.length/\(∀(i:Nat)(p:d×c),m[i]?=some p->∃e,es[i]?=some e/\e.key=kt.enc p.1/\t.own a [e.val] p.2)
  /\ (es.toList.map (·.born)).Pairwise (· < ·)/\∀e∈es.toList,e.born<clock
 nd:m.Pairwise (λp q=>p.1≠q.1)
 fr:a.fr b=0
 tag:a.tag b=f
 ge:f.1<=b
section
variable {α β:Type} {kt:KT α} {t:Ty β} {τ:aN} {g g':K} {b:Nat} {m:List (α×β)}
def Mp.lt(h:Mp kt t τ g b m):b<g.H.size:=by
 obtain⟨c,d,a,_⟩:=h.obj;exact(ae.1 a).1
def Mp.o(h:Mp kt t τ g b m):dR τ g b:=I6
def Mp.step{M}(s:Step M g g')(hm:b∉M)(h:Mp kt t τ g b m):Mp kt t τ g' b m:=by
 obtain⟨n,a,l,j,r,k⟩:=h.obj;refine⟨⟨n,a,(s.2.1 b h.lt hm).1.trans l,j,λi p hp=>?_,k⟩,h.nd,(s.2.1 b h.lt hm).2.1.trans h.fr,(s.2.1 b h.lt hm).2.2.trans h.tag,h.ge⟩;obtain⟨e,f,c,d⟩:=r i p hp;exact⟨e,f,c,t.step s d⟩
def Mp.step0(s:Step [] g g')(h:Mp kt t τ g b m):Mp kt t τ g' b m:=D6
def SB(g:K)(τ:aN)(h:τ.1<=g.H.size):Mp kt t τ (g.push (.map #[] 0) 0 τ) g.H.size ([]:List (α×β)):=⟨⟨#[],0,x7,rfl,λi p hp=>by simp at hp,by simp,by simp⟩,List.Pairwise.nil,x7,x7,h⟩
variable [DecidableEq α]
def Rv(x:α)(h:∀p∈m,p.1≠x):b_ m x=none/\cW m x=false:=by
 unfold b_ cW;constructor
 ·rw[List.find?_eq_none.2 (λp hp=>by simpa using h p hp)];rfl
 ·rw[List.any_eq_false];intro p hp;simpa using h p hp
def Iy(hnd:m.Pairwise (λp q=>p.1≠q.1)){j:Nat}{p:α×β}(hj:m[j]?=some p):b_ m p.1=some p.2/\cW m p.1=true:=by
 constructor
 ·induction m generalizing j with
  | nil=>simp at hj
  | cons q m ih=>
   obtain⟨b,c⟩:=fm.1 hnd;cases j with
   | zero=>simp at hj;subst hj;simp[b_]
   | succ j=>
    simp at hj;have a:q.1≠p.1:=b p<|fe hj;have:=ih c hj;unfold b_ at this ⊢;rw[List.find?_cons];simp[a];exact w8
 ·unfold cW;rw[be];exact⟨p,fe hj,by simp⟩
omit [DecidableEq α]
def OE{g v x}(h:rk.own g [v] x):v=.bool x:=by injection h
def BO{g v x}(h:tI64.own g [v] x):v=.int .i64 x/\aA x:=⟨by have:=h.1;injection this,h.2⟩
def Ho{e:Type}{t:Ty e}{x:List e}{g v}(h:(aW t).own g [v] x):∃a c,v=.slice a x.length c/\Sl t g a c x:=by
 obtain⟨a,c,b,d⟩:=h;exact⟨a,c,by injection b,d⟩
variable [DecidableEq α]
def io(P:Program)(T:TypeId):Option (TypeId×TypeId):=
 match P.underlying T with
 | some (.map k e)=>some (k,e)
 | _=>none
def kP{P:Program}{T k e:TypeId}(h:io P T=some (k,e)):P.underlying T=some (.map k e):=by
 unfold io at h;split at h
 ·rename_i h0;injection h with h;injection h with h1 h2;subst h1;subst h2;exact h0
 ·cases h
def Ch{kd:TypeId}{P}(h:Mp kt t τ g b m)(hk:KeyOk P kd kt)(x:α){es:Array MapEntry}{cl}(hb:g.H[b]?=some (.map es cl))w:
  (b_ m x=none/\cW m x=false/\(Instr.findKey kd (kt.enc x) es.toList).run P w=.ok none w) \/
  ∃j e y,m[j]?=some (x,y)/\b_ m x=some y/\cW m x=true/\es[j]?=some e/\e.key=kt.enc x/\t.own g [e.val] y/\(Instr.findKey kd (kt.enc x) es.toList).run P w=.ok (some (j,e.val)) w:=by
 obtain⟨G,F,k,C,B,_⟩:=h.obj;rw[hb]at k;injection k with k
 injection k with k _
 subst k;have v:∀e∈es.toList,∃p,p∈m/\e.key=kt.enc p.1:=by
  intro e l;obtain⟨i,hi⟩:=cz l;rw[aj]at hi;have hlt:i<m.length:=by rw[←C];exact(ae.1 hi).1
  obtain⟨E,c,z,_⟩:=B i m[i] (by simp[hlt]);rw[hi]at c;injection c with c
  subst c;exact⟨m[i],dm hlt,z⟩
 rcases hk.find x es.toList w (λe l=>by obtain⟨p,_,hp⟩:=v e l;exact⟨_,hp⟩)with⟨h5,h4⟩ |⟨j,e,h5,h6,h4⟩
 ·have u:∀p∈m,p.1≠x:=by
   intro p hp l;obtain⟨i,hi⟩:=cz hp;obtain⟨e,a,f,_⟩:=B i p hi;refine h5 e ?_ (by rw[f,l]);rw[←aj]at a;exact fe a
  obtain⟨r,n⟩:=Rv x u;exact .inl ⟨r,n,h4⟩
 ·rw[aj]at h5;have hlt:j<m.length:=by rw[←C];exact(ae.1 h5).1
  have d:m[j]?=some m[j]:=by simp[hlt]
  obtain⟨E,a,f,A⟩:=B j m[j] d;rw[h5]at a;injection a with a
  subst a;have D:m[j].1=x:=kt.inj<|f.symm.trans h6;obtain⟨r,n⟩:=Iy h.nd d;rw[D]at r n;exact .inr ⟨j,e,m[j].2,by rw[d,←D],r,n,h5,h6,A,h4⟩
def rc[Fb](C:Cx)(g:K)d b{es:Array MapEntry}{cl}(h:g.H[b]?=some (.map es cl))(P:Program):(getObj b).run P (W C g d)=.ok (.map es cl) (W C g d):=Go.MapKept.run_getObj_map h
def BW[Fb](C:Cx)(g:K)d b{es:Array MapEntry}{cl}(o:Obj)(h:g.H[b]?=some (.map es cl))(P:Program):(setObj b o).run P (W C g d)=.ok () (W C (g.setO b o) d):=Go.MapKept.run_setObj_map o h
def FR{T kd e:TypeId}{y0:β}{x:α}{P z}(h:Mp kt t τ g b m)(hT:io P T=some (kd,e))(hk:KeyOk P kd kt)(hz:eX P e=some z)(hzo:t.own g [z] y0)[Fb](C:Cx)d:
  ∃v,t.own g [v] ((b_ m x).getD y0)/\(Instr.lookup T (.map (some b)) (kt.enc x) false).run P (W C g d)=.ok v (W C g d)/\
   (Instr.lookup T (.map (some b)) (kt.enc x) true).run P (W C g d)=.ok (.tuple #[v,.bool (cW m x)]) (W C g d):=by
 obtain⟨n,l,i,_⟩:=h.obj;have a:=rc C g d b i P;rcases Ch h hk x i (W C g d)with⟨f,c,k⟩ |⟨j,en,y,g0,f,c,k,g4,g5,g6⟩
 ·refine⟨z,by rw[f];exact hzo,?_,?_⟩ <;>
  ·unfold Instr.lookup;simp[zw<|kP hT,a,hk.check,k,qA hz,c]
 ·refine⟨en.val,by rw[f];exact g5,?_,?_⟩ <;>
  ·unfold Instr.lookup;simp[zw<|kP hT,a,hk.check,g6,c]
def zyB{x:α}{y:β}(h:cW m x=true):(bS m x y).length=m.length:=by unfold bS;rw[Ϙ h,dy]
def SA(hnd:m.Pairwise (λp q=>p.1≠q.1))(x:α)(y:β):(bS m x y).Pairwise (λp q=>p.1≠q.1):=by
 unfold bS;split
 ·rw[List.pairwise_map];refine hnd.imp ?_;intro p q c;by_cases a:p.1=x<;>by_cases b:q.1=x
  ·exact x4 (a.trans b.symm) c
  ·rw[Ϙ a,ϙ b];exact B6 b
  ·rw[ϙ a,Ϙ b];exact a
  ·rw[ϙ a,ϙ b];exact c
 ·rename_i h;rw[List.pairwise_append];refine⟨hnd,by simp,λp hp q d=>?_⟩;have:q=(x,y):=by simpa using d
  subst this;intro e;apply h;unfold cW;rw[be];exact⟨p,hp,϶ e⟩
def Sh{P:Program}{T kd e:TypeId}{x:α}{v:Value}{y:β}(h:Mp kt t τ g b m)(hT:io P T=some (kd,e))(hk:KeyOk P kd kt)(hv:t.own g [v] y)[Fb](C:Cx)(d:Nat):
  ∃g',(Instr.mapUpdate T (.map (some b)) (kt.enc x) v).run P (W C g d)=.ok () (W C g' d)/\Step [b] g g'/\g.H.size=g'.H.size/\Mp kt t τ g' b (bS m x y):=by
 obtain⟨A,E,N,hsz,L,M,u⟩:=h.obj;have J:=rc C g d b N P;have V:∀(c:Array MapEntry)(f:Nat),c.size=(bS m x y).length->(∀g':K,Step [b] g g'->∀(i:Nat)(p:α×β),(bS m x y)[i]?=some p->∃e,c[i]?=some e/\e.key=kt.enc p.1/\t.own g' [e.val] p.2)->((c.toList.map (·.born)).Pairwise (· < ·)/\∀e∈c.toList,e.born<f)->
   Step [b] g (g.setO b<|.map c f)/\g.H.size=(g.setO b<|.map c f).H.size/\Mp kt t τ (g.setO b<|.map c f) b (bS m x y):=by
  intro c f D B h3;have H:Step [b] g (g.setO b<|.map c f):=qK h.fr;exact⟨H,D5,⟨c,f,by simp[K.setO,h.lt],D,B _ H,h3⟩,SA h.nd x y,h.fr,h.tag,h.ge⟩
 rcases Ch h hk x N (W C g d)with⟨g1,I,G⟩ |⟨j,en,y',g0,g1,I,G,g4,g5,g6⟩
 ·refine⟨g.setO b<|.map (A.push {key:=kt.enc x,val:=v,born:=E}) (E+1),?_,V _ _ ?_ ?_ ?_⟩
  ·unfold Instr.mapUpdate;simp[zw<|kP hT,J,hk.check,G,BW C g d b _ N P]
  ·unfold bS;rw[ϙ (by rw[I];simp),Array.size_push,hsz,dt];rfl
  ·intro g' hs i p hp;unfold bS at hp;rw[ϙ (by rw[I];simp)]at hp;by_cases hi:i<m.length
   ·rw[ci hi]at hp;obtain⟨e,k,z,R⟩:=L i p hp;exact⟨e,by rw[Array.getElem?_push];rw[ϙ om];exact k,z,t.step hs R⟩
   ·rw[cj om]at hp;have U:i - m.length=0:=by
     have:=(cv.1 hp).1;exact C4
    rw[U]at hp;simp at hp;subst hp;refine⟨{key:=kt.enc x,val:=v,born:=E},?_,rfl,t.step hs hv⟩;rw[Array.getElem?_push,Ϙ om]
  ·constructor
   ·rw[Array.toList_push,eh,List.pairwise_append];refine⟨M,by simp,λa ha b' S=>?_⟩;obtain⟨e,k,rfl⟩:=fc.1 ha;have:b'=E:=by simpa using S
    rw[this];exact u e k
   ·intro e k;rw[Array.toList_push,er]at k;rcases k with k | k
    ·exact Nat.lt_succ_of_lt<|u e k
    ·have:e={key:=kt.enc x,val:=v,born:=E}:=϶ k
     rw[this];exact Nat.lt_succ_self _
 ·have hlt:j<A.size:=(ae.1 G).1;refine⟨g.setO b<|.map (A.modify j λe=>{e with key:=kt.enc x,val:=v}) E,?_,V _ _ ?_ ?_ ?_⟩
  ·unfold Instr.mapUpdate;simp[zw<|kP hT,J,hk.check,g6,G,g4,hk.stays,BW C g d b _ N P]
  ·rw[zyB I];simpa using hsz
  ·intro g' hs i p hp;unfold bS at hp;rw[Ϙ I,cw]at hp;obtain⟨q,w,n⟩:=ia.1 hp;obtain⟨e,k,z,R⟩:=L i q w;by_cases l:j=i
   ·subst l;rw[g0]at w;injection w with w
    subst w;rw[Ϙ rfl]at n;subst n;refine⟨{en with key:=kt.enc x,val:=v},?_,rfl,t.step hs hv⟩;rw[af,Ϙ rfl,G];rfl
   ·have O:q.1≠x:=λY=>by
     have D:=(cv.1 w).1;have B:=(cv.1 g0).1;have F:=fo.1 h.nd;have Z:=(cv.1 w).2;have X:=(cv.1 g0).2;rcases gk l with hlt' | hlt'
     ·have:=F j i B D hlt';rw[Z,X]at this;exact this Y.symm
     ·have:=F i j D B hlt';rw[Z,X]at this;exact this Y
    rw[ϙ O]at n;subst n;exact⟨e,by rw[af,ϙ l];exact k,z,t.step hs R⟩
  ·have r:(A.modify j λe=>{e with key:=kt.enc x,val:=v}).toList.map (·.born)=A.toList.map (·.born):=by
    apply bp;intro i;rw[cw,cw,aj,aj,af];by_cases l:j=i
    ·rw[Ϙ l];cases A[i]?<;>rfl
    ·rw[ϙ l]
   refine⟨by rw[r];exact M,λe k=>?_⟩;have D:e.born∈A.toList.map (·.born):=by rw[←r];exact fc.2 ⟨e,k,rfl⟩
   obtain⟨e',Q,B⟩:=fc.1 D;rw[←B];exact u e' Q
end
section
variable [Fc] [Fb] {P:Program} {n:Nat} {c:Code} {i k:Nat} {Q:bH} {E:aK} {g:K} {o p:Type} {t:Ty p} {l:aN} {b:Nat} {m:List (o×p)} {nq:List Nat} {q0:Nat} {M:List Nat} {q:List Nat}
def Sv(R:K->Prop)(h:st c i n E none=true)(hr:∀C b,∃g' d1,(execOp (ev E) (zv c i)).run P (W C g b)=.ok .skip (W C g' d1)/\R g')(hk:∀g',R g'->aS P n c (i+1) Q E g'):aS P n c i Q E g:=by
 refine mo h (λC b a d=>?_);obtain⟨g',d1,j,f⟩:=hr C b;obtain⟨_,_,k,_⟩:=jb h;refine BM (by rw[d.eval];exact j) ?_;rw[k];exact hk g' f C d1 _ d
def oQ{d T}(kt:KT o)(t:Ty p)(l:aN)(hτ:l.1<=g.H.size)(hk:∀b g',Step [] g g'->Mp kt t l g' b ([]:List (o×p))->aS P n c (i+1) Q (aR E d (.map (some b))) g')(h:st c i n E (some d)=true:=by kernel_rfl)(ho:execOp (ev E) (zv c i)=aY (Instr.makeMap T none):=by kernel_rfl):aS P n c i Q E g:=by
 refine jF (λv g'=>∃b,v=.map (some b)/\Step [] g g'/\Mp kt t l g' b ([]:List (o×p))) h (λC a=>?_) ?_
 ·exact⟨_,g.push (.map #[] 0) 0 l,a,by rw[ho];exact zD rfl,g.H.size,rfl,fZ _ _ _ _,SB _ _ hτ⟩
 ·rintro v g' ⟨b,rfl,hs,hm⟩;exact hk b g' hs hm
variable [DecidableEq o]
def CK(kt:KT o){x:o}{y0:p}{d T kd e}z(hm:Mp kt t l g b m)(hzo:t.own g [z] y0)(hk:∀v,t.own g [v] ((b_ m x).getD y0)->aS P n c (i+1) Q (aR E d v) g)(hT:io P T=some (kd,e):=by kernel_rfl)(h:st c i n E (some d)=true:=by kernel_rfl)(ho:execOp (ev E) (zv c i)=aY (Instr.lookup T (.map (some b)) (kt.enc x) false):=by kernel_rfl)(hkd:KeyOk P kd kt:=by first | exact GA (by kernel_rfl) | exact Gz (by kernel_rfl))(hz:eX P e=some z:=by kernel_rfl):aS P n c i Q E g:=by
 refine jF (λv g'=>g=g'/\t.own g [v] ((b_ m x).getD y0)) h (λC f=>?_) ?_
 ·obtain⟨v,a,j,_⟩:=FR hm hT hkd hz hzo (x:=x) C f;exact⟨v,g,f,x8 j,rfl,a⟩
 ·rintro v g' ⟨rfl,a⟩;exact hk v a
def Uz(kt:KT o){x:o}{y0:p}{d T kd e}z(hm:Mp kt t l g b m)(hzo:t.own g [z] y0)(hk:∀v,t.own g [v] ((b_ m x).getD y0)->aS P n c (i+1) Q (aR E d (.tuple #[v,.bool (cW m x)])) g)(hT:io P T=some (kd,e):=by kernel_rfl)(h:st c i n E (some d)=true:=by kernel_rfl)(ho:execOp (ev E) (zv c i)=aY (Instr.lookup T (.map (some b)) (kt.enc x) true):=by kernel_rfl)(hkd:KeyOk P kd kt:=by first | exact GA (by kernel_rfl) | exact Gz (by kernel_rfl))(hz:eX P e=some z:=by kernel_rfl):aS P n c i Q E g:=by
 refine jF (λf g'=>g=g'/\∃v,f=.tuple #[v,.bool<|cW m x]/\t.own g [v] ((b_ m x).getD y0)) h (λC j=>?_) ?_
 ·obtain⟨v,a,_,k⟩:=FR hm hT hkd hz hzo (x:=x) C j;exact⟨_,g,j,x8 k,rfl,v,rfl,a⟩
 ·rintro f g' ⟨rfl,v,rfl,a⟩;exact hk v a
def kA(kt:KT o){x:o}{y:p}{T kd e v}(hm:Mp kt t l g b m)(hv:t.own g [v] y)(hk:∀g',Step [b] g g'->g.H.size=g'.H.size->Mp kt t l g' b (bS m x y)->aS P n c (i+1) Q E g')(hT:io P T=some (kd,e):=by kernel_rfl)(h:st c i n E none=true:=by kernel_rfl)(ho:execOp (ev E) (zv c i)=ik (Instr.mapUpdate T (.map (some b)) (kt.enc x) v):=by kernel_rfl)(hkd:KeyOk P kd kt:=by first | exact GA (by kernel_rfl) | exact Gz (by kernel_rfl)):aS P n c i Q E g:=by
 refine Sv (λg'=>Step [b] g g'/\g.H.size=g'.H.size/\Mp kt t l g' b (bS m x y)) h (λC j=>?_) ?_
 ·obtain⟨g',k,d,a,f⟩:=Sh hm hT hkd hv (x:=x) C j;exact⟨g',j,by rw[ho];exact qV k,d,a,f⟩
 ·rintro g' ⟨d,a,f⟩;exact hk g' d a f
end
def Sl.of_none{d:Type}{t:Ty d}{l:List d}{e c}(h:Sl t e none c l):l=[]:=by
 cases l with
 | nil=>rfl
 | cons x l=>obtain⟨b,off,a,_⟩:=h.elems si;cases a
end Go.Lf
