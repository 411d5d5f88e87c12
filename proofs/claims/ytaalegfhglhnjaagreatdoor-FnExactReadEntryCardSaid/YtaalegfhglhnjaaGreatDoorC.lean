import Derived.Test.YtaalegfhglhnjaaGreatDoorB
import Derived.Lib.Bytealg
import Derived.Lib.Join
import Derived.Sort.Defs
import Derived.Lib.ParseIntB
import Derived.Lib.ItoaNum
import Derived.Lib.BitFns
import Derived.Test.YtaalegfhglhnjaaGreatDoorProg
import Derived.Shelf.Small.Strs
import Derived.Shelf.LaysM
import Derived.Shelf.LaysC
import Derived.Shelf.Lays
import Derived.Shelf.Strings.Search2
import Derived.Shelf.Strconv.Itoa4
import Derived.Shelf.Strconv.ParseIntPublic10
import Derived.Shelf.Strconv.ErrVarParseInt
import Derived.Shelf.Bits.Mul64
import Derived.Shelf.Slices.Reverse
import Derived.Lib.FieldsP
import Derived.Shelf.Strings.FieldsFuncGrows
import Derived.Ground.NamesProg
import Derived.Shelf.SlGeneric
import Derived.Ground.SlsfProg
import Derived.Lib.ItoaLen
import Derived.Lib.ParseIntBTie
import Derived.WalkKit
import Derived.LaidEql
import Derived.Stop.Asserts
import Derived.RowKitTokens
set_option linter.all false
set_option maxRecDepth 100000
set_option maxHeartbeats 4000000
namespace Go.Lf
open Go
section
variable{p:Prop}{α:Sort _}(x:α){β:Sort _}(y:β){γ:Sort _}(z:γ){δ:Sort _}(u:δ){ε:Sort _}(v:ε){ζ:Sort _}(w:ζ){η:Sort _}(t:η){θ:Sort _}(s:θ){ι:Sort _}(q:ι){ν:Sort _}(n:ν){ξ:Sort _}(m:ξ){ο:Sort _}(k:ο){ρ:Sort _}(g:ρ){φ:Sort _}(c:φ)
def R4(h:p:=by exact @run_callFunc_extern Tryz.prog 319 _ (Extern.ReflectliteType.method λt=>do Rtype.noPackHeld "Comparable" t;pure (.bool (←typeInfo t).comparable)) Tryz.func319 (by kernel_rfl) (by kernel_rfl) (by kernel_rfl) (by kernel_rfl)):=h
def Q6(h:p:=by exact @run_callFunc_extern Tryz.prog 96 _ Extern.ReflectliteType.typeOf Tryz.func96 (by kernel_rfl) (by kernel_rfl) (by kernel_rfl) (by kernel_rfl)):=h
end
noncomputable section
abbrev ϗ:=Option
theorem Jb3{P:Program}{f B}(h:(((P.funcs[f]?).getD default:Func).name== "runtime.NumGoroutine")=false)(h2:P.funcs[f]?=some {B with name:=((P.funcs[f]?).getD default:Func).name}):Go.Proofs.Bears P f B:=⟨_,h,h2⟩
def C6{p:Prop}(h:p:=by repeat' first|kernel_rfl|(intro _;kernel_rfl)|exact Lf.Jb3 (by kernel_rfl) (by kernel_rfl)|constructor):p:=h
theorem Jb4{b a:Type}:(∀f:b->Option a,(none>>=f)=none)/\∀f:b->Option a,none.bind f=none:=⟨λ_=>rfl,λ_=>rfl⟩
abbrev aP:=(Int×Int)×Int
def LR(p0:BS)(a:LW)(b:Int):ϗ LW:=bB p0 b (p0.length:Int)>>=λc=>aX 16 a [c]>>=λd=>some d
def tc(a:LW×Int×Int)(b:LW)(c:Int):ϗ ((LW×Int×Int)⊕(LW×Int)):=some (.inl (b,c,aB (a.2.2+1)))
def lR(p0:BS)(p1:Int)(a:LW×Int×Int):ϗ ((LW×Int×Int)⊕(LW×Int)):=if(a.2.2<p0.length:Ϛ)then(idx p0 a.2.2>>=λb=>if((b.toNat:Int)=p1:Ϛ)then(bB p0 a.2.1 a.2.2>>=λc=>aX 16 a.1 [c]>>=λd=>tc a d<|aB (a.2.2+1))else(tc a a.1 a.2.1))else(some<|.inr (a.1,a.2.1))
def nL(p0:BS)(p1:Int):ϗ LW:=iter (lR p0 p1) ([],0,0)>>=λa=>LR p0 a.1 a.2
def yT(a:LW):=some a
def ul(p0:BS):ϗ LW:=if(p0=([]:BS):Ϛ)then(some ([]:LW))else(nL p0 10>>=λa=>(idx a<|aB<|(a.length:Int) - 1)>>=λb=>if(b=([]:BS):Ϛ)then((bB a 0<|aB<|(a.length:Int) - 1)>>=λc=>yT c)else(yT a))
def LK(a:LW):=some a
def tv(a:LW×Int×Int)(b:LW)(c:Int):ϗ ((LW×Int×Int)⊕LW):=some (.inl (b,c,aB (a.2.2+1)))
def yS(a:LW×Int×Int)(b:LW):ϗ ((LW×Int×Int)⊕LW):=tv a b (aB (a.2.2+1))
def kK(p0:BS)(a:LW×Int×Int)(b:Bool):ϗ ((LW×Int×Int)⊕LW):=if b then(if(a.2.2>a.2.1:Ϛ)then(bB p0 a.2.1 a.2.2>>=λc=>aX 16 a.1 [c]>>=λd=>yS a d)else(yS a a.1))else(tv a a.1 a.2.1)
def lM(p0:BS)(a:LW×Int×Int):ϗ ((LW×Int×Int)⊕LW):=if(a.2.2<=p0.length:Ϛ)then(if(a.2.2=p0.length:Ϛ)then(kK p0 a true)else(idx p0 a.2.2>>=λb=>kK p0 a<|((b.toNat:Int)=32:Ϛ)))else(some<|.inr a.1)
def kN(p0:BS):=iter (lM p0) ([],0,0)>>=λx23=>LK x23
def ud(p0:Int):=if(p0≥97:Ϛ)then(if(p0<=122:Ϛ)then(some true)else(if(p0≥65:Ϛ)then(some<|(p0<=90:Ϛ))else(some false)))else(if(p0≥65:Ϛ)then(some<|(p0<=90:Ϛ))else(some false))
def uo(p0:Int):=if(p0≥48:Ϛ)then(some<|(p0<=57:Ϛ))else(some false)
def zwq : Option (Bool):=some true
def qo(a:Int)(b:Bool):ϗ (Int⊕(Unit ⊕ Bool)):=if b then(some<|.inr<|.inr false)else(some<|.inl<|aB (a+1))
def nr(p0:BS)(a:Int):ϗ (Int⊕(Unit ⊕ Bool)):=if(a<p0.length:Ϛ)then(idx p0 a>>=λf=>ud (f.toNat:Int)>>=λh=>if !h then(idx p0 a>>=λb=>uo (b.toNat:Int)>>=λc=>if !c then(idx p0 a>>=λd=>qo a<|!((d.toNat:Int)=95:Ϛ))else(qo a false))else(qo a false))else(some<|.inr<|.inl ())
def ug(p0:BS)(a:Bool):=if a then(some false)else(iter (nr p0) 1>>=λb=>match b with | .inl z=>zwq | .inr z=>some z)
def ma(p0:BS):=if((p0.length:Int)<1:Ϛ)then(ug p0 true)else(if((p0.length:Int)>12:Ϛ)then(ug p0 true)else(idx p0 0>>=λa=>ud (a.toNat:Int)>>=λb=>ug p0 (!b)))
def LD(p0:LW):=some (p0.length:Int)
def ti(a:Int)(b:Bool):ϗ (Int⊕(Unit ⊕ Int)):=if b then(some<|.inr<|.inr a)else(some<|.inl<|aB (a+1))
def kF(p0:LW)(d:BS)(a:Int):ϗ (Int⊕(Unit ⊕ Int)):=if(a<p0.length:Ϛ)then(idx p0 a>>=λc=>kN c>>=λb=>if((b.length:Int)>0:Ϛ)then(idx b 0>>=λx23=>ti a<|(x23=d:Ϛ))else(ti a false))else(some<|.inr<|.inl ())
def jY(p0:LW)(p1:Int)(b:BS):=iter (kF p0 b) p1>>=λa=>match a with | .inl z=>LD p0 | .inr z=>some z
def fX(p0 p1 a:Int):=if(p0≥p1:Ϛ)then(some<|(p0<=a:Ϛ))else(some false)
def MB(p0:Int)(a:BS):ϗ BS:=if(p0=0:Ϛ)then(some ([48]:BS))else(if(p0<0:Ϛ)then(dO ([45]:BS) a>>=λb=>some b)else(some a))
def Af(a:BS×Int)(b:Int):ϗ ((BS×Int)⊕BS):=dO (f_ [IntKind.wrap .u8<|aB (48+b)]) a.1>>=λc=>some<|.inl (c,aB<|Int.tdiv a.2 10)
def sY(a:BS×Int):ϗ ((BS×Int)⊕BS):=if !(a.2=0:Ϛ)then(if((Int.tmod a.2 10)<0:Ϛ)then(Af a<|aB<|0 - (Int.tmod a.2 10))else(Af a<|Int.tmod a.2 10))else(some<|.inr a.1)
def AZ(p0:Int):ϗ BS:=iter (sY) (([]:BS),p0)>>=λa=>MB p0 a
def xn(a:Int)(b:Bool):ϗ (Int×Bool):=if b then(some (0,false))else(some (a,true))
def sA(p0:BS)(a:Int):=fX a (-1000000000) 1000000000>>=λb=>if !b then(xn a true)else(AZ a>>=λc=>xn a<|!(c=p0:Ϛ))
def Ee(p0:BS)(a:Int):=idx p0 0>>=λb=>if((b.toNat:Int)=45:Ϛ)then(sA p0<|aB<|0 - a)else(sA p0 a)
def sw(a:Int×Int)(b:Int):ϗ ((Int×Int)⊕(Int ⊕ (Int×Bool))):=some (.inl (b,aB (a.2+1)))
def nk(p0:BS)(a:Int×Int)(b:Bool):ϗ ((Int×Int)⊕(Int ⊕ (Int×Bool))):=if b then(sw a a.1)else(idx p0 a.2>>=λc=>uo (c.toNat:Int)>>=λd=>if !d then(some<|.inr<|.inr (0,false))else(idx p0 a.2>>=λf=>sw a<|aB<|(aB (10*a.1))+(aB<|IntKind.wrap .u8<|(f.toNat:Int) - 48)))
def lO(p0:BS)(a:Int×Int):ϗ ((Int×Int)⊕(Int ⊕ (Int×Bool))):=if(a.2<p0.length:Ϛ)then(if(a.2=0:Ϛ)then(idx p0 a.2>>=λb=>nk p0 a<|((b.toNat:Int)=45:Ϛ))else(nk p0 a false))else(some<|.inr<|.inl a.1)
def xo(p0:BS)(b:Bool):ϗ (Int×Bool):=if b then(some (0,false))else(iter (lO p0) (0,0)>>=λa=>match a with | .inl z=>Ee p0 z | .inr z=>some z)
def jS(p0:BS):=if((p0.length:Int)<1:Ϛ)then(xo p0 true)else(xo p0<|((p0.length:Int)>11:Ϛ))
def nM(p0:Int×Int):=fX p0.1 (-60) 60>>=λa=>if a then(fX p0.2 (-60) 60>>=λb=>some b)else(some false)
def sQ(a b:Int×Bool)(c:Bool):ϗ ((Int×Int)×Bool):=if c then(some ((0,0),false))else(some ((a.1,b.1),true))
def ue(p0:BS):ϗ ((Int×Int)×Bool):=nL p0 44>>=λc=>if !((c.length:Int)=2:Ϛ)then(some ((0,0),false))else(idx c 0>>=λd=>jS d>>=λa=>idx c 1>>=λx23=>jS x23>>=λb=>if !a.2 then(sQ a b true)else(if !b.2 then(sQ a b true)else(nM (a.1,b.1)>>=λf=>sQ a b (!f))))
def EZ : Option (Int):=some (-1)
def yc(p0:LG×LT)(p1:BS)(a:Int):ϗ (Int⊕(Unit ⊕ Int)):=if(a<p0.2.length:Ϛ)then(idx p0.2 a>>=λb=>if(b.1=p1:Ϛ)then(some<|.inr<|.inr a)else(some<|.inl<|aB (a+1)))else(some<|.inr<|.inl ())
def il(p0:LG×LT)(p1:BS):=iter (yc p0 p1) 0>>=λa=>match a with | .inl z=>EZ | .inr z=>some z
def nJ(p0 p1:Int×Int):=if(p0.2<p1.2:Ϛ)then(some true)else(if(p0.2=p1.2:Ϛ)then(some<|(p0.1<p1.1:Ϛ))else(some false))
def yU(a:Int)(b:Bool):ϗ Int:=if b then(some a)else(some (-1))
def LN(p0:LP)(p1:Int×Int)(a:Int):=if(a<p0.length:Ϛ)then(idx p0 a>>=λb=>yU a<|(b.1.1=p1.1:Ϛ)&&(b.1.2=p1.2:Ϛ))else(yU a false)
def xk(p0:LP)(p1 a:Int×Int):ϗ ((Int×Int)⊕Int):=if(a.1<a.2:Ϛ)then((idx p0<|aB<|Int.tdiv (aB (a.1+a.2)) 2)>>=λb=>nJ b.1 p1>>=λc=>if c then(some<|.inl (aB<|(aB<|Int.tdiv (aB (a.1+a.2)) 2)+1,a.2))else(some<|.inl (a.1,aB<|Int.tdiv (aB (a.1+a.2)) 2)))else(some<|.inr a.1)
def iS(p0:LP)(p1:Int×Int):=iter (xk p0 p1) (0,(p0.length:Int))>>=λa=>LN p0 p1 a
def uc(a:LP):=some a
def Ay(p1:Int×Int)(d:Int)(b:Bool)(a:LP):=if !b then(aX 24 a [(p1,d)]>>=λc=>uc c)else(uc a)
def qs(p0:LP)(a:Bool×Int×LP)(b:Bool)(c:LP):ϗ ((Bool×Int×LP)⊕(Bool×LP)):=idx p0 a.2.1>>=λd=>aX 24 c [d]>>=λf=>some<|.inl (b,aB (a.2.1+1),f)
def qq(p0:LP)(p1:Int×Int)(d:Int)(a:Bool×Int×LP)(b:Bool):ϗ ((Bool×Int×LP)⊕(Bool×LP)):=if b then(aX 24 a.2.2 [(p1,d)]>>=λc=>qs p0 a true c)else(qs p0 a a.1 a.2.2)
def iU(p0:LP)(p1:Int×Int)(c:Int)(a:Bool×Int×LP):ϗ ((Bool×Int×LP)⊕(Bool×LP)):=if(a.2.1<p0.length:Ϛ)then(if !a.1 then(idx p0 a.2.1>>=λd=>nJ p1 d.1>>=λb=>qq p0 p1 c a b)else(qq p0 p1 c a false))else(some<|.inr (a.1,a.2.2))
def nO(p0:LP)(p1:Int×Int)(b:Int):=iter (iU p0 p1 b) (false,0,[])>>=λa=>Ay p1 b a.1 a.2
def qp(p0:LG×LT)(p1:LP)(f h:BS):ϗ (Int×(LP)):=ue h>>=λa=>if !a.2 then(some (6,p1))else(il p0 f>>=λb=>if(b<0:Ϛ)then(some (3,p1))else(iS p1 a.1>>=λc=>if(c≥0:Ϛ)then(some (7,p1))else(if((p1.length:Int)=500:Ϛ)then(some (4,p1))else(nO p1 a.1 b>>=λd=>some (0,d)))))
def MA : Option (Int):=some 0
def EA(p0:LG×LT)(p1:BS)(a:Int):ϗ (Int⊕(Unit ⊕ Int)):=if(a<p0.1.length:Ϛ)then(idx p0.1 a>>=λb=>if(b.1=p1:Ϛ)then(some<|.inr<|.inr<|aB (a+1))else(some<|.inl<|aB (a+1)))else(some<|.inr<|.inl ())
def iA(p0:LG×LT)(p1:BS):=iter (EA p0 p1) 0>>=λa=>match a with | .inl z=>MA | .inr z=>some z
def xU(p0:TS×(LP)×Int)(p1:LW)(a:Bool):ϗ (Int×(TS×(LP)×Int)):=if a then(some (6,p0))else(idx p1 2>>=λb=>jS b>>=λx23=>if !x23.2 then(some (6,p0))else(idx p1 1>>=λc=>aX 24 p0.1.1 [(c,x23.1)]>>=λd=>some (0,((d,p0.1.2),p0.2))))
def EW(p0:TS×(LP)×Int)(p1:LW):=if !((p1.length:Int)=3:Ϛ)then(xU p0 p1 true)else(xU p0 p1<|((p0.1.2.length:Int)>0:Ϛ))
def KG(p0:TS×(LP)×Int)(a:BS)(b:LI):ϗ (Int×(TS×(LP)×Int)):=aX 40 p0.1.2 [(a,b)]>>=λc=>some (0,((p0.1.1,c),p0.2))
def xS(p0:TS×(LP)×Int)(a:Int×LI)(b:Int)(c:Bool):ϗ ((Int×LI)⊕((LI) ⊕ (Int×(TS×(LP)×Int)))):=if c then(some<|.inr<|.inr (3,p0))else(aX 8 a.2 [b]>>=λd=>some<|.inl (aB (a.1+1),d))
def rV(p0:TS×(LP)×Int)(p1:LW)(a:Int×LI):ϗ ((Int×LI)⊕((LI) ⊕ (Int×(TS×(LP)×Int)))):=if(a.1<6:Ϛ)then(idx p1 a.1>>=λc=>iA p0.1 c>>=λb=>if(b=0:Ϛ)then(idx p1 a.1>>=λ_=>xS p0 a b<|!(c=([45]:BS):Ϛ))else(xS p0 a b false))else(some<|.inr<|.inl a.2)
def ET(p0:TS×(LP)×Int)(p1:LW):ϗ (Int×(TS×(LP)×Int)):=if !((p1.length:Int)=6:Ϛ)then(some (6,p0))else(idx p1 1>>=λa=>iter (rV p0 p1) (2,[])>>=λb=>match b with | .inl z=>KG p0 a z | .inr z=>some z)
def ym(p0:TS×(LP)×Int)(f h:BS):ϗ (Int×(TS×(LP)×Int)):=ue h>>=λa=>if !a.2 then(some (6,p0))else(il p0.1 f>>=λb=>if(b<0:Ϛ)then(some (3,p0))else(iS p0.2.1 a.1>>=λc=>if(c≥0:Ϛ)then(some (7,p0))else(if((p0.2.1.length:Int)=500:Ϛ)then(some (4,p0))else(nO p0.2.1 a.1 b>>=λd=>some (0,(p0.1,(d,p0.2.2)))))))
def tK(p0:TS×(LP)×Int)(p1:LW)(b:Bool):ϗ (Int×(TS×(LP)×Int)):=if b then(some (6,p0))else(idx p1 1>>=λc=>jS c>>=λa=>if !a.2 then(some (6,p0))else(some (0,(p0.1,(p0.2.1,a.1)))))
def g_(p0:TS×(LP)×Int)(p1:LW)(j:Bool):ϗ (Int×(TS×(LP)×Int)):=if j then(if !((p1.length:Int)=2:Ϛ)then(tK p0 p1 true)else(idx p1 0>>=λf=>tK p0 p1<|!(f=([116,101,109,112,101,114,97,116,117,114,101]:BS):Ϛ)))else(if((p1.length:Int)=0:Ϛ)then(some (6,p0))else(idx p1 0>>=λa=>if(a=([103,108,117,101]:BS):Ϛ)then(if((p0.2.1.length:Int)>0:Ϛ)then(some (6,p0))else(EW p0 p1>>=λb=>some (b.1,((b.2.1.1,p0.1.2),p0.2))))else(if(a=([116,105,108,101]:BS):Ϛ)then(if((p0.2.1.length:Int)>0:Ϛ)then(some (6,p0))else(ET p0 p1>>=λc=>some (c.1,((p0.1.1,c.2.1.2),p0.2))))else(if(a=([115,101,101,100]:BS):Ϛ)then(if !((p1.length:Int)=3:Ϛ)then(some (6,p0))else(idx p1 1>>=λh=>idx p1 2>>=λi=>ym p0 h i>>=λd=>some (d.1,(p0.1,(d.2.2.1,p0.2.2)))))else(some (6,p0))))))
def MT : Option (Bool):=some true
def Fx(a:Int):ϗ (Int⊕(Unit ⊕ Bool)):=some (.inl<|aB (a+1))
def ui(p0:LG×LT)(b:BS×LI)(a:Int):ϗ (Int⊕(Unit ⊕ (Int ⊕ (Unit ⊕ Bool)))):=if(a<4:Ϛ)then(idx b.2 a>>=λc=>fX c 0 (p0.1.length:Int)>>=λd=>if !d then(some<|.inr<|.inr<|.inr<|.inr false)else(some<|.inl<|aB (a+1)))else(some<|.inr<|.inl ())
def qy(p0:LG×LT)(a:Int)(b:BS×LI)(c:Bool):ϗ (Int⊕(Unit ⊕ Bool)):=if c then(some<|.inr<|.inr false)else(iter (ui p0 b) 0>>=λd=>match d with | .inl z=>Fx a | .inr z=>some z)
def nA(p0:LG×LT)(a:Int):ϗ (Int⊕(Unit ⊕ Bool)):=if(a<p0.2.length:Ϛ)then(idx p0.2 a>>=λb=>ma b.1>>=λc=>if !c then(qy p0 a b true)else(if !((b.2.length:Int)=4:Ϛ)then(qy p0 a b true)else(il p0 b.1>>=λd=>qy p0 a b<|!(d=a:Ϛ))))else(some<|.inr<|.inl ())
def MU(p0:LG×LT):=iter (nA p0) 0>>=λa=>match a with | .inl z=>MT | .inr z=>some z
def qx(a:Int)(b:Bool):ϗ (Int⊕(Unit ⊕ Bool)):=if b then(some<|.inr<|.inr false)else(some<|.inl<|aB (a+1))
def nB(p0:LG×LT)(a:Int):ϗ (Int⊕(Unit ⊕ Bool)):=if(a<p0.1.length:Ϛ)then(idx p0.1 a>>=λb=>ma b.1>>=λc=>if !c then(qx a true)else(fX b.2 1 4>>=λd=>if !d then(qx a true)else(iA p0 b.1>>=λf=>qx a<|!(f=(aB (a+1)):Ϛ))))else(some<|.inr<|.inl ())
def um(p0:LG×LT)(b:Bool):=if b then(some false)else(iter (nB p0) 0>>=λa=>match a with | .inl z=>MU p0 | .inr z=>some z)
def qJ(p0:LG×LT):=if((p0.1.length:Int)>200:Ϛ)then(um p0 true)else(if((p0.2.length:Int)<1:Ϛ)then(um p0 true)else(um p0<|((p0.2.length:Int)>160:Ϛ)))
def Mz : Option (Bool):=some true
def nC(a:Int)(b:Bool):ϗ (Int⊕(Unit ⊕ Bool)):=if b then(some<|.inr<|.inr false)else(some<|.inl<|aB (a+1))
def nw(p0:LP)(a:Int):ϗ (Int⊕(Unit ⊕ Bool)):=if(a<p0.length:Ϛ)then(idx p0 a>>=λb=>nM b.1>>=λc=>if !c then(nC a true)else(fX b.2 0 159>>=λd=>if !d then(nC a true)else(if(a>0:Ϛ)then((idx p0<|aB<|a - 1)>>=λf=>nJ f.1 b.1>>=λh=>nC a (!h))else(nC a false))))else(some<|.inr<|.inl ())
def AY(p0:LP):=if((p0.length:Int)>500:Ϛ)then(some false)else(iter (nw p0) 0>>=λa=>match a with | .inl z=>Mz | .inr z=>some z)
def un(p0:LG×LT)(p1:Int):=(fX p1 0<|aB<|(p0.2.length:Int) - 1)>>=λa=>some a
def MR : Option (Bool):=some true
def nz(p0:LG×LT)(p1:LP)(a:Int):ϗ (Int⊕(Unit ⊕ Bool)):=if(a<p1.length:Ϛ)then(idx p1 a>>=λb=>un p0 b.2>>=λc=>if !c then(some<|.inr<|.inr false)else(some<|.inl<|aB (a+1)))else(some<|.inr<|.inl ())
def qI(p0:LG×LT)(p1:LP):=AY p1>>=λa=>if !a then(some false)else(iter (nz p0 p1) 0>>=λb=>match b with | .inl z=>MR | .inr z=>some z)
def xl(p0:Int):=fX p0 1 16>>=λa=>some a
def nP(p0 p1:Int):=if(p0<p1:Ϛ)then(some p0)else(some p1)
def kR(p0 p1:Int):=if(p0>p1:Ϛ)then(some p0)else(some p1)
def Lk(a:LM):=some a
def sP(a:LM×Int)(b:LM):ϗ ((LM×Int)⊕LM):=some (.inl (b,aB (a.2+1)))
def Lj(a:LM×Int)(b:LI):ϗ ((LM×Int)⊕LM):=aX 24 a.1 [b]>>=λc=>sP a c
def yl(a:LI×Int)(b:LI):ϗ ((LI×Int)⊕LI):=some (.inl (b,aB (a.2+1)))
def wW(p0:Int)(d:LI)(b:LM×Int)(a:LI×Int):ϗ ((LI×Int)⊕LI):=if(a.2<p0:Ϛ)then(idx d a.2>>=λf=>if(f=b.2:Ϛ)then(aX 8 a.1 [a.2]>>=λc=>yl a c)else(yl a a.1))else(some<|.inr a.1)
def wX(p0:Int)(b:LI)(a:LM×Int):ϗ ((LM×Int)⊕LM):=if(a.2<p0:Ϛ)then(idx b a.2>>=λc=>if !(c=a.2:Ϛ)then(sP a a.1)else(iter (wW p0 b a) ([],a.2)>>=λd=>Lj a d))else(some<|.inr a.1)
def Ll(p0:Int)(a:LI):=iter (wX p0 a) ([],0)>>=λb=>Lk b
def Li(a:LI×Int)(b:LI):ϗ ((LI×Int)⊕LI):=some (.inl (b,aB (a.2+1)))
def yz(a:LI×Int)(b:LI):ϗ ((LI×Int)⊕LI):=some (.inl (b,aB (a.2+1)))
def wV(b c:Int)(a:LI×Int):ϗ ((LI×Int)⊕LI):=if(a.2<a.1.length:Ϛ)then(idx a.1 a.2>>=λd=>kR b c>>=λf=>if(d=f:Ϛ)then(nP b c>>=λh=>idx a.1 a.2>>=λj=>(some<|a.1.set a.2.toNat h)>>=λi=>yz a i)else(yz a a.1))else(some<|.inr a.1)
def wQ(p1:LB)(a:LI×Int):ϗ ((LI×Int)⊕LI):=if(a.2<p1.length:Ϛ)then(idx p1 a.2>>=λb=>idx a.1 b.1>>=λc=>idx p1 a.2>>=λ_=>idx a.1 b.2.1>>=λd=>iter (wV c d) (a.1,0)>>=λf=>Li a f)else(some<|.inr a.1)
def Lm(p0:Int)(p1:LB)(b:LI):=iter (wQ p1) (b,0)>>=λa=>Ll p0 a
def wR(p0:Int)(a:LI×Int):ϗ ((LI×Int)⊕LI):=if(a.2<p0:Ϛ)then(aX 8 a.1 [a.2]>>=λb=>some<|.inl (b,aB (a.2+1)))else(some<|.inr a.1)
def Av(p0:Int)(p1:LB):=iter (wR p0) ([],0)>>=λa=>Lm p0 p1 a
def Ld(a:LM)(b:LB):=some ((a.length:Int),b)
def yx(a:LB×Int)(b:LB):ϗ ((LB×Int)⊕LB):=some (.inl (b,aB (a.2+1)))
def wT(p1:LB)(f:LI)(a:LB×Int):ϗ ((LB×Int)⊕LB):=if(a.2<p1.length:Ϛ)then(idx p1 a.2>>=λb=>idx f b.1>>=λc=>idx p1 a.2>>=λ_=>idx f b.2.1>>=λd=>if !(c=d:Ϛ)then(idx p1 a.2>>=λ_=>nP c d>>=λi=>kR c d>>=λj=>aX 24 a.1 [(i,(j,b.2.2))]>>=λh=>yx a h)else(yx a a.1))else(some<|.inr a.1)
def Le(p1:LB)(a:LM)(b:LI):=iter (wT p1 b) ([],0)>>=λc=>Ld a c
def YV(a:LI×Int)(b:LI):ϗ ((LI×Int)⊕LI):=some (.inl (b,aB (a.2+1)))
def sJ(f:LM)(b a:LI×Int):ϗ ((LI×Int)⊕LI):=idx f b.2>>=λc=>if(a.2<c.length:Ϛ)then(idx f b.2>>=λ_=>idx c a.2>>=λd=>idx a.1 d>>=λi=>(some<|a.1.set d.toNat b.2)>>=λh=>some<|.inl (h,aB (a.2+1)))else(some<|.inr a.1)
def Ec(b:LM)(a:LI×Int):ϗ ((LI×Int)⊕LI):=if(a.2<b.length:Ϛ)then(iter (sJ b a) (a.1,0)>>=λc=>YV a c)else(some<|.inr a.1)
def Lh(p0:Int)(p1 c:LB):=Av p0 c>>=λa=>eM 8 p0 0>>=λd=>iter (Ec a) (d,0)>>=λb=>Le p1 a b
def yw(a:LB×Int)(b:LB):ϗ ((LB×Int)⊕LB):=some (.inl (b,aB (a.2+1)))
def wU(p1:LB)(d:Int)(a:LB×Int):ϗ ((LB×Int)⊕LB):=if(a.2<p1.length:Ϛ)then(idx p1 a.2>>=λb=>if(b.2.2≥d:Ϛ)then(idx p1 a.2>>=λ_=>aX 24 a.1 [b]>>=λc=>yw a c)else(yw a a.1))else(some<|.inr a.1)
def Aa(p0:Int)(p1:LB)(b:Int):=iter (wU p1 b) ([],0)>>=λa=>Lh p0 p1 a
def iT(a b:Int):=some (a,b)
def gR(p0:Int×Int)(p1:Int):=if(p1=0:Ϛ)then(iT p0.1<|aB (p0.2+1))else(if(p1=1:Ϛ)then(iT (aB (p0.1+1)) p0.2)else(if(p1=2:Ϛ)then(iT p0.1<|aB<|p0.2 - 1)else(if(p1=3:Ϛ)then(iT (aB<|p0.1 - 1) p0.2)else(iT p0.1 p0.2))))
def yR(p0:LP)(p1 c:Int):=idx p0 p1>>=λd=>gR d.1 c>>=λa=>iS p0 a>>=λb=>some b
def Nr(p0:Int):=fX p0 0 3>>=λa=>some a
def qz(p0:Int):ϗ Int:=Nr p0>>=λa=>if !a then(some (-1))else(some<|Int.tmod (aB (p0+2)) 4)
def kL(p0:LG×LT)(p1:Int):ϗ Int:=if(p1=0:Ϛ)then(some 0)else((idx p0.1<|aB<|p1 - 1)>>=λa=>some a.2)
def lZ(p0:LG×LT)(p1 b j:Int):ϗ Int:=idx p0.2 p1>>=λc=>idx c.2 b>>=λa=>idx p0.2 j>>=λd=>qz b>>=λf=>idx d.2 f>>=λh=>if !(a=h:Ϛ)then(some 0)else(kL p0 a>>=λi=>some i)
def LJ(a:LB):=some a
def LH(a:LB×Int)(b:LB):ϗ ((LB×Int)⊕LB):=some (.inl (b,aB (a.2+1)))
def pV(a:LB×Int)(b:LB):ϗ ((LB×Int)⊕LB):=some (.inl (b,aB<|a.2 - 1))
def pI(p0:LG×LT)(p1:LP)(b a:LB×Int):ϗ ((LB×Int)⊕LB):=if(a.2≥0:Ϛ)then(yR p1 b.2 a.2>>=λc=>if(c<0:Ϛ)then(pV a a.1)else(idx p1 b.2>>=λf=>idx p1 c>>=λh=>lZ p0 f.2 a.2 h.2>>=λd=>if(d>0:Ϛ)then(aX 24 a.1 [(b.2,(c,d))]>>=λi=>pV a i)else(pV a a.1)))else(some<|.inr a.1)
def pJ(p0:LG×LT)(p1:LP)(a:LB×Int):ϗ ((LB×Int)⊕LB):=if(a.2<p1.length:Ϛ)then(iter (pI p0 p1 a) (a.1,1)>>=λb=>LH a b)else(some<|.inr a.1)
def nK(p0:LG×LT)(p1:LP):=iter (pJ p0 p1) ([],0)>>=λa=>LJ a
def zwm(p0:Int)(p1:LB)(a:LI)(b:LM):=some (p0,(p1,(b,a)))
def qn(p1:LB)(a:Int×LM):ϗ ((Int×LM)⊕LM):=if(a.1<p1.length:Ϛ)then(idx p1 a.1>>=λb=>idx p1 a.1>>=λ_=>idx a.2 b.1>>=λh=>aX 8 h [a.1]>>=λi=>(some<|a.2.set b.1.toNat i)>>=λc=>idx p1 a.1>>=λ_=>idx p1 a.1>>=λ_=>idx c b.2.1>>=λj=>aX 8 j [a.1]>>=λd=>(some<|c.set b.2.1.toNat d)>>=λf=>some<|.inl (aB (a.1+1),f))else(some<|.inr a.2)
def Bg(p0:Int)(p1:LB):=eM 24 p0 ([]:LI)>>=λa=>eM 8 (p1.length:Int) 0>>=λb=>iter (qn p1) (0,a)>>=λc=>zwm p0 p1 b c
def tj(p0:Int×LB×LM×LI)(p1 b:Int):=idx p0.2.1 b>>=λa=>if(a.1=p1:Ϛ)then(idx p0.2.2.2 b>>=λc=>some (aB<|a.2.2 - c,a.2.1,p0))else(idx p0.2.2.2 b>>=λd=>some (aB (a.2.2+d),a.1,p0))
def Kr(p0:Int×LB×LM×LI)(a b:LI):=some (a,(p0.1,(p0.2.1,(p0.2.2.1,b))))
def WU(a:LI×LI×Int×LI)(b c d:LI):ϗ ((LI×LI×Int×LI)⊕(LI×LI)):=some (.inl (b,c,aB (a.2.2.1+1),d))
def r_(a:LI×LI×Int×LI)(b c d:LI):ϗ ((LI×LI×Int×LI)⊕(LI×LI×LI)):=some (.inl (b,c,aB (a.2.2.1+1),d))
def pz(d:Int)(a:LI×LI×Int×LI)(b c:Int×Int×Int)(f:Int×Int×(Int×LB×LM×LI))(h:Bool):ϗ ((LI×LI×Int×LI)⊕(LI×LI×LI)):=if h then(idx a.1 d>>=λi=>(idx a.1<|aB<|(aB (b.1+c.2.1)) - d)>>=λl=>(some<|a.1.set (aB<|(aB (b.1+c.2.1)) - d).toNat<|aB (i+1))>>=λj=>aX 8 a.2.1 [aB<|(aB (b.1+c.2.1)) - d]>>=λk=>r_ a j k f.2.2.2.2.2)else(r_ a a.1 a.2.1 f.2.2.2.2.2)
def wn(p0:Int×LB×LM×LI)(b:Int)(a:LI×LI×Int×LI):ϗ ((LI×LI×Int×LI)⊕(LI×LI×LI)):=idx p0.2.2.1 b>>=λi=>if(a.2.2.1<i.length:Ϛ)then(idx p0.2.2.1 b>>=λ_=>idx i a.2.2.1>>=λf=>idx p0.2.1 f>>=λc=>idx p0.2.1 f>>=λd=>tj (p0.1,(p0.2.1,(p0.2.2.1,a.2.2.2))) (aB<|(aB (c.1+d.2.1)) - b) f>>=λh=>(idx a.1<|aB<|(aB (c.1+d.2.1)) - b)>>=λj=>if(j<0:Ϛ)then(pz b a c d h<|(h.1>0:Ϛ))else(pz b a c d h false))else(some<|.inr (a.1,a.2.1,a.2.2.2))
def wo(p0:Int×LB×LM×LI)(a:LI×LI×Int×LI):ϗ ((LI×LI×Int×LI)⊕(LI×LI)):=if(a.2.2.1<a.2.1.length:Ϛ)then(idx a.2.1 a.2.2.1>>=λc=>iter (wn p0 c) (a.1,a.2.1,0,a.2.2.2)>>=λb=>WU a b.1 b.2.1 b.2.2)else(some<|.inr (a.1,a.2.2.2))
def Ks(p0:Int×LB×LM×LI)(p1:Int)(a:LI):=idx a p1>>=λd=>(some<|a.set p1.toNat 0)>>=λc=>iter (wo p0) (c,[p1],0,p0.2.2.2)>>=λb=>Kr p0 b.1 b.2
def wq(p0:Int×LB×LM×LI)(a:LI×Int):ϗ ((LI×Int)⊕LI):=if(a.2<p0.1:Ϛ)then(aX 8 a.1 [(-1)]>>=λb=>some<|.inl (b,aB (a.2+1)))else(some<|.inr a.1)
def sZ(p0:Int×LB×LM×LI)(p1:Int):=iter (wq p0) ([],0)>>=λa=>Ks p0 p1 a
def yQ(p0:Int×LB×LM×LI)(p1 a:Int):ϗ ((Int×LB×LM×LI)):=idx p0.2.1 a>>=λb=>if(b.1=p1:Ϛ)then(idx p0.2.2.2 a>>=λc=>idx p0.2.2.2 a>>=λi=>(some<|p0.2.2.2.set a.toNat<|aB (c+1))>>=λd=>some (p0.1,(p0.2.1,(p0.2.2.1,d))))else(idx p0.2.2.2 a>>=λf=>idx p0.2.2.2 a>>=λj=>(some<|p0.2.2.2.set a.toNat<|aB<|f - 1)>>=λh=>some (p0.1,(p0.2.1,(p0.2.2.1,h))))
def Xz(p0:Int×LB×LM×LI)(a:LI):=some (true,(p0.1,(p0.2.1,(p0.2.2.1,a))))
def Kc(p0:Int×LB×LM×LI)(a:Int×LI)(b c:Int)(d:LI):ϗ ((Int×LI)⊕LI):=yQ (p0.1,(p0.2.1,(p0.2.2.1,d))) a.1 c>>=λf=>some<|.inl (b,f.2.2.2)
def sv(a:Int×Int×Int×LI)(b c:Int)(d:LI):ϗ ((Int×Int×Int×LI)⊕(Int×Int×LI)):=some (.inl (b,c,aB (a.2.2.1+1),d))
def kI(p0:Int×LB×LM×LI)(c:Int×LI)(a:Int×Int×Int×LI)(f:LI)(h:Int)(b:Int×Int×(Int×LB×LM×LI))(d:Bool):ϗ ((Int×Int×Int×LI)⊕(Int×Int×LI)):=if d then(idx p0.2.2.1 c.1>>=λ_=>idx f a.2.2.1>>=λ_=>sv a b.2.1 h b.2.2.2.2.2)else(sv a a.1 a.2.1 b.2.2.2.2.2)
def wx(p0:Int×LB×LM×LI)(h:LI×(Int×LB×LM×LI))(b:Int×LI)(a:Int×Int×Int×LI):ϗ ((Int×Int×Int×LI)⊕(Int×Int×LI)):=idx p0.2.2.1 b.1>>=λd=>if(a.2.2.1<d.length:Ϛ)then(idx p0.2.2.1 b.1>>=λ_=>idx d a.2.2.1>>=λf=>tj (p0.1,(p0.2.1,(p0.2.2.1,a.2.2.2))) b.1 f>>=λc=>if(c.1>0:Ϛ)then(idx h.1 c.2.1>>=λi=>idx h.1 b.1>>=λj=>if(i=(aB<|j - 1):Ϛ)then(if(a.1<0:Ϛ)then(kI p0 b a d f c true)else(kI p0 b a d f c<|(c.2.1<a.1:Ϛ)))else(kI p0 b a d f c false))else(kI p0 b a d f c false))else(some<|.inr (a.1,a.2.1,a.2.2.2))
def wy(p0:Int×LB×LM×LI)(d:Int)(c:LI×(Int×LB×LM×LI))(a:Int×LI):ϗ ((Int×LI)⊕LI):=if !(a.1=d:Ϛ)then(iter (wx p0 c a) ((-1),0,0,a.2)>>=λb=>Kc p0 a b.1 b.2.1 b.2.2)else(some<|.inr a.2)
def tk(p0:Int×LB×LM×LI)(p1 b:Int):=sZ p0 b>>=λa=>idx a.1 p1>>=λc=>if(c<0:Ϛ)then(some (false,(p0.1,(p0.2.1,(p0.2.2.1,a.2.2.2.2)))))else(iter (wy p0 b a) (p1,a.2.2.2.2)>>=λd=>Xz p0 d)
def Mh(a:(Int×LB×LM×LI))(b:Int)(c:LI):=some ((a.1,(a.2.1,(a.2.2.1,c))),b)
def yb(d f:Int)(b:(Int×LB×LM×LI))(a:Int×LI):ϗ ((Int×LI)⊕(Int×LI)):=tk (b.1,(b.2.1,(b.2.2.1,a.2))) d f>>=λc=>if c.1 then(some<|.inl (aB (a.1+1),c.2.2.2.2))else(some<|.inr (a.1,c.2.2.2.2))
def AW(p0:Int)(p1:LB)(c d:Int):=Bg p0 p1>>=λa=>iter (yb c d a) (0,a.2.2.2)>>=λb=>Mh a b.1 b.2
def Ka(p0:Int×LB×LM×LI)(a:LI×(Int×LB×LM×LI))(b:LI):=some (b,(p0.1,(p0.2.1,(p0.2.2.1,a.2.2.2.2))))
def xm(a:LI×Int)(b:LI):ϗ ((LI×Int)⊕LI):=some (.inl (b,aB (a.2+1)))
def DL(p0:Int×LB×LM×LI)(b:LI×(Int×LB×LM×LI))(a:LI×Int):ϗ ((LI×Int)⊕LI):=if(a.2<p0.1:Ϛ)then(idx b.1 a.2>>=λc=>if(c≥0:Ϛ)then(aX 8 a.1 [a.2]>>=λd=>xm a d)else(xm a a.1))else(some<|.inr a.1)
def yP(p0:Int×LB×LM×LI)(p1:Int):=sZ p0 p1>>=λa=>iter (DL p0 a) ([],0)>>=λb=>Ka p0 a b
def YX : Option (Bool):=some false
def Ed(p1 b:LI)(a:Int):ϗ (Int⊕(Unit ⊕ Bool)):=if(a<p1.length:Ϛ)then(idx p1 a>>=λc=>idx b a>>=λd=>if !(c=d:Ϛ)then(idx p1 a>>=λf=>idx b a>>=λh=>some<|.inr<|.inr<|(f<h:Ϛ))else(some<|.inl<|aB (a+1)))else(some<|.inr<|.inl ())
def Au(p0:Int)(p1:LI)(b:Int)(a:LI):=if !(p0=b:Ϛ)then(some<|(p0<b:Ϛ))else(if !((p1.length:Int)=(a.length:Int):Ϛ)then(some<|((p1.length:Int)<(a.length:Int):Ϛ))else(iter (Ed p1 a) 0>>=λc=>match c with | .inl z=>YX | .inr z=>some z))
def KE(a:Int)(b:LI):=some (a,b)
def s_(a:Int×LI×Int)(b:Int)(c:LI):ϗ ((Int×LI×Int)⊕(Int×LI)):=some (.inl (b,c,aB (a.2.2+1)))
def m_(a:Int×LI×Int)(b:(Int×LB×LM×LI)×Int)(c:LI×(Int×LB×LM×LI))(d:Bool):ϗ ((Int×LI×Int)⊕(Int×LI)):=if d then(s_ a b.2 c.1)else(s_ a a.1 a.2.1)
def DU(p0:Int)(p1:LB)(a:Int×LI×Int):ϗ ((Int×LI×Int)⊕(Int×LI)):=if(a.2.2<p0:Ϛ)then(AW p0 p1 0 a.2.2>>=λb=>yP b.1 a.2.2>>=λc=>if(a.1<0:Ϛ)then(m_ a b c true)else(Au b.2 c.1 a.1 a.2.1>>=λd=>m_ a b c d))else(some<|.inr (a.1,a.2.1))
def Ae(p0:Int)(p1:LB):=iter (DU p0 p1) ((-1),[],1)>>=λa=>KE a.1 a.2
def z'(p0:LG×LT)(p1:LP)(b:Int):ϗ (Bool×Int):=nK p0 p1>>=λc=>Aa (p1.length:Int) c b>>=λa=>if(a.1>64:Ϛ)then(some (false,4))else(if(a.1<2:Ϛ)then(some (true,0))else(Ae a.1 a.2>>=λd=>some ((d.1≥b:Ϛ),0)))
def qv(p0:TS×(LP)×Int)(b:Bool):=if b then(some false)else(z' p0.1 p0.2.1 p0.2.2>>=λa=>if a.1 then(some<|(a.2=0:Ϛ))else(some false))
def kf(p0:TS×(LP)×Int):=qJ p0.1>>=λa=>if !a then(qv p0 true)else(qI p0.1 p0.2.1>>=λb=>if !b then(qv p0 true)else(if((p0.2.1.length:Int)=0:Ϛ)then(qv p0 true)else(xl p0.2.2>>=λx23=>qv p0 (!x23))))
def EB(a:LG)(b:LT)(c:LP)(d:Int):ϗ ((TS×(LP)×Int)×Int×Int):=kf ((a,b),(c,d))>>=λf=>if !f then(some ((([],[]),([],0)),0,1))else(some (((a,b),(c,d)),0,0))
def kH(c:LW)(a:Int×LG×LT×LP×Int):ϗ ((Int×LG×LT×LP×Int)⊕((LG×LT×LP×Int) ⊕ ((TS×(LP)×Int)×Int×Int))):=if(a.1<c.length:Ϛ)then(idx c a.1>>=λd=>kN d>>=λf=>(g_ ((a.2.1,a.2.2.1),a.2.2.2) f<|(a.1=0:Ϛ))>>=λb=>if !(b.1=0:Ϛ)then(some<|.inr<|.inr ((([],[]),([],0)),aB (a.1+1),b.1))else(some<|.inl (aB (a.1+1),b.2.1.1,b.2.1.2,b.2.2.1,b.2.2.2)))else(some<|.inr<|.inl (a.2.1,a.2.2.1,a.2.2.2.1,a.2.2.2.2))
def qf(p0:BS):ϗ ((TS×(LP)×Int)×Int×Int):=if((p0.length:Int)>20000:Ϛ)then(some ((([],[]),([],0)),0,2))else(ul p0>>=λa=>iter (kH a) (0,[],[],[],0)>>=λb=>match b with | .inl z=>EB z.1 z.2.1 z.2.2.1 z.2.2.2 | .inr z=>some z)
def Mc(a:LI):ϗ BS:=some (f_ a)
def sU(p0:LW)(a:LI×Int):ϗ ((LI×Int)⊕LI):=if(a.2<p0.length:Ϛ)then(idx p0 a.2>>=λx23=>dO x23 ([10]:BS)>>=λb=>(aX 1 a.1<|dZ b)>>=λc=>some<|.inl (c,aB (a.2+1)))else(some<|.inr a.1)
def AU(p0:LW):ϗ BS:=iter (sU p0) ([],0)>>=λa=>Mc a
def ka(p0 p1:Int):ϗ Int:=if(p0=0:Ϛ)then(some 0)else(some<|aB (p0+p1))
def Yk(a:LP):ϗ ((LP)×Int×Int):=some (a,0,0)
def pQ(a:Int×LP)(b:Int)(c:LP):ϗ ((Int×LP)⊕((LP) ⊕ ((LP)×Int×Int))):=if !(b=0:Ϛ)then(some<|.inr<|.inr ([],aB (a.1+1),b))else(some<|.inl (aB (a.1+1),c))
def pP(p0:LG×LT)(a:Int×LP)(b:LW)(d:Bool):ϗ ((Int×LP)⊕((LP) ⊕ ((LP)×Int×Int))):=if d then(idx b 1>>=λf=>idx b 2>>=λh=>qp p0 a.2 f h>>=λc=>pQ a c.1 c.2)else(pQ a 6 a.2)
def px(p0:LG×LT)(p1:LW)(a:Int×LP):ϗ ((Int×LP)⊕((LP) ⊕ ((LP)×Int×Int))):=if(a.1<p1.length:Ϛ)then(idx p1 a.1>>=λc=>kN c>>=λb=>if((b.length:Int)=3:Ϛ)then(idx b 0>>=λd=>pP p0 a b<|(d=([97,116]:BS):Ϛ))else(pP p0 a b false))else(some<|.inr<|.inl a.2)
def tJ(p0:LG×LT)(p1:LW):=iter (px p0 p1) (0,[])>>=λa=>match a with | .inl z=>Yk z | .inr z=>some z
def Fl(p0:Int):ϗ BS:=fX p0 1 6>>=λb=>if !b then(some ([]:BS))else((idx [([103,114,111,119,110]:BS),([116,101,114,109,105,110,97,108]:BS),([117,110,105,113,117,101]:BS),([99,111,110,102,108,105,99,116]:BS),([115,116,97,98,108,101]:BS),([108,111,111,115,101]:BS)]<|aB<|p0 - 1)>>=λa=>some a)
def Mb : Option (Int):=some 0
def ya(p0:BS)(a:Int):ϗ (Int⊕(Unit ⊕ Int)):=if(a<=6:Ϛ)then(Fl a>>=λb=>if(b=p0:Ϛ)then(some<|.inr<|.inr a)else(some<|.inl<|aB (a+1)))else(some<|.inr<|.inl ())
def ur(p0:BS):=iter (ya p0) 1>>=λa=>match a with | .inl z=>Mb | .inr z=>some z
def Yn(a:LI):=some (a,true)
def sf(p0:LW)(a:LI×Int):ϗ ((LI×Int)⊕((LI) ⊕ (LI×Bool))):=if(a.2<p0.length:Ϛ)then(idx p0 a.2>>=λc=>jS c>>=λb=>if !b.2 then(some<|.inr<|.inr (([]:LI),false))else(aX 8 a.1 [b.1]>>=λd=>some<|.inl (d,aB (a.2+1))))else(some<|.inr<|.inl a.1)
def Ab(p0:LW):=iter (sf p0) ([],0)>>=λx23=>match x23 with | .inl z=>Yn z | .inr z=>some z
def LA : Option (Int):=some (-1)
def lL(p0:LW)(p1:BS)(a:Int):ϗ (Int⊕(Unit ⊕ Int)):=if(a<p0.length:Ϛ)then(idx p0 a>>=λb=>if(b=p1:Ϛ)then(some<|.inr<|.inr a)else(some<|.inl<|aB (a+1)))else(some<|.inr<|.inl ())
def uj(p0:LW)(p1:BS):=iter (lL p0 p1) 0>>=λa=>match a with | .inl z=>LA | .inr z=>some z
def z1(p0:Int×LP×LP×LI×LM)(a:Int)(b c:LP)(d:LI)(f:LM):=some (aB (a+1),true,(p0.1,(b,(c,(d,f)))))
def zx(p0:Int×LP×LP×LI×LM)(b:LI×Bool)(a:Int)(i:Bool):ϗ (Int×Bool×(Int×LP×LP×LI×LM)):=if i then(some (0,false,p0))else(if((aB (a+1))=1:Ϛ)then(idx b.1 0>>=λj=>idx b.1 1>>=λk=>idx b.1 2>>=λl=>aX 24 p0.2.1 [((j,k),l)]>>=λm=>z1 p0 a m p0.2.2.1 p0.2.2.2.1 p0.2.2.2.2)else(if((aB (a+1))=2:Ϛ)then(idx b.1 0>>=λn=>idx b.1 1>>=λc=>idx b.1 2>>=λd=>aX 24 p0.2.2.1 [((n,c),d)]>>=λf=>z1 p0 a p0.2.1 f p0.2.2.2.1 p0.2.2.2.2)else(if((aB (a+1))=3:Ϛ)then(z1 p0 a p0.2.1 p0.2.2.1 b.1 p0.2.2.2.2)else(if((aB (a+1))=4:Ϛ)then(aX 24 p0.2.2.2.2 [b.1]>>=λh=>z1 p0 a p0.2.1 p0.2.2.1 p0.2.2.2.1 h)else(z1 p0 a p0.2.1 p0.2.2.1 p0.2.2.2.1 p0.2.2.2.2)))))
def nj(p0:Int×LP×LP×LI×LM)(p1:LW)(c:Int):ϗ (Int×Bool×(Int×LP×LP×LI×LM)):=bB p1 1 (p1.length:Int)>>=λd=>Ab d>>=λb=>if !b.2 then(some (0,false,p0))else(idx p1 0>>=λf=>uj [([112,117,116]:BS),([111,116,104,101,114]:BS),([112,97,114,116]:BS),([102,108,111,119]:BS)] f>>=λa=>if((aB (a+1))<c:Ϛ)then(zx p0 b a true)else(if((aB (a+1))<1:Ϛ)then(zx p0 b a true)else(if((aB (a+1))=3:Ϛ)then(if(c=3:Ϛ)then(zx p0 b a true)else(if((b.1.length:Int)=0:Ϛ)then(zx p0 b a true)else(if((aB (a+1))<3:Ϛ)then(zx p0 b a<|!((b.1.length:Int)=3:Ϛ))else(zx p0 b a false))))else(if((aB (a+1))<3:Ϛ)then(zx p0 b a<|!((b.1.length:Int)=3:Ϛ))else(zx p0 b a false)))))
def DY(a:Int)(b c:LP)(d:LI)(f:LM):ϗ ((Int×LP×LP×LI×LM)×Int×Int):=if(a=0:Ϛ)then(some ((0,([],([],([],[])))),1,6))else(some ((a,(b,(c,(d,f)))),0,0))
def kG(a:Int×Int×Int×LP×LP×LI×LM)(c:Int)(d:Bool)(f:Int)(h i:LP)(j:LI)(b:LM):ϗ ((Int×Int×Int×LP×LP×LI×LM)⊕((Int×LP×LP×LI×LM) ⊕ ((Int×LP×LP×LI×LM)×Int×Int))):=if !d then(some<|.inr<|.inr ((0,([],([],([],[])))),aB (a.2.1+1),6))else(some<|.inl (c,aB (a.2.1+1),f,h,i,j,b))
def mL(a:Int×Int×Int×LP×LP×LI×LM)(f:LW)(b:Bool):ϗ ((Int×Int×Int×LP×LP×LI×LM)⊕((Int×LP×LP×LI×LM) ⊕ ((Int×LP×LP×LI×LM)×Int×Int))):=if b then(idx f 1>>=λc=>ur c>>=λd=>kG a a.1 b d a.2.2.2.1 a.2.2.2.2.1 a.2.2.2.2.2.1 a.2.2.2.2.2.2)else(kG a a.1 b a.2.2.1 a.2.2.2.1 a.2.2.2.2.1 a.2.2.2.2.2.1 a.2.2.2.2.2.2)
def zN(p0:LW)(a:Int×Int×Int×LP×LP×LI×LM):ϗ ((Int×Int×Int×LP×LP×LI×LM)⊕((Int×LP×LP×LI×LM) ⊕ ((Int×LP×LP×LI×LM)×Int×Int))):=if(a.2.1<p0.length:Ϛ)then(idx p0 a.2.1>>=λi=>kN i>>=λb=>if(a.2.1=0:Ϛ)then(if((b.length:Int)=2:Ϛ)then(idx b 0>>=λd=>if(d=([112,114,111,111,102]:BS):Ϛ)then(idx b 1>>=λf=>ur f>>=λh=>mL a b<|(h>0:Ϛ))else(mL a b false))else(mL a b false))else(if((b.length:Int)>0:Ϛ)then(nj a.2.2 b a.1>>=λc=>kG a c.1 c.2.1 a.2.2.1 c.2.2.2.1 c.2.2.2.2.1 c.2.2.2.2.2.1 c.2.2.2.2.2.2)else(kG a a.1 ((b.length:Int)>0:Ϛ) a.2.2.1 a.2.2.2.1 a.2.2.2.2.1 a.2.2.2.2.2.1 a.2.2.2.2.2.2)))else(some<|.inr<|.inl (a.2.2.1,a.2.2.2.1,a.2.2.2.2.1,a.2.2.2.2.2.1,a.2.2.2.2.2.2))
def pH(p0:LW):=iter (zN p0) (1,0,0,[],[],[],[])>>=λa=>match a with | .inl z=>DY z.1 z.2.1 z.2.2.1 z.2.2.2.1 z.2.2.2.2 | .inr z=>some z
def yO(a:Bool):ϗ Int:=if a then(some 1)else(some 0)
def Fu(p0:TS×(LP)×Int)(p1:LP):=kf p0>>=λa=>if !a then(yO true)else(qI p0.1 p1>>=λb=>yO (!b))
def ua(p0:Int×LP×LP×LI×LM):=if(p0.1<=4:Ϛ)then(if(p0.1=4:Ϛ)then(if(p0.1=6:Ϛ)then(if(p0.1=5:Ϛ)then(some true)else(some<|((p0.2.2.2.2.length:Int)=0:Ϛ)))else(if((p0.2.2.2.1.length:Int)=0:Ϛ)then(if(p0.1=5:Ϛ)then(some true)else(some<|((p0.2.2.2.2.length:Int)=0:Ϛ)))else(some false)))else(if((p0.2.2.1.length:Int)=0:Ϛ)then(if(p0.1=6:Ϛ)then(if(p0.1=5:Ϛ)then(some true)else(some<|((p0.2.2.2.2.length:Int)=0:Ϛ)))else(if((p0.2.2.2.1.length:Int)=0:Ϛ)then(if(p0.1=5:Ϛ)then(some true)else(some<|((p0.2.2.2.2.length:Int)=0:Ϛ)))else(some false)))else(some false)))else(if((p0.2.1.length:Int)=0:Ϛ)then(if(p0.1=4:Ϛ)then(if(p0.1=6:Ϛ)then(if(p0.1=5:Ϛ)then(some true)else(some<|((p0.2.2.2.2.length:Int)=0:Ϛ)))else(if((p0.2.2.2.1.length:Int)=0:Ϛ)then(if(p0.1=5:Ϛ)then(some true)else(some<|((p0.2.2.2.2.length:Int)=0:Ϛ)))else(some false)))else(if((p0.2.2.1.length:Int)=0:Ϛ)then(if(p0.1=6:Ϛ)then(if(p0.1=5:Ϛ)then(some true)else(some<|((p0.2.2.2.2.length:Int)=0:Ϛ)))else(if((p0.2.2.2.1.length:Int)=0:Ϛ)then(if(p0.1=5:Ϛ)then(some true)else(some<|((p0.2.2.2.2.length:Int)=0:Ϛ)))else(some false)))else(some false)))else(some false))
def kQ(p0:LP):ϗ ((LP)):=aX 24 ([]:LP) p0>>=λa=>some a
def jB(p0:LP)(p1:Int×Int):ϗ Int:=iS p0 p1>>=λa=>if(a<0:Ϛ)then(some (-1))else(idx p0 a>>=λb=>some b.2)
def Yt(a:Int):=some a
def xR(a:Int×Int)(b:Int):ϗ ((Int×Int)⊕Int):=some (.inl (b,aB (a.2+1)))
def DS(p0:LG×LT)(p1:LP)(f:Int×Int)(h:Int)(a:Int×Int):ϗ ((Int×Int)⊕Int):=if(a.2<4:Ϛ)then(gR f a.2>>=λc=>jB p1 c>>=λb=>if(b≥0:Ϛ)then(lZ p0 h a.2 b>>=λd=>xR a<|aB (a.1+d))else(xR a a.1))else(some<|.inr a.1)
def tN(p0:LG×LT)(p1:LP)(b:Int×Int)(c:Int):=iter (DS p0 p1 b c) (0,0)>>=λa=>Yt a
def Bf(p0:TS×(LP)×Int)(p1:LP)(a:(Int×Int)×Int):=nM a.1>>=λb=>if b then(un p0.1 a.2>>=λx23=>if x23 then(iS p1 a.1>>=λc=>if(c<0:Ϛ)then(tN p0.1 p1 a.1 a.2>>=λd=>some<|(d≥p0.2.2:Ϛ))else(some false))else(some false))else(some false)
def z_(p0:LP)(p1:(Int×Int)×Int):ϗ ((LP)×Int):=if((p0.length:Int)≥500:Ϛ)then(some ([],4))else(nO p0 p1.1 p1.2>>=λa=>some (a,0))
def Mf(a:LP):ϗ ((LP)×Int×Int):=some (a,0,0)
def lP(p0:TS×(LP)×Int)(p1:LP)(a:Int×LP):ϗ ((Int×LP)⊕((LP) ⊕ ((LP)×Int×Int))):=if(a.1<p1.length:Ϛ)then(idx p1 a.1>>=λc=>Bf p0 a.2 c>>=λd=>if !d then(some<|.inr<|.inr ([],a.1,5))else(idx p1 a.1>>=λ_=>z_ a.2 c>>=λb=>if !(b.2=0:Ϛ)then(some<|.inr<|.inr ([],0,b.2))else(some<|.inl (aB (a.1+1),b.1))))else(some<|.inr<|.inl a.2)
def qF(p0:TS×(LP)×Int)(p1:LP):=kQ p0.2.1>>=λa=>iter (lP p0 p1) (0,a)>>=λb=>match b with | .inl z=>Mf z | .inr z=>some z
def sR(p0:TS×(LP)×Int)(p1:LP):ϗ ((LP)×Int×Int):=kf p0>>=λb=>if !b then(some ([],0,1))else(if((p1.length:Int)>500:Ϛ)then(some ([],0,2))else(qF p0 p1>>=λa=>some (a.1,a.2.1,a.2.2)))
def My : Option (Bool):=some true
def sX(p0 p1:LP)(a:Int):ϗ (Int⊕(Unit ⊕ Bool)):=if(a<p0.length:Ϛ)then(idx p0 a>>=λb=>idx p1 a>>=λc=>if !(((b.1.1=c.1.1:Ϛ)&&(b.1.2=c.1.2:Ϛ))&&(b.2=c.2:Ϛ))then(some<|.inr<|.inr false)else(some<|.inl<|aB (a+1)))else(some<|.inr<|.inl ())
def uz(p0 p1:LP):=if !((p0.length:Int)=(p1.length:Int):Ϛ)then(some false)else(iter (sX p0 p1) 0>>=λa=>match a with | .inl z=>My | .inr z=>some z)
def kM(p0:TS×(LP)×Int)(p1 c:LP):=sR p0 p1>>=λa=>if(a.2.2=0:Ϛ)then(uz a.1 c>>=λb=>some b)else(some false)
def Ko(p1:Int×Int)(a:Int)(b:List (Int×Int)):=idx b a>>=λd=>(some<|b.set a.toNat p1)>>=λc=>some c
def wP(b:Int)(a:(List (Int×Int))×Int):ϗ (((List (Int×Int))×Int)⊕((List (Int×Int)))):=if(a.2>b:Ϛ)then((idx a.1<|aB<|a.2 - 1)>>=λc=>idx a.1 a.2>>=λf=>(some<|a.1.set a.2.toNat c)>>=λd=>some<|.inl (d,aB<|a.2 - 1))else(some<|.inr a.1)
def pv(p0:List (Int×Int))(p1:Int×Int)(a:Int)(b:Bool):=if b then(some p0)else(aX 16 p0 [p1]>>=λx23=>iter (wP a) (x23,aB<|(x23.length:Int) - 1)>>=λc=>Ko p1 a c)
def Kp(p0:List (Int×Int))(p1:Int×Int)(a:Int):=if(a<p0.length:Ϛ)then(idx p0 a>>=λb=>pv p0 p1 a<|(b.1=p1.1:Ϛ)&&(b.2=p1.2:Ϛ))else(pv p0 p1 a false)
def pu(a:Int)(b:Bool):ϗ (Int⊕Int):=if b then(some<|.inl<|aB<|a - 1)else(some<|.inr a)
def pE(p0:List (Int×Int))(p1:Int×Int)(a:Int):ϗ (Int⊕Int):=if(a>0:Ϛ)then((idx p0<|aB<|a - 1)>>=λb=>nJ b p1>>=λc=>pu a (!c))else(pu a false)
def yN(p0:List (Int×Int))(p1:Int×Int):=iter (pE p0 p1) (p0.length:Int)>>=λa=>Kp p0 p1 a
def ZY(a:List (Int×Int)):=some a
def Mg(a:(List (Int×Int))×Int)(b:List (Int×Int)):ϗ (((List (Int×Int))×Int)⊕((List (Int×Int)))):=some (.inl (b,aB (a.2+1)))
def tM(a:(List (Int×Int))×Int)(b:List (Int×Int)):ϗ (((List (Int×Int))×Int)⊕((List (Int×Int)))):=some (.inl (b,aB (a.2+1)))
def tL(a:(List (Int×Int))×Int)(b:(Int×Int))(c:Bool):ϗ (((List (Int×Int))×Int)⊕((List (Int×Int)))):=if c then(yN a.1 b>>=λd=>tM a d)else(tM a a.1)
def sV(p0:LP)(c a:(List (Int×Int))×Int):ϗ (((List (Int×Int))×Int)⊕((List (Int×Int)))):=if(a.2<4:Ϛ)then(idx p0 c.2>>=λd=>gR d.1 a.2>>=λb=>nM b>>=λf=>if f then(iS p0 b>>=λh=>tL a b<|(h<0:Ϛ))else(tL a b false))else(some<|.inr a.1)
def sW(p0:LP)(a:(List (Int×Int))×Int):ϗ (((List (Int×Int))×Int)⊕((List (Int×Int)))):=if(a.2<p0.length:Ϛ)then(iter (sV p0 a) (a.1,0)>>=λb=>Mg a b)else(some<|.inr a.1)
def AV(p0:LP):=iter (sW p0) ([],0)>>=λa=>ZY a
def MP(a:LI):=some a
def AM(a:LI×Int)(b:LI):ϗ ((LI×Int)⊕LI):=some (.inl (b,aB (a.2+1)))
def MO(d:Int)(a:LI×Int)(b:Int):ϗ ((LI×Int)⊕LI):=if(b≥d:Ϛ)then(aX 8 a.1 [a.2]>>=λc=>AM a c)else(AM a a.1)
def AL(a:Int×Int)(b:Int):ϗ ((Int×Int)⊕Int):=some (.inl (b,aB (a.2+1)))
def yA(p0:LG×LT)(b:LI)(d:LI×Int)(a:Int×Int):ϗ ((Int×Int)⊕Int):=if(a.2<4:Ϛ)then(idx p0.2 d.2>>=λf=>idx f.2 a.2>>=λh=>idx b a.2>>=λc=>if(h=c:Ϛ)then(idx b a.2>>=λ_=>kL p0 c>>=λi=>AL a<|aB (a.1+i))else(AL a a.1))else(some<|.inr a.1)
def yB(p0:LG×LT)(d:Int)(b:LI)(a:LI×Int):ϗ ((LI×Int)⊕LI):=if(a.2<p0.2.length:Ϛ)then(iter (yA p0 b a) (0,0)>>=λc=>MO d a c)else(some<|.inr a.1)
def MQ(p0:LG×LT)(c:Int)(a:LI):=iter (yB p0 c a) ([],0)>>=λb=>MP b
def AK(a:LI×Int)(b:LI):ϗ ((LI×Int)⊕LI):=some (.inl (b,aB (a.2+1)))
def uh(p0:LG×LT)(p1:LP)(k:Int×Int)(a:LI×Int):ϗ ((LI×Int)⊕LI):=if(a.2<4:Ϛ)then(gR k a.2>>=λc=>jB p1 c>>=λb=>if(b<0:Ϛ)then(aX 8 a.1 [0]>>=λd=>AK a d)else(idx p0.2 b>>=λf=>qz a.2>>=λh=>idx f.2 h>>=λi=>aX 8 a.1 [i]>>=λj=>AK a j))else(some<|.inr a.1)
def uO(p0:LG×LT)(p1:LP)(b:Int×Int)(c:Int):=iter (uh p0 p1 b) ([],0)>>=λa=>MQ p0 c a
def Yr(a:LP):=some a
def KD(a:LP×Int)(b:LP):ϗ ((LP×Int)⊕LP):=some (.inl (b,aB (a.2+1)))
def rS(d:(List (Int×Int)))(c:LP×Int)(f:Int×Int)(b:LI)(a:LP×Int):ϗ ((LP×Int)⊕LP):=if(a.2<b.length:Ϛ)then(idx d c.2>>=λ_=>idx b a.2>>=λh=>aX 24 a.1 [(f,h)]>>=λi=>some<|.inl (i,aB (a.2+1)))else(some<|.inr a.1)
def rU(p0:TS×(LP)×Int)(p1:LP)(b:(List (Int×Int)))(a:LP×Int):ϗ ((LP×Int)⊕LP):=if(a.2<b.length:Ϛ)then(idx b a.2>>=λc=>uO p0.1 p1 c p0.2.2>>=λd=>iter (rS b a c d) (a.1,0)>>=λf=>KD a f)else(some<|.inr a.1)
def qe(p0:TS×(LP)×Int)(p1:LP):=AV p1>>=λa=>iter (rU p0 p1 a) ([],0)>>=λb=>Yr b
def YR(a b:LI):=some (a,b)
def Lc(p0:TS×(LP)×Int)(a:LI×LI×Int×LP)(b:(Int×Int)×Int)(f:Int):ϗ ((LI×LI×Int×LP)⊕(LI×LI)):=aX 8 a.1 [f]>>=λh=>tN p0.1 a.2.2.2 b.1 b.2>>=λi=>aX 8 a.2.1 [i]>>=λc=>nO a.2.2.2 b.1 b.2>>=λd=>some<|.inl (h,c,aB (a.2.2.1+1),d)
def yv(a:Int×Int)(b:Int):ϗ ((Int×Int)⊕Int):=some (.inl (b,aB (a.2+1)))
def yu(a:Int×Int)(b:Bool):ϗ ((Int×Int)⊕Int):=if b then(mJ .i64 1 a.2>>=λc=>yv a<|aB (a.1+c))else(yv a a.1)
def sH(p0:TS×(LP)×Int)(d:LI×LI×Int×LP)(c:(Int×Int)×Int)(a:Int×Int):ϗ ((Int×Int)⊕Int):=if(a.2<4:Ϛ)then(gR c.1 a.2>>=λf=>jB d.2.2.2 f>>=λb=>if(b≥0:Ϛ)then(lZ p0.1 c.2 a.2 b>>=λh=>yu a<|(h>0:Ϛ))else(yu a false))else(some<|.inr a.1)
def wS(p0:TS×(LP)×Int)(p1:LP)(a:LI×LI×Int×LP):ϗ ((LI×LI×Int×LP)⊕(LI×LI)):=if(a.2.2.1<p1.length:Ϛ)then(idx p1 a.2.2.1>>=λb=>iter (sH p0 a b) (0,0)>>=λc=>Lc p0 a b c)else(some<|.inr (a.1,a.2.1))
def y_(p0:TS×(LP)×Int)(p1:LP):=kQ p0.2.1>>=λb=>iter (wS p0 p1) ([],[],0,b)>>=λa=>YR a.1 a.2
def Yq(a:LI):=some a
def KB(a:LI×Int)(b:Int):ϗ ((LI×Int)⊕LI):=aX 8 a.1 [b]>>=λc=>some<|.inl (c,aB (a.2+1))
def KA(a:Int×Int)(b:Int):ϗ ((Int×Int)⊕Int):=some (.inl (b,aB (a.2+1)))
def pU(a:Int×Int)(b:Int):ϗ ((Int×Int)⊕Int):=some (.inl (b,aB (a.2+1)))
def pT(b a:Int×Int)(c:Bool):ϗ ((Int×Int)⊕Int):=if c then(mJ .i64 1 b.2>>=λd=>pU a<|aB (a.1+d))else(pU a a.1)
def zW(p0:LP)(p1:LI)(b:Int×Int)(c:(Int×Int))(a:Int×Int):ϗ ((Int×Int)⊕Int):=if(a.2<p0.length:Ϛ)then(idx p0 a.2>>=λd=>if((d.1.1=c.1:Ϛ)&&(d.1.2=c.2:Ϛ))then(idx p1 a.2>>=λf=>qz b.2>>=λh=>mz .i64 f h>>=λi=>pT b a<|((kx .i64 i 1)=1:Ϛ))else(pT b a false))else(some<|.inr a.1)
def sn(p0:LP)(p1:LI)(b:LI×Int)(a:Int×Int):ϗ ((Int×Int)⊕Int):=if(a.2<4:Ϛ)then(idx p0 b.2>>=λc=>gR c.1 a.2>>=λd=>iter (zW p0 p1 a d) (a.1,aB (b.2+1))>>=λf=>KA a f)else(some<|.inr a.1)
def wZ(p0:LP)(p1:LI)(a:LI×Int):ϗ ((LI×Int)⊕LI):=if(a.2<p0.length:Ϛ)then(iter (sn p0 p1 a) (0,0)>>=λb=>KB a b)else(some<|.inr a.1)
def Ad(p0:LP)(p1:LI):=iter (wZ p0 p1) ([],0)>>=λa=>Yq a
def Kz(a:LP):=some a
def yj(a:Int×LP)(b:LP):ϗ ((Int×LP)⊕LP):=some (.inl (aB (a.1+1),b))
def Ky(p0:LP)(a:Int×LP)(b:(Int×Int)×Int)(c:Bool):ϗ ((Int×LP)⊕LP):=if c then(idx p0 a.1>>=λ_=>aX 24 a.2 [b]>>=λd=>yj a d)else(yj a a.2)
def yi(a:Bool×Int)(b:Bool):ϗ ((Bool×Int)⊕Bool):=some (.inl (b,aB (a.2+1)))
def yh(a:Bool×Int)(b:Bool):ϗ ((Bool×Int)⊕Bool):=if b then(yi a false)else(yi a a.1)
def pR(p0:LP)(p1:Int×Int)(h:Int)(d:Int×LP)(b:(Int×Int)×Int)(a:Bool×Int):ϗ ((Bool×Int)⊕Bool):=if(a.2<4:Ϛ)then(mz .i64 h a.2>>=λf=>if((kx .i64 f 1)=1:Ϛ)then(idx p0 d.1>>=λ_=>gR p1 a.2>>=λc=>yh a<|(b.1.1=c.1:Ϛ)&&(b.1.2=c.2:Ϛ))else(yh a false))else(some<|.inr a.1)
def wY(p0:LP)(p1:Int×Int)(d:Int)(a:Int×LP):ϗ ((Int×LP)⊕LP):=if(a.1<p0.length:Ϛ)then(idx p0 a.1>>=λb=>iter (pR p0 p1 d a b) (!((b.1.1=p1.1:Ϛ)&&(b.1.2=p1.2:Ϛ)),0)>>=λc=>Ky p0 a b c)else(some<|.inr a.2)
def Ac(p0:LP)(p1:Int×Int)(b:Int):=iter (wY p0 p1 b) (0,[])>>=λa=>Kz a
def LF(p0:TS×(LP)×Int)(b:(LP)×Int×Int)(d f:Int):ϗ (Int×(Int×Int)):=qe p0 b.1>>=λa=>if((a.length:Int)>0:Ϛ)then(idx a 0>>=λc=>some (3,c.1))else(some (0,(0,0)))
def Ei(p0:TS×(LP)×Int)(p1:LP)(f:LI×LI)(h:LI)(i:(LP)×Int×Int)(a:Int×Int×Int):ϗ ((Int×Int×Int)⊕((Int×Int) ⊕ (Int×(Int×Int)))):=if(a.1<p1.length:Ϛ)then(idx f.2 a.1>>=λj=>if !(j=p0.2.2:Ϛ)then(idx p1 a.1>>=λk=>some<|.inr<|.inr (1,k.1))else(idx p1 a.1>>=λl=>idx h a.1>>=λm=>Ac i.1 l.1 m>>=λn=>idx p1 a.1>>=λb=>uO p0.1 n b.1 p0.2.2>>=λc=>if !((c.length:Int)=1:Ϛ)then(idx p1 a.1>>=λd=>some<|.inr<|.inr (2,d.1))else(some<|.inl (aB (a.1+1),a.2.1,a.2.2))))else(some<|.inr<|.inl (a.2.1,a.2.2))
def uk(p0:TS×(LP)×Int)(p1:LP):=y_ p0 p1>>=λa=>Ad p1 a.1>>=λc=>qF p0 p1>>=λb=>iter (Ei p0 p1 a c b) (0,0,0)>>=λd=>match d with | .inl z=>LF p0 b z.1 z.2 | .inr z=>some z
def sO(p0:TS×(LP)×Int)(p1 c:LP)(d:Bool):=if d then(some false)else(sR p0 c>>=λf=>(idx p1<|aB<|(p1.length:Int) - 1)>>=λa=>(idx c<|aB<|(c.length:Int) - 1)>>=λb=>if(f.2.2=0:Ϛ)then(if((a.1.1=b.1.1:Ϛ)&&(a.1.2=b.1.2:Ϛ))then(some<|!(a.2=b.2:Ϛ))else(some false))else(some false))
def yM(p0:TS×(LP)×Int)(p1 a c:LP):=if((p1.length:Int)=0:Ϛ)then(sO p0 p1 a true)else(if((a.length:Int)=0:Ϛ)then(sO p0 p1 a true)else(kM p0 p1 c>>=λb=>sO p0 p1 a (!b)))
def EP(a:Bool):ϗ Int:=if a then(some 1)else(some 0)
def qw(p0:LG×LT)(p1:LP):=qJ p0>>=λa=>if !a then(EP true)else(qI p0 p1>>=λb=>EP (!b))
def Lp(c:Int)(a:LI):ϗ (Int×Int):=idx a c>>=λb=>some (b,0)
def sS(a:Int)(b:Bool):ϗ (Int⊕(Unit ⊕ (Int×Int))):=if b then(some<|.inr<|.inr (0,10))else(some<|.inl<|aB (a+1))
def sK(p1:LP)(d f:Int)(b:LI)(a:Int):ϗ (Int⊕(Unit ⊕ (Int×Int))):=if(a<=(aB<|(p1.length:Int) - 1):Ϛ)then(if !(a=d:Ϛ)then(if !(a=f:Ϛ)then(idx b a>>=λc=>sS a<|!(c=0:Ϛ))else(sS a false))else(sS a false))else(some<|.inr<|.inl ())
def Lq(p1:LP)(b d:Int)(a:LI):=iter (sK p1 b d a) 0>>=λc=>match c with | .inl z=>Lp b a | .inr z=>some z
def sL(h:LI)(b:LB)(a:LI×Int):ϗ ((LI×Int)⊕((LI) ⊕ (Int×Int))):=if(a.2<b.length:Ϛ)then(idx h a.2>>=λl=>idx b a.2>>=λm=>idx b a.2>>=λn=>fX l (aB<|0 - m.2.2) n.2.2>>=λr=>if !r then(some<|.inr<|.inr (0,10))else(idx b a.2>>=λc=>idx a.1 c.1>>=λu=>idx h a.2>>=λv=>idx a.1 c.1>>=λx=>(some<|a.1.set c.1.toNat<|aB (u+v))>>=λd=>idx b a.2>>=λf=>idx d f.2.1>>=λi=>idx h a.2>>=λj=>idx d f.2.1>>=λw=>(some<|d.set f.2.1.toNat<|aB<|i - j)>>=λk=>some<|.inl (k,aB (a.2+1))))else(some<|.inr<|.inl a.1)
def sT(p0:LG×LT)(p1:LP)(h i:Int)(b:LI)(c:Bool):ϗ (Int×Int):=if c then(some (0,2))else(nK p0 p1>>=λa=>if !((b.length:Int)=(a.length:Int):Ϛ)then(some (0,10))else(eM 8 (p1.length:Int) 0>>=λd=>iter (sL b a) (d,0)>>=λf=>match f with | .inl z=>Lq p1 h i z | .inr z=>some z))
def AA(p0:LG×LT)(p1:LP)(a b:Int)(c:LI):ϗ (Int×Int):=qw p0 p1>>=λx23=>if !(x23=0:Ϛ)then(some (0,x23))else((fX a 0<|aB<|(p1.length:Int) - 1)>>=λd=>if !d then(sT p0 p1 a b c true)else((fX b 0<|aB<|(p1.length:Int) - 1)>>=λf=>if !f then(sT p0 p1 a b c true)else(sT p0 p1 a b c<|(a=b:Ϛ))))
def Zv : Option (Bool):=some true
def yL(a:Int)(b:Bool):ϗ (Int⊕(Unit ⊕ Bool)):=if b then(some<|.inr<|.inr false)else(some<|.inl<|aB (a+1))
def su(p0:TS×(LP)×Int)(p1:LP)(c:LM)(a:Int):ϗ (Int⊕(Unit ⊕ Bool)):=if(a<c.length:Ϛ)then(idx c a>>=λd=>AA p0.1 p1 0 (aB (a+1)) d>>=λb=>if !(b.2=0:Ϛ)then(yL a true)else(yL a<|(b.1<p0.2.2:Ϛ)))else(some<|.inr<|.inl ())
def AJ(p0:TS×(LP)×Int)(p1:LP)(a:LM):=(kR 0<|aB<|(p1.length:Int) - 1)>>=λb=>if !((a.length:Int)=b:Ϛ)then(some false)else(iter (su p0 p1 a) 0>>=λx23=>match x23 with | .inl z=>Zv | .inr z=>some z)
def ZA : Option (Bool):=some true
def pY(a:Int)(b:Bool):ϗ (Int⊕(Unit ⊕ Bool)):=if b then(some<|.inr<|.inr false)else(some<|.inl<|aB (a+1))
def nf(p0:LI)(p1 h a:Int):ϗ (Int⊕(Unit ⊕ Bool)):=if(a<p0.length:Ϛ)then(idx p0 a>>=λb=>fX b p1 h>>=λc=>if !c then(pY a true)else(if(a>0:Ϛ)then((idx p0<|aB<|a - 1)>>=λd=>idx p0 a>>=λf=>pY a<|(d≥f:Ϛ))else(pY a false)))else(some<|.inr<|.inl ())
def Fy(p0:LI)(p1 a:Int):=iter (nf p0 p1 a) 0>>=λb=>match b with | .inl z=>ZA | .inr z=>some z
def AX(p0:LP)(p1:LI):=(Fy p1 0<|aB<|(p0.length:Int) - 1)>>=λa=>some a
def Mx : Option (Bool):=some false
def EQ(p0:LI)(p1 a:Int):ϗ (Int⊕(Unit ⊕ Bool)):=if(a<p0.length:Ϛ)then(idx p0 a>>=λb=>if(b=p1:Ϛ)then(some<|.inr<|.inr true)else(some<|.inl<|aB (a+1)))else(some<|.inr<|.inl ())
def uK(p0:LI)(p1:Int):=iter (EQ p0 p1) 0>>=λa=>match a with | .inl z=>Mx | .inr z=>some z
def zwo(a:Int):=some a
def Aw(a:Int×Int)(b:Int):ϗ ((Int×Int)⊕Int):=some (.inl (b,aB (a.2+1)))
def tu(p0:LB)(p1:LI)(a:Int×Int):ϗ ((Int×Int)⊕Int):=if(a.2<p0.length:Ϛ)then(idx p0 a.2>>=λc=>uK p1 c.1>>=λx23=>idx p0 a.2>>=λb=>uK p1 b.2.1>>=λd=>if !(x23 == d)then(idx p0 a.2>>=λ_=>Aw a<|aB (a.1+b.2.2))else(Aw a a.1))else(some<|.inr a.1)
def Bh(p0:LB)(p1:LI):=iter (tu p0 p1) (0,0)>>=λa=>zwo a
def ub(p0:TS×(LP)×Int)(p1:LP)(d:LI)(a:Bool):=if a then(some false)else(nK p0.1 p1>>=λb=>Bh b d>>=λc=>some<|(c<p0.2.2:Ϛ))
def Be(p0:TS×(LP)×Int)(p1:LP)(a:LI):=AX p1 a>>=λb=>if !b then(ub p0 p1 a true)else(if((a.length:Int)=0:Ϛ)then(ub p0 p1 a true)else(ub p0 p1 a<|((a.length:Int)=(p1.length:Int):Ϛ)))
def AI(p0:TS×(LP)×Int)(p1:LP)(a:Int×LP×LP×LI×LM):=if(a.1=1:Ϛ)then(kM p0 a.2.1 p1>>=λb=>some b)else(if(a.1=2:Ϛ)then(kM p0 a.2.1 p1>>=λc=>if c then(qe p0 p1>>=λd=>some<|((d.length:Int)=0:Ϛ))else(some false))else(if(a.1=3:Ϛ)then(kM p0 a.2.1 p1>>=λf=>if !f then(some false)else(uk p0 a.2.1>>=λh=>some<|(h.1=0:Ϛ)))else(if(a.1=4:Ϛ)then(yM p0 a.2.1 a.2.2.1 p1>>=λi=>some i)else(if(a.1=5:Ϛ)then(AJ p0 p1 a.2.2.2.2>>=λj=>some j)else(Be p0 p1 a.2.2.2.1>>=λk=>some k)))))
def ED(a:Bool):ϗ Int:=if a then(some 10)else(some 0)
def Ag(p0:TS×(LP)×Int)(p1:LP)(b:Int×LP×LP×LI×LM):ϗ Int:=Fu p0 p1>>=λa=>if !(a=0:Ϛ)then(some a)else(fX b.1 1 6>>=λc=>if !c then(some 2)else(ua b>>=λd=>if !d then(ED true)else(AI p0 p1 b>>=λf=>ED (!f))))
def AH(p0:BS×(TS×(LP)×Int)×(LP)×(Int×LP×LP×LI×LM)):=ma p0.1>>=λa=>if a then(Ag p0.2.1 p0.2.2.1 p0.2.2.2>>=λb=>some<|(b=0:Ϛ))else(some false)
def lS(a w:LW)(x:Bool):ϗ ((BS×(TS×(LP)×Int)×(LP)×(Int×LP×LP×LI×LM))×Int×Int):=if x then(some ((([]:BS),((([],[]),([],0)),([],(0,([],([],([],[]))))))),1,6))else(jY a 1 ([101,110,100]:BS)>>=λd=>jY a d ([112,114,111,111,102]:BS)>>=λh=>if(h=a.length:Ϛ)then(some ((([]:BS),((([],[]),([],0)),([],(0,([],([],([],[]))))))),(a.length:Int),6))else(idx w 1>>=λi=>bB a 1 d>>=λy=>AU y>>=λz=>qf z>>=λf=>if !(f.2.2=0:Ϛ)then(ka f.2.1 1>>=λj=>some ((([]:BS),((([],[]),([],0)),([],(0,([],([],([],[]))))))),j,f.2.2))else(idx a d>>=λk=>kN k>>=λl=>if !((l.length:Int)=1:Ϛ)then(some ((([]:BS),((([],[]),([],0)),([],(0,([],([],([],[]))))))),aB (d+1),6))else(bB a (aB (d+1)) h>>=λm=>tJ f.1.1 m>>=λb=>if !(b.2.2=0:Ϛ)then((ka b.2.1<|aB (d+1))>>=λn=>some ((([]:BS),((([],[]),([],0)),([],(0,([],([],([],[]))))))),n,b.2.2))else(bB a h (a.length:Int)>>=λr=>pH r>>=λc=>if !(c.2.2=0:Ϛ)then(ka c.2.1 h>>=λu=>some ((([]:BS),((([],[]),([],0)),([],(0,([],([],([],[]))))))),u,c.2.2))else(AH (i,(f.1,(b.1,c.1)))>>=λv=>if !v then(some ((([]:BS),((([],[]),([],0)),([],(0,([],([],([],[]))))))),0,10))else(some ((i,(f.1,(b.1,c.1))),0,0))))))))
def uf(p0:BS):ϗ ((BS×(TS×(LP)×Int)×(LP)×(Int×LP×LP×LI×LM))×Int×Int):=if((p0.length:Int)>20000:Ϛ)then(some ((([]:BS),((([],[]),([],0)),([],(0,([],([],([],[]))))))),0,2))else(ul p0>>=λb=>if((b.length:Int)=0:Ϛ)then(some ((([]:BS),((([],[]),([],0)),([],(0,([],([],([],[]))))))),1,6))else(idx b 0>>=λh=>kN h>>=λa=>if !((a.length:Int)=2:Ϛ)then(lS b a true)else(idx a 0>>=λc=>if !(c=([101,110,116,114,121]:BS):Ϛ)then(lS b a true)else(idx a 1>>=λd=>ma d>>=λf=>lS b a (!f)))))
def zA:BS->BS->LW
 |[],cur=>if cur=[]then[]else[cur]
 | b::l,cur=>if b=32 then(if cur=[]then zA l []else cur::zA l [])else zA l (cur++[b])
def zR(p0:BS):Option LW:=if p0.length<=1048576 then some (zA p0 [])else none
def MJ(p0:BS):=if((p0.length:Int)≥1:Ϛ)then(some<|((p0.length:Int)<=12:Ϛ))else(some false)
def lW(a:Int)(b:Bool):ϗ (Int⊕(Unit ⊕ Bool)):=if b then(some<|.inr<|.inr false)else(some<|.inl<|aB (a+1))
def kJ(a:Int)(b:UInt8)(c:Bool):ϗ (Int⊕(Unit ⊕ Bool)):=if !c then(if(a=0:Ϛ)then(lW a true)else(if((b.toNat:Int)<48:Ϛ)then(lW a<|!((b.toNat:Int)=95:Ϛ))else(if((b.toNat:Int)>57:Ϛ)then(lW a<|!((b.toNat:Int)=95:Ϛ))else(lW a false))))else(lW a false)
def nt(p0:BS)(a:Int):ϗ (Int⊕(Unit ⊕ Bool)):=if(a<p0.length:Ϛ)then(idx p0 a>>=λb=>if((b.toNat:Int)≥97:Ϛ)then(if((b.toNat:Int)<=122:Ϛ)then(kJ a b true)else(if((b.toNat:Int)≥65:Ϛ)then(kJ a b<|((b.toNat:Int)<=90:Ϛ))else(kJ a b false)))else(if((b.toNat:Int)≥65:Ϛ)then(kJ a b<|((b.toNat:Int)<=90:Ϛ))else(kJ a b false)))else(some<|.inr<|.inl ())
def mc(p0:BS):=iter (nt p0) 0>>=λa=>match a with | .inl z=>MJ p0 | .inr z=>some z
def Lv : Option (Int):=some (-1)
def xX(a:Int)(b:Bool):ϗ (Int⊕(Unit ⊕ Int)):=if b then(some<|.inr<|.inr a)else(some<|.inl<|aB (a+1))
def rY(p0:LW)(d:BS)(a:Int):ϗ (Int⊕(Unit ⊕ Int)):=if(a<p0.length:Ϛ)then(idx p0 a>>=λc=>zR c>>=λb=>if((b.length:Int)>0:Ϛ)then(idx b 0>>=λx23=>xX a<|(x23=d:Ϛ))else(xX a false))else(some<|.inr<|.inl ())
def tB(p0:LW)(p1:Int)(b:BS):=(iter (rY p0 b)<|aB (p1+1))>>=λa=>match a with | .inl z=>Lv | .inr z=>some z
def gZ(p0 p1 a:Int):=if(p0≥p1:Ϛ)then(some<|(p0<=a:Ϛ))else(some false)
def yJ(p0:BS)(p1 a:Int):ϗ (Int×Er):=if p1=10/\a=64/\p0.length<=281474976710656 then(match Go.Lib.parseIntB 64 p0 with | .ok v=>some (v,.nil) | .range=>some (Go.Lib.intSat 64 p0,.other) | _=>some (0,.other))else none
def yt(p0 p1:Int):Option BS:=if p1=10 then some (Go.Lib.itoa p0)else none
def FH(p0:Int):=(yt p0 10).bind λa=>some a
def sG(a:Int×Er)(b:Bool):ϗ (Int×Bool):=if b then(some (0,false))else(some (a.1,true))
def jU(p0:BS):=yJ p0 10 64>>=λa=>if !a.2.isNil then(sG a true)else(gZ a.1 (-1000000000) 1000000000>>=λb=>if !b then(sG a true)else(FH a.1>>=λc=>sG a<|!(c=p0:Ϛ)))
def Ek(p0 p1:BS):Option Int:=match p1 with |[c]=>some (Go.Lib.indexByte p0 c) | _=>none
def DR(p0 p1:BS):ϗ (BS×BS×Bool):=Ek p0 p1>>=λa=>if(a≥0:Ϛ)then(bB p0 0 a>>=λb=>bB p0 (aB (a+(p1.length:Int))) (p0.length:Int)>>=λc=>some (b,c,true))else(some (p0,([]:BS),false))
def FO(p0 p1:BS):ϗ (BS×BS×Bool):=DR p0 p1>>=λa=>some (a.1,a.2.1,a.2.2)
def qh(p0:Int×Int):=gZ p0.1 (-60) 60>>=λa=>if a then(gZ p0.2 (-60) 60>>=λb=>some b)else(some false)
def qb(a b:Int×Bool)(c:Bool):ϗ ((Int×Int)×Bool):=if c then(some ((0,0),false))else(some ((a.1,b.1),true))
def t_(p0:BS):=FO p0 ([44]:BS)>>=λc=>jU c.1>>=λa=>jU c.2.1>>=λb=>if !a.2 then(qb a b true)else(if !b.2 then(qb a b true)else(qh (a.1,b.1)>>=λd=>qb a b (!d)))
def JO : Option (Int):=some (-1)
def Jv(p0:LT)(p1:(BS×LI)->Option Bool)(a:Int):ϗ (Int⊕(Unit ⊕ Int)):=if(a<p0.length:Ϛ)then(idx p0 a>>=λb=>p1 b>>=λc=>if c then(some<|.inr<|.inr a)else(some<|.inl<|aB (a+1)))else(some<|.inr<|.inl ())
def D_(p0:LT)(p1:(BS×LI)->Option Bool):=iter (Jv p0 p1) 0>>=λa=>match a with | .inl z=>JO | .inr z=>some z
def DG(p0:BS×LI)(p1:BS):=some (p0.1=p1:Ϛ)
def mQ(p0:LG×LT)(p1:BS):=D_ p0.2 (λb=>DG b p1)>>=λa=>some a
def wL : Option (Int):=some (-1)
def we(p0:LP)(p1:((Int×Int)×Int)->Option Bool)(a:Int):ϗ (Int⊕(Unit ⊕ Int)):=if(a<p0.length:Ϛ)then(idx p0 a>>=λb=>p1 b>>=λc=>if c then(some<|.inr<|.inr a)else(some<|.inl<|aB (a+1)))else(some<|.inr<|.inl ())
def mM(p0:LP)(p1:((Int×Int)×Int)->Option Bool):=iter (we p0 p1) 0>>=λa=>match a with | .inl z=>wL | .inr z=>some z
def mY(p0:LP)(p1:((Int×Int)×Int)->Option Bool):=mM p0 p1>>=λa=>some<|(a≥0:Ϛ)
def po(p0:(Int×Int)×Int)(p1:Int×Int):=some ((p0.1.1=p1.1:Ϛ)&&(p0.1.2=p1.2:Ϛ))
def pn(p0:BS×(TS×LP))(p1:BS):ϗ (Int×(BS×(TS×LP))):=zR p1>>=λa=>if !((a.length:Int)=2:Ϛ)then(some (6,p0))else(idx a 1>>=λd=>t_ d>>=λb=>idx a 0>>=λf=>mQ p0.2.1 f>>=λc=>if !b.2 then(some (6,p0))else(if(c<0:Ϛ)then(some (3,p0))else(mY p0.2.2 (λj=>po j b.1)>>=λh=>if h then(some (7,p0))else(if((p0.2.2.length:Int)≥500:Ϛ)then(some (4,p0))else(aX 24 p0.2.2 [(b.1,c)]>>=λi=>some (0,(p0.1,(p0.2.1,i))))))))
def mV(p0:BS×(TS×LP))(a:LW)(c:Bool):ϗ (Int×(BS×(TS×LP))):=if c then(some (6,p0))else(idx a 1>>=λx23=>dO x23 ([32]:BS)>>=λd=>idx a 2>>=λf=>dO d f>>=λh=>pn p0 h>>=λb=>some (b.1,(p0.1,(p0.2.1,b.2.2.2))))
def pD(p0:BS×(TS×LP))(p1:BS):=zR p1>>=λa=>if !((a.length:Int)=3:Ϛ)then(mV p0 a true)else(idx a 0>>=λb=>mV p0 a<|!(b=p0.1:Ϛ))
def JP : Option (Int):=some (-1)
def Jw(p0:LG)(p1:(BS×Int)->Option Bool)(a:Int):ϗ (Int⊕(Unit ⊕ Int)):=if(a<p0.length:Ϛ)then(idx p0 a>>=λb=>p1 b>>=λc=>if c then(some<|.inr<|.inr a)else(some<|.inl<|aB (a+1)))else(some<|.inr<|.inl ())
def Ea(p0:LG)(p1:(BS×Int)->Option Bool):=iter (Jw p0 p1) 0>>=λa=>match a with | .inl z=>JP | .inr z=>some z
def wv(p0:BS×Int)(p1:BS):=some (p0.1=p1:Ϛ)
def ww(p0:LG×LT)(p1:BS):=Ea p0.1 (λb=>wv b p1)>>=λa=>some<|aB (a+1)
def DC(p0:Bool×(TS×(LP)×Int)×(TS)×(BS×(TS×LP)))(p1:BS):ϗ (Int×(Bool×(TS×(LP)×Int)×(TS)×(BS×(TS×LP)))):=zR p1>>=λa=>if !((a.length:Int)=2:Ϛ)then(some (6,p0))else(idx a 1>>=λd=>t_ d>>=λb=>idx a 0>>=λf=>mQ p0.2.2.2.2.1 f>>=λc=>if !b.2 then(some (6,p0))else(if(c<0:Ϛ)then(some (3,p0))else(mY p0.2.2.2.2.2 (λj=>po j b.1)>>=λh=>if h then(some (7,p0))else(if((p0.2.2.2.2.2.length:Int)≥500:Ϛ)then(some (4,p0))else(aX 24 p0.2.2.2.2.2 [(b.1,c)]>>=λi=>some (0,(p0.1,(p0.2.1,(p0.2.2.1,(p0.2.2.2.1,(p0.2.2.2.2.1,i)))))))))))
def rG(p0:Bool×(TS×(LP)×Int)×(TS)×(BS×(TS×LP)))(a:LW)(c:Bool):ϗ (Int×(Bool×(TS×(LP)×Int)×(TS)×(BS×(TS×LP)))):=if c then(some (6,p0))else(idx a 1>>=λd=>dO d ([32]:BS)>>=λf=>idx a 2>>=λh=>dO f h>>=λi=>DC p0 i>>=λb=>some (b.1,(p0.1,(p0.2.1,(p0.2.2.1,(p0.2.2.2.1,(p0.2.2.2.2.1,b.2.2.2.2.2.2)))))))
def rP(p0:Bool×(TS×(LP)×Int)×(TS)×(BS×(TS×LP)))(p1:BS):=zR p1>>=λa=>if !((a.length:Int)=3:Ϛ)then(rG p0 a true)else(idx a 0>>=λb=>rG p0 a<|!(b=p0.2.2.2.1:Ϛ))
def DF(p0:Bool×(TS×(LP)×Int)×(TS)×(BS×(TS×LP)))(a:BS)(b:LI):ϗ (Int×(Bool×(TS×(LP)×Int)×(TS)×(BS×(TS×LP)))):=aX 40 p0.2.2.1.2 [(a,b)]>>=λc=>some (0,(p0.1,(p0.2.1,((p0.2.2.1.1,c),p0.2.2.2))))
def wu(a:Int×LI)(b:Int):ϗ ((Int×LI)⊕((LI) ⊕ (Int×(Bool×(TS×(LP)×Int)×(TS)×(BS×(TS×LP)))))):=aX 8 a.2 [b]>>=λc=>some<|.inl (aB (a.1+1),c)
def rF(p0:Bool×(TS×(LP)×Int)×(TS)×(BS×(TS×LP)))(d:LW)(a:Int×LI):ϗ ((Int×LI)⊕((LI) ⊕ (Int×(Bool×(TS×(LP)×Int)×(TS)×(BS×(TS×LP)))))):=if(a.1<d.length:Ϛ)then(idx d a.1>>=λb=>if !(b=([45]:BS):Ϛ)then(ww p0.2.2.1 b>>=λc=>if(c=0:Ϛ)then(some<|.inr<|.inr (3,p0))else(wu a c))else(wu a 0))else(some<|.inr<|.inl a.2)
def rO(p0:Bool×(TS×(LP)×Int)×(TS)×(BS×(TS×LP)))(a:LW)(c:Bool):ϗ (Int×(Bool×(TS×(LP)×Int)×(TS)×(BS×(TS×LP)))):=if c then(some (6,p0))else(idx a 1>>=λd=>bB a 2 (a.length:Int)>>=λf=>iter (rF p0 f) (0,[])>>=λb=>match b with | .inl z=>DF p0 d z | .inr z=>some z)
def zI(p0:Bool×(TS×(LP)×Int)×(TS)×(BS×(TS×LP)))(a:LW)(d:Bool):ϗ (Int×(Bool×(TS×(LP)×Int)×(TS)×(BS×(TS×LP)))):=if d then(idx a 2>>=λf=>jU f>>=λb=>if !b.2 then(some (6,p0))else(idx a 1>>=λh=>aX 24 p0.2.2.1.1 [(h,b.1)]>>=λi=>some (0,(p0.1,(p0.2.1,((i,p0.2.2.1.2),p0.2.2.2))))))else(if !((a.length:Int)=6:Ϛ)then(rO p0 a true)else(idx a 0>>=λc=>rO p0 a<|!(c=([116,105,108,101]:BS):Ϛ)))
def rK(p0:Bool×(TS×(LP)×Int)×(TS)×(BS×(TS×LP)))(p1:BS):=zR p1>>=λa=>if((a.length:Int)=3:Ϛ)then(idx a 0>>=λb=>if(b=([103,108,117,101]:BS):Ϛ)then(zI p0 a<|((p0.2.2.1.2.length:Int)=0:Ϛ))else(zI p0 a false))else(zI p0 a false)
def rN(p0:Bool×(TS×(LP)×Int)×(TS)×(BS×(TS×LP)))(b:LW)(c:Bool):ϗ (Int×(Bool×(TS×(LP)×Int)×(TS)×(BS×(TS×LP)))):=if c then(some (6,p0))else(idx b 1>>=λd=>jU d>>=λa=>if !a.2 then(some (6,p0))else(some (0,(true,((p0.2.1.1,(p0.2.1.2.1,a.1)),p0.2.2)))))
def pp(p0:Bool×(TS×(LP)×Int)×(TS)×(BS×(TS×LP)))(p1:BS)(c:Bool):ϗ (Int×(Bool×(TS×(LP)×Int)×(TS)×(BS×(TS×LP)))):=if c then(rP (p0.1,(p0.2.1,(p0.2.2.1,(([115,101,101,100]:BS),(p0.2.2.1,p0.2.2.2.2.2))))) p1>>=λa=>some (a.1,(p0.1,(p0.2.1,(p0.2.2.1,(([115,101,101,100]:BS),(p0.2.2.1,a.2.2.2.2.2.2)))))))else(if((p0.2.2.2.2.2.length:Int)>0:Ϛ)then(some (6,p0))else(rK p0 p1>>=λb=>some (b.1,(p0.1,(p0.2.1,(b.2.2.2.1,p0.2.2.2))))))
def zF(p0:Bool×(TS×(LP)×Int)×(TS)×(BS×(TS×LP)))(p1:BS):=zR p1>>=λa=>if !p0.1 then(if !((a.length:Int)=2:Ϛ)then(rN p0 a true)else(idx a 0>>=λb=>rN p0 a<|!(b=([116,101,109,112,101,114,97,116,117,114,101]:BS):Ϛ)))else(if((a.length:Int)>0:Ϛ)then(idx a 0>>=λc=>pp p0 p1<|(c=([115,101,101,100]:BS):Ϛ))else(pp p0 p1 false))
def sD(c:LP)(a:Bool):ϗ LP:=if a then(some ([]:LP))else(aX 24 ([]:LP) c>>=λb=>some b)
def tP(p0:LP):ϗ LP:=sD p0 false
def MW : Option (Int):=some 0
def jz(p0:LI)(a:Int):ϗ (Int⊕(Unit ⊕ Int)):=if(a<p0.length:Ϛ)then(idx p0 a>>=λb=>if !(b=0:Ϛ)then(some<|.inr<|.inr b)else(some<|.inl<|aB (a+1)))else(some<|.inr<|.inl ())
def uR(p0:LI):=iter (jz p0) 0>>=λa=>match a with | .inl z=>MW | .inr z=>some z
def uv(p0:Int):=some (!(p0=p0:Ϛ))
def qi(p0 p1:Int):ϗ Int:=uv p0>>=λb=>uv p1>>=λa=>if b then(if a then(some 0)else(some (-1)))else(if a then(some 1)else(if(p0<p1:Ϛ)then(some (-1))else(if(p0>p1:Ϛ)then(some 1)else(some 0))))
def kD(p0 p1:Int×Int):=qi p0.2 p1.2>>=λa=>qi p0.1 p1.1>>=λb=>uR [a,b]>>=λc=>some c
def Ey(p0 p1:(Int×Int)×Int):=kD p0.1 p1.1>>=λa=>some a
def gU(a b:(Int×Int)×Int):Int:=if a.1.2<b.1.2 then -1 else if b.1.2<a.1.2 then 1 else if a.1.1<b.1.1 then -1 else if b.1.1<a.1.1 then 1 else 0
def jy(p0:LP):Option LP:=if p0.length<=1048576 then some (Go.Sort.pdq (λx y=>(gU x y<0:Ϛ)) p0.toArray 0 p0.length (Go.Lib.bitLen p0.length) true true).toList else none
def DJ(p0:Bool×(TS×(LP)×Int)×(TS)×(BS×(TS×LP))):=jy p0.2.2.2.2.2>>=λa=>some (p0.2.2.1,(a,p0.2.1.2.2))
def JM : Option (Int):=some (-1)
def Ju(p0:LI)(p1:Int->Option Bool)(a:Int):ϗ (Int⊕(Unit ⊕ Int)):=if(a<p0.length:Ϛ)then(idx p0 a>>=λb=>p1 b>>=λc=>if c then(some<|.inr<|.inr a)else(some<|.inl<|aB (a+1)))else(some<|.inr<|.inl ())
def DZ(p0:LI)(p1:Int->Option Bool):=iter (Ju p0 p1) 0>>=λa=>match a with | .inl z=>JM | .inr z=>some z
def wM(p0:LI)(p1:Int->Option Bool):=DZ p0 p1>>=λa=>some<|(a≥0:Ϛ)
def nu(p0:Int)(p1:LG×LT):=gZ p0 0 (p1.1.length:Int)>>=λa=>some (!a)
def Mr : Option (Bool):=some true
def qm(p0:LG×LT)(a:Int×(List (BS×Bool)))(b:BS×LI)(c:Bool):ϗ ((Int×(List (BS×Bool)))⊕(Unit ⊕ Bool)):=if c then(some<|.inr<|.inr false)else(wM b.2 (λf=>nu f p0)>>=λd=>if d then(some<|.inr<|.inr false)else(some<|.inl (aB (a.1+1),bS a.2 b.1 true)))
def nh(p0:LG×LT)(a:Int×(List (BS×Bool))):ϗ ((Int×(List (BS×Bool)))⊕(Unit ⊕ Bool)):=if(a.1<p0.2.length:Ϛ)then(idx p0.2 a.1>>=λb=>mc b.1>>=λc=>if !c then(qm p0 a b true)else(if((b_ a.2 b.1).getD false)then(qm p0 a b true)else(qm p0 a b<|!((b.2.length:Int)=4:Ϛ))))else(some<|.inr<|.inl ())
def Ms(p0:LG×LT):=iter (nh p0) (0,([]:List (BS×Bool)))>>=λa=>match a with | .inl z=>Mr | .inr z=>some z
def qk(a:Int×(List (BS×Bool)))(b:BS×Int)(c:Bool):ϗ ((Int×(List (BS×Bool)))⊕(Unit ⊕ Bool)):=if c then(some<|.inr<|.inr false)else(some<|.inl (aB (a.1+1),bS a.2 b.1 true))
def ni(p0:LG×LT)(a:Int×(List (BS×Bool))):ϗ ((Int×(List (BS×Bool)))⊕(Unit ⊕ Bool)):=if(a.1<p0.1.length:Ϛ)then(idx p0.1 a.1>>=λb=>mc b.1>>=λc=>if !c then(qk a b true)else(if((b_ a.2 b.1).getD false)then(qk a b true)else(gZ b.2 1 4>>=λd=>qk a b (!d))))else(some<|.inr<|.inl ())
def yI(p0:LG×LT)(a:Bool):=if a then(some false)else(iter (ni p0) (0,([]:List (BS×Bool)))>>=λb=>match b with | .inl z=>Ms p0 | .inr z=>some z)
def uu(p0:LG×LT):=if((p0.1.length:Int)>200:Ϛ)then(yI p0 true)else(gZ (p0.2.length:Int) 1 160>>=λa=>yI p0 (!a))
def iV(p0 p1:Int):=(gZ p0 0<|aB<|p1 - 1)>>=λa=>some a
def Aq(p0 p1:Int×Int):=kD p0 p1>>=λa=>some<|(a<0:Ϛ)
def MH(p0:LP):=some ((p0.length:Int)<=500:Ϛ)
def nG(a:Int)(b:Bool):ϗ (Int⊕(Unit ⊕ Bool)):=if b then(some<|.inr<|.inr false)else(some<|.inl<|aB (a+1))
def ny(p0:LP)(a:Int):ϗ (Int⊕(Unit ⊕ Bool)):=if(a<p0.length:Ϛ)then(idx p0 a>>=λb=>qh b.1>>=λc=>if !c then(nG a true)else(iV b.2 160>>=λd=>if !d then(nG a true)else(if(a>0:Ϛ)then((idx p0<|aB<|a - 1)>>=λf=>Aq f.1 b.1>>=λh=>nG a (!h))else(nG a false))))else(some<|.inr<|.inl ())
def AR(p0:LP):=iter (ny p0) 0>>=λa=>match a with | .inl z=>MH p0 | .inr z=>some z
def pO(p0:LG×LT)(p1:Int):=iV p1 (p0.2.length:Int)>>=λa=>some a
def pF(p0:(Int×Int)×Int)(p1:LG×LT):=pO p1 p0.2>>=λa=>some (!a)
def jW(p0:LG×LT)(p1:LP):=uu p0>>=λa=>if a then(AR p1>>=λb=>if b then(mY p1 (λd=>pF d p0)>>=λc=>some (!c))else(some false))else(some false)
def xY(p0:Int):=gZ p0 1 16>>=λa=>some a
def Mm(a:LM):=some a
def tS(a:LM×Int×(List (Int×Int)))(b:LM)(c:Int)(d:List (Int×Int)):ϗ ((LM×Int×(List (Int×Int)))⊕LM):=idx b c>>=λf=>aX 8 f [a.2.1]>>=λh=>(some<|b.set c.toNat h)>>=λi=>some<|.inl (i,aB (a.2.1+1),d)
def ye(p0:Int)(b:LI)(a:LM×Int×(List (Int×Int))):ϗ ((LM×Int×(List (Int×Int)))⊕LM):=if(a.2.1<(p0.toNat:Int):Ϛ)then(idx b a.2.1>>=λf=>iter (gstep b) a.2.1>>=λc=>if !(cW a.2.2 c)then(aX 24 a.1 [([]:LI)]>>=λd=>tS a d (a.1.length:Int)<|bS a.2.2 a.2.1 (a.1.length:Int))else(tS a a.1 ((b_ a.2.2 c).getD 0) a.2.2))else(some<|.inr a.1)
def Mn(p0:Int)(a:LI):=iter (ye p0 a) ([],0,([]:List (Int×Int)))>>=λb=>Mm b
def tR(a:Int×LI)(b:LI):ϗ ((Int×LI)⊕LI):=some (.inl (aB (a.1+1),b))
def yf(p1:LB)(a:Int×LI):ϗ ((Int×LI)⊕LI):=if(a.1<p1.length:Ϛ)then(idx p1 a.1>>=λb=>idx a.2 b.1>>=λf=>iter (gstep a.2) b.1>>=λc=>idx a.2 b.2.1>>=λh=>iter (gstep a.2) b.2.1>>=λd=>if(c<d:Ϛ)then(tR a<|a.2.set d.toNat c)else(if(d<c:Ϛ)then(tR a<|a.2.set c.toNat d)else(tR a a.2)))else(some<|.inr a.2)
def Mq(p0:Int)(p1:LB)(a:LI):=iter (yf p1) (0,a)>>=λb=>Mn p0 b
def yg(p0:Int)(a:Int×LI):ϗ ((Int×LI)⊕LI):=if(a.1<(p0.toNat:Int):Ϛ)then(ov p0.toNat a.2 a.1>>=λb=>some<|.inl (aB (a.1+1),b))else(some<|.inr a.2)
def AQ(p0:Int)(p1:LB):=oH 8 p0>>=λb=>iter (yg p0) (0,b)>>=λa=>Mq p0 p1 a
def Wc : Option (Int):=some (-1)
def DD(p0:LB)(p1:(Int×Int×Int)->Option Bool)(a:Int):ϗ (Int⊕(Unit ⊕ Int)):=if(a<p0.length:Ϛ)then(idx p0 a>>=λb=>p1 b>>=λc=>if c then(some<|.inr<|.inr a)else(some<|.inl<|aB (a+1)))else(some<|.inr<|.inl ())
def xz(p0:LB)(p1:(Int×Int×Int)->Option Bool):=iter (DD p0 p1) 0>>=λa=>match a with | .inl z=>Wc | .inr z=>some z
def JS(b:LB)(a:Int):ϗ LB:=js b a (0,(0,0))>>=λc=>bB c 0 a>>=λd=>some d
def wj(a:LB×Int×Int)(b:LB)(c:Int):ϗ ((LB×Int×Int)⊕(LB×Int)):=some (.inl (b,c,aB (a.2.2+1)))
def Dz(p1:(Int×Int×Int)->Option Bool)(a:LB×Int×Int):ϗ ((LB×Int×Int)⊕(LB×Int)):=if(a.2.2<a.1.length:Ϛ)then(idx a.1 a.2.2>>=λb=>p1 b>>=λc=>if !c then(idx a.1 a.2.1>>=λf=>(some<|a.1.set a.2.1.toNat b)>>=λd=>wj a d<|aB (a.2.1+1))else(wj a a.1 a.2.1))else(some<|.inr (a.1,a.2.1))
def sc(p0:LB)(p1:(Int×Int×Int)->Option Bool):=xz p0 p1>>=λa=>if(a=(-1):Ϛ)then(some p0)else(iter (Dz p1) (p0,a,aB (a+1))>>=λb=>JS b.1 b.2)
def sC(c:LB)(a:Bool):ϗ LB:=if a then(some ([]:LB))else(aX 24 ([]:LB) c>>=λb=>some b)
def pZ(p0:LB):ϗ LB:=sC p0 false
def Ew(p0:Int×Int×Int)(p1:Int):=some (p0.2.2<p1:Ϛ)
def Lx(a:LM)(b:LB):=some ((a.length:Int),b)
def xZ(a:LB×Int)(b:LB):ϗ ((LB×Int)⊕LB):=some (.inl (b,aB (a.2+1)))
def xb(p1:LB)(c:LI)(a:LB×Int):ϗ ((LB×Int)⊕LB):=if(a.2<p1.length:Ϛ)then(idx p1 a.2>>=λb=>idx c b.1>>=λf=>idx c b.2.1>>=λh=>if !(f=h:Ϛ)then(idx c b.1>>=λi=>idx c b.2.1>>=λj=>aX 24 a.1 [(i,(j,b.2.2))]>>=λd=>xZ a d)else(xZ a a.1))else(some<|.inr a.1)
def Ly(p1:LB)(a:LM)(b:LI):=iter (xb p1 b) ([],0)>>=λc=>Lx a c
def Lw(a:LI×Int)(b:LI):ϗ ((LI×Int)⊕LI):=some (.inl (b,aB (a.2+1)))
def rZ(d:LI×Int)(b:LI)(a:LI×Int):ϗ ((LI×Int)⊕LI):=if(a.2<b.length:Ϛ)then(idx b a.2>>=λc=>idx a.1 c>>=λh=>(some<|a.1.set c.toNat d.2)>>=λf=>some<|.inl (f,aB (a.2+1)))else(some<|.inr a.1)
def py(b:LM)(a:LI×Int):ϗ ((LI×Int)⊕LI):=if(a.2<b.length:Ϛ)then(idx b a.2>>=λc=>iter (rZ a c) (a.1,0)>>=λd=>Lw a d)else(some<|.inr a.1)
def Al(p0:Int)(p1:LB)(h:Int):=pZ p1>>=λc=>sc c (λi=>Ew i h)>>=λd=>AQ p0 d>>=λa=>eM 8 p0 0>>=λf=>iter (py a) (f,0)>>=λb=>Ly p1 a b
def Dx(p0:LP)(p1:Int×Int)(c:((Int×Int)×Int)->(Int×Int)->Option Int)(a:Int):=if(a<p0.length:Ϛ)then(idx p0 a>>=λx23=>c x23 p1>>=λb=>some (a,(b=0:Ϛ)))else(some (a,false))
def zJ(p0:LP)(p1:Int×Int)(d:((Int×Int)×Int)->(Int×Int)->Option Int)(a:Int×Int):ϗ ((Int×Int)⊕Int):=if(a.1<a.2:Ϛ)then((idx p0<|aB<|Int.fdiv (IntKind.wrap .u64<|aB (a.1+a.2))<|2 ^ 1)>>=λb=>d b p1>>=λc=>if(c<0:Ϛ)then(some<|.inl (aB<|(aB<|Int.fdiv (IntKind.wrap .u64<|aB (a.1+a.2))<|2 ^ 1)+1,a.2))else(some<|.inl (a.1,aB<|Int.fdiv (IntKind.wrap .u64<|aB (a.1+a.2))<|2 ^ 1)))else(some<|.inr a.1)
def pm(p0:LP)(p1:Int×Int)(a:((Int×Int)×Int)->(Int×Int)->Option Int):=iter (zJ p0 p1 a) (0,(p0.length:Int))>>=λb=>Dx p0 p1 a b
def jV(p0:(Int×Int)×Int)(p1:Int×Int):=kD p0.1 p1>>=λa=>some a
def xj(p0:LP)(p1:Int×Int):ϗ Int:=pm p0 p1 (λb c=>jV b c)>>=λa=>if a.2 then(some a.1)else(some (-1))
def lY(p0 p1:Int×Int):=some (aB (p0.1+p1.1),aB (p0.2+p1.2))
def zX(p0:Int×Int)(p1:Int):=idx [((0,1):Int×Int),((1,0):Int×Int),((0,(-1)):Int×Int),(((-1),0):Int×Int)] p1>>=λa=>lY p0 a>>=λb=>some b
def JB{b:Type}(a:b):=some a
def JA{c:Type}(a:Int×c)(b:c):ϗ ((Int×c)⊕c):=some (.inl (aB (a.1+1),b))
def rJ{c:Type}(a:Int×c)(b:c):ϗ ((Int×c)⊕c):=some (.inl (aB (a.1+1),b))
def zT{e:Type}(y0:e->(Int×Int)->Int->Option e)(p1:LP)(d:Int×e)(f:(Int×Int)×Int)(a:Int×e):ϗ ((Int×e)⊕e):=if(a.1<(([1,0]:List Int).length:Int):Ϛ)then(idx [1,0] a.1>>=λb=>zX f.1 b>>=λh=>xj p1 h>>=λc=>if(c≥0:Ϛ)then(y0 a.2 (d.1,c) b>>=λi=>rJ a i)else(rJ a a.2))else(some<|.inr a.2)
def zU{d:Type}(y0:d->(Int×Int)->Int->Option d)(p1:LP)(a:Int×d):ϗ ((Int×d)⊕d):=if(a.1<p1.length:Ϛ)then(idx p1 a.1>>=λb=>iter (zT y0 p1 a b) (0,a.2)>>=λc=>JA a c)else(some<|.inr a.2)
def DI{b:Type}(y0:b->(Int×Int)->Int->Option b)(s0:b)(p1:LP):=iter (zU y0 p1) (0,s0)>>=λa=>JB a
def DT(p0:LP):=some p0
def ut(p0:Int):ϗ Int:=some (Int.tmod (aB (p0+2)) 4)
def pG(p0:LG×LT)(p1 d:Int):ϗ Int:=idx p0.2 p1>>=λb=>idx b.2 d>>=λa=>if(a>0:Ϛ)then((idx p0.1<|aB<|a - 1)>>=λc=>some c.2)else(some 0)
def lU(p0:LG×LT)(p1 a j:Int):ϗ Int:=idx p0.2 p1>>=λb=>idx b.2 a>>=λc=>idx p0.2 j>>=λd=>ut a>>=λf=>idx d.2 f>>=λh=>if(c=h:Ϛ)then(pG p0 p1 a>>=λi=>some i)else(some 0)
def z6(p0:LG×LT)(p1:LP)(a:LB)(q:(Int×Int)×Int):ϗ LB:=idx p1 q.1.1>>=λc=>idx p1 q.1.2>>=λd=>lU p0 c.2 q.2 d.2>>=λb=>if(b>0:Ϛ)then(aX 24 a [(q.1.1,(q.1.2,b))]>>=λf=>some f)else(some a)
def nc(p0:LG×LT)(p1:LP):ϗ LB:=DT p1>>=λa=>DI (λs c d=>z6 p0 p1 s (c,d)) [] a>>=λb=>some b
def Lb(a b:LM):=some (b,a)
def xH(p1:LB)(b:Int×LM):ϗ ((Int×LM)⊕LM):=if(b.1<p1.length:Ϛ)then(idx p1 b.1>>=λa=>idx b.2 a.1>>=λc=>idx c a.2.1>>=λh=>idx c a.2.1>>=λk=>(some<|b.2.set a.1.toNat<|c.set a.2.1.toNat<|aB (h+a.2.2))>>=λf=>idx f a.2.1>>=λd=>idx d a.1>>=λi=>idx d a.1>>=λl=>(some<|f.set a.2.1.toNat<|d.set a.1.toNat<|aB (i+a.2.2))>>=λj=>some<|.inl (aB (b.1+1),j))else(some<|.inr b.2)
def LU(p1:LB)(a b:LM):=iter (xH p1) (0,a)>>=λc=>Lb b c
def xJ(p0:Int)(a:Int×LM×LM):ϗ ((Int×LM×LM)⊕(LM×LM)):=if(a.1<p0:Ϛ)then(eM 8 p0 0>>=λb=>aX 24 a.2.1 [b]>>=λc=>eM 8 p0 0>>=λd=>aX 24 a.2.2 [d]>>=λf=>some<|.inl (aB (a.1+1),c,f))else(some<|.inr (a.2.1,a.2.2))
def An(p0:Int)(p1:LB):=iter (xJ p0) (0,[],[])>>=λa=>LU p1 a.1 a.2
def us(p0 p1:Int):=if 0<=p0/\p0<18446744073709551616/\0<=p1/\p1<18446744073709551616 then some (p0*p1 / 18446744073709551616,p0*p1 % 18446744073709551616)else none
def WY(a:LI):=some a
def DO(a:LI×Int):ϗ ((LI×Int)⊕LI):=if(a.2<a.1.length:Ϛ)then(bB a.1 a.2 (a.1.length:Int)>>=λd=>bB a.1 0 a.2>>=λb=>(some<|fB a.1 a.2.toNat b)>>=λc=>some<|.inl (c,aB<|a.2+((min b.length (a.1.length - a.2.toNat):Nat):Int)))else(some<|.inr a.1)
def xx(p0:LI)(f:Int×Int)(b:Bool):=if b then none else(eM 8 (aB f.2) 0>>=λa=>(some<|fB a 0 p0)>>=λc=>iter (DO) (c,((min p0.length a.length:Nat):Int))>>=λd=>WY d)
def yo(p0:LI)(p1:Int):=if(p1<0:Ϛ)then none else((us (IntKind.wrap .u64 (p0.length:Int))<|IntKind.wrap .u64 p1)>>=λa=>if(a.1>0:Ϛ)then(xx p0 a true)else(xx p0 a<|(a.2>9223372036854775807:Ϛ)))
def yq(p0:LM×LM)(p1 a:Int):=idx p0.1 p1>>=λf=>idx f a>>=λb=>idx p0.2 p1>>=λc=>idx c a>>=λd=>some<|(b>d:Ϛ)
def EE(p0:LI):Option LI:=some p0.reverse
def KQ(b:LI):=EE b>>=λa=>ne a>>=λc=>some a
def sa(p1:Int)(c:LI)(a:LI×Int):ϗ ((LI×Int)⊕LI):=if !(a.2=p1:Ϛ)then(idx c a.2>>=λb=>aX 8 a.1 [b]>>=λd=>some<|.inl (d,b))else(some<|.inr a.1)
def KR(p1 b:Int)(a:LI):ϗ LI:=idx a b>>=λc=>if(c<0:Ϛ)then(some ([]:LI))else(iter (sa p1 a) ([b],b)>>=λd=>KQ d)
def KP(a b:LI):ϗ ((LI×LI)⊕LI):=some (.inl (a,b))
def sE(a:LI×Int×LI)(b c:LI):ϗ ((LI×Int×LI)⊕(LI×LI)):=some (.inl (b,aB (a.2.1+1),c))
def pN(p0:LM×LM)(f:Int×LI)(a:LI×Int×LI)(b:Bool):ϗ ((LI×Int×LI)⊕(LI×LI)):=if b then(idx a.1 a.2.1>>=λh=>(some<|a.1.set a.2.1.toNat f.1)>>=λc=>mw ((p0.1.length:Int).toNat) a.2.2 a.2.1>>=λd=>sE a c d)else(sE a a.1 a.2.2)
def wC(p0:LM×LM)(b:Int×LI)(a:LI×Int×LI):ϗ ((LI×Int×LI)⊕(LI×LI)):=if(a.2.1<p0.1.length:Ϛ)then(idx a.1 a.2.1>>=λc=>if(c<0:Ϛ)then(yq p0 b.1 a.2.1>>=λd=>pN p0 b a d)else(pN p0 b a false))else(some<|.inr (a.1,a.2.2))
def wD(p0:LM×LM)(a:LI×LI):ϗ ((LI×LI)⊕LI):=oZ a.2>>=λd=>if(d>0:Ϛ)then(vI a.2>>=λc=>iter (wC p0 c) (a.1,0,c.2)>>=λb=>KP b.1 b.2)else(some<|.inr a.1)
def yG(p0:LM×LM)(p1 h:Int):ϗ LI:=yo [(-1)] (p0.1.length:Int)>>=λa=>oO 8 (p0.1.length:Int)>>=λb=>mw ((p0.1.length:Int).toNat) b p1>>=λc=>idx a p1>>=λi=>(some<|a.set p1.toNat p1)>>=λd=>iter (wD p0) (d,c)>>=λf=>KR p1 h f
def Kk(a:Int×LM)(b:LM):ϗ ((Int×LM)⊕(Int×(LM×LM))):=some (.inl (aB (a.1+1),b))
def wh(b:LI)(a:Int×LM):ϗ ((Int×LM)⊕LM):=if(a.1<b.length:Ϛ)then((idx b<|aB<|a.1 - 1)>>=λi=>idx a.2 i>>=λc=>idx b a.1>>=λd=>idx c d>>=λl=>idx c d>>=λr=>(some<|a.2.set i.toNat<|c.set d.toNat<|aB (l+1))>>=λj=>idx b a.1>>=λk=>idx j k>>=λf=>(idx b<|aB<|a.1 - 1)>>=λh=>idx f h>>=λm=>idx f h>>=λu=>(some<|j.set k.toNat<|f.set h.toNat<|aB<|m - 1)>>=λn=>some<|.inl (aB (a.1+1),n))else(some<|.inr a.2)
def rQ(p0:LM×LM)(a:Int×LM)(b:LI)(c:Bool):ϗ ((Int×LM)⊕(Int×(LM×LM))):=if c then(some<|.inr (a.1,(p0.1,a.2)))else(iter (wh b) (1,a.2)>>=λd=>Kk a d)
def DQ(p0:LM×LM)(p1 c d:Int)(a:Int×LM):ϗ ((Int×LM)⊕(Int×(LM×LM))):=yG (p0.1,a.2) p1 c>>=λb=>if(b=[]:Ϛ)then(rQ p0 a b true)else(rQ p0 a b<|(a.1≥d:Ϛ))
def yp(p0:LM×LM)(p1 a b:Int):=iter (DQ p0 p1 a b) (0,p0.2)>>=λx23=>some x23
def zxp : Option (Bool):=some true
def Fg(p0:Int)(p1:LB)(b a:Int):ϗ (Int⊕(Unit ⊕ Bool)):=if(a<p0:Ϛ)then(An p0 p1>>=λc=>yp c 0 a b>>=λx23=>if(x23.1<b:Ϛ)then(some<|.inr<|.inr false)else(some<|.inl<|aB (a+1)))else(some<|.inr<|.inl ())
def Bu(p0:Int)(p1:LB)(a:Int):=iter (Fg p0 p1 a) 1>>=λb=>match b with | .inl z=>zxp | .inr z=>some z
def xw(p0:LG×LT)(p1:LP)(a:Int):=nc p0 p1>>=λb=>Al (p1.length:Int) b a>>=λx23=>if(x23.1>64:Ϛ)then(some (false,false))else(Bu x23.1 x23.2 a>>=λc=>some (c,true))
def Fp(p0:LG×LT)(p1:LP)(a:Int):ϗ (Bool×Int):=jW p0 p1>>=λb=>if !b then(some (false,1))else(xY a>>=λc=>if !c then(some (false,2))else(xw p0 p1 a>>=λx23=>if !x23.2 then(some (false,4))else(some (x23.1,0))))
def jT(p0:TS×(LP)×Int):=if((p0.2.1.length:Int)=0:Ϛ)then(some false)else(Fp p0.1 p0.2.1 p0.2.2>>=λa=>if a.1 then(some<|(a.2=0:Ϛ))else(some false))
def wN(b:Bool)(c:Int)(d:LG)(f:LT)(h:BS)(i:LG)(j:LT)(k:LP):ϗ ((TS×(LP)×Int)×Er):=DJ (b,((([],[]),([],c)),((d,f),(h,((i,j),k)))))>>=λa=>jT a>>=λl=>if !l then(some ((([],[]),([],0)),Er.whole))else(some (a,Er.nil))
def zP(p0:LW)(p1:Int)(a:Int×Bool×Int×LG×LT×BS×LG×LT×LP):ϗ ((Int×Bool×Int×LG×LT×BS×LG×LT×LP)⊕((Bool×Int×LG×LT×BS×LG×LT×LP) ⊕ ((TS×(LP)×Int)×Er))):=if(a.1<p0.length:Ϛ)then(idx p0 a.1>>=λc=>zF (a.2.1,((([],[]),([],a.2.2.1)),((a.2.2.2.1,a.2.2.2.2.1),(a.2.2.2.2.2.1,((a.2.2.2.2.2.2.1,a.2.2.2.2.2.2.2.1),a.2.2.2.2.2.2.2.2))))) c>>=λb=>if !(b.1=0:Ϛ)then(some<|.inr<|.inr ((([],[]),([],0)),Er.line (aB<|(aB (p1+a.1))+1) b.1))else(some<|.inl (aB (a.1+1),b.2.1,b.2.2.1.2.2,b.2.2.2.1.1,b.2.2.2.1.2,b.2.2.2.2.1,b.2.2.2.2.2.1.1,b.2.2.2.2.2.1.2,b.2.2.2.2.2.2)))else(some<|.inr<|.inl (a.2.1,a.2.2.1,a.2.2.2.1,a.2.2.2.2.1,a.2.2.2.2.2.1,a.2.2.2.2.2.2.1,a.2.2.2.2.2.2.2.1,a.2.2.2.2.2.2.2.2))
def pA(p0:LW)(p1:Int):=iter (zP p0 p1) (0,false,0,[],[],([]:BS),[],[],[])>>=λa=>match a with | .inl z=>wN z.1 z.2.1 z.2.2.1 z.2.2.2.1 z.2.2.2.2.1 z.2.2.2.2.2.1 z.2.2.2.2.2.2.1 z.2.2.2.2.2.2.2 | .inr z=>some z
def Aj(a:LP):=jy a>>=λb=>some (b,Er.nil)
def qd(p0:LG×LT)(p1:LW)(d:Int)(a:Int×LP):ϗ ((Int×LP)⊕((LP) ⊕ ((LP)×Er))):=if(a.1<p1.length:Ϛ)then(idx p1 a.1>>=λc=>pD (([97,116]:BS),(p0,a.2)) c>>=λb=>if !(b.1=0:Ϛ)then(some<|.inr<|.inr ([],Er.line (aB<|(aB (d+a.1))+1) b.1))else(some<|.inl (aB (a.1+1),b.2.2.2)))else(some<|.inr<|.inl a.2)
def uF(p0:LG×LT)(p1:LW)(b:Int):=iter (qd p0 p1 b) (0,[])>>=λa=>match a with | .inl z=>Aj z | .inr z=>some z
def Fo(p0:Int):Option BS:=gZ p0 1 6>>=λx=>if(!x)=true then some []else idx [[],[103,114,111,119,110],[116,101,114,109,105,110,97,108],[117,110,105,113,117,101],[99,111,110,102,108,105,99,116],[115,116,97,98,108,101],[108,111,111,115,101]] p0
def VT(p0:(Int×LP×LP×LI×LM)×Int)(a:Int):ϗ (Int×((Int×LP×LP×LI×LM)×Int)):=some (6,((a,p0.1.2),p0.2))
def mU(p0:(Int×LP×LP×LI×LM)×Int)(a:Int×Int)(b:Bool):ϗ ((Int×Int)⊕(Int ⊕ (Int×((Int×LP×LP×LI×LM)×Int)))):=if b then(some<|.inr<|.inr (0,((a.1,p0.1.2),p0.2)))else(some<|.inl (aB (a.1+1),a.2))
def zG(p0:(Int×LP×LP×LI×LM)×Int)(p1:LW)(a:Int×Int):ϗ ((Int×Int)⊕(Int ⊕ (Int×((Int×LP×LP×LI×LM)×Int)))):=if(a.1<=6:Ϛ)then(if((p1.length:Int)=2:Ϛ)then(idx p1 0>>=λb=>if(b=([112,114,111,111,102]:BS):Ϛ)then(idx p1 1>>=λc=>Fo a.1>>=λd=>mU p0 a<|(c=d:Ϛ))else(mU p0 a false))else(mU p0 a false))else(some<|.inr<|.inl a.2)
def pC(p0:(Int×LP×LP×LI×LM)×Int)(p1:LW):=iter (zG p0 p1) (1,p0.1.1)>>=λa=>match a with | .inl z=>VT p0 z | .inr z=>some z
def XF : Option (Int):=some (-1)
def DM(p0:LW)(p1:BS)(a:Int):ϗ (Int⊕(Unit ⊕ Int)):=if(a<p0.length:Ϛ)then(idx p0 a>>=λb=>if(p1=b:Ϛ)then(some<|.inr<|.inr a)else(some<|.inl<|aB (a+1)))else(some<|.inr<|.inl ())
def yW(p0:LW)(p1:BS):=iter (DM p0 p1) 0>>=λa=>match a with | .inl z=>XF | .inr z=>some z
def KO(a:LI):=some (a,true)
def DN(p0:LW)(a:LI×Int):ϗ ((LI×Int)⊕((LI) ⊕ (LI×Bool))):=if(a.2<p0.length:Ϛ)then(idx p0 a.2>>=λc=>jU c>>=λb=>if !b.2 then(some<|.inr<|.inr (([]:LI),false))else(aX 8 a.1 [b.1]>>=λd=>some<|.inl (d,aB (a.2+1))))else(some<|.inr<|.inl a.1)
def yF(p0:LW):=iter (DN p0) ([],0)>>=λa=>match a with | .inl z=>KO z | .inr z=>some z
def zS(p0:(Int×LP×LP×LI×LM)×Int)(a:Int)(b c:LP)(d:LI)(f:LM):ϗ (Int×((Int×LP×LP×LI×LM)×Int)):=some (0,((p0.1.1,(b,(c,(d,f)))),a))
def pj(p0:(Int×LP×LP×LI×LM)×Int)(a:Int)(b:LI×Bool)(c:Bool):ϗ (Int×((Int×LP×LP×LI×LM)×Int)):=if c then(zS p0 a p0.1.2.1 p0.1.2.2.1 b.1 p0.1.2.2.2.2)else(if(a=3:Ϛ)then(aX 24 p0.1.2.2.2.2 [b.1]>>=λd=>zS p0 a p0.1.2.1 p0.1.2.2.1 p0.1.2.2.2.1 d)else(some (6,(p0.1,a))))
def mW(p0:(Int×LP×LP×LI×LM)×Int)(a:Int)(b:LI×Bool)(j:Bool):=if j then(idx b.1 0>>=λc=>idx b.1 1>>=λd=>idx b.1 2>>=λf=>if(a=0:Ϛ)then(aX 24 p0.1.2.1 [((c,d),f)]>>=λh=>zS p0 a h p0.1.2.2.1 p0.1.2.2.2.1 p0.1.2.2.2.2)else(aX 24 p0.1.2.2.1 [((c,d),f)]>>=λi=>zS p0 a p0.1.2.1 i p0.1.2.2.2.1 p0.1.2.2.2.2))else(if(a=2:Ϛ)then(if((b.1.length:Int)>0:Ϛ)then(pj p0 a b<|((p0.1.2.2.2.1.length:Int)=0:Ϛ))else(pj p0 a b false))else(pj p0 a b false))
def mX(p0:(Int×LP×LP×LI×LM)×Int)(a:Int)(b:LI×Bool)(c:Bool):ϗ (Int×((Int×LP×LP×LI×LM)×Int)):=if c then(some (6,p0))else(if(a<2:Ϛ)then(mW p0 a b<|((b.1.length:Int)=3:Ϛ))else(mW p0 a b false))
def zQ(p0:(Int×LP×LP×LI×LM)×Int)(p1:BS):ϗ (Int×((Int×LP×LP×LI×LM)×Int)):=zR p1>>=λa=>if(p0.1.1=0:Ϛ)then(pC p0 a>>=λd=>some (d.1,((d.2.1.1,p0.1.2),p0.2)))else(if((a.length:Int)=0:Ϛ)then(some (6,p0))else(idx a 0>>=λf=>yW [([112,117,116]:BS),([111,116,104,101,114]:BS),([112,97,114,116]:BS),([102,108,111,119]:BS)] f>>=λb=>bB a 1 (a.length:Int)>>=λh=>yF h>>=λc=>if !c.2 then(mX p0 b c true)else(mX p0 b c<|(b<p0.2:Ϛ))))
def pB(p1 a:Int)(b c:LP)(d:LI)(f:LM)(h:Int):ϗ ((Int×LP×LP×LI×LM)×Er):=if(a=0:Ϛ)then(some ((0,([],([],([],[])))),Er.line (aB (p1+1)) 6))else(some ((a,(b,(c,(d,f)))),Er.nil))
def zM(p0:LW)(p1:Int)(a:Int×Int×LP×LP×LI×LM×Int):ϗ ((Int×Int×LP×LP×LI×LM×Int)⊕((Int×LP×LP×LI×LM×Int) ⊕ ((Int×LP×LP×LI×LM)×Er))):=if(a.1<p0.length:Ϛ)then(idx p0 a.1>>=λc=>zQ ((a.2.1,(a.2.2.1,(a.2.2.2.1,(a.2.2.2.2.1,a.2.2.2.2.2.1)))),a.2.2.2.2.2.2) c>>=λb=>if !(b.1=0:Ϛ)then(some<|.inr<|.inr ((0,([],([],([],[])))),Er.line (aB<|(aB (p1+a.1))+1) b.1))else(some<|.inl (aB (a.1+1),b.2.1.1,b.2.1.2.1,b.2.1.2.2.1,b.2.1.2.2.2.1,b.2.1.2.2.2.2,b.2.2)))else(some<|.inr<|.inl (a.2.1,a.2.2.1,a.2.2.2.1,a.2.2.2.2.1,a.2.2.2.2.2.1,a.2.2.2.2.2.2))
def pM(p0:LW)(p1:Int):=iter (zM p0 p1) (0,0,[],[],[],[],0)>>=λa=>match a with | .inl z=>pB p1 z.1 z.2.1 z.2.2.1 z.2.2.2.1 z.2.2.2.2.1 z.2.2.2.2.2 | .inr z=>some z
def p_(p0:LW)(c:BS)(d f:Int):ϗ ((BS×(TS×(LP)×Int)×(LP)×(Int×LP×LP×LI×LM))×Er):=if(f<0:Ϛ)then(some ((c,((([],[]),([],0)),([],(0,([],([],([],[]))))))),Er.line (p0.length:Int) 6))else(bB p0 1 d>>=λm=>pA m 1>>=λa=>if !a.2.isNil then(some ((c,(a.1,([],(0,([],([],([],[]))))))),a.2))else(idx p0 d>>=λi=>zR i>>=λj=>if((j.length:Int)>1:Ϛ)then(some ((c,(a.1,([],(0,([],([],([],[]))))))),Er.line (aB (d+1)) 6))else(bB p0 (aB (d+1)) f>>=λk=>(uF a.1.1 k<|aB (d+1))>>=λb=>if !b.2.isNil then(some ((c,(a.1,(b.1,(0,([],([],([],[]))))))),b.2))else(bB p0 f (p0.length:Int)>>=λl=>pM l f>>=λh=>some ((c,(a.1,(b.1,h.1))),h.2)))))
def lT(p0 d:LW)(f:Bool):ϗ ((BS×(TS×(LP)×Int)×(LP)×(Int×LP×LP×LI×LM))×Er):=if f then(some ((([]:BS),((([],[]),([],0)),([],(0,([],([],([],[]))))))),Er.line 1 6))else(idx d 1>>=λb=>tB p0 0 ([101,110,100]:BS)>>=λa=>if(a≥0:Ϛ)then(tB p0 a ([112,114,111,111,102]:BS)>>=λc=>p_ p0 b a c)else(p_ p0 b a (-1)))
def AG(p0:LW):ϗ ((BS×(TS×(LP)×Int)×(LP)×(Int×LP×LP×LI×LM))×Er):=if((p0.length:Int)=0:Ϛ)then(some ((([]:BS),((([],[]),([],0)),([],(0,([],([],([],[]))))))),Er.line 1 6))else(idx p0 0>>=λf=>zR f>>=λa=>if !((a.length:Int)=2:Ϛ)then(lT p0 a true)else(idx a 0>>=λb=>if !(b=([101,110,116,114,121]:BS):Ϛ)then(lT p0 a true)else(idx a 1>>=λc=>mc c>>=λd=>lT p0 a (!d))))
def strings_IndexByte(p0:BS)(p1:Int):Option Int:=some (Go.Lib.indexByte p0 p1.toNat.toUInt8)
def Kn{c:Type}(a:c)(b:BS):=some (b,a)
def sN{e:Type}(y0:e->BS->Option e)(a:e×BS)(b c:BS):ϗ ((e×BS)⊕(e×BS)):=y0 a.1 b>>=λd=>some<|.inl (d,c)
def z8{e:Type}(y0:e->BS->Option e)(a:e×BS):ϗ ((e×BS)⊕(e×BS)):=if((a.2.length:Int)>0:Ϛ)then(strings_IndexByte a.2 10>>=λb=>if(b≥0:Ϛ)then((bB a.2 0<|aB (b+1))>>=λc=>bB a.2 (aB (b+1)) (a.2.length:Int)>>=λd=>sN y0 a c d)else(sN y0 a a.2 ([]:BS)))else(some<|.inr (a.1,a.2))
def EN{b:Type}(y0:b->BS->Option b)(s0:b)(p1:BS):=iter (z8 y0) (s0,p1)>>=λa=>Kn a.1 a.2
def Fs(p0:BS):=some p0
def wg(p0 p1:BS):=if((p0.length:Int)≥(p1.length:Int):Ϛ)then(bB p0 (aB<|(p0.length:Int) - (p1.length:Int)) (p0.length:Int)>>=λa=>some<|(a=p1:Ϛ))else(some false)
def vX(p0 p1:BS):ϗ BS:=wg p0 p1>>=λa=>if a then((bB p0 0<|aB<|(p0.length:Int) - (p1.length:Int))>>=λb=>some b)else(some p0)
def mZ(p0 p1:BS):ϗ BS:=vX p0 p1>>=λa=>some a
def kE(a:LW)(q:BS):ϗ LW:=mZ q ([10]:BS)>>=λx23=>aX 16 a [x23]>>=λb=>some b
def tI(p0:BS):ϗ LW:=Fs p0>>=λb=>EN (λs c=>kE s c) [] b>>=λa=>some a.2
def uH(p0:Er)(p1:Int):ϗ (Int×Int):=match p0 with | .nil=>some (0,0) | .line l c=>some (l,c) | .whole=>some (0,p1) | .other=>none
def na(a:Bool):ϗ Int:=if a then(some 1)else(some 0)
def Ak(p0:TS×(LP)×Int)(p1:LP):=jT p0>>=λx23=>if !x23 then(na true)else(jW p0.1 p1>>=λa=>na (!a))
def KH : Option (Bool):=some true
def JK(p0 p1:LP)(a:Int):ϗ (Int⊕(Unit ⊕ Bool)):=if(a<p0.length:Ϛ)then(idx p0 a>>=λb=>idx p1 a>>=λc=>if !(((b.1.1=c.1.1:Ϛ)&&(b.1.2=c.1.2:Ϛ))&&(b.2=c.2:Ϛ))then(some<|.inr<|.inr false)else(some<|.inl<|aB (a+1)))else(some<|.inr<|.inl ())
def th(p0 p1:LP):=if !((p0.length:Int)=(p1.length:Int):Ϛ)then(some false)else(iter (JK p0 p1) 0>>=λa=>match a with | .inl z=>KH | .inr z=>some z)
def Kh : Option (Bool):=some true
def JJ(p0 p1:LI)(a:Int):ϗ (Int⊕(Unit ⊕ Bool)):=if(a<p0.length:Ϛ)then(idx p0 a>>=λb=>idx p1 a>>=λc=>if !(b=c:Ϛ)then(some<|.inr<|.inr false)else(some<|.inl<|aB (a+1)))else(some<|.inr<|.inl ())
def td(p0 p1:LI):=if !((p0.length:Int)=(p1.length:Int):Ϛ)then(some false)else(iter (JJ p0 p1) 0>>=λa=>match a with | .inl z=>Kh | .inr z=>some z)
def JQ : Option (Bool):=some true
def Jx(p0 p1:LM)(f:LI->LI->Option Bool)(a:Int):ϗ (Int⊕(Unit ⊕ Bool)):=if(a<p0.length:Ϛ)then(idx p0 a>>=λb=>idx p1 a>>=λc=>f b c>>=λd=>if !d then(some<|.inr<|.inr false)else(some<|.inl<|aB (a+1)))else(some<|.inr<|.inl ())
def xA(p0 p1:LM)(b:LI->LI->Option Bool):=if !((p0.length:Int)=(p1.length:Int):Ϛ)then(some false)else(iter (Jx p0 p1 b) 0>>=λa=>match a with | .inl z=>JQ | .inr z=>some z)
def Ao(p0 p1:Int×LP×LP×LI×LM):=if(p0.1=p1.1:Ϛ)then(th p0.2.1 p1.2.1>>=λa=>if a then(th p0.2.2.1 p1.2.2.1>>=λb=>if b then(td p0.2.2.2.1 p1.2.2.2.1>>=λc=>if c then(xA p0.2.2.2.2 p1.2.2.2.2 (λf h=>td f h)>>=λd=>some d)else(some false))else(some false))else(some false))else(some false)
abbrev fO:=Int×LP×LP×LI×LM
def iI(p:fO):fO:=if p.1=1\/p.1=2\/p.1=3 then(0,[],p.2.2.1,p.2.2.2.1,p.2.2.2.2)else if p.1=4 then(0,[],[],p.2.2.2.1,p.2.2.2.2)else if p.1=5 then(0,p.2.1,p.2.2.1,p.2.2.2.1,[])else(0,p.2.1,p.2.2.1,[],p.2.2.2.2)
def x_(p:fO):Option Bool:=Ao (iI p) (0,[],[],[],[])
abbrev Sy:=TS×LP×Int
abbrev CrySt:=Sy×LP×List ((Int×Int)×LI)
def c_(b bm bo:Nat):List Nat:=[b,bm,bo]
def bF(m:LP)(p:Int×Int):Int:=if cW m p=true then(b_ m p).getD 0 else -1
def tE(q:CrySt)(p:Int×Int):Option Int:=some (bF q.2.1 p)
def vS:Option (Nat×((Int×Int)×Int))->Value
 | none=>.nilIface
 | some (T,o)=>.iface T (.agg #[.int .i64 o.1.1,.int .i64 o.1.2,.int .i64 o.2])
def Dm(e:Option (Nat×((Int×Int)×Int))):Prop:=∀T o,e=some (T,o)->(T=452\/T=453\/T=455)/\(-9223372036854775808<=o.1.1/\o.1.1<=9223372036854775807)/\(-9223372036854775808<=o.1.2/\o.1.2<=9223372036854775807)/\(-9223372036854775808<=o.2/\o.2<=9223372036854775807)
def Qa:Dm none:=λ_ _ h=>by cases h
def GP{T a b c}(h:T=452\/T=453\/T=455)(ha:aA a)(hb:aA b)(hc:aA c):Dm (some (T,(a,b),c)):=λT' o e=>by
 injection e with e;injection e with e1 e2;subst e1;subst e2;exact⟨h,ha,hb,hc⟩
def WH(a:Int):=some a
def wO(a:Int×Int)(b:Int):ϗ ((Int×Int)⊕Int):=some (.inl (b,aB (a.2+1)))
def DE(p0:LG×LT)(p1:Int×Int)(f:Int)(h:(Int×Int)->Option Int)(a:Int×Int):ϗ ((Int×Int)⊕Int):=if(a.2<4:Ϛ)then(zX p1 a.2>>=λc=>h c>>=λb=>if(b≥0:Ϛ)then(lU p0 f a.2 b>>=λd=>wO a<|aB (a.1+d))else(wO a a.1))else(some<|.inr a.1)
def rR(p0:LG×LT)(p1:Int×Int)(b:Int)(c:(Int×Int)->Option Int):=iter (DE p0 p1 b c) (0,0)>>=λa=>WH a
def qa(q:CrySt)(p:Int×Int)(k:Int):Option Bool:=qh p>>=λx=>if x=true then(if(bF q.2.1 p<0:Ϛ)=true then(rR q.1.1 p k<|tE q)>>=λs=>some ((s≥q.1.2.2:Ϛ))else some false)else some false
def VX(a:CrySt):=some a
def wc(a:Int×CrySt)(b:CrySt):ϗ ((Int×CrySt)⊕CrySt):=some (.inl (aB (a.1+1),b))
def JD(a:Int×CrySt)(b:(Int×Int))(c:LI):ϗ ((Int×CrySt)⊕CrySt):=if((c.length:Int)>0:Ϛ)then(wc a (a.2.1,a.2.2.1,bS a.2.2.2 b c))else(wc a (a.2.1,a.2.2.1,eL a.2.2.2 b))
def wa(a:LI×Int)(b:LI):ϗ ((LI×Int)⊕LI):=some (.inl (b,aB (a.2+1)))
def rI(b:Int×CrySt)(c:(Int×Int))(a:LI×Int):ϗ ((LI×Int)⊕LI):=if(a.2<b.2.1.1.2.length:Ϛ)then(qa b.2 c a.2>>=λd=>if d then(aX 8 a.1 [a.2]>>=λf=>wa a f)else(wa a a.1))else(some<|.inr a.1)
def vW(p1:Int×Int)(a:Int×CrySt):ϗ ((Int×CrySt)⊕CrySt):=if(a.1<4:Ϛ)then(zX p1 a.1>>=λb=>iter (rI a b) ([],0)>>=λc=>JD a b c)else(some<|.inr a.2)
def rM(p0:CrySt)(p1:Int×Int):=iter (vW p1) (0,p0)>>=λa=>VX a
def Yf(a:CrySt):=some a
def rW(p1:LP)(a:Int×CrySt):ϗ ((Int×CrySt)⊕CrySt):=if(a.1<p1.length:Ϛ)then(idx p1 a.1>>=λb=>rM a.2 b.1>>=λc=>some<|.inl (aB (a.1+1),c))else(some<|.inr a.2)
def Lt(p1:LP)(a:CrySt):=iter (rW p1) (0,a)>>=λb=>Yf b
def rX(p1:LP)(a:Int×CrySt):ϗ ((Int×CrySt)⊕CrySt):=if(a.1<p1.length:Ϛ)then(idx p1 a.1>>=λb=>some<|.inl (aB (a.1+1),(a.2.1,bS a.2.2.1 b.1 b.2,a.2.2.2)))else(some<|.inr a.2)
def nF(p0:TS×(LP)×Int)(p1:LP):=iter (rX p1) (0,(((p0.1.1,p0.1.2),p0.2.1,p0.2.2),[],[]))>>=λa=>Lt p1 a
def tU(p0:CrySt)(p1:Int×Int)(a:Int):=rM ((p0.1,bS p0.2.1 p1 a,p0.2.2).1,(p0.1,bS p0.2.1 p1 a,p0.2.2).2.1,eL ((p0.1,bS p0.2.1 p1 a,p0.2.2).2.2) p1) p1>>=λb=>some b
def xf(q:CrySt):Option LP:=jy q.2.1
def Km(a:CrySt):ϗ ((LP)×Int×Int):=xf a>>=λb=>some (b,0,0)
def mP(a:Int×CrySt)(b:(Int×Int)×Int)(c:Bool):ϗ ((Int×CrySt)⊕(CrySt ⊕ ((LP)×Int×Int))):=if c then(some<|.inr<|.inr ([],a.1,5))else(pd a.2.2.1>>=λd=>if(d≥500:Ϛ)then(some<|.inr<|.inr ([],0,4))else(tU a.2 b.1 b.2>>=λf=>some<|.inl (aB (a.1+1),f)))
def lN(p0:TS×(LP)×Int)(p1:LP)(a:Int×CrySt):ϗ ((Int×CrySt)⊕(CrySt ⊕ ((LP)×Int×Int))):=if(a.1<p1.length:Ϛ)then(idx p1 a.1>>=λb=>pO p0.1 b.2>>=λc=>if !c then(mP a b true)else(qa a.2 b.1 b.2>>=λd=>mP a b (!d)))else(some<|.inr<|.inl a.2)
def qc(p0:TS×(LP)×Int)(p1:LP):ϗ ((LP)×Int×Int):=jT p0>>=λa=>if !a then(some ([],0,1))else(if((p1.length:Int)>500:Ϛ)then(some ([],0,2))else(nF p0 p0.2.1>>=λb=>iter (lN p0 p1) (0,b)>>=λc=>match c with | .inl z=>Km z | .inr z=>some z))
def XH : Option (Bool):=some true
def VE(p0 p1:LP)(a:Int):ϗ (Int⊕(Unit ⊕ Bool)):=if(a<p0.length:Ϛ)then(idx p0 a>>=λb=>idx p1 a>>=λc=>if !(((b.1.1=c.1.1:Ϛ)&&(b.1.2=c.1.2:Ϛ))&&(b.2=c.2:Ϛ))then(some<|.inr<|.inr false)else(some<|.inl<|aB (a+1)))else(some<|.inr<|.inl ())
def EJ(p0 p1:LP):=if !((p0.length:Int)=(p1.length:Int):Ϛ)then(some false)else(iter (VE p0 p1) 0>>=λa=>match a with | .inl z=>XH | .inr z=>some z)
def yr(p0 p1:LP):=EJ p0 p1>>=λa=>some a
def mT(p0:LP)(p1:TS×(LP)×Int)(c:LP):=qc p1 p0>>=λa=>if(a.2.2=0:Ϛ)then(yr c a.1>>=λb=>some b)else(some false)
def Eu(q:CrySt):Option Int:=some (aB ((q.2.2.map λp=>(p.2.length:Int)).sum))
def wk(p0:(LP))(p1:TS×(LP)×Int)(a:LP):=mT p0 p1 a>>=λb=>if b then(nF p1 a>>=λc=>Eu c>>=λd=>some<|(d=0:Ϛ))else(some false)
def Na(p0:TS×(LP)×Int)(p1:LP)(a:(LP)×Int×Int)(b c:LI):ϗ (((TS×(LP)×Int)×LP×(LP)×LI×LI)×Int):=some ((p0,(p1,(a.1,(b,c)))),0)
def M_(a:Int×LI×LI×CrySt)(b:(Int×Int)×Int)(c d:Int):ϗ ((Int×LI×LI×CrySt)⊕(LI×LI)):=aX 8 a.2.1 [c]>>=λf=>aX 8 a.2.2.1 [d]>>=λh=>tU a.2.2.2 b.1 b.2>>=λi=>some<|.inl (aB (a.1+1),f,h,i)
def ux(a:Int×Int×Int)(b c:Int):ϗ ((Int×Int×Int)⊕(Int×Int)):=some (.inl (b,c,aB (a.2.2+1)))
def up(p0:TS×(LP)×Int)(f:Int×LI×LI×CrySt)(d:(Int×Int)×Int)(a:Int×Int×Int):ϗ ((Int×Int×Int)⊕(Int×Int)):=if(a.2.2<4:Ϛ)then(zX d.1 a.2.2>>=λh=>tE f.2.2.2 h>>=λb=>if(b≥0:Ϛ)then(lU p0.1 d.2 a.2.2 b>>=λc=>if(c>0:Ϛ)then(mJ .i64 1 a.2.2>>=λi=>ux a (oK .i64 a.1 i)<|aB (a.2.1+c))else(ux a a.1 a.2.1))else(ux a a.1 a.2.1))else(some<|.inr (a.1,a.2.1))
def uq(p0:TS×(LP)×Int)(p1:LP)(a:Int×LI×LI×CrySt):ϗ ((Int×LI×LI×CrySt)⊕(LI×LI)):=if(a.1<p1.length:Ϛ)then(idx p1 a.1>>=λc=>iter (up p0 a c) (0,0,0)>>=λb=>M_ a c b.1 b.2)else(some<|.inr (a.2.1,a.2.2.1))
def GC(p0:TS×(LP)×Int)(p1:LP):=qc p0 p1>>=λa=>if !(a.2.2=0:Ϛ)then none else(nF p0 p0.2.1>>=λc=>iter (uq p0 p1) (0,[],[],c)>>=λb=>Na p0 p1 a b.1 b.2)
def uW(p0 p1:Int):=mz .i64 p0 p1>>=λa=>some<|((kx .i64 a 1)=1:Ϛ)
def JL : Option (Int):=some (-1)
def Jt(p0:LP)(p1:((Int×Int)×Int)->Option Bool)(a:Int):ϗ (Int⊕(Unit ⊕ Int)):=if(a<p0.length:Ϛ)then(idx p0 a>>=λb=>p1 b>>=λc=>if c then(some<|.inr<|.inr a)else(some<|.inl<|aB (a+1)))else(some<|.inr<|.inl ())
def xy(p0:LP)(p1:((Int×Int)×Int)->Option Bool):=iter (Jt p0 p1) 0>>=λa=>match a with | .inl z=>JL | .inr z=>some z
def wI(p0:(Int×Int)×Int)(p1:Int×Int):=some ((p0.1.1=p1.1:Ϛ)&&(p0.1.2=p1.2:Ϛ))
def Ef(p0:(TS×(LP)×Int)×LP×(LP)×LI×LI)(p1:Int×Int):=xy p0.2.1 (λb=>wI b p1)>>=λa=>some a
def JU(a:Int):=some a
def wH(a:Int×Int)(b:Int):ϗ ((Int×Int)⊕Int):=some (.inl (b,aB (a.2+1)))
def wG(a:Int×Int)(b:Bool):ϗ ((Int×Int)⊕Int):=if b then(mJ .i64 1 a.2>>=λc=>wH a<|oK .i64 a.1 c)else(wH a a.1)
def vY(p0:(TS×(LP)×Int)×LP×(LP)×LI×LI)(p1:Int)(a:Int×Int):ϗ ((Int×Int)⊕Int):=if(a.2<4:Ϛ)then(idx p0.2.1 p1>>=λc=>zX c.1 a.2>>=λd=>Ef p0 d>>=λb=>if(b>p1:Ϛ)then(idx p0.2.2.2.1 b>>=λf=>ut a.2>>=λh=>uW f h>>=λi=>wG a i)else(wG a false))else(some<|.inr a.1)
def xt(p0:(TS×(LP)×Int)×LP×(LP)×LI×LI)(p1:Int):=iter (vY p0 p1) (0,0)>>=λa=>JU a
def JE(b:LP)(a:Int):ϗ LP:=js b a ((0,0),0)>>=λc=>bB c 0 a>>=λd=>some d
def wi(a:LP×Int×Int)(b:LP)(c:Int):ϗ ((LP×Int×Int)⊕(LP×Int)):=some (.inl (b,c,aB (a.2.2+1)))
def Dy(p1:((Int×Int)×Int)->Option Bool)(a:LP×Int×Int):ϗ ((LP×Int×Int)⊕(LP×Int)):=if(a.2.2<a.1.length:Ϛ)then(idx a.1 a.2.2>>=λb=>p1 b>>=λc=>if !c then(idx a.1 a.2.1>>=λf=>(some<|a.1.set a.2.1.toNat b)>>=λd=>wi a d<|aB (a.2.1+1))else(wi a a.1 a.2.1))else(some<|.inr (a.1,a.2.1))
def xc(p0:LP)(p1:((Int×Int)×Int)->Option Bool):=mM p0 p1>>=λa=>if(a=(-1):Ϛ)then(some p0)else(iter (Dy p1) (p0,a,aB (a+1))>>=λb=>JE b.1 b.2)
def Kf : Option (Int):=some (-1)
def JI(p0:List (Int×Int))(p1:Int×Int)(a:Int):ϗ (Int⊕(Unit ⊕ Int)):=if(a<p0.length:Ϛ)then(idx p0 a>>=λb=>if((p1.1=b.1:Ϛ)&&(p1.2=b.2:Ϛ))then(some<|.inr<|.inr a)else(some<|.inl<|aB (a+1)))else(some<|.inr<|.inl ())
def EI(p0:List (Int×Int))(p1:Int×Int):=iter (JI p0 p1) 0>>=λa=>match a with | .inl z=>Kf | .inr z=>some z
def xr(p0:List (Int×Int))(p1:Int×Int):=EI p0 p1>>=λa=>some<|(a≥0:Ϛ)
def DK(p0:(Int×Int)×Int)(p1:List (Int×Int)):=xr p1 p0.1>>=λa=>some a
def xh(p0:LP)(p1:List (Int×Int)):=tP p0>>=λa=>xc a (λc=>DK c p1)>>=λb=>some b
def tV(p0:LP)(p1:Int×Int):ϗ Int:=pm p0 p1 (λc d=>jV c d)>>=λa=>if a.2 then(idx p0 a.1>>=λb=>some b.2)else(some (-1))
def WA : Option (Bool):=some false
def wK(a:Int)(b:Bool):ϗ (Int⊕(Unit ⊕ Bool)):=if b then(some<|.inr<|.inr true)else(some<|.inl<|aB (a+1))
def vZ(p0:(TS×(LP)×Int)×LP×(LP)×LI×LI)(b:(Int×Int)×Int)(c:(LP))(a:Int):ϗ (Int⊕(Unit ⊕ Bool)):=if(a<p0.1.1.2.length:Ϛ)then(if !(a=b.2:Ϛ)then(rR p0.1.1 b.1 a (λf=>tV c f)>>=λd=>wK a<|(d≥p0.1.2.2:Ϛ))else(wK a false))else(some<|.inr<|.inl ())
def JV(p0:(TS×(LP)×Int)×LP×(LP)×LI×LI)(a:(Int×Int)×Int)(b:List (Int×Int)):=xh p0.2.2.1 b>>=λc=>iter (vZ p0 a c) 0>>=λd=>match d with | .inl z=>WA | .inr z=>some z
def wJ(a:(List (Int×Int))×Int)(b:List (Int×Int)):ϗ (((List (Int×Int))×Int)⊕((List (Int×Int)))):=some (.inl (b,aB (a.2+1)))
def v_(p0:(TS×(LP)×Int)×LP×(LP)×LI×LI)(p1:Int)(b:(Int×Int)×Int)(a:(List (Int×Int))×Int):ϗ (((List (Int×Int))×Int)⊕((List (Int×Int)))):=if(a.2<4:Ϛ)then(xt p0 p1>>=λc=>uW c a.2>>=λd=>if d then(zX b.1 a.2>>=λf=>aX 16 a.1 [f]>>=λh=>wJ a h)else(wJ a a.1))else(some<|.inr a.1)
def xu(p0:(TS×(LP)×Int)×LP×(LP)×LI×LI)(p1:Int):=idx p0.2.1 p1>>=λa=>iter (v_ p0 p1 a) ([a.1],0)>>=λb=>JV p0 a b
def dM(a b:Int×Int):Int:=if a.2<b.2 then -1 else if b.2<a.2 then 1 else if a.1<b.1 then -1 else if b.1<a.1 then 1 else 0
def Cw(l:List (Int×Int)):List (Int×Int):=(Go.Sort.pdq (λx y=>(dM x y<0:Ϛ)) l.toArray 0 l.length (Go.Lib.bitLen l.length) true true).toList
def tz(q:CrySt):Option LP:=if q.2.2.length<=100000/\∀p∈q.2.2,p.2.length<=100000 then some ((Cw<|q.2.2.map Prod.fst).flatMap λp=>((b_ q.2.2 p).getD []).map λk=>(p,k))else none
def Kj(p0:(TS×(LP)×Int)×LP×(LP)×LI×LI):ϗ ((Option (Nat×((Int×Int)×Int)))):=nF p0.1 p0.2.2.1>>=λc=>tz c>>=λb=>if((b.length:Int)>0:Ϛ)then(idx b 0>>=λa=>some<|some (455,(a.1.1,a.1.2),a.2))else(some (none:Option (Nat×((Int×Int)×Int))))
def DP(p0:(TS×(LP)×Int)×LP×(LP)×LI×LI)(a:Int):ϗ (Int⊕(Unit ⊕ ((Option (Nat×((Int×Int)×Int)))))):=if(a<p0.2.1.length:Ϛ)then(idx p0.2.1 a>>=λb=>idx p0.2.2.2.2 a>>=λc=>if !(c=p0.1.2.2:Ϛ)then(some<|.inr<|.inr<|some (452,(b.1.1,b.1.2),b.2))else(xu p0 a>>=λd=>if d then(some<|.inr<|.inr<|some (453,(b.1.1,b.1.2),b.2))else(some<|.inl<|aB (a+1))))else(some<|.inr<|.inl ())
def EM(p0:(TS×(LP)×Int)×LP×(LP)×LI×LI):=iter (DP p0) 0>>=λa=>match a with | .inl z=>Kj p0 | .inr z=>some z
def Xk(p0:((Int×Int)×Int)):=some p0.1
def Xb(p0:((Int×Int)×Int)):ϗ Int:=some 1
def Ye(p0:((Int×Int)×Int)):=some p0.1
def WN(p0:((Int×Int)×Int)):ϗ Int:=some 2
def Zk(p0:((Int×Int)×Int)):=some p0.1
def Yh(p0:((Int×Int)×Int)):ϗ Int:=some 3
def Am(p0:Sy)(p1:LP):ϗ (Int×(Int×Int)×Int):=GC p0 p1>>=λx=>if(!(x.2=0:Ϛ))=true then some (0,(0,0),x.2)else EM x.1>>=λv=>match v with
  | none=>some (0,(0,0),3)
  | some (T,o)=>some (if T=452 then 1 else if T=453 then 2 else 3,o.1,0)
def AS(p0:TS×(LP)×Int)(p1:LP):=Am p0 p1>>=λa=>some<|(a.2.2=3:Ϛ)
def wE(p0:(LP))(p1:TS×(LP)×Int)(c:LP):=mT p0 p1 c>>=λa=>if a then(AS p1 p0>>=λb=>some b)else(some false)
def AP(p0:LP):=(idx p0<|aB<|(p0.length:Int) - 1)>>=λa=>some a
def rH(p0:(LP)×LP)(p1:TS×(LP)×Int)(c:Bool):=if c then(some false)else(qc p1 p0.2>>=λd=>AP p0.1>>=λa=>AP p0.2>>=λb=>if(d.2.2=0:Ϛ)then(if((a.1.1=b.1.1:Ϛ)&&(a.1.2=b.1.2:Ϛ))then(some<|!(a.2=b.2:Ϛ))else(some false))else(some false))
def wm(p0:(LP)×LP)(p1:TS×(LP)×Int)(b:LP):=if((p0.1.length:Int)=0:Ϛ)then(rH p0 p1 true)else(if((p0.2.length:Int)=0:Ϛ)then(rH p0 p1 true)else(mT p0.1 p1 b>>=λa=>rH p0 p1 (!a)))
def tD(a:Bool):ϗ Int:=if a then(some 2)else(some 0)
def FG(p0:LG×LT)(p1:LP)(a b:Int):ϗ Int:=jW p0 p1>>=λc=>if !c then(some 1)else(iV a (p1.length:Int)>>=λx23=>if !x23 then(tD true)else(iV b (p1.length:Int)>>=λd=>if !d then(tD true)else(tD<|(a=b:Ϛ))))
def LY(c:Int)(a:LI):ϗ (Int×Int):=idx a c>>=λb=>some (b,0)
def tA(a:Int)(b:Bool):ϗ (Int⊕(Unit ⊕ (Int×Int))):=if b then(some<|.inr<|.inr (0,10))else(some<|.inl<|aB (a+1))
def sM(d f:Int)(b:LI)(a:Int):ϗ (Int⊕(Unit ⊕ (Int×Int))):=if(a<b.length:Ϛ)then(idx b a>>=λc=>if !(c=0:Ϛ)then(if !(a=d:Ϛ)then(tA a<|!(a=f:Ϛ))else(tA a false))else(tA a false))else(some<|.inr<|.inl ())
def LZ(b d:Int)(a:LI):=iter (sM b d a) 0>>=λc=>match c with | .inl z=>LY b a | .inr z=>some z
def DX(f:LI)(d:LB)(a:LI×Int):ϗ ((LI×Int)⊕((LI) ⊕ (Int×Int))):=if(a.2<d.length:Ϛ)then(idx d a.2>>=λb=>idx f a.2>>=λi=>gZ i (aB<|0 - b.2.2) b.2.2>>=λj=>if !j then(some<|.inr<|.inr (0,10))else(idx a.1 b.1>>=λk=>idx f a.2>>=λl=>idx a.1 b.1>>=λr=>(some<|a.1.set b.1.toNat<|aB (k+l))>>=λc=>idx c b.2.1>>=λm=>idx f a.2>>=λn=>idx c b.2.1>>=λu=>(some<|c.set b.2.1.toNat<|aB<|m - n)>>=λh=>some<|.inl (h,aB (a.2+1))))else(some<|.inr<|.inl a.1)
def As(p0:LG×LT)(p1:LP)(b c:Int)(d:LI):ϗ (Int×Int):=FG p0 p1 b c>>=λx23=>if !(x23=0:Ϛ)then(some (0,x23))else(nc p0 p1>>=λa=>if !((d.length:Int)=(a.length:Int):Ϛ)then(some (0,10))else(eM 8 (p1.length:Int) 0>>=λf=>iter (DX d a) (f,0)>>=λh=>match h with | .inl z=>LZ b c z | .inr z=>some z))
def Wb : Option (Bool):=some true
def wr(a:Int)(b:Bool):ϗ (Int⊕(Unit ⊕ Bool)):=if b then(some<|.inr<|.inr false)else(some<|.inl<|aB (a+1))
def rE(p0:LM)(p1:TS×(LP)×Int)(d:LP)(a:Int):ϗ (Int⊕(Unit ⊕ Bool)):=if(a<p0.length:Ϛ)then(idx p0 a>>=λc=>As p1.1 d 0 (aB (a+1)) c>>=λb=>if !(b.2=0:Ϛ)then(wr a true)else(wr a<|(b.1<p1.2.2:Ϛ)))else(some<|.inr<|.inl ())
def wF(p0:LM)(p1:TS×(LP)×Int)(a:LP):=if !((p0.length:Int)=(Jr (aB<|(a.length:Int) - 1) 0):Ϛ)then(some false)else(iter (rE p0 p1 a) 0>>=λb=>match b with | .inl z=>Wb | .inr z=>some z)
def WJ : Option (Bool):=some true
def pk(a:Int)(b:Bool):ϗ (Int⊕(Unit ⊕ Bool)):=if b then(some<|.inr<|.inr false)else(some<|.inl<|aB (a+1))
def z7(p0:LP)(p1:LI)(a:Int):ϗ (Int⊕(Unit ⊕ Bool)):=if(a<p1.length:Ϛ)then(idx p1 a>>=λb=>iV b (p0.length:Int)>>=λc=>if !c then(pk a true)else(if(a>0:Ϛ)then((idx p1<|aB<|a - 1)>>=λd=>pk a<|(b<=d:Ϛ))else(pk a false)))else(some<|.inr<|.inl ())
def xK(p0:LP)(p1:LI):=iter (z7 p0 p1) 0>>=λa=>match a with | .inl z=>WJ | .inr z=>some z
def Yd(a:Int):=some a
def xa(p0:LB)(a:Int×Int):ϗ ((Int×Int)⊕Int):=if(a.2<p0.length:Ϛ)then(idx p0 a.2>>=λb=>some<|.inl (aB (a.1+b.2.2),aB (a.2+1)))else(some<|.inr a.1)
def Ai(p0:LB):=iter (xa p0) (0,0)>>=λa=>Yd a
def Ke : Option (Int):=some (-1)
def JH(p0:LI)(p1 a:Int):ϗ (Int⊕(Unit ⊕ Int)):=if(a<p0.length:Ϛ)then(idx p0 a>>=λb=>if(p1=b:Ϛ)then(some<|.inr<|.inr a)else(some<|.inl<|aB (a+1)))else(some<|.inr<|.inl ())
def EH(p0:LI)(p1:Int):=iter (JH p0 p1) 0>>=λa=>match a with | .inl z=>Ke | .inr z=>some z
def sB(p0:LI)(p1:Int):=EH p0 p1>>=λa=>some<|(a≥0:Ϛ)
def xv(p0:Int×Int×Int)(p1:LI):=sB p1 p0.1>>=λa=>sB p1 p0.2.1>>=λb=>some<|a == b
def yH(p0:LB)(p1:LI):=pZ p0>>=λa=>sc a (λd=>xv d p1)>>=λb=>Ai b>>=λc=>some c
def Ff(p0:LG×LT)(p1:LP)(a:LI):ϗ (Int×Int):=jW p0 p1>>=λb=>if !b then(some (0,1))else(xK p1 a>>=λc=>if !c then(some (0,2))else(nc p0 p1>>=λd=>yH d a>>=λf=>some (f,0)))
def xd(p0:LI)(p1:TS×(LP)×Int)(b:LP):=Ff p1.1 b p0>>=λa=>if(a.2=0:Ϛ)then(if((p0.length:Int)>0:Ϛ)then(if((p0.length:Int)<(b.length:Int):Ϛ)then(some<|(a.1<p1.2.2:Ϛ))else(some false))else(some false))else(some false)
def kW(p0:Sy)(p1:LP)(p:fO):Option Bool:=if p.1=1 then mT p.2.1 p0 p1 else if p.1=2 then wk p.2.1 p0 p1 else if p.1=3 then wE p.2.1 p0 p1
 else if p.1=4 then wm (p.2.1,p.2.2.1) p0 p1 else if p.1=5 then wF p.2.2.2.2 p0 p1 else xd p.2.2.2.1 p0 p1
def nH(p0:Sy)(p1:LP)(a:fO):Option Int:=Ak p0 p1>>=λc=>if(!(c=0:Ϛ))=true then some 1 else gZ a.1 1 6>>=λw=>if(!w)=true then some 2 else
  (x_ a).bind λb=>if b=true then kW p0 p1 a>>=λr=>some (if r=true then 0 else 10)else some 10
def tF(p0:BS×(TS×(LP)×Int)×(LP)×(Int×LP×LP×LI×LM)):=mc p0.1>>=λa=>if a then(nH p0.2.1 p0.2.2.1 p0.2.2.2>>=λb=>some<|(b=0:Ϛ))else(some false)
def Ap(p0:BS):ϗ ((BS×(TS×(LP)×Int)×(LP)×(Int×LP×LP×LI×LM))×Int×Int):=if((p0.length:Int)>20000:Ϛ)then(some ((([]:BS),((([],[]),([],0)),([],(0,([],([],([],[]))))))),0,2))else(tI p0>>=λc=>AG c>>=λa=>uH a.2 1>>=λb=>if !(b.2=0:Ϛ)then(some ((([]:BS),((([],[]),([],0)),([],(0,([],([],([],[]))))))),b.1,b.2))else(tF a.1>>=λd=>if !d then(some ((([]:BS),((([],[]),([],0)),([],(0,([],([],([],[]))))))),0,10))else(some (a.1,0,0))))
def uC(p0 p1:Int×Int):=if !(p0.1=p1.1:Ϛ)then(some false)else(if !(p0.2=p1.2:Ϛ)then(some false)else(some true))
def FA(p0 p1:(Int×Int)×Int):=uC p0.1 p1.1>>=λa=>if !a then(some false)else(if !(p0.2=p1.2:Ϛ)then(some false)else(some true))
def KY : Option (Bool):=some true
def xD(p0 p1:LP)(a:Int):ϗ (Int⊕(Unit ⊕ Bool)):=if(a<p0.length:Ϛ)then(idx p0 a>>=λb=>idx p1 a>>=λc=>FA b c>>=λd=>if !d then(some<|.inr<|.inr false)else(some<|.inl<|aB (a+1)))else(some<|.inr<|.inl ())
def AE(p0 p1:LP):=if !((p0.length:Int)=(p1.length:Int):Ϛ)then(some false)else(iter (xD p0 p1) 0>>=λa=>match a with | .inl z=>KY | .inr z=>some z)
def Ah(p0 p1:LP):=AE p0 p1>>=λa=>if !a then(some false)else(some true)
def FN(p0 p1:BS×Int):=if !(p0.1=p1.1:Ϛ)then(some false)else(if !(p0.2=p1.2:Ϛ)then(some false)else(some true))
def MG : Option (Bool):=some true
def xQ(p0 p1:LG)(a:Int):ϗ (Int⊕(Unit ⊕ Bool)):=if(a<p0.length:Ϛ)then(idx p0 a>>=λb=>idx p1 a>>=λc=>FN b c>>=λd=>if !d then(some<|.inr<|.inr false)else(some<|.inl<|aB (a+1)))else(some<|.inr<|.inl ())
def Bb(p0 p1:LG):=if !((p0.length:Int)=(p1.length:Int):Ϛ)then(some false)else(iter (xQ p0 p1) 0>>=λa=>match a with | .inl z=>MG | .inr z=>some z)
def Mj : Option (Bool):=some true
def yd(p0 p1:LI)(a:Int):ϗ (Int⊕(Unit ⊕ Bool)):=if(a<p0.length:Ϛ)then(idx p0 a>>=λb=>idx p1 a>>=λc=>if !(b=c:Ϛ)then(some<|.inr<|.inr false)else(some<|.inl<|aB (a+1)))else(some<|.inr<|.inl ())
def qB(p0 p1:LI):=if !((p0.length:Int)=(p1.length:Int):Ϛ)then(some false)else(iter (yd p0 p1) 0>>=λa=>match a with | .inl z=>Mj | .inr z=>some z)
def FM(p0 p1:BS×LI):=if !(p0.1=p1.1:Ϛ)then(some false)else(qB p0.2 p1.2>>=λa=>if !a then(some false)else(some true))
def ME : Option (Bool):=some true
def xP(p0 p1:LT)(a:Int):ϗ (Int⊕(Unit ⊕ Bool)):=if(a<p0.length:Ϛ)then(idx p0 a>>=λb=>idx p1 a>>=λc=>FM b c>>=λd=>if !d then(some<|.inr<|.inr false)else(some<|.inl<|aB (a+1)))else(some<|.inr<|.inl ())
def Ba(p0 p1:LT):=if !((p0.length:Int)=(p1.length:Int):Ϛ)then(some false)else(iter (xP p0 p1) 0>>=λa=>match a with | .inl z=>ME | .inr z=>some z)
def Fm(p0 p1:LG×LT):=Bb p0.1 p1.1>>=λa=>if !a then(some false)else(Ba p0.2 p1.2>>=λb=>if !b then(some false)else(some true))
def Fz(p0 p1:TS×(LP)×Int):=Fm p0.1 p1.1>>=λa=>if !a then(some false)else(Ah p0.2.1 p1.2.1>>=λb=>if !b then(some false)else(if !(p0.2.2=p1.2.2:Ϛ)then(some false)else(some true)))
def FB(p0 p1:(Int×Int)×Int):=uC p0.1 p1.1>>=λa=>if !a then(some false)else(if !(p0.2=p1.2:Ϛ)then(some false)else(some true))
def K_ : Option (Bool):=some true
def xE(p0 p1:LP)(a:Int):ϗ (Int⊕(Unit ⊕ Bool)):=if(a<p0.length:Ϛ)then(idx p0 a>>=λb=>idx p1 a>>=λc=>FB b c>>=λd=>if !d then(some<|.inr<|.inr false)else(some<|.inl<|aB (a+1)))else(some<|.inr<|.inl ())
def tZ(p0 p1:LP):=if !((p0.length:Int)=(p1.length:Int):Ϛ)then(some false)else(iter (xE p0 p1) 0>>=λa=>match a with | .inl z=>K_ | .inr z=>some z)
def La : Option (Bool):=some true
def xF(p0 p1:LM)(a:Int):ϗ (Int⊕(Unit ⊕ Bool)):=if(a<p0.length:Ϛ)then(idx p0 a>>=λb=>idx p1 a>>=λc=>qB b c>>=λd=>if !d then(some<|.inr<|.inr false)else(some<|.inl<|aB (a+1)))else(some<|.inr<|.inl ())
def AF(p0 p1:LM):=if !((p0.length:Int)=(p1.length:Int):Ϛ)then(some false)else(iter (xF p0 p1) 0>>=λa=>match a with | .inl z=>La | .inr z=>some z)
def FD(p0 p1:Int×LP×LP×LI×LM):=if !(p0.1=p1.1:Ϛ)then(some false)else(tZ p0.2.1 p1.2.1>>=λa=>if !a then(some false)else(tZ p0.2.2.1 p1.2.2.1>>=λb=>if !b then(some false)else(qB p0.2.2.2.1 p1.2.2.2.1>>=λc=>if !c then(some false)else(AF p0.2.2.2.2 p1.2.2.2.2>>=λd=>if !d then(some false)else(some true)))))
def uD(p0 p1:BS×(TS×(LP)×Int)×(LP)×(Int×LP×LP×LI×LM)):=if !(p0.1=p1.1:Ϛ)then(some false)else(Fz p0.2.1 p1.2.1>>=λa=>if !a then(some false)else(Ah p0.2.2.1 p1.2.2.1>>=λb=>if !b then(some false)else(FD p0.2.2.2 p1.2.2.2>>=λc=>if !c then(some false)else(some true))))
def KK(a:LP)(b:Int):=some (b,a)
def mS(a:LP×Int×Int):ϗ ((LP×Int×Int)⊕(LP×Int)):=if(a.2.2<a.1.length:Ϛ)then(idx a.1 a.2.2>>=λb=>(some<|a.1.set a.2.2.toNat ((a.2.1,b.1.2),b.2))>>=λc=>idx c a.2.2>>=λd=>(some<|c.set a.2.2.toNat ((d.1.1,aB (a.2.1+1)),d.2))>>=λf=>idx f a.2.2>>=λh=>(some<|f.set a.2.2.toNat (h.1,aB<|(aB (a.2.1+1))+1))>>=λi=>some<|.inl (i,aB<|(aB<|(aB (a.2.1+1))+1)+1,aB (a.2.2+1)))else(some<|.inr (a.1,a.2.1))
def lQ(p0:LP)(p1:Int):=iter (mS) (p0,p1,0)>>=λa=>KK a.1 a.2
def Mi(b:BS):ϗ BS:=dO ([109]:BS) b>>=λa=>some a
def Ej(a:Int×BS):ϗ ((Int×BS)⊕BS):=if(a.1>0:Ϛ)then(dO (f_ [IntKind.wrap .u8<|aB<|48+(Int.tmod a.1 10)]) a.2>>=λb=>some<|.inl (aB<|Int.tdiv a.1 10,b))else(some<|.inr a.2)
def kO(p0:Int):ϗ BS:=if(p0<=0:Ϛ)then(some ([109,48]:BS))else(iter (Ej) (p0,([]:BS))>>=λa=>Mi a)
def KV(a:LG)(b:Int):=some (b,a)
def nn(a:LG×Int×Int):ϗ ((LG×Int×Int)⊕(LG×Int)):=if(a.2.2<a.1.length:Ϛ)then(kO a.2.1>>=λc=>idx a.1 a.2.2>>=λd=>(some<|a.1.set a.2.2.toNat (c,d.2))>>=λb=>idx b a.2.2>>=λf=>(some<|b.set a.2.2.toNat (f.1,aB (a.2.1+1)))>>=λh=>some<|.inl (h,aB<|(aB (a.2.1+1))+1,aB (a.2.2+1)))else(some<|.inr (a.1,a.2.1))
def qt(p0:LG)(p1:Int):=iter (nn) (p0,p1,0)>>=λa=>KV a.1 a.2
def Kw(a:LI)(b:Int):=some (b,a)
def mN(a:LI×Int×Int):ϗ ((LI×Int×Int)⊕(LI×Int)):=if(a.2.2<a.1.length:Ϛ)then(idx a.1 a.2.2>>=λb=>(some<|a.1.set a.2.2.toNat a.2.1)>>=λx23=>some<|.inl (x23,aB (a.2.1+1),aB (a.2.2+1)))else(some<|.inr (a.1,a.2.1))
def lX(p0:LI)(p1:Int):=iter (mN) (p0,p1,0)>>=λa=>Kw a.1 a.2
def XM(a:LP)(b:Int):=some (b,a)
def wz(a:LP×Int×Int):ϗ ((LP×Int×Int)⊕(LP×Int)):=if(a.2.2<a.1.length:Ϛ)then(idx a.1 a.2.2>>=λb=>(some<|a.1.set a.2.2.toNat ((a.2.1,b.1.2),b.2))>>=λc=>idx c a.2.2>>=λd=>(some<|c.set a.2.2.toNat ((d.1.1,aB (a.2.1+1)),d.2))>>=λf=>idx f a.2.2>>=λh=>(some<|f.set a.2.2.toNat (h.1,aB<|(aB (a.2.1+1))+1))>>=λi=>some<|.inl (i,aB<|(aB<|(aB (a.2.1+1))+1)+1,aB (a.2.2+1)))else(some<|.inr (a.1,a.2.1))
def qj(p0:LP)(p1:Int):=iter (wz) (p0,p1,0)>>=λa=>XM a.1 a.2
def KL(a:Int):=some a
def wA(p0:LP)(a:Int×Int):ϗ ((Int×Int)⊕(Int ⊕ Int)):=if(a.2<p0.length:Ϛ)then(idx p0 a.2>>=λb=>if !(b.1.1=a.1:Ϛ)then(some<|.inr<|.inr (-1))else(idx p0 a.2>>=λ_=>if !(b.1.2=(aB (a.1+1)):Ϛ)then(some<|.inr<|.inr (-1))else(idx p0 a.2>>=λ_=>if !(b.2=(aB<|(aB (a.1+1))+1):Ϛ)then(some<|.inr<|.inr (-1))else(some<|.inl (aB<|(aB<|(aB (a.1+1))+1)+1,aB (a.2+1))))))else(some<|.inr<|.inl a.1)
def tQ(p0:LP)(p1:Int):=iter (wA p0) (p1,0)>>=λa=>match a with | .inl z=>KL z | .inr z=>some z
def tw(p0:LP)(p1:Int):ϗ Int:=tQ p0 p1>>=λa=>if(a<0:Ϛ)then(some (-1))else(some a)
def KX(a:Int):=some a
def xC(p0:LG)(a:Int×Int):ϗ ((Int×Int)⊕(Int ⊕ Int)):=if(a.2<p0.length:Ϛ)then(idx p0 a.2>>=λb=>kO a.1>>=λc=>if !(b.1=c:Ϛ)then(some<|.inr<|.inr (-1))else(idx p0 a.2>>=λ_=>if !(b.2=(aB (a.1+1)):Ϛ)then(some<|.inr<|.inr (-1))else(some<|.inl (aB<|(aB (a.1+1))+1,aB (a.2+1)))))else(some<|.inr<|.inl a.1)
def AD(p0:LG)(p1:Int):=iter (xC p0) (p1,0)>>=λa=>match a with | .inl z=>KX z | .inr z=>some z
def Kx(a:Int):=some a
def w_(p0:LI)(a:Int×Int):ϗ ((Int×Int)⊕(Int ⊕ Int)):=if(a.2<p0.length:Ϛ)then(idx p0 a.2>>=λb=>if !(b=a.1:Ϛ)then(some<|.inr<|.inr (-1))else(some<|.inl (aB (a.1+1),aB (a.2+1))))else(some<|.inr<|.inl a.1)
def qg(p0:LI)(p1:Int):=iter (w_ p0) (p1,0)>>=λa=>match a with | .inl z=>Kx z | .inr z=>some z
def KW(a:Int):=some a
def xB(p0:LT)(a:Int×Int):ϗ ((Int×Int)⊕(Int ⊕ Int)):=if(a.2<p0.length:Ϛ)then(idx p0 a.2>>=λb=>kO a.1>>=λd=>if !(b.1=d:Ϛ)then(some<|.inr<|.inr (-1))else(idx p0 a.2>>=λ_=>(qg b.2<|aB (a.1+1))>>=λc=>if(c<0:Ϛ)then(some<|.inr<|.inr (-1))else(some<|.inl (c,aB (a.2+1)))))else(some<|.inr<|.inl a.1)
def AC(p0:LT)(p1:Int):=iter (xB p0) (p1,0)>>=λa=>match a with | .inl z=>KW z | .inr z=>some z
def yC(p0:LG×LT)(p1:Int):ϗ Int:=AD p0.1 p1>>=λa=>if(a<0:Ϛ)then(some (-1))else(AC p0.2 a>>=λb=>if(b<0:Ϛ)then(some (-1))else(some b))
def Fe(p0:TS×(LP)×Int)(p1:Int):ϗ Int:=yC p0.1 p1>>=λa=>if(a<0:Ϛ)then(some (-1))else(tw p0.2.1 a>>=λb=>if(b<0:Ϛ)then(some (-1))else(some b))
def XQ(a:Int):=some a
def VP(p0:LP)(a:Int×Int):ϗ ((Int×Int)⊕(Int ⊕ Int)):=if(a.2<p0.length:Ϛ)then(idx p0 a.2>>=λb=>if !(b.1.1=a.1:Ϛ)then(some<|.inr<|.inr (-1))else(idx p0 a.2>>=λ_=>if !(b.1.2=(aB (a.1+1)):Ϛ)then(some<|.inr<|.inr (-1))else(idx p0 a.2>>=λ_=>if !(b.2=(aB<|(aB (a.1+1))+1):Ϛ)then(some<|.inr<|.inr (-1))else(some<|.inl (aB<|(aB<|(aB (a.1+1))+1)+1,aB (a.2+1))))))else(some<|.inr<|.inl a.1)
def yD(p0:LP)(p1:Int):=iter (VP p0) (p1,0)>>=λa=>match a with | .inl z=>XQ z | .inr z=>some z
def KN(a:Int):=some a
def wB(p0:LM)(a:Int×Int):ϗ ((Int×Int)⊕(Int ⊕ Int)):=if(a.2<p0.length:Ϛ)then(idx p0 a.2>>=λc=>qg c a.1>>=λb=>if(b<0:Ϛ)then(some<|.inr<|.inr (-1))else(some<|.inl (b,aB (a.2+1))))else(some<|.inr<|.inl a.1)
def yE(p0:LM)(p1:Int):=iter (wB p0) (p1,0)>>=λa=>match a with | .inl z=>KN z | .inr z=>some z
def Fj(p0:Int×LP×LP×LI×LM)(p1:Int):ϗ Int:=yD p0.2.1 p1>>=λa=>if(a<0:Ϛ)then(some (-1))else(yD p0.2.2.1 a>>=λb=>if(b<0:Ϛ)then(some (-1))else(qg p0.2.2.2.1 b>>=λc=>if(c<0:Ϛ)then(some (-1))else(yE p0.2.2.2.2 c>>=λd=>if(d<0:Ϛ)then(some (-1))else(some d))))
def tY(p0:BS×(TS×(LP)×Int)×(LP)×(Int×LP×LP×LI×LM))(p1:Int):ϗ Int:=Fe p0.2.1 p1>>=λa=>if(a<0:Ϛ)then(some (-1))else(tw p0.2.2.1 a>>=λb=>if(b<0:Ϛ)then(some (-1))else(Fj p0.2.2.2 b>>=λc=>if(c<0:Ϛ)then(some (-1))else(some c)))
end
end Go.Lf
namespace Go.Lf
open Go Go.Proofs
def tGlue:Ty (BS×Int):=(dW tStr tI64)
instance:bY tGlue:=inferInstanceAs (bY (dW tStr tI64))
def tTile:Ty (BS×LI):=(dW tStr (aW tI64))
instance:bY tTile:=inferInstanceAs (bY (dW tStr (aW tI64)))
def cG:Ty (Int×Int):=(dW tI64 tI64)
instance:bY cG:=inferInstanceAs (bY (dW tI64 tI64))
def tPlaced:Ty ((Int×Int)×Int):=(dW cG tI64)
instance:bY tPlaced:=inferInstanceAs (bY (dW cG tI64))
def bQ:Ty (Int×Int×Int):=(dW tI64 (dW tI64 tI64))
instance:bY bQ:=inferInstanceAs (bY (dW tI64 (dW tI64 tI64)))
def mu:KeyOk Tryz.prog 116 cF:=Sb (λem w x y=>kr) ⟨_,Tryz.underlying116,λa b k es j hb=>kr⟩
 (λw x y z t=>Pk (P:=Tryz.prog) (T:=116) kr 9998 .i64 .i64 x y z t w)
def cu(a:K)(v:Value)(e:Er):Prop:=ErVg 83 384 0 a v e
def cu.step{M a a' v e}(s:Step M a a')(h:cu a v e):cu a' v e:=ErVg.step s h
def cu.mkline{a b l c}(h:PubAt a b 0 [iv l,iv c])(h1:aA l)(h2:aA c):cu a (.iface 83 (pt b 0)) (.line l c):=⟨b,rfl,h,h1,h2⟩
def cu.nil{a}:cu a .nilIface .nil:=rfl
def cu.at0{a v}(h:cu a v .whole):PubAt a 0 0 [v]:=h.2
def cu.cell{a:K}{v}(h:cu a v .whole):a.cell 0 0=some v:=h.2.2.2 0 v rfl
def Glob(a:K):Prop:=Globg pow10s 384 204 0 1 3 4 5 8 58 a
def Glob.step{M a a'}(s:Step M a a')(h:Glob a):Glob a':=Globg.step s h
def Glob.whole{a}(h:Glob a):∃v,cu a v .whole:=by
 obtain⟨b,hb⟩:=Globg.whole h;exact⟨_,⟨b,rfl⟩,hb⟩
structure SysN(b:K)(a:OA)(c:Nat)(a1:OA)(c1:Nat)(a2:OA)(c2:Nat)(r:TS×LP×Int)(N:Nat):Prop where
 og:mC tGlue 171 44003 b a c r.1.1
 ot:∃N,iO tStr tI64 126004 2 173 (N,44004) b a1 c1 r.1.2
 op:dX tPlaced 166 129001 N b a2 c2 r.2.1
def SysO(b:K)(a:OA)(c:Nat)(a1:OA)(c1:Nat)(a2:OA)(c2:Nat)(r:TS×LP×Int):Prop:=∃N,SysN b a c a1 c1 a2 c2 r N
structure gL(b:K)(a:OA)(c:Nat)(a1:OA)(c1:Nat)(a2:OA)(c2:Nat)(a3:OA)(c3:Nat)(r:Int×LP×LP×LI×LM):Prop where
 hq:mC tPlaced 127 46003 b a c r.2.1
 ho:mC tPlaced 127 46004 b a1 c1 r.2.2.1
 hf:iN tI64 135002 2 46005 b 32 a3 c3 r.2.2.2.2 a2 c2 r.2.2.2.1
def gN(m:Nat)(b:K)(a:OA)(c:Nat)(l:LP):Prop:=∃N,m<=N/\dX tPlaced 166 129001 N b a c l
def gM(N n:Nat)(b:K)(a:OA)(c:Nat)(l:LP):Prop:=∃N',dX tPlaced 166 129001 N' b a c l/\(0<n->0<l.length->N≠N')
structure EntO(b:K)(a:OA)(c:Nat)(a1:OA)(c1:Nat)(a2:OA)(c2:Nat)(a3:OA)(c3:Nat)(a4:OA)(c4:Nat)(a5:OA)(c5:Nat)(a6:OA)(c6:Nat)(a7:OA)(c7:Nat)(r:BS×(TS×LP×Int)×LP×(Int×LP×LP×LI×LM)):Prop where
 ex:∃N,SysN b a c a1 c1 a2 c2 r.2.1 N/\gM N r.2.1.2.1.length b a3 c3 r.2.2.1
 pr:gL b a4 c4 a5 c5 a6 c6 a7 c7 r.2.2.2
section
variable {M:List Nat} {b b':K} {a a1 a2 a3 a4 a5 a6 a7:Option Addr} {c c1 c2 c3 c4 c5 c6 c7 N n m:Nat} {r:((List ((List UInt8)×Int))×(List ((List UInt8)×(List Int))))×(List ((Int×Int)×Int))×Int} {pq:Int×(List ((Int×Int)×Int))×(List ((Int×Int)×Int))×(List Int)×(List (List Int))} {l:List ((Int×Int)×Int)} {nm:List UInt8} {x:(List UInt8)×(((List ((List UInt8)×Int))×(List ((List UInt8)×(List Int))))×(List ((Int×Int)×Int))×Int)×(List ((Int×Int)×Int))×(Int×(List ((Int×Int)×Int))×(List ((Int×Int)×Int))×(List Int)×(List (List Int)))}
def SysO.nil{n}:SysO b none 0 none 0 none 0 (([],[]),([],n)):=⟨0,⟨0,gO.nil⟩,⟨0,iO.nil⟩,dX.nil⟩
def SysN.step(s:Step M b b')(h:SysN b a c a1 c1 a2 c2 r N):SysN b' a c a1 c1 a2 c2 r N:=⟨h.og.elim λ_ h=>F6,h.ot.elim λ_ h=>F6,h.op.step s⟩
def SysO.step(s:Step M b b')(h:SysO b a c a1 c1 a2 c2 r):SysO b' a c a1 c1 a2 c2 r:=h.elim λ_ h=>F6
def SysN.g(h:SysN b a c a1 c1 a2 c2 r N):Sl tGlue b a c r.1.1:=h.og.elim λ_ h=>h.1
def SysN.t(h:SysN b a c a1 c1 a2 c2 r N):Sl tTile b a1 c1 r.1.2:=h.ot.elim λ_ h=>h.sl
def SysO.g(h:SysO b a c a1 c1 a2 c2 r):Sl tGlue b a c r.1.1:=h.elim λ_ h=>h.g
def SysO.t(h:SysO b a c a1 c1 a2 c2 r):Sl tTile b a1 c1 r.1.2:=h.elim λ_ h=>h.t
def SysO.p(h:SysO b a c a1 c1 a2 c2 r):Sl tPlaced b a2 c2 r.2.1:=h.elim λ_ h=>h.op.sl
def gL.nil{n}:gL b none 0 none 0 none 0 none 0 (n,[],[],[],[]):=⟨⟨0,gO.nil⟩,⟨0,gO.nil⟩,iN.nil⟩
def gL.step(s:Step M b b')(h:gL b a c a1 c1 a2 c2 a3 c3 pq):gL b' a c a1 c1 a2 c2 a3 c3 pq:=⟨h.hq.step s,h.ho.step s,h.hf.step s⟩
def gN.sl(h:gN m b a c l):Sl tPlaced b a c l:=h.elim λ_ h=>h.2.sl
def gN.step(s:Step M b b')(h:gN m b a c l):gN m b' a c l:=h.elim λ_ h=>⟨_,h.1,h.2.step s⟩
def gN.nil:gN m b none 0 []:=⟨m,gd _,dX.nil⟩
def gN.le{m'}(h:gN m b a c l)(hm:m'<=m):gN m' b a c l:=h.elim λ_ h=>⟨_,gg hm h.1,h.2⟩
def gM.step(s:Step M b b')(h:gM N n b a c l):gM N n b' a c l:=h.elim λ_ h=>⟨_,h.1.step s,h.2⟩
def gM.nil:gM N n b none 0 []:=⟨0,dX.nil,λ_ h=>x4 h (Ϸ 0)⟩
def SysN.sd(h:SysN b a c a1 c1 a2 c2 r N)(g:gN b.H.size b' a3 c3 l):gM N r.2.1.length b' a3 c3 l:=g.elim λ_ g=>⟨_,g.2,λh0 _=>Em (gi (h.op.lt h0) g.1)⟩
def SysN.ent(h:SysN b a c a1 c1 a2 c2 r N)(e:gM N r.2.1.length b a3 c3 l)(q:gL b a4 c4 a5 c5 a6 c6 a7 c7 pq):EntO b a c a1 c1 a2 c2 a3 c3 a4 c4 a5 c5 a6 c6 a7 c7 (nm,r,l,pq):=⟨⟨_,h,e⟩,q⟩
def EntO.nil{n n'}:EntO b none 0 none 0 none 0 none 0 none 0 none 0 none 0 none 0 (nm,(([],[]),([],n)),[],(n',[],[],[],[])):=⟨SysO.nil.elim λ_ h=>⟨_,h,gM.nil⟩,gL.nil⟩
variable (h:EntO b a c a1 c1 a2 c2 a3 c3 a4 c4 a5 c5 a6 c6 a7 c7 x)
include h
theorem EntO.step(s:Step M b b'):EntO b' a c a1 c1 a2 c2 a3 c3 a4 c4 a5 c5 a6 c6 a7 c7 x:=⟨h.ex.elim λ_ h=>⟨_,h.1.step s,h.2.step s⟩,h.pr.step s⟩
theorem EntO.g:Sl tGlue b a c x.2.1.1.1:=h.ex.elim λ_ h=>h.1.g
theorem EntO.t:Sl tTile b a1 c1 x.2.1.1.2:=h.ex.elim λ_ h=>h.1.t
theorem EntO.p:Sl tPlaced b a2 c2 x.2.1.2.1:=h.ex.elim λ_ h=>h.1.op.sl
theorem EntO.e:Sl tPlaced b a3 c3 x.2.2.1:=h.ex.elim λ_ h=>h.2.elim λ_ h=>h.1.sl
theorem EntO.q:Sl tPlaced b a4 c4 x.2.2.2.2.1:=h.pr.hq.elim λ_ h=>h.1
theorem EntO.o:Sl tPlaced b a5 c5 x.2.2.2.2.2.1:=h.pr.ho.elim λ_ h=>h.1
theorem EntO.pa:Sl tI64 b a6 c6 x.2.2.2.2.2.2.1:=h.pr.hf.pa
theorem EntO.fl:Sl (aW tI64) b a7 c7 x.2.2.2.2.2.2.2:=h.pr.hf.sl
end
instance{b b':K}{N n:Nat}{a:OA}{c:Nat}{l:LP}:bM b b' (gM N n b a c l) (gM N n b' a c l):=⟨λs h=>h.step s⟩
instance{b b':K}{a:OA}{c:Nat}{a1:OA}{c1:Nat}{a2:OA}{c2:Nat}{r:TS×LP×Int}{N:Nat}:bM b b' (SysN b a c a1 c1 a2 c2 r N) (SysN b' a c a1 c1 a2 c2 r N):=⟨λs h=>h.step s⟩
instance{b b':K}{a:OA}{c:Nat}{a1:OA}{c1:Nat}{a2:OA}{c2:Nat}{r:TS×LP×Int}:bM b b' (SysO b a c a1 c1 a2 c2 r) (SysO b' a c a1 c1 a2 c2 r):=⟨λs h=>h.step s⟩
instance{b b':K}{a:OA}{c:Nat}{a1:OA}{c1:Nat}{a2:OA}{c2:Nat}{a3:OA}{c3:Nat}{a4:OA}{c4:Nat}{a5:OA}{c5:Nat}{a6:OA}{c6:Nat}{a7:OA}{c7:Nat}{r:BS×(TS×LP×Int)×LP×(Int×LP×LP×LI×LM)}:bM b b' (EntO b a c a1 c1 a2 c2 a3 c3 a4 c4 a5 c5 a6 c6 a7 c7 r) (EntO b' a c a1 c1 a2 c2 a3 c3 a4 c4 a5 c5 a6 c6 a7 c7 r):=⟨λs h=>h.step s⟩
instance{f f':K}{g:Type}{t:Ty g}{S N:Nat}{eS e:TypeId}{i:aN}{a b:OA}{c d:Nat}{L:List (List g)}{l:List g}{H:List (Hd×Nat)}:bM f f' (fA t S eS i f e a c L b d l H N) (fA t S eS i f' e a c L b d l H N):=⟨λs h=>h.step0 s⟩
instance{b b':K}{g d:Type}{tb:Ty d}{t:Ty g}{S:Nat}{eS e:TypeId}{f:aN}{a:OA}{c:Nat}{L:List (d×List g)}:bM b b' (cX tb t S eS f b e a c L) (cX tb t S eS f b' e a c L):=⟨λs h=>h.step0 s⟩
instance{b b':K}{g d:Type}{tb:Ty d}{t:Ty g}{S:Nat}{eS e:TypeId}{f:aN}{a:OA}{c:Nat}{L:List (d×List g)}{H:List (Hd×Nat)}:bM b b' (cN tb t S eS f b e a c L H) (cN tb t S eS f b' e a c L H):=⟨λs h=>h.step0 s⟩
instance{a a':K}{v:Value}{e:Er}:bM a a' (cu a v e) (cu a' v e):=⟨λs h=>h.step s⟩
end Go.Lf
namespace Go.Lf
open Go
abbrev PT:=(Int×Int)×Int
def BR(a b:Int):qi a b=some (if a<b then -1 else if b<a then 1 else 0):=by
 unfold qi uv;simp only[gy,Ϟ,av,aq,ϟ];by_cases h:a<b
 ·simp[h]
 by_cases h2:b<a
 ·simp[h,h2]
 simp[h,h2]
def Iv(u v:Int):uR [u,v]=some (if u=0 then v else u):=by
 unfold uR;have w1:aB 1=1:=by decide
 have w2:aB 2=2:=by decide
 by_cases hu:u=0
 ·have e0:jz [u,v] 0=some (.inl 1):=by unfold jz idx;simp[hu,w1]
  rw[zp e0];by_cases hv:v=0
  ·have e1:jz [u,v] 1=some (.inl 2):=by unfold jz idx;simp[hv,w2]
   have e2:jz [u,v] 2=some (.inr<|.inl ()):=by unfold jz idx;simp
   rw[zp e1,zq e2];simp[MW,hu,hv]
  have e1:jz [u,v] 1=some (.inr<|.inr v):=by unfold jz idx;simp[hv]
  rw[zq e1];simp[hu]
 have e0:jz [u,v] 0=some (.inr<|.inr u):=by unfold jz idx;simp[hu]
 rw[zq e0];simp[hu]
def NE(x y:Int×Int):kD x y=some (dM x y):=by
 unfold kD;rw[BR,BR];simp only[gy,Iv];congr 1;unfold dM
 repeat' split
 all_goals first | rfl | omega
def Uq x y:Ey x y=some (gU x y):=by
 unfold Ey;rw[NE];rfl
def NG(l:List PT)(h:l.length<=1048576):tP l=some l:=by
 unfold tP sD aX;simp;omega
end Go.Lf
namespace Go.Proofs
open Go.Shelf
def Tryz.sort208_ren:Go.Shelf.Ren:=⟨λ| 6=>130|15=>177|14=>176|28=>227|29=>228|20=>219|21=>220|22=>221|23=>222|24=>223|25=>224|26=>225|27=>226|46=>252|47=>253|48=>254|49=>255|50=>256|57=>276|n=>n,λ| 22=>26|24=>166|25=>198|3=>3|39=>273|0=>0|53=>322|55=>324|4=>4|46=>315|45=>314|50=>319|5=>5|9=>9|66=>350|70=>354|76=>380|77=>381|n=>n,λ| n=>n⟩
def Tryz.sort208:Go.Proofs.SlLaysF0.n6 Tryz.prog Tryz.sort208_ren:=Lf.C6
def Tryz.sort248_ren:Go.Shelf.Ren:=⟨λ| 6=>362|15=>177|14=>368|28=>227|29=>228|20=>369|21=>370|22=>371|23=>372|24=>373|25=>374|26=>375|27=>376|46=>377|47=>253|48=>254|49=>378|50=>379|57=>380|n=>n,λ| 22=>253|24=>116|25=>197|3=>3|39=>273|0=>0|53=>322|55=>324|4=>4|46=>315|45=>314|50=>319|5=>5|9=>9|66=>350|70=>354|76=>380|77=>381|n=>n,λ| n=>n⟩
def Tryz.sort248:Go.Proofs.SlLaysF0.n6 Tryz.prog Tryz.sort248_ren:=Lf.C6
def Tryz.lays212_ren:Go.Shelf.Ren:=⟨λ| 212=>293|263=>295|264=>296|n=>n,λ| 46=>273|51=>322|146=>402|53=>324|148=>407|n=>n,λ| n=>n⟩
def Tryz.lays212:Go.Proofs.Lays.n212 Tryz.prog Tryz.lays212_ren:=Lf.C6
def Tryz.lays112_ren:Go.Shelf.Ren:=⟨λ| 112=>287|n=>n,λ| 28=>325|3=>3|4=>4|0=>0|n=>n,λ| n=>n⟩
def Tryz.lays112:Go.Proofs.Lays.n112 Tryz.prog Tryz.lays112_ren:=Lf.C6
def Tryz.laysM173_ren:Go.Shelf.Ren:=⟨λ| 173=>208|246=>242|283=>263|284=>264|285=>265|286=>266|129=>228|317=>278|318=>279|319=>280|320=>281|337=>291|338=>292|n=>n,λ| 2=>2|3=>3|9=>9|4=>4|171=>362|0=>0|53=>324|37=>75|5=>5|173=>364|212=>389|51=>322|20=>20|213=>390|46=>273|232=>404|233=>405|n=>n,λ| 17=>5|18=>6|19=>7|n=>n⟩
def Tryz.laysM173:Go.Proofs.LaysM.n173 Tryz.prog Tryz.laysM173_ren:=Lf.C6
def Tryz.lays137_ren:Go.Shelf.Ren:=⟨λ| 137=>94|217=>136|266=>181|n=>n,λ| 9=>9|5=>5|3=>3|n=>n,λ| n=>n⟩
def Tryz.lays137:Go.Proofs.Lays.n137 Tryz.prog Tryz.lays137_ren:=Lf.C6
def Tryz.lays219_ren:Go.Shelf.Ren:=⟨λ| 219=>275|217=>136|225=>288|224=>289|267=>290|266=>181|314=>294|n=>n,λ| 9=>9|3=>3|4=>4|5=>5|46=>273|146=>402|51=>322|n=>n,λ| 1=>2|n=>n⟩
def Tryz.lays219:Go.Proofs.Lays.n219 Tryz.prog Tryz.lays219_ren:=Lf.C6
def Tryz.laysC174_ren:Go.Shelf.Ren:=⟨λ| 174=>167|247=>206|245=>207|287=>237|279=>238|280=>239|281=>240|282=>241|321=>258|322=>259|316=>260|171=>262|205=>261|243=>277|246=>242|283=>263|284=>264|285=>265|286=>266|129=>228|317=>278|318=>279|319=>280|320=>281|337=>291|338=>292|n=>n,λ| 9=>9|3=>3|2=>2|75=>58|85=>263|4=>4|167=>332|5=>5|53=>324|175=>333|46=>273|168=>335|37=>75|0=>0|210=>360|21=>21|127=>383|145=>386|143=>384|171=>362|173=>364|212=>389|51=>322|20=>20|213=>390|232=>404|233=>405|80=>409|n=>n,λ| 15=>3|16=>4|17=>5|18=>6|19=>7|n=>n⟩
def Tryz.laysC174:Go.Proofs.LaysC.n174 Tryz.prog Tryz.laysC174_ren:=Lf.C6
def Tryz.lays229_ren:Go.Shelf.Ren:=⟨λ| 229=>85|n=>n,λ| 9=>9|40=>133|31=>43|152=>191|3=>3|0=>0|4=>4|21=>21|154=>193|n=>n,λ| n=>n⟩
def Tryz.lays229:Go.Proofs.Lays.n229 Tryz.prog Tryz.lays229_ren:=Lf.C6
end Go.Proofs
namespace Go.Lf
open Go Go.Proofs Go.Sort
def vV(x:PT):List Value:=[iv x.1.1,iv x.1.2,iv x.2]
def vU(x:Int×Int):List Value:=[iv x.1,iv x.2]
def Vd:EncOk tPlaced 3 vV (λx=>(aA x.1.1/\aA x.1.2)/\aA x.2) where
  size:=rfl
  pos:=by decide
  len:=λ_=>rfl
  one:=λx v hv=>by simp[vV]at hv;rcases hv with rfl | rfl | rfl<;>rfl
  own:=λa cs x=>by
    constructor
    · rintro⟨_,_,rfl,⟨_,_,rfl,⟨rfl,h1⟩,⟨rfl,h2⟩⟩,⟨rfl,h3⟩⟩;exact⟨rfl,⟨h1,h2⟩,h3⟩
    · rintro⟨rfl,⟨h1,h2⟩,h3⟩;exact⟨_,_,rfl,C3 h1 h2,υ h3⟩
def Vc:EncOk cG 2 vU (λx=>aA x.1/\aA x.2) where
  size:=rfl
  pos:=by decide
  len:=λ_=>rfl
  one:=λx v hv=>by simp[vU]at hv;rcases hv with rfl | rfl<;>rfl
  own:=λa cs x=>by
    constructor
    · rintro⟨_,_,rfl,⟨rfl,h1⟩,⟨rfl,h2⟩⟩;exact⟨rfl,h1,h2⟩
    · rintro⟨rfl,h1,h2⟩;exact⟨_,_,rfl,υ h1,υ h2⟩
def vx a b:ltOf gU a b=(a.1.2<b.1.2\/(a.1.2=b.1.2/\a.1.1<b.1.1):Ϛ):=by
 unfold ltOf gU;congr 1;apply propext
 repeat' split
 all_goals (constructor<;>intro h<;>omega)
def vz(a b:Int×Int):ltOf dM a b=(a.2<b.2\/(a.2=b.2/\a.1<b.1):Ϛ):=by
 unfold ltOf dM;congr 1;apply propext
 repeat' split
 all_goals (constructor<;>intro h<;>omega)
def vO:SWO (ltOf gU) where
  irrefl x:=by rw[vx];simp
  trans x y z h1 h2:=by rw[vx]at *;simp only[ϛ]at *;omega
  ntrans x y z h1 h2:=by rw[vx]at *;simp only[Ϝ]at *;omega
def jQ:SWO (ltOf dM) where
  irrefl x:=by rw[vz];simp
  trans x y z h1 h2:=by rw[vz]at *;simp only[ϛ]at *;omega
  ntrans x y z h1 h2:=by rw[vz]at *;simp only[Ϝ]at *;omega
def Zc{a p0 p1 r}(hr:us p0 p1=some r):
 Fn Tryz.prog 293 #[.int .u64 p0,.int .u64 p1] a (λv a'=>a=a'/\v=.tuple #[.int .u64 r.1,.int .u64 r.2]):=by
 unfold us at hr;split at hr
 ·rename_i h;obtain rfl:=sj hr;obtain⟨x,rfl⟩:=ba h.1;obtain⟨y,rfl⟩:=ba h.2.2.1;refine Fn.same (λw=>Any.bits_Mul Tryz.lays212 x y om om w) ⟨rfl,?_⟩;simp
 cases hr
def Xa{p0:LI}{a a1 c2 b0}(f3:Gr tI64 false b0 a 3 a1 c2 p0){r:LI}(hr:EE p0=some r):
 Fn Tryz.prog 287 #[sl a1 p0.length c2] a (λv a'=>Step (aD a1 c2) a a'/\v=.tuple #[]/\Gr tI64 false b0 a' 3 a1 c2 r/\r.length=p0.length):=by
 have hr':p0.reverse=r:=sj hr;subst hr';have hI:∀x∈p0.reverse,aA x:=by
   intro x hx;rcases f3.body with⟨_,h1⟩ |⟨g,cur,xs,ha,hrp,_⟩
   · subst h1;cases hx
   · exact(Gu hrp).2 x (϶ hx)
 refine Fn.row_int f3 si hI (λw g ha hH=>?_) (λh0 w=>?_)
 ·subst ha;exact Any.slices_Reverse_int Tryz.lays112 g 0 c2 p0 w hH<|Ci f3.most
 subst h0;exact Any.slices_Reverse_int_empty Tryz.lays112 a1 c2 w
def QR(hc:∀inst b x y,@Fn inst Tryz.prog 131 #[.agg (vV x).toArray,.agg (vV y).toArray] b (λv b'=>Step [] b b'/\v=iv (gU x y))){l:List PT}{b d a c}(hg:Gr tPlaced false d b 166 a c l)(hlen:l.length<=1048576):
    Fn Tryz.prog 130 #[sl a l.length c,.func (.func 131) #[] #[]] b (λv b'=>Step (aD a c) b b'/\v=.tuple #[]/\Gr tPlaced false d b' 166 a c (pdq (ltOf gU) l.toArray 0 l.length (Lib.bitLen l.length) true true).toList):=Ph Tryz.sort208 Vd (λw=>qL (P:=Tryz.prog) (T:=166) kr w) (λw=>fY (P:=Tryz.prog) (T:=166) kr w) vO (enters_of Tryz.func131 kr rfl) hc hg om
def QQ(hc:∀inst b x y,@Fn inst Tryz.prog 132 #[.agg (vU x).toArray,.agg (vU y).toArray] b (λv b'=>Step [] b b'/\v=iv (dM x y))){l:List (Int×Int)}{b d a c}(hg:Gr cG false d b 116 a c l)(hlen:l.length<=1048576):
    Fn Tryz.prog 362 #[sl a l.length c,.func (.func 132) #[] #[]] b (λv b'=>Step (aD a c) b b'/\v=.tuple #[]/\Gr cG false d b' 116 a c (pdq (ltOf dM) l.toArray 0 l.length (Lib.bitLen l.length) true true).toList):=Ph Tryz.sort248 Vc (λw=>qL (P:=Tryz.prog) (T:=116) kr w) (λw=>fY (P:=Tryz.prog) (T:=116) kr w) jQ (enters_of Tryz.func132 kr rfl) hc hg om
end Go.Lf
namespace Go.Lf
open Go Go.Proofs
def hsz(H:Array Obj)(b:Nat):Nat:=match H[b]? with | some (.cells c _ _)=>c.size | _=>0
def Fn.belowT(c:aN){args:Array Value}{a:K}{R:Value->K->Prop}{P f}(h:∀C d,Calls P f args (W C a d) λe w'=>∃v,e=.returned v/\Go.RowKit.Below a.H.size (W C a d) w'/\∀a',a'.H=w'.heap->Step [] a a'->(∀b,a.H.size<=b->a'.fr b=hsz w'.heap b/\a'.tag b=c)->R v a'):Fn P f args a R:=by
 intro C d;refine(h C d).mono ?_;rintro e w' ⟨v,he,hb,hR⟩;refine⟨v,⟨w'.heap,λb=>if b<a.H.size then a.fr b else hsz w'.heap b,λb=>if b<a.H.size then a.tag b else c⟩,w'.drawn,he,?_,hR _ rfl ?_ λb hb=>⟨ϙ om,ϙ om⟩⟩
 ·have h1:=hb.os;have h2:=hb.tape;have h3:=hb.output;cases w'
  simp only[W]at h1 h2 h3 ⊢;subst h1;subst h2;subst h3;have h0:C.base=0:=ga C.hb;rw[h0,gv]
 have hH:∀b,b<a.H.size->w'.heap[b]?=a.H[b]?:=λb hlt=>hb.block b hlt;refine⟨hb.size,λb hlt _=>⟨hH b hlt,Ϙ hlt,Ϙ hlt⟩,λb hlt=>⟨Nat.le_of_eq (Ϙ hlt).symm,λo _=>?_⟩,λb hlt _=>⟨Ϙ hlt,?_⟩⟩
 ·unfold K.cell;rw[hH b hlt]
 unfold K.shp;rw[hH b hlt]
def Fn.below{args:Array Value}{c:K}{R:Value->K->Prop}{P f}(h:∀C d,Calls P f args (W C c d) λe w'=>∃v,e=.returned v/\Go.RowKit.Below c.H.size (W C c d) w'/\∀c',c'.H=w'.heap->Step [] c c'->R v c'):Fn P f args c R:=Fn.belowT (0,0) λC d=>(h C d).mono λ_ _ ⟨v,h1,h2,h3⟩=>⟨v,h1,h2,λc' a b _=>h3 c' a b⟩
def Glob.tab{a}(G:Glob a)(C:Cx)d:Lib.TabIs Tryz.prog (W C a d) "internal/strconv.uint64pow10" .u64 Lib.pow10Tab:=by
 have hg:Tryz.prog.globalNamed "internal/strconv.uint64pow10" = some 5:=kr;obtain⟨_,e,k,h4⟩:=G.psz;unfold Lib.TabIs World.var?;rw[hg];simp only[gy];unfold K.shp at h4;show(match a.H[5]? with | some (.cells cs _ _)=>some cs | _=>none)=_;split at h4
 ·rename_i c T kk hH;rw[hH];injection h4 with h4
  injection h4 with _ h4
  injection h4 with h4 _
  show some c=_;congr 1;have hp:(Lib.pow10Tab.map λz=>Value.int .u64 z)=pow10s.map (Value.int .u64):=by rfl
  rw[hp];apply E7;intro i;by_cases hi:i<(pow10s.map (Value.int .u64)).length
  ·have:=G.pow.2.2 i _ (cn hi);unfold K.cell at this;rw[hH]at this;simp only[gv]at this;rw[this,List.getElem?_toArray,cn hi]
  rw[ϩ (by rw[h4];rw[dy]at hi;omega),ϩ (by rw[fq];omega)]
 cases h4
def WR{a p0 p1}(hb1:aA p0)(hb2:aA p1)(G0:Glob a){r:BS}(hr:yt p0 p1=some r):
 Fn Tryz.prog 208 #[iv p0,iv p1] a (λv a'=>Step [] a a'/\v=strV r/\r.length<=9223372036854775807):=by
 unfold yt at hr;split at hr
 ·rename_i h;subst h;obtain rfl:=sj hr;refine Fn.below λC d=>(Any.strconv_FormatInt_10 Tryz.laysM173 p0 hb1.1 hb1.2 (W C a d)<|G0.tab C d).mono ?_;rintro e w' ⟨he,k,os,rfl⟩;refine⟨_,he,⟨rfl,rfl,rfl,by show a.H.size<=(a.H++os).size;rw[Array.size_append];omega,λb hb=>?_⟩,λa' _ s=>⟨s,rfl,?_⟩⟩
  ·show(a.H++os)[b]?=a.H[b]?;rw[Array.getElem?_append_left hb]
  have:=Lib.itoa_length_le p0 hb1.1 hb1.2;omega
 cases hr
def FE:∀(l:List UInt8)c,Go.Lib.indexByte l c<l.length
 |[],_=>by unfold Go.Lib.indexByte;simp
 | b::l,c=>by
  have:=FE l c;unfold Go.Lib.indexByte;simp only[du];split
  ·omega
  ·split<;>omega
def WQ{p0:List UInt8}{a p1}(hb1:p0.length<=9223372036854775807)(hb2:0<=p1/\p1<=255){r}(hr:strings_IndexByte p0 p1=some r):
  Fn Tryz.prog 94 #[strV p0,.int .u8 p1] a (λv a'=>a=a'/\v=.int .i64 r/\aA r):=by
 obtain rfl:=A5 hr;refine Fn.same (λw=>Any.strings_IndexByte Tryz.lays137 ⟨p0.toArray⟩ p1 w) ⟨rfl,rfl,?_⟩;have h1:=Go.Lib.indexByte_ge p0 p1.toNat.toUInt8;have h2:=FE p0 p1.toNat.toUInt8;unfold aA;omega
def Xi{p0:List UInt8}{p1:List UInt8}{a}(hb1:p0.length<=9223372036854775807)(hb2:p1.length<=9223372036854775807){r}(hr:Ek p0 p1=some r):
  Fn Tryz.prog 275 #[strV p0,strV p1] a (λv a'=>a=a'/\v=.int .i64 r/\aA r):=by
 match p1,hr with
 |[c],hr=>
  obtain rfl:=A5 hr;refine Fn.same (λw=>Any.stringslite_Index_one Tryz.lays219 ⟨p0.toArray⟩ c w) ⟨rfl,rfl,?_⟩;have h1:=Go.Lib.indexByte_ge p0 c;have h2:=FE p0 c;unfold aA;omega
def Xt{p0:List UInt8}{a p1 p2}(hb1:p0.length<=9223372036854775807)(hb2:aA p1)(hb3:aA p2)(G0:Glob a){r}(hr:yJ p0 p1 p2=some r):
  Fn Tryz.prog 167 #[strV p0,.int .i64 p1,.int .i64 p2] a (λv a'=>Step [] a a'/\∃v5,v=.tuple #[.int .i64 r.1,v5]/\aA r.1/\cu a' v5 r.2):=by
 unfold yJ at hr;split at hr
 ·rename_i h;obtain⟨rfl,rfl,hlen⟩:=h;have hsz:(⟨p0.toArray⟩:ByteArray).size<=281474976710656:=by show p0.toArray.size<=_;rw[fq];exact hlen
  have hcell:∀g x,PubAt a g 0 [x]->∀C d,(W C a d).cell? ⟨g,0,none⟩=some x:=by
   intro g x hp C d;have h1:=hp.2.2 0 x rfl;unfold K.cell at h1;unfold World.cell?;show(match a.H[g]? with | some (.cells c _ _)=>(if(none:Option _).isSome then none else c[0]?) | _=>none)=some x;split at h1
   ·rename_i hH;rw[hH];exact h1
   ·cases h1
  cases hp:Lib.parseIntB 64 p0 with
  | ok v=>
   rw[hp]at hr;obtain rfl:=A5 hr;refine Fn.below λC d=>(Any.strconv_ParseInt_10_at64_ok Tryz.laysC174 ⟨p0.toArray⟩ om v hp<|W C a d).mono ?_;rintro e w' ⟨he,hw⟩;have hb:Go.RowKit.Below a.H.size (W C a d) w':=by
    rcases hw with rfl |⟨t,rfl⟩
    ·exact RowKit.Below.refl _ _
    ·exact Lib.bytesWorld_below (W C a d) _ _
   have hbd:=Lib.parseIntB_bounds hp;exact⟨_,he,hb,λa' _ s=>⟨s,_,rfl,by unfold aA;simp at hbd;omega,cu.nil⟩⟩
  | range=>
   rw[hp]at hr;obtain rfl:=A5 hr;obtain⟨t,p,hs⟩:=G0.rng;refine Fn.below λC d=>(Any.strconv_ParseInt_10_at64_range Tryz.laysC174 ⟨p0.toArray⟩ hsz hp _ (W C a d) (hcell _ _ hs C d)<|.inr ⟨_,_,rfl⟩).mono ?_;rintro e w' ⟨N,he,_,_,hb⟩;refine⟨_,he,hb,λa' _ s=>⟨s,_,rfl,?_,⟨_,_,rfl⟩⟩⟩;show aA<|Lib.intSat 64 p0;unfold Lib.intSat aA;split<;>simp
  | _=>
   rw[hp]at hr;obtain rfl:=A5 hr;obtain⟨t,p,hs⟩:=G0.syn;refine Fn.below λC d=>(Any.strconv_ParseInt_10_at64_syntax Tryz.laysC174 ⟨p0.toArray⟩ hsz hp _ (W C a d) (hcell _ _ hs C d)<|.inr ⟨_,_,rfl⟩).mono ?_;rintro e w' ⟨N,he,_,_,hb⟩;exact⟨_,he,hb,λa' _ s=>⟨s,_,rfl,E5,⟨_,_,rfl⟩⟩⟩
 ·cases hr
def Tp n b0 b1 b2 b3:(Lib.decodeN n b0 b1 b2 b3).1=32->b0=32/\(Lib.decodeN n b0 b1 b2 b3).2=1:=by
 unfold Lib.decodeN
 repeat' split
 all_goals (dsimp only;intro h;first | exact⟨h,rfl⟩ |(exfalso;omega))
def Tn n b0 b1 b2 b3:(Lib.decodeN n b0 b1 b2 b3).1≠32->b0≠32/\(1<(Lib.decodeN n b0 b1 b2 b3).2->b1≠32)/\(2<(Lib.decodeN n b0 b1 b2 b3).2->b2≠32)/\(3<(Lib.decodeN n b0 b1 b2 b3).2->b3≠32)/\(Lib.decodeN n b0 b1 b2 b3).2<=4:=by
 unfold Lib.decodeN
 repeat' split
 all_goals (dsimp only;intro h;refine⟨by omega,λ_=>by omega,λ_=>by omega,λ_=>by omega,by omega⟩)
def Ni:∀bs rest cur,(∀b∈bs,b≠32)->zA (bs++rest) cur=zA rest (cur++bs)
 |[],rest,cur,_=>by simp
 | b::bs,rest,cur,h=>by
  rw[ϰ,zA,ϙ (h b si),Ni bs rest _ (λx hx=>h x (by simp[hx]))];simp
def zzs(s:ByteArray):∀(f pos:Nat)(st:Option Nat)(acc:List (Nat×Nat)),s.size<=pos+f->pos<=s.size->(∀a,st=some a->a<pos)->
  acc.map (λp=>Lib.pieceU s.data.toList p.1 p.2)++zA (s.data.toList.drop pos) (Lib.openPiece s.data.toList st pos)=(Lib.closeSpans s (Lib.spansFromP (λx=>x == 32) s f pos st acc)).map (λp=>Lib.pieceU s.data.toList p.1 p.2):=by
 have hend:∀(f:Nat)(st:Option Nat)(acc:List (Nat×Nat)),(∀a,st=some a->a<s.size)->acc.map (λp=>Lib.pieceU s.data.toList p.1 p.2)++zA (s.data.toList.drop s.size) (Lib.openPiece s.data.toList st s.size)=(Lib.closeSpans s (acc,st)).map (λp=>Lib.pieceU s.data.toList p.1 p.2):=by
  intro f st acc hst;have hd:s.data.toList.drop s.size=[]:=List.drop_eq_nil_of_le (by rw[←Lib.size_eq];exact gd _);rw[hd];cases st with
  | none=>simp[Lib.closeSpans,Lib.openPiece,zA]
  | some a=>
   have:=Lib.pieceU_ne s.data.toList a s.size (hst a rfl) (by rw[←Lib.size_eq];exact gd _);simp[Lib.closeSpans,Lib.openPiece,zA,this]
 intro f
 induction f with
 | zero=>
  intro pos st acc h hp hst;obtain rfl:pos=s.size:=by omega
  exact hend 0 st acc hst
 | succ f ih=>
  intro pos st acc h hp hst;by_cases hlt:pos<s.size
  ·have hw:=Lib.width_pos s pos;have hwn:pos+(Utf8.decode s pos).2<=s.size:=by
    have:=Lib.decodeN_le_n' (s.size - pos) (s.get! pos).toNat (s.get! (pos+1)).toNat (s.get! (pos+2)).toNat (s.get! (pos+3)).toNat om;rw[←Lib.decode_at]at this;omega
   have hlen:s.data.toList.length=s.size:=(Lib.size_eq s).symm;have hsplit:s.data.toList.drop pos=(s.data.toList.drop pos).take (Utf8.decode s pos).2++s.data.toList.drop (pos+(Utf8.decode s pos).2):=by
    rw[←List.drop_drop,K7]
   have hd:=Lib.decode_N s pos;simp only[Lib.spansFromP,Ϙ hlt];by_cases hsp:(Utf8.decode s pos).1=32
   ·have hk:=Tp _ _ _ _ _ (hd▸hsp);rw[←hd]at hk;have hb:s.data.toList.drop pos=32::s.data.toList.drop (pos+(Utf8.decode s pos).2):=by
     have hpl:pos<s.data.toList.length:=by omega
     rw[hk.2,bi hpl];congr 1;have h1:=hk.1;rw[ϳ,cn hpl]at h1;exact UInt8.toNat_inj.1 h1
    have hbt:((Utf8.decode s pos).1 == 32)=true:=by simp[hsp]
    rw[hb,Ϙ (show(λx=>x == 32) (Utf8.decode s pos).1=true from hbt)];simp only[Ϡ,zA];cases st with
    | none=>
     have:=ih (pos+(Utf8.decode s pos).2) none acc om hwn (λa h=>by cases h);simpa[Lib.openPiece]using this
    | some a=>
     have hpn:=Lib.pieceU_ne s.data.toList a pos (hst a rfl) om;have:=ih (pos+(Utf8.decode s pos).2) none (acc++[(a,pos)]) om hwn (λa h=>by cases h);simpa[Lib.openPiece,hpn]using this
   ·have hk:=Tn _ _ _ _ _ (hd▸hsp);rw[←hd]at hk;have hbs:∀b∈(s.data.toList.drop pos).take (Utf8.decode s pos).2,b≠32:=by
     intro b hb e;subst e;obtain⟨k,hk2⟩:=cz hb;rw[dl]at hk2;split at hk2
     ·rename_i hkw;rw[cm]at hk2;have hg:(s.data.toList.getD (pos+k) 0).toNat=32:=by rw[ϳ,hk2];rfl
      have:k=0\/k=1\/k=2\/k=3:=by omega
      rcases this with rfl | rfl | rfl | rfl
      ·exact hk.1 hg
      ·exact hk.2.1 hkw hg
      ·exact hk.2.2.1 hkw hg
      ·exact hk.2.2.2.1 hkw hg
     ·cases hk2
    have hbt:((Utf8.decode s pos).1 == 32)=false:=by simp[hsp]
    rw[hsplit,Ni _ _ _ hbs,ϙ (show ¬(λx=>x == 32) (Utf8.decode s pos).1=true from by simp[hsp])];cases st with
    | none=>
     have:=ih (pos+(Utf8.decode s pos).2) (some pos) acc om hwn (λa h=>by cases h;omega);have e:([]:List UInt8)++(s.data.toList.drop pos).take (Utf8.decode s pos).2=Lib.pieceU s.data.toList pos (pos+(Utf8.decode s pos).2):=by
      unfold Lib.pieceU;rw[fi,Nat.add_sub_cancel_left]
     simp only[Lib.openPiece]at this ⊢;rw[e];exact this
    | some a=>
     have:=ih (pos+(Utf8.decode s pos).2) (some a) acc om hwn (λb h=>by cases h;have:=hst a rfl;omega);simp only[Lib.openPiece]at this ⊢;rw[Lib.pieceU_grow _ _ _ _<|ϧ<|hst a rfl];exact this
  ·obtain rfl:pos=s.size:=by omega
   rw[Lib.spansFromP_end _ s _ _ _ _ hlt];exact hend 0 st acc hst
def zyU(s:ByteArray):(Lib.goFieldsP (λx=>x == 32) s).map (·.data.toList)=zA s.data.toList []:=by
 have h:=zzs s s.size 0 none [] om (Ϧ _) (λa h=>by cases h);simp only[List.map_nil,fi,Lib.openPiece,List.drop_zero]at h;rw[h];unfold Lib.goFieldsP Lib.spansOfP;rw[List.map_map];congr 1;funext p;simp[Lib.pieceU]
def Rh[Fb]{a:K}{x:Nat}(hx:x<=1114111):Fn Tryz.prog 86 #[.int .i32 x] a (λv a'=>Step [] a a'/\v=.bool (x == 32)):=by
 refine aL 5 [] Tryz.func86 Tryz.ntmps86 λhs=>?_;refine aM ?_;refine op 2 (.bool false) ?_;refine ot ?_;refine aM ?_;refine op 3 (.int .i32 x) ?_;refine op 4 (.bool<|((x:Int)=32:Ϛ)) ?_;refine op 2 (.bool<|((x:Int)=32:Ϛ)) ?_;refine ot ?_;refine aC ?_;refine rt [.tmp 2] [.bool<|((x:Int)=32:Ϛ)] ⟨rfl,xO⟩ ?_;refine⟨hs,?_⟩;have hb:((x:Int)=32:Ϛ)=(x == 32):=by
  by_cases h:x=32
  ·subst h;rfl
  ·rw[Ϣ om];symm;exact beq_false_of_ne h
 rw[hb];rfl
def OL{κ}:∀{l:List ByteArray},(∀x∈l,x.data.toList.length<=9223372036854775807)->bA tStr κ (l.map Value.string) (l.map (·.data.toList))
 |[],_=>rfl
 | x::l,h=>⟨[.string x],_,rfl,⟨rfl,h x si⟩,OL λy hy=>h y (by simp[hy])⟩
def TT{c:Type}{t:Ty c}{a':K}{w':World}{e:TypeId}{l:List c}{base A xs}(hH:a'.H=w'.heap)(h:w'.ownsRow base e t.size (.slice (some ⟨A,0,none⟩) l.length l.length) l.length xs)(hr:bA t a' xs l)(hf:∀b,base<=b->hsz w'.heap b<=a'.fr b):
  Sl t a' (some ⟨A,0,none⟩) l.length l:=by
 obtain⟨h1,h2⟩:=h;rcases h2 with⟨h2,_⟩ |⟨g,cap,cur,h2,h3,h4,h5,h6,h7,h8⟩
 ·injection h2 with h2;cases h2
 ·injection h2 with h2 h9 h10
  injection h2 with h2
  injection h2 with h2
  subst h2;have hml:maxLen=9223372036854775807:=nR;refine⟨gd _,by omega,λ_=>⟨A,0,rfl,λi x hx=>?_⟩⟩;obtain⟨cs,ho,hcs⟩:=hr.get hx;have hil:=(cv.1 hx).1;have hle:(i+1)*t.size<=cur.size:=by rw[h7];exact gq _ om
  have hle2:(i+1)*t.size=i*t.size+t.size:=gu _ _;have hcl:=t.len ho;have hfr:=hf A h3;have hz:hsz w'.heap A=cur.size:=by unfold hsz;rw[h4]
  refine⟨cs,⟨by rw[hH];exact(ae.1 h4).1,by omega,λj v hj=>?_⟩,ho⟩;unfold K.cell;rw[hH,h4];simp only[gv];rw[←hcs,dl]at hj;split at hj
  ·rw[cm,←h8,dl]at hj;split at hj
   ·simpa using hj
   ·cases hj
  ·cases hj
def zxr{a:K}{p0:List UInt8}(hle:p0.length<=1048576):
  Fn Tryz.prog 85 #[strV p0,.func (.func 86) #[] #[]] a (λv a'=>Step [] a a'/\∃(a2:Option Addr)(c3:Nat),v=.slice a2 (zA p0 []).length c3/\Sl tStr a' a2 c3 (zA p0 [])):=by
 have eg:∀args w,(callFunc 86 args).run Tryz.prog w=.ok (.enter 86 args) w:=enters_of Tryz.func86 (by kernel_rfl) rfl;have hs:(⟨p0.toArray⟩:ByteArray).size<=4294967296:=by show p0.toArray.size<=_;rw[fq];omega
 have hfw:=zyU ⟨p0.toArray⟩;refine Fn.belowT (0,0) λC d=>?_;have hp:PredGrows Tryz.prog 86 #[] (λx=>x == 32) (W C a d):=by
  intro V x hx _;refine Calls.mono (@Rh ⟨λ_=>true,0,rfl⟩ ⟨V.heap,λ_=>0,λ_=>(0,0)⟩ x hx (@Cx.mk ⟨λ_=>true,0,rfl⟩ V.os V.tape V.output V.drawn rfl) 0) ?_;rintro e w' ⟨v,a',d',he,hw,s,hv⟩;subst hv;refine⟨he,?_⟩;subst hw;exact⟨rfl,rfl,rfl,s.1,λk hk=>(s.2.1 k hk si).1⟩
 refine(Any.strings_FieldsFunc_grows Tryz.lays229 86 #[] eg (λx=>x == 32) ⟨p0.toArray⟩ (W C a d) hs hp (by kernel_rfl) (by kernel_rfl)).mono ?_;rintro e w' ⟨A,he,hA,hrow,hb⟩;have hlen:(Lib.goFieldsP (λx=>x == 32) ⟨p0.toArray⟩).length=(zA p0 []).length:=by rw[←hfw,dy]
 refine⟨_,he,hb,λa' hH s hT=>⟨s,some ⟨A,0,none⟩,_,by rw[hlen],?_⟩⟩;rw[hlen]at hrow;refine TT hH hrow ?_ λb hb=>Nat.le_of_eq (hT b hb).1.symm;have:=OL (κ:=a') (l:=Lib.goFieldsP (λx=>x == 32) ⟨p0.toArray⟩) (λx hx=>?_)
 ·rw[hfw]at this;exact this
 ·unfold Lib.goFieldsP at hx;obtain⟨y,_,rfl⟩:=fc.1 hx;simp;omega
def jX{p0:List UInt8}{a}(hb1:p0.length<=9223372036854775807){r:(List (List UInt8))}(hr:zR p0=some r):
  Fn Tryz.prog 41 #[strV p0] a (λv a'=>Step [] a a'/\∃a2 c3,v=.slice a2 r.length c3/\Sl tStr a' a2 c3 r):=by
 unfold zR at hr;split at hr
 ·rename_i h;obtain rfl:=A5 hr;refine aL 5 [] Tryz.func41 Tryz.ntmps41 λhs=>?_;refine aM ?_;refine op 2 (.slice none 0 0) ?_;refine ot ?_;refine aM ?_;refine op 3 (strV p0) ?_;refine oC hs (zxr h) ?_;rintro a5 s6 hs _ ⟨a7,c8,rfl,f9⟩;refine op 2 (.slice a7 (zA p0 []).length c8) ?_;refine ot ?_;refine aC ?_;refine rt [.tmp 2] [.slice a7 (zA p0 []).length c8] ⟨rfl,xO⟩ ?_;exact⟨hs,a7,c8,rfl,f9⟩
 ·cases hr
end Go.Lf
namespace Go.Lf
open Go Go.Proofs Go.RowKit Go.Extern.Stop Go.Stop Go.Extern
def O' v w:(Extern.ReflectliteType.typeOf #[.iface 384 v]).run Tryz.prog w=.ok (.iface 204 (.agg #[.pointer (some ⟨8,384,none⟩)])) w:=by kernel_rfl
def MZ w:((Extern.ReflectliteType.method λt=>do Rtype.noPackHeld "Comparable" t;Functor.map (λa=>Value.bool a.comparable) (typeInfo t)) #[.agg #[.pointer (some ⟨8,384,none⟩)]]).run Tryz.prog w=.ok (.bool true) w:=by kernel_rfl
def Ls v w:(Go.method 596 204 v "Comparable").run Tryz.prog w=.ok (319,v) w:=by kernel_rfl
def IM:(Tryz.prog.info? 384).map (·.comparable)=some true:=by kernel_rfl
def IL:(Tryz.prog.info? 386).map (·.size)=some 1:=by kernel_rfl
def UM v(xT:TypeId)w:(Instr.typeAssert (.iface 83 v) xT 206 true).run Tryz.prog w=.ok (.tuple #[.nilIface,.bool false]) w:=run_typeAssert_lacksB Tryz.underlying206 (by kernel_rfl) (by kernel_rfl) v xT w
def Rp v(xT:TypeId)w:(Instr.typeAssert (.iface 83 v) xT 209 true).run Tryz.prog w=.ok (.tuple #[.nilIface,.bool false]) w:=run_typeAssert_lacksB Tryz.underlying209 (by kernel_rfl) (by kernel_rfl) v xT w
def PM v(xT:TypeId)w:(Instr.typeAssert (.iface 83 v) xT 211 true).run Tryz.prog w=.ok (.tuple #[.nilIface,.bool false]) w:=run_typeAssert_lacksB Tryz.underlying211 (by kernel_rfl) (by kernel_rfl) v xT w
def Uc(a:Addr)w:
  Calls Tryz.prog 49 #[.iface 384 (.pointer (some a)),.iface 384 (.pointer (some a))] w λe w'=>e=.returned (.bool true)/\w'=w:=by
 obtain⟨i,hi,hcmp⟩:=ia.1 IM;obtain⟨j,hj,hjs⟩:=ia.1 IL;have h8 := Q6;have h32 := R4;have tT:=O';have cT:=MZ;have mR:=Ls;have heq:=run_eql_iface_ptr_same (P:=Tryz.prog) w a Tryz.underlying58 Tryz.underlying384 hi hcmp hj
 go_enter Tryz.func49,Tryz.ntmps49
 go_wp2
 refine wp_loop_rounds 1 ?_;rw[rounds_succ]
 go_wp2
 go_ret
 exact⟨rfl,rfl⟩
def U'(b:Addr)w:
  Calls Tryz.prog 49 #[.nilIface,.iface 384 (.pointer (some b))] w λe w'=>e=.returned (.bool false)/\w'=w:=by
 have hn:=run_eql_iface_nil_left (P:=Tryz.prog) w 384 (.pointer<|some b) Tryz.underlying58
 go_enter Tryz.func49,Tryz.ntmps49
 go_wp2
 go_ret
 exact⟨rfl,rfl⟩
def Ud(a b:Addr)w:
  Calls Tryz.prog 49 #[.iface 83 (.pointer (some a)),.iface 384 (.pointer (some b))] w λe w'=>e=.returned (.bool false)/\w'=w:=by
 obtain⟨i,hi,hcmp⟩:=ia.1 IM;obtain⟨j,hj,hjs⟩:=ia.1 IL;have h8 := Q6;have h32 := R4;have tT:=O';have cT:=MZ;have mR:=Ls;have nE:=UM;have uE:=Rp;have vE:=PM;have hty:=run_eql_iface_types (P:=Tryz.prog) 83 384 (.pointer (some a)) (.pointer (some b)) Tryz.underlying58 (by decide) w
 go_enter Tryz.func49,Tryz.ntmps49
 go_wp2
 refine wp_loop_rounds 1 ?_;rw[rounds_succ]
 go_wp2
 go_ret
 exact⟨rfl,rfl⟩
def Vm t w:
  Calls Tryz.prog 98 #[.nilIface,t] w λe w'=>e=.returned (.bool false)/\w'=w:=by
 go_enter Tryz.func98,Tryz.ntmps98
 go_wp2
 go_ret
 exact⟨rfl,rfl⟩
def Qe(t:Addr)(w:World):(ReflectliteValue.unpack (.iface 157 (.pointer (some t)))).run Tryz.prog w
  = .ok (.agg #[.pointer (some ⟨8,157,none⟩),.pointer (some ⟨w.heap.size,0,none⟩),.int .u64 150]) (w.alloc (.cells #[.pointer (some t)] 157)):=by kernel_rfl
def SJ(a:Addr)w:(ReflectliteValue.methodAny (ReflectliteValue.valueError "reflectlite.Value.Type" 0) (λt _ _ _=>ReflectliteType.toType t) #[.agg #[.pointer (some ⟨8,157,none⟩),.pointer (some a),.int .u64 150]]).run Tryz.prog w
  = .ok (.iface 204 (.agg #[.pointer (some ⟨8,157,none⟩)])) w:=by kernel_rfl
def Ub w:((ReflectliteType.abiMethod λt=>Functor.map (λa:Nat=>Value.int IntKind.u8 (a:Int)) (Rtype.kind t)) #[.pointer (some ⟨8,157,none⟩)]).run Tryz.prog w=.ok (.int .u8 22) w:=by kernel_rfl
def U_ w:((ReflectliteType.abiMethod λt=>Functor.map (λa:Nat=>Value.int IntKind.u8 (a:Int)) (Rtype.kind t)) #[.pointer (some ⟨8,83,none⟩)]).run Tryz.prog w=.ok (.int .u8 22) w:=by kernel_rfl
def PP h w:(Go.method 596 204 (.agg #[h]) "Kind").run Tryz.prog w=.ok (311,h) w:=by kernel_rfl
def HL(z:Sem Value)(f:TypeId->Addr->Nat->Nat->Sem Value)v:
  ReflectliteValue.method z f #[v]=(do match ←ReflectliteValue.parts v with | none=>z | some (t,a,fl)=>f t a fl (fl % 32)):=rfl
def OQ(a:Addr)w:(ReflectliteValue.parts (.agg #[.pointer (some ⟨8,157,none⟩),.pointer (some a),.int .u64 150])).run Tryz.prog w=.ok (some (157,a,150)) w:=by kernel_rfl
def Se(a p:Addr)(W:World)(ha:W.cell? a=some (.pointer (some p))):
  (ReflectliteValue.method (ReflectliteValue.valueError "reflectlite.Value.IsNil" 0) ReflectliteValue.isNil #[.agg #[.pointer (some ⟨8,157,none⟩),.pointer (some a),.int .u64 150]]).run Tryz.prog W=.ok (.bool false) W:=by
 rw[HL];simp only[ax,OQ,Result.andThen];simp[ReflectliteValue.isNil,loadVar,isAgg,underlying,Tryz.underlying157,ha,Result.andThen]
def PQ h w:(Go.method 596 204 (.agg #[h]) "Elem").run Tryz.prog w=.ok (320,.agg #[h]) w:=by kernel_rfl
def Zb h w:(Go.method 596 204 (.agg #[h]) "Implements").run Tryz.prog w=.ok (321,.agg #[h]) w:=by kernel_rfl
def XZ h w:(Go.method 596 204 (.agg #[h]) "AssignableTo").run Tryz.prog w=.ok (318,.agg #[h]) w:=by kernel_rfl
def Uj w:(ReflectliteType.method ReflectliteType.elem #[.agg #[.pointer (some ⟨8,157,none⟩)]]).run Tryz.prog w=.ok (.iface 204 (.agg #[.pointer (some ⟨8,83,none⟩)])) w:=by kernel_rfl
def zyK w:(ReflectliteType.relation "Implements" ReflectliteType.implements_ #[.agg #[.pointer (some ⟨8,83,none⟩)],.iface 204 (.agg #[.pointer (some ⟨8,58,none⟩)])]).run Tryz.prog w=.ok (.bool true) w:=by kernel_rfl
def Rk v w:(ReflectliteType.typeOf #[.iface 83 v]).run Tryz.prog w=.ok (.iface 204 (.agg #[.pointer (some ⟨8,83,none⟩)])) w:=by kernel_rfl
def zy5 w:(ReflectliteType.relation "AssignableTo" ReflectliteType.assignableTo #[.agg #[.pointer (some ⟨8,83,none⟩)],.iface 204 (.agg #[.pointer (some ⟨8,83,none⟩)])]).run Tryz.prog w=.ok (.bool true) w:=by kernel_rfl
def Qz(e:Addr)(w:World):(ReflectliteValue.unpack (.iface 83 (.pointer (some e)))).run Tryz.prog w
  = .ok (.agg #[.pointer (some ⟨8,83,none⟩),.pointer (some ⟨w.heap.size,0,none⟩),.int .u64 150]) (w.alloc (.cells #[.pointer (some e)] 83)):=by kernel_rfl
def QX w:(Rtype.elem? 157).run Tryz.prog w=.ok (some 83) w:=by kernel_rfl
def UD(p:Addr)w:(ReflectliteValue.mk 83 p ReflectliteValue.flagAddr).run Tryz.prog w=.ok (.agg #[.pointer (some ⟨8,83,none⟩),.pointer (some p),.int .u64 406]) w:=by kernel_rfl
def Tj(a p:Addr)(W:World)(ha:W.cell? a=some (.pointer (some p))):
  (ReflectliteValue.method (ReflectliteValue.valueError "reflectlite.Value.Elem" 0) ReflectliteValue.elem #[.agg #[.pointer (some ⟨8,157,none⟩),.pointer (some a),.int .u64 150]]).run Tryz.prog W
   = .ok (.agg #[.pointer (some ⟨8,83,none⟩),.pointer (some p),.int .u64 406]) W:=by
 rw[HL];simp only[ax,OQ,Result.andThen];simp[ReflectliteValue.elem,loadVar,isAgg,underlying,Tryz.underlying157,ha,Result.andThen,QX,UD]
def Pr v x:ReflectliteValue.set #[v,x]=(do
  let (some (dst,a,fl),some (src,b,_)):=(←ReflectliteValue.parts v,←ReflectliteValue.parts x)
   | unsupported (.noEntry "extern/(internal/reflectlite.Value).Set.zeroValue")
  if fl / ReflectliteValue.flagAddr % 2 == 0 then unsupported (.noEntry "extern/(internal/reflectlite.Value).Set.unaddressable")
  let val ←loadVar src b
  if ←Rtype.directlyAssignable dst src then storeVar dst a val
  else if ←Rtype.implements dst src then
   if(←Rtype.kind src) == 20 then
    match val with
    | .nilIface=>unsupported (.noEntry "extern/reflectlite: a nil value of one interface type handed on as a value of another")
    | _=>storeVar dst a val
   else storeVar dst a (.iface src val)
  else panicString ("reflectlite.Set: value of type " ++ (←Rtype.spelt src) ++ " is not assignable to type " ++ (←Rtype.spelt dst))
  pure (.tuple #[])):=rfl
def Sr(a:Addr)w:(ReflectliteValue.parts (.agg #[.pointer (some ⟨8,83,none⟩),.pointer (some a),.int .u64 406])).run Tryz.prog w=.ok (some (83,a,406)) w:=by kernel_rfl
def Tc(a:Addr)w:(ReflectliteValue.parts (.agg #[.pointer (some ⟨8,83,none⟩),.pointer (some a),.int .u64 150])).run Tryz.prog w=.ok (some (83,a,150)) w:=by kernel_rfl
def Tm w:(Rtype.directlyAssignable 83 83).run Tryz.prog w=.ok true w:=by kernel_rfl
def UI(ta b e:Addr)old(W:World)(hb:W.cell? b=some (.pointer (some e)))(ht:W.cell? ta=some old)(hf:W.frozen? ta=false):
  (ReflectliteValue.set #[.agg #[.pointer (some ⟨8,83,none⟩),.pointer (some ta),.int .u64 406],.agg #[.pointer (some ⟨8,83,none⟩),.pointer (some b),.int .u64 150]]).run Tryz.prog W
   = .ok (.tuple #[]) (W.setCell ta (.pointer (some e))):=by
 rw[Pr];simp only[ax,Sr,Tc,Result.andThen];simp[ReflectliteValue.flagAddr,loadVar,isAgg,underlying,Tryz.underlying83,hb,Result.andThen,Tm,storeVar,Value.cells,storeCells,Addr.add];rw[run_store Tryz.prog W ta _ _ (by rfl)];simp[ht,hf]
def CD(w:World)(t e:Addr)(V:TypeId):World:=((((w.alloc<|.cells #[.pointer<|some t] 157).alloc<|.cells #[.pointer<|some ⟨8,157,none⟩,.pointer<|some ⟨w.heap.size,0,none⟩,.int .u64 150] V).alloc<|.cells #[.pointer<|some ⟨8,157,none⟩,.pointer<|some ⟨w.heap.size,0,none⟩,.int .u64 150] V).alloc<|.cells #[.pointer<|some e] 83).setCell t (.pointer<|some e)
set_option maxHeartbeats 4000000 in
def Vn(e t:Addr)old(w:World)(hg:w.cell? ⟨1,0,none⟩=some (.iface 204 (.agg #[.pointer (some ⟨8,58,none⟩)])))(ht0:w.cell? t=some old)(hf0:w.frozen? t=false):
  Calls Tryz.prog 98 #[.iface 83 (.pointer (some e)),.iface 157 (.pointer (some t))] w λev w'=>ev=.returned (.bool true)/\w'=CD w t e 217:=by
 unfold CD;have h6 := @run_callFunc_extern Tryz.prog 138 _ (λargs=>ReflectliteValue.unpack (args.getD 0 (.tuple #[]))) Tryz.func138 (by kernel_rfl) (by kernel_rfl) (by kernel_rfl) (by kernel_rfl);have h7 := @run_callFunc_extern Tryz.prog 139 _ (ReflectliteValue.methodAny (ReflectliteValue.valueError "reflectlite.Value.Type" 0) (λt _ _ _=>ReflectliteType.toType t)) Tryz.func139 (by kernel_rfl) (by kernel_rfl) (by kernel_rfl) (by kernel_rfl);have h8 := @run_callFunc_extern Tryz.prog 140 _ (ReflectliteValue.method (ReflectliteValue.valueError "reflectlite.Value.IsNil" 0) ReflectliteValue.isNil) Tryz.func140 (by kernel_rfl) (by kernel_rfl) (by kernel_rfl) (by kernel_rfl);have h27 := @run_callFunc_extern Tryz.prog 311 _ (ReflectliteType.abiMethod λt=>do pure (.int .u8 (←Rtype.kind t))) Tryz.func311 (by kernel_rfl) (by kernel_rfl) (by kernel_rfl) (by kernel_rfl);have h37 := @run_callFunc_extern Tryz.prog 320 _ (ReflectliteType.method ReflectliteType.elem) Tryz.func320 (by kernel_rfl) (by kernel_rfl) (by kernel_rfl) (by kernel_rfl);have h38 := @run_callFunc_extern Tryz.prog 321 _ (ReflectliteType.relation "Implements" ReflectliteType.implements_) Tryz.func321 (by kernel_rfl) (by kernel_rfl) (by kernel_rfl) (by kernel_rfl);have h10 := @run_callFunc_extern Tryz.prog 96 _ ReflectliteType.typeOf Tryz.func96 (by kernel_rfl) (by kernel_rfl) (by kernel_rfl) (by kernel_rfl);have h35 := @run_callFunc_extern Tryz.prog 318 _ (ReflectliteType.relation "AssignableTo" ReflectliteType.assignableTo) Tryz.func318 (by kernel_rfl) (by kernel_rfl) (by kernel_rfl) (by kernel_rfl);have h11 := @run_callFunc_extern Tryz.prog 182 _ (ReflectliteValue.method (ReflectliteValue.valueError "reflectlite.Value.Elem" 0) ReflectliteValue.elem) Tryz.func182 (by kernel_rfl) (by kernel_rfl) (by kernel_rfl) (by kernel_rfl);have h12 := @run_callFunc_extern Tryz.prog 183 _ ReflectliteValue.set Tryz.func183 (by kernel_rfl) (by kernel_rfl) (by kernel_rfl) (by kernel_rfl);have tO:=Rk;have mA:=XZ;have a25:=zy5;have v25:=Qz;have f6:=Qe;have f7:=SJ;have mK:=PP;have mE:=PQ;have mI:=Zb;have k27:=Ub;have k25:=U_;have e27:=Uj;have i25:=zyK;have n8:=Se ⟨w.heap.size,0,none⟩ t ((w.alloc (.cells #[.pointer (some t)] 157)).alloc (.cells #[.pointer (some ⟨8,157,none⟩),.pointer (some ⟨w.heap.size,0,none⟩),.int .u64 150] 217)) si;have hlt:1<w.heap.size:=by
  rcases gj 1 w.heap.size with h | h
  ·exact h
  ·simp[World.cell?,ϩ h]at hg
 have hg2:((w.alloc (.cells #[.pointer (some t)] 157)).alloc (.cells #[.pointer (some ⟨8,157,none⟩),.pointer (some ⟨w.heap.size,0,none⟩),.int .u64 150] 217)).cell? ⟨1,0,none⟩=some (.iface 204 (.agg #[.pointer (some ⟨8,58,none⟩)])):=by
  rw[World.cell?_alloc_lt _ _ ⟨1,0,none⟩ so,World.cell?_alloc_lt _ _ ⟨1,0,none⟩ hlt];exact hg
 have htl:t.block<w.heap.size:=by
  rcases gj t.block w.heap.size with h | h
  ·exact h
  ·simp[World.cell?,ϩ h]at ht0
 have el:=Tj ⟨w.heap.size,0,none⟩ t (((w.alloc (.cells #[.pointer (some t)] 157)).alloc (.cells #[.pointer (some ⟨8,157,none⟩),.pointer (some ⟨w.heap.size,0,none⟩),.int .u64 150] 217)).alloc (.cells #[.pointer (some ⟨8,157,none⟩),.pointer (some ⟨w.heap.size,0,none⟩),.int .u64 150] 217)) (by rw[World.cell?_alloc_lt _ _ ⟨w.heap.size,0,none⟩ so];simp);have st:=UI t ⟨w.heap.size+1+1+1,0,none⟩ e old ((((w.alloc (.cells #[.pointer (some t)] 157)).alloc (.cells #[.pointer (some ⟨8,157,none⟩),.pointer (some ⟨w.heap.size,0,none⟩),.int .u64 150] 217)).alloc (.cells #[.pointer (some ⟨8,157,none⟩),.pointer (some ⟨w.heap.size,0,none⟩),.int .u64 150] 217)).alloc (.cells #[.pointer (some e)] 83))
  (by rw[World.cell?_alloc_at _ _ _ _ si];rfl)
  (by rw[World.cell?_alloc_lt _ _ t so,World.cell?_alloc_lt _ _ t so,World.cell?_alloc_lt _ _ t so,World.cell?_alloc_lt _ _ t htl];exact ht0)
  (by rw[World.frozen?_alloc_old _ _ t so,World.frozen?_alloc_old _ _ t so,World.frozen?_alloc_old _ _ t so,World.frozen?_alloc_old _ _ t (Em htl)];exact hf0)
 go_enter Tryz.func98,Tryz.ntmps98
 go_wp2
 refine wp_loop_rounds 1 ?_;rw[rounds_succ]
 go_wp2
 go_ret
 exact⟨rfl,rfl⟩
end Go.Lf
namespace Go.Lf
open Go Go.Proofs
def Ii{a:K}{b v}(h:a.cell b 0=some v)(C:Cx)d:(W C a d).cell? ⟨b,0,none⟩=some v:=by
 unfold K.cell at h;unfold World.cell?;show(match a.H[b]? with | some (.cells c _ _)=>(if(none:Option _).isSome then none else c[0]?) | _=>none)=some v;split at h
 ·rename_i hH;rw[hH];exact h
 ·cases h
def Cb(C:Cx)(a:K)d(o:Obj)(τ:aN):(W C a d).alloc o=W C (a.push o 0 τ) d:=rfl
def Y'{a}v:Fn Tryz.prog 98 #[.nilIface,v] a (λr a'=>a=a'/\r=.bool false):=Fn.same (λw=>Vm v w) ⟨rfl,rfl⟩
def zyY{a b e t old}(G0:Glob a)(B:aI b a t [old] 83):
  Fn Tryz.prog 98 #[.iface 83 (.pointer (some ⟨e,0,none⟩)),.iface 157 (.pointer (some ⟨t,0,none⟩))] a (λv a'=>Step [t] a a'/\v=.bool true/\aI b a' t [.pointer (some ⟨e,0,none⟩)] 83):=by
 intro C d;have hty:=Ii ((Globg.ety G0).2.2 0 _ rfl) C d;have ht0:=Ii (B.at.one (o:=0) rfl) C d;have hf0:(W C a d).frozen? ⟨t,0,none⟩=false:=by
  unfold World.frozen? W;have:=B.obj;simp[this]
 refine(Vn ⟨e,0,none⟩ ⟨t,0,none⟩ old (W C a d) hty ht0 hf0).mono ?_;rintro ev w' ⟨rfl,rfl⟩;unfold CD;obtain⟨a1,h1⟩:∃z,z=a.push (.cells #[.pointer<|some ⟨t,0,none⟩] 157) 0 (0,0):=u3;obtain⟨a2,h2⟩:∃z,z=a1.push (.cells #[.pointer<|some ⟨8,157,none⟩,.pointer<|some ⟨(W C a d).heap.size,0,none⟩,.int .u64 150] 217) 0 (0,0):=u3;obtain⟨a3,h3⟩:∃z,z=a2.push (.cells #[.pointer<|some ⟨8,157,none⟩,.pointer<|some ⟨(W C a d).heap.size,0,none⟩,.int .u64 150] 217) 0 (0,0):=u3;obtain⟨a4,h4⟩:∃z,z=a3.push (.cells #[.pointer<|some ⟨e,0,none⟩] 83) 0 (0,0):=u3;have s1:Step [] a a1:=h1▸fZ _ _ _ _;have s2:Step [] a1 a2:=h2▸fZ _ _ _ _;have s3:Step [] a2 a3:=h3▸fZ _ _ _ _;have s4:Step [] a3 a4:=h4▸fZ _ _ _ _;have s:Step [] a a4:=((s1.trans s2).trans s3).trans s4;have B4:=B.step0 s;rw[Cb (τ:=(0,0)),←h1,Cb (τ:=(0,0)),←h2,Cb (τ:=(0,0)),←h3,Cb (τ:=(0,0)),←h4,N_ B4];exact⟨_,_,_,rfl,rfl,(s.mono si).trans<|mi B4,rfl,lc B4⟩
def zxj{a}:Fn Tryz.prog 50 #[.nilIface] a (λv a'=>Step [] a a'/\v=.tuple #[.int .i64 0,.int .i64 0]):=by
 refine aL 16 [] Tryz.func50 Tryz.ntmps50 λhs=>?_;refine aM ?_;refine op 2 (.int .i64 0) ?_;refine op 3 (.int .i64 0) ?_;refine aH ?_;refine uw (d:=4) (T:=83) (a.H.size,50001) (gd _) [.pointer none] (by kernel_rfl) (by kernel_rfl) (by kernel_rfl) λb a1 s1 B=>?_;refine ot ?_;refine cs ?_;refine aM ?_;refine op 5 .nilIface ?_;refine op 6 (.iface 157<|.pointer<|some ⟨b,0,none⟩) ?_;refine aQ 7 (Y'<|.iface 157<|.pointer<|some ⟨b,0,none⟩) ?_;rintro _ _ ⟨rfl,rfl⟩;refine ot ?_;refine cf ?_;refine aG ?_;refine aM ?_;refine op 2 (.int .i64 0) ?_;refine op 3 (.int .i64 0) ?_;refine ot ?_;refine aC ?_;refine rt [.tmp 2,.tmp 3] [.int .i64 0,.int .i64 0] ⟨rfl,rfl,xO⟩ ?_;exact⟨s1,rfl⟩
def zwL{a e l c}(G0:Glob a)(hp:PubAt a e 0 [.int .i64 l,.int .i64 c]):
  Fn Tryz.prog 50 #[.iface 83 (.pointer (some ⟨e,0,none⟩))] a (λv a'=>Step [] a a'/\v=.tuple #[.int .i64 l,.int .i64 c]):=by
 refine aL 16 [] Tryz.func50 Tryz.ntmps50 λhs=>?_;refine aM ?_;refine op 2 (.int .i64 0) ?_;refine op 3 (.int .i64 0) ?_;refine aH ?_;refine uw (d:=4) (T:=83) (a.H.size,50001) (gd _) [.pointer none] (by kernel_rfl) (by kernel_rfl) (by kernel_rfl) λb a1 s1 B=>?_;refine ot ?_;refine cs ?_;refine aM ?_;refine op 5 (.iface 83<|.pointer<|some ⟨e,0,none⟩) ?_;refine op 6 (.iface 157<|.pointer<|some ⟨b,0,none⟩) ?_;refine aQ 7 (zyY (e:=e) (G0.step s1) B) ?_;rintro _ a2 ⟨s2,rfl,B2⟩;have hp2:=(hp.step s1).step s2;have hs2:Step [] a a2:=s1.trB B.ge s2;refine ot ?_;refine ct ?_;refine cs ?_;refine cd 9 ?_;refine dV B2.at 0 ?_;refine dp 9 (.pointer<|some ⟨e,0,none⟩) ?_;refine dp 10 (.pointer<|some ⟨e,0,none⟩) ?_;refine dV hp2.at 0 ?_;refine dV B2.at 0 ?_;refine dp 13 (.pointer<|some ⟨e,0,none⟩) ?_;refine dp 14 (.pointer<|some ⟨e,1,none⟩) ?_;refine dV hp2.at 1 ?_;refine dp 2 (.int .i64 l) ?_;refine de ?_;refine op 3 (.int .i64 c) ?_;refine ot ?_;refine aC ?_;refine zc ?_;refine rt [.tmp 2,.tmp 3] [.int .i64 l,.int .i64 c] ⟨rfl,rfl,xO⟩ ?_;exact⟨hs2,rfl⟩
def zwS{a p0 v1 p1}(f2:cu a v1 p0)(hb3:aA p1)(G0:Glob a){r}(hr:uH p0 p1=some r):
  Fn Tryz.prog 21 #[v1,.int .i64 p1] a (λv a'=>Step [] a a'/\v=.tuple #[.int .i64 r.1,.int .i64 r.2]/\aA r.1/\aA r.2):=by
 obtain⟨bw,hw⟩:=Globg.whole G0;refine aL 14 [] Tryz.func21 Tryz.ntmps21 λhs=>?_;refine aM ?_;refine op 4 (.int .i64 0) ?_;refine op 5 (.int .i64 0) ?_;refine ot ?_;refine cs ?_;refine aM ?_;refine op 6 v1 ?_;refine oV hw.at 0 ?_;have hi0:aA 0:=E5
 cases p0 with
 | nil=>
  obtain rfl:=A5 hr;have hv:v1=.nilIface:=f2;subst hv;refine aQ 8 (Fn.same (R:=λv a'=>a=a'/\v=.bool false) (λw=>U' bw w) ⟨rfl,rfl⟩) ?_;rintro _ _ ⟨rfl,rfl⟩;refine ot ?_;refine cf ?_;refine aG ?_;refine aM ?_;refine op 10 .nilIface ?_;refine aQ 11 zxj ?_;rintro _ a1 ⟨s1,rfl⟩;refine op 12 (.int .i64 0) ?_;refine op 13 (.int .i64 0) ?_;refine op 4 (.int .i64 0) ?_;refine op 5 (.int .i64 0) ?_;refine ot ?_;refine aC ?_;refine rt [.tmp 4,.tmp 5] [.int .i64 0,.int .i64 0] ⟨rfl,rfl,xO⟩ ?_;exact⟨s1,rfl,hi0,hi0⟩
 | line l c=>
  obtain rfl:=A5 hr;obtain⟨b,rfl,hp,h1,h2⟩:=f2;refine aQ 8 (Fn.same (R:=λv a'=>a=a'/\v=.bool false) (λw=>Ud ⟨b,0,none⟩ bw w) ⟨rfl,rfl⟩) ?_;rintro _ _ ⟨rfl,rfl⟩;refine ot ?_;refine cf ?_;refine aG ?_;refine aM ?_;refine op 10 (.iface 83<|.pointer<|some ⟨b,0,none⟩) ?_;refine aQ 11 (zwL G0 hp) ?_;rintro _ a1 ⟨s1,rfl⟩;refine op 12 (.int .i64 l) ?_;refine op 13 (.int .i64 c) ?_;refine op 4 (.int .i64 l) ?_;refine op 5 (.int .i64 c) ?_;refine ot ?_;refine aC ?_;refine rt [.tmp 4,.tmp 5] [.int .i64 l,.int .i64 c] ⟨rfl,rfl,xO⟩ ?_;exact⟨s1,rfl,h1,h2⟩
 | whole=>
  obtain rfl:=A5 hr;have h0:=cu.cell f2;have hw0:=hw.2.2 0 _ rfl;have hv:v1=.iface 384 (.pointer<|some bw):=by
   have hw0:a.cell 0 0=some (.iface 384<|.pointer<|some bw):=hw0;rw[h0]at hw0;injection hw0
  subst hv;refine aQ 8 (Fn.same (R:=λv a'=>a=a'/\v=.bool true) (λw=>Uc bw w) ⟨rfl,rfl⟩) ?_;rintro _ _ ⟨rfl,rfl⟩;refine ot ?_;refine ct ?_;refine aM ?_;refine op 9 (.int .i64 p1) ?_;refine op 4 (.int .i64 0) ?_;refine op 5 (.int .i64 p1) ?_;refine ot ?_;refine aC ?_;refine zc ?_;refine rt [.tmp 4,.tmp 5] [.int .i64 0,.int .i64 p1] ⟨rfl,rfl,xO⟩ ?_;exact⟨hs,rfl,hi0,hb3⟩
 | other=>cases hr
abbrev fP [Fb]:=Fn Tryz.prog
theorem lB[Fc][Fb]{Q}{S X R:Type}{F:S->Option (S ⊕ X)}{k:X->Option R}{P n c E b p s0 r}(J:S->aK->K->Prop)(h:vG (sub c p)=true)(a:(iter F s0).bind k=some r)(h0:J s0 E b)(round:∀s E b,J s E b->∀y,F s=some y->(∀x',some (Sum.inr x')=some y->k x'=some r)->aO P n (sub c (0::p)) (vh y J Q) E b):aO P n (sub c p) Q E b:=bE a λx q e=>zn F J s0 x h q h0 λs E b j y g d=>round s E b j y g λx' hx=>(d x' (sj hx).symm)▸e
abbrev PubAt.X:=@PubAt.step
abbrev At.X:=@At.step
abbrev At.Y:=@At.step0
abbrev Sl.X:=@Sl.step
abbrev aI.X:=@aI.step
abbrev aI.Y:=@aI.step0
abbrev Gr.X:=@Gr.step
abbrev Gr.Y:=@Gr.step0
abbrev eO.X:=@eO.step
abbrev Mp.X:=@Mp.step
abbrev Mp.Y:=@Mp.step0
abbrev aZ.X:=@aZ.step
abbrev cC.X:=@cC.step
abbrev bL.X:=@bL.step
abbrev bL.Y:=@bL.step0
abbrev cN.X:=@cN.step
abbrev cX.X:=@cX.step
abbrev It.X:=@It.step
abbrev dX.X:=@dX.step
abbrev fA.X:=@fA.step
abbrev ew.X:=@ew.step
abbrev cu.X:=@cu.step
abbrev Glob.X:=@Glob.step
abbrev SysN.X:=@SysN.step
abbrev SysO.X:=@SysO.step
abbrev gL.X:=@gL.step
abbrev gN.X:=@gN.step
abbrev gM.X:=@gM.step
abbrev EntO.X:=@EntO.step
end Go.Lf
