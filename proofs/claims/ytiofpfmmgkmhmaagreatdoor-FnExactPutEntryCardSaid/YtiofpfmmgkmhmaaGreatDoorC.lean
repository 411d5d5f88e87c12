import Derived.Test.YtiofpfmmgkmhmaaGreatDoorB
import Derived.Lib.Bytealg
import Derived.Lib.Join
import Derived.Sort.Defs
import Derived.Lib.ParseIntB
import Derived.Lib.ItoaNum
import Derived.Lib.BitFns
import Derived.Test.YtiofpfmmgkmhmaaGreatDoorProg
import Derived.Shelf.LaysM
import Derived.Shelf.Lays
import Derived.Shelf.Bits.Mul64
import Derived.Shelf.Slices.Reverse
import Derived.Ground.NamesProg
import Derived.Shelf.SlSortCmp.WholeK
import Derived.Shelf.SlGeneric
import Derived.Ground.SlsfProg
import Derived.Shelf.Spec.SlicesGrow
import Derived.Shelf.Strings.OnBuilder
import Derived.Shelf.Strconv.Itoa4
import Derived.Lib.ItoaLen
import Derived.KernelRfl
set_option linter.all false
set_option maxRecDepth 100000
set_option maxHeartbeats 4000000
set_option maxHeartbeats 1000000
namespace Go.Lf
open Go
noncomputable section
def Aj(p0:LI)(p1:Int):Option (Int):=if decide ((aA<|p1 - (p0.length:Int))<0)then(some (-1))else(some<|aA<|p1 - (p0.length:Int))
def AI(p0:LI×LI)(p1:Int):Option (Int):=(Aj p0.1 p1).bind λa=>if decide (a<0)then(some (-1))else((Aj p0.2 a).bind λb=>if decide (b<0)then(some (-1))else(some b))
def Gg(a:Int):Option (Int):=some a
def EG(p0:List (LI×LI))(a:Int×Int):Option ((Int×Int) ⊕ (Int ⊕ Int)):=if decide (a.2<(p0.length:Int))then((idx p0 a.2).bind λc=>(AI c a.1).bind λb=>if decide (b<0)then(some<|.inr<|.inr (-1))else(some<|.inl (b,aA (a.2+1))))else(some<|.inr<|.inl a.1)
def Nt(p0:List (LI×LI))(p1:Int):Option (Int):=if decide ((aA<|p1 - (p0.length:Int))<0)then(some (-1))else((iter (EG p0) (aA<|p1 - (p0.length:Int),0)).bind λa=>match a with | .inl z=>Gg z | .inr z=>some z)
def Ag(p0:(List (LI×LI))×Int)(p1:Int):Option (Int):=(Nt p0.1 p1).bind λa=>if decide (a<0)then(some (-1))else(some a)
def Gf(p0:LP)(p1:Int):Option (Int):=if decide ((aA<|p1 - (p0.length:Int))<0)then(some (-1))else(some<|aA<|p1 - (p0.length:Int))
def rU(p0:LP)(p1:Int):Option (Int):=(Gf p0 p1).bind λa=>if decide (a<0)then(some (-1))else(some a)
def AA(p0:BS×Int)(p1:Int):Option (Int):=if decide ((aA<|p1 - (p0.1.length:Int))<0)then(some (-1))else(some<|aA<|p1 - (p0.1.length:Int))
def FO(a:Int):Option (Int):=some a
def D_(p0:LG)(a:Int×Int):Option ((Int×Int) ⊕ (Int ⊕ Int)):=if decide (a.2<(p0.length:Int))then((idx p0 a.2).bind λc=>(AA c a.1).bind λb=>if decide (b<0)then(some<|.inr<|.inr (-1))else(some<|.inl (b,aA (a.2+1))))else(some<|.inr<|.inl a.1)
def GN(p0:LG)(p1:Int):Option (Int):=if decide ((aA<|p1 - (p0.length:Int))<0)then(some (-1))else((iter (D_ p0) (aA<|p1 - (p0.length:Int),0)).bind λa=>match a with | .inl z=>FO z | .inr z=>some z)
def mK(p0:LI)(p1:Int):Option (Int):=if decide ((aA<|p1 - (p0.length:Int))<0)then(some (-1))else(some<|aA<|p1 - (p0.length:Int))
def Aq(p0:BS×LI)(p1:Int):Option (Int):=if decide ((aA<|p1 - (p0.1.length:Int))<0)then(some (-1))else((mK p0.2<|aA<|p1 - (p0.1.length:Int)).bind λa=>if decide (a<0)then(some (-1))else(some a))
def FN(a:Int):Option (Int):=some a
def DZ(p0:LT)(a:Int×Int):Option ((Int×Int) ⊕ (Int ⊕ Int)):=if decide (a.2<(p0.length:Int))then((idx p0 a.2).bind λc=>(Aq c a.1).bind λb=>if decide (b<0)then(some<|.inr<|.inr (-1))else(some<|.inl (b,aA (a.2+1))))else(some<|.inr<|.inl a.1)
def GM(p0:LT)(p1:Int):Option (Int):=if decide ((aA<|p1 - (p0.length:Int))<0)then(some (-1))else((iter (DZ p0) (aA<|p1 - (p0.length:Int),0)).bind λa=>match a with | .inl z=>FN z | .inr z=>some z)
def Ge(p0:LG×LT)(p1:Int):Option (Int):=(GN p0.1 p1).bind λa=>if decide (a<0)then(some (-1))else((GM p0.2 a).bind λb=>if decide (b<0)then(some (-1))else(some b))
def yR(p0:TS×(LP)×Int)(p1:Int):Option (Int):=(Ge p0.1 p1).bind λa=>if decide (a<0)then(some (-1))else((rU p0.2.1 a).bind λb=>if decide (b<0)then(some (-1))else(some b))
def yo(p0:LP)(p1:Int):Option (Int):=if decide ((aA<|p1 - (p0.length:Int))<0)then(some (-1))else(some<|aA<|p1 - (p0.length:Int))
def EH(a:Int):Option (Int):=some a
def Di(p0:LM)(a:Int×Int):Option ((Int×Int) ⊕ (Int ⊕ Int)):=if decide (a.2<(p0.length:Int))then((idx p0 a.2).bind λc=>(mK c a.1).bind λb=>if decide (b<0)then(some<|.inr<|.inr (-1))else(some<|.inl (b,aA (a.2+1))))else(some<|.inr<|.inl a.1)
def Gh(p0:LM)(p1:Int):Option (Int):=if decide ((aA<|p1 - (p0.length:Int))<0)then(some (-1))else((iter (Di p0) (aA<|p1 - (p0.length:Int),0)).bind λa=>match a with | .inl z=>EH z | .inr z=>some z)
def Ah(p0:Int×LP×LP×LI×LM)(p1:Int):Option (Int):=(yo p0.2.1 p1).bind λa=>if decide (a<0)then(some (-1))else((yo p0.2.2.1 a).bind λb=>if decide (b<0)then(some (-1))else((mK p0.2.2.2.1 b).bind λc=>if decide (c<0)then(some (-1))else((Gh p0.2.2.2.2 c).bind λd=>if decide (d<0)then(some (-1))else(some d))))
def Ai(p0:BS×(TS×(LP)×Int)×(LP)×(Int×LP×LP×LI×LM))(p1:Int):Option (Int):=if decide ((aA<|p1 - (p0.1.length:Int))<0)then(some (-1))else((yR p0.2.1<|aA<|p1 - (p0.1.length:Int)).bind λa=>if decide (a<0)then(some (-1))else((rU p0.2.2.1 a).bind λb=>if decide (b<0)then(some (-1))else((Ah p0.2.2.2 b).bind λc=>if decide (c<0)then(some (-1))else(some c))))
def eO(p0:Int)(p1:Int)(a:Int):Option (Bool):=if decide (p0≥p1)then(some<|decide (p0<=a))else(some false)
def Gy  : Option (Bool):=some true
def ja(p0:(List (LI×LI))×Int)(a:Int):Option (Int ⊕ (Unit ⊕ Bool)):=if decide (a<2)then((idx p0.1 a).bind λc=>(idx p0.1 a).bind λb=>if decide ((aA ((c.1.length:Int)+(b.2.length:Int)))>100000)then(some<|.inr<|.inr false)else(some<|.inl<|aA (a+1)))else(some<|.inr<|.inl ())
def pg(p0:(List (LI×LI))×Int)(a:Bool):Option (Bool):=if a then(some false)else((iter (ja p0) 0).bind λb=>match b with | .inl z=>Gy | .inr z=>some z)
def pD(p0:(List (LI×LI))×Int):Option (Bool):=if !decide ((p0.1.length:Int)=2)then(pg p0 true)else((eO p0.2 0 1).bind λa=>pg p0 (!a))
def sv(p0:Int):Option (Bool):=if decide (p0≥97)then(if decide (p0<=122)then(some true)else(if decide (p0≥65)then(some<|decide (p0<=90))else(some false)))else(if decide (p0≥65)then(some<|decide (p0<=90))else(some false))
def yO(p0:Int):Option (Bool):=if decide (p0≥48)then(some<|decide (p0<=57))else(some false)
def MH  : Option (Bool):=some true
def pb(a:Int)(b:Bool):Option (Int ⊕ (Unit ⊕ Bool)):=if b then(some<|.inr<|.inr false)else(some<|.inl<|aA (a+1))
def mq(p0:BS)(a:Int):Option (Int ⊕ (Unit ⊕ Bool)):=if decide (a<(p0.length:Int))then((idx p0 a).bind λe=>(sv (e.toNat:Int)).bind λf=>if !f then((idx p0 a).bind λb=>(yO (b.toNat:Int)).bind λc=>if !c then((idx p0 a).bind λd=>pb a<|!decide ((d.toNat:Int)=95))else(pb a false))else(pb a false))else(some<|.inr<|.inl ())
def sA(p0:BS)(a:Bool):Option (Bool):=if a then(some false)else((iter (mq p0) 1).bind λb=>match b with | .inl z=>MH | .inr z=>some z)
def mR(p0:BS):Option (Bool):=if decide ((p0.length:Int)<1)then(sA p0 true)else(if decide ((p0.length:Int)>12)then(sA p0 true)else((idx p0 0).bind λa=>(sv (a.toNat:Int)).bind λb=>sA p0 (!b)))
def mM(p0:Int×Int):Option (Bool):=(eO p0.1 (-60) 60).bind λa=>if a then((eO p0.2 (-60) 60).bind λb=>some b)else(some false)
def mJ(p0:Int×Int)(p1:Int×Int):Option (Bool):=if decide (p0.2<p1.2)then(some true)else(if decide (p0.2=p1.2)then(some<|decide (p0.1<p1.1))else(some false))
def FG  : Option (Bool):=some true
def mA(a:Int)(b:Bool):Option (Int ⊕ (Unit ⊕ Bool)):=if b then(some<|.inr<|.inr false)else(some<|.inl<|aA (a+1))
def mv(p0:LP)(a:Int):Option (Int ⊕ (Unit ⊕ Bool)):=if decide (a<(p0.length:Int))then((idx p0 a).bind λb=>(mM b.1).bind λc=>if !c then(mA a true)else((eO b.2 0 159).bind λd=>if !d then(mA a true)else(if decide (a>0)then((idx p0<|aA<|a - 1).bind λe=>(mJ e.1 b.1).bind λf=>mA a (!f))else(mA a false))))else(some<|.inr<|.inl ())
def Ab(p0:LP):Option (Bool):=if decide ((p0.length:Int)>500)then(some false)else((iter (mv p0) 0).bind λa=>match a with | .inl z=>FG | .inr z=>some z)
def sN(p0:LG×LT)(p1:Int):Option (Bool):=(eO p1 0<|aA<|(p0.2.length:Int) - 1).bind λa=>some a
def GF  : Option (Bool):=some true
def mx(p0:LG×LT)(p1:LP)(a:Int):Option (Int ⊕ (Unit ⊕ Bool)):=if decide (a<(p1.length:Int))then((idx p1 a).bind λb=>(sN p0 b.2).bind λc=>if !c then(some<|.inr<|.inr false)else(some<|.inl<|aA (a+1)))else(some<|.inr<|.inl ())
def pE(p0:LG×LT)(p1:LP):Option (Bool):=(Ab p1).bind λa=>if !a then(some false)else((iter (mx p0 p1) 0).bind λb=>match b with | .inl z=>GF | .inr z=>some z)
def FJ  : Option (Int):=some 0
def Eo(p0:LG×LT)(p1:BS)(a:Int):Option (Int ⊕ (Unit ⊕ Int)):=if decide (a<(p0.1.length:Int))then((idx p0.1 a).bind λb=>if decide (b.1=p1)then(some<|.inr<|.inr<|aA (a+1))else(some<|.inl<|aA (a+1)))else(some<|.inr<|.inl ())
def pz(p0:LG×LT)(p1:BS):Option (Int):=(iter (Eo p0 p1) 0).bind λa=>match a with | .inl z=>FJ | .inr z=>some z
def FH  : Option (Int):=some (-1)
def La(p0:LG×LT)(p1:BS)(a:Int):Option (Int ⊕ (Unit ⊕ Int)):=if decide (a<(p0.2.length:Int))then((idx p0.2 a).bind λb=>if decide (b.1=p1)then(some<|.inr<|.inr a)else(some<|.inl<|aA (a+1)))else(some<|.inr<|.inl ())
def py(p0:LG×LT)(p1:BS):Option (Int):=(iter (La p0 p1) 0).bind λa=>match a with | .inl z=>FH | .inr z=>some z
def GH  : Option (Bool):=some true
def yN(a:Int):Option (Int ⊕ (Unit ⊕ Bool)):=some (.inl<|aA (a+1))
def sE(p0:LG×LT)(b:BS×LI)(a:Int):Option (Int ⊕ (Unit ⊕ (Int ⊕ (Unit ⊕ Bool)))):=if decide (a<4)then((idx b.2 a).bind λc=>(eO c 0 (p0.1.length:Int)).bind λd=>if !d then(some<|.inr<|.inr<|.inr<|.inr false)else(some<|.inl<|aA (a+1)))else(some<|.inr<|.inl ())
def pn(p0:LG×LT)(a:Int)(b:BS×LI)(c:Bool):Option (Int ⊕ (Unit ⊕ Bool)):=if c then(some<|.inr<|.inr false)else((iter (sE p0 b) 0).bind λd=>match d with | .inl z=>yN a | .inr z=>some z)
def my(p0:LG×LT)(a:Int):Option (Int ⊕ (Unit ⊕ Bool)):=if decide (a<(p0.2.length:Int))then((idx p0.2 a).bind λb=>(mR b.1).bind λc=>if !c then(pn p0 a b true)else(if !decide ((b.2.length:Int)=4)then(pn p0 a b true)else((py p0 b.1).bind λd=>pn p0 a b<|!decide (d=a))))else(some<|.inr<|.inl ())
def GI(p0:LG×LT):Option (Bool):=(iter (my p0) 0).bind λa=>match a with | .inl z=>GH | .inr z=>some z
def pm(a:Int)(b:Bool):Option (Int ⊕ (Unit ⊕ Bool)):=if b then(some<|.inr<|.inr false)else(some<|.inl<|aA (a+1))
def mz(p0:LG×LT)(a:Int):Option (Int ⊕ (Unit ⊕ Bool)):=if decide (a<(p0.1.length:Int))then((idx p0.1 a).bind λb=>(mR b.1).bind λc=>if !c then(pm a true)else((eO b.2 1 4).bind λd=>if !d then(pm a true)else((pz p0 b.1).bind λe=>pm a<|!decide (e=(aA (a+1))))))else(some<|.inr<|.inl ())
def sM(p0:LG×LT)(b:Bool):Option (Bool):=if b then(some false)else((iter (mz p0) 0).bind λa=>match a with | .inl z=>GI p0 | .inr z=>some z)
def pF(p0:LG×LT):Option (Bool):=if decide ((p0.1.length:Int)>200)then(sM p0 true)else(if decide ((p0.2.length:Int)<1)then(sM p0 true)else(sM p0<|decide ((p0.2.length:Int)>160)))
def vR(p0:Int):Option (Bool):=(eO p0 1 16).bind λa=>some a
def No(p0:Int):Option (Bool):=(eO p0 0 3).bind λa=>some a
def po(p0:Int):Option (Int):=(No p0).bind λa=>if !a then(some (-1))else(some<|Int.tmod (aA (p0+2)) 4)
def kn(p0:LG×LT)(p1:Int):Option (Int):=if decide (p1=0)then(some 0)else((idx p0.1<|aA<|p1 - 1).bind λa=>some a.2)
def lr(p0:LG×LT)(p1:Int)(b:Int)(h:Int):Option (Int):=(idx p0.2 p1).bind λc=>(idx c.2 b).bind λa=>(idx p0.2 h).bind λd=>(po b).bind λe=>(idx d.2 e).bind λf=>if !decide (a=f)then(some 0)else((kn p0 a).bind λg=>some g)
def iH(a:Int)(b:Int):Option ((Int×Int)):=some (a,b)
def fZ(p0:Int×Int)(p1:Int):Option ((Int×Int)):=if decide (p1=0)then(iH p0.1<|aA (p0.2+1))else(if decide (p1=1)then(iH (aA (p0.1+1)) p0.2)else(if decide (p1=2)then(iH p0.1<|aA<|p0.2 - 1)else(if decide (p1=3)then(iH (aA<|p0.1 - 1) p0.2)else(iH p0.1 p0.2))))
def xD(a:Int)(b:Bool):Option (Int):=if b then(some a)else(some (-1))
def EX(p0:LP)(p1:Int×Int)(a:Int):Option (Int):=if decide (a<(p0.length:Int))then((idx p0 a).bind λb=>xD a<|decide (b.1.1=p1.1)&&decide (b.1.2=p1.2))else(xD a false)
def vZ(p0:LP)(p1:Int×Int)(a:Int×Int):Option ((Int×Int) ⊕ Int):=if decide (a.1<a.2)then((idx p0<|aA<|Int.tdiv (aA (a.1+a.2)) 2).bind λb=>(mJ b.1 p1).bind λc=>if c then(some<|.inl (aA<|(aA<|Int.tdiv (aA (a.1+a.2)) 2)+1,a.2))else(some<|.inl (a.1,aA<|Int.tdiv (aA (a.1+a.2)) 2)))else(some<|.inr a.1)
def jM(p0:LP)(p1:Int×Int):Option (Int):=(iter (vZ p0 p1) (0,(p0.length:Int))).bind λa=>EX p0 p1 a
def xA(p0:LP)(p1:Int)(c:Int):Option (Int):=(idx p0 p1).bind λd=>(fZ d.1 c).bind λa=>(jM p0 a).bind λb=>some b
def EV(a:LB):Option (LB):=some a
def EU(a:LB×Int)(b:LB):Option ((LB×Int) ⊕ (LB)):=some (.inl (b,aA (a.2+1)))
def oO(a:LB×Int)(b:LB):Option ((LB×Int) ⊕ (LB)):=some (.inl (b,aA<|a.2 - 1))
def nZ(p0:LG×LT)(p1:LP)(b:LB×Int)(a:LB×Int):Option ((LB×Int) ⊕ (LB)):=if decide (a.2≥0)then((xA p1 b.2 a.2).bind λc=>if decide (c<0)then(oO a a.1)else((idx p1 b.2).bind λe=>(idx p1 c).bind λf=>(lr p0 e.2 a.2 f.2).bind λd=>if decide (d>0)then((aU 24 a.1 [(b.2,(c,d))]).bind λg=>oO a g)else(oO a a.1)))else(some<|.inr a.1)
def n_(p0:LG×LT)(p1:LP)(a:LB×Int):Option ((LB×Int) ⊕ (LB)):=if decide (a.2<(p1.length:Int))then((iter (nZ p0 p1 a) (a.1,1)).bind λb=>EU a b)else(some<|.inr a.1)
def mL(p0:LG×LT)(p1:LP):Option (LB):=(iter (n_ p0 p1) ([],0)).bind λa=>EV a
def kC(p0:Int)(p1:Int):Option (Int):=if decide (p0>p1)then(some p0)else(some p1)
def mQ(p0:Int)(p1:Int):Option (Int):=if decide (p0<p1)then(some p0)else(some p1)
def Ez(a:LM):Option (LM):=some a
def qX(a:LM×Int)(b:LM):Option ((LM×Int) ⊕ (LM)):=some (.inl (b,aA (a.2+1)))
def Ey(a:LM×Int)(b:LI):Option ((LM×Int) ⊕ (LM)):=(aU 24 a.1 [b]).bind λc=>qX a c
def xb(a:LI×Int)(b:LI):Option ((LI×Int) ⊕ (LI)):=some (.inl (b,aA (a.2+1)))
def vx(p0:Int)(d:LI)(b:LM×Int)(a:LI×Int):Option ((LI×Int) ⊕ (LI)):=if decide (a.2<p0)then((idx d a.2).bind λe=>if decide (e=b.2)then((aU 8 a.1 [a.2]).bind λc=>xb a c)else(xb a a.1))else(some<|.inr a.1)
def vz(p0:Int)(b:LI)(a:LM×Int):Option ((LM×Int) ⊕ (LM)):=if decide (a.2<p0)then((idx b a.2).bind λc=>if !decide (c=a.2)then(qX a a.1)else((iter (vx p0 b a) ([],a.2)).bind λd=>Ey a d))else(some<|.inr a.1)
def EA(p0:Int)(a:LI):Option (LM):=(iter (vz p0 a) ([],0)).bind λb=>Ez b
def Ex(a:LI×Int)(b:LI):Option ((LI×Int) ⊕ (LI)):=some (.inl (b,aA (a.2+1)))
def xa(a:LI×Int)(b:LI):Option ((LI×Int) ⊕ (LI)):=some (.inl (b,aA (a.2+1)))
def vw(b:Int)(c:Int)(a:LI×Int):Option ((LI×Int) ⊕ (LI)):=if decide (a.2<(a.1.length:Int))then((idx a.1 a.2).bind λd=>(kC b c).bind λe=>if decide (d=e)then((mQ b c).bind λf=>(idx a.1 a.2).bind λh=>(some<|a.1.set a.2.toNat f).bind λg=>xa a g)else(xa a a.1))else(some<|.inr a.1)
def vA(p1:LB)(a:LI×Int):Option ((LI×Int) ⊕ (LI)):=if decide (a.2<(p1.length:Int))then((idx p1 a.2).bind λb=>(idx a.1 b.1).bind λc=>(idx p1 a.2).bind λ_=>(idx a.1 b.2.1).bind λd=>(iter (vw c d) (a.1,0)).bind λe=>Ex a e)else(some<|.inr a.1)
def EC(p0:Int)(p1:LB)(b:LI):Option (LM):=(iter (vA p1) (b,0)).bind λa=>EA p0 a
def vB(p0:Int)(a:LI×Int):Option ((LI×Int) ⊕ (LI)):=if decide (a.2<p0)then((aU 8 a.1 [a.2]).bind λb=>some<|.inl (b,aA (a.2+1)))else(some<|.inr a.1)
def yg(p0:Int)(p1:LB):Option (LM):=(iter (vB p0) ([],0)).bind λa=>EC p0 p1 a
def EL(a:LM)(b:LB):Option (Int×LB):=some ((a.length:Int),b)
def w_(a:LB×Int)(b:LB):Option ((LB×Int) ⊕ (LB)):=some (.inl (b,aA (a.2+1)))
def vJ(p1:LB)(e:LI)(a:LB×Int):Option ((LB×Int) ⊕ (LB)):=if decide (a.2<(p1.length:Int))then((idx p1 a.2).bind λb=>(idx e b.1).bind λc=>(idx p1 a.2).bind λ_=>(idx e b.2.1).bind λd=>if !decide (c=d)then((idx p1 a.2).bind λ_=>(mQ c d).bind λg=>(kC c d).bind λh=>(aU 24 a.1 [(g,(h,b.2.2))]).bind λf=>w_ a f)else(w_ a a.1))else(some<|.inr a.1)
def EM(p1:LB)(a:LM)(b:LI):Option (Int×LB):=(iter (vJ p1 b) ([],0)).bind λc=>EL a c
def LD(a:LI×Int)(b:LI):Option ((LI×Int) ⊕ (LI)):=some (.inl (b,aA (a.2+1)))
def qQ(e:LM)(b:LI×Int)(a:LI×Int):Option ((LI×Int) ⊕ (LI)):=(idx e b.2).bind λc=>if decide (a.2<(c.length:Int))then((idx e b.2).bind λ_=>(idx c a.2).bind λd=>(idx a.1 d).bind λg=>(some<|a.1.set d.toNat b.2).bind λf=>some<|.inl (f,aA (a.2+1)))else(some<|.inr a.1)
def Dq(b:LM)(a:LI×Int):Option ((LI×Int) ⊕ (LI)):=if decide (a.2<(b.length:Int))then((iter (qQ b a) (a.1,0)).bind λc=>LD a c)else(some<|.inr a.1)
def EN(p0:Int)(p1:LB)(c:LB):Option (Int×LB):=(yg p0 c).bind λa=>(cZ 8 p0 0).bind λd=>(iter (Dq a) (d,0)).bind λb=>EM p1 a b
def wZ(a:LB×Int)(b:LB):Option ((LB×Int) ⊕ (LB)):=some (.inl (b,aA (a.2+1)))
def vK(p1:LB)(d:Int)(a:LB×Int):Option ((LB×Int) ⊕ (LB)):=if decide (a.2<(p1.length:Int))then((idx p1 a.2).bind λb=>if decide (b.2.2≥d)then((idx p1 a.2).bind λ_=>(aU 24 a.1 [b]).bind λc=>wZ a c)else(wZ a a.1))else(some<|.inr a.1)
def yw(p0:Int)(p1:LB)(b:Int):Option (Int×LB):=(iter (vK p1 b) ([],0)).bind λa=>EN p0 p1 a
def MP(p0:Int)(p1:LB)(a:LI)(b:LM):Option ((Int×LB×LM×LI)):=some (p0,(p1,(b,a)))
def oY(p1:LB)(a:Int×LM):Option ((Int×LM) ⊕ (LM)):=if decide (a.1<(p1.length:Int))then((idx p1 a.1).bind λb=>(idx p1 a.1).bind λ_=>(idx a.2 b.1).bind λf=>(aU 8 f [a.1]).bind λg=>(some<|a.2.set b.1.toNat g).bind λc=>(idx p1 a.1).bind λ_=>(idx p1 a.1).bind λ_=>(idx c b.2.1).bind λh=>(aU 8 h [a.1]).bind λd=>(some<|c.set b.2.1.toNat d).bind λe=>some<|.inl (aA (a.1+1),e))else(some<|.inr a.2)
def Av(p0:Int)(p1:LB):Option ((Int×LB×LM×LI)):=(cZ 24 p0 ([]:LI)).bind λa=>(cZ 8 (p1.length:Int) 0).bind λb=>(iter (oY p1) (0,a)).bind λc=>MP p0 p1 b c
def ru(p0:Int×LB×LM×LI)(p1:Int)(b:Int):Option (Int×Int×(Int×LB×LM×LI)):=(idx p0.2.1 b).bind λa=>if decide (a.1=p1)then((idx p0.2.2.2 b).bind λc=>some (aA<|a.2.2 - c,a.2.1,p0))else((idx p0.2.2.2 b).bind λd=>some (aA (a.2.2+d),a.1,p0))
def Dm(p0:Int×LB×LM×LI)(a:LI)(b:LI):Option (LI×(Int×LB×LM×LI)):=some (a,(p0.1,(p0.2.1,(p0.2.2.1,b))))
def Lc(a:LI×LI×Int×LI)(b:LI)(c:LI)(d:LI):Option ((LI×LI×Int×LI) ⊕ (LI×LI)):=some (.inl (b,c,aA (a.2.2.1+1),d))
def qt(a:LI×LI×Int×LI)(b:LI)(c:LI)(d:LI):Option ((LI×LI×Int×LI) ⊕ (LI×LI×LI)):=some (.inl (b,c,aA (a.2.2.1+1),d))
def nP(d:Int)(a:LI×LI×Int×LI)(b:Int×Int×Int)(c:Int×Int×Int)(e:Int×Int×(Int×LB×LM×LI))(f:Bool):Option ((LI×LI×Int×LI) ⊕ (LI×LI×LI)):=if f then((idx a.1 d).bind λg=>(idx a.1<|aA<|(aA (b.1+c.2.1)) - d).bind λj=>(some<|a.1.set (aA<|(aA (b.1+c.2.1)) - d).toNat<|aA (g+1)).bind λh=>(aU 8 a.2.1 [aA<|(aA (b.1+c.2.1)) - d]).bind λi=>qt a h i e.2.2.2.2.2)else(qt a a.1 a.2.1 e.2.2.2.2.2)
def uO(p0:Int×LB×LM×LI)(b:Int)(a:LI×LI×Int×LI):Option ((LI×LI×Int×LI) ⊕ (LI×LI×LI)):=(idx p0.2.2.1 b).bind λg=>if decide (a.2.2.1<(g.length:Int))then((idx p0.2.2.1 b).bind λ_=>(idx g a.2.2.1).bind λe=>(idx p0.2.1 e).bind λc=>(idx p0.2.1 e).bind λd=>(ru (p0.1,(p0.2.1,(p0.2.2.1,a.2.2.2))) (aA<|(aA (c.1+d.2.1)) - b) e).bind λf=>(idx a.1<|aA<|(aA (c.1+d.2.1)) - b).bind λh=>if decide (h<0)then(nP b a c d f<|decide (f.1>0))else(nP b a c d f false))else(some<|.inr (a.1,a.2.1,a.2.2.2))
def uP(p0:Int×LB×LM×LI)(a:LI×LI×Int×LI):Option ((LI×LI×Int×LI) ⊕ (LI×LI)):=if decide (a.2.2.1<(a.2.1.length:Int))then((idx a.2.1 a.2.2.1).bind λc=>(iter (uO p0 c) (a.1,a.2.1,0,a.2.2.2)).bind λb=>Lc a b.1 b.2.1 b.2.2)else(some<|.inr (a.1,a.2.2.2))
def Dn(p0:Int×LB×LM×LI)(p1:Int)(a:LI):Option (LI×(Int×LB×LM×LI)):=(idx a p1).bind λd=>(some<|a.set p1.toNat 0).bind λc=>(iter (uP p0) (c,[p1],0,p0.2.2.2)).bind λb=>Dm p0 b.1 b.2
def uQ(p0:Int×LB×LM×LI)(a:LI×Int):Option ((LI×Int) ⊕ (LI)):=if decide (a.2<p0.1)then((aU 8 a.1 [(-1)]).bind λb=>some<|.inl (b,aA (a.2+1)))else(some<|.inr a.1)
def rh(p0:Int×LB×LM×LI)(p1:Int):Option (LI×(Int×LB×LM×LI)):=(iter (uQ p0) ([],0)).bind λa=>Dn p0 p1 a
def xy(p0:Int×LB×LM×LI)(p1:Int)(a:Int):Option ((Int×LB×LM×LI)):=(idx p0.2.1 a).bind λb=>if decide (b.1=p1)then((idx p0.2.2.2 a).bind λc=>(idx p0.2.2.2 a).bind λg=>(some<|p0.2.2.2.set a.toNat<|aA (c+1)).bind λd=>some (p0.1,(p0.2.1,(p0.2.2.1,d))))else((idx p0.2.2.2 a).bind λe=>(idx p0.2.2.2 a).bind λh=>(some<|p0.2.2.2.set a.toNat<|aA<|e - 1).bind λf=>some (p0.1,(p0.2.1,(p0.2.2.1,f))))
def KR(p0:Int×LB×LM×LI)(a:LI):Option (Bool×(Int×LB×LM×LI)):=some (true,(p0.1,(p0.2.1,(p0.2.2.1,a))))
def DH(p0:Int×LB×LM×LI)(a:Int×LI)(b:Int)(c:Int)(d:LI):Option ((Int×LI) ⊕ (LI)):=(xy (p0.1,(p0.2.1,(p0.2.2.1,d))) a.1 c).bind λe=>some<|.inl (b,e.2.2.2)
def qH(a:Int×Int×Int×LI)(b:Int)(c:Int)(d:LI):Option ((Int×Int×Int×LI) ⊕ (Int×Int×LI)):=some (.inl (b,c,aA (a.2.2.1+1),d))
def kq(p0:Int×LB×LM×LI)(c:Int×LI)(a:Int×Int×Int×LI)(e:LI)(f:Int)(b:Int×Int×(Int×LB×LM×LI))(d:Bool):Option ((Int×Int×Int×LI) ⊕ (Int×Int×LI)):=if d then((idx p0.2.2.1 c.1).bind λ_=>(idx e a.2.2.1).bind λ_=>qH a b.2.1 f b.2.2.2.2.2)else(qH a a.1 a.2.1 b.2.2.2.2.2)
def vh(p0:Int×LB×LM×LI)(f:LI×(Int×LB×LM×LI))(b:Int×LI)(a:Int×Int×Int×LI):Option ((Int×Int×Int×LI) ⊕ (Int×Int×LI)):=(idx p0.2.2.1 b.1).bind λd=>if decide (a.2.2.1<(d.length:Int))then((idx p0.2.2.1 b.1).bind λ_=>(idx d a.2.2.1).bind λe=>(ru (p0.1,(p0.2.1,(p0.2.2.1,a.2.2.2))) b.1 e).bind λc=>if decide (c.1>0)then((idx f.1 c.2.1).bind λg=>(idx f.1 b.1).bind λh=>if decide (g=(aA<|h - 1))then(if decide (a.1<0)then(kq p0 b a d e c true)else(kq p0 b a d e c<|decide (c.2.1<a.1)))else(kq p0 b a d e c false))else(kq p0 b a d e c false))else(some<|.inr (a.1,a.2.1,a.2.2.2))
def vi(p0:Int×LB×LM×LI)(d:Int)(c:LI×(Int×LB×LM×LI))(a:Int×LI):Option ((Int×LI) ⊕ (LI)):=if !decide (a.1=d)then((iter (vh p0 c a) ((-1),0,0,a.2)).bind λb=>DH p0 a b.1 b.2.1 b.2.2)else(some<|.inr a.2)
def rv(p0:Int×LB×LM×LI)(p1:Int)(b:Int):Option (Bool×(Int×LB×LM×LI)):=(rh p0 b).bind λa=>(idx a.1 p1).bind λc=>if decide (c<0)then(some (false,(p0.1,(p0.2.1,(p0.2.2.1,a.2.2.2.2)))))else((iter (vi p0 b a) (p1,a.2.2.2.2)).bind λd=>KR p0 d)
def FD(a:(Int×LB×LM×LI))(b:Int)(c:LI):Option ((Int×LB×LM×LI)×Int):=some ((a.1,(a.2.1,(a.2.2.1,c))),b)
def wA(d:Int)(e:Int)(b:(Int×LB×LM×LI))(a:Int×LI):Option ((Int×LI) ⊕ (Int×LI)):=(rv (b.1,(b.2.1,(b.2.2.1,a.2))) d e).bind λc=>if c.1 then(some<|.inl (aA (a.1+1),c.2.2.2.2))else(some<|.inr (a.1,c.2.2.2.2))
def z'(p0:Int)(p1:LB)(c:Int)(d:Int):Option ((Int×LB×LM×LI)×Int):=(Av p0 p1).bind λa=>(iter (wA c d a) (0,a.2.2.2)).bind λb=>FD a b.1 b.2
def DG(p0:Int×LB×LM×LI)(a:LI×(Int×LB×LM×LI))(b:LI):Option (LI×(Int×LB×LM×LI)):=some (b,(p0.1,(p0.2.1,(p0.2.2.1,a.2.2.2.2))))
def vS(a:LI×Int)(b:LI):Option ((LI×Int) ⊕ (LI)):=some (.inl (b,aA (a.2+1)))
def CU(p0:Int×LB×LM×LI)(b:LI×(Int×LB×LM×LI))(a:LI×Int):Option ((LI×Int) ⊕ (LI)):=if decide (a.2<p0.1)then((idx b.1 a.2).bind λc=>if decide (c≥0)then((aU 8 a.1 [a.2]).bind λd=>vS a d)else(vS a a.1))else(some<|.inr a.1)
def xx(p0:Int×LB×LM×LI)(p1:Int):Option (LI×(Int×LB×LM×LI)):=(rh p0 p1).bind λa=>(iter (CU p0 a) ([],0)).bind λb=>DG p0 a b
def LF  : Option (Bool):=some false
def Dr(p1:LI)(b:LI)(a:Int):Option (Int ⊕ (Unit ⊕ Bool)):=if decide (a<(p1.length:Int))then((idx p1 a).bind λc=>(idx b a).bind λd=>if !decide (c=d)then((idx p1 a).bind λe=>(idx b a).bind λf=>some<|.inr<|.inr<|decide (e<f))else(some<|.inl<|aA (a+1)))else(some<|.inr<|.inl ())
def yx(p0:Int)(p1:LI)(b:Int)(a:LI):Option (Bool):=if !decide (p0=b)then(some<|decide (p0<b))else(if !decide ((p1.length:Int)=(a.length:Int))then(some<|decide ((p1.length:Int)<(a.length:Int)))else((iter (Dr p1 a) 0).bind λc=>match c with | .inl z=>LF | .inr z=>some z))
def Eg(a:Int)(b:LI):Option (Int×LI):=some (a,b)
def rk(a:Int×LI×Int)(b:Int)(c:LI):Option ((Int×LI×Int) ⊕ (Int×LI)):=some (.inl (b,c,aA (a.2.2+1)))
def mj(a:Int×LI×Int)(b:(Int×LB×LM×LI)×Int)(c:LI×(Int×LB×LM×LI))(d:Bool):Option ((Int×LI×Int) ⊕ (Int×LI)):=if d then(rk a b.2 c.1)else(rk a a.1 a.2.1)
def Db(p0:Int)(p1:LB)(a:Int×LI×Int):Option ((Int×LI×Int) ⊕ (Int×LI)):=if decide (a.2.2<p0)then((z' p0 p1 0 a.2.2).bind λb=>(xx b.1 a.2.2).bind λc=>if decide (a.1<0)then(mj a b c true)else((yx b.2 c.1 a.1 a.2.1).bind λd=>mj a b c d))else(some<|.inr (a.1,a.2.1))
def yc(p0:Int)(p1:LB):Option (Int×LI):=(iter (Db p0 p1) ((-1),[],1)).bind λa=>Eg a.1 a.2
def yv(p0:LG×LT)(p1:LP)(b:Int):Option (Bool×Int):=(mL p0 p1).bind λc=>(yw (p1.length:Int) c b).bind λa=>if decide (a.1>64)then(some (false,4))else(if decide (a.1<2)then(some (true,0))else((yc a.1 a.2).bind λd=>some (decide (d.1≥b),0)))
def pj(p0:TS×(LP)×Int)(b:Bool):Option (Bool):=if b then(some false)else((yv p0.1 p0.2.1 p0.2.2).bind λa=>if a.1 then(some<|decide (a.2=0))else(some false))
def kD(p0:TS×(LP)×Int):Option (Bool):=(pF p0.1).bind λa=>if !a then(pj p0 true)else((pE p0.1 p0.2.1).bind λb=>if !b then(pj p0 true)else(if decide ((p0.2.1.length:Int)=0)then(pj p0 true)else((vR p0.2.2).bind λx23=>pj p0 (!x23))))
def xw(a:Bool):Option (Int):=if a then(some 1)else(some 0)
def GC(p0:TS×(LP)×Int)(p1:LP):Option (Int):=(kD p0).bind λa=>if !a then(xw true)else((pE p0.1 p1).bind λb=>xw (!b))
def sf(p0:Int×LP×LP×LI×LM):Option (Bool):=if decide (p0.1<=4)then(if decide (p0.1=4)then(if decide (p0.1=6)then(if decide (p0.1=5)then(some true)else(some<|decide ((p0.2.2.2.2.length:Int)=0)))else(if decide ((p0.2.2.2.1.length:Int)=0)then(if decide (p0.1=5)then(some true)else(some<|decide ((p0.2.2.2.2.length:Int)=0)))else(some false)))else(if decide ((p0.2.2.1.length:Int)=0)then(if decide (p0.1=6)then(if decide (p0.1=5)then(some true)else(some<|decide ((p0.2.2.2.2.length:Int)=0)))else(if decide ((p0.2.2.2.1.length:Int)=0)then(if decide (p0.1=5)then(some true)else(some<|decide ((p0.2.2.2.2.length:Int)=0)))else(some false)))else(some false)))else(if decide ((p0.2.1.length:Int)=0)then(if decide (p0.1=4)then(if decide (p0.1=6)then(if decide (p0.1=5)then(some true)else(some<|decide ((p0.2.2.2.2.length:Int)=0)))else(if decide ((p0.2.2.2.1.length:Int)=0)then(if decide (p0.1=5)then(some true)else(some<|decide ((p0.2.2.2.2.length:Int)=0)))else(some false)))else(if decide ((p0.2.2.1.length:Int)=0)then(if decide (p0.1=6)then(if decide (p0.1=5)then(some true)else(some<|decide ((p0.2.2.2.2.length:Int)=0)))else(if decide ((p0.2.2.2.1.length:Int)=0)then(if decide (p0.1=5)then(some true)else(some<|decide ((p0.2.2.2.2.length:Int)=0)))else(some false)))else(some false)))else(some false))
def kB(p0:LP):Option ((LP)):=(aU 24 ([]:LP) p0).bind λa=>some a
def jg(p0:LP)(p1:Int×Int):Option (Int):=(jM p0 p1).bind λa=>if decide (a<0)then(some (-1))else((idx p0 a).bind λb=>some b.2)
def Lh(a:Int):Option (Int):=some a
def wP(a:Int×Int)(b:Int):Option ((Int×Int) ⊕ Int):=some (.inl (b,aA (a.2+1)))
def Dc(p0:LG×LT)(p1:LP)(e:Int×Int)(f:Int)(a:Int×Int):Option ((Int×Int) ⊕ Int):=if decide (a.2<4)then((fZ e a.2).bind λc=>(jg p1 c).bind λb=>if decide (b≥0)then((lr p0 f a.2 b).bind λd=>wP a<|aA (a.1+d))else(wP a a.1))else(some<|.inr a.1)
def rR(p0:LG×LT)(p1:LP)(b:Int×Int)(c:Int):Option (Int):=(iter (Dc p0 p1 b c) (0,0)).bind λa=>Lh a
def Au(p0:TS×(LP)×Int)(p1:LP)(a:(Int×Int)×Int):Option (Bool):=(mM a.1).bind λb=>if b then((sN p0.1 a.2).bind λx23=>if x23 then((jM p1 a.1).bind λc=>if decide (c<0)then((rR p0.1 p1 a.1 a.2).bind λd=>some<|decide (d≥p0.2.2))else(some false))else(some false))else(some false)
def sn(a:LP):Option ((LP)):=some a
def su(p1:Int×Int)(d:Int)(b:Bool)(a:LP):Option ((LP)):=if !b then((aU 24 a [(p1,d)]).bind λc=>sn c)else(sn a)
def pa(p0:LP)(a:Bool×Int×LP)(b:Bool)(c:LP):Option ((Bool×Int×LP) ⊕ (Bool×LP)):=(idx p0 a.2.1).bind λd=>(aU 24 c [d]).bind λe=>some<|.inl (b,aA (a.2.1+1),e)
def o_(p0:LP)(p1:Int×Int)(d:Int)(a:Bool×Int×LP)(b:Bool):Option ((Bool×Int×LP) ⊕ (Bool×LP)):=if b then((aU 24 a.2.2 [(p1,d)]).bind λc=>pa p0 a true c)else(pa p0 a a.1 a.2.2)
def iI(p0:LP)(p1:Int×Int)(c:Int)(a:Bool×Int×LP):Option ((Bool×Int×LP) ⊕ (Bool×LP)):=if decide (a.2.1<(p0.length:Int))then(if !a.1 then((idx p0 a.2.1).bind λd=>(mJ p1 d.1).bind λb=>o_ p0 p1 c a b)else(o_ p0 p1 c a false))else(some<|.inr (a.1,a.2.2))
def tf(p0:LP)(p1:Int×Int)(b:Int):Option ((LP)):=(iter (iI p0 p1 b) (false,0,[])).bind λa=>su p1 b a.1 a.2
def yu(p0:LP)(p1:(Int×Int)×Int):Option ((LP)×Int):=if decide ((p0.length:Int)≥500)then(some ([],4))else((tf p0 p1.1 p1.2).bind λa=>some (a,0))
def FB(a:LP):Option ((LP)×Int×Int):=some (a,0,0)
def lg(p0:TS×(LP)×Int)(p1:LP)(a:Int×LP):Option ((Int×LP) ⊕ ((LP) ⊕ ((LP)×Int×Int))):=if decide (a.1<(p1.length:Int))then((idx p1 a.1).bind λc=>(Au p0 a.2 c).bind λd=>if !d then(some<|.inr<|.inr ([],a.1,5))else((idx p1 a.1).bind λ_=>(yu a.2 c).bind λb=>if !decide (b.2=0)then(some<|.inr<|.inr ([],0,b.2))else(some<|.inl (aA (a.1+1),b.1))))else(some<|.inr<|.inl a.2)
def px(p0:TS×(LP)×Int)(p1:LP):Option ((LP)×Int×Int):=(kB p0.2.1).bind λa=>(iter (lg p0 p1) (0,a)).bind λb=>match b with | .inl z=>FB z | .inr z=>some z
def qY(p0:TS×(LP)×Int)(p1:LP):Option ((LP)×Int×Int):=(kD p0).bind λb=>if !b then(some ([],0,1))else(if decide ((p1.length:Int)>500)then(some ([],0,2))else((px p0 p1).bind λa=>some (a.1,a.2.1,a.2.2)))
def FE  : Option (Bool):=some true
def ra(p0:LP)(p1:LP)(a:Int):Option (Int ⊕ (Unit ⊕ Bool)):=if decide (a<(p0.length:Int))then((idx p0 a).bind λb=>(idx p1 a).bind λc=>if !((decide (b.1.1=c.1.1)&&decide (b.1.2=c.1.2))&&decide (b.2=c.2))then(some<|.inr<|.inr false)else(some<|.inl<|aA (a+1)))else(some<|.inr<|.inl ())
def sV(p0:LP)(p1:LP):Option (Bool):=if !decide ((p0.length:Int)=(p1.length:Int))then(some false)else((iter (ra p0 p1) 0).bind λa=>match a with | .inl z=>FE | .inr z=>some z)
def kw(p0:TS×(LP)×Int)(p1:LP)(c:LP):Option (Bool):=(qY p0 p1).bind λa=>if decide (a.2.2=0)then((sV a.1 c).bind λb=>some b)else(some false)
def DE(p1:Int×Int)(a:Int)(b:List (Int×Int)):Option ((List (Int×Int))):=(idx b a).bind λd=>(some<|b.set a.toNat p1).bind λc=>some c
def vg(b:Int)(a:(List (Int×Int))×Int):Option (((List (Int×Int))×Int) ⊕ ((List (Int×Int)))):=if decide (a.2>b)then((idx a.1<|aA<|a.2 - 1).bind λc=>(idx a.1 a.2).bind λe=>(some<|a.1.set a.2.toNat c).bind λd=>some<|.inl (d,aA<|a.2 - 1))else(some<|.inr a.1)
def oh(p0:List (Int×Int))(p1:Int×Int)(a:Int)(b:Bool):Option ((List (Int×Int))):=if b then(some p0)else((aU 16 p0 [p1]).bind λx23=>(iter (vg a) (x23,aA<|(x23.length:Int) - 1)).bind λc=>DE p1 a c)
def DF(p0:List (Int×Int))(p1:Int×Int)(a:Int):Option ((List (Int×Int))):=if decide (a<(p0.length:Int))then((idx p0 a).bind λb=>oh p0 p1 a<|decide (b.1=p1.1)&&decide (b.2=p1.2))else(oh p0 p1 a false)
def og(a:Int)(b:Bool):Option (Int ⊕ Int):=if b then(some<|.inl<|aA<|a - 1)else(some<|.inr a)
def nS(p0:List (Int×Int))(p1:Int×Int)(a:Int):Option (Int ⊕ Int):=if decide (a>0)then((idx p0<|aA<|a - 1).bind λb=>(mJ b p1).bind λc=>og a (!c))else(og a false)
def xv(p0:List (Int×Int))(p1:Int×Int):Option ((List (Int×Int))):=(iter (nS p0 p1) (p0.length:Int)).bind λa=>DF p0 p1 a
def Mk(a:List (Int×Int)):Option ((List (Int×Int))):=some a
def FC(a:(List (Int×Int))×Int)(b:List (Int×Int)):Option (((List (Int×Int))×Int) ⊕ ((List (Int×Int)))):=some (.inl (b,aA (a.2+1)))
def rQ(a:(List (Int×Int))×Int)(b:List (Int×Int)):Option (((List (Int×Int))×Int) ⊕ ((List (Int×Int)))):=some (.inl (b,aA (a.2+1)))
def rP(a:(List (Int×Int))×Int)(b:(Int×Int))(c:Bool):Option (((List (Int×Int))×Int) ⊕ ((List (Int×Int)))):=if c then((xv a.1 b).bind λd=>rQ a d)else(rQ a a.1)
def qZ(p0:LP)(c:(List (Int×Int))×Int)(a:(List (Int×Int))×Int):Option (((List (Int×Int))×Int) ⊕ ((List (Int×Int)))):=if decide (a.2<4)then((idx p0 c.2).bind λd=>(fZ d.1 a.2).bind λb=>(mM b).bind λe=>if e then((jM p0 b).bind λf=>rP a b<|decide (f<0))else(rP a b false))else(some<|.inr a.1)
def q_(p0:LP)(a:(List (Int×Int))×Int):Option (((List (Int×Int))×Int) ⊕ ((List (Int×Int)))):=if decide (a.2<(p0.length:Int))then((iter (qZ p0 a) (a.1,0)).bind λb=>FC a b)else(some<|.inr a.1)
def z_(p0:LP):Option ((List (Int×Int))):=(iter (q_ p0) ([],0)).bind λa=>Mk a
def GA(a:LI):Option (LI):=some a
def yM(a:LI×Int)(b:LI):Option ((LI×Int) ⊕ (LI)):=some (.inl (b,aA (a.2+1)))
def Gz(d:Int)(a:LI×Int)(b:Int):Option ((LI×Int) ⊕ (LI)):=if decide (b≥d)then((aU 8 a.1 [a.2]).bind λc=>yM a c)else(yM a a.1)
def yL(a:Int×Int)(b:Int):Option ((Int×Int) ⊕ Int):=some (.inl (b,aA (a.2+1)))
def xZ(p0:LG×LT)(b:LI)(d:LI×Int)(a:Int×Int):Option ((Int×Int) ⊕ Int):=if decide (a.2<4)then((idx p0.2 d.2).bind λe=>(idx e.2 a.2).bind λf=>(idx b a.2).bind λc=>if decide (f=c)then((idx b a.2).bind λ_=>(kn p0 c).bind λg=>yL a<|aA (a.1+g))else(yL a a.1))else(some<|.inr a.1)
def x_(p0:LG×LT)(d:Int)(b:LI)(a:LI×Int):Option ((LI×Int) ⊕ (LI)):=if decide (a.2<(p0.2.length:Int))then((iter (xZ p0 b a) (0,0)).bind λc=>Gz d a c)else(some<|.inr a.1)
def GB(p0:LG×LT)(c:Int)(a:LI):Option (LI):=(iter (x_ p0 c a) ([],0)).bind λb=>GA b
def yD(a:LI×Int)(b:LI):Option ((LI×Int) ⊕ (LI)):=some (.inl (b,aA (a.2+1)))
def sD(p0:LG×LT)(p1:LP)(i:Int×Int)(a:LI×Int):Option ((LI×Int) ⊕ (LI)):=if decide (a.2<4)then((fZ i a.2).bind λc=>(jg p1 c).bind λb=>if decide (b<0)then((aU 8 a.1 [0]).bind λd=>yD a d)else((idx p0.2 b).bind λe=>(po a.2).bind λf=>(idx e.2 f).bind λg=>(aU 8 a.1 [g]).bind λh=>yD a h))else(some<|.inr a.1)
def tp(p0:LG×LT)(p1:LP)(b:Int×Int)(c:Int):Option (LI):=(iter (sD p0 p1 b) ([],0)).bind λa=>GB p0 c a
def Lp(a:LP):Option (LP):=some a
def Ef(a:LP×Int)(b:LP):Option ((LP×Int) ⊕ (LP)):=some (.inl (b,aA (a.2+1)))
def qx(d:(List (Int×Int)))(c:LP×Int)(e:Int×Int)(b:LI)(a:LP×Int):Option ((LP×Int) ⊕ (LP)):=if decide (a.2<(b.length:Int))then((idx d c.2).bind λ_=>(idx b a.2).bind λf=>(aU 24 a.1 [(e,f)]).bind λg=>some<|.inl (g,aA (a.2+1)))else(some<|.inr a.1)
def qy(p0:TS×(LP)×Int)(p1:LP)(b:(List (Int×Int)))(a:LP×Int):Option ((LP×Int) ⊕ (LP)):=if decide (a.2<(b.length:Int))then((idx b a.2).bind λc=>(tp p0.1 p1 c p0.2.2).bind λd=>(iter (qx b a c d) (a.1,0)).bind λe=>Ef a e)else(some<|.inr a.1)
def oF(p0:TS×(LP)×Int)(p1:LP):Option (LP):=(z_ p1).bind λa=>(iter (qy p0 p1 a) ([],0)).bind λb=>Lp b
def LC(a:LI)(b:LI):Option (LI×LI):=some (a,b)
def EK(p0:TS×(LP)×Int)(a:LI×LI×Int×LP)(b:(Int×Int)×Int)(e:Int):Option ((LI×LI×Int×LP) ⊕ (LI×LI)):=(aU 8 a.1 [e]).bind λf=>(rR p0.1 a.2.2.2 b.1 b.2).bind λg=>(aU 8 a.2.1 [g]).bind λc=>(tf a.2.2.2 b.1 b.2).bind λd=>some<|.inl (f,c,aA (a.2.2.1+1),d)
def wY(a:Int×Int)(b:Int):Option ((Int×Int) ⊕ Int):=some (.inl (b,aA (a.2+1)))
def wX(a:Int×Int)(b:Bool):Option ((Int×Int) ⊕ Int):=if b then((nz .i64 1 a.2).bind λc=>wY a<|aA (a.1+c))else(wY a a.1)
def qP(p0:TS×(LP)×Int)(d:LI×LI×Int×LP)(c:(Int×Int)×Int)(a:Int×Int):Option ((Int×Int) ⊕ Int):=if decide (a.2<4)then((fZ c.1 a.2).bind λe=>(jg d.2.2.2 e).bind λb=>if decide (b≥0)then((lr p0.1 c.2 a.2 b).bind λf=>wX a<|decide (f>0))else(wX a false))else(some<|.inr a.1)
def vI(p0:TS×(LP)×Int)(p1:LP)(a:LI×LI×Int×LP):Option ((LI×LI×Int×LP) ⊕ (LI×LI)):=if decide (a.2.2.1<(p1.length:Int))then((idx p1 a.2.2.1).bind λb=>(iter (qP p0 a b) (0,0)).bind λc=>EK p0 a b c)else(some<|.inr (a.1,a.2.1))
def yt(p0:TS×(LP)×Int)(p1:LP):Option (LI×LI):=(kB p0.2.1).bind λb=>(iter (vI p0 p1) ([],[],0,b)).bind λa=>LC a.1 a.2
def Lm(a:LI):Option (LI):=some a
def Ee(a:LI×Int)(b:Int):Option ((LI×Int) ⊕ (LI)):=(aU 8 a.1 [b]).bind λc=>some<|.inl (c,aA (a.2+1))
def Ed(a:Int×Int)(b:Int):Option ((Int×Int) ⊕ Int):=some (.inl (b,aA (a.2+1)))
def nY(a:Int×Int)(b:Int):Option ((Int×Int) ⊕ Int):=some (.inl (b,aA (a.2+1)))
def nX(b:Int×Int)(a:Int×Int)(c:Bool):Option ((Int×Int) ⊕ Int):=if c then((nz .i64 1 b.2).bind λd=>nY a<|aA (a.1+d))else(nY a a.1)
def zS(p0:LP)(p1:LI)(b:Int×Int)(c:(Int×Int))(a:Int×Int):Option ((Int×Int) ⊕ Int):=if decide (a.2<(p0.length:Int))then((idx p0 a.2).bind λd=>if(decide (d.1.1=c.1)&&decide (d.1.2=c.2))then((idx p1 a.2).bind λe=>(po b.2).bind λf=>(lQ .i64 e f).bind λg=>nX b a<|decide ((ke .i64 g 1)=1))else(nX b a false))else(some<|.inr a.1)
def qw(p0:LP)(p1:LI)(b:LI×Int)(a:Int×Int):Option ((Int×Int) ⊕ Int):=if decide (a.2<4)then((idx p0 b.2).bind λc=>(fZ c.1 a.2).bind λd=>(iter (zS p0 p1 a d) (a.1,aA (b.2+1))).bind λe=>Ed a e)else(some<|.inr a.1)
def vN(p0:LP)(p1:LI)(a:LI×Int):Option ((LI×Int) ⊕ (LI)):=if decide (a.2<(p0.length:Int))then((iter (qw p0 p1 a) (0,0)).bind λb=>Ee a b)else(some<|.inr a.1)
def yb(p0:LP)(p1:LI):Option (LI):=(iter (vN p0 p1) ([],0)).bind λa=>Lm a
def Ec(a:LP):Option ((LP)):=some a
def wO(a:Int×LP)(b:LP):Option ((Int×LP) ⊕ (LP)):=some (.inl (aA (a.1+1),b))
def Eb(p0:LP)(a:Int×LP)(b:(Int×Int)×Int)(c:Bool):Option ((Int×LP) ⊕ (LP)):=if c then((idx p0 a.1).bind λ_=>(aU 24 a.2 [b]).bind λd=>wO a d)else(wO a a.2)
def wN(a:Bool×Int)(b:Bool):Option ((Bool×Int) ⊕ Bool):=some (.inl (b,aA (a.2+1)))
def wM(a:Bool×Int)(b:Bool):Option ((Bool×Int) ⊕ Bool):=if b then(wN a false)else(wN a a.1)
def qv(p0:LP)(p1:Int×Int)(f:Int)(d:Int×LP)(b:(Int×Int)×Int)(a:Bool×Int):Option ((Bool×Int) ⊕ Bool):=if decide (a.2<4)then((lQ .i64 f a.2).bind λe=>if decide ((ke .i64 e 1)=1)then((idx p0 d.1).bind λ_=>(fZ p1 a.2).bind λc=>wM a<|decide (b.1.1=c.1)&&decide (b.1.2=c.2))else(wM a false))else(some<|.inr a.1)
def vM(p0:LP)(p1:Int×Int)(d:Int)(a:Int×LP):Option ((Int×LP) ⊕ (LP)):=if decide (a.1<(p0.length:Int))then((idx p0 a.1).bind λb=>(iter (qv p0 p1 d a b) (!(decide (b.1.1=p1.1)&&decide (b.1.2=p1.2)),0)).bind λc=>Eb p0 a b c)else(some<|.inr a.2)
def ya(p0:LP)(p1:Int×Int)(b:Int):Option ((LP)):=(iter (vM p0 p1 b) (0,[])).bind λa=>Ec a
def ER(p0:TS×(LP)×Int)(b:(LP)×Int×Int)(d:Int)(e:Int):Option (Int×(Int×Int)):=(oF p0 b.1).bind λa=>if decide ((a.length:Int)>0)then((idx a 0).bind λc=>some (3,c.1))else(some (0,(0,0)))
def DO(p0:TS×(LP)×Int)(p1:LP)(e:LI×LI)(f:LI)(g:(LP)×Int×Int)(a:Int×Int×Int):Option ((Int×Int×Int) ⊕ ((Int×Int) ⊕ (Int×(Int×Int)))):=if decide (a.1<(p1.length:Int))then((idx e.2 a.1).bind λh=>if !decide (h=p0.2.2)then((idx p1 a.1).bind λi=>some<|.inr<|.inr (1,i.1))else((idx p1 a.1).bind λj=>(idx f a.1).bind λk=>(ya g.1 j.1 k).bind λl=>(idx p1 a.1).bind λb=>(tp p0.1 l b.1 p0.2.2).bind λc=>if !decide ((c.length:Int)=1)then((idx p1 a.1).bind λd=>some<|.inr<|.inr (2,d.1))else(some<|.inl (aA (a.1+1),a.2.1,a.2.2))))else(some<|.inr<|.inl (a.2.1,a.2.2))
def sL(p0:TS×(LP)×Int)(p1:LP):Option (Int×(Int×Int)):=(yt p0 p1).bind λa=>(yb p1 a.1).bind λc=>(px p0 p1).bind λb=>(iter (DO p0 p1 a c b) (0,0,0)).bind λd=>match d with | .inl z=>ER p0 b z.1 z.2 | .inr z=>some z
def qG(p0:TS×(LP)×Int)(p1:LP)(c:LP)(d:Bool):Option (Bool):=if d then(some false)else((qY p0 c).bind λe=>(idx p1<|aA<|(p1.length:Int) - 1).bind λa=>(idx c<|aA<|(c.length:Int) - 1).bind λb=>if decide (e.2.2=0)then(if(decide (a.1.1=b.1.1)&&decide (a.1.2=b.1.2))then(some<|!decide (a.2=b.2))else(some false))else(some false))
def xu(p0:TS×(LP)×Int)(p1:LP)(a:LP)(c:LP):Option (Bool):=if decide ((p1.length:Int)=0)then(qG p0 p1 a true)else(if decide ((a.length:Int)=0)then(qG p0 p1 a true)else((kw p0 p1 c).bind λb=>qG p0 p1 a (!b)))
def EW(a:Bool):Option (Int):=if a then(some 1)else(some 0)
def pk(p0:LG×LT)(p1:LP):Option (Int):=(pF p0).bind λa=>if !a then(EW true)else((pE p0 p1).bind λb=>EW (!b))
def EE(c:Int)(a:LI):Option (Int×Int):=(idx a c).bind λb=>some (b,0)
def rC(a:Int)(b:Bool):Option (Int ⊕ (Unit ⊕ (Int×Int))):=if b then(some<|.inr<|.inr (0,10))else(some<|.inl<|aA (a+1))
def qR(p1:LP)(d:Int)(e:Int)(b:LI)(a:Int):Option (Int ⊕ (Unit ⊕ (Int×Int))):=if decide (a<=(aA<|(p1.length:Int) - 1))then(if !decide (a=d)then(if !decide (a=e)then((idx b a).bind λc=>rC a<|!decide (c=0))else(rC a false))else(rC a false))else(some<|.inr<|.inl ())
def EF(p1:LP)(b:Int)(d:Int)(a:LI):Option (Int×Int):=(iter (qR p1 b d a) 0).bind λc=>match c with | .inl z=>EE b a | .inr z=>some z
def qS(f:LI)(b:LB)(a:LI×Int):Option ((LI×Int) ⊕ ((LI) ⊕ (Int×Int))):=if decide (a.2<(b.length:Int))then((idx f a.2).bind λj=>(idx b a.2).bind λk=>(idx b a.2).bind λl=>(eO j (aA<|0 - k.2.2) l.2.2).bind λm=>if !m then(some<|.inr<|.inr (0,10))else((idx b a.2).bind λc=>(idx a.1 c.1).bind λn=>(idx f a.2).bind λp=>(idx a.1 c.1).bind λr=>(some<|a.1.set c.1.toNat<|aA (n+p)).bind λd=>(idx b a.2).bind λe=>(idx d e.2.1).bind λg=>(idx f a.2).bind λh=>(idx d e.2.1).bind λq=>(some<|d.set e.2.1.toNat<|aA<|g - h).bind λi=>some<|.inl (i,aA (a.2+1))))else(some<|.inr<|.inl a.1)
def rE(p0:LG×LT)(p1:LP)(f:Int)(g:Int)(b:LI)(c:Bool):Option (Int×Int):=if c then(some (0,2))else((mL p0 p1).bind λa=>if !decide ((b.length:Int)=(a.length:Int))then(some (0,10))else((cZ 8 (p1.length:Int) 0).bind λd=>(iter (qS b a) (d,0)).bind λe=>match e with | .inl z=>EF p1 f g z | .inr z=>some z))
def yl(p0:LG×LT)(p1:LP)(a:Int)(b:Int)(c:LI):Option (Int×Int):=(pk p0 p1).bind λx23=>if !decide (x23=0)then(some (0,x23))else((eO a 0<|aA<|(p1.length:Int) - 1).bind λd=>if !d then(rE p0 p1 a b c true)else((eO b 0<|aA<|(p1.length:Int) - 1).bind λe=>if !e then(rE p0 p1 a b c true)else(rE p0 p1 a b c<|decide (a=b))))
def L_  : Option (Bool):=some true
def xt(a:Int)(b:Bool):Option (Int ⊕ (Unit ⊕ Bool)):=if b then(some<|.inr<|.inr false)else(some<|.inl<|aA (a+1))
def rj(p0:TS×(LP)×Int)(p1:LP)(c:LM)(a:Int):Option (Int ⊕ (Unit ⊕ Bool)):=if decide (a<(c.length:Int))then((idx c a).bind λd=>(yl p0.1 p1 0 (aA (a+1)) d).bind λb=>if !decide (b.2=0)then(xt a true)else(xt a<|decide (b.1<p0.2.2)))else(some<|.inr<|.inl ())
def yC(p0:TS×(LP)×Int)(p1:LP)(a:LM):Option (Bool):=(kC 0<|aA<|(p1.length:Int) - 1).bind λb=>if !decide ((a.length:Int)=b)then(some false)else((iter (rj p0 p1 a) 0).bind λx23=>match x23 with | .inl z=>L_ | .inr z=>some z)
def LX  : Option (Bool):=some true
def oQ(a:Int)(b:Bool):Option (Int ⊕ (Unit ⊕ Bool)):=if b then(some<|.inr<|.inr false)else(some<|.inl<|aA (a+1))
def mb(p0:LI)(p1:Int)(f:Int)(a:Int):Option (Int ⊕ (Unit ⊕ Bool)):=if decide (a<(p0.length:Int))then((idx p0 a).bind λb=>(eO b p1 f).bind λc=>if !c then(oQ a true)else(if decide (a>0)then((idx p0<|aA<|a - 1).bind λd=>(idx p0 a).bind λe=>oQ a<|decide (d≥e))else(oQ a false)))else(some<|.inr<|.inl ())
def GJ(p0:LI)(p1:Int)(a:Int):Option (Bool):=(iter (mb p0 p1 a) 0).bind λb=>match b with | .inl z=>LX | .inr z=>some z
def Aa(p0:LP)(p1:LI):Option (Bool):=(GJ p1 0<|aA<|(p0.length:Int) - 1).bind λa=>some a
def F_  : Option (Bool):=some false
def ED(p0:LI)(p1:Int)(a:Int):Option (Int ⊕ (Unit ⊕ Bool)):=if decide (a<(p0.length:Int))then((idx p0 a).bind λb=>if decide (b=p1)then(some<|.inr<|.inr true)else(some<|.inl<|aA (a+1)))else(some<|.inr<|.inl ())
def th(p0:LI)(p1:Int):Option (Bool):=(iter (ED p0 p1) 0).bind λa=>match a with | .inl z=>F_ | .inr z=>some z
def MQ(a:Int):Option (Int):=some a
def yh(a:Int×Int)(b:Int):Option ((Int×Int) ⊕ Int):=some (.inl (b,aA (a.2+1)))
def ry(p0:LB)(p1:LI)(a:Int×Int):Option ((Int×Int) ⊕ Int):=if decide (a.2<(p0.length:Int))then((idx p0 a.2).bind λc=>(th p1 c.1).bind λx23=>(idx p0 a.2).bind λb=>(th p1 b.2.1).bind λd=>if !(x23 == d)then((idx p0 a.2).bind λ_=>yh a<|aA (a.1+b.2.2))else(yh a a.1))else(some<|.inr a.1)
def Aw(p0:LB)(p1:LI):Option (Int):=(iter (ry p0 p1) (0,0)).bind λa=>MQ a
def sg(p0:TS×(LP)×Int)(p1:LP)(d:LI)(a:Bool):Option (Bool):=if a then(some false)else((mL p0.1 p1).bind λb=>(Aw b d).bind λc=>some<|decide (c<p0.2.2))
def As(p0:TS×(LP)×Int)(p1:LP)(a:LI):Option (Bool):=(Aa p1 a).bind λb=>if !b then(sg p0 p1 a true)else(if decide ((a.length:Int)=0)then(sg p0 p1 a true)else(sg p0 p1 a<|decide ((a.length:Int)=(p1.length:Int))))
def yB(p0:TS×(LP)×Int)(p1:LP)(a:Int×LP×LP×LI×LM):Option (Bool):=if decide (a.1=1)then((kw p0 a.2.1 p1).bind λb=>some b)else(if decide (a.1=2)then((kw p0 a.2.1 p1).bind λc=>if c then((oF p0 p1).bind λd=>some<|decide ((d.length:Int)=0))else(some false))else(if decide (a.1=3)then((kw p0 a.2.1 p1).bind λe=>if !e then(some false)else((sL p0 a.2.1).bind λf=>some<|decide (f.1=0)))else(if decide (a.1=4)then((xu p0 a.2.1 a.2.2.1 p1).bind λg=>some g)else(if decide (a.1=5)then((yC p0 p1 a.2.2.2.2).bind λh=>some h)else((As p0 p1 a.2.2.2.1).bind λi=>some i)))))
def Eh(a:Bool):Option (Int):=if a then(some 10)else(some 0)
def yd(p0:TS×(LP)×Int)(p1:LP)(b:Int×LP×LP×LI×LM):Option (Int):=(GC p0 p1).bind λa=>if !decide (a=0)then(some a)else((eO b.1 1 6).bind λc=>if !c then(some 2)else((sf b).bind λd=>if !d then(Eh true)else((yB p0 p1 b).bind λe=>Eh (!e))))
def sK(p0:BS×(TS×(LP)×Int)×(LP)×(Int×LP×LP×LI×LM)):Option (Bool):=(mR p0.1).bind λa=>if a then((yd p0.2.1 p0.2.2.1 p0.2.2.2).bind λb=>some<|decide (b=0))else(some false)
def oH(p0:Int)(a:BS):Option (BS):=if decide (p0=0)then(some ([48]:BS))else(if decide (p0<0)then((bB ([45]:BS) a).bind λb=>some b)else(some a))
def rS(a:BS×Int)(b:Int):Option ((BS×Int) ⊕ (BS)):=(bB (cM [IntKind.wrap .u8<|aA (48+b)]) a.1).bind λc=>some<|.inl (c,aA<|Int.tdiv a.2 10)
def lh(a:BS×Int):Option ((BS×Int) ⊕ (BS)):=if !decide (a.2=0)then(if decide ((Int.tmod a.2 10)<0)then(rS a<|aA<|0 - (Int.tmod a.2 10))else(rS a<|Int.tmod a.2 10))else(some<|.inr a.1)
def jc(p0:Int):Option (BS):=(iter (lh) (([]:BS),p0)).bind λa=>oH p0 a
def sw(p0:Int×Int):Option (BS):=(mM p0).bind λe=>if !e then(some ([]:BS))else((jc p0.1).bind λa=>(bB a ([44]:BS)).bind λb=>(jc p0.2).bind λc=>(bB b c).bind λd=>some d)
def xB(p0:LG×LT)(p1:Int):Option (BS):=if decide (p1=0)then(some ([45]:BS))else((idx p0.1<|aA<|p1 - 1).bind λa=>some a.1)
def FX(a:LI):Option (BS):=some (cM a)
def FW(a:LI×Int)(b:LI):Option ((LI×Int) ⊕ (LI)):=(aU 1 b [10]).bind λc=>some<|.inl (c,aA (a.2+1))
def rz(p0:LG×LT)(b:LI×Int)(c:BS×LI)(a:LI×Int):Option ((LI×Int) ⊕ (LI)):=if decide (a.2<4)then((idx p0.2 b.2).bind λ_=>(idx c.2 a.2).bind λd=>(xB p0 d).bind λe=>(bB ([32]:BS) e).bind λf=>(aU 1 a.1<|zz f).bind λg=>some<|.inl (g,aA (a.2+1)))else(some<|.inr a.1)
def rA(p0:LG×LT)(a:LI×Int):Option ((LI×Int) ⊕ (LI)):=if decide (a.2<(p0.2.length:Int))then((idx p0.2 a.2).bind λb=>(bB ([116,105,108,101,32]:BS) b.1).bind λc=>(aU 1 a.1<|zz c).bind λd=>(iter (rz p0 a b) (d,0)).bind λe=>FW a e)else(some<|.inr a.1)
def FY(p0:LG×LT)(a:LI):Option (BS):=(iter (rA p0) (a,0)).bind λb=>FX b
def rB(p0:LG×LT)(a:LI×Int):Option ((LI×Int) ⊕ (LI)):=if decide (a.2<(p0.1.length:Int))then((idx p0.1 a.2).bind λb=>(bB ([103,108,117,101,32]:BS) b.1).bind λc=>(bB c ([32]:BS)).bind λd=>(idx p0.1 a.2).bind λ_=>(jc b.2).bind λe=>(bB d e).bind λf=>(bB f ([10]:BS)).bind λg=>(aU 1 a.1<|zz g).bind λh=>some<|.inl (h,aA (a.2+1)))else(some<|.inr a.1)
def Ax(p0:LG×LT):Option (BS):=(iter (rB p0) ([],0)).bind λa=>FY p0 a
def LA(a:BS):Option (BS):=some a
def qO(p0:TS×(LP)×Int)(a:BS×Int):Option ((BS×Int) ⊕ (BS)):=if decide (a.2<(p0.2.1.length:Int))then((idx p0.2.1 a.2).bind λb=>(idx p0.1.2 b.2).bind λc=>(bB ([115,101,101,100,32]:BS) c.1).bind λd=>(bB d ([32]:BS)).bind λe=>(idx p0.2.1 a.2).bind λ_=>(sw b.1).bind λf=>(bB e f).bind λg=>(bB g ([10]:BS)).bind λh=>(bB a.1 h).bind λi=>some<|.inl (i,aA (a.2+1)))else(some<|.inr a.1)
def yr(p0:TS×(LP)×Int):Option (BS):=(jc p0.2.2).bind λa=>(bB ([116,101,109,112,101,114,97,116,117,114,101,32]:BS) a).bind λb=>(bB b ([10]:BS)).bind λc=>(Ax p0.1).bind λd=>(bB c d).bind λe=>(iter (qO p0) (e,0)).bind λf=>LA f
def yi(p0:Int):Option (BS):=(eO p0 1 6).bind λb=>if !b then(some ([]:BS))else((idx [([103,114,111,119,110]:BS),([116,101,114,109,105,110,97,108]:BS),([117,110,105,113,117,101]:BS),([99,111,110,102,108,105,99,116]:BS),([115,116,97,98,108,101]:BS),([108,111,111,115,101]:BS)]<|aA<|p0 - 1).bind λa=>some a)
def Lk(a:BS):Option (BS):=some a
def qu(p0:BS)(p1:LP)(a:BS×Int):Option ((BS×Int) ⊕ (BS)):=if decide (a.2<(p1.length:Int))then((bB p0 ([32]:BS)).bind λc=>(idx p1 a.2).bind λb=>(idx p1 a.2).bind λ_=>(idx p1 a.2).bind λ_=>(jc b.1.1).bind λd=>(bB c d).bind λe=>(bB e ([32]:BS)).bind λf=>(jc b.1.2).bind λg=>(bB f g).bind λh=>(bB h ([32]:BS)).bind λi=>(jc b.2).bind λj=>(bB i j).bind λk=>(bB k ([10]:BS)).bind λl=>(bB a.1 l).bind λm=>some<|.inl (m,aA (a.2+1)))else(some<|.inr a.1)
def rN(p0:BS)(p1:LP):Option (BS):=(iter (qu p0 p1) (([]:BS),0)).bind λa=>Lk a
def Ea(a:BS):Option (BS):=(bB a ([10]:BS)).bind λb=>some b
def vL(p1:LI)(a:BS×Int):Option ((BS×Int) ⊕ (BS)):=if decide (a.2<(p1.length:Int))then((idx p1 a.2).bind λb=>(jc b).bind λc=>(bB ([32]:BS) c).bind λd=>(bB a.1 d).bind λe=>some<|.inl (e,aA (a.2+1)))else(some<|.inr a.1)
def rO(p0:BS)(p1:LI):Option (BS):=(iter (vL p1) (p0,0)).bind λa=>Ea a
def LY(a:BS):Option (BS):=some a
def ri(p0:Int×LP×LP×LI×LM)(a:BS×Int):Option ((BS×Int) ⊕ (BS)):=if decide (a.2<(p0.2.2.2.2.length:Int))then((idx p0.2.2.2.2 a.2).bind λb=>(rO ([102,108,111,119]:BS) b).bind λc=>(bB a.1 c).bind λd=>some<|.inl (d,aA (a.2+1)))else(some<|.inr a.1)
def rq(p0:Int×LP×LP×LI×LM)(a:BS):Option (BS):=(iter (ri p0) (a,0)).bind λb=>LY b
def yA(p0:Int×LP×LP×LI×LM):Option (BS):=(yi p0.1).bind λb=>(bB ([112,114,111,111,102,32]:BS) b).bind λc=>(bB c ([10]:BS)).bind λd=>(rN ([112,117,116]:BS) p0.2.1).bind λe=>(bB d e).bind λf=>(rN ([111,116,104,101,114]:BS) p0.2.2.1).bind λg=>(bB f g).bind λa=>if decide ((p0.2.2.2.1.length:Int)>0)then((rO ([112,97,114,116]:BS) p0.2.2.2.1).bind λh=>(bB a h).bind λi=>rq p0 i)else(rq p0 a)
def Dl(p0:BS×(TS×(LP)×Int)×(LP)×(Int×LP×LP×LI×LM))(a:BS):Option (BS):=(yA p0.2.2.2).bind λb=>(bB a b).bind λc=>some c
def qm(p0:BS×(TS×(LP)×Int)×(LP)×(Int×LP×LP×LI×LM))(a:BS×Int):Option ((BS×Int) ⊕ (BS)):=if decide (a.2<(p0.2.2.1.length:Int))then((idx p0.2.2.1 a.2).bind λb=>(idx p0.2.1.1.2 b.2).bind λc=>(bB ([97,116,32]:BS) c.1).bind λd=>(bB d ([32]:BS)).bind λe=>(idx p0.2.2.1 a.2).bind λ_=>(sw b.1).bind λf=>(bB e f).bind λg=>(bB g ([10]:BS)).bind λh=>(bB a.1 h).bind λi=>some<|.inl (i,aA (a.2+1)))else(some<|.inr a.1)
def wW(p0:BS×(TS×(LP)×Int)×(LP)×(Int×LP×LP×LI×LM)):Option (BS):=(bB ([101,110,116,114,121,32]:BS) p0.1).bind λa=>(bB a ([10]:BS)).bind λb=>(yr p0.2.1).bind λc=>(bB b c).bind λd=>(bB d ([101,110,100,10]:BS)).bind λe=>(iter (qm p0) (e,0)).bind λf=>Dl p0 f
def yj(p0:BS×(TS×(LP)×Int)×(LP)×(Int×LP×LP×LI×LM)):Option (BS):=(sK p0).bind λb=>if !b then(some ([]:BS))else((wW p0).bind λa=>if decide ((a.length:Int)>20000)then(some ([]:BS))else(some a))
def y_(p0:Int):Option (LI):=some [IntKind.wrap .u8 p0,IntKind.wrap .u8<|Int.fdiv p0<|2 ^ 8,IntKind.wrap .u8<|Int.fdiv p0<|2 ^ 16,IntKind.wrap .u8<|Int.fdiv p0<|2 ^ 24]
def MO(a:Int)(b:Int):Option (Int):=some (aA<|(aA (b*65536))+a)
def Vi(p0:LI)(a:Int×Int×Int):Option ((Int×Int×Int) ⊕ (Int×Int)):=if decide (a.2.2<(p0.length:Int))then((idx p0 a.2.2).bind λb=>some<|.inl (Int.tmod (aA<|a.1+(aA b)) 65521,Int.tmod (aA<|a.2.1+(Int.tmod (aA<|a.1+(aA b)) 65521)) 65521,aA (a.2.2+1)))else(some<|.inr (a.1,a.2.1))
def Hi(p0:LI):Option (Int):=(iter (Vi p0) (1,0,0)).bind λa=>MO a.1 a.2
def yz(p0:BS):Option (LI):=(y_ (p0.length:Int)).bind λe=>(aU 1 e<|zz p0).bind λa=>(Hi<|zz p0).bind λb=>(y_ b).bind λc=>(aU 1 a c).bind λd=>some d
def Ac(p0:BS×(TS×(LP)×Int)×(LP)×(Int×LP×LP×LI×LM)):Option (LI×Int):=(sK p0).bind λb=>if !b then(some (([]:LI),10))else((yj p0).bind λa=>if decide (a=([]:BS))then(some (([]:LI),4))else((yz a).bind λc=>some (c,0)))
def Gc(p0:(List (LI×LI))×Int)(a:List (LI×LI)):Option (((List (LI×LI))×Int)):=some (a,p0.2)
def mp(p0:(List (LI×LI))×Int)(a:Int×(List (LI×LI))):Option ((Int×(List (LI×LI))) ⊕ ((List (LI×LI)))):=if decide (a.1<(p0.1.length:Int))then((idx p0.1 a.1).bind λb=>(aU 1 ([]:LI) b.1).bind λc=>(idx p0.1 a.1).bind λd=>(aU 1 ([]:LI) d.2).bind λe=>(aU 48 a.2 [(c,e)]).bind λf=>some<|.inl (aA (a.1+1),f))else(some<|.inr a.2)
def Ar(p0:(List (LI×LI))×Int):Option (((List (LI×LI))×Int)):=(iter (mp p0) (0,[])).bind λa=>Gc p0 a
def Mr(a:LI):Option (LI):=some a
def wD(p0:LI)(a:LI×Int):Option ((LI×Int) ⊕ (LI)):=if decide (a.2<(p0.length:Int))then((idx p0 a.2).bind λb=>(idx a.1 a.2).bind λd=>(some<|a.1.set a.2.toNat b).bind λc=>some<|.inl (c,aA (a.2+1)))else(some<|.inr a.1)
def sZ(p0:LI):Option (LI):=(cZ 1 (p0.length:Int) 0).bind λa=>(iter (wD p0) (a,0)).bind λb=>Mr b
def Hn(p0:LI×LI):Option ((LI×LI)):=(sZ p0.1).bind λa=>(sZ p0.2).bind λb=>some (a,b)
def MJ(a:List (LI×LI)):Option ((List (LI×LI))):=some a
def wQ(p0:List (LI×LI))(a:(List (LI×LI))×Int):Option (((List (LI×LI))×Int) ⊕ ((List (LI×LI)))):=if decide (a.2<(p0.length:Int))then((idx p0 a.2).bind λb=>(Hn b).bind λc=>(idx a.1 a.2).bind λe=>(some<|a.1.set a.2.toNat c).bind λd=>some<|.inl (d,aA (a.2+1)))else(some<|.inr a.1)
def Ap(p0:List (LI×LI)):Option ((List (LI×LI))):=(cZ 48 (p0.length:Int) (([],[]):LI×LI)).bind λa=>(iter (wQ p0) (a,0)).bind λb=>MJ b
def laws_toStore(p0:(List (LI×LI))×Int):Option (((List (LI×LI))×Int)):=(Ap p0.1).bind λx18=>some (x18,p0.2)
def sY(p0:Int×Int):Option ((Int×Int)):=some p0
def Gp(p0:(Int×Int)×Int):Option (((Int×Int)×Int)):=(sY p0.1).bind λa=>some (a,p0.2)
def Lu(a:LP):Option (LP):=some a
def wg(p0:LP)(a:LP×Int):Option ((LP×Int) ⊕ (LP)):=if decide (a.2<(p0.length:Int))then((idx p0 a.2).bind λb=>(Gp b).bind λc=>(idx a.1 a.2).bind λe=>(some<|a.1.set a.2.toNat c).bind λd=>some<|.inl (d,aA (a.2+1)))else(some<|.inr a.1)
def ym(p0:LP):Option (LP):=(cZ 24 (p0.length:Int) ((0,0),0)).bind λa=>(iter (wg p0) (a,0)).bind λb=>Lu b
def xJ(p0:LP):Option ((LP)):=(ym p0).bind λa=>some a
def Ha(p0:BS×Int):Option ((BS×Int)):=some p0
def Mn(a:LG):Option (LG):=some a
def wC(p0:LG)(a:LG×Int):Option ((LG×Int) ⊕ (LG)):=if decide (a.2<(p0.length:Int))then((idx p0 a.2).bind λb=>(Ha b).bind λc=>(idx a.1 a.2).bind λe=>(some<|a.1.set a.2.toNat c).bind λd=>some<|.inl (d,aA (a.2+1)))else(some<|.inr a.1)
def Af(p0:LG):Option (LG):=(cZ 24 (p0.length:Int) ((([]:BS),0):BS×Int)).bind λa=>(iter (wC p0) (a,0)).bind λb=>Mn b
def Mu(a:LI):Option (LI):=some a
def wH(p0:LI)(a:LI×Int):Option ((LI×Int) ⊕ (LI)):=if decide (a.2<(p0.length:Int))then((idx p0 a.2).bind λb=>(idx a.1 a.2).bind λd=>(some<|a.1.set a.2.toNat b).bind λc=>some<|.inl (c,aA (a.2+1)))else(some<|.inr a.1)
def pp(p0:LI):Option (LI):=(cZ 8 (p0.length:Int) 0).bind λa=>(iter (wH p0) (a,0)).bind λb=>Mu b
def G_(p0:BS×LI):Option ((BS×LI)):=(pp p0.2).bind λa=>some (p0.1,a)
def Ml(a:LT):Option (LT):=some a
def wB(p0:LT)(a:LT×Int):Option ((LT×Int) ⊕ (LT)):=if decide (a.2<(p0.length:Int))then((idx p0 a.2).bind λb=>(G_ b).bind λc=>(idx a.1 a.2).bind λe=>(some<|a.1.set a.2.toNat c).bind λd=>some<|.inl (d,aA (a.2+1)))else(some<|.inr a.1)
def Ae(p0:LT):Option (LT):=(cZ 40 (p0.length:Int) ((([]:BS),[]):BS×LI)).bind λa=>(iter (wB p0) (a,0)).bind λb=>Ml b
def Gd(p0:LG×LT):Option (TS):=(Af p0.1).bind λa=>(Ae p0.2).bind λb=>some (a,b)
def Gn(p0:TS×(LP)×Int):Option ((TS×(LP)×Int)):=(Gd p0.1).bind λa=>(xJ p0.2.1).bind λb=>some (a,(b,p0.2.2))
def Gq(p0:(Int×Int)×Int):Option (((Int×Int)×Int)):=(sY p0.1).bind λa=>some (a,p0.2)
def Lw(a:LP):Option (LP):=some a
def wh(p0:LP)(a:LP×Int):Option ((LP×Int) ⊕ (LP)):=if decide (a.2<(p0.length:Int))then((idx p0 a.2).bind λb=>(Gq b).bind λc=>(idx a.1 a.2).bind λe=>(some<|a.1.set a.2.toNat c).bind λd=>some<|.inl (d,aA (a.2+1)))else(some<|.inr a.1)
def sC(p0:LP):Option (LP):=(cZ 24 (p0.length:Int) ((0,0),0)).bind λa=>(iter (wh p0) (a,0)).bind λb=>Lw b
def Lx(a:LM):Option (LM):=some a
def wi(p0:LM)(a:LM×Int):Option ((LM×Int) ⊕ (LM)):=if decide (a.2<(p0.length:Int))then((idx p0 a.2).bind λb=>(pp b).bind λc=>(idx a.1 a.2).bind λe=>(some<|a.1.set a.2.toNat c).bind λd=>some<|.inl (d,aA (a.2+1)))else(some<|.inr a.1)
def yn(p0:LM):Option (LM):=(cZ 24 (p0.length:Int) ([]:LI)).bind λa=>(iter (wi p0) (a,0)).bind λb=>Lx b
def GL(p0:Int×LP×LP×LI×LM):Option ((Int×LP×LP×LI×LM)):=(sC p0.2.1).bind λa=>(sC p0.2.2.1).bind λb=>(pp p0.2.2.2.1).bind λc=>(yn p0.2.2.2.2).bind λd=>some (p0.1,(a,(b,(c,d))))
def laws_toEntry(p0:BS×(TS×(LP)×Int)×(LP)×(Int×LP×LP×LI×LM)):Option ((BS×(TS×(LP)×Int)×(LP)×(Int×LP×LP×LI×LM))):=(Gn p0.2.1).bind λx66=>(xJ p0.2.2.1).bind λx81=>(GL p0.2.2.2).bind λx89=>some (p0.1,(x66,(x81,x89)))
def f_(p0:Int)(p1:Int)(a:Int):Option (Bool):=if decide (p0≥p1)then(some<|decide (p0<=a))else(some false)
def Dd  : Option (Int):=some (-1)
def zL(p0:List (LI×LI))(p1:(LI×LI)->Option Bool)(a:Int):Option (Int ⊕ (Unit ⊕ Int)):=if decide (a<(p0.length:Int))then((idx p0 a).bind λb=>(p1 b).bind λc=>if c then(some<|.inr<|.inr a)else(some<|.inl<|aA (a+1)))else(some<|.inr<|.inl ())
def DK(p0:List (LI×LI))(p1:(LI×LI)->Option Bool):Option (Int):=(iter (zL p0 p1) 0).bind λa=>match a with | .inl z=>Dd | .inr z=>some z
def vp(p0:List (LI×LI))(p1:(LI×LI)->Option Bool):Option (Bool):=(DK p0 p1).bind λa=>some<|decide (a≥0)
def jK(p0:LI×LI):Option (Bool):=some (decide ((aA ((p0.1.length:Int)+(p0.2.length:Int)))>100000))
def mE(p0:(List (LI×LI))×Int):Option (Bool):=if decide ((p0.1.length:Int)=2)then((f_ p0.2 0 1).bind λb=>if b then((vp p0.1 (λc=>jK c)).bind λa=>some (!a))else(some false))else(some false)
def Gm(p0:BS):Option (Bool):=if decide ((p0.length:Int)≥1)then(some<|decide ((p0.length:Int)<=12))else(some false)
def lq(a:Int)(b:Bool):Option (Int ⊕ (Unit ⊕ Bool)):=if b then(some<|.inr<|.inr false)else(some<|.inl<|aA (a+1))
def ky(a:Int)(b:UInt8)(c:Bool):Option (Int ⊕ (Unit ⊕ Bool)):=if !c then(if decide (a=0)then(lq a true)else(if decide ((b.toNat:Int)<48)then(lq a<|!decide ((b.toNat:Int)=95))else(if decide ((b.toNat:Int)>57)then(lq a<|!decide ((b.toNat:Int)=95))else(lq a false))))else(lq a false)
def mH(p0:BS)(a:Int):Option (Int ⊕ (Unit ⊕ Bool)):=if decide (a<(p0.length:Int))then((idx p0 a).bind λb=>if decide ((b.toNat:Int)≥97)then(if decide ((b.toNat:Int)<=122)then(ky a b true)else(if decide ((b.toNat:Int)≥65)then(ky a b<|decide ((b.toNat:Int)<=90))else(ky a b false)))else(if decide ((b.toNat:Int)≥65)then(ky a b<|decide ((b.toNat:Int)<=90))else(ky a b false)))else(some<|.inr<|.inl ())
def mS(p0:BS):Option (Bool):=(iter (mH p0) 0).bind λa=>match a with | .inl z=>Gm p0 | .inr z=>some z
def CP  : Option (Int):=some (-1)
def Ku(p0:LI)(p1:Int->Option Bool)(a:Int):Option (Int ⊕ (Unit ⊕ Int)):=if decide (a<(p0.length:Int))then((idx p0 a).bind λb=>(p1 b).bind λc=>if c then(some<|.inr<|.inr a)else(some<|.inl<|aA (a+1)))else(some<|.inr<|.inl ())
def Do(p0:LI)(p1:Int->Option Bool):Option (Int):=(iter (Ku p0 p1) 0).bind λa=>match a with | .inl z=>CP | .inr z=>some z
def vu(p0:LI)(p1:Int->Option Bool):Option (Bool):=(Do p0 p1).bind λa=>some<|decide (a≥0)
def mu(p0:Int)(p1:LG×LT):Option (Bool):=(f_ p0 0 (p1.1.length:Int)).bind λa=>some (!a)
def EO  : Option (Bool):=some true
def oX(p0:LG×LT)(a:Int×(List (BS×Bool)))(b:BS×LI)(c:Bool):Option ((Int×(List (BS×Bool))) ⊕ (Unit ⊕ Bool)):=if c then(some<|.inr<|.inr false)else((vu b.2 (λe=>mu e p0)).bind λd=>if d then(some<|.inr<|.inr false)else(some<|.inl (aA (a.1+1),bQ a.2 b.1 true)))
def mc(p0:LG×LT)(a:Int×(List (BS×Bool))):Option ((Int×(List (BS×Bool))) ⊕ (Unit ⊕ Bool)):=if decide (a.1<(p0.2.length:Int))then((idx p0.2 a.1).bind λb=>(mS b.1).bind λc=>if !c then(oX p0 a b true)else(if((cB a.2 b.1).getD false)then(oX p0 a b true)else(oX p0 a b<|!decide ((b.2.length:Int)=4))))else(some<|.inr<|.inl ())
def EP(p0:LG×LT):Option (Bool):=(iter (mc p0) (0,([]:List (BS×Bool)))).bind λa=>match a with | .inl z=>EO | .inr z=>some z
def oU(a:Int×(List (BS×Bool)))(b:BS×Int)(c:Bool):Option ((Int×(List (BS×Bool))) ⊕ (Unit ⊕ Bool)):=if c then(some<|.inr<|.inr false)else(some<|.inl (aA (a.1+1),bQ a.2 b.1 true))
def mf(p0:LG×LT)(a:Int×(List (BS×Bool))):Option ((Int×(List (BS×Bool))) ⊕ (Unit ⊕ Bool)):=if decide (a.1<(p0.1.length:Int))then((idx p0.1 a.1).bind λb=>(mS b.1).bind λc=>if !c then(oU a b true)else(if((cB a.2 b.1).getD false)then(oU a b true)else((f_ b.2 1 4).bind λd=>oU a b (!d))))else(some<|.inr<|.inl ())
def xm(p0:LG×LT)(a:Bool):Option (Bool):=if a then(some false)else((iter (mf p0) (0,([]:List (BS×Bool)))).bind λb=>match b with | .inl z=>EP p0 | .inr z=>some z)
def sR(p0:LG×LT):Option (Bool):=if decide ((p0.1.length:Int)>200)then(xm p0 true)else((f_ (p0.2.length:Int) 1 160).bind λa=>xm p0 (!a))
def oK(p0:Int×Int):Option (Bool):=(f_ p0.1 (-60) 60).bind λa=>if a then((f_ p0.2 (-60) 60).bind λb=>some b)else(some false)
def iG(p0:Int)(p1:Int):Option (Bool):=(f_ p0 0<|aA<|p1 - 1).bind λa=>some a
def yV  : Option (Int):=some 0
def jb(p0:LI)(a:Int):Option (Int ⊕ (Unit ⊕ Int)):=if decide (a<(p0.length:Int))then((idx p0 a).bind λb=>if !decide (b=0)then(some<|.inr<|.inr b)else(some<|.inl<|aA (a+1)))else(some<|.inr<|.inl ())
def tu(p0:LI):Option (Int):=(iter (jb p0) 0).bind λa=>match a with | .inl z=>yV | .inr z=>some z
def sS(p0:Int):Option (Bool):=some (!decide (p0=p0))
def oM(p0:Int)(p1:Int):Option (Int):=(sS p0).bind λb=>(sS p1).bind λa=>if b then(if a then(some 0)else(some (-1)))else(if a then(some 1)else(if decide (p0<p1)then(some (-1))else(if decide (p0>p1)then(some 1)else(some 0))))
def kv(p0:Int×Int)(p1:Int×Int):Option (Int):=(oM p0.2 p1.2).bind λa=>(oM p0.1 p1.1).bind λb=>(tu [a,b]).bind λc=>some c
def yI(p0:Int×Int)(p1:Int×Int):Option (Bool):=(kv p0 p1).bind λa=>some<|decide (a<0)
def FA(p0:LP):Option (Bool):=some (decide ((p0.length:Int)<=500))
def mD(a:Int)(b:Bool):Option (Int ⊕ (Unit ⊕ Bool)):=if b then(some<|.inr<|.inr false)else(some<|.inl<|aA (a+1))
def mw(p0:LP)(a:Int):Option (Int ⊕ (Unit ⊕ Bool)):=if decide (a<(p0.length:Int))then((idx p0 a).bind λb=>(oK b.1).bind λc=>if !c then(mD a true)else((iG b.2 160).bind λd=>if !d then(mD a true)else(if decide (a>0)then((idx p0<|aA<|a - 1).bind λe=>(yI e.1 b.1).bind λf=>mD a (!f))else(mD a false))))else(some<|.inr<|.inl ())
def An(p0:LP):Option (Bool):=(iter (mw p0) 0).bind λa=>match a with | .inl z=>FA p0 | .inr z=>some z
def vt  : Option (Int):=some (-1)
def CK(p0:LP)(p1:((Int×Int)×Int)->Option Bool)(a:Int):Option (Int ⊕ (Unit ⊕ Int)):=if decide (a<(p0.length:Int))then((idx p0 a).bind λb=>(p1 b).bind λc=>if c then(some<|.inr<|.inr a)else(some<|.inl<|aA (a+1)))else(some<|.inr<|.inl ())
def nQ(p0:LP)(p1:((Int×Int)×Int)->Option Bool):Option (Int):=(iter (CK p0 p1) 0).bind λa=>match a with | .inl z=>vt | .inr z=>some z
def CR(p0:LP)(p1:((Int×Int)×Int)->Option Bool):Option (Bool):=(nQ p0 p1).bind λa=>some<|decide (a≥0)
def ov(p0:LG×LT)(p1:Int):Option (Bool):=(iG p1 (p0.2.length:Int)).bind λa=>some a
def nT(p0:(Int×Int)×Int)(p1:LG×LT):Option (Bool):=(ov p1 p0.2).bind λa=>some (!a)
def jL(p0:LG×LT)(p1:LP):Option (Bool):=(sR p0).bind λa=>if a then((An p1).bind λb=>if b then((CR p1 (λd=>nT d p0)).bind λc=>some (!c))else(some false))else(some false)
def ww(p0:Int):Option (Bool):=(f_ p0 1 16).bind λa=>some a
def Fl(a:LM):Option (LM):=some a
def rZ(a:LM×Int×(List (Int×Int)))(b:LM)(c:Int)(d:List (Int×Int)):Option ((LM×Int×(List (Int×Int))) ⊕ (LM)):=(idx b c).bind λe=>(aU 8 e [a.2.1]).bind λf=>(some<|b.set c.toNat f).bind λg=>some<|.inl (g,aA (a.2.1+1),d)
def wJ(p0:Int)(b:LI)(a:LM×Int×(List (Int×Int))):Option ((LM×Int×(List (Int×Int))) ⊕ (LM)):=if decide (a.2.1<(p0.toNat:Int))then((idx b a.2.1).bind λe=>(iter (gstep b) a.2.1).bind λc=>if !(cW a.2.2 c)then((aU 24 a.1 [([]:LI)]).bind λd=>rZ a d (a.1.length:Int)<|bQ a.2.2 a.2.1 (a.1.length:Int))else(rZ a a.1 ((cB a.2.2 c).getD 0) a.2.2))else(some<|.inr a.1)
def Fo(p0:Int)(a:LI):Option (LM):=(iter (wJ p0 a) ([],0,([]:List (Int×Int)))).bind λb=>Fl b
def rY(a:Int×LI)(b:LI):Option ((Int×LI) ⊕ (LI)):=some (.inl (aA (a.1+1),b))
def wK(p1:LB)(a:Int×LI):Option ((Int×LI) ⊕ (LI)):=if decide (a.1<(p1.length:Int))then((idx p1 a.1).bind λb=>(idx a.2 b.1).bind λe=>(iter (gstep a.2) b.1).bind λc=>(idx a.2 b.2.1).bind λf=>(iter (gstep a.2) b.2.1).bind λd=>if decide (c<d)then(rY a<|a.2.set d.toNat c)else(if decide (d<c)then(rY a<|a.2.set c.toNat d)else(rY a a.2)))else(some<|.inr a.2)
def Fp(p0:Int)(p1:LB)(a:LI):Option (LM):=(iter (wK p1) (0,a)).bind λb=>Fo p0 b
def wL(p0:Int)(a:Int×LI):Option ((Int×LI) ⊕ (LI)):=if decide (a.1<(p0.toNat:Int))then((nr p0.toNat a.2 a.1).bind λb=>some<|.inl (aA (a.1+1),b))else(some<|.inr a.2)
def yU(p0:Int)(p1:LB):Option (LM):=(nC 8 p0).bind λb=>(iter (wL p0) (0,b)).bind λa=>Fp p0 p1 a
def KG  : Option (Int):=some (-1)
def CJ(p0:LB)(p1:(Int×Int×Int)->Option Bool)(a:Int):Option (Int ⊕ (Unit ⊕ Int)):=if decide (a<(p0.length:Int))then((idx p0 a).bind λb=>(p1 b).bind λc=>if c then(some<|.inr<|.inr a)else(some<|.inl<|aA (a+1)))else(some<|.inr<|.inl ())
def wc(p0:LB)(p1:(Int×Int×Int)->Option Bool):Option (Int):=(iter (CJ p0 p1) 0).bind λa=>match a with | .inl z=>KG | .inr z=>some z
def CS(b:LB)(a:Int):Option (LB):=(i_ b a (0,(0,0))).bind λc=>(dR c 0 a).bind λd=>some d
def uS(a:LB×Int×Int)(b:LB)(c:Int):Option ((LB×Int×Int) ⊕ (LB×Int)):=some (.inl (b,c,aA (a.2.2+1)))
def CG(p1:(Int×Int×Int)->Option Bool)(a:LB×Int×Int):Option ((LB×Int×Int) ⊕ (LB×Int)):=if decide (a.2.2<(a.1.length:Int))then((idx a.1 a.2.2).bind λb=>(p1 b).bind λc=>if !c then((idx a.1 a.2.1).bind λe=>(some<|a.1.set a.2.1.toNat b).bind λd=>uS a d<|aA (a.2.1+1))else(uS a a.1 a.2.1))else(some<|.inr (a.1,a.2.1))
def qE(p0:LB)(p1:(Int×Int×Int)->Option Bool):Option (LB):=(wc p0 p1).bind λa=>if decide (a=(-1))then(some p0)else((iter (CG p1) (p0,a,aA (a+1))).bind λb=>CS b.1 b.2)
def qK(c:LB)(a:Bool):Option (LB):=if a then(some ([]:LB))else((aU 24 ([]:LB) c).bind λb=>some b)
def oR(p0:LB):Option (LB):=qK p0 false
def DW(p0:Int×Int×Int)(p1:Int):Option (Bool):=some (decide (p0.2.2<p1))
def DU(a:LM)(b:LB):Option (Int×LB):=some ((a.length:Int),b)
def wy(a:LB×Int)(b:LB):Option ((LB×Int) ⊕ (LB)):=some (.inl (b,aA (a.2+1)))
def vQ(p1:LB)(c:LI)(a:LB×Int):Option ((LB×Int) ⊕ (LB)):=if decide (a.2<(p1.length:Int))then((idx p1 a.2).bind λb=>(idx c b.1).bind λe=>(idx c b.2.1).bind λf=>if !decide (e=f)then((idx c b.1).bind λg=>(idx c b.2.1).bind λh=>(aU 24 a.1 [(g,(h,b.2.2))]).bind λd=>wy a d)else(wy a a.1))else(some<|.inr a.1)
def DV(p1:LB)(a:LM)(b:LI):Option (Int×LB):=(iter (vQ p1 b) ([],0)).bind λc=>DU a c
def DT(a:LI×Int)(b:LI):Option ((LI×Int) ⊕ (LI)):=some (.inl (b,aA (a.2+1)))
def qC(d:LI×Int)(b:LI)(a:LI×Int):Option ((LI×Int) ⊕ (LI)):=if decide (a.2<(b.length:Int))then((idx b a.2).bind λc=>(idx a.1 c).bind λf=>(some<|a.1.set c.toNat d.2).bind λe=>some<|.inl (e,aA (a.2+1)))else(some<|.inr a.1)
def nV(b:LM)(a:LI×Int):Option ((LI×Int) ⊕ (LI)):=if decide (a.2<(b.length:Int))then((idx b a.2).bind λc=>(iter (qC a c) (a.1,0)).bind λd=>DT a d)else(some<|.inr a.1)
def xX(p0:Int)(p1:LB)(f:Int):Option (Int×LB):=(oR p1).bind λc=>(qE c (λg=>DW g f)).bind λd=>(yU p0 d).bind λa=>(cZ 8 p0 0).bind λe=>(iter (nV a) (e,0)).bind λb=>DV p1 a b
def uL(p0:LP)(p1:Int×Int)(c:((Int×Int)×Int)->(Int×Int)->Option Int)(a:Int):Option (Int×Bool):=if decide (a<(p0.length:Int))then((idx p0 a).bind λx23=>(c x23 p1).bind λb=>some (a,decide (b=0)))else(some (a,false))
def zM(p0:LP)(p1:Int×Int)(d:((Int×Int)×Int)->(Int×Int)->Option Int)(a:Int×Int):Option ((Int×Int) ⊕ Int):=if decide (a.1<a.2)then((idx p0<|aA<|Int.fdiv (IntKind.wrap .u64<|aA (a.1+a.2))<|2 ^ 1).bind λb=>(d b p1).bind λc=>if decide (c<0)then(some<|.inl (aA<|(aA<|Int.fdiv (IntKind.wrap .u64<|aA (a.1+a.2))<|2 ^ 1)+1,a.2))else(some<|.inl (a.1,aA<|Int.fdiv (IntKind.wrap .u64<|aA (a.1+a.2))<|2 ^ 1)))else(some<|.inr a.1)
def nW(p0:LP)(p1:Int×Int)(a:((Int×Int)×Int)->(Int×Int)->Option Int):Option (Int×Bool):=(iter (zM p0 p1 a) (0,(p0.length:Int))).bind λb=>uL p0 p1 a b
def jJ(p0:(Int×Int)×Int)(p1:Int×Int):Option (Int):=(kv p0.1 p1).bind λa=>some a
def vH(p0:LP)(p1:Int×Int):Option (Int):=(nW p0 p1 (λb c=>jJ b c)).bind λa=>if a.2 then(some a.1)else(some (-1))
def lm(p0:Int×Int)(p1:Int×Int):Option ((Int×Int)):=some (aA (p0.1+p1.1),aA (p0.2+p1.2))
def zT(p0:Int×Int)(p1:Int):Option ((Int×Int)):=(idx [((0,1):Int×Int),((1,0):Int×Int),((0,(-1)):Int×Int),(((-1),0):Int×Int)] p1).bind λa=>(lm p0 a).bind λb=>some b
def CI{σ:Type}(a:σ):Option (σ):=some a
def CH{σ:Type}(a:Int×σ)(b:σ):Option ((Int×σ) ⊕ σ):=some (.inl (aA (a.1+1),b))
def qp{σ:Type}(a:Int×σ)(b:σ):Option ((Int×σ) ⊕ σ):=some (.inl (aA (a.1+1),b))
def zP{σ:Type}(y0:σ->(Int×Int)->Int->Option σ)(p1:LP)(d:Int×σ)(e:(Int×Int)×Int)(a:Int×σ):Option ((Int×σ) ⊕ σ):=if decide (a.1<(([1,0]:List Int).length:Int))then((idx [1,0] a.1).bind λb=>(zT e.1 b).bind λf=>(vH p1 f).bind λc=>if decide (c≥0)then((y0 a.2 (d.1,c) b).bind λg=>qp a g)else(qp a a.2))else(some<|.inr a.2)
def zQ{σ:Type}(y0:σ->(Int×Int)->Int->Option σ)(p1:LP)(a:Int×σ):Option ((Int×σ) ⊕ σ):=if decide (a.1<(p1.length:Int))then((idx p1 a.1).bind λb=>(iter (zP y0 p1 a b) (0,a.2)).bind λc=>CH a c)else(some<|.inr a.2)
def CN{σ:Type}(y0:σ->(Int×Int)->Int->Option σ)(s0:σ)(p1:LP):Option (σ):=(iter (zQ y0 p1) (0,s0)).bind λa=>CI a
def Da(p0:LP):Option ((LP)):=some p0
def sQ(p0:Int):Option (Int):=some (Int.tmod (aA (p0+2)) 4)
def nU(p0:LG×LT)(p1:Int)(d:Int):Option (Int):=(idx p0.2 p1).bind λb=>(idx b.2 d).bind λa=>if decide (a>0)then((idx p0.1<|aA<|a - 1).bind λc=>some c.2)else(some 0)
def lf(p0:LG×LT)(p1:Int)(a:Int)(h:Int):Option (Int):=(idx p0.2 p1).bind λb=>(idx b.2 a).bind λc=>(idx p0.2 h).bind λd=>(sQ a).bind λe=>(idx d.2 e).bind λf=>if decide (c=f)then((nU p0 p1 a).bind λg=>some g)else(some 0)
def zX(p0:LG×LT)(p1:LP)(a:LB)(q:(Int×Int)×Int):Option (LB):=(idx p1 q.1.1).bind λc=>(idx p1 q.1.2).bind λd=>(lf p0 c.2 q.2 d.2).bind λb=>if decide (b>0)then((aU 24 a [(q.1.1,(q.1.2,b))]).bind λe=>some e)else(some a)
def ma(p0:LG×LT)(p1:LP):Option (LB):=(Da p1).bind λa=>(CN (λs c d=>zX p0 p1 s (c,d)) [] a).bind λb=>some b
def Fq(a:LM)(b:LM):Option ((LM×LM)):=some (b,a)
def wq(p1:LB)(b:Int×LM):Option ((Int×LM) ⊕ (LM)):=if decide (b.1<(p1.length:Int))then((idx p1 b.1).bind λa=>(idx b.2 a.1).bind λc=>(idx c a.2.1).bind λf=>(idx c a.2.1).bind λi=>(some<|b.2.set a.1.toNat<|c.set a.2.1.toNat<|aA (f+a.2.2)).bind λe=>(idx e a.2.1).bind λd=>(idx d a.1).bind λg=>(idx d a.1).bind λj=>(some<|e.set a.2.1.toNat<|d.set a.1.toNat<|aA (g+a.2.2)).bind λh=>some<|.inl (aA (b.1+1),h))else(some<|.inr b.2)
def Fs(p1:LB)(a:LM)(b:LM):Option ((LM×LM)):=(iter (wq p1) (0,a)).bind λc=>Fq b c
def wr(p0:Int)(a:Int×LM×LM):Option ((Int×LM×LM) ⊕ (LM×LM)):=if decide (a.1<p0)then((cZ 8 p0 0).bind λb=>(aU 24 a.2.1 [b]).bind λc=>(cZ 8 p0 0).bind λd=>(aU 24 a.2.2 [d]).bind λe=>some<|.inl (aA (a.1+1),c,e))else(some<|.inr (a.2.1,a.2.2))
def yE(p0:Int)(p1:LB):Option ((LM×LM)):=(iter (wr p0) (0,[],[])).bind λa=>Fs p1 a.1 a.2
def sP(p0 p1:Int):Option (Int×Int):=if 0<=p0/\p0<18446744073709551616/\0<=p1/\p1<18446744073709551616 then some (p0*p1 / 18446744073709551616,p0*p1 % 18446744073709551616)else none
def Le(a:LI):Option (LI):=some a
def CV(a:LI×Int):Option ((LI×Int) ⊕ (LI)):=if decide (a.2<(a.1.length:Int))then((dR a.1 a.2 (a.1.length:Int)).bind λd=>(dR a.1 0 a.2).bind λb=>(some<|eI a.1 a.2.toNat b).bind λc=>some<|.inl (c,aA<|a.2+((min b.length (a.1.length - a.2.toNat):Nat):Int)))else(some<|.inr a.1)
def v_(p0:LI)(e:Int×Int)(b:Bool):Option (LI):=if b then none else((cZ 8 (aA e.2) 0).bind λa=>(some<|eI a 0 p0).bind λc=>(iter (CV) (c,((min p0.length a.length:Nat):Int))).bind λd=>Le d)
def xd(p0:LI)(p1:Int):Option (LI):=if decide (p1<0)then none else((sP (IntKind.wrap .u64 (p0.length:Int))<|IntKind.wrap .u64 p1).bind λa=>if decide (a.1>0)then(v_ p0 a true)else(v_ p0 a<|decide (a.2>9223372036854775807)))
def wU(p0:LM×LM)(p1:Int)(a:Int):Option (Bool):=(idx p0.1 p1).bind λe=>(idx e a).bind λb=>(idx p0.2 p1).bind λc=>(idx c a).bind λd=>some<|decide (b>d)
def Ei(p0:LI):Option LI:=some p0.reverse
def DC(b:LI):Option (LI):=(Ei b).bind λa=>(ne a).bind λc=>some a
def qD(p1:Int)(c:LI)(a:LI×Int):Option ((LI×Int) ⊕ (LI)):=if !decide (a.2=p1)then((idx c a.2).bind λb=>(aU 8 a.1 [b]).bind λd=>some<|.inl (d,b))else(some<|.inr a.1)
def Ek(p1:Int)(b:Int)(a:LI):Option (LI):=(idx a b).bind λc=>if decide (c<0)then(some ([]:LI))else((iter (qD p1 a) ([b],b)).bind λd=>DC d)
def Dz(a:LI)(b:LI):Option ((LI×LI) ⊕ (LI)):=some (.inl (a,b))
def qL(a:LI×Int×LI)(b:LI)(c:LI):Option ((LI×Int×LI) ⊕ (LI×LI)):=some (.inl (b,aA (a.2.1+1),c))
def oo(p0:LM×LM)(e:Int×LI)(a:LI×Int×LI)(b:Bool):Option ((LI×Int×LI) ⊕ (LI×LI)):=if b then((idx a.1 a.2.1).bind λf=>(some<|a.1.set a.2.1.toNat e.1).bind λc=>(lM ((p0.1.length:Int).toNat) a.2.2 a.2.1).bind λd=>qL a c d)else(qL a a.1 a.2.2)
def vn(p0:LM×LM)(b:Int×LI)(a:LI×Int×LI):Option ((LI×Int×LI) ⊕ (LI×LI)):=if decide (a.2.1<(p0.1.length:Int))then((idx a.1 a.2.1).bind λc=>if decide (c<0)then((wU p0 b.1 a.2.1).bind λd=>oo p0 b a d)else(oo p0 b a false))else(some<|.inr (a.1,a.2.2))
def vo(p0:LM×LM)(a:LI×LI):Option ((LI×LI) ⊕ (LI)):=(nL a.2).bind λd=>if decide (d>0)then((uz a.2).bind λc=>(iter (vn p0 c) (a.1,0,c.2)).bind λb=>Dz b.1 b.2)else(some<|.inr a.1)
def xj(p0:LM×LM)(p1:Int)(f:Int):Option (LI):=(xd [(-1)] (p0.1.length:Int)).bind λa=>(nE 8 (p0.1.length:Int)).bind λb=>(lM ((p0.1.length:Int).toNat) b p1).bind λc=>(idx a p1).bind λg=>(some<|a.set p1.toNat p1).bind λd=>(iter (vo p0) (d,c)).bind λe=>Ek p1 f e
def Dg(a:Int×LM)(b:LM):Option ((Int×LM) ⊕ (Int×(LM×LM))):=some (.inl (aA (a.1+1),b))
def vr(b:LI)(a:Int×LM):Option ((Int×LM) ⊕ (LM)):=if decide (a.1<(b.length:Int))then((idx b<|aA<|a.1 - 1).bind λg=>(idx a.2 g).bind λc=>(idx b a.1).bind λd=>(idx c d).bind λj=>(idx c d).bind λm=>(some<|a.2.set g.toNat<|c.set d.toNat<|aA (j+1)).bind λh=>(idx b a.1).bind λi=>(idx h i).bind λe=>(idx b<|aA<|a.1 - 1).bind λf=>(idx e f).bind λk=>(idx e f).bind λn=>(some<|h.set i.toNat<|e.set f.toNat<|aA<|k - 1).bind λl=>some<|.inl (aA (a.1+1),l))else(some<|.inr a.2)
def qM(p0:LM×LM)(a:Int×LM)(b:LI)(c:Bool):Option ((Int×LM) ⊕ (Int×(LM×LM))):=if c then(some<|.inr (a.1,(p0.1,a.2)))else((iter (vr b) (1,a.2)).bind λd=>Dg a d)
def CX(p0:LM×LM)(p1:Int)(c:Int)(d:Int)(a:Int×LM):Option ((Int×LM) ⊕ (Int×(LM×LM))):=(xj (p0.1,a.2) p1 c).bind λb=>if decide (b=[])then(qM p0 a b true)else(qM p0 a b<|decide (a.1≥d))
def wT(p0:LM×LM)(p1:Int)(a:Int)(b:Int):Option (Int×(LM×LM)):=(iter (CX p0 p1 a b) (0,p0.2)).bind λx23=>some x23
def MY  : Option (Bool):=some true
def FV(p0:Int)(p1:LB)(b:Int)(a:Int):Option (Int ⊕ (Unit ⊕ Bool)):=if decide (a<p0)then((yE p0 p1).bind λc=>(wT c 0 a b).bind λx23=>if decide (x23.1<b)then(some<|.inr<|.inr false)else(some<|.inl<|aA (a+1)))else(some<|.inr<|.inl ())
def AK(p0:Int)(p1:LB)(a:Int):Option (Bool):=(iter (FV p0 p1 a) 1).bind λb=>match b with | .inl z=>MY | .inr z=>some z
def vY(p0:LG×LT)(p1:LP)(a:Int):Option (Bool×Bool):=(ma p0 p1).bind λb=>(xX (p1.length:Int) b a).bind λx23=>if decide (x23.1>64)then(some (false,false))else((AK x23.1 x23.2 a).bind λc=>some (c,true))
def Gw(p0:LG×LT)(p1:LP)(a:Int):Option (Bool×Int):=(jL p0 p1).bind λb=>if !b then(some (false,1))else((ww a).bind λc=>if !c then(some (false,2))else((vY p0 p1 a).bind λx23=>if !x23.2 then(some (false,4))else(some (x23.1,0))))
def ko(p0:TS×(LP)×Int):Option (Bool):=if decide ((p0.2.1.length:Int)=0)then(some false)else((Gw p0.1 p0.2.1 p0.2.2).bind λa=>if a.1 then(some<|decide (a.2=0))else(some false))
def ml(a:Bool):Option (Int):=if a then(some 1)else(some 0)
def xW(p0:TS×(LP)×Int)(p1:LP):Option (Int):=(ko p0).bind λx23=>if !x23 then(ml true)else((jL p0.1 p1).bind λa=>ml (!a))
def Ds  : Option (Bool):=some true
def KD(p0:LP)(p1:LP)(a:Int):Option (Int ⊕ (Unit ⊕ Bool)):=if decide (a<(p0.length:Int))then((idx p0 a).bind λb=>(idx p1 a).bind λc=>if !((decide (b.1.1=c.1.1)&&decide (b.1.2=c.1.2))&&decide (b.2=c.2))then(some<|.inr<|.inr false)else(some<|.inl<|aA (a+1)))else(some<|.inr<|.inl ())
def rm(p0:LP)(p1:LP):Option (Bool):=if !decide ((p0.length:Int)=(p1.length:Int))then(some false)else((iter (KD p0 p1) 0).bind λa=>match a with | .inl z=>Ds | .inr z=>some z)
def DL  : Option (Bool):=some true
def KC(p0:LI)(p1:LI)(a:Int):Option (Int ⊕ (Unit ⊕ Bool)):=if decide (a<(p0.length:Int))then((idx p0 a).bind λb=>(idx p1 a).bind λc=>if !decide (b=c)then(some<|.inr<|.inr false)else(some<|.inl<|aA (a+1)))else(some<|.inr<|.inl ())
def rl(p0:LI)(p1:LI):Option (Bool):=if !decide ((p0.length:Int)=(p1.length:Int))then(some false)else((iter (KC p0 p1) 0).bind λa=>match a with | .inl z=>DL | .inr z=>some z)
def CQ  : Option (Bool):=some true
def Kv(p0:LM)(p1:LM)(e:LI->LI->Option Bool)(a:Int):Option (Int ⊕ (Unit ⊕ Bool)):=if decide (a<(p0.length:Int))then((idx p0 a).bind λb=>(idx p1 a).bind λc=>(e b c).bind λd=>if !d then(some<|.inr<|.inr false)else(some<|.inl<|aA (a+1)))else(some<|.inr<|.inl ())
def we(p0:LM)(p1:LM)(b:LI->LI->Option Bool):Option (Bool):=if !decide ((p0.length:Int)=(p1.length:Int))then(some false)else((iter (Kv p0 p1 b) 0).bind λa=>match a with | .inl z=>CQ | .inr z=>some z)
def yF(p0:Int×LP×LP×LI×LM)(p1:Int×LP×LP×LI×LM):Option (Bool):=if decide (p0.1=p1.1)then((rm p0.2.1 p1.2.1).bind λa=>if a then((rm p0.2.2.1 p1.2.2.1).bind λb=>if b then((rl p0.2.2.2.1 p1.2.2.2.1).bind λc=>if c then((we p0.2.2.2.2 p1.2.2.2.2 (λe f=>rl e f)).bind λd=>some d)else(some false))else(some false))else(some false))else(some false)
abbrev eX:=Int×LP×LP×LI×LM
def iw(p:eX):eX:=if p.1=1\/p.1=2\/p.1=3 then(0,[],p.2.2.1,p.2.2.2.1,p.2.2.2.2)else if p.1=4 then(0,[],[],p.2.2.2.1,p.2.2.2.2)else if p.1=5 then(0,p.2.1,p.2.2.1,p.2.2.2.1,[])else(0,p.2.1,p.2.2.1,[],p.2.2.2.2)
def wz(p:eX):Option Bool:=yF (iw p) (0,[],[],[],[])
abbrev Sy:=TS×LP×Int
abbrev CrySt:=Sy×LP×List ((Int×Int)×LI)
def cU(b bm bo:Nat):List Nat:=[b,bm,bo]
def a_(m:LP)(p:Int×Int):Int:=if cW m p=true then(cB m p).getD 0 else -1
def rI(q:CrySt)(p:Int×Int):Option Int:=some (a_ q.2.1 p)
def uE:Option (Nat×((Int×Int)×Int))->Value
 | none=>.nilIface
 | some (T,o)=>.iface T (.agg #[.int .i64 o.1.1,.int .i64 o.1.2,.int .i64 o.2])
def Cu(e:Option (Nat×((Int×Int)×Int))):Prop:=∀T o,e=some (T,o)->(T=439\/T=440\/T=442)/\(-9223372036854775808<=o.1.1/\o.1.1<=9223372036854775807)/\(-9223372036854775808<=o.1.2/\o.1.2<=9223372036854775807)/\(-9223372036854775808<=o.2/\o.2<=9223372036854775807)
def Zl:Cu none:=λ_ _ h=>by cases h
def HW{T a b c}(h:T=439\/T=440\/T=442)(ha:I64 a)(hb:I64 b)(hc:I64 c):Cu (some (T,(a,b),c)):=λT' o e=>by
 injection e with e;injection e with e1 e2;subst e1;subst e2;exact⟨h,ha,hb,hc⟩
def KJ(a:Int):Option (Int):=some a
def vv(a:Int×Int)(b:Int):Option ((Int×Int) ⊕ Int):=some (.inl (b,aA (a.2+1)))
def CL(p0:LG×LT)(p1:Int×Int)(e:Int)(f:(Int×Int)->Option Int)(a:Int×Int):Option ((Int×Int) ⊕ Int):=if decide (a.2<4)then((zT p1 a.2).bind λc=>(f c).bind λb=>if decide (b≥0)then((lf p0 e a.2 b).bind λd=>vv a<|aA (a.1+d))else(vv a a.1))else(some<|.inr a.1)
def qN(p0:LG×LT)(p1:Int×Int)(b:Int)(c:(Int×Int)->Option Int):Option (Int):=(iter (CL p0 p1 b c) (0,0)).bind λa=>KJ a
def oy(q:CrySt)(p:Int×Int)(k:Int):Option Bool:=(oK p).bind λx=>if x=true then(if decide (a_ q.2.1 p<0)=true then(qN q.1.1 p k<|rI q).bind λs=>some (decide (s≥q.1.2.2))else some false)else some false
def Ky(a:CrySt):Option (CrySt):=some a
def uY(a:Int×CrySt)(b:CrySt):Option ((Int×CrySt) ⊕ CrySt):=some (.inl (aA (a.1+1),b))
def CM(a:Int×CrySt)(b:(Int×Int))(c:LI):Option ((Int×CrySt) ⊕ CrySt):=if decide ((c.length:Int)>0)then(uY a (a.2.1,a.2.2.1,bQ a.2.2.2 b c))else(uY a (a.2.1,a.2.2.1,dX a.2.2.2 b))
def uX(a:LI×Int)(b:LI):Option ((LI×Int) ⊕ (LI)):=some (.inl (b,aA (a.2+1)))
def qo(b:Int×CrySt)(c:(Int×Int))(a:LI×Int):Option ((LI×Int) ⊕ (LI)):=if decide (a.2<(b.2.1.1.2.length:Int))then((oy b.2 c a.2).bind λd=>if d then((aU 8 a.1 [a.2]).bind λe=>uX a e)else(uX a a.1))else(some<|.inr a.1)
def uK(p1:Int×Int)(a:Int×CrySt):Option ((Int×CrySt) ⊕ CrySt):=if decide (a.1<4)then((zT p1 a.1).bind λb=>(iter (qo a b) ([],0)).bind λc=>CM a b c)else(some<|.inr a.2)
def qn(p0:CrySt)(p1:Int×Int):Option (CrySt):=(iter (uK p1) (0,p0)).bind λa=>Ky a
def LR(a:CrySt):Option (CrySt):=some a
def qA(p1:LP)(a:Int×CrySt):Option ((Int×CrySt) ⊕ CrySt):=if decide (a.1<(p1.length:Int))then((idx p1 a.1).bind λb=>(qn a.2 b.1).bind λc=>some<|.inl (aA (a.1+1),c))else(some<|.inr a.2)
def DQ(p1:LP)(a:CrySt):Option (CrySt):=(iter (qA p1) (0,a)).bind λb=>LR b
def qB(p1:LP)(a:Int×CrySt):Option ((Int×CrySt) ⊕ CrySt):=if decide (a.1<(p1.length:Int))then((idx p1 a.1).bind λb=>some<|.inl (aA (a.1+1),(a.2.1,bQ a.2.2.1 b.1 b.2,a.2.2.2)))else(some<|.inr a.2)
def mC(p0:TS×(LP)×Int)(p1:LP):Option (CrySt):=(iter (qB p1) (0,(((p0.1.1,p0.1.2),p0.2.1,p0.2.2),[],[]))).bind λa=>DQ p1 a
def r_(p0:CrySt)(p1:Int×Int)(a:Int):Option (CrySt):=(qn ((p0.1,bQ p0.2.1 p1 a,p0.2.2).1,(p0.1,bQ p0.2.1 p1 a,p0.2.2).2.1,dX ((p0.1,bQ p0.2.1 p1 a,p0.2.2).2.2) p1) p1).bind λb=>some b
def qJ(c:LP)(a:Bool):Option (LP):=if a then(some ([]:LP))else((aU 24 ([]:LP) c).bind λb=>some b)
def rp(p0:LP):Option (LP):=qJ p0 false
def DX(p0:(Int×Int)×Int)(p1:(Int×Int)×Int):Option (Int):=(kv p0.1 p1.1).bind λa=>some a
def gA(a b:(Int×Int)×Int):Int:=if a.1.2<b.1.2 then -1 else if b.1.2<a.1.2 then 1 else if a.1.1<b.1.1 then -1 else if b.1.1<a.1.1 then 1 else 0
def kp(p0:LP):Option LP:=if p0.length<=1048576 then some (Go.Sort.pdq (λx y=>decide (gA x y<0)) p0.toArray 0 p0.length (Go.Lib.bitLen p0.length) true true).toList else none
def vE(q:CrySt):Option LP:=kp q.2.1
def DN(a:CrySt):Option ((LP)×Int×Int):=(vE a).bind λb=>some (b,0,0)
def mg(a:Int×CrySt)(b:(Int×Int)×Int)(c:Bool):Option ((Int×CrySt) ⊕ (CrySt ⊕ ((LP)×Int×Int))):=if c then(some<|.inr<|.inr ([],a.1,5))else((nO a.2.2.1).bind λd=>if decide (d≥500)then(some<|.inr<|.inr ([],0,4))else((r_ a.2 b.1 b.2).bind λe=>some<|.inl (aA (a.1+1),e)))
def lk(p0:TS×(LP)×Int)(p1:LP)(a:Int×CrySt):Option ((Int×CrySt) ⊕ (CrySt ⊕ ((LP)×Int×Int))):=if decide (a.1<(p1.length:Int))then((idx p1 a.1).bind λb=>(ov p0.1 b.2).bind λc=>if !c then(mg a b true)else((oy a.2 b.1 b.2).bind λd=>mg a b (!d)))else(some<|.inr<|.inl a.2)
def oD(p0:TS×(LP)×Int)(p1:LP):Option ((LP)×Int×Int):=(ko p0).bind λa=>if !a then(some ([],0,1))else(if decide ((p1.length:Int)>500)then(some ([],0,2))else((mC p0 p0.2.1).bind λb=>(iter (lk p0 p1) (0,b)).bind λc=>match c with | .inl z=>DN z | .inr z=>some z))
def KU  : Option (Bool):=some true
def Ui(p0:LP)(p1:LP)(a:Int):Option (Int ⊕ (Unit ⊕ Bool)):=if decide (a<(p0.length:Int))then((idx p0 a).bind λb=>(idx p1 a).bind λc=>if !((decide (b.1.1=c.1.1)&&decide (b.1.2=c.1.2))&&decide (b.2=c.2))then(some<|.inr<|.inr false)else(some<|.inl<|aA (a+1)))else(some<|.inr<|.inl ())
def Fa(p0:LP)(p1:LP):Option (Bool):=if !decide ((p0.length:Int)=(p1.length:Int))then(some false)else((iter (Ui p0 p1) 0).bind λa=>match a with | .inl z=>KU | .inr z=>some z)
def wV(p0:LP)(p1:LP):Option (Bool):=(Fa p0 p1).bind λa=>some a
def mo(p0:LP)(p1:TS×(LP)×Int)(c:LP):Option (Bool):=(oD p1 p0).bind λa=>if decide (a.2.2=0)then((wV c a.1).bind λb=>some b)else(some false)
def DR(q:CrySt):Option Int:=some (aA ((q.2.2.map λp=>(p.2.length:Int)).sum))
def uT(p0:(LP))(p1:TS×(LP)×Int)(a:LP):Option (Bool):=(mo p0 p1 a).bind λb=>if b then((mC p1 a).bind λc=>(DR c).bind λd=>some<|decide (d=0))else(some false)
def GQ(p0:TS×(LP)×Int)(p1:LP)(a:(LP)×Int×Int)(b:LI)(c:LI):Option (((TS×(LP)×Int)×LP×(LP)×LI×LI)×Int):=some ((p0,(p1,(a.1,(b,c)))),0)
def GP(a:Int×LI×LI×CrySt)(b:(Int×Int)×Int)(c:Int)(d:Int):Option ((Int×LI×LI×CrySt) ⊕ (LI×LI)):=(aU 8 a.2.1 [c]).bind λe=>(aU 8 a.2.2.1 [d]).bind λf=>(r_ a.2.2.2 b.1 b.2).bind λg=>some<|.inl (aA (a.1+1),e,f,g)
def s_(a:Int×Int×Int)(b:Int)(c:Int):Option ((Int×Int×Int) ⊕ (Int×Int)):=some (.inl (b,c,aA (a.2.2+1)))
def sF(p0:TS×(LP)×Int)(e:Int×LI×LI×CrySt)(d:(Int×Int)×Int)(a:Int×Int×Int):Option ((Int×Int×Int) ⊕ (Int×Int)):=if decide (a.2.2<4)then((zT d.1 a.2.2).bind λf=>(rI e.2.2.2 f).bind λb=>if decide (b≥0)then((lf p0.1 d.2 a.2.2 b).bind λc=>if decide (c>0)then((nz .i64 1 a.2.2).bind λg=>s_ a (nD .i64 a.1 g)<|aA (a.2.1+c))else(s_ a a.1 a.2.1))else(s_ a a.1 a.2.1))else(some<|.inr (a.1,a.2.1))
def sG(p0:TS×(LP)×Int)(p1:LP)(a:Int×LI×LI×CrySt):Option ((Int×LI×LI×CrySt) ⊕ (LI×LI)):=if decide (a.1<(p1.length:Int))then((idx p1 a.1).bind λc=>(iter (sF p0 a c) (0,0,0)).bind λb=>GP a c b.1 b.2)else(some<|.inr (a.2.1,a.2.2.1))
def HI(p0:TS×(LP)×Int)(p1:LP):Option (((TS×(LP)×Int)×LP×(LP)×LI×LI)×Int):=(oD p0 p1).bind λa=>if !decide (a.2.2=0)then none else((mC p0 p0.2.1).bind λc=>(iter (sG p0 p1) (0,[],[],c)).bind λb=>GQ p0 p1 a b.1 b.2)
def tJ(p0:Int)(p1:Int):Option (Bool):=(lQ .i64 p0 p1).bind λa=>some<|decide ((ke .i64 a 1)=1)
def CO  : Option (Int):=some (-1)
def Kt(p0:LP)(p1:((Int×Int)×Int)->Option Bool)(a:Int):Option (Int ⊕ (Unit ⊕ Int)):=if decide (a<(p0.length:Int))then((idx p0 a).bind λb=>(p1 b).bind λc=>if c then(some<|.inr<|.inr a)else(some<|.inl<|aA (a+1)))else(some<|.inr<|.inl ())
def wa(p0:LP)(p1:((Int×Int)×Int)->Option Bool):Option (Int):=(iter (Kt p0 p1) 0).bind λa=>match a with | .inl z=>CO | .inr z=>some z
def vd(p0:(Int×Int)×Int)(p1:Int×Int):Option (Bool):=some (decide (p0.1.1=p1.1)&&decide (p0.1.2=p1.2))
def Dx(p0:(TS×(LP)×Int)×LP×(LP)×LI×LI)(p1:Int×Int):Option (Int):=(wa p0.2.1 (λb=>vd b p1)).bind λa=>some a
def De(a:Int):Option (Int):=some a
def vc(a:Int×Int)(b:Int):Option ((Int×Int) ⊕ Int):=some (.inl (b,aA (a.2+1)))
def vb(a:Int×Int)(b:Bool):Option ((Int×Int) ⊕ Int):=if b then((nz .i64 1 a.2).bind λc=>vc a<|nD .i64 a.1 c)else(vc a a.1)
def uU(p0:(TS×(LP)×Int)×LP×(LP)×LI×LI)(p1:Int)(a:Int×Int):Option ((Int×Int) ⊕ Int):=if decide (a.2<4)then((idx p0.2.1 p1).bind λc=>(zT c.1 a.2).bind λd=>(Dx p0 d).bind λb=>if decide (b>p1)then((idx p0.2.2.2.1 b).bind λe=>(sQ a.2).bind λf=>(tJ e f).bind λg=>vb a g)else(vb a false))else(some<|.inr a.1)
def vU(p0:(TS×(LP)×Int)×LP×(LP)×LI×LI)(p1:Int):Option (Int):=(iter (uU p0 p1) (0,0)).bind λa=>De a
def CY(b:LP)(a:Int):Option (LP):=(i_ b a ((0,0),0)).bind λc=>(dR c 0 a).bind λd=>some d
def uR(a:LP×Int×Int)(b:LP)(c:Int):Option ((LP×Int×Int) ⊕ (LP×Int)):=some (.inl (b,c,aA (a.2.2+1)))
def CF(p1:((Int×Int)×Int)->Option Bool)(a:LP×Int×Int):Option ((LP×Int×Int) ⊕ (LP×Int)):=if decide (a.2.2<(a.1.length:Int))then((idx a.1 a.2.2).bind λb=>(p1 b).bind λc=>if !c then((idx a.1 a.2.1).bind λe=>(some<|a.1.set a.2.1.toNat b).bind λd=>uR a d<|aA (a.2.1+1))else(uR a a.1 a.2.1))else(some<|.inr (a.1,a.2.1))
def vC(p0:LP)(p1:((Int×Int)×Int)->Option Bool):Option (LP):=(nQ p0 p1).bind λa=>if decide (a=(-1))then(some p0)else((iter (CF p1) (p0,a,aA (a+1))).bind λb=>CY b.1 b.2)
def DJ  : Option (Int):=some (-1)
def KB(p0:List (Int×Int))(p1:Int×Int)(a:Int):Option (Int ⊕ (Unit ⊕ Int)):=if decide (a<(p0.length:Int))then((idx p0 a).bind λb=>if(decide (p1.1=b.1)&&decide (p1.2=b.2))then(some<|.inr<|.inr a)else(some<|.inl<|aA (a+1)))else(some<|.inr<|.inl ())
def E_(p0:List (Int×Int))(p1:Int×Int):Option (Int):=(iter (KB p0 p1) 0).bind λa=>match a with | .inl z=>DJ | .inr z=>some z
def vT(p0:List (Int×Int))(p1:Int×Int):Option (Bool):=(E_ p0 p1).bind λa=>some<|decide (a≥0)
def CT(p0:(Int×Int)×Int)(p1:List (Int×Int)):Option (Bool):=(vT p1 p0.1).bind λa=>some a
def vG(p0:LP)(p1:List (Int×Int)):Option ((LP)):=(rp p0).bind λa=>(vC a (λc=>CT c p1)).bind λb=>some b
def r'(p0:LP)(p1:Int×Int):Option (Int):=(nW p0 p1 (λc d=>jJ c d)).bind λa=>if a.2 then((idx p0 a.1).bind λb=>some b.2)else(some (-1))
def KL  : Option (Bool):=some false
def vf(a:Int)(b:Bool):Option (Int ⊕ (Unit ⊕ Bool)):=if b then(some<|.inr<|.inr true)else(some<|.inl<|aA (a+1))
def uV(p0:(TS×(LP)×Int)×LP×(LP)×LI×LI)(b:(Int×Int)×Int)(c:(LP))(a:Int):Option (Int ⊕ (Unit ⊕ Bool)):=if decide (a<(p0.1.1.2.length:Int))then(if !decide (a=b.2)then((qN p0.1.1 b.1 a (λe=>r' c e)).bind λd=>vf a<|decide (d≥p0.1.2.2))else(vf a false))else(some<|.inr<|.inl ())
def CZ(p0:(TS×(LP)×Int)×LP×(LP)×LI×LI)(a:(Int×Int)×Int)(b:List (Int×Int)):Option (Bool):=(vG p0.2.2.1 b).bind λc=>(iter (uV p0 a c) 0).bind λd=>match d with | .inl z=>KL | .inr z=>some z
def ve(a:(List (Int×Int))×Int)(b:List (Int×Int)):Option (((List (Int×Int))×Int) ⊕ ((List (Int×Int)))):=some (.inl (b,aA (a.2+1)))
def uW(p0:(TS×(LP)×Int)×LP×(LP)×LI×LI)(p1:Int)(b:(Int×Int)×Int)(a:(List (Int×Int))×Int):Option (((List (Int×Int))×Int) ⊕ ((List (Int×Int)))):=if decide (a.2<4)then((vU p0 p1).bind λc=>(tJ c a.2).bind λd=>if d then((zT b.1 a.2).bind λe=>(aU 16 a.1 [e]).bind λf=>ve a f)else(ve a a.1))else(some<|.inr a.1)
def vV(p0:(TS×(LP)×Int)×LP×(LP)×LI×LI)(p1:Int):Option (Bool):=(idx p0.2.1 p1).bind λa=>(iter (uW p0 p1 a) ([a.1],0)).bind λb=>CZ p0 a b
def dH(a b:Int×Int):Int:=if a.2<b.2 then -1 else if b.2<a.2 then 1 else if a.1<b.1 then -1 else if b.1<a.1 then 1 else 0
def BF(l:List (Int×Int)):List (Int×Int):=(Go.Sort.pdq (λx y=>decide (dH x y<0)) l.toArray 0 l.length (Go.Lib.bitLen l.length) true true).toList
def rF(q:CrySt):Option LP:=if q.2.2.length<=100000/\∀p∈q.2.2,p.2.length<=100000 then some ((BF<|q.2.2.map Prod.fst).flatMap λp=>((cB q.2.2 p).getD []).map λk=>(p,k))else none
def Df(p0:(TS×(LP)×Int)×LP×(LP)×LI×LI):Option ((Option (Nat×((Int×Int)×Int)))):=(mC p0.1 p0.2.2.1).bind λc=>(rF c).bind λb=>if decide ((b.length:Int)>0)then((idx b 0).bind λa=>some<|some (442,(a.1.1,a.1.2),a.2))else(some (none:Option (Nat×((Int×Int)×Int))))
def CW(p0:(TS×(LP)×Int)×LP×(LP)×LI×LI)(a:Int):Option (Int ⊕ (Unit ⊕ ((Option (Nat×((Int×Int)×Int)))))):=if decide (a<(p0.2.1.length:Int))then((idx p0.2.1 a).bind λb=>(idx p0.2.2.2.2 a).bind λc=>if !decide (c=p0.1.2.2)then(some<|.inr<|.inr<|some (439,(b.1.1,b.1.2),b.2))else((vV p0 a).bind λd=>if d then(some<|.inr<|.inr<|some (440,(b.1.1,b.1.2),b.2))else(some<|.inl<|aA (a+1))))else(some<|.inr<|.inl ())
def Ew(p0:(TS×(LP)×Int)×LP×(LP)×LI×LI):Option ((Option (Nat×((Int×Int)×Int)))):=(iter (CW p0) 0).bind λa=>match a with | .inl z=>Df p0 | .inr z=>some z
def Vv(p0:((Int×Int)×Int)):Option ((Int×Int)):=some p0.1
def U'(p0:((Int×Int)×Int)):Option (Int):=some 1
def We(p0:((Int×Int)×Int)):Option ((Int×Int)):=some p0.1
def UY(p0:((Int×Int)×Int)):Option (Int):=some 2
def XB(p0:((Int×Int)×Int)):Option ((Int×Int)):=some p0.1
def Wg(p0:((Int×Int)×Int)):Option (Int):=some 3
def xY(p0:Sy)(p1:LP):Option (Int×(Int×Int)×Int):=(HI p0 p1).bind λx=>if(!decide (x.2=0))=true then some (0,(0,0),x.2)else(Ew x.1).bind λv=>match v with
  | none=>some (0,(0,0),3)
  | some (T,o)=>some (if T=439 then 1 else if T=440 then 2 else 3,o.1,0)
def yX(p0:TS×(LP)×Int)(p1:LP):Option (Bool):=(xY p0 p1).bind λa=>some<|decide (a.2.2=3)
def vq(p0:(LP))(p1:TS×(LP)×Int)(c:LP):Option (Bool):=(mo p0 p1 c).bind λa=>if a then((yX p1 p0).bind λb=>some b)else(some false)
def yT(p0:LP):Option (((Int×Int)×Int)):=(idx p0<|aA<|(p0.length:Int) - 1).bind λa=>some a
def qs(p0:(LP)×LP)(p1:TS×(LP)×Int)(c:Bool):Option (Bool):=if c then(some false)else((oD p1 p0.2).bind λd=>(yT p0.1).bind λa=>(yT p0.2).bind λb=>if decide (d.2.2=0)then(if(decide (a.1.1=b.1.1)&&decide (a.1.2=b.1.2))then(some<|!decide (a.2=b.2))else(some false))else(some false))
def uN(p0:(LP)×LP)(p1:TS×(LP)×Int)(b:LP):Option (Bool):=if decide ((p0.1.length:Int)=0)then(qs p0 p1 true)else(if decide ((p0.2.length:Int)=0)then(qs p0 p1 true)else((mo p0.1 p1 b).bind λa=>qs p0 p1 (!a)))
def rX(a:Bool):Option (Int):=if a then(some 2)else(some 0)
def GR(p0:LG×LT)(p1:LP)(a:Int)(b:Int):Option (Int):=(jL p0 p1).bind λc=>if !c then(some 1)else((iG a (p1.length:Int)).bind λx23=>if !x23 then(rX true)else((iG b (p1.length:Int)).bind λd=>if !d then(rX true)else(rX<|decide (a=b))))
def Fy(c:Int)(a:LI):Option (Int×Int):=(idx a c).bind λb=>some (b,0)
def rH(a:Int)(b:Bool):Option (Int ⊕ (Unit ⊕ (Int×Int))):=if b then(some<|.inr<|.inr (0,10))else(some<|.inl<|aA (a+1))
def qF(d:Int)(e:Int)(b:LI)(a:Int):Option (Int ⊕ (Unit ⊕ (Int×Int))):=if decide (a<(b.length:Int))then((idx b a).bind λc=>if !decide (c=0)then(if !decide (a=d)then(rH a<|!decide (a=e))else(rH a false))else(rH a false))else(some<|.inr<|.inl ())
def Fz(b:Int)(d:Int)(a:LI):Option (Int×Int):=(iter (qF b d a) 0).bind λc=>match c with | .inl z=>Fy b a | .inr z=>some z
def Dk(e:LI)(d:LB)(a:LI×Int):Option ((LI×Int) ⊕ ((LI) ⊕ (Int×Int))):=if decide (a.2<(d.length:Int))then((idx d a.2).bind λb=>(idx e a.2).bind λg=>(f_ g (aA<|0 - b.2.2) b.2.2).bind λh=>if !h then(some<|.inr<|.inr (0,10))else((idx a.1 b.1).bind λi=>(idx e a.2).bind λj=>(idx a.1 b.1).bind λm=>(some<|a.1.set b.1.toNat<|aA (i+j)).bind λc=>(idx c b.2.1).bind λk=>(idx e a.2).bind λl=>(idx c b.2.1).bind λn=>(some<|c.set b.2.1.toNat<|aA<|k - l).bind λf=>some<|.inl (f,aA (a.2+1))))else(some<|.inr<|.inl a.1)
def yK(p0:LG×LT)(p1:LP)(b:Int)(c:Int)(d:LI):Option (Int×Int):=(GR p0 p1 b c).bind λx23=>if !decide (x23=0)then(some (0,x23))else((ma p0 p1).bind λa=>if !decide ((d.length:Int)=(a.length:Int))then(some (0,10))else((cZ 8 (p1.length:Int) 0).bind λe=>(iter (Dk d a) (e,0)).bind λf=>match f with | .inl z=>Fz b c z | .inr z=>some z))
def Kz  : Option (Bool):=some true
def uZ(a:Int)(b:Bool):Option (Int ⊕ (Unit ⊕ Bool)):=if b then(some<|.inr<|.inr false)else(some<|.inl<|aA (a+1))
def qq(p0:LM)(p1:TS×(LP)×Int)(d:LP)(a:Int):Option (Int ⊕ (Unit ⊕ Bool)):=if decide (a<(p0.length:Int))then((idx p0 a).bind λc=>(yK p1.1 d 0 (aA (a+1)) c).bind λb=>if !decide (b.2=0)then(uZ a true)else(uZ a<|decide (b.1<p1.2.2)))else(some<|.inr<|.inl ())
def u_(p0:LM)(p1:TS×(LP)×Int)(a:LP):Option (Bool):=if !decide ((p0.length:Int)=(JV (aA<|(a.length:Int) - 1) 0))then(some false)else((iter (qq p0 p1 a) 0).bind λb=>match b with | .inl z=>Kz | .inr z=>some z)
def KK  : Option (Bool):=some true
def nR(a:Int)(b:Bool):Option (Int ⊕ (Unit ⊕ Bool)):=if b then(some<|.inr<|.inr false)else(some<|.inl<|aA (a+1))
def zZ(p0:LP)(p1:LI)(a:Int):Option (Int ⊕ (Unit ⊕ Bool)):=if decide (a<(p1.length:Int))then((idx p1 a).bind λb=>(iG b (p0.length:Int)).bind λc=>if !c then(nR a true)else(if decide (a>0)then((idx p1<|aA<|a - 1).bind λd=>nR a<|decide (b<=d))else(nR a false)))else(some<|.inr<|.inl ())
def wu(p0:LP)(p1:LI):Option (Bool):=(iter (zZ p0 p1) 0).bind λa=>match a with | .inl z=>KK | .inr z=>some z
def LQ(a:Int):Option (Int):=some a
def vP(p0:LB)(a:Int×Int):Option ((Int×Int) ⊕ Int):=if decide (a.2<(p0.length:Int))then((idx p0 a.2).bind λb=>some<|.inl (aA (a.1+b.2.2),aA (a.2+1)))else(some<|.inr a.1)
def xU(p0:LB):Option (Int):=(iter (vP p0) (0,0)).bind λa=>LQ a
def DI  : Option (Int):=some (-1)
def KA(p0:LI)(p1:Int)(a:Int):Option (Int ⊕ (Unit ⊕ Int)):=if decide (a<(p0.length:Int))then((idx p0 a).bind λb=>if decide (p1=b)then(some<|.inr<|.inr a)else(some<|.inl<|aA (a+1)))else(some<|.inr<|.inl ())
def EZ(p0:LI)(p1:Int):Option (Int):=(iter (KA p0 p1) 0).bind λa=>match a with | .inl z=>DI | .inr z=>some z
def qI(p0:LI)(p1:Int):Option (Bool):=(EZ p0 p1).bind λa=>some<|decide (a≥0)
def vX(p0:Int×Int×Int)(p1:LI):Option (Bool):=(qI p1 p0.1).bind λa=>(qI p1 p0.2.1).bind λb=>some<|a == b
def xk(p0:LB)(p1:LI):Option (Int):=(oR p0).bind λa=>(qE a (λd=>vX d p1)).bind λb=>(xU b).bind λc=>some c
def EQ(p0:LG×LT)(p1:LP)(a:LI):Option (Int×Int):=(jL p0 p1).bind λb=>if !b then(some (0,1))else((wu p1 a).bind λc=>if !c then(some (0,2))else((ma p0 p1).bind λd=>(xk d a).bind λe=>some (e,0)))
def vD(p0:LI)(p1:TS×(LP)×Int)(b:LP):Option (Bool):=(EQ p1.1 b p0).bind λa=>if decide (a.2=0)then(if decide ((p0.length:Int)>0)then(if decide ((p0.length:Int)<(b.length:Int))then(some<|decide (a.1<p1.2.2))else(some false))else(some false))else(some false)
def kE(p0:Sy)(p1:LP)(p:eX):Option Bool:=if p.1=1 then mo p.2.1 p0 p1 else if p.1=2 then uT p.2.1 p0 p1 else if p.1=3 then vq p.2.1 p0 p1
 else if p.1=4 then uN (p.2.1,p.2.2.1) p0 p1 else if p.1=5 then u_ p.2.2.2.2 p0 p1 else vD p.2.2.2.1 p0 p1
def mG(p0:Sy)(p1:LP)(a:eX):Option Int:=(xW p0 p1).bind λc=>if(!decide (c=0))=true then some 1 else(f_ a.1 1 6).bind λw=>if(!w)=true then some 2 else
  (wz a).bind λb=>if b=true then(kE p0 p1 a).bind λr=>some (if r=true then 0 else 10)else some 10
def rJ(p0:BS×(TS×(LP)×Int)×(LP)×(Int×LP×LP×LI×LM)):Option (Bool):=(mS p0.1).bind λa=>if a then((mG p0.2.1 p0.2.2.1 p0.2.2.2).bind λb=>some<|decide (b=0))else(some false)
def strings_Join(p0:LW)(p1:BS):Option BS:=if p0.length<=140737488355328/\(Go.Lib.join p0 p1).length<=140737488355328 then some (Go.Lib.join p0 p1)else none
def jp(p0:LW):Option (BS):=(strings_Join p0 ([32]:BS)).bind λa=>(bB a ([10]:BS)).bind λb=>some b
def EJ(p0 p1:Int):Option BS:=if p1=10 then some (Go.Lib.itoa p0)else none
def mP(p0:Int):Option (BS):=(EJ p0 10).bind λa=>some a
def sH(p0:Int×Int):Option (BS):=(oK p0).bind λe=>if !e then(some ([]:BS))else((mP p0.1).bind λa=>(bB a ([44]:BS)).bind λb=>(mP p0.2).bind λc=>(bB b c).bind λd=>some d)
def FT(a:LI):Option (BS):=some (cM a)
def FS(a:Int×LI)(b:LI):Option ((Int×LI) ⊕ (LI)):=(aU 1 b<|zz ([10]:BS)).bind λc=>some<|.inl (aA (a.1+1),c)
def rV(a:Int×LI)(b:LI):Option ((Int×LI) ⊕ (LI)):=some (.inl (aA (a.1+1),b))
def rb(p0:LG×LT)(b:BS×LI)(a:Int×LI):Option ((Int×LI) ⊕ (LI)):=if decide (a.1<(b.2.length:Int))then((idx b.2 a.1).bind λc=>if decide (c=0)then((aU 1 a.2<|zz ([32,45]:BS)).bind λd=>rV a d)else((idx p0.1<|aA<|c - 1).bind λe=>(bB ([32]:BS) e.1).bind λf=>(aU 1 a.2<|zz f).bind λg=>rV a g))else(some<|.inr a.2)
def rc(p0:LG×LT)(a:Int×LI):Option ((Int×LI) ⊕ (LI)):=if decide (a.1<(p0.2.length:Int))then((idx p0.2 a.1).bind λb=>(bB ([116,105,108,101,32]:BS) b.1).bind λc=>(aU 1 a.2<|zz c).bind λd=>(iter (rb p0 b) (0,d)).bind λe=>FS a e)else(some<|.inr a.2)
def FU(p0:LG×LT)(a:LI):Option (BS):=(iter (rc p0) (0,a)).bind λb=>FT b
def rf(p0:LG×LT)(a:Int×LI):Option ((Int×LI) ⊕ (LI)):=if decide (a.1<(p0.1.length:Int))then((idx p0.1 a.1).bind λb=>(bB ([103,108,117,101,32]:BS) b.1).bind λc=>(bB c ([32]:BS)).bind λd=>(mP b.2).bind λe=>(bB d e).bind λf=>(bB f ([10]:BS)).bind λg=>(aU 1 a.2<|zz g).bind λh=>some<|.inl (aA (a.1+1),h))else(some<|.inr a.2)
def Am(p0:LG×LT):Option (BS):=(iter (rf p0) (0,[])).bind λa=>FU p0 a
def DP(a:LI):Option (BS):=some (cM a)
def qz(p0:TS×(LP)×Int)(a:Int×LI):Option ((Int×LI) ⊕ (LI)):=if decide (a.1<(p0.2.1.length:Int))then((idx p0.2.1 a.1).bind λb=>(idx p0.1.2 b.2).bind λc=>(sH b.1).bind λd=>(jp [([115,101,101,100]:BS),c.1,d]).bind λe=>(aU 1 a.2<|zz e).bind λf=>some<|.inl (aA (a.1+1),f))else(some<|.inr a.2)
def xR(p0:TS×(LP)×Int):Option (BS):=(mP p0.2.2).bind λa=>(jp [([116,101,109,112,101,114,97,116,117,114,101]:BS),a]).bind λb=>(aU 1 []<|zz b).bind λc=>(Am p0.1).bind λd=>(aU 1 c<|zz d).bind λe=>(iter (qz p0) (0,e)).bind λf=>DP f
def yH(p0:Int):Option BS:=(f_ p0 1 6).bind λx=>if(!x)=true then some []else idx [[],[103,114,111,119,110],[116,101,114,109,105,110,97,108],[117,110,105,113,117,101],[99,111,110,102,108,105,99,116],[115,116,97,98,108,101],[108,111,111,115,101]] p0
def Dy(a:LW):Option (BS):=(jp a).bind λb=>some b
def vm(p1:LI)(a:LW×Int):Option ((LW×Int) ⊕ (LW)):=if decide (a.2<(p1.length:Int))then((idx p1 a.2).bind λb=>(mP b).bind λc=>(aU 16 a.1 [c]).bind λd=>some<|.inl (d,aA (a.2+1)))else(some<|.inr a.1)
def mr(p0:BS)(p1:LI):Option (BS):=(iter (vm p1) ([p0],0)).bind λa=>Dy a
def Ft(a:LI):Option (BS):=some (cM a)
def qT(p0:Int×LP×LP×LI×LM)(a:Int×LI):Option ((Int×LI) ⊕ (LI)):=if decide (a.1<(p0.2.2.2.2.length:Int))then((idx p0.2.2.2.2 a.1).bind λb=>(mr ([102,108,111,119]:BS) b).bind λc=>(aU 1 a.2<|zz c).bind λd=>some<|.inl (aA (a.1+1),d))else(some<|.inr a.2)
def rG(p0:Int×LP×LP×LI×LM)(a:LI):Option (BS):=(iter (qT p0) (0,a)).bind λb=>Ft b
def Fu(p0:Int×LP×LP×LI×LM)(a:LI):Option (BS):=if decide ((p0.2.2.2.1.length:Int)>0)then((mr ([112,97,114,116]:BS) p0.2.2.2.1).bind λb=>(aU 1 a<|zz b).bind λc=>rG p0 c)else(rG p0 a)
def qU(p0:Int×LP×LP×LI×LM)(a:Int×LI):Option ((Int×LI) ⊕ (LI)):=if decide (a.1<(p0.2.2.1.length:Int))then((idx p0.2.2.1 a.1).bind λb=>(mr ([111,116,104,101,114]:BS) [b.1.1,b.1.2,b.2]).bind λd=>(aU 1 a.2<|zz d).bind λc=>some<|.inl (aA (a.1+1),c))else(some<|.inr a.2)
def Fv(p0:Int×LP×LP×LI×LM)(a:LI):Option (BS):=(iter (qU p0) (0,a)).bind λb=>Fu p0 b
def qV(p0:Int×LP×LP×LI×LM)(a:Int×LI):Option ((Int×LI) ⊕ (LI)):=if decide (a.1<(p0.2.1.length:Int))then((idx p0.2.1 a.1).bind λb=>(mr ([112,117,116]:BS) [b.1.1,b.1.2,b.2]).bind λc=>(aU 1 a.2<|zz c).bind λd=>some<|.inl (aA (a.1+1),d))else(some<|.inr a.2)
def yG(p0:Int×LP×LP×LI×LM):Option (BS):=(yH p0.1).bind λa=>if decide (a=([]:BS))then(some ([]:BS))else((jp [([112,114,111,111,102]:BS),a]).bind λc=>(aU 1 []<|zz c).bind λd=>(iter (qV p0) (0,d)).bind λb=>Fv p0 b)
def Fx(p0:BS×(TS×(LP)×Int)×(LP)×(Int×LP×LP×LI×LM))(b:LI):Option (BS):=(yG p0.2.2.2).bind λc=>(aU 1 b<|zz c).bind λa=>if decide ((a.length:Int)>20000)then(some ([]:BS))else(some<|cM a)
def qW(p0:BS×(TS×(LP)×Int)×(LP)×(Int×LP×LP×LI×LM))(a:Int×LI):Option ((Int×LI) ⊕ (LI)):=if decide (a.1<(p0.2.2.1.length:Int))then((idx p0.2.2.1 a.1).bind λb=>(idx p0.2.1.1.2 b.2).bind λf=>(sH b.1).bind λc=>(jp [([97,116]:BS),f.1,c]).bind λd=>(aU 1 a.2<|zz d).bind λe=>some<|.inl (aA (a.1+1),e))else(some<|.inr a.2)
def yJ(p0:BS×(TS×(LP)×Int)×(LP)×(Int×LP×LP×LI×LM)):Option (BS):=(rJ p0).bind λa=>if !a then(some ([]:BS))else((jp [([101,110,116,114,121]:BS),p0.1]).bind λb=>(aU 1 []<|zz b).bind λc=>(xR p0.2.1).bind λd=>(aU 1 c<|zz d).bind λe=>(jp [([101,110,100]:BS)]).bind λf=>(aU 1 e<|zz f).bind λg=>(iter (qW p0) (0,g)).bind λh=>Fx p0 h)
def xH(p0:LI)(p1:Int):Option LI:=if 0<p1/\p1<=140737488355328 then some []else none
def Dt(a:LI):Option (LI):=some a
def z6(p0:LM)(a:LI×Int):Option ((LI×Int) ⊕ (LI)):=if decide (a.2<(p0.length:Int))then((idx p0 a.2).bind λb=>(aU 1 a.1 b).bind λc=>some<|.inl (c,aA (a.2+1)))else(some<|.inr a.1)
def Du(p0:LM)(a:Int):Option (LI):=(xH [] a).bind λb=>(iter (z6 p0) (b,0)).bind λc=>Dt c
def z7(p0:LM)(a:Int×Int):Option ((Int×Int) ⊕ Int):=if decide (a.2<(p0.length:Int))then((idx p0 a.2).bind λb=>if decide ((aA (a.1+(b.length:Int)))<0)then none else(some<|.inl (aA (a.1+(b.length:Int)),aA (a.2+1))))else(some<|.inr a.1)
def xF(p0:LM):Option (LI):=(iter (z7 p0) (0,0)).bind λa=>Du p0 a
def sd(p0:Int):Option (LI):=some [IntKind.wrap .u8 p0,IntKind.wrap .u8<|Int.fdiv p0<|2 ^ 8,IntKind.wrap .u8<|Int.fdiv p0<|2 ^ 16,IntKind.wrap .u8<|Int.fdiv p0<|2 ^ 24]
def LV(a:Int)(b:Int):Option (Int):=some (aA<|(aA (b*65536))+a)
def C_(p0:LI)(a:Int×Int×Int):Option ((Int×Int×Int) ⊕ (Int×Int)):=if decide (a.2.2<(p0.length:Int))then((idx p0 a.2.2).bind λb=>some<|.inl (Int.tmod (aA<|a.1+(aA b)) 65521,Int.tmod (aA<|a.2.1+(Int.tmod (aA<|a.1+(aA b)) 65521)) 65521,aA (a.2.2+1)))else(some<|.inr (a.1,a.2.1))
def rM(p0:LI):Option (Int):=(iter (C_ p0) (1,0,0)).bind λa=>LV a.1 a.2
def AL(p0:BS):Option (LI):=(sd (p0.length:Int)).bind λd=>(rM<|zz p0).bind λa=>(sd a).bind λb=>(xF [d,zz p0,b]).bind λc=>some c
def yY(p0:BS×(TS×(LP)×Int)×(LP)×(Int×LP×LP×LI×LM)):Option (LI×Int):=(rJ p0).bind λb=>if !b then(some (([]:LI),10))else((yJ p0).bind λa=>if decide (a=([]:BS))then(some (([]:LI),4))else((AL a).bind λc=>some (c,0)))
def sJ(c:LI)(a:Bool):Option (LI):=if a then(some ([]:LI))else((aU 1 ([]:LI) c).bind λb=>some b)
def pB(p0:LI):Option (LI):=sJ p0 false
def Em(p0:(List (LI×LI))×Int)(a:List (LI×LI)):Option (((List (LI×LI))×Int)):=some (a,p0.2)
def mn(p0:(List (LI×LI))×Int)(a:Int×(List (LI×LI))):Option ((Int×(List (LI×LI))) ⊕ ((List (LI×LI)))):=if decide (a.1<(p0.1.length:Int))then((idx p0.1 a.1).bind λb=>(pB b.1).bind λc=>(pB b.2).bind λd=>(aU 48 a.2 [(c,d)]).bind λe=>some<|.inl (aA (a.1+1),e))else(some<|.inr a.2)
def xn(p0:(List (LI×LI))×Int):Option (((List (LI×LI))×Int)):=(iter (mn p0) (0,[])).bind λa=>Em p0 a
def FR  : Option (Bool):=some true
def wG(p0:LI)(p1:LI)(a:Int):Option (Int ⊕ (Unit ⊕ Bool)):=if decide (a<(p0.length:Int))then((idx p0 a).bind λb=>(idx p1 a).bind λc=>if !decide (b=c)then(some<|.inr<|.inr false)else(some<|.inl<|aA (a+1)))else(some<|.inr<|.inl ())
def sU(p0:LI)(p1:LI):Option (Bool):=if !decide ((p0.length:Int)=(p1.length:Int))then(some false)else((iter (wG p0 p1) 0).bind λa=>match a with | .inl z=>FR | .inr z=>some z)
def Ho(p0:LI×LI)(p1:LI×LI):Option (Bool):=(sU p0.1 p1.1).bind λa=>if !a then(some false)else((sU p0.2 p1.2).bind λb=>if !b then(some false)else(some true))
def Gj  : Option (Bool):=some true
def wR(p0:List (LI×LI))(p1:List (LI×LI))(a:Int):Option (Int ⊕ (Unit ⊕ Bool)):=if decide (a<(p0.length:Int))then((idx p0 a).bind λb=>(idx p1 a).bind λc=>(Ho b c).bind λd=>if !d then(some<|.inr<|.inr false)else(some<|.inl<|aA (a+1)))else(some<|.inr<|.inl ())
def AB(p0:List (LI×LI))(p1:List (LI×LI)):Option (Bool):=if !decide ((p0.length:Int)=(p1.length:Int))then(some false)else((iter (wR p0 p1) 0).bind λa=>match a with | .inl z=>Gj | .inr z=>some z)
def laws_eqStore(p0:(List (LI×LI))×Int)(p1:(List (LI×LI))×Int):Option (Bool):=(AB p0.1 p1.1).bind λx15=>if !x15 then(some false)else(if !decide (p0.2=p1.2)then(some false)else(some true))
def sT(p0:Int×Int)(p1:Int×Int):Option (Bool):=if !decide (p0.1=p1.1)then(some false)else(if !decide (p0.2=p1.2)then(some false)else(some true))
def Gu(p0:(Int×Int)×Int)(p1:(Int×Int)×Int):Option (Bool):=(sT p0.1 p1.1).bind λa=>if !a then(some false)else(if !decide (p0.2=p1.2)then(some false)else(some true))
def Et  : Option (Bool):=some true
def wm(p0:LP)(p1:LP)(a:Int):Option (Int ⊕ (Unit ⊕ Bool)):=if decide (a<(p0.length:Int))then((idx p0 a).bind λb=>(idx p1 a).bind λc=>(Gu b c).bind λd=>if !d then(some<|.inr<|.inr false)else(some<|.inl<|aA (a+1)))else(some<|.inr<|.inl ())
def ye(p0:LP)(p1:LP):Option (Bool):=if !decide ((p0.length:Int)=(p1.length:Int))then(some false)else((iter (wm p0 p1) 0).bind λa=>match a with | .inl z=>Et | .inr z=>some z)
def xQ(p0:LP)(p1:LP):Option (Bool):=(ye p0 p1).bind λa=>if !a then(some false)else(some true)
def He(p0:BS×Int)(p1:BS×Int):Option (Bool):=if !decide (p0.1=p1.1)then(some false)else(if !decide (p0.2=p1.2)then(some false)else(some true))
def FQ  : Option (Bool):=some true
def wF(p0:LG)(p1:LG)(a:Int):Option (Int ⊕ (Unit ⊕ Bool)):=if decide (a<(p0.length:Int))then((idx p0 a).bind λb=>(idx p1 a).bind λc=>(He b c).bind λd=>if !d then(some<|.inr<|.inr false)else(some<|.inl<|aA (a+1)))else(some<|.inr<|.inl ())
def Al(p0:LG)(p1:LG):Option (Bool):=if !decide ((p0.length:Int)=(p1.length:Int))then(some false)else((iter (wF p0 p1) 0).bind λa=>match a with | .inl z=>FQ | .inr z=>some z)
def Fk  : Option (Bool):=some true
def wI(p0:LI)(p1:LI)(a:Int):Option (Int ⊕ (Unit ⊕ Bool)):=if decide (a<(p0.length:Int))then((idx p0 a).bind λb=>(idx p1 a).bind λc=>if !decide (b=c)then(some<|.inr<|.inr false)else(some<|.inl<|aA (a+1)))else(some<|.inr<|.inl ())
def pq(p0:LI)(p1:LI):Option (Bool):=if !decide ((p0.length:Int)=(p1.length:Int))then(some false)else((iter (wI p0 p1) 0).bind λa=>match a with | .inl z=>Fk | .inr z=>some z)
def Hb(p0:BS×LI)(p1:BS×LI):Option (Bool):=if !decide (p0.1=p1.1)then(some false)else((pq p0.2 p1.2).bind λa=>if !a then(some false)else(some true))
def FP  : Option (Bool):=some true
def wE(p0:LT)(p1:LT)(a:Int):Option (Int ⊕ (Unit ⊕ Bool)):=if decide (a<(p0.length:Int))then((idx p0 a).bind λb=>(idx p1 a).bind λc=>(Hb b c).bind λd=>if !d then(some<|.inr<|.inr false)else(some<|.inl<|aA (a+1)))else(some<|.inr<|.inl ())
def Ak(p0:LT)(p1:LT):Option (Bool):=if !decide ((p0.length:Int)=(p1.length:Int))then(some false)else((iter (wE p0 p1) 0).bind λa=>match a with | .inl z=>FP | .inr z=>some z)
def Gi(p0:LG×LT)(p1:LG×LT):Option (Bool):=(Al p0.1 p1.1).bind λa=>if !a then(some false)else((Ak p0.2 p1.2).bind λb=>if !b then(some false)else(some true))
def Gt(p0:TS×(LP)×Int)(p1:TS×(LP)×Int):Option (Bool):=(Gi p0.1 p1.1).bind λa=>if !a then(some false)else((xQ p0.2.1 p1.2.1).bind λb=>if !b then(some false)else(if !decide (p0.2.2=p1.2.2)then(some false)else(some true)))
def Gv(p0:(Int×Int)×Int)(p1:(Int×Int)×Int):Option (Bool):=(sT p0.1 p1.1).bind λa=>if !a then(some false)else(if !decide (p0.2=p1.2)then(some false)else(some true))
def Eu  : Option (Bool):=some true
def wn(p0:LP)(p1:LP)(a:Int):Option (Int ⊕ (Unit ⊕ Bool)):=if decide (a<(p0.length:Int))then((idx p0 a).bind λb=>(idx p1 a).bind λc=>(Gv b c).bind λd=>if !d then(some<|.inr<|.inr false)else(some<|.inl<|aA (a+1)))else(some<|.inr<|.inl ())
def sc(p0:LP)(p1:LP):Option (Bool):=if !decide ((p0.length:Int)=(p1.length:Int))then(some false)else((iter (wn p0 p1) 0).bind λa=>match a with | .inl z=>Eu | .inr z=>some z)
def Ev  : Option (Bool):=some true
def wo(p0:LM)(p1:LM)(a:Int):Option (Int ⊕ (Unit ⊕ Bool)):=if decide (a<(p0.length:Int))then((idx p0 a).bind λb=>(idx p1 a).bind λc=>(pq b c).bind λd=>if !d then(some<|.inr<|.inr false)else(some<|.inl<|aA (a+1)))else(some<|.inr<|.inl ())
def yf(p0:LM)(p1:LM):Option (Bool):=if !decide ((p0.length:Int)=(p1.length:Int))then(some false)else((iter (wo p0 p1) 0).bind λa=>match a with | .inl z=>Ev | .inr z=>some z)
def GO(p0:Int×LP×LP×LI×LM)(p1:Int×LP×LP×LI×LM):Option (Bool):=if !decide (p0.1=p1.1)then(some false)else((sc p0.2.1 p1.2.1).bind λa=>if !a then(some false)else((sc p0.2.2.1 p1.2.2.1).bind λb=>if !b then(some false)else((pq p0.2.2.2.1 p1.2.2.2.1).bind λc=>if !c then(some false)else((yf p0.2.2.2.2 p1.2.2.2.2).bind λd=>if !d then(some false)else(some true)))))
def laws_eqEntry(p0:BS×(TS×(LP)×Int)×(LP)×(Int×LP×LP×LI×LM))(p1:BS×(TS×(LP)×Int)×(LP)×(Int×LP×LP×LI×LM)):Option (Bool):=if !decide (p0.1=p1.1)then(some false)else((Gt p0.2.1 p1.2.1).bind λx61=>if !x61 then(some false)else((xQ p0.2.2.1 p1.2.2.1).bind λx64=>if !x64 then(some false)else((GO p0.2.2.2 p1.2.2.2).bind λx67=>if !x67 then(some false)else(some true))))
def wS(a:LI)(b:Int):Option (Int×LI):=some (b,a)
def ku(a:LI×Int×Int):Option ((LI×Int×Int) ⊕ (LI×Int)):=if decide (a.2.2<(a.1.length:Int))then((idx a.1 a.2.2).bind λb=>(some<|a.1.set a.2.2.toNat<|IntKind.wrap .u8 a.2.1).bind λx23=>some<|.inl (x23,aA (a.2.1+1),aA (a.2.2+1)))else(some<|.inr (a.1,a.2.1))
def kx(p0:LI)(p1:Int):Option (Int×LI):=(iter (ku) (p0,p1,0)).bind λa=>wS a.1 a.2
def Dv(a:LP)(b:Int):Option (Int×LP):=some (b,a)
def vj(a:LP×Int×Int):Option ((LP×Int×Int) ⊕ (LP×Int)):=if decide (a.2.2<(a.1.length:Int))then((idx a.1 a.2.2).bind λb=>(some<|a.1.set a.2.2.toNat ((a.2.1,b.1.2),b.2)).bind λc=>(idx c a.2.2).bind λd=>(some<|c.set a.2.2.toNat ((d.1.1,aA (a.2.1+1)),d.2)).bind λe=>(idx e a.2.2).bind λf=>(some<|e.set a.2.2.toNat (f.1,aA<|(aA (a.2.1+1))+1)).bind λg=>some<|.inl (g,aA<|(aA<|(aA (a.2.1+1))+1)+1,aA (a.2.2+1)))else(some<|.inr (a.1,a.2.1))
def xg(p0:LP)(p1:Int):Option (Int×LP):=(iter (vj) (p0,p1,0)).bind λa=>Dv a.1 a.2
def Fh(b:BS):Option (BS):=(bB ([109]:BS) b).bind λa=>some a
def DD(a:Int×BS):Option ((Int×BS) ⊕ (BS)):=if decide (a.1>0)then((bB (cM [IntKind.wrap .u8<|aA<|48+(Int.tmod a.1 10)]) a.2).bind λb=>some<|.inl (aA<|Int.tdiv a.1 10,b))else(some<|.inr a.2)
def yS(p0:Int):Option (BS):=if decide (p0<=0)then(some ([109,48]:BS))else((iter (DD) (p0,([]:BS))).bind λa=>Fh a)
def EI(a:LG)(b:Int):Option (Int×LG):=some (b,a)
def wj(a:LG×Int×Int):Option ((LG×Int×Int) ⊕ (LG×Int)):=if decide (a.2.2<(a.1.length:Int))then((yS a.2.1).bind λc=>(idx a.1 a.2.2).bind λd=>(some<|a.1.set a.2.2.toNat (c,d.2)).bind λb=>(idx b a.2.2).bind λe=>(some<|b.set a.2.2.toNat (e.1,aA (a.2.1+1))).bind λf=>some<|.inl (f,aA<|(aA (a.2.1+1))+1,aA (a.2.2+1)))else(some<|.inr (a.1,a.2.1))
def yp(p0:LG)(p1:Int):Option (Int×LG):=(iter (wj) (p0,p1,0)).bind λa=>EI a.1 a.2
def Ej(a:LI)(b:Int):Option (Int×LI):=some (b,a)
def vO(a:LI×Int×Int):Option ((LI×Int×Int) ⊕ (LI×Int)):=if decide (a.2.2<(a.1.length:Int))then((idx a.1 a.2.2).bind λb=>(some<|a.1.set a.2.2.toNat a.2.1).bind λx23=>some<|.inl (x23,aA (a.2.1+1),aA (a.2.2+1)))else(some<|.inr (a.1,a.2.1))
def xK(p0:LI)(p1:Int):Option (Int×LI):=(iter (vO) (p0,p1,0)).bind λa=>Ej a.1 a.2
def Dw(a:LP)(b:Int):Option (Int×LP):=some (b,a)
def vk(a:LP×Int×Int):Option ((LP×Int×Int) ⊕ (LP×Int)):=if decide (a.2.2<(a.1.length:Int))then((idx a.1 a.2.2).bind λb=>(some<|a.1.set a.2.2.toNat ((a.2.1,b.1.2),b.2)).bind λc=>(idx c a.2.2).bind λd=>(some<|c.set a.2.2.toNat ((d.1.1,aA (a.2.1+1)),d.2)).bind λe=>(idx e a.2.2).bind λf=>(some<|e.set a.2.2.toNat (f.1,aA<|(aA (a.2.1+1))+1)).bind λg=>some<|.inl (g,aA<|(aA<|(aA (a.2.1+1))+1)+1,aA (a.2.2+1)))else(some<|.inr (a.1,a.2.1))
def xh(p0:LP)(p1:Int):Option (Int×LP):=(iter (vk) (p0,p1,0)).bind λa=>Dw a.1 a.2
def Es(a:Int):Option (Int):=some a
def Dj(p0:LI)(a:Int×Int):Option ((Int×Int) ⊕ (Int ⊕ Int)):=if decide (a.2<(p0.length:Int))then((idx p0 a.2).bind λb=>if !decide (b=(IntKind.wrap .u8 a.1))then(some<|.inr<|.inr (-1))else(some<|.inl (aA (a.1+1),aA (a.2+1))))else(some<|.inr<|.inl a.1)
def sa(p0:LI)(p1:Int):Option (Int):=(iter (Dj p0) (p1,0)).bind λa=>match a with | .inl z=>Es z | .inr z=>some z
def Fi(a:Int):Option (Int):=some a
def oa(p0:List (LI×LI))(a:Int×Int):Option ((Int×Int) ⊕ (Int ⊕ Int)):=if decide (a.2<(p0.length:Int))then((idx p0 a.2).bind λb=>(sa b.1 a.1).bind λc=>if decide (c<0)then(some<|.inr<|.inr (-1))else((idx p0 a.2).bind λ_=>(sa b.2 c).bind λd=>if decide (d<0)then(some<|.inr<|.inr (-1))else(some<|.inl (d,aA (a.2+1)))))else(some<|.inr<|.inl a.1)
def Gs(p0:List (LI×LI))(p1:Int):Option (Int):=(iter (oa p0) (p1,0)).bind λa=>match a with | .inl z=>Fi z | .inr z=>some z
def laws_heldStore(p0:(List (LI×LI))×Int)(p1:Int):Option (Int):=(Gs p0.1 p1).bind λx10=>if decide (x10<0)then(some (-1))else(some x10)
end
end Go.Lf
namespace Go.Lf
open Go Go.Proofs
def tPoint:Ty (Int×Int):=(tPair tI64 tI64)
instance:cu tPoint:=inferInstanceAs (cu (tPair tI64 tI64))
def tPlaced:Ty ((Int×Int)×Int):=(tPair tPoint tI64)
instance:cu tPlaced:=inferInstanceAs (cu (tPair tPoint tI64))
def tGlue:Ty (BS×Int):=(tPair tStr tI64)
instance:cu tGlue:=inferInstanceAs (cu (tPair tStr tI64))
def tTile:Ty (BS×LI):=(tPair tStr (tSl tI64))
instance:cu tTile:=inferInstanceAs (cu (tPair tStr (tSl tI64)))
def z8:Ty (Int×Int×Int):=(tPair tI64 (tPair tI64 tI64))
instance:cu z8:=inferInstanceAs (cu (tPair tI64 (tPair tI64 tI64)))
def iX:Ty LI:=IV tI64 2 53001
def jy:Ty (BS×LI):=tPair tStr iX
def bH.slR{e:TypeId}{S κ a c l}(h:bH iX e S κ a c l):Sl (tSl tI64) κ a c l:=Sl.ty (t':=iX) rfl (λ_ _ ⟨a,c,h1,h2⟩=>⟨a,c,h1,h2.sl⟩) h.1
def bH.slT{e:TypeId}{S κ a c l}(h:bH jy e S κ a c l):Sl tTile κ a c l:=Sl.ty (t':=jy) rfl (λ_ _ ⟨c1,c2,h1,h2,a,c,h3,h4⟩=>⟨c1,c2,h1,h2,a,c,h3,h4.sl⟩) h.1
def BX:Ty LI:=IV tU8 5 83001
def kR:Ty (LI×LI):=tPair BX BX
def bH.slL{e:TypeId}{S κ a c l}(h:bH kR e S κ a c l):Sl tLog κ a c l:=Sl.ty (t':=kR) rfl (λ_ _ ⟨c1,c2,h1,⟨a,c,h2,h3⟩,a',c',h4,h5⟩=>⟨c1,c2,h1,⟨a,c,h2,h3.sl⟩,a',c',h4,h5.sl⟩) h.1
def lK:KeyOk Tryz.prog 139 cI:=Rh (λem w x y=>kr) ⟨_,Tryz.underlying139,λa b k es j hb=>kr⟩
 (λw x y z t=>Ox (P:=Tryz.prog) (T:=139) kr 9998 .i64 .i64 x y z t w)
def Glob(κ:K):Prop:=Globp pow10s 1 κ
def Glob.step{M κ κ'}(s:Step M κ κ')(h:Glob κ):Glob κ':=Globp.step s h
end Go.Lf
namespace Go.Lf
open Go
abbrev PT:=(Int×Int)×Int
def Bp(a b:Int):oM a b=some (if a<b then -1 else if b<a then 1 else 0):=by
 unfold oM sS;simp only[im,decide_true,bc,ba,if_false];by_cases h:a<b
 ·simp[h]
 by_cases h2:b<a
 ·simp[h,h2]
 simp[h,h2]
def Jr(u v:Int):tu [u,v]=some (if u=0 then v else u):=by
 unfold tu;have w1:aA 1=1:=by decide
 have w2:aA 2=2:=by decide
 by_cases hu:u=0
 ·have e0:jb [u,v] 0=some (.inl 1):=by unfold jb idx;simp[hu,w1]
  rw[zt e0];by_cases hv:v=0
  ·have e1:jb [u,v] 1=some (.inl 2):=by unfold jb idx;simp[hv,w2]
   have e2:jb [u,v] 2=some (.inr<|.inl ()):=by unfold jb idx;simp
   rw[zt e1,zy e2];simp[yV,hu,hv]
  have e1:jb [u,v] 1=some (.inr<|.inr v):=by unfold jb idx;simp[hv]
  rw[zy e1];simp[hu]
 have e0:jb [u,v] 0=some (.inr<|.inr u):=by unfold jb idx;simp[hu]
 rw[zy e0];simp[hu]
def NZ(x y:Int×Int):kv x y=some (dH x y):=by
 unfold kv;rw[Bp,Bp];simp only[im,Jr];congr 1;unfold dH
 repeat' split
 all_goals first | rfl | omega
def Tn x y:DX x y=some (gA x y):=by
 unfold DX;rw[NZ];rfl
def N_(l:List PT)(h:l.length<=1048576):rp l=some l:=by
 unfold rp qJ aU;simp;omega
end Go.Lf
namespace Go.Proofs
open Go.Shelf
def Tryz.sort208_ren:Go.Shelf.Ren:=⟨λ| 6=>301 | 15=>304 | 14=>303 | 28=>313 | 29=>230 | 20=>305 | 21=>306 | 22=>307 | 23=>308 | 24=>309 | 25=>310 | 26=>311 | 27=>312 | 46=>314 | 47=>315 | 48=>316 | 49=>317 | 50=>318 | 57=>319 | n=>n,λ| 22=>53 | 24=>141 | 25=>407 | 3=>3 | 39=>187 | 0=>0 | 53=>323 | 55=>303 | 4=>4 | 46=>411 | 45=>410 | 50=>354 | 5=>5 | 9=>9 | 66=>416 | 70=>420 | 76=>422 | 77=>423 | n=>n,λ| n=>n⟩
def Tryz.sort208:Go.Proofs.SlLaysF0.n6 Tryz.prog Tryz.sort208_ren:={
  mixed:=by kernel_rfl
  f6:=⟨Tryz.f301.name,by decide,Tryz.func301.trans (congrArg some (by kernel_rfl))⟩
  f14:=⟨Tryz.f303.name,by decide,Tryz.func303.trans (congrArg some (by kernel_rfl))⟩
  f15:=Tryz.func304.trans (congrArg some (by kernel_rfl))
  f20:=⟨Tryz.f305.name,by decide,Tryz.func305.trans (congrArg some (by kernel_rfl))⟩
  f21:=⟨Tryz.f306.name,by decide,Tryz.func306.trans (congrArg some (by kernel_rfl))⟩
  f22:=⟨Tryz.f307.name,by decide,Tryz.func307.trans (congrArg some (by kernel_rfl))⟩
  f23:=⟨Tryz.f308.name,by decide,Tryz.func308.trans (congrArg some (by kernel_rfl))⟩
  f24:=⟨Tryz.f309.name,by decide,Tryz.func309.trans (congrArg some (by kernel_rfl))⟩
  f25:=⟨Tryz.f310.name,by decide,Tryz.func310.trans (congrArg some (by kernel_rfl))⟩
  f26:=⟨Tryz.f311.name,by decide,Tryz.func311.trans (congrArg some (by kernel_rfl))⟩
  f27:=⟨Tryz.f312.name,by decide,Tryz.func312.trans (congrArg some (by kernel_rfl))⟩
  f28:=Tryz.func313.trans (congrArg some (by kernel_rfl))
  f29:=Tryz.func230.trans (congrArg some (by kernel_rfl))
  f46:=⟨Tryz.f314.name,by decide,Tryz.func314.trans (congrArg some (by kernel_rfl))⟩
  f47:=Tryz.func315.trans (congrArg some (by kernel_rfl))
  f48:=Tryz.func316.trans (congrArg some (by kernel_rfl))
  f49:=⟨Tryz.f317.name,by decide,Tryz.func317.trans (congrArg some (by kernel_rfl))⟩
  f50:=⟨Tryz.f318.name,by decide,Tryz.func318.trans (congrArg some (by kernel_rfl))⟩
  f57:=⟨Tryz.f319.name,by decide,Tryz.func319.trans (congrArg some (by kernel_rfl))⟩
  t0:=Tryz.underlying0
  a0:=Tryz.isAgg0
  z0:=Tryz.sizeOf0
  v0:=Tryz.zeroValue0
  t3:=Tryz.underlying3
  a3:=Tryz.isAgg3
  z3:=Tryz.sizeOf3
  v3:=Tryz.zeroValue3
  t4:=Tryz.underlying4
  a4:=Tryz.isAgg4
  z4:=Tryz.sizeOf4
  v4:=Tryz.zeroValue4
  t5:=Tryz.underlying5
  a5:=Tryz.isAgg5
  z5:=Tryz.sizeOf5
  v5:=Tryz.zeroValue5
  t9:=Tryz.underlying9
  a9:=Tryz.isAgg9
  z9:=Tryz.sizeOf9
  v9:=Tryz.zeroValue9
  t22:=Tryz.underlying53
  a22:=Tryz.isAgg53
  z22:=Tryz.sizeOf53
  v22:=Tryz.zeroValue53
  t25:=Tryz.underlying407
  a25:=Tryz.isAgg407
  z25:=Tryz.sizeOf407
  v25:=Tryz.zeroValue407
  t39:=Tryz.underlying187
  a39:=Tryz.isAgg187
  z39:=Tryz.sizeOf187
  v39:=Tryz.zeroValue187
  t45:=Tryz.underlying410
  a45:=Tryz.isAgg410
  z45:=Tryz.sizeOf410
  v45:=Tryz.zeroValue410
  t46:=Tryz.underlying411
  a46:=Tryz.isAgg411
  z46:=Tryz.sizeOf411
  v46:=Tryz.zeroValue411
  t50:=Tryz.underlying354
  a50:=Tryz.isAgg354
  z50:=Tryz.sizeOf354
  v50:=Tryz.zeroValue354
  t53:=Tryz.underlying323
  a53:=Tryz.isAgg323
  z53:=Tryz.sizeOf323
  v53:=Tryz.zeroValue323
  t55:=Tryz.underlying303
  a55:=Tryz.isAgg303
  z55:=Tryz.sizeOf303
  v55:=Tryz.zeroValue303
  t66:=Tryz.underlying416
  a66:=Tryz.isAgg416
  z66:=Tryz.sizeOf416
  v66:=Tryz.zeroValue416
  t70:=Tryz.underlying420
  a70:=Tryz.isAgg420
  z70:=Tryz.sizeOf420
  v70:=Tryz.zeroValue420
  t76:=Tryz.underlying422
  a76:=Tryz.isAgg422
  z76:=Tryz.sizeOf422
  v76:=Tryz.zeroValue422
  t77:=Tryz.underlying423
  a77:=Tryz.isAgg423
  z77:=Tryz.sizeOf423
  v77:=Tryz.zeroValue423}
def Tryz.sort248_ren:Go.Shelf.Ren:=⟨λ| 6=>340 | 15=>304 | 14=>346 | 28=>313 | 29=>230 | 20=>347 | 21=>348 | 22=>349 | 23=>350 | 24=>351 | 25=>352 | 26=>353 | 27=>354 | 46=>355 | 47=>315 | 48=>316 | 49=>356 | 50=>357 | 57=>358 | n=>n,λ| 22=>251 | 24=>139 | 25=>319 | 3=>3 | 39=>187 | 0=>0 | 53=>323 | 55=>303 | 4=>4 | 46=>411 | 45=>410 | 50=>354 | 5=>5 | 9=>9 | 66=>416 | 70=>420 | 76=>422 | 77=>423 | n=>n,λ| n=>n⟩
def Tryz.sort248:Go.Proofs.SlLaysF0.n6 Tryz.prog Tryz.sort248_ren:={
  mixed:=by kernel_rfl
  f6:=⟨Tryz.f340.name,by decide,Tryz.func340.trans (congrArg some (by kernel_rfl))⟩
  f14:=⟨Tryz.f346.name,by decide,Tryz.func346.trans (congrArg some (by kernel_rfl))⟩
  f15:=Tryz.func304.trans (congrArg some (by kernel_rfl))
  f20:=⟨Tryz.f347.name,by decide,Tryz.func347.trans (congrArg some (by kernel_rfl))⟩
  f21:=⟨Tryz.f348.name,by decide,Tryz.func348.trans (congrArg some (by kernel_rfl))⟩
  f22:=⟨Tryz.f349.name,by decide,Tryz.func349.trans (congrArg some (by kernel_rfl))⟩
  f23:=⟨Tryz.f350.name,by decide,Tryz.func350.trans (congrArg some (by kernel_rfl))⟩
  f24:=⟨Tryz.f351.name,by decide,Tryz.func351.trans (congrArg some (by kernel_rfl))⟩
  f25:=⟨Tryz.f352.name,by decide,Tryz.func352.trans (congrArg some (by kernel_rfl))⟩
  f26:=⟨Tryz.f353.name,by decide,Tryz.func353.trans (congrArg some (by kernel_rfl))⟩
  f27:=⟨Tryz.f354.name,by decide,Tryz.func354.trans (congrArg some (by kernel_rfl))⟩
  f28:=Tryz.func313.trans (congrArg some (by kernel_rfl))
  f29:=Tryz.func230.trans (congrArg some (by kernel_rfl))
  f46:=⟨Tryz.f355.name,by decide,Tryz.func355.trans (congrArg some (by kernel_rfl))⟩
  f47:=Tryz.func315.trans (congrArg some (by kernel_rfl))
  f48:=Tryz.func316.trans (congrArg some (by kernel_rfl))
  f49:=⟨Tryz.f356.name,by decide,Tryz.func356.trans (congrArg some (by kernel_rfl))⟩
  f50:=⟨Tryz.f357.name,by decide,Tryz.func357.trans (congrArg some (by kernel_rfl))⟩
  f57:=⟨Tryz.f358.name,by decide,Tryz.func358.trans (congrArg some (by kernel_rfl))⟩
  t0:=Tryz.underlying0
  a0:=Tryz.isAgg0
  z0:=Tryz.sizeOf0
  v0:=Tryz.zeroValue0
  t3:=Tryz.underlying3
  a3:=Tryz.isAgg3
  z3:=Tryz.sizeOf3
  v3:=Tryz.zeroValue3
  t4:=Tryz.underlying4
  a4:=Tryz.isAgg4
  z4:=Tryz.sizeOf4
  v4:=Tryz.zeroValue4
  t5:=Tryz.underlying5
  a5:=Tryz.isAgg5
  z5:=Tryz.sizeOf5
  v5:=Tryz.zeroValue5
  t9:=Tryz.underlying9
  a9:=Tryz.isAgg9
  z9:=Tryz.sizeOf9
  v9:=Tryz.zeroValue9
  t22:=Tryz.underlying251
  a22:=Tryz.isAgg251
  z22:=Tryz.sizeOf251
  v22:=Tryz.zeroValue251
  t25:=Tryz.underlying319
  a25:=Tryz.isAgg319
  z25:=Tryz.sizeOf319
  v25:=Tryz.zeroValue319
  t39:=Tryz.underlying187
  a39:=Tryz.isAgg187
  z39:=Tryz.sizeOf187
  v39:=Tryz.zeroValue187
  t45:=Tryz.underlying410
  a45:=Tryz.isAgg410
  z45:=Tryz.sizeOf410
  v45:=Tryz.zeroValue410
  t46:=Tryz.underlying411
  a46:=Tryz.isAgg411
  z46:=Tryz.sizeOf411
  v46:=Tryz.zeroValue411
  t50:=Tryz.underlying354
  a50:=Tryz.isAgg354
  z50:=Tryz.sizeOf354
  v50:=Tryz.zeroValue354
  t53:=Tryz.underlying323
  a53:=Tryz.isAgg323
  z53:=Tryz.sizeOf323
  v53:=Tryz.zeroValue323
  t55:=Tryz.underlying303
  a55:=Tryz.isAgg303
  z55:=Tryz.sizeOf303
  v55:=Tryz.zeroValue303
  t66:=Tryz.underlying416
  a66:=Tryz.isAgg416
  z66:=Tryz.sizeOf416
  v66:=Tryz.zeroValue416
  t70:=Tryz.underlying420
  a70:=Tryz.isAgg420
  z70:=Tryz.sizeOf420
  v70:=Tryz.zeroValue420
  t76:=Tryz.underlying422
  a76:=Tryz.isAgg422
  z76:=Tryz.sizeOf422
  v76:=Tryz.zeroValue422
  t77:=Tryz.underlying423
  a77:=Tryz.isAgg423
  z77:=Tryz.sizeOf423
  v77:=Tryz.zeroValue423}
def Tryz.lays212_ren:Go.Shelf.Ren:=⟨λ| 212=>266 | 263=>267 | 264=>268 | n=>n,λ| 46=>187 | 51=>323 | 146=>375 | 53=>303 | 148=>377 | n=>n,λ| n=>n⟩
def Tryz.lays212:Go.Proofs.Lays.n212 Tryz.prog Tryz.lays212_ren:={
  mixed:=by kernel_rfl
  f212:=Tryz.func266.trans (congrArg some (by kernel_rfl))
  f263:=Tryz.func267.trans (congrArg some (by kernel_rfl))
  f264:=Tryz.func268.trans (congrArg some (by kernel_rfl))
  t46:=Tryz.underlying187
  a46:=Tryz.isAgg187
  z46:=Tryz.sizeOf187
  v46:=Tryz.zeroValue187
  t51:=Tryz.underlying323
  a51:=Tryz.isAgg323
  z51:=Tryz.sizeOf323
  v51:=Tryz.zeroValue323
  t53:=Tryz.underlying303
  a53:=Tryz.isAgg303
  z53:=Tryz.sizeOf303
  v53:=Tryz.zeroValue303
  t146:=Tryz.underlying375
  a146:=Tryz.isAgg375
  z146:=Tryz.sizeOf375
  v146:=Tryz.zeroValue375
  t148:=Tryz.underlying377
  a148:=Tryz.isAgg377
  z148:=Tryz.sizeOf377
  v148:=Tryz.zeroValue377}
def Tryz.lays112_ren:Go.Shelf.Ren:=⟨λ| 112=>265 | n=>n,λ| 28=>361 | 3=>3 | 4=>4 | 0=>0 | n=>n,λ| n=>n⟩
def Tryz.lays112:Go.Proofs.Lays.n112 Tryz.prog Tryz.lays112_ren:={
  mixed:=by kernel_rfl
  f112:=Tryz.func265.trans (congrArg some (by kernel_rfl))
  t0:=Tryz.underlying0
  a0:=Tryz.isAgg0
  z0:=Tryz.sizeOf0
  v0:=Tryz.zeroValue0
  t3:=Tryz.underlying3
  a3:=Tryz.isAgg3
  z3:=Tryz.sizeOf3
  v3:=Tryz.zeroValue3
  t4:=Tryz.underlying4
  a4:=Tryz.isAgg4
  z4:=Tryz.sizeOf4
  v4:=Tryz.zeroValue4
  t28:=Tryz.underlying361
  a28:=Tryz.isAgg361
  z28:=Tryz.sizeOf361
  v28:=Tryz.zeroValue361}
def Tryz.laysM173_ren:Go.Shelf.Ren:=⟨λ| 173=>154 | 246=>184 | 283=>214 | 284=>215 | 285=>216 | 286=>217 | 129=>230 | 317=>229 | 318=>231 | 319=>232 | 320=>233 | 337=>247 | 338=>248 | n=>n,λ| 2=>2 | 3=>3 | 9=>9 | 4=>4 | 171=>302 | 0=>0 | 53=>303 | 37=>75 | 5=>5 | 173=>306 | 212=>322 | 51=>323 | 20=>20 | 213=>324 | 46=>187 | 232=>363 | 233=>364 | n=>n,λ| 17=>1 | 18=>2 | 19=>3 | n=>n⟩
def Tryz.laysM173:Go.Proofs.LaysM.n173 Tryz.prog Tryz.laysM173_ren:={
  mixed:=by kernel_rfl
  f129:=Tryz.func230.trans (congrArg some (by kernel_rfl))
  f173:=Tryz.func154.trans (congrArg some (by kernel_rfl))
  f246:=Tryz.func184.trans (congrArg some (by kernel_rfl))
  f283:=Tryz.func214.trans (congrArg some (by kernel_rfl))
  f284:=Tryz.func215.trans (congrArg some (by kernel_rfl))
  f285:=Tryz.func216.trans (congrArg some (by kernel_rfl))
  f286:=Tryz.func217.trans (congrArg some (by kernel_rfl))
  f317:=Tryz.func229.trans (congrArg some (by kernel_rfl))
  f318:=Tryz.func231.trans (congrArg some (by kernel_rfl))
  f319:=Tryz.func232.trans (congrArg some (by kernel_rfl))
  f320:=Tryz.func233.trans (congrArg some (by kernel_rfl))
  f337:=Tryz.func247.trans (congrArg some (by kernel_rfl))
  f338:=Tryz.func248.trans (congrArg some (by kernel_rfl))
  t0:=Tryz.underlying0
  a0:=Tryz.isAgg0
  z0:=Tryz.sizeOf0
  v0:=Tryz.zeroValue0
  t2:=Tryz.underlying2
  a2:=Tryz.isAgg2
  z2:=Tryz.sizeOf2
  v2:=Tryz.zeroValue2
  t3:=Tryz.underlying3
  a3:=Tryz.isAgg3
  z3:=Tryz.sizeOf3
  v3:=Tryz.zeroValue3
  t4:=Tryz.underlying4
  a4:=Tryz.isAgg4
  z4:=Tryz.sizeOf4
  v4:=Tryz.zeroValue4
  t5:=Tryz.underlying5
  a5:=Tryz.isAgg5
  z5:=Tryz.sizeOf5
  v5:=Tryz.zeroValue5
  t9:=Tryz.underlying9
  a9:=Tryz.isAgg9
  z9:=Tryz.sizeOf9
  v9:=Tryz.zeroValue9
  t20:=Tryz.underlying20
  a20:=Tryz.isAgg20
  z20:=Tryz.sizeOf20
  v20:=Tryz.zeroValue20
  t37:=Tryz.underlying75
  a37:=Tryz.isAgg75
  z37:=Tryz.sizeOf75
  v37:=Tryz.zeroValue75
  t46:=Tryz.underlying187
  a46:=Tryz.isAgg187
  z46:=Tryz.sizeOf187
  v46:=Tryz.zeroValue187
  t51:=Tryz.underlying323
  a51:=Tryz.isAgg323
  z51:=Tryz.sizeOf323
  v51:=Tryz.zeroValue323
  t53:=Tryz.underlying303
  a53:=Tryz.isAgg303
  z53:=Tryz.sizeOf303
  v53:=Tryz.zeroValue303
  t171:=Tryz.underlying302
  a171:=Tryz.isAgg302
  z171:=Tryz.sizeOf302
  v171:=Tryz.zeroValue302
  t173:=Tryz.underlying306
  a173:=Tryz.isAgg306
  z173:=Tryz.sizeOf306
  v173:=Tryz.zeroValue306
  t212:=Tryz.underlying322
  a212:=Tryz.isAgg322
  z212:=Tryz.sizeOf322
  v212:=Tryz.zeroValue322
  t213:=Tryz.underlying324
  a213:=Tryz.isAgg324
  z213:=Tryz.sizeOf324
  t232:=Tryz.underlying363
  a232:=Tryz.isAgg363
  z232:=Tryz.sizeOf363
  v232:=Tryz.zeroValue363
  t233:=Tryz.underlying364
  a233:=Tryz.isAgg364
  z233:=Tryz.sizeOf364
  v233:=Tryz.zeroValue364
  g17:=by kernel_rfl
  g18:=by kernel_rfl
  g19:=by kernel_rfl
  i0:=by kernel_rfl
  i2:=by kernel_rfl
  i3:=by kernel_rfl
  i4:=by kernel_rfl
  i5:=by kernel_rfl
  i9:=by kernel_rfl
  i20:=by kernel_rfl
  i37:=by kernel_rfl
  i46:=by kernel_rfl
  i51:=by kernel_rfl
  i53:=by kernel_rfl
  i171:=by kernel_rfl
  i173:=by kernel_rfl
  i212:=by kernel_rfl
  i232:=by kernel_rfl
  i233:=by kernel_rfl
  m17:=by kernel_rfl
  m18:=by kernel_rfl
  m19:=by kernel_rfl}
def Tryz.lays156_ren:Go.Shelf.Ren:=⟨λ| 156=>124 | 165=>153 | 166=>91 | 169=>97 | 240=>123 | 241=>183 | 276=>152 | 277=>213 | n=>n,λ| 31=>197 | 9=>9 | 3=>3 | 4=>4 | 0=>0 | 20=>20 | 72=>152 | 76=>155 | 70=>150 | 37=>75 | 75=>154 | 127=>203 | 164=>237 | 5=>5 | 80=>164 | n=>n,λ| n=>n⟩
def Tryz.lays156:Go.Proofs.Lays.n156 Tryz.prog Tryz.lays156_ren:={
  mixed:=by kernel_rfl
  f156:=Tryz.func124.trans (congrArg some (by kernel_rfl))
  f165:=Tryz.func153.trans (congrArg some (by kernel_rfl))
  f166:=Tryz.func91.trans (congrArg some (by kernel_rfl))
  f169:=Tryz.func97.trans (congrArg some (by kernel_rfl))
  f240:=Tryz.func123.trans (congrArg some (by kernel_rfl))
  f241:=Tryz.func183.trans (congrArg some (by kernel_rfl))
  f276:=Tryz.func152.trans (congrArg some (by kernel_rfl))
  f277:=Tryz.func213.trans (congrArg some (by kernel_rfl))
  t0:=Tryz.underlying0
  a0:=Tryz.isAgg0
  z0:=Tryz.sizeOf0
  v0:=Tryz.zeroValue0
  t3:=Tryz.underlying3
  a3:=Tryz.isAgg3
  z3:=Tryz.sizeOf3
  v3:=Tryz.zeroValue3
  t4:=Tryz.underlying4
  a4:=Tryz.isAgg4
  z4:=Tryz.sizeOf4
  v4:=Tryz.zeroValue4
  t9:=Tryz.underlying9
  a9:=Tryz.isAgg9
  z9:=Tryz.sizeOf9
  v9:=Tryz.zeroValue9
  t20:=Tryz.underlying20
  a20:=Tryz.isAgg20
  z20:=Tryz.sizeOf20
  v20:=Tryz.zeroValue20
  t31:=Tryz.underlying197
  a31:=Tryz.isAgg197
  z31:=Tryz.sizeOf197
  v31:=Tryz.zeroValue197
  t37:=Tryz.underlying75
  a37:=Tryz.isAgg75
  z37:=Tryz.sizeOf75
  v37:=Tryz.zeroValue75
  t70:=Tryz.underlying150
  a70:=Tryz.isAgg150
  z70:=Tryz.sizeOf150
  v70:=Tryz.zeroValue150
  t72:=Tryz.underlying152
  a72:=Tryz.isAgg152
  z72:=Tryz.sizeOf152
  v72:=Tryz.zeroValue152
  t75:=Tryz.underlying154
  a75:=Tryz.isAgg154
  z75:=Tryz.sizeOf154
  v75:=Tryz.zeroValue154
  t76:=Tryz.underlying155
  a76:=Tryz.isAgg155
  z76:=Tryz.sizeOf155
  v76:=Tryz.zeroValue155
  t127:=Tryz.underlying203
  a127:=Tryz.isAgg203
  z127:=Tryz.sizeOf203
  v127:=Tryz.zeroValue203
  t164:=Tryz.underlying237
  a164:=Tryz.isAgg237
  z164:=Tryz.sizeOf237
  v164:=Tryz.zeroValue237}
def Tryz.grow8_ren:Go.Shelf.Ren:=⟨λ| 4=>130 | n=>n,λ| 22=>75 | 25=>5 | 3=>3 | 4=>4 | 9=>9 | 20=>20 | 0=>0 | n=>n,λ| n=>n⟩
def Tryz.grow8:Go.Proofs.Lays8.n4 Tryz.prog Tryz.grow8_ren:={
  mixed:=by kernel_rfl
  f4:=⟨Tryz.f130.name,by decide,Tryz.func130.trans (congrArg some (by kernel_rfl))⟩
  t0:=Tryz.underlying0
  a0:=Tryz.isAgg0
  z0:=Tryz.sizeOf0
  v0:=Tryz.zeroValue0
  t3:=Tryz.underlying3
  a3:=Tryz.isAgg3
  z3:=Tryz.sizeOf3
  v3:=Tryz.zeroValue3
  t4:=Tryz.underlying4
  a4:=Tryz.isAgg4
  z4:=Tryz.sizeOf4
  v4:=Tryz.zeroValue4
  t9:=Tryz.underlying9
  a9:=Tryz.isAgg9
  z9:=Tryz.sizeOf9
  v9:=Tryz.zeroValue9
  t20:=Tryz.underlying20
  a20:=Tryz.isAgg20
  z20:=Tryz.sizeOf20
  v20:=Tryz.zeroValue20
  t22:=Tryz.underlying75
  a22:=Tryz.isAgg75
  z22:=Tryz.sizeOf75
  v22:=Tryz.zeroValue75}
end Go.Proofs
namespace Go.Lf
open Go Go.Proofs Go.Sort
def uG(x:PT):List Value:=[iv x.1.1,iv x.1.2,iv x.2]
def uF(x:Int×Int):List Value:=[iv x.1,iv x.2]
def TT:EncOk tPlaced 3 uG (λx=>(I64 x.1.1/\I64 x.1.2)/\I64 x.2) where
  size:=rfl
  pos:=by decide
  len:=λ_=>rfl
  one:=λx v hv=>by simp[uG]at hv;rcases hv with rfl | rfl | rfl<;>rfl
  own:=λκ cs x=>by
    constructor
    · rintro⟨_,_,rfl,⟨_,_,rfl,⟨rfl,h1⟩,⟨rfl,h2⟩⟩,⟨rfl,h3⟩⟩;exact⟨rfl,⟨h1,h2⟩,h3⟩
    · rintro⟨rfl,⟨h1,h2⟩,h3⟩;exact⟨_,_,rfl,⟨_,_,rfl,⟨rfl,h1⟩,⟨rfl,h2⟩⟩,⟨rfl,h3⟩⟩
def TR:EncOk tPoint 2 uF (λx=>I64 x.1/\I64 x.2) where
  size:=rfl
  pos:=by decide
  len:=λ_=>rfl
  one:=λx v hv=>by simp[uF]at hv;rcases hv with rfl | rfl<;>rfl
  own:=λκ cs x=>by
    constructor
    · rintro⟨_,_,rfl,⟨rfl,h1⟩,⟨rfl,h2⟩⟩;exact⟨rfl,h1,h2⟩
    · rintro⟨rfl,h1,h2⟩;exact⟨_,_,rfl,⟨rfl,h1⟩,⟨rfl,h2⟩⟩
def us a b:ltOf gA a b=decide (a.1.2<b.1.2\/(a.1.2=b.1.2/\a.1.1<b.1.1)):=by
 unfold ltOf gA;congr 1;apply propext
 repeat' split
 all_goals (constructor<;>intro h<;>omega)
def ut(a b:Int×Int):ltOf dH a b=decide (a.2<b.2\/(a.2=b.2/\a.1<b.1)):=by
 unfold ltOf dH;congr 1;apply propext
 repeat' split
 all_goals (constructor<;>intro h<;>omega)
def uJ:SWO (ltOf gA) where
  irrefl x:=by rw[us];simp
  trans x y z h1 h2:=by rw[us]at *;simp only[decide_eq_true_eq]at *;omega
  ntrans x y z h1 h2:=by rw[us]at *;simp only[decide_eq_false_iff_not]at *;omega
def jE:SWO (ltOf dH) where
  irrefl x:=by rw[ut];simp
  trans x y z h1 h2:=by rw[ut]at *;simp only[decide_eq_true_eq]at *;omega
  ntrans x y z h1 h2:=by rw[ut]at *;simp only[decide_eq_false_iff_not]at *;omega
def WI{κ p0 p1 r}(hr:sP p0 p1=some r):
 Fn Tryz.prog 266 #[.int .u64 p0,.int .u64 p1] κ (λv κ'=>κ=κ'/\v=.tuple #[.int .u64 r.1,.int .u64 r.2]):=by
 unfold sP at hr;split at hr
 ·rename_i h;obtain rfl:=sj hr;obtain⟨x,rfl⟩:=bg h.1;obtain⟨y,rfl⟩:=bg h.2.2.1;refine Fn.same (λw=>Any.bits_Mul Tryz.lays212 x y om om w) ⟨rfl,?_⟩;simp
 cases hr
def U_{p0:LI}{κ a1 c2 τ0}(f3:Gr tI64 false τ0 κ 3 a1 c2 p0){r:LI}(hr:Ei p0=some r):
 Fn Tryz.prog 265 #[sl a1 p0.length c2] κ (λv κ'=>Step (aG a1 c2) κ κ'/\v=.tuple #[]/\Gr tI64 false τ0 κ' 3 a1 c2 r/\r.length=p0.length):=by
 have hr':p0.reverse=r:=sj hr;subst hr';have hI:∀x∈p0.reverse,I64 x:=by
   intro x hx;rcases f3.body with⟨_,h1⟩ |⟨g,cur,xs,ha,hrp,_⟩
   · subst h1;cases hx
   · exact(HF hrp).2 x (by simpa using hx)
 refine Fn.row_int f3 si hI (λw g ha hH=>?_) (λh0 w=>?_)
 ·subst ha;exact Any.slices_Reverse_int Tryz.lays112 g 0 c2 p0 w hH<|tO f3.most
 subst h0;exact Any.slices_Reverse_int_empty Tryz.lays112 a1 c2 w
def Qc(hc:∀inst κ x y,@Fn inst Tryz.prog 302 #[.agg (uG x).toArray,.agg (uG y).toArray] κ (λv κ'=>Step [] κ κ'/\v=iv (gA x y))){l:List PT}{κ τ a c}(hg:Gr tPlaced false τ κ 141 a c l)(hlen:l.length<=1048576):
    Fn Tryz.prog 301 #[sl a l.length c,.func (.func 302) #[] #[]] κ (λv κ'=>Step (aG a c) κ κ'/\v=.tuple #[]/\Gr tPlaced false τ κ' 141 a c (pdq (ltOf gA) l.toArray 0 l.length (Lib.bitLen l.length) true true).toList):=Ov Tryz.sort208 TT (λw=>pI (P:=Tryz.prog) (T:=141) kr w) (λw=>gV (P:=Tryz.prog) (T:=141) kr w) uJ (enters_of Tryz.func302 kr rfl) hc hg om
def Qb(hc:∀inst κ x y,@Fn inst Tryz.prog 228 #[.agg (uF x).toArray,.agg (uF y).toArray] κ (λv κ'=>Step [] κ κ'/\v=iv (dH x y))){l:List (Int×Int)}{κ τ a c}(hg:Gr tPoint false τ κ 139 a c l)(hlen:l.length<=1048576):
    Fn Tryz.prog 340 #[sl a l.length c,.func (.func 228) #[] #[]] κ (λv κ'=>Step (aG a c) κ κ'/\v=.tuple #[]/\Gr tPoint false τ κ' 139 a c (pdq (ltOf dH) l.toArray 0 l.length (Lib.bitLen l.length) true true).toList):=Ov Tryz.sort248 TR (λw=>pI (P:=Tryz.prog) (T:=139) kr w) (λw=>gV (P:=Tryz.prog) (T:=139) kr w) jE (enters_of Tryz.func228 kr rfl) hc hg om
end Go.Lf
namespace Go.Lf
open Go Go.Proofs
def bX:Builder.Extra Tryz.prog Tryz.lays156_ren:={
  sizeBuilder:=kr
  liesBuilder:=kr
  t5:=kr
  a5:=λ_=>kr
  z5:=λ_=>kr
  v5:=λ_=>kr
  infoByte:=kr
  cellsByte:=kr
  sizeByte:=kr
  neB5:=by decide}
def bN(H:Array Obj)(b:Nat):Nat:=match H[b]? with | some (.cells c _ _)=>c.size | _=>0
def Fn.belowT(τ:aK){args:Array Value}{κ:K}{R:Value->K->Prop}{P f}(h:∀C d,Calls P f args (W C κ d) λe w'=>∃v,e=.returned v/\Go.RowKit.Below κ.H.size (W C κ d) w'/\∀κ',κ'.H=w'.heap->Step [] κ κ'->(∀b,κ.H.size<=b->κ'.fr b=bN w'.heap b/\κ'.tag b=τ)->R v κ'):Fn P f args κ R:=by
 intro C d;refine(h C d).mono ?_;rintro e w' ⟨v,he,hb,hR⟩;refine⟨v,⟨w'.heap,λb=>if b<κ.H.size then κ.fr b else bN w'.heap b,λb=>if b<κ.H.size then κ.tag b else τ⟩,w'.drawn,he,?_,hR _ rfl ?_ λb hb=>⟨if_neg om,if_neg om⟩⟩
 ·have h1:=hb.os;have h2:=hb.tape;have h3:=hb.output;cases w'
  simp only[W]at h1 h2 h3 ⊢;subst h1;subst h2;subst h3;have h0:C.base=0:=gt C.hb;rw[h0,ik]
 have hH:∀b,b<κ.H.size->w'.heap[b]?=κ.H[b]?:=λb hlt=>hb.block b hlt;refine⟨hb.size,λb hlt _=>⟨hH b hlt,if_pos hlt,if_pos hlt⟩,λb hlt=>⟨Nat.le_of_eq (if_pos hlt).symm,λo _=>?_⟩,λb hlt _=>⟨if_pos hlt,?_⟩⟩
 ·unfold K.cell;rw[hH b hlt]
 unfold K.shp;rw[hH b hlt]
def Fn.below{args:Array Value}{κ:K}{R:Value->K->Prop}{P f}(h:∀C d,Calls P f args (W C κ d) λe w'=>∃v,e=.returned v/\Go.RowKit.Below κ.H.size (W C κ d) w'/\∀κ',κ'.H=w'.heap->Step [] κ κ'->R v κ'):Fn P f args κ R:=Fn.belowT (0,0) λC d=>(h C d).mono λ_ _ ⟨v,h1,h2,h3⟩=>⟨v,h1,h2,λκ' a b _=>h3 κ' a b⟩
def Glob.tab{κ}(G:Glob κ)(C:Cx)d:Lib.TabIs Tryz.prog (W C κ d) "internal/strconv.uint64pow10" .u64 Lib.pow10Tab:=by
 have hg:Tryz.prog.globalNamed "internal/strconv.uint64pow10" = some 1:=kr;obtain⟨_,e,k,h4⟩:=G.psz;unfold Lib.TabIs World.var?;rw[hg];simp only[im];unfold K.shp at h4;show(match κ.H[1]? with | some (.cells cs _ _)=>some cs | _=>none)=_;split at h4
 ·rename_i c T kk hH;rw[hH];injection h4 with h4
  injection h4 with _ h4
  injection h4 with h4 _
  show some c=_;congr 1;have hp:(Lib.pow10Tab.map λz=>Value.int .u64 z)=pow10s.map (Value.int .u64):=by rfl
  rw[hp];apply Array.ext_getElem?;intro i;by_cases hi:i<(pow10s.map (Value.int .u64)).length
  ·have:=G.pow.2.2 i _ (dj hi);unfold K.cell at this;rw[hH]at this;simp only[ik]at this;rw[this,List.getElem?_toArray,dj hi]
  rw[Array.getElem?_eq_none (by rw[h4];rw[er]at hi;omega),Array.getElem?_eq_none (by rw[gk];omega)]
 cases h4
def Vh{κ p0 p1}(hb1:I64 p0)(hb2:I64 p1)(G0:Glob κ){r:BS}(hr:EJ p0 p1=some r):
 Fn Tryz.prog 154 #[iv p0,iv p1] κ (λv κ'=>Step [] κ κ'/\v=zu r/\r.length<=9223372036854775807):=by
 unfold EJ at hr;split at hr
 ·rename_i h;subst h;obtain rfl:=sj hr;refine Fn.below λC d=>(Any.strconv_FormatInt_10 Tryz.laysM173 p0 hb1.1 hb1.2 (W C κ d)<|G0.tab C d).mono ?_;rintro e w' ⟨he,k,os,rfl⟩;refine⟨_,he,⟨rfl,rfl,rfl,by show κ.H.size<=(κ.H++os).size;rw[Array.size_append];omega,λb hb=>?_⟩,λκ' _ s=>⟨s,rfl,?_⟩⟩
  ·show(κ.H++os)[b]?=κ.H[b]?;rw[Array.getElem?_append_left hb]
  have:=Lib.itoa_length_le p0 hb1.1 hb1.2;omega
 cases hr
def Xh{p0:LW}{p1:BS}{κ a1 c2}(f3:Sl tStr κ a1 c2 p0)(hb4:p1.length<=9223372036854775807){r:BS}(hr:strings_Join p0 p1=some r):
 Fn Tryz.prog 124 #[sl a1 p0.length c2,zu p1] κ (λv κ'=>Step [] κ κ'/\v=zu r/\r.length<=9223372036854775807):=by
 unfold strings_Join at hr;split at hr
 ·rename_i h;obtain rfl:=sj hr;by_cases h0:p0=[]
  ·subst h0;intro C d;refine(Any.strings_Join_none Tryz.lays156 bX a1 c2 ⟨p1.toArray⟩<|W C κ d).mono λe w' ⟨he,hw⟩=>⟨_,κ,d,he,hw,Step.refl _ _,?_,by omega⟩;cases p1<;>rfl
  obtain⟨b,off,ha,hel⟩:=f3.elems<|List.length_pos_iff.2 h0;subst ha;have hm:(p0.map λs=>(⟨s.toArray⟩:ByteArray)).map (·.data.toList)=p0:=by
    rw[List.map_map];conv=>rhs;rw[←List.map_id p0]
    rfl
  have hcell:∀C d,∀(j:Nat) x,(p0.map λs=>(⟨s.toArray⟩:ByteArray))[j]?=some x->(W C κ d).cell? ⟨b,off+j,none⟩=some (.string x):=by
    intro C d j x hj;rw[dt]at hj;obtain⟨s,hs,rfl⟩:=ip.1 hj;obtain⟨cs,hp,ho⟩:=hel j s hs;rw[iu];obtain⟨rfl,_⟩:=ho;have:=hp.at.one (o:=0) rfl;rw[Nat.add_zero]at this;have e1:off+j*tStr.size=off+j:=by show off+j*1=off+j;omega
    rw[e1]at this;exact this
  have hbk:b<κ.H.size:=by
    obtain⟨cs,hp,_⟩:=hel 0 _<|dj<|List.length_pos_iff.2 h0;exact hp.1
  refine Fn.below λC d=>?_;have:=Any.strings_Join Tryz.lays156 bX b off c2 (p0.map λs=>(⟨s.toArray⟩:ByteArray)) ⟨p1.toArray⟩ (W C κ d) (hcell C d) hbk (by rw[er];exact h.1) (by rw[er];exact f3.cap) (by rw[hm];exact h.2);rw[er,hm]at this;refine this.mono ?_;rintro e w' ⟨he,hb⟩;refine⟨_,he,hb,λκ' _ s=>⟨s,rfl,by omega⟩⟩
 cases hr
section
variable {κ:K} {τ:aK} {b:Nat} {l:List Int}
def Tr[Fb]{κ:K}{T:TypeId}{C d b p v x}(h:κ.H[b]?=some (.cells #[p,v] T (0,0))):(W C κ d).setCell ⟨b,0,none⟩ x=W C (κ.setB b [x,v] T) d:=by
 unfold World.setCell W K.setB;simp only[];congr 1;apply Array.ext
 ·simp
 intro j h1 h2;have hj:j<κ.H.size:=by simpa using h1
 rw[Array.getElem_modify];by_cases hgj:b=j
 ·subst hgj;have:=(ai.1 h).2;simp[this]
 rw[if_neg hgj,Array.getElem_setIfInBounds_ne hj hgj]
def Qk{p v}(B:aI τ κ b [p,v] 152)(hp:p=.pointer none\/p=pt b 0):
 Fn Tryz.prog 123 #[pt b 0] κ (λu κ'=>Step [b] κ κ'/\u=.tuple #[]/\aI τ κ' b [pt b 0,v] 152):=by
 rcases hp with rfl | rfl
 ·intro C d;have h0:(W C κ d).cell? ⟨b,0,none⟩=some (.pointer none):=by rw[iu];exact B.at.one (o:=0) rfl
  have hO:(W C κ d).heap[b]?=some (.cells #[.pointer none,v] 152 (0,0)):=B.obj;refine(Any.Builder_copyCheck_fresh {Tryz.lays156 with} bX.toX72 b (W C κ d) h0 (by simp[World.shape?,hO];rfl) (by simp[World.frozen?,hO])).mono λe w' ⟨he,hw⟩=>⟨.tuple #[],κ.setB b [pt b 0,v] 152,d,he,hw.trans<|Tr B.obj,ly B,rfl,kI B⟩
 intro C d;refine(Any.Builder_copyCheck_used {Tryz.lays156 with} bX.toX72 b (W C κ d) ?_).mono λe w' ⟨he,hw⟩=>⟨.tuple #[],κ,d,he,hw,Step.refl _ _,rfl,B⟩;have:=B.at.one (o:=0) rfl;rw[iu];exact this
def PU(D:bR 152 5 τ κ b l):Fn Tryz.prog 96 #[pt b 0] κ (λv κ'=>κ=κ'/\v=iv (l.length:Int)):=by
 obtain⟨p,a,c,hp,B,g,hb,hz⟩:=D.ex;refine aH 8 [] Tryz.func96 Tryz.ntmps96 λhs=>cO 1<|aD<|od 3<|oV B.at 1<|dT 2<|az ?_;exact rt [.tmp 2] [iv (l.length:Int)] ⟨kr,trivial⟩ ⟨rfl,rfl⟩
def zY{s:BS}{r}(D:bR 152 5 τ κ b l)(hx:aU 1 l (zz s)=some r):
 Fn Tryz.prog 91 #[pt b 0,zu s] κ (λv κ'=>Step (tk τ κ) κ κ'/\v=.tuple #[iv (s.length:Int),.nilIface]/\bR 152 5 τ κ' b r):=by
 obtain⟨p,a,c,hp,B,g,hb,hz⟩:=D.ex;have hbt:b∈tk τ κ:=gN.2 ⟨B.lt,B.tag,B.ge⟩;refine aH 19 [] Tryz.func91 Tryz.ntmps91 λhs0=>cO 2<|aD<|od 1<|aL 7 (Qk B hp) ?_;rintro _ κ1 ⟨s1,rfl,B1⟩;have g1:=g.step s1 (λx hx1 hm=>hb (by rw[ga]at hm;rw[←hm];exact hx1));refine aD<|od 4<|oV B1.at 1<|od 1<|YW (d:=14) (T:=75) (T2:=9) (e:=5) (bytes:=1) kr kr g1 hz (Nat.le_of_lt B1.tlt) kr kr hx λa' c' κ2 s2 g2 hw hz2=>?_;have hb2:b∉aG a c:=hb;have B2:=B1.step s2 hb2;refine od 2<|gL (b:=b) (off:=1) (T:=75) (sl a' r.length c') [sl a' r.length c'] [pt b 0,sl a' r.length c'] kr kr B2 rfl kr kr kr rfl λκ3 s3 _ B3=>?_;have hb':b∉aG a' c':=λh=>(hw b h).elim hb (λh'=>by have:=B1.lt;omega);have g3:=g2.step s3 (λx hx1 hm=>hb' (by rw[ga]at hm;rw[←hm];exact hx1));refine aD<|dT 4<|az<|rt [.tmp 4,.tmp 5] [iv (s.length:Int),.nilIface] ⟨kr,kr,trivial⟩ ?_;refine⟨((s1.mono (λx hm=>by rw[ga.1 hm];exact hbt)).trans<|s2.mono λx hm=>gN.2<|g.lt x hm).trans<|s3.mono (λx hm=>by rw[ga.1 hm];exact hbt),rfl,⟨_,a',c',.inr rfl,B3,g3,hb',hz2⟩⟩
def Oa:∀{l:LI},(∀x∈l,0<=x/\x<=255)->zz (cM l)=l
  |[],_=>rfl
  | x::l,h=>by
    have h1:=h x si;have ih:=Oa (l:=l) (λy hy=>h y (by simp[hy]));unfold zz cM at ih ⊢;rw[fi,fi,ih];congr 1;show((x.toNat.toUInt8).toNat:Int)=x;have h3:(x.toNat.toUInt8).toNat=x.toNat % 256:=UInt8.toNat_ofNat';rw[h3];omega
def JL{κ}:∀{l:LI} {xs:List Value},aZ tU8 κ xs l->(∀x∈l,0<=x/\x<=255)/\xs=l.map (Value.int .u8)
  |[],xs,h=>⟨by simp,h⟩
  | x::l,xs,⟨c,ys,e,ho,hr⟩=>by
    obtain⟨h1,h2⟩:=JL hr;obtain⟨rfl,h3⟩:=ho;refine⟨λy hy=>?_,by rw[e,h2];rfl⟩;rcases fq.1 hy with rfl | hy
    · exact h3
    · exact h1 y hy
def BD{x:Sem Next}{y:Sem Value}{P w w' v}(h:x=aW y)(hr:y.run P w=.ok v w'):x.run P w=.ok (.value v) w':=by rw[h];exact zI hr
def yW(D:bR 152 5 τ κ b l):Fn Tryz.prog 97 #[pt b 0] κ (λv κ'=>Step (tk τ κ) κ κ'/\v=zu (cM l)/\(cM l).length<=9223372036854775807):=by
 obtain⟨p,a,c,hp,B,g,hb,hz⟩:=D.ex;have hlen:(cM l).length=l.length:=by simp[cM]
 have hmx:(cM l).length<=9223372036854775807:=by rw[hlen];exact D.most
 refine aH 14 [] Tryz.func97 Tryz.ntmps97 λhs=>cT 1<|cs<|cd 10<|dd 3<|dV B.at 1 ?_;obtain⟨q,hq,hqa⟩:∃q:OA,q=a/\∀w,(Builtin.unsafeSliceData_ #[75] 203 #[sl a l.length c]).run Tryz.prog w=.ok (.pointer q) w:=by
   refine⟨a,rfl,λw=>?_⟩;rcases hz with rfl | hc
   · rfl
   · cases a with
     | none=>rfl
     | some x=>exact Lib.run_unsafeSliceData_row w _ _ _ _ _ om
 refine dq 7 (.pointer q) (λw=>BD kr<|hqa w)<|dd 3<|dV B.at 1<|dd 1<|de ?_;refine gZ (λv κ'=>v=zu (cM l)/\Step (tk τ κ) κ κ') (d:=13) kr (λC d0=>?_) (λv κ' hv=>?_)
 ·subst hq;rcases g.body with⟨_,hl⟩ |⟨x,cur,xs,ha,hr,hH,h1,h2,h3,h4,h5,h6,h7⟩
  ·subst hl;exact⟨_,κ,d0,BD kr<|Lib.run_unsafeString_none (P:=Tryz.prog) (W C κ d0) 203 3 9 q,rfl,Step.refl _ _⟩
  by_cases hl:l=[]
  ·subst hl;exact⟨_,κ,d0,BD kr<|Lib.run_unsafeString_none (P:=Tryz.prog) (W C κ d0) 203 3 9 q,rfl,Step.refl _ _⟩
  obtain⟨hb8,hxs⟩:=JL hr;have hne:cM l≠[]:=by intro h;exact hl<|ca (by rw[←hlen,h];rfl)
  have hl0:l.length≠0:=λh=>hl<|ca h;have hx:x∈tk τ κ:=gN.2<|g.lt x (by rw[ha];exact hE (a:=⟨x,0,none⟩) (by have:=List.length_pos_iff.2 hl;omega));refine⟨zu<|cM l,κ.frz x l.length cur 5,d0,?_,rfl,(P_ hH (by rw[h5];rfl)).mono λy hy=>by rw[ga.1 hy];exact hx⟩;have hrun:=Lib.run_unsafeString_row (P:=Tryz.prog) (W C κ d0) 203 3 9 5 kr kr x cur.size (by
      have:(W C κ d0).heap[x]?=some (.cells cur 5 (0,0)):=hH;simp[World.shape?,this]) (cM l) hne (by rw[hlen,h3];show l.length<=c*1;omega) hmx (λj y hj=>by
      rw[js,iu];unfold K.cell;rw[hH];simp only[ik];have hback:=Oa hb8;have hj2:l[j]?=some (y.toNat:Int):=by
        rw[←hback];unfold zz;rw[dt,hj];rfl
      have hjl:j<l.length:=(dm.1 hj2).1;have:xs[j]?=some (Value.int .u8 (y.toNat:Int)):=by rw[hxs,dt,hj2];rfl
      rw[←h4,ec,if_pos (by show j<l.length*1;omega)]at this;rw[←an];exact this)
  rw[hlen,Tw hH hl0]at hrun;subst ha;exact BD kr hrun
 obtain⟨rfl,s1⟩:=hv;refine dT 1<|az ?_;exact rt [.tmp 2] [zu<|cM l] ⟨rfl,trivial⟩ ⟨s1,rfl,hmx⟩
end
def Vl{κ:K}{p1}(f3:Sl tU8 κ none 0 ([]:LI))(hb4:I64 p1){r:LI}(hr:xH [] p1=some r):
 Fn Tryz.prog 130 #[sl none ([]:LI).length 0,iv p1] κ (λv κ'=>Step [] κ κ'/\∃N a c,v=sl a r.length c/\κ.H.size<=N/\Gr tU8 false (N,130001) κ' 5 a c r):=by
 unfold xH at hr;split at hr
 ·rename_i h;obtain rfl:=sj hr;obtain⟨n,rfl⟩:=bg<|Int.le_of_lt h.1;intro C d;have hn:n<=140737488355328:=by omega
  obtain⟨i0,hi0,hz0,hs0,hb0⟩:∃i0,Tryz.prog.info? (Tryz.grow8_ren.t 25)=some i0/\i0.zero=some (.int .u8 0)/\i0.size=1/\i0.bytes=1:=by
    have hx:(Tryz.prog.info?<|Tryz.grow8_ren.t 25).map (λi=>(i.zero,i.size,i.bytes))=some (some<|.int .u8 0,1,1):=kr;obtain⟨i0,h1,h2⟩:=ip.1 hx;injection h2 with h2 h3
    injection h3 with h3 h4
    exact⟨i0,h1,h2,h3,h4⟩
  have hcall:=Any8.slices_Grow_grow Tryz.grow8 i0 (.int .u8 0) hi0 hz0 om none 0 0 n [] (W C κ d) (gv _) om (by rw[hb0];omega) om si (λ_=>rfl) (λ_ h=>by cases h);have hge:=grownCap_ge (W C κ d) (0+n) 0 5;have hle:=grownCap_le_maxLen (W C κ d) (0+n) 0 5 (by simp only[maxLen];omega);refine hcall.mono ?_;rintro e w' ⟨he,hw⟩;have e0:(5:Nat)=Tryz.grow8_ren.t 25:=kr;rw[←e0]at he hw;generalize hcp:grownCap (W C κ d) (0+n) 0 5=cp at *;obtain⟨row,hrow⟩:∃row:Array Value,row=(([]:List Value).toArray++Builtin.zeroCells (Value.int .u8 0).cells (0+n - 0)++Builtin.zeroCells (Value.int .u8 0).cells (cp - (0+n))):=⟨_,rfl⟩;rw[←hrow]at hw;have bN:row.size=cp:=by
    rw[hrow];simp only[Array.size_append,size_zeroCells,gk,eu];have:(Value.int .u8 0).cells.size=1:=rfl;rw[this];omega
  refine⟨_,⟨κ.H.push<|.cells row 5 (0,0),λb=>if b=κ.H.size then 0 else κ.fr b,λb=>if b=κ.H.size then(κ.H.size,130001)else κ.tag b⟩,d+1,he,hw,⟨?_,?_,?_,?_⟩,κ.H.size,some ⟨κ.H.size,0,none⟩,cp,rfl,gv _,⟨by simp,.inr ⟨κ.H.size,row,[],rfl,rfl,?_,Nat.zero_le _,hle,by rw[bN];show cp=cp*1;omega,by simp,if_pos rfl,if_pos rfl,gv _⟩⟩⟩
  ·show κ.H.size<=(κ.H.push _).size;rw[Array.size_push];omega
  ·exact λb hb _=>⟨by show(κ.H.push _)[b]?=_;rw[Array.getElem?_push_lt hb,ac hb],if_neg<|Nat.ne_of_lt hb,if_neg<|Nat.ne_of_lt hb⟩
  ·refine λb hb=>⟨Nat.le_of_eq (if_neg<|Nat.ne_of_lt hb).symm,λo _=>?_⟩;unfold K.cell;show(match(κ.H.push _)[b]? with | some (.cells c _ _)=>c[o]? | _=>none)=_;rw[Array.getElem?_push_lt hb,ac hb];rfl
  ·refine λb hb _=>⟨if_neg<|Nat.ne_of_lt hb,?_⟩;unfold K.shp;show(match(κ.H.push _)[b]? with | some (.cells c T k)=>some (T,c.size,k) | _=>none)=_;rw[Array.getElem?_push_lt hb,ac hb];rfl
  show(κ.H.push _)[κ.H.size]?=_;rw[Array.getElem?_push_size]
 cases hr
abbrev fP [Fb]:=Fn Tryz.prog
theorem lB[Fc][Fb]{Q}{S X R:Type}{F:S->Option (S ⊕ X)}{k:X->Option R}{P n c E κ p s0 r}(J:S->aB->K->Prop)(h:BL (sub c p)=true)(a:(iter F s0).bind k=some r)(h0:J s0 E κ)(round:∀s E κ,J s E κ->∀y,F s=some y->(∀x',some (Sum.inr x')=some y->k x'=some r)->aO P n (sub c (0::p)) (tP y J Q) E κ):aO P n (sub c p) Q E κ:=bE a λx q e=>zn F J s0 x h q h0 λs E κ j y g d=>round s E κ j y g λx' hx=>(d x' (sj hx).symm)▸e
abbrev PubAt.X:=@PubAt.step
abbrev At.X:=@At.step
abbrev At.Y:=@At.step0
abbrev Sl.X:=@Sl.step
abbrev aI.X:=@aI.step
abbrev aI.Y:=@aI.step0
abbrev Gr.X:=@Gr.step
abbrev Gr.Y:=@Gr.step0
abbrev dY.X:=@dY.step
abbrev Mp.X:=@Mp.step
abbrev Mp.Y:=@Mp.step0
abbrev aX.X:=@aX.step
abbrev aX.Y:=@aX.step0
abbrev cE.X:=@cE.step
abbrev cE.Y:=@cE.step0
abbrev bG.X:=@bG.step
abbrev bG.Y:=@bG.step0
abbrev Hm.X:=@Hm.step
abbrev It.X:=@It.step
abbrev bR.X:=@bR.step
abbrev bR.Y:=@bR.step0
abbrev Globp.X:=@Globp.step
abbrev bH.X:=@bH.step
abbrev Pr.Y:=@Pr.step0
abbrev Glob.X:=@Glob.step
end Go.Lf
