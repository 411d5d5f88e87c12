import Derived.Test.YtiobnnnacoginaaGreatDoorB
import Derived.Lib.Bytealg
import Derived.Lib.Join
import Derived.Sort.Defs
import Derived.Lib.ParseIntB
import Derived.Lib.ItoaNum
import Derived.Lib.BitFns
import Derived.Test.YtiobnnnacoginaaGreatDoorProg
import Derived.Shelf.LaysM
import Derived.Shelf.Lays
import Derived.Shelf.Bits.Mul64
import Derived.Shelf.Slices.Reverse
import Derived.Ground.NamesProg
import Derived.Shelf.SlSortCmp.WholeK
import Derived.Shelf.SlGeneric
import Derived.Ground.SlsfProg
import Derived.Shelf.Spec.SlicesGrow
import Derived.Shelf.Strings.OnBuilder
import Derived.Shelf.Strconv.Itoa4
import Derived.Lib.ItoaLen
import Derived.KernelRfl
set_option linter.all false
set_option maxRecDepth 100000
set_option maxHeartbeats 4000000
set_option maxHeartbeats 1000000
namespace Go.Lf
open Go
noncomputable section
def zmK(p0:LP)(p1:Int):Option (Int):=
 if decide ((w64 (p1 - (p0.length:Int)))<0)then(some (-1))else(some (w64 (p1 - (p0.length:Int))))
def zfH(p0:LP)(p1:Int):Option (Int):=
 (zmK p0 p1).bind λa=>if decide (a<0)then(some (-1))else(some a)
def znu(p0:BS×Int)(p1:Int):Option (Int):=
 if decide ((w64 (p1 - (p0.1.length:Int)))<0)then(some (-1))else(some (w64 (p1 - (p0.1.length:Int))))
def zlm(a:Int):Option (Int):=
 some a
def zih(p0:LG)(a:Int×Int):Option ((Int×Int) ⊕ (Int ⊕ Int)):=
 if decide (a.2<(p0.length:Int))then((idx p0 a.2).bind λc=>(znu c a.1).bind λb=>if decide (b<0)then(some (.inr (.inr (-1))))else(some (.inl (b,w64 (a.2+1)))))else(some (.inr (.inl a.1)))
def zoR(p0:LG)(p1:Int):Option (Int):=
 if decide ((w64 (p1 - (p0.length:Int)))<0)then(some (-1))else((iter (zih p0) (w64 (p1 - (p0.length:Int)),0)).bind λa=>match a with | .inl z=>zlm z | .inr z=>some z)
def zer(p0:LI)(p1:Int):Option (Int):=
 if decide ((w64 (p1 - (p0.length:Int)))<0)then(some (-1))else(some (w64 (p1 - (p0.length:Int))))
def zns(p0:BS×LI)(p1:Int):Option (Int):=
 if decide ((w64 (p1 - (p0.1.length:Int)))<0)then(some (-1))else((zer p0.2 (w64 (p1 - (p0.1.length:Int)))).bind λa=>if decide (a<0)then(some (-1))else(some a))
def zll(a:Int):Option (Int):=
 some a
def zig(p0:LT)(a:Int×Int):Option ((Int×Int) ⊕ (Int ⊕ Int)):=
 if decide (a.2<(p0.length:Int))then((idx p0 a.2).bind λc=>(zns c a.1).bind λb=>if decide (b<0)then(some (.inr (.inr (-1))))else(some (.inl (b,w64 (a.2+1)))))else(some (.inr (.inl a.1)))
def zoQ(p0:LT)(p1:Int):Option (Int):=
 if decide ((w64 (p1 - (p0.length:Int)))<0)then(some (-1))else((iter (zig p0) (w64 (p1 - (p0.length:Int)),0)).bind λa=>match a with | .inl z=>zll z | .inr z=>some z)
def zmJ(p0:LG×LT)(p1:Int):Option (Int):=
 (zoR p0.1 p1).bind λa=>if decide (a<0)then(some (-1))else((zoQ p0.2 a).bind λb=>if decide (b<0)then(some (-1))else(some b))
def zkM(p0:TS×(LP)×Int)(p1:Int):Option (Int):=
 (zmJ p0.1 p1).bind λa=>if decide (a<0)then(some (-1))else((zfH p0.2.1 a).bind λb=>if decide (b<0)then(some (-1))else(some b))
def zjv(p0:LP)(p1:Int):Option (Int):=
 if decide ((w64 (p1 - (p0.length:Int)))<0)then(some (-1))else(some (w64 (p1 - (p0.length:Int))))
def zjw(a:Int):Option (Int):=
 some a
def zgl(p0:LM)(a:Int×Int):Option ((Int×Int) ⊕ (Int ⊕ Int)):=
 if decide (a.2<(p0.length:Int))then((idx p0 a.2).bind λc=>(zer c a.1).bind λb=>if decide (b<0)then(some (.inr (.inr (-1))))else(some (.inl (b,w64 (a.2+1)))))else(some (.inr (.inl a.1)))
def zmL(p0:LM)(p1:Int):Option (Int):=
 if decide ((w64 (p1 - (p0.length:Int)))<0)then(some (-1))else((iter (zgl p0) (w64 (p1 - (p0.length:Int)),0)).bind λa=>match a with | .inl z=>zjw z | .inr z=>some z)
def zlW(p0:Int×LP×LP×LI×LM)(p1:Int):Option (Int):=
 (zjv p0.2.1 p1).bind λa=>if decide (a<0)then(some (-1))else((zjv p0.2.2.1 a).bind λb=>if decide (b<0)then(some (-1))else((zer p0.2.2.2.1 b).bind λc=>if decide (c<0)then(some (-1))else((zmL p0.2.2.2.2 c).bind λd=>if decide (d<0)then(some (-1))else(some d))))
def zjx(p0:BS×(TS×(LP)×Int)×(LP)×(Int×LP×LP×LI×LM))(p1:Int):Option (Int):=
 if decide ((w64 (p1 - (p0.1.length:Int)))<0)then(some (-1))else((zkM p0.2.1 (w64 (p1 - (p0.1.length:Int)))).bind λa=>if decide (a<0)then(some (-1))else((zfH p0.2.2.1 a).bind λb=>if decide (b<0)then(some (-1))else((zlW p0.2.2.2 b).bind λc=>if decide (c<0)then(some (-1))else(some c))))
def zgA(p0:Int):Option (Bool):=
 if decide (p0≥97)then(if decide (p0<=122)then(some true)else(if decide (p0≥65)then(some (decide (p0<=90)))else(some false)))else(if decide (p0≥65)then(some (decide (p0<=90)))else(some false))
def zkJ(p0:Int):Option (Bool):=
 if decide (p0≥48)then(some (decide (p0<=57)))else(some false)
def zpK  : Option (Bool):=
 some true
def zeP(a:Int)(b:Bool):Option (Int ⊕ (Unit ⊕ Bool)):=
 if b then(some (.inr (.inr false)))else(some (.inl (w64 (a+1))))
def zbW(p0:BS)(a:Int):Option (Int ⊕ (Unit ⊕ Bool)):=
 if decide (a<(p0.length:Int))then((idx p0 a).bind λe=>(zgA (e.toNat:Int)).bind λf=>if !f then((idx p0 a).bind λb=>(zkJ (b.toNat:Int)).bind λc=>if !c then((idx p0 a).bind λd=>zeP a (!decide ((d.toNat:Int)=95)))else(zeP a false))else(zeP a false))else(some (.inr (.inl ())))
def zgD(p0:BS)(a:Bool):Option (Bool):=
 if a then(some false)else((iter (zbW p0) 1).bind λb=>match b with | .inl z=>zpK | .inr z=>some z)
def zgE(p0:BS):Option (Bool):=
 if decide ((p0.length:Int)<1)then(zgD p0 true)else(if decide ((p0.length:Int)>12)then(zgD p0 true)else((idx p0 0).bind λa=>(zgA (a.toNat:Int)).bind λb=>zgD p0 (!b)))
def zaq(p0:Int)(p1:Int)(a:Int):Option (Bool):=
 if decide (p0≥p1)then(some (decide (p0<=a)))else(some false)
def zeo(p0:Int×Int):Option (Bool):=
 (zaq p0.1 (-60) 60).bind λa=>if a then((zaq p0.2 (-60) 60).bind λb=>some b)else(some false)
def zde(p0:Int×Int)(p1:Int×Int):Option (Bool):=
 if decide (p0.2<p1.2)then(some true)else(if decide (p0.2=p1.2)then(some (decide (p0.1<p1.1)))else(some false))
def zlf  : Option (Bool):=
 some true
def zcp(a:Int)(b:Bool):Option (Int ⊕ (Unit ⊕ Bool)):=
 if b then(some (.inr (.inr false)))else(some (.inl (w64 (a+1))))
def zbl(p0:LP)(a:Int):Option (Int ⊕ (Unit ⊕ Bool)):=
 if decide (a<(p0.length:Int))then((idx p0 a).bind λb=>(zeo b.1).bind λc=>if !c then(zcp a true)else((zaq b.2 0 159).bind λd=>if !d then(zcp a true)else(if decide (a>0)then((idx p0 (w64 (a - 1))).bind λe=>(zde e.1 b.1).bind λf=>zcp a (!f))else(zcp a false))))else(some (.inr (.inl ())))
def zlQ(p0:LP):Option (Bool):=
 if decide ((p0.length:Int)>500)then(some false)else((iter (zbl p0) 0).bind λa=>match a with | .inl z=>zlf | .inr z=>some z)
def zh0(p0:LG×LT)(p1:Int):Option (Bool):=
 (zaq p1 0 (w64 ((p0.2.length:Int) - 1))).bind λa=>some a
def znJ  : Option (Bool):=
 some true
def zcU(p0:LG×LT)(p1:LP)(a:Int):Option (Int ⊕ (Unit ⊕ Bool)):=
 if decide (a<(p1.length:Int))then((idx p1 a).bind λb=>(zh0 p0 b.2).bind λc=>if !c then(some (.inr (.inr false)))else(some (.inl (w64 (a+1)))))else(some (.inr (.inl ())))
def zkg(p0:LG×LT)(p1:LP):Option (Bool):=
 (zlQ p1).bind λa=>if !a then(some false)else((iter (zcU p0 p1) 0).bind λb=>match b with | .inl z=>znJ | .inr z=>some z)
def zli  : Option (Int):=
 some 0
def zic(p0:LG×LT)(p1:BS)(a:Int):Option (Int ⊕ (Unit ⊕ Int)):=
 if decide (a<(p0.1.length:Int))then((idx p0.1 a).bind λb=>if decide (b.1=p1)then(some (.inr (.inr (w64 (a+1)))))else(some (.inl (w64 (a+1)))))else(some (.inr (.inl ())))
def zhe(p0:LG×LT)(p1:BS):Option (Int):=
 (iter (zic p0 p1) 0).bind λa=>match a with | .inl z=>zli | .inr z=>some z
def zlh  : Option (Int):=
 some (-1)
def zlg(p0:LG×LT)(p1:BS)(a:Int):Option (Int ⊕ (Unit ⊕ Int)):=
 if decide (a<(p0.2.length:Int))then((idx p0.2 a).bind λb=>if decide (b.1=p1)then(some (.inr (.inr a)))else(some (.inl (w64 (a+1)))))else(some (.inr (.inl ())))
def zhd(p0:LG×LT)(p1:BS):Option (Int):=
 (iter (zlg p0 p1) 0).bind λa=>match a with | .inl z=>zlh | .inr z=>some z
def znL  : Option (Bool):=
 some true
def zkI(a:Int):Option (Int ⊕ (Unit ⊕ Bool)):=
 some (.inl (w64 (a+1)))
def zfY(p0:LG×LT)(b:BS×LI)(a:Int):Option (Int ⊕ (Unit ⊕ (Int ⊕ (Unit ⊕ Bool)))):=
 if decide (a<4)then((idx b.2 a).bind λc=>(zaq c 0 (p0.1.length:Int)).bind λd=>if !d then(some (.inr (.inr (.inr (.inr false)))))else(some (.inl (w64 (a+1)))))else(some (.inr (.inl ())))
def zf0(p0:LG×LT)(a:Int)(b:BS×LI)(c:Bool):Option (Int ⊕ (Unit ⊕ Bool)):=
 if c then(some (.inr (.inr false)))else((iter (zfY p0 b) 0).bind λd=>match d with | .inl z=>zkI a | .inr z=>some z)
def zcV(p0:LG×LT)(a:Int):Option (Int ⊕ (Unit ⊕ Bool)):=
 if decide (a<(p0.2.length:Int))then((idx p0.2 a).bind λb=>(zgE b.1).bind λc=>if !c then(zf0 p0 a b true)else(if !decide ((b.2.length:Int)=4)then(zf0 p0 a b true)else((zhd p0 b.1).bind λd=>zf0 p0 a b (!decide (d=a)))))else(some (.inr (.inl ())))
def znM(p0:LG×LT):Option (Bool):=
 (iter (zcV p0) 0).bind λa=>match a with | .inl z=>znL | .inr z=>some z
def zfZ(a:Int)(b:Bool):Option (Int ⊕ (Unit ⊕ Bool)):=
 if b then(some (.inr (.inr false)))else(some (.inl (w64 (a+1))))
def zcW(p0:LG×LT)(a:Int):Option (Int ⊕ (Unit ⊕ Bool)):=
 if decide (a<(p0.1.length:Int))then((idx p0.1 a).bind λb=>(zgE b.1).bind λc=>if !c then(zfZ a true)else((zaq b.2 1 4).bind λd=>if !d then(zfZ a true)else((zhe p0 b.1).bind λe=>zfZ a (!decide (e=(w64 (a+1)))))))else(some (.inr (.inl ())))
def zhZ(p0:LG×LT)(b:Bool):Option (Bool):=
 if b then(some false)else((iter (zcW p0) 0).bind λa=>match a with | .inl z=>znM p0 | .inr z=>some z)
def zki(p0:LG×LT):Option (Bool):=
 if decide ((p0.1.length:Int)>200)then(zhZ p0 true)else(if decide ((p0.2.length:Int)<1)then(zhZ p0 true)else(zhZ p0 (decide ((p0.2.length:Int)>160))))
def zeu(p0:Int):Option (Bool):=
 (zaq p0 1 16).bind λa=>some a
def ztn(p0:Int):Option (Bool):=
 (zaq p0 0 3).bind λa=>some a
def zf1(p0:Int):Option (Int):=
 (ztn p0).bind λa=>if !a then(some (-1))else(some (Int.tmod (w64 (p0+2)) 4))
def zat(p0:LG×LT)(p1:Int):Option (Int):=
 if decide (p1=0)then(some 0)else((idx p0.1 (w64 (p1 - 1))).bind λa=>some a.2)
def zdV(p0:LG×LT)(p1:Int)(b:Int)(h:Int):Option (Int):=
 (idx p0.2 p1).bind λc=>(idx c.2 b).bind λa=>(idx p0.2 h).bind λd=>(zf1 b).bind λe=>(idx d.2 e).bind λf=>if !decide (a=f)then(some 0)else((zat p0 a).bind λg=>some g)
def zae(a:Int)(b:Int):Option ((Int×Int)):=
 some (a,b)
def zad(p0:Int×Int)(p1:Int):Option ((Int×Int)):=
 if decide (p1=0)then(zae p0.1 (w64 (p0.2+1)))else(if decide (p1=1)then(zae (w64 (p0.1+1)) p0.2)else(if decide (p1=2)then(zae p0.1 (w64 (p0.2 - 1)))else(if decide (p1=3)then(zae (w64 (p0.1 - 1)) p0.2)else(zae p0.1 p0.2))))
def zhc(a:Int)(b:Bool):Option (Int):=
 if b then(some a)else(some (-1))
def zkh(p0:LP)(p1:Int×Int)(a:Int):Option (Int):=
 if decide (a<(p0.length:Int))then((idx p0 a).bind λb=>zhc a (decide (b.1.1=p1.1)&&decide (b.1.2=p1.2)))else(zhc a false)
def zeO(p0:LP)(p1:Int×Int)(a:Int×Int):Option ((Int×Int) ⊕ Int):=
 if decide (a.1<a.2)then((idx p0 (w64 (Int.tdiv (w64 (a.1+a.2)) 2))).bind λb=>(zde b.1 p1).bind λc=>if c then(some (.inl (w64 ((w64 (Int.tdiv (w64 (a.1+a.2)) 2))+1),a.2)))else(some (.inl (a.1,w64 (Int.tdiv (w64 (a.1+a.2)) 2)))))else(some (.inr a.1))
def zaZ(p0:LP)(p1:Int×Int):Option (Int):=
 (iter (zeO p0 p1) (0,(p0.length:Int))).bind λa=>zkh p0 p1 a
def zg9(p0:LP)(p1:Int)(c:Int):Option (Int):=
 (idx p0 p1).bind λd=>(zad d.1 c).bind λa=>(zaZ p0 a).bind λb=>some b
def zke(a:LB):Option (LB):=
 some a
def zkd(a:LB×Int)(b:LB):Option ((LB×Int) ⊕ (LB)):=
 some (.inl (b,w64 (a.2+1)))
def zc1(a:LB×Int)(b:LB):Option ((LB×Int) ⊕ (LB)):=
 some (.inl (b,w64 (a.2 - 1)))
def zbz(p0:LG×LT)(p1:LP)(b:LB×Int)(a:LB×Int):Option ((LB×Int) ⊕ (LB)):=
 if decide (a.2≥0)then((zg9 p1 b.2 a.2).bind λc=>if decide (c<0)then(zc1 a a.1)else((idx p1 b.2).bind λe=>(idx p1 c).bind λf=>(zdV p0 e.2 a.2 f.2).bind λd=>if decide (d>0)then((app 24 a.1 [(b.2,(c,d))]).bind λg=>zc1 a g)else(zc1 a a.1)))else(some (.inr a.1))
def zbA(p0:LG×LT)(p1:LP)(a:LB×Int):Option ((LB×Int) ⊕ (LB)):=
 if decide (a.2<(p1.length:Int))then((iter (zbz p0 p1 a) (a.1,1)).bind λb=>zkd a b)else(some (.inr a.1))
def zen(p0:LG×LT)(p1:LP):Option (LB):=
 (iter (zbA p0 p1) ([],0)).bind λa=>zke a
def zdW(p0:Int)(p1:Int):Option (Int):=
 if decide (p0>p1)then(some p0)else(some p1)
def zgB(p0:Int)(p1:Int):Option (Int):=
 if decide (p0<p1)then(some p0)else(some p1)
def zja(a:LM):Option (LM):=
 some a
def zdT(a:LM×Int)(b:LM):Option ((LM×Int) ⊕ (LM)):=
 some (.inl (b,w64 (a.2+1)))
def zi9(a:LM×Int)(b:LI):Option ((LM×Int) ⊕ (LM)):=
 (app 24 a.1 [b]).bind λc=>zdT a c
def zgg(a:LI×Int)(b:LI):Option ((LI×Int) ⊕ (LI)):=
 some (.inl (b,w64 (a.2+1)))
def zdP(p0:Int)(d:LI)(b:LM×Int)(a:LI×Int):Option ((LI×Int) ⊕ (LI)):=
 if decide (a.2<p0)then((idx d a.2).bind λe=>if decide (e=b.2)then((app 8 a.1 [a.2]).bind λc=>zgg a c)else(zgg a a.1))else(some (.inr a.1))
def zdQ(p0:Int)(b:LI)(a:LM×Int):Option ((LM×Int) ⊕ (LM)):=
 if decide (a.2<p0)then((idx b a.2).bind λc=>if !decide (c=a.2)then(zdT a a.1)else((iter (zdP p0 b a) ([],a.2)).bind λd=>zi9 a d))else(some (.inr a.1))
def zjb(p0:Int)(a:LI):Option (LM):=
 (iter (zdQ p0 a) ([],0)).bind λb=>zja b
def zi8(a:LI×Int)(b:LI):Option ((LI×Int) ⊕ (LI)):=
 some (.inl (b,w64 (a.2+1)))
def zgf(a:LI×Int)(b:LI):Option ((LI×Int) ⊕ (LI)):=
 some (.inl (b,w64 (a.2+1)))
def zdO(b:Int)(c:Int)(a:LI×Int):Option ((LI×Int) ⊕ (LI)):=
 if decide (a.2<(a.1.length:Int))then((idx a.1 a.2).bind λd=>(zdW b c).bind λe=>if decide (d=e)then((zgB b c).bind λf=>(idx a.1 a.2).bind λh=>(some (a.1.set a.2.toNat f)).bind λg=>zgf a g)else(zgf a a.1))else(some (.inr a.1))
def zdR(p1:LB)(a:LI×Int):Option ((LI×Int) ⊕ (LI)):=
 if decide (a.2<(p1.length:Int))then((idx p1 a.2).bind λb=>(idx a.1 b.1).bind λc=>(idx p1 a.2).bind λ_=>(idx a.1 b.2.1).bind λd=>(iter (zdO c d) (a.1,0)).bind λe=>zi8 a e)else(some (.inr a.1))
def zjc(p0:Int)(p1:LB)(b:LI):Option (LM):=
 (iter (zdR p1) (b,0)).bind λa=>zjb p0 a
def zdS(p0:Int)(a:LI×Int):Option ((LI×Int) ⊕ (LI)):=
 if decide (a.2<p0)then((app 8 a.1 [a.2]).bind λb=>some (.inl (b,w64 (a.2+1))))else(some (.inr a.1))
def zjd(p0:Int)(p1:LB):Option (LM):=
 (iter (zdS p0) ([],0)).bind λa=>zjc p0 p1 a
def zi3(a:LM)(b:LB):Option (Int×LB):=
 some ((a.length:Int),b)
def zgd(a:LB×Int)(b:LB):Option ((LB×Int) ⊕ (LB)):=
 some (.inl (b,w64 (a.2+1)))
def zdL(p1:LB)(e:LI)(a:LB×Int):Option ((LB×Int) ⊕ (LB)):=
 if decide (a.2<(p1.length:Int))then((idx p1 a.2).bind λb=>(idx e b.1).bind λc=>(idx p1 a.2).bind λ_=>(idx e b.2.1).bind λd=>if !decide (c=d)then((idx p1 a.2).bind λ_=>(zgB c d).bind λg=>(zdW c d).bind λh=>(app 24 a.1 [(g,(h,b.2.2))]).bind λf=>zgd a f)else(zgd a a.1))else(some (.inr a.1))
def zi4(p1:LB)(a:LM)(b:LI):Option (Int×LB):=
 (iter (zdL p1 b) ([],0)).bind λc=>zi3 a c
def znd(a:LI×Int)(b:LI):Option ((LI×Int) ⊕ (LI)):=
 some (.inl (b,w64 (a.2+1)))
def zb8(e:LM)(b:LI×Int)(a:LI×Int):Option ((LI×Int) ⊕ (LI)):=
 (idx e b.2).bind λc=>if decide (a.2<(c.length:Int))then((idx e b.2).bind λ_=>(idx c a.2).bind λd=>(idx a.1 d).bind λg=>(some (a.1.set d.toNat b.2)).bind λf=>some (.inl (f,w64 (a.2+1))))else(some (.inr a.1))
def zgb(b:LM)(a:LI×Int):Option ((LI×Int) ⊕ (LI)):=
 if decide (a.2<(b.length:Int))then((iter (zb8 b a) (a.1,0)).bind λc=>znd a c)else(some (.inr a.1))
def zi5(p0:Int)(p1:LB)(c:LB):Option (Int×LB):=
 (zjd p0 c).bind λa=>(mkl 8 p0 0).bind λd=>(iter (zgb a) (d,0)).bind λb=>zi4 p1 a b
def zgc(a:LB×Int)(b:LB):Option ((LB×Int) ⊕ (LB)):=
 some (.inl (b,w64 (a.2+1)))
def zdM(p1:LB)(d:Int)(a:LB×Int):Option ((LB×Int) ⊕ (LB)):=
 if decide (a.2<(p1.length:Int))then((idx p1 a.2).bind λb=>if decide (b.2.2≥d)then((idx p1 a.2).bind λ_=>(app 24 a.1 [b]).bind λc=>zgc a c)else(zgc a a.1))else(some (.inr a.1))
def zi6(p0:Int)(p1:LB)(b:Int):Option (Int×LB):=
 (iter (zdM p1 b) ([],0)).bind λa=>zi5 p0 p1 a
def zpE(p0:Int)(p1:LB)(a:LI)(b:LM):Option ((Int×LB×LM×LI)):=
 some (p0,(p1,(b,a)))
def zdc(p1:LB)(a:Int×LM):Option ((Int×LM) ⊕ (LM)):=
 if decide (a.1<(p1.length:Int))then((idx p1 a.1).bind λb=>(idx p1 a.1).bind λ_=>(idx a.2 b.1).bind λf=>(app 8 f [a.1]).bind λg=>(some (a.2.set b.1.toNat g)).bind λc=>(idx p1 a.1).bind λ_=>(idx p1 a.1).bind λ_=>(idx c b.2.1).bind λh=>(app 8 h [a.1]).bind λd=>(some (c.set b.2.1.toNat d)).bind λe=>some (.inl (w64 (a.1+1),e)))else(some (.inr a.2))
def zne(p0:Int)(p1:LB):Option ((Int×LB×LM×LI)):=
 (mkl 24 p0 ([]:LI)).bind λa=>(mkl 8 (p1.length:Int) 0).bind λb=>(iter (zdc p1) (0,a)).bind λc=>zpE p0 p1 b c
def zeG(p0:Int×LB×LM×LI)(p1:Int)(b:Int):Option (Int×Int×(Int×LB×LM×LI)):=
 (idx p0.2.1 b).bind λa=>if decide (a.1=p1)then((idx p0.2.2.2 b).bind λc=>some (w64 (a.2.2 - c),a.2.1,p0))else((idx p0.2.2.2 b).bind λd=>some (w64 (a.2.2+d),a.1,p0))
def zgw(p0:Int×LB×LM×LI)(a:LI)(b:LI):Option (LI×(Int×LB×LM×LI)):=
 some (a,(p0.1,(p0.2.1,(p0.2.2.1,b))))
def zkX(a:LI×LI×Int×LI)(b:LI)(c:LI)(d:LI):Option ((LI×LI×Int×LI) ⊕ (LI×LI)):=
 some (.inl (b,c,w64 (a.2.2.1+1),d))
def zbV(a:LI×LI×Int×LI)(b:LI)(c:LI)(d:LI):Option ((LI×LI×Int×LI) ⊕ (LI×LI×LI)):=
 some (.inl (b,c,w64 (a.2.2.1+1),d))
def zaR(d:Int)(a:LI×LI×Int×LI)(b:Int×Int×Int)(c:Int×Int×Int)(e:Int×Int×(Int×LB×LM×LI))(f:Bool):Option ((LI×LI×Int×LI) ⊕ (LI×LI×LI)):=
 if f then((idx a.1 d).bind λg=>(idx a.1 (w64 ((w64 (b.1+c.2.1)) - d))).bind λj=>(some (a.1.set (w64 ((w64 (b.1+c.2.1)) - d)).toNat (w64 (g+1)))).bind λh=>(app 8 a.2.1 [w64 ((w64 (b.1+c.2.1)) - d)]).bind λi=>zbV a h i e.2.2.2.2.2)else(zbV a a.1 a.2.1 e.2.2.2.2.2)
def zbS(p0:Int×LB×LM×LI)(b:Int)(a:LI×LI×Int×LI):Option ((LI×LI×Int×LI) ⊕ (LI×LI×LI)):=
 (idx p0.2.2.1 b).bind λg=>if decide (a.2.2.1<(g.length:Int))then((idx p0.2.2.1 b).bind λ_=>(idx g a.2.2.1).bind λe=>(idx p0.2.1 e).bind λc=>(idx p0.2.1 e).bind λd=>(zeG (p0.1,(p0.2.1,(p0.2.2.1,a.2.2.2))) (w64 ((w64 (c.1+d.2.1)) - b)) e).bind λf=>(idx a.1 (w64 ((w64 (c.1+d.2.1)) - b))).bind λh=>if decide (h<0)then(zaR b a c d f (decide (f.1>0)))else(zaR b a c d f false))else(some (.inr (a.1,a.2.1,a.2.2.2)))
def zbT(p0:Int×LB×LM×LI)(a:LI×LI×Int×LI):Option ((LI×LI×Int×LI) ⊕ (LI×LI)):=
 if decide (a.2.2.1<(a.2.1.length:Int))then((idx a.2.1 a.2.2.1).bind λc=>(iter (zbS p0 c) (a.1,a.2.1,0,a.2.2.2)).bind λb=>zkX a b.1 b.2.1 b.2.2)else(some (.inr (a.1,a.2.2.2)))
def zgx(p0:Int×LB×LM×LI)(p1:Int)(a:LI):Option (LI×(Int×LB×LM×LI)):=
 (idx a p1).bind λd=>(some (a.set p1.toNat 0)).bind λc=>(iter (zbT p0) (c,[p1],0,p0.2.2.2)).bind λb=>zgw p0 b.1 b.2
def zbU(p0:Int×LB×LM×LI)(a:LI×Int):Option ((LI×Int) ⊕ (LI)):=
 if decide (a.2<p0.1)then((app 8 a.1 [(-1)]).bind λb=>some (.inl (b,w64 (a.2+1))))else(some (.inr a.1))
def zdN(p0:Int×LB×LM×LI)(p1:Int):Option (LI×(Int×LB×LM×LI)):=
 (iter (zbU p0) ([],0)).bind λa=>zgx p0 p1 a
def zg8(p0:Int×LB×LM×LI)(p1:Int)(a:Int):Option ((Int×LB×LM×LI)):=
 (idx p0.2.1 a).bind λb=>if decide (b.1=p1)then((idx p0.2.2.2 a).bind λc=>(idx p0.2.2.2 a).bind λg=>(some (p0.2.2.2.set a.toNat (w64 (c+1)))).bind λd=>some (p0.1,(p0.2.1,(p0.2.2.1,d))))else((idx p0.2.2.2 a).bind λe=>(idx p0.2.2.2 a).bind λh=>(some (p0.2.2.2.set a.toNat (w64 (e - 1)))).bind λf=>some (p0.1,(p0.2.1,(p0.2.2.1,f))))
def zlx(p0:Int×LB×LM×LI)(a:LI):Option (Bool×(Int×LB×LM×LI)):=
 some (true,(p0.1,(p0.2.1,(p0.2.2.1,a))))
def zhz(p0:Int×LB×LM×LI)(a:Int×LI)(b:Int)(c:Int)(d:LI):Option ((Int×LI) ⊕ (LI)):=
 (zg8 (p0.1,(p0.2.1,(p0.2.2.1,d))) a.1 c).bind λe=>some (.inl (b,e.2.2.2))
def zcz(a:Int×Int×Int×LI)(b:Int)(c:Int)(d:LI):Option ((Int×Int×Int×LI) ⊕ (Int×Int×LI)):=
 some (.inl (b,c,w64 (a.2.2.1+1),d))
def zac(p0:Int×LB×LM×LI)(c:Int×LI)(a:Int×Int×Int×LI)(e:LI)(f:Int)(b:Int×Int×(Int×LB×LM×LI))(d:Bool):Option ((Int×Int×Int×LI) ⊕ (Int×Int×LI)):=
 if d then((idx p0.2.2.1 c.1).bind λ_=>(idx e a.2.2.1).bind λ_=>zcz a b.2.1 f b.2.2.2.2.2)else(zcz a a.1 a.2.1 b.2.2.2.2.2)
def zcx(p0:Int×LB×LM×LI)(f:LI×(Int×LB×LM×LI))(b:Int×LI)(a:Int×Int×Int×LI):Option ((Int×Int×Int×LI) ⊕ (Int×Int×LI)):=
 (idx p0.2.2.1 b.1).bind λd=>if decide (a.2.2.1<(d.length:Int))then((idx p0.2.2.1 b.1).bind λ_=>(idx d a.2.2.1).bind λe=>(zeG (p0.1,(p0.2.1,(p0.2.2.1,a.2.2.2))) b.1 e).bind λc=>if decide (c.1>0)then((idx f.1 c.2.1).bind λg=>(idx f.1 b.1).bind λh=>if decide (g=(w64 (h - 1)))then(if decide (a.1<0)then(zac p0 b a d e c true)else(zac p0 b a d e c (decide (c.2.1<a.1))))else(zac p0 b a d e c false))else(zac p0 b a d e c false))else(some (.inr (a.1,a.2.1,a.2.2.2)))
def zcy(p0:Int×LB×LM×LI)(d:Int)(c:LI×(Int×LB×LM×LI))(a:Int×LI):Option ((Int×LI) ⊕ (LI)):=
 if !decide (a.1=d)then((iter (zcx p0 c a) ((-1),0,0,a.2)).bind λb=>zhz p0 a b.1 b.2.1 b.2.2)else(some (.inr a.2))
def zeH(p0:Int×LB×LM×LI)(p1:Int)(b:Int):Option (Bool×(Int×LB×LM×LI)):=
 (zdN p0 b).bind λa=>(idx a.1 p1).bind λc=>if decide (c<0)then(some (false,(p0.1,(p0.2.1,(p0.2.2.1,a.2.2.2.2)))))else((iter (zcy p0 b a) (p1,a.2.2.2.2)).bind λd=>zlx p0 d)
def zld(a:(Int×LB×LM×LI))(b:Int)(c:LI):Option ((Int×LB×LM×LI)×Int):=
 some ((a.1,(a.2.1,(a.2.2.1,c))),b)
def zfC(d:Int)(e:Int)(b:(Int×LB×LM×LI))(a:Int×LI):Option ((Int×LI) ⊕ (Int×LI)):=
 (zeH (b.1,(b.2.1,(b.2.2.1,a.2))) d e).bind λc=>if c.1 then(some (.inl (w64 (a.1+1),c.2.2.2.2)))else(some (.inr (a.1,c.2.2.2.2)))
def zlO(p0:Int)(p1:LB)(c:Int)(d:Int):Option ((Int×LB×LM×LI)×Int):=
 (zne p0 p1).bind λa=>(iter (zfC c d a) (0,a.2.2.2)).bind λb=>zld a b.1 b.2
def zhy(p0:Int×LB×LM×LI)(a:LI×(Int×LB×LM×LI))(b:LI):Option (LI×(Int×LB×LM×LI)):=
 some (b,(p0.1,(p0.2.1,(p0.2.2.1,a.2.2.2.2))))
def zew(a:LI×Int)(b:LI):Option ((LI×Int) ⊕ (LI)):=
 some (.inl (b,w64 (a.2+1)))
def zev(p0:Int×LB×LM×LI)(b:LI×(Int×LB×LM×LI))(a:LI×Int):Option ((LI×Int) ⊕ (LI)):=
 if decide (a.2<p0.1)then((idx b.1 a.2).bind λc=>if decide (c≥0)then((app 8 a.1 [a.2]).bind λd=>zew a d)else(zew a a.1))else(some (.inr a.1))
def zg7(p0:Int×LB×LM×LI)(p1:Int):Option (LI×(Int×LB×LM×LI)):=
 (zdN p0 p1).bind λa=>(iter (zev p0 a) ([],0)).bind λb=>zhy p0 a b
def znf  : Option (Bool):=
 some false
def zge(p1:LI)(b:LI)(a:Int):Option (Int ⊕ (Unit ⊕ Bool)):=
 if decide (a<(p1.length:Int))then((idx p1 a).bind λc=>(idx b a).bind λd=>if !decide (c=d)then((idx p1 a).bind λe=>(idx b a).bind λf=>some (.inr (.inr (decide (e<f)))))else(some (.inl (w64 (a+1)))))else(some (.inr (.inl ())))
def zi7(p0:Int)(p1:LI)(b:Int)(a:LI):Option (Bool):=
 if !decide (p0=b)then(some (decide (p0<b)))else(if !decide ((p1.length:Int)=(a.length:Int))then(some (decide ((p1.length:Int)<(a.length:Int))))else((iter (zge p1 a) 0).bind λc=>match c with | .inl z=>znf | .inr z=>some z))
def ziy(a:Int)(b:LI):Option (Int×LI):=
 some (a,b)
def zdb(a:Int×LI×Int)(b:Int)(c:LI):Option ((Int×LI×Int) ⊕ (Int×LI)):=
 some (.inl (b,c,w64 (a.2.2+1)))
def zaM(a:Int×LI×Int)(b:(Int×LB×LM×LI)×Int)(c:LI×(Int×LB×LM×LI))(d:Bool):Option ((Int×LI×Int) ⊕ (Int×LI)):=
 if d then(zdb a b.2 c.1)else(zdb a a.1 a.2.1)
def zfj(p0:Int)(p1:LB)(a:Int×LI×Int):Option ((Int×LI×Int) ⊕ (Int×LI)):=
 if decide (a.2.2<p0)then((zlO p0 p1 0 a.2.2).bind λb=>(zg7 b.1 a.2.2).bind λc=>if decide (a.1<0)then(zaM a b c true)else((zi7 b.2 c.1 a.1 a.2.1).bind λd=>zaM a b c d))else(some (.inr (a.1,a.2.1)))
def zib(p0:Int)(p1:LB):Option (Int×LI):=
 (iter (zfj p0 p1) ((-1),[],1)).bind λa=>ziy a.1 a.2
def zi2(p0:LG×LT)(p1:LP)(b:Int):Option (Bool×Int):=
 (zen p0 p1).bind λc=>(zi6 (p1.length:Int) c b).bind λa=>if decide (a.1>64)then(some (false,4))else(if decide (a.1<2)then(some (true,0))else((zib a.1 a.2).bind λd=>some (decide (d.1≥b),0)))
def zfV(p0:TS×(LP)×Int)(b:Bool):Option (Bool):=
 if b then(some false)else((zi2 p0.1 p0.2.1 p0.2.2).bind λa=>if a.1 then(some (decide (a.2=0)))else(some false))
def zfi(p0:TS×(LP)×Int):Option (Bool):=
 (zki p0.1).bind λa=>if !a then(zfV p0 true)else((zkg p0.1 p0.2.1).bind λb=>if !b then(zfV p0 true)else(if decide ((p0.2.1.length:Int)=0)then(zfV p0 true)else((zeu p0.2.2).bind λx23=>zfV p0 (!x23))))
def zg6(a:Bool):Option (Int):=
 if a then(some 1)else(some 0)
def znH(p0:TS×(LP)×Int)(p1:LP):Option (Int):=
 (zfi p0).bind λa=>if !a then(zg6 true)else((zkg p0.1 p1).bind λb=>zg6 (!b))
def zgu(p0:Int×LP×LP×LI×LM):Option (Bool):=
 if decide (p0.1<=4)then(if decide (p0.1=4)then(if decide (p0.1=6)then(if decide (p0.1=5)then(some true)else(some (decide ((p0.2.2.2.2.length:Int)=0))))else(if decide ((p0.2.2.2.1.length:Int)=0)then(if decide (p0.1=5)then(some true)else(some (decide ((p0.2.2.2.2.length:Int)=0))))else(some false)))else(if decide ((p0.2.2.1.length:Int)=0)then(if decide (p0.1=6)then(if decide (p0.1=5)then(some true)else(some (decide ((p0.2.2.2.2.length:Int)=0))))else(if decide ((p0.2.2.2.1.length:Int)=0)then(if decide (p0.1=5)then(some true)else(some (decide ((p0.2.2.2.2.length:Int)=0))))else(some false)))else(some false)))else(if decide ((p0.2.1.length:Int)=0)then(if decide (p0.1=4)then(if decide (p0.1=6)then(if decide (p0.1=5)then(some true)else(some (decide ((p0.2.2.2.2.length:Int)=0))))else(if decide ((p0.2.2.2.1.length:Int)=0)then(if decide (p0.1=5)then(some true)else(some (decide ((p0.2.2.2.2.length:Int)=0))))else(some false)))else(if decide ((p0.2.2.1.length:Int)=0)then(if decide (p0.1=6)then(if decide (p0.1=5)then(some true)else(some (decide ((p0.2.2.2.2.length:Int)=0))))else(if decide ((p0.2.2.2.1.length:Int)=0)then(if decide (p0.1=5)then(some true)else(some (decide ((p0.2.2.2.2.length:Int)=0))))else(some false)))else(some false)))else(some false))
def zdU(p0:LP):Option ((LP)):=
 (app 24 ([]:LP) p0).bind λa=>some a
def zdd(p0:LP)(p1:Int×Int):Option (Int):=
 (zaZ p0 p1).bind λa=>if decide (a<0)then(some (-1))else((idx p0 a).bind λb=>some b.2)
def zms(a:Int):Option (Int):=
 some a
def zfl(a:Int×Int)(b:Int):Option ((Int×Int) ⊕ Int):=
 some (.inl (b,w64 (a.2+1)))
def zfk(p0:LG×LT)(p1:LP)(e:Int×Int)(f:Int)(a:Int×Int):Option ((Int×Int) ⊕ Int):=
 if decide (a.2<4)then((zad e a.2).bind λc=>(zdd p1 c).bind λb=>if decide (b≥0)then((zdV p0 f a.2 b).bind λd=>zfl a (w64 (a.1+d)))else(zfl a a.1))else(some (.inr a.1))
def zfD(p0:LG×LT)(p1:LP)(b:Int×Int)(c:Int):Option (Int):=
 (iter (zfk p0 p1 b c) (0,0)).bind λa=>zms a
def znc(p0:TS×(LP)×Int)(p1:LP)(a:(Int×Int)×Int):Option (Bool):=
 (zeo a.1).bind λb=>if b then((zh0 p0.1 a.2).bind λx23=>if x23 then((zaZ p1 a.1).bind λc=>if decide (c<0)then((zfD p0.1 p1 a.1 a.2).bind λd=>some (decide (d≥p0.2.2)))else(some false))else(some false))else(some false)
def zgy(a:LP):Option ((LP)):=
 some a
def zgz(p1:Int×Int)(d:Int)(b:Bool)(a:LP):Option ((LP)):=
 if !b then((app 24 a [(p1,d)]).bind λc=>zgy c)else(zgy a)
def zeN(p0:LP)(a:Bool×Int×LP)(b:Bool)(c:LP):Option ((Bool×Int×LP) ⊕ (Bool×LP)):=
 (idx p0 a.2.1).bind λd=>(app 24 c [d]).bind λe=>some (.inl (b,w64 (a.2.1+1),e))
def zeM(p0:LP)(p1:Int×Int)(d:Int)(a:Bool×Int×LP)(b:Bool):Option ((Bool×Int×LP) ⊕ (Bool×LP)):=
 if b then((app 24 a.2.2 [(p1,d)]).bind λc=>zeN p0 a true c)else(zeN p0 a a.1 a.2.2)
def zaf(p0:LP)(p1:Int×Int)(c:Int)(a:Bool×Int×LP):Option ((Bool×Int×LP) ⊕ (Bool×LP)):=
 if decide (a.2.1<(p0.length:Int))then(if !a.1 then((idx p0 a.2.1).bind λd=>(zde p1 d.1).bind λb=>zeM p0 p1 c a b)else(zeM p0 p1 c a false))else(some (.inr (a.1,a.2.2)))
def zkY(p0:LP)(p1:Int×Int)(b:Int):Option ((LP)):=
 (iter (zaf p0 p1 b) (false,0,[])).bind λa=>zgz p1 b a.1 a.2
def zi1(p0:LP)(p1:(Int×Int)×Int):Option ((LP)×Int):=
 if decide ((p0.length:Int)≥500)then(some ([],4))else((zkY p0 p1.1 p1.2).bind λa=>some (a,0))
def zlb(a:LP):Option ((LP)×Int×Int):=
 some (a,0,0)
def zaG(p0:TS×(LP)×Int)(p1:LP)(a:Int×LP):Option ((Int×LP) ⊕ ((LP) ⊕ ((LP)×Int×Int))):=
 if decide (a.1<(p1.length:Int))then((idx p1 a.1).bind λc=>(znc p0 a.2 c).bind λd=>if !d then(some (.inr (.inr ([],a.1,5))))else((idx p1 a.1).bind λ_=>(zi1 a.2 c).bind λb=>if !decide (b.2=0)then(some (.inr (.inr ([],0,b.2))))else(some (.inl (w64 (a.1+1),b.1)))))else(some (.inr (.inl a.2)))
def zg5(p0:TS×(LP)×Int)(p1:LP):Option ((LP)×Int×Int):=
 (zdU p0.2.1).bind λa=>(iter (zaG p0 p1) (0,a)).bind λb=>match b with | .inl z=>zlb z | .inr z=>some z
def zdX(p0:TS×(LP)×Int)(p1:LP):Option ((LP)×Int×Int):=
 (zfi p0).bind λb=>if !b then(some ([],0,1))else(if decide ((p1.length:Int)>500)then(some ([],0,2))else((zg5 p0 p1).bind λa=>some (a.1,a.2.1,a.2.2)))
def zle  : Option (Bool):=
 some true
def zdA(p0:LP)(p1:LP)(a:Int):Option (Int ⊕ (Unit ⊕ Bool)):=
 if decide (a<(p0.length:Int))then((idx p0 a).bind λb=>(idx p1 a).bind λc=>if !((decide (b.1.1=c.1.1)&&decide (b.1.2=c.1.2))&&decide (b.2=c.2))then(some (.inr (.inr false)))else(some (.inl (w64 (a+1)))))else(some (.inr (.inl ())))
def zjf(p0:LP)(p1:LP):Option (Bool):=
 if !decide ((p0.length:Int)=(p1.length:Int))then(some false)else((iter (zdA p0 p1) 0).bind λa=>match a with | .inl z=>zle | .inr z=>some z)
def zbI(p0:TS×(LP)×Int)(p1:LP)(c:LP):Option (Bool):=
 (zdX p0 p1).bind λa=>if decide (a.2.2=0)then((zjf a.1 c).bind λb=>some b)else(some false)
def zhw(p1:Int×Int)(a:Int)(b:List (Int×Int)):Option ((List (Int×Int))):=
 (idx b a).bind λd=>(some (b.set a.toNat p1)).bind λc=>some c
def zcw(b:Int)(a:(List (Int×Int))×Int):Option (((List (Int×Int))×Int) ⊕ ((List (Int×Int)))):=
 if decide (a.2>b)then((idx a.1 (w64 (a.2 - 1))).bind λc=>(idx a.1 a.2).bind λe=>(some (a.1.set a.2.toNat c)).bind λd=>some (.inl (d,w64 (a.2 - 1))))else(some (.inr a.1))
def zbg(p0:List (Int×Int))(p1:Int×Int)(a:Int)(b:Bool):Option ((List (Int×Int))):=
 if b then(some p0)else((app 16 p0 [p1]).bind λx23=>(iter (zcw a) (x23,w64 ((x23.length:Int) - 1))).bind λc=>zhw p1 a c)
def zhx(p0:List (Int×Int))(p1:Int×Int)(a:Int):Option ((List (Int×Int))):=
 if decide (a<(p0.length:Int))then((idx p0 a).bind λb=>zbg p0 p1 a (decide (b.1=p1.1)&&decide (b.2=p1.2)))else(zbg p0 p1 a false)
def zbf(a:Int)(b:Bool):Option (Int ⊕ Int):=
 if b then(some (.inl (w64 (a - 1))))else(some (.inr a))
def zay(p0:List (Int×Int))(p1:Int×Int)(a:Int):Option (Int ⊕ Int):=
 if decide (a>0)then((idx p0 (w64 (a - 1))).bind λb=>(zde b p1).bind λc=>zbf a (!c))else(zbf a false)
def zg4(p0:List (Int×Int))(p1:Int×Int):Option ((List (Int×Int))):=
 (iter (zay p0 p1) (p0.length:Int)).bind λa=>zhx p0 p1 a
def zpe(a:List (Int×Int)):Option ((List (Int×Int))):=
 some a
def zlc(a:(List (Int×Int))×Int)(b:List (Int×Int)):Option (((List (Int×Int))×Int) ⊕ ((List (Int×Int)))):=
 some (.inl (b,w64 (a.2+1)))
def zfB(a:(List (Int×Int))×Int)(b:List (Int×Int)):Option (((List (Int×Int))×Int) ⊕ ((List (Int×Int)))):=
 some (.inl (b,w64 (a.2+1)))
def zfA(a:(List (Int×Int))×Int)(b:(Int×Int))(c:Bool):Option (((List (Int×Int))×Int) ⊕ ((List (Int×Int)))):=
 if c then((zg4 a.1 b).bind λd=>zfB a d)else(zfB a a.1)
def zdy(p0:LP)(c:(List (Int×Int))×Int)(a:(List (Int×Int))×Int):Option (((List (Int×Int))×Int) ⊕ ((List (Int×Int)))):=
 if decide (a.2<4)then((idx p0 c.2).bind λd=>(zad d.1 a.2).bind λb=>(zeo b).bind λe=>if e then((zaZ p0 b).bind λf=>zfA a b (decide (f<0)))else(zfA a b false))else(some (.inr a.1))
def zdz(p0:LP)(a:(List (Int×Int))×Int):Option (((List (Int×Int))×Int) ⊕ ((List (Int×Int)))):=
 if decide (a.2<(p0.length:Int))then((iter (zdy p0 a) (a.1,0)).bind λb=>zlc a b)else(some (.inr a.1))
def zlN(p0:LP):Option ((List (Int×Int))):=
 (iter (zdz p0) ([],0)).bind λa=>zpe a
def znF(a:LI):Option (LI):=
 some a
def zkH(a:LI×Int)(b:LI):Option ((LI×Int) ⊕ (LI)):=
 some (.inl (b,w64 (a.2+1)))
def znE(d:Int)(a:LI×Int)(b:Int):Option ((LI×Int) ⊕ (LI)):=
 if decide (b≥d)then((app 8 a.1 [a.2]).bind λc=>zkH a c)else(zkH a a.1)
def zkG(a:Int×Int)(b:Int):Option ((Int×Int) ⊕ Int):=
 some (.inl (b,w64 (a.2+1)))
def zhX(p0:LG×LT)(b:LI)(d:LI×Int)(a:Int×Int):Option ((Int×Int) ⊕ Int):=
 if decide (a.2<4)then((idx p0.2 d.2).bind λe=>(idx e.2 a.2).bind λf=>(idx b a.2).bind λc=>if decide (f=c)then((idx b a.2).bind λ_=>(zat p0 c).bind λg=>zkG a (w64 (a.1+g)))else(zkG a a.1))else(some (.inr a.1))
def zhY(p0:LG×LT)(d:Int)(b:LI)(a:LI×Int):Option ((LI×Int) ⊕ (LI)):=
 if decide (a.2<(p0.2.length:Int))then((iter (zhX p0 b a) (0,0)).bind λc=>znE d a c)else(some (.inr a.1))
def znG(p0:LG×LT)(c:Int)(a:LI):Option (LI):=
 (iter (zhY p0 c a) ([],0)).bind λb=>znF b
def zkF(a:LI×Int)(b:LI):Option ((LI×Int) ⊕ (LI)):=
 some (.inl (b,w64 (a.2+1)))
def zfW(p0:LG×LT)(p1:LP)(i:Int×Int)(a:LI×Int):Option ((LI×Int) ⊕ (LI)):=
 if decide (a.2<4)then((zad i a.2).bind λc=>(zdd p1 c).bind λb=>if decide (b<0)then((app 8 a.1 [0]).bind λd=>zkF a d)else((idx p0.2 b).bind λe=>(zf1 a.2).bind λf=>(idx e.2 f).bind λg=>(app 8 a.1 [g]).bind λh=>zkF a h))else(some (.inr a.1))
def zmq(p0:LG×LT)(p1:LP)(b:Int×Int)(c:Int):Option (LI):=
 (iter (zfW p0 p1 b) ([],0)).bind λa=>znG p0 c a
def zmp(a:LP):Option (LP):=
 some a
def zix(a:LP×Int)(b:LP):Option ((LP×Int) ⊕ (LP)):=
 some (.inl (b,w64 (a.2+1)))
def zbx(d:(List (Int×Int)))(c:LP×Int)(e:Int×Int)(b:LI)(a:LP×Int):Option ((LP×Int) ⊕ (LP)):=
 if decide (a.2<(b.length:Int))then((idx d c.2).bind λ_=>(idx b a.2).bind λf=>(app 24 a.1 [(e,f)]).bind λg=>some (.inl (g,w64 (a.2+1))))else(some (.inr a.1))
def zby(p0:TS×(LP)×Int)(p1:LP)(b:(List (Int×Int)))(a:LP×Int):Option ((LP×Int) ⊕ (LP)):=
 if decide (a.2<(b.length:Int))then((idx b a.2).bind λc=>(zmq p0.1 p1 c p0.2.2).bind λd=>(iter (zbx b a c d) (a.1,0)).bind λe=>zix a e)else(some (.inr a.1))
def zdx(p0:TS×(LP)×Int)(p1:LP):Option (LP):=
 (zlN p1).bind λa=>(iter (zby p0 p1 a) ([],0)).bind λb=>zmp b
def znb(a:LI)(b:LI):Option (LI×LI):=
 some (a,b)
def ziZ(p0:TS×(LP)×Int)(a:LI×LI×Int×LP)(b:(Int×Int)×Int)(e:Int):Option ((LI×LI×Int×LP) ⊕ (LI×LI)):=
 (app 8 a.1 [e]).bind λf=>(zfD p0.1 a.2.2.2 b.1 b.2).bind λg=>(app 8 a.2.1 [g]).bind λc=>(zkY a.2.2.2 b.1 b.2).bind λd=>some (.inl (f,c,w64 (a.2.2.1+1),d))
def zga(a:Int×Int)(b:Int):Option ((Int×Int) ⊕ Int):=
 some (.inl (b,w64 (a.2+1)))
def zf9(a:Int×Int)(b:Bool):Option ((Int×Int) ⊕ Int):=
 if b then((zya .i64 1 a.2).bind λc=>zga a (w64 (a.1+c)))else(zga a a.1)
def zb7(p0:TS×(LP)×Int)(d:LI×LI×Int×LP)(c:(Int×Int)×Int)(a:Int×Int):Option ((Int×Int) ⊕ Int):=
 if decide (a.2<4)then((zad c.1 a.2).bind λe=>(zdd d.2.2.2 e).bind λb=>if decide (b≥0)then((zdV p0.1 c.2 a.2 b).bind λf=>zf9 a (decide (f>0)))else(zf9 a false))else(some (.inr a.1))
def zdK(p0:TS×(LP)×Int)(p1:LP)(a:LI×LI×Int×LP):Option ((LI×LI×Int×LP) ⊕ (LI×LI)):=
 if decide (a.2.2.1<(p1.length:Int))then((idx p1 a.2.2.1).bind λb=>(iter (zb7 p0 a b) (0,0)).bind λc=>ziZ p0 a b c)else(some (.inr (a.1,a.2.1)))
def zi0(p0:TS×(LP)×Int)(p1:LP):Option (LI×LI):=
 (zdU p0.2.1).bind λb=>(iter (zdK p0 p1) ([],[],0,b)).bind λa=>znb a.1 a.2
def zmn(a:LI):Option (LI):=
 some a
def ziw(a:LI×Int)(b:Int):Option ((LI×Int) ⊕ (LI)):=
 (app 8 a.1 [b]).bind λc=>some (.inl (c,w64 (a.2+1)))
def ziv(a:Int×Int)(b:Int):Option ((Int×Int) ⊕ Int):=
 some (.inl (b,w64 (a.2+1)))
def zbw(a:Int×Int)(b:Int):Option ((Int×Int) ⊕ Int):=
 some (.inl (b,w64 (a.2+1)))
def zbv(b:Int×Int)(a:Int×Int)(c:Bool):Option ((Int×Int) ⊕ Int):=
 if c then((zya .i64 1 b.2).bind λd=>zbw a (w64 (a.1+d)))else(zbw a a.1)
def zP(p0:LP)(p1:LI)(b:Int×Int)(c:(Int×Int))(a:Int×Int):Option ((Int×Int) ⊕ Int):=
 if decide (a.2<(p0.length:Int))then((idx p0 a.2).bind λd=>if(decide (d.1.1=c.1)&&decide (d.1.2=c.2))then((idx p1 a.2).bind λe=>(zf1 b.2).bind λf=>(zxb .i64 e f).bind λg=>zbv b a (decide ((zvp .i64 g 1)=1)))else(zbv b a false))else(some (.inr a.1))
def zbu(p0:LP)(p1:LI)(b:LI×Int)(a:Int×Int):Option ((Int×Int) ⊕ Int):=
 if decide (a.2<4)then((idx p0 b.2).bind λc=>(zad c.1 a.2).bind λd=>(iter (zP p0 p1 a d) (a.1,w64 (b.2+1))).bind λe=>ziv a e)else(some (.inr a.1))
def zda(p0:LP)(p1:LI)(a:LI×Int):Option ((LI×Int) ⊕ (LI)):=
 if decide (a.2<(p0.length:Int))then((iter (zbu p0 p1 a) (0,0)).bind λb=>ziw a b)else(some (.inr a.1))
def zia(p0:LP)(p1:LI):Option (LI):=
 (iter (zda p0 p1) ([],0)).bind λa=>zmn a
def ziu(a:LP):Option ((LP)):=
 some a
def zfh(a:Int×LP)(b:LP):Option ((Int×LP) ⊕ (LP)):=
 some (.inl (w64 (a.1+1),b))
def zit(p0:LP)(a:Int×LP)(b:(Int×Int)×Int)(c:Bool):Option ((Int×LP) ⊕ (LP)):=
 if c then((idx p0 a.1).bind λ_=>(app 24 a.2 [b]).bind λd=>zfh a d)else(zfh a a.2)
def zfg(a:Bool×Int)(b:Bool):Option ((Bool×Int) ⊕ Bool):=
 some (.inl (b,w64 (a.2+1)))
def zff(a:Bool×Int)(b:Bool):Option ((Bool×Int) ⊕ Bool):=
 if b then(zfg a false)else(zfg a a.1)
def zbt(p0:LP)(p1:Int×Int)(f:Int)(d:Int×LP)(b:(Int×Int)×Int)(a:Bool×Int):Option ((Bool×Int) ⊕ Bool):=
 if decide (a.2<4)then((zxb .i64 f a.2).bind λe=>if decide ((zvp .i64 e 1)=1)then((idx p0 d.1).bind λ_=>(zad p1 a.2).bind λc=>zff a (decide (b.1.1=c.1)&&decide (b.1.2=c.2)))else(zff a false))else(some (.inr a.1))
def zc9(p0:LP)(p1:Int×Int)(d:Int)(a:Int×LP):Option ((Int×LP) ⊕ (LP)):=
 if decide (a.1<(p0.length:Int))then((idx p0 a.1).bind λb=>(iter (zbt p0 p1 d a b) (!(decide (b.1.1=p1.1)&&decide (b.1.2=p1.2)),0)).bind λc=>zit p0 a b c)else(some (.inr a.2))
def zh9(p0:LP)(p1:Int×Int)(b:Int):Option ((LP)):=
 (iter (zc9 p0 p1 b) (0,[])).bind λa=>ziu a
def zkb(p0:TS×(LP)×Int)(b:(LP)×Int×Int)(d:Int)(e:Int):Option (Int×(Int×Int)):=
 (zdx p0 b.1).bind λa=>if decide ((a.length:Int)>0)then((idx a 0).bind λc=>some (3,c.1))else(some (0,(0,0)))
def zg3(p0:TS×(LP)×Int)(p1:LP)(e:LI×LI)(f:LI)(g:(LP)×Int×Int)(a:Int×Int×Int):Option ((Int×Int×Int) ⊕ ((Int×Int) ⊕ (Int×(Int×Int)))):=
 if decide (a.1<(p1.length:Int))then((idx e.2 a.1).bind λh=>if !decide (h=p0.2.2)then((idx p1 a.1).bind λi=>some (.inr (.inr (1,i.1))))else((idx p1 a.1).bind λj=>(idx f a.1).bind λk=>(zh9 g.1 j.1 k).bind λl=>(idx p1 a.1).bind λb=>(zmq p0.1 l b.1 p0.2.2).bind λc=>if !decide ((c.length:Int)=1)then((idx p1 a.1).bind λd=>some (.inr (.inr (2,d.1))))else(some (.inl (w64 (a.1+1),a.2.1,a.2.2)))))else(some (.inr (.inl (a.2.1,a.2.2))))
def zhW(p0:TS×(LP)×Int)(p1:LP):Option (Int×(Int×Int)):=
 (zi0 p0 p1).bind λa=>(zia p1 a.1).bind λc=>(zg5 p0 p1).bind λb=>(iter (zg3 p0 p1 a c b) (0,0,0)).bind λd=>match d with | .inl z=>zkb p0 b z.1 z.2 | .inr z=>some z
def zcv(p0:TS×(LP)×Int)(p1:LP)(c:LP)(d:Bool):Option (Bool):=
 if d then(some false)else((zdX p0 c).bind λe=>(idx p1 (w64 ((p1.length:Int) - 1))).bind λa=>(idx c (w64 ((c.length:Int) - 1))).bind λb=>if decide (e.2.2=0)then(if(decide (a.1.1=b.1.1)&&decide (a.1.2=b.1.2))then(some (!decide (a.2=b.2)))else(some false))else(some false))
def zg2(p0:TS×(LP)×Int)(p1:LP)(a:LP)(c:LP):Option (Bool):=
 if decide ((p1.length:Int)=0)then(zcv p0 p1 a true)else(if decide ((a.length:Int)=0)then(zcv p0 p1 a true)else((zbI p0 p1 c).bind λb=>zcv p0 p1 a (!b)))
def zkf(a:Bool):Option (Int):=
 if a then(some 1)else(some 0)
def zfX(p0:LG×LT)(p1:LP):Option (Int):=
 (zki p0).bind λa=>if !a then(zkf true)else((zkg p0 p1).bind λb=>zkf (!b))
def zjj(c:Int)(a:LI):Option (Int×Int):=
 (idx a c).bind λb=>some (b,0)
def zdY(a:Int)(b:Bool):Option (Int ⊕ (Unit ⊕ (Int×Int))):=
 if b then(some (.inr (.inr (0,10))))else(some (.inl (w64 (a+1))))
def zb9(p1:LP)(d:Int)(e:Int)(b:LI)(a:Int):Option (Int ⊕ (Unit ⊕ (Int×Int))):=
 if decide (a<=(w64 ((p1.length:Int) - 1)))then(if !decide (a=d)then(if !decide (a=e)then((idx b a).bind λc=>zdY a (!decide (c=0)))else(zdY a false))else(zdY a false))else(some (.inr (.inl ())))
def zjk(p1:LP)(b:Int)(d:Int)(a:LI):Option (Int×Int):=
 (iter (zb9 p1 b d a) 0).bind λc=>match c with | .inl z=>zjj b a | .inr z=>some z
def zca(f:LI)(b:LB)(a:LI×Int):Option ((LI×Int) ⊕ ((LI) ⊕ (Int×Int))):=
 if decide (a.2<(b.length:Int))then((idx f a.2).bind λj=>(idx b a.2).bind λk=>(idx b a.2).bind λl=>(zaq j (w64 (0 - k.2.2)) l.2.2).bind λm=>if !m then(some (.inr (.inr (0,10))))else((idx b a.2).bind λc=>(idx a.1 c.1).bind λn=>(idx f a.2).bind λp=>(idx a.1 c.1).bind λr=>(some (a.1.set c.1.toNat (w64 (n+p)))).bind λd=>(idx b a.2).bind λe=>(idx d e.2.1).bind λg=>(idx f a.2).bind λh=>(idx d e.2.1).bind λq=>(some (d.set e.2.1.toNat (w64 (g - h)))).bind λi=>some (.inl (i,w64 (a.2+1)))))else(some (.inr (.inl a.1)))
def zdZ(p0:LG×LT)(p1:LP)(f:Int)(g:Int)(b:LI)(c:Bool):Option (Int×Int):=
 if c then(some (0,2))else((zen p0 p1).bind λa=>if !decide ((b.length:Int)=(a.length:Int))then(some (0,10))else((mkl 8 (p1.length:Int) 0).bind λd=>(iter (zca b a) (d,0)).bind λe=>match e with | .inl z=>zjk p1 f g z | .inr z=>some z))
def zjl(p0:LG×LT)(p1:LP)(a:Int)(b:Int)(c:LI):Option (Int×Int):=
 (zfX p0 p1).bind λx23=>if !decide (x23=0)then(some (0,x23))else((zaq a 0 (w64 ((p1.length:Int) - 1))).bind λd=>if !d then(zdZ p0 p1 a b c true)else((zaq b 0 (w64 ((p1.length:Int) - 1))).bind λe=>if !e then(zdZ p0 p1 a b c true)else(zdZ p0 p1 a b c (decide (a=b)))))
def zoe  : Option (Bool):=
 some true
def zg1(a:Int)(b:Bool):Option (Int ⊕ (Unit ⊕ Bool)):=
 if b then(some (.inr (.inr false)))else(some (.inl (w64 (a+1))))
def zc0(p0:TS×(LP)×Int)(p1:LP)(c:LM)(a:Int):Option (Int ⊕ (Unit ⊕ Bool)):=
 if decide (a<(c.length:Int))then((idx c a).bind λd=>(zjl p0.1 p1 0 (w64 (a+1)) d).bind λb=>if !decide (b.2=0)then(zg1 a true)else(zg1 a (decide (b.1<p0.2.2))))else(some (.inr (.inl ())))
def zkE(p0:TS×(LP)×Int)(p1:LP)(a:LM):Option (Bool):=
 (zdW 0 (w64 ((p1.length:Int) - 1))).bind λb=>if !decide ((a.length:Int)=b)then(some false)else((iter (zc0 p0 p1 a) 0).bind λx23=>match x23 with | .inl z=>zoe | .inr z=>some z)
def zog  : Option (Bool):=
 some true
def zc2(a:Int)(b:Bool):Option (Int ⊕ (Unit ⊕ Bool)):=
 if b then(some (.inr (.inr false)))else(some (.inl (w64 (a+1))))
def zaS(p0:LI)(p1:Int)(f:Int)(a:Int):Option (Int ⊕ (Unit ⊕ Bool)):=
 if decide (a<(p0.length:Int))then((idx p0 a).bind λb=>(zaq b p1 f).bind λc=>if !c then(zc2 a true)else(if decide (a>0)then((idx p0 (w64 (a - 1))).bind λd=>(idx p0 a).bind λe=>zc2 a (decide (d≥e)))else(zc2 a false)))else(some (.inr (.inl ())))
def znN(p0:LI)(p1:Int)(a:Int):Option (Bool):=
 (iter (zaS p0 p1 a) 0).bind λb=>match b with | .inl z=>zog | .inr z=>some z
def zlP(p0:LP)(p1:LI):Option (Bool):=
 (znN p1 0 (w64 ((p0.length:Int) - 1))).bind λa=>some a
def zmx  : Option (Bool):=
 some false
def zjg(p0:LI)(p1:Int)(a:Int):Option (Int ⊕ (Unit ⊕ Bool)):=
 if decide (a<(p0.length:Int))then((idx p0 a).bind λb=>if decide (b=p1)then(some (.inr (.inr true)))else(some (.inl (w64 (a+1)))))else(some (.inr (.inl ())))
def zkZ(p0:LI)(p1:Int):Option (Bool):=
 (iter (zjg p0 p1) 0).bind λa=>match a with | .inl z=>zmx | .inr z=>some z
def zpF(a:Int):Option (Int):=
 some a
def zje(a:Int×Int)(b:Int):Option ((Int×Int) ⊕ Int):=
 some (.inl (b,w64 (a.2+1)))
def zeI(p0:LB)(p1:LI)(a:Int×Int):Option ((Int×Int) ⊕ Int):=
 if decide (a.2<(p0.length:Int))then((idx p0 a.2).bind λc=>(zkZ p1 c.1).bind λx23=>(idx p0 a.2).bind λb=>(zkZ p1 b.2.1).bind λd=>if !(x23 == d)then((idx p0 a.2).bind λ_=>zje a (w64 (a.1+b.2.2)))else(zje a a.1))else(some (.inr a.1))
def zng(p0:LB)(p1:LI):Option (Int):=
 (iter (zeI p0 p1) (0,0)).bind λa=>zpF a
def zgv(p0:TS×(LP)×Int)(p1:LP)(d:LI)(a:Bool):Option (Bool):=
 if a then(some false)else((zen p0.1 p1).bind λb=>(zng b d).bind λc=>some (decide (c<p0.2.2)))
def zna(p0:TS×(LP)×Int)(p1:LP)(a:LI):Option (Bool):=
 (zlP p1 a).bind λb=>if !b then(zgv p0 p1 a true)else(if decide ((a.length:Int)=0)then(zgv p0 p1 a true)else(zgv p0 p1 a (decide ((a.length:Int)=(p1.length:Int)))))
def zkD(p0:TS×(LP)×Int)(p1:LP)(a:Int×LP×LP×LI×LM):Option (Bool):=
 if decide (a.1=1)then((zbI p0 a.2.1 p1).bind λb=>some b)else(if decide (a.1=2)then((zbI p0 a.2.1 p1).bind λc=>if c then((zdx p0 p1).bind λd=>some (decide ((d.length:Int)=0)))else(some false))else(if decide (a.1=3)then((zbI p0 a.2.1 p1).bind λe=>if !e then(some false)else((zhW p0 a.2.1).bind λf=>some (decide (f.1=0))))else(if decide (a.1=4)then((zg2 p0 a.2.1 a.2.2.1 p1).bind λg=>some g)else(if decide (a.1=5)then((zkE p0 p1 a.2.2.2.2).bind λh=>some h)else((zna p0 p1 a.2.2.2.1).bind λi=>some i)))))
def ziz(a:Bool):Option (Int):=
 if a then(some 10)else(some 0)
def zid(p0:TS×(LP)×Int)(p1:LP)(b:Int×LP×LP×LI×LM):Option (Int):=
 (znH p0 p1).bind λa=>if !decide (a=0)then(some a)else((zaq b.1 1 6).bind λc=>if !c then(some 2)else((zgu b).bind λd=>if !d then(ziz true)else((zkD p0 p1 b).bind λe=>ziz (!e))))
def zhV(p0:BS×(TS×(LP)×Int)×(LP)×(Int×LP×LP×LI×LM)):Option (Bool):=
 (zgE p0.1).bind λa=>if a then((zid p0.2.1 p0.2.2.1 p0.2.2.2).bind λb=>some (decide (b=0)))else(some false)
def zdB(p0:Int)(a:BS):Option (BS):=
 if decide (p0=0)then(some ([48]:BS))else(if decide (p0<0)then((zaI ([45]:BS) a).bind λb=>some b)else(some a))
def zfE(a:BS×Int)(b:Int):Option ((BS×Int) ⊕ (BS)):=
 (zaI (zV [IntKind.wrap .u8 (w64 (48+b))]) a.1).bind λc=>some (.inl (c,w64 (Int.tdiv a.2 10)))
def zaH  (a:BS×Int):Option ((BS×Int) ⊕ (BS)):=
 if !decide (a.2=0)then(if decide ((Int.tmod a.2 10)<0)then(zfE a (w64 (0 - (Int.tmod a.2 10))))else(zfE a (Int.tmod a.2 10)))else(some (.inr a.1))
def za2(p0:Int):Option (BS):=
 (iter (zaH) (([]:BS),p0)).bind λa=>zdB p0 a
def zgC(p0:Int×Int):Option (BS):=
 (zeo p0).bind λe=>if !e then(some ([]:BS))else((za2 p0.1).bind λa=>(zaI a ([44]:BS)).bind λb=>(za2 p0.2).bind λc=>(zaI b c).bind λd=>some d)
def zha(p0:LG×LT)(p1:Int):Option (BS):=
 if decide (p1=0)then(some ([45]:BS))else((idx p0.1 (w64 (p1 - 1))).bind λa=>some a.1)
def zmu(a:LI):Option (BS):=
 some (zV a)
def zmt(a:LI×Int)(b:LI):Option ((LI×Int) ⊕ (LI)):=
 (app 1 b [10]).bind λc=>some (.inl (c,w64 (a.2+1)))
def zeJ(p0:LG×LT)(b:LI×Int)(c:BS×LI)(a:LI×Int):Option ((LI×Int) ⊕ (LI)):=
 if decide (a.2<4)then((idx p0.2 b.2).bind λ_=>(idx c.2 a.2).bind λd=>(zha p0 d).bind λe=>(zaI ([32]:BS) e).bind λf=>(app 1 a.1 (zy f)).bind λg=>some (.inl (g,w64 (a.2+1))))else(some (.inr a.1))
def zeK(p0:LG×LT)(a:LI×Int):Option ((LI×Int) ⊕ (LI)):=
 if decide (a.2<(p0.2.length:Int))then((idx p0.2 a.2).bind λb=>(zaI ([116,105,108,101,32]:BS) b.1).bind λc=>(app 1 a.1 (zy c)).bind λd=>(iter (zeJ p0 a b) (d,0)).bind λe=>zmt a e)else(some (.inr a.1))
def zmv(p0:LG×LT)(a:LI):Option (BS):=
 (iter (zeK p0) (a,0)).bind λb=>zmu b
def zeL(p0:LG×LT)(a:LI×Int):Option ((LI×Int) ⊕ (LI)):=
 if decide (a.2<(p0.1.length:Int))then((idx p0.1 a.2).bind λb=>(zaI ([103,108,117,101,32]:BS) b.1).bind λc=>(zaI c ([32]:BS)).bind λd=>(idx p0.1 a.2).bind λ_=>(za2 b.2).bind λe=>(zaI d e).bind λf=>(zaI f ([10]:BS)).bind λg=>(app 1 a.1 (zy g)).bind λh=>some (.inl (h,w64 (a.2+1))))else(some (.inr a.1))
def znh(p0:LG×LT):Option (BS):=
 (iter (zeL p0) ([],0)).bind λa=>zmv p0 a
def zm9(a:BS):Option (BS):=
 some a
def zb6(p0:TS×(LP)×Int)(a:BS×Int):Option ((BS×Int) ⊕ (BS)):=
 if decide (a.2<(p0.2.1.length:Int))then((idx p0.2.1 a.2).bind λb=>(idx p0.1.2 b.2).bind λc=>(zaI ([115,101,101,100,32]:BS) c.1).bind λd=>(zaI d ([32]:BS)).bind λe=>(idx p0.2.1 a.2).bind λ_=>(zgC b.1).bind λf=>(zaI e f).bind λg=>(zaI g ([10]:BS)).bind λh=>(zaI a.1 h).bind λi=>some (.inl (i,w64 (a.2+1))))else(some (.inr a.1))
def ziY(p0:TS×(LP)×Int):Option (BS):=
 (za2 p0.2.2).bind λa=>(zaI ([116,101,109,112,101,114,97,116,117,114,101,32]:BS) a).bind λb=>(zaI b ([10]:BS)).bind λc=>(znh p0.1).bind λd=>(zaI c d).bind λe=>(iter (zb6 p0) (e,0)).bind λf=>zm9 f
def zjh(p0:Int):Option (BS):=
 (zaq p0 1 6).bind λb=>if !b then(some ([]:BS))else((idx [([103,114,111,119,110]:BS),([116,101,114,109,105,110,97,108]:BS),([117,110,105,113,117,101]:BS),([99,111,110,102,108,105,99,116]:BS),([115,116,97,98,108,101]:BS),([108,111,111,115,101]:BS)] (w64 (p0 - 1))).bind λa=>some a)
def zml(a:BS):Option (BS):=
 some a
def zbs(p0:BS)(p1:LP)(a:BS×Int):Option ((BS×Int) ⊕ (BS)):=
 if decide (a.2<(p1.length:Int))then((zaI p0 ([32]:BS)).bind λc=>(idx p1 a.2).bind λb=>(idx p1 a.2).bind λ_=>(idx p1 a.2).bind λ_=>(za2 b.1.1).bind λd=>(zaI c d).bind λe=>(zaI e ([32]:BS)).bind λf=>(za2 b.1.2).bind λg=>(zaI f g).bind λh=>(zaI h ([32]:BS)).bind λi=>(za2 b.2).bind λj=>(zaI i j).bind λk=>(zaI k ([10]:BS)).bind λl=>(zaI a.1 l).bind λm=>some (.inl (m,w64 (a.2+1))))else(some (.inr a.1))
def zfy(p0:BS)(p1:LP):Option (BS):=
 (iter (zbs p0 p1) (([]:BS),0)).bind λa=>zml a
def zis(a:BS):Option (BS):=
 (zaI a ([10]:BS)).bind λb=>some b
def zc8(p1:LI)(a:BS×Int):Option ((BS×Int) ⊕ (BS)):=
 if decide (a.2<(p1.length:Int))then((idx p1 a.2).bind λb=>(za2 b).bind λc=>(zaI ([32]:BS) c).bind λd=>(zaI a.1 d).bind λe=>some (.inl (e,w64 (a.2+1))))else(some (.inr a.1))
def zfz(p0:BS)(p1:LI):Option (BS):=
 (iter (zc8 p1) (p0,0)).bind λa=>zis a
def zoc(a:BS):Option (BS):=
 some a
def zcZ(p0:Int×LP×LP×LI×LM)(a:BS×Int):Option ((BS×Int) ⊕ (BS)):=
 if decide (a.2<(p0.2.2.2.2.length:Int))then((idx p0.2.2.2.2 a.2).bind λb=>(zfz ([102,108,111,119]:BS) b).bind λc=>(zaI a.1 c).bind λd=>some (.inl (d,w64 (a.2+1))))else(some (.inr a.1))
def zeF(p0:Int×LP×LP×LI×LM)(a:BS):Option (BS):=
 (iter (zcZ p0) (a,0)).bind λb=>zoc b
def zkC(p0:Int×LP×LP×LI×LM):Option (BS):=
 (zjh p0.1).bind λb=>(zaI ([112,114,111,111,102,32]:BS) b).bind λc=>(zaI c ([10]:BS)).bind λd=>(zfy ([112,117,116]:BS) p0.2.1).bind λe=>(zaI d e).bind λf=>(zfy ([111,116,104,101,114]:BS) p0.2.2.1).bind λg=>(zaI f g).bind λa=>if decide ((p0.2.2.2.1.length:Int)>0)then((zfz ([112,97,114,116]:BS) p0.2.2.2.1).bind λh=>(zaI a h).bind λi=>zeF p0 i)else(zeF p0 a)
def zgt(p0:BS×(TS×(LP)×Int)×(LP)×(Int×LP×LP×LI×LM))(a:BS):Option (BS):=
 (zkC p0.2.2.2).bind λb=>(zaI a b).bind λc=>some c
def zaQ(p0:BS×(TS×(LP)×Int)×(LP)×(Int×LP×LP×LI×LM))(a:BS×Int):Option ((BS×Int) ⊕ (BS)):=
 if decide (a.2<(p0.2.2.1.length:Int))then((idx p0.2.2.1 a.2).bind λb=>(idx p0.2.1.1.2 b.2).bind λc=>(zaI ([97,116,32]:BS) c.1).bind λd=>(zaI d ([32]:BS)).bind λe=>(idx p0.2.2.1 a.2).bind λ_=>(zgC b.1).bind λf=>(zaI e f).bind λg=>(zaI g ([10]:BS)).bind λh=>(zaI a.1 h).bind λi=>some (.inl (i,w64 (a.2+1))))else(some (.inr a.1))
def zf8(p0:BS×(TS×(LP)×Int)×(LP)×(Int×LP×LP×LI×LM)):Option (BS):=
 (zaI ([101,110,116,114,121,32]:BS) p0.1).bind λa=>(zaI a ([10]:BS)).bind λb=>(ziY p0.2.1).bind λc=>(zaI b c).bind λd=>(zaI d ([101,110,100,10]:BS)).bind λe=>(iter (zaQ p0) (e,0)).bind λf=>zgt p0 f
def zji(p0:BS×(TS×(LP)×Int)×(LP)×(Int×LP×LP×LI×LM)):Option (BS):=
 (zhV p0).bind λb=>if !b then(some ([]:BS))else((zf8 p0).bind λa=>if decide ((a.length:Int)>20000)then(some ([]:BS))else(some a))
def zlM(p0:Int):Option (LI):=
 some [IntKind.wrap .u8 p0,IntKind.wrap .u8 (Int.fdiv p0 (2 ^ 8)),IntKind.wrap .u8 (Int.fdiv p0 (2 ^ 16)),IntKind.wrap .u8 (Int.fdiv p0 (2 ^ 24))]
def zpB(a:Int)(b:Int):Option (Int):=
 some (w64 ((w64 (b*65536))+a))
def zpA(p0:LI)(a:Int×Int×Int):Option ((Int×Int×Int) ⊕ (Int×Int)):=
 if decide (a.2.2<(p0.length:Int))then((idx p0 a.2.2).bind λb=>some (.inl (Int.tmod (w64 (a.1+(w64 b))) 65521,Int.tmod (w64 (a.2.1+(Int.tmod (w64 (a.1+(w64 b))) 65521))) 65521,w64 (a.2.2+1))))else(some (.inr (a.1,a.2.1)))
def zpC(p0:LI):Option (Int):=
 (iter (zpA p0) (1,0,0)).bind λa=>zpB a.1 a.2
def zkB(p0:BS):Option (LI):=
 (zlM (p0.length:Int)).bind λe=>(app 1 e (zy p0)).bind λa=>(zpC (zy p0)).bind λb=>(zlM b).bind λc=>(app 1 a c).bind λd=>some d
def zlR(p0:BS×(TS×(LP)×Int)×(LP)×(Int×LP×LP×LI×LM)):Option (LI×Int):=
 (zhV p0).bind λb=>if !b then(some (([]:LI),10))else((zji p0).bind λa=>if decide (a=([]:BS))then(some (([]:LI),4))else((zkB a).bind λc=>some (c,0)))
def zjs(p0:Int×Int):Option ((Int×Int)):=
 some p0
def znU(p0:(Int×Int)×Int):Option (((Int×Int)×Int)):=
 (zjs p0.1).bind λa=>some (a,p0.2)
def zno(a:LP):Option (LP):=
 some a
def zd6(p0:LP)(a:LP×Int):Option ((LP×Int) ⊕ (LP)):=
 if decide (a.2<(p0.length:Int))then((idx p0 a.2).bind λb=>(znU b).bind λc=>(idx a.1 a.2).bind λe=>(some (a.1.set a.2.toNat c)).bind λd=>some (.inl (d,w64 (a.2+1))))else(some (.inr a.1))
def zjt(p0:LP):Option (LP):=
 (mkl 24 (p0.length:Int) ((0,0),0)).bind λa=>(iter (zd6 p0) (a,0)).bind λb=>zno b
def zif(p0:LP):Option ((LP)):=
 (zjt p0).bind λa=>some a
def zp0(p0:BS×Int):Option ((BS×Int)):=
 some p0
def zph(a:LG):Option (LG):=
 some a
def zfG(p0:LG)(a:LG×Int):Option ((LG×Int) ⊕ (LG)):=
 if decide (a.2<(p0.length:Int))then((idx p0 a.2).bind λb=>(zp0 b).bind λc=>(idx a.1 a.2).bind λe=>(some (a.1.set a.2.toNat c)).bind λd=>some (.inl (d,w64 (a.2+1))))else(some (.inr a.1))
def zlV(p0:LG):Option (LG):=
 (mkl 24 (p0.length:Int) ((([]:BS),0):BS×Int)).bind λa=>(iter (zfG p0) (a,0)).bind λb=>zph b
def zoo(a:LI):Option (LI):=
 some a
def ze1(p0:LI)(a:LI×Int):Option ((LI×Int) ⊕ (LI)):=
 if decide (a.2<(p0.length:Int))then((idx p0 a.2).bind λb=>(idx a.1 a.2).bind λd=>(some (a.1.set a.2.toNat b)).bind λc=>some (.inl (c,w64 (a.2+1))))else(some (.inr a.1))
def zf3(p0:LI):Option (LI):=
 (mkl 8 (p0.length:Int) 0).bind λa=>(iter (ze1 p0) (a,0)).bind λb=>zoo b
def zpZ(p0:BS×LI):Option ((BS×LI)):=
 (zf3 p0.2).bind λa=>some (p0.1,a)
def zpf(a:LT):Option (LT):=
 some a
def zfF(p0:LT)(a:LT×Int):Option ((LT×Int) ⊕ (LT)):=
 if decide (a.2<(p0.length:Int))then((idx p0 a.2).bind λb=>(zpZ b).bind λc=>(idx a.1 a.2).bind λe=>(some (a.1.set a.2.toNat c)).bind λd=>some (.inl (d,w64 (a.2+1))))else(some (.inr a.1))
def zlU(p0:LT):Option (LT):=
 (mkl 40 (p0.length:Int) ((([]:BS),[]):BS×LI)).bind λa=>(iter (zfF p0) (a,0)).bind λb=>zpf b
def zmH(p0:LG×LT):Option (TS):=
 (zlV p0.1).bind λa=>(zlU p0.2).bind λb=>some (a,b)
def znT(p0:TS×(LP)×Int):Option ((TS×(LP)×Int)):=
 (zmH p0.1).bind λa=>(zif p0.2.1).bind λb=>some (a,(b,p0.2.2))
def znV(p0:(Int×Int)×Int):Option (((Int×Int)×Int)):=
 (zjs p0.1).bind λa=>some (a,p0.2)
def znq(a:LP):Option (LP):=
 some a
def zd7(p0:LP)(a:LP×Int):Option ((LP×Int) ⊕ (LP)):=
 if decide (a.2<(p0.length:Int))then((idx p0 a.2).bind λb=>(znV b).bind λc=>(idx a.1 a.2).bind λe=>(some (a.1.set a.2.toNat c)).bind λd=>some (.inl (d,w64 (a.2+1))))else(some (.inr a.1))
def zgJ(p0:LP):Option (LP):=
 (mkl 24 (p0.length:Int) ((0,0),0)).bind λa=>(iter (zd7 p0) (a,0)).bind λb=>znq b
def znr(a:LM):Option (LM):=
 some a
def zd8(p0:LM)(a:LM×Int):Option ((LM×Int) ⊕ (LM)):=
 if decide (a.2<(p0.length:Int))then((idx p0 a.2).bind λb=>(zf3 b).bind λc=>(idx a.1 a.2).bind λe=>(some (a.1.set a.2.toNat c)).bind λd=>some (.inl (d,w64 (a.2+1))))else(some (.inr a.1))
def zju(p0:LM):Option (LM):=
 (mkl 24 (p0.length:Int) ([]:LI)).bind λa=>(iter (zd8 p0) (a,0)).bind λb=>znr b
def zoP(p0:Int×LP×LP×LI×LM):Option ((Int×LP×LP×LI×LM)):=
 (zgJ p0.2.1).bind λa=>(zgJ p0.2.2.1).bind λb=>(zf3 p0.2.2.2.1).bind λc=>(zju p0.2.2.2.2).bind λd=>some (p0.1,(a,(b,(c,d))))
def zbN(p0:BS×(TS×(LP)×Int)×(LP)×(Int×LP×LP×LI×LM)):Option ((BS×(TS×(LP)×Int)×(LP)×(Int×LP×LP×LI×LM))):=
 (znT p0.2.1).bind λa=>(zif p0.2.2.1).bind λb=>(zoP p0.2.2.2).bind λc=>some (p0.1,(a,(b,c)))
def zmT(p0:BS):Option (Bool):=
 if decide ((p0.length:Int)≥1)then(some (decide ((p0.length:Int)<=12)))else(some false)
def zb3(a:Int)(b:Bool):Option (Int ⊕ (Unit ⊕ Bool)):=
 if b then(some (.inr (.inr false)))else(some (.inl (w64 (a+1))))
def zbd(a:Int)(b:UInt8)(c:Bool):Option (Int ⊕ (Unit ⊕ Bool)):=
 if !c then(if decide (a=0)then(zb3 a true)else(if decide ((b.toNat:Int)<48)then(zb3 a (!decide ((b.toNat:Int)=95)))else(if decide ((b.toNat:Int)>57)then(zb3 a (!decide ((b.toNat:Int)=95)))else(zb3 a false))))else(zb3 a false)
def zb2(p0:BS)(a:Int):Option (Int ⊕ (Unit ⊕ Bool)):=
 if decide (a<(p0.length:Int))then((idx p0 a).bind λb=>if decide ((b.toNat:Int)≥97)then(if decide ((b.toNat:Int)<=122)then(zbd a b true)else(if decide ((b.toNat:Int)≥65)then(zbd a b (decide ((b.toNat:Int)<=90)))else(zbd a b false)))else(if decide ((b.toNat:Int)≥65)then(zbd a b (decide ((b.toNat:Int)<=90)))else(zbd a b false)))else(some (.inr (.inl ())))
def zgW(p0:BS):Option (Bool):=
 (iter (zb2 p0) 0).bind λa=>match a with | .inl z=>zmT p0 | .inr z=>some z
def zaA(p0:Int)(p1:Int)(a:Int):Option (Bool):=
 if decide (p0≥p1)then(some (decide (p0<=a)))else(some false)
def zeT  : Option (Int):=
 some (-1)
def zeS(p0:LI)(p1:Int->Option Bool)(a:Int):Option (Int ⊕ (Unit ⊕ Int)):=
 if decide (a<(p0.length:Int))then((idx p0 a).bind λb=>(p1 b).bind λc=>if c then(some (.inr (.inr a)))else(some (.inl (w64 (a+1)))))else(some (.inr (.inl ())))
def zgF(p0:LI)(p1:Int->Option Bool):Option (Int):=
 (iter (zeS p0 p1) 0).bind λa=>match a with | .inl z=>zeT | .inr z=>some z
def zce(p0:LI)(p1:Int->Option Bool):Option (Bool):=
 (zgF p0 p1).bind λa=>some (decide (a≥0))
def zbG(p0:Int)(p1:LG×LT):Option (Bool):=
 (zaA p0 0 (p1.1.length:Int)).bind λa=>some (!a)
def zkw  : Option (Bool):=
 some true
def zc5(p0:LG×LT)(a:Int×(List (BS×Bool)))(b:BS×LI)(c:Bool):Option ((Int×(List (BS×Bool))) ⊕ (Unit ⊕ Bool)):=
 if c then(some (.inr (.inr false)))else((zce b.2 (λe=>zbG e p0)).bind λd=>if d then(some (.inr (.inr false)))else(some (.inl (w64 (a.1+1),zbX a.2 b.1 true))))
def zaV(p0:LG×LT)(a:Int×(List (BS×Bool))):Option ((Int×(List (BS×Bool))) ⊕ (Unit ⊕ Bool)):=
 if decide (a.1<(p0.2.length:Int))then((idx p0.2 a.1).bind λb=>(zgW b.1).bind λc=>if !c then(zc5 p0 a b true)else(if((zdw a.2 b.1).getD false)then(zc5 p0 a b true)else(zc5 p0 a b (!decide ((b.2.length:Int)=4)))))else(some (.inr (.inl ())))
def zkx(p0:LG×LT):Option (Bool):=
 (iter (zaV p0) (0,([]:List (BS×Bool)))).bind λa=>match a with | .inl z=>zkw | .inr z=>some z
def zc4(a:Int×(List (BS×Bool)))(b:BS×Int)(c:Bool):Option ((Int×(List (BS×Bool))) ⊕ (Unit ⊕ Bool)):=
 if c then(some (.inr (.inr false)))else(some (.inl (w64 (a.1+1),zbX a.2 b.1 true)))
def zaW(p0:LG×LT)(a:Int×(List (BS×Bool))):Option ((Int×(List (BS×Bool))) ⊕ (Unit ⊕ Bool)):=
 if decide (a.1<(p0.1.length:Int))then((idx p0.1 a.1).bind λb=>(zgW b.1).bind λc=>if !c then(zc4 a b true)else(if((zdw a.2 b.1).getD false)then(zc4 a b true)else((zaA b.2 1 4).bind λd=>zc4 a b (!d))))else(some (.inr (.inl ())))
def zht(p0:LG×LT)(a:Bool):Option (Bool):=
 if a then(some false)else((iter (zaW p0) (0,([]:List (BS×Bool)))).bind λb=>match b with | .inl z=>zkx p0 | .inr z=>some z)
def zh5(p0:LG×LT):Option (Bool):=
 if decide ((p0.1.length:Int)>200)then(zht p0 true)else((zaA (p0.2.length:Int) 1 160).bind λa=>zht p0 (!a))
def zdG(p0:Int×Int):Option (Bool):=
 (zaA p0.1 (-60) 60).bind λa=>if a then((zaA p0.2 (-60) 60).bind λb=>some b)else(some false)
def zaJ(p0:Int)(p1:Int):Option (Bool):=
 (zaA p0 0 (w64 (p1 - 1))).bind λa=>some a
def zkS  : Option (Int):=
 some 0
def zam(p0:LI)(a:Int):Option (Int ⊕ (Unit ⊕ Int)):=
 if decide (a<(p0.length:Int))then((idx p0 a).bind λb=>if !decide (b=0)then(some (.inr (.inr b)))else(some (.inl (w64 (a+1)))))else(some (.inr (.inl ())))
def zmZ(p0:LI):Option (Int):=
 (iter (zam p0) 0).bind λa=>match a with | .inl z=>zkS | .inr z=>some z
def zh7(p0:Int):Option (Bool):=
 some (!decide (p0=p0))
def zdH(p0:Int)(p1:Int):Option (Int):=
 (zh7 p0).bind λb=>(zh7 p1).bind λa=>if b then(if a then(some 0)else(some (-1)))else(if a then(some 1)else(if decide (p0<p1)then(some (-1))else(if decide (p0>p1)then(some 1)else(some 0))))
def zal(p0:Int×Int)(p1:Int×Int):Option (Int):=
 (zdH p0.2 p1.2).bind λa=>(zdH p0.1 p1.1).bind λb=>(zmZ [a,b]).bind λc=>some c
def zjW(p0:Int×Int)(p1:Int×Int):Option (Bool):=
 (zal p0 p1).bind λa=>some (decide (a<0))
def zlu(p0:LP):Option (Bool):=
 some (decide ((p0.length:Int)<=500))
def zcs(a:Int)(b:Bool):Option (Int ⊕ (Unit ⊕ Bool)):=
 if b then(some (.inr (.inr false)))else(some (.inl (w64 (a+1))))
def zbn(p0:LP)(a:Int):Option (Int ⊕ (Unit ⊕ Bool)):=
 if decide (a<(p0.length:Int))then((idx p0 a).bind λb=>(zdG b.1).bind λc=>if !c then(zcs a true)else((zaJ b.2 160).bind λd=>if !d then(zcs a true)else(if decide (a>0)then((idx p0 (w64 (a - 1))).bind λe=>(zjW e.1 b.1).bind λf=>zcs a (!f))else(zcs a false))))else(some (.inr (.inl ())))
def zl2(p0:LP):Option (Bool):=
 (iter (zbn p0) 0).bind λa=>match a with | .inl z=>zlu p0 | .inr z=>some z
def zcd  : Option (Int):=
 some (-1)
def zcc(p0:LP)(p1:((Int×Int)×Int)->Option Bool)(a:Int):Option (Int ⊕ (Unit ⊕ Int)):=
 if decide (a<(p0.length:Int))then((idx p0 a).bind λb=>(p1 b).bind λc=>if c then(some (.inr (.inr a)))else(some (.inl (w64 (a+1)))))else(some (.inr (.inl ())))
def zaT(p0:LP)(p1:((Int×Int)×Int)->Option Bool):Option (Int):=
 (iter (zcc p0 p1) 0).bind λa=>match a with | .inl z=>zcd | .inr z=>some z
def zeY(p0:LP)(p1:((Int×Int)×Int)->Option Bool):Option (Bool):=
 (zaT p0 p1).bind λa=>some (decide (a≥0))
def zbj(p0:LG×LT)(p1:Int):Option (Bool):=
 (zaJ p1 (p0.2.length:Int)).bind λa=>some a
def zaC(p0:(Int×Int)×Int)(p1:LG×LT):Option (Bool):=
 (zbj p1 p0.2).bind λa=>some (!a)
def zaa(p0:LG×LT)(p1:LP):Option (Bool):=
 (zh5 p0).bind λa=>if a then((zl2 p1).bind λb=>if b then((zeY p1 (λd=>zaC d p0)).bind λc=>some (!c))else(some false))else(some false)
def zft(p0:Int):Option (Bool):=
 (zaA p0 1 16).bind λa=>some a
def zkt(a:LM):Option (LM):=
 some a
def ze8(a:LM×Int×(List (Int×Int)))(b:LM)(c:Int)(d:List (Int×Int)):Option ((LM×Int×(List (Int×Int))) ⊕ (LM)):=
 (idx b c).bind λe=>(app 8 e [a.2.1]).bind λf=>(some (b.set c.toNat f)).bind λg=>some (.inl (g,w64 (a.2.1+1),d))
def ze4(p0:Int)(b:LI)(a:LM×Int×(List (Int×Int))):Option ((LM×Int×(List (Int×Int))) ⊕ (LM)):=
 if decide (a.2.1<(p0.toNat:Int))then((idx b a.2.1).bind λe=>(iter (gstep b) a.2.1).bind λc=>if !(zhK a.2.2 c)then((app 24 a.1 [([]:LI)]).bind λd=>ze8 a d (a.1.length:Int) (zbX a.2.2 a.2.1 (a.1.length:Int)))else(ze8 a a.1 ((zdw a.2.2 c).getD 0) a.2.2))else(some (.inr a.1))
def zku(p0:Int)(a:LI):Option (LM):=
 (iter (ze4 p0 a) ([],0,([]:List (Int×Int)))).bind λb=>zkt b
def ze7(a:Int×LI)(b:LI):Option ((Int×LI) ⊕ (LI)):=
 some (.inl (w64 (a.1+1),b))
def ze5(p1:LB)(a:Int×LI):Option ((Int×LI) ⊕ (LI)):=
 if decide (a.1<(p1.length:Int))then((idx p1 a.1).bind λb=>(idx a.2 b.1).bind λe=>(iter (gstep a.2) b.1).bind λc=>(idx a.2 b.2.1).bind λf=>(iter (gstep a.2) b.2.1).bind λd=>if decide (c<d)then(ze7 a (a.2.set d.toNat c))else(if decide (d<c)then(ze7 a (a.2.set c.toNat d))else(ze7 a a.2)))else(some (.inr a.2))
def zkv(p0:Int)(p1:LB)(a:LI):Option (LM):=
 (iter (ze5 p1) (0,a)).bind λb=>zku p0 b
def ze6(p0:Int)(a:Int×LI):Option ((Int×LI) ⊕ (LI)):=
 if decide (a.1<(p0.toNat:Int))then((zuS p0.toNat a.2 a.1).bind λb=>some (.inl (w64 (a.1+1),b)))else(some (.inr a.2))
def zkQ(p0:Int)(p1:LB):Option (LM):=
 (fmk 8 p0).bind λb=>(iter (ze6 p0) (0,b)).bind λa=>zkv p0 p1 a
def ziM  : Option (Int):=
 some (-1)
def zcb(p0:LB)(p1:(Int×Int×Int)->Option Bool)(a:Int):Option (Int ⊕ (Unit ⊕ Int)):=
 if decide (a<(p0.length:Int))then((idx p0 a).bind λb=>(p1 b).bind λc=>if c then(some (.inr (.inr a)))else(some (.inl (w64 (a+1)))))else(some (.inr (.inl ())))
def zd3(p0:LB)(p1:(Int×Int×Int)->Option Bool):Option (Int):=
 (iter (zcb p0 p1) 0).bind λa=>match a with | .inl z=>ziM | .inr z=>some z
def zeq(b:LB)(a:Int):Option (LB):=
 (clr b a (0,(0,0))).bind λc=>(zlK c 0 a).bind λd=>some d
def zbM(a:LB×Int×Int)(b:LB)(c:Int):Option ((LB×Int×Int) ⊕ (LB×Int)):=
 some (.inl (b,c,w64 (a.2.2+1)))
def zbL(p1:(Int×Int×Int)->Option Bool)(a:LB×Int×Int):Option ((LB×Int×Int) ⊕ (LB×Int)):=
 if decide (a.2.2<(a.1.length:Int))then((idx a.1 a.2.2).bind λb=>(p1 b).bind λc=>if !c then((idx a.1 a.2.1).bind λe=>(some (a.1.set a.2.1.toNat b)).bind λd=>zbM a d (w64 (a.2.1+1)))else(zbM a a.1 a.2.1))else(some (.inr (a.1,a.2.1)))
def zbq(p0:LB)(p1:(Int×Int×Int)->Option Bool):Option (LB):=
 (zd3 p0 p1).bind λa=>if decide (a=(-1))then(some p0)else((iter (zbL p1) (p0,a,w64 (a+1))).bind λb=>zeq b.1 b.2)
def zcC(c:LB)(a:Bool):Option (LB):=
 if a then(some ([]:LB))else((app 24 ([]:LB) c).bind λb=>some b)
def zc3(p0:LB):Option (LB):=
 zcC p0 false
def ziJ(p0:Int×Int×Int)(p1:Int):Option (Bool):=
 some (decide (p0.2.2<p1))
def ziH(a:LM)(b:LB):Option (Int×LB):=
 some ((a.length:Int),b)
def zfu(a:LB×Int)(b:LB):Option ((LB×Int) ⊕ (LB)):=
 some (.inl (b,w64 (a.2+1)))
def zdk(p1:LB)(c:LI)(a:LB×Int):Option ((LB×Int) ⊕ (LB)):=
 if decide (a.2<(p1.length:Int))then((idx p1 a.2).bind λb=>(idx c b.1).bind λe=>(idx c b.2.1).bind λf=>if !decide (e=f)then((idx c b.1).bind λg=>(idx c b.2.1).bind λh=>(app 24 a.1 [(g,(h,b.2.2))]).bind λd=>zfu a d)else(zfu a a.1))else(some (.inr a.1))
def ziI(p1:LB)(a:LM)(b:LI):Option (Int×LB):=
 (iter (zdk p1 b) ([],0)).bind λc=>ziH a c
def ziG(a:LI×Int)(b:LI):Option ((LI×Int) ⊕ (LI)):=
 some (.inl (b,w64 (a.2+1)))
def zbF(d:LI×Int)(b:LI)(a:LI×Int):Option ((LI×Int) ⊕ (LI)):=
 if decide (a.2<(b.length:Int))then((idx b a.2).bind λc=>(idx a.1 c).bind λf=>(some (a.1.set c.toNat d.2)).bind λe=>some (.inl (e,w64 (a.2+1))))else(some (.inr a.1))
def zaO(b:LM)(a:LI×Int):Option ((LI×Int) ⊕ (LI)):=
 if decide (a.2<(b.length:Int))then((idx b a.2).bind λc=>(iter (zbF a c) (a.1,0)).bind λd=>ziG a d)else(some (.inr a.1))
def zin(p0:Int)(p1:LB)(f:Int):Option (Int×LB):=
 (zc3 p1).bind λc=>(zbq c (λg=>ziJ g f)).bind λd=>(zkQ p0 d).bind λa=>(mkl 8 p0 0).bind λe=>(iter (zaO a) (e,0)).bind λb=>ziI p1 a b
def zau(p0:LP)(p1:Int×Int)(c:((Int×Int)×Int)->(Int×Int)->Option Int)(a:Int):Option (Int×Bool):=
 if decide (a<(p0.length:Int))then((idx p0 a).bind λx23=>(c x23 p1).bind λb=>some (a,decide (b=0)))else(some (a,false))
def zK(p0:LP)(p1:Int×Int)(d:((Int×Int)×Int)->(Int×Int)->Option Int)(a:Int×Int):Option ((Int×Int) ⊕ Int):=
 if decide (a.1<a.2)then((idx p0 (w64 (Int.fdiv (IntKind.wrap .u64 (w64 (a.1+a.2))) (2 ^ 1)))).bind λb=>(d b p1).bind λc=>if decide (c<0)then(some (.inl (w64 ((w64 (Int.fdiv (IntKind.wrap .u64 (w64 (a.1+a.2))) (2 ^ 1)))+1),a.2)))else(some (.inl (a.1,w64 (Int.fdiv (IntKind.wrap .u64 (w64 (a.1+a.2))) (2 ^ 1))))))else(some (.inr a.1))
def zab(p0:LP)(p1:Int×Int)(a:((Int×Int)×Int)->(Int×Int)->Option Int):Option (Int×Bool):=
 (iter (zK p0 p1 a) (0,(p0.length:Int))).bind λb=>zau p0 p1 a b
def z8(p0:(Int×Int)×Int)(p1:Int×Int):Option (Int):=
 (zal p0.1 p1).bind λa=>some a
def zdt(p0:LP)(p1:Int×Int):Option (Int):=
 (zab p0 p1 (λb c=>z8 b c)).bind λa=>if a.2 then(some a.1)else(some (-1))
def zbo(p0:Int×Int)(p1:Int×Int):Option ((Int×Int)):=
 some (w64 (p0.1+p1.1),w64 (p0.2+p1.2))
def zQ(p0:Int×Int)(p1:Int):Option ((Int×Int)):=
 (idx [((0,1):Int×Int),((1,0):Int×Int),((0,(-1)):Int×Int),(((-1),0):Int×Int)] p1).bind λa=>(zbo p0 a).bind λb=>some b
def zb5{σ:Type}(a:σ):Option (σ):=
 some a
def zb4{σ:Type}(a:Int×σ)(b:σ):Option ((Int×σ) ⊕ σ):=
 some (.inl (w64 (a.1+1),b))
def zaj{σ:Type}(a:Int×σ)(b:σ):Option ((Int×σ) ⊕ σ):=
 some (.inl (w64 (a.1+1),b))
def zN{σ:Type}(y0:σ->(Int×Int)->Int->Option σ)(p1:LP)(d:Int×σ)(e:(Int×Int)×Int)(a:Int×σ):Option ((Int×σ) ⊕ σ):=
 if decide (a.1<(([1,0]:List Int).length:Int))then((idx [1,0] a.1).bind λb=>(zQ e.1 b).bind λf=>(zdt p1 f).bind λc=>if decide (c≥0)then((y0 a.2 (d.1,c) b).bind λg=>zaj a g)else(zaj a a.2))else(some (.inr a.2))
def zO{σ:Type}(y0:σ->(Int×Int)->Int->Option σ)(p1:LP)(a:Int×σ):Option ((Int×σ) ⊕ σ):=
 if decide (a.1<(p1.length:Int))then((idx p1 a.1).bind λb=>(iter (zN y0 p1 a b) (0,a.2)).bind λc=>zb4 a c)else(some (.inr a.2))
def zdl{σ:Type}(y0:σ->(Int×Int)->Int->Option σ)(s0:σ)(p1:LP):Option (σ):=
 (iter (zO y0 p1) (0,s0)).bind λa=>zb5 a
def zfa(p0:LP):Option ((LP)):=
 some p0
def zh4(p0:Int):Option (Int):=
 some (Int.tmod (w64 (p0+2)) 4)
def zaD(p0:LG×LT)(p1:Int)(d:Int):Option (Int):=
 (idx p0.2 p1).bind λb=>(idx b.2 d).bind λa=>if decide (a>0)then((idx p0.1 (w64 (a - 1))).bind λc=>some c.2)else(some 0)
def zaB(p0:LG×LT)(p1:Int)(a:Int)(h:Int):Option (Int):=
 (idx p0.2 p1).bind λb=>(idx b.2 a).bind λc=>(idx p0.2 h).bind λd=>(zh4 a).bind λe=>(idx d.2 e).bind λf=>if decide (c=f)then((zaD p0 p1 a).bind λg=>some g)else(some 0)
def zW(p0:LG×LT)(p1:LP)(a:LB)(q:(Int×Int)×Int):Option (LB):=
 (idx p1 q.1.1).bind λc=>(idx p1 q.1.2).bind λd=>(zaB p0 c.2 q.2 d.2).bind λb=>if decide (b>0)then((app 24 a [(q.1.1,(q.1.2,b))]).bind λe=>some e)else(some a)
def zaP(p0:LG×LT)(p1:LP):Option (LB):=
 (zfa p1).bind λa=>(zdl (λs c d=>zW p0 p1 s (c,d)) [] a).bind λb=>some b
def zjL(a:LM)(b:LM):Option ((LM×LM)):=
 some (b,a)
def zeg(p1:LB)(b:Int×LM):Option ((Int×LM) ⊕ (LM)):=
 if decide (b.1<(p1.length:Int))then((idx p1 b.1).bind λa=>(idx b.2 a.1).bind λc=>(idx c a.2.1).bind λf=>(idx c a.2.1).bind λi=>(some (b.2.set a.1.toNat (c.set a.2.1.toNat (w64 (f+a.2.2))))).bind λe=>(idx e a.2.1).bind λd=>(idx d a.1).bind λg=>(idx d a.1).bind λj=>(some (e.set a.2.1.toNat (d.set a.1.toNat (w64 (g+a.2.2))))).bind λh=>some (.inl (w64 (b.1+1),h)))else(some (.inr b.2))
def zjM(p1:LB)(a:LM)(b:LM):Option ((LM×LM)):=
 (iter (zeg p1) (0,a)).bind λc=>zjL b c
def zeh(p0:Int)(a:Int×LM×LM):Option ((Int×LM×LM) ⊕ (LM×LM)):=
 if decide (a.1<p0)then((mkl 8 p0 0).bind λb=>(app 24 a.2.1 [b]).bind λc=>(mkl 8 p0 0).bind λd=>(app 24 a.2.2 [d]).bind λe=>some (.inl (w64 (a.1+1),c,e)))else(some (.inr (a.2.1,a.2.2)))
def zjN(p0:Int)(p1:LB):Option ((LM×LM)):=
 (iter (zeh p0) (0,[],[])).bind λa=>zjM p1 a.1 a.2
def zh3(p0 p1:Int):Option (Int×Int):=if 0<=p0/\p0<18446744073709551616/\0<=p1/\p1<18446744073709551616 then some (p0*p1 / 18446744073709551616,p0*p1 % 18446744073709551616)else none
def zk2(a:LI):Option (LI):=
 some a
def zd0  (a:LI×Int):Option ((LI×Int) ⊕ (LI)):=
 if decide (a.2<(a.1.length:Int))then((zlK a.1 a.2 (a.1.length:Int)).bind λd=>(zlK a.1 0 a.2).bind λb=>(some (cpy a.1 a.2.toNat b)).bind λc=>some (.inl (c,w64 (a.2+((min b.length (a.1.length - a.2.toNat):Nat):Int)))))else(some (.inr a.1))
def zd1(p0:LI)(e:Int×Int)(b:Bool):Option (LI):=
 if b then none else((mkl 8 (w64 e.2) 0).bind λa=>(some (cpy a 0 p0)).bind λc=>(iter (zd0) (c,((min p0.length a.length:Nat):Int))).bind λd=>zk2 d)
def zgi(p0:LI)(p1:Int):Option (LI):=
 if decide (p1<0)then none else((zh3 (IntKind.wrap .u64 (p0.length:Int)) (IntKind.wrap .u64 p1)).bind λa=>if decide (a.1>0)then(zd1 p0 a true)else(zd1 p0 a (decide (a.2>9223372036854775807))))
def zgo(p0:LM×LM)(p1:Int)(a:Int):Option (Bool):=
 (idx p0.1 p1).bind λe=>(idx e a).bind λb=>(idx p0.2 p1).bind λc=>(idx c a).bind λd=>some (decide (b>d))
def ziA(p0:LI):Option LI:=some p0.reverse
def zhR(b:LI):Option (LI):=
 (ziA b).bind λa=>(ne a).bind λc=>some a
def zbh(p1:Int)(c:LI)(a:LI×Int):Option ((LI×Int) ⊕ (LI)):=
 if !decide (a.2=p1)then((idx c a.2).bind λb=>(app 8 a.1 [b]).bind λd=>some (.inl (d,b)))else(some (.inr a.1))
def zhS(p1:Int)(b:Int)(a:LI):Option (LI):=
 (idx a b).bind λc=>if decide (c<0)then(some ([]:LI))else((iter (zbh p1 a) ([b],b)).bind λd=>zhR d)
def zhQ(a:LI)(b:LI):Option ((LI×LI) ⊕ (LI)):=
 some (.inl (a,b))
def zcI(a:LI×Int×LI)(b:LI)(c:LI):Option ((LI×Int×LI) ⊕ (LI×LI)):=
 some (.inl (b,w64 (a.2.1+1),c))
def zbi(p0:LM×LM)(e:Int×LI)(a:LI×Int×LI)(b:Bool):Option ((LI×Int×LI) ⊕ (LI×LI)):=
 if b then((idx a.1 a.2.1).bind λf=>(some (a.1.set a.2.1.toNat e.1)).bind λc=>(ztv ((p0.1.length:Int).toNat) a.2.2 a.2.1).bind λd=>zcI a c d)else(zcI a a.1 a.2.2)
def zcG(p0:LM×LM)(b:Int×LI)(a:LI×Int×LI):Option ((LI×Int×LI) ⊕ (LI×LI)):=
 if decide (a.2.1<(p0.1.length:Int))then((idx a.1 a.2.1).bind λc=>if decide (c<0)then((zgo p0 b.1 a.2.1).bind λd=>zbi p0 b a d)else(zbi p0 b a false))else(some (.inr (a.1,a.2.2)))
def zcH(p0:LM×LM)(a:LI×LI):Option ((LI×LI) ⊕ (LI)):=
 (zAc a.2).bind λd=>if decide (d>0)then((zzb a.2).bind λc=>(iter (zcG p0 c) (a.1,0,c.2)).bind λb=>zhQ b.1 b.2)else(some (.inr a.1))
def zhr(p0:LM×LM)(p1:Int)(f:Int):Option (LI):=
 (zgi [(-1)] (p0.1.length:Int)).bind λa=>(mkc 8 (p0.1.length:Int)).bind λb=>(ztv ((p0.1.length:Int).toNat) b p1).bind λc=>(idx a p1).bind λg=>(some (a.set p1.toNat p1)).bind λd=>(iter (zcH p0) (d,c)).bind λe=>zhS p1 f e
def zgO(a:Int×LM)(b:LM):Option ((Int×LM) ⊕ (Int×(LM×LM))):=
 some (.inl (w64 (a.1+1),b))
def zbZ(b:LI)(a:Int×LM):Option ((Int×LM) ⊕ (LM)):=
 if decide (a.1<(b.length:Int))then((idx b (w64 (a.1 - 1))).bind λg=>(idx a.2 g).bind λc=>(idx b a.1).bind λd=>(idx c d).bind λj=>(idx c d).bind λm=>(some (a.2.set g.toNat (c.set d.toNat (w64 (j+1))))).bind λh=>(idx b a.1).bind λi=>(idx h i).bind λe=>(idx b (w64 (a.1 - 1))).bind λf=>(idx e f).bind λk=>(idx e f).bind λn=>(some (h.set i.toNat (e.set f.toNat (w64 (k - 1))))).bind λl=>some (.inl (w64 (a.1+1),l)))else(some (.inr a.2))
def zb0(p0:LM×LM)(a:Int×LM)(b:LI)(c:Bool):Option ((Int×LM) ⊕ (Int×(LM×LM))):=
 if c then(some (.inr (a.1,(p0.1,a.2))))else((iter (zbZ b) (1,a.2)).bind λd=>zgO a d)
def zef(p0:LM×LM)(p1:Int)(c:Int)(d:Int)(a:Int×LM):Option ((Int×LM) ⊕ (Int×(LM×LM))):=
 (zhr (p0.1,a.2) p1 c).bind λb=>if decide (b=[])then(zb0 p0 a b true)else(zb0 p0 a b (decide (a.1≥d)))
def zgn(p0:LM×LM)(p1:Int)(a:Int)(b:Int):Option (Int×(LM×LM)):=
 (iter (zef p0 p1 a b) (0,p0.2)).bind λx23=>some x23
def zqZ  : Option (Bool):=
 some true
def zkP(p0:Int)(p1:LB)(b:Int)(a:Int):Option (Int ⊕ (Unit ⊕ Bool)):=
 if decide (a<p0)then((zjN p0 p1).bind λc=>(zgn c 0 a b).bind λx23=>if decide (x23.1<b)then(some (.inr (.inr false)))else(some (.inl (w64 (a+1)))))else(some (.inr (.inl ())))
def zo0(p0:Int)(p1:LB)(a:Int):Option (Bool):=
 (iter (zkP p0 p1 a) 1).bind λb=>match b with | .inl z=>zqZ | .inr z=>some z
def zeC(p0:LG×LT)(p1:LP)(a:Int):Option (Bool×Bool):=
 (zaP p0 p1).bind λb=>(zin (p1.length:Int) b a).bind λx23=>if decide (x23.1>64)then(some (false,false))else((zo0 x23.1 x23.2 a).bind λc=>some (c,true))
def zn5(p0:LG×LT)(p1:LP)(a:Int):Option (Bool×Int):=
 (zaa p0 p1).bind λb=>if !b then(some (false,1))else((zft a).bind λc=>if !c then(some (false,2))else((zeC p0 p1 a).bind λx23=>if !x23.2 then(some (false,4))else(some (x23.1,0))))
def zaw(p0:TS×(LP)×Int):Option (Bool):=
 if decide ((p0.2.1.length:Int)=0)then(some false)else((zn5 p0.1 p0.2.1 p0.2.2).bind λa=>if a.1 then(some (decide (a.2=0)))else(some false))
def zaN(a:Bool):Option (Int):=
 if a then(some 1)else(some 0)
def zim(p0:TS×(LP)×Int)(p1:LP):Option (Int):=
 (zaw p0).bind λx23=>if !x23 then(zaN true)else((zaa p0.1 p1).bind λa=>zaN (!a))
def zhH  : Option (Bool):=
 some true
def zhG(p0:LP)(p1:LP)(a:Int):Option (Int ⊕ (Unit ⊕ Bool)):=
 if decide (a<(p0.length:Int))then((idx p0 a).bind λb=>(idx p1 a).bind λc=>if !((decide (b.1.1=c.1.1)&&decide (b.1.2=c.1.2))&&decide (b.2=c.2))then(some (.inr (.inr false)))else(some (.inl (w64 (a+1)))))else(some (.inr (.inl ())))
def zeV(p0:LP)(p1:LP):Option (Bool):=
 if !decide ((p0.length:Int)=(p1.length:Int))then(some false)else((iter (zhG p0 p1) 0).bind λa=>match a with | .inl z=>zhH | .inr z=>some z)
def zhF  : Option (Bool):=
 some true
def zhE(p0:LI)(p1:LI)(a:Int):Option (Int ⊕ (Unit ⊕ Bool)):=
 if decide (a<(p0.length:Int))then((idx p0 a).bind λb=>(idx p1 a).bind λc=>if !decide (b=c)then(some (.inr (.inr false)))else(some (.inl (w64 (a+1)))))else(some (.inr (.inl ())))
def zeU(p0:LI)(p1:LI):Option (Bool):=
 if !decide ((p0.length:Int)=(p1.length:Int))then(some false)else((iter (zhE p0 p1) 0).bind λa=>match a with | .inl z=>zhF | .inr z=>some z)
def zeX  : Option (Bool):=
 some true
def zeW(p0:LM)(p1:LM)(e:LI->LI->Option Bool)(a:Int):Option (Int ⊕ (Unit ⊕ Bool)):=
 if decide (a<(p0.length:Int))then((idx p0 a).bind λb=>(idx p1 a).bind λc=>(e b c).bind λd=>if !d then(some (.inr (.inr false)))else(some (.inl (w64 (a+1)))))else(some (.inr (.inl ())))
def zd4(p0:LM)(p1:LM)(b:LI->LI->Option Bool):Option (Bool):=
 if !decide ((p0.length:Int)=(p1.length:Int))then(some false)else((iter (zeW p0 p1 b) 0).bind λa=>match a with | .inl z=>zeX | .inr z=>some z)
def zjQ(p0:Int×LP×LP×LI×LM)(p1:Int×LP×LP×LI×LM):Option (Bool):=
 if decide (p0.1=p1.1)then((zeV p0.2.1 p1.2.1).bind λa=>if a then((zeV p0.2.2.1 p1.2.2.1).bind λb=>if b then((zeU p0.2.2.2.1 p1.2.2.2.1).bind λc=>if c then((zd4 p0.2.2.2.2 p1.2.2.2.2 (λe f=>zeU e f)).bind λd=>some d)else(some false))else(some false))else(some false))else(some false)
abbrev Prf:=Int×LP×LP×LI×LM
def zom(p:Prf):Prf:=if p.1=1\/p.1=2\/p.1=3 then(0,[],p.2.2.1,p.2.2.2.1,p.2.2.2.2)else if p.1=4 then(0,[],[],p.2.2.2.1,p.2.2.2.2)else if p.1=5 then(0,p.2.1,p.2.2.1,p.2.2.2.1,[])else(0,p.2.1,p.2.2.1,[],p.2.2.2.2)
def zfv(p:Prf):Option Bool:=zjQ (zom p) (0,[],[],[],[])
abbrev Sy:=TS×LP×Int
abbrev CrySt:=Sy×LP×List ((Int×Int)×LI)
def zhU(b bm bo:Nat):List Nat:=[b,bm,bo]
def cat(m:LP)(p:Int×Int):Int:=if zhK m p=true then(zdw m p).getD 0 else -1
def zfP(q:CrySt)(p:Int×Int):Option Int:=some (cat q.2.1 p)
def zCs:Option (Nat×((Int×Int)×Int))->Value
 | none=>.nilIface
 | some (T,o)=>.iface T (.agg #[.int .i64 o.1.1,.int .i64 o.1.2,.int .i64 o.2])
def zBP(e:Option (Nat×((Int×Int)×Int))):Prop:=∀T o,e=some (T,o)->(T=406\/T=407\/T=409)/\(-9223372036854775808<=o.1.1/\o.1.1<=9223372036854775807)/\(-9223372036854775808<=o.1.2/\o.1.2<=9223372036854775807)/\(-9223372036854775808<=o.2/\o.2<=9223372036854775807)
def zyw:zBP none:=λ_ _ h=>by cases h
def zuT{T:Nat}{a b c:Int}(h:T=406\/T=407\/T=409)(ha:I64 a)(hb:I64 b)(hc:I64 c):zBP (some (T,(a,b),c)):=λT' o e=>by
 injection e with e;injection e with e1 e2;subst e1;subst e2;exact⟨h,ha,hb,hc⟩
def ziT(a:Int):Option (Int):=
 some a
def zci(a:Int×Int)(b:Int):Option ((Int×Int) ⊕ Int):=
 some (.inl (b,w64 (a.2+1)))
def zch(p0:LG×LT)(p1:Int×Int)(e:Int)(f:(Int×Int)->Option Int)(a:Int×Int):Option ((Int×Int) ⊕ Int):=
 if decide (a.2<4)then((zQ p1 a.2).bind λc=>(f c).bind λb=>if decide (b≥0)then((zaB p0 e a.2 b).bind λd=>zci a (w64 (a.1+d)))else(zci a a.1))else(some (.inr a.1))
def zb1(p0:LG×LT)(p1:Int×Int)(b:Int)(c:(Int×Int)->Option Int):Option (Int):=
 (iter (zch p0 p1 b c) (0,0)).bind λa=>ziT a
def zcg(q:CrySt)(p:Int×Int)(k:Int):Option Bool:=
 (zdG p).bind λx=>if x=true then(if decide (cat q.2.1 p<0)=true then(zb1 q.1.1 p k (zfP q)).bind λs=>some (decide (s≥q.1.2.2))else some false)else some false
def zgR(a:CrySt):Option (CrySt):=
 some a
def zbc(a:Int×CrySt)(b:CrySt):Option ((Int×CrySt) ⊕ CrySt):=
 some (.inl (w64 (a.1+1),b))
def zdj(a:Int×CrySt)(b:(Int×Int))(c:LI):Option ((Int×CrySt) ⊕ CrySt):=
 if decide ((c.length:Int)>0)then(zbc a (a.2.1,a.2.2.1,zbX a.2.2.2 b c))else(zbc a (a.2.1,a.2.2.1,zmG a.2.2.2 b))
def zbb(a:LI×Int)(b:LI):Option ((LI×Int) ⊕ (LI)):=
 some (.inl (b,w64 (a.2+1)))
def zag(b:Int×CrySt)(c:(Int×Int))(a:LI×Int):Option ((LI×Int) ⊕ (LI)):=
 if decide (a.2<(b.2.1.1.2.length:Int))then((zcg b.2 c a.2).bind λd=>if d then((app 8 a.1 [a.2]).bind λe=>zbb a e)else(zbb a a.1))else(some (.inr a.1))
def zar(p1:Int×Int)(a:Int×CrySt):Option ((Int×CrySt) ⊕ CrySt):=
 if decide (a.1<4)then((zQ p1 a.1).bind λb=>(iter (zag a b) ([],0)).bind λc=>zdj a b c)else(some (.inr a.2))
def zaU(p0:CrySt)(p1:Int×Int):Option (CrySt):=
 (iter (zar p1) (0,p0)).bind λa=>zgR a
def zmQ(a:CrySt):Option (CrySt):=
 some a
def zbD(p1:LP)(a:Int×CrySt):Option ((Int×CrySt) ⊕ CrySt):=
 if decide (a.1<(p1.length:Int))then((idx p1 a.1).bind λb=>(zaU a.2 b.1).bind λc=>some (.inl (w64 (a.1+1),c)))else(some (.inr a.2))
def ziD(p1:LP)(a:CrySt):Option (CrySt):=
 (iter (zbD p1) (0,a)).bind λb=>zmQ b
def zbE(p1:LP)(a:Int×CrySt):Option ((Int×CrySt) ⊕ CrySt):=
 if decide (a.1<(p1.length:Int))then((idx p1 a.1).bind λb=>some (.inl (w64 (a.1+1),(a.2.1,zbX a.2.2.1 b.1 b.2,a.2.2.2))))else(some (.inr a.2))
def zcr(p0:TS×(LP)×Int)(p1:LP):Option (CrySt):=
 (iter (zbE p1) (0,(((p0.1.1,p0.1.2),p0.2.1,p0.2.2),[],[]))).bind λa=>ziD p1 a
def ze9(p0:CrySt)(p1:Int×Int)(a:Int):Option (CrySt):=
 (zaU ((p0.1,zbX p0.2.1 p1 a,p0.2.2).1,(p0.1,zbX p0.2.1 p1 a,p0.2.2).2.1,zmG ((p0.1,zbX p0.2.1 p1 a,p0.2.2).2.2) p1) p1).bind λb=>some b
def zcB(c:LP)(a:Bool):Option (LP):=
 if a then(some ([]:LP))else((app 24 ([]:LP) c).bind λb=>some b)
def zeZ(p0:LP):Option (LP):=
 zcB p0 false
def ziK(p0:(Int×Int)×Int)(p1:(Int×Int)×Int):Option (Int):=
 (zal p0.1 p1.1).bind λa=>some a
def zbk(a b:(Int×Int)×Int):Int:=if a.1.2<b.1.2 then -1 else if b.1.2<a.1.2 then 1 else if a.1.1<b.1.1 then -1 else if b.1.1<a.1.1 then 1 else 0
def zaK(p0:LP):Option LP:=
 if p0.length<=1048576 then some (Go.Sort.pdq (λx y=>decide (zbk x y<0)) p0.toArray 0 p0.length (Go.Lib.bitLen p0.length) true true).toList else none
def zdq(q:CrySt):Option LP:=zaK q.2.1
def zgV(a:CrySt):Option ((LP)×Int×Int):=
 (zdq a).bind λb=>some (b,0,0)
def zas(a:Int×CrySt)(b:(Int×Int)×Int)(c:Bool):Option ((Int×CrySt) ⊕ (CrySt ⊕ ((LP)×Int×Int))):=
 if c then(some (.inr (.inr ([],a.1,5))))else((zzH a.2.2.1).bind λd=>if decide (d≥500)then(some (.inr (.inr ([],0,4))))else((ze9 a.2 b.1 b.2).bind λe=>some (.inl (w64 (a.1+1),e))))
def z7(p0:TS×(LP)×Int)(p1:LP)(a:Int×CrySt):Option ((Int×CrySt) ⊕ (CrySt ⊕ ((LP)×Int×Int))):=
 if decide (a.1<(p1.length:Int))then((idx p1 a.1).bind λb=>(zbj p0.1 b.2).bind λc=>if !c then(zas a b true)else((zcg a.2 b.1 b.2).bind λd=>zas a b (!d)))else(some (.inr (.inl a.2)))
def zcm(p0:TS×(LP)×Int)(p1:LP):Option ((LP)×Int×Int):=
 (zaw p0).bind λa=>if !a then(some ([],0,1))else(if decide ((p1.length:Int)>500)then(some ([],0,2))else((zcr p0 p0.2.1).bind λb=>(iter (z7 p0 p1) (0,b)).bind λc=>match c with | .inl z=>zgV z | .inr z=>some z))
def zlA  : Option (Bool):=
 some true
def zlz(p0:LP)(p1:LP)(a:Int):Option (Int ⊕ (Unit ⊕ Bool)):=
 if decide (a<(p0.length:Int))then((idx p0 a).bind λb=>(idx p1 a).bind λc=>if !((decide (b.1.1=c.1.1)&&decide (b.1.2=c.1.2))&&decide (b.2=c.2))then(some (.inr (.inr false)))else(some (.inl (w64 (a+1)))))else(some (.inr (.inl ())))
def zkm(p0:LP)(p1:LP):Option (Bool):=
 if !decide ((p0.length:Int)=(p1.length:Int))then(some false)else((iter (zlz p0 p1) 0).bind λa=>match a with | .inl z=>zlA | .inr z=>some z)
def zgp(p0:LP)(p1:LP):Option (Bool):=
 (zkm p0 p1).bind λa=>some a
def zan(p0:LP)(p1:TS×(LP)×Int)(c:LP):Option (Bool):=
 (zcm p1 p0).bind λa=>if decide (a.2.2=0)then((zgp c a.1).bind λb=>some b)else(some false)
def ziE(q:CrySt):Option Int:=some (w64 ((q.2.2.map λp=>(p.2.length:Int)).sum))
def zbO(p0:(LP))(p1:TS×(LP)×Int)(a:LP):Option (Bool):=
 (zan p0 p1 a).bind λb=>if b then((zcr p1 a).bind λc=>(ziE c).bind λd=>some (decide (d=0)))else(some false)
def zoZ(p0:TS×(LP)×Int)(p1:LP)(a:(LP)×Int×Int)(b:LI)(c:LI):Option (((TS×(LP)×Int)×LP×(LP)×LI×LI)×Int):=
 some ((p0,(p1,(a.1,(b,c)))),0)
def zoY(a:Int×LI×LI×CrySt)(b:(Int×Int)×Int)(c:Int)(d:Int):Option ((Int×LI×LI×CrySt) ⊕ (LI×LI)):=
 (app 8 a.2.1 [c]).bind λe=>(app 8 a.2.2.1 [d]).bind λf=>(ze9 a.2.2.2 b.1 b.2).bind λg=>some (.inl (w64 (a.1+1),e,f,g))
def zjK(a:Int×Int×Int)(b:Int)(c:Int):Option ((Int×Int×Int) ⊕ (Int×Int)):=
 some (.inl (b,c,w64 (a.2.2+1)))
def zhp(p0:TS×(LP)×Int)(e:Int×LI×LI×CrySt)(d:(Int×Int)×Int)(a:Int×Int×Int):Option ((Int×Int×Int) ⊕ (Int×Int)):=
 if decide (a.2.2<4)then((zQ d.1 a.2.2).bind λf=>(zfP e.2.2.2 f).bind λb=>if decide (b≥0)then((zaB p0.1 d.2 a.2.2 b).bind λc=>if decide (c>0)then((zya .i64 1 a.2.2).bind λg=>zjK a (ior .i64 a.1 g) (w64 (a.2.1+c)))else(zjK a a.1 a.2.1))else(zjK a a.1 a.2.1))else(some (.inr (a.1,a.2.1)))
def zhq(p0:TS×(LP)×Int)(p1:LP)(a:Int×LI×LI×CrySt):Option ((Int×LI×LI×CrySt) ⊕ (LI×LI)):=
 if decide (a.1<(p1.length:Int))then((idx p1 a.1).bind λc=>(iter (zhp p0 a c) (0,0,0)).bind λb=>zoY a c b.1 b.2)else(some (.inr (a.2.1,a.2.2.1)))
def zs9(p0:TS×(LP)×Int)(p1:LP):Option (((TS×(LP)×Int)×LP×(LP)×LI×LI)×Int):=
 (zcm p0 p1).bind λa=>if !decide (a.2.2=0)then none else((zcr p0 p0.2.1).bind λc=>(iter (zhq p0 p1) (0,[],[],c)).bind λb=>zoZ p0 p1 a b.1 b.2)
def zp8(p0:Int)(p1:Int):Option (Bool):=
 (zxb .i64 p0 p1).bind λa=>some (decide ((zvp .i64 a 1)=1))
def zeR  : Option (Int):=
 some (-1)
def zeQ(p0:LP)(p1:((Int×Int)×Int)->Option Bool)(a:Int):Option (Int ⊕ (Unit ⊕ Int)):=
 if decide (a<(p0.length:Int))then((idx p0 a).bind λb=>(p1 b).bind λc=>if c then(some (.inr (.inr a)))else(some (.inl (w64 (a+1)))))else(some (.inr (.inl ())))
def zd2(p0:LP)(p1:((Int×Int)×Int)->Option Bool):Option (Int):=
 (iter (zeQ p0 p1) 0).bind λa=>match a with | .inl z=>zeR | .inr z=>some z
def zcR(p0:(Int×Int)×Int)(p1:Int×Int):Option (Bool):=
 some (decide (p0.1.1=p1.1)&&decide (p0.1.2=p1.2))
def zhO(p0:(TS×(LP)×Int)×LP×(LP)×LI×LI)(p1:Int×Int):Option (Int):=
 (zd2 p0.2.1 (λb=>zcR b p1)).bind λa=>some a
def zfp(a:Int):Option (Int):=
 some a
def zcQ(a:Int×Int)(b:Int):Option ((Int×Int) ⊕ Int):=
 some (.inl (b,w64 (a.2+1)))
def zcP(a:Int×Int)(b:Bool):Option ((Int×Int) ⊕ Int):=
 if b then((zya .i64 1 a.2).bind λc=>zcQ a (ior .i64 a.1 c))else(zcQ a a.1)
def za8(p0:(TS×(LP)×Int)×LP×(LP)×LI×LI)(p1:Int)(a:Int×Int):Option ((Int×Int) ⊕ Int):=
 if decide (a.2<4)then((idx p0.2.1 p1).bind λc=>(zQ c.1 a.2).bind λd=>(zhO p0 d).bind λb=>if decide (b>p1)then((idx p0.2.2.2.1 b).bind λe=>(zh4 a.2).bind λf=>(zp8 e f).bind λg=>zcP a g)else(zcP a false))else(some (.inr a.1))
def zey(p0:(TS×(LP)×Int)×LP×(LP)×LI×LI)(p1:Int):Option (Int):=
 (iter (za8 p0 p1) (0,0)).bind λa=>zfp a
def zep(b:LP)(a:Int):Option (LP):=
 (clr b a ((0,0),0)).bind λc=>(zlK c 0 a).bind λd=>some d
def zbK(a:LP×Int×Int)(b:LP)(c:Int):Option ((LP×Int×Int) ⊕ (LP×Int)):=
 some (.inl (b,c,w64 (a.2.2+1)))
def zbJ(p1:((Int×Int)×Int)->Option Bool)(a:LP×Int×Int):Option ((LP×Int×Int) ⊕ (LP×Int)):=
 if decide (a.2.2<(a.1.length:Int))then((idx a.1 a.2.2).bind λb=>(p1 b).bind λc=>if !c then((idx a.1 a.2.1).bind λe=>(some (a.1.set a.2.1.toNat b)).bind λd=>zbK a d (w64 (a.2.1+1)))else(zbK a a.1 a.2.1))else(some (.inr (a.1,a.2.1)))
def zdo(p0:LP)(p1:((Int×Int)×Int)->Option Bool):Option (LP):=
 (zaT p0 p1).bind λa=>if decide (a=(-1))then(some p0)else((iter (zbJ p1) (p0,a,w64 (a+1))).bind λb=>zep b.1 b.2)
def zhD  : Option (Int):=
 some (-1)
def zhC(p0:List (Int×Int))(p1:Int×Int)(a:Int):Option (Int ⊕ (Unit ⊕ Int)):=
 if decide (a<(p0.length:Int))then((idx p0 a).bind λb=>if(decide (p1.1=b.1)&&decide (p1.2=b.2))then(some (.inr (.inr a)))else(some (.inl (w64 (a+1)))))else(some (.inr (.inl ())))
def zkl(p0:List (Int×Int))(p1:Int×Int):Option (Int):=
 (iter (zhC p0 p1) 0).bind λa=>match a with | .inl z=>zhD | .inr z=>some z
def zex(p0:List (Int×Int))(p1:Int×Int):Option (Bool):=
 (zkl p0 p1).bind λa=>some (decide (a≥0))
def zes(p0:(Int×Int)×Int)(p1:List (Int×Int)):Option (Bool):=
 (zex p1 p0.1).bind λa=>some a
def zds(p0:LP)(p1:List (Int×Int)):Option ((LP)):=
 (zeZ p0).bind λa=>(zdo a (λc=>zes c p1)).bind λb=>some b
def zfb(p0:LP)(p1:Int×Int):Option (Int):=
 (zab p0 p1 (λc d=>z8 c d)).bind λa=>if a.2 then((idx p0 a.1).bind λb=>some b.2)else(some (-1))
def zjJ  : Option (Bool):=
 some false
def zcT(a:Int)(b:Bool):Option (Int ⊕ (Unit ⊕ Bool)):=
 if b then(some (.inr (.inr true)))else(some (.inl (w64 (a+1))))
def za9(p0:(TS×(LP)×Int)×LP×(LP)×LI×LI)(b:(Int×Int)×Int)(c:(LP))(a:Int):Option (Int ⊕ (Unit ⊕ Bool)):=
 if decide (a<(p0.1.1.2.length:Int))then(if !decide (a=b.2)then((zb1 p0.1.1 b.1 a (λe=>zfb c e)).bind λd=>zcT a (decide (d≥p0.1.2.2)))else(zcT a false))else(some (.inr (.inl ())))
def zfq(p0:(TS×(LP)×Int)×LP×(LP)×LI×LI)(a:(Int×Int)×Int)(b:List (Int×Int)):Option (Bool):=
 (zds p0.2.2.1 b).bind λc=>(iter (za9 p0 a c) 0).bind λd=>match d with | .inl z=>zjJ | .inr z=>some z
def zcS(a:(List (Int×Int))×Int)(b:List (Int×Int)):Option (((List (Int×Int))×Int) ⊕ ((List (Int×Int)))):=
 some (.inl (b,w64 (a.2+1)))
def zba(p0:(TS×(LP)×Int)×LP×(LP)×LI×LI)(p1:Int)(b:(Int×Int)×Int)(a:(List (Int×Int))×Int):Option (((List (Int×Int))×Int) ⊕ ((List (Int×Int)))):=
 if decide (a.2<4)then((zey p0 p1).bind λc=>(zp8 c a.2).bind λd=>if d then((zQ b.1 a.2).bind λe=>(app 16 a.1 [e]).bind λf=>zcS a f)else(zcS a a.1))else(some (.inr a.1))
def zez(p0:(TS×(LP)×Int)×LP×(LP)×LI×LI)(p1:Int):Option (Bool):=
 (idx p0.2.1 p1).bind λa=>(iter (zba p0 p1 a) ([a.1],0)).bind λb=>zfq p0 a b
def zet(a b:Int×Int):Int:=if a.2<b.2 then -1 else if b.2<a.2 then 1 else if a.1<b.1 then -1 else if b.1<a.1 then 1 else 0
def zwj(l:List (Int×Int)):List (Int×Int):=(Go.Sort.pdq (λx y=>decide (zet x y<0)) l.toArray 0 l.length (Go.Lib.bitLen l.length) true true).toList
def zei(q:CrySt):Option LP:=
 if q.2.2.length<=100000/\∀p∈q.2.2,p.2.length<=100000 then some ((zwj (q.2.2.map Prod.fst)).flatMap λp=>((zdw q.2.2 p).getD []).map λk=>(p,k))else none
def zgN(p0:(TS×(LP)×Int)×LP×(LP)×LI×LI):Option ((Option (Nat×((Int×Int)×Int)))):=
 (zcr p0.1 p0.2.2.1).bind λc=>(zei c).bind λb=>if decide ((b.length:Int)>0)then((idx b 0).bind λa=>some (some (409,(a.1.1,a.1.2),a.2)))else(some (none:Option (Nat×((Int×Int)×Int))))
def zee(p0:(TS×(LP)×Int)×LP×(LP)×LI×LI)(a:Int):Option (Int ⊕ (Unit ⊕ ((Option (Nat×((Int×Int)×Int)))))):=
 if decide (a<(p0.2.1.length:Int))then((idx p0.2.1 a).bind λb=>(idx p0.2.2.2.2 a).bind λc=>if !decide (c=p0.1.2.2)then(some (.inr (.inr (some (406,(b.1.1,b.1.2),b.2)))))else((zez p0 a).bind λd=>if d then(some (.inr (.inr (some (407,(b.1.1,b.1.2),b.2)))))else(some (.inl (w64 (a+1))))))else(some (.inr (.inl ())))
def zjI(p0:(TS×(LP)×Int)×LP×(LP)×LI×LI):Option ((Option (Nat×((Int×Int)×Int)))):=
 (iter (zee p0) 0).bind λa=>match a with | .inl z=>zgN p0 | .inr z=>some z
def zqM(p0:((Int×Int)×Int)):Option ((Int×Int)):=
 some p0.1
def zpo(p0:((Int×Int)×Int)):Option (Int):=
 some 1
def zrg(p0:((Int×Int)×Int)):Option ((Int×Int)):=
 some p0.1
def zp5(p0:((Int×Int)×Int)):Option (Int):=
 some 2
def ztb(p0:((Int×Int)×Int)):Option ((Int×Int)):=
 some p0.1
def zri(p0:((Int×Int)×Int)):Option (Int):=
 some 3
def zio(p0:Sy)(p1:LP):Option (Int×(Int×Int)×Int):=
 (zs9 p0 p1).bind λx=>if(!decide (x.2=0))=true then some (0,(0,0),x.2)else(zjI x.1).bind λv=>match v with
  | none=>some (0,(0,0),3)
  | some (T,o)=>some (if T=406 then 1 else if T=407 then 2 else 3,o.1,0)
def zl4(p0:TS×(LP)×Int)(p1:LP):Option (Bool):=
 (zio p0 p1).bind λa=>some (decide (a.2.2=3))
def zcN(p0:(LP))(p1:TS×(LP)×Int)(c:LP):Option (Bool):=
 (zan p0 p1 c).bind λa=>if a then((zl4 p1 p0).bind λb=>some b)else(some false)
def zkO(p0:LP):Option (((Int×Int)×Int)):=
 (idx p0 (w64 ((p0.length:Int) - 1))).bind λa=>some a
def zao(p0:(LP)×LP)(p1:TS×(LP)×Int)(c:Bool):Option (Bool):=
 if c then(some false)else((zcm p1 p0.2).bind λd=>(zkO p0.1).bind λa=>(zkO p0.2).bind λb=>if decide (d.2.2=0)then(if(decide (a.1.1=b.1.1)&&decide (a.1.2=b.1.2))then(some (!decide (a.2=b.2)))else(some false))else(some false))
def zbQ(p0:(LP)×LP)(p1:TS×(LP)×Int)(b:LP):Option (Bool):=
 if decide ((p0.1.length:Int)=0)then(zao p0 p1 true)else(if decide ((p0.2.length:Int)=0)then(zao p0 p1 true)else((zan p0.1 p1 b).bind λa=>zao p0 p1 (!a)))
def zfO(a:Bool):Option (Int):=
 if a then(some 2)else(some 0)
def zo3(p0:LG×LT)(p1:LP)(a:Int)(b:Int):Option (Int):=
 (zaa p0 p1).bind λc=>if !c then(some 1)else((zaJ a (p1.length:Int)).bind λx23=>if !x23 then(zfO true)else((zaJ b (p1.length:Int)).bind λd=>if !d then(zfO true)else(zfO (decide (a=b)))))
def zj0(c:Int)(a:LI):Option (Int×Int):=
 (idx a c).bind λb=>some (b,0)
def zek(a:Int)(b:Bool):Option (Int ⊕ (Unit ⊕ (Int×Int))):=
 if b then(some (.inr (.inr (0,10))))else(some (.inl (w64 (a+1))))
def zco(d:Int)(e:Int)(b:LI)(a:Int):Option (Int ⊕ (Unit ⊕ (Int×Int))):=
 if decide (a<(b.length:Int))then((idx b a).bind λc=>if !decide (c=0)then(if !decide (a=d)then(zek a (!decide (a=e)))else(zek a false))else(zek a false))else(some (.inr (.inl ())))
def zj1(b:Int)(d:Int)(a:LI):Option (Int×Int):=
 (iter (zco b d a) 0).bind λc=>match c with | .inl z=>zj0 b a | .inr z=>some z
def zgq(e:LI)(d:LB)(a:LI×Int):Option ((LI×Int) ⊕ ((LI) ⊕ (Int×Int))):=
 if decide (a.2<(d.length:Int))then((idx d a.2).bind λb=>(idx e a.2).bind λg=>(zaA g (w64 (0 - b.2.2)) b.2.2).bind λh=>if !h then(some (.inr (.inr (0,10))))else((idx a.1 b.1).bind λi=>(idx e a.2).bind λj=>(idx a.1 b.1).bind λm=>(some (a.1.set b.1.toNat (w64 (i+j)))).bind λc=>(idx c b.2.1).bind λk=>(idx e a.2).bind λl=>(idx c b.2.1).bind λn=>(some (c.set b.2.1.toNat (w64 (k - l)))).bind λf=>some (.inl (f,w64 (a.2+1)))))else(some (.inr (.inl a.1)))
def zj2(p0:LG×LT)(p1:LP)(b:Int)(c:Int)(d:LI):Option (Int×Int):=
 (zo3 p0 p1 b c).bind λx23=>if !decide (x23=0)then(some (0,x23))else((zaP p0 p1).bind λa=>if !decide ((d.length:Int)=(a.length:Int))then(some (0,10))else((mkl 8 (p1.length:Int) 0).bind λe=>(iter (zgq d a) (e,0)).bind λf=>match f with | .inl z=>zj1 b c z | .inr z=>some z))
def zhv  : Option (Bool):=
 some true
def zbp(a:Int)(b:Bool):Option (Int ⊕ (Unit ⊕ Bool)):=
 if b then(some (.inr (.inr false)))else(some (.inl (w64 (a+1))))
def zak(p0:LM)(p1:TS×(LP)×Int)(d:LP)(a:Int):Option (Int ⊕ (Unit ⊕ Bool)):=
 if decide (a<(p0.length:Int))then((idx p0 a).bind λc=>(zj2 p1.1 d 0 (w64 (a+1)) c).bind λb=>if !decide (b.2=0)then(zbp a true)else(zbp a (decide (b.1<p1.2.2))))else(some (.inr (.inl ())))
def zcO(p0:LM)(p1:TS×(LP)×Int)(a:LP):Option (Bool):=
 if !decide ((p0.length:Int)=(zDx (w64 ((a.length:Int) - 1)) 0))then(some false)else((iter (zak p0 p1 a) 0).bind λb=>match b with | .inl z=>zhv | .inr z=>some z)
def ziU  : Option (Bool):=
 some true
def zap(a:Int)(b:Bool):Option (Int ⊕ (Unit ⊕ Bool)):=
 if b then(some (.inr (.inr false)))else(some (.inl (w64 (a+1))))
def zY(p0:LP)(p1:LI)(a:Int):Option (Int ⊕ (Unit ⊕ Bool)):=
 if decide (a<(p1.length:Int))then((idx p1 a).bind λb=>(zaJ b (p0.length:Int)).bind λc=>if !c then(zap a true)else(if decide (a>0)then((idx p1 (w64 (a - 1))).bind λd=>zap a (decide (b<=d)))else(zap a false)))else(some (.inr (.inl ())))
def zel(p0:LP)(p1:LI):Option (Bool):=
 (iter (zY p0 p1) 0).bind λa=>match a with | .inl z=>ziU | .inr z=>some z
def zmP(a:Int):Option (Int):=
 some a
def zdi(p0:LB)(a:Int×Int):Option ((Int×Int) ⊕ Int):=
 if decide (a.2<(p0.length:Int))then((idx p0 a.2).bind λb=>some (.inl (w64 (a.1+b.2.2),w64 (a.2+1))))else(some (.inr a.1))
def zil(p0:LB):Option (Int):=
 (iter (zdi p0) (0,0)).bind λa=>zmP a
def zhB  : Option (Int):=
 some (-1)
def zhA(p0:LI)(p1:Int)(a:Int):Option (Int ⊕ (Unit ⊕ Int)):=
 if decide (a<(p0.length:Int))then((idx p0 a).bind λb=>if decide (p1=b)then(some (.inr (.inr a)))else(some (.inl (w64 (a+1)))))else(some (.inr (.inl ())))
def zkk(p0:LI)(p1:Int):Option (Int):=
 (iter (zhA p0 p1) 0).bind λa=>match a with | .inl z=>zhB | .inr z=>some z
def zcA(p0:LI)(p1:Int):Option (Bool):=
 (zkk p0 p1).bind λa=>some (decide (a≥0))
def zeB(p0:Int×Int×Int)(p1:LI):Option (Bool):=
 (zcA p1 p0.1).bind λa=>(zcA p1 p0.2.1).bind λb=>some (a == b)
def zhs(p0:LB)(p1:LI):Option (Int):=
 (zc3 p0).bind λa=>(zbq a (λd=>zeB d p1)).bind λb=>(zil b).bind λc=>some c
def zky(p0:LG×LT)(p1:LP)(a:LI):Option (Int×Int):=
 (zaa p0 p1).bind λb=>if !b then(some (0,1))else((zel p1 a).bind λc=>if !c then(some (0,2))else((zaP p0 p1).bind λd=>(zhs d a).bind λe=>some (e,0)))
def zdp(p0:LI)(p1:TS×(LP)×Int)(b:LP):Option (Bool):=
 (zky p1.1 b p0).bind λa=>if decide (a.2=0)then(if decide ((p0.length:Int)>0)then(if decide ((p0.length:Int)<(b.length:Int))then(some (decide (a.1<p1.2.2)))else(some false))else(some false))else(some false)
def zfo(p0:Sy)(p1:LP)(p:Prf):Option Bool:=
 if p.1=1 then zan p.2.1 p0 p1 else if p.1=2 then zbO p.2.1 p0 p1 else if p.1=3 then zcN p.2.1 p0 p1
 else if p.1=4 then zbQ (p.2.1,p.2.2.1) p0 p1 else if p.1=5 then zcO p.2.2.2.2 p0 p1 else zdp p.2.2.2.1 p0 p1
def zct(p0:Sy)(p1:LP)(a:Prf):Option Int:=
 (zim p0 p1).bind λc=>if(!decide (c=0))=true then some 1 else(zaA a.1 1 6).bind λw=>if(!w)=true then some 2 else
  (zfv a).bind λb=>if b=true then(zfo p0 p1 a).bind λr=>some (if r=true then 0 else 10)else some 10
def zfQ(p0:BS×(TS×(LP)×Int)×(LP)×(Int×LP×LP×LI×LM)):Option (Bool):=
 (zgW p0.1).bind λa=>if a then((zct p0.2.1 p0.2.2.1 p0.2.2.2).bind λb=>some (decide (b=0)))else(some false)
def strings_Join(p0:LW)(p1:BS):Option BS:=if p0.length<=140737488355328/\(Go.Lib.join p0 p1).length<=140737488355328 then some (Go.Lib.join p0 p1)else none
def ze3(p0:LW):Option (BS):=
 (strings_Join p0 ([32]:BS)).bind λa=>(zaI a ([10]:BS)).bind λb=>some b
def ziX(p0 p1:Int):Option BS:=if p1=10 then some (Go.Lib.itoa p0)else none
def zfw(p0:Int):Option (BS):=
 (ziX p0 10).bind λa=>some a
def zgT(p0:Int×Int):Option (BS):=
 (zdG p0).bind λe=>if !e then(some ([]:BS))else((zfw p0.1).bind λa=>(zaI a ([44]:BS)).bind λb=>(zfw p0.2).bind λc=>(zaI b c).bind λd=>some d)
def zls(a:LI):Option (BS):=
 some (zV a)
def zlr(a:Int×LI)(b:LI):Option ((Int×LI) ⊕ (LI)):=
 (app 1 b (zy ([10]:BS))).bind λc=>some (.inl (w64 (a.1+1),c))
def zfM(a:Int×LI)(b:LI):Option ((Int×LI) ⊕ (LI)):=
 some (.inl (w64 (a.1+1),b))
def zdD(p0:LG×LT)(b:BS×LI)(a:Int×LI):Option ((Int×LI) ⊕ (LI)):=
 if decide (a.1<(b.2.length:Int))then((idx b.2 a.1).bind λc=>if decide (c=0)then((app 1 a.2 (zy ([32,45]:BS))).bind λd=>zfM a d)else((idx p0.1 (w64 (c - 1))).bind λe=>(zaI ([32]:BS) e.1).bind λf=>(app 1 a.2 (zy f)).bind λg=>zfM a g))else(some (.inr a.2))
def zdE(p0:LG×LT)(a:Int×LI):Option ((Int×LI) ⊕ (LI)):=
 if decide (a.1<(p0.2.length:Int))then((idx p0.2 a.1).bind λb=>(zaI ([116,105,108,101,32]:BS) b.1).bind λc=>(app 1 a.2 (zy c)).bind λd=>(iter (zdD p0 b) (0,d)).bind λe=>zlr a e)else(some (.inr a.2))
def zlt(p0:LG×LT)(a:LI):Option (BS):=
 (iter (zdE p0) (0,a)).bind λb=>zls b
def zdF(p0:LG×LT)(a:Int×LI):Option ((Int×LI) ⊕ (LI)):=
 if decide (a.1<(p0.1.length:Int))then((idx p0.1 a.1).bind λb=>(zaI ([103,108,117,101,32]:BS) b.1).bind λc=>(zaI c ([32]:BS)).bind λd=>(zfw b.2).bind λe=>(zaI d e).bind λf=>(zaI f ([10]:BS)).bind λg=>(app 1 a.2 (zy g)).bind λh=>some (.inl (w64 (a.1+1),h)))else(some (.inr a.2))
def zl1(p0:LG×LT):Option (BS):=
 (iter (zdF p0) (0,[])).bind λa=>zlt p0 a
def ziC(a:LI):Option (BS):=
 some (zV a)
def zbB(p0:TS×(LP)×Int)(a:Int×LI):Option ((Int×LI) ⊕ (LI)):=
 if decide (a.1<(p0.2.1.length:Int))then((idx p0.2.1 a.1).bind λb=>(idx p0.1.2 b.2).bind λc=>(zgT b.1).bind λd=>(ze3 [([115,101,101,100]:BS),c.1,d]).bind λe=>(app 1 a.2 (zy e)).bind λf=>some (.inl (w64 (a.1+1),f)))else(some (.inr a.2))
def zik(p0:TS×(LP)×Int):Option (BS):=
 (zfw p0.2.2).bind λa=>(ze3 [([116,101,109,112,101,114,97,116,117,114,101]:BS),a]).bind λb=>(app 1 [] (zy b)).bind λc=>(zl1 p0.1).bind λd=>(app 1 c (zy d)).bind λe=>(iter (zbB p0) (0,e)).bind λf=>ziC f
def zjV(p0:Int):Option BS:=(zaA p0 1 6).bind λx=>if(!x)=true then some []else idx [[],[103,114,111,119,110],[116,101,114,109,105,110,97,108],[117,110,105,113,117,101],[99,111,110,102,108,105,99,116],[115,116,97,98,108,101],[108,111,111,115,101]] p0
def zhP(a:LW):Option (BS):=
 (ze3 a).bind λb=>some b
def zcF(p1:LI)(a:LW×Int):Option ((LW×Int) ⊕ (LW)):=
 if decide (a.2<(p1.length:Int))then((idx p1 a.2).bind λb=>(zfw b).bind λc=>(app 16 a.1 [c]).bind λd=>some (.inl (d,w64 (a.2+1))))else(some (.inr a.1))
def zbC(p0:BS)(p1:LI):Option (BS):=
 (iter (zcF p1) ([p0],0)).bind λa=>zhP a
def zjR(a:LI):Option (BS):=
 some (zV a)
def zcj(p0:Int×LP×LP×LI×LM)(a:Int×LI):Option ((Int×LI) ⊕ (LI)):=
 if decide (a.1<(p0.2.2.2.2.length:Int))then((idx p0.2.2.2.2 a.1).bind λb=>(zbC ([102,108,111,119]:BS) b).bind λc=>(app 1 a.2 (zy c)).bind λd=>some (.inl (w64 (a.1+1),d)))else(some (.inr a.2))
def zej(p0:Int×LP×LP×LI×LM)(a:LI):Option (BS):=
 (iter (zcj p0) (0,a)).bind λb=>zjR b
def zjS(p0:Int×LP×LP×LI×LM)(a:LI):Option (BS):=
 if decide ((p0.2.2.2.1.length:Int)>0)then((zbC ([112,97,114,116]:BS) p0.2.2.2.1).bind λb=>(app 1 a (zy b)).bind λc=>zej p0 c)else(zej p0 a)
def zck(p0:Int×LP×LP×LI×LM)(a:Int×LI):Option ((Int×LI) ⊕ (LI)):=
 if decide (a.1<(p0.2.2.1.length:Int))then((idx p0.2.2.1 a.1).bind λb=>(zbC ([111,116,104,101,114]:BS) [b.1.1,b.1.2,b.2]).bind λd=>(app 1 a.2 (zy d)).bind λc=>some (.inl (w64 (a.1+1),c)))else(some (.inr a.2))
def zjT(p0:Int×LP×LP×LI×LM)(a:LI):Option (BS):=
 (iter (zck p0) (0,a)).bind λb=>zjS p0 b
def zcl(p0:Int×LP×LP×LI×LM)(a:Int×LI):Option ((Int×LI) ⊕ (LI)):=
 if decide (a.1<(p0.2.1.length:Int))then((idx p0.2.1 a.1).bind λb=>(zbC ([112,117,116]:BS) [b.1.1,b.1.2,b.2]).bind λc=>(app 1 a.2 (zy c)).bind λd=>some (.inl (w64 (a.1+1),d)))else(some (.inr a.2))
def zjU(p0:Int×LP×LP×LI×LM):Option (BS):=
 (zjV p0.1).bind λa=>if decide (a=([]:BS))then(some ([]:BS))else((ze3 [([112,114,111,111,102]:BS),a]).bind λc=>(app 1 [] (zy c)).bind λd=>(iter (zcl p0) (0,d)).bind λb=>zjT p0 b)
def zjY(p0:BS×(TS×(LP)×Int)×(LP)×(Int×LP×LP×LI×LM))(b:LI):Option (BS):=
 (zjU p0.2.2.2).bind λc=>(app 1 b (zy c)).bind λa=>if decide ((a.length:Int)>20000)then(some ([]:BS))else(some (zV a))
def zcn(p0:BS×(TS×(LP)×Int)×(LP)×(Int×LP×LP×LI×LM))(a:Int×LI):Option ((Int×LI) ⊕ (LI)):=
 if decide (a.1<(p0.2.2.1.length:Int))then((idx p0.2.2.1 a.1).bind λb=>(idx p0.2.1.1.2 b.2).bind λf=>(zgT b.1).bind λc=>(ze3 [([97,116]:BS),f.1,c]).bind λd=>(app 1 a.2 (zy d)).bind λe=>some (.inl (w64 (a.1+1),e)))else(some (.inr a.2))
def zjZ(p0:BS×(TS×(LP)×Int)×(LP)×(Int×LP×LP×LI×LM)):Option (BS):=
 (zfQ p0).bind λa=>if !a then(some ([]:BS))else((ze3 [([101,110,116,114,121]:BS),p0.1]).bind λb=>(app 1 [] (zy b)).bind λc=>(zik p0.2.1).bind λd=>(app 1 c (zy d)).bind λe=>(ze3 [([101,110,100]:BS)]).bind λf=>(app 1 e (zy f)).bind λg=>(iter (zcn p0) (0,g)).bind λh=>zjY p0 h)
def zjm(p0:LI)(p1:Int):Option LI:=if 0<p1/\p1<=140737488355328 then some []else none
def zhI(a:LI):Option (LI):=
 some a
def zZ(p0:LM)(a:LI×Int):Option ((LI×Int) ⊕ (LI)):=
 if decide (a.2<(p0.length:Int))then((idx p0 a.2).bind λb=>(app 1 a.1 b).bind λc=>some (.inl (c,w64 (a.2+1))))else(some (.inr a.1))
def zhJ(p0:LM)(a:Int):Option (LI):=
 (zjm [] a).bind λb=>(iter (zZ p0) (b,0)).bind λc=>zhI c
def z1(p0:LM)(a:Int×Int):Option ((Int×Int) ⊕ Int):=
 if decide (a.2<(p0.length:Int))then((idx p0 a.2).bind λb=>if decide ((w64 (a.1+(b.length:Int)))<0)then none else(some (.inl (w64 (a.1+(b.length:Int)),w64 (a.2+1)))))else(some (.inr a.1))
def zhg(p0:LM):Option (LI):=
 (iter (z1 p0) (0,0)).bind λa=>zhJ p0 a
def zgP(p0:Int):Option (LI):=
 some [IntKind.wrap .u8 p0,IntKind.wrap .u8 (Int.fdiv p0 (2 ^ 8)),IntKind.wrap .u8 (Int.fdiv p0 (2 ^ 16)),IntKind.wrap .u8 (Int.fdiv p0 (2 ^ 24))]
def zmU(a:Int)(b:Int):Option (Int):=
 some (w64 ((w64 (b*65536))+a))
def zfx(p0:LI)(a:Int×Int×Int):Option ((Int×Int×Int) ⊕ (Int×Int)):=
 if decide (a.2.2<(p0.length:Int))then((idx p0 a.2.2).bind λb=>some (.inl (Int.tmod (w64 (a.1+(w64 b))) 65521,Int.tmod (w64 (a.2.1+(Int.tmod (w64 (a.1+(w64 b))) 65521))) 65521,w64 (a.2.2+1))))else(some (.inr (a.1,a.2.1)))
def zfS(p0:LI):Option (Int):=
 (iter (zfx p0) (1,0,0)).bind λa=>zmU a.1 a.2
def zo1(p0:BS):Option (LI):=
 (zgP (p0.length:Int)).bind λd=>(zfS (zy p0)).bind λa=>(zgP a).bind λb=>(zhg [d,zy p0,b]).bind λc=>some c
def zjX(p0:BS×(TS×(LP)×Int)×(LP)×(Int×LP×LP×LI×LM)):Option (LI×Int):=
 (zfQ p0).bind λb=>if !b then(some (([]:LI),10))else((zjZ p0).bind λa=>if decide (a=([]:BS))then(some (([]:LI),4))else((zo1 a).bind λc=>some (c,0)))
def zlq  : Option (Bool):=
 some true
def zfK(p0:LI)(p1:LI)(a:Int):Option (Int ⊕ (Unit ⊕ Bool)):=
 if decide (a<(p0.length:Int))then((idx p0 a).bind λb=>(idx p1 a).bind λc=>if !decide (b=c)then(some (.inr (.inr false)))else(some (.inl (w64 (a+1)))))else(some (.inr (.inl ())))
def zhn(p0:LI)(p1:LI):Option (Bool):=
 if !decide ((p0.length:Int)=(p1.length:Int))then(some false)else((iter (zfK p0 p1) 0).bind λa=>match a with | .inl z=>zlq | .inr z=>some z)
def zjC(p0:Int×Int)(p1:Int×Int):Option (Bool):=
 if !decide (p0.1=p1.1)then(some false)else(if !decide (p0.2=p1.2)then(some false)else(some true))
def znX(p0:(Int×Int)×Int)(p1:(Int×Int)×Int):Option (Bool):=
 (zjC p0.1 p1.1).bind λa=>if !a then(some false)else(if !decide (p0.2=p1.2)then(some false)else(some true))
def zjD  : Option (Bool):=
 some true
def zea(p0:LP)(p1:LP)(a:Int):Option (Int ⊕ (Unit ⊕ Bool)):=
 if decide (a<(p0.length:Int))then((idx p0 a).bind λb=>(idx p1 a).bind λc=>(znX b c).bind λd=>if !d then(some (.inr (.inr false)))else(some (.inl (w64 (a+1)))))else(some (.inr (.inl ())))
def zjE(p0:LP)(p1:LP):Option (Bool):=
 if !decide ((p0.length:Int)=(p1.length:Int))then(some false)else((iter (zea p0 p1) 0).bind λa=>match a with | .inl z=>zjD | .inr z=>some z)
def zij(p0:LP)(p1:LP):Option (Bool):=
 (zjE p0 p1).bind λa=>if !a then(some false)else(some true)
def zp3(p0:BS×Int)(p1:BS×Int):Option (Bool):=
 if !decide (p0.1=p1.1)then(some false)else(if !decide (p0.2=p1.2)then(some false)else(some true))
def zlo  : Option (Bool):=
 some true
def zfJ(p0:LG)(p1:LG)(a:Int):Option (Int ⊕ (Unit ⊕ Bool)):=
 if decide (a<(p0.length:Int))then((idx p0 a).bind λb=>(idx p1 a).bind λc=>(zp3 b c).bind λd=>if !d then(some (.inr (.inr false)))else(some (.inl (w64 (a+1)))))else(some (.inr (.inl ())))
def zlY(p0:LG)(p1:LG):Option (Bool):=
 if !decide ((p0.length:Int)=(p1.length:Int))then(some false)else((iter (zfJ p0 p1) 0).bind λa=>match a with | .inl z=>zlo | .inr z=>some z)
def zkr  : Option (Bool):=
 some true
def ze2(p0:LI)(p1:LI)(a:Int):Option (Int ⊕ (Unit ⊕ Bool)):=
 if decide (a<(p0.length:Int))then((idx p0 a).bind λb=>(idx p1 a).bind λc=>if !decide (b=c)then(some (.inr (.inr false)))else(some (.inl (w64 (a+1)))))else(some (.inr (.inl ())))
def zf4(p0:LI)(p1:LI):Option (Bool):=
 if !decide ((p0.length:Int)=(p1.length:Int))then(some false)else((iter (ze2 p0 p1) 0).bind λa=>match a with | .inl z=>zkr | .inr z=>some z)
def zp2(p0:BS×LI)(p1:BS×LI):Option (Bool):=
 if !decide (p0.1=p1.1)then(some false)else((zf4 p0.2 p1.2).bind λa=>if !a then(some false)else(some true))
def zln  : Option (Bool):=
 some true
def zfI(p0:LT)(p1:LT)(a:Int):Option (Int ⊕ (Unit ⊕ Bool)):=
 if decide (a<(p0.length:Int))then((idx p0 a).bind λb=>(idx p1 a).bind λc=>(zp2 b c).bind λd=>if !d then(some (.inr (.inr false)))else(some (.inl (w64 (a+1)))))else(some (.inr (.inl ())))
def zlX(p0:LT)(p1:LT):Option (Bool):=
 if !decide ((p0.length:Int)=(p1.length:Int))then(some false)else((iter (zfI p0 p1) 0).bind λa=>match a with | .inl z=>zln | .inr z=>some z)
def zmN(p0:LG×LT)(p1:LG×LT):Option (Bool):=
 (zlY p0.1 p1.1).bind λa=>if !a then(some false)else((zlX p0.2 p1.2).bind λb=>if !b then(some false)else(some true))
def znW(p0:TS×(LP)×Int)(p1:TS×(LP)×Int):Option (Bool):=
 (zmN p0.1 p1.1).bind λa=>if !a then(some false)else((zij p0.2.1 p1.2.1).bind λb=>if !b then(some false)else(if !decide (p0.2.2=p1.2.2)then(some false)else(some true)))
def znY(p0:(Int×Int)×Int)(p1:(Int×Int)×Int):Option (Bool):=
 (zjC p0.1 p1.1).bind λa=>if !a then(some false)else(if !decide (p0.2=p1.2)then(some false)else(some true))
def zjF  : Option (Bool):=
 some true
def zeb(p0:LP)(p1:LP)(a:Int):Option (Int ⊕ (Unit ⊕ Bool)):=
 if decide (a<(p0.length:Int))then((idx p0 a).bind λb=>(idx p1 a).bind λc=>(znY b c).bind λd=>if !d then(some (.inr (.inr false)))else(some (.inl (w64 (a+1)))))else(some (.inr (.inl ())))
def zgM(p0:LP)(p1:LP):Option (Bool):=
 if !decide ((p0.length:Int)=(p1.length:Int))then(some false)else((iter (zeb p0 p1) 0).bind λa=>match a with | .inl z=>zjF | .inr z=>some z)
def zjG  : Option (Bool):=
 some true
def zec(p0:LM)(p1:LM)(a:Int):Option (Int ⊕ (Unit ⊕ Bool)):=
 if decide (a<(p0.length:Int))then((idx p0 a).bind λb=>(idx p1 a).bind λc=>(zf4 b c).bind λd=>if !d then(some (.inr (.inr false)))else(some (.inl (w64 (a+1)))))else(some (.inr (.inl ())))
def zjH(p0:LM)(p1:LM):Option (Bool):=
 if !decide ((p0.length:Int)=(p1.length:Int))then(some false)else((iter (zec p0 p1) 0).bind λa=>match a with | .inl z=>zjG | .inr z=>some z)
def zoS(p0:Int×LP×LP×LI×LM)(p1:Int×LP×LP×LI×LM):Option (Bool):=
 if !decide (p0.1=p1.1)then(some false)else((zgM p0.2.1 p1.2.1).bind λa=>if !a then(some false)else((zgM p0.2.2.1 p1.2.2.1).bind λb=>if !b then(some false)else((zf4 p0.2.2.2.1 p1.2.2.2.1).bind λc=>if !c then(some false)else((zjH p0.2.2.2.2 p1.2.2.2.2).bind λd=>if !d then(some false)else(some true)))))
def zlZ(p0:BS×(TS×(LP)×Int)×(LP)×(Int×LP×LP×LI×LM))(p1:BS×(TS×(LP)×Int)×(LP)×(Int×LP×LP×LI×LM)):Option (Bool):=
 if !decide (p0.1=p1.1)then(some false)else((znW p0.2.1 p1.2.1).bind λa=>if !a then(some false)else((zij p0.2.2.1 p1.2.2.1).bind λb=>if !b then(some false)else((zoS p0.2.2.2 p1.2.2.2).bind λc=>if !c then(some false)else(some true))))
def zhL(a:LP)(b:Int):Option (Int×LP):=
 some (b,a)
def zcD  (a:LP×Int×Int):Option ((LP×Int×Int) ⊕ (LP×Int)):=
 if decide (a.2.2<(a.1.length:Int))then((idx a.1 a.2.2).bind λb=>(some (a.1.set a.2.2.toNat ((a.2.1,b.1.2),b.2))).bind λc=>(idx c a.2.2).bind λd=>(some (c.set a.2.2.toNat ((d.1.1,w64 (a.2.1+1)),d.2))).bind λe=>(idx e a.2.2).bind λf=>(some (e.set a.2.2.toNat (f.1,w64 ((w64 (a.2.1+1))+1)))).bind λg=>some (.inl (g,w64 ((w64 ((w64 (a.2.1+1))+1))+1),w64 (a.2.2+1))))else(some (.inr (a.1,a.2.1)))
def zhl(p0:LP)(p1:Int):Option (Int×LP):=
 (iter (zcD) (p0,p1,0)).bind λa=>zhL a.1 a.2
def zkp(b:BS):Option (BS):=
 (zaI ([109]:BS) b).bind λa=>some a
def zhk  (a:Int×BS):Option ((Int×BS) ⊕ (BS)):=
 if decide (a.1>0)then((zaI (zV [IntKind.wrap .u8 (w64 (48+(Int.tmod a.1 10)))]) a.2).bind λb=>some (.inl (w64 (Int.tdiv a.1 10),b)))else(some (.inr a.2))
def zkN(p0:Int):Option (BS):=
 if decide (p0<=0)then(some ([109,48]:BS))else((iter (zhk) (p0,([]:BS))).bind λa=>zkp a)
def zjy(a:LG)(b:Int):Option (Int×LG):=
 some (b,a)
def zd9  (a:LG×Int×Int):Option ((LG×Int×Int) ⊕ (LG×Int)):=
 if decide (a.2.2<(a.1.length:Int))then((zkN a.2.1).bind λc=>(idx a.1 a.2.2).bind λd=>(some (a.1.set a.2.2.toNat (c,d.2))).bind λb=>(idx b a.2.2).bind λe=>(some (b.set a.2.2.toNat (e.1,w64 (a.2.1+1)))).bind λf=>some (.inl (f,w64 ((w64 (a.2.1+1))+1),w64 (a.2.2+1))))else(some (.inr (a.1,a.2.1)))
def zjz(p0:LG)(p1:Int):Option (Int×LG):=
 (iter (zd9) (p0,p1,0)).bind λa=>zjy a.1 a.2
def ziB(a:LI)(b:Int):Option (Int×LI):=
 some (b,a)
def zdg  (a:LI×Int×Int):Option ((LI×Int×Int) ⊕ (LI×Int)):=
 if decide (a.2.2<(a.1.length:Int))then((idx a.1 a.2.2).bind λb=>(some (a.1.set a.2.2.toNat a.2.1)).bind λx23=>some (.inl (x23,w64 (a.2.1+1),w64 (a.2.2+1))))else(some (.inr (a.1,a.2.1)))
def zii(p0:LI)(p1:Int):Option (Int×LI):=
 (iter (zdg) (p0,p1,0)).bind λa=>ziB a.1 a.2
def zhM(a:LP)(b:Int):Option (Int×LP):=
 some (b,a)
def zcE  (a:LP×Int×Int):Option ((LP×Int×Int) ⊕ (LP×Int)):=
 if decide (a.2.2<(a.1.length:Int))then((idx a.1 a.2.2).bind λb=>(some (a.1.set a.2.2.toNat ((a.2.1,b.1.2),b.2))).bind λc=>(idx c a.2.2).bind λd=>(some (c.set a.2.2.toNat ((d.1.1,w64 (a.2.1+1)),d.2))).bind λe=>(idx e a.2.2).bind λf=>(some (e.set a.2.2.toNat (f.1,w64 ((w64 (a.2.1+1))+1)))).bind λg=>some (.inl (g,w64 ((w64 ((w64 (a.2.1+1))+1))+1),w64 (a.2.2+1))))else(some (.inr (a.1,a.2.1)))
def zhm(p0:LP)(p1:Int):Option (Int×LP):=
 (iter (zcE) (p0,p1,0)).bind λa=>zhM a.1 a.2
def zp1(_:BS×(TS×(LP)×Int)×(LP)×(Int×LP×LP×LI×LM))(_:Int):Option Int:=some 1
def zjA(a:LI)(b:Int):Option (Int×LI):=
 some (b,a)
def za5  (a:LI×Int×Int):Option ((LI×Int×Int) ⊕ (LI×Int)):=
 if decide (a.2.2<(a.1.length:Int))then((idx a.1 a.2.2).bind λb=>(some (a.1.set a.2.2.toNat (IntKind.wrap .u8 a.2.1))).bind λx23=>some (.inl (x23,w64 (a.2.1+1),w64 (a.2.2+1))))else(some (.inr (a.1,a.2.1)))
def zgK(p0:LI)(p1:Int):Option (Int×LI):=
 (iter (za5) (p0,p1,0)).bind λa=>zjA a.1 a.2
def zjB(a:Int):Option (Int):=
 some a
def zgm(p0:LI)(a:Int×Int):Option ((Int×Int) ⊕ (Int ⊕ Int)):=
 if decide (a.2<(p0.length:Int))then((idx p0 a.2).bind λb=>if !decide (b=(IntKind.wrap .u8 a.1))then(some (.inr (.inr (-1))))else(some (.inl (w64 (a.1+1),w64 (a.2+1)))))else(some (.inr (.inl a.1)))
def zgL(p0:LI)(p1:Int):Option (Int):=
 (iter (zgm p0) (p1,0)).bind λa=>match a with | .inl z=>zjB z | .inr z=>some z
def zcL(a:Int×LI)(c:Bool):Option (Bool):=
 if c then(some false)else((zgL a.2 1).bind λb=>if decide (b<0)then(some false)else(if !decide (b=a.1)then(some false)else(some true)))
def za6(p0:BS×(TS×(LP)×Int)×(LP)×(Int×LP×LP×LI×LM))(d:LI×Int)(e:LI×Int)(f:Bool):Option (Bool):=
 if f then(some false)else((zgK e.1 1).bind λa=>(zgL a.2 1).bind λb=>if decide (b<0)then(some false)else(if !decide (b=a.1)then(some false)else((zbN p0).bind λg=>(zjX g).bind λc=>(zhn c.1 d.1).bind λh=>if !h then(zcL a true)else(zcL a (!decide (c.2=d.2))))))
def zcM(p0:BS×(TS×(LP)×Int)×(LP)×(Int×LP×LP×LI×LM))(b:LI×Int)(c:(BS×(TS×(LP)×Int)×(LP)×(Int×LP×LP×LI×LM)))(a:LI×Int)(d:Bool):Option (Bool):=
 if d then(some false)else((zbN p0).bind λe=>(zlZ c e).bind λf=>if !f then(some false)else((zp1 c 1).bind λg=>if decide (g<0)then(za6 p0 b a true)else((zhn a.1 b.1).bind λh=>if !h then(za6 p0 b a true)else(za6 p0 b a (!decide (a.2=b.2))))))
def zhN(p0:BS×(TS×(LP)×Int)×(LP)×(Int×LP×LP×LI×LM)):Option (Bool):=
 (zjx p0 1048576).bind λe=>if decide (e<0)then(some true)else((zbN p0).bind λf=>(zlR f).bind λb=>(zbN p0).bind λc=>(zjX c).bind λa=>(zhn a.1 b.1).bind λd=>if !d then(zcM p0 b c a true)else(zcM p0 b c a (!decide (a.2=b.2))))
end
end Go.Lf
namespace Go.Lf
open Go Go.Proofs
def tPoint:Ty (Int×Int):=(tPair tI64 tI64)
instance:TyA tPoint:=inferInstanceAs (TyA (tPair tI64 tI64))
def tPlaced:Ty ((Int×Int)×Int):=(tPair tPoint tI64)
instance:TyA tPlaced:=inferInstanceAs (TyA (tPair tPoint tI64))
def tGlue:Ty (BS×Int):=(tPair tStr tI64)
instance:TyA tGlue:=inferInstanceAs (TyA (tPair tStr tI64))
def tTile:Ty (BS×LI):=(tPair tStr (tSl tI64))
instance:TyA tTile:=inferInstanceAs (TyA (tPair tStr (tSl tI64)))
def z6:Ty (Int×Int×Int):=(tPair tI64 (tPair tI64 tI64))
instance:TyA z6:=inferInstanceAs (TyA (tPair tI64 (tPair tI64 tI64)))
def zpb:Ty LI:=tSW tI64 2 44001
def zmi:Ty (BS×LI):=tPair tStr zpb
def SlW.slR{e:TypeId}{S:Nat}{κ:K}{a:OA}{c:Nat}{l:LM}(h:SlW zpb e S κ a c l):Sl (tSl tI64) κ a c l:=Sl.ty (t':=zpb) rfl (λ_ _ ⟨a,c,h1,h2⟩=>⟨a,c,h1,h2.sl⟩) h.1
def SlW.slT{e:TypeId}{S:Nat}{κ:K}{a:OA}{c:Nat}{l:LT}(h:SlW zmi e S κ a c l):Sl tTile κ a c l:=Sl.ty (t':=zmi) rfl (λ_ _ ⟨c1,c2,h1,h2,a,c,h3,h4⟩=>⟨c1,c2,h1,h2,a,c,h3,h4.sl⟩) h.1
def ztr:KeyOk Tryz.prog 104 kPt:=zBg (λem w x y=>kr) ⟨_,Tryz.underlying104,λa b k es j hb=>kr⟩
 (λw x y z t=>zxc (P:=Tryz.prog) (T:=104) kr 9998 .i64 .i64 x y z t w)
def Glob(κ:K):Prop:=Globp pow10s 1 κ
def Glob.step{M:List Nat}{κ κ':K}(s:Step M κ κ')(h:Glob κ):Glob κ':=Globp.step s h
end Go.Lf
namespace Go.Lf
open Go
abbrev PT:=(Int×Int)×Int
def zsw(a b:Int):zdH a b=some (if a<b then -1 else if b<a then 1 else 0):=by
 unfold zdH zh7;simp only[ic,decide_true,bb,az,if_false];by_cases h:a<b
 ·simp[h]
 ·by_cases h2:b<a
  ·simp[h,h2]
  ·simp[h,h2]
def zyY(u v:Int):zmZ [u,v]=some (if u=0 then v else u):=by
 unfold zmZ;have w1:w64 1=1:=by decide
 have w2:w64 2=2:=by decide
 by_cases hu:u=0
 ·have e0:zam [u,v] 0=some (.inl 1):=by unfold zam idx;simp[hu,w1]
  rw[zv e0];by_cases hv:v=0
  ·have e1:zam [u,v] 1=some (.inl 2):=by unfold zam idx;simp[hv,w2]
   have e2:zam [u,v] 2=some (.inr (.inl ())):=by unfold zam idx;simp
   rw[zv e1,zC e2];simp[zkS,hu,hv]
  ·have e1:zam [u,v] 1=some (.inr (.inr v)):=by unfold zam idx;simp[hv]
   rw[zC e1];simp[hu]
 ·have e0:zam [u,v] 0=some (.inr (.inr u)):=by unfold zam idx;simp[hu]
  rw[zC e0];simp[hu]
def zu0(x y:Int×Int):zal x y=some (zet x y):=by
 unfold zal;rw[zsw,zsw];simp only[ic,zyY];congr 1;unfold zet
 repeat' split
 all_goals first | rfl | omega
def zCD(x y:PT):ziK x y=some (zbk x y):=by
 unfold ziK;rw[zu0];rfl
def zu2(l:List PT)(h:l.length<=1048576):zeZ l=some l:=by
 unfold zeZ zcB app;simp;omega
end Go.Lf
namespace Go.Proofs
open Go.Shelf
def Tryz.sort208_ren:Go.Shelf.Ren:=⟨λ| 6=>275 | 15=>278 | 14=>277 | 28=>287 | 29=>204 | 20=>279 | 21=>280 | 22=>281 | 23=>282 | 24=>283 | 25=>284 | 26=>285 | 27=>286 | 46=>288 | 47=>289 | 48=>290 | 49=>291 | 50=>292 | 57=>293 | n=>n,λ| 22=>46 | 24=>106 | 25=>374 | 3=>3 | 39=>134 | 0=>0 | 53=>290 | 55=>270 | 4=>4 | 46=>378 | 45=>377 | 50=>321 | 5=>5 | 9=>9 | 66=>383 | 70=>387 | 76=>389 | 77=>390 | n=>n,λ| n=>n⟩
def Tryz.sort208:Go.Proofs.SlLaysF0.n6 Tryz.prog Tryz.sort208_ren:={
  mixed:=by kernel_rfl
  f6:=⟨Tryz.f275.name,by decide,Tryz.func275.trans (congrArg some (by kernel_rfl))⟩
  f14:=⟨Tryz.f277.name,by decide,Tryz.func277.trans (congrArg some (by kernel_rfl))⟩
  f15:=Tryz.func278.trans (congrArg some (by kernel_rfl))
  f20:=⟨Tryz.f279.name,by decide,Tryz.func279.trans (congrArg some (by kernel_rfl))⟩
  f21:=⟨Tryz.f280.name,by decide,Tryz.func280.trans (congrArg some (by kernel_rfl))⟩
  f22:=⟨Tryz.f281.name,by decide,Tryz.func281.trans (congrArg some (by kernel_rfl))⟩
  f23:=⟨Tryz.f282.name,by decide,Tryz.func282.trans (congrArg some (by kernel_rfl))⟩
  f24:=⟨Tryz.f283.name,by decide,Tryz.func283.trans (congrArg some (by kernel_rfl))⟩
  f25:=⟨Tryz.f284.name,by decide,Tryz.func284.trans (congrArg some (by kernel_rfl))⟩
  f26:=⟨Tryz.f285.name,by decide,Tryz.func285.trans (congrArg some (by kernel_rfl))⟩
  f27:=⟨Tryz.f286.name,by decide,Tryz.func286.trans (congrArg some (by kernel_rfl))⟩
  f28:=Tryz.func287.trans (congrArg some (by kernel_rfl))
  f29:=Tryz.func204.trans (congrArg some (by kernel_rfl))
  f46:=⟨Tryz.f288.name,by decide,Tryz.func288.trans (congrArg some (by kernel_rfl))⟩
  f47:=Tryz.func289.trans (congrArg some (by kernel_rfl))
  f48:=Tryz.func290.trans (congrArg some (by kernel_rfl))
  f49:=⟨Tryz.f291.name,by decide,Tryz.func291.trans (congrArg some (by kernel_rfl))⟩
  f50:=⟨Tryz.f292.name,by decide,Tryz.func292.trans (congrArg some (by kernel_rfl))⟩
  f57:=⟨Tryz.f293.name,by decide,Tryz.func293.trans (congrArg some (by kernel_rfl))⟩
  t0:=Tryz.underlying0
  a0:=Tryz.isAgg0
  z0:=Tryz.sizeOf0
  v0:=Tryz.zeroValue0
  t3:=Tryz.underlying3
  a3:=Tryz.isAgg3
  z3:=Tryz.sizeOf3
  v3:=Tryz.zeroValue3
  t4:=Tryz.underlying4
  a4:=Tryz.isAgg4
  z4:=Tryz.sizeOf4
  v4:=Tryz.zeroValue4
  t5:=Tryz.underlying5
  a5:=Tryz.isAgg5
  z5:=Tryz.sizeOf5
  v5:=Tryz.zeroValue5
  t9:=Tryz.underlying9
  a9:=Tryz.isAgg9
  z9:=Tryz.sizeOf9
  v9:=Tryz.zeroValue9
  t22:=Tryz.underlying46
  a22:=Tryz.isAgg46
  z22:=Tryz.sizeOf46
  v22:=Tryz.zeroValue46
  t25:=Tryz.underlying374
  a25:=Tryz.isAgg374
  z25:=Tryz.sizeOf374
  v25:=Tryz.zeroValue374
  t39:=Tryz.underlying134
  a39:=Tryz.isAgg134
  z39:=Tryz.sizeOf134
  v39:=Tryz.zeroValue134
  t45:=Tryz.underlying377
  a45:=Tryz.isAgg377
  z45:=Tryz.sizeOf377
  v45:=Tryz.zeroValue377
  t46:=Tryz.underlying378
  a46:=Tryz.isAgg378
  z46:=Tryz.sizeOf378
  v46:=Tryz.zeroValue378
  t50:=Tryz.underlying321
  a50:=Tryz.isAgg321
  z50:=Tryz.sizeOf321
  v50:=Tryz.zeroValue321
  t53:=Tryz.underlying290
  a53:=Tryz.isAgg290
  z53:=Tryz.sizeOf290
  v53:=Tryz.zeroValue290
  t55:=Tryz.underlying270
  a55:=Tryz.isAgg270
  z55:=Tryz.sizeOf270
  v55:=Tryz.zeroValue270
  t66:=Tryz.underlying383
  a66:=Tryz.isAgg383
  z66:=Tryz.sizeOf383
  v66:=Tryz.zeroValue383
  t70:=Tryz.underlying387
  a70:=Tryz.isAgg387
  z70:=Tryz.sizeOf387
  v70:=Tryz.zeroValue387
  t76:=Tryz.underlying389
  a76:=Tryz.isAgg389
  z76:=Tryz.sizeOf389
  v76:=Tryz.zeroValue389
  t77:=Tryz.underlying390
  a77:=Tryz.isAgg390
  z77:=Tryz.sizeOf390
  v77:=Tryz.zeroValue390}
def Tryz.sort248_ren:Go.Shelf.Ren:=⟨λ| 6=>314 | 15=>278 | 14=>320 | 28=>287 | 29=>204 | 20=>321 | 21=>322 | 22=>323 | 23=>324 | 24=>325 | 25=>326 | 26=>327 | 27=>328 | 46=>329 | 47=>289 | 48=>290 | 49=>330 | 50=>331 | 57=>332 | n=>n,λ| 22=>218 | 24=>104 | 25=>286 | 3=>3 | 39=>134 | 0=>0 | 53=>290 | 55=>270 | 4=>4 | 46=>378 | 45=>377 | 50=>321 | 5=>5 | 9=>9 | 66=>383 | 70=>387 | 76=>389 | 77=>390 | n=>n,λ| n=>n⟩
def Tryz.sort248:Go.Proofs.SlLaysF0.n6 Tryz.prog Tryz.sort248_ren:={
  mixed:=by kernel_rfl
  f6:=⟨Tryz.f314.name,by decide,Tryz.func314.trans (congrArg some (by kernel_rfl))⟩
  f14:=⟨Tryz.f320.name,by decide,Tryz.func320.trans (congrArg some (by kernel_rfl))⟩
  f15:=Tryz.func278.trans (congrArg some (by kernel_rfl))
  f20:=⟨Tryz.f321.name,by decide,Tryz.func321.trans (congrArg some (by kernel_rfl))⟩
  f21:=⟨Tryz.f322.name,by decide,Tryz.func322.trans (congrArg some (by kernel_rfl))⟩
  f22:=⟨Tryz.f323.name,by decide,Tryz.func323.trans (congrArg some (by kernel_rfl))⟩
  f23:=⟨Tryz.f324.name,by decide,Tryz.func324.trans (congrArg some (by kernel_rfl))⟩
  f24:=⟨Tryz.f325.name,by decide,Tryz.func325.trans (congrArg some (by kernel_rfl))⟩
  f25:=⟨Tryz.f326.name,by decide,Tryz.func326.trans (congrArg some (by kernel_rfl))⟩
  f26:=⟨Tryz.f327.name,by decide,Tryz.func327.trans (congrArg some (by kernel_rfl))⟩
  f27:=⟨Tryz.f328.name,by decide,Tryz.func328.trans (congrArg some (by kernel_rfl))⟩
  f28:=Tryz.func287.trans (congrArg some (by kernel_rfl))
  f29:=Tryz.func204.trans (congrArg some (by kernel_rfl))
  f46:=⟨Tryz.f329.name,by decide,Tryz.func329.trans (congrArg some (by kernel_rfl))⟩
  f47:=Tryz.func289.trans (congrArg some (by kernel_rfl))
  f48:=Tryz.func290.trans (congrArg some (by kernel_rfl))
  f49:=⟨Tryz.f330.name,by decide,Tryz.func330.trans (congrArg some (by kernel_rfl))⟩
  f50:=⟨Tryz.f331.name,by decide,Tryz.func331.trans (congrArg some (by kernel_rfl))⟩
  f57:=⟨Tryz.f332.name,by decide,Tryz.func332.trans (congrArg some (by kernel_rfl))⟩
  t0:=Tryz.underlying0
  a0:=Tryz.isAgg0
  z0:=Tryz.sizeOf0
  v0:=Tryz.zeroValue0
  t3:=Tryz.underlying3
  a3:=Tryz.isAgg3
  z3:=Tryz.sizeOf3
  v3:=Tryz.zeroValue3
  t4:=Tryz.underlying4
  a4:=Tryz.isAgg4
  z4:=Tryz.sizeOf4
  v4:=Tryz.zeroValue4
  t5:=Tryz.underlying5
  a5:=Tryz.isAgg5
  z5:=Tryz.sizeOf5
  v5:=Tryz.zeroValue5
  t9:=Tryz.underlying9
  a9:=Tryz.isAgg9
  z9:=Tryz.sizeOf9
  v9:=Tryz.zeroValue9
  t22:=Tryz.underlying218
  a22:=Tryz.isAgg218
  z22:=Tryz.sizeOf218
  v22:=Tryz.zeroValue218
  t25:=Tryz.underlying286
  a25:=Tryz.isAgg286
  z25:=Tryz.sizeOf286
  v25:=Tryz.zeroValue286
  t39:=Tryz.underlying134
  a39:=Tryz.isAgg134
  z39:=Tryz.sizeOf134
  v39:=Tryz.zeroValue134
  t45:=Tryz.underlying377
  a45:=Tryz.isAgg377
  z45:=Tryz.sizeOf377
  v45:=Tryz.zeroValue377
  t46:=Tryz.underlying378
  a46:=Tryz.isAgg378
  z46:=Tryz.sizeOf378
  v46:=Tryz.zeroValue378
  t50:=Tryz.underlying321
  a50:=Tryz.isAgg321
  z50:=Tryz.sizeOf321
  v50:=Tryz.zeroValue321
  t53:=Tryz.underlying290
  a53:=Tryz.isAgg290
  z53:=Tryz.sizeOf290
  v53:=Tryz.zeroValue290
  t55:=Tryz.underlying270
  a55:=Tryz.isAgg270
  z55:=Tryz.sizeOf270
  v55:=Tryz.zeroValue270
  t66:=Tryz.underlying383
  a66:=Tryz.isAgg383
  z66:=Tryz.sizeOf383
  v66:=Tryz.zeroValue383
  t70:=Tryz.underlying387
  a70:=Tryz.isAgg387
  z70:=Tryz.sizeOf387
  v70:=Tryz.zeroValue387
  t76:=Tryz.underlying389
  a76:=Tryz.isAgg389
  z76:=Tryz.sizeOf389
  v76:=Tryz.zeroValue389
  t77:=Tryz.underlying390
  a77:=Tryz.isAgg390
  z77:=Tryz.sizeOf390
  v77:=Tryz.zeroValue390}
def Tryz.lays212_ren:Go.Shelf.Ren:=⟨λ| 212=>240 | 263=>241 | 264=>242 | n=>n,λ| 46=>134 | 51=>290 | 146=>342 | 53=>270 | 148=>344 | n=>n,λ| n=>n⟩
def Tryz.lays212:Go.Proofs.Lays.n212 Tryz.prog Tryz.lays212_ren:={
  mixed:=by kernel_rfl
  f212:=Tryz.func240.trans (congrArg some (by kernel_rfl))
  f263:=Tryz.func241.trans (congrArg some (by kernel_rfl))
  f264:=Tryz.func242.trans (congrArg some (by kernel_rfl))
  t46:=Tryz.underlying134
  a46:=Tryz.isAgg134
  z46:=Tryz.sizeOf134
  v46:=Tryz.zeroValue134
  t51:=Tryz.underlying290
  a51:=Tryz.isAgg290
  z51:=Tryz.sizeOf290
  v51:=Tryz.zeroValue290
  t53:=Tryz.underlying270
  a53:=Tryz.isAgg270
  z53:=Tryz.sizeOf270
  v53:=Tryz.zeroValue270
  t146:=Tryz.underlying342
  a146:=Tryz.isAgg342
  z146:=Tryz.sizeOf342
  v146:=Tryz.zeroValue342
  t148:=Tryz.underlying344
  a148:=Tryz.isAgg344
  z148:=Tryz.sizeOf344
  v148:=Tryz.zeroValue344}
def Tryz.lays112_ren:Go.Shelf.Ren:=⟨λ| 112=>239 | n=>n,λ| 28=>328 | 3=>3 | 4=>4 | 0=>0 | n=>n,λ| n=>n⟩
def Tryz.lays112:Go.Proofs.Lays.n112 Tryz.prog Tryz.lays112_ren:={
  mixed:=by kernel_rfl
  f112:=Tryz.func239.trans (congrArg some (by kernel_rfl))
  t0:=Tryz.underlying0
  a0:=Tryz.isAgg0
  z0:=Tryz.sizeOf0
  v0:=Tryz.zeroValue0
  t3:=Tryz.underlying3
  a3:=Tryz.isAgg3
  z3:=Tryz.sizeOf3
  v3:=Tryz.zeroValue3
  t4:=Tryz.underlying4
  a4:=Tryz.isAgg4
  z4:=Tryz.sizeOf4
  v4:=Tryz.zeroValue4
  t28:=Tryz.underlying328
  a28:=Tryz.isAgg328
  z28:=Tryz.sizeOf328
  v28:=Tryz.zeroValue328}
def Tryz.laysM173_ren:Go.Shelf.Ren:=⟨λ| 173=>124 | 246=>158 | 283=>188 | 284=>189 | 285=>190 | 286=>191 | 129=>204 | 317=>203 | 318=>205 | 319=>206 | 320=>207 | 337=>221 | 338=>222 | n=>n,λ| 2=>2 | 3=>3 | 9=>9 | 4=>4 | 171=>269 | 0=>0 | 53=>270 | 37=>39 | 5=>5 | 173=>273 | 212=>289 | 51=>290 | 20=>20 | 213=>291 | 46=>134 | 232=>330 | 233=>331 | n=>n,λ| 17=>1 | 18=>2 | 19=>3 | n=>n⟩
def Tryz.laysM173:Go.Proofs.LaysM.n173 Tryz.prog Tryz.laysM173_ren:={
  mixed:=by kernel_rfl
  f129:=Tryz.func204.trans (congrArg some (by kernel_rfl))
  f173:=Tryz.func124.trans (congrArg some (by kernel_rfl))
  f246:=Tryz.func158.trans (congrArg some (by kernel_rfl))
  f283:=Tryz.func188.trans (congrArg some (by kernel_rfl))
  f284:=Tryz.func189.trans (congrArg some (by kernel_rfl))
  f285:=Tryz.func190.trans (congrArg some (by kernel_rfl))
  f286:=Tryz.func191.trans (congrArg some (by kernel_rfl))
  f317:=Tryz.func203.trans (congrArg some (by kernel_rfl))
  f318:=Tryz.func205.trans (congrArg some (by kernel_rfl))
  f319:=Tryz.func206.trans (congrArg some (by kernel_rfl))
  f320:=Tryz.func207.trans (congrArg some (by kernel_rfl))
  f337:=Tryz.func221.trans (congrArg some (by kernel_rfl))
  f338:=Tryz.func222.trans (congrArg some (by kernel_rfl))
  t0:=Tryz.underlying0
  a0:=Tryz.isAgg0
  z0:=Tryz.sizeOf0
  v0:=Tryz.zeroValue0
  t2:=Tryz.underlying2
  a2:=Tryz.isAgg2
  z2:=Tryz.sizeOf2
  v2:=Tryz.zeroValue2
  t3:=Tryz.underlying3
  a3:=Tryz.isAgg3
  z3:=Tryz.sizeOf3
  v3:=Tryz.zeroValue3
  t4:=Tryz.underlying4
  a4:=Tryz.isAgg4
  z4:=Tryz.sizeOf4
  v4:=Tryz.zeroValue4
  t5:=Tryz.underlying5
  a5:=Tryz.isAgg5
  z5:=Tryz.sizeOf5
  v5:=Tryz.zeroValue5
  t9:=Tryz.underlying9
  a9:=Tryz.isAgg9
  z9:=Tryz.sizeOf9
  v9:=Tryz.zeroValue9
  t20:=Tryz.underlying20
  a20:=Tryz.isAgg20
  z20:=Tryz.sizeOf20
  v20:=Tryz.zeroValue20
  t37:=Tryz.underlying39
  a37:=Tryz.isAgg39
  z37:=Tryz.sizeOf39
  v37:=Tryz.zeroValue39
  t46:=Tryz.underlying134
  a46:=Tryz.isAgg134
  z46:=Tryz.sizeOf134
  v46:=Tryz.zeroValue134
  t51:=Tryz.underlying290
  a51:=Tryz.isAgg290
  z51:=Tryz.sizeOf290
  v51:=Tryz.zeroValue290
  t53:=Tryz.underlying270
  a53:=Tryz.isAgg270
  z53:=Tryz.sizeOf270
  v53:=Tryz.zeroValue270
  t171:=Tryz.underlying269
  a171:=Tryz.isAgg269
  z171:=Tryz.sizeOf269
  v171:=Tryz.zeroValue269
  t173:=Tryz.underlying273
  a173:=Tryz.isAgg273
  z173:=Tryz.sizeOf273
  v173:=Tryz.zeroValue273
  t212:=Tryz.underlying289
  a212:=Tryz.isAgg289
  z212:=Tryz.sizeOf289
  v212:=Tryz.zeroValue289
  t213:=Tryz.underlying291
  a213:=Tryz.isAgg291
  z213:=Tryz.sizeOf291
  t232:=Tryz.underlying330
  a232:=Tryz.isAgg330
  z232:=Tryz.sizeOf330
  v232:=Tryz.zeroValue330
  t233:=Tryz.underlying331
  a233:=Tryz.isAgg331
  z233:=Tryz.sizeOf331
  v233:=Tryz.zeroValue331
  g17:=by kernel_rfl
  g18:=by kernel_rfl
  g19:=by kernel_rfl
  i0:=by kernel_rfl
  i2:=by kernel_rfl
  i3:=by kernel_rfl
  i4:=by kernel_rfl
  i5:=by kernel_rfl
  i9:=by kernel_rfl
  i20:=by kernel_rfl
  i37:=by kernel_rfl
  i46:=by kernel_rfl
  i51:=by kernel_rfl
  i53:=by kernel_rfl
  i171:=by kernel_rfl
  i173:=by kernel_rfl
  i212:=by kernel_rfl
  i232:=by kernel_rfl
  i233:=by kernel_rfl
  m17:=by kernel_rfl
  m18:=by kernel_rfl
  m19:=by kernel_rfl}
def Tryz.lays156_ren:Go.Shelf.Ren:=⟨λ| 156=>87 | 165=>123 | 166=>48 | 169=>54 | 240=>86 | 241=>157 | 276=>122 | 277=>187 | n=>n,λ| 31=>149 | 9=>9 | 3=>3 | 4=>4 | 0=>0 | 20=>20 | 72=>96 | 76=>99 | 70=>94 | 37=>39 | 75=>98 | 127=>155 | 164=>200 | 5=>5 | 80=>112 | n=>n,λ| n=>n⟩
def Tryz.lays156:Go.Proofs.Lays.n156 Tryz.prog Tryz.lays156_ren:={
  mixed:=by kernel_rfl
  f156:=Tryz.func87.trans (congrArg some (by kernel_rfl))
  f165:=Tryz.func123.trans (congrArg some (by kernel_rfl))
  f166:=Tryz.func48.trans (congrArg some (by kernel_rfl))
  f169:=Tryz.func54.trans (congrArg some (by kernel_rfl))
  f240:=Tryz.func86.trans (congrArg some (by kernel_rfl))
  f241:=Tryz.func157.trans (congrArg some (by kernel_rfl))
  f276:=Tryz.func122.trans (congrArg some (by kernel_rfl))
  f277:=Tryz.func187.trans (congrArg some (by kernel_rfl))
  t0:=Tryz.underlying0
  a0:=Tryz.isAgg0
  z0:=Tryz.sizeOf0
  v0:=Tryz.zeroValue0
  t3:=Tryz.underlying3
  a3:=Tryz.isAgg3
  z3:=Tryz.sizeOf3
  v3:=Tryz.zeroValue3
  t4:=Tryz.underlying4
  a4:=Tryz.isAgg4
  z4:=Tryz.sizeOf4
  v4:=Tryz.zeroValue4
  t9:=Tryz.underlying9
  a9:=Tryz.isAgg9
  z9:=Tryz.sizeOf9
  v9:=Tryz.zeroValue9
  t20:=Tryz.underlying20
  a20:=Tryz.isAgg20
  z20:=Tryz.sizeOf20
  v20:=Tryz.zeroValue20
  t31:=Tryz.underlying149
  a31:=Tryz.isAgg149
  z31:=Tryz.sizeOf149
  v31:=Tryz.zeroValue149
  t37:=Tryz.underlying39
  a37:=Tryz.isAgg39
  z37:=Tryz.sizeOf39
  v37:=Tryz.zeroValue39
  t70:=Tryz.underlying94
  a70:=Tryz.isAgg94
  z70:=Tryz.sizeOf94
  v70:=Tryz.zeroValue94
  t72:=Tryz.underlying96
  a72:=Tryz.isAgg96
  z72:=Tryz.sizeOf96
  v72:=Tryz.zeroValue96
  t75:=Tryz.underlying98
  a75:=Tryz.isAgg98
  z75:=Tryz.sizeOf98
  v75:=Tryz.zeroValue98
  t76:=Tryz.underlying99
  a76:=Tryz.isAgg99
  z76:=Tryz.sizeOf99
  v76:=Tryz.zeroValue99
  t127:=Tryz.underlying155
  a127:=Tryz.isAgg155
  z127:=Tryz.sizeOf155
  v127:=Tryz.zeroValue155
  t164:=Tryz.underlying200
  a164:=Tryz.isAgg200
  z164:=Tryz.sizeOf200
  v164:=Tryz.zeroValue200}
def Tryz.grow8_ren:Go.Shelf.Ren:=⟨λ| 4=>93 | n=>n,λ| 22=>39 | 25=>5 | 3=>3 | 4=>4 | 9=>9 | 20=>20 | 0=>0 | n=>n,λ| n=>n⟩
def Tryz.grow8:Go.Proofs.Lays8.n4 Tryz.prog Tryz.grow8_ren:={
  mixed:=by kernel_rfl
  f4:=⟨Tryz.f93.name,by decide,Tryz.func93.trans (congrArg some (by kernel_rfl))⟩
  t0:=Tryz.underlying0
  a0:=Tryz.isAgg0
  z0:=Tryz.sizeOf0
  v0:=Tryz.zeroValue0
  t3:=Tryz.underlying3
  a3:=Tryz.isAgg3
  z3:=Tryz.sizeOf3
  v3:=Tryz.zeroValue3
  t4:=Tryz.underlying4
  a4:=Tryz.isAgg4
  z4:=Tryz.sizeOf4
  v4:=Tryz.zeroValue4
  t9:=Tryz.underlying9
  a9:=Tryz.isAgg9
  z9:=Tryz.sizeOf9
  v9:=Tryz.zeroValue9
  t20:=Tryz.underlying20
  a20:=Tryz.isAgg20
  z20:=Tryz.sizeOf20
  v20:=Tryz.zeroValue20
  t22:=Tryz.underlying39
  a22:=Tryz.isAgg39
  z22:=Tryz.sizeOf39
  v22:=Tryz.zeroValue39}
end Go.Proofs
namespace Go.Lf
open Go Go.Proofs Go.Sort
def zCw(x:PT):List Value:=[.int .i64 x.1.1,.int .i64 x.1.2,.int .i64 x.2]
def zCv(x:Int×Int):List Value:=[.int .i64 x.1,.int .i64 x.2]
def zDA:EncOk tPlaced 3 zCw (λx=>(I64 x.1.1/\I64 x.1.2)/\I64 x.2) where
 size:=rfl
 pos:=by decide
 len:=λ_=>rfl
 one:=λx v hv=>by simp[zCw]at hv;rcases hv with rfl | rfl | rfl<;>rfl
 own:=λκ cs x=>by
  constructor
  ·rintro⟨_,_,rfl,⟨_,_,rfl,⟨rfl,h1⟩,⟨rfl,h2⟩⟩,⟨rfl,h3⟩⟩;exact⟨rfl,⟨h1,h2⟩,h3⟩
  ·rintro⟨rfl,⟨h1,h2⟩,h3⟩;exact⟨_,_,rfl,⟨_,_,rfl,⟨rfl,h1⟩,⟨rfl,h2⟩⟩,⟨rfl,h3⟩⟩
def zDz:EncOk tPoint 2 zCv (λx=>I64 x.1/\I64 x.2) where
 size:=rfl
 pos:=by decide
 len:=λ_=>rfl
 one:=λx v hv=>by simp[zCv]at hv;rcases hv with rfl | rfl<;>rfl
 own:=λκ cs x=>by
  constructor
  ·rintro⟨_,_,rfl,⟨rfl,h1⟩,⟨rfl,h2⟩⟩;exact⟨rfl,h1,h2⟩
  ·rintro⟨rfl,h1,h2⟩;exact⟨_,_,rfl,⟨rfl,h1⟩,⟨rfl,h2⟩⟩
def ltP(a b:PT):ltOf zbk a b=decide (a.1.2<b.1.2\/(a.1.2=b.1.2/\a.1.1<b.1.1)):=by
 unfold ltOf zbk;congr 1;apply propext
 repeat' split
 all_goals (constructor<;>intro h<;>omega)
def ltQ(a b:Int×Int):ltOf zet a b=decide (a.2<b.2\/(a.2=b.2/\a.1<b.1)):=by
 unfold ltOf zet;congr 1;apply propext
 repeat' split
 all_goals (constructor<;>intro h<;>omega)
def zBU:SWO (ltOf zbk) where
 irrefl x:=by rw[ltP];simp
 trans x y z h1 h2:=by rw[ltP]at *;simp only[decide_eq_true_eq]at *;omega
 ntrans x y z h1 h2:=by rw[ltP]at *;simp only[decide_eq_false_iff_not]at *;omega
def zt9:SWO (ltOf zet) where
 irrefl x:=by rw[ltQ];simp
 trans x y z h1 h2:=by rw[ltQ]at *;simp only[decide_eq_true_eq]at *;omega
 ntrans x y z h1 h2:=by rw[ltQ]at *;simp only[decide_eq_false_iff_not]at *;omega
def zsY{κ:K}{p0:Int}{p1:Int}{r:Int×Int}(hr:zh3 p0 p1=some r):
  Fn Tryz.prog 240 #[.int .u64 p0,.int .u64 p1] κ (λv κ'=>κ=κ'/\v=.tuple #[.int .u64 r.1,.int .u64 r.2]):=by
 unfold zh3 at hr;split at hr
 ·rename_i h;obtain rfl:=Option.some.inj hr;obtain⟨x,rfl⟩:=bf h.1;obtain⟨y,rfl⟩:=bf h.2.2.1;refine Fn.same (λw=>Any.bits_Mul Tryz.lays212 x y om om w) ⟨rfl,?_⟩;simp
 ·cases hr
def zpn{κ:K}{p0:List Int}{a1:Option Addr}{c2:Nat}{τ0:Tag}(f3:Gr tI64 false τ0 κ 3 a1 c2 p0){r:(List Int)}(hr:ziA p0=some r):
  Fn Tryz.prog 239 #[.slice a1 p0.length c2] κ (λv κ'=>Step (blk a1 c2) κ κ'/\v=.tuple #[]/\Gr tI64 false τ0 κ' 3 a1 c2 r/\r.length=p0.length):=by
 have hr':p0.reverse=r:=Option.some.inj hr;subst hr';have hI:∀x∈p0.reverse,I64 x:=by
  intro x hx;rcases f3.body with⟨_,h1⟩ |⟨g,cur,xs,ha,hrp,_⟩
  ·subst h1;cases hx
  ·exact(zsV hrp).2 x (by simpa using hx)
 refine Fn.row_int f3 si hI (λw g ha hH=>?_) (λh0 w=>?_)
 ·subst ha;exact Any.slices_Reverse_int Tryz.lays112 g 0 c2 p0 w hH (zr3 f3.most)
 ·subst h0;exact Any.slices_Reverse_int_empty Tryz.lays112 a1 c2 w
def zAC(hc:∀(inst:Fb)(κ:K)(x y:PT),@Fn inst Tryz.prog 276 #[.agg (zCw x).toArray,.agg (zCw y).toArray] κ (λv κ'=>Step [] κ κ'/\v=.int .i64 (zbk x y))){κ:K}{τ:Tag}{a:Option Addr}{c:Nat}{l:List PT}(hg:Gr tPlaced false τ κ 106 a c l)(hlen:l.length<=1048576):
  Fn Tryz.prog 275 #[.slice a l.length c,.func (.func 276) #[] #[]] κ (λv κ'=>Step (blk a c) κ κ'/\v=.tuple #[]/\Gr tPlaced false τ κ' 106 a c (pdq (ltOf zbk) l.toArray 0 l.length (Lib.bitLen l.length) true true).toList):=
 zxa Tryz.sort208 zDA (λw=>zmb (P:=Tryz.prog) (T:=106) (by kernel_rfl) w) (λw=>za3 (P:=Tryz.prog) (T:=106) (by kernel_rfl) w) zBU (enters_of Tryz.func276 (by kernel_rfl) rfl) hc hg om
def zAB(hc:∀(inst:Fb)(κ:K)(x y:Int×Int),@Fn inst Tryz.prog 202 #[.agg (zCv x).toArray,.agg (zCv y).toArray] κ (λv κ'=>Step [] κ κ'/\v=.int .i64 (zet x y))){κ:K}{τ:Tag}{a:Option Addr}{c:Nat}{l:List (Int×Int)}(hg:Gr tPoint false τ κ 104 a c l)(hlen:l.length<=1048576):
  Fn Tryz.prog 314 #[.slice a l.length c,.func (.func 202) #[] #[]] κ (λv κ'=>Step (blk a c) κ κ'/\v=.tuple #[]/\Gr tPoint false τ κ' 104 a c (pdq (ltOf zet) l.toArray 0 l.length (Lib.bitLen l.length) true true).toList):=
 zxa Tryz.sort248 zDz (λw=>zmb (P:=Tryz.prog) (T:=104) (by kernel_rfl) w) (λw=>za3 (P:=Tryz.prog) (T:=104) (by kernel_rfl) w) zt9 (enters_of Tryz.func202 (by kernel_rfl) rfl) hc hg om
end Go.Lf
namespace Go.Lf
open Go Go.Proofs
def bX:Builder.Extra Tryz.prog Tryz.lays156_ren:={
 sizeBuilder:=by kernel_rfl
 liesBuilder:=by kernel_rfl
 t5:=by kernel_rfl
 a5:=λ_=>by kernel_rfl
 z5:=λ_=>by kernel_rfl
 v5:=λ_=>by kernel_rfl
 infoByte:=by kernel_rfl
 cellsByte:=by kernel_rfl
 sizeByte:=by kernel_rfl
 neB5:=by decide}
def hsz(H:Array Obj)(b:Nat):Nat:=match H[b]? with | some (.cells c _ _)=>c.size | _=>0
def Fn.belowT(τ:Tag){P:Program}{f:FuncId}{args:Array Value}{κ:K}{R:Value->K->Prop}(h:∀C d,Calls P f args (W C κ d) λe w'=>∃v,e=.returned v/\Go.RowKit.Below κ.H.size (W C κ d) w'/\∀κ',κ'.H=w'.heap->Step [] κ κ'->(∀b,κ.H.size<=b->κ'.fr b=hsz w'.heap b/\κ'.tag b=τ)->R v κ'):Fn P f args κ R:=by
 intro C d;refine(h C d).mono ?_;rintro e w' ⟨v,he,hb,hR⟩;refine⟨v,⟨w'.heap,λb=>if b<κ.H.size then κ.fr b else hsz w'.heap b,λb=>if b<κ.H.size then κ.tag b else τ⟩,w'.drawn,he,?_,hR _ rfl ?_ λb hb=>⟨if_neg om,if_neg om⟩⟩
 ·have h1:=hb.os;have h2:=hb.tape;have h3:=hb.output;cases w'
  simp only[W]at h1 h2 h3 ⊢;subst h1;subst h2;subst h3;have h0:C.base=0:=gj C.hb;rw[h0,ia]
 ·have hH:∀b,b<κ.H.size->w'.heap[b]?=κ.H[b]?:=λb hlt=>hb.block b hlt;refine⟨hb.size,λb hlt _=>⟨hH b hlt,if_pos hlt,if_pos hlt⟩,λb hlt=>⟨Nat.le_of_eq (if_pos hlt).symm,λo _=>?_⟩,λb hlt _=>⟨if_pos hlt,?_⟩⟩
  ·unfold K.cell;rw[hH b hlt]
  ·unfold K.shp;rw[hH b hlt]
def Fn.below{P:Program}{f:FuncId}{args:Array Value}{κ:K}{R:Value->K->Prop}(h:∀C d,Calls P f args (W C κ d) λe w'=>∃v,e=.returned v/\Go.RowKit.Below κ.H.size (W C κ d) w'/\∀κ',κ'.H=w'.heap->Step [] κ κ'->R v κ'):Fn P f args κ R:=
 Fn.belowT (0,0) λC d=>(h C d).mono λ_ _ ⟨v,h1,h2,h3⟩=>⟨v,h1,h2,λκ' a b _=>h3 κ' a b⟩
def Glob.tab {κ:K} (G:Glob κ) (C:Cx) (d:Nat):Lib.TabIs Tryz.prog (W C κ d) "internal/strconv.uint64pow10" .u64 Lib.pow10Tab:=by
 have hg:Tryz.prog.globalNamed "internal/strconv.uint64pow10" = some 1:=by kernel_rfl
 obtain⟨_,e,k,h4⟩:=G.psz;unfold Lib.TabIs World.var?;rw[hg];simp only[ic];unfold K.shp at h4;show(match κ.H[1]? with | some (.cells cs _ _)=>some cs | _=>none)=_;split at h4
 ·rename_i c T kk hH;rw[hH];injection h4 with h4
  injection h4 with _ h4
  injection h4 with h4 _
  show some c=_;congr 1;have hp:(Lib.pow10Tab.map λz=>Value.int .u64 z)=pow10s.map (Value.int .u64):=by rfl
  rw[hp];apply Array.ext_getElem?;intro i;by_cases hi:i<(pow10s.map (Value.int .u64)).length
  ·have:=G.pow.2.2 i _ (cz hi);unfold K.cell at this;rw[hH]at this;simp only[ia]at this;rw[this,List.getElem?_toArray,cz hi]
  ·rw[Array.getElem?_eq_none (by rw[h4];rw[ef]at hi;omega),Array.getElem?_eq_none (by rw[ga];omega)]
 ·cases h4
def zpy{κ:K}{p0:Int}{p1:Int}(hb1:I64 p0)(hb2:I64 p1)(G0:Glob κ){r:(List UInt8)}(hr:ziX p0 p1=some r):
  Fn Tryz.prog 124 #[.int .i64 p0,.int .i64 p1] κ (λv κ'=>Step [] κ κ'/\v=zr r/\r.length<=9223372036854775807):=by
 unfold ziX at hr;split at hr
 ·rename_i h;subst h;obtain rfl:=Option.some.inj hr;refine Fn.below λC d=>(Any.strconv_FormatInt_10 Tryz.laysM173 p0 hb1.1 hb1.2 (W C κ d) (G0.tab C d)).mono ?_;rintro e w' ⟨he,k,os,rfl⟩;refine⟨_,he,⟨rfl,rfl,rfl,by show κ.H.size<=(κ.H++os).size;rw[Array.size_append];omega,λb hb=>?_⟩,λκ' _ s=>⟨s,rfl,?_⟩⟩
  ·show(κ.H++os)[b]?=κ.H[b]?;rw[Array.getElem?_append_left hb]
  ·have:=Lib.itoa_length_le p0 hb1.1 hb1.2;omega
 ·cases hr
def ztx{κ:K}{p0:List (List UInt8)}{a1:Option Addr}{c2:Nat}{p1:List UInt8}(f3:Sl tStr κ a1 c2 p0)(hb4:p1.length<=9223372036854775807){r:(List UInt8)}(hr:strings_Join p0 p1=some r):
  Fn Tryz.prog 87 #[.slice a1 p0.length c2,zr p1] κ (λv κ'=>Step [] κ κ'/\v=zr r/\r.length<=9223372036854775807):=by
 unfold strings_Join at hr;split at hr
 ·rename_i h;obtain rfl:=Option.some.inj hr;by_cases h0:p0=[]
  ·subst h0;intro C d;refine(Any.strings_Join_none Tryz.lays156 bX a1 c2 ⟨p1.toArray⟩ (W C κ d)).mono λe w' ⟨he,hw⟩=>⟨_,κ,d,he,hw,Step.refl _ _,?_,by omega⟩;cases p1<;>rfl
  ·obtain⟨b,off,ha,hel⟩:=f3.elems (List.length_pos_iff.2 h0);subst ha;have hm:(p0.map λs=>(⟨s.toArray⟩:ByteArray)).map (·.data.toList)=p0:=by
    rw[List.map_map];conv=>rhs;rw[←List.map_id p0]
    rfl
   have hcell:∀C d,∀(j:Nat) x,(p0.map λs=>(⟨s.toArray⟩:ByteArray))[j]?=some x->(W C κ d).cell? ⟨b,off+j,none⟩=some (.string x):=by
    intro C d j x hj;rw[dh]at hj;obtain⟨s,hs,rfl⟩:=ig.1 hj;obtain⟨cs,hp,ho⟩:=hel j s hs;rw[zkz];obtain⟨rfl,_⟩:=ho;have:=hp.at.one (o:=0) rfl;rw[Nat.add_zero]at this;have e1:off+j*tStr.size=off+j:=by show off+j*1=off+j;omega
    rw[e1]at this;exact this
   have hbk:b<κ.H.size:=by
    obtain⟨cs,hp,_⟩:=hel 0 _ (cz (List.length_pos_iff.2 h0));exact hp.1
   refine Fn.below λC d=>?_;have:=Any.strings_Join Tryz.lays156 bX b off c2 (p0.map λs=>(⟨s.toArray⟩:ByteArray)) ⟨p1.toArray⟩ (W C κ d) (hcell C d) hbk (by rw[ef];exact h.1) (by rw[ef];exact f3.cap) (by rw[hm];exact h.2);rw[ef,hm]at this;refine this.mono ?_;rintro e w' ⟨he,hb⟩;refine⟨_,he,hb,λκ' _ s=>⟨s,rfl,by omega⟩⟩
 ·cases hr
section
variable {κ:K} {τ:Tag} {b:Nat} {l:List Int}
def zCG[Fb]{C:Cx}{κ:K}{d b:Nat}{p v x:Value}{T:TypeId}(h:κ.H[b]?=some (.cells #[p,v] T (0,0))):(W C κ d).setCell ⟨b,0,none⟩ x=W C (κ.setB b [x,v] T) d:=by
 unfold World.setCell W K.setB;simp only[];congr 1;apply Array.ext
 ·simp
 ·intro j h1 h2;have hj:j<κ.H.size:=by simpa using h1
  rw[Array.getElem_modify];by_cases hgj:b=j
  ·subst hgj;have:=(ai.1 h).2;simp[this]
  ·rw[if_neg hgj,Array.getElem_setIfInBounds_ne hj hgj]
def zAe{p v:Value}(B:Box τ κ b [p,v] 96)(hp:p=.pointer none\/p=.pointer (some ⟨b,0,none⟩)):
  Fn Tryz.prog 86 #[.pointer (some ⟨b,0,none⟩)] κ (λu κ'=>Step [b] κ κ'/\u=.tuple #[]/\Box τ κ' b [.pointer (some ⟨b,0,none⟩),v] 96):=by
 rcases hp with rfl | rfl
 ·intro C d;have h0:(W C κ d).cell? ⟨b,0,none⟩=some (.pointer none):=by rw[zkz];exact B.at.one (o:=0) rfl
  have hO:(W C κ d).heap[b]?=some (.cells #[.pointer none,v] 96 (0,0)):=B.obj;refine(Any.Builder_copyCheck_fresh {Tryz.lays156 with} bX.toX72 b (W C κ d) h0 (by simp[World.shape?,hO];rfl) (by simp[World.frozen?,hO])).mono λe w' ⟨he,hw⟩=>⟨.tuple #[],κ.setB b [.pointer (some ⟨b,0,none⟩),v] 96,d,he,hw.trans (zCG B.obj),zma B,rfl,zm1 B⟩
 ·intro C d;refine(Any.Builder_copyCheck_used {Tryz.lays156 with} bX.toX72 b (W C κ d) ?_).mono λe w' ⟨he,hw⟩=>⟨.tuple #[],κ,d,he,hw,Step.refl _ _,rfl,B⟩;have:=B.at.one (o:=0) rfl;rw[zkz];exact this
def zyH(D:Bld 96 5 τ κ b l):Fn Tryz.prog 53 #[.pointer (some ⟨b,0,none⟩)] κ (λv κ'=>κ=κ'/\v=.int .i64 (l.length:Int)):=by
 obtain⟨p,a,c,hp,B,g,hb,hz⟩:=D.ex;refine fnc 8 [] Tryz.func53 Tryz.ntmps53 λhs=>?_;refine csr ?_;refine op 2 (.int .i64 0) ?_;refine otx ?_;refine op 3 (.pointer (some ⟨b,0,none⟩)) ?_;refine op 4 (.pointer (some ⟨b,0,none⟩)) ?_;refine op 5 (.pointer (some ⟨b,1,none⟩)) ?_;refine o1 6 39 (.slice a l.length c) (B.at.one (o:=1) rfl) ?_;refine op 7 (.int .i64 (l.length:Int)) ?_;refine op 2 (.int .i64 (l.length:Int)) ?_;refine ot ?_;refine crt ?_;exact rt [.tmp 2] [.int .i64 (l.length:Int)] ⟨rfl,trivial⟩ ⟨rfl,rfl⟩
def zX{s:List UInt8}{r:List Int}(D:Bld 96 5 τ κ b l)(hx:app 1 l (zy s)=some r):
  Fn Tryz.prog 48 #[.pointer (some ⟨b,0,none⟩),zr s] κ (λv κ'=>Step (tk τ κ) κ κ'/\v=.tuple #[.int .i64 (s.length:Int),.nilIface]/\Bld 96 5 τ κ' b r):=by
 obtain⟨p,a,c,hp,B,g,hb,hz⟩:=D.ex;have hbt:b∈tk τ κ:=zjr.2 ⟨B.lt,B.tag,B.ge⟩;refine fnc 19 [] Tryz.func48 Tryz.ntmps48 λhs0=>?_;refine csr ?_;refine op 4 (.int .i64 0) ?_;refine op 5 .nilIface ?_;refine otx ?_;refine op 6 (.pointer (some ⟨b,0,none⟩)) ?_;refine ocl 7 (zAe B hp) ?_;rintro _ κ1 ⟨s1,rfl,B1⟩;have g1:=g.step s1 (λx hx1 hm=>hb (by rw[fq]at hm;rw[←hm];exact hx1));refine otx ?_;refine op 8 (.pointer (some ⟨b,0,none⟩)) ?_;refine op 9 (.pointer (some ⟨b,0,none⟩)) ?_;refine op 10 (.pointer (some ⟨b,0,none⟩)) ?_;refine op 11 (.pointer (some ⟨b,1,none⟩)) ?_;refine o1 12 39 (.slice a l.length c) (B1.at.one (o:=1) rfl) ?_;refine op 13 (zr s) ?_;refine zxo (d:=14) (T:=39) (T2:=9) (e:=5) (bytes:=1) (by kernel_rfl) (by kernel_rfl) g1 hz (Nat.le_of_lt B1.tlt) (by kernel_rfl) (by kernel_rfl) hx λa' c' κ2 s2 g2 hw hz2=>?_;have hb2:b∉blk a c:=hb;have B2:=B1.step s2 hb2;refine op 15 (.pointer (some ⟨b,0,none⟩)) ?_;refine op 16 (.pointer (some ⟨b,1,none⟩)) ?_;refine zav (b:=b) (off:=1) (T:=39) (.slice a' r.length c') [.slice a' r.length c'] [.pointer (some ⟨b,0,none⟩),.slice a' r.length c'] (by kernel_rfl) (by kernel_rfl) B2 rfl (by kernel_rfl) (by kernel_rfl) (by kernel_rfl) rfl λκ3 s3 _ B3=>?_;have hb':b∉blk a' c':=λh=>(hw b h).elim hb (λh'=>by have:=B1.lt;omega);have g3:=g2.step s3 (λx hx1 hm=>hb' (by rw[fq]at hm;rw[←hm];exact hx1));refine otx ?_;refine op 17 (zr s) ?_;refine op 18 (.int .i64 (s.length:Int)) ?_;refine op 4 (.int .i64 (s.length:Int)) ?_;refine op 5 .nilIface ?_;refine ot ?_;refine crt ?_;refine rt [.tmp 4,.tmp 5] [.int .i64 (s.length:Int),.nilIface] ⟨rfl,rfl,trivial⟩ ?_;refine⟨((s1.mono (λx hm=>by rw[fq.1 hm];exact hbt)).trans (s2.mono λx hm=>zjr.2 (g.lt x hm))).trans (s3.mono (λx hm=>by rw[fq.1 hm];exact hbt)),rfl,⟨_,a',c',.inr rfl,B3,g3,hb',hz2⟩⟩
def zu4:∀{l:List Int},(∀x∈l,0<=x/\x<=255)->zy (zV l)=l
 |[],_=>rfl
 | x::l,h=>by
  have h1:=h x si;have ih:=zu4 (l:=l) (λy hy=>h y (by simp[hy]));unfold zy zV at ih ⊢;rw[fd,fd,ih];congr 1;show((x.toNat.toUInt8).toNat:Int)=x;have h3:(x.toNat.toUInt8).toNat=x.toNat % 256:=UInt8.toNat_ofNat';rw[h3];omega
def zAQ{κ:K}:∀{l:List Int} {xs:List Value},Rep tU8 κ xs l->(∀x∈l,0<=x/\x<=255)/\xs=l.map (Value.int .u8)
 |[],xs,h=>⟨by simp,h⟩
 | x::l,xs,⟨c,ys,e,ho,hr⟩=>by
  obtain⟨h1,h2⟩:=zAQ hr;obtain⟨rfl,h3⟩:=ho;refine⟨λy hy=>?_,by rw[e,h2];rfl⟩;rcases fh.1 hy with rfl | hy
  ·exact h3
  ·exact h1 y hy
def zwe{P:Program}{x:Sem Next}{y:Sem Value}{w w':World}{v:Value}(h:x=vOf y)(hr:y.run P w=.ok v w'):x.run P w=.ok (.value v) w':=by rw[h];exact zH hr
def zkT(D:Bld 96 5 τ κ b l):Fn Tryz.prog 54 #[.pointer (some ⟨b,0,none⟩)] κ (λv κ'=>Step (tk τ κ) κ κ'/\v=zr (zV l)/\(zV l).length<=9223372036854775807):=by
 obtain⟨p,a,c,hp,B,g,hb,hz⟩:=D.ex;have hlen:(zV l).length=l.length:=by simp[zV]
 have hmx:(zV l).length<=9223372036854775807:=by rw[hlen];exact D.most
 refine fnc 14 [] Tryz.func54 Tryz.ntmps54 λhs=>?_;refine csr ?_;refine op 2 (zr []) ?_;refine ot ?_;refine cs ?_;refine cd 10 ?_;refine dp 3 (.pointer (some ⟨b,0,none⟩)) ?_;refine dp 4 (.pointer (some ⟨b,0,none⟩)) ?_;refine dp 5 (.pointer (some ⟨b,1,none⟩)) ?_;refine d1 6 39 (.slice a l.length c) (B.at.one (o:=1) rfl) ?_;obtain⟨q,hq,hqa⟩:∃q:Option Addr,q=a/\∀w,(Builtin.unsafeSliceData_ #[39] 155 #[.slice a l.length c]).run Tryz.prog w=.ok (.pointer q) w:=by
  refine⟨a,rfl,λw=>?_⟩;rcases hz with rfl | hc
  ·rfl
  ·cases a with
   | none=>rfl
   | some x=>exact Lib.run_unsafeSliceData_row w _ _ _ _ _ om
 refine dq 7 (.pointer q) (λw=>zwe (by kernel_rfl) (hqa w)) ?_;refine dp 8 (.pointer (some ⟨b,0,none⟩)) ?_;refine dp 9 (.pointer (some ⟨b,0,none⟩)) ?_;refine dp 10 (.pointer (some ⟨b,1,none⟩)) ?_;refine d1 11 39 (.slice a l.length c) (B.at.one (o:=1) rfl) ?_;refine dp 12 (.int .i64 (l.length:Int)) ?_;refine de ?_;refine zgj (λv κ'=>v=zr (zV l)/\Step (tk τ κ) κ κ') (d:=13) (by kernel_rfl) (λC d0=>?_) (λv κ' hv=>?_)
 ·subst hq;rcases g.body with⟨_,hl⟩ |⟨x,cur,xs,ha,hr,hH,h1,h2,h3,h4,h5,h6,h7⟩
  ·subst hl;exact⟨_,κ,d0,zwe (by kernel_rfl) (Lib.run_unsafeString_none (P:=Tryz.prog) (W C κ d0) 155 3 9 q),rfl,Step.refl _ _⟩
  ·by_cases hl:l=[]
   ·subst hl;exact⟨_,κ,d0,zwe (by kernel_rfl) (Lib.run_unsafeString_none (P:=Tryz.prog) (W C κ d0) 155 3 9 q),rfl,Step.refl _ _⟩
   ·obtain⟨hb8,hxs⟩:=zAQ hr;have hne:zV l≠[]:=by intro h;exact hl (bz (by rw[←hlen,h];rfl))
    have hl0:l.length≠0:=λh=>hl (bz h);have hx:x∈tk τ κ:=zjr.2 (g.lt x (by rw[ha];exact zlv (a:=⟨x,0,none⟩) (by have:=List.length_pos_iff.2 hl;omega)));refine⟨zr (zV l),κ.frz x l.length cur 5,d0,?_,rfl,(zAy hH (by rw[h5];rfl)).mono λy hy=>by rw[fq.1 hy];exact hx⟩;have hrun:=Lib.run_unsafeString_row (P:=Tryz.prog) (W C κ d0) 155 3 9 5 (by kernel_rfl) (by kernel_rfl) x cur.size (by
      have:(W C κ d0).heap[x]?=some (.cells cur 5 (0,0)):=hH;simp[World.shape?,this]) (zV l) hne (by rw[hlen,h3];show l.length<=c*1;omega) hmx (λj y hj=>by
      rw[zgZ,zkz];unfold K.cell;rw[hH];simp only[ia];have hback:=zu4 hb8;have hj2:l[j]?=some (y.toNat:Int):=by
       rw[←hback];unfold zy;rw[dh,hj];rfl
      have hjl:j<l.length:=(dg.1 hj2).1;have:xs[j]?=some (Value.int .u8 (y.toNat:Int)):=by rw[hxs,dh,hj2];rfl
      rw[←h4,dv,if_pos (by show j<l.length*1;omega)]at this;rw[←au];exact this)
    rw[hlen,zD1 hH hl0]at hrun;subst ha;exact zwe (by kernel_rfl) hrun
 ·obtain⟨rfl,s1⟩:=hv;refine op 2 (zr (zV l)) ?_;refine ot ?_;refine crt ?_;exact rt [.tmp 2] [zr (zV l)] ⟨rfl,trivial⟩ ⟨s1,rfl,hmx⟩
end
def zrO{κ:K}{p1:Int}(f3:Sl tU8 κ none 0 ([]:List Int))(hb4:I64 p1){r:List Int}(hr:zjm [] p1=some r):
  Fn Tryz.prog 93 #[.slice none ([]:List Int).length 0,.int .i64 p1] κ (λv κ'=>Step [] κ κ'/\∃(N:Nat)(a:Option Addr)(c:Nat),v=.slice a r.length c/\κ.H.size<=N/\Gr tU8 false (N,93001) κ' 5 a c r):=by
 unfold zjm at hr;split at hr
 ·rename_i h;obtain rfl:=Option.some.inj hr;obtain⟨n,rfl⟩:=bf (Int.le_of_lt h.1);intro C d;have hn:n<=140737488355328:=by omega
  obtain⟨i0,hi0,hz0,hs0,hb0⟩:∃i0,Tryz.prog.info? (Tryz.grow8_ren.t 25)=some i0/\i0.zero=some (.int .u8 0)/\i0.size=1/\i0.bytes=1:=by
   have hx:(Tryz.prog.info? (Tryz.grow8_ren.t 25)).map (λi=>(i.zero,i.size,i.bytes))=some (some (.int .u8 0),1,1):=by kernel_rfl
   obtain⟨i0,h1,h2⟩:=ig.1 hx;injection h2 with h2 h3
   injection h3 with h3 h4
   exact⟨i0,h1,h2,h3,h4⟩
  have hcall:=Any8.slices_Grow_grow Tryz.grow8 i0 (.int .u8 0) hi0 hz0 om none 0 0 n [] (W C κ d) (gl _) om (by rw[hb0];omega) om si (λ_=>rfl) (λ_ h=>by cases h);have hge:=grownCap_ge (W C κ d) (0+n) 0 5;have hle:=grownCap_le_maxLen (W C κ d) (0+n) 0 5 (by simp only[maxLen];omega);refine hcall.mono ?_;rintro e w' ⟨he,hw⟩;have e0:(5:Nat)=Tryz.grow8_ren.t 25:=by kernel_rfl
  rw[←e0]at he hw;generalize hcp:grownCap (W C κ d) (0+n) 0 5=cp at *;obtain⟨row,hrow⟩:∃row:Array Value,row=(([]:List Value).toArray++Builtin.zeroCells (Value.int .u8 0).cells (0+n - 0)++Builtin.zeroCells (Value.int .u8 0).cells (cp - (0+n))):=⟨_,rfl⟩;rw[←hrow]at hw;have hsz:row.size=cp:=by
   rw[hrow];simp only[Array.size_append,size_zeroCells,ga,eh];have:(Value.int .u8 0).cells.size=1:=rfl;rw[this];omega
  refine⟨_,⟨κ.H.push (.cells row 5 (0,0)),λb=>if b=κ.H.size then 0 else κ.fr b,λb=>if b=κ.H.size then(κ.H.size,93001)else κ.tag b⟩,d+1,he,hw,⟨?_,?_,?_,?_⟩,κ.H.size,some ⟨κ.H.size,0,none⟩,cp,rfl,gl _,⟨by simp,.inr ⟨κ.H.size,row,[],rfl,rfl,?_,Nat.zero_le _,hle,by rw[hsz];show cp=cp*1;omega,by simp,if_pos rfl,if_pos rfl,gl _⟩⟩⟩
  ·show κ.H.size<=(κ.H.push _).size;rw[Array.size_push];omega
  ·exact λb hb _=>⟨by show(κ.H.push _)[b]?=_;rw[Array.getElem?_push_lt hb,ac hb],if_neg (Nat.ne_of_lt hb),if_neg (Nat.ne_of_lt hb)⟩
  ·refine λb hb=>⟨Nat.le_of_eq (if_neg (Nat.ne_of_lt hb)).symm,λo _=>?_⟩;unfold K.cell;show(match(κ.H.push _)[b]? with | some (.cells c _ _)=>c[o]? | _=>none)=_;rw[Array.getElem?_push_lt hb,ac hb];rfl
  ·refine λb hb _=>⟨if_neg (Nat.ne_of_lt hb),?_⟩;unfold K.shp;show(match(κ.H.push _)[b]? with | some (.cells c T k)=>some (T,c.size,k) | _=>none)=_;rw[Array.getElem?_push_lt hb,ac hb];rfl
  ·show(κ.H.push _)[κ.H.size]?=_;rw[Array.getElem?_push_size]
 ·cases hr
abbrev fP [Fb]:=Fn Tryz.prog
theorem lB [Fc] [Fb] {P:Program} {n:Nat} {c:Code} {Q} {E:Env} {κ:K} {p:List Nat} {S X R:Type} {F:S->Option (S ⊕ X)} {k:X->Option R} {s0:S} {r:R} (J:S->Env->K->Prop) (h:zyp (sub c p)=true) (a:(iter F s0).bind k=some r) (h0:J s0 E κ) (round:∀s E κ,J s E κ->∀y,F s=some y->(∀x',some (Sum.inr x')=some y->k x'=some r)->cwp P n (sub c (0::p)) (zr6 y J Q) E κ):cwp P n (sub c p) Q E κ:=bE a λx q e=>zn F J s0 x h q h0 λs E κ j y g d=>round s E κ j y g λx' hx=>(d x' (sj hx).symm)▸e
abbrev PubAt.X:=@PubAt.step
abbrev At.X:=@At.step
abbrev At.Y:=@At.step0
abbrev Sl.X:=@Sl.step
abbrev Box.X:=@Box.step
abbrev Box.Y:=@Box.step0
abbrev Gr.X:=@Gr.step
abbrev Gr.Y:=@Gr.step0
abbrev Chn.X:=@Chn.step
abbrev Mp.X:=@Mp.step
abbrev Mp.Y:=@Mp.step0
abbrev Mat.X:=@Mat.step
abbrev Mat.Y:=@Mat.step0
abbrev Rec.X:=@Rec.step
abbrev Rec.Y:=@Rec.step0
abbrev Fst.X:=@Fst.step
abbrev Fst.Y:=@Fst.step0
abbrev Hm.X:=@Hm.step
abbrev It.X:=@It.step
abbrev Bld.X:=@Bld.step
abbrev Bld.Y:=@Bld.step0
abbrev Globp.X:=@Globp.step
abbrev SlW.X:=@SlW.step
abbrev Pr.Y:=@Pr.step0
abbrev Glob.X:=@Glob.step
end Go.Lf
