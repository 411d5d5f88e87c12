import Derived.Test.YtfdinifiacaicaaGreatB
import Derived.Lib.Bytealg
import Derived.Sort.Defs
import Derived.Lib.ParseIntB
import Derived.Lib.ItoaNum
import Derived.Lib.BitFns
import Derived.Test.YtfdinifiacaicaaGreatProg
import Derived.Shelf.Bits.Mul64
import Derived.Shelf.Slices.Reverse
import Derived.Shelf.SlSortCmp.WholeK
import Derived.Shelf.SlGeneric
import Derived.Ground.SlsfProg
set_option linter.all false
set_option maxRecDepth 100000
set_option maxHeartbeats 4000000
set_option maxHeartbeats 1000000
namespace Go.Lf
open Go
noncomputable section
def zks (p0:LP) (p1:Int):Option (Int):=
 if decide ((w64 (p1 - (p0.length:Int)))<0) then (some (-1)) else (some (w64 (p1 - (p0.length:Int))))
def zeH (p0:LP) (p1:Int):Option (Int):=
 (zks p0 p1).bind fun a=>if decide (a<0) then (some (-1)) else (some a)
def zk6 (p0:BS×Int) (p1:Int):Option (Int):=
 if decide ((w64 (p1 - (p0.1.length:Int)))<0) then (some (-1)) else (some (w64 (p1 - (p0.1.length:Int))))
def zjt (a:Int):Option (Int):=
 some a
def zgP (p0:LG) (a:Int×Int):Option ((Int×Int) ⊕ (Int ⊕ Int)):=
 if decide (a.2<(p0.length:Int)) then ((idx p0 a.2).bind fun c=>(zk6 c a.1).bind fun b=>if decide (b<0) then (some (.inr (.inr (-1)))) else (some (.inl (b,w64 (a.2+1))))) else (some (.inr (.inl a.1)))
def zmh (p0:LG) (p1:Int):Option (Int):=
 if decide ((w64 (p1 - (p0.length:Int)))<0) then (some (-1)) else ((iter (zgP p0) (w64 (p1 - (p0.length:Int)),0)).bind fun a=>match a with | .inl z=>zjt z | .inr z=>some z)
def zdE (p0:LI) (p1:Int):Option (Int):=
 if decide ((w64 (p1 - (p0.length:Int)))<0) then (some (-1)) else (some (w64 (p1 - (p0.length:Int))))
def zk4 (p0:BS×LI) (p1:Int):Option (Int):=
 if decide ((w64 (p1 - (p0.1.length:Int)))<0) then (some (-1)) else ((zdE p0.2 (w64 (p1 - (p0.1.length:Int)))).bind fun a=>if decide (a<0) then (some (-1)) else (some a))
def zjs (a:Int):Option (Int):=
 some a
def zgO (p0:LT) (a:Int×Int):Option ((Int×Int) ⊕ (Int ⊕ Int)):=
 if decide (a.2<(p0.length:Int)) then ((idx p0 a.2).bind fun c=>(zk4 c a.1).bind fun b=>if decide (b<0) then (some (.inr (.inr (-1)))) else (some (.inl (b,w64 (a.2+1))))) else (some (.inr (.inl a.1)))
def zmg (p0:LT) (p1:Int):Option (Int):=
 if decide ((w64 (p1 - (p0.length:Int)))<0) then (some (-1)) else ((iter (zgO p0) (w64 (p1 - (p0.length:Int)),0)).bind fun a=>match a with | .inl z=>zjs z | .inr z=>some z)
def zkr (p0:LG×LT) (p1:Int):Option (Int):=
 (zmh p0.1 p1).bind fun a=>if decide (a<0) then (some (-1)) else ((zmg p0.2 a).bind fun b=>if decide (b<0) then (some (-1)) else (some b))
def ziX (p0:TS×(LP)×Int) (p1:Int):Option (Int):=
 (zkr p0.1 p1).bind fun a=>if decide (a<0) then (some (-1)) else ((zeH p0.2.1 a).bind fun b=>if decide (b<0) then (some (-1)) else (some b))
def zhT (p0:LP) (p1:Int):Option (Int):=
 if decide ((w64 (p1 - (p0.length:Int)))<0) then (some (-1)) else (some (w64 (p1 - (p0.length:Int))))
def zhU (a:Int):Option (Int):=
 some a
def zfh (p0:LM) (a:Int×Int):Option ((Int×Int) ⊕ (Int ⊕ Int)):=
 if decide (a.2<(p0.length:Int)) then ((idx p0 a.2).bind fun c=>(zdE c a.1).bind fun b=>if decide (b<0) then (some (.inr (.inr (-1)))) else (some (.inl (b,w64 (a.2+1))))) else (some (.inr (.inl a.1)))
def zkt (p0:LM) (p1:Int):Option (Int):=
 if decide ((w64 (p1 - (p0.length:Int)))<0) then (some (-1)) else ((iter (zfh p0) (w64 (p1 - (p0.length:Int)),0)).bind fun a=>match a with | .inl z=>zhU z | .inr z=>some z)
def zjS (p0:Int×LP×LP×LI×LM) (p1:Int):Option (Int):=
 (zhT p0.2.1 p1).bind fun a=>if decide (a<0) then (some (-1)) else ((zhT p0.2.2.1 a).bind fun b=>if decide (b<0) then (some (-1)) else ((zdE p0.2.2.2.1 b).bind fun c=>if decide (c<0) then (some (-1)) else ((zkt p0.2.2.2.2 c).bind fun d=>if decide (d<0) then (some (-1)) else (some d))))
def zmi (p0:BS×(TS×(LP)×Int)×(LP)×(Int×LP×LP×LI×LM)) (p1:Int):Option (Int):=
 if decide ((w64 (p1 - (p0.1.length:Int)))<0) then (some (-1)) else ((ziX p0.2.1 (w64 (p1 - (p0.1.length:Int)))).bind fun a=>if decide (a<0) then (some (-1)) else ((zeH p0.2.2.1 a).bind fun b=>if decide (b<0) then (some (-1)) else ((zjS p0.2.2.2 b).bind fun c=>if decide (c<0) then (some (-1)) else (some c))))
def zfv (p0:Int):Option (Bool):=
 if decide (p0≥97) then (if decide (p0≤122) then (some true) else (if decide (p0≥65) then (some (decide (p0≤90))) else (some false))) else (if decide (p0≥65) then (some (decide (p0≤90))) else (some false))
def ziT (p0:Int):Option (Bool):=
 if decide (p0≥48) then (some (decide (p0≤57))) else (some false)
def zmY  : Option (Bool):=
 some true
def zdW (a:Int) (b:Bool):Option (Int ⊕ (Unit ⊕ Bool)):=
 if b then (some (.inr (.inr false))) else (some (.inl (w64 (a+1))))
def zbB (p0:BS) (a:Int):Option (Int ⊕ (Unit ⊕ Bool)):=
 if decide (a<(p0.length:Int)) then ((idx p0 a).bind fun e=>(zfv (e.toNat:Int)).bind fun f=>if !f then ((idx p0 a).bind fun b=>(ziT (b.toNat:Int)).bind fun c=>if !c then ((idx p0 a).bind fun d=>zdW a (!decide ((d.toNat:Int)=95))) else (zdW a false)) else (zdW a false)) else (some (.inr (.inl ())))
def zfx (p0:BS) (a:Bool):Option (Bool):=
 if a then (some false) else ((iter (zbB p0) 1).bind fun b=>match b with | .inl z=>zmY | .inr z=>some z)
def zfy (p0:BS):Option (Bool):=
 if decide ((p0.length:Int)<1) then (zfx p0 true) else (if decide ((p0.length:Int)>12) then (zfx p0 true) else ((idx p0 0).bind fun a=>(zfv (a.toNat:Int)).bind fun b=>zfx p0 (!b)))
def zat (p0:Int) (p1:Int) (a:Int):Option (Bool):=
 if decide (p0≥p1) then (some (decide (p0≤a))) else (some false)
def zeX (p0:Int×Int):Option (Bool):=
 (zat p0.1 (-60) 60).bind fun a=>if a then ((zat p0.2 (-60) 60).bind fun b=>some b) else (some false)
def zcE (p0:Int×Int) (p1:Int×Int):Option (Bool):=
 if decide (p0.2<p1.2) then (some true) else (if decide (p0.2=p1.2) then (some (decide (p0.1<p1.1))) else (some false))
def zjm  : Option (Bool):=
 some true
def zbZ (a:Int) (b:Bool):Option (Int ⊕ (Unit ⊕ Bool)):=
 if b then (some (.inr (.inr false))) else (some (.inl (w64 (a+1))))
def za5 (p0:LP) (a:Int):Option (Int ⊕ (Unit ⊕ Bool)):=
 if decide (a<(p0.length:Int)) then ((idx p0 a).bind fun b=>(zeX b.1).bind fun c=>if !c then (zbZ a true) else ((zat b.2 0 159).bind fun d=>if !d then (zbZ a true) else (if decide (a>0) then ((idx p0 (w64 (a - 1))).bind fun e=>(zcE e.1 b.1).bind fun f=>zbZ a (!f)) else (zbZ a false)))) else (some (.inr (.inl ())))
def zjN (p0:LP):Option (Bool):=
 if decide ((p0.length:Int)>500) then (some false) else ((iter (za5 p0) 0).bind fun a=>match a with | .inl z=>zjm | .inr z=>some z)
def zgz (p0:LG×LT) (p1:Int):Option (Bool):=
 (zat p1 0 (w64 ((p0.2.length:Int) - 1))).bind fun a=>some a
def zlj  : Option (Bool):=
 some true
def zcn (p0:LG×LT) (p1:LP) (a:Int):Option (Int ⊕ (Unit ⊕ Bool)):=
 if decide (a<(p1.length:Int)) then ((idx p1 a).bind fun b=>(zgz p0 b.2).bind fun c=>if !c then (some (.inr (.inr false))) else (some (.inl (w64 (a+1))))) else (some (.inr (.inl ())))
def zis (p0:LG×LT) (p1:LP):Option (Bool):=
 (zjN p1).bind fun a=>if !a then (some false) else ((iter (zcn p0 p1) 0).bind fun b=>match b with | .inl z=>zlj | .inr z=>some z)
def zjp  : Option (Int):=
 some 0
def zgK (p0:LG×LT) (p1:BS) (a:Int):Option (Int ⊕ (Unit ⊕ Int)):=
 if decide (a<(p0.1.length:Int)) then ((idx p0.1 a).bind fun b=>if decide (b.1=p1) then (some (.inr (.inr (w64 (a+1))))) else (some (.inl (w64 (a+1))))) else (some (.inr (.inl ())))
def zf1 (p0:LG×LT) (p1:BS):Option (Int):=
 (iter (zgK p0 p1) 0).bind fun a=>match a with | .inl z=>zjp | .inr z=>some z
def zjo  : Option (Int):=
 some (-1)
def zjn (p0:LG×LT) (p1:BS) (a:Int):Option (Int ⊕ (Unit ⊕ Int)):=
 if decide (a<(p0.2.length:Int)) then ((idx p0.2 a).bind fun b=>if decide (b.1=p1) then (some (.inr (.inr a))) else (some (.inl (w64 (a+1))))) else (some (.inr (.inl ())))
def zf0 (p0:LG×LT) (p1:BS):Option (Int):=
 (iter (zjn p0 p1) 0).bind fun a=>match a with | .inl z=>zjo | .inr z=>some z
def zll  : Option (Bool):=
 some true
def ziS (a:Int):Option (Int ⊕ (Unit ⊕ Bool)):=
 some (.inl (w64 (a+1)))
def zeU (p0:LG×LT) (b:BS×LI) (a:Int):Option (Int ⊕ (Unit ⊕ (Int ⊕ (Unit ⊕ Bool)))):=
 if decide (a<4) then ((idx b.2 a).bind fun c=>(zat c 0 (p0.1.length:Int)).bind fun d=>if !d then (some (.inr (.inr (.inr (.inr false))))) else (some (.inl (w64 (a+1))))) else (some (.inr (.inl ())))
def zeW (p0:LG×LT) (a:Int) (b:BS×LI) (c:Bool):Option (Int ⊕ (Unit ⊕ Bool)):=
 if c then (some (.inr (.inr false))) else ((iter (zeU p0 b) 0).bind fun d=>match d with | .inl z=>ziS a | .inr z=>some z)
def zco (p0:LG×LT) (a:Int):Option (Int ⊕ (Unit ⊕ Bool)):=
 if decide (a<(p0.2.length:Int)) then ((idx p0.2 a).bind fun b=>(zfy b.1).bind fun c=>if !c then (zeW p0 a b true) else (if !decide ((b.2.length:Int)=4) then (zeW p0 a b true) else ((zf0 p0 b.1).bind fun d=>zeW p0 a b (!decide (d=a))))) else (some (.inr (.inl ())))
def zlm (p0:LG×LT):Option (Bool):=
 (iter (zco p0) 0).bind fun a=>match a with | .inl z=>zll | .inr z=>some z
def zeV (a:Int) (b:Bool):Option (Int ⊕ (Unit ⊕ Bool)):=
 if b then (some (.inr (.inr false))) else (some (.inl (w64 (a+1))))
def zcp (p0:LG×LT) (a:Int):Option (Int ⊕ (Unit ⊕ Bool)):=
 if decide (a<(p0.1.length:Int)) then ((idx p0.1 a).bind fun b=>(zfy b.1).bind fun c=>if !c then (zeV a true) else ((zat b.2 1 4).bind fun d=>if !d then (zeV a true) else ((zf1 p0 b.1).bind fun e=>zeV a (!decide (e=(w64 (a+1))))))) else (some (.inr (.inl ())))
def zgy (p0:LG×LT) (b:Bool):Option (Bool):=
 if b then (some false) else ((iter (zcp p0) 0).bind fun a=>match a with | .inl z=>zlm p0 | .inr z=>some z)
def ziu (p0:LG×LT):Option (Bool):=
 if decide ((p0.1.length:Int)>200) then (zgy p0 true) else (if decide ((p0.2.length:Int)<1) then (zgy p0 true) else (zgy p0 (decide ((p0.2.length:Int)>160))))
def zdH (p0:Int):Option (Bool):=
 (zat p0 1 16).bind fun a=>some a
def zp5 (p0:Int):Option (Bool):=
 (zat p0 0 3).bind fun a=>some a
def zeY (p0:Int):Option (Int):=
 (zp5 p0).bind fun a=>if !a then (some (-1)) else (some (Int.tmod (w64 (p0+2)) 4))
def zap (p0:LG×LT) (p1:Int):Option (Int):=
 if decide (p1=0) then (some 0) else ((idx p0.1 (w64 (p1 - 1))).bind fun a=>some a.2)
def zdc (p0:LG×LT) (p1:Int) (b:Int) (h:Int):Option (Int):=
 (idx p0.2 p1).bind fun c=>(idx c.2 b).bind fun a=>(idx p0.2 h).bind fun d=>(zeY b).bind fun e=>(idx d.2 e).bind fun f=>if !decide (a=f) then (some 0) else ((zap p0 a).bind fun g=>some g)
def z8 (a:Int) (b:Int):Option ((Int×Int)):=
 some (a,b)
def z7 (p0:Int×Int) (p1:Int):Option ((Int×Int)):=
 if decide (p1=0) then (z8 p0.1 (w64 (p0.2+1))) else (if decide (p1=1) then (z8 (w64 (p0.1+1)) p0.2) else (if decide (p1=2) then (z8 p0.1 (w64 (p0.2 - 1))) else (if decide (p1=3) then (z8 (w64 (p0.1 - 1)) p0.2) else (z8 p0.1 p0.2))))
def zfZ (a:Int) (b:Bool):Option (Int):=
 if b then (some a) else (some (-1))
def zit (p0:LP) (p1:Int×Int) (a:Int):Option (Int):=
 if decide (a<(p0.length:Int)) then ((idx p0 a).bind fun b=>zfZ a (decide (b.1.1=p1.1)&&decide (b.1.2=p1.2))) else (zfZ a false)
def zdV (p0:LP) (p1:Int×Int) (a:Int×Int):Option ((Int×Int) ⊕ Int):=
 if decide (a.1<a.2) then ((idx p0 (w64 (Int.tdiv (w64 (a.1+a.2)) 2))).bind fun b=>(zcE b.1 p1).bind fun c=>if c then (some (.inl (w64 ((w64 (Int.tdiv (w64 (a.1+a.2)) 2))+1),a.2))) else (some (.inl (a.1,w64 (Int.tdiv (w64 (a.1+a.2)) 2))))) else (some (.inr a.1))
def zaN (p0:LP) (p1:Int×Int):Option (Int):=
 (iter (zdV p0 p1) (0,(p0.length:Int))).bind fun a=>zit p0 p1 a
def zfX (p0:LP) (p1:Int) (c:Int):Option (Int):=
 (idx p0 p1).bind fun d=>(z7 d.1 c).bind fun a=>(zaN p0 a).bind fun b=>some b
def ziq (a:LB):Option (LB):=
 some a
def zio (a:LB×Int) (b:LB):Option ((LB×Int) ⊕ (LB)):=
 some (.inl (b,w64 (a.2+1)))
def zcs (a:LB×Int) (b:LB):Option ((LB×Int) ⊕ (LB)):=
 some (.inl (b,w64 (a.2 - 1)))
def zbh (p0:LG×LT) (p1:LP) (b:LB×Int) (a:LB×Int):Option ((LB×Int) ⊕ (LB)):=
 if decide (a.2≥0) then ((zfX p1 b.2 a.2).bind fun c=>if decide (c<0) then (zcs a a.1) else ((idx p1 b.2).bind fun e=>(idx p1 c).bind fun f=>(zdc p0 e.2 a.2 f.2).bind fun d=>if decide (d>0) then ((app 24 a.1 [(b.2,(c,d))]).bind fun g=>zcs a g) else (zcs a a.1))) else (some (.inr a.1))
def zbi (p0:LG×LT) (p1:LP) (a:LB×Int):Option ((LB×Int) ⊕ (LB)):=
 if decide (a.2<(p1.length:Int)) then ((iter (zbh p0 p1 a) (a.1,1)).bind fun b=>zio a b) else (some (.inr a.1))
def zdB (p0:LG×LT) (p1:LP):Option (LB):=
 (iter (zbi p0 p1) ([],0)).bind fun a=>ziq a
def zdd (p0:Int) (p1:Int):Option (Int):=
 if decide (p0>p1) then (some p0) else (some p1)
def zfw (p0:Int) (p1:Int):Option (Int):=
 if decide (p0<p1) then (some p0) else (some p1)
def zhB (a:LM):Option (LM):=
 some a
def zda (a:LM×Int) (b:LM):Option ((LM×Int) ⊕ (LM)):=
 some (.inl (b,w64 (a.2+1)))
def zhA (a:LM×Int) (b:LI):Option ((LM×Int) ⊕ (LM)):=
 (app 24 a.1 [b]).bind fun c=>zda a c
def zfd (a:LI×Int) (b:LI):Option ((LI×Int) ⊕ (LI)):=
 some (.inl (b,w64 (a.2+1)))
def zc6 (p0:Int) (d:LI) (b:LM×Int) (a:LI×Int):Option ((LI×Int) ⊕ (LI)):=
 if decide (a.2<p0) then ((idx d a.2).bind fun e=>if decide (e=b.2) then ((app 8 a.1 [a.2]).bind fun c=>zfd a c) else (zfd a a.1)) else (some (.inr a.1))
def zc7 (p0:Int) (b:LI) (a:LM×Int):Option ((LM×Int) ⊕ (LM)):=
 if decide (a.2<p0) then ((idx b a.2).bind fun c=>if !decide (c=a.2) then (zda a a.1) else ((iter (zc6 p0 b a) ([],a.2)).bind fun d=>zhA a d)) else (some (.inr a.1))
def zhC (p0:Int) (a:LI):Option (LM):=
 (iter (zc7 p0 a) ([],0)).bind fun b=>zhB b
def zhz (a:LI×Int) (b:LI):Option ((LI×Int) ⊕ (LI)):=
 some (.inl (b,w64 (a.2+1)))
def zfc (a:LI×Int) (b:LI):Option ((LI×Int) ⊕ (LI)):=
 some (.inl (b,w64 (a.2+1)))
def zc5 (b:Int) (c:Int) (a:LI×Int):Option ((LI×Int) ⊕ (LI)):=
 if decide (a.2<(a.1.length:Int)) then ((idx a.1 a.2).bind fun d=>(zdd b c).bind fun e=>if decide (d=e) then ((zfw b c).bind fun f=>(idx a.1 a.2).bind fun h=>(some (a.1.set a.2.toNat f)).bind fun g=>zfc a g) else (zfc a a.1)) else (some (.inr a.1))
def zc8 (p1:LB) (a:LI×Int):Option ((LI×Int) ⊕ (LI)):=
 if decide (a.2<(p1.length:Int)) then ((idx p1 a.2).bind fun b=>(idx a.1 b.1).bind fun c=>(idx p1 a.2).bind fun _=>(idx a.1 b.2.1).bind fun d=>(iter (zc5 c d) (a.1,0)).bind fun e=>zhz a e) else (some (.inr a.1))
def zhD (p0:Int) (p1:LB) (b:LI):Option (LM):=
 (iter (zc8 p1) (b,0)).bind fun a=>zhC p0 a
def zc9 (p0:Int) (a:LI×Int):Option ((LI×Int) ⊕ (LI)):=
 if decide (a.2<p0) then ((app 8 a.1 [a.2]).bind fun b=>some (.inl (b,w64 (a.2+1)))) else (some (.inr a.1))
def zhE (p0:Int) (p1:LB):Option (LM):=
 (iter (zc9 p0) ([],0)).bind fun a=>zhD p0 p1 a
def zhu (a:LM) (b:LB):Option (Int×LB):=
 some ((a.length:Int),b)
def zfa (a:LB×Int) (b:LB):Option ((LB×Int) ⊕ (LB)):=
 some (.inl (b,w64 (a.2+1)))
def zc2 (p1:LB) (e:LI) (a:LB×Int):Option ((LB×Int) ⊕ (LB)):=
 if decide (a.2<(p1.length:Int)) then ((idx p1 a.2).bind fun b=>(idx e b.1).bind fun c=>(idx p1 a.2).bind fun _=>(idx e b.2.1).bind fun d=>if !decide (c=d) then ((idx p1 a.2).bind fun _=>(zfw c d).bind fun g=>(zdd c d).bind fun h=>(app 24 a.1 [(g,(h,b.2.2))]).bind fun f=>zfa a f) else (zfa a a.1)) else (some (.inr a.1))
def zhv (p1:LB) (a:LM) (b:LI):Option (Int×LB):=
 (iter (zc2 p1 b) ([],0)).bind fun c=>zhu a c
def zkS (a:LI×Int) (b:LI):Option ((LI×Int) ⊕ (LI)):=
 some (.inl (b,w64 (a.2+1)))
def zbM (e:LM) (b:LI×Int) (a:LI×Int):Option ((LI×Int) ⊕ (LI)):=
 (idx e b.2).bind fun c=>if decide (a.2<(c.length:Int)) then ((idx e b.2).bind fun _=>(idx c a.2).bind fun d=>(idx a.1 d).bind fun g=>(some (a.1.set d.toNat b.2)).bind fun f=>some (.inl (f,w64 (a.2+1)))) else (some (.inr a.1))
def ze8 (b:LM) (a:LI×Int):Option ((LI×Int) ⊕ (LI)):=
 if decide (a.2<(b.length:Int)) then ((iter (zbM b a) (a.1,0)).bind fun c=>zkS a c) else (some (.inr a.1))
def zhw (p0:Int) (p1:LB) (c:LB):Option (Int×LB):=
 (zhE p0 c).bind fun a=>(mkl 8 p0 0).bind fun d=>(iter (ze8 a) (d,0)).bind fun b=>zhv p1 a b
def ze9 (a:LB×Int) (b:LB):Option ((LB×Int) ⊕ (LB)):=
 some (.inl (b,w64 (a.2+1)))
def zc3 (p1:LB) (d:Int) (a:LB×Int):Option ((LB×Int) ⊕ (LB)):=
 if decide (a.2<(p1.length:Int)) then ((idx p1 a.2).bind fun b=>if decide (b.2.2≥d) then ((idx p1 a.2).bind fun _=>(app 24 a.1 [b]).bind fun c=>ze9 a c) else (ze9 a a.1)) else (some (.inr a.1))
def zhx (p0:Int) (p1:LB) (b:Int):Option (Int×LB):=
 (iter (zc3 p1 b) ([],0)).bind fun a=>zhw p0 p1 a
def zmS (p0:Int) (p1:LB) (a:LI) (b:LM):Option ((Int×LB×LM×LI)):=
 some (p0,(p1,(b,a)))
def zcC (p1:LB) (a:Int×LM):Option ((Int×LM) ⊕ (LM)):=
 if decide (a.1<(p1.length:Int)) then ((idx p1 a.1).bind fun b=>(idx p1 a.1).bind fun _=>(idx a.2 b.1).bind fun f=>(app 8 f [a.1]).bind fun g=>(some (a.2.set b.1.toNat g)).bind fun c=>(idx p1 a.1).bind fun _=>(idx p1 a.1).bind fun _=>(idx c b.2.1).bind fun h=>(app 8 h [a.1]).bind fun d=>(some (c.set b.2.1.toNat d)).bind fun e=>some (.inl (w64 (a.1+1),e))) else (some (.inr a.2))
def zkT (p0:Int) (p1:LB):Option ((Int×LB×LM×LI)):=
 (mkl 24 p0 ([]:LI)).bind fun a=>(mkl 8 (p1.length:Int) 0).bind fun b=>(iter (zcC p1) (0,a)).bind fun c=>zmS p0 p1 b c
def zdQ (p0:Int×LB×LM×LI) (p1:Int) (b:Int):Option (Int×Int×(Int×LB×LM×LI)):=
 (idx p0.2.1 b).bind fun a=>if decide (a.1=p1) then ((idx p0.2.2.2 b).bind fun c=>some (w64 (a.2.2 - c),a.2.1,p0)) else ((idx p0.2.2.2 b).bind fun d=>some (w64 (a.2.2+d),a.1,p0))
def zfr (p0:Int×LB×LM×LI) (a:LI) (b:LI):Option (LI×(Int×LB×LM×LI)):=
 some (a,(p0.1,(p0.2.1,(p0.2.2.1,b))))
def zi6 (a:LI×LI×Int×LI) (b:LI) (c:LI) (d:LI):Option ((LI×LI×Int×LI) ⊕ (LI×LI)):=
 some (.inl (b,c,w64 (a.2.2.1+1),d))
def zbA (a:LI×LI×Int×LI) (b:LI) (c:LI) (d:LI):Option ((LI×LI×Int×LI) ⊕ (LI×LI×LI)):=
 some (.inl (b,c,w64 (a.2.2.1+1),d))
def zaF (d:Int) (a:LI×LI×Int×LI) (b:Int×Int×Int) (c:Int×Int×Int) (e:Int×Int×(Int×LB×LM×LI)) (f:Bool):Option ((LI×LI×Int×LI) ⊕ (LI×LI×LI)):=
 if f then ((idx a.1 d).bind fun g=>(idx a.1 (w64 ((w64 (b.1+c.2.1)) - d))).bind fun j=>(some (a.1.set (w64 ((w64 (b.1+c.2.1)) - d)).toNat (w64 (g+1)))).bind fun h=>(app 8 a.2.1 [w64 ((w64 (b.1+c.2.1)) - d)]).bind fun i=>zbA a h i e.2.2.2.2.2) else (zbA a a.1 a.2.1 e.2.2.2.2.2)
def zbx (p0:Int×LB×LM×LI) (b:Int) (a:LI×LI×Int×LI):Option ((LI×LI×Int×LI) ⊕ (LI×LI×LI)):=
 (idx p0.2.2.1 b).bind fun g=>if decide (a.2.2.1<(g.length:Int)) then ((idx p0.2.2.1 b).bind fun _=>(idx g a.2.2.1).bind fun e=>(idx p0.2.1 e).bind fun c=>(idx p0.2.1 e).bind fun d=>(zdQ (p0.1,(p0.2.1,(p0.2.2.1,a.2.2.2))) (w64 ((w64 (c.1+d.2.1)) - b)) e).bind fun f=>(idx a.1 (w64 ((w64 (c.1+d.2.1)) - b))).bind fun h=>if decide (h<0) then (zaF b a c d f (decide (f.1>0))) else (zaF b a c d f false)) else (some (.inr (a.1,a.2.1,a.2.2.2)))
def zby (p0:Int×LB×LM×LI) (a:LI×LI×Int×LI):Option ((LI×LI×Int×LI) ⊕ (LI×LI)):=
 if decide (a.2.2.1<(a.2.1.length:Int)) then ((idx a.2.1 a.2.2.1).bind fun c=>(iter (zbx p0 c) (a.1,a.2.1,0,a.2.2.2)).bind fun b=>zi6 a b.1 b.2.1 b.2.2) else (some (.inr (a.1,a.2.2.2)))
def zfs (p0:Int×LB×LM×LI) (p1:Int) (a:LI):Option (LI×(Int×LB×LM×LI)):=
 (idx a p1).bind fun d=>(some (a.set p1.toNat 0)).bind fun c=>(iter (zby p0) (c,[p1],0,p0.2.2.2)).bind fun b=>zfr p0 b.1 b.2
def zbz (p0:Int×LB×LM×LI) (a:LI×Int):Option ((LI×Int) ⊕ (LI)):=
 if decide (a.2<p0.1) then ((app 8 a.1 [(-1)]).bind fun b=>some (.inl (b,w64 (a.2+1)))) else (some (.inr a.1))
def zc4 (p0:Int×LB×LM×LI) (p1:Int):Option (LI×(Int×LB×LM×LI)):=
 (iter (zbz p0) ([],0)).bind fun a=>zfs p0 p1 a
def zfW (p0:Int×LB×LM×LI) (p1:Int) (a:Int):Option ((Int×LB×LM×LI)):=
 (idx p0.2.1 a).bind fun b=>if decide (b.1=p1) then ((idx p0.2.2.2 a).bind fun c=>(idx p0.2.2.2 a).bind fun g=>(some (p0.2.2.2.set a.toNat (w64 (c+1)))).bind fun d=>some (p0.1,(p0.2.1,(p0.2.2.1,d)))) else ((idx p0.2.2.2 a).bind fun e=>(idx p0.2.2.2 a).bind fun h=>(some (p0.2.2.2.set a.toNat (w64 (e - 1)))).bind fun f=>some (p0.1,(p0.2.1,(p0.2.2.1,f))))
def zjz (p0:Int×LB×LM×LI) (a:LI):Option (Bool×(Int×LB×LM×LI)):=
 some (true,(p0.1,(p0.2.1,(p0.2.2.1,a))))
def zgh (p0:Int×LB×LM×LI) (a:Int×LI) (b:Int) (c:Int) (d:LI):Option ((Int×LI) ⊕ (LI)):=
 (zfW (p0.1,(p0.2.1,(p0.2.2.1,d))) a.1 c).bind fun e=>some (.inl (b,e.2.2.2))
def zb7 (a:Int×Int×Int×LI) (b:Int) (c:Int) (d:LI):Option ((Int×Int×Int×LI) ⊕ (Int×Int×LI)):=
 some (.inl (b,c,w64 (a.2.2.1+1),d))
def z6 (p0:Int×LB×LM×LI) (c:Int×LI) (a:Int×Int×Int×LI) (e:LI) (f:Int) (b:Int×Int×(Int×LB×LM×LI)) (d:Bool):Option ((Int×Int×Int×LI) ⊕ (Int×Int×LI)):=
 if d then ((idx p0.2.2.1 c.1).bind fun _=>(idx e a.2.2.1).bind fun _=>zb7 a b.2.1 f b.2.2.2.2.2) else (zb7 a a.1 a.2.1 b.2.2.2.2.2)
def zb5 (p0:Int×LB×LM×LI) (f:LI×(Int×LB×LM×LI)) (b:Int×LI) (a:Int×Int×Int×LI):Option ((Int×Int×Int×LI) ⊕ (Int×Int×LI)):=
 (idx p0.2.2.1 b.1).bind fun d=>if decide (a.2.2.1<(d.length:Int)) then ((idx p0.2.2.1 b.1).bind fun _=>(idx d a.2.2.1).bind fun e=>(zdQ (p0.1,(p0.2.1,(p0.2.2.1,a.2.2.2))) b.1 e).bind fun c=>if decide (c.1>0) then ((idx f.1 c.2.1).bind fun g=>(idx f.1 b.1).bind fun h=>if decide (g=(w64 (h - 1))) then (if decide (a.1<0) then (z6 p0 b a d e c true) else (z6 p0 b a d e c (decide (c.2.1<a.1)))) else (z6 p0 b a d e c false)) else (z6 p0 b a d e c false)) else (some (.inr (a.1,a.2.1,a.2.2.2)))
def zb6 (p0:Int×LB×LM×LI) (d:Int) (c:LI×(Int×LB×LM×LI)) (a:Int×LI):Option ((Int×LI) ⊕ (LI)):=
 if !decide (a.1=d) then ((iter (zb5 p0 c a) ((-1),0,0,a.2)).bind fun b=>zgh p0 a b.1 b.2.1 b.2.2) else (some (.inr a.2))
def zdR (p0:Int×LB×LM×LI) (p1:Int) (b:Int):Option (Bool×(Int×LB×LM×LI)):=
 (zc4 p0 b).bind fun a=>(idx a.1 p1).bind fun c=>if decide (c<0) then (some (false,(p0.1,(p0.2.1,(p0.2.2.1,a.2.2.2.2))))) else ((iter (zb6 p0 b a) (p1,a.2.2.2.2)).bind fun d=>zjz p0 d)
def zjk (a:(Int×LB×LM×LI)) (b:Int) (c:LI):Option ((Int×LB×LM×LI)×Int):=
 some ((a.1,(a.2.1,(a.2.2.1,c))),b)
def zeB (d:Int) (e:Int) (b:(Int×LB×LM×LI)) (a:Int×LI):Option ((Int×LI) ⊕ (Int×LI)):=
 (zdR (b.1,(b.2.1,(b.2.2.1,a.2))) d e).bind fun c=>if c.1 then (some (.inl (w64 (a.1+1),c.2.2.2.2))) else (some (.inr (a.1,c.2.2.2.2)))
def zjL (p0:Int) (p1:LB) (c:Int) (d:Int):Option ((Int×LB×LM×LI)×Int):=
 (zkT p0 p1).bind fun a=>(iter (zeB c d a) (0,a.2.2.2)).bind fun b=>zjk a b.1 b.2
def zgg (p0:Int×LB×LM×LI) (a:LI×(Int×LB×LM×LI)) (b:LI):Option (LI×(Int×LB×LM×LI)):=
 some (b,(p0.1,(p0.2.1,(p0.2.2.1,a.2.2.2.2))))
def zdJ (a:LI×Int) (b:LI):Option ((LI×Int) ⊕ (LI)):=
 some (.inl (b,w64 (a.2+1)))
def zdI (p0:Int×LB×LM×LI) (b:LI×(Int×LB×LM×LI)) (a:LI×Int):Option ((LI×Int) ⊕ (LI)):=
 if decide (a.2<p0.1) then ((idx b.1 a.2).bind fun c=>if decide (c≥0) then ((app 8 a.1 [a.2]).bind fun d=>zdJ a d) else (zdJ a a.1)) else (some (.inr a.1))
def zfV (p0:Int×LB×LM×LI) (p1:Int):Option (LI×(Int×LB×LM×LI)):=
 (zc4 p0 p1).bind fun a=>(iter (zdI p0 a) ([],0)).bind fun b=>zgg p0 a b
def zkU  : Option (Bool):=
 some false
def zfb (p1:LI) (b:LI) (a:Int):Option (Int ⊕ (Unit ⊕ Bool)):=
 if decide (a<(p1.length:Int)) then ((idx p1 a).bind fun c=>(idx b a).bind fun d=>if !decide (c=d) then ((idx p1 a).bind fun e=>(idx b a).bind fun f=>some (.inr (.inr (decide (e<f))))) else (some (.inl (w64 (a+1))))) else (some (.inr (.inl ())))
def zhy (p0:Int) (p1:LI) (b:Int) (a:LI):Option (Bool):=
 if !decide (p0=b) then (some (decide (p0<b))) else (if !decide ((p1.length:Int)=(a.length:Int)) then (some (decide ((p1.length:Int)<(a.length:Int)))) else ((iter (zfb p1 a) 0).bind fun c=>match c with | .inl z=>zkU | .inr z=>some z))
def zg2 (a:Int) (b:LI):Option (Int×LI):=
 some (a,b)
def zcB (a:Int×LI×Int) (b:Int) (c:LI):Option ((Int×LI×Int) ⊕ (Int×LI)):=
 some (.inl (b,c,w64 (a.2.2+1)))
def zaC (a:Int×LI×Int) (b:(Int×LB×LM×LI)×Int) (c:LI×(Int×LB×LM×LI)) (d:Bool):Option ((Int×LI×Int) ⊕ (Int×LI)):=
 if d then (zcB a b.2 c.1) else (zcB a a.1 a.2.1)
def zei (p0:Int) (p1:LB) (a:Int×LI×Int):Option ((Int×LI×Int) ⊕ (Int×LI)):=
 if decide (a.2.2<p0) then ((zjL p0 p1 0 a.2.2).bind fun b=>(zfV b.1 a.2.2).bind fun c=>if decide (a.1<0) then (zaC a b c true) else ((zhy b.2 c.1 a.1 a.2.1).bind fun d=>zaC a b c d)) else (some (.inr (a.1,a.2.1)))
def zgJ (p0:Int) (p1:LB):Option (Int×LI):=
 (iter (zei p0 p1) ((-1),[],1)).bind fun a=>zg2 a.1 a.2
def zht (p0:LG×LT) (p1:LP) (b:Int):Option (Bool×Int):=
 (zdB p0 p1).bind fun c=>(zhx (p1.length:Int) c b).bind fun a=>if decide (a.1>64) then (some (false,4)) else (if decide (a.1<2) then (some (true,0)) else ((zgJ a.1 a.2).bind fun d=>some (decide (d.1≥b),0)))
def zeR (p0:TS×(LP)×Int) (b:Bool):Option (Bool):=
 if b then (some false) else ((zht p0.1 p0.2.1 p0.2.2).bind fun a=>if a.1 then (some (decide (a.2=0))) else (some false))
def zeh (p0:TS×(LP)×Int):Option (Bool):=
 (ziu p0.1).bind fun a=>if !a then (zeR p0 true) else ((zis p0.1 p0.2.1).bind fun b=>if !b then (zeR p0 true) else (if decide ((p0.2.1.length:Int)=0) then (zeR p0 true) else ((zdH p0.2.2).bind fun x23=>zeR p0 (!x23))))
def zfU (a:Bool):Option (Int):=
 if a then (some 1) else (some 0)
def zlh (p0:TS×(LP)×Int) (p1:LP):Option (Int):=
 (zeh p0).bind fun a=>if !a then (zfU true) else ((zis p0.1 p1).bind fun b=>zfU (!b))
def zfp (p0:Int×LP×LP×LI×LM):Option (Bool):=
 if decide (p0.1≤4) then (if decide (p0.1=4) then (if decide (p0.1=6) then (if decide (p0.1=5) then (some true) else (some (decide ((p0.2.2.2.2.length:Int)=0)))) else (if decide ((p0.2.2.2.1.length:Int)=0) then (if decide (p0.1=5) then (some true) else (some (decide ((p0.2.2.2.2.length:Int)=0)))) else (some false))) else (if decide ((p0.2.2.1.length:Int)=0) then (if decide (p0.1=6) then (if decide (p0.1=5) then (some true) else (some (decide ((p0.2.2.2.2.length:Int)=0)))) else (if decide ((p0.2.2.2.1.length:Int)=0) then (if decide (p0.1=5) then (some true) else (some (decide ((p0.2.2.2.2.length:Int)=0)))) else (some false))) else (some false))) else (if decide ((p0.2.1.length:Int)=0) then (if decide (p0.1=4) then (if decide (p0.1=6) then (if decide (p0.1=5) then (some true) else (some (decide ((p0.2.2.2.2.length:Int)=0)))) else (if decide ((p0.2.2.2.1.length:Int)=0) then (if decide (p0.1=5) then (some true) else (some (decide ((p0.2.2.2.2.length:Int)=0)))) else (some false))) else (if decide ((p0.2.2.1.length:Int)=0) then (if decide (p0.1=6) then (if decide (p0.1=5) then (some true) else (some (decide ((p0.2.2.2.2.length:Int)=0)))) else (if decide ((p0.2.2.2.1.length:Int)=0) then (if decide (p0.1=5) then (some true) else (some (decide ((p0.2.2.2.2.length:Int)=0)))) else (some false))) else (some false))) else (some false))
def zdb (p0:LP):Option ((LP)):=
 (app 24 ([]:LP) p0).bind fun a=>some a
def zcD (p0:LP) (p1:Int×Int):Option (Int):=
 (zaN p0 p1).bind fun a=>if decide (a<0) then (some (-1)) else ((idx p0 a).bind fun b=>some b.2)
def zke (a:Int):Option (Int):=
 some a
def zek (a:Int×Int) (b:Int):Option ((Int×Int) ⊕ Int):=
 some (.inl (b,w64 (a.2+1)))
def zej (p0:LG×LT) (p1:LP) (e:Int×Int) (f:Int) (a:Int×Int):Option ((Int×Int) ⊕ Int):=
 if decide (a.2<4) then ((z7 e a.2).bind fun c=>(zcD p1 c).bind fun b=>if decide (b≥0) then ((zdc p0 f a.2 b).bind fun d=>zek a (w64 (a.1+d))) else (zek a a.1)) else (some (.inr a.1))
def zeC (p0:LG×LT) (p1:LP) (b:Int×Int) (c:Int):Option (Int):=
 (iter (zej p0 p1 b c) (0,0)).bind fun a=>zke a
def zkR (p0:TS×(LP)×Int) (p1:LP) (a:(Int×Int)×Int):Option (Bool):=
 (zeX a.1).bind fun b=>if b then ((zgz p0.1 a.2).bind fun x23=>if x23 then ((zaN p1 a.1).bind fun c=>if decide (c<0) then ((zeC p0.1 p1 a.1 a.2).bind fun d=>some (decide (d≥p0.2.2))) else (some false)) else (some false)) else (some false)
def zft (a:LP):Option ((LP)):=
 some a
def zfu (p1:Int×Int) (d:Int) (b:Bool) (a:LP):Option ((LP)):=
 if !b then ((app 24 a [(p1,d)]).bind fun c=>zft c) else (zft a)
def zdU (p0:LP) (a:Bool×Int×LP) (b:Bool) (c:LP):Option ((Bool×Int×LP) ⊕ (Bool×LP)):=
 (idx p0 a.2.1).bind fun d=>(app 24 c [d]).bind fun e=>some (.inl (b,w64 (a.2.1+1),e))
def zdT (p0:LP) (p1:Int×Int) (d:Int) (a:Bool×Int×LP) (b:Bool):Option ((Bool×Int×LP) ⊕ (Bool×LP)):=
 if b then ((app 24 a.2.2 [(p1,d)]).bind fun c=>zdU p0 a true c) else (zdU p0 a a.1 a.2.2)
def zaa (p0:LP) (p1:Int×Int) (c:Int) (a:Bool×Int×LP):Option ((Bool×Int×LP) ⊕ (Bool×LP)):=
 if decide (a.2.1<(p0.length:Int)) then (if !a.1 then ((idx p0 a.2.1).bind fun d=>(zcE p1 d.1).bind fun b=>zdT p0 p1 c a b) else (zdT p0 p1 c a false)) else (some (.inr (a.1,a.2.2)))
def zi7 (p0:LP) (p1:Int×Int) (b:Int):Option ((LP)):=
 (iter (zaa p0 p1 b) (false,0,[])).bind fun a=>zfu p1 b a.1 a.2
def zhs (p0:LP) (p1:(Int×Int)×Int):Option ((LP)×Int):=
 if decide ((p0.length:Int)≥500) then (some ([],4)) else ((zi7 p0 p1.1 p1.2).bind fun a=>some (a,0))
def zji (a:LP):Option ((LP)×Int×Int):=
 some (a,0,0)
def zaz (p0:TS×(LP)×Int) (p1:LP) (a:Int×LP):Option ((Int×LP) ⊕ ((LP) ⊕ ((LP)×Int×Int))):=
 if decide (a.1<(p1.length:Int)) then ((idx p1 a.1).bind fun c=>(zkR p0 a.2 c).bind fun d=>if !d then (some (.inr (.inr ([],a.1,5)))) else ((idx p1 a.1).bind fun _=>(zhs a.2 c).bind fun b=>if !decide (b.2=0) then (some (.inr (.inr ([],0,b.2)))) else (some (.inl (w64 (a.1+1),b.1))))) else (some (.inr (.inl a.2)))
def zfT (p0:TS×(LP)×Int) (p1:LP):Option ((LP)×Int×Int):=
 (zdb p0.2.1).bind fun a=>(iter (zaz p0 p1) (0,a)).bind fun b=>match b with | .inl z=>zji z | .inr z=>some z
def zde (p0:TS×(LP)×Int) (p1:LP):Option ((LP)×Int×Int):=
 (zeh p0).bind fun b=>if !b then (some ([],0,1)) else (if decide ((p1.length:Int)>500) then (some ([],0,2)) else ((zfT p0 p1).bind fun a=>some (a.1,a.2.1,a.2.2)))
def zjl  : Option (Bool):=
 some true
def zcX (p0:LP) (p1:LP) (a:Int):Option (Int ⊕ (Unit ⊕ Bool)):=
 if decide (a<(p0.length:Int)) then ((idx p0 a).bind fun b=>(idx p1 a).bind fun c=>if !((decide (b.1.1=c.1.1)&&decide (b.1.2=c.1.2))&&decide (b.2=c.2)) then (some (.inr (.inr false))) else (some (.inl (w64 (a+1))))) else (some (.inr (.inl ())))
def zhG (p0:LP) (p1:LP):Option (Bool):=
 if !decide ((p0.length:Int)=(p1.length:Int)) then (some false) else ((iter (zcX p0 p1) 0).bind fun a=>match a with | .inl z=>zjl | .inr z=>some z)
def zbo (p0:TS×(LP)×Int) (p1:LP) (c:LP):Option (Bool):=
 (zde p0 p1).bind fun a=>if decide (a.2.2=0) then ((zhG a.1 c).bind fun b=>some b) else (some false)
def zge (p1:Int×Int) (a:Int) (b:List (Int×Int)):Option ((List (Int×Int))):=
 (idx b a).bind fun d=>(some (b.set a.toNat p1)).bind fun c=>some c
def zb4 (b:Int) (a:(List (Int×Int))×Int):Option (((List (Int×Int))×Int) ⊕ ((List (Int×Int)))):=
 if decide (a.2>b) then ((idx a.1 (w64 (a.2 - 1))).bind fun c=>(idx a.1 a.2).bind fun e=>(some (a.1.set a.2.toNat c)).bind fun d=>some (.inl (d,w64 (a.2 - 1)))) else (some (.inr a.1))
def za0 (p0:List (Int×Int)) (p1:Int×Int) (a:Int) (b:Bool):Option ((List (Int×Int))):=
 if b then (some p0) else ((app 16 p0 [p1]).bind fun x23=>(iter (zb4 a) (x23,w64 ((x23.length:Int) - 1))).bind fun c=>zge p1 a c)
def zgf (p0:List (Int×Int)) (p1:Int×Int) (a:Int):Option ((List (Int×Int))):=
 if decide (a<(p0.length:Int)) then ((idx p0 a).bind fun b=>za0 p0 p1 a (decide (b.1=p1.1)&&decide (b.2=p1.2))) else (za0 p0 p1 a false)
def zaZ (a:Int) (b:Bool):Option (Int ⊕ Int):=
 if b then (some (.inl (w64 (a - 1)))) else (some (.inr a))
def zas (p0:List (Int×Int)) (p1:Int×Int) (a:Int):Option (Int ⊕ Int):=
 if decide (a>0) then ((idx p0 (w64 (a - 1))).bind fun b=>(zcE b p1).bind fun c=>zaZ a (!c)) else (zaZ a false)
def zfS (p0:List (Int×Int)) (p1:Int×Int):Option ((List (Int×Int))):=
 (iter (zas p0 p1) (p0.length:Int)).bind fun a=>zgf p0 p1 a
def zmA (a:List (Int×Int)):Option ((List (Int×Int))):=
 some a
def zjj (a:(List (Int×Int))×Int) (b:List (Int×Int)):Option (((List (Int×Int))×Int) ⊕ ((List (Int×Int)))):=
 some (.inl (b,w64 (a.2+1)))
def zeA (a:(List (Int×Int))×Int) (b:List (Int×Int)):Option (((List (Int×Int))×Int) ⊕ ((List (Int×Int)))):=
 some (.inl (b,w64 (a.2+1)))
def zez (a:(List (Int×Int))×Int) (b:(Int×Int)) (c:Bool):Option (((List (Int×Int))×Int) ⊕ ((List (Int×Int)))):=
 if c then ((zfS a.1 b).bind fun d=>zeA a d) else (zeA a a.1)
def zcV (p0:LP) (c:(List (Int×Int))×Int) (a:(List (Int×Int))×Int):Option (((List (Int×Int))×Int) ⊕ ((List (Int×Int)))):=
 if decide (a.2<4) then ((idx p0 c.2).bind fun d=>(z7 d.1 a.2).bind fun b=>(zeX b).bind fun e=>if e then ((zaN p0 b).bind fun f=>zez a b (decide (f<0))) else (zez a b false)) else (some (.inr a.1))
def zcW (p0:LP) (a:(List (Int×Int))×Int):Option (((List (Int×Int))×Int) ⊕ ((List (Int×Int)))):=
 if decide (a.2<(p0.length:Int)) then ((iter (zcV p0 a) (a.1,0)).bind fun b=>zjj a b) else (some (.inr a.1))
def zjK (p0:LP):Option ((List (Int×Int))):=
 (iter (zcW p0) ([],0)).bind fun a=>zmA a
def zlf (a:LI):Option (LI):=
 some a
def ziR (a:LI×Int) (b:LI):Option ((LI×Int) ⊕ (LI)):=
 some (.inl (b,w64 (a.2+1)))
def zle (d:Int) (a:LI×Int) (b:Int):Option ((LI×Int) ⊕ (LI)):=
 if decide (b≥d) then ((app 8 a.1 [a.2]).bind fun c=>ziR a c) else (ziR a a.1)
def ziQ (a:Int×Int) (b:Int):Option ((Int×Int) ⊕ Int):=
 some (.inl (b,w64 (a.2+1)))
def zgw (p0:LG×LT) (b:LI) (d:LI×Int) (a:Int×Int):Option ((Int×Int) ⊕ Int):=
 if decide (a.2<4) then ((idx p0.2 d.2).bind fun e=>(idx e.2 a.2).bind fun f=>(idx b a.2).bind fun c=>if decide (f=c) then ((idx b a.2).bind fun _=>(zap p0 c).bind fun g=>ziQ a (w64 (a.1+g))) else (ziQ a a.1)) else (some (.inr a.1))
def zgx (p0:LG×LT) (d:Int) (b:LI) (a:LI×Int):Option ((LI×Int) ⊕ (LI)):=
 if decide (a.2<(p0.2.length:Int)) then ((iter (zgw p0 b a) (0,0)).bind fun c=>zle d a c) else (some (.inr a.1))
def zlg (p0:LG×LT) (c:Int) (a:LI):Option (LI):=
 (iter (zgx p0 c a) ([],0)).bind fun b=>zlf b
def ziP (a:LI×Int) (b:LI):Option ((LI×Int) ⊕ (LI)):=
 some (.inl (b,w64 (a.2+1)))
def zeS (p0:LG×LT) (p1:LP) (i:Int×Int) (a:LI×Int):Option ((LI×Int) ⊕ (LI)):=
 if decide (a.2<4) then ((z7 i a.2).bind fun c=>(zcD p1 c).bind fun b=>if decide (b<0) then ((app 8 a.1 [0]).bind fun d=>ziP a d) else ((idx p0.2 b).bind fun e=>(zeY a.2).bind fun f=>(idx e.2 f).bind fun g=>(app 8 a.1 [g]).bind fun h=>ziP a h)) else (some (.inr a.1))
def zkc (p0:LG×LT) (p1:LP) (b:Int×Int) (c:Int):Option (LI):=
 (iter (zeS p0 p1 b) ([],0)).bind fun a=>zlg p0 c a
def zkb (a:LP):Option (LP):=
 some a
def zg1 (a:LP×Int) (b:LP):Option ((LP×Int) ⊕ (LP)):=
 some (.inl (b,w64 (a.2+1)))
def zbf (d:(List (Int×Int))) (c:LP×Int) (e:Int×Int) (b:LI) (a:LP×Int):Option ((LP×Int) ⊕ (LP)):=
 if decide (a.2<(b.length:Int)) then ((idx d c.2).bind fun _=>(idx b a.2).bind fun f=>(app 24 a.1 [(e,f)]).bind fun g=>some (.inl (g,w64 (a.2+1)))) else (some (.inr a.1))
def zbg (p0:TS×(LP)×Int) (p1:LP) (b:(List (Int×Int))) (a:LP×Int):Option ((LP×Int) ⊕ (LP)):=
 if decide (a.2<(b.length:Int)) then ((idx b a.2).bind fun c=>(zkc p0.1 p1 c p0.2.2).bind fun d=>(iter (zbf b a c d) (a.1,0)).bind fun e=>zg1 a e) else (some (.inr a.1))
def zcU (p0:TS×(LP)×Int) (p1:LP):Option (LP):=
 (zjK p1).bind fun a=>(iter (zbg p0 p1 a) ([],0)).bind fun b=>zkb b
def zkQ (a:LI) (b:LI):Option (LI×LI):=
 some (a,b)
def zhq (p0:TS×(LP)×Int) (a:LI×LI×Int×LP) (b:(Int×Int)×Int) (e:Int):Option ((LI×LI×Int×LP) ⊕ (LI×LI)):=
 (app 8 a.1 [e]).bind fun f=>(zeC p0.1 a.2.2.2 b.1 b.2).bind fun g=>(app 8 a.2.1 [g]).bind fun c=>(zi7 a.2.2.2 b.1 b.2).bind fun d=>some (.inl (f,c,w64 (a.2.2.1+1),d))
def ze7 (a:Int×Int) (b:Int):Option ((Int×Int) ⊕ Int):=
 some (.inl (b,w64 (a.2+1)))
def ze6 (a:Int×Int) (b:Bool):Option ((Int×Int) ⊕ Int):=
 if b then ((zt8 .i64 1 a.2).bind fun c=>ze7 a (w64 (a.1+c))) else (ze7 a a.1)
def zbL (p0:TS×(LP)×Int) (d:LI×LI×Int×LP) (c:(Int×Int)×Int) (a:Int×Int):Option ((Int×Int) ⊕ Int):=
 if decide (a.2<4) then ((z7 c.1 a.2).bind fun e=>(zcD d.2.2.2 e).bind fun b=>if decide (b≥0) then ((zdc p0.1 c.2 a.2 b).bind fun f=>ze6 a (decide (f>0))) else (ze6 a false)) else (some (.inr a.1))
def zc1 (p0:TS×(LP)×Int) (p1:LP) (a:LI×LI×Int×LP):Option ((LI×LI×Int×LP) ⊕ (LI×LI)):=
 if decide (a.2.2.1<(p1.length:Int)) then ((idx p1 a.2.2.1).bind fun b=>(iter (zbL p0 a b) (0,0)).bind fun c=>zhq p0 a b c) else (some (.inr (a.1,a.2.1)))
def zhr (p0:TS×(LP)×Int) (p1:LP):Option (LI×LI):=
 (zdb p0.2.1).bind fun b=>(iter (zc1 p0 p1) ([],[],0,b)).bind fun a=>zkQ a.1 a.2
def zj9 (a:LI):Option (LI):=
 some a
def zg0 (a:LI×Int) (b:Int):Option ((LI×Int) ⊕ (LI)):=
 (app 8 a.1 [b]).bind fun c=>some (.inl (c,w64 (a.2+1)))
def zgZ (a:Int×Int) (b:Int):Option ((Int×Int) ⊕ Int):=
 some (.inl (b,w64 (a.2+1)))
def zbe (a:Int×Int) (b:Int):Option ((Int×Int) ⊕ Int):=
 some (.inl (b,w64 (a.2+1)))
def zbd (b:Int×Int) (a:Int×Int) (c:Bool):Option ((Int×Int) ⊕ Int):=
 if c then ((zt8 .i64 1 b.2).bind fun d=>zbe a (w64 (a.1+d))) else (zbe a a.1)
def zQ (p0:LP) (p1:LI) (b:Int×Int) (c:(Int×Int)) (a:Int×Int):Option ((Int×Int) ⊕ Int):=
 if decide (a.2<(p0.length:Int)) then ((idx p0 a.2).bind fun d=>if (decide (d.1.1=c.1)&&decide (d.1.2=c.2)) then ((idx p1 a.2).bind fun e=>(zeY b.2).bind fun f=>(ztm .i64 e f).bind fun g=>zbd b a (decide ((zrP .i64 g 1)=1))) else (zbd b a false)) else (some (.inr a.1))
def zbc (p0:LP) (p1:LI) (b:LI×Int) (a:Int×Int):Option ((Int×Int) ⊕ Int):=
 if decide (a.2<4) then ((idx p0 b.2).bind fun c=>(z7 c.1 a.2).bind fun d=>(iter (zQ p0 p1 a d) (a.1,w64 (b.2+1))).bind fun e=>zgZ a e) else (some (.inr a.1))
def zcA (p0:LP) (p1:LI) (a:LI×Int):Option ((LI×Int) ⊕ (LI)):=
 if decide (a.2<(p0.length:Int)) then ((iter (zbc p0 p1 a) (0,0)).bind fun b=>zg0 a b) else (some (.inr a.1))
def zgI (p0:LP) (p1:LI):Option (LI):=
 (iter (zcA p0 p1) ([],0)).bind fun a=>zj9 a
def zgY (a:LP):Option ((LP)):=
 some a
def zeg (a:Int×LP) (b:LP):Option ((Int×LP) ⊕ (LP)):=
 some (.inl (w64 (a.1+1),b))
def zgX (p0:LP) (a:Int×LP) (b:(Int×Int)×Int) (c:Bool):Option ((Int×LP) ⊕ (LP)):=
 if c then ((idx p0 a.1).bind fun _=>(app 24 a.2 [b]).bind fun d=>zeg a d) else (zeg a a.2)
def zef (a:Bool×Int) (b:Bool):Option ((Bool×Int) ⊕ Bool):=
 some (.inl (b,w64 (a.2+1)))
def zee (a:Bool×Int) (b:Bool):Option ((Bool×Int) ⊕ Bool):=
 if b then (zef a false) else (zef a a.1)
def zbb (p0:LP) (p1:Int×Int) (f:Int) (d:Int×LP) (b:(Int×Int)×Int) (a:Bool×Int):Option ((Bool×Int) ⊕ Bool):=
 if decide (a.2<4) then ((ztm .i64 f a.2).bind fun e=>if decide ((zrP .i64 e 1)=1) then ((idx p0 d.1).bind fun _=>(z7 p1 a.2).bind fun c=>zee a (decide (b.1.1=c.1)&&decide (b.1.2=c.2))) else (zee a false)) else (some (.inr a.1))
def zcz (p0:LP) (p1:Int×Int) (d:Int) (a:Int×LP):Option ((Int×LP) ⊕ (LP)):=
 if decide (a.1<(p0.length:Int)) then ((idx p0 a.1).bind fun b=>(iter (zbb p0 p1 d a b) (!(decide (b.1.1=p1.1)&&decide (b.1.2=p1.2)),0)).bind fun c=>zgX p0 a b c) else (some (.inr a.2))
def zgH (p0:LP) (p1:Int×Int) (b:Int):Option ((LP)):=
 (iter (zcz p0 p1 b) (0,[])).bind fun a=>zgY a
def zim (p0:TS×(LP)×Int) (b:(LP)×Int×Int) (d:Int) (e:Int):Option (Int×(Int×Int)):=
 (zcU p0 b.1).bind fun a=>if decide ((a.length:Int)>0) then ((idx a 0).bind fun c=>some (3,c.1)) else (some (0,(0,0)))
def zfR (p0:TS×(LP)×Int) (p1:LP) (e:LI×LI) (f:LI) (g:(LP)×Int×Int) (a:Int×Int×Int):Option ((Int×Int×Int) ⊕ ((Int×Int) ⊕ (Int×(Int×Int)))):=
 if decide (a.1<(p1.length:Int)) then ((idx e.2 a.1).bind fun h=>if !decide (h=p0.2.2) then ((idx p1 a.1).bind fun i=>some (.inr (.inr (1,i.1)))) else ((idx p1 a.1).bind fun j=>(idx f a.1).bind fun k=>(zgH g.1 j.1 k).bind fun l=>(idx p1 a.1).bind fun b=>(zkc p0.1 l b.1 p0.2.2).bind fun c=>if !decide ((c.length:Int)=1) then ((idx p1 a.1).bind fun d=>some (.inr (.inr (2,d.1)))) else (some (.inl (w64 (a.1+1),a.2.1,a.2.2))))) else (some (.inr (.inl (a.2.1,a.2.2))))
def zgv (p0:TS×(LP)×Int) (p1:LP):Option (Int×(Int×Int)):=
 (zhr p0 p1).bind fun a=>(zgI p1 a.1).bind fun c=>(zfT p0 p1).bind fun b=>(iter (zfR p0 p1 a c b) (0,0,0)).bind fun d=>match d with | .inl z=>zim p0 b z.1 z.2 | .inr z=>some z
def zb3 (p0:TS×(LP)×Int) (p1:LP) (c:LP) (d:Bool):Option (Bool):=
 if d then (some false) else ((zde p0 c).bind fun e=>(idx p1 (w64 ((p1.length:Int) - 1))).bind fun a=>(idx c (w64 ((c.length:Int) - 1))).bind fun b=>if decide (e.2.2=0) then (if (decide (a.1.1=b.1.1)&&decide (a.1.2=b.1.2)) then (some (!decide (a.2=b.2))) else (some false)) else (some false))
def zfQ (p0:TS×(LP)×Int) (p1:LP) (a:LP) (c:LP):Option (Bool):=
 if decide ((p1.length:Int)=0) then (zb3 p0 p1 a true) else (if decide ((a.length:Int)=0) then (zb3 p0 p1 a true) else ((zbo p0 p1 c).bind fun b=>zb3 p0 p1 a (!b)))
def zir (a:Bool):Option (Int):=
 if a then (some 1) else (some 0)
def zeT (p0:LG×LT) (p1:LP):Option (Int):=
 (ziu p0).bind fun a=>if !a then (zir true) else ((zis p0 p1).bind fun b=>zir (!b))
def zhI (c:Int) (a:LI):Option (Int×Int):=
 (idx a c).bind fun b=>some (b,0)
def zdf (a:Int) (b:Bool):Option (Int ⊕ (Unit ⊕ (Int×Int))):=
 if b then (some (.inr (.inr (0,10)))) else (some (.inl (w64 (a+1))))
def zbN (p1:LP) (d:Int) (e:Int) (b:LI) (a:Int):Option (Int ⊕ (Unit ⊕ (Int×Int))):=
 if decide (a≤(w64 ((p1.length:Int) - 1))) then (if !decide (a=d) then (if !decide (a=e) then ((idx b a).bind fun c=>zdf a (!decide (c=0))) else (zdf a false)) else (zdf a false)) else (some (.inr (.inl ())))
def zhJ (p1:LP) (b:Int) (d:Int) (a:LI):Option (Int×Int):=
 (iter (zbN p1 b d a) 0).bind fun c=>match c with | .inl z=>zhI b a | .inr z=>some z
def zbO (f:LI) (b:LB) (a:LI×Int):Option ((LI×Int) ⊕ ((LI) ⊕ (Int×Int))):=
 if decide (a.2<(b.length:Int)) then ((idx f a.2).bind fun j=>(idx b a.2).bind fun k=>(idx b a.2).bind fun l=>(zat j (w64 (0 - k.2.2)) l.2.2).bind fun m=>if !m then (some (.inr (.inr (0,10)))) else ((idx b a.2).bind fun c=>(idx a.1 c.1).bind fun n=>(idx f a.2).bind fun p=>(idx a.1 c.1).bind fun r=>(some (a.1.set c.1.toNat (w64 (n+p)))).bind fun d=>(idx b a.2).bind fun e=>(idx d e.2.1).bind fun g=>(idx f a.2).bind fun h=>(idx d e.2.1).bind fun q=>(some (d.set e.2.1.toNat (w64 (g - h)))).bind fun i=>some (.inl (i,w64 (a.2+1))))) else (some (.inr (.inl a.1)))
def zdg (p0:LG×LT) (p1:LP) (f:Int) (g:Int) (b:LI) (c:Bool):Option (Int×Int):=
 if c then (some (0,2)) else ((zdB p0 p1).bind fun a=>if !decide ((b.length:Int)=(a.length:Int)) then (some (0,10)) else ((mkl 8 (p1.length:Int) 0).bind fun d=>(iter (zbO b a) (d,0)).bind fun e=>match e with | .inl z=>zhJ p1 f g z | .inr z=>some z))
def zhK (p0:LG×LT) (p1:LP) (a:Int) (b:Int) (c:LI):Option (Int×Int):=
 (zeT p0 p1).bind fun x23=>if !decide (x23=0) then (some (0,x23)) else ((zat a 0 (w64 ((p1.length:Int) - 1))).bind fun d=>if !d then (zdg p0 p1 a b c true) else ((zat b 0 (w64 ((p1.length:Int) - 1))).bind fun e=>if !e then (zdg p0 p1 a b c true) else (zdg p0 p1 a b c (decide (a=b)))))
def zlN  : Option (Bool):=
 some true
def zfP (a:Int) (b:Bool):Option (Int ⊕ (Unit ⊕ Bool)):=
 if b then (some (.inr (.inr false))) else (some (.inl (w64 (a+1))))
def zcr (p0:TS×(LP)×Int) (p1:LP) (c:LM) (a:Int):Option (Int ⊕ (Unit ⊕ Bool)):=
 if decide (a<(c.length:Int)) then ((idx c a).bind fun d=>(zhK p0.1 p1 0 (w64 (a+1)) d).bind fun b=>if !decide (b.2=0) then (zfP a true) else (zfP a (decide (b.1<p0.2.2)))) else (some (.inr (.inl ())))
def ziO (p0:TS×(LP)×Int) (p1:LP) (a:LM):Option (Bool):=
 (zdd 0 (w64 ((p1.length:Int) - 1))).bind fun b=>if !decide ((a.length:Int)=b) then (some false) else ((iter (zcr p0 p1 a) 0).bind fun x23=>match x23 with | .inl z=>zlN | .inr z=>some z)
def zlP  : Option (Bool):=
 some true
def zct (a:Int) (b:Bool):Option (Int ⊕ (Unit ⊕ Bool)):=
 if b then (some (.inr (.inr false))) else (some (.inl (w64 (a+1))))
def zaG (p0:LI) (p1:Int) (f:Int) (a:Int):Option (Int ⊕ (Unit ⊕ Bool)):=
 if decide (a<(p0.length:Int)) then ((idx p0 a).bind fun b=>(zat b p1 f).bind fun c=>if !c then (zct a true) else (if decide (a>0) then ((idx p0 (w64 (a - 1))).bind fun d=>(idx p0 a).bind fun e=>zct a (decide (d≥e))) else (zct a false))) else (some (.inr (.inl ())))
def zln (p0:LI) (p1:Int) (a:Int):Option (Bool):=
 (iter (zaG p0 p1 a) 0).bind fun b=>match b with | .inl z=>zlP | .inr z=>some z
def zjM (p0:LP) (p1:LI):Option (Bool):=
 (zln p1 0 (w64 ((p0.length:Int) - 1))).bind fun a=>some a
def zkg  : Option (Bool):=
 some false
def zhH (p0:LI) (p1:Int) (a:Int):Option (Int ⊕ (Unit ⊕ Bool)):=
 if decide (a<(p0.length:Int)) then ((idx p0 a).bind fun b=>if decide (b=p1) then (some (.inr (.inr true))) else (some (.inl (w64 (a+1))))) else (some (.inr (.inl ())))
def zi8 (p0:LI) (p1:Int):Option (Bool):=
 (iter (zhH p0 p1) 0).bind fun a=>match a with | .inl z=>zkg | .inr z=>some z
def zmT (a:Int):Option (Int):=
 some a
def zhF (a:Int×Int) (b:Int):Option ((Int×Int) ⊕ Int):=
 some (.inl (b,w64 (a.2+1)))
def zdS (p0:LB) (p1:LI) (a:Int×Int):Option ((Int×Int) ⊕ Int):=
 if decide (a.2<(p0.length:Int)) then ((idx p0 a.2).bind fun c=>(zi8 p1 c.1).bind fun x23=>(idx p0 a.2).bind fun b=>(zi8 p1 b.2.1).bind fun d=>if !(x23 == d) then ((idx p0 a.2).bind fun _=>zhF a (w64 (a.1+b.2.2))) else (zhF a a.1)) else (some (.inr a.1))
def zkV (p0:LB) (p1:LI):Option (Int):=
 (iter (zdS p0 p1) (0,0)).bind fun a=>zmT a
def zfq (p0:TS×(LP)×Int) (p1:LP) (d:LI) (a:Bool):Option (Bool):=
 if a then (some false) else ((zdB p0.1 p1).bind fun b=>(zkV b d).bind fun c=>some (decide (c<p0.2.2)))
def zkP (p0:TS×(LP)×Int) (p1:LP) (a:LI):Option (Bool):=
 (zjM p1 a).bind fun b=>if !b then (zfq p0 p1 a true) else (if decide ((a.length:Int)=0) then (zfq p0 p1 a true) else (zfq p0 p1 a (decide ((a.length:Int)=(p1.length:Int)))))
def ziN (p0:TS×(LP)×Int) (p1:LP) (a:Int×LP×LP×LI×LM):Option (Bool):=
 if decide (a.1=1) then ((zbo p0 a.2.1 p1).bind fun b=>some b) else (if decide (a.1=2) then ((zbo p0 a.2.1 p1).bind fun c=>if c then ((zcU p0 p1).bind fun d=>some (decide ((d.length:Int)=0))) else (some false)) else (if decide (a.1=3) then ((zbo p0 a.2.1 p1).bind fun e=>if !e then (some false) else ((zgv p0 a.2.1).bind fun f=>some (decide (f.1=0)))) else (if decide (a.1=4) then ((zfQ p0 a.2.1 a.2.2.1 p1).bind fun g=>some g) else (if decide (a.1=5) then ((ziO p0 p1 a.2.2.2.2).bind fun h=>some h) else ((zkP p0 p1 a.2.2.2.1).bind fun i=>some i)))))
def zg3 (a:Bool):Option (Int):=
 if a then (some 10) else (some 0)
def zgM (p0:TS×(LP)×Int) (p1:LP) (b:Int×LP×LP×LI×LM):Option (Int):=
 (zlh p0 p1).bind fun a=>if !decide (a=0) then (some a) else ((zat b.1 1 6).bind fun c=>if !c then (some 2) else ((zfp b).bind fun d=>if !d then (zg3 true) else ((ziN p0 p1 b).bind fun e=>zg3 (!e))))
def zld (p0:BS×(TS×(LP)×Int)×(LP)×(Int×LP×LP×LI×LM)):Option (Bool):=
 (zfy p0.1).bind fun a=>if a then ((zgM p0.2.1 p0.2.2.1 p0.2.2.2).bind fun b=>some (decide (b=0))) else (some false)
def zgL (p0:BS×(TS×(LP)×Int)×(LP)×(Int×LP×LP×LI×LM)):Option (Bool):=
 (zld p0).bind fun a=>some a
def zhQ (p0:Int×Int):Option ((Int×Int)):=
 some p0
def zlt (p0:(Int×Int)×Int):Option (((Int×Int)×Int)):=
 (zhQ p0.1).bind fun a=>some (a,p0.2)
def zk0 (a:LP):Option (LP):=
 some a
def zdm (p0:LP) (a:LP×Int):Option ((LP×Int) ⊕ (LP)):=
 if decide (a.2<(p0.length:Int)) then ((idx p0 a.2).bind fun b=>(zlt b).bind fun c=>(idx a.1 a.2).bind fun e=>(some (a.1.set a.2.toNat c)).bind fun d=>some (.inl (d,w64 (a.2+1)))) else (some (.inr a.1))
def zhR (p0:LP):Option (LP):=
 (mkl 24 (p0.length:Int) ((0,0),0)).bind fun a=>(iter (zdm p0) (a,0)).bind fun b=>zk0 b
def zgN (p0:LP):Option ((LP)):=
 (zhR p0).bind fun a=>some a
def znb (p0:BS×Int):Option ((BS×Int)):=
 some p0
def zmD (a:LG):Option (LG):=
 some a
def zeG (p0:LG) (a:LG×Int):Option ((LG×Int) ⊕ (LG)):=
 if decide (a.2<(p0.length:Int)) then ((idx p0 a.2).bind fun b=>(znb b).bind fun c=>(idx a.1 a.2).bind fun e=>(some (a.1.set a.2.toNat c)).bind fun d=>some (.inl (d,w64 (a.2+1)))) else (some (.inr a.1))
def zjR (p0:LG):Option (LG):=
 (mkl 24 (p0.length:Int) ((([]:BS),0):BS×Int)).bind fun a=>(iter (zeG p0) (a,0)).bind fun b=>zmD b
def zlW (a:LI):Option (LI):=
 some a
def zd3 (p0:LI) (a:LI×Int):Option ((LI×Int) ⊕ (LI)):=
 if decide (a.2<(p0.length:Int)) then ((idx p0 a.2).bind fun b=>(idx a.1 a.2).bind fun d=>(some (a.1.set a.2.toNat b)).bind fun c=>some (.inl (c,w64 (a.2+1)))) else (some (.inr a.1))
def ze0 (p0:LI):Option (LI):=
 (mkl 8 (p0.length:Int) 0).bind fun a=>(iter (zd3 p0) (a,0)).bind fun b=>zlW b
def zna (p0:BS×LI):Option ((BS×LI)):=
 (ze0 p0.2).bind fun a=>some (p0.1,a)
def zmB (a:LT):Option (LT):=
 some a
def zeF (p0:LT) (a:LT×Int):Option ((LT×Int) ⊕ (LT)):=
 if decide (a.2<(p0.length:Int)) then ((idx p0 a.2).bind fun b=>(zna b).bind fun c=>(idx a.1 a.2).bind fun e=>(some (a.1.set a.2.toNat c)).bind fun d=>some (.inl (d,w64 (a.2+1)))) else (some (.inr a.1))
def zjQ (p0:LT):Option (LT):=
 (mkl 40 (p0.length:Int) ((([]:BS),[]):BS×LI)).bind fun a=>(iter (zeF p0) (a,0)).bind fun b=>zmB b
def zkp (p0:LG×LT):Option (TS):=
 (zjR p0.1).bind fun a=>(zjQ p0.2).bind fun b=>some (a,b)
def zls (p0:TS×(LP)×Int):Option ((TS×(LP)×Int)):=
 (zkp p0.1).bind fun a=>(zgN p0.2.1).bind fun b=>some (a,(b,p0.2.2))
def zlu (p0:(Int×Int)×Int):Option (((Int×Int)×Int)):=
 (zhQ p0.1).bind fun a=>some (a,p0.2)
def zk2 (a:LP):Option (LP):=
 some a
def zdn (p0:LP) (a:LP×Int):Option ((LP×Int) ⊕ (LP)):=
 if decide (a.2<(p0.length:Int)) then ((idx p0 a.2).bind fun b=>(zlu b).bind fun c=>(idx a.1 a.2).bind fun e=>(some (a.1.set a.2.toNat c)).bind fun d=>some (.inl (d,w64 (a.2+1)))) else (some (.inr a.1))
def zfC (p0:LP):Option (LP):=
 (mkl 24 (p0.length:Int) ((0,0),0)).bind fun a=>(iter (zdn p0) (a,0)).bind fun b=>zk2 b
def zk3 (a:LM):Option (LM):=
 some a
def zdo (p0:LM) (a:LM×Int):Option ((LM×Int) ⊕ (LM)):=
 if decide (a.2<(p0.length:Int)) then ((idx p0 a.2).bind fun b=>(ze0 b).bind fun c=>(idx a.1 a.2).bind fun e=>(some (a.1.set a.2.toNat c)).bind fun d=>some (.inl (d,w64 (a.2+1)))) else (some (.inr a.1))
def zhS (p0:LM):Option (LM):=
 (mkl 24 (p0.length:Int) ([]:LI)).bind fun a=>(iter (zdo p0) (a,0)).bind fun b=>zk3 b
def zmf (p0:Int×LP×LP×LI×LM):Option ((Int×LP×LP×LI×LM)):=
 (zfC p0.2.1).bind fun a=>(zfC p0.2.2.1).bind fun b=>(ze0 p0.2.2.2.1).bind fun c=>(zhS p0.2.2.2.2).bind fun d=>some (p0.1,(a,(b,(c,d))))
def zf4 (p0:BS×(TS×(LP)×Int)×(LP)×(Int×LP×LP×LI×LM)):Option ((BS×(TS×(LP)×Int)×(LP)×(Int×LP×LP×LI×LM))):=
 (zls p0.2.1).bind fun a=>(zgN p0.2.2.1).bind fun b=>(zmf p0.2.2.2).bind fun c=>some (p0.1,(a,(b,c)))
def zkB (p0:BS):Option (Bool):=
 if decide ((p0.length:Int)≥1) then (some (decide ((p0.length:Int)≤12))) else (some false)
def zbH (a:Int) (b:Bool):Option (Int ⊕ (Unit ⊕ Bool)):=
 if b then (some (.inr (.inr false))) else (some (.inl (w64 (a+1))))
def zaY (a:Int) (b:UInt8) (c:Bool):Option (Int ⊕ (Unit ⊕ Bool)):=
 if !c then (if decide (a=0) then (zbH a true) else (if decide ((b.toNat:Int)<48) then (zbH a (!decide ((b.toNat:Int)=95))) else (if decide ((b.toNat:Int)>57) then (zbH a (!decide ((b.toNat:Int)=95))) else (zbH a false)))) else (zbH a false)
def zbG (p0:BS) (a:Int):Option (Int ⊕ (Unit ⊕ Bool)):=
 if decide (a<(p0.length:Int)) then ((idx p0 a).bind fun b=>if decide ((b.toNat:Int)≥97) then (if decide ((b.toNat:Int)≤122) then (zaY a b true) else (if decide ((b.toNat:Int)≥65) then (zaY a b (decide ((b.toNat:Int)≤90))) else (zaY a b false))) else (if decide ((b.toNat:Int)≥65) then (zaY a b (decide ((b.toNat:Int)≤90))) else (zaY a b false))) else (some (.inr (.inl ())))
def zfL (p0:BS):Option (Bool):=
 (iter (zbG p0) 0).bind fun a=>match a with | .inl z=>zkB p0 | .inr z=>some z
def zaI (p0:Int) (p1:Int) (a:Int):Option (Bool):=
 if decide (p0≥p1) then (some (decide (p0≤a))) else (some false)
def zd0  : Option (Int):=
 some (-1)
def zdZ (p0:LI) (p1:Int→Option Bool) (a:Int):Option (Int ⊕ (Unit ⊕ Int)):=
 if decide (a<(p0.length:Int)) then ((idx p0 a).bind fun b=>(p1 b).bind fun c=>if c then (some (.inr (.inr a))) else (some (.inl (w64 (a+1))))) else (some (.inr (.inl ())))
def zfz (p0:LI) (p1:Int→Option Bool):Option (Int):=
 (iter (zdZ p0 p1) 0).bind fun a=>match a with | .inl z=>zd0 | .inr z=>some z
def zbS (p0:LI) (p1:Int→Option Bool):Option (Bool):=
 (zfz p0 p1).bind fun a=>some (decide (a≥0))
def zbm (p0:Int) (p1:LG×LT):Option (Bool):=
 (zaI p0 0 (p1.1.length:Int)).bind fun a=>some (!a)
def ziJ  : Option (Bool):=
 some true
def zcw (p0:LG×LT) (a:Int×(List (BS×Bool))) (b:BS×LI) (c:Bool):Option ((Int×(List (BS×Bool))) ⊕ (Unit ⊕ Bool)):=
 if c then (some (.inr (.inr false))) else ((zbS b.2 (fun e=>zbm e p0)).bind fun d=>if d then (some (.inr (.inr false))) else (some (.inl (w64 (a.1+1),zbC a.2 b.1 true))))
def zaK (p0:LG×LT) (a:Int×(List (BS×Bool))):Option ((Int×(List (BS×Bool))) ⊕ (Unit ⊕ Bool)):=
 if decide (a.1<(p0.2.length:Int)) then ((idx p0.2 a.1).bind fun b=>(zfL b.1).bind fun c=>if !c then (zcw p0 a b true) else (if ((zcT a.2 b.1).getD false) then (zcw p0 a b true) else (zcw p0 a b (!decide ((b.2.length:Int)=4))))) else (some (.inr (.inl ())))
def ziK (p0:LG×LT):Option (Bool):=
 (iter (zaK p0) (0,([]:List (BS×Bool)))).bind fun a=>match a with | .inl z=>ziJ | .inr z=>some z
def zcv (a:Int×(List (BS×Bool))) (b:BS×Int) (c:Bool):Option ((Int×(List (BS×Bool))) ⊕ (Unit ⊕ Bool)):=
 if c then (some (.inr (.inr false))) else (some (.inl (w64 (a.1+1),zbC a.2 b.1 true)))
def zaL (p0:LG×LT) (a:Int×(List (BS×Bool))):Option ((Int×(List (BS×Bool))) ⊕ (Unit ⊕ Bool)):=
 if decide (a.1<(p0.1.length:Int)) then ((idx p0.1 a.1).bind fun b=>(zfL b.1).bind fun c=>if !c then (zcv a b true) else (if ((zcT a.2 b.1).getD false) then (zcv a b true) else ((zaI b.2 1 4).bind fun d=>zcv a b (!d)))) else (some (.inr (.inl ())))
def zga (p0:LG×LT) (a:Bool):Option (Bool):=
 if a then (some false) else ((iter (zaL p0) (0,([]:List (BS×Bool)))).bind fun b=>match b with | .inl z=>ziK p0 | .inr z=>some z)
def zgE (p0:LG×LT):Option (Bool):=
 if decide ((p0.1.length:Int)>200) then (zga p0 true) else ((zaI (p0.2.length:Int) 1 160).bind fun a=>zga p0 (!a))
def zeO (p0:Int×Int):Option (Bool):=
 (zaI p0.1 (-60) 60).bind fun a=>if a then ((zaI p0.2 (-60) 60).bind fun b=>some b) else (some false)
def zaA (p0:Int) (p1:Int):Option (Bool):=
 (zaI p0 0 (w64 (p1 - 1))).bind fun a=>some a
def zi2  : Option (Int):=
 some 0
def zai (p0:LI) (a:Int):Option (Int ⊕ (Unit ⊕ Int)):=
 if decide (a<(p0.length:Int)) then ((idx p0 a).bind fun b=>if !decide (b=0) then (some (.inr (.inr b))) else (some (.inl (w64 (a+1))))) else (some (.inr (.inl ())))
def zkG (p0:LI):Option (Int):=
 (iter (zai p0) 0).bind fun a=>match a with | .inl z=>zi2 | .inr z=>some z
def zgF (p0:Int):Option (Bool):=
 some (!decide (p0=p0))
def zcZ (p0:Int) (p1:Int):Option (Int):=
 (zgF p0).bind fun b=>(zgF p1).bind fun a=>if b then (if a then (some 0) else (some (-1))) else (if a then (some 1) else (if decide (p0<p1) then (some (-1)) else (if decide (p0>p1) then (some 1) else (some 0))))
def zag (p0:Int×Int) (p1:Int×Int):Option (Int):=
 (zcZ p0.2 p1.2).bind fun a=>(zcZ p0.1 p1.1).bind fun b=>(zkG [a,b]).bind fun c=>some c
def zia (p0:Int×Int) (p1:Int×Int):Option (Bool):=
 (zag p0 p1).bind fun a=>some (decide (a<0))
def zjw (p0:LP):Option (Bool):=
 some (decide ((p0.length:Int)≤500))
def zb2 (a:Int) (b:Bool):Option (Int ⊕ (Unit ⊕ Bool)):=
 if b then (some (.inr (.inr false))) else (some (.inl (w64 (a+1))))
def za6 (p0:LP) (a:Int):Option (Int ⊕ (Unit ⊕ Bool)):=
 if decide (a<(p0.length:Int)) then ((idx p0 a).bind fun b=>(zeO b.1).bind fun c=>if !c then (zb2 a true) else ((zaA b.2 160).bind fun d=>if !d then (zb2 a true) else (if decide (a>0) then ((idx p0 (w64 (a - 1))).bind fun e=>(zia e.1 b.1).bind fun f=>zb2 a (!f)) else (zb2 a false)))) else (some (.inr (.inl ())))
def zjX (p0:LP):Option (Bool):=
 (iter (za6 p0) 0).bind fun a=>match a with | .inl z=>zjw p0 | .inr z=>some z
def zbR  : Option (Int):=
 some (-1)
def zbQ (p0:LP) (p1:((Int×Int)×Int)→Option Bool) (a:Int):Option (Int ⊕ (Unit ⊕ Int)):=
 if decide (a<(p0.length:Int)) then ((idx p0 a).bind fun b=>(p1 b).bind fun c=>if c then (some (.inr (.inr a))) else (some (.inl (w64 (a+1))))) else (some (.inr (.inl ())))
def zaH (p0:LP) (p1:((Int×Int)×Int)→Option Bool):Option (Int):=
 (iter (zbQ p0 p1) 0).bind fun a=>match a with | .inl z=>zbR | .inr z=>some z
def zen (p0:LP) (p1:((Int×Int)×Int)→Option Bool):Option (Bool):=
 (zaH p0 p1).bind fun a=>some (decide (a≥0))
def za3 (p0:LG×LT) (p1:Int):Option (Bool):=
 (zaA p1 (p0.2.length:Int)).bind fun a=>some a
def zaw (p0:(Int×Int)×Int) (p1:LG×LT):Option (Bool):=
 (za3 p1 p0.2).bind fun a=>some (!a)
def z1 (p0:LG×LT) (p1:LP):Option (Bool):=
 (zgE p0).bind fun a=>if a then ((zjX p1).bind fun b=>if b then ((zen p1 (fun d=>zaw d p0)).bind fun c=>some (!c)) else (some false)) else (some false)
def zev (p0:Int):Option (Bool):=
 (zaI p0 1 16).bind fun a=>some a
def ziG (a:LM):Option (LM):=
 some a
def zd9 (a:LM×Int×(List (Int×Int))) (b:LM) (c:Int) (d:List (Int×Int)):Option ((LM×Int×(List (Int×Int))) ⊕ (LM)):=
 (idx b c).bind fun e=>(app 8 e [a.2.1]).bind fun f=>(some (b.set c.toNat f)).bind fun g=>some (.inl (g,w64 (a.2.1+1),d))
def zd5 (p0:Int) (b:LI) (a:LM×Int×(List (Int×Int))):Option ((LM×Int×(List (Int×Int))) ⊕ (LM)):=
 if decide (a.2.1<(p0.toNat:Int)) then ((idx b a.2.1).bind fun e=>(iter (gstep b) a.2.1).bind fun c=>if !(zgm a.2.2 c) then ((app 24 a.1 [([]:LI)]).bind fun d=>zd9 a d (a.1.length:Int) (zbC a.2.2 a.2.1 (a.1.length:Int))) else (zd9 a a.1 ((zcT a.2.2 c).getD 0) a.2.2)) else (some (.inr a.1))
def ziH (p0:Int) (a:LI):Option (LM):=
 (iter (zd5 p0 a) ([],0,([]:List (Int×Int)))).bind fun b=>ziG b
def zd8 (a:Int×LI) (b:LI):Option ((Int×LI) ⊕ (LI)):=
 some (.inl (w64 (a.1+1),b))
def zd6 (p1:LB) (a:Int×LI):Option ((Int×LI) ⊕ (LI)):=
 if decide (a.1<(p1.length:Int)) then ((idx p1 a.1).bind fun b=>(idx a.2 b.1).bind fun e=>(iter (gstep a.2) b.1).bind fun c=>(idx a.2 b.2.1).bind fun f=>(iter (gstep a.2) b.2.1).bind fun d=>if decide (c<d) then (zd8 a (a.2.set d.toNat c)) else (if decide (d<c) then (zd8 a (a.2.set c.toNat d)) else (zd8 a a.2))) else (some (.inr a.2))
def ziI (p0:Int) (p1:LB) (a:LI):Option (LM):=
 (iter (zd6 p1) (0,a)).bind fun b=>ziH p0 b
def zd7 (p0:Int) (a:Int×LI):Option ((Int×LI) ⊕ (LI)):=
 if decide (a.1<(p0.toNat:Int)) then ((zrq p0.toNat a.2 a.1).bind fun b=>some (.inl (w64 (a.1+1),b))) else (some (.inr a.2))
def zi0 (p0:Int) (p1:LB):Option (LM):=
 (fmk 8 p0).bind fun b=>(iter (zd7 p0) (0,b)).bind fun a=>ziI p0 p1 a
def zhh  : Option (Int):=
 some (-1)
def zbP (p0:LB) (p1:(Int×Int×Int)→Option Bool) (a:Int):Option (Int ⊕ (Unit ⊕ Int)):=
 if decide (a<(p0.length:Int)) then ((idx p0 a).bind fun b=>(p1 b).bind fun c=>if c then (some (.inr (.inr a))) else (some (.inl (w64 (a+1))))) else (some (.inr (.inl ())))
def zdk (p0:LB) (p1:(Int×Int×Int)→Option Bool):Option (Int):=
 (iter (zbP p0 p1) 0).bind fun a=>match a with | .inl z=>zhh | .inr z=>some z
def zdD (b:LB) (a:Int):Option (LB):=
 (clr b a (0,(0,0))).bind fun c=>(zjI c 0 a).bind fun d=>some d
def zbs (a:LB×Int×Int) (b:LB) (c:Int):Option ((LB×Int×Int) ⊕ (LB×Int)):=
 some (.inl (b,c,w64 (a.2.2+1)))
def zbr (p1:(Int×Int×Int)→Option Bool) (a:LB×Int×Int):Option ((LB×Int×Int) ⊕ (LB×Int)):=
 if decide (a.2.2<(a.1.length:Int)) then ((idx a.1 a.2.2).bind fun b=>(p1 b).bind fun c=>if !c then ((idx a.1 a.2.1).bind fun e=>(some (a.1.set a.2.1.toNat b)).bind fun d=>zbs a d (w64 (a.2.1+1))) else (zbs a a.1 a.2.1)) else (some (.inr (a.1,a.2.1)))
def zba (p0:LB) (p1:(Int×Int×Int)→Option Bool):Option (LB):=
 (zdk p0 p1).bind fun a=>if decide (a=(-1)) then (some p0) else ((iter (zbr p1) (p0,a,w64 (a+1))).bind fun b=>zdD b.1 b.2)
def zca (c:LB) (a:Bool):Option (LB):=
 if a then (some ([]:LB)) else ((app 24 ([]:LB) c).bind fun b=>some b)
def zcu (p0:LB):Option (LB):=
 zca p0 false
def zhf (p0:Int×Int×Int) (p1:Int):Option (Bool):=
 some (decide (p0.2.2<p1))
def zhd (a:LM) (b:LB):Option (Int×LB):=
 some ((a.length:Int),b)
def zex (a:LB×Int) (b:LB):Option ((LB×Int) ⊕ (LB)):=
 some (.inl (b,w64 (a.2+1)))
def zcJ (p1:LB) (c:LI) (a:LB×Int):Option ((LB×Int) ⊕ (LB)):=
 if decide (a.2<(p1.length:Int)) then ((idx p1 a.2).bind fun b=>(idx c b.1).bind fun e=>(idx c b.2.1).bind fun f=>if !decide (e=f) then ((idx c b.1).bind fun g=>(idx c b.2.1).bind fun h=>(app 24 a.1 [(g,(h,b.2.2))]).bind fun d=>zex a d) else (zex a a.1)) else (some (.inr a.1))
def zhe (p1:LB) (a:LM) (b:LI):Option (Int×LB):=
 (iter (zcJ p1 b) ([],0)).bind fun c=>zhd a c
def zhc (a:LI×Int) (b:LI):Option ((LI×Int) ⊕ (LI)):=
 some (.inl (b,w64 (a.2+1)))
def zbl (d:LI×Int) (b:LI) (a:LI×Int):Option ((LI×Int) ⊕ (LI)):=
 if decide (a.2<(b.length:Int)) then ((idx b a.2).bind fun c=>(idx a.1 c).bind fun f=>(some (a.1.set c.toNat d.2)).bind fun e=>some (.inl (e,w64 (a.2+1)))) else (some (.inr a.1))
def zaD (b:LM) (a:LI×Int):Option ((LI×Int) ⊕ (LI)):=
 if decide (a.2<(b.length:Int)) then ((idx b a.2).bind fun c=>(iter (zbl a c) (a.1,0)).bind fun d=>zhc a d) else (some (.inr a.1))
def zgS (p0:Int) (p1:LB) (f:Int):Option (Int×LB):=
 (zcu p1).bind fun c=>(zba c (fun g=>zhf g f)).bind fun d=>(zi0 p0 d).bind fun a=>(mkl 8 p0 0).bind fun e=>(iter (zaD a) (e,0)).bind fun b=>zhe p1 a b
def zaq (p0:LP) (p1:Int×Int) (c:((Int×Int)×Int)→(Int×Int)→Option Int) (a:Int):Option (Int×Bool):=
 if decide (a<(p0.length:Int)) then ((idx p0 a).bind fun x23=>(c x23 p1).bind fun b=>some (a,decide (b=0))) else (some (a,false))
def zK (p0:LP) (p1:Int×Int) (d:((Int×Int)×Int)→(Int×Int)→Option Int) (a:Int×Int):Option ((Int×Int) ⊕ Int):=
 if decide (a.1<a.2) then ((idx p0 (w64 (Int.fdiv (IntKind.wrap .u64 (w64 (a.1+a.2))) (2 ^ 1)))).bind fun b=>(d b p1).bind fun c=>if decide (c<0) then (some (.inl (w64 ((w64 (Int.fdiv (IntKind.wrap .u64 (w64 (a.1+a.2))) (2 ^ 1)))+1),a.2))) else (some (.inl (a.1,w64 (Int.fdiv (IntKind.wrap .u64 (w64 (a.1+a.2))) (2 ^ 1)))))) else (some (.inr a.1))
def z2 (p0:LP) (p1:Int×Int) (a:((Int×Int)×Int)→(Int×Int)→Option Int):Option (Int×Bool):=
 (iter (zK p0 p1 a) (0,(p0.length:Int))).bind fun b=>zaq p0 p1 a b
def zZ (p0:(Int×Int)×Int) (p1:Int×Int):Option (Int):=
 (zag p0.1 p1).bind fun a=>some a
def zcR (p0:LP) (p1:Int×Int):Option (Int):=
 (z2 p0 p1 (fun b c=>zZ b c)).bind fun a=>if a.2 then (some a.1) else (some (-1))
def za7 (p0:Int×Int) (p1:Int×Int):Option ((Int×Int)):=
 some (w64 (p0.1+p1.1),w64 (p0.2+p1.2))
def zR (p0:Int×Int) (p1:Int):Option ((Int×Int)):=
 (idx [((0,1):Int×Int),((1,0):Int×Int),((0,(-1)):Int×Int),(((-1),0):Int×Int)] p1).bind fun a=>(za7 p0 a).bind fun b=>some b
def zbJ {σ:Type} (a:σ):Option (σ):=
 some a
def zbI {σ:Type} (a:Int×σ) (b:σ):Option ((Int×σ) ⊕ σ):=
 some (.inl (w64 (a.1+1),b))
def zad {σ:Type} (a:Int×σ) (b:σ):Option ((Int×σ) ⊕ σ):=
 some (.inl (w64 (a.1+1),b))
def zO {σ:Type} (y0:σ→(Int×Int)→Int→Option σ) (p1:LP) (d:Int×σ) (e:(Int×Int)×Int) (a:Int×σ):Option ((Int×σ) ⊕ σ):=
 if decide (a.1<(([1,0]:List Int).length:Int)) then ((idx [1,0] a.1).bind fun b=>(zR e.1 b).bind fun f=>(zcR p1 f).bind fun c=>if decide (c≥0) then ((y0 a.2 (d.1,c) b).bind fun g=>zad a g) else (zad a a.2)) else (some (.inr a.2))
def zP {σ:Type} (y0:σ→(Int×Int)→Int→Option σ) (p1:LP) (a:Int×σ):Option ((Int×σ) ⊕ σ):=
 if decide (a.1<(p1.length:Int)) then ((idx p1 a.1).bind fun b=>(iter (zO y0 p1 a b) (0,a.2)).bind fun c=>zbI a c) else (some (.inr a.2))
def zcK {σ:Type} (y0:σ→(Int×Int)→Int→Option σ) (s0:σ) (p1:LP):Option (σ):=
 (iter (zP y0 p1) (0,s0)).bind fun a=>zbJ a
def zeb (p0:LP):Option ((LP)):=
 some p0
def zgD (p0:Int):Option (Int):=
 some (Int.tmod (w64 (p0+2)) 4)
def zax (p0:LG×LT) (p1:Int) (d:Int):Option (Int):=
 (idx p0.2 p1).bind fun b=>(idx b.2 d).bind fun a=>if decide (a>0) then ((idx p0.1 (w64 (a - 1))).bind fun c=>some c.2) else (some 0)
def zav (p0:LG×LT) (p1:Int) (a:Int) (h:Int):Option (Int):=
 (idx p0.2 p1).bind fun b=>(idx b.2 a).bind fun c=>(idx p0.2 h).bind fun d=>(zgD a).bind fun e=>(idx d.2 e).bind fun f=>if decide (c=f) then ((zax p0 p1 a).bind fun g=>some g) else (some 0)
def zU (p0:LG×LT) (p1:LP) (a:LB) (q:(Int×Int)×Int):Option (LB):=
 (idx p1 q.1.1).bind fun c=>(idx p1 q.1.2).bind fun d=>(zav p0 c.2 q.2 d.2).bind fun b=>if decide (b>0) then ((app 24 a [(q.1.1,(q.1.2,b))]).bind fun e=>some e) else (some a)
def zaE (p0:LG×LT) (p1:LP):Option (LB):=
 (zeb p1).bind fun a=>(zcK (fun s c d=>zU p0 p1 s (c,d)) [] a).bind fun b=>some b
def zh4 (a:LM) (b:LM):Option ((LM×LM)):=
 some (b,a)
def zdv (p1:LB) (b:Int×LM):Option ((Int×LM) ⊕ (LM)):=
 if decide (b.1<(p1.length:Int)) then ((idx p1 b.1).bind fun a=>(idx b.2 a.1).bind fun c=>(idx c a.2.1).bind fun f=>(idx c a.2.1).bind fun i=>(some (b.2.set a.1.toNat (c.set a.2.1.toNat (w64 (f+a.2.2))))).bind fun e=>(idx e a.2.1).bind fun d=>(idx d a.1).bind fun g=>(idx d a.1).bind fun j=>(some (e.set a.2.1.toNat (d.set a.1.toNat (w64 (g+a.2.2))))).bind fun h=>some (.inl (w64 (b.1+1),h))) else (some (.inr b.2))
def zh5 (p1:LB) (a:LM) (b:LM):Option ((LM×LM)):=
 (iter (zdv p1) (0,a)).bind fun c=>zh4 b c
def zdw (p0:Int) (a:Int×LM×LM):Option ((Int×LM×LM) ⊕ (LM×LM)):=
 if decide (a.1<p0) then ((mkl 8 p0 0).bind fun b=>(app 24 a.2.1 [b]).bind fun c=>(mkl 8 p0 0).bind fun d=>(app 24 a.2.2 [d]).bind fun e=>some (.inl (w64 (a.1+1),c,e))) else (some (.inr (a.2.1,a.2.2)))
def zh6 (p0:Int) (p1:LB):Option ((LM×LM)):=
 (iter (zdw p0) (0,[],[])).bind fun a=>zh5 p1 a.1 a.2
def zgC (p0 p1:Int):Option (Int×Int):=if 0≤p0∧p0<18446744073709551616∧0≤p1∧p1<18446744073709551616 then some (p0*p1 / 18446744073709551616,p0*p1 % 18446744073709551616) else none
def zja (a:LI):Option (LI):=
 some a
def zdh  (a:LI×Int):Option ((LI×Int) ⊕ (LI)):=
 if decide (a.2<(a.1.length:Int)) then ((zjI a.1 a.2 (a.1.length:Int)).bind fun d=>(zjI a.1 0 a.2).bind fun b=>(some (cpy a.1 a.2.toNat b)).bind fun c=>some (.inl (c,w64 (a.2+((min b.length (a.1.length - a.2.toNat):Nat):Int))))) else (some (.inr a.1))
def zdi (p0:LI) (e:Int×Int) (b:Bool):Option (LI):=
 if b then none else ((mkl 8 (w64 e.2) 0).bind fun a=>(some (cpy a 0 p0)).bind fun c=>(iter (zdh) (c,((min p0.length a.length:Nat):Int))).bind fun d=>zja d)
def zff (p0:LI) (p1:Int):Option (LI):=
 if decide (p1<0) then none else ((zgC (IntKind.wrap .u64 (p0.length:Int)) (IntKind.wrap .u64 p1)).bind fun a=>if decide (a.1>0) then (zdi p0 a true) else (zdi p0 a (decide (a.2>9223372036854775807))))
def zfj (p0:LM×LM) (p1:Int) (a:Int):Option (Bool):=
 (idx p0.1 p1).bind fun e=>(idx e a).bind fun b=>(idx p0.2 p1).bind fun c=>(idx c a).bind fun d=>some (decide (b>d))
def zg4 (p0:LI):Option LI:=some p0.reverse
def zgq (b:LI):Option (LI):=
 (zg4 b).bind fun a=>(ne a).bind fun c=>some a
def za1 (p1:Int) (c:LI) (a:LI×Int):Option ((LI×Int) ⊕ (LI)):=
 if !decide (a.2=p1) then ((idx c a.2).bind fun b=>(app 8 a.1 [b]).bind fun d=>some (.inl (d,b))) else (some (.inr a.1))
def zgr (p1:Int) (b:Int) (a:LI):Option (LI):=
 (idx a b).bind fun c=>if decide (c<0) then (some ([]:LI)) else ((iter (za1 p1 a) ([b],b)).bind fun d=>zgq d)
def zgp (a:LI) (b:LI):Option ((LI×LI) ⊕ (LI)):=
 some (.inl (a,b))
def zcd (a:LI×Int×LI) (b:LI) (c:LI):Option ((LI×Int×LI) ⊕ (LI×LI)):=
 some (.inl (b,w64 (a.2.1+1),c))
def za2 (p0:LM×LM) (e:Int×LI) (a:LI×Int×LI) (b:Bool):Option ((LI×Int×LI) ⊕ (LI×LI)):=
 if b then ((idx a.1 a.2.1).bind fun f=>(some (a.1.set a.2.1.toNat e.1)).bind fun c=>(zqb ((p0.1.length:Int).toNat) a.2.2 a.2.1).bind fun d=>zcd a c d) else (zcd a a.1 a.2.2)
def zcb (p0:LM×LM) (b:Int×LI) (a:LI×Int×LI):Option ((LI×Int×LI) ⊕ (LI×LI)):=
 if decide (a.2.1<(p0.1.length:Int)) then ((idx a.1 a.2.1).bind fun c=>if decide (c<0) then ((zfj p0 b.1 a.2.1).bind fun d=>za2 p0 b a d) else (za2 p0 b a false)) else (some (.inr (a.1,a.2.2)))
def zcc (p0:LM×LM) (a:LI×LI):Option ((LI×LI) ⊕ (LI)):=
 (zvS a.2).bind fun d=>if decide (d>0) then ((zu1 a.2).bind fun c=>(iter (zcb p0 c) (a.1,0,c.2)).bind fun b=>zgp b.1 b.2) else (some (.inr a.1))
def zf8 (p0:LM×LM) (p1:Int) (f:Int):Option (LI):=
 (zff [(-1)] (p0.1.length:Int)).bind fun a=>(mkc 8 (p0.1.length:Int)).bind fun b=>(zqb ((p0.1.length:Int).toNat) b p1).bind fun c=>(idx a p1).bind fun g=>(some (a.set p1.toNat p1)).bind fun d=>(iter (zcc p0) (d,c)).bind fun e=>zgr p1 f e
def zfF (a:Int×LM) (b:LM):Option ((Int×LM) ⊕ (Int×(LM×LM))):=
 some (.inl (w64 (a.1+1),b))
def zbD (b:LI) (a:Int×LM):Option ((Int×LM) ⊕ (LM)):=
 if decide (a.1<(b.length:Int)) then ((idx b (w64 (a.1 - 1))).bind fun g=>(idx a.2 g).bind fun c=>(idx b a.1).bind fun d=>(idx c d).bind fun j=>(idx c d).bind fun m=>(some (a.2.set g.toNat (c.set d.toNat (w64 (j+1))))).bind fun h=>(idx b a.1).bind fun i=>(idx h i).bind fun e=>(idx b (w64 (a.1 - 1))).bind fun f=>(idx e f).bind fun k=>(idx e f).bind fun n=>(some (h.set i.toNat (e.set f.toNat (w64 (k - 1))))).bind fun l=>some (.inl (w64 (a.1+1),l))) else (some (.inr a.2))
def zbE (p0:LM×LM) (a:Int×LM) (b:LI) (c:Bool):Option ((Int×LM) ⊕ (Int×(LM×LM))):=
 if c then (some (.inr (a.1,(p0.1,a.2)))) else ((iter (zbD b) (1,a.2)).bind fun d=>zfF a d)
def zdu (p0:LM×LM) (p1:Int) (c:Int) (d:Int) (a:Int×LM):Option ((Int×LM) ⊕ (Int×(LM×LM))):=
 (zf8 (p0.1,a.2) p1 c).bind fun b=>if decide (b=[]) then (zbE p0 a b true) else (zbE p0 a b (decide (a.1≥d)))
def zfi (p0:LM×LM) (p1:Int) (a:Int) (b:Int):Option (Int×(LM×LM)):=
 (iter (zdu p0 p1 a b) (0,p0.2)).bind fun x23=>some x23
def znZ  : Option (Bool):=
 some true
def ziZ (p0:Int) (p1:LB) (b:Int) (a:Int):Option (Int ⊕ (Unit ⊕ Bool)):=
 if decide (a<p0) then ((zh6 p0 p1).bind fun c=>(zfi c 0 a b).bind fun x23=>if decide (x23.1<b) then (some (.inr (.inr false))) else (some (.inl (w64 (a+1))))) else (some (.inr (.inl ())))
def zmq (p0:Int) (p1:LB) (a:Int):Option (Bool):=
 (iter (ziZ p0 p1 a) 1).bind fun b=>match b with | .inl z=>znZ | .inr z=>some z
def zdP (p0:LG×LT) (p1:LP) (a:Int):Option (Bool×Bool):=
 (zaE p0 p1).bind fun b=>(zgS (p1.length:Int) b a).bind fun x23=>if decide (x23.1>64) then (some (false,false)) else ((zmq x23.1 x23.2 a).bind fun c=>some (c,true))
def zlE (p0:LG×LT) (p1:LP) (a:Int):Option (Bool×Int):=
 (z1 p0 p1).bind fun b=>if !b then (some (false,1)) else ((zev a).bind fun c=>if !c then (some (false,2)) else ((zdP p0 p1 a).bind fun x23=>if !x23.2 then (some (false,4)) else (some (x23.1,0))))
def zar (p0:TS×(LP)×Int):Option (Bool):=
 if decide ((p0.2.1.length:Int)=0) then (some false) else ((zlE p0.1 p0.2.1 p0.2.2).bind fun a=>if a.1 then (some (decide (a.2=0))) else (some false))
def zew (a:Bool):Option (Int):=
 if a then (some 1) else (some 0)
def zjx (p0:TS×(LP)×Int) (p1:LP):Option (Int):=
 (zar p0).bind fun x23=>if !x23 then (zew true) else ((z1 p0.1 p1).bind fun a=>zew (!a))
def zg8  : Option (Bool):=
 some true
def zg7 (p0:LP) (p1:LP) (a:Int):Option (Int ⊕ (Unit ⊕ Bool)):=
 if decide (a<(p0.length:Int)) then ((idx p0 a).bind fun b=>(idx p1 a).bind fun c=>if !((decide (b.1.1=c.1.1)&&decide (b.1.2=c.1.2))&&decide (b.2=c.2)) then (some (.inr (.inr false))) else (some (.inl (w64 (a+1))))) else (some (.inr (.inl ())))
def zeE (p0:LP) (p1:LP):Option (Bool):=
 if !decide ((p0.length:Int)=(p1.length:Int)) then (some false) else ((iter (zg7 p0 p1) 0).bind fun a=>match a with | .inl z=>zg8 | .inr z=>some z)
def zg6  : Option (Bool):=
 some true
def zg5 (p0:LI) (p1:LI) (a:Int):Option (Int ⊕ (Unit ⊕ Bool)):=
 if decide (a<(p0.length:Int)) then ((idx p0 a).bind fun b=>(idx p1 a).bind fun c=>if !decide (b=c) then (some (.inr (.inr false))) else (some (.inl (w64 (a+1))))) else (some (.inr (.inl ())))
def zeD (p0:LI) (p1:LI):Option (Bool):=
 if !decide ((p0.length:Int)=(p1.length:Int)) then (some false) else ((iter (zg5 p0 p1) 0).bind fun a=>match a with | .inl z=>zg6 | .inr z=>some z)
def zem  : Option (Bool):=
 some true
def zel (p0:LM) (p1:LM) (e:LI→LI→Option Bool) (a:Int):Option (Int ⊕ (Unit ⊕ Bool)):=
 if decide (a<(p0.length:Int)) then ((idx p0 a).bind fun b=>(idx p1 a).bind fun c=>(e b c).bind fun d=>if !d then (some (.inr (.inr false))) else (some (.inl (w64 (a+1))))) else (some (.inr (.inl ())))
def zdK (p0:LM) (p1:LM) (b:LI→LI→Option Bool):Option (Bool):=
 if !decide ((p0.length:Int)=(p1.length:Int)) then (some false) else ((iter (zel p0 p1 b) 0).bind fun a=>match a with | .inl z=>zem | .inr z=>some z)
def zh9 (p0:Int×LP×LP×LI×LM) (p1:Int×LP×LP×LI×LM):Option (Bool):=
 if decide (p0.1=p1.1) then ((zeE p0.2.1 p1.2.1).bind fun a=>if a then ((zeE p0.2.2.1 p1.2.2.1).bind fun b=>if b then ((zeD p0.2.2.2.1 p1.2.2.2.1).bind fun c=>if c then ((zdK p0.2.2.2.2 p1.2.2.2.2 (fun e f=>zeD e f)).bind fun d=>some d) else (some false)) else (some false)) else (some false)) else (some false)
abbrev Prf:=Int×LP×LP×LI×LM
def zlT (p:Prf):Prf:=if p.1=1∨p.1=2∨p.1=3 then (0,[],p.2.2.1,p.2.2.2.1,p.2.2.2.2) else if p.1=4 then (0,[],[],p.2.2.2.1,p.2.2.2.2) else if p.1=5 then (0,p.2.1,p.2.2.1,p.2.2.2.1,[]) else (0,p.2.1,p.2.2.1,[],p.2.2.2.2)
def zey (p:Prf):Option Bool:=zh9 (zlT p) (0,[],[],[],[])
abbrev Sy:=TS×LP×Int
abbrev CrySt:=Sy×LP×List ((Int×Int)×LI)
def zgt (b bm bo:Nat):List Nat:=[b,bm,bo]
def cat (m:LP) (p:Int×Int):Int:=if zgm m p=true then (zcT m p).getD 0 else -1
def zeN (q:CrySt) (p:Int×Int):Option Int:=some (cat q.2.1 p)
def zxT:Option (Nat×((Int×Int)×Int))→Value
 | none=>.nilIface
 | some (T,o)=>.iface T (.agg #[.int .i64 o.1.1,.int .i64 o.1.2,.int .i64 o.2])
def zxi (e:Option (Nat×((Int×Int)×Int))):Prop:=∀ T o,e=some (T,o)→(T=344∨T=346∨T=348)∧(-9223372036854775808≤o.1.1∧o.1.1≤9223372036854775807)∧(-9223372036854775808≤o.1.2∧o.1.2≤9223372036854775807)∧(-9223372036854775808≤o.2∧o.2≤9223372036854775807)
theorem zuq:zxi none:=fun _ _ h=>by cases h
theorem zrr {T:Nat} {a b c:Int} (h:T=344∨T=346∨T=348) (ha:I64 a) (hb:I64 b) (hc:I64 c):zxi (some (T,(a,b),c)):=fun T' o e=>by
 injection e with e;injection e with e1 e2;subst e1;subst e2;exact ⟨h,ha,hb,hc⟩
def zhn (a:Int):Option (Int):=
 some a
def zbW (a:Int×Int) (b:Int):Option ((Int×Int) ⊕ Int):=
 some (.inl (b,w64 (a.2+1)))
def zbV (p0:LG×LT) (p1:Int×Int) (e:Int) (f:(Int×Int)→Option Int) (a:Int×Int):Option ((Int×Int) ⊕ Int):=
 if decide (a.2<4) then ((zR p1 a.2).bind fun c=>(f c).bind fun b=>if decide (b≥0) then ((zav p0 e a.2 b).bind fun d=>zbW a (w64 (a.1+d))) else (zbW a a.1)) else (some (.inr a.1))
def zbF (p0:LG×LT) (p1:Int×Int) (b:Int) (c:(Int×Int)→Option Int):Option (Int):=
 (iter (zbV p0 p1 b c) (0,0)).bind fun a=>zhn a
def zbU (q:CrySt) (p:Int×Int) (k:Int):Option Bool:=
 (zeO p).bind fun x=>if x=true then (if decide (cat q.2.1 p<0)=true then (zbF q.1.1 p k (zeN q)).bind fun s=>some (decide (s≥q.1.2.2)) else some false) else some false
def zfH (a:CrySt):Option (CrySt):=
 some a
def zaX (a:Int×CrySt) (b:CrySt):Option ((Int×CrySt) ⊕ CrySt):=
 some (.inl (w64 (a.1+1),b))
def zcI (a:Int×CrySt) (b:(Int×Int)) (c:LI):Option ((Int×CrySt) ⊕ CrySt):=
 if decide ((c.length:Int)>0) then (zaX a (a.2.1,a.2.2.1,zbC a.2.2.2 b c)) else (zaX a (a.2.1,a.2.2.1,zko a.2.2.2 b))
def zaW (a:LI×Int) (b:LI):Option ((LI×Int) ⊕ (LI)):=
 some (.inl (b,w64 (a.2+1)))
def zab (b:Int×CrySt) (c:(Int×Int)) (a:LI×Int):Option ((LI×Int) ⊕ (LI)):=
 if decide (a.2<(b.2.1.1.2.length:Int)) then ((zbU b.2 c a.2).bind fun d=>if d then ((app 8 a.1 [a.2]).bind fun e=>zaW a e) else (zaW a a.1)) else (some (.inr a.1))
def zan (p1:Int×Int) (a:Int×CrySt):Option ((Int×CrySt) ⊕ CrySt):=
 if decide (a.1<4) then ((zR p1 a.1).bind fun b=>(iter (zab a b) ([],0)).bind fun c=>zcI a b c) else (some (.inr a.2))
def zaJ (p0:CrySt) (p1:Int×Int):Option (CrySt):=
 (iter (zan p1) (0,p0)).bind fun a=>zfH a
def zky (a:CrySt):Option (CrySt):=
 some a
def zbj (p1:LP) (a:Int×CrySt):Option ((Int×CrySt) ⊕ CrySt):=
 if decide (a.1<(p1.length:Int)) then ((idx p1 a.1).bind fun b=>(zaJ a.2 b.1).bind fun c=>some (.inl (w64 (a.1+1),c))) else (some (.inr a.2))
def zg9 (p1:LP) (a:CrySt):Option (CrySt):=
 (iter (zbj p1) (0,a)).bind fun b=>zky b
def zbk (p1:LP) (a:Int×CrySt):Option ((Int×CrySt) ⊕ CrySt):=
 if decide (a.1<(p1.length:Int)) then ((idx p1 a.1).bind fun b=>some (.inl (w64 (a.1+1),(a.2.1,zbC a.2.2.1 b.1 b.2,a.2.2.2)))) else (some (.inr a.2))
def zb1 (p0:TS×(LP)×Int) (p1:LP):Option (CrySt):=
 (iter (zbk p1) (0,(((p0.1.1,p0.1.2),p0.2.1,p0.2.2),[],[]))).bind fun a=>zg9 p1 a
def zea (p0:CrySt) (p1:Int×Int) (a:Int):Option (CrySt):=
 (zaJ ((p0.1,zbC p0.2.1 p1 a,p0.2.2).1,(p0.1,zbC p0.2.1 p1 a,p0.2.2).2.1,zko ((p0.1,zbC p0.2.1 p1 a,p0.2.2).2.2) p1) p1).bind fun b=>some b
def zb9 (c:LP) (a:Bool):Option (LP):=
 if a then (some ([]:LP)) else ((app 24 ([]:LP) c).bind fun b=>some b)
def zd1 (p0:LP):Option (LP):=
 zb9 p0 false
def zhg (p0:(Int×Int)×Int) (p1:(Int×Int)×Int):Option (Int):=
 (zag p0.1 p1.1).bind fun a=>some a
def za4 (a b:(Int×Int)×Int):Int:=if a.1.2<b.1.2 then -1 else if b.1.2<a.1.2 then 1 else if a.1.1<b.1.1 then -1 else if b.1.1<a.1.1 then 1 else 0
def zaB (p0:LP):Option LP:=
 if p0.length≤1048576 then some (Go.Sort.pdq (fun x y=>decide (za4 x y<0)) p0.toArray 0 p0.length (Go.Lib.bitLen p0.length) true true).toList else none
def zcO (q:CrySt):Option LP:=zaB q.2.1
def zfK (a:CrySt):Option ((LP)×Int×Int):=
 (zcO a).bind fun b=>some (b,0,0)
def zao (a:Int×CrySt) (b:(Int×Int)×Int) (c:Bool):Option ((Int×CrySt) ⊕ (CrySt ⊕ ((LP)×Int×Int))):=
 if c then (some (.inr (.inr ([],a.1,5)))) else ((zvt a.2.2.1).bind fun d=>if decide (d≥500) then (some (.inr (.inr ([],0,4)))) else ((zea a.2 b.1 b.2).bind fun e=>some (.inl (w64 (a.1+1),e))))
def zY (p0:TS×(LP)×Int) (p1:LP) (a:Int×CrySt):Option ((Int×CrySt) ⊕ (CrySt ⊕ ((LP)×Int×Int))):=
 if decide (a.1<(p1.length:Int)) then ((idx p1 a.1).bind fun b=>(za3 p0.1 b.2).bind fun c=>if !c then (zao a b true) else ((zbU a.2 b.1 b.2).bind fun d=>zao a b (!d))) else (some (.inr (.inl a.2)))
def zbX (p0:TS×(LP)×Int) (p1:LP):Option ((LP)×Int×Int):=
 (zar p0).bind fun a=>if !a then (some ([],0,1)) else (if decide ((p1.length:Int)>500) then (some ([],0,2)) else ((zb1 p0 p0.2.1).bind fun b=>(iter (zY p0 p1) (0,b)).bind fun c=>match c with | .inl z=>zfK z | .inr z=>some z))
def zjC  : Option (Bool):=
 some true
def zjB (p0:LP) (p1:LP) (a:Int):Option (Int ⊕ (Unit ⊕ Bool)):=
 if decide (a<(p0.length:Int)) then ((idx p0 a).bind fun b=>(idx p1 a).bind fun c=>if !((decide (b.1.1=c.1.1)&&decide (b.1.2=c.1.2))&&decide (b.2=c.2)) then (some (.inr (.inr false))) else (some (.inl (w64 (a+1))))) else (some (.inr (.inl ())))
def ziz (p0:LP) (p1:LP):Option (Bool):=
 if !decide ((p0.length:Int)=(p1.length:Int)) then (some false) else ((iter (zjB p0 p1) 0).bind fun a=>match a with | .inl z=>zjC | .inr z=>some z)
def zfk (p0:LP) (p1:LP):Option (Bool):=
 (ziz p0 p1).bind fun a=>some a
def zaj (p0:LP) (p1:TS×(LP)×Int) (c:LP):Option (Bool):=
 (zbX p1 p0).bind fun a=>if decide (a.2.2=0) then ((zfk c a.1).bind fun b=>some b) else (some false)
def zha (q:CrySt):Option Int:=some (w64 ((q.2.2.map fun p=>(p.2.length:Int)).sum))
def zbt (p0:(LP)) (p1:TS×(LP)×Int) (a:LP):Option (Bool):=
 (zaj p0 p1 a).bind fun b=>if b then ((zb1 p1 a).bind fun c=>(zha c).bind fun d=>some (decide (d=0))) else (some false)
def zmp (p0:TS×(LP)×Int) (p1:LP) (a:(LP)×Int×Int) (b:LI) (c:LI):Option (((TS×(LP)×Int)×LP×(LP)×LI×LI)×Int):=
 some ((p0,(p1,(a.1,(b,c)))),0)
def zmo (a:Int×LI×LI×CrySt) (b:(Int×Int)×Int) (c:Int) (d:Int):Option ((Int×LI×LI×CrySt) ⊕ (LI×LI)):=
 (app 8 a.2.1 [c]).bind fun e=>(app 8 a.2.2.1 [d]).bind fun f=>(zea a.2.2.2 b.1 b.2).bind fun g=>some (.inl (w64 (a.1+1),e,f,g))
def zh3 (a:Int×Int×Int) (b:Int) (c:Int):Option ((Int×Int×Int) ⊕ (Int×Int)):=
 some (.inl (b,c,w64 (a.2.2+1)))
def zf6 (p0:TS×(LP)×Int) (e:Int×LI×LI×CrySt) (d:(Int×Int)×Int) (a:Int×Int×Int):Option ((Int×Int×Int) ⊕ (Int×Int)):=
 if decide (a.2.2<4) then ((zR d.1 a.2.2).bind fun f=>(zeN e.2.2.2 f).bind fun b=>if decide (b≥0) then ((zav p0.1 d.2 a.2.2 b).bind fun c=>if decide (c>0) then ((zt8 .i64 1 a.2.2).bind fun g=>zh3 a (ior .i64 a.1 g) (w64 (a.2.1+c))) else (zh3 a a.1 a.2.1)) else (zh3 a a.1 a.2.1)) else (some (.inr (a.1,a.2.1)))
def zf7 (p0:TS×(LP)×Int) (p1:LP) (a:Int×LI×LI×CrySt):Option ((Int×LI×LI×CrySt) ⊕ (LI×LI)):=
 if decide (a.1<(p1.length:Int)) then ((idx p1 a.1).bind fun c=>(iter (zf6 p0 a c) (0,0,0)).bind fun b=>zmo a c b.1 b.2) else (some (.inr (a.2.1,a.2.2.1)))
def zpT (p0:TS×(LP)×Int) (p1:LP):Option (((TS×(LP)×Int)×LP×(LP)×LI×LI)×Int):=
 (zbX p0 p1).bind fun a=>if !decide (a.2.2=0) then none else ((zb1 p0 p0.2.1).bind fun c=>(iter (zf7 p0 p1) (0,[],[],c)).bind fun b=>zmp p0 p1 a b.1 b.2)
def zni (p0:Int) (p1:Int):Option (Bool):=
 (ztm .i64 p0 p1).bind fun a=>some (decide ((zrP .i64 a 1)=1))
def zdY  : Option (Int):=
 some (-1)
def zdX (p0:LP) (p1:((Int×Int)×Int)→Option Bool) (a:Int):Option (Int ⊕ (Unit ⊕ Int)):=
 if decide (a<(p0.length:Int)) then ((idx p0 a).bind fun b=>(p1 b).bind fun c=>if c then (some (.inr (.inr a))) else (some (.inl (w64 (a+1))))) else (some (.inr (.inl ())))
def zdj (p0:LP) (p1:((Int×Int)×Int)→Option Bool):Option (Int):=
 (iter (zdX p0 p1) 0).bind fun a=>match a with | .inl z=>zdY | .inr z=>some z
def zck (p0:(Int×Int)×Int) (p1:Int×Int):Option (Bool):=
 some (decide (p0.1.1=p1.1)&&decide (p0.1.2=p1.2))
def zgo (p0:(TS×(LP)×Int)×LP×(LP)×LI×LI) (p1:Int×Int):Option (Int):=
 (zdj p0.2.1 (fun b=>zck b p1)).bind fun a=>some a
def zes (a:Int):Option (Int):=
 some a
def zcj (a:Int×Int) (b:Int):Option ((Int×Int) ⊕ Int):=
 some (.inl (b,w64 (a.2+1)))
def zci (a:Int×Int) (b:Bool):Option ((Int×Int) ⊕ Int):=
 if b then ((zt8 .i64 1 a.2).bind fun c=>zcj a (ior .i64 a.1 c)) else (zcj a a.1)
def zaT (p0:(TS×(LP)×Int)×LP×(LP)×LI×LI) (p1:Int) (a:Int×Int):Option ((Int×Int) ⊕ Int):=
 if decide (a.2<4) then ((idx p0.2.1 p1).bind fun c=>(zR c.1 a.2).bind fun d=>(zgo p0 d).bind fun b=>if decide (b>p1) then ((idx p0.2.2.2.1 b).bind fun e=>(zgD a.2).bind fun f=>(zni e f).bind fun g=>zci a g) else (zci a false)) else (some (.inr a.1))
def zdM (p0:(TS×(LP)×Int)×LP×(LP)×LI×LI) (p1:Int):Option (Int):=
 (iter (zaT p0 p1) (0,0)).bind fun a=>zes a
def zdC (b:LP) (a:Int):Option (LP):=
 (clr b a ((0,0),0)).bind fun c=>(zjI c 0 a).bind fun d=>some d
def zbq (a:LP×Int×Int) (b:LP) (c:Int):Option ((LP×Int×Int) ⊕ (LP×Int)):=
 some (.inl (b,c,w64 (a.2.2+1)))
def zbp (p1:((Int×Int)×Int)→Option Bool) (a:LP×Int×Int):Option ((LP×Int×Int) ⊕ (LP×Int)):=
 if decide (a.2.2<(a.1.length:Int)) then ((idx a.1 a.2.2).bind fun b=>(p1 b).bind fun c=>if !c then ((idx a.1 a.2.1).bind fun e=>(some (a.1.set a.2.1.toNat b)).bind fun d=>zbq a d (w64 (a.2.1+1))) else (zbq a a.1 a.2.1)) else (some (.inr (a.1,a.2.1)))
def zcM (p0:LP) (p1:((Int×Int)×Int)→Option Bool):Option (LP):=
 (zaH p0 p1).bind fun a=>if decide (a=(-1)) then (some p0) else ((iter (zbp p1) (p0,a,w64 (a+1))).bind fun b=>zdC b.1 b.2)
def zgl  : Option (Int):=
 some (-1)
def zgk (p0:List (Int×Int)) (p1:Int×Int) (a:Int):Option (Int ⊕ (Unit ⊕ Int)):=
 if decide (a<(p0.length:Int)) then ((idx p0 a).bind fun b=>if (decide (p1.1=b.1)&&decide (p1.2=b.2)) then (some (.inr (.inr a))) else (some (.inl (w64 (a+1))))) else (some (.inr (.inl ())))
def ziy (p0:List (Int×Int)) (p1:Int×Int):Option (Int):=
 (iter (zgk p0 p1) 0).bind fun a=>match a with | .inl z=>zgl | .inr z=>some z
def zdL (p0:List (Int×Int)) (p1:Int×Int):Option (Bool):=
 (ziy p0 p1).bind fun a=>some (decide (a≥0))
def zdF (p0:(Int×Int)×Int) (p1:List (Int×Int)):Option (Bool):=
 (zdL p1 p0.1).bind fun a=>some a
def zcQ (p0:LP) (p1:List (Int×Int)):Option ((LP)):=
 (zd1 p0).bind fun a=>(zcM a (fun c=>zdF c p1)).bind fun b=>some b
def zec (p0:LP) (p1:Int×Int):Option (Int):=
 (z2 p0 p1 (fun c d=>zZ c d)).bind fun a=>if a.2 then ((idx p0 a.1).bind fun b=>some b.2) else (some (-1))
def zh2  : Option (Bool):=
 some false
def zcm (a:Int) (b:Bool):Option (Int ⊕ (Unit ⊕ Bool)):=
 if b then (some (.inr (.inr true))) else (some (.inl (w64 (a+1))))
def zaU (p0:(TS×(LP)×Int)×LP×(LP)×LI×LI) (b:(Int×Int)×Int) (c:(LP)) (a:Int):Option (Int ⊕ (Unit ⊕ Bool)):=
 if decide (a<(p0.1.1.2.length:Int)) then (if !decide (a=b.2) then ((zbF p0.1.1 b.1 a (fun e=>zec c e)).bind fun d=>zcm a (decide (d≥p0.1.2.2))) else (zcm a false)) else (some (.inr (.inl ())))
def zet (p0:(TS×(LP)×Int)×LP×(LP)×LI×LI) (a:(Int×Int)×Int) (b:List (Int×Int)):Option (Bool):=
 (zcQ p0.2.2.1 b).bind fun c=>(iter (zaU p0 a c) 0).bind fun d=>match d with | .inl z=>zh2 | .inr z=>some z
def zcl (a:(List (Int×Int))×Int) (b:List (Int×Int)):Option (((List (Int×Int))×Int) ⊕ ((List (Int×Int)))):=
 some (.inl (b,w64 (a.2+1)))
def zaV (p0:(TS×(LP)×Int)×LP×(LP)×LI×LI) (p1:Int) (b:(Int×Int)×Int) (a:(List (Int×Int))×Int):Option (((List (Int×Int))×Int) ⊕ ((List (Int×Int)))):=
 if decide (a.2<4) then ((zdM p0 p1).bind fun c=>(zni c a.2).bind fun d=>if d then ((zR b.1 a.2).bind fun e=>(app 16 a.1 [e]).bind fun f=>zcl a f) else (zcl a a.1)) else (some (.inr a.1))
def zdN (p0:(TS×(LP)×Int)×LP×(LP)×LI×LI) (p1:Int):Option (Bool):=
 (idx p0.2.1 p1).bind fun a=>(iter (zaV p0 p1 a) ([a.1],0)).bind fun b=>zet p0 a b
def zdG (a b:Int×Int):Int:=if a.2<b.2 then -1 else if b.2<a.2 then 1 else if a.1<b.1 then -1 else if b.1<a.1 then 1 else 0
def zsE (l:List (Int×Int)):List (Int×Int):=(Go.Sort.pdq (fun x y=>decide (zdG x y<0)) l.toArray 0 l.length (Go.Lib.bitLen l.length) true true).toList
def zdx (q:CrySt):Option LP:=
 if q.2.2.length≤100000∧∀ p∈q.2.2,p.2.length≤100000 then some ((zsE (q.2.2.map Prod.fst)).flatMap fun p=>((zcT q.2.2 p).getD []).map fun k=>(p,k)) else none
def zfE (p0:(TS×(LP)×Int)×LP×(LP)×LI×LI):Option ((Option (Nat×((Int×Int)×Int)))):=
 (zb1 p0.1 p0.2.2.1).bind fun c=>(zdx c).bind fun b=>if decide ((b.length:Int)>0) then ((idx b 0).bind fun a=>some (some (348,(a.1.1,a.1.2),a.2))) else (some (none:Option (Nat×((Int×Int)×Int))))
def zdt (p0:(TS×(LP)×Int)×LP×(LP)×LI×LI) (a:Int):Option (Int ⊕ (Unit ⊕ ((Option (Nat×((Int×Int)×Int)))))):=
 if decide (a<(p0.2.1.length:Int)) then ((idx p0.2.1 a).bind fun b=>(idx p0.2.2.2.2 a).bind fun c=>if !decide (c=p0.1.2.2) then (some (.inr (.inr (some (344,(b.1.1,b.1.2),b.2))))) else ((zdN p0 a).bind fun d=>if d then (some (.inr (.inr (some (346,(b.1.1,b.1.2),b.2))))) else (some (.inl (w64 (a+1)))))) else (some (.inr (.inl ())))
def zh1 (p0:(TS×(LP)×Int)×LP×(LP)×LI×LI):Option ((Option (Nat×((Int×Int)×Int)))):=
 (iter (zdt p0) 0).bind fun a=>match a with | .inl z=>zfE p0 | .inr z=>some z
def znN (p0:((Int×Int)×Int)):Option ((Int×Int)):=
 some p0.1
def zmI (p0:((Int×Int)×Int)):Option (Int):=
 some 1
def zoe (p0:((Int×Int)×Int)):Option ((Int×Int)):=
 some p0.1
def znf (p0:((Int×Int)×Int)):Option (Int):=
 some 2
def zpV (p0:((Int×Int)×Int)):Option ((Int×Int)):=
 some p0.1
def zog (p0:((Int×Int)×Int)):Option (Int):=
 some 3
def zgU (p0:Sy) (p1:LP):Option (Int×(Int×Int)×Int):=
 (zpT p0 p1).bind fun x=>if (!decide (x.2=0))=true then some (0,(0,0),x.2) else (zh1 x.1).bind fun v=>match v with
  | none=>some (0,(0,0),3)
  | some (T,o)=>some (if T=344 then 1 else if T=346 then 2 else 3,o.1,0)
def zjZ (p0:TS×(LP)×Int) (p1:LP):Option (Bool):=
 (zgU p0 p1).bind fun a=>some (decide (a.2.2=3))
def zcg (p0:(LP)) (p1:TS×(LP)×Int) (c:LP):Option (Bool):=
 (zaj p0 p1 c).bind fun a=>if a then ((zjZ p1 p0).bind fun b=>some b) else (some false)
def ziY (p0:LP):Option (((Int×Int)×Int)):=
 (idx p0 (w64 ((p0.length:Int) - 1))).bind fun a=>some a
def zak (p0:(LP)×LP) (p1:TS×(LP)×Int) (c:Bool):Option (Bool):=
 if c then (some false) else ((zbX p1 p0.2).bind fun d=>(ziY p0.1).bind fun a=>(ziY p0.2).bind fun b=>if decide (d.2.2=0) then (if (decide (a.1.1=b.1.1)&&decide (a.1.2=b.1.2)) then (some (!decide (a.2=b.2))) else (some false)) else (some false))
def zbv (p0:(LP)×LP) (p1:TS×(LP)×Int) (b:LP):Option (Bool):=
 if decide ((p0.1.length:Int)=0) then (zak p0 p1 true) else (if decide ((p0.2.length:Int)=0) then (zak p0 p1 true) else ((zaj p0.1 p1 b).bind fun a=>zak p0 p1 (!a)))
def zeM (a:Bool):Option (Int):=
 if a then (some 2) else (some 0)
def zms (p0:LG×LT) (p1:LP) (a:Int) (b:Int):Option (Int):=
 (z1 p0 p1).bind fun c=>if !c then (some 1) else ((zaA a (p1.length:Int)).bind fun x23=>if !x23 then (zeM true) else ((zaA b (p1.length:Int)).bind fun d=>if !d then (zeM true) else (zeM (decide (a=b)))))
def zib (c:Int) (a:LI):Option (Int×Int):=
 (idx a c).bind fun b=>some (b,0)
def zdy (a:Int) (b:Bool):Option (Int ⊕ (Unit ⊕ (Int×Int))):=
 if b then (some (.inr (.inr (0,10)))) else (some (.inl (w64 (a+1))))
def zbY (d:Int) (e:Int) (b:LI) (a:Int):Option (Int ⊕ (Unit ⊕ (Int×Int))):=
 if decide (a<(b.length:Int)) then ((idx b a).bind fun c=>if !decide (c=0) then (if !decide (a=d) then (zdy a (!decide (a=e))) else (zdy a false)) else (zdy a false)) else (some (.inr (.inl ())))
def zic (b:Int) (d:Int) (a:LI):Option (Int×Int):=
 (iter (zbY b d a) 0).bind fun c=>match c with | .inl z=>zib b a | .inr z=>some z
def zfl (e:LI) (d:LB) (a:LI×Int):Option ((LI×Int) ⊕ ((LI) ⊕ (Int×Int))):=
 if decide (a.2<(d.length:Int)) then ((idx d a.2).bind fun b=>(idx e a.2).bind fun g=>(zaI g (w64 (0 - b.2.2)) b.2.2).bind fun h=>if !h then (some (.inr (.inr (0,10)))) else ((idx a.1 b.1).bind fun i=>(idx e a.2).bind fun j=>(idx a.1 b.1).bind fun m=>(some (a.1.set b.1.toNat (w64 (i+j)))).bind fun c=>(idx c b.2.1).bind fun k=>(idx e a.2).bind fun l=>(idx c b.2.1).bind fun n=>(some (c.set b.2.1.toNat (w64 (k - l)))).bind fun f=>some (.inl (f,w64 (a.2+1))))) else (some (.inr (.inl a.1)))
def zid (p0:LG×LT) (p1:LP) (b:Int) (c:Int) (d:LI):Option (Int×Int):=
 (zms p0 p1 b c).bind fun x23=>if !decide (x23=0) then (some (0,x23)) else ((zaE p0 p1).bind fun a=>if !decide ((d.length:Int)=(a.length:Int)) then (some (0,10)) else ((mkl 8 (p1.length:Int) 0).bind fun e=>(iter (zfl d a) (e,0)).bind fun f=>match f with | .inl z=>zic b c z | .inr z=>some z))
def zgd  : Option (Bool):=
 some true
def za9 (a:Int) (b:Bool):Option (Int ⊕ (Unit ⊕ Bool)):=
 if b then (some (.inr (.inr false))) else (some (.inl (w64 (a+1))))
def zae (p0:LM) (p1:TS×(LP)×Int) (d:LP) (a:Int):Option (Int ⊕ (Unit ⊕ Bool)):=
 if decide (a<(p0.length:Int)) then ((idx p0 a).bind fun c=>(zid p1.1 d 0 (w64 (a+1)) c).bind fun b=>if !decide (b.2=0) then (za9 a true) else (za9 a (decide (b.1<p1.2.2)))) else (some (.inr (.inl ())))
def zch (p0:LM) (p1:TS×(LP)×Int) (a:LP):Option (Bool):=
 if !decide ((p0.length:Int)=(zyS (w64 ((a.length:Int) - 1)) 0)) then (some false) else ((iter (zae p0 p1 a) 0).bind fun b=>match b with | .inl z=>zgd | .inr z=>some z)
def zho  : Option (Bool):=
 some true
def zal (a:Int) (b:Bool):Option (Int ⊕ (Unit ⊕ Bool)):=
 if b then (some (.inr (.inr false))) else (some (.inl (w64 (a+1))))
def zV (p0:LP) (p1:LI) (a:Int):Option (Int ⊕ (Unit ⊕ Bool)):=
 if decide (a<(p1.length:Int)) then ((idx p1 a).bind fun b=>(zaA b (p0.length:Int)).bind fun c=>if !c then (zal a true) else (if decide (a>0) then ((idx p1 (w64 (a - 1))).bind fun d=>zal a (decide (b≤d))) else (zal a false))) else (some (.inr (.inl ())))
def zdz (p0:LP) (p1:LI):Option (Bool):=
 (iter (zV p0 p1) 0).bind fun a=>match a with | .inl z=>zho | .inr z=>some z
def zkx (a:Int):Option (Int):=
 some a
def zcH (p0:LB) (a:Int×Int):Option ((Int×Int) ⊕ Int):=
 if decide (a.2<(p0.length:Int)) then ((idx p0 a.2).bind fun b=>some (.inl (w64 (a.1+b.2.2),w64 (a.2+1)))) else (some (.inr a.1))
def zgR (p0:LB):Option (Int):=
 (iter (zcH p0) (0,0)).bind fun a=>zkx a
def zgj  : Option (Int):=
 some (-1)
def zgi (p0:LI) (p1:Int) (a:Int):Option (Int ⊕ (Unit ⊕ Int)):=
 if decide (a<(p0.length:Int)) then ((idx p0 a).bind fun b=>if decide (p1=b) then (some (.inr (.inr a))) else (some (.inl (w64 (a+1))))) else (some (.inr (.inl ())))
def zix (p0:LI) (p1:Int):Option (Int):=
 (iter (zgi p0 p1) 0).bind fun a=>match a with | .inl z=>zgj | .inr z=>some z
def zb8 (p0:LI) (p1:Int):Option (Bool):=
 (zix p0 p1).bind fun a=>some (decide (a≥0))
def zdO (p0:Int×Int×Int) (p1:LI):Option (Bool):=
 (zb8 p1 p0.1).bind fun a=>(zb8 p1 p0.2.1).bind fun b=>some (a == b)
def zf9 (p0:LB) (p1:LI):Option (Int):=
 (zcu p0).bind fun a=>(zba a (fun d=>zdO d p1)).bind fun b=>(zgR b).bind fun c=>some c
def ziL (p0:LG×LT) (p1:LP) (a:LI):Option (Int×Int):=
 (z1 p0 p1).bind fun b=>if !b then (some (0,1)) else ((zdz p1 a).bind fun c=>if !c then (some (0,2)) else ((zaE p0 p1).bind fun d=>(zf9 d a).bind fun e=>some (e,0)))
def zcN (p0:LI) (p1:TS×(LP)×Int) (b:LP):Option (Bool):=
 (ziL p1.1 b p0).bind fun a=>if decide (a.2=0) then (if decide ((p0.length:Int)>0) then (if decide ((p0.length:Int)<(b.length:Int)) then (some (decide (a.1<p1.2.2))) else (some false)) else (some false)) else (some false)
def zer (p0:Sy) (p1:LP) (p:Prf):Option Bool:=
 if p.1=1 then zaj p.2.1 p0 p1 else if p.1=2 then zbt p.2.1 p0 p1 else if p.1=3 then zcg p.2.1 p0 p1
 else if p.1=4 then zbv (p.2.1,p.2.2.1) p0 p1 else if p.1=5 then zch p.2.2.2.2 p0 p1 else zcN p.2.2.2.1 p0 p1
def zeP (p0:Sy) (p1:LP) (a:Prf):Option Int:=
 (zjx p0 p1).bind fun c=>if (!decide (c=0))=true then some 1 else (zaI a.1 1 6).bind fun w=>if (!w)=true then some 2 else
  (zey a).bind fun b=>if b=true then (zer p0 p1 a).bind fun r=>some (if r=true then 0 else 10) else some 10
def zgT (p0:BS×(TS×(LP)×Int)×(LP)×(Int×LP×LP×LI×LM)):Option (Bool):=
 (zfL p0.1).bind fun a=>if a then ((zeP p0.2.1 p0.2.2.1 p0.2.2.2).bind fun b=>some (decide (b=0))) else (some false)
def zhV (p0:Int×Int) (p1:Int×Int):Option (Bool):=
 if !decide (p0.1=p1.1) then (some false) else (if !decide (p0.2=p1.2) then (some false) else (some true))
def zlw (p0:(Int×Int)×Int) (p1:(Int×Int)×Int):Option (Bool):=
 (zhV p0.1 p1.1).bind fun a=>if !a then (some false) else (if !decide (p0.2=p1.2) then (some false) else (some true))
def zhW  : Option (Bool):=
 some true
def zdp (p0:LP) (p1:LP) (a:Int):Option (Int ⊕ (Unit ⊕ Bool)):=
 if decide (a<(p0.length:Int)) then ((idx p0 a).bind fun b=>(idx p1 a).bind fun c=>(zlw b c).bind fun d=>if !d then (some (.inr (.inr false))) else (some (.inl (w64 (a+1))))) else (some (.inr (.inl ())))
def zhX (p0:LP) (p1:LP):Option (Bool):=
 if !decide ((p0.length:Int)=(p1.length:Int)) then (some false) else ((iter (zdp p0 p1) 0).bind fun a=>match a with | .inl z=>zhW | .inr z=>some z)
def zgQ (p0:LP) (p1:LP):Option (Bool):=
 (zhX p0 p1).bind fun a=>if !a then (some false) else (some true)
def znd (p0:BS×Int) (p1:BS×Int):Option (Bool):=
 if !decide (p0.1=p1.1) then (some false) else (if !decide (p0.2=p1.2) then (some false) else (some true))
def zjv  : Option (Bool):=
 some true
def zeJ (p0:LG) (p1:LG) (a:Int):Option (Int ⊕ (Unit ⊕ Bool)):=
 if decide (a<(p0.length:Int)) then ((idx p0 a).bind fun b=>(idx p1 a).bind fun c=>(znd b c).bind fun d=>if !d then (some (.inr (.inr false))) else (some (.inl (w64 (a+1))))) else (some (.inr (.inl ())))
def zjU (p0:LG) (p1:LG):Option (Bool):=
 if !decide ((p0.length:Int)=(p1.length:Int)) then (some false) else ((iter (zeJ p0 p1) 0).bind fun a=>match a with | .inl z=>zjv | .inr z=>some z)
def ziE  : Option (Bool):=
 some true
def zd4 (p0:LI) (p1:LI) (a:Int):Option (Int ⊕ (Unit ⊕ Bool)):=
 if decide (a<(p0.length:Int)) then ((idx p0 a).bind fun b=>(idx p1 a).bind fun c=>if !decide (b=c) then (some (.inr (.inr false))) else (some (.inl (w64 (a+1))))) else (some (.inr (.inl ())))
def ze1 (p0:LI) (p1:LI):Option (Bool):=
 if !decide ((p0.length:Int)=(p1.length:Int)) then (some false) else ((iter (zd4 p0 p1) 0).bind fun a=>match a with | .inl z=>ziE | .inr z=>some z)
def znc (p0:BS×LI) (p1:BS×LI):Option (Bool):=
 if !decide (p0.1=p1.1) then (some false) else ((ze1 p0.2 p1.2).bind fun a=>if !a then (some false) else (some true))
def zju  : Option (Bool):=
 some true
def zeI (p0:LT) (p1:LT) (a:Int):Option (Int ⊕ (Unit ⊕ Bool)):=
 if decide (a<(p0.length:Int)) then ((idx p0 a).bind fun b=>(idx p1 a).bind fun c=>(znc b c).bind fun d=>if !d then (some (.inr (.inr false))) else (some (.inl (w64 (a+1))))) else (some (.inr (.inl ())))
def zjT (p0:LT) (p1:LT):Option (Bool):=
 if !decide ((p0.length:Int)=(p1.length:Int)) then (some false) else ((iter (zeI p0 p1) 0).bind fun a=>match a with | .inl z=>zju | .inr z=>some z)
def zkv (p0:LG×LT) (p1:LG×LT):Option (Bool):=
 (zjU p0.1 p1.1).bind fun a=>if !a then (some false) else ((zjT p0.2 p1.2).bind fun b=>if !b then (some false) else (some true))
def zlv (p0:TS×(LP)×Int) (p1:TS×(LP)×Int):Option (Bool):=
 (zkv p0.1 p1.1).bind fun a=>if !a then (some false) else ((zgQ p0.2.1 p1.2.1).bind fun b=>if !b then (some false) else (if !decide (p0.2.2=p1.2.2) then (some false) else (some true)))
def zlx (p0:(Int×Int)×Int) (p1:(Int×Int)×Int):Option (Bool):=
 (zhV p0.1 p1.1).bind fun a=>if !a then (some false) else (if !decide (p0.2=p1.2) then (some false) else (some true))
def zhY  : Option (Bool):=
 some true
def zdq (p0:LP) (p1:LP) (a:Int):Option (Int ⊕ (Unit ⊕ Bool)):=
 if decide (a<(p0.length:Int)) then ((idx p0 a).bind fun b=>(idx p1 a).bind fun c=>(zlx b c).bind fun d=>if !d then (some (.inr (.inr false))) else (some (.inl (w64 (a+1))))) else (some (.inr (.inl ())))
def zfD (p0:LP) (p1:LP):Option (Bool):=
 if !decide ((p0.length:Int)=(p1.length:Int)) then (some false) else ((iter (zdq p0 p1) 0).bind fun a=>match a with | .inl z=>zhY | .inr z=>some z)
def zhZ  : Option (Bool):=
 some true
def zdr (p0:LM) (p1:LM) (a:Int):Option (Int ⊕ (Unit ⊕ Bool)):=
 if decide (a<(p0.length:Int)) then ((idx p0 a).bind fun b=>(idx p1 a).bind fun c=>(ze1 b c).bind fun d=>if !d then (some (.inr (.inr false))) else (some (.inl (w64 (a+1))))) else (some (.inr (.inl ())))
def zh0 (p0:LM) (p1:LM):Option (Bool):=
 if !decide ((p0.length:Int)=(p1.length:Int)) then (some false) else ((iter (zdr p0 p1) 0).bind fun a=>match a with | .inl z=>zhZ | .inr z=>some z)
def zmj (p0:Int×LP×LP×LI×LM) (p1:Int×LP×LP×LI×LM):Option (Bool):=
 if !decide (p0.1=p1.1) then (some false) else ((zfD p0.2.1 p1.2.1).bind fun a=>if !a then (some false) else ((zfD p0.2.2.1 p1.2.2.1).bind fun b=>if !b then (some false) else ((ze1 p0.2.2.2.1 p1.2.2.2.1).bind fun c=>if !c then (some false) else ((zh0 p0.2.2.2.2 p1.2.2.2.2).bind fun d=>if !d then (some false) else (some true)))))
def zjV (p0:BS×(TS×(LP)×Int)×(LP)×(Int×LP×LP×LI×LM)) (p1:BS×(TS×(LP)×Int)×(LP)×(Int×LP×LP×LI×LM)):Option (Bool):=
 if !decide (p0.1=p1.1) then (some false) else ((zlv p0.2.1 p1.2.1).bind fun a=>if !a then (some false) else ((zgQ p0.2.2.1 p1.2.2.1).bind fun b=>if !b then (some false) else ((zmj p0.2.2.2 p1.2.2.2).bind fun c=>if !c then (some false) else (some true))))
def zep (p0:BS×(TS×(LP)×Int)×(LP)×(Int×LP×LP×LI×LM)):Option (Bool):=
 (zmi p0 1048576).bind fun e=>if decide (e<0) then (some true) else ((zf4 p0).bind fun f=>(zgL f).bind fun g=>(zf4 p0).bind fun a=>(zgT a).bind fun b=>if !(b == g) then (some false) else ((zf4 p0).bind fun c=>(zjV a c).bind fun d=>if !d then (some false) else (some true)))
end
end Go.Lf
namespace Go.Lf
open Go Go.Proofs
def tPoint:Ty (Int×Int):=(tPair tI64 tI64)
def tPlaced:Ty ((Int×Int)×Int):=(tPair tPoint tI64)
def tGlue:Ty (BS×Int):=(tPair tStr tI64)
def tTile:Ty (BS×LI):=(tPair tStr (tSl tI64))
def zT:Ty (Int×Int×Int):=(tPair tI64 (tPair tI64 tI64))
theorem zp7:KeyOk Tryz.prog 103 kPt:=zwP (fun em w x y=>kr) ⟨_,Tryz.underlying103,fun a b k es j hb=>kr⟩
 (fun w x y z t=>ztn (P:=Tryz.prog) (T:=103) kr 9998 .i64 .i64 x y z t w)
end Go.Lf
namespace Go.Lf
open Go
abbrev PT:=(Int×Int)×Int
theorem zph (a b:Int):zcZ a b=some (if a<b then -1 else if b<a then 1 else 0):=by
 unfold zcZ zgF
 simp only [gp,decide_true,au,ap,if_false]
 by_cases h:a<b
 ·simp [h]
 ·by_cases h2:b<a
  ·simp [h,h2]
  ·simp [h,h2]
theorem zuR (u v:Int):zkG [u,v]=some (if u=0 then v else u):=by
 unfold zkG
 have w1:w64 1=1:=by decide
 have w2:w64 2=2:=by decide
 by_cases hu:u=0
 ·have e0:zai [u,v] 0=some (.inl 1):=by unfold zai idx;simp [hu,w1]
  rw [zx e0]
  by_cases hv:v=0
  ·have e1:zai [u,v] 1=some (.inl 2):=by unfold zai idx;simp [hv,w2]
   have e2:zai [u,v] 2=some (.inr (.inl ())):=by unfold zai idx;simp
   rw [zx e1,zF e2]
   simp [zi2,hu,hv]
  ·have e1:zai [u,v] 1=some (.inr (.inr v)):=by unfold zai idx;simp [hv]
   rw [zF e1]
   simp [hu]
 ·have e0:zai [u,v] 0=some (.inr (.inr u)):=by unfold zai idx;simp [hu]
  rw [zF e0]
  simp [hu]
theorem zrx (x y:Int×Int):zag x y=some (zdG x y):=by
 unfold zag
 rw [zph,zph]
 simp only [gp,zuR]
 congr 1
 unfold zdG
 repeat' split
 all_goals first | rfl | omega
theorem zx3 (x y:PT):zhg x y=some (za4 x y):=by
 unfold zhg
 rw [zrx];rfl
theorem zrz (l:List PT) (h:l.length≤1048576):zd1 l=some l:=by
 unfold zd1 zb9 app
 simp
 omega
end Go.Lf
namespace Go.Proofs
open Go.Shelf
def Tryz.sort208_ren:Go.Shelf.Ren:=⟨fun | 6=>208 | 15=>211 | 14=>210 | 28=>220 | 29=>221 | 20=>212 | 21=>213 | 22=>214 | 23=>215 | 24=>216 | 25=>217 | 26=>218 | 27=>219 | 46=>222 | 47=>223 | 48=>224 | 49=>225 | 50=>226 | 57=>227 | n=>n,fun | 22=>44 | 24=>105 | 25=>309 | 3=>3 | 39=>269 | 0=>0 | 53=>272 | 55=>275 | 4=>4 | 46=>314 | 45=>313 | 50=>250 | 5=>5 | 9=>9 | 66=>321 | 70=>325 | 76=>327 | 77=>328 | n=>n,fun | n=>n⟩
theorem Tryz.sort208:Go.Proofs.SlLaysF0.n6 Tryz.prog Tryz.sort208_ren:={
  mixed:=by kernel_rfl
  f6:=⟨Tryz.f208.name,by decide,Tryz.func208.trans (congrArg some (by kernel_rfl))⟩
  f14:=⟨Tryz.f210.name,by decide,Tryz.func210.trans (congrArg some (by kernel_rfl))⟩
  f15:=Tryz.func211.trans (congrArg some (by kernel_rfl))
  f20:=⟨Tryz.f212.name,by decide,Tryz.func212.trans (congrArg some (by kernel_rfl))⟩
  f21:=⟨Tryz.f213.name,by decide,Tryz.func213.trans (congrArg some (by kernel_rfl))⟩
  f22:=⟨Tryz.f214.name,by decide,Tryz.func214.trans (congrArg some (by kernel_rfl))⟩
  f23:=⟨Tryz.f215.name,by decide,Tryz.func215.trans (congrArg some (by kernel_rfl))⟩
  f24:=⟨Tryz.f216.name,by decide,Tryz.func216.trans (congrArg some (by kernel_rfl))⟩
  f25:=⟨Tryz.f217.name,by decide,Tryz.func217.trans (congrArg some (by kernel_rfl))⟩
  f26:=⟨Tryz.f218.name,by decide,Tryz.func218.trans (congrArg some (by kernel_rfl))⟩
  f27:=⟨Tryz.f219.name,by decide,Tryz.func219.trans (congrArg some (by kernel_rfl))⟩
  f28:=Tryz.func220.trans (congrArg some (by kernel_rfl))
  f29:=Tryz.func221.trans (congrArg some (by kernel_rfl))
  f46:=⟨Tryz.f222.name,by decide,Tryz.func222.trans (congrArg some (by kernel_rfl))⟩
  f47:=Tryz.func223.trans (congrArg some (by kernel_rfl))
  f48:=Tryz.func224.trans (congrArg some (by kernel_rfl))
  f49:=⟨Tryz.f225.name,by decide,Tryz.func225.trans (congrArg some (by kernel_rfl))⟩
  f50:=⟨Tryz.f226.name,by decide,Tryz.func226.trans (congrArg some (by kernel_rfl))⟩
  f57:=⟨Tryz.f227.name,by decide,Tryz.func227.trans (congrArg some (by kernel_rfl))⟩
  t0:=Tryz.underlying0
  a0:=Tryz.isAgg0
  z0:=Tryz.sizeOf0
  v0:=Tryz.zeroValue0
  t3:=Tryz.underlying3
  a3:=Tryz.isAgg3
  z3:=Tryz.sizeOf3
  v3:=Tryz.zeroValue3
  t4:=Tryz.underlying4
  a4:=Tryz.isAgg4
  z4:=Tryz.sizeOf4
  v4:=Tryz.zeroValue4
  t5:=Tryz.underlying5
  a5:=Tryz.isAgg5
  z5:=Tryz.sizeOf5
  v5:=Tryz.zeroValue5
  t9:=Tryz.underlying9
  a9:=Tryz.isAgg9
  z9:=Tryz.sizeOf9
  v9:=Tryz.zeroValue9
  t22:=Tryz.underlying44
  a22:=Tryz.isAgg44
  z22:=Tryz.sizeOf44
  v22:=Tryz.zeroValue44
  t25:=Tryz.underlying309
  a25:=Tryz.isAgg309
  z25:=Tryz.sizeOf309
  v25:=Tryz.zeroValue309
  t39:=Tryz.underlying269
  a39:=Tryz.isAgg269
  z39:=Tryz.sizeOf269
  v39:=Tryz.zeroValue269
  t45:=Tryz.underlying313
  a45:=Tryz.isAgg313
  z45:=Tryz.sizeOf313
  v45:=Tryz.zeroValue313
  t46:=Tryz.underlying314
  a46:=Tryz.isAgg314
  z46:=Tryz.sizeOf314
  v46:=Tryz.zeroValue314
  t50:=Tryz.underlying250
  a50:=Tryz.isAgg250
  z50:=Tryz.sizeOf250
  v50:=Tryz.zeroValue250
  t53:=Tryz.underlying272
  a53:=Tryz.isAgg272
  z53:=Tryz.sizeOf272
  v53:=Tryz.zeroValue272
  t55:=Tryz.underlying275
  a55:=Tryz.isAgg275
  z55:=Tryz.sizeOf275
  v55:=Tryz.zeroValue275
  t66:=Tryz.underlying321
  a66:=Tryz.isAgg321
  z66:=Tryz.sizeOf321
  v66:=Tryz.zeroValue321
  t70:=Tryz.underlying325
  a70:=Tryz.isAgg325
  z70:=Tryz.sizeOf325
  v70:=Tryz.zeroValue325
  t76:=Tryz.underlying327
  a76:=Tryz.isAgg327
  z76:=Tryz.sizeOf327
  v76:=Tryz.zeroValue327
  t77:=Tryz.underlying328
  a77:=Tryz.isAgg328
  z77:=Tryz.sizeOf328
  v77:=Tryz.zeroValue328}
def Tryz.sort248_ren:Go.Shelf.Ren:=⟨fun | 6=>248 | 15=>211 | 14=>254 | 28=>220 | 29=>221 | 20=>255 | 21=>256 | 22=>257 | 23=>258 | 24=>259 | 25=>260 | 26=>261 | 27=>262 | 46=>263 | 47=>223 | 48=>224 | 49=>264 | 50=>265 | 57=>266 | n=>n,fun | 22=>170 | 24=>103 | 25=>219 | 3=>3 | 39=>269 | 0=>0 | 53=>272 | 55=>275 | 4=>4 | 46=>314 | 45=>313 | 50=>250 | 5=>5 | 9=>9 | 66=>321 | 70=>325 | 76=>327 | 77=>328 | n=>n,fun | n=>n⟩
theorem Tryz.sort248:Go.Proofs.SlLaysF0.n6 Tryz.prog Tryz.sort248_ren:={
  mixed:=by kernel_rfl
  f6:=⟨Tryz.f248.name,by decide,Tryz.func248.trans (congrArg some (by kernel_rfl))⟩
  f14:=⟨Tryz.f254.name,by decide,Tryz.func254.trans (congrArg some (by kernel_rfl))⟩
  f15:=Tryz.func211.trans (congrArg some (by kernel_rfl))
  f20:=⟨Tryz.f255.name,by decide,Tryz.func255.trans (congrArg some (by kernel_rfl))⟩
  f21:=⟨Tryz.f256.name,by decide,Tryz.func256.trans (congrArg some (by kernel_rfl))⟩
  f22:=⟨Tryz.f257.name,by decide,Tryz.func257.trans (congrArg some (by kernel_rfl))⟩
  f23:=⟨Tryz.f258.name,by decide,Tryz.func258.trans (congrArg some (by kernel_rfl))⟩
  f24:=⟨Tryz.f259.name,by decide,Tryz.func259.trans (congrArg some (by kernel_rfl))⟩
  f25:=⟨Tryz.f260.name,by decide,Tryz.func260.trans (congrArg some (by kernel_rfl))⟩
  f26:=⟨Tryz.f261.name,by decide,Tryz.func261.trans (congrArg some (by kernel_rfl))⟩
  f27:=⟨Tryz.f262.name,by decide,Tryz.func262.trans (congrArg some (by kernel_rfl))⟩
  f28:=Tryz.func220.trans (congrArg some (by kernel_rfl))
  f29:=Tryz.func221.trans (congrArg some (by kernel_rfl))
  f46:=⟨Tryz.f263.name,by decide,Tryz.func263.trans (congrArg some (by kernel_rfl))⟩
  f47:=Tryz.func223.trans (congrArg some (by kernel_rfl))
  f48:=Tryz.func224.trans (congrArg some (by kernel_rfl))
  f49:=⟨Tryz.f264.name,by decide,Tryz.func264.trans (congrArg some (by kernel_rfl))⟩
  f50:=⟨Tryz.f265.name,by decide,Tryz.func265.trans (congrArg some (by kernel_rfl))⟩
  f57:=⟨Tryz.f266.name,by decide,Tryz.func266.trans (congrArg some (by kernel_rfl))⟩
  t0:=Tryz.underlying0
  a0:=Tryz.isAgg0
  z0:=Tryz.sizeOf0
  v0:=Tryz.zeroValue0
  t3:=Tryz.underlying3
  a3:=Tryz.isAgg3
  z3:=Tryz.sizeOf3
  v3:=Tryz.zeroValue3
  t4:=Tryz.underlying4
  a4:=Tryz.isAgg4
  z4:=Tryz.sizeOf4
  v4:=Tryz.zeroValue4
  t5:=Tryz.underlying5
  a5:=Tryz.isAgg5
  z5:=Tryz.sizeOf5
  v5:=Tryz.zeroValue5
  t9:=Tryz.underlying9
  a9:=Tryz.isAgg9
  z9:=Tryz.sizeOf9
  v9:=Tryz.zeroValue9
  t22:=Tryz.underlying170
  a22:=Tryz.isAgg170
  z22:=Tryz.sizeOf170
  v22:=Tryz.zeroValue170
  t25:=Tryz.underlying219
  a25:=Tryz.isAgg219
  z25:=Tryz.sizeOf219
  v25:=Tryz.zeroValue219
  t39:=Tryz.underlying269
  a39:=Tryz.isAgg269
  z39:=Tryz.sizeOf269
  v39:=Tryz.zeroValue269
  t45:=Tryz.underlying313
  a45:=Tryz.isAgg313
  z45:=Tryz.sizeOf313
  v45:=Tryz.zeroValue313
  t46:=Tryz.underlying314
  a46:=Tryz.isAgg314
  z46:=Tryz.sizeOf314
  v46:=Tryz.zeroValue314
  t50:=Tryz.underlying250
  a50:=Tryz.isAgg250
  z50:=Tryz.sizeOf250
  v50:=Tryz.zeroValue250
  t53:=Tryz.underlying272
  a53:=Tryz.isAgg272
  z53:=Tryz.sizeOf272
  v53:=Tryz.zeroValue272
  t55:=Tryz.underlying275
  a55:=Tryz.isAgg275
  z55:=Tryz.sizeOf275
  v55:=Tryz.zeroValue275
  t66:=Tryz.underlying321
  a66:=Tryz.isAgg321
  z66:=Tryz.sizeOf321
  v66:=Tryz.zeroValue321
  t70:=Tryz.underlying325
  a70:=Tryz.isAgg325
  z70:=Tryz.sizeOf325
  v70:=Tryz.zeroValue325
  t76:=Tryz.underlying327
  a76:=Tryz.isAgg327
  z76:=Tryz.sizeOf327
  v76:=Tryz.zeroValue327
  t77:=Tryz.underlying328
  a77:=Tryz.isAgg328
  z77:=Tryz.sizeOf328
  v77:=Tryz.zeroValue328}
def Tryz.lays212_ren:Go.Shelf.Ren:=⟨fun | 212=>174 | 263=>175 | 264=>176 | n=>n,fun | 46=>269 | 51=>272 | 146=>273 | 53=>275 | 148=>276 | n=>n,fun | n=>n⟩
theorem Tryz.lays212:Go.Proofs.Lays.n212 Tryz.prog Tryz.lays212_ren:={
  mixed:=by kernel_rfl
  f212:=Tryz.func174.trans (congrArg some (by kernel_rfl))
  f263:=Tryz.func175.trans (congrArg some (by kernel_rfl))
  f264:=Tryz.func176.trans (congrArg some (by kernel_rfl))
  t46:=Tryz.underlying269
  a46:=Tryz.isAgg269
  z46:=Tryz.sizeOf269
  v46:=Tryz.zeroValue269
  t51:=Tryz.underlying272
  a51:=Tryz.isAgg272
  z51:=Tryz.sizeOf272
  v51:=Tryz.zeroValue272
  t53:=Tryz.underlying275
  a53:=Tryz.isAgg275
  z53:=Tryz.sizeOf275
  v53:=Tryz.zeroValue275
  t146:=Tryz.underlying273
  a146:=Tryz.isAgg273
  z146:=Tryz.sizeOf273
  v146:=Tryz.zeroValue273
  t148:=Tryz.underlying276
  a148:=Tryz.isAgg276
  z148:=Tryz.sizeOf276
  v148:=Tryz.zeroValue276}
def Tryz.lays112_ren:Go.Shelf.Ren:=⟨fun | 112=>173 | n=>n,fun | 28=>257 | 3=>3 | 4=>4 | 0=>0 | n=>n,fun | n=>n⟩
theorem Tryz.lays112:Go.Proofs.Lays.n112 Tryz.prog Tryz.lays112_ren:={
  mixed:=by kernel_rfl
  f112:=Tryz.func173.trans (congrArg some (by kernel_rfl))
  t0:=Tryz.underlying0
  a0:=Tryz.isAgg0
  z0:=Tryz.sizeOf0
  v0:=Tryz.zeroValue0
  t3:=Tryz.underlying3
  a3:=Tryz.isAgg3
  z3:=Tryz.sizeOf3
  v3:=Tryz.zeroValue3
  t4:=Tryz.underlying4
  a4:=Tryz.isAgg4
  z4:=Tryz.sizeOf4
  v4:=Tryz.zeroValue4
  t28:=Tryz.underlying257
  a28:=Tryz.isAgg257
  z28:=Tryz.sizeOf257
  v28:=Tryz.zeroValue257}
end Go.Proofs
namespace Go.Lf
open Go Go.Proofs Go.Sort
def zxX (x:PT):List Value:=[.int .i64 x.1.1,.int .i64 x.1.2,.int .i64 x.2]
def zxW (x:Int×Int):List Value:=[.int .i64 x.1,.int .i64 x.2]
theorem zyU:EncOk tPlaced 3 zxX (fun x=>(I64 x.1.1∧I64 x.1.2)∧I64 x.2) where
 size:=rfl
 pos:=by decide
 len:=fun _=>rfl
 one:=fun x v hv=>by simp [zxX] at hv;rcases hv with rfl | rfl | rfl<;>rfl
 own:=fun κ cs x=>by
  constructor
  ·rintro ⟨_,_,rfl,⟨_,_,rfl,⟨rfl,h1⟩,⟨rfl,h2⟩⟩,⟨rfl,h3⟩⟩;exact ⟨rfl,⟨h1,h2⟩,h3⟩
  ·rintro ⟨rfl,⟨h1,h2⟩,h3⟩;exact ⟨_,_,rfl,⟨_,_,rfl,⟨rfl,h1⟩,⟨rfl,h2⟩⟩,⟨rfl,h3⟩⟩
theorem zyT:EncOk tPoint 2 zxW (fun x=>I64 x.1∧I64 x.2) where
 size:=rfl
 pos:=by decide
 len:=fun _=>rfl
 one:=fun x v hv=>by simp [zxW] at hv;rcases hv with rfl | rfl<;>rfl
 own:=fun κ cs x=>by
  constructor
  ·rintro ⟨_,_,rfl,⟨rfl,h1⟩,⟨rfl,h2⟩⟩;exact ⟨rfl,h1,h2⟩
  ·rintro ⟨rfl,h1,h2⟩;exact ⟨_,_,rfl,⟨rfl,h1⟩,⟨rfl,h2⟩⟩
theorem ltP (a b:PT):ltOf za4 a b=decide (a.1.2<b.1.2∨(a.1.2=b.1.2∧a.1.1<b.1.1)):=by
 unfold ltOf za4
 congr 1
 apply propext
 repeat' split
 all_goals (constructor<;>intro h<;>omega)
theorem ltQ (a b:Int×Int):ltOf zdG a b=decide (a.2<b.2∨(a.2=b.2∧a.1<b.1)):=by
 unfold ltOf zdG
 congr 1
 apply propext
 repeat' split
 all_goals (constructor<;>intro h<;>omega)
theorem zxn:SWO (ltOf za4) where
 irrefl x:=by rw [ltP];simp
 trans x y z h1 h2:=by rw [ltP] at *;simp only [decide_eq_true_eq] at *;omega
 ntrans x y z h1 h2:=by rw [ltP] at *;simp only [decide_eq_false_iff_not] at *;omega
theorem zqO:SWO (ltOf zdG) where
 irrefl x:=by rw [ltQ];simp
 trans x y z h1 h2:=by rw [ltQ] at *;simp only [decide_eq_true_eq] at *;omega
 ntrans x y z h1 h2:=by rw [ltQ] at *;simp only [decide_eq_false_iff_not] at *;omega
theorem zpI {κ:K} {p0:Int} {p1:Int} {r:Int×Int} (hr:zgC p0 p1=some r) :
  Fn Tryz.prog 174 #[.int .u64 p0,.int .u64 p1] κ (fun v κ'=>κ=κ'∧v=.tuple #[.int .u64 r.1,.int .u64 r.2]):=by
 unfold zgC at hr
 split at hr
 ·rename_i h
  obtain rfl:=Option.some.inj hr
  obtain ⟨x,rfl⟩:=az h.1
  obtain ⟨y,rfl⟩:=az h.2.2.1
  refine Fn.same (fun w=>Any.bits_Mul Tryz.lays212 x y (by omega) (by omega) w) ⟨rfl,?_⟩
  simp
 ·cases hr
theorem zmH {κ:K} {p0:List Int} {a1:Option Addr} {c2:Nat} {τ0:Tag} (f3:Gr tI64 false τ0 κ 3 a1 c2 p0) {r:(List Int)} (hr:zg4 p0=some r) :
  Fn Tryz.prog 173 #[.slice a1 p0.length c2] κ (fun v κ'=>Step (blk a1 c2) κ κ'∧v=.tuple #[]∧Gr tI64 false τ0 κ' 3 a1 c2 r∧r.length=p0.length):=by
 have hr':p0.reverse=r:=Option.some.inj hr
 subst hr'
 have hI:∀ x∈p0.reverse,I64 x:=by
  intro x hx
  rcases f3.body with ⟨_,h1⟩ | ⟨g,cur,xs,ha,hrp,_⟩
  ·subst h1;cases hx
  ·exact (zpF hrp).2 x (by simpa using hx)
 refine Fn.row_int f3 (by simp) hI (fun w g ha hH=>?_) (fun h0 w=>?_)
 ·subst ha
  exact Any.slices_Reverse_int Tryz.lays112 g 0 c2 p0 w hH (zsH f3.most)
 ·subst h0
  exact Any.slices_Reverse_int_empty Tryz.lays112 a1 c2 w
theorem zwe (hc:∀ (inst:Fb) (κ:K) (x y:PT),@Fn inst Tryz.prog 209 #[.agg (zxX x).toArray,.agg (zxX y).toArray] κ (fun v κ'=>Step [] κ κ'∧v=.int .i64 (za4 x y)))
  {κ:K} {τ:Tag} {a:Option Addr} {c:Nat} {l:List PT} (hg:Gr tPlaced false τ κ 105 a c l) (hlen:l.length≤1048576) :
  Fn Tryz.prog 208 #[.slice a l.length c,.func (.func 209) #[] #[]] κ (fun v κ'=>Step (blk a c) κ κ'∧v=.tuple #[]∧Gr tPlaced false τ κ' 105 a c (pdq (ltOf za4) l.toArray 0 l.length (Lib.bitLen l.length) true true).toList):=
 ztl Tryz.sort208 zyU (fun w=>zj5 (P:=Tryz.prog) (T:=105) (by kernel_rfl) w) (fun w=>zaQ (P:=Tryz.prog) (T:=105) (by kernel_rfl) w) zxn (enters_of Tryz.func209 (by kernel_rfl) rfl) hc hg (by omega)
theorem zwd (hc:∀ (inst:Fb) (κ:K) (x y:Int×Int),@Fn inst Tryz.prog 137 #[.agg (zxW x).toArray,.agg (zxW y).toArray] κ (fun v κ'=>Step [] κ κ'∧v=.int .i64 (zdG x y)))
  {κ:K} {τ:Tag} {a:Option Addr} {c:Nat} {l:List (Int×Int)} (hg:Gr tPoint false τ κ 103 a c l) (hlen:l.length≤1048576) :
  Fn Tryz.prog 248 #[.slice a l.length c,.func (.func 137) #[] #[]] κ (fun v κ'=>Step (blk a c) κ κ'∧v=.tuple #[]∧Gr tPoint false τ κ' 103 a c (pdq (ltOf zdG) l.toArray 0 l.length (Lib.bitLen l.length) true true).toList):=
 ztl Tryz.sort248 zyT (fun w=>zj5 (P:=Tryz.prog) (T:=103) (by kernel_rfl) w) (fun w=>zaQ (P:=Tryz.prog) (T:=103) (by kernel_rfl) w) zqO (enters_of Tryz.func137 (by kernel_rfl) rfl) hc hg (by omega)
end Go.Lf
