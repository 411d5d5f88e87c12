import Derived.Test.YtjpmnloapngipaaGreatDoorB
import Derived.Lib.Bytealg
import Derived.Lib.Join
import Derived.Sort.Defs
import Derived.Lib.ParseIntB
import Derived.Lib.ItoaNum
import Derived.Lib.BitFns
import Derived.Test.YtjpmnloapngipaaGreatDoorProg
import Derived.Shelf.LaysM
import Derived.Shelf.Lays
import Derived.Shelf.Bits.Mul64
import Derived.Shelf.Slices.Reverse
import Derived.Ground.NamesProg
import Derived.Shelf.SlSortCmp.WholeK
import Derived.Shelf.SlGeneric
import Derived.Ground.SlsfProg
import Derived.Shelf.Strings.OnBuilder
import Derived.Shelf.Strconv.Itoa4
import Derived.Lib.ItoaLen
import Derived.KernelRfl
set_option linter.all false
set_option maxRecDepth 100000
set_option maxHeartbeats 4000000
set_option maxHeartbeats 1000000
namespace Go.Lf
open Go
noncomputable section
def zlU (p0:LP) (p1:Int):Option (Int):=
 if decide ((w64 (p1 - (p0.length:Int)))<0) then (some (-1)) else (some (w64 (p1 - (p0.length:Int))))
def zfq (p0:LP) (p1:Int):Option (Int):=
 (zlU p0 p1).bind fun a=>if decide (a<0) then (some (-1)) else (some a)
def zmE (p0:BS×Int) (p1:Int):Option (Int):=
 if decide ((w64 (p1 - (p0.1.length:Int)))<0) then (some (-1)) else (some (w64 (p1 - (p0.1.length:Int))))
def zkE (a:Int):Option (Int):=
 some a
def zhM (p0:LG) (a:Int×Int):Option ((Int×Int) ⊕ (Int ⊕ Int)):=
 if decide (a.2<(p0.length:Int)) then ((idx p0 a.2).bind fun c=>(zmE c a.1).bind fun b=>if decide (b<0) then (some (.inr (.inr (-1)))) else (some (.inl (b,w64 (a.2+1))))) else (some (.inr (.inl a.1)))
def znQ (p0:LG) (p1:Int):Option (Int):=
 if decide ((w64 (p1 - (p0.length:Int)))<0) then (some (-1)) else ((iter (zhM p0) (w64 (p1 - (p0.length:Int)),0)).bind fun a=>match a with | .inl z=>zkE z | .inr z=>some z)
def zeb (p0:LI) (p1:Int):Option (Int):=
 if decide ((w64 (p1 - (p0.length:Int)))<0) then (some (-1)) else (some (w64 (p1 - (p0.length:Int))))
def zmC (p0:BS×LI) (p1:Int):Option (Int):=
 if decide ((w64 (p1 - (p0.1.length:Int)))<0) then (some (-1)) else ((zeb p0.2 (w64 (p1 - (p0.1.length:Int)))).bind fun a=>if decide (a<0) then (some (-1)) else (some a))
def zkD (a:Int):Option (Int):=
 some a
def zhL (p0:LT) (a:Int×Int):Option ((Int×Int) ⊕ (Int ⊕ Int)):=
 if decide (a.2<(p0.length:Int)) then ((idx p0 a.2).bind fun c=>(zmC c a.1).bind fun b=>if decide (b<0) then (some (.inr (.inr (-1)))) else (some (.inl (b,w64 (a.2+1))))) else (some (.inr (.inl a.1)))
def znP (p0:LT) (p1:Int):Option (Int):=
 if decide ((w64 (p1 - (p0.length:Int)))<0) then (some (-1)) else ((iter (zhL p0) (w64 (p1 - (p0.length:Int)),0)).bind fun a=>match a with | .inl z=>zkD z | .inr z=>some z)
def zlT (p0:LG×LT) (p1:Int):Option (Int):=
 (znQ p0.1 p1).bind fun a=>if decide (a<0) then (some (-1)) else ((znP p0.2 a).bind fun b=>if decide (b<0) then (some (-1)) else (some b))
def zj6 (p0:TS×(LP)×Int) (p1:Int):Option (Int):=
 (zlT p0.1 p1).bind fun a=>if decide (a<0) then (some (-1)) else ((zfq p0.2.1 a).bind fun b=>if decide (b<0) then (some (-1)) else (some b))
def ziW (p0:LP) (p1:Int):Option (Int):=
 if decide ((w64 (p1 - (p0.length:Int)))<0) then (some (-1)) else (some (w64 (p1 - (p0.length:Int))))
def ziX (a:Int):Option (Int):=
 some a
def zf1 (p0:LM) (a:Int×Int):Option ((Int×Int) ⊕ (Int ⊕ Int)):=
 if decide (a.2<(p0.length:Int)) then ((idx p0 a.2).bind fun c=>(zeb c a.1).bind fun b=>if decide (b<0) then (some (.inr (.inr (-1)))) else (some (.inl (b,w64 (a.2+1))))) else (some (.inr (.inl a.1)))
def zlV (p0:LM) (p1:Int):Option (Int):=
 if decide ((w64 (p1 - (p0.length:Int)))<0) then (some (-1)) else ((iter (zf1 p0) (w64 (p1 - (p0.length:Int)),0)).bind fun a=>match a with | .inl z=>ziX z | .inr z=>some z)
def zk8 (p0:Int×LP×LP×LI×LM) (p1:Int):Option (Int):=
 (ziW p0.2.1 p1).bind fun a=>if decide (a<0) then (some (-1)) else ((ziW p0.2.2.1 a).bind fun b=>if decide (b<0) then (some (-1)) else ((zeb p0.2.2.2.1 b).bind fun c=>if decide (c<0) then (some (-1)) else ((zlV p0.2.2.2.2 c).bind fun d=>if decide (d<0) then (some (-1)) else (some d))))
def znR (p0:BS×(TS×(LP)×Int)×(LP)×(Int×LP×LP×LI×LM)) (p1:Int):Option (Int):=
 if decide ((w64 (p1 - (p0.1.length:Int)))<0) then (some (-1)) else ((zj6 p0.2.1 (w64 (p1 - (p0.1.length:Int)))).bind fun a=>if decide (a<0) then (some (-1)) else ((zfq p0.2.2.1 a).bind fun b=>if decide (b<0) then (some (-1)) else ((zk8 p0.2.2.2 b).bind fun c=>if decide (c<0) then (some (-1)) else (some c))))
def zgf (p0:Int):Option (Bool):=
 if decide (p0≥97) then (if decide (p0≤122) then (some true) else (if decide (p0≥65) then (some (decide (p0≤90))) else (some false))) else (if decide (p0≥65) then (some (decide (p0≤90))) else (some false))
def zj3 (p0:Int):Option (Bool):=
 if decide (p0≥48) then (some (decide (p0≤57))) else (some false)
def zoC  : Option (Bool):=
 some true
def zez (a:Int) (b:Bool):Option (Int ⊕ (Unit ⊕ Bool)):=
 if b then (some (.inr (.inr false))) else (some (.inl (w64 (a+1))))
def zbO (p0:BS) (a:Int):Option (Int ⊕ (Unit ⊕ Bool)):=
 if decide (a<(p0.length:Int)) then ((idx p0 a).bind fun e=>(zgf (e.toNat:Int)).bind fun f=>if !f then ((idx p0 a).bind fun b=>(zj3 (b.toNat:Int)).bind fun c=>if !c then ((idx p0 a).bind fun d=>zez a (!decide ((d.toNat:Int)=95))) else (zez a false)) else (zez a false)) else (some (.inr (.inl ())))
def zgi (p0:BS) (a:Bool):Option (Bool):=
 if a then (some false) else ((iter (zbO p0) 1).bind fun b=>match b with | .inl z=>zoC | .inr z=>some z)
def zgj (p0:BS):Option (Bool):=
 if decide ((p0.length:Int)<1) then (zgi p0 true) else (if decide ((p0.length:Int)>12) then (zgi p0 true) else ((idx p0 0).bind fun a=>(zgf (a.toNat:Int)).bind fun b=>zgi p0 (!b)))
def zao (p0:Int) (p1:Int) (a:Int):Option (Bool):=
 if decide (p0≥p1) then (some (decide (p0≤a))) else (some false)
def zd8 (p0:Int×Int):Option (Bool):=
 (zao p0.1 (-60) 60).bind fun a=>if a then ((zao p0.2 (-60) 60).bind fun b=>some b) else (some false)
def zc2 (p0:Int×Int) (p1:Int×Int):Option (Bool):=
 if decide (p0.2<p1.2) then (some true) else (if decide (p0.2=p1.2) then (some (decide (p0.1<p1.1))) else (some false))
def zkx  : Option (Bool):=
 some true
def zch (a:Int) (b:Bool):Option (Int ⊕ (Unit ⊕ Bool)):=
 if b then (some (.inr (.inr false))) else (some (.inl (w64 (a+1))))
def zbe (p0:LP) (a:Int):Option (Int ⊕ (Unit ⊕ Bool)):=
 if decide (a<(p0.length:Int)) then ((idx p0 a).bind fun b=>(zd8 b.1).bind fun c=>if !c then (zch a true) else ((zao b.2 0 159).bind fun d=>if !d then (zch a true) else (if decide (a>0) then ((idx p0 (w64 (a - 1))).bind fun e=>(zc2 e.1 b.1).bind fun f=>zch a (!f)) else (zch a false)))) else (some (.inr (.inl ())))
def zk3 (p0:LP):Option (Bool):=
 if decide ((p0.length:Int)>500) then (some false) else ((iter (zbe p0) 0).bind fun a=>match a with | .inl z=>zkx | .inr z=>some z)
def zhv (p0:LG×LT) (p1:Int):Option (Bool):=
 (zao p1 0 (w64 ((p0.2.length:Int) - 1))).bind fun a=>some a
def zmS  : Option (Bool):=
 some true
def zcJ (p0:LG×LT) (p1:LP) (a:Int):Option (Int ⊕ (Unit ⊕ Bool)):=
 if decide (a<(p1.length:Int)) then ((idx p1 a).bind fun b=>(zhv p0 b.2).bind fun c=>if !c then (some (.inr (.inr false))) else (some (.inl (w64 (a+1))))) else (some (.inr (.inl ())))
def zjB (p0:LG×LT) (p1:LP):Option (Bool):=
 (zk3 p1).bind fun a=>if !a then (some false) else ((iter (zcJ p0 p1) 0).bind fun b=>match b with | .inl z=>zmS | .inr z=>some z)
def zkA  : Option (Int):=
 some 0
def zhH (p0:LG×LT) (p1:BS) (a:Int):Option (Int ⊕ (Unit ⊕ Int)):=
 if decide (a<(p0.1.length:Int)) then ((idx p0.1 a).bind fun b=>if decide (b.1=p1) then (some (.inr (.inr (w64 (a+1))))) else (some (.inl (w64 (a+1))))) else (some (.inr (.inl ())))
def zgR (p0:LG×LT) (p1:BS):Option (Int):=
 (iter (zhH p0 p1) 0).bind fun a=>match a with | .inl z=>zkA | .inr z=>some z
def zkz  : Option (Int):=
 some (-1)
def zky (p0:LG×LT) (p1:BS) (a:Int):Option (Int ⊕ (Unit ⊕ Int)):=
 if decide (a<(p0.2.length:Int)) then ((idx p0.2 a).bind fun b=>if decide (b.1=p1) then (some (.inr (.inr a))) else (some (.inl (w64 (a+1))))) else (some (.inr (.inl ())))
def zgQ (p0:LG×LT) (p1:BS):Option (Int):=
 (iter (zky p0 p1) 0).bind fun a=>match a with | .inl z=>zkz | .inr z=>some z
def zmU  : Option (Bool):=
 some true
def zj2 (a:Int):Option (Int ⊕ (Unit ⊕ Bool)):=
 some (.inl (w64 (a+1)))
def zfE (p0:LG×LT) (b:BS×LI) (a:Int):Option (Int ⊕ (Unit ⊕ (Int ⊕ (Unit ⊕ Bool)))):=
 if decide (a<4) then ((idx b.2 a).bind fun c=>(zao c 0 (p0.1.length:Int)).bind fun d=>if !d then (some (.inr (.inr (.inr (.inr false))))) else (some (.inl (w64 (a+1))))) else (some (.inr (.inl ())))
def zfG (p0:LG×LT) (a:Int) (b:BS×LI) (c:Bool):Option (Int ⊕ (Unit ⊕ Bool)):=
 if c then (some (.inr (.inr false))) else ((iter (zfE p0 b) 0).bind fun d=>match d with | .inl z=>zj2 a | .inr z=>some z)
def zcK (p0:LG×LT) (a:Int):Option (Int ⊕ (Unit ⊕ Bool)):=
 if decide (a<(p0.2.length:Int)) then ((idx p0.2 a).bind fun b=>(zgj b.1).bind fun c=>if !c then (zfG p0 a b true) else (if !decide ((b.2.length:Int)=4) then (zfG p0 a b true) else ((zgQ p0 b.1).bind fun d=>zfG p0 a b (!decide (d=a))))) else (some (.inr (.inl ())))
def zmV (p0:LG×LT):Option (Bool):=
 (iter (zcK p0) 0).bind fun a=>match a with | .inl z=>zmU | .inr z=>some z
def zfF (a:Int) (b:Bool):Option (Int ⊕ (Unit ⊕ Bool)):=
 if b then (some (.inr (.inr false))) else (some (.inl (w64 (a+1))))
def zcL (p0:LG×LT) (a:Int):Option (Int ⊕ (Unit ⊕ Bool)):=
 if decide (a<(p0.1.length:Int)) then ((idx p0.1 a).bind fun b=>(zgj b.1).bind fun c=>if !c then (zfF a true) else ((zao b.2 1 4).bind fun d=>if !d then (zfF a true) else ((zgR p0 b.1).bind fun e=>zfF a (!decide (e=(w64 (a+1))))))) else (some (.inr (.inl ())))
def zhu (p0:LG×LT) (b:Bool):Option (Bool):=
 if b then (some false) else ((iter (zcL p0) 0).bind fun a=>match a with | .inl z=>zmV p0 | .inr z=>some z)
def zjD (p0:LG×LT):Option (Bool):=
 if decide ((p0.1.length:Int)>200) then (zhu p0 true) else (if decide ((p0.2.length:Int)<1) then (zhu p0 true) else (zhu p0 (decide ((p0.2.length:Int)>160))))
def zee (p0:Int):Option (Bool):=
 (zao p0 1 16).bind fun a=>some a
def zr1 (p0:Int):Option (Bool):=
 (zao p0 0 3).bind fun a=>some a
def zfH (p0:Int):Option (Int):=
 (zr1 p0).bind fun a=>if !a then (some (-1)) else (some (Int.tmod (w64 (p0+2)) 4))
def zar (p0:LG×LT) (p1:Int):Option (Int):=
 if decide (p1=0) then (some 0) else ((idx p0.1 (w64 (p1 - 1))).bind fun a=>some a.2)
def zdH (p0:LG×LT) (p1:Int) (b:Int) (h:Int):Option (Int):=
 (idx p0.2 p1).bind fun c=>(idx c.2 b).bind fun a=>(idx p0.2 h).bind fun d=>(zfH b).bind fun e=>(idx d.2 e).bind fun f=>if !decide (a=f) then (some 0) else ((zar p0 a).bind fun g=>some g)
def zab (a:Int) (b:Int):Option ((Int×Int)):=
 some (a,b)
def zaa (p0:Int×Int) (p1:Int):Option ((Int×Int)):=
 if decide (p1=0) then (zab p0.1 (w64 (p0.2+1))) else (if decide (p1=1) then (zab (w64 (p0.1+1)) p0.2) else (if decide (p1=2) then (zab p0.1 (w64 (p0.2 - 1))) else (if decide (p1=3) then (zab (w64 (p0.1 - 1)) p0.2) else (zab p0.1 p0.2))))
def zgP (a:Int) (b:Bool):Option (Int):=
 if b then (some a) else (some (-1))
def zjC (p0:LP) (p1:Int×Int) (a:Int):Option (Int):=
 if decide (a<(p0.length:Int)) then ((idx p0 a).bind fun b=>zgP a (decide (b.1.1=p1.1)&&decide (b.1.2=p1.2))) else (zgP a false)
def zey (p0:LP) (p1:Int×Int) (a:Int×Int):Option ((Int×Int) ⊕ Int):=
 if decide (a.1<a.2) then ((idx p0 (w64 (Int.tdiv (w64 (a.1+a.2)) 2))).bind fun b=>(zc2 b.1 p1).bind fun c=>if c then (some (.inl (w64 ((w64 (Int.tdiv (w64 (a.1+a.2)) 2))+1),a.2))) else (some (.inl (a.1,w64 (Int.tdiv (w64 (a.1+a.2)) 2))))) else (some (.inr a.1))
def zaT (p0:LP) (p1:Int×Int):Option (Int):=
 (iter (zey p0 p1) (0,(p0.length:Int))).bind fun a=>zjC p0 p1 a
def zgM (p0:LP) (p1:Int) (c:Int):Option (Int):=
 (idx p0 p1).bind fun d=>(zaa d.1 c).bind fun a=>(zaT p0 a).bind fun b=>some b
def zjz (a:LB):Option (LB):=
 some a
def zjy (a:LB×Int) (b:LB):Option ((LB×Int) ⊕ (LB)):=
 some (.inl (b,w64 (a.2+1)))
def zcP (a:LB×Int) (b:LB):Option ((LB×Int) ⊕ (LB)):=
 some (.inl (b,w64 (a.2 - 1)))
def zbs (p0:LG×LT) (p1:LP) (b:LB×Int) (a:LB×Int):Option ((LB×Int) ⊕ (LB)):=
 if decide (a.2≥0) then ((zgM p1 b.2 a.2).bind fun c=>if decide (c<0) then (zcP a a.1) else ((idx p1 b.2).bind fun e=>(idx p1 c).bind fun f=>(zdH p0 e.2 a.2 f.2).bind fun d=>if decide (d>0) then ((app 24 a.1 [(b.2,(c,d))]).bind fun g=>zcP a g) else (zcP a a.1))) else (some (.inr a.1))
def zbt (p0:LG×LT) (p1:LP) (a:LB×Int):Option ((LB×Int) ⊕ (LB)):=
 if decide (a.2<(p1.length:Int)) then ((iter (zbs p0 p1 a) (a.1,1)).bind fun b=>zjy a b) else (some (.inr a.1))
def zd7 (p0:LG×LT) (p1:LP):Option (LB):=
 (iter (zbt p0 p1) ([],0)).bind fun a=>zjz a
def zdI (p0:Int) (p1:Int):Option (Int):=
 if decide (p0>p1) then (some p0) else (some p1)
def zgg (p0:Int) (p1:Int):Option (Int):=
 if decide (p0<p1) then (some p0) else (some p1)
def ziD (a:LM):Option (LM):=
 some a
def zdF (a:LM×Int) (b:LM):Option ((LM×Int) ⊕ (LM)):=
 some (.inl (b,w64 (a.2+1)))
def ziC (a:LM×Int) (b:LI):Option ((LM×Int) ⊕ (LM)):=
 (app 24 a.1 [b]).bind fun c=>zdF a c
def zfX (a:LI×Int) (b:LI):Option ((LI×Int) ⊕ (LI)):=
 some (.inl (b,w64 (a.2+1)))
def zdB (p0:Int) (d:LI) (b:LM×Int) (a:LI×Int):Option ((LI×Int) ⊕ (LI)):=
 if decide (a.2<p0) then ((idx d a.2).bind fun e=>if decide (e=b.2) then ((app 8 a.1 [a.2]).bind fun c=>zfX a c) else (zfX a a.1)) else (some (.inr a.1))
def zdC (p0:Int) (b:LI) (a:LM×Int):Option ((LM×Int) ⊕ (LM)):=
 if decide (a.2<p0) then ((idx b a.2).bind fun c=>if !decide (c=a.2) then (zdF a a.1) else ((iter (zdB p0 b a) ([],a.2)).bind fun d=>ziC a d)) else (some (.inr a.1))
def ziE (p0:Int) (a:LI):Option (LM):=
 (iter (zdC p0 a) ([],0)).bind fun b=>ziD b
def ziB (a:LI×Int) (b:LI):Option ((LI×Int) ⊕ (LI)):=
 some (.inl (b,w64 (a.2+1)))
def zfW (a:LI×Int) (b:LI):Option ((LI×Int) ⊕ (LI)):=
 some (.inl (b,w64 (a.2+1)))
def zdA (b:Int) (c:Int) (a:LI×Int):Option ((LI×Int) ⊕ (LI)):=
 if decide (a.2<(a.1.length:Int)) then ((idx a.1 a.2).bind fun d=>(zdI b c).bind fun e=>if decide (d=e) then ((zgg b c).bind fun f=>(idx a.1 a.2).bind fun h=>(some (a.1.set a.2.toNat f)).bind fun g=>zfW a g) else (zfW a a.1)) else (some (.inr a.1))
def zdD (p1:LB) (a:LI×Int):Option ((LI×Int) ⊕ (LI)):=
 if decide (a.2<(p1.length:Int)) then ((idx p1 a.2).bind fun b=>(idx a.1 b.1).bind fun c=>(idx p1 a.2).bind fun _=>(idx a.1 b.2.1).bind fun d=>(iter (zdA c d) (a.1,0)).bind fun e=>ziB a e) else (some (.inr a.1))
def ziF (p0:Int) (p1:LB) (b:LI):Option (LM):=
 (iter (zdD p1) (b,0)).bind fun a=>ziE p0 a
def zdE (p0:Int) (a:LI×Int):Option ((LI×Int) ⊕ (LI)):=
 if decide (a.2<p0) then ((app 8 a.1 [a.2]).bind fun b=>some (.inl (b,w64 (a.2+1)))) else (some (.inr a.1))
def ziG (p0:Int) (p1:LB):Option (LM):=
 (iter (zdE p0) ([],0)).bind fun a=>ziF p0 p1 a
def ziw (a:LM) (b:LB):Option (Int×LB):=
 some ((a.length:Int),b)
def zfU (a:LB×Int) (b:LB):Option ((LB×Int) ⊕ (LB)):=
 some (.inl (b,w64 (a.2+1)))
def zdx (p1:LB) (e:LI) (a:LB×Int):Option ((LB×Int) ⊕ (LB)):=
 if decide (a.2<(p1.length:Int)) then ((idx p1 a.2).bind fun b=>(idx e b.1).bind fun c=>(idx p1 a.2).bind fun _=>(idx e b.2.1).bind fun d=>if !decide (c=d) then ((idx p1 a.2).bind fun _=>(zgg c d).bind fun g=>(zdI c d).bind fun h=>(app 24 a.1 [(g,(h,b.2.2))]).bind fun f=>zfU a f) else (zfU a a.1)) else (some (.inr a.1))
def zix (p1:LB) (a:LM) (b:LI):Option (Int×LB):=
 (iter (zdx p1 b) ([],0)).bind fun c=>ziw a c
def zmn (a:LI×Int) (b:LI):Option ((LI×Int) ⊕ (LI)):=
 some (.inl (b,w64 (a.2+1)))
def zb0 (e:LM) (b:LI×Int) (a:LI×Int):Option ((LI×Int) ⊕ (LI)):=
 (idx e b.2).bind fun c=>if decide (a.2<(c.length:Int)) then ((idx e b.2).bind fun _=>(idx c a.2).bind fun d=>(idx a.1 d).bind fun g=>(some (a.1.set d.toNat b.2)).bind fun f=>some (.inl (f,w64 (a.2+1)))) else (some (.inr a.1))
def zfS (b:LM) (a:LI×Int):Option ((LI×Int) ⊕ (LI)):=
 if decide (a.2<(b.length:Int)) then ((iter (zb0 b a) (a.1,0)).bind fun c=>zmn a c) else (some (.inr a.1))
def ziy (p0:Int) (p1:LB) (c:LB):Option (Int×LB):=
 (ziG p0 c).bind fun a=>(mkl 8 p0 0).bind fun d=>(iter (zfS a) (d,0)).bind fun b=>zix p1 a b
def zfT (a:LB×Int) (b:LB):Option ((LB×Int) ⊕ (LB)):=
 some (.inl (b,w64 (a.2+1)))
def zdy (p1:LB) (d:Int) (a:LB×Int):Option ((LB×Int) ⊕ (LB)):=
 if decide (a.2<(p1.length:Int)) then ((idx p1 a.2).bind fun b=>if decide (b.2.2≥d) then ((idx p1 a.2).bind fun _=>(app 24 a.1 [b]).bind fun c=>zfT a c) else (zfT a a.1)) else (some (.inr a.1))
def ziz (p0:Int) (p1:LB) (b:Int):Option (Int×LB):=
 (iter (zdy p1 b) ([],0)).bind fun a=>ziy p0 p1 a
def zow (p0:Int) (p1:LB) (a:LI) (b:LM):Option ((Int×LB×LM×LI)):=
 some (p0,(p1,(b,a)))
def zc0 (p1:LB) (a:Int×LM):Option ((Int×LM) ⊕ (LM)):=
 if decide (a.1<(p1.length:Int)) then ((idx p1 a.1).bind fun b=>(idx p1 a.1).bind fun _=>(idx a.2 b.1).bind fun f=>(app 8 f [a.1]).bind fun g=>(some (a.2.set b.1.toNat g)).bind fun c=>(idx p1 a.1).bind fun _=>(idx p1 a.1).bind fun _=>(idx c b.2.1).bind fun h=>(app 8 h [a.1]).bind fun d=>(some (c.set b.2.1.toNat d)).bind fun e=>some (.inl (w64 (a.1+1),e))) else (some (.inr a.2))
def zmo (p0:Int) (p1:LB):Option ((Int×LB×LM×LI)):=
 (mkl 24 p0 ([]:LI)).bind fun a=>(mkl 8 (p1.length:Int) 0).bind fun b=>(iter (zc0 p1) (0,a)).bind fun c=>zow p0 p1 b c
def zeq (p0:Int×LB×LM×LI) (p1:Int) (b:Int):Option (Int×Int×(Int×LB×LM×LI)):=
 (idx p0.2.1 b).bind fun a=>if decide (a.1=p1) then ((idx p0.2.2.2 b).bind fun c=>some (w64 (a.2.2 - c),a.2.1,p0)) else ((idx p0.2.2.2 b).bind fun d=>some (w64 (a.2.2+d),a.1,p0))
def zgb (p0:Int×LB×LM×LI) (a:LI) (b:LI):Option (LI×(Int×LB×LM×LI)):=
 some (a,(p0.1,(p0.2.1,(p0.2.2.1,b))))
def zkg (a:LI×LI×Int×LI) (b:LI) (c:LI) (d:LI):Option ((LI×LI×Int×LI) ⊕ (LI×LI)):=
 some (.inl (b,c,w64 (a.2.2.1+1),d))
def zbN (a:LI×LI×Int×LI) (b:LI) (c:LI) (d:LI):Option ((LI×LI×Int×LI) ⊕ (LI×LI×LI)):=
 some (.inl (b,c,w64 (a.2.2.1+1),d))
def zaL (d:Int) (a:LI×LI×Int×LI) (b:Int×Int×Int) (c:Int×Int×Int) (e:Int×Int×(Int×LB×LM×LI)) (f:Bool):Option ((LI×LI×Int×LI) ⊕ (LI×LI×LI)):=
 if f then ((idx a.1 d).bind fun g=>(idx a.1 (w64 ((w64 (b.1+c.2.1)) - d))).bind fun j=>(some (a.1.set (w64 ((w64 (b.1+c.2.1)) - d)).toNat (w64 (g+1)))).bind fun h=>(app 8 a.2.1 [w64 ((w64 (b.1+c.2.1)) - d)]).bind fun i=>zbN a h i e.2.2.2.2.2) else (zbN a a.1 a.2.1 e.2.2.2.2.2)
def zbK (p0:Int×LB×LM×LI) (b:Int) (a:LI×LI×Int×LI):Option ((LI×LI×Int×LI) ⊕ (LI×LI×LI)):=
 (idx p0.2.2.1 b).bind fun g=>if decide (a.2.2.1<(g.length:Int)) then ((idx p0.2.2.1 b).bind fun _=>(idx g a.2.2.1).bind fun e=>(idx p0.2.1 e).bind fun c=>(idx p0.2.1 e).bind fun d=>(zeq (p0.1,(p0.2.1,(p0.2.2.1,a.2.2.2))) (w64 ((w64 (c.1+d.2.1)) - b)) e).bind fun f=>(idx a.1 (w64 ((w64 (c.1+d.2.1)) - b))).bind fun h=>if decide (h<0) then (zaL b a c d f (decide (f.1>0))) else (zaL b a c d f false)) else (some (.inr (a.1,a.2.1,a.2.2.2)))
def zbL (p0:Int×LB×LM×LI) (a:LI×LI×Int×LI):Option ((LI×LI×Int×LI) ⊕ (LI×LI)):=
 if decide (a.2.2.1<(a.2.1.length:Int)) then ((idx a.2.1 a.2.2.1).bind fun c=>(iter (zbK p0 c) (a.1,a.2.1,0,a.2.2.2)).bind fun b=>zkg a b.1 b.2.1 b.2.2) else (some (.inr (a.1,a.2.2.2)))
def zgc (p0:Int×LB×LM×LI) (p1:Int) (a:LI):Option (LI×(Int×LB×LM×LI)):=
 (idx a p1).bind fun d=>(some (a.set p1.toNat 0)).bind fun c=>(iter (zbL p0) (c,[p1],0,p0.2.2.2)).bind fun b=>zgb p0 b.1 b.2
def zbM (p0:Int×LB×LM×LI) (a:LI×Int):Option ((LI×Int) ⊕ (LI)):=
 if decide (a.2<p0.1) then ((app 8 a.1 [(-1)]).bind fun b=>some (.inl (b,w64 (a.2+1)))) else (some (.inr a.1))
def zdz (p0:Int×LB×LM×LI) (p1:Int):Option (LI×(Int×LB×LM×LI)):=
 (iter (zbM p0) ([],0)).bind fun a=>zgc p0 p1 a
def zgL (p0:Int×LB×LM×LI) (p1:Int) (a:Int):Option ((Int×LB×LM×LI)):=
 (idx p0.2.1 a).bind fun b=>if decide (b.1=p1) then ((idx p0.2.2.2 a).bind fun c=>(idx p0.2.2.2 a).bind fun g=>(some (p0.2.2.2.set a.toNat (w64 (c+1)))).bind fun d=>some (p0.1,(p0.2.1,(p0.2.2.1,d)))) else ((idx p0.2.2.2 a).bind fun e=>(idx p0.2.2.2 a).bind fun h=>(some (p0.2.2.2.set a.toNat (w64 (e - 1)))).bind fun f=>some (p0.1,(p0.2.1,(p0.2.2.1,f))))
def zkM (p0:Int×LB×LM×LI) (a:LI):Option (Bool×(Int×LB×LM×LI)):=
 some (true,(p0.1,(p0.2.1,(p0.2.2.1,a))))
def zg9 (p0:Int×LB×LM×LI) (a:Int×LI) (b:Int) (c:Int) (d:LI):Option ((Int×LI) ⊕ (LI)):=
 (zgL (p0.1,(p0.2.1,(p0.2.2.1,d))) a.1 c).bind fun e=>some (.inl (b,e.2.2.2))
def zcr (a:Int×Int×Int×LI) (b:Int) (c:Int) (d:LI):Option ((Int×Int×Int×LI) ⊕ (Int×Int×LI)):=
 some (.inl (b,c,w64 (a.2.2.1+1),d))
def z8 (p0:Int×LB×LM×LI) (c:Int×LI) (a:Int×Int×Int×LI) (e:LI) (f:Int) (b:Int×Int×(Int×LB×LM×LI)) (d:Bool):Option ((Int×Int×Int×LI) ⊕ (Int×Int×LI)):=
 if d then ((idx p0.2.2.1 c.1).bind fun _=>(idx e a.2.2.1).bind fun _=>zcr a b.2.1 f b.2.2.2.2.2) else (zcr a a.1 a.2.1 b.2.2.2.2.2)
def zcp (p0:Int×LB×LM×LI) (f:LI×(Int×LB×LM×LI)) (b:Int×LI) (a:Int×Int×Int×LI):Option ((Int×Int×Int×LI) ⊕ (Int×Int×LI)):=
 (idx p0.2.2.1 b.1).bind fun d=>if decide (a.2.2.1<(d.length:Int)) then ((idx p0.2.2.1 b.1).bind fun _=>(idx d a.2.2.1).bind fun e=>(zeq (p0.1,(p0.2.1,(p0.2.2.1,a.2.2.2))) b.1 e).bind fun c=>if decide (c.1>0) then ((idx f.1 c.2.1).bind fun g=>(idx f.1 b.1).bind fun h=>if decide (g=(w64 (h - 1))) then (if decide (a.1<0) then (z8 p0 b a d e c true) else (z8 p0 b a d e c (decide (c.2.1<a.1)))) else (z8 p0 b a d e c false)) else (z8 p0 b a d e c false)) else (some (.inr (a.1,a.2.1,a.2.2.2)))
def zcq (p0:Int×LB×LM×LI) (d:Int) (c:LI×(Int×LB×LM×LI)) (a:Int×LI):Option ((Int×LI) ⊕ (LI)):=
 if !decide (a.1=d) then ((iter (zcp p0 c a) ((-1),0,0,a.2)).bind fun b=>zg9 p0 a b.1 b.2.1 b.2.2) else (some (.inr a.2))
def zer (p0:Int×LB×LM×LI) (p1:Int) (b:Int):Option (Bool×(Int×LB×LM×LI)):=
 (zdz p0 b).bind fun a=>(idx a.1 p1).bind fun c=>if decide (c<0) then (some (false,(p0.1,(p0.2.1,(p0.2.2.1,a.2.2.2.2))))) else ((iter (zcq p0 b a) (p1,a.2.2.2.2)).bind fun d=>zkM p0 d)
def zkv (a:(Int×LB×LM×LI)) (b:Int) (c:LI):Option ((Int×LB×LM×LI)×Int):=
 some ((a.1,(a.2.1,(a.2.2.1,c))),b)
def zfl (d:Int) (e:Int) (b:(Int×LB×LM×LI)) (a:Int×LI):Option ((Int×LI) ⊕ (Int×LI)):=
 (zer (b.1,(b.2.1,(b.2.2.1,a.2))) d e).bind fun c=>if c.1 then (some (.inl (w64 (a.1+1),c.2.2.2.2))) else (some (.inr (a.1,c.2.2.2.2)))
def zk1 (p0:Int) (p1:LB) (c:Int) (d:Int):Option ((Int×LB×LM×LI)×Int):=
 (zmo p0 p1).bind fun a=>(iter (zfl c d a) (0,a.2.2.2)).bind fun b=>zkv a b.1 b.2
def zg8 (p0:Int×LB×LM×LI) (a:LI×(Int×LB×LM×LI)) (b:LI):Option (LI×(Int×LB×LM×LI)):=
 some (b,(p0.1,(p0.2.1,(p0.2.2.1,a.2.2.2.2))))
def zeg (a:LI×Int) (b:LI):Option ((LI×Int) ⊕ (LI)):=
 some (.inl (b,w64 (a.2+1)))
def zef (p0:Int×LB×LM×LI) (b:LI×(Int×LB×LM×LI)) (a:LI×Int):Option ((LI×Int) ⊕ (LI)):=
 if decide (a.2<p0.1) then ((idx b.1 a.2).bind fun c=>if decide (c≥0) then ((app 8 a.1 [a.2]).bind fun d=>zeg a d) else (zeg a a.1)) else (some (.inr a.1))
def zgK (p0:Int×LB×LM×LI) (p1:Int):Option (LI×(Int×LB×LM×LI)):=
 (zdz p0 p1).bind fun a=>(iter (zef p0 a) ([],0)).bind fun b=>zg8 p0 a b
def zmp  : Option (Bool):=
 some false
def zfV (p1:LI) (b:LI) (a:Int):Option (Int ⊕ (Unit ⊕ Bool)):=
 if decide (a<(p1.length:Int)) then ((idx p1 a).bind fun c=>(idx b a).bind fun d=>if !decide (c=d) then ((idx p1 a).bind fun e=>(idx b a).bind fun f=>some (.inr (.inr (decide (e<f))))) else (some (.inl (w64 (a+1))))) else (some (.inr (.inl ())))
def ziA (p0:Int) (p1:LI) (b:Int) (a:LI):Option (Bool):=
 if !decide (p0=b) then (some (decide (p0<b))) else (if !decide ((p1.length:Int)=(a.length:Int)) then (some (decide ((p1.length:Int)<(a.length:Int)))) else ((iter (zfV p1 a) 0).bind fun c=>match c with | .inl z=>zmp | .inr z=>some z))
def zh2 (a:Int) (b:LI):Option (Int×LI):=
 some (a,b)
def zcZ (a:Int×LI×Int) (b:Int) (c:LI):Option ((Int×LI×Int) ⊕ (Int×LI)):=
 some (.inl (b,c,w64 (a.2.2+1)))
def zaG (a:Int×LI×Int) (b:(Int×LB×LM×LI)×Int) (c:LI×(Int×LB×LM×LI)) (d:Bool):Option ((Int×LI×Int) ⊕ (Int×LI)):=
 if d then (zcZ a b.2 c.1) else (zcZ a a.1 a.2.1)
def ze2 (p0:Int) (p1:LB) (a:Int×LI×Int):Option ((Int×LI×Int) ⊕ (Int×LI)):=
 if decide (a.2.2<p0) then ((zk1 p0 p1 0 a.2.2).bind fun b=>(zgK b.1 a.2.2).bind fun c=>if decide (a.1<0) then (zaG a b c true) else ((ziA b.2 c.1 a.1 a.2.1).bind fun d=>zaG a b c d)) else (some (.inr (a.1,a.2.1)))
def zhG (p0:Int) (p1:LB):Option (Int×LI):=
 (iter (ze2 p0 p1) ((-1),[],1)).bind fun a=>zh2 a.1 a.2
def ziv (p0:LG×LT) (p1:LP) (b:Int):Option (Bool×Int):=
 (zd7 p0 p1).bind fun c=>(ziz (p1.length:Int) c b).bind fun a=>if decide (a.1>64) then (some (false,4)) else (if decide (a.1<2) then (some (true,0)) else ((zhG a.1 a.2).bind fun d=>some (decide (d.1≥b),0)))
def zfB (p0:TS×(LP)×Int) (b:Bool):Option (Bool):=
 if b then (some false) else ((ziv p0.1 p0.2.1 p0.2.2).bind fun a=>if a.1 then (some (decide (a.2=0))) else (some false))
def ze1 (p0:TS×(LP)×Int):Option (Bool):=
 (zjD p0.1).bind fun a=>if !a then (zfB p0 true) else ((zjB p0.1 p0.2.1).bind fun b=>if !b then (zfB p0 true) else (if decide ((p0.2.1.length:Int)=0) then (zfB p0 true) else ((zee p0.2.2).bind fun x23=>zfB p0 (!x23))))
def zgJ (a:Bool):Option (Int):=
 if a then (some 1) else (some 0)
def zmQ (p0:TS×(LP)×Int) (p1:LP):Option (Int):=
 (ze1 p0).bind fun a=>if !a then (zgJ true) else ((zjB p0.1 p1).bind fun b=>zgJ (!b))
def zf9 (p0:Int×LP×LP×LI×LM):Option (Bool):=
 if decide (p0.1≤4) then (if decide (p0.1=4) then (if decide (p0.1=6) then (if decide (p0.1=5) then (some true) else (some (decide ((p0.2.2.2.2.length:Int)=0)))) else (if decide ((p0.2.2.2.1.length:Int)=0) then (if decide (p0.1=5) then (some true) else (some (decide ((p0.2.2.2.2.length:Int)=0)))) else (some false))) else (if decide ((p0.2.2.1.length:Int)=0) then (if decide (p0.1=6) then (if decide (p0.1=5) then (some true) else (some (decide ((p0.2.2.2.2.length:Int)=0)))) else (if decide ((p0.2.2.2.1.length:Int)=0) then (if decide (p0.1=5) then (some true) else (some (decide ((p0.2.2.2.2.length:Int)=0)))) else (some false))) else (some false))) else (if decide ((p0.2.1.length:Int)=0) then (if decide (p0.1=4) then (if decide (p0.1=6) then (if decide (p0.1=5) then (some true) else (some (decide ((p0.2.2.2.2.length:Int)=0)))) else (if decide ((p0.2.2.2.1.length:Int)=0) then (if decide (p0.1=5) then (some true) else (some (decide ((p0.2.2.2.2.length:Int)=0)))) else (some false))) else (if decide ((p0.2.2.1.length:Int)=0) then (if decide (p0.1=6) then (if decide (p0.1=5) then (some true) else (some (decide ((p0.2.2.2.2.length:Int)=0)))) else (if decide ((p0.2.2.2.1.length:Int)=0) then (if decide (p0.1=5) then (some true) else (some (decide ((p0.2.2.2.2.length:Int)=0)))) else (some false))) else (some false))) else (some false))
def zdG (p0:LP):Option ((LP)):=
 (app 24 ([]:LP) p0).bind fun a=>some a
def zc1 (p0:LP) (p1:Int×Int):Option (Int):=
 (zaT p0 p1).bind fun a=>if decide (a<0) then (some (-1)) else ((idx p0 a).bind fun b=>some b.2)
def zlC (a:Int):Option (Int):=
 some a
def ze4 (a:Int×Int) (b:Int):Option ((Int×Int) ⊕ Int):=
 some (.inl (b,w64 (a.2+1)))
def ze3 (p0:LG×LT) (p1:LP) (e:Int×Int) (f:Int) (a:Int×Int):Option ((Int×Int) ⊕ Int):=
 if decide (a.2<4) then ((zaa e a.2).bind fun c=>(zc1 p1 c).bind fun b=>if decide (b≥0) then ((zdH p0 f a.2 b).bind fun d=>ze4 a (w64 (a.1+d))) else (ze4 a a.1)) else (some (.inr a.1))
def zfm (p0:LG×LT) (p1:LP) (b:Int×Int) (c:Int):Option (Int):=
 (iter (ze3 p0 p1 b c) (0,0)).bind fun a=>zlC a
def zmm (p0:TS×(LP)×Int) (p1:LP) (a:(Int×Int)×Int):Option (Bool):=
 (zd8 a.1).bind fun b=>if b then ((zhv p0.1 a.2).bind fun x23=>if x23 then ((zaT p1 a.1).bind fun c=>if decide (c<0) then ((zfm p0.1 p1 a.1 a.2).bind fun d=>some (decide (d≥p0.2.2))) else (some false)) else (some false)) else (some false)
def zgd (a:LP):Option ((LP)):=
 some a
def zge (p1:Int×Int) (d:Int) (b:Bool) (a:LP):Option ((LP)):=
 if !b then ((app 24 a [(p1,d)]).bind fun c=>zgd c) else (zgd a)
def zex (p0:LP) (a:Bool×Int×LP) (b:Bool) (c:LP):Option ((Bool×Int×LP) ⊕ (Bool×LP)):=
 (idx p0 a.2.1).bind fun d=>(app 24 c [d]).bind fun e=>some (.inl (b,w64 (a.2.1+1),e))
def zew (p0:LP) (p1:Int×Int) (d:Int) (a:Bool×Int×LP) (b:Bool):Option ((Bool×Int×LP) ⊕ (Bool×LP)):=
 if b then ((app 24 a.2.2 [(p1,d)]).bind fun c=>zex p0 a true c) else (zex p0 a a.1 a.2.2)
def zac (p0:LP) (p1:Int×Int) (c:Int) (a:Bool×Int×LP):Option ((Bool×Int×LP) ⊕ (Bool×LP)):=
 if decide (a.2.1<(p0.length:Int)) then (if !a.1 then ((idx p0 a.2.1).bind fun d=>(zc2 p1 d.1).bind fun b=>zew p0 p1 c a b) else (zew p0 p1 c a false)) else (some (.inr (a.1,a.2.2)))
def zkh (p0:LP) (p1:Int×Int) (b:Int):Option ((LP)):=
 (iter (zac p0 p1 b) (false,0,[])).bind fun a=>zge p1 b a.1 a.2
def ziu (p0:LP) (p1:(Int×Int)×Int):Option ((LP)×Int):=
 if decide ((p0.length:Int)≥500) then (some ([],4)) else ((zkh p0 p1.1 p1.2).bind fun a=>some (a,0))
def zkt (a:LP):Option ((LP)×Int×Int):=
 some (a,0,0)
def zaC (p0:TS×(LP)×Int) (p1:LP) (a:Int×LP):Option ((Int×LP) ⊕ ((LP) ⊕ ((LP)×Int×Int))):=
 if decide (a.1<(p1.length:Int)) then ((idx p1 a.1).bind fun c=>(zmm p0 a.2 c).bind fun d=>if !d then (some (.inr (.inr ([],a.1,5)))) else ((idx p1 a.1).bind fun _=>(ziu a.2 c).bind fun b=>if !decide (b.2=0) then (some (.inr (.inr ([],0,b.2)))) else (some (.inl (w64 (a.1+1),b.1))))) else (some (.inr (.inl a.2)))
def zgI (p0:TS×(LP)×Int) (p1:LP):Option ((LP)×Int×Int):=
 (zdG p0.2.1).bind fun a=>(iter (zaC p0 p1) (0,a)).bind fun b=>match b with | .inl z=>zkt z | .inr z=>some z
def zdJ (p0:TS×(LP)×Int) (p1:LP):Option ((LP)×Int×Int):=
 (ze1 p0).bind fun b=>if !b then (some ([],0,1)) else (if decide ((p1.length:Int)>500) then (some ([],0,2)) else ((zgI p0 p1).bind fun a=>some (a.1,a.2.1,a.2.2)))
def zkw  : Option (Bool):=
 some true
def zdn (p0:LP) (p1:LP) (a:Int):Option (Int ⊕ (Unit ⊕ Bool)):=
 if decide (a<(p0.length:Int)) then ((idx p0 a).bind fun b=>(idx p1 a).bind fun c=>if !((decide (b.1.1=c.1.1)&&decide (b.1.2=c.1.2))&&decide (b.2=c.2)) then (some (.inr (.inr false))) else (some (.inl (w64 (a+1))))) else (some (.inr (.inl ())))
def ziI (p0:LP) (p1:LP):Option (Bool):=
 if !decide ((p0.length:Int)=(p1.length:Int)) then (some false) else ((iter (zdn p0 p1) 0).bind fun a=>match a with | .inl z=>zkw | .inr z=>some z)
def zbB (p0:TS×(LP)×Int) (p1:LP) (c:LP):Option (Bool):=
 (zdJ p0 p1).bind fun a=>if decide (a.2.2=0) then ((ziI a.1 c).bind fun b=>some b) else (some false)
def zg6 (p1:Int×Int) (a:Int) (b:List (Int×Int)):Option ((List (Int×Int))):=
 (idx b a).bind fun d=>(some (b.set a.toNat p1)).bind fun c=>some c
def zco (b:Int) (a:(List (Int×Int))×Int):Option (((List (Int×Int))×Int) ⊕ ((List (Int×Int)))):=
 if decide (a.2>b) then ((idx a.1 (w64 (a.2 - 1))).bind fun c=>(idx a.1 a.2).bind fun e=>(some (a.1.set a.2.toNat c)).bind fun d=>some (.inl (d,w64 (a.2 - 1)))) else (some (.inr a.1))
def za9 (p0:List (Int×Int)) (p1:Int×Int) (a:Int) (b:Bool):Option ((List (Int×Int))):=
 if b then (some p0) else ((app 16 p0 [p1]).bind fun x23=>(iter (zco a) (x23,w64 ((x23.length:Int) - 1))).bind fun c=>zg6 p1 a c)
def zg7 (p0:List (Int×Int)) (p1:Int×Int) (a:Int):Option ((List (Int×Int))):=
 if decide (a<(p0.length:Int)) then ((idx p0 a).bind fun b=>za9 p0 p1 a (decide (b.1=p1.1)&&decide (b.2=p1.2))) else (za9 p0 p1 a false)
def za8 (a:Int) (b:Bool):Option (Int ⊕ Int):=
 if b then (some (.inl (w64 (a - 1)))) else (some (.inr a))
def zau (p0:List (Int×Int)) (p1:Int×Int) (a:Int):Option (Int ⊕ Int):=
 if decide (a>0) then ((idx p0 (w64 (a - 1))).bind fun b=>(zc2 b p1).bind fun c=>za8 a (!c)) else (za8 a false)
def zgH (p0:List (Int×Int)) (p1:Int×Int):Option ((List (Int×Int))):=
 (iter (zau p0 p1) (p0.length:Int)).bind fun a=>zg7 p0 p1 a
def zob (a:List (Int×Int)):Option ((List (Int×Int))):=
 some a
def zku (a:(List (Int×Int))×Int) (b:List (Int×Int)):Option (((List (Int×Int))×Int) ⊕ ((List (Int×Int)))):=
 some (.inl (b,w64 (a.2+1)))
def zfk (a:(List (Int×Int))×Int) (b:List (Int×Int)):Option (((List (Int×Int))×Int) ⊕ ((List (Int×Int)))):=
 some (.inl (b,w64 (a.2+1)))
def zfj (a:(List (Int×Int))×Int) (b:(Int×Int)) (c:Bool):Option (((List (Int×Int))×Int) ⊕ ((List (Int×Int)))):=
 if c then ((zgH a.1 b).bind fun d=>zfk a d) else (zfk a a.1)
def zdl (p0:LP) (c:(List (Int×Int))×Int) (a:(List (Int×Int))×Int):Option (((List (Int×Int))×Int) ⊕ ((List (Int×Int)))):=
 if decide (a.2<4) then ((idx p0 c.2).bind fun d=>(zaa d.1 a.2).bind fun b=>(zd8 b).bind fun e=>if e then ((zaT p0 b).bind fun f=>zfj a b (decide (f<0))) else (zfj a b false)) else (some (.inr a.1))
def zdm (p0:LP) (a:(List (Int×Int))×Int):Option (((List (Int×Int))×Int) ⊕ ((List (Int×Int)))):=
 if decide (a.2<(p0.length:Int)) then ((iter (zdl p0 a) (a.1,0)).bind fun b=>zku a b) else (some (.inr a.1))
def zk0 (p0:LP):Option ((List (Int×Int))):=
 (iter (zdm p0) ([],0)).bind fun a=>zob a
def zmO (a:LI):Option (LI):=
 some a
def zj1 (a:LI×Int) (b:LI):Option ((LI×Int) ⊕ (LI)):=
 some (.inl (b,w64 (a.2+1)))
def zmN (d:Int) (a:LI×Int) (b:Int):Option ((LI×Int) ⊕ (LI)):=
 if decide (b≥d) then ((app 8 a.1 [a.2]).bind fun c=>zj1 a c) else (zj1 a a.1)
def zj0 (a:Int×Int) (b:Int):Option ((Int×Int) ⊕ Int):=
 some (.inl (b,w64 (a.2+1)))
def zhs (p0:LG×LT) (b:LI) (d:LI×Int) (a:Int×Int):Option ((Int×Int) ⊕ Int):=
 if decide (a.2<4) then ((idx p0.2 d.2).bind fun e=>(idx e.2 a.2).bind fun f=>(idx b a.2).bind fun c=>if decide (f=c) then ((idx b a.2).bind fun _=>(zar p0 c).bind fun g=>zj0 a (w64 (a.1+g))) else (zj0 a a.1)) else (some (.inr a.1))
def zht (p0:LG×LT) (d:Int) (b:LI) (a:LI×Int):Option ((LI×Int) ⊕ (LI)):=
 if decide (a.2<(p0.2.length:Int)) then ((iter (zhs p0 b a) (0,0)).bind fun c=>zmN d a c) else (some (.inr a.1))
def zmP (p0:LG×LT) (c:Int) (a:LI):Option (LI):=
 (iter (zht p0 c a) ([],0)).bind fun b=>zmO b
def zjZ (a:LI×Int) (b:LI):Option ((LI×Int) ⊕ (LI)):=
 some (.inl (b,w64 (a.2+1)))
def zfC (p0:LG×LT) (p1:LP) (i:Int×Int) (a:LI×Int):Option ((LI×Int) ⊕ (LI)):=
 if decide (a.2<4) then ((zaa i a.2).bind fun c=>(zc1 p1 c).bind fun b=>if decide (b<0) then ((app 8 a.1 [0]).bind fun d=>zjZ a d) else ((idx p0.2 b).bind fun e=>(zfH a.2).bind fun f=>(idx e.2 f).bind fun g=>(app 8 a.1 [g]).bind fun h=>zjZ a h)) else (some (.inr a.1))
def zlA (p0:LG×LT) (p1:LP) (b:Int×Int) (c:Int):Option (LI):=
 (iter (zfC p0 p1 b) ([],0)).bind fun a=>zmP p0 c a
def zlz (a:LP):Option (LP):=
 some a
def zh1 (a:LP×Int) (b:LP):Option ((LP×Int) ⊕ (LP)):=
 some (.inl (b,w64 (a.2+1)))
def zbq (d:(List (Int×Int))) (c:LP×Int) (e:Int×Int) (b:LI) (a:LP×Int):Option ((LP×Int) ⊕ (LP)):=
 if decide (a.2<(b.length:Int)) then ((idx d c.2).bind fun _=>(idx b a.2).bind fun f=>(app 24 a.1 [(e,f)]).bind fun g=>some (.inl (g,w64 (a.2+1)))) else (some (.inr a.1))
def zbr (p0:TS×(LP)×Int) (p1:LP) (b:(List (Int×Int))) (a:LP×Int):Option ((LP×Int) ⊕ (LP)):=
 if decide (a.2<(b.length:Int)) then ((idx b a.2).bind fun c=>(zlA p0.1 p1 c p0.2.2).bind fun d=>(iter (zbq b a c d) (a.1,0)).bind fun e=>zh1 a e) else (some (.inr a.1))
def zdk (p0:TS×(LP)×Int) (p1:LP):Option (LP):=
 (zk0 p1).bind fun a=>(iter (zbr p0 p1 a) ([],0)).bind fun b=>zlz b
def zml (a:LI) (b:LI):Option (LI×LI):=
 some (a,b)
def zis (p0:TS×(LP)×Int) (a:LI×LI×Int×LP) (b:(Int×Int)×Int) (e:Int):Option ((LI×LI×Int×LP) ⊕ (LI×LI)):=
 (app 8 a.1 [e]).bind fun f=>(zfm p0.1 a.2.2.2 b.1 b.2).bind fun g=>(app 8 a.2.1 [g]).bind fun c=>(zkh a.2.2.2 b.1 b.2).bind fun d=>some (.inl (f,c,w64 (a.2.2.1+1),d))
def zfR (a:Int×Int) (b:Int):Option ((Int×Int) ⊕ Int):=
 some (.inl (b,w64 (a.2+1)))
def zfQ (a:Int×Int) (b:Bool):Option ((Int×Int) ⊕ Int):=
 if b then ((zwD .i64 1 a.2).bind fun c=>zfR a (w64 (a.1+c))) else (zfR a a.1)
def zbZ (p0:TS×(LP)×Int) (d:LI×LI×Int×LP) (c:(Int×Int)×Int) (a:Int×Int):Option ((Int×Int) ⊕ Int):=
 if decide (a.2<4) then ((zaa c.1 a.2).bind fun e=>(zc1 d.2.2.2 e).bind fun b=>if decide (b≥0) then ((zdH p0.1 c.2 a.2 b).bind fun f=>zfQ a (decide (f>0))) else (zfQ a false)) else (some (.inr a.1))
def zdw (p0:TS×(LP)×Int) (p1:LP) (a:LI×LI×Int×LP):Option ((LI×LI×Int×LP) ⊕ (LI×LI)):=
 if decide (a.2.2.1<(p1.length:Int)) then ((idx p1 a.2.2.1).bind fun b=>(iter (zbZ p0 a b) (0,0)).bind fun c=>zis p0 a b c) else (some (.inr (a.1,a.2.1)))
def zit (p0:TS×(LP)×Int) (p1:LP):Option (LI×LI):=
 (zdG p0.2.1).bind fun b=>(iter (zdw p0 p1) ([],[],0,b)).bind fun a=>zml a.1 a.2
def zlx (a:LI):Option (LI):=
 some a
def zh0 (a:LI×Int) (b:Int):Option ((LI×Int) ⊕ (LI)):=
 (app 8 a.1 [b]).bind fun c=>some (.inl (c,w64 (a.2+1)))
def zhZ (a:Int×Int) (b:Int):Option ((Int×Int) ⊕ Int):=
 some (.inl (b,w64 (a.2+1)))
def zbp (a:Int×Int) (b:Int):Option ((Int×Int) ⊕ Int):=
 some (.inl (b,w64 (a.2+1)))
def zbo (b:Int×Int) (a:Int×Int) (c:Bool):Option ((Int×Int) ⊕ Int):=
 if c then ((zwD .i64 1 b.2).bind fun d=>zbp a (w64 (a.1+d))) else (zbp a a.1)
def zP (p0:LP) (p1:LI) (b:Int×Int) (c:(Int×Int)) (a:Int×Int):Option ((Int×Int) ⊕ Int):=
 if decide (a.2<(p0.length:Int)) then ((idx p0 a.2).bind fun d=>if (decide (d.1.1=c.1)&&decide (d.1.2=c.2)) then ((idx p1 a.2).bind fun e=>(zfH b.2).bind fun f=>(zvJ .i64 e f).bind fun g=>zbo b a (decide ((ztZ .i64 g 1)=1))) else (zbo b a false)) else (some (.inr a.1))
def zbn (p0:LP) (p1:LI) (b:LI×Int) (a:Int×Int):Option ((Int×Int) ⊕ Int):=
 if decide (a.2<4) then ((idx p0 b.2).bind fun c=>(zaa c.1 a.2).bind fun d=>(iter (zP p0 p1 a d) (a.1,w64 (b.2+1))).bind fun e=>zhZ a e) else (some (.inr a.1))
def zcY (p0:LP) (p1:LI) (a:LI×Int):Option ((LI×Int) ⊕ (LI)):=
 if decide (a.2<(p0.length:Int)) then ((iter (zbn p0 p1 a) (0,0)).bind fun b=>zh0 a b) else (some (.inr a.1))
def zhF (p0:LP) (p1:LI):Option (LI):=
 (iter (zcY p0 p1) ([],0)).bind fun a=>zlx a
def zhY (a:LP):Option ((LP)):=
 some a
def ze0 (a:Int×LP) (b:LP):Option ((Int×LP) ⊕ (LP)):=
 some (.inl (w64 (a.1+1),b))
def zhX (p0:LP) (a:Int×LP) (b:(Int×Int)×Int) (c:Bool):Option ((Int×LP) ⊕ (LP)):=
 if c then ((idx p0 a.1).bind fun _=>(app 24 a.2 [b]).bind fun d=>ze0 a d) else (ze0 a a.2)
def zeZ (a:Bool×Int) (b:Bool):Option ((Bool×Int) ⊕ Bool):=
 some (.inl (b,w64 (a.2+1)))
def zeY (a:Bool×Int) (b:Bool):Option ((Bool×Int) ⊕ Bool):=
 if b then (zeZ a false) else (zeZ a a.1)
def zbm (p0:LP) (p1:Int×Int) (f:Int) (d:Int×LP) (b:(Int×Int)×Int) (a:Bool×Int):Option ((Bool×Int) ⊕ Bool):=
 if decide (a.2<4) then ((zvJ .i64 f a.2).bind fun e=>if decide ((ztZ .i64 e 1)=1) then ((idx p0 d.1).bind fun _=>(zaa p1 a.2).bind fun c=>zeY a (decide (b.1.1=c.1)&&decide (b.1.2=c.2))) else (zeY a false)) else (some (.inr a.1))
def zcX (p0:LP) (p1:Int×Int) (d:Int) (a:Int×LP):Option ((Int×LP) ⊕ (LP)):=
 if decide (a.1<(p0.length:Int)) then ((idx p0 a.1).bind fun b=>(iter (zbm p0 p1 d a b) (!(decide (b.1.1=p1.1)&&decide (b.1.2=p1.2)),0)).bind fun c=>zhX p0 a b c) else (some (.inr a.2))
def zhE (p0:LP) (p1:Int×Int) (b:Int):Option ((LP)):=
 (iter (zcX p0 p1 b) (0,[])).bind fun a=>zhY a
def zjw (p0:TS×(LP)×Int) (b:(LP)×Int×Int) (d:Int) (e:Int):Option (Int×(Int×Int)):=
 (zdk p0 b.1).bind fun a=>if decide ((a.length:Int)>0) then ((idx a 0).bind fun c=>some (3,c.1)) else (some (0,(0,0)))
def zgG (p0:TS×(LP)×Int) (p1:LP) (e:LI×LI) (f:LI) (g:(LP)×Int×Int) (a:Int×Int×Int):Option ((Int×Int×Int) ⊕ ((Int×Int) ⊕ (Int×(Int×Int)))):=
 if decide (a.1<(p1.length:Int)) then ((idx e.2 a.1).bind fun h=>if !decide (h=p0.2.2) then ((idx p1 a.1).bind fun i=>some (.inr (.inr (1,i.1)))) else ((idx p1 a.1).bind fun j=>(idx f a.1).bind fun k=>(zhE g.1 j.1 k).bind fun l=>(idx p1 a.1).bind fun b=>(zlA p0.1 l b.1 p0.2.2).bind fun c=>if !decide ((c.length:Int)=1) then ((idx p1 a.1).bind fun d=>some (.inr (.inr (2,d.1)))) else (some (.inl (w64 (a.1+1),a.2.1,a.2.2))))) else (some (.inr (.inl (a.2.1,a.2.2))))
def zhr (p0:TS×(LP)×Int) (p1:LP):Option (Int×(Int×Int)):=
 (zit p0 p1).bind fun a=>(zhF p1 a.1).bind fun c=>(zgI p0 p1).bind fun b=>(iter (zgG p0 p1 a c b) (0,0,0)).bind fun d=>match d with | .inl z=>zjw p0 b z.1 z.2 | .inr z=>some z
def zcn (p0:TS×(LP)×Int) (p1:LP) (c:LP) (d:Bool):Option (Bool):=
 if d then (some false) else ((zdJ p0 c).bind fun e=>(idx p1 (w64 ((p1.length:Int) - 1))).bind fun a=>(idx c (w64 ((c.length:Int) - 1))).bind fun b=>if decide (e.2.2=0) then (if (decide (a.1.1=b.1.1)&&decide (a.1.2=b.1.2)) then (some (!decide (a.2=b.2))) else (some false)) else (some false))
def zgF (p0:TS×(LP)×Int) (p1:LP) (a:LP) (c:LP):Option (Bool):=
 if decide ((p1.length:Int)=0) then (zcn p0 p1 a true) else (if decide ((a.length:Int)=0) then (zcn p0 p1 a true) else ((zbB p0 p1 c).bind fun b=>zcn p0 p1 a (!b)))
def zjA (a:Bool):Option (Int):=
 if a then (some 1) else (some 0)
def zfD (p0:LG×LT) (p1:LP):Option (Int):=
 (zjD p0).bind fun a=>if !a then (zjA true) else ((zjB p0 p1).bind fun b=>zjA (!b))
def ziM (c:Int) (a:LI):Option (Int×Int):=
 (idx a c).bind fun b=>some (b,0)
def zdK (a:Int) (b:Bool):Option (Int ⊕ (Unit ⊕ (Int×Int))):=
 if b then (some (.inr (.inr (0,10)))) else (some (.inl (w64 (a+1))))
def zb1 (p1:LP) (d:Int) (e:Int) (b:LI) (a:Int):Option (Int ⊕ (Unit ⊕ (Int×Int))):=
 if decide (a≤(w64 ((p1.length:Int) - 1))) then (if !decide (a=d) then (if !decide (a=e) then ((idx b a).bind fun c=>zdK a (!decide (c=0))) else (zdK a false)) else (zdK a false)) else (some (.inr (.inl ())))
def ziN (p1:LP) (b:Int) (d:Int) (a:LI):Option (Int×Int):=
 (iter (zb1 p1 b d a) 0).bind fun c=>match c with | .inl z=>ziM b a | .inr z=>some z
def zb2 (f:LI) (b:LB) (a:LI×Int):Option ((LI×Int) ⊕ ((LI) ⊕ (Int×Int))):=
 if decide (a.2<(b.length:Int)) then ((idx f a.2).bind fun j=>(idx b a.2).bind fun k=>(idx b a.2).bind fun l=>(zao j (w64 (0 - k.2.2)) l.2.2).bind fun m=>if !m then (some (.inr (.inr (0,10)))) else ((idx b a.2).bind fun c=>(idx a.1 c.1).bind fun n=>(idx f a.2).bind fun p=>(idx a.1 c.1).bind fun r=>(some (a.1.set c.1.toNat (w64 (n+p)))).bind fun d=>(idx b a.2).bind fun e=>(idx d e.2.1).bind fun g=>(idx f a.2).bind fun h=>(idx d e.2.1).bind fun q=>(some (d.set e.2.1.toNat (w64 (g - h)))).bind fun i=>some (.inl (i,w64 (a.2+1))))) else (some (.inr (.inl a.1)))
def zdL (p0:LG×LT) (p1:LP) (f:Int) (g:Int) (b:LI) (c:Bool):Option (Int×Int):=
 if c then (some (0,2)) else ((zd7 p0 p1).bind fun a=>if !decide ((b.length:Int)=(a.length:Int)) then (some (0,10)) else ((mkl 8 (p1.length:Int) 0).bind fun d=>(iter (zb2 b a) (d,0)).bind fun e=>match e with | .inl z=>ziN p1 f g z | .inr z=>some z))
def ziO (p0:LG×LT) (p1:LP) (a:Int) (b:Int) (c:LI):Option (Int×Int):=
 (zfD p0 p1).bind fun x23=>if !decide (x23=0) then (some (0,x23)) else ((zao a 0 (w64 ((p1.length:Int) - 1))).bind fun d=>if !d then (zdL p0 p1 a b c true) else ((zao b 0 (w64 ((p1.length:Int) - 1))).bind fun e=>if !e then (zdL p0 p1 a b c true) else (zdL p0 p1 a b c (decide (a=b)))))
def znm  : Option (Bool):=
 some true
def zgE (a:Int) (b:Bool):Option (Int ⊕ (Unit ⊕ Bool)):=
 if b then (some (.inr (.inr false))) else (some (.inl (w64 (a+1))))
def zcO (p0:TS×(LP)×Int) (p1:LP) (c:LM) (a:Int):Option (Int ⊕ (Unit ⊕ Bool)):=
 if decide (a<(c.length:Int)) then ((idx c a).bind fun d=>(ziO p0.1 p1 0 (w64 (a+1)) d).bind fun b=>if !decide (b.2=0) then (zgE a true) else (zgE a (decide (b.1<p0.2.2)))) else (some (.inr (.inl ())))
def zjY (p0:TS×(LP)×Int) (p1:LP) (a:LM):Option (Bool):=
 (zdI 0 (w64 ((p1.length:Int) - 1))).bind fun b=>if !decide ((a.length:Int)=b) then (some false) else ((iter (zcO p0 p1 a) 0).bind fun x23=>match x23 with | .inl z=>znm | .inr z=>some z)
def zno  : Option (Bool):=
 some true
def zcQ (a:Int) (b:Bool):Option (Int ⊕ (Unit ⊕ Bool)):=
 if b then (some (.inr (.inr false))) else (some (.inl (w64 (a+1))))
def zaM (p0:LI) (p1:Int) (f:Int) (a:Int):Option (Int ⊕ (Unit ⊕ Bool)):=
 if decide (a<(p0.length:Int)) then ((idx p0 a).bind fun b=>(zao b p1 f).bind fun c=>if !c then (zcQ a true) else (if decide (a>0) then ((idx p0 (w64 (a - 1))).bind fun d=>(idx p0 a).bind fun e=>zcQ a (decide (d≥e))) else (zcQ a false))) else (some (.inr (.inl ())))
def zmW (p0:LI) (p1:Int) (a:Int):Option (Bool):=
 (iter (zaM p0 p1 a) 0).bind fun b=>match b with | .inl z=>zno | .inr z=>some z
def zk2 (p0:LP) (p1:LI):Option (Bool):=
 (zmW p1 0 (w64 ((p0.length:Int) - 1))).bind fun a=>some a
def zlH  : Option (Bool):=
 some false
def ziJ (p0:LI) (p1:Int) (a:Int):Option (Int ⊕ (Unit ⊕ Bool)):=
 if decide (a<(p0.length:Int)) then ((idx p0 a).bind fun b=>if decide (b=p1) then (some (.inr (.inr true))) else (some (.inl (w64 (a+1))))) else (some (.inr (.inl ())))
def zki (p0:LI) (p1:Int):Option (Bool):=
 (iter (ziJ p0 p1) 0).bind fun a=>match a with | .inl z=>zlH | .inr z=>some z
def zox (a:Int):Option (Int):=
 some a
def ziH (a:Int×Int) (b:Int):Option ((Int×Int) ⊕ Int):=
 some (.inl (b,w64 (a.2+1)))
def zes (p0:LB) (p1:LI) (a:Int×Int):Option ((Int×Int) ⊕ Int):=
 if decide (a.2<(p0.length:Int)) then ((idx p0 a.2).bind fun c=>(zki p1 c.1).bind fun x23=>(idx p0 a.2).bind fun b=>(zki p1 b.2.1).bind fun d=>if !(x23 == d) then ((idx p0 a.2).bind fun _=>ziH a (w64 (a.1+b.2.2))) else (ziH a a.1)) else (some (.inr a.1))
def zmq (p0:LB) (p1:LI):Option (Int):=
 (iter (zes p0 p1) (0,0)).bind fun a=>zox a
def zga (p0:TS×(LP)×Int) (p1:LP) (d:LI) (a:Bool):Option (Bool):=
 if a then (some false) else ((zd7 p0.1 p1).bind fun b=>(zmq b d).bind fun c=>some (decide (c<p0.2.2)))
def zmk (p0:TS×(LP)×Int) (p1:LP) (a:LI):Option (Bool):=
 (zk2 p1 a).bind fun b=>if !b then (zga p0 p1 a true) else (if decide ((a.length:Int)=0) then (zga p0 p1 a true) else (zga p0 p1 a (decide ((a.length:Int)=(p1.length:Int)))))
def zjX (p0:TS×(LP)×Int) (p1:LP) (a:Int×LP×LP×LI×LM):Option (Bool):=
 if decide (a.1=1) then ((zbB p0 a.2.1 p1).bind fun b=>some b) else (if decide (a.1=2) then ((zbB p0 a.2.1 p1).bind fun c=>if c then ((zdk p0 p1).bind fun d=>some (decide ((d.length:Int)=0))) else (some false)) else (if decide (a.1=3) then ((zbB p0 a.2.1 p1).bind fun e=>if !e then (some false) else ((zhr p0 a.2.1).bind fun f=>some (decide (f.1=0)))) else (if decide (a.1=4) then ((zgF p0 a.2.1 a.2.2.1 p1).bind fun g=>some g) else (if decide (a.1=5) then ((zjY p0 p1 a.2.2.2.2).bind fun h=>some h) else ((zmk p0 p1 a.2.2.2.1).bind fun i=>some i)))))
def zh3 (a:Bool):Option (Int):=
 if a then (some 10) else (some 0)
def zhI (p0:TS×(LP)×Int) (p1:LP) (b:Int×LP×LP×LI×LM):Option (Int):=
 (zmQ p0 p1).bind fun a=>if !decide (a=0) then (some a) else ((zao b.1 1 6).bind fun c=>if !c then (some 2) else ((zf9 b).bind fun d=>if !d then (zh3 true) else ((zjX p0 p1 b).bind fun e=>zh3 (!e))))
def zjW (p0:BS×(TS×(LP)×Int)×(LP)×(Int×LP×LP×LI×LM)):Option (Bool):=
 (zgj p0.1).bind fun a=>if a then ((zhI p0.2.1 p0.2.2.1 p0.2.2.2).bind fun b=>some (decide (b=0))) else (some false)
def zdo (p0:Int) (a:BS):Option (BS):=
 if decide (p0=0) then (some ([48]:BS)) else (if decide (p0<0) then ((zaS ([45]:BS) a).bind fun b=>some b) else (some a))
def zfn (a:BS×Int) (b:Int):Option ((BS×Int) ⊕ (BS)):=
 (zaS (zY [IntKind.wrap .u8 (w64 (48+b))]) a.1).bind fun c=>some (.inl (c,w64 (Int.tdiv a.2 10)))
def zaD  (a:BS×Int):Option ((BS×Int) ⊕ (BS)):=
 if !decide (a.2=0) then (if decide ((Int.tmod a.2 10)<0) then (zfn a (w64 (0 - (Int.tmod a.2 10)))) else (zfn a (Int.tmod a.2 10))) else (some (.inr a.1))
def zaW (p0:Int):Option (BS):=
 (iter (zaD) (([]:BS),p0)).bind fun a=>zdo p0 a
def zgh (p0:Int×Int):Option (BS):=
 (zd8 p0).bind fun e=>if !e then (some ([]:BS)) else ((zaW p0.1).bind fun a=>(zaS a ([44]:BS)).bind fun b=>(zaW p0.2).bind fun c=>(zaS b c).bind fun d=>some d)
def zgN (p0:LG×LT) (p1:Int):Option (BS):=
 if decide (p1=0) then (some ([45]:BS)) else ((idx p0.1 (w64 (p1 - 1))).bind fun a=>some a.1)
def zlE (a:LI):Option (BS):=
 some (zY a)
def zlD (a:LI×Int) (b:LI):Option ((LI×Int) ⊕ (LI)):=
 (app 1 b [10]).bind fun c=>some (.inl (c,w64 (a.2+1)))
def zet (p0:LG×LT) (b:LI×Int) (c:BS×LI) (a:LI×Int):Option ((LI×Int) ⊕ (LI)):=
 if decide (a.2<4) then ((idx p0.2 b.2).bind fun _=>(idx c.2 a.2).bind fun d=>(zgN p0 d).bind fun e=>(zaS ([32]:BS) e).bind fun f=>(app 1 a.1 (zB f)).bind fun g=>some (.inl (g,w64 (a.2+1)))) else (some (.inr a.1))
def zeu (p0:LG×LT) (a:LI×Int):Option ((LI×Int) ⊕ (LI)):=
 if decide (a.2<(p0.2.length:Int)) then ((idx p0.2 a.2).bind fun b=>(zaS ([116,105,108,101,32]:BS) b.1).bind fun c=>(app 1 a.1 (zB c)).bind fun d=>(iter (zet p0 a b) (d,0)).bind fun e=>zlD a e) else (some (.inr a.1))
def zlF (p0:LG×LT) (a:LI):Option (BS):=
 (iter (zeu p0) (a,0)).bind fun b=>zlE b
def zev (p0:LG×LT) (a:LI×Int):Option ((LI×Int) ⊕ (LI)):=
 if decide (a.2<(p0.1.length:Int)) then ((idx p0.1 a.2).bind fun b=>(zaS ([103,108,117,101,32]:BS) b.1).bind fun c=>(zaS c ([32]:BS)).bind fun d=>(idx p0.1 a.2).bind fun _=>(zaW b.2).bind fun e=>(zaS d e).bind fun f=>(zaS f ([10]:BS)).bind fun g=>(app 1 a.1 (zB g)).bind fun h=>some (.inl (h,w64 (a.2+1)))) else (some (.inr a.1))
def zmr (p0:LG×LT):Option (BS):=
 (iter (zev p0) ([],0)).bind fun a=>zlF p0 a
def zmj (a:BS):Option (BS):=
 some a
def zbY (p0:TS×(LP)×Int) (a:BS×Int):Option ((BS×Int) ⊕ (BS)):=
 if decide (a.2<(p0.2.1.length:Int)) then ((idx p0.2.1 a.2).bind fun b=>(idx p0.1.2 b.2).bind fun c=>(zaS ([115,101,101,100,32]:BS) c.1).bind fun d=>(zaS d ([32]:BS)).bind fun e=>(idx p0.2.1 a.2).bind fun _=>(zgh b.1).bind fun f=>(zaS e f).bind fun g=>(zaS g ([10]:BS)).bind fun h=>(zaS a.1 h).bind fun i=>some (.inl (i,w64 (a.2+1)))) else (some (.inr a.1))
def zir (p0:TS×(LP)×Int):Option (BS):=
 (zaW p0.2.2).bind fun a=>(zaS ([116,101,109,112,101,114,97,116,117,114,101,32]:BS) a).bind fun b=>(zaS b ([10]:BS)).bind fun c=>(zmr p0.1).bind fun d=>(zaS c d).bind fun e=>(iter (zbY p0) (e,0)).bind fun f=>zmj f
def ziK (p0:Int):Option (BS):=
 (zao p0 1 6).bind fun b=>if !b then (some ([]:BS)) else ((idx [([103,114,111,119,110]:BS),([116,101,114,109,105,110,97,108]:BS),([117,110,105,113,117,101]:BS),([99,111,110,102,108,105,99,116]:BS),([115,116,97,98,108,101]:BS),([108,111,111,115,101]:BS)] (w64 (p0 - 1))).bind fun a=>some a)
def zlv (a:BS):Option (BS):=
 some a
def zbl (p0:BS) (p1:LP) (a:BS×Int):Option ((BS×Int) ⊕ (BS)):=
 if decide (a.2<(p1.length:Int)) then ((zaS p0 ([32]:BS)).bind fun c=>(idx p1 a.2).bind fun b=>(idx p1 a.2).bind fun _=>(idx p1 a.2).bind fun _=>(zaW b.1.1).bind fun d=>(zaS c d).bind fun e=>(zaS e ([32]:BS)).bind fun f=>(zaW b.1.2).bind fun g=>(zaS f g).bind fun h=>(zaS h ([32]:BS)).bind fun i=>(zaW b.2).bind fun j=>(zaS i j).bind fun k=>(zaS k ([10]:BS)).bind fun l=>(zaS a.1 l).bind fun m=>some (.inl (m,w64 (a.2+1)))) else (some (.inr a.1))
def zfh (p0:BS) (p1:LP):Option (BS):=
 (iter (zbl p0 p1) (([]:BS),0)).bind fun a=>zlv a
def zhW (a:BS):Option (BS):=
 (zaS a ([10]:BS)).bind fun b=>some b
def zcW (p1:LI) (a:BS×Int):Option ((BS×Int) ⊕ (BS)):=
 if decide (a.2<(p1.length:Int)) then ((idx p1 a.2).bind fun b=>(zaW b).bind fun c=>(zaS ([32]:BS) c).bind fun d=>(zaS a.1 d).bind fun e=>some (.inl (e,w64 (a.2+1)))) else (some (.inr a.1))
def zfi (p0:BS) (p1:LI):Option (BS):=
 (iter (zcW p1) (p0,0)).bind fun a=>zhW a
def znl (a:BS):Option (BS):=
 some a
def zcN (p0:Int×LP×LP×LI×LM) (a:BS×Int):Option ((BS×Int) ⊕ (BS)):=
 if decide (a.2<(p0.2.2.2.2.length:Int)) then ((idx p0.2.2.2.2 a.2).bind fun b=>(zfi ([102,108,111,119]:BS) b).bind fun c=>(zaS a.1 c).bind fun d=>some (.inl (d,w64 (a.2+1)))) else (some (.inr a.1))
def zep (p0:Int×LP×LP×LI×LM) (a:BS):Option (BS):=
 (iter (zcN p0) (a,0)).bind fun b=>znl b
def zjV (p0:Int×LP×LP×LI×LM):Option (BS):=
 (ziK p0.1).bind fun b=>(zaS ([112,114,111,111,102,32]:BS) b).bind fun c=>(zaS c ([10]:BS)).bind fun d=>(zfh ([112,117,116]:BS) p0.2.1).bind fun e=>(zaS d e).bind fun f=>(zfh ([111,116,104,101,114]:BS) p0.2.2.1).bind fun g=>(zaS f g).bind fun a=>if decide ((p0.2.2.2.1.length:Int)>0) then ((zfi ([112,97,114,116]:BS) p0.2.2.2.1).bind fun h=>(zaS a h).bind fun i=>zep p0 i) else (zep p0 a)
def zf8 (p0:BS×(TS×(LP)×Int)×(LP)×(Int×LP×LP×LI×LM)) (a:BS):Option (BS):=
 (zjV p0.2.2.2).bind fun b=>(zaS a b).bind fun c=>some c
def zaK (p0:BS×(TS×(LP)×Int)×(LP)×(Int×LP×LP×LI×LM)) (a:BS×Int):Option ((BS×Int) ⊕ (BS)):=
 if decide (a.2<(p0.2.2.1.length:Int)) then ((idx p0.2.2.1 a.2).bind fun b=>(idx p0.2.1.1.2 b.2).bind fun c=>(zaS ([97,116,32]:BS) c.1).bind fun d=>(zaS d ([32]:BS)).bind fun e=>(idx p0.2.2.1 a.2).bind fun _=>(zgh b.1).bind fun f=>(zaS e f).bind fun g=>(zaS g ([10]:BS)).bind fun h=>(zaS a.1 h).bind fun i=>some (.inl (i,w64 (a.2+1)))) else (some (.inr a.1))
def zfP (p0:BS×(TS×(LP)×Int)×(LP)×(Int×LP×LP×LI×LM)):Option (BS):=
 (zaS ([101,110,116,114,121,32]:BS) p0.1).bind fun a=>(zaS a ([10]:BS)).bind fun b=>(zir p0.2.1).bind fun c=>(zaS b c).bind fun d=>(zaS d ([101,110,100,10]:BS)).bind fun e=>(iter (zaK p0) (e,0)).bind fun f=>zf8 p0 f
def ziL (p0:BS×(TS×(LP)×Int)×(LP)×(Int×LP×LP×LI×LM)):Option (BS):=
 (zjW p0).bind fun b=>if !b then (some ([]:BS)) else ((zfP p0).bind fun a=>if decide ((a.length:Int)>20000) then (some ([]:BS)) else (some a))
def ziT (p0:Int×Int):Option ((Int×Int)):=
 some p0
def zm3 (p0:(Int×Int)×Int):Option (((Int×Int)×Int)):=
 (ziT p0.1).bind fun a=>some (a,p0.2)
def zmy (a:LP):Option (LP):=
 some a
def zdS (p0:LP) (a:LP×Int):Option ((LP×Int) ⊕ (LP)):=
 if decide (a.2<(p0.length:Int)) then ((idx p0 a.2).bind fun b=>(zm3 b).bind fun c=>(idx a.1 a.2).bind fun e=>(some (a.1.set a.2.toNat c)).bind fun d=>some (.inl (d,w64 (a.2+1)))) else (some (.inr a.1))
def ziU (p0:LP):Option (LP):=
 (mkl 24 (p0.length:Int) ((0,0),0)).bind fun a=>(iter (zdS p0) (a,0)).bind fun b=>zmy b
def zhK (p0:LP):Option ((LP)):=
 (ziU p0).bind fun a=>some a
def zoS (p0:BS×Int):Option ((BS×Int)):=
 some p0
def zoe (a:LG):Option (LG):=
 some a
def zfp (p0:LG) (a:LG×Int):Option ((LG×Int) ⊕ (LG)):=
 if decide (a.2<(p0.length:Int)) then ((idx p0 a.2).bind fun b=>(zoS b).bind fun c=>(idx a.1 a.2).bind fun e=>(some (a.1.set a.2.toNat c)).bind fun d=>some (.inl (d,w64 (a.2+1)))) else (some (.inr a.1))
def zk7 (p0:LG):Option (LG):=
 (mkl 24 (p0.length:Int) ((([]:BS),0):BS×Int)).bind fun a=>(iter (zfp p0) (a,0)).bind fun b=>zoe b
def znw (a:LI):Option (LI):=
 some a
def zeL (p0:LI) (a:LI×Int):Option ((LI×Int) ⊕ (LI)):=
 if decide (a.2<(p0.length:Int)) then ((idx p0 a.2).bind fun b=>(idx a.1 a.2).bind fun d=>(some (a.1.set a.2.toNat b)).bind fun c=>some (.inl (c,w64 (a.2+1)))) else (some (.inr a.1))
def zfJ (p0:LI):Option (LI):=
 (mkl 8 (p0.length:Int) 0).bind fun a=>(iter (zeL p0) (a,0)).bind fun b=>znw b
def zoR (p0:BS×LI):Option ((BS×LI)):=
 (zfJ p0.2).bind fun a=>some (p0.1,a)
def zoc (a:LT):Option (LT):=
 some a
def zfo (p0:LT) (a:LT×Int):Option ((LT×Int) ⊕ (LT)):=
 if decide (a.2<(p0.length:Int)) then ((idx p0 a.2).bind fun b=>(zoR b).bind fun c=>(idx a.1 a.2).bind fun e=>(some (a.1.set a.2.toNat c)).bind fun d=>some (.inl (d,w64 (a.2+1)))) else (some (.inr a.1))
def zk6 (p0:LT):Option (LT):=
 (mkl 40 (p0.length:Int) ((([]:BS),[]):BS×LI)).bind fun a=>(iter (zfo p0) (a,0)).bind fun b=>zoc b
def zlR (p0:LG×LT):Option (TS):=
 (zk7 p0.1).bind fun a=>(zk6 p0.2).bind fun b=>some (a,b)
def zm2 (p0:TS×(LP)×Int):Option ((TS×(LP)×Int)):=
 (zlR p0.1).bind fun a=>(zhK p0.2.1).bind fun b=>some (a,(b,p0.2.2))
def zm4 (p0:(Int×Int)×Int):Option (((Int×Int)×Int)):=
 (ziT p0.1).bind fun a=>some (a,p0.2)
def zmA (a:LP):Option (LP):=
 some a
def zdT (p0:LP) (a:LP×Int):Option ((LP×Int) ⊕ (LP)):=
 if decide (a.2<(p0.length:Int)) then ((idx p0 a.2).bind fun b=>(zm4 b).bind fun c=>(idx a.1 a.2).bind fun e=>(some (a.1.set a.2.toNat c)).bind fun d=>some (.inl (d,w64 (a.2+1)))) else (some (.inr a.1))
def zgp (p0:LP):Option (LP):=
 (mkl 24 (p0.length:Int) ((0,0),0)).bind fun a=>(iter (zdT p0) (a,0)).bind fun b=>zmA b
def zmB (a:LM):Option (LM):=
 some a
def zdU (p0:LM) (a:LM×Int):Option ((LM×Int) ⊕ (LM)):=
 if decide (a.2<(p0.length:Int)) then ((idx p0 a.2).bind fun b=>(zfJ b).bind fun c=>(idx a.1 a.2).bind fun e=>(some (a.1.set a.2.toNat c)).bind fun d=>some (.inl (d,w64 (a.2+1)))) else (some (.inr a.1))
def ziV (p0:LM):Option (LM):=
 (mkl 24 (p0.length:Int) ([]:LI)).bind fun a=>(iter (zdU p0) (a,0)).bind fun b=>zmB b
def znO (p0:Int×LP×LP×LI×LM):Option ((Int×LP×LP×LI×LM)):=
 (zgp p0.2.1).bind fun a=>(zgp p0.2.2.1).bind fun b=>(zfJ p0.2.2.2.1).bind fun c=>(ziV p0.2.2.2.2).bind fun d=>some (p0.1,(a,(b,(c,d))))
def zgW (p0:BS×(TS×(LP)×Int)×(LP)×(Int×LP×LP×LI×LM)):Option ((BS×(TS×(LP)×Int)×(LP)×(Int×LP×LP×LI×LM))):=
 (zm2 p0.2.1).bind fun a=>(zhK p0.2.2.1).bind fun b=>(znO p0.2.2.2).bind fun c=>some (p0.1,(a,(b,c)))
def zl3 (p0:BS):Option (Bool):=
 if decide ((p0.length:Int)≥1) then (some (decide ((p0.length:Int)≤12))) else (some false)
def zbV (a:Int) (b:Bool):Option (Int ⊕ (Unit ⊕ Bool)):=
 if b then (some (.inr (.inr false))) else (some (.inl (w64 (a+1))))
def za5 (a:Int) (b:UInt8) (c:Bool):Option (Int ⊕ (Unit ⊕ Bool)):=
 if !c then (if decide (a=0) then (zbV a true) else (if decide ((b.toNat:Int)<48) then (zbV a (!decide ((b.toNat:Int)=95))) else (if decide ((b.toNat:Int)>57) then (zbV a (!decide ((b.toNat:Int)=95))) else (zbV a false)))) else (zbV a false)
def zbU (p0:BS) (a:Int):Option (Int ⊕ (Unit ⊕ Bool)):=
 if decide (a<(p0.length:Int)) then ((idx p0 a).bind fun b=>if decide ((b.toNat:Int)≥97) then (if decide ((b.toNat:Int)≤122) then (za5 a b true) else (if decide ((b.toNat:Int)≥65) then (za5 a b (decide ((b.toNat:Int)≤90))) else (za5 a b false))) else (if decide ((b.toNat:Int)≥65) then (za5 a b (decide ((b.toNat:Int)≤90))) else (za5 a b false))) else (some (.inr (.inl ())))
def zgz (p0:BS):Option (Bool):=
 (iter (zbU p0) 0).bind fun a=>match a with | .inl z=>zl3 p0 | .inr z=>some z
def zav (p0:Int) (p1:Int) (a:Int):Option (Bool):=
 if decide (p0≥p1) then (some (decide (p0≤a))) else (some false)
def zeD  : Option (Int):=
 some (-1)
def zeC (p0:LI) (p1:Int→Option Bool) (a:Int):Option (Int ⊕ (Unit ⊕ Int)):=
 if decide (a<(p0.length:Int)) then ((idx p0 a).bind fun b=>(p1 b).bind fun c=>if c then (some (.inr (.inr a))) else (some (.inl (w64 (a+1))))) else (some (.inr (.inl ())))
def zgk (p0:LI) (p1:Int→Option Bool):Option (Int):=
 (iter (zeC p0 p1) 0).bind fun a=>match a with | .inl z=>zeD | .inr z=>some z
def zb6 (p0:LI) (p1:Int→Option Bool):Option (Bool):=
 (zgk p0 p1).bind fun a=>some (decide (a≥0))
def zbz (p0:Int) (p1:LG×LT):Option (Bool):=
 (zav p0 0 (p1.1.length:Int)).bind fun a=>some (!a)
def zjQ  : Option (Bool):=
 some true
def zcT (p0:LG×LT) (a:Int×(List (BS×Bool))) (b:BS×LI) (c:Bool):Option ((Int×(List (BS×Bool))) ⊕ (Unit ⊕ Bool)):=
 if c then (some (.inr (.inr false))) else ((zb6 b.2 (fun e=>zbz e p0)).bind fun d=>if d then (some (.inr (.inr false))) else (some (.inl (w64 (a.1+1),zbP a.2 b.1 true))))
def zaP (p0:LG×LT) (a:Int×(List (BS×Bool))):Option ((Int×(List (BS×Bool))) ⊕ (Unit ⊕ Bool)):=
 if decide (a.1<(p0.2.length:Int)) then ((idx p0.2 a.1).bind fun b=>(zgz b.1).bind fun c=>if !c then (zcT p0 a b true) else (if ((zdj a.2 b.1).getD false) then (zcT p0 a b true) else (zcT p0 a b (!decide ((b.2.length:Int)=4))))) else (some (.inr (.inl ())))
def zjR (p0:LG×LT):Option (Bool):=
 (iter (zaP p0) (0,([]:List (BS×Bool)))).bind fun a=>match a with | .inl z=>zjQ | .inr z=>some z
def zcS (a:Int×(List (BS×Bool))) (b:BS×Int) (c:Bool):Option ((Int×(List (BS×Bool))) ⊕ (Unit ⊕ Bool)):=
 if c then (some (.inr (.inr false))) else (some (.inl (w64 (a.1+1),zbP a.2 b.1 true)))
def zaQ (p0:LG×LT) (a:Int×(List (BS×Bool))):Option ((Int×(List (BS×Bool))) ⊕ (Unit ⊕ Bool)):=
 if decide (a.1<(p0.1.length:Int)) then ((idx p0.1 a.1).bind fun b=>(zgz b.1).bind fun c=>if !c then (zcS a b true) else (if ((zdj a.2 b.1).getD false) then (zcS a b true) else ((zav b.2 1 4).bind fun d=>zcS a b (!d)))) else (some (.inr (.inl ())))
def zg2 (p0:LG×LT) (a:Bool):Option (Bool):=
 if a then (some false) else ((iter (zaQ p0) (0,([]:List (BS×Bool)))).bind fun b=>match b with | .inl z=>zjR p0 | .inr z=>some z)
def zhA (p0:LG×LT):Option (Bool):=
 if decide ((p0.1.length:Int)>200) then (zg2 p0 true) else ((zav (p0.2.length:Int) 1 160).bind fun a=>zg2 p0 (!a))
def zdt (p0:Int×Int):Option (Bool):=
 (zav p0.1 (-60) 60).bind fun a=>if a then ((zav p0.2 (-60) 60).bind fun b=>some b) else (some false)
def zaE (p0:Int) (p1:Int):Option (Bool):=
 (zav p0 0 (w64 (p1 - 1))).bind fun a=>some a
def zkb  : Option (Int):=
 some 0
def zaj (p0:LI) (a:Int):Option (Int ⊕ (Unit ⊕ Int)):=
 if decide (a<(p0.length:Int)) then ((idx p0 a).bind fun b=>if !decide (b=0) then (some (.inr (.inr b))) else (some (.inl (w64 (a+1))))) else (some (.inr (.inl ())))
def zl8 (p0:LI):Option (Int):=
 (iter (zaj p0) 0).bind fun a=>match a with | .inl z=>zkb | .inr z=>some z
def zhC (p0:Int):Option (Bool):=
 some (!decide (p0=p0))
def zdu (p0:Int) (p1:Int):Option (Int):=
 (zhC p0).bind fun b=>(zhC p1).bind fun a=>if b then (if a then (some 0) else (some (-1))) else (if a then (some 1) else (if decide (p0<p1) then (some (-1)) else (if decide (p0>p1) then (some 1) else (some 0))))
def zai (p0:Int×Int) (p1:Int×Int):Option (Int):=
 (zdu p0.2 p1.2).bind fun a=>(zdu p0.1 p1.1).bind fun b=>(zl8 [a,b]).bind fun c=>some c
def zji (p0:Int×Int) (p1:Int×Int):Option (Bool):=
 (zai p0 p1).bind fun a=>some (decide (a<0))
def zkK (p0:LP):Option (Bool):=
 some (decide ((p0.length:Int)≤500))
def zck (a:Int) (b:Bool):Option (Int ⊕ (Unit ⊕ Bool)):=
 if b then (some (.inr (.inr false))) else (some (.inl (w64 (a+1))))
def zbg (p0:LP) (a:Int):Option (Int ⊕ (Unit ⊕ Bool)):=
 if decide (a<(p0.length:Int)) then ((idx p0 a).bind fun b=>(zdt b.1).bind fun c=>if !c then (zck a true) else ((zaE b.2 160).bind fun d=>if !d then (zck a true) else (if decide (a>0) then ((idx p0 (w64 (a - 1))).bind fun e=>(zji e.1 b.1).bind fun f=>zck a (!f)) else (zck a false)))) else (some (.inr (.inl ())))
def zle (p0:LP):Option (Bool):=
 (iter (zbg p0) 0).bind fun a=>match a with | .inl z=>zkK p0 | .inr z=>some z
def zb5  : Option (Int):=
 some (-1)
def zb4 (p0:LP) (p1:((Int×Int)×Int)→Option Bool) (a:Int):Option (Int ⊕ (Unit ⊕ Int)):=
 if decide (a<(p0.length:Int)) then ((idx p0 a).bind fun b=>(p1 b).bind fun c=>if c then (some (.inr (.inr a))) else (some (.inl (w64 (a+1))))) else (some (.inr (.inl ())))
def zaN (p0:LP) (p1:((Int×Int)×Int)→Option Bool):Option (Int):=
 (iter (zb4 p0 p1) 0).bind fun a=>match a with | .inl z=>zb5 | .inr z=>some z
def zeI (p0:LP) (p1:((Int×Int)×Int)→Option Bool):Option (Bool):=
 (zaN p0 p1).bind fun a=>some (decide (a≥0))
def zbc (p0:LG×LT) (p1:Int):Option (Bool):=
 (zaE p1 (p0.2.length:Int)).bind fun a=>some a
def zay (p0:(Int×Int)×Int) (p1:LG×LT):Option (Bool):=
 (zbc p1 p0.2).bind fun a=>some (!a)
def z6 (p0:LG×LT) (p1:LP):Option (Bool):=
 (zhA p0).bind fun a=>if a then ((zle p1).bind fun b=>if b then ((zeI p1 (fun d=>zay d p0)).bind fun c=>some (!c)) else (some false)) else (some false)
def zfd (p0:Int):Option (Bool):=
 (zav p0 1 16).bind fun a=>some a
def zjN (a:LM):Option (LM):=
 some a
def zeS (a:LM×Int×(List (Int×Int))) (b:LM) (c:Int) (d:List (Int×Int)):Option ((LM×Int×(List (Int×Int))) ⊕ (LM)):=
 (idx b c).bind fun e=>(app 8 e [a.2.1]).bind fun f=>(some (b.set c.toNat f)).bind fun g=>some (.inl (g,w64 (a.2.1+1),d))
def zeO (p0:Int) (b:LI) (a:LM×Int×(List (Int×Int))):Option ((LM×Int×(List (Int×Int))) ⊕ (LM)):=
 if decide (a.2.1<(p0.toNat:Int)) then ((idx b a.2.1).bind fun e=>(iter (gstep b) a.2.1).bind fun c=>if !(zhi a.2.2 c) then ((app 24 a.1 [([]:LI)]).bind fun d=>zeS a d (a.1.length:Int) (zbP a.2.2 a.2.1 (a.1.length:Int))) else (zeS a a.1 ((zdj a.2.2 c).getD 0) a.2.2)) else (some (.inr a.1))
def zjO (p0:Int) (a:LI):Option (LM):=
 (iter (zeO p0 a) ([],0,([]:List (Int×Int)))).bind fun b=>zjN b
def zeR (a:Int×LI) (b:LI):Option ((Int×LI) ⊕ (LI)):=
 some (.inl (w64 (a.1+1),b))
def zeP (p1:LB) (a:Int×LI):Option ((Int×LI) ⊕ (LI)):=
 if decide (a.1<(p1.length:Int)) then ((idx p1 a.1).bind fun b=>(idx a.2 b.1).bind fun e=>(iter (gstep a.2) b.1).bind fun c=>(idx a.2 b.2.1).bind fun f=>(iter (gstep a.2) b.2.1).bind fun d=>if decide (c<d) then (zeR a (a.2.set d.toNat c)) else (if decide (d<c) then (zeR a (a.2.set c.toNat d)) else (zeR a a.2))) else (some (.inr a.2))
def zjP (p0:Int) (p1:LB) (a:LI):Option (LM):=
 (iter (zeP p1) (0,a)).bind fun b=>zjO p0 b
def zeQ (p0:Int) (a:Int×LI):Option ((Int×LI) ⊕ (LI)):=
 if decide (a.1<(p0.toNat:Int)) then ((ztv p0.toNat a.2 a.1).bind fun b=>some (.inl (w64 (a.1+1),b))) else (some (.inr a.2))
def zj9 (p0:Int) (p1:LB):Option (LM):=
 (fmk 8 p0).bind fun b=>(iter (zeQ p0) (0,b)).bind fun a=>zjP p0 p1 a
def zif  : Option (Int):=
 some (-1)
def zb3 (p0:LB) (p1:(Int×Int×Int)→Option Bool) (a:Int):Option (Int ⊕ (Unit ⊕ Int)):=
 if decide (a<(p0.length:Int)) then ((idx p0 a).bind fun b=>(p1 b).bind fun c=>if c then (some (.inr (.inr a))) else (some (.inl (w64 (a+1))))) else (some (.inr (.inl ())))
def zdP (p0:LB) (p1:(Int×Int×Int)→Option Bool):Option (Int):=
 (iter (zb3 p0 p1) 0).bind fun a=>match a with | .inl z=>zif | .inr z=>some z
def zea (b:LB) (a:Int):Option (LB):=
 (clr b a (0,(0,0))).bind fun c=>(zkY c 0 a).bind fun d=>some d
def zbF (a:LB×Int×Int) (b:LB) (c:Int):Option ((LB×Int×Int) ⊕ (LB×Int)):=
 some (.inl (b,c,w64 (a.2.2+1)))
def zbE (p1:(Int×Int×Int)→Option Bool) (a:LB×Int×Int):Option ((LB×Int×Int) ⊕ (LB×Int)):=
 if decide (a.2.2<(a.1.length:Int)) then ((idx a.1 a.2.2).bind fun b=>(p1 b).bind fun c=>if !c then ((idx a.1 a.2.1).bind fun e=>(some (a.1.set a.2.1.toNat b)).bind fun d=>zbF a d (w64 (a.2.1+1))) else (zbF a a.1 a.2.1)) else (some (.inr (a.1,a.2.1)))
def zbk (p0:LB) (p1:(Int×Int×Int)→Option Bool):Option (LB):=
 (zdP p0 p1).bind fun a=>if decide (a=(-1)) then (some p0) else ((iter (zbE p1) (p0,a,w64 (a+1))).bind fun b=>zea b.1 b.2)
def zcu (c:LB) (a:Bool):Option (LB):=
 if a then (some ([]:LB)) else ((app 24 ([]:LB) c).bind fun b=>some b)
def zcR (p0:LB):Option (LB):=
 zcu p0 false
def zic (p0:Int×Int×Int) (p1:Int):Option (Bool):=
 some (decide (p0.2.2<p1))
def zia (a:LM) (b:LB):Option (Int×LB):=
 some ((a.length:Int),b)
def zfe (a:LB×Int) (b:LB):Option ((LB×Int) ⊕ (LB)):=
 some (.inl (b,w64 (a.2+1)))
def zc7 (p1:LB) (c:LI) (a:LB×Int):Option ((LB×Int) ⊕ (LB)):=
 if decide (a.2<(p1.length:Int)) then ((idx p1 a.2).bind fun b=>(idx c b.1).bind fun e=>(idx c b.2.1).bind fun f=>if !decide (e=f) then ((idx c b.1).bind fun g=>(idx c b.2.1).bind fun h=>(app 24 a.1 [(g,(h,b.2.2))]).bind fun d=>zfe a d) else (zfe a a.1)) else (some (.inr a.1))
def zib (p1:LB) (a:LM) (b:LI):Option (Int×LB):=
 (iter (zc7 p1 b) ([],0)).bind fun c=>zia a c
def zh9 (a:LI×Int) (b:LI):Option ((LI×Int) ⊕ (LI)):=
 some (.inl (b,w64 (a.2+1)))
def zby (d:LI×Int) (b:LI) (a:LI×Int):Option ((LI×Int) ⊕ (LI)):=
 if decide (a.2<(b.length:Int)) then ((idx b a.2).bind fun c=>(idx a.1 c).bind fun f=>(some (a.1.set c.toNat d.2)).bind fun e=>some (.inl (e,w64 (a.2+1)))) else (some (.inr a.1))
def zaI (b:LM) (a:LI×Int):Option ((LI×Int) ⊕ (LI)):=
 if decide (a.2<(b.length:Int)) then ((idx b a.2).bind fun c=>(iter (zby a c) (a.1,0)).bind fun d=>zh9 a d) else (some (.inr a.1))
def zhR (p0:Int) (p1:LB) (f:Int):Option (Int×LB):=
 (zcR p1).bind fun c=>(zbk c (fun g=>zic g f)).bind fun d=>(zj9 p0 d).bind fun a=>(mkl 8 p0 0).bind fun e=>(iter (zaI a) (e,0)).bind fun b=>zib p1 a b
def zas (p0:LP) (p1:Int×Int) (c:((Int×Int)×Int)→(Int×Int)→Option Int) (a:Int):Option (Int×Bool):=
 if decide (a<(p0.length:Int)) then ((idx p0 a).bind fun x23=>(c x23 p1).bind fun b=>some (a,decide (b=0))) else (some (a,false))
def zK (p0:LP) (p1:Int×Int) (d:((Int×Int)×Int)→(Int×Int)→Option Int) (a:Int×Int):Option ((Int×Int) ⊕ Int):=
 if decide (a.1<a.2) then ((idx p0 (w64 (Int.fdiv (IntKind.wrap .u64 (w64 (a.1+a.2))) (2 ^ 1)))).bind fun b=>(d b p1).bind fun c=>if decide (c<0) then (some (.inl (w64 ((w64 (Int.fdiv (IntKind.wrap .u64 (w64 (a.1+a.2))) (2 ^ 1)))+1),a.2))) else (some (.inl (a.1,w64 (Int.fdiv (IntKind.wrap .u64 (w64 (a.1+a.2))) (2 ^ 1)))))) else (some (.inr a.1))
def z7 (p0:LP) (p1:Int×Int) (a:((Int×Int)×Int)→(Int×Int)→Option Int):Option (Int×Bool):=
 (iter (zK p0 p1 a) (0,(p0.length:Int))).bind fun b=>zas p0 p1 a b
def z1 (p0:(Int×Int)×Int) (p1:Int×Int):Option (Int):=
 (zai p0.1 p1).bind fun a=>some a
def zdg (p0:LP) (p1:Int×Int):Option (Int):=
 (z7 p0 p1 (fun b c=>z1 b c)).bind fun a=>if a.2 then (some a.1) else (some (-1))
def zbh (p0:Int×Int) (p1:Int×Int):Option ((Int×Int)):=
 some (w64 (p0.1+p1.1),w64 (p0.2+p1.2))
def zQ (p0:Int×Int) (p1:Int):Option ((Int×Int)):=
 (idx [((0,1):Int×Int),((1,0):Int×Int),((0,(-1)):Int×Int),(((-1),0):Int×Int)] p1).bind fun a=>(zbh p0 a).bind fun b=>some b
def zbX {σ:Type} (a:σ):Option (σ):=
 some a
def zbW {σ:Type} (a:Int×σ) (b:σ):Option ((Int×σ) ⊕ σ):=
 some (.inl (w64 (a.1+1),b))
def zag {σ:Type} (a:Int×σ) (b:σ):Option ((Int×σ) ⊕ σ):=
 some (.inl (w64 (a.1+1),b))
def zN {σ:Type} (y0:σ→(Int×Int)→Int→Option σ) (p1:LP) (d:Int×σ) (e:(Int×Int)×Int) (a:Int×σ):Option ((Int×σ) ⊕ σ):=
 if decide (a.1<(([1,0]:List Int).length:Int)) then ((idx [1,0] a.1).bind fun b=>(zQ e.1 b).bind fun f=>(zdg p1 f).bind fun c=>if decide (c≥0) then ((y0 a.2 (d.1,c) b).bind fun g=>zag a g) else (zag a a.2)) else (some (.inr a.2))
def zO {σ:Type} (y0:σ→(Int×Int)→Int→Option σ) (p1:LP) (a:Int×σ):Option ((Int×σ) ⊕ σ):=
 if decide (a.1<(p1.length:Int)) then ((idx p1 a.1).bind fun b=>(iter (zN y0 p1 a b) (0,a.2)).bind fun c=>zbW a c) else (some (.inr a.2))
def zc8 {σ:Type} (y0:σ→(Int×Int)→Int→Option σ) (s0:σ) (p1:LP):Option (σ):=
 (iter (zO y0 p1) (0,s0)).bind fun a=>zbX a
def zeU (p0:LP):Option ((LP)):=
 some p0
def zhz (p0:Int):Option (Int):=
 some (Int.tmod (w64 (p0+2)) 4)
def zaz (p0:LG×LT) (p1:Int) (d:Int):Option (Int):=
 (idx p0.2 p1).bind fun b=>(idx b.2 d).bind fun a=>if decide (a>0) then ((idx p0.1 (w64 (a - 1))).bind fun c=>some c.2) else (some 0)
def zaw (p0:LG×LT) (p1:Int) (a:Int) (h:Int):Option (Int):=
 (idx p0.2 p1).bind fun b=>(idx b.2 a).bind fun c=>(idx p0.2 h).bind fun d=>(zhz a).bind fun e=>(idx d.2 e).bind fun f=>if decide (c=f) then ((zaz p0 p1 a).bind fun g=>some g) else (some 0)
def zT (p0:LG×LT) (p1:LP) (a:LB) (q:(Int×Int)×Int):Option (LB):=
 (idx p1 q.1.1).bind fun c=>(idx p1 q.1.2).bind fun d=>(zaw p0 c.2 q.2 d.2).bind fun b=>if decide (b>0) then ((app 24 a [(q.1.1,(q.1.2,b))]).bind fun e=>some e) else (some a)
def zaJ (p0:LG×LT) (p1:LP):Option (LB):=
 (zeU p1).bind fun a=>(zc8 (fun s c d=>zT p0 p1 s (c,d)) [] a).bind fun b=>some b
def zi7 (a:LM) (b:LM):Option ((LM×LM)):=
 some (b,a)
def zd0 (p1:LB) (b:Int×LM):Option ((Int×LM) ⊕ (LM)):=
 if decide (b.1<(p1.length:Int)) then ((idx p1 b.1).bind fun a=>(idx b.2 a.1).bind fun c=>(idx c a.2.1).bind fun f=>(idx c a.2.1).bind fun i=>(some (b.2.set a.1.toNat (c.set a.2.1.toNat (w64 (f+a.2.2))))).bind fun e=>(idx e a.2.1).bind fun d=>(idx d a.1).bind fun g=>(idx d a.1).bind fun j=>(some (e.set a.2.1.toNat (d.set a.1.toNat (w64 (g+a.2.2))))).bind fun h=>some (.inl (w64 (b.1+1),h))) else (some (.inr b.2))
def zi8 (p1:LB) (a:LM) (b:LM):Option ((LM×LM)):=
 (iter (zd0 p1) (0,a)).bind fun c=>zi7 b c
def zd1 (p0:Int) (a:Int×LM×LM):Option ((Int×LM×LM) ⊕ (LM×LM)):=
 if decide (a.1<p0) then ((mkl 8 p0 0).bind fun b=>(app 24 a.2.1 [b]).bind fun c=>(mkl 8 p0 0).bind fun d=>(app 24 a.2.2 [d]).bind fun e=>some (.inl (w64 (a.1+1),c,e))) else (some (.inr (a.2.1,a.2.2)))
def zi9 (p0:Int) (p1:LB):Option ((LM×LM)):=
 (iter (zd1 p0) (0,[],[])).bind fun a=>zi8 p1 a.1 a.2
def zhy (p0 p1:Int):Option (Int×Int):=if 0≤p0∧p0<18446744073709551616∧0≤p1∧p1<18446744073709551616 then some (p0*p1 / 18446744073709551616,p0*p1 % 18446744073709551616) else none
def zkl (a:LI):Option (LI):=
 some a
def zdM  (a:LI×Int):Option ((LI×Int) ⊕ (LI)):=
 if decide (a.2<(a.1.length:Int)) then ((zkY a.1 a.2 (a.1.length:Int)).bind fun d=>(zkY a.1 0 a.2).bind fun b=>(some (cpy a.1 a.2.toNat b)).bind fun c=>some (.inl (c,w64 (a.2+((min b.length (a.1.length - a.2.toNat):Nat):Int))))) else (some (.inr a.1))
def zdN (p0:LI) (e:Int×Int) (b:Bool):Option (LI):=
 if b then none else ((mkl 8 (w64 e.2) 0).bind fun a=>(some (cpy a 0 p0)).bind fun c=>(iter (zdM) (c,((min p0.length a.length:Nat):Int))).bind fun d=>zkl d)
def zfZ (p0:LI) (p1:Int):Option (LI):=
 if decide (p1<0) then none else ((zhy (IntKind.wrap .u64 (p0.length:Int)) (IntKind.wrap .u64 p1)).bind fun a=>if decide (a.1>0) then (zdN p0 a true) else (zdN p0 a (decide (a.2>9223372036854775807))))
def zf3 (p0:LM×LM) (p1:Int) (a:Int):Option (Bool):=
 (idx p0.1 p1).bind fun e=>(idx e a).bind fun b=>(idx p0.2 p1).bind fun c=>(idx c a).bind fun d=>some (decide (b>d))
def zh4 (p0:LI):Option LI:=some p0.reverse
def zhn (b:LI):Option (LI):=
 (zh4 b).bind fun a=>(ne a).bind fun c=>some a
def zba (p1:Int) (c:LI) (a:LI×Int):Option ((LI×Int) ⊕ (LI)):=
 if !decide (a.2=p1) then ((idx c a.2).bind fun b=>(app 8 a.1 [b]).bind fun d=>some (.inl (d,b))) else (some (.inr a.1))
def zho (p1:Int) (b:Int) (a:LI):Option (LI):=
 (idx a b).bind fun c=>if decide (c<0) then (some ([]:LI)) else ((iter (zba p1 a) ([b],b)).bind fun d=>zhn d)
def zhm (a:LI) (b:LI):Option ((LI×LI) ⊕ (LI)):=
 some (.inl (a,b))
def zcz (a:LI×Int×LI) (b:LI) (c:LI):Option ((LI×Int×LI) ⊕ (LI×LI)):=
 some (.inl (b,w64 (a.2.1+1),c))
def zbb (p0:LM×LM) (e:Int×LI) (a:LI×Int×LI) (b:Bool):Option ((LI×Int×LI) ⊕ (LI×LI)):=
 if b then ((idx a.1 a.2.1).bind fun f=>(some (a.1.set a.2.1.toNat e.1)).bind fun c=>(zsa ((p0.1.length:Int).toNat) a.2.2 a.2.1).bind fun d=>zcz a c d) else (zcz a a.1 a.2.2)
def zcx (p0:LM×LM) (b:Int×LI) (a:LI×Int×LI):Option ((LI×Int×LI) ⊕ (LI×LI)):=
 if decide (a.2.1<(p0.1.length:Int)) then ((idx a.1 a.2.1).bind fun c=>if decide (c<0) then ((zf3 p0 b.1 a.2.1).bind fun d=>zbb p0 b a d) else (zbb p0 b a false)) else (some (.inr (a.1,a.2.2)))
def zcy (p0:LM×LM) (a:LI×LI):Option ((LI×LI) ⊕ (LI)):=
 (zyw a.2).bind fun d=>if decide (d>0) then ((zxz a.2).bind fun c=>(iter (zcx p0 c) (a.1,0,c.2)).bind fun b=>zhm b.1 b.2) else (some (.inr a.1))
def zg0 (p0:LM×LM) (p1:Int) (f:Int):Option (LI):=
 (zfZ [(-1)] (p0.1.length:Int)).bind fun a=>(mkc 8 (p0.1.length:Int)).bind fun b=>(zsa ((p0.1.length:Int).toNat) b p1).bind fun c=>(idx a p1).bind fun g=>(some (a.set p1.toNat p1)).bind fun d=>(iter (zcy p0) (d,c)).bind fun e=>zho p1 f e
def zgs (a:Int×LM) (b:LM):Option ((Int×LM) ⊕ (Int×(LM×LM))):=
 some (.inl (w64 (a.1+1),b))
def zbR (b:LI) (a:Int×LM):Option ((Int×LM) ⊕ (LM)):=
 if decide (a.1<(b.length:Int)) then ((idx b (w64 (a.1 - 1))).bind fun g=>(idx a.2 g).bind fun c=>(idx b a.1).bind fun d=>(idx c d).bind fun j=>(idx c d).bind fun m=>(some (a.2.set g.toNat (c.set d.toNat (w64 (j+1))))).bind fun h=>(idx b a.1).bind fun i=>(idx h i).bind fun e=>(idx b (w64 (a.1 - 1))).bind fun f=>(idx e f).bind fun k=>(idx e f).bind fun n=>(some (h.set i.toNat (e.set f.toNat (w64 (k - 1))))).bind fun l=>some (.inl (w64 (a.1+1),l))) else (some (.inr a.2))
def zbS (p0:LM×LM) (a:Int×LM) (b:LI) (c:Bool):Option ((Int×LM) ⊕ (Int×(LM×LM))):=
 if c then (some (.inr (a.1,(p0.1,a.2)))) else ((iter (zbR b) (1,a.2)).bind fun d=>zgs a d)
def zdZ (p0:LM×LM) (p1:Int) (c:Int) (d:Int) (a:Int×LM):Option ((Int×LM) ⊕ (Int×(LM×LM))):=
 (zg0 (p0.1,a.2) p1 c).bind fun b=>if decide (b=[]) then (zbS p0 a b true) else (zbS p0 a b (decide (a.1≥d)))
def zf2 (p0:LM×LM) (p1:Int) (a:Int) (b:Int):Option (Int×(LM×LM)):=
 (iter (zdZ p0 p1 a b) (0,p0.2)).bind fun x23=>some x23
def zpL  : Option (Bool):=
 some true
def zj8 (p0:Int) (p1:LB) (b:Int) (a:Int):Option (Int ⊕ (Unit ⊕ Bool)):=
 if decide (a<p0) then ((zi9 p0 p1).bind fun c=>(zf2 c 0 a b).bind fun x23=>if decide (x23.1<b) then (some (.inr (.inr false))) else (some (.inl (w64 (a+1))))) else (some (.inr (.inl ())))
def zn0 (p0:Int) (p1:LB) (a:Int):Option (Bool):=
 (iter (zj8 p0 p1 a) 1).bind fun b=>match b with | .inl z=>zpL | .inr z=>some z
def zem (p0:LG×LT) (p1:LP) (a:Int):Option (Bool×Bool):=
 (zaJ p0 p1).bind fun b=>(zhR (p1.length:Int) b a).bind fun x23=>if decide (x23.1>64) then (some (false,false)) else ((zn0 x23.1 x23.2 a).bind fun c=>some (c,true))
def zne (p0:LG×LT) (p1:LP) (a:Int):Option (Bool×Int):=
 (z6 p0 p1).bind fun b=>if !b then (some (false,1)) else ((zfd a).bind fun c=>if !c then (some (false,2)) else ((zem p0 p1 a).bind fun x23=>if !x23.2 then (some (false,4)) else (some (x23.1,0))))
def zat (p0:TS×(LP)×Int):Option (Bool):=
 if decide ((p0.2.1.length:Int)=0) then (some false) else ((zne p0.1 p0.2.1 p0.2.2).bind fun a=>if a.1 then (some (decide (a.2=0))) else (some false))
def zaH (a:Bool):Option (Int):=
 if a then (some 1) else (some 0)
def zhQ (p0:TS×(LP)×Int) (p1:LP):Option (Int):=
 (zat p0).bind fun x23=>if !x23 then (zaH true) else ((z6 p0.1 p1).bind fun a=>zaH (!a))
def zhh  : Option (Bool):=
 some true
def zhg (p0:LP) (p1:LP) (a:Int):Option (Int ⊕ (Unit ⊕ Bool)):=
 if decide (a<(p0.length:Int)) then ((idx p0 a).bind fun b=>(idx p1 a).bind fun c=>if !((decide (b.1.1=c.1.1)&&decide (b.1.2=c.1.2))&&decide (b.2=c.2)) then (some (.inr (.inr false))) else (some (.inl (w64 (a+1))))) else (some (.inr (.inl ())))
def zeF (p0:LP) (p1:LP):Option (Bool):=
 if !decide ((p0.length:Int)=(p1.length:Int)) then (some false) else ((iter (zhg p0 p1) 0).bind fun a=>match a with | .inl z=>zhh | .inr z=>some z)
def zhf  : Option (Bool):=
 some true
def zhe (p0:LI) (p1:LI) (a:Int):Option (Int ⊕ (Unit ⊕ Bool)):=
 if decide (a<(p0.length:Int)) then ((idx p0 a).bind fun b=>(idx p1 a).bind fun c=>if !decide (b=c) then (some (.inr (.inr false))) else (some (.inl (w64 (a+1))))) else (some (.inr (.inl ())))
def zeE (p0:LI) (p1:LI):Option (Bool):=
 if !decide ((p0.length:Int)=(p1.length:Int)) then (some false) else ((iter (zhe p0 p1) 0).bind fun a=>match a with | .inl z=>zhf | .inr z=>some z)
def zeH  : Option (Bool):=
 some true
def zeG (p0:LM) (p1:LM) (e:LI→LI→Option Bool) (a:Int):Option (Int ⊕ (Unit ⊕ Bool)):=
 if decide (a<(p0.length:Int)) then ((idx p0 a).bind fun b=>(idx p1 a).bind fun c=>(e b c).bind fun d=>if !d then (some (.inr (.inr false))) else (some (.inl (w64 (a+1))))) else (some (.inr (.inl ())))
def zdQ (p0:LM) (p1:LM) (b:LI→LI→Option Bool):Option (Bool):=
 if !decide ((p0.length:Int)=(p1.length:Int)) then (some false) else ((iter (zeG p0 p1 b) 0).bind fun a=>match a with | .inl z=>zeH | .inr z=>some z)
def zjc (p0:Int×LP×LP×LI×LM) (p1:Int×LP×LP×LI×LM):Option (Bool):=
 if decide (p0.1=p1.1) then ((zeF p0.2.1 p1.2.1).bind fun a=>if a then ((zeF p0.2.2.1 p1.2.2.1).bind fun b=>if b then ((zeE p0.2.2.2.1 p1.2.2.2.1).bind fun c=>if c then ((zdQ p0.2.2.2.2 p1.2.2.2.2 (fun e f=>zeE e f)).bind fun d=>some d) else (some false)) else (some false)) else (some false)) else (some false)
abbrev Prf:=Int×LP×LP×LI×LM
def znt (p:Prf):Prf:=if p.1=1∨p.1=2∨p.1=3 then (0,[],p.2.2.1,p.2.2.2.1,p.2.2.2.2) else if p.1=4 then (0,[],[],p.2.2.2.1,p.2.2.2.2) else if p.1=5 then (0,p.2.1,p.2.2.1,p.2.2.2.1,[]) else (0,p.2.1,p.2.2.1,[],p.2.2.2.2)
def zff (p:Prf):Option Bool:=zjc (znt p) (0,[],[],[],[])
abbrev Sy:=TS×LP×Int
abbrev CrySt:=Sy×LP×List ((Int×Int)×LI)
def zhq (b bm bo:Nat):List Nat:=[b,bm,bo]
def cat (m:LP) (p:Int×Int):Int:=if zhi m p=true then (zdj m p).getD 0 else -1
def zfx (q:CrySt) (p:Int×Int):Option Int:=some (cat q.2.1 p)
def zAE:Option (Nat×((Int×Int)×Int))→Value
 | none=>.nilIface
 | some (T,o)=>.iface T (.agg #[.int .i64 o.1.1,.int .i64 o.1.2,.int .i64 o.2])
def zz2 (e:Option (Nat×((Int×Int)×Int))):Prop:=∀ T o,e=some (T,o)→(T=387∨T=388∨T=390)∧(-9223372036854775808≤o.1.1∧o.1.1≤9223372036854775807)∧(-9223372036854775808≤o.1.2∧o.1.2≤9223372036854775807)∧(-9223372036854775808≤o.2∧o.2≤9223372036854775807)
theorem zwX:zz2 none:=fun _ _ h=>by cases h
theorem ztw {T:Nat} {a b c:Int} (h:T=387∨T=388∨T=390) (ha:I64 a) (hb:I64 b) (hc:I64 c):zz2 (some (T,(a,b),c)):=fun T' o e=>by
 injection e with e;injection e with e1 e2;subst e1;subst e2;exact ⟨h,ha,hb,hc⟩
def zil (a:Int):Option (Int):=
 some a
def zca (a:Int×Int) (b:Int):Option ((Int×Int) ⊕ Int):=
 some (.inl (b,w64 (a.2+1)))
def zb9 (p0:LG×LT) (p1:Int×Int) (e:Int) (f:(Int×Int)→Option Int) (a:Int×Int):Option ((Int×Int) ⊕ Int):=
 if decide (a.2<4) then ((zQ p1 a.2).bind fun c=>(f c).bind fun b=>if decide (b≥0) then ((zaw p0 e a.2 b).bind fun d=>zca a (w64 (a.1+d))) else (zca a a.1)) else (some (.inr a.1))
def zbT (p0:LG×LT) (p1:Int×Int) (b:Int) (c:(Int×Int)→Option Int):Option (Int):=
 (iter (zb9 p0 p1 b c) (0,0)).bind fun a=>zil a
def zb8 (q:CrySt) (p:Int×Int) (k:Int):Option Bool:=
 (zdt p).bind fun x=>if x=true then (if decide (cat q.2.1 p<0)=true then (zbT q.1.1 p k (zfx q)).bind fun s=>some (decide (s≥q.1.2.2)) else some false) else some false
def zgu (a:CrySt):Option (CrySt):=
 some a
def za4 (a:Int×CrySt) (b:CrySt):Option ((Int×CrySt) ⊕ CrySt):=
 some (.inl (w64 (a.1+1),b))
def zc6 (a:Int×CrySt) (b:(Int×Int)) (c:LI):Option ((Int×CrySt) ⊕ CrySt):=
 if decide ((c.length:Int)>0) then (za4 a (a.2.1,a.2.2.1,zbP a.2.2.2 b c)) else (za4 a (a.2.1,a.2.2.1,zlQ a.2.2.2 b))
def za3 (a:LI×Int) (b:LI):Option ((LI×Int) ⊕ (LI)):=
 some (.inl (b,w64 (a.2+1)))
def zad (b:Int×CrySt) (c:(Int×Int)) (a:LI×Int):Option ((LI×Int) ⊕ (LI)):=
 if decide (a.2<(b.2.1.1.2.length:Int)) then ((zb8 b.2 c a.2).bind fun d=>if d then ((app 8 a.1 [a.2]).bind fun e=>za3 a e) else (za3 a a.1)) else (some (.inr a.1))
def zap (p1:Int×Int) (a:Int×CrySt):Option ((Int×CrySt) ⊕ CrySt):=
 if decide (a.1<4) then ((zQ p1 a.1).bind fun b=>(iter (zad a b) ([],0)).bind fun c=>zc6 a b c) else (some (.inr a.2))
def zaO (p0:CrySt) (p1:Int×Int):Option (CrySt):=
 (iter (zap p1) (0,p0)).bind fun a=>zgu a
def zl1 (a:CrySt):Option (CrySt):=
 some a
def zbw (p1:LP) (a:Int×CrySt):Option ((Int×CrySt) ⊕ CrySt):=
 if decide (a.1<(p1.length:Int)) then ((idx p1 a.1).bind fun b=>(zaO a.2 b.1).bind fun c=>some (.inl (w64 (a.1+1),c))) else (some (.inr a.2))
def zh6 (p1:LP) (a:CrySt):Option (CrySt):=
 (iter (zbw p1) (0,a)).bind fun b=>zl1 b
def zbx (p1:LP) (a:Int×CrySt):Option ((Int×CrySt) ⊕ CrySt):=
 if decide (a.1<(p1.length:Int)) then ((idx p1 a.1).bind fun b=>some (.inl (w64 (a.1+1),(a.2.1,zbP a.2.2.1 b.1 b.2,a.2.2.2)))) else (some (.inr a.2))
def zcj (p0:TS×(LP)×Int) (p1:LP):Option (CrySt):=
 (iter (zbx p1) (0,(((p0.1.1,p0.1.2),p0.2.1,p0.2.2),[],[]))).bind fun a=>zh6 p1 a
def zeT (p0:CrySt) (p1:Int×Int) (a:Int):Option (CrySt):=
 (zaO ((p0.1,zbP p0.2.1 p1 a,p0.2.2).1,(p0.1,zbP p0.2.1 p1 a,p0.2.2).2.1,zlQ ((p0.1,zbP p0.2.1 p1 a,p0.2.2).2.2) p1) p1).bind fun b=>some b
def zct (c:LP) (a:Bool):Option (LP):=
 if a then (some ([]:LP)) else ((app 24 ([]:LP) c).bind fun b=>some b)
def zeJ (p0:LP):Option (LP):=
 zct p0 false
def zid (p0:(Int×Int)×Int) (p1:(Int×Int)×Int):Option (Int):=
 (zai p0.1 p1.1).bind fun a=>some a
def zbd (a b:(Int×Int)×Int):Int:=if a.1.2<b.1.2 then -1 else if b.1.2<a.1.2 then 1 else if a.1.1<b.1.1 then -1 else if b.1.1<a.1.1 then 1 else 0
def zaF (p0:LP):Option LP:=
 if p0.length≤1048576 then some (Go.Sort.pdq (fun x y=>decide (zbd x y<0)) p0.toArray 0 p0.length (Go.Lib.bitLen p0.length) true true).toList else none
def zdd (q:CrySt):Option LP:=zaF q.2.1
def zgy (a:CrySt):Option ((LP)×Int×Int):=
 (zdd a).bind fun b=>some (b,0,0)
def zaq (a:Int×CrySt) (b:(Int×Int)×Int) (c:Bool):Option ((Int×CrySt) ⊕ (CrySt ⊕ ((LP)×Int×Int))):=
 if c then (some (.inr (.inr ([],a.1,5)))) else ((zx4 a.2.2.1).bind fun d=>if decide (d≥500) then (some (.inr (.inr ([],0,4)))) else ((zeT a.2 b.1 b.2).bind fun e=>some (.inl (w64 (a.1+1),e))))
def zZ (p0:TS×(LP)×Int) (p1:LP) (a:Int×CrySt):Option ((Int×CrySt) ⊕ (CrySt ⊕ ((LP)×Int×Int))):=
 if decide (a.1<(p1.length:Int)) then ((idx p1 a.1).bind fun b=>(zbc p0.1 b.2).bind fun c=>if !c then (zaq a b true) else ((zb8 a.2 b.1 b.2).bind fun d=>zaq a b (!d))) else (some (.inr (.inl a.2)))
def zce (p0:TS×(LP)×Int) (p1:LP):Option ((LP)×Int×Int):=
 (zat p0).bind fun a=>if !a then (some ([],0,1)) else (if decide ((p1.length:Int)>500) then (some ([],0,2)) else ((zcj p0 p0.2.1).bind fun b=>(iter (zZ p0 p1) (0,b)).bind fun c=>match c with | .inl z=>zgy z | .inr z=>some z))
def zkP  : Option (Bool):=
 some true
def zkO (p0:LP) (p1:LP) (a:Int):Option (Int ⊕ (Unit ⊕ Bool)):=
 if decide (a<(p0.length:Int)) then ((idx p0 a).bind fun b=>(idx p1 a).bind fun c=>if !((decide (b.1.1=c.1.1)&&decide (b.1.2=c.1.2))&&decide (b.2=c.2)) then (some (.inr (.inr false))) else (some (.inl (w64 (a+1))))) else (some (.inr (.inl ())))
def zjH (p0:LP) (p1:LP):Option (Bool):=
 if !decide ((p0.length:Int)=(p1.length:Int)) then (some false) else ((iter (zkO p0 p1) 0).bind fun a=>match a with | .inl z=>zkP | .inr z=>some z)
def zf4 (p0:LP) (p1:LP):Option (Bool):=
 (zjH p0 p1).bind fun a=>some a
def zak (p0:LP) (p1:TS×(LP)×Int) (c:LP):Option (Bool):=
 (zce p1 p0).bind fun a=>if decide (a.2.2=0) then ((zf4 c a.1).bind fun b=>some b) else (some false)
def zh7 (q:CrySt):Option Int:=some (w64 ((q.2.2.map fun p=>(p.2.length:Int)).sum))
def zbG (p0:(LP)) (p1:TS×(LP)×Int) (a:LP):Option (Bool):=
 (zak p0 p1 a).bind fun b=>if b then ((zcj p1 a).bind fun c=>(zh7 c).bind fun d=>some (decide (d=0))) else (some false)
def znZ (p0:TS×(LP)×Int) (p1:LP) (a:(LP)×Int×Int) (b:LI) (c:LI):Option (((TS×(LP)×Int)×LP×(LP)×LI×LI)×Int):=
 some ((p0,(p1,(a.1,(b,c)))),0)
def znY (a:Int×LI×LI×CrySt) (b:(Int×Int)×Int) (c:Int) (d:Int):Option ((Int×LI×LI×CrySt) ⊕ (LI×LI)):=
 (app 8 a.2.1 [c]).bind fun e=>(app 8 a.2.2.1 [d]).bind fun f=>(zeT a.2.2.2 b.1 b.2).bind fun g=>some (.inl (w64 (a.1+1),e,f,g))
def zi6 (a:Int×Int×Int) (b:Int) (c:Int):Option ((Int×Int×Int) ⊕ (Int×Int)):=
 some (.inl (b,c,w64 (a.2.2+1)))
def zgY (p0:TS×(LP)×Int) (e:Int×LI×LI×CrySt) (d:(Int×Int)×Int) (a:Int×Int×Int):Option ((Int×Int×Int) ⊕ (Int×Int)):=
 if decide (a.2.2<4) then ((zQ d.1 a.2.2).bind fun f=>(zfx e.2.2.2 f).bind fun b=>if decide (b≥0) then ((zaw p0.1 d.2 a.2.2 b).bind fun c=>if decide (c>0) then ((zwD .i64 1 a.2.2).bind fun g=>zi6 a (ior .i64 a.1 g) (w64 (a.2.1+c))) else (zi6 a a.1 a.2.1)) else (zi6 a a.1 a.2.1)) else (some (.inr (a.1,a.2.1)))
def zgZ (p0:TS×(LP)×Int) (p1:LP) (a:Int×LI×LI×CrySt):Option ((Int×LI×LI×CrySt) ⊕ (LI×LI)):=
 if decide (a.1<(p1.length:Int)) then ((idx p1 a.1).bind fun c=>(iter (zgY p0 a c) (0,0,0)).bind fun b=>znY a c b.1 b.2) else (some (.inr (a.2.1,a.2.2.1)))
def zrO (p0:TS×(LP)×Int) (p1:LP):Option (((TS×(LP)×Int)×LP×(LP)×LI×LI)×Int):=
 (zce p0 p1).bind fun a=>if !decide (a.2.2=0) then none else ((zcj p0 p0.2.1).bind fun c=>(iter (zgZ p0 p1) (0,[],[],c)).bind fun b=>znZ p0 p1 a b.1 b.2)
def zoZ (p0:Int) (p1:Int):Option (Bool):=
 (zvJ .i64 p0 p1).bind fun a=>some (decide ((ztZ .i64 a 1)=1))
def zeB  : Option (Int):=
 some (-1)
def zeA (p0:LP) (p1:((Int×Int)×Int)→Option Bool) (a:Int):Option (Int ⊕ (Unit ⊕ Int)):=
 if decide (a<(p0.length:Int)) then ((idx p0 a).bind fun b=>(p1 b).bind fun c=>if c then (some (.inr (.inr a))) else (some (.inl (w64 (a+1))))) else (some (.inr (.inl ())))
def zdO (p0:LP) (p1:((Int×Int)×Int)→Option Bool):Option (Int):=
 (iter (zeA p0 p1) 0).bind fun a=>match a with | .inl z=>zeB | .inr z=>some z
def zcG (p0:(Int×Int)×Int) (p1:Int×Int):Option (Bool):=
 some (decide (p0.1.1=p1.1)&&decide (p0.1.2=p1.2))
def zhk (p0:(TS×(LP)×Int)×LP×(LP)×LI×LI) (p1:Int×Int):Option (Int):=
 (zdO p0.2.1 (fun b=>zcG b p1)).bind fun a=>some a
def ze9 (a:Int):Option (Int):=
 some a
def zcF (a:Int×Int) (b:Int):Option ((Int×Int) ⊕ Int):=
 some (.inl (b,w64 (a.2+1)))
def zcE (a:Int×Int) (b:Bool):Option ((Int×Int) ⊕ Int):=
 if b then ((zwD .i64 1 a.2).bind fun c=>zcF a (ior .i64 a.1 c)) else (zcF a a.1)
def za0 (p0:(TS×(LP)×Int)×LP×(LP)×LI×LI) (p1:Int) (a:Int×Int):Option ((Int×Int) ⊕ Int):=
 if decide (a.2<4) then ((idx p0.2.1 p1).bind fun c=>(zQ c.1 a.2).bind fun d=>(zhk p0 d).bind fun b=>if decide (b>p1) then ((idx p0.2.2.2.1 b).bind fun e=>(zhz a.2).bind fun f=>(zoZ e f).bind fun g=>zcE a g) else (zcE a false)) else (some (.inr a.1))
def zei (p0:(TS×(LP)×Int)×LP×(LP)×LI×LI) (p1:Int):Option (Int):=
 (iter (za0 p0 p1) (0,0)).bind fun a=>ze9 a
def zd9 (b:LP) (a:Int):Option (LP):=
 (clr b a ((0,0),0)).bind fun c=>(zkY c 0 a).bind fun d=>some d
def zbD (a:LP×Int×Int) (b:LP) (c:Int):Option ((LP×Int×Int) ⊕ (LP×Int)):=
 some (.inl (b,c,w64 (a.2.2+1)))
def zbC (p1:((Int×Int)×Int)→Option Bool) (a:LP×Int×Int):Option ((LP×Int×Int) ⊕ (LP×Int)):=
 if decide (a.2.2<(a.1.length:Int)) then ((idx a.1 a.2.2).bind fun b=>(p1 b).bind fun c=>if !c then ((idx a.1 a.2.1).bind fun e=>(some (a.1.set a.2.1.toNat b)).bind fun d=>zbD a d (w64 (a.2.1+1))) else (zbD a a.1 a.2.1)) else (some (.inr (a.1,a.2.1)))
def zdb (p0:LP) (p1:((Int×Int)×Int)→Option Bool):Option (LP):=
 (zaN p0 p1).bind fun a=>if decide (a=(-1)) then (some p0) else ((iter (zbC p1) (p0,a,w64 (a+1))).bind fun b=>zd9 b.1 b.2)
def zhd  : Option (Int):=
 some (-1)
def zhc (p0:List (Int×Int)) (p1:Int×Int) (a:Int):Option (Int ⊕ (Unit ⊕ Int)):=
 if decide (a<(p0.length:Int)) then ((idx p0 a).bind fun b=>if (decide (p1.1=b.1)&&decide (p1.2=b.2)) then (some (.inr (.inr a))) else (some (.inl (w64 (a+1))))) else (some (.inr (.inl ())))
def zjG (p0:List (Int×Int)) (p1:Int×Int):Option (Int):=
 (iter (zhc p0 p1) 0).bind fun a=>match a with | .inl z=>zhd | .inr z=>some z
def zeh (p0:List (Int×Int)) (p1:Int×Int):Option (Bool):=
 (zjG p0 p1).bind fun a=>some (decide (a≥0))
def zec (p0:(Int×Int)×Int) (p1:List (Int×Int)):Option (Bool):=
 (zeh p1 p0.1).bind fun a=>some a
def zdf (p0:LP) (p1:List (Int×Int)):Option ((LP)):=
 (zeJ p0).bind fun a=>(zdb a (fun c=>zec c p1)).bind fun b=>some b
def zeV (p0:LP) (p1:Int×Int):Option (Int):=
 (z7 p0 p1 (fun c d=>z1 c d)).bind fun a=>if a.2 then ((idx p0 a.1).bind fun b=>some b.2) else (some (-1))
def zi5  : Option (Bool):=
 some false
def zcI (a:Int) (b:Bool):Option (Int ⊕ (Unit ⊕ Bool)):=
 if b then (some (.inr (.inr true))) else (some (.inl (w64 (a+1))))
def za1 (p0:(TS×(LP)×Int)×LP×(LP)×LI×LI) (b:(Int×Int)×Int) (c:(LP)) (a:Int):Option (Int ⊕ (Unit ⊕ Bool)):=
 if decide (a<(p0.1.1.2.length:Int)) then (if !decide (a=b.2) then ((zbT p0.1.1 b.1 a (fun e=>zeV c e)).bind fun d=>zcI a (decide (d≥p0.1.2.2))) else (zcI a false)) else (some (.inr (.inl ())))
def zfa (p0:(TS×(LP)×Int)×LP×(LP)×LI×LI) (a:(Int×Int)×Int) (b:List (Int×Int)):Option (Bool):=
 (zdf p0.2.2.1 b).bind fun c=>(iter (za1 p0 a c) 0).bind fun d=>match d with | .inl z=>zi5 | .inr z=>some z
def zcH (a:(List (Int×Int))×Int) (b:List (Int×Int)):Option (((List (Int×Int))×Int) ⊕ ((List (Int×Int)))):=
 some (.inl (b,w64 (a.2+1)))
def za2 (p0:(TS×(LP)×Int)×LP×(LP)×LI×LI) (p1:Int) (b:(Int×Int)×Int) (a:(List (Int×Int))×Int):Option (((List (Int×Int))×Int) ⊕ ((List (Int×Int)))):=
 if decide (a.2<4) then ((zei p0 p1).bind fun c=>(zoZ c a.2).bind fun d=>if d then ((zQ b.1 a.2).bind fun e=>(app 16 a.1 [e]).bind fun f=>zcH a f) else (zcH a a.1)) else (some (.inr a.1))
def zej (p0:(TS×(LP)×Int)×LP×(LP)×LI×LI) (p1:Int):Option (Bool):=
 (idx p0.2.1 p1).bind fun a=>(iter (za2 p0 p1 a) ([a.1],0)).bind fun b=>zfa p0 a b
def zed (a b:Int×Int):Int:=if a.2<b.2 then -1 else if b.2<a.2 then 1 else if a.1<b.1 then -1 else if b.1<a.1 then 1 else 0
def zuU (l:List (Int×Int)):List (Int×Int):=(Go.Sort.pdq (fun x y=>decide (zed x y<0)) l.toArray 0 l.length (Go.Lib.bitLen l.length) true true).toList
def zd2 (q:CrySt):Option LP:=
 if q.2.2.length≤100000∧∀ p∈q.2.2,p.2.length≤100000 then some ((zuU (q.2.2.map Prod.fst)).flatMap fun p=>((zdj q.2.2 p).getD []).map fun k=>(p,k)) else none
def zgr (p0:(TS×(LP)×Int)×LP×(LP)×LI×LI):Option ((Option (Nat×((Int×Int)×Int)))):=
 (zcj p0.1 p0.2.2.1).bind fun c=>(zd2 c).bind fun b=>if decide ((b.length:Int)>0) then ((idx b 0).bind fun a=>some (some (390,(a.1.1,a.1.2),a.2))) else (some (none:Option (Nat×((Int×Int)×Int))))
def zdY (p0:(TS×(LP)×Int)×LP×(LP)×LI×LI) (a:Int):Option (Int ⊕ (Unit ⊕ ((Option (Nat×((Int×Int)×Int)))))):=
 if decide (a<(p0.2.1.length:Int)) then ((idx p0.2.1 a).bind fun b=>(idx p0.2.2.2.2 a).bind fun c=>if !decide (c=p0.1.2.2) then (some (.inr (.inr (some (387,(b.1.1,b.1.2),b.2))))) else ((zej p0 a).bind fun d=>if d then (some (.inr (.inr (some (388,(b.1.1,b.1.2),b.2))))) else (some (.inl (w64 (a+1)))))) else (some (.inr (.inl ())))
def zi4 (p0:(TS×(LP)×Int)×LP×(LP)×LI×LI):Option ((Option (Nat×((Int×Int)×Int)))):=
 (iter (zdY p0) 0).bind fun a=>match a with | .inl z=>zgr p0 | .inr z=>some z
def zpA (p0:((Int×Int)×Int)):Option ((Int×Int)):=
 some p0.1
def zoj (p0:((Int×Int)×Int)):Option (Int):=
 some 1
def zpZ (p0:((Int×Int)×Int)):Option ((Int×Int)):=
 some p0.1
def zoW (p0:((Int×Int)×Int)):Option (Int):=
 some 2
def zrQ (p0:((Int×Int)×Int)):Option ((Int×Int)):=
 some p0.1
def zp1 (p0:((Int×Int)×Int)):Option (Int):=
 some 3
def zhT (p0:Sy) (p1:LP):Option (Int×(Int×Int)×Int):=
 (zrO p0 p1).bind fun x=>if (!decide (x.2=0))=true then some (0,(0,0),x.2) else (zi4 x.1).bind fun v=>match v with
  | none=>some (0,(0,0),3)
  | some (T,o)=>some (if T=387 then 1 else if T=388 then 2 else 3,o.1,0)
def zlg (p0:TS×(LP)×Int) (p1:LP):Option (Bool):=
 (zhT p0 p1).bind fun a=>some (decide (a.2.2=3))
def zcC (p0:(LP)) (p1:TS×(LP)×Int) (c:LP):Option (Bool):=
 (zak p0 p1 c).bind fun a=>if a then ((zlg p1 p0).bind fun b=>some b) else (some false)
def zj7 (p0:LP):Option (((Int×Int)×Int)):=
 (idx p0 (w64 ((p0.length:Int) - 1))).bind fun a=>some a
def zal (p0:(LP)×LP) (p1:TS×(LP)×Int) (c:Bool):Option (Bool):=
 if c then (some false) else ((zce p1 p0.2).bind fun d=>(zj7 p0.1).bind fun a=>(zj7 p0.2).bind fun b=>if decide (d.2.2=0) then (if (decide (a.1.1=b.1.1)&&decide (a.1.2=b.1.2)) then (some (!decide (a.2=b.2))) else (some false)) else (some false))
def zbI (p0:(LP)×LP) (p1:TS×(LP)×Int) (b:LP):Option (Bool):=
 if decide ((p0.1.length:Int)=0) then (zal p0 p1 true) else (if decide ((p0.2.length:Int)=0) then (zal p0 p1 true) else ((zak p0.1 p1 b).bind fun a=>zal p0 p1 (!a)))
def zfw (a:Bool):Option (Int):=
 if a then (some 2) else (some 0)
def zn2 (p0:LG×LT) (p1:LP) (a:Int) (b:Int):Option (Int):=
 (z6 p0 p1).bind fun c=>if !c then (some 1) else ((zaE a (p1.length:Int)).bind fun x23=>if !x23 then (zfw true) else ((zaE b (p1.length:Int)).bind fun d=>if !d then (zfw true) else (zfw (decide (a=b)))))
def zjl (c:Int) (a:LI):Option (Int×Int):=
 (idx a c).bind fun b=>some (b,0)
def zd4 (a:Int) (b:Bool):Option (Int ⊕ (Unit ⊕ (Int×Int))):=
 if b then (some (.inr (.inr (0,10)))) else (some (.inl (w64 (a+1))))
def zcg (d:Int) (e:Int) (b:LI) (a:Int):Option (Int ⊕ (Unit ⊕ (Int×Int))):=
 if decide (a<(b.length:Int)) then ((idx b a).bind fun c=>if !decide (c=0) then (if !decide (a=d) then (zd4 a (!decide (a=e))) else (zd4 a false)) else (zd4 a false)) else (some (.inr (.inl ())))
def zjm (b:Int) (d:Int) (a:LI):Option (Int×Int):=
 (iter (zcg b d a) 0).bind fun c=>match c with | .inl z=>zjl b a | .inr z=>some z
def zf5 (e:LI) (d:LB) (a:LI×Int):Option ((LI×Int) ⊕ ((LI) ⊕ (Int×Int))):=
 if decide (a.2<(d.length:Int)) then ((idx d a.2).bind fun b=>(idx e a.2).bind fun g=>(zav g (w64 (0 - b.2.2)) b.2.2).bind fun h=>if !h then (some (.inr (.inr (0,10)))) else ((idx a.1 b.1).bind fun i=>(idx e a.2).bind fun j=>(idx a.1 b.1).bind fun m=>(some (a.1.set b.1.toNat (w64 (i+j)))).bind fun c=>(idx c b.2.1).bind fun k=>(idx e a.2).bind fun l=>(idx c b.2.1).bind fun n=>(some (c.set b.2.1.toNat (w64 (k - l)))).bind fun f=>some (.inl (f,w64 (a.2+1))))) else (some (.inr (.inl a.1)))
def zjn (p0:LG×LT) (p1:LP) (b:Int) (c:Int) (d:LI):Option (Int×Int):=
 (zn2 p0 p1 b c).bind fun x23=>if !decide (x23=0) then (some (0,x23)) else ((zaJ p0 p1).bind fun a=>if !decide ((d.length:Int)=(a.length:Int)) then (some (0,10)) else ((mkl 8 (p1.length:Int) 0).bind fun e=>(iter (zf5 d a) (e,0)).bind fun f=>match f with | .inl z=>zjm b c z | .inr z=>some z))
def zg5  : Option (Bool):=
 some true
def zbi (a:Int) (b:Bool):Option (Int ⊕ (Unit ⊕ Bool)):=
 if b then (some (.inr (.inr false))) else (some (.inl (w64 (a+1))))
def zah (p0:LM) (p1:TS×(LP)×Int) (d:LP) (a:Int):Option (Int ⊕ (Unit ⊕ Bool)):=
 if decide (a<(p0.length:Int)) then ((idx p0 a).bind fun c=>(zjn p1.1 d 0 (w64 (a+1)) c).bind fun b=>if !decide (b.2=0) then (zbi a true) else (zbi a (decide (b.1<p1.2.2)))) else (some (.inr (.inl ())))
def zcD (p0:LM) (p1:TS×(LP)×Int) (a:LP):Option (Bool):=
 if !decide ((p0.length:Int)=(zBH (w64 ((a.length:Int) - 1)) 0)) then (some false) else ((iter (zah p0 p1 a) 0).bind fun b=>match b with | .inl z=>zg5 | .inr z=>some z)
def zim  : Option (Bool):=
 some true
def zam (a:Int) (b:Bool):Option (Int ⊕ (Unit ⊕ Bool)):=
 if b then (some (.inr (.inr false))) else (some (.inl (w64 (a+1))))
def zV (p0:LP) (p1:LI) (a:Int):Option (Int ⊕ (Unit ⊕ Bool)):=
 if decide (a<(p1.length:Int)) then ((idx p1 a).bind fun b=>(zaE b (p0.length:Int)).bind fun c=>if !c then (zam a true) else (if decide (a>0) then ((idx p1 (w64 (a - 1))).bind fun d=>zam a (decide (b≤d))) else (zam a false))) else (some (.inr (.inl ())))
def zd5 (p0:LP) (p1:LI):Option (Bool):=
 (iter (zV p0 p1) 0).bind fun a=>match a with | .inl z=>zim | .inr z=>some z
def zl0 (a:Int):Option (Int):=
 some a
def zc5 (p0:LB) (a:Int×Int):Option ((Int×Int) ⊕ Int):=
 if decide (a.2<(p0.length:Int)) then ((idx p0 a.2).bind fun b=>some (.inl (w64 (a.1+b.2.2),w64 (a.2+1)))) else (some (.inr a.1))
def zhP (p0:LB):Option (Int):=
 (iter (zc5 p0) (0,0)).bind fun a=>zl0 a
def zhb  : Option (Int):=
 some (-1)
def zha (p0:LI) (p1:Int) (a:Int):Option (Int ⊕ (Unit ⊕ Int)):=
 if decide (a<(p0.length:Int)) then ((idx p0 a).bind fun b=>if decide (p1=b) then (some (.inr (.inr a))) else (some (.inl (w64 (a+1))))) else (some (.inr (.inl ())))
def zjF (p0:LI) (p1:Int):Option (Int):=
 (iter (zha p0 p1) 0).bind fun a=>match a with | .inl z=>zhb | .inr z=>some z
def zcs (p0:LI) (p1:Int):Option (Bool):=
 (zjF p0 p1).bind fun a=>some (decide (a≥0))
def zel (p0:Int×Int×Int) (p1:LI):Option (Bool):=
 (zcs p1 p0.1).bind fun a=>(zcs p1 p0.2.1).bind fun b=>some (a == b)
def zg1 (p0:LB) (p1:LI):Option (Int):=
 (zcR p0).bind fun a=>(zbk a (fun d=>zel d p1)).bind fun b=>(zhP b).bind fun c=>some c
def zjS (p0:LG×LT) (p1:LP) (a:LI):Option (Int×Int):=
 (z6 p0 p1).bind fun b=>if !b then (some (0,1)) else ((zd5 p1 a).bind fun c=>if !c then (some (0,2)) else ((zaJ p0 p1).bind fun d=>(zg1 d a).bind fun e=>some (e,0)))
def zdc (p0:LI) (p1:TS×(LP)×Int) (b:LP):Option (Bool):=
 (zjS p1.1 b p0).bind fun a=>if decide (a.2=0) then (if decide ((p0.length:Int)>0) then (if decide ((p0.length:Int)<(b.length:Int)) then (some (decide (a.1<p1.2.2))) else (some false)) else (some false)) else (some false)
def ze8 (p0:Sy) (p1:LP) (p:Prf):Option Bool:=
 if p.1=1 then zak p.2.1 p0 p1 else if p.1=2 then zbG p.2.1 p0 p1 else if p.1=3 then zcC p.2.1 p0 p1
 else if p.1=4 then zbI (p.2.1,p.2.2.1) p0 p1 else if p.1=5 then zcD p.2.2.2.2 p0 p1 else zdc p.2.2.2.1 p0 p1
def zcl (p0:Sy) (p1:LP) (a:Prf):Option Int:=
 (zhQ p0 p1).bind fun c=>if (!decide (c=0))=true then some 1 else (zav a.1 1 6).bind fun w=>if (!w)=true then some 2 else
  (zff a).bind fun b=>if b=true then (ze8 p0 p1 a).bind fun r=>some (if r=true then 0 else 10) else some 10
def zhS (p0:BS×(TS×(LP)×Int)×(LP)×(Int×LP×LP×LI×LM)):Option (Bool):=
 (zgz p0.1).bind fun a=>if a then ((zcl p0.2.1 p0.2.2.1 p0.2.2.2).bind fun b=>some (decide (b=0))) else (some false)
def strings_Join (p0:LW) (p1:BS):Option BS:=if p0.length≤140737488355328∧(Go.Lib.join p0 p1).length≤140737488355328 then some (Go.Lib.join p0 p1) else none
def zeN (p0:LW):Option (BS):=
 (strings_Join p0 ([32]:BS)).bind fun a=>(zaS a ([10]:BS)).bind fun b=>some b
def zlZ (p0:Bool):Option (Int):=
 if p0 then (some 1) else (some 0)
def ziq (p0 p1:Int):Option BS:=if p1=10 then some (Go.Lib.itoa p0) else none
def zfg (p0:Int):Option (BS):=
 (ziq p0 10).bind fun a=>some a
def zgw (p0:Int×Int):Option (BS):=
 (zdt p0).bind fun e=>if !e then (some ([]:BS)) else ((zfg p0.1).bind fun a=>(zaS a ([44]:BS)).bind fun b=>(zfg p0.2).bind fun c=>(zaS b c).bind fun d=>some d)
def zkI (a:LI):Option (BS):=
 some (zY a)
def zkH (a:Int×LI) (b:LI):Option ((Int×LI) ⊕ (LI)):=
 (app 1 b (zB ([10]:BS))).bind fun c=>some (.inl (w64 (a.1+1),c))
def zfu (a:Int×LI) (b:LI):Option ((Int×LI) ⊕ (LI)):=
 some (.inl (w64 (a.1+1),b))
def zdq (p0:LG×LT) (b:BS×LI) (a:Int×LI):Option ((Int×LI) ⊕ (LI)):=
 if decide (a.1<(b.2.length:Int)) then ((idx b.2 a.1).bind fun c=>if decide (c=0) then ((app 1 a.2 (zB ([32,45]:BS))).bind fun d=>zfu a d) else ((idx p0.1 (w64 (c - 1))).bind fun e=>(zaS ([32]:BS) e.1).bind fun f=>(app 1 a.2 (zB f)).bind fun g=>zfu a g)) else (some (.inr a.2))
def zdr (p0:LG×LT) (a:Int×LI):Option ((Int×LI) ⊕ (LI)):=
 if decide (a.1<(p0.2.length:Int)) then ((idx p0.2 a.1).bind fun b=>(zaS ([116,105,108,101,32]:BS) b.1).bind fun c=>(app 1 a.2 (zB c)).bind fun d=>(iter (zdq p0 b) (0,d)).bind fun e=>zkH a e) else (some (.inr a.2))
def zkJ (p0:LG×LT) (a:LI):Option (BS):=
 (iter (zdr p0) (0,a)).bind fun b=>zkI b
def zds (p0:LG×LT) (a:Int×LI):Option ((Int×LI) ⊕ (LI)):=
 if decide (a.1<(p0.1.length:Int)) then ((idx p0.1 a.1).bind fun b=>(zaS ([103,108,117,101,32]:BS) b.1).bind fun c=>(zaS c ([32]:BS)).bind fun d=>(zfg b.2).bind fun e=>(zaS d e).bind fun f=>(zaS f ([10]:BS)).bind fun g=>(app 1 a.2 (zB g)).bind fun h=>some (.inl (w64 (a.1+1),h))) else (some (.inr a.2))
def zld (p0:LG×LT):Option (BS):=
 (iter (zds p0) (0,[])).bind fun a=>zkJ p0 a
def zh5 (a:LI):Option (BS):=
 some (zY a)
def zbu (p0:TS×(LP)×Int) (a:Int×LI):Option ((Int×LI) ⊕ (LI)):=
 if decide (a.1<(p0.2.1.length:Int)) then ((idx p0.2.1 a.1).bind fun b=>(idx p0.1.2 b.2).bind fun c=>(zgw b.1).bind fun d=>(zeN [([115,101,101,100]:BS),c.1,d]).bind fun e=>(app 1 a.2 (zB e)).bind fun f=>some (.inl (w64 (a.1+1),f))) else (some (.inr a.2))
def zhO (p0:TS×(LP)×Int):Option (BS):=
 (zfg p0.2.2).bind fun a=>(zeN [([116,101,109,112,101,114,97,116,117,114,101]:BS),a]).bind fun b=>(app 1 [] (zB b)).bind fun c=>(zld p0.1).bind fun d=>(app 1 c (zB d)).bind fun e=>(iter (zbu p0) (0,e)).bind fun f=>zh5 f
def zjh (p0:Int):Option BS:=(zav p0 1 6).bind fun x=>if (!x)=true then some [] else idx [[],[103,114,111,119,110],[116,101,114,109,105,110,97,108],[117,110,105,113,117,101],[99,111,110,102,108,105,99,116],[115,116,97,98,108,101],[108,111,111,115,101]] p0
def zhl (a:LW):Option (BS):=
 (zeN a).bind fun b=>some b
def zcw (p1:LI) (a:LW×Int):Option ((LW×Int) ⊕ (LW)):=
 if decide (a.2<(p1.length:Int)) then ((idx p1 a.2).bind fun b=>(zfg b).bind fun c=>(app 16 a.1 [c]).bind fun d=>some (.inl (d,w64 (a.2+1)))) else (some (.inr a.1))
def zbv (p0:BS) (p1:LI):Option (BS):=
 (iter (zcw p1) ([p0],0)).bind fun a=>zhl a
def zjd (a:LI):Option (BS):=
 some (zY a)
def zcb (p0:Int×LP×LP×LI×LM) (a:Int×LI):Option ((Int×LI) ⊕ (LI)):=
 if decide (a.1<(p0.2.2.2.2.length:Int)) then ((idx p0.2.2.2.2 a.1).bind fun b=>(zbv ([102,108,111,119]:BS) b).bind fun c=>(app 1 a.2 (zB c)).bind fun d=>some (.inl (w64 (a.1+1),d))) else (some (.inr a.2))
def zd3 (p0:Int×LP×LP×LI×LM) (a:LI):Option (BS):=
 (iter (zcb p0) (0,a)).bind fun b=>zjd b
def zje (p0:Int×LP×LP×LI×LM) (a:LI):Option (BS):=
 if decide ((p0.2.2.2.1.length:Int)>0) then ((zbv ([112,97,114,116]:BS) p0.2.2.2.1).bind fun b=>(app 1 a (zB b)).bind fun c=>zd3 p0 c) else (zd3 p0 a)
def zcc (p0:Int×LP×LP×LI×LM) (a:Int×LI):Option ((Int×LI) ⊕ (LI)):=
 if decide (a.1<(p0.2.2.1.length:Int)) then ((idx p0.2.2.1 a.1).bind fun b=>(zbv ([111,116,104,101,114]:BS) [b.1.1,b.1.2,b.2]).bind fun d=>(app 1 a.2 (zB d)).bind fun c=>some (.inl (w64 (a.1+1),c))) else (some (.inr a.2))
def zjf (p0:Int×LP×LP×LI×LM) (a:LI):Option (BS):=
 (iter (zcc p0) (0,a)).bind fun b=>zje p0 b
def zcd (p0:Int×LP×LP×LI×LM) (a:Int×LI):Option ((Int×LI) ⊕ (LI)):=
 if decide (a.1<(p0.2.1.length:Int)) then ((idx p0.2.1 a.1).bind fun b=>(zbv ([112,117,116]:BS) [b.1.1,b.1.2,b.2]).bind fun c=>(app 1 a.2 (zB c)).bind fun d=>some (.inl (w64 (a.1+1),d))) else (some (.inr a.2))
def zjg (p0:Int×LP×LP×LI×LM):Option (BS):=
 (zjh p0.1).bind fun a=>if decide (a=([]:BS)) then (some ([]:BS)) else ((zeN [([112,114,111,111,102]:BS),a]).bind fun c=>(app 1 [] (zB c)).bind fun d=>(iter (zcd p0) (0,d)).bind fun b=>zjf p0 b)
def zjj (p0:BS×(TS×(LP)×Int)×(LP)×(Int×LP×LP×LI×LM)) (b:LI):Option (BS):=
 (zjg p0.2.2.2).bind fun c=>(app 1 b (zB c)).bind fun a=>if decide ((a.length:Int)>20000) then (some ([]:BS)) else (some (zY a))
def zcf (p0:BS×(TS×(LP)×Int)×(LP)×(Int×LP×LP×LI×LM)) (a:Int×LI):Option ((Int×LI) ⊕ (LI)):=
 if decide (a.1<(p0.2.2.1.length:Int)) then ((idx p0.2.2.1 a.1).bind fun b=>(idx p0.2.1.1.2 b.2).bind fun f=>(zgw b.1).bind fun c=>(zeN [([97,116]:BS),f.1,c]).bind fun d=>(app 1 a.2 (zB d)).bind fun e=>some (.inl (w64 (a.1+1),e))) else (some (.inr a.2))
def zjk (p0:BS×(TS×(LP)×Int)×(LP)×(Int×LP×LP×LI×LM)):Option (BS):=
 (zhS p0).bind fun a=>if !a then (some ([]:BS)) else ((zeN [([101,110,116,114,121]:BS),p0.1]).bind fun b=>(app 1 [] (zB b)).bind fun c=>(zhO p0.2.1).bind fun d=>(app 1 c (zB d)).bind fun e=>(zeN [([101,110,100]:BS)]).bind fun f=>(app 1 e (zB f)).bind fun g=>(iter (zcf p0) (0,g)).bind fun h=>zjj p0 h)
def ziY (p0:Int×Int) (p1:Int×Int):Option (Bool):=
 if !decide (p0.1=p1.1) then (some false) else (if !decide (p0.2=p1.2) then (some false) else (some true))
def zm6 (p0:(Int×Int)×Int) (p1:(Int×Int)×Int):Option (Bool):=
 (ziY p0.1 p1.1).bind fun a=>if !a then (some false) else (if !decide (p0.2=p1.2) then (some false) else (some true))
def ziZ  : Option (Bool):=
 some true
def zdV (p0:LP) (p1:LP) (a:Int):Option (Int ⊕ (Unit ⊕ Bool)):=
 if decide (a<(p0.length:Int)) then ((idx p0 a).bind fun b=>(idx p1 a).bind fun c=>(zm6 b c).bind fun d=>if !d then (some (.inr (.inr false))) else (some (.inl (w64 (a+1))))) else (some (.inr (.inl ())))
def zi0 (p0:LP) (p1:LP):Option (Bool):=
 if !decide ((p0.length:Int)=(p1.length:Int)) then (some false) else ((iter (zdV p0 p1) 0).bind fun a=>match a with | .inl z=>ziZ | .inr z=>some z)
def zhN (p0:LP) (p1:LP):Option (Bool):=
 (zi0 p0 p1).bind fun a=>if !a then (some false) else (some true)
def zoU (p0:BS×Int) (p1:BS×Int):Option (Bool):=
 if !decide (p0.1=p1.1) then (some false) else (if !decide (p0.2=p1.2) then (some false) else (some true))
def zkG  : Option (Bool):=
 some true
def zfs (p0:LG) (p1:LG) (a:Int):Option (Int ⊕ (Unit ⊕ Bool)):=
 if decide (a<(p0.length:Int)) then ((idx p0 a).bind fun b=>(idx p1 a).bind fun c=>(zoU b c).bind fun d=>if !d then (some (.inr (.inr false))) else (some (.inl (w64 (a+1))))) else (some (.inr (.inl ())))
def zla (p0:LG) (p1:LG):Option (Bool):=
 if !decide ((p0.length:Int)=(p1.length:Int)) then (some false) else ((iter (zfs p0 p1) 0).bind fun a=>match a with | .inl z=>zkG | .inr z=>some z)
def zjL  : Option (Bool):=
 some true
def zeM (p0:LI) (p1:LI) (a:Int):Option (Int ⊕ (Unit ⊕ Bool)):=
 if decide (a<(p0.length:Int)) then ((idx p0 a).bind fun b=>(idx p1 a).bind fun c=>if !decide (b=c) then (some (.inr (.inr false))) else (some (.inl (w64 (a+1))))) else (some (.inr (.inl ())))
def zfK (p0:LI) (p1:LI):Option (Bool):=
 if !decide ((p0.length:Int)=(p1.length:Int)) then (some false) else ((iter (zeM p0 p1) 0).bind fun a=>match a with | .inl z=>zjL | .inr z=>some z)
def zoT (p0:BS×LI) (p1:BS×LI):Option (Bool):=
 if !decide (p0.1=p1.1) then (some false) else ((zfK p0.2 p1.2).bind fun a=>if !a then (some false) else (some true))
def zkF  : Option (Bool):=
 some true
def zfr (p0:LT) (p1:LT) (a:Int):Option (Int ⊕ (Unit ⊕ Bool)):=
 if decide (a<(p0.length:Int)) then ((idx p0 a).bind fun b=>(idx p1 a).bind fun c=>(zoT b c).bind fun d=>if !d then (some (.inr (.inr false))) else (some (.inl (w64 (a+1))))) else (some (.inr (.inl ())))
def zk9 (p0:LT) (p1:LT):Option (Bool):=
 if !decide ((p0.length:Int)=(p1.length:Int)) then (some false) else ((iter (zfr p0 p1) 0).bind fun a=>match a with | .inl z=>zkF | .inr z=>some z)
def zlX (p0:LG×LT) (p1:LG×LT):Option (Bool):=
 (zla p0.1 p1.1).bind fun a=>if !a then (some false) else ((zk9 p0.2 p1.2).bind fun b=>if !b then (some false) else (some true))
def zm5 (p0:TS×(LP)×Int) (p1:TS×(LP)×Int):Option (Bool):=
 (zlX p0.1 p1.1).bind fun a=>if !a then (some false) else ((zhN p0.2.1 p1.2.1).bind fun b=>if !b then (some false) else (if !decide (p0.2.2=p1.2.2) then (some false) else (some true)))
def zm7 (p0:(Int×Int)×Int) (p1:(Int×Int)×Int):Option (Bool):=
 (ziY p0.1 p1.1).bind fun a=>if !a then (some false) else (if !decide (p0.2=p1.2) then (some false) else (some true))
def zi1  : Option (Bool):=
 some true
def zdW (p0:LP) (p1:LP) (a:Int):Option (Int ⊕ (Unit ⊕ Bool)):=
 if decide (a<(p0.length:Int)) then ((idx p0 a).bind fun b=>(idx p1 a).bind fun c=>(zm7 b c).bind fun d=>if !d then (some (.inr (.inr false))) else (some (.inl (w64 (a+1))))) else (some (.inr (.inl ())))
def zgq (p0:LP) (p1:LP):Option (Bool):=
 if !decide ((p0.length:Int)=(p1.length:Int)) then (some false) else ((iter (zdW p0 p1) 0).bind fun a=>match a with | .inl z=>zi1 | .inr z=>some z)
def zi2  : Option (Bool):=
 some true
def zdX (p0:LM) (p1:LM) (a:Int):Option (Int ⊕ (Unit ⊕ Bool)):=
 if decide (a<(p0.length:Int)) then ((idx p0 a).bind fun b=>(idx p1 a).bind fun c=>(zfK b c).bind fun d=>if !d then (some (.inr (.inr false))) else (some (.inl (w64 (a+1))))) else (some (.inr (.inl ())))
def zi3 (p0:LM) (p1:LM):Option (Bool):=
 if !decide ((p0.length:Int)=(p1.length:Int)) then (some false) else ((iter (zdX p0 p1) 0).bind fun a=>match a with | .inl z=>zi2 | .inr z=>some z)
def znS (p0:Int×LP×LP×LI×LM) (p1:Int×LP×LP×LI×LM):Option (Bool):=
 if !decide (p0.1=p1.1) then (some false) else ((zgq p0.2.1 p1.2.1).bind fun a=>if !a then (some false) else ((zgq p0.2.2.1 p1.2.2.1).bind fun b=>if !b then (some false) else ((zfK p0.2.2.2.1 p1.2.2.2.1).bind fun c=>if !c then (some false) else ((zi3 p0.2.2.2.2 p1.2.2.2.2).bind fun d=>if !d then (some false) else (some true)))))
def zlb (p0:BS×(TS×(LP)×Int)×(LP)×(Int×LP×LP×LI×LM)) (p1:BS×(TS×(LP)×Int)×(LP)×(Int×LP×LP×LI×LM)):Option (Bool):=
 if !decide (p0.1=p1.1) then (some false) else ((zm5 p0.2.1 p1.2.1).bind fun a=>if !a then (some false) else ((zhN p0.2.2.1 p1.2.2.1).bind fun b=>if !b then (some false) else ((znS p0.2.2.2 p1.2.2.2).bind fun c=>if !c then (some false) else (some true))))
def zfN (p0:BS×(TS×(LP)×Int)×(LP)×(Int×LP×LP×LI×LM)):Option (Bool):=
 (znR p0 1048576).bind fun e=>if decide (e<0) then (some true) else ((zgW p0).bind fun f=>(ziL f).bind fun g=>(zgW p0).bind fun a=>(zjk a).bind fun b=>if !decide (b=g) then (some false) else ((zgW p0).bind fun c=>(zlb a c).bind fun d=>if !d then (some false) else (some true)))
end
end Go.Lf
namespace Go.Lf
open Go Go.Proofs
def tPoint:Ty (Int×Int):=(tPair tI64 tI64)
instance:TyA tPoint:=inferInstanceAs (TyA (tPair tI64 tI64))
def tPlaced:Ty ((Int×Int)×Int):=(tPair tPoint tI64)
instance:TyA tPlaced:=inferInstanceAs (TyA (tPair tPoint tI64))
def tGlue:Ty (BS×Int):=(tPair tStr tI64)
instance:TyA tGlue:=inferInstanceAs (TyA (tPair tStr tI64))
def tTile:Ty (BS×LI):=(tPair tStr (tSl tI64))
instance:TyA tTile:=inferInstanceAs (TyA (tPair tStr (tSl tI64)))
def zW:Ty (Int×Int×Int):=(tPair tI64 (tPair tI64 tI64))
instance:TyA zW:=inferInstanceAs (TyA (tPair tI64 (tPair tI64 tI64)))
theorem zr5:KeyOk Tryz.prog 78 kPt:=zzx (fun em w x y=>kr) ⟨_,Tryz.underlying78,fun a b k es j hb=>kr⟩
 (fun w x y z t=>zvK (P:=Tryz.prog) (T:=78) kr 9998 .i64 .i64 x y z t w)
def Glob (κ:K):Prop:=Globp pow10s 1 κ
theorem Glob.step {M:List Nat} {κ κ':K} (s:Step M κ κ') (h:Glob κ):Glob κ':=Globp.step s h
end Go.Lf
namespace Go.Lf
open Go
abbrev PT:=(Int×Int)×Int
theorem zrb (a b:Int):zdu a b=some (if a<b then -1 else if b<a then 1 else 0):=by
 unfold zdu zhC;simp only [gq,decide_true,au,ap,if_false];by_cases h:a<b
 ·simp [h]
 ·by_cases h2:b<a
  ·simp [h,h2]
  ·simp [h,h2]
theorem zxo (u v:Int):zl8 [u,v]=some (if u=0 then v else u):=by
 unfold zl8;have w1:w64 1=1:=by decide
 have w2:w64 2=2:=by decide
 by_cases hu:u=0
 ·have e0:zaj [u,v] 0=some (.inl 1):=by unfold zaj idx;simp [hu,w1]
  rw [zv e0];by_cases hv:v=0
  ·have e1:zaj [u,v] 1=some (.inl 2):=by unfold zaj idx;simp [hv,w2]
   have e2:zaj [u,v] 2=some (.inr (.inl ())):=by unfold zaj idx;simp
   rw [zv e1,zC e2];simp [zkb,hu,hv]
  ·have e1:zaj [u,v] 1=some (.inr (.inr v)):=by unfold zaj idx;simp [hv]
   rw [zC e1];simp [hu]
 ·have e0:zaj [u,v] 0=some (.inr (.inr u)):=by unfold zaj idx;simp [hu]
  rw [zC e0];simp [hu]
theorem ztD (x y:Int×Int):zai x y=some (zed x y):=by
 unfold zai;rw [zrb,zrb];simp only [gq,zxo];congr 1;unfold zed
 repeat' split
 all_goals first | rfl | omega
theorem zAO (x y:PT):zid x y=some (zbd x y):=by
 unfold zid;rw [ztD];rfl
theorem ztF (l:List PT) (h:l.length≤1048576):zeJ l=some l:=by
 unfold zeJ zct app;simp;omega
end Go.Lf
namespace Go.Proofs
open Go.Shelf
def Tryz.sort208_ren:Go.Shelf.Ren:=⟨fun | 6=>250 | 15=>253 | 14=>252 | 28=>262 | 29=>168 | 20=>254 | 21=>255 | 22=>256 | 23=>257 | 24=>258 | 25=>259 | 26=>260 | 27=>261 | 46=>263 | 47=>264 | 48=>265 | 49=>266 | 50=>267 | 57=>268 | n=>n,fun | 22=>44 | 24=>80 | 25=>355 | 3=>3 | 39=>261 | 0=>0 | 53=>258 | 55=>222 | 4=>4 | 46=>359 | 45=>358 | 50=>304 | 5=>5 | 9=>9 | 66=>364 | 70=>368 | 76=>370 | 77=>371 | n=>n,fun | n=>n⟩
theorem Tryz.sort208:Go.Proofs.SlLaysF0.n6 Tryz.prog Tryz.sort208_ren:={
  mixed:=by kernel_rfl
  f6:=⟨Tryz.f250.name,by decide,Tryz.func250.trans (congrArg some (by kernel_rfl))⟩
  f14:=⟨Tryz.f252.name,by decide,Tryz.func252.trans (congrArg some (by kernel_rfl))⟩
  f15:=Tryz.func253.trans (congrArg some (by kernel_rfl))
  f20:=⟨Tryz.f254.name,by decide,Tryz.func254.trans (congrArg some (by kernel_rfl))⟩
  f21:=⟨Tryz.f255.name,by decide,Tryz.func255.trans (congrArg some (by kernel_rfl))⟩
  f22:=⟨Tryz.f256.name,by decide,Tryz.func256.trans (congrArg some (by kernel_rfl))⟩
  f23:=⟨Tryz.f257.name,by decide,Tryz.func257.trans (congrArg some (by kernel_rfl))⟩
  f24:=⟨Tryz.f258.name,by decide,Tryz.func258.trans (congrArg some (by kernel_rfl))⟩
  f25:=⟨Tryz.f259.name,by decide,Tryz.func259.trans (congrArg some (by kernel_rfl))⟩
  f26:=⟨Tryz.f260.name,by decide,Tryz.func260.trans (congrArg some (by kernel_rfl))⟩
  f27:=⟨Tryz.f261.name,by decide,Tryz.func261.trans (congrArg some (by kernel_rfl))⟩
  f28:=Tryz.func262.trans (congrArg some (by kernel_rfl))
  f29:=Tryz.func168.trans (congrArg some (by kernel_rfl))
  f46:=⟨Tryz.f263.name,by decide,Tryz.func263.trans (congrArg some (by kernel_rfl))⟩
  f47:=Tryz.func264.trans (congrArg some (by kernel_rfl))
  f48:=Tryz.func265.trans (congrArg some (by kernel_rfl))
  f49:=⟨Tryz.f266.name,by decide,Tryz.func266.trans (congrArg some (by kernel_rfl))⟩
  f50:=⟨Tryz.f267.name,by decide,Tryz.func267.trans (congrArg some (by kernel_rfl))⟩
  f57:=⟨Tryz.f268.name,by decide,Tryz.func268.trans (congrArg some (by kernel_rfl))⟩
  t0:=Tryz.underlying0
  a0:=Tryz.isAgg0
  z0:=Tryz.sizeOf0
  v0:=Tryz.zeroValue0
  t3:=Tryz.underlying3
  a3:=Tryz.isAgg3
  z3:=Tryz.sizeOf3
  v3:=Tryz.zeroValue3
  t4:=Tryz.underlying4
  a4:=Tryz.isAgg4
  z4:=Tryz.sizeOf4
  v4:=Tryz.zeroValue4
  t5:=Tryz.underlying5
  a5:=Tryz.isAgg5
  z5:=Tryz.sizeOf5
  v5:=Tryz.zeroValue5
  t9:=Tryz.underlying9
  a9:=Tryz.isAgg9
  z9:=Tryz.sizeOf9
  v9:=Tryz.zeroValue9
  t22:=Tryz.underlying44
  a22:=Tryz.isAgg44
  z22:=Tryz.sizeOf44
  v22:=Tryz.zeroValue44
  t25:=Tryz.underlying355
  a25:=Tryz.isAgg355
  z25:=Tryz.sizeOf355
  v25:=Tryz.zeroValue355
  t39:=Tryz.underlying261
  a39:=Tryz.isAgg261
  z39:=Tryz.sizeOf261
  v39:=Tryz.zeroValue261
  t45:=Tryz.underlying358
  a45:=Tryz.isAgg358
  z45:=Tryz.sizeOf358
  v45:=Tryz.zeroValue358
  t46:=Tryz.underlying359
  a46:=Tryz.isAgg359
  z46:=Tryz.sizeOf359
  v46:=Tryz.zeroValue359
  t50:=Tryz.underlying304
  a50:=Tryz.isAgg304
  z50:=Tryz.sizeOf304
  v50:=Tryz.zeroValue304
  t53:=Tryz.underlying258
  a53:=Tryz.isAgg258
  z53:=Tryz.sizeOf258
  v53:=Tryz.zeroValue258
  t55:=Tryz.underlying222
  a55:=Tryz.isAgg222
  z55:=Tryz.sizeOf222
  v55:=Tryz.zeroValue222
  t66:=Tryz.underlying364
  a66:=Tryz.isAgg364
  z66:=Tryz.sizeOf364
  v66:=Tryz.zeroValue364
  t70:=Tryz.underlying368
  a70:=Tryz.isAgg368
  z70:=Tryz.sizeOf368
  v70:=Tryz.zeroValue368
  t76:=Tryz.underlying370
  a76:=Tryz.isAgg370
  z76:=Tryz.sizeOf370
  v76:=Tryz.zeroValue370
  t77:=Tryz.underlying371
  a77:=Tryz.isAgg371
  z77:=Tryz.sizeOf371
  v77:=Tryz.zeroValue371}
def Tryz.sort248_ren:Go.Shelf.Ren:=⟨fun | 6=>289 | 15=>253 | 14=>295 | 28=>262 | 29=>168 | 20=>296 | 21=>297 | 22=>298 | 23=>299 | 24=>300 | 25=>301 | 26=>302 | 27=>303 | 46=>304 | 47=>264 | 48=>265 | 49=>305 | 50=>306 | 57=>307 | n=>n,fun | 22=>198 | 24=>78 | 25=>274 | 3=>3 | 39=>261 | 0=>0 | 53=>258 | 55=>222 | 4=>4 | 46=>359 | 45=>358 | 50=>304 | 5=>5 | 9=>9 | 66=>364 | 70=>368 | 76=>370 | 77=>371 | n=>n,fun | n=>n⟩
theorem Tryz.sort248:Go.Proofs.SlLaysF0.n6 Tryz.prog Tryz.sort248_ren:={
  mixed:=by kernel_rfl
  f6:=⟨Tryz.f289.name,by decide,Tryz.func289.trans (congrArg some (by kernel_rfl))⟩
  f14:=⟨Tryz.f295.name,by decide,Tryz.func295.trans (congrArg some (by kernel_rfl))⟩
  f15:=Tryz.func253.trans (congrArg some (by kernel_rfl))
  f20:=⟨Tryz.f296.name,by decide,Tryz.func296.trans (congrArg some (by kernel_rfl))⟩
  f21:=⟨Tryz.f297.name,by decide,Tryz.func297.trans (congrArg some (by kernel_rfl))⟩
  f22:=⟨Tryz.f298.name,by decide,Tryz.func298.trans (congrArg some (by kernel_rfl))⟩
  f23:=⟨Tryz.f299.name,by decide,Tryz.func299.trans (congrArg some (by kernel_rfl))⟩
  f24:=⟨Tryz.f300.name,by decide,Tryz.func300.trans (congrArg some (by kernel_rfl))⟩
  f25:=⟨Tryz.f301.name,by decide,Tryz.func301.trans (congrArg some (by kernel_rfl))⟩
  f26:=⟨Tryz.f302.name,by decide,Tryz.func302.trans (congrArg some (by kernel_rfl))⟩
  f27:=⟨Tryz.f303.name,by decide,Tryz.func303.trans (congrArg some (by kernel_rfl))⟩
  f28:=Tryz.func262.trans (congrArg some (by kernel_rfl))
  f29:=Tryz.func168.trans (congrArg some (by kernel_rfl))
  f46:=⟨Tryz.f304.name,by decide,Tryz.func304.trans (congrArg some (by kernel_rfl))⟩
  f47:=Tryz.func264.trans (congrArg some (by kernel_rfl))
  f48:=Tryz.func265.trans (congrArg some (by kernel_rfl))
  f49:=⟨Tryz.f305.name,by decide,Tryz.func305.trans (congrArg some (by kernel_rfl))⟩
  f50:=⟨Tryz.f306.name,by decide,Tryz.func306.trans (congrArg some (by kernel_rfl))⟩
  f57:=⟨Tryz.f307.name,by decide,Tryz.func307.trans (congrArg some (by kernel_rfl))⟩
  t0:=Tryz.underlying0
  a0:=Tryz.isAgg0
  z0:=Tryz.sizeOf0
  v0:=Tryz.zeroValue0
  t3:=Tryz.underlying3
  a3:=Tryz.isAgg3
  z3:=Tryz.sizeOf3
  v3:=Tryz.zeroValue3
  t4:=Tryz.underlying4
  a4:=Tryz.isAgg4
  z4:=Tryz.sizeOf4
  v4:=Tryz.zeroValue4
  t5:=Tryz.underlying5
  a5:=Tryz.isAgg5
  z5:=Tryz.sizeOf5
  v5:=Tryz.zeroValue5
  t9:=Tryz.underlying9
  a9:=Tryz.isAgg9
  z9:=Tryz.sizeOf9
  v9:=Tryz.zeroValue9
  t22:=Tryz.underlying198
  a22:=Tryz.isAgg198
  z22:=Tryz.sizeOf198
  v22:=Tryz.zeroValue198
  t25:=Tryz.underlying274
  a25:=Tryz.isAgg274
  z25:=Tryz.sizeOf274
  v25:=Tryz.zeroValue274
  t39:=Tryz.underlying261
  a39:=Tryz.isAgg261
  z39:=Tryz.sizeOf261
  v39:=Tryz.zeroValue261
  t45:=Tryz.underlying358
  a45:=Tryz.isAgg358
  z45:=Tryz.sizeOf358
  v45:=Tryz.zeroValue358
  t46:=Tryz.underlying359
  a46:=Tryz.isAgg359
  z46:=Tryz.sizeOf359
  v46:=Tryz.zeroValue359
  t50:=Tryz.underlying304
  a50:=Tryz.isAgg304
  z50:=Tryz.sizeOf304
  v50:=Tryz.zeroValue304
  t53:=Tryz.underlying258
  a53:=Tryz.isAgg258
  z53:=Tryz.sizeOf258
  v53:=Tryz.zeroValue258
  t55:=Tryz.underlying222
  a55:=Tryz.isAgg222
  z55:=Tryz.sizeOf222
  v55:=Tryz.zeroValue222
  t66:=Tryz.underlying364
  a66:=Tryz.isAgg364
  z66:=Tryz.sizeOf364
  v66:=Tryz.zeroValue364
  t70:=Tryz.underlying368
  a70:=Tryz.isAgg368
  z70:=Tryz.sizeOf368
  v70:=Tryz.zeroValue368
  t76:=Tryz.underlying370
  a76:=Tryz.isAgg370
  z76:=Tryz.sizeOf370
  v76:=Tryz.zeroValue370
  t77:=Tryz.underlying371
  a77:=Tryz.isAgg371
  z77:=Tryz.sizeOf371
  v77:=Tryz.zeroValue371}
def Tryz.lays212_ren:Go.Shelf.Ren:=⟨fun | 212=>215 | 263=>216 | 264=>217 | n=>n,fun | 46=>261 | 51=>258 | 146=>323 | 53=>222 | 148=>325 | n=>n,fun | n=>n⟩
theorem Tryz.lays212:Go.Proofs.Lays.n212 Tryz.prog Tryz.lays212_ren:={
  mixed:=by kernel_rfl
  f212:=Tryz.func215.trans (congrArg some (by kernel_rfl))
  f263:=Tryz.func216.trans (congrArg some (by kernel_rfl))
  f264:=Tryz.func217.trans (congrArg some (by kernel_rfl))
  t46:=Tryz.underlying261
  a46:=Tryz.isAgg261
  z46:=Tryz.sizeOf261
  v46:=Tryz.zeroValue261
  t51:=Tryz.underlying258
  a51:=Tryz.isAgg258
  z51:=Tryz.sizeOf258
  v51:=Tryz.zeroValue258
  t53:=Tryz.underlying222
  a53:=Tryz.isAgg222
  z53:=Tryz.sizeOf222
  v53:=Tryz.zeroValue222
  t146:=Tryz.underlying323
  a146:=Tryz.isAgg323
  z146:=Tryz.sizeOf323
  v146:=Tryz.zeroValue323
  t148:=Tryz.underlying325
  a148:=Tryz.isAgg325
  z148:=Tryz.sizeOf325
  v148:=Tryz.zeroValue325}
def Tryz.lays112_ren:Go.Shelf.Ren:=⟨fun | 112=>214 | n=>n,fun | 28=>311 | 3=>3 | 4=>4 | 0=>0 | n=>n,fun | n=>n⟩
theorem Tryz.lays112:Go.Proofs.Lays.n112 Tryz.prog Tryz.lays112_ren:={
  mixed:=by kernel_rfl
  f112:=Tryz.func214.trans (congrArg some (by kernel_rfl))
  t0:=Tryz.underlying0
  a0:=Tryz.isAgg0
  z0:=Tryz.sizeOf0
  v0:=Tryz.zeroValue0
  t3:=Tryz.underlying3
  a3:=Tryz.isAgg3
  z3:=Tryz.sizeOf3
  v3:=Tryz.zeroValue3
  t4:=Tryz.underlying4
  a4:=Tryz.isAgg4
  z4:=Tryz.sizeOf4
  v4:=Tryz.zeroValue4
  t28:=Tryz.underlying311
  a28:=Tryz.isAgg311
  z28:=Tryz.sizeOf311
  v28:=Tryz.zeroValue311}
def Tryz.laysM173_ren:Go.Shelf.Ren:=⟨fun | 173=>80 | 246=>103 | 283=>135 | 284=>136 | 285=>137 | 286=>138 | 129=>168 | 317=>167 | 318=>169 | 319=>170 | 320=>171 | 337=>183 | 338=>184 | n=>n,fun | 2=>2 | 3=>3 | 9=>9 | 4=>4 | 171=>221 | 0=>0 | 53=>222 | 37=>68 | 5=>5 | 173=>225 | 212=>257 | 51=>258 | 20=>20 | 213=>259 | 46=>261 | 232=>294 | 233=>295 | n=>n,fun | 17=>1 | 18=>2 | 19=>3 | n=>n⟩
theorem Tryz.laysM173:Go.Proofs.LaysM.n173 Tryz.prog Tryz.laysM173_ren:={
  mixed:=by kernel_rfl
  f129:=Tryz.func168.trans (congrArg some (by kernel_rfl))
  f173:=Tryz.func80.trans (congrArg some (by kernel_rfl))
  f246:=Tryz.func103.trans (congrArg some (by kernel_rfl))
  f283:=Tryz.func135.trans (congrArg some (by kernel_rfl))
  f284:=Tryz.func136.trans (congrArg some (by kernel_rfl))
  f285:=Tryz.func137.trans (congrArg some (by kernel_rfl))
  f286:=Tryz.func138.trans (congrArg some (by kernel_rfl))
  f317:=Tryz.func167.trans (congrArg some (by kernel_rfl))
  f318:=Tryz.func169.trans (congrArg some (by kernel_rfl))
  f319:=Tryz.func170.trans (congrArg some (by kernel_rfl))
  f320:=Tryz.func171.trans (congrArg some (by kernel_rfl))
  f337:=Tryz.func183.trans (congrArg some (by kernel_rfl))
  f338:=Tryz.func184.trans (congrArg some (by kernel_rfl))
  t0:=Tryz.underlying0
  a0:=Tryz.isAgg0
  z0:=Tryz.sizeOf0
  v0:=Tryz.zeroValue0
  t2:=Tryz.underlying2
  a2:=Tryz.isAgg2
  z2:=Tryz.sizeOf2
  v2:=Tryz.zeroValue2
  t3:=Tryz.underlying3
  a3:=Tryz.isAgg3
  z3:=Tryz.sizeOf3
  v3:=Tryz.zeroValue3
  t4:=Tryz.underlying4
  a4:=Tryz.isAgg4
  z4:=Tryz.sizeOf4
  v4:=Tryz.zeroValue4
  t5:=Tryz.underlying5
  a5:=Tryz.isAgg5
  z5:=Tryz.sizeOf5
  v5:=Tryz.zeroValue5
  t9:=Tryz.underlying9
  a9:=Tryz.isAgg9
  z9:=Tryz.sizeOf9
  v9:=Tryz.zeroValue9
  t20:=Tryz.underlying20
  a20:=Tryz.isAgg20
  z20:=Tryz.sizeOf20
  v20:=Tryz.zeroValue20
  t37:=Tryz.underlying68
  a37:=Tryz.isAgg68
  z37:=Tryz.sizeOf68
  v37:=Tryz.zeroValue68
  t46:=Tryz.underlying261
  a46:=Tryz.isAgg261
  z46:=Tryz.sizeOf261
  v46:=Tryz.zeroValue261
  t51:=Tryz.underlying258
  a51:=Tryz.isAgg258
  z51:=Tryz.sizeOf258
  v51:=Tryz.zeroValue258
  t53:=Tryz.underlying222
  a53:=Tryz.isAgg222
  z53:=Tryz.sizeOf222
  v53:=Tryz.zeroValue222
  t171:=Tryz.underlying221
  a171:=Tryz.isAgg221
  z171:=Tryz.sizeOf221
  v171:=Tryz.zeroValue221
  t173:=Tryz.underlying225
  a173:=Tryz.isAgg225
  z173:=Tryz.sizeOf225
  v173:=Tryz.zeroValue225
  t212:=Tryz.underlying257
  a212:=Tryz.isAgg257
  z212:=Tryz.sizeOf257
  v212:=Tryz.zeroValue257
  t213:=Tryz.underlying259
  a213:=Tryz.isAgg259
  z213:=Tryz.sizeOf259
  t232:=Tryz.underlying294
  a232:=Tryz.isAgg294
  z232:=Tryz.sizeOf294
  v232:=Tryz.zeroValue294
  t233:=Tryz.underlying295
  a233:=Tryz.isAgg295
  z233:=Tryz.sizeOf295
  v233:=Tryz.zeroValue295
  g17:=by kernel_rfl
  g18:=by kernel_rfl
  g19:=by kernel_rfl
  i0:=by kernel_rfl
  i2:=by kernel_rfl
  i3:=by kernel_rfl
  i4:=by kernel_rfl
  i5:=by kernel_rfl
  i9:=by kernel_rfl
  i20:=by kernel_rfl
  i37:=by kernel_rfl
  i46:=by kernel_rfl
  i51:=by kernel_rfl
  i53:=by kernel_rfl
  i171:=by kernel_rfl
  i173:=by kernel_rfl
  i212:=by kernel_rfl
  i232:=by kernel_rfl
  i233:=by kernel_rfl
  m17:=by kernel_rfl
  m18:=by kernel_rfl
  m19:=by kernel_rfl}
def Tryz.lays156_ren:Go.Shelf.Ren:=⟨fun | 156=>46 | 165=>79 | 166=>18 | 169=>24 | 240=>45 | 241=>102 | 276=>78 | 277=>134 | n=>n,fun | 31=>106 | 9=>9 | 3=>3 | 4=>4 | 0=>0 | 20=>20 | 72=>70 | 76=>73 | 70=>67 | 37=>68 | 75=>72 | 127=>113 | 164=>144 | 5=>5 | 80=>86 | n=>n,fun | n=>n⟩
theorem Tryz.lays156:Go.Proofs.Lays.n156 Tryz.prog Tryz.lays156_ren:={
  mixed:=by kernel_rfl
  f156:=Tryz.func46.trans (congrArg some (by kernel_rfl))
  f165:=Tryz.func79.trans (congrArg some (by kernel_rfl))
  f166:=Tryz.func18.trans (congrArg some (by kernel_rfl))
  f169:=Tryz.func24.trans (congrArg some (by kernel_rfl))
  f240:=Tryz.func45.trans (congrArg some (by kernel_rfl))
  f241:=Tryz.func102.trans (congrArg some (by kernel_rfl))
  f276:=Tryz.func78.trans (congrArg some (by kernel_rfl))
  f277:=Tryz.func134.trans (congrArg some (by kernel_rfl))
  t0:=Tryz.underlying0
  a0:=Tryz.isAgg0
  z0:=Tryz.sizeOf0
  v0:=Tryz.zeroValue0
  t3:=Tryz.underlying3
  a3:=Tryz.isAgg3
  z3:=Tryz.sizeOf3
  v3:=Tryz.zeroValue3
  t4:=Tryz.underlying4
  a4:=Tryz.isAgg4
  z4:=Tryz.sizeOf4
  v4:=Tryz.zeroValue4
  t9:=Tryz.underlying9
  a9:=Tryz.isAgg9
  z9:=Tryz.sizeOf9
  v9:=Tryz.zeroValue9
  t20:=Tryz.underlying20
  a20:=Tryz.isAgg20
  z20:=Tryz.sizeOf20
  v20:=Tryz.zeroValue20
  t31:=Tryz.underlying106
  a31:=Tryz.isAgg106
  z31:=Tryz.sizeOf106
  v31:=Tryz.zeroValue106
  t37:=Tryz.underlying68
  a37:=Tryz.isAgg68
  z37:=Tryz.sizeOf68
  v37:=Tryz.zeroValue68
  t70:=Tryz.underlying67
  a70:=Tryz.isAgg67
  z70:=Tryz.sizeOf67
  v70:=Tryz.zeroValue67
  t72:=Tryz.underlying70
  a72:=Tryz.isAgg70
  z72:=Tryz.sizeOf70
  v72:=Tryz.zeroValue70
  t75:=Tryz.underlying72
  a75:=Tryz.isAgg72
  z75:=Tryz.sizeOf72
  v75:=Tryz.zeroValue72
  t76:=Tryz.underlying73
  a76:=Tryz.isAgg73
  z76:=Tryz.sizeOf73
  v76:=Tryz.zeroValue73
  t127:=Tryz.underlying113
  a127:=Tryz.isAgg113
  z127:=Tryz.sizeOf113
  v127:=Tryz.zeroValue113
  t164:=Tryz.underlying144
  a164:=Tryz.isAgg144
  z164:=Tryz.sizeOf144
  v164:=Tryz.zeroValue144}
end Go.Proofs
namespace Go.Lf
open Go Go.Proofs Go.Sort
def zAI (x:PT):List Value:=[.int .i64 x.1.1,.int .i64 x.1.2,.int .i64 x.2]
def zAH (x:Int×Int):List Value:=[.int .i64 x.1,.int .i64 x.2]
theorem zBK:EncOk tPlaced 3 zAI (fun x=>(I64 x.1.1∧I64 x.1.2)∧I64 x.2) where
 size:=rfl
 pos:=by decide
 len:=fun _=>rfl
 one:=fun x v hv=>by simp [zAI] at hv;rcases hv with rfl | rfl | rfl<;>rfl
 own:=fun κ cs x=>by
  constructor
  ·rintro ⟨_,_,rfl,⟨_,_,rfl,⟨rfl,h1⟩,⟨rfl,h2⟩⟩,⟨rfl,h3⟩⟩;exact ⟨rfl,⟨h1,h2⟩,h3⟩
  ·rintro ⟨rfl,⟨h1,h2⟩,h3⟩;exact ⟨_,_,rfl,⟨_,_,rfl,⟨rfl,h1⟩,⟨rfl,h2⟩⟩,⟨rfl,h3⟩⟩
theorem zBJ:EncOk tPoint 2 zAH (fun x=>I64 x.1∧I64 x.2) where
 size:=rfl
 pos:=by decide
 len:=fun _=>rfl
 one:=fun x v hv=>by simp [zAH] at hv;rcases hv with rfl | rfl<;>rfl
 own:=fun κ cs x=>by
  constructor
  ·rintro ⟨_,_,rfl,⟨rfl,h1⟩,⟨rfl,h2⟩⟩;exact ⟨rfl,h1,h2⟩
  ·rintro ⟨rfl,h1,h2⟩;exact ⟨_,_,rfl,⟨rfl,h1⟩,⟨rfl,h2⟩⟩
theorem ltP (a b:PT):ltOf zbd a b=decide (a.1.2<b.1.2∨(a.1.2=b.1.2∧a.1.1<b.1.1)):=by
 unfold ltOf zbd;congr 1;apply propext
 repeat' split
 all_goals (constructor<;>intro h<;>omega)
theorem ltQ (a b:Int×Int):ltOf zed a b=decide (a.2<b.2∨(a.2=b.2∧a.1<b.1)):=by
 unfold ltOf zed;congr 1;apply propext
 repeat' split
 all_goals (constructor<;>intro h<;>omega)
theorem zz7:SWO (ltOf zbd) where
 irrefl x:=by rw [ltP];simp
 trans x y z h1 h2:=by rw [ltP] at *;simp only [decide_eq_true_eq] at *;omega
 ntrans x y z h1 h2:=by rw [ltP] at *;simp only [decide_eq_false_iff_not] at *;omega
theorem zsO:SWO (ltOf zed) where
 irrefl x:=by rw [ltQ];simp
 trans x y z h1 h2:=by rw [ltQ] at *;simp only [decide_eq_true_eq] at *;omega
 ntrans x y z h1 h2:=by rw [ltQ] at *;simp only [decide_eq_false_iff_not] at *;omega
theorem zrD {κ:K} {p0:Int} {p1:Int} {r:Int×Int} (hr:zhy p0 p1=some r) :
  Fn Tryz.prog 215 #[.int .u64 p0,.int .u64 p1] κ (fun v κ'=>κ=κ'∧v=.tuple #[.int .u64 r.1,.int .u64 r.2]):=by
 unfold zhy at hr;split at hr
 ·rename_i h;obtain rfl:=Option.some.inj hr;obtain ⟨x,rfl⟩:=az h.1;obtain ⟨y,rfl⟩:=az h.2.2.1;refine Fn.same (fun w=>Any.bits_Mul Tryz.lays212 x y (by omega) (by omega) w) ⟨rfl,?_⟩;simp
 ·cases hr
theorem zoi {κ:K} {p0:List Int} {a1:Option Addr} {c2:Nat} {τ0:Tag} (f3:Gr tI64 false τ0 κ 3 a1 c2 p0) {r:(List Int)} (hr:zh4 p0=some r) :
  Fn Tryz.prog 214 #[.slice a1 p0.length c2] κ (fun v κ'=>Step (blk a1 c2) κ κ'∧v=.tuple #[]∧Gr tI64 false τ0 κ' 3 a1 c2 r∧r.length=p0.length):=by
 have hr':p0.reverse=r:=Option.some.inj hr;subst hr';have hI:∀ x∈p0.reverse,I64 x:=by
  intro x hx;rcases f3.body with ⟨_,h1⟩ | ⟨g,cur,xs,ha,hrp,_⟩
  ·subst h1;cases hx
  ·exact (zrz hrp).2 x (by simpa using hx)
 refine Fn.row_int f3 (by simp) hI (fun w g ha hH=>?_) (fun h0 w=>?_)
 ·subst ha;exact Any.slices_Reverse_int Tryz.lays112 g 0 c2 p0 w hH (zqL f3.most)
 ·subst h0;exact Any.slices_Reverse_int_empty Tryz.lays112 a1 c2 w
theorem zyU (hc:∀ (inst:Fb) (κ:K) (x y:PT),@Fn inst Tryz.prog 251 #[.agg (zAI x).toArray,.agg (zAI y).toArray] κ (fun v κ'=>Step [] κ κ'∧v=.int .i64 (zbd x y)))
  {κ:K} {τ:Tag} {a:Option Addr} {c:Nat} {l:List PT} (hg:Gr tPlaced false τ κ 80 a c l) (hlen:l.length≤1048576) :
  Fn Tryz.prog 250 #[.slice a l.length c,.func (.func 251) #[] #[]] κ (fun v κ'=>Step (blk a c) κ κ'∧v=.tuple #[]∧Gr tPlaced false τ κ' 80 a c (pdq (ltOf zbd) l.toArray 0 l.length (Lib.bitLen l.length) true true).toList):=
 zvI Tryz.sort208 zBK (fun w=>zln (P:=Tryz.prog) (T:=80) (by kernel_rfl) w) (fun w=>zaX (P:=Tryz.prog) (T:=80) (by kernel_rfl) w) zz7 (enters_of Tryz.func251 (by kernel_rfl) rfl) hc hg (by omega)
theorem zyT (hc:∀ (inst:Fb) (κ:K) (x y:Int×Int),@Fn inst Tryz.prog 182 #[.agg (zAH x).toArray,.agg (zAH y).toArray] κ (fun v κ'=>Step [] κ κ'∧v=.int .i64 (zed x y)))
  {κ:K} {τ:Tag} {a:Option Addr} {c:Nat} {l:List (Int×Int)} (hg:Gr tPoint false τ κ 78 a c l) (hlen:l.length≤1048576) :
  Fn Tryz.prog 289 #[.slice a l.length c,.func (.func 182) #[] #[]] κ (fun v κ'=>Step (blk a c) κ κ'∧v=.tuple #[]∧Gr tPoint false τ κ' 78 a c (pdq (ltOf zed) l.toArray 0 l.length (Lib.bitLen l.length) true true).toList):=
 zvI Tryz.sort248 zBJ (fun w=>zln (P:=Tryz.prog) (T:=78) (by kernel_rfl) w) (fun w=>zaX (P:=Tryz.prog) (T:=78) (by kernel_rfl) w) zsO (enters_of Tryz.func182 (by kernel_rfl) rfl) hc hg (by omega)
end Go.Lf
namespace Go.Lf
open Go Go.Proofs
theorem bX:Builder.Extra Tryz.prog Tryz.lays156_ren:={
 sizeBuilder:=by kernel_rfl
 liesBuilder:=by kernel_rfl
 t5:=by kernel_rfl
 a5:=fun _=>by kernel_rfl
 z5:=fun _=>by kernel_rfl
 v5:=fun _=>by kernel_rfl
 infoByte:=by kernel_rfl
 cellsByte:=by kernel_rfl
 sizeByte:=by kernel_rfl
 neB5:=by decide}
def hsz (H:Array Obj) (b:Nat):Nat:=match H[b]? with | some (.cells c _ _)=>c.size | _=>0
theorem Fn.belowT (τ:Tag) {P:Program} {f:FuncId} {args:Array Value} {κ:K} {R:Value→K→Prop} (h:∀ C d,Calls P f args (W C κ d) fun e w'=>∃ v,e=.returned v∧Go.RowKit.Below κ.H.size (W C κ d) w'∧∀ κ',κ'.H=w'.heap→Step [] κ κ'→(∀ b,κ.H.size≤b→κ'.fr b=hsz w'.heap b∧κ'.tag b=τ)→R v κ'):Fn P f args κ R:=by
 intro C d;refine (h C d).mono ?_;rintro e w' ⟨v,he,hb,hR⟩;refine ⟨v,⟨w'.heap,fun b=>if b<κ.H.size then κ.fr b else hsz w'.heap b,fun b=>if b<κ.H.size then κ.tag b else τ⟩,w'.drawn,he,?_,hR _ rfl ?_ fun b hb=>⟨if_neg (by omega),if_neg (by omega)⟩⟩
 ·have h1:=hb.os;have h2:=hb.tape;have h3:=hb.output;cases w'
  simp only [W] at h1 h2 h3 ⊢;subst h1;subst h2;subst h3;have h0:C.base=0:=fx C.hb;rw [h0,gm]
 ·have hH:∀ b,b<κ.H.size→w'.heap[b]?=κ.H[b]?:=fun b hlt=>hb.block b hlt;refine ⟨hb.size,fun b hlt _=>⟨hH b hlt,if_pos hlt,if_pos hlt⟩,fun b hlt=>⟨Nat.le_of_eq (if_pos hlt).symm,fun o _=>?_⟩,fun b hlt _=>⟨if_pos hlt,?_⟩⟩
  ·unfold K.cell;rw [hH b hlt]
  ·unfold K.shp;rw [hH b hlt]
theorem Fn.below {P:Program} {f:FuncId} {args:Array Value} {κ:K} {R:Value→K→Prop} (h:∀ C d,Calls P f args (W C κ d) fun e w'=>∃ v,e=.returned v∧Go.RowKit.Below κ.H.size (W C κ d) w'∧∀ κ',κ'.H=w'.heap→Step [] κ κ'→R v κ'):Fn P f args κ R:=
 Fn.belowT (0,0) fun C d=>(h C d).mono fun _ _ ⟨v,h1,h2,h3⟩=>⟨v,h1,h2,fun κ' a b _=>h3 κ' a b⟩
theorem Glob.tab {κ:K} (G:Glob κ) (C:Cx) (d:Nat):Lib.TabIs Tryz.prog (W C κ d) "internal/strconv.uint64pow10" .u64 Lib.pow10Tab:=by
 have hg:Tryz.prog.globalNamed "internal/strconv.uint64pow10" = some 1:=by kernel_rfl
 obtain ⟨_,e,k,h4⟩:=G.psz;unfold Lib.TabIs World.var?;rw [hg];simp only [gq];unfold K.shp at h4;show (match κ.H[1]? with | some (.cells cs _ _)=>some cs | _=>none)=_;split at h4
 ·rename_i c T kk hH;rw [hH];injection h4 with h4
  injection h4 with _ h4
  injection h4 with h4 _
  show some c=_;congr 1;have hp:(Lib.pow10Tab.map fun z=>Value.int .u64 z)=pow10s.map (Value.int .u64):=by rfl
  rw [hp];apply Array.ext_getElem?;intro i;by_cases hi:i<(pow10s.map (Value.int .u64)).length
  ·have:=G.pow.2.2 i _ (cm hi);unfold K.cell at this;rw [hH] at this;simp only [gm] at this;rw [this,List.getElem?_toArray,cm hi]
  ·rw [Array.getElem?_eq_none (by rw [h4];rw [dv] at hi;omega),Array.getElem?_eq_none (by rw [fp];omega)]
 ·cases h4
theorem zot {κ:K} {p0:Int} {p1:Int} (hb1:I64 p0) (hb2:I64 p1) (G0:Glob κ) {r:(List UInt8)} (hr:ziq p0 p1=some r) :
  Fn Tryz.prog 80 #[.int .i64 p0,.int .i64 p1] κ (fun v κ'=>Step [] κ κ'∧v=zt r∧r.length≤9223372036854775807):=by
 unfold ziq at hr;split at hr
 ·rename_i h;subst h;obtain rfl:=Option.some.inj hr;refine Fn.below fun C d=>(Any.strconv_FormatInt_10 Tryz.laysM173 p0 hb1.1 hb1.2 (W C κ d) (G0.tab C d)).mono ?_;rintro e w' ⟨he,k,os,rfl⟩;refine ⟨_,he,⟨rfl,rfl,rfl,by show κ.H.size≤(κ.H++os).size;rw [Array.size_append];omega,fun b hb=>?_⟩,fun κ' _ s=>⟨s,rfl,?_⟩⟩
  ·show (κ.H++os)[b]?=κ.H[b]?;rw [Array.getElem?_append_left hb]
  ·have:=Lib.itoa_length_le p0 hb1.1 hb1.2;omega
 ·cases hr
theorem zsc {κ:K} {p0:List (List UInt8)} {a1:Option Addr} {c2:Nat} {p1:List UInt8} (f3:Sl tStr κ a1 c2 p0) (hb4:p1.length≤9223372036854775807) {r:(List UInt8)} (hr:strings_Join p0 p1=some r) :
  Fn Tryz.prog 46 #[.slice a1 p0.length c2,zt p1] κ (fun v κ'=>Step [] κ κ'∧v=zt r∧r.length≤9223372036854775807):=by
 unfold strings_Join at hr;split at hr
 ·rename_i h;obtain rfl:=Option.some.inj hr;by_cases h0:p0=[]
  ·subst h0;intro C d;refine (Any.strings_Join_none Tryz.lays156 bX a1 c2 ⟨p1.toArray⟩ (W C κ d)).mono fun e w' ⟨he,hw⟩=>⟨_,κ,d,he,hw,Step.refl _ _,?_,by omega⟩;cases p1<;>rfl
  ·obtain ⟨b,off,ha,hel⟩:=f3.elems (List.length_pos_iff.2 h0);subst ha;have hm:(p0.map fun s=>(⟨s.toArray⟩:ByteArray)).map (·.data.toList)=p0:=by
    rw [List.map_map];conv=>rhs;rw [←List.map_id p0]
    rfl
   have hcell:∀ C d,∀ (j:Nat) x,(p0.map fun s=>(⟨s.toArray⟩:ByteArray))[j]?=some x→(W C κ d).cell? ⟨b,off+j,none⟩=some (.string x):=by
    intro C d j x hj;rw [cq] at hj;obtain ⟨s,hs,rfl⟩:=gu.1 hj;obtain ⟨cs,hp,ho⟩:=hel j s hs;rw [zjT];obtain ⟨rfl,_⟩:=ho;have:=hp.at.one (o:=0) rfl;rw [Nat.add_zero] at this;have e1:off+j*tStr.size=off+j:=by show off+j*1=off+j;omega
    rw [e1] at this;exact this
   have hbk:b<κ.H.size:=by
    obtain ⟨cs,hp,_⟩:=hel 0 _ (cm (List.length_pos_iff.2 h0));exact hp.1
   refine Fn.below fun C d=>?_;have:=Any.strings_Join Tryz.lays156 bX b off c2 (p0.map fun s=>(⟨s.toArray⟩:ByteArray)) ⟨p1.toArray⟩ (W C κ d) (hcell C d) hbk (by rw [dv];exact h.1) (by rw [dv];exact f3.cap) (by rw [hm];exact h.2);rw [dv,hm] at this;refine this.mono ?_;rintro e w' ⟨he,hb⟩;refine ⟨_,he,hb,fun κ' _ s=>⟨s,rfl,by omega⟩⟩
 ·cases hr
section
variable {κ:K} {τ:Tag} {b:Nat} {l:List Int}
theorem zAR [Fb] {C:Cx} {κ:K} {d b:Nat} {p v x:Value} {T:TypeId} (h:κ.H[b]?=some (.cells #[p,v] T (0,0))):(W C κ d).setCell ⟨b,0,none⟩ x=W C (κ.setB b [x,v] T) d:=by
 unfold World.setCell W K.setB;simp only [];congr 1;apply Array.ext
 ·simp
 ·intro j h1 h2;have hj:j<κ.H.size:=by simpa using h1
  rw [Array.getElem_modify];by_cases hgj:b=j
  ·subst hgj;have:=(ae.1 h).2;simp [this]
  ·rw [if_neg hgj,Array.getElem_setIfInBounds_ne hj hgj]
theorem zyy {p v:Value} (B:Box τ κ b [p,v] 70) (hp:p=.pointer none∨p=.pointer (some ⟨b,0,none⟩)) :
  Fn Tryz.prog 45 #[.pointer (some ⟨b,0,none⟩)] κ (fun u κ'=>Step [b] κ κ'∧u=.tuple #[]∧Box τ κ' b [.pointer (some ⟨b,0,none⟩),v] 70):=by
 rcases hp with rfl | rfl
 ·intro C d;have h0:(W C κ d).cell? ⟨b,0,none⟩=some (.pointer none):=by rw [zjT];exact B.at.one (o:=0) rfl
  have hO:(W C κ d).heap[b]?=some (.cells #[.pointer none,v] 70 (0,0)):=B.obj;refine (Any.Builder_copyCheck_fresh {Tryz.lays156 with} bX.toX72 b (W C κ d) h0 (by simp [World.shape?,hO];rfl) (by simp [World.frozen?,hO])).mono fun e w' ⟨he,hw⟩=>⟨.tuple #[],κ.setB b [.pointer (some ⟨b,0,none⟩),v] 70,d,he,hw.trans (zAR B.obj),zlm B,rfl,zma B⟩
 ·intro C d;refine (Any.Builder_copyCheck_used {Tryz.lays156 with} bX.toX72 b (W C κ d) ?_).mono fun e w' ⟨he,hw⟩=>⟨.tuple #[],κ,d,he,hw,Step.refl _ _,rfl,B⟩;have:=B.at.one (o:=0) rfl;rw [zjT];exact this
theorem zw8 (D:Bld 70 5 τ κ b l):Fn Tryz.prog 23 #[.pointer (some ⟨b,0,none⟩)] κ (fun v κ'=>κ=κ'∧v=.int .i64 (l.length:Int)):=by
 obtain ⟨p,a,c,hp,B,g,hb,hz⟩:=D.ex;refine fnc 8 [] Tryz.func23 Tryz.ntmps23 fun hs=>?_;refine csr ?_;refine op 2 (.int .i64 0) ?_;refine otx ?_;refine op 3 (.pointer (some ⟨b,0,none⟩)) ?_;refine op 4 (.pointer (some ⟨b,0,none⟩)) ?_;refine op 5 (.pointer (some ⟨b,1,none⟩)) ?_;refine o1 6 68 (.slice a l.length c) (B.at.one (o:=1) rfl) ?_;refine op 7 (.int .i64 (l.length:Int)) ?_;refine op 2 (.int .i64 (l.length:Int)) ?_;refine ot ?_;refine crt ?_;exact rt [.tmp 2] [.int .i64 (l.length:Int)] ⟨rfl,trivial⟩ ⟨rfl,rfl⟩
theorem zU {s:List UInt8} {r:List Int} (D:Bld 70 5 τ κ b l) (hx:app 1 l (zB s)=some r) :
  Fn Tryz.prog 18 #[.pointer (some ⟨b,0,none⟩),zt s] κ (fun v κ'=>Step (tk τ κ) κ κ'∧v=.tuple #[.int .i64 (s.length:Int),.nilIface]∧Bld 70 5 τ κ' b r):=by
 obtain ⟨p,a,c,hp,B,g,hb,hz⟩:=D.ex;have hbt:b∈tk τ κ:=zoN.2 ⟨B.lt,B.tag,B.ge⟩;refine fnc 19 [] Tryz.func18 Tryz.ntmps18 fun hs0=>?_;refine csr ?_;refine op 4 (.int .i64 0) ?_;refine op 5 .nilIface ?_;refine otx ?_;refine op 6 (.pointer (some ⟨b,0,none⟩)) ?_;refine ocl 7 (zyy B hp) ?_;rintro _ κ1 ⟨s1,rfl,B1⟩;have g1:=g.step s1 (fun x hx1 hm=>hb (by rw [fg] at hm;rw [←hm];exact hx1));refine otx ?_;refine op 8 (.pointer (some ⟨b,0,none⟩)) ?_;refine op 9 (.pointer (some ⟨b,0,none⟩)) ?_;refine op 10 (.pointer (some ⟨b,0,none⟩)) ?_;refine op 11 (.pointer (some ⟨b,1,none⟩)) ?_;refine o1 12 68 (.slice a l.length c) (B1.at.one (o:=1) rfl) ?_;refine op 13 (zt s) ?_;refine zvW (d:=14) (T:=68) (T2:=9) (e:=5) (bytes:=1) (by kernel_rfl) (by kernel_rfl) g1 hz (Nat.le_of_lt B1.tlt) (by kernel_rfl) (by kernel_rfl) hx fun a' c' κ2 s2 g2 hw hz2=>?_;have hb2:b∉blk a c:=hb;have B2:=B1.step s2 hb2;refine op 15 (.pointer (some ⟨b,0,none⟩)) ?_;refine op 16 (.pointer (some ⟨b,1,none⟩)) ?_;refine zax (b:=b) (off:=1) (T:=68) (.slice a' r.length c') [.slice a' r.length c'] [.pointer (some ⟨b,0,none⟩),.slice a' r.length c'] (by kernel_rfl) (by kernel_rfl) B2 rfl (by kernel_rfl) (by kernel_rfl) (by kernel_rfl) rfl fun κ3 s3 _ B3=>?_;have hb':b∉blk a' c':=fun h=>(hw b h).elim hb (fun h'=>by have:=B1.lt;omega);have g3:=g2.step s3 (fun x hx1 hm=>hb' (by rw [fg] at hm;rw [←hm];exact hx1));refine otx ?_;refine op 17 (zt s) ?_;refine op 18 (.int .i64 (s.length:Int)) ?_;refine op 4 (.int .i64 (s.length:Int)) ?_;refine op 5 .nilIface ?_;refine ot ?_;refine crt ?_;refine rt [.tmp 4,.tmp 5] [.int .i64 (s.length:Int),.nilIface] ⟨rfl,rfl,trivial⟩ ?_;refine ⟨((s1.mono (fun x hm=>by rw [fg.1 hm];exact hbt)).trans (s2.mono fun x hm=>zoN.2 (g.lt x hm))).trans (s3.mono (fun x hm=>by rw [fg.1 hm];exact hbt)),rfl,⟨_,a',c',.inr rfl,B3,g3,hb',hz2⟩⟩
theorem ztH:∀ {l:List Int},(∀ x∈l,0≤x∧x≤255)→zB (zY l)=l
 | [],_=>rfl
 | x::l,h=>by
  have h1:=h x (by simp);have ih:=ztH (l:=l) (fun y hy=>h y (by simp [hy]));unfold zB zY at ih ⊢;rw [ek,ek,ih];congr 1;show ((x.toNat.toUInt8).toNat:Int)=x;have h3:(x.toNat.toUInt8).toNat=x.toNat % 256:=UInt8.toNat_ofNat';rw [h3];omega
theorem zy7 {κ:K}:∀ {l:List Int} {xs:List Value},Rep tU8 κ xs l→(∀ x∈l,0≤x∧x≤255)∧xs=l.map (Value.int .u8)
 | [],xs,h=>⟨by simp,h⟩
 | x::l,xs,⟨c,ys,e,ho,hr⟩=>by
  obtain ⟨h1,h2⟩:=zy7 hr;obtain ⟨rfl,h3⟩:=ho;refine ⟨fun y hy=>?_,by rw [e,h2];rfl⟩;rcases eu.1 hy with rfl | hy
  ·exact h3
  ·exact h1 y hy
theorem zuP {P:Program} {x:Sem Next} {y:Sem Value} {w w':World} {v:Value} (h:x=vOf y) (hr:y.run P w=.ok v w'):x.run P w=.ok (.value v) w':=by rw [h];exact zG hr
theorem zkc (D:Bld 70 5 τ κ b l):Fn Tryz.prog 24 #[.pointer (some ⟨b,0,none⟩)] κ (fun v κ'=>Step (tk τ κ) κ κ'∧v=zt (zY l)∧(zY l).length≤9223372036854775807):=by
 obtain ⟨p,a,c,hp,B,g,hb,hz⟩:=D.ex;have hlen:(zY l).length=l.length:=by simp [zY]
 have hmx:(zY l).length≤9223372036854775807:=by rw [hlen];exact D.most
 refine fnc 14 [] Tryz.func24 Tryz.ntmps24 fun hs=>?_;refine csr ?_;refine op 2 (zt []) ?_;refine ot ?_;refine cs ?_;refine cd 10 ?_;refine dp 3 (.pointer (some ⟨b,0,none⟩)) ?_;refine dp 4 (.pointer (some ⟨b,0,none⟩)) ?_;refine dp 5 (.pointer (some ⟨b,1,none⟩)) ?_;refine d1 6 68 (.slice a l.length c) (B.at.one (o:=1) rfl) ?_;obtain ⟨q,hq,hqa⟩:∃ q:Option Addr,q=a∧∀ w,(Builtin.unsafeSliceData_ #[68] 113 #[.slice a l.length c]).run Tryz.prog w=.ok (.pointer q) w:=by
  refine ⟨a,rfl,fun w=>?_⟩;rcases hz with rfl | hc
  ·rfl
  ·cases a with
   | none=>rfl
   | some x=>exact Lib.run_unsafeSliceData_row w _ _ _ _ _ (by omega)
 refine dq 7 (.pointer q) (fun w=>zuP (by kernel_rfl) (hqa w)) ?_;refine dp 8 (.pointer (some ⟨b,0,none⟩)) ?_;refine dp 9 (.pointer (some ⟨b,0,none⟩)) ?_;refine dp 10 (.pointer (some ⟨b,1,none⟩)) ?_;refine d1 11 68 (.slice a l.length c) (B.at.one (o:=1) rfl) ?_;refine dp 12 (.int .i64 (l.length:Int)) ?_;refine de ?_;refine zgT (fun v κ'=>v=zt (zY l)∧Step (tk τ κ) κ κ') (d:=13) (by kernel_rfl) (fun C d0=>?_) (fun v κ' hv=>?_)
 ·subst hq;rcases g.body with ⟨_,hl⟩ | ⟨x,cur,xs,ha,hr,hH,h1,h2,h3,h4,h5,h6,h7⟩
  ·subst hl;exact ⟨_,κ,d0,zuP (by kernel_rfl) (Lib.run_unsafeString_none (P:=Tryz.prog) (W C κ d0) 113 3 9 q),rfl,Step.refl _ _⟩
  ·by_cases hl:l=[]
   ·subst hl;exact ⟨_,κ,d0,zuP (by kernel_rfl) (Lib.run_unsafeString_none (P:=Tryz.prog) (W C κ d0) 113 3 9 q),rfl,Step.refl _ _⟩
   ·obtain ⟨hb8,hxs⟩:=zy7 hr;have hne:zY l≠[]:=by intro h;exact hl (bj (by rw [←hlen,h];rfl))
    have hl0:l.length≠0:=fun h=>hl (bj h);have hx:x∈tk τ κ:=zoN.2 (g.lt x (by rw [ha];exact zmb (a:=⟨x,0,none⟩) (by have:=List.length_pos_iff.2 hl;omega)));refine ⟨zt (zY l),κ.frz x l.length cur 5,d0,?_,rfl,(zyQ hH (by rw [h5];rfl)).mono fun y hy=>by rw [fg.1 hy];exact hx⟩;have hrun:=Lib.run_unsafeString_row (P:=Tryz.prog) (W C κ d0) 113 3 9 5 (by kernel_rfl) (by kernel_rfl) x cur.size (by
      have:(W C κ d0).heap[x]?=some (.cells cur 5 (0,0)):=hH;simp [World.shape?,this]) (zY l) hne (by rw [hlen,h3];show l.length≤c*1;omega) hmx (fun j y hj=>by
      rw [zgC,zjT];unfold K.cell;rw [hH];simp only [gm];have hback:=ztH hb8;have hj2:l[j]?=some (y.toNat:Int):=by
       rw [←hback];unfold zB;rw [cq,hj];rfl
      have hjl:j<l.length:=(co.1 hj2).1;have:xs[j]?=some (Value.int .u8 (y.toNat:Int)):=by rw [hxs,cq,hj2];rfl
      rw [←h4,dh,if_pos (by show j<l.length*1;omega)] at this;rw [←aj];exact this)
    rw [hlen,zCb hH hl0] at hrun;subst ha;exact zuP (by kernel_rfl) hrun
 ·obtain ⟨rfl,s1⟩:=hv;refine op 2 (zt (zY l)) ?_;refine ot ?_;refine crt ?_;exact rt [.tmp 2] [zt (zY l)] ⟨rfl,trivial⟩ ⟨s1,rfl,hmx⟩
end
end Go.Lf
