import Derived.Test.YtinhknndegdcfaaGreatDoorB
import Derived.Lib.Bytealg
import Derived.Lib.Join
import Derived.Sort.Defs
import Derived.Lib.ParseIntB
import Derived.Lib.ItoaNum
import Derived.Lib.BitFns
import Derived.Test.YtinhknndegdcfaaGreatDoorProg
import Derived.Shelf.LaysM
import Derived.Shelf.Lays
import Derived.Shelf.Bits.Mul64
import Derived.Shelf.Slices.Reverse
import Derived.Ground.NamesProg
import Derived.Shelf.SlSortCmp.WholeK
import Derived.Shelf.SlGeneric
import Derived.Ground.SlsfProg
import Derived.Shelf.Strconv.Itoa4
import Derived.Lib.ItoaLen
import Derived.KernelRfl
import Derived.Lib.Overlaps
set_option linter.all false
set_option maxRecDepth 100000
set_option maxHeartbeats 4000000
set_option maxHeartbeats 1000000
namespace Go.Lf
open Go
noncomputable section
abbrev Plc:=(Int×Int)×Int
def zyg (l:List Plc) (ix:Int) (x:Plc):Option (List Plc):=if 0≤ix∧ix≤l.length∧l.length≤100000 then some (l.take ix.toNat++[x]++l.drop ix.toNat) else none
def zfX (a:List (Int×(Int×Int)×Int)) (b:Int):Option (Int×(List (Int×(Int×Int)×Int))):=
 some (b,a)
def zbU  (a:(List (Int×(Int×Int)×Int))×Int×Int):Option (((List (Int×(Int×Int)×Int))×Int×Int) ⊕ ((List (Int×(Int×Int)×Int))×Int)):=
 if decide (a.2.2<(a.1.length:Int)) then ((idx a.1 a.2.2).bind fun h=>(some (a.1.set a.2.2.toNat (a.2.1,h.2))).bind fun d=>(idx d a.2.2).bind fun b=>(some (d.set a.2.2.toNat (b.1,((w64 (a.2.1+1),b.2.1.2),b.2.2)))).bind fun e=>(idx e a.2.2).bind fun c=>(some (e.set a.2.2.toNat (c.1,((c.2.1.1,w64 ((w64 (a.2.1+1))+1)),c.2.2)))).bind fun f=>(idx f a.2.2).bind fun g=>(some (f.set a.2.2.toNat (g.1,(g.2.1,w64 ((w64 ((w64 (a.2.1+1))+1))+1))))).bind fun j=>some (.inl (j,w64 ((w64 ((w64 ((w64 (a.2.1+1))+1))+1))+1),w64 (a.2.2+1)))) else (some (.inr (a.1,a.2.1)))
def zfC (p0:List (Int×(Int×Int)×Int)) (p1:Int):Option (Int×(List (Int×(Int×Int)×Int))):=
 (iter (zbU) (p0,p1,0)).bind fun a=>zfX a.1 a.2
def zkD (p0:LP) (p1:Int):Option (Int):=
 if decide ((w64 (p1 - (p0.length:Int)))<0) then (some (-1)) else (some (w64 (p1 - (p0.length:Int))))
def zdc (p0:LP) (p1:Int):Option (Int):=
 (zkD p0 p1).bind fun a=>if decide (a<0) then (some (-1)) else (some a)
def zlj (p0:BS×Int) (p1:Int):Option (Int):=
 if decide ((w64 (p1 - (p0.1.length:Int)))<0) then (some (-1)) else (some (w64 (p1 - (p0.1.length:Int))))
def zjO (a:Int):Option (Int):=
 some a
def zhj (p0:LG) (a:Int×Int):Option ((Int×Int) ⊕ (Int ⊕ Int)):=
 if decide (a.2<(p0.length:Int)) then ((idx p0 a.2).bind fun c=>(zlj c a.1).bind fun b=>if decide (b<0) then (some (.inr (.inr (-1)))) else (some (.inl (b,w64 (a.2+1))))) else (some (.inr (.inl a.1)))
def zmv (p0:LG) (p1:Int):Option (Int):=
 if decide ((w64 (p1 - (p0.length:Int)))<0) then (some (-1)) else ((iter (zhj p0) (w64 (p1 - (p0.length:Int)),0)).bind fun a=>match a with | .inl z=>zjO z | .inr z=>some z)
def zjk (p0:LI) (p1:Int):Option (Int):=
 if decide ((w64 (p1 - (p0.length:Int)))<0) then (some (-1)) else (some (w64 (p1 - (p0.length:Int))))
def zli (p0:BS×LI) (p1:Int):Option (Int):=
 if decide ((w64 (p1 - (p0.1.length:Int)))<0) then (some (-1)) else ((zjk p0.2 (w64 (p1 - (p0.1.length:Int)))).bind fun a=>if decide (a<0) then (some (-1)) else (some a))
def zjN (a:Int):Option (Int):=
 some a
def zhi (p0:LT) (a:Int×Int):Option ((Int×Int) ⊕ (Int ⊕ Int)):=
 if decide (a.2<(p0.length:Int)) then ((idx p0 a.2).bind fun c=>(zli c a.1).bind fun b=>if decide (b<0) then (some (.inr (.inr (-1)))) else (some (.inl (b,w64 (a.2+1))))) else (some (.inr (.inl a.1)))
def zmu (p0:LT) (p1:Int):Option (Int):=
 if decide ((w64 (p1 - (p0.length:Int)))<0) then (some (-1)) else ((iter (zhi p0) (w64 (p1 - (p0.length:Int)),0)).bind fun a=>match a with | .inl z=>zjN z | .inr z=>some z)
def zkC (p0:LG×LT) (p1:Int):Option (Int):=
 (zmv p0.1 p1).bind fun a=>if decide (a<0) then (some (-1)) else ((zmu p0.2 a).bind fun b=>if decide (b<0) then (some (-1)) else (some b))
def zg5 (p0:TS×(LP)×Int) (p1:Int):Option (Int):=
 (zkC p0.1 p1).bind fun a=>if decide (a<0) then (some (-1)) else ((zdc p0.2.1 a).bind fun b=>if decide (b<0) then (some (-1)) else (some b))
def zfW (p0:List (Int×(Int×Int)×Int)) (p1:Int):Option (Int):=
 if decide ((w64 (p1 - (p0.length:Int)))<0) then (some (-1)) else (some (w64 (p1 - (p0.length:Int))))
def zbv (p0:Int) (p1:Int) (p2:Int):Option (Bool):=
 if decide (p0≥p1) then (some (decide (p0≤p2))) else (some false)
def zfO (p0:Int):Option (Bool):=
 if decide (p0≥97) then (if decide (p0≤122) then (some true) else (if decide (p0≥65) then (some (decide (p0≤90))) else (some false))) else (if decide (p0≥65) then (some (decide (p0≤90))) else (some false))
def zjg (p0:Int):Option (Bool):=
 if decide (p0≥48) then (some (decide (p0≤57))) else (some false)
def znc  : Option (Bool):=
 some true
def zen (a:Int) (b:Bool):Option (Int ⊕ (Unit ⊕ Bool)):=
 if b then (some (.inr (.inr false))) else (some (.inl (w64 (a+1))))
def zbT (p0:BS) (a:Int):Option (Int ⊕ (Unit ⊕ Bool)):=
 if decide (a<(p0.length:Int)) then ((idx p0 a).bind fun e=>(zfO (e.toNat:Int)).bind fun f=>if !f then ((idx p0 a).bind fun b=>(zjg (b.toNat:Int)).bind fun c=>if !c then ((idx p0 a).bind fun d=>zen a (!decide ((d.toNat:Int)=95))) else (zen a false)) else (zen a false)) else (some (.inr (.inl ())))
def zfR (p0:BS) (a:Bool):Option (Bool):=
 if a then (some false) else ((iter (zbT p0) 1).bind fun b=>match b with | .inl z=>znc | .inr z=>some z)
def zhK (p0:BS):Option (Bool):=
 if decide ((p0.length:Int)<1) then (zfR p0 true) else (if decide ((p0.length:Int)>12) then (zfR p0 true) else ((idx p0 0).bind fun a=>(zfO (a.toNat:Int)).bind fun b=>zfR p0 (!b)))
def zjL  : Option (Int):=
 some 0
def zhh (p0:LG×LT) (p1:BS) (a:Int):Option (Int ⊕ (Unit ⊕ Int)):=
 if decide (a<(p0.1.length:Int)) then ((idx p0.1 a).bind fun b=>if decide (b.1=p1) then (some (.inr (.inr (w64 (a+1))))) else (some (.inl (w64 (a+1))))) else (some (.inr (.inl ())))
def zgo (p0:LG×LT) (p1:BS):Option (Int):=
 (iter (zhh p0 p1) 0).bind fun a=>match a with | .inl z=>zjL | .inr z=>some z
def zjK  : Option (Int):=
 some (-1)
def zjJ (p0:LG×LT) (p1:BS) (a:Int):Option (Int ⊕ (Unit ⊕ Int)):=
 if decide (a<(p0.2.length:Int)) then ((idx p0.2 a).bind fun b=>if decide (b.1=p1) then (some (.inr (.inr a))) else (some (.inl (w64 (a+1))))) else (some (.inr (.inl ())))
def zgn (p0:LG×LT) (p1:BS):Option (Int):=
 (iter (zjJ p0 p1) 0).bind fun a=>match a with | .inl z=>zjK | .inr z=>some z
def zlx  : Option (Bool):=
 some true
def zjf (a:Int):Option (Int ⊕ (Unit ⊕ Bool)):=
 some (.inl (w64 (a+1)))
def zfg (p0:LG×LT) (b:BS×LI) (a:Int):Option (Int ⊕ (Unit ⊕ (Int ⊕ (Unit ⊕ Bool)))):=
 if decide (a<4) then ((idx b.2 a).bind fun c=>(zbv c 0 (p0.1.length:Int)).bind fun d=>if !d then (some (.inr (.inr (.inr (.inr false))))) else (some (.inl (w64 (a+1))))) else (some (.inr (.inl ())))
def zfi (p0:LG×LT) (a:Int) (b:BS×LI) (c:Bool):Option (Int ⊕ (Unit ⊕ Bool)):=
 if c then (some (.inr (.inr false))) else ((iter (zfg p0 b) 0).bind fun d=>match d with | .inl z=>zjf a | .inr z=>some z)
def zcw (p0:LG×LT) (a:Int):Option (Int ⊕ (Unit ⊕ Bool)):=
 if decide (a<(p0.2.length:Int)) then ((idx p0.2 a).bind fun b=>(zhK b.1).bind fun c=>if !c then (zfi p0 a b true) else (if !decide ((b.2.length:Int)=4) then (zfi p0 a b true) else ((zgn p0 b.1).bind fun d=>zfi p0 a b (!decide (d=a))))) else (some (.inr (.inl ())))
def zly (p0:LG×LT):Option (Bool):=
 (iter (zcw p0) 0).bind fun a=>match a with | .inl z=>zlx | .inr z=>some z
def zfh (a:Int) (b:Bool):Option (Int ⊕ (Unit ⊕ Bool)):=
 if b then (some (.inr (.inr false))) else (some (.inl (w64 (a+1))))
def zcx (p0:LG×LT) (a:Int):Option (Int ⊕ (Unit ⊕ Bool)):=
 if decide (a<(p0.1.length:Int)) then ((idx p0.1 a).bind fun b=>(zhK b.1).bind fun c=>if !c then (zfh a true) else ((zbv b.2 1 4).bind fun d=>if !d then (zfh a true) else ((zgo p0 b.1).bind fun e=>zfh a (!decide (e=(w64 (a+1))))))) else (some (.inr (.inl ())))
def zg1 (p0:LG×LT) (b:Bool):Option (Bool):=
 if b then (some false) else ((iter (zcx p0) 0).bind fun a=>match a with | .inl z=>zly p0 | .inr z=>some z)
def zkt (p0:LG×LT):Option (Bool):=
 if decide ((p0.1.length:Int)>200) then (zg1 p0 true) else (if decide ((p0.2.length:Int)<1) then (zg1 p0 true) else (zg1 p0 (decide ((p0.2.length:Int)>160))))
def zdP (p0:Int×Int):Option (Bool):=
 (zbv p0.1 (-60) 60).bind fun a=>if a then ((zbv p0.2 (-60) 60).bind fun b=>some b) else (some false)
def zcS (p0:Int×Int) (p1:Int×Int):Option (Bool):=
 if decide (p0.2<p1.2) then (some true) else (if decide (p0.2=p1.2) then (some (decide (p0.1<p1.1))) else (some false))
def zjI  : Option (Bool):=
 some true
def zcb (a:Int) (b:Bool):Option (Int ⊕ (Unit ⊕ Bool)):=
 if b then (some (.inr (.inr false))) else (some (.inl (w64 (a+1))))
def zbj (p0:LP) (a:Int):Option (Int ⊕ (Unit ⊕ Bool)):=
 if decide (a<(p0.length:Int)) then ((idx p0 a).bind fun b=>(zdP b.1).bind fun c=>if !c then (zcb a true) else ((zbv b.2 0 159).bind fun d=>if !d then (zcb a true) else (if decide (a>0) then ((idx p0 (w64 (a - 1))).bind fun e=>(zcS e.1 b.1).bind fun f=>zcb a (!f)) else (zcb a false)))) else (some (.inr (.inl ())))
def zid (p0:LP):Option (Bool):=
 if decide ((p0.length:Int)>500) then (some false) else ((iter (zbj p0) 0).bind fun a=>match a with | .inl z=>zjI | .inr z=>some z)
def zfj (p0:LG×LT) (p1:Int):Option (Bool):=
 (zbv p1 0 (w64 ((p0.2.length:Int) - 1))).bind fun a=>some a
def zlw  : Option (Bool):=
 some true
def zcv (p0:LG×LT) (p1:LP) (a:Int):Option (Int ⊕ (Unit ⊕ Bool)):=
 if decide (a<(p1.length:Int)) then ((idx p1 a).bind fun b=>(zfj p0 b.2).bind fun c=>if !c then (some (.inr (.inr false))) else (some (.inl (w64 (a+1))))) else (some (.inr (.inl ())))
def zmk (p0:LG×LT) (p1:LP):Option (Bool):=
 (zid p1).bind fun a=>if !a then (some false) else ((iter (zcv p0 p1) 0).bind fun b=>match b with | .inl z=>zlw | .inr z=>some z)
def zd2 (p0:Int):Option (Bool):=
 (zbv p0 1 16).bind fun a=>some a
def zfP (p0:Int) (p1:Int):Option (Int):=
 if decide (p0<p1) then (some p0) else (some p1)
def zfQ (p0:Int) (p1:Int):Option (Int):=
 if decide (p0>p1) then (some p0) else (some p1)
def zh9 (a:LM):Option (LM):=
 some a
def zdu (a:LM×Int) (b:LM):Option ((LM×Int) ⊕ (LM)):=
 some (.inl (b,w64 (a.2+1)))
def zh8 (a:LM×Int) (b:LI):Option ((LM×Int) ⊕ (LM)):=
 (app 24 a.1 [b]).bind fun c=>zdu a c
def zfy (a:LI×Int) (b:LI):Option ((LI×Int) ⊕ (LI)):=
 some (.inl (b,w64 (a.2+1)))
def zdq (p0:Int) (d:LI) (b:LM×Int) (a:LI×Int):Option ((LI×Int) ⊕ (LI)):=
 if decide (a.2<p0) then ((idx d a.2).bind fun e=>if decide (e=b.2) then ((app 8 a.1 [a.2]).bind fun c=>zfy a c) else (zfy a a.1)) else (some (.inr a.1))
def zdr (p0:Int) (b:LI) (a:LM×Int):Option ((LM×Int) ⊕ (LM)):=
 if decide (a.2<p0) then ((idx b a.2).bind fun c=>if !decide (c=a.2) then (zdu a a.1) else ((iter (zdq p0 b a) ([],a.2)).bind fun d=>zh8 a d)) else (some (.inr a.1))
def zia (p0:Int) (a:LI):Option (LM):=
 (iter (zdr p0 a) ([],0)).bind fun b=>zh9 b
def zh7 (a:LI×Int) (b:LI):Option ((LI×Int) ⊕ (LI)):=
 some (.inl (b,w64 (a.2+1)))
def zfx (a:LI×Int) (b:LI):Option ((LI×Int) ⊕ (LI)):=
 some (.inl (b,w64 (a.2+1)))
def zdp (b:Int) (c:Int) (a:LI×Int):Option ((LI×Int) ⊕ (LI)):=
 if decide (a.2<(a.1.length:Int)) then ((idx a.1 a.2).bind fun d=>(zfQ b c).bind fun e=>if decide (d=e) then ((zfP b c).bind fun f=>(idx a.1 a.2).bind fun h=>(some (a.1.set a.2.toNat f)).bind fun g=>zfx a g) else (zfx a a.1)) else (some (.inr a.1))
def zds (p1:LB) (a:LI×Int):Option ((LI×Int) ⊕ (LI)):=
 if decide (a.2<(p1.length:Int)) then ((idx p1 a.2).bind fun b=>(idx a.1 b.1).bind fun c=>(idx p1 a.2).bind fun _=>(idx a.1 b.2.1).bind fun d=>(iter (zdp c d) (a.1,0)).bind fun e=>zh7 a e) else (some (.inr a.1))
def zib (p0:Int) (p1:LB) (b:LI):Option (LM):=
 (iter (zds p1) (b,0)).bind fun a=>zia p0 a
def zdt (p0:Int) (a:LI×Int):Option ((LI×Int) ⊕ (LI)):=
 if decide (a.2<p0) then ((app 8 a.1 [a.2]).bind fun b=>some (.inl (b,w64 (a.2+1)))) else (some (.inr a.1))
def zic (p0:Int) (p1:LB):Option (LM):=
 (iter (zdt p0) ([],0)).bind fun a=>zib p0 p1 a
def zh2 (a:LM) (b:LB):Option (Int×LB):=
 some ((a.length:Int),b)
def zfv (a:LB×Int) (b:LB):Option ((LB×Int) ⊕ (LB)):=
 some (.inl (b,w64 (a.2+1)))
def zdm (p1:LB) (e:LI) (a:LB×Int):Option ((LB×Int) ⊕ (LB)):=
 if decide (a.2<(p1.length:Int)) then ((idx p1 a.2).bind fun b=>(idx e b.1).bind fun c=>(idx p1 a.2).bind fun _=>(idx e b.2.1).bind fun d=>if !decide (c=d) then ((idx p1 a.2).bind fun _=>(zfP c d).bind fun g=>(zfQ c d).bind fun h=>(app 24 a.1 [(g,(h,b.2.2))]).bind fun f=>zfv a f) else (zfv a a.1)) else (some (.inr a.1))
def zh3 (p1:LB) (a:LM) (b:LI):Option (Int×LB):=
 (iter (zdm p1 b) ([],0)).bind fun c=>zh2 a c
def zk8 (a:LI×Int) (b:LI):Option ((LI×Int) ⊕ (LI)):=
 some (.inl (b,w64 (a.2+1)))
def zb2 (e:LM) (b:LI×Int) (a:LI×Int):Option ((LI×Int) ⊕ (LI)):=
 (idx e b.2).bind fun c=>if decide (a.2<(c.length:Int)) then ((idx e b.2).bind fun _=>(idx c a.2).bind fun d=>(idx a.1 d).bind fun g=>(some (a.1.set d.toNat b.2)).bind fun f=>some (.inl (f,w64 (a.2+1)))) else (some (.inr a.1))
def zft (b:LM) (a:LI×Int):Option ((LI×Int) ⊕ (LI)):=
 if decide (a.2<(b.length:Int)) then ((iter (zb2 b a) (a.1,0)).bind fun c=>zk8 a c) else (some (.inr a.1))
def zh4 (p0:Int) (p1:LB) (c:LB):Option (Int×LB):=
 (zic p0 c).bind fun a=>(mkl 8 p0 0).bind fun d=>(iter (zft a) (d,0)).bind fun b=>zh3 p1 a b
def zfu (a:LB×Int) (b:LB):Option ((LB×Int) ⊕ (LB)):=
 some (.inl (b,w64 (a.2+1)))
def zdn (p1:LB) (p2:Int) (a:LB×Int):Option ((LB×Int) ⊕ (LB)):=
 if decide (a.2<(p1.length:Int)) then ((idx p1 a.2).bind fun b=>if decide (b.2.2≥p2) then ((idx p1 a.2).bind fun _=>(app 24 a.1 [b]).bind fun c=>zfu a c) else (zfu a a.1)) else (some (.inr a.1))
def zh5 (p0:Int) (p1:LB) (p2:Int):Option (Int×LB):=
 (iter (zdn p1 p2) ([],0)).bind fun a=>zh4 p0 p1 a
def zgm (a:Int) (b:Bool):Option (Int):=
 if b then (some a) else (some (-1))
def ziT (p0:LP) (p1:Int×Int) (a:Int):Option (Int):=
 if decide (a<(p0.length:Int)) then ((idx p0 a).bind fun b=>zgm a (decide (b.1.1=p1.1)&&decide (b.1.2=p1.2))) else (zgm a false)
def zem (p0:LP) (p1:Int×Int) (a:Int×Int):Option ((Int×Int) ⊕ Int):=
 if decide (a.1<a.2) then ((idx p0 (w64 (Int.tdiv (w64 (a.1+a.2)) 2))).bind fun b=>(zcS b.1 p1).bind fun c=>if c then (some (.inl (w64 ((w64 (Int.tdiv (w64 (a.1+a.2)) 2))+1),a.2))) else (some (.inl (a.1,w64 (Int.tdiv (w64 (a.1+a.2)) 2))))) else (some (.inr a.1))
def zay (p0:LP) (p1:Int×Int):Option (Int):=
 (iter (zem p0 p1) (0,(p0.length:Int))).bind fun a=>ziT p0 p1 a
def zV (a:Int) (b:Int):Option ((Int×Int)):=
 some (a,b)
def za1 (p0:Int×Int) (p1:Int):Option ((Int×Int)):=
 if decide (p1=0) then (zV p0.1 (w64 (p0.2+1))) else (if decide (p1=1) then (zV (w64 (p0.1+1)) p0.2) else (if decide (p1=2) then (zV p0.1 (w64 (p0.2 - 1))) else (if decide (p1=3) then (zV (w64 (p0.1 - 1)) p0.2) else (zV p0.1 p0.2))))
def zgl (p0:LP) (p1:Int) (p2:Int):Option (Int):=
 (idx p0 p1).bind fun c=>(za1 c.1 p2).bind fun a=>(zay p0 a).bind fun b=>some b
def zqj (p0:Int):Option (Bool):=
 (zbv p0 0 3).bind fun a=>some a
def zjh (p0:Int):Option (Int):=
 (zqj p0).bind fun a=>if !a then (some (-1)) else (some (Int.tmod (w64 (p0+2)) 4))
def zbu (p0:LG×LT) (p1:Int):Option (Int):=
 if decide (p1=0) then (some 0) else ((idx p0.1 (w64 (p1 - 1))).bind fun a=>some a.2)
def zeM (p0:LG×LT) (p1:Int) (p2:Int) (p3:Int):Option (Int):=
 (idx p0.2 p1).bind fun b=>(idx b.2 p2).bind fun a=>(idx p0.2 p3).bind fun c=>(zjh p2).bind fun d=>(idx c.2 d).bind fun e=>if !decide (a=e) then (some 0) else ((zbu p0 a).bind fun f=>some f)
def ziS (a:LB):Option (LB):=
 some a
def ziR (a:LB×Int) (b:LB):Option ((LB×Int) ⊕ (LB)):=
 some (.inl (b,w64 (a.2+1)))
def zcH (a:LB×Int) (b:LB):Option ((LB×Int) ⊕ (LB)):=
 some (.inl (b,w64 (a.2 - 1)))
def zbs (p0:LG×LT) (p1:LP) (b:LB×Int) (a:LB×Int):Option ((LB×Int) ⊕ (LB)):=
 if decide (a.2≥0) then ((zgl p1 b.2 a.2).bind fun c=>if decide (c<0) then (zcH a a.1) else ((idx p1 b.2).bind fun e=>(idx p1 c).bind fun f=>(zeM p0 e.2 a.2 f.2).bind fun d=>if decide (d>0) then ((app 24 a.1 [(b.2,(c,d))]).bind fun g=>zcH a g) else (zcH a a.1))) else (some (.inr a.1))
def zbt (p0:LG×LT) (p1:LP) (a:LB×Int):Option ((LB×Int) ⊕ (LB)):=
 if decide (a.2<(p1.length:Int)) then ((iter (zbs p0 p1 a) (a.1,1)).bind fun b=>ziR a b) else (some (.inr a.1))
def zg0 (p0:LG×LT) (p1:LP):Option (LB):=
 (iter (zbt p0 p1) ([],0)).bind fun a=>ziS a
def zm5 (p0:Int) (p1:LB) (a:LI) (b:LM):Option ((Int×LB×LM×LI)):=
 some (p0,(p1,(b,a)))
def zcQ (p1:LB) (a:Int×LM):Option ((Int×LM) ⊕ (LM)):=
 if decide (a.1<(p1.length:Int)) then ((idx p1 a.1).bind fun b=>(idx p1 a.1).bind fun _=>(idx a.2 b.1).bind fun f=>(app 8 f [a.1]).bind fun g=>(some (a.2.set b.1.toNat g)).bind fun c=>(idx p1 a.1).bind fun _=>(idx p1 a.1).bind fun _=>(idx c b.2.1).bind fun h=>(app 8 h [a.1]).bind fun d=>(some (c.set b.2.1.toNat d)).bind fun e=>some (.inl (w64 (a.1+1),e))) else (some (.inr a.2))
def zk9 (p0:Int) (p1:LB):Option ((Int×LB×LM×LI)):=
 (mkl 24 p0 ([]:LI)).bind fun a=>(mkl 8 (p1.length:Int) 0).bind fun b=>(iter (zcQ p1) (0,a)).bind fun c=>zm5 p0 p1 b c
def zeh (p0:Int×LB×LM×LI) (p1:Int) (p2:Int):Option (Int×Int×(Int×LB×LM×LI)):=
 (idx p0.2.1 p2).bind fun a=>if decide (a.1=p1) then ((idx p0.2.2.2 p2).bind fun b=>some (w64 (a.2.2 - b),a.2.1,p0)) else ((idx p0.2.2.2 p2).bind fun c=>some (w64 (a.2.2+c),a.1,p0))
def zfK (p0:Int×LB×LM×LI) (a:LI) (b:LI):Option (LI×(Int×LB×LM×LI)):=
 some (a,(p0.1,(p0.2.1,(p0.2.2.1,b))))
def zjy (a:LI×LI×Int×LI) (b:LI) (c:LI) (d:LI):Option ((LI×LI×Int×LI) ⊕ (LI×LI)):=
 some (.inl (b,c,w64 (a.2.2.1+1),d))
def zbS (a:LI×LI×Int×LI) (b:LI) (c:LI) (d:LI):Option ((LI×LI×Int×LI) ⊕ (LI×LI×LI)):=
 some (.inl (b,c,w64 (a.2.2.1+1),d))
def zaM (d:Int) (a:LI×LI×Int×LI) (b:Int×Int×Int) (c:Int×Int×Int) (e:Int×Int×(Int×LB×LM×LI)) (f:Bool):Option ((LI×LI×Int×LI) ⊕ (LI×LI×LI)):=
 if f then ((idx a.1 d).bind fun g=>(idx a.1 (w64 ((w64 (b.1+c.2.1)) - d))).bind fun k=>(some (a.1.set (w64 ((w64 (b.1+c.2.1)) - d)).toNat (w64 (g+1)))).bind fun h=>(app 8 a.2.1 [w64 ((w64 (b.1+c.2.1)) - d)]).bind fun j=>zbS a h j e.2.2.2.2.2) else (zbS a a.1 a.2.1 e.2.2.2.2.2)
def zbP (p0:Int×LB×LM×LI) (b:Int) (a:LI×LI×Int×LI):Option ((LI×LI×Int×LI) ⊕ (LI×LI×LI)):=
 (idx p0.2.2.1 b).bind fun g=>if decide (a.2.2.1<(g.length:Int)) then ((idx p0.2.2.1 b).bind fun _=>(idx g a.2.2.1).bind fun e=>(idx p0.2.1 e).bind fun c=>(idx p0.2.1 e).bind fun d=>(zeh (p0.1,(p0.2.1,(p0.2.2.1,a.2.2.2))) (w64 ((w64 (c.1+d.2.1)) - b)) e).bind fun f=>(idx a.1 (w64 ((w64 (c.1+d.2.1)) - b))).bind fun h=>if decide (h<0) then (zaM b a c d f (decide (f.1>0))) else (zaM b a c d f false)) else (some (.inr (a.1,a.2.1,a.2.2.2)))
def zbQ (p0:Int×LB×LM×LI) (a:LI×LI×Int×LI):Option ((LI×LI×Int×LI) ⊕ (LI×LI)):=
 if decide (a.2.2.1<(a.2.1.length:Int)) then ((idx a.2.1 a.2.2.1).bind fun c=>(iter (zbP p0 c) (a.1,a.2.1,0,a.2.2.2)).bind fun b=>zjy a b.1 b.2.1 b.2.2) else (some (.inr (a.1,a.2.2.2)))
def zfL (p0:Int×LB×LM×LI) (p1:Int) (a:LI):Option (LI×(Int×LB×LM×LI)):=
 (idx a p1).bind fun d=>(some (a.set p1.toNat 0)).bind fun c=>(iter (zbQ p0) (c,[p1],0,p0.2.2.2)).bind fun b=>zfK p0 b.1 b.2
def zbR (p0:Int×LB×LM×LI) (a:LI×Int):Option ((LI×Int) ⊕ (LI)):=
 if decide (a.2<p0.1) then ((app 8 a.1 [(-1)]).bind fun b=>some (.inl (b,w64 (a.2+1)))) else (some (.inr a.1))
def zdo (p0:Int×LB×LM×LI) (p1:Int):Option (LI×(Int×LB×LM×LI)):=
 (iter (zbR p0) ([],0)).bind fun a=>zfL p0 p1 a
def zgk (p0:Int×LB×LM×LI) (p1:Int) (p2:Int):Option ((Int×LB×LM×LI)):=
 (idx p0.2.1 p2).bind fun a=>if decide (a.1=p1) then ((idx p0.2.2.2 p2).bind fun b=>(idx p0.2.2.2 p2).bind fun f=>(some (p0.2.2.2.set p2.toNat (w64 (b+1)))).bind fun c=>some (p0.1,(p0.2.1,(p0.2.2.1,c)))) else ((idx p0.2.2.2 p2).bind fun d=>(idx p0.2.2.2 p2).bind fun g=>(some (p0.2.2.2.set p2.toNat (w64 (d - 1)))).bind fun e=>some (p0.1,(p0.2.1,(p0.2.2.1,e))))
def zjY (p0:Int×LB×LM×LI) (a:LI):Option (Bool×(Int×LB×LM×LI)):=
 some (true,(p0.1,(p0.2.1,(p0.2.2.1,a))))
def zgM (p0:Int×LB×LM×LI) (a:Int×LI) (b:Int) (c:Int) (d:LI):Option ((Int×LI) ⊕ (LI)):=
 (zgk (p0.1,(p0.2.1,(p0.2.2.1,d))) a.1 c).bind fun e=>some (.inl (b,e.2.2.2))
def zci (a:Int×Int×Int×LI) (b:Int) (c:Int) (d:LI):Option ((Int×Int×Int×LI) ⊕ (Int×Int×LI)):=
 some (.inl (b,c,w64 (a.2.2.1+1),d))
def zU (p0:Int×LB×LM×LI) (c:Int×LI) (a:Int×Int×Int×LI) (e:LI) (f:Int) (b:Int×Int×(Int×LB×LM×LI)) (d:Bool):Option ((Int×Int×Int×LI) ⊕ (Int×Int×LI)):=
 if d then ((idx p0.2.2.1 c.1).bind fun _=>(idx e a.2.2.1).bind fun _=>zci a b.2.1 f b.2.2.2.2.2) else (zci a a.1 a.2.1 b.2.2.2.2.2)
def zcg (p0:Int×LB×LM×LI) (f:LI×(Int×LB×LM×LI)) (b:Int×LI) (a:Int×Int×Int×LI):Option ((Int×Int×Int×LI) ⊕ (Int×Int×LI)):=
 (idx p0.2.2.1 b.1).bind fun d=>if decide (a.2.2.1<(d.length:Int)) then ((idx p0.2.2.1 b.1).bind fun _=>(idx d a.2.2.1).bind fun e=>(zeh (p0.1,(p0.2.1,(p0.2.2.1,a.2.2.2))) b.1 e).bind fun c=>if decide (c.1>0) then ((idx f.1 c.2.1).bind fun g=>(idx f.1 b.1).bind fun h=>if decide (g=(w64 (h - 1))) then (if decide (a.1<0) then (zU p0 b a d e c true) else (zU p0 b a d e c (decide (c.2.1<a.1)))) else (zU p0 b a d e c false)) else (zU p0 b a d e c false)) else (some (.inr (a.1,a.2.1,a.2.2.2)))
def zch (p0:Int×LB×LM×LI) (p2:Int) (c:LI×(Int×LB×LM×LI)) (a:Int×LI):Option ((Int×LI) ⊕ (LI)):=
 if !decide (a.1=p2) then ((iter (zcg p0 c a) ((-1),0,0,a.2)).bind fun b=>zgM p0 a b.1 b.2.1 b.2.2) else (some (.inr a.2))
def zei (p0:Int×LB×LM×LI) (p1:Int) (p2:Int):Option (Bool×(Int×LB×LM×LI)):=
 (zdo p0 p2).bind fun a=>(idx a.1 p1).bind fun b=>if decide (b<0) then (some (false,(p0.1,(p0.2.1,(p0.2.2.1,a.2.2.2.2))))) else ((iter (zch p0 p2 a) (p1,a.2.2.2.2)).bind fun c=>zjY p0 c)
def zjH (a:(Int×LB×LM×LI)) (b:Int) (c:LI):Option ((Int×LB×LM×LI)×Int):=
 some ((a.1,(a.2.1,(a.2.2.1,c))),b)
def ze1 (p2:Int) (p3:Int) (b:(Int×LB×LM×LI)) (a:Int×LI):Option ((Int×LI) ⊕ (Int×LI)):=
 (zei (b.1,(b.2.1,(b.2.2.1,a.2))) p2 p3).bind fun c=>if c.1 then (some (.inl (w64 (a.1+1),c.2.2.2.2))) else (some (.inr (a.1,c.2.2.2.2)))
def zj9 (p0:Int) (p1:LB) (p2:Int) (p3:Int):Option ((Int×LB×LM×LI)×Int):=
 (zk9 p0 p1).bind fun a=>(iter (ze1 p2 p3 a) (0,a.2.2.2)).bind fun b=>zjH a b.1 b.2
def zgL (p0:Int×LB×LM×LI) (a:LI×(Int×LB×LM×LI)) (b:LI):Option (LI×(Int×LB×LM×LI)):=
 some (b,(p0.1,(p0.2.1,(p0.2.2.1,a.2.2.2.2))))
def zd4 (a:LI×Int) (b:LI):Option ((LI×Int) ⊕ (LI)):=
 some (.inl (b,w64 (a.2+1)))
def zd3 (p0:Int×LB×LM×LI) (b:LI×(Int×LB×LM×LI)) (a:LI×Int):Option ((LI×Int) ⊕ (LI)):=
 if decide (a.2<p0.1) then ((idx b.1 a.2).bind fun c=>if decide (c≥0) then ((app 8 a.1 [a.2]).bind fun d=>zd4 a d) else (zd4 a a.1)) else (some (.inr a.1))
def zgj (p0:Int×LB×LM×LI) (p1:Int):Option (LI×(Int×LB×LM×LI)):=
 (zdo p0 p1).bind fun a=>(iter (zd3 p0 a) ([],0)).bind fun b=>zgL p0 a b
def zla  : Option (Bool):=
 some false
def zfw (p1:LI) (p3:LI) (a:Int):Option (Int ⊕ (Unit ⊕ Bool)):=
 if decide (a<(p1.length:Int)) then ((idx p1 a).bind fun b=>(idx p3 a).bind fun c=>if !decide (b=c) then ((idx p1 a).bind fun d=>(idx p3 a).bind fun e=>some (.inr (.inr (decide (d<e))))) else (some (.inl (w64 (a+1))))) else (some (.inr (.inl ())))
def zh6 (p0:Int) (p1:LI) (p2:Int) (p3:LI):Option (Bool):=
 if !decide (p0=p2) then (some (decide (p0<p2))) else (if !decide ((p1.length:Int)=(p3.length:Int)) then (some (decide ((p1.length:Int)<(p3.length:Int)))) else ((iter (zfw p1 p3) 0).bind fun a=>match a with | .inl z=>zla | .inr z=>some z))
def zhq (a:Int) (b:LI):Option (Int×LI):=
 some (a,b)
def zcP (a:Int×LI×Int) (b:Int) (c:LI):Option ((Int×LI×Int) ⊕ (Int×LI)):=
 some (.inl (b,c,w64 (a.2.2+1)))
def zaI (a:Int×LI×Int) (b:(Int×LB×LM×LI)×Int) (c:LI×(Int×LB×LM×LI)) (d:Bool):Option ((Int×LI×Int) ⊕ (Int×LI)):=
 if d then (zcP a b.2 c.1) else (zcP a a.1 a.2.1)
def zeJ (p0:Int) (p1:LB) (a:Int×LI×Int):Option ((Int×LI×Int) ⊕ (Int×LI)):=
 if decide (a.2.2<p0) then ((zj9 p0 p1 0 a.2.2).bind fun b=>(zgj b.1 a.2.2).bind fun c=>if decide (a.1<0) then (zaI a b c true) else ((zh6 b.2 c.1 a.1 a.2.1).bind fun d=>zaI a b c d)) else (some (.inr (a.1,a.2.1)))
def zhg (p0:Int) (p1:LB):Option (Int×LI):=
 (iter (zeJ p0 p1) ((-1),[],1)).bind fun a=>zhq a.1 a.2
def zh1 (p0:LG×LT) (p1:LP) (p2:Int):Option (Bool×Int):=
 (zg0 p0 p1).bind fun b=>(zh5 (p1.length:Int) b p2).bind fun a=>if decide (a.1>64) then (some (false,4)) else (if decide (a.1<2) then (some (true,0)) else ((zhg a.1 a.2).bind fun c=>some (decide (c.1≥p2),0)))
def zff (p0:TS×(LP)×Int) (b:Bool):Option (Bool):=
 if b then (some false) else ((zh1 p0.1 p0.2.1 p0.2.2).bind fun a=>if a.1 then (some (decide (a.2=0))) else (some false))
def zfJ (p0:TS×(LP)×Int):Option (Bool):=
 (zkt p0.1).bind fun a=>if !a then (zff p0 true) else ((zmk p0.1 p0.2.1).bind fun b=>if !b then (zff p0 true) else (if decide ((p0.2.1.length:Int)=0) then (zff p0 true) else ((zd2 p0.2.2).bind fun x23=>zff p0 (!x23))))
def zhX (p0:Int×Int) (p1:Int) (p2:Int) (p3:Int):Option ((Int×Int)):=
 some (w64 ((w64 (p0.1*p3))+p1),w64 ((w64 (p0.2*p3))+p2))
def zfM (a:LP):Option ((LP)):=
 some a
def zfN (p1:Int×Int) (p2:Int) (b:Bool) (a:LP):Option ((LP)):=
 if !b then ((app 24 a [(p1,p2)]).bind fun c=>zfM c) else (zfM a)
def zek (p0:LP) (a:Bool×Int×LP) (b:Bool) (c:LP):Option ((Bool×Int×LP) ⊕ (Bool×LP)):=
 (idx p0 a.2.1).bind fun d=>(app 24 c [d]).bind fun e=>some (.inl (b,w64 (a.2.1+1),e))
def zej (p0:LP) (p1:Int×Int) (p2:Int) (a:Bool×Int×LP) (b:Bool):Option ((Bool×Int×LP) ⊕ (Bool×LP)):=
 if b then ((app 24 a.2.2 [(p1,p2)]).bind fun c=>zek p0 a true c) else (zek p0 a a.1 a.2.2)
def zX (p0:LP) (p1:Int×Int) (p2:Int) (a:Bool×Int×LP):Option ((Bool×Int×LP) ⊕ (Bool×LP)):=
 if decide (a.2.1<(p0.length:Int)) then (if !a.1 then ((idx p0 a.2.1).bind fun c=>(zcS p1 c.1).bind fun b=>zej p0 p1 p2 a b) else (zej p0 p1 p2 a false)) else (some (.inr (a.1,a.2.2)))
def zjz (p0:LP) (p1:Int×Int) (p2:Int):Option ((LP)):=
 (iter (zX p0 p1 p2) (false,0,[])).bind fun a=>zfN p1 p2 a.1 a.2
def zlU (a:LP):Option ((LP)×Bool):=
 some (a,true)
def zgg (a:Int×LP) (b:LP):Option ((Int×LP) ⊕ ((LP) ⊕ ((LP)×Bool))):=
 some (.inl (w64 (a.1+1),b))
def zgf (p1:Int) (b:(Int×Int)×Int) (a:Int×LP) (c:(Int×Int)) (d:Bool):Option ((Int×LP) ⊕ ((LP) ⊕ ((Int×LP) ⊕ ((LP) ⊕ ((LP)×Bool))))):=
 if d then (some (.inr (.inr (.inr (.inr ([],false)))))) else ((zjz a.2 c (w64 ((w64 ((w64 (b.2*p1))*p1))+a.1))).bind fun e=>some (.inl (w64 (a.1+1),e)))
def zbq (p1:Int) (b:(Int×Int)×Int) (a:Int×LP):Option ((Int×LP) ⊕ ((LP) ⊕ ((Int×LP) ⊕ ((LP) ⊕ ((LP)×Bool))))):=
 if decide (a.1<(w64 (p1*p1))) then ((zoY a.1 p1).bind fun d=>(zmS .i64 a.1 p1).bind fun e=>(zhX b.1 d e p1).bind fun c=>(zdP c).bind fun f=>if !f then (zgf p1 b a c true) else (zgf p1 b a c (decide ((w64 ((w64 ((w64 (b.2*p1))*p1))+a.1))≥160)))) else (some (.inr (.inl a.2)))
def zbr (p0:LP) (p1:Int) (a:Int×LP):Option ((Int×LP) ⊕ ((LP) ⊕ ((LP)×Bool))):=
 if decide (a.1<(p0.length:Int)) then ((idx p0 a.1).bind fun b=>(iter (zbq p1 b) (0,a.2)).bind fun c=>match c with | .inl z=>zgg a z | .inr z=>some z) else (some (.inr (.inl a.2)))
def zjb (p0:LP) (p1:Int):Option ((LP)×Bool):=
 if decide ((w64 ((w64 ((p0.length:Int)*p1))*p1))>500) then (some ([],false)) else ((iter (zbr p0 p1) (0,[])).bind fun a=>match a with | .inl z=>zlU z | .inr z=>some z)
def zdb (p0:Int) (a:BS):Option (BS):=
 if decide (p0=0) then (some ([48]:BS)) else (if decide (p0<0) then ((zif ([45]:BS) a).bind fun b=>some b) else (some a))
def ze3 (a:BS×Int) (b:Int):Option ((BS×Int) ⊕ (BS)):=
 (zif (zj7 [IntKind.wrap .u8 (w64 (48+b))]) a.1).bind fun c=>some (.inl (c,w64 (Int.tdiv a.2 10)))
def zaG  (a:BS×Int):Option ((BS×Int) ⊕ (BS)):=
 if !decide (a.2=0) then (if decide ((Int.tmod a.2 10)<0) then (ze3 a (w64 (0 - (Int.tmod a.2 10)))) else (ze3 a (Int.tmod a.2 10))) else (some (.inr a.1))
def zdv (p0:Int):Option (BS):=
 (iter (zaG) (([]:BS),p0)).bind fun a=>zdb p0 a
def zcO (p0:Int) (p1:Int) (p2:Int):Option (BS):=
 (zdv p0).bind fun f=>(zif f ([95]:BS)).bind fun g=>(zdv p1).bind fun a=>(zif g a).bind fun b=>(zif b ([95]:BS)).bind fun c=>(zdv p2).bind fun d=>(zif c d).bind fun e=>some e
def ziP (a:LG):Option (LG):=
 some a
def ziN (a:LG×Int) (b:LG):Option ((LG×Int) ⊕ (LG)):=
 some (.inl (b,w64 (a.2+1)))
def ziM (a:LG×Int) (b:LG):Option ((LG×Int) ⊕ (LG)):=
 some (.inl (b,w64 (a.2+1)))
def zcC (p1:Int) (b:LG×Int) (c:LG×Int) (a:LG×Int):Option ((LG×Int) ⊕ (LG)):=
 if decide (a.2<p1) then ((zcO b.2 a.2 c.2).bind fun d=>(zif ([118]:BS) d).bind fun e=>(app 24 a.1 [(e,1)]).bind fun f=>some (.inl (f,w64 (a.2+1)))) else (some (.inr a.1))
def zcD (p1:Int) (b:LG×Int) (a:LG×Int):Option ((LG×Int) ⊕ (LG)):=
 if decide (a.2<(w64 (p1 - 1))) then ((iter (zcC p1 b a) (a.1,0)).bind fun c=>ziM a c) else (some (.inr a.1))
def ziO (p1:Int) (a:LG×Int) (b:LG):Option ((LG×Int) ⊕ (LG)):=
 (iter (zcD p1 a) (b,0)).bind fun c=>ziN a c
def ziL (a:LG×Int) (b:LG):Option ((LG×Int) ⊕ (LG)):=
 some (.inl (b,w64 (a.2+1)))
def zcB (p1:Int) (b:LG×Int) (c:LG×Int) (a:LG×Int):Option ((LG×Int) ⊕ (LG)):=
 if decide (a.2<(w64 (p1 - 1))) then ((zcO b.2 a.2 c.2).bind fun d=>(zif ([104]:BS) d).bind fun e=>(app 24 a.1 [(e,1)]).bind fun f=>some (.inl (f,w64 (a.2+1)))) else (some (.inr a.1))
def zcE (p1:Int) (b:LG×Int) (a:LG×Int):Option ((LG×Int) ⊕ (LG)):=
 if decide (a.2<p1) then ((iter (zcB p1 b a) (a.1,0)).bind fun c=>ziL a c) else (some (.inr a.1))
def zcF (p0:LG×LT) (p1:Int) (a:LG×Int):Option ((LG×Int) ⊕ (LG)):=
 if decide (a.2<(p0.2.length:Int)) then ((iter (zcE p1 a) (a.1,0)).bind fun b=>ziO p1 a b) else (some (.inr a.1))
def ziQ (p0:LG×LT) (p1:Int) (a:LG):Option (LG):=
 (iter (zcF p0 p1) (a,0)).bind fun b=>ziP b
def ziK (a:LG×Int) (b:LG):Option ((LG×Int) ⊕ (LG)):=
 some (.inl (b,w64 (a.2+1)))
def zcA (p0:LG×LT) (p1:Int) (b:LG×Int) (a:LG×Int):Option ((LG×Int) ⊕ (LG)):=
 if decide (a.2<p1) then ((idx p0.1 b.2).bind fun c=>(zdv (w64 (b.2+1))).bind fun d=>(zif ([103]:BS) d).bind fun e=>(zif e ([95]:BS)).bind fun f=>(zdv a.2).bind fun g=>(zif f g).bind fun h=>(app 24 a.1 [(h,c.2)]).bind fun j=>some (.inl (j,w64 (a.2+1)))) else (some (.inr a.1))
def zee (p0:LG×LT) (p1:Int) (a:LG×Int):Option ((LG×Int) ⊕ (LG)):=
 if decide (a.2<(p0.1.length:Int)) then ((iter (zcA p0 p1 a) (a.1,0)).bind fun b=>ziK a b) else (some (.inr a.1))
def zjc (p0:LG×LT) (p1:Int):Option (LG):=
 (iter (zee p0 p1) ([],0)).bind fun a=>ziQ p0 p1 a
def ziJ (a:LI):Option (LI):=
 some a
def zaL (a:LI×Int) (b:Int):Option ((LI×Int) ⊕ (LI)):=
 (app 8 a.1 [b]).bind fun c=>some (.inl (c,w64 (a.2+1)))
def zf9 (p0:LG×LT) (p1:Int) (p2:Int) (p3:Int) (a:Int) (b:LI×Int) (c:Int) (d:Bool):Option ((LI×Int) ⊕ (LI)):=
 if d then (zaL b (w64 ((w64 ((w64 ((w64 ((w64 ((w64 ((p0.1.length:Int)*a))+(w64 ((w64 ((w64 (p1*2))*a))*(w64 (a - 1))))))+1))+(w64 (a*(w64 (a - 1))))))+(w64 ((w64 (p3 - 1))*a))))+p2))) else (zaL b c)
def zga (p0:LG×LT) (p1:Int) (p2:Int) (p3:Int) (b:Int) (a:LI×Int) (c:Int) (d:Bool):Option ((LI×Int) ⊕ (LI)):=
 if d then (zaL a (w64 ((w64 ((w64 ((w64 ((w64 ((w64 ((p0.1.length:Int)*b))+(w64 ((w64 ((w64 (p1*2))*b))*(w64 (b - 1))))))+1))+(w64 (b*(w64 (b - 1))))))+(w64 (p3*b))))+p2))) else (if decide (a.2=2) then (zf9 p0 p1 p2 p3 b a c (decide (p3>0))) else (zf9 p0 p1 p2 p3 b a c false))
def zgb (p0:LG×LT) (p1:Int) (p2:Int) (p3:Int) (b:Int) (a:LI×Int) (c:Int) (d:Bool):Option ((LI×Int) ⊕ (LI)):=
 if d then (zaL a (w64 ((w64 ((w64 ((w64 ((w64 ((w64 ((p0.1.length:Int)*b))+(w64 ((w64 ((w64 (p1*2))*b))*(w64 (b - 1))))))+1))+(w64 (p3*(w64 (b - 1))))))+p2)) - 1))) else (if decide (a.2=0) then (zga p0 p1 p2 p3 b a c (decide (p3<(w64 (b - 1))))) else (zga p0 p1 p2 p3 b a c false))
def zgc (p0:LG×LT) (p1:Int) (p2:Int) (p3:Int) (b:Int) (a:LI×Int) (c:Int) (d:Bool):Option ((LI×Int) ⊕ (LI)):=
 if d then (zaL a (w64 ((w64 ((w64 ((w64 ((w64 ((p0.1.length:Int)*b))+(w64 ((w64 ((w64 (p1*2))*b))*(w64 (b - 1))))))+1))+(w64 (p3*(w64 (b - 1))))))+p2))) else (if decide (a.2=3) then (zgb p0 p1 p2 p3 b a c (decide (p2>0))) else (zgb p0 p1 p2 p3 b a c false))
def zgd (p0:LG×LT) (p1:Int) (p2:Int) (p3:Int) (c:Int) (a:LI×Int) (b:Int):Option ((LI×Int) ⊕ (LI)):=
 if decide (a.2=1) then (zgc p0 p1 p2 p3 c a b (decide (p2<(w64 (c - 1))))) else (zgc p0 p1 p2 p3 c a b false)
def zge (p0:LG×LT) (p1:Int) (p2:Int) (p3:Int) (c:Int) (a:LI×Int) (b:Int) (d:Int):Option ((LI×Int) ⊕ (LI)):=
 if decide (b>0) then (zgd p0 p1 p2 p3 c a (w64 ((w64 ((w64 ((w64 (b - 1))*c))+d))+1))) else (zgd p0 p1 p2 p3 c a 0)
def zf8 (p0:LG×LT) (p1:Int) (p2:Int) (p3:Int) (c:Int) (a:LI×Int) (b:Int) (d:Bool):Option ((LI×Int) ⊕ (LI)):=
 if d then (zge p0 p1 p2 p3 c a b p3) else (zge p0 p1 p2 p3 c a b p2)
def zec (p0:LG×LT) (p1:Int) (p2:Int) (p3:Int) (c:Int) (a:LI×Int):Option ((LI×Int) ⊕ (LI)):=
 if decide (a.2<4) then ((idx p0.2 p1).bind fun d=>(idx d.2 a.2).bind fun b=>if decide (a.2=1) then (zf8 p0 p1 p2 p3 c a b true) else (zf8 p0 p1 p2 p3 c a b (decide (a.2=3)))) else (some (.inr a.1))
def zja (p0:LG×LT) (p1:Int) (p2:Int) (p3:Int) (b:Int):Option (LI):=
 (iter (zec p0 p1 p2 p3 b) ([],0)).bind fun a=>ziJ a
def zm4 (a:LG) (b:LT):Option (TS):=
 some (a,b)
def zkr (a:Int×LT) (b:LT):Option ((Int×LT) ⊕ (LT)):=
 some (.inl (w64 (a.1+1),b))
def zed (p0:LG×LT) (p1:Int) (b:Int×LT) (a:Int×LT):Option ((Int×LT) ⊕ (LT)):=
 if decide (a.1<(w64 (p1*p1))) then ((zoY a.1 p1).bind fun c=>(zmS .i64 a.1 p1).bind fun d=>(zoY a.1 p1).bind fun e=>(zmS .i64 a.1 p1).bind fun f=>(zcO b.1 c d).bind fun g=>(zif ([112]:BS) g).bind fun h=>(zja p0 b.1 e f p1).bind fun j=>(app 40 a.2 [(h,j)]).bind fun k=>some (.inl (w64 (a.1+1),k))) else (some (.inr a.2))
def zfI (p0:LG×LT) (p1:Int) (a:Int×LT):Option ((Int×LT) ⊕ (LT)):=
 if decide (a.1<(p0.2.length:Int)) then ((iter (zed p0 p1 a) (0,a.2)).bind fun b=>zkr a b) else (some (.inr a.2))
def zk3 (p0:LG×LT) (p1:Int):Option (TS):=
 (zjc p0 p1).bind fun a=>(iter (zfI p0 p1) (0,[])).bind fun b=>zm4 a b
def zd5 (p0:TS×(LP)×Int) (p1:Int) (c:Bool):Option ((TS×(LP)×Int)×Int):=
 if c then (some ((([],[]),([],0)),4)) else ((zjb p0.2.1 p1).bind fun a=>if !a.2 then (some ((([],[]),([],0)),4)) else ((zk3 p0.1 p1).bind fun b=>(zfJ (b,(a.1,2))).bind fun d=>if !d then (some ((([],[]),([],0)),5)) else (some ((b,(a.1,2)),0))))
def zgq (p0:TS×(LP)×Int) (p1:Int):Option ((TS×(LP)×Int)×Int):=
 (zfJ p0).bind fun a=>if !a then (some ((([],[]),([],0)),1)) else ((zbv p1 1 4).bind fun b=>if !b then (some ((([],[]),([],0)),2)) else (if !decide (p0.2.2=2) then (some ((([],[]),([],0)),5)) else (if decide ((w64 ((w64 ((p0.1.1.length:Int)*p1))+(w64 ((w64 ((w64 ((p0.1.2.length:Int)*2))*p1))*(w64 (p1 - 1))))))>200) then (zd5 p0 p1 true) else (zd5 p0 p1 (decide ((w64 ((w64 ((p0.1.2.length:Int)*p1))*p1))>160))))))
def zm7 (p0:LP):Option ((LP)):=
 (app 24 ([]:LP) p0).bind fun a=>some a
def zcR (p0:LP) (p1:Int×Int):Option (Int):=
 (zay p0 p1).bind fun a=>if decide (a<0) then (some (-1)) else ((idx p0 a).bind fun b=>some b.2)
def zks (a:Int):Option (Int):=
 some a
def zeL (a:Int×Int) (b:Int):Option ((Int×Int) ⊕ Int):=
 some (.inl (b,w64 (a.2+1)))
def zeK (p0:LG×LT) (p1:LP) (p2:Int×Int) (p3:Int) (a:Int×Int):Option ((Int×Int) ⊕ Int):=
 if decide (a.2<4) then ((za1 p2 a.2).bind fun c=>(zcR p1 c).bind fun b=>if decide (b≥0) then ((zeM p0 p3 a.2 b).bind fun d=>zeL a (w64 (a.1+d))) else (zeL a a.1)) else (some (.inr a.1))
def zda (p0:LG×LT) (p1:LP) (p2:Int×Int) (p3:Int):Option (Int):=
 (iter (zeK p0 p1 p2 p3) (0,0)).bind fun a=>zks a
def zjw (p0:TS×(LP)×Int) (p1:LP) (p2:(Int×Int)×Int):Option (Bool):=
 (zdP p2.1).bind fun a=>if a then ((zfj p0.1 p2.2).bind fun x23=>if x23 then ((zay p1 p2.1).bind fun b=>if decide (b<0) then ((zda p0.1 p1 p2.1 p2.2).bind fun c=>some (decide (c≥p0.2.2))) else (some false)) else (some false)) else (some false)
def zau (p0:LP) (p1:(Int×Int)×Int):Option ((LP)×Int):=
 if decide ((p0.length:Int)≥500) then (some ([],4)) else ((zjz p0 p1.1 p1.2).bind fun a=>some (a,0))
def ze0 (p0:TS×(LP)×Int) (p1:LP) (p2:(Int×Int)×Int) (a:Bool):Option (Bool):=
 if a then (some false) else ((zda p0.1 p1 p2.1 p2.2).bind fun b=>(zbv b 1 (w64 (p0.2.2 - 1))).bind fun c=>some c)
def zhZ (p0:TS×(LP)×Int) (p1:LP) (p2:(Int×Int)×Int):Option (Bool):=
 (zdP p2.1).bind fun a=>if !a then (ze0 p0 p1 p2 true) else ((zfj p0.1 p2.2).bind fun b=>if !b then (ze0 p0 p1 p2 true) else ((zay p1 p2.1).bind fun c=>ze0 p0 p1 p2 (decide (c≥0))))
def zku  : Option (Bool):=
 some false
def zie (p0:LI) (p1:Int) (a:Int):Option (Int ⊕ (Unit ⊕ Bool)):=
 if decide (a<(p0.length:Int)) then ((idx p0 a).bind fun b=>if decide (b=p1) then (some (.inr (.inr true))) else (some (.inl (w64 (a+1))))) else (some (.inr (.inl ())))
def zjA (p0:LI) (p1:Int):Option (Bool):=
 (iter (zie p0 p1) 0).bind fun a=>match a with | .inl z=>zku | .inr z=>some z
def zmi (p0:TS×(LP)×Int) (p1:(Int×Int)×Int):Option (Bool):=
 (zcR p0.2.1 p1.1).bind fun a=>some (decide (a=p1.2))
def zlW (a:LI):Option (LI):=
 some a
def zgi (a:LI×Int) (b:LI):Option ((LI×Int) ⊕ (LI)):=
 some (.inl (b,w64 (a.2+1)))
def zgh (a:LI×Int) (b:Bool):Option ((LI×Int) ⊕ (LI)):=
 if b then ((app 8 a.1 [a.2]).bind fun c=>zgi a c) else (zgi a a.1)
def zef (p0:TS×(LP)×Int) (p1:LP) (a:LI×Int):Option ((LI×Int) ⊕ (LI)):=
 if decide (a.2<(p1.length:Int)) then ((idx p1 a.2).bind fun b=>(zmi p0 b).bind fun c=>if !c then ((zda p0.1 p1 b.1 b.2).bind fun d=>zgh a (decide (d<p0.2.2))) else (zgh a false)) else (some (.inr a.1))
def zgZ (p0:TS×(LP)×Int) (p1:LP):Option (LI):=
 (iter (zef p0 p1) ([],0)).bind fun a=>zlW a
def zhf (p0:LP) (p1:Int):Option ((LP)):=
 (zf7 p0 0 p1).bind fun a=>(zf7 p0 (w64 (p1+1)) (p0.length:Int)).bind fun b=>(app 24 ([]:LP) a).bind fun c=>(app 24 c b).bind fun d=>some d
def zcu (p1:LP) (a:Int) (b:Bool):Option ((LP)×Int):=
 if b then (some ([],5)) else ((zhf p1 a).bind fun c=>some (c,0))
def zca (p0:TS×(LP)×Int) (p1:LP) (p2:Int×(Int×Int)×Int):Option ((LP)×Int):=
 if decide (p2.1=1) then ((zjw p0 p1 p2.2).bind fun d=>if !d then (some ([],5)) else ((zau p1 p2.2).bind fun b=>some (b.1,b.2))) else (if decide (p2.1=2) then ((zhZ p0 p1 p2.2).bind fun e=>if !e then (some ([],5)) else ((zau p1 p2.2).bind fun c=>some (c.1,c.2))) else (if decide (p2.1=3) then ((zay p1 p2.2.1).bind fun a=>if decide (a<0) then (zcu p1 a true) else ((idx p1 a).bind fun f=>if !decide (f.2=p2.2.2) then (zcu p1 a true) else ((zgZ p0 p1).bind fun g=>(zjA g a).bind fun h=>zcu p1 a (!h)))) else (some ([],2))))
def zjZ (a:Int) (b:LP):Option ((LP)×Int×Int×Int):=
 some (b,a,0,0)
def zd7 (a:Int×Int×LP) (b:(LP)×Int) (c:Int):Option ((Int×Int×LP) ⊕ ((Int×LP) ⊕ ((LP)×Int×Int×Int))):=
 some (.inl (c,w64 (a.2.1+1),b.1))
def zd6 (p0:TS×(LP)×Int) (p1:List (Int×(Int×Int)×Int)) (a:Int×Int×LP):Option ((Int×Int×LP) ⊕ ((Int×LP) ⊕ ((LP)×Int×Int×Int))):=
 if decide (a.2.1<(p1.length:Int)) then ((idx p1 a.2.1).bind fun c=>(zca p0 a.2.2 c).bind fun b=>if !decide (b.2=0) then (some (.inr (.inr ([],0,a.2.1,b.2)))) else ((idx p1 a.2.1).bind fun _=>if decide (c.1=2) then (zd7 a b (w64 (a.1+1))) else (zd7 a b a.1))) else (some (.inr (.inl (a.1,a.2.2))))
def zgs (p0:TS×(LP)×Int) (p1:List (Int×(Int×Int)×Int)):Option ((LP)×Int×Int×Int):=
 (zfJ p0).bind fun a=>if !a then (some ([],0,0,1)) else (if decide ((p1.length:Int)>200) then (some ([],0,0,2)) else ((zm7 p0.2.1).bind fun b=>(iter (zd6 p0 p1) (0,0,b)).bind fun c=>match c with | .inl z=>zjZ z.1 z.2 | .inr z=>some z))
def zgY (p0:Int) (p1:Int):Option (Int×Int):=
 (zmS .i64 p0 p1).bind fun b=>(zoY p0 p1).bind fun a=>if decide (a<0) then (some (w64 (b - 1),w64 (a+p1))) else (some (b,a))
def zjd (p0:Int×Int) (p1:Int):Option ((Int×Int)×(Int×Int)):=
 (zgY p0.1 p1).bind fun a=>(zgY p0.2 p1).bind fun b=>some ((a.1,b.1),(a.2,b.2))
def zgJ (p1:Int×Int) (a:Int) (b:List (Int×Int)):Option ((List (Int×Int))):=
 (idx b a).bind fun d=>(some (b.set a.toNat p1)).bind fun c=>some c
def zcf (b:Int) (a:(List (Int×Int))×Int):Option (((List (Int×Int))×Int) ⊕ ((List (Int×Int)))):=
 if decide (a.2>b) then ((idx a.1 (w64 (a.2 - 1))).bind fun c=>(idx a.1 a.2).bind fun e=>(some (a.1.set a.2.toNat c)).bind fun d=>some (.inl (d,w64 (a.2 - 1)))) else (some (.inr a.1))
def zbb (p0:List (Int×Int)) (p1:Int×Int) (a:Int) (b:Bool):Option ((List (Int×Int))):=
 if b then (some p0) else ((app 16 p0 [p1]).bind fun x23=>(iter (zcf a) (x23,w64 ((x23.length:Int) - 1))).bind fun c=>zgJ p1 a c)
def zgK (p0:List (Int×Int)) (p1:Int×Int) (a:Int):Option ((List (Int×Int))):=
 if decide (a<(p0.length:Int)) then ((idx p0 a).bind fun b=>zbb p0 p1 a (decide (b.1=p1.1)&&decide (b.2=p1.2))) else (zbb p0 p1 a false)
def zba (a:Int) (b:Bool):Option (Int ⊕ Int):=
 if b then (some (.inl (w64 (a - 1)))) else (some (.inr a))
def zaB (p0:List (Int×Int)) (p1:Int×Int) (a:Int):Option (Int ⊕ Int):=
 if decide (a>0) then ((idx p0 (w64 (a - 1))).bind fun b=>(zcS b p1).bind fun c=>zba a (!c)) else (zba a false)
def zeg (p0:List (Int×Int)) (p1:Int×Int):Option ((List (Int×Int))):=
 (iter (zaB p0 p1) (p0.length:Int)).bind fun a=>zgK p0 p1 a
def zk5 (a:List (Int×Int)):Option ((List (Int×Int))):=
 some a
def zdk (p0:LP) (p1:Int) (a:(List (Int×Int))×Int):Option (((List (Int×Int))×Int) ⊕ ((List (Int×Int)))):=
 if decide (a.2<(p0.length:Int)) then ((idx p0 a.2).bind fun b=>(zjd b.1 p1).bind fun c=>(zeg a.1 c.1).bind fun d=>some (.inl (d,w64 (a.2+1)))) else (some (.inr a.1))
def zhY (p0:LP) (p1:Int):Option ((List (Int×Int))):=
 (iter (zdk p0 p1) ([],0)).bind fun a=>zk5 a
def zd1 (a:Int):Option (Int):=
 some a
def zaA (p2:Int) (a:Int×Int) (b:Int) (c:Bool):Option ((Int×Int) ⊕ (Int ⊕ Int)):=
 if c then (some (.inr (.inr (-1)))) else ((zmS .i64 b (w64 (p2*p2))).bind fun d=>some (.inl (d,w64 (a.2+1))))
def zaq (p0:LP) (p1:Int×Int) (p2:Int) (a:Int×Int):Option ((Int×Int) ⊕ (Int ⊕ Int)):=
 if decide (a.2<(w64 (p2*p2))) then ((zoY a.2 p2).bind fun c=>(zmS .i64 a.2 p2).bind fun d=>(zhX p1 c d p2).bind fun e=>(zcR p0 e).bind fun b=>if decide (b<0) then (zaA p2 a b true) else ((zoY b (w64 (p2*p2))).bind fun f=>if !decide (f=a.2) then (zaA p2 a b true) else (if decide (a.2>0) then ((zmS .i64 b (w64 (p2*p2))).bind fun g=>zaA p2 a b (!decide (g=a.1))) else (zaA p2 a b false)))) else (some (.inr (.inl a.1)))
def zcG (p0:LP) (p1:Int×Int) (p2:Int):Option (Int):=
 (iter (zaq p0 p1 p2) ((-1),0)).bind fun a=>match a with | .inl z=>zd1 z | .inr z=>some z
def zk4 (a:LP):Option ((LP)):=
 some a
def zfr (a:Int×LP) (b:LP):Option ((Int×LP) ⊕ (LP)):=
 some (.inl (w64 (a.1+1),b))
def zdj (p0:LP) (p1:Int) (b:(List (Int×Int))) (a:Int×LP):Option ((Int×LP) ⊕ (LP)):=
 if decide (a.1<(b.length:Int)) then ((idx b a.1).bind fun c=>(zcG p0 c p1).bind fun d=>if decide (d≥0) then ((idx b a.1).bind fun _=>(app 24 a.2 [(c,d)]).bind fun e=>zfr a e) else (zfr a a.2)) else (some (.inr a.2))
def zhW (p0:LP) (p1:Int):Option ((LP)):=
 (zhY p0 p1).bind fun a=>(iter (zdj p0 p1 a) (0,[])).bind fun b=>zk4 b
def zk6 (a:List (Int×Int)):Option ((List (Int×Int))):=
 some a
def zfs (a:(List (Int×Int))×Int) (b:List (Int×Int)):Option (((List (Int×Int))×Int) ⊕ ((List (Int×Int)))):=
 some (.inl (b,w64 (a.2+1)))
def zdl (p0:LP) (p1:LP) (a:(List (Int×Int))×Int):Option (((List (Int×Int))×Int) ⊕ ((List (Int×Int)))):=
 if decide (a.2<(p1.length:Int)) then ((idx p1 a.2).bind fun b=>(idx p1 a.2).bind fun _=>(zcR p0 b.1).bind fun c=>if !decide (c=b.2) then ((idx p1 a.2).bind fun _=>(app 16 a.1 [b.1]).bind fun d=>zfs a d) else (zfs a a.1)) else (some (.inr a.1))
def zh0 (p0:LP) (p1:LP):Option ((List (Int×Int))):=
 (iter (zdl p0 p1) ([],0)).bind fun a=>zk6 a
def zgr (p0:TS×(LP)×Int) (p1:LP) (p2:Int) (p3:List (Int×(Int×Int)×Int)):Option ((List (Int×Int))×Int×Int):=
 (zgq p0 p2).bind fun b=>if !decide (b.2=0) then (some (([]:List (Int×Int)),0,b.2)) else ((zid p1).bind fun c=>if !c then (some (([]:List (Int×Int)),0,1)) else ((zgs b.1 p3).bind fun a=>if !decide (a.2.2.2=0) then (some (([]:List (Int×Int)),0,a.2.2.2)) else ((zhW a.1 p2).bind fun d=>(zh0 p1 d).bind fun e=>some (e,a.2.1,0))))
def zik (p0:Int×Int):Option ((Int×Int)):=
 some p0
def zlE (p0:(Int×Int)×Int):Option (((Int×Int)×Int)):=
 (zik p0.1).bind fun a=>some (a,p0.2)
def zlg (a:LP):Option (LP):=
 some a
def zdA (p0:LP) (a:LP×Int):Option ((LP×Int) ⊕ (LP)):=
 if decide (a.2<(p0.length:Int)) then ((idx p0 a.2).bind fun b=>(zlE b).bind fun c=>(idx a.1 a.2).bind fun e=>(some (a.1.set a.2.toNat c)).bind fun d=>some (.inl (d,w64 (a.2+1)))) else (some (.inr a.1))
def zil (p0:LP):Option (LP):=
 (mkl 24 (p0.length:Int) ((0,0),0)).bind fun a=>(iter (zdA p0) (a,0)).bind fun b=>zlg b
def zai (p0:LP):Option ((LP)):=
 (zil p0).bind fun a=>some a
def zno (p0:BS×Int):Option ((BS×Int)):=
 some p0
def zmM (a:LG):Option (LG):=
 some a
def ze6 (p0:LG) (a:LG×Int):Option ((LG×Int) ⊕ (LG)):=
 if decide (a.2<(p0.length:Int)) then ((idx p0 a.2).bind fun b=>(zno b).bind fun c=>(idx a.1 a.2).bind fun e=>(some (a.1.set a.2.toNat c)).bind fun d=>some (.inl (d,w64 (a.2+1)))) else (some (.inr a.1))
def zkd (p0:LG):Option (LG):=
 (mkl 24 (p0.length:Int) ((([]:BS),0):BS×Int)).bind fun a=>(iter (ze6 p0) (a,0)).bind fun b=>zmM b
def zl4 (a:LI):Option (LI):=
 some a
def zeu (p0:LI) (a:LI×Int):Option ((LI×Int) ⊕ (LI)):=
 if decide (a.2<(p0.length:Int)) then ((idx p0 a.2).bind fun b=>(idx a.1 a.2).bind fun d=>(some (a.1.set a.2.toNat b)).bind fun c=>some (.inl (c,w64 (a.2+1)))) else (some (.inr a.1))
def zjj (p0:LI):Option (LI):=
 (mkl 8 (p0.length:Int) 0).bind fun a=>(iter (zeu p0) (a,0)).bind fun b=>zl4 b
def znn (p0:BS×LI):Option ((BS×LI)):=
 (zjj p0.2).bind fun a=>some (p0.1,a)
def zmK (a:LT):Option (LT):=
 some a
def ze5 (p0:LT) (a:LT×Int):Option ((LT×Int) ⊕ (LT)):=
 if decide (a.2<(p0.length:Int)) then ((idx p0 a.2).bind fun b=>(znn b).bind fun c=>(idx a.1 a.2).bind fun e=>(some (a.1.set a.2.toNat c)).bind fun d=>some (.inl (d,w64 (a.2+1)))) else (some (.inr a.1))
def zkc (p0:LT):Option (LT):=
 (mkl 40 (p0.length:Int) ((([]:BS),[]):BS×LI)).bind fun a=>(iter (ze5 p0) (a,0)).bind fun b=>zmK b
def zkA (p0:LG×LT):Option (TS):=
 (zkd p0.1).bind fun a=>(zkc p0.2).bind fun b=>some (a,b)
def zbL (p0:TS×(LP)×Int):Option ((TS×(LP)×Int)):=
 (zkA p0.1).bind fun a=>(zai p0.2.1).bind fun b=>some (a,(b,p0.2.2))
def zlF (p0:Int×(Int×Int)×Int):Option ((Int×(Int×Int)×Int)):=
 (zik p0.2.1).bind fun a=>some (p0.1,(a,p0.2.2))
def zlh (a:List (Int×(Int×Int)×Int)):Option ((List (Int×(Int×Int)×Int))):=
 some a
def zdB (p0:List (Int×(Int×Int)×Int)) (a:(List (Int×(Int×Int)×Int))×Int):Option (((List (Int×(Int×Int)×Int))×Int) ⊕ ((List (Int×(Int×Int)×Int)))):=
 if decide (a.2<(p0.length:Int)) then ((idx p0 a.2).bind fun b=>(zlF b).bind fun c=>(idx a.1 a.2).bind fun e=>(some (a.1.set a.2.toNat c)).bind fun d=>some (.inl (d,w64 (a.2+1)))) else (some (.inr a.1))
def za2 (p0:List (Int×(Int×Int)×Int)):Option ((List (Int×(Int×Int)×Int))):=
 (mkl 32 (p0.length:Int) (0,((0,0),0))).bind fun a=>(iter (zdB p0) (a,0)).bind fun b=>zlh b
def zbk (p0:Int) (p1:Int) (p2:Int):Option (Bool):=
 if decide (p0≥p1) then (some (decide (p0≤p2))) else (some false)
def zde (p0:Int×Int):Option (Bool):=
 (zbk p0.1 (-60) 60).bind fun a=>if a then ((zbk p0.2 (-60) 60).bind fun b=>some b) else (some false)
def zgC (p0:Int) (p1:Int):Option (Bool):=
 (zbk p0 0 (w64 (p1 - 1))).bind fun a=>some a
def zjt  : Option (Int):=
 some 0
def zap (p0:LI) (a:Int):Option (Int ⊕ (Unit ⊕ Int)):=
 if decide (a<(p0.length:Int)) then ((idx p0 a).bind fun b=>if !decide (b=0) then (some (.inr (.inr b))) else (some (.inl (w64 (a+1))))) else (some (.inr (.inl ())))
def zkV (p0:LI):Option (Int):=
 (iter (zap p0) 0).bind fun a=>match a with | .inl z=>zjt | .inr z=>some z
def zhd (p0:Int):Option (Bool):=
 some (!decide (p0=p0))
def zdh (p0:Int) (p1:Int):Option (Int):=
 (zhd p0).bind fun b=>(zhd p1).bind fun a=>if b then (if a then (some 0) else (some (-1))) else (if a then (some 1) else (if decide (p0<p1) then (some (-1)) else (if decide (p0>p1) then (some 1) else (some 0))))
def zah (p0:Int×Int) (p1:Int×Int):Option (Int):=
 (zdh p0.2 p1.2).bind fun a=>(zdh p0.1 p1.1).bind fun b=>(zkV [a,b]).bind fun c=>some c
def ziB (p0:Int×Int) (p1:Int×Int):Option (Bool):=
 (zah p0 p1).bind fun a=>some (decide (a<0))
def zjS (p0:LP):Option (Bool):=
 some (decide ((p0.length:Int)≤500))
def zce (a:Int) (b:Bool):Option (Int ⊕ (Unit ⊕ Bool)):=
 if b then (some (.inr (.inr false))) else (some (.inl (w64 (a+1))))
def zbl (p0:LP) (a:Int):Option (Int ⊕ (Unit ⊕ Bool)):=
 if decide (a<(p0.length:Int)) then ((idx p0 a).bind fun b=>(zde b.1).bind fun c=>if !c then (zce a true) else ((zgC b.2 160).bind fun d=>if !d then (zce a true) else (if decide (a>0) then ((idx p0 (w64 (a - 1))).bind fun e=>(ziB e.1 b.1).bind fun f=>zce a (!f)) else (zce a false)))) else (some (.inr (.inl ())))
def zeT (p0:LP):Option (Bool):=
 (iter (zbl p0) 0).bind fun a=>match a with | .inl z=>zjS p0 | .inr z=>some z
def zkO (p0:BS):Option (Bool):=
 if decide ((p0.length:Int)≥1) then (some (decide ((p0.length:Int)≤12))) else (some false)
def zbZ (a:Int) (b:Bool):Option (Int ⊕ (Unit ⊕ Bool)):=
 if b then (some (.inr (.inr false))) else (some (.inl (w64 (a+1))))
def za9 (a:Int) (b:UInt8) (c:Bool):Option (Int ⊕ (Unit ⊕ Bool)):=
 if !c then (if decide (a=0) then (zbZ a true) else (if decide ((b.toNat:Int)<48) then (zbZ a (!decide ((b.toNat:Int)=95))) else (if decide ((b.toNat:Int)>57) then (zbZ a (!decide ((b.toNat:Int)=95))) else (zbZ a false)))) else (zbZ a false)
def zbY (p0:BS) (a:Int):Option (Int ⊕ (Unit ⊕ Bool)):=
 if decide (a<(p0.length:Int)) then ((idx p0 a).bind fun b=>if decide ((b.toNat:Int)≥97) then (if decide ((b.toNat:Int)≤122) then (za9 a b true) else (if decide ((b.toNat:Int)≥65) then (za9 a b (decide ((b.toNat:Int)≤90))) else (za9 a b false))) else (if decide ((b.toNat:Int)≥65) then (za9 a b (decide ((b.toNat:Int)≤90))) else (za9 a b false))) else (some (.inr (.inl ())))
def zhR (p0:BS):Option (Bool):=
 (iter (zbY p0) 0).bind fun a=>match a with | .inl z=>zkO p0 | .inr z=>some z
def zep  : Option (Int):=
 some (-1)
def zeo (p0:LI) (p1:Int→Option Bool) (a:Int):Option (Int ⊕ (Unit ⊕ Int)):=
 if decide (a<(p0.length:Int)) then ((idx p0 a).bind fun b=>(p1 b).bind fun c=>if c then (some (.inr (.inr a))) else (some (.inl (w64 (a+1))))) else (some (.inr (.inl ())))
def zfS (p0:LI) (p1:Int→Option Bool):Option (Int):=
 (iter (zeo p0 p1) 0).bind fun a=>match a with | .inl z=>zep | .inr z=>some z
def zb4 (p0:LI) (p1:Int→Option Bool):Option (Bool):=
 (zfS p0 p1).bind fun a=>some (decide (a≥0))
def zbC (p0:Int) (p1:LG×LT):Option (Bool):=
 (zbk p0 0 (p1.1.length:Int)).bind fun a=>some (!a)
def zi6  : Option (Bool):=
 some true
def zcL (p0:LG×LT) (a:Int×(List (BS×Bool))) (b:BS×LI) (c:Bool):Option ((Int×(List (BS×Bool))) ⊕ (Unit ⊕ Bool)):=
 if c then (some (.inr (.inr false))) else ((zb4 b.2 (fun e=>zbC e p0)).bind fun d=>if d then (some (.inr (.inr false))) else (some (.inl (w64 (a.1+1),zgv a.2 b.1 true))))
def zaV (p0:LG×LT) (a:Int×(List (BS×Bool))):Option ((Int×(List (BS×Bool))) ⊕ (Unit ⊕ Bool)):=
 if decide (a.1<(p0.2.length:Int)) then ((idx p0.2 a.1).bind fun b=>(zhR b.1).bind fun c=>if !c then (zcL p0 a b true) else (if ((mget a.2 b.1).getD false) then (zcL p0 a b true) else (zcL p0 a b (!decide ((b.2.length:Int)=4))))) else (some (.inr (.inl ())))
def zi7 (p0:LG×LT):Option (Bool):=
 (iter (zaV p0) (0,([]:List (BS×Bool)))).bind fun a=>match a with | .inl z=>zi6 | .inr z=>some z
def zcK (a:Int×(List (BS×Bool))) (b:BS×Int) (c:Bool):Option ((Int×(List (BS×Bool))) ⊕ (Unit ⊕ Bool)):=
 if c then (some (.inr (.inr false))) else (some (.inl (w64 (a.1+1),zgv a.2 b.1 true)))
def zaW (p0:LG×LT) (a:Int×(List (BS×Bool))):Option ((Int×(List (BS×Bool))) ⊕ (Unit ⊕ Bool)):=
 if decide (a.1<(p0.1.length:Int)) then ((idx p0.1 a.1).bind fun b=>(zhR b.1).bind fun c=>if !c then (zcK a b true) else (if ((mget a.2 b.1).getD false) then (zcK a b true) else ((zbk b.2 1 4).bind fun d=>zcK a b (!d)))) else (some (.inr (.inl ())))
def zgF (p0:LG×LT) (a:Bool):Option (Bool):=
 if a then (some false) else ((iter (zaW p0) (0,([]:List (BS×Bool)))).bind fun b=>match b with | .inl z=>zi7 p0 | .inr z=>some z)
def zhc (p0:LG×LT):Option (Bool):=
 if decide ((p0.1.length:Int)>200) then (zgF p0 true) else ((zbk (p0.2.length:Int) 1 160).bind fun a=>zgF p0 (!a))
def zeq  : Option (Int):=
 some (-1)
def zaN (p0:LP) (p1:((Int×Int)×Int)→Option Bool) (a:Int):Option (Int ⊕ (Unit ⊕ Int)):=
 if decide (a<(p0.length:Int)) then ((idx p0 a).bind fun b=>(p1 b).bind fun c=>if c then (some (.inr (.inr a))) else (some (.inl (w64 (a+1))))) else (some (.inr (.inl ())))
def zaO (p0:LP) (p1:((Int×Int)×Int)→Option Bool):Option (Int):=
 (iter (zaN p0 p1) 0).bind fun a=>match a with | .inl z=>zeq | .inr z=>some z
def zer (p0:LP) (p1:((Int×Int)×Int)→Option Bool):Option (Bool):=
 (zaO p0 p1).bind fun a=>some (decide (a≥0))
def zbf (p0:LG×LT) (p1:Int):Option (Bool):=
 (zgC p1 (p0.2.length:Int)).bind fun a=>some a
def zaC (p0:(Int×Int)×Int) (p1:LG×LT):Option (Bool):=
 (zbf p1 p0.2).bind fun a=>some (!a)
def zeW (p0:LG×LT) (p1:LP):Option (Bool):=
 (zhc p0).bind fun a=>if a then ((zeT p1).bind fun b=>if b then ((zer p1 (fun d=>zaC d p0)).bind fun c=>some (!c)) else (some false)) else (some false)
def zeS (p0:Int):Option (Bool):=
 (zbk p0 1 16).bind fun a=>some a
def zi3 (a:LM):Option (LM):=
 some a
def zeD (a:LM×Int×(List (Int×Int))) (b:LM) (c:Int) (d:List (Int×Int)):Option ((LM×Int×(List (Int×Int))) ⊕ (LM)):=
 (idx b c).bind fun e=>(app 8 e [a.2.1]).bind fun f=>(some (b.set c.toNat f)).bind fun g=>some (.inl (g,w64 (a.2.1+1),d))
def zez (p0:Int) (b:LI) (a:LM×Int×(List (Int×Int))):Option ((LM×Int×(List (Int×Int))) ⊕ (LM)):=
 if decide (a.2.1<(p0.toNat:Int)) then ((idx b a.2.1).bind fun e=>(iter (gstep b) a.2.1).bind fun c=>if !(mhas a.2.2 c) then ((app 24 a.1 [([]:LI)]).bind fun d=>zeD a d (a.1.length:Int) (zgv a.2.2 a.2.1 (a.1.length:Int))) else (zeD a a.1 ((mget a.2.2 c).getD 0) a.2.2)) else (some (.inr a.1))
def zi4 (p0:Int) (a:LI):Option (LM):=
 (iter (zez p0 a) ([],0,([]:List (Int×Int)))).bind fun b=>zi3 b
def zeC (a:Int×LI) (b:LI):Option ((Int×LI) ⊕ (LI)):=
 some (.inl (w64 (a.1+1),b))
def zeA (p1:LB) (a:Int×LI):Option ((Int×LI) ⊕ (LI)):=
 if decide (a.1<(p1.length:Int)) then ((idx p1 a.1).bind fun b=>(idx a.2 b.1).bind fun e=>(iter (gstep a.2) b.1).bind fun c=>(idx a.2 b.2.1).bind fun f=>(iter (gstep a.2) b.2.1).bind fun d=>if decide (c<d) then (zeC a (a.2.set d.toNat c)) else (if decide (d<c) then (zeC a (a.2.set c.toNat d)) else (zeC a a.2))) else (some (.inr a.2))
def zi5 (p0:Int) (p1:LB) (a:LI):Option (LM):=
 (iter (zeA p1) (0,a)).bind fun b=>zi4 p0 b
def zeB (p0:Int) (a:Int×LI):Option ((Int×LI) ⊕ (LI)):=
 if decide (a.1<(p0.toNat:Int)) then ((zrH p0.toNat a.2 a.1).bind fun b=>some (.inl (w64 (a.1+1),b))) else (some (.inr a.2))
def zjq (p0:Int) (p1:LB):Option (LM):=
 (fmk 8 p0).bind fun b=>(iter (zeB p0) (0,b)).bind fun a=>zi5 p0 p1 a
def zhL  : Option (Int):=
 some (-1)
def zb3 (p0:LB) (p1:(Int×Int×Int)→Option Bool) (a:Int):Option (Int ⊕ (Unit ⊕ Int)):=
 if decide (a<(p0.length:Int)) then ((idx p0 a).bind fun b=>(p1 b).bind fun c=>if c then (some (.inr (.inr a))) else (some (.inl (w64 (a+1))))) else (some (.inr (.inl ())))
def zdy (p0:LB) (p1:(Int×Int×Int)→Option Bool):Option (Int):=
 (iter (zb3 p0 p1) 0).bind fun a=>match a with | .inl z=>zhL | .inr z=>some z
def zdR (b:LB) (a:Int):Option (LB):=
 (clr b a (0,(0,0))).bind fun c=>(zf7 c 0 a).bind fun d=>some d
def zbI (a:LB×Int×Int) (b:LB) (c:Int):Option ((LB×Int×Int) ⊕ (LB×Int)):=
 some (.inl (b,c,w64 (a.2.2+1)))
def zbH (p1:(Int×Int×Int)→Option Bool) (a:LB×Int×Int):Option ((LB×Int×Int) ⊕ (LB×Int)):=
 if decide (a.2.2<(a.1.length:Int)) then ((idx a.1 a.2.2).bind fun b=>(p1 b).bind fun c=>if !c then ((idx a.1 a.2.1).bind fun e=>(some (a.1.set a.2.1.toNat b)).bind fun d=>zbI a d (w64 (a.2.1+1))) else (zbI a a.1 a.2.1)) else (some (.inr (a.1,a.2.1)))
def zc0 (p0:LB) (p1:(Int×Int×Int)→Option Bool):Option (LB):=
 (zdy p0 p1).bind fun a=>if decide (a=(-1)) then (some p0) else ((iter (zbH p1) (p0,a,w64 (a+1))).bind fun b=>zdR b.1 b.2)
def zck (c:LB) (a:Bool):Option (LB):=
 if a then (some ([]:LB)) else ((app 24 ([]:LB) c).bind fun b=>some b)
def zes (p0:LB):Option (LB):=
 zck p0 false
def zhC (p0:Int×Int×Int) (p1:Int):Option (Bool):=
 some (decide (p0.2.2<p1))
def zhA (a:LM) (b:LB):Option (Int×LB):=
 some ((a.length:Int),b)
def zeV (a:LB×Int) (b:LB):Option ((LB×Int) ⊕ (LB)):=
 some (.inl (b,w64 (a.2+1)))
def zcW (p1:LB) (c:LI) (a:LB×Int):Option ((LB×Int) ⊕ (LB)):=
 if decide (a.2<(p1.length:Int)) then ((idx p1 a.2).bind fun b=>(idx c b.1).bind fun e=>(idx c b.2.1).bind fun f=>if !decide (e=f) then ((idx c b.1).bind fun g=>(idx c b.2.1).bind fun h=>(app 24 a.1 [(g,(h,b.2.2))]).bind fun d=>zeV a d) else (zeV a a.1)) else (some (.inr a.1))
def zhB (p1:LB) (a:LM) (b:LI):Option (Int×LB):=
 (iter (zcW p1 b) ([],0)).bind fun c=>zhA a c
def zhz (a:LI×Int) (b:LI):Option ((LI×Int) ⊕ (LI)):=
 some (.inl (b,w64 (a.2+1)))
def zbA (d:LI×Int) (b:LI) (a:LI×Int):Option ((LI×Int) ⊕ (LI)):=
 if decide (a.2<(b.length:Int)) then ((idx b a.2).bind fun c=>(idx a.1 c).bind fun f=>(some (a.1.set c.toNat d.2)).bind fun e=>some (.inl (e,w64 (a.2+1)))) else (some (.inr a.1))
def zaK (b:LM) (a:LI×Int):Option ((LI×Int) ⊕ (LI)):=
 if decide (a.2<(b.length:Int)) then ((idx b a.2).bind fun c=>(iter (zbA a c) (a.1,0)).bind fun d=>zhz a d) else (some (.inr a.1))
def zhn (p0:Int) (p1:LB) (p2:Int):Option (Int×LB):=
 (zes p1).bind fun c=>(zc0 c (fun f=>zhC f p2)).bind fun d=>(zjq p0 d).bind fun a=>(mkl 8 p0 0).bind fun e=>(iter (zaK a) (e,0)).bind fun b=>zhB p1 a b
def zaz (p0:LP) (p1:Int×Int) (p2:((Int×Int)×Int)→(Int×Int)→Option Int) (a:Int):Option (Int×Bool):=
 if decide (a<(p0.length:Int)) then ((idx p0 a).bind fun x23=>(p2 x23 p1).bind fun b=>some (a,decide (b=0))) else (some (a,false))
def zH (p0:LP) (p1:Int×Int) (p2:((Int×Int)×Int)→(Int×Int)→Option Int) (a:Int×Int):Option ((Int×Int) ⊕ Int):=
 if decide (a.1<a.2) then ((idx p0 (w64 (Int.fdiv (IntKind.wrap .u64 (w64 (a.1+a.2))) (2 ^ 1)))).bind fun b=>(p2 b p1).bind fun c=>if decide (c<0) then (some (.inl (w64 ((w64 (Int.fdiv (IntKind.wrap .u64 (w64 (a.1+a.2))) (2 ^ 1)))+1),a.2))) else (some (.inl (a.1,w64 (Int.fdiv (IntKind.wrap .u64 (w64 (a.1+a.2))) (2 ^ 1)))))) else (some (.inr a.1))
def zN (p0:LP) (p1:Int×Int) (p2:((Int×Int)×Int)→(Int×Int)→Option Int):Option (Int×Bool):=
 (iter (zH p0 p1 p2) (0,(p0.length:Int))).bind fun a=>zaz p0 p1 p2 a
def zO (p0:(Int×Int)×Int) (p1:Int×Int):Option (Int):=
 (zah p0.1 p1).bind fun a=>some a
def zc4 (p0:LP) (p1:Int×Int):Option (Int):=
 (zN p0 p1 (fun b c=>zO b c)).bind fun a=>if a.2 then (some a.1) else (some (-1))
def zbm (p0:Int×Int) (p1:Int×Int):Option ((Int×Int)):=
 some (w64 (p0.1+p1.1),w64 (p0.2+p1.2))
def zW (p0:Int×Int) (p1:Int):Option ((Int×Int)):=
 (idx [((0,1):Int×Int),((1,0):Int×Int),((0,(-1)):Int×Int),(((-1),0):Int×Int)] p1).bind fun a=>(zbm p0 a).bind fun b=>some b
def zb1 {σ:Type} (a:σ):Option (σ):=
 some a
def zb0 {σ:Type} (a:Int×σ) (b:σ):Option ((Int×σ) ⊕ σ):=
 some (.inl (w64 (a.1+1),b))
def zad {σ:Type} (a:Int×σ) (b:σ):Option ((Int×σ) ⊕ σ):=
 some (.inl (w64 (a.1+1),b))
def zK {σ:Type} (y0:σ→(Int×Int)→Int→Option σ) (p1:LP) (d:Int×σ) (e:(Int×Int)×Int) (a:Int×σ):Option ((Int×σ) ⊕ σ):=
 if decide (a.1<(([1,0]:List Int).length:Int)) then ((idx [1,0] a.1).bind fun b=>(zW e.1 b).bind fun f=>(zc4 p1 f).bind fun c=>if decide (c≥0) then ((y0 a.2 (d.1,c) b).bind fun g=>zad a g) else (zad a a.2)) else (some (.inr a.2))
def zL {σ:Type} (y0:σ→(Int×Int)→Int→Option σ) (p1:LP) (a:Int×σ):Option ((Int×σ) ⊕ σ):=
 if decide (a.1<(p1.length:Int)) then ((idx p1 a.1).bind fun b=>(iter (zK y0 p1 a b) (0,a.2)).bind fun c=>zb0 a c) else (some (.inr a.2))
def zcY {σ:Type} (y0:σ→(Int×Int)→Int→Option σ) (s0:σ) (p1:LP):Option (σ):=
 (iter (zL y0 p1) (0,s0)).bind fun a=>zb1 a
def zeI (p0:LP):Option ((LP)):=
 some p0
def zjo (p0:Int):Option (Int):=
 some (Int.tmod (w64 (p0+2)) 4)
def zaD (p0:LG×LT) (p1:Int) (p2:Int):Option (Int):=
 (idx p0.2 p1).bind fun b=>(idx b.2 p2).bind fun a=>if decide (a>0) then ((idx p0.1 (w64 (a - 1))).bind fun c=>some c.2) else (some 0)
def za8 (p0:LG×LT) (p1:Int) (p2:Int) (p3:Int):Option (Int):=
 (idx p0.2 p1).bind fun a=>(idx a.2 p2).bind fun b=>(idx p0.2 p3).bind fun c=>(zjo p2).bind fun d=>(idx c.2 d).bind fun e=>if decide (b=e) then ((zaD p0 p1 p2).bind fun f=>some f) else (some 0)
def zP (p0:LG×LT) (p1:LP) (a:LB) (q:(Int×Int)×Int):Option (LB):=
 (idx p1 q.1.1).bind fun c=>(idx p1 q.1.2).bind fun d=>(za8 p0 c.2 q.2 d.2).bind fun b=>if decide (b>0) then ((app 24 a [(q.1.1,(q.1.2,b))]).bind fun e=>some e) else (some a)
def zcX (p0:LG×LT) (p1:LP):Option (LB):=
 (zeI p1).bind fun a=>(zcY (fun s c d=>zP p0 p1 s (c,d)) [] a).bind fun b=>some b
def ziw (a:LM) (b:LM):Option ((LM×LM)):=
 some (b,a)
def zdI (p1:LB) (b:Int×LM):Option ((Int×LM) ⊕ (LM)):=
 if decide (b.1<(p1.length:Int)) then ((idx p1 b.1).bind fun a=>(idx b.2 a.1).bind fun c=>(idx c a.2.1).bind fun f=>(idx c a.2.1).bind fun j=>(some (b.2.set a.1.toNat (c.set a.2.1.toNat (w64 (f+a.2.2))))).bind fun e=>(idx e a.2.1).bind fun d=>(idx d a.1).bind fun g=>(idx d a.1).bind fun k=>(some (e.set a.2.1.toNat (d.set a.1.toNat (w64 (g+a.2.2))))).bind fun h=>some (.inl (w64 (b.1+1),h))) else (some (.inr b.2))
def zix (p1:LB) (a:LM) (b:LM):Option ((LM×LM)):=
 (iter (zdI p1) (0,a)).bind fun c=>ziw b c
def zdJ (p0:Int) (a:Int×LM×LM):Option ((Int×LM×LM) ⊕ (LM×LM)):=
 if decide (a.1<p0) then ((mkl 8 p0 0).bind fun b=>(app 24 a.2.1 [b]).bind fun c=>(mkl 8 p0 0).bind fun d=>(app 24 a.2.2 [d]).bind fun e=>some (.inl (w64 (a.1+1),c,e))) else (some (.inr (a.2.1,a.2.2)))
def ziy (p0:Int) (p1:LB):Option ((LM×LM)):=
 (iter (zdJ p0) (0,[],[])).bind fun a=>zix p1 a.1 a.2
def zg4 (p0 p1:Int):Option (Int×Int):=if 0≤p0∧p0<18446744073709551616∧0≤p1∧p1<18446744073709551616 then some (p0*p1 / 18446744073709551616,p0*p1 % 18446744073709551616) else none
def zjB (a:LI):Option (LI):=
 some a
def zdw  (a:LI×Int):Option ((LI×Int) ⊕ (LI)):=
 if decide (a.2<(a.1.length:Int)) then ((zf7 a.1 a.2 (a.1.length:Int)).bind fun d=>(zf7 a.1 0 a.2).bind fun b=>(some (cpy a.1 a.2.toNat b)).bind fun c=>some (.inl (c,w64 (a.2+((min b.length (a.1.length - a.2.toNat):Nat):Int))))) else (some (.inr a.1))
def zdx (p0:LI) (e:Int×Int) (b:Bool):Option (LI):=
 if b then none else ((mkl 8 (w64 e.2) 0).bind fun a=>(some (cpy a 0 p0)).bind fun c=>(iter (zdw) (c,((min p0.length a.length:Nat):Int))).bind fun d=>zjB d)
def zfA (p0:LI) (p1:Int):Option (LI):=
 if decide (p1<0) then none else ((zg4 (IntKind.wrap .u64 (p0.length:Int)) (IntKind.wrap .u64 p1)).bind fun a=>if decide (a.1>0) then (zdx p0 a true) else (zdx p0 a (decide (a.2>9223372036854775807))))
def zfE (p0:LM×LM) (p1:Int) (p2:Int):Option (Bool):=
 (idx p0.1 p1).bind fun d=>(idx d p2).bind fun a=>(idx p0.2 p1).bind fun b=>(idx b p2).bind fun c=>some (decide (a>c))
def zhs (p0:LI):Option LI:=some p0.reverse
def zgS (b:LI):Option (LI):=
 (zhs b).bind fun a=>(ne a).bind fun c=>some a
def zbc (p1:Int) (c:LI) (a:LI×Int):Option ((LI×Int) ⊕ (LI)):=
 if !decide (a.2=p1) then ((idx c a.2).bind fun b=>(app 8 a.1 [b]).bind fun d=>some (.inl (d,b))) else (some (.inr a.1))
def zgT (p1:Int) (p2:Int) (a:LI):Option (LI):=
 (idx a p2).bind fun b=>if decide (b<0) then (some ([]:LI)) else ((iter (zbc p1 a) ([p2],p2)).bind fun c=>zgS c)
def zgR (a:LI) (b:LI):Option ((LI×LI) ⊕ (LI)):=
 some (.inl (a,b))
def zcp (a:LI×Int×LI) (b:LI) (c:LI):Option ((LI×Int×LI) ⊕ (LI×LI)):=
 some (.inl (b,w64 (a.2.1+1),c))
def zbd (p0:LM×LM) (e:Int×LI) (a:LI×Int×LI) (b:Bool):Option ((LI×Int×LI) ⊕ (LI×LI)):=
 if b then ((idx a.1 a.2.1).bind fun f=>(some (a.1.set a.2.1.toNat e.1)).bind fun c=>(zqo ((p0.1.length:Int).toNat) a.2.2 a.2.1).bind fun d=>zcp a c d) else (zcp a a.1 a.2.2)
def zcn (p0:LM×LM) (b:Int×LI) (a:LI×Int×LI):Option ((LI×Int×LI) ⊕ (LI×LI)):=
 if decide (a.2.1<(p0.1.length:Int)) then ((idx a.1 a.2.1).bind fun c=>if decide (c<0) then ((zfE p0 b.1 a.2.1).bind fun d=>zbd p0 b a d) else (zbd p0 b a false)) else (some (.inr (a.1,a.2.2)))
def zco (p0:LM×LM) (a:LI×LI):Option ((LI×LI) ⊕ (LI)):=
 (zwl a.2).bind fun d=>if decide (d>0) then ((zvu a.2).bind fun c=>(iter (zcn p0 c) (a.1,0,c.2)).bind fun b=>zgR b.1 b.2) else (some (.inr a.1))
def zgB (p0:LM×LM) (p1:Int) (p2:Int):Option (LI):=
 (zfA [(-1)] (p0.1.length:Int)).bind fun a=>(mkc 8 (p0.1.length:Int)).bind fun b=>(zqo ((p0.1.length:Int).toNat) b p1).bind fun c=>(idx a p1).bind fun f=>(some (a.set p1.toNat p1)).bind fun d=>(iter (zco p0) (d,c)).bind fun e=>zgT p1 p2 e
def zfY (a:Int×LM) (b:LM):Option ((Int×LM) ⊕ (Int×(LM×LM))):=
 some (.inl (w64 (a.1+1),b))
def zbV (b:LI) (a:Int×LM):Option ((Int×LM) ⊕ (LM)):=
 if decide (a.1<(b.length:Int)) then ((idx b (w64 (a.1 - 1))).bind fun g=>(idx a.2 g).bind fun c=>(idx b a.1).bind fun d=>(idx c d).bind fun k=>(idx c d).bind fun p=>(some (a.2.set g.toNat (c.set d.toNat (w64 (k+1))))).bind fun h=>(idx b a.1).bind fun j=>(idx h j).bind fun e=>(idx b (w64 (a.1 - 1))).bind fun f=>(idx e f).bind fun m=>(idx e f).bind fun q=>(some (h.set j.toNat (e.set f.toNat (w64 (m - 1))))).bind fun n=>some (.inl (w64 (a.1+1),n))) else (some (.inr a.2))
def zbW (p0:LM×LM) (a:Int×LM) (b:LI) (c:Bool):Option ((Int×LM) ⊕ (Int×(LM×LM))):=
 if c then (some (.inr (a.1,(p0.1,a.2)))) else ((iter (zbV b) (1,a.2)).bind fun d=>zfY a d)
def zdH (p0:LM×LM) (p1:Int) (p2:Int) (p3:Int) (a:Int×LM):Option ((Int×LM) ⊕ (Int×(LM×LM))):=
 (zgB (p0.1,a.2) p1 p2).bind fun b=>if decide (b=[]) then (zbW p0 a b true) else (zbW p0 a b (decide (a.1≥p3)))
def zfD (p0:LM×LM) (p1:Int) (p2:Int) (p3:Int):Option (Int×(LM×LM)):=
 (iter (zdH p0 p1 p2 p3) (0,p0.2)).bind fun x23=>some x23
def zoj  : Option (Bool):=
 some true
def zjp (p0:Int) (p1:LB) (p2:Int) (a:Int):Option (Int ⊕ (Unit ⊕ Bool)):=
 if decide (a<p0) then ((ziy p0 p1).bind fun b=>(zfD b 0 a p2).bind fun x23=>if decide (x23.1<p2) then (some (.inr (.inr false))) else (some (.inl (w64 (a+1))))) else (some (.inr (.inl ())))
def zmx (p0:Int) (p1:LB) (p2:Int):Option (Bool):=
 (iter (zjp p0 p1 p2) 1).bind fun a=>match a with | .inl z=>zoj | .inr z=>some z
def zd9 (p0:LG×LT) (p1:LP) (p2:Int):Option (Bool×Bool):=
 (zcX p0 p1).bind fun a=>(zhn (p1.length:Int) a p2).bind fun x23=>if decide (x23.1>64) then (some (false,false)) else ((zmx x23.1 x23.2 p2).bind fun b=>some (b,true))
def zlP (p0:LG×LT) (p1:LP) (p2:Int):Option (Bool×Int):=
 (zeW p0 p1).bind fun a=>if !a then (some (false,1)) else ((zeS p2).bind fun b=>if !b then (some (false,2)) else ((zd9 p0 p1 p2).bind fun x23=>if !x23.2 then (some (false,4)) else (some (x23.1,0))))
def zaU (p0:TS×(LP)×Int):Option (Bool):=
 if decide ((p0.2.1.length:Int)=0) then (some false) else ((zlP p0.1 p0.2.1 p0.2.2).bind fun a=>if a.1 then (some (decide (a.2=0))) else (some false))
def zeF (p0:Int):Option (Bool):=
 (zbk p0 1 4).bind fun a=>some a
def zlJ:Option MkSt:=some ([],[],[([45],0)])
def zln (a:List (Int×Int)):Option ((List (Int×Int))):=
 some a
def zlm (a:(List (Int×Int))×Int) (b:List (Int×Int)):Option (((List (Int×Int))×Int) ⊕ ((List (Int×Int)))):=
 some (.inl (b,w64 (a.2+1)))
def zb5 (p1:Int×Int) (b:(List (Int×Int))×Int) (a:(List (Int×Int))×Int):Option (((List (Int×Int))×Int) ⊕ ((List (Int×Int)))):=
 if decide (a.2≤p1.1) then ((app 16 a.1 [(a.2,b.2)]).bind fun c=>some (.inl (c,w64 (a.2+1)))) else (some (.inr a.1))
def zdG (p0:Int×Int) (p1:Int×Int) (a:(List (Int×Int))×Int):Option (((List (Int×Int))×Int) ⊕ ((List (Int×Int)))):=
 if decide (a.2≤p1.2) then ((iter (zb5 p1 a) (a.1,p0.1)).bind fun b=>zlm a b) else (some (.inr a.1))
def ziu (p0:Int×Int) (p1:Int×Int):Option ((List (Int×Int))):=
 (iter (zdG p0 p1) ([],p0.2)).bind fun a=>zln a
def zf1 (p0:Int):Option ((List (Int×Int))):=
 (ziu (0,0) (w64 (p0 - 1),w64 (p0 - 1))).bind fun a=>some a
def zkN (p0:LP) (p1:Int):Option (Int):=
 (zeT p0).bind fun b=>if !b then (some 1) else ((zeF p1).bind fun a=>if !a then (some 2) else (some 0))
def ziv (p0:Int×Int) (p1:Int×Int) (p2:Int):Option ((Int×Int)):=
 some (w64 ((w64 (p2*p0.1))+p1.1),w64 ((w64 (p2*p0.2))+p1.2))
def zar (c:LP) (a:Bool):Option (LP):=
 if a then (some ([]:LP)) else ((app 24 ([]:LP) c).bind fun b=>some b)
def zaj (p0:LP):Option (LP):=
 zar p0 false
def zhE (p0:(Int×Int)×Int) (p1:(Int×Int)×Int):Option (Int):=
 (zah p0.1 p1.1).bind fun a=>some a
def zbi (a b:(Int×Int)×Int):Int:=if a.1.2<b.1.2 then -1 else if b.1.2<a.1.2 then 1 else if a.1.1<b.1.1 then -1 else if b.1.1<a.1.1 then 1 else 0
def zfd (p0:LP):Option LP:=
 if p0.length≤1048576 then some (Go.Sort.pdq (fun x y=>decide (zbi x y<0)) p0.toArray 0 p0.length (Go.Lib.bitLen p0.length) true true).toList else none
def zjU (b:LP):Option ((LP)×Int):=
 (zfd b).bind fun a=>(zeT a).bind fun c=>if !c then (some ([],4)) else (some (a,0))
def zjT (a:LP×Int) (b:LP):Option ((LP×Int) ⊕ (LP)):=
 some (.inl (b,w64 (a.2+1)))
def zdf (p1:Int) (b:(Int×Int)×Int) (c:(List (Int×Int))) (a:LP×Int):Option ((LP×Int) ⊕ (LP)):=
 if decide (a.2<(c.length:Int)) then ((idx c a.2).bind fun e=>(ziv b.1 e p1).bind fun f=>(app 24 a.1 [(f,w64 ((w64 ((w64 (b.2*p1))*p1))+a.2))]).bind fun d=>some (.inl (d,w64 (a.2+1)))) else (some (.inr a.1))
def zdg (p0:LP) (p1:Int) (a:LP×Int):Option ((LP×Int) ⊕ (LP)):=
 if decide (a.2<(p0.length:Int)) then ((idx p0 a.2).bind fun b=>(zf1 p1).bind fun c=>(iter (zdf p1 b c) (a.1,0)).bind fun d=>zjT a d) else (some (.inr a.1))
def ziA (p0:LP) (p1:Int):Option ((LP)×Int):=
 (zkN p0 p1).bind fun a=>if !decide (a=0) then (some ([],a)) else ((iter (zdg p0 p1) ([],0)).bind fun b=>zjU b)
def zf3 (p0:MkSt×TS×Int):Option (Int×Int×MkSt):=
 some (w64 ((w64 (p0.2.2*(p0.2.1.1.length:Int)))+(w64 ((w64 ((w64 (2*(p0.2.1.2.length:Int)))*p0.2.2))*(w64 (p0.2.2 - 1))))),w64 ((w64 ((p0.2.1.2.length:Int)*p0.2.2))*p0.2.2),p0.1)
def zcd (q:MkSt) (p1:BS) (p2:Int):Option MkSt:=(app 24 q.1 [(p1,p2)]).bind fun y=>some (y,q.2.1,zgv q.2.2 p1 (y.length:Int))
def zhU (p0 p1:Int):Option BS:=if p1=10 then some (Go.Lib.itoa p0) else none
def ziC (p0:Int):Option (BS):=
 (zhU p0 10).bind fun a=>some a
def zlI (p0:BS) (p1:Int):Option (BS):=
 (ziC p1).bind fun a=>(zif p0 a).bind fun b=>some b
def zhP (p0:BS) (p1:Int) (p2:Int):Option (BS):=
 (zlI p0 p1).bind fun c=>(zif c ([95]:BS)).bind fun d=>(ziC p2).bind fun a=>(zif d a).bind fun b=>some b
def z7 (p0:BS) (p1:Int) (p2:Int×Int):Option (BS):=
 (zhP p0 p1 p2.1).bind fun d=>(zif d ([95]:BS)).bind fun a=>(ziC p2.2).bind fun b=>(zif a b).bind fun c=>some c
def zdV (a:MkSt):Option (MkSt):=
 some a
def zdT (a:Int×MkSt) (b:MkSt):Option ((Int×MkSt) ⊕ MkSt):=
 some (.inl (w64 (a.1+1),b))
def zbO (a:Int×MkSt) (b:MkSt):Option ((Int×MkSt) ⊕ MkSt):=
 some (.inl (w64 (a.1+1),b))
def zal (p0:MkSt×TS×Int) (d:Int×MkSt) (b:(List (Int×Int))) (a:Int×MkSt):Option ((Int×MkSt) ⊕ MkSt):=
 if decide (a.1<(b.length:Int)) then ((idx b a.1).bind fun c=>if decide (c.2<(w64 (p0.2.2 - 1))) then ((z7 ([118]:BS) d.1 c).bind fun e=>(zcd a.2 e 1).bind fun f=>zbO a f) else (zbO a a.2)) else (some (.inr a.2))
def zdU (p0:MkSt×TS×Int) (a:Int×MkSt) (b:MkSt):Option ((Int×MkSt) ⊕ MkSt):=
 (zf1 p0.2.2).bind fun c=>(iter (zal p0 a c) (0,b)).bind fun d=>zdT a d
def zbN (a:Int×MkSt) (b:MkSt):Option ((Int×MkSt) ⊕ MkSt):=
 some (.inl (w64 (a.1+1),b))
def zam (p0:MkSt×TS×Int) (c:Int×MkSt) (x23:(List (Int×Int))) (a:Int×MkSt):Option ((Int×MkSt) ⊕ MkSt):=
 if decide (a.1<(x23.length:Int)) then ((idx x23 a.1).bind fun b=>if decide (b.1<(w64 (p0.2.2 - 1))) then ((z7 ([104]:BS) c.1 b).bind fun d=>(zcd a.2 d 1).bind fun e=>zbN a e) else (zbN a a.2)) else (some (.inr a.2))
def zan (p0:MkSt×TS×Int) (a:Int×MkSt):Option ((Int×MkSt) ⊕ MkSt):=
 if decide (a.1<(p0.2.1.2.length:Int)) then ((zf1 p0.2.2).bind fun x23=>(iter (zam p0 a x23) (0,a.2)).bind fun b=>zdU p0 a b) else (some (.inr a.2))
def zdW (p0:MkSt×TS×Int) (a:MkSt):Option (MkSt):=
 (iter (zan p0) (0,a)).bind fun b=>zdV b
def zdS (a:Int×MkSt) (b:MkSt):Option ((Int×MkSt) ⊕ MkSt):=
 some (.inl (w64 (a.1+1),b))
def zak (p0:MkSt×TS×Int) (b:Int×MkSt) (e:BS×Int) (a:Int×MkSt):Option ((Int×MkSt) ⊕ MkSt):=
 if decide (a.1<p0.2.2) then ((zhP ([103]:BS) (w64 (b.1+1)) a.1).bind fun c=>(zcd a.2 c e.2).bind fun d=>some (.inl (w64 (a.1+1),d))) else (some (.inr a.2))
def zaF (p0:MkSt×TS×Int) (a:Int×MkSt):Option ((Int×MkSt) ⊕ MkSt):=
 if decide (a.1<(p0.2.1.1.length:Int)) then ((idx p0.2.1.1 a.1).bind fun c=>(iter (zak p0 a c) (0,a.2)).bind fun b=>zdS a b) else (some (.inr a.2))
def zc2 (p0:MkSt×TS×Int):Option (MkSt):=
 (iter (zaF p0) (0,p0.1)).bind fun a=>zdW p0 a
def zns (p0:Bool) (p1:BS):Option (BS):=
 if p0 then (some ([45]:BS)) else (some p1)
def zat (p0:MkSt×TS×Int) (p1:Int) (p2:Int) (p3:Int):Option (BS×MkSt):=
 (idx p0.2.1.2 p1).bind fun b=>(idx b.2 p2).bind fun a=>(zhP ([103]:BS) a p3).bind fun c=>(zns (decide (a=0)) c).bind fun d=>some (d,p0.1)
def zeR (m:LG) (p2:LW) (s:LI×Int):Option ((LI×Int) ⊕ LI):=
 if decide (s.2<(p2.length:Int))=true then (idx p2 s.2).bind fun x=>(app 8 s.1 [(mget m x).getD 0]).bind fun z=>some (.inl (z,w64 (s.2+1))) else some (.inr s.1)
def zfb (q:MkSt) (p1:BS) (p2:LW):Option (Int×MkSt):=
 (iter (zeR q.2.2 p2) ([],0)).bind fun sd=>(app 40 q.2.1 [(p1,sd)]).bind fun y=>some (w64 ((y.length:Int) - 1),(q.1,y,q.2.2))
def zaQ (p1:Int) (p2:Int×Int) (a:BS) (b:BS) (c:BS) (d:BS) (e:MkSt):Option (MkSt):=
 (z7 ([112]:BS) p1 p2).bind fun f=>(zfb e f [a,c,b,d]).bind fun g=>some g.2
def zaR (p0:MkSt×TS×Int) (p1:Int) (p2:Int×Int) (f:BS) (a:BS) (b:BS) (c:BS) (d:MkSt):Option (MkSt):=
 if decide (p2.1=0) then ((zat (d,p0.2) p1 3 p2.2).bind fun e=>zaQ p1 p2 a b c e.1 e.2) else (zaQ p1 p2 a b c f d)
def zaS (p0:MkSt×TS×Int) (p1:Int) (p2:Int×Int) (f:BS) (a:BS) (b:BS) (c:BS) (d:MkSt):Option (MkSt):=
 if decide (p2.1=(w64 (p0.2.2 - 1))) then ((zat (d,p0.2) p1 1 p2.2).bind fun e=>zaR p0 p1 p2 a b c e.1 e.2) else (zaR p0 p1 p2 a b c f d)
def zaT (p0:MkSt×TS×Int) (p1:Int) (p2:Int×Int) (f:BS) (a:BS) (b:BS) (c:BS) (d:MkSt):Option (MkSt):=
 if decide (p2.2=0) then ((zat (d,p0.2) p1 2 p2.1).bind fun e=>zaS p0 p1 p2 a b c e.1 e.2) else (zaS p0 p1 p2 a b c f d)
def zdL (p0:MkSt×TS×Int) (p1:Int) (p2:Int×Int):Option (MkSt):=
 (z7 ([118]:BS) p1 p2).bind fun e=>(z7 ([118]:BS) p1 (p2.1,w64 (p2.2 - 1))).bind fun a=>(z7 ([104]:BS) p1 p2).bind fun b=>(z7 ([104]:BS) p1 (w64 (p2.1 - 1),p2.2)).bind fun c=>if decide (p2.2=(w64 (p0.2.2 - 1))) then ((zat p0 p1 0 p2.1).bind fun d=>zaT p0 p1 p2 a b c d.1 d.2) else (zaT p0 p1 p2 a b c e p0.1)
def zgX (p0:TS×(LP)×Int) (b:(LP)×Int) (a:MkSt):Option ((TS×(LP)×Int)×Int):=
 (zaU ((a.1,a.2.1),(b.1,p0.2.2))).bind fun c=>if !c then (some ((([],[]),([],0)),5)) else (some (((a.1,a.2.1),(b.1,p0.2.2)),0))
def zgW (a:Int×MkSt) (b:MkSt):Option ((Int×MkSt) ⊕ MkSt):=
 some (.inl (w64 (a.1+1),b))
def zbg (p0:TS×(LP)×Int) (p1:Int) (c:Int×MkSt) (b:(List (Int×Int))) (a:Int×MkSt):Option ((Int×MkSt) ⊕ MkSt):=
 if decide (a.1<(b.length:Int)) then ((idx b a.1).bind fun d=>(zdL (a.2,(p0.1,p1)) c.1 d).bind fun e=>some (.inl (w64 (a.1+1),e))) else (some (.inr a.2))
def zbh (p0:TS×(LP)×Int) (p1:Int) (a:Int×MkSt):Option ((Int×MkSt) ⊕ MkSt):=
 if decide (a.1<(p0.1.2.length:Int)) then ((zf1 p1).bind fun c=>(iter (zbg p0 p1 a c) (0,a.2)).bind fun b=>zgW a b) else (some (.inr a.2))
def zcq (p0:TS×(LP)×Int) (p1:Int) (a:(LP)×Int) (b:Int×Int×MkSt) (c:Bool):Option ((TS×(LP)×Int)×Int):=
 if c then (some ((([],[]),([],0)),4)) else ((zc2 (b.2.2,(p0.1,p1))).bind fun d=>(iter (zbh p0 p1) (0,d)).bind fun e=>zgX p0 a e)
def zgG (p0:TS×(LP)×Int) (p1:Int):Option ((TS×(LP)×Int)×Int):=
 (zaU p0).bind fun c=>if !c then (some ((([],[]),([],0)),1)) else ((zeF p1).bind fun d=>if !d then (some ((([],[]),([],0)),2)) else (if !decide (p0.2.2=2) then (some ((([],[]),([],0)),5)) else (zlJ.bind fun e=>(ziA p0.2.1 p1).bind fun b=>(zf3 (e,(p0.1,p1))).bind fun a=>if decide (a.1>200) then (zcq p0 p1 b a true) else (if decide (a.2.1>160) then (zcq p0 p1 b a true) else (zcq p0 p1 b a (!decide (b.2=0)))))))
def zhD (p0:LP):Option ((LP)):=
 (zaj p0).bind fun a=>some a
def zs9 (p:Int×(Int×Int)×Int):Value:=if decide (p.1=1)=true then .iface 183 (.agg #[.int .i64 p.2.1.1,.int .i64 p.2.1.2,.int .i64 p.2.2]) else if decide (p.1=2)=true then .iface 135 (.agg #[.int .i64 p.2.1.1,.int .i64 p.2.1.2,.int .i64 p.2.2]) else if decide (p.1=3)=true then .iface 184 (.agg #[.int .i64 p.2.1.1,.int .i64 p.2.1.2,.int .i64 p.2.2]) else .nilIface
theorem zxd {p:Int×(Int×Int)×Int} (h:decide (p.1=1)=true):zs9 p=.iface 183 (.agg #[.int .i64 p.2.1.1,.int .i64 p.2.1.2,.int .i64 p.2.2]):=by unfold zs9;rw [if_pos h]
theorem zxc {p:Int×(Int×Int)×Int} (h:decide (p.1=2)=true):zs9 p=.iface 135 (.agg #[.int .i64 p.2.1.1,.int .i64 p.2.1.2,.int .i64 p.2.2]):=by have:=of_decide_eq_true h;unfold zs9;rw [if_neg (by simp [this]),if_pos h]
theorem zxb {p:Int×(Int×Int)×Int} (h:decide (p.1=3)=true):zs9 p=.iface 184 (.agg #[.int .i64 p.2.1.1,.int .i64 p.2.1.2,.int .i64 p.2.2]):=by have:=of_decide_eq_true h;unfold zs9;rw [if_neg (by simp [this]),if_neg (by simp [this]),if_pos h]
theorem zxe {p:Int×(Int×Int)×Int} (h:decide (p.1=1)=false) (h2:decide (p.1=2)=false) (h3:decide (p.1=3)=false):zs9 p=.nilIface:=by unfold zs9;rw [if_neg (by simp [h]),if_neg (by simp [h2]),if_neg (by simp [h3])]
abbrev Sy:=TS×LP×Int
abbrev CrySt:=Sy×LP×List ((Int×Int)×LI)
def zkk (b bm bo:Nat):List Nat:=[b,bm,bo]
def cat (m:LP) (p:Int×Int):Int:=if mhas m p=true then (mget m p).getD 0 else -1
def zfc (q:CrySt) (p:Int×Int):Option Int:=some (cat q.2.1 p)
def zhQ (a:Int):Option (Int):=
 some a
def zb8 (a:Int×Int) (b:Int):Option ((Int×Int) ⊕ Int):=
 some (.inl (b,w64 (a.2+1)))
def zb7 (p0:LG×LT) (p1:Int×Int) (p2:Int) (p3:(Int×Int)→Option Int) (a:Int×Int):Option ((Int×Int) ⊕ Int):=
 if decide (a.2<4) then ((zW p1 a.2).bind fun c=>(p3 c).bind fun b=>if decide (b≥0) then ((za8 p0 p2 a.2 b).bind fun d=>zb8 a (w64 (a.1+d))) else (zb8 a a.1)) else (some (.inr a.1))
def zaX (p0:LG×LT) (p1:Int×Int) (p2:Int) (p3:(Int×Int)→Option Int):Option (Int):=
 (iter (zb7 p0 p1 p2 p3) (0,0)).bind fun a=>zhQ a
def za6 (q:CrySt) (p:Int×Int) (k:Int):Option Bool:=
 (zde p).bind fun x=>if x=true then (if decide (cat q.2.1 p<0)=true then (zaX q.1.1 p k (zfc q)).bind fun s=>some (decide (s≥q.1.2.2)) else some false) else some false
def zf0 (a:CrySt):Option (CrySt):=
 some a
def za5 (a:Int×CrySt) (b:CrySt):Option ((Int×CrySt) ⊕ CrySt):=
 some (.inl (w64 (a.1+1),b))
def zcV (a:Int×CrySt) (b:(Int×Int)) (c:LI):Option ((Int×CrySt) ⊕ CrySt):=
 if decide ((c.length:Int)>0) then (za5 a (a.2.1,a.2.2.1,zgv a.2.2.2 b c)) else (za5 a (a.2.1,a.2.2.1,zoa a.2.2.2 b))
def za4 (a:LI×Int) (b:LI):Option ((LI×Int) ⊕ (LI)):=
 some (.inl (b,w64 (a.2+1)))
def zZ (b:Int×CrySt) (c:(Int×Int)) (a:LI×Int):Option ((LI×Int) ⊕ (LI)):=
 if decide (a.2<(b.2.1.1.2.length:Int)) then ((za6 b.2 c a.2).bind fun d=>if d then ((app 8 a.1 [a.2]).bind fun e=>za4 a e) else (za4 a a.1)) else (some (.inr a.1))
def zax (p1:Int×Int) (a:Int×CrySt):Option ((Int×CrySt) ⊕ CrySt):=
 if decide (a.1<4) then ((zW p1 a.1).bind fun b=>(iter (zZ a b) ([],0)).bind fun c=>zcV a b c) else (some (.inr a.2))
def zb6 (p0:CrySt) (p1:Int×Int):Option (CrySt):=
 (iter (zax p1) (0,p0)).bind fun a=>zf0 a
def zkK (a:CrySt):Option (CrySt):=
 some a
def zby (p1:LP) (a:Int×CrySt):Option ((Int×CrySt) ⊕ CrySt):=
 if decide (a.1<(p1.length:Int)) then ((idx p1 a.1).bind fun b=>(zb6 a.2 b.1).bind fun c=>some (.inl (w64 (a.1+1),c))) else (some (.inr a.2))
def zhx (p1:LP) (a:CrySt):Option (CrySt):=
 (iter (zby p1) (0,a)).bind fun b=>zkK b
def zbz (p1:LP) (a:Int×CrySt):Option ((Int×CrySt) ⊕ CrySt):=
 if decide (a.1<(p1.length:Int)) then ((idx p1 a.1).bind fun b=>some (.inl (w64 (a.1+1),(a.2.1,zgv a.2.2.1 b.1 b.2,a.2.2.2)))) else (some (.inr a.2))
def zhl (p0:TS×(LP)×Int) (p1:LP):Option (CrySt):=
 (iter (zbz p1) (0,(((p0.1.1,p0.1.2),p0.2.1,p0.2.2),[],[]))).bind fun a=>zhx p1 a
def zeZ (p0:LP) (p1:Int×Int) (p2:Int):Option ((LP)):=
 (zN p0 p1 (fun d e=>zO d e)).bind fun a=>(zaj p0).bind fun b=>(zyg b a.1 (p1,p2)).bind fun c=>some c
def zgE (p1:LP) (p2:(Int×Int)×Int) (a:Bool):Option ((LP)×Int):=
 if a then (some ([],5)) else (if decide ((p1.length:Int)≥500) then (some ([],4)) else ((zeZ p1 p2.1 p2.2).bind fun b=>some (b,0)))
def zhb (p0:TS×(LP)×Int) (p1:LP) (p2:(Int×Int)×Int) (p3:CrySt→(Int×Int)→Int→Option Bool):Option ((LP)×Int):=
 (zbf p0.1 p2.2).bind fun a=>if !a then (zgE p1 p2 true) else ((zhl p0 p1).bind fun b=>(p3 b p2.1 p2.2).bind fun c=>zgE p1 p2 (!c))
def zbe (q:CrySt) (p:Int×Int) (k:Int):Option Bool:=
 (zde p).bind fun x=>if x=true then (if decide (cat q.2.1 p<0)=true then (zaX q.1.1 p k (zfc q)).bind fun s=>zbk s 1 (w64 (q.1.2.2 - 1)) else some false) else some false
def zfo (p0:((Int×Int)×Int)) (p1:TS×(LP)×Int) (p2:LP):Option ((LP)×Int):=
 (zhb p1 p2 p0 (fun b c d=>zbe b c d)).bind fun a=>some (a.1,a.2)
def zfZ (p0:((Int×Int)×Int)) (p1:TS×(LP)×Int) (p2:LP):Option ((LP)×Int):=
 (zhb p1 p2 p0 (fun b c d=>za6 b c d)).bind fun a=>some (a.1,a.2)
def zao (p0:LP) (p1:Int×Int):Option (Int):=
 (zN p0 p1 (fun c d=>zO c d)).bind fun a=>if a.2 then ((idx p0 a.1).bind fun b=>some b.2) else (some (-1))
def zeY (p0:TS×(LP)×Int) (p1:(Int×Int)×Int):Option (Bool):=
 (zao p0.2.1 p1.1).bind fun a=>some (decide (a=p1.2))
def zea (p0:TS×(LP)×Int) (p1:LP) (p2:(Int×Int)×Int):Option (Bool):=
 (zeY p0 p2).bind fun a=>if !a then ((zaX p0.1 p2.1 p2.2 (fun c=>zao p1 c)).bind fun b=>some (decide (b<p0.2.2))) else (some false)
def zdQ (b:LP) (a:Int):Option (LP):=
 (clr b a ((0,0),0)).bind fun c=>(zf7 c 0 a).bind fun d=>some d
def zbG (a:LP×Int×Int) (b:LP) (c:Int):Option ((LP×Int×Int) ⊕ (LP×Int)):=
 some (.inl (b,c,w64 (a.2.2+1)))
def zbF (p1:((Int×Int)×Int)→Option Bool) (a:LP×Int×Int):Option ((LP×Int×Int) ⊕ (LP×Int)):=
 if decide (a.2.2<(a.1.length:Int)) then ((idx a.1 a.2.2).bind fun b=>(p1 b).bind fun c=>if !c then ((idx a.1 a.2.1).bind fun e=>(some (a.1.set a.2.1.toNat b)).bind fun d=>zbG a d (w64 (a.2.1+1))) else (zbG a a.1 a.2.1)) else (some (.inr (a.1,a.2.1)))
def zcZ (p0:LP) (p1:((Int×Int)×Int)→Option Bool):Option (LP):=
 (zaO p0 p1).bind fun a=>if decide (a=(-1)) then (some p0) else ((iter (zbF p1) (p0,a,w64 (a+1))).bind fun b=>zdQ b.1 b.2)
def zgN  : Option (Int):=
 some (-1)
def zcj (p0:List (Int×Int)) (p1:Int×Int) (a:Int):Option (Int ⊕ (Unit ⊕ Int)):=
 if decide (a<(p0.length:Int)) then ((idx p0 a).bind fun b=>if (decide (p1.1=b.1)&&decide (p1.2=b.2)) then (some (.inr (.inr a))) else (some (.inl (w64 (a+1))))) else (some (.inr (.inl ())))
def ziV (p0:List (Int×Int)) (p1:Int×Int):Option (Int):=
 (iter (zcj p0 p1) 0).bind fun a=>match a with | .inl z=>zgN | .inr z=>some z
def zgO (p0:List (Int×Int)) (p1:Int×Int):Option (Bool):=
 (ziV p0 p1).bind fun a=>some (decide (a≥0))
def zdX (p0:(Int×Int)×Int) (p1:List (Int×Int)):Option (Bool):=
 (zgO p1 p0.1).bind fun a=>some a
def zc3 (p0:LP) (p1:List (Int×Int)):Option ((LP)):=
 (zaj p0).bind fun a=>(zcZ a (fun c=>zdX c p1)).bind fun b=>some b
def zaE (p0:((Int×Int)×Int)) (p2:LP) (a:Bool):Option ((LP)×Int):=
 if a then (some ([],5)) else ((zc3 p2 [p0.1]).bind fun b=>some (b,0))
def zc1 (p0:((Int×Int)×Int)) (p1:TS×(LP)×Int) (p2:LP):Option ((LP)×Int):=
 (zbf p1.1 p0.2).bind fun a=>if !a then (zaE p0 p2 true) else ((zao p2 p0.1).bind fun b=>if !decide (b=p0.2) then (zaE p0 p2 true) else ((zea p1 p2 p0).bind fun c=>zaE p0 p2 (!c)))
def zj3 (a:Int) (b:LP):Option ((LP)×Int×Int×Int):=
 some (b,a,0,0)
def zcr (a:Int×Int×LP) (b:Int) (c:LP):Option ((Int×Int×LP) ⊕ ((Int×LP) ⊕ ((LP)×Int×Int×Int))):=
 some (.inl (b,w64 (a.2.1+1),c))
def zeb (p0:TS×(LP)×Int) (p1:List (Int×(Int×Int)×Int)) (a:Int×Int×LP):Option ((Int×Int×LP) ⊕ ((Int×LP) ⊕ ((LP)×Int×Int×Int))):=
 if decide (a.2.1<(p1.length:Int)) then ((idx p1 a.2.1).bind fun b=>if decide (b.1=1) then ((zfZ b.2 p0 a.2.2).bind fun c=>if !decide (c.2=0) then (some (.inr (.inr ([],0,a.2.1,c.2)))) else (zcr a a.1 c.1)) else (if decide (b.1=2) then ((zfo b.2 p0 a.2.2).bind fun d=>if !decide (d.2=0) then (some (.inr (.inr ([],0,a.2.1,d.2)))) else (zcr a (w64 (a.1+1)) d.1)) else (if decide (b.1=3) then ((zc1 b.2 p0 a.2.2).bind fun e=>if !decide (e.2=0) then (some (.inr (.inr ([],0,a.2.1,e.2)))) else (zcr a a.1 e.1)) else (some (.inr (.inr ([],0,a.2.1,2))))))) else (some (.inr (.inl (a.1,a.2.2))))
def zgH (p0:TS×(LP)×Int) (p1:List (Int×(Int×Int)×Int)):Option ((LP)×Int×Int×Int):=
 (zaU p0).bind fun a=>if !a then (some ([],0,0,1)) else (if decide ((p1.length:Int)>200) then (some ([],0,0,2)) else ((zhD p0.2.1).bind fun b=>(iter (zeb p0 p1) (0,0,b)).bind fun c=>match c with | .inl z=>zj3 z.1 z.2 | .inr z=>some z))
def zma (a:List (Int×Int)):Option ((List (Int×Int))):=
 some a
def zgD (a:(List (Int×Int))×Int) (b:List (Int×Int)):Option (((List (Int×Int))×Int) ⊕ ((List (Int×Int)))):=
 some (.inl (b,w64 (a.2+1)))
def zeE (p0:LP) (p1:LP) (a:(List (Int×Int))×Int):Option (((List (Int×Int))×Int) ⊕ ((List (Int×Int)))):=
 if decide (a.2<(p1.length:Int)) then ((idx p1 a.2).bind fun b=>(zao p0 b.1).bind fun c=>if !decide (c=b.2) then ((app 16 a.1 [b.1]).bind fun d=>zgD a d) else (zgD a a.1)) else (some (.inr a.1))
def zjr (p0:LP) (p1:LP):Option ((List (Int×Int))):=
 (iter (zeE p0 p1) ([],0)).bind fun a=>zma a
def zg8 (p0:Int) (p1:Int):Option (Int):=
 if decide (p0<0) then ((zmS .i64 (w64 ((w64 ((w64 (0 - p0))+p1)) - 1)) p1).bind fun a=>some (w64 (0 - a))) else ((zmS .i64 p0 p1).bind fun b=>some b)
def zkg (p0:Int×Int) (p1:Int):Option ((Int×Int)×(Int×Int)):=
 (zg8 p0.1 p1).bind fun a=>(zg8 p0.2 p1).bind fun b=>some ((a,b),(w64 (p0.1 - (w64 (p1*a))),w64 (p0.2 - (w64 (p1*b)))))
def zcl (c:List (Int×Int)) (a:Bool):Option ((List (Int×Int))):=
 if a then (some ([]:List (Int×Int))) else ((app 16 ([]:List (Int×Int)) c).bind fun b=>some b)
def zgt (p0:List (Int×Int)):Option ((List (Int×Int))):=
 zcl p0 false
def zj5 (a b:Int×Int):Int:=if a.2<b.2 then -1 else if b.2<a.2 then 1 else if a.1<b.1 then -1 else if b.1<a.1 then 1 else 0
def zoq (l:List (Int×Int)):List (Int×Int):=(Go.Sort.pdq (fun x y=>decide (zj5 x y<0)) l.toArray 0 l.length (Go.Lib.bitLen l.length) true true).toList
def zc5:List (Int×Int)→List (Int×Int)
 | a::b::l=>if a=b then zc5 (b::l) else a::zc5 (b::l)
 | l=>l
def zey (p0:List (Int×Int)):Option (List (Int×Int)):=if p0.length≤1000000 then some (zc5 (zoq p0)) else none
def zkM (a:List (Int×Int)):Option ((List (Int×Int))):=
 (zey a).bind fun b=>some b
def zf2 (p0:LP) (p1:Int) (a:(List (Int×Int))×Int):Option (((List (Int×Int))×Int) ⊕ ((List (Int×Int)))):=
 if decide (a.2<(p0.length:Int)) then ((idx p0 a.2).bind fun b=>(zkg b.1 p1).bind fun c=>(app 16 a.1 [c.1]).bind fun d=>some (.inl (d,w64 (a.2+1)))) else (some (.inr a.1))
def zlo (p0:LP) (p1:Int):Option ((List (Int×Int))):=
 (iter (zf2 p0 p1) ([],0)).bind fun a=>zkM a
def zcJ (p2:Int) (a:Int):Option (Int):=
 (zmS .i64 a (w64 (p2*p2))).bind fun b=>some b
def zbB (a:Int×Int) (b:Int) (c:Bool):Option ((Int×Int) ⊕ (Int ⊕ Int)):=
 if c then (some (.inr (.inr (-1)))) else (some (.inl (w64 (b - a.2),w64 (a.2+1))))
def zaP (p0:LP) (p1:Int×Int) (p2:Int) (c:(List (Int×Int))) (a:Int×Int):Option ((Int×Int) ⊕ (Int ⊕ Int)):=
 if decide (a.2<(c.length:Int)) then ((idx c a.2).bind fun d=>(ziv p1 d p2).bind fun e=>(zao p0 e).bind fun b=>if decide ((w64 (b - a.2))<0) then (zbB a b true) else ((zoY (w64 (b - a.2)) (w64 (p2*p2))).bind fun f=>if !decide (f=0) then (zbB a b true) else (if decide (a.2>0) then (zbB a b (!decide ((w64 (b - a.2))=a.1))) else (zbB a b false)))) else (some (.inr (.inl a.1)))
def zg9 (p0:LP) (p1:Int×Int) (p2:Int):Option (Int):=
 (zf1 p2).bind fun a=>(iter (zaP p0 p1 p2 a) ((-1),0)).bind fun b=>match b with | .inl z=>zcJ p2 z | .inr z=>some z
def zjD (a:LP):Option ((LP)):=
 some a
def zdK (a:Int×LP) (b:LP):Option ((Int×LP) ⊕ (LP)):=
 some (.inl (w64 (a.1+1),b))
def zbX (p0:LP) (p1:Int) (b:(List (Int×Int))) (a:Int×LP):Option ((Int×LP) ⊕ (LP)):=
 if decide (a.1<(b.length:Int)) then ((idx b a.1).bind fun c=>(zg9 p0 c p1).bind fun d=>if decide (d≥0) then ((app 24 a.2 [(c,d)]).bind fun e=>zdK a e) else (zdK a a.2)) else (some (.inr a.2))
def zfF (p0:LP) (p1:Int):Option ((LP)):=
 (zlo p0 p1).bind fun a=>(iter (zbX p0 p1 a) (0,[])).bind fun b=>zjD b
def zeH (p0:TS×(LP)×Int) (p1:LP) (p2:Int) (p3:List (Int×(Int×Int)×Int)):Option ((List (Int×Int))×Int×Int):=
 (zgG p0 p2).bind fun b=>if !decide (b.2=0) then (some (([]:List (Int×Int)),0,b.2)) else ((zeT p1).bind fun c=>if !c then (some (([]:List (Int×Int)),0,1)) else ((zgH b.1 p3).bind fun a=>if !decide (a.2.2.2=0) then (some (([]:List (Int×Int)),0,a.2.2.2)) else ((zfF a.1 p2).bind fun d=>(zjr p1 d).bind fun e=>some (e,a.2.1,0))))
def zeQ (p0:Int×Int) (p1:Int×Int):Option (Bool):=
 if !decide (p0.1=p1.1) then (some false) else (if !decide (p0.2=p1.2) then (some false) else (some true))
def zi0  : Option (Bool):=
 some true
def zev (p0:List (Int×Int)) (p1:List (Int×Int)) (a:Int):Option (Int ⊕ (Unit ⊕ Bool)):=
 if decide (a<(p0.length:Int)) then ((idx p0 a).bind fun b=>(idx p1 a).bind fun c=>(zeQ b c).bind fun d=>if !d then (some (.inr (.inr false))) else (some (.inl (w64 (a+1))))) else (some (.inr (.inl ())))
def zfl (p0:List (Int×Int)) (p1:List (Int×Int)):Option (Bool):=
 if !decide ((p0.length:Int)=(p1.length:Int)) then (some false) else ((iter (zev p0 p1) 0).bind fun a=>match a with | .inl z=>zi0 | .inr z=>some z)
def zlG (p0:(Int×Int)×Int) (p1:(Int×Int)×Int):Option (Bool):=
 (zeQ p0.1 p1.1).bind fun a=>if !a then (some false) else (if !decide (p0.2=p1.2) then (some false) else (some true))
def ziq  : Option (Bool):=
 some true
def zdD (p0:LP) (p1:LP) (a:Int):Option (Int ⊕ (Unit ⊕ Bool)):=
 if decide (a<(p0.length:Int)) then ((idx p0 a).bind fun b=>(idx p1 a).bind fun c=>(zlG b c).bind fun d=>if !d then (some (.inr (.inr false))) else (some (.inl (w64 (a+1))))) else (some (.inr (.inl ())))
def zir (p0:LP) (p1:LP):Option (Bool):=
 if !decide ((p0.length:Int)=(p1.length:Int)) then (some false) else ((iter (zdD p0 p1) 0).bind fun a=>match a with | .inl z=>ziq | .inr z=>some z)
def zdd (p0:LP) (p1:LP):Option (Bool):=
 (zir p0 p1).bind fun a=>if !a then (some false) else (some true)
def znr (p0:BS×Int) (p1:BS×Int):Option (Bool):=
 if !decide (p0.1=p1.1) then (some false) else (if !decide (p0.2=p1.2) then (some false) else (some true))
def zjR  : Option (Bool):=
 some true
def zfa (p0:LG) (p1:LG) (a:Int):Option (Int ⊕ (Unit ⊕ Bool)):=
 if decide (a<(p0.length:Int)) then ((idx p0 a).bind fun b=>(idx p1 a).bind fun c=>(znr b c).bind fun d=>if !d then (some (.inr (.inr false))) else (some (.inl (w64 (a+1))))) else (some (.inr (.inl ())))
def zkf (p0:LG) (p1:LG):Option (Bool):=
 if !decide ((p0.length:Int)=(p1.length:Int)) then (some false) else ((iter (zfa p0 p1) 0).bind fun a=>match a with | .inl z=>zjR | .inr z=>some z)
def zi1  : Option (Bool):=
 some true
def zew (p0:LI) (p1:LI) (a:Int):Option (Int ⊕ (Unit ⊕ Bool)):=
 if decide (a<(p0.length:Int)) then ((idx p0 a).bind fun b=>(idx p1 a).bind fun c=>if !decide (b=c) then (some (.inr (.inr false))) else (some (.inl (w64 (a+1))))) else (some (.inr (.inl ())))
def zjn (p0:LI) (p1:LI):Option (Bool):=
 if !decide ((p0.length:Int)=(p1.length:Int)) then (some false) else ((iter (zew p0 p1) 0).bind fun a=>match a with | .inl z=>zi1 | .inr z=>some z)
def znq (p0:BS×LI) (p1:BS×LI):Option (Bool):=
 if !decide (p0.1=p1.1) then (some false) else ((zjn p0.2 p1.2).bind fun a=>if !a then (some false) else (some true))
def zjP  : Option (Bool):=
 some true
def ze9 (p0:LT) (p1:LT) (a:Int):Option (Int ⊕ (Unit ⊕ Bool)):=
 if decide (a<(p0.length:Int)) then ((idx p0 a).bind fun b=>(idx p1 a).bind fun c=>(znq b c).bind fun d=>if !d then (some (.inr (.inr false))) else (some (.inl (w64 (a+1))))) else (some (.inr (.inl ())))
def zke (p0:LT) (p1:LT):Option (Bool):=
 if !decide ((p0.length:Int)=(p1.length:Int)) then (some false) else ((iter (ze9 p0 p1) 0).bind fun a=>match a with | .inl z=>zjP | .inr z=>some z)
def zkG (p0:LG×LT) (p1:LG×LT):Option (Bool):=
 (zkf p0.1 p1.1).bind fun a=>if !a then (some false) else ((zke p0.2 p1.2).bind fun b=>if !b then (some false) else (some true))
def zjm (p0:TS×(LP)×Int) (p1:TS×(LP)×Int):Option (Bool):=
 (zkG p0.1 p1.1).bind fun a=>if !a then (some false) else ((zdd p0.2.1 p1.2.1).bind fun b=>if !b then (some false) else (if !decide (p0.2.2=p1.2.2) then (some false) else (some true)))
def zlH (p0:Int×(Int×Int)×Int) (p1:Int×(Int×Int)×Int):Option (Bool):=
 if !decide (p0.1=p1.1) then (some false) else ((zeQ p0.2.1 p1.2.1).bind fun a=>if !a then (some false) else (if !decide (p0.2.2=p1.2.2) then (some false) else (some true)))
def zis  : Option (Bool):=
 some true
def zdE (p0:List (Int×(Int×Int)×Int)) (p1:List (Int×(Int×Int)×Int)) (a:Int):Option (Int ⊕ (Unit ⊕ Bool)):=
 if decide (a<(p0.length:Int)) then ((idx p0 a).bind fun b=>(idx p1 a).bind fun c=>(zlH b c).bind fun d=>if !d then (some (.inr (.inr false))) else (some (.inl (w64 (a+1))))) else (some (.inr (.inl ())))
def zit (p0:List (Int×(Int×Int)×Int)) (p1:List (Int×(Int×Int)×Int)):Option (Bool):=
 if !decide ((p0.length:Int)=(p1.length:Int)) then (some false) else ((iter (zdE p0 p1) 0).bind fun a=>match a with | .inl z=>zis | .inr z=>some z)
def zgQ (a:LP) (b:Int):Option (Int×LP):=
 some (b,a)
def zcm  (a:LP×Int×Int):Option ((LP×Int×Int) ⊕ (LP×Int)):=
 if decide (a.2.2<(a.1.length:Int)) then ((idx a.1 a.2.2).bind fun b=>(some (a.1.set a.2.2.toNat ((a.2.1,b.1.2),b.2))).bind fun c=>(idx c a.2.2).bind fun d=>(some (c.set a.2.2.toNat ((d.1.1,w64 (a.2.1+1)),d.2))).bind fun e=>(idx e a.2.2).bind fun f=>(some (e.set a.2.2.toNat (f.1,w64 ((w64 (a.2.1+1))+1)))).bind fun g=>some (.inl (g,w64 ((w64 ((w64 (a.2.1+1))+1))+1),w64 (a.2.2+1)))) else (some (.inr (a.1,a.2.1)))
def zgA (p0:LP) (p1:Int):Option (Int×LP):=
 (iter (zcm) (p0,p1,0)).bind fun a=>zgQ a.1 a.2
def zlk (_:LP) (_:Int):Option Int:=some 1
def ziY (b:BS):Option (BS):=
 (zif ([109]:BS) b).bind fun a=>some a
def zgz  (a:Int×BS):Option ((Int×BS) ⊕ (BS)):=
 if decide (a.1>0) then ((zif (zj7 [IntKind.wrap .u8 (w64 (48+(Int.tmod a.1 10)))]) a.2).bind fun b=>some (.inl (w64 (Int.tdiv a.1 10),b))) else (some (.inr a.2))
def zjl (p0:Int):Option (BS):=
 if decide (p0≤0) then (some ([109,48]:BS)) else ((iter (zgz) (p0,([]:BS))).bind fun a=>ziY a)
def zin (a:LG) (b:Int):Option (Int×LG):=
 some (b,a)
def zdC  (a:LG×Int×Int):Option ((LG×Int×Int) ⊕ (LG×Int)):=
 if decide (a.2.2<(a.1.length:Int)) then ((zjl a.2.1).bind fun c=>(idx a.1 a.2.2).bind fun d=>(some (a.1.set a.2.2.toNat (c,d.2))).bind fun b=>(idx b a.2.2).bind fun e=>(some (b.set a.2.2.toNat (e.1,w64 (a.2.1+1)))).bind fun f=>some (.inl (f,w64 ((w64 (a.2.1+1))+1),w64 (a.2.2+1)))) else (some (.inr (a.1,a.2.1)))
def zio (p0:LG) (p1:Int):Option (Int×LG):=
 (iter (zdC) (p0,p1,0)).bind fun a=>zin a.1 a.2
def zhv (a:LI) (b:Int):Option (Int×LI):=
 some (b,a)
def zcU  (a:LI×Int×Int):Option ((LI×Int×Int) ⊕ (LI×Int)):=
 if decide (a.2.2<(a.1.length:Int)) then ((idx a.1 a.2.2).bind fun b=>(some (a.1.set a.2.2.toNat a.2.1)).bind fun x23=>some (.inl (x23,w64 (a.2.1+1),w64 (a.2.2+1)))) else (some (.inr (a.1,a.2.1)))
def zhk (p0:LI) (p1:Int):Option (Int×LI):=
 (iter (zcU) (p0,p1,0)).bind fun a=>zhv a.1 a.2
def zmN (_:TS×(LP)×Int) (_:Int):Option Int:=some 1
def zl6 (_:List (Int×(Int×Int)×Int)) (_:Int):Option Int:=some 1
def zhu (a:List (Int×Int)) (b:Int):Option (Int×(List (Int×Int))):=
 some (b,a)
def zaJ  (a:(List (Int×Int))×Int×Int):Option (((List (Int×Int))×Int×Int) ⊕ ((List (Int×Int))×Int)):=
 if decide (a.2.2<(a.1.length:Int)) then ((idx a.1 a.2.2).bind fun c=>(some (a.1.set a.2.2.toNat (a.2.1,c.2))).bind fun b=>(idx b a.2.2).bind fun d=>(some (b.set a.2.2.toNat (d.1,w64 (a.2.1+1)))).bind fun e=>some (.inl (e,w64 ((w64 (a.2.1+1))+1),w64 (a.2.2+1)))) else (some (.inr (a.1,a.2.1)))
def ze7 (p0:List (Int×Int)) (p1:Int):Option (Int×(List (Int×Int))):=
 (iter (zaJ) (p0,p1,0)).bind fun a=>zhu a.1 a.2
def zhw (a:Int):Option (Int):=
 some a
def zeP (p0:List (Int×Int)) (a:Int×Int):Option ((Int×Int) ⊕ (Int ⊕ Int)):=
 if decide (a.2<(p0.length:Int)) then ((idx p0 a.2).bind fun b=>if !decide (b.1=a.1) then (some (.inr (.inr (-1)))) else ((idx p0 a.2).bind fun _=>if !decide (b.2=(w64 (a.1+1))) then (some (.inr (.inr (-1)))) else (some (.inl (w64 ((w64 (a.1+1))+1),w64 (a.2+1)))))) else (some (.inr (.inl a.1)))
def ze8 (p0:List (Int×Int)) (p1:Int):Option (Int):=
 (iter (zeP p0) (p1,0)).bind fun a=>match a with | .inl z=>zhw z | .inr z=>some z
def zav (a:Int×(List (Int×Int))) (c:Bool):Option (Bool):=
 if c then (some false) else ((ze8 a.2 1).bind fun b=>if decide (b<0) then (some false) else (if !decide (b=a.1) then (some false) else (some true)))
def zY (p0:TS×(LP)×Int) (p1:LP) (p2:Int) (p3:List (Int×(Int×Int)×Int)) (c:(List (Int×Int))×Int×Int) (e:(List (Int×Int))×Int×Int) (f:Bool):Option (Bool):=
 if f then (some false) else ((ze7 e.1 1).bind fun a=>(ze8 a.2 1).bind fun d=>if decide (d<0) then (some false) else (if !decide (d=a.1) then (some false) else ((zbL p0).bind fun g=>(zai p1).bind fun h=>(za2 p3).bind fun j=>(zeH g h p2 j).bind fun b=>(zfl b.1 c.1).bind fun k=>if !k then (zav a true) else (if !decide (b.2.1=c.2.1) then (zav a true) else (zav a (!decide (b.2.2=c.2.2)))))))
def zaw (p0:TS×(LP)×Int) (p1:LP) (p2:Int) (p3:List (Int×(Int×Int)×Int)) (b:(List (Int×Int))×Int×Int) (c:(TS×(LP)×Int)) (d:(LP)) (e:(List (Int×(Int×Int)×Int))) (a:(List (Int×Int))×Int×Int) (f:Bool):Option (Bool):=
 if f then (some false) else ((zbL p0).bind fun g=>(zjm c g).bind fun h=>if !h then (some false) else ((zai p1).bind fun j=>(zdd d j).bind fun k=>if !k then (some false) else ((za2 p3).bind fun m=>(zit e m).bind fun n=>if !n then (some false) else ((zmN c 1).bind fun p=>(zlk d p).bind fun q=>(zl6 e q).bind fun r=>if decide (r<0) then (zY p0 p1 p2 p3 b a true) else ((zfl a.1 b.1).bind fun s=>if !s then (zY p0 p1 p2 p3 b a true) else (if !decide (a.2.1=b.2.1) then (zY p0 p1 p2 p3 b a true) else (zY p0 p1 p2 p3 b a (!decide (a.2.2=b.2.2)))))))))
def zex (p0:TS×(LP)×Int) (p1:LP) (p2:Int) (p3:List (Int×(Int×Int)×Int)):Option (Bool):=
 (zg5 p0 1048576).bind fun f=>if decide (f<0) then (some true) else ((zdc p1 f).bind fun g=>if decide (g<0) then (some true) else ((zfW p3 g).bind fun j=>if decide (j<0) then (some true) else ((zbL p0).bind fun k=>(zai p1).bind fun m=>(za2 p3).bind fun n=>(zgr k m p2 n).bind fun b=>(zbL p0).bind fun c=>(zai p1).bind fun d=>(za2 p3).bind fun e=>(zeH c d p2 e).bind fun a=>(zfl a.1 b.1).bind fun h=>if !h then (zaw p0 p1 p2 p3 b c d e a true) else (if !decide (a.2.1=b.2.1) then (zaw p0 p1 p2 p3 b c d e a true) else (zaw p0 p1 p2 p3 b c d e a (!decide (a.2.2=b.2.2)))))))
end
end Go.Lf
namespace Go.Lf
open Go Go.Proofs
def tPoint:Ty (Int×Int):=(tPair tI64 tI64)
instance:TyA tPoint:=inferInstanceAs (TyA (tPair tI64 tI64))
def tPlaced:Ty ((Int×Int)×Int):=(tPair tPoint tI64)
instance:TyA tPlaced:=inferInstanceAs (TyA (tPair tPoint tI64))
def tGlue:Ty (BS×Int):=(tPair tStr tI64)
instance:TyA tGlue:=inferInstanceAs (TyA (tPair tStr tI64))
def tTile:Ty (BS×LI):=(tPair tStr (tSl tI64))
instance:TyA tTile:=inferInstanceAs (TyA (tPair tStr (tSl tI64)))
def tMishap:Ty (Int×(Int×Int)×Int):=(tPair tI64 (tPair tPoint tI64))
instance:TyA tMishap:=inferInstanceAs (TyA (tPair tI64 (tPair tPoint tI64)))
def zT:Ty (Int×Int×Int):=(tPair tI64 (tPair tI64 tI64))
instance:TyA zT:=inferInstanceAs (TyA (tPair tI64 (tPair tI64 tI64)))
def zyG:Ty LI:=tSW tI64 2 135001
def zlu:Ty (BS×LI):=tPair tStr zyG
theorem SlW.slT {e:TypeId} {S:Nat} {κ:K} {a:OA} {c:Nat} {l:LT} (h:SlW zlu e S κ a c l):Sl tTile κ a c l:=Sl.ty (t':=zlu) rfl (fun _ _ ⟨c1,c2,h1,h2,a,c,h3,h4⟩=>⟨c1,c2,h1,h2,a,c,h3,h4.sl⟩) h.1
theorem zvp:KeyOk Tryz.prog 73 kPt:=zxk (fun em w x y=>kr) ⟨_,Tryz.underlying73,fun a b k es j hb=>kr⟩
 (fun w x y z t=>zwQ (P:=Tryz.prog) (T:=73) kr 9998 .i64 .i64 x y z t w)
def Glob (κ:K):Prop:=Globp pow10s 0 κ
theorem Glob.step {M:List Nat} {κ κ':K} (s:Step M κ κ') (h:Glob κ):Glob κ':=Globp.step s h
end Go.Lf
namespace Go.Lf
open Go
abbrev PT:=(Int×Int)×Int
theorem zpq (a b:Int):zdh a b=some (if a<b then -1 else if b<a then 1 else 0):=by
 unfold zdh zhd;simp only [gp,decide_true,aw,aq,if_false];by_cases h:a<b
 ·simp [h]
 by_cases h2:b<a
 ·simp [h,h2]
 simp [h,h2]
theorem zvh (u v:Int):zkV [u,v]=some (if u=0 then v else u):=by
 unfold zkV;have w1:w64 1=1:=by decide
 have w2:w64 2=2:=by decide
 by_cases hu:u=0
 ·have e0:zap [u,v] 0=some (.inl 1):=by unfold zap idx;simp [hu,w1]
  rw [zD e0];by_cases hv:v=0
  ·have e1:zap [u,v] 1=some (.inl 2):=by unfold zap idx;simp [hv,w2]
   have e2:zap [u,v] 2=some (.inr (.inl ())):=by unfold zap idx;simp
   rw [zD e1,zI e2];simp [zjt,hu,hv]
  have e1:zap [u,v] 1=some (.inr (.inr v)):=by unfold zap idx;simp [hv]
  rw [zI e1];simp [hu]
 have e0:zap [u,v] 0=some (.inr (.inr u)):=by unfold zap idx;simp [hu]
 rw [zI e0];simp [hu]
theorem zrR (x y:Int×Int):zah x y=some (zj5 x y):=by
 unfold zah;rw [zpq,zpq];simp only [gp,zvh];congr 1;unfold zj5
 repeat' split
 all_goals first | rfl | omega
theorem zyz (x y:PT):zhE x y=some (zbi x y):=by
 unfold zhE;rw [zrR];rfl
theorem zuX (l:List PT) (h:l.length≤1048576):zaj l=some l:=by
 unfold zaj zar app;simp;omega
end Go.Lf
namespace Go.Proofs
open Go.Shelf
def Tryz.sort208_ren:Go.Shelf.Ren:=⟨fun | 6=>139 | 15=>170 | 14=>169 | 28=>199 | 29=>200 | 20=>191 | 21=>192 | 22=>193 | 23=>194 | 24=>195 | 25=>196 | 26=>197 | 27=>198 | 46=>222 | 47=>223 | 48=>224 | 49=>225 | 50=>226 | 57=>238 | n=>n,fun | 22=>42 | 24=>99 | 25=>211 | 3=>3 | 39=>217 | 0=>0 | 53=>276 | 55=>278 | 4=>4 | 46=>270 | 45=>269 | 50=>185 | 5=>5 | 9=>9 | 66=>298 | 70=>302 | 76=>316 | 77=>317 | n=>n,fun | n=>n⟩
theorem Tryz.sort208:Go.Proofs.SlLaysF0.n6 Tryz.prog Tryz.sort208_ren:={
  mixed:=by kernel_rfl
  f6:=⟨Tryz.f139.name,by decide,Tryz.func139.trans (congrArg some (by kernel_rfl))⟩
  f14:=⟨Tryz.f169.name,by decide,Tryz.func169.trans (congrArg some (by kernel_rfl))⟩
  f15:=Tryz.func170.trans (congrArg some (by kernel_rfl))
  f20:=⟨Tryz.f191.name,by decide,Tryz.func191.trans (congrArg some (by kernel_rfl))⟩
  f21:=⟨Tryz.f192.name,by decide,Tryz.func192.trans (congrArg some (by kernel_rfl))⟩
  f22:=⟨Tryz.f193.name,by decide,Tryz.func193.trans (congrArg some (by kernel_rfl))⟩
  f23:=⟨Tryz.f194.name,by decide,Tryz.func194.trans (congrArg some (by kernel_rfl))⟩
  f24:=⟨Tryz.f195.name,by decide,Tryz.func195.trans (congrArg some (by kernel_rfl))⟩
  f25:=⟨Tryz.f196.name,by decide,Tryz.func196.trans (congrArg some (by kernel_rfl))⟩
  f26:=⟨Tryz.f197.name,by decide,Tryz.func197.trans (congrArg some (by kernel_rfl))⟩
  f27:=⟨Tryz.f198.name,by decide,Tryz.func198.trans (congrArg some (by kernel_rfl))⟩
  f28:=Tryz.func199.trans (congrArg some (by kernel_rfl))
  f29:=Tryz.func200.trans (congrArg some (by kernel_rfl))
  f46:=⟨Tryz.f222.name,by decide,Tryz.func222.trans (congrArg some (by kernel_rfl))⟩
  f47:=Tryz.func223.trans (congrArg some (by kernel_rfl))
  f48:=Tryz.func224.trans (congrArg some (by kernel_rfl))
  f49:=⟨Tryz.f225.name,by decide,Tryz.func225.trans (congrArg some (by kernel_rfl))⟩
  f50:=⟨Tryz.f226.name,by decide,Tryz.func226.trans (congrArg some (by kernel_rfl))⟩
  f57:=⟨Tryz.f238.name,by decide,Tryz.func238.trans (congrArg some (by kernel_rfl))⟩
  t0:=Tryz.underlying0
  a0:=Tryz.isAgg0
  z0:=Tryz.sizeOf0
  v0:=Tryz.zeroValue0
  t3:=Tryz.underlying3
  a3:=Tryz.isAgg3
  z3:=Tryz.sizeOf3
  v3:=Tryz.zeroValue3
  t4:=Tryz.underlying4
  a4:=Tryz.isAgg4
  z4:=Tryz.sizeOf4
  v4:=Tryz.zeroValue4
  t5:=Tryz.underlying5
  a5:=Tryz.isAgg5
  z5:=Tryz.sizeOf5
  v5:=Tryz.zeroValue5
  t9:=Tryz.underlying9
  a9:=Tryz.isAgg9
  z9:=Tryz.sizeOf9
  v9:=Tryz.zeroValue9
  t22:=Tryz.underlying42
  a22:=Tryz.isAgg42
  z22:=Tryz.sizeOf42
  v22:=Tryz.zeroValue42
  t25:=Tryz.underlying211
  a25:=Tryz.isAgg211
  z25:=Tryz.sizeOf211
  v25:=Tryz.zeroValue211
  t39:=Tryz.underlying217
  a39:=Tryz.isAgg217
  z39:=Tryz.sizeOf217
  v39:=Tryz.zeroValue217
  t45:=Tryz.underlying269
  a45:=Tryz.isAgg269
  z45:=Tryz.sizeOf269
  v45:=Tryz.zeroValue269
  t46:=Tryz.underlying270
  a46:=Tryz.isAgg270
  z46:=Tryz.sizeOf270
  v46:=Tryz.zeroValue270
  t50:=Tryz.underlying185
  a50:=Tryz.isAgg185
  z50:=Tryz.sizeOf185
  v50:=Tryz.zeroValue185
  t53:=Tryz.underlying276
  a53:=Tryz.isAgg276
  z53:=Tryz.sizeOf276
  v53:=Tryz.zeroValue276
  t55:=Tryz.underlying278
  a55:=Tryz.isAgg278
  z55:=Tryz.sizeOf278
  v55:=Tryz.zeroValue278
  t66:=Tryz.underlying298
  a66:=Tryz.isAgg298
  z66:=Tryz.sizeOf298
  v66:=Tryz.zeroValue298
  t70:=Tryz.underlying302
  a70:=Tryz.isAgg302
  z70:=Tryz.sizeOf302
  v70:=Tryz.zeroValue302
  t76:=Tryz.underlying316
  a76:=Tryz.isAgg316
  z76:=Tryz.sizeOf316
  v76:=Tryz.zeroValue316
  t77:=Tryz.underlying317
  a77:=Tryz.isAgg317
  z77:=Tryz.sizeOf317
  v77:=Tryz.zeroValue317}
def Tryz.sort248_ren:Go.Shelf.Ren:=⟨fun | 6=>148 | 15=>170 | 14=>173 | 28=>199 | 29=>200 | 20=>202 | 21=>203 | 22=>204 | 23=>205 | 24=>206 | 25=>207 | 26=>208 | 27=>209 | 46=>231 | 47=>223 | 48=>224 | 49=>232 | 50=>233 | 57=>243 | n=>n,fun | 22=>35 | 24=>73 | 25=>181 | 3=>3 | 39=>217 | 0=>0 | 53=>276 | 55=>278 | 4=>4 | 46=>270 | 45=>269 | 50=>185 | 5=>5 | 9=>9 | 66=>298 | 70=>302 | 76=>316 | 77=>317 | n=>n,fun | n=>n⟩
theorem Tryz.sort248:Go.Proofs.SlLaysF0.n6 Tryz.prog Tryz.sort248_ren:={
  mixed:=by kernel_rfl
  f6:=⟨Tryz.f148.name,by decide,Tryz.func148.trans (congrArg some (by kernel_rfl))⟩
  f14:=⟨Tryz.f173.name,by decide,Tryz.func173.trans (congrArg some (by kernel_rfl))⟩
  f15:=Tryz.func170.trans (congrArg some (by kernel_rfl))
  f20:=⟨Tryz.f202.name,by decide,Tryz.func202.trans (congrArg some (by kernel_rfl))⟩
  f21:=⟨Tryz.f203.name,by decide,Tryz.func203.trans (congrArg some (by kernel_rfl))⟩
  f22:=⟨Tryz.f204.name,by decide,Tryz.func204.trans (congrArg some (by kernel_rfl))⟩
  f23:=⟨Tryz.f205.name,by decide,Tryz.func205.trans (congrArg some (by kernel_rfl))⟩
  f24:=⟨Tryz.f206.name,by decide,Tryz.func206.trans (congrArg some (by kernel_rfl))⟩
  f25:=⟨Tryz.f207.name,by decide,Tryz.func207.trans (congrArg some (by kernel_rfl))⟩
  f26:=⟨Tryz.f208.name,by decide,Tryz.func208.trans (congrArg some (by kernel_rfl))⟩
  f27:=⟨Tryz.f209.name,by decide,Tryz.func209.trans (congrArg some (by kernel_rfl))⟩
  f28:=Tryz.func199.trans (congrArg some (by kernel_rfl))
  f29:=Tryz.func200.trans (congrArg some (by kernel_rfl))
  f46:=⟨Tryz.f231.name,by decide,Tryz.func231.trans (congrArg some (by kernel_rfl))⟩
  f47:=Tryz.func223.trans (congrArg some (by kernel_rfl))
  f48:=Tryz.func224.trans (congrArg some (by kernel_rfl))
  f49:=⟨Tryz.f232.name,by decide,Tryz.func232.trans (congrArg some (by kernel_rfl))⟩
  f50:=⟨Tryz.f233.name,by decide,Tryz.func233.trans (congrArg some (by kernel_rfl))⟩
  f57:=⟨Tryz.f243.name,by decide,Tryz.func243.trans (congrArg some (by kernel_rfl))⟩
  t0:=Tryz.underlying0
  a0:=Tryz.isAgg0
  z0:=Tryz.sizeOf0
  v0:=Tryz.zeroValue0
  t3:=Tryz.underlying3
  a3:=Tryz.isAgg3
  z3:=Tryz.sizeOf3
  v3:=Tryz.zeroValue3
  t4:=Tryz.underlying4
  a4:=Tryz.isAgg4
  z4:=Tryz.sizeOf4
  v4:=Tryz.zeroValue4
  t5:=Tryz.underlying5
  a5:=Tryz.isAgg5
  z5:=Tryz.sizeOf5
  v5:=Tryz.zeroValue5
  t9:=Tryz.underlying9
  a9:=Tryz.isAgg9
  z9:=Tryz.sizeOf9
  v9:=Tryz.zeroValue9
  t22:=Tryz.underlying35
  a22:=Tryz.isAgg35
  z22:=Tryz.sizeOf35
  v22:=Tryz.zeroValue35
  t25:=Tryz.underlying181
  a25:=Tryz.isAgg181
  z25:=Tryz.sizeOf181
  v25:=Tryz.zeroValue181
  t39:=Tryz.underlying217
  a39:=Tryz.isAgg217
  z39:=Tryz.sizeOf217
  v39:=Tryz.zeroValue217
  t45:=Tryz.underlying269
  a45:=Tryz.isAgg269
  z45:=Tryz.sizeOf269
  v45:=Tryz.zeroValue269
  t46:=Tryz.underlying270
  a46:=Tryz.isAgg270
  z46:=Tryz.sizeOf270
  v46:=Tryz.zeroValue270
  t50:=Tryz.underlying185
  a50:=Tryz.isAgg185
  z50:=Tryz.sizeOf185
  v50:=Tryz.zeroValue185
  t53:=Tryz.underlying276
  a53:=Tryz.isAgg276
  z53:=Tryz.sizeOf276
  v53:=Tryz.zeroValue276
  t55:=Tryz.underlying278
  a55:=Tryz.isAgg278
  z55:=Tryz.sizeOf278
  v55:=Tryz.zeroValue278
  t66:=Tryz.underlying298
  a66:=Tryz.isAgg298
  z66:=Tryz.sizeOf298
  v66:=Tryz.zeroValue298
  t70:=Tryz.underlying302
  a70:=Tryz.isAgg302
  z70:=Tryz.sizeOf302
  v70:=Tryz.zeroValue302
  t76:=Tryz.underlying316
  a76:=Tryz.isAgg316
  z76:=Tryz.sizeOf316
  v76:=Tryz.zeroValue316
  t77:=Tryz.underlying317
  a77:=Tryz.isAgg317
  z77:=Tryz.sizeOf317
  v77:=Tryz.zeroValue317}
def Tryz.lays212_ren:Go.Shelf.Ren:=⟨fun | 212=>244 | 263=>247 | 264=>248 | n=>n,fun | 46=>217 | 51=>276 | 146=>327 | 53=>278 | 148=>329 | n=>n,fun | n=>n⟩
theorem Tryz.lays212:Go.Proofs.Lays.n212 Tryz.prog Tryz.lays212_ren:={
  mixed:=by kernel_rfl
  f212:=Tryz.func244.trans (congrArg some (by kernel_rfl))
  f263:=Tryz.func247.trans (congrArg some (by kernel_rfl))
  f264:=Tryz.func248.trans (congrArg some (by kernel_rfl))
  t46:=Tryz.underlying217
  a46:=Tryz.isAgg217
  z46:=Tryz.sizeOf217
  v46:=Tryz.zeroValue217
  t51:=Tryz.underlying276
  a51:=Tryz.isAgg276
  z51:=Tryz.sizeOf276
  v51:=Tryz.zeroValue276
  t53:=Tryz.underlying278
  a53:=Tryz.isAgg278
  z53:=Tryz.sizeOf278
  v53:=Tryz.zeroValue278
  t146:=Tryz.underlying327
  a146:=Tryz.isAgg327
  z146:=Tryz.sizeOf327
  v146:=Tryz.zeroValue327
  t148:=Tryz.underlying329
  a148:=Tryz.isAgg329
  z148:=Tryz.sizeOf329
  v148:=Tryz.zeroValue329}
def Tryz.lays112_ren:Go.Shelf.Ren:=⟨fun | 112=>237 | n=>n,fun | 28=>245 | 3=>3 | 4=>4 | 0=>0 | n=>n,fun | n=>n⟩
theorem Tryz.lays112:Go.Proofs.Lays.n112 Tryz.prog Tryz.lays112_ren:={
  mixed:=by kernel_rfl
  f112:=Tryz.func237.trans (congrArg some (by kernel_rfl))
  t0:=Tryz.underlying0
  a0:=Tryz.isAgg0
  z0:=Tryz.sizeOf0
  v0:=Tryz.zeroValue0
  t3:=Tryz.underlying3
  a3:=Tryz.isAgg3
  z3:=Tryz.sizeOf3
  v3:=Tryz.zeroValue3
  t4:=Tryz.underlying4
  a4:=Tryz.isAgg4
  z4:=Tryz.sizeOf4
  v4:=Tryz.zeroValue4
  t28:=Tryz.underlying245
  a28:=Tryz.isAgg245
  z28:=Tryz.sizeOf245
  v28:=Tryz.zeroValue245}
def Tryz.laysM173_ren:Go.Shelf.Ren:=⟨fun | 173=>171 | 246=>201 | 283=>227 | 284=>228 | 285=>229 | 286=>230 | 129=>200 | 317=>239 | 318=>240 | 319=>241 | 320=>242 | 337=>245 | 338=>246 | n=>n,fun | 2=>2 | 3=>3 | 9=>9 | 4=>4 | 171=>304 | 0=>0 | 53=>278 | 37=>221 | 5=>5 | 173=>306 | 212=>321 | 51=>276 | 20=>20 | 213=>322 | 46=>217 | 232=>331 | 233=>332 | n=>n,fun | 17=>0 | 18=>1 | 19=>2 | n=>n⟩
theorem Tryz.laysM173:Go.Proofs.LaysM.n173 Tryz.prog Tryz.laysM173_ren:={
  mixed:=by kernel_rfl
  f129:=Tryz.func200.trans (congrArg some (by kernel_rfl))
  f173:=Tryz.func171.trans (congrArg some (by kernel_rfl))
  f246:=Tryz.func201.trans (congrArg some (by kernel_rfl))
  f283:=Tryz.func227.trans (congrArg some (by kernel_rfl))
  f284:=Tryz.func228.trans (congrArg some (by kernel_rfl))
  f285:=Tryz.func229.trans (congrArg some (by kernel_rfl))
  f286:=Tryz.func230.trans (congrArg some (by kernel_rfl))
  f317:=Tryz.func239.trans (congrArg some (by kernel_rfl))
  f318:=Tryz.func240.trans (congrArg some (by kernel_rfl))
  f319:=Tryz.func241.trans (congrArg some (by kernel_rfl))
  f320:=Tryz.func242.trans (congrArg some (by kernel_rfl))
  f337:=Tryz.func245.trans (congrArg some (by kernel_rfl))
  f338:=Tryz.func246.trans (congrArg some (by kernel_rfl))
  t0:=Tryz.underlying0
  a0:=Tryz.isAgg0
  z0:=Tryz.sizeOf0
  v0:=Tryz.zeroValue0
  t2:=Tryz.underlying2
  a2:=Tryz.isAgg2
  z2:=Tryz.sizeOf2
  v2:=Tryz.zeroValue2
  t3:=Tryz.underlying3
  a3:=Tryz.isAgg3
  z3:=Tryz.sizeOf3
  v3:=Tryz.zeroValue3
  t4:=Tryz.underlying4
  a4:=Tryz.isAgg4
  z4:=Tryz.sizeOf4
  v4:=Tryz.zeroValue4
  t5:=Tryz.underlying5
  a5:=Tryz.isAgg5
  z5:=Tryz.sizeOf5
  v5:=Tryz.zeroValue5
  t9:=Tryz.underlying9
  a9:=Tryz.isAgg9
  z9:=Tryz.sizeOf9
  v9:=Tryz.zeroValue9
  t20:=Tryz.underlying20
  a20:=Tryz.isAgg20
  z20:=Tryz.sizeOf20
  v20:=Tryz.zeroValue20
  t37:=Tryz.underlying221
  a37:=Tryz.isAgg221
  z37:=Tryz.sizeOf221
  v37:=Tryz.zeroValue221
  t46:=Tryz.underlying217
  a46:=Tryz.isAgg217
  z46:=Tryz.sizeOf217
  v46:=Tryz.zeroValue217
  t51:=Tryz.underlying276
  a51:=Tryz.isAgg276
  z51:=Tryz.sizeOf276
  v51:=Tryz.zeroValue276
  t53:=Tryz.underlying278
  a53:=Tryz.isAgg278
  z53:=Tryz.sizeOf278
  v53:=Tryz.zeroValue278
  t171:=Tryz.underlying304
  a171:=Tryz.isAgg304
  z171:=Tryz.sizeOf304
  v171:=Tryz.zeroValue304
  t173:=Tryz.underlying306
  a173:=Tryz.isAgg306
  z173:=Tryz.sizeOf306
  v173:=Tryz.zeroValue306
  t212:=Tryz.underlying321
  a212:=Tryz.isAgg321
  z212:=Tryz.sizeOf321
  v212:=Tryz.zeroValue321
  t213:=Tryz.underlying322
  a213:=Tryz.isAgg322
  z213:=Tryz.sizeOf322
  t232:=Tryz.underlying331
  a232:=Tryz.isAgg331
  z232:=Tryz.sizeOf331
  v232:=Tryz.zeroValue331
  t233:=Tryz.underlying332
  a233:=Tryz.isAgg332
  z233:=Tryz.sizeOf332
  v233:=Tryz.zeroValue332
  g17:=by kernel_rfl
  g18:=by kernel_rfl
  g19:=by kernel_rfl
  i0:=by kernel_rfl
  i2:=by kernel_rfl
  i3:=by kernel_rfl
  i4:=by kernel_rfl
  i5:=by kernel_rfl
  i9:=by kernel_rfl
  i20:=by kernel_rfl
  i37:=by kernel_rfl
  i46:=by kernel_rfl
  i51:=by kernel_rfl
  i53:=by kernel_rfl
  i171:=by kernel_rfl
  i173:=by kernel_rfl
  i212:=by kernel_rfl
  i232:=by kernel_rfl
  i233:=by kernel_rfl
  m17:=by kernel_rfl
  m18:=by kernel_rfl
  m19:=by kernel_rfl}
end Go.Proofs
namespace Go.Lf
open Go Go.Proofs Go.Sort
def zyo (x:PT):List Value:=[iv x.1.1,iv x.1.2,iv x.2]
def zyn (x:Int×Int):List Value:=[iv x.1,iv x.2]
theorem zzx:EncOk tPlaced 3 zyo (fun x=>(I64 x.1.1∧I64 x.1.2)∧I64 x.2) where
  size:=rfl
  pos:=by decide
  len:=fun _=>rfl
  one:=fun x v hv=>by simp [zyo] at hv;rcases hv with rfl | rfl | rfl<;>rfl
  own:=fun κ cs x=>by
    constructor
    · rintro ⟨_,_,rfl,⟨_,_,rfl,⟨rfl,h1⟩,⟨rfl,h2⟩⟩,⟨rfl,h3⟩⟩;exact ⟨rfl,⟨h1,h2⟩,h3⟩
    · rintro ⟨rfl,⟨h1,h2⟩,h3⟩;exact ⟨_,_,rfl,⟨_,_,rfl,⟨rfl,h1⟩,⟨rfl,h2⟩⟩,⟨rfl,h3⟩⟩
theorem zzw:EncOk tPoint 2 zyn (fun x=>I64 x.1∧I64 x.2) where
  size:=rfl
  pos:=by decide
  len:=fun _=>rfl
  one:=fun x v hv=>by simp [zyn] at hv;rcases hv with rfl | rfl<;>rfl
  own:=fun κ cs x=>by
    constructor
    · rintro ⟨_,_,rfl,⟨rfl,h1⟩,⟨rfl,h2⟩⟩;exact ⟨rfl,h1,h2⟩
    · rintro ⟨rfl,h1,h2⟩;exact ⟨_,_,rfl,⟨rfl,h1⟩,⟨rfl,h2⟩⟩
theorem ltP (a b:PT):ltOf zbi a b=decide (a.1.2<b.1.2∨(a.1.2=b.1.2∧a.1.1<b.1.1)):=by
 unfold ltOf zbi;congr 1;apply propext
 repeat' split
 all_goals (constructor<;>intro h<;>omega)
theorem ltQ (a b:Int×Int):ltOf zj5 a b=decide (a.2<b.2∨(a.2=b.2∧a.1<b.1)):=by
 unfold ltOf zj5;congr 1;apply propext
 repeat' split
 all_goals (constructor<;>intro h<;>omega)
theorem zy5:SWO (ltOf zbi) where
  irrefl x:=by rw [ltP];simp
  trans x y z h1 h2:=by rw [ltP] at *;simp only [decide_eq_true_eq] at *;omega
  ntrans x y z h1 h2:=by rw [ltP] at *;simp only [decide_eq_false_iff_not] at *;omega
theorem zy4:SWO (ltOf zj5) where
  irrefl x:=by rw [ltQ];simp
  trans x y z h1 h2:=by rw [ltQ] at *;simp only [decide_eq_true_eq] at *;omega
  ntrans x y z h1 h2:=by rw [ltQ] at *;simp only [decide_eq_false_iff_not] at *;omega
theorem zpR {κ:K} {p0:Int} {p1:Int} {r:Int×Int} (hr:zg4 p0 p1=some r) :
 Fn Tryz.prog 244 #[.int .u64 p0,.int .u64 p1] κ (fun v κ'=>κ=κ'∧v=.tuple #[.int .u64 r.1,.int .u64 r.2]):=by
 unfold zg4 at hr;split at hr
 ·rename_i h;obtain rfl:=sj hr;obtain ⟨x,rfl⟩:=ba h.1;obtain ⟨y,rfl⟩:=ba h.2.2.1;refine Fn.same (fun w=>Any.bits_Mul Tryz.lays212 x y (by omega) (by omega) w) ⟨rfl,?_⟩;simp
 cases hr
theorem zmR {κ:K} {p0:LI} {a1:OA} {c2:Nat} {τ0:Tag} (f3:Gr tI64 false τ0 κ 3 a1 c2 p0) {r:LI} (hr:zhs p0=some r) :
 Fn Tryz.prog 237 #[sl a1 p0.length c2] κ (fun v κ'=>Step (blk a1 c2) κ κ'∧v=.tuple #[]∧Gr tI64 false τ0 κ' 3 a1 c2 r∧r.length=p0.length):=by
 have hr':p0.reverse=r:=sj hr;subst hr';have hI:∀ x∈p0.reverse,I64 x:=by
   intro x hx;rcases f3.body with ⟨_,h1⟩ | ⟨g,cur,xs,ha,hrp,_⟩
   · subst h1;cases hx
   · exact (zpL hrp).2 x (by simpa using hx)
 refine Fn.row_int f3 (by simp) hI (fun w g ha hH=>?_) (fun h0 w=>?_)
 ·subst ha;exact Any.slices_Reverse_int Tryz.lays112 g 0 c2 p0 w hH (zqK f3.most)
 subst h0;exact Any.slices_Reverse_int_empty Tryz.lays112 a1 c2 w
theorem zwH (hc:∀ (inst:Fb) (κ:K) (x y:PT),@Fn inst Tryz.prog 140 #[.agg (zyo x).toArray,.agg (zyo y).toArray] κ (fun v κ'=>Step [] κ κ'∧v=iv (zbi x y)))
    {κ:K} {τ:Tag} {a:OA} {c:Nat} {l:List PT} (hg:Gr tPlaced false τ κ 99 a c l) (hlen:l.length≤1048576) :
    Fn Tryz.prog 139 #[sl a l.length c,.func (.func 140) #[] #[]] κ (fun v κ'=>Step (blk a c) κ κ'∧v=.tuple #[]∧Gr tPlaced false τ κ' 99 a c (pdq (ltOf zbi) l.toArray 0 l.length (Lib.bitLen l.length) true true).toList):=
  ztF Tryz.sort208 zzx (fun w=>zlZ (P:=Tryz.prog) (T:=99) kr w) (fun w=>zS (P:=Tryz.prog) (T:=99) kr w) zy5 (enters_of Tryz.func140 kr rfl) hc hg (by omega)
theorem zwG (hc:∀ (inst:Fb) (κ:K) (x y:Int×Int),@Fn inst Tryz.prog 113 #[.agg (zyn x).toArray,.agg (zyn y).toArray] κ (fun v κ'=>Step [] κ κ'∧v=iv (zj5 x y)))
    {κ:K} {τ:Tag} {a:OA} {c:Nat} {l:List (Int×Int)} (hg:Gr tPoint false τ κ 73 a c l) (hlen:l.length≤1048576) :
    Fn Tryz.prog 148 #[sl a l.length c,.func (.func 113) #[] #[]] κ (fun v κ'=>Step (blk a c) κ κ'∧v=.tuple #[]∧Gr tPoint false τ κ' 73 a c (pdq (ltOf zj5) l.toArray 0 l.length (Lib.bitLen l.length) true true).toList):=
  ztF Tryz.sort248 zzw (fun w=>zlZ (P:=Tryz.prog) (T:=73) kr w) (fun w=>zS (P:=Tryz.prog) (T:=73) kr w) zy4 (enters_of Tryz.func113 kr rfl) hc hg (by omega)
end Go.Lf
namespace Go.Lf
open Go Go.Proofs
def hsz (H:Array Obj) (b:Nat):Nat:=match H[b]? with | some (.cells c _ _)=>c.size | _=>0
theorem Fn.belowT (τ:Tag) {P:Program} {f:FuncId} {args:Array Value} {κ:K} {R:Value→K→Prop} (h:∀ C d,Calls P f args (W C κ d) fun e w'=>∃ v,e=.returned v∧Go.RowKit.Below κ.H.size (W C κ d) w'∧∀ κ',κ'.H=w'.heap→Step [] κ κ'→(∀ b,κ.H.size≤b→κ'.fr b=hsz w'.heap b∧κ'.tag b=τ)→R v κ'):Fn P f args κ R:=by
 intro C d;refine (h C d).mono ?_;rintro e w' ⟨v,he,hb,hR⟩;refine ⟨v,⟨w'.heap,fun b=>if b<κ.H.size then κ.fr b else hsz w'.heap b,fun b=>if b<κ.H.size then κ.tag b else τ⟩,w'.drawn,he,?_,hR _ rfl ?_ fun b hb=>⟨if_neg (by omega),if_neg (by omega)⟩⟩
 ·have h1:=hb.os;have h2:=hb.tape;have h3:=hb.output;cases w'
  simp only [W] at h1 h2 h3 ⊢;subst h1;subst h2;subst h3;have h0:C.base=0:=fv C.hb;rw [h0,gl]
 have hH:∀ b,b<κ.H.size→w'.heap[b]?=κ.H[b]?:=fun b hlt=>hb.block b hlt;refine ⟨hb.size,fun b hlt _=>⟨hH b hlt,if_pos hlt,if_pos hlt⟩,fun b hlt=>⟨Nat.le_of_eq (if_pos hlt).symm,fun o _=>?_⟩,fun b hlt _=>⟨if_pos hlt,?_⟩⟩
 ·unfold K.cell;rw [hH b hlt]
 unfold K.shp;rw [hH b hlt]
theorem Fn.below {P:Program} {f:FuncId} {args:Array Value} {κ:K} {R:Value→K→Prop} (h:∀ C d,Calls P f args (W C κ d) fun e w'=>∃ v,e=.returned v∧Go.RowKit.Below κ.H.size (W C κ d) w'∧∀ κ',κ'.H=w'.heap→Step [] κ κ'→R v κ'):Fn P f args κ R:=
  Fn.belowT (0,0) fun C d=>(h C d).mono fun _ _ ⟨v,h1,h2,h3⟩=>⟨v,h1,h2,fun κ' a b _=>h3 κ' a b⟩
theorem Glob.tab {κ:K} (G:Glob κ) (C:Cx) (d:Nat):Lib.TabIs Tryz.prog (W C κ d) "internal/strconv.uint64pow10" .u64 Lib.pow10Tab:=by
 have hg:Tryz.prog.globalNamed "internal/strconv.uint64pow10" = some 0:=kr;obtain ⟨_,e,k,h4⟩:=G.psz;unfold Lib.TabIs World.var?;rw [hg];simp only [gp];unfold K.shp at h4;show (match κ.H[0]? with | some (.cells cs _ _)=>some cs | _=>none)=_;split at h4
 ·rename_i c T kk hH;rw [hH];injection h4 with h4
  injection h4 with _ h4
  injection h4 with h4 _
  show some c=_;congr 1;have hp:(Lib.pow10Tab.map fun z=>Value.int .u64 z)=pow10s.map (Value.int .u64):=by rfl
  rw [hp];apply Array.ext_getElem?;intro i;by_cases hi:i<(pow10s.map (Value.int .u64)).length
  ·have:=G.pow.2.2 i _ (cq hi);unfold K.cell at this;rw [hH] at this;simp only [gl] at this;rw [this,List.getElem?_toArray,cq hi]
  rw [Array.getElem?_eq_none (by rw [h4];rw [dz] at hi;omega),Array.getElem?_eq_none (by rw [fo];omega)]
 cases h4
theorem zm2 {κ:K} {p0:Int} {p1:Int} (hb1:I64 p0) (hb2:I64 p1) (G0:Glob κ) {r:BS} (hr:zhU p0 p1=some r) :
 Fn Tryz.prog 171 #[iv p0,iv p1] κ (fun v κ'=>Step [] κ κ'∧v=zw r∧r.length≤9223372036854775807):=by
 unfold zhU at hr;split at hr
 ·rename_i h;subst h;obtain rfl:=sj hr;refine Fn.below fun C d=>(Any.strconv_FormatInt_10 Tryz.laysM173 p0 hb1.1 hb1.2 (W C κ d) (G0.tab C d)).mono ?_;rintro e w' ⟨he,k,os,rfl⟩;refine ⟨_,he,⟨rfl,rfl,rfl,by show κ.H.size≤(κ.H++os).size;rw [Array.size_append];omega,fun b hb=>?_⟩,fun κ' _ s=>⟨s,rfl,?_⟩⟩
  ·show (κ.H++os)[b]?=κ.H[b]?;rw [Array.getElem?_append_left hb]
  have:=Lib.itoa_length_le p0 hb1.1 hb1.2;omega
 cases hr
theorem zzn {x b:Nat} (h:x≠b):x∉[b]:=by simpa using h
theorem znN {a:Option Addr} {c b:Nat} (h:b∉blk a c):∀ x∈blk a c,x∉[b]:=fun x hx hm=>h (by rw [fg] at hm;rw [←hm];exact hx)
theorem zp5 {κ:K} {r:MkSt} (hr:zlJ=some r) :
  Fn Tryz.prog 61 #[] κ (fun v κ'=>Step [] κ κ'∧∃ (b N:Nat),v=.pointer (some ⟨b,0,none⟩)∧κ.H.size≤N∧Mkr tGlue tTile 126 169 161 (N,61001) κ' b r):=by
 obtain rfl:=Option.some.inj hr;refine fnc 5 [] Tryz.func61 Tryz.ntmps61 fun hs=>?_;refine csr ?_;refine op 0 (.pointer none) ?_;refine otx ?_;refine omk (d:=1) (T:=124) kStr tI64 (κ.H.size,61001) hs.1 fun bm κ1 s1 m1=>?_;replace hs:=hs.tr0 s1;refine omp kStr (T:=124) (kd:=9) (e:=2) (x:=[45]) (y:=0) (v:=.int .i64 0) m1 ⟨rfl,by unfold I64;omega⟩ fun κ2 s2 _ m2=>?_;replace hs:=hs.trB m1.ge s2;refine op 2 (.map (some bm)) ?_;refine op 3 (.agg #[.slice none 0 0,.slice none 0 0,.map (some bm)]) ?_;refine oB 126 61001 [.slice none 0 0,.slice none 0 0,.map (some bm)] hs fun b κ3 hs s3 B=>?_;have m3:=m2.step s3 (by simp);have hne:b≠bm:=fun e=>by
  subst e;obtain ⟨es,cl,h,_⟩:=m3.obj;have h2:=B.obj;rw [h] at h2;cases h2
 refine op 0 (.pointer (some ⟨b,0,none⟩)) ?_;refine ot ?_;refine crt ?_;refine rt [.tmp 0] [.pointer (some ⟨b,0,none⟩)] ⟨rfl,trivial⟩ ?_;exact ⟨hs,b,κ.H.size,rfl,fy _,none,0,none,0,bm,B,Gr.nil,Gr.nil,m3,by simp [blk],by simp [blk],by simp [blk],by simp [blk],hne,by simp [blk]⟩
theorem zhy {κ:K} {τ:Tag} {b:Nat} {q:MkSt} {p1:List UInt8} {p2:Int} (D:Mkr tGlue tTile 126 169 161 τ κ b q) (hb1:p1.length≤9223372036854775807) (hb2:I64 p2) {r:MkSt} (hr:zcd q p1 p2=some r) :
  Fn Tryz.prog 107 #[.pointer (some ⟨b,0,none⟩),zw p1,.int .i64 p2] κ (fun v κ'=>Step (tk τ κ) κ κ'∧v=.tuple #[]∧Mkr tGlue tTile 126 169 161 τ κ' b r):=by
 obtain ⟨a1,c1,a2,c2,bm,B,g1,g2,m,z1,z2,z3,z4,z5,z6⟩:=D.ex;have hbt:b∈tk τ κ:=zcT.2 ⟨B.lt,B.tag,B.ge⟩;have hmt:bm∈tk τ κ:=zcT.2 ⟨m.lt,m.tag,m.ge⟩;have hgt:∀ x∈blk a1 c1,x∈tk τ κ:=fun x hx=>zcT.2 (g1.lt x hx);unfold zcd at hr;obtain ⟨y,hy,hr⟩:=bind_some hr;obtain rfl:=Option.some.inj hr;refine fnc 31 [] Tryz.func107 Tryz.ntmps107 fun hs=>?_;refine csr ?_;refine op 6 (.pointer (some ⟨b,0,none⟩)) ?_;refine op 7 (.pointer (some ⟨b,0,none⟩)) ?_;refine op 8 (.pointer (some ⟨b,0,none⟩)) ?_;refine op 9 (.pointer (some ⟨b,0,none⟩)) ?_;refine op 10 (.pointer (some ⟨b,0,none⟩)) ?_;refine oV B.at 0 ?_;refine op 12 (zw p1) ?_;refine op 13 (.int .i64 p2) ?_;refine op 14 (.agg #[zw p1,.int .i64 p2]) ?_;refine zs4 (d:=15) (T:=38) (e:=169) (t:=tGlue) (pub:=true) (τ:=(κ.H.size,107001)) (len:=1) (l:=[(p1,p2)]) (parts:=#[(0,.agg #[zw p1,.int .i64 p2])]) (cs:=[zw p1,.int .i64 p2]) (by kernel_rfl) (by kernel_rfl) (by kernel_rfl) (by kernel_rfl) hs.1 rfl ⟨_,_,rfl,⟨_,_,rfl,⟨rfl,hb1⟩,⟨rfl,hb2⟩⟩,rfl⟩ (by kernel_rfl) fun a3 κ1 s1 f1=>?_;replace B:=B.step0 s1;replace g1:=g1.step0 s1;replace g2:=g2.step0 s1;replace m:=m.step s1 (by simp);refine oP 38 g1 f1.sl (Nat.le_of_lt B.tlt) hy fun a4 c4 κ2 s2 g3 hw=>?_;have z1':b∉blk a4 c4:=fun h=>(hw b h).elim z1 (fun h'=>by have:=B.lt;omega);have z3':bm∉blk a4 c4:=fun h=>(hw bm h).elim z3 (fun h'=>by have:=m.lt;omega);have z6':∀ g∈blk a4 c4,g∉blk a2 c2:=fun g h=>(hw g h).elim (z6 g) (fun h' hx=>by have:=(g2.lt g hx).1;omega);replace B:=B.step s2 z1;replace g2:=g2.step s2 (fun x hx h=>z6 x h hx);replace m:=m.step s2 z3;refine op 17 (.pointer (some ⟨b,0,none⟩)) ?_;refine op 18 (.pointer (some ⟨b,0,none⟩)) ?_;refine op 19 (.pointer (some ⟨b,0,none⟩)) ?_;refine zet (b:=b) (off:=0) (T:=38) (.slice a4 y.length c4) [.slice a4 y.length c4] [.slice a4 y.length c4,.slice a2 q.2.1.length c2,.map (some bm)] (by kernel_rfl) (by kernel_rfl) B rfl (by kernel_rfl) (by kernel_rfl) (by kernel_rfl) rfl fun κ3 s3 _ B3=>?_;replace g3:=g3.step s3 (znN z1');replace g2:=g2.step s3 (znN z2);replace m:=m.step s3 (zzn z5.symm);refine ot ?_;refine cd 11 ?_;refine dp 20 (.pointer (some ⟨b,0,none⟩)) ?_;refine dp 21 (.pointer (some ⟨b,0,none⟩)) ?_;refine dp 22 (.pointer (some ⟨b,2,none⟩)) ?_;refine dV B3.at 2 ?_;refine dp 24 (zw p1) ?_;refine dp 25 (.pointer (some ⟨b,0,none⟩)) ?_;refine dp 26 (.pointer (some ⟨b,0,none⟩)) ?_;refine dp 27 (.pointer (some ⟨b,0,none⟩)) ?_;refine dp 28 (.pointer (some ⟨b,0,none⟩)) ?_;refine dV B3.at 0 ?_;refine dp 30 (.int .i64 (y.length:Int)) ?_;refine de ?_;refine omp kStr (T:=124) (kd:=9) (e:=2) (x:=p1) (y:=(y.length:Int)) (v:=.int .i64 (y.length:Int)) m ⟨rfl,zij (zqK g3.most)⟩ fun κ4 s4 _ m4=>?_;replace B3:=B3.step s4 (zzn z5);replace g3:=g3.step s4 (znN z3');replace g2:=g2.step s4 (znN z4);refine oe ?_;refine rn [] [] trivial ?_;exact ⟨(((s1.nil.trans (s2.mono hgt)).trans (s3.mono fun x hm=>by rw [fg.1 hm];exact hbt)).trans (s4.mono fun x hm=>by rw [fg.1 hm];exact hmt)),rfl,a4,c4,a2,c2,bm,B3,g3,g2,m4,z1',z2,z3',z4,z5,z6'⟩
theorem zoy {κ:K} {τ:Tag} {b:Nat} {q:MkSt} {p1:List UInt8} {p2:List (List UInt8)} {a0:Option Addr} {c0:Nat} (D:Mkr tGlue tTile 126 169 161 τ κ b q) (hb1:p1.length≤9223372036854775807) (f0:Sl tStr κ a0 c0 p2) {r:Int×MkSt} (hr:zfb q p1 p2=some r) :
  Fn Tryz.prog 112 #[.pointer (some ⟨b,0,none⟩),zw p1,.slice a0 p2.length c0] κ (fun v κ'=>Step (tk τ κ) κ κ'∧v=.int .i64 r.1∧I64 r.1∧Mkr tGlue tTile 126 169 161 τ κ' b r.2):=by
 obtain ⟨a1,c1,a2,c2,bm,B,g1,g2,m,z1,z2,z3,z4,z5,z6⟩:=D.ex;have hbt:b∈tk τ κ:=zcT.2 ⟨B.lt,B.tag,B.ge⟩;have hgt:∀ x∈blk a2 c2,x∈tk τ κ:=fun x hx=>zcT.2 (g2.lt x hx);unfold zfb at hr;obtain ⟨sd,hsd,hr⟩:=bind_some hr;obtain ⟨y,hy,hr⟩:=bind_some hr;obtain rfl:=Option.some.inj hr;refine fnc 49 [] Tryz.func112 Tryz.ntmps112 fun hs=>?_;refine csr ?_;refine op 6 (.int .i64 0) ?_;refine otx ?_;refine op 10 (zw p1) ?_;refine op 11 (.agg #[zw p1,.slice none 0 0]) ?_;refine oA 161 112001 [zw [],.slice none 0 0] hs fun bt κ1 hs s1 Bt=>?_;refine zet (b:=bt) (off:=0) (T:=161) (.agg #[zw p1,.slice none 0 0]) [zw p1,.slice none 0 0] [zw p1,.slice none 0 0] (by kernel_rfl) (by kernel_rfl) Bt rfl (by kernel_rfl) (by kernel_rfl) (by kernel_rfl) rfl fun κ2 s2 _ Bt2=>?_;replace hs:=hs.trB Bt.ge s2;refine ot ?_;refine cs ?_;refine csr ?_;refine op 12 (.slice a0 p2.length c0) ?_;refine op 13 (.int .i64 (p2.length:Int)) ?_;refine op 14 (.int .i64 0) ?_;refine ot ?_;refine cb 0 ?_;refine zp (F:=zeR q.2.2 p2) (J:=fun (sx:(List Int)×Int) (E':Env) (κ':K)=>∃ (a4:Option Addr) (c4:Nat),(∃ E0,E'=upd (upd (upd (upd (upd E0 0 (.pointer (some ⟨b,0,none⟩))) 7 (.pointer (some ⟨bt,0,none⟩))) 12 (.slice a0 p2.length c0)) 13 (.int .i64 (p2.length:Int))) 14 (.int .i64 sx.2))∧Step [] κ κ'∧
   Box (κ.H.size,112001) κ' bt [zw p1,.slice a4 sx.1.length c4] 161∧Gr tI64 true (κ.H.size,112002) κ' 2 a4 c4 sx.1∧I64 sx.2) (s0:=([],0)) (x:=sd) (by kernel_rfl) hsd
   ⟨none,0,⟨_,(za (t:=14) (za (t:=13) (za (t:=12) (za (t:=7) (za (t:=0) rfl (by kernel_rfl)) (by kernel_rfl)) (by kernel_rfl)) (by kernel_rfl)) (by kernel_rfl))⟩,hs,Bt2,Gr.nil,(show I64 0 by unfold I64;omega)⟩ ?_
 rintro sx _ κ3 ⟨a4,c4,⟨E0,rfl⟩,hs,Bt,g4,hbi⟩ yy hr hd;unfold zeR at hr;refine csr ?_;refine op 15 (.bool (decide (sx.2<(p2.length:Int)))) ?_;refine ot ?_;refine cs ?_;refine cc (decide (sx.2<(p2.length:Int))) hr ?_ ?_
 ·clear hr;intro hc hr;refine ckt ?_;refine cs ?_;refine cb 1 ?_;refine csr ?_;obtain ⟨x,hx,hr⟩:=bind_some hr;refine oJ (f0.step hs) hx fun bs os hbx ps=>?_;refine oV ps.at 0 ?_;refine op 9 (zw x) ?_;refine ot ?_;refine cx_ 9 [0,1,2,3,4,5,6,7,8] [8] 9 [] ?_;refine xp 18 (.pointer (some ⟨bt,1,none⟩)) ?_;refine x1f 19 149 (.slice a4 sx.1.length c4) Bt.at (by simp) 1 rfl ?_;refine xp 20 (.pointer (some ⟨b,0,none⟩)) ?_;refine xp 21 (.pointer (some ⟨b,0,none⟩)) ?_;refine xp 22 (.pointer (some ⟨b,2,none⟩)) ?_;refine x1f 23 124 (.map (some bm)) (B.step0 hs).at (by simp) 2 rfl ?_;refine xp 24 (zw x) ?_;refine zz8 kStr (d:=25) (T:=124) (kd:=9) (e:=2) (x:=x) (m.step hs (by simp)) (by simp) fun hbv=>?_;refine zfq (d:=26) (T:=149) (e:=2) (t:=tI64) (pub:=true) (τ:=(κ.H.size,112003)) (len:=1) (l:=[(mget q.2.2 x).getD 0]) (parts:=#[(0,.int .i64 ((mget q.2.2 x).getD 0))]) (cs:=[.int .i64 ((mget q.2.2 x).getD 0)]) (by kernel_rfl) (by kernel_rfl) (by kernel_rfl) (by kernel_rfl) hs.1 rfl ⟨_,_,rfl,⟨rfl,hbv⟩,rfl⟩ (by kernel_rfl) fun a5 κ4 s4 f5=>?_;replace hs:=hs.tr0 s4;obtain ⟨Bt,g4⟩:=sQ2 s4 Bt g4;refine xe ?_;obtain ⟨z,hz,hr⟩:=bind_some hr;refine oP 149 g4 f5.sl hs.1 hz fun a6 c6 κ5 s5 g6 hw=>?_;clear hw;replace hs:=hs.trG (g4.own (fy _)) s5;replace Bt:=Bt.step s5 (g4.bn Bt (zk (N:=κ.H.size) (M:=κ.H.size) (i:=112001) (j:=112002) (by kernel_rfl)));refine op 28 (.pointer (some ⟨bt,1,none⟩)) ?_;refine zet (b:=bt) (off:=1) (T:=149) (.slice a6 z.length c6) [.slice a6 z.length c6] [zw p1,.slice a6 z.length c6] (by kernel_rfl) (by kernel_rfl) Bt rfl (by kernel_rfl) (by kernel_rfl) (by kernel_rfl) rfl fun κ6 s6 _ Bt6=>?_;replace hs:=hs.trB Bt.ge s6;replace g6:=g6.step s6 (g6.nb Bt (zk (N:=κ.H.size) (M:=κ.H.size) (i:=112002) (j:=112001) (by kernel_rfl)));refine oe ?_;refine zc ?_;refine zb ?_;refine cr ?_;refine op 29 (.int .i64 (w64 (sx.2+1))) ?_;refine op 14 (.int .i64 (w64 (sx.2+1))) ?_;refine oe ?_;exact ze (Option.some.inj hr).symm ⟨_,_,⟨_,(za (t:=14) (za (t:=13) (za (t:=12) (za (t:=7) (za (t:=0) rfl (by kernel_rfl)) (by kernel_rfl)) (by kernel_rfl)) (by kernel_rfl)) (by kernel_rfl))⟩,hs,Bt6,g6,zo _⟩
 ·clear hr;intro hc hr;refine cx 0 ?_;refine zg ?_;have hx:=hd _ (Option.some.inj hr).symm;subst hx;refine zh ?_;refine zf ?_;refine zb ?_;have B3:=B.step0 hs;have g23:=g2.step0 hs;have g13:=g1.step0 hs;have m3:=m.step hs (by simp);have hge:κ.H.size≤κ3.H.size:=hs.1;have hbb:bt≠b:=fun e=>by have:=B.lt;have:=Bt.ge;simp only at this;omega
  refine cs ?_;refine cx_ 9 [0,1,2,3,4,5,6,7,8] [7,8] 8 (blk a2 c2) ?_;refine xp 30 (.pointer (some ⟨b,0,none⟩)) ?_;refine xp 31 (.pointer (some ⟨b,0,none⟩)) ?_;refine xp 32 (.pointer (some ⟨b,0,none⟩)) ?_;refine xp 33 (.pointer (some ⟨b,0,none⟩)) ?_;refine xp 34 (.pointer (some ⟨b,1,none⟩)) ?_;refine xV B3.at 1 ?_;refine xL Bt.at 0 2 ?_;refine zfq (d:=37) (T:=39) (e:=161) (t:=tTile) (pub:=true) (τ:=(κ.H.size,112004)) (len:=1) (l:=[(p1,sx.1)]) (parts:=#[(0,.agg #[zw p1,.slice a4 sx.1.length c4])]) (cs:=[zw p1,.slice a4 sx.1.length c4]) (by kernel_rfl) (by kernel_rfl) (by kernel_rfl) (by kernel_rfl) hs.1 rfl ⟨_,_,rfl,⟨_,_,rfl,⟨rfl,hb1⟩,⟨_,_,rfl,g4.sl⟩⟩,rfl⟩ (by kernel_rfl) fun a5 κ4 s4 f5=>?_;obtain ⟨B3,g13,g23⟩:=sQ3 s4 B3 g13 g23;replace m3:=m3.step s4 (by simp);replace hs:=hs.tr0 s4;refine zok (d:=38) (T:=39) (e:=161) (t:=tTile) (pub:=true) (τ:=τ) (bytes:=40) (a:=a2) (cp:=c2) (l:=q.2.1) (a2:=a5) (c2:=1) (l2:=[(p1,sx.1)]) (by kernel_rfl) (by kernel_rfl) g23 f5.sl (Nat.le_of_lt B3.tlt) (by kernel_rfl) hy (by kernel_rfl) fun a6 c6 κ5 s5 g6 hw=>?_;have z2':b∉blk a6 c6:=fun h=>(hw b h).elim z2 (fun h'=>by have:=B3.lt;omega);have z4':bm∉blk a6 c6:=fun h=>(hw bm h).elim z4 (fun h'=>by have:=m3.lt;omega);have z6':∀ g∈blk a1 c1,g∉blk a6 c6:=fun g h hx=>(hw g hx).elim (z6 g h) (fun h'=>by have:=(g13.lt g h).1;omega);replace B3:=B3.step s5 z2;replace g13:=g13.step s5 (fun x hx h=>z6 x hx h);replace m3:=m3.step s5 z4;refine xe ?_;refine op 39 (.pointer (some ⟨b,0,none⟩)) ?_;refine op 40 (.pointer (some ⟨b,0,none⟩)) ?_;refine op 41 (.pointer (some ⟨b,1,none⟩)) ?_;refine zet (b:=b) (off:=1) (T:=39) (.slice a6 y.length c6) [.slice a6 y.length c6] [.slice a1 q.1.length c1,.slice a6 y.length c6,.map (some bm)] (by kernel_rfl) (by kernel_rfl) B3 rfl (by kernel_rfl) (by kernel_rfl) (by kernel_rfl) rfl fun κ6 s6 _ B6=>?_;replace g13:=g13.step s6 (znN z1);replace g6:=g6.step s6 (znN z2');replace m3:=m3.step s6 (zzn z5.symm);refine otx ?_;refine op 42 (.pointer (some ⟨b,0,none⟩)) ?_;refine op 43 (.pointer (some ⟨b,0,none⟩)) ?_;refine op 44 (.pointer (some ⟨b,0,none⟩)) ?_;refine op 45 (.pointer (some ⟨b,1,none⟩)) ?_;refine oV B6.at 1 ?_;refine op 47 (.int .i64 (y.length:Int)) ?_;refine op 48 (.int .i64 (w64 ((y.length:Int) - 1))) ?_;refine op 6 (.int .i64 (w64 ((y.length:Int) - 1))) ?_;refine ot ?_;refine crt ?_;refine rt [.tmp 6] [.int .i64 (w64 ((y.length:Int) - 1))] ⟨rfl,trivial⟩ ?_;exact ⟨(hs.nil.trans (s5.mono hgt)).trans (s6.mono fun x hm=>by rw [fg.1 hm];exact hbt),rfl,zo _,a1,c1,a6,c6,bm,B6,g13,g6,m3,z1,z2',z3,z4',z5,z6'⟩
theorem zmZ {κ:K} {p0:Int×(Int×Int)×Int} (hb1:I64 p0.1) (hb2:I64 p0.2.1.1) (hb3:I64 p0.2.1.2) (hb4:I64 p0.2.2) :
  Fn Tryz.prog 71 #[.agg #[.int .i64 p0.1,.int .i64 p0.2.1.1,.int .i64 p0.2.1.2,.int .i64 p0.2.2]] κ (fun v κ'=>Step [] κ κ'∧v=zs9 p0):=by
 refine fnc 26 [] Tryz.func71 Tryz.ntmps71 fun hs=>?_;refine csr ?_;refine oB 75 71001 [.int .i64 p0.1,.int .i64 p0.2.1.1,.int .i64 p0.2.1.2,.int .i64 p0.2.2] hs fun b1 κ1 hs s1 B1=>?_;refine op 2 .nilIface ?_;refine otx ?_;refine op 4 (.pointer (some ⟨b1,1,none⟩)) ?_;refine oL B1.at 1 2 ?_;refine op 6 (.pointer (some ⟨b1,3,none⟩)) ?_;refine oV B1.at 3 ?_;refine op 8 (.agg #[.int .i64 p0.2.1.1,.int .i64 p0.2.1.2,.int .i64 p0.2.2]) ?_;refine oA 133 71002 [.int .i64 0,.int .i64 0,.int .i64 0] hs fun b3 κ2 hs s2 B3=>?_;replace B1:=B1.step0 s2;refine zet (b:=b3) (off:=0) (T:=133) (.agg #[.int .i64 p0.2.1.1,.int .i64 p0.2.1.2,.int .i64 p0.2.2]) [.int .i64 p0.2.1.1,.int .i64 p0.2.1.2,.int .i64 p0.2.2] [.int .i64 p0.2.1.1,.int .i64 p0.2.1.2,.int .i64 p0.2.2] (by kernel_rfl) (by kernel_rfl) B3 rfl (by kernel_rfl) (by kernel_rfl) (by kernel_rfl) rfl fun κ3 s3 _ N3=>?_;replace hs:=hs.trB B3.ge s3;replace B1:=B1.step s3 (nm1 (B1.ne B3 (zk (N:=κ.H.size) (M:=κ.H.size) (i:=71001) (j:=71002) (by kernel_rfl))));refine ot ?_;refine cs ?_;refine csr ?_;refine op 9 (.pointer (some ⟨b1,0,none⟩)) ?_;refine oV B1.at 0 ?_;refine ot ?_;refine cb 0 ?_;refine csr ?_;refine op 12 (.bool (decide (p0.1=1))) ?_;refine op 11 (.bool (decide (p0.1=1))) ?_;refine ot ?_;cases h1:decide (p0.1=1) with
 | true=>
  refine ct ?_;refine csr ?_;refine oL N3.at 0 3 ?_;refine op 14 (.agg #[.int .i64 p0.2.1.1,.int .i64 p0.2.1.2,.int .i64 p0.2.2]) ?_;refine op 15 (.iface 183 (.agg #[.int .i64 p0.2.1.1,.int .i64 p0.2.1.2,.int .i64 p0.2.2])) ?_;refine op 2 (.iface 183 (.agg #[.int .i64 p0.2.1.1,.int .i64 p0.2.1.2,.int .i64 p0.2.2])) ?_;refine ot ?_;refine crt ?_;refine zl ?_;refine zd ?_;refine rt [.tmp 2] [.iface 183 (.agg #[.int .i64 p0.2.1.1,.int .i64 p0.2.1.2,.int .i64 p0.2.2])] ⟨rfl,trivial⟩ ?_;exact ⟨hs,(zxd h1).symm⟩
 | false=>
  refine cf ?_;refine csr ?_;refine op 17 (.bool (decide (p0.1=2))) ?_;refine op 16 (.bool (decide (p0.1=2))) ?_;refine ot ?_;cases h2:decide (p0.1=2) with
  | true=>
   refine ct ?_;refine csr ?_;refine oL N3.at 0 3 ?_;refine op 19 (.agg #[.int .i64 p0.2.1.1,.int .i64 p0.2.1.2,.int .i64 p0.2.2]) ?_;refine op 20 (.iface 135 (.agg #[.int .i64 p0.2.1.1,.int .i64 p0.2.1.2,.int .i64 p0.2.2])) ?_;refine op 2 (.iface 135 (.agg #[.int .i64 p0.2.1.1,.int .i64 p0.2.1.2,.int .i64 p0.2.2])) ?_;refine ot ?_;refine crt ?_;refine zl ?_;refine zd ?_;refine rt [.tmp 2] [.iface 135 (.agg #[.int .i64 p0.2.1.1,.int .i64 p0.2.1.2,.int .i64 p0.2.2])] ⟨rfl,trivial⟩ ?_;exact ⟨hs,(zxc h2).symm⟩
  | false=>
   refine cf ?_;refine csr ?_;refine op 22 (.bool (decide (p0.1=3))) ?_;refine op 21 (.bool (decide (p0.1=3))) ?_;refine ot ?_;cases h3:decide (p0.1=3) with
   | true=>
    refine ct ?_;refine csr ?_;refine oL N3.at 0 3 ?_;refine op 24 (.agg #[.int .i64 p0.2.1.1,.int .i64 p0.2.1.2,.int .i64 p0.2.2]) ?_;refine op 25 (.iface 184 (.agg #[.int .i64 p0.2.1.1,.int .i64 p0.2.1.2,.int .i64 p0.2.2])) ?_;refine op 2 (.iface 184 (.agg #[.int .i64 p0.2.1.1,.int .i64 p0.2.1.2,.int .i64 p0.2.2])) ?_;refine ot ?_;refine crt ?_;refine zl ?_;refine zd ?_;refine rt [.tmp 2] [.iface 184 (.agg #[.int .i64 p0.2.1.1,.int .i64 p0.2.1.2,.int .i64 p0.2.2])] ⟨rfl,trivial⟩ ?_;exact ⟨hs,(zxb h3).symm⟩
   | false=>
    refine cf ?_;refine ck ?_;refine zc ?_;refine zb ?_;refine csr ?_;refine op 2 .nilIface ?_;refine ot ?_;refine crt ?_;refine rt [.tmp 2] [.nilIface] ⟨rfl,trivial⟩ ?_;exact ⟨hs,(zxe h1 h2 h3).symm⟩
abbrev Pq:=Int×Int
theorem zsN (z y:Pq):∀ xs:List Pq,zc5 (xs++[z]++[y])=if z=y then zc5 (xs++[z]) else zc5 (xs++[z])++[y]
 | []=>by
  show zc5 [z,y]=_;by_cases h:z=y
  ·subst h;simp [zc5]
  ·simp [zc5,h]
 | [a]=>by
  show zc5 [a,z,y]=_;by_cases h:z=y
  ·subst h;by_cases h2:a=z<;>simp [zc5,h2]
  ·by_cases h2:a=z<;>simp [zc5,h,h2]
 | a::b::xs=>by
  have ih:=zsN z y (b::xs);show zc5 (a::b::(xs++[z]++[y]))=_;have e1:zc5 (a::b::(xs++[z]++[y]))=if a=b then zc5 (b::(xs++[z]++[y])) else a::zc5 (b::(xs++[z]++[y])):=by rw [zc5]
  have e2:zc5 ((a::b::xs)++[z])=if a=b then zc5 ((b::xs)++[z]) else a::zc5 ((b::xs)++[z]):=by
   show zc5 (a::b::(xs++[z]))=_;rw [zc5];rfl
  have ih':zc5 (b::(xs++[z]++[y]))=if z=y then zc5 (b::xs++[z]) else zc5 (b::xs++[z])++[y]:=ih;rw [e1,e2,ih'];by_cases h:a=b<;>by_cases h2:z=y<;>simp [h,h2]
theorem zsM {l:List Pq} {n:Nat} {z y:Pq} (hz:l[n]?=some z) (hy:l[n+1]?=some y):zc5 (l.take (n+2))=if z=y then zc5 (l.take (n+1)) else zc5 (l.take (n+1))++[y]:=by
 have e1:l.take (n+1)=l.take n++[z]:=by rw [fp,hz];rfl
 have e2:l.take (n+2)=l.take n++[z]++[y]:=by rw [fp,hy,e1];rfl
 rw [e2,e1,zsN]
theorem zqQ:∀ {l:List Pq},(∀ j,j+1<l.length→l[j]?≠l[j+1]?)→zc5 l=l
 | [],_=>rfl
 | [a],_=>rfl
 | a::b::l,h=>by
  have h0:=h 0 (by simp);have hab:a≠b:=fun e=>h0 (by simp [e]);rw [zc5,if_neg hab,zqQ (l:=b::l) (fun j hj=>by have:=h (j+1) (by simpa using hj);simpa using this)]
theorem zvP {κ:K} {cs:List Value} {x:Pq} (h:tPoint.own κ cs x):cs=[.int .i64 x.1,.int .i64 x.2]∧I64 x.1∧I64 x.2:=by
 obtain ⟨_,_,rfl,⟨rfl,h1⟩,⟨rfl,h2⟩⟩:=h;exact ⟨rfl,h1,h2⟩
theorem zsu {κ:K} {x:Pq} (h1:I64 x.1) (h2:I64 x.2):tPoint.own κ [.int .i64 x.1,.int .i64 x.2] x:=⟨_,_,rfl,⟨rfl,h1⟩,⟨rfl,h2⟩⟩
theorem zvs {τ:Tag} {κ:K} {a:Option Addr} {c:Nat} {l:List Pq} {i:Nat} {x:Pq} {e:TypeId} {b:Nat} (h:Gr tPoint false τ κ e a c l) (ha:a=some ⟨b,0,none⟩) (hx:l[i]?=some x):At κ b (0+i*2) [.int .i64 x.1,.int .i64 x.2]∧I64 x.1∧I64 x.2:=by
 have hx':idx l (i:Int)=some x:=by unfold idx;rw [if_pos (by omega)];simpa using hx
 obtain ⟨b',ea,_,_,cs,p,ow⟩:=h.idx hx';rw [ha] at ea;injection ea with ea;injection ea with eb;subst eb
 obtain ⟨rfl,h1,h2⟩:=zvP ow;exact ⟨p,h1,h2⟩
theorem zoW {κ:K} {τ:Tag} {a:Option Addr} {c:Nat} {l:List Pq} (hg:Gr tPoint false τ κ 73 a c l) (hl:l.length≤1000000) :
  Fn Tryz.prog 149 #[.slice a l.length c] κ (fun v κ'=>Step (blk a c) κ κ'∧v=.slice a (zc5 l).length c∧Gr tPoint false τ κ' 73 a c (zc5 l)):=by
 refine fnc 61 (blk a c) Tryz.func149 Tryz.ntmps149 fun hs=>?_;refine csr ?_;refine op 2 (.slice none 0 0) ?_;refine ot ?_;refine cs ?_;refine csr ?_;refine op 6 (.slice a l.length c) ?_;refine op 7 (.int .i64 (l.length:Int)) ?_;refine op 8 (.bool (decide ((l.length:Int)<2))) ?_;refine ot ?_;cases h2:decide ((l.length:Int)<2) with
 | true=>
  have h2:=of_decide_eq_true h2;have hid:zc5 l=l:=zqQ fun j hj=>by omega
  refine ct ?_;refine csr ?_;refine op 9 (.slice a l.length c) ?_;refine op 2 (.slice a l.length c) ?_;refine ot ?_;refine crt ?_;refine zd ?_;refine rt [.tmp 2] [.slice a l.length c] ⟨rfl,trivial⟩ ?_;rw [hid];exact ⟨hs,rfl,hg⟩
 | false=>
  have h2:=of_decide_eq_false h2;refine cf ?_;refine ck ?_;refine zb ?_;refine cs ?_;refine csr ?_;refine op 3 (.int .i64 1) ?_;refine ot ?_;refine cb 0 ?_;refine zkj (fun m E' κ'=>∃ k:Nat,m+k=l.length∧1≤k∧(∃ E0,E'=upd (upd E0 0 (.slice a l.length c)) 3 (.int .i64 (k:Int)))∧κ=κ'∧∀ j,j+1<k→l[j]?≠l[j+1]?) (by kernel_rfl) (l.length - 1)
   ⟨1,by omega,by omega,⟨_,za (t:=3) (za (t:=0) rfl (by kernel_rfl)) (by kernel_rfl)⟩,rfl,fun j hj=>by omega⟩ ?_
  rintro m _ _ ⟨k,hmk,h1k,⟨E0,rfl⟩,rfl,hnd⟩;refine cs ?_;refine csr ?_;refine op 10 (.int .i64 (k:Int)) ?_;refine op 11 (.slice a l.length c) ?_;refine op 12 (.int .i64 (l.length:Int)) ?_;refine op 13 (.bool (decide ((k:Int)<(l.length:Int)))) ?_;refine ot ?_;cases hk:decide ((k:Int)<(l.length:Int)) with
  | false=>
   have hk:=of_decide_eq_false hk;have hid:zc5 l=l:=zqQ fun j hj=>hnd j (by omega);refine cf ?_;refine cx 0 ?_;refine zg ?_;show zb9 0 _ (.exit 0) _ _;refine zf ?_;refine zb ?_;refine csr ?_;refine op 60 (.slice a l.length c) ?_;refine op 2 (.slice a l.length c) ?_;refine ot ?_;refine crt ?_;refine rt [.tmp 2] [.slice a l.length c] ⟨rfl,trivial⟩ ?_;rw [hid];exact ⟨hs,rfl,hg⟩
  | true=>
   have hk:=of_decide_eq_true hk;have hkn:k<l.length:=by omega
   obtain ⟨x,hx⟩:∃ x,l[k]?=some x:=⟨l[k],cq hkn⟩;obtain ⟨y,hy⟩:∃ y,l[k - 1]?=some y:=⟨l[k - 1],cq (by omega)⟩;have hwk:w64 ((k:Int) - 1)=((k - 1:Nat):Int):=by rw [zas (by unfold I64;omega)];omega
   have hwk1:w64 ((k:Int)+1)=((k+1:Nat):Int):=by rw [zas (by unfold I64;omega)];omega
   obtain ⟨b,ea⟩:∃ b,a=some ⟨b,0,none⟩:=by
    obtain ⟨b',ea,_⟩:=hg.idx (ix:=(k:Int)) (x:=x) (by unfold idx;rw [if_pos (by omega)];simpa using hx);exact ⟨b',ea⟩
   obtain ⟨px,hx1,hx2⟩:=zvs hg ea hx;obtain ⟨py,hy1,hy2⟩:=zvs hg ea hy;refine ct ?_;refine ck ?_;refine zb ?_;refine cs ?_;refine cb 1 ?_;refine cs ?_;refine cd 10 ?_;refine dp 16 (.slice a l.length c) ?_;refine dp 17 (.int .i64 (k:Int)) ?_;refine di 18 35 73 2 l.length c .i64 (k:Int) ea (by omega) hk ?_;refine dL px 0 2 ?_;refine dp 20 (.slice a l.length c) ?_;refine dp 21 (.int .i64 (k:Int)) ?_;refine dp 22 (.int .i64 (w64 ((k:Int) - 1))) ?_;rw [hwk];refine di 23 35 73 2 l.length c .i64 ((k - 1:Nat):Int) ea (by omega) (by omega) ?_;refine dL py 0 2 ?_;refine dq 25 (.bool (decide (x.1=y.1)&&decide (x.2=y.2))) (fun _=>zmq (T:=73) (k1:=.i64) (k2:=.i64) (by kernel_rfl) (by kernel_rfl)) ?_;refine de ?_;refine ot ?_;cases hxy:(decide (x.1=y.1)&&decide (x.2=y.2)) with
   | false=>
    have hne:y≠x:=fun e=>by subst e;simp at hxy
    refine cf ?_;refine ck ?_;refine zc ?_;refine zb ?_;refine cr ?_;refine op 14 (.int .i64 (k:Int)) ?_;refine op 15 (.int .i64 (w64 ((k:Int)+1))) ?_;refine op 3 (.int .i64 (w64 ((k:Int)+1))) ?_;rw [hwk1];refine oe ?_;refine ⟨m - 1,by omega,k+1,by omega,by omega,⟨_,za (t:=3) (za (t:=0) rfl (by kernel_rfl)) (by kernel_rfl)⟩,rfl,fun j hj=>?_⟩;by_cases hj2:j+1<k
    ·exact hnd j hj2
    ·have:j=k - 1:=by omega
     subst this;rw [show k - 1+1=k by omega,hx,hy];intro e;exact hne (Option.some.inj e)
   | true=>
    have hexy:y=x:=by
     simp only [ao,decide_eq_true_eq] at hxy;exact Prod.ext hxy.1.symm hxy.2.symm
    refine ct ?_;refine csr ?_;refine op 26 (.slice a l.length c) ?_;refine op 27 (.int .i64 (k:Int)) ?_;have hcap:=hg.cap;have hsub:zf7 l ((some (k:Int)).getD 0) ((none:Option Int).getD (l.length:Int))=some (l.drop k):=by
     unfold zf7;simp only [gq,Option.getD_none];rw [if_pos ⟨by omega,by omega,by omega⟩];simp
    refine oq 28 (.slice (if c=(k:Int).toNat then a else a.map (·.add ((k:Int).toNat*2))) (l.drop k).length (c - (k:Int).toNat)) (fun w=>zac (s:=vOf (Instr.sliceAt 35 (.slice a l.length c) (zbE (some (k:Int))) none none)) (by kernel_rfl) (zB (zg2 (e:=73) (t:=tPoint) (lo:=some (k:Int)) (hi:=none) (by kernel_rfl) (by kernel_rfl) hg.cap hsub w))) ?_;have hv2:Value.slice (if c=(k:Int).toNat then a else a.map (·.add ((k:Int).toNat*2))) (l.drop k).length (c - (k:Int).toNat)=.slice (some ⟨b,0+k*2,none⟩) (l.length - k) (c - k):=by
     rw [if_neg (by omega),ea,dx];simp only [Option.map_some,zbn,bb]
    rw [hv2];refine op 4 (.slice (some ⟨b,0+k*2,none⟩) (l.length - k) (c - k)) ?_;refine ot ?_;refine cs ?_;refine csr ?_;refine op 5 (.int .i64 1) ?_;refine ot ?_;refine cb 2 ?_;have hk0:l.take k=zc5 (l.take (k+1)):=by
     have h:=zsM (l:=l) (n:=k - 1) (z:=y) (y:=x) hy (by rw [show k - 1+1=k by omega];exact hx);rw [show k - 1+2=k+1 by omega,show k - 1+1=k by omega,if_pos hexy] at h;rw [h];refine (zqQ fun j hj=>?_).symm;rw [ef] at hj;rw [dm,dm,if_pos (by omega),if_pos (by omega)];exact hnd j (by omega)
    refine zkj (fun m2 E' κ'=>∃ (j q:Nat) (L:List Pq),m2+j=l.length - k∧1≤j∧j≤l.length - k∧(∃ E0,E'=upd (upd (upd (upd E0 0 (.slice a l.length c)) 3 (.int .i64 (q:Int))) 4 (.slice (some ⟨b,0+k*2,none⟩) (l.length - k) (c - k))) 5 (.int .i64 (j:Int)))∧
     Step (blk a c) κ' κ'∧Step (blk a c) κ κ'∧Gr tPoint false τ κ' 73 a c L∧L.length=l.length∧q+1≤k+j∧L.take q=zc5 (l.take (k+j))∧∀ i,k+j≤i+1→L[i]?=l[i]?) (by kernel_rfl) (l.length - k - 1)
     ⟨1,k,l,by omega,by omega,by omega,⟨_,za (t:=5) (za (t:=4) (za (t:=3) (za (t:=0) rfl (by kernel_rfl)) (by kernel_rfl)) (by kernel_rfl)) (by kernel_rfl)⟩,Step.refl _ _,hs,hg,rfl,by omega,hk0,fun _ _=>rfl⟩ ?_
    rintro m2 _ κ2 ⟨j,q,L,hmj,h1j,hjn,⟨E1,rfl⟩,_,hs2,G,hL,hq,hT,hD⟩;refine cs ?_;refine csr ?_;refine op 29 (.int .i64 (j:Int)) ?_;refine op 30 (.slice (some ⟨b,0+k*2,none⟩) (l.length - k) (c - k)) ?_;refine op 31 (.int .i64 ((l.length - k:Nat):Int)) ?_;refine op 32 (.bool (decide ((j:Int)<((l.length - k:Nat):Int)))) ?_;refine ot ?_;cases hj:decide ((j:Int)<((l.length - k:Nat):Int)) with
    | false=>
     have hj:=of_decide_eq_false hj;have hjk:k+j=l.length:=by omega
     rw [hjk,fq] at hT;refine cf ?_;refine cx 2 ?_;refine zg ?_;show zb9 2 _ (.exit 2) _ _;refine zf ?_;refine zb ?_;refine csr ?_;refine op 54 (.slice a l.length c) ?_;refine op 55 (.int .i64 (q:Int)) ?_;have hclr:clr L (q:Int) ((0,0):Pq)=some (L.take q++List.replicate (L.length - q) (0,0)):=by
      unfold clr;rw [if_pos ⟨by omega,by omega⟩];simp
     rw [←hL];refine zzl 56 0 (T:=35) (lo:=(q:Int)) [.int .i64 0,.int .i64 0] (z:=((0,0):Pq)) G (zsu (x:=((0,0):Pq)) (by show I64 0;unfold I64;omega) (by show I64 0;unfold I64;omega)) hclr fun κ3 s3 G3=>?_;refine ot ?_;have hlen:(L.take q++List.replicate (L.length - q) ((0,0):Pq)).length=L.length:=by simp;omega
     refine csr ?_;refine op 57 (.slice a L.length c) ?_;refine op 58 (.int .i64 (q:Int)) ?_;have hsub2:zf7 (L.take q++List.replicate (L.length - q) ((0,0):Pq)) 0 (q:Int)=some (zc5 l):=by
      unfold zf7;rw [if_pos ⟨by omega,by omega,by rw [hlen];omega⟩];simp only [bb,Int.toNat_zero,List.drop_zero,Nat.sub_zero];rw [List.take_append_of_le_length (by rw [ef];omega),List.take_take,Nat.min_self,hT]
     rw [←hlen];refine osv 59 (T:=35) (hi:=(q:Int)) G3 hsub2 fun G4=>?_;refine op 2 (.slice a (zc5 l).length c) ?_;refine ot ?_;refine crt ?_;refine zl ?_;refine zd ?_;show zb9 0 _ .ret _ _;refine zl ?_;refine zd ?_;refine rt [.tmp 2] [.slice a (zc5 l).length c] ⟨rfl,trivial⟩ ?_;exact ⟨hs2.trans s3,rfl,G4⟩
    | true=>
     have hj:=of_decide_eq_true hj;obtain ⟨x2,hx'⟩:∃ x,L[k+j]?=some x:=⟨L[k+j]'(by omega),cq (by omega)⟩;obtain ⟨y2,hy'⟩:∃ y,L[k+(j - 1)]?=some y:=⟨L[k+(j - 1)]'(by omega),cq (by omega)⟩;have hwj:w64 ((j:Int) - 1)=((j - 1:Nat):Int):=by rw [zas (by unfold I64;omega)];omega
     have hwj1:w64 ((j:Int)+1)=((j+1:Nat):Int):=by rw [zas (by unfold I64;omega)];omega
     have hwq1:w64 ((q:Int)+1)=((q+1:Nat):Int):=by rw [zas (by unfold I64;omega)];omega
     obtain ⟨qx,qx1,qx2⟩:=zvs G ea hx';obtain ⟨qy,qy1,qy2⟩:=zvs G ea hy';rw [show 0+(k+j)*2=0+k*2+(j:Int).toNat*2 by rw [bb];omega] at qx;rw [show 0+(k+(j - 1))*2=0+k*2+((j - 1:Nat):Int).toNat*2 by rw [bb];omega] at qy;have hlx:l[k+j]?=some x2:=by rw [←hD (k+j) (by omega)];exact hx'
     have hly:l[k+(j - 1)]?=some y2:=by rw [←hD (k+(j - 1)) (by omega)];exact hy'
     have hct:=zsM (l:=l) (n:=k+(j - 1)) hly (by rw [show k+(j - 1)+1=k+j by omega];exact hlx);rw [show k+(j - 1)+2=k+(j+1) by omega,show k+(j - 1)+1=k+j by omega] at hct;refine ct ?_;refine ck ?_;refine zb ?_;refine cs ?_;refine cb 3 ?_;refine cs ?_;refine cd 10 ?_;refine dp 35 (.slice (some ⟨b,0+k*2,none⟩) (l.length - k) (c - k)) ?_;refine dp 36 (.int .i64 (j:Int)) ?_;refine di 37 35 73 2 (l.length - k) (c - k) .i64 (j:Int) (show (some ⟨b,0+k*2,none⟩:Option Addr)=_ from rfl) (by omega) hj ?_;refine dL qx 0 2 ?_;refine dp 39 (.slice (some ⟨b,0+k*2,none⟩) (l.length - k) (c - k)) ?_;refine dp 40 (.int .i64 (j:Int)) ?_;refine dp 41 (.int .i64 (w64 ((j:Int) - 1))) ?_;rw [hwj];refine di 42 35 73 2 (l.length - k) (c - k) .i64 ((j - 1:Nat):Int) (show (some ⟨b,0+k*2,none⟩:Option Addr)=_ from rfl) (by omega) (by omega) ?_;refine dL qy 0 2 ?_;refine dq 44 (.bool (!(decide (x2.1=y2.1)&&decide (x2.2=y2.2)))) (fun _=>zuw (T:=73) (k1:=.i64) (k2:=.i64) (by kernel_rfl) (by kernel_rfl)) ?_;refine de ?_;refine ot ?_;cases hxy2:(!(decide (x2.1=y2.1)&&decide (x2.2=y2.2))) with
     | false=>
      have he:y2=x2:=by
       simp only [Bool.not_eq_false',ao,decide_eq_true_eq] at hxy2;exact Prod.ext hxy2.1.symm hxy2.2.symm
      rw [if_pos he] at hct;refine cf ?_;refine ck ?_;refine zc ?_;refine zb ?_;refine cr ?_;refine op 33 (.int .i64 (j:Int)) ?_;refine op 34 (.int .i64 (w64 ((j:Int)+1))) ?_;refine op 5 (.int .i64 (w64 ((j:Int)+1))) ?_;rw [hwj1];refine oe ?_;exact ⟨m2 - 1,by omega,j+1,q,L,by omega,by omega,by omega,⟨_,za (t:=5) (za (t:=4) (za (t:=3) (za (t:=0) rfl (by kernel_rfl)) (by kernel_rfl)) (by kernel_rfl)) (by kernel_rfl)⟩,Step.refl _ _,hs2,G,hL,by omega,by rw [hct];exact hT,fun i hi=>hD i (by omega)⟩
     | true=>
      have hne:¬y2=x2:=fun e=>by subst e;simp at hxy2
      rw [if_neg hne] at hct;refine ct ?_;refine csr ?_;refine op 45 (.slice a l.length c) ?_;refine op 46 (.int .i64 (q:Int)) ?_;refine op 47 (.slice (some ⟨b,0+k*2,none⟩) (l.length - k) (c - k)) ?_;refine op 48 (.int .i64 (j:Int)) ?_;refine oi 49 35 73 2 (l.length - k) (c - k) .i64 (j:Int) (show (some ⟨b,0+k*2,none⟩:Option Addr)=_ from rfl) (by omega) hj ?_;refine oL qx 0 2 ?_;refine oi 51 35 73 2 l.length c .i64 (q:Int) ea (by omega) (by omega) ?_;refine zdz (T:=73) (t:=tPoint) (τ:=τ) (e:=73) (ix:=(q:Int)) (x':=x2) (b:=b) (δ:=0) (cp:=c) (l:=L) (vs:=[.int .i64 x2.1,.int .i64 x2.2]) (.agg #[.int .i64 x2.1,.int .i64 x2.2]) (by kernel_rfl) (by kernel_rfl) ea G (by omega) (by omega) (by kernel_rfl) (by kernel_rfl) (by kernel_rfl) (by kernel_rfl) (fun cs hx=>by obtain ⟨x,_,ho⟩:=hx;rw [zhp ((tPoint.len ho).trans (by kernel_rfl))];exact zsu qx1 qx2) fun κ3 s3 G3=>?_;refine ot ?_;refine cr ?_;refine op 52 (.int .i64 (q:Int)) ?_;refine op 53 (.int .i64 (w64 ((q:Int)+1))) ?_;refine op 3 (.int .i64 (w64 ((q:Int)+1))) ?_;rw [hwq1];refine oe ?_;refine zc ?_;refine zb ?_;refine cr ?_;refine op 33 (.int .i64 (j:Int)) ?_;refine op 34 (.int .i64 (w64 ((j:Int)+1))) ?_;refine op 5 (.int .i64 (w64 ((j:Int)+1))) ?_;rw [hwj1];refine oe ?_;refine ⟨m2 - 1,by omega,j+1,q+1,L.set (q:Int).toNat x2,by omega,by omega,by omega,⟨_,za (t:=5) (za (t:=4) (za (t:=3) (za (t:=0) rfl (by kernel_rfl)) (by kernel_rfl)) (by kernel_rfl)) (by kernel_rfl)⟩,Step.refl _ _,hs2.trans s3,G3,by rw [ee];exact hL,by omega,?_,fun i hi=>?_⟩
      ·rw [hct,←hT,bb,fp,List.take_set_of_le (by omega),dj (by omega)];rfl
      ·rw [bb,dh (by omega)];exact hD i (by omega)
theorem zzQ (κ:K):tPlaced.own κ [.int .i64 0,.int .i64 0,.int .i64 0] (((0,0),0):Plc):=⟨[.int .i64 0,.int .i64 0],[.int .i64 0],rfl,⟨[.int .i64 0],[.int .i64 0],rfl,⟨rfl,(by unfold I64;omega:I64 0)⟩,⟨rfl,(by unfold I64;omega:I64 0)⟩⟩,⟨rfl,(by unfold I64;omega:I64 0)⟩⟩
theorem zz3 {α:Type} {A:List α} {x z:α} {i k:Nat} (hA:A.length=i):cpy (A++List.replicate (k+1) z) i [x]=A++[x]++List.replicate k z:=by
 subst hA;unfold cpy;have h1:([x]:List α).take ((A++List.replicate (k+1) z).length - A.length)=[x]:=ft (by simp);rw [h1,List.take_left,List.replicate_succ];simp
theorem zz2 {α:Type} {A D R:List α} {x:α} {i:Nat} (hA:A.length=i) (hR:R.length=D.length):cpy (A++[x]++R) (i+1) D=A++[x]++D:=by
 subst hA;unfold cpy;have h1:D.take ((A++[x]++R).length - (A.length+1))=D:=ft (by simp;omega);have h2:(A++[x]++R).take (A.length+1)=A++[x]:=by
  have:(A++[x]).length=A.length+1:=by simp
  rw [←this,List.take_left]
 rw [h1,h2,List.drop_of_length_le (by simp;omega),bh]
theorem zpI {κ:K} {τ τv:Tag} {a av:Option Addr} {c i:Nat} {l:List Plc} {x:Plc} (hg:Gr tPlaced false τ κ 99 a c l) (hv:Gr tPlaced true τv κ 99 av 1 [x]) (hτ:τ.1≤κ.H.size) (hne:τv≠τ) (hi:i≤l.length) (hl:l.length≤100000) :
  Fn Tryz.prog 276 #[.slice a l.length c,.int .i64 (i:Int),.slice av 1 1] κ (fun v κ'=>Step (blk a c) κ κ'∧∃ a' c',v=.slice a' (l.length+1) c'∧Sl tPlaced κ' a' c' (l.take i++[x]++l.drop i)):=by
 rcases hv.body with ⟨h,_⟩ | ⟨vb,vcur,vxs,eav,hvr,hvH,hv1,hv2,hv3,hv4,hv5,hv6,hv7⟩
 ·cases h
 subst eav;have hvb:∀ {b},b∈blk a c→vb≠b:=fun hb e=>by subst e;exact hne (hv6.symm.trans (hg.lt _ hb).2.1)
 have hcells:∀ j v,vxs[j]?=some v→κ.cell vb (0+j)=some v:=fun j v hj=>by
  rw [←hv4,dm] at hj;split at hj
  ·unfold K.cell;rw [hvH];show vcur[0+j]?=some v;rw [gl,←ak];exact hj
  ·cases hj
 obtain ⟨V,xs',eV,hVx,hx'⟩:=hvr;have hx':xs'=[]:=hx';subst hx';rw [bh] at eV;subst eV;have hVl:=tPlaced.len hVx;have hcap:=hg.cap;have hwn:w64 ((l.length:Int)+1)=((l.length+1:Nat):Int):=by rw [zas (by unfold I64;omega)];omega
 have hwi:w64 ((i:Int)+1)=((i+1:Nat):Int):=by rw [zas (by unfold I64;omega)];omega
 refine fnc 95 (blk a c) Tryz.func276 Tryz.ntmps276 fun hs=>?_;refine csr ?_;refine op 6 (.slice none 0 0) ?_;refine otx ?_;refine op 10 (.slice a l.length c) ?_;refine op 11 (.int .i64 (i:Int)) ?_;refine oq 12 (.slice (if c=i then a else a.map (·.add (i*3))) (l.length - i) (c - i)) (fun w=>zac (s:=vOf (Instr.sliceAt 42 (.slice a l.length c) (zbE (some (i:Int))) none none)) (by kernel_rfl) (zB (znH (e:=99) (sz:=3) (by kernel_rfl) (by kernel_rfl) hi hcap w))) ?_;refine otx ?_;refine op 13 (.slice (some ⟨vb,0,none⟩) 1 1) ?_;refine op 14 (.int .i64 1) ?_;refine op 7 (.int .i64 1) ?_;refine ot ?_;refine cs ?_;refine csr ?_;refine op 15 (.int .i64 1) ?_;refine op 16 (.bool false) ?_;refine ot ?_;refine cf ?_;refine ck ?_;refine zb ?_;refine csr ?_;refine op 18 (.slice a l.length c) ?_;refine op 19 (.int .i64 (l.length:Int)) ?_;refine op 8 (.int .i64 (l.length:Int)) ?_;refine ot ?_;refine cs ?_;refine csr ?_;refine op 20 (.int .i64 (i:Int)) ?_;refine op 21 (.int .i64 (l.length:Int)) ?_;refine op 22 (.bool (decide ((i:Int)=(l.length:Int)))) ?_;refine ot ?_;cases hin:decide ((i:Int)=(l.length:Int)) with
 | true=>
  have hin:=of_decide_eq_true hin;have hin:i=l.length:=by omega
  subst hin;refine ct ?_;refine csr ?_;refine op 23 (.slice a l.length c) ?_;refine op 24 (.slice (some ⟨vb,0,none⟩) 1 1) ?_;have happ:app 24 l [x]=some (l++[x]):=by unfold app;rw [if_pos ⟨by simp;omega,by simp;omega⟩]
  refine oP 42 hg hv.sl hτ happ fun a4 c4 κ2 s2 G2 hw=>?_;refine zhN G2 fun κ3 s3 G3=>?_;refine op 6 (.slice a4 (l++[x]).length c4) ?_;refine ot ?_;refine crt ?_;refine zd ?_;refine rt [.tmp 6] [.slice a4 (l++[x]).length c4] ⟨rfl,trivial⟩ ?_;have e1:l.take l.length++[x]++l.drop l.length=l++[x]:=by simp
  rw [e1];exact ⟨s2.trM hw s3,a4,c4,by simp [zk2],G3.sl⟩
 | false=>
  have hin:=of_decide_eq_false hin;have hlt:i<l.length:=by omega
  obtain ⟨b,ea,hbin⟩:∃ b,a=some ⟨b,0,none⟩∧b∈blk a c:=by
   rcases hg.body with ⟨_,h⟩ | ⟨g,cur,xs,ha,hr,hH,h1,_⟩
   ·rw [h] at hlt;simp at hlt
   ·exact ⟨g,ha,by rw [ha];exact zi9 (a:=⟨g,0,none⟩) (by omega)⟩
  refine cf ?_;refine ck ?_;refine zb ?_;refine cs ?_;refine csr ?_;refine op 26 (.int .i64 (l.length:Int)) ?_;refine op 27 (.int .i64 1) ?_;refine op 28 (.int .i64 (w64 ((l.length:Int)+1))) ?_;rw [hwn];refine op 29 (.slice a l.length c) ?_;refine op 30 (.int .i64 (c:Int)) ?_;refine op 31 (.bool (decide (((l.length+1:Nat):Int)>(c:Int)))) ?_;refine ot ?_;cases hroom:decide (((l.length+1:Nat):Int)>(c:Int)) with
  | true=>
   have hroom:=of_decide_eq_true hroom;have hwk:w64 (((l.length+1:Nat):Int) - (i:Int))=((l.length+1 - i:Nat):Int):=by rw [zas (by unfold I64;omega)];omega
   refine ct ?_;refine csr ?_;refine op 32 (.slice a l.length c) ?_;refine op 33 (.int .i64 (i:Int)) ?_;refine oq 34 (.slice a i c) (fun w=>zac (s:=vOf (Instr.sliceAt 42 (.slice a l.length c) none (zbE (some (i:Int))) none)) (by kernel_rfl) (zB (zvd (e:=99) (sz:=3) (by kernel_rfl) (by kernel_rfl) (by omega) w))) ?_;refine op 35 (.int .i64 (l.length:Int)) ?_;refine op 36 (.int .i64 1) ?_;refine op 37 (.int .i64 (w64 ((l.length:Int)+1))) ?_;rw [hwn];refine op 38 (.int .i64 (i:Int)) ?_;refine op 39 (.int .i64 (w64 (((l.length+1:Nat):Int) - (i:Int)))) ?_;rw [hwk];refine zAm (d:=40) (T:=42) (tn:=3) (e:=99) (j:=i) (k:=l.length+1 - i) (bytes:=24) (ty:=42) (κ.H.size,1) hg hi (by omega) (by omega) (by omega) (fy _) (zzQ κ) (by omega) fun a4 c4 κ2 s2 G2 hw=>?_;have hil:i+(l.length+1 - i)=l.length+1:=by omega
   rw [hil];obtain ⟨L2,hL2⟩:∃ L2,L2=l.take i++List.replicate (l.length+1 - i) (((0,0),0):Plc):=⟨_,rfl⟩;have hL2l:L2.length=l.length+1:=by rw [hL2];simp;omega
   rw [←hL2] at G2;obtain ⟨b4,ea4⟩:∃ b,a4=some ⟨b,0,none⟩:=by
    rcases G2.body with ⟨_,h⟩ | ⟨g,cur,xs,ha,_⟩
    ·rw [h] at hL2l;simp at hL2l
    ·exact ⟨g,ha⟩
   have hcap4:=G2.cap;have hg2:=hg.step0 s2;have hv2':=hv.step0 s2;rw [ea] at hg2;obtain ⟨ysg,hysg,hfsg⟩:=zuR (P:=Tryz.prog) (i:=i) hg2 hi (by omega);refine op 9 (.slice a4 (l.length+1) c4) ?_;refine otx ?_;refine op 41 (.slice a4 (l.length+1) c4) ?_;refine op 42 (.int .i64 (i:Int)) ?_;refine oq 43 (.slice (if c4=i then a4 else a4.map (·.add (i*3))) (l.length+1 - i) (c4 - i)) (fun w=>zac (s:=vOf (Instr.sliceAt 42 (.slice a4 (l.length+1) c4) (zbE (some (i:Int))) none none)) (by kernel_rfl) (zB (znH (e:=99) (sz:=3) (by kernel_rfl) (by kernel_rfl) (by omega) (by omega) w))) ?_;have hv43:(if c4=i then a4 else a4.map (·.add (i*3)))=some ⟨b4,i*3,none⟩:=by
    rw [if_neg (by omega),ea4];simp only [Option.map_some,zbn,gl]
   rw [hv43];refine op 44 (.slice (some ⟨vb,0,none⟩) 1 1) ?_;have hvlt:vb<κ.H.size:=(ae.1 hvH).1;have hold:∀ g,g<κ.H.size→g∉blk a4 c4:=fun g h h'=>by have:=hw g h';omega
   obtain ⟨ysv,hysv,hfsv⟩:=zuR (P:=Tryz.prog) (i:=0) hv2' (by simp) (by simp);refine zzR (d:=45) (lo:=i) (dcap:=c4 - i) (T:=42) (T2:=42) (ty:=3) (l2:=[x]) (.slice (some ⟨vb,0,none⟩) 1 1) ysv hL2l G2 ea4 (by omega) hysv (fun _=>rfl) (fun C d m hm=>hfsv C d m 1 1 hm) fun κ3 s3 G3=>?_;have hg3:=hg2.step s3 (fun g hg'=>hold g (by rw [←ea] at hg';exact (hg.lt g hg').1));obtain ⟨ysl,hysl,hfsl⟩:=zuR (P:=Tryz.prog) (i:=i) hg3 hi (by omega);have hL3:cpy L2 i [x]=l.take i++[x]++List.replicate (l.length - i) (((0,0),0):Plc):=by
    rw [hL2,show l.length+1 - i=l.length - i+1 by omega];exact zz3 (by simp;omega)
   rw [hL3] at G3;have hL3l:(l.take i++[x]++List.replicate (l.length - i) (((0,0),0):Plc)).length=l.length+1:=by simp;omega
   refine ot ?_;refine cs ?_;refine cd 8 ?_;refine dp 46 (.slice a4 (l.length+1) c4) ?_;refine dp 47 (.int .i64 (i:Int)) ?_;refine dp 48 (.int .i64 1) ?_;refine dp 49 (.int .i64 (w64 ((i:Int)+1))) ?_;rw [hwi];refine dq 50 (.slice (if c4=i+1 then a4 else a4.map (·.add ((i+1)*3))) (l.length+1 - (i+1)) (c4 - (i+1))) (fun w=>zac (s:=vOf (Instr.sliceAt 42 (.slice a4 (l.length+1) c4) (zbE (some ((i+1:Nat):Int))) none none)) (by kernel_rfl) (zB (znH (e:=99) (sz:=3) (by kernel_rfl) (by kernel_rfl) (by omega) (by omega) w))) ?_;have hv50:(if c4=i+1 then a4 else a4.map (·.add ((i+1)*3)))=some ⟨b4,(i+1)*3,none⟩:=by
    rw [if_neg (by omega),ea4];simp only [Option.map_some,zbn,gl]
   rw [hv50];refine dp 51 (.slice a l.length c) ?_;refine dp 52 (.int .i64 (i:Int)) ?_;refine dq 53 (.slice (if c=i then a else a.map (·.add (i*3))) (l.length - i) (c - i)) (fun w=>zac (s:=vOf (Instr.sliceAt 42 (.slice a l.length c) (zbE (some (i:Int))) none none)) (by kernel_rfl) (zB (znH (e:=99) (sz:=3) (by kernel_rfl) (by kernel_rfl) hi hcap w))) ?_;have hv53:(if c=i then a else a.map (·.add (i*3)))=some ⟨b,i*3,none⟩:=by
    rw [if_neg (by omega),ea];simp only [Option.map_some,zbn,gl]
   rw [hv53];refine de ?_;have hdl:(l.drop i).length=l.length - i:=by simp
   have hcap3:=G3.cap;refine zzR (d:=54) (lo:=i+1) (dcap:=c4 - (i+1)) (T:=42) (T2:=42) (ty:=3) (l2:=l.drop i) (.slice (some ⟨b,i*3,none⟩) (l.length - i) (c - i)) ysl hL3l G3 ea4 (by omega) hysl (fun _=>rfl) (fun C d m hm=>hfsl C d m (l.length - i) (c - i) hm) (fun κ4 s4 G4=>?_) (fun w=>by rw [hdl];rfl);have hL4:cpy (l.take i++[x]++List.replicate (l.length - i) (((0,0),0):Plc)) (i+1) (l.drop i)=l.take i++[x]++l.drop i:=by
    exact zz2 (by simp;omega) (by simp)
   rw [hL4] at G4;have hL4l:(l.take i++[x]++l.drop i).length=l.length+1:=by simp;omega
   refine ot ?_;refine csr ?_;refine zhN G4 fun κ5 s5 G5=>?_;refine op 55 (.slice a4 (l.length+1) c4) ?_;refine op 6 (.slice a4 (l.length+1) c4) ?_;refine ot ?_;refine crt ?_;refine zd ?_;refine rt [.tmp 6] [.slice a4 (l.length+1) c4] ⟨rfl,trivial⟩ ?_;have hfr:∀ g∈blk a4 c4,g∈blk a c∨κ.H.size≤g:=fun g h=>.inr (hw g h);exact ⟨((s2.nil.trM hfr s3).trM hfr s4).trM hfr s5,a4,c4,rfl,G5.sl⟩
  | false=>
   have hroom:=of_decide_eq_false hroom;have hc0:l.length+1≤c:=by omega
   obtain ⟨b',κ2,κ3,ea',hblt,hbin',s2,s3,G3,hk1,hk2⟩:=zzu (P:=Tryz.prog) (T:=42) (T2:=42) hg hi (by omega) hc0 (by omega) hVx (by kernel_rfl) (by kernel_rfl);have eb:b'=b:=by rw [ea] at ea';injection ea' with ea';injection ea' with ea';exact ea'.symm
   subst eb;have hvne:=hvb hbin;obtain ⟨cur,hbH,hbz⟩:∃ cur,κ.H[b']?=some (.cells cur 99 (0,0))∧cur.size≠0:=by
    rcases hg.body with ⟨_,h⟩ | ⟨g,cur,xs,ha,hr,hH,h1,h2,h3,_⟩
    ·rw [h] at hlt;simp at hlt
    ·rw [ea] at ha;injection ha with ha;injection ha with ha;subst ha
     exact ⟨cur,hH,by rw [h3];show c*3≠0;omega⟩
   have hL4l:(l.take i++[x]++l.drop i).length=l.length+1:=by simp;omega
   have r1:∀ w,(Instr.sliceAt 42 (.slice a (l.length+1) c) (zbE (some ((i+1:Nat):Int))) none none).run Tryz.prog w=.ok (.slice (some ⟨b',(i+1)*3,none⟩) (l.length - i) (c - (i+1))) w:=fun w=>by
    have h:=znH (P:=Tryz.prog) (T:=42) (e:=99) (sz:=3) (len:=l.length+1) (cp:=c) (a:=a) (lo:=i+1) (by kernel_rfl) (by kernel_rfl) (by omega) (by omega) w;rw [show l.length+1 - (i+1)=l.length - i by omega,if_neg (by omega),ea] at h;simp only [Option.map_some,zbn,gl] at h;rw [ea];exact h
   have r2:∀ w,(Instr.sliceAt 42 (.slice a (l.length+1) c) (zbE (some (i:Int))) none none).run Tryz.prog w=.ok (.slice (some ⟨b',i*3,none⟩) (l.length+1 - i) (c - i)) w:=fun w=>by
    have h:=znH (P:=Tryz.prog) (T:=42) (e:=99) (sz:=3) (len:=l.length+1) (cp:=c) (a:=a) (lo:=i) (by kernel_rfl) (by kernel_rfl) (by omega) (by omega) w;rw [if_neg (by omega),ea] at h;simp only [Option.map_some,zbn,gl] at h;rw [ea];exact h
   refine cf ?_;refine ck ?_;refine zb ?_;refine csr ?_;refine op 56 (.slice a l.length c) ?_;refine op 57 (.int .i64 (l.length:Int)) ?_;refine op 58 (.int .i64 1) ?_;refine op 59 (.int .i64 (w64 ((l.length:Int)+1))) ?_;rw [hwn];refine oq 60 (.slice a (l.length+1) c) (fun w=>zac (s:=vOf (Instr.sliceAt 42 (.slice a l.length c) none (zbE (some ((l.length+1:Nat):Int))) none)) (by kernel_rfl) (zB (zvd (e:=99) (sz:=3) (by kernel_rfl) (by kernel_rfl) hc0 w))) ?_;refine op 0 (.slice a (l.length+1) c) ?_;refine ot ?_;refine cs ?_;refine csr ?_;refine op 61 (.slice (some ⟨vb,0,none⟩) 1 1) ?_;refine op 62 (.slice a (l.length+1) c) ?_;refine op 63 (.int .i64 (i:Int)) ?_;refine op 64 (.int .i64 1) ?_;refine op 65 (.int .i64 (w64 ((i:Int)+1))) ?_;rw [hwi];refine oq 66 (.slice (some ⟨b',(i+1)*3,none⟩) (l.length - i) (c - (i+1))) (fun w=>zac (s:=vOf (Instr.sliceAt 42 (.slice a (l.length+1) c) (zbE (some ((i+1:Nat):Int))) none none)) (by kernel_rfl) (zB (r1 w))) ?_;refine zfB (d:=67) (κ':=κ) (.bool false) (by kernel_rfl) (fun C d0=>zac (s:=callFunc 278 #[.slice (some ⟨vb,0,none⟩) 1 1,.slice (some ⟨b',(i+1)*3,none⟩) (l.length - i) (c - (i+1))]) (by kernel_rfl) ?_) ?_
   ·rw [run_callFunc_extern Tryz.func278 (by kernel_rfl) (by kernel_rfl) (by kernel_rfl) (e:=Extern.SlicesOverlaps.overlaps #[42,42] #[4]) (by kernel_rfl),
     Lib.run_overlaps_apart (W C κ d0) 42 4 99 (by kernel_rfl) 3 (fun w=>zS (by kernel_rfl) w) ⟨vb,0,none⟩ ⟨b',(i+1)*3,none⟩ 1 1 (l.length - i) (c - (i+1)) hvne 99 99 vcur.size cur.size (zqR hvH).1 (zqR hbH).1 hbz ((zqR hvH).2 _) ((zqR hvH).2 _)]
    rfl
   refine op 68 (.bool true) ?_;refine ot ?_;refine ct ?_;refine cs ?_;refine cd 8 ?_;refine dp 69 (.slice a (l.length+1) c) ?_;refine dp 70 (.int .i64 (i:Int)) ?_;refine dp 71 (.int .i64 1) ?_;refine dp 72 (.int .i64 (w64 ((i:Int)+1))) ?_;rw [hwi];refine dq 73 (.slice (some ⟨b',(i+1)*3,none⟩) (l.length - i) (c - (i+1))) (fun w=>zac (s:=vOf (Instr.sliceAt 42 (.slice a (l.length+1) c) (zbE (some ((i+1:Nat):Int))) none none)) (by kernel_rfl) (zB (r1 w))) ?_;refine dp 74 (.slice a (l.length+1) c) ?_;refine dp 75 (.int .i64 (i:Int)) ?_;refine dq 76 (.slice (some ⟨b',i*3,none⟩) (l.length+1 - i) (c - i)) (fun w=>zac (s:=vOf (Instr.sliceAt 42 (.slice a (l.length+1) c) (zbE (some (i:Int))) none none)) (by kernel_rfl) (zB (r2 w))) ?_;refine de ?_;refine zfB (d:=77) (κ':=κ2) (.int .i64 (l.length - i:Nat)) (by kernel_rfl) (fun C d0=>zac (s:=vOf (Builtin.copy_ #[42,42] 3 #[.slice (some ⟨b',(i+1)*3,none⟩) (l.length - i) (c - (i+1)),.slice (some ⟨b',i*3,none⟩) (l.length+1 - i) (c - i)])) (by kernel_rfl) (zB (hk1 C d0 3 (c - (i+1)) (c - i)))) ?_;refine ot ?_;refine csr ?_;refine op 78 (.slice a (l.length+1) c) ?_;refine op 79 (.int .i64 (i:Int)) ?_;refine oq 80 (.slice (some ⟨b',i*3,none⟩) (l.length+1 - i) (c - i)) (fun w=>zac (s:=vOf (Instr.sliceAt 42 (.slice a (l.length+1) c) (zbE (some (i:Int))) none none)) (by kernel_rfl) (zB (r2 w))) ?_;refine op 81 (.slice (some ⟨vb,0,none⟩) 1 1) ?_;have hvA:At κ2 vb 0 vxs:=At.step s2 (fun h=>hvb h rfl) ⟨(ae.1 hvH).1,fun j v hj=>hcells j v hj⟩;refine zfB (d:=82) (κ':=κ3) (.int .i64 (1:Nat)) (by kernel_rfl) (fun C d0=>zac (s:=vOf (Builtin.copy_ #[42,42] 3 #[.slice (some ⟨b',i*3,none⟩) (l.length+1 - i) (c - i),.slice (some ⟨vb,0,none⟩) 1 1])) (by kernel_rfl) (zB (hk2 C d0 3 (c - i) (.slice (some ⟨vb,0,none⟩) 1 1) (fun _=>rfl) (by
    have h:=zpo (P:=Tryz.prog) (t:=tPlaced) (n:=1) (len:=1) (cap:=1) hvA.2 (by rw [hVl];omega) C d0;rw [ft (by rw [hVl];omega)] at h;exact h)))) ?_
   refine ot ?_;refine csr ?_;refine zhN G3 fun κ5 s5 G5=>?_;refine op 83 (.slice a (l.length+1) c) ?_;refine op 6 (.slice a (l.length+1) c) ?_;refine ot ?_;refine crt ?_;refine zd ?_;refine rt [.tmp 6] [.slice a (l.length+1) c] ⟨rfl,trivial⟩ ?_;exact ⟨(s2.trans s3).trans s5,a,c,rfl,G5.sl⟩
theorem zoV {κ:K} {τ τv:Tag} {a av:Option Addr} {c:Nat} {ix:Int} {l r:List Plc} {x:Plc} (hg:Gr tPlaced false τ κ 99 a c l) (hv:Gr tPlaced true τv κ 99 av 1 [x]) (hτ:τ.1≤κ.H.size) (hne:τv≠τ) (hx:zyg l ix x=some r) :
  Fn Tryz.prog 276 #[.slice a l.length c,.int .i64 ix,.slice av 1 1] κ (fun v κ'=>Step (blk a c) κ κ'∧∃ a' c',v=.slice a' r.length c'∧Sl tPlaced κ' a' c' r):=by
 unfold zyg at hx;split at hx
 ·rename_i h;obtain rfl:=Option.some.inj hx;obtain ⟨i,rfl⟩:=ba h.1;have hi:i≤l.length:=by have:=h.2.1;omega
  refine (zpI hg hv hτ hne hi h.2.2).mono fun v κ' hp=>?_;obtain ⟨h1,a',c',h2,h3⟩:=hp;have hlen:(l.take i++[x]++l.drop i).length=l.length+1:=by simp;omega
  simp only [bb] at *;exact ⟨h1,a',c',by rw [hlen];exact h2,h3⟩
 ·cases hx
end Go.Lf
