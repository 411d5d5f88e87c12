import Derived.Test.YtinhknndegdcfaaGreatDoorJ
import Derived.Test.YtinhknndegdcfaaGreatDoorC
import Derived.Test.YtinhknndegdcfaaGreatDoorI
set_option linter.all false
set_option maxRecDepth 100000
set_option maxHeartbeats 4000000
namespace Go.Lf
open Go Go.Proofs Go.Sort
def nm2 (w:List UInt8) (a b:Int):List UInt8:=w++Go.Lib.itoa a++[95]++Go.Lib.itoa b
def nm3 (w:List UInt8) (i:Int) (c:Pt):List UInt8:=w++Go.Lib.itoa i++[95]++Go.Lib.itoa c.1++[95]++Go.Lib.itoa c.2
def Sm (n:Int):Prop := -1000000<=n/\n<=1000000
theorem Sm.i {n:Int} (h:Sm n):I64 n:=by unfold Sm at h;unfold I64;omega
theorem Sm.l {n:Int} (h:Sm n):(Go.Lib.itoa n).length<=21:=zxm h.i
theorem zpN {w:List UInt8} (hw:w.length<=10) {a b:Int} (ha:Sm a) (hb:Sm b):zhP w a b=some (nm2 w a b):=by
 have:=ha.l;have:=hb.l;unfold zhP zlI nm2;rw [zrC,zrC];simp only [gp];rw [zeN (by omega)];simp only [gp];rw [zeN (by simp;omega)];simp only [gp];rw [zeN (by simp;omega)];rfl
theorem zx7 {w:List UInt8} (hw:w.length<=10) {a b:Int} (ha:Sm a) (hb:Sm b):(nm2 w a b).length<=60:=by
 have:=ha.l;have:=hb.l;unfold nm2;simp;omega
theorem zs5 {w:List UInt8} (hw:w.length<=10) {a:Int} {c:Pt} (ha:Sm a) (h1:Sm c.1) (h2:Sm c.2):(nm3 w a c).length<=100:=by
 have:=ha.l;have:=h1.l;have:=h2.l;unfold nm3;simp;omega
theorem zmF {w:List UInt8} (hw:w.length<=10) {i:Int} {c:Pt} (hi:Sm i) (h1:Sm c.1) (h2:Sm c.2):z7 w i c=some (nm3 w i c):=by
 have:=hi.l;have:=h1.l;have:=h2.l;unfold z7 nm3;rw [zpN hw hi h1,zrC];unfold nm2;simp only [gp];rw [zeN (by simp;omega)];simp only [gp];rw [zeN (by simp;omega)];rfl
theorem zsv {w:List UInt8} (hw:w.length<=10) {i:Int} {c:Pt} (hi:Sm i) (h1:Sm c.1) (h2:Sm c.2):∃ s,zcO i c.1 c.2=some s/\zif w s=some (nm3 w i c):=by
 have:=hi.l;have:=h1.l;have:=h2.l;unfold zcO nm3;rw [zna hi.i,zna h1.i,zna h2.i];simp only [gp];rw [zeN (by simp;omega)];simp only [gp];rw [zeN (by simp;omega)];simp only [gp];rw [zeN (by simp;omega)];simp only [gp];rw [zeN (by simp;omega)];simp only [gp];refine ⟨_,rfl,?_⟩;rw [zeN (by simp;omega)];simp [bg]
def gE (k:Int) (g:Nat) (s:Int):List Gl:=(List.range k.toNat).map fun (c:Nat)=>(nm2 [103] ((g:Int)+1) c,s)
def hc (k:Int):List Pt:=(List.range k.toNat).flatMap fun (y:Nat)=>(List.range (k - 1).toNat).map fun (x:Nat)=>((x:Int),(y:Int))
def vc (k:Int):List Pt:=(List.range (k - 1).toNat).flatMap fun (y:Nat)=>(List.range k.toNat).map fun (x:Nat)=>((x:Int),(y:Int))
def hE (k:Int) (i:Nat):List Gl:=(hc k).map fun c=>(nm3 [104] i c,1)
def vE (k:Int) (i:Nat):List Gl:=(vc k).map fun c=>(nm3 [118] i c,1)
def gS (set:TSet) (g:Nat):Int:=(set.1.getD g ([],0)).2
def GG (set:TSet) (k:Int):List Gl:=(List.range set.1.length).flatMap fun g=>gE k g (gS set g)
def GT (set:TSet) (k:Int):List Gl:=(List.range set.2.length).flatMap fun i=>hE k i++vE k i
theorem zyR {k:Int} (hk:Blk k):(cz k).filter (fun c=>decide (c.1<k - 1))=hc k:=by
 rcases hk.cases with rfl | rfl | rfl | rfl<;>decide
theorem zyF {k:Int} (hk:Blk k):(cz k).filter (fun c=>decide (c.2<k - 1))=vc k:=by
 rcases hk.cases with rfl | rfl | rfl | rfl<;>decide
theorem zny {α β γ:Type} (p:α->Bool) (g:α->β) (f:γ->β->γ):∀ (l:List α) (a:γ),l.foldl (fun a x=>if p x then f a (g x) else a) a=((l.filter p).map g).foldl f a
 | [],a=>rfl
 | x::l,a=>by
  rw [ci,zny p g f l,List.filter_cons];cases p x<;>rfl
theorem zcI {n i c:Nat} (h:(List.range n)[i]?=some c):c=i/\i<n:=by
 have hi:=zu h;rw [List.length_range] at hi;rw [df hi] at h;injection h with h
 exact ⟨h.symm,hi⟩
theorem zkT {k:Int} (hk:Blk k) {c:Pt} (h:c∈cz k):0<=c.1/\c.1<k/\0<=c.2/\c.2<k:=by
 unfold cz at h;obtain ⟨n,a,rfl⟩:=fa.1 h;have:=znS hk (c:=n) (by have:=fe.1 a;omega);exact ⟨this.1.1,this.1.2,this.2.1,this.2.2⟩
def mkF (q:MkSt) (e:Gl):MkSt:=(q.1++[e],q.2.1,zgv q.2.2 e.1 ((q.1.length:Int)+1))
theorem zs8:∀ (l:List Gl) (q:MkSt),(l.foldl mkF q).1=q.1++l/\(l.foldl mkF q).2.1=q.2.1
 | [],q=>by simp
 | e::l,q=>by
  have:=zs8 l (mkF q e);rw [ci,this.1,this.2];exact ⟨by simp [mkF],rfl⟩
theorem zos {q:MkSt} (h:q.1.length<=100000) (n:List UInt8) (s:Int):zcd q n s=some (mkF q (n,s)):=by
 unfold zcd mkF;rw [zQ (by simp;omega) (by simp;omega)];simp
theorem zzH {k:Int} (hk:Blk k) (g:Nat) (s:Int):(gE k g s).length<=4:=by unfold gE;have:=hk.2;simp;omega
theorem ztj {k:Int} (hk:Blk k):(hc k).length=(k*(k - 1)).toNat/\(vc k).length=(k*(k - 1)).toNat:=by
 rcases hk.cases with rfl | rfl | rfl | rfl<;>decide
section
variable {set:TSet} {k:Int}
theorem zrW (hS:SetOk set) (hk:Blk k) (n:Nat) (hn:n<=set.1.length):((List.range n).flatMap fun g=>gE k g (gS set g)).length<=800:=by
 have:=zki (G:=fun g=>gE k g (gS set g)) (m:=4) (l:=List.range n) (fun g _=>zzH hk g _);have:=hS.glues;simp at this ⊢;simp at *;omega
theorem zuO (hk:Blk k) (i:Nat):(hE k i++vE k i).length<=24:=by
 have:=ztj hk;unfold hE vE;simp [this];rcases hk.cases with rfl | rfl | rfl | rfl<;>decide
theorem zu7 (hS:SetOk set) (hk:Blk k) (n:Nat) (hn:n<=set.2.length):((List.range n).flatMap fun i=>hE k i++vE k i).length<=3840:=by
 have a:=zki (G:=fun i=>hE k i++vE k i) (m:=24) (l:=List.range n) (fun i _=>zuO hk i);have:=hS.tiles;rw [List.length_range] at a;omega
theorem zut (hS:SetOk set) (hk:Blk k):zjc set k=some (GG set k++GT set k):=by
 obtain ⟨n,rfl⟩:=ba (by have:=hk.1;omega:0<=k);have V:1<=n/\n<=4:=by have:=hk.1;have:=hk.2;omega
 have U:=hS.glues;have T:=hS.tiles;have p:w64 ((n:Int) - 1)=((n - 1:Nat):Int):=by rw [zt (by omega) (by omega)];omega
 have R:((n:Int) - 1).toNat=n - 1:=by omega
 have L:∀ (out:List Gl) (g:Nat),g<set.1.length->out.length<=10000->iter (zcA set n (out,(g:Int))) (out,0)=some (out++gE n g (gS set g)):=by
  intro out g J q;have d:set.1[g]?=some set.1[g]:=cq J;have E:gS set g=set.1[g].2:=by unfold gS;rw [List.getD_eq_getElem?_getD,d];rfl
  have e:=zae (F:=zcA set n (out,(g:Int))) (List.range n) (fun a (c:Nat)=>a++[(nm2 [103] ((g:Int)+1) c,gS set g)]) out (by simp;omega) (fun a i c hc b=>by
   obtain ⟨rfl,hi⟩:=zcI hc;have f:a.length<=10004:=by
    rw [b];refine fz (zbD _ (fun a x=>by simp) _ _) ?_;simp;omega
   have h:Sm ((g:Int)+1):=by unfold Sm;omega
   have M:Sm (c:Int):=by unfold Sm;omega
   have:=h.l;have:=M.l;unfold zcA nm2;rw [if_pos (by simp;omega),zt (n:=(g:Int)+1) (by omega) (by omega)];simp only [zr d,gp,zna h.i,zna M.i];rw [zeN (by simp;omega)];simp only [gp];rw [zeN (by simp;omega)];simp only [gp];rw [zeN (by simp;omega)];simp only [gp];rw [zQ (by simp;omega) (by simp;omega),E];rfl) (fun a b=>by
   unfold zcA;rw [List.length_range,if_neg (by simp)])
  rw [e,z8 (fun c:Nat=>[(nm2 [103] ((g:Int)+1) c,gS set g)]),←List.map_eq_flatMap];rfl
 have Q:=zae (F:=zee set n) (List.range set.1.length) (fun a g=>a++gE n g (gS set g)) [] (by simp;omega) (fun a i g d b=>by
  obtain ⟨rfl,hi⟩:=zcI d;have f:a.length<=800:=by
   rw [b,z8,fh,List.take_range];exact zrW hS hk _ (by omega)
  unfold zee ziK;rw [if_pos (by simp;omega)];simp only [L a g hi (by omega),gp]) (fun a b=>by
  unfold zee;rw [List.length_range,if_neg (by simp)])
 rw [z8,fh] at Q;have one:∀ (w:UInt8) (a:List Gl) (i:Nat) (x y:Nat),i<set.2.length->x<4->y<4->a.length<=20000->
   (((zcO i x y).bind fun H=>(zif [w] H).bind fun A=>(app 24 a [(A,1)]).bind fun C=>some (Sum.inl (C,w64 ((x:Int)+1)))):Option ((List Gl×Int) ⊕ List Gl))=some (.inl (a++[(nm3 [w] i ((x:Int),(y:Int)),1)],w64 ((x:Int)+1))):=by
  intro w a i x y hi d P b;obtain ⟨s,N,S⟩:=zsv (w:=[w]) (by simp) (i:=(i:Int)) (c:=((x:Int),(y:Int))) (by unfold Sm;omega) (by unfold Sm;simp only [];omega) (by unfold Sm;simp only [];omega);simp only at N;rw [N];simp only [gp,S];rw [zQ (by simp;omega) (by simp;omega)];rfl
 have v:∀ (s0 h:List Gl) (out:List Gl) (i y:Nat),i<set.2.length->y<n->out.length<=10000->iter (zcB n (s0,(i:Int)) (h,(y:Int))) (out,0)=some (out++((List.range (n - 1)).map fun (x:Nat)=>(nm3 [104] i ((x:Int),(y:Int)),1))):=by
  intro s0 h out i y hi P q;have e:=zae (F:=zcB n (s0,(i:Int)) (h,(y:Int))) (List.range (n - 1)) (fun a (x:Nat)=>a++[(nm3 [104] i ((x:Int),(y:Int)),1)]) out (by simp;omega) (fun a j x d b=>by
   obtain ⟨rfl,r⟩:=zcI d;have f:a.length<=10004:=by
    rw [b];refine fz (zbD _ (fun a x=>by simp) _ _) ?_;simp;omega
   unfold zcB;rw [p,if_pos (by simp;omega)];exact one 104 a i x y hi (by omega) (by omega) (by omega)) (fun a b=>by
   unfold zcB;rw [p,List.length_range,if_neg (by simp)])
  rw [e,z8 (fun x:Nat=>[(nm3 [104] i ((x:Int),(y:Int)),1)]),←List.map_eq_flatMap]
 have u:∀ (s0 h:List Gl) (out:List Gl) (i y:Nat),i<set.2.length->y<n->out.length<=10000->iter (zcC n (s0,(i:Int)) (h,(y:Int))) (out,0)=some (out++((List.range n).map fun (x:Nat)=>(nm3 [118] i ((x:Int),(y:Int)),1))):=by
  intro s0 h out i y hi P q;have e:=zae (F:=zcC n (s0,(i:Int)) (h,(y:Int))) (List.range n) (fun a (x:Nat)=>a++[(nm3 [118] i ((x:Int),(y:Int)),1)]) out (by simp;omega) (fun a j x d b=>by
   obtain ⟨rfl,r⟩:=zcI d;have f:a.length<=10004:=by
    rw [b];refine fz (zbD _ (fun a x=>by simp) _ _) ?_;simp;omega
   unfold zcC;rw [if_pos (by simp;omega)];exact one 118 a i x y hi (by omega) (by omega) (by omega)) (fun a b=>by
   unfold zcC;rw [List.length_range,if_neg (by simp)])
  rw [e,z8 (fun x:Nat=>[(nm3 [118] i ((x:Int),(y:Int)),1)]),←List.map_eq_flatMap]
 have B:∀ (s0:List Gl) (out:List Gl) (i:Nat),i<set.2.length->out.length<=9000->iter (zcE n (s0,(i:Int))) (out,0)=some (out++hE n i):=by
  intro s0 out i hi q;have e:=zae (F:=zcE n (s0,(i:Int))) (List.range n) (fun a (y:Nat)=>a++((List.range (n - 1)).map fun (x:Nat)=>(nm3 [104] i ((x:Int),(y:Int)),1))) out (by simp;omega) (fun a j y d b=>by
   obtain ⟨rfl,r⟩:=zcI d;have f:a.length<=9100:=by
    rw [b,z8,du];have:=zki (G:=fun (y:Nat)=>(List.range (n - 1)).map fun (x:Nat)=>(nm3 [104] i ((x:Int),(y:Int)),(1:Int))) (m:=4) (l:=(List.range n).take y) (fun _ _=>by simp;omega);have:((List.range n).take y).length<=4:=by simp;omega
    omega
   unfold zcE ziL;rw [if_pos (by simp;omega)];simp only [v s0 a a i y hi r (by omega),gp]) (fun a b=>by
   unfold zcE;rw [List.length_range,if_neg (by simp)])
  rw [e,z8];unfold hE hc;rw [List.map_flatMap,R];simp only [List.map_map];rfl
 have t:∀ (s0:List Gl) (out:List Gl) (i:Nat),i<set.2.length->out.length<=9000->iter (zcD n (s0,(i:Int))) (out,0)=some (out++vE n i):=by
  intro s0 out i hi q;have e:=zae (F:=zcD n (s0,(i:Int))) (List.range (n - 1)) (fun a (y:Nat)=>a++((List.range n).map fun (x:Nat)=>(nm3 [118] i ((x:Int),(y:Int)),1))) out (by simp;omega) (fun a j y d b=>by
   obtain ⟨rfl,r⟩:=zcI d;have f:a.length<=9100:=by
    rw [b,z8,du];have:=zki (G:=fun (y:Nat)=>(List.range n).map fun (x:Nat)=>(nm3 [118] i ((x:Int),(y:Int)),(1:Int))) (m:=4) (l:=(List.range (n - 1)).take y) (fun _ _=>by simp;omega);have:((List.range (n - 1)).take y).length<=4:=by simp;omega
    omega
   unfold zcD ziM;rw [p,if_pos (by simp;omega)];simp only [u s0 a a i y hi (by omega) (by omega),gp]) (fun a b=>by
   unfold zcD;rw [p,List.length_range,if_neg (by simp)])
  rw [e,z8];unfold vE vc;rw [List.map_flatMap,R];simp only [List.map_map];rfl
 have I:=zrW hS hk set.1.length (fy _);have O:=zae (F:=zcF set n) (List.range set.2.length) (fun a i=>a++(hE n i++vE n i)) (GG set n) (by simp;omega) (fun a i j d b=>by
  obtain ⟨rfl,hi⟩:=zcI d;have f:a.length<=4700:=by
   rw [b,z8,du,List.take_range];have:=zu7 hS hk (min j set.2.length) (by omega);have:(GG set n).length<=800:=I;omega
  have X:(hE (n:Int) j).length<=24:=by have:=zuO hk j;rw [du] at this;omega
  unfold zcF ziO ziN;rw [if_pos (by simp;omega)];simp only [B a a j hi (by omega),gp];simp only [t a (a++hE n j) j hi (by rw [du];omega),gp];rw [bg]) (fun a b=>by
  unfold zcF;rw [List.length_range,if_neg (by simp)])
 rw [z8] at O;unfold zjc ziQ;rw [Q];simp only [gp];show ((iter (zcF set n) (GG set n,0)).bind fun D=>ziP D)=_;rw [O];rfl
end
section
variable {set:TSet} {k:Int}
theorem zsJ (hk:Blk k):(cz k).length<=16:=by rcases hk.cases with rfl | rfl | rfl | rfl<;>decide
theorem zor (l:List Gl) (q:MkSt):(l.foldl mkF q).1.length=q.1.length+l.length:=by rw [(zs8 l q).1,du]
theorem zuN (hS:SetOk set) (hk:Blk k) (q0:MkSt) (hq:q0.1=[]):zc2 (q0,(set,k))=some ((GG set k++GT set k).foldl mkF q0):=by
 obtain ⟨n,rfl⟩:=ba (by have:=hk.1;omega:0<=k);have M:1<=n/\n<=4:=by have:=hk.1;have:=hk.2;omega
 have L:=hS.glues;have J:=hS.tiles;have s:q0.1.length=0:=by rw [hq];rfl
 have r:(w64 ((n:Int) - 1))=(n:Int) - 1:=zt (by omega) (by omega);have v:∀ (h q:MkSt) (g:Nat) (x:Gl),set.1[g]?=some x->q.1.length<=10000->iter (zak (q0,(set,(n:Int))) ((g:Int),h) x) (0,q)=some ((gE n g (gS set g)).foldl mkF q):=by
  intro h q g x m E;have I:=zu m;have B:gS set g=x.2:=by unfold gS;rw [List.getD_eq_getElem?_getD,m];rfl
  have e:=zbx (F:=zak (q0,(set,(n:Int))) ((g:Int),h) x) (List.range n) (fun (a:MkSt) (c:Nat)=>mkF a (nm2 [103] ((g:Int)+1) c,gS set g)) q (by simp;omega) (fun a i c hc d=>by
   obtain ⟨rfl,hi⟩:=zcI hc;have p:a.1.length<=10004:=by
    have t:=List.foldl_map (f:=fun c:Nat=>((nm2 [103] ((g:Int)+1) c,gS set g):Gl)) (g:=mkF) (l:=(List.range n).take c) (init:=q);rw [d,←t,zor];simp;omega
   unfold zak;rw [if_pos (by simp;omega),zt (n:=(g:Int)+1) (by omega) (by omega)];rw [zpN (by simp) (by unfold Sm;omega) (by unfold Sm;omega)];simp only [gp];rw [zos (by omega),B];rfl) (fun a d=>by
   unfold zak;rw [List.length_range,if_neg (by simp)])
  rw [e];unfold gE;rw [List.foldl_map];rfl
 have G:=zbx (F:=zaF (q0,(set,(n:Int)))) (List.range set.1.length) (fun (a:MkSt) g=>(gE n g (gS set g)).foldl mkF a) q0 (by simp;omega) (fun a i g m d=>by
  obtain ⟨rfl,hi⟩:=zcI m;have p:a.1.length<=800:=by
   rw [d,←List.foldl_flatMap,zor,List.take_range,s];have:=zrW hS hk (min g set.1.length) (by omega);omega
  have m:set.1[g]?=some set.1[g]:=cq hi;unfold zaF zdS;rw [if_pos (by simp;omega)];simp only [zr m,gp,v a a g _ m (by omega)]) (fun a d=>by
  unfold zaF;rw [List.length_range,if_neg (by simp)])
 rw [←List.foldl_flatMap] at G;have y:∀ (h q:MkSt) (i:Nat),i<set.2.length->q.1.length<=10000->iter (zam (q0,(set,(n:Int))) ((i:Int),h) (cz n)) (0,q)=some ((hE n i).foldl mkF q):=by
  intro h q i hi E;have e:=zbx (F:=zam (q0,(set,(n:Int))) ((i:Int),h) (cz n)) (cz n) (fun (a:MkSt) c=>if decide (c.1<(n:Int) - 1) then mkF a (nm3 [104] i c,1) else a) q (by have:=zsJ hk;omega) (fun a j c hc d=>by
   have w:=zkT hk (fd hc);have H:=zu hc;have C:=zsJ hk;have p:a.1.length<=10020:=by
    rw [d,zny (fun c:Pt=>decide (c.1<(n:Int) - 1)) (fun c=>((nm3 [104] i c,1):Gl)) mkF,zor,dz];have:=dy (fun c:Pt=>decide (c.1<(n:Int) - 1)) ((cz n).take j);rw [ef] at this;omega
   unfold zam zbN;rw [if_pos (by simp;omega),zr hc];simp only [gp,r];by_cases b:c.1<(n:Int) - 1
   ·rw [if_pos (by simpa using b),if_pos (by simpa using b),zmF (by simp) (by unfold Sm;omega) (by unfold Sm;omega) (by unfold Sm;omega)];simp only [gp];rw [zos (by omega)];rfl
   ·rw [if_neg (by simpa using b),if_neg (by simpa using b)]) (fun a d=>by
   unfold zam;rw [if_neg (by simp)])
  rw [e,zny (fun c:Pt=>decide (c.1<(n:Int) - 1)) (fun c=>((nm3 [104] i c,1):Gl)) mkF,zyR hk];rfl
 have u:∀ (h q:MkSt) (i:Nat),i<set.2.length->q.1.length<=10000->iter (zal (q0,(set,(n:Int))) ((i:Int),h) (cz n)) (0,q)=some ((vE n i).foldl mkF q):=by
  intro h q i hi E;have e:=zbx (F:=zal (q0,(set,(n:Int))) ((i:Int),h) (cz n)) (cz n) (fun (a:MkSt) c=>if decide (c.2<(n:Int) - 1) then mkF a (nm3 [118] i c,1) else a) q (by have:=zsJ hk;omega) (fun a j c hc d=>by
   have w:=zkT hk (fd hc);have H:=zu hc;have C:=zsJ hk;have p:a.1.length<=10020:=by
    rw [d,zny (fun c:Pt=>decide (c.2<(n:Int) - 1)) (fun c=>((nm3 [118] i c,1):Gl)) mkF,zor,dz];have:=dy (fun c:Pt=>decide (c.2<(n:Int) - 1)) ((cz n).take j);rw [ef] at this;omega
   unfold zal zbO;rw [if_pos (by simp;omega),zr hc];simp only [gp,r];by_cases b:c.2<(n:Int) - 1
   ·rw [if_pos (by simpa using b),if_pos (by simpa using b),zmF (by simp) (by unfold Sm;omega) (by unfold Sm;omega) (by unfold Sm;omega)];simp only [gp];rw [zos (by omega)];rfl
   ·rw [if_neg (by simpa using b),if_neg (by simpa using b)]) (fun a d=>by
   unfold zal;rw [if_neg (by simp)])
  rw [e,zny (fun c:Pt=>decide (c.2<(n:Int) - 1)) (fun c=>((nm3 [118] i c,1):Gl)) mkF,zyF hk];rfl
 have D:=zrW hS hk set.1.length (fy _);have t:=zbx (F:=zan (q0,(set,(n:Int)))) (List.range set.2.length) (fun (a:MkSt) i=>(hE n i++vE n i).foldl mkF a) ((GG set n).foldl mkF q0) (by simp;omega) (fun a i j m d=>by
  obtain ⟨rfl,hi⟩:=zcI m;have p:a.1.length<=4700:=by
   rw [d,←List.foldl_flatMap,zor,zor,List.take_range,s];have:=zu7 hS hk (min j set.2.length) (by omega);have:(GG set n).length<=800:=D;omega
  have N:(hE (n:Int) j).length<=24:=by have:=zuO hk j;rw [du] at this;omega
  unfold zan zdU zdT;rw [if_pos (by simp;omega)];simp only [zpr hk,gp];simp only [y a a j hi (by omega),gp];simp only [u a ((hE n j).foldl mkF a) j hi (by rw [zor];omega),gp];rw [List.foldl_append]) (fun a d=>by
  unfold zan;rw [List.length_range,if_neg (by simp)])
 rw [←List.foldl_flatMap] at t;unfold zc2 zdW;rw [G];simp only [gp];show ((iter (zan (q0,(set,(n:Int)))) (0,(GG set n).foldl mkF q0)).bind fun A=>zdV A)=_;rw [t,List.foldl_append];rfl
def zfn (m:List (List UInt8×Int)) (s:List UInt8):Int:=(mget m s).getD 0
def zmT (set:TSet) (i d c:Int):List UInt8:=if zd0 set i d=0 then [45] else nm2 [103] (zd0 set i d) c
def sdN (set:TSet) (k i:Int) (c:Pt):List (List UInt8):=
  [if c.2=k - 1 then zmT set i 0 c.1 else nm3 [118] i c,if c.1=k - 1 then zmT set i 1 c.2 else nm3 [104] i c,
   if c.2=0 then zmT set i 2 c.1 else nm3 [118] i (c.1,c.2 - 1),if c.1=0 then zmT set i 3 c.2 else nm3 [104] i (c.1 - 1,c.2)]
def tI (set:TSet) (k:Int) (m:List (List UInt8×Int)) (i:Int) (c:Pt):Tl:=(nm3 [112] i c,(sdN set k i c).map (zfn m))
theorem zuD (q:MkSt) (hq:q.2.1.length<=100000) (n a b c d:List UInt8):∃ z,zfb q n [a,b,c,d]=some (z,(q.1,q.2.1++[(n,[zfn q.2.2 a,zfn q.2.2 b,zfn q.2.2 c,zfn q.2.2 d])],q.2.2)):=by
 have e:iter (zeR q.2.2 [a,b,c,d]) ([],0)=some [zfn q.2.2 a,zfn q.2.2 b,zfn q.2.2 c,zfn q.2.2 d]:=by
  have e:=zae (F:=zeR q.2.2 [a,b,c,d]) [a,b,c,d] (fun o s=>o++[zfn q.2.2 s]) [] (by simp) (fun o i s hs f=>by
   have hi:=zu hs;have g:o.length<=4:=by
    rw [f];refine fz (zbD _ (fun a x=>by simp) _ _) ?_;simp;simp at hi;omega
   unfold zeR;rw [if_pos (by simp at hi ⊢;omega),zr hs];simp only [gp];rw [zQ (by simp;omega) (by simp;omega)];rfl) (fun o f=>by
   unfold zeR;rw [if_neg (by simp)])
  exact e
 unfold zfb;rw [e];simp only [gp];rw [zQ (by simp;omega) (by simp;omega)];exact ⟨_,rfl⟩
theorem zo5 (hS:SetOk set) (q:MkSt) {i d c:Int} (hi:TileIx set i) (hd:Dir d) (hc:Sm c):zat (q,(set,k)) i d c=some (zmT set i d c,q):=by
 obtain ⟨x,a,e,b,f,g⟩:=zlc hS hi hd;have j:=hS.glues;unfold zat zns zmT;simp only [a,gp,b];rw [zpN (by simp) (by unfold Sm;omega) hc];simp only [gp];by_cases h:zd0 set i d=0
 ·rw [if_pos (by simpa using h),if_pos h];rfl
 ·rw [if_neg (by simpa using h),if_neg h];rfl
theorem zyx (hS:SetOk set) (hk:Blk k) (q:MkSt) (hq:q.2.1.length<=100000) {i:Int} (hi:TileIx set i) {c:Pt} (hc:c∈cz k) :
  zdL (q,(set,k)) i c=some (q.1,q.2.1++[tI set k q.2.2 i c],q.2.2):=by
 have A:=zkT hk hc;have E:k<=4:=hk.2;have v:1<=k:=hk.1;have M:=hS.tiles;have J:=hi.1;have r:=hi.2;have f:∀ (w:UInt8) (a b:Int),-2<=a->a<=5 -> -2<=b->b<=5->z7 [w] i (a,b)=some (nm3 [w] i (a,b)):=fun w a b O L P N=>zmF (by simp) (by unfold Sm;omega) (by unfold Sm;simp only [];omega) (by unfold Sm;simp only [];omega);have s:w64 (c.2 - 1)=c.2 - 1:=zt (by omega) (by omega);have I:w64 (c.1 - 1)=c.1 - 1:=zt (by omega) (by omega);have g:w64 (k - 1)=k - 1:=zt (by omega) (by omega);have t:=f 118 c.1 c.2 (by omega) (by omega) (by omega) (by omega);have F:=f 118 c.1 (c.2 - 1) (by omega) (by omega) (by omega) (by omega);have B:=f 104 c.1 c.2 (by omega) (by omega) (by omega) (by omega);have G:=f 104 (c.1 - 1) c.2 (by omega) (by omega) (by omega) (by omega);have u:=f 112 c.1 c.2 (by omega) (by omega) (by omega) (by omega);have H:=fun x=>zo5 (k:=k) hS q hi (d:=0) (by unfold Dir;simp) (c:=x);have o1:=fun x=>zo5 (k:=k) hS q hi (d:=1) (by unfold Dir;simp) (c:=x);have o2:=fun x=>zo5 (k:=k) hS q hi (d:=2) (by unfold Dir;simp) (c:=x);have D:=fun x=>zo5 (k:=k) hS q hi (d:=3) (by unfold Dir;simp) (c:=x);have n:Sm c.1:=by unfold Sm;omega
 have m:Sm c.2:=by unfold Sm;omega
 have p:∀ a b d e:List UInt8,zaQ i c a b d e q=some (q.1,q.2.1++[(nm3 [112] i c,[zfn q.2.2 a,zfn q.2.2 d,zfn q.2.2 b,zfn q.2.2 e])],q.2.2):=by
  intro a b d e;unfold zaQ;rw [show c=(c.1,c.2) from rfl,u];simp only [gp];obtain ⟨z,C⟩:=zuD q hq (nm3 [112] i (c.1,c.2)) a d b e;rw [C];rfl
 have j:∀ x a b d:List UInt8,zaR (q,(set,k)) i c x a b d q=some (q.1,q.2.1++[(nm3 [112] i c,[zfn q.2.2 a,zfn q.2.2 d,zfn q.2.2 b,zfn q.2.2 (if c.1=0 then zmT set i 3 c.2 else x)])],q.2.2):=by
  intro x a b d;unfold zaR;by_cases h:c.1=0
  ·rw [if_pos (by simpa using h),if_pos h,D _ m];simp only [gp];exact p _ _ _ _
  ·rw [if_neg (by simpa using h),if_neg h];exact p _ _ _ _
 have k2:∀ y x a b:List UInt8,zaS (q,(set,k)) i c y x a b q=some (q.1,q.2.1++[(nm3 [112] i c,[zfn q.2.2 a,zfn q.2.2 (if c.1=k - 1 then zmT set i 1 c.2 else y),zfn q.2.2 b,zfn q.2.2 (if c.1=0 then zmT set i 3 c.2 else x)])],q.2.2):=by
  intro y x a b;unfold zaS;simp only [g];by_cases h:c.1=k - 1
  ·rw [if_pos (by simpa using h),if_pos h,o1 _ m];simp only [gp];exact j _ _ _ _
  ·rw [if_neg (by simpa using h),if_neg h];exact j _ _ _ _
 have k1:∀ z y x a:List UInt8,zaT (q,(set,k)) i c z y x a q=some (q.1,q.2.1++[(nm3 [112] i c,[zfn q.2.2 a,zfn q.2.2 (if c.1=k - 1 then zmT set i 1 c.2 else y),zfn q.2.2 (if c.2=0 then zmT set i 2 c.1 else z),zfn q.2.2 (if c.1=0 then zmT set i 3 c.2 else x)])],q.2.2):=by
  intro z y x a;unfold zaT;by_cases h:c.2=0
  ·rw [if_pos (by simpa using h),if_pos h,o2 _ n];simp only [gp];exact k2 _ _ _ _
  ·rw [if_neg (by simpa using h),if_neg h];exact k2 _ _ _ _
 unfold zdL;simp only [s,I,g];rw [show z7 [118] i c=some (nm3 [118] i c) from t];simp only [gp];rw [F];simp only [gp];rw [show z7 [104] i c=some (nm3 [104] i c) from B];simp only [gp];rw [G];simp only [gp];unfold tI sdN;by_cases h:c.2=k - 1
 ·rw [if_pos (by simpa using h),H _ n];simp only [gp];rw [k1];simp only [List.map,h,if_true]
 ·rw [if_neg (by simpa using h),k1];simp only [List.map,h,if_false]
end
section
variable {set:TSet} {k:Int}
def TT' (set:TSet) (k:Int) (g:Int->Pt->Tl):List Tl:=(List.range set.2.length).flatMap fun (i:Nat)=>(cz k).map (g i)
theorem zpy (hS:SetOk set) (hk:Blk k) (g:Int->Pt->Tl) (n:Nat) (hn:n<=set.2.length):((List.range n).flatMap fun (i:Nat)=>(cz k).map (g i)).length<=2560:=by
 have a:=zki (G:=fun (i:Nat)=>(cz k).map (g i)) (m:=16) (l:=List.range n) (fun i _=>by rw [dz];exact zsJ hk);have:=hS.tiles;rw [List.length_range] at a;omega
def zu6 (g:Int->Pt->Tl) (i:Int) (q:MkSt) (c:Pt):MkSt:=(q.1,q.2.1++[g i c],q.2.2)
theorem zrV (g:Int->Pt->Tl) (i:Int):∀ (l:List Pt) (q:MkSt),l.foldl (zu6 g i) q=(q.1,q.2.1++l.map (g i),q.2.2)
 | [],q=>by simp
 | c::l,q=>by rw [ci,zrV g i l];simp [zu6]
theorem zqf (g:Int->Pt->Tl) (cs:List Pt):∀ (l:List Nat) (q:MkSt),l.foldl (fun q (i:Nat)=>cs.foldl (zu6 g i) q) q=(q.1,q.2.1++l.flatMap (fun (i:Nat)=>cs.map (g i)),q.2.2)
 | [],q=>by simp
 | c::l,q=>by rw [ci,zqf g cs l,zrV];simp
theorem zxl {i:Nat} (h:i<set.2.length):TileIx set (i:Int):=⟨by omega,by omega⟩
theorem zuM (hS:SetOk set) (hk:Blk k) (s0:List Plc) (t:Int) (q0:MkSt) (hq:q0.2.1=[]):iter (zbh (set,s0,t) k) (0,q0)=some (q0.1,TT' set k (tI set k q0.2.2),q0.2.2):=by
 have r:=hS.tiles;have h:=zsJ hk;have d:∀ (f q:MkSt) (i:Nat),i<set.2.length->q.2.1.length<=10000->iter (zbg (set,s0,t) k ((i:Int),f) (cz k)) (0,q)=some ((cz k).foldl (zu6 (tI set k q.2.2) i) q):=by
  intro f q i hi n;refine zbx (F:=zbg (set,s0,t) k ((i:Int),f) (cz k)) (cz k) (zu6 (tI set k q.2.2) i) q (by omega) (fun a j c hc b=>?_) (fun a b=>?_)
  ·rw [zrV] at b;have hm:a.2.2=q.2.2:=by rw [b]
   have g:a.2.1.length<=10020:=by rw [b];simp;omega
   have p:=zu hc;unfold zbg;rw [if_pos (by simp;omega),zr hc];simp only [gp];rw [zyx hS hk a (by omega) (zxl hi) (fd hc)];simp only [gp];unfold zu6;rw [hm]
  ·unfold zbg;rw [if_neg (by simp)]
 have e:=zbx (F:=zbh (set,s0,t) k) (List.range set.2.length) (fun q (i:Nat)=>(cz k).foldl (zu6 (tI set k q0.2.2) i) q) q0 (by simp;omega) (fun a j i m b=>by
  obtain ⟨rfl,hi⟩:=zcI m;rw [zqf] at b;have hm:a.2.2=q0.2.2:=by rw [b]
  have g:a.2.1.length<=2560:=by
   rw [b,hq];simp only [fh];rw [List.take_range];exact zpy hS hk _ _ (by omega)
  unfold zbh zgW;rw [if_pos (by simp;omega),zpr hk];simp only [gp];rw [d a a i hi (by omega),hm];rfl) (fun a b=>by
  unfold zbh;rw [List.length_range,if_neg (by simp)])
 rw [e,zqf,hq,fh];rfl
def zqw (set:TSet) (k i d c:Int):Int:=if zd0 set i d=0 then 0 else (zd0 set i d - 1)*k+c+1
def zpn (set:TSet) (k i:Int):Int:=(set.1.length:Int)*k+i*(2*(k*(k - 1)))+1
def hN (set:TSet) (k i:Int) (c:Pt):Int:=zpn set k i+(c.2*(k - 1)+c.1)
def vN (set:TSet) (k i:Int) (c:Pt):Int:=zpn set k i+k*(k - 1)+(c.2*k+c.1)
def sdS (set:TSet) (k i:Int) (c:Pt):List Int:=
  [if c.2=k - 1 then zqw set k i 0 c.1 else vN set k i c,if c.1=k - 1 then zqw set k i 1 c.2 else hN set k i c,
   if c.2=0 then zqw set k i 2 c.1 else vN set k i (c.1,c.2 - 1),if c.1=0 then zqw set k i 3 c.2 else hN set k i (c.1 - 1,c.2)]
theorem zwI (hS:SetOk set) (hk:Blk k) {i:Int} (hi:TileIx set i) {c:Pt} (hc:c∈cz k):zja set i c.1 c.2 k=some (sdS set k i c):=by
 have N:=zkT hk hc;have hg:=hS.glues;have ht:=hS.tiles;have b1:=hi.1;have I:=hi.2;obtain ⟨M,H,S,w,B,t⟩:=zlc hS hi (d:=0) (by unfold Dir;simp);obtain ⟨x1,h,P,s,q,m⟩:=zlc hS hi (d:=1) (by unfold Dir;simp);obtain ⟨x2,e,Z,u,n,E⟩:=zlc hS hi (d:=2) (by unfold Dir;simp);obtain ⟨x3,f,T,C,r,A⟩:=zlc hS hi (d:=3) (by unfold Dir;simp);rw [H] at h e f;obtain rfl:=Option.some.inj h;obtain rfl:=Option.some.inj e;obtain rfl:=Option.some.inj f;have k4:∀ (out:List Int) (d v:Int),out.length<=4->0<=d->d<=3->zaL (out,d) v=some (.inl (out++[v],d+1)):=by
  intro out d v F p h3;unfold zaL;rw [zQ (by simp;omega) (by simp;omega),zt (by omega) (by omega)];rfl
 have L:w64 (k - 1)=k - 1:=by have:=hk.1;have:=hk.2;exact zt (by omega) (by omega)
 have U:w64 (w64 (w64 ((set.1.length:Int)*k)+w64 (w64 (w64 (i*2)*k)*(k - 1)))+1)=zpn set k i:=by
  unfold zpn;rcases hk.cases with rfl | rfl | rfl | rfl<;>simp (disch:=omega) only [zt]<;>omega
 have bF:0<=zpn set k i/\zpn set k i<=10000:=by
  unfold zpn;rcases hk.cases with rfl | rfl | rfl | rfl<;>omega
 have nS:w64 (zpn set k i+w64 (k*(k - 1)))=zpn set k i+k*(k - 1):=by
  rcases hk.cases with rfl | rfl | rfl | rfl<;>simp (disch:=omega) only [zt]<;>omega
 have O:w64 (w64 (zpn set k i+k*(k - 1)+w64 (c.2*k))+c.1)=vN set k i c:=by
  unfold vN;rcases hk.cases with rfl | rfl | rfl | rfl<;>simp (disch:=omega) only [zt]<;>omega
 have y:w64 (w64 (zpn set k i+k*(k - 1)+w64 (w64 (c.2 - 1)*k))+c.1)=vN set k i (c.1,c.2 - 1):=by
  unfold vN;rcases hk.cases with rfl | rfl | rfl | rfl<;>simp (disch:=omega) only [zt]<;>omega
 have nH:w64 (w64 (zpn set k i+w64 (c.2*(k - 1)))+c.1)=hN set k i c:=by
  unfold hN;rcases hk.cases with rfl | rfl | rfl | rfl<;>simp (disch:=omega) only [zt]<;>omega
 have D:w64 (hN set k i c - 1)=hN set k i (c.1 - 1,c.2):=by
  unfold hN;rcases hk.cases with rfl | rfl | rfl | rfl<;>simp (disch:=omega) only [zt]<;>omega
 have G:∀ g a:Int,0<=g->g<=200->0<=a->a<=4->w64 (w64 (w64 (w64 (g - 1)*k)+a)+1)=(g - 1)*k+a+1:=by
  intro g a R h2 h3 h4;rcases hk.cases with rfl | rfl | rfl | rfl<;>simp (disch:=omega) only [zt]<;>omega
 have a0:k<=4:=hk.2;have step:∀ (out:List Int) (d v:Int),out.length<=4->(d=0\/d=1\/d=2\/d=3)->idx M.2 d=some (zd0 set i d)->0<=zd0 set i d->zd0 set i d<=(set.1.length:Int)->
   v=(if d=1/\c.1<k - 1 then hN set k i c else if d=3/\c.1>0 then hN set k i (c.1 - 1,c.2) else if d=0/\c.2<k - 1 then vN set k i c else if d=2/\c.2>0 then vN set k i (c.1,c.2 - 1) else zqw set k i d (if d=1\/d=3 then c.2 else c.1))->
   zec set i c.1 c.2 k (out,d)=some (.inl (out++[v],d+1)):=by
  intro out d v F hd j p R hv;have n1:=G (zd0 set i d) c.2 p (by omega) (by omega) (by omega);have Q:=G (zd0 set i d) c.1 p (by omega) (by omega) (by omega);subst hv;unfold zec zf8 zge zgd zgc zgb zga zf9 zqw;simp only [H,gp,j,L,U,nS,O,y,nH,D,n1,Q];have z:(0<zd0 set i d)↔¬zd0 set i d=0:=by omega
  by_cases z0:zd0 set i d=0
  all_goals
   rcases hd with rfl | rfl | rfl | rfl
   all_goals
    simp [z0,z,k4 out _ _ F]
    try (repeat' split)
    all_goals first | rfl | omega | simp_all
 have J:=step [] 0 _ (by simp) (by simp) w B t rfl;have e1:=fun a=>step [a] 1 _ (by simp) (by simp) s q m rfl;have V:=fun a b=>step [a,b] 2 _ (by simp) (by simp) u n E rfl;have e3:=fun a b d=>step [a,b,d] 3 _ (by simp) (by simp) C r A rfl;unfold zja;rw [zD J];simp only [fh];rw [show (0:Int)+1=1 from rfl,zD (e1 _)];simp only [List.cons_append,fh];rw [show (1:Int)+1=2 from rfl,zD (V _ _)];simp only [List.cons_append,fh];rw [show (2:Int)+1=3 from rfl,zD (e3 _ _ _)];simp only [List.cons_append,fh];rw [zI (x:=_) (by unfold zec;rw [if_neg (by simp)])];simp only [gp,ziJ];unfold sdS;have X:c.1<k - 1↔¬c.1=k - 1:=by omega
 have c2:c.2<k - 1↔¬c.2=k - 1:=by omega
 have c3:0<c.1↔¬c.1=0:=by omega
 have Y:0<c.2↔¬c.2=0:=by omega
 simp [X,c2,c3,Y]
end
section
variable {set:TSet} {k:Int}
def tS (set:TSet) (k:Int) (i:Int) (c:Pt):Tl:=(nm3 [112] i c,sdS set k i c)
theorem zwC (hS:SetOk set) (hk:Blk k):zk3 set k=some (GG set k++GT set k,TT' set k (tS set k)):=by
 have C:=hS.tiles;have g:w64 (k*k)=k*k:=by rcases hk.cases with rfl | rfl | rfl | rfl<;>rfl
 have y:(k*k).toNat<=16:=by rcases hk.cases with rfl | rfl | rfl | rfl<;>decide
 have h:1<=k:=hk.1;have t:k<=4:=hk.2;have m:∀ (o1 out:List Tl) (i:Nat),i<set.2.length->out.length<=10000->iter (zed set k ((i:Int),o1)) (0,out)=some (out++(cz k).map (tS set k i)):=by
  intro o1 out i hi A;have e:=zbx (F:=zed set k ((i:Int),o1)) (List.range (k*k).toNat) (fun a (c:Nat)=>a++[tS set k i ((c:Int) % k,(c:Int) / k)]) out (by simp;omega) (fun a j c hc f=>by
   obtain ⟨rfl,B⟩:=zcI hc;have p:a.length<=10020:=by
    rw [f];refine fz (zbD _ (fun a x=>by simp) _ _) ?_;simp;omega
   have q:(c:Int)<k*k:=by omega
   have b:((c:Int) % k,(c:Int) / k)∈cz k:=fd (ztp q);have n:=zkT hk b;simp only at n;obtain ⟨s,r,u⟩:=zsv (w:=[112]) (by simp) (i:=(i:Int)) (c:=((c:Int) % k,(c:Int) / k)) (by unfold Sm;omega) (by unfold Sm;simp only [];omega) (by unfold Sm;simp only [];omega);simp only at r;have d:=zwI hS hk (zxl hi) b;simp only at d;unfold zed;rw [g,if_pos (by simp;omega),zre (by simp) h,zpM (by simp) (by simp only [];omega) h];simp only [gp,r,u,d];rw [zQ (by simp;omega) (by simp;omega)];rfl) (fun a f=>by
   unfold zed;rw [g,List.length_range,if_neg (by simp;omega)])
  rw [e,z8 (fun c:Nat=>[tS set k i ((c:Int) % k,(c:Int) / k)]),←List.map_eq_flatMap];unfold cz;rw [List.map_map];rfl
 have e:=zbx (F:=zfI set k) (List.range set.2.length) (fun a (i:Nat)=>a++(cz k).map (tS set k i)) [] (by simp;omega) (fun a j i v f=>by
  obtain ⟨rfl,hi⟩:=zcI v;have p:a.length<=2560:=by
   rw [f,z8,fh,List.take_range];exact zpy hS hk _ _ (by omega)
  unfold zfI zkr;rw [if_pos (by simp;omega)];simp only [m a a i hi (by omega),gp]) (fun a f=>by
  unfold zfI;rw [List.length_range,if_neg (by simp)])
 rw [z8,fh] at e;unfold zk3;rw [zut hS hk,e];rfl
theorem zrL {α β:Type} {f:α->List β} {m:Nat}:∀ {l:List α} {i r:Nat} {x:α},(∀ y∈l,(f y).length=m)->l[i]?=some x->r<m->(l.flatMap f)[i*m+r]?=(f x)[r]?
 | [],i,r,x,_,h,_=>by simp at h
 | y::l,0,r,x,hl,h,hr=>by
  simp at h;subst h;have:=hl y (by simp);rw [cg,Nat.zero_mul,gl,cj (by omega)]
 | y::l,i+1,r,x,hl,h,hr=>by
  have a:=hl y (by simp);rw [List.getElem?_cons_succ] at h;rw [cg,cn (by rw [a,fu];omega),a,←zrL (fun z b=>hl z (by simp [b])) h hr];congr 1;rw [fu];omega
theorem zrK {α β:Type} {f:α->List β} {m:Nat}:∀ {l:List α},(∀ y∈l,(f y).length=m)->(l.flatMap f).length=l.length*m
 | [],_=>by simp
 | y::l,h=>by
  rw [cg,du,h y (by simp),zrK (fun z a=>h z (by simp [a])),dv,fu];omega
structure MapOk (G:List Gl) (m:List (List UInt8×Int)):Prop where
 z:mget m [45]=some 0
 at_:∀ (j:Nat) e,G[j]?=some e->mget m e.1=some ((j:Int)+1)
 old:∀ s,mhas m s=true->s=[45]\/∃ e∈G,e.1=s
theorem zxa:∀ (l:List Gl) (q:MkSt),MapOk q.1 q.2.2->(∀ e∈l,e.1≠[45])->(q.1++l).Pairwise (fun a b=>a.1≠b.1)->MapOk (q.1++l) (l.foldl mkF q).2.2
 | [],q,h,_,_=>by simpa using h
 | e::l,q,h,hz,hp=>by
  have k:q.1++e::l=(mkF q e).1++l:=by simp [mkF]
  rw [k] at hp ⊢;rw [ci];refine zxa l (mkF q e) ?_ (fun x c=>hz x (by simp [c])) hp;have m:(q.1++[e]).Pairwise (fun a b=>a.1≠b.1):=(List.pairwise_append.1 hp).1;have f:∀ x∈q.1,x.1≠e.1:=fun x c=>(List.pairwise_append.1 m).2.2 x c e (by simp);have d:mhas q.2.2 e.1=false:=by
   cases hh:mhas q.2.2 e.1 with
   | false=>rfl
   | true=>
    rcases h.old _ hh with g | ⟨x,c,g⟩
    ·exact absurd g (hz e (by simp))
    ·exact absurd g (f x c)
  have hm:(mkF q e).2.2=q.2.2++[(e.1,(q.1.length:Int)+1)]:=by unfold mkF;exact zro d
  rw [hm];refine ⟨?_,fun j x c=>?_,fun s hs=>?_⟩
  ·rw [zpP d,if_neg (fun g=>hz e (by simp) g.symm)];exact h.z
  ·have c:(q.1++[e])[j]?=some x:=c;rw [zpP d];by_cases n:j<q.1.length
   ·rw [cj n] at c;rw [if_neg (f x (fd c))];exact h.at_ j x c
   ·rw [cn (by omega)] at c;have p:j - q.1.length=0:=by have:=zu c;simp at this;omega
    rw [p] at c;injection c with c;subst c
    rw [if_pos rfl];congr 1;omega
  ·rw [zpO] at hs;rcases Bool.or_eq_true_iff.1 hs with g | g
   ·rcases h.old _ g with g | ⟨x,c,g⟩
    ·exact .inl g
    ·exact .inr ⟨x,er _ c,g⟩
   ·exact .inr ⟨e,List.mem_append_right _ (by simp),of_decide_eq_true g⟩
theorem zAr:∀ e∈GG set k++GT set k,e.1≠[45]:=by
 have j:∀ (w:UInt8) a b,w≠45->nm2 [w] a b≠[45]:=fun w a b m h=>by unfold nm2 at h;simp at h
 have f:∀ (w:UInt8) a b,w≠45->nm3 [w] a b≠[45]:=fun w a b m h=>by unfold nm3 at h;simp at h
 intro e d;rcases ep.1 d with d | d
 ·obtain ⟨g,_,d⟩:=List.mem_flatMap.1 d;obtain ⟨c,_,rfl⟩:=fa.1 d;exact j _ _ _ (by decide)
 ·obtain ⟨i,_,d⟩:=List.mem_flatMap.1 d;rcases ep.1 d with d | d
  ·obtain ⟨c,_,rfl⟩:=fa.1 d;exact f _ _ _ (by decide)
  ·obtain ⟨c,_,rfl⟩:=fa.1 d;exact f _ _ _ (by decide)
theorem zz7 (hk:Blk k) {g c:Nat} (hg:g<set.1.length) (hc:(c:Int)<k):(GG set k++GT set k)[g*k.toNat+c]?=some (nm2 [103] ((g:Int)+1) c,gS set g):=by
 have e:=hk.1;have b:∀ y∈List.range set.1.length,(gE k y (gS set y)).length=k.toNat:=fun y _=>by unfold gE;simp
 have a:=zrK b;rw [List.length_range] at a;have d:g*k.toNat+c<set.1.length*k.toNat:=by
  have:(g+1)*k.toNat<=set.1.length*k.toNat:=gj _ hg;rw [fu] at this;omega
 unfold GG;rw [cj (by rw [a];exact d),zrL b (df hg) (by omega)];unfold gE;rw [cw,df (by omega)];rfl
theorem zsQ:(GG set k).length=set.1.length*k.toNat:=by
 have a:∀ y∈List.range set.1.length,(gE k y (gS set y)).length=k.toNat:=fun y _=>by unfold gE;simp
 have:=zrK a;rw [List.length_range] at this;exact this
theorem zyX (hk:Blk k) {i r:Nat} (hi:i<set.2.length) (hr:r<2*(k*(k - 1)).toNat):(GG set k++GT set k)[set.1.length*k.toNat+(i*(2*(k*(k - 1)).toNat)+r)]?=(hE k i++vE k i)[r]?:=by
 have a:∀ y∈List.range set.2.length,(hE k y++vE k y).length=2*(k*(k - 1)).toNat:=fun y _=>by
  have:=ztj hk;unfold hE vE;simp [this];omega
 rw [cn (by rw [zsQ];omega),zsQ,Nat.add_sub_cancel_left];exact zrL a (df hi) hr
theorem zzZ (hk:Blk k) {c:Pt} (h:c∈cz k) (hx:c.1<k - 1):(hc k)[(c.2*(k - 1)+c.1).toNat]?=some c/\(c.2*(k - 1)+c.1).toNat<(k*(k - 1)).toNat:=by
 have:∀ c∈cz k,c.1<k - 1->(hc k)[(c.2*(k - 1)+c.1).toNat]?=some c/\(c.2*(k - 1)+c.1).toNat<(k*(k - 1)).toNat:=by
  rcases hk.cases with rfl | rfl | rfl | rfl<;>decide
 exact this c h hx
theorem zzI (hk:Blk k) {c:Pt} (h:c∈cz k) (hx:c.2<k - 1):(vc k)[(c.2*k+c.1).toNat]?=some c/\(c.2*k+c.1).toNat<(k*(k - 1)).toNat:=by
 have:∀ c∈cz k,c.2<k - 1->(vc k)[(c.2*k+c.1).toNat]?=some c/\(c.2*k+c.1).toNat<(k*(k - 1)).toNat:=by
  rcases hk.cases with rfl | rfl | rfl | rfl<;>decide
 exact this c h hx
theorem zxh (hk:Blk k) {m:List (List UInt8×Int)} (hm:MapOk (GG set k++GT set k) m) {i:Nat} (hi:i<set.2.length) {c:Pt} (h:c∈cz k) (hx:c.1<k - 1):zfn m (nm3 [104] i c)=hN set k i c:=by
 have d:=zkT hk h;obtain ⟨f,g⟩:=zzZ hk h hx;have b:=zyX (set:=set) hk hi (r:=(c.2*(k - 1)+c.1).toNat) (by omega);have e:(hE k i).length=(k*(k - 1)).toNat:=by unfold hE;rw [dz];exact (ztj hk).1
 have a:(hE k i++vE k i)[(c.2*(k - 1)+c.1).toNat]?=some (nm3 [104] i c,1):=by
  rw [cj (by omega)];unfold hE;rw [cw,f];rfl
 rw [a] at b;have:=hm.at_ _ _ b;unfold zfn;rw [this];unfold hN zpn;simp only [gq];rcases hk.cases with rfl | rfl | rfl | rfl<;>simp<;>omega
theorem zxg (hk:Blk k) {m:List (List UInt8×Int)} (hm:MapOk (GG set k++GT set k) m) {i:Nat} (hi:i<set.2.length) {c:Pt} (h:c∈cz k) (hx:c.2<k - 1):zfn m (nm3 [118] i c)=vN set k i c:=by
 have e:=zkT hk h;obtain ⟨f,g⟩:=zzI hk h hx;have d:=zyX (set:=set) hk hi (r:=(k*(k - 1)).toNat+(c.2*k+c.1).toNat) (by omega);have a:(hE k i).length=(k*(k - 1)).toNat:=by unfold hE;rw [dz];exact (ztj hk).1
 have b:(hE k i++vE k i)[(k*(k - 1)).toNat+(c.2*k+c.1).toNat]?=some (nm3 [118] i c,1):=by
  rw [cn (by omega),a,Nat.add_sub_cancel_left];unfold vE;rw [cw,f];rfl
 rw [b] at d;have:=hm.at_ _ _ d;unfold zfn;rw [this];unfold vN zpn;simp only [gq];rcases hk.cases with rfl | rfl | rfl | rfl<;>simp<;>omega
theorem ztd (hS:SetOk set) (hk:Blk k) {m:List (List UInt8×Int)} (hm:MapOk (GG set k++GT set k) m) {i d c:Int} (hi:TileIx set i) (hd:Dir d) (h0:0<=c) (h1:c<k):zfn m (zmT set i d c)=zqw set k i d c:=by
 obtain ⟨x,_,_,_,f,e⟩:=zlc hS hi hd;unfold zmT zqw;by_cases a:zd0 set i d=0
 ·rw [if_pos a,if_pos a];unfold zfn;rw [hm.z];rfl
 ·rw [if_neg a,if_neg a];obtain ⟨c,rfl⟩:=ba h0;obtain ⟨g,b⟩:=ba (show 0<=zd0 set i d - 1 by omega);have:=hm.at_ _ _ (zz7 (set:=set) hk (g:=g) (c:=c) (by omega) h1);rw [show ((g:Int)+1)=zd0 set i d by omega] at this;unfold zfn;rw [this,b];simp only [gq];rcases hk.cases with rfl | rfl | rfl | rfl<;>simp
theorem zyT (hk:Blk k) {c:Pt} (h1:0<=c.1) (h2:c.1<k) (h3:0<=c.2) (h4:c.2<k):c∈cz k:=by
 obtain ⟨x,y⟩:=c;simp only at h1 h2 h3 h4;have:=ztp (k:=k) (c:=(y*k+x).toNat) (by rcases hk.cases with rfl | rfl | rfl | rfl<;>omega);have e:(((y*k+x).toNat:Int) % k,((y*k+x).toNat:Int) / k)=(x,y):=by
  rcases hk.cases with rfl | rfl | rfl | rfl<;>(refine Prod.ext ?_ ?_<;>simp only []<;>omega)
 rw [e] at this;exact fd this
theorem zuq (hS:SetOk set) (hk:Blk k) {m:List (List UInt8×Int)} (hm:MapOk (GG set k++GT set k) m):TT' set k (tI set k m)=TT' set k (tS set k):=by
 unfold TT';rw [List.flatMap_def,List.flatMap_def];congr 1;refine ej fun i hi=>ej fun c hc=>?_;have hi:=fe.1 hi;have e:=zkT hk hc;have a:=zxl (set:=set) hi;unfold tI tS sdN sdS;simp only [List.map];have d:zfn m (if c.2=k - 1 then zmT set i 0 c.1 else nm3 [118] i c)=if c.2=k - 1 then zqw set k i 0 c.1 else vN set k i c:=by
  split
  ·exact ztd hS hk hm a (by unfold Dir;simp) (by omega) (by omega)
  ·exact zxg hk hm hi hc (by omega)
 have a2:zfn m (if c.1=k - 1 then zmT set i 1 c.2 else nm3 [104] i c)=if c.1=k - 1 then zqw set k i 1 c.2 else hN set k i c:=by
  split
  ·exact ztd hS hk hm a (by unfold Dir;simp) (by omega) (by omega)
  ·exact zxh hk hm hi hc (by omega)
 have f:zfn m (if c.2=0 then zmT set i 2 c.1 else nm3 [118] i (c.1,c.2 - 1))=if c.2=0 then zqw set k i 2 c.1 else vN set k i (c.1,c.2 - 1):=by
  split
  ·exact ztd hS hk hm a (by unfold Dir;simp) (by omega) (by omega)
  ·exact zxg hk hm hi (zyT hk (by simp only [];omega) (by simp only [];omega) (by simp only [];omega) (by simp only [];omega)) (by simp only [];omega)
 have b:zfn m (if c.1=0 then zmT set i 3 c.2 else nm3 [104] i (c.1 - 1,c.2))=if c.1=0 then zqw set k i 3 c.2 else hN set k i (c.1 - 1,c.2):=by
  split
  ·exact ztd hS hk hm a (by unfold Dir;simp) (by omega) (by omega)
  ·exact zxh hk hm hi (zyT hk (by simp only [];omega) (by simp only [];omega) (by simp only [];omega) (by simp only [];omega)) (by simp only [];omega)
 rw [d,a2,f,b]
end
section
variable {set:TSet} {ts:List Plc} {t k:Int}
theorem zyk (hS:SetOk set) (hk:Blk k):(GG set k++GT set k).length<=5000/\∀ e∈GG set k++GT set k,e.1.length<=100:=by
 have p:=hS.glues;have n:=hS.tiles;have h:k<=4:=hk.2;refine ⟨?_,fun e d=>?_⟩
 ·rw [du];have m:(GG set k).length<=800:=zrW hS hk _ (fy _);have j:(GT set k).length<=3840:=zu7 hS hk _ (fy _);omega
 ·rcases ep.1 d with d | d
  ·obtain ⟨g,f,d⟩:=List.mem_flatMap.1 d;obtain ⟨c,hc,rfl⟩:=fa.1 d;have:=fe.1 f;have:=fe.1 hc;have:=zx7 (w:=[103]) (by simp) (a:=(g:Int)+1) (b:=(c:Int)) (by unfold Sm;omega) (by unfold Sm;omega);simp only [];omega
  ·obtain ⟨i,hi,d⟩:=List.mem_flatMap.1 d;have:=fe.1 hi;rcases ep.1 d with d | d
   ·obtain ⟨c,hc,rfl⟩:=fa.1 d;rw [←zyR hk] at hc;have:=zkT hk (ey.1 hc).1;exact zs5 (by simp) (by unfold Sm;omega) (by unfold Sm;omega) (by unfold Sm;omega)
   ·obtain ⟨c,hc,rfl⟩:=fa.1 d;rw [←zyF hk] at hc;have:=zkT hk (ey.1 hc).1;exact zs5 (by simp) (by unfold Sm;omega) (by unfold Sm;omega) (by unfold Sm;omega)
theorem ztO (hS:SetOk set) (hk:Blk k) (g:Int->Pt->Tl) (hg:∀ (i:Int) c,(g i c).1=nm3 [112] i c/\(g i c).2.length=4):Tame (GG set k++GT set k,TT' set k g):=by
 have h:=hS.tiles;have d:k<=4:=hk.2;obtain ⟨f,e⟩:=zyk hS hk;have j:=zpy hS hk g set.2.length (fy _);have b:∀ x∈TT' set k g,x.1.length<=100/\x.2.length=4:=fun x a=>by
  obtain ⟨i,hi,a⟩:=List.mem_flatMap.1 a;obtain ⟨c,hc,rfl⟩:=fa.1 a;have:=fe.1 hi;have:=zkT hk hc;rw [(hg i c).1];exact ⟨zs5 (by simp) (by unfold Sm;omega) (by unfold Sm;omega) (by unfold Sm;omega),(hg i c).2⟩
 exact ⟨by simp only [];omega,by show (TT' set k g).length<=_;unfold TT';omega,fun x a=>by have:=e x a;omega,fun x a=>by have:=(b x a).1;omega,fun x a=>by have:=(b x a).2;omega⟩
theorem zxu {G:List Gl} {T:List Tl} (h:SetOk (G,T)):G.Pairwise (fun a b=>a.1≠b.1):=by
 rw [fk];intro i j hi d c;have:=(h.glue j d) G[j] (cq d);exact this.2.2.2 i G[i] c (cq hi)
theorem zrh (hT:Tame set) (h:ts.length<=1048576):∃ r,zgG (set,ts,t) k=some r/\zgq (set,ts,t) k=some r/\
  (r.2=0->Blk k/\SetOk r.1.1/\zbo r.1.1 r.1.2.1/\zaU r.1=some true/\zfJ r.1=some true):=by
 obtain ⟨b,I,N,F⟩:=zhT hT h t;unfold zgG zgq;rw [I,N];simp only [gp];cases b with
 | false=>exact ⟨_,rfl,rfl,fun e=>by cases e⟩
 | true=>
 obtain ⟨hS,J⟩:=F rfl;have U:=hS.glues;have T:=hS.tiles;simp only [aw,aq,if_false];unfold zeF;rw [zc9,zg6];simp only [gp];by_cases d:1<=k/\k<=4
 rotate_left
 ·rw [show decide (1<=k/\k<=4)=false from decide_eq_false d];exact ⟨_,rfl,rfl,fun e=>by cases e⟩
 rw [show decide (1<=k/\k<=4)=true from decide_eq_true d];have d:Blk k:=d;simp only [aw,aq,if_false];by_cases A:t=2
 rotate_left
 ·rw [show decide (t=2)=false from decide_eq_false A];exact ⟨_,rfl,rfl,fun e=>by cases e⟩
 subst A;simp only [decide_true,aw,aq,if_false];obtain ⟨r,O,H,P⟩:=zwL J.1 d;unfold zlJ zf3;rw [O];simp only [gp];rw [Int.mul_comm k (set.1.length:Int),Int.mul_comm 2 (set.2.length:Int)];have B:∀ {b:Bool},b=true->∃ r,(if b then (some ((([],[]),([],0)),4):Option (((TSet)×(List Plc)×Int)×Int)) else none)=some r:=fun h=>by rw [h];exact ⟨_,rfl⟩
 by_cases g:w64 (w64 ((set.1.length:Int)*k)+w64 (w64 (w64 ((set.2.length:Int)*2)*k)*w64 (k - 1)))>200
 ·rw [if_pos (decide_eq_true g),if_pos (decide_eq_true g)];exact ⟨_,rfl,rfl,fun e=>by cases e⟩
 rw [if_neg (fun e=>g (of_decide_eq_true e)),if_neg (fun e=>g (of_decide_eq_true e))];by_cases f:w64 (w64 ((set.2.length:Int)*k)*k)>160
 ·rw [if_pos (decide_eq_true f),show decide (w64 (w64 ((set.2.length:Int)*k)*k)>160)=true from decide_eq_true f];exact ⟨_,rfl,rfl,fun e=>by cases e⟩
 rw [if_neg (fun e=>f (of_decide_eq_true e)),show decide (w64 (w64 ((set.2.length:Int)*k)*k)>160)=false from decide_eq_false f];unfold zcq zd5;rw [if_neg (c:=false=true) (by simp),H];simp only [gp];by_cases w:r.2=0
 rotate_left
 ·rw [show decide (r.2=0)=false from decide_eq_false w];exact ⟨_,rfl,rfl,fun e=>by cases e⟩
 rw [show decide (r.2=0)=true from decide_eq_true w];simp only [aw,aq,if_false];rw [zuN hS d ([],[],[([45],0)]) rfl,zwC hS d];simp only [gp];obtain ⟨q,C⟩:∃ q:MkSt,q=(GG set k++GT set k).foldl mkF ([],[],[([45],0)]):=⟨_,rfl⟩;have m:=zs8 (GG set k++GT set k) ([],[],[([45],0)]);rw [←C] at m ⊢;simp only [fh] at m;rw [zuM hS d ts 2 q m.2];simp only [gp];unfold zgX;simp only [m.1];have n:r.1.length<=1048576:=by have:=(P w).1;omega
 have M:=ztO hS d (tI set k q.2.2) (fun i c=>⟨rfl,by simp [tI,sdN]⟩);have x:=ztO hS d (tS set k) (fun i c=>⟨rfl,by simp [tS,sdS]⟩);by_cases v:(GG set k++GT set k).Pairwise (fun a b=>a.1≠b.1)
 ·have hm:MapOk (GG set k++GT set k) q.2.2:=by
   have:=zxa (GG set k++GT set k) ([],[],[([45],0)]) ⟨rfl,fun j e R=>by simp at R,fun s hs=>by
    unfold mhas at hs;simp at hs;exact .inl hs.symm⟩ zAr (by simpa using v)
   rw [←C] at this;simpa using this
  rw [zuq hS d hm];obtain ⟨b,u,D,p⟩:=zhT x n 2;rw [u,D];simp only [gp];cases b with
  | false=>exact ⟨_,rfl,rfl,fun e=>by cases e⟩
  | true=>exact ⟨_,rfl,rfl,fun _=>⟨d,(p rfl).1,(p rfl).2,u,D⟩⟩
 ·obtain ⟨y,u,_,p⟩:=zhT M n 2;obtain ⟨E,_,S,G⟩:=zhT x n 2;have Q:y=false:=by
   cases y with
   | false=>rfl
   | true=>exact absurd (zxu (p rfl).1) v
  have L:E=false:=by
   cases E with
   | false=>rfl
   | true=>exact absurd (zxu (G rfl).1) v
  subst Q;subst L;rw [u,S];exact ⟨_,rfl,rfl,fun e=>by cases e⟩
theorem zri (hT:Tame set) (h:ts.length<=1048576) {right:List Plc} (hr:right.length<=1048576) {l:List (Int×Plc)} (hl:l.length<=1048576) :
  ∃ r,zeH (set,ts,t) right k l=some r/\zgr (set,ts,t) right k l=some r/\r.1.length<=500:=by
 obtain ⟨r,p1,p2,p3⟩:=zrh (t:=t) (k:=k) hT h;unfold zeH zgr;rw [p1,p2];simp only [gp];by_cases a:r.2=0
 rotate_left
 ·rw [show decide (r.2=0)=false from decide_eq_false a];exact ⟨_,rfl,rfl,by simp⟩
 obtain ⟨v,hS,C,B,G⟩:=p3 a;rw [show decide (r.2=0)=true from decide_eq_true a];simp only [aw,aq,if_false];obtain ⟨b,A,j⟩:=znQ right (by omega);obtain ⟨u,F,x⟩:=zsn right (by omega);have g:b=u:=by rw [Bool.eq_iff_iff,j,x]
 subst g;rw [A,F];simp only [gp];cases b with
 | false=>exact ⟨_,rfl,rfl,by simp⟩
 | true=>
 simp only [aw,aq,if_false];have E:=j.1 rfl;obtain ⟨⟨m,y,t'⟩,c⟩:=r;obtain ⟨w,m1,q,s⟩:=zx4 (t:=t') hS C (l:=l) (by omega) B G;rw [m1,q];simp only [gp];by_cases f:w.2.2.2=0
 rotate_left
 ·rw [show decide (w.2.2.2=0)=false from decide_eq_false f];exact ⟨_,rfl,rfl,by simp⟩
 rw [show decide (w.2.2.2=0)=true from decide_eq_true f];simp only [aw,aq,if_false];obtain ⟨d,d1,n,p⟩:=zwh (zkS (s f).1) v;rw [d1,n];simp only [gp];obtain ⟨e,H,D,I⟩:=zwg (zkS E) p;rw [H,D];exact ⟨_,rfl,rfl,I⟩
end
theorem zpK {α:Type} (l:List α) (h:l.length<=2000000) (F:Int->Option (Int ⊕ (Unit ⊕ Bool))) (h1:∀ (i:Nat) x,l[i]?=some x->F (i:Int)=some (.inl (w64 ((i:Int)+1)))) (hs:F (l.length:Int)=some (.inr (.inl ()))):iter F 0=some (.inl ()):=by
 obtain ⟨z,c,rfl⟩:=zz (F:=F) (fun s=>∃ i:Nat,s=(i:Int)/\i<=l.length) (fun s=>((l.length:Int) - s).toNat) (fun z=>z=.inl ()) (by
  rintro _ ⟨i,rfl,hi⟩;by_cases a:i<l.length
  ·left;have b:w64 ((i:Int)+1)=((i+1:Nat):Int):=zas ⟨by omega,by omega⟩;exact ⟨_,h1 i _ (cq a),⟨i+1,b,by omega⟩,by rw [b];omega⟩
  ·right;obtain rfl:i=l.length:=by omega
   exact ⟨_,hs,rfl⟩) 0 ⟨0,rfl,Nat.zero_le _⟩
 exact c
theorem zzP (l:List Int) (h:l.length<=2000000):zjn l l=some true:=by
 unfold zjn zi1;rw [if_neg (by simp),zpK l h (zew l l) (fun i x a=>by unfold zew;rw [if_pos (by have:=zu a;simp;omega)];simp [zr a]) (by unfold zew;rw [if_neg (by simp)])];rfl
theorem zza (l:List ((List UInt8)×Int)) (h:l.length<=2000000):zkf l l=some true:=by
 unfold zkf zjR;rw [if_neg (by simp),zpK l h (zfa l l) (fun i x a=>by unfold zfa znr;rw [if_pos (by have:=zu a;simp;omega)];simp [zr a]) (by unfold zfa;rw [if_neg (by simp)])];rfl
theorem zy9 (l:List ((List UInt8)×List Int)) (h:l.length<=2000000) (hr:∀ x∈l,x.2.length<=2000000):zke l l=some true:=by
 unfold zke zjP;rw [if_neg (by simp),zpK l h (ze9 l l) (fun i x a=>by unfold ze9 znq;rw [if_pos (by have:=zu a;simp;omega)];simp [zr a,zzP x.2 (hr x (fd a))]) (by unfold ze9;rw [if_neg (by simp)])];rfl
theorem ztH (l:List Plc) (h:l.length<=2000000):zir l l=some true:=by
 unfold zir ziq;rw [if_neg (by simp),zpK l h (zdD l l) (fun i x a=>by unfold zdD zlG zeQ;rw [if_pos (by have:=zu a;simp;omega)];simp [zr a]) (by unfold zdD;rw [if_neg (by simp)])];rfl
theorem zzO (l:List (Int×(Int×Int)×Int)) (h:l.length<=2000000):zit l l=some true:=by
 unfold zit zis;rw [if_neg (by simp),zpK l h (zdE l l) (fun i x a=>by unfold zdE zlH zeQ;rw [if_pos (by have:=zu a;simp;omega)];simp [zr a]) (by unfold zdE;rw [if_neg (by simp)])];rfl
theorem zxZ (l:List (Int×Int)) (h:l.length<=2000000):zfl l l=some true:=by
 unfold zfl zi0;rw [if_neg (by simp),zpK l h (zev l l) (fun i x a=>by unfold zev zeQ;rw [if_pos (by have:=zu a;simp;omega)];simp [zr a]) (by unfold zev;rw [if_neg (by simp)])];rfl
theorem zqX {α:Type} (l:List α) (h:l.length<=2000000) (z:α) (F:List α×Int->Option ((List α×Int) ⊕ List α))
  (step:∀ (a:List α) (i:Nat) x y,l[i]?=some x->a[i]?=some y->F (a,(i:Int))=some (.inl (a.set i x,w64 ((i:Int)+1)))) (stop:∀ a,F (a,(l.length:Int))=some (.inr a)):iter F (List.replicate l.length z,0)=some l:=by
 have key:=zz (F:=F) (fun s=>∃ i:Nat,s.2=(i:Int)/\i<=l.length/\s.1.length=l.length/\∀ j,j<i->s.1[j]?=l[j]?) (fun s=>((l.length:Int) - s.2).toNat) (fun x=>x=l) ?_ (List.replicate l.length z,0) ⟨0,rfl,by omega,by simp,fun j d=>by omega⟩
 ·obtain ⟨x,g,rfl⟩:=key;exact g
 ·rintro ⟨a,s⟩ ⟨i,e,hi,hl,d⟩;simp only at e hl d;subst e;by_cases b:i<l.length
  ·left;refine ⟨_,step a i l[i] (a[i]'(by omega)) (cq b) (cq (by omega)),⟨i+1,by simp only;rw [zt (by omega) (by omega)];omega,by omega,by simp [hl],fun j c=>?_⟩,by simp only;rw [zt (by omega) (by omega)];omega⟩;simp only;by_cases f:j=i
   ·subst f;rw [dj (by omega),cq b]
   ·rw [dh (by omega)];exact d j (by omega)
  ·right;have:i=l.length:=by omega
   subst this;exact ⟨a,stop a,bq fun j=>by
    by_cases c:j<l.length
    ·exact d j c
    ·rw [cu (by omega),cu (by omega)]⟩
theorem zzJ (l:List Int) (h:l.length<=2000000):zjj l=some l:=by
 unfold zjj;rw [znj (by omega) (by omega) (by omega)];simp only [gp,bb];rw [zqX l h 0 (zeu l) (fun a i x y b c=>by unfold zeu;rw [if_pos (by have:=zu b;simp;omega)];simp [zr b,zr c]) (fun a=>by unfold zeu;rw [if_neg (by simp)])];rfl
theorem zy0 (l:List ((List UInt8)×Int)) (h:l.length<=2000000):zkd l=some l:=by
 unfold zkd;rw [znj (by omega) (by omega) (by omega)];simp only [gp,bb];rw [zqX l h (([]:List UInt8),0) (ze6 l) (fun a i x y b c=>by unfold ze6 zno;rw [if_pos (by have:=zu b;simp;omega)];simp [zr b,zr c]) (fun a=>by unfold ze6;rw [if_neg (by simp)])];rfl
theorem zyZ (l:List ((List UInt8)×List Int)) (h:l.length<=2000000) (hr:∀ x∈l,x.2.length<=2000000):zkc l=some l:=by
 unfold zkc;rw [znj (by omega) (by omega) (by omega)];simp only [gp,bb];rw [zqX l h (([]:List UInt8),[]) (ze5 l) (fun a i x y b c=>by unfold ze5 znn;rw [if_pos (by have:=zu b;simp;omega)];simp [zr b,zr c,zzJ x.2 (hr x (fd b))]) (fun a=>by unfold ze5;rw [if_neg (by simp)])];rfl
theorem ztv (l:List Plc) (h:l.length<=2000000):zil l=some l:=by
 unfold zil;rw [znj (by omega) (by omega) (by omega)];simp only [gp,bb];rw [zqX l h ((0,0),0) (zdA l) (fun a i x y b c=>by unfold zdA zlE zik;rw [if_pos (by have:=zu b;simp;omega)];simp [zr b,zr c]) (fun a=>by unfold zdA;rw [if_neg (by simp)])];rfl
theorem toMis (l:List (Int×(Int×Int)×Int)) (h:l.length<=2000000):za2 l=some l:=by
 unfold za2;rw [znj (by omega) (by omega) (by omega)];simp only [gp,bb];rw [zqX l h (0,((0,0),0)) (zdB l) (fun a i x y b c=>by unfold zdB zlF zik;rw [if_pos (by have:=zu b;simp;omega)];simp [zr b,zr c]) (fun a=>by unfold zdB;rw [if_neg (by simp)])];rfl
theorem toAsm {q:List Plc} (h:q.length<=1048576):zai q=some q:=by unfold zai;rw [ztv _ (by omega)];rfl
theorem toSys {p:Sy} (hT:Tame p.1) (h:p.2.1.length<=1048576):zbL p=some p:=by
 obtain ⟨e,d,f,c,a⟩:=hT;unfold zbL zkA zai;rw [zy0 _ (by omega),zyZ _ (by omega) (fun x b=>by have:=a x b;omega),ztv _ (by omega)];rfl
theorem zzM {p:Sy} (hT:Tame p.1) (h:p.2.1.length<=1048576):zjm p p=some true:=by
 obtain ⟨e,d,f,c,a⟩:=hT;unfold zjm zkG zdd;rw [zza _ (by omega),zy9 _ (by omega) (fun x b=>by have:=a x b;omega),ztH _ (by omega)];simp
def Mx:Nat:=9223372036854775807
def Sz (o:Option Int) (k:Int) (P:Prop):Prop:=∃ r,o=some r/\(r<0\/(0<=r/\r<=k/\P))
theorem zy1 {n:Nat} (hn:n<=Mx) {k:Int} (h0:0<=k) (h1:k<=1048576):w64 (k - (n:Int))=k - (n:Int):=zas ⟨by unfold Mx at hn;omega,by omega⟩
theorem Sz.bind {o:Option Int} {k:Int} {P Q:Prop} {f:Int->Option Int} (h:Sz o k P) (hf:∀ r,0<=r->r<=k->Sz (f r) r Q):Sz (o.bind fun r=>if decide (r<0) then some (-1) else f r) k (P/\Q):=by
 obtain ⟨r,rfl,d⟩:=h;simp only [gp];rcases d with d | ⟨h0,h1,hP⟩
 ·rw [if_pos (by simpa using d)];exact ⟨-1,rfl,.inl (by omega)⟩
 ·rw [if_neg (by simp;omega)];obtain ⟨j,e,g⟩:=hf r h0 h1;refine ⟨j,e,?_⟩;rcases g with h | ⟨a,b,c⟩
  ·exact .inl h
  ·exact .inr ⟨a,by omega,hP,c⟩
theorem Sz.fin {k:Int} (h0:0<=k):Sz (some k) k True:=⟨k,rfl,.inr ⟨h0,Int.le_refl _,trivial⟩⟩
theorem Sz.len {n:Nat} (hn:n<=Mx) {k:Int} (h0:0<=k) (h1:k<=1048576) {Q:Prop} {f:Int->Option Int} (hf:∀ r,0<=r->r<=k->n<=1048576->Sz (f r) r Q):Sz (if decide (w64 (k - (n:Int))<0) then some (-1) else f (w64 (k - (n:Int)))) k (n<=1048576/\Q):=by
 rw [zy1 hn h0 h1];by_cases h:k - (n:Int)<0
 ·rw [if_pos (by simpa using h)];exact ⟨-1,rfl,.inl (by omega)⟩
 ·rw [if_neg (by simpa using h)];obtain ⟨g,e,d⟩:=hf (k - (n:Int)) (by omega) (by omega) (by omega);refine ⟨g,e,?_⟩;rcases d with h | ⟨a,b,c⟩
  ·exact .inl h
  ·exact .inr ⟨a,by omega,by omega,c⟩
theorem zva {α:Type} (l:List α) (hl:l.length<=1048576) {k:Int} (h0:0<=k) (h1:k<=1048576) (s:α->Int->Option Int) (P:α->Prop) (hs:∀ x∈l,∀ k,0<=k->k<=1048576->Sz (s x k) k (P x)) (F:Int×Int->Option ((Int×Int) ⊕ (Int ⊕ Int)))
  (hF:∀ st,F st=if decide (st.2<(l.length:Int)) then ((idx l st.2).bind fun x=>(s x st.1).bind fun r=>if decide (r<0) then (some (.inr (.inr (-1)))) else (some (.inl (r,w64 (st.2+1))))) else (some (.inr (.inl st.1)))) :
  Sz ((iter F (k,0)).bind fun x=>match x with | .inl z=>some z | .inr z=>some z) k (∀ x∈l,P x):=by
 have key:∃ z,iter F (k,0)=some z/\match z with | .inl r=>0<=r/\r<=k/\∀ x∈l,P x | .inr r=>r<0:=by
  refine zz (F:=F) (fun st=>∃ i:Nat,st.2=(i:Int)/\i<=l.length/\0<=st.1/\st.1<=k/\∀ (j:Nat) x,j<i->l[j]?=some x->P x) (fun st=>((l.length:Int) - st.2).toNat) _ ?_ (k,0) ⟨0,rfl,by omega,h0,by simp,fun j x d=>by omega⟩;rintro ⟨b,q⟩ ⟨i,e,hi,g0,g1,g2⟩;simp only at e g0 g1;subst e;rw [hF];simp only;by_cases c:i<l.length
  ·have g:l[i]?=some l[i]:=cq c;rw [if_pos (by simp;omega)];simp only [zr g,gp];obtain ⟨r,f,n⟩:=hs _ (dt c) b g0 (by omega);rw [f];simp only [gp];rcases n with h | ⟨a1,a2,a3⟩
   ·right;rw [if_pos (by simpa using h)];exact ⟨_,rfl,by simp⟩
   ·left;rw [if_neg (by simp;omega)];refine ⟨_,rfl,⟨i+1,by simp only;rw [zt (by omega) (by omega)];omega,by omega,a1,by simp only;omega,fun j x d a=>?_⟩,by simp only;rw [zt (by omega) (by omega)];omega⟩;by_cases m:j=i
    ·subst m;rw [g] at a;injection a with a;subst a;exact a3
    ·exact g2 j x (by omega) a
  ·right;rw [if_neg (by simp;omega)];refine ⟨_,rfl,g0,g1,fun x g=>?_⟩;obtain ⟨j,d⟩:=cy g;exact g2 j x (by have:=zu d;omega) d
 obtain ⟨z,p,f⟩:=key;rw [p];cases z with
 | inl r=>exact ⟨r,rfl,.inr f⟩
 | inr r=>exact ⟨r,rfl,.inl f⟩
theorem Sz.mono {o:Option Int} {k:Int} {P Q:Prop} (h:Sz o k P) (hPQ:P->Q):Sz o k Q:=by
 obtain ⟨r,e,h | ⟨a,b,c⟩⟩:=h
 ·exact ⟨r,e,.inl h⟩
 ·exact ⟨r,e,.inr ⟨a,b,hPQ c⟩⟩
theorem zwz {l:List Plc} (hl:l.length<=Mx) {k:Int} (h0:0<=k) (h1:k<=1048576):Sz (zkD l k) k (l.length<=1048576):=
 (Sz.len hl h0 h1 (f:=fun r=>some r) (fun r a _ _=>Sz.fin a)).mono fun h=>h.1
theorem zyI {l:List (Int×(Int×Int)×Int)} (hl:l.length<=Mx) {k:Int} (h0:0<=k) (h1:k<=1048576):Sz (zfW l k) k (l.length<=1048576):=
 (Sz.len hl h0 h1 (f:=fun r=>some r) (fun r a _ _=>Sz.fin a)).mono fun h=>h.1
theorem zzK {l:List Int} (hl:l.length<=Mx) {k:Int} (h0:0<=k) (h1:k<=1048576):Sz (zjk l k) k (l.length<=1048576):=
 (Sz.len hl h0 h1 (f:=fun r=>some r) (fun r a _ _=>Sz.fin a)).mono fun h=>h.1
theorem zy3 {x:(List UInt8)×Int} (hl:x.1.length<=Mx) {k:Int} (h0:0<=k) (h1:k<=1048576):Sz (zlj x k) k (x.1.length<=1048576):=
 (Sz.len hl h0 h1 (f:=fun r=>some r) (fun r a _ _=>Sz.fin a)).mono fun h=>h.1
theorem zy2 {x:(List UInt8)×List Int} (hl:x.1.length<=Mx) (hl2:x.2.length<=Mx) {k:Int} (h0:0<=k) (h1:k<=1048576):Sz (zli x k) k (x.1.length<=1048576/\x.2.length<=1048576):=
 (Sz.len hl h0 h1 (f:=fun r=>(zjk x.2 r).bind fun c=>if decide (c<0) then (some (-1)) else (some c)) (fun r a b _=>(zzK hl2 a (by omega)).bind fun r a _=>Sz.fin a)).mono fun h=>⟨h.1,h.2.1⟩
theorem zxS {l:List ((List UInt8)×Int)} (hl:l.length<=Mx) (hx:∀ x∈l,x.1.length<=Mx) {k:Int} (h0:0<=k) (h1:k<=1048576):Sz (zmv l k) k (l.length<=1048576/\∀ x∈l,x.1.length<=1048576):=
 Sz.len hl h0 h1 (f:=fun r=>(iter (zhj l) (r,0)).bind fun c=>match c with | .inl z=>zjO z | .inr z=>some z) (fun r a b d=>zva l d a (by omega) zlj _ (fun x hm k a b=>zy3 (hx x hm) a b) (zhj l) fun st=>rfl)
theorem zxR {l:List ((List UInt8)×List Int)} (hl:l.length<=Mx) (hx:∀ x∈l,x.1.length<=Mx/\x.2.length<=Mx) {k:Int} (h0:0<=k) (h1:k<=1048576):Sz (zmu l k) k (l.length<=1048576/\∀ x∈l,x.1.length<=1048576/\x.2.length<=1048576):=
 Sz.len hl h0 h1 (f:=fun r=>(iter (zhi l) (r,0)).bind fun c=>match c with | .inl z=>zjN z | .inr z=>some z) (fun r a b d=>zva l d a (by omega) zli _ (fun x hm k a b=>zy2 (hx x hm).1 (hx x hm).2 a b) (zhi l) fun st=>rfl)
theorem zwA {l:List Plc} (hl:l.length<=Mx) {k:Int} (h0:0<=k) (h1:k<=1048576):Sz (zdc l k) k (l.length<=1048576):=
 ((zwz hl h0 h1).bind fun r a _=>Sz.fin a).mono fun h=>h.1
structure EB (p:Sy) (q:List Plc) (l:List (Int×(Int×Int)×Int)):Prop where
 g:p.1.1.length<=Mx
 gn:∀ x∈p.1.1,x.1.length<=Mx
 t:p.1.2.length<=Mx
 tn:∀ x∈p.1.2,x.1.length<=Mx/\x.2.length<=Mx
 s:p.2.1.length<=Mx
 q:q.length<=Mx
 l:l.length<=Mx
section
variable {p:Sy} {q:List Plc} {l:List (Int×(Int×Int)×Int)}
theorem zyH (h:EB p q l) {k:Int} (a:0<=k) (b:k<=1048576):Sz (zg5 p k) k (Tame p.1/\p.2.1.length<=1048576):=by
 have d:Sz (zkC p.1 k) k (Tame p.1):=
  ((zxS h.g h.gn a b).bind fun r a b=>(zxR h.t h.tn a (by omega)).bind fun r a b=>Sz.fin a).mono fun h=>⟨h.1.1,h.2.1.1,h.1.2,fun x c=>(h.2.1.2 x c).1,fun x c=>(h.2.1.2 x c).2⟩
 exact (d.bind fun r a b=>(zwA h.s a (by omega)).bind fun r a b=>Sz.fin a).mono fun h=>⟨h.1,h.2.1⟩
theorem sizes_of (h:EB p q l) {z1 z2 z3:Int} (e1:zg5 p 1048576=some z1) (n1:decide (z1<0)=false) (e2:zdc q z1=some z2) (n2:decide (z2<0)=false) (e3:zfW l z2=some z3) (n3:decide (z3<0)=false) :
  Tame p.1/\p.2.1.length<=1048576/\q.length<=1048576/\l.length<=1048576:=by
 obtain ⟨k1,c,o1⟩:=zyH h (k:=1048576) (by omega) (by omega);obtain rfl:=Option.some.inj (c.symm.trans e1);obtain ⟨e,b,g,d1⟩:=o1.resolve_left (of_decide_eq_false n1);obtain ⟨k2,a,o2⟩:=zwA h.q e b;obtain rfl:=Option.some.inj (a.symm.trans e2);obtain ⟨a2,n,c2⟩:=o2.resolve_left (of_decide_eq_false n2);obtain ⟨m,j,d⟩:=zyI h.l a2 (by omega);obtain rfl:=Option.some.inj (j.symm.trans e3);obtain ⟨r,s,f⟩:=d.resolve_left (of_decide_eq_false n3);exact ⟨g,d1,c2,f⟩
end
theorem ztZ (l:List (Int×Int)) (hl:l.length<=2000000):∃ l',ze7 l 1=some (1+2*(l.length:Int),l')/\ze8 l' 1=some (1+2*(l.length:Int)):=by
 have key:=zz (F:=zaJ) (fun s=>∃ i:Nat,s.2.2=(i:Int)/\i<=l.length/\s.2.1=1+2*(i:Int)/\s.1.length=l.length/\∀ (j:Nat) y,j<i->s.1[j]?=some y->y=(1+2*(j:Int),1+2*(j:Int)+1)) (fun s=>(l.length - s.2.2).toNat)
  (fun z=>z.2=1+2*(l.length:Int)/\z.1.length=l.length/\∀ (j:Nat) y,z.1[j]?=some y->y=(1+2*(j:Int),1+2*(j:Int)+1)) ?_ (l,1,0) ⟨0,rfl,Nat.zero_le _,rfl,rfl,fun j y t=>absurd t (Nat.not_lt_zero _)⟩
 ·obtain ⟨⟨l',v⟩,r,e,h,hm⟩:=key;simp only at e h hm;subst e;refine ⟨l',by unfold ze7 zhu;rw [r];rfl,?_⟩;have f:=zz (F:=zeP l') (fun s=>∃ i:Nat,s.2=(i:Int)/\i<=l'.length/\s.1=1+2*(i:Int)) (fun s=>(l'.length - s.2).toNat) (fun z=>z=.inl (1+2*(l'.length:Int))) ?_ (1,0) ⟨0,rfl,Nat.zero_le _,rfl⟩
  ·obtain ⟨z,r,rfl⟩:=f;unfold ze8 zhw;rw [r];simp only [gp,h]
  ·rintro ⟨q,u⟩ ⟨i,rfl,hi,rfl⟩;simp only at hi ⊢;unfold zeP;by_cases hc:i<l'.length
   ·left;have g:l'[i]?=some l'[i]:=cq hc;have a:=hm i _ g;have k:w64 (1+2*(i:Int)+1)=1+2*(i:Int)+1:=zas ⟨by omega,by omega⟩;have n:w64 (1+2*(i:Int)+1+1)=1+2*((i+1:Nat):Int):=(zas ⟨by omega,by omega⟩).trans (by omega);have p:w64 ((i:Int)+1)=((i+1:Nat):Int):=zas ⟨by omega,by omega⟩;rw [if_pos (by simp [hc])];simp only [zr g,gp,k,n,p,a,decide_true,aw,aq,if_false];exact ⟨_,rfl,⟨i+1,rfl,by omega,rfl⟩,by simp only [];omega⟩
   ·right;rw [if_neg (by simp;omega)];have:i=l'.length:=by omega
    exact ⟨_,rfl,by simp only [this]⟩
 ·rintro ⟨m,q,u⟩ ⟨i,rfl,hi,rfl,g2,g3⟩;simp only at hi g2 g3 ⊢;unfold zaJ;by_cases b:i<m.length
  ·left;have g:m[i]?=some m[i]:=cq b;have c:∀ x,(m.set i x)[i]?=some x:=fun x=>by simp [b]
   have k:w64 (1+2*(i:Int)+1)=1+2*(i:Int)+1:=zas ⟨by omega,by omega⟩;have n:w64 (1+2*(i:Int)+1+1)=1+2*((i+1:Nat):Int):=(zas ⟨by omega,by omega⟩).trans (by omega);have p:w64 ((i:Int)+1)=((i+1:Nat):Int):=zas ⟨by omega,by omega⟩;rw [if_pos (by simp [b])];simp only [zr g,zr (c _),gp,bb,k,n,p,List.set_set];refine ⟨_,rfl,⟨i+1,rfl,by omega,rfl,by simp only [ee];exact g2,fun j y t a=>?_⟩,by simp only [];omega⟩;simp only at a;by_cases d:i=j
   ·subst d;rw [c] at a;injection a with a
    rw [←a]
   ·rw [dh d] at a;exact g3 j y (by omega) a
  ·right;rw [if_neg (by simp;omega)];have:i=l.length:=by omega
   subst this;exact ⟨_,rfl,rfl,g2,fun j y a=>g3 j y (by have:=zu a;simp only at this;omega) a⟩
theorem errors_law {p:Sy} {q:List Plc} {k:Int} {l:List (Int×(Int×Int)×Int)} (h:EB p q l):zex p q k l=some true:=by
 obtain ⟨k1,f,o1⟩:=zyH h (k:=1048576) (by omega) (by omega);unfold zex;rw [f];simp only [gp];rcases o1 with o1 | ⟨a1,b1,hT,hs⟩
 ·rw [if_pos (by simpa using o1)]
 rw [if_neg (by simp;omega)];obtain ⟨k2,e,o2⟩:=zwA h.q a1 b1;rw [e];simp only [gp];rcases o2 with o2 | ⟨a2,b2,hq⟩
 ·rw [if_pos (by simpa using o2)]
 rw [if_neg (by simp;omega)];obtain ⟨B,y,a⟩:=zyI h.l a2 (by omega);rw [y];simp only [gp];rcases a with a | ⟨a3,b3,hl⟩
 ·rw [if_pos (by simpa using a)]
 rw [if_neg (by simp;omega)];obtain ⟨⟨set,ts,t⟩,c⟩:∃ x,x=p:=⟨p,rfl⟩;have u:=toSys hT hs;have j:=zzM hT hs;subst c;obtain ⟨r,n,b,A⟩:=zri (set:=set) (ts:=ts) (t:=t) (k:=k) hT hs (right:=q) hq (l:=l) hl;have s:=toAsm hq;have w:zdd q q=some true:=by unfold zdd;rw [ztH _ (by omega)];rfl
 have m1:=toMis l (by omega);have g:=zzO l (by omega);have d:=zxZ r.1 (by omega);obtain ⟨l',m,v⟩:=ztZ r.1 (by omega);simp only [u,s,m1,gp,n,b,d,zaw,j,w,g,zmN,zlk,zl6,zY,m,v,zav,decide_true,aw,aq,if_false];have:¬(1+2*(r.1.length:Int)<0):=by omega
 simp [this]
end Go.Lf
namespace Go.Lf
open Go
theorem zrs {k:Int} (h0:1<=k) (h1:k<=4398046511104):∃ t,zjl k=some t:=by
 unfold zjl ziY;rw [if_neg (by simp;omega)];have key:=zz (F:=zgz) (fun s=>0<=s.1/\s.1+s.2.length<=4398046511104) (fun s=>s.1.toNat) (fun t=>t.length<=4398046511104) ?_ (k,[]) ⟨by show 0<=k;omega,by simpa using h1⟩
 ·obtain ⟨t,d,f⟩:=key;rw [d];unfold zif;simp only [gp];rw [if_pos (by simp;omega)];exact ⟨_,rfl⟩
 ·rintro ⟨n,e⟩ ⟨h0,h1⟩;simp only at h0 h1;unfold zgz;obtain ⟨u,rfl⟩:=ba h0;by_cases b:(u:Int)>0
  ·left;have a:Int.tdiv (u:Int) 10=((u / 10:Nat):Int):=rfl;have c:w64 (((u / 10:Nat):Int))=((u / 10:Nat):Int):=zas ⟨by omega,by omega⟩;rw [if_pos (by simpa using b)];unfold zif zj7;rw [if_pos (by simp;omega)];simp only [gp,a,c];exact ⟨_,rfl,⟨by simp only [];omega,by simp;omega⟩,by simp only [bb];omega⟩
  ·right;rw [if_neg (by simpa using b)];exact ⟨_,rfl,by simp only [];omega⟩
theorem zmt {α:Type} (F:List α×Int×Int->Option ((List α×Int×Int) ⊕ (List α×Int))) (m:Nat)
  (h1:∀ (l:List α) (k:Int) (i:Nat),i<l.length->l.length<=1048576->1<=k->k+m<=4398046511104->∃ x,F (l,k,(i:Int))=some (.inl (l.set i x,k+m,((i+1:Nat):Int))))
  (h2:∀ (l:List α) (k:Int),F (l,k,(l.length:Int))=some (.inr (l,k))) (hm:m<=4) (l:List α) {k:Int} (hk:1<=k) (hk2:k<=3298534883328) (hl:l.length<=1048576) :
  ∃ l',iter F (l,k,0)=some (l',k+m*(l.length:Int))/\l'.length=l.length:=by
 have key:=zz (F:=F) (fun s=>∃ i:Nat,s.2.2=(i:Int)/\i<=l.length/\s.2.1=k+m*(i:Int)/\s.1.length=l.length) (fun s=>(l.length - s.2.2).toNat)
  (fun z=>z.2=k+m*l.length/\z.1.length=l.length) ?_ (l,k,0) ⟨0,rfl,Nat.zero_le _,by simp,rfl⟩
 ·obtain ⟨⟨l',j⟩,f,e,h⟩:=key;simp only at e h;subst e;exact ⟨l',f,h⟩
 ·rintro ⟨l1,k1,g⟩ ⟨i,rfl,hi,rfl,he⟩;simp only at he hi ⊢;have b:(m:Int)*(i:Int)<=4*(i:Int):=Int.mul_le_mul_of_nonneg_right (by omega) (by omega);have a:0<=(m:Int)*(i:Int):=Int.mul_nonneg (by omega) (by omega);by_cases hc:i<l.length
  ·left;obtain ⟨x,d⟩:=h1 l1 (k+m*(i:Int)) i (by omega) (by omega) (by omega) (by omega);refine ⟨_,d,⟨i+1,rfl,by omega,?_,by simp only [ee];exact he⟩,by simp only [];omega⟩;simp only [];have:(m:Int)*((i+1:Nat):Int)=m*(i:Int)+m:=by rw [show ((i+1:Nat):Int)=(i:Int)+1 by omega,Int.mul_add,Int.mul_one]
   omega
  ·right;have c:i=l1.length:=by omega
   subst c;refine ⟨_,h2 l1 _,by simp only [];rw [he],he⟩
theorem zta (l:List (List UInt8×Int)) (k:Int) (a:1<=k) (hk2:k<=3298534883328) (c:l.length<=1048576):∃ l',zio l k=some (k+(2:Nat)*(l.length:Int),l')/\l'.length=l.length:=by
 obtain ⟨l',h,h'⟩:=zmt zdC 2 (fun l k i hi c a m=>by
  obtain ⟨t,f⟩:=zrs (k:=k) a (by omega);have j:l[i]?=some l[i]:=cq hi;have b:∀ x,(l.set i x)[i]?=some x:=fun x=>by simp [hi]
  have d:w64 (k+1)=k+1:=zas ⟨by omega,by omega⟩;have g:w64 (k+1+1)=k+((2:Nat):Int):=(zas ⟨by omega,by omega⟩).trans (by omega);have e:w64 ((i:Int)+1)=((i+1:Nat):Int):=zas ⟨by omega,by omega⟩;unfold zdC;rw [if_pos (by simp [hi])];simp only [f,zr j,zr (b _),gp,bb,d,g,e,List.set_set];exact ⟨_,rfl⟩) (fun l k=>by unfold zdC;rw [if_neg (by simp)]) (by omega) l a hk2 c
 exact ⟨l',by unfold zio zin;rw [h];rfl,h'⟩
theorem zt0 (l:List Int) (k:Int) (a:1<=k) (hk2:k<=3298534883328) (b:l.length<=1048576):∃ l',zhk l k=some (k+(1:Nat)*(l.length:Int),l')/\l'.length=l.length:=by
 obtain ⟨l',h,h'⟩:=zmt zcU 1 (fun l k i hi b a f=>by
  have e:l[i]?=some l[i]:=cq hi;have c:w64 (k+1)=k+1:=zas ⟨by omega,by omega⟩;have d:w64 ((i:Int)+1)=((i+1:Nat):Int):=zas ⟨by omega,by omega⟩;unfold zcU;rw [if_pos (by simp [hi])];simp only [zr e,gp,bb,c,d];exact ⟨_,rfl⟩) (fun l k=>by unfold zcU;rw [if_neg (by simp)]) (by omega) l a hk2 b
 exact ⟨l',by unfold zhk zhv;rw [h];rfl,h'⟩
theorem zr5 (l:List ((Int×Int)×Int)) (k:Int) (b:1<=k) (hk2:k<=3298534883328) (c:l.length<=1048576):∃ l',zgA l k=some (k+(3:Nat)*(l.length:Int),l')/\l'.length=l.length:=by
 obtain ⟨l',h,h'⟩:=zmt zcm 3 (fun l k i hi c b m=>by
  have j:l[i]?=some l[i]:=cq hi;have a:∀ x,(l.set i x)[i]?=some x:=fun x=>by simp [hi]
  have d:w64 (k+1)=k+1:=zas ⟨by omega,by omega⟩;have g:w64 (k+1+1)=k+1+1:=zas ⟨by omega,by omega⟩;have f:w64 (k+1+1+1)=k+((3:Nat):Int):=(zas ⟨by omega,by omega⟩).trans (by omega);have e:w64 ((i:Int)+1)=((i+1:Nat):Int):=zas ⟨by omega,by omega⟩;unfold zcm;rw [if_pos (by simp [hi])];simp only [zr j,zr (a _),gp,bb,d,g,e,f,List.set_set];exact ⟨_,rfl⟩) (fun l k=>by unfold zcm;rw [if_neg (by simp)]) (by omega) l b hk2 c
 exact ⟨l',by unfold zgA zgQ;rw [h];rfl,h'⟩
theorem zrr (l:List (Int×(Int×Int)×Int)) (k:Int) (b:1<=k) (hk2:k<=3298534883328) (c:l.length<=1048576):∃ l',zfC l k=some (k+(4:Nat)*(l.length:Int),l')/\l'.length=l.length:=by
 obtain ⟨l',h,h'⟩:=zmt zbU 4 (fun l k i hi c b n=>by
  have m:l[i]?=some l[i]:=cq hi;have a:∀ x,(l.set i x)[i]?=some x:=fun x=>by simp [hi]
  have e:w64 (k+1)=k+1:=zas ⟨by omega,by omega⟩;have j:w64 (k+1+1)=k+1+1:=zas ⟨by omega,by omega⟩;have g:w64 (k+1+1+1)=k+1+1+1:=zas ⟨by omega,by omega⟩;have d:w64 (k+1+1+1+1)=k+((4:Nat):Int):=(zas ⟨by omega,by omega⟩).trans (by omega);have f:w64 ((i:Int)+1)=((i+1:Nat):Int):=zas ⟨by omega,by omega⟩;unfold zbU;rw [if_pos (by simp [hi])];simp only [zr m,zr (a _),gp,bb,e,j,f,g,d,List.set_set];exact ⟨_,rfl⟩) (fun l k=>by unfold zbU;rw [if_neg (by simp)]) (by omega) l b hk2 c
 exact ⟨l',by unfold zfC zfX;rw [h];rfl,h'⟩
end Go.Lf
