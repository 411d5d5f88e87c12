import Derived.Test.YtfbcemhoeecepaaGreatDoorI
import Derived.Test.YtfbcemhoeecepaaGreatDoorC
import Derived.Test.YtfbcemhoeecepaaGreatDoorH
set_option linter.all false
namespace Go.Lf
open Go
def lp (a b:Pt):Bool:=decide (a.2<b.2)||(decide (a.2=b.2)&&decide (a.1<b.1))
theorem zp0 {a b:Pt}:lp a b=true↔a.2<b.2\/(a.2=b.2/\a.1<b.1):=by unfold lp;simp
theorem ztR {a b:Pt}:lp a b=false↔b.2<a.2\/(a.2=b.2/\b.1<=a.1):=by unfold lp;simp;omega
theorem zjF {a b c:Pt} (h1:lp a b=true) (h2:lp b c=true):lp a c=true:=by
 rw [zp0] at *;omega
theorem znT {a b:Pt} (h:lp a b=true):a≠b:=by
 rw [zp0] at h;intro e;subst e;omega
theorem zqz {a b:Pt} (h1:a.1=b.1) (h2:a.2=b.2):a=b:=Prod.ext h1 h2
theorem zpb {a b:Pt} (h1:lp a b=false) (h2:a≠b):lp b a=true:=by
 rw [ztR] at h1;rw [zp0]
 rcases Int.lt_trichotomy a.1 b.1 with h | h | h
 ·omega
 ·rcases h1 with h3 | h3
  ·exact .inl h3
  ·exact absurd (zqz h h3.1) h2
 ·omega
theorem zik (a b:Pt):zc0 a b=some (lp a b):=by
 unfold zc0 lp
 by_cases h1:a.2<b.2<;>by_cases h2:a.2=b.2<;>simp [h1,h2]
def zqg (a b:Pt):Int:=if a.2<b.2 then -1 else if b.2<a.2 then 1 else if a.1<b.1 then -1 else if b.1<a.1 then 1 else 0
theorem zph (a b:Pt):zaF a b=some (zqg a b):=by
 unfold zaF
 rw [zlx,zlx]
 simp only [Option.bind_some,zqA]
 congr 1
 unfold zqg
 repeat' split
 all_goals first | rfl | omega
theorem znn {a b:Pt}:decide (zqg a b<0)=lp a b:=by
 unfold zqg lp
 by_cases h1:a.2<b.2
 ·simp [h1]
 ·by_cases h2:b.2<a.2
  ·simp [h1,h2];omega
  ·have h3:a.2=b.2:=by omega
   by_cases h4:a.1<b.1
   ·simp [h3,h4]
   ·by_cases h5:b.1<a.1
    ·simp [h3,h4,h5]
    ·simp [h3,h4,h5]
theorem zn0 {a b:Pt}:zqg a b=0↔a=b:=by
 unfold zqg
 constructor
 ·intro h
  apply zqz<;>(repeat' split at h)<;>omega
 ·intro h;subst h;simp
theorem znU (a b:Pt):zgb a b=some (lp a b):=by
 unfold zgb
 rw [zph]
 simp only [Option.bind_some]
 rw [znn]
def ptB (p:Pt):Bool:=decide (-60<=p.1/\p.1<=60)&&decide (-60<=p.2/\p.2<=60)
theorem zsW {p:Pt}:ptB p=true ↔ -60<=p.1/\p.1<=60 /\ -60<=p.2/\p.2<=60:=by
 unfold ptB;simp;omega
theorem zkP (p:Pt):zdA p=some (ptB p):=by
 unfold zdA ptB
 simp only [zdD,Option.bind_some]
 by_cases h : -60<=p.1/\p.1<=60
 ·simp [h]
 ·simp only [h,decide_false,Bool.false_and];rfl
theorem zks (p:Pt):zeX p=some (ptB p):=by
 unfold zeX ptB
 simp only [zf6,Option.bind_some]
 by_cases h : -60<=p.1/\p.1<=60
 ·simp [h]
 ·simp only [h,decide_false,Bool.false_and];rfl
def zsC (ts:List Plc) (i:Nat):Prop:=∀ x,ts[i]?=some x->ptB x.1=true/\0<=x.2/\x.2<=159/\∀ y,1<=i->ts[i - 1]?=some y->lp y.1 x.1=true
def FormOk (ts:List Plc):Prop:=ts.length<=500/\∀ i,i<ts.length->zsC ts i
theorem zrg (ts:List Plc) (h:ts.length<=1000000):∃ b,zhs ts=some b/\(b=true↔FormOk ts):=by
 unfold zhs zha
 have key:=zeH (fun i=>(i:Int)) 0 ts.length (zsC ts) (zaW ts) (by omega) ?_ ?_ ?_
 ·rcases key with ⟨hz,hall⟩ | ⟨hz,hnot⟩
  ·have hz:iter (zaW ts) 0=some (.inl ()):=hz
   rw [hz]
   refine ⟨_,rfl,?_⟩
   simp only [decide_eq_true_eq]
   exact ⟨fun hl=>⟨by omega,fun i hi=>hall i (by omega) hi⟩,fun hf=>by have:=hf.1;omega⟩
  ·have hz:iter (zaW ts) 0=some (.inr false):=hz
   rw [hz]
   exact ⟨false,rfl,fun h=>(by cases h),fun hf=>absurd (fun i _ hi=>hf.2 i hi) hnot⟩
 ·intro i _ hi _ hok
  have hx:ts[i]?=some ts[i]:=List.getElem?_eq_getElem hi
  obtain ⟨o1,o2,o3,o4⟩:=hok _ hx
  have hw:w64 ((i:Int)+1)=((i+1:Nat):Int):=by rw [zp (by omega) (by omega)];omega
  have hw1:w64 ((160:Int) - 1)=159:=zp (by omega) (by omega)
  unfold zaW zbA zeD
  rw [if_pos (by simp [hi])]
  simp only [zu hx,Option.bind_some,zkP,o1,hw1,zdD]
  rw [if_neg (by simp),if_neg (by simp;omega)]
  by_cases h0:(i:Int)>0
  ·have hy:ts[i - 1]?=some (ts[i - 1]'(by omega)):=List.getElem?_eq_getElem (by omega)
   have hw2:w64 ((i:Int) - 1)=((i - 1:Nat):Int):=by rw [zp (by omega) (by omega)];omega
   rw [if_pos (by simpa using h0)]
   simp only [hw2,zu hy,Option.bind_some,znU,o4 _ (by omega) hy,hw]
   rfl
  ·rw [if_neg (by simpa using h0)]
   simp [hw]
 ·intro i _ hi _ hok
  have hx:ts[i]?=some ts[i]:=List.getElem?_eq_getElem hi
  have hw1:w64 ((160:Int) - 1)=159:=zp (by omega) (by omega)
  unfold zaW zbA zeD
  rw [if_pos (by simp [hi])]
  simp only [zu hx,Option.bind_some,zkP,hw1,zdD]
  cases hp:ptB ts[i].1 with
  | false=>simp
  | true=>
   rw [if_neg (by simp)]
   by_cases h1:0<=ts[i].2/\ts[i].2<=159
   ·rw [if_neg (by simp [h1])]
    by_cases h0:(i:Int)>0
    ·have hy:ts[i - 1]?=some (ts[i - 1]'(by omega)):=List.getElem?_eq_getElem (by omega)
     have hw2:w64 ((i:Int) - 1)=((i - 1:Nat):Int):=by rw [zp (by omega) (by omega)];omega
     rw [if_pos (by simpa using h0)]
     simp only [hw2,zu hy,Option.bind_some,znU]
     cases hl:lp (ts[i - 1]'(by omega)).1 ts[i].1 with
     | false=>simp
     | true=>
      refine absurd (fun x hx'=>?_) hok
      rw [hx] at hx';injection hx' with hx';subst hx'
      exact ⟨hp,h1.1,h1.2,fun y _ hy'=>by rw [hy] at hy';injection hy' with hy';subst hy';exact hl⟩
    ·refine absurd (fun x hx'=>?_) hok
     rw [hx] at hx';injection hx' with hx';subst hx'
     exact ⟨hp,h1.1,h1.2,fun y h2 _=>by omega⟩
   ·rw [if_pos (by simp only [h1,decide_false];rfl)];simp
 ·intro _
  unfold zaW
  rw [if_neg (by simp)]
theorem zqS (ts:List Plc) (h:ts.length<=1000000):∃ b,zhi ts=some b/\(b=true↔FormOk ts):=by
 unfold zhi zg2
 by_cases hl:ts.length>500
 ·rw [if_pos (by simp;omega)]
  exact ⟨false,rfl,fun h=>(by cases h),fun hf=>by have:=hf.1;omega⟩
 rw [if_neg (by simp;omega)]
 have key:=zeH (fun i=>(i:Int)) 0 ts.length (zsC ts) (zaU ts) (by omega) ?_ ?_ ?_
 ·rcases key with ⟨hz,hall⟩ | ⟨hz,hnot⟩
  ·have hz:iter (zaU ts) 0=some (.inl ()):=hz
   rw [hz]
   exact ⟨true,rfl,fun _=>⟨by omega,fun i hi=>hall i (by omega) hi⟩,fun _=>rfl⟩
  ·have hz:iter (zaU ts) 0=some (.inr false):=hz
   rw [hz]
   exact ⟨false,rfl,fun h=>(by cases h),fun hf=>absurd (fun i _ hi=>hf.2 i hi) hnot⟩
 ·intro i _ hi _ hok
  have hx:ts[i]?=some ts[i]:=List.getElem?_eq_getElem hi
  obtain ⟨o1,o2,o3,o4⟩:=hok _ hx
  have hw:w64 ((i:Int)+1)=((i+1:Nat):Int):=by rw [zp (by omega) (by omega)];omega
  unfold zaU zby
  rw [if_pos (by simp [hi])]
  simp only [zu hx,Option.bind_some,zks,o1,zf6]
  rw [if_neg (by simp),if_neg (by simp;omega)]
  by_cases h0:(i:Int)>0
  ·have hy:ts[i - 1]?=some (ts[i - 1]'(by omega)):=List.getElem?_eq_getElem (by omega)
   have hw2:w64 ((i:Int) - 1)=((i - 1:Nat):Int):=by rw [zp (by omega) (by omega)];omega
   rw [if_pos (by simpa using h0)]
   simp only [hw2,zu hy,Option.bind_some,zik,o4 _ (by omega) hy,hw]
   rfl
  ·rw [if_neg (by simpa using h0)]
   simp [hw]
 ·intro i _ hi _ hok
  have hx:ts[i]?=some ts[i]:=List.getElem?_eq_getElem hi
  unfold zaU zby
  rw [if_pos (by simp [hi])]
  simp only [zu hx,Option.bind_some,zks,zf6]
  cases hp:ptB ts[i].1 with
  | false=>simp
  | true=>
   rw [if_neg (by simp)]
   by_cases h1:0<=ts[i].2/\ts[i].2<=159
   ·rw [if_neg (by simp [h1])]
    by_cases h0:(i:Int)>0
    ·have hy:ts[i - 1]?=some (ts[i - 1]'(by omega)):=List.getElem?_eq_getElem (by omega)
     have hw2:w64 ((i:Int) - 1)=((i - 1:Nat):Int):=by rw [zp (by omega) (by omega)];omega
     rw [if_pos (by simpa using h0)]
     simp only [hw2,zu hy,Option.bind_some,zik]
     cases hl:lp (ts[i - 1]'(by omega)).1 ts[i].1 with
     | false=>simp
     | true=>
      refine absurd (fun x hx'=>?_) hok
      rw [hx] at hx';injection hx' with hx';subst hx'
      exact ⟨hp,h1.1,h1.2,fun y _ hy'=>by rw [hy] at hy';injection hy' with hy';subst hy';exact hl⟩
    ·refine absurd (fun x hx'=>?_) hok
     rw [hx] at hx';injection hx' with hx';subst hx'
     exact ⟨hp,h1.1,h1.2,fun y h2 _=>by omega⟩
   ·rw [if_pos (by simp only [h1,decide_false];rfl)];simp
 ·intro _
  unfold zaU
  rw [if_neg (by simp)]
def znr (set:TSet) (ts:List Plc):Prop:=FormOk ts/\∀ x∈ts,0<=x.2/\x.2<=(set.2.length:Int) - 1
theorem zlT (set:TSet) (h:set.2.length<=100000) (k:Int):zcR set k=some (decide (0<=k/\k<=(set.2.length:Int) - 1))/\zgG set k=some (decide (0<=k/\k<=(set.2.length:Int) - 1)):=by
 have hw:w64 ((set.2.length:Int) - 1)=(set.2.length:Int) - 1:=zp (by omega) (by omega)
 constructor
 ·unfold zcR zeD
  simp only [hw,zdD,Option.bind_some]
 ·unfold zgG
  simp only [hw,zf6,Option.bind_some]
theorem znt (set:TSet) (hT:Tame set) (ts:List Plc) (h:ts.length<=1000000):∃ b,zds set ts=some b/\(b=true↔SetOk set/\znr set ts):=by
 obtain ⟨a,h1,_,h2⟩:=zl7 set hT
 obtain ⟨f,h3,h4⟩:=zrg ts h
 unfold zds
 simp only [h1,Option.bind_some]
 cases a with
 | false=>exact ⟨false,rfl,fun h=>(by cases h),fun h=>h2.2 h.1⟩
 | true=>
  rw [if_pos rfl]
  simp only [h3,Option.bind_some]
  cases f with
  | false=>exact ⟨false,rfl,fun h=>(by cases h),fun h=>h4.2 h.2.1⟩
  | true=>
   rw [if_pos rfl]
   unfold zag zcz zbs
   have hp:∀ b∈ts,(fun q0=>zax q0 set) b=some (!decide (0<=b.2/\b.2<=(set.2.length:Int) - 1)):=by
    intro b _
    simp only [zax,(zlT set hT.t b.2).1,Option.bind_some]
   rcases ziA ts h (fun q0=>zax q0 set) (fun b=>!decide (0<=b.2/\b.2<=(set.2.length:Int) - 1)) hp (zbr ts fun q0=>zax q0 set) (fun i=>rfl) with ⟨hz,hall⟩ | ⟨k,hz,hk,_,b,hb,hq⟩
   ·rw [hz]
    refine ⟨true,rfl,fun _=>⟨h2.1 rfl,h4.1 rfl,fun x hx=>?_⟩,fun _=>rfl⟩
    have:=hall x hx;simpa using this
   ·rw [hz]
    refine ⟨false,?_,fun h=>(by cases h),fun hh=>?_⟩
    ·simp
    ·have:=hh.2.2 b (List.mem_of_getElem? hb)
     simp at hq
     omega
theorem zrL (set:TSet) (hT:Tame set) (ts:List Plc) (h:ts.length<=1000000):∃ b,ziI set ts=some b/\(b=true↔znr set ts):=by
 obtain ⟨f,h3,h4⟩:=zqS ts h
 unfold ziI zh6
 simp only [h3,Option.bind_some]
 cases f with
 | false=>exact ⟨false,rfl,fun h=>(by cases h),fun h=>h4.2 h.1⟩
 | true=>
  rw [if_neg (by simp)]
  have key:=zeH (fun i=>(i:Int)) 0 ts.length (fun i=>∀ x,ts[i]?=some x->0<=x.2/\x.2<=(set.2.length:Int) - 1) (zbT set ts) (by omega) ?_ ?_ ?_
  ·rcases key with ⟨hz,hall⟩ | ⟨hz,hnot⟩
   ·have hz:iter (zbT set ts) 0=some (.inl ()):=hz
    rw [hz]
    refine ⟨true,rfl,fun _=>⟨h4.1 rfl,fun x hx=>?_⟩,fun _=>rfl⟩
    obtain ⟨i,hi⟩:=List.getElem?_of_mem hx
    exact hall i (by omega) (zy hi) x hi
   ·have hz:iter (zbT set ts) 0=some (.inr false):=hz
    rw [hz]
    exact ⟨false,rfl,fun h=>(by cases h),fun hf=>absurd (fun i _ hi x hx=>hf.2 x (List.mem_of_getElem? hx)) hnot⟩
  ·intro i _ hi _ hok
   have hx:ts[i]?=some ts[i]:=List.getElem?_eq_getElem hi
   have hw:w64 ((i:Int)+1)=((i+1:Nat):Int):=by rw [zp (by omega) (by omega)];omega
   unfold zbT
   rw [if_pos (by simp [hi])]
   simp only [zu hx,Option.bind_some,(zlT set hT.t _).2,hw]
   rw [if_neg (by simp only [hok _ hx];simp)]
  ·intro i _ hi _ hok
   have hx:ts[i]?=some ts[i]:=List.getElem?_eq_getElem hi
   unfold zbT
   rw [if_pos (by simp [hi])]
   simp only [zu hx,Option.bind_some,(zlT set hT.t _).2]
   have:¬(0<=ts[i].2/\ts[i].2<=(set.2.length:Int) - 1):=fun hh=>hok fun x hx'=>by rw [hx] at hx';injection hx' with hx';subst hx';exact hh
   rw [if_pos (by simp only [this,decide_false];rfl)]
  ·intro _
   unfold zbT
   rw [if_neg (by simp)]
def Srt (ts:List Plc):Prop:=∀ (i j:Nat) (x y:Plc),i<j->ts[i]?=some x->ts[j]?=some y->lp x.1 y.1=true
theorem FormOk.srt {ts:List Plc} (h:FormOk ts):Srt ts:=by
 intro i j
 induction j with
 | zero=>intro x y hij;omega
 | succ j ih=>
  intro x y hij hx hy
  have hj:=zy hy
  have hz:ts[j]?=some (ts[j]'(by omega)):=List.getElem?_eq_getElem (by omega)
  have h1:=(h.2 (j+1) hj y hy).2.2.2 _ (by omega) hz
  by_cases hij2:i=j
  ·subst hij2
   rw [hz] at hx;injection hx with hx;subst hx;exact h1
  ·exact zjF (ih x _ (by omega) hx hz) h1
def AtP (ts:List Plc) (p:Pt) (k:Int):Prop:=(0<=k/\∃ x,ts[k.toNat]?=some x/\x.1=p)\/(k = -1/\∀ x∈ts,x.1≠p)
theorem AtP.uniq {ts:List Plc} (hs:Srt ts) {p:Pt} {k k':Int} (h:AtP ts p k) (h':AtP ts p k'):k=k':=by
 rcases h with ⟨h0,x,hx,e⟩ | ⟨h0,h1⟩<;>rcases h' with ⟨h2,y,hy,e'⟩ | ⟨h2,h3⟩
 ·rcases Nat.lt_trichotomy k.toNat k'.toNat with h | h | h
  ·exact absurd (e.trans e'.symm) (znT (hs _ _ _ _ h hx hy))
  ·omega
  ·exact absurd (e'.trans e.symm) (znT (hs _ _ _ _ h hy hx))
 ·exact absurd e (h3 x (List.mem_of_getElem? hx))
 ·exact absurd e' (h1 y (List.mem_of_getElem? hy))
 ·omega
theorem zsz {ts:List Plc} (hs:Srt ts) (hl:ts.length<=100000) {p:Pt} {F:Int×Int->Option ((Int×Int) ⊕ Int)}
  (hF:∀ (lo hi:Nat) (x:Plc),lo<hi->hi<=ts.length->ts[(lo+hi) / 2]?=some x->F ((lo:Int),(hi:Int))=some (.inl (if lp x.1 p then ((((lo+hi) / 2+1:Nat):Int),(hi:Int)) else ((lo:Int),(((lo+hi) / 2:Nat):Int)))))
  (hstop:∀ (lo:Int),F (lo,lo)=some (.inr lo)) :
  ∃ k:Nat,iter F (0,(ts.length:Int))=some (k:Int)/\k<=ts.length/\(∀ (i:Nat) x,i<k->ts[i]?=some x->lp x.1 p=true)/\∀ (i:Nat) x,k<=i->ts[i]?=some x->lp x.1 p=false:=by
 have key:=zw (F:=F) (fun s=>∃ lo hi:Nat,s=((lo:Int),(hi:Int))/\lo<=hi/\hi<=ts.length/\(∀ (i:Nat) x,i<lo->ts[i]?=some x->lp x.1 p=true)/\∀ (i:Nat) x,hi<=i->ts[i]?=some x->lp x.1 p=false)
  (fun s=>(s.2 - s.1).toNat) (fun z=>∃ k:Nat,z=(k:Int)/\k<=ts.length/\(∀ (i:Nat) x,i<k->ts[i]?=some x->lp x.1 p=true)/\∀ (i:Nat) x,k<=i->ts[i]?=some x->lp x.1 p=false) ?_ (0,(ts.length:Int))
  ⟨0,ts.length,rfl,by omega,Nat.le_refl _,fun i x hi=>by omega,fun i x hi hx=>by have:=zy hx;omega⟩
 ·obtain ⟨z,hz,k,rfl,h⟩:=key
  exact ⟨k,hz,h⟩
 ·rintro s ⟨lo,hi,rfl,h1,h2,h3,h4⟩
  by_cases hlt:lo<hi
  ·left
   have hx:ts[(lo+hi) / 2]?=some (ts[(lo+hi) / 2]'(by omega)):=List.getElem?_eq_getElem (by omega)
   refine ⟨_,hF lo hi _ hlt h2 hx,?_⟩
   cases hc:lp (ts[(lo+hi) / 2]'(by omega)).1 p with
   | true=>
    rw [if_pos rfl]
    refine ⟨⟨(lo+hi) / 2+1,hi,rfl,by omega,h2,fun i x hi' hx'=>?_,h4⟩,by simp only [];omega⟩
    rcases Nat.lt_or_ge i ((lo+hi) / 2) with h | h
    ·exact zjF (hs _ _ _ _ h hx' hx) hc
    ·have:i=(lo+hi) / 2:=by omega
     subst this
     rw [hx] at hx';injection hx' with hx';subst hx';exact hc
   | false=>
    rw [if_neg (by simp)]
    refine ⟨⟨lo,(lo+hi) / 2,rfl,by omega,by omega,h3,fun i x hi' hx'=>?_⟩,by simp only [];omega⟩
    rcases Nat.lt_or_ge ((lo+hi) / 2) i with h | h
    ·have h5:=hs _ _ _ _ h hx hx'
     cases hc2:lp x.1 p with
     | false=>rfl
     | true=>rw [zjF h5 hc2] at hc;cases hc
    ·have:i=(lo+hi) / 2:=by omega
     subst this
     rw [hx] at hx';injection hx' with hx';subst hx';exact hc
  ·right
   have:lo=hi:=by omega
   subst this
   exact ⟨_,hstop _,lo,rfl,h2,h3,h4⟩
theorem zoy {ts:List Plc} (hs:Srt ts) {p:Pt} {k:Nat} (h1:∀ (i:Nat) x,i<k->ts[i]?=some x->lp x.1 p=true) (h2:∀ (i:Nat) x,k<=i->ts[i]?=some x->lp x.1 p=false)
  (h:∀ x,ts[k]?=some x->x.1≠p):∀ x∈ts,x.1≠p:=by
 intro x hx e
 obtain ⟨i,hi⟩:=List.getElem?_of_mem hx
 rcases Nat.lt_trichotomy i k with hik | hik | hik
 ·exact znT (h1 i x hik hi) e
 ·subst hik;exact h x hi e
 ·have hk:ts[k]?=some (ts[k]'(by have:=zy hi;omega)):=List.getElem?_eq_getElem (by have:=zy hi;omega)
  have h3:=hs _ _ _ _ hik hk hi
  rw [e] at h3
  rw [h2 k _ (Nat.le_refl _) hk] at h3
  cases h3
theorem zmS {ts:List Plc} (hs:Srt ts) (hl:ts.length<=100000) (p:Pt):∃ k,zeV ts p=some k/\AtP ts p k:=by
 have key:=zsz hs hl (p:=p) (F:=zcY ts p) ?_ ?_
 ·obtain ⟨k,hz,hk,h1,h2⟩:=key
  unfold zeV zgm zev
  simp only [hz,Option.bind_some]
  by_cases hlt:k<ts.length
  ·have hx:ts[k]?=some ts[k]:=List.getElem?_eq_getElem hlt
   rw [if_pos (by simp [hlt])]
   simp only [zu hx,Option.bind_some]
   by_cases he:ts[k].1=p
   ·rw [if_pos (by simp [he])]
    exact ⟨_,rfl,.inl ⟨by omega,_,by simpa using hx,he⟩⟩
   ·rw [if_neg (by simp;intro e1 e2;exact he (zqz e1 e2))]
    exact ⟨_,rfl,.inr ⟨rfl,zoy hs h1 h2 fun x hx'=>by rw [hx] at hx';injection hx' with hx';subst hx';exact he⟩⟩
  ·rw [if_neg (by simp;omega)]
   refine ⟨_,rfl,.inr ⟨rfl,zoy hs h1 h2 fun x hx'=>by have:=zy hx';omega⟩⟩
 ·intro lo hi x hlt hle hx
  unfold zcY
  have e1:w64 ((lo:Int)+(hi:Int))=((lo+hi:Nat):Int):=by rw [zp (by omega) (by omega)];omega
  have e2:Int.tdiv ((lo+hi:Nat):Int) 2=(((lo+hi) / 2:Nat):Int):=rfl
  have e3:w64 (((lo+hi) / 2:Nat):Int)=(((lo+hi) / 2:Nat):Int):=zp (by omega) (by omega)
  have e4:w64 ((((lo+hi) / 2:Nat):Int)+1)=(((lo+hi) / 2+1:Nat):Int):=by rw [zp (by omega) (by omega)];omega
  rw [if_pos (by simp [hlt])]
  simp only [e1,e2,e3,e4,zu hx,Option.bind_some,zik]
  cases lp x.1 p<;>rfl
 ·intro lo
  unfold zcY
  rw [if_neg (by simp)]
theorem zok {ts:List Plc} (hs:Srt ts) (hl:ts.length<=100000) (p:Pt):∃ k,zcc ts p=some k/\AtP ts p k:=by
 have hc:∀ x:Plc,zb6 x p=some (zqg x.1 p):=fun x=>by unfold zb6;rw [zph];rfl
 have key:=zsz hs hl (p:=p) (F:=zZ ts p fun q0 q1=>zb6 q0 q1) ?_ ?_
 ·obtain ⟨k,hz,hk,h1,h2⟩:=key
  unfold zcc zbO za3
  simp only [hz,Option.bind_some]
  by_cases hlt:k<ts.length
  ·have hx:ts[k]?=some ts[k]:=List.getElem?_eq_getElem hlt
   rw [if_pos (by simp [hlt])]
   simp only [zu hx,Option.bind_some,hc]
   by_cases he:ts[k].1=p
   ·rw [if_pos (by simp [zn0,he])]
    exact ⟨_,rfl,.inl ⟨by omega,_,by simpa using hx,he⟩⟩
   ·rw [if_neg (by simp [zn0,he])]
    exact ⟨_,rfl,.inr ⟨rfl,zoy hs h1 h2 fun x hx'=>by rw [hx] at hx';injection hx' with hx';subst hx';exact he⟩⟩
  ·rw [if_neg (by simp;omega)]
   refine ⟨_,rfl,.inr ⟨rfl,zoy hs h1 h2 fun x hx'=>by have:=zy hx';omega⟩⟩
 ·intro lo hi x hlt hle hx
  unfold zZ
  have e1:w64 ((lo:Int)+(hi:Int))=((lo+hi:Nat):Int):=by rw [zp (by omega) (by omega)];omega
  have e0:IntKind.wrap .u64 ((lo+hi:Nat):Int)=((lo+hi:Nat):Int):=by
   show ((lo+hi:Nat):Int) % 18446744073709551616=((lo+hi:Nat):Int)
   omega
  have e2:Int.fdiv ((lo+hi:Nat):Int) (2 ^ 1)=(((lo+hi) / 2:Nat):Int):=by
   rw [Int.fdiv_eq_ediv_of_nonneg _ (by omega)];omega
  have e3:w64 (((lo+hi) / 2:Nat):Int)=(((lo+hi) / 2:Nat):Int):=zp (by omega) (by omega)
  have e4:w64 ((((lo+hi) / 2:Nat):Int)+1)=(((lo+hi) / 2+1:Nat):Int):=by rw [zp (by omega) (by omega)];omega
  rw [if_pos (by simp [hlt])]
  simp only [e1,e0,e2,e3,e4,zu hx,Option.bind_some,hc,znn]
  cases lp x.1 p<;>rfl
 ·intro lo
  unfold zZ
  rw [if_neg (by simp)]
def zko (p:Pt) (dir:Int):Pt:=if dir=0 then (p.1,p.2+1) else (p.1+1,p.2)
theorem zsN {p:Pt} (hp:ptB p=true) {dir:Int} (hd:dir=0\/dir=1):zfS p dir=some (zko p dir)/\zdB p dir=some (zko p dir):=by
 obtain ⟨h1,h2,h3,h4⟩:=zsW.1 hp
 have w0:∀ n:Int,-60<=n->n<=60->w64 (n+1)=n+1/\w64 (n+0)=n:=fun n a b=>⟨zp (by omega) (by omega),by rw [Int.add_zero];exact zp (by omega) (by omega)⟩
 rcases hd with rfl | rfl
 ·refine ⟨?_,?_⟩
  ·unfold zfS zaV zko
   simp [(w0 p.2 h3 h4).1]
  ·unfold zdB zfh zko idx
   simp [(w0 p.2 h3 h4).1,zp (n:=p.1) (by omega) (by omega)]
 ·refine ⟨?_,?_⟩
  ·unfold zfS zaV zko
   simp [(w0 p.1 h1 h2).1]
  ·unfold zdB zfh zko idx
   simp [(w0 p.1 h1 h2).1,zp (n:=p.2) (by omega) (by omega)]
theorem ztn {set:TSet} (h:SetOk set) {a b dir:Int} (ha0:0<=a) (ha:a<=(set.2.length:Int) - 1) (hb0:0<=b) (hb:b<=(set.2.length:Int) - 1) (hd:dir=0\/dir=1) :
  ∃ v,zhj set a dir b=some v/\zd0 set a dir b=some v/\0<=v/\v<=4:=by
 obtain ⟨x,hx,hxx⟩:=zae (l:=set.2) ha0 (by omega)
 obtain ⟨y,hy,hyy⟩:=zae (l:=set.2) hb0 (by omega)
 obtain ⟨_,x4,_,xs⟩:=h.tile _ (zy hxx) x hxx
 obtain ⟨_,y4,_,ys⟩:=h.tile _ (zy hyy) y hyy
 obtain ⟨g,hg,hgg⟩:=zae (l:=x.2) (i:=dir) (by omega) (by omega)
 obtain ⟨g',hg',hgg'⟩:=zae (l:=y.2) (i:=dir+2) (by omega) (by omega)
 have hgr:=xs g (List.mem_of_getElem? hgg)
 have hop:zh9 dir=some (dir+2)/\zid dir=some (dir+2):=by
  rcases hd with rfl | rfl
  ·exact ⟨rfl,rfl⟩
  ·exact ⟨rfl,rfl⟩
 have hst:∃ v,zew set g=some v/\zcb set a dir=some v/\0<=v/\v<=4:=by
  unfold zew zcb
  simp only [hx,hg,Option.bind_some]
  have hl:=h.glues
  by_cases h0:g=0
  ·subst h0
   exact ⟨0,rfl,rfl,by omega,by omega⟩
  ·rw [if_neg (by simpa using h0),if_pos (by simp;omega)]
   have hw:w64 (g - 1)=g - 1:=zp (by omega) (by omega)
   obtain ⟨u,hu,huu⟩:=zae (l:=set.1) (i:=g - 1) (by omega) (by omega)
   obtain ⟨_,u1,u2,_⟩:=h.glue _ (zy huu) u huu
   simp only [hw,hu,Option.bind_some]
   exact ⟨_,rfl,rfl,by omega,by omega⟩
 obtain ⟨v,hv1,hv2,v0,v4⟩:=hst
 unfold zhj zd0
 simp only [hx,hy,hg,hop.1,hop.2,hg',hv1,hv2,Option.bind_some]
 by_cases he:g=g'
 ·rw [if_neg (by simp [he]),if_pos (by simp [he])]
  exact ⟨v,rfl,rfl,v0,v4⟩
 ·rw [if_pos (by simp [he]),if_neg (by simp [he])]
  exact ⟨0,rfl,rfl,by omega,by omega⟩
section
variable {set:TSet} {ts:List Plc}
theorem ztw (hS:SetOk set) (hA:znr set ts) {i:Nat} {x:Plc} (hx:ts[i]?=some x) {dir:Int} (hd:dir=0\/dir=1) :
  ∃ nb:List Bd,nb.length<=1/\(∀ b∈nb,WB ts.length b)/\
   (∀ (a0 acc:List Bd),acc.length<=100000->za0 set ts (a0,(i:Int)) (acc,dir)=some (.inl (acc++nb,w64 (dir - 1))))/\
   (∀ (a0 acc:List Bd),acc.length<=100000->∀ j,idx [1,0] j=some dir->0<=j->j<2->zJ (fun s q0 q1=>zT set ts s (q0,q1)) ts ((i:Int),a0) x (j,acc)=some (.inl (w64 (j+1),acc++nb))):=by
 have hsrt:=hA.1.srt
 have hl:ts.length<=500:=hA.1.1
 have hi:=zy hx
 obtain ⟨hpt,x0,x1,_⟩:=hA.1.2 i hi x hx
 obtain ⟨hst,hst'⟩:=zsN hpt hd
 obtain ⟨k,hk,hak⟩:=zmS hsrt (by omega) (zko x.1 dir)
 obtain ⟨k',hk',hak'⟩:=zok hsrt (by omega) (zko x.1 dir)
 obtain rfl:=hak.uniq hsrt hak'
 have hd0:decide (dir≥0)=true:=by simp;omega
 have hxr:=hA.2 x (List.mem_of_getElem? hx)
 rcases hak with ⟨h0,y,hy,hye⟩ | ⟨h0,_⟩
 ·have hyr:=hA.2 y (List.mem_of_getElem? hy)
  obtain ⟨v,hv,hv',v0,v1⟩:=ztn hS hxr.1 hxr.2 hyr.1 hyr.2 hd
  have hik:(i:Int)≠k:=fun e=>by
   subst e
   simp only [Int.toNat_natCast] at hy
   rw [hx] at hy;injection hy with hy;subst hy
   rcases hd with e | e
   ·have h1:=congrArg Prod.snd hye
    rw [e] at h1
    have h2:(zko x.1 0).2=x.1.2+1:=rfl
    omega
   ·have h1:=congrArg Prod.fst hye
    rw [e] at h1
    have h2:(zko x.1 1).1=x.1.1+1:=rfl
    omega
  have hkl:=zy hy
  refine ⟨if v>0 then [((i:Int),k,v)] else [],by split<;>simp,?_,?_,?_⟩
  ·intro b hb
   split at hb
   ·rw [List.mem_singleton] at hb
    subst hb
    exact ⟨by simp only [];omega,by simp only [];omega,h0,by simp only [];omega,hik,v0,by simp only [];omega⟩
   ·cases hb
  ·intro a0 acc hacc
   unfold za0 zes zbW
   rw [if_pos hd0]
   simp only [zu hx,hst,hk,Option.bind_some]
   rw [if_neg (by simp;omega)]
   simp only [zdM h0 hy,hv,Option.bind_some]
   by_cases hvp:v>0
   ·rw [if_pos (by simpa using hvp),if_pos hvp,zaj (by simp;omega) (by simp;omega)]
    rfl
   ·rw [if_neg (by simpa using hvp),if_neg hvp,List.append_nil]
  ·intro a0 acc hacc j hj hj0 hj2
   unfold zJ z1 zT
   rw [if_pos (by simp;omega)]
   simp only [hj,hst',hk',Option.bind_some]
   rw [if_pos (by simp;omega)]
   simp only [zu hx,zdM h0 hy,hv',Option.bind_some]
   by_cases hvp:v>0
   ·rw [if_pos (by simpa using hvp),if_pos hvp,zaj (by simp;omega) (by simp;omega)]
    rfl
   ·rw [if_neg (by simpa using hvp),if_neg hvp,List.append_nil]
    rfl
 ·refine ⟨[],by simp,by simp,?_,?_⟩
  ·intro a0 acc hacc
   unfold za0 zes zbW
   rw [if_pos hd0]
   simp only [zu hx,hst,hk,Option.bind_some]
   rw [if_pos (by simp;omega),List.append_nil]
  ·intro a0 acc hacc j hj hj0 hj2
   unfold zJ z1
   rw [if_pos (by simp;omega)]
   simp only [hj,hst',hk',Option.bind_some]
   rw [if_neg (by simp;omega),List.append_nil]
theorem ztN (hS:SetOk set) (hA:znr set ts) {i:Nat} {x:Plc} (hx:ts[i]?=some x) :
  ∃ nb:List Bd,nb.length<=2/\(∀ b∈nb,WB ts.length b)/\
   (∀ (acc:List Bd),acc.length<=90000->iter (za0 set ts (acc,(i:Int))) (acc,1)=some (acc++nb))/\
   (∀ (acc:List Bd),acc.length<=90000->iter (zJ (fun s q0 q1=>zT set ts s (q0,q1)) ts ((i:Int),acc) x) (0,acc)=some (acc++nb)):=by
 obtain ⟨n1,a1,b1,c1,d1⟩:=ztw hS hA hx (dir:=1) (.inr rfl)
 obtain ⟨n0,a0,b0,c0,d0⟩:=ztw hS hA hx (dir:=0) (.inl rfl)
 refine ⟨n1++n0,by simp;omega,fun b hb=>(List.mem_append.1 hb).elim (b1 b) (b0 b),fun acc hacc=>?_,fun acc hacc=>?_⟩
 ·rw [zI (c1 acc acc (by omega))]
  have e1:w64 ((1:Int) - 1)=0:=by decide
  rw [e1,zI (c0 acc (acc++n1) (by simp;omega))]
  have e2:w64 ((0:Int) - 1) = -1:=by decide
  rw [e2,List.append_assoc]
  apply zD
  unfold za0
  rw [if_neg (by simp)]
 ·rw [zI (d1 acc acc (by omega) 0 rfl (by omega) (by omega))]
  have e1:w64 ((0:Int)+1)=1:=by decide
  rw [e1,zI (d0 acc (acc++n1) (by simp;omega) 1 rfl (by omega) (by omega))]
  have e2:w64 ((1:Int)+1)=2:=by decide
  rw [e2,List.append_assoc]
  apply zD
  unfold zJ
  rw [if_neg (by simp)]
theorem zsA (hS:SetOk set) (hA:znr set ts):∃ bs:List Bd,zb7 set ts=some bs/\zeU set ts=some bs/\WBs ts.length bs/\bs.length<=1000:=by
 have hl:ts.length<=500:=hA.1.1
 have key:∀ (d i:Nat) (acc:List Bd),i+d=ts.length->acc.length<=2*i->(∀ b∈acc,WB ts.length b)->
   ∃ bs:List Bd,iter (za1 set ts) (acc,(i:Int))=some bs/\iter (zK (fun s q0 q1=>zT set ts s (q0,q1)) ts) ((i:Int),acc)=some bs/\(∀ b∈bs,WB ts.length b)/\bs.length<=2*ts.length:=by
  intro d
  induction d with
  | zero=>
   intro i acc hi hacc hw
   have:i=ts.length:=by omega
   subst this
   refine ⟨acc,zD ?_,zD ?_,hw,hacc⟩
   ·unfold za1;rw [if_neg (by simp)]
   ·unfold zK;rw [if_neg (by simp)]
  | succ d ih=>
   intro i acc hi hacc hw
   have hlt:i<ts.length:=by omega
   have hx:ts[i]?=some ts[i]:=List.getElem?_eq_getElem hlt
   obtain ⟨nb,n1,n2,n3,n4⟩:=ztN hS hA hx
   have hwi:w64 ((i:Int)+1)=((i+1:Nat):Int):=by rw [zp (by omega) (by omega)];omega
   have s1:za1 set ts (acc,(i:Int))=some (.inl (acc++nb,((i+1:Nat):Int))):=by
    unfold za1 zgj
    rw [if_pos (by simp [hlt])]
    simp only [n3 acc (by omega),Option.bind_some,hwi]
   have s2:zK (fun s q0 q1=>zT set ts s (q0,q1)) ts ((i:Int),acc)=some (.inl (((i+1:Nat):Int),acc++nb)):=by
    unfold zK zbn
    rw [if_pos (by simp [hlt])]
    simp only [zu hx,n4 acc (by omega),Option.bind_some,hwi]
   rw [zI s1,zI s2]
   exact ih (i+1) (acc++nb) (by omega) (by simp;omega) fun b hb=>(List.mem_append.1 hb).elim (hw b) (n2 b)
 obtain ⟨bs,h1,h2,h3,h4⟩:=key ts.length 0 [] (by omega) (by simp) (by simp)
 refine ⟨bs,?_,?_,zjX.2 h3,by omega⟩
 ·unfold zb7 zdg zb8 zbo
  have h2:iter (zK (fun s q0 q1=>zT set ts s (q0,q1)) ts) (0,[])=some bs:=h2
  simp only [Option.bind_some,h2]
 ·unfold zeU zgk
  have h1:iter (za1 set ts) ([],0)=some bs:=h1
  simp only [Option.bind_some,h1]
theorem zjk (hT:Tame set) (h:ts.length<=100000) (t:Int):∃ b,zeE (set,ts,t)=some b/\ziG (set,ts,t)=some b/\(b=true->SetOk set/\znr set ts):=by
 obtain ⟨a,h1,h2,h3⟩:=zl7 set hT
 obtain ⟨va,h4,h5⟩:=znt set hT ts (by omega)
 obtain ⟨sa,h6,h7⟩:=zrL set hT ts (by omega)
 unfold zeE ziG zdF zig
 simp only [h2,h4,h6,Option.bind_some]
 by_cases h0:(ts.length:Int)=0
 ·rw [if_pos (by simpa using h0)]
  refine ⟨false,rfl,?_,fun h=>by cases h⟩
  cases a<;>cases sa<;>simp [h0]
 rw [if_neg (by simpa using h0)]
 cases hva:va with
 | false=>
  subst hva
  refine ⟨false,rfl,?_,fun h=>by cases h⟩
  cases ha:a with
  | false=>rfl
  | true=>
   cases hsa:sa with
   | false=>rfl
   | true=>
    have:=h5.2 ⟨h3.1 ha,h7.1 hsa⟩
    cases this
 | true=>
  obtain ⟨hS,hA⟩:=h5.1 hva
  have ha:a=true:=h3.2 hS
  have hsa:sa=true:=h7.2 hA
  subst ha;subst hsa
  have htemp:zdq t=some (decide (1<=t/\t<=16))/\zcI t=some (decide (1<=t/\t<=16)):=by
   constructor
   ·unfold zdq;rw [zdD];rfl
   ·unfold zcI;rw [zf6];rfl
  simp only [htemp.1,htemp.2,Option.bind_some]
  by_cases ht:1<=t/\t<=16
  ·obtain ⟨bs,g1,g2,g3,g4⟩:=zsA hS hA
   obtain ⟨x,y,z,w,e1,e2,e3⟩:=zqR (p0:=set) (p1:=ts) (by omega) (by omega) (by omega:bs.length<=100000) g3 g1 g2 t
   simp only [ht,decide_true,e1,e2,Option.bind_some]
   have hne:ts≠[]:=fun e=>h0 (by rw [e];rfl)
   cases y with
   | true=>
    simp only [Bool.not_true,Bool.false_eq_true,if_false] at e3 ⊢
    injection e3 with e3 e4
    subst e3;subst e4
    cases x with
    | true=>exact ⟨true,by simp,by simp [hne],fun _=>⟨hS,hA⟩⟩
    | false=>exact ⟨false,by simp,by simp,fun h=>by cases h⟩
   | false=>
    simp only [Bool.not_false,if_true] at e3 ⊢
    injection e3 with e3 e4
    subst e3;subst e4
    exact ⟨false,by simp,by simp,fun h=>by cases h⟩
  ·refine ⟨false,?_,?_,fun h=>by cases h⟩
   ·simp [ht]
   ·simp [ht,h0]
end
end Go.Lf
namespace Go.Lf
open Go Go.Lib
theorem zhv {u:Nat} (h:u<10):decDigits u=[UInt8.ofNat (48+u)]:=by rw [decDigits,dif_pos h]
theorem zlw {u:Nat} (h:¬u<10):decDigits u=decDigits (u / 10)++[UInt8.ofNat (48+u % 10)]:=by rw [decDigits,dif_neg h]
theorem zdi {k:Nat} (h:k<256):(UInt8.ofNat k).toNat=k:=by
 simp [UInt8.toNat_ofNat'];omega
theorem zl2 (u:Nat):∀ c∈decDigits u,48<=c.toNat/\c.toNat<=57:=by
 induction u using Nat.strongRecOn with
 | _ u ih=>
  intro c hc
  by_cases h:u<10
  ·rw [zhv h,List.mem_singleton] at hc
   rw [hc,zdi (by omega)];omega
  ·rw [zlw h] at hc
   rcases List.mem_append.1 hc with hc | hc
   ·exact ih (u / 10) (by omega) c hc
   ·rw [List.mem_singleton] at hc
    rw [hc,zdi (by omega)];omega
theorem zqc (u:Nat):decDigits u≠[]:=by
 by_cases h:u<10
 ·rw [zhv h];simp
 ·rw [zlw h];simp
theorem zot (u:Nat) (h:u<=1000000000):(decDigits u).length<=10:=by
 rw [decDigits_length]
 rcases Nat.lt_or_ge 10 (nDigits u) with hl | hl
 ·have h9:10 ^ 10<=u:=by
   have:∀ (k v:Nat),k<nDigits v->1<=k->10 ^ k<=v:=by
    intro k
    induction k with
    | zero=>intro v _ h;omega
    | succ k ih=>
     intro v hk _
     by_cases hv:v<10
     ·rw [nDigits_small hv] at hk;omega
     ·rw [nDigits_big hv] at hk
      by_cases hk0:k=0
      ·subst hk0;simp;omega
      ·have:=ih (v / 10) (by omega) (by omega)
       rw [Nat.pow_succ];omega
   exact this 10 u hl (by omega)
  omega
 ·exact hl
theorem zq1 (u:Nat) (hu:u<=1000000000):∀ r,parseUintM 18446744073709551615 0 (decDigits u++r)=parseUintM 18446744073709551615 u r:=by
 induction u using Nat.strongRecOn with
 | _ u ih=>
  intro r
  by_cases h:u<10
  ·rw [zhv h]
   show parseUintM _ 0 (UInt8.ofNat (48+u)::r)=_
   rw [parseUintM,zdi (by omega),if_pos (by omega),if_neg (by omega),if_neg (by omega)]
   congr 1
   omega
  ·rw [zlw h,List.append_assoc,ih (u / 10) (by omega) (by omega)]
   show parseUintM _ (u / 10) (UInt8.ofNat (48+u % 10)::r)=_
   rw [parseUintM,zdi (by omega),if_pos (by omega),if_neg (by omega),if_neg (by omega)]
   congr 1
   omega
theorem zkB (n:Int) (h0 : -1000000000<=n) (h1:n<=1000000000):parseIntB 64 (itoa n)=.ok n:=by
 have hM:∀ u:Nat,u<=1000000000->parseUintB 64 (decDigits u)=.ok u:=by
  intro u hu
  unfold parseUintB
  rw [if_neg (zqc u)]
  have:=zq1 u hu []
  rw [List.append_nil] at this
  have e:(2 ^ 64 - 1:Nat)=18446744073709551615:=by decide
  rw [e,this]
  rfl
 unfold itoa
 by_cases hn:n<0
 ·rw [if_pos hn]
  unfold parseIntB
  have e45:((45:UInt8).toNat)=45:=rfl
  simp only [e45]
  rw [if_pos (.inr trivial),hM n.natAbs (by omega)]
  simp only [if_true,not_true,false_and,if_false,true_and]
  rw [if_neg (by omega)]
  congr 1
  omega
 ·rw [if_neg hn]
  have hd:=zl2 n.toNat
  have hm:=hM n.toNat (by omega)
  have hne:=zqc n.toNat
  cases hl:decDigits n.toNat with
  | nil=>exact absurd hl hne
  | cons c r=>
   rw [hl] at hd hm
   have hc:=hd c List.mem_cons_self
   unfold parseIntB
   have h45:¬c.toNat=45:=by omega
   have h43:¬c.toNat=43:=by omega
   simp only [h43,h45,or_self,if_false,hm,not_false_eq_true,true_and,false_and]
   rw [if_neg (by omega)]
   congr 1
   omega
theorem zm9 (n:Int) (h0 : -1000000000<=n) (h1:n<=1000000000):1<=(itoa n).length/\(itoa n).length<=11:=by
 unfold itoa
 by_cases hn:n<0
 ·rw [if_pos hn]
  have:=zot n.natAbs (by omega)
  simp;omega
 ·rw [if_neg hn]
  have:=zot n.toNat (by omega)
  have h2:=List.length_pos_iff.2 (zqc n.toNat)
  omega
def RdOk (s:List UInt8) (r:Int×Bool):Prop:=
 (r=(0,false)/\∀ n:Int,-1000000000<=n->n<=1000000000->itoa n≠s)\/∃ n:Int,r=(n,true) /\ -1000000000<=n/\n<=1000000000/\itoa n=s
theorem RdOk.uniq {s:List UInt8} {r r':Int×Bool} (h:RdOk s r) (h':RdOk s r'):r=r':=by
 rcases h with ⟨rfl,h1⟩ | ⟨n,rfl,h1,h2,h3⟩<;>rcases h' with ⟨rfl,h4⟩ | ⟨m,rfl,h4,h5,h6⟩
 ·rfl
 ·exact absurd h6 (h1 m h4 h5)
 ·exact absurd h3 (h4 n h1 h2)
 ·have a:=zkB n h1 h2
  have b:=zkB m h4 h5
  rw [h3] at a;rw [h6,a] at b
  injection b with b
  rw [b]
theorem zlU (s:List UInt8) (hl:s.length<=1000000):∃ r,zap s=some r/\RdOk s r:=by
 unfold zap zep
 rw [if_pos ⟨rfl,rfl,by omega⟩]
 have hno:(∀ v,parseIntB 64 s=.ok v->¬(-1000000000<=v/\v<=1000000000/\itoa v=s))->RdOk s (0,false):=fun hn=>
  .inl ⟨rfl,fun n h0 h1 e=>by
   have:=zkB n h0 h1
   rw [e] at this
   exact hn n this ⟨h0,h1,e⟩⟩
 cases hp:parseIntB 64 s with
 | ok v=>
  simp only [Option.bind_some,Er.isNil,Bool.not_true,Bool.false_eq_true,if_false,zdD]
  unfold ziY zdN zbN
  simp only [if_true,Option.bind_some]
  by_cases h1 : -1000000000<=v/\v<=1000000000
  ·by_cases h2:itoa v=s
   ·refine ⟨(v,true),by simp [h1,h2],.inr ⟨v,rfl,h1.1,h1.2,h2⟩⟩
   ·refine ⟨(0,false),by simp [h1,h2],hno fun w hw=>?_⟩
    rw [hp] at hw;injection hw with hw;subst hw
    exact fun h=>h2 h.2.2
  ·refine ⟨(0,false),by simp only [h1,decide_false];rfl,hno fun w hw=>?_⟩
   rw [hp] at hw;injection hw with hw;subst hw
   exact fun h=>h1 ⟨h.1,h.2.1⟩
 | _=>exact ⟨_,rfl,hno fun v hv=>by rw [hp] at hv;cases hv⟩
theorem zny:∀ (u:Nat) (m:Int) (out:List UInt8),m.natAbs=u->out.length+u<=1000000000000->
  iter zcg (out,m)=some ((if m=0 then [] else decDigits u)++out):=by
 intro u
 induction u using Nat.strongRecOn with
 | _ u ih=>
  intro m out hm hlen
  have hcase:(m=(u:Int)/\Int.tdiv m 10=((u / 10:Nat):Int)/\Int.tmod m 10=((u % 10:Nat):Int))\/(m = -(u:Int)/\Int.tdiv m 10 = -((u / 10:Nat):Int)/\Int.tmod m 10 = -((u % 10:Nat):Int)):=by
   rcases Int.lt_or_le m 0 with h | h
   ·have e:m = -(u:Int):=by omega
    refine .inr ⟨e,?_,?_⟩
    ·rw [e,Int.neg_tdiv];rfl
    ·rw [e,Int.neg_tmod];rfl
   ·have e:m=(u:Int):=by omega
    refine .inl ⟨e,?_,?_⟩
    ·rw [e];rfl
    ·rw [e];rfl
  by_cases h0:m=0
  ·rw [if_pos h0]
   apply zD
   unfold zcg
   simp [h0]
  ·rw [if_neg h0]
   have hstep:zcg (out,m)=some (.inl (UInt8.ofNat (48+u % 10)::out,Int.tdiv m 10)):=by
    unfold zcg ze9
    have htd:w64 (Int.tdiv m 10)=Int.tdiv m 10:=zp (by omega) (by omega)
    have fin:∀ d:Int,d=((u % 10:Nat):Int)->(ziK (zgC [IntKind.wrap .u8 (w64 (48+d))]) out)=some (UInt8.ofNat (48+u % 10)::out):=by
     intro d hd
     have e1:w64 (48+d)=48+d:=zp (by omega) (by omega)
     have e2:IntKind.wrap .u8 (48+d)=48+d:=by
      show (48+d) % 256=48+d
      omega
     rw [e1,e2]
     unfold ziK zgC
     rw [if_pos (by simp;omega)]
     simp only [List.map_cons,List.map_nil,List.cons_append,List.nil_append]
     congr 3
     omega
    simp only [h0,decide_false,Bool.not_false,if_true]
    by_cases hn:Int.tmod m 10<0
    ·rw [if_pos (by simpa using hn)]
     have e:w64 (0 - Int.tmod m 10)=((u % 10:Nat):Int):=by
      rw [zp (by omega) (by omega)]
      omega
     rw [e,fin _ rfl]
     simp only [Option.bind_some,htd]
    ·rw [if_neg (by simpa using hn)]
     have e:Int.tmod m 10=((u % 10:Nat):Int):=by
      omega
     rw [e,fin _ rfl]
     simp only [Option.bind_some,htd]
   rw [zI hstep]
   have hu:u≠0:=by omega
   have habs:(Int.tdiv m 10).natAbs=u / 10:=by omega
   rw [ih (u / 10) (by omega) _ _ habs (by simp;omega)]
   congr 1
   by_cases hs:u<10
   ·have hz:Int.tdiv m 10=0:=by omega
    rw [if_pos hz,zhv hs,List.nil_append]
    have:u % 10=u:=by omega
    rw [this];rfl
   ·have hz:¬Int.tdiv m 10=0:=by omega
    rw [if_neg hz,zlw hs,List.append_assoc];rfl
theorem zn7 (n:Int) (h0 : -1000000000<=n) (h1:n<=1000000000):zhk n=some (itoa n):=by
 unfold zhk zg4
 rw [zny n.natAbs n [] rfl (by simp;omega)]
 simp only [Option.bind_some,List.append_nil]
 unfold itoa
 by_cases hz:n=0
 ·subst hz
  rw [if_pos (by simp),if_neg (by omega)]
  have:decDigits (Int.toNat 0)=[48]:=zhv (u:=0) (by omega)
  rw [this]
 ·rw [if_neg (by simp [hz]),if_neg hz]
  by_cases hn:n<0
  ·rw [if_pos (by simp [hn]),if_pos hn]
   have:=zot n.natAbs (by omega)
   unfold ziK
   rw [if_pos (by simp;omega)]
   rfl
  ·rw [if_neg (by simp [hn]),if_neg hn]
   congr 2
   omega
def zja (c:UInt8):Prop:=48<=c.toNat/\c.toNat<=57
instance (c:UInt8):Decidable (zja c):=by unfold zja;infer_instance
def rd:Int->List UInt8->Option Int
 | acc,[]=>some acc
 | acc,c::r=>if zja c then rd (10*acc+((c.toNat:Int) - 48)) r else none
theorem zod (u:Nat):∀ r,rd 0 (decDigits u++r)=rd u r:=by
 induction u using Nat.strongRecOn with
 | _ u ih=>
  intro r
  by_cases h:u<10
  ·rw [zhv h]
   show rd 0 (UInt8.ofNat (48+u)::r)=_
   rw [rd,if_pos (by unfold zja;rw [zdi (by omega)];omega),zdi (by omega)]
   congr 1
   omega
  ·rw [zlw h,List.append_assoc,ih (u / 10) (by omega)]
   show rd _ (UInt8.ofNat (48+u % 10)::r)=_
   rw [rd,if_pos (by unfold zja;rw [zdi (by omega)];omega),zdi (by omega)]
   congr 1
   omega
theorem zk7 (s:List UInt8) (hs:s.length<=11):∀ (d i:Nat) (acc:Int),i+d=s.length->(i=0->∀ c,s[0]?=some c->c.toNat≠45)->0<=acc->acc<(10 ^ i:Nat)->
  iter (zX s) (acc,(i:Int))=some (match rd acc (s.drop i) with | some v=>.inl v | none=>.inr (0,false)):=by
 intro d
 induction d with
 | zero=>
  intro i acc hi _ _ _
  have:i=s.length:=by omega
  subst this
  rw [List.drop_length]
  apply zD
  unfold zX
  rw [if_neg (by simp)]
  rfl
 | succ d ih=>
  intro i acc hi h45 ha0 ha1
  have hlt:i<s.length:=by omega
  have hc:s[i]?=some s[i]:=List.getElem?_eq_getElem hlt
  have hdrop:s.drop i=s[i]::s.drop (i+1):=List.drop_eq_getElem_cons hlt
  have hwi:w64 ((i:Int)+1)=((i+1:Nat):Int):=by rw [zp (by omega) (by omega)];omega
  have hpow:(10 ^ i:Nat)<=10 ^ 10:=Nat.pow_le_pow_right (by omega) (by omega)
  have e10:(10 ^ 10:Nat)=10000000000:=by decide
  have hl1:zX s (acc,(i:Int))=zau s (acc,(i:Int)) false:=by
   unfold zX
   rw [if_pos (by simp [hlt])]
   by_cases h0:i=0
   ·subst h0
    have:=h45 rfl _ hc
    have hne:¬((s[0].toNat:Int)=45):=by omega
    rw [if_pos (by simp)]
    simp only [zu hc,Option.bind_some,hne,decide_false]
   ·rw [if_neg (by simp;omega)]
  have hk6:zau s (acc,(i:Int)) false=if zja s[i] then some (.inl (10*acc+((s[i].toNat:Int) - 48),((i+1:Nat):Int))) else some (.inr (.inr (0,false))):=by
   unfold zau zbG
   rw [if_neg (by simp)]
   simp only [zu hc,Option.bind_some,zkw,hwi]
   by_cases hd:zja s[i]
   ·have hdb:zgd s[i]=true:=by unfold zja at hd;unfold zgd;simp;omega
    have hd':=hd
    unfold zja at hd'
    rw [if_pos hd,hdb,if_neg (by simp)]
    have e1:IntKind.wrap .u8 ((s[i].toNat:Int) - 48)=(s[i].toNat:Int) - 48:=by
     show ((s[i].toNat:Int) - 48) % 256=(s[i].toNat:Int) - 48
     omega
    have e2:w64 ((s[i].toNat:Int) - 48)=(s[i].toNat:Int) - 48:=zp (by omega) (by omega)
    have e3:w64 (10*acc)=10*acc:=zp (by omega) (by omega)
    have e4:w64 (10*acc+((s[i].toNat:Int) - 48))=10*acc+((s[i].toNat:Int) - 48):=zp (by omega) (by omega)
    rw [e1,e2,e3,e4]
   ·have hdb:zgd s[i]=false:=by unfold zja at hd;unfold zgd;simp;omega
    rw [if_neg hd,hdb,if_pos (by simp)]
  rw [hdrop,rd]
  by_cases hd:zja s[i]
  ·rw [if_pos hd] at hk6 ⊢
   rw [zI (hl1.trans hk6)]
   unfold zja at hd
   have hpw:(10 ^ (i+1):Nat)=10*10 ^ i:=by rw [Nat.pow_succ];omega
   refine ih (i+1) _ (by omega) (by omega) (by omega) (by rw [hpw];omega)
  ·rw [if_neg hd] at hk6 ⊢
   rw [zD (hl1.trans hk6)]
theorem zlD (s:List UInt8) (hl:s.length<=1000000):∃ r,zaH s=some r/\RdOk s r:=by
 unfold zaH zcO
 by_cases h1:s.length<1
 ·rw [if_pos (by simp;omega),if_pos rfl]
  exact ⟨_,rfl,.inl ⟨rfl,fun n h0 h2 e=>by have:=zm9 n h0 h2;rw [e] at this;omega⟩⟩
 rw [if_neg (by simp;omega)]
 by_cases h2:s.length>11
 ·rw [if_pos (by simp;omega)]
  exact ⟨_,rfl,.inl ⟨rfl,fun n h0 h3 e=>by have:=zm9 n h0 h3;rw [e] at this;omega⟩⟩
 rw [if_neg (by simp;omega)]
 cases hs:s with
 | nil=>rw [hs] at h1;simp at h1
 | cons c r=>
  have e0:idx (c::r) 0=some c:=zu (i:=0) rfl
  have hr11:r.length<=10:=by rw [hs] at h2;simp at h2;omega
  have fin:∀ (v m:Int) (neg:Bool),(if neg=true then w64 (0 - v)=m else v=m)->((c.toNat:Int)=45↔neg=true)->(∀ n:Int,-1000000000<=n->n<=1000000000->itoa n=c::r->n=m)->
    ∃ r',zcN (c::r) v=some r'/\RdOk (c::r) r':=by
   intro v m neg hv hneg hall
   have tail:∃ r',zbH (c::r) m=some r'/\RdOk (c::r) r':=by
    unfold zbH zcM
    rw [zf6]
    simp only [Option.bind_some]
    by_cases hm : -1000000000<=m/\m<=1000000000
    ·rw [if_neg (by simp [hm]),zn7 m hm.1 hm.2]
     simp only [Option.bind_some]
     by_cases he:itoa m=c::r
     ·rw [if_neg (by simp [he])]
      exact ⟨_,rfl,.inr ⟨m,rfl,hm.1,hm.2,he⟩⟩
     ·rw [if_pos (by simp [he])]
      exact ⟨_,rfl,.inl ⟨rfl,fun n h0 h1 e=>he (by rw [←hall n h0 h1 e];exact e)⟩⟩
    ·rw [if_pos (by simp only [hm,decide_false];rfl),if_pos trivial]
     exact ⟨_,rfl,.inl ⟨rfl,fun n h0 h1 e=>hm (by rw [←hall n h0 h1 e];exact ⟨h0,h1⟩)⟩⟩
   unfold zcN
   simp only [e0,Option.bind_some]
   cases neg with
   | true=>
    rw [if_pos (by simpa using hneg.2 rfl)]
    rw [if_pos rfl] at hv
    rw [hv];exact tail
   | false=>
    rw [if_neg (by intro h;have:=hneg.1 (by simpa using h);cases this)]
    rw [if_neg (by simp)] at hv
    rw [hv];exact tail
  by_cases hneg:(c.toNat:Int)=45
  ·have hc45:c=45:=by
    apply UInt8.toNat_inj.1
    show c.toNat=45
    omega
   have hskip:zX (c::r) (0,0)=some (.inl (0,((1:Nat):Int))):=by
    unfold zX zau zbG
    rw [if_pos (by simp),if_pos (by simp)]
    simp only [e0,Option.bind_some,hneg,decide_true,if_true]
    rfl
   have hloop:=zk7 (c::r) (by simp;omega) r.length 1 0 (by simp;omega) (by omega) (by omega) (by simp)
   rw [zI hskip,hloop]
   have hdrop:(c::r).drop 1=r:=rfl
   rw [hdrop]
   have hspell:∀ n:Int,-1000000000<=n->n<=1000000000->itoa n=c::r->n<0/\r=decDigits n.natAbs:=by
    intro n h0 h1 e
    unfold itoa at e
    by_cases hn:n<0
    ·rw [if_pos hn] at e
     injection e with _ e
     exact ⟨hn,e.symm⟩
    ·rw [if_neg hn] at e
     have:=zl2 n.toNat c (by rw [e];exact List.mem_cons_self)
     omega
   cases hrd:rd 0 r with
   | none=>
    refine ⟨(0,false),rfl,.inl ⟨rfl,fun n h0 h1 e=>?_⟩⟩
    obtain ⟨hn,hr⟩:=hspell n h0 h1 e
    have:=zod n.natAbs []
    rw [List.append_nil,←hr,hrd] at this
    cases this
   | some v=>
    refine fin v (w64 (0 - v)) true (by simp) (by simp [hneg]) fun n h0 h1 e=>?_
    obtain ⟨hn,hr⟩:=hspell n h0 h1 e
    have:=zod n.natAbs []
    rw [List.append_nil,←hr,hrd] at this
    injection this with this
    rw [zp (by omega) (by omega)]
    omega
  ·have hloop:=zk7 (c::r) (by simp;omega) (r.length+1) 0 0 (by simp) (fun _ c' hc'=>by
    simp at hc';subst hc';omega) (by omega) (by simp)
   have hloop:iter (zX (c::r)) (0,0)=_:=hloop
   rw [hloop,List.drop_zero]
   have hspell:∀ n:Int,-1000000000<=n->n<=1000000000->itoa n=c::r->¬n<0/\c::r=decDigits n.toNat:=by
    intro n h0 h1 e
    unfold itoa at e
    by_cases hn:n<0
    ·rw [if_pos hn] at e
     injection e with e _
     rw [←e] at hneg
     exact absurd rfl hneg
    ·rw [if_neg hn] at e
     exact ⟨hn,e.symm⟩
   cases hrd:rd 0 (c::r) with
   | none=>
    refine ⟨(0,false),rfl,.inl ⟨rfl,fun n h0 h1 e=>?_⟩⟩
    obtain ⟨hn,hr⟩:=hspell n h0 h1 e
    have:=zod n.toNat []
    rw [List.append_nil,←hr,hrd] at this
    cases this
   | some v=>
    refine fin v v false (by simp) (by simp [hneg]) fun n h0 h1 e=>?_
    obtain ⟨hn,hr⟩:=hspell n h0 h1 e
    have:=zod n.toNat []
    rw [List.append_nil,←hr,hrd] at this
    injection this with this
    rw [this]
    show n=((n.toNat:Nat):Int)
    omega
theorem zc9 (s:List UInt8) (hl:s.length<=1000000):∃ r,zap s=some r/\zaH s=some r/\RdOk s r:=by
 obtain ⟨r,h1,h2⟩:=zlU s hl
 obtain ⟨r',h3,h4⟩:=zlD s hl
 obtain rfl:=h2.uniq h4
 exact ⟨r,h1,h3,h2⟩
theorem zk6 {α:Type} {s:List α} {k:Nat} (h:k<=s.length):zaL s (k:Int) (s.length:Int)=some (s.drop k):=by
 unfold zaL;rw [if_pos ⟨by omega,by omega,by omega⟩];simp
theorem zoH {α:Type} {s:List α} {k:Nat} (h:k<=s.length):zaL s 0 (k:Int)=some (s.take k):=by
 unfold zaL;rw [if_pos ⟨by omega,by omega,by omega⟩];simp
theorem zpu {α:Type} (a r:List α) (c:α):(a++c::r).drop (a.length+1)=r:=by
 rw [←List.drop_drop,List.drop_left];rfl
theorem zrG {α:Type} (a r:List α) (c:α):(a++c::r).take (a.length+1)=a++[c]:=by
 rw [show a++c::r=(a++[c])++r by simp,show a.length+1=(a++[c]).length by simp,List.take_left]
theorem zlu:∀ (s:List UInt8) (c:UInt8),(indexByte s c = -1/\c∉s)\/∃ a r,s=a++c::r/\c∉a/\indexByte s c=(a.length:Int)
 | [],c=>.inl ⟨by unfold indexByte;rfl,by simp⟩
 | b::l,c=>by
  by_cases h:b=c
  ·refine .inr ⟨[],l,by simp [h],by simp,?_⟩
   unfold indexByte;simp [h]
  ·rcases zlu l c with ⟨h1,h2⟩ | ⟨a,r,h1,h2,h3⟩
   ·refine .inl ⟨?_,by simp [h2];exact fun e=>h e.symm⟩
    unfold indexByte;simp [h,h1]
   ·refine .inr ⟨b::a,r,by simp [h1],by simp [h2];exact fun e=>h e.symm,?_⟩
    unfold indexByte;simp [h,h3]
def zaM (b:UInt8):List UInt8->List UInt8->List (List UInt8)
 | [],cur=>[cur]
 | c::l,cur=>if c=b then cur::zaM b l [] else zaM b l (cur++[c])
theorem zkr (b:UInt8):∀ (a r cur:List UInt8),b∉a->zaM b (a++r) cur=zaM b r (cur++a)
 | [],r,cur,_=>by simp
 | c::a,r,cur,h=>by
  simp only [List.mem_cons,not_or] at h
  rw [List.cons_append,zaM,if_neg (fun e=>h.1 e.symm),zkr b a r _ h.2]
  simp
theorem zl9 {b:UInt8} {s:List UInt8} (cur:List UInt8) (h:b∉s):zaM b s cur=[cur++s]:=by
 have:=zkr b s [] cur h
 rw [List.append_nil] at this
 rw [this,zaM]
theorem zl8 {b:UInt8} {a r:List UInt8} (cur:List UInt8) (h:b∉a):zaM b (a++b::r) cur=(cur++a)::zaM b r []:=by
 rw [zkr b a _ cur h,zaM,if_pos rfl]
theorem ziF (b:UInt8):∀ (s cur:List UInt8),1<=(zaM b s cur).length
 | [],cur=>by simp [zaM]
 | c::l,cur=>by
  rw [zaM]
  split
  ·simp
  ·exact ziF b l _
theorem zjU {α:Type} {s:List α} {i k:Nat} {c:α} (h:s[i]?=some c) (hk:k<=i):(s.take (i+1)).drop k=(s.take i).drop k++[c]:=by
 have:=zy h
 rw [zgg h,List.drop_append_of_le_length (by rw [List.length_take];omega)]
theorem zpK (s:List UInt8) (hs:s.length<=1000000) (b:UInt8):∀ (d i fr:Nat) (out:List (List UInt8)),i+d=s.length->fr<=i->out.length<=i->
  ∃ (out':List (List UInt8)) (fr':Nat),iter (zan s (b.toNat:Int)) (out,(fr:Int),(i:Int))=some (out',(fr':Int))/\fr'<=s.length/\out'.length<=s.length/\out'++[s.drop fr']=out++zaM b (s.drop i) ((s.take i).drop fr):=by
 intro d
 induction d with
 | zero=>
  intro i fr out hi hf ho
  have:i=s.length:=by omega
  subst this
  refine ⟨out,fr,zD ?_,hf,ho,?_⟩
  ·unfold zan
   rw [if_neg (by simp)]
  ·rw [List.drop_length,List.take_length,zaM]
 | succ d ih=>
  intro i fr out hi hf ho
  have hlt:i<s.length:=by omega
  have hc:s[i]?=some s[i]:=List.getElem?_eq_getElem hlt
  have hdrop:s.drop i=s[i]::s.drop (i+1):=List.drop_eq_getElem_cons hlt
  have hwi:w64 ((i:Int)+1)=((i+1:Nat):Int):=by rw [zp (by omega) (by omega)];omega
  by_cases hb:s[i]=b
  ·have hstep:zan s (b.toNat:Int) (out,(fr:Int),(i:Int))=some (.inl (out++[(s.take i).drop fr],((i+1:Nat):Int),((i+1:Nat):Int))):=by
    unfold zan zcZ
    have hsub:zaL s (fr:Int) (i:Int)=some ((s.take i).drop fr):=by unfold zaL;rw [if_pos ⟨by omega,by omega,by omega⟩];simp
    rw [if_pos (by simp [hlt])]
    simp only [zu hc,Option.bind_some,hb,decide_true,if_true,hsub,hwi,zaj (bytes:=16) (l:=out) (l2:=[(s.take i).drop fr]) (by simp;omega) (by simp;omega)]
   rw [zI hstep]
   obtain ⟨out',fr',h1,h2,h3,h4⟩:=ih (i+1) (i+1) (out++[(s.take i).drop fr]) (by omega) (Nat.le_refl _) (by simp;omega)
   refine ⟨out',fr',h1,h2,h3,?_⟩
   rw [h4,hdrop,zaM,if_pos hb]
   have:(s.take (i+1)).drop (i+1)=[]:=List.drop_eq_nil_of_le (by rw [List.length_take];omega)
   rw [this]
   simp
  ·have hne:¬((s[i].toNat:Int)=(b.toNat:Int)):=fun e=>hb (UInt8.toNat_inj.1 (by omega))
   have hstep:zan s (b.toNat:Int) (out,(fr:Int),(i:Int))=some (.inl (out,(fr:Int),((i+1:Nat):Int))):=by
    unfold zan zcZ
    rw [if_pos (by simp [hlt])]
    simp only [zu hc,Option.bind_some,hne,decide_false,hwi]
    rfl
   rw [zI hstep]
   obtain ⟨out',fr',h1,h2,h3,h4⟩:=ih (i+1) fr out (by omega) (by omega) (by omega)
   refine ⟨out',fr',h1,h2,h3,?_⟩
   rw [h4,hdrop,zaM,if_neg hb,zjU hc hf]
theorem zoL (s:List UInt8) (hs:s.length<=1000000) (b:UInt8):zcE s (b.toNat:Int)=some (zaM b s []):=by
 obtain ⟨out',fr',h1,h2,h3,h4⟩:=zpK s hs b s.length 0 0 [] (by omega) (by omega) (by simp)
 have h1:iter (zan s (b.toNat:Int)) ([],0,0)=some (out',(fr':Int)):=h1
 unfold zcE zgn
 have hsub:zaL s (fr':Int) (s.length:Int)=some (s.drop fr'):=by unfold zaL;rw [if_pos ⟨by omega,by omega,by omega⟩];simp
 simp only [h1,Option.bind_some,hsub,zaj (bytes:=16) (l:=out') (l2:=[s.drop fr']) (by simp;omega) (by simp;omega)]
 rw [h4]
 simp
theorem zre (n:Int):(44:UInt8)∉itoa n:=by
 unfold itoa
 have hd:∀ u,(44:UInt8)∉decDigits u:=fun u h=>by
  have:=zl2 u 44 h
  have e:(44:UInt8).toNat=44:=rfl
  omega
 by_cases hn:n<0
 ·rw [if_pos hn]
  simp only [List.mem_cons,not_or]
  exact ⟨by decide,hd _⟩
 ·rw [if_neg hn];exact hd _
theorem zoc (s:List UInt8) (hs:s.length<=1000000):∃ r,zga s=some r/\zfT s=some r/\(r.2=true->ptB r.1=true):=by
 have h44:zcE s 44=some (zaM 44 s []):=zoL s hs 44
 unfold zga zfT zjo zcG zfE
 simp only [h44,Option.bind_some]
 rcases zlu s 44 with ⟨h1,h2⟩ | ⟨a,r,h1,h2,h3⟩
 ·rw [zl9 [] h2,if_neg (by simp [h1]),if_pos (by simp)]
  simp only [Option.bind_some]
  obtain ⟨x,hx,_,_⟩:=zc9 s hs
  have he:zap []=some (0,false):=by
   obtain ⟨y,hy,_,hy2⟩:=zc9 [] (by simp)
   rw [hy]
   rcases hy2 with ⟨rfl,_⟩ | ⟨n,_,n0,n1,n2⟩
   ·rfl
   ·have:=zm9 n n0 n1;rw [n2] at this;simp at this
  simp only [hx,he,Option.bind_some]
  refine ⟨((0,0),false),?_,rfl,fun h=>by cases h⟩
  unfold zbx
  cases x.2<;>rfl
 ·have hal:a.length<=1000000/\r.length<=1000000:=by rw [h1] at hs;simp at hs;omega
  rw [if_pos (by rw [h3];simp)]
  have hw:w64 (indexByte s 44+(([44]:List UInt8).length:Int))=((a.length+1:Nat):Int):=by
   rw [h3]
   have:w64 ((a.length:Int)+(([44]:List UInt8).length:Int))=(a.length:Int)+(([44]:List UInt8).length:Int):=zp (by simp;omega) (by simp;omega)
   rw [this];simp
  have s1:zaL s 0 (indexByte s 44)=some a:=by
   rw [h3]
   unfold zaL
   rw [if_pos ⟨by omega,by omega,by rw [h1];simp;omega⟩,h1]
   simp
  have s2:zaL s ((a.length+1:Nat):Int) (s.length:Int)=some r:=by
   rw [zk6 (by rw [h1];simp),h1,zpu]
  simp only [hw,s1,s2,Option.bind_some]
  obtain ⟨x,hx,hx',_⟩:=zc9 a hal.1
  obtain ⟨y,hy,hy',hy2⟩:=zc9 r hal.2
  simp only [hx,hy,Option.bind_some]
  rw [h1,zl8 [] h2,List.nil_append]
  unfold zbx
  by_cases h44r:(44:UInt8)∈r
  ·rcases hy2 with ⟨rfl,_⟩ | ⟨n,_,n0,n1,n2⟩
   ·have h3:¬(((a::zaM 44 r []).length:Int)=2):=by
     rcases zlu r 44 with ⟨_,hh⟩ | ⟨a2,r2,e,h4,_⟩
     ·exact absurd h44r hh
     ·rw [e,zl8 [] h4]
      have:=ziF 44 r2 []
      simp only [List.length_cons];omega
    simp only [h3,decide_false,Bool.not_false,if_true]
    refine ⟨((0,0),false),?_,rfl,fun h=>by cases h⟩
    cases x.2<;>rfl
   ·rw [←n2] at h44r
    exact absurd h44r (zre n)
  ·rw [zl9 [] h44r,List.nil_append]
   have h2':decide ((([a,r].length:Nat):Int)=2)=true:=by simp
   have i0:idx [a,r] 0=some a:=rfl
   have i1:idx [a,r] 1=some r:=rfl
   unfold zcv
   simp only [h2',Bool.not_true,Bool.false_eq_true,if_false,i0,i1,hx',hy',Option.bind_some,zkP,zks]
   cases hx2:x.2 with
   | false=>exact ⟨((0,0),false),by simp,by simp,fun h=>by cases h⟩
   | true=>
    cases hy2:y.2 with
    | false=>exact ⟨((0,0),false),by simp,by simp,fun h=>by cases h⟩
    | true=>
     cases hp:ptB (x.1,y.1) with
     | false=>exact ⟨((0,0),false),by simp,by simp,fun h=>by cases h⟩
     | true=>exact ⟨((x.1,y.1),true),by simp,by simp,fun _=>hp⟩
def zdo:List UInt8->List UInt8->List (List UInt8)
 | [],cur=>if cur=[] then [] else [cur]
 | c::l,cur=>if c=10 then cur::zdo l [] else zdo l (cur++[c])
theorem zkF:∀ (a r cur:List UInt8),(10:UInt8)∉a->zdo (a++r) cur=zdo r (cur++a)
 | [],r,cur,_=>by simp
 | c::a,r,cur,h=>by
  simp only [List.mem_cons,not_or] at h
  rw [List.cons_append,zdo,if_neg (fun e=>h.1 e.symm),zkF a r _ h.2]
  simp
def zte (w:List (List UInt8)):List (List UInt8):=if w.getLast?=some [] then w.dropLast else w
theorem zkE:∀ (s cur:List UInt8),zdo s cur=zte (zaM 10 s cur)
 | [],cur=>by
  unfold zdo zaM zte
  by_cases h:cur=[]
  ·simp [h]
  ·simp [h]
 | c::l,cur=>by
  rw [zdo,zaM]
  split
  ·rw [zkE l []]
   have hp:=ziF 10 l []
   cases hw:zaM 10 l [] with
   | nil=>rw [hw] at hp;simp at hp
   | cons x w=>
    unfold zte
    rw [List.getLast?_cons_cons,List.dropLast_cons_cons]
    split<;>rfl
  ·exact zkE l _
theorem zpM (s:List UInt8) (hs:s.length<=1000000):zgE s=some (zdo s []):=by
 unfold zgE zeu
 by_cases h0:s=[]
 ·rw [if_pos (by simp [h0]),h0];rfl
 ·rw [if_neg (by simp [h0])]
  have h10:zcE s 10=some (zaM 10 s []):=zoL s hs 10
  rw [h10,zkE]
  simp only [Option.bind_some]
  have hp:=ziF 10 s []
  have hlen:∀ (t cur:List UInt8),(zaM 10 t cur).length<=t.length+1:=by
   intro t
   induction t with
   | nil=>intro cur;simp [zaM]
   | cons c t ih=>
    intro cur
    rw [zaM]
    split
    ·have:=ih [];simp;omega
    ·have:=ih (cur++[c]);simp;omega
  have hl:=hlen s []
  obtain ⟨w,hw⟩:∃ w,w=zaM 10 s []:=⟨_,rfl⟩
  rw [←hw] at hp hl ⊢
  have hwl:w64 ((w.length:Int) - 1)=((w.length - 1:Nat):Int):=by rw [zp (by omega) (by omega)];omega
  have hx:w[w.length - 1]?=some (w[w.length - 1]'(by omega)):=List.getElem?_eq_getElem (by omega)
  have hlast:w.getLast?=some (w[w.length - 1]'(by omega)):=by rw [List.getLast?_eq_getElem?];exact hx
  rw [hwl,zu hx]
  simp only [Option.bind_some]
  unfold zte
  rw [hlast]
  by_cases he:w[w.length - 1]'(by omega)=[]
  ·rw [if_pos (by simp [he]),if_pos (by rw [he])]
   have hsub:zaL w 0 ((w.length - 1:Nat):Int)=some w.dropLast:=by
    unfold zaL
    rw [if_pos ⟨by omega,by omega,by omega⟩]
    simp [List.dropLast_eq_take]
   rw [hsub];rfl
  ·rw [if_neg (by simp [he]),if_neg (by simpa using he)]
theorem zsH (a:List UInt8) (h:a.length<=1000000):zaB (a++[10]) [10]=some a:=by
 unfold zaB zah zao
 have hl:(a++[(10:UInt8)]).length=a.length+1:=by simp
 have hw:w64 (((a++[(10:UInt8)]).length:Int) - (([10]:List UInt8).length:Int))=(a.length:Int):=by
  rw [hl,zp (by simp) (by simp;omega)];simp
 have s1:zaL (a++[(10:UInt8)]) (a.length:Int) ((a++[(10:UInt8)]).length:Int)=some [10]:=by
  rw [zk6 (by omega),List.drop_left]
 have s2:zaL (a++[(10:UInt8)]) 0 (a.length:Int)=some a:=by
  rw [zoH (by omega),List.take_left]
 rw [if_pos (by rw [hl];simp;omega)]
 simp only [hw,s1,s2,Option.bind_some,decide_true,if_true]
theorem zsG (a:List UInt8) (h:a.length<=1000000) (h0:a≠[]) (h10:(10:UInt8)∉a):zaB a [10]=some a:=by
 unfold zaB zah zao
 have hp:=List.length_pos_iff.2 h0
 have hw:w64 ((a.length:Int) - (([10]:List UInt8).length:Int))=((a.length - 1:Nat):Int):=by
  rw [zp (by simp;omega) (by simp;omega)];simp;omega
 have s1:zaL a ((a.length - 1:Nat):Int) (a.length:Int)=some (a.drop (a.length - 1)):=by
  unfold zaL
  rw [if_pos ⟨by omega,by omega,by omega⟩]
  simp
 rw [if_pos (by simp;omega)]
 simp only [hw,s1,Option.bind_some]
 have:¬a.drop (a.length - 1)=[10]:=fun e=>h10 (List.mem_of_mem_drop (i:=a.length - 1) (by rw [e];simp))
 simp [this]
theorem zmw:∀ (m:Nat) (rest:List UInt8) (acc:List (List UInt8)),rest.length=m->acc.length+rest.length<=1000000->
  iter (zU fun s q0=>zab s q0) (acc,rest)=some (acc++zdo rest [],[]):=by
 intro m
 induction m using Nat.strongRecOn with
 | _ m ih=>
  intro rest acc hm hle
  by_cases h0:rest=[]
  ·subst h0
   apply zD
   unfold zU
   simp [zdo]
  ·have hp:=List.length_pos_iff.2 h0
   have hi:strings_IndexByte rest 10=some (indexByte rest 10):=rfl
   have hpush:∀ (a line:List UInt8),zaB line [10]=some a->zab acc line=some (acc++[a]):=by
    intro a line hl
    unfold zab
    simp only [hl,Option.bind_some,zaj (bytes:=16) (l:=acc) (l2:=[a]) (by simp;omega) (by simp;omega)]
   rcases zlu rest 10 with ⟨h1,h2⟩ | ⟨a,r,h1,h2,h3⟩
   ·have hstep:zU (fun s q0=>zab s q0) (acc,rest)=some (.inl (acc++[rest],[])):=by
     unfold zU zbC
     rw [if_pos (by simp;omega),hi]
     simp only [Option.bind_some]
     rw [if_neg (by simp [h1]),hpush rest rest (zsG rest (by omega) h0 h2)]
     rfl
    have hstop:zU (fun s q0=>zab s q0) (acc++[rest],[])=some (.inr (acc++[rest],[])):=by
     unfold zU
     simp
    rw [zI hstep,zD hstop]
    have:=zkF rest [] [] h2
    rw [List.append_nil] at this
    rw [this,List.nil_append,zdo,if_neg h0]
   ·have hrl:rest.length=a.length+1+r.length:=by rw [h1];simp;omega
    have hw:w64 (indexByte rest 10+1)=((a.length+1:Nat):Int):=by rw [h3,zp (by omega) (by omega)];omega
    have s1:zaL rest 0 ((a.length+1:Nat):Int)=some (a++[10]):=by
     rw [zoH (by omega),h1,zrG]
    have s2:zaL rest ((a.length+1:Nat):Int) (rest.length:Int)=some r:=by
     rw [zk6 (by omega),h1,zpu]
    have hstep:zU (fun s q0=>zab s q0) (acc,rest)=some (.inl (acc++[a],r)):=by
     unfold zU zbC
     rw [if_pos (by simp;omega),hi]
     simp only [Option.bind_some]
     rw [if_pos (by rw [h3];simp)]
     simp only [hw,s1,s2,Option.bind_some,hpush a _ (zsH a (by omega))]
    rw [zI hstep,ih r.length (by omega) r _ rfl (by simp;omega)]
    have:=zkF a (10::r) [] h2
    rw [h1,this,List.nil_append,zdo,if_pos rfl]
    simp
theorem zp3 (s:List UInt8) (hs:s.length<=1000000):zff s=some (zdo s []):=by
 unfold zff zh5 zgh zeJ
 simp only [Option.bind_some,zmw s.length s [] rfl (by simpa using hs),List.nil_append]
theorem zkD:∀ (s cur:List UInt8),(zdo s cur).length<=s.length+1/\∀ l∈zdo s cur,l.length<=s.length+cur.length
 | [],cur=>by
  unfold zdo
  split
  ·simp
  ·simp
 | c::s,cur=>by
  rw [zdo]
  split
  ·have:=zkD s []
   refine ⟨by simp;omega,fun l hl=>?_⟩
   rcases List.mem_cons.1 hl with rfl | hl
   ·simp
   ·have:=this.2 l hl;simp at this ⊢;omega
  ·have:=zkD s (cur++[c])
   refine ⟨by simp;omega,fun l hl=>?_⟩
   have:=this.2 l hl;simp at this ⊢;omega
theorem zmj (s:List UInt8) (hs:s.length<=1000000):∀ (d i fr:Nat) (out:List (List UInt8)),i+d=s.length->fr<=i->out.length<=i->
  iter (zal s) (out,(fr:Int),(i:Int))=some (out++zF (s.drop i) ((s.take i).drop fr)):=by
 intro d
 have hw1:∀ i:Nat,i<=s.length->w64 ((i:Int)+1)=((i+1:Nat):Int):=fun i hi=>by rw [zp (by omega) (by omega)];omega
 have hsub:∀ i fr:Nat,fr<=i->i<=s.length->zaL s (fr:Int) (i:Int)=some ((s.take i).drop fr):=fun i fr h1 h2=>by unfold zaL;rw [if_pos ⟨by omega,by omega,by omega⟩];simp
 have hgap:∀ (i fr:Nat) (out:List (List UInt8)),fr<=i->i<=s.length->out.length<=i->zam s (out,(fr:Int),(i:Int)) true=some (.inl (out++(if (s.take i).drop fr=[] then [] else [(s.take i).drop fr]),((i+1:Nat):Int),((i+1:Nat):Int))):=by
  intro i fr out h1 h2 h3
  have hlen:((s.take i).drop fr).length=i - fr:=by rw [List.length_drop,List.length_take];omega
  unfold zam zet zcV
  rw [if_pos rfl]
  by_cases hg:(i:Int)>(fr:Int)
  ·have hne:¬(s.take i).drop fr=[]:=fun e=>by rw [e] at hlen;simp at hlen;omega
   rw [if_pos (by simpa using hg),if_neg hne]
   simp only [hsub i fr h1 h2,Option.bind_some,zaj (bytes:=16) (l:=out) (l2:=[(s.take i).drop fr]) (by simp;omega) (by simp;omega),hw1 i h2]
  ·have he:(s.take i).drop fr=[]:=List.length_eq_zero_iff.1 (by omega)
   rw [if_neg (by simpa using hg),if_pos he]
   simp only [hw1 i h2,List.append_nil]
 induction d with
 | zero=>
  intro i fr out hi hf ho
  have:i=s.length:=by omega
  subst this
  have hstep:zal s (out,(fr:Int),(s.length:Int))=zam s (out,(fr:Int),(s.length:Int)) true:=by
   unfold zal
   rw [if_pos (by simp),if_pos (by simp)]
  rw [zI (hstep.trans (hgap _ _ _ hf (Nat.le_refl _) ho))]
  rw [zD (x:=out++(if (s.take s.length).drop fr=[] then [] else [(s.take s.length).drop fr])) (by
   unfold zal
   rw [if_neg (by simp;omega)])]
  rw [List.drop_length,zF]
 | succ d ih=>
  intro i fr out hi hf ho
  have hlt:i<s.length:=by omega
  have hc:s[i]?=some s[i]:=List.getElem?_eq_getElem hlt
  have hdrop:s.drop i=s[i]::s.drop (i+1):=List.drop_eq_getElem_cons hlt
  have hl1:∀ b,decide ((s[i].toNat:Int)=32)=b->zal s (out,(fr:Int),(i:Int))=zam s (out,(fr:Int),(i:Int)) b:=by
   intro b hb
   unfold zal
   rw [if_pos (by simp;omega),if_neg (by simp;omega)]
   simp only [zu hc,Option.bind_some,hb]
  by_cases h32:s[i]=32
  ·have e:decide ((s[i].toNat:Int)=32)=true:=by rw [h32];rfl
   rw [zI ((hl1 true e).trans (hgap i fr out hf (by omega) ho))]
   rw [ih (i+1) (i+1) _ (by omega) (Nat.le_refl _) (by rw [List.length_append];split<;>simp<;>omega)]
   have hnil:(s.take (i+1)).drop (i+1)=[]:=List.drop_eq_nil_of_le (by rw [List.length_take];omega)
   rw [hnil,hdrop,zF,if_pos h32]
   split
   ·simp
   ·simp
  ·have hne:¬((s[i].toNat:Int)=32):=fun e=>h32 (UInt8.toNat_inj.1 (by show s[i].toNat=32;omega))
   have e:decide ((s[i].toNat:Int)=32)=false:=by simp only [hne,decide_false]
   have hstep:zam s (out,(fr:Int),(i:Int)) false=some (.inl (out,(fr:Int),((i+1:Nat):Int))):=by
    unfold zam zcV
    rw [if_neg (by simp)]
    simp only [hw1 i (by omega)]
   rw [zI ((hl1 false e).trans hstep),ih (i+1) fr out (by omega) (by omega) (by omega),hdrop,zF,if_neg h32,zjU hc hf]
theorem zmN (s:List UInt8) (hs:s.length<=1000000):zgD s=some (zF s []):=by
 have h:iter (zal s) ([],0,0)=_:=zmj s hs s.length 0 0 [] (by omega) (by omega) (by simp)
 unfold zgD zgl
 rw [h]
 simp
theorem ziU (s:List UInt8) (hs:s.length<=1000000):zaA s=some (zF s []):=by
 unfold zaA
 rw [if_pos (by omega)]
theorem zgQ:∀ (s cur:List UInt8),(32:UInt8)∉cur->(zF s cur).length<=s.length+1/\∀ w∈zF s cur,w≠[]/\(32:UInt8)∉w/\w.length<=s.length+cur.length
 | [],cur,h=>by
  unfold zF
  split
  ·simp
  ·rename_i h0
   refine ⟨by simp,fun w hw=>?_⟩
   rw [List.mem_singleton.1 hw]
   exact ⟨h0,h,by simp⟩
 | c::s,cur,h=>by
  rw [zF]
  split
  ·have:=zgQ s [] (by simp)
   split
   ·refine ⟨by simp;omega,fun w hw=>?_⟩
    obtain ⟨a,b,c⟩:=this.2 w hw
    exact ⟨a,b,by simp at c ⊢;omega⟩
   ·rename_i h0
    refine ⟨by simp;omega,fun w hw=>?_⟩
    rcases List.mem_cons.1 hw with rfl | hw
    ·exact ⟨h0,h,by simp⟩
    ·obtain ⟨a,b,c⟩:=this.2 w hw
     exact ⟨a,b,by simp at c ⊢;omega⟩
  ·rename_i hc
   have:=zgQ s (cur++[c]) (by simp [h];exact fun e=>hc e.symm)
   refine ⟨by simp;omega,fun w hw=>?_⟩
   obtain ⟨a,b,c⟩:=this.2 w hw
   exact ⟨a,b,by simp at c ⊢;omega⟩
theorem ziE:∀ (a r cur:List UInt8),(32:UInt8)∉a->zF (a++r) cur=zF r (cur++a)
 | [],r,cur,_=>by simp
 | c::a,r,cur,h=>by
  simp only [List.mem_cons,not_or] at h
  rw [List.cons_append,zF,if_neg (fun e=>h.1 e.symm),ziE a r _ h.2]
  simp
theorem zqL {a b:List UInt8} (ha:a≠[]) (hb:b≠[]) (ha2:(32:UInt8)∉a) (hb2:(32:UInt8)∉b):zF (a++[32]++b) []=[a,b]:=by
 rw [List.append_assoc,ziE a _ _ ha2]
 show zF (32::b) _=_
 rw [zF,if_pos rfl,List.nil_append,if_neg ha]
 have:=ziE b [] [] hb2
 rw [List.append_nil] at this
 rw [this,List.nil_append,zF,if_neg hb]
end Go.Lf
namespace Go.Lf
open Go Go.Proofs Go.Sort
theorem zn5 (set:TSet) (s:List UInt8):zaQ set s=zay set s:=by
 unfold zaQ zay zed zc5 ze6
 have:zc4 set.2 (fun q0=>zcf q0 s)=zdx set s:=by
  funext i;rfl
 rw [this]
 cases iter (zdx set s) 0 with
 | none=>rfl
 | some z=>cases z<;>rfl
theorem zoo (set:TSet) (h:set.1.length<=100000) (s:List UInt8):zbS set s=zaz set s:=by
 unfold zbS zee zc7
 have hs:=ziq set h s
 rcases ziA set.1 (by omega) (fun q0=>zaY q0 s) (fun g=>decide (g.1=s)) (fun _ _=>rfl) (zc6 set.1 fun q0=>zaY q0 s) (fun i=>rfl) with ⟨hz,hall⟩ | ⟨k,hz,hk,hlow,b,hb,hq⟩
 ·rw [hz]
  rcases hs with ⟨h1,_⟩ | ⟨k,h1,h2,h3,g,h4,h5⟩
  ·rw [h1];rfl
  ·have:=hall g (List.mem_of_getElem? h4)
   simp [h5] at this
 ·rw [hz]
  have hw:w64 ((k:Int)+1)=(k:Int)+1:=zp (by omega) (by omega)
  rcases hs with ⟨_,h1⟩ | ⟨k',h1,h2,h3,g,h4,h5⟩
  ·exact absurd (by simpa using hq) (h1 b (List.mem_of_getElem? hb))
  ·have:k=k':=by
    rcases Nat.lt_trichotomy k k' with h | h | h
    ·exact absurd (by simpa using hq) (h3 k b h hb)
    ·exact h
    ·have:=hlow k' g h h4
     simp [h5] at this
   subst this
   rw [h1]
   simp [hw]
def PW (ts:List Plc):Prop:=ts.Pairwise fun a b=>lp a.1 b.1=true
theorem PW.srt {ts:List Plc} (h:PW ts):Srt ts:=by
 intro i j x y hij hx hy
 have hi:=zy hx
 have hj:=zy hy
 have:=List.pairwise_iff_getElem.1 h i j hi hj hij
 rw [List.getElem?_eq_getElem hi] at hx
 rw [List.getElem?_eq_getElem hj] at hy
 injection hx with hx
 injection hy with hy
 rw [←hx,←hy];exact this
def ins (x:Plc):List Plc->List Plc
 | []=>[x]
 | y::l=>if lp x.1 y.1=true then x::y::l else y::ins x l
theorem znb (x:Plc):∀ l,(ins x l).Perm (l++[x])
 | []=>.refl _
 | y::l=>by
  unfold ins
  split
  ·exact (List.perm_append_singleton x (y::l)).symm
  ·exact (znb x l).cons y
theorem zta {x z:Plc} {l:List Plc} (h:z∈ins x l):z=x\/z∈l:=by
 have:=(znb x l).mem_iff.1 h
 rcases List.mem_append.1 this with h | h
 ·exact .inr h
 ·exact .inl (List.mem_singleton.1 h)
theorem zsi {x:Plc}:∀ {l:List Plc},PW l->(∀ y∈l,y.1≠x.1)->PW (ins x l)
 | [],_,_=>List.pairwise_singleton _ _
 | y::l,h,hne=>by
  have h1:=(List.pairwise_cons.1 h).1
  have h2:=(List.pairwise_cons.1 h).2
  unfold ins
  split
  ·rename_i hl
   exact List.pairwise_cons.2 ⟨fun z hz=>by
    rcases List.mem_cons.1 hz with rfl | hz
    ·exact hl
    ·exact zjF hl (h1 z hz),h⟩
  ·rename_i hl
   have hyx:lp y.1 x.1=true:=zpb (by simpa using hl) (fun e=>hne y (by simp) e.symm)
   exact List.pairwise_cons.2 ⟨fun z hz=>by
    rcases zta hz with rfl | hz
    ·exact hyx
    ·exact h1 z hz,zsi h2 fun z hz=>hne z (by simp [hz])⟩
theorem zrK (ts:List Plc) (hl:ts.length<=100000) (p:Pt) (k:Int):zhY ts p k=some (ins (p,k) ts):=by
 have rest:∀ (d i:Nat) (out:List Plc),i+d=ts.length->out.length<=i+1->iter (zY ts p k) (true,(i:Int),out)=some (true,out++ts.drop i):=by
  intro d
  induction d with
  | zero=>
   intro i out hi ho
   have:i=ts.length:=by omega
   subst this
   apply zD
   unfold zY
   rw [if_neg (by simp),List.drop_length,List.append_nil]
  | succ d ih=>
   intro i out hi ho
   have hlt:i<ts.length:=by omega
   have hx:ts[i]?=some ts[i]:=List.getElem?_eq_getElem hlt
   have hw:w64 ((i:Int)+1)=((i+1:Nat):Int):=by rw [zp (by omega) (by omega)];omega
   have hstep:zY ts p k (true,(i:Int),out)=some (.inl (true,((i+1:Nat):Int),out++[ts[i]])):=by
    unfold zY zcW zcX
    rw [if_pos (by simp [hlt]),if_neg (by simp),if_neg (by simp)]
    simp only [zu hx,Option.bind_some,zaj (bytes:=24) (l:=out) (l2:=[ts[i]]) (by simp;omega) (by simp;omega),hw]
   rw [zI hstep,ih (i+1) _ (by omega) (by simp;omega),List.drop_eq_getElem_cons hlt]
   simp
 have main:∀ (d i:Nat) (out:List Plc),i+d=ts.length->out.length<=i->∃ b o,iter (zY ts p k) (false,(i:Int),out)=some (b,o)/\zd7 p k b o=some (out++ins (p,k) (ts.drop i)):=by
  intro d
  induction d with
  | zero=>
   intro i out hi ho
   have:i=ts.length:=by omega
   subst this
   refine ⟨false,out,zD ?_,?_⟩
   ·unfold zY
    rw [if_neg (by simp)]
   ·unfold zd7 zd6
    rw [if_pos (by simp),List.drop_length,zaj (by simp;omega) (by simp;omega)]
    rfl
  | succ d ih=>
   intro i out hi ho
   have hlt:i<ts.length:=by omega
   have hx:ts[i]?=some ts[i]:=List.getElem?_eq_getElem hlt
   have hw:w64 ((i:Int)+1)=((i+1:Nat):Int):=by rw [zp (by omega) (by omega)];omega
   have hd:=List.drop_eq_getElem_cons hlt
   cases hc:lp p ts[i].1 with
   | true=>
    have hstep:zY ts p k (false,(i:Int),out)=some (.inl (true,((i+1:Nat):Int),out++[(p,k)]++[ts[i]])):=by
     unfold zY zcW zcX
     rw [if_pos (by simp [hlt]),if_pos (by simp)]
     simp only [zu hx,Option.bind_some,zik,hc,if_true,zaj (bytes:=24) (l:=out) (l2:=[(p,k)]) (by simp;omega) (by simp;omega),
      zaj (bytes:=24) (l:=out++[(p,k)]) (l2:=[ts[i]]) (by simp;omega) (by simp;omega),hw]
    refine ⟨true,_,(zI hstep).trans (rest d (i+1) _ (by omega) (by simp;omega)),?_⟩
    unfold zd7 zd6
    rw [if_neg (by simp),hd,ins,if_pos hc]
    simp
   | false=>
    have hstep:zY ts p k (false,(i:Int),out)=some (.inl (false,((i+1:Nat):Int),out++[ts[i]])):=by
     unfold zY zcW zcX
     rw [if_pos (by simp [hlt]),if_pos (by simp)]
     simp only [zu hx,Option.bind_some,zik,hc,zaj (bytes:=24) (l:=out) (l2:=[ts[i]]) (by simp;omega) (by simp;omega),hw]
     rfl
    obtain ⟨b,o,h1,h2⟩:=ih (i+1) (out++[ts[i]]) (by omega) (by simp;omega)
    refine ⟨b,o,(zI hstep).trans h1,?_⟩
    rw [h2,hd,ins,if_neg (by simp [hc])]
    simp
 obtain ⟨b,o,h1,h2⟩:=main ts.length 0 [] (by omega) (by simp)
 have h1:iter (zY ts p k) (false,0,[])=some (b,o):=h1
 unfold zhY
 simp only [h1,Option.bind_some,h2]
 simp
theorem zqk {pl ts:List Plc} (hl:pl.length<=1000000) (hp:ts.Perm pl) (hs:PW ts):zdz pl=some ts:=by
 unfold zdz
 rw [if_pos (by omega)]
 congr 1
 have hlt:(fun x y:Plc=>decide (z8 x y<0))=ltOf z8:=rfl
 have h:=pdq_sorts (ltOf z8) zsK pl.toArray 0 pl.length (Lib.bitLen pl.length) true true (Nat.zero_le _) (by simp) (Or.inl rfl)
 obtain ⟨r,hr⟩:∃ r:Array Plc,r=pdq (ltOf z8) pl.toArray 0 pl.length (Lib.bitLen pl.length) true true:=⟨_,rfl⟩
 show (pdq (ltOf z8) pl.toArray 0 pl.length (Lib.bitLen pl.length) true true).toList=ts
 rw [←hr] at h ⊢
 obtain ⟨⟨h1,_,h3⟩,h4⟩:=h
 have h1:r.size=pl.length:=by simpa using h1
 have hperm:r.toList.Perm pl:=by
  have e1:(r.extract 0 pl.length).toList=r.toList:=by rw [←h1];simp
  have e2:(pl.toArray.extract 0 pl.length).toList=pl:=by simp
  rw [e1,e2] at h3
  exact h3
 have hcp:∀ a b:Plc,ltOf z8 a b=lp a.1 b.1:=by
  intro a b
  have:=znn (a:=a.1) (b:=b.1)
  exact this
 refine List.Perm.eq_of_pairwise (le:=fun a b=>lp b.1 a.1=false) ?_ ?_ ?_ (hperm.trans hp.symm)
 ·intro a b ha hb h5 h6
  have hab:a.1=b.1:=Classical.byContradiction fun e=>by
   have:=zpb h5 (fun e'=>e e'.symm)
   rw [this] at h6;cases h6
  have ha':a∈ts:=hp.mem_iff.2 (hperm.mem_iff.1 ha)
  obtain ⟨i,hi⟩:=List.getElem?_of_mem ha'
  obtain ⟨j,hj⟩:=List.getElem?_of_mem hb
  have hs':=hs.srt
  rcases Nat.lt_trichotomy i j with h | h | h
  ·exact absurd hab (znT (hs' i j a b h hi hj))
  ·subst h;rw [hi] at hj;injection hj
  ·exact absurd hab.symm (znT (hs' j i b a h hj hi))
 ·rw [List.pairwise_iff_getElem]
  intro i j hi hj hij
  have hi':i<r.size:=by simpa using hi
  have hj':j<r.size:=by simpa using hj
  have:=h4 i j (by omega) hij (by omega)
  rw [hcp,getElem!_pos r i hi',getElem!_pos r j hj'] at this
  simpa using this
 ·refine hs.imp fun {a b} hab=>?_
  cases h:lp b.1 a.1 with
  | false=>rfl
  | true=>exact absurd rfl (znT (zjF hab h))
end Go.Lf
namespace Go.Lf
open Go
structure Rel (n:Nat) (ig:List Gl) (it:List Tl) (pl:List Plc) (sg:List Gl) (st:List Tl) (ts:List Plc):Prop where
 g:ig=sg
 dash:(∃ g∈sg,g.1=[45])\/it=st
 tn:it.map (fun t=>t.1)=st.map (fun t=>t.1)
 perm:ts.Perm pl
 pw:PW ts
 gl:sg.length<=n
 tl:st.length<=n
 pl5:pl.length<=500
 gn:∀ x∈sg,x.1.length<=100000
 tn1:∀ x∈it,x.1.length<=100000/\x.2.length=4
 tn2:∀ x∈st,x.1.length<=100000/\x.2.length=4
theorem Rel.itl {n:Nat} {ig it pl sg st ts} (h:Rel n ig it pl sg st ts):it.length=st.length:=by
 have:=congrArg List.length h.tn
 simpa using this
theorem Rel.mono {n m:Nat} {ig it pl sg st ts} (h:Rel n ig it pl sg st ts) (hm:n<=m):Rel m ig it pl sg st ts:=
 ⟨h.g,h.dash,h.tn,h.perm,h.pw,Nat.le_trans h.gl hm,Nat.le_trans h.tl hm,h.pl5,h.gn,h.tn1,h.tn2⟩
theorem zpI {a b:List Gl} {it st:List Tl} (h:it.map (fun t=>t.1)=st.map (fun t=>t.1)) (hl:st.length<=100000) (s:List UInt8):zay (a,it) s=zay (b,st) s:=by
 have hlen:it.length=st.length:=by simpa using congrArg List.length h
 have hget:∀ j:Nat,(it[j]?).map (fun t=>t.1)=(st[j]?).map (fun t=>t.1):=fun j=>by
  rw [←List.getElem?_map,←List.getElem?_map,h]
 have h1:=zhu (a,it) (by show it.length<=_;omega) s
 have h2:=zhu (b,st) (by show st.length<=_;omega) s
 rcases h1 with ⟨e1,n1⟩ | ⟨k1,e1,l1,f1,g1,i1,j1⟩<;>rcases h2 with ⟨e2,n2⟩ | ⟨k2,e2,l2,f2,g2,i2,j2⟩
 ·rw [e1,e2]
 ·exfalso
  have:=hget k2
  have i2:st[k2]?=some g2:=i2
  rw [i2] at this
  cases hx:it[k2]? with
  | none=>rw [hx] at this;cases this
  | some x=>
   rw [hx] at this
   simp only [Option.map_some] at this
   injection this with this
   exact n1 x (List.mem_of_getElem? hx) (this.trans j2)
 ·exfalso
  have:=hget k1
  have i1:it[k1]?=some g1:=i1
  rw [i1] at this
  cases hx:st[k1]? with
  | none=>rw [hx] at this;cases this
  | some x=>
   rw [hx] at this
   simp only [Option.map_some] at this
   injection this with this
   exact n2 x (List.mem_of_getElem? hx) (this.symm.trans j1)
 ·have i1:it[k1]?=some g1:=i1
  have i2:st[k2]?=some g2:=i2
  have:k1=k2:=by
   rcases Nat.lt_trichotomy k1 k2 with h | h | h
   ·have hg:=hget k1
    rw [i1] at hg
    cases hx:st[k1]? with
    | none=>rw [hx] at hg;cases hg
    | some x=>
     rw [hx] at hg
     simp only [Option.map_some] at hg
     injection hg with hg
     exact absurd (hg.symm.trans j1) (f2 k1 x h hx)
   ·exact h
   ·have hg:=hget k2
    rw [i2] at hg
    cases hx:it[k2]? with
    | none=>rw [hx] at hg;cases hg
    | some x=>
     rw [hx] at hg
     simp only [Option.map_some] at hg
     injection hg with hg
     exact absurd (hg.trans j2) (f1 k2 x h hx)
  rw [e1,e2,this]
abbrev Sys:=TSet×(List Plc×Int)
abbrev Rdr:=Bool×Sys×TSet×(List UInt8×(TSet×List Plc))
abbrev rdr (begun:Bool) (temp:Int) (ig:List Gl) (it:List Tl) (w:List UInt8) (s2:TSet) (pl:List Plc):Rdr:=(begun,((([],[]),([],temp)),((ig,it),(w,(s2,pl)))))
noncomputable def ziC (sg:List Gl) (st:List Tl) (w:List UInt8):Int:=(zaz (sg,st) w).getD 0
theorem znV {sg:List Gl} (st:List Tl) (hg:sg.length<=100000) (w:List UInt8):zaz (sg,st) w=some (ziC sg st w):=by
 unfold ziC
 rcases ziq (sg,st) hg w with ⟨h,_⟩ | ⟨k,h,_⟩
 ·rw [h];rfl
 ·rw [h];rfl
theorem zpk {sg:List Gl} (st:List Tl) (hg:sg.length<=100000) (h:¬ ∃ g∈sg,g.1=([45]:List UInt8)):ziC sg st [45]=0:=by
 unfold ziC
 rcases ziq (sg,st) hg [45] with ⟨h1,_⟩ | ⟨k,h1,_,_,g,h2,h3⟩
 ·rw [h1];rfl
 ·exact absurd ⟨g,List.mem_of_getElem? h2,h3⟩ h
noncomputable def zh0 (sg:List Gl) (w:List UInt8):Int:=if w=[45] then 0 else ziC sg [] w
def zfV (sg:List Gl) (w:List UInt8):Prop:=w=[45]\/ziC sg [] w≠0
theorem zp2 {p:Rdr} {sg:List Gl} (hp:p.2.2.1.1=sg) (hg:sg.length<=100000) (ws:List (List UInt8)) (hw:ws.length=4) :
  (iter (z7 p ws) (0,[])=some (.inl (ws.map (zh0 sg)))/\∀ w∈ws,zfV sg w)\/(iter (z7 p ws) (0,[])=some (.inr (3,p))/\¬ ∀ w∈ws,zfV sg w):=by
 have key:=zw (F:=z7 p ws) (fun s=>0<=s.1/\s.1<=ws.length/\s.2=(ws.take s.1.toNat).map (zh0 sg)/\∀ w∈ws.take s.1.toNat,zfV sg w) (fun s=>(ws.length - s.1).toNat)
  (fun z=>(z=.inl (ws.map (zh0 sg))/\∀ w∈ws,zfV sg w)\/(z=.inr (3,p)/\¬ ∀ w∈ws,zfV sg w)) ?_ (0,[]) ⟨by simp,by simp,by simp,by simp⟩
 ·obtain ⟨z,hz,⟨rfl,h⟩ | ⟨rfl,h⟩⟩:=key
  ·exact .inl ⟨hz,h⟩
  ·exact .inr ⟨hz,h⟩
 ·rintro ⟨i,acc⟩ ⟨h0,h1,ha,hall⟩
  simp only at h0 h1 ha hall
  obtain ⟨k,rfl⟩:=Int.eq_ofNat_of_zero_le h0
  simp only [Int.toNat_natCast] at ha hall
  have hal:acc.length<=4:=by rw [ha];simp;omega
  unfold z7 zaX
  by_cases hlt:k<ws.length
  ·have hx:ws[k]?=some ws[k]:=List.getElem?_eq_getElem hlt
   have hwk:w64 ((k:Int)+1)=(k:Int)+1:=zp (by omega) (by omega)
   have hk1:((k:Int)+1).toNat=k+1:=by omega
   have happ:∀ g:Int,app 8 acc [g]=some (acc++[g]):=fun g=>zaj (by simp;omega) (by simp;omega)
   rw [if_pos (by simp [hlt])]
   simp only [zu hx,Option.bind_some,happ,hwk]
   have go:zfV sg ws[k]->∃ s',some (Sum.inl ((k:Int)+1,acc++[zh0 sg ws[k]]))=some (Sum.inl s':(Int×List Int) ⊕ (List Int ⊕ (Int×Rdr)))/\(0<=s'.1/\s'.1<=ws.length/\s'.2=(ws.take s'.1.toNat).map (zh0 sg)/\∀ w∈ws.take s'.1.toNat,zfV sg w)/\(ws.length - s'.1).toNat<(ws.length - (k:Int)).toNat:=by
    intro hok
    refine ⟨_,rfl,⟨by simp only [];omega,by simp only [];omega,?_,?_⟩,by simp only [];omega⟩
    ·simp only [hk1]
     rw [zgg hx,List.map_append,←ha];rfl
    ·simp only [hk1]
     rw [zgg hx]
     intro w hw
     rcases List.mem_append.1 hw with hw | hw
     ·exact hall w hw
     ·rw [List.mem_singleton.1 hw];exact hok
   by_cases hd:ws[k]=[45]
   ·left
    rw [if_neg (by simp [hd])]
    have h:=go (.inl hd)
    have:zh0 sg ws[k]=0:=by unfold zh0;rw [if_pos hd]
    rw [this] at h
    exact h
   ·rw [if_pos (by simp [hd]),zoo _ (by rw [hp];exact hg)]
    have hgl:zaz p.2.2.1 ws[k]=some (ziC sg [] ws[k]):=by
     have:p.2.2.1=(sg,p.2.2.1.2):=by rw [←hp]
     rw [this,znV _ hg];rfl
    simp only [hgl,Option.bind_some]
    by_cases h0:ziC sg [] ws[k]=0
    ·right
     rw [if_pos (by simp [h0])]
     exact ⟨_,rfl,.inr ⟨rfl,fun h=>(h _ (List.mem_of_getElem? hx)).elim hd fun h'=>h' h0⟩⟩
    ·left
     rw [if_neg (by simp [h0])]
     have h:=go (.inr h0)
     have:zh0 sg ws[k]=ziC sg [] ws[k]:=by unfold zh0;rw [if_neg hd]
     rw [this] at h
     exact h
  ·right
   rw [if_neg (by simp;omega)]
   have hk:k=ws.length:=by omega
   subst hk
   rw [List.take_length] at ha hall
   exact ⟨_,rfl,.inl ⟨by rw [ha],hall⟩⟩
theorem zoO {p:Sys} {sg:List Gl} (hp:p.1.1=sg) (hg:sg.length<=100000) (a b:List UInt8) (ws:List (List UInt8)) (hw:ws.length=4) :
  (iter (za2 p (a::b::ws)) (2,[])=some (.inl (ws.map (ziC sg [])))/\∀ w∈ws,zfV sg w)\/(iter (za2 p (a::b::ws)) (2,[])=some (.inr (3,p))/\¬ ∀ w∈ws,zfV sg w):=by
 have key:=zw (F:=za2 p (a::b::ws)) (fun s=>∃ k:Nat,s.1=(k:Int)+2/\k<=ws.length/\s.2=(ws.take k).map (ziC sg [])/\∀ w∈ws.take k,zfV sg w) (fun s=>(6 - s.1).toNat)
  (fun z=>(z=.inl (ws.map (ziC sg []))/\∀ w∈ws,zfV sg w)\/(z=.inr (3,p)/\¬ ∀ w∈ws,zfV sg w)) ?_ (2,[]) ⟨0,by simp,by simp,by simp,by simp⟩
 ·obtain ⟨z,hz,⟨rfl,h⟩ | ⟨rfl,h⟩⟩:=key
  ·exact .inl ⟨hz,h⟩
  ·exact .inr ⟨hz,h⟩
 ·rintro ⟨i,acc⟩ ⟨k,rfl,h1,ha,hall⟩
  simp only at ha
  have hal:acc.length<=4:=by rw [ha];simp;omega
  unfold za2 zdk
  by_cases hlt:k<ws.length
  ·have hx:ws[k]?=some ws[k]:=List.getElem?_eq_getElem hlt
   have hx2:idx (a::b::ws) ((k:Int)+2)=some ws[k]:=zdM (by omega) (by rw [show ((k:Int)+2).toNat=k+2 by omega];exact hx)
   have hwk:w64 ((k:Int)+2+1)=((k+1:Nat):Int)+2:=by rw [zp (by omega) (by omega)];omega
   have happ:∀ g:Int,app 8 acc [g]=some (acc++[g]):=fun g=>zaj (by simp;omega) (by simp;omega)
   have hgl:zaz p.1 ws[k]=some (ziC sg [] ws[k]):=by
    have:p.1=(sg,p.1.2):=by rw [←hp]
    rw [this,znV _ hg];rfl
   rw [if_pos (by simp;omega)]
   simp only [hx2,Option.bind_some,hgl,happ,hwk]
   have go:zfV sg ws[k]->∃ s',some (Sum.inl (((k+1:Nat):Int)+2,acc++[ziC sg [] ws[k]]))=some (Sum.inl s':(Int×List Int) ⊕ (List Int ⊕ (Int×Sys)))/\(∃ k:Nat,s'.1=(k:Int)+2/\k<=ws.length/\s'.2=(ws.take k).map (ziC sg [])/\∀ w∈ws.take k,zfV sg w)/\(6 - s'.1).toNat<(6 - ((k:Int)+2)).toNat:=by
    intro hok
    refine ⟨_,rfl,⟨k+1,rfl,hlt,?_,?_⟩,by simp only [];omega⟩
    ·simp only
     rw [zgg hx,List.map_append,←ha];rfl
    ·rw [zgg hx]
     intro w hw
     rcases List.mem_append.1 hw with hw | hw
     ·exact hall w hw
     ·rw [List.mem_singleton.1 hw];exact hok
   by_cases h0:ziC sg [] ws[k]=0
   ·rw [if_pos (by simp [h0])]
    by_cases hd:ws[k]=[45]
    ·left
     rw [if_neg (by simp [hd])]
     exact go (.inl hd)
    ·right
     rw [if_pos (by simp [hd])]
     exact ⟨_,rfl,.inr ⟨rfl,fun h=>(h _ (List.mem_of_getElem? hx)).elim hd fun h'=>h' h0⟩⟩
   ·left
    rw [if_neg (by simp [h0]),if_neg (by simp)]
    exact go (.inr h0)
  ·right
   have hk:k=ws.length:=by omega
   rw [if_neg (by simp;omega)]
   subst hk
   rw [List.take_length] at ha hall
   exact ⟨_,rfl,.inl ⟨by rw [ha],hall⟩⟩
abbrev zeT:List UInt8:=[115,101,101,100]
abbrev zoE:List UInt8:=[103,108,117,101]
abbrev zqn:List UInt8:=[116,105,108,101]
def zoA (n:Nat) (temp:Int) (r:Option (Int×Rdr)) (q:Option (Int×Sys)):Prop:=
 (∃ c x y,r=some (c,x)/\q=some (c,y)/\c≠0) \/
 ∃ ig it w s2 pl sg st ts,r=some (0,rdr true temp ig it w s2 pl)/\q=some (0,((sg,st),(ts,temp)))/\Rel (n+1) ig it pl sg st ts
section
variable {n:Nat} {temp:Int} {ig:List Gl} {it:List Tl} {w:List UInt8} {s2:TSet} {pl:List Plc} {sg:List Gl} {st:List Tl} {ts:List Plc} {line:List UInt8}
theorem zbJ {c:Int} {x:Rdr} {y:Sys} {r:Option (Int×Rdr)} {q:Option (Int×Sys)} (h1:r=some (c,x)) (h2:q=some (c,y)) (hc:c≠0):zoA n temp r q:=.inl ⟨c,x,y,h1,h2,hc⟩
theorem znd {α:Type} (a:α) (l:List α):idx (a::l) 0=some a:=rfl
theorem zsj {α:Type} (a b:α) (l:List α):idx (a::b::l) 1=some b:=rfl
theorem zuf {α:Type} (a b c:α) (l:List α):idx (a::b::c::l) 2=some c:=rfl
theorem zpy (pl:List Plc) (hl:pl.length<=1000000) (p:Pt):∃ c,zag pl (fun q0=>zaf q0 p)=some c/\(c=true↔∃ x∈pl,x.1=p):=by
 unfold zag zcz zbs
 rcases ziA pl hl (fun q0=>zaf q0 p) (fun x=>decide (x.1.1=p.1)&&decide (x.1.2=p.2)) (fun _ _=>rfl) (zbr pl fun q0=>zaf q0 p) (fun i=>rfl) with ⟨hz,hall⟩ | ⟨k',hz,hk',hlow,x,hx,hq⟩
 ·rw [hz]
  refine ⟨false,rfl,fun h=>(by cases h),fun ⟨x,hx,e⟩=>?_⟩
  have:=hall x hx
  rw [e] at this
  simp at this
 ·rw [hz]
  refine ⟨true,by simp,fun _=>⟨x,List.mem_of_getElem? hx,?_⟩,fun _=>rfl⟩
  simp at hq
  exact zqz hq.1 hq.2
theorem zqW (hn:n<=30000) (h:Rel n ig it pl sg st ts) (hl:line.length<=20000) {ws:List (List UInt8)} (hws:zF line []=zeT::ws) :
  zoA n temp (zA (rdr true temp ig it w s2 pl) line) (zaa ((sg,st),(ts,temp)) (zF line []) false):=by
 have hpr:=zgQ line [] (by simp)
 rw [hws] at hpr ⊢
 have hiw:=ziU line (by omega)
 rw [hws] at hiw
 have eqS:decide (zeT=([115,101,101,100]:List UInt8))=true:=by decide
 have eqG:decide (zeT=([103,108,117,101]:List UInt8))=false:=by decide
 have eqT:decide (zeT=([116,105,108,101]:List UInt8))=false:=by decide
 have hA:zA (rdr true temp ig it w s2 pl) line=(zas (rdr true temp ig it zeT (ig,it) pl) line).bind fun x74=>some (x74.1,rdr true temp ig it zeT (ig,it) x74.2.2.2.2.2.2):=by
  unfold zA z6
  simp only [hiw,Option.bind_some,znd,eqS]
  rw [if_neg (by simp [rdr]),if_pos (by simp)]
  rfl
 have hB:zaa ((sg,st),(ts,temp)) (zeT::ws) false=if !decide ((((zeT::ws).length:Nat):Int)=3) then (some (6,((sg,st),(ts,temp)))) else ((idx (zeT::ws) 1).bind fun x58=>(idx (zeT::ws) 2).bind fun x62=>(zdU ((sg,st),(ts,temp)) x58 x62).bind fun x66=>some (x66.1,((sg,st),(x66.2.2.1,temp)))):=by
  unfold zaa
  rw [if_neg (by simp),if_neg (by simp;omega)]
  simp only [znd,Option.bind_some,eqS,eqG,eqT,Bool.false_eq_true,if_false,if_true,decide_true]
 have hC:zas (rdr true temp ig it zeT (ig,it) pl) line=if !decide ((((zeT::ws).length:Nat):Int)=3) then some (6,rdr true temp ig it zeT (ig,it) pl) else zad (rdr true temp ig it zeT (ig,it) pl) (zeT::ws) false:=by
  unfold zas
  simp only [hiw,Option.bind_some,znd]
  rfl
 rw [hA,hB,hC]
 match ws,hws,hpr with
 | [],_,_=>
  rw [if_pos (by simp),if_pos (by simp)]
  exact zbJ rfl rfl (by omega)
 | [a],_,_=>
  rw [if_pos (by simp),if_pos (by simp)]
  exact zbJ rfl rfl (by omega)
 | a::b::c::l,_,_=>
  rw [if_pos (by simp;omega),if_pos (by simp;omega)]
  exact zbJ rfl rfl (by omega)
 | [a,b],_,hpr=>
  obtain ⟨a1,a2,a3⟩:=hpr.2 a (by simp)
  obtain ⟨b1,b2,b3⟩:=hpr.2 b (by simp)
  simp only [List.length_nil,Nat.add_zero] at a3 b3
  rw [if_neg (by simp),if_neg (by simp)]
  unfold zad
  rw [if_neg (by simp)]
  simp only [zsj,zuf,Option.bind_some]
  have c1:ziK a [32]=some (a++[32]):=by unfold ziK;rw [if_pos (by simp;omega)]
  have c2:ziK (a++[32]) b=some (a++[32]++b):=by unfold ziK;rw [if_pos (by simp;omega)]
  have hw2:zaA (a++[32]++b)=some [a,b]:=by rw [ziU _ (by simp;omega),zqL a1 b1 a2 b2]
  obtain ⟨r,hr,hr',hr2⟩:=zoc b (by omega)
  have htn:zaQ (ig,it) a=zay (sg,st) a:=by
   rw [zn5,zpI h.tn (by have:=h.tl;omega)]
  simp only [c1,c2,Option.bind_some]
  unfold zbR zdU
  dsimp only [rdr]
  simp only [hw2,Option.bind_some,znd,zsj,hr,hr',htn]
  have hl2:decide ((([a,b].length:Nat):Int)=2)=true:=by simp
  simp only [hl2,Bool.not_true,Bool.false_eq_true,if_false]
  cases hok:r.2 with
  | false=>
   rcases zhu (sg,st) (by show st.length<=_;have:=h.tl;omega) a with ⟨e,_⟩ | ⟨k,e,_⟩
   ·rw [e];exact zbJ rfl rfl (by omega)
   ·rw [e];exact zbJ rfl rfl (by omega)
  | true=>
   rcases zhu (sg,st) (by show st.length<=_;have:=h.tl;omega) a with ⟨e,_⟩ | ⟨k,e,hkl,_⟩
   ·rw [e];exact zbJ rfl rfl (by omega)
   ·have hpll:=h.perm.length_eq
    have h55:=h.pl5
    obtain ⟨j,hj,hjat⟩:=zmS h.pw.srt (by omega) r.1
    obtain ⟨c,hc,hcc⟩:=zpy pl (by omega) r.1
    have hk0:decide ((k:Int)<0)=false:=by rw [decide_eq_false_iff_not];omega
    simp only [e,Option.bind_some,Bool.not_true,Bool.false_eq_true,if_false,hk0,hj,hc]
    cases c with
    | true=>
     obtain ⟨x,hx,hxe⟩:=hcc.1 rfl
     rcases hjat with ⟨h0,_⟩ | ⟨_,hno⟩
     ·have hj0:decide (j≥0)=true:=by rw [decide_eq_true_eq];omega
      simp only [hj0,if_true,Option.bind_some]
      exact zbJ rfl rfl (by omega)
     ·exact absurd hxe (hno x (h.perm.mem_iff.2 hx))
    | false=>
     have hno:∀ x∈ts,x.1≠r.1:=fun x hx hxe=>by
      have:=hcc.2 ⟨x,h.perm.mem_iff.1 hx,hxe⟩
      cases this
     rcases hjat with ⟨_,x,hx,hxe⟩ | ⟨rfl,_⟩
     ·exact absurd hxe (hno x (List.mem_of_getElem? hx))
     ·have hj0:decide ((-1:Int)≥0)=false:=by decide
      simp only [hj0,Bool.false_eq_true,if_false]
      by_cases h5:pl.length≥500
      ·have c1:decide ((pl.length:Int)≥500)=true:=by rw [decide_eq_true_eq];omega
       have c2:decide ((ts.length:Int)=500)=true:=by rw [decide_eq_true_eq];omega
       simp only [c1,c2,if_true,Option.bind_some]
       exact zbJ rfl rfl (by omega)
      ·have c1:decide ((pl.length:Int)≥500)=false:=by rw [decide_eq_false_iff_not];omega
       have c2:decide ((ts.length:Int)=500)=false:=by rw [decide_eq_false_iff_not];omega
       simp only [c1,c2,Bool.false_eq_true,if_false,zrK ts (by omega:ts.length<=100000),zaj (bytes:=24) (l:=pl) (l2:=[(r.1,(k:Int))]) (by simp;omega) (by simp;omega),Option.bind_some]
       refine .inr ⟨ig,it,zeT,(ig,it),pl++[(r.1,(k:Int))],sg,st,ins (r.1,(k:Int)) ts,rfl,rfl,?_⟩
       refine ⟨h.g,h.dash,h.tn,(znb _ _).trans (h.perm.append_right _),zsi h.pw fun y hy=>hno y hy,by have:=h.gl;omega,by have:=h.tl;omega,by simp;omega,h.gn,h.tn1,h.tn2⟩
theorem zrP (hn:n<=30000) (h:Rel n ig it pl sg st ts) (hl:line.length<=20000) (hws:∀ ws,zF line []≠zeT::ws) :
  zoA n temp (zA (rdr true temp ig it w s2 pl) line) (zaa ((sg,st),(ts,temp)) (zF line []) false):=by
 have hpr:=zgQ line [] (by simp)
 have hiw:=ziU line (by omega)
 obtain ⟨W,hW⟩:∃ W,W=zF line []:=⟨_,rfl⟩
 rw [←hW] at hpr hiw hws ⊢
 have hpll:=h.perm.length_eq
 have hitl:=h.itl
 have hA:zA (rdr true temp ig it w s2 pl) line=z6 (rdr true temp ig it w s2 pl) line false:=by
  unfold zA
  simp only [hiw,Option.bind_some]
  rw [if_neg (by simp [rdr])]
  cases W with
  | nil=>rw [if_neg (by simp)]
  | cons a l=>
   rw [if_pos (by simp)]
   simp only [znd,Option.bind_some]
   have:¬a=zeT:=fun e=>hws l (by rw [e])
   simp only [this,decide_false]
 rw [hA]
 unfold z6
 rw [if_neg (by simp)]
 by_cases h0:pl.length>0
 ·rw [if_pos (by show decide ((pl.length:Int)>0)=true;rw [decide_eq_true_eq];omega)]
  refine zbJ (c:=6) (y:=((sg,st),(ts,temp))) rfl ?_ (by omega)
  ·unfold zaa
   rw [if_neg (by simp)]
   cases W with
   | nil=>rw [if_pos (by simp)]
   | cons a l=>
    have h1:¬a=zeT:=fun e=>hws l (by rw [e])
    rw [if_neg (by simp;omega)]
    simp only [znd,Option.bind_some]
    by_cases h2:a=zoE
    ·rw [if_pos (by simpa using h2),if_pos (by simp;omega)]
    ·rw [if_neg (by simpa using h2)]
     by_cases h3:a=zqn
     ·rw [if_pos (by simpa using h3),if_pos (by simp;omega)]
     ·rw [if_neg (by simpa using h3),if_neg (by simpa using h1)]
 ·rw [if_neg (by show ¬decide ((pl.length:Int)>0)=true;rw [decide_eq_true_eq];omega)]
  have hts:¬((ts.length:Int)>0):=by omega
  have hB:∀ b,(∀ (a l),W=a::l->(decide ((W.length:Int)=3)&&decide (a=zoE)&&decide (((it.length:Nat):Int)=0))=b)->(W=[]->b=false)->
    zaP (rdr true temp ig it w s2 pl) line=zE (rdr true temp ig it w s2 pl) W b:=by
   intro b hb hb0
   unfold zaP
   simp only [hiw,Option.bind_some]
   cases W with
   | nil=>
    rw [if_neg (by simp),hb0 rfl]
   | cons a l=>
    have:=hb a l rfl
    by_cases h3:(((a::l).length:Nat):Int)=3
    ·rw [if_pos (by simpa using h3)]
     simp only [znd,Option.bind_some]
     by_cases h4:a=zoE
     ·subst h4
      rw [if_pos (by simp)]
      congr 1
      rw [←this]
      have h3d:decide ((((zoE::l).length:Nat):Int)=3)=true:=by rw [decide_eq_true_eq];exact h3
      simp only [h3d,decide_true,Bool.true_and]
     ·rw [if_neg (by simpa using h4)]
      congr 1
      rw [←this]
      simp [h4]
    ·rw [if_neg (by simpa using h3)]
     congr 1
     rw [←this]
     simp only [h3,decide_false,Bool.false_and]
  have h6:∀ b,b=false->(∀ l,W=zqn::l->W.length≠6)->zE (rdr true temp ig it w s2 pl) W b=some (6,rdr true temp ig it w s2 pl):=by
   intro b hb ht
   subst hb
   unfold zE zar
   rw [if_neg (by simp)]
   by_cases h7:W.length=6
   ·rw [if_neg (by simp;omega)]
    cases W with
    | nil=>simp at h7
    | cons a l=>
     simp only [znd,Option.bind_some]
     have:¬a=zqn:=fun e=>ht l (by rw [e]) h7
     simp only [this,decide_false]
     rfl
   ·rw [if_pos (by simp;omega),if_pos rfl]
  cases W with
  | nil=>
   rw [hB false (fun a l e=>by cases e) (fun _=>rfl),h6 false rfl (fun l e=>by cases e)]
   refine zbJ (y:=((sg,st),(ts,temp))) rfl ?_ (by omega:(6:Int)≠0)
   ·unfold zaa
    rw [if_neg (by simp),if_pos (by simp)]
  | cons a l=>
   have h1:¬a=zeT:=fun e=>hws l (by rw [e])
   unfold zaa
   rw [if_neg (by simp),if_neg (by simp;omega)]
   simp only [znd,Option.bind_some]
   by_cases h2:a=zoE
   ·rw [if_pos (by simpa using h2),if_neg (by simpa using hts)]
    unfold zg1 zdl
    by_cases h3:((a::l).length=3/\it.length=0)
    ·rw [hB true (fun a' l' e=>by
      injection e with e1 e2
      subst e1
      simp [h3.2,h2]
      have:=h3.1;simp at this;omega) (fun e=>by cases e)]
     have hst0:=h3.2
     rw [if_neg (by simp;have:=h3.1;simp at this;omega),if_neg (by show ¬decide ((st.length:Int)>0)=true;rw [decide_eq_true_eq];omega)]
     unfold zE
     rw [if_pos rfl]
     match l,h3.1,hpr with
     | [x,y],_,hpr=>
      obtain ⟨_,_,x3⟩:=hpr.2 x (by simp)
      obtain ⟨_,_,y3⟩:=hpr.2 y (by simp)
      simp only [List.length_nil,Nat.add_zero] at x3 y3
      obtain ⟨r,hr,hr',_⟩:=zc9 y (by omega)
      simp only [zsj,zuf,Option.bind_some,hr,hr']
      have hgl:=h.gl
      have hgg:=h.g
      have hgl2:ig.length=sg.length:=by rw [hgg]
      cases hok:r.2 with
      | false=>exact zbJ rfl rfl (by omega)
      | true=>
       rw [if_neg (by simp),if_neg (by simp)]
       have e1:app 24 (rdr true temp ig it w s2 pl).2.2.1.1 [(x,r.1)]=some (ig++[(x,r.1)]):=zaj (by simp [rdr];omega) (by simp [rdr];omega)
       have e2:app 24 sg [(x,r.1)]=some (sg++[(x,r.1)]):=zaj (by simp;omega) (by simp;omega)
       simp only [e1,e2,Option.bind_some]
       refine .inr ⟨ig++[(x,r.1)],it,w,s2,pl,sg++[(x,r.1)],st,ts,rfl,rfl,?_⟩
       refine ⟨by rw [hgg],?_,h.tn,h.perm,h.pw,by simp;omega,by have:=h.tl;omega,h.pl5,?_,h.tn1,h.tn2⟩
       ·rcases h.dash with ⟨g,hg,e⟩ | e
        ·exact .inl ⟨g,List.mem_append_left _ hg,e⟩
        ·exact .inr e
       ·intro g hg
        rcases List.mem_append.1 hg with hg | hg
        ·exact h.gn g hg
        ·rw [List.mem_singleton.1 hg];show x.length<=100000;omega
    ·rw [hB false (fun a' l' e=>by
      injection e with e1 e2
      subst e1
      rw [Bool.eq_false_iff]
      intro hh
      simp only [Bool.and_eq_true,decide_eq_true_eq] at hh
      exact h3 ⟨by omega,by omega⟩) (fun e=>by cases e)]
     rw [h6 false rfl (fun l' e=>by injection e with e1 _;rw [h2] at e1;exact absurd e1 (by decide))]
     by_cases h4:(a::l).length=3
     ·rw [if_neg (by simp;simp at h4;omega),if_pos (by simp;omega)]
      exact zbJ rfl rfl (by omega)
     ·rw [if_pos (by simp;simp at h4;omega),if_pos rfl]
      exact zbJ rfl rfl (by omega)
   ·rw [if_neg (by simpa using h2)]
    have hb:zaP (rdr true temp ig it w s2 pl) line=zE (rdr true temp ig it w s2 pl) (a::l) false:=hB false (fun a' l' e=>by
      injection e with e1 e2
      subst e1
      simp [h2]) (fun _=>rfl)
    rw [hb]
    by_cases h3:a=zqn
    ·rw [if_pos (by simpa using h3),if_neg (by simpa using hts)]
     unfold zg0
     by_cases h4:(a::l).length=6
     rotate_left
     ·rw [h6 false rfl (fun l' e=>h4),if_pos (by simp;simp at h4;omega)]
      exact zbJ rfl rfl (by omega)
     rw [if_neg (by simp;simp at h4;omega)]
     unfold zE zar
     rw [if_neg (by simp),if_neg (by simp;simp at h4;omega)]
     simp only [znd,Option.bind_some]
     rw [if_neg (by simp [h3])]
     match l,h4,hpr with
     | b::ws,h4,hpr=>
      have hw4:ws.length=4:=by simp at h4;omega
      have hgl:=h.gl
      have hsub:zaL (a::b::ws) 2 (((a::b::ws).length:Nat):Int)=some ws:=by
       have:=zk6 (s:=a::b::ws) (k:=2) (by simp)
       exact this
      simp only [zsj,Option.bind_some,hsub]
      obtain ⟨_,_,b3⟩:=hpr.2 b (by simp)
      simp only [List.length_nil,Nat.add_zero] at b3
      have hI:=zp2 (p:=rdr true temp ig it w s2 pl) (sg:=sg) (by show ig=sg;exact h.g) (by omega) ws hw4
      have hS:=zoO (p:=((sg,st),(ts,temp))) (sg:=sg) rfl (by omega) a b ws hw4
      rcases hI with ⟨i1,i2⟩ | ⟨i1,i2⟩<;>rcases hS with ⟨s1,s2'⟩ | ⟨s1,s2'⟩
      ·rw [i1,s1]
       simp only [Option.bind_some]
       unfold zce zfk
       have htl:=h.tl
       have e1:app 40 (rdr true temp ig it w s2 pl).2.2.1.2 [(b,ws.map (zh0 sg))]=some (it++[(b,ws.map (zh0 sg))]):=zaj (by simp [rdr];omega) (by simp [rdr];omega)
       have e2:app 40 st [(b,ws.map (ziC sg []))]=some (st++[(b,ws.map (ziC sg []))]):=zaj (by simp;omega) (by simp;omega)
       simp only [e1,e2,Option.bind_some]
       refine .inr ⟨ig,it++[(b,ws.map (zh0 sg))],w,s2,pl,sg,st++[(b,ws.map (ziC sg []))],ts,rfl,rfl,?_⟩
       refine ⟨h.g,?_,by simp [h.tn],h.perm,h.pw,by omega,by simp;omega,h.pl5,h.gn,?_,?_⟩
       ·by_cases hdash:∃ g∈sg,g.1=([45]:List UInt8)
        ·exact .inl hdash
        ·right
         have e:=h.dash.resolve_left hdash
         have:ws.map (zh0 sg)=ws.map (ziC sg []):=by
          apply List.map_congr_left
          intro x _
          unfold zh0
          split
          ·rename_i hx;rw [hx,zpk [] (by omega) hdash]
          ·rfl
         rw [e,this]
       ·intro x hx
        rcases List.mem_append.1 hx with hx | hx
        ·exact h.tn1 x hx
        ·rw [List.mem_singleton.1 hx];exact ⟨by show b.length<=100000;omega,by simp [hw4]⟩
       ·intro x hx
        rcases List.mem_append.1 hx with hx | hx
        ·exact h.tn2 x hx
        ·rw [List.mem_singleton.1 hx];exact ⟨by show b.length<=100000;omega,by simp [hw4]⟩
      ·exact absurd i2 s2'
      ·exact absurd s2' i2
      ·rw [i1,s1]
       exact zbJ rfl rfl (by omega)
    ·rw [if_neg (by simpa using h3),if_neg (by simpa using h1)]
     rw [h6 false rfl (fun l' e=>by injection e with e1 _;exact absurd e1 h3)]
     exact zbJ rfl rfl (by omega)
end
abbrev Zs:Sys:=(([],[]),([],0))
abbrev zt0:List UInt8:=[116,101,109,112,101,114,97,116,117,114,101]
theorem zp9 {line:List UInt8} (hl:line.length<=20000) :
  (∃ c x y,zA (rdr false 0 [] [] [] ([],[]) []) line=some (c,x)/\zaa Zs (zF line []) true=some (c,y)/\c≠0) \/
  ∃ t,zA (rdr false 0 [] [] [] ([],[]) []) line=some (0,rdr true t [] [] [] ([],[]) [])/\zaa Zs (zF line []) true=some (0,(([],[]),([],t))):=by
 have hpr:=zgQ line [] (by simp)
 have hiw:=ziU line (by omega)
 obtain ⟨W,hW⟩:∃ W,W=zF line []:=⟨_,rfl⟩
 rw [←hW] at hpr hiw ⊢
 have hk1:zaq (rdr false 0 [] [] [] ([],[]) []) W true=some (6,rdr false 0 [] [] [] ([],[]) []):=rfl
 have hs1:zdv Zs W true=some (6,Zs):=rfl
 unfold zA zaa
 simp only [hiw,Option.bind_some,Bool.not_false,if_true]
 by_cases h2:((W.length:Nat):Int)=2
 ·simp only [h2,decide_true,Bool.not_true,Bool.false_eq_true,if_false]
  match W,h2,hpr with
  | [a,b],_,hpr=>
   simp only [znd,Option.bind_some]
   obtain ⟨_,_,b3⟩:=hpr.2 b (by simp)
   simp only [List.length_nil,Nat.add_zero] at b3
   by_cases ha:a=zt0
   ·simp only [ha,decide_true,Bool.not_true]
    unfold zaq zdv
    rw [if_neg (by simp),if_neg (by simp)]
    obtain ⟨r,hr,hr',_⟩:=zc9 b (by omega)
    simp only [zsj,Option.bind_some,hr,hr']
    cases hok:r.2 with
    | false=>exact .inl ⟨6,_,_,rfl,rfl,by omega⟩
    | true=>exact .inr ⟨r.1,rfl,rfl⟩
   ·simp only [ha,decide_false,Bool.not_false]
    exact .inl ⟨6,_,_,rfl,rfl,by omega⟩
 ·simp only [h2,decide_false,Bool.not_false,if_true]
  exact .inl ⟨6,_,_,hk1,hs1,by omega⟩
def zum (n:Nat) (r:Option ((Bool×Int×List Gl×List Tl×List UInt8×List Gl×List Tl×List Plc) ⊕ (Sys×Er))) (q:Option ((List Gl×List Tl×List Plc×Int) ⊕ (Sys×Int×Int))):Prop:=
 (∃ ln c,r=some (.inr (Zs,Er.line ln c))/\q=some (.inr (Zs,ln,c))/\c≠0) \/
 ∃ b temp ig it w g2 t2 pl sg st ts,r=some (.inl (b,temp,ig,it,w,g2,t2,pl))/\q=some (.inl (sg,st,ts,temp))/\Rel n ig it pl sg st ts
theorem zpS {lines:List (List UInt8)} (hn:lines.length<=30000) (hl:∀ l∈lines,l.length<=20000):∀ (d k:Nat) (temp:Int) (ig:List Gl) (it:List Tl) (w:List UInt8) (g2:List Gl) (t2:List Tl) (pl:List Plc) (sg:List Gl) (st:List Tl) (ts:List Plc),
  k+d=lines.length->1<=k->Rel k ig it pl sg st ts->
  zum lines.length (iter (zH lines 0) ((k:Int),true,temp,ig,it,w,g2,t2,pl)) (iter (zV lines) ((k:Int),sg,st,ts,temp)):=by
 intro d
 induction d with
 | zero=>
  intro k temp ig it w g2 t2 pl sg st ts hk hk1 h
  have:k=lines.length:=by omega
  subst this
  refine .inr ⟨true,temp,ig,it,w,g2,t2,pl,sg,st,ts,zD ?_,zD ?_,h⟩
  ·unfold zH
   rw [if_neg (by simp)]
  ·unfold zV
   rw [if_neg (by simp)]
 | succ d ih=>
  intro k temp ig it w g2 t2 pl sg st ts hk hk1 h
  have hlt:k<lines.length:=by omega
  have hx:lines[k]?=some lines[k]:=List.getElem?_eq_getElem hlt
  have hll:=hl _ (List.getElem_mem hlt)
  have hw0:w64 (0+(k:Int))=(k:Int):=by rw [Int.zero_add];exact zp (by omega) (by omega)
  have hw1:w64 ((k:Int)+1)=((k+1:Nat):Int):=by rw [zp (by omega) (by omega)];omega
  have hd0:decide ((k:Int)=0)=false:=by rw [decide_eq_false_iff_not];omega
  have hdl:decide ((k:Int)<(lines.length:Int))=true:=by rw [decide_eq_true_eq];omega
  have hline:zoA k temp (zA (rdr true temp ig it w (g2,t2) pl) lines[k]) (zaa ((sg,st),(ts,temp)) (zF lines[k] []) false):=by
   by_cases hws:∃ ws,zF lines[k] []=zeT::ws
   ·obtain ⟨ws,hws⟩:=hws
    exact zqW (by omega) h hll hws
   ·exact zrP (by omega) h hll fun ws e=>hws ⟨ws,e⟩
  have hI:∀ z,zA (rdr true temp ig it w (g2,t2) pl) lines[k]=some z->zH lines 0 ((k:Int),true,temp,ig,it,w,g2,t2,pl) =
    if !decide (z.1=0) then some (.inr (.inr (Zs,Er.line ((k+1:Nat):Int) z.1))) else some (.inl (((k+1:Nat):Int),z.2.1,z.2.2.1.2.2,z.2.2.2.1.1,z.2.2.2.1.2,z.2.2.2.2.1,z.2.2.2.2.2.1.1,z.2.2.2.2.2.1.2,z.2.2.2.2.2.2)):=by
   intro z hz
   unfold zH
   simp only [hdl,if_true,zu hx,Option.bind_some,hz,hw0,hw1]
  have hS:∀ z,zaa ((sg,st),(ts,temp)) (zF lines[k] []) false=some z->zV lines ((k:Int),sg,st,ts,temp) =
    if !decide (z.1=0) then some (.inr (.inr (Zs,((k+1:Nat):Int),z.1))) else some (.inl (((k+1:Nat):Int),z.2.1.1,z.2.1.2,z.2.2.1,z.2.2.2)):=by
   intro z hz
   unfold zV
   simp only [hdl,if_true,zu hx,Option.bind_some,zmN lines[k] (by omega),hd0,hz,hw1]
  rcases hline with ⟨c,x,y,h1,h2,hc⟩ | ⟨ig',it',w',s2',pl',sg',st',ts',h1,h2,h3⟩
  ·refine .inl ⟨((k+1:Nat):Int),c,zD ?_,zD ?_,hc⟩
   ·rw [hI _ h1,if_pos (by simp [hc])]
   ·rw [hS _ h2,if_pos (by simp [hc])]
  ·have e1:=hI _ h1
   have e2:=hS _ h2
   rw [if_neg (by simp)] at e1 e2
   rw [zI e1,zI e2]
   exact ih (k+1) temp ig' it' w' s2'.1 s2'.2 pl' sg' st' ts' (by omega) (by omega) h3
theorem zt9 (n:Nat):Rel n [] [] [] [] [] []:=
 ⟨rfl,.inr rfl,rfl,.refl _,List.Pairwise.nil,by simp,by simp,by simp,by simp,by simp,by simp⟩
theorem zrw {lines:List (List UInt8)} (hn:lines.length<=30000) (hl:∀ l∈lines,l.length<=20000) :
  zum lines.length (iter (zH lines 0) (0,false,0,[],[],[],[],[],[])) (iter (zV lines) (0,[],[],[],0)):=by
 by_cases h0:lines=[]
 ·subst h0
  refine .inr ⟨false,0,[],[],[],[],[],[],[],[],[],zD ?_,zD ?_,zt9 _⟩
  ·unfold zH
   rw [if_neg (by simp)]
  ·unfold zV
   rw [if_neg (by simp)]
 ·have hp:=List.length_pos_iff.2 h0
  have hx:lines[0]?=some lines[0]:=List.getElem?_eq_getElem hp
  have hll:=hl _ (List.getElem_mem hp)
  have e0:idx lines 0=some lines[0]:=zu (i:=0) hx
  have hw0:w64 (0+(0:Int))=0:=by decide
  have hw1:w64 ((0:Int)+1)=((1:Nat):Int):=by decide
  have hdl:decide ((0:Int)<(lines.length:Int))=true:=by rw [decide_eq_true_eq];omega
  have hI:∀ z,zA (rdr false 0 [] [] [] ([],[]) []) lines[0]=some z->zH lines 0 (0,false,0,[],[],[],[],[],[]) =
    if !decide (z.1=0) then some (.inr (.inr (Zs,Er.line ((1:Nat):Int) z.1))) else some (.inl (((1:Nat):Int),z.2.1,z.2.2.1.2.2,z.2.2.2.1.1,z.2.2.2.1.2,z.2.2.2.2.1,z.2.2.2.2.2.1.1,z.2.2.2.2.2.1.2,z.2.2.2.2.2.2)):=by
   intro z hz
   unfold zH
   simp only [hdl,if_true,e0,Option.bind_some,hz,hw0,hw1]
  have hS:∀ z,zaa Zs (zF lines[0] []) true=some z->zV lines (0,[],[],[],0) =
    if !decide (z.1=0) then some (.inr (.inr (Zs,((1:Nat):Int),z.1))) else some (.inl (((1:Nat):Int),z.2.1.1,z.2.1.2,z.2.2.1,z.2.2.2)):=by
   intro z hz
   unfold zV
   simp only [hdl,if_true,e0,Option.bind_some,zmN lines[0] (by omega),decide_true,hz,hw1]
  rcases zp9 hll with ⟨c,x,y,h1,h2,hc⟩ | ⟨t,h1,h2⟩
  ·refine .inl ⟨((1:Nat):Int),c,zD ?_,zD ?_,hc⟩
   ·rw [hI _ h1,if_pos (by simp [hc])]
   ·rw [hS _ h2,if_pos (by simp [hc])]
  ·have e1:=hI _ h1
   have e2:=hS _ h2
   rw [if_neg (by simp)] at e1 e2
   rw [zI e1,zI e2]
   exact zpS hn hl (lines.length - 1) 1 t [] [] [] [] [] [] [] [] [] (by omega) (by omega) (zt9 1)
def ztt (s:Sys):Prop:=s=Zs\/(SetOk s.1/\znr s.1 s.2.1)
theorem zpv {set:TSet} (h:∃ g∈set.1,g.1=([45]:List UInt8)):¬SetOk set:=by
 rintro hS
 obtain ⟨g,hg,e⟩:=h
 obtain ⟨i,hi⟩:=List.getElem?_of_mem hg
 obtain ⟨⟨_,_,hn⟩,_⟩:=hS.glue i (zy hi) g hi
 rw [e] at hn
 rcases hn 0 45 rfl with h | ⟨h,_⟩
 ·exact absurd h (by decide)
 ·omega
theorem znz {s:List UInt8} (hs:s.length<=1048576):∃ w,ze8 s=some w/\zfg s=some w/\ztt w.1:=by
 unfold ze8 zfg
 by_cases h2:(s.length:Int)>20000
 ·rw [if_pos (by simpa using h2),if_pos (by simpa using h2)]
  exact ⟨_,rfl,rfl,.inl rfl⟩
 rw [if_neg (by simpa using h2),if_neg (by simpa using h2)]
 rw [zpM s (by omega),zp3 s (by omega)]
 simp only [Option.bind_some]
 obtain ⟨lines,hlines⟩:∃ l,l=zdo s []:=⟨_,rfl⟩
 have hlen:=zkD s []
 rw [←hlines] at hlen ⊢
 have hE:=zrw (lines:=lines) (by omega) (fun l hl=>by have:=hlen.2 l hl;simp only [List.length_nil] at this;omega)
 unfold zej
 rcases hE with ⟨ln,c,h1,h3,hc⟩ | ⟨b,temp,ig,it,w,g2,t2,pl,sg,st,ts,h1,h3,hR⟩
 ·rw [h1,h3]
  refine ⟨(Zs,ln,c),rfl,?_,.inl rfl⟩
  have hcd:decide (c=0)=false:=by simp [hc]
  simp only [Option.bind_some,zjO,hcd,Bool.not_false,if_true]
 ·rw [h1,h3]
  simp only [Option.bind_some]
  have hpll:=hR.perm.length_eq
  have h55:=hR.pl5
  have hgl:=hR.gl
  have htl:=hR.tl
  have hitl:=hR.itl
  have hT1:Tame (ig,it):=by
   have hg:=hR.g
   subst hg
   exact ⟨by show ig.length<=_;omega,by show it.length<=_;omega,hR.gn,fun x hx=>(hR.tn1 x hx).1,fun x hx=>by rw [(hR.tn1 x hx).2];omega⟩
  have hT2:Tame (sg,st):=⟨by show sg.length<=_;omega,by show st.length<=_;omega,hR.gn,fun x hx=>(hR.tn2 x hx).1,fun x hx=>by rw [(hR.tn2 x hx).2];omega⟩
  obtain ⟨v1,a1,a2,a3⟩:=zjk hT1 (ts:=ts) (by omega) temp
  obtain ⟨v2,b1,b2,b3⟩:=zjk hT2 (ts:=ts) (by omega) temp
  have hv:v1=v2/\(v2=true->it=st):=by
   rcases hR.dash with hd | e
   ·have n1:v1=false:=by
     cases v1 with
     | false=>rfl
     | true=>exact absurd (a3 rfl).1 (zpv (set:=(ig,it)) (by rw [hR.g];exact hd))
    have n2:v2=false:=by
     cases v2 with
     | false=>rfl
     | true=>exact absurd (b3 rfl).1 (zpv (set:=(sg,st)) hd)
    rw [n1,n2]
    exact ⟨rfl,fun h=>by cases h⟩
   ·have hg:=hR.g
    subst hg;subst e
    rw [a1] at b1
    injection b1 with b1
    exact ⟨b1,fun _=>rfl⟩
  have hsys:zbw b temp ig it w g2 t2 pl=some (if v1 then (((ig,it),(ts,temp)),Er.nil) else (Zs,Er.whole)):=by
   unfold zbw zcH
   simp only [zqk (by omega) hR.perm hR.pw,Option.bind_some,a1]
   cases v1<;>rfl
  have hspec:zdm sg st ts temp=some (if v2 then (((sg,st),(ts,temp)),0,0) else (Zs,0,1)):=by
   unfold zdm
   simp only [b2,Option.bind_some]
   cases v2<;>rfl
  simp only [hsys,hspec,Option.bind_some]
  cases hv2:v2 with
  | false=>
   rw [hv2] at hv
   rw [hv.1]
   exact ⟨(Zs,0,1),rfl,rfl,.inl rfl⟩
  | true=>
   rw [hv2] at hv b3
   rw [hv.1]
   refine ⟨(((sg,st),(ts,temp)),0,0),rfl,?_,.inr (b3 rfl)⟩
   have hg:=hR.g
   have e:=hv.2 rfl
   subst hg;subst e
   rfl
theorem zqb (l:List Int) (h:l.length<=100000):zgK l l=some true:=by
 unfold zgK zgu
 rw [if_neg (by simp)]
 have key:=zeH (fun i=>(i:Int)) 0 l.length (fun _=>True) (zbX l l) (by omega) ?_ (fun i _ _ _ h=>absurd trivial h) ?_
 ·rcases key with ⟨hz,_⟩ | ⟨_,h⟩
  ·have hz:iter (zbX l l) 0=some (.inl ()):=hz
   rw [hz];rfl
  ·exact absurd (fun _ _ _=>trivial) h
 ·intro i _ hi _ _
  have hx:l[i]?=some l[i]:=List.getElem?_eq_getElem hi
  have hw:w64 ((i:Int)+1)=((i+1:Nat):Int):=by rw [zp (by omega) (by omega)];omega
  unfold zbX
  rw [if_pos (by simp [hi])]
  simp only [zu hx,Option.bind_some,hw]
  simp
 ·intro _
  unfold zbX
  rw [if_neg (by simp)]
theorem zps (l:List Gl) (h:l.length<=100000):zhp l l=some true:=by
 unfold zhp zg7
 rw [if_neg (by simp)]
 have key:=zeH (fun i=>(i:Int)) 0 l.length (fun _=>True) (zcl l l) (by omega) ?_ (fun i _ _ _ h=>absurd trivial h) ?_
 ·rcases key with ⟨hz,_⟩ | ⟨_,h⟩
  ·have hz:iter (zcl l l) 0=some (.inl ()):=hz
   rw [hz];rfl
  ·exact absurd (fun _ _ _=>trivial) h
 ·intro i _ hi _ _
  have hx:l[i]?=some l[i]:=List.getElem?_eq_getElem hi
  have hw:w64 ((i:Int)+1)=((i+1:Nat):Int):=by rw [zp (by omega) (by omega)];omega
  unfold zcl zjK
  rw [if_pos (by simp [hi])]
  simp only [zu hx,Option.bind_some,hw]
  simp
 ·intro _
  unfold zcl
  rw [if_neg (by simp)]
theorem zpr (l:List Tl) (h:l.length<=100000) (hs:∀ t∈l,t.2.length<=100000):zho l l=some true:=by
 unfold zho zg6
 rw [if_neg (by simp)]
 have key:=zeH (fun i=>(i:Int)) 0 l.length (fun _=>True) (zck l l) (by omega) ?_ (fun i _ _ _ h=>absurd trivial h) ?_
 ·rcases key with ⟨hz,_⟩ | ⟨_,h⟩
  ·have hz:iter (zck l l) 0=some (.inl ()):=hz
   rw [hz];rfl
  ·exact absurd (fun _ _ _=>trivial) h
 ·intro i _ hi _ _
  have hx:l[i]?=some l[i]:=List.getElem?_eq_getElem hi
  have hw:w64 ((i:Int)+1)=((i+1:Nat):Int):=by rw [zp (by omega) (by omega)];omega
  unfold zck zjJ
  rw [if_pos (by simp [hi])]
  simp only [zu hx,Option.bind_some,hw,zqb _ (hs _ (List.getElem_mem hi))]
  simp
 ·intro _
  unfold zck
  rw [if_neg (by simp)]
theorem znI (l:List Plc) (h:l.length<=100000):zf5 l l=some true:=by
 unfold zf5 zf4
 rw [if_neg (by simp)]
 have key:=zeH (fun i=>(i:Int)) 0 l.length (fun _=>True) (zbv l l) (by omega) ?_ (fun i _ _ _ h=>absurd trivial h) ?_
 ·rcases key with ⟨hz,_⟩ | ⟨_,h⟩
  ·have hz:iter (zbv l l) 0=some (.inl ()):=hz
   rw [hz];rfl
  ·exact absurd (fun _ _ _=>trivial) h
 ·intro i _ hi _ _
  have hx:l[i]?=some l[i]:=List.getElem?_eq_getElem hi
  have hw:w64 ((i:Int)+1)=((i+1:Nat):Int):=by rw [zp (by omega) (by omega)];omega
  unfold zbv zic ziS
  rw [if_pos (by simp [hi])]
  simp only [zu hx,Option.bind_some,hw]
  simp
 ·intro _
  unfold zbv
  rw [if_neg (by simp)]
theorem zm2 {k:Int} (h0:1<=k) (h1:k<=1000000):∃ t,zbb k=some t:=by
 unfold zbb zgs
 rw [if_neg (by simp;omega)]
 have key:=zw (F:=zeA) (fun s=>0<=s.1/\s.1+s.2.length<=1000000) (fun s=>s.1.toNat) (fun t=>t.length<=1000000) ?_ (k,[]) ⟨by show 0<=k;omega,by simpa using h1⟩
 ·obtain ⟨t,ht,hl⟩:=key
  rw [ht]
  unfold ziK
  simp only [Option.bind_some]
  rw [if_pos (by simp;omega)]
  exact ⟨_,rfl⟩
 ·rintro ⟨n,acc⟩ ⟨h0,h1⟩
  simp only at h0 h1
  unfold zeA
  obtain ⟨u,rfl⟩:=Int.eq_ofNat_of_zero_le h0
  by_cases hn:(u:Int)>0
  ·left
   have htd:Int.tdiv (u:Int) 10=((u / 10:Nat):Int):=rfl
   have hw:w64 (((u / 10:Nat):Int))=((u / 10:Nat):Int):=zp (by omega) (by omega)
   rw [if_pos (by simpa using hn)]
   unfold ziK zgC
   rw [if_pos (by simp;omega)]
   simp only [Option.bind_some,htd,hw]
   exact ⟨_,rfl,⟨by simp only [];omega,by simp;omega⟩,by simp only [Int.toNat_natCast];omega⟩
  ·right
   rw [if_neg (by simpa using hn)]
   exact ⟨_,rfl,by simp only [];omega⟩
noncomputable def mtx (k:Int):List UInt8:=(zbb k).getD []
theorem zoe {k:Int} (h0:1<=k) (h1:k<=1000000):zbb k=some (mtx k):=by
 obtain ⟨t,ht⟩:=zm2 h0 h1
 unfold mtx
 rw [ht];rfl
def Mkd {α:Type} (f:Nat->α) (l:List α):Prop:=∀ (j:Nat) (x:α),l[j]?=some x->x=f j
theorem zog {α:Type} {f:Nat->α} {l:List α} {i:Nat} {x:α} (h:∀ (j:Nat) y,j<i->l[j]?=some y->y=f j) (hi:i<l.length) (hx:x=f i):∀ (j:Nat) y,j<i+1->(l.set i x)[j]?=some y->y=f j:=by
 intro j y hj hy
 by_cases hji:i=j
 ·subst hji
  rw [zN hi] at hy
  injection hy with hy
  rw [←hy];exact hx
 ·rw [zG hji] at hy
  exact h j y (by omega) hy
noncomputable def fGl (k:Int) (j:Nat):Gl:=(mtx (k+2*j),k+2*j+1)
def fIn (k:Int) (j:Nat):Int:=k+j
def fPl (k:Int) (j:Nat):Plc:=((k+3*j,k+3*j+1),k+3*j+2)
theorem zpZ (l:List Gl) (hl:l.length<=1000) {k:Int} (h0:1<=k) (h1:k<=100000):∃ l',zda l k=some (k+2*l.length,l')/\l'.length=l.length/\Mkd (fGl k) l':=by
 unfold zda zfY
 have key:=zw (F:=zaO) (fun s=>0<=s.2.2/\s.2.2<=l.length/\s.2.1=k+2*s.2.2/\s.1.length=l.length/\∀ (j:Nat) y,j<s.2.2.toNat->s.1[j]?=some y->y=fGl k j) (fun s=>(l.length - s.2.2).toNat)
  (fun z=>z.2=k+2*l.length/\z.1.length=l.length/\Mkd (fGl k) z.1) ?_ (l,k,0) ⟨by simp,by simp,by simp,rfl,fun j y hj=>by simp at hj⟩
 ·obtain ⟨⟨l',k'⟩,hz,e,h2,h3⟩:=key
  simp only at e
  subst e
  rw [hz]
  exact ⟨l',rfl,h2,h3⟩
 ·rintro ⟨m,q,i⟩ ⟨g0,g1,e,g2,g3⟩
  simp only at e g0 g1 g2 g3
  subst e
  obtain ⟨i,rfl⟩:=Int.eq_ofNat_of_zero_le g0
  unfold zaO
  by_cases hlt:i<m.length
  ·left
   have hx:m[i]?=some m[i]:=List.getElem?_eq_getElem hlt
   have e1:w64 (k+2*(i:Int)+1)=k+2*(i:Int)+1:=zp (by omega) (by omega)
   have e2:w64 (k+2*(i:Int)+1+1)=k+2*(i:Int)+1+1:=zp (by omega) (by omega)
   have e3:w64 ((i:Int)+1)=(i:Int)+1:=zp (by omega) (by omega)
   have hx2:∀ x,(m.set i x)[i]?=some x:=fun x=>zN hlt
   rw [if_pos (by simp [hlt])]
   simp only [zoe (k:=k+2*(i:Int)) (by omega) (by omega),zu hx,Option.bind_some,Int.toNat_natCast,zu (hx2 _),e1,e2,e3,List.set_set]
   refine ⟨_,rfl,⟨by simp only [];omega,by simp only [];omega,by simp only [];omega,by simp only [List.length_set];exact g2,?_⟩,by simp only [];omega⟩
   simp only
   rw [show ((i:Int)+1).toNat=i+1 by omega]
   exact zog (by simpa using g3) hlt rfl
  ·right
   rw [if_neg (by simp;omega)]
   have:i=l.length:=by omega
   refine ⟨_,rfl,by simp only [];omega,g2,fun j y hy=>g3 j y ?_ hy⟩
   have:=zy hy
   simp only at this
   simp only [Int.toNat_natCast];omega
theorem zrb (l:List Int) (hl:l.length<=1000) {k:Int} (h0:1<=k) (h1:k<=100000):∃ l',zcj l k=some (k+l.length,l')/\l'.length=l.length/\Mkd (fIn k) l':=by
 unfold zcj zfn
 have key:=zw (F:=zaD) (fun s=>0<=s.2.2/\s.2.2<=l.length/\s.2.1=k+s.2.2/\s.1.length=l.length/\∀ (j:Nat) y,j<s.2.2.toNat->s.1[j]?=some y->y=fIn k j) (fun s=>(l.length - s.2.2).toNat)
  (fun z=>z.2=k+l.length/\z.1.length=l.length/\Mkd (fIn k) z.1) ?_ (l,k,0) ⟨by simp,by simp,by simp,rfl,fun j y hj=>by simp at hj⟩
 ·obtain ⟨⟨l',k'⟩,hz,e,h2,h3⟩:=key
  simp only at e
  subst e
  rw [hz]
  exact ⟨l',rfl,h2,h3⟩
 ·rintro ⟨m,q,i⟩ ⟨g0,g1,e,g2,g3⟩
  simp only at e g0 g1 g2 g3
  subst e
  obtain ⟨i,rfl⟩:=Int.eq_ofNat_of_zero_le g0
  unfold zaD
  by_cases hlt:i<m.length
  ·left
   have hx:m[i]?=some m[i]:=List.getElem?_eq_getElem hlt
   have e1:w64 (k+(i:Int)+1)=k+(i:Int)+1:=zp (by omega) (by omega)
   have e3:w64 ((i:Int)+1)=(i:Int)+1:=zp (by omega) (by omega)
   rw [if_pos (by simp [hlt])]
   simp only [zu hx,Option.bind_some,Int.toNat_natCast,e1,e3]
   refine ⟨_,rfl,⟨by simp only [];omega,by simp only [];omega,by simp only [];omega,by simp only [List.length_set];exact g2,?_⟩,by simp only [];omega⟩
   simp only
   rw [show ((i:Int)+1).toNat=i+1 by omega]
   exact zog (by simpa using g3) hlt rfl
  ·right
   rw [if_neg (by simp;omega)]
   have:i=l.length:=by omega
   refine ⟨_,rfl,by simp only [];omega,g2,fun j y hy=>g3 j y ?_ hy⟩
   have:=zy hy
   simp only at this
   simp only [Int.toNat_natCast];omega
theorem zpa (l:List Plc) (hl:l.length<=1000) {k:Int} (h0:1<=k) (h1:k<=100000):∃ l',za4 l k=some (k+3*l.length,l')/\l'.length=l.length/\Mkd (fPl k) l':=by
 unfold za4 zeN
 have key:=zw (F:=zaw) (fun s=>0<=s.2.2/\s.2.2<=l.length/\s.2.1=k+3*s.2.2/\s.1.length=l.length/\∀ (j:Nat) y,j<s.2.2.toNat->s.1[j]?=some y->y=fPl k j) (fun s=>(l.length - s.2.2).toNat)
  (fun z=>z.2=k+3*l.length/\z.1.length=l.length/\Mkd (fPl k) z.1) ?_ (l,k,0) ⟨by simp,by simp,by simp,rfl,fun j y hj=>by simp at hj⟩
 ·obtain ⟨⟨l',k'⟩,hz,e,h2,h3⟩:=key
  simp only at e
  subst e
  rw [hz]
  exact ⟨l',rfl,h2,h3⟩
 ·rintro ⟨m,q,i⟩ ⟨g0,g1,e,g2,g3⟩
  simp only at e g0 g1 g2 g3
  subst e
  obtain ⟨i,rfl⟩:=Int.eq_ofNat_of_zero_le g0
  unfold zaw
  by_cases hlt:i<m.length
  ·left
   have hx:m[i]?=some m[i]:=List.getElem?_eq_getElem hlt
   have e1:w64 (k+3*(i:Int)+1)=k+3*(i:Int)+1:=zp (by omega) (by omega)
   have e2:w64 (k+3*(i:Int)+1+1)=k+3*(i:Int)+1+1:=zp (by omega) (by omega)
   have e4:w64 (k+3*(i:Int)+1+1+1)=k+3*(i:Int)+1+1+1:=zp (by omega) (by omega)
   have e3:w64 ((i:Int)+1)=(i:Int)+1:=zp (by omega) (by omega)
   have hx2:∀ x,(m.set i x)[i]?=some x:=fun x=>zN hlt
   rw [if_pos (by simp [hlt])]
   simp only [zu hx,Option.bind_some,Int.toNat_natCast,zu (hx2 _),e1,e2,e3,e4,List.set_set]
   refine ⟨_,rfl,⟨by simp only [];omega,by simp only [];omega,by simp only [];omega,by simp only [List.length_set];exact g2,?_⟩,by simp only [];omega⟩
   simp only
   rw [show ((i:Int)+1).toNat=i+1 by omega]
   exact zog (by simpa using g3) hlt (by unfold fPl;congr 1;omega)
  ·right
   rw [if_neg (by simp;omega)]
   have:i=l.length:=by omega
   refine ⟨_,rfl,by simp only [];omega,g2,fun j y hy=>g3 j y ?_ hy⟩
   have:=zy hy
   simp only at this
   simp only [Int.toNat_natCast];omega
def ztp (k:Int) (x:Tl):Prop:=x.1=mtx k/\x.2.length=4/\Mkd (fIn (k+1)) x.2
theorem zpY (l:List Tl) (hl:l.length<=1000) (h4:∀ t∈l,t.2.length=4) {k:Int} (h0:1<=k) (h1:k<=90000):∃ l',zfX l k=some (k+5*l.length,l')/\l'.length=l.length/\∀ (j:Nat) x,l'[j]?=some x->ztp (k+5*j) x:=by
 unfold zfX
 have key:=zw (F:=zhm) (fun s=>0<=s.2.2/\s.2.2<=l.length/\s.2.1=k+5*s.2.2/\s.1.length=l.length/\(∀ (j:Nat) y,j<s.2.2.toNat->s.1[j]?=some y->ztp (k+5*j) y)/\∀ t∈s.1,t.2.length=4) (fun s=>(l.length - s.2.2).toNat)
  (fun z=>z.2=k+5*l.length/\z.1.length=l.length/\∀ (j:Nat) x,z.1[j]?=some x->ztp (k+5*j) x) ?_ (l,k,0) ⟨by simp,by simp,by simp,rfl,fun j y hj=>by simp at hj,h4⟩
 ·obtain ⟨⟨l',k'⟩,hz,e,h2,h3⟩:=key
  simp only at e
  subst e
  rw [hz]
  exact ⟨l',rfl,h2,h3⟩
 ·rintro ⟨m,q,i⟩ ⟨g0,g1,e,g2,g3,g4⟩
  simp only at e g0 g1 g2 g3 g4
  subst e
  obtain ⟨i,rfl⟩:=Int.eq_ofNat_of_zero_le g0
  unfold zhm
  by_cases hlt:i<m.length
  ·left
   have hx:m[i]?=some m[i]:=List.getElem?_eq_getElem hlt
   have hm4:=g4 _ (List.getElem_mem hlt)
   have e1:w64 (k+5*(i:Int)+1)=k+5*(i:Int)+1:=zp (by omega) (by omega)
   have e3:w64 ((i:Int)+1)=(i:Int)+1:=zp (by omega) (by omega)
   obtain ⟨l',hl',hl2,hl3⟩:=zrb m[i].2 (by omega) (k:=k+5*(i:Int)+1) (by omega) (by omega)
   rw [if_pos (by simp [hlt])]
   simp only [zoe (k:=k+5*(i:Int)) (by omega) (by omega),zu hx,Option.bind_some,Int.toNat_natCast,e1,e3,hl']
   refine ⟨_,rfl,⟨by simp only [];omega,by simp only [];omega,by simp only [hm4];omega,by simp only [List.length_set];exact g2,?_,?_⟩,by simp only [];omega⟩
   ·intro j y hj hy
    simp only at hj hy
    rw [show ((i:Int)+1).toNat=i+1 by omega] at hj
    by_cases hji:i=j
    ·subst hji
     rw [zN hlt] at hy
     injection hy with hy
     subst hy
     exact ⟨rfl,by simp only [hl2];exact hm4,hl3⟩
    ·rw [zG hji] at hy
     exact g3 j y (by simp only [Int.toNat_natCast];omega) hy
   ·intro t ht
    rcases List.mem_or_eq_of_mem_set ht with ht | ht
    ·exact g4 t ht
    ·rw [ht];simp only [hl2];exact hm4
  ·right
   rw [if_neg (by simp;omega)]
   have:i=l.length:=by omega
   refine ⟨_,rfl,by simp only [];omega,g2,fun j y hy=>g3 j y ?_ hy⟩
   have:=zy hy
   simp only at this
   simp only [Int.toNat_natCast];omega
theorem zp6 (l:List Gl) (hl:l.length<=1000) {k:Int} (h0:1<=k) (h1:k<=100000) (hm:Mkd (fGl k) l):zf2 l k=some (k+2*l.length):=by
 unfold zf2 zf1
 have key:=zw (F:=zdX l) (fun s=>0<=s.2/\s.2<=l.length/\s.1=k+2*s.2) (fun s=>(l.length - s.2).toNat) (fun z=>z=.inl (k+2*l.length)) ?_ (k,0) ⟨by simp,by simp,by simp⟩
 ·obtain ⟨z,hz,rfl⟩:=key
  rw [hz];rfl
 ·rintro ⟨q,i⟩ ⟨g0,g1,e⟩
  simp only at e g0 g1
  subst e
  obtain ⟨i,rfl⟩:=Int.eq_ofNat_of_zero_le g0
  unfold zdX
  by_cases hlt:i<l.length
  ·left
   have hx:l[i]?=some l[i]:=List.getElem?_eq_getElem hlt
   have hf:=hm i _ hx
   have e1:w64 (k+2*(i:Int)+1)=k+2*(i:Int)+1:=zp (by omega) (by omega)
   have e2:w64 (k+2*(i:Int)+1+1)=k+2*(i:Int)+1+1:=zp (by omega) (by omega)
   have e3:w64 ((i:Int)+1)=(i:Int)+1:=zp (by omega) (by omega)
   have hf1:l[i].1=mtx (k+2*i):=by rw [hf];rfl
   have hf2:l[i].2=k+2*i+1:=by rw [hf];rfl
   rw [if_pos (by simp [hlt])]
   simp only [zoe (k:=k+2*(i:Int)) (by omega) (by omega),zu hx,Option.bind_some,hf1,hf2,e1,e2,e3,decide_true]
   rw [if_neg (by simp),if_neg (by simp)]
   exact ⟨_,rfl,⟨by simp only [];omega,by simp only [];omega,by simp only [];omega⟩,by simp only [];omega⟩
  ·right
   rw [if_neg (by simp;omega)]
   exact ⟨_,rfl,by rw [show i=l.length by omega]⟩
theorem zrh (l:List Int) (hl:l.length<=1000) {k:Int} (h0:1<=k) (h1:k<=100000) (hm:Mkd (fIn k) l):zfd l k=some (k+l.length):=by
 unfold zfd zfo
 have key:=zw (F:=zdp l) (fun s=>0<=s.2/\s.2<=l.length/\s.1=k+s.2) (fun s=>(l.length - s.2).toNat) (fun z=>z=.inl (k+l.length)) ?_ (k,0) ⟨by simp,by simp,by simp⟩
 ·obtain ⟨z,hz,rfl⟩:=key
  rw [hz];rfl
 ·rintro ⟨q,i⟩ ⟨g0,g1,e⟩
  simp only at e g0 g1
  subst e
  obtain ⟨i,rfl⟩:=Int.eq_ofNat_of_zero_le g0
  unfold zdp
  by_cases hlt:i<l.length
  ·left
   have hx:l[i]?=some l[i]:=List.getElem?_eq_getElem hlt
   have hf:=hm i _ hx
   have e1:w64 (k+(i:Int)+1)=k+(i:Int)+1:=zp (by omega) (by omega)
   have e3:w64 ((i:Int)+1)=(i:Int)+1:=zp (by omega) (by omega)
   rw [if_pos (by simp [hlt])]
   simp only [zu hx,Option.bind_some,hf,e1,e3]
   unfold fIn
   rw [if_neg (by simp)]
   exact ⟨_,rfl,⟨by simp only [];omega,by simp only [];omega,by simp only [];omega⟩,by simp only [];omega⟩
  ·right
   rw [if_neg (by simp;omega)]
   exact ⟨_,rfl,by rw [show i=l.length by omega]⟩
theorem zpj (l:List Plc) (hl:l.length<=1000) {k:Int} (h0:1<=k) (h1:k<=100000) (hm:Mkd (fPl k) l):zeB l k=some (k+3*l.length):=by
 unfold zeB zeO
 have key:=zw (F:=zcP l) (fun s=>0<=s.2/\s.2<=l.length/\s.1=k+3*s.2) (fun s=>(l.length - s.2).toNat) (fun z=>z=.inl (k+3*l.length)) ?_ (k,0) ⟨by simp,by simp,by simp⟩
 ·obtain ⟨z,hz,rfl⟩:=key
  rw [hz];rfl
 ·rintro ⟨q,i⟩ ⟨g0,g1,e⟩
  simp only at e g0 g1
  subst e
  obtain ⟨i,rfl⟩:=Int.eq_ofNat_of_zero_le g0
  unfold zcP
  by_cases hlt:i<l.length
  ·left
   have hx:l[i]?=some l[i]:=List.getElem?_eq_getElem hlt
   have hf:=hm i _ hx
   have e1:w64 (k+3*(i:Int)+1)=k+3*(i:Int)+1:=zp (by omega) (by omega)
   have e2:w64 (k+3*(i:Int)+1+1)=k+3*(i:Int)+1+1:=zp (by omega) (by omega)
   have e4:w64 (k+3*(i:Int)+1+1+1)=k+3*(i:Int)+1+1+1:=zp (by omega) (by omega)
   have e3:w64 ((i:Int)+1)=(i:Int)+1:=zp (by omega) (by omega)
   have hf1:l[i].1.1=k+3*i:=by rw [hf];rfl
   have hf2:l[i].1.2=k+3*i+1:=by rw [hf];rfl
   have hf3:l[i].2=k+3*i+1+1:=by rw [hf];unfold fPl;simp only [];omega
   rw [if_pos (by simp [hlt])]
   simp only [zu hx,Option.bind_some,hf1,hf2,hf3,e1,e2,e3,e4,decide_true]
   rw [if_neg (by simp),if_neg (by simp),if_neg (by simp)]
   exact ⟨_,rfl,⟨by simp only [];omega,by simp only [];omega,by simp only [];omega⟩,by simp only [];omega⟩
  ·right
   rw [if_neg (by simp;omega)]
   exact ⟨_,rfl,by rw [show i=l.length by omega]⟩
theorem zp5 (l:List Tl) (hl:l.length<=1000) {k:Int} (h0:1<=k) (h1:k<=90000) (hm:∀ (j:Nat) x,l[j]?=some x->ztp (k+5*j) x):zf0 l k=some (k+5*l.length):=by
 unfold zf0 zfZ
 have key:=zw (F:=zdW l) (fun s=>0<=s.2/\s.2<=l.length/\s.1=k+5*s.2) (fun s=>(l.length - s.2).toNat) (fun z=>z=.inl (k+5*l.length)) ?_ (k,0) ⟨by simp,by simp,by simp⟩
 ·obtain ⟨z,hz,rfl⟩:=key
  rw [hz];rfl
 ·rintro ⟨q,i⟩ ⟨g0,g1,e⟩
  simp only at e g0 g1
  subst e
  obtain ⟨i,rfl⟩:=Int.eq_ofNat_of_zero_le g0
  unfold zdW
  by_cases hlt:i<l.length
  ·left
   have hx:l[i]?=some l[i]:=List.getElem?_eq_getElem hlt
   obtain ⟨f1,f2,f3⟩:=hm i _ hx
   have e1:w64 (k+5*(i:Int)+1)=k+5*(i:Int)+1:=zp (by omega) (by omega)
   have e3:w64 ((i:Int)+1)=(i:Int)+1:=zp (by omega) (by omega)
   have hh:=zrh l[i].2 (by omega) (k:=k+5*(i:Int)+1) (by omega) (by omega) f3
   rw [if_pos (by simp [hlt])]
   simp only [zoe (k:=k+5*(i:Int)) (by omega) (by omega),zu hx,Option.bind_some,f1,e1,e3,hh,f2,decide_true]
   rw [if_neg (by simp),if_neg (by simp;omega)]
   exact ⟨_,rfl,⟨by simp only [];omega,by simp only [];omega,by simp only [];omega⟩,by simp only [];omega⟩
  ·right
   rw [if_neg (by simp;omega)]
   exact ⟨_,rfl,by rw [show i=l.length by omega]⟩
theorem zmg {s:Sys} (h:ztt s):s.1.1.length<=200/\s.1.2.length<=160/\(∀ t∈s.1.2,t.2.length=4)/\s.2.1.length<=500:=by
 rcases h with rfl | ⟨hS,hA⟩
 ·simp
 ·refine ⟨hS.glues,hS.tiles,fun t ht=>?_,hA.1.1⟩
  obtain ⟨i,hi⟩:=List.getElem?_of_mem ht
  exact (hS.tile i (zy hi) t hi).2.1
theorem znH {s:Sys} (h:ztt s):zgJ s s=some true:=by
 obtain ⟨b1,b2,b3,b4⟩:=zmg h
 unfold zgJ zhC zg8
 simp only [zps s.1.1 (by omega),zpr s.1.2 (by omega) (fun t ht=>by rw [b3 t ht];omega),znI s.2.1 (by omega),Option.bind_some]
 simp
theorem zpX {s:Sys} (h:ztt s):∃ m,zfb s 1=some m/\zfc m.2 1=some m.1/\0<=m.1:=by
 obtain ⟨b1,b2,b3,b4⟩:=zmg h
 obtain ⟨g',hg,g2,g3⟩:=zpZ s.1.1 (by omega) (k:=1) (by omega) (by omega)
 obtain ⟨t',ht,t2,t3⟩:=zpY s.1.2 (by omega) b3 (k:=1+2*(s.1.1.length:Int)) (by omega) (by omega)
 obtain ⟨p',hp,p2,p3⟩:=zpa s.2.1 (by omega) (k:=1+2*(s.1.1.length:Int)+5*(s.1.2.length:Int)) (by omega) (by omega)
 have k1:=zp6 g' (by omega) (k:=1) (by omega) (by omega) g3
 have k2:=zp5 t' (by omega) (k:=1+2*(s.1.1.length:Int)) (by omega) (by omega) t3
 have k3:=zpj p' (by omega) (k:=1+2*(s.1.1.length:Int)+5*(s.1.2.length:Int)) (by omega) (by omega) p3
 rw [g2] at k1;rw [t2] at k2;rw [p2] at k3
 refine ⟨(1+2*(s.1.1.length:Int)+5*(s.1.2.length:Int)+3*(s.2.1.length:Int),((g',t'),p',s.2.2)),?_,?_,by simp only [];omega⟩
 ·unfold zfb zgr
  simp only [hg,ht,hp,Option.bind_some]
 ·unfold zfc zgt zf3
  simp only [k1,Option.bind_some]
  rw [if_neg (by simp;omega)]
  simp only [k2,Option.bind_some]
  rw [if_neg (by simp;omega)]
  simp only [Option.bind_some]
  rw [if_neg (by simp;omega)]
  simp only [k3,Option.bind_some]
  rw [if_neg (by simp;omega)]
  simp only [Option.bind_some]
  rw [if_neg (by simp;omega)]
end Go.Lf
