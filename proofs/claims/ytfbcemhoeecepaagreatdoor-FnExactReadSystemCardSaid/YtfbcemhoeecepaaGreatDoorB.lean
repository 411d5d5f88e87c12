import Derived.Test.YtfbcemhoeecepaaGreatDoorA
import Derived.Laws.Concat
import Derived.Laws.BytesString
import Derived.Laws.IdiomStrings
import Derived.MapKept
import Derived.Conc.SmallLaws
import Derived.Lib.SliceRun
import Derived.Sort.Row
import Derived.RangeFuncSeq
import Derived.RangeFuncLeaves
import Derived.Laws.Append
import Derived.Lib.Bytealg
import Derived.Sort.Defs
import Derived.Lib.ParseIntB
import Derived.Lib.ItoaNum
import Derived.Lib.BitFns
import Derived.Test.YtfbcemhoeecepaaGreatDoorProg
set_option linter.all false
set_option maxRecDepth 100000
set_option maxHeartbeats 4000000
namespace Go.Lf
open Go
def ziK (s t:List UInt8):Option (List UInt8):=if s.length+t.length≤9223372036854775807 then some (s++t) else none
theorem znO {s t r:List UInt8} (h:ziK s t=some r):s.length+t.length≤9223372036854775807∧r=s++t:=by
 unfold ziK at h
 split at h
 ·rename_i h0;exact ⟨h0,(Option.some.inj h).symm⟩
 ·cases h
theorem zjz {s t r:List UInt8} (h:ziK s t=some r):r.length≤9223372036854775807:=by
 obtain ⟨h1,rfl⟩:=znO h
 rw [List.length_append];exact h1
section
variable {P:Program} {E:Env} {c:Code} {i:Nat} {s t r:List UInt8} {w:World} {κ:K}
theorem zgp (h:execOp (ev E) (zB c i)=vOf (do eqGuard .add 0 (.tmp 0) (.tmp 0) (strV s) (strV t);binOp .add 0 (strV s) (strV t))) (hx:ziK s t=some r) :
  (execOp (ev E) (zB c i)).run P w=.ok (.value (strV r)) w:=by
 obtain ⟨h1,rfl⟩:=znO hx
 rw [h]
 refine zL ?_
 have e1:binOp .add 0 (strV s) (strV t)=Op.stringOp .add ⟨s.toArray⟩ ⟨t.toArray⟩:=rfl
 rw [Sem.run_bind,e1]
 have e2:(eqGuard .add 0 (.tmp 0) (.tmp 0) (strV s) (strV t)).run P w=.ok () w:=by simp [eqGuard,strV]
 rw [e2]
 simp only [Result.andThen_ok]
 rw [run_string_add_sum w _ _ (by simpa [ByteArray.size] using h1),ByteArray.mk_append_mk]
 rfl
def zgC (l:List Int):List UInt8:=l.map fun n=>UInt8.ofNat n.toNat
theorem zp8 (l:List Int):∀ r:ByteArray,l.foldl (fun r n=>r.push (UInt8.ofNat n.toNat)) r=⟨r.data++(zgC l).toArray⟩:=by
 induction l with
 | nil=>intro r;simp [zgC]
 | cons n l ih=>
  intro r
  rw [List.foldl_cons,ih]
  simp [zgC,ByteArray.push]
theorem zn9 {src dst e:TypeId} {a:Option Addr} {cp:Nat} {l:List Int} (hs:zP P src=some e) (he:P.underlying e=some (.int .u8)) (hd:P.underlying dst=some .string) (h:Sl tU8 κ a cp l) [Fb] (C:Cx) (d:Nat) :
  (convert src dst (.slice a l.length cp)).run P (W C κ d)=.ok (strV (zgC l)) (W C κ d):=by
 rw [run_convert_bytes_string _ src dst e a l.length cp (zeg hs) he hd]
 cases a with
 | none=>
  have:l=[]:=by
   cases l with
   | nil=>rfl
   | cons x l=>obtain ⟨b,off,ha,_⟩:=h.elems (by simp);cases ha
  subst this
  rfl
 | some ad=>
  have hl:(loadCells ad l.length).run P (W C κ d)=.ok (l.map (Value.int .u8)).toArray (W C κ d):=by
   have:=run_loadCells_list (P:=P) (W C κ d) ad (l.map (Value.int .u8)) (fun j v hj=>?_)
   ·rw [List.length_map] at this;exact this
   ·rw [List.getElem?_map] at hj
    obtain ⟨n,hn,rfl⟩:=Option.map_eq_some_iff.1 hj
    have hlt:=(List.getElem?_eq_some_iff.1 hn).1
    obtain ⟨b,off,ha,hel⟩:=h.elems (by omega)
    obtain ⟨cs,hp,ho,_⟩:=hel j n hn
    injection ha with ha
    subst ha
    rw [ze4,zi7]
    subst ho
    have:=hp.2.2 0 _ rfl
    have e1:tU8.size=1:=rfl
    rw [e1,Nat.mul_one,Nat.add_zero] at this
    exact this
  rw [run_bytesToString _ ad l.length cp l hl,zp8]
  unfold strV
  have:ByteArray.empty.data=#[]:=rfl
  rw [this]
  simp
end
section
variable [Fc] [Fb] {P:Program} {n:Nat} {c:Code} {i k:Nat} {nq:List Nat} {q0:Nat} {M:List Nat} {π:List Nat} {Q:za7} {E:Env} {κ:K}
theorem obs (d src dst e:Nat) {a:Option Addr} {cp:Nat} {l:List Int} (hf:Sl tU8 κ a cp l) (hk:owp P n c (i+1) Q (upd E d (strV (zgC l))) κ) (h:st c i n E (some d)=true:=by kernel_rfl)
  (ho:execOp (ev E) (zB c i)=vOf (convert src dst (.slice a l.length cp)):=by kernel_rfl) (hs:zP P src=some e:=by kernel_rfl) (he:P.underlying e=some (.int .u8):=by kernel_rfl) (hd:P.underlying dst=some .string:=by kernel_rfl):owp P n c i Q E κ:=
 zfW _ h (fun C d0=>by rw [ho];exact zL (zn9 hs he hd hf C d0)) hk
end
structure Own (τ:Tag) (κ:K) (b:Nat):Prop where
 lt:b<κ.H.size
 fr:κ.fr b=0
 tag:κ.tag b=τ
 ge:τ.1≤b
theorem Box.o {τ:Tag} {κ:K} {b:Nat} {cs:List Value} {T:TypeId} (h:Box τ κ b cs T):Own τ κ b:=⟨h.lt,h.fr,h.tag,h.ge⟩
theorem Own.ne {τ τ':Tag} {κ:K} {b b':Nat} (h:Own τ κ b) (h':Own τ' κ b') (hn:τ≠τ'):b≠b':=fun e=>by
 subst e;exact hn (h.tag.symm.trans h'.tag)
theorem Own.tlt {τ:Tag} {κ:K} {b:Nat} (h:Own τ κ b):τ.1<κ.H.size:=Nat.lt_of_le_of_lt h.ge h.lt
section
variable {α:Type} {t:Ty α} {pub:Bool} {τ τ':Tag} {κ:K} {e:TypeId} {a:Option Addr} {c:Nat} {l:List α} {b:Nat}
theorem Gr.nbo (h:Gr t pub τ κ e a c l) (h':Own τ' κ b) (hn:τ≠τ'):∀ g∈blk a c,g∉[b]:=fun g hg hm=>by
 have e1:g=b:=by simpa using hm
 subst e1
 exact hn ((h.lt g hg).2.1.symm.trans h'.tag)
theorem Gr.bno (h:Gr t pub τ κ e a c l) (h':Own τ' κ b) (hn:τ'≠τ):b∉blk a c:=fun hg=>hn (h'.tag.symm.trans (h.lt b hg).2.1)
end
structure KT (α:Type) where
 enc:α→Value
 d:TypeDesc
 isKey:∀ x,Go.MapKept.IsKey d (enc x)
 inj:∀ {x y},enc x=enc y→x=y
def zpe:KT (List UInt8):=⟨strV,.string,fun _=>trivial,fun {x y} h=>by unfold strV at h;injection h with h;injection h with h;injection h⟩
def zsd:KT Int:=⟨fun n=>.int .i64 n,.int .i64,fun _=>rfl,fun {x y} h=>by injection h⟩
def zd1 {α β:Type} [DecidableEq α] (m:List (α×β)) (k:α):Option β:=(m.find? (fun p=>decide (p.1=k))).map (·.2)
def zfm {α β:Type} [DecidableEq α] (m:List (α×β)) (k:α):Bool:=m.any (fun p=>decide (p.1=k))
def zix {α β:Type} [DecidableEq α] (m:List (α×β)) (k:α) (v:β):List (α×β):=
 if zfm m k=true then m.map (fun p=>if p.1=k then (k,v) else p) else m++[(k,v)]
structure Mp {α β:Type} (kt:KT α) (t:Ty β) (τ:Tag) (κ:K) (b:Nat) (m:List (α×β)):Prop where
 obj:∃ (es:Array MapEntry) (clock:Nat),κ.H[b]?=some (.map es clock)∧es.size=m.length∧∀ (i:Nat) (p:α×β),m[i]?=some p→∃ e,es[i]?=some e∧e.key=kt.enc p.1∧t.own κ [e.val] p.2
 nd:m.Pairwise (fun p q=>p.1≠q.1)
 fr:κ.fr b=0
 tag:κ.tag b=τ
 ge:τ.1≤b
section
variable {α β:Type} {kt:KT α} {t:Ty β} {τ:Tag} {κ κ':K} {b:Nat} {m:List (α×β)}
theorem Mp.lt (h:Mp kt t τ κ b m):b<κ.H.size:=by
 obtain ⟨es,cl,h1,_⟩:=h.obj
 exact (Array.getElem?_eq_some_iff.1 h1).1
theorem Mp.o (h:Mp kt t τ κ b m):Own τ κ b:=⟨h.lt,h.fr,h.tag,h.ge⟩
theorem Mp.tlt (h:Mp kt t τ κ b m):τ.1<κ.H.size:=h.o.tlt
theorem Mp.step {M:List Nat} (s:Step M κ κ') (hm:b∉M) (h:Mp kt t τ κ b m):Mp kt t τ κ' b m:=by
 obtain ⟨es,cl,h1,h2,h3⟩:=h.obj
 refine ⟨⟨es,cl,(s.2.1 b h.lt hm).1.trans h1,h2,fun i p hp=>?_⟩,h.nd,(s.2.1 b h.lt hm).2.1.trans h.fr,(s.2.1 b h.lt hm).2.2.trans h.tag,h.ge⟩
 obtain ⟨e,he,hk,ho⟩:=h3 i p hp
 exact ⟨e,he,hk,t.step s ho⟩
theorem Mp.step0 (s:Step [] κ κ') (h:Mp kt t τ κ b m):Mp kt t τ κ' b m:=h.step s (by simp)
theorem zs1 (κ:K) (τ:Tag) (h:τ.1≤κ.H.size):Mp kt t τ (κ.push (.map #[] 0) 0 τ) κ.H.size ([]:List (α×β)):=
 ⟨⟨#[],0,by simp [K.push],rfl,fun i p hp=>by simp at hp⟩,List.Pairwise.nil,by simp [K.push],by simp [K.push],h⟩
variable [DecidableEq α]
theorem zq9 (x:α) (h:∀ p∈m,p.1≠x):zd1 m x=none∧zfm m x=false:=by
 unfold zd1 zfm
 constructor
 ·rw [List.find?_eq_none.2 (fun p hp=>by simpa using h p hp)];rfl
 ·rw [List.any_eq_false];intro p hp;simpa using h p hp
theorem zs2 (hnd:m.Pairwise (fun p q=>p.1≠q.1)) {j:Nat} {p:α×β} (hj:m[j]?=some p):zd1 m p.1=some p.2∧zfm m p.1=true:=by
 constructor
 ·induction m generalizing j with
  | nil=>simp at hj
  | cons q m ih=>
   obtain ⟨h1,h2⟩:=List.pairwise_cons.1 hnd
   cases j with
   | zero=>simp at hj;subst hj;simp [zd1]
   | succ j=>
    simp at hj
    have hne:q.1≠p.1:=h1 p (List.mem_of_getElem? hj)
    have:=ih h2 hj
    unfold zd1 at this ⊢
    rw [List.find?_cons]
    simp [hne]
    simpa using this
 ·unfold zfm
  rw [List.any_eq_true]
  exact ⟨p,List.mem_of_getElem? hj,by simp⟩
omit [DecidableEq α]
theorem znM {κ:K} {v:Value} {x:Bool} (h:zoG.own κ [v] x):v=.bool x:=by injection h
theorem zrI {κ:K} {v:Value} {x:Int} (h:tI64.own κ [v] x):v=.int .i64 x∧I64 x:=⟨by have:=h.1;injection this,h.2⟩
variable [DecidableEq α]
def ziR (P:Program) (T:TypeId):Option (TypeId×TypeId):=
 match P.underlying T with
 | some (.map k e)=>some (k,e)
 | _=>none
theorem zhn {P:Program} {T k e:TypeId} (h:ziR P T=some (k,e)):P.underlying T=some (.map k e):=by
 unfold ziR at h
 split at h
 ·rename_i h0;injection h with h;injection h with h1 h2;subst h1;subst h2;exact h0
 ·cases h
theorem zqB {P:Program} {kd:TypeId} (h:Mp kt t τ κ b m) (hk:P.underlying kd=some kt.d) (x:α) {es:Array MapEntry} {cl:Nat} (hb:κ.H[b]?=some (.map es cl)) (w:World) :
  (zd1 m x=none∧zfm m x=false∧(Instr.findKey kd (kt.enc x) es.toList).run P w=.ok none w) ∨
  ∃ j e y,m[j]?=some (x,y)∧zd1 m x=some y∧zfm m x=true∧es[j]?=some e∧e.key=kt.enc x∧t.own κ [e.val] y∧(Instr.findKey kd (kt.enc x) es.toList).run P w=.ok (some (j,e.val)) w:=by
 obtain ⟨es',cl',h1,h2,h3⟩:=h.obj
 rw [hb] at h1
 injection h1 with h1
 injection h1 with h1 _
 subst h1
 have hks:∀ e∈es.toList,∃ p,p∈m∧e.key=kt.enc p.1:=by
  intro e he
  obtain ⟨i,hi⟩:=List.getElem?_of_mem he
  rw [Array.getElem?_toList] at hi
  have hlt:i<m.length:=by rw [←h2];exact (Array.getElem?_eq_some_iff.1 hi).1
  obtain ⟨e',he',hk',_⟩:=h3 i m[i] (by simp [hlt])
  rw [hi] at he'
  injection he' with he'
  subst he'
  exact ⟨m[i],List.getElem_mem hlt,hk'⟩
 rcases Go.MapKept.findNow_spec (kt.isKey x) es.toList 0 (fun e he=>by obtain ⟨p,_,hp⟩:=hks e he;rw [hp];exact kt.isKey _) with ⟨h4,h5⟩ | ⟨j,e,h4,h5,h6⟩
 ·have hno:∀ p∈m,p.1≠x:=by
   intro p hp he
   obtain ⟨i,hi⟩:=List.getElem?_of_mem hp
   obtain ⟨e,he1,he2,_⟩:=h3 i p hi
   refine h5 e ?_ (by rw [he2,he])
   rw [←Array.getElem?_toList] at he1
   exact List.mem_of_getElem? he1
  obtain ⟨g1,g2⟩:=zq9 x hno
  exact .inl ⟨g1,g2,Go.MapKept.run_findKey hk h4⟩
 ·rw [Array.getElem?_toList] at h5
  have hlt:j<m.length:=by rw [←h2];exact (Array.getElem?_eq_some_iff.1 h5).1
  have hmj:m[j]?=some m[j]:=by simp [hlt]
  obtain ⟨e',he1,he2,he3⟩:=h3 j m[j] hmj
  rw [h5] at he1
  injection he1 with he1
  subst he1
  have hx:m[j].1=x:=kt.inj (he2.symm.trans h6)
  obtain ⟨g1,g2⟩:=zs2 h.nd hmj
  rw [hx] at g1 g2
  refine .inr ⟨j,e,m[j].2,by rw [hmj,←hx],g1,g2,h5,h6,he3,?_⟩
  have:=Go.MapKept.run_findKey (P:=P) (w:=w) hk h4
  simpa using this
theorem ztA [Fb] (C:Cx) (κ:K) (d b:Nat) {es:Array MapEntry} {cl:Nat} (h:κ.H[b]?=some (.map es cl)) (P:Program):(getObj b).run P (W C κ d)=.ok (.map es cl) (W C κ d):=
 Go.MapKept.run_getObj_map h
theorem zpD [Fb] (C:Cx) (κ:K) (d b:Nat) {es:Array MapEntry} {cl:Nat} (o:Obj) (h:κ.H[b]?=some (.map es cl)) (P:Program):(setObj b o).run P (W C κ d)=.ok () (W C (κ.setO b o) d):=
 Go.MapKept.run_setObj_map o h
theorem zmb {P:Program} {T kd e:TypeId} {z:Value} {y0:β} {x:α} (h:Mp kt t τ κ b m) (hT:ziR P T=some (kd,e)) (hk:P.underlying kd=some kt.d) (hz:zeI P e=some z) (hzo:t.own κ [z] y0) [Fb] (C:Cx) (d:Nat) :
  ∃ v,t.own κ [v] ((zd1 m x).getD y0)∧(Instr.lookup T (.map (some b)) (kt.enc x) false).run P (W C κ d)=.ok v (W C κ d)∧
   (Instr.lookup T (.map (some b)) (kt.enc x) true).run P (W C κ d)=.ok (.tuple #[v,.bool (zfm m x)]) (W C κ d):=by
 obtain ⟨es,cl,hb,_⟩:=h.obj
 have hgo:=ztA C κ d b hb P
 rcases zqB h hk x hb (W C κ d) with ⟨g1,g2,g3⟩ | ⟨j,en,y,g0,g1,g2,g3,g4,g5,g6⟩
 ·refine ⟨z,by rw [g1];exact hzo,?_,?_⟩ <;>
  ·unfold Instr.lookup
   simp [zx (zhn hT),hgo,Go.MapKept.run_checkKey hk (kt.isKey x),g3,zgH hz,g2]
 ·refine ⟨en.val,by rw [g1];exact g5,?_,?_⟩ <;>
  ·unfold Instr.lookup
   simp [zx (zhn hT),hgo,Go.MapKept.run_checkKey hk (kt.isKey x),g6,g2]
theorem zof {x:α} {y:β} (h:zfm m x=true):(zix m x y).length=m.length:=by unfold zix;rw [if_pos h,List.length_map]
theorem zs0 (hnd:m.Pairwise (fun p q=>p.1≠q.1)) (x:α) (y:β):(zix m x y).Pairwise (fun p q=>p.1≠q.1):=by
 unfold zix
 split
 ·rw [List.pairwise_map]
  refine hnd.imp ?_
  intro p q hpq
  by_cases h1:p.1=x<;>by_cases h2:q.1=x
  ·exact absurd (h1.trans h2.symm) hpq
  ·rw [if_pos h1,if_neg h2];exact fun e=>h2 e.symm
  ·rw [if_neg h1,if_pos h2];exact h1
  ·rw [if_neg h1,if_neg h2];exact hpq
 ·rename_i h
  rw [List.pairwise_append]
  refine ⟨hnd,by simp,fun p hp q hq=>?_⟩
  have:q=(x,y):=by simpa using hq
  subst this
  intro e
  apply h
  unfold zfm
  rw [List.any_eq_true]
  exact ⟨p,hp,by simpa using e⟩
theorem zrR {P:Program} {T kd e:TypeId} {x:α} {v:Value} {y:β} (h:Mp kt t τ κ b m) (hT:ziR P T=some (kd,e)) (hk:P.underlying kd=some kt.d) (hv:t.own κ [v] y) [Fb] (C:Cx) (d:Nat) :
  ∃ κ',(Instr.mapUpdate T (.map (some b)) (kt.enc x) v).run P (W C κ d)=.ok () (W C κ' d)∧Step [b] κ κ'∧κ.H.size=κ'.H.size∧Mp kt t τ κ' b (zix m x y):=by
 obtain ⟨es,cl,hb,hsz,hes⟩:=h.obj
 have hgo:=ztA C κ d b hb P
 have mk:∀ (es':Array MapEntry) (cl':Nat),es'.size=(zix m x y).length→(∀ κ':K,Step [b] κ κ'→∀ (i:Nat) (p:α×β),(zix m x y)[i]?=some p→∃ e,es'[i]?=some e∧e.key=kt.enc p.1∧t.own κ' [e.val] p.2)→
   Step [b] κ (κ.setO b (.map es' cl'))∧κ.H.size=(κ.setO b (.map es' cl')).H.size∧Mp kt t τ (κ.setO b (.map es' cl')) b (zix m x y):=by
  intro es' cl' h1 h2
  have hst:Step [b] κ (κ.setO b (.map es' cl')):=zj0 h.fr
  exact ⟨hst,by simp [K.setO],⟨es',cl',by simp [K.setO,h.lt],h1,h2 _ hst⟩,zs0 h.nd x y,h.fr,h.tag,h.ge⟩
 rcases zqB h hk x hb (W C κ d) with ⟨g1,g2,g3⟩ | ⟨j,en,y',g0,g1,g2,g3,g4,g5,g6⟩
 ·refine ⟨κ.setO b (.map (es.push {key:=kt.enc x,val:=v,born:=cl}) (cl+1)),?_,mk _ _ ?_ ?_⟩
  ·unfold Instr.mapUpdate
   simp [zx (zhn hT),hgo,Go.MapKept.run_checkKey hk (kt.isKey x),g3,zpD C κ d b _ hb P]
  ·unfold zix;rw [if_neg (by rw [g2];simp),Array.size_push,hsz,List.length_append];rfl
  ·intro κ' hs i p hp
   unfold zix at hp
   rw [if_neg (by rw [g2];simp)] at hp
   by_cases hi:i<m.length
   ·rw [List.getElem?_append_left hi] at hp
    obtain ⟨e,he,hke,ho⟩:=hes i p hp
    exact ⟨e,by rw [Array.getElem?_push];rw [if_neg (by omega)];exact he,hke,t.step hs ho⟩
   ·rw [List.getElem?_append_right (by omega)] at hp
    have hi0:i - m.length=0:=by
     have:=(List.getElem?_eq_some_iff.1 hp).1
     simp at this;omega
    rw [hi0] at hp
    simp at hp
    subst hp
    refine ⟨{key:=kt.enc x,val:=v,born:=cl},?_,rfl,t.step hs hv⟩
    rw [Array.getElem?_push,if_pos (by omega)]
 ·have hlt:j<es.size:=(Array.getElem?_eq_some_iff.1 g3).1
  refine ⟨κ.setO b (.map (es.modify j fun e=>{e with key:=kt.enc x,val:=v}) cl),?_,mk _ _ ?_ ?_⟩
  ·unfold Instr.mapUpdate
   simp [zx (zhn hT),hgo,Go.MapKept.run_checkKey hk (kt.isKey x),g6,g3,g4,Go.MapKept.run_keyThatStays (kt.isKey x),zpD C κ d b _ hb P]
  ·rw [zof g2];simpa using hsz
  ·intro κ' hs i p hp
   unfold zix at hp
   rw [if_pos g2,List.getElem?_map] at hp
   obtain ⟨q,hq,hqp⟩:=Option.map_eq_some_iff.1 hp
   obtain ⟨e,he,hke,ho⟩:=hes i q hq
   by_cases hij:j=i
   ·subst hij
    rw [g0] at hq
    injection hq with hq
    subst hq
    rw [if_pos rfl] at hqp
    subst hqp
    refine ⟨{en with key:=kt.enc x,val:=v},?_,rfl,t.step hs hv⟩
    rw [Array.getElem?_modify,if_pos rfl,g3];rfl
   ·have hne:q.1≠x:=fun hx=>by
     have h1:=(List.getElem?_eq_some_iff.1 hq).1
     have h2:=(List.getElem?_eq_some_iff.1 g0).1
     have hpw:=List.pairwise_iff_getElem.1 h.nd
     have e1:=(List.getElem?_eq_some_iff.1 hq).2
     have e2:=(List.getElem?_eq_some_iff.1 g0).2
     rcases Nat.lt_or_gt_of_ne hij with hlt' | hlt'
     ·have:=hpw j i h2 h1 hlt';rw [e1,e2] at this;exact this hx.symm
     ·have:=hpw i j h1 h2 hlt';rw [e1,e2] at this;exact this hx
    rw [if_neg hne] at hqp
    subst hqp
    exact ⟨e,by rw [Array.getElem?_modify,if_neg hij];exact he,hke,t.step hs ho⟩
end
section
variable [Fc] [Fb] {P:Program} {n:Nat} {c:Code} {i k:Nat} {Q:za7} {E:Env} {κ:K} {α β:Type} {t:Ty β} {τ:Tag} {b:Nat} {m:List (α×β)} {nq:List Nat} {q0:Nat} {M:List Nat} {π:List Nat}
theorem zr7 (R:K→Prop) (h:st c i n E none=true)
  (hr:∀ C d0,∃ κ' d1,(execOp (ev E) (zB c i)).run P (W C κ d0)=.ok .skip (W C κ' d1)∧R κ')
  (hk:∀ κ',R κ'→owp P n c (i+1) Q E κ'):owp P n c i Q E κ:=by
 refine ziN h (fun C d0 a hf=>?_)
 obtain ⟨κ',d1,h1,h2⟩:=hr C d0
 obtain ⟨_,_,h3,_⟩:=zfF h
 refine zmH (by rw [hf.eval];exact h1) ?_
 rw [h3]
 exact hk κ' h2 C d1 _ hf
theorem omk {d T:Nat} (kt:KT α) (t:Ty β) (τ:Tag) (hτ:τ.1≤κ.H.size) (hk:∀ b κ',Step [] κ κ'→Mp kt t τ κ' b ([]:List (α×β))→owp P n c (i+1) Q (upd E d (.map (some b))) κ')
  (h:st c i n E (some d)=true:=by kernel_rfl) (ho:execOp (ev E) (zB c i)=vOf (Instr.makeMap T none):=by kernel_rfl):owp P n c i Q E κ:=by
 refine ziO (fun v κ'=>∃ b,v=.map (some b)∧Step [] κ κ'∧Mp kt t τ κ' b ([]:List (α×β))) h (fun C d0=>?_) ?_
 ·exact ⟨_,κ.push (.map #[] 0) 0 τ,d0,by rw [ho];exact zL rfl,κ.H.size,rfl,zaZ _ _ _ _,zs1 _ _ hτ⟩
 ·rintro v κ' ⟨b,rfl,hs,hm⟩
  exact hk b κ' hs hm
variable [DecidableEq α]
theorem olk (kt:KT α) {d T kd e:Nat} {x:α} {y0:β} (z:Value) (hm:Mp kt t τ κ b m) (hzo:t.own κ [z] y0) (hk:∀ v,t.own κ [v] ((zd1 m x).getD y0)→owp P n c (i+1) Q (upd E d v) κ)
  (hT:ziR P T=some (kd,e):=by kernel_rfl) (h:st c i n E (some d)=true:=by kernel_rfl) (ho:execOp (ev E) (zB c i)=vOf (Instr.lookup T (.map (some b)) (kt.enc x) false):=by kernel_rfl)
  (hkd:P.underlying kd=some kt.d:=by kernel_rfl) (hz:zeI P e=some z:=by kernel_rfl):owp P n c i Q E κ:=by
 refine ziO (fun v κ'=>κ=κ'∧t.own κ [v] ((zd1 m x).getD y0)) h (fun C d0=>?_) ?_
 ·obtain ⟨v,hv,hr,_⟩:=zmb hm hT hkd hz hzo (x:=x) C d0
  exact ⟨v,κ,d0,by rw [ho];exact zL hr,rfl,hv⟩
 ·rintro v κ' ⟨rfl,hv⟩
  exact hk v hv
theorem zuq (kt:KT α) {d T kd e:Nat} {x:α} {y0:β} (z:Value) (hm:Mp kt t τ κ b m) (hzo:t.own κ [z] y0) (hk:∀ v,t.own κ [v] ((zd1 m x).getD y0)→owp P n c (i+1) Q (upd E d (.tuple #[v,.bool (zfm m x)])) κ)
  (hT:ziR P T=some (kd,e):=by kernel_rfl) (h:st c i n E (some d)=true:=by kernel_rfl) (ho:execOp (ev E) (zB c i)=vOf (Instr.lookup T (.map (some b)) (kt.enc x) true):=by kernel_rfl)
  (hkd:P.underlying kd=some kt.d:=by kernel_rfl) (hz:zeI P e=some z:=by kernel_rfl):owp P n c i Q E κ:=by
 refine ziO (fun v' κ'=>κ=κ'∧∃ v,v'=.tuple #[v,.bool (zfm m x)]∧t.own κ [v] ((zd1 m x).getD y0)) h (fun C d0=>?_) ?_
 ·obtain ⟨v,hv,_,hr⟩:=zmb hm hT hkd hz hzo (x:=x) C d0
  exact ⟨_,κ,d0,by rw [ho];exact zL hr,rfl,v,rfl,hv⟩
 ·rintro v' κ' ⟨rfl,v,rfl,hv⟩
  exact hk v hv
theorem omp (kt:KT α) {T kd e:Nat} {x:α} {y:β} {v:Value} (hm:Mp kt t τ κ b m) (hv:t.own κ [v] y) (hk:∀ κ',Step [b] κ κ'→κ.H.size=κ'.H.size→Mp kt t τ κ' b (zix m x y)→owp P n c (i+1) Q E κ')
  (hT:ziR P T=some (kd,e):=by kernel_rfl) (h:st c i n E none=true:=by kernel_rfl) (ho:execOp (ev E) (zB c i)=uOf (Instr.mapUpdate T (.map (some b)) (kt.enc x) v):=by kernel_rfl)
  (hkd:P.underlying kd=some kt.d:=by kernel_rfl):owp P n c i Q E κ:=by
 refine zr7 (fun κ'=>Step [b] κ κ'∧κ.H.size=κ'.H.size∧Mp kt t τ κ' b (zix m x y)) h (fun C d0=>?_) ?_
 ·obtain ⟨κ',hr,h1,h2,h3⟩:=zrR hm hT hkd hv (x:=x) C d0
  exact ⟨κ',d0,by rw [ho];exact zk2 hr,h1,h2,h3⟩
 ·rintro κ' ⟨h1,h2,h3⟩
  exact hk κ' h1 h2 h3
end
theorem Sl.of_none {α:Type} {t:Ty α} {κ:K} {c:Nat} {l:List α} (h:Sl t κ none c l):l=[]:=by
 cases l with
 | nil=>rfl
 | cons x l=>obtain ⟨b,off,ha,_⟩:=h.elems (by simp);cases ha
section
variable {P:Program} {α:Type} {t:Ty α} {κ:K} {e T:TypeId} {a:Option Addr} {cp:Nat} {l r:List α} {τ:Tag} {pub:Bool}
theorem Rep.take:∀ {l:List α} {xs:List Value} (i:Nat),Rep t κ xs l→Rep t κ (xs.take (i*t.size)) (l.take i)
 | [],xs,i,h=>by
  have:xs=[]:=h
  subst this
  simp [Rep]
 | x::l,xs,0,h=>by simp [Rep]
 | x::l,xs,i+1,⟨c,xs',e,ho,hr⟩=>by
  subst e
  rw [List.take_succ_cons]
  refine ⟨c,xs'.take (i*t.size),?_,ho,hr.take i⟩
  have hl:=t.len ho
  rw [List.take_append,List.take_of_length_le (by rw [hl,Nat.add_mul];omega)]
  congr 1
  rw [hl,Nat.add_mul]
  congr 1;omega
theorem Gr.cap (h:Gr t pub τ κ e a cp l):l.length≤cp:=by
 rcases h.body with ⟨_,hl⟩ | ⟨g,cur,xs,ha,hr,hH,h1,_⟩
 ·rw [hl];simp
 ·exact h1
theorem Gr.take (h:Gr t false τ κ e a cp l) (i:Nat):Gr t false τ κ e a cp (l.take i):=by
 refine ⟨Nat.le_trans (by rw [List.length_take];exact Nat.min_le_right _ _) h.most,?_⟩
 rcases h.body with ⟨hc,hl⟩ | ⟨g,cur,xs,ha,hr,hH,h1,h2,h3,h4,h5,h6,h7⟩
 ·exact .inl ⟨hc,by rw [hl];simp⟩
 ·refine .inr ⟨g,cur,xs.take (i*t.size),ha,hr.take i,hH,by rw [List.length_take];exact Nat.le_trans (Nat.min_le_right _ _) h1,h2,h3,?_,h5,h6,h7⟩
  rw [←h4,List.take_take,List.length_take]
  congr 1
  rcases Nat.le_total i l.length with hi | hi
  ·rw [Nat.min_eq_left hi,Nat.min_eq_left (Nat.mul_le_mul_right _ hi)]
  ·rw [Nat.min_eq_right hi,Nat.min_eq_right (Nat.mul_le_mul_right _ hi)]
theorem zgI {lo hi:Option Int} (hT:zP P T=some e) (hs:zac P e=some t.size) (hcap:l.length≤cp)
  (hx:zaL l (lo.getD 0) (hi.getD l.length)=some r) (w:World) :
  (Instr.sliceAt T (.slice a l.length cp) (zdy lo) (zdy hi) none).run P w=.ok (.slice (if cp=(lo.getD 0).toNat then a else a.map (·.add ((lo.getD 0).toNat*t.size))) r.length (cp - (lo.getD 0).toNat)) w:=by
 have hT':=zeg hT
 obtain ⟨h0,h1,h2,hr⟩:=zeo hx
 have hc:=hcap
 have hlen:r.length=(hi.getD l.length).toNat - (lo.getD 0).toNat:=by
  rw [hr,List.length_drop,List.length_take];omega
 have hcap:(hi.getD l.length).toNat≤cp:=by omega
 unfold Instr.sliceAt Instr.slice Instr.sliceBounds
 rw [hlen]
 cases lo with
 | none=>
  cases hi with
  | none=>simp [zx hT',zdy,zav hs]
  | some hv=>
   simp only [Option.getD_some,Option.getD_none] at *
   have e1:0≤hv∧hv≤(cp:Int):=by omega
   simp [zx hT',zdy,zav hs,Instr.sliceBound,asIntOf,e1]
 | some lv=>
  cases hi with
  | none=>
   simp only [Option.getD_some,Option.getD_none] at *
   have e1:0≤lv∧lv≤(l.length:Int):=by omega
   simp [zx hT',zdy,zav hs,Instr.sliceBound,asIntOf,e1]
  | some hv=>
   simp only [Option.getD_some] at *
   have e1:0≤hv∧hv≤(cp:Int):=by omega
   have e2:0≤lv∧lv≤(hv.toNat:Int):=by omega
   simp [zx hT',zdy,zav hs,Instr.sliceBound,asIntOf,e1,e2]
   intro hh
   omega
theorem add_zero (a:Option Addr) (c:Nat):(if c=0 then a else a.map (·.add 0))=a:=by
 split
 ·rfl
 ·cases a with
  | none=>rfl
  | some x=>cases x with
   | mk b o r=>
    cases r with
    | none=>rfl
    | some q=>rfl
def clr {α:Type} (l:List α) (lo:Int) (z:α):Option (List α):=
 if 0≤lo∧lo≤l.length then some (l.take lo.toNat++List.replicate (l.length - lo.toNat) z) else none
theorem zno {lo:Int} {z:α} (h:clr l lo z=some r):0≤lo∧lo≤l.length∧r=l.take lo.toNat++List.replicate (l.length - lo.toNat) z:=by
 unfold clr at h
 split at h
 ·rename_i h0;exact ⟨h0.1,h0.2,(Option.some.inj h).symm⟩
 ·cases h
theorem zsS {ty:TypeId} {zs:List Value} {z:α} {lo:Int} (hT:zP P T=some e) (hz:(zeI P e).map Value.cells=some zs.toArray) (hzo:t.own κ zs z) (h:Gr t false τ κ e a cp l)
  (hx:clr l lo z=some r) [Fb] (C:Cx) (d:Nat) :
  ∃ κ',(Builtin.clear_ #[T] ty #[.slice (if cp=lo.toNat then a else a.map (·.add (lo.toNat*t.size))) (l.length - lo.toNat) (cp - lo.toNat)]).run P (W C κ d)=.ok (.tuple #[]) (W C κ' d)∧Step (blk a cp) κ κ'∧Gr t false τ κ' e a cp r:=by
 obtain ⟨h0,h1,rfl⟩:=zno hx
 have hT':=zeg hT
 by_cases hn:l.length - lo.toNat=0
 ·refine ⟨κ,?_,Step.refl _ _,?_⟩
  ·rw [hn]
   generalize (if cp=lo.toNat then a else a.map (·.add (lo.toNat*t.size)))=aa
   cases aa<;>simp [Builtin.clear_,zx hT']
  ·rw [hn]
   have:l.take lo.toNat=l:=List.take_of_length_le (by omega)
   rw [this];simpa using h
 ·rcases h.body with ⟨hc,hl⟩ | ⟨g,cur,xs,ha,hr,hH,h2,h3,h4,h5,h6,h7,h8⟩
  ·rw [hl] at hn;simp at hn
  ·subst ha
   obtain ⟨z0,hz1,hz2⟩:=Option.map_eq_some_iff.1 hz
   have hbox:Box τ κ g cur.toList e:=⟨by simpa using hH,by rw [h6];simp,h7,h8⟩
   have hzl:=t.len hzo
   have hrz:Rep t κ (Builtin.zeroCells zs.toArray (l.length - lo.toNat)).toList (List.replicate (l.length - lo.toNat) z):=by
    have:=zoW hzo (l.length - lo.toNat)
    have e2:(Builtin.zeroCells zs.toArray (l.length - lo.toNat)).toList=(List.range ((l.length - lo.toNat)*t.size)).map fun i=>(zs.toArray)[i % zs.toArray.size]!:=by
     simp [Builtin.zeroCells,hzl]
    rw [e2];exact this
   have hvl:=hrz.length
   rw [List.length_replicate] at hvl
   have hcl:cur.toList.length=cp*t.size:=by simpa using h4
   have hmul:lo.toNat*t.size+(l.length - lo.toNat)*t.size=l.length*t.size:=by rw [←Nat.add_mul];congr 1;omega
   have hle:l.length*t.size≤cp*t.size:=Nat.mul_le_mul_right _ h2
   have hstep:Step [g] κ (κ.setB g (splice cur.toList (lo.toNat*t.size) (Builtin.zeroCells zs.toArray (l.length - lo.toNat)).toList) e):=zgi hbox
   refine ⟨κ.setB g (splice cur.toList (lo.toNat*t.size) (Builtin.zeroCells zs.toArray (l.length - lo.toNat)).toList) e,?_,hstep.mono (fun x hx=>by rw [List.mem_singleton.1 hx];exact zhO (a:=⟨g,0,none⟩) (by omega)),?_⟩
   ·have hne:¬cp=lo.toNat:=by omega
    rw [if_neg hne]
    have e3:(Option.map (fun x=>Addr.add x (lo.toNat*t.size)) (some (⟨g,0,none⟩:Addr)))=some ⟨g,lo.toNat*t.size,none⟩:=by simp [ze4]
    rw [e3]
    have hst:=zhA (P:=P) (C:=C) (d:=d) (off:=lo.toNat*t.size) (Builtin.zeroCells zs.toArray (l.length - lo.toNat)).toList 0 κ cur.toList hbox hrz.one (by rw [hvl,hcl];omega)
    rw [Nat.add_zero] at hst
    obtain ⟨m,hm⟩:∃ m,l.length - lo.toNat=m+1:=⟨l.length - lo.toNat - 1,by omega⟩
    rw [hm] at hst ⊢
    simp [Builtin.clear_,zx hT',zgH hz1,hz2]
    rw [show (Builtin.zeroCells zs.toArray (m+1)).toList=(Builtin.zeroCells zs.toArray (m+1)).toList from rfl,hst]
    simp
   ·have hlen:(l.take lo.toNat++List.replicate (l.length - lo.toNat) z).length=l.length:=by
     rw [List.length_append,List.length_take,List.length_replicate];omega
    have htk:(l.take lo.toNat).length=lo.toNat:=by rw [List.length_take];omega
    refine ⟨by rw [hlen];exact h.most,.inr ⟨g,_,xs.take (lo.toNat*t.size)++(Builtin.zeroCells zs.toArray (l.length - lo.toNat)).toList,rfl,(hr.take _ |>.step hstep).append (hrz.step hstep),(zgY hbox).obj,by rw [hlen];exact h2,h3,by rw [List.size_toArray,zdE,hcl],?_,h6,h7,h8⟩⟩
    rw [hlen]
    apply List.ext_getElem?
    intro j
    rw [List.getElem?_take]
    have hxl:=hr.length
    have htl:(xs.take (lo.toNat*t.size)).length=lo.toNat*t.size:=by rw [List.length_take,hxl];omega
    by_cases hj:j<l.length*t.size
    ·rw [if_pos hj]
     simp only [List.toList_toArray] at *
     rw [zfi _ _ _ _ (by rw [hvl,hcl];omega),hvl]
     by_cases hj2:j<lo.toNat*t.size
     ·rw [if_neg (by omega),List.getElem?_append_left (by rw [htl];exact hj2),List.getElem?_take,if_pos hj2,←h5,List.getElem?_take,if_pos hj]
     ·rw [if_pos (by omega),List.getElem?_append_right (by rw [htl];omega),htl]
    ·rw [if_neg hj,List.getElem?_eq_none]
     rw [List.length_append,htl,hvl];omega
end
section
variable [Fc] [Fb] {P:Program} {n:Nat} {c:Code} {i:Nat} {Q:za7} {E:Env} {κ:K} {α:Type} {t:Ty α} {τ:Tag} {e T:TypeId} {a:Option Addr} {cp:Nat} {l r:List α}
theorem osv (d:Nat) {hi:Int} (hg:Gr t false τ κ e a cp l) (hx:zaL l 0 hi=some r) (hk:Gr t false τ κ e a cp r→owp P n c (i+1) Q (upd E d (.slice a r.length cp)) κ)
  (h:st c i n E (some d)=true:=by kernel_rfl) (ho:execOp (ev E) (zB c i)=vOf (Instr.sliceAt T (.slice a l.length cp) none (zdy (some hi)) none):=by kernel_rfl)
  (hT:zP P T=some e:=by kernel_rfl) (hs:zac P e=some t.size:=by kernel_rfl):owp P n c i Q E κ:=by
 have hr:=(zeo hx).2.2.2
 refine zfW _ h (fun C d0=>by rw [ho];exact zL (zgI (lo:=none) (hi:=some hi) hT hs hg.cap hx _)) ?_
 have e1:((Option.getD none 0:Int).toNat)=0:=rfl
 rw [e1,Nat.zero_mul,add_zero,Nat.sub_zero]
 refine hk ?_
 rw [hr]
 exact hg.take _
theorem zut (d d2:Nat) {lo:Int} (zs:List Value) {z:α} (hg:Gr t false τ κ e a cp l) (hzo:t.own κ zs z) (hx:clr l lo z=some r)
  (hk:∀ κ',Step (blk a cp) κ κ'→Gr t false τ κ' e a cp r→owp P n c (i+1+1) Q (upd E d (.slice (if cp=lo.toNat then a else a.map (·.add (lo.toNat*t.size))) (l.length - lo.toNat) (cp - lo.toNat))) κ')
  (h:st c i n E (some d)=true:=by kernel_rfl) (ho:execOp (ev E) (zB c i)=vOf (Instr.sliceAt T (.slice a l.length cp) (zdy (some lo)) none none):=by kernel_rfl)
  (h2:∀ v,st c (i+1) n (upd E d v) none=true:=by intro _;kernel_rfl) (ho2:∀ v,execOp (ev (upd E d v)) (zB c (i+1))=vOf (Builtin.clear_ #[T] d2 #[v]):=by intro _;kernel_rfl)
  (hT:zP P T=some e:=by kernel_rfl) (hs:zac P e=some t.size:=by kernel_rfl) (hz:(zeI P e).map Value.cells=some zs.toArray:=by kernel_rfl):owp P n c i Q E κ:=by
 obtain ⟨h0,h1,hr⟩:=zno hx
 have hsub:zaL l (Option.getD (some lo) 0) (Option.getD none (l.length:Int))=some (l.drop lo.toNat):=by
  unfold zaL
  simp only [Option.getD_some,Option.getD_none]
  rw [if_pos ⟨h0,h1,by omega⟩]
  simp
 refine zfW _ h (fun C d0=>by rw [ho];exact zL (zgI (lo:=some lo) (hi:=none) hT hs hg.cap hsub _)) ?_
 simp only [Option.getD_some]
 rw [List.length_drop]
 refine ziN (h2 _) (fun C d0 a' hf=>?_)
 obtain ⟨κ',hrun,hst,hg'⟩:=zsS (ty:=d2) hT hz hzo hg hx C d0
 obtain ⟨_,_,h3,_⟩:=zfF (h2 (.slice (if cp=lo.toNat then a else a.map (·.add (lo.toNat*t.size))) (l.length - lo.toNat) (cp - lo.toNat)))
 refine zhw (by rw [hf.eval,ho2];exact zL hrun) ?_
 rw [h3]
 exact hk κ' hst hg' C d0 _ hf
end
theorem ztk {α:Type} {l r:List α} {lo:Int} {z:α} (h:clr l lo z=some r):r.length=l.length:=by
 obtain ⟨h0,h1,rfl⟩:=zno h
 rw [List.length_append,List.length_take,List.length_replicate];omega
section
variable {P:Program} {f:FuncId} {args:Array Value} {κ:K} {α:Type} {t:Ty α} {τ:Tag} {e:TypeId} {a:Option Addr} {c:Nat} {l:List α}
def K.frB (κ:K) (g m:Nat):K:=⟨κ.H,fun b=>if b=g then m else κ.fr b,κ.tag⟩
theorem Fn.borrow {B:Value→Prop} (hg:Gr t false τ κ e a c l)
  (h:∀ κ1,κ1.H=κ.H→Step (blk a c) κ κ1→Gr t true τ κ1 e a c l→Fn P f args κ1 (fun v κ'=>Step [] κ1 κ'∧B v)):Fn P f args κ (fun v κ'=>Step [] κ κ'∧B v):=by
 by_cases hp:∃ g,blk a c=[g]
 ·obtain ⟨g,hb⟩:=hp
  obtain ⟨κ1,e1,s1,g1⟩:=hg.publish
  have hF:=h κ1 e1 s1 g1
  intro C d
  have ew:W C κ d=W C κ1 d:=by unfold W;rw [e1]
  rw [ew]
  refine (hF C d).mono ?_
  rintro ex w' ⟨v,κ2,d',hex,hw,hs,hB⟩
  refine ⟨v,K.frB κ2 g (κ.fr g),d',hex,by rw [hw];unfold W K.frB;rfl,?_,hB⟩
  have hgl:=hg.lt g (by rw [hb];simp)
  have hshp:∀ b,b<κ.H.size→(K.frB κ2 g (κ.fr g)).shp b=κ.shp b:=fun b hlt=>by
   show κ2.shp b=κ.shp b
   unfold K.shp
   rw [(hs.2.1 b (by rw [e1];exact hlt) (by simp)).1,e1]
  have htg:∀ b,b<κ.H.size→(K.frB κ2 g (κ.fr g)).tag b=κ.tag b:=fun b hlt=>by
   show κ2.tag b=κ.tag b
   rw [(hs.2.1 b (by rw [e1];exact hlt) (by simp)).2.2]
   by_cases hbg:b=g
   ·subst hbg
    exact (g1.lt b (by rw [hb];simp)).2.1.trans hgl.2.1.symm
   ·exact (s1.2.1 b hlt (by rw [hb];simpa using hbg)).2.2
  refine ⟨by rw [←e1];exact hs.1,fun b hlt _=>?_,fun b hlt=>?_,fun b hlt _=>⟨htg b hlt,hshp b hlt⟩⟩
  ·have h2:=hs.2.1 b (by rw [e1];exact hlt) (by simp)
   have hH:(K.frB κ2 g (κ.fr g)).H[b]?=κ.H[b]?:=by
    show κ2.H[b]?=κ.H[b]?
    rw [h2.1,e1]
   by_cases hbg:b=g
   ·subst hbg
    refine ⟨hH,by simp [K.frB],?_⟩
    show κ2.tag b=κ.tag b
    rw [h2.2.2]
    exact (g1.lt b (by rw [hb];simp)).2.1.trans hgl.2.1.symm
   ·have h1:=s1.2.1 b hlt (by rw [hb];simpa using hbg)
    refine ⟨hH,?_,?_⟩
    ·simp only [K.frB,if_neg hbg];rw [h2.2.1,h1.2.1]
    ·show κ2.tag b=κ.tag b
     rw [h2.2.2,h1.2.2]
  ·have h2:=hs.2.1 b (by rw [e1];exact hlt) (by simp)
   have hc:∀ o,(K.frB κ2 g (κ.fr g)).cell b o=κ.cell b o:=fun o=>by
    show K.cell κ2 b o=K.cell κ b o
    unfold K.cell
    rw [h2.1,e1]
   refine ⟨?_,fun o _=>hc o⟩
   by_cases hbg:b=g
   ·subst hbg;simp [K.frB]
   ·have h1:=s1.2.1 b hlt (by rw [hb];simpa using hbg)
    simp only [K.frB,if_neg hbg];rw [h2.2.1,h1.2.1];exact Nat.le_refl _
 ·have hb:blk a c=[]:=by
   cases a with
   | none=>rfl
   | some ad=>
    by_cases hc:c=0
    ·rw [hc,znp]
    ·exact absurd ⟨ad.block,by simp [blk,hc]⟩ hp
  obtain ⟨κ1,e1,s1,g1⟩:=hg.publish
  have hF:=h κ1 e1 s1 g1
  intro C d
  have ew:W C κ d=W C κ1 d:=by unfold W;rw [e1]
  rw [ew]
  rw [hb] at s1
  refine (hF C d).mono ?_
  rintro ex w' ⟨v,κ2,d',hex,hw,hs,hB⟩
  exact ⟨v,κ2,d',hex,hw,s1.trans hs,hB⟩
end
theorem Gr.any {α:Type} {t:Ty α} {pub:Bool} {τ:Tag} (τ':Tag) {κ:K} {e:TypeId} {a:Option Addr} {c:Nat} {l:List α} (h:Gr t pub τ κ e a c l) (hb:blk a c=[]):Gr t pub τ' κ e a c l:=by
 refine ⟨h.most,?_⟩
 rcases h.body with h1 | ⟨g,cur,xs,ha,hr,hH,h1,_⟩
 ·exact .inl h1
 ·have hc:c=0:=by
   subst ha
   by_cases hc:c=0
   ·exact hc
   ·simp [blk,hc] at hb
  exact .inl ⟨hc,List.eq_nil_of_length_eq_zero (by omega)⟩
theorem Gr.lo {α:Type} {t:Ty α} {pub:Bool} {τ:Tag} {κ:K} {e:TypeId} {a:Option Addr} {c:Nat} {l:List α} (h:Gr t pub τ κ e a c l):τ.1<κ.H.size∨blk a c=[]:=by
 by_cases hb:blk a c=[]
 ·exact .inr hb
 ·obtain ⟨g,hg⟩:=List.exists_mem_of_ne_nil _ hb
  have:=h.lt g hg
  exact .inl (Nat.lt_of_le_of_lt this.2.2 this.1)
theorem Gr.low {α:Type} {t:Ty α} {pub:Bool} {N i m:Nat} {κ:K} {e:TypeId} {a:Option Addr} {c:Nat} {l:List α} (h:Gr t pub (N,i) κ e a c l) (go:m≤N) (hb:m<κ.H.size) :
  ∃ N',m≤N'∧N'<κ.H.size∧Gr t pub (N',i) κ e a c l:=by
 rcases h.lo with h1 | h1
 ·exact ⟨N,go,h1,h⟩
 ·exact ⟨m,Nat.le_refl _,hb,h.any _ h1⟩
abbrev Hd:=Option Addr×Nat×Nat
def tH:Ty Hd:=⟨1,fun _ cs h=>cs=[.slice h.1 h.2.1 h.2.2],fun h=>by rw [h];rfl,fun _ h=>h,fun h v hv=>by rw [h] at hv;simp at hv;subst hv;rfl⟩
def zjC (h:Hd):List Nat:=blk h.1 h.2.2
def mblk (a:Option Addr) (c:Nat) (hs:List Hd):List Nat:=blk a c++hs.flatMap zjC
theorem zj5 (a:Option Addr) (c:Nat):(blk a c).Nodup:=by
 unfold blk
 cases a with
 | none=>simp
 | some x=>simp only [];split<;>simp
structure Mat {α:Type} (t:Ty α) (pub:Bool) (τ:Tag) (κ:K) (eo ei:TypeId) (a:Option Addr) (c:Nat) (hm hs:List Hd) (L:List (List α)):Prop where
 out:Gr tH false τ κ eo a c hm
 len:hs.length=L.length
 rows:∀ (i:Nat) (h:Hd) (l:List α),hs[i]?=some h→L[i]?=some l→h.2.1=l.length∧Gr t pub τ κ ei h.1 h.2.2 l
 nd:(mblk a c hs).Nodup
section
variable {α:Type} {t:Ty α} {pub:Bool} {τ:Tag} {κ κ':K} {eo ei:TypeId} {a:Option Addr} {c:Nat} {hm hs:List Hd} {L:List (List α)} {M:List Nat}
theorem zjE {g:Nat}:g∈mblk a c hs↔g∈blk a c∨∃ (i:Nat) (h:Hd),hs[i]?=some h∧g∈zjC h:=by
 unfold mblk
 rw [List.mem_append,List.mem_flatMap]
 constructor
 ·rintro (h | ⟨x,hx,hg⟩)
  ·exact .inl h
  ·obtain ⟨i,hi⟩:=List.getElem?_of_mem hx
   exact .inr ⟨i,x,hi,hg⟩
 ·rintro (h | ⟨i,x,hx,hg⟩)
  ·exact .inl h
  ·exact .inr ⟨x,List.mem_of_getElem? hx,hg⟩
theorem Mat.row_at (h:Mat t pub τ κ eo ei a c hm hs L) {i:Nat} {hd:Hd} (hi:hs[i]?=some hd):∃ l,L[i]?=some l∧hd.2.1=l.length∧Gr t pub τ κ ei hd.1 hd.2.2 l:=by
 have hlt:i<L.length:=by rw [←h.len];exact (List.getElem?_eq_some_iff.1 hi).1
 have hl:L[i]?=some L[i]:=by simp [hlt]
 exact ⟨L[i],hl,h.rows i hd _ hi hl⟩
theorem Mat.lt (h:Mat t pub τ κ eo ei a c hm hs L):∀ g∈mblk a c hs,g<κ.H.size∧κ.tag g=τ∧τ.1≤g:=by
 intro g hg
 rcases zjE.1 hg with hg | ⟨i,hd,hi,hg⟩
 ·exact h.out.lt g hg
 ·obtain ⟨l,_,_,hgr⟩:=h.row_at hi
  exact hgr.lt g hg
theorem Mat.step (s:Step M κ κ') (hM:∀ g∈mblk a c hs,g∉M) (h:Mat t pub τ κ eo ei a c hm hs L):Mat t pub τ κ' eo ei a c hm hs L:=
 ⟨h.out.step s (fun g hg=>hM g (zjE.2 (.inl hg))),h.len,fun i hd l hi hl=>⟨(h.rows i hd l hi hl).1,(h.rows i hd l hi hl).2.step s (fun g hg=>hM g (zjE.2 (.inr ⟨i,hd,hi,hg⟩)))⟩,h.nd⟩
theorem Mat.step0 (s:Step [] κ κ') (h:Mat t pub τ κ eo ei a c hm hs L):Mat t pub τ κ' eo ei a c hm hs L:=h.step s (by simp)
theorem Mat.most (h:Mat t pub τ κ eo ei a c hs hs L):L.length≤9223372036854775807:=by rw [←h.len];exact zqC h.out.most
theorem Mat.idx {ix:Int} {l:List α} (h:Mat t pub τ κ eo ei a c hs hs L) (hx:idx L ix=some l) :
  ∃ b ah ch,a=some ⟨b,0,none⟩∧0≤ix∧ix<(L.length:Int)∧hs[ix.toNat]?=some (ah,l.length,ch)∧At κ b (0+ix.toNat*1) [.slice ah l.length ch]∧Gr t pub τ κ ei ah ch l:=by
 obtain ⟨h0,h1,h2⟩:=ze2 hx
 have hlt:ix.toNat<hs.length:=by rw [h.len];omega
 have hh:hs[ix.toNat]?=some hs[ix.toNat]:=by simp [hlt]
 obtain ⟨e1,g1⟩:=h.rows _ _ _ hh h2
 have hix:Lf.idx hs ix=some hs[ix.toNat]:=by unfold Lf.idx;rw [if_pos h0];exact hh
 obtain ⟨b,ha,_,_,cs,hat,ho⟩:=h.out.idx hix
 refine ⟨b,hs[ix.toNat].1,hs[ix.toNat].2.2,ha,h0,h1,?_,?_,g1⟩
 ·rw [hh,←e1]
 ·have:cs=[.slice hs[ix.toNat].1 hs[ix.toNat].2.1 hs[ix.toNat].2.2]:=ho
  rw [this,e1] at hat
  exact hat
theorem Mat.made {n:Nat} (h:Gr tH false τ κ eo a c (List.replicate n (none,0,0))):Mat t pub τ κ eo ei a c (List.replicate n (none,0,0)) (List.replicate n (none,0,0)) (List.replicate n ([]:List α)):=by
 refine ⟨h,by simp,fun i hd l hi hl=>?_,?_⟩
 ·have h1:hd=(none,0,0):=List.eq_of_mem_replicate (List.mem_of_getElem? hi)
  have h2:l=[]:=List.eq_of_mem_replicate (List.mem_of_getElem? hl)
  subst h1;subst h2
  exact ⟨rfl,Gr.nil⟩
 ·unfold mblk
  have:(List.replicate n ((none,0,0):Hd)).flatMap zjC=[]:=by
   rw [List.flatMap_eq_nil_iff]
   intro x hx
   rw [List.eq_of_mem_replicate hx];rfl
  rw [this,List.append_nil]
  exact zj5 a c
theorem zpo {i:Nat} {hd h':Hd} (hi:hs[i]?=some hd):∃ X Y,hs.flatMap zjC=X++zjC hd++Y∧(hs.set i h').flatMap zjC=X++zjC h'++Y:=by
 have hlt:=(List.getElem?_eq_some_iff.1 hi).1
 have he:=(List.getElem?_eq_some_iff.1 hi).2
 refine ⟨(hs.take i).flatMap zjC,(hs.drop (i+1)).flatMap zjC,?_,?_⟩
 ·have:hs=hs.take i++hd::hs.drop (i+1):=by
   rw [←he,List.getElem_cons_drop,List.take_append_drop]
  conv=>lhs;rw [this]
  simp [List.flatMap_append,List.flatMap_cons,List.append_assoc]
 ·rw [List.set_eq_take_append_cons_drop,if_pos hlt]
  simp [List.flatMap_append,List.flatMap_cons,List.append_assoc]
theorem znP {A X B Y B':List Nat} {n:Nat} (h:(A++(X++B++Y)).Nodup) (hb:B'.Nodup) (hlt:∀ g∈A++(X++B++Y),g<n) (hw:∀ g∈B',g∈B∨n≤g):(A++(X++B'++Y)).Nodup:=by
 simp only [List.nodup_append,List.mem_append] at h hlt ⊢
 obtain ⟨h1,⟨⟨h2,h3,h4⟩,h5,h6⟩,h7⟩:=h
 refine ⟨h1,⟨⟨h2,hb,fun x hx y hy=>?_⟩,h5,fun x hx y hy=>?_⟩,fun x hx y hy=>?_⟩
 ·rcases hw y hy with hyb | hyn
  ·exact h4 x hx y hyb
  ·have:=hlt x (.inr (.inl (.inl hx)));omega
 ·rcases hx with hx | hx
  ·exact h6 x (.inl hx) y hy
  ·rcases hw x hx with hxb | hxn
   ·exact h6 x (.inr hxb) y hy
   ·have:=hlt y (.inr (.inr hy));omega
 ·rcases hy with (hy | hy) | hy
  ·exact h7 x hx y (.inl (.inl hy))
  ·rcases hw y hy with hyb | hyn
   ·exact h7 x hx y (.inl (.inr hyb))
   ·have:=hlt x (.inl hx);omega
  ·exact h7 x hx y (.inr hy)
theorem Mat.row (h:Mat t pub τ κ eo ei a c hm hs L) {i:Nat} {hd:Hd} {a':Option Addr} {c':Nat} {l':List α} (hi:hs[i]?=some hd) (s:Step (zjC hd) κ κ') (g:Gr t pub τ κ' ei a' c' l')
  (hw:∀ x∈blk a' c',x∈zjC hd∨κ.H.size≤x):Mat t pub τ κ' eo ei a c hm (hs.set i (a',l'.length,c')) (L.set i l'):=by
 have hlt:=(List.getElem?_eq_some_iff.1 hi).1
 obtain ⟨X,Y,e1,e2⟩:=zpo (h':=(a',l'.length,c')) hi
 have hnd:=h.nd
 unfold mblk at hnd
 refine ⟨h.out.step s (fun x hx hc=>?_),by rw [List.length_set,List.length_set];exact h.len,fun j hj l hj1 hl1=>?_,?_⟩
 ·rw [List.nodup_append] at hnd
  exact hnd.2.2 x hx x (by rw [e1];simp [hc]) rfl
 ·by_cases hij:i=j
  ·subst hij
   rw [List.getElem?_set_self hlt] at hj1
   rw [List.getElem?_set_self (by rw [←h.len];exact hlt)] at hl1
   injection hj1 with hj1;injection hl1 with hl1
   subst hj1;subst hl1
   exact ⟨rfl,g⟩
  ·rw [List.getElem?_set_ne hij] at hj1 hl1
   refine ⟨(h.rows j hj l hj1 hl1).1,(h.rows j hj l hj1 hl1).2.step s (fun x hx hc=>?_)⟩
   have hn2:=(List.nodup_append.1 hnd).2.1
   have hp:=(List.pairwise_flatMap.1 hn2).2
   have hlj:=(List.getElem?_eq_some_iff.1 hj1).1
   have hpw:=List.pairwise_iff_getElem.1 hp
   have ei':=(List.getElem?_eq_some_iff.1 hi).2
   have ej':=(List.getElem?_eq_some_iff.1 hj1).2
   rcases Nat.lt_or_gt_of_ne hij with hlt' | hlt'
   ·have:=hpw i j hlt hlj hlt';rw [ei',ej'] at this;exact this x hc x hx rfl
   ·have:=hpw j i hlj hlt hlt';rw [ei',ej'] at this;exact this x hx x hc rfl
 ·unfold mblk
  rw [e2]
  rw [e1] at hnd
  refine znP hnd (zj5 a' c') (n:=κ.H.size) (fun x hx=>?_) hw
  have:x∈mblk a c hs:=by unfold mblk;rw [e1];exact hx
  exact (h.lt x this).1
theorem Mat.outer (h:Mat t pub τ κ eo ei a c hm hs L) {a':Option Addr} {c':Nat} {hm':List Hd} (s:Step (blk a c) κ κ') (g:Gr tH false τ κ' eo a' c' hm')
  (hw:∀ x∈blk a' c',x∈blk a c∨κ.H.size≤x):Mat t pub τ κ' eo ei a' c' hm' hs L:=by
 have hnd:=h.nd
 unfold mblk at hnd
 refine ⟨g,h.len,fun i hd l hi hl=>⟨(h.rows i hd l hi hl).1,(h.rows i hd l hi hl).2.step s (fun x hx hc=>?_)⟩,?_⟩
 ·exact (List.nodup_append.1 hnd).2.2 x hc x (List.mem_flatMap.2 ⟨hd,List.mem_of_getElem? hi,hx⟩) rfl
 ·unfold mblk
  have:=znP (A:=[]) (X:=[]) (B:=blk a c) (Y:=hs.flatMap zjC) (B':=blk a' c') (n:=κ.H.size) (by simpa using hnd) (zj5 a' c') (fun x hx=>(h.lt x (by simpa [mblk] using hx)).1) hw
  simpa using this
def K.retag (κ:K) (B:List Nat) (τ:Tag):K:=⟨κ.H,κ.fr,fun b=>if b∈B then τ else κ.tag b⟩
theorem Gr.fr0 {e:TypeId} {l:List α} (h:Gr t false τ κ e a c l):∀ g∈blk a c,κ.fr g=0:=by
 intro g hg
 rcases h.body with ⟨hc,_⟩ | ⟨g',cur,xs,ha,hr,hH,h1,h2,h3,h4,h5,h6,h7⟩
 ·rw [hc,znp] at hg;cases hg
 ·rw [ha] at hg
  have:=(zj6 hg).1
  rw [this];simpa using h5
theorem Gr.retag {τ':Tag} {e:TypeId} {l:List α} (h:Gr t false τ κ e a c l) (hle:τ'.1≤τ.1):Gr t false τ' (κ.retag (blk a c) τ') e a c l∧Step (blk a c) κ (κ.retag (blk a c) τ'):=by
 have hs:Step (blk a c) κ (κ.retag (blk a c) τ'):=⟨Nat.le_refl _,fun b hb hm=>⟨rfl,rfl,by simp [K.retag,hm]⟩,fun b hb=>⟨Nat.le_refl _,fun o _=>rfl⟩,fun b hb hf=>⟨by
  have:b∉blk a c:=fun hm=>by rw [h.fr0 b hm] at hf;omega
  simp [K.retag,this],rfl⟩⟩
 refine ⟨⟨h.most,?_⟩,hs⟩
 rcases h.body with h1 | ⟨g,cur,xs,ha,hr,hH,h1,h2,h3,h4,h5,h6,h7⟩
 ·exact .inl h1
 ·by_cases hc0:c=0
  ·exact .inl ⟨hc0,List.eq_nil_of_length_eq_zero (by omega)⟩
  ·refine .inr ⟨g,cur,xs,ha,hr.step hs,hH,h1,h2,h3,h4,h5,?_,Nat.le_trans hle h7⟩
   have:g∈blk a c:=by rw [ha];exact zhO (a:=⟨g,0,none⟩) (by omega)
   simp [K.retag,this]
theorem Mat.snoc {τr:Tag} {ar:Option Addr} {cr:Nat} {l:List α} (h:Mat t false τ κ eo ei a c hm hs L) (g:Gr t false τr κ ei ar cr l) (hne:τr≠τ) (hle:τ.1≤τr.1) :
  ∃ κ',κ'.H=κ.H∧Step (blk ar cr) κ κ'∧Mat t false τ κ' eo ei a c hm (hs++[(ar,l.length,cr)]) (L++[l]):=by
 obtain ⟨g',s⟩:=g.retag (τ':=τ) hle
 have hdis:∀ x∈mblk a c hs,x∉blk ar cr:=fun x hx hc=>hne ((g.lt x hc).2.1.symm.trans (h.lt x hx).2.1)
 have h':=h.step s hdis
 refine ⟨κ.retag (blk ar cr) τ,rfl,s,h'.out,by rw [List.length_append,List.length_append,h.len];rfl,fun i hd l1 hi hl=>?_,?_⟩
 ·by_cases hlt:i<hs.length
  ·rw [List.getElem?_append_left hlt] at hi
   rw [List.getElem?_append_left (by rw [←h.len];exact hlt)] at hl
   exact h'.rows i hd l1 hi hl
  ·rw [List.getElem?_append_right (by omega)] at hi
   rw [List.getElem?_append_right (by rw [←h.len];omega)] at hl
   have h0:i - hs.length=0:=by
    have:=(List.getElem?_eq_some_iff.1 hi).1
    simp at this;omega
   rw [h0] at hi
   rw [←h.len,h0] at hl
   simp at hi hl
   subst hi;subst hl
   exact ⟨rfl,g'⟩
 ·have hnd:=h.nd
  unfold mblk at hnd ⊢
  rw [List.flatMap_append,←List.append_assoc,List.nodup_append]
  refine ⟨hnd,by simpa [zjC] using zj5 ar cr,fun x hx y hy=>?_⟩
  have hy':y∈blk ar cr:=by simpa [zjC] using hy
  intro e
  subst e
  exact hdis x hx hy'
end
section
variable {α:Type} {t:Ty α} {pub:Bool} {τ:Tag} {κ κ':K} {eo ei:TypeId} {a:Option Addr} {c:Nat} {hm hs:List Hd} {L:List (List α)} {M:List Nat}
theorem Gr.publish' {e:TypeId} {l:List α} (h:Gr t pub τ κ e a c l):∃ κ',κ'.H=κ.H∧κ'.tag=κ.tag∧Step (blk a c) κ κ'∧Gr t true τ κ' e a c l:=by
 cases pub with
 | true=>exact ⟨κ,rfl,rfl,Step.refl _ _,h⟩
 | false=>
 rcases h.body with ⟨hc,hl⟩ | ⟨g,cur,xs,ha,hr,hH,h1,h2,h3,h4,h5,h6,h7⟩
 ·exact ⟨κ,rfl,rfl,Step.refl _ _,h.most,.inl ⟨hc,hl⟩⟩
 ·by_cases hc0:c=0
  ·exact ⟨κ,rfl,rfl,Step.refl _ _,h.most,.inl ⟨hc0,List.eq_nil_of_length_eq_zero (by omega)⟩⟩
  have hs:Step (blk a c) κ (κ.pubB g (l.length*t.size)):=by
   refine ⟨Nat.le_refl _,fun b hb hm=>⟨rfl,?_,rfl⟩,fun b hb=>⟨?_,fun o _=>rfl⟩,fun b hb _=>⟨rfl,rfl⟩⟩
   ·simp only [K.pubB];rw [if_neg];intro e;exact hm (by rw [ha,e];exact zhO (by omega))
   ·simp only [K.pubB];split
    ·rename_i e;subst e;rw [h5];simp
    ·exact Nat.le_refl _
  exact ⟨κ.pubB g (l.length*t.size),rfl,rfl,hs,h.most,.inr ⟨g,cur,xs,ha,hr.step hs,hH,h1,h2,h3,h4,by simp [K.pubB],h6,h7⟩⟩
theorem zoY:∀ (hs:List Hd) (L:List (List α)) (κ:K),hs.length=L.length→(∀ (i:Nat) (h:Hd) (l:List α),hs[i]?=some h→L[i]?=some l→h.2.1=l.length∧Gr t pub τ κ ei h.1 h.2.2 l)→(hs.flatMap zjC).Nodup→
  ∃ κ',κ'.H=κ.H∧κ'.tag=κ.tag∧Step (hs.flatMap zjC) κ κ'∧∀ (i:Nat) (h:Hd) (l:List α),hs[i]?=some h→L[i]?=some l→h.2.1=l.length∧Gr t true τ κ' ei h.1 h.2.2 l
 | [],L,κ,_,_,_=>⟨κ,rfl,rfl,Step.refl _ _,fun i h l hi=>by simp at hi⟩
 | h::hs,[],κ,hl,_,_=>by simp at hl
 | h::hs,l::L,κ,hl,hr,hn=>by
  rw [List.flatMap_cons,List.nodup_append] at hn
  obtain ⟨e0,g0⟩:=hr 0 h l rfl rfl
  obtain ⟨κ1,e1,t1,s1,g1⟩:=g0.publish'
  obtain ⟨κ2,e2,t2,s2,r2⟩:=zoY hs L κ1 (by simpa using hl) (fun i h' l' hi hl'=>by
   obtain ⟨e3,g3⟩:=hr (i+1) h' l' hi hl'
   refine ⟨e3,g3.step s1 (fun x hx hc=>hn.2.2 x hc x (List.mem_flatMap.2 ⟨h',List.mem_of_getElem? hi,hx⟩) rfl)⟩) hn.2.1
  refine ⟨κ2,e2.trans e1,t2.trans t1,?_,fun i h' l' hi hl'=>?_⟩
  ·rw [List.flatMap_cons]
   exact (s1.mono (fun b hb=>List.mem_append.2 (.inl hb))).trans (s2.mono (fun b hb=>List.mem_append.2 (.inr hb)))
  ·cases i with
   | zero=>
    simp at hi hl'
    subst hi;subst hl'
    exact ⟨e0,g1.step s2 (fun x hx hc=>hn.2.2 x hx x hc rfl)⟩
   | succ i=>exact r2 i h' l' hi hl'
theorem ztK {l:List Hd}:∀ {xs:List Value} {L:List (List α)},Rep tH κ xs l→l.length=L.length→(∀ (i:Nat) (h:Hd) (r:List α),l[i]?=some h→L[i]?=some r→h.2.1=r.length∧Sl t κ h.1 h.2.2 r)→Rep (tSl t) κ xs L:=by
 induction l with
 | nil=>
  intro xs L hr hl _
  cases L with
  | nil=>exact hr
  | cons _ _=>simp at hl
 | cons h l ih=>
  intro xs L hr hl hrow
  cases L with
  | nil=>simp at hl
  | cons r L=>
   obtain ⟨c,xs',e,ho,hr'⟩:=hr
   obtain ⟨e1,s1⟩:=hrow 0 h r rfl rfl
   refine ⟨c,xs',e,⟨h.1,h.2.2,?_,s1⟩,ih hr' (by simpa using hl) (fun i h' r' hi hr2=>hrow (i+1) h' r' hi hr2)⟩
   have:c=[.slice h.1 h.2.1 h.2.2]:=ho
   rw [this,e1]
theorem Mat.publish (h:Mat t pub τ κ eo ei a c hs hs L):∃ κ',κ'.H=κ.H∧κ'.tag=κ.tag∧Step (mblk a c hs) κ κ'∧Gr (tSl t) true τ κ' eo a c L:=by
 have hnd:=h.nd
 unfold mblk at hnd
 rw [List.nodup_append] at hnd
 obtain ⟨κ1,e1,t1,s1,r1⟩:=zoY hs L κ h.len h.rows hnd.2.1
 have ho:=h.out.step s1 (fun x hx hc=>hnd.2.2 x hx x hc rfl)
 obtain ⟨κ2,e2,t2,s2,g2⟩:=ho.publish'
 have hst:Step (mblk a c hs) κ κ2:=(s1.mono (fun b hb=>by unfold mblk;exact List.mem_append.2 (.inr hb))).trans (s2.mono (fun b hb=>by unfold mblk;exact List.mem_append.2 (.inl hb)))
 refine ⟨κ2,e2.trans e1,t2.trans t1,hst,by rw [←h.len];exact g2.most,?_⟩
 rcases g2.body with ⟨hc,hl⟩ | ⟨g,cur,xs,ha,hr,hH,h1,h2,h3,h4,h5,h6,h7⟩
 ·refine .inl ⟨hc,?_⟩
  have:=h.len
  rw [hl] at this
  exact List.eq_nil_of_length_eq_zero (by simpa using this.symm)
 ·have hrep:Rep (tSl t) κ2 xs L:=ztK hr h.len (fun i hd r hi hri=>by
   obtain ⟨e3,g3⟩:=r1 i hd r hi hri
   exact ⟨e3,(g3.step s2 (fun x hx hc=>hnd.2.2 x hc x (List.mem_flatMap.2 ⟨hd,List.mem_of_getElem? hi,hx⟩) rfl)).sl⟩)
  exact .inr ⟨g,cur,xs,ha,hrep,hH,by rw [←h.len];exact h1,h2,h3,by rw [←h.len];exact h4,by rw [←h.len];exact h5,h6,h7⟩
def K.back (κ κ':K):K:=⟨κ'.H,fun b=>if b<κ.H.size then κ.fr b else κ'.fr b,κ'.tag⟩
theorem zqQ {κ1 κ2:K} (e:κ1.H=κ.H) (et:κ1.tag=κ.tag) (s:Step [] κ1 κ2):Step [] κ (K.back κ κ2):=by
 refine ⟨by rw [←e];exact s.1,fun b hb _=>?_,fun b hb=>?_,fun b hb _=>?_⟩
 ·have h2:=s.2.1 b (by rw [e];exact hb) (by simp)
  exact ⟨by show κ2.H[b]?=_;rw [h2.1,e],by simp [K.back,hb],by show κ2.tag b=_;rw [h2.2.2,et]⟩
 ·have h2:=s.2.1 b (by rw [e];exact hb) (by simp)
  refine ⟨by simp [K.back,hb],fun o _=>?_⟩
  show K.cell κ2 b o=K.cell κ b o
  unfold K.cell
  rw [h2.1,e]
 ·have h2:=s.2.1 b (by rw [e];exact hb) (by simp)
  refine ⟨by show κ2.tag b=_;rw [h2.2.2,et],?_⟩
  show K.shp κ2 b=K.shp κ b
  unfold K.shp
  rw [h2.1,e]
theorem Fn.lend {P:Program} {f:FuncId} {args:Array Value} {R:Value→K→Prop} {κ1:K} (e:κ1.H=κ.H) (et:κ1.tag=κ.tag)
  (h:Fn P f args κ1 (fun v κ'=>Step [] κ1 κ'∧R v κ')) (hR:∀ v κ2,Step [] κ1 κ2→R v κ2→R v (K.back κ κ2)):Fn P f args κ (fun v κ'=>Step [] κ κ'∧R v κ'):=by
 intro C d
 have ew:W C κ d=W C κ1 d:=by unfold W;rw [e]
 rw [ew]
 refine (h C d).mono ?_
 rintro ex w' ⟨v,κ2,d',hex,hw,hs,hB⟩
 exact ⟨v,K.back κ κ2,d',hex,by rw [hw];unfold W K.back;rfl,zqQ e et hs,hR v κ2 hs hB⟩
theorem zqx:∀ {l:List Int} {xs:List Value},Rep tI64 κ xs l→Rep tI64 κ' xs l
 | [],_,h=>h
 | _::_,_,⟨c,xs',e,ho,hr⟩=>⟨c,xs',e,ho,zqx hr⟩
theorem Gr.back {N i:Nat} {e:TypeId} {l:List Int} (h:Gr tI64 pub (N,i) κ' e a c l) (hN:κ.H.size≤N):Gr tI64 pub (N,i) (K.back κ κ') e a c l:=by
 refine ⟨h.most,?_⟩
 rcases h.body with h1 | ⟨g,cur,xs,ha,hr,hH,h1,h2,h3,h4,h5,h6,h7⟩
 ·exact .inl h1
 ·refine .inr ⟨g,cur,xs,ha,?_,hH,h1,h2,h3,h4,?_,h6,h7⟩
  ·exact zqx hr
  ·have:¬g<κ.H.size:=by
    have:N≤g:=h7
    omega
   simp [K.back,this,h5]
end
section
variable [Fc] [Fb] {P:Program} {n:Nat} {c:Code} {i:Nat} {Q:za7} {E:Env} {α:Type} {t:Ty α} {τ:Tag} {κ:K} {eo ei:TypeId} {a:Option Addr} {cp:Nat} {hm hs:List Hd} {L:List (List α)}
theorem zi5 {pub:Bool} (h:Mat t pub τ κ eo ei a cp hs hs L) (hk:∀ κ',Step (mblk a cp hs) κ κ'→Gr (tSl t) true τ κ' eo a cp L→cwp P n c Q E κ'):cwp P n c Q E κ:=by
 obtain ⟨κ',e,_,s,g⟩:=h.publish
 exact znY e (hk κ' s g)
theorem zrO {l:List Hd} {i:Nat} {h:Hd} (hi:l[i]?=some h):l.set i h=l:=by
 apply List.ext_getElem?
 intro j
 rw [List.getElem?_set]
 split
 ·rename_i e;subst e
  have:=(List.getElem?_eq_some_iff.1 hi).1
  rw [if_pos this,hi]
 ·rfl
theorem zlg {jx:Int} {ix:Nat} {x':α} {b δ:Nat} {T:TypeId} {vs:List Value} {ah:Option Addr} {ch:Nat} {l:List α} (v:Value) (h:st c i n E none=true)
  (ho:execOp (ev E) (zB c i)=uOf (Instr.storeAt T (.pointer (some ⟨b,0+jx.toNat*t.size+δ,none⟩)) v)) (ea:ah=some ⟨b,0,none⟩) (hM:Mat t false τ κ eo ei a cp hm hs L) (hi:hs[ix]?=some (ah,l.length,ch)) (hl:L[ix]?=some l)
  (h0:0≤jx) (h1:jx<(l.length:Int)) (hv:v.cells=vs.toArray) (hs':zac P T=some vs.length) (hone:znq vs=true) (hδ:Nat.ble (δ+vs.length) t.size=true)
  (hnew:∀ cs,(∃ x,idx l jx=some x∧t.own κ cs x)→t.own κ (splice cs δ vs) x')
  (hk:∀ κ',Step (blk ah ch) κ κ'→Mat t false τ κ' eo ei a cp hm hs (L.set ix (l.set jx.toNat x'))→owp P n c (i+1) Q E κ'):owp P n c i Q E κ:=by
 have hg:=(hM.rows ix _ l hi hl).2
 refine zbu v h ho ea hg h0 h1 hv hs' hone hδ hnew (fun κ' s g=>hk κ' s ?_)
 have:=hM.row hi s g (fun x hx=>.inl hx)
 rw [List.length_set,zrO hi] at this
 exact this
theorem zmX {ix:Int} {b:Nat} {T:TypeId} {hd:Hd} (h:st c i n E none=true)
  (ho:execOp (ev E) (zB c i)=uOf (Instr.storeAt T (.pointer (some ⟨b,0+ix.toNat*1+0,none⟩)) (.slice hd.1 hd.2.1 hd.2.2))) (ea:a=some ⟨b,0,none⟩) (hM:Mat t false τ κ eo ei a cp hm (hm.set ix.toNat hd) L)
  (h0:0≤ix) (h1:ix<(hm.length:Int)) (hs':zac P T=some 1)
  (hk:∀ κ',Step (blk a cp) κ κ'→Mat t false τ κ' eo ei a cp (hm.set ix.toNat hd) (hm.set ix.toNat hd) L→owp P n c (i+1) Q E κ'):owp P n c i Q E κ:=by
 refine zbu (t:=tH) (x':=hd) (vs:=[.slice hd.1 hd.2.1 hd.2.2]) (δ:=0) _ h ho ea hM.out h0 h1 rfl hs' rfl rfl (fun cs hx=>?_) (fun κ' s g=>hk κ' s (hM.outer s g (fun x hx=>.inl hx)))
 obtain ⟨x,_,ho'⟩:=hx
 have:cs=[.slice x.1 x.2.1 x.2.2]:=ho'
 subst this
 rfl
end
section
variable {α β:Type} {t:Ty α} {t':Ty β} {pub pub':Bool} {τ τ':Tag} {κ:K} {eo ei eo' ei' e:TypeId} {a a':Option Addr} {c c':Nat} {hm hs hm' hs':List Hd} {L:List (List α)} {L':List (List β)} {b:Nat} {cs:List Value} {T:TypeId}
theorem Mat.nil:Mat t pub τ κ eo ei none 0 [] [] ([]:List (List α)):=⟨Gr.nil,rfl,fun i h l hi=>by simp at hi,by simp [mblk,blk]⟩
theorem Mat.own {κ0:K} (h:Mat t pub τ κ eo ei a c hm hs L) (h0:κ0.H.size≤τ.1):∀ b∈mblk a c hs,κ0.H.size≤b:=fun b hb=>Nat.le_trans h0 (h.lt b hb).2.2
theorem Mat.nbo (h:Mat t pub τ κ eo ei a c hm hs L) (h':Own τ' κ b) (hn:τ≠τ'):∀ g∈mblk a c hs,g∉[b]:=fun g hg hx=>by
 have e1:g=b:=by simpa using hx
 subst e1
 exact hn ((h.lt g hg).2.1.symm.trans h'.tag)
theorem Mat.bno (h:Mat t pub τ κ eo ei a c hm hs L) (h':Own τ' κ b) (hn:τ'≠τ):b∉mblk a c hs:=fun hg=>hn (h'.tag.symm.trans (h.lt b hg).2.1)
theorem Mat.nb (h:Mat t pub τ κ eo ei a c hm hs L) (h':Box τ' κ b cs T) (hn:τ≠τ'):∀ g∈mblk a c hs,g∉[b]:=h.nbo h'.o hn
theorem Mat.bn (h:Mat t pub τ κ eo ei a c hm hs L) (h':Box τ' κ b cs T) (hn:τ'≠τ):b∉mblk a c hs:=h.bno h'.o hn
theorem Mat.ng {l':List β} (h:Mat t pub τ κ eo ei a c hm hs L) (h':Gr t' pub' τ' κ e a' c' l') (hn:τ≠τ'):∀ g∈mblk a c hs,g∉blk a' c':=fun g hg hx=>hn ((h.lt g hg).2.1.symm.trans (h'.lt g hx).2.1)
theorem Mat.ngm (h:Mat t pub τ κ eo ei a c hm hs L) (h':Mat t' pub' τ' κ eo' ei' a' c' hm' hs' L') (hn:τ≠τ'):∀ g∈mblk a c hs,g∉mblk a' c' hs':=fun g hg hx=>hn ((h.lt g hg).2.1.symm.trans (h'.lt g hx).2.1)
theorem Gr.ngm {l:List α} (h:Gr t pub τ κ e a c l) (h':Mat t' pub' τ' κ eo' ei' a' c' hm' hs' L') (hn:τ≠τ'):∀ g∈blk a c,g∉mblk a' c' hs':=fun g hg hx=>hn ((h.lt g hg).2.1.symm.trans (h'.lt g hx).2.1)
theorem ziP {r:List (List α)} (h:some L=some r) (hM:Mat t pub τ κ eo ei a c hm hs L):Mat t pub τ κ eo ei a c hm hs r:=by injection h with h;rw [←h];exact hM
theorem zom {l:List α} {ix:Int} {x:α} (h:idx l ix=some x):l[ix.toNat]?=some x:=(ze2 h).2.2
theorem zeG {i:Nat} {hd:Hd} (hi:hs[i]?=some hd):∀ x∈blk hd.1 hd.2.2,x∈mblk a c hs:=fun x hx=>zjE.2 (.inr ⟨i,hd,hi,hx⟩)
theorem zex:∀ x∈blk a c,x∈mblk a c hs:=fun x hx=>zjE.2 (.inl hx)
end
section
variable {α:Type} {t:Ty α} {pub:Bool} {τ:Tag} {κ:K} {eo ei:TypeId} {a:Option Addr} {c:Nat} {hm hs:List Hd} {L:List (List α)} {i:Nat} {hd:Hd}
theorem Mat.len0 (h:Mat t pub τ κ eo ei a c hm (hm.set i hd) L):hm.length=(L.length):=by rw [←h.len,List.length_set]
theorem Mat.snocN (h:Mat t pub τ κ eo ei a c hm hs L):Mat t pub τ κ eo ei a c hm (hs++[(none,0,0)]) (L++[[]]):=by
 refine ⟨h.out,by rw [List.length_append,List.length_append,h.len];rfl,fun i hd l1 hi hl=>?_,?_⟩
 ·by_cases hlt:i<hs.length
  ·rw [List.getElem?_append_left hlt] at hi
   rw [List.getElem?_append_left (by rw [←h.len];exact hlt)] at hl
   exact h.rows i hd l1 hi hl
  ·rw [List.getElem?_append_right (by omega)] at hi
   rw [List.getElem?_append_right (by rw [←h.len];omega)] at hl
   have h0:i - hs.length=0:=by
    have:=(List.getElem?_eq_some_iff.1 hi).1
    simp at this;omega
   rw [h0] at hi
   rw [←h.len,h0] at hl
   simp at hi hl
   subst hi;subst hl
   exact ⟨rfl,Gr.nil⟩
 ·have hnd:=h.nd
  unfold mblk at hnd ⊢
  rw [List.flatMap_append,←List.append_assoc]
  simpa [zjC,blk] using hnd
theorem zql {by_:Nat} {H H2:List Hd} {L2 r:List (List α)} (h:app by_ L L2=some r) (e1:H.length=L.length) (e2:H2.length=L2.length):app by_ H H2=some (H++H2)∧r=L++L2∧(H++H2).length=r.length:=by
 obtain ⟨h1,h2,h3⟩:=zjW h
 refine ⟨?_,h3,by rw [h3,List.length_append,List.length_append,e1,e2]⟩
 unfold app
 rw [e1,e2,if_pos ⟨h1,h2⟩]
end
section
variable [Fc] [Fb] {P:Program} {n:Nat} {c:Code} {i k:Nat} {nq:List Nat} {q0:Nat} {M:List Nat} {π:List Nat} {Q:za7} {E:Env} {κ:K}
variable {α:Type} {t:Ty α} {pub:Bool} {τ:Tag} {e T:TypeId} {a a2:Option Addr} {cp c2:Nat} {l l2 r:List α}
theorem zr2 {κ':K} (hq:Nat.beq i q0=true) (hsub:∀ x∈blk a cp,x∈M) (h:Step (blk a cp) κ κ'):zkA q0 M i κ κ':=by
 unfold zkA
 rw [hq]
 exact h.mono hsub
theorem zl4 {d bytes:Nat} (h:xsN c nq i E d=true) (ho:execOp (ev E) (zB c i)=vOf (Builtin.append_ #[T,T] 0 #[.slice a l.length cp,.slice a2 l2.length c2]))
  (hg:Gr t pub τ κ e a cp l) (h2:Sl t κ a2 c2 l2) (hτ:τ.1≤κ.H.size) (hT:zhd P T=some (e,t.size,t.size,bytes)) (hx:app bytes l l2=some r) (hq:Nat.beq i q0=true) (hsub:∀ x∈blk a cp,x∈M)
  (hk:∀ a' c' κ',Step (blk a cp) κ κ'→Gr t pub τ κ' e a' c' r→(∀ g∈blk a' c',g∈blk a cp∨κ.H.size≤g)→xwp P n c k nq q0 M π Q (upd E d (.slice a' r.length c')) κ'):xwp P n c k nq q0 M (i::π) Q E κ:=by
 obtain ⟨h1,h3,h4,h5⟩:=zh3 hT
 obtain ⟨hb,hm,rfl⟩:=zjW hx
 refine zk0 (fun v κ'=>∃ a' c',v=.slice a' (l++l2).length c'∧Step (blk a cp) κ κ'∧Gr t pub τ κ' e a' c' (l++l2)∧∀ g∈blk a' c',g∈blk a cp∨κ.H.size≤g) h (fun v κ' ⟨_,_,_,hs,_⟩=>zr2 hq hsub hs) (fun C d0=>?_) ?_
 ·obtain ⟨a',c',κ',d',hr,hs,hg',hw⟩:=zkz (P:=P) (T:=T) (ty:=0) hg h2 hτ h1 h3 h4 h5 hb hm C d0
  exact ⟨_,κ',d',by rw [ho];exact zL hr,a',c',rfl,hs,hg',hw⟩
 ·rintro v κ' ⟨a',c',rfl,hs,hg',hw⟩
  exact hk a' c' κ' hs hg' hw
end
theorem ztQ {α:Type} {by_:Nat} {n:Int} {r:List (List α)} (h:mkl by_ n ([]:List α)=some r) :
  mkl by_ n ((none,0,0):Hd)=some (List.replicate n.toNat (none,0,0))∧r=List.replicate n.toNat []∧(List.replicate n.toNat ((none,0,0):Hd)).length=r.length:=by
 obtain ⟨h1,h2,h3,h4⟩:=zo8 h
 refine ⟨?_,h4,by rw [h4];simp⟩
 unfold mkl
 rw [if_pos ⟨h1,h2,h3⟩]
section
variable [Fc] [Fb] {P:Program} {n:Nat} {c:Code} {i k:Nat} {nq:List Nat} {q0:Nat} {M:List Nat} {π:List Nat} {Q:za7} {E:Env} {κ:K}
variable {α:Type} {t:Ty α} {pub:Bool} {τ:Tag} {e T:TypeId} {a a2:Option Addr} {cp c2:Nat} {l l2 r:List α}
theorem zl5 {d bytes:Nat} (ln rn:Nat) (hln:l.length=ln) (hrn:r.length=rn) (h:xsN c nq i E d=true) (ho:execOp (ev E) (zB c i)=vOf (Builtin.append_ #[T,T] 0 #[.slice a ln cp,.slice a2 l2.length c2]))
  (hg:Gr t pub τ κ e a cp l) (h2:Sl t κ a2 c2 l2) (hτ:τ.1≤κ.H.size) (hT:zhd P T=some (e,t.size,t.size,bytes)) (hx:app bytes l l2=some r) (hrel:zkA q0 M i=Step (blk a cp))
  (hk:∀ a' c' κ',Step (blk a cp) κ κ'→Gr t pub τ κ' e a' c' r→(∀ g∈blk a' c',g∈blk a cp∨κ.H.size≤g)→xwp P n c k nq q0 M π Q (upd E d (.slice a' rn c')) κ'):xwp P n c k nq q0 M (i::π) Q E κ:=by
 subst hln;subst hrn
 exact zgf h ho hg h2 hτ hT hx hrel hk
theorem zo1 {d bytes:Nat} (ln rn:Nat) (hln:l.length=ln) (hrn:r.length=rn) (h:st c i n E (some d)=true) (ho:execOp (ev E) (zB c i)=vOf (Builtin.append_ #[T,T] 0 #[.slice a ln cp,.slice a2 l2.length c2]))
  (hg:Gr t pub τ κ e a cp l) (h2:Sl t κ a2 c2 l2) (hτ:τ.1≤κ.H.size) (hT:zhd P T=some (e,t.size,t.size,bytes)) (hx:app bytes l l2=some r)
  (hk:∀ a' c' κ',Step (blk a cp) κ κ'→Gr t pub τ κ' e a' c' r→(∀ g∈blk a' c',g∈blk a cp∨κ.H.size≤g)→owp P n c (i+1) Q (upd E d (.slice a' rn c')) κ'):owp P n c i Q E κ:=by
 subst hln;subst hrn
 exact zM h ho hg h2 hτ hT hx hk
end
end Go.Lf
namespace Go.Lf
open Go Go.Conc
def mkc (bytes:Nat) (n:Int):Option (List Int):=if 0≤n∧n≤9223372036854775807∧(bytes:Int)*n≤281474976710544 then some [] else none
def zmi (cap:Nat) (l:List Int) (x:Int):Option (List Int):=if l.length<cap then some (l++[x]) else none
def zqG:List Int→Option (Int×List Int)
 | x::l=>if -9223372036854775808≤x∧x≤9223372036854775807 then some (x,l) else none
 | []=>none
def zru (l:List Int):Option Int:=if l.length≤9223372036854775807 then some (l.length:Int) else none
theorem zsb {bytes:Nat} {n:Int} {l:List Int} (h:mkc bytes n=some l):0≤n∧n≤9223372036854775807∧(bytes:Int)*n≤281474976710544∧l=[]:=by
 unfold mkc at h
 split at h
 ·rename_i h0;exact ⟨h0.1,h0.2.1,h0.2.2,(Option.some.inj h).symm⟩
 ·cases h
theorem znm {cap:Nat} {l r:List Int} {x:Int} (h:zmi cap l x=some r):l.length<cap∧l++[x]=r:=by
 unfold zmi at h
 split at h
 ·rename_i h0;exact ⟨h0,Option.some.inj h⟩
 ·cases h
theorem zqf {l:List Int} {r:Int×List Int} (h:zqG l=some r):l=r.1::r.2∧I64 r.1:=by
 cases l with
 | nil=>cases h
 | cons x l=>
  simp only [zqG] at h
  by_cases h0 : -9223372036854775808≤x∧x≤9223372036854775807
  ·rw [if_pos h0] at h
   have:=Option.some.inj h
   subst this
   exact ⟨rfl,h0⟩
  ·rw [if_neg h0] at h;cases h
theorem zrt {l:List Int} {r:Int} (h:zru l=some r):(l.length:Int)=r∧I64 r:=by
 unfold zru at h
 split at h
 ·rename_i h0
  have:=Option.some.inj h
  subst this
  exact ⟨rfl,by unfold I64;omega⟩
 ·cases h
section
variable [Fc] [Fb] {P:Program} {n:Nat} {c:Code} {i:Nat} {Q:za7} {E:Env} {κ:K} {τ:Tag} {b cap:Nat} {l:List Int}
theorem Chn.o (h:Chn τ κ b cap l):Own τ κ b:=⟨h.lt,h.fr,h.tag,h.ge⟩
theorem Chn.tlt (h:Chn τ κ b cap l):τ.1<κ.H.size:=h.o.tlt
def zow (P:Program) (T:TypeId):Option Nat:=
 match P.underlying T with
 | some (.chan _ e)=>(P.info? e).map (·.bytes)
 | _=>none
theorem zup {d T:Nat} {bytes:Nat} {k:IntKind} {m:Int} (τ:Tag) (hτ:τ.1≤κ.H.size) (hx:mkc bytes m=some l) (hk:∀ b κ',Step [] κ κ'→Chn τ κ' b m.toNat l→owp P n c (i+1) Q (upd E d (.chan (some b))) κ')
  (hT:zow P T=some bytes:=by kernel_rfl) (h:st c i n E (some d)=true:=by kernel_rfl) (ho:execOp (ev E) (zB c i)=vOf (Instr.makeChan T (.int k m)):=by kernel_rfl):owp P n c i Q E κ:=by
 obtain ⟨h1,h2,h3,rfl⟩:=zsb hx
 unfold zow at hT
 split at hT
 ·rename_i dir e hd
  obtain ⟨inf,hi,hb⟩:=Option.map_eq_some_iff.1 hT
  refine ziO (fun v κ'=>∃ b,v=.chan (some b)∧Step [] κ κ'∧Chn τ κ' b m.toNat []) h (fun C d0=>?_) ?_
  ·have hr:=run_makeChan (w:=W C κ d0) hd hi k m.toNat (by omega) (by rw [hb];have:((m.toNat:Nat):Int)=m:=Int.toNat_of_nonneg h1;rw [this];exact h3)
   have e1:((m.toNat:Nat):Int)=m:=Int.toNat_of_nonneg h1
   rw [e1] at hr
   refine ⟨_,κ.push (.chan m.toNat #[] false 0 0 false) 0 τ,d0,by rw [ho];exact zL hr,κ.H.size,rfl,zaZ _ _ _ _,⟨⟨0,0,by simp [K.push]⟩,by simp [K.push],by simp [K.push],hτ⟩⟩
  ·rintro v κ' ⟨b,rfl,hs,hm⟩
   exact hk b κ' hs hm
 ·cases hT
theorem zub {d T:Nat} {r:Int} (h0:Chn τ κ b cap l) (hx:zru l=some r) (hk:owp P n c (i+1) Q (upd E d (.int .i64 r)) κ)
  (h:st c i n E (some d)=true:=by kernel_rfl) (ho:execOp (ev E) (zB c i)=vOf (Builtin.len_ #[T] 0 #[.chan (some b)]):=by kernel_rfl)
  (hT:(zow P T).isSome=true:=by kernel_rfl):owp P n c i Q E κ:=by
 obtain ⟨e1,_⟩:=zrt hx
 subst e1
 obtain ⟨s,r,hobj⟩:=h0.obj
 unfold zow at hT
 split at hT
 ·rename_i dir e hd
  refine zfW _ h (fun C d0=>?_) hk
  rw [ho]
  refine zL ?_
  rw [run_len_chan T 0 hd (show (W C κ d0).heap[b]?=_ from hobj)]
  simp [goInt]
 ·cases hT
end
def ne {α:Type} (l:List α):Option (List α):=
 match l with
 | []=>none
 | x::l=>some (x::l)
theorem zsZ {α:Type} {l r:List α} (h:ne l=some r):l=r∧r≠[]:=by
 cases l with
 | nil=>cases h
 | cons x l=>
  have:=Option.some.inj h
  subst this
  exact ⟨rfl,by simp⟩
section
variable {P:Program} {E:Env} {c:Code} {i:Nat} {κ:K} {α:Type} {t:Ty α} {pub:Bool} {τ:Tag} {e T:TypeId} {a:Option Addr} {cp:Nat} {l:List α} {w:World} [DecidableEq α]
theorem zqX (hg:Gr t pub τ κ e a cp l) (hn:l=[]→a=none)
  (h:execOp (ev E) (zB c i)=vOf (do eqGuard .eql T (.tmp 0) (.const (.slice none 0 0)) (.slice a l.length cp) (.slice none 0 0);binOp .eql T (.slice a l.length cp) (.slice none 0 0)))
  (hT:zP P T=some e):(execOp (ev E) (zB c i)).run P w=.ok (.value (.bool (decide (l=[])))) w:=by
 rw [h]
 refine zL ?_
 have e2:(eqGuard .eql T (.tmp 0) (.const (.slice none 0 0)) (.slice a l.length cp) (.slice none 0 0)).run P w=.ok () w:=by simp [eqGuard]
 rw [Sem.run_bind,e2]
 simp only [Result.andThen_ok]
 have hd:=zeg hT
 have hb:a.isNone=decide (l=[]):=by
  by_cases hl:l=[]
  ·rw [hn hl];simp [hl]
  ·rcases hg.body with ⟨_,h1⟩ | ⟨g,cur,xs,ha,_⟩
   ·exact absurd h1 hl
   ·rw [ha];simp [hl]
 rw [←hb]
 have he:(Op.equal T (.slice a l.length cp) (.slice none 0 0)).run P w=.ok a.isNone w:=by
  show (Op.equalIn (9999+1) T (.slice a l.length cp) (.slice none 0 0)).run P w=_
  exact Go.Lib.run_equalIn_slice_nil w 9999 T e a _ _ _ _ hd
 have hb2:binOp .eql T (.slice a l.length cp) (.slice none 0 0)=(do pure (.bool (←Op.equal T (.slice a l.length cp) (.slice none 0 0)))):=rfl
 rw [hb2,Sem.run_bind,he]
 rfl
end
end Go.Lf
namespace Go.Lf
open Go Go.Sort
section
variable {P:Program} {f:FuncId} {args:Array Value} {κ:K} {τ:Tag} {e:TypeId} {a:Option Addr} {c:Nat} {l:List Int}
theorem zlM:∀ {l:List Int} {xs:List Value},Rep tI64 κ xs l→xs=l.map (Value.int .i64)∧∀ x∈l,I64 x
 | [],xs,h=>⟨h,fun x hx=>by cases hx⟩
 | x::l,xs,⟨c,xs',e,ho,hr⟩=>by
  obtain ⟨h1,h2⟩:=zlM hr
  have:c=[.int .i64 x]:=ho.1
  subst this
  refine ⟨by rw [e,h1];rfl,fun y hy=>?_⟩
  rcases List.mem_cons.1 hy with rfl | hy
  ·exact ho.2
  ·exact h2 y hy
theorem zr0:∀ {l:List Int},(∀ x∈l,I64 x)→Rep tI64 κ (l.map (Value.int .i64)) l
 | [],_=>rfl
 | x::l,h=>⟨[.int .i64 x],l.map (Value.int .i64),rfl,⟨rfl,h x (by simp)⟩,zr0 (fun y hy=>h y (by simp [hy]))⟩
theorem Fn.row_int {r:List Int} (hg:Gr tI64 false τ κ e a c l) (hlen:r.length=l.length) (hr:∀ x∈r,I64 x)
  (hc:∀ (w:World) (g:Nat),a=some ⟨g,0,none⟩→Holds (Value.int .i64) w g 0 l.toArray→Calls P f args w fun ex w'=>ex=.returned (.tuple #[])∧∃ n,w'=putRow (Value.int .i64) (Sort.ahead w n) g 0 r.toArray)
  (h0:l=[]→∀ w,Calls P f args w fun ex w'=>ex=.returned (.tuple #[])∧w'=w) :
  Fn P f args κ (fun v κ'=>Step (blk a c) κ κ'∧v=.tuple #[]∧Gr tI64 false τ κ' e a c r∧r.length=l.length):=by
 by_cases hl:l=[]
 ·intro C d
  refine (h0 hl (W C κ d)).mono ?_
  rintro ex w' ⟨h1,h2⟩
  have:r=l:=by subst hl;exact List.eq_nil_of_length_eq_zero (by simpa using hlen)
  exact ⟨_,κ,d,h1,h2,Step.refl _ _,rfl,by rw [this];exact hg,hlen⟩
 ·rcases hg.body with ⟨_,h1⟩ | ⟨g,cur,xs,ha,hrp,hH,h1,h2,h3,h4,h5,h6,h7⟩
  ·exact absurd h1 hl
  ·have hlp:0<l.length:=List.length_pos_iff.2 hl
   obtain ⟨hx1,hx2⟩:=zlM hrp
   have hsz:tI64.size=1:=rfl
   rw [hsz,Nat.mul_one] at h3 h4
   have hbox:Box τ κ g cur.toList e:=⟨by simpa using hH,by rw [h5];simp,h6,h7⟩
   intro C d
   have hcell:∀ j (hj:j<l.length),cur[j]?=some (Value.int .i64 l[j]):=fun j hj=>by
    have hj2:(cur.toList.take l.length)[j]?=(l.map (Value.int .i64))[j]?:=by rw [h4,hx1]
    rw [List.getElem?_take,if_pos hj,List.getElem?_map,List.getElem?_eq_getElem hj] at hj2
    simpa using hj2
   have hHo:Holds (Value.int .i64) (W C κ d) g 0 l.toArray:=fun j hj=>by
    have hj':j<l.length:=by simpa using hj
    refine ⟨?_,?_⟩
    ·rw [zi7]
     unfold K.cell
     rw [hH]
     simp only [Nat.zero_add]
     rw [hcell j hj']
     simp [hj']
    ·unfold World.frozen? W
     simp [hH]
   refine (hc (W C κ d) g ha hHo).mono ?_
   rintro ex w' ⟨hex,n,hw⟩
   refine ⟨_,κ.setB g (splice cur.toList 0 (r.map (Value.int .i64))) e,d+n,hex,?_,?_,rfl,?_,hlen⟩
   ·rw [hw]
    have hheap:κ.H.modify g (onCells (putCells (Value.int .i64) 0 r.toArray))=(κ.setB g (splice cur.toList 0 (r.map (Value.int .i64))) e).H:=by
     have hglt:g<κ.H.size:=(Array.getElem?_eq_some_iff.1 hH).1
     apply Array.ext_getElem?
     intro k
     rw [Array.getElem?_modify]
     by_cases hk:g=k
     ·subst hk
      rw [if_pos rfl,hH]
      simp only [K.setB,Option.map_some,onCells]
      rw [Array.getElem?_setIfInBounds_self_of_lt hglt]
      congr 2
      apply Array.ext_getElem?
      intro j
      have hvl:(r.map (Value.int .i64)).length=l.length:=by rw [List.length_map];exact hlen
      have hcl:cur.toList.length=c:=by simpa using h3
      unfold putCells
      rw [Array.getElem?_mapIdx]
      have e3:(splice cur.toList 0 (List.map (Value.int IntKind.i64) r)).toArray[j]?=(splice cur.toList 0 (List.map (Value.int IntKind.i64) r))[j]?:=by simp
      rw [e3,zfi _ _ _ _ (by omega)]
      by_cases hj:j<l.length
      ·rw [if_pos (by omega),hcell j hj]
       have hj':j<r.length:=by omega
       simp [hj',getElem!_pos,List.getElem?_eq_getElem hj']
      ·rw [if_neg (by omega)]
       have hj':¬j<r.length:=by omega
       cases hcj:cur[j]? with
       | none=>simp [hcj]
       | some v=>simp [hcj,hj']
     ·rw [if_neg hk]
      simp only [K.setB]
      rw [Array.getElem?_setIfInBounds_ne hk]
    unfold putRow mapBlock Sort.ahead W
    simp only []
    rw [hheap,Nat.add_assoc]
   ·exact (zgi hbox).mono (fun b hb=>by rw [List.mem_singleton.1 hb,ha];exact zhO (a:=⟨g,0,none⟩) (by omega))
   ·have hvl:(r.map (Value.int .i64)).length=l.length:=by rw [List.length_map];exact hlen
    have hcl:cur.toList.length=c:=by simpa using h3
    refine ⟨by rw [hlen];exact hg.most,.inr ⟨g,_,r.map (Value.int .i64),ha,zr0 hr,(zgY hbox).obj,by rw [hlen];exact h1,h2,by rw [hsz,List.size_toArray,zdE,hcl];omega,?_,by simp [K.setB,h5],h6,h7⟩⟩
    rw [hsz,Nat.mul_one,hlen]
    apply List.ext_getElem?
    intro j
    rw [List.getElem?_take]
    by_cases hj:j<l.length
    ·rw [if_pos hj,List.toList_toArray,zfi _ _ _ _ (by omega),if_pos (by omega)];simp
    ·rw [if_neg hj,List.getElem?_eq_none (by omega)]
end
end Go.Lf
namespace Go.Lf
open Go
section
variable {P:Program} {α:Type} {t:Ty α} {κ:K} {e T:TypeId} {a:Option Addr} {cp:Nat} {l m:List α} {τ:Tag}
theorem Rep.drop:∀ {l:List α} {xs:List Value} (i:Nat),Rep t κ xs l→Rep t κ (xs.drop (i*t.size)) (l.drop i)
 | l,xs,0,h=>by simpa using h
 | [],xs,i+1,h=>by
  have:xs=[]:=h
  subst this
  simp [Rep]
 | x::l,xs,i+1,⟨c,xs',e,ho,hr⟩=>by
  subst e
  rw [List.drop_succ_cons]
  have hl:=t.len ho
  have:(c++xs').drop ((i+1)*t.size)=xs'.drop (i*t.size):=by
   rw [List.drop_append,List.drop_of_length_le (by rw [hl,Nat.add_mul];omega),List.nil_append]
   congr 1
   rw [hl,Nat.add_mul];omega
  rw [this]
  exact hr.drop i
theorem Gr.splice {g:Nat} {cur:List Value} {vs:List Value} {lo:Nat} (hg:Gr t false τ κ e a cp l) (ha:a=some ⟨g,0,none⟩) (hb:Box τ κ g cur e) (hl0:0<l.length) (hm:Rep t κ vs m) (hlo:lo+m.length≤l.length) (hm0:0<m.length) :
  lo*t.size+vs.length≤cur.length∧Step (blk a cp) κ (κ.setB g (splice cur (lo*t.size) vs) e)∧Gr t false τ (κ.setB g (splice cur (lo*t.size) vs) e) e a cp (l.take lo++m++l.drop (lo+m.length)):=by
 rcases hg.body with ⟨_,h1⟩ | ⟨g',cur',xs,ha',hr,hH,h2,h3,h4,h5,h6,h7,h8⟩
 ·rw [h1] at hl0;simp at hl0
 ·rw [ha] at ha'
  obtain rfl:g=g':=by injection ha' with ha';injection ha'
  have hcc:cur=cur'.toList:=by
   have:=hb.obj
   rw [hH] at this
   injection this with this
   injection this with this
   rw [this]
  subst hcc
  have hvl:=hm.length
  have hcl:cur'.toList.length=cp*t.size:=by simpa using h4
  have hmul:lo*t.size+m.length*t.size=(lo+m.length)*t.size:=by rw [Nat.add_mul]
  have hle1:(lo+m.length)*t.size≤l.length*t.size:=Nat.mul_le_mul_right _ hlo
  have hle:l.length*t.size≤cp*t.size:=Nat.mul_le_mul_right _ h2
  have hstep:Step [g] κ (κ.setB g (Lf.splice cur'.toList (lo*t.size) vs) e):=zgi hb
  have hlen:(l.take lo++m++l.drop (lo+m.length)).length=l.length:=by
   rw [List.length_append,List.length_append,List.length_take,List.length_drop];omega
  have hrep:Rep t (κ.setB g (Lf.splice cur'.toList (lo*t.size) vs) e) (xs.take (lo*t.size)++vs++xs.drop ((lo+m.length)*t.size)) (l.take lo++m++l.drop (lo+m.length)):=
   (((hr.take lo).step hstep).append (hm.step hstep)).append ((hr.drop _).step hstep)
  refine ⟨by rw [hvl,hcl];omega,hstep.mono (fun x hx=>by rw [List.mem_singleton.1 hx,ha];exact zhO (a:=⟨g,0,none⟩) (by omega)),by rw [hlen];exact hg.most,.inr ⟨g,_,_,ha,hrep,(zgY hb).obj,by rw [hlen];exact h2,h3,by rw [List.size_toArray,zdE,hcl],?_,h6,h7,h8⟩⟩
  rw [hlen]
  have hxl:=hr.length
  have htl:(xs.take (lo*t.size)).length=lo*t.size:=by rw [List.length_take,hxl];omega
  apply List.ext_getElem?
  intro j
  rw [List.getElem?_take]
  by_cases hj:j<l.length*t.size
  ·rw [if_pos hj,List.toList_toArray,zfi _ _ _ _ (by rw [hvl,hcl];omega),hvl]
   have hget:∀ j,j<l.length*t.size→cur'.toList[j]?=xs[j]?:=fun j hj=>by rw [←h5,List.getElem?_take,if_pos hj]
   by_cases h9:j<lo*t.size
   ·rw [if_neg (by omega),hget j hj,List.append_assoc,List.getElem?_append_left (by rw [htl];exact h9),List.getElem?_take,if_pos h9]
   ·by_cases h10:j<lo*t.size+m.length*t.size
    ·rw [if_pos (by omega),List.append_assoc,List.getElem?_append_right (by rw [htl];omega),htl,List.getElem?_append_left (by rw [hvl];omega)]
    ·rw [if_neg (by omega),hget j hj,List.getElem?_append_right (by rw [List.length_append,htl,hvl];omega),List.length_append,htl,hvl,List.getElem?_drop]
     congr 1;omega
  ·rw [if_neg hj,List.getElem?_eq_none]
   rw [hrep.length,hlen];omega
end
section
variable {P:Program} {α:Type} {t:Ty α} {κ:K} {e T T2:TypeId} {a a2:Option Addr} {cp c2:Nat} {l l2:List α} {τ:Tag}
def cpy {α:Type} (l:List α) (lo:Nat) (l2:List α):List α:=l.take lo++l2.take (l.length - lo)++l.drop (lo+(l2.take (l.length - lo)).length)
theorem zov {l l2:List α} {lo:Nat} (h:lo≤l.length):(cpy l lo l2).length=l.length:=by
 unfold cpy
 rw [List.length_append,List.length_append,List.length_take,List.length_drop,List.length_take];omega
theorem zlK {g lo dcap:Nat} {ty:TypeId} (hT:zP P T=some e) (hs:zac P e=some t.size) (hg:Gr t false τ κ e a cp l) (ha:0<l.length→a=some ⟨g,0,none⟩) (hlo:lo≤l.length)
  (src:Value) (ys:List Value) (hys:Rep t κ ys l2) {da:Option Addr} (hda:lo<l.length→da=some ⟨g,lo*t.size,none⟩) [Fb] (C:Cx) (d:Nat)
  (hlen:∀ w,(Builtin.lenOf src).run P w=.ok l2.length w)
  (hfirst:∀ n,n≤l2.length→(Builtin.firstCells t.size n src).run P (W C κ d)=.ok (ys.take (n*t.size)).toArray (W C κ d)) :
  ∃ κ',(Builtin.copy_ #[T,T2] ty #[.slice da (l.length - lo) dcap,src]).run P (W C κ d)=.ok (.int .i64 (min l2.length (l.length - lo):Nat)) (W C κ' d)∧Step (blk a cp) κ κ'∧Gr t false τ κ' e a cp (cpy l lo l2):=by
 have hT':=zeg hT
 have hn:Nat.min l2.length (l.length - lo)≤l2.length:=Nat.min_le_left _ _
 by_cases h0:Nat.min l2.length (l.length - lo)=0
 ·refine ⟨κ,?_,Step.refl _ _,?_⟩
  ·have hf:=hfirst 0 (by omega)
   cases hd:da with
   | none=>simp [Builtin.copy_,zx hT',hlen,zav hs,h0,hf,goInt]
   | some x=>simp [Builtin.copy_,zx hT',hlen,zav hs,h0,hf,storeCells,goInt]
  ·have:cpy l lo l2=l:=by
    unfold cpy
    have hx:l2.take (l.length - lo)=[]:=by
     rcases Nat.eq_zero_or_pos l2.length with h | h
     ·rw [List.eq_nil_of_length_eq_zero h];simp
     ·have:l.length - lo=0:=by
       have:=h0
       simp only [Nat.min_def] at this
       split at this<;>omega
      rw [this];simp
    rw [hx];simp
   rw [this];exact hg
 ·have hmin:Nat.min l2.length (l.length - lo)=min l2.length (l.length - lo):=rfl
  have hpos:0<l2.length∧lo<l.length:=by
   rw [hmin] at h0;omega
  have ha':=ha (by omega)
  have hda':=hda hpos.2
  rcases hg.body with ⟨_,h1⟩ | ⟨g',cur,xs,hga,hr,hH,h2,h3,h4,h5,h6,h7,h8⟩
  ·rw [h1] at hpos;simp at hpos
  ·have:g=g':=by rw [ha'] at hga;injection hga with hga;injection hga
   subst this
   have hbox:Box τ κ g cur.toList e:=⟨by simpa using hH,by rw [h6];simp,h7,h8⟩
   have hm:=hys.take (min l2.length (l.length - lo))
   have htk:(l2.take (min l2.length (l.length - lo))).length=min l2.length (l.length - lo):=by rw [List.length_take];omega
   obtain ⟨q1,q2,q3⟩:=hg.splice ha' hbox (by omega) hm (lo:=lo) (by rw [htk];omega) (by rw [htk];omega)
   have hcp:l.take lo++l2.take (min l2.length (l.length - lo))++l.drop (lo+(l2.take (min l2.length (l.length - lo))).length)=cpy l lo l2:=by
    unfold cpy
    have:l2.take (min l2.length (l.length - lo))=l2.take (l.length - lo):=by
     rcases Nat.le_total l2.length (l.length - lo) with h | h
     ·rw [Nat.min_eq_left h,List.take_of_length_le (Nat.le_refl _),List.take_of_length_le h]
     ·rw [Nat.min_eq_right h]
    rw [this]
   rw [hcp] at q3
   refine ⟨_,?_,q2,q3⟩
   have hf:=hfirst (min l2.length (l.length - lo)) (Nat.min_le_left _ _)
   have hst:=zhA (P:=P) (C:=C) (d:=d) (off:=lo*t.size) (ys.take (min l2.length (l.length - lo)*t.size)) 0 κ cur.toList hbox hm.one (by simpa using q1)
   rw [Nat.add_zero] at hst
   rw [hda']
   simp [Builtin.copy_,zx hT',hlen,zav hs,hmin,hf,hst,goInt]
end
structure Rec (N i:Nat) (κ:K) (b:Nat) (ob:Obj):Prop where
 o:Own (N,i) κ b
 obj:κ.H[b]?=some ob
theorem Rec.step {M:List Nat} {N i b:Nat} {κ κ':K} {ob:Obj} (s:Step M κ κ') (hm:b∉M) (h:Rec N i κ b ob):Rec N i κ' b ob:=by
 have hs:=s.2.1 b h.o.lt hm
 exact ⟨⟨Nat.lt_of_lt_of_le h.o.lt s.1,hs.2.1.trans h.o.fr,hs.2.2.trans h.o.tag,h.o.ge⟩,hs.1.trans h.obj⟩
theorem Rec.step0 {N i b:Nat} {κ κ':K} {ob:Obj} (s:Step [] κ κ') (h:Rec N i κ b ob):Rec N i κ' b ob:=h.step s (by simp)
theorem Rec.ge {N i b:Nat} {κ:K} {ob:Obj} (h:Rec N i κ b ob):N≤b:=h.o.ge
theorem Rec.tlt {N i b:Nat} {κ:K} {ob:Obj} (h:Rec N i κ b ob):N<κ.H.size:=h.o.tlt
theorem zlf {N i b:Nat} {κ:K} {ob:Obj} (h:Rec N i κ b ob) (ob':Obj):Step [b] κ (κ.setO b ob')∧Rec N i (κ.setO b ob') b ob':=
 ⟨zj0 h.o.fr,⟨⟨by simp [K.setO];exact h.o.lt,h.o.fr,h.o.tag,h.o.ge⟩,by simp [K.setO,h.o.lt]⟩⟩
theorem zpE [Fb] (C:Cx) (κ:K) (d b:Nat) (o:Obj):(W C κ d).putObj b o=W C (κ.setO b o) d:=rfl
def tsF (F:Nat) (τ:Tag):Bool:=Nat.beq τ.2 999||Nat.beq (τ.2 / 1000) F
def nI (F:Nat) (τ:Tag):Bool:=!(Nat.beq τ.2 998)&&!(tsF F τ)
def tb (F:Nat) (κ:K):List Nat:=(List.range κ.H.size).filter fun b=>tsF F (κ.tag b)
theorem zm1 {F:Nat} {κ:K} {b:Nat}:b∈tb F κ↔b<κ.H.size∧tsF F (κ.tag b)=true:=by
 unfold tb;rw [List.mem_filter,List.mem_range]
theorem zr9 {F:Nat} {τ:Tag} (h:nI F τ=true):tsF F τ=false:=by
 unfold nI at h;simp only [Bool.and_eq_true,Bool.not_eq_true'] at h;exact h.2
theorem zue {F:Nat} {τ:Tag} (h:nI F τ=true):τ.2≠998:=by
 unfold nI at h;simp only [Bool.and_eq_true,Bool.not_eq_true'] at h
 intro e;rw [e] at h;simp at h
theorem zud {F:Nat} {τ:Tag} (h:nI F τ=true):τ.2≠999:=by
 have:=zr9 h;unfold tsF at this;simp only [Bool.or_eq_false_iff] at this
 intro e;rw [e] at this;simp at this
section
variable {F:Nat} {κr κ κ1 κ2:K} {M:List Nat} {τ:Tag}
theorem Step.trY (h:Step (tb F κr) κr κ1) (hb:∀ b∈M,tsF F (κ1.tag b)=true) (s:Step M κ1 κ2):Step (tb F κr) κr κ2:=
 h.trM (fun b hm=>by
  by_cases hlt:b<κr.H.size
  ·by_cases hin:b∈tb F κr
   ·exact .inl hin
   ·have:=h.2.1 b hlt hin
    have ht:=hb b hm
    rw [this.2.2] at ht
    exact .inl (zm1.2 ⟨hlt,ht⟩)
  ·exact .inr (Nat.le_of_not_lt hlt)) s
theorem Step.trT (h:Step M κ κ1) (hM:∀ b∈tb F κ,b∈M) (s:Step (tb F κ1) κ1 κ2):Step M κ κ2:=
 h.trM (fun b hm=>by
  by_cases hlt:b<κ.H.size
  ·by_cases hin:b∈M
   ·exact .inl hin
   ·have h2:=h.2.1 b hlt hin
    have ht:=(zm1.1 hm).2
    rw [h2.2.2] at ht
    exact .inl (hM b (zm1.2 ⟨hlt,ht⟩))
  ·exact .inr (Nat.le_of_not_lt hlt)) s
theorem Own.tb1 {b:Nat} (h:Own τ κ b) (ht:tsF F τ=true):∀ x∈[b],tsF F (κ.tag x)=true:=fun x hx=>by
 rw [List.mem_singleton.1 hx,h.tag];exact ht
theorem Box.tb1 {b:Nat} {cs:List Value} {T:TypeId} (h:Box τ κ b cs T) (ht:tsF F τ=true):∀ x∈[b],tsF F (κ.tag x)=true:=h.o.tb1 ht
theorem Own.ntb {b:Nat} (h:Own τ κ b) (ht:tsF F τ=false):b∉tb F κ:=fun hb=>by
 have:=(zm1.1 hb).2;rw [h.tag,ht] at this;cases this
theorem Box.ntb {b:Nat} {cs:List Value} {T:TypeId} (h:Box τ κ b cs T) (ht:tsF F τ=false):b∉tb F κ:=h.o.ntb ht
theorem Gr.tb1 {α:Type} {t:Ty α} {pub:Bool} {e:TypeId} {a:Option Addr} {c:Nat} {l:List α} (h:Gr t pub τ κ e a c l) (ht:tsF F τ=true):∀ x∈blk a c,tsF F (κ.tag x)=true:=fun x hx=>by
 rw [(h.lt x hx).2.1];exact ht
theorem Gr.ntb {α:Type} {t:Ty α} {pub:Bool} {e:TypeId} {a:Option Addr} {c:Nat} {l:List α} (h:Gr t pub τ κ e a c l) (ht:tsF F τ=false):∀ x∈blk a c,x∉tb F κ:=fun x hx hb=>by
 have:=(zm1.1 hb).2;rw [(h.lt x hx).2.1,ht] at this;cases this
def Stab {σ:Type} (F B:Nat) (J:σ→K→Prop):Prop:=
 ∀ {s:σ} {κ κ':K} {M:List Nat},J s κ→Step M κ κ'→(∀ b∈M,b<κ.H.size→nI F (κ.tag b)=true∧B≤b)→J s κ'
theorem Stab.j0 {σ:Type} {B:Nat} {J:σ→K→Prop} (h:Stab F B J) {s:σ} (hj:J s κ) (st:Step [] κ κ1):J s κ1:=h hj st (fun b hb=>by cases hb)
theorem Stab.jo {σ:Type} {B b:Nat} {J:σ→K→Prop} (h:Stab F B J) {s:σ} (hj:J s κ) (st:Step [b] κ κ1) (ho:Own τ κ b) (ht:nI F τ=true) (hB:B≤b):J s κ1:=
 h hj st (fun x hx _=>by rw [List.mem_singleton.1 hx,ho.tag];exact ⟨ht,hB⟩)
end
def Yl [Fb] (P:Program) (l:Nat) (args:Array Value) (κ:K) (R:K→Prop):Prop:=
 ∀ C d,∃ fn tmps assign body,(Instr.yield l args).run P (W C κ d)=.ok (.round l fn tmps assign body) (W C κ d)∧
  RoundIn Fence.wide 0 P l fn tmps assign body (W C κ d) (fun e w'=>e=.returned (.bool true)∧∃ κ' d',w'=W C κ' d'∧R κ')
section
variable [Fc] [Fb] {P:Program} {n:Nat} {c:Code} {i:Nat} {Q:za7} {E:Env} {κ:K}
theorem zpO {m:Nat} {l:Nat} {f:FuncId} {tmps:Array Value} {assign body:Code} {w:World} {R:Ending→World→Prop} (h:RoundIn Fence.wide m P l f tmps assign body w R):RoundIn FF m P l f tmps assign body w R:=h
theorem oyl {l:Nat} {args:Array Value} {R:K→Prop} (d:Nat) (hy:Yl P l args κ R) (hk:∀ κ',R κ'→owp P n c (i+1) Q (upd E d (.bool true)) κ')
  (hr:∀ w,(execOp (ev E) (zB c i)).run P w=(Instr.yield l args).run P w:=by intro _;kernel_rfl) (h:st c i n E (some d)=true:=by kernel_rfl):owp P n c i Q E κ:=by
 refine ziN h fun C d0 a hf=>?_
 obtain ⟨h1,h2,h3,h4⟩:=zfF h
 obtain ⟨fn,tmps,assign,body,hrun,hR⟩:=hy C d0
 unfold Oper.wpIn
 rw [zld (nx:=.round l fn tmps assign body) (w':=W C κ d0) (by rw [hf.eval,hr];exact hrun) (fun _ e=>by cases e)]
 refine ⟨fun _ _=>trivial,fun hx=>?_,(zpO hR).mono ?_⟩
 ·simp [FF,Fence.wide] at hx
 ·rintro e w' ⟨rfl,κ',d',rfl,hq⟩
  simp only [h3]
  exact hk κ' hq C d' _ (hf.put (h4 d rfl) _)
end
def zrB (E:Env):List Nat→List Value→Env
 | p::ps,v::vs=>zrB (upd E p v) ps vs
 | _,_=>E
theorem zrp {inst:Fc} {n:Nat} (ps:List Nat):∀ (vs:List Value) (t:Array Value) (E:Env),(∀ p∈ps,p<n) → @Fits inst n {tmps:=t,defers:=inst.ds} E→
  @Fits inst n {tmps:=(ps.zip vs).foldl (fun t (p,v)=>t.setIfInBounds p v) t,defers:=inst.ds} (zrB E ps vs):=by
 induction ps with
 | nil=>intro vs t E _ h;exact h
 | cons p ps ih=>
  intro vs t E hp h
  cases vs with
  | nil=>exact h
  | cons v vs=>
   refine ih vs _ _ (fun q hq=>hp q (by simp [hq])) ?_
   exact h.put (hp p (by simp)) v
def zt8:Code→Option (Operand×List Nat)
 | .rangeFunc g ps _ _=>some (g,ps.toList)
 | _=>none
def zpP [Fc] [Fb] (P:Program) (n:Nat) (body:Code) (N l:Nat) (o1 o2:Obj) (Q:za7):za7:=fun e E κ=>
 match e with
 | .normal=>Rec N 999 κ l o1∧∀ κ',Step [l] κ κ'→Rec N 999 κ' l o2→cwp P n body Q E κ'
 | _=>False
def zrX (N l:Nat) (o2:Obj) (F:Nat) (κr:K) (J:K→Prop):za7:=fun e _ κ=>
 match e with
 | .normal=>Rec N 999 κ l o2∧Step (tb F κr) κr κ∧J κ
 | _=>False
theorem rfb [Fc] [Fb] {P:Program} {n:Nat} {body:Code} {N l:Nat} {o1 o2:Obj} {Q:za7} {E:Env} {κ:K} (h:Rec N 999 κ l o1) (hk:∀ κ',Step [l] κ κ'→Rec N 999 κ' l o2→cwp P n body Q E κ') :
  zpP P n body N l o1 o2 Q .normal E κ:=⟨h,hk⟩
theorem rfe {N l:Nat} {o2:Obj} {F:Nat} {κr κ:K} {J:K→Prop} {E:Env} (h:Rec N 999 κ l o2) (hy:Step (tb F κr) κr κ) (hj:J κ):zrX N l o2 F κr J .normal E κ:=⟨h,hy,hj⟩
def zsw [Fb] (P:Program) (n:Nat) (c:Code) (fn:Func) (R:Value→K→Prop) (E:Env) (κ:K):Prop:=
 ∀ C d a,@Fits fc0 n a E→c.wpIn Fence.wide 0 P (bodyPostM Fence.wide 0 P fn (fun e w'=>∃ v κ' d',e=.returned v∧w'=W C κ' d'∧R v κ')) a (W C κ d)
theorem zug {P:Program} {f:FuncId} {fn:Func} {args:Array Value} {κ:K} {R:Value→K→Prop} (n:Nat) (M:List Nat) (hf:P.funcs[f]?=some fn) (hn:fn.ntmps=n)
  (h:Step M κ κ→zsw P n (sub (zC fn) []) fn R (znk args) κ) (hb:fn.body=some (zC fn):=by kernel_rfl) (ha:Nat.ble args.size n=true:=by kernel_rfl):Fn P f args κ R:=by
 intro C d
 have hfit : @Fits fc0 n {tmps:=args++Array.replicate (fn.ntmps - args.size) undef,defers:=[]} (znk args):=by
  have ha':=Nat.le_of_ble_eq_true ha
  refine ⟨by simp [hn];omega,rfl,fun t=>?_⟩
  unfold znk
  by_cases ht:t<args.size
  ·simp [Array.getElem?_append,ht]
  ·by_cases ht2:t - args.size<fn.ntmps - args.size
   ·simp [Array.getElem?_append,ht,ht2]
   ·simp [Array.getElem?_append,ht,ht2]
 exact (callsIn_wide (n:=0)).1 (callsIn_of_wp_marks hf hb trivial (h (Step.refl _ _) C d _ hfit))
def zrE [Fb] (P:Program) (n:Nat) (c:Code) (fn:Func) (R:Value→K→Prop):za7:=fun e E κ=>
 match e with
 | .normal=>zsw P n c fn R E κ
 | _=>False
theorem csM {P:Program} {n:Nat} {c:Code} {p:List Nat} {fn:Func} {R:Value→K→Prop} {E:Env} {κ:K} (hx:cwp P n (sub c (0::p)) (zrE P n (sub c (1::p)) fn R) E κ)
  (h:zjL (sub c p)=true:=by kernel_rfl):zsw P n (sub c p) fn R E κ:=by
 have e1:sub c (0::p)=zel 0 (sub c p):=rfl
 have e2:sub c (1::p)=zel 1 (sub c p):=rfl
 rw [e1,e2] at hx
 clear e1 e2
 generalize sub c p=s at *
 cases s<;>simp [zjL] at h
 rename_i x y
 intro C d a hf
 have hx':cwp P n x (zrE P n y fn R) E κ:=hx
 refine wpIn_seq (wpIn_mono (hx' C d a hf) ?_)
 rintro e a' w' ⟨E',κ',d',hf',rfl,hq⟩
 cases e with
 | normal=>exact hq C d' a' hf'
 | _=>exact hq.elim
theorem tMn {P:Program} {n:Nat} {c:Code} {fn:Func} {R:Value→K→Prop} {E:Env} {κ:K} (h:zsw P n c fn R E κ):zrE P n c fn R .normal E κ:=h
def ztV [Fb] (P:Program) (n:Nat) (b r:Code) (fn:Func) (R:Value→K→Prop) (E:Env) (κ:K):Prop:=
 ∀ C d a,@Fits fc0 n a E→b.wpIn Fence.wide 0 P (Exit.then (r.wpIn Fence.wide 0 P (bodyPostM Fence.wide 0 P fn (fun e w'=>∃ v κ' d',e=.returned v∧w'=W C κ' d'∧R v κ'))) (bodyPostM Fence.wide 0 P fn (fun e w'=>∃ v κ' d',e=.returned v∧w'=W C κ' d'∧R v κ'))) a (W C κ d)
def zrF [Fb] (P:Program) (n:Nat) (b r:Code) (fn:Func) (R:Value→K→Prop):za7:=fun e E κ=>
 match e with
 | .normal=>ztV P n b r fn R E κ
 | _=>False
theorem tBn {P:Program} {n:Nat} {b r:Code} {fn:Func} {R:Value→K→Prop} {E:Env} {κ:K} (h:ztV P n b r fn R E κ):zrF P n b r fn R .normal E κ:=h
theorem csB {P:Program} {n:Nat} {c:Code} {p:List Nat} {fn:Func} {R:Value→K→Prop} {E:Env} {κ:K} (hx:cwp P n (sub c (0::0::p)) (zrF P n (sub c (1::0::p)) (sub c (1::p)) fn R) E κ)
  (h:zjL (sub c p)=true:=by kernel_rfl) (h':zjL (sub c (0::p))=true:=by kernel_rfl):zsw P n (sub c p) fn R E κ:=by
 have e1:sub c (0::0::p)=zel 0 (zel 0 (sub c p)):=rfl
 have e2:sub c (1::0::p)=zel 1 (zel 0 (sub c p)):=rfl
 have e3:sub c (1::p)=zel 1 (sub c p):=rfl
 have e4:sub c (0::p)=zel 0 (sub c p):=rfl
 rw [e1,e2,e3] at hx
 rw [e4] at h'
 clear e1 e2 e3 e4
 generalize sub c p=s at *
 cases s<;>simp [zjL] at h
 rename_i x z
 simp only [zel,if_true] at h'
 cases x<;>simp [zjL] at h'
 rename_i x y
 intro C d a hf
 have hx':cwp P n x (zrF P n y z fn R) E κ:=hx
 refine wpIn_seq (wpIn_seq (wpIn_mono (hx' C d a hf) ?_))
 rintro e a' w' ⟨E',κ',d',hf',rfl,hq⟩
 cases e with
 | normal=>exact hq C d' a' hf'
 | _=>exact hq.elim
def zm4 (D:Nat):List Deferred:=[{target:=.collected D,args:=#[]}]
def zrY [Fb] (P:Program) (fn:Func) (R:Value→K→Prop) (N D:Nat):za7:=fun e E κ=>
 match e with
 | .normal | .ret=>Rec N 998 κ D (.deferred (some []))∧∀ κ',Step [D] κ κ'→Rec N 998 κ' D (.deferred none)→zh1 P fn R e E κ'
 | _=>False
theorem rtM {P:Program} {fn:Func} {R:Value→K→Prop} {N D:Nat} {E:Env} {κ:K} (h:Rec N 998 κ D (.deferred (some []))) (hk:∀ κ',Step [D] κ κ'→Rec N 998 κ' D (.deferred none)→zh1 P fn R .ret E κ') :
  zrY P fn R N D .ret E κ:=⟨h,hk⟩
theorem zpc {P:Program} {n:Nat} {fn:Func} {R:Value→K→Prop} {N D:Nat} [Fb] {C:Cx} {e:Exit} {E:Env} {κ:K} {d:Nat} {a:Act} {inst:Fc} (hd:inst.ds=zm4 D) (hf : @Fits inst n a E)
  (hq:zrY P fn R N D e E κ):bodyPostM Fence.wide 0 P fn (fun e w'=>∃ v κ' d',e=.returned v∧w'=W C κ' d'∧R v κ') e a (W C κ d):=by
 have key:∀ (h:Rec N 998 κ D (.deferred (some []))) (v:Value),(∀ C d,(zqY fn E).run P (W C (κ.setO D (.deferred none)) d)=.ok v (W C (κ.setO D (.deferred none)) d))→R v (κ.setO D (.deferred none))→
   LeavesInM Fence.wide 0 P fn a.tmps (fun e w'=>∃ v κ' d',e=.returned v∧w'=W C κ' d'∧R v κ') a.defers .returning (W C κ d):=by
  intro h v hv hR
  have hde:a.defers=zm4 D:=hf.defers.trans hd
  rw [hde]
  refine ⟨by simp,.inl ⟨D,W C (κ.setO D (.deferred none)) d,rfl,run_takeDeferred (ds:=[]) h.obj,?_⟩⟩
  exact ⟨v,by rw [zoa hf];exact hv C d,v,_,d,rfl,rfl,hR⟩
 cases e with
 | normal=>
  obtain ⟨h,hk⟩:=hq
  obtain ⟨hs,hr⟩:=zlf h (.deferred none)
  obtain ⟨v,hv,hR⟩:=hk _ hs hr
  exact key h v hv hR
 | ret=>
  obtain ⟨h,hk⟩:=hq
  obtain ⟨hs,hr⟩:=zlf h (.deferred none)
  obtain ⟨v,hv,hR⟩:=hk _ hs hr
  exact key h v hv hR
 | _=>exact hq.elim
theorem ztl {P:Program} {f:FuncId} {args:Array Value} {w:World} (hf:zdh P f=true):(callFunc f args).run P w=.ok (.enter f args) w:=zbP rfl hf
theorem zqF {σ A:Type} {P:Program} {n:Nat} {c:Code} {p pr:List Nat} {fn:Func} {R:Value→K→Prop} {E:Env} {κ:K} {id:Nat} {g:Operand} {ps:List Nat} {gf:Nat} {lb:Array Value}
  (F B:Nat) (J:σ→K→Prop) (ok:K→A→Prop) (enc:K→A→List Value→Prop) (y:σ→A→Option σ) (s0:σ) (r:σ)
  (hB:B≤κ.H.size) (hJ:∀ {s:σ} {κ κ':K} {M:List Nat},J s κ→Step M κ κ'→(∀ b∈M,b<κ.H.size→Nat.beq ((κ.tag b).2 / 1000) F=false∧B≤b)→J s κ') (h0:J s0 κ)
  (hround:∀ {l N:Nat} {o1 o2:Obj} {κ':K} {s s':σ} {a:A} {vs:List Value},κ.H.size≤N→Rec N 999 κ' l o1→J s κ'→ok κ' a→enc κ' a vs→y s a=some s'→
   vs.length=ps.length∧∀ inst:Fc,inst.ds=[] → @cwp inst _ P n (sub c (0::0::p)) (@zpP inst _ P n (sub c (1::0::p)) N l o1 o2 (zrX N l o2 F κ' (J s'))) (zrB E ps vs) κ')
  (hit:∀ {J':σ→K→Prop} {l:Nat} {κ1:K},Step [] κ κ1→Stab F B J'→
   (∀ {κ':K} {s s':σ} {a:A} {vs:List Value},J' s κ'→ok κ' a→enc κ' a vs→y s a=some s'→Yl P l vs.toArray κ' (fun κ''=>Step (tb F κ') κ' κ''∧J' s' κ''))→
   J' s0 κ1→Fn P gf (#[.func (.yield l) #[] #[]]++lb) κ1 (fun _ κ2=>J' r κ2))
  (hafter:∀ {N D:Nat} {κ2:K},κ.H.size≤N→Rec N 998 κ2 D (.deferred (some []))→J r κ2→∀ inst:Fc,inst.ds=zm4 D → @cwp inst _ P n (sub c pr) (zrY P fn R N D) E κ2)
  (hg:ev E g=.func (.func gf) #[] lb:=by kernel_rfl) (hF:Nat.blt 0 F=true:=by kernel_rfl) (h2:zly (sub c p)=some id:=by kernel_rfl)
  (h3:zt8 (sub c (0::p))=some (g,ps):=by kernel_rfl) (hps:ps.all (fun q=>Nat.blt q n)=true:=by kernel_rfl) (hgf:zdh P gf=true:=by kernel_rfl):ztV P n (sub c p) (sub c pr) fn R E κ:=by
 have hps':∀ q∈ps,q<n:=fun q hq=>by
  have:=List.all_eq_true.1 hps q hq
  exact Nat.le_of_ble_eq_true this
 have hF':0<F:=Nat.le_of_ble_eq_true hF
 have e3:sub c (0::p)=zel 0 (sub c p):=rfl
 have e4:sub c (0::0::p)=zel 0 (zel 0 (sub c p)):=rfl
 have e5:sub c (1::0::p)=zel 1 (zel 0 (sub c p)):=rfl
 simp only [e4,e5] at hround
 rw [e3] at h3
 clear e3 e4 e5
 generalize sub c pr=rest at *
 generalize sub c p=s at *
 cases s<;>simp [zly] at h2
 rename_i id' x
 subst h2
 simp only [zel] at h3 hround
 cases x<;>simp [zt8] at h3
 rename_i g' ps' assign body
 obtain ⟨rfl,hpl⟩:=h3
 simp only [zel,if_true] at hround
 have hround':∀ {l N:Nat} {o1 o2:Obj} {κ':K} {s s':σ} {a:A} {vs:List Value},κ.H.size≤N→Rec N 999 κ' l o1→J s κ'→ok κ' a→enc κ' a vs→y s a=some s'→
   vs.length=ps.length∧∀ inst:Fc,inst.ds=[] → @cwp inst _ P n assign (@zpP inst _ P n body N l o1 o2 (zrX N l o2 F κ' (J s'))) (zrB E ps vs) κ':=hround
 have hafter':∀ {N D:Nat} {κ2:K},κ.H.size≤N→Rec N 998 κ2 D (.deferred (some []))→J r κ2→∀ inst:Fc,inst.ds=zm4 D → @cwp inst _ P n rest (zrY P fn R N D) E κ2:=hafter
 clear hround hafter
 intro C d a hf
 refine wpIn_block ?_
 refine wpIn_rangeFunc ?_
 intro fn0 hfn0
 have hro:Fence.wide.round=none:=rfl
 rw [hro]
 obtain ⟨sz,hsz⟩:∃ sz,κ.H.size=sz:=⟨_,rfl⟩
 obtain ⟨rec,hrec⟩:∃ rec:LoopState→Option Code→Loop,rec=fun st pe=>{state:=st,pending:=pe,fn:=fn0,tmps:=a.tmps,params:=ps',assign,body,defers:=sz}:=⟨_,rfl⟩
 obtain ⟨κ0,hκ0⟩:∃ κ0,κ0=κ.push (.deferred (some [])) 0 (sz,998):=⟨_,rfl⟩
 obtain ⟨κ1,hκ1⟩:∃ κ1,κ1=κ0.push (.loop (rec .ready none)) 0 (sz,999):=⟨_,rfl⟩
 have s01:Step [] κ κ0:=by rw [hκ0];exact zaZ _ _ _ _
 have s12:Step [] κ0 κ1:=by rw [hκ1];exact zaZ _ _ _ _
 have s1:Step [] κ κ1:=s01.trans s12
 have hz0:κ0.H.size=sz+1:=by rw [hκ0,←hsz];simp [K.push]
 have rD0:Rec sz 998 κ0 sz (.deferred (some [])):=by
  refine ⟨⟨by rw [hz0];omega,?_,?_,Nat.le_refl _⟩,?_⟩
  ·rw [hκ0];simp [K.push,hsz]
  ·rw [hκ0];simp [K.push,hsz]
  ·rw [hκ0];simp [K.push,←hsz]
 have rD:Rec sz 998 κ1 sz (.deferred (some [])):=rD0.step0 s12
 have rL:Rec sz 999 κ1 (sz+1) (.loop (rec .ready none)):=by
  refine ⟨⟨by rw [hκ1];simp [K.push,hz0],?_,?_,by simp⟩,?_⟩
  ·rw [hκ1];simp [K.push,hz0]
  ·rw [hκ1];simp [K.push,hz0]
  ·rw [hκ1];simp [K.push,←hz0]
 have hW1:((W C κ d).alloc (.deferred (some []))).alloc (.loop (rec .ready none))=W C κ1 d:=by rw [hκ1,hκ0];rfl
 have hJ':Stab F B (fun s κ'=>J s κ'∧Rec sz 999 κ' (sz+1) (.loop (rec .ready none))∧Rec sz 998 κ' sz (.deferred (some []))):=by
  intro s κa κb M h st hM
  refine ⟨hJ h.1 st (fun b hb hlt=>?_),h.2.1.step st (fun hb=>?_),h.2.2.step st (fun hb=>?_)⟩
  ·have:=zr9 (hM b hb hlt).1
   unfold tsF at this;simp only [Bool.or_eq_false_iff] at this
   exact ⟨this.2,(hM b hb hlt).2⟩
  ·have:=zud (hM _ hb h.2.1.o.lt).1
   rw [h.2.1.o.tag] at this;exact this rfl
  ·have:=zue (hM _ hb h.2.2.o.lt).1
   rw [h.2.2.o.tag] at this;exact this rfl
 have b999:Nat.beq (999 / 1000) F=false:=by
  cases hb:Nat.beq (999 / 1000) F with
  | false=>rfl
  | true=>have:=Nat.eq_of_beq_eq_true hb;simp at this;omega
 have jl:∀ {s:σ} {κa κb:K} {o:Obj},J s κa→Step [sz+1] κa κb→Rec sz 999 κa (sz+1) o→J s κb:=fun h st hr=>
  hJ h st (fun b hb _=>by rw [List.mem_singleton.1 hb,hr.o.tag];exact ⟨b999,by omega⟩)
 have hev:a.eval g'=.func (.func gf) #[] lb:=by rw [hf.eval];exact hg
 refine ⟨sz+1,zm4 sz,W C κ1 d,{target:=.fn (.func gf) lb,args:=#[.func (.yield (sz+1)) #[] #[]]},W C κ1 d,gf,#[.func (.yield (sz+1)) #[] #[]]++lb,W C κ1 d,?_,?_,?_,?_,fun h=>(by simp [Fence.wide] at h),?_⟩
 ·rw [←hW1,hrec,←hsz];exact run_enterLoop_outer _ _ _ _ _
 ·simp only [resolve,hev]
  simp [go_sem]
 ·intro f' hf';trivial
 ·simp [invoke,go_sem,ztl hgf]
 ·refine CallsIn.mono ((callsIn_wide (n:=0 - 1)).2 (hit (J':=fun s κ'=>J s κ'∧Rec sz 999 κ' (sz+1) (.loop (rec .ready none))∧Rec sz 998 κ' sz (.deferred (some []))) (l:=sz+1) s1 hJ' ?_ ⟨hJ h0 s1 (fun b hb=>by cases hb),rL,rD⟩ C d)) ?_
  ·
   rintro κ' s s' x vs ⟨hj,hl,hD⟩ hok henc hy C' d'
   obtain ⟨hlen,hcw⟩:=hround' (o2:=.loop {rec .ready none with state:=.busy}) (by omega) hl hj hok henc hy
   have hlt:sz+1<κ'.H.size:=hl.o.lt
   have hyr:=run_yield (P:=P) (w:=W C' κ' d') (args:=vs.toArray) hl.obj (by rw [hrec];simp only [List.size_toArray];rw [hlen,←hpl];simp)
   rw [hrec] at hyr
   refine ⟨_,_,_,_,hyr,roundIn_of_wpIn trivial ?_⟩
   have hfit : @Fits ⟨some (sz+1),[]⟩ n {tmps:=(ps'.zip vs.toArray).foldl (fun t (p,v)=>t.setIfInBounds p v) a.tmps,defers:=[]} (zrB E ps vs):=by
    have h:=zrp (inst:=⟨some (sz+1),[]⟩) ps vs a.tmps E hps' (@Fits.mk ⟨some (sz+1),[]⟩ n {tmps:=a.tmps,defers:=[]} E hf.size rfl hf.tmps)
    have e:(ps'.zip vs.toArray)=(ps.zip vs).toArray:=by
     rw [←hpl];obtain ⟨q⟩:=ps';exact List.zip_toArray _ _
    rw [e]
    simpa using h
   refine wpIn_mono (hcw ⟨some (sz+1),[]⟩ rfl C' d' _ hfit) ?_
   rintro e a1 w1 ⟨E1,κa,da,hf1,rfl,hq⟩
   cases e with
   | normal=>
    obtain ⟨hr1,hk⟩:=hq
    obtain ⟨hs2,hr2⟩:=zlf hr1 (.loop {rec .ready none with state:=.busy})
    refine ⟨_,run_beginRound (r:=rec .ready none) hr1.obj (by rw [hrec]),?_⟩
    rw [zpE]
    refine wpIn_mono (hk _ hs2 hr2 C' da a1 hf1) ?_
    rintro e a2 w2 ⟨E2,κb,db,hf2,rfl,hq2⟩
    cases e with
    | normal=>
     obtain ⟨hr3,hst3,hj3⟩:=hq2
     obtain ⟨hs4,hr4⟩:=zlf hr3 (.loop (rec .ready none))
     have hend:=run_endRound (P:=P) (w:=W C' κb db) (l:=sz+1) none hr3.obj
     refine ⟨_,_,hend,rfl,κb.setO (sz+1) (.loop (rec .ready none)),db,?_,?_,?_,hr4,?_⟩
     ·rw [zpE];rw [hrec];rfl
     ·exact hst3.trY (hr3.o.tb1 rfl) hs4
     ·exact jl hj3 hs4 hr3
     ·refine hD.step (hst3.trY (hr3.o.tb1 rfl) hs4) (hD.o.ntb ?_)
      unfold tsF
      have:Nat.beq (998 / 1000) F=false:=b999
      rw [this];rfl
    | _=>exact hq2.elim
   | _=>exact hq.elim
  ·
   rintro e w2 ⟨v,κ2,d2,rfl,rfl,hj,hl,hD⟩
   obtain ⟨ob,hob⟩:∃ ob:Obj,ob=.loop {rec .ready none with state:=.exhausted}:=⟨_,rfl⟩
   obtain ⟨hs3,hr3⟩:=zlf hl ob
   have hend:(Instr.endLoop (sz+1)).run P (W C κ2 d2)=.ok none (W C (κ2.setO (sz+1) ob) d2):=by
    have:=run_endLoop (P:=P) (w:=W C κ2 d2) (l:=sz+1) hl.obj (by rw [hrec];simp)
    rw [this,hob,hrec];rfl
   refine ⟨none,_,hend,?_⟩
   show (Exit.inBlock id' _) Exit.normal _ _
   simp only [Exit.inBlock,Exit.then]
   have hD3:Rec sz 998 (κ2.setO (sz+1) ob) sz (.deferred (some [])):=hD.step hs3 (by simp)
   have hjr:J r (κ2.setO (sz+1) ob):=jl hj hs3 hl
   have hfin:Code.wpIn Fence.wide 0 P rest (@zgq ⟨none,zm4 sz⟩ _ n C (zrY P fn R sz sz)) {a with defers:=zm4 sz++a.defers} (W C (κ2.setO (sz+1) ob) d2):=
    hafter' (by omega) hD3 hjr ⟨none,zm4 sz⟩ rfl C d2 {a with defers:=zm4 sz++a.defers} (@Fits.mk ⟨none,zm4 sz⟩ n _ E hf.size (by rw [hf.defers];rfl) hf.tmps)
   refine wpIn_mono hfin ?_
   rintro e a3 w3 ⟨E3,κ3,d3,hf3,rfl,hq3⟩
   exact zpc (inst:=⟨none,zm4 sz⟩) rfl hf3 hq3
section
variable {F B:Nat} {κ κ1 κ2:K} {M M':List Nat} {τ:Tag}
theorem Step.trZ (h:Step M κ κ1) (st:Step M' κ1 κ2) (hM:∀ b∈M',b<κ1.H.size→Nat.beq ((κ1.tag b).2 / 1000) F=false∧κ.H.size≤b):Step M κ κ2:=
 h.trM (fun b hb=>.inr (by
  by_cases hl:b<κ1.H.size
  ·exact (hM b hb hl).2
  ·exact Nat.le_trans h.1 (Nat.le_of_not_lt hl))) st
theorem Own.stepZ {b:Nat} (h:Own τ κ b) (hM:∀ b∈M,b<κ.H.size→Nat.beq ((κ.tag b).2 / 1000) F=false∧B≤b) (ht:Nat.beq (τ.2 / 1000) F=true):b∉M:=fun hb=>by
 have:=(hM b hb h.lt).1;rw [h.tag,ht] at this;cases this
theorem Box.stepZ {b:Nat} {cs:List Value} {T:TypeId} (h:Box τ κ b cs T) (st:Step M κ κ1) (hM:∀ b∈M,b<κ.H.size→Nat.beq ((κ.tag b).2 / 1000) F=false∧B≤b) (ht:Nat.beq (τ.2 / 1000) F=true):Box τ κ1 b cs T:=
 h.step st (h.o.stepZ hM ht)
theorem Gr.stepZ {α:Type} {t:Ty α} {pub:Bool} {e:TypeId} {a:Option Addr} {c:Nat} {l:List α} (h:Gr t pub τ κ e a c l) (st:Step M κ κ1) (hM:∀ b∈M,b<κ.H.size→Nat.beq ((κ.tag b).2 / 1000) F=false∧B≤b)
  (ht:Nat.beq (τ.2 / 1000) F=true):Gr t pub τ κ1 e a c l:=
 h.step st (fun g hg hb=>by
  have:=(hM g hb (h.lt g hg).1).1;rw [(h.lt g hg).2.1,ht] at this;cases this)
theorem zsa {N i:Nat} (h:Nat.beq (i / 1000) F=false) (h8:Nat.beq i 998=false:=by kernel_rfl) (h9:Nat.beq i 999=false:=by kernel_rfl):nI F (N,i)=true:=by
 show (!(Nat.beq i 998)&&!(Nat.beq i 999||Nat.beq (i / 1000) F))=true
 rw [h,h8,h9];rfl
theorem zpH {N i:Nat} (h:Nat.beq (i / 1000) F=false) (h9:Nat.beq i 999=false:=by kernel_rfl):tsF F (N,i)=false:=by
 show (Nat.beq i 999||Nat.beq (i / 1000) F)=false
 rw [h,h9];rfl
end
def tPo:Ty (Option Nat):=⟨1,fun _ cs x=>cs=[.pointer (x.map fun b=>⟨b,0,none⟩)],fun h=>by rw [h];rfl,fun _ h=>h,fun h v hv=>by rw [h] at hv;simp at hv;subst hv;rfl⟩
def nb (bs:List Nat) (x:Int):Nat:=(bs[x.toNat]?).getD 0
def ldr (bs:List Nat) (x:Int):Option Addr:=if x<0 then none else some ⟨nb bs x,0,none⟩
def fpl (n:Nat) (bs:List Nat):List (Option Nat):=bs.map some++List.replicate (n - bs.length) none
def znj (a:Option Addr) (n:Nat) (bs:List Nat):List Nat:=blk a n++bs
structure Fst (τ:Tag) (κ:K) (eP eG:TypeId) (a:Option Addr) (n:Nat) (bs:List Nat) (L:List Int):Prop where
 vec:Gr tPo false τ κ eP a n (fpl n bs)
 le:bs.length≤n
 len:bs.length=L.length
 node:∀ (i b:Nat) (x:Int),bs[i]?=some b→L[i]?=some x→Box τ κ b [.pointer (ldr bs x),.int .i64 i] eG
 rng:∀ (i:Nat) (x:Int),L[i]?=some x→x.toNat<bs.length
 nd:bs.Nodup
 dis:∀ g∈blk a n,g∉bs
def fmk (bytes:Nat) (n:Int):Option (List Int):=if 0≤n∧n≤9223372036854775807∧n*bytes≤140737488355328 then some [] else none
def zng (n:Nat) (L:List Int) (ix:Int):Option (List Int):=if ix=(L.length:Int)∧L.length<n then some (L++[-1]) else none
def gstep (L:List Int) (i:Int):Option (Int ⊕ Int):=(idx L i).bind fun p=>if p<0 then some (.inr i) else some (.inl p)
theorem zsl {bytes:Nat} {n:Int} {r:List Int} (h:fmk bytes n=some r):mkl bytes n (none:Option Nat)=some (List.replicate n.toNat none)∧r=[]:=by
 unfold fmk at h
 split at h
 ·rename_i hc
  exact ⟨by unfold mkl;rw [if_pos hc],(Option.some.inj h).symm⟩
 ·cases h
theorem znf {n:Nat} {L r:List Int} {ix:Int} (h:zng n L ix=some r):ix=(L.length:Int)∧L.length<n∧r=L++[-1]:=by
 unfold zng at h
 split at h
 ·rename_i hc;exact ⟨hc.1,hc.2,(Option.some.inj h).symm⟩
 ·cases h
theorem zi0 {n:Nat} {bs:List Nat} (h:bs.length≤n):(fpl n bs).length=n:=by
 unfold fpl;simp;omega
section
variable {τ τ':Tag} {κ κ':K} {eP eG:TypeId} {a:Option Addr} {n:Nat} {bs:List Nat} {L:List Int} {M:List Nat}
theorem zj4 {x:Int} (h:x.toNat<bs.length):bs[x.toNat]?=some (nb bs x):=by
 unfold nb;rw [List.getElem?_eq_getElem h];rfl
theorem Fst.mem (h:Fst τ κ eP eG a n bs L):∀ g∈znj a n bs,g<κ.H.size∧κ.tag g=τ∧τ.1≤g:=by
 intro g hg
 rcases List.mem_append.1 hg with hg | hg
 ·exact h.vec.lt g hg
 ·obtain ⟨i,hi,he⟩:=List.getElem_of_mem hg
  have h1:bs[i]?=some g:=by rw [List.getElem?_eq_getElem hi,he]
  have hi2:i<L.length:=by rw [←h.len];exact hi
  have:=h.node i g _ h1 (List.getElem?_eq_getElem hi2)
  exact ⟨this.lt,this.tag,this.ge⟩
theorem Fst.step (s:Step M κ κ') (hm:∀ g∈znj a n bs,g∉M) (h:Fst τ κ eP eG a n bs L):Fst τ κ' eP eG a n bs L:=
 ⟨h.vec.step s (fun g hg=>hm g (List.mem_append_left _ hg)),h.le,h.len,
  fun i b x hb hx=>(h.node i b x hb hx).step s (hm b (List.mem_append_right _ (List.mem_of_getElem? hb))),h.rng,h.nd,h.dis⟩
theorem Fst.step0 (s:Step [] κ κ') (h:Fst τ κ eP eG a n bs L):Fst τ κ' eP eG a n bs L:=h.step s (fun _ _=>by simp)
theorem Fst.own {κ0:K} (h:Fst τ κ eP eG a n bs L) (h0:κ0.H.size≤τ.1):∀ b∈znj a n bs,κ0.H.size≤b:=fun b hb=>Nat.le_trans h0 (h.mem b hb).2.2
theorem Fst.nb {b:Nat} (h:Fst τ κ eP eG a n bs L) (h':Own τ' κ b) (hn:τ'≠τ):b∉znj a n bs:=fun hg=>hn (h'.tag.symm.trans (h.mem b hg).2.1)
theorem Fst.bn {b:Nat} (h:Fst τ κ eP eG a n bs L) (h':Own τ' κ b) (hn:τ≠τ'):∀ g∈znj a n bs,g∉[b]:=fun g hg hx=>by
 have e1:=List.mem_singleton.1 hx
 subst e1
 exact hn ((h.mem g hg).2.1.symm.trans h'.tag)
theorem Fst.gn {α:Type} {t:Ty α} {pub:Bool} {e:TypeId} {a':Option Addr} {c':Nat} {l:List α} (h:Fst τ κ eP eG a n bs L) (h':Gr t pub τ' κ e a' c' l) (hn:τ≠τ'):∀ g∈znj a n bs,g∉blk a' c':=
 fun g hg hx=>hn ((h.mem g hg).2.1.symm.trans (h'.lt g hx).2.1)
theorem Fst.ng {α:Type} {t:Ty α} {pub:Bool} {e:TypeId} {a':Option Addr} {c':Nat} {l:List α} (h:Fst τ κ eP eG a n bs L) (h':Gr t pub τ' κ e a' c' l) (hn:τ'≠τ):∀ g∈blk a' c',g∉znj a n bs:=
 fun g hg hx=>hn ((h'.lt g hg).2.1.symm.trans (h.mem g hx).2.1)
theorem Fst.gnm {α:Type} {t:Ty α} {pub:Bool} {eo ei:TypeId} {a':Option Addr} {c':Nat} {hm hs:List Hd} {l:List (List α)} (h:Fst τ κ eP eG a n bs L) (h':Mat t pub τ' κ eo ei a' c' hm hs l) (hn:τ≠τ'):∀ g∈znj a n bs,g∉mblk a' c' hs:=
 fun g hg hx=>hn ((h.mem g hg).2.1.symm.trans (h'.lt g hx).2.1)
theorem Fst.ngm {α:Type} {t:Ty α} {pub:Bool} {eo ei:TypeId} {a':Option Addr} {c':Nat} {hm hs:List Hd} {l:List (List α)} (h:Fst τ κ eP eG a n bs L) (h':Mat t pub τ' κ eo ei a' c' hm hs l) (hn:τ'≠τ):∀ g∈mblk a' c' hs,g∉znj a n bs:=
 fun g hg hx=>hn ((h'.lt g hg).2.1.symm.trans (h.mem g hx).2.1)
theorem Fst.nmost (h:Fst τ κ eP eG a n bs L):n≤9223372036854775807:=by
 have:=h.vec.most
 rw [zi0 h.le,zfz] at this;exact this
theorem Fst.inb (h:Fst τ κ eP eG a n bs L) {ix x:Int} (hx:idx L ix=some x):0≤ix∧ix.toNat<bs.length:=by
 obtain ⟨h0,h1,h2⟩:=ze2 hx
 exact ⟨h0,by rw [h.len];omega⟩
theorem Fst.i64 (h:Fst τ κ eP eG a n bs L) {ix:Int} (hn:0≤ix∧ix.toNat<bs.length):I64 ix:=by
 have:=h.nmost;have:=h.le
 unfold I64;omega
theorem Fst.vcell (h:Fst τ κ eP eG a n bs L) {ix x:Int} (hx:idx L ix=some x) :
  ∃ b,a=some ⟨b,0,none⟩∧0≤ix∧ix<(n:Int)∧At κ b (0+ix.toNat*1) [.pointer (some ⟨Lf.nb bs ix,0,none⟩)]:=by
 have hn:=h.inb hx
 have hp:idx (fpl n bs) ix=some (some (Lf.nb bs ix)):=by
  unfold idx;rw [if_pos hn.1]
  unfold fpl
  rw [List.getElem?_append_left (by simpa using hn.2),List.getElem?_map,zj4 hn.2];rfl
 obtain ⟨b,ha,h0,h1,cs,hat,ho⟩:=h.vec.idx hp
 rw [zi0 h.le] at h1
 refine ⟨b,ha,h0,h1,?_⟩
 have ho':cs=[.pointer (some ⟨Lf.nb bs ix,0,none⟩)]:=ho
 rw [ho'] at hat;exact hat
theorem Fst.ncell (h:Fst τ κ eP eG a n bs L) {ix:Int} (hn:0≤ix∧ix.toNat<bs.length):∃ x,idx L ix=some x∧Box τ κ (Lf.nb bs ix) [.pointer (ldr bs x),.int .i64 ix] eG:=by
 have hl:ix.toNat<L.length:=by rw [←h.len];exact hn.2
 have hx:L[ix.toNat]?=some L[ix.toNat]:=List.getElem?_eq_getElem hl
 refine ⟨L[ix.toNat],by unfold idx;rw [if_pos hn.1,hx],?_⟩
 have:=h.node ix.toNat _ _ (zj4 hn.2) hx
 rw [Int.toNat_of_nonneg hn.1] at this;exact this
theorem Fst.num (h:Fst τ κ eP eG a n bs L) {ix:Int} (hn:0≤ix∧ix.toNat<bs.length):κ.cell (Lf.nb bs ix) 1=some (.int .i64 ix):=by
 obtain ⟨x,_,hb⟩:=h.ncell hn
 have:=hb.at.one (o:=1) rfl
 simpa using this
theorem Fst.lead (h:Fst τ κ eP eG a n bs L) {ix x:Int} (hx:idx L ix=some x):κ.cell (Lf.nb bs ix) 0=some (.pointer (ldr bs x)):=by
 obtain ⟨x',hx',hb⟩:=h.ncell (h.inb hx)
 rw [hx] at hx';injection hx' with e;subst e
 have:=hb.at.one (o:=0) rfl
 simpa using this
theorem zop {r:Int} (h:Fst τ κ eP eG a n bs L) {ix:Int} (hn:0≤ix∧ix.toNat<bs.length) (hr:iter (gstep L) ix=some r):0≤r∧r.toNat<bs.length:=by
 obtain ⟨m,hm⟩:=zcA.1 hr
 induction m generalizing ix with
 | zero=>cases hm
 | succ m ih=>
  unfold zhD at hm
  unfold gstep at hm
  cases hx:idx L ix with
  | none=>rw [hx] at hm;cases hm
  | some p=>
   rw [hx] at hm
   simp only [Option.bind_some] at hm
   by_cases hp:p<0
   ·rw [if_pos hp] at hm
    injection hm with e;subst e;exact hn
   ·rw [if_neg hp] at hm
    exact ih ⟨Int.not_lt.1 hp,h.rng ix.toNat p (ze2 hx).2.2⟩ (zcA.2 ⟨m,hm⟩) hm
theorem Fst.made (h:Gr tPo false τ κ eP a n (List.replicate n none)):Fst τ κ eP eG a n [] []:=
 ⟨by unfold fpl;simpa using h,by simp,rfl,fun i b x hb=>by simp at hb,fun i x hx=>by simp at hx,by simp,fun g _=>by simp⟩
theorem Fst.newat {r:List Int} (h:Fst τ κ eP eG a n bs L) {ix:Int} (hx:zng n L ix=some r):∃ b,a=some ⟨b,0,none⟩∧0≤ix∧ix<(n:Int):=by
 obtain ⟨e,hl,_⟩:=znf hx
 have hp:idx (fpl n bs) 0=some ((fpl n bs)[0]'(by rw [zi0 h.le];omega)):=by
  unfold idx;rw [if_pos (by omega)];exact List.getElem?_eq_getElem _
 obtain ⟨b,ha,_⟩:=h.vec.idx hp
 exact ⟨b,ha,by omega,by omega⟩
theorem zsk {b:Nat} (h:bs.length<n):(fpl n bs).set bs.length (some b)=fpl n (bs++[b]):=by
 unfold fpl
 rw [List.set_append_right _ _ (by simp)]
 have e:n - bs.length=(n - (bs++[b]).length)+1:=by simp;omega
 rw [e,List.replicate_succ]
 simp
theorem ztO {b:Nat} {x:Int} (h:x.toNat<bs.length):Lf.nb (bs++[b]) x=Lf.nb bs x:=by
 unfold Lf.nb;rw [List.getElem?_append_left h]
theorem zs5 {b:Nat} {x:Int} (h:x.toNat<bs.length):ldr (bs++[b]) x=ldr bs x:=by
 unfold ldr;rw [ztO h]
theorem zsU {b:Nat} {cs:List Value} {T:TypeId} (h:Box τ' κ b cs T) (hle:τ.1≤τ'.1):Box τ (κ.retag [b] τ) b cs T∧Step [b] κ (κ.retag [b] τ):=
 ⟨⟨h.obj,h.fr,by simp [K.retag],Nat.le_trans hle h.ge⟩,⟨Nat.le_refl _,fun x hb hm=>⟨rfl,rfl,by simp [K.retag] at hm ⊢;simp [hm]⟩,fun x hb=>⟨Nat.le_refl _,fun o _=>rfl⟩,fun x hb hf=>⟨by
  have:x≠b:=fun e=>by rw [e,h.fr] at hf;omega
  simp [K.retag,this],rfl⟩⟩⟩
theorem Fst.push {b:Nat} (h:Fst τ κ eP eG a n bs L) (hlt:bs.length<n) (s:Step (blk a n) κ κ') (hv:Gr tPo false τ κ' eP a n (fpl n (bs++[b]))) (hb:Box τ' κ b [.pointer none,.int .i64 (L.length:Int)] eG) (hne:τ'≠τ) (hle:τ.1≤τ'.1) :
  Fst τ (κ'.retag [b] τ) eP eG a n (bs++[b]) (L++[-1])∧Step [b] κ' (κ'.retag [b] τ):=by
 have hbv:b∉blk a n:=fun hg=>hne (hb.tag.symm.trans (h.vec.lt b hg).2.1)
 have hbn:b∉bs:=fun hg=>hne (hb.tag.symm.trans (h.mem b (List.mem_append_right _ hg)).2.1)
 have hb':=hb.step s hbv
 obtain ⟨hb2,s2⟩:=zsU (τ:=τ) hb' hle
 refine ⟨⟨hv.step s2 (fun g hg hx=>hbv (by rw [List.mem_singleton.1 hx] at hg;exact hg)),by simp;omega,by simp [h.len],?_,?_,?_,?_⟩,s2⟩
 ·intro i b' x hbi hxi
  by_cases hi:i<bs.length
  ·rw [List.getElem?_append_left hi] at hbi
   have hiL:i<L.length:=by rw [←h.len];exact hi
   rw [List.getElem?_append_left hiL] at hxi
   have hmem:b'∈bs:=List.mem_of_getElem? hbi
   have:=((h.node i b' x hbi hxi).step s (fun hg=>h.dis b' hg hmem)).step s2 (fun hx=>hbn (by rw [List.mem_singleton.1 hx] at hmem;exact hmem))
   rw [zs5 (h.rng i x hxi)];exact this
  ·have hi2:i=bs.length:=by
    have:=(List.getElem?_eq_some_iff.1 hbi).1
    simp at this;omega
   subst hi2
   rw [List.getElem?_append_right (Nat.le_refl _)] at hbi
   simp at hbi;subst hbi
   rw [h.len,List.getElem?_append_right (Nat.le_refl _)] at hxi
   simp at hxi;subst hxi
   rw [h.len];exact hb2
 ·intro i x hx
  by_cases hi:i<L.length
  ·rw [List.getElem?_append_left hi] at hx
   have:=h.rng i x hx;simp;omega
  ·rw [List.getElem?_append_right (by omega)] at hx
   have hz:=(List.getElem?_eq_some_iff.1 hx).1
   simp at hz
   rw [hz] at hx;simp at hx;subst hx;simp
 ·rw [List.nodup_append]
  exact ⟨h.nd,by simp,fun x hx y hy e=>hbn (by rw [List.mem_singleton.1 hy] at e;exact e▸hx)⟩
 ·intro g hg hx
  rcases List.mem_append.1 hx with hx | hx
  ·exact h.dis g hg hx
  ·rw [List.mem_singleton.1 hx] at hg;exact hbv hg
theorem Fst.set {ix jx:Int} (h:Fst τ κ eP eG a n bs L) (hi:0≤ix∧ix.toNat<bs.length) (hj:0≤jx∧jx.toNat<bs.length) (s:Step [Lf.nb bs ix] κ κ') (hb:Box τ κ' (Lf.nb bs ix) [.pointer (some ⟨Lf.nb bs jx,0,none⟩),.int .i64 ix] eG) :
  Fst τ κ' eP eG a n bs (L.set ix.toNat jx):=by
 have hmem:Lf.nb bs ix∈bs:=List.mem_of_getElem? (zj4 hi.2)
 refine ⟨h.vec.step s (fun g hg hx=>h.dis g hg (by rw [List.mem_singleton.1 hx];exact hmem)),h.le,by rw [List.length_set];exact h.len,?_,?_,h.nd,h.dis⟩
 ·intro i b x hbi hxi
  by_cases he:i=ix.toNat
  ·subst he
   rw [zj4 hi.2] at hbi;injection hbi with e;subst e
   rw [List.getElem?_set_self (by rw [←h.len];exact hi.2)] at hxi
   injection hxi with e;subst e
   have:ldr bs jx=some ⟨Lf.nb bs jx,0,none⟩:=by unfold ldr;rw [if_neg (by omega)]
   rw [this,Int.toNat_of_nonneg hi.1];exact hb
  ·rw [List.getElem?_set_ne (Ne.symm he)] at hxi
   refine (h.node i b x hbi hxi).step s (fun hx=>he ?_)
   have e:=List.mem_singleton.1 hx
   subst e
   have h1:=(List.getElem?_eq_some_iff.1 hbi).1
   exact (List.getElem?_inj h1 h.nd).1 (hbi.trans (zj4 hi.2).symm)
 ·intro i x hx
  by_cases he:i=ix.toNat
  ·subst he
   rw [List.getElem?_set_self (by rw [←h.len];exact hi.2)] at hx
   injection hx with e;subst e;exact hj.2
  ·rw [List.getElem?_set_ne (Ne.symm he)] at hx;exact h.rng i x hx
end
section
variable [Fc] [Fb] {P:Program} {N:Nat} {c:Code} {i:Nat} {Q:za7} {E:Env} {κ:K} {τ τ':Tag} {eP eG:TypeId} {a:Option Addr} {n:Nat} {bs:List Nat} {L r:List Int}
theorem zur {d bytes:Nat} {T:TypeId} {k1 k2:IntKind} {m:Int} (eG:TypeId) (hT:zhd P T=some (eP,1,1,bytes)) (hz:(zeI P eP).map Value.cells=some [.pointer none].toArray) (hx:fmk bytes m=some r) (hτ:τ.1≤κ.H.size)
  (hk:∀ a' κ',Step [] κ κ'→Fst τ κ' eP eG a' m.toNat [] r→owp P N c (i+1) Q (upd E d (.slice a' m.toNat m.toNat)) κ')
  (h:st c i N E (some d)=true:=by kernel_rfl) (ho:execOp (ev E) (zB c i)=vOf (Instr.makeSlice T (.int k1 m) (.int k2 m)):=by kernel_rfl):owp P N c i Q E κ:=by
 obtain ⟨hm,rfl⟩:=zsl hx
 refine ziw (pub:=false) (t:=tPo) (z:=none) h ho hT hz rfl hm hτ fun a' κ' s g=>?_
 rw [List.length_replicate] at g ⊢
 exact hk a' κ' s (Fst.made g)
theorem ztM {ix:Int} {bv b:Nat} {T:TypeId} (h:Fst τ κ eP eG a n bs L) (hx:zng n L ix=some r) (ea:a=some ⟨bv,0,none⟩) (hb:Box τ' κ b [.pointer none,.int .i64 ix] eG) (hne:τ'≠τ) (hle:τ.1≤τ'.1)
  (hs:zac P T=some 1)
  (hk:∀ κ1 κ2,Step (znj a n bs) κ κ1→Step [b] κ1 κ2→Fst τ κ2 eP eG a n (bs++[b]) r→owp P N c (i+1) Q E κ2)
  (hst:st c i N E none=true:=by kernel_rfl)
  (ho:execOp (ev E) (zB c i)=uOf (Instr.storeAt T (.pointer (some ⟨bv,0+ix.toNat*1,none⟩)) (.pointer (some ⟨b,0,none⟩))):=by kernel_rfl):owp P N c i Q E κ:=by
 obtain ⟨hix,hlt,rfl⟩:=znf hx
 have hlt':bs.length<n:=by rw [h.len];exact hlt
 have hto:ix.toNat=bs.length:=by rw [hix,h.len];simp
 refine zbu (T:=T) (t:=tPo) (ix:=ix) (x':=some b) (b:=bv) (δ:=0) (vs:=[.pointer (some ⟨b,0,none⟩)]) (.pointer (some ⟨b,0,none⟩)) hst ho ea h.vec (by omega) (by rw [zi0 h.le];omega) rfl hs rfl rfl
  (fun cs hx=>by obtain ⟨x,_,ho⟩:=hx;rw [zat ((tPo.len ho).trans (by rfl))];rfl) fun κ' s hg=>?_
 rw [hto,zsk hlt'] at hg
 have hb':Box τ' κ b [.pointer none,.int .i64 (L.length:Int)] eG:=by rw [←hix];exact hb
 obtain ⟨F,s2⟩:=h.push hlt' s hg hb' hne hle
 refine zfy (κ':=κ'.retag [b] τ) rfl (hk κ' _ (s.mono (fun g hg=>List.mem_append_left _ hg)) s2 F)
theorem ztv {ix jx:Int} {T:TypeId} (h:Fst τ κ eP eG a n bs L) (hi:0≤ix∧ix.toNat<bs.length) (hj:0≤jx∧jx.toNat<bs.length) (hs:zac P T=some 1)
  (hk:∀ κ',Step (znj a n bs) κ κ'→Fst τ κ' eP eG a n bs (L.set ix.toNat jx)→owp P N c (i+1) Q E κ')
  (hst:st c i N E none=true:=by kernel_rfl)
  (ho:execOp (ev E) (zB c i)=uOf (Instr.storeAt T (.pointer (some ⟨nb bs ix,0,none⟩)) (.pointer (some ⟨nb bs jx,0,none⟩))):=by kernel_rfl):owp P N c i Q E κ:=by
 obtain ⟨x,_,hb⟩:=h.ncell hi
 refine zn (b:=nb bs ix) (off:=0) (T:=T) (.pointer (some ⟨nb bs jx,0,none⟩)) [.pointer (some ⟨nb bs jx,0,none⟩)] [.pointer (some ⟨nb bs jx,0,none⟩),.int .i64 ix] hst ho hb rfl hs rfl rfl rfl fun κ' s _ hb'=>?_
 refine hk κ' (s.mono (fun g hg=>?_)) (h.set hi hj s hb')
 rw [List.mem_singleton.1 hg]
 exact List.mem_append_right _ (List.mem_of_getElem? (zj4 hi.2))
end
section
variable {P:Program} {α:Type} {t:Ty α} {κ:K} {e T T2:TypeId} {a a2:Option Addr} {cp c2:Nat} {l l2 r:List α} {τ:Tag}
theorem zpq {b off n:Nat} {ys:List Value} {len cap:Nat} (h:zh4 κ b off ys) (hn:n*t.size≤ys.length) [Fb] (C:Cx) (d:Nat) :
  (Builtin.firstCells t.size n (.slice (some ⟨b,off,none⟩) len cap)).run P (W C κ d)=.ok (ys.take (n*t.size)).toArray (W C κ d):=by
 refine run_firstCells_some _ t.size n ⟨b,off,none⟩ len cap (ys.take (n*t.size)) (by rw [List.length_take];omega) (fun j v hj=>?_)
 rw [ze4]
 rw [zi7]
 refine h j v ?_
 rw [List.getElem?_take] at hj
 split at hj
 ·exact hj
 ·cases hj
theorem znX {src:Option Addr} {len cap:Nat} [Fb] (C:Cx) (d:Nat):(Builtin.firstCells t.size 0 (.slice src len cap)).run P (W C κ d)=.ok #[] (W C κ d):=by
 cases src<;>simp [Builtin.firstCells,loadCells,loadCellsFrom]
theorem zrU {ty:TypeId} (hT:zP P T=some e) (hs:zac P e=some t.size) (hg:Gr t false τ κ e a cp l) (h2:Sl t κ a2 c2 l2) [Fb] (C:Cx) (d:Nat) :
  ∃ κ',(Builtin.copy_ #[T,T2] ty #[.slice a l.length cp,.slice a2 l2.length c2]).run P (W C κ d)=.ok (.int .i64 (min l2.length l.length:Nat)) (W C κ' d)∧Step (blk a cp) κ κ'∧Gr t false τ κ' e a cp (cpy l 0 l2):=by
 obtain ⟨ys,hys,hp⟩:=Rep.of_sl h2
 have key:∀ (g:Nat),(0<l.length→a=some ⟨g,0,none⟩)→∃ κ',(Builtin.copy_ #[T,T2] ty #[.slice a l.length cp,.slice a2 l2.length c2]).run P (W C κ d)=.ok (.int .i64 (min l2.length l.length:Nat)) (W C κ' d)∧Step (blk a cp) κ κ'∧Gr t false τ κ' e a cp (cpy l 0 l2):=by
  intro g ha
  have:=zlK (P:=P) (T:=T) (T2:=T2) (ty:=ty) (dcap:=cp) (lo:=0) (da:=a) hT hs hg ha (Nat.zero_le _) (.slice a2 l2.length c2) ys hys (fun h=>by rw [ha h];simp) C d (fun w=>rfl) (fun n hn=>by
   by_cases h0:l2.length=0
   ·have:n=0:=by omega
    subst this
    rw [znX];simp
   ·obtain ⟨b,off,e2,hpub⟩:=hp (by omega)
    rw [e2]
    exact zpq hpub.2.2 (by rw [hys.length];exact Nat.mul_le_mul_right _ hn) C d)
  simpa using this
 rcases hg.body with ⟨_,hl⟩ | ⟨g,cur,xs,ha,_⟩
 ·exact key 0 (fun h=>by rw [hl] at h;simp at h)
 ·exact key g (fun _=>ha)
theorem zsQ {hi:Int} (hT:zP P T=some e) (hs:zac P e=some t.size) (hcap:l.length≤cp) (hx:zaL l 0 hi=some r) (w:World) :
  (Instr.sliceAt T (.slice a l.length cp) none (zdy (some hi)) none).run P w=.ok (.slice a r.length cp) w:=by
 have:=zgI (P:=P) (T:=T) (a:=a) (lo:=none) (hi:=some hi) hT hs hcap hx w
 have e1:((Option.getD none 0:Int).toNat)=0:=rfl
 rw [e1,Nat.zero_mul,Nat.sub_zero] at this
 have e2:(if cp=0 then a else a.map (·.add 0))=a:=by
  split
  ·rfl
  ·cases a<;>simp [Addr.add]
 rw [e2] at this;exact this
theorem zrT {ty:TypeId} {lo hi:Int} {q p:List α} (hT:zP P T=some e) (hs:zac P e=some t.size) (hg:Gr t false τ κ e a cp l) (hq:zaL l lo l.length=some q) (hp:zaL l 0 hi=some p) [Fb] (C:Cx) (d:Nat) :
  ∃ κ',(Builtin.copy_ #[T,T2] ty #[.slice (if cp=lo.toNat then a else a.map (·.add (lo.toNat*t.size))) q.length (cp - lo.toNat),.slice a p.length cp]).run P (W C κ d)=.ok (.int .i64 (min p.length (l.length - lo.toNat):Nat)) (W C κ' d)∧
   Step (blk a cp) κ κ'∧Gr t false τ κ' e a cp (cpy l lo.toNat p):=by
 obtain ⟨h0,h1,h2,rfl⟩:=zeo hq
 obtain ⟨h3,h4,h5,rfl⟩:=zeo hp
 have hql:(List.drop lo.toNat (List.take (l.length:Int).toNat l)).length=l.length - lo.toNat:=by simp
 rw [hql]
 have hpe:List.drop (0:Int).toNat (List.take hi.toNat l)=l.take hi.toNat:=by simp
 rw [hpe]
 have hcap:=hg.cap
 rcases hg.body with ⟨hc0,hl⟩ | ⟨g,cur,xs,ha,hr,hH,h6,h7,h8,h9,_⟩
 ·have hys:Rep t κ [] (l.take hi.toNat):=by rw [hl];simp;rfl
  have:=zlK (P:=P) (T:=T) (T2:=T2) (ty:=ty) (dcap:=cp - lo.toNat) (lo:=lo.toNat) (g:=0) (da:=if cp=lo.toNat then a else a.map (·.add (lo.toNat*t.size))) hT hs hg (fun h=>by rw [hl] at h;simp at h) (by omega) (.slice a (l.take hi.toNat).length cp) [] hys (fun h=>by rw [hl] at h;simp at h) C d (fun w=>rfl) (fun n hn=>by
   have:n=0:=by rw [hl] at hn;simpa using hn
   subst this
   rw [znX];simp)
  exact this
 ·have hys:=hr.take hi.toNat
  have:=zlK (P:=P) (T:=T) (T2:=T2) (ty:=ty) (dcap:=cp - lo.toNat) (lo:=lo.toNat) (g:=g) (da:=if cp=lo.toNat then a else a.map (·.add (lo.toNat*t.size))) hT hs hg (fun _=>ha) (by omega) (.slice a (l.take hi.toNat).length cp) _ hys (fun h=>by
   rw [if_neg (by omega),ha];simp [ze4]) C d (fun w=>rfl) (fun n hn=>by
   rw [ha]
   refine zpq (fun j v hj=>?_) (by rw [hys.length];exact Nat.mul_le_mul_right _ hn) C d
   rw [List.getElem?_take] at hj
   split at hj
   ·rw [←h9,List.getElem?_take] at hj
    split at hj
    ·unfold K.cell;rw [hH];simpa using hj
    ·cases hj
   ·cases hj)
  exact this
end
section
variable [Fc] [Fb] {P:Program} {n:Nat} {c:Code} {i k:Nat} {nq:List Nat} {q0:Nat} {M π:List Nat} {Q:za7} {E:Env} {κ:K} {α:Type} {t:Ty α} {e T T2:TypeId} {a a2:Option Addr} {cp c2:Nat} {l l2 p q:List α} {τ:Tag}
theorem zus {d:Nat} {ty:TypeId} (hg:Gr t false τ κ e a cp l) (h2:Sl t κ a2 c2 l2) (hk:∀ κ',Step (blk a cp) κ κ'→Gr t false τ κ' e a cp (cpy l 0 l2)→owp P n c (i+1) Q (upd E d (.int .i64 (min l2.length l.length:Nat))) κ')
  (h:st c i n E (some d)=true:=by kernel_rfl) (ho:execOp (ev E) (zB c i)=vOf (Builtin.copy_ #[T,T2] ty #[.slice a l.length cp,.slice a2 l2.length c2]):=by kernel_rfl)
  (hT:zP P T=some e:=by kernel_rfl) (hs:zac P e=some t.size:=by kernel_rfl):owp P n c i Q E κ:=by
 refine ziO (fun v κ'=>v=.int .i64 (min l2.length l.length:Nat)∧Step (blk a cp) κ κ'∧Gr t false τ κ' e a cp (cpy l 0 l2)) h (fun C d0=>?_) ?_
 ·obtain ⟨κ',hr,h1,h3⟩:=zrU (P:=P) (T:=T) (T2:=T2) (ty:=ty) hT hs hg h2 C d0
  exact ⟨_,κ',d0,by rw [ho];exact zL hr,rfl,h1,h3⟩
 ·rintro v κ' ⟨rfl,h1,h3⟩
  exact hk κ' h1 h3
theorem zun {d:Nat} {ty:TypeId} {lo hi:Int} (hg:Gr t false τ κ e a cp l) (hq:zaL l lo l.length=some q) (hp:zaL l 0 hi=some p) (hrel:zkA q0 M i=Step (blk a cp))
  (hk:∀ κ',Step (blk a cp) κ κ'→Gr t false τ κ' e a cp (cpy l lo.toNat p)→xwp P n c k nq q0 M π Q (upd E d (.int .i64 (min p.length (l.length - lo.toNat):Nat))) κ')
  (h:xsN c nq i E d=true:=by kernel_rfl) (ho:execOp (ev E) (zB c i)=vOf (Builtin.copy_ #[T,T2] ty #[.slice (if cp=lo.toNat then a else a.map (·.add (lo.toNat*t.size))) q.length (cp - lo.toNat),.slice a p.length cp]):=by kernel_rfl)
  (hT:zP P T=some e:=by kernel_rfl) (hs:zac P e=some t.size:=by kernel_rfl):xwp P n c k nq q0 M (i::π) Q E κ:=by
 refine zk0 (fun v κ'=>v=.int .i64 (min p.length (l.length - lo.toNat):Nat)∧Step (blk a cp) κ κ'∧Gr t false τ κ' e a cp (cpy l lo.toNat p)) h (fun v κ' hR=>by rw [hrel];exact hR.2.1) (fun C d0=>?_) ?_
 ·obtain ⟨κ',hr,h1,h3⟩:=zrT (P:=P) (T:=T) (T2:=T2) (ty:=ty) hT hs hg hq hp C d0
  exact ⟨_,κ',d0,by rw [ho];exact zL hr,rfl,h1,h3⟩
 ·rintro v κ' ⟨rfl,h1,h3⟩
  exact hk κ' h1 h3
theorem zsE {F:Env} (h:E=F) (hk:xwp P n c k nq q0 M π Q F κ):xwp P n c k nq q0 M π Q E κ:=by rw [h];exact hk
theorem ztW {lo:Nat} (h:l.length≤maxLen):I64 ((min p.length (l.length - lo):Nat):Int):=by
 rw [zfz] at h;unfold I64;omega
theorem ztj (h:l.length≤maxLen):I64 ((min l2.length l.length:Nat):Int):=by
 rw [zfz] at h;unfold I64;omega
end
theorem zsc {α:Type} {l r:List α} {lo:Nat} {l2:List α} (h:some (cpy l lo l2)=some r) (hlo:lo≤l.length):r.length=l.length:=by
 injection h with h;rw [←h];exact zov hlo
theorem zsx {α:Type} {t:Ty α} {pub:Bool} {τ:Tag} {κ:K} {e:TypeId} {a:Option Addr} {c:Nat} {l r:List α} (h:some l=some r) (hg:Gr t pub τ κ e a c l):Gr t pub τ κ e a c r:=by injection h with h;rw [←h];exact hg
theorem zsM {α:Type} {l r:List α} {lo:Int} (h:zaL l lo l.length=some r):lo.toNat≤l.length:=by
 obtain ⟨h0,h1,_⟩:=zeo h;omega
inductive Er where
 | nil | line (l c:Int) | whole | other
def Er.isNil:Er→Bool
 | .nil=>true
 | _=>false
def ErVg (tl ts gw:Nat) (κ:K) (v:Value):Er→Prop
 | .nil=>v=.nilIface
 | .line l c=>∃ b,v=.iface tl (.pointer (some ⟨b,0,none⟩))∧PubAt κ b 0 [.int .i64 l,.int .i64 c]∧I64 l∧I64 c
 | .whole=>(∃ a,v=.iface ts (.pointer (some a)))∧PubAt κ gw 0 [v]
 | .other=>∃ t b,v=.iface t (.pointer (some ⟨b,0,none⟩))
theorem ErVg.step {tl ts gw:Nat} {M:List Nat} {κ κ':K} {v:Value} {e:Er} (s:Step M κ κ') (h:ErVg tl ts gw κ v e):ErVg tl ts gw κ' v e:=by
 cases e with
 | nil=>exact h
 | line l c=>obtain ⟨b,h1,h2,h3⟩:=h;exact ⟨b,h1,h2.step s,h3⟩
 | whole=>exact ⟨h.1,h.2.step s⟩
 | other=>exact h
structure Globg (tab:List Int) (ts rt gw ge gsy gra gta nv te:Nat) (κ:K):Prop where
 whole:∃ a,PubAt κ gw 0 [.iface ts (.pointer (some a))]
 syn:∃ t p,PubAt κ gsy 0 [.iface t p]
 rng:∃ t p,PubAt κ gra 0 [.iface t p]
 pow:PubAt κ gta 0 (tab.map (Value.int .u64))
 psz:0<tab.length∧∃ e k,κ.shp gta=some (e,tab.length,k)
 ety:PubAt κ ge 0 [.iface rt (.agg #[.pointer (some ⟨nv,te,none⟩)])]
theorem Globg.step {tab:List Int} {ts rt gw ge gsy gra gta nv te:Nat} {M:List Nat} {κ κ':K} (s:Step M κ κ') (h:Globg tab ts rt gw ge gsy gra gta nv te κ):Globg tab ts rt gw ge gsy gra gta nv te κ':=by
 obtain ⟨b,h1⟩:=h.whole
 obtain ⟨t,p,h2⟩:=h.syn
 obtain ⟨t',p',h3⟩:=h.rng
 obtain ⟨h0,e,k,h4⟩:=h.psz
 have hf:0<κ.fr gta:=by have:=h.pow.2.1;rw [List.length_map] at this;omega
 exact ⟨⟨b,h1.step s⟩,⟨t,p,h2.step s⟩,⟨t',p',h3.step s⟩,h.pow.step s,⟨h0,e,k,(s.2.2.2 gta h.pow.1 hf).2.trans h4⟩,h.ety.step s⟩
theorem zsm {tl ts gw:Nat} {κ:K} {v:Value} {e:Er} (h:ErVg tl ts gw κ v e):(v=.nilIface∧e.isNil=true)∨(∃ t a,v=.iface t (.pointer (some a))∧e.isNil=false):=by
 cases e with
 | nil=>exact .inl ⟨h,rfl⟩
 | line l c=>obtain ⟨b,h1,_⟩:=h;exact .inr ⟨_,_,h1,rfl⟩
 | whole=>obtain ⟨⟨b,h1⟩,_⟩:=h;exact .inr ⟨_,b,h1,rfl⟩
 | other=>obtain ⟨t,b,h1⟩:=h;exact .inr ⟨t,_,h1,rfl⟩
theorem Box.pub {τ:Tag} {κ:K} {b:Nat} {cs:List Value} {T:TypeId} (h:Box τ κ b cs T):Step [b] κ (κ.pubB b cs.length)∧PubAt (κ.pubB b cs.length) b 0 cs:=by
 refine ⟨⟨Nat.le_refl _,fun x hx hm=>⟨rfl,by simp [K.pubB] at hm ⊢;simp [hm],rfl⟩,fun x hx=>⟨?_,fun o ho=>rfl⟩,fun x hx _=>⟨rfl,rfl⟩⟩,h.lt,?_,?_⟩
 ·simp only [K.pubB];split
  ·rename_i e;rw [e,h.fr];omega
  ·exact Nat.le_refl _
 ·simp [K.pubB]
 ·intro j v hj
  exact h.at.2 j v hj
section
variable [Fc] [Fb] {P:Program} {n:Nat} {c:Code} {i:Nat} {Q:za7} {E:Env} {κ:K}
theorem zpQ {τ:Tag} {b:Nat} {cs:List Value} {T:TypeId} (h:Box τ κ b cs T) (hk:∀ κ',Step [b] κ κ'→PubAt κ' b 0 cs→owp P n c i Q E κ'):owp P n c i Q E κ:=
 zfy (κ':=κ.pubB b cs.length) rfl (hk _ h.pub.1 h.pub.2)
end
def zmI [Fb] (P:Program) (c:Code) (i:Nat) (E:Env) (κ:K) (v:Value):Prop:=zbB c i E=true∧∀ C d,(execOp (ev E) (zB c i)).run P (W C κ d)=.ok (.value v) (W C κ d)
def ztG [Fb] (P:Program) (c:Code) (i:Nat) (E:Env) (κ κ':K):Prop:=zbB c i E=true∧∀ C d,(execOp (ev E) (zB c i)).run P (W C κ d)=.ok .skip (W C κ' d)
def rdy (c:Code) (l:List Bool):List Nat:=Region.ready .any (opsOf c) l.toArray
def ztU (c:Code) (n d0 d1 d3:Nat):Bool:=
 Nat.beq (opsOf c).size 4&&((zB c 0).dst == some d0)&&((zB c 1).dst == some d1)&&((zB c 2).dst == none)&&((zB c 3).dst == some d3)&&Nat.blt d0 n&&Nat.blt d1 n&&Nat.blt d3 n&&!Nat.beq d0 d1 &&
 (rdy c [false,false,false,false] == [0,1])&&(rdy c [true,false,false,false] == [1,2])&&(rdy c [false,true,false,false] == [0])&&(rdy c [true,true,false,false] == [2])&&(rdy c [true,false,true,false] == [1])&&(rdy c [true,true,true,false] == [3])&&(rdy c [true,true,true,true] == [])
theorem zti [Fc] [Fb] {P:Program} {n:Nat} {c0:Code} {p:List Nat} {Q:za7} {E:Env} {κ κ':K} {d0 d1 d3:Nat} {v0 v1 v3:Value} (h:zbQ (sub c0 p)=some true) (hm:P.follows .mixedOrders=true) (hB:ztU (sub c0 p) n d0 d1 d3=true)
  (h0:zmI P (sub c0 p) 0 E κ v0) (h0':zmI P (sub c0 p) 0 (upd E d1 v1) κ v0)
  (h1:zmI P (sub c0 p) 1 E κ v1) (h1':zmI P (sub c0 p) 1 (upd E d0 v0) κ v1) (h1'':zmI P (sub c0 p) 1 (upd E d0 v0) κ' v1)
  (h2:ztG P (sub c0 p) 2 (upd E d0 v0) κ κ') (h2':ztG P (sub c0 p) 2 (upd (upd E d0 v0) d1 v1) κ κ')
  (h3:zmI P (sub c0 p) 3 (upd (upd E d0 v0) d1 v1) κ' v3) (hk:Q .normal (upd (upd (upd E d0 v0) d1 v1) d3 v3) κ'):cwp P n (sub c0 p) Q E κ:=by
 generalize sub c0 p=s at *
 obtain ⟨id,ops,hs⟩:∃ id ops,s=Code.region id ops true:=by
  cases s<;>simp [zbQ] at h
  subst h
  exact ⟨_,_,rfl⟩
 have hso:opsOf s=ops:=by rw [hs];rfl
 unfold ztU rdy at hB
 simp only [Bool.and_eq_true,beq_iff_eq,Bool.not_eq_true'] at hB
 obtain ⟨⟨⟨⟨⟨⟨⟨⟨⟨⟨⟨⟨⟨⟨⟨q0,q1⟩,q2⟩,q3⟩,q4⟩,q5⟩,q6⟩,q7⟩,q8⟩,r0⟩,r1⟩,r2⟩,r3⟩,r4⟩,r5⟩,r6⟩:=hB
 rw [hso] at q0 r0 r1 r2 r3 r4 r5 r6
 have hsz:ops.size=4:=Nat.eq_of_beq_eq_true q0
 have l0:d0<n:=Nat.le_of_ble_eq_true q5
 have l1:d1<n:=Nat.le_of_ble_eq_true q6
 have l3:d3<n:=Nat.le_of_ble_eq_true q7
 have hne:d0≠d1:=fun e=>by rw [e] at q8;simp at q8
 have hcomm:upd (upd E d1 v1) d0 v0=upd (upd E d0 v0) d1 v1:=zk1 hne.symm
 have val:∀ {i:Nat} {dd:Nat} {v:Value} {E':Env} {κa:K} {f:Nat} {lst:Array Bool} {C:Cx} {d:Nat} {a:Act},zmI P s i E' κa v→i<4→(zB s i).dst=some dd→dd<n→Fits n a E'→
   (∀ a',Fits n a' (upd E' dd v)→wpAnyIn FF 0 P .any ops (zgq n C Q) f (lst.setIfInBounds i true) a' (W C κa d))→wpOpIn FF 0 P ops (zgq n C Q) i (wpAnyIn FF 0 P .any ops (zgq n C Q) f (lst.setIfInBounds i true)) a (W C κa d):=by
  intro i dd v E' κa f lst C d a hv hi hd hlt hf hk
  have hoi:ops[i]?=some (zB s i):=by rw [←hso];exact zei (by rw [hso,hsz];exact hi)
  unfold wpOpIn
  rw [hoi]
  have hw:=zen hf s i
  rw [hso,hv.1] at hw
  simp only [hw,if_true]
  refine zhw (by rw [hf.eval];exact hv.2 C d) ?_
  rw [hd]
  exact hk _ (hf.put hlt v)
 have sto:∀ {E':Env} {f:Nat} {lst:Array Bool} {C:Cx} {d:Nat} {a:Act},ztG P s 2 E' κ κ'→Fits n a E'→
   (wpAnyIn FF 0 P .any ops (zgq n C Q) f (lst.setIfInBounds 2 true) a (W C κ' d))→wpOpIn FF 0 P ops (zgq n C Q) 2 (wpAnyIn FF 0 P .any ops (zgq n C Q) f (lst.setIfInBounds 2 true)) a (W C κ d):=by
  intro E' f lst C d a hv hf hk
  have hoi:ops[2]?=some (zB s 2):=by rw [←hso];exact zei (by rw [hso,hsz];omega)
  unfold wpOpIn
  rw [hoi]
  have hw:=zen hf s 2
  rw [hso,hv.1] at hw
  simp only [hw,if_true]
  refine zmH (by rw [hf.eval];exact hv.2 C d) ?_
  rw [q3]
  exact hk
 intro C d a hf
 rw [hs]
 refine wpIn_region_any hm ?_
 rw [hsz]
 have fin:∀ {d:Nat} {a:Act},Fits n a (upd (upd E d0 v0) d1 v1)→wpAnyIn FF 0 P .any ops (zgq n C Q) 1 #[true,true,true,false] a (W C κ' d):=by
  intro d a hf
  refine ⟨fun hx=>(by rw [r5] at hx;cases hx),fun i hi=>?_⟩
  rw [r5] at hi
  have:i=3:=by simpa using hi
  subst this
  refine val h3 (by omega) q4 l3 hf fun a' hf'=>?_
  exact ⟨r6,_,κ',d,hf',rfl,hk⟩
 have n01:∀ {d:Nat} {a:Act},Fits n a (upd (upd E d0 v0) d1 v1)→wpAnyIn FF 0 P .any ops (zgq n C Q) 2 #[true,true,false,false] a (W C κ d):=by
  intro d a hf
  refine ⟨fun hx=>(by rw [r3] at hx;cases hx),fun i hi=>?_⟩
  rw [r3] at hi
  have:i=2:=by simpa using hi
  subst this
  exact sto h2' hf (fin hf)
 have n0:∀ {d:Nat} {a:Act},Fits n a (upd E d0 v0)→wpAnyIn FF 0 P .any ops (zgq n C Q) 3 #[true,false,false,false] a (W C κ d):=by
  intro d a hf
  refine ⟨fun hx=>(by rw [r1] at hx;cases hx),fun i hi=>?_⟩
  rw [r1] at hi
  have:i=1∨i=2:=by simpa using hi
  rcases this with rfl | rfl
  ·exact val h1' (by omega) q2 l1 hf fun a' hf'=>n01 hf'
  ·refine sto h2 hf ?_
   refine ⟨fun hx=>(by rw [show (#[true,false,false,false]:Array Bool).setIfInBounds 2 true=#[true,false,true,false] from rfl,r4] at hx;cases hx),fun i hi=>?_⟩
   rw [show (#[true,false,false,false]:Array Bool).setIfInBounds 2 true=#[true,false,true,false] from rfl,r4] at hi
   have:i=1:=by simpa using hi
   subst this
   exact val h1'' (by omega) q2 l1 hf fun a' hf'=>fin hf'
 have n1:∀ {d:Nat} {a:Act},Fits n a (upd E d1 v1)→wpAnyIn FF 0 P .any ops (zgq n C Q) 3 #[false,true,false,false] a (W C κ d):=by
  intro d a hf
  refine ⟨fun hx=>(by rw [r2] at hx;cases hx),fun i hi=>?_⟩
  rw [r2] at hi
  have:i=0:=by simpa using hi
  subst this
  exact val h0' (by omega) q1 l0 hf fun a' hf'=>n01 (by rw [hcomm] at hf';exact hf')
 have e4:Array.replicate 4 false=#[false,false,false,false]:=rfl
 show wpAnyIn FF 0 P .any ops (zgq n C Q) 4 (Array.replicate 4 false) a (W C κ (d+1))
 rw [e4]
 refine ⟨fun hx=>(by rw [r0] at hx;cases hx),fun i hi=>?_⟩
 rw [r0] at hi
 have:i=0∨i=1:=by simpa using hi
 rcases this with rfl | rfl
 ·exact val h0 (by omega) q1 l0 hf fun a' hf'=>n0 hf'
 ·exact val h1 (by omega) q2 l1 hf fun a' hf'=>n1 hf'
theorem zuw [Fc] [Fb] {P:Program} {n:Nat} {c0:Code} {p:List Nat} {Q:za7} {E:Env} {κ:K} {τ:Tag} {b gb T T1 U:Nat} {cs vs cs':List Value} (d0 d1 d3:Nat) (v0 v1:Value) (B:Box τ κ b cs U) (hv1:PubAt κ gb 0 [v1])
  (hk:∀ κ',Step [b] κ κ'→Box τ κ' b cs' U→Q .normal (upd (upd (upd E d0 v0) d1 v1) d3 v1) κ')
  (hv:v0.cells=vs.toArray) (hs:zac P T=some vs.length) (hone:znq vs=true) (hlen:Nat.ble (0+vs.length) cs.length=true) (hcs:splice cs 0 vs=cs') (hag:zge P T1=some false)
  (g1:∀ E':Env,E'=E∨E'=upd E d0 v0→zbB (sub c0 p) 1 E'=true∧execOp (ev E') (zB (sub c0 p) 1)=vOf (Instr.loadAt T1 (.pointer (some ⟨gb,0,none⟩))))
  (g2:∀ E':Env,E'=upd E d0 v0∨E'=upd (upd E d0 v0) d1 v1→zbB (sub c0 p) 2 E'=true∧execOp (ev E') (zB (sub c0 p) 2)=uOf (Instr.storeAt T (.pointer (some ⟨b,0,none⟩)) v0))
  (g0:∀ κ':K,zmI P (sub c0 p) 0 E κ' v0∧zmI P (sub c0 p) 0 (upd E d1 v1) κ' v0)
  (g3:∀ κ':K,zmI P (sub c0 p) 3 (upd (upd E d0 v0) d1 v1) κ' v1)
  (h:zbQ (sub c0 p)=some true:=by kernel_rfl) (hm:P.follows .mixedOrders=true:=by kernel_rfl) (hB:ztU (sub c0 p) n d0 d1 d3=true:=by kernel_rfl):cwp P n (sub c0 p) Q E κ:=by
 have st:=zgi (cs':=cs') B
 have run2:∀ C d,(Instr.storeAt T (.pointer (some ⟨b,0,none⟩)) v0).run P (W C κ d)=.ok () (W C (κ.setB b cs' U) d):=fun C d=>by
  rw [←hcs];exact ziL B hv hs hone (Nat.le_of_ble_eq_true hlen)
 have l1:∀ {κ':K} {E':Env},PubAt κ' gb 0 [v1]→(E'=E∨E'=upd E d0 v0)→zmI P (sub c0 p) 1 E' κ' v1:=fun hp he=>
  ⟨(g1 _ he).1,fun C d=>by rw [(g1 _ he).2];exact zL (zfx hag (hp.2.2 0 v1 rfl))⟩
 refine zti (κ':=κ.setB b cs' U) h hm hB (g0 κ).1 (g0 κ).2 (l1 hv1 (.inl rfl)) (l1 hv1 (.inr rfl)) (l1 (hv1.step st) (.inr rfl)) ⟨(g2 _ (.inl rfl)).1,fun C d=>?_⟩ ⟨(g2 _ (.inr rfl)).1,fun C d=>?_⟩ (g3 _) (hk _ st (zgY B))
 ·rw [(g2 _ (.inl rfl)).2];exact zk2 (run2 C d)
 ·rw [(g2 _ (.inr rfl)).2];exact zk2 (run2 C d)
section
variable {α β:Type} {tb:Ty β} {t:Ty α}
def tX (tb:Ty β) (t:Ty α):Ty ((β×List α)×Hd):=
 ⟨tb.size+1,fun κ cs x=>∃ c1,cs=c1++[.slice x.2.1 x.2.2.1 x.2.2.2]∧tb.own κ c1 x.1.1∧x.2.2.1=x.1.2.length∧Sl t κ x.2.1 x.2.2.2 x.1.2,
  fun ⟨c1,h,h1,_⟩=>by rw [h,List.length_append,tb.len h1];rfl,
  fun s ⟨c1,h,h1,h2,h3⟩=>⟨c1,h,tb.step s h1,h2,h3.step s⟩,
  fun ⟨c1,h,h1,_⟩ v hv=>by
   rw [h,List.mem_append] at hv
   rcases hv with hv | hv
   ·exact tb.one h1 v hv
   ·rw [List.mem_singleton.1 hv];rfl⟩
structure GrT (tb:Ty β) (t:Ty α) (S:Nat) (eS:TypeId) (τ:Tag) (κ:K) (e:TypeId) (a:Option Addr) (c:Nat) (L:List (β×List α)) (H:List (Hd×Nat)):Prop where
 len:H.length=L.length
 gr:Gr (tX tb t) true τ κ e a c (L.zip (H.map Prod.fst))
 pw:H.Pairwise (fun x y=>0<x.1.2.1→0<y.1.2.1→x.2≠y.2)
 home:∀ x∈H,0<x.1.2.1→∃ b,x.1.1=some ⟨b,0,none⟩∧b<κ.H.size∧κ.tag b=(x.2,S)∧x.2≤b∧0<κ.fr b∧κ.shp b=some (eS,x.1.2.2*t.size,(0,0))∧x.1.2.2≤maxLen
variable {S:Nat} {eS e:TypeId} {τ:Tag} {κ κ':K} {a:Option Addr} {c:Nat} {L:List (β×List α)} {H:List (Hd×Nat)} {M:List Nat}
theorem GrT.step (s:Step M κ κ') (hm:∀ g∈blk a c,g∉M) (h:GrT tb t S eS τ κ e a c L H):GrT tb t S eS τ κ' e a c L H:=
 ⟨h.len,h.gr.step s hm,h.pw,fun x hx h0=>by
  obtain ⟨b,h1,h2,h3,h4,h5,h6,h8⟩:=h.home x hx h0
  have h7:=s.2.2.2 b h2 h5
  exact ⟨b,h1,Nat.lt_of_lt_of_le h2 s.1,h7.1.trans h3,h4,Nat.lt_of_lt_of_le h5 (s.2.2.1 b h2).1,h7.2.trans h6,h8⟩⟩
theorem GrT.step0 (s:Step [] κ κ') (h:GrT tb t S eS τ κ e a c L H):GrT tb t S eS τ κ' e a c L H:=h.step s (fun _ _=>by simp)
theorem GrT.nil:GrT tb t S eS τ κ e none 0 ([]:List (β×List α)) []:=⟨rfl,Gr.nil,.nil,fun x hx=>by cases hx⟩
theorem GrT.most (h:GrT tb t S eS τ κ e a c L H):L.length≤maxLen:=by
 have:=h.gr.most
 rw [List.length_zip,List.length_map,h.len,Nat.min_self] at this;exact this
theorem GrT.hlt (h:GrT tb t S eS τ κ e a c L H):∀ x∈H,0<x.1.2.1→x.2<κ.H.size:=fun x hx h0=>by
 obtain ⟨b,_,h2,_,h4,_⟩:=h.home x hx h0;omega
theorem GrT.lt (h:GrT tb t S eS τ κ e a c L H):∀ g∈blk a c,g<κ.H.size∧κ.tag g=τ∧τ.1≤g:=h.gr.lt
theorem zrZ:∀ {L:List (β×List α)} {Hs:List Hd} {xs:List Value},Hs.length=L.length→Rep (tX tb t) κ xs (L.zip Hs)→Rep (zhe tb (tSl t)) κ xs L
 | [],[],xs,_,h=>h
 | [],_::_,xs,hl,_=>by simp at hl
 | _::_,[],xs,hl,_=>by simp at hl
 | x::L,hd::Hs,xs,hl,h=>by
  obtain ⟨cs,xs',e,ho,hr⟩:=h
  obtain ⟨c1,h1,h2,h3,h4⟩:=ho
  refine ⟨cs,xs',e,⟨c1,[.slice hd.1 hd.2.1 hd.2.2],h1,h2,hd.1,hd.2.2,?_,h4⟩,zrZ (by simpa using hl) hr⟩
  have h3':hd.2.1=x.2.length:=h3
  rw [h3']
theorem GrT.gr1 (h:GrT tb t S eS τ κ e a c L H):Gr (zhe tb (tSl t)) true τ κ e a c L:=by
 have hl:(L.zip (H.map Prod.fst)).length=L.length:=by rw [List.length_zip,List.length_map,h.len,Nat.min_self]
 refine ⟨h.most,?_⟩
 rcases h.gr.body with ⟨hc,hx⟩ | ⟨g,cur,xs,ha,hr,hH,h1,h2,h3,h4,h5,h6,h7⟩
 ·rw [hx] at hl
  exact .inl ⟨hc,List.eq_nil_of_length_eq_zero (by simpa using hl.symm)⟩
 ·rw [hl] at h1 h4 h5
  exact .inr ⟨g,cur,xs,ha,zrZ (by rw [List.length_map];exact h.len) hr,hH,h1,h2,h3,h4,h5,h6,h7⟩
theorem GrT.sl (h:GrT tb t S eS τ κ e a c L H):Sl (zhe tb (tSl t)) κ a c L:=h.gr1.sl
theorem zto {by_:Nat} {L r:List (β×List α)} {Hs:List Hd} {x:β×List α} {hd:Hd} (h:app by_ L [x]=some r) (hl:Hs.length=L.length) :
  app by_ (L.zip Hs) [(x,hd)]=some (r.zip (Hs++[hd]))∧r=L++[x]:=by
 obtain ⟨h1,h2,rfl⟩:=zjW h
 have hz:(L.zip Hs).length=L.length:=by rw [List.length_zip,hl,Nat.min_self]
 refine ⟨?_,rfl⟩
 unfold app
 rw [if_pos (by rw [hz];exact ⟨h1,h2⟩)]
 congr 1
 rw [List.zip_append hl.symm];rfl
theorem GrT.snoc {N:Nat} {x:β×List α} {hd:Hd} {a':Option Addr} {c':Nat} (h:GrT tb t S eS τ κ e a c L H) (s:Step (blk a c) κ κ') (g:Gr (tX tb t) true τ κ' e a' c' ((L++[x]).zip (H.map Prod.fst++[hd])))
  (G:Gr t true (N,S) κ eS hd.1 hd.2.2 x.2) (hlen:hd.2.1=x.2.length) (hdis:∀ g∈blk hd.1 hd.2.2,g∉blk a c) (hlt:∀ y∈H,0<y.1.2.1→y.2<N) (hs:0<t.size):GrT tb t S eS τ κ' e a' c' (L++[x]) (H++[(hd,N)]):=by
 refine ⟨by simp [h.len],by rw [List.map_append];exact g,?_,?_⟩
 ·rw [List.pairwise_append]
  refine ⟨h.pw,by simp,fun y hy z hz h0 _=>?_⟩
  rw [List.mem_singleton.1 hz]
  have:=hlt y hy h0
  exact Nat.ne_of_lt this
 ·intro y hy h0
  rcases List.mem_append.1 hy with hy | hy
  ·obtain ⟨b,h1,h2,h3,h4,h5,h6,h8⟩:=h.home y hy h0
   have h7:=s.2.2.2 b h2 h5
   exact ⟨b,h1,Nat.lt_of_lt_of_le h2 s.1,h7.1.trans h3,h4,Nat.lt_of_lt_of_le h5 (s.2.2.1 b h2).1,h7.2.trans h6,h8⟩
  ·rw [List.mem_singleton.1 hy] at h0 ⊢
   have h0':0<hd.2.1:=h0
   have G':=G.step s hdis
   rcases G'.body with ⟨_,hx⟩ | ⟨b,cur,xs,ha,hr,hH,h1,h2,h3,h4,h5,h6,h7⟩
   ·rw [hx] at hlen;simp at hlen;omega
   ·refine ⟨b,ha,(Array.getElem?_eq_some_iff.1 hH).1,h6,h7,?_,?_,h2⟩
    ·rw [h5];simp;exact Nat.mul_pos (by omega) hs
    ·unfold K.shp;rw [hH];simp [h3]
def GrE (tb:Ty β) (t:Ty α) (S:Nat) (eS:TypeId) (τ:Tag) (κ:K) (e:TypeId) (a:Option Addr) (c:Nat) (L:List (β×List α)):Prop:=∃ H,GrT tb t S eS τ κ e a c L H
theorem GrE.gr1 (h:GrE tb t S eS τ κ e a c L):Gr (zhe tb (tSl t)) true τ κ e a c L:=h.elim fun _ h=>h.gr1
theorem GrE.nil:GrE tb t S eS τ κ e none 0 ([]:List (β×List α)):=⟨[],GrT.nil⟩
theorem GrE.step (s:Step M κ κ') (hm:∀ g∈blk a c,g∉M) (h:GrE tb t S eS τ κ e a c L):GrE tb t S eS τ κ' e a c L:=h.elim fun _ h=>⟨_,h.step s hm⟩
theorem GrE.step0 (s:Step [] κ κ') (h:GrE tb t S eS τ κ e a c L):GrE tb t S eS τ κ' e a c L:=h.elim fun _ h=>⟨_,h.step0 s⟩
theorem GrE.sl (h:GrE tb t S eS τ κ e a c L):Sl (zhe tb (tSl t)) κ a c L:=h.gr1.sl
theorem GrE.own {κ0:K} (h:GrE tb t S eS τ κ e a c L) (h0:κ0.H.size≤τ.1):∀ b∈blk a c,κ0.H.size≤b:=h.gr1.own h0
theorem GrE.bn {b:Nat} {cs:List Value} {T:TypeId} {τ':Tag} (h:GrE tb t S eS τ κ e a c L) (hb:Box τ' κ b cs T) (hn:τ'≠τ):b∉blk a c:=h.gr1.bn hb hn
theorem GrE.nb {b:Nat} {cs:List Value} {T:TypeId} {τ':Tag} (h:GrE tb t S eS τ κ e a c L) (hb:Box τ' κ b cs T) (hn:τ≠τ'):∀ g∈blk a c,g∉[b]:=h.gr1.nb hb hn
theorem GrE.ng {γ:Type} {t':Ty γ} {pub':Bool} {τ':Tag} {e':TypeId} {a':Option Addr} {c':Nat} {l':List γ} (h:GrE tb t S eS τ κ e a c L) (h':Gr t' pub' τ' κ e' a' c' l') (hn:τ≠τ'):∀ g∈blk a c,g∉blk a' c':=h.gr1.ng h' hn
theorem GrT.own {κ0:K} (h:GrT tb t S eS τ κ e a c L H) (h0:κ0.H.size≤τ.1):∀ b∈blk a c,κ0.H.size≤b:=h.gr1.own h0
theorem GrT.bn {b:Nat} {cs:List Value} {T:TypeId} {τ':Tag} (h:GrT tb t S eS τ κ e a c L H) (hb:Box τ' κ b cs T) (hn:τ'≠τ):b∉blk a c:=h.gr1.bn hb hn
theorem GrT.nb {b:Nat} {cs:List Value} {T:TypeId} {τ':Tag} (h:GrT tb t S eS τ κ e a c L H) (hb:Box τ' κ b cs T) (hn:τ≠τ'):∀ g∈blk a c,g∉[b]:=h.gr1.nb hb hn
theorem GrT.ng {γ:Type} {t':Ty γ} {pub':Bool} {τ':Tag} {e':TypeId} {a':Option Addr} {c':Nat} {l':List γ} (h:GrT tb t S eS τ κ e a c L H) (h':Gr t' pub' τ' κ e' a' c' l') (hn:τ≠τ'):∀ g∈blk a c,g∉blk a' c':=h.gr1.ng h' hn
def Hm (e:TypeId) (c s:Nat) (τ:Tag) (κ:K) (a:Option Addr) (n:Nat):Prop:=0<n→c≤maxLen∧∃ b,a=some ⟨b,0,none⟩∧b<κ.H.size∧κ.tag b=τ∧0<κ.fr b∧κ.shp b=some (e,c*s,(0,0))
theorem Hm.step {s n:Nat} (st:Step M κ κ') (h:Hm e c s τ κ a n):Hm e c s τ κ' a n:=fun h0=>by
 obtain ⟨h8,b,h1,h2,h3,h5,h6⟩:=h h0
 have h7:=st.2.2.2 b h2 h5
 exact ⟨h8,b,h1,Nat.lt_of_lt_of_le h2 st.1,h7.1.trans h3,Nat.lt_of_lt_of_le h5 (st.2.2.1 b h2).1,h7.2.trans h6⟩
theorem Hm.nil {s:Nat}:Hm e c s τ κ a 0:=fun h=>absurd h (Nat.lt_irrefl 0)
theorem Gr.hm {l:List α} (h:Gr t true τ κ e a c l) (hs:0<t.size):Hm e c t.size τ κ a l.length:=fun h0=>by
 rcases h.body with ⟨_,hx⟩ | ⟨b,cur,xs,ha,hr,hH,h1,h2,h3,h4,h5,h6,h7⟩
 ·rw [hx] at h0;cases h0
 ·refine ⟨h2,b,ha,(Array.getElem?_eq_some_iff.1 hH).1,h6,?_,?_⟩
  ·rw [h5];simp;exact Nat.mul_pos h0 hs
  ·unfold K.shp;rw [hH];simp [h3]
def SlO (t:Ty α) (e:TypeId) (τ:Tag) (κ:K) (a:Option Addr) (c:Nat) (l:List α):Prop:=Sl t κ a c l∧Hm e c t.size τ κ a l.length
theorem SlO.step {l:List α} (s:Step M κ κ') (h:SlO t e τ κ a c l):SlO t e τ κ' a c l:=⟨h.1.step s,h.2.step s⟩
theorem SlO.nil:SlO t e τ κ none 0 ([]:List α):=⟨Sl.nil _ _,Hm.nil⟩
theorem SlO.sl {l:List α} (h:SlO t e τ κ a c l):Sl t κ a c l:=h.1
theorem Gr.slO {l:List α} (h:Gr t true τ κ e a c l) (hs:0<t.size):SlO t e τ κ a c l:=⟨h.sl,h.hm hs⟩
def SlE (t:Ty α) (e:TypeId) (S:Nat) (κ:K) (a:Option Addr) (c:Nat) (l:List α):Prop:=∃ N,SlO t e (N,S) κ a c l
theorem SlE.step {S:Nat} {l:List α} (s:Step M κ κ') (h:SlE t e S κ a c l):SlE t e S κ' a c l:=h.elim fun _ h=>⟨_,h.step s⟩
def TlO (tb:Ty β) (t:Ty α) (S:Nat) (eS e:TypeId) (τ:Tag) (κ:K) (a:Option Addr) (c:Nat) (L:List (β×List α)):Prop:=
 ∃ H:List (Hd×Nat),H.length=L.length∧Sl (tX tb t) κ a c (L.zip (H.map Prod.fst))∧Hm e c (tX tb t).size τ κ a L.length∧H.Pairwise (fun x y=>0<x.1.2.1→0<y.1.2.1→x.2≠y.2)∧∀ x∈H,Hm eS x.1.2.2 t.size (x.2,S) κ x.1.1 x.1.2.1
theorem TlO.step (s:Step M κ κ') (h:TlO tb t S eS e τ κ a c L):TlO tb t S eS e τ κ' a c L:=by
 obtain ⟨H,h1,h2,h3,h4,h5⟩:=h
 exact ⟨H,h1,h2.step s,h3.step s,h4,fun x hx=>(h5 x hx).step s⟩
theorem zt6 {c:Nat} {L:List (β×List α)} {Hs:List Hd} (hl:Hs.length=L.length) (h:Sl (tX tb t) κ a c (L.zip Hs)):Sl (zhe tb (tSl t)) κ a c L:=by
 have hz:(L.zip Hs).length=L.length:=by rw [List.length_zip,hl,Nat.min_self]
 obtain ⟨h1,h2,h3⟩:=h
 rw [hz] at h1 h2 h3
 refine ⟨h1,h2,fun h0=>?_⟩
 obtain ⟨b,o,h4,h5⟩:=h3 h0
 refine ⟨b,o,h4,fun i x hx=>?_⟩
 have hi:i<L.length:=(List.getElem?_eq_some_iff.1 hx).1
 have hi2:i<Hs.length:=hl▸hi
 have hx2:(L.zip Hs)[i]?=some (x,Hs[i]):=by
  rw [List.getElem?_zip_eq_some];exact ⟨hx,List.getElem?_eq_getElem hi2⟩
 obtain ⟨cs,hcs,c1,k1,k2,k3,k4⟩:=h5 i _ hx2
 refine ⟨cs,hcs,?_⟩
 have k3':(Hs[i]).2.1=x.2.length:=k3
 refine ⟨c1,[.slice (Hs[i]).1 (Hs[i]).2.1 (Hs[i]).2.2],k1,k2,(Hs[i]).1,(Hs[i]).2.2,?_,k4⟩
 rw [k3']
theorem TlO.sl (h:TlO tb t S eS e τ κ a c L):Sl (zhe tb (tSl t)) κ a c L:=by
 obtain ⟨H,h1,h2,_⟩:=h
 exact zt6 (by rw [List.length_map];exact h1) h2
theorem TlO.nil:TlO tb t S eS e τ κ none 0 ([]:List (β×List α)):=⟨[],rfl,Sl.nil _ _,Hm.nil,.nil,fun x hx=>by cases hx⟩
theorem GrE.tlO (h:GrE tb t S eS τ κ e a c L):TlO tb t S eS e τ κ a c L:=by
 obtain ⟨H,h⟩:=h
 have hl:(L.zip (H.map Prod.fst)).length=L.length:=by rw [List.length_zip,List.length_map,h.len,Nat.min_self]
 refine ⟨H,h.len,h.gr.sl,?_,h.pw,fun x hx h0=>?_⟩
 ·have:=h.gr.hm (Nat.succ_pos _)
  rw [hl] at this;exact this
 ·obtain ⟨b,h1,h2,h3,_,h5,h6,h8⟩:=h.home x hx h0
  exact ⟨h8,b,h1,h2,h3,h5,h6⟩
end
section
variable [Fc] [Fb] {P:Program} {n:Nat} {c:Code} {i k:Nat} {nq:List Nat} {q0:Nat} {M π:List Nat} {Q:za7} {E:Env} {κ:K} {α β:Type} {tb:Ty β} {t:Ty α} {S:Nat} {eS e T:TypeId} {τ τ2:Tag} {a a2:Option Addr} {cp c2:Nat} {L r:List (β×List α)} {H:List (Hd×Nat)} {x:β×List α} {hd:Hd} {N:Nat}
theorem zuo {d bytes:Nat} (h:xsN c nq i E d=true) (ho:execOp (ev E) (zB c i)=vOf (Builtin.append_ #[T,T] 0 #[.slice a L.length cp,.slice a2 1 c2]))
  (F:GrT tb t S eS τ κ e a cp L H) (lit:Gr (tX tb t) true τ2 κ e a2 c2 [(x,hd)]) (G:Gr t true (N,S) κ eS hd.1 hd.2.2 x.2) (hlen:hd.2.1=x.2.length)
  (hdis:∀ g∈blk hd.1 hd.2.2,g∉blk a cp) (hlt:∀ y∈H,0<y.1.2.1→y.2<N) (hτ:τ.1≤κ.H.size) (hT:zhd P T=some (e,(tX tb t).size,(tX tb t).size,bytes)) (hx:app bytes L [x]=some r) (hrel:zkA q0 M i=Step (blk a cp))
  (hk:∀ a' c' κ',Step (blk a cp) κ κ'→GrT tb t S eS τ κ' e a' c' r (H++[(hd,N)])→(∀ g∈blk a' c',g∈blk a cp∨κ.H.size≤g)→xwp P n c k nq q0 M π Q (upd E d (.slice a' r.length c')) κ') (hs:Nat.blt 0 t.size=true:=by kernel_rfl):xwp P n c k nq q0 M (i::π) Q E κ:=by
 obtain ⟨hz,rfl⟩:=zto (hd:=hd) hx (Hs:=H.map Prod.fst) (by rw [List.length_map];exact F.len)
 have hl:(L.zip (H.map Prod.fst)).length=L.length:=by rw [List.length_zip,List.length_map,F.len,Nat.min_self]
 have hl2:((L++[x]).zip (H.map Prod.fst++[hd])).length=(L++[x]).length:=by simp [F.len]
 refine zgf (d:=d) (T:=T) (e:=e) (t:=tX tb t) (pub:=true) (τ:=τ) (bytes:=bytes) (a:=a) (cp:=cp) (l:=L.zip (H.map Prod.fst)) (a2:=a2) (c2:=c2) (l2:=[(x,hd)]) h (by rw [hl];exact ho) F.gr lit.sl hτ hT hz hrel fun a' c' κ' s g hw=>?_
 have:=hk a' c' κ' s (F.snoc s g G hlen hdis hlt (Nat.le_of_ble_eq_true hs)) hw
 rw [hl2];exact this
end
noncomputable section
def zgn (p0:BS) (y19:LW) (y23:Int):Option (LW):=
 (zaL p0 y23 (p0.length:Int)).bind fun x26=>(app 16 y19 [x26]).bind fun x32=>some x32
def zcZ (sx38:LW×Int×Int) (y40:LW) (y44:Int):Option ((LW×Int×Int) ⊕ (LW×Int)):=
 some (.inl (y40,y44,w64 (sx38.2.2+1)))
def zan (p0:BS) (p1:Int) (sx38:LW×Int×Int):Option ((LW×Int×Int) ⊕ (LW×Int)):=
 if decide (sx38.2.2<(p0.length:Int)) then ((idx p0 sx38.2.2).bind fun x47=>if decide ((x47.toNat:Int)=p1) then ((zaL p0 sx38.2.1 sx38.2.2).bind fun x48=>(app 16 sx38.1 [x48]).bind fun x54=>zcZ sx38 x54 (w64 (sx38.2.2+1))) else (zcZ sx38 sx38.1 sx38.2.1)) else (some (.inr (sx38.1,sx38.2.1)))
def zcE (p0:BS) (p1:Int):Option (LW):=
 (iter (zan p0 p1) ([],0,0)).bind fun x38=>zgn p0 x38.1 x38.2
def zeu (y16:LW):Option (LW):=
 some y16
def zgE (p0:BS):Option (LW):=
 if decide (p0=([]:BS)) then (some ([]:LW)) else ((zcE p0 10).bind fun x10=>(idx x10 (w64 ((x10.length:Int) - 1))).bind fun x20=>if decide (x20=([]:BS)) then ((zaL x10 0 (w64 ((x10.length:Int) - 1))).bind fun x24=>zeu x24) else (zeu x10))
def zeY (p0:Int):Option (Bool):=
 if decide (p0≥48) then (some (decide (p0≤57))) else (some false)
def zbz (p0:Int) (p1:Int) (p2:Int):Option (Bool):=
 if decide (p0≥p1) then (some (decide (p0≤p2))) else (some false)
def zg4 (p0:Int) (y7:BS):Option (BS):=
 if decide (p0=0) then (some ([48]:BS)) else (if decide (p0<0) then ((ziK ([45]:BS) y7).bind fun x10=>some x10) else (some y7))
def ze9 (sx11:BS×Int) (y13:Int):Option ((BS×Int) ⊕ (BS)):=
 (ziK (zgC [IntKind.wrap .u8 (w64 (48+y13))]) sx11.1).bind fun x20=>some (.inl (x20,w64 (Int.tdiv sx11.2 10)))
def zcg  (sx11:BS×Int):Option ((BS×Int) ⊕ (BS)):=
 if !decide (sx11.2=0) then (if decide ((Int.tmod sx11.2 10)<0) then (ze9 sx11 (w64 (0 - (Int.tmod sx11.2 10)))) else (ze9 sx11 (Int.tmod sx11.2 10))) else (some (.inr sx11.1))
def zhk (p0:Int):Option (BS):=
 (iter (zcg) (([]:BS),p0)).bind fun x11=>zg4 p0 x11
def zcM (y10:Int) (y12:Bool):Option (Int×Bool):=
 if y12 then (some (0,false)) else (some (y10,true))
def zbH (p0:BS) (y10:Int):Option (Int×Bool):=
 (zbz y10 (-1000000000) 1000000000).bind fun x14=>if !x14 then (zcM y10 true) else ((zhk y10).bind fun x16=>zcM y10 (!decide (x16=p0)))
def zcN (p0:BS) (y8:Int):Option (Int×Bool):=
 (idx p0 0).bind fun x20=>if decide ((x20.toNat:Int)=45) then (zbH p0 (w64 (0 - y8))) else (zbH p0 y8)
def zbG (sx21:Int×Int) (y22:Int):Option ((Int×Int) ⊕ (Int ⊕ (Int×Bool))):=
 some (.inl (y22,w64 (sx21.2+1)))
def zau (p0:BS) (sx21:Int×Int) (y24:Bool):Option ((Int×Int) ⊕ (Int ⊕ (Int×Bool))):=
 if y24 then (zbG sx21 sx21.1) else ((idx p0 sx21.2).bind fun x25=>(zeY (x25.toNat:Int)).bind fun x26=>if !x26 then (some (.inr (.inr (0,false)))) else ((idx p0 sx21.2).bind fun x28=>zbG sx21 (w64 ((w64 (10*sx21.1))+(w64 (IntKind.wrap .u8 ((x28.toNat:Int) - 48)))))))
def zX (p0:BS) (sx21:Int×Int):Option ((Int×Int) ⊕ (Int ⊕ (Int×Bool))):=
 if decide (sx21.2<(p0.length:Int)) then (if decide (sx21.2=0) then ((idx p0 sx21.2).bind fun x29=>zau p0 sx21 (decide ((x29.toNat:Int)=45))) else (zau p0 sx21 false)) else (some (.inr (.inl sx21.1)))
def zcO (p0:BS) (y3:Bool):Option (Int×Bool):=
 if y3 then (some (0,false)) else ((iter (zX p0) (0,0)).bind fun x21=>match x21 with | .inl z=>zcN p0 z | .inr z=>some z)
def zaH (p0:BS):Option (Int×Bool):=
 if decide ((p0.length:Int)<1) then (zcO p0 true) else (zcO p0 (decide ((p0.length:Int)>11)))
def zg3  : Option (Int):=
 some 0
def ze7 (p0:LG×LT) (p1:BS) (sx11:Int):Option (Int ⊕ (Unit ⊕ Int)):=
 if decide (sx11<(p0.1.length:Int)) then ((idx p0.1 sx11).bind fun x12=>if decide (x12.1=p1) then (some (.inr (.inr (w64 (sx11+1))))) else (some (.inl (w64 (sx11+1))))) else (some (.inr (.inl ())))
def zaz (p0:LG×LT) (p1:BS):Option (Int):=
 (iter (ze7 p0 p1) 0).bind fun x11=>match x11 with | .inl z=>zg3 | .inr z=>some z
def zeX (p0:Int×Int):Option (Bool):=
 (zbz p0.1 (-60) 60).bind fun x6=>if x6 then ((zbz p0.2 (-60) 60).bind fun x8=>some x8) else (some false)
def zcv (x19:Int×Bool) (x27:Int×Bool) (y36:Bool):Option ((Int×Int)×Bool):=
 if y36 then (some ((0,0),false)) else (some ((x19.1,x27.1),true))
def zfT (p0:BS):Option ((Int×Int)×Bool):=
 (zcE p0 44).bind fun x7=>if !decide ((x7.length:Int)=2) then (some ((0,0),false)) else ((idx x7 0).bind fun x15=>(zaH x15).bind fun x19=>(idx x7 1).bind fun x23=>(zaH x23).bind fun x27=>if !x19.2 then (zcv x19 x27 true) else (if !x27.2 then (zcv x19 x27 true) else ((zeX (x19.1,x27.1)).bind fun x42=>zcv x19 x27 (!x42))))
def ze6  : Option (Int):=
 some (-1)
def zdx (p0:LG×LT) (p1:BS) (sx11:Int):Option (Int ⊕ (Unit ⊕ Int)):=
 if decide (sx11<(p0.2.length:Int)) then ((idx p0.2 sx11).bind fun x12=>if decide (x12.1=p1) then (some (.inr (.inr sx11))) else (some (.inl (w64 (sx11+1))))) else (some (.inr (.inl ())))
def zay (p0:LG×LT) (p1:BS):Option (Int):=
 (iter (zdx p0 p1) 0).bind fun x11=>match x11 with | .inl z=>ze6 | .inr z=>some z
def zc0 (p0:Int×Int) (p1:Int×Int):Option (Bool):=
 if decide (p0.2<p1.2) then (some true) else (if decide (p0.2=p1.2) then (some (decide (p0.1<p1.1))) else (some false))
def zev (y14:Int) (y17:Bool):Option (Int):=
 if y17 then (some y14) else (some (-1))
def zgm (p0:LP) (p1:Int×Int) (y14:Int):Option (Int):=
 if decide (y14<(p0.length:Int)) then ((idx p0 y14).bind fun x18=>zev y14 (decide (x18.1.1=p1.1)&&decide (x18.1.2=p1.2))) else (zev y14 false)
def zcY (p0:LP) (p1:Int×Int) (sx24:Int×Int):Option ((Int×Int) ⊕ Int):=
 if decide (sx24.1<sx24.2) then ((idx p0 (w64 (Int.tdiv (w64 (sx24.1+sx24.2)) 2))).bind fun x26=>(zc0 x26.1 p1).bind fun x32=>if x32 then (some (.inl (w64 ((w64 (Int.tdiv (w64 (sx24.1+sx24.2)) 2))+1),sx24.2))) else (some (.inl (sx24.1,w64 (Int.tdiv (w64 (sx24.1+sx24.2)) 2))))) else (some (.inr sx24.1))
def zeV (p0:LP) (p1:Int×Int):Option (Int):=
 (iter (zcY p0 p1) (0,(p0.length:Int))).bind fun x24=>zgm p0 p1 x24
def zd6 (y34:LP):Option ((LP)):=
 some y34
def zd7 (p1:Int×Int) (p2:Int) (y28:Bool) (y29:LP):Option ((LP)):=
 if !y28 then ((app 24 y29 [(p1,p2)]).bind fun x46=>zd6 x46) else (zd6 y29)
def zcX (p0:LP) (sx54:Bool×Int×LP) (y56:Bool) (y57:LP):Option ((Bool×Int×LP) ⊕ (Bool×LP)):=
 (idx p0 sx54.2.1).bind fun x62=>(app 24 y57 [x62]).bind fun x73=>some (.inl (y56,w64 (sx54.2.1+1),x73))
def zcW (p0:LP) (p1:Int×Int) (p2:Int) (sx54:Bool×Int×LP) (y81:Bool):Option ((Bool×Int×LP) ⊕ (Bool×LP)):=
 if y81 then ((app 24 sx54.2.2 [(p1,p2)]).bind fun x88=>zcX p0 sx54 true x88) else (zcX p0 sx54 sx54.1 sx54.2.2)
def zY (p0:LP) (p1:Int×Int) (p2:Int) (sx54:Bool×Int×LP):Option ((Bool×Int×LP) ⊕ (Bool×LP)):=
 if decide (sx54.2.1<(p0.length:Int)) then (if !sx54.1 then ((idx p0 sx54.2.1).bind fun x96=>(zc0 p1 x96.1).bind fun x102=>zcW p0 p1 p2 sx54 x102) else (zcW p0 p1 p2 sx54 false)) else (some (.inr (sx54.1,sx54.2.2)))
def zhY (p0:LP) (p1:Int×Int) (p2:Int):Option ((LP)):=
 (iter (zY p0 p1 p2) (false,0,[])).bind fun x54=>zd7 p1 p2 x54.1 x54.2
def zdl (p0:TS×(LP)×Int) (p1:LW) (y18:Bool):Option (Int×(TS×(LP)×Int)):=
 if y18 then (some (6,p0)) else ((idx p1 2).bind fun x19=>(zaH x19).bind fun x23=>if !x23.2 then (some (6,p0)) else ((idx p1 1).bind fun x27=>(app 24 p0.1.1 [(x27,x23.1)]).bind fun x36=>some (0,((x36,p0.1.2),p0.2))))
def zg1 (p0:TS×(LP)×Int) (p1:LW):Option (Int×(TS×(LP)×Int)):=
 if !decide ((p1.length:Int)=3) then (zdl p0 p1 true) else (zdl p0 p1 (decide ((p0.1.2.length:Int)>0)))
def zfk (p0:TS×(LP)×Int) (x18:BS) (y33:LI):Option (Int×(TS×(LP)×Int)):=
 (app 40 p0.1.2 [(x18,y33)]).bind fun x43=>some (0,((p0.1.1,x43),p0.2))
def zdk (p0:TS×(LP)×Int) (sx51:Int×LI) (x57:Int) (y60:Bool):Option ((Int×LI) ⊕ ((LI) ⊕ (Int×(TS×(LP)×Int)))):=
 if y60 then (some (.inr (.inr (3,p0)))) else ((app 8 sx51.2 [x57]).bind fun x66=>some (.inl (w64 (sx51.1+1),x66)))
def za2 (p0:TS×(LP)×Int) (p1:LW) (sx51:Int×LI):Option ((Int×LI) ⊕ ((LI) ⊕ (Int×(TS×(LP)×Int)))):=
 if decide (sx51.1<6) then ((idx p1 sx51.1).bind fun x53=>(zaz p0.1 x53).bind fun x57=>if decide (x57=0) then ((idx p1 sx51.1).bind fun _=>zdk p0 sx51 x57 (!decide (x53=([45]:BS)))) else (zdk p0 sx51 x57 false)) else (some (.inr (.inl sx51.2)))
def zg0 (p0:TS×(LP)×Int) (p1:LW):Option (Int×(TS×(LP)×Int)):=
 if !decide ((p1.length:Int)=6) then (some (6,p0)) else ((idx p1 1).bind fun x18=>(iter (za2 p0 p1) (2,[])).bind fun x51=>match x51 with | .inl z=>zfk p0 x18 z | .inr z=>some z)
def zdU (p0:TS×(LP)×Int) (p2:BS) (p3:BS):Option (Int×(TS×(LP)×Int)):=
 (zfT p3).bind fun x17=>if !x17.2 then (some (6,p0)) else ((zay p0.1 p2).bind fun x27=>if decide (x27<0) then (some (3,p0)) else ((zeV p0.2.1 x17.1).bind fun x30=>if decide (x30≥0) then (some (7,p0)) else (if decide ((p0.2.1.length:Int)=500) then (some (4,p0)) else ((zhY p0.2.1 x17.1 x27).bind fun x34=>some (0,(p0.1,(x34,p0.2.2)))))))
def zdv (p0:TS×(LP)×Int) (p1:LW) (y25:Bool):Option (Int×(TS×(LP)×Int)):=
 if y25 then (some (6,p0)) else ((idx p1 1).bind fun x26=>(zaH x26).bind fun x30=>if !x30.2 then (some (6,p0)) else (some (0,(p0.1,(p0.2.1,x30.1)))))
def zaa (p0:TS×(LP)×Int) (p1:LW) (p2:Bool):Option (Int×(TS×(LP)×Int)):=
 if p2 then (if !decide ((p1.length:Int)=2) then (zdv p0 p1 true) else ((idx p1 0).bind fun x36=>zdv p0 p1 (!decide (x36=([116,101,109,112,101,114,97,116,117,114,101]:BS))))) else (if decide ((p1.length:Int)=0) then (some (6,p0)) else ((idx p1 0).bind fun x40=>if decide (x40=([103,108,117,101]:BS)) then (if decide ((p0.2.1.length:Int)>0) then (some (6,p0)) else ((zg1 p0 p1).bind fun x44=>some (x44.1,((x44.2.1.1,p0.1.2),p0.2)))) else (if decide (x40=([116,105,108,101]:BS)) then (if decide ((p0.2.1.length:Int)>0) then (some (6,p0)) else ((zg0 p0 p1).bind fun x51=>some (x51.1,((p0.1.1,x51.2.1.2),p0.2)))) else (if decide (x40=([115,101,101,100]:BS)) then (if !decide ((p1.length:Int)=3) then (some (6,p0)) else ((idx p1 1).bind fun x58=>(idx p1 2).bind fun x62=>(zdU p0 x58 x62).bind fun x66=>some (x66.1,(p0.1,(x66.2.2.1,p0.2.2))))) else (some (6,p0))))))
def zgl (y18:LW):Option (LW):=
 some y18
def zcV (sx23:LW×Int×Int) (y25:LW) (y29:Int):Option ((LW×Int×Int) ⊕ (LW)):=
 some (.inl (y25,y29,w64 (sx23.2.2+1)))
def zet (sx23:LW×Int×Int) (y33:LW):Option ((LW×Int×Int) ⊕ (LW)):=
 zcV sx23 y33 (w64 (sx23.2.2+1))
def zam (p0:BS) (sx23:LW×Int×Int) (y32:Bool):Option ((LW×Int×Int) ⊕ (LW)):=
 if y32 then (if decide (sx23.2.2>sx23.2.1) then ((zaL p0 sx23.2.1 sx23.2.2).bind fun x38=>(app 16 sx23.1 [x38]).bind fun x44=>zet sx23 x44) else (zet sx23 sx23.1)) else (zcV sx23 sx23.1 sx23.2.1)
def zal (p0:BS) (sx23:LW×Int×Int):Option ((LW×Int×Int) ⊕ (LW)):=
 if decide (sx23.2.2≤(p0.length:Int)) then (if decide (sx23.2.2=(p0.length:Int)) then (zam p0 sx23 true) else ((idx p0 sx23.2.2).bind fun x50=>zam p0 sx23 (decide ((x50.toNat:Int)=32)))) else (some (.inr sx23.1))
def zgD (p0:BS):Option (LW):=
 (iter (zal p0) ([],0,0)).bind fun x23=>zgl x23
def zd8 (p0:Int):Option (Bool):=
 if decide (p0≥97) then (if decide (p0≤122) then (some true) else (if decide (p0≥65) then (some (decide (p0≤90))) else (some false))) else (if decide (p0≥65) then (some (decide (p0≤90))) else (some false))
def zjw  : Option (Bool):=
 some true
def zc1 (sx5:Int) (y6:Bool):Option (Int ⊕ (Unit ⊕ Bool)):=
 if y6 then (some (.inr (.inr false))) else (some (.inl (w64 (sx5+1))))
def zbg (p0:BS) (sx5:Int):Option (Int ⊕ (Unit ⊕ Bool)):=
 if decide (sx5<(p0.length:Int)) then ((idx p0 sx5).bind fun x7=>(zd8 (x7.toNat:Int)).bind fun x8=>if !x8 then ((idx p0 sx5).bind fun x10=>(zeY (x10.toNat:Int)).bind fun x11=>if !x11 then ((idx p0 sx5).bind fun x13=>zc1 sx5 (!decide ((x13.toNat:Int)=95))) else (zc1 sx5 false)) else (zc1 sx5 false)) else (some (.inr (.inl ())))
def zeb (p0:BS) (y2:Bool):Option (Bool):=
 if y2 then (some false) else ((iter (zbg p0) 1).bind fun x5=>match x5 with | .inl z=>zjw | .inr z=>some z)
def zfv (p0:BS):Option (Bool):=
 if decide ((p0.length:Int)<1) then (zeb p0 true) else (if decide ((p0.length:Int)>12) then (zeb p0 true) else ((idx p0 0).bind fun x14=>(zd8 (x14.toNat:Int)).bind fun x15=>zeb p0 (!x15)))
def zh7  : Option (Bool):=
 some true
def zgF (sx14:Int):Option (Int ⊕ (Unit ⊕ Bool)):=
 some (.inl (w64 (sx14+1)))
def zdG (p0:LG×LT) (x16:BS×LI) (sx31:Int):Option (Int ⊕ (Unit ⊕ (Int ⊕ (Unit ⊕ Bool)))):=
 if decide (sx31<4) then ((idx x16.2 sx31).bind fun x32=>(zbz x32 0 (p0.1.length:Int)).bind fun x36=>if !x36 then (some (.inr (.inr (.inr (.inr false))))) else (some (.inl (w64 (sx31+1))))) else (some (.inr (.inl ())))
def zdI (p0:LG×LT) (sx14:Int) (x16:BS×LI) (y28:Bool):Option (Int ⊕ (Unit ⊕ Bool)):=
 if y28 then (some (.inr (.inr false))) else ((iter (zdG p0 x16) 0).bind fun x31=>match x31 with | .inl z=>zgF sx14 | .inr z=>some z)
def zbU (p0:LG×LT) (sx14:Int):Option (Int ⊕ (Unit ⊕ Bool)):=
 if decide (sx14<(p0.2.length:Int)) then ((idx p0.2 sx14).bind fun x16=>(zfv x16.1).bind fun x38=>if !x38 then (zdI p0 sx14 x16 true) else (if !decide ((x16.2.length:Int)=4) then (zdI p0 sx14 x16 true) else ((zay p0 x16.1).bind fun x40=>zdI p0 sx14 x16 (!decide (x40=sx14))))) else (some (.inr (.inl ())))
def zh8 (p0:LG×LT):Option (Bool):=
 (iter (zbU p0) 0).bind fun x14=>match x14 with | .inl z=>zh7 | .inr z=>some z
def zdH (sx43:Int) (y55:Bool):Option (Int ⊕ (Unit ⊕ Bool)):=
 if y55 then (some (.inr (.inr false))) else (some (.inl (w64 (sx43+1))))
def zbV (p0:LG×LT) (sx43:Int):Option (Int ⊕ (Unit ⊕ Bool)):=
 if decide (sx43<(p0.1.length:Int)) then ((idx p0.1 sx43).bind fun x45=>(zfv x45.1).bind fun x56=>if !x56 then (zdH sx43 true) else ((zbz x45.2 1 4).bind fun x58=>if !x58 then (zdH sx43 true) else ((zaz p0 x45.1).bind fun x60=>zdH sx43 (!decide (x60=(w64 (sx43+1))))))) else (some (.inr (.inl ())))
def zeW (p0:LG×LT) (y7:Bool):Option (Bool):=
 if y7 then (some false) else ((iter (zbV p0) 0).bind fun x43=>match x43 with | .inl z=>zh8 p0 | .inr z=>some z)
def zhy (p0:LG×LT):Option (Bool):=
 if decide ((p0.1.length:Int)>200) then (zeW p0 true) else (if decide ((p0.2.length:Int)<1) then (zeW p0 true) else (zeW p0 (decide ((p0.2.length:Int)>160))))
def zg2  : Option (Bool):=
 some true
def zby (sx7:Int) (y20:Bool):Option (Int ⊕ (Unit ⊕ Bool)):=
 if y20 then (some (.inr (.inr false))) else (some (.inl (w64 (sx7+1))))
def zaU (p0:LP) (sx7:Int):Option (Int ⊕ (Unit ⊕ Bool)):=
 if decide (sx7<(p0.length:Int)) then ((idx p0 sx7).bind fun x9=>(zeX x9.1).bind fun x22=>if !x22 then (zby sx7 true) else ((zbz x9.2 0 159).bind fun x25=>if !x25 then (zby sx7 true) else (if decide (sx7>0) then ((idx p0 (w64 (sx7 - 1))).bind fun x27=>(zc0 x27.1 x9.1).bind fun x33=>zby sx7 (!x33)) else (zby sx7 false)))) else (some (.inr (.inl ())))
def zhi (p0:LP):Option (Bool):=
 if decide ((p0.length:Int)>500) then (some false) else ((iter (zaU p0) 0).bind fun x7=>match x7 with | .inl z=>zg2 | .inr z=>some z)
def zgG (p0:LG×LT) (p1:Int):Option (Bool):=
 (zbz p1 0 (w64 ((p0.2.length:Int) - 1))).bind fun x8=>some x8
def zh6  : Option (Bool):=
 some true
def zbT (p0:LG×LT) (p1:LP) (sx15:Int):Option (Int ⊕ (Unit ⊕ Bool)):=
 if decide (sx15<(p1.length:Int)) then ((idx p1 sx15).bind fun x16=>(zgG p0 x16.2).bind fun x22=>if !x22 then (some (.inr (.inr false))) else (some (.inl (w64 (sx15+1))))) else (some (.inr (.inl ())))
def ziI (p0:LG×LT) (p1:LP):Option (Bool):=
 (zhi p1).bind fun x10=>if !x10 then (some false) else ((iter (zbT p0 p1) 0).bind fun x15=>match x15 with | .inl z=>zh6 | .inr z=>some z)
def zcI (p0:Int):Option (Bool):=
 (zbz p0 1 16).bind fun x2=>some x2
def zd9 (p0:Int) (p1:Int):Option (Int):=
 if decide (p0<p1) then (some p0) else (some p1)
def zea (p0:Int) (p1:Int):Option (Int):=
 if decide (p0>p1) then (some p0) else (some p1)
def zfO (y46:LM):Option (LM):=
 some y46
def zcu (sx51:LM×Int) (y53:LM):Option ((LM×Int) ⊕ (LM)):=
 some (.inl (y53,w64 (sx51.2+1)))
def zfN (sx51:LM×Int) (y72:LI):Option ((LM×Int) ⊕ (LM)):=
 (app 24 sx51.1 [y72]).bind fun x82=>zcu sx51 x82
def zdT (sx88:LI×Int) (y90:LI):Option ((LI×Int) ⊕ (LI)):=
 some (.inl (y90,w64 (sx88.2+1)))
def zcq (p0:Int) (y30:LI) (sx51:LM×Int) (sx88:LI×Int):Option ((LI×Int) ⊕ (LI)):=
 if decide (sx88.2<p0) then ((idx y30 sx88.2).bind fun x95=>if decide (x95=sx51.2) then ((app 8 sx88.1 [sx88.2]).bind fun x103=>zdT sx88 x103) else (zdT sx88 sx88.1)) else (some (.inr sx88.1))
def zcr (p0:Int) (y30:LI) (sx51:LM×Int):Option ((LM×Int) ⊕ (LM)):=
 if decide (sx51.2<p0) then ((idx y30 sx51.2).bind fun x58=>if !decide (x58=sx51.2) then (zcu sx51 sx51.1) else ((iter (zcq p0 y30 sx51) ([],sx51.2)).bind fun x88=>zfN sx51 x88)) else (some (.inr sx51.1))
def zfP (p0:Int) (y30:LI):Option (LM):=
 (iter (zcr p0 y30) ([],0)).bind fun x51=>zfO x51
def zfM (sx109:LI×Int) (y135:LI):Option ((LI×Int) ⊕ (LI)):=
 some (.inl (y135,w64 (sx109.2+1)))
def zdS (sx140:LI×Int) (y142:LI):Option ((LI×Int) ⊕ (LI)):=
 some (.inl (y142,w64 (sx140.2+1)))
def zcp (x117:Int) (x126:Int) (sx140:LI×Int):Option ((LI×Int) ⊕ (LI)):=
 if decide (sx140.2<(sx140.1.length:Int)) then ((idx sx140.1 sx140.2).bind fun x147=>(zea x117 x126).bind fun x150=>if decide (x147=x150) then ((zd9 x117 x126).bind fun x152=>(idx sx140.1 sx140.2).bind fun x155=>(some (sx140.1.set sx140.2.toNat x152)).bind fun x158=>zdS sx140 x158) else (zdS sx140 sx140.1)) else (some (.inr sx140.1))
def zcs (p1:LB) (sx109:LI×Int):Option ((LI×Int) ⊕ (LI)):=
 if decide (sx109.2<(p1.length:Int)) then ((idx p1 sx109.2).bind fun x111=>(idx sx109.1 x111.1).bind fun x117=>(idx p1 sx109.2).bind fun _=>(idx sx109.1 x111.2.1).bind fun x126=>(iter (zcp x117 x126) (sx109.1,0)).bind fun x140=>zfM sx109 x140) else (some (.inr sx109.1))
def zfQ (p0:Int) (p1:LB) (y19:LI):Option (LM):=
 (iter (zcs p1) (y19,0)).bind fun x109=>zfP p0 x109
def zct (p0:Int) (sx161:LI×Int):Option ((LI×Int) ⊕ (LI)):=
 if decide (sx161.2<p0) then ((app 8 sx161.1 [sx161.2]).bind fun x168=>some (.inl (x168,w64 (sx161.2+1)))) else (some (.inr sx161.1))
def zfR (p0:Int) (p1:LB):Option (LM):=
 (iter (zct p0) ([],0)).bind fun x161=>zfQ p0 p1 x161
def zfH (x26:LM) (y59:LB):Option (Int×LB):=
 some ((x26.length:Int),y59)
def zdQ (sx64:LB×Int) (y66:LB):Option ((LB×Int) ⊕ (LB)):=
 some (.inl (y66,w64 (sx64.2+1)))
def zcm (p1:LB) (y43:LI) (sx64:LB×Int):Option ((LB×Int) ⊕ (LB)):=
 if decide (sx64.2<(p1.length:Int)) then ((idx p1 sx64.2).bind fun x71=>(idx y43 x71.1).bind fun x77=>(idx p1 sx64.2).bind fun _=>(idx y43 x71.2.1).bind fun x86=>if !decide (x77=x86) then ((idx p1 sx64.2).bind fun _=>(zd9 x77 x86).bind fun x95=>(zea x77 x86).bind fun x98=>(app 24 sx64.1 [(x95,(x98,x71.2.2))]).bind fun x106=>zdQ sx64 x106) else (zdQ sx64 sx64.1)) else (some (.inr sx64.1))
def zfI (p1:LB) (x26:LM) (y43:LI):Option (Int×LB):=
 (iter (zcm p1 y43) ([],0)).bind fun x64=>zfH x26 x64
def zhV (sx112:LI×Int) (y120:LI):Option ((LI×Int) ⊕ (LI)):=
 some (.inl (y120,w64 (sx112.2+1)))
def zbp (x26:LM) (sx112:LI×Int) (sx125:LI×Int):Option ((LI×Int) ⊕ (LI)):=
 (idx x26 sx112.2).bind fun x127=>if decide (sx125.2<(x127.length:Int)) then ((idx x26 sx112.2).bind fun _=>(idx x127 sx125.2).bind fun x139=>(idx sx125.1 x139).bind fun x143=>(some (sx125.1.set x139.toNat sx112.2)).bind fun x146=>some (.inl (x146,w64 (sx125.2+1)))) else (some (.inr sx125.1))
def zdO (x26:LM) (sx112:LI×Int):Option ((LI×Int) ⊕ (LI)):=
 if decide (sx112.2<(x26.length:Int)) then ((iter (zbp x26 sx112) (sx112.1,0)).bind fun x125=>zhV sx112 x125) else (some (.inr sx112.1))
def zfJ (p0:Int) (p1:LB) (y21:LB):Option (Int×LB):=
 (zfR p0 y21).bind fun x26=>(mkl 8 p0 0).bind fun x36=>(iter (zdO x26) (x36,0)).bind fun x112=>zfI p1 x26 x112
def zdP (sx149:LB×Int) (y151:LB):Option ((LB×Int) ⊕ (LB)):=
 some (.inl (y151,w64 (sx149.2+1)))
def zcn (p1:LB) (p2:Int) (sx149:LB×Int):Option ((LB×Int) ⊕ (LB)):=
 if decide (sx149.2<(p1.length:Int)) then ((idx p1 sx149.2).bind fun x156=>if decide (x156.2.2≥p2) then ((idx p1 sx149.2).bind fun _=>(app 24 sx149.1 [x156]).bind fun x173=>zdP sx149 x173) else (zdP sx149 sx149.1)) else (some (.inr sx149.1))
def zfK (p0:Int) (p1:LB) (p2:Int):Option (Int×LB):=
 (iter (zcn p1 p2) ([],0)).bind fun x149=>zfJ p0 p1 x149
def zaV (y12:Int) (y14:Int):Option ((Int×Int)):=
 some (y12,y14)
def zfS (p0:Int×Int) (p1:Int):Option ((Int×Int)):=
 if decide (p1=0) then (zaV p0.1 (w64 (p0.2+1))) else (if decide (p1=1) then (zaV (w64 (p0.1+1)) p0.2) else (if decide (p1=2) then (zaV p0.1 (w64 (p0.2 - 1))) else (if decide (p1=3) then (zaV (w64 (p0.1 - 1)) p0.2) else (zaV p0.1 p0.2))))
def zes (p0:LP) (p1:Int) (p2:Int):Option (Int):=
 (idx p0 p1).bind fun x7=>(zfS x7.1 p2).bind fun x13=>(zeV p0 x13).bind fun x18=>some x18
def zma (p0:Int):Option (Bool):=
 (zbz p0 0 3).bind fun x2=>some x2
def zh9 (p0:Int):Option (Int):=
 (zma p0).bind fun x3=>if !x3 then (some (-1)) else (some (Int.tmod (w64 (p0+2)) 4))
def zew (p0:LG×LT) (p1:Int):Option (Int):=
 if decide (p1=0) then (some 0) else ((idx p0.1 (w64 (p1 - 1))).bind fun x9=>some x9.2)
def zhj (p0:LG×LT) (p1:Int) (p2:Int) (p3:Int):Option (Int):=
 (idx p0.2 p1).bind fun x11=>(idx x11.2 p2).bind fun x18=>(idx p0.2 p3).bind fun x22=>(zh9 p2).bind fun x29=>(idx x22.2 x29).bind fun x31=>if !decide (x18=x31) then (some 0) else ((zew p0 x18).bind fun x35=>some x35)
def zgk (y24:LB):Option (LB):=
 some y24
def zgj (sx29:LB×Int) (y37:LB):Option ((LB×Int) ⊕ (LB)):=
 some (.inl (y37,w64 (sx29.2+1)))
def zbW (sx42:LB×Int) (y44:LB):Option ((LB×Int) ⊕ (LB)):=
 some (.inl (y44,w64 (sx42.2 - 1)))
def za0 (p0:LG×LT) (p1:LP) (sx29:LB×Int) (sx42:LB×Int):Option ((LB×Int) ⊕ (LB)):=
 if decide (sx42.2≥0) then ((zes p1 sx29.2 sx42.2).bind fun x49=>if decide (x49<0) then (zbW sx42 sx42.1) else ((idx p1 sx29.2).bind fun x53=>(idx p1 x49).bind fun x59=>(zhj p0 x53.2 sx42.2 x59.2).bind fun x65=>if decide (x65>0) then ((app 24 sx42.1 [(sx29.2,(x49,x65))]).bind fun x73=>zbW sx42 x73) else (zbW sx42 sx42.1))) else (some (.inr sx42.1))
def za1 (p0:LG×LT) (p1:LP) (sx29:LB×Int):Option ((LB×Int) ⊕ (LB)):=
 if decide (sx29.2<(p1.length:Int)) then ((iter (za0 p0 p1 sx29) (sx29.1,1)).bind fun x42=>zgj sx29 x42) else (some (.inr sx29.1))
def zeU (p0:LG×LT) (p1:LP):Option (LB):=
 (iter (za1 p0 p1) ([],0)).bind fun x29=>zgk x29
def zjr (p0:Int) (p1:LB) (x34:LI) (y44:LM):Option ((Int×LB×LM×LI)):=
 some (p0,(p1,(y44,x34)))
def zb3 (p1:LB) (sx52:Int×LM):Option ((Int×LM) ⊕ (LM)):=
 if decide (sx52.1<(p1.length:Int)) then ((idx p1 sx52.1).bind fun x54=>(idx p1 sx52.1).bind fun _=>(idx sx52.2 x54.1).bind fun x66=>(app 8 x66 [sx52.1]).bind fun x76=>(some (sx52.2.set x54.1.toNat x76)).bind fun x82=>(idx p1 sx52.1).bind fun _=>(idx p1 sx52.1).bind fun _=>(idx x82 x54.2.1).bind fun x98=>(app 8 x98 [sx52.1]).bind fun x108=>(some (x82.set x54.2.1.toNat x108)).bind fun x114=>some (.inl (w64 (sx52.1+1),x114))) else (some (.inr sx52.2))
def zhW (p0:Int) (p1:LB):Option ((Int×LB×LM×LI)):=
 (mkl 24 p0 ([]:LI)).bind fun x24=>(mkl 8 (p1.length:Int) 0).bind fun x34=>(iter (zb3 p1) (0,x24)).bind fun x52=>zjr p0 p1 x34 x52
def zcT (p0:Int×LB×LM×LI) (p1:Int) (p2:Int):Option (Int×Int×(Int×LB×LM×LI)):=
 (idx p0.2.1 p2).bind fun x18=>if decide (x18.1=p1) then ((idx p0.2.2.2 p2).bind fun x29=>some (w64 (x18.2.2 - x29),x18.2.1,p0)) else ((idx p0.2.2.2 p2).bind fun x32=>some (w64 (x18.2.2+x32),x18.1,p0))
def zd4 (p0:Int×LB×LM×LI) (y59:LI) (y63:LI):Option (LI×(Int×LB×LM×LI)):=
 some (y59,(p0.1,(p0.2.1,(p0.2.2.1,y63))))
def zgT (sx70:LI×LI×Int×LI) (y90:LI) (y94:LI) (y98:LI):Option ((LI×LI×Int×LI) ⊕ (LI×LI)):=
 some (.inl (y90,y94,w64 (sx70.2.2.1+1),y98))
def zbf (sx103:LI×LI×Int×LI) (y111:LI) (y115:LI) (y119:LI):Option ((LI×LI×Int×LI) ⊕ (LI×LI×LI)):=
 some (.inl (y111,y115,w64 (sx103.2.2.1+1),y119))
def zaG (x72:Int) (sx103:LI×LI×Int×LI) (x134:Int×Int×Int) (x140:Int×Int×Int) (x146:Int×Int×(Int×LB×LM×LI)) (y154:Bool):Option ((LI×LI×Int×LI) ⊕ (LI×LI×LI)):=
 if y154 then ((idx sx103.1 x72).bind fun x155=>(idx sx103.1 (w64 ((w64 (x134.1+x140.2.1)) - x72))).bind fun x158=>(some (sx103.1.set (w64 ((w64 (x134.1+x140.2.1)) - x72)).toNat (w64 (x155+1)))).bind fun x161=>(app 8 sx103.2.1 [w64 ((w64 (x134.1+x140.2.1)) - x72)]).bind fun x169=>zbf sx103 x161 x169 x146.2.2.2.2.2) else (zbf sx103 sx103.1 sx103.2.1 x146.2.2.2.2.2)
def zbc (p0:Int×LB×LM×LI) (x72:Int) (sx103:LI×LI×Int×LI):Option ((LI×LI×Int×LI) ⊕ (LI×LI×LI)):=
 (idx p0.2.2.1 x72).bind fun x105=>if decide (sx103.2.2.1<(x105.length:Int)) then ((idx p0.2.2.1 x72).bind fun _=>(idx x105 sx103.2.2.1).bind fun x130=>(idx p0.2.1 x130).bind fun x134=>(idx p0.2.1 x130).bind fun x140=>(zcT (p0.1,(p0.2.1,(p0.2.2.1,sx103.2.2.2))) (w64 ((w64 (x134.1+x140.2.1)) - x72)) x130).bind fun x146=>(idx sx103.1 (w64 ((w64 (x134.1+x140.2.1)) - x72))).bind fun x175=>if decide (x175<0) then (zaG x72 sx103 x134 x140 x146 (decide (x146.1>0))) else (zaG x72 sx103 x134 x140 x146 false)) else (some (.inr (sx103.1,sx103.2.1,sx103.2.2.2)))
def zbd (p0:Int×LB×LM×LI) (sx70:LI×LI×Int×LI):Option ((LI×LI×Int×LI) ⊕ (LI×LI)):=
 if decide (sx70.2.2.1<(sx70.2.1.length:Int)) then ((idx sx70.2.1 sx70.2.2.1).bind fun x72=>(iter (zbc p0 x72) (sx70.1,sx70.2.1,0,sx70.2.2.2)).bind fun x103=>zgT sx70 x103.1 x103.2.1 x103.2.2) else (some (.inr (sx70.1,sx70.2.2.2)))
def zd5 (p0:Int×LB×LM×LI) (p1:Int) (y29:LI):Option (LI×(Int×LB×LM×LI)):=
 (idx y29 p1).bind fun x34=>(some (y29.set p1.toNat 0)).bind fun x37=>(iter (zbd p0) (x37,[p1],0,p0.2.2.2)).bind fun x70=>zd4 p0 x70.1 x70.2
def zbe (p0:Int×LB×LM×LI) (sx178:LI×Int):Option ((LI×Int) ⊕ (LI)):=
 if decide (sx178.2<p0.1) then ((app 8 sx178.1 [(-1)]).bind fun x185=>some (.inl (x185,w64 (sx178.2+1)))) else (some (.inr sx178.1))
def zco (p0:Int×LB×LM×LI) (p1:Int):Option (LI×(Int×LB×LM×LI)):=
 (iter (zbe p0) ([],0)).bind fun x178=>zd5 p0 p1 x178
def zer (p0:Int×LB×LM×LI) (p1:Int) (p2:Int):Option ((Int×LB×LM×LI)):=
 (idx p0.2.1 p2).bind fun x16=>if decide (x16.1=p1) then ((idx p0.2.2.2 p2).bind fun x22=>(idx p0.2.2.2 p2).bind fun x25=>(some (p0.2.2.2.set p2.toNat (w64 (x22+1)))).bind fun x28=>some (p0.1,(p0.2.1,(p0.2.2.1,x28)))) else ((idx p0.2.2.2 p2).bind fun x31=>(idx p0.2.2.2 p2).bind fun x34=>(some (p0.2.2.2.set p2.toNat (w64 (x31 - 1)))).bind fun x37=>some (p0.1,(p0.2.1,(p0.2.2.1,x37))))
def zhg (p0:Int×LB×LM×LI) (y35:LI):Option (Bool×(Int×LB×LM×LI)):=
 some (true,(p0.1,(p0.2.1,(p0.2.2.1,y35))))
def zeL (p0:Int×LB×LM×LI) (sx40:Int×LI) (y52:Int) (y54:Int) (y56:LI):Option ((Int×LI) ⊕ (LI)):=
 (zer (p0.1,(p0.2.1,(p0.2.2.1,y56))) sx40.1 y54).bind fun x61=>some (.inl (y52,x61.2.2.2))
def zbF (sx67:Int×Int×Int×LI) (y75:Int) (y77:Int) (y79:LI):Option ((Int×Int×Int×LI) ⊕ (Int×Int×LI)):=
 some (.inl (y75,y77,w64 (sx67.2.2.1+1),y79))
def zW (p0:Int×LB×LM×LI) (sx40:Int×LI) (sx67:Int×Int×Int×LI) (x69:LI) (x90:Int) (x94:Int×Int×(Int×LB×LM×LI)) (y102:Bool):Option ((Int×Int×Int×LI) ⊕ (Int×Int×LI)):=
 if y102 then ((idx p0.2.2.1 sx40.1).bind fun _=>(idx x69 sx67.2.2.1).bind fun _=>zbF sx67 x94.2.1 x90 x94.2.2.2.2.2) else (zbF sx67 sx67.1 sx67.2.1 x94.2.2.2.2.2)
def zbD (p0:Int×LB×LM×LI) (x16:LI×(Int×LB×LM×LI)) (sx40:Int×LI) (sx67:Int×Int×Int×LI):Option ((Int×Int×Int×LI) ⊕ (Int×Int×LI)):=
 (idx p0.2.2.1 sx40.1).bind fun x69=>if decide (sx67.2.2.1<(x69.length:Int)) then ((idx p0.2.2.1 sx40.1).bind fun _=>(idx x69 sx67.2.2.1).bind fun x90=>(zcT (p0.1,(p0.2.1,(p0.2.2.1,sx67.2.2.2))) sx40.1 x90).bind fun x94=>if decide (x94.1>0) then ((idx x16.1 x94.2.1).bind fun x113=>(idx x16.1 sx40.1).bind fun x117=>if decide (x113=(w64 (x117 - 1))) then (if decide (sx67.1<0) then (zW p0 sx40 sx67 x69 x90 x94 true) else (zW p0 sx40 sx67 x69 x90 x94 (decide (x94.2.1<sx67.1)))) else (zW p0 sx40 sx67 x69 x90 x94 false)) else (zW p0 sx40 sx67 x69 x90 x94 false)) else (some (.inr (sx67.1,sx67.2.1,sx67.2.2.2)))
def zbE (p0:Int×LB×LM×LI) (p2:Int) (x16:LI×(Int×LB×LM×LI)) (sx40:Int×LI):Option ((Int×LI) ⊕ (LI)):=
 if !decide (sx40.1=p2) then ((iter (zbD p0 x16 sx40) ((-1),0,0,sx40.2)).bind fun x67=>zeL p0 sx40 x67.1 x67.2.1 x67.2.2) else (some (.inr sx40.2))
def zcU (p0:Int×LB×LM×LI) (p1:Int) (p2:Int):Option (Bool×(Int×LB×LM×LI)):=
 (zco p0 p2).bind fun x16=>(idx x16.1 p1).bind fun x25=>if decide (x25<0) then (some (false,(p0.1,(p0.2.1,(p0.2.2.1,x16.2.2.2.2))))) else ((iter (zbE p0 p2 x16) (p1,x16.2.2.2.2)).bind fun x40=>zhg p0 x40)
def zgZ (x20:(Int×LB×LM×LI)) (y41:Int) (y43:LI):Option ((Int×LB×LM×LI)×Int):=
 some ((x20.1,(x20.2.1,(x20.2.2.1,y43))),y41)
def zdw (p2:Int) (p3:Int) (x20:(Int×LB×LM×LI)) (sx48:Int×LI):Option ((Int×LI) ⊕ (Int×LI)):=
 (zcU (x20.1,(x20.2.1,(x20.2.2.1,sx48.2))) p2 p3).bind fun x50=>if x50.1 then (some (.inl (w64 (sx48.1+1),x50.2.2.2.2))) else (some (.inr (sx48.1,x50.2.2.2.2)))
def zhh (p0:Int) (p1:LB) (p2:Int) (p3:Int):Option ((Int×LB×LM×LI)×Int):=
 (zhW p0 p1).bind fun x20=>(iter (zdw p2 p3 x20) (0,x20.2.2.2)).bind fun x48=>zgZ x20 x48.1 x48.2
def zeK (p0:Int×LB×LM×LI) (x18:LI×(Int×LB×LM×LI)) (y38:LI):Option (LI×(Int×LB×LM×LI)):=
 some (y38,(p0.1,(p0.2.1,(p0.2.2.1,x18.2.2.2.2))))
def zcK (sx43:LI×Int) (y45:LI):Option ((LI×Int) ⊕ (LI)):=
 some (.inl (y45,w64 (sx43.2+1)))
def zcJ (p0:Int×LB×LM×LI) (x18:LI×(Int×LB×LM×LI)) (sx43:LI×Int):Option ((LI×Int) ⊕ (LI)):=
 if decide (sx43.2<p0.1) then ((idx x18.1 sx43.2).bind fun x50=>if decide (x50≥0) then ((app 8 sx43.1 [sx43.2]).bind fun x59=>zcK sx43 x59) else (zcK sx43 sx43.1)) else (some (.inr sx43.1))
def zeq (p0:Int×LB×LM×LI) (p1:Int):Option (LI×(Int×LB×LM×LI)):=
 (zco p0 p1).bind fun x18=>(iter (zcJ p0 x18) ([],0)).bind fun x43=>zeK p0 x18 x43
def zhX  : Option (Bool):=
 some false
def zdR (p1:LI) (p3:LI) (sx11:Int):Option (Int ⊕ (Unit ⊕ Bool)):=
 if decide (sx11<(p1.length:Int)) then ((idx p1 sx11).bind fun x12=>(idx p3 sx11).bind fun x16=>if !decide (x12=x16) then ((idx p1 sx11).bind fun x20=>(idx p3 sx11).bind fun x24=>some (.inr (.inr (decide (x20<x24))))) else (some (.inl (w64 (sx11+1))))) else (some (.inr (.inl ())))
def zfL (p0:Int) (p1:LI) (p2:Int) (p3:LI):Option (Bool):=
 if !decide (p0=p2) then (some (decide (p0<p2))) else (if !decide ((p1.length:Int)=(p3.length:Int)) then (some (decide ((p1.length:Int)<(p3.length:Int)))) else ((iter (zdR p1 p3) 0).bind fun x11=>match x11 with | .inl z=>zhX | .inr z=>some z))
def zfj (y22:Int) (y24:LI):Option (Int×LI):=
 some (y22,y24)
def zb2 (sx29:Int×LI×Int) (y31:Int) (y33:LI):Option ((Int×LI×Int) ⊕ (Int×LI)):=
 some (.inl (y31,y33,w64 (sx29.2.2+1)))
def zaC (sx29:Int×LI×Int) (x38:(Int×LB×LM×LI)×Int) (x54:LI×(Int×LB×LM×LI)) (y63:Bool):Option ((Int×LI×Int) ⊕ (Int×LI)):=
 if y63 then (zb2 sx29 x38.2 x54.1) else (zb2 sx29 sx29.1 sx29.2.1)
def zdj (p0:Int) (p1:LB) (sx29:Int×LI×Int):Option ((Int×LI×Int) ⊕ (Int×LI)):=
 if decide (sx29.2.2<p0) then ((zhh p0 p1 0 sx29.2.2).bind fun x38=>(zeq x38.1 sx29.2.2).bind fun x54=>if decide (sx29.1<0) then (zaC sx29 x38 x54 true) else ((zfL x38.2 x54.1 sx29.1 sx29.2.1).bind fun x64=>zaC sx29 x38 x54 x64)) else (some (.inr (sx29.1,sx29.2.1)))
def ze5 (p0:Int) (p1:LB):Option (Int×LI):=
 (iter (zdj p0 p1) ((-1),[],1)).bind fun x29=>zfj x29.1 x29.2
def zfG (p0:LG×LT) (p1:LP) (p2:Int):Option (Bool×Int):=
 (zeU p0 p1).bind fun x12=>(zfK (p1.length:Int) x12 p2).bind fun x18=>if decide (x18.1>64) then (some (false,4)) else (if decide (x18.1<2) then (some (true,0)) else ((ze5 x18.1 x18.2).bind fun x25=>some (decide (x25.1≥p2),0)))
def zdF (p0:TS×(LP)×Int) (y11:Bool):Option (Bool):=
 if y11 then (some false) else ((zfG p0.1 p0.2.1 p0.2.2).bind fun x13=>if x13.1 then (some (decide (x13.2=0))) else (some false))
def ziG (p0:TS×(LP)×Int):Option (Bool):=
 (zhy p0.1).bind fun x17=>if !x17 then (zdF p0 true) else ((ziI p0.1 p0.2.1).bind fun x20=>if !x20 then (zdF p0 true) else (if decide ((p0.2.1.length:Int)=0) then (zdF p0 true) else ((zcI p0.2.2).bind fun x23=>zdF p0 (!x23))))
def zdm (y46:LG) (y50:LT) (y54:LP) (y58:Int):Option ((TS×(LP)×Int)×Int×Int):=
 (ziG ((y46,y50),(y54,y58))).bind fun x61=>if !x61 then (some ((([],[]),([],0)),0,1)) else (some (((y46,y50),(y54,y58)),0,0))
def zV (x24:LW) (sx68:Int×LG×LT×LP×Int):Option ((Int×LG×LT×LP×Int) ⊕ ((LG×LT×LP×Int) ⊕ ((TS×(LP)×Int)×Int×Int))):=
 if decide (sx68.1<(x24.length:Int)) then ((idx x24 sx68.1).bind fun x70=>(zgD x70).bind fun x74=>(zaa ((sx68.2.1,sx68.2.2.1),sx68.2.2.2) x74 (decide (sx68.1=0))).bind fun x80=>if !decide (x80.1=0) then (some (.inr (.inr ((([],[]),([],0)),w64 (sx68.1+1),x80.1)))) else (some (.inl (w64 (sx68.1+1),x80.2.1.1,x80.2.1.2,x80.2.2.1,x80.2.2.2)))) else (some (.inr (.inl (sx68.2.1,sx68.2.2.1,sx68.2.2.2.1,sx68.2.2.2.2))))
def ze8 (p0:BS):Option ((TS×(LP)×Int)×Int×Int):=
 if decide ((p0.length:Int)>20000) then (some ((([],[]),([],0)),0,2)) else ((zgE p0).bind fun x24=>(iter (zV x24) (0,[],[],[],0)).bind fun x68=>match x68 with | .inl z=>zdm z.1 z.2.1 z.2.2.1 z.2.2.2 | .inr z=>some z)
def zF:BS→BS→LW
 | [],cur=>if cur=[] then [] else [cur]
 | b::l,cur=>if b=32 then (if cur=[] then zF l [] else cur::zF l []) else zF l (cur++[b])
def zaA (p0:BS):Option LW:=if p0.length≤1048576 then some (zF p0 []) else none
def zep (p0:BS) (p1 p2:Int):Option (Int×Er):=
 if p1=10∧p2=64∧p0.length≤281474976710656 then (match Go.Lib.parseIntB 64 p0 with | .ok v=>some (v,.nil) | .range=>some (Go.Lib.intSat 64 p0,.other) | _=>some (0,.other)) else none
def zbi (p0:Int) (p1:Int) (p2:Int):Option (Bool):=
 if decide (p0≥p1) then (some (decide (p0≤p2))) else (some false)
def zdN (p0 p1:Int):Option BS:=if p1=10 then some (Go.Lib.itoa p0) else none
def ziY (p0:Int):Option (BS):=
 (zdN p0 10).bind fun x3=>some x3
def zbN (x3:Int×Er) (y9:Bool):Option (Int×Bool):=
 if y9 then (some (0,false)) else (some (x3.1,true))
def zap (p0:BS):Option (Int×Bool):=
 (zep p0 10 64).bind fun x3=>if !x3.2.isNil then (zbN x3 true) else ((zbi x3.1 (-1000000000) 1000000000).bind fun x11=>if !x11 then (zbN x3 true) else ((ziY x3.1).bind fun x13=>zbN x3 (!decide (x13=p0))))
def zfE (p0 p1:BS):Option Int:=match p1 with | [c]=>some (Go.Lib.indexByte p0 c) | _=>none
def zcG (p0:BS) (p1:BS):Option (BS×BS×Bool):=
 (zfE p0 p1).bind fun x5=>if decide (x5≥0) then ((zaL p0 0 x5).bind fun x8=>(zaL p0 (w64 (x5+(p1.length:Int))) (p0.length:Int)).bind fun x9=>some (x8,x9,true)) else (some (p0,([]:BS),false))
def zjo (p0:BS) (p1:BS):Option (BS×BS×Bool):=
 (zcG p0 p1).bind fun x5=>some (x5.1,x5.2.1,x5.2.2)
def zdA (p0:Int×Int):Option (Bool):=
 (zbi p0.1 (-60) 60).bind fun x6=>if x6 then ((zbi p0.2 (-60) 60).bind fun x8=>some x8) else (some false)
def zbx (x11:Int×Bool) (x15:Int×Bool) (y24:Bool):Option ((Int×Int)×Bool):=
 if y24 then (some ((0,0),false)) else (some ((x11.1,x15.1),true))
def zga (p0:BS):Option ((Int×Int)×Bool):=
 (zjo p0 ([44]:BS)).bind fun x7=>(zap x7.1).bind fun x11=>(zap x7.2.1).bind fun x15=>if !x11.2 then (zbx x11 x15 true) else (if !x15.2 then (zbx x11 x15 true) else ((zdA (x11.1,x15.1)).bind fun x30=>zbx x11 x15 (!x30)))
def zc5  : Option (Int):=
 some (-1)
def zc4 (p0:LT) (p1:(BS×LI)→Option Bool) (sx12:Int):Option (Int ⊕ (Unit ⊕ Int)):=
 if decide (sx12<(p0.length:Int)) then ((idx p0 sx12).bind fun x14=>(p1 x14).bind fun x21=>if x21 then (some (.inr (.inr sx12))) else (some (.inl (w64 (sx12+1))))) else (some (.inr (.inl ())))
def zed (p0:LT) (p1:(BS×LI)→Option Bool):Option (Int):=
 (iter (zc4 p0 p1) 0).bind fun x12=>match x12 with | .inl z=>zc5 | .inr z=>some z
def zcf (p0:BS×LI) (p1:BS):Option (Bool):=
 some (decide (p0.1=p1))
def zaQ (p0:LG×LT) (p1:BS):Option (Int):=
 (zed p0.2 (fun q0=>zcf q0 p1)).bind fun x19=>some x19
def zbs  : Option (Int):=
 some (-1)
def zbr (p0:LP) (p1:((Int×Int)×Int)→Option Bool) (sx11:Int):Option (Int ⊕ (Unit ⊕ Int)):=
 if decide (sx11<(p0.length:Int)) then ((idx p0 sx11).bind fun x13=>(p1 x13).bind fun x19=>if x19 then (some (.inr (.inr sx11))) else (some (.inl (w64 (sx11+1))))) else (some (.inr (.inl ())))
def zcz (p0:LP) (p1:((Int×Int)×Int)→Option Bool):Option (Int):=
 (iter (zbr p0 p1) 0).bind fun x11=>match x11 with | .inl z=>zbs | .inr z=>some z
def zag (p0:LP) (p1:((Int×Int)×Int)→Option Bool):Option (Bool):=
 (zcz p0 p1).bind fun x7=>some (decide (x7≥0))
def zaf (p0:(Int×Int)×Int) (p1:Int×Int):Option (Bool):=
 some (decide (p0.1.1=p1.1)&&decide (p0.1.2=p1.2))
def zc7  : Option (Int):=
 some (-1)
def zc6 (p0:LG) (p1:(BS×Int)→Option Bool) (sx10:Int):Option (Int ⊕ (Unit ⊕ Int)):=
 if decide (sx10<(p0.length:Int)) then ((idx p0 sx10).bind fun x12=>(p1 x12).bind fun x17=>if x17 then (some (.inr (.inr sx10))) else (some (.inl (w64 (sx10+1))))) else (some (.inr (.inl ())))
def zee (p0:LG) (p1:(BS×Int)→Option Bool):Option (Int):=
 (iter (zc6 p0 p1) 0).bind fun x10=>match x10 with | .inl z=>zc7 | .inr z=>some z
def zaY (p0:BS×Int) (p1:BS):Option (Bool):=
 some (decide (p0.1=p1))
def zbS (p0:LG×LT) (p1:BS):Option (Int):=
 (zee p0.1 (fun q0=>zaY q0 p1)).bind fun x17=>some (w64 (x17+1))
def zbR (p0:Bool×(TS×(LP)×Int)×(TS)×(BS×(TS×LP))) (p1:BS):Option (Int×(Bool×(TS×(LP)×Int)×(TS)×(BS×(TS×LP)))):=
 (zaA p1).bind fun x32=>if !decide ((x32.length:Int)=2) then (some (6,p0)) else ((idx x32 1).bind fun x38=>(zga x38).bind fun x42=>(idx x32 0).bind fun x52=>(zaQ p0.2.2.2.2.1 x52).bind fun x56=>if !x42.2 then (some (6,p0)) else (if decide (x56<0) then (some (3,p0)) else ((zag p0.2.2.2.2.2 (fun q0=>zaf q0 x42.1)).bind fun x63=>if x63 then (some (7,p0)) else (if decide ((p0.2.2.2.2.2.length:Int)≥500) then (some (4,p0)) else ((app 24 p0.2.2.2.2.2 [(x42.1,x56)]).bind fun x71=>some (0,(p0.1,(p0.2.1,(p0.2.2.1,(p0.2.2.2.1,(p0.2.2.2.2.1,x71)))))))))))
def zad (p0:Bool×(TS×(LP)×Int)×(TS)×(BS×(TS×LP))) (x32:LW) (y38:Bool):Option (Int×(Bool×(TS×(LP)×Int)×(TS)×(BS×(TS×LP)))):=
 if y38 then (some (6,p0)) else ((idx x32 1).bind fun x39=>(ziK x39 ([32]:BS)).bind fun x43=>(idx x32 2).bind fun x44=>(ziK x43 x44).bind fun x48=>(zbR p0 x48).bind fun x49=>some (x49.1,(p0.1,(p0.2.1,(p0.2.2.1,(p0.2.2.2.1,(p0.2.2.2.2.1,x49.2.2.2.2.2.2)))))))
def zas (p0:Bool×(TS×(LP)×Int)×(TS)×(BS×(TS×LP))) (p1:BS):Option (Int×(Bool×(TS×(LP)×Int)×(TS)×(BS×(TS×LP)))):=
 (zaA p1).bind fun x32=>if !decide ((x32.length:Int)=3) then (zad p0 x32 true) else ((idx x32 0).bind fun x56=>zad p0 x32 (!decide (x56=p0.2.2.2.1)))
def zce (p0:Bool×(TS×(LP)×Int)×(TS)×(BS×(TS×LP))) (x68:BS) (y87:LI):Option (Int×(Bool×(TS×(LP)×Int)×(TS)×(BS×(TS×LP)))):=
 (app 40 p0.2.2.1.2 [(x68,y87)]).bind fun x97=>some (0,(p0.1,(p0.2.1,((p0.2.2.1.1,x97),p0.2.2.2))))
def zaX (sx105:Int×LI) (y111:Int):Option ((Int×LI) ⊕ ((LI) ⊕ (Int×(Bool×(TS×(LP)×Int)×(TS)×(BS×(TS×LP)))))):=
 (app 8 sx105.2 [y111]).bind fun x119=>some (.inl (w64 (sx105.1+1),x119))
def z7 (p0:Bool×(TS×(LP)×Int)×(TS)×(BS×(TS×LP))) (x77:LW) (sx105:Int×LI):Option ((Int×LI) ⊕ ((LI) ⊕ (Int×(Bool×(TS×(LP)×Int)×(TS)×(BS×(TS×LP)))))):=
 if decide (sx105.1<(x77.length:Int)) then ((idx x77 sx105.1).bind fun x107=>if !decide (x107=([45]:BS)) then ((zbS p0.2.2.1 x107).bind fun x127=>if decide (x127=0) then (some (.inr (.inr (3,p0)))) else (zaX sx105 x127)) else (zaX sx105 0)) else (some (.inr (.inl sx105.2)))
def zar (p0:Bool×(TS×(LP)×Int)×(TS)×(BS×(TS×LP))) (x35:LW) (y67:Bool):Option (Int×(Bool×(TS×(LP)×Int)×(TS)×(BS×(TS×LP)))):=
 if y67 then (some (6,p0)) else ((idx x35 1).bind fun x68=>(zaL x35 2 (x35.length:Int)).bind fun x77=>(iter (z7 p0 x77) (0,[])).bind fun x105=>match x105 with | .inl z=>zce p0 x68 z | .inr z=>some z)
def zE (p0:Bool×(TS×(LP)×Int)×(TS)×(BS×(TS×LP))) (x35:LW) (y41:Bool):Option (Int×(Bool×(TS×(LP)×Int)×(TS)×(BS×(TS×LP)))):=
 if y41 then ((idx x35 2).bind fun x42=>(zap x42).bind fun x46=>if !x46.2 then (some (6,p0)) else ((idx x35 1).bind fun x50=>(app 24 p0.2.2.1.1 [(x50,x46.1)]).bind fun x59=>some (0,(p0.1,(p0.2.1,((x59,p0.2.2.1.2),p0.2.2.2)))))) else (if !decide ((x35.length:Int)=6) then (zar p0 x35 true) else ((idx x35 0).bind fun x131=>zar p0 x35 (!decide (x131=([116,105,108,101]:BS)))))
def zaP (p0:Bool×(TS×(LP)×Int)×(TS)×(BS×(TS×LP))) (p1:BS):Option (Int×(Bool×(TS×(LP)×Int)×(TS)×(BS×(TS×LP)))):=
 (zaA p1).bind fun x35=>if decide ((x35.length:Int)=3) then ((idx x35 0).bind fun x135=>if decide (x135=([103,108,117,101]:BS)) then (zE p0 x35 (decide ((p0.2.2.1.2.length:Int)=0))) else (zE p0 x35 false)) else (zE p0 x35 false)
def zaq (p0:Bool×(TS×(LP)×Int)×(TS)×(BS×(TS×LP))) (x46:LW) (y52:Bool):Option (Int×(Bool×(TS×(LP)×Int)×(TS)×(BS×(TS×LP)))):=
 if y52 then (some (6,p0)) else ((idx x46 1).bind fun x53=>(zap x53).bind fun x57=>if !x57.2 then (some (6,p0)) else (some (0,(true,((p0.2.1.1,(p0.2.1.2.1,x57.1)),p0.2.2)))))
def z6 (p0:Bool×(TS×(LP)×Int)×(TS)×(BS×(TS×LP))) (p1:BS) (y69:Bool):Option (Int×(Bool×(TS×(LP)×Int)×(TS)×(BS×(TS×LP)))):=
 if y69 then ((zas (p0.1,(p0.2.1,(p0.2.2.1,(([115,101,101,100]:BS),(p0.2.2.1,p0.2.2.2.2.2))))) p1).bind fun x74=>some (x74.1,(p0.1,(p0.2.1,(p0.2.2.1,(([115,101,101,100]:BS),(p0.2.2.1,x74.2.2.2.2.2.2))))))) else (if decide ((p0.2.2.2.2.2.length:Int)>0) then (some (6,p0)) else ((zaP p0 p1).bind fun x81=>some (x81.1,(p0.1,(p0.2.1,(x81.2.2.2.1,p0.2.2.2))))))
def zA (p0:Bool×(TS×(LP)×Int)×(TS)×(BS×(TS×LP))) (p1:BS):Option (Int×(Bool×(TS×(LP)×Int)×(TS)×(BS×(TS×LP)))):=
 (zaA p1).bind fun x46=>if !p0.1 then (if !decide ((x46.length:Int)=2) then (zaq p0 x46 true) else ((idx x46 0).bind fun x65=>zaq p0 x46 (!decide (x65=([116,101,109,112,101,114,97,116,117,114,101]:BS))))) else (if decide ((x46.length:Int)>0) then ((idx x46 0).bind fun x91=>z6 p0 p1 (decide (x91=([115,101,101,100]:BS)))) else (z6 p0 p1 false))
def zb4 (y8:LP) (y12:Bool):Option (LP):=
 if y12 then (some ([]:LP)) else ((app 24 ([]:LP) y8).bind fun x18=>some x18)
def zfa (p0:LP):Option (LP):=
 zb4 p0 false
def zii  : Option (Int):=
 some 0
def zak (p0:LI) (sx7:Int):Option (Int ⊕ (Unit ⊕ Int)):=
 if decide (sx7<(p0.length:Int)) then ((idx p0 sx7).bind fun x8=>if !decide (x8=0) then (some (.inr (.inr x8))) else (some (.inl (w64 (sx7+1))))) else (some (.inr (.inl ())))
def zi6 (p0:LI):Option (Int):=
 (iter (zak p0) 0).bind fun x7=>match x7 with | .inl z=>zii | .inr z=>some z
def zgP (p0:Int):Option (Bool):=
 some (!decide (p0=p0))
def zdC (p0:Int) (p1:Int):Option (Int):=
 (zgP p0).bind fun x4=>(zgP p1).bind fun x6=>if x4 then (if x6 then (some 0) else (some (-1))) else (if x6 then (some 1) else (if decide (p0<p1) then (some (-1)) else (if decide (p0>p1) then (some 1) else (some 0))))
def zaF (p0:Int×Int) (p1:Int×Int):Option (Int):=
 (zdC p0.2 p1.2).bind fun x12=>(zdC p0.1 p1.1).bind fun x14=>(zi6 [x12,x14]).bind fun x22=>some x22
def zfu (p0:(Int×Int)×Int) (p1:(Int×Int)×Int):Option (Int):=
 (zaF p0.1 p1.1).bind fun x14=>some x14
def z8 (a b:(Int×Int)×Int):Int:=if a.1.2<b.1.2 then -1 else if b.1.2<a.1.2 then 1 else if a.1.1<b.1.1 then -1 else if b.1.1<a.1.1 then 1 else 0
def zdz (p0:LP):Option LP:=
 if p0.length≤1048576 then some (Go.Sort.pdq (fun x y=>decide (z8 x y<0)) p0.toArray 0 p0.length (Go.Lib.bitLen p0.length) true true).toList else none
def zcH (p0:Bool×(TS×(LP)×Int)×(TS)×(BS×(TS×LP))):Option ((TS×(LP)×Int)):=
 (zdz p0.2.2.2.2.2).bind fun x40=>some (p0.2.2.1,(x40,p0.2.1.2.2))
def zhH (p0:BS):Option (Bool):=
 if decide ((p0.length:Int)≥1) then (some (decide ((p0.length:Int)≤12))) else (some false)
def zbm (sx4:Int) (y7:Bool):Option (Int ⊕ (Unit ⊕ Bool)):=
 if y7 then (some (.inr (.inr false))) else (some (.inl (w64 (sx4+1))))
def zaR (sx4:Int) (x5:UInt8) (y6:Bool):Option (Int ⊕ (Unit ⊕ Bool)):=
 if !y6 then (if decide (sx4=0) then (zbm sx4 true) else (if decide ((x5.toNat:Int)<48) then (zbm sx4 (!decide ((x5.toNat:Int)=95))) else (if decide ((x5.toNat:Int)>57) then (zbm sx4 (!decide ((x5.toNat:Int)=95))) else (zbm sx4 false)))) else (zbm sx4 false)
def zbl (p0:BS) (sx4:Int):Option (Int ⊕ (Unit ⊕ Bool)):=
 if decide (sx4<(p0.length:Int)) then ((idx p0 sx4).bind fun x5=>if decide ((x5.toNat:Int)≥97) then (if decide ((x5.toNat:Int)≤122) then (zaR sx4 x5 true) else (if decide ((x5.toNat:Int)≥65) then (zaR sx4 x5 (decide ((x5.toNat:Int)≤90))) else (zaR sx4 x5 false))) else (if decide ((x5.toNat:Int)≥65) then (zaR sx4 x5 (decide ((x5.toNat:Int)≤90))) else (zaR sx4 x5 false))) else (some (.inr (.inl ())))
def zfB (p0:BS):Option (Bool):=
 (iter (zbl p0) 0).bind fun x4=>match x4 with | .inl z=>zhH p0 | .inr z=>some z
def zc3  : Option (Int):=
 some (-1)
def zc2 (p0:LI) (p1:Int→Option Bool) (sx9:Int):Option (Int ⊕ (Unit ⊕ Int)):=
 if decide (sx9<(p0.length:Int)) then ((idx p0 sx9).bind fun x11=>(p1 x11).bind fun x15=>if x15 then (some (.inr (.inr sx9))) else (some (.inl (w64 (sx9+1))))) else (some (.inr (.inl ())))
def zec (p0:LI) (p1:Int→Option Bool):Option (Int):=
 (iter (zc2 p0 p1) 0).bind fun x9=>match x9 with | .inl z=>zc3 | .inr z=>some z
def zbt (p0:LI) (p1:Int→Option Bool):Option (Bool):=
 (zec p0 p1).bind fun x5=>some (decide (x5≥0))
def za6 (p0:Int) (p1:LG×LT):Option (Bool):=
 (zbi p0 0 (p1.1.length:Int)).bind fun x8=>some (!x8)
def zgA  : Option (Bool):=
 some true
def zbZ (p0:LG×LT) (sx25:Int×(List (BS×Bool))) (x27:BS×LI) (y39:Bool):Option ((Int×(List (BS×Bool))) ⊕ (Unit ⊕ Bool)):=
 if y39 then (some (.inr (.inr false))) else ((zbt x27.2 (fun q0=>za6 q0 p0)).bind fun x43=>if x43 then (some (.inr (.inr false))) else (some (.inl (w64 (sx25.1+1),zix sx25.2 x27.1 true))))
def zaI (p0:LG×LT) (sx25:Int×(List (BS×Bool))):Option ((Int×(List (BS×Bool))) ⊕ (Unit ⊕ Bool)):=
 if decide (sx25.1<(p0.2.length:Int)) then ((idx p0.2 sx25.1).bind fun x27=>(zfB x27.1).bind fun x46=>if !x46 then (zbZ p0 sx25 x27 true) else (if ((zd1 sx25.2 x27.1).getD false) then (zbZ p0 sx25 x27 true) else (zbZ p0 sx25 x27 (!decide ((x27.2.length:Int)=4))))) else (some (.inr (.inl ())))
def zgB (p0:LG×LT):Option (Bool):=
 (iter (zaI p0) (0,([]:List (BS×Bool)))).bind fun x25=>match x25 with | .inl z=>zgA | .inr z=>some z
def zbY (sx49:Int×(List (BS×Bool))) (x51:BS×Int) (y61:Bool):Option ((Int×(List (BS×Bool))) ⊕ (Unit ⊕ Bool)):=
 if y61 then (some (.inr (.inr false))) else (some (.inl (w64 (sx49.1+1),zix sx49.2 x51.1 true)))
def zaJ (p0:LG×LT) (sx49:Int×(List (BS×Bool))):Option ((Int×(List (BS×Bool))) ⊕ (Unit ⊕ Bool)):=
 if decide (sx49.1<(p0.1.length:Int)) then ((idx p0.1 sx49.1).bind fun x51=>(zfB x51.1).bind fun x64=>if !x64 then (zbY sx49 x51 true) else (if ((zd1 sx49.2 x51.1).getD false) then (zbY sx49 x51 true) else ((zbi x51.2 1 4).bind fun x67=>zbY sx49 x51 (!x67)))) else (some (.inr (.inl ())))
def zeF (p0:LG×LT) (y10:Bool):Option (Bool):=
 if y10 then (some false) else ((iter (zaJ p0) (0,([]:List (BS×Bool)))).bind fun x49=>match x49 with | .inl z=>zgB p0 | .inr z=>some z)
def ze1 (p0:LG×LT):Option (Bool):=
 if decide ((p0.1.length:Int)>200) then (zeF p0 true) else ((zbi (p0.2.length:Int) 1 160).bind fun x69=>zeF p0 (!x69))
def zeD (p0:Int) (p1:Int):Option (Bool):=
 (zbi p0 0 (w64 (p1 - 1))).bind fun x3=>some x3
def zgb (p0:Int×Int) (p1:Int×Int):Option (Bool):=
 (zaF p0 p1).bind fun x11=>some (decide (x11<0))
def zha (p0:LP):Option (Bool):=
 some (decide ((p0.length:Int)≤500))
def zbA (sx10:Int) (y23:Bool):Option (Int ⊕ (Unit ⊕ Bool)):=
 if y23 then (some (.inr (.inr false))) else (some (.inl (w64 (sx10+1))))
def zaW (p0:LP) (sx10:Int):Option (Int ⊕ (Unit ⊕ Bool)):=
 if decide (sx10<(p0.length:Int)) then ((idx p0 sx10).bind fun x12=>(zdA x12.1).bind fun x25=>if !x25 then (zbA sx10 true) else ((zeD x12.2 160).bind fun x28=>if !x28 then (zbA sx10 true) else (if decide (sx10>0) then ((idx p0 (w64 (sx10 - 1))).bind fun x30=>(zgb x30.1 x12.1).bind fun x36=>zbA sx10 (!x36)) else (zbA sx10 false)))) else (some (.inr (.inl ())))
def zhs (p0:LP):Option (Bool):=
 (iter (zaW p0) 0).bind fun x10=>match x10 with | .inl z=>zha p0 | .inr z=>some z
def zcR (p0:LG×LT) (p1:Int):Option (Bool):=
 (zeD p1 (p0.2.length:Int)).bind fun x11=>some x11
def zax (p0:(Int×Int)×Int) (p1:LG×LT):Option (Bool):=
 (zcR p1 p0.2).bind fun x13=>some (!x13)
def zds (p0:LG×LT) (p1:LP):Option (Bool):=
 (ze1 p0).bind fun x16=>if x16 then ((zhs p1).bind fun x19=>if x19 then ((zag p1 (fun q0=>zax q0 p0)).bind fun x25=>some (!x25)) else (some false)) else (some false)
def zdq (p0:Int):Option (Bool):=
 (zbi p0 1 16).bind fun x2=>some x2
def zgv (y38:LM):Option (LM):=
 some y38
def zdf (sx46:LM×Int×(List (Int×Int))) (y53:LM) (y58:Int) (y60:List (Int×Int)):Option ((LM×Int×(List (Int×Int))) ⊕ (LM)):=
 (idx y53 y58).bind fun x62=>(app 8 x62 [sx46.2.1]).bind fun x72=>(some (y53.set y58.toNat x72)).bind fun x78=>some (.inl (x78,w64 (sx46.2.1+1),y60))
def zdb (p0:Int) (y24:LI) (sx46:LM×Int×(List (Int×Int))):Option ((LM×Int×(List (Int×Int))) ⊕ (LM)):=
 if decide (sx46.2.1<(p0.toNat:Int)) then ((idx y24 sx46.2.1).bind fun x48=>(iter (gstep y24) sx46.2.1).bind fun x50=>if !(zfm sx46.2.2 x50) then ((app 24 sx46.1 [([]:LI)]).bind fun x89=>zdf sx46 x89 (sx46.1.length:Int) (zix sx46.2.2 sx46.2.1 (sx46.1.length:Int))) else (zdf sx46 sx46.1 ((zd1 sx46.2.2 x50).getD 0) sx46.2.2)) else (some (.inr sx46.1))
def zgw (p0:Int) (y24:LI):Option (LM):=
 (iter (zdb p0 y24) ([],0,([]:List (Int×Int)))).bind fun x46=>zgv x46
def zde (sx98:Int×LI) (y100:LI):Option ((Int×LI) ⊕ (LI)):=
 some (.inl (w64 (sx98.1+1),y100))
def zdc (p1:LB) (sx98:Int×LI):Option ((Int×LI) ⊕ (LI)):=
 if decide (sx98.1<(p1.length:Int)) then ((idx p1 sx98.1).bind fun x103=>(idx sx98.2 x103.1).bind fun x114=>(iter (gstep sx98.2) x103.1).bind fun x116=>(idx sx98.2 x103.2.1).bind fun x117=>(iter (gstep sx98.2) x103.2.1).bind fun x119=>if decide (x116<x119) then (zde sx98 (sx98.2.set x119.toNat x116)) else (if decide (x119<x116) then (zde sx98 (sx98.2.set x116.toNat x119)) else (zde sx98 sx98.2))) else (some (.inr sx98.2))
def zgx (p0:Int) (p1:LB) (y17:LI):Option (LM):=
 (iter (zdc p1) (0,y17)).bind fun x98=>zgw p0 x98
def zdd (p0:Int) (sx124:Int×LI):Option ((Int×LI) ⊕ (LI)):=
 if decide (sx124.1<(p0.toNat:Int)) then ((zng p0.toNat sx124.2 sx124.1).bind fun x129=>some (.inl (w64 (sx124.1+1),x129))) else (some (.inr sx124.2))
def zgN (p0:Int) (p1:LB):Option (LM):=
 (fmk 8 p0).bind fun x8=>(iter (zdd p0) (0,x8)).bind fun x124=>zgx p0 p1 x124
def zfw  : Option (Int):=
 some (-1)
def zbq (p0:LB) (p1:(Int×Int×Int)→Option Bool) (sx11:Int):Option (Int ⊕ (Unit ⊕ Int)):=
 if decide (sx11<(p0.length:Int)) then ((idx p0 sx11).bind fun x13=>(p1 x13).bind fun x19=>if x19 then (some (.inr (.inr sx11))) else (some (.inl (w64 (sx11+1))))) else (some (.inr (.inl ())))
def zcy (p0:LB) (p1:(Int×Int×Int)→Option Bool):Option (Int):=
 (iter (zbq p0 p1) 0).bind fun x11=>match x11 with | .inl z=>zfw | .inr z=>some z
def zcF (y22:LB) (y26:Int):Option (LB):=
 (clr y22 y26 (0,(0,0))).bind fun x30=>(zaL x30 0 y26).bind fun x33=>some x33
def zba (sx35:LB×Int×Int) (y37:LB) (y41:Int):Option ((LB×Int×Int) ⊕ (LB×Int)):=
 some (.inl (y37,y41,w64 (sx35.2.2+1)))
def za9 (p1:(Int×Int×Int)→Option Bool) (sx35:LB×Int×Int):Option ((LB×Int×Int) ⊕ (LB×Int)):=
 if decide (sx35.2.2<(sx35.1.length:Int)) then ((idx sx35.1 sx35.2.2).bind fun x44=>(p1 x44).bind fun x54=>if !x54 then ((idx sx35.1 sx35.2.1).bind fun x57=>(some (sx35.1.set sx35.2.1.toNat x44)).bind fun x62=>zba sx35 x62 (w64 (sx35.2.1+1))) else (zba sx35 sx35.1 sx35.2.1)) else (some (.inr (sx35.1,sx35.2.1)))
def zb9 (p0:LB) (p1:(Int×Int×Int)→Option Bool):Option (LB):=
 (zcy p0 p1).bind fun x10=>if decide (x10=(-1)) then (some p0) else ((iter (za9 p1) (p0,x10,w64 (x10+1))).bind fun x35=>zcF x35.1 x35.2)
def zbI (y8:LB) (y12:Bool):Option (LB):=
 if y12 then (some ([]:LB)) else ((app 24 ([]:LB) y8).bind fun x18=>some x18)
def zc8 (p0:LB):Option (LB):=
 zbI p0 false
def zft (p0:Int×Int×Int) (p1:Int):Option (Bool):=
 some (decide (p0.2.2<p1))
def zfr (x32:LM) (y60:LB):Option (Int×LB):=
 some ((x32.length:Int),y60)
def zdr (sx65:LB×Int) (y67:LB):Option ((LB×Int) ⊕ (LB)):=
 some (.inl (y67,w64 (sx65.2+1)))
def zb5 (p1:LB) (y49:LI) (sx65:LB×Int):Option ((LB×Int) ⊕ (LB)):=
 if decide (sx65.2<(p1.length:Int)) then ((idx p1 sx65.2).bind fun x72=>(idx y49 x72.1).bind fun x83=>(idx y49 x72.2.1).bind fun x86=>if !decide (x83=x86) then ((idx y49 x72.1).bind fun x89=>(idx y49 x72.2.1).bind fun x92=>(app 24 sx65.1 [(x89,(x92,x72.2.2))]).bind fun x100=>zdr sx65 x100) else (zdr sx65 sx65.1)) else (some (.inr sx65.1))
def zfs (p1:LB) (x32:LM) (y49:LI):Option (Int×LB):=
 (iter (zb5 p1 y49) ([],0)).bind fun x65=>zfr x32 x65
def zfq (sx106:LI×Int) (y120:LI):Option ((LI×Int) ⊕ (LI)):=
 some (.inl (y120,w64 (sx106.2+1)))
def za5 (sx106:LI×Int) (x108:LI) (sx125:LI×Int):Option ((LI×Int) ⊕ (LI)):=
 if decide (sx125.2<(x108.length:Int)) then ((idx x108 sx125.2).bind fun x127=>(idx sx125.1 x127).bind fun x131=>(some (sx125.1.set x127.toNat sx106.2)).bind fun x134=>some (.inl (x134,w64 (sx125.2+1)))) else (some (.inr sx125.1))
def zaE (x32:LM) (sx106:LI×Int):Option ((LI×Int) ⊕ (LI)):=
 if decide (sx106.2<(x32.length:Int)) then ((idx x32 sx106.2).bind fun x108=>(iter (za5 sx106 x108) (sx106.1,0)).bind fun x125=>zfq sx106 x125) else (some (.inr sx106.1))
def zfe (p0:Int) (p1:LB) (p2:Int):Option (Int×LB):=
 (zc8 p1).bind fun x13=>(zb9 x13 (fun q0=>zft q0 p2)).bind fun x24=>(zgN p0 x24).bind fun x32=>(mkl 8 p0 0).bind fun x42=>(iter (zaE x32) (x42,0)).bind fun x106=>zfs p1 x32 x106
def za3 (p0:LP) (p1:Int×Int) (p2:((Int×Int)×Int)→(Int×Int)→Option Int) (y20:Int):Option (Int×Bool):=
 if decide (y20<(p0.length:Int)) then ((idx p0 y20).bind fun x23=>(p2 x23 p1).bind fun x29=>some (y20,decide (x29=0))) else (some (y20,false))
def zZ (p0:LP) (p1:Int×Int) (p2:((Int×Int)×Int)→(Int×Int)→Option Int) (sx33:Int×Int):Option ((Int×Int) ⊕ Int):=
 if decide (sx33.1<sx33.2) then ((idx p0 (w64 (Int.fdiv (IntKind.wrap .u64 (w64 (sx33.1+sx33.2))) (2 ^ 1)))).bind fun x35=>(p2 x35 p1).bind fun x41=>if decide (x41<0) then (some (.inl (w64 ((w64 (Int.fdiv (IntKind.wrap .u64 (w64 (sx33.1+sx33.2))) (2 ^ 1)))+1),sx33.2))) else (some (.inl (sx33.1,w64 (Int.fdiv (IntKind.wrap .u64 (w64 (sx33.1+sx33.2))) (2 ^ 1)))))) else (some (.inr sx33.1))
def zbO (p0:LP) (p1:Int×Int) (p2:((Int×Int)×Int)→(Int×Int)→Option Int):Option (Int×Bool):=
 (iter (zZ p0 p1 p2) (0,(p0.length:Int))).bind fun x33=>za3 p0 p1 p2 x33
def zb6 (p0:(Int×Int)×Int) (p1:Int×Int):Option (Int):=
 (zaF p0.1 p1).bind fun x13=>some x13
def zcc (p0:LP) (p1:Int×Int):Option (Int):=
 (zbO p0 p1 (fun q0 q1=>zb6 q0 q1)).bind fun x18=>if x18.2 then (some x18.1) else (some (-1))
def zfh (p0:Int×Int) (p1:Int×Int):Option ((Int×Int)):=
 some (w64 (p0.1+p1.1),w64 (p0.2+p1.2))
def zdB (p0:Int×Int) (p1:Int):Option ((Int×Int)):=
 (idx [((0,1):Int×Int),((1,0):Int×Int),((0,(-1)):Int×Int),(((-1),0):Int×Int)] p1).bind fun x12=>(zfh p0 x12).bind fun x20=>some x20
def zbo {σ:Type} (y10:σ):Option (σ):=
 some y10
def zbn {σ:Type} (sx12:Int×σ) (y33:σ):Option ((Int×σ) ⊕ σ):=
 some (.inl (w64 (sx12.1+1),y33))
def z1 {σ:Type} (sx35:Int×σ) (y50:σ):Option ((Int×σ) ⊕ σ):=
 some (.inl (w64 (sx35.1+1),y50))
def zJ {σ:Type} (y0:σ→(Int×Int)→Int→Option σ) (p1:LP) (sx12:Int×σ) (x14:(Int×Int)×Int) (sx35:Int×σ):Option ((Int×σ) ⊕ σ):=
 if decide (sx35.1<([1,0].length:Int)) then ((idx [1,0] sx35.1).bind fun x37=>(zdB x14.1 x37).bind fun x41=>(zcc p1 x41).bind fun x46=>if decide (x46≥0) then ((y0 sx35.2 (sx12.1,x46) x37).bind fun x52=>z1 sx35 x52) else (z1 sx35 sx35.2)) else (some (.inr sx35.2))
def zK {σ:Type} (y0:σ→(Int×Int)→Int→Option σ) (p1:LP) (sx12:Int×σ):Option ((Int×σ) ⊕ σ):=
 if decide (sx12.1<(p1.length:Int)) then ((idx p1 sx12.1).bind fun x14=>(iter (zJ y0 p1 sx12 x14) (0,sx12.2)).bind fun x35=>zbn sx12 x35) else (some (.inr sx12.2))
def zb8 {σ:Type} (y0:σ→(Int×Int)→Int→Option σ) (s0:σ) (p1:LP):Option (σ):=
 (iter (zK y0 p1) (0,s0)).bind fun x12=>zbo x12
def zdg (p0:LP):Option ((LP)):=
 some p0
def zid (p0:Int):Option (Int):=
 some (Int.tmod (w64 (p0+2)) 4)
def zcb (p0:LG×LT) (p1:Int) (p2:Int):Option (Int):=
 (idx p0.2 p1).bind fun x13=>(idx x13.2 p2).bind fun x20=>if decide (x20>0) then ((idx p0.1 (w64 (x20 - 1))).bind fun x24=>some x24.2) else (some 0)
def zd0 (p0:LG×LT) (p1:Int) (p2:Int) (p3:Int):Option (Int):=
 (idx p0.2 p1).bind fun x14=>(idx x14.2 p2).bind fun x21=>(idx p0.2 p3).bind fun x25=>(zid p2).bind fun x32=>(idx x25.2 x32).bind fun x34=>if decide (x21=x34) then ((zcb p0 p1 p2).bind fun x38=>some x38) else (some 0)
def zT (p0:LG×LT) (p1:LP) (sx34:LB) (q:(Int×Int)×Int):Option (LB):=
 (idx p1 q.1.1).bind fun x46=>(idx p1 q.1.2).bind fun x52=>(zd0 p0 x46.2 q.2 x52.2).bind fun x58=>if decide (x58>0) then ((app 24 sx34 [(q.1.1,(q.1.2,x58))]).bind fun x67=>some x67) else (some sx34)
def zb7 (p0:LG×LT) (p1:LP):Option (LB):=
 (zdg p1).bind fun x22=>(zb8 (fun s q0 q1=>zT p0 p1 s (q0,q1)) [] x22).bind fun x34=>some x34
def zf7 (y34:LM) (y47:LM):Option ((LM×LM)):=
 some (y47,y34)
def zcC (p1:LB) (sx55:Int×LM):Option ((Int×LM) ⊕ (LM)):=
 if decide (sx55.1<(p1.length:Int)) then ((idx p1 sx55.1).bind fun x57=>(idx sx55.2 x57.1).bind fun x68=>(idx x68 x57.2.1).bind fun x73=>(idx x68 x57.2.1).bind fun x76=>(some (sx55.2.set x57.1.toNat (x68.set x57.2.1.toNat (w64 (x73+x57.2.2))))).bind fun x79=>(idx x79 x57.2.1).bind fun x82=>(idx x82 x57.1).bind fun x87=>(idx x82 x57.1).bind fun x90=>(some (x79.set x57.2.1.toNat (x82.set x57.1.toNat (w64 (x87+x57.2.2))))).bind fun x93=>some (.inl (w64 (sx55.1+1),x93))) else (some (.inr sx55.2))
def zf8 (p1:LB) (y29:LM) (y34:LM):Option ((LM×LM)):=
 (iter (zcC p1) (0,y29)).bind fun x55=>zf7 y34 x55
def zcD (p0:Int) (sx96:Int×LM×LM):Option ((Int×LM×LM) ⊕ (LM×LM)):=
 if decide (sx96.1<p0) then ((mkl 8 p0 0).bind fun x102=>(app 24 sx96.2.1 [x102]).bind fun x107=>(mkl 8 p0 0).bind fun x125=>(app 24 sx96.2.2 [x125]).bind fun x130=>some (.inl (w64 (sx96.1+1),x107,x130))) else (some (.inr (sx96.2.1,sx96.2.2)))
def zf9 (p0:Int) (p1:LB):Option ((LM×LM)):=
 (iter (zcD p0) (0,[],[])).bind fun x96=>zf8 p1 x96.1 x96.2
def ze0 (p0 p1:Int):Option (Int×Int):=if 0≤p0∧p0<18446744073709551616∧0≤p1∧p1<18446744073709551616 then some (p0*p1 / 18446744073709551616,p0*p1 % 18446744073709551616) else none
def zgU (y27:LI):Option (LI):=
 some y27
def zcw  (sx32:LI×Int):Option ((LI×Int) ⊕ (LI)):=
 if decide (sx32.2<(sx32.1.length:Int)) then ((zaL sx32.1 sx32.2 (sx32.1.length:Int)).bind fun x34=>(zaL sx32.1 0 sx32.2).bind fun x35=>(some (cpy sx32.1 sx32.2.toNat x35)).bind fun x36=>some (.inl (x36,w64 (sx32.2+((min x35.length (sx32.1.length - sx32.2.toNat):Nat):Int))))) else (some (.inr sx32.1))
def zcx (p0:LI) (x9:Int×Int) (y11:Bool):Option (LI):=
 if y11 then none else ((mkl 8 (w64 x9.2) 0).bind fun x16=>(some (cpy x16 0 p0)).bind fun x17=>(iter (zcw) (x17,((min p0.length x16.length:Nat):Int))).bind fun x32=>zgU x32)
def zdV (p0:LI) (p1:Int):Option (LI):=
 if decide (p1<0) then none else ((ze0 (IntKind.wrap .u64 (p0.length:Int)) (IntKind.wrap .u64 p1)).bind fun x9=>if decide (x9.1>0) then (zcx p0 x9 true) else (zcx p0 x9 (decide (x9.2>9223372036854775807))))
def zdZ (p0:LM×LM) (p1:Int) (p2:Int):Option (Bool):=
 (idx p0.1 p1).bind fun x9=>(idx x9 p2).bind fun x15=>(idx p0.2 p1).bind fun x19=>(idx x19 p2).bind fun x25=>some (decide (x15>x25))
def zfl (p0:LI):Option LI:=some p0.reverse
def zeQ (y62:LI):Option (LI):=
 (zfl y62).bind fun x67=>(ne x67).bind fun x71=>some x67
def zaS (p1:Int) (y43:LI) (sx72:LI×Int):Option ((LI×Int) ⊕ (LI)):=
 if !decide (sx72.2=p1) then ((idx y43 sx72.2).bind fun x74=>(app 8 sx72.1 [x74]).bind fun x82=>some (.inl (x82,x74))) else (some (.inr sx72.1))
def zeR (p1:Int) (p2:Int) (y43:LI):Option (LI):=
 (idx y43 p2).bind fun x48=>if decide (x48<0) then (some ([]:LI)) else ((iter (zaS p1 y43) ([p2],p2)).bind fun x72=>zeQ x72)
def zeP (y101:LI) (y105:LI):Option ((LI×LI) ⊕ (LI)):=
 some (.inl (y101,y105))
def zbM (sx107:LI×Int×LI) (y109:LI) (y113:LI):Option ((LI×Int×LI) ⊕ (LI×LI)):=
 some (.inl (y109,w64 (sx107.2.1+1),y113))
def zaT (p0:LM×LM) (x91:Int×LI) (sx107:LI×Int×LI) (y115:Bool):Option ((LI×Int×LI) ⊕ (LI×LI)):=
 if y115 then ((idx sx107.1 sx107.2.1).bind fun x116=>(some (sx107.1.set sx107.2.1.toNat x91.1)).bind fun x119=>(zmi ((p0.1.length:Int).toNat) sx107.2.2 sx107.2.1).bind fun x122=>zbM sx107 x119 x122) else (zbM sx107 sx107.1 sx107.2.2)
def zbK (p0:LM×LM) (x91:Int×LI) (sx107:LI×Int×LI):Option ((LI×Int×LI) ⊕ (LI×LI)):=
 if decide (sx107.2.1<(p0.1.length:Int)) then ((idx sx107.1 sx107.2.1).bind fun x125=>if decide (x125<0) then ((zdZ p0 x91.1 sx107.2.1).bind fun x128=>zaT p0 x91 sx107 x128) else (zaT p0 x91 sx107 false)) else (some (.inr (sx107.1,sx107.2.2)))
def zbL (p0:LM×LM) (sx88:LI×LI):Option ((LI×LI) ⊕ (LI)):=
 (zru sx88.2).bind fun x90=>if decide (x90>0) then ((zqG sx88.2).bind fun x91=>(iter (zbK p0 x91) (sx88.1,0,x91.2)).bind fun x107=>zeP x107.1 x107.2) else (some (.inr sx88.1))
def zeC (p0:LM×LM) (p1:Int) (p2:Int):Option (LI):=
 (zdV [(-1)] (p0.1.length:Int)).bind fun x18=>(mkc 8 (p0.1.length:Int)).bind fun x25=>(zmi ((p0.1.length:Int).toNat) x25 p1).bind fun x29=>(idx x18 p1).bind fun x32=>(some (x18.set p1.toNat p1)).bind fun x35=>(iter (zbL p0) (x35,x29)).bind fun x88=>zeR p1 p2 x88
def zek (sx23:Int×LM) (y41:LM):Option ((Int×LM) ⊕ (Int×(LM×LM))):=
 some (.inl (w64 (sx23.1+1),y41))
def zbj (x25:LI) (sx47:Int×LM):Option ((Int×LM) ⊕ (LM)):=
 if decide (sx47.1<(x25.length:Int)) then ((idx x25 (w64 (sx47.1 - 1))).bind fun x49=>(idx sx47.2 x49).bind fun x52=>(idx x25 sx47.1).bind fun x57=>(idx x52 x57).bind fun x60=>(idx x52 x57).bind fun x63=>(some (sx47.2.set x49.toNat (x52.set x57.toNat (w64 (x60+1))))).bind fun x66=>(idx x25 sx47.1).bind fun x69=>(idx x66 x69).bind fun x72=>(idx x25 (w64 (sx47.1 - 1))).bind fun x77=>(idx x72 x77).bind fun x80=>(idx x72 x77).bind fun x83=>(some (x66.set x69.toNat (x72.set x77.toNat (w64 (x80 - 1))))).bind fun x86=>some (.inl (w64 (sx47.1+1),x86))) else (some (.inr sx47.2))
def zbk (p0:LM×LM) (sx23:Int×LM) (x25:LI) (y33:Bool):Option ((Int×LM) ⊕ (Int×(LM×LM))):=
 if y33 then (some (.inr (sx23.1,(p0.1,sx23.2)))) else ((iter (zbj x25) (1,sx23.2)).bind fun x47=>zek sx23 x47)
def zcB (p0:LM×LM) (p1:Int) (p2:Int) (p3:Int) (sx23:Int×LM):Option ((Int×LM) ⊕ (Int×(LM×LM))):=
 (zeC (p0.1,sx23.2) p1 p2).bind fun x25=>if decide (x25=[]) then (zbk p0 sx23 x25 true) else (zbk p0 sx23 x25 (decide (sx23.1≥p3)))
def zdY (p0:LM×LM) (p1:Int) (p2:Int) (p3:Int):Option (Int×(LM×LM)):=
 (iter (zcB p0 p1 p2 p3) (0,p0.2)).bind fun x23=>some x23
def zkp  : Option (Bool):=
 some true
def zgM (p0:Int) (p1:LB) (p2:Int) (sx9:Int):Option (Int ⊕ (Unit ⊕ Bool)):=
 if decide (sx9<p0) then ((zf9 p0 p1).bind fun x11=>(zdY x11 0 sx9 p2).bind fun x23=>if decide (x23.1<p2) then (some (.inr (.inr false))) else (some (.inl (w64 (sx9+1))))) else (some (.inr (.inl ())))
def ziV (p0:Int) (p1:LB) (p2:Int):Option (Bool):=
 (iter (zgM p0 p1 p2) 1).bind fun x9=>match x9 with | .inl z=>zkp | .inr z=>some z
def zcQ (p0:LG×LT) (p1:LP) (p2:Int):Option (Bool×Bool):=
 (zb7 p0 p1).bind fun x17=>(zfe (p1.length:Int) x17 p2).bind fun x23=>if decide (x23.1>64) then (some (false,false)) else ((ziV x23.1 x23.2 p2).bind fun x30=>some (x30,true))
def zig (p0:LG×LT) (p1:LP) (p2:Int):Option (Bool×Int):=
 (zds p0 p1).bind fun x18=>if !x18 then (some (false,1)) else ((zdq p2).bind fun x21=>if !x21 then (some (false,2)) else ((zcQ p0 p1 p2).bind fun x23=>if !x23.2 then (some (false,4)) else (some (x23.1,0))))
def zeE (p0:TS×(LP)×Int):Option (Bool):=
 if decide ((p0.2.1.length:Int)=0) then (some false) else ((zig p0.1 p0.2.1 p0.2.2).bind fun x14=>if x14.1 then (some (decide (x14.2=0))) else (some false))
def zbw (y50:Bool) (y51:Int) (y53:LG) (y57:LT) (y61:BS) (y63:LG) (y67:LT) (y71:LP):Option ((TS×(LP)×Int)×Er):=
 (zcH (y50,((([],[]),([],y51)),((y53,y57),(y61,((y63,y67),y71)))))).bind fun x76=>(zeE x76).bind fun x94=>if !x94 then (some ((([],[]),([],0)),Er.whole)) else (some (x76,Er.nil))
def zH (p0:LW) (p1:Int) (sx103:Int×Bool×Int×LG×LT×BS×LG×LT×LP):Option ((Int×Bool×Int×LG×LT×BS×LG×LT×LP) ⊕ ((Bool×Int×LG×LT×BS×LG×LT×LP) ⊕ ((TS×(LP)×Int)×Er))):=
 if decide (sx103.1<(p0.length:Int)) then ((idx p0 sx103.1).bind fun x105=>(zA (sx103.2.1,((([],[]),([],sx103.2.2.1)),((sx103.2.2.2.1,sx103.2.2.2.2.1),(sx103.2.2.2.2.2.1,((sx103.2.2.2.2.2.2.1,sx103.2.2.2.2.2.2.2.1),sx103.2.2.2.2.2.2.2.2))))) x105).bind fun x109=>if !decide (x109.1=0) then (some (.inr (.inr ((([],[]),([],0)),Er.line (w64 ((w64 (p1+sx103.1))+1)) x109.1)))) else (some (.inl (w64 (sx103.1+1),x109.2.1,x109.2.2.1.2.2,x109.2.2.2.1.1,x109.2.2.2.1.2,x109.2.2.2.2.1,x109.2.2.2.2.2.1.1,x109.2.2.2.2.2.1.2,x109.2.2.2.2.2.2)))) else (some (.inr (.inl (sx103.2.1,sx103.2.2.1,sx103.2.2.2.1,sx103.2.2.2.2.1,sx103.2.2.2.2.2.1,sx103.2.2.2.2.2.2.1,sx103.2.2.2.2.2.2.2.1,sx103.2.2.2.2.2.2.2.2))))
def zej (p0:LW) (p1:Int):Option ((TS×(LP)×Int)×Er):=
 (iter (zH p0 p1) (0,false,0,[],[],([]:BS),[],[],[])).bind fun x103=>match x103 with | .inl z=>zbw z.1 z.2.1 z.2.2.1 z.2.2.2.1 z.2.2.2.2.1 z.2.2.2.2.2.1 z.2.2.2.2.2.2.1 z.2.2.2.2.2.2.2 | .inr z=>some z
def strings_IndexByte (p0:BS) (p1:Int):Option Int:=some (Go.Lib.indexByte p0 p1.toNat.toUInt8)
def zeJ {σ:Type} (y7:σ) (y8:BS):Option (BS×σ):=
 some (y8,y7)
def zbC {σ:Type} (y0:σ→BS→Option σ) (sx11:σ×BS) (y13:BS) (y15:BS):Option ((σ×BS) ⊕ (σ×BS)):=
 (y0 sx11.1 y13).bind fun x18=>some (.inl (x18,y15))
def zU {σ:Type} (y0:σ→BS→Option σ) (sx11:σ×BS):Option ((σ×BS) ⊕ (σ×BS)):=
 if decide ((sx11.2.length:Int)>0) then ((strings_IndexByte sx11.2 10).bind fun x21=>if decide (x21≥0) then ((zaL sx11.2 0 (w64 (x21+1))).bind fun x24=>(zaL sx11.2 (w64 (x21+1)) (sx11.2.length:Int)).bind fun x25=>zbC y0 sx11 x24 x25) else (zbC y0 sx11 sx11.2 ([]:BS))) else (some (.inr (sx11.1,sx11.2)))
def zgh {σ:Type} (y0:σ→BS→Option σ) (s0:σ) (p1:BS):Option (BS×σ):=
 (iter (zU y0) (s0,p1)).bind fun x11=>zeJ x11.1 x11.2
def zh5 (p0:BS):Option (BS):=
 some p0
def zao (p0:BS) (p1:BS):Option (Bool):=
 if decide ((p0.length:Int)≥(p1.length:Int)) then ((zaL p0 (w64 ((p0.length:Int) - (p1.length:Int))) (p0.length:Int)).bind fun x3=>some (decide (x3=p1))) else (some false)
def zah (p0:BS) (p1:BS):Option (BS):=
 (zao p0 p1).bind fun x4=>if x4 then ((zaL p0 0 (w64 ((p0.length:Int) - (p1.length:Int)))).bind fun x6=>some x6) else (some p0)
def zaB (p0:BS) (p1:BS):Option (BS):=
 (zah p0 p1).bind fun x4=>some x4
def zab  (sx18:LW) (q:BS):Option (LW):=
 (zaB q ([10]:BS)).bind fun x23=>(app 16 sx18 [x23]).bind fun x31=>some x31
def zff (p0:BS):Option (LW):=
 (zh5 p0).bind fun x8=>(zgh (fun s q0=>zab s q0) [] x8).bind fun x18=>some x18.2
def zjO (p0:Er) (p1:Int):Option (Int×Int):=match p0 with | .nil=>some (0,0) | .line l c=>some (l,c) | .whole=>some (0,p1) | .other=>none
def zfg (p0:BS):Option ((TS×(LP)×Int)×Int×Int):=
 if decide ((p0.length:Int)>20000) then (some ((([],[]),([],0)),0,2)) else ((zff p0).bind fun x19=>(zej x19 0).bind fun x25=>(zjO x25.2 1).bind fun x45=>if !decide (x45.2=0) then (some ((([],[]),([],0)),x45.1,x45.2)) else (some (x25.1,0,0)))
def zjK (p0:BS×Int) (p1:BS×Int):Option (Bool):=
 if !decide (p0.1=p1.1) then (some false) else (if !decide (p0.2=p1.2) then (some false) else (some true))
def zg7  : Option (Bool):=
 some true
def zcl (p0:LG) (p1:LG) (sx10:Int):Option (Int ⊕ (Unit ⊕ Bool)):=
 if decide (sx10<(p0.length:Int)) then ((idx p0 sx10).bind fun x12=>(idx p1 sx10).bind fun x17=>(zjK x12 x17).bind fun x22=>if !x22 then (some (.inr (.inr false))) else (some (.inl (w64 (sx10+1))))) else (some (.inr (.inl ())))
def zhp (p0:LG) (p1:LG):Option (Bool):=
 if !decide ((p0.length:Int)=(p1.length:Int)) then (some false) else ((iter (zcl p0 p1) 0).bind fun x10=>match x10 with | .inl z=>zg7 | .inr z=>some z)
def zgu  : Option (Bool):=
 some true
def zbX (p0:LI) (p1:LI) (sx9:Int):Option (Int ⊕ (Unit ⊕ Bool)):=
 if decide (sx9<(p0.length:Int)) then ((idx p0 sx9).bind fun x10=>(idx p1 sx9).bind fun x14=>if !decide (x10=x14) then (some (.inr (.inr false))) else (some (.inl (w64 (sx9+1))))) else (some (.inr (.inl ())))
def zgK (p0:LI) (p1:LI):Option (Bool):=
 if !decide ((p0.length:Int)=(p1.length:Int)) then (some false) else ((iter (zbX p0 p1) 0).bind fun x9=>match x9 with | .inl z=>zgu | .inr z=>some z)
def zjJ (p0:BS×LI) (p1:BS×LI):Option (Bool):=
 if !decide (p0.1=p1.1) then (some false) else ((zgK p0.2 p1.2).bind fun x15=>if !x15 then (some false) else (some true))
def zg6  : Option (Bool):=
 some true
def zck (p0:LT) (p1:LT) (sx10:Int):Option (Int ⊕ (Unit ⊕ Bool)):=
 if decide (sx10<(p0.length:Int)) then ((idx p0 sx10).bind fun x12=>(idx p1 sx10).bind fun x19=>(zjJ x12 x19).bind fun x26=>if !x26 then (some (.inr (.inr false))) else (some (.inl (w64 (sx10+1))))) else (some (.inr (.inl ())))
def zho (p0:LT) (p1:LT):Option (Bool):=
 if !decide ((p0.length:Int)=(p1.length:Int)) then (some false) else ((iter (zck p0 p1) 0).bind fun x10=>match x10 with | .inl z=>zg6 | .inr z=>some z)
def zhC (p0:LG×LT) (p1:LG×LT):Option (Bool):=
 (zhp p0.1 p1.1).bind fun x19=>if !x19 then (some false) else ((zho p0.2 p1.2).bind fun x22=>if !x22 then (some false) else (some true))
def ziS (p0:Int×Int) (p1:Int×Int):Option (Bool):=
 if !decide (p0.1=p1.1) then (some false) else (if !decide (p0.2=p1.2) then (some false) else (some true))
def zic (p0:(Int×Int)×Int) (p1:(Int×Int)×Int):Option (Bool):=
 (ziS p0.1 p1.1).bind fun x13=>if !x13 then (some false) else (if !decide (p0.2=p1.2) then (some false) else (some true))
def zf4  : Option (Bool):=
 some true
def zbv (p0:LP) (p1:LP) (sx10:Int):Option (Int ⊕ (Unit ⊕ Bool)):=
 if decide (sx10<(p0.length:Int)) then ((idx p0 sx10).bind fun x12=>(idx p1 sx10).bind fun x18=>(zic x12 x18).bind fun x24=>if !x24 then (some (.inr (.inr false))) else (some (.inl (w64 (sx10+1))))) else (some (.inr (.inl ())))
def zf5 (p0:LP) (p1:LP):Option (Bool):=
 if !decide ((p0.length:Int)=(p1.length:Int)) then (some false) else ((iter (zbv p0 p1) 0).bind fun x10=>match x10 with | .inl z=>zf4 | .inr z=>some z)
def zg8 (p0:LP) (p1:LP):Option (Bool):=
 (zf5 p0 p1).bind fun x13=>if !x13 then (some false) else (some true)
def zgJ (p0:TS×(LP)×Int) (p1:TS×(LP)×Int):Option (Bool):=
 (zhC p0.1 p1.1).bind fun x27=>if !x27 then (some false) else ((zg8 p0.2.1 p1.2.1).bind fun x30=>if !x30 then (some false) else (if !decide (p0.2.2=p1.2.2) then (some false) else (some true)))
def zgs (y7:BS):Option (BS):=
 (ziK ([109]:BS) y7).bind fun x10=>some x10
def zeA  (sx11:Int×BS):Option ((Int×BS) ⊕ (BS)):=
 if decide (sx11.1>0) then ((ziK (zgC [IntKind.wrap .u8 (w64 (48+(Int.tmod sx11.1 10)))]) sx11.2).bind fun x18=>some (.inl (w64 (Int.tdiv sx11.1 10),x18))) else (some (.inr sx11.2))
def zbb (p0:Int):Option (BS):=
 if decide (p0≤0) then (some ([109,48]:BS)) else ((iter (zeA) (p0,([]:BS))).bind fun x11=>zgs x11)
def zfY (y13:LG) (y15:Int):Option (Int×LG):=
 some (y15,y13)
def zaO  (sx18:LG×Int×Int):Option ((LG×Int×Int) ⊕ (LG×Int)):=
 if decide (sx18.2.2<(sx18.1.length:Int)) then ((zbb sx18.2.1).bind fun x20=>(idx sx18.1 sx18.2.2).bind fun x24=>(some (sx18.1.set sx18.2.2.toNat (x20,x24.2))).bind fun x28=>(idx x28 sx18.2.2).bind fun x33=>(some (x28.set sx18.2.2.toNat (x33.1,w64 (sx18.2.1+1)))).bind fun x37=>some (.inl (x37,w64 ((w64 (sx18.2.1+1))+1),w64 (sx18.2.2+1)))) else (some (.inr (sx18.1,sx18.2.1)))
def zda (p0:LG) (p1:Int):Option (Int×LG):=
 (iter (zaO) (p0,p1,0)).bind fun x18=>zfY x18.1 x18.2
def zfn (y13:LI) (y15:Int):Option (Int×LI):=
 some (y15,y13)
def zaD  (sx18:LI×Int×Int):Option ((LI×Int×Int) ⊕ (LI×Int)):=
 if decide (sx18.2.2<(sx18.1.length:Int)) then ((idx sx18.1 sx18.2.2).bind fun x20=>(some (sx18.1.set sx18.2.2.toNat sx18.2.1)).bind fun x23=>some (.inl (x23,w64 (sx18.2.1+1),w64 (sx18.2.2+1)))) else (some (.inr (sx18.1,sx18.2.1)))
def zcj (p0:LI) (p1:Int):Option (Int×LI):=
 (iter (zaD) (p0,p1,0)).bind fun x18=>zfn x18.1 x18.2
def zeN (y13:LP) (y15:Int):Option (Int×LP):=
 some (y15,y13)
def zaw  (sx18:LP×Int×Int):Option ((LP×Int×Int) ⊕ (LP×Int)):=
 if decide (sx18.2.2<(sx18.1.length:Int)) then ((idx sx18.1 sx18.2.2).bind fun x20=>(some (sx18.1.set sx18.2.2.toNat ((sx18.2.1,x20.1.2),x20.2))).bind fun x25=>(idx x25 sx18.2.2).bind fun x31=>(some (x25.set sx18.2.2.toNat ((x31.1.1,w64 (sx18.2.1+1)),x31.2))).bind fun x36=>(idx x36 sx18.2.2).bind fun x42=>(some (x36.set sx18.2.2.toNat (x42.1,w64 ((w64 (sx18.2.1+1))+1)))).bind fun x47=>some (.inl (x47,w64 ((w64 ((w64 (sx18.2.1+1))+1))+1),w64 (sx18.2.2+1)))) else (some (.inr (sx18.1,sx18.2.1)))
def za4 (p0:LP) (p1:Int):Option (Int×LP):=
 (iter (zaw) (p0,p1,0)).bind fun x18=>zeN x18.1 x18.2
def zf1 (y10:Int):Option (Int):=
 some y10
def zdX (p0:LG) (sx13:Int×Int):Option ((Int×Int) ⊕ (Int ⊕ Int)):=
 if decide (sx13.2<(p0.length:Int)) then ((idx p0 sx13.2).bind fun x15=>(zbb sx13.1).bind fun x20=>if !decide (x15.1=x20) then (some (.inr (.inr (-1)))) else ((idx p0 sx13.2).bind fun _=>if !decide (x15.2=(w64 (sx13.1+1))) then (some (.inr (.inr (-1)))) else (some (.inl (w64 ((w64 (sx13.1+1))+1),w64 (sx13.2+1)))))) else (some (.inr (.inl sx13.1)))
def zf2 (p0:LG) (p1:Int):Option (Int):=
 (iter (zdX p0) (p1,0)).bind fun x13=>match x13 with | .inl z=>zf1 z | .inr z=>some z
def zfo (y10:Int):Option (Int):=
 some y10
def zdp (p0:LI) (sx12:Int×Int):Option ((Int×Int) ⊕ (Int ⊕ Int)):=
 if decide (sx12.2<(p0.length:Int)) then ((idx p0 sx12.2).bind fun x13=>if !decide (x13=sx12.1) then (some (.inr (.inr (-1)))) else (some (.inl (w64 (sx12.1+1),w64 (sx12.2+1))))) else (some (.inr (.inl sx12.1)))
def zfd (p0:LI) (p1:Int):Option (Int):=
 (iter (zdp p0) (p1,0)).bind fun x12=>match x12 with | .inl z=>zfo z | .inr z=>some z
def zfZ (y10:Int):Option (Int):=
 some y10
def zdW (p0:LT) (sx13:Int×Int):Option ((Int×Int) ⊕ (Int ⊕ Int)):=
 if decide (sx13.2<(p0.length:Int)) then ((idx p0 sx13.2).bind fun x15=>(zbb sx13.1).bind fun x22=>if !decide (x15.1=x22) then (some (.inr (.inr (-1)))) else ((idx p0 sx13.2).bind fun _=>(zfd x15.2 (w64 (sx13.1+1))).bind fun x33=>if decide (x33<0) then (some (.inr (.inr (-1)))) else (some (.inl (x33,w64 (sx13.2+1)))))) else (some (.inr (.inl sx13.1)))
def zf0 (p0:LT) (p1:Int):Option (Int):=
 (iter (zdW p0) (p1,0)).bind fun x13=>match x13 with | .inl z=>zfZ z | .inr z=>some z
def zgt (p0:LG×LT) (p1:Int):Option (Int):=
 (zf2 p0.1 p1).bind fun x12=>if decide (x12<0) then (some (-1)) else ((zf0 p0.2 x12).bind fun x16=>if decide (x16<0) then (some (-1)) else (some x16))
def zeO (y10:Int):Option (Int):=
 some y10
def zcP (p0:LP) (sx12:Int×Int):Option ((Int×Int) ⊕ (Int ⊕ Int)):=
 if decide (sx12.2<(p0.length:Int)) then ((idx p0 sx12.2).bind fun x13=>if !decide (x13.1.1=sx12.1) then (some (.inr (.inr (-1)))) else ((idx p0 sx12.2).bind fun _=>if !decide (x13.1.2=(w64 (sx12.1+1))) then (some (.inr (.inr (-1)))) else ((idx p0 sx12.2).bind fun _=>if !decide (x13.2=(w64 ((w64 (sx12.1+1))+1))) then (some (.inr (.inr (-1)))) else (some (.inl (w64 ((w64 ((w64 (sx12.1+1))+1))+1),w64 (sx12.2+1))))))) else (some (.inr (.inl sx12.1)))
def zeB (p0:LP) (p1:Int):Option (Int):=
 (iter (zcP p0) (p1,0)).bind fun x12=>match x12 with | .inl z=>zeO z | .inr z=>some z
def zf3 (p0:LP) (p1:Int):Option (Int):=
 (zeB p0 p1).bind fun x9=>if decide (x9<0) then (some (-1)) else (some x9)
def zfc (p0:TS×(LP)×Int) (p1:Int):Option (Int):=
 (zgt p0.1 p1).bind fun x16=>if decide (x16<0) then (some (-1)) else ((zf3 p0.2.1 x16).bind fun x20=>if decide (x20<0) then (some (-1)) else (some x20))
end
end Go.Lf
namespace Go.Lf
open Go Go.Proofs
def tGlue:Ty (BS×Int):=(zhe tStr tI64)
def zQ:Ty (BS×LI):=(zhe tStr (tSl tI64))
def ztF:Ty (Int×Int):=(zhe tI64 tI64)
def tPlaced:Ty ((Int×Int)×Int):=(zhe ztF tI64)
def zR:Ty (Int×Int×Int):=(zhe tI64 (zhe tI64 tI64))
def pow10s:LI:=[1,10,100,1000,10000,100000,1000000,10000000,100000000,1000000000,10000000000,100000000000,1000000000000,10000000000000,100000000000000,1000000000000000,10000000000000000,100000000000000000,1000000000000000000,10000000000000000000]
def ErV (κ:K) (v:Value) (e:Er):Prop:=ErVg 73 285 0 κ v e
theorem ErV.step {M:List Nat} {κ κ':K} {v:Value} {e:Er} (s:Step M κ κ') (h:ErV κ v e):ErV κ' v e:=ErVg.step s h
theorem ErV.mkline {κ:K} {b:Nat} {l c:Int} (h:PubAt κ b 0 [iv l,iv c]) (h1:I64 l) (h2:I64 c):ErV κ (.iface 73 (pt b 0)) (.line l c):=⟨b,rfl,h,h1,h2⟩
theorem ErV.nil {κ:K}:ErV κ .nilIface .nil:=rfl
theorem ErV.at0 {κ:K} {v:Value} (h:ErV κ v .whole):PubAt κ 0 0 [v]:=h.2
theorem ErV.cell {κ:K} {v:Value} (h:ErV κ v .whole):κ.cell 0 0=some v:=h.2.2.2 0 v rfl
def Glob (κ:K):Prop:=Globg pow10s 285 160 0 1 3 4 5 8 42 κ
theorem Glob.step {M:List Nat} {κ κ':K} (s:Step M κ κ') (h:Glob κ):Glob κ':=Globg.step s h
theorem Glob.whole {κ:K} (h:Glob κ):∃ v,ErV κ v .whole:=by
 obtain ⟨b,hb⟩:=Globg.whole h
 exact ⟨_,⟨b,rfl⟩,hb⟩
structure SysO (κ:K) (a:OA) (c:Nat) (a1:OA) (c1:Nat) (a2:OA) (c2:Nat) (r:TS×LP×Int):Prop where
 og:SlE tGlue 94 13003 κ a c r.1.1
 ot:∃ N,TlO tStr tI64 64004 2 97 (N,13004) κ a1 c1 r.1.2
 op:SlE tPlaced 108 97001 κ a2 c2 r.2.1
theorem SysO.nil {κ:K} {n:Int}:SysO κ none 0 none 0 none 0 (([],[]),([],n)):=⟨⟨0,SlO.nil⟩,⟨0,TlO.nil⟩,⟨0,SlO.nil⟩⟩
section
variable {M:List Nat} {κ κ':K} {a a1 a2:Option Addr} {c c1 c2:Nat} {r:((List ((List UInt8)×Int))×(List ((List UInt8)×(List Int))))×(List ((Int×Int)×Int))×Int}
theorem SysO.step (s:Step M κ κ') (h:SysO κ a c a1 c1 a2 c2 r):SysO κ' a c a1 c1 a2 c2 r:=
 ⟨h.og.elim fun _ h=>⟨_,h.step s⟩,h.ot.elim fun _ h=>⟨_,h.step s⟩,h.op.elim fun _ h=>⟨_,h.step s⟩⟩
theorem SysO.g (h:SysO κ a c a1 c1 a2 c2 r):Sl tGlue κ a c r.1.1:=h.og.elim fun _ h=>h.1
theorem SysO.t (h:SysO κ a c a1 c1 a2 c2 r):Sl zQ κ a1 c1 r.1.2:=h.ot.elim fun _ h=>h.sl
theorem SysO.p (h:SysO κ a c a1 c1 a2 c2 r):Sl tPlaced κ a2 c2 r.2.1:=h.op.elim fun _ h=>h.1
end
end Go.Lf
