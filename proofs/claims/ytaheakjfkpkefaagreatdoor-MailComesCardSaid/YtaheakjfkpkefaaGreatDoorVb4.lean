/- Lemmas. -/
import Derived.Test.YtaheakjfkpkefaaGreatDoorVb3
import Derived.Maps.RangeRun
import Derived.Lib.Builder
import Derived.Laws.Externs
import Derived.Shelf.Sort.Plain
import Derived.Shelf.Slices.In.SortNone
import Derived.Shelf.Small.Strs
import Derived.Shelf.Bits.Mul64
import Derived.Shelf.Slices.Reverse
import Derived.Deep.Slices
import Derived.Deep.Strs
import Derived.ProofKit
import Derived.OpenShut
import Derived.Deep.DeepHandedRow
import Derived.Lay
import Derived.Shelf.Unicode.ValidAny
set_option maxHeartbeats 16000000
set_option maxRecDepth 100000
namespace Go.Proofs.YtaheakjfkpkefaaGreatDoor
open Go.RowKit
section
def ik (k:Int):Value:=.int .i64 k
theorem bJ {a b:Int} (h:ik a=ik b):a=b:=by unfold ik at h;injection h
def upd (f:Int→Option Value) (k:Int) (v:Value):Int→Option Value:=λx=>if x=k then some v else f x
structure MiOk (es:Array MapEntry) (clock:Nat) (f:Int→Option Value):Prop where
 keys:∀e∈es.toList,∃k,e.key=ik k∧f k=some e.val
 all:∀k v,f k=some v→∃e∈es.toList,e.key=ik k
 nodup:(es.toList.map (·.key)).Nodup
 born:(es.toList.map (·.born)).Nodup
 old:∀e∈es.toList,e.born<clock
def Mi (w:World) (g:Nat) (f:Int→Option Value):Prop:=∃es clock,w.heap[g]?=some (.map es clock)∧MiOk es clock f
theorem MiOk.val {es:Array MapEntry} {clock:Nat} {f:Int→Option Value} (h:MiOk es clock f) {e:MapEntry} (he:e∈es.toList) {k:Int} (hk:e.key=ik k):f k=some e.val:=by
 obtain ⟨k',h1,h2⟩:=h.keys e he;rw [hk] at h1
 rw [bJ h1];exact h2
theorem MiOk.empty : MiOk #[] 0 (λ_=>none):=⟨by simp,by simp,by simp,by simp,by simp⟩
theorem MiOk.push {es:Array MapEntry} {clock:Nat} {f:Int→Option Value} (h:MiOk es clock f) {k:Int} (v:Value) (hn:f k=none):MiOk (es.push { key:=ik k,val:=v,born:=clock }) (clock+1) (upd f k v) where
 keys e he:=by
  rw [Array.toList_push,List.mem_append,List.mem_singleton] at he
  rcases he with he|rfl
  ·obtain ⟨k',h1,h2⟩:=h.keys e he;refine ⟨k',h1,?_⟩;unfold upd;rw [if_neg (by rintro rfl;rw [hn] at h2;cases h2)];exact h2
  ·exact ⟨k,X,by simp [upd]⟩
 all k' v' hv:=by
  unfold upd at hv
  rw [Array.toList_push]
  by_cases hk:k'=k
  ·exact ⟨_,List.mem_append.2 (.inr (List.mem_singleton.2 X)),by rw [hk]⟩
  ·rw [if_neg hk] at hv
   obtain ⟨e,he,h1⟩:=h.all k' v' hv;exact ⟨e,List.mem_append.2 (.inl he),h1⟩
 nodup:=by
  rw [Array.toList_push,List.map_append,List.nodup_append];refine ⟨h.nodup,by simp,?_⟩;intro a ha b hb;obtain ⟨e,he,rfl⟩:=List.mem_map.1 ha;obtain rfl:b=ik k:=by simpa using hb
  intro e1
  have:=h.val he e1
  rw [hn] at this
  cases this
 born:=by
  rw [Array.toList_push,List.map_append,List.nodup_append];refine ⟨h.born,by simp,?_⟩;intro a ha b hb;obtain ⟨e,he,rfl⟩:=List.mem_map.1 ha;obtain rfl:b=clock:=by simpa using hb
  have:=h.old e he
  omega
 old e he:=by
  rw [Array.toList_push,List.mem_append,List.mem_singleton] at he
  rcases he with he|rfl
  ·have:=h.old e he;omega
  ·exact Nat.lt_succ_self _
def aP (k:Int) (v:Value) (e:MapEntry):MapEntry:={ e with key:=ik k,val:=v }
theorem T7 {es:Array MapEntry} {j:Nat} {g:MapEntry→MapEntry} {e:MapEntry} (h:e∈(es.modify j g).toList):(∃i,i≠j∧es[i]?=some e)∨∃e0,es[j]?=some e0∧e=g e0:=by
 obtain ⟨i,hi⟩:=List.getElem?_of_mem h;rw [Array.toList_modify,List.getElem?_modify] at hi
 by_cases hij:j=i
 ·subst hij
  right
  simp only [if_true] at hi
  obtain ⟨e0,h1,h2⟩:=Option.map_eq_some_iff.1 hi;exact ⟨e0,by simpa using h1,h2.symm⟩
 ·left
  simp only [if_neg hij] at hi
  exact ⟨i,λe=>hij e.symm,by simpa using hi⟩
theorem T8 {β:Type} {es:Array MapEntry} {j:Nat} {g:MapEntry→MapEntry} {q:MapEntry→β} (h:∀e,es[j]?=some e→q (g e)=q e):(es.modify j g).toList.map q=es.toList.map q:=by
 apply List.ext_getElem?
 intro i;rw [Array.toList_modify,List.getElem?_map,List.getElem?_modify,List.getElem?_map]
 by_cases hij:j=i
 ·subst hij;simp only [if_true]
  cases hj:es.toList[j]? with
  | none=>rfl
  | some e=>simp [h e (by simpa using hj)]
 ·simp [hij]
theorem MiOk.modify {es:Array MapEntry} {clock j:Nat} {f:Int→Option Value} (h:MiOk es clock f) {k:Int} (v:Value) {en:MapEntry} (hj:es[j]?=some en) (hk:en.key=ik k):MiOk (es.modify j (aP k v)) clock (upd f k v) where
 keys e he:=by
  rcases T7 he with ⟨i,hij,hi⟩|⟨e0,h0,rfl⟩
  ·have hm:e∈es.toList:=by have:=Array.mem_of_getElem? hi;simpa using this
   obtain ⟨k',h1,h2⟩:=h.keys e hm;refine ⟨k',h1,?_⟩;unfold upd;rw [if_neg ?_]
   ·exact h2
   ·rintro rfl;have hl:i<es.toList.length:=by have:=(Array.getElem?_eq_some_iff.1 hi).1;simpa using this
    have hl':j<es.toList.length:=by have:=(Array.getElem?_eq_some_iff.1 hj).1;simpa using this
    have e1:(es.toList.map (·.key))[i]?=(es.toList.map (·.key))[j]?:=by
     rw [List.getElem?_map,List.getElem?_map]
     simp [hi,hj,h1,hk]
    exact hij ((List.getElem?_inj (by simpa using hl) h.nodup).1 e1)
  ·exact ⟨k,X,by simp [upd,aP]⟩
 all k' v' hv:=by
  have hnew:aP k v en∈(es.modify j (aP k v)).toList:=by
   apply List.mem_of_getElem? (i:=j)
   rw [Array.toList_modify,List.getElem?_modify]
   simp [hj]
  by_cases hk':k'=k
  ·exact ⟨_,hnew,by rw [hk'];rfl⟩
  ·unfold upd at hv
   rw [if_neg hk'] at hv
   obtain ⟨e,he,h1⟩:=h.all k' v' hv;obtain ⟨i,hi⟩:=List.getElem?_of_mem he;refine ⟨e,?_,h1⟩
   apply List.mem_of_getElem? (i:=i)
   rw [Array.toList_modify,List.getElem?_modify]
   have hne:j≠i:=by
    rintro rfl
    have : en = e := by have h2 : es.toList[j]? = some en := by simpa using hj
                        rw [h2] at hi;exact Option.some.inj hi
    subst this;rw [hk] at h1
    exact hk' (bJ h1).symm
   simp [hne,hi]
 nodup:=by rw [T8 (λe he=>by rw [hj] at he;injection he with he;subst he;exact hk.symm)];exact h.nodup
 born:=by rw [T8 (g:=aP k v) (q:=λe=>e.born) (λe he=>rfl)];exact h.born
 old e he:=by
  rcases T7 he with ⟨i,_,hi⟩|⟨e0,h0,rfl⟩
  ·exact h.old e (by have:=Array.mem_of_getElem? hi;simpa using this)
  ·exact h.old e0 (by have:=Array.mem_of_getElem? h0;simpa using this)
theorem lP (a b:Int) (q:IntKind):Instr.sameNow (.int q) (ik a) (ik b)=some (a==b):=by
 unfold ik;simp only [Instr.sameNow,if_true]
theorem ZE (q:IntKind) (k:Int):∀(es:List MapEntry) (i:Nat),(∀e∈es,∃k',e.key=ik k') →
 ((∀e∈es,e.key≠ik k)∧Instr.findNow (.int q) (ik k) es i=some none)∨∃j e,es[j]?=some e∧e.key=ik k∧Instr.findNow (.int q) (ik k) es i=some (some (i+j,e.val))
 | [],i,_=>.inl ⟨λ_ h=>by (cases h),rfl⟩
 | en::es,i,h=>by
  obtain ⟨k',hk'⟩:=h en (by simp);have hc:Instr.findNow (.int q) (ik k) (en::es) i=match Instr.sameNow (.int q) (ik k) en.key with|some true=>some (some (i,en.val))|some false=>Instr.findNow (.int q) (ik k) es (i+1)|none=>none:=X
  rw [hk',lP] at hc
  by_cases hk:k=k'
  ·subst hk;refine .inr ⟨0,en,X,hk',?_⟩;rw [hc];simp
  ·have hb:(k==k')=false:=by simpa using hk
   rw [hb] at hc
   rcases ZE q k es (i+1) (λe he=>h e (List.mem_cons_of_mem _ he)) with ⟨h1,h2⟩|⟨j,e,h1,h2,h3⟩
   ·refine .inl ⟨λe he=>?_,by rw [hc];exact h2⟩;rcases List.mem_cons.1 he with rfl|he
    ·rw [hk'];exact λe=>hk (bJ e).symm
    ·exact h1 e he
   ·refine .inr ⟨j+1,e,by simpa using h1,h2,?_⟩;rw [hc]
    show Instr.findNow (.int q) (ik k) es (i+1)=_
    rw [h3,show i+1+j=i+(j+1) by omega]
theorem MiOk.find {es:Array MapEntry} {clock:Nat} {f:Int→Option Value} (h:MiOk es clock f) (q:IntKind) (k:Int) :
 (f k=none∧Instr.findNow (.int q) (ik k) es.toList 0=some none)∨∃j e,es[j]?=some e∧e.key=ik k∧f k=some e.val∧Instr.findNow (.int q) (ik k) es.toList 0=some (some (j,e.val)):=by
 rcases ZE q k es.toList 0 (λe he=>by obtain ⟨k',h1,_⟩:=h.keys e he;exact ⟨k',h1⟩) with ⟨h1,h2⟩|⟨j,e,h1,h2,h3⟩
 ·refine .inl ⟨?_,h2⟩
  cases hf:f k with
  | none=>rfl
  | some v=>
   obtain ⟨e,he,hk⟩:=h.all k v hf;exact absurd hk (h1 e he)
 ·refine .inr ⟨j,e,by simpa using h1,h2,h.val (List.mem_of_getElem? h1) h2,by simpa using h3⟩
section
variable {P:Program} {e:Env} {w:World} {o:Oper}
theorem NA {kt:TypeId} {q:IntKind} {k:Int} {es:List MapEntry} {r:Option (Nat × Value)} (hd:P.underlying kt=some (.int q)) (hf:Instr.findNow (.int q) (ik k) es 0=some r) (w:World):(Instr.findKey kt (ik k) es).run P w=.ok r w:=by
 unfold Instr.findKey
 simp [run_underlying hd,hf]
theorem O8 {kt:TypeId} {q:IntKind} (hd:P.underlying kt=some (.int q)) (k:Int) (b:Bool) (w:World):(Instr.checkKey b 10000 kt (ik k)).run P w=.ok () w:=by
 show (Instr.checkKey b (9999+1) kt _).run P w=_
 unfold Instr.checkKey
 simp [run_underlying hd]
theorem Q5 {g clock:Nat} {es:Array MapEntry} (hb:w.heap[g]?=some (.map es clock)):(Go.getObj g).run P w=.ok (.map es clock) w:=by
 unfold Go.getObj;simp only [Sem.run,hb]
theorem j0 {ρ:Operand→Value} {t:TypeId} (ho:o.op=.makeMap t none):GB P ρ o w λv w'=>∃g,v=.map (some g)∧w.heap.size≤g∧g<w'.heap.size∧Mi w' g (λ_=>none)∧Fr0 w w':=by
 refine ⟨.map (some w.heap.size),w.alloc (.map #[] 0),.inl ?_,w.heap.size,X,Nat.le_refl _,by simp,⟨#[],0,by show (w.heap.push (.map #[] 0))[w.heap.size]?=_;simp,MiOk.empty⟩,Fr.refl.alloc _⟩;unfold execOp
 simp [ho,Instr.makeMap]
theorem q6 {t kt el:TypeId} {q:IntKind} {x i:Operand} {ok:Bool} {g:Nat} {k:Int} {f:Int→Option Value} {z:Value} (ho:o.op=.lookup t x i ok) (hx:ev e x=some (.map (some g))) (hi:ev e i=some (AC k)) (hu:P.underlying t=some (.map kt el)) (hd:P.underlying kt=some (.int q))
 (hz:(P.info? el).map (·.zero)=some (some z)) (hM:Mi w g f):Y P e o w (if ok then .tuple #[(f k).getD z,.bool (f k).isSome] else (f k).getD z):=λρ h=>by
 obtain ⟨es,clock,hb,hes⟩:=hM;obtain ⟨inf,hinf,hinz⟩:=Option.map_eq_some_iff.1 hz;have h1:ρ x=.map (some g):=h _ _ hx;have h2:ρ i=ik k:=h _ _ hi;unfold execOp;simp only [ho,h1,h2];unfold Instr.lookup;simp only [Sem.run_bind,run_underlying hu,Result.andThen_ok,Sem.run_pure,Q5 hb,O8 hd];rcases hes.find q k with ⟨a1,a2⟩|⟨j,en,_,_,a1,a2⟩
 ·simp only [NA hd a2,a1]
  cases ok<;>simp [zeroValue,typeInfo,hinf,hinz]
 ·simp only [NA hd a2,a1]
  cases ok<;>simp
theorem bD {t kt el:TypeId} {q:IntKind} {g clock:Nat} {es:Array MapEntry} {k:Int} {v:Value} {f:Int→Option Value} (hu:P.underlying t=some (.map kt el)) (hd:P.underlying kt=some (.int q)) (hb:w.heap[g]?=some (.map es clock)) (hes:MiOk es clock f) :
 ∃es' clock',(Instr.mapUpdate t (.map (some g)) (ik k) v).run P w=.ok () { w with heap:=w.heap.setIfInBounds g (.map es' clock') }∧MiOk es' clock' (upd f k v) ∧
  (f k≠none→clock'=clock∧∃j en,es[j]?=some en∧en.key=ik k∧es'=es.modify j (aP k v)):=by
 have hbits:Instr.sameBits 10000 (ik k) (ik k)=true:=by
  unfold ik
  simp [Instr.sameBits]
 rcases hes.find q k with ⟨a1,a2⟩|⟨j,en,hen,hkey,a1,a2⟩
 ·refine ⟨es.push { key:=ik k,val:=v,born:=clock },clock+1,?_,hes.push v a1,λh=>absurd a1 h⟩;unfold Instr.mapUpdate;simp only [Sem.run_bind,run_underlying hu,Result.andThen_ok,Q5 hb,O8 hd,NA hd a2];unfold setObj;simp only [Sem.run,hb]
 ·refine ⟨es.modify j (aP k v),clock,?_,hes.modify v hen hkey,λ_=>⟨X,j,en,hen,hkey,X⟩⟩;have hold:((es[j]?).map (·.key)).getD (ik k)=ik k:=by rw [hen];exact hkey
  unfold Instr.mapUpdate;simp only [Sem.run_bind,run_underlying hu,Result.andThen_ok,Q5 hb,O8 hd,NA hd a2,hold,Instr.keyThatStays,hbits,if_true,Sem.run_pure];unfold setObj;simp only [Sem.run,hb]
  rfl
theorem iZ {ρ:Operand→Value} {t kt el:TypeId} {q:IntKind} {mp i x:Operand} {g:Nat} {k:Int} {v:Value} {f:Int→Option Value} (ho:o.op=.mapUpdate t mp i x) (hm:ρ mp=.map (some g)) (hi:ρ i=AC k) (hx:ρ x=v) (hu:P.underlying t=some (.map kt el)) (hd:P.underlying kt=some (.int q))
 (hM:Mi w g f):GB P ρ o w λu w'=>u=undef∧Fr (λb=>b=g) w w'∧Mi w' g (upd f k v):=by
 obtain ⟨es,clock,hb,hes⟩:=hM;have hlt:g<w.heap.size:=(Array.getElem?_eq_some_iff.1 hb).1;obtain ⟨es',clock',hrun,hok,_⟩:=bD (P:=P) (k:=k) (v:=v) hu hd hb hes;refine ⟨undef,{ w with heap:=w.heap.setIfInBounds g (.map es' clock') },.inr ⟨?_,X⟩,X,⟨X,X,X,by simp,λr _ hn=>by simp [Array.getElem?_setIfInBounds_ne (Ne.symm hn)]⟩,es',clock',by simp [hlt],hok⟩;unfold execOp;have hi':ρ i=ik k:=hi;simp only [ho,hm,hi',hx,Sem.run_bind,hrun,Result.andThen_ok];rfl
end
end
open Tryz
section
section
variable {P:Program} {e:Env} {w:World} {o:Oper}
theorem cF {s d:TypeId} {x:Operand} {v v':Value} (ho:o.op=.convert s d x) (hx:ev e x=some v) (hc:(convert s d v).run P w=.ok v' w):Y P e o w v':=λρ h=>by
 unfold execOp;simp [ho,h _ _ hx,hc]
theorem f4 {t t' el n:Nat} {a:Addr} {x y:Operand} (ho:o.op=.binOp .neq t x y t') (hx:ev e x=some (.pointer (some a))) (hy:ev e y=some (.pointer (some a))) (hu:NB P t=some el) (hz:∀w,(Go.sizeOf el).run P w=.ok n w):Y P e o w (.bool false):=λρ h=>by
 have h1:(Op.equal t (.pointer (some a)) (.pointer (some a))).run P w=.ok true w:=by
  unfold Op.equal Op.maxDepth Op.equalIn
  simp [run_underlying (ST hu),hz,sameAddr]
 unfold execOp;simp [ho,h _ _ hx,h _ _ hy,eqGuard_at_pointer,binOp,h1]
theorem uV {f:FuncId} {x:Operand} {ts:Array TypeId} {v:Value} (ho:o.op=.call { callee:=.value (.func f),args := #[x],argTypes:=ts }) (hx:ev e x=some v) (hc:∀(u:Value) (w:World),(callFunc f #[u]).run P w=.ok (.value u) w):Y P e o w v:=λρ h=>by
 have h0:ρ (.func f)=.func (.func f) #[] #[]:=h _ _ X;unfold execOp;simp [ho,h _ _ hx,h0,resolve,invoke,Deferred.ofValue,hc]
end
theorem Fr.below1 {w w':World} {b B:Nat} (h:Fr (λk=>k=b) w w') (hb:B≤b) (hBw:B≤w.heap.size):Below B w w':=⟨h.os,h.tape,h.output,h.size,λk hk=>h.block k AA AA⟩
theorem yL (u:Value) (w:World):(callFunc 218 #[u]).run prog w=.ok (.value u) w:=by
 rw [run_callFunc_extern func218 gkr gkr gkr (e:=Extern.AbiNoEscape.same) gkr,Lib.run_noEscape]
 rfl
theorem pQ : liesAt prog prog.depth 246 (2 / prog.cellsOf 246) 0 246 1=true:=by kernel_rfl
theorem pR : (prog.info? 246).map (·.size)=some 2:=by kernel_rfl
theorem lW : (prog.info? 243).map (·.size)=some 1:=by kernel_rfl
theorem lK : (prog.info? 244).map (·.size)=some 1:=by kernel_rfl
theorem qQ : (prog.info? 5).map (λi=>(i.zero,i.size,i.bytes))=some (some (.int .u8 0),1,1):=by kernel_rfl
theorem vI : (prog.info? 5).map (λi=>(i.zero,i.size))=some (some (.int .u8 0),1):=by kernel_rfl
theorem X8 (B b:Nat) (bs:List Value) (w:World) (h:Lib.IsBuilder 246 5 B b bs w) (hBw:B≤w.heap.size) :
 Calls prog 198 #[.pointer (some ⟨b,0,none⟩)] w λe w'=>e=.returned (.tuple #[])∧Lib.BuilderAt 246 5 B b (.pointer (some ⟨b,0,none⟩)) bs w'∧Below B w w':=by
 rcases h with h|h
 ·have hsh:=h.shape;obtain ⟨hB,v,hbk,hown,hne⟩:=h;have hb:Blk w b 246 [.pointer none,v]:=hbk;have c0:Cell w.heap b 0 (.pointer none):=hb.c 0 X;obtain ⟨j,hj,hjs⟩:=Option.map_eq_some_iff.1 pR;refine sx_enter (vs:=[_]) func198 X ntmps198 X (AE X (AV X X (yl X X (by assumption) (ya X (J1 X X X (pt X)) (nq (sx_true X (sx_region (AV X X (ya X (cF X X (Lib.run_to_unsafe _ ⟨b,0,none⟩ underlying243 underlying287 hj (by rw [hjs];decide) hsh (by show 0<2;omega))) (ya X (uV X X yL) ?_))))))))));refine ya X (cF X X (Lib.run_from_unsafe _ ⟨b,0,none⟩ underlying287 underlying243 hj hsh pQ)) (AV X X (sxl_does none (wn_none X) X X (λρ hρ=>CU _ _ _ X b 0 _ _ (.pointer (some ⟨b,0,none⟩)) (hρ _ _ X) (hρ _ _ X) X hb lW (by show 0<2;omega) X) ?_));rintro _ w1 ⟨rfl,hb1,hf1⟩;exact sxl_nil (qx_ret0 (Or.inr X) X ⟨X,⟨hB,v,hb1,aW hown hf1 (λk hk e=>hne (by rw [hk,e])),hne⟩,hf1.below1 hB hBw⟩)
 ·have h':=h;obtain ⟨hB,v,hbk,hown,hne⟩:=h;have hb:Blk w b 246 [.pointer (some ⟨b,0,none⟩),v]:=hbk;have c0:Cell w.heap b 0 (.pointer (some ⟨b,0,none⟩)):=hb.c 0 X;refine sx_enter (vs:=[_]) func198 X ntmps198 X (AE X (AV X X (yl X X (by assumption) (ya X (J1 X X X (pt X)) (nq (sx_false X (AE X (AV X X ?_))))))));exact yl X X (by assumption) (yb X (ya X (f4 X X X (pt X) sizeOf246) (nq (sx_false X (sx_skip (qx_ret0 (Or.inr X) X ⟨X,h',Below.refl B w⟩))))))
theorem OT (B b:Nat) (l:List UInt8) (c:UInt8) (w:World) (h:Lib.IsBuilder 246 5 B b (bvs l) w) (hlen:l.length+1≤140737488355328) (hBw:B≤w.heap.size) :
 Calls prog 176 #[.pointer (some ⟨b,0,none⟩),.int .u8 (c.toNat:Int)] w λe w'=>e=.returned .nilIface∧Lib.IsBuilder 246 5 B b (bvs (l++[c])) w'∧Below B w w':=by
 refine sx_enter (vs:=[_,_]) func176 X ntmps176 X (srg (AJ X (AE X (cl 6 X (AG X X call198) (X8 B b _ _ h hBw) ?_))));rintro _ w1 ⟨rfl,h1,hb1⟩;refine ⟨_,X,?_⟩;obtain ⟨hB,v,hbk,hown,hne⟩:=h1;have hb:Blk w1 b 246 [.pointer (some ⟨b,0,none⟩),v]:=hbk;obtain ⟨A,cap,rfl,_,hcm,hrd,_⟩:=YO hown;have c1:Cell w1.heap b 1 (.slice A (bvs l).length cap):=hb.c 1 X;refine EV ?_;iterate 4 refine yb X ?_
 refine yl X X (by assumption) (yb X (sxl_does (some 13) (wn_none X) X X (λρ hρ=>D3 [bv c] (.int .u8 0) hρ X X X X underlying244 vI B3 B3 (by intro u hu;simp only [List.mem_singleton] at hu;subst hu;rfl)) ?_));rintro _ w2 ⟨g2,rfl,hg1,hg2,hb2,hf2⟩;have hB1:=hb1.size;refine sxl_does (some 14) (wn_none X) X X (λρ hρ=>ZK _ _ 244 X B 5 _ _ underlying244 qQ X _ _ (bvs l) (hρ _ _ X) (aW hown hf2 (λ_ _ hh=>hh)) _ 1 1 [bv c] (hρ _ _ X) (Rd.ofBlk hb2 X) (by intro u hu;simp only [List.mem_singleton] at hu;subst hu;rfl) (by rw [UA];unfold maxLen;omega) (by rw [UA];omega) (by have:=hf2.size;omega)) ?_;rintro v3 w3 ⟨hown3,hgr,hrow⟩;obtain ⟨A3,cap3,rfl,_,_,_,_⟩:=YO hown3;have hlt:b<w1.heap.size:=hb.lt
 have hb3:Blk w3 b 246 [.pointer (some ⟨b,0,none⟩),.slice A (bvs l).length cap]:=by
  have h2:Blk w2 b 246 _:=hb.fr0 hf2;exact (hgr.block b h2.lt (λe=>hne e.symm)).trans h2
 have hne3:(Value.slice A3 ((bvs l).length+1) cap3).ownBlock≠some b:=Lib.ownBlock_ne hown3 hb3 B3;refine AV X X (sxl_does none (wn_none X) X X (λρ hρ=>CU _ _ _ X b 1 _ _ (.slice A3 ((bvs l).length+1) cap3) (hρ _ _ X) (hρ _ _ X) X hb3 lK (by show 1<2;omega) X) ?_);rintro _ w4 ⟨rfl,hb4,hf4⟩;refine nq (AE X (gnr (gr1 X ?_)));have hl:bvs (l++[c])=bvs l++[bv c]:=by simp [bvs]
 have hf3:Fr (λk=>some k=(Value.slice A (bvs l).length cap).ownBlock) w2 w3:=⟨hgr.os,hgr.tape,hgr.output,hgr.size,λk hk hn=>hgr.block k hk hn⟩;refine ⟨X,.inr ⟨hB,_,hb4,?_,?_⟩,?_⟩
 ·rw [hl]
  have:=aW hown3 hf4 (λk hk e=>hne3 (by rw [hk,e]))
  simpa using this
 ·simpa using hne3
 ·have hw2:=hf2.size;refine hb1.trans ⟨hf4.os.trans (hf3.os.trans hf2.os),hf4.tape.trans (hf3.tape.trans hf2.tape),hf4.output.trans (hf3.output.trans hf2.output),Nat.le_trans hf2.size (Nat.le_trans hf3.size hf4.size),λk hk=>?_⟩;rw [hf4.block k (by have:=hf3.size;omega) AA,hf3.block k AA (λe=>?_),hf2.block k AA (λhh=>hh)]
  have:=(hown.lt k e.symm).1
  omega
end
theorem FV {P:Program} {e:Env} {w:World} {o:Oper} {t t':Nat} {a b:List UInt8} {x y:Operand} (ho:o.op=.binOp .add t x y t') (hx:ev e x=some (str a)) (hy:ev e y=some (str b)) (hl:a.length+b.length≤9223372036854775807):Y P e o w (str (a++b)):=λρ h=>by
 have h1:ρ x=.string ⟨a.toArray⟩:=h _ _ hx;have h2:ρ y=.string ⟨b.toArray⟩:=h _ _ hy;unfold execOp;have hs:((⟨a.toArray⟩:ByteArray).size:Nat)=a.length:=by show a.toArray.size=_;simp
 have hs2:((⟨b.toArray⟩:ByteArray).size:Nat)=b.length:=by show b.toArray.size=_;simp
 have hap:(⟨a.toArray⟩:ByteArray)++(⟨b.toArray⟩:ByteArray)=⟨(a++b).toArray⟩:=by
  apply ByteArray.ext
  rw [ByteArray.data_append]
  simp
 simp [ho,h1,h2,binOp,Op.stringOp,eqGuard_at_string,hs,hs2,hap,str,show ¬((9223372036854775807:Int)<(a.length:Int)+(b.length:Int)) by omega]
end Go.Proofs.YtaheakjfkpkefaaGreatDoor
namespace Go.Proofs
open Go.Shelf
def Tryz.lays189_ren : Go.Shelf.Ren:=⟨fun|189=>185|125=>203|257=>202|128=>231|129=>232|294=>222|295=>223|296=>224|297=>225|298=>226|299=>227|216=>228|300=>229|301=>230|328=>247|329=>248|330=>249|331=>250|332=>251|215=>148|343=>268|n=>n,fun|28=>76|3=>3|46=>44|0=>0|51=>300|53=>276|4=>4|183=>292|182=>291|131=>297|5=>5|9=>9|218=>318|222=>322|228=>332|229=>333|n=>n,fun|n=>n⟩
theorem Tryz.lays189 : Go.Proofs.Lays.n189 prog Tryz.lays189_ren:={
 mixed:=by kernel_rfl
 f125:=func203.trans (congrArg some (by kernel_rfl))
 f128:=func231.trans (congrArg some (by kernel_rfl))
 f129:=func232.trans (congrArg some (by kernel_rfl))
 f189:=func185.trans (congrArg some (by kernel_rfl))
 f215:=func148.trans (congrArg some (by kernel_rfl))
 f216:=func228.trans (congrArg some (by kernel_rfl))
 f257:=func202.trans (congrArg some (by kernel_rfl))
 f294:=func222.trans (congrArg some (by kernel_rfl))
 f295:=func223.trans (congrArg some (by kernel_rfl))
 f296:=func224.trans (congrArg some (by kernel_rfl))
 f297:=func225.trans (congrArg some (by kernel_rfl))
 f298:=func226.trans (congrArg some (by kernel_rfl))
 f299:=func227.trans (congrArg some (by kernel_rfl))
 f300:=func229.trans (congrArg some (by kernel_rfl))
 f301:=func230.trans (congrArg some (by kernel_rfl))
 f328:=func247.trans (congrArg some (by kernel_rfl))
 f329:=func248.trans (congrArg some (by kernel_rfl))
 f330:=func249.trans (congrArg some (by kernel_rfl))
 f331:=func250.trans (congrArg some (by kernel_rfl))
 f332:=func251.trans (congrArg some (by kernel_rfl))
 f343:=func268.trans (congrArg some (by kernel_rfl))
 t0:=underlying0
 a0:=isAgg0
 z0:=sizeOf0
 v0:=zeroValue0
 t3:=underlying3
 a3:=isAgg3
 z3:=sizeOf3
 v3:=zeroValue3
 t4:=underlying4
 a4:=isAgg4
 z4:=sizeOf4
 v4:=zeroValue4
 t5:=underlying5
 a5:=isAgg5
 z5:=sizeOf5
 v5:=zeroValue5
 t9:=underlying9
 a9:=isAgg9
 z9:=sizeOf9
 v9:=zeroValue9
 t28:=underlying76
 a28:=isAgg76
 z28:=sizeOf76
 v28:=zeroValue76
 t46:=underlying44
 a46:=isAgg44
 z46:=sizeOf44
 v46:=zeroValue44
 t51:=underlying300
 a51:=isAgg300
 z51:=sizeOf300
 v51:=zeroValue300
 t53:=underlying276
 a53:=isAgg276
 z53:=sizeOf276
 v53:=zeroValue276
 t131:=underlying297
 a131:=isAgg297
 z131:=sizeOf297
 v131:=zeroValue297
 t182:=underlying291
 a182:=isAgg291
 z182:=sizeOf291
 v182:=zeroValue291
 t183:=underlying292
 a183:=isAgg292
 z183:=sizeOf292
 v183:=zeroValue292
 t218:=underlying318
 a218:=isAgg318
 z218:=sizeOf318
 v218:=zeroValue318
 t222:=underlying322
 a222:=isAgg322
 z222:=sizeOf322
 v222:=zeroValue322
 t228:=underlying332
 a228:=isAgg332
 z228:=sizeOf332
 v228:=zeroValue332
 t229:=underlying333
 a229:=isAgg333
 z229:=sizeOf333
 v229:=zeroValue333 }
open Go.Sort Go.RowKit in
theorem Tryz.slices_Sort_int (blk off cap:Nat) (zs:List Int) (w:World) (hH:Holds (Value.int .i64) w blk off zs.toArray) (hblk:blk<w.heap.size) (hsz:zs.length<4611686018427387904) :
 Calls prog 185 #[.slice (some ⟨blk,off,none⟩) zs.length cap] w λe w'=>
  e=.returned (.tuple #[])∧∃n os,w'=grow (putRow (Value.int .i64) (Sort.ahead w n) blk off (zs.mergeSort λx y=>decide (x≤y)).toArray) os:=Any.slices_Sort_int Tryz.lays189 blk off cap zs w hH hblk hsz
open Go.RowKit Go.Sort in
theorem Tryz.slices_Sort_int_none (p:Option Addr) (cap:Nat) (w:World) :
 Calls prog 185 #[.slice p 0 cap] w λe w'=>e=.returned (.tuple #[])∧w'=w:=Any.slices_Sort_int_none Tryz.lays189 p cap w
end Go.Proofs
namespace Go.Proofs
open Go.Shelf
def Tryz.lays106_ren : Go.Shelf.Ren:=⟨fun|106=>292|213=>297|265=>298|n=>n,fun|9=>9|3=>3|n=>n,fun|n=>n⟩
theorem Tryz.lays106 : Go.Proofs.Lays.n106 prog Tryz.lays106_ren:={
 mixed:=by kernel_rfl
 f106:=func292.trans (congrArg some (by kernel_rfl))
 f213:=func297.trans (congrArg some (by kernel_rfl))
 f265:=func298.trans (congrArg some (by kernel_rfl))
 t3:=underlying3
 a3:=isAgg3
 z3:=sizeOf3
 v3:=zeroValue3
 t9:=underlying9
 a9:=isAgg9
 z9:=sizeOf9
 v9:=zeroValue9 }
open Go.RowKit in
theorem Tryz.strings_Compare (a b:ByteArray) (w:World) :
 Calls prog 292 #[.string a,.string b] w λe w'=>e=.returned (.int .i64 (Lib.compareBytes a.data.toList b.data.toList))∧w'=w:=Any.strings_Compare Tryz.lays106 a b w
def Tryz.lays264_ren : Go.Shelf.Ren:=⟨fun|264=>277|n=>n,fun|53=>276|46=>44|n=>n,fun|n=>n⟩
theorem Tryz.lays264 : Go.Proofs.Lays.n264 prog Tryz.lays264_ren:={
 mixed:=by kernel_rfl
 f264:=func277.trans (congrArg some (by kernel_rfl))
 t46:=underlying44
 a46:=isAgg44
 z46:=sizeOf44
 v46:=zeroValue44
 t53:=underlying276
 a53:=isAgg276
 z53:=sizeOf276
 v53:=zeroValue276 }
open Go.RowKit Go.Lib in
theorem Tryz.bits_Mul64 (x y:Nat) (hx:x<18446744073709551616) (hy:y<18446744073709551616) (w:World) :
 Calls prog 277 #[.int .u64 x,.int .u64 y] w λe w'=>e=.returned (.tuple #[.int .u64 ((x*y / 18446744073709551616:Nat):Int),.int .u64 ((x*y%18446744073709551616:Nat):Int)])∧w'=w:=Any.bits_Mul64 Tryz.lays264 x y hx hy w
end Go.Proofs
namespace Go.Proofs
open Go.Shelf
def Tryz.lays112_ren : Go.Shelf.Ren:=⟨fun|112=>186|n=>n,fun|28=>76|3=>3|4=>4|0=>0|n=>n,fun|n=>n⟩
theorem Tryz.lays112 : Go.Proofs.Lays.n112 prog Tryz.lays112_ren:={
 mixed:=by kernel_rfl
 f112:=func186.trans (congrArg some (by kernel_rfl))
 t0:=underlying0
 a0:=isAgg0
 z0:=sizeOf0
 v0:=zeroValue0
 t3:=underlying3
 a3:=isAgg3
 z3:=sizeOf3
 v3:=zeroValue3
 t4:=underlying4
 a4:=isAgg4
 z4:=sizeOf4
 v4:=zeroValue4
 t28:=underlying76
 a28:=isAgg76
 z28:=sizeOf76
 v28:=zeroValue76 }
open Go.RowKit Go.Lib Go.Sort in
theorem Tryz.slices_Reverse_int (blk off cap:Nat) (zs:List Int) (w:World) (hH:Holds (Value.int .i64) w blk off zs.toArray) (hsz:zs.length≤9223372036854775807) :
 Calls prog 186 #[.slice (some ⟨blk,off,none⟩) zs.length cap] w λe w'=>e=.returned (.tuple #[])∧∃n,w'=putRow (Value.int .i64) (Sort.ahead w n) blk off zs.reverse.toArray:=Any.slices_Reverse_int Tryz.lays112 blk off cap zs w hH hsz
open Go.RowKit Go.Lib Go.Sort in
theorem Tryz.slices_Reverse_int_empty (a:Option Addr) (cap:Nat) (w:World) :
 Calls prog 186 #[.slice a 0 cap] w λe w'=>e=.returned (.tuple #[])∧w'=w:=Any.slices_Reverse_int_empty Tryz.lays112 a cap w
end Go.Proofs
namespace Go.Proofs.YtaheakjfkpkefaaGreatDoor
open Go.RowKit
section
def EU (L:List (List UInt8 × Value)) (k:List UInt8):Value:=(CA L k).getD (.slice none 0 0)
theorem J9 (L:List (List UInt8 × Value)) (k k':List UInt8) (v:Value):EU (D2 L k v) k'=if k'=k then v else EU L k':=by
 unfold EU;rw [EL]
 split<;>rfl
theorem YN {w w':World} {base size n:Nat} {e:TypeId} {v:Value} {xs:List Value} (h:w.ownsRow base e size v n xs) (hk:∀b,v.ownBlock=some b→b<w.heap.size→w'.heap[b]?=w.heap[b]?):w'.ownsRow base e size v n xs:=by
 refine ⟨h.1,?_⟩;rcases h.2 with hh|⟨g,cap,cur,rfl,hb,hg,r⟩
 ·exact .inl hh
 ·exact .inr ⟨g,cap,cur,X,hb,(hk g X (Array.getElem?_eq_some_iff.1 hg).1).trans hg,r⟩
structure Fam {α:Type} (w:World) (base:Nat) (e:TypeId) (size:Nat) (cells:α→List Value) (g:Nat) (L:List (List UInt8 × Value)) (rows:List UInt8→List α) (bad:List UInt8→Prop) (F:List Nat):Prop where
 map:Mp w g L
 gF:¬g∈F
 row:∀k,¬bad k→w.ownsRow base e size (EU L k) (rows k).length (AD cells (rows k))∧∀b,(EU L k).ownBlock=some b→b∈F
 apart:∀k k' b,¬bad k→¬bad k'→(EU L k).ownBlock=some b→(EU L k').ownBlock=some b→k=k'
section
variable {α:Type} {w w' w0:World} {base size g:Nat} {e:TypeId} {cells:α→List Value} {L:List (List UInt8 × Value)} {rows:List UInt8→List α} {bad:List UInt8→Prop} {F:List Nat} {S:Nat→Prop} {Ls:List As}
theorem Fam.keep (hk:∀b∈g::F,b<w.heap.size→w'.heap[b]?=w.heap[b]?) (h:Fam w base e size cells g L rows bad F):Fam w' base e size cells g L rows bad F:=by
 obtain ⟨⟨es,cl,h1,h2⟩,hg,hr,ha⟩:=h;exact ⟨⟨es,cl,(hk g (by simp) (Array.getElem?_eq_some_iff.1 h1).1).trans h1,h2⟩,hg,λk hb=>⟨YN (hr k hb).1 (λb hb' hl=>hk b (List.mem_cons_of_mem _ ((hr k hb).2 b hb')) hl),(hr k hb).2⟩,ha⟩
def As.fam {α:Type} (base:Nat) (e:TypeId) (size:Nat) (cells:α→List Value) (g:Nat) (L:List (List UInt8 × Value)) (rows:List UInt8→List α) (bad:List UInt8→Prop) (F:List Nat):As:=
 ⟨g::F,λw=>Fam w base e size cells g L rows bad F,λh hb=>hb.keep h⟩
theorem Fam.new (hm:Mp w g []) (base:Nat) (e:TypeId) (size:Nat) (cells:α→List Value):Fam w base e size cells g [] (λ_=>[]) (λ_=>False) []:=
 ⟨hm,by simp,λk _=>⟨⟨by simp [AD],.inl ⟨by simp [EU,CA],rfl⟩⟩,λb hb=>by simp [EU,CA,Value.ownBlock] at hb⟩,λk k' b _ _ hb=>by simp [EU,CA,Value.ownBlock] at hb⟩
theorem Mem.split2 {a b c:As} (M:Mem w0 S (c::Ls) w) (ha:a.ok w) (hb:b.ok w) (hfa:∀x∈a.fp,x∈c.fp) (hfb:∀x∈b.fp,x∈c.fp) (hab:∀x∈a.fp,x∉b.fp):Mem w0 S (a::b::Ls) w:=by
 have rest:∀(i:Nat) (d:As),(a::b::Ls)[i+2]?=some d→(c::Ls)[i+1]?=some d:=λi d h=>h
 refine ⟨M.fr,?_,?_,?_⟩
 ·intro i d hi
  match i with
  | 0=>simp only [List.getElem?_cons_zero,Option.some.injEq] at hi;subst hi;exact ha
  | 1=>simp only [List.getElem?_cons_succ,List.getElem?_cons_zero,Option.some.injEq] at hi;subst hi;exact hb
  | i+2=>exact M.ok (i+1) d (rest i d hi)
 ·intro i d hi x hx
  match i with
  | 0=>simp only [List.getElem?_cons_zero,Option.some.injEq] at hi;subst hi;exact M.lt 0 c rfl x (hfa x hx)
  | 1=>simp only [List.getElem?_cons_succ,List.getElem?_cons_zero,Option.some.injEq] at hi;subst hi;exact M.lt 0 c rfl x (hfb x hx)
  | i+2=>exact M.lt (i+1) d (rest i d hi) x hx
 ·intro i j d d' hi hj hne x hx hx'
  match i,j with
  | 0,0=>exact hne rfl
  | 1,1=>exact hne rfl
  | 0,1=>
   simp only [List.getElem?_cons_succ,List.getElem?_cons_zero,Option.some.injEq] at hi hj;subst hi;subst hj
   exact hab x hx hx'
  | 1,0=>
   simp only [List.getElem?_cons_succ,List.getElem?_cons_zero,Option.some.injEq] at hi hj;subst hi;subst hj
   exact hab x hx' hx
  | 0,j+2=>
   simp only [List.getElem?_cons_zero,Option.some.injEq] at hi;subst hi
   exact M.apart 0 (j+1) c d' X (rest j d' hj) AA x (hfa x hx) hx'
  | 1,j+2=>
   simp only [List.getElem?_cons_succ,List.getElem?_cons_zero,Option.some.injEq] at hi;subst hi
   exact M.apart 0 (j+1) c d' X (rest j d' hj) AA x (hfb x hx) hx'
  | i+2,0=>
   simp only [List.getElem?_cons_zero,Option.some.injEq] at hj;subst hj
   exact M.apart (i+1) 0 d c (rest i d hi) X AA x hx (hfa x hx')
  | i+2,1=>
   simp only [List.getElem?_cons_succ,List.getElem?_cons_zero,Option.some.injEq] at hj;subst hj
   exact M.apart (i+1) 0 d c (rest i d hi) X AA x hx (hfb x hx')
  | i+2,j+2=>exact M.apart (i+1) (j+1) d d' (rest i d hi) (rest j d' hj) AA x hx hx'
theorem Mem.joinFam {a b:As} (M:Mem w0 S (a::b::Ls) w) (c:As) (hok:c.ok w) (hfp:∀x∈c.fp,x∈a.fp∨x∈b.fp):Mem w0 S (c::Ls) w:=by
 have rest:∀(i:Nat) (d:As),(c::Ls)[i+1]?=some d→(a::b::Ls)[i+2]?=some d:=λi d h=>h
 have fp:∀k,k∈c.fp→∃(i:Nat) (d:As),i<2∧(a::b::Ls)[i]?=some d∧k∈d.fp:=λk hk=>by
  rcases hfp k hk with h|h
  ·exact ⟨0,_,by decide,rfl,h⟩
  ·exact ⟨1,_,by decide,rfl,h⟩
 refine ⟨M.fr,?_,?_,?_⟩
 ·intro i d hi
  cases i with
  | zero=>simp only [List.getElem?_cons_zero,Option.some.injEq] at hi;subst hi;exact hok
  | succ i=>exact M.ok (i+2) d (rest i d hi)
 ·intro i d hi k hk
  cases i with
  | zero=>
   simp only [List.getElem?_cons_zero,Option.some.injEq] at hi;subst hi
   obtain ⟨j,f,_,h1,h2⟩:=fp k hk;exact M.lt j f h1 k h2
  | succ i=>exact M.lt (i+2) d (rest i d hi) k hk
 ·intro i j d f hi hj hne k hk hk'
  cases i with
  | zero=>
   cases j with
   | zero=>exact hne rfl
   | succ j=>
    simp only [List.getElem?_cons_zero,Option.some.injEq] at hi;subst hi
    obtain ⟨q,d',hq,h1,h2⟩:=fp k hk;exact M.apart q (j+2) d' f h1 (rest j f hj) AA k h2 hk'
  | succ i=>
   cases j with
   | zero=>
    simp only [List.getElem?_cons_zero,Option.some.injEq] at hj;subst hj
    obtain ⟨q,d',hq,h1,h2⟩:=fp k hk';exact M.apart (i+2) q d d' (rest i d hi) h1 AA k hk h2
   | succ j=>exact M.apart (i+2) (j+2) d f (rest i d hi) (rest j f hj) AA k hk hk'
theorem Mem.famTake (M:Mem w0 S (As.fam base e size cells g L rows (λ_=>False) F::Ls) w) (k0:List UInt8):∃A C F',EU L k0=.slice A (rows k0).length C∧Mem w0 S (As.own base e size (.slice A (rows k0).length C) (rows k0).length (AD cells (rows k0))::As.fam base e size cells g L rows (λk=>k=k0) F'::Ls) w:=by
 have h:Fam w base e size cells g L rows (λ_=>False) F:=M.ok 0 _ X;obtain ⟨ho,hF⟩:=h.row k0 (λhh=>hh);obtain ⟨A,C,hv,_⟩:=DI ho;refine ⟨A,C,F.filter (λb => !(decide ((EU L k0).ownBlock=some b))),hv,?_⟩;rw [hv] at ho
 refine M.split2 ho (show Fam w base e size cells g L rows (λk=>k=k0) _ from ⟨h.map,λhh=>h.gF (List.mem_filter.1 hh).1,λk hk=>⟨(h.row k (λhh=>hh)).1,λb hb=>List.mem_filter.2 ⟨(h.row k (λhh=>hh)).2 b hb,?_⟩⟩,λk k' b _ _ hb hb'=>h.apart k k' b (λhh=>hh) (λhh=>hh) hb hb'⟩) ?_ ?_ ?_
 ·simp only [Bool.not_eq_true',decide_eq_false_iff_not];exact λhb'=>hk (h.apart k k0 b (λhh=>hh) (λhh=>hh) hb hb')
 ·intro x hx;have hx':(EU L k0).ownBlock=some x:=by rw [hv];simpa [As.own] using hx
  exact List.mem_cons_of_mem _ (hF x hx')
 ·intro x hx;rcases List.mem_cons.1 hx with rfl|hx
  ·exact List.mem_cons_self
  ·exact List.mem_cons_of_mem _ (List.mem_filter.1 hx).1
 ·intro x hx hx';have h1:(EU L k0).ownBlock=some x:=by rw [hv];simpa [As.own] using hx
  rcases List.mem_cons.1 hx' with rfl|hx'
  ·exact h.gF (hF x h1)
  ·have:=(List.mem_filter.1 hx').2
   simp [h1] at this
theorem Mem.famPut {k0:List UInt8} {A:Option Addr} {n C:Nat} {row':List α} (M:Mem w0 S (As.own base e size (.slice A n C) n (AD cells row')::As.fam base e size cells g L rows (λk=>k=k0) F::Ls) w) (hv:EU L k0=.slice A n C) (hn:n=row'.length) (rows':List UInt8→List α) (h0:rows' k0=row') (h1:∀k,k≠k0→rows' k=rows k) :
 ∃F',Mem w0 S (As.fam base e size cells g L rows' (λ_=>False) F'::Ls) w:=by
 have h:Fam w base e size cells g L rows (λk=>k=k0) F:=M.ok 1 _ X;have ho:=M.own 0 X
 have hap:∀b,(EU L k0).ownBlock=some b→¬b∈g::F:=λb hb=>by
  rw [hv] at hb
  exact M.apart 0 1 _ _ X X B3 b (by simp [As.own,hb])
 refine ⟨(EU L k0).ownBlock.toList++F,M.joinFam _ (show Fam w base e size cells g L rows' (λ_=>False) _ from ⟨h.map,?_,?_,?_⟩) ?_⟩
 ·intro hh;rcases List.mem_append.1 hh with hh|hh
  ·exact hap g (by simpa using hh) List.mem_cons_self
  ·exact h.gF hh
 ·intro k _
  by_cases hk:k=k0
  ·subst hk;rw [h0,hv,←hn];exact ⟨ho,λb hb=>List.mem_append_left _ (by simpa using hb)⟩
  ·rw [h1 k hk];exact ⟨(h.row k hk).1,λb hb=>List.mem_append_right _ ((h.row k hk).2 b hb)⟩
 ·intro k k' b _ _ hb hb'
  by_cases hk:k=k0
  ·by_cases hk':k'=k0
   ·rw [hk,hk']
   ·subst hk;exact absurd (List.mem_cons_of_mem _ ((h.row k' hk').2 b hb')) (hap b hb)
  ·by_cases hk':k'=k0
   ·subst hk';exact absurd (List.mem_cons_of_mem _ ((h.row k hk).2 b hb)) (hap b hb')
   ·exact h.apart k k' b hk hk' hb hb'
 ·intro x hx;rcases List.mem_cons.1 (show x∈g::((EU L k0).ownBlock.toList++F) from hx) with rfl|hx
  ·exact .inr List.mem_cons_self
  ·rcases List.mem_append.1 hx with hx|hx
   ·left;rw [hv] at hx;simpa [As.own] using hx
   ·exact .inr (List.mem_cons_of_mem _ hx)
theorem Mem.putFam {k0:List UInt8} {v:Value} (M:Mem w0 S Ls w) (i:Nat) (hi:Ls[i]?=some (As.fam base e size cells g L rows (λk=>k=k0) F)) (hf:Fr (λb=>b=g) w w') (hb:Mp w' g (D2 L k0 v)):Mem w0 S (Ls.set i (As.fam base e size cells g (D2 L k0 v) rows (λk=>k=k0) F)) w':=by
 have h:Fam w base e size cells g L rows (λk=>k=k0) F:=M.ok i _ hi;refine M.upd i hi (hf.mono λk _ e=>by rw [e];exact List.mem_cons_self) _ (show Fam w' base e size cells g (D2 L k0 v) rows (λk=>k=k0) F from ⟨hb,h.gF,λk hk=>?_,λk k' b hk hk' h1 h2=>?_⟩) (λg' hg'=>.inl hg')
 ·rw [J9,if_neg hk];exact ⟨YN (h.row k hk).1 (λb hb' hl=>hf.block b hl (λhh=>h.gF (hh▸(h.row k hk).2 b hb'))),(h.row k hk).2⟩
 ·rw [J9,if_neg hk] at h1
  rw [J9,if_neg hk'] at h2
  exact h.apart k k' b hk hk' h1 h2
theorem Mem.famMp (M:Mem w0 S Ls w) (i:Nat) (hi:Ls[i]?=some (As.fam base e size cells g L rows bad F)):Mp w g L:=Fam.map (M.ok i _ hi)
end
end
open Go.ChangeShapes Go.WideShapes Go.ChangeAt Go.RowKit Go.Deep
section
section
variable {H:Type} {enc:TypeId × Value→H} {P:Program} {w:World}
def VU (enc:TypeId × Value→H) (P:Program) (w:World) (t:TypeId) (r:List Value) (d:DataW H):Prop:=∃n p,DataW.trod enc P w 0 (λ_=>true) true n t r=some (d,p)
theorem KH {t e sz len cap fuel:Nat} {A:Option Addr} {x:DataW H × List MemPlace} (ht:P.underlying t=some (.slice e)) (hc:P.cellsOf e=sz) (hpos:0<sz)
 (h:DataW.trod enc P w 0 (λ_=>true) true fuel t [.slice A len cap]=some x) :
 ∃(rows:List (List Value)) (D:List (DataW H)),rows.length=len∧D.length=len∧All sz rows∧Rd w A (len*sz) rows.flatten∧len≤cap∧cap≤maxLen∧(A=none→cap=0) ∧
  (∀(i:Nat) (r:List Value),rows[i]?=some r→∃d,D[i]?=some d∧VU enc P w e r d)∧((x.1=.nil∧len=0∧cap=0)∨∃sp,x.1=.slice D sp∧sp.length=cap-len):=by
 rcases open_slice ht h with ⟨hcs,rfl⟩|⟨a,len',cap',m,n,D,Pl,hcs,_,hl,hm,hmm,rfl,hx⟩
 ·simp only [List.cons.injEq,Value.slice.injEq,and_true] at hcs
  obtain ⟨rfl,rfl,rfl⟩:=hcs;exact ⟨[],[],X,X,All.nil,by rw [Nat.zero_mul];exact Rd.nil,Nat.le_refl _,Nat.zero_le _,λ_=>rfl,λi r hr=>by simp at hr,.inl ⟨rfl,rfl,rfl⟩⟩
 ·simp only [List.cons.injEq,Value.slice.injEq,and_true] at hcs
  obtain ⟨rfl,rfl,rfl⟩:=hcs;simp only [if_true] at hmm
  subst hmm;obtain ⟨C,hC⟩:=choose_lt (α:=List Value) (p:=λi cs=>w.cells? 0 (a.add (i*P.cellsOf e)) (P.cellsOf e)=some cs∧DataW.trod enc P w 0 (λ_=>true) true n e cs=some (D i,Pl i)) (λi hi=>hx i hi);rw [hc] at hC
  have hrow:∀i,i<len→(C i).length=sz:=λi hi=>(World.cells?_some (hC i AA).1).2.1
  have hall:All sz ((List.range len).map C):=by
   intro r hr;obtain ⟨i,hi,rfl⟩:=List.mem_map.1 hr;exact hrow i (List.mem_range.1 hi)
  refine ⟨(List.range len).map C,(List.range len).map D,by simp,by simp,hall,⟨by rw [MW hall];simp,λh0=>?_⟩,hl,hm,by simp,?_,.inr ⟨_,rfl,by simp⟩⟩
  ·have hlen:0<len:=Nat.pos_of_mul_pos_right h0;obtain ⟨b,off,sp⟩:=a
   have hsp:sp=none:=by
    have h1:=(World.cells?_some (hC 0 AA).1).2.2 0 hpos;have h2:=(World.cells?_some (hC 0 AA).1).2.1;rw [List.getElem?_eq_getElem AA] at h1
    cases sp with
    | none=>rfl
    | some s=>
     exfalso
     simp only [Nat.zero_mul,Addr.add,if_true,World.cell?] at h1
     split at h1<;>simp at h1
   subst hsp;refine ⟨b,off,X,λj u hu=>?_⟩;have hj:j<len*sz:=by have:=(List.getElem?_eq_some_iff.1 hu).1;rw [MW hall] at this;simpa using this
   have hi:j / sz<len:=Nat.div_lt_of_lt_mul (by rw [Nat.mul_comm];exact hj);have hjm:j%sz<sz:=Nat.mod_lt _ hpos;have hat:=X1 hall (i:=j / sz) (x:=C (j / sz)) (by rw [List.getElem?_map,List.getElem?_range hi];rfl);have hcell:=(World.cells?_some (hC (j / sz) AA).1).2.2 (j%sz) hjm;rw [←hat,List.getElem?_take_of_lt hjm,List.getElem?_drop] at hcell
   have e1:j / sz*sz+j%sz=j:=by rw [Nat.mul_comm];exact Nat.div_add_mod j sz
   rw [e1,hu,Addr.add_mid,Addr.add_mid,Nat.add_assoc,e1] at hcell
   exact hcell
  ·intro i r hr;have hi:i<len:=by have:=(List.getElem?_eq_some_iff.1 hr).1;simpa using this
   rw [List.getElem?_map,List.getElem?_range hi] at hr
   simp only [Option.map_some,Option.some.injEq] at hr
   subst hr;exact ⟨D i,by rw [List.getElem?_map,List.getElem?_range hi];rfl,n,_,(hC i AA).2⟩
theorem XR {n:Int} (h:(Lit.int .u8 n).wf=true):Value.int .u8 n=bv (UInt8.ofNat n.toNat):=by
 have hb:=bounds_u8 h;unfold bv
 congr 1
 rw [UInt8.toNat_ofNat'];omega
end
end
theorem XK {H:Type} {enc:TypeId × Value→H} {C:Checked} {os:Os} {f:FuncId} {fn:Func} {s:OpenSpec} {conds:List PathCond} {apart:Bool} {laid:List (String × DataW Unit)} (modest:Bool) (w0:World) (args:Array Value) (hos:w0.os=os)
 (hv:(w0.forCall (λ_ _=>0) ⟨#[],args,[]⟩).variablesZipB C.prog=true)
 (hr:((w0.forCall (λ_ _=>0) ⟨#[],args,[]⟩).heap.toList.drop C.prog.globals.size).take ((begin C.prog (λ_ _=>0) default).world.heap.size-C.prog.globals.size) =
  (begin C.prog (λ_ _=>0) default).world.heap.toList.drop C.prog.globals.size)
 (hok:Input.okWideB C.prog (w0.forCall (λ_ _=>0) ⟨#[],args,[]⟩) f ⟨#[],args,[]⟩=true)
 (hrow:s.preRow enc C.prog fn conds apart laid (w0.forCall (λ_ _=>0) ⟨#[],args,[]⟩).memory args) :
 ∃(w:World) (tape:Tape) (i:Input),w.os=os∧(w.forCall tape i).Shaped C.prog∧i.vars=[]∧Input.okWide C.prog (w.forCall tape i) .any w.heap.size f i ∧
  s.preRow enc C.prog fn conds apart laid (w.forCall tape i).memory i.args∧({ modest:=modest }:Assume).holds C.prog (lone (Frame.enter C.prog f i.args .normal) [] (w.forCall tape i)):=
 ⟨w0,λ_ _=>0,⟨#[],args,[]⟩,hos,World.shaped_of_ZipB hv hr,(Input.okWide_of_okWideB (base:=0) hok).1,(Input.okWide_of_okWideB hok).2,hrow,by
  simp only [Assume.holds];exact ⟨by simp,by simp,λ_=>Modest.zero,by simp,by simp⟩⟩
open Go.RowKit Go.Shelf
open Tryz
def zA : Ren:=⟨λn=>if n=196 then 156 else 189,
 λn=>if n=0 then 0 else if n=3 then 3 else if n=4 then 4 else if n=5 then 5 else if n=9 then 9 else if n=12 then 12 else if n=46 then 44 else if n=53 then 276 else if n=119 then 195 else if n=138 then 262 else 263,
 λn=>if n=3 then 0 else 1⟩
theorem yF : Lays.n196 prog zA where
 mixed:=CH
 f196:=by kernel_rfl
 f259:=by kernel_rfl
 t0:=underlying0
 a0:=isAgg0
 z0:=sizeOf0
 v0:=zeroValue0
 t3:=underlying3
 a3:=isAgg3
 z3:=sizeOf3
 v3:=zeroValue3
 t4:=underlying4
 a4:=isAgg4
 z4:=sizeOf4
 v4:=zeroValue4
 t5:=underlying5
 a5:=isAgg5
 z5:=sizeOf5
 v5:=zeroValue5
 t9:=underlying9
 a9:=isAgg9
 z9:=sizeOf9
 v9:=zeroValue9
 t12:=underlying12
 a12:=isAgg12
 z12:=sizeOf12
 v12:=zeroValue12
 t46:=underlying44
 a46:=isAgg44
 z46:=sizeOf44
 v46:=zeroValue44
 t53:=underlying276
 a53:=isAgg276
 z53:=sizeOf276
 v53:=zeroValue276
 t119:=underlying195
 a119:=isAgg195
 z119:=sizeOf195
 t138:=underlying262
 a138:=isAgg262
 z138:=sizeOf262
 v138:=zeroValue262
 t139:=underlying263
 a139:=isAgg263
 z139:=sizeOf263
 v139:=zeroValue263
 g3:=by kernel_rfl
 g4:=by kernel_rfl
theorem bL : (firstZ.map λz=>Value.int .u8 z)=(List.range 256).map λc=>Value.int .u8 (Go.Lib.firstT c:Int):=by kernel_rfl
theorem YA : (pairsZ.flatMap λz=>[Value.int .u8 z.1,Value.int .u8 z.2])=(List.range 32).map λj=>Value.int .u8 (if j%2=0 then (Go.Lib.accLo (j / 2):Int) else (Go.Lib.accHi (j / 2):Int)):=by kernel_rfl
theorem Laid.tabs {w:World} (h:Laid w utfL):Go.Lib.Utf8Tabs 0 1 w:=by
 obtain ⟨el,fz,h1⟩:=h _ (List.mem_cons_self);obtain ⟨el',fz',h2⟩:=h _ (List.mem_cons_of_mem _ List.mem_cons_self)
 simp only at h1 h2
 rw [bL] at h1
 rw [YA] at h2
 refine ⟨λc hc=>?_,λi hi=>⟨?_,?_⟩⟩
 ·simp [World.cell?,h1,hc]
 ·have e1:2*i%2=0:=by omega
  have e2:2*i / 2=i:=by omega
  have e3:2*i<32:=by omega
  simp [World.cell?,h2,e1,e2,e3]
 ·have e1:(2*i+1)%2=1:=by omega
  have e2:(2*i+1) / 2=i:=by omega
  have e3:2*i+1<32:=by omega
  simp [World.cell?,h2,e1,e2,e3]
theorem Laid.fr {w w':World} {L:List (Nat × List Value)} (h:Laid w L) (hf:Fr0 w w'):Laid w' L:=λp hp=>by
 obtain ⟨el,fz,h1⟩:=h p hp;exact ⟨el,fz,(hf.block _ (Array.getElem?_eq_some_iff.1 h1).1 (λhh=>hh)).trans h1⟩
theorem Fr0.of_below {w w':World} (h:Below w.heap.size w w'):Fr0 w w':=⟨h.os,h.tape,h.output,h.size,λk hk _=>h.block k hk⟩
theorem kA (l:List UInt8) (w:World) (hm:(l.length:Int)<4611686018427387904) (hT:Laid w utfL):Calls prog 156 #[str l] w (BI w (.bool (utf l))):=by
 have hs:(ByteArray.mk l.toArray).size=l.length:=by show l.toArray.size=_;simp
 have h:=Any.utf8_ValidString yF ⟨l.toArray⟩ w AA hT.tabs;refine h.mono λe w' ⟨he,hb⟩=>⟨?_,Fr0.of_below hb⟩
 rw [he]
 have:(ByteArray.mk l.toArray).data.toList=l:=X
 rw [this,aE l.length l (Nat.le_refl _)]
theorem L2 (l:List UInt8) (w:World) (hm:(l.length:Int)<4611686018427387904) (hT:Laid w utfL):Calls prog 102 #[str l] w (BI w (.bool (utf l))):=by
 refine sx_enter (vs:=[_]) func102 X ntmps102 X (srg (AJ X (AE X (sxl_call (some 4) (by first|exact wn_none rfl|exact wn_on rfl rfl rfl) X X (AG X X call156) (kA l _ hm hT) ?_))));rintro _ w1 ⟨rfl,hf1⟩;exact ⟨_,X,yb X (gnr (gr1 X ⟨X,hf1⟩))⟩
def vOk (v:Vl):Bool:=if v.kind=1 then (!v.bool&&decide (v.text=[])) else if v.kind=2 then (decide (v.int=0)&&decide (v.text=[])) else if v.kind=3 then (decide (v.int=0)&&(!v.bool&&(decide (v.text.length≤1024)&&utf v.text))) else false
def chk (v:Vl):Int:=if vOk v then 0 else 1
theorem eQ {v:Vl} (h:vOk v=true):chk v=0:=by unfold chk;rw [h];rfl
theorem TZ {v:Vl} (h:vOk v=false):chk v=1:=by unfold chk;rw [h];rfl
theorem WR {k:UInt8} {n:Nat} (h:k≠UInt8.ofNat n):(k.toNat:Int)≠n:=λe=>h (by
 have:k.toNat=n:=by omega
 rw [←this];simp)
theorem EJ (v:Vl) (w:World) (hm:(v.text.length:Int)<4611686018427387904) (hT:Laid w utfL):Calls prog 59 #[v.val] w (BI w (AC (chk v))):=by
 refine sx_enter (vs:=[_]) func59 X ntmps59 X (srg (sxl_does (some 1) (wn_none X) X X (λρ hρ=>KR 100 (.tmp 0) X v.cells (by rw [hρ _ _ rfl];rfl)) ?_));rintro _ w1 ⟨g,rfl,hg1,hg2,hb,hf⟩;have c0:Cell w1.heap g 0 (.int .u8 (v.kind.toNat:Int)):=hb.c 0 X;have c1:Cell w1.heap g 1 (AC v.int):=hb.c 1 X;have c2:Cell w1.heap g 2 (.bool v.bool):=hb.c 2 X;have c3:Cell w1.heap g 3 (str v.text):=hb.c 3 X;have hrd:Rd w1 (some ⟨g,0,none⟩) 4 v.cells:=Rd.ofBlk hb X;have hk:=v.kind.toNat_lt
 by_cases k1:v.kind=1
 ·have k1':(v.kind.toNat:Int)=1:=by rw [k1];rfl
  refine AJ X (srg (AJ X (sx_seq (AE X (yl X X (by assumption) (nq (sx_block ?_)))))));refine srg (ya X (N9 X X X AA) (AJ X (sx_true X (EH 5 (λw'=>Rd w' (some ⟨g,0,none⟩) 4 v.cells∧Cell w'.heap g 1 (AC v.int)) CH ?_))));have HS:Rd w1.drew (some ⟨g,0,none⟩) 4 v.cells∧Cell w1.drew.heap g 1 (AC v.int):=⟨hrd,c1⟩;refine oa 0 3 X X HS (λw' hS'=>AK X X hS'.1 underlying100 X EQ) (oa 1 3 X X HS (λw' hS'=>yp X) (oa 2 3 X X HS (λw' hS'=>BF X X (sc X) (by obtain ⟨s1,s2⟩:=hS';assumption)) (BQ 3 (some 11) gkr X (wn_none X) X X (AG X X call100) (Q7 v.int _) ?_)));rintro _ w2 ⟨rfl,hf2⟩;have HS:Rd w2 (some ⟨g,0,none⟩) 4 v.cells∧Cell w2.heap g 1 (AC v.int):=⟨hrd.fr0 hf2.ofDrew,c1.fr hf2.ofDrew (λhh=>hh)⟩;refine ⟨_,X,λ_=>HS,?_⟩;refine DC 4 gkr X (wn_none X) X X (W2 X X X) HS (P2 5 gkr X X gkr ?_)
  have hsm:v.same ⟨1,v.int,false,[]⟩=vOk v:=by
   unfold Vl.same vOk;rw [if_pos k1,k1]
   cases v.bool<;>simp
  refine yb X (sxl_nil (qx_block_normal (qx_seq (sx_seq (AE X (AJ X ?_))))));rw [hsm]
  cases hv:vOk v with
  | true=>
   exact sx_false X (sx_skip (qx_seq (AE X (gnr (gr1 X ⟨by rw [eQ hv],hf.trans hf2.ofDrew⟩)))))
  | false=>
   exact sx_true X (AE X (gnr (qx_then_ret (gr1 X ⟨by rw [TZ hv],hf.trans hf2.ofDrew⟩))))
 by_cases k2:v.kind=2
 ·have k1':(v.kind.toNat:Int)≠1:=by rw [k2];decide
  have k2':(v.kind.toNat:Int)=2:=by rw [k2];rfl
  refine AJ X (srg (AJ X (sx_seq (AE X (yl X X (by assumption) (nq (sx_block ?_)))))));refine srg (ya X (I3 X X X AA) (AJ X (sx_false X (srg (ya X (N9 X X X AA) (AJ X (sx_true X (EH 5 (λw'=>Rd w' (some ⟨g,0,none⟩) 4 v.cells∧Cell w'.heap g 2 (.bool v.bool)) CH ?_))))))));have HS:Rd w1.drew (some ⟨g,0,none⟩) 4 v.cells∧Cell w1.drew.heap g 2 (.bool v.bool):=⟨hrd,c2⟩;refine oa 0 3 X X HS (λw' hS'=>AK X X hS'.1 underlying100 X EQ) (oa 1 3 X X HS (λw' hS'=>yp X) (oa 2 3 X X HS (λw' hS'=>BF X X (sc X) (by obtain ⟨s1,s2⟩:=hS';assumption)) (BQ 3 (some 18) gkr X (wn_none X) X X (AG X X call101) (OZ v.bool _) ?_)));rintro _ w2 ⟨rfl,hf2⟩;have HS:Rd w2 (some ⟨g,0,none⟩) 4 v.cells∧Cell w2.heap g 2 (.bool v.bool):=⟨hrd.fr0 hf2.ofDrew,c2.fr hf2.ofDrew (λhh=>hh)⟩;refine ⟨_,X,λ_=>HS,?_⟩;refine DC 4 gkr X (wn_none X) X X (W2 X X X) HS (P2 5 gkr X X gkr ?_)
  have hsm:v.same ⟨2,0,v.bool,[]⟩=vOk v:=by
   unfold Vl.same vOk;rw [if_neg k1,if_pos k2,k2]
   simp
  refine yb X (sxl_nil (qx_block_normal (qx_seq (sx_seq (AE X (AJ X ?_))))));rw [hsm]
  cases hv:vOk v with
  | true=>
   exact sx_false X (sx_skip (qx_seq (AE X (gnr (gr1 X ⟨by rw [eQ hv],hf.trans hf2.ofDrew⟩)))))
  | false=>
   exact sx_true X (AE X (gnr (qx_then_ret (gr1 X ⟨by rw [TZ hv],hf.trans hf2.ofDrew⟩))))
 have k1':(v.kind.toNat:Int)≠1:=WR (n:=1) k1;have k2':(v.kind.toNat:Int)≠2:=WR (n:=2) k2
 by_cases k3:v.kind=3
 ·have k3':(v.kind.toNat:Int)=3:=by rw [k3];rfl
  refine AJ X (srg (AJ X (sx_seq (AE X (yl X X (by assumption) (nq (sx_block ?_)))))));refine srg (ya X (I3 X X X AA) (AJ X (sx_false X (srg (ya X (I3 X X X AA) (AJ X (sx_false X (srg ?_))))))));refine ya X (N9 X X X AA) (AJ X (sx_true X (EH 16 (λw'=>Rd w' (some ⟨g,0,none⟩) 4 v.cells∧Cell w'.heap g 3 (str v.text)) CH ?_)));have HS:Rd w1.drew (some ⟨g,0,none⟩) 4 v.cells∧Cell w1.drew.heap g 3 (str v.text):=⟨hrd,c3⟩;refine oa 0 3 X X HS (λw' hS'=>AK X X hS'.1 underlying100 X EQ) (oa 1 3 X X HS (λw' hS'=>yp X) (oa 2 3 X X HS (λw' hS'=>BF X X (sc X) (by obtain ⟨s1,s2⟩:=hS';assumption)) (BQ 3 (some 25) gkr X (wn_none X) X X (AG X X call37) (MC v.text _) ?_)));rintro _ w2 ⟨rfl,hf2⟩;have c3':Cell w2.heap g 3 (str v.text):=c3.fr hf2.ofDrew (λhh=>hh);have HS:Rd w2 (some ⟨g,0,none⟩) 4 v.cells∧Cell w2.heap g 3 (str v.text):=⟨hrd.fr0 hf2.ofDrew,c3'⟩;refine ⟨_,X,λ_=>HS,?_⟩;have hw2:Fr0 w w2:=hf.trans hf2.ofDrew
  have hsm:v.same ⟨3,0,false,v.text⟩=(decide (v.int=0) && !v.bool):=by
   unfold Vl.same;rw [k3]
   cases v.bool<;>simp
  have hvk:vOk v=((decide (v.int=0) && !v.bool)&&(decide (v.text.length≤1024)&&utf v.text)):=by
   unfold vOk;rw [if_neg k1,if_neg k2,if_pos k3,Bool.and_assoc]
  refine DC 4 gkr X (wn_none X) X X (W2 X X X) HS ?_;rw [hsm]
  cases ha:(decide (v.int=0) && !v.bool) with
  | false=>
   have hv:vOk v=false:=by rw [hvk,ha];rfl
   refine DC 5 gkr X (wn_none X) X X (yp X) HS (GL 6 gkr X X X X X X X HS (GL 7 gkr X X X X X X X HS (GL 8 gkr X X X X X X X HS (GL 9 gkr X X X X X X X HS (DC 10 gkr X (wn_none X) X X (yp X) HS (DC 11 gkr X (wn_none X) X X (yp X) HS (GL 12 gkr X X X X X X X HS (GL 13 gkr X X X X X X X HS (GL 14 gkr X X X X X X X HS (DC 15 gkr X (wn_none X) X X (yp X) HS (P2 16 gkr X X gkr (yb X (sxl_nil (qx_block_normal (qx_seq ?_)))))))))))))));refine sx_seq (AE X (AJ X (sx_true X (AE X (gnr (qx_then_ret (gr1 X ?_)))))));exact ⟨by rw [TZ hv],hw2⟩
  | true=>
   by_cases hl:v.text.length≤1024
   ·skip
    refine DC 5 gkr X (wn_none X) X X (yp X) HS (DC 6 gkr X (wn_on X X X) X X (yp X) HS (DC 7 gkr X (wn_on X X X) X X (BF X X (sc X) (by assumption)) HS (DC 8 gkr X (wn_on X X X) X X (FU X X underlying9) HS (DC 9 gkr X (wn_on X X X) X X (q7 X X X AA) HS (DC 10 gkr X (wn_none X) X X (yp X) HS (DC 11 gkr X (wn_none X) X X (yp X) HS (DC 12 gkr X (wn_on X X X) X X (yp X) HS (DC 13 gkr X (wn_on X X X) X X (BF X X (sc X) (by assumption)) HS (BQ 14 (some 36) gkr X (wn_on X X X) X X (AG X X call102) (L2 v.text _ hm (hT.fr hw2)) ?_)))))))));rintro _ w3 ⟨rfl,hf3⟩;have HS:Rd w3 (some ⟨g,0,none⟩) 4 v.cells∧Cell w3.heap g 3 (str v.text):=⟨(hrd.fr0 hf2.ofDrew).fr0 hf3,c3'.fr hf3 (λhh=>hh)⟩;refine ⟨_,X,λ_=>HS,?_⟩;have hv:vOk v=utf v.text:=by rw [hvk,ha];simp [hl]
    rw [←hv];refine DC 15 gkr X (wn_none X) X X (yp X) HS (P2 16 gkr X X gkr (yb X (sxl_nil (qx_block_normal (qx_seq (sx_seq (AE X (AJ X ?_))))))))
    cases hq:vOk v with
    | true=>
     exact sx_false X (sx_skip (qx_seq (AE X (gnr (gr1 X ⟨by rw [eQ hq],hw2.trans hf3⟩)))))
    | false=>
     exact sx_true X (AE X (gnr (qx_then_ret (gr1 X ⟨by rw [TZ hq],hw2.trans hf3⟩))))
   ·have hv:vOk v=false:=by rw [hvk,ha];simp [hl]
    refine DC 5 gkr X (wn_none X) X X (yp X) HS (DC 6 gkr X (wn_on X X X) X X (yp X) HS (DC 7 gkr X (wn_on X X X) X X (BF X X (sc X) (by assumption)) HS (DC 8 gkr X (wn_on X X X) X X (FU X X underlying9) HS (DC 9 gkr X (wn_on X X X) X X (q8 X X X AA) HS (DC 10 gkr X (wn_none X) X X (yp X) HS (DC 11 gkr X (wn_none X) X X (yp X) HS (GL 12 gkr X X X X X X X HS (GL 13 gkr X X X X X X X HS (GL 14 gkr X X X X X X X HS (DC 15 gkr X (wn_none X) X X (yp X) HS (P2 16 gkr X X gkr (yb X (sxl_nil (qx_block_normal (qx_seq ?_)))))))))))))));refine sx_seq (AE X (AJ X (sx_true X (AE X (gnr (qx_then_ret (gr1 X ?_)))))));exact ⟨by rw [TZ hv],hw2⟩
 ·have k3':(v.kind.toNat:Int)≠3:=WR (n:=3) k3;have hv:vOk v=false:=by unfold vOk;rw [if_neg k1,if_neg k2,if_neg k3]
  refine AJ X (srg (AJ X (sx_seq (AE X (yl X X (by assumption) (nq (sx_block ?_)))))));refine srg (ya X (I3 X X X AA) (AJ X (sx_false X (srg (ya X (I3 X X X AA) (AJ X (sx_false X (srg ?_))))))));refine ya X (I3 X X X AA) (AJ X (sx_false X (sx_skip (qx_block_normal (qx_seq (sx_seq (AE X (AJ X (sx_true X ?_)))))))));exact AE X (gnr (qx_then_ret (gr1 X ⟨by rw [TZ hv],hf⟩)))
theorem SH : tabL.length=256:=by unfold tabL;simp
theorem kN : ∀u∈tabL,u.oneCell'=true:=by
 intro u hu;obtain ⟨n,_,rfl⟩:=List.mem_map.1 hu
 rfl
theorem qX {n:Nat} (h:n<256):tabL[n]?=some (.int .u8 (tabN n:Int)):=by unfold tabL;simp [h]
theorem cT (c:UInt8):tabN c.toNat=if G6 c then 2 else if MK c then 1 else 0:=by
 have h1:(((decide (65≤c.toNat)&&decide (c.toNat≤90)) || (decide (97≤c.toNat)&&decide (c.toNat≤122)))=G6 c):=by
  unfold G6;rw [Bool.or_comm]
 unfold tabN;rw [h1]
 rfl
def zeroT : List Value:=List.replicate 256 (.int .u8 0)
theorem aH : (prog.info? 195).map (·.zero)=some (some (.agg zeroT.toArray)):=by kernel_rfl
theorem aI : (prog.info? 195).map (·.size)=some 256:=by kernel_rfl
def HP (l:List UInt8):Bool:=l.all λc=>G6 c || MK c
theorem PG : ∀(i:Nat) (l:List UInt8),i≠0→J8 i l=HP l
 | _,[],_=>rfl
 | i,c::l,h=>by
  rw [J8,PG (i+1) l AA,show (i != 0)=true by simp [h],Bool.and_true]
  rfl
theorem UL (c:UInt8) (l:List UInt8):J8 0 (c::l)=(G6 c&&HP (c::l)):=by
 rw [J8,PG 1 l AA]
 show ((G6 c || (MK c&&(0 != 0)))&&HP l)=(G6 c&&((G6 c || MK c)&&HP l))
 cases G6 c<;>cases MK c<;>simp
theorem UR : zeroT.length=256:=by unfold zeroT;rw [List.length_replicate]
theorem DU (l:List UInt8) (w:World) (hm:(l.length:Int)<4611686018427387904):Calls prog 61 #[str l] w (BI w (.bool (CG l))):=by
 refine sx_enter (vs:=[_]) func61 X ntmps61 X ?_
 by_cases h0:l.length=0
 ·have hno:CG l=false:=by unfold CG;simp;omega
  refine srg (AJ X (sx_seq (AE X (ya X (FU X X underlying9) (ya X (N9 X X X AA) (yb X (yo X (yo X (yo X (yb X ?_))))))))));exact nq (sx_true X (AE X (gnr (qx_then_ret (gr1 X ⟨by rw [hno],Fr.refl⟩)))))
 by_cases h1:32<l.length
 ·have hno:CG l=false:=by unfold CG;simp;omega
  refine srg (AJ X (sx_seq (AE X (ya X (FU X X underlying9) (ya X (I3 X X X AA) (yb X (gyq X (yd X (FU X X underlying9) (yd X (qA X X X AA) (yb X ?_))))))))));exact nq (sx_true X (AE X (gnr (qx_then_ret (gr1 X ⟨by rw [hno],Fr.refl⟩)))))
 obtain ⟨c0,r0,hl⟩:∃c0 r0,l=c0::r0:=List.exists_cons_of_ne_nil (by intro e;rw [e] at h0;exact h0 rfl)
 have hno:CG l=(G6 c0&&HP l):=by
  have:J8 0 l=(G6 c0&&HP l):=by rw [hl];exact UL c0 r0
  unfold CG;rw [this];simp [show 1≤l.length by omega,show l.length≤32 by omega]
 have hc0:l[0]?=some c0:=by rw [hl];rfl
 refine srg (AJ X (sx_seq (AE X (ya X (FU X X underlying9) (ya X (I3 X X X AA) (yb X (gyq X (yd X (FU X X underlying9) (yd X (qB X X X AA) (yb X ?_))))))))));refine nq (sx_false X (sx_skip (qx_seq (srg (sxl_call (some 13) (by first|exact wn_none rfl|exact wn_on rfl rfl rfl) X X (AG X X call104) (aJ _) ?_)))));rintro _ w1 ⟨rfl,hf1⟩;refine ⟨_,X,sxl_does (some 3) (wn_none X) X X (λρ hρ=>C7 195 X _ zeroT aH X) ?_⟩;rintro _ w2 ⟨g,rfl,hg1,hg2,hb,hf2⟩;refine sxl_does none (wn_none X) X X (λρ hρ=>BO 195 (.tmp 3) (.tmp 13) X g 0 195 _ tabL (hρ _ _ X) (hρ _ _ X) hb (by rw [SH];exact aI) (by rw [SH,UR];omega) kN) ?_;rintro _ w3 ⟨rfl,hb3,hf3⟩;rw [FZ zeroT tabL (by rw [SH,UR])] at hb3
 have hf:Fr0 w w3:=(hf1.trans hf2).step hf3 (λk hk e=>by have:=hf1.size;omega);refine nq (sx_seq (AE X (ya X (FU X X underlying9) (AJ X (sx_block ?_)))))
 have tcell:∀c:UInt8,Cell w3.heap g (0+((c.toNat:Int)).toNat*1) (.int .u8 (tabN c.toNat:Int)):=λc=>by
  have:=hb3.c c.toNat (qX c.toNat_lt)
  simpa using this
 refine sx_loop (λe wr m=>∃(i:Nat),e=[(16,AC (i:Int)),(15,AC (l.length:Int)),(3,pg g),(0,str l)]∧w3=wr∧i≤l.length∧HP (l.take i)=true∧m=l.length-i) ⟨0,X,X,Nat.zero_le _,X,X⟩ ⟨X,X,X,X,trivial⟩ ?_;rintro _ _ _ ⟨i,rfl,rfl,hi,hok,rfl⟩
 by_cases hlt:i<l.length
 ·obtain ⟨c,hc⟩:∃c,l[i]?=some c:=⟨_,List.getElem?_eq_getElem hlt⟩
  have h256:=c.toNat_lt;have ct:=tcell c
  have hsplit:l=l.take i++c::l.drop (i+1):=by
   have h1:l.drop i=c::l.drop (i+1):=by
    rw [List.drop_eq_getElem_cons hlt]
    congr 1
    rw [List.getElem?_eq_getElem hlt] at hc
    exact Option.some.inj hc
   rw [←h1,List.take_append_drop]
  have htab:=cT c
  by_cases hz:tabN c.toNat=0
  ·have hbad:HP l=false:=by
    rw [hz] at htab
    have h3:G6 c=false:=by cases hq:G6 c with|false=>rfl|true=>rw [hq] at htab;simp at htab
    have h4:MK c=false:=by cases hq:MK c with|false=>rfl|true=>rw [h3,hq] at htab;simp at htab
    rw [hsplit];unfold HP;simp [h3,h4]
   refine srg (ya X (RM X X X AA) (nq (sx_seq (sx_true X (sx_skip (qx_seq (sx_seq (sx_block (AE X (yb X (sxl_nil ?_)))))))))));refine qx_seq (AE X (yb X (ya X (GK X X X underlying9 hc) (ya X (EO X X X (ar X) AA) (yl X X (by assumption) (ya X (N9 X X X AA) (nq (sx_true X (AE X (sxl_nil ?_))))))))));exact qx_seq (sx_ret (qx_block_ret (qx_then_ret (qx_then_ret (qx_block_ret (qx_then_ret (gr1 X ⟨by rw [hno,hbad,Bool.and_false],hf⟩)))))))
  ·have hstep:HP (l.take (i+1))=true:=by
    have h3:(G6 c || MK c)=true:=by
     cases hq:G6 c with
     | true=>rfl
     | false=>cases hq2:MK c with
      | true=>rfl
      | false=>rw [hq,hq2] at htab;simp at htab;omega
    rw [List.take_add_one,hc];unfold HP at hok ⊢
    rw [List.all_append,hok]
    simpa using h3
   refine srg (ya X (RM X X X AA) (nq (sx_seq (sx_true X (sx_skip (qx_seq (sx_seq (sx_block (AE X (yb X (sxl_nil ?_)))))))))));refine qx_seq (AE X (yb X (ya X (GK X X X underlying9 hc) (ya X (EO X X X (ar X) AA) (yl X X (by assumption) (ya X (I3 X X X AA) (nq (sx_false X (sx_skip (qx_block_normal (qx_seq (sx_region ?_))))))))))));exact BV X X (yb X (sxl_nil (fag ⟨i+1,X,X,by omega,hstep,rfl⟩)))
 ·obtain rfl:i=l.length:=by omega
  rw [List.take_length] at hok
  have h256:=c0.toNat_lt;have ct:=tcell c0;have htab:=cT c0
  cases hlet:G6 c0 with
  | true=>
   rw [hlet] at htab
   have h2:tabN c0.toNat=2:=htab;refine srg (ya X (RN X X X AA) (nq (sx_seq (sx_false X (sx_exit (qx_then_exit (qx_then_exit (qx_block_hit (qx_seq (AE X (ya X (GK (m:=0) X X X underlying9 hc0) ?_)))))))))));exact ya X (EO X X X (ar X) AA) (yl X X (by assumption) (ya X (N9 X X X AA) (yb X (gnr (gr1 X ⟨by rw [hno,hlet,hok];rfl,hf⟩)))))
  | false=>
   rw [hlet] at htab
   have h2:tabN c0.toNat≠2:=by rw [htab];cases MK c0<;>simp
   refine srg (ya X (RN X X X AA) (nq (sx_seq (sx_false X (sx_exit (qx_then_exit (qx_then_exit (qx_block_hit (qx_seq (AE X (ya X (GK (m:=0) X X X underlying9 hc0) ?_)))))))))));exact ya X (EO X X X (ar X) AA) (yl X X (by assumption) (ya X (I3 X X X AA) (yb X (gnr (gr1 X ⟨by rw [hno,hlet];rfl,hf⟩)))))
section
inductive Xn
 | zero
 | lit (v:Vl)
 | var (s:List UInt8)
 | un (op:UInt8) (a:Xn)
 | bin (op:UInt8) (a b:Xn)
def Xn.op : Xn→UInt8
 | .zero=>0
 | .lit _=>1
 | .var _=>2
 | .un o _=>o
 | .bin o _ _=>o
def Xn.vl : Xn→Vl
 | .lit v=>v
 | _=>zeroVl
def Xn.nm : Xn→List UInt8
 | .var s=>s
 | _=>[]
def Xn.nk : Xn→Nat
 | .un _ _=>1
 | .bin _ _ _=>2
 | _=>0
def Xn.cells (n:Xn) (A:Option Addr):List Value:=[.int .u8 (n.op.toNat:Int),.int .u8 (n.vl.kind.toNat:Int),.int .i64 n.vl.int,.bool n.vl.bool,str n.vl.text,str n.nm,.slice A n.nk n.nk]
def Xn.leaf : Xn→Bool
 | .un _ _=>false
 | .bin _ _ _=>false
 | _=>true
theorem Xn.nk_leaf {n:Xn} (h:n.leaf=true):n.nk=0:=by cases n<;>first|rfl|cases h
def DV (b:UInt8):Bool:=decide ((48:Int)≤(b.toNat:Int))&&decide ((b.toNat:Int)≤57)
def G0 (b:UInt8):Bool:=decide ((97:Int)≤((b ||| 32).toNat:Int))&&decide (((b ||| 32).toNat:Int)≤122)
def EY (b:UInt8):Bool:=G0 b || DV b || decide ((b.toNat:Int)=45) || decide ((b.toNat:Int)=95) || decide ((b.toNat:Int)=46)
def signTab : List (List UInt8 × (UInt8 × Nat)):=[([111,114],(6,1)),([97,110,100],(5,2)),([61],(7,4)),([33,61],(8,4)),([60],(9,4)),([60,61],(10,4)),([62],(11,4)),([62,61],(12,4)),([43],(13,5)),([45],(14,5)),([42],(15,6)),([47],(16,6)),([37],(17,6))]
def XU : List (List UInt8 × (UInt8 × Nat))→List UInt8→Option (UInt8 × Nat)
 | [],_=>none
 | (k',v)::r,k=>if k=k' then some v else XU r k
def B7 (s:List UInt8):Option (UInt8 × Nat):=XU signTab s
def KN (s:List UInt8):Bool:=decide (s=[97,110,100]) || decide (s=[111,114]) || decide (s=[110,111,116]) || decide (s=[116,114,117,101]) || decide (s=[102,97,108,115,101])
structure Lx where
 at_:Nat
 nd:Xn
 say:List UInt8
 tat:Nat
 fin:Bool
 e:Int
 wh:Nat
def Lx.cells (s:List UInt8) (x:Lx):List Value:=[str s,.int .i64 (x.at_:Int),.int .u8 (x.nd.op.toNat:Int),.int .u8 (x.nd.vl.kind.toNat:Int),.int .i64 x.nd.vl.int,.bool x.nd.vl.bool,str x.nd.vl.text,str x.nd.nm,.slice none 0 0,str x.say,.int .i64 (x.tat:Int),.bool x.fin,.int .i64 x.e,.int .i64 (x.wh:Int)]
def Lx.fail (x:Lx) (e:Int) (p:Nat):Lx:=if x.e=0 then { x with e:=e,wh:=p } else x
def OK (l:List UInt8):List UInt8:=l.dropWhile (λb=>b==32)
section
variable (s:List UInt8) (fr:Nat→Lx→Xn × Lx)
end
def lx0 : Lx:=⟨0,.zero,[],0,false,0,0⟩
end
def lM (p:UInt8 × Nat):Value:=.agg #[.int .u8 (p.1.toNat:Int),.int .i64 (p.2:Int)]
def ES : List (List UInt8 × Value):=signTab.map λp=>(p.1,lM p.2)
theorem Q9 (k:List UInt8):∀l:List (List UInt8 × (UInt8 × Nat)),CA (l.map λp=>(p.1,lM p.2)) k=(XU l k).map lM
 | []=>rfl
 | (k',v)::r=>by
  rw [List.map_cons,CA,XU]
  by_cases h:k=k'
  ·rw [if_pos h,if_pos h];rfl
  ·rw [if_neg h,if_neg h];exact Q9 k r
theorem EK (k:List UInt8):(CA ES k).getD (.agg #[.int .u8 0,AC 0])=.agg #[.int .u8 (((B7 k).getD (0,0)).1.toNat:Int),AC ((((B7 k).getD (0,0)).2:Nat):Int)]:=by
 unfold ES B7;rw [Q9]
 cases XU signTab k<;>rfl
theorem HI (k:List UInt8):(CA ES k).isSome=(B7 k).isSome:=by
 unfold ES B7;rw [Q9]
 cases XU signTab k<;>rfl
theorem n7 (v:List UInt8):([[97,110,100],[111,114],[110,111,116],[116,114,117,101],[102,97,108,115,101]].any (λz=>decide (v=z)))=KN v:=by
 simp only [List.any_cons,List.any_nil,KN,Bool.or_false,Bool.or_assoc]
theorem QP (a0:Int) (a2:Bool):prog.built 100 [(0,.int .u8 a0),(2,.bool a2)]=some #[.int .u8 a0,AC 0,.bool a2,str []]:=by kernel_rfl
theorem FE (a0:Int) (c1_0 c1_1 c1_2 c1_3:Value):prog.built 112 [(0,.int .u8 a0),(1,.agg #[c1_0,c1_1,c1_2,c1_3])]=some #[.int .u8 a0,c1_0,c1_1,c1_2,c1_3,str [],.slice none 0 0]:=by kernel_rfl
theorem QO (a0:Int) (a2:List UInt8):prog.built 112 [(0,.int .u8 a0),(2,str a2)]=some #[.int .u8 a0,.int .u8 0,AC 0,.bool false,str [],str a2,.slice none 0 0]:=by kernel_rfl
theorem CJ (a0:Int) (a1:Int):prog.built 174 [(0,.int .u8 a0),(1,AC a1)]=some #[.int .u8 a0,AC a1]:=by kernel_rfl
theorem L4 : (prog.info? 51).map (·.size)=some 1:=by kernel_rfl
theorem GI : (prog.info? 322).map (·.size)=some 1:=by kernel_rfl
theorem FR : (prog.info? 9).map (·.size)=some 1:=by kernel_rfl
theorem FA (s:List UInt8) (x:Lx) (gx:Nat) (er:Int) (p:Nat) (w:World) (hb:Blk w gx 168 (Lx.cells s x)) :
 Calls prog 83 #[pg gx,AC er,AC (p:Int)] w λe w'=>e=.returned (.tuple #[])∧Blk w' gx 168 (Lx.cells s (x.fail er p))∧Fr (λk=>k=gx) w w':=by
 refine sx_enter (vs:=[_,_,_]) func83 X ntmps83 X ?_;have M:Mem w (λk=>k=gx) [As.blk gx 168 (Lx.cells s x)] w:=Mem.one hb;refine AE X (AV X X (AU M 0 X X X (BZ X X (nq (AF X (λh10=>?_) (λh10=>?_))))))
 ·have h10p:=(odt h10);refine sx_region ?_;iterate 6 refine yb X ?_
  exact gp1 M 0 X X X L4 λw1 M=>AV X X (gp1 M 0 X X X GI λw2 M=>sxl_nil (qx_ret0 (Or.inr X) X ⟨X,by rw [Lx.fail,if_pos h10p];exact M.blk 0 rfl,M.fr⟩))
 ·have h10p:=(odf h10);exact sx_skip (qx_ret0 (Or.inr X) X ⟨X,by rw [Lx.fail,if_neg h10p];exact M.blk 0 rfl,M.fr⟩)
theorem TU (b:UInt8) (w:World):Calls prog 140 #[.int .u8 (b.toNat:Int)] w (BI w (.bool (DV b))):=by
 refine BH func140 ntmps140 X λM=>srg (AJ X (AE X (JU X X (yb X (fvm M 3 [2] [(8,.bool ((decide (48≤(b.toNat:Int)))&&(decide ((b.toNat:Int)≤57))))] ?_ (λk5=>?_))))))
 ·intro w1 M;exact yb X (gnr (gr1 X ⟨X,M.fr⟩))
 refine AI (d:=5) X (λh5=>?_) (λh5=>?_)
 ·exact gyq X (yd X (GH X X X) (yb X (k5 M ⟨X,(by rw [h5];rfl),trivial⟩)))
 ·exact yo X (yo X (yb X (k5 M ⟨X,(by rw [h5];rfl),trivial⟩)))
theorem VF (b:UInt8) (w:World):Calls prog 143 #[.int .u8 (b.toNat:Int)] w (BI w (.bool (G0 b))):=by
 refine BH func143 ntmps143 X λM=>srg (AJ X (AE X (ya X (uK (b:=b) (c:=32) X X X) (JU X X (yb X (fvm M 4 [2] [(10,.bool ((decide (97≤((b ||| 32).toNat:Int)))&&(decide (((b ||| 32).toNat:Int)≤122))))] ?_ (λk6=>?_)))))))
 ·intro w1 M;exact yb X (gnr (gr1 X ⟨X,M.fr⟩))
 refine AI (d:=6) X (λh6=>?_) (λh6=>?_)
 ·exact gyq X (yd X (uK (b:=b) (c:=32) X X X) (yd X (GH X X X) (yb X (k6 M ⟨X,(by rw [h6];rfl),trivial⟩))))
 ·exact yo X (yo X (yo X (yb X (k6 M ⟨X,(by rw [h6];rfl),trivial⟩))))
theorem iK (b:UInt8) (w:World):Calls prog 144 #[.int .u8 (b.toNat:Int)] w (BI w (.bool (EY b))):=by
 refine BH func144 ntmps144 X λM=>srg (AJ X (AE X (CD M 4 X X call143 (VF _ _) λw1 M=>yb X (fvm M 3 [2,0] [(8,.bool ((G0 b) || (DV b)))] ?_ (λk5=>?_)))))
 ·intro w2 M;refine yb X (fvm M 3 [2,0] [(12,.bool (((G0 b) || (DV b)) || (decide ((b.toNat:Int)=45))))] ?_ (λk9=>?_))
  ·intro w3 M;refine yb X (fvm M 3 [2,0] [(16,.bool ((((G0 b) || (DV b)) || (decide ((b.toNat:Int)=45))) || (decide ((b.toNat:Int)=95))))] ?_ (λk13=>?_))
   ·intro w4 M;refine yb X (fvm M 3 [2] [(20,.bool (((((G0 b) || (DV b)) || (decide ((b.toNat:Int)=45))) || (decide ((b.toNat:Int)=95))) || (decide ((b.toNat:Int)=46))))] ?_ (λk17=>?_))
    ·intro w5 M;exact yb X (gnr (gr1 X ⟨X,M.fr⟩))
    refine AI (d:=17) X (λh17=>?_) (λh17=>?_)
    ·exact yo X (yo X (yb X (k17 M ⟨X,(by rw [h17];rfl),trivial⟩)))
    ·exact gyq X (yd X (C9 X X X) (yb X (k17 M ⟨X,(by rw [h17];rfl),trivial⟩)))
   refine AI (d:=13) X (λh13=>?_) (λh13=>?_)
   ·exact yo X (yo X (yb X (k13 M ⟨X,X,(by rw [h13];rfl),trivial⟩)))
   ·exact gyq X (yd X (C9 X X X) (yb X (k13 M ⟨X,X,(by rw [h13];rfl),trivial⟩)))
  refine AI (d:=9) X (λh9=>?_) (λh9=>?_)
  ·exact yo X (yo X (yb X (k9 M ⟨X,X,(by rw [h9];rfl),trivial⟩)))
  ·exact gyq X (yd X (C9 X X X) (yb X (k9 M ⟨X,X,(by rw [h9];rfl),trivial⟩)))
 refine AI (d:=5) X (λh5=>?_) (λh5=>?_)
 ·exact yo X (yo X (yb X (k5 M ⟨X,X,(by rw [h5];rfl),trivial⟩)))
 ·refine gyq X (sxl_call (some 7) (wn_on X X X) X X (AG X X call140) (TU _ _) ?_);rintro _ w6 ⟨rfl,hfw6⟩;refine ⟨_,X,?_⟩;have M:=M.step hfw6;exact yb X (k5 M ⟨X,X,(by rw [h5];rfl),trivial⟩)
theorem tH (A:Option Addr) (c:Nat) (l:List (List UInt8)) (v:List UInt8) (w:World) (hl:l.length≤4611686018427387904) (hR:Rd w A (l.length*1) (AD C0 l)) :
 Calls prog 93 #[.slice A l.length c,str v] w (BI w (AC (ixJ (λ_ z=>decide (v=z)) 0 l))):=by
 refine BH func93 ntmps93 X λM=>srg (AJ X (sx_seq (AE X (DF X X (AJ X (sx_block (JJ M [7,1,0] (λze zF e wr mz=>∃(i:Nat),e=(8,AC (i:Int))::ze∧zF wr∧(i≤l.length)∧(ixJ (λ_ z=>decide (v=z)) 0 l=ixJ (λ_ z=>decide (v=z)) i (l.drop i))∧mz=l.length-i) ⟨0,X,M,Nat.zero_le _,X,X⟩ ?_)))))))
 rintro _ w1 _ ⟨i,rfl,M,hi,hr,rfl⟩;refine srg (BB X X (nq (sx_seq (AF X (λh9=>?_) (λh9=>?_)))))
 ·have h9p:=(odt h9);refine sx_skip (qx_seq (sx_seq (sx_block (AE X (AJ X (AE X (AV X X ?_)))))));obtain ⟨x,hx⟩:=BM (l:=l) (i:=i) AA;obtain ⟨b_x,o_x,hA_x⟩:=B5 (k:=1) AA (hR.fr0 M.fr) hx;refine ya X (AN i hA_x X X X (sl X) AA) (yl X X (D9 DQ (hR.fr0 M.fr) hA_x hx 0 X) (ya X (CX X X X) (nq (AF X (λh16=>?_) (λh16=>?_)))))
  ·exact AE X (yb X (gnr (qx_block_ret (qx_then_ret (qx_then_ret (qx_block_ret (qx_then_ret (gr1 X ⟨by rw [hr,AZ hx,ixJ,if_pos h16],M.fr⟩))))))))
  ·have h16p:=(odf h16);refine sx_skip (qx_block_normal (qx_seq (sx_region (BV X X (yb X (sxl_nil (fag ⟨i+1,X,M,?_,?_,X⟩)))))))
   ·omega
   ·rw [hr,AZ hx,ixJ,AM h16]
 ·have h9p:=(odf h9);refine sx_exit (qx_then_exit (qx_then_exit (qx_block_hit (qx_seq (AE X (gnr (gr1 X ?_)))))));obtain rfl:i=l.length:=by omega
  exact ⟨by rw [hr,List.drop_length];rfl,M.fr⟩
theorem TV (A:Option Addr) (c:Nat) (l:List (List UInt8)) (v:List UInt8) (w:World) (hl:l.length≤4611686018427387904) (hR:Rd w A (l.length*1) (AD C0 l)) :
 Calls prog 51 #[.slice A l.length c,str v] w (BI w (.bool (l.any (λz=>decide (v=z))))):=by
 refine BH func51 ntmps51 X λM=>srg (AJ X (AE X (yb X (CD M 7 X X call93 (tH _ _ l _ _ (by first|omega|decide) (hR.fr0 M.fr)) λw1 M=>JU X X (yb X (gnr ?_))))))
 exact gr1 X ⟨by rw [JT],M.fr⟩
theorem IA (w:World) :
 Calls prog 87 #[] w λe w'=>∃g,e=.returned (.map (some g))∧Mp w' g ES∧w.heap.size≤g∧Fr0 w w':=by
 refine BH func87 ntmps87 X λM=>srg (AJ X (srg (I5 M (wn_none X) X X X λg1 w1 hg1 M=>ya X (AY (parts:=[(0,_),(1,_)]) X X (CJ _ _)) (DY M 0 (wn_none X) X X X X X underlying176 underlying9 X λw2 M=>ya X (AY (parts:=[(0,_),(1,_)]) X X (CJ _ _)) (DY M 0 (wn_none X) X X X X X underlying176 underlying9 X λw3 M=>?_)))))
 refine ya X (AY (parts:=[(0,_),(1,_)]) X X (CJ _ _)) (DY M 0 (wn_none X) X X X X X underlying176 underlying9 X λw4 M=>ya X (AY (parts:=[(0,_),(1,_)]) X X (CJ _ _)) (DY M 0 (wn_none X) X X X X X underlying176 underlying9 X λw5 M=>ya X (AY (parts:=[(0,_),(1,_)]) X X (CJ _ _)) (DY M 0 (wn_none X) X X X X X underlying176 underlying9 X λw6 M=>ya X (AY (parts:=[(0,_),(1,_)]) X X (CJ _ _)) (DY M 0 (wn_none X) X X X X X underlying176 underlying9 X λw7 M=>ya X (AY (parts:=[(0,_),(1,_)]) X X (CJ _ _)) (DY M 0 (wn_none X) X X X X X underlying176 underlying9 X λw8 M=>ya X (AY (parts:=[(0,_),(1,_)]) X X (CJ _ _)) ?_)))));refine DY M 0 (wn_none X) X X X X X underlying176 underlying9 X λw9 M=>ya X (AY (parts:=[(0,_),(1,_)]) X X (CJ _ _)) (DY M 0 (wn_none X) X X X X X underlying176 underlying9 X λw10 M=>ya X (AY (parts:=[(0,_),(1,_)]) X X (CJ _ _)) (DY M 0 (wn_none X) X X X X X underlying176 underlying9 X λw11 M=>ya X (AY (parts:=[(0,_),(1,_)]) X X (CJ _ _)) (DY M 0 (wn_none X) X X X X X underlying176 underlying9 X λw12 M=>ya X (AY (parts:=[(0,_),(1,_)]) X X (CJ _ _)) (DY M 0 (wn_none X) X X X X X underlying176 underlying9 X λw13 M=>ya X (AY (parts:=[(0,_),(1,_)]) X X (CJ _ _)) (DY M 0 (wn_none X) X X X X X underlying176 underlying9 X ?_)))))
 intro w14 M;exact AV X X (gnr (gr1 X ⟨_,X,M.mp 0 X,hg1,M.fr⟩))
theorem PK (v:List UInt8) (w:World) :
 Calls prog 174 #[str v] w (BI w (.bool (KN v))):=by
 refine BH func174 ntmps174 X λM=>srg (AJ X (srg (CN M (wn_none X) X X [str [97,110,100],str [111,114],str [110,111,116],str [116,114,117,101],str [102,97,108,115,101]] ([str [97,110,100],str [111,114],str [110,111,116],str [116,114,117,101],str [102,97,108,115,101]]) X X X X underlying48 CS X X (by intro v hv;simp only [List.mem_cons,List.not_mem_nil,or_false] at hv;rcases hv with rfl|rfl|rfl|rfl|rfl<;>rfl) X λg3 w1 hg3 M=>yb X (CD M 5 X X call51 (TV _ _ [[97,110,100],[111,114],[110,111,116],[116,114,117,101],[102,97,108,115,101]] _ _ (by first|omega|decide) (M.rdBlk 0 X X)) λw2 M=>yb X (gnr ?_)))))
 exact gr1 X ⟨by rw [n7],M.fr⟩
def IK (t:List UInt8) (x:Lx):Lx:=(if ((decide (t=[116,114,117,101])) || (decide (t=[102,97,108,115,101])))=true then (⟨x.at_,.lit ⟨2,0,(decide (t=[116,114,117,101])),[]⟩,x.say,x.tat,x.fin,x.e,x.wh⟩:Lx) else (if (KN t)=true then (⟨x.at_,x.nd,t,x.tat,x.fin,x.e,x.wh⟩:Lx) else (if (!(CG t))=true then (x.fail 4 x.at_) else (⟨x.at_,.var t,x.say,x.tat,x.fin,x.e,x.wh⟩:Lx))))
theorem gZ (s:List UInt8) (x:Lx) (gx:Nat) (t:List UInt8) (w:World) (hb:Blk w gx 168 (Lx.cells s x)) (ht:(t.length:Int)<4611686018427387904) :
 Calls prog 145 #[pg gx,str t] w λe w'=>e=.returned (.tuple #[])∧Blk w' gx 168 (Lx.cells s (IK t x))∧Fr (λk=>k=gx) w w':=by
 refine sx_enter (vs:=[_,_]) func145 X ntmps145 X ?_;have M:Mem w (λk=>k=gx) [As.blk gx 168 (Lx.cells s x)] w:=Mem.one hb;refine sx_block (AE X (ya X (CX X X X) (yb X (qZ 3 [(1,str t),(0,pg gx),(16,.bool ((decide (t=[116,114,117,101])) || (decide (t=[102,97,108,115,101]))))] (λw'=>Mem w (λk=>k=gx) [As.blk gx 168 (Lx.cells s x)] w') ?_ (λk13=>?_)))))
 ·intro w1 M;refine AJ X (AF (b:=((decide (t=[116,114,117,101])) || (decide (t=[102,97,108,115,101])))) X (λh10=>?_) (λh10=>?_))
  ·have h10p:=((E1 h10).imp (λz=>(odt z)) (λz=>(odt z)));exact sx_region (AV X X (ya X (CX X X X) (ya X (AY (parts:=[(0,_),(2,_)]) X X (QP _ _)) (ya X (AY (parts:=[(0,_),(1,_)]) X X (FE _ _ _ _ _)) (AV X X (yb X (XY (cs':=[str s,AC (x.at_:Int),.int .u8 1,.int .u8 2,AC 0,.bool (decide (t=[116,114,117,101])),str [],str [],.slice none 0 0,str x.say,AC (x.tat:Int),.bool x.fin,AC x.e,AC (x.wh:Int)]) M 0 (wn_none X) X X X X X AO X (HX X) (CL X) X λw2 M=>sxl_nil (qx_block_normal (qx_ret0 (Or.inr X) X ⟨X,by rw [IK,if_pos h10];exact M.blk 0 rfl,M.fr⟩)))))))))
  ·have h10p:=(And.intro (odf (C6 h10).1) (odf (C6 h10).2));refine AE X (LZ M 27 X (AG X X call174) (PK _ _) λw3 M=>AJ X (AF (b:=(KN t)) X (λh25=>?_) (λh25=>?_)))
   ·refine sx_region ?_;iterate 5 refine yb X ?_
    exact E7 (cs':=[str s,AC (x.at_:Int),.int .u8 (x.nd.op.toNat:Int),.int .u8 (x.nd.vl.kind.toNat:Int),AC x.nd.vl.int,.bool x.nd.vl.bool,str x.nd.vl.text,str x.nd.nm,.slice none 0 0,str t,AC (x.tat:Int),.bool x.fin,AC x.e,AC (x.wh:Int)]) M 0 (wn_none X) X X X X X X X FR (CO X) X λw4 M=>sxl_nil (qx_block_normal (qx_ret0 (Or.inr X) X ⟨X,by rw [IK,AM h10,if_pos h25];exact M.blk 0 rfl,M.fr⟩))
   ·refine AE X (LZ M 35 X (AG X X call61) (DU _ _ (by omega)) λw5 M=>yb X (AJ X (AF (b:=(!(CG t))) X (λh33=>?_) (λh33=>?_))))
    ·have h33p:=(C5 h33);refine sx_region ?_;iterate 4 refine yb X ?_
     refine yl X X (M.cell 0 X X) (cl 42 X (AG X X call83) (FA s _ _ _ _ _ (M.blk 0 X)) ?_);rintro _ w6 ⟨rfl,hbw6,hfw6⟩;have M:=M.putB 0 X hbw6 hfw6;exact ⟨_,X,sxl_nil (qx_block_normal (qx_ret0 (Or.inr X) X ⟨X,by rw [IK,AM h10,AM h25,if_pos h33];exact M.blk 0 rfl,M.fr⟩))⟩
    ·have h33p:=(BL h33);exact sx_region (AV X X (ya X (AY (parts:=[(0,_),(2,_)]) X X (QO _ _)) (AV X X (yb X (XY (cs':=[str s,AC (x.at_:Int),.int .u8 2,.int .u8 0,AC 0,.bool false,str [],str t,.slice none 0 0,str x.say,AC (x.tat:Int),.bool x.fin,AC x.e,AC (x.wh:Int)]) M 0 (wn_none X) X X X X X AO X (HX X) (CL X) X λw7 M=>sxl_nil (qx_block_normal (qx_ret0 (Or.inr X) X ⟨X,by rw [IK,AM h10,AM h25,AM h33];exact M.blk 0 rfl,M.fr⟩)))))))
 refine AI (d:=13) (b:=(decide (t=[116,114,117,101]))) X (λh13=>?_) (λh13=>?_)
 ·exact yo X (yo X (yb X (k13 _ _ M ⟨X,X,(by rw [h13];rfl),trivial⟩)))
 ·exact yd X (yp X) (yd X (CX X X X) (yb X (k13 _ _ M ⟨X,X,(by rw [h13];rfl),trivial⟩)))
end Go.Proofs.YtaheakjfkpkefaaGreatDoor
