/- Lemmas that the last text rests on. Condition: each says its own. -/
import Derived.Test.YtaheakjfkpkefaaGreatDoorZMl11
set_option maxHeartbeats 16000000
set_option maxRecDepth 100000
namespace Go.Proofs.YtaheakjfkpkefaaGreatDoor
open Go.RowKit
open Tryz
def rD (L:List Pa) (h:Ht):Prop := ∃(k:Nat) (x:Pa) (y:Tk),h.pl=((k:Nat):Int)∧h.tok=y.id∧L[k]?=some x∧runP x=true∧y ∈ x.i.toks∧h.via ∈ DN x.m x.c y
theorem t8 {w:World} {L:List Pa} (hok : ∀x ∈ L,PaOk w x) {ap:Pa→Wt→Bool} {ss:List St} (hs:SsP L ss) {h:Ht} (hh:h ∈ BY L ap ss):rD L h:=by
 obtain ⟨s,hms,hb⟩:=List.mem_filterMap.1 hh
 obtain ⟨k,x,h1,h2,h3,h4⟩:=MX (hs.perm.mem_iff.1 hms)
 rw [h1,Nat.zero_add,Int.toNat_natCast,h2] at hb
 have hb:GK ap x s=some h:=hb
 unfold GK at hb
 split at hb
 ·obtain ⟨wt,hw,rfl⟩:=Option.map_eq_some_iff.1 hb
  obtain ⟨gc,_,hC,hn,_⟩:=KX (hok x (List.mem_of_getElem? h2)) h3
  have hck:=o0 h3
  obtain ⟨j,hj⟩:=List.getElem?_of_mem (List.mem_of_find?_eq_some hw)
  exact ⟨k,x,s.tk,by rw [h1,Nat.zero_add],rfl,h2,h3,h4,rM (j5 hn) hC.cz (XR hck).1.2.2.2.2.2 ((XR hck).2 _ h4).1 hj⟩
 ·cases hb
theorem PN : (prog.info? 26).map (·.size)=some 4:=by kernel_rfl
section
section
variable {α β:Type} {f:α→Int}
theorem R4 {l:List α} (h:Srt f l 0 l.length):l.Pairwise (λx y=>f x≤f y):=by
 rw [List.pairwise_iff_getElem]
 intro i j hi hj hij
 have:=h.le (Nat.zero_le i) (Nat.le_of_lt hij) hj
 rwa [GH (List.getElem?_eq_getElem hi),GH (List.getElem?_eq_getElem hj)] at this
theorem Stf.symm {A B:List α} (h:Stf f A B):Stf f B A:=λk=>(h k).symm
theorem QC {A B:List α} (h:Stf f A B) {x:α} (hx:x ∈ A):x ∈ B:=by
 have:x ∈ A.filter (λy=>decide (f y=f x)):=List.mem_filter.2 ⟨hx,by simp⟩
 rw [←h (f x)] at this
 exact (List.mem_filter.1 this).1
theorem W4 : ∀{A B:List α},A.Pairwise (λx y=>f x≤f y)→B.Pairwise (λx y=>f x≤f y)→Stf f A B→A=B
 | [],[],_,_,_=>rfl
 | [],b::B,_,_,h=>by have:=QC h.symm (List.mem_cons_self (a:=b) (l:=B));cases this
 | a::A,[],_,_,h=>by have:=QC h (List.mem_cons_self (a:=a) (l:=A));cases this
 | a::A,b::B,hA,hB,h=>by
  have ha:=List.pairwise_cons.1 hA
  have hb:=List.pairwise_cons.1 hB
  have h1:f b≤f a:=by
   rcases List.mem_cons.1 (QC h (List.mem_cons_self (a:=a) (l:=A))) with e | e
   ·rw [e];exact Int.le_refl _
   ·exact hb.1 a e
  have h2:f a≤f b:=by
   rcases List.mem_cons.1 (QC h.symm (List.mem_cons_self (a:=b) (l:=B))) with e | e
   ·rw [e];exact Int.le_refl _
   ·exact ha.1 b e
  have he:f a=f b:=Int.le_antisymm h2 h1
  have e:=h (f a)
  rw [List.filter_cons_of_pos (by simp [he]),List.filter_cons_of_pos (by simp)] at e
  injection e with e1 e2
  subst e1
  rw [W4 ha.2 hb.2 λk=>?_]
  by_cases hk:f b=k
  ·subst hk;exact e2
  ·have:=h k
   rwa [List.filter_cons_of_neg (by simpa using hk),List.filter_cons_of_neg (by simpa using hk)] at this
theorem iN {A B:List α} (hp:B.Perm A) (hn:(A.map f).Nodup):Stf f A B:=λk=>by
 have h1:(B.filter (λx=>decide (f x=k))).Perm (A.filter (λx=>decide (f x=k))):=hp.filter _
 have h2:((A.filter (λx=>decide (f x=k))).map f).Nodup:=hn.sublist (List.filter_sublist.map f)
 have h3 : ∀x ∈ A.filter (λx=>decide (f x=k)),f x=k:=λx hx=>odt (List.mem_filter.1 hx).2
 generalize A.filter (λx=>decide (f x=k))=C at h1 h2 h3 ⊢
 match C,h1,h2,h3 with
 | [],h1,_,_=>exact List.perm_nil.1 h1
 | [x],h1,_,_=>exact List.perm_singleton.1 h1
 | x::y::r,_,h2,h3=>
  rw [List.map_cons,List.map_cons,List.nodup_cons] at h2
  exact absurd (by rw [h3 x (by simp),←h3 y (by simp)];exact List.mem_cons_self) h2.1
theorem aF {g:β→Int} {F:α→β} (hg : ∀x,g (F x)=f x) {A B:List α} (h:Stf f A B):Stf g (A.map F) (B.map F):=λk=>by
 have:(λx=>decide (g x=k)) ∘ F=λx=>decide (f x=k):=funext λx=>by simp [hg]
 rw [List.filter_map,List.filter_map,this,h k]
theorem WL {g:β→Int} {F:α→β} (hg : ∀x,g (F x)=f x) {A:List α} (h:A.Pairwise (λx y=>f x≤f y)):(A.map F).Pairwise (λx y=>g x≤g y):=
 List.pairwise_map.2 (h.imp λ{x y} hxy=>by rw [hg,hg];exact hxy)
end
end
def stX (π:Int→Int) (L:List Pa) (s:St):Int × Option Pa × Tk:=(π s.pl,L[s.pl.toNat]?,s.tk)
def kX (b:Int × Option Pa × Tk):Int:=b.2.2.id
def hX (ap:Pa→Wt→Bool) (b:Int × Option Pa × Tk):Option Ht:=b.2.1.bind λx=>GK ap x ⟨b.1,b.2.2⟩
def Ht.re (π:Int→Int) (h:Ht):Ht:=⟨π h.pl,h.tok,h.via⟩
theorem pZ (ap:Pa→Wt→Bool) (x:Pa) (s:St) (p:Int):(GK ap x s).map (λh=>(⟨p,h.tok,h.via⟩:Ht))=GK ap x ⟨p,s.tk⟩:=by
 unfold GK
 split
 ·cases (CN x.m x.c s.tk x.i.vars).1.find? (ap x)<;>rfl
 ·rfl
theorem bC {ap:Pa→Wt→Bool} {x:Pa} {s:St} {h:Ht} (hh:GK ap x s=some h):h.pl=s.pl∧h.tok=s.tk.id:=by
 unfold GK at hh
 split at hh
 ·obtain ⟨wt,_,rfl⟩:=Option.map_eq_some_iff.1 hh
  exact ⟨rfl,rfl⟩
 ·cases hh
theorem bA (π:Int→Int) (L:List Pa) (ap:Pa→Wt→Bool) (ss:List St):(BY L ap ss).map (Ht.re π)=(ss.map (stX π L)).filterMap (hX ap):=by
 rw [BY,List.map_filterMap,List.filterMap_map]
 refine congrArg (λg=>ss.filterMap g) (funext λs=>?_)
 show ((L[s.pl.toNat]?).bind λx=>GK ap x s).map (Ht.re π)=(L[s.pl.toNat]?).bind λx=>GK ap x ⟨π s.pl,s.tk⟩
 cases L[s.pl.toNat]? with
 | none=>rfl
 | some x=>
  show (GK ap x s).map (Ht.re π)=GK ap x ⟨π s.pl,s.tk⟩
  rw [←pZ ap x s (π s.pl)]
  cases he:GK ap x s with
  | none=>rfl
  | some h=>
   show some _=some _
   rw [Ht.re,(bC he).1]
theorem eR {π ρ:Int→Int} {L R:List Pa} {ss rr:List St} (hs:SsP L ss) (hr:SsP R rr) (h:Stf kX ((DB L 0).map (stX π L)) ((DB R 0).map (stX ρ R))) (ap:Pa→Wt→Bool):(BY L ap ss).map (Ht.re π)=(BY R ap rr).map (Ht.re ρ):=by
 rw [bA,bA]
 refine congrArg _ (W4 (f:=kX) (WL (λ_=>rfl) (R4 hs.s)) (WL (λ_=>rfl) (R4 hr.s)) ?_)
 exact ((aF (F:=stX π L) (g:=kX) (f:=MV) (λ_=>rfl) hs.st).symm.trans h).trans (aF (F:=stX ρ R) (g:=kX) (f:=MV) (λ_=>rfl) hr.st)
def O2 (x:Pa) (p:Int):List (Int × Option Pa × Tk):=if runP x=true then x.i.toks.map (λt=>(p,some x,t)) else []
theorem aI (π:Int→Int) : ∀(l:List Pa) (pre:List Pa),(DB l pre.length).map (stX π (pre++l))=(l.zipIdx pre.length).flatMap (λz=>O2 z.1 (π (z.2:Int)))
 | [],_=>rfl
 | x::r,pre=>by
  have ih:=aI π r (pre++[x])
  rw [List.length_append,List.length_singleton,List.append_assoc,List.singleton_append] at ih
  rw [DB,List.map_append,ih,List.zipIdx_cons,List.flatMap_cons]
  congr 1
  unfold GR O2
  split
  ·rw [List.map_map]
   refine List.map_congr_left λt _=>?_
   show (π (pre.length:Int),(pre++x::r)[((pre.length:Int)).toNat]?,t)=_
   rw [Int.toNat_natCast,List.getElem?_append_right (Nat.le_refl _),Nat.sub_self];rfl
  ·rfl
theorem W9 (π:Int→Int) (L:List Pa):(DB L 0).map (stX π L)=L.zipIdx.flatMap (λz=>O2 z.1 (π (z.2:Int))):=aI π L []
theorem OM {γ:Type} (g:Pa→Nat→List γ) (d:Nat) : ∀(l:List Pa) (k:Nat),(l.zipIdx (k+d)).flatMap (λz=>g z.1 z.2)=(l.zipIdx k).flatMap (λz=>g z.1 (z.2+d))
 | [],_=>rfl
 | x::r,k=>by
  have:=OM g d r (k+1)
  rw [List.zipIdx_cons,List.zipIdx_cons,List.flatMap_cons,List.flatMap_cons,←this,show k+1+d=k+d+1 by omega]
theorem XZ {γ:Type} {g g':Pa→Nat→List γ} : ∀{l:List Pa} {k:Nat},(∀x i,k≤i→i<k+l.length→g x i=g' x i)→(l.zipIdx k).flatMap (λz=>g z.1 z.2)=(l.zipIdx k).flatMap (λz=>g' z.1 z.2)
 | [],_,_=>rfl
 | x::r,k,h=>by
  rw [List.zipIdx_cons,List.flatMap_cons,List.flatMap_cons,h x k (Nat.le_refl _) (by simp),XZ λy i h1 h2=>h y i A0 (by simp;omega)]
theorem cI {A B:List Pa} (hn:((DB (A++B) 0).map MV).Nodup) {ss rr:List St} (hs:SsP (A++B) ss) (hr:SsP (B++A) rr) (ap:Pa→Wt→Bool):(BY (A++B) ap ss).map (Ht.re id)=(BY (B++A) ap rr).map (Ht.re λp=>(p+(A.length:Int)) % ((A++B).length:Int)):=
 eR hs hr (by
  refine iN ?_ ?_
  ·rw [W9,W9,List.zipIdx_append,List.zipIdx_append,List.flatMap_append,List.flatMap_append,Nat.zero_add,Nat.zero_add]
   refine List.Perm.trans ?_ List.perm_append_comm
   refine List.Perm.append (List.Perm.of_eq ?_) (List.Perm.of_eq ?_)
   ·have e:=OM (λ(x:Pa) (i:Nat)=>O2 x (id ((i:Nat):Int))) A.length B 0
    rw [Nat.zero_add] at e
    rw [e]
    refine XZ (g:=λx i=>O2 x (((((i:Nat):Int))+(A.length:Int)) % ((A++B).length:Int))) (g':=λx i=>O2 x (id (((i+A.length:Nat)):Int))) λx i _ h2=>?_
    rw [List.length_append,Int.emod_eq_of_lt A0 A0];congr 1
   ·have e:=OM (λ(x:Pa) (i:Nat)=>O2 x (((((i:Nat):Int))+(A.length:Int)) % ((A++B).length:Int))) B.length A 0
    rw [Nat.zero_add] at e
    rw [e]
    refine XZ (g:=λx i=>O2 x (((((i+B.length:Nat):Int))+(A.length:Int)) % ((A++B).length:Int))) (g':=λx i=>O2 x (id ((i:Nat):Int))) λx i _ h2=>?_
    rw [List.length_append,show (((i+B.length:Nat):Int))+(A.length:Int)=((i:Nat):Int)+(((A.length+B.length:Nat)):Int) by omega,Int.add_emod_right,Int.emod_eq_of_lt A0 A0];rfl
  ·rw [List.map_map];exact hn) ap
theorem TM (L:List Pa) (ap:Pa→Wt→Bool) : ∀ss:List St,((BY L ap ss).map (λh=>h.tok)).Sublist (ss.map MV)
 | []=>List.Sublist.slnil
 | s::r=>by
  have ih:=TM L ap r
  rw [BY,List.filterMap_cons]
  split
  ·exact ih.trans (List.sublist_cons_self _ _)
  ·rename_i h hh
   obtain ⟨x,_,hx⟩:=Option.bind_eq_some_iff.1 hh
   rw [List.map_cons,List.map_cons,(bC hx).2]
   exact ih.cons_cons _
theorem aZ {L:List Pa} {ss:List St} (hs:SsP L ss) (hn:((DB L 0).map MV).Nodup) (ap:Pa→Wt→Bool):(BY L ap ss).Pairwise (λa b=>a.tok<b.tok):=by
 have h1:(ss.map MV).Nodup:=(hs.perm.map MV).nodup_iff.2 hn
 have h2:(ss.map MV).Pairwise (λa b=>a≤b):=List.pairwise_map.2 (R4 hs.s)
 have h3:(ss.map MV).Pairwise (λa b=>a<b):=(h1.and h2).imp λ{a b} h=>by have:=h.1;have:=h.2;omega
 exact List.pairwise_map.1 (h3.sublist (TM L ap ss))
theorem R5 : ∀(L:List Pa) (j:Nat),((DB L j).map MV).Sublist (L.flatMap λx=>x.i.toks.map λt=>t.id)
 | [],_=>List.Sublist.slnil
 | x::r,j=>by
  rw [DB,List.map_append,List.flatMap_cons]
  refine List.Sublist.append ?_ (R5 r (j+1))
  unfold GR
  split
  ·rw [List.map_map];exact List.Sublist.refl _
  ·exact List.nil_sublist _
end Go.Proofs.YtaheakjfkpkefaaGreatDoor
