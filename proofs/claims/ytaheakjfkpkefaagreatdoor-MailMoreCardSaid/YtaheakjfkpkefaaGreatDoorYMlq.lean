/- Lemmas that the last text rests on. Condition: each says its own. -/
import Derived.Test.YtaheakjfkpkefaaGreatDoorYMl11
set_option maxHeartbeats 16000000
set_option maxRecDepth 100000
namespace Go.Proofs.YtaheakjfkpkefaaGreatDoor
open Go.RowKit
open Tryz
theorem EM : (prog.info? 26).map (·.size)=some 4:=by kernel_rfl
section
section
variable {α β:Type} {f:α→Int}
theorem NQ {l:List α} (h:Srt f l 0 l.length):l.Pairwise (λx y=>f x≤f y):=by
 rw [List.pairwise_iff_getElem]
 intro i j hi hj hij
 have:=h.le (Nat.zero_le i) (Nat.le_of_lt hij) hj
 rwa [GG (List.getElem?_eq_getElem hi),GG (List.getElem?_eq_getElem hj)] at this
theorem Stf.symm {A B:List α} (h:Stf f A B):Stf f B A:=λk=>(h k).symm
theorem QA {A B:List α} (h:Stf f A B) {x:α} (hx:x ∈ A):x ∈ B:=by
 have:x ∈ A.filter (λy=>decide (f y=f x)):=List.mem_filter.2 ⟨hx,by simp⟩
 rw [←h (f x)] at this
 exact (List.mem_filter.1 this).1
theorem R1 : ∀{A B:List α},A.Pairwise (λx y=>f x≤f y)→B.Pairwise (λx y=>f x≤f y)→Stf f A B→A=B
 | [],[],_,_,_=>rfl
 | [],b::B,_,_,h=>by have:=QA h.symm (List.mem_cons_self (a:=b) (l:=B));cases this
 | a::A,[],_,_,h=>by have:=QA h (List.mem_cons_self (a:=a) (l:=A));cases this
 | a::A,b::B,hA,hB,h=>by
  have ha:=List.pairwise_cons.1 hA
  have hb:=List.pairwise_cons.1 hB
  have h1:f b≤f a:=by
   rcases List.mem_cons.1 (QA h (List.mem_cons_self (a:=a) (l:=A))) with e | e
   ·rw [e];exact Int.le_refl _
   ·exact hb.1 a e
  have h2:f a≤f b:=by
   rcases List.mem_cons.1 (QA h.symm (List.mem_cons_self (a:=b) (l:=B))) with e | e
   ·rw [e];exact Int.le_refl _
   ·exact ha.1 b e
  have he:f a=f b:=Int.le_antisymm h2 h1
  have e:=h (f a)
  rw [List.filter_cons_of_pos (by simp [he]),List.filter_cons_of_pos (by simp)] at e
  injection e with e1 e2
  subst e1
  rw [R1 ha.2 hb.2 λk=>?_]
  by_cases hk:f b=k
  ·subst hk;exact e2
  ·have:=h k
   rwa [List.filter_cons_of_neg (by simpa using hk),List.filter_cons_of_neg (by simpa using hk)] at this
theorem ZK {g:β→Int} {F:α→β} (hg : ∀x,g (F x)=f x) {A B:List α} (h:Stf f A B):Stf g (A.map F) (B.map F):=λk=>by
 have:(λx=>decide (g x=k)) ∘ F=λx=>decide (f x=k):=funext λx=>by simp [hg]
 rw [List.filter_map,List.filter_map,this,h k]
theorem WD {g:β→Int} {F:α→β} (hg : ∀x,g (F x)=f x) {A:List α} (h:A.Pairwise (λx y=>f x≤f y)):(A.map F).Pairwise (λx y=>g x≤g y):=
 List.pairwise_map.2 (h.imp λ{x y} hxy=>by rw [hg,hg];exact hxy)
theorem IN {p:α→Bool} {g:α→List β} (h : ∀x,p x=false→g x=[]) : ∀l:List α,(l.filter p).flatMap g=l.flatMap g
 | []=>rfl
 | x::r=>by
  by_cases hp:p x=true
  ·rw [List.filter_cons_of_pos hp,List.flatMap_cons,List.flatMap_cons,IN h r]
  ·rw [List.filter_cons_of_neg hp,List.flatMap_cons,h x (by simpa using hp),IN h r];rfl
end
end
def stX (π:Int→Int) (L:List Pa) (s:St):Int × Option Pa × Tk:=(π s.pl,L[s.pl.toNat]?,s.tk)
def kX (b:Int × Option Pa × Tk):Int:=b.2.2.id
def hX (ap:Pa→Wt→Bool) (b:Int × Option Pa × Tk):Option Ht:=b.2.1.bind λx=>GY ap x ⟨b.1,b.2.2⟩
def Ht.re (π:Int→Int) (h:Ht):Ht:=⟨π h.pl,h.tok,h.via⟩
theorem oR (ap:Pa→Wt→Bool) (x:Pa) (s:St) (p:Int):(GY ap x s).map (λh=>(⟨p,h.tok,h.via⟩:Ht))=GY ap x ⟨p,s.tk⟩:=by
 unfold GY
 split
 ·cases (D5 x.m x.c s.tk x.i.vars).1.find? (ap x)<;>rfl
 ·rfl
theorem oS {ap:Pa→Wt→Bool} {x:Pa} {s:St} {h:Ht} (hh:GY ap x s=some h):h.pl=s.pl∧h.tok=s.tk.id:=by
 unfold GY at hh
 split at hh
 ·obtain ⟨wt,_,rfl⟩:=Option.map_eq_some_iff.1 hh
  exact ⟨rfl,rfl⟩
 ·cases hh
theorem aI (π:Int→Int) (L:List Pa) (ap:Pa→Wt→Bool) (ss:List St):(C6 L ap ss).map (Ht.re π)=(ss.map (stX π L)).filterMap (hX ap):=by
 rw [C6,List.map_filterMap,List.filterMap_map]
 refine congrArg (λg=>ss.filterMap g) (funext λs=>?_)
 show ((L[s.pl.toNat]?).bind λx=>GY ap x s).map (Ht.re π)=(L[s.pl.toNat]?).bind λx=>GY ap x ⟨π s.pl,s.tk⟩
 cases L[s.pl.toNat]? with
 | none=>rfl
 | some x=>
  show (GY ap x s).map (Ht.re π)=GY ap x ⟨π s.pl,s.tk⟩
  rw [←oR ap x s (π s.pl)]
  cases he:GY ap x s with
  | none=>rfl
  | some h=>
   show some _=some _
   rw [Ht.re,(oS he).1]
theorem dN {π ρ:Int→Int} {L R:List Pa} {ss rr:List St} (hs:SsP L ss) (hr:SsP R rr) (h:Stf kX ((E2 L 0).map (stX π L)) ((E2 R 0).map (stX ρ R))) (ap:Pa→Wt→Bool):(C6 L ap ss).map (Ht.re π)=(C6 R ap rr).map (Ht.re ρ):=by
 rw [aI,aI]
 refine congrArg _ (R1 (f:=kX) (WD (λ_=>rfl) (NQ hs.s)) (WD (λ_=>rfl) (NQ hr.s)) ?_)
 exact ((ZK (F:=stX π L) (g:=kX) (f:=gY) (λ_=>rfl) hs.st).symm.trans h).trans (ZK (F:=stX ρ R) (g:=kX) (f:=gY) (λ_=>rfl) hr.st)
theorem gP {L:List Pa} {ss rr:List St} (hs:SsP L ss) (hr:SsP L rr):ss=rr:=R1 (NQ hs.s) (NQ hr.s) (hs.st.symm.trans hr.st)
def TD (x:Pa) (p:Int):List (Int × Option Pa × Tk):=if runP x=true then x.i.toks.map (λt=>(p,some x,t)) else []
theorem ZN (π:Int→Int) : ∀(l:List Pa) (pre:List Pa),(E2 l pre.length).map (stX π (pre++l))=(l.zipIdx pre.length).flatMap (λz=>TD z.1 (π (z.2:Int)))
 | [],_=>rfl
 | x::r,pre=>by
  have ih:=ZN π r (pre++[x])
  rw [List.length_append,List.length_singleton,List.append_assoc,List.singleton_append] at ih
  rw [E2,List.map_append,ih,List.zipIdx_cons,List.flatMap_cons]
  congr 1
  unfold HD TD
  split
  ·rw [List.map_map]
   refine List.map_congr_left λt _=>?_
   show (π (pre.length:Int),(pre++x::r)[((pre.length:Int)).toNat]?,t)=_
   rw [Int.toNat_natCast,List.getElem?_append_right (Nat.le_refl _),Nat.sub_self];rfl
  ·rfl
theorem W1 (π:Int→Int) (L:List Pa):(E2 L 0).map (stX π L)=L.zipIdx.flatMap (λz=>TD z.1 (π (z.2:Int))):=ZN π L []
theorem QQ (g:Pa→List (Int × Option Pa × Tk)) : ∀(l:List Pa) (k:Nat),(l.zipIdx k).flatMap (λz=>g z.1)=l.flatMap g
 | [],_=>rfl
 | x::r,k=>by rw [List.zipIdx_cons,List.flatMap_cons,List.flatMap_cons,QQ g r (k+1)]
theorem cT {L:List Pa} {p:Pa→Bool} (hp : ∀x,p x=false→runP x=false) {ss rr:List St} (hs:SsP L ss) (hr:SsP (L.filter p) rr) (ap:Pa→Wt→Bool):(C6 L ap ss).map (Ht.re λ_=>0)=(C6 (L.filter p) ap rr).map (Ht.re λ_=>0):=
 dN hs hr (by
  rw [W1,W1,QQ (λx=>TD x 0),QQ (λx=>TD x 0),IN λx hx=>by rw [TD,hp x hx];rfl]
  exact Stf.refl _) ap
end Go.Proofs.YtaheakjfkpkefaaGreatDoor
