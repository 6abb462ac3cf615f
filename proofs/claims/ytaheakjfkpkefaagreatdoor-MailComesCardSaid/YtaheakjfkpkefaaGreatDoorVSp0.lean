/- Lemmas. -/
import Derived.Test.YtaheakjfkpkefaaGreatDoorVMiP
set_option maxHeartbeats 16000000
set_option maxRecDepth 100000
namespace Go.Proofs.YtaheakjfkpkefaaGreatDoor
section
variable {α:Type} (f:α→Int)
def Kf (l:List α) (q:Nat):Int:=((l[q]?).map f).getD 0
variable {f}
theorem HV {l:List α} {q:Nat} {x:α} (h:l[q]?=some x):Kf f l q=f x:=by rw [Kf,h];rfl
theorem GN {l l':List α} {p q:Nat} (h:l'[q]?=l[p]?):Kf f l' q=Kf f l p:=by rw [Kf,Kf,h]
variable (f)
def Srt (l:List α) (a b:Nat):Prop:=∀q,a≤q→q+1<b→Kf f l q≤Kf f l (q+1)
def Stf (l l':List α):Prop:=∀k:Int,l'.filter (λx=>decide (f x=k))=l.filter (λx=>decide (f x=k))
def OutS (l l':List α) (a b:Nat):Prop:=∀q,q<a∨b≤q→l'[q]?=l[q]?
def Bnd (l l':List α) (a b:Nat):Prop:=(∀v,(∀q,a≤q→q<b→Kf f l q≤v)→∀q,a≤q→q<b→Kf f l' q≤v)∧∀v,(∀q,a≤q→q<b→v≤Kf f l q)→∀q,a≤q→q<b→v≤Kf f l' q
variable {f}
theorem Srt.le {l:List α} {a b:Nat} (h:Srt f l a b) {i j:Nat} (hi:a≤i) (hij:i≤j) (hj:j<b):Kf f l i≤Kf f l j:=by
 induction j with
 | zero=>
  obtain rfl:i=0:=by omega
  exact Int.le_refl _
 | succ j ih=>
  rcases Nat.lt_or_ge j i with h1|h1
  ·obtain rfl:i=j+1:=by omega
   exact Int.le_refl _
  ·exact Int.le_trans (ih h1 AA) (h j AA hj)
theorem Srt.sub {l:List α} {a b c d:Nat} (h:Srt f l a b) (hc:a≤c) (hd:d≤b):Srt f l c d:=λq h1 h2=>h q AA AA
theorem Srt.out {l l':List α} {a b c d:Nat} (h:Srt f l c d) (ho:OutS l l' a b) (hx:d≤a∨b≤c):Srt f l' c d:=λq h1 h2=>by
 rw [GN (ho q AA),GN (ho (q+1) AA)];exact h q h1 h2
theorem Stf.refl (l:List α):Stf f l l:=λ_=>rfl
theorem Stf.trans {l l' l'':List α} (h:Stf f l l') (h':Stf f l' l''):Stf f l l'':=λk=>(h' k).trans (h k)
theorem OutS.refl (l:List α) (a b:Nat):OutS l l a b:=λ_ _=>rfl
theorem OutS.trans {l l' l'':List α} {a b:Nat} (h:OutS l l' a b) (h':OutS l' l'' a b):OutS l l'' a b:=λq hq=>(h' q hq).trans (h q hq)
theorem OutS.wide {l l':List α} {a b c d:Nat} (h:OutS l l' a b) (hc:c≤a) (hd:b≤d):OutS l l' c d:=λq hq=>h q AA
theorem Bnd.refl (l:List α) (a b:Nat):Bnd f l l a b:=⟨λ_ h=>h,λ_ h=>h⟩
theorem Bnd.trans {l l' l'':List α} {a b:Nat} (h:Bnd f l l' a b) (h':Bnd f l' l'' a b):Bnd f l l'' a b:=⟨λv hv=>h'.1 v (h.1 v hv),λv hv=>h'.2 v (h.2 v hv)⟩
theorem Bnd.wide {l l':List α} {a b c d:Nat} (h:Bnd f l l' a b) (ho:OutS l l' a b) (hc:c≤a) (hd:b≤d):Bnd f l l' c d:=by
 refine ⟨λv hv q h1 h2=>?_,λv hv q h1 h2=>?_⟩<;>by_cases hq:a≤q∧q<b
 ·exact h.1 v (λq h3 h4=>hv q AA AA) q hq.1 hq.2
 ·rw [GN (ho q AA)];exact hv q h1 h2
 ·exact h.2 v (λq h3 h4=>hv q AA AA) q hq.1 hq.2
 ·rw [GN (ho q AA)];exact hv q h1 h2
def HW (a m b q:Nat):Nat:=if a≤q∧q<a+(b-m) then q+(m-a) else if a+(b-m)≤q∧q<b then q-(b-m) else q
def swI (a b d q:Nat):Nat:=if a≤q∧q<a+d then q-a+b else if b≤q∧q<b+d then q-b+a else q
def Rot (l l':List α) (a m b:Nat):Prop:=∀q,l'[q]?=l[HW a m b q]?
theorem G4 {l:List α} {a m b:Nat} (h:a=m∨m=b):Rot l l a m b:=λq=>by
 have:HW a m b q=q:=by unfold HW;split<;>(try split)<;>omega
 rw [this]
theorem P5 {l:List α} {i j:Nat} {x y:α} (hx:l[i]?=some x) (hy:l[j]?=some y) (q:Nat):((l.set i y).set j x)[q]?=if q=j then l[i]? else if q=i then l[j]? else l[q]?:=by
 have hi:=(List.getElem?_eq_some_iff.1 hx).1;have hj:=(List.getElem?_eq_some_iff.1 hy).1
 by_cases h1:q=j
 ·subst h1;rw [if_pos rfl,List.getElem?_set_self (by rw [List.length_set];exact hj),hx]
 ·rw [if_neg h1,List.getElem?_set_ne (Ne.symm h1)]
  by_cases h2:q=i
  ·subst h2;rw [if_pos rfl,List.getElem?_set_self hi,hy]
  ·rw [if_neg h2,List.getElem?_set_ne (Ne.symm h2)]
theorem zE (l:List α) {a m b:Nat} (h1:a≤m) (h2:m≤b):l=l.take a++((l.drop a).take (m-a)++((l.drop m).take (b-m)++l.drop b)):=by
 have e1:l.drop b=(l.drop m).drop (b-m):=by rw [List.drop_drop];congr 1;omega
 have e2:l.drop m=(l.drop a).drop (m-a):=by rw [List.drop_drop];congr 1;omega
 rw [e1,List.take_append_drop]
 conv=>rhs;rw [e2]
 rw [List.take_append_drop,List.take_append_drop]
theorem Rot.dec {l l':List α} {a m b:Nat} (h:Rot l l' a m b) (h1:a≤m) (h2:m≤b) (hb:b≤l.length):l'=l.take a++((l.drop m).take (b-m)++((l.drop a).take (m-a)++l.drop b)):=by
 refine List.ext_getElem? λq=>?_
 rw [h q];have n1:(l.take a).length=a:=by rw [List.length_take];omega
 have n2:((l.drop m).take (b-m)).length=b-m:=by rw [List.length_take,List.length_drop];omega
 have n3:((l.drop a).take (m-a)).length=m-a:=by rw [List.length_take,List.length_drop];omega
 unfold HW
 by_cases c1:q<a
 ·rw [if_neg AA,if_neg AA,List.getElem?_append_left AA,List.getElem?_take_of_lt c1]
 ·rw [List.getElem?_append_right AA,n1]
  by_cases c2:q<a+(b-m)
  ·rw [if_pos AA,List.getElem?_append_left AA,List.getElem?_take_of_lt AA,List.getElem?_drop]
   congr 1;omega
  ·rw [List.getElem?_append_right AA,n2]
   by_cases c3:q<b
   ·rw [if_neg AA,if_pos AA,List.getElem?_append_left AA,List.getElem?_take_of_lt AA,List.getElem?_drop]
    congr 1;omega
   ·rw [if_neg AA,if_neg AA,List.getElem?_append_right AA,n3,List.getElem?_drop]
    congr 1;omega
theorem YH {l:List α} {a m:Nat} {x:α} (h:x∈(l.drop a).take (m-a)):∃i,a≤i∧i<m∧l[i]?=some x:=by
 obtain ⟨k,hk⟩:=List.getElem?_of_mem h;have hlt:=(List.getElem?_eq_some_iff.1 hk).1;rw [List.length_take] at hlt
 rw [List.getElem?_take_of_lt AA,List.getElem?_drop] at hk
 exact ⟨a+k,by omega,by omega,hk⟩
theorem Rot.stf {l l':List α} {a m b:Nat} (h:Rot l l' a m b) (h1:a≤m) (h2:m≤b) (hb:b≤l.length) (hne:∀i j,a≤i→i<m→m≤j→j<b→Kf f l i≠Kf f l j):Stf f l l':=λk=>by
 rw [h.dec h1 h2 hb]
 conv=>rhs;rw [zE l h1 h2]
 simp only [List.filter_append]
 have:((l.drop a).take (m-a)).filter (λx=>decide (f x=k))=[]∨((l.drop m).take (b-m)).filter (λx=>decide (f x=k))=[]:=by
  rw [List.filter_eq_nil_iff,List.filter_eq_nil_iff];refine Classical.byContradiction λhc=>?_
  rw [not_or] at hc
  obtain ⟨c1,c2⟩:=hc;simp only [Classical.not_forall,Classical.not_not] at c1 c2
  obtain ⟨x,hx,kx⟩:=c1;obtain ⟨y,hy,ky⟩:=c2;obtain ⟨i,i1,i2,hi⟩:=YH hx;obtain ⟨j,j1,j2,hj⟩:=YH hy;refine hne i j i1 i2 j1 j2 ?_;rw [HV hi,HV hj,odt kx,odt ky]
 rcases this with e|e<;>rw [e]<;>simp
theorem Rot.out {l l':List α} {a m b:Nat} (h:Rot l l' a m b) (h1:a≤m) (h2:m≤b):OutS l l' a b:=λq hq=>by
 rw [h q]
 have:HW a m b q=q:=by unfold HW;split<;>(try split)<;>omega
 rw [this]
theorem rK {a m b q:Nat} (h1:a≤m) (h2:m≤b) (ha:a≤q) (hb:q<b):a≤HW a m b q∧HW a m b q<b:=by unfold HW;split<;>(try split)<;>omega
theorem Rot.bnd {l l':List α} {a m b:Nat} (h:Rot l l' a m b) (h1:a≤m) (h2:m≤b):Bnd f l l' a b:=by
 refine ⟨λv hv q q1 q2=>?_,λv hv q q1 q2=>?_⟩<;>rw [GN (h q)]<;>obtain ⟨r1,r2⟩:=rK h1 h2 q1 q2<;>exact hv _ r1 r2
theorem l8 {l:List α} {j:Nat} {x y:α} (hj:0<j) (hx:l[j]?=some x) (hy:l[j-1]?=some y):Rot l ((l.set j y).set (j-1) x) (j-1) j (j+1):=λq=>by
 rw [P5 hx hy];unfold HW
 by_cases h1:q=j-1
 ·subst h1;rw [if_pos rfl,if_pos AA];congr 1;omega
 ·rw [if_neg h1]
  by_cases h2:q=j
  ·subst h2;rw [if_pos rfl,if_neg AA,if_pos AA];congr 1;omega
  ·rw [if_neg h2,if_neg AA,if_neg AA]
variable (f)
structure InJ (l0:List α) (a b i j:Nat) (l:List α):Prop where
 st:Stf f l0 l
 out:OutS l0 l a b
 s1:∀q,a≤q→q+1≤i→q+1≠j→Kf f l q≤Kf f l (q+1)
 s2:a<j→j<i→Kf f l (j-1)≤Kf f l (j+1)
structure InI (l0:List α) (a b i:Nat) (l:List α):Prop where
 st:Stf f l0 l
 out:OutS l0 l a b
 s:Srt f l a i
variable {f}
theorem InI.start (l:List α) (a b:Nat):InI f l a b (a+1) l:=⟨Stf.refl l,OutS.refl l a b,λq h1 h2=>by omega⟩
theorem InI.j {l0 l:List α} {a b i:Nat} (h:InI f l0 a b i l):InJ f l0 a b i i l:=⟨h.st,h.out,λq h1 h2 h3=>h.s q h1 AA,λ_ h2=>absurd h2 (Nat.lt_irrefl _)⟩
theorem InJ.step {l0 l:List α} {a b i j:Nat} {x y:α} (h:InJ f l0 a b i j l) (hx:l[j]?=some x) (hy:l[j-1]?=some y) (hlt:f x<f y) (haj:a<j) (hji:j≤i) (hib:i<b):InJ f l0 a b i (j-1) ((l.set j y).set (j-1) x):=by
 have hjl:=(List.getElem?_eq_some_iff.1 hx).1;have kx:=HV (f:=f) hx;have ky:=HV (f:=f) hy;have R:=l8 AA hx hy
 have hK:∀q,Kf f ((l.set j y).set (j-1) x) q=if q=j-1 then Kf f l j else if q=j then Kf f l (j-1) else Kf f l q:=λq=>by
  have e:=P5 hx hy q
  split
  ·rename_i h1;rw [if_pos h1] at e;exact GN e
  ·rename_i h1
   rw [if_neg h1] at e
   split
   ·rename_i h2;rw [if_pos h2] at e;exact GN e
   ·rename_i h2;rw [if_neg h2] at e;exact GN e
 refine ⟨h.st.trans (R.stf AA AA AA λp q p1 p2 q1 q2=>?_),h.out.trans ((R.out AA AA).wide AA AA),λq q1 q2 q3=>?_,λq1 q2=>?_⟩
 ·obtain rfl:p=j-1:=by omega
  obtain rfl:q=j:=by omega
  omega
 ·rw [hK,hK]
  by_cases c1:q=j-1
  ·subst c1;rw [if_pos rfl,if_neg AA,if_pos AA];omega
  ·rw [if_neg c1]
   by_cases c2:q=j
   ·subst c2;rw [if_pos rfl,if_neg AA,if_neg AA];exact h.s2 haj AA
   ·rw [if_neg c2,if_neg AA,if_neg AA];exact h.s1 q q1 q2 AA
 ·rw [hK,hK,if_neg AA,if_neg AA,if_neg AA,if_pos AA]
  have:=h.s1 (j-1-1) AA AA AA
  rwa [show j-1-1+1=j-1 by omega] at this
theorem InJ.step2 {l0 l:List α} {a b i j:Nat} {x y x' y':α} (h:InJ f l0 a b i j l) (hlt:f x'<f y') (hx':l[j]?=some x') (hy':l[j-1]?=some y') (hx:l[j]?=some x) (hy:l[j-1]?=some y) (haj:a<j) (hji:j≤i) (hib:i<b):InJ f l0 a b i (j-1) ((l.set j y).set (j-1) x):=by
 obtain rfl:=Option.some.inj (hx'.symm.trans hx);obtain rfl:=Option.some.inj (hy'.symm.trans hy);exact h.step hx hy hlt haj hji hib
theorem InJ.done0 {l0 l:List α} {a b i j:Nat} (h:InJ f l0 a b i j l) (hj:j≤a):InI f l0 a b (i+1) l:=⟨h.st,h.out,λq h1 h2=>h.s1 q h1 AA AA⟩
theorem InJ.done1 {l0 l:List α} {a b i j:Nat} {x y:α} (h:InJ f l0 a b i j l) (hx:l[j]?=some x) (hy:l[j-1]?=some y) (hge:¬f x<f y):InI f l0 a b (i+1) l:=⟨h.st,h.out,λq h1 h2=>by
 by_cases hq:q+1=j
 ·subst hq;rw [show q+1-1=q by omega] at hy
  rw [HV hx,HV hy];omega
 ·exact h.s1 q h1 AA hq⟩
variable (f)
structure Isd (l l':List α) (a b:Nat):Prop where
 st:Stf f l l'
 out:OutS l l' a b
 s:Srt f l' a b
variable {f}
theorem InI.done {l0 l:List α} {a b i:Nat} (h:InI f l0 a b i l) (hi:b≤i):Isd f l0 l a b:=⟨h.st,h.out,h.s.sub (Nat.le_refl _) hi⟩
def Sws (l l':List α) (a b d:Nat):Prop:=∀q,l'[q]?=l[swI a b d q]?
theorem Sws.start (l:List α) (a b:Nat):Sws l l a b 0:=λq=>by
 have:swI a b 0 q=q:=by unfold swI;split<;>(try split)<;>omega
 rw [this]
theorem Sws.step {l l':List α} {a b i:Nat} {x y:α} (h:Sws l l' a b i) (hx:l'[a+i]?=some x) (hy:l'[b+i]?=some y) (hab:a+i<b):Sws l ((l'.set (a+i) y).set (b+i) x) a b (i+1):=λq=>by
 rw [P5 hx hy];have e:∀p,l'[p]?=l[swI a b i p]?:=h
 by_cases h1:q=b+i
 ·subst h1;rw [if_pos rfl,e];congr 1;unfold swI;(repeat' split)<;>omega
 ·rw [if_neg h1]
  by_cases h2:q=a+i
  ·subst h2;rw [if_pos rfl,e];congr 1;unfold swI;(repeat' split)<;>omega
  ·rw [if_neg h2,e];congr 1;unfold swI;(repeat' split)<;>omega
def RoS (l l':List α) (a m b i j:Nat):Prop:=∀q,l'[HW (m-i) m (m+j) q]?=l[HW a m b q]?
theorem RoS.start (l:List α) {a m b:Nat} (h1:a<m) (h2:m<b):RoS l l a m b (m-a) (b-m):=λq=>by rw [show m-(m-a)=a by omega,show m+(b-m)=b by omega]
theorem RoS.left {l l' l'':List α} {a m b i j:Nat} (h:RoS l l' a m b i j) (hs:Sws l' l'' (m-i) m j) (hij:j<i) (him:i≤m):RoS l l'' a m b (i-j) j:=λq=>by
 rw [hs,←h q];congr 1;unfold swI HW;(repeat' split)<;>omega
theorem RoS.right {l l' l'':List α} {a m b i j:Nat} (h:RoS l l' a m b i j) (hs:Sws l' l'' (m-i) (m+j-i) i) (hij:i<j) (him:i≤m):RoS l l'' a m b i (j-i):=λq=>by
 rw [hs,←h q];congr 1;unfold swI HW;(repeat' split)<;>omega
theorem RoS.done {l l' l'':List α} {a m b i:Nat} (h:RoS l l' a m b i i) (hs:Sws l' l'' (m-i) m i) (him:i≤m):Rot l l'' a m b:=λq=>by
 rw [hs,←h q];congr 1;unfold swI HW;(repeat' split)<;>omega
variable (f)
structure Mgd (l l':List α) (a b:Nat):Prop where
 st:Stf f l l'
 out:OutS l l' a b
 bnd:Bnd f l l' a b
 s:Srt f l' a b
variable {f}
theorem Mgd.none {l:List α} {a b:Nat} (h:Srt f l a b):Mgd f l l a b:=⟨Stf.refl l,OutS.refl l a b,Bnd.refl l a b,h⟩
theorem Rot.k {l l':List α} {a m b:Nat} (h:Rot l l' a m b) (q:Nat):Kf f l' q=Kf f l (HW a m b q):=GN (h q)
theorem P9 {a m b q:Nat} (h1:a≤q) (h2:q<a+(b-m)):HW a m b q=q+(m-a):=if_pos ⟨h1,h2⟩
theorem P8 {a m b q:Nat} (h1:a+(b-m)≤q) (h2:q<b):HW a m b q=q-(b-m):=by rw [HW,if_neg AA,if_pos ⟨h1,h2⟩]
theorem JQ {a m b q:Nat} (h1:q<a∨(b≤q∧a+(b-m)≤q)):HW a m b q=q:=by rw [HW,if_neg AA,if_neg AA]
theorem Rot.cast {l l':List α} {a m b a' m' b':Nat} (h:Rot l l' a m b) (h1:a=a') (h2:m=m') (h3:b=b'):Rot l l' a' m' b':=by subst h1 h2 h3;exact h
theorem fY {l l2:List α} {a k:Nat} {x y:α} (h:Rot l l2 a (a+1) (k+1)) (hk:a≤k) (hx:l2[k]?=some x) (hy:l2[k+1]?=some y):Rot l ((l2.set k y).set (k+1) x) a (a+1) (k+1+1):=λq=>by
 rw [P5 hx hy]
 by_cases h1:q=k+1
 ·subst h1;rw [if_pos rfl,h];congr 1;unfold HW;(repeat' split)<;>omega
 ·rw [if_neg h1]
  by_cases h2:q=k
  ·subst h2;rw [if_pos rfl,h];congr 1;unfold HW;(repeat' split)<;>omega
  ·rw [if_neg h2,h];congr 1;unfold HW;(repeat' split)<;>omega
theorem fX {l l2:List α} {m k:Nat} {x y:α} (h:Rot l l2 k m (m+1)) (hk:0<k) (hkm:k≤m) (hx:l2[k]?=some x) (hy:l2[k-1]?=some y):Rot l ((l2.set k y).set (k-1) x) (k-1) m (m+1):=λq=>by
 rw [P5 hx hy]
 by_cases h1:q=k-1
 ·subst h1;rw [if_pos rfl,h];congr 1;unfold HW;(repeat' split)<;>omega
 ·rw [if_neg h1]
  by_cases h2:q=k
  ·subst h2;rw [if_pos rfl,h];congr 1;unfold HW;(repeat' split)<;>omega
  ·rw [if_neg h2,h];congr 1;unfold HW;(repeat' split)<;>omega
theorem uT {l:List α} {a m b h:Nat} {x y:α} (S:Srt f l m b) (hlt:f x<f y) (hx:l[h]?=some x) (hy:l[a]?=some y) (hb:h<b):∀q,m≤q→q<h+1→Kf f l q<Kf f l a:=λq q1 q2=>by
 have:=S.le q1 (show q≤h by omega) hb
 rw [HV hx] at this;rw [HV hy];omega
theorem uR {l:List α} {a m b h:Nat} {x y:α} (S:Srt f l m b) (hge:¬f x<f y) (hx:l[h]?=some x) (hy:l[a]?=some y) (hm:m≤h):∀q,h≤q→q<b→Kf f l a≤Kf f l q:=λq q1 q2=>by
 have:=S.le hm q1 q2
 rw [HV hx] at this;rw [HV hy];omega
theorem uS {l:List α} {a m h:Nat} {x y:α} (S:Srt f l a m) (hge:¬f x<f y) (hx:l[m]?=some x) (hy:l[h]?=some y) (hb:h<m):∀q,a≤q→q<h+1→Kf f l q≤Kf f l m:=λq q1 q2=>by
 have:=S.le q1 (show q≤h by omega) hb
 rw [HV hy] at this;rw [HV hx];omega
theorem uQ {l:List α} {a m h:Nat} {x y:α} (S:Srt f l a m) (hlt:f x<f y) (hx:l[m]?=some x) (hy:l[h]?=some y) (hm:a≤h):∀q,h≤q→q<m→Kf f l m<Kf f l q:=λq q1 q2=>by
 have:=S.le hm q1 q2
 rw [HV hy] at this;rw [HV hx];omega
theorem sW {l l':List α} {a m b i:Nat} (hm:m=a+1) (S:Srt f l m b) (hi:m≤i) (hib:i≤b) (hbl:b≤l.length) (hL:∀q,m≤q→q<i→Kf f l q<Kf f l a) (hR:∀q,i≤q→q<b→Kf f l a≤Kf f l q) (R:Rot l l' a m i):Mgd f l l' a b:=by
 subst hm;refine ⟨R.stf AA hi AA λp q p1 p2 q1 q2=>?_,(R.out AA hi).wide (Nat.le_refl _) hib,(R.bnd AA hi).wide (R.out AA hi) (Nat.le_refl _) hib,λq q1 q2=>?_⟩
 ·obtain rfl:p=a:=by omega
  have:=hL q q1 q2;omega
 ·rw [R.k,R.k]
  by_cases c1:q+1<a+(i-(a+1))
  ·rw [P9 AA AA,P9 AA AA]
   have:=S (q+(a+1-a)) AA AA
   rwa [show q+(a+1-a)+1=q+1+(a+1-a) by omega] at this
  ·by_cases c2:q+1=a+(i-(a+1))
   ·rw [P9 AA AA,P8 AA AA,show q+1-(i-(a+1))=a by omega];exact Int.le_of_lt (hL _ AA AA)
   ·by_cases c3:q+1=i
    ·rw [P8 AA AA,JQ AA,show q-(i-(a+1))=a by omega];exact hR _ AA AA
    ·rw [JQ AA,JQ AA];exact S q AA q2
theorem mR {l l':List α} {a m b i:Nat} (hb:b=m+1) (S:Srt f l a m) (hi:a≤i) (him:i≤m) (hbl:b≤l.length) (hL:∀q,a≤q→q<i→Kf f l q≤Kf f l m) (hR:∀q,i≤q→q<m→Kf f l m<Kf f l q) (R:Rot l l' i m b):Mgd f l l' a b:=by
 subst hb;refine ⟨R.stf him AA hbl λp q p1 p2 q1 q2=>?_,(R.out him AA).wide hi (Nat.le_refl _),(R.bnd him AA).wide (R.out him AA) hi (Nat.le_refl _),λq q1 q2=>?_⟩
 ·obtain rfl:q=m:=by omega
  have:=hR p p1 p2;omega
 ·rw [R.k,R.k]
  by_cases c1:q+1<i
  ·rw [JQ AA,JQ AA];exact S q q1 AA
  ·by_cases c2:q+1=i
   ·rw [JQ AA,P9 AA AA,show q+1+(m-i)=m by omega];exact hL _ q1 AA
   ·by_cases c3:q=i
    ·rw [P9 AA AA,P8 AA AA,show q+(m-i)=m by omega];exact Int.le_of_lt (hR _ AA AA)
    ·rw [P8 AA AA,P8 AA AA]
     have:=S (q-(m+1-m)) AA AA
     rwa [show q-(m+1-m)+1=q+1-(m+1-m) by omega] at this
variable (f)
structure MgA (l l2:List α) (a b s mid e:Nat):Prop where
 s1:Srt f l2 a s
 s2:Srt f l2 s mid
 s3:Srt f l2 mid e
 s4:Srt f l2 e b
 cross:∀i j,a≤i→i<mid→mid≤j→j<b→Kf f l2 i≤Kf f l2 j
 st:Stf f l l2
 out:OutS l l2 a b
 bnd:Bnd f l l2 a b
structure Sea (l:List α) (p s0 r0 s r:Nat):Prop where
 lo:∀c,s0≤c→c<s→Kf f l c≤Kf f l (p-c)
 hi:∀c,r≤c→c<r0→Kf f l (p-c)<Kf f l c
variable {f}
def Cse (a m b s0 r0:Nat):Prop:=((a+b) / 2<m∧s0+b=(a+b) / 2+m∧r0=(a+b) / 2)∨(m≤(a+b) / 2∧s0=a∧r0=m)
theorem Sea.up {l:List α} {a m b s0 r0 s r c:Nat} {x y:α} (h:Sea f l ((a+b) / 2+m-1) s0 r0 s r) (hc:Cse a m b s0 r0) (ham:a<m) (S1:Srt f l a m) (S2:Srt f l m b) (h2:c<r) (h3:r≤r0) (hx:l[(a+b) / 2+m-1-c]?=some x) (hy:l[c]?=some y) (hge:¬f x<f y):Sea f l ((a+b) / 2+m-1) s0 r0 (c+1) r:=by
 refine ⟨λd d1 d2=>?_,h.hi⟩;rcases Nat.lt_or_ge d s with q|q
 ·exact h.lo d d1 q
 ·have kx:=HV (f:=f) hx;have ky:=HV (f:=f) hy
  have e1:Kf f l d≤Kf f l c:=by
   rcases hc with hc|hc
   ·exact S1.le AA AA AA
   ·exact S1.le AA AA AA
  have e2:Kf f l ((a+b) / 2+m-1-c)≤Kf f l ((a+b) / 2+m-1-d):=by
   rcases hc with hc|hc
   ·exact S2.le AA AA AA
   ·exact S2.le AA AA AA
  omega
theorem Sea.down {l:List α} {a m b s0 r0 s r c:Nat} {x y:α} (h:Sea f l ((a+b) / 2+m-1) s0 r0 s r) (hc:Cse a m b s0 r0) (S1:Srt f l a m) (S2:Srt f l m b) (h0:s0≤s) (h1:s≤c) (h2:c<r) (h3:r≤r0) (hx:l[(a+b) / 2+m-1-c]?=some x) (hy:l[c]?=some y) (hlt:f x<f y):Sea f l ((a+b) / 2+m-1) s0 r0 s c:=by
 refine ⟨h.lo,λd d1 d2=>?_⟩;rcases Nat.lt_or_ge d r with q|q
 ·have kx:=HV (f:=f) hx;have ky:=HV (f:=f) hy
  have e1:Kf f l c≤Kf f l d:=by
   rcases hc with hc|hc
   ·exact S1.le AA AA AA
   ·exact S1.le AA AA AA
  have e2:Kf f l ((a+b) / 2+m-1-d)≤Kf f l ((a+b) / 2+m-1-c):=by
   rcases hc with hc|hc
   ·exact S2.le AA AA AA
   ·exact S2.le AA AA AA
  omega
 ·exact h.hi d q d2
theorem wR {l l2:List α} {a m b s0 r0 s:Nat} (h:Sea f l ((a+b) / 2+m-1) s0 r0 s s) (hc:Cse a m b s0 r0) (ham:a<m) (hmb:m<b) (hbl:b≤l.length) (S1:Srt f l a m) (S2:Srt f l m b) (h0:s0≤s) (h3:s≤r0) (R:Rot l l2 s m ((a+b) / 2+m-s)):MgA f l l2 a b s ((a+b) / 2) ((a+b) / 2+m-s):=by
 unfold Cse at hc
 obtain ⟨e,he⟩:∃e,e=(a+b) / 2+m-s:=⟨_,X⟩
 obtain ⟨d,hd⟩:∃d,d=(a+b) / 2:=⟨_,X⟩
 rw [←he] at R ⊢
 rw [←hd] at hc he ⊢ h
 have hsm:s≤m:=by rcases hc with hc|hc<;>omega
 have hme:m≤e:=by rcases hc with hc|hc<;>omega
 have hsd:s≤d:=by rcases hc with hc|hc<;>omega
 have has:a≤s:=by rcases hc with hc|hc<;>omega
 have hde:d≤e:=by rcases hc with hc|hc<;>omega
 have heb:e≤b:=by rcases hc with hc|hc<;>omega
 have hlt:∀i j,s≤i→i<m→m≤j→j<e→Kf f l j<Kf f l i:=λi j i1 i2 j1 j2=>by
  have e0:=h.hi s (Nat.le_refl _) (by rcases hc with hc|hc<;>omega);have e1:=S1.le (i:=s) (j:=i) has i1 i2;have e2:=S2.le (i:=j) (j:=d+m-1-s) j1 AA AA;omega
 have hX:∀i j,a≤i→i<s→e≤j→j<b→Kf f l i≤Kf f l j:=λi j i1 i2 j1 j2=>by
  have e0:=h.lo (s-1) (by rcases hc with hc|hc<;>omega) AA;rw [show d+m-1-(s-1)=e by omega] at e0
  have e1:=S1.le (i:=i) (j:=s-1) i1 AA AA;have e2:=S2.le (i:=e) (j:=j) AA j1 j2;omega
 refine ⟨λq q1 q2=>?_,λq q1 q2=>?_,λq q1 q2=>?_,λq q1 q2=>?_,λi j i1 i2 j1 j2=>?_,R.stf hsm hme AA λi j i1 i2 j1 j2=>?_,(R.out hsm hme).wide has heb,(R.bnd hsm hme).wide (R.out hsm hme) has heb⟩
 ·rw [R.k,R.k,JQ AA,JQ AA];exact S1 q q1 AA
 ·rw [R.k,R.k,P9 q1 AA,P9 AA AA]
  have:=S2 (q+(m-s)) AA AA
  rwa [show q+(m-s)+1=q+1+(m-s) by omega] at this
 ·rw [R.k,R.k,P8 AA AA,P8 AA AA]
  have:=S1 (q-(e-m)) AA AA
  rwa [show q-(e-m)+1=q+1-(e-m) by omega] at this
 ·rw [R.k,R.k,JQ AA,JQ AA];exact S2 q AA q2
 ·rw [R.k,R.k]
  by_cases c1:i<s<;>by_cases c2:j<e
  ·rw [JQ AA,P8 AA c2];exact S1.le i1 AA AA
  ·rw [JQ AA,JQ AA];exact hX i j i1 c1 AA j2
  ·rw [P9 AA AA,P8 AA c2];exact Int.le_of_lt (hlt _ _ AA AA AA AA)
  ·rw [P9 AA AA,JQ AA];exact S2.le AA AA j2
 ·have:=hlt i j i1 i2 j1 j2;omega
theorem MgA.left {l l2:List α} {a b s mid e:Nat} (h:MgA f l l2 a b s mid e) (hq:s≤a∨mid≤s):Mgd f l2 l2 a mid:=Mgd.none (by
 rcases hq with hq|hq
 ·exact h.s2.sub hq (Nat.le_refl _)
 ·exact h.s1.sub (Nat.le_refl _) hq)
theorem MgA.right {l l2 l3:List α} {a b s mid e:Nat} (h:MgA f l l2 a b s mid e) (h3:Mgd f l2 l3 a mid) (hq:e≤mid∨b≤e):Mgd f l3 l3 mid b:=Mgd.none (by
 rcases hq with hq|hq
 ·exact (h.s4.sub hq (Nat.le_refl _)).out h3.out (.inr (Nat.le_refl _))
 ·exact (h.s3.sub (Nat.le_refl _) hq).out h3.out (.inr (Nat.le_refl _)))
theorem MP {l l2 l3 l4:List α} {a b s mid e:Nat} (h:MgA f l l2 a b s mid e) (ha:a≤mid) (hb:mid≤b) (h3:Mgd f l2 l3 a mid) (h4:Mgd f l3 l4 mid b):Mgd f l l4 a b:=by
 refine ⟨(h.st.trans h3.st).trans h4.st,(h.out.trans (h3.out.wide (Nat.le_refl _) hb)).trans (h4.out.wide ha (Nat.le_refl _)),(h.bnd.trans (h3.bnd.wide h3.out (Nat.le_refl _) hb)).trans (h4.bnd.wide h4.out ha (Nat.le_refl _)),λq q1 q2=>?_⟩
 by_cases c1:q+1<mid
 ·exact (h3.s.out h4.out (.inl (Nat.le_refl _))) q q1 c1
 ·by_cases c2:q+1=mid
  ·have hl:∀j,mid≤j→j<b→∀i,a≤i→i<mid→Kf f l3 i≤Kf f l3 j:=λj j1 j2=>by
    rw [GN (h3.out j (.inr j1))];exact h3.bnd.1 _ λi i1 i2=>h.cross i j i1 i2 j1 j2
   rw [GN (h4.out q (.inl AA))];exact h4.bnd.2 _ (λj j1 j2=>hl j j1 j2 q q1 AA) (q+1) AA q2
  ·exact h4.s q AA q2
variable (f)
structure Bks (l0 l:List α) (n z y:Nat):Prop where
 st:Stf f l0 l
 two:∀q,q+1<y→q+1<n→(q+1)%(2*z)≠0→Kf f l q≤Kf f l (q+1)
 one:∀q,y≤q→q+1<n→(q+1)%z≠0→Kf f l q≤Kf f l (q+1)
 mul:y%(2*z)=0
structure Bk1 (l0 l:List α) (x:Nat):Prop where
 st:Stf f l0 l
 s:∀q,q+1<x→(q+1)%20≠0→Kf f l q≤Kf f l (q+1)
 mul:x%20=0
variable {f}
theorem Bk1.start (l:List α):Bk1 f l l 0:=⟨Stf.refl l,λq h=>by omega,rfl⟩
theorem Bk1.step {l0 l l':List α} {x:Nat} (h:Bk1 f l0 l x) (hi:Isd f l l' x (x+20)):Bk1 f l0 l' (x+20):=by
 refine ⟨h.st.trans hi.st,λq q1 q2=>?_,by have:=h.mul;omega⟩
 have:=h.mul
 by_cases c:x≤q
 ·exact hi.s q c q1
 ·rw [GN (hi.out q AA),GN (hi.out (q+1) AA)];exact h.s q AA q2
theorem Bk1.done {l0 l l':List α} {x n:Nat} (h:Bk1 f l0 l x) (hi:Isd f l l' x n):Bks f l0 l' n 20 0:=by
 refine ⟨h.st.trans hi.st,λq h=>by omega,λq _ q1 q2=>?_,rfl⟩
 have:=h.mul
 by_cases c:x≤q
 ·exact hi.s q c q1
 ·rw [GN (hi.out q AA),GN (hi.out (q+1) AA)];exact h.s q AA q2
theorem mN {y z d:Nat} (h:y%z=0) (h1:0<d) (h2:d<z):(y+d)%z≠0:=by
 rw [Nat.add_mod,h,Nat.zero_add,Nat.mod_mod,Nat.mod_eq_of_lt h2];omega
theorem YW {y z:Nat} (h:y%(2*z)=0):y%z=0:=by
 rw [←Nat.mod_mod_of_dvd y (Nat.dvd_mul_left z 2),h,Nat.zero_mod]
theorem Bks.l1 {l0 l:List α} {n z y b:Nat} (h:Bks f l0 l n z y) (hb:b≤y+z) (hn:b≤n):Srt f l y b:=λq q1 q2=>h.one q q1 AA (by
 have:=mN (d:=q+1-y) (YW h.mul) AA AA
 rwa [show y+(q+1-y)=q+1 by omega] at this)
theorem Bks.l2 {l0 l:List α} {n z y b:Nat} (h:Bks f l0 l n z y) (hb:b≤y+2*z) (hn:b≤n):Srt f l (y+z) b:=λq q1 q2=>h.one q AA AA (by
 have hz:(y+z)%z=0:=by rw [Nat.add_mod_right];exact YW h.mul
 have:=mN (d:=q+1-(y+z)) hz AA AA
 rwa [show y+z+(q+1-(y+z))=q+1 by omega] at this)
theorem Bks.step {l0 l l':List α} {n z y:Nat} (h:Bks f l0 l n z y) (hz:0<z) (hi:Mgd f l l' y (y+2*z)):Bks f l0 l' n z (y+2*z):=by
 have hm:=h.mul;refine ⟨h.st.trans hi.st,λq q1 q2 q3=>?_,λq q1 q2 q3=>?_,by rw [Nat.add_mod_right];exact hm⟩
 ·by_cases c:y≤q
  ·exact hi.s q c q1
  ·have:q+1≠y:=λe=>q3 (e▸hm)
   rw [GN (hi.out q AA),GN (hi.out (q+1) AA)];exact h.two q AA q2 q3
 ·rw [GN (hi.out q AA),GN (hi.out (q+1) AA)];exact h.one q AA q2 q3
theorem Bks.next {l0 l:List α} {n z y:Nat} (h:Bks f l0 l n z y) (hn:n≤y+z):Bks f l0 l n (2*z) 0:=by
 have hm:=h.mul;refine ⟨h.st,λq h=>by omega,λq _ q1 q2=>?_,Nat.zero_mod _⟩
 by_cases c:y≤q
 ·exact h.l1 (b:=n) hn (Nat.le_refl _) q c q1
 ·have:q+1≠y:=λe=>q2 (e▸hm)
  exact h.two q AA q1 q2
theorem Bks.next2 {l0 l l':List α} {n z y:Nat} (h:Bks f l0 l n z y) (hi:Mgd f l l' y n):Bks f l0 l' n (2*z) 0:=by
 have hm:=h.mul;refine ⟨h.st.trans hi.st,λq h=>by omega,λq _ q1 q2=>?_,Nat.zero_mod _⟩
 by_cases c:y≤q
 ·exact hi.s q c q1
 ·have:q+1≠y:=λe=>q2 (e▸hm)
  rw [GN (hi.out q AA),GN (hi.out (q+1) AA)];exact h.two q AA q1 q2
theorem S3 {l0 l:List α} {n z y:Nat} (h:Bks f l0 l n (2*z) y):Bks f l0 l n (z*2) y:=by rw [Nat.mul_comm];exact h
theorem Bks.done {l0 l:List α} {n z:Nat} (h:Bks f l0 l n z 0) (hn:n≤z):Stf f l0 l∧Srt f l 0 n:=⟨h.st,h.l1 AA (Nat.le_refl _)⟩
end
end Go.Proofs.YtaheakjfkpkefaaGreatDoor
