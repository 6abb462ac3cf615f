/- Lemmas. -/
import Derived.Test.YtppmdnmjepkfaaaGreatDoorYb3
import Derived.Maps.RangeRun
import Derived.Lib.Builder
import Derived.Laws.Externs
import Derived.Shelf.Sort.Plain
import Derived.Shelf.Slices.In.SortNone
import Derived.Shelf.Small.Strs
import Derived.Shelf.Bits.Mul64
import Derived.Shelf.Slices.Reverse
import Derived.Deep.Slices
import Derived.Deep.Strs
import Derived.ProofKit
import Derived.OpenShut
import Derived.Deep.DeepHandedRow
import Derived.Lay
import Derived.Shelf.Unicode.ValidAny
set_option maxHeartbeats 16000000
set_option maxRecDepth 100000
namespace Go.Proofs.YtppmdnmjepkfaaaGreatDoor
open Go.RowKit
open Tryz
open Decidable renaming decide→O
open Option renaming some→G,none→zx
open Bool renaming true→zz,false→zy
open Go.Proofs.Tryz renaming prog→zv
open Go renaming Calls→zt
theorem AU : (zv.info? 113).map (·.size)=G 7:=zr
theorem cA {α:Type} (cells:α→Kx) (hk:∀x,(cells x).length=11) (A:Ky) (c:Nat) (l:List α) (hl:l.length≤4611686018427387904) (f:FuncId) (cs:Kx) (p:Nat→α→Bool) (S:Nat→Prop) (J:Nat→Kw→Prop) (w:Kw) (hP:PredJ zv f cs (λx=>.agg (cells x).toArray) l p S J w) (hR:∀w1,Fr S w w1→Rd w1 A (l.length*11) (AF cells l)) (hJ:J 0 w) :
 zt zv 180 #[.slice A l.length c,.func (.func f) #[] cs.toArray] w λe w'=>e=.returned (AA (ixJ p 0 l))∧J (ixN p 0 l) w'∧Fr S w w':=by
 refine sx_enter (vs:=[_,_]) func180 X ntmps180 X ?_;have M:Mem w S [] w:=Mem.nil w;refine W ?_;refine EC M [7,1,0] (λze zF e wr mz=>∃(i:Nat),e=(8,AA (i:Int))::ze∧zF wr∧(i≤l.length)∧(J i wr)∧(ixJ p 0 l=ixJ p i (l.drop i))∧(ixN p 0 l=ixN p i (l.drop i))∧mz=l.length-i) ⟨0,X,M,Aj _,hJ,X,X,X⟩ ?_;rintro _ w1 _ ⟨i,rfl,M,hi,hJ,hr,hn,rfl⟩;refine W ?_;refine AC X (λh9=>?_) (λh9=>?_)
 ·have h9p:=odt h9;refine W ?_;obtain ⟨x,_,_,hx,hA_x⟩:=ex5 (l:=l) (k:=11) (i:=i) (hR _ M.fr);refine ya X (AK i hA_x X X X (sl X) A0) (ya X (AJ X X (BF hk (hR _ M.fr) hA_x hx) Bk X AM) (cl 16 X (C7 X X X hP.fn) (hP.call i x _ hx M.fr hJ) ?_));rintro _ w9 ⟨rfl,hJ,hf9⟩;refine cq ?_;have M:Mem w S [] w9:=Mem.ofFr (M.fr.trans hf9);refine W ?_;refine AC X (λh16=>?_) (λh16=>?_)
  ·refine W ?_;exact gr1 X ⟨by rw [hr,AH hx,ixJ,Ac h16],by rw [hn,AH hx,ixN,Ac h16];exact hJ,M.fr⟩
  refine W ?_;refine fag ⟨i+1,X,M,?_,?_,?_,?_,X⟩
  ·omega
  ·exact hJ
  ·rw [hr,AH hx,ixJ,AN h16]
  rw [hn,AH hx,ixN,AN h16]
 have h9p:=odf h9;refine W ?_;refine gr1 X ?_;obtain rfl:i=l.length:=A0
 exact ⟨by rw [hr,Aq];rfl,by rw [hn,Aq];exact hJ,M.fr⟩
theorem wQ {α:Type} (cells:α→Kx) (hk:∀x,(cells x).length=11) (A:Ky) (c:Nat) (l:List α) (hl:l.length≤4611686018427387904) (f:FuncId) (cs:Kx) (p:Nat→α→Bool) (S:Nat→Prop) (J:Nat→Kw→Prop) (w:Kw) (hP:PredJ zv f cs (λx=>.agg (cells x).toArray) l p S J w) (hR:∀w1,Fr S w w1→Rd w1 A (l.length*11) (AF cells l)) (hJ:J 0 w) :
 zt zv 141 #[.slice A l.length c,.func (.func f) #[] cs.toArray] w λe w'=>e=.returned (.bool (O (0≤ixJ p 0 l)))∧J (ixN p 0 l) w'∧Fr S w w':=by
 refine sx_enter (vs:=[_,_]) func141 X ntmps141 X ?_;have M:Mem w S [] w:=Mem.nil w;refine W ?_;refine cl 7 X (AE X X call180) (cA cells hk A c l hl f cs p S J _ hP hR hJ) ?_;rintro _ w9 ⟨rfl,hJ,hf9⟩;refine cq ?_;have M:Mem w S [] w9:=Mem.ofFr hf9;refine W ?_;exact gr1 X ⟨X,hJ,M.fr⟩
theorem mL {α:Type} (cells:α→Kx) (hk:∀x,(cells x).length=4) (A:Ky) (c:Nat) (l:List α) (hl:l.length≤4611686018427387904) (f:FuncId) (cs:Kx) (p:Nat→α→Bool) (S:Nat→Prop) (J:Nat→Kw→Prop) (w:Kw) (hP:PredJ zv f cs (λx=>.agg (cells x).toArray) l p S J w) (hR:∀w1,Fr S w w1→Rd w1 A (l.length*4) (AF cells l)) (hJ:J 0 w) :
 zt zv 182 #[.slice A l.length c,.func (.func f) #[] cs.toArray] w λe w'=>e=.returned (AA (ixJ p 0 l))∧J (ixN p 0 l) w'∧Fr S w w':=by
 refine sx_enter (vs:=[_,_]) func182 X ntmps182 X ?_;have M:Mem w S [] w:=Mem.nil w;refine W ?_;refine EC M [7,1,0] (λze zF e wr mz=>∃(i:Nat),e=(8,AA (i:Int))::ze∧zF wr∧(i≤l.length)∧(J i wr)∧(ixJ p 0 l=ixJ p i (l.drop i))∧(ixN p 0 l=ixN p i (l.drop i))∧mz=l.length-i) ⟨0,X,M,Aj _,hJ,X,X,X⟩ ?_;rintro _ w1 _ ⟨i,rfl,M,hi,hJ,hr,hn,rfl⟩;refine W ?_;refine AC X (λh9=>?_) (λh9=>?_)
 ·have h9p:=odt h9;refine W ?_;obtain ⟨x,_,_,hx,hA_x⟩:=ex5 (l:=l) (k:=4) (i:=i) (hR _ M.fr);refine ya X (AK i hA_x X X X (sl X) A0) (ya X (AJ X X (BF hk (hR _ M.fr) hA_x hx) Co X BU) (cl 16 X (C7 X X X hP.fn) (hP.call i x _ hx M.fr hJ) ?_));rintro _ w9 ⟨rfl,hJ,hf9⟩;refine cq ?_;have M:Mem w S [] w9:=Mem.ofFr (M.fr.trans hf9);refine W ?_;refine AC X (λh16=>?_) (λh16=>?_)
  ·refine W ?_;exact gr1 X ⟨by rw [hr,AH hx,ixJ,Ac h16],by rw [hn,AH hx,ixN,Ac h16];exact hJ,M.fr⟩
  refine W ?_;refine fag ⟨i+1,X,M,?_,?_,?_,?_,X⟩
  ·omega
  ·exact hJ
  ·rw [hr,AH hx,ixJ,AN h16]
  rw [hn,AH hx,ixN,AN h16]
 have h9p:=odf h9;refine W ?_;refine gr1 X ?_;obtain rfl:i=l.length:=A0
 exact ⟨by rw [hr,Aq];rfl,by rw [hn,Aq];exact hJ,M.fr⟩
theorem wP {α:Type} (cells:α→Kx) (hk:∀x,(cells x).length=4) (A:Ky) (c:Nat) (l:List α) (hl:l.length≤4611686018427387904) (f:FuncId) (cs:Kx) (p:Nat→α→Bool) (S:Nat→Prop) (J:Nat→Kw→Prop) (w:Kw) (hP:PredJ zv f cs (λx=>.agg (cells x).toArray) l p S J w) (hR:∀w1,Fr S w w1→Rd w1 A (l.length*4) (AF cells l)) (hJ:J 0 w) :
 zt zv 131 #[.slice A l.length c,.func (.func f) #[] cs.toArray] w λe w'=>e=.returned (.bool (O (0≤ixJ p 0 l)))∧J (ixN p 0 l) w'∧Fr S w w':=by
 refine sx_enter (vs:=[_,_]) func131 X ntmps131 X ?_;have M:Mem w S [] w:=Mem.nil w;refine W ?_;refine cl 7 X (AE X X call182) (mL cells hk A c l hl f cs p S J _ hP hR hJ) ?_;rintro _ w9 ⟨rfl,hJ,hf9⟩;refine cq ?_;have M:Mem w S [] w9:=Mem.ofFr hf9;refine W ?_;exact gr1 X ⟨X,hJ,M.fr⟩
theorem VM {α:Type} (cells:α→Kx) (hk:∀x,(cells x).length=5) (A:Ky) (c:Nat) (l:List α) (hl:l.length≤4611686018427387904) (f:FuncId) (cs:Kx) (p:Nat→α→Bool) (S:Nat→Prop) (J:Nat→Kw→Prop) (w:Kw) (hP:PredJ zv f cs (λx=>.agg (cells x).toArray) l p S J w) (hR:∀w1,Fr S w w1→Rd w1 A (l.length*5) (AF cells l)) (hJ:J 0 w) :
 zt zv 178 #[.slice A l.length c,.func (.func f) #[] cs.toArray] w λe w'=>e=.returned (AA (ixJ p 0 l))∧J (ixN p 0 l) w'∧Fr S w w':=by
 refine sx_enter (vs:=[_,_]) func178 X ntmps178 X ?_;have M:Mem w S [] w:=Mem.nil w;refine W ?_;refine EC M [7,1,0] (λze zF e wr mz=>∃(i:Nat),e=(8,AA (i:Int))::ze∧zF wr∧(i≤l.length)∧(J i wr)∧(ixJ p 0 l=ixJ p i (l.drop i))∧(ixN p 0 l=ixN p i (l.drop i))∧mz=l.length-i) ⟨0,X,M,Aj _,hJ,X,X,X⟩ ?_;rintro _ w1 _ ⟨i,rfl,M,hi,hJ,hr,hn,rfl⟩;refine W ?_;refine AC X (λh9=>?_) (λh9=>?_)
 ·have h9p:=odt h9;refine W ?_;obtain ⟨x,_,_,hx,hA_x⟩:=ex5 (l:=l) (k:=5) (i:=i) (hR _ M.fr);refine ya X (AK i hA_x X X X (sl X) A0) (ya X (AJ X X (BF hk (hR _ M.fr) hA_x hx) Dt X EW) (cl 16 X (C7 X X X hP.fn) (hP.call i x _ hx M.fr hJ) ?_));rintro _ w9 ⟨rfl,hJ,hf9⟩;refine cq ?_;have M:Mem w S [] w9:=Mem.ofFr (M.fr.trans hf9);refine W ?_;refine AC X (λh16=>?_) (λh16=>?_)
  ·refine W ?_;exact gr1 X ⟨by rw [hr,AH hx,ixJ,Ac h16],by rw [hn,AH hx,ixN,Ac h16];exact hJ,M.fr⟩
  refine W ?_;refine fag ⟨i+1,X,M,?_,?_,?_,?_,X⟩
  ·omega
  ·exact hJ
  ·rw [hr,AH hx,ixJ,AN h16]
  rw [hn,AH hx,ixN,AN h16]
 have h9p:=odf h9;refine W ?_;refine gr1 X ?_;obtain rfl:i=l.length:=A0
 exact ⟨by rw [hr,Aq];rfl,by rw [hn,Aq];exact hJ,M.fr⟩
theorem wR {α:Type} (cells:α→Kx) (hk:∀x,(cells x).length=5) (A:Ky) (c:Nat) (l:List α) (hl:l.length≤4611686018427387904) (f:FuncId) (cs:Kx) (p:Nat→α→Bool) (S:Nat→Prop) (J:Nat→Kw→Prop) (w:Kw) (hP:PredJ zv f cs (λx=>.agg (cells x).toArray) l p S J w) (hR:∀w1,Fr S w w1→Rd w1 A (l.length*5) (AF cells l)) (hJ:J 0 w) :
 zt zv 146 #[.slice A l.length c,.func (.func f) #[] cs.toArray] w λe w'=>e=.returned (.bool (O (0≤ixJ p 0 l)))∧J (ixN p 0 l) w'∧Fr S w w':=by
 refine sx_enter (vs:=[_,_]) func146 X ntmps146 X ?_;have M:Mem w S [] w:=Mem.nil w;refine W ?_;refine cl 7 X (AE X X call178) (VM cells hk A c l hl f cs p S J _ hP hR hJ) ?_;rintro _ w9 ⟨rfl,hJ,hf9⟩;refine cq ?_;have M:Mem w S [] w9:=Mem.ofFr hf9;refine W ?_;exact gr1 X ⟨X,hJ,M.fr⟩
theorem a0x {α:Type} (cells:α→Kx) (hk:∀x,(cells x).length=7) (A:Ky) (c:Nat) (l:List α) (hl:l.length≤4611686018427387904) (f:FuncId) (cs:Kx) (p:Nat→α→Bool) (S:Nat→Prop) (J:Nat→Kw→Prop) (w:Kw) (hP:PredJ zv f cs (λx=>.agg (cells x).toArray) l p S J w) (hR:∀w1,Fr S w w1→Rd w1 A (l.length*7) (AF cells l)) (hJ:J 0 w) :
 zt zv 244 #[.slice A l.length c,.func (.func f) #[] cs.toArray] w λe w'=>e=.returned (AA (ixJ p 0 l))∧J (ixN p 0 l) w'∧Fr S w w':=by
 refine sx_enter (vs:=[_,_]) func244 X ntmps244 X ?_;have M:Mem w S [] w:=Mem.nil w;refine W ?_;refine EC M [7,1,0] (λze zF e wr mz=>∃(i:Nat),e=(8,AA (i:Int))::ze∧zF wr∧(i≤l.length)∧(J i wr)∧(ixJ p 0 l=ixJ p i (l.drop i))∧(ixN p 0 l=ixN p i (l.drop i))∧mz=l.length-i) ⟨0,X,M,Aj _,hJ,X,X,X⟩ ?_;rintro _ w1 _ ⟨i,rfl,M,hi,hJ,hr,hn,rfl⟩;refine W ?_;refine AC X (λh9=>?_) (λh9=>?_)
 ·have h9p:=odt h9;refine W ?_;obtain ⟨x,_,_,hx,hA_x⟩:=ex5 (l:=l) (k:=7) (i:=i) (hR _ M.fr);refine ya X (AK i hA_x X X X (sl X) A0) (ya X (AJ X X (BF hk (hR _ M.fr) hA_x hx) Bt X AU) (cl 16 X (C7 X X X hP.fn) (hP.call i x _ hx M.fr hJ) ?_));rintro _ w9 ⟨rfl,hJ,hf9⟩;refine cq ?_;have M:Mem w S [] w9:=Mem.ofFr (M.fr.trans hf9);refine W ?_;refine AC X (λh16=>?_) (λh16=>?_)
  ·refine W ?_;exact gr1 X ⟨by rw [hr,AH hx,ixJ,Ac h16],by rw [hn,AH hx,ixN,Ac h16];exact hJ,M.fr⟩
  refine W ?_;refine fag ⟨i+1,X,M,?_,?_,?_,?_,X⟩
  ·omega
  ·exact hJ
  ·rw [hr,AH hx,ixJ,AN h16]
  rw [hn,AH hx,ixN,AN h16]
 have h9p:=odf h9;refine W ?_;refine gr1 X ?_;obtain rfl:i=l.length:=A0
 exact ⟨by rw [hr,Aq];rfl,by rw [hn,Aq];exact hJ,M.fr⟩
theorem wO {α:Type} (cells:α→Kx) (hk:∀x,(cells x).length=7) (A:Ky) (c:Nat) (l:List α) (hl:l.length≤4611686018427387904) (f:FuncId) (cs:Kx) (p:Nat→α→Bool) (S:Nat→Prop) (J:Nat→Kw→Prop) (w:Kw) (hP:PredJ zv f cs (λx=>.agg (cells x).toArray) l p S J w) (hR:∀w1,Fr S w w1→Rd w1 A (l.length*7) (AF cells l)) (hJ:J 0 w) :
 zt zv 229 #[.slice A l.length c,.func (.func f) #[] cs.toArray] w λe w'=>e=.returned (.bool (O (0≤ixJ p 0 l)))∧J (ixN p 0 l) w'∧Fr S w w':=by
 refine sx_enter (vs:=[_,_]) func229 X ntmps229 X ?_;have M:Mem w S [] w:=Mem.nil w;refine W ?_;refine cl 7 X (AE X X call244) (a0x cells hk A c l hl f cs p S J _ hP hR hJ) ?_;rintro _ w9 ⟨rfl,hJ,hf9⟩;refine cq ?_;have M:Mem w S [] w9:=Mem.ofFr hf9;refine W ?_;exact gr1 X ⟨X,hJ,M.fr⟩
theorem fU (A:Ky) (c:Nat) (l:List Kz) (hl:l.length≤4611686018427387904) (f:FuncId) (cs:Kx) (p:Nat→Kz→Bool) (S:Nat→Prop) (J:Nat→Kw→Prop) (w:Kw) (hP:PredJ zv f cs str l p S J w) (hR:∀w1,Fr S w w1→Rd w1 A (l.length*1) (AF BH l)) (hJ:J 0 w) :
 zt zv 185 #[.slice A l.length c,.func (.func f) #[] cs.toArray] w λe w'=>e=.returned (AA (ixJ p 0 l))∧J (ixN p 0 l) w'∧Fr S w w':=by
 refine sx_enter (vs:=[_,_]) func185 X ntmps185 X ?_;have M:Mem w S [] w:=Mem.nil w;refine W ?_;refine EC M [7,1,0] (λze zF e wr mz=>∃(i:Nat),e=(8,AA (i:Int))::ze∧zF wr∧(i≤l.length)∧(J i wr)∧(ixJ p 0 l=ixJ p i (l.drop i))∧(ixN p 0 l=ixN p i (l.drop i))∧mz=l.length-i) ⟨0,X,M,Aj _,hJ,X,X,X⟩ ?_;rintro _ w1 _ ⟨i,rfl,M,hi,hJ,hr,hn,rfl⟩;refine W ?_;refine AC X (λh9=>?_) (λh9=>?_)
 ·have h9p:=odt h9;refine W ?_;obtain ⟨x,_,_,hx,hA_x⟩:=ex5 (l:=l) (k:=1) (i:=i) (hR _ M.fr);refine ya X (AK i hA_x X X X (sl X) A0) (yl X X (BC DN (hR _ M.fr) hA_x hx 0 X) (cl 16 X (C7 X X X hP.fn) (hP.call i x _ hx M.fr hJ) ?_));rintro _ w9 ⟨rfl,hJ,hf9⟩;refine cq ?_;have M:Mem w S [] w9:=Mem.ofFr (M.fr.trans hf9);refine W ?_;refine AC X (λh16=>?_) (λh16=>?_)
  ·refine W ?_;exact gr1 X ⟨by rw [hr,AH hx,ixJ,Ac h16],by rw [hn,AH hx,ixN,Ac h16];exact hJ,M.fr⟩
  refine W ?_;refine fag ⟨i+1,X,M,?_,?_,?_,?_,X⟩
  ·omega
  ·exact hJ
  ·rw [hr,AH hx,ixJ,AN h16]
  rw [hn,AH hx,ixN,AN h16]
 have h9p:=odf h9;refine W ?_;refine gr1 X ?_;obtain rfl:i=l.length:=A0
 exact ⟨by rw [hr,Aq];rfl,by rw [hn,Aq];exact hJ,M.fr⟩
section
section
variable {P:Lw} {ops:Array Oper} {Q:Exit→Act→Kw→Prop} {S:Kw→Prop} {t n f:Nat} {listed:Array Bool} {e:Env} {w:Kw}
theorem DV {o:Oper} {d:Nat} {v:Kv} (i:Nat) (hr:Region.ready .any ops listed=[i]) (ho:ops[i]?=G o) (hw:Wn ops e o) (hd:o.dst=G d) (hn:Nat.blt d n=zz) (hy:Y P e o w v) (hS:S w)
 (k:SxO P ops Q t S n f (listed.setIfInBounds i zz) ((d,v)::e) w):SxO P ops Q t S n (f+1) listed e w:=
 B7 i (G d) hr ho hw hd hn (R:=λu w'=>u=v∧w'=w) (λρ hρ=>⟨v,w,.inl (hy ρ hρ),rfl,rfl⟩) λu w' ⟨h1,h2⟩=>by subst h1;subst h2;exact ⟨λ_=>hS,k⟩
theorem IG {o:Oper} {j d d':Nat} {b c:Bool} (i:Nat) (hr:Region.ready .any ops listed=[i]) (ho:ops[i]?=G o) (h:o.guard=G (j,b)) (hj:(ops[j]?).bind (·.dst)=G d) (hb:e.get d=G (.bool c)) (hne:(c==b)=zy) (hd:o.dst=G d') (hn:Nat.blt d' n=zz) (hS:S w)
 (k:SxO P ops Q t S n f (listed.setIfInBounds i zz) ((d',undef)::e) w):SxO P ops Q t S n (f+1) listed e w:=⟨λa ha=>by
 have hw:Region.wanted o (yielded ops a.tmps)=zy:=by
  simp only [Region.wanted,h,yielded,hj,ha.get d _ hb,Fh]
  cases c<;>cases b<;>simp_all
 refine ⟨λh0=>(by rw [hr] at h0;cases h0),λj' hj'=>?_⟩;rw [hr] at hj'
 obtain rfl:j'=i:=by simpa using hj'
 unfold wpOp;simp only [ho,hw,Dm,if_false];rw [hd];exact ⟨λ_=>hS,k.run _ (ha.put (D6 hn) _)⟩⟩
end
end
section
def lD (ops:Array Oper) (i t:Nat):Bool:=(List.range ops.size).all λj=>O (j<t) || Region.waitsFor .any ops j i
section
variable {P:Lw} {ops:Array Oper} {Q:Exit→Act→Kw→Prop} {S:Kw→Prop} {t:Nat}
theorem YK {i:Nat} {oi:Oper} {v:Kv} (hi:ops[i]?=G oi) (hsel:∀(j:Nat) (o:Oper) cs b,ops[j]?=G o→o.op≠.select cs b)
 (hQ:∀c a w,Q (.panic c) (a.put oi.dst v) w→Q (.panic c) a w) (hwait:lD ops i t=zz) :
 ∀(fuel:Nat) (listed:Array Bool) (a:Act) (w:Kw),
  (∀j oj,ops[j]?=G oj→j≠i→listed.getD j zz=zy→(∀e∈oj.after,Region.binds .any e=zz→e.on≠i)→oi.apart ops oj=zz) →
  i∈Region.ready .any ops listed→YieldsIf P ops S oi v a→S w →
  KU P ops Q t S fuel (listed.setIfInBounds i zz) (a.put oi.dst v) w→KU P ops Q t S (fuel+1) listed a w:=by
 intro fuel
 induction fuel with
 | zero=>
  intro listed a w _ hr hy hS H;refine ⟨λh=>(by rw [h] at hr;cases hr),λj hj=>?_⟩
  by_cases hji:j=i
  ·subst hji;exact hy.wpOp hi hS ⟨λ_=>hS,H⟩
  have:=ready_mono hj hji
  rw [H.1] at this
  cases this
 | succ fuel ih=>
  intro listed a w hfree hr hy hS H;refine ⟨λh=>(by rw [h] at hr;cases hr),λj hj=>?_⟩
  by_cases hji:j=i
  ·subst hji;exact hy.wpOp hi hS ⟨λ_=>hS,H⟩
  have h1:=H.2 j (ready_mono hj hji);obtain ⟨hjun,oj,hoj,hall⟩:=mem_ready.1 hj
  have hnot:∀e∈oj.after,Region.binds .any e=zz→e.on≠i:=λe he hb heq=>by
   have h1:=hall e he hb;have h0:=(mem_ready.1 hr).1;rw [heq,getD_both h0] at h1
   cases h1
  have hjt:j<t:=by
   have h2:=Cu.1 hwait j (Fe.2 (Ar.1 hoj).1);simp only [Dw,decide_eq_true_eq] at h2
   rcases h2 with h2|h2
   ·exact h2
   obtain ⟨o',ho',e,he,hb,hon⟩:=Region.waitsFor_spec h2;rw [hoj] at ho'
   injection ho' with ho'
   subst ho';exact absurd hon (hnot e he hb)
  have h2:=wpOp_putIf hoj (hfree j oj hoj hji hjun hnot) (λcs b=>hsel i oi cs b hi) (λcs b=>hsel j oj cs b hoj) hQ hy h1
  have hfree':∀k ok,ops[k]?=G ok→k≠i→(listed.setIfInBounds j zz).getD k zz=zy →
   (∀e∈ok.after,Region.binds .any e=zz→e.on≠i)→oi.apart ops ok=zz:=λk ok hk hki hun hno=>by
   refine hfree k ok hk hki ?_ hno
   by_cases hjk:j=k
   ·subst hjk;exact hjun
   rw [getD_set_ne zz hjk] at hun;exact hun
  refine wpOp_mono (λa' w' h3=>⟨h3.2.1,ih (listed.setIfInBounds j zz) a' w' hfree' (ready_mono hr (Es hji)) h3.1 (h3.2.1 hjt) ?_⟩) h2;rw [Ja _ _ hji];exact h3.2.2
variable {n f:Nat} {listed:Array Bool} {e:Env} {w:Kw}
theorem IX {o:Oper} {d:Nat} {v:Kv} (i:Nat) (hs:Region.noSelect ops=zz) (hQ:∀c (a:Act) t v w,Q (.panic c) (a.put t v) w→Q (.panic c) a w) (hwait:lD ops i t=zz)
 (hf:Region.free .any ops listed i=zz) (hr:(Region.ready .any ops listed).contains i=zz) (ho:ops[i]?=G o) (hw:Wn ops e o) (hd:o.dst=G d) (hn:Nat.blt d n=zz) (hS:S w) (hy:∀w',S w'→Y P e o w' v)
 (k:SxO P ops Q t S n f (listed.setIfInBounds i zz) ((d,v)::e) w):SxO P ops Q t S n (f+1) listed e w:=⟨λa ha=>
 YK ho (Region.noSelect_spec hs) (λc a w=>hQ c a _ _ w) hwait f listed a w (Region.free_spec ho hf) (by simpa using hr) (.inl ⟨hw n a ha,λw' hw'=>hy w' hw' _ ha.eval⟩) hS (by
  rw [hd];exact k.run _ (ha.put (D6 hn) v))⟩
end
end
section
theorem NC (k:Kz) (u v:Kv):∀L,DG (DG L k u) k v=DG L k v
 | []=>by simp [DG]
 | (k1,v1)::r=>by
  rw [DG,DG]
  by_cases h:k=k1
  ·rw [Ac h,Ac h,DG,Ac rfl]
  rw [Ae h,Ae h,DG,Ae h,NC k u v r]
theorem ZO {k:Kz} {v:Kv}:∀{L:List (Kz × Kv)},CG L k=G v→DG L k v=L
 | [],h=>by cases h
 | (k1,v1)::r,h=>by
  rw [CG] at h
  rw [DG]
  by_cases hk:k=k1
  ·rw [Ac hk] at h ⊢;injection h with h;rw [hk,h]
  rw [Ae hk] at h ⊢;rw [ZO h]
def dA (es:List MapEntry) (cl:Nat):Prop:=(∀en∈es,en.born<cl)∧∀(i j:Nat) (a b:MapEntry),es[i]?=G a→es[j]?=G b→a.born=b.born→i=j
def MpB (w:Kw) (g:Nat) (L:List (Kz × Kv)):Prop:=∃(es:Array MapEntry) (clock:Nat),w.heap[g]?=G (.map es clock)∧es.toList.map (λe=>(e.key,e.val))=L.map (λp=>(str p.1,p.2))∧dA es.toList clock
theorem MpB.mp {w:Kw} {g:Nat} {L:List (Kz × Kv)} (h:MpB w g L):Mp w g L:=by
 obtain ⟨es,cl,h1,h2,_⟩:=h;exact ⟨es,cl,h1,h2⟩
theorem MpB.keep {w w':Kw} {g:Nat} {L:List (Kz × Kv)} (hk:g<w.heap.size→w'.heap[g]?=w.heap[g]?) (h:MpB w g L):MpB w' g L:=by
 obtain ⟨es,cl,h1,h2⟩:=h;exact ⟨es,cl,(hk (Ar.1 h1).1).trans h1,h2⟩
def EntAt (w:Kw) (g:Nat) (L:List (Kz × Kv)) (k:Kz) (b:Nat):Prop:=∃(es:Array MapEntry) (clock i:Nat) (en:MapEntry),w.heap[g]?=G (.map es clock)∧es.toList.map (λe=>(e.key,e.val))=L.map (λp=>(str p.1,p.2))∧dA es.toList clock ∧
 es.toList[i]?=G en∧en.born=b∧∀v,DG L k v=L.set i (k,v)
theorem EntAt.keep {w w':Kw} {g b:Nat} {L:List (Kz × Kv)} {k:Kz} (hk:g<w.heap.size→w'.heap[g]?=w.heap[g]?) (h:EntAt w g L k b):EntAt w' g L k b:=by
 obtain ⟨es,cl,i,en,h1,h2⟩:=h;exact ⟨es,cl,i,en,(hk (Ar.1 h1).1).trans h1,h2⟩
section
variable {P:Lw} {w:Kw} {o:Oper}
theorem N0 {ρ:Lz→Kv} {t kt el:Ly} {mp x:Lz} {g:Nat} {k:Kz} {L:List (Kz × Kv)} {z:Kv} (ho:o.op=.mapEntry t mp x) (hm:ρ mp=.map (G g)) (hi:ρ x=str k) (hu:P.underlying t=G (.map kt el)) (hd:P.underlying kt=G .string) (hz:(P.info? el).map (·.zero)=G (G z))
 (hM:MpB w g L):K7 P ρ o w λu w'=>∃b:Nat,u=.tuple #[(CG L k).getD z,AA (b:Int)]∧Fr (λb=>b=g) w w'∧EntAt w' g (DG L k ((CG L k).getD z)) k b:=by
 obtain ⟨es,clock,hb,hes,hB1,hB2⟩:=hM;obtain ⟨inf,hinf,hinz⟩:=Dp.1 hz;have hlt:g<w.heap.size:=(Ar.1 hb).1;have hlen:es.toList.length=L.length:=by have:=Bf List.length hes;simpa using this
 have hbits:Instr.sameBits 10000 (str k) (str k)=zz:=by
  unfold str
  simp [Instr.sameBits,bA]
 have fin:∀(es':Array MapEntry) (clock' i:Nat) (en:MapEntry) (u:Kv) (L':List (Kz × Kv)),(Instr.mapEntry t (.map (G g)) (str k)).run P w=.ok (.tuple #[u,AA (en.born:Int)]) { w with heap:=w.heap.setIfInBounds g (.map es' clock') }→u=(CG L k).getD z→L'=DG L k ((CG L k).getD z) →
  es'.toList.map (λe=>(e.key,e.val))=L'.map (λp=>(str p.1,p.2))→dA es'.toList clock'→es'.toList[i]?=G en→(∀v,DG L' k v=L'.set i (k,v)) →
  K7 P ρ o w λu w'=>∃b:Nat,u=.tuple #[(CG L k).getD z,AA (b:Int)]∧Fr (λb=>b=g) w w'∧EntAt w' g (DG L k ((CG L k).getD z)) k b:=λes' clock' i en u L' hrun hu' hL' hes' hB hen hput=>by
  subst hu';subst hL';refine ⟨_,{ w with heap:=w.heap.setIfInBounds g (.map es' clock') },.inl ?_,en.born,X,⟨X,X,X,by simp,λr _ hn=>by simp [Array.getElem?_setIfInBounds_ne (Ne.symm hn)]⟩,es',clock',i,en,by simp [hlt],hes',hB,hen,rfl,hput⟩;unfold execOp;simp only [ho,hm,hi,Sem.run_bind,hrun,Result.andThen_ok]
  rfl
 rcases SH k L es.toList 0 hes with ⟨a1,a2,a3⟩|⟨j,v0,a1,a2,a3,a4,a5⟩
 ·refine fin (es.push { key:=str k,val:=z,born:=clock }) (clock+1) L.length { key:=str k,val:=z,born:=clock } z (L++[(k,z)]) ?_ (by rw [a1];rfl) (by rw [a1,a3];rfl) (by simp [hes]) ⟨?_,?_⟩ (by rw [Ig,←hlen,Ck (Af _)];simp) ?_
  ·unfold Instr.mapEntry;simp only [Sem.run_bind,run_underlying hu,Result.andThen_ok,L9 hb,JN hd,J4 hd a2];have hzv:(zeroValue el).run P w=.ok z w:=by simp [zeroValue,typeInfo,hinf,hinz]
   simp only [hzv,Result.andThen_ok];unfold setObj goInt;simp only [Sem.run,hb]
   rfl
  ·intro en hen;rw [Ig,Bp] at hen
   rcases hen with hen|hen
   ·have:=hB1 en hen;omega
   obtain rfl:=Au.1 hen;exact Nat.lt_succ_self _
  ·intro i j a b ha hb' hab;rw [Ig] at ha hb'
   have cs:∀(i:Nat) (a:MapEntry),(es.toList++[{ key:=str k,val:=z,born:=clock }])[i]?=G a→es.toList[i]?=G a∨(i=es.toList.length∧a.born=clock):=λi a h=>by
    rcases Gj i es.toList.length with hi'|hi'
    ·rw [Cv hi'] at h;exact .inl h
    rw [Ck hi'] at h
    have h0:i-es.toList.length=0:=by
     rcases Ex (i-es.toList.length) with h0|h0
     ·exact h0
     rw [Fx (by simp only [Al,Ay];omega)] at h;cases h
    rw [h0] at h
    simp only [Ak,Ai] at h
    exact .inr ⟨A0,by rw [←h]⟩
   rcases cs i a ha with h1|⟨h1,h2⟩<;>rcases cs j b hb' with h3|⟨h3,h4⟩
   ·exact hB2 i j a b h1 h3 hab
   ·have:=hB1 a (Ah h1);omega
   ·have:=hB1 b (Ah h3);omega
   omega
  intro v;have h1:L++[(k,z)]=DG L k z:=by rw [a3]
  rw [h1,NC,a3]
  simp
 rw [Cr] at a2
 obtain ⟨en,hen⟩:∃en,es[j]?=G en:=⟨_,Fk (by simp at hlen;omega)⟩
 have hen':es.toList[j]?=G en:=by simpa using hen
 have hkey:en.key=str k:=by
  have h1:=Bf (·[j]?) hes;simp only [Cb] at h1
  rw [hen'] at h1
  cases hL:L[j]? with
  | none=>rw [hL] at h1;cases h1
  | some p=>
   rw [hL] at h1 a4
   simp only [Dn,Ai,Az] at h1 a4
   rw [h1.1,a4]
 have hmod:(es.modify j λe=>{ e with key:=str k }).toList=es.toList:=by
  apply Eh
  intro i;rw [Ho,Hi]
  by_cases hij:j=i
  ·subst hij;rw [hen'];simp only [if_true,Option.map_eq_map,Dn,Ai];rw [←hkey]
  cases es.toList[i]?<;>simp [hij]
 refine fin (es.modify j λe=>{ e with key:=str k }) clock j en v0 L ?_ (by rw [a1];rfl) (by rw [a1];exact (ZO a1).symm) (by rw [hmod];exact hes) (by rw [hmod];exact ⟨hB1,hB2⟩) (by rw [hmod];exact hen') (λv=>by rw [a5]);have hold:((es[j]?).map (·.key)).getD (str k)=str k:=by rw [hen];exact hkey
 have hbn:((es[j]?).map (λx=>(x.born:Int))).getD 0=(en.born:Int):=by rw [hen];rfl
 unfold Instr.mapEntry;simp only [Sem.run_bind,run_underlying hu,Result.andThen_ok,L9 hb,JN hd,J4 hd a2,hold,hbn,Instr.keyThatStays,hbits,if_true,Sem.run_pure];unfold setObj goInt;simp only [Sem.run,hb]
 rfl
theorem cH {es:List MapEntry} {cl i:Nat} {en:MapEntry} (hB:dA es cl) (hen:es[i]?=G en):es.findIdx? (λe=>(e.born:Int)==(en.born:Int))=G i:=by
 have hi:i<es.length:=(An.1 hen).1;rw [List.findIdx?_eq_some_iff_getElem];refine ⟨hi,?_,?_⟩
 ·have:es[i]=en:=(An.1 hen).2
  simp [this]
 intro j hj;have hj':j<es.length:=A0
 have:¬(es[j].born:Int)=(en.born:Int):=λe=>by
  have:=hB.2 j i es[j] en (Av hj') hen A0
  omega
 simp [this]
theorem KX {ρ:Lz→Kv} {t:Ly} {mp s x:Lz} {g b:Nat} {k:Kz} {v:Kv} {L:List (Kz × Kv)} (ho:o.op=.entryStore t mp s x) (hm:ρ mp=.map (G g)) (hs:ρ s=AA (b:Int)) (hx:ρ x=v)
 (hE:EntAt w g L k b):K7 P ρ o w λu w'=>u=undef∧Fr (λb=>b=g) w w'∧MpB w' g (DG L k v):=by
 obtain ⟨es,clock,i,en,hb,hes,hB,hen,rfl,hput⟩:=hE;have hlt:g<w.heap.size:=(Ar.1 hb).1;have hlen:es.toList.length=L.length:=by have:=Bf List.length hes;simpa using this
 have hfi:es.findIdx? (λe=>(e.born:Int)==(en.born:Int))=G i:=by
  obtain ⟨l⟩:=es
  simpa using cH hB hen
 have hrun:(Instr.entryStore t (.map (G g)) (AA (en.born:Int)) v).run P w=.ok () { w with heap:=w.heap.setIfInBounds g (.map (es.modify i λe=>{ e with val:=v }) clock) }:=by
  unfold Instr.entryStore;simp only [Sem.run_bind,Sem.run_pure,Result.andThen_ok,L9 hb,asInt,asIntOf,hfi];unfold setObj;simp only [Sem.run,hb]
 have hnew:∀q:Nat,(es.modify i λe=>{ e with val:=v }).toList[q]?=(es.toList[q]?).map (λe=>if i=q then { e with val:=v } else e):=λq=>by
  rw [Ho,Hi]
  by_cases hiq:i=q
  ·simp only [hiq,if_true];cases es.toList[q]?<;>rfl
  simp only [Ae hiq];cases es.toList[q]?<;>rfl
 refine ⟨undef,{ w with heap:=w.heap.setIfInBounds g (.map (es.modify i λe=>{ e with val:=v }) clock) },.inr ⟨?_,X⟩,X,⟨X,X,X,by simp,λr _ hn=>by simp [Array.getElem?_setIfInBounds_ne (Ne.symm hn)]⟩,es.modify i λe=>{ e with val:=v },clock,by simp [hlt],?_,?_,?_⟩
 ·unfold execOp;simp only [ho,hm,hs,hx,Sem.run_bind,hrun,Result.andThen_ok]
  rfl
 ·have hk:en.key=str k:=by
   have h1:=Bf (·[i]?) hes;simp only [Cb,hen] at h1
   have h2:=hput ((L[i]?).map (·.2) |>.getD v);have h3:=hput undef;have hi:i<L.length:=by have:=(An.1 hen).1;omega
   have h4:CG (L.set i (k,undef)) k=G undef:=by rw [←h3,G6,Ac rfl]
   cases hL:L[i]? with
   | none=>rw [Av hi] at hL;cases hL
   | some p=>
    rw [hL] at h1
    simp only [Dn,Ai,Az] at h1
    rw [h1.1]
    have h5:∀(M:List (Kz × Kv)) (q:Nat) (p:Kz × Kv),M[q]?=G p→(∀u,DG M k u=M.set q (k,u))→p.1=k:=by
     intro M
     induction M with
     | nil=>intro q p h;simp at h
     | cons a r ih=>
      intro q p h hu;obtain ⟨a1,a2⟩:=a
      cases q with
      | zero=>
       simp only [Ak,Ai] at h;subst h
       have:=hu a2
       rw [DG] at this
       by_cases hka:k=a1
       ·exact hka.symm
       rw [Ae hka] at this
       simp only [List.set_cons_zero,Cx,Az] at this
       exact this.1.1
      | succ q=>
       have h6:=hu
       have hka:¬k=a1:=λe=>by
        have:=hu undef
        rw [DG,Ac e] at this
        simp only [List.set_cons_succ,Cx,Az] at this
        have h7:=hu (.bool zz);rw [DG,Ac e] at h7
        simp only [List.set_cons_succ,Cx,Az] at h7
        have h8:=this.1.2.trans h7.1.2.symm
        cases h8
       refine ih q p (by simpa using h) (λu=>?_)
       have:=hu u
       rw [DG,Ae hka] at this
       simpa using this
    rw [h5 L i p hL hput]
  rw [hput]
  apply Eh
  intro q;have h1:=Bf (·[q]?) hes;simp only [Cb] at h1
  rw [Cb,hnew,Cb,Ib]
  by_cases hiq:i=q
  ·subst hiq;have hi:i<L.length:=by have:=(An.1 hen).1;omega
   simp [hen,hi,hk]
  simp only [Ae hiq];rw [←h1]
  cases es.toList[q]?<;>rfl
 ·intro a ha;obtain ⟨q,hq⟩:=Cf ha;rw [hnew] at hq
  obtain ⟨a',ha',rfl⟩:=Dp.1 hq
  have:=hB.1 a' (Ah ha')
  split<;>exact this
 intro p q a b' ha hb' hab;rw [hnew] at ha hb'
 obtain ⟨a',ha',rfl⟩:=Dp.1 ha;obtain ⟨b'',hb'',rfl⟩:=Dp.1 hb';refine hB.2 p q a' b'' ha' hb'' ?_;have e1:(if i=p then { a' with val:=v } else a').born=a'.born:=by split<;>rfl
 have e2:(if i=q then { b'' with val:=v } else b'').born=b''.born:=by split<;>rfl
 rw [e1,e2] at hab;exact hab
end
end
section
section
variable {P:Lw} {e:Env} {w:Kw} {o:Oper}
end
end
section
section
variable {P:Lw} {e:Env} {w:Kw} {o:Oper}
end
end
section
section
variable {P:Lw} {e:Env} {w:Kw} {o:Oper}
theorem l8 {s d:Ly} {x:Lz} {v v':Kv} (ho:o.op=.convert s d x) (hx:ev e x=G v) (hc:(convert s d v).run P w=.ok v' w):Y P e o w v':=λρ h=>by
 unfold execOp;simp [ho,h _ _ hx,hc]
theorem mZ {t t' el n:Nat} {a:Addr} {x y:Lz} (ho:o.op=.binOp .neq t x y t') (hx:ev e x=G (.pointer (G a))) (hy:ev e y=G (.pointer (G a))) (hu:PM P t=G el) (hz:∀w,(Go.sizeOf el).run P w=.ok n w):Y P e o w (.bool zy):=λρ h=>by
 have h1:(Op.equal t (.pointer (G a)) (.pointer (G a))).run P w=.ok zz w:=by
  unfold Op.equal Op.maxDepth Op.equalIn
  simp [run_underlying (WY hu),hz,sameAddr]
 unfold execOp;simp [ho,h _ _ hx,h _ _ hy,eqGuard_at_pointer,binOp,h1]
theorem a1k {f:FuncId} {x:Lz} {ts:Array Ly} {v:Kv} (ho:o.op=.call { callee:=.value (.func f),args := #[x],argTypes:=ts }) (hx:ev e x=G v) (hc:∀(u:Kv) (w:Kw),(callFunc f #[u]).run P w=.ok (.value u) w):Y P e o w v:=λρ h=>by
 have h0:ρ (.func f)=.func (.func f) #[] #[]:=h _ _ X;unfold execOp;simp [ho,h _ _ hx,h0,resolve,invoke,Deferred.ofValue,hc]
end
theorem Fr.below1 {w w':Kw} {b B:Nat} (h:Fr (λk=>k=b) w w') (hb:B≤b) (hBw:B≤w.heap.size):Below B w w':=⟨h.os,h.tape,h.output,h.size,λk hk=>h.block k A0 A0⟩
theorem a3h (u:Kv) (w:Kw):(callFunc 241 #[u]).run zv w=.ok (.value u) w:=by
 rw [run_callFunc_extern func241 zr zr zr (e:=Extern.AbiNoEscape.same) zr,Lib.run_noEscape]
 rfl
theorem xG : liesAt zv zv.depth 251 (2 / zv.cellsOf 251) 0 251 1=zz:=zr
theorem xH : (zv.info? 251).map (·.size)=G 2:=zr
theorem tI : (zv.info? 248).map (·.size)=G 1:=zr
theorem sH : (zv.info? 249).map (·.size)=G 1:=zr
theorem xY : (zv.info? 5).map (λi=>(i.zero,i.size,i.bytes))=G (G (.int .u8 0),1,1):=zr
theorem a1v : (zv.info? 5).map (λi=>(i.zero,i.size))=G (G (.int .u8 0),1):=zr
theorem cO (B b:Nat) (bs:Kx) (w:Kw) (h:Lib.IsBuilder 251 5 B b bs w) (hBw:B≤w.heap.size) :
 zt zv 218 #[.pointer (G ⟨b,0,zx⟩)] w λe w'=>e=.returned (.tuple #[])∧Lib.BuilderAt 251 5 B b (.pointer (G ⟨b,0,zx⟩)) bs w'∧Below B w w':=by
 rcases h with h|h
 ·have hsh:=h.shape;obtain ⟨hB,v,hbk,hown,hne⟩:=h;have hb:Blk w b 251 [.pointer zx,v]:=hbk;have c0:Cell w.heap b 0 (.pointer zx):=hb.c 0 X;obtain ⟨j,hj,hjs⟩:=Dp.1 xH;refine sx_enter (vs:=[_]) func218 X ntmps218 X (V ?_);refine yl X X (by assumption) (ya X (N4 X X X (pt X)) (V ?_));refine ya X (l8 X X (Lib.run_to_unsafe _ ⟨b,0,zx⟩ Ip underlying285 hj (by rw [hjs];decide) hsh (by show 0<2;omega))) (ya X (a1k X X a3h) (ya X (l8 X X (Lib.run_from_unsafe _ ⟨b,0,zx⟩ underlying285 Ip hj hsh xG)) (V ?_)));refine sxl_does zx kw X X (λρ hρ=>ED _ _ _ X b 0 _ _ (.pointer (G ⟨b,0,zx⟩)) (hρ _ _ X) (hρ _ _ X) X hb tI (by show 0<2;omega) X) ?_;rintro _ w1 ⟨rfl,hb1,hf1⟩;exact sxl_nil (qx_ret0 (Or.inr X) X ⟨X,⟨hB,v,hb1,jL hown hf1 (λk hk e=>hne (by rw [hk,e])),hne⟩,hf1.below1 hB hBw⟩)
 have h':=h;obtain ⟨hB,v,hbk,hown,hne⟩:=h;have hb:Blk w b 251 [.pointer (G ⟨b,0,zx⟩),v]:=hbk;have c0:Cell w.heap b 0 (.pointer (G ⟨b,0,zx⟩)):=hb.c 0 X;refine sx_enter (vs:=[_]) func218 X ntmps218 X (V ?_);refine yl X X (by assumption) (ya X (N4 X X X (pt X)) (V ?_));refine yl X X (by assumption) (yb X (ya X (mZ X X X (pt X) sizeOf251) (V ?_)));exact qx_ret0 (Or.inr X) X ⟨X,h',Below.refl B w⟩
theorem RF (B b:Nat) (l:Kz) (c:UInt8) (w:Kw) (h:Lib.IsBuilder 251 5 B b (bvs l) w) (hlen:l.length+1≤140737488355328) (hBw:B≤w.heap.size) :
 zt zv 198 #[.pointer (G ⟨b,0,zx⟩),.int .u8 (c.toNat:Int)] w λe w'=>e=.returned .nilIface∧Lib.IsBuilder 251 5 B b (bvs (l++[c])) w'∧Below B w w':=by
 refine sx_enter (vs:=[_,_]) func198 X ntmps198 X (V ?_);refine cl 6 X (AE X X call218) (cO B b _ _ h hBw) ?_;rintro _ w1 ⟨rfl,h1,hb1⟩;refine cq ?_;obtain ⟨hB,v,hbk,hown,hne⟩:=h1;have hb:Blk w1 b 251 [.pointer (G ⟨b,0,zx⟩),v]:=hbk;obtain ⟨A,cap,rfl,_,hcm,hrd,_⟩:=fD hown;have c1:Cell w1.heap b 1 (.slice A (bvs l).length cap):=hb.c 1 X;refine V ?_;refine yl X X (by assumption) (yb X (sxl_does (G 13) kw X X (λρ hρ=>CX [bv c] (.int .u8 0) hρ X X X X Dh a1v AV AV (by intro u hu;simp only [Au] at hu;subst hu;rfl)) ?_));rintro _ w2 ⟨g2,rfl,hg1,hg2,hb2,hf2⟩;have hB1:=hb1.size;refine sxl_does (G 14) kw X X (λρ hρ=>gV _ _ 249 X B 5 _ _ Dh xY X _ _ (bvs l) (hρ _ _ X) (jL hown hf2 (λ_ _ hh=>hh)) _ 1 1 [bv c] (hρ _ _ X) (Rd.ofBlk hb2 X) (by intro u hu;simp only [Au] at hu;subst hu;rfl) (by rw [R6];unfold maxLen;omega) (by rw [R6];omega) (by have:=hf2.size;omega)) ?_;rintro v3 w3 ⟨hown3,hgr,hrow⟩;obtain ⟨A3,cap3,rfl,_,_,_,_⟩:=fD hown3;have hlt:b<w1.heap.size:=hb.lt
 have hb3:Blk w3 b 251 [.pointer (G ⟨b,0,zx⟩),.slice A (bvs l).length cap]:=by
  have h2:Blk w2 b 251 _:=hb.fr0 hf2;exact (hgr.block b h2.lt (λe=>hne e.symm)).trans h2
 have hne3:(Value.slice A3 ((bvs l).length+1) cap3).ownBlock≠G b:=Lib.ownBlock_ne hown3 hb3 AV;refine V ?_;refine sxl_does zx kw X X (λρ hρ=>ED _ _ _ X b 1 _ _ (.slice A3 ((bvs l).length+1) cap3) (hρ _ _ X) (hρ _ _ X) X hb3 sH (by show 1<2;omega) X) ?_;rintro _ w4 ⟨rfl,hb4,hf4⟩;refine V ?_;refine gr1 X ?_;have hl:bvs (l++[c])=bvs l++[bv c]:=by simp [bvs]
 have hf3:Fr (λk=>G k=(Value.slice A (bvs l).length cap).ownBlock) w2 w3:=⟨hgr.os,hgr.tape,hgr.output,hgr.size,λk hk hn=>hgr.block k hk hn⟩;refine ⟨X,.inr ⟨hB,_,hb4,?_,?_⟩,?_⟩
 ·rw [hl]
  have:=jL hown3 hf4 (λk hk e=>hne3 (by rw [hk,e]))
  simpa using this
 ·simpa using hne3
 have hw2:=hf2.size;refine hb1.trans ⟨hf4.os.trans (hf3.os.trans hf2.os),hf4.tape.trans (hf3.tape.trans hf2.tape),hf4.output.trans (hf3.output.trans hf2.output),Bh hf2.size (Bh hf3.size hf4.size),λk hk=>?_⟩;rw [hf4.block k (by have:=hf3.size;omega) A0,hf3.block k A0 (λe=>?_),hf2.block k A0 (λhh=>hh)]
 have:=(hown.lt k e.symm).1
 omega
end
theorem qI {P:Lw} {e:Env} {w:Kw} {o:Oper} {t t':Nat} {a b:Kz} {x y:Lz} (ho:o.op=.binOp .add t x y t') (hx:ev e x=G (str a)) (hy:ev e y=G (str b)) (hl:a.length+b.length≤9223372036854775807):Y P e o w (str (a++b)):=λρ h=>by
 have h1:ρ x=.string ⟨a.toArray⟩:=h _ _ hx;have h2:ρ y=.string ⟨b.toArray⟩:=h _ _ hy;unfold execOp;have hs:((⟨a.toArray⟩:ByteArray).size:Nat)=a.length:=by show a.toArray.size=_;simp
 have hs2:((⟨b.toArray⟩:ByteArray).size:Nat)=b.length:=by show b.toArray.size=_;simp
 have hap:(⟨a.toArray⟩:ByteArray)++(⟨b.toArray⟩:ByteArray)=⟨(a++b).toArray⟩:=by
  apply ByteArray.ext
  rw [ByteArray.data_append]
  simp
 simp [ho,h1,h2,binOp,Op.stringOp,eqGuard_at_string,hs,hs2,hap,str,show ¬((9223372036854775807:Int)<(a.length:Int)+(b.length:Int)) by omega]
end Go.Proofs.YtppmdnmjepkfaaaGreatDoor
namespace Go.Proofs.YtppmdnmjepkfaaaGreatDoor
open Go.RowKit
open Decidable renaming decide→O
open Option renaming some→G,none→zx
open Bool renaming true→zz,false→zy
open Go.Proofs.Tryz renaming prog→zv
open Go renaming Calls→zt
section
def GH (L:List (Kz × Kv)) (k:Kz):Kv:=(CG L k).getD (.slice zx 0 0)
theorem LX (L:List (Kz × Kv)) (k k':Kz) (v:Kv):GH (DG L k v) k'=if k'=k then v else GH L k':=by
 unfold GH;rw [G6]
 split<;>rfl
theorem fC {w w':Kw} {base size n:Nat} {e:Ly} {v:Kv} {xs:Kx} (h:w.ownsRow base e size v n xs) (hk:∀b,v.ownBlock=G b→b<w.heap.size→w'.heap[b]?=w.heap[b]?):w'.ownsRow base e size v n xs:=by
 refine ⟨h.1,?_⟩;rcases h.2 with hh|⟨g,cap,cur,rfl,hb,hg,r⟩
 ·exact .inl hh
 exact .inr ⟨g,cap,cur,X,hb,(hk g X (Ar.1 hg).1).trans hg,r⟩
structure Fam {α:Type} (w:Kw) (base:Nat) (e:Ly) (size:Nat) (cells:α→Kx) (g:Nat) (L:List (Kz × Kv)) (rows:Kz→List α) (bad:Kz→Prop) (F:List Nat):Prop where
 map:Mp w g L
 gF:¬g∈F
 row:∀k,¬bad k→w.ownsRow base e size (GH L k) (rows k).length (AF cells (rows k))∧∀b,(GH L k).ownBlock=G b→b∈F
 apart:∀k k' b,¬bad k→¬bad k'→(GH L k).ownBlock=G b→(GH L k').ownBlock=G b→k=k'
section
variable {α:Type} {w w' w0:Kw} {base size g:Nat} {e:Ly} {cells:α→Kx} {L:List (Kz × Kv)} {rows:Kz→List α} {bad:Kz→Prop} {F:List Nat} {S:Nat→Prop} {Ls:List As}
theorem Fam.keep (hk:∀b∈g::F,b<w.heap.size→w'.heap[b]?=w.heap[b]?) (h:Fam w base e size cells g L rows bad F):Fam w' base e size cells g L rows bad F:=by
 obtain ⟨⟨es,cl,h1,h2⟩,hg,hr,ha⟩:=h;exact ⟨⟨es,cl,(hk g (by simp) (Ar.1 h1).1).trans h1,h2⟩,hg,λk hb=>⟨fC (hr k hb).1 (λb hb' hl=>hk b (Ax _ ((hr k hb).2 b hb')) hl),(hr k hb).2⟩,ha⟩
def As.fam {α:Type} (base:Nat) (e:Ly) (size:Nat) (cells:α→Kx) (g:Nat) (L:List (Kz × Kv)) (rows:Kz→List α) (bad:Kz→Prop) (F:List Nat):As:=
 ⟨g::F,λw=>Fam w base e size cells g L rows bad F,λh hb=>hb.keep h⟩
theorem Fam.new (hm:Mp w g []) (base:Nat) (e:Ly) (size:Nat) (cells:α→Kx):Fam w base e size cells g [] (λ_=>[]) (λ_=>False) []:=
 ⟨hm,by simp,λk _=>⟨⟨by simp [AF],.inl ⟨by simp [GH,CG],rfl⟩⟩,λb hb=>by simp [GH,CG,Value.ownBlock] at hb⟩,λk k' b _ _ hb=>by simp [GH,CG,Value.ownBlock] at hb⟩
theorem Mem.split2 {a b c:As} (M:Mem w0 S (c::Ls) w) (ha:a.ok w) (hb:b.ok w) (hfa:∀x∈a.fp,x∈c.fp) (hfb:∀x∈b.fp,x∈c.fp) (hab:∀x∈a.fp,x∉b.fp):Mem w0 S (a::b::Ls) w:=by
 have rest:∀(i:Nat) (d:As),(a::b::Ls)[i+2]?=G d→(c::Ls)[i+1]?=G d:=λi d h=>h
 refine ⟨M.fr,?_,?_,?_⟩
 ·intro i d hi
  match i with
  | 0=>simp only [Ak,Ai] at hi;subst hi;exact ha
  | 1=>simp only [Bq,Ak,Ai] at hi;subst hi;exact hb
  | i+2=>exact M.ok (i+1) d (rest i d hi)
 ·intro i d hi x hx
  match i with
  | 0=>simp only [Ak,Ai] at hi;subst hi;exact M.lt 0 c rfl x (hfa x hx)
  | 1=>simp only [Bq,Ak,Ai] at hi;subst hi;exact M.lt 0 c rfl x (hfb x hx)
  | i+2=>exact M.lt (i+1) d (rest i d hi) x hx
 intro i j d d' hi hj hne x hx hx'
 match i,j with
 | 0,0=>exact hne rfl
 | 1,1=>exact hne rfl
 | 0,1=>
  simp only [Bq,Ak,Ai] at hi hj;subst hi;subst hj
  exact hab x hx hx'
 | 1,0=>
  simp only [Bq,Ak,Ai] at hi hj;subst hi;subst hj
  exact hab x hx' hx
 | 0,j+2=>
  simp only [Ak,Ai] at hi;subst hi
  exact M.apart 0 (j+1) c d' X (rest j d' hj) A0 x (hfa x hx) hx'
 | 1,j+2=>
  simp only [Bq,Ak,Ai] at hi;subst hi
  exact M.apart 0 (j+1) c d' X (rest j d' hj) A0 x (hfb x hx) hx'
 | i+2,0=>
  simp only [Ak,Ai] at hj;subst hj
  exact M.apart (i+1) 0 d c (rest i d hi) X A0 x hx (hfa x hx')
 | i+2,1=>
  simp only [Bq,Ak,Ai] at hj;subst hj
  exact M.apart (i+1) 0 d c (rest i d hi) X A0 x hx (hfb x hx')
 | i+2,j+2=>exact M.apart (i+1) (j+1) d d' (rest i d hi) (rest j d' hj) A0 x hx hx'
theorem Mem.joinFam {a b:As} (M:Mem w0 S (a::b::Ls) w) (c:As) (hok:c.ok w) (hfp:∀x∈c.fp,x∈a.fp∨x∈b.fp):Mem w0 S (c::Ls) w:=by
 have rest:∀(i:Nat) (d:As),(c::Ls)[i+1]?=G d→(a::b::Ls)[i+2]?=G d:=λi d h=>h
 have fp:∀k,k∈c.fp→∃(i:Nat) (d:As),i<2∧(a::b::Ls)[i]?=G d∧k∈d.fp:=λk hk=>by
  rcases hfp k hk with h|h
  ·exact ⟨0,_,by decide,rfl,h⟩
  exact ⟨1,_,by decide,rfl,h⟩
 refine ⟨M.fr,?_,?_,?_⟩
 ·intro i d hi
  cases i with
  | zero=>simp only [Ak,Ai] at hi;subst hi;exact hok
  | succ i=>exact M.ok (i+2) d (rest i d hi)
 ·intro i d hi k hk
  cases i with
  | zero=>
   simp only [Ak,Ai] at hi;subst hi
   obtain ⟨j,f,_,h1,h2⟩:=fp k hk;exact M.lt j f h1 k h2
  | succ i=>exact M.lt (i+2) d (rest i d hi) k hk
 intro i j d f hi hj hne k hk hk'
 cases i with
 | zero=>
  cases j with
  | zero=>exact hne rfl
  | succ j=>
   simp only [Ak,Ai] at hi;subst hi
   obtain ⟨q,d',hq,h1,h2⟩:=fp k hk;exact M.apart q (j+2) d' f h1 (rest j f hj) A0 k h2 hk'
 | succ i=>
  cases j with
  | zero=>
   simp only [Ak,Ai] at hj;subst hj
   obtain ⟨q,d',hq,h1,h2⟩:=fp k hk';exact M.apart (i+2) q d d' (rest i d hi) h1 A0 k hk h2
  | succ j=>exact M.apart (i+2) (j+2) d f (rest i d hi) (rest j f hj) A0 k hk hk'
theorem Mem.famTake (M:Mem w0 S (As.fam base e size cells g L rows (λ_=>False) F::Ls) w) (k0:Kz):∃A C F',GH L k0=.slice A (rows k0).length C∧Mem w0 S (As.own base e size (.slice A (rows k0).length C) (rows k0).length (AF cells (rows k0))::As.fam base e size cells g L rows (λk=>k=k0) F'::Ls) w:=by
 have h:Fam w base e size cells g L rows (λ_=>False) F:=M.ok 0 _ X;obtain ⟨ho,hF⟩:=h.row k0 (λhh=>hh);obtain ⟨A,C,hv,_⟩:=DH ho;refine ⟨A,C,F.filter (λb => !(O ((GH L k0).ownBlock=G b))),hv,?_⟩;rw [hv] at ho
 refine M.split2 ho (show Fam w base e size cells g L rows (λk=>k=k0) _ from ⟨h.map,λhh=>h.gF (De.1 hh).1,λk hk=>⟨(h.row k (λhh=>hh)).1,λb hb=>De.2 ⟨(h.row k (λhh=>hh)).2 b hb,?_⟩⟩,λk k' b _ _ hb hb'=>h.apart k k' b (λhh=>hh) (λhh=>hh) hb hb'⟩) ?_ ?_ ?_
 ·simp only [Et,decide_eq_false_iff_not];exact λhb'=>hk (h.apart k k0 b (λhh=>hh) (λhh=>hh) hb hb')
 ·intro x hx;have hx':(GH L k0).ownBlock=G x:=by rw [hv];simpa [As.own] using hx
  exact Ax _ (hF x hx')
 ·intro x hx;rcases Ao.1 hx with rfl|hx
  ·exact Bi
  exact Ax _ (De.1 hx).1
 intro x hx hx';have h1:(GH L k0).ownBlock=G x:=by rw [hv];simpa [As.own] using hx
 rcases Ao.1 hx' with rfl|hx'
 ·exact h.gF (hF x h1)
 have:=(De.1 hx').2
 simp [h1] at this
theorem Mem.famPut {k0:Kz} {A:Ky} {n C:Nat} {row':List α} (M:Mem w0 S (As.own base e size (.slice A n C) n (AF cells row')::As.fam base e size cells g L rows (λk=>k=k0) F::Ls) w) (hv:GH L k0=.slice A n C) (hn:n=row'.length) (rows':Kz→List α) (h0:rows' k0=row') (h1:∀k,k≠k0→rows' k=rows k) :
 ∃F',Mem w0 S (As.fam base e size cells g L rows' (λ_=>False) F'::Ls) w:=by
 have h:Fam w base e size cells g L rows (λk=>k=k0) F:=M.ok 1 _ X;have ho:=M.own 0 X
 have hap:∀b,(GH L k0).ownBlock=G b→¬b∈g::F:=λb hb=>by
  rw [hv] at hb
  exact M.apart 0 1 _ _ X X AV b (by simp [As.own,hb])
 refine ⟨(GH L k0).ownBlock.toList++F,M.joinFam _ (show Fam w base e size cells g L rows' (λ_=>False) _ from ⟨h.map,?_,?_,?_⟩) ?_⟩
 ·intro hh;rcases Bp.1 hh with hh|hh
  ·exact hap g (by simpa using hh) Bi
  exact h.gF hh
 ·intro k _
  by_cases hk:k=k0
  ·subst hk;rw [h0,hv,←hn];exact ⟨ho,λb hb=>Ds _ (by simpa using hb)⟩
  rw [h1 k hk];exact ⟨(h.row k hk).1,λb hb=>Cy _ ((h.row k hk).2 b hb)⟩
 ·intro k k' b _ _ hb hb'
  by_cases hk:k=k0
  ·by_cases hk':k'=k0
   ·rw [hk,hk']
   subst hk;exact absurd (Ax _ ((h.row k' hk').2 b hb')) (hap b hb)
  by_cases hk':k'=k0
  ·subst hk';exact absurd (Ax _ ((h.row k hk).2 b hb)) (hap b hb')
  exact h.apart k k' b hk hk' hb hb'
 intro x hx;rcases Ao.1 (show x∈g::((GH L k0).ownBlock.toList++F) from hx) with rfl|hx
 ·exact .inr Bi
 rcases Bp.1 hx with hx|hx
 ·left;rw [hv] at hx;simpa [As.own] using hx
 exact .inr (Ax _ hx)
theorem Mem.putFam {k0:Kz} {v:Kv} (M:Mem w0 S Ls w) (i:Nat) (hi:Ls[i]?=G (As.fam base e size cells g L rows (λk=>k=k0) F)) (hf:Fr (λb=>b=g) w w') (hb:Mp w' g (DG L k0 v)):Mem w0 S (Ls.set i (As.fam base e size cells g (DG L k0 v) rows (λk=>k=k0) F)) w':=by
 have h:Fam w base e size cells g L rows (λk=>k=k0) F:=M.ok i _ hi;refine M.upd i hi (hf.mono λk _ e=>by rw [e];exact Bi) _ (show Fam w' base e size cells g (DG L k0 v) rows (λk=>k=k0) F from ⟨hb,h.gF,λk hk=>?_,λk k' b hk hk' h1 h2=>?_⟩) (λg' hg'=>.inl hg')
 ·rw [LX,Ae hk];exact ⟨fC (h.row k hk).1 (λb hb' hl=>hf.block b hl (λhh=>h.gF (hh▸(h.row k hk).2 b hb'))),(h.row k hk).2⟩
 rw [LX,Ae hk] at h1
 rw [LX,Ae hk'] at h2
 exact h.apart k k' b hk hk' h1 h2
theorem Mem.famMp (M:Mem w0 S Ls w) (i:Nat) (hi:Ls[i]?=G (As.fam base e size cells g L rows bad F)):Mp w g L:=Fam.map (M.ok i _ hi)
end
end
open Go.ChangeShapes Go.WideShapes Go.ChangeAt Go.RowKit Go.Deep
section
section
variable {H:Type} {enc:Ly × Kv→H} {P:Lw} {w:Kw}
def YH (enc:Ly × Kv→H) (P:Lw) (w:Kw) (t:Ly) (r:Kx) (d:DataW H):Prop:=∃n p,DataW.trod enc P w 0 (λ_=>zz) zz n t r=G (d,p)
theorem LS {t e sz len cap fuel:Nat} {A:Ky} {x:DataW H × List MemPlace} (ht:P.underlying t=G (.slice e)) (hc:P.cellsOf e=sz) (hpos:0<sz)
 (h:DataW.trod enc P w 0 (λ_=>zz) zz fuel t [.slice A len cap]=G x) :
 ∃(rows:List Kx) (D:List (DataW H)),rows.length=len∧D.length=len∧All sz rows∧Rd w A (len*sz) rows.flatten∧len≤cap∧cap≤maxLen∧(A=zx→cap=0) ∧
  (∀(i:Nat) (r:Kx),rows[i]?=G r→∃d,D[i]?=G d∧YH enc P w e r d)∧((x.1=.nil∧len=0∧cap=0)∨∃sp,x.1=.slice D sp∧sp.length=cap-len):=by
 rcases open_slice ht h with ⟨hcs,rfl⟩|⟨a,len',cap',m,n,D,Pl,hcs,_,hl,hm,hmm,rfl,hx⟩
 ·simp only [Cx,Value.slice.injEq,and_true] at hcs
  obtain ⟨rfl,rfl,rfl⟩:=hcs;exact ⟨[],[],X,X,All.nil,by rw [Ft];exact Rd.nil,Af _,Aj _,λ_=>rfl,λi r hr=>by simp at hr,.inl ⟨rfl,rfl,rfl⟩⟩
 simp only [Cx,Value.slice.injEq,and_true] at hcs
 obtain ⟨rfl,rfl,rfl⟩:=hcs;simp only [if_true] at hmm
 subst hmm;obtain ⟨C,hC⟩:=choose_lt (α:=Kx) (p:=λi cs=>w.cells? 0 (a.add (i*P.cellsOf e)) (P.cellsOf e)=G cs∧DataW.trod enc P w 0 (λ_=>zz) zz n e cs=G (D i,Pl i)) (λi hi=>hx i hi);rw [hc] at hC
 have hrow:∀i,i<len→(C i).length=sz:=λi hi=>(World.cells?_some (hC i A0).1).2.1
 have hall:All sz ((List.range len).map C):=by
  intro r hr;obtain ⟨i,hi,rfl⟩:=Cq.1 hr;exact hrow i (Fe.1 hi)
 refine ⟨(List.range len).map C,(List.range len).map D,by simp,by simp,hall,⟨by rw [P4 hall];simp,λh0=>?_⟩,hl,hm,by simp,?_,.inr ⟨_,rfl,by simp⟩⟩
 ·have hlen:0<len:=Nat.pos_of_mul_pos_right h0;obtain ⟨b,off,sp⟩:=a
  have hsp:sp=zx:=by
   have h1:=(World.cells?_some (hC 0 A0).1).2.2 0 hpos;have h2:=(World.cells?_some (hC 0 A0).1).2.1;rw [Av A0] at h1
   cases sp with
   | none=>rfl
   | some s=>
    exfalso
    simp only [Ft,Addr.add,if_true,World.cell?] at h1
    split at h1<;>simp at h1
  subst hsp;refine ⟨b,off,X,λj u hu=>?_⟩;have hj:j<len*sz:=by have:=(An.1 hu).1;rw [P4 hall] at this;simpa using this
  have hi:j / sz<len:=Nat.div_lt_of_lt_mul (by rw [Gv];exact hj);have hjm:j%sz<sz:=Nat.mod_lt _ hpos;have hat:=cF hall (i:=j / sz) (x:=C (j / sz)) (by rw [Cb,Hl hi];rfl);have hcell:=(World.cells?_some (hC (j / sz) A0).1).2.2 (j%sz) hjm;rw [←hat,Cj hjm,Ca] at hcell
  have e1:j / sz*sz+j%sz=j:=by rw [Gv];exact Nat.div_add_mod j sz
  rw [e1,hu,Addr.add_mid,Addr.add_mid,Fp,e1] at hcell
  exact hcell
 intro i r hr;have hi:i<len:=by have:=(An.1 hr).1;simpa using this
 rw [Cb,Hl hi] at hr
 simp only [Dn,Ai] at hr
 subst hr;exact ⟨D i,by rw [Cb,Hl hi];rfl,n,_,(hC i A0).2⟩
theorem dL {n:Int} (h:(Lit.int .u8 n).wf=zz):Value.int .u8 n=bv (UInt8.ofNat n.toNat):=by
 have hb:=bounds_u8 h;unfold bv
 congr 1
 rw [UInt8.toNat_ofNat'];omega
end
end
theorem dH {H:Type} {enc:Ly × Kv→H} {C:Checked} {os:Os} {f:FuncId} {fn:Func} {s:OpenSpec} {conds:List PathCond} {apart:Bool} {laid:List (String × DataW Unit)} (modest:Bool) (w0:Kw) (args:Array Kv) (hos:w0.os=os)
 (hv:(w0.forCall (λ_ _=>0) ⟨#[],args,[]⟩).variablesZipB C.prog=zz)
 (hr:((w0.forCall (λ_ _=>0) ⟨#[],args,[]⟩).heap.toList.drop C.prog.globals.size).take ((begin C.prog (λ_ _=>0) default).world.heap.size-C.prog.globals.size) =
  (begin C.prog (λ_ _=>0) default).world.heap.toList.drop C.prog.globals.size)
 (hok:Input.okWideB C.prog (w0.forCall (λ_ _=>0) ⟨#[],args,[]⟩) f ⟨#[],args,[]⟩=zz)
 (hrow:s.preRow enc C.prog fn conds apart laid (w0.forCall (λ_ _=>0) ⟨#[],args,[]⟩).memory args) :
 ∃(w:Kw) (tape:Tape) (i:Input),w.os=os∧(w.forCall tape i).Shaped C.prog∧i.vars=[]∧Input.okWide C.prog (w.forCall tape i) .any w.heap.size f i ∧
  s.preRow enc C.prog fn conds apart laid (w.forCall tape i).memory i.args∧({ modest:=modest }:Assume).holds C.prog (lone (Frame.enter C.prog f i.args .normal) [] (w.forCall tape i)):=
 ⟨w0,λ_ _=>0,⟨#[],args,[]⟩,hos,World.shaped_of_ZipB hv hr,(Input.okWide_of_okWideB (base:=0) hok).1,(Input.okWide_of_okWideB hok).2,hrow,by
  simp only [Assume.holds];exact ⟨by simp,by simp,λ_=>Modest.zero,by simp,by simp⟩⟩
open Go.RowKit Go.Shelf
open Tryz
def a3z : Ren:=⟨λn=>if n=196 then 115 else 176,
 λn=>if n=0 then 0 else if n=3 then 3 else if n=4 then 4 else if n=5 then 5 else if n=9 then 9 else if n=12 then 12 else if n=46 then 228 else if n=53 then 265 else if n=119 then 139 else if n=138 then 226 else 227,
 λn=>if n=3 then 0 else 1⟩
theorem a2X : Lays.n196 zv a3z where
 mixed:=CA
 f196:=zr
 f259:=zr
 t0:=Hh
 a0:=isAgg0
 z0:=sizeOf0
 v0:=zeroValue0
 t3:=Bm
 a3:=isAgg3
 z3:=sizeOf3
 v3:=zeroValue3
 t4:=Eq
 a4:=isAgg4
 z4:=sizeOf4
 v4:=zeroValue4
 t5:=Bo
 a5:=isAgg5
 z5:=sizeOf5
 v5:=zeroValue5
 t9:=Ad
 a9:=isAgg9
 z9:=sizeOf9
 v9:=zeroValue9
 t12:=underlying12
 a12:=isAgg12
 z12:=sizeOf12
 v12:=zeroValue12
 t46:=Ea
 a46:=isAgg228
 z46:=sizeOf228
 v46:=zeroValue228
 t53:=Hp
 a53:=isAgg265
 z53:=sizeOf265
 v53:=zeroValue265
 t119:=Gn
 a119:=isAgg139
 z119:=sizeOf139
 t138:=Ir
 a138:=isAgg226
 z138:=sizeOf226
 v138:=zeroValue226
 t139:=Iq
 a139:=isAgg227
 z139:=sizeOf227
 v139:=zeroValue227
 g3:=zr
 g4:=zr
theorem kB : (firstZ.map λz=>Value.int .u8 z)=(List.range 256).map λc=>Value.int .u8 (Go.Lib.firstT c:Int):=zr
theorem eK : (pairsZ.flatMap λz=>[Value.int .u8 z.1,Value.int .u8 z.2])=(List.range 32).map λj=>Value.int .u8 (if j%2=0 then (Go.Lib.accLo (j / 2):Int) else (Go.Lib.accHi (j / 2):Int)):=zr
theorem Laid.tabs {w:Kw} (h:Laid w utfL):Go.Lib.Utf8Tabs 0 1 w:=by
 obtain ⟨el,fz,h1⟩:=h _ (Bi);obtain ⟨el',fz',h2⟩:=h _ (Ax _ Bi)
 simp only at h1 h2
 rw [kB] at h1
 rw [eK] at h2
 refine ⟨λc hc=>?_,λi hi=>⟨?_,?_⟩⟩
 ·simp [World.cell?,h1,hc]
 ·have e1:2*i%2=0:=A0
  have e2:2*i / 2=i:=A0
  have e3:2*i<32:=A0
  simp [World.cell?,h2,e1,e2,e3]
 have e1:(2*i+1)%2=1:=A0
 have e2:(2*i+1) / 2=i:=A0
 have e3:2*i+1<32:=A0
 simp [World.cell?,h2,e1,e2,e3]
theorem Laid.fr {w w':Kw} {L:List (Nat × Kx)} (h:Laid w L) (hf:Fr0 w w'):Laid w' L:=λp hp=>by
 obtain ⟨el,fz,h1⟩:=h p hp;exact ⟨el,fz,(hf.block _ (Ar.1 h1).1 (λhh=>hh)).trans h1⟩
theorem Fr0.of_below {w w':Kw} (h:Below w.heap.size w w'):Fr0 w w':=⟨h.os,h.tape,h.output,h.size,λk hk _=>h.block k hk⟩
theorem qW (l:Kz) (w:Kw) (hm:(l.length:Int)<4611686018427387904) (hT:Laid w utfL):zt zv 115 #[str l] w (BR w (.bool (utf l))):=by
 have hs:(ByteArray.mk l.toArray).size=l.length:=by show l.toArray.size=_;simp
 have h:=Any.utf8_ValidString a2X ⟨l.toArray⟩ w A0 hT.tabs;refine h.mono λe w' ⟨he,hb⟩=>⟨?_,Fr0.of_below hb⟩
 rw [he]
 have:(ByteArray.mk l.toArray).data.toList=l:=X
 rw [this,iM l.length l (Af _)]
theorem NQ (l:Kz) (w:Kw) (hm:(l.length:Int)<4611686018427387904) (hT:Laid w utfL):zt zv 67 #[str l] w (BR w (.bool (utf l))):=by
 refine sx_enter (vs:=[_]) func67 X ntmps67 X (W ?_);refine sxl_call (G 4) (by first|exact wn_none rfl|exact wn_on rfl rfl rfl) X X (AE X X call115) (qW l _ hm hT) ?_;rintro _ w1 ⟨rfl,hf1⟩;refine cq (W ?_);exact gr1 X ⟨X,hf1⟩
end Go.Proofs.YtppmdnmjepkfaaaGreatDoor
