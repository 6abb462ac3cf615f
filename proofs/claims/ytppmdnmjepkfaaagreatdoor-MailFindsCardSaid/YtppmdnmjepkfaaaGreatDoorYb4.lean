/- Lemmas. -/
import Derived.Test.YtppmdnmjepkfaaaGreatDoorYb3
import Derived.Maps.RangeRun
import Derived.Lib.Builder
import Derived.Laws.Externs
import Derived.Shelf.Sort.Plain
import Derived.Shelf.Slices.In.SortNone
import Derived.Shelf.Small.Strs
import Derived.Shelf.Bits.Mul64
import Derived.Shelf.Slices.Reverse
import Derived.Deep.Slices
import Derived.Deep.Strs
import Derived.ProofKit
import Derived.OpenShut
import Derived.Deep.DeepHandedRow
import Derived.Lay
import Derived.Shelf.Unicode.ValidAny
set_option maxHeartbeats 16000000
set_option maxRecDepth 100000
namespace Go.Proofs.YtppmdnmjepkfaaaGreatDoor
open Go.RowKit
open Tryz
theorem AT : (prog.info? 113).map (·.size)=some 7:=by kernel_rfl
theorem bL {α:Type} (cells:α→Kx) (hk:∀x,(cells x).length=11) (A:Ky) (c:Nat) (l:List α) (hl:l.length≤4611686018427387904) (f:FuncId) (cs:Kx) (p:Nat→α→Bool) (S:Nat→Prop) (J:Nat→Kw→Prop) (w:Kw) (hP:PredJ prog f cs (λx=>.agg (cells x).toArray) l p S J w) (hR:∀w1,Fr S w w1→Rd w1 A (l.length*11) (AE cells l)) (hJ:J 0 w) :
 Calls prog 180 #[.slice A l.length c,.func (.func f) #[] cs.toArray] w λe w'=>e=.returned (AA (ixJ p 0 l))∧J (ixN p 0 l) w'∧Fr S w w':=by
 refine sx_enter (vs:=[_,_]) func180 X ntmps180 X ?_;have M:Mem w S [] w:=Mem.nil w;refine W ?_;refine EF M [7,1,0] (λze zF e wr mz=>∃(i:Nat),e=(8,AA (i:Int))::ze∧zF wr∧(i≤l.length)∧(J i wr)∧(ixJ p 0 l=ixJ p i (l.drop i))∧(ixN p 0 l=ixN p i (l.drop i))∧mz=l.length-i) ⟨0,X,M,Ae _,hJ,X,X,X⟩ ?_;rintro _ w1 _ ⟨i,rfl,M,hi,hJ,hr,hn,rfl⟩;refine W ?_;refine AB X (λh9=>?_) (λh9=>?_)
 ·have h9p:=odt h9;refine W ?_;obtain ⟨x,_,_,hx,hA_x⟩:=ex5 (l:=l) (k:=11) (i:=i) (hR _ M.fr);refine ya X (AK i hA_x X X X (sl X) A0) (ya X (AI X X (BM hk (hR _ M.fr) hA_x hx) Bf X AJ) (cl 16 X (C5 X X X hP.fn) (hP.call i x _ hx M.fr hJ) ?_));rintro _ w9 ⟨rfl,hJ,hf9⟩;refine cq ?_;have M:Mem w S [] w9:=Mem.ofFr (M.fr.trans hf9);refine W ?_;refine AB X (λh16=>?_) (λh16=>?_)
  ·refine W ?_;exact gr1 X ⟨by rw [hr,AG hx,ixJ,if_pos h16],by rw [hn,AG hx,ixN,if_pos h16];exact hJ,M.fr⟩
  refine W ?_;refine fag ⟨i+1,X,M,?_,?_,?_,?_,X⟩
  ·omega
  ·exact hJ
  ·rw [hr,AG hx,ixJ,AM h16]
  rw [hn,AG hx,ixN,AM h16]
 have h9p:=odf h9;refine W ?_;refine gr1 X ?_;obtain rfl:i=l.length:=by omega
 exact ⟨by rw [hr,Am];rfl,by rw [hn,Am];exact hJ,M.fr⟩
theorem uV {α:Type} (cells:α→Kx) (hk:∀x,(cells x).length=11) (A:Ky) (c:Nat) (l:List α) (hl:l.length≤4611686018427387904) (f:FuncId) (cs:Kx) (p:Nat→α→Bool) (S:Nat→Prop) (J:Nat→Kw→Prop) (w:Kw) (hP:PredJ prog f cs (λx=>.agg (cells x).toArray) l p S J w) (hR:∀w1,Fr S w w1→Rd w1 A (l.length*11) (AE cells l)) (hJ:J 0 w) :
 Calls prog 141 #[.slice A l.length c,.func (.func f) #[] cs.toArray] w λe w'=>e=.returned (.bool (decide (0≤ixJ p 0 l)))∧J (ixN p 0 l) w'∧Fr S w w':=by
 refine sx_enter (vs:=[_,_]) func141 X ntmps141 X ?_;have M:Mem w S [] w:=Mem.nil w;refine W ?_;refine cl 7 X (AD X X call180) (bL cells hk A c l hl f cs p S J _ hP hR hJ) ?_;rintro _ w9 ⟨rfl,hJ,hf9⟩;refine cq ?_;have M:Mem w S [] w9:=Mem.ofFr hf9;refine W ?_;exact gr1 X ⟨X,hJ,M.fr⟩
theorem lS {α:Type} (cells:α→Kx) (hk:∀x,(cells x).length=4) (A:Ky) (c:Nat) (l:List α) (hl:l.length≤4611686018427387904) (f:FuncId) (cs:Kx) (p:Nat→α→Bool) (S:Nat→Prop) (J:Nat→Kw→Prop) (w:Kw) (hP:PredJ prog f cs (λx=>.agg (cells x).toArray) l p S J w) (hR:∀w1,Fr S w w1→Rd w1 A (l.length*4) (AE cells l)) (hJ:J 0 w) :
 Calls prog 182 #[.slice A l.length c,.func (.func f) #[] cs.toArray] w λe w'=>e=.returned (AA (ixJ p 0 l))∧J (ixN p 0 l) w'∧Fr S w w':=by
 refine sx_enter (vs:=[_,_]) func182 X ntmps182 X ?_;have M:Mem w S [] w:=Mem.nil w;refine W ?_;refine EF M [7,1,0] (λze zF e wr mz=>∃(i:Nat),e=(8,AA (i:Int))::ze∧zF wr∧(i≤l.length)∧(J i wr)∧(ixJ p 0 l=ixJ p i (l.drop i))∧(ixN p 0 l=ixN p i (l.drop i))∧mz=l.length-i) ⟨0,X,M,Ae _,hJ,X,X,X⟩ ?_;rintro _ w1 _ ⟨i,rfl,M,hi,hJ,hr,hn,rfl⟩;refine W ?_;refine AB X (λh9=>?_) (λh9=>?_)
 ·have h9p:=odt h9;refine W ?_;obtain ⟨x,_,_,hx,hA_x⟩:=ex5 (l:=l) (k:=4) (i:=i) (hR _ M.fr);refine ya X (AK i hA_x X X X (sl X) A0) (ya X (AI X X (BM hk (hR _ M.fr) hA_x hx) Cf X BU) (cl 16 X (C5 X X X hP.fn) (hP.call i x _ hx M.fr hJ) ?_));rintro _ w9 ⟨rfl,hJ,hf9⟩;refine cq ?_;have M:Mem w S [] w9:=Mem.ofFr (M.fr.trans hf9);refine W ?_;refine AB X (λh16=>?_) (λh16=>?_)
  ·refine W ?_;exact gr1 X ⟨by rw [hr,AG hx,ixJ,if_pos h16],by rw [hn,AG hx,ixN,if_pos h16];exact hJ,M.fr⟩
  refine W ?_;refine fag ⟨i+1,X,M,?_,?_,?_,?_,X⟩
  ·omega
  ·exact hJ
  ·rw [hr,AG hx,ixJ,AM h16]
  rw [hn,AG hx,ixN,AM h16]
 have h9p:=odf h9;refine W ?_;refine gr1 X ?_;obtain rfl:i=l.length:=by omega
 exact ⟨by rw [hr,Am];rfl,by rw [hn,Am];exact hJ,M.fr⟩
theorem uU {α:Type} (cells:α→Kx) (hk:∀x,(cells x).length=4) (A:Ky) (c:Nat) (l:List α) (hl:l.length≤4611686018427387904) (f:FuncId) (cs:Kx) (p:Nat→α→Bool) (S:Nat→Prop) (J:Nat→Kw→Prop) (w:Kw) (hP:PredJ prog f cs (λx=>.agg (cells x).toArray) l p S J w) (hR:∀w1,Fr S w w1→Rd w1 A (l.length*4) (AE cells l)) (hJ:J 0 w) :
 Calls prog 131 #[.slice A l.length c,.func (.func f) #[] cs.toArray] w λe w'=>e=.returned (.bool (decide (0≤ixJ p 0 l)))∧J (ixN p 0 l) w'∧Fr S w w':=by
 refine sx_enter (vs:=[_,_]) func131 X ntmps131 X ?_;have M:Mem w S [] w:=Mem.nil w;refine W ?_;refine cl 7 X (AD X X call182) (lS cells hk A c l hl f cs p S J _ hP hR hJ) ?_;rintro _ w9 ⟨rfl,hJ,hf9⟩;refine cq ?_;have M:Mem w S [] w9:=Mem.ofFr hf9;refine W ?_;exact gr1 X ⟨X,hJ,M.fr⟩
theorem V6 {α:Type} (cells:α→Kx) (hk:∀x,(cells x).length=5) (A:Ky) (c:Nat) (l:List α) (hl:l.length≤4611686018427387904) (f:FuncId) (cs:Kx) (p:Nat→α→Bool) (S:Nat→Prop) (J:Nat→Kw→Prop) (w:Kw) (hP:PredJ prog f cs (λx=>.agg (cells x).toArray) l p S J w) (hR:∀w1,Fr S w w1→Rd w1 A (l.length*5) (AE cells l)) (hJ:J 0 w) :
 Calls prog 178 #[.slice A l.length c,.func (.func f) #[] cs.toArray] w λe w'=>e=.returned (AA (ixJ p 0 l))∧J (ixN p 0 l) w'∧Fr S w w':=by
 refine sx_enter (vs:=[_,_]) func178 X ntmps178 X ?_;have M:Mem w S [] w:=Mem.nil w;refine W ?_;refine EF M [7,1,0] (λze zF e wr mz=>∃(i:Nat),e=(8,AA (i:Int))::ze∧zF wr∧(i≤l.length)∧(J i wr)∧(ixJ p 0 l=ixJ p i (l.drop i))∧(ixN p 0 l=ixN p i (l.drop i))∧mz=l.length-i) ⟨0,X,M,Ae _,hJ,X,X,X⟩ ?_;rintro _ w1 _ ⟨i,rfl,M,hi,hJ,hr,hn,rfl⟩;refine W ?_;refine AB X (λh9=>?_) (λh9=>?_)
 ·have h9p:=odt h9;refine W ?_;obtain ⟨x,_,_,hx,hA_x⟩:=ex5 (l:=l) (k:=5) (i:=i) (hR _ M.fr);refine ya X (AK i hA_x X X X (sl X) A0) (ya X (AI X X (BM hk (hR _ M.fr) hA_x hx) Dj X FJ) (cl 16 X (C5 X X X hP.fn) (hP.call i x _ hx M.fr hJ) ?_));rintro _ w9 ⟨rfl,hJ,hf9⟩;refine cq ?_;have M:Mem w S [] w9:=Mem.ofFr (M.fr.trans hf9);refine W ?_;refine AB X (λh16=>?_) (λh16=>?_)
  ·refine W ?_;exact gr1 X ⟨by rw [hr,AG hx,ixJ,if_pos h16],by rw [hn,AG hx,ixN,if_pos h16];exact hJ,M.fr⟩
  refine W ?_;refine fag ⟨i+1,X,M,?_,?_,?_,?_,X⟩
  ·omega
  ·exact hJ
  ·rw [hr,AG hx,ixJ,AM h16]
  rw [hn,AG hx,ixN,AM h16]
 have h9p:=odf h9;refine W ?_;refine gr1 X ?_;obtain rfl:i=l.length:=by omega
 exact ⟨by rw [hr,Am];rfl,by rw [hn,Am];exact hJ,M.fr⟩
theorem uW {α:Type} (cells:α→Kx) (hk:∀x,(cells x).length=5) (A:Ky) (c:Nat) (l:List α) (hl:l.length≤4611686018427387904) (f:FuncId) (cs:Kx) (p:Nat→α→Bool) (S:Nat→Prop) (J:Nat→Kw→Prop) (w:Kw) (hP:PredJ prog f cs (λx=>.agg (cells x).toArray) l p S J w) (hR:∀w1,Fr S w w1→Rd w1 A (l.length*5) (AE cells l)) (hJ:J 0 w) :
 Calls prog 146 #[.slice A l.length c,.func (.func f) #[] cs.toArray] w λe w'=>e=.returned (.bool (decide (0≤ixJ p 0 l)))∧J (ixN p 0 l) w'∧Fr S w w':=by
 refine sx_enter (vs:=[_,_]) func146 X ntmps146 X ?_;have M:Mem w S [] w:=Mem.nil w;refine W ?_;refine cl 7 X (AD X X call178) (V6 cells hk A c l hl f cs p S J _ hP hR hJ) ?_;rintro _ w9 ⟨rfl,hJ,hf9⟩;refine cq ?_;have M:Mem w S [] w9:=Mem.ofFr hf9;refine W ?_;exact gr1 X ⟨X,hJ,M.fr⟩
theorem zQ {α:Type} (cells:α→Kx) (hk:∀x,(cells x).length=7) (A:Ky) (c:Nat) (l:List α) (hl:l.length≤4611686018427387904) (f:FuncId) (cs:Kx) (p:Nat→α→Bool) (S:Nat→Prop) (J:Nat→Kw→Prop) (w:Kw) (hP:PredJ prog f cs (λx=>.agg (cells x).toArray) l p S J w) (hR:∀w1,Fr S w w1→Rd w1 A (l.length*7) (AE cells l)) (hJ:J 0 w) :
 Calls prog 244 #[.slice A l.length c,.func (.func f) #[] cs.toArray] w λe w'=>e=.returned (AA (ixJ p 0 l))∧J (ixN p 0 l) w'∧Fr S w w':=by
 refine sx_enter (vs:=[_,_]) func244 X ntmps244 X ?_;have M:Mem w S [] w:=Mem.nil w;refine W ?_;refine EF M [7,1,0] (λze zF e wr mz=>∃(i:Nat),e=(8,AA (i:Int))::ze∧zF wr∧(i≤l.length)∧(J i wr)∧(ixJ p 0 l=ixJ p i (l.drop i))∧(ixN p 0 l=ixN p i (l.drop i))∧mz=l.length-i) ⟨0,X,M,Ae _,hJ,X,X,X⟩ ?_;rintro _ w1 _ ⟨i,rfl,M,hi,hJ,hr,hn,rfl⟩;refine W ?_;refine AB X (λh9=>?_) (λh9=>?_)
 ·have h9p:=odt h9;refine W ?_;obtain ⟨x,_,_,hx,hA_x⟩:=ex5 (l:=l) (k:=7) (i:=i) (hR _ M.fr);refine ya X (AK i hA_x X X X (sl X) A0) (ya X (AI X X (BM hk (hR _ M.fr) hA_x hx) Bk X AT) (cl 16 X (C5 X X X hP.fn) (hP.call i x _ hx M.fr hJ) ?_));rintro _ w9 ⟨rfl,hJ,hf9⟩;refine cq ?_;have M:Mem w S [] w9:=Mem.ofFr (M.fr.trans hf9);refine W ?_;refine AB X (λh16=>?_) (λh16=>?_)
  ·refine W ?_;exact gr1 X ⟨by rw [hr,AG hx,ixJ,if_pos h16],by rw [hn,AG hx,ixN,if_pos h16];exact hJ,M.fr⟩
  refine W ?_;refine fag ⟨i+1,X,M,?_,?_,?_,?_,X⟩
  ·omega
  ·exact hJ
  ·rw [hr,AG hx,ixJ,AM h16]
  rw [hn,AG hx,ixN,AM h16]
 have h9p:=odf h9;refine W ?_;refine gr1 X ?_;obtain rfl:i=l.length:=by omega
 exact ⟨by rw [hr,Am];rfl,by rw [hn,Am];exact hJ,M.fr⟩
theorem uT {α:Type} (cells:α→Kx) (hk:∀x,(cells x).length=7) (A:Ky) (c:Nat) (l:List α) (hl:l.length≤4611686018427387904) (f:FuncId) (cs:Kx) (p:Nat→α→Bool) (S:Nat→Prop) (J:Nat→Kw→Prop) (w:Kw) (hP:PredJ prog f cs (λx=>.agg (cells x).toArray) l p S J w) (hR:∀w1,Fr S w w1→Rd w1 A (l.length*7) (AE cells l)) (hJ:J 0 w) :
 Calls prog 229 #[.slice A l.length c,.func (.func f) #[] cs.toArray] w λe w'=>e=.returned (.bool (decide (0≤ixJ p 0 l)))∧J (ixN p 0 l) w'∧Fr S w w':=by
 refine sx_enter (vs:=[_,_]) func229 X ntmps229 X ?_;have M:Mem w S [] w:=Mem.nil w;refine W ?_;refine cl 7 X (AD X X call244) (zQ cells hk A c l hl f cs p S J _ hP hR hJ) ?_;rintro _ w9 ⟨rfl,hJ,hf9⟩;refine cq ?_;have M:Mem w S [] w9:=Mem.ofFr hf9;refine W ?_;exact gr1 X ⟨X,hJ,M.fr⟩
theorem f5 (A:Ky) (c:Nat) (l:List Kz) (hl:l.length≤4611686018427387904) (f:FuncId) (cs:Kx) (p:Nat→Kz→Bool) (S:Nat→Prop) (J:Nat→Kw→Prop) (w:Kw) (hP:PredJ prog f cs str l p S J w) (hR:∀w1,Fr S w w1→Rd w1 A (l.length*1) (AE BG l)) (hJ:J 0 w) :
 Calls prog 185 #[.slice A l.length c,.func (.func f) #[] cs.toArray] w λe w'=>e=.returned (AA (ixJ p 0 l))∧J (ixN p 0 l) w'∧Fr S w w':=by
 refine sx_enter (vs:=[_,_]) func185 X ntmps185 X ?_;have M:Mem w S [] w:=Mem.nil w;refine W ?_;refine EF M [7,1,0] (λze zF e wr mz=>∃(i:Nat),e=(8,AA (i:Int))::ze∧zF wr∧(i≤l.length)∧(J i wr)∧(ixJ p 0 l=ixJ p i (l.drop i))∧(ixN p 0 l=ixN p i (l.drop i))∧mz=l.length-i) ⟨0,X,M,Ae _,hJ,X,X,X⟩ ?_;rintro _ w1 _ ⟨i,rfl,M,hi,hJ,hr,hn,rfl⟩;refine W ?_;refine AB X (λh9=>?_) (λh9=>?_)
 ·have h9p:=odt h9;refine W ?_;obtain ⟨x,_,_,hx,hA_x⟩:=ex5 (l:=l) (k:=1) (i:=i) (hR _ M.fr);refine ya X (AK i hA_x X X X (sl X) A0) (yl X X (BD DI (hR _ M.fr) hA_x hx 0 X) (cl 16 X (C5 X X X hP.fn) (hP.call i x _ hx M.fr hJ) ?_));rintro _ w9 ⟨rfl,hJ,hf9⟩;refine cq ?_;have M:Mem w S [] w9:=Mem.ofFr (M.fr.trans hf9);refine W ?_;refine AB X (λh16=>?_) (λh16=>?_)
  ·refine W ?_;exact gr1 X ⟨by rw [hr,AG hx,ixJ,if_pos h16],by rw [hn,AG hx,ixN,if_pos h16];exact hJ,M.fr⟩
  refine W ?_;refine fag ⟨i+1,X,M,?_,?_,?_,?_,X⟩
  ·omega
  ·exact hJ
  ·rw [hr,AG hx,ixJ,AM h16]
  rw [hn,AG hx,ixN,AM h16]
 have h9p:=odf h9;refine W ?_;refine gr1 X ?_;obtain rfl:i=l.length:=by omega
 exact ⟨by rw [hr,Am];rfl,by rw [hn,Am];exact hJ,M.fr⟩
section
section
variable {P:Lw} {ops:Array Oper} {Q:Exit→Act→Kw→Prop} {S:Kw→Prop} {t n f:Nat} {listed:Array Bool} {e:Env} {w:Kw}
theorem DP {o:Oper} {d:Nat} {v:Kv} (i:Nat) (hr:Region.ready .any ops listed=[i]) (ho:ops[i]?=some o) (hw:Wn ops e o) (hd:o.dst=some d) (hn:Nat.blt d n=true) (hy:Y P e o w v) (hS:S w)
 (k:SxO P ops Q t S n f (listed.setIfInBounds i true) ((d,v)::e) w):SxO P ops Q t S n (f+1) listed e w:=
 B5 i (some d) hr ho hw hd hn (R:=λu w'=>u=v∧w'=w) (λρ hρ=>⟨v,w,.inl (hy ρ hρ),rfl,rfl⟩) λu w' ⟨h1,h2⟩=>by subst h1;subst h2;exact ⟨λ_=>hS,k⟩
theorem I9 {o:Oper} {j d d':Nat} {b c:Bool} (i:Nat) (hr:Region.ready .any ops listed=[i]) (ho:ops[i]?=some o) (h:o.guard=some (j,b)) (hj:(ops[j]?).bind (·.dst)=some d) (hb:e.get d=some (.bool c)) (hne:(c==b)=false) (hd:o.dst=some d') (hn:Nat.blt d' n=true) (hS:S w)
 (k:SxO P ops Q t S n f (listed.setIfInBounds i true) ((d',undef)::e) w):SxO P ops Q t S n (f+1) listed e w:=⟨λa ha=>by
 have hw:Region.wanted o (yielded ops a.tmps)=false:=by
  simp only [Region.wanted,h,yielded,hj,ha.get d _ hb,Ey]
  cases c<;>cases b<;>simp_all
 refine ⟨λh0=>(by rw [hr] at h0;cases h0),λj' hj'=>?_⟩;rw [hr] at hj'
 obtain rfl:j'=i:=by simpa using hj'
 unfold wpOp;simp only [ho,hw,Db,if_false];rw [hd];exact ⟨λ_=>hS,k.run _ (ha.put (CF hn) _)⟩⟩
end
end
section
def kH (ops:Array Oper) (i t:Nat):Bool:=(List.range ops.size).all λj=>decide (j<t) || Region.waitsFor .any ops j i
section
variable {P:Lw} {ops:Array Oper} {Q:Exit→Act→Kw→Prop} {S:Kw→Prop} {t:Nat}
theorem YA {i:Nat} {oi:Oper} {v:Kv} (hi:ops[i]?=some oi) (hsel:∀(j:Nat) (o:Oper) cs b,ops[j]?=some o→o.op≠.select cs b)
 (hQ:∀c a w,Q (.panic c) (a.put oi.dst v) w→Q (.panic c) a w) (hwait:kH ops i t=true) :
 ∀(fuel:Nat) (listed:Array Bool) (a:Act) (w:Kw),
  (∀j oj,ops[j]?=some oj→j≠i→listed.getD j true=false→(∀e∈oj.after,Region.binds .any e=true→e.on≠i)→oi.apart ops oj=true) →
  i∈Region.ready .any ops listed→YieldsIf P ops S oi v a→S w →
  KK P ops Q t S fuel (listed.setIfInBounds i true) (a.put oi.dst v) w→KK P ops Q t S (fuel+1) listed a w:=by
 intro fuel
 induction fuel with
 | zero=>
  intro listed a w _ hr hy hS H;refine ⟨λh=>(by rw [h] at hr;cases hr),λj hj=>?_⟩
  by_cases hji:j=i
  ·subst hji;exact hy.wpOp hi hS ⟨λ_=>hS,H⟩
  have:=ready_mono hj hji
  rw [H.1] at this
  cases this
 | succ fuel ih=>
  intro listed a w hfree hr hy hS H;refine ⟨λh=>(by rw [h] at hr;cases hr),λj hj=>?_⟩
  by_cases hji:j=i
  ·subst hji;exact hy.wpOp hi hS ⟨λ_=>hS,H⟩
  have h1:=H.2 j (ready_mono hj hji);obtain ⟨hjun,oj,hoj,hall⟩:=mem_ready.1 hj
  have hnot:∀e∈oj.after,Region.binds .any e=true→e.on≠i:=λe he hb heq=>by
   have h1:=hall e he hb;have h0:=(mem_ready.1 hr).1;rw [heq,getD_both h0] at h1
   cases h1
  have hjt:j<t:=by
   have h2:=Ci.1 hwait j (Eu.2 (An.1 hoj).1);simp only [Dm,decide_eq_true_eq] at h2
   rcases h2 with h2|h2
   ·exact h2
   obtain ⟨o',ho',e,he,hb,hon⟩:=Region.waitsFor_spec h2;rw [hoj] at ho'
   injection ho' with ho'
   subst ho';exact absurd hon (hnot e he hb)
  have h2:=wpOp_putIf hoj (hfree j oj hoj hji hjun hnot) (λcs b=>hsel i oi cs b hi) (λcs b=>hsel j oj cs b hoj) hQ hy h1
  have hfree':∀k ok,ops[k]?=some ok→k≠i→(listed.setIfInBounds j true).getD k true=false →
   (∀e∈ok.after,Region.binds .any e=true→e.on≠i)→oi.apart ops ok=true:=λk ok hk hki hun hno=>by
   refine hfree k ok hk hki ?_ hno
   by_cases hjk:j=k
   ·subst hjk;exact hjun
   rw [getD_set_ne true hjk] at hun;exact hun
  refine wpOp_mono (λa' w' h3=>⟨h3.2.1,ih (listed.setIfInBounds j true) a' w' hfree' (ready_mono hr (Ej hji)) h3.1 (h3.2.1 hjt) ?_⟩) h2;rw [Ip _ _ hji];exact h3.2.2
variable {n f:Nat} {listed:Array Bool} {e:Env} {w:Kw}
theorem IO {o:Oper} {d:Nat} {v:Kv} (i:Nat) (hs:Region.noSelect ops=true) (hQ:∀c (a:Act) t v w,Q (.panic c) (a.put t v) w→Q (.panic c) a w) (hwait:kH ops i t=true)
 (hf:Region.free .any ops listed i=true) (hr:(Region.ready .any ops listed).contains i=true) (ho:ops[i]?=some o) (hw:Wn ops e o) (hd:o.dst=some d) (hn:Nat.blt d n=true) (hS:S w) (hy:∀w',S w'→Y P e o w' v)
 (k:SxO P ops Q t S n f (listed.setIfInBounds i true) ((d,v)::e) w):SxO P ops Q t S n (f+1) listed e w:=⟨λa ha=>
 YA ho (Region.noSelect_spec hs) (λc a w=>hQ c a _ _ w) hwait f listed a w (Region.free_spec ho hf) (by simpa using hr) (.inl ⟨hw n a ha,λw' hw'=>hy w' hw' _ ha.eval⟩) hS (by
  rw [hd];exact k.run _ (ha.put (CF hn) v))⟩
end
end
section
theorem MW (k:Kz) (u v:Kv):∀L,D9 (D9 L k u) k v=D9 L k v
 | []=>by simp [D9]
 | (k1,v1)::r=>by
  rw [D9,D9]
  by_cases h:k=k1
  ·rw [if_pos h,if_pos h,D9,if_pos rfl]
  rw [if_neg h,if_neg h,D9,if_neg h,MW k u v r]
theorem ZB {k:Kz} {v:Kv}:∀{L:List (Kz × Kv)},CC L k=some v→D9 L k v=L
 | [],h=>by cases h
 | (k1,v1)::r,h=>by
  rw [CC] at h
  rw [D9]
  by_cases hk:k=k1
  ·rw [if_pos hk] at h ⊢;injection h with h;rw [hk,h]
  rw [if_neg hk] at h ⊢;rw [ZB h]
def cG (es:List MapEntry) (cl:Nat):Prop:=(∀en∈es,en.born<cl)∧∀(i j:Nat) (a b:MapEntry),es[i]?=some a→es[j]?=some b→a.born=b.born→i=j
def MpB (w:Kw) (g:Nat) (L:List (Kz × Kv)):Prop:=∃(es:Array MapEntry) (clock:Nat),w.heap[g]?=some (.map es clock)∧es.toList.map (λe=>(e.key,e.val))=L.map (λp=>(str p.1,p.2))∧cG es.toList clock
theorem MpB.mp {w:Kw} {g:Nat} {L:List (Kz × Kv)} (h:MpB w g L):Mp w g L:=by
 obtain ⟨es,cl,h1,h2,_⟩:=h;exact ⟨es,cl,h1,h2⟩
theorem MpB.keep {w w':Kw} {g:Nat} {L:List (Kz × Kv)} (hk:g<w.heap.size→w'.heap[g]?=w.heap[g]?) (h:MpB w g L):MpB w' g L:=by
 obtain ⟨es,cl,h1,h2⟩:=h;exact ⟨es,cl,(hk (An.1 h1).1).trans h1,h2⟩
def EntAt (w:Kw) (g:Nat) (L:List (Kz × Kv)) (k:Kz) (b:Nat):Prop:=∃(es:Array MapEntry) (clock i:Nat) (en:MapEntry),w.heap[g]?=some (.map es clock)∧es.toList.map (λe=>(e.key,e.val))=L.map (λp=>(str p.1,p.2))∧cG es.toList clock ∧
 es.toList[i]?=some en∧en.born=b∧∀v,D9 L k v=L.set i (k,v)
theorem EntAt.keep {w w':Kw} {g b:Nat} {L:List (Kz × Kv)} {k:Kz} (hk:g<w.heap.size→w'.heap[g]?=w.heap[g]?) (h:EntAt w g L k b):EntAt w' g L k b:=by
 obtain ⟨es,cl,i,en,h1,h2⟩:=h;exact ⟨es,cl,i,en,(hk (An.1 h1).1).trans h1,h2⟩
section
variable {P:Lw} {w:Kw} {o:Oper}
theorem MJ {ρ:Lz→Kv} {t kt el:Ly} {mp x:Lz} {g:Nat} {k:Kz} {L:List (Kz × Kv)} {z:Kv} (ho:o.op=.mapEntry t mp x) (hm:ρ mp=.map (some g)) (hi:ρ x=str k) (hu:P.underlying t=some (.map kt el)) (hd:P.underlying kt=some .string) (hz:(P.info? el).map (·.zero)=some (some z))
 (hM:MpB w g L):K2 P ρ o w λu w'=>∃b:Nat,u=.tuple #[(CC L k).getD z,AA (b:Int)]∧Fr (λb=>b=g) w w'∧EntAt w' g (D9 L k ((CC L k).getD z)) k b:=by
 obtain ⟨es,clock,hb,hes,hB1,hB2⟩:=hM;obtain ⟨inf,hinf,hinz⟩:=Dd.1 hz;have hlt:g<w.heap.size:=(An.1 hb).1;have hlen:es.toList.length=L.length:=by have:=Ay List.length hes;simpa using this
 have hbits:Instr.sameBits 10000 (str k) (str k)=true:=by
  unfold str
  simp [Instr.sameBits,aM]
 have fin:∀(es':Array MapEntry) (clock' i:Nat) (en:MapEntry) (u:Kv) (L':List (Kz × Kv)),(Instr.mapEntry t (.map (some g)) (str k)).run P w=.ok (.tuple #[u,AA (en.born:Int)]) { w with heap:=w.heap.setIfInBounds g (.map es' clock') }→u=(CC L k).getD z→L'=D9 L k ((CC L k).getD z) →
  es'.toList.map (λe=>(e.key,e.val))=L'.map (λp=>(str p.1,p.2))→cG es'.toList clock'→es'.toList[i]?=some en→(∀v,D9 L' k v=L'.set i (k,v)) →
  K2 P ρ o w λu w'=>∃b:Nat,u=.tuple #[(CC L k).getD z,AA (b:Int)]∧Fr (λb=>b=g) w w'∧EntAt w' g (D9 L k ((CC L k).getD z)) k b:=λes' clock' i en u L' hrun hu' hL' hes' hB hen hput=>by
  subst hu';subst hL';refine ⟨_,{ w with heap:=w.heap.setIfInBounds g (.map es' clock') },.inl ?_,en.born,X,⟨X,X,X,by simp,λr _ hn=>by simp [Array.getElem?_setIfInBounds_ne (Ne.symm hn)]⟩,es',clock',i,en,by simp [hlt],hes',hB,hen,rfl,hput⟩;unfold execOp;simp only [ho,hm,hi,Sem.run_bind,hrun,Result.andThen_ok]
  rfl
 rcases S4 k L es.toList 0 hes with ⟨a1,a2,a3⟩|⟨j,v0,a1,a2,a3,a4,a5⟩
 ·refine fin (es.push { key:=str k,val:=z,born:=clock }) (clock+1) L.length { key:=str k,val:=z,born:=clock } z (L++[(k,z)]) ?_ (by rw [a1];rfl) (by rw [a1,a3];rfl) (by simp [hes]) ⟨?_,?_⟩ (by rw [Hw,←hlen,Cc (Ab _)];simp) ?_
  ·unfold Instr.mapEntry;simp only [Sem.run_bind,run_underlying hu,Result.andThen_ok,KY hb,JE hd,IT hd a2];have hzv:(zeroValue el).run P w=.ok z w:=by simp [zeroValue,typeInfo,hinf,hinz]
   simp only [hzv,Result.andThen_ok];unfold setObj goInt;simp only [Sem.run,hb]
   rfl
  ·intro en hen;rw [Hw,Bo] at hen
   rcases hen with hen|hen
   ·have:=hB1 en hen;omega
   obtain rfl:=Au.1 hen;exact Nat.lt_succ_self _
  ·intro i j a b ha hb' hab;rw [Hw] at ha hb'
   have cs:∀(i:Nat) (a:MapEntry),(es.toList++[{ key:=str k,val:=z,born:=clock }])[i]?=some a→es.toList[i]?=some a∨(i=es.toList.length∧a.born=clock):=λi a h=>by
    rcases Fz i es.toList.length with hi'|hi'
    ·rw [Cl hi'] at h;exact .inl h
    rw [Cc hi'] at h
    have h0:i-es.toList.length=0:=by
     rcases Ep (i-es.toList.length) with h0|h0
     ·exact h0
     rw [Fm (by simp only [Af,Aq];omega)] at h;cases h
    rw [h0] at h
    simp only [Ai,Ad] at h
    exact .inr ⟨by omega,by rw [←h]⟩
   rcases cs i a ha with h1|⟨h1,h2⟩<;>rcases cs j b hb' with h3|⟨h3,h4⟩
   ·exact hB2 i j a b h1 h3 hab
   ·have:=hB1 a (Ac h1);omega
   ·have:=hB1 b (Ac h3);omega
   omega
  intro v;have h1:L++[(k,z)]=D9 L k z:=by rw [a3]
  rw [h1,MW,a3]
  simp
 rw [Cm] at a2
 obtain ⟨en,hen⟩:∃en,es[j]?=some en:=⟨_,Fb (by simp at hlen;omega)⟩
 have hen':es.toList[j]?=some en:=by simpa using hen
 have hkey:en.key=str k:=by
  have h1:=Ay (·[j]?) hes;simp only [Bu] at h1
  rw [hen'] at h1
  cases hL:L[j]? with
  | none=>rw [hL] at h1;cases h1
  | some p=>
   rw [hL] at h1 a4
   simp only [Dc,Ad,Av] at h1 a4
   rw [h1.1,a4]
 have hmod:(es.modify j λe=>{ e with key:=str k }).toList=es.toList:=by
  apply Dx
  intro i;rw [Hh,Hc]
  by_cases hij:j=i
  ·subst hij;rw [hen'];simp only [if_true,Option.map_eq_map,Dc,Ad];rw [←hkey]
  cases es.toList[i]?<;>simp [hij]
 refine fin (es.modify j λe=>{ e with key:=str k }) clock j en v0 L ?_ (by rw [a1];rfl) (by rw [a1];exact (ZB a1).symm) (by rw [hmod];exact hes) (by rw [hmod];exact ⟨hB1,hB2⟩) (by rw [hmod];exact hen') (λv=>by rw [a5]);have hold:((es[j]?).map (·.key)).getD (str k)=str k:=by rw [hen];exact hkey
 have hbn:((es[j]?).map (λx=>(x.born:Int))).getD 0=(en.born:Int):=by rw [hen];rfl
 unfold Instr.mapEntry;simp only [Sem.run_bind,run_underlying hu,Result.andThen_ok,KY hb,JE hd,IT hd a2,hold,hbn,Instr.keyThatStays,hbits,if_true,Sem.run_pure];unfold setObj goInt;simp only [Sem.run,hb]
 rfl
theorem bR {es:List MapEntry} {cl i:Nat} {en:MapEntry} (hB:cG es cl) (hen:es[i]?=some en):es.findIdx? (λe=>(e.born:Int)==(en.born:Int))=some i:=by
 have hi:i<es.length:=(Aj.1 hen).1;rw [List.findIdx?_eq_some_iff_getElem];refine ⟨hi,?_,?_⟩
 ·have:es[i]=en:=(Aj.1 hen).2
  simp [this]
 intro j hj;have hj':j<es.length:=by omega
 have:¬(es[j].born:Int)=(en.born:Int):=λe=>by
  have:=hB.2 j i es[j] en (Ao hj') hen A0
  omega
 simp [this]
theorem KM {ρ:Lz→Kv} {t:Ly} {mp s x:Lz} {g b:Nat} {k:Kz} {v:Kv} {L:List (Kz × Kv)} (ho:o.op=.entryStore t mp s x) (hm:ρ mp=.map (some g)) (hs:ρ s=AA (b:Int)) (hx:ρ x=v)
 (hE:EntAt w g L k b):K2 P ρ o w λu w'=>u=undef∧Fr (λb=>b=g) w w'∧MpB w' g (D9 L k v):=by
 obtain ⟨es,clock,i,en,hb,hes,hB,hen,rfl,hput⟩:=hE;have hlt:g<w.heap.size:=(An.1 hb).1;have hlen:es.toList.length=L.length:=by have:=Ay List.length hes;simpa using this
 have hfi:es.findIdx? (λe=>(e.born:Int)==(en.born:Int))=some i:=by
  obtain ⟨l⟩:=es
  simpa using bR hB hen
 have hrun:(Instr.entryStore t (.map (some g)) (AA (en.born:Int)) v).run P w=.ok () { w with heap:=w.heap.setIfInBounds g (.map (es.modify i λe=>{ e with val:=v }) clock) }:=by
  unfold Instr.entryStore;simp only [Sem.run_bind,Sem.run_pure,Result.andThen_ok,KY hb,asInt,asIntOf,hfi];unfold setObj;simp only [Sem.run,hb]
 have hnew:∀q:Nat,(es.modify i λe=>{ e with val:=v }).toList[q]?=(es.toList[q]?).map (λe=>if i=q then { e with val:=v } else e):=λq=>by
  rw [Hh,Hc]
  by_cases hiq:i=q
  ·simp only [hiq,if_true];cases es.toList[q]?<;>rfl
  simp only [if_neg hiq];cases es.toList[q]?<;>rfl
 refine ⟨undef,{ w with heap:=w.heap.setIfInBounds g (.map (es.modify i λe=>{ e with val:=v }) clock) },.inr ⟨?_,X⟩,X,⟨X,X,X,by simp,λr _ hn=>by simp [Array.getElem?_setIfInBounds_ne (Ne.symm hn)]⟩,es.modify i λe=>{ e with val:=v },clock,by simp [hlt],?_,?_,?_⟩
 ·unfold execOp;simp only [ho,hm,hs,hx,Sem.run_bind,hrun,Result.andThen_ok]
  rfl
 ·have hk:en.key=str k:=by
   have h1:=Ay (·[i]?) hes;simp only [Bu,hen] at h1
   have h2:=hput ((L[i]?).map (·.2) |>.getD v);have h3:=hput undef;have hi:i<L.length:=by have:=(Aj.1 hen).1;omega
   have h4:CC (L.set i (k,undef)) k=some undef:=by rw [←h3,G0,if_pos rfl]
   cases hL:L[i]? with
   | none=>rw [Ao hi] at hL;cases hL
   | some p=>
    rw [hL] at h1
    simp only [Dc,Ad,Av] at h1
    rw [h1.1]
    have h5:∀(M:List (Kz × Kv)) (q:Nat) (p:Kz × Kv),M[q]?=some p→(∀u,D9 M k u=M.set q (k,u))→p.1=k:=by
     intro M
     induction M with
     | nil=>intro q p h;simp at h
     | cons a r ih=>
      intro q p h hu;obtain ⟨a1,a2⟩:=a
      cases q with
      | zero=>
       simp only [Ai,Ad] at h;subst h
       have:=hu a2
       rw [D9] at this
       by_cases hka:k=a1
       ·exact hka.symm
       rw [if_neg hka] at this
       simp only [List.set_cons_zero,Cs,Av] at this
       exact this.1.1
      | succ q=>
       have h6:=hu
       have hka:¬k=a1:=λe=>by
        have:=hu undef
        rw [D9,if_pos e] at this
        simp only [List.set_cons_succ,Cs,Av] at this
        have h7:=hu (.bool true);rw [D9,if_pos e] at h7
        simp only [List.set_cons_succ,Cs,Av] at h7
        have h8:=this.1.2.trans h7.1.2.symm
        cases h8
       refine ih q p (by simpa using h) (λu=>?_)
       have:=hu u
       rw [D9,if_neg hka] at this
       simpa using this
    rw [h5 L i p hL hput]
  rw [hput]
  apply Dx
  intro q;have h1:=Ay (·[q]?) hes;simp only [Bu] at h1
  rw [Bu,hnew,Bu,Hs]
  by_cases hiq:i=q
  ·subst hiq;have hi:i<L.length:=by have:=(Aj.1 hen).1;omega
   simp [hen,hi,hk]
  simp only [if_neg hiq];rw [←h1]
  cases es.toList[q]?<;>rfl
 ·intro a ha;obtain ⟨q,hq⟩:=Cd ha;rw [hnew] at hq
  obtain ⟨a',ha',rfl⟩:=Dd.1 hq
  have:=hB.1 a' (Ac ha')
  split<;>exact this
 intro p q a b' ha hb' hab;rw [hnew] at ha hb'
 obtain ⟨a',ha',rfl⟩:=Dd.1 ha;obtain ⟨b'',hb'',rfl⟩:=Dd.1 hb';refine hB.2 p q a' b'' ha' hb'' ?_;have e1:(if i=p then { a' with val:=v } else a').born=a'.born:=by split<;>rfl
 have e2:(if i=q then { b'' with val:=v } else b'').born=b''.born:=by split<;>rfl
 rw [e1,e2] at hab;exact hab
end
end
section
section
variable {P:Lw} {e:Env} {w:Kw} {o:Oper}
end
end
section
section
variable {P:Lw} {e:Env} {w:Kw} {o:Oper}
end
end
section
section
variable {P:Lw} {e:Env} {w:Kw} {o:Oper}
theorem kC {s d:Ly} {x:Lz} {v v':Kv} (ho:o.op=.convert s d x) (hx:ev e x=some v) (hc:(convert s d v).run P w=.ok v' w):Y P e o w v':=λρ h=>by
 unfold execOp;simp [ho,h _ _ hx,hc]
theorem m6 {t t' el n:Nat} {a:Addr} {x y:Lz} (ho:o.op=.binOp .neq t x y t') (hx:ev e x=some (.pointer (some a))) (hy:ev e y=some (.pointer (some a))) (hu:P4 P t=some el) (hz:∀w,(Go.sizeOf el).run P w=.ok n w):Y P e o w (.bool false):=λρ h=>by
 have h1:(Op.equal t (.pointer (some a)) (.pointer (some a))).run P w=.ok true w:=by
  unfold Op.equal Op.maxDepth Op.equalIn
  simp [run_underlying (WN hu),hz,sameAddr]
 unfold execOp;simp [ho,h _ _ hx,h _ _ hy,eqGuard_at_pointer,binOp,h1]
theorem a0x {f:FuncId} {x:Lz} {ts:Array Ly} {v:Kv} (ho:o.op=.call { callee:=.value (.func f),args := #[x],argTypes:=ts }) (hx:ev e x=some v) (hc:∀(u:Kv) (w:Kw),(callFunc f #[u]).run P w=.ok (.value u) w):Y P e o w v:=λρ h=>by
 have h0:ρ (.func f)=.func (.func f) #[] #[]:=h _ _ X;unfold execOp;simp [ho,h _ _ hx,h0,resolve,invoke,Deferred.ofValue,hc]
end
theorem Fr.below1 {w w':Kw} {b B:Nat} (h:Fr (λk=>k=b) w w') (hb:B≤b) (hBw:B≤w.heap.size):Below B w w':=⟨h.os,h.tape,h.output,h.size,λk hk=>h.block k A0 A0⟩
theorem a2u (u:Kv) (w:Kw):(callFunc 241 #[u]).run prog w=.ok (.value u) w:=by
 rw [run_callFunc_extern func241 gkr gkr gkr (e:=Extern.AbiNoEscape.same) gkr,Lib.run_noEscape]
 rfl
theorem vM : liesAt prog prog.depth 251 (2 / prog.cellsOf 251) 0 251 1=true:=by kernel_rfl
theorem vN : (prog.info? 251).map (·.size)=some 2:=by kernel_rfl
theorem sA : (prog.info? 248).map (·.size)=some 1:=by kernel_rfl
theorem r6 : (prog.info? 249).map (·.size)=some 1:=by kernel_rfl
theorem wG : (prog.info? 5).map (λi=>(i.zero,i.size,i.bytes))=some (some (.int .u8 0),1,1):=by kernel_rfl
theorem a0H : (prog.info? 5).map (λi=>(i.zero,i.size))=some (some (.int .u8 0),1):=by kernel_rfl
theorem bU (B b:Nat) (bs:Kx) (w:Kw) (h:Lib.IsBuilder 251 5 B b bs w) (hBw:B≤w.heap.size) :
 Calls prog 218 #[.pointer (some ⟨b,0,none⟩)] w λe w'=>e=.returned (.tuple #[])∧Lib.BuilderAt 251 5 B b (.pointer (some ⟨b,0,none⟩)) bs w'∧Below B w w':=by
 rcases h with h|h
 ·have hsh:=h.shape;obtain ⟨hB,v,hbk,hown,hne⟩:=h;have hb:Blk w b 251 [.pointer none,v]:=hbk;have c0:Cell w.heap b 0 (.pointer none):=hb.c 0 X;obtain ⟨j,hj,hjs⟩:=Dd.1 vN;refine sx_enter (vs:=[_]) func218 X ntmps218 X (V ?_);refine yl X X (by assumption) (ya X (MO X X X (pt X)) (V ?_));refine ya X (kC X X (Lib.run_to_unsafe _ ⟨b,0,none⟩ Ie underlying285 hj (by rw [hjs];decide) hsh (by show 0<2;omega))) (ya X (a0x X X a2u) (ya X (kC X X (Lib.run_from_unsafe _ ⟨b,0,none⟩ underlying285 Ie hj hsh vM)) (V ?_)));refine sxl_does none kw X X (λρ hρ=>DW _ _ _ X b 0 _ _ (.pointer (some ⟨b,0,none⟩)) (hρ _ _ X) (hρ _ _ X) X hb sA (by show 0<2;omega) X) ?_;rintro _ w1 ⟨rfl,hb1,hf1⟩;exact sxl_nil (qx_ret0 (Or.inr X) X ⟨X,⟨hB,v,hb1,iX hown hf1 (λk hk e=>hne (by rw [hk,e])),hne⟩,hf1.below1 hB hBw⟩)
 have h':=h;obtain ⟨hB,v,hbk,hown,hne⟩:=h;have hb:Blk w b 251 [.pointer (some ⟨b,0,none⟩),v]:=hbk;have c0:Cell w.heap b 0 (.pointer (some ⟨b,0,none⟩)):=hb.c 0 X;refine sx_enter (vs:=[_]) func218 X ntmps218 X (V ?_);refine yl X X (by assumption) (ya X (MO X X X (pt X)) (V ?_));refine yl X X (by assumption) (yb X (ya X (m6 X X X (pt X) sizeOf251) (V ?_)));exact qx_ret0 (Or.inr X) X ⟨X,h',Below.refl B w⟩
theorem QZ (B b:Nat) (l:Kz) (c:UInt8) (w:Kw) (h:Lib.IsBuilder 251 5 B b (bvs l) w) (hlen:l.length+1≤140737488355328) (hBw:B≤w.heap.size) :
 Calls prog 198 #[.pointer (some ⟨b,0,none⟩),.int .u8 (c.toNat:Int)] w λe w'=>e=.returned .nilIface∧Lib.IsBuilder 251 5 B b (bvs (l++[c])) w'∧Below B w w':=by
 refine sx_enter (vs:=[_,_]) func198 X ntmps198 X (V ?_);refine cl 6 X (AD X X call218) (bU B b _ _ h hBw) ?_;rintro _ w1 ⟨rfl,h1,hb1⟩;refine cq ?_;obtain ⟨hB,v,hbk,hown,hne⟩:=h1;have hb:Blk w1 b 251 [.pointer (some ⟨b,0,none⟩),v]:=hbk;obtain ⟨A,cap,rfl,_,hcm,hrd,_⟩:=eJ hown;have c1:Cell w1.heap b 1 (.slice A (bvs l).length cap):=hb.c 1 X;refine V ?_;refine yl X X (by assumption) (yb X (sxl_does (some 13) kw X X (λρ hρ=>DA [bv c] (.int .u8 0) hρ X X X X Cv a0H AV AV (by intro u hu;simp only [Au] at hu;subst hu;rfl)) ?_));rintro _ w2 ⟨g2,rfl,hg1,hg2,hb2,hf2⟩;have hB1:=hb1.size;refine sxl_does (some 14) kw X X (λρ hρ=>fS _ _ 249 X B 5 _ _ Cv wG X _ _ (bvs l) (hρ _ _ X) (iX hown hf2 (λ_ _ hh=>hh)) _ 1 1 [bv c] (hρ _ _ X) (Rd.ofBlk hb2 X) (by intro u hu;simp only [Au] at hu;subst hu;rfl) (by rw [QQ];unfold maxLen;omega) (by rw [QQ];omega) (by have:=hf2.size;omega)) ?_;rintro v3 w3 ⟨hown3,hgr,hrow⟩;obtain ⟨A3,cap3,rfl,_,_,_,_⟩:=eJ hown3;have hlt:b<w1.heap.size:=hb.lt
 have hb3:Blk w3 b 251 [.pointer (some ⟨b,0,none⟩),.slice A (bvs l).length cap]:=by
  have h2:Blk w2 b 251 _:=hb.fr0 hf2;exact (hgr.block b h2.lt (λe=>hne e.symm)).trans h2
 have hne3:(Value.slice A3 ((bvs l).length+1) cap3).ownBlock≠some b:=Lib.ownBlock_ne hown3 hb3 AV;refine V ?_;refine sxl_does none kw X X (λρ hρ=>DW _ _ _ X b 1 _ _ (.slice A3 ((bvs l).length+1) cap3) (hρ _ _ X) (hρ _ _ X) X hb3 r6 (by show 1<2;omega) X) ?_;rintro _ w4 ⟨rfl,hb4,hf4⟩;refine V ?_;refine gr1 X ?_;have hl:bvs (l++[c])=bvs l++[bv c]:=by simp [bvs]
 have hf3:Fr (λk=>some k=(Value.slice A (bvs l).length cap).ownBlock) w2 w3:=⟨hgr.os,hgr.tape,hgr.output,hgr.size,λk hk hn=>hgr.block k hk hn⟩;refine ⟨X,.inr ⟨hB,_,hb4,?_,?_⟩,?_⟩
 ·rw [hl]
  have:=iX hown3 hf4 (λk hk e=>hne3 (by rw [hk,e]))
  simpa using this
 ·simpa using hne3
 have hw2:=hf2.size;refine hb1.trans ⟨hf4.os.trans (hf3.os.trans hf2.os),hf4.tape.trans (hf3.tape.trans hf2.tape),hf4.output.trans (hf3.output.trans hf2.output),Bb hf2.size (Bb hf3.size hf4.size),λk hk=>?_⟩;rw [hf4.block k (by have:=hf3.size;omega) A0,hf3.block k A0 (λe=>?_),hf2.block k A0 (λhh=>hh)]
 have:=(hown.lt k e.symm).1
 omega
end
theorem pC {P:Lw} {e:Env} {w:Kw} {o:Oper} {t t':Nat} {a b:Kz} {x y:Lz} (ho:o.op=.binOp .add t x y t') (hx:ev e x=some (str a)) (hy:ev e y=some (str b)) (hl:a.length+b.length≤9223372036854775807):Y P e o w (str (a++b)):=λρ h=>by
 have h1:ρ x=.string ⟨a.toArray⟩:=h _ _ hx;have h2:ρ y=.string ⟨b.toArray⟩:=h _ _ hy;unfold execOp;have hs:((⟨a.toArray⟩:ByteArray).size:Nat)=a.length:=by show a.toArray.size=_;simp
 have hs2:((⟨b.toArray⟩:ByteArray).size:Nat)=b.length:=by show b.toArray.size=_;simp
 have hap:(⟨a.toArray⟩:ByteArray)++(⟨b.toArray⟩:ByteArray)=⟨(a++b).toArray⟩:=by
  apply ByteArray.ext
  rw [ByteArray.data_append]
  simp
 simp [ho,h1,h2,binOp,Op.stringOp,eqGuard_at_string,hs,hs2,hap,str,show ¬((9223372036854775807:Int)<(a.length:Int)+(b.length:Int)) by omega]
end Go.Proofs.YtppmdnmjepkfaaaGreatDoor
namespace Go.Proofs
open Go.Shelf
end Go.Proofs
namespace Go.Proofs
open Go.Shelf
end Go.Proofs
namespace Go.Proofs
open Go.Shelf
end Go.Proofs
namespace Go.Proofs.YtppmdnmjepkfaaaGreatDoor
open Go.RowKit
section
def G9 (L:List (Kz × Kv)) (k:Kz):Kv:=(CC L k).getD (.slice none 0 0)
theorem LK (L:List (Kz × Kv)) (k k':Kz) (v:Kv):G9 (D9 L k v) k'=if k'=k then v else G9 L k':=by
 unfold G9;rw [G0]
 split<;>rfl
theorem eH {w w':Kw} {base size n:Nat} {e:Ly} {v:Kv} {xs:Kx} (h:w.ownsRow base e size v n xs) (hk:∀b,v.ownBlock=some b→b<w.heap.size→w'.heap[b]?=w.heap[b]?):w'.ownsRow base e size v n xs:=by
 refine ⟨h.1,?_⟩;rcases h.2 with hh|⟨g,cap,cur,rfl,hb,hg,r⟩
 ·exact .inl hh
 exact .inr ⟨g,cap,cur,X,hb,(hk g X (An.1 hg).1).trans hg,r⟩
structure Fam {α:Type} (w:Kw) (base:Nat) (e:Ly) (size:Nat) (cells:α→Kx) (g:Nat) (L:List (Kz × Kv)) (rows:Kz→List α) (bad:Kz→Prop) (F:List Nat):Prop where
 map:Mp w g L
 gF:¬g∈F
 row:∀k,¬bad k→w.ownsRow base e size (G9 L k) (rows k).length (AE cells (rows k))∧∀b,(G9 L k).ownBlock=some b→b∈F
 apart:∀k k' b,¬bad k→¬bad k'→(G9 L k).ownBlock=some b→(G9 L k').ownBlock=some b→k=k'
section
variable {α:Type} {w w' w0:Kw} {base size g:Nat} {e:Ly} {cells:α→Kx} {L:List (Kz × Kv)} {rows:Kz→List α} {bad:Kz→Prop} {F:List Nat} {S:Nat→Prop} {Ls:List As}
theorem Fam.keep (hk:∀b∈g::F,b<w.heap.size→w'.heap[b]?=w.heap[b]?) (h:Fam w base e size cells g L rows bad F):Fam w' base e size cells g L rows bad F:=by
 obtain ⟨⟨es,cl,h1,h2⟩,hg,hr,ha⟩:=h;exact ⟨⟨es,cl,(hk g (by simp) (An.1 h1).1).trans h1,h2⟩,hg,λk hb=>⟨eH (hr k hb).1 (λb hb' hl=>hk b (Ap _ ((hr k hb).2 b hb')) hl),(hr k hb).2⟩,ha⟩
def As.fam {α:Type} (base:Nat) (e:Ly) (size:Nat) (cells:α→Kx) (g:Nat) (L:List (Kz × Kv)) (rows:Kz→List α) (bad:Kz→Prop) (F:List Nat):As:=
 ⟨g::F,λw=>Fam w base e size cells g L rows bad F,λh hb=>hb.keep h⟩
theorem Fam.new (hm:Mp w g []) (base:Nat) (e:Ly) (size:Nat) (cells:α→Kx):Fam w base e size cells g [] (λ_=>[]) (λ_=>False) []:=
 ⟨hm,by simp,λk _=>⟨⟨by simp [AE],.inl ⟨by simp [G9,CC],rfl⟩⟩,λb hb=>by simp [G9,CC,Value.ownBlock] at hb⟩,λk k' b _ _ hb=>by simp [G9,CC,Value.ownBlock] at hb⟩
theorem Mem.split2 {a b c:As} (M:Mem w0 S (c::Ls) w) (ha:a.ok w) (hb:b.ok w) (hfa:∀x∈a.fp,x∈c.fp) (hfb:∀x∈b.fp,x∈c.fp) (hab:∀x∈a.fp,x∉b.fp):Mem w0 S (a::b::Ls) w:=by
 have rest:∀(i:Nat) (d:As),(a::b::Ls)[i+2]?=some d→(c::Ls)[i+1]?=some d:=λi d h=>h
 refine ⟨M.fr,?_,?_,?_⟩
 ·intro i d hi
  match i with
  | 0=>simp only [Ai,Ad] at hi;subst hi;exact ha
  | 1=>simp only [Bn,Ai,Ad] at hi;subst hi;exact hb
  | i+2=>exact M.ok (i+1) d (rest i d hi)
 ·intro i d hi x hx
  match i with
  | 0=>simp only [Ai,Ad] at hi;subst hi;exact M.lt 0 c rfl x (hfa x hx)
  | 1=>simp only [Bn,Ai,Ad] at hi;subst hi;exact M.lt 0 c rfl x (hfb x hx)
  | i+2=>exact M.lt (i+1) d (rest i d hi) x hx
 intro i j d d' hi hj hne x hx hx'
 match i,j with
 | 0,0=>exact hne rfl
 | 1,1=>exact hne rfl
 | 0,1=>
  simp only [Bn,Ai,Ad] at hi hj;subst hi;subst hj
  exact hab x hx hx'
 | 1,0=>
  simp only [Bn,Ai,Ad] at hi hj;subst hi;subst hj
  exact hab x hx' hx
 | 0,j+2=>
  simp only [Ai,Ad] at hi;subst hi
  exact M.apart 0 (j+1) c d' X (rest j d' hj) A0 x (hfa x hx) hx'
 | 1,j+2=>
  simp only [Bn,Ai,Ad] at hi;subst hi
  exact M.apart 0 (j+1) c d' X (rest j d' hj) A0 x (hfb x hx) hx'
 | i+2,0=>
  simp only [Ai,Ad] at hj;subst hj
  exact M.apart (i+1) 0 d c (rest i d hi) X A0 x hx (hfa x hx')
 | i+2,1=>
  simp only [Bn,Ai,Ad] at hj;subst hj
  exact M.apart (i+1) 0 d c (rest i d hi) X A0 x hx (hfb x hx')
 | i+2,j+2=>exact M.apart (i+1) (j+1) d d' (rest i d hi) (rest j d' hj) A0 x hx hx'
theorem Mem.joinFam {a b:As} (M:Mem w0 S (a::b::Ls) w) (c:As) (hok:c.ok w) (hfp:∀x∈c.fp,x∈a.fp∨x∈b.fp):Mem w0 S (c::Ls) w:=by
 have rest:∀(i:Nat) (d:As),(c::Ls)[i+1]?=some d→(a::b::Ls)[i+2]?=some d:=λi d h=>h
 have fp:∀k,k∈c.fp→∃(i:Nat) (d:As),i<2∧(a::b::Ls)[i]?=some d∧k∈d.fp:=λk hk=>by
  rcases hfp k hk with h|h
  ·exact ⟨0,_,by decide,rfl,h⟩
  exact ⟨1,_,by decide,rfl,h⟩
 refine ⟨M.fr,?_,?_,?_⟩
 ·intro i d hi
  cases i with
  | zero=>simp only [Ai,Ad] at hi;subst hi;exact hok
  | succ i=>exact M.ok (i+2) d (rest i d hi)
 ·intro i d hi k hk
  cases i with
  | zero=>
   simp only [Ai,Ad] at hi;subst hi
   obtain ⟨j,f,_,h1,h2⟩:=fp k hk;exact M.lt j f h1 k h2
  | succ i=>exact M.lt (i+2) d (rest i d hi) k hk
 intro i j d f hi hj hne k hk hk'
 cases i with
 | zero=>
  cases j with
  | zero=>exact hne rfl
  | succ j=>
   simp only [Ai,Ad] at hi;subst hi
   obtain ⟨q,d',hq,h1,h2⟩:=fp k hk;exact M.apart q (j+2) d' f h1 (rest j f hj) A0 k h2 hk'
 | succ i=>
  cases j with
  | zero=>
   simp only [Ai,Ad] at hj;subst hj
   obtain ⟨q,d',hq,h1,h2⟩:=fp k hk';exact M.apart (i+2) q d d' (rest i d hi) h1 A0 k hk h2
  | succ j=>exact M.apart (i+2) (j+2) d f (rest i d hi) (rest j f hj) A0 k hk hk'
theorem Mem.famTake (M:Mem w0 S (As.fam base e size cells g L rows (λ_=>False) F::Ls) w) (k0:Kz):∃A C F',G9 L k0=.slice A (rows k0).length C∧Mem w0 S (As.own base e size (.slice A (rows k0).length C) (rows k0).length (AE cells (rows k0))::As.fam base e size cells g L rows (λk=>k=k0) F'::Ls) w:=by
 have h:Fam w base e size cells g L rows (λ_=>False) F:=M.ok 0 _ X;obtain ⟨ho,hF⟩:=h.row k0 (λhh=>hh);obtain ⟨A,C,hv,_⟩:=E8 ho;refine ⟨A,C,F.filter (λb => !(decide ((G9 L k0).ownBlock=some b))),hv,?_⟩;rw [hv] at ho
 refine M.split2 ho (show Fam w base e size cells g L rows (λk=>k=k0) _ from ⟨h.map,λhh=>h.gF (Dg.1 hh).1,λk hk=>⟨(h.row k (λhh=>hh)).1,λb hb=>Dg.2 ⟨(h.row k (λhh=>hh)).2 b hb,?_⟩⟩,λk k' b _ _ hb hb'=>h.apart k k' b (λhh=>hh) (λhh=>hh) hb hb'⟩) ?_ ?_ ?_
 ·simp only [Ek,decide_eq_false_iff_not];exact λhb'=>hk (h.apart k k0 b (λhh=>hh) (λhh=>hh) hb hb')
 ·intro x hx;have hx':(G9 L k0).ownBlock=some x:=by rw [hv];simpa [As.own] using hx
  exact Ap _ (hF x hx')
 ·intro x hx;rcases Ak.1 hx with rfl|hx
  ·exact Bc
  exact Ap _ (Dg.1 hx).1
 intro x hx hx';have h1:(G9 L k0).ownBlock=some x:=by rw [hv];simpa [As.own] using hx
 rcases Ak.1 hx' with rfl|hx'
 ·exact h.gF (hF x h1)
 have:=(Dg.1 hx').2
 simp [h1] at this
theorem Mem.famPut {k0:Kz} {A:Ky} {n C:Nat} {row':List α} (M:Mem w0 S (As.own base e size (.slice A n C) n (AE cells row')::As.fam base e size cells g L rows (λk=>k=k0) F::Ls) w) (hv:G9 L k0=.slice A n C) (hn:n=row'.length) (rows':Kz→List α) (h0:rows' k0=row') (h1:∀k,k≠k0→rows' k=rows k) :
 ∃F',Mem w0 S (As.fam base e size cells g L rows' (λ_=>False) F'::Ls) w:=by
 have h:Fam w base e size cells g L rows (λk=>k=k0) F:=M.ok 1 _ X;have ho:=M.own 0 X
 have hap:∀b,(G9 L k0).ownBlock=some b→¬b∈g::F:=λb hb=>by
  rw [hv] at hb
  exact M.apart 0 1 _ _ X X AV b (by simp [As.own,hb])
 refine ⟨(G9 L k0).ownBlock.toList++F,M.joinFam _ (show Fam w base e size cells g L rows' (λ_=>False) _ from ⟨h.map,?_,?_,?_⟩) ?_⟩
 ·intro hh;rcases Bo.1 hh with hh|hh
  ·exact hap g (by simpa using hh) Bc
  exact h.gF hh
 ·intro k _
  by_cases hk:k=k0
  ·subst hk;rw [h0,hv,←hn];exact ⟨ho,λb hb=>Dt _ (by simpa using hb)⟩
  rw [h1 k hk];exact ⟨(h.row k hk).1,λb hb=>Cr _ ((h.row k hk).2 b hb)⟩
 ·intro k k' b _ _ hb hb'
  by_cases hk:k=k0
  ·by_cases hk':k'=k0
   ·rw [hk,hk']
   subst hk;exact absurd (Ap _ ((h.row k' hk').2 b hb')) (hap b hb)
  by_cases hk':k'=k0
  ·subst hk';exact absurd (Ap _ ((h.row k hk).2 b hb)) (hap b hb')
  exact h.apart k k' b hk hk' hb hb'
 intro x hx;rcases Ak.1 (show x∈g::((G9 L k0).ownBlock.toList++F) from hx) with rfl|hx
 ·exact .inr Bc
 rcases Bo.1 hx with hx|hx
 ·left;rw [hv] at hx;simpa [As.own] using hx
 exact .inr (Ap _ hx)
theorem Mem.putFam {k0:Kz} {v:Kv} (M:Mem w0 S Ls w) (i:Nat) (hi:Ls[i]?=some (As.fam base e size cells g L rows (λk=>k=k0) F)) (hf:Fr (λb=>b=g) w w') (hb:Mp w' g (D9 L k0 v)):Mem w0 S (Ls.set i (As.fam base e size cells g (D9 L k0 v) rows (λk=>k=k0) F)) w':=by
 have h:Fam w base e size cells g L rows (λk=>k=k0) F:=M.ok i _ hi;refine M.upd i hi (hf.mono λk _ e=>by rw [e];exact Bc) _ (show Fam w' base e size cells g (D9 L k0 v) rows (λk=>k=k0) F from ⟨hb,h.gF,λk hk=>?_,λk k' b hk hk' h1 h2=>?_⟩) (λg' hg'=>.inl hg')
 ·rw [LK,if_neg hk];exact ⟨eH (h.row k hk).1 (λb hb' hl=>hf.block b hl (λhh=>h.gF (hh▸(h.row k hk).2 b hb'))),(h.row k hk).2⟩
 rw [LK,if_neg hk] at h1
 rw [LK,if_neg hk'] at h2
 exact h.apart k k' b hk hk' h1 h2
theorem Mem.famMp (M:Mem w0 S Ls w) (i:Nat) (hi:Ls[i]?=some (As.fam base e size cells g L rows bad F)):Mp w g L:=Fam.map (M.ok i _ hi)
end
end
open Go.ChangeShapes Go.WideShapes Go.ChangeAt Go.RowKit Go.Deep
section
section
variable {H:Type} {enc:Ly × Kv→H} {P:Lw} {w:Kw}
def ZY (enc:Ly × Kv→H) (P:Lw) (w:Kw) (t:Ly) (r:Kx) (d:DataW H):Prop:=∃n p,DataW.trod enc P w 0 (λ_=>true) true n t r=some (d,p)
theorem MU {t e sz len cap fuel:Nat} {A:Ky} {x:DataW H × List MemPlace} (ht:P.underlying t=some (.slice e)) (hc:P.cellsOf e=sz) (hpos:0<sz)
 (h:DataW.trod enc P w 0 (λ_=>true) true fuel t [.slice A len cap]=some x) :
 ∃(rows:List Kx) (D:List (DataW H)),rows.length=len∧D.length=len∧All sz rows∧Rd w A (len*sz) rows.flatten∧len≤cap∧cap≤maxLen∧(A=none→cap=0) ∧
  (∀(i:Nat) (r:Kx),rows[i]?=some r→∃d,D[i]?=some d∧ZY enc P w e r d)∧((x.1=.nil∧len=0∧cap=0)∨∃sp,x.1=.slice D sp∧sp.length=cap-len):=by
 rcases open_slice ht h with ⟨hcs,rfl⟩|⟨a,len',cap',m,n,D,Pl,hcs,_,hl,hm,hmm,rfl,hx⟩
 ·simp only [Cs,Value.slice.injEq,and_true] at hcs
  obtain ⟨rfl,rfl,rfl⟩:=hcs;exact ⟨[],[],X,X,All.nil,by rw [Fi];exact Rd.nil,Ab _,Ae _,λ_=>rfl,λi r hr=>by simp at hr,.inl ⟨rfl,rfl,rfl⟩⟩
 simp only [Cs,Value.slice.injEq,and_true] at hcs
 obtain ⟨rfl,rfl,rfl⟩:=hcs;simp only [if_true] at hmm
 subst hmm;obtain ⟨C,hC⟩:=choose_lt (α:=Kx) (p:=λi cs=>w.cells? 0 (a.add (i*P.cellsOf e)) (P.cellsOf e)=some cs∧DataW.trod enc P w 0 (λ_=>true) true n e cs=some (D i,Pl i)) (λi hi=>hx i hi);rw [hc] at hC
 have hrow:∀i,i<len→(C i).length=sz:=λi hi=>(World.cells?_some (hC i A0).1).2.1
 have hall:All sz ((List.range len).map C):=by
  intro r hr;obtain ⟨i,hi,rfl⟩:=Ch.1 hr;exact hrow i (Eu.1 hi)
 refine ⟨(List.range len).map C,(List.range len).map D,by simp,by simp,hall,⟨by rw [ON hall];simp,λh0=>?_⟩,hl,hm,by simp,?_,.inr ⟨_,rfl,by simp⟩⟩
 ·have hlen:0<len:=Nat.pos_of_mul_pos_right h0;obtain ⟨b,off,sp⟩:=a
  have hsp:sp=none:=by
   have h1:=(World.cells?_some (hC 0 A0).1).2.2 0 hpos;have h2:=(World.cells?_some (hC 0 A0).1).2.1;rw [Ao A0] at h1
   cases sp with
   | none=>rfl
   | some s=>
    exfalso
    simp only [Fi,Addr.add,if_true,World.cell?] at h1
    split at h1<;>simp at h1
  subst hsp;refine ⟨b,off,X,λj u hu=>?_⟩;have hj:j<len*sz:=by have:=(Aj.1 hu).1;rw [ON hall] at this;simpa using this
  have hi:j / sz<len:=Nat.div_lt_of_lt_mul (by rw [Gm];exact hj);have hjm:j%sz<sz:=Nat.mod_lt _ hpos;have hat:=bP hall (i:=j / sz) (x:=C (j / sz)) (by rw [Bu,He hi];rfl);have hcell:=(World.cells?_some (hC (j / sz) A0).1).2.2 (j%sz) hjm;rw [←hat,Cb hjm,Bt] at hcell
  have e1:j / sz*sz+j%sz=j:=by rw [Gm];exact Nat.div_add_mod j sz
  rw [e1,hu,Addr.add_mid,Addr.add_mid,Ff,e1] at hcell
  exact hcell
 intro i r hr;have hi:i<len:=by have:=(Aj.1 hr).1;simpa using this
 rw [Bu,He hi] at hr
 simp only [Dc,Ad] at hr
 subst hr;exact ⟨D i,by rw [Bu,He hi];rfl,n,_,(hC i A0).2⟩
theorem cT {n:Int} (h:(Lit.int .u8 n).wf=true):Value.int .u8 n=bv (UInt8.ofNat n.toNat):=by
 have hb:=bounds_u8 h;unfold bv
 congr 1
 rw [UInt8.toNat_ofNat'];omega
end
end
theorem cO {H:Type} {enc:Ly × Kv→H} {C:Checked} {os:Os} {f:FuncId} {fn:Func} {s:OpenSpec} {conds:List PathCond} {apart:Bool} {laid:List (String × DataW Unit)} (modest:Bool) (w0:Kw) (args:Array Kv) (hos:w0.os=os)
 (hv:(w0.forCall (λ_ _=>0) ⟨#[],args,[]⟩).variablesZipB C.prog=true)
 (hr:((w0.forCall (λ_ _=>0) ⟨#[],args,[]⟩).heap.toList.drop C.prog.globals.size).take ((begin C.prog (λ_ _=>0) default).world.heap.size-C.prog.globals.size) =
  (begin C.prog (λ_ _=>0) default).world.heap.toList.drop C.prog.globals.size)
 (hok:Input.okWideB C.prog (w0.forCall (λ_ _=>0) ⟨#[],args,[]⟩) f ⟨#[],args,[]⟩=true)
 (hrow:s.preRow enc C.prog fn conds apart laid (w0.forCall (λ_ _=>0) ⟨#[],args,[]⟩).memory args) :
 ∃(w:Kw) (tape:Tape) (i:Input),w.os=os∧(w.forCall tape i).Shaped C.prog∧i.vars=[]∧Input.okWide C.prog (w.forCall tape i) .any w.heap.size f i ∧
  s.preRow enc C.prog fn conds apart laid (w.forCall tape i).memory i.args∧({ modest:=modest }:Assume).holds C.prog (lone (Frame.enter C.prog f i.args .normal) [] (w.forCall tape i)):=
 ⟨w0,λ_ _=>0,⟨#[],args,[]⟩,hos,World.shaped_of_ZipB hv hr,(Input.okWide_of_okWideB (base:=0) hok).1,(Input.okWide_of_okWideB hok).2,hrow,by
  simp only [Assume.holds];exact ⟨by simp,by simp,λ_=>Modest.zero,by simp,by simp⟩⟩
open Go.RowKit Go.Shelf
open Tryz
def a2M : Ren:=⟨λn=>if n=196 then 115 else 176,
 λn=>if n=0 then 0 else if n=3 then 3 else if n=4 then 4 else if n=5 then 5 else if n=9 then 9 else if n=12 then 12 else if n=46 then 228 else if n=53 then 265 else if n=119 then 139 else if n=138 then 226 else 227,
 λn=>if n=3 then 0 else 1⟩
theorem a2d : Lays.n196 prog a2M where
 mixed:=CA
 f196:=by kernel_rfl
 f259:=by kernel_rfl
 t0:=Hb
 a0:=isAgg0
 z0:=sizeOf0
 v0:=zeroValue0
 t3:=Bg
 a3:=isAgg3
 z3:=sizeOf3
 v3:=zeroValue3
 t4:=Ei
 a4:=isAgg4
 z4:=sizeOf4
 v4:=zeroValue4
 t5:=Bi
 a5:=isAgg5
 z5:=sizeOf5
 v5:=zeroValue5
 t9:=Aa
 a9:=isAgg9
 z9:=sizeOf9
 v9:=zeroValue9
 t12:=underlying12
 a12:=isAgg12
 z12:=sizeOf12
 v12:=zeroValue12
 t46:=Dp
 a46:=isAgg228
 z46:=sizeOf228
 v46:=zeroValue228
 t53:=Hi
 a53:=isAgg265
 z53:=sizeOf265
 v53:=zeroValue265
 t119:=Gf
 a119:=isAgg139
 z119:=sizeOf139
 t138:=Ih
 a138:=isAgg226
 z138:=sizeOf226
 v138:=zeroValue226
 t139:=Ig
 a139:=isAgg227
 z139:=sizeOf227
 v139:=zeroValue227
 g3:=by kernel_rfl
 g4:=by kernel_rfl
theorem jD : (firstZ.map λz=>Value.int .u8 z)=(List.range 256).map λc=>Value.int .u8 (Go.Lib.firstT c:Int):=by kernel_rfl
theorem dM : (pairsZ.flatMap λz=>[Value.int .u8 z.1,Value.int .u8 z.2])=(List.range 32).map λj=>Value.int .u8 (if j%2=0 then (Go.Lib.accLo (j / 2):Int) else (Go.Lib.accHi (j / 2):Int)):=by kernel_rfl
theorem Laid.tabs {w:Kw} (h:Laid w utfL):Go.Lib.Utf8Tabs 0 1 w:=by
 obtain ⟨el,fz,h1⟩:=h _ (Bc);obtain ⟨el',fz',h2⟩:=h _ (Ap _ Bc)
 simp only at h1 h2
 rw [jD] at h1
 rw [dM] at h2
 refine ⟨λc hc=>?_,λi hi=>⟨?_,?_⟩⟩
 ·simp [World.cell?,h1,hc]
 ·have e1:2*i%2=0:=by omega
  have e2:2*i / 2=i:=by omega
  have e3:2*i<32:=by omega
  simp [World.cell?,h2,e1,e2,e3]
 have e1:(2*i+1)%2=1:=by omega
 have e2:(2*i+1) / 2=i:=by omega
 have e3:2*i+1<32:=by omega
 simp [World.cell?,h2,e1,e2,e3]
theorem Laid.fr {w w':Kw} {L:List (Nat × Kx)} (h:Laid w L) (hf:Fr0 w w'):Laid w' L:=λp hp=>by
 obtain ⟨el,fz,h1⟩:=h p hp;exact ⟨el,fz,(hf.block _ (An.1 h1).1 (λhh=>hh)).trans h1⟩
theorem Fr0.of_below {w w':Kw} (h:Below w.heap.size w w'):Fr0 w w':=⟨h.os,h.tape,h.output,h.size,λk hk _=>h.block k hk⟩
theorem pT (l:Kz) (w:Kw) (hm:(l.length:Int)<4611686018427387904) (hT:Laid w utfL):Calls prog 115 #[str l] w (BS w (.bool (utf l))):=by
 have hs:(ByteArray.mk l.toArray).size=l.length:=by show l.toArray.size=_;simp
 have h:=Any.utf8_ValidString a2d ⟨l.toArray⟩ w A0 hT.tabs;refine h.mono λe w' ⟨he,hb⟩=>⟨?_,Fr0.of_below hb⟩
 rw [he]
 have:(ByteArray.mk l.toArray).data.toList=l:=X
 rw [this,gS l.length l (Ab _)]
theorem N9 (l:Kz) (w:Kw) (hm:(l.length:Int)<4611686018427387904) (hT:Laid w utfL):Calls prog 67 #[str l] w (BS w (.bool (utf l))):=by
 refine sx_enter (vs:=[_]) func67 X ntmps67 X (W ?_);refine sxl_call (some 4) (by first|exact wn_none rfl|exact wn_on rfl rfl rfl) X X (AD X X call115) (pT l _ hm hT) ?_;rintro _ w1 ⟨rfl,hf1⟩;refine cq (W ?_);exact gr1 X ⟨X,hf1⟩
end Go.Proofs.YtppmdnmjepkfaaaGreatDoor
