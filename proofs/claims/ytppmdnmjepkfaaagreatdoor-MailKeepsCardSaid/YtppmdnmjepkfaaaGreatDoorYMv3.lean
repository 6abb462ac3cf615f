/- Lemmas. -/
import Derived.Test.YtppmdnmjepkfaaaGreatDoorYMv2
set_option maxHeartbeats 16000000
set_option maxRecDepth 100000
namespace Go.Proofs.YtppmdnmjepkfaaaGreatDoor
open Go.RowKit
open Tryz
open Decidable renaming decide→O
open Option renaming some→G,none→zx
open Bool renaming true→zz,false→zy
open Go.Proofs.Tryz renaming prog→zv
open Go renaming Calls→zt
def GI (k:Kz) (seen:List Kz):Bool:=B5 k && !(O (k∈seen))
def Fresh (w:Kw) (g3 g6:Nat) (seen:List Kz):Prop:=Blk w g3 143 [.map (G g6)]∧¬g3=g6∧∃L,Mp w g6 L∧∀k,(CG L k).getD (.bool zy)=.bool (O (k∈seen))
theorem TX {L:List (Kz × Kv)} {seen:List Kz} {k:Kz} (hL:∀k,(CG L k).getD (.bool zy)=.bool (O (k∈seen))):∀k',(CG (DG L k (.bool zz)) k').getD (.bool zy)=.bool (O (k'∈k::seen)):=λk'=>by
 rw [G6]
 by_cases h:k'=k
 ·rw [Ac h];simp [h]
 rw [Ae h,hL];simp [h]
theorem uF {w:Kw} {g:Nat} {L:List (Kz × Kv)} (h:Mp w g L):g<w.heap.size:=by
 obtain ⟨es,cl,h1,_⟩:=h;exact (Ar.1 h1).1
theorem Mem.cellMp {w:Kw} {g3 g6 t:Nat} {cs:Kx} {L:List (Kz × Kv)} (hc:Blk w g3 t cs) (hm:Mp w g6 L) (hne:¬g3=g6):Mem w (λk=>k=g3∨k=g6) [As.blk g3 t cs,As.mp g6 L] w where
 fr:=Fr.refl
 ok i a hi:=by
  match i with
  | 0=>simp only [Ak,Ai] at hi;subst hi;exact hc
  | 1=>simp only [Bq,Ak,Ai] at hi;subst hi;exact hm
  | i+2=>simp at hi
 lt i a hi g hg:=by
  match i with
  | 0=>
   simp only [Ak,Ai] at hi;subst hi
   simp only [As.blk,Au] at hg;subst hg;exact ⟨hc.lt,.inr (.inl rfl)⟩
  | 1=>
   simp only [Bq,Ak,Ai] at hi;subst hi
   simp only [As.mp,Au] at hg;subst hg;exact ⟨uF hm,.inr (.inr rfl)⟩
  | i+2=>simp at hi
 apart i j a b hi hj hij g hg hg':=by
  match i,j with
  | 0,0=>exact hij rfl
  | 1,1=>exact hij rfl
  | 0,1=>
   simp only [Bq,Ak,Ai] at hi hj;subst hi;subst hj
   simp only [As.blk,As.mp,Au] at hg hg';exact hne (hg▸hg')
  | 1,0=>
   simp only [Bq,Ak,Ai] at hi hj;subst hi;subst hj
   simp only [As.blk,As.mp,Au] at hg hg';exact hne (hg'▸hg)
  | i+2,_=>simp at hi
  | 0,j+2=>simp at hj
  | 1,j+2=>simp at hj
theorem Mem.neMp {w0 w:Kw} {S:Nat→Prop} {L:List As} (M:Mem w0 S L w) (i j:Nat) {a b t:Nat} {cs:Kx} {K:List (Kz × Kv)} (hi:L[i]?=G (As.blk a t cs)) (hj:L[j]?=G (As.mp b K)) (h:i≠j):¬a=b:=λe=>
 M.apart i j _ _ hi hj h a (by simp [As.blk]) (by simp [As.mp,e])
theorem Fresh.keep {w w':Kw} {g3 g6:Nat} {seen:List Kz} (hk:∀g∈[g3,g6],g<w.heap.size→w'.heap[g]?=w.heap[g]?) (h:Fresh w g3 g6 seen):Fresh w' g3 g6 seen:=by
 obtain ⟨hc,hne,L,⟨es,cl,h1,h2⟩,hL⟩:=h;exact ⟨(hk g3 (by simp) hc.lt).trans hc,hne,L,⟨es,cl,(hk g6 (by simp) (Ar.1 h1).1).trans h1,h2⟩,hL⟩
def As.fresh (g3 g6:Nat) (seen:List Kz):As:=⟨[g3,g6],λw=>Fresh w g3 g6 seen,λh hb=>hb.keep h⟩
theorem Mem.oneFresh {w:Kw} {g3 g6:Nat} {seen:List Kz} (h:Fresh w g3 g6 seen):Mem w (λk=>k=g3∨k=g6) [As.fresh g3 g6 seen] w where
 fr:=Fr.refl
 ok i a hi:=by
  cases i with
  | zero=>simp only [Ak,Ai] at hi;subst hi;exact h
  | succ i=>simp at hi
 lt i a hi g hg:=by
  cases i with
  | zero=>
   simp only [Ak,Ai] at hi;subst hi
   obtain ⟨hc,_,L,hm,_⟩:=h;simp only [As.fresh,Ao,Ba,or_false] at hg
   rcases hg with rfl|rfl
   ·exact ⟨hc.lt,.inr (.inl X)⟩
   exact ⟨uF hm,.inr (.inr X)⟩
  | succ i=>simp at hi
 apart i j a b hi hj hij:=by
  cases i with
  | zero=>cases j with
   | zero=>exact absurd rfl hij
   | succ j=>simp at hj
  | succ i=>simp at hi
theorem Mem.updFresh {w0 w w':Kw} {S:Nat→Prop} {L:List As} (M:Mem w0 S L w) (i:Nat) {g3 g6:Nat} {seen seen':List Kz} (hi:L[i]?=G (As.fresh g3 g6 seen)) (hF:Fresh w' g3 g6 seen') (hf:Fr (λk=>k=g3∨k=g6) w w'):Mem w0 S (L.set i (As.fresh g3 g6 seen')) w':=
 M.upd i hi (hf.mono λk _ e=>by simpa [As.fresh] using e) (As.fresh g3 g6 seen') hF (λg' hg'=>.inl hg')
def aS (k:Nat):Prop:=∃p∈utfL,p.1=k
theorem P2 {S:Nat→Prop} {w w':Kw} (h:Laid w utfL) (hf:Fr S w w') (hS:∀k,S k→¬aS k):Laid w' utfL:=λp hp=>by
 obtain ⟨el,fz,h1⟩:=h p hp;exact ⟨el,fz,(hf.block _ (Ar.1 h1).1 (λhh=>hS _ hh ⟨p,hp,X⟩)).trans h1⟩
theorem IW : (zv.info? 143).map (·.size)=G 1:=zr
theorem RC : (zv.info? 4).map (·.zero)=G (G (.bool zy)):=zr
theorem IT : (zv.info? 143).map (·.zero)=G (G (.map zx)):=zr
theorem TZ (g3 g6:Nat) (seen:List Kz) (k:Kz) (w:Kw) (hk:(k.length:Int)<4611686018427387904) (hF:Fresh w g3 g6 seen) :
 zt zv 177 #[str k,pg g3] w λe w'=>e=.returned (.bool (GI k seen))∧Fresh w' g3 g6 (k::seen)∧Fr (λk=>k=g3∨k=g6) w w':=by
 obtain ⟨hc,hne,L,hm,hL⟩:=hF;refine sx_enter (vs:=[_,_]) func177 X ntmps177 X ?_;have M:Mem w (λk=>k=g3∨k=g6) [As.blk g3 143 [.map (G g6)],As.mp g6 L] w:=Mem.cellMp hc hm hne;refine W ?_;refine CQ M 6 X X call37 (E8 _ _ (by first|assumption|omega)) λw1 M=>yb X (fvm M 5 [1,0] [(12,.bool ((B5 k)&&(!(O (k∈seen)))))] ?_ (λk7=>?_))
 ·intro w2 M;refine W ?_;refine GR M 1 kw X X X X X Em Ad X λw3 M=>W ?_
  exact gr1 X ⟨X,⟨M.blk 0 X,hne,_,M.mp 1 X,TX hL⟩,M.fr⟩
 refine A1 (d:=7) X (λh7=>?_) (λh7=>?_)
 ·refine W ?_;refine yd X (CH X X X Em Ad RC (M.mp 1 X) (hL _)) (T2 ?_);exact k7 M
 refine T5 ?_;exact k7 M
theorem ZE (A:Ky) (c:Nat) (tk:List Kz) (w:Kw) (hl:tk.length≤4611686018427387904) (hR:Rd w A (tk.length*1) (AF BH tk)) :
 zt zv 117 #[.slice A tk.length c] w λe w'=>∃g3 g6,e=.returned (.func (.func 177) #[] #[pg g3])∧Fresh w' g3 g6 tk.reverse∧(∀k∈[g3,g6],w.heap.size≤k∧k<w'.heap.size)∧Fr0 w w':=by
 refine BO func117 ntmps117 X λM=>W ?_
 refine K9 M kw X X X λg6 w1 hg6 M=>G9 M kw X X 143 X [.map zx] IT X λg3 w2 hg3 M=>gp1 M 0 X X X IW λw3 M=>W ?_
 refine flp [8,7,3] (λze e wr mz=>∃(i:Nat) (L:List (Kz × Kv)),e=(9,AA (i:Int))::ze∧Mem w AR [As.blk g3 143 [.map (G g6)],As.mp g6 L] wr∧(i≤tk.length)∧(∀k,(CG L k).getD (.bool zy)=.bool (O (k∈(tk.take i).reverse)))∧mz=tk.length-i) ⟨0,[],X,M,Aj _,λ_=>X,X⟩ ?_;rintro _ w4 _ ⟨i,L,rfl,M,hi,hL,rfl⟩;refine W ?_;refine AC X (λh10=>?_) (λh10=>?_)
 ·have h10p:=odt h10;refine W ?_;obtain ⟨x,_,_,hx,hA_x⟩:=ex5 (i:=i) (hR.fr0 M.fr);refine ya X (AK i hA_x X X X (sl X) A0) (yl X X (BC DN (hR.fr0 M.fr) hA_x hx 0 X) (W ?_));refine GR M 1 kw X X X X X Em Ad X λw5 M=>W ?_
  refine fag ⟨i+1,DG L x (.bool zz),X,M,?_,?_,X⟩
  ·omega
  rw [AT hx,List.reverse_append];exact TX hL
 have h10p:=odf h10;refine W ?_;have hiE:i=tk.length:=A0
 rw [hiE,Bc] at hL
 refine W ?_;refine ya X (D8 (us:=[]) (vs:=[pg g3]) X X X) (W ?_);refine gr1 X ?_
 exact ⟨_,_,X,⟨M.blk 0 X,M.neMp 0 1 X X AV,_,M.mp 1 X,hL⟩,(λk hk=>by
  rcases Ao.1 hk with rfl|hk
  ·exact M.new0 0 X k (by simp [As.blk])
  obtain rfl:k=_:=by simpa using hk
  exact M.new0 1 X _ (by simp [As.mp])),M.fr⟩
theorem a01 (g3 g6 g5:Nat) (seen:List Kz) (x:Bd) (w:Kw) (hx0:((x.name).length:Int)<4611686018427387904) (hx1:((x.v.text).length:Int)<4611686018427387904) (hT:Laid w utfL) (hTn:∀k,(λk=>k=g3∨k=g6) k→¬aS k) (hF:Fresh w g3 g6 seen) (hn5:¬(g5=g3∨g5=g6)) (hb5:Blk w g5 91 [.func (.func 177) #[] #[pg g3]]) :
 zt zv 120 #[.agg x.cells.toArray,pg g5] w λe w'=>e=.returned (.bool (GI x.name seen&&O (chk x.v=(0:Int))))∧Fresh w' g3 g6 (x.name::seen)∧Fr (λk=>k=g3∨k=g6) w w':=by
 refine sx_enter (vs:=[_,_]) func120 X ntmps120 X ?_;have M:Mem w (λk=>k=g3∨k=g6) [As.fresh g3 g6 seen] w:=Mem.oneFresh hF;refine W ?_;refine CU M X X λg2 w1 hg2 M=>T5 ?_
 refine yl X X (Blk.c (hb5.fr M.fr hn5) 0 X) (W ?_);refine cl 7 X (C7 X X X call177) (TZ g3 g6 seen x.name _ hx0 (M.ok 1 _ X)) ?_;rintro _ w2 ⟨rfl,hFw2,hfw2⟩;have M:=M.updFresh 1 X hFw2 hfw2;refine cq (yb X (fvm M 5 [3] [(13,.bool ((GI x.name seen)&&(O ((chk (⟨x.v.kind,x.v.int,x.v.bool,x.v.text⟩:Vl))=(0:Int)))))] ?_ (λk8=>?_)))
 ·intro w3 M;refine W ?_;exact gr1 X ⟨X,M.ok 1 _ X,M.fr⟩
 refine A1 (d:=8) X (λh8=>?_) (λh8=>?_)
 ·refine gyq X (yd X (AJ (xs:=[.int .u8 (x.v.kind.toNat:Int),AA x.v.int,.bool x.v.bool,str x.v.text]) X X (DO (M.blk 0 X) 1 4 X X) By X BM) (sxl_call (G 11) kw X X (AE X X call38) (J1 (⟨x.v.kind,x.v.int,x.v.bool,x.v.text⟩:Vl) _ hx1 (P2 hT M.fr hTn)) ?_));rintro _ w4 ⟨rfl,hfw4⟩;refine cq ?_;have M:=M.step hfw4;refine T2 ?_;exact k8 M
 refine T5 ?_;exact k8 M
theorem a00 (g3 g6 g5:Nat) (seen:List Kz) (x:El) (w:Kw) (hx0:((x.id).length:Int)<4611686018427387904) (hx1:((x.nm).length:Int)<4611686018427387904) (hT:Laid w utfL) (hTn:∀k,(λk=>k=g3∨k=g6) k→¬aS k) (hF:Fresh w g3 g6 seen) (hn5:¬(g5=g3∨g5=g6)) (hb5:Blk w g5 91 [.func (.func 177) #[] #[pg g3]]) :
 zt zv 123 #[.agg x.cells.toArray,pg g5] w λe w'=>e=.returned (.bool (GI x.id seen&&RI x.nm))∧Fresh w' g3 g6 (x.id::seen)∧Fr (λk=>k=g3∨k=g6) w w':=by
 refine sx_enter (vs:=[_,_]) func123 X ntmps123 X ?_;have M:Mem w (λk=>k=g3∨k=g6) [As.fresh g3 g6 seen] w:=Mem.oneFresh hF;refine W ?_;refine CU M X X λg2 w1 hg2 M=>T5 ?_
 refine yl X X (Blk.c (hb5.fr M.fr hn5) 0 X) (W ?_);refine cl 7 X (C7 X X X call177) (TZ g3 g6 seen x.id _ hx0 (M.ok 1 _ X)) ?_;rintro _ w2 ⟨rfl,hFw2,hfw2⟩;have M:=M.updFresh 1 X hFw2 hfw2;refine cq (yb X (fvm M 4 [3] [(12,.bool ((GI x.id seen)&&(RI x.nm)))] ?_ (λk8=>?_)))
 ·intro w3 M;refine W ?_;exact gr1 X ⟨X,M.ok 1 _ X,M.fr⟩
 refine A1 (d:=8) X (λh8=>?_) (λh8=>?_)
 ·refine W ?_;refine sxl_call (G 11) kw X X (AE X X call116) (lK _ _ hx1 (P2 hT M.fr hTn)) ?_;rintro _ w4 ⟨rfl,hfw4⟩;refine cq ?_;have M:=M.step hfw4;exact yb X (k8 M)
 refine T4 ?_;exact k8 M
theorem zZ (g3 g6 g5:Nat) (seen:List Kz) (x:Fl) (w:Kw) (hx0:((x.id).length:Int)<4611686018427387904) (_hT:Laid w utfL) (_hTn:∀k,(λk=>k=g3∨k=g6) k→¬aS k) (hF:Fresh w g3 g6 seen) (hn5:¬(g5=g3∨g5=g6)) (hb5:Blk w g5 91 [.func (.func 177) #[] #[pg g3]]) :
 zt zv 126 #[.agg x.cells.toArray,pg g5] w λe w'=>e=.returned (.bool (GI x.id seen))∧Fresh w' g3 g6 (x.id::seen)∧Fr (λk=>k=g3∨k=g6) w w':=by
 refine sx_enter (vs:=[_,_]) func126 X ntmps126 X ?_;have M:Mem w (λk=>k=g3∨k=g6) [As.fresh g3 g6 seen] w:=Mem.oneFresh hF;refine W ?_;refine CU M X X λg2 w1 hg2 M=>T5 ?_
 refine yl X X (Blk.c (hb5.fr M.fr hn5) 0 X) (W ?_);refine cl 7 X (C7 X X X call177) (TZ g3 g6 seen x.id _ hx0 (M.ok 1 _ X)) ?_;rintro _ w2 ⟨rfl,hFw2,hfw2⟩;have M:=M.updFresh 1 X hFw2 hfw2;refine cq (W ?_);exact gr1 X ⟨X,M.ok 1 _ X,M.fr⟩
section
def G0 {α:Type} (f:α→Kz) (base:List Kz) (l:List α) (i:Nat):List Kz:=((l.take i).map f).reverse++base
theorem QN {α:Type} {f:α→Kz} {base:List Kz} {l:List α} {i:Nat} {x:α} (hx:l[i]?=G x):G0 f base l (i+1)=f x::G0 f base l i:=by
 unfold G0;rw [AT hx,Bu,List.reverse_append];rfl
def pV (m:Md) (i:Nat) (x:Bd):Bool:=GI x.name (G0 (λx=>x.name) [] m.vars i)&&O (chk x.v=(0:Int))
def pE (m:Md) (i:Nat) (x:El):Bool:=GI x.id (G0 (λx=>x.id) [m.id] m.els i)&&RI x.nm
def pF (m:Md) (i:Nat) (x:Fl):Bool:=GI x.id (G0 (λx=>x.id) (G0 (λx=>x.id) [m.id] m.els m.els.length) m.fls i)
def QP (m:Md):Bool:=(((((!(B5 m.id)) || (!(RI m.nm))) || (O ((64:Int)<((m.els.length:Nat):Int)))) || (O ((128:Int)<((m.fls.length:Nat):Int)))) || (O ((16:Int)<((m.vars.length:Nat):Int))))
def FN (m:Md):Option Kz:=if QP m=zz then G [] else match ffN (pV m) 0 m.vars with
 | some b=>G b.name
 | none=>match ffN (pE m) 0 m.els with
  | some b=>G b.id
  | none=>(ffN (pF m) 0 m.fls).map (·.id)
section
variable {m:Md} (h:QP m=zy)
include h
theorem a3e (h1:(ffN (pV m) 0 m.vars).isSome=zz):Value.tuple #[str ((ffN (pV m) 0 m.vars).elim [] (λx=>x.name)),.bool zz]=MT (FN m):=by
 unfold FN;rw [AN h]
 cases hq:ffN (pV m) 0 m.vars with
 | none=>rw [hq] at h1;cases h1
 | some b=>rfl
theorem a3g (h1:(ffN (pV m) 0 m.vars).isSome=zy) (h2:(ffN (pE m) 0 m.els).isSome=zz):Value.tuple #[str ((ffN (pE m) 0 m.els).elim [] (λx=>x.id)),.bool zz]=MT (FN m):=by
 unfold FN;rw [AN h]
 cases hq:ffN (pV m) 0 m.vars with
 | some b=>rw [hq] at h1;cases h1
 | none=>
  cases hr:ffN (pE m) 0 m.els with
  | none=>rw [hr] at h2;cases h2
  | some b=>rfl
theorem a3f (h1:(ffN (pV m) 0 m.vars).isSome=zy) (h2:(ffN (pE m) 0 m.els).isSome=zy):Value.tuple #[str ((ffN (pF m) 0 m.fls).elim [] (λx=>x.id)),.bool (ffN (pF m) 0 m.fls).isSome]=MT (FN m):=by
 unfold FN;rw [AN h]
 cases hq:ffN (pV m) 0 m.vars with
 | some b=>rw [hq] at h1;cases h1
 | none=>
  cases hr:ffN (pE m) 0 m.els with
  | some b=>rw [hr] at h2;cases h2
  | none=>cases ffN (pF m) 0 m.fls<;>rfl
end
theorem mH {α:Type} {p:Nat→α→Bool}:∀(l:List α) (i:Nat),ffN p i l=zx→ixN (λi x => !(p i x)) i l=i+l.length
 | [],_,_=>rfl
 | x::r,i,h=>by
  rw [ffN] at h
  by_cases hp:p i x=zz
  ·rw [Ac hp] at h
   rw [ixN,Ae (by simp [hp]),mH r (i+1) h,Al];omega
  rw [Ae hp] at h;cases h
theorem a0m {α:Type} {p:Nat→α→Bool} {l:List α} (h:(ffN p 0 l).isSome=zy):ixN (λi x => !(p i x)) 0 l=l.length:=by
 have:ffN p 0 l=zx:=by
  cases hq:ffN p 0 l with
  | none=>rfl
  | some x=>rw [hq] at h;cases h
 rw [mH l 0 this,Cr]
theorem I1 {w wc w9:Kw} {S:Nat→Prop} (hf:Fr0 w wc) (h9:Fr S wc w9) (hS:∀k,S k→w.heap.size≤k):Fr0 w w9:=
 ⟨h9.os.trans hf.os,h9.tape.trans hf.tape,h9.output.trans hf.output,Bh hf.size h9.size,λk hk _=>(h9.block k (Ce hk hf.size) (λhh=>by have:=hS k hh;omega)).trans (hf.block k hk (λhh=>hh))⟩
theorem xV {k:Nat} (h:aS k):k<nGlob:=by
 have hn:=fM;simp only [Bn] at hn
 obtain ⟨n1,n2,_,_⟩:=hn;obtain ⟨p,hp,rfl⟩:=h;simp only [utfL,Ao,Ba,or_false] at hp
 rcases hp with rfl|rfl
 ·exact D6 n1
 exact D6 n2
theorem Mem.newF {w0 w:Kw} {L:List As} (M:Mem w0 AR L w) (i:Nat) {g3 g6:Nat} {seen:List Kz} (hi:L[i]?=G (As.fresh g3 g6 seen)):∀k,(k=g3∨k=g6)→w0.heap.size≤k:=λk hk=>
 (M.new0 i hi k (by simpa [As.fresh] using hk)).1
theorem Mem.noU {w0 w:Kw} {L:List As} (M:Mem w0 AR L w) (i:Nat) {g3 g6:Nat} {seen:List Kz} (hi:L[i]?=G (As.fresh g3 g6 seen)) (hY:Lay0 w0):∀k,(k=g3∨k=g6)→¬aS k:=λk hk hu=>by
 have h1:=M.newF i hi k hk;have h2:nGlob≤w0.heap.size:=hY.size;have h3:=xV hu;omega
theorem Mem.neFresh {w0 w:Kw} {S:Nat→Prop} {L:List As} (M:Mem w0 S L w) (i j:Nat) {g t g3 g6:Nat} {cs:Kx} {seen:List Kz} (hi:L[i]?=G (As.blk g t cs)) (hj:L[j]?=G (As.fresh g3 g6 seen)) (h:i≠j):¬(g=g3∨g=g6):=λhh=>
 M.apart i j _ _ hi hj h g (by simp [As.blk]) (by simpa [As.fresh] using hh)
section
variable {g3 g6 g5:Nat} {base:List Kz} {w:Kw}
theorem TY (hF:Fresh w g3 g6 base):∀g,(g=g3∨g=g6)→g<w.heap.size:=λg hg=>by
 obtain ⟨h1,_,L,h2,_⟩:=hF;rcases hg with rfl|rfl
 ·exact h1.lt
 exact uF h2
theorem tM {l:List Bd} (hok:BdOk l) (hT:Laid w utfL) (hF:Fresh w g3 g6 base) (hnu:∀k,(k=g3∨k=g6)→¬aS k) (hn5:¬(g5=g3∨g5=g6)) (hb5:Blk w g5 91 [.func (.func 177) #[] #[pg g3]]) :
 PredJ zv 120 [pg g5] (λx:Bd=>.agg x.cells.toArray) l (λi x=>GI x.name (G0 (λx=>x.name) base l i)&&O (chk x.v=(0:Int))) (λk=>k=g3∨k=g6) (λi W=>Fresh W g3 g6 (G0 (λx=>x.name) base l i)) w where
 fn:=call120
 call i x w1 hx hf hJ:=by
  have hm:=Ah hx;have h:=a01 g3 g6 g5 (G0 (λx=>x.name) base l i) x w1 (hok.name x hm) (hok.text x hm) (P2 hT hf hnu) hnu hJ hn5 (hb5.fr hf hn5);rw [←QN (f:=λx:Bd=>x.name) (base:=base) hx] at h
  exact h
 st i w1 w2 hf hJ:=hJ.keep (λg _ hg=>hf.block g hg (λhh=>hh))
 old:=TY hF
theorem tL {l:List El} (hok:∀x∈l,ElOk x) (hT:Laid w utfL) (hF:Fresh w g3 g6 base) (hnu:∀k,(k=g3∨k=g6)→¬aS k) (hn5:¬(g5=g3∨g5=g6)) (hb5:Blk w g5 91 [.func (.func 177) #[] #[pg g3]]) :
 PredJ zv 123 [pg g5] (λx:El=>.agg x.cells.toArray) l (λi x=>GI x.id (G0 (λx=>x.id) base l i)&&RI x.nm) (λk=>k=g3∨k=g6) (λi W=>Fresh W g3 g6 (G0 (λx=>x.id) base l i)) w where
 fn:=call123
 call i x w1 hx hf hJ:=by
  have hm:=Ah hx;have h:=a00 g3 g6 g5 (G0 (λx=>x.id) base l i) x w1 (hok x hm).id (hok x hm).nm (P2 hT hf hnu) hnu hJ hn5 (hb5.fr hf hn5);rw [←QN (f:=λx:El=>x.id) (base:=base) hx] at h
  exact h
 st i w1 w2 hf hJ:=hJ.keep (λg _ hg=>hf.block g hg (λhh=>hh))
 old:=TY hF
theorem tK {l:List Fl} (hok:∀x∈l,FlOk x) (hT:Laid w utfL) (hF:Fresh w g3 g6 base) (hnu:∀k,(k=g3∨k=g6)→¬aS k) (hn5:¬(g5=g3∨g5=g6)) (hb5:Blk w g5 91 [.func (.func 177) #[] #[pg g3]]) :
 PredJ zv 126 [pg g5] (λx:Fl=>.agg x.cells.toArray) l (λi x=>GI x.id (G0 (λx=>x.id) base l i)) (λk=>k=g3∨k=g6) (λi W=>Fresh W g3 g6 (G0 (λx=>x.id) base l i)) w where
 fn:=call126
 call i x w1 hx hf hJ:=by
  have hm:=Ah hx;have h:=zZ g3 g6 g5 (G0 (λx=>x.id) base l i) x w1 (hok x hm).id (P2 hT hf hnu) hnu hJ hn5 (hb5.fr hf hn5);rw [←QN (f:=λx:Fl=>x.id) (base:=base) hx] at h
  exact h
 st i w1 w2 hf hJ:=hJ.keep (λg _ hg=>hf.block g hg (λhh=>hh))
 old:=TY hF
end
theorem IB : (zv.info? 91).map (·.size)=G 1:=zr
theorem IA : (zv.info? 91).map (·.zero)=G (G (.nilFunc)):=zr
theorem zY (m:Md) (a:MdA) (ix:IxA) (gx:Nat) (w:Kw) (ho:MdB m) (hx:IxAt w m a ix gx) (hY:Lay0 w) :
 zt zv 69 #[pg gx] w (BR w (MT (FN m))):=by
 refine BO func69 ntmps69 X λM=>W ?_
 refine ya X (AJ (xs:=[str m.id,str m.nm,.slice a.V m.vars.length a.vc,.slice a.E m.els.length a.ec,.slice a.F m.fls.length a.fc]) X X (DO ((hx.fr0 M.fr).blk) 0 5 X X) Ap X AO) (CE M X NN λg4 w1 hg4 M=>BX M 0 X X AO X λw2 M=>W ?_);refine CQ M 17 X X call37 (E8 _ _ ho.id) λw3 M=>W ?_
 refine fvm M 5 [4] [(24,.bool ((!(B5 m.id)) || (!(RI m.nm))))] ?_ (λk19=>?_)
 ·intro w4 M;refine yb X (fvm M 5 [4] [(30,.bool (((!(B5 m.id)) || (!(RI m.nm))) || (O (64<(m.els.length:Int)))))] ?_ (λk25=>?_))
  ·intro w5 M;refine yb X (fvm M 5 [4] [(36,.bool ((((!(B5 m.id)) || (!(RI m.nm))) || (O (64<(m.els.length:Int)))) || (O (128<(m.fls.length:Int)))))] ?_ (λk31=>?_))
   ·intro w6 M;refine yb X (fvm M 5 [4] [(42,.bool (((((!(B5 m.id)) || (!(RI m.nm))) || (O (64<(m.els.length:Int)))) || (O (128<(m.fls.length:Int)))) || (O (16<(m.vars.length:Int)))))] ?_ (λk37=>?_))
    ·intro w7 M;refine W ?_;refine AC X (λh42=>?_) (λh42=>?_)
     ·have h42p:=bd h42;refine W ?_;exact B1 X X X ⟨by rw [show FN m=G [] from Ac h42];rfl,M.fr⟩
     have h42p:=bd h42;refine W ?_;refine cl 43 X (AE X X call117) (ZE zx 0 [] _ (Aj _) Rd.nil) ?_;rintro _ w8 ⟨ga43,gb43,rfl,hfr,hnw,hfw8⟩;refine cq ?_;have M:=M.push hfw8 (As.fresh ga43 gb43 []) hfr hnw;refine G9 M kw X X 91 X [.nilFunc] IA X λg5 w9 hg5 M=>FK (cs':=[.func (.func 177) #[] #[pg ga43]]) M 0 kw X X X X X X X IB (D6 X) X λw10 M=>W ?_
     refine ya X (D8 (us:=[]) (vs:=[pg g5]) X X X) ?_;have hnU48:=M.noU 1 X hY;have hnw48:∀k,(k=ga43∨k=gb43)→w.heap.size≤k:=M.newF 1 X
     refine cl 48 X (AE X X call118) (vY a.V a.vc m.vars (by have:=ho.nvars;have:=ho.nels;have:=ho.nfls;omega) 120 [pg g5] (pV m) (λk=>k=ga43∨k=gb43) (λi W=>Fresh W ga43 gb43 (G0 (λx:Bd=>x.name) [] m.vars i)) _ (tM ho.vars (GC hY.utf M.fr) (M.ok 1 _ X) hnU48 (M.neFresh 0 1 X X AV) (M.blk 0 X)) (λw9 hf9=>hx.md.vars.fr0 (I1 M.fr hf9 hnw48)) (M.ok 1 _ X)) ?_;rintro _ w11 ⟨rfl,hJw11,hfw11⟩;have M:=M.updFresh 1 X hJw11 hfw11;refine cq (W ?_);refine AC X (λh51=>?_) (λh51=>?_)
     ·refine W ?_;exact B1 X X X ⟨Bf Ending.returned (a3e h42 h51),M.fr⟩
     refine W ?_;refine CP M kw X X [str m.id] ([str m.id]) X X X X Be CK X X (FZ X) X λg55 w12 hg55 M=>cl 56 X (AE X X call117) (ZE (G ⟨g55,0,zx⟩) 1 [m.id] _ (CM X) (M.rdBlk 0 X X)) ?_
     rintro _ w13 ⟨ga56,gb56,rfl,hfr,hnw,hfw13⟩;refine cq ?_;have M:=M.push hfw13 (As.fresh ga56 gb56 [m.id]) hfr hnw;refine G9 M kw X X 91 X [.nilFunc] IA X λg8 w14 hg8 M=>FK (cs':=[.func (.func 177) #[] #[pg ga56]]) M 0 kw X X X X X X X IB (D6 X) X λw15 M=>W ?_
     refine ya X (D8 (us:=[]) (vs:=[pg g8]) X X X) ?_;have hnU61:=M.noU 1 X hY;have hnw61:∀k,(k=ga56∨k=gb56)→w.heap.size≤k:=M.newF 1 X
     refine cl 61 X (AE X X call121) (gL a.E a.ec m.els (by have:=ho.nvars;have:=ho.nels;have:=ho.nfls;omega) 123 [pg g8] (pE m) (λk=>k=ga56∨k=gb56) (λi W=>Fresh W ga56 gb56 (G0 (λx:El=>x.id) [m.id] m.els i)) _ (tL ho.els (GC hY.utf M.fr) (M.ok 1 _ X) hnU61 (M.neFresh 0 1 X X AV) (M.blk 0 X)) (λw9 hf9=>hx.md.els.fr0 (I1 M.fr hf9 hnw61)) (M.ok 1 _ X)) ?_;rintro _ w16 ⟨rfl,hJw16,hfw16⟩;have M:=M.updFresh 1 X hJw16 hfw16;refine cq (W ?_);refine AC X (λh64=>?_) (λh64=>?_)
     ·refine W ?_;exact B1 X X X ⟨Bf Ending.returned (a3g h42 h51 h64),M.fr⟩
     rw [a0m h64] at M
     refine W ?_;refine ya X (D8 (us:=[]) (vs:=[pg g8]) X X X) ?_;have hnU69:=M.noU 1 X hY;have hnw69:∀k,(k=ga56∨k=gb56)→w.heap.size≤k:=M.newF 1 X
     refine cl 69 X (AE X X call124) (gK a.F a.fc m.fls (by have:=ho.nvars;have:=ho.nels;have:=ho.nfls;omega) 126 [pg g8] (pF m) (λk=>k=ga56∨k=gb56) (λi W=>Fresh W ga56 gb56 (G0 (λx:Fl=>x.id) (G0 (λx:El=>x.id) [m.id] m.els m.els.length) m.fls i)) _ (tK ho.fls (GC hY.utf M.fr) (M.ok 1 _ X) hnU69 (M.neFresh 0 1 X X AV) (M.blk 0 X)) (λw9 hf9=>hx.md.fls.fr0 (I1 M.fr hf9 hnw69)) (M.ok 1 _ X)) ?_;rintro _ w17 ⟨rfl,hJw17,hfw17⟩;have M:=M.updFresh 1 X hJw17 hfw17;refine cq (W ?_);exact B1 X X X ⟨Bf Ending.returned (a3f h42 h51 h64),M.fr⟩
    refine A1 (d:=37) X (λh37=>?_) (λh37=>?_)
    ·refine T5 ?_;exact k37 M
    refine T5 ?_;exact k37 M
   refine A1 (d:=31) X (λh31=>?_) (λh31=>?_)
   ·refine T5 ?_;exact k31 M
   refine T5 ?_;exact k31 M
  refine A1 (d:=25) X (λh25=>?_) (λh25=>?_)
  ·refine T5 ?_;exact k25 M
  refine T5 ?_;exact k25 M
 refine A1 (d:=19) X (λh19=>?_) (λh19=>?_)
 ·refine T5 ?_;exact k19 M
 refine W ?_;refine sxl_call (G 22) kw X X (AE X X call116) (lK _ _ ho.nm (GC hY.utf M.fr)) ?_;rintro _ w18 ⟨rfl,hfw18⟩;refine cq ?_;have M:=M.step hfw18;refine T2 ?_;exact k19 M
end
theorem Mem.freshF {w0 w:Kw} {S:Nat→Prop} {L:List As} (M:Mem w0 S L w) (i:Nat) {g3 g6:Nat} {seen:List Kz} (hi:L[i]?=G (As.fresh g3 g6 seen)):Fresh w g3 g6 seen:=M.ok i _ hi
theorem Mem.freshC {w0 w:Kw} {S:Nat→Prop} {L:List As} (M:Mem w0 S L w) (i:Nat) {g3 g6:Nat} {seen:List Kz} (hi:L[i]?=G (As.fresh g3 g6 seen)):Blk w g3 143 [.map (G g6)]:=(M.freshF i hi).1
theorem YV {e:Env} {w:Kw} {o:Oper} {t kt el:Ly} {x i:Lz} {g3 g6:Nat} {k:Kz} {seen:List Kz} (ho:o.op=.lookup t x i zy) (hx:ev e x=G (.map (G g6))) (hi:ev e i=G (str k)) (hu:zv.underlying t=G (.map kt el)) (hd:zv.underlying kt=G .string)
 (hz:(zv.info? el).map (·.zero)=G (G (.bool zy))) (hF:Fresh w g3 g6 seen):Y zv e o w (.bool (O (k∈seen))):=by
 obtain ⟨_,_,L,hm,hL⟩:=hF;exact CH ho hx hi hu hd hz hm (hL k)
theorem aY {Q:Exit→Act→Kw→Prop} {n:Nat} {e:Env} {w w0:Kw} {S:Nat→Prop} {L:List As} {ops:Array Oper} {o:Oper} {rest:List Oper} (M:Mem w0 S L w) (i:Nat) (hw:Wn ops e o) (hd:o.dst=zx) {t kt el g3 g6:Nat} {mp ix x:Lz} {key:Kz} {seen:List Kz} (ho:o.op=.mapUpdate t mp ix x) (hm:ev e mp=G (.map (G g6))) (hx:ev e ix=G (str key)) (hv:ev e x=G (.bool zz)) (hu:zv.underlying t=G (.map kt el)) (hk:zv.underlying kt=G .string)
 (hi:L[i]?=G (As.fresh g3 g6 seen)) (k:∀w',Mem w0 S (L.set i (As.fresh g3 g6 (key::seen))) w'→SxL zv ops Q n rest e w'):SxL zv ops Q n (o::rest) e w:=by
 obtain ⟨hc,hne,K,hm',hL⟩:=M.freshF i hi;refine sxl_does zx hw hd X (λρ hρ=>GP ho (hρ _ _ hm) (hρ _ _ hx) (hρ _ _ hv) hu hk hm') ?_;rintro _ w1 ⟨rfl,hf,hb⟩;exact k w1 (M.updFresh i hi ⟨hc.fr hf hne,hne,_,hb,TX hL⟩ (hf.mono λ_ _ e=>.inr e))
def JR (m:Md) (s:List Kz):Nat:=(m.fls.filter λf => !(O (f.tg∈s))).length
theorem aB {α:Type} {p q:α→Bool}:∀l:List α,(∀x∈l,q x=zz→p x=zz)→(l.filter q).length≤(l.filter p).length
 | [],_=>Af _
 | y::t,h=>by
  have h1:=aB t (λx hx=>h x (Ax _ hx));rw [Db,Db]
  by_cases hy:q y=zz
  ·rw [Ac hy,Ac (h y (by simp) hy),Al,Al];omega
  rw [Ae hy]
  split
  ·rw [Al];omega
  exact h1
theorem aA {α:Type} {p q:α→Bool}:∀{l:List α} {f:α},f∈l→(∀x∈l,q x=zz→p x=zz)→p f=zz→q f=zy→(l.filter q).length<(l.filter p).length
 | x::r,f,hf,hpq,hp,hq=>by
  rw [Db,Db];have h1:=aB r (λx hx=>hpq x (Ax _ hx));rcases Ao.1 hf with rfl|hf
  ·rw [Ac hp,Ae (by rw [hq];decide),Al];omega
  have h2:=aA hf (λx hx=>hpq x (Ax _ hx)) hp hq
  by_cases hy:q x=zz
  ·rw [Ac hy,Ac (hpq x (by simp) hy),Al,Al];omega
  rw [Ae hy]
  split
  ·rw [Al];omega
  exact h2
theorem cR {m:Md} {s:List Kz} {k:Kz} {f:Fl} (hf:f∈BV m.fls k) (h:O (f.tg∈s)=zy):JR m (f.tg::s)<JR m s:=by
 have hf':f∈m.fls:=(De.1 hf).1;refine aA hf' (λx _ hx=>?_) (by rw [h];rfl) (by simp);simp only [Ao,Et,decide_eq_false_iff_not] at hx ⊢
 exact λz=>hx (.inr z)
def JT (m:Md) (rc:Kz→List Kz→List Kz):List Fl→List Kz→List Kz
 | [],s=>s
 | f::r,s=>if (L0 m f.tg&&(!(O (f.tg∈s))))=zz then JT m rc r (rc f.tg (f.tg::s)) else JT m rc r s
theorem RG {m:Md} {N:Nat} {rc:Kz→List Kz→List Kz} (hmono:∀k' s',JR m s'<N→JR m (rc k' s')≤JR m s') {k:Kz}:∀(l:List Fl) (s:List Kz),(∀f∈l,f∈BV m.fls k)→JR m s≤N→JR m (JT m rc l s)≤JR m s
 | [],_,_,_=>Af _
 | f::r,s,hl,hN=>by
  rw [JT]
  split
  ·rename_i h
   have hlt:=cR (s:=s) (hl f (by simp)) (CJ (DU h).2);have h1:=hmono f.tg (f.tg::s) (Ce hlt hN);have h2:=RG hmono r (rc f.tg (f.tg::s)) (λx hx=>hl x (Ax _ hx)) A0;omega
  exact RG hmono r s (λx hx=>hl x (Ax _ hx)) hN
def UE (m:Md):Nat→Kz→List Kz→List Kz
 | 0,k,s=>JT m (λ_ s=>s) (BV m.fls k) s
 | n+1,k,s=>JT m (UE m n) (BV m.fls k) s
def zC (m:Md):Nat→Kz→List Kz→List Kz
 | 0=>λ_ s=>s
 | n+1=>UE m n
theorem dI (m:Md) (n:Nat) (k:Kz) (s:List Kz):UE m n k s=JT m (zC m n) (BV m.fls k) s:=by cases n<;>rfl
theorem W0 (m:Md):∀(n:Nat) (k:Kz) (s:List Kz),JR m s≤n→JR m (UE m n k s)≤JR m s
 | 0,k,s,h=>RG (N:=0) (λ_ _ h=>A0) (k:=k) _ s (λ_ hf=>hf) h
 | n+1,k,s,h=>RG (N:=n+1) (λk' s' h'=>W0 m n k' s' A0) (k:=k) _ s (λ_ hf=>hf) h
theorem m2 (m:Md) (n:Nat):∀(k:Kz) (s:List Kz),JR m s<n→JR m (zC m n k s)≤JR m s:=λk s h=>by
 cases n with
 | zero=>omega
 | succ n=>exact W0 m n k s A0
theorem Mem.join2 {w0 w:Kw} {S:Nat→Prop} {L:List As} {a b:As} (M:Mem w0 S (a::b::L) w) (c:As) (hok:c.ok w) (hfp:∀g∈c.fp,g∈a.fp∨g∈b.fp):Mem w0 S (c::L) w:=by
 have get:∀(i:Nat) (d:As),L[i]?=G d→(a::b::L)[i+2]?=G d:=λi d h=>h
 have fp:∀k,k∈c.fp→∃(i:Nat) (d:As),i<2∧(a::b::L)[i]?=G d∧k∈d.fp:=λk hk=>by
  rcases hfp k hk with h|h
  ·exact ⟨0,_,by decide,rfl,h⟩
  exact ⟨1,_,by decide,rfl,h⟩
 refine ⟨M.fr,?_,?_,?_⟩
 ·intro i d hi
  cases i with
  | zero=>simp only [Ak,Ai] at hi;subst hi;exact hok
  | succ i=>exact M.ok (i+2) d (get i d (by simpa using hi))
 ·intro i d hi k hk
  cases i with
  | zero=>
   simp only [Ak,Ai] at hi;subst hi
   obtain ⟨j,e,_,h1,h2⟩:=fp k hk;exact M.lt j e h1 k h2
  | succ i=>exact M.lt (i+2) d (get i d (by simpa using hi)) k hk
 intro i j d e hi hj hne k hk hk'
 cases i with
 | zero=>
  cases j with
  | zero=>exact hne rfl
  | succ j=>
   simp only [Ak,Ai] at hi;subst hi
   obtain ⟨q,d',hq,h1,h2⟩:=fp k hk;exact M.apart q (j+2) d' e h1 (get j e (by simpa using hj)) A0 k h2 hk'
 | succ i=>
  cases j with
  | zero=>
   simp only [Ak,Ai] at hj;subst hj
   obtain ⟨q,d',hq,h1,h2⟩:=fp k hk';exact M.apart (i+2) q d d' (get i d (by simpa using hi)) h1 A0 k hk h2
  | succ j=>exact M.apart (i+2) (j+2) d e (get i d (by simpa using hi)) (get j e (by simpa using hj)) A0 k hk hk'
theorem hZ (m:Md) (s:List Kz):JR m s≤m.fls.length:=Dy _ _
def fI (m:Md) (y:El):Bool:=if (!(L0 m y.id))=zz then zz else !(O (y.id∈UE m m.fls.length y.id []))
theorem WC : (zv.info? 252).map (·.size)=G 1:=zr
theorem VV : (zv.info? 252).map (·.zero)=G (G (.nilFunc)):=zr
theorem qR (m:Md) (a:MdA) (ix:IxA) (gx gp g4 g5 gm g6:Nat) (w0:Kw) (ho:MdOk m) (hx:IxAt w0 m a ix gx) (hp:Blk w0 gp 144 [pg gx]) (h4:Blk w0 g4 91 [.func (.func 148) #[] #[pg gp]]) (hS:∀k,(k=g5∨k=gm)→w0.heap.size≤k) (hn6:¬(g6=g5∨g6=gm)) (N:Nat) (rc:Kz→List Kz→List Kz) (hmono:∀k' s',JR m s'<N→JR m (rc k' s')≤JR m s')
 (hR:∀(k':Kz) (s':List Kz) (W:Kw),JR m s'<N→Fr0 w0 W→Fresh W g5 gm s'→Blk W g6 206 [.func (.func 150) #[] #[pg gp,pg g4,pg g5,pg g6]]→zt zv 150 #[str k',pg gp,pg g4,pg g5,pg g6] W λe W'=>e=.returned (.tuple #[])∧Fresh W' g5 gm (rc k' s')∧Fr (λk=>k=g5∨k=gm) W W')
 (k:Kz) (s0:List Kz) (w:Kw) (hN:JR m s0≤N) (h0:Fr0 w0 w) (hF:Fresh w g5 gm s0) (h6:Blk w g6 206 [.func (.func 150) #[] #[pg gp,pg g4,pg g5,pg g6]]) :
 zt zv 150 #[str k,pg gp,pg g4,pg g5,pg g6] w λe w'=>e=.returned (.tuple #[])∧Fresh w' g5 gm (JT m rc (BV m.fls k) s0)∧Fr (λk=>k=g5∨k=gm) w w':=by
 have hOl:=F4 m.fls k;have hnf:=ho.nfls;refine sx_enter (vs:=[_,_,_,_,_]) func150 X ntmps150 X ?_;have M:Mem w (λk=>k=g5∨k=gm) [As.fresh g5 gm s0] w:=Mem.oneFresh hF;refine T2 ?_;refine yl X X (Blk.c (hp.fr0 (I1 h0 M.fr hS)) 0 X) (T2 ?_);refine ya X (B3 X X (sc X) (Blk.c ((hx.fr0 (I1 h0 M.fr hS)).blk) 7 X)) (yb X (ya X (CH X X X Eb Ad EH ((hx.fr0 (I1 h0 M.fr hS)).O) (hx.getO _)) (W ?_)));refine flp [14,13,4,3,2] (λze e wr mz=>∃(i:Nat) (s:List Kz),e=(15,AA (i:Int))::ze∧Mem w (λk=>k=g5∨k=gm) [As.fresh g5 gm s] wr∧(i≤(BV m.fls k).length)∧(JR m s≤N)∧(JT m rc (BV m.fls k) s0=JT m rc ((BV m.fls k).drop i) s)∧mz=(BV m.fls k).length-i) ⟨0,s0,X,M,Aj _,hN,X,X⟩ ?_;rintro _ w1 _ ⟨i,s,rfl,M,hi,hN,hE,rfl⟩;refine W ?_;refine AC X (λh16=>?_) (λh16=>?_)
 ·have h16p:=odt h16;refine W ?_;obtain ⟨u,_,_,hu,hA_u⟩:=ex5 (l:=(BV m.fls k)) (k:=4) (i:=i) ((hx.fr0 (I1 h0 M.fr hS)).rdO _);refine ya X (AK i hA_u X X X (sl X) A0) (ya X (AJ X X (BF Fl.len ((hx.fr0 (I1 h0 M.fr hS)).rdO _) hA_u hu) Co X BU) (CE M X DX λg7 w2 hg7 M=>BX M 0 X X BU X λw3 M=>T4 ?_));refine yl X X (Blk.c (h4.fr0 (I1 h0 M.fr hS)) 0 X) (W ?_);refine YP M 22 X (C7 X X X call148) (fH m a ix gx gp u.tg _ ho (hx.fr0 (I1 h0 M.fr hS)) (hp.fr0 (I1 h0 M.fr hS))) λw4 M=>yb X (fvm M 6 [7,15,14,13,4,3,2] [(29,.bool ((L0 m u.tg)&&(!(O (u.tg∈s)))))] ?_ (λk23=>?_))
  ·intro w5 M;refine W ?_;refine AC X (λh29=>?_) (λh29=>?_)
   ·have h29p:=bd h29;have hlt:=cR (m:=m) (s:=s) (Ah hu) (CJ (DU h29).2);refine T2 ?_;refine yl X X (Blk.c (M.freshC 1 X) 0 X) (W ?_);refine aY M 1 kw X X X X X Em Ad X λw6 M=>T3 ?_
    refine yl X X (Blk.c (h6.fr M.fr hn6) 0 X) (W ?_);refine cl 36 X (C7 X X X call150) (hR u.tg (u.tg::s) _ (Ce hlt hN) (I1 h0 M.fr hS) (M.freshF 1 X) (h6.fr M.fr hn6)) ?_;rintro _ w7 ⟨rfl,hFw7,hfw7⟩;have M:=M.updFresh 1 X hFw7 hfw7;refine cq (W ?_);refine fag ⟨i+1,(rc u.tg (u.tg::s)),X,(M.pk [1]),?_,?_,?_,X⟩
    ·omega
    ·first
      | exact Bh (hmono _ _ (Ce hlt hN)) (Bh (Gw hlt) hN)
      | exact hN
    rw [hE,AH hu,JT]
    first
     | rw [Ac h29]
     | rw [AN h29]
   have h29p:=bd h29;refine W ?_;refine fag ⟨i+1,s,X,(M.pk [1]),?_,?_,?_,X⟩
   ·omega
   ·first
     | exact Bh (hmono _ _ (Ce hlt hN)) (Bh (Gw hlt) hN)
     | exact hN
   rw [hE,AH hu,JT]
   first
    | rw [Ac h29]
    | rw [AN h29]
  refine A1 (d:=23) X (λh23=>?_) (λh23=>?_)
  ·refine ym X X (Blk.c (M.freshC 1 X) 0 X) (W ?_);refine yd X (YV X X X Em Ad RC (M.freshF 1 X)) (T2 ?_);exact k23 M
  refine T6 ?_;exact k23 M
 have h16p:=odf h16;refine W ?_;refine qx_ret0 (Or.inr X) X ?_;obtain rfl:i=(BV m.fls k).length:=A0
 exact ⟨X,by rw [hE,Aq];exact M.ok 0 _ rfl,M.fr⟩
theorem lB (m:Md) (a:MdA) (ix:IxA) (gx gp g4 g5 gm g6:Nat) (w0:Kw) (ho:MdOk m) (hx:IxAt w0 m a ix gx) (hp:Blk w0 gp 144 [pg gx]) (h4:Blk w0 g4 91 [.func (.func 148) #[] #[pg gp]]) (hS:∀k,(k=g5∨k=gm)→w0.heap.size≤k) (hn6:¬(g6=g5∨g6=gm)):∀(N:Nat) (k:Kz) (s0:List Kz) (w:Kw),JR m s0≤N→Fr0 w0 w→Fresh w g5 gm s0→Blk w g6 206 [.func (.func 150) #[] #[pg gp,pg g4,pg g5,pg g6]] →
 zt zv 150 #[str k,pg gp,pg g4,pg g5,pg g6] w λe w'=>e=.returned (.tuple #[])∧Fresh w' g5 gm (UE m N k s0)∧Fr (λk=>k=g5∨k=gm) w w'
 | 0,k,s0,w,hN,h0,hF,h6=>dI m 0 k s0▸qR m a ix gx gp g4 g5 gm g6 w0 ho hx hp h4 hS hn6 0 (zC m 0) (m2 m 0) (λ_ _ _ h=>A0) k s0 w hN h0 hF h6
 | N+1,k,s0,w,hN,h0,hF,h6=>dI m (N+1) k s0▸qR m a ix gx gp g4 g5 gm g6 w0 ho hx hp h4 hS hn6 (N+1) (zC m (N+1)) (m2 m (N+1)) (λk' s' W h h0' hF' h6'=>lB m a ix gx gp g4 g5 gm g6 w0 ho hx hp h4 hS hn6 N k' s' W A0 h0' hF' h6') k s0 w hN h0 hF h6
theorem u9 (m:Md) (a:MdA) (ix:IxA) (gx gp g4:Nat) (y:El) (w:Kw) (ho:MdOk m) (hx:IxAt w m a ix gx) (hp:Blk w gp 144 [pg gx]) (h4:Blk w g4 91 [.func (.func 148) #[] #[pg gp]]) :
 zt zv 149 #[.agg y.cells.toArray,pg g4,pg gp] w (BR w (.bool (fI m y))):=by
 refine BO func149 ntmps149 X λM=>W ?_
 refine CU M X X λg3 w1 hg3 M=>T6 ?_
 refine yl X X (Blk.c (h4.fr0 M.fr) 0 X) (W ?_);refine YP M 10 X (C7 X X X call148) (fH m a ix gx gp y.id _ ho (hx.fr0 M.fr) (hp.fr0 M.fr)) λw2 M=>W ?_
 refine AC X (λh11=>?_) (λh11=>?_)
 ·refine W ?_;exact gr1 X ⟨by rw [fI,Ac h11],M.fr⟩
 have h11p:=BL h11;refine W ?_;refine K9 M kw X X X λg12 w3 hg12 M=>G9 M kw X X 143 X [.map zx] IT X λg5 w4 hg5 M=>gp1 M 0 X X X IW λw5 M=>W ?_
 refine G9 M kw X X 206 X [.nilFunc] VV X λg6 w6 hg6 M=>W ?_
 refine ya X (D8 (us:=[]) (vs:=[pg gp,pg g4,pg g5,pg g6]) X X X) (FK (cs':=[.func (.func 150) #[] #[pg gp,pg g4,pg g5,pg g6]]) M 0 kw X X X X X X X WC (D6 X) X λw7 M=>W ?_);have M:=Mem.join2 (M.pk [1,2,0,3]) (As.fresh g5 g12 []) ⟨M.blk 1 X,M.neMp 1 2 X X AV,[],M.mp 2 X,λ_=>by simp [CG]⟩ (λg hg=>by simpa [As.fresh,As.blk,As.mp] using hg);have hSn:=M.newF 0 X;have h6n:=M.neFresh 1 0 X X AV;refine cl 17 X (C7 X X X call150) (lB m a ix gx gp g4 g5 g12 g6 w ho hx hp h4 hSn h6n m.fls.length y.id [] _ (hZ m []) M.fr (M.freshF 0 X) (M.blk 1 X)) ?_;rintro _ w8 ⟨rfl,hFw8,hfw8⟩;have M:=M.updFresh 0 X hFw8 hfw8;refine cq (T4 ?_);refine yl X X (Blk.c (M.freshC 0 X) 0 X) (W ?_);refine ya X (YV X X X Em Ad RC (M.freshF 0 X)) (W ?_);exact gr1 X ⟨by rw [fI,AN h11],M.fr⟩
theorem u7 (m:Md) (a:MdA) (ix:IxA) (gx:Nat) (w:Kw) (ho:MdOk m) (hx:IxAt w m a ix gx) :
 zt zv 77 #[pg gx] w (BR w (MT (ffE (fI m) m.els))):=by
 refine BO func77 ntmps77 X λM=>W ?_
 refine CZ M kw X X 144 X X ([pg gx]) X λg1 w1 hg1 M=>W ?_
 refine ya X (D8 (us:=[]) (vs:=[pg g1]) X X X) (G9 M kw X X 91 X [.nilFunc] IA X λg4 w2 hg4 M=>FK (cs':=[.func (.func 148) #[] #[pg g1]]) M 0 kw X X X X X X X IB (D6 X) X λw3 M=>T8 ?_);refine yl X X (Blk.c ((hx.fr0 M.fr).blk) 3 X) (ya X (D8 (us:=[]) (vs:=[pg g4,pg g1]) X X X) (CQ M 12 X X call121 (LB _ _ m.els (by have:=ho.nfls;have:=ho.nels;have:=ho.nvars;omega) 149 [pg g4,pg g1] (fI m) _ (J7 call149 (λz hz w9 hf9=>u9 m a ix gx g1 g4 z w9 ho ((hx.fr0 M.fr).fr0 hf9) ((M.blk 1 X).fr0 hf9) ((M.blk 0 X).fr0 hf9))) (M.rd hx.md.els)) λw4 M=>W ?_));exact B1 X X X ⟨Bf Ending.returned (XR _ _),M.fr⟩
def a3Q : Kx:=[.func (.func 69) #[] #[],.func (.func 70) #[] #[],.func (.func 71) #[] #[],.func (.func 72) #[] #[],.func (.func 73) #[] #[],.func (.func 74) #[] #[],.func (.func 75) #[] #[],.func (.func 76) #[] #[],.func (.func 77) #[] #[]]
def SQ (m:Md):List (Option Kz):=[FN m,ffE (W6 m) m.els,ffF (LL m) m.fls,ffE (JA m) m.els,ZX m,YN m,ffE (LN m) m.els,ffE (MZ m) m.els,ffE (fI m) m.els]
theorem a2O (m:Md) (a:MdA) (ix:IxA) (gx:Nat) (hb:MdB m):∀i,i<9→(i=0∨MdOk m)→∃fd b,a3Q[i]?=G (.func (.func fd) #[] #[])∧(SQ m)[i]?=G b∧(∀(ar:Array Kv) (w:Kw),(callFunc fd ar).run zv w=.ok (.enter fd ar) w) ∧
 ∀W,IxAt W m a ix gx→Lay0 W→zt zv fd #[pg gx] W (BR W (.tuple #[str (b.getD []),.bool b.isSome])):=by
 intro i hi hk;have ho:i≠0→MdOk m:=λh=>hk.resolve_left h
 match i,hi with
 | 0,_=>exact ⟨_,_,rfl,rfl,call69,λW hx hY=>zY m a ix gx W hb hx hY⟩
 | 1,_=>exact ⟨_,_,rfl,rfl,call70,λW hx _=>yC m a ix gx W (ho AV) hx⟩
 | 2,_=>exact ⟨_,_,rfl,rfl,call71,λW hx _=>nH m a ix gx W (ho AV) hx⟩
 | 3,_=>exact ⟨_,_,rfl,rfl,call72,λW hx _=>vQ m a ix gx W (ho AV) hx⟩
 | 4,_=>exact ⟨_,_,rfl,rfl,call73,λW hx _=>vU m a ix gx W (ho AV) hx⟩
 | 5,_=>exact ⟨_,_,rfl,rfl,call74,λW hx hY=>yR m a ix gx W (ho AV) hx hY⟩
 | 6,_=>exact ⟨_,_,rfl,rfl,call75,λW hx _=>nR m a ix gx W (ho AV) hx⟩
 | 7,_=>exact ⟨_,_,rfl,rfl,call76,λW hx _=>pU m a ix gx W (ho AV) hx⟩
 | 8,_=>exact ⟨_,_,rfl,rfl,call77,λW hx _=>u7 m a ix gx W (ho AV) hx⟩
 | i+9,hi=>omega
def IN : Nat→List (Option Kz)→Nat × Kz × Int
 | _,[]=>(0,[],0)
 | i,G k::_=>(i+1,k,140)
 | i,zx::r=>IN (i+1) r
theorem B2 {i:Nat} {b:Option Kz} {r:List (Option Kz)} (h:b.isSome=zy):IN i (b::r)=IN (i+1) r:=by
 cases b with
 | none=>rfl
 | some k=>cases h
theorem EG {i:Nat} {b:Option Kz} {r:List (Option Kz)} (h:b.isSome=zz):IN i (b::r)=(i+1,b.getD [],140):=by
 cases b with
 | none=>cases h
 | some k=>rfl
theorem a1a {m:Md} (hb:MdB m) {i:Nat} {b:Option Kz} (hk:i=0∨MdOk m) (h:(SQ m)[i]?=G b) (hn:b.isSome=zy):i+1=0∨MdOk m:=by
 rcases hk with rfl|hk
 ·right
  injection h with h
  subst h
  have hq:QP m=zy:=by
   cases hq:QP m with
   | false=>rfl
   | true=>rw [FN,Ac hq] at hn;cases hn
  have h1:=(FL hq).1;have a1:=odf (FL (FL h1).1).2;have a2:=odf (FL h1).2;have a3:=odf (FL hq).2;exact ⟨hb.id,hb.nm,hb.vars,A0,A0,A0,hb.els,hb.fls⟩
 exact .inr hk
def LR (m:Md):Nat × Kz × Int:=IN 0 (SQ m)
theorem tZ {m:Md} (hb:MdB m) (h:(LR m).2.2=0):MdOk m:=by
 have h0:(FN m).isSome=zy:=by
  cases hq:FN m with
  | none=>rfl
  | some k=>
   have:(LR m).2.2=140:=by unfold LR SQ;rw [hq];rfl
   rw [this] at h;cases h
 exact (a1a hb (i:=0) (.inl X) X h0).resolve_left AV
theorem TS : (zv.info? 148).map (λi=>(i.zero,i.size))=G (G (.nilFunc),1):=zr
theorem bC (m:Md) (a:MdA) (w:Kw) (ho:MdB m) (hM:MdIn w m a) (hY:Lay0 w) :
 zt zv 42 #[.agg (Md.cells m a).toArray] w (BR w (.tuple #[AA (((LR m).1:Nat):Int),str (LR m).2.1,AA (LR m).2.2])):=by
 refine BO func42 ntmps42 X λM=>W ?_
 refine CU M X X λg1 w1 hg1 M=>W ?_
 refine CF M 0 X X Ap AO X (cl 11 X (AE X X call68) (XH m a _ ho (hM.fr0 M.fr)) ?_);rintro _ w2 ⟨ix,gx,FX,rfl,hix,hnx,hfw2⟩;refine cq ?_;have M:=M.push hfw2 (As.ixp m a ix gx FX) hix hnx;refine W ?_;refine CP M kw X X [.func (.func 69) #[] #[],.func (.func 70) #[] #[],.func (.func 71) #[] #[],.func (.func 72) #[] #[],.func (.func 73) #[] #[],.func (.func 74) #[] #[],.func (.func 75) #[] #[],.func (.func 76) #[] #[],.func (.func 77) #[] #[]] ([.func (.func 69) #[] #[],.func (.func 70) #[] #[],.func (.func 71) #[] #[],.func (.func 72) #[] #[],.func (.func 73) #[] #[],.func (.func 74) #[] #[],.func (.func 75) #[] #[],.func (.func 76) #[] #[],.func (.func 77) #[] #[]]) X X X X underlying147 TS X X (by intro v hv;simp only [Ao,Ba,or_false] at hv;rcases hv with rfl|rfl|rfl|rfl|rfl|rfl|rfl|rfl|rfl<;>rfl) X λg12 w3 hg12 M=>W ?_
 refine EC M [13,12,5] (λze zF e wr mz=>∃(i:Nat),e=(14,AA (i:Int))::ze∧zF wr∧(i≤9)∧(IN 0 (SQ m)=IN i ((SQ m).drop i))∧(i=0∨MdOk m)∧mz=9-i) ⟨0,X,M,Aj _,X,.inl X,X⟩ ?_;rintro _ w4 _ ⟨i,rfl,M,hi,hE,hk,rfl⟩;refine W ?_;refine AC X (λh15=>?_) (λh15=>?_)
 ·have h15p:=odt h15;have hil:i<9:=A0
  refine W ?_;obtain ⟨fd,b,hfd,hbk,hen,hcl⟩:=a2O m a ix gx ho i hil hk;refine ya X (HM (j:=i) X X X (sl X) A0) (yl X X (Blk.c (M.blk 0 X) (0+i*1) (by rw [Cr,Nat.mul_one];exact hfd)) (W ?_));refine YP M 22 X (C7 X X X hen) (hcl _ (IxN.at (M.ok 1 _ X) (hM.fr0 M.fr)) (hY.fr0 M.fr)) λw5 M=>W ?_
  refine AC X (λh25=>?_) (λh25=>?_)
  ·refine W ?_;exact DL X X X X ⟨by rw [LR,hE,AH hbk,EG h25]<;>rfl,M.fr⟩
  refine W ?_;refine fag ⟨i+1,X,M,?_,?_,?_,X⟩
  ·omega
  ·rw [hE,AH hbk,B2 h25]
  exact a1a ho hk hbk h25
 have h15p:=odf h15;refine W ?_;obtain rfl:i=9:=A0
 refine W ?_;exact DL X X X X ⟨by rw [LR,hE];rfl,M.fr⟩
section
def MpS (w:Kw) (g:Nat) (L:List (Kz × Kv)):Option (Kz × Nat)→Prop
 | none=>MpB w g L
 | some (k,b)=>EntAt w g L k b
theorem MpS.keep {w w':Kw} {g:Nat} {L:List (Kz × Kv)} {st:Option (Kz × Nat)} (hk:g<w.heap.size→w'.heap[g]?=w.heap[g]?) (h:MpS w g L st):MpS w' g L st:=by
 cases st with
 | none=>exact MpB.keep hk h
 | some p=>obtain ⟨k,b⟩:=p;exact EntAt.keep hk h
def As.mpS (g:Nat) (L:List (Kz × Kv)) (st:Option (Kz × Nat)):As:=⟨[g],λw=>MpS w g L st,λh hb=>hb.keep (h g (by simp))⟩
structure RowS (w:Kw) (g:Nat) (L:List (Kz × Kv)) (st:Option (Kz × Nat)) (rows:Kz→List Kz) (F:List Nat):Prop where
 map:MpS w g L st
 gF:¬g∈F
 row:∀k,∃A C,GH L k=.slice A (rows k).length C∧Rd w A ((rows k).length*1) (AF BH (rows k))∧∀b off p,A=G ⟨b,off,p⟩→b∈F
theorem RowS.keep {w w':Kw} {g:Nat} {L:List (Kz × Kv)} {st:Option (Kz × Nat)} {rows:Kz→List Kz} {F:List Nat} (hk:∀x∈g::F,x<w.heap.size→w'.heap[x]?=w.heap[x]?) (h:RowS w g L st rows F):RowS w' g L st rows F:=
 ⟨h.map.keep (hk g (by simp)),h.gF,λk=>by
  obtain ⟨A,C,h1,h2,h3⟩:=h.row k;exact ⟨A,C,h1,JO h2 (λx hx=>hk x (Ax _ hx)) h3,h3⟩⟩
def As.rowS (g:Nat) (L:List (Kz × Kv)) (st:Option (Kz × Nat)) (rows:Kz→List Kz) (F:List Nat):As:=⟨g::F,λw=>RowS w g L st rows F,λh hb=>hb.keep h⟩
def As.both (a b:As):As:=⟨a.fp++b.fp,λw=>a.ok w∧b.ok w,λh hb=>⟨a.keep (λg hg=>h g (Ds _ hg)) hb.1,b.keep (λg hg=>h g (Cy _ hg)) hb.2⟩⟩
section
variable {w0 w w':Kw} {S:Nat→Prop} {Ls:List As} {g b:Nat} {L L':List (Kz × Kv)} {k:Kz} {rows:Kz→List Kz} {F:List Nat} {st:Option (Kz × Nat)}
theorem a0c (w:Kw):MpB (w.alloc (.map #[] 0)) w.heap.size []:=⟨#[],0,by show (w.heap.push (.map #[] 0))[w.heap.size]?=_;simp,rfl,by simp,by simp⟩
theorem WE {P:Lw} {Q:Exit→Act→Kw→Prop} {n:Nat} {e:Env} {ops:Array Oper} {o:Oper} {rest:List Oper} (M:Mem w0 S Ls w) {d t:Nat} (hw:Wn ops e o) (hd:o.dst=G d) (hn:Nat.blt d n=zz) (ho:o.op=.makeMap t zx)
 (k:∀g w',w.heap.size≤g→Mem w0 S (As.mpS g [] zx::Ls) w'→SxL P ops Q n rest ((d,.map (G g))::e) w'):SxL P ops Q n (o::rest) e w:=by
 refine sxl_does (G d) hw hd hn (λρ hρ=>gT ho) ?_;rintro _ w1 ⟨rfl,rfl⟩;exact k _ _ (Af _) (M.push (Fr.refl.alloc _) _ (a0c w) (λg' hg'=>by simp only [As.mpS,Au] at hg';subst hg';simp))
theorem Mem.mpS (M:Mem w0 S Ls w) (i:Nat) (hi:Ls[i]?=G (As.mpS g L st)):MpS w g L st:=M.ok i _ hi
theorem Mem.rowS (M:Mem w0 S Ls w) (i:Nat) (hi:Ls[i]?=G (As.rowS g L st rows F)):RowS w g L st rows F:=M.ok i _ hi
theorem Mem.toRow (M:Mem w0 S Ls w) (i:Nat) (hi:Ls[i]?=G (As.mpS g [] zx)):Mem w0 S (Ls.set i (As.rowS g [] zx (λ_=>[]) [])) w:=
 M.upd i hi Fr.refl _ (show RowS w g [] zx (λ_=>[]) [] from ⟨M.ok i _ hi,by simp,λk=>⟨zx,0,by simp [GH,CG],Rd.nil,λb off p h=>by cases h⟩⟩) (λ_ hg'=>.inl hg')
theorem Mem.entA (M:Mem w0 S Ls w) (i:Nat) (hi:Ls[i]?=G (As.mpS g L zx)) (hf:Fr (λx=>x=g) w w') (hE:EntAt w' g L' k b):Mem w0 S (Ls.set i (As.mpS g L' (G (k,b)))) w':=
 M.upd i hi (hf.mono λk _ e=>by simp only [As.mpS,Au];exact e) (As.mpS g L' (G (k,b))) hE (λ_ hg'=>.inl hg')
theorem Mem.putA (M:Mem w0 S Ls w) (i:Nat) (hi:Ls[i]?=G (As.mpS g L (G (k,b)))) (hf:Fr (λx=>x=g) w w') (hE:MpB w' g L'):Mem w0 S (Ls.set i (As.mpS g L' zx)) w':=
 M.upd i hi (hf.mono λk _ e=>by simp only [As.mpS,Au];exact e) (As.mpS g L' zx) hE (λ_ hg'=>.inl hg')
theorem Mem.entR (M:Mem w0 S Ls w) (i:Nat) (hi:Ls[i]?=G (As.rowS g L zx rows F)) (hf:Fr (λx=>x=g) w w') (hE:EntAt w' g (DG L k ((CG L k).getD (.slice zx 0 0))) k b):Mem w0 S (Ls.set i (As.rowS g (DG L k ((CG L k).getD (.slice zx 0 0))) (G (k,b)) rows F)) w':=by
 have h:RowS w g L zx rows F:=M.ok i _ hi;refine M.upd i hi (hf.mono λk _ e=>by rw [e];exact Bi) _ (show RowS w' g _ (G (k,b)) rows F from ⟨hE,h.gF,λk'=>?_⟩) (λ_ hg'=>.inl hg');obtain ⟨A,C,h1,h2,h3⟩:=h.row k';refine ⟨A,C,?_,JO h2 (λx hx hl=>hf.block x hl (λe=>h.gF (e▸hx))) h3,h3⟩;rw [LX]
 by_cases hk:k'=k
 ·subst hk;rw [Ac rfl];exact h1
 rw [Ae hk];exact h1
theorem Mem.putR {base T n C:Nat} {A:Ky} {l:List Kz} (M:Mem w0 S (As.own base T 1 (.slice A n C) n (AF BH l)::As.rowS g L (G (k,b)) rows F::Ls) w) (hf:Fr (λx=>x=g) w w') (hE:MpB w' g (DG L k (.slice A n C))) (hn:n=l.length) :
 ∃F',Mem w0 S (As.rowS g (DG L k (.slice A n C)) zx (λk'=>if k'=k then l else rows k') F'::Ls) w':=by
 have ho:=M.own 0 X;have h:RowS w g L (G (k,b)) rows F:=M.ok 1 _ X;have hap:∀x∈(Value.slice A n C).ownBlock.toList,¬x∈g::F:=λx hx=>M.apart 0 1 _ _ X X AV x hx
 have M1:=M.joinFam (As.both (As.own base T 1 (.slice A n C) n (AF BH l)) (As.rowS g L (G (k,b)) rows F)) ⟨ho,h⟩ (λx hx=>Bp.1 hx);have hA:∀b off p,A=G ⟨b,off,p⟩→b∈(Value.slice A n C).ownBlock.toList:=λb off p e=>by subst e;simp [Value.ownBlock]
 refine ⟨(Value.slice A n C).ownBlock.toList++F,M1.upd 0 X (hf.mono λx _ e=>by rw [e];exact Cy _ Bi) _ (show RowS w' g _ zx _ _ from ⟨hE,?_,λk'=>?_⟩) ?_⟩
 ·intro hh;rcases Bp.1 hh with hh|hh
  ·exact hap g hh Bi
  exact h.gF hh
 ·rw [LX]
  by_cases hk:k'=k
  ·subst hk;simp only [Ac];rw [hn] at ho hA ⊢
   refine ⟨A,C,X,JO (MV ho) (F:=(Value.slice A l.length C).ownBlock.toList) (λx hx hl=>hf.block x hl (λe=>hap x (hn▸hx) (by rw [e];exact Bi))) hA,λb off p e=>Ds _ (hA b off p e)⟩
  simp only [Ae hk];obtain ⟨A',C',h1,h2,h3⟩:=h.row k';exact ⟨A',C',h1,JO h2 (λx hx hl=>hf.block x hl (λe=>h.gF (e▸hx))) h3,λb off p e=>Cy _ (h3 b off p e)⟩
 intro x hx
 left
 rcases Ao.1 (show x∈g::((Value.slice A n C).ownBlock.toList++F) from hx) with rfl|hx
 ·exact Cy _ Bi
 rcases Bp.1 hx with hx|hx
 ·exact Ds _ hx
 exact Cy _ (Ax _ hx)
theorem Mem.mdN {m:Md} {a:MdA} (M:Mem w0 S Ls w) (i:Nat) (hi:Ls[i]?=G (As.mdp m a F)):MdN w m a F:=M.ok i _ hi
end
end
end Go.Proofs.YtppmdnmjepkfaaaGreatDoor
