/- Lemmas. -/
import Derived.Test.YtppmdnmjepkfaaaGreatDoorYRu5
import Derived.Lib.SliceRun
set_option maxHeartbeats 16000000
set_option maxRecDepth 100000
namespace Go.Proofs.YtppmdnmjepkfaaaGreatDoor
open Go.RowKit
open Tryz
section
def GA (k:Kz) (seen:List Kz):Bool:=B6 k && !(decide (k∈seen))
def Fresh (w:Kw) (g3 g6:Nat) (seen:List Kz):Prop:=Blk w g3 143 [.map (some g6)]∧¬g3=g6∧∃L,Mp w g6 L∧∀k,(CC L k).getD (.bool false)=.bool (decide (k∈seen))
theorem TF {L:List (Kz × Kv)} {seen:List Kz} {k:Kz} (hL:∀k,(CC L k).getD (.bool false)=.bool (decide (k∈seen))):∀k',(CC (D9 L k (.bool true)) k').getD (.bool false)=.bool (decide (k'∈k::seen)):=λk'=>by
 rw [G0]
 by_cases h:k'=k
 ·rw [if_pos h];simp [h]
 rw [if_neg h,hL];simp [h]
theorem sZ {w:Kw} {g:Nat} {L:List (Kz × Kv)} (h:Mp w g L):g<w.heap.size:=by
 obtain ⟨es,cl,h1,_⟩:=h;exact (An.1 h1).1
theorem Mem.cellMp {w:Kw} {g3 g6 t:Nat} {cs:Kx} {L:List (Kz × Kv)} (hc:Blk w g3 t cs) (hm:Mp w g6 L) (hne:¬g3=g6):Mem w (λk=>k=g3∨k=g6) [As.blk g3 t cs,As.mp g6 L] w where
 fr:=Fr.refl
 ok i a hi:=by
  match i with
  | 0=>simp only [Ai,Ad] at hi;subst hi;exact hc
  | 1=>simp only [Bn,Ai,Ad] at hi;subst hi;exact hm
  | i+2=>simp at hi
 lt i a hi g hg:=by
  match i with
  | 0=>
   simp only [Ai,Ad] at hi;subst hi
   simp only [As.blk,Au] at hg;subst hg;exact ⟨hc.lt,.inr (.inl rfl)⟩
  | 1=>
   simp only [Bn,Ai,Ad] at hi;subst hi
   simp only [As.mp,Au] at hg;subst hg;exact ⟨sZ hm,.inr (.inr rfl)⟩
  | i+2=>simp at hi
 apart i j a b hi hj hij g hg hg':=by
  match i,j with
  | 0,0=>exact hij rfl
  | 1,1=>exact hij rfl
  | 0,1=>
   simp only [Bn,Ai,Ad] at hi hj;subst hi;subst hj
   simp only [As.blk,As.mp,Au] at hg hg';exact hne (hg▸hg')
  | 1,0=>
   simp only [Bn,Ai,Ad] at hi hj;subst hi;subst hj
   simp only [As.blk,As.mp,Au] at hg hg';exact hne (hg'▸hg)
  | i+2,_=>simp at hi
  | 0,j+2=>simp at hj
  | 1,j+2=>simp at hj
theorem Mem.neMp {w0 w:Kw} {S:Nat→Prop} {L:List As} (M:Mem w0 S L w) (i j:Nat) {a b t:Nat} {cs:Kx} {K:List (Kz × Kv)} (hi:L[i]?=some (As.blk a t cs)) (hj:L[j]?=some (As.mp b K)) (h:i≠j):¬a=b:=λe=>
 M.apart i j _ _ hi hj h a (by simp [As.blk]) (by simp [As.mp,e])
theorem Fresh.keep {w w':Kw} {g3 g6:Nat} {seen:List Kz} (hk:∀g∈[g3,g6],g<w.heap.size→w'.heap[g]?=w.heap[g]?) (h:Fresh w g3 g6 seen):Fresh w' g3 g6 seen:=by
 obtain ⟨hc,hne,L,⟨es,cl,h1,h2⟩,hL⟩:=h;exact ⟨(hk g3 (by simp) hc.lt).trans hc,hne,L,⟨es,cl,(hk g6 (by simp) (An.1 h1).1).trans h1,h2⟩,hL⟩
def As.fresh (g3 g6:Nat) (seen:List Kz):As:=⟨[g3,g6],λw=>Fresh w g3 g6 seen,λh hb=>hb.keep h⟩
theorem Mem.oneFresh {w:Kw} {g3 g6:Nat} {seen:List Kz} (h:Fresh w g3 g6 seen):Mem w (λk=>k=g3∨k=g6) [As.fresh g3 g6 seen] w where
 fr:=Fr.refl
 ok i a hi:=by
  cases i with
  | zero=>simp only [Ai,Ad] at hi;subst hi;exact h
  | succ i=>simp at hi
 lt i a hi g hg:=by
  cases i with
  | zero=>
   simp only [Ai,Ad] at hi;subst hi
   obtain ⟨hc,_,L,hm,_⟩:=h;simp only [As.fresh,Ak,Ax,or_false] at hg
   rcases hg with rfl|rfl
   ·exact ⟨hc.lt,.inr (.inl X)⟩
   exact ⟨sZ hm,.inr (.inr X)⟩
  | succ i=>simp at hi
 apart i j a b hi hj hij:=by
  cases i with
  | zero=>cases j with
   | zero=>exact absurd rfl hij
   | succ j=>simp at hj
  | succ i=>simp at hi
theorem Mem.updFresh {w0 w w':Kw} {S:Nat→Prop} {L:List As} (M:Mem w0 S L w) (i:Nat) {g3 g6:Nat} {seen seen':List Kz} (hi:L[i]?=some (As.fresh g3 g6 seen)) (hF:Fresh w' g3 g6 seen') (hf:Fr (λk=>k=g3∨k=g6) w w'):Mem w0 S (L.set i (As.fresh g3 g6 seen')) w':=
 M.upd i hi (hf.mono λk _ e=>by simpa [As.fresh] using e) (As.fresh g3 g6 seen') hF (λg' hg'=>.inl hg')
def aF (k:Nat):Prop:=∃p∈utfL,p.1=k
theorem OL {S:Nat→Prop} {w w':Kw} (h:Laid w utfL) (hf:Fr S w w') (hS:∀k,S k→¬aF k):Laid w' utfL:=λp hp=>by
 obtain ⟨el,fz,h1⟩:=h p hp;exact ⟨el,fz,(hf.block _ (An.1 h1).1 (λhh=>hS _ hh ⟨p,hp,X⟩)).trans h1⟩
theorem IN : (prog.info? 143).map (·.size)=some 1:=by kernel_rfl
theorem QV : (prog.info? 4).map (·.zero)=some (some (.bool false)):=by kernel_rfl
theorem IM : (prog.info? 143).map (·.zero)=some (some (.map none)):=by kernel_rfl
theorem TH (g3 g6:Nat) (seen:List Kz) (k:Kz) (w:Kw) (hk:(k.length:Int)<4611686018427387904) (hF:Fresh w g3 g6 seen) :
 Calls prog 177 #[str k,pg g3] w λe w'=>e=.returned (.bool (GA k seen))∧Fresh w' g3 g6 (k::seen)∧Fr (λk=>k=g3∨k=g6) w w':=by
 obtain ⟨hc,hne,L,hm,hL⟩:=hF;refine sx_enter (vs:=[_,_]) func177 X ntmps177 X ?_;have M:Mem w (λk=>k=g3∨k=g6) [As.blk g3 143 [.map (some g6)],As.mp g6 L] w:=Mem.cellMp hc hm hne;refine W ?_;refine CW M 6 X X call37 (EN _ _ (by first|assumption|omega)) λw1 M=>yb X (fvm M 5 [1,0] [(12,.bool ((B6 k)&&(!(decide (k∈seen)))))] ?_ (λk7=>?_))
 ·intro w2 M;refine W ?_;refine GJ M 1 kw X X X X X Ec Aa X λw3 M=>W ?_
  exact gr1 X ⟨X,⟨M.blk 0 X,hne,_,M.mp 1 X,TF hL⟩,M.fr⟩
 refine A1 (d:=7) X (λh7=>?_) (λh7=>?_)
 ·refine W ?_;refine yd X (CD X X X Ec Aa QV (M.mp 1 X) (hL _)) (T2 ?_);exact k7 M
 refine T5 ?_;exact k7 M
theorem Z5 (A:Ky) (c:Nat) (tk:List Kz) (w:Kw) (hl:tk.length≤4611686018427387904) (hR:Rd w A (tk.length*1) (AE BG tk)) :
 Calls prog 117 #[.slice A tk.length c] w λe w'=>∃g3 g6,e=.returned (.func (.func 177) #[] #[pg g3])∧Fresh w' g3 g6 tk.reverse∧(∀k∈[g3,g6],w.heap.size≤k∧k<w'.heap.size)∧Fr0 w w':=by
 refine BR func117 ntmps117 X λM=>W ?_
 refine K4 M kw X X X λg6 w1 hg6 M=>FR M kw X X 143 X [.map none] IM X λg3 w2 hg3 M=>gp1 M 0 X X X IN λw3 M=>W ?_
 refine flp [8,7,3] (λze e wr mz=>∃(i:Nat) (L:List (Kz × Kv)),e=(9,AA (i:Int))::ze∧Mem w AR [As.blk g3 143 [.map (some g6)],As.mp g6 L] wr∧(i≤tk.length)∧(∀k,(CC L k).getD (.bool false)=.bool (decide (k∈(tk.take i).reverse)))∧mz=tk.length-i) ⟨0,[],X,M,Ae _,λ_=>X,X⟩ ?_;rintro _ w4 _ ⟨i,L,rfl,M,hi,hL,rfl⟩;refine W ?_;refine AB X (λh10=>?_) (λh10=>?_)
 ·have h10p:=odt h10;refine W ?_;obtain ⟨x,_,_,hx,hA_x⟩:=ex5 (i:=i) (hR.fr0 M.fr);refine ya X (AK i hA_x X X X (sl X) A0) (yl X X (BD DI (hR.fr0 M.fr) hA_x hx 0 X) (W ?_));refine GJ M 1 kw X X X X X Ec Aa X λw5 M=>W ?_
  refine fag ⟨i+1,D9 L x (.bool true),X,M,?_,?_,X⟩
  ·omega
  rw [AS hx,List.reverse_append];exact TF hL
 have h10p:=odf h10;refine W ?_;have hiE:i=tk.length:=by omega
 rw [hiE,Ba] at hL
 refine W ?_;refine ya X (CY (us:=[]) (vs:=[pg g3]) X X X) (W ?_);refine gr1 X ?_
 exact ⟨_,_,X,⟨M.blk 0 X,M.neMp 0 1 X X AV,_,M.mp 1 X,hL⟩,(λk hk=>by
  rcases Ak.1 hk with rfl|hk
  ·exact M.new0 0 X k (by simp [As.blk])
  obtain rfl:k=_:=by simpa using hk
  exact M.new0 1 X _ (by simp [As.mp])),M.fr⟩
theorem yL (g3 g6 g5:Nat) (seen:List Kz) (x:Bd) (w:Kw) (hx0:((x.name).length:Int)<4611686018427387904) (hx1:((x.v.text).length:Int)<4611686018427387904) (hT:Laid w utfL) (hTn:∀k,(λk=>k=g3∨k=g6) k→¬aF k) (hF:Fresh w g3 g6 seen) (hn5:¬(g5=g3∨g5=g6)) (hb5:Blk w g5 91 [.func (.func 177) #[] #[pg g3]]) :
 Calls prog 120 #[.agg x.cells.toArray,pg g5] w λe w'=>e=.returned (.bool (GA x.name seen&&decide (chk x.v=(0:Int))))∧Fresh w' g3 g6 (x.name::seen)∧Fr (λk=>k=g3∨k=g6) w w':=by
 refine sx_enter (vs:=[_,_]) func120 X ntmps120 X ?_;have M:Mem w (λk=>k=g3∨k=g6) [As.fresh g3 g6 seen] w:=Mem.oneFresh hF;refine W ?_;refine CO M X X λg2 w1 hg2 M=>T5 ?_
 refine yl X X (Blk.c (hb5.fr M.fr hn5) 0 X) (W ?_);refine cl 7 X (C5 X X X call177) (TH g3 g6 seen x.name _ hx0 (M.ok 1 _ X)) ?_;rintro _ w2 ⟨rfl,hFw2,hfw2⟩;have M:=M.updFresh 1 X hFw2 hfw2;refine cq (yb X (fvm M 5 [3] [(13,.bool ((GA x.name seen)&&(decide ((chk (⟨x.v.kind,x.v.int,x.v.bool,x.v.text⟩:Vl))=(0:Int)))))] ?_ (λk8=>?_)))
 ·intro w3 M;refine W ?_;exact gr1 X ⟨X,M.ok 1 _ X,M.fr⟩
 refine A1 (d:=8) X (λh8=>?_) (λh8=>?_)
 ·refine gyq X (yd X (AI (xs:=[.int .u8 (x.v.kind.toNat:Int),AA x.v.int,.bool x.v.bool,str x.v.text]) X X (DR (M.blk 0 X) 1 4 X X) Br X BQ) (sxl_call (some 11) kw X X (AD X X call38) (JS (⟨x.v.kind,x.v.int,x.v.bool,x.v.text⟩:Vl) _ hx1 (OL hT M.fr hTn)) ?_));rintro _ w4 ⟨rfl,hfw4⟩;refine cq ?_;have M:=M.step hfw4;refine T2 ?_;exact k8 M
 refine T5 ?_;exact k8 M
theorem yK (g3 g6 g5:Nat) (seen:List Kz) (x:El) (w:Kw) (hx0:((x.id).length:Int)<4611686018427387904) (hx1:((x.nm).length:Int)<4611686018427387904) (hT:Laid w utfL) (hTn:∀k,(λk=>k=g3∨k=g6) k→¬aF k) (hF:Fresh w g3 g6 seen) (hn5:¬(g5=g3∨g5=g6)) (hb5:Blk w g5 91 [.func (.func 177) #[] #[pg g3]]) :
 Calls prog 123 #[.agg x.cells.toArray,pg g5] w λe w'=>e=.returned (.bool (GA x.id seen&&R5 x.nm))∧Fresh w' g3 g6 (x.id::seen)∧Fr (λk=>k=g3∨k=g6) w w':=by
 refine sx_enter (vs:=[_,_]) func123 X ntmps123 X ?_;have M:Mem w (λk=>k=g3∨k=g6) [As.fresh g3 g6 seen] w:=Mem.oneFresh hF;refine W ?_;refine CO M X X λg2 w1 hg2 M=>T5 ?_
 refine yl X X (Blk.c (hb5.fr M.fr hn5) 0 X) (W ?_);refine cl 7 X (C5 X X X call177) (TH g3 g6 seen x.id _ hx0 (M.ok 1 _ X)) ?_;rintro _ w2 ⟨rfl,hFw2,hfw2⟩;have M:=M.updFresh 1 X hFw2 hfw2;refine cq (yb X (fvm M 4 [3] [(12,.bool ((GA x.id seen)&&(R5 x.nm)))] ?_ (λk8=>?_)))
 ·intro w3 M;refine W ?_;exact gr1 X ⟨X,M.ok 1 _ X,M.fr⟩
 refine A1 (d:=8) X (λh8=>?_) (λh8=>?_)
 ·refine W ?_;refine sxl_call (some 11) kw X X (AD X X call116) (kN _ _ hx1 (OL hT M.fr hTn)) ?_;rintro _ w4 ⟨rfl,hfw4⟩;refine cq ?_;have M:=M.step hfw4;exact yb X (k8 M)
 refine T4 ?_;exact k8 M
theorem yJ (g3 g6 g5:Nat) (seen:List Kz) (x:Fl) (w:Kw) (hx0:((x.id).length:Int)<4611686018427387904) (_hT:Laid w utfL) (_hTn:∀k,(λk=>k=g3∨k=g6) k→¬aF k) (hF:Fresh w g3 g6 seen) (hn5:¬(g5=g3∨g5=g6)) (hb5:Blk w g5 91 [.func (.func 177) #[] #[pg g3]]) :
 Calls prog 126 #[.agg x.cells.toArray,pg g5] w λe w'=>e=.returned (.bool (GA x.id seen))∧Fresh w' g3 g6 (x.id::seen)∧Fr (λk=>k=g3∨k=g6) w w':=by
 refine sx_enter (vs:=[_,_]) func126 X ntmps126 X ?_;have M:Mem w (λk=>k=g3∨k=g6) [As.fresh g3 g6 seen] w:=Mem.oneFresh hF;refine W ?_;refine CO M X X λg2 w1 hg2 M=>T5 ?_
 refine yl X X (Blk.c (hb5.fr M.fr hn5) 0 X) (W ?_);refine cl 7 X (C5 X X X call177) (TH g3 g6 seen x.id _ hx0 (M.ok 1 _ X)) ?_;rintro _ w2 ⟨rfl,hFw2,hfw2⟩;have M:=M.updFresh 1 X hFw2 hfw2;refine cq (W ?_);exact gr1 X ⟨X,M.ok 1 _ X,M.fr⟩
section
def FT {α:Type} (f:α→Kz) (base:List Kz) (l:List α) (i:Nat):List Kz:=((l.take i).map f).reverse++base
theorem Q9 {α:Type} {f:α→Kz} {base:List Kz} {l:List α} {i:Nat} {x:α} (hx:l[i]?=some x):FT f base l (i+1)=f x::FT f base l i:=by
 unfold FT;rw [AS hx,Ck,List.reverse_append];rfl
def pV (m:Md) (i:Nat) (x:Bd):Bool:=GA x.name (FT (λx=>x.name) [] m.vars i)&&decide (chk x.v=(0:Int))
def pE (m:Md) (i:Nat) (x:El):Bool:=GA x.id (FT (λx=>x.id) [m.id] m.els i)&&R5 x.nm
def pF (m:Md) (i:Nat) (x:Fl):Bool:=GA x.id (FT (λx=>x.id) (FT (λx=>x.id) [m.id] m.els m.els.length) m.fls i)
def QC (m:Md):Bool:=(((((!(B6 m.id)) || (!(R5 m.nm))) || (decide ((64:Int)<((m.els.length:Nat):Int)))) || (decide ((128:Int)<((m.fls.length:Nat):Int)))) || (decide ((16:Int)<((m.vars.length:Nat):Int))))
def FG (m:Md):Option Kz:=if QC m=true then some [] else match ffN (pV m) 0 m.vars with
 | some b=>some b.name
 | none=>match ffN (pE m) 0 m.els with
  | some b=>some b.id
  | none=>(ffN (pF m) 0 m.fls).map (·.id)
section
variable {m:Md} (h:QC m=false)
include h
theorem a2r (h1:(ffN (pV m) 0 m.vars).isSome=true):Value.tuple #[str ((ffN (pV m) 0 m.vars).elim [] (λx=>x.name)),.bool true]=MD (FG m):=by
 unfold FG;rw [AM h]
 cases hq:ffN (pV m) 0 m.vars with
 | none=>rw [hq] at h1;cases h1
 | some b=>rfl
theorem a2t (h1:(ffN (pV m) 0 m.vars).isSome=false) (h2:(ffN (pE m) 0 m.els).isSome=true):Value.tuple #[str ((ffN (pE m) 0 m.els).elim [] (λx=>x.id)),.bool true]=MD (FG m):=by
 unfold FG;rw [AM h]
 cases hq:ffN (pV m) 0 m.vars with
 | some b=>rw [hq] at h1;cases h1
 | none=>
  cases hr:ffN (pE m) 0 m.els with
  | none=>rw [hr] at h2;cases h2
  | some b=>rfl
theorem a2s (h1:(ffN (pV m) 0 m.vars).isSome=false) (h2:(ffN (pE m) 0 m.els).isSome=false):Value.tuple #[str ((ffN (pF m) 0 m.fls).elim [] (λx=>x.id)),.bool (ffN (pF m) 0 m.fls).isSome]=MD (FG m):=by
 unfold FG;rw [AM h]
 cases hq:ffN (pV m) 0 m.vars with
 | some b=>rw [hq] at h1;cases h1
 | none=>
  cases hr:ffN (pE m) 0 m.els with
  | some b=>rw [hr] at h2;cases h2
  | none=>cases ffN (pF m) 0 m.fls<;>rfl
end
theorem lO {α:Type} {p:Nat→α→Bool}:∀(l:List α) (i:Nat),ffN p i l=none→ixN (λi x => !(p i x)) i l=i+l.length
 | [],_,_=>rfl
 | x::r,i,h=>by
  rw [ffN] at h
  by_cases hp:p i x=true
  ·rw [if_pos hp] at h
   rw [ixN,if_neg (by simp [hp]),lO r (i+1) h,Af];omega
  rw [if_neg hp] at h;cases h
theorem zD {α:Type} {p:Nat→α→Bool} {l:List α} (h:(ffN p 0 l).isSome=false):ixN (λi x => !(p i x)) 0 l=l.length:=by
 have:ffN p 0 l=none:=by
  cases hq:ffN p 0 l with
  | none=>rfl
  | some x=>rw [hq] at h;cases h
 rw [lO l 0 this,Cm]
theorem HC {w wc w9:Kw} {S:Nat→Prop} (hf:Fr0 w wc) (h9:Fr S wc w9) (hS:∀k,S k→w.heap.size≤k):Fr0 w w9:=
 ⟨h9.os.trans hf.os,h9.tape.trans hf.tape,h9.output.trans hf.output,Bb hf.size h9.size,λk hk _=>(h9.block k (Bw hk hf.size) (λhh=>by have:=hS k hh;omega)).trans (hf.block k hk (λhh=>hh))⟩
theorem wD {k:Nat} (h:aF k):k<nGlob:=by
 have hn:=eT;simp only [Bh] at hn
 obtain ⟨n1,n2,_,_⟩:=hn;obtain ⟨p,hp,rfl⟩:=h;simp only [utfL,Ak,Ax,or_false] at hp
 rcases hp with rfl|rfl
 ·exact CF n1
 exact CF n2
theorem Mem.newF {w0 w:Kw} {L:List As} (M:Mem w0 AR L w) (i:Nat) {g3 g6:Nat} {seen:List Kz} (hi:L[i]?=some (As.fresh g3 g6 seen)):∀k,(k=g3∨k=g6)→w0.heap.size≤k:=λk hk=>
 (M.new0 i hi k (by simpa [As.fresh] using hk)).1
theorem Mem.noU {w0 w:Kw} {L:List As} (M:Mem w0 AR L w) (i:Nat) {g3 g6:Nat} {seen:List Kz} (hi:L[i]?=some (As.fresh g3 g6 seen)) (hY:Lay0 w0):∀k,(k=g3∨k=g6)→¬aF k:=λk hk hu=>by
 have h1:=M.newF i hi k hk;have h2:nGlob≤w0.heap.size:=hY.size;have h3:=wD hu;omega
theorem Mem.neFresh {w0 w:Kw} {S:Nat→Prop} {L:List As} (M:Mem w0 S L w) (i j:Nat) {g t g3 g6:Nat} {cs:Kx} {seen:List Kz} (hi:L[i]?=some (As.blk g t cs)) (hj:L[j]?=some (As.fresh g3 g6 seen)) (h:i≠j):¬(g=g3∨g=g6):=λhh=>
 M.apart i j _ _ hi hj h g (by simp [As.blk]) (by simpa [As.fresh] using hh)
section
variable {g3 g6 g5:Nat} {base:List Kz} {w:Kw}
theorem TG (hF:Fresh w g3 g6 base):∀g,(g=g3∨g=g6)→g<w.heap.size:=λg hg=>by
 obtain ⟨h1,_,L,h2,_⟩:=hF;rcases hg with rfl|rfl
 ·exact h1.lt
 exact sZ h2
theorem sE {l:List Bd} (hok:BdOk l) (hT:Laid w utfL) (hF:Fresh w g3 g6 base) (hnu:∀k,(k=g3∨k=g6)→¬aF k) (hn5:¬(g5=g3∨g5=g6)) (hb5:Blk w g5 91 [.func (.func 177) #[] #[pg g3]]) :
 PredJ prog 120 [pg g5] (λx:Bd=>.agg x.cells.toArray) l (λi x=>GA x.name (FT (λx=>x.name) base l i)&&decide (chk x.v=(0:Int))) (λk=>k=g3∨k=g6) (λi W=>Fresh W g3 g6 (FT (λx=>x.name) base l i)) w where
 fn:=call120
 call i x w1 hx hf hJ:=by
  have hm:=Ac hx;have h:=yL g3 g6 g5 (FT (λx=>x.name) base l i) x w1 (hok.name x hm) (hok.text x hm) (OL hT hf hnu) hnu hJ hn5 (hb5.fr hf hn5);rw [←Q9 (f:=λx:Bd=>x.name) (base:=base) hx] at h
  exact h
 st i w1 w2 hf hJ:=hJ.keep (λg _ hg=>hf.block g hg (λhh=>hh))
 old:=TG hF
theorem sD {l:List El} (hok:∀x∈l,ElOk x) (hT:Laid w utfL) (hF:Fresh w g3 g6 base) (hnu:∀k,(k=g3∨k=g6)→¬aF k) (hn5:¬(g5=g3∨g5=g6)) (hb5:Blk w g5 91 [.func (.func 177) #[] #[pg g3]]) :
 PredJ prog 123 [pg g5] (λx:El=>.agg x.cells.toArray) l (λi x=>GA x.id (FT (λx=>x.id) base l i)&&R5 x.nm) (λk=>k=g3∨k=g6) (λi W=>Fresh W g3 g6 (FT (λx=>x.id) base l i)) w where
 fn:=call123
 call i x w1 hx hf hJ:=by
  have hm:=Ac hx;have h:=yK g3 g6 g5 (FT (λx=>x.id) base l i) x w1 (hok x hm).id (hok x hm).nm (OL hT hf hnu) hnu hJ hn5 (hb5.fr hf hn5);rw [←Q9 (f:=λx:El=>x.id) (base:=base) hx] at h
  exact h
 st i w1 w2 hf hJ:=hJ.keep (λg _ hg=>hf.block g hg (λhh=>hh))
 old:=TG hF
theorem sC {l:List Fl} (hok:∀x∈l,FlOk x) (hT:Laid w utfL) (hF:Fresh w g3 g6 base) (hnu:∀k,(k=g3∨k=g6)→¬aF k) (hn5:¬(g5=g3∨g5=g6)) (hb5:Blk w g5 91 [.func (.func 177) #[] #[pg g3]]) :
 PredJ prog 126 [pg g5] (λx:Fl=>.agg x.cells.toArray) l (λi x=>GA x.id (FT (λx=>x.id) base l i)) (λk=>k=g3∨k=g6) (λi W=>Fresh W g3 g6 (FT (λx=>x.id) base l i)) w where
 fn:=call126
 call i x w1 hx hf hJ:=by
  have hm:=Ac hx;have h:=yJ g3 g6 g5 (FT (λx=>x.id) base l i) x w1 (hok x hm).id (OL hT hf hnu) hnu hJ hn5 (hb5.fr hf hn5);rw [←Q9 (f:=λx:Fl=>x.id) (base:=base) hx] at h
  exact h
 st i w1 w2 hf hJ:=hJ.keep (λg _ hg=>hf.block g hg (λhh=>hh))
 old:=TG hF
end
theorem I2 : (prog.info? 91).map (·.size)=some 1:=by kernel_rfl
theorem zr_api_Model : (prog.info? 48).map (·.zero)=some (some (.agg #[str [],str [],.slice none 0 0,.slice none 0 0,.slice none 0 0])):=by kernel_rfl
theorem I0 : (prog.info? 91).map (·.zero)=some (some (.nilFunc)):=by kernel_rfl
theorem yI (m:Md) (a:MdA) (ix:IxA) (gx:Nat) (w:Kw) (ho:MdB m) (hx:IxAt w m a ix gx) (hY:Lay0 w) :
 Calls prog 69 #[pg gx] w (BS w (MD (FG m))):=by
 refine BR func69 ntmps69 X λM=>W ?_
 refine ya X (AI (xs:=[str m.id,str m.nm,.slice a.V m.vars.length a.vc,.slice a.E m.els.length a.ec,.slice a.F m.fls.length a.fc]) X X (DR ((hx.fr0 M.fr).blk) 0 5 X X) Al X AN) (CI M X zr_api_Model λg4 w1 hg4 M=>BY M 0 X X AN X λw2 M=>W ?_);refine CW M 17 X X call37 (EN _ _ ho.id) λw3 M=>W ?_
 refine fvm M 5 [4] [(24,.bool ((!(B6 m.id)) || (!(R5 m.nm))))] ?_ (λk19=>?_)
 ·intro w4 M;refine yb X (fvm M 5 [4] [(30,.bool (((!(B6 m.id)) || (!(R5 m.nm))) || (decide (64<(m.els.length:Int)))))] ?_ (λk25=>?_))
  ·intro w5 M;refine yb X (fvm M 5 [4] [(36,.bool ((((!(B6 m.id)) || (!(R5 m.nm))) || (decide (64<(m.els.length:Int)))) || (decide (128<(m.fls.length:Int)))))] ?_ (λk31=>?_))
   ·intro w6 M;refine yb X (fvm M 5 [4] [(42,.bool (((((!(B6 m.id)) || (!(R5 m.nm))) || (decide (64<(m.els.length:Int)))) || (decide (128<(m.fls.length:Int)))) || (decide (16<(m.vars.length:Int)))))] ?_ (λk37=>?_))
    ·intro w7 M;refine W ?_;refine AB X (λh42=>?_) (λh42=>?_)
     ·have h42p:=bd h42;refine W ?_;exact AZ X X X ⟨by rw [show FG m=some [] from if_pos h42];rfl,M.fr⟩
     have h42p:=bd h42;refine W ?_;refine cl 43 X (AD X X call117) (Z5 none 0 [] _ (Ae _) Rd.nil) ?_;rintro _ w8 ⟨ga43,gb43,rfl,hfr,hnw,hfw8⟩;refine cq ?_;have M:=M.push hfw8 (As.fresh ga43 gb43 []) hfr hnw;refine FR M kw X X 91 X [.nilFunc] I0 X λg5 w9 hg5 M=>D1 (cs':=[.func (.func 177) #[] #[pg ga43]]) M 0 kw X X X X X X X I2 (CF X) X λw10 M=>W ?_
     refine ya X (CY (us:=[]) (vs:=[pg g5]) X X X) ?_;have hnU48:=M.noU 1 X hY;have hnw48:∀k,(k=ga43∨k=gb43)→w.heap.size≤k:=M.newF 1 X
     refine cl 48 X (AD X X call118) (uF a.V a.vc m.vars (by have:=ho.nvars;have:=ho.nels;have:=ho.nfls;omega) 120 [pg g5] (pV m) (λk=>k=ga43∨k=gb43) (λi W=>Fresh W ga43 gb43 (FT (λx:Bd=>x.name) [] m.vars i)) _ (sE ho.vars (HM hY.utf M.fr) (M.ok 1 _ X) hnU48 (M.neFresh 0 1 X X AV) (M.blk 0 X)) (λw9 hf9=>hx.md.vars.fr0 (HC M.fr hf9 hnw48)) (M.ok 1 _ X)) ?_;rintro _ w11 ⟨rfl,hJw11,hfw11⟩;have M:=M.updFresh 1 X hJw11 hfw11;refine cq (W ?_);refine AB X (λh51=>?_) (λh51=>?_)
     ·refine W ?_;exact AZ X X X ⟨Ay Ending.returned (a2r h42 h51),M.fr⟩
     refine W ?_;refine CV M kw X X [str m.id] ([str m.id]) X X X X Az CG X X (GT X) X λg55 w12 hg55 M=>cl 56 X (AD X X call117) (Z5 (some ⟨g55,0,none⟩) 1 [m.id] _ (CL X) (M.rdBlk 0 X X)) ?_
     rintro _ w13 ⟨ga56,gb56,rfl,hfr,hnw,hfw13⟩;refine cq ?_;have M:=M.push hfw13 (As.fresh ga56 gb56 [m.id]) hfr hnw;refine FR M kw X X 91 X [.nilFunc] I0 X λg8 w14 hg8 M=>D1 (cs':=[.func (.func 177) #[] #[pg ga56]]) M 0 kw X X X X X X X I2 (CF X) X λw15 M=>W ?_
     refine ya X (CY (us:=[]) (vs:=[pg g8]) X X X) ?_;have hnU61:=M.noU 1 X hY;have hnw61:∀k,(k=ga56∨k=gb56)→w.heap.size≤k:=M.newF 1 X
     refine cl 61 X (AD X X call121) (fK a.E a.ec m.els (by have:=ho.nvars;have:=ho.nels;have:=ho.nfls;omega) 123 [pg g8] (pE m) (λk=>k=ga56∨k=gb56) (λi W=>Fresh W ga56 gb56 (FT (λx:El=>x.id) [m.id] m.els i)) _ (sD ho.els (HM hY.utf M.fr) (M.ok 1 _ X) hnU61 (M.neFresh 0 1 X X AV) (M.blk 0 X)) (λw9 hf9=>hx.md.els.fr0 (HC M.fr hf9 hnw61)) (M.ok 1 _ X)) ?_;rintro _ w16 ⟨rfl,hJw16,hfw16⟩;have M:=M.updFresh 1 X hJw16 hfw16;refine cq (W ?_);refine AB X (λh64=>?_) (λh64=>?_)
     ·refine W ?_;exact AZ X X X ⟨Ay Ending.returned (a2t h42 h51 h64),M.fr⟩
     rw [zD h64] at M
     refine W ?_;refine ya X (CY (us:=[]) (vs:=[pg g8]) X X X) ?_;have hnU69:=M.noU 1 X hY;have hnw69:∀k,(k=ga56∨k=gb56)→w.heap.size≤k:=M.newF 1 X
     refine cl 69 X (AD X X call124) (fJ a.F a.fc m.fls (by have:=ho.nvars;have:=ho.nels;have:=ho.nfls;omega) 126 [pg g8] (pF m) (λk=>k=ga56∨k=gb56) (λi W=>Fresh W ga56 gb56 (FT (λx:Fl=>x.id) (FT (λx:El=>x.id) [m.id] m.els m.els.length) m.fls i)) _ (sC ho.fls (HM hY.utf M.fr) (M.ok 1 _ X) hnU69 (M.neFresh 0 1 X X AV) (M.blk 0 X)) (λw9 hf9=>hx.md.fls.fr0 (HC M.fr hf9 hnw69)) (M.ok 1 _ X)) ?_;rintro _ w17 ⟨rfl,hJw17,hfw17⟩;have M:=M.updFresh 1 X hJw17 hfw17;refine cq (W ?_);exact AZ X X X ⟨Ay Ending.returned (a2s h42 h51 h64),M.fr⟩
    refine A1 (d:=37) X (λh37=>?_) (λh37=>?_)
    ·refine T5 ?_;exact k37 M
    refine T5 ?_;exact k37 M
   refine A1 (d:=31) X (λh31=>?_) (λh31=>?_)
   ·refine T5 ?_;exact k31 M
   refine T5 ?_;exact k31 M
  refine A1 (d:=25) X (λh25=>?_) (λh25=>?_)
  ·refine T5 ?_;exact k25 M
  refine T5 ?_;exact k25 M
 refine A1 (d:=19) X (λh19=>?_) (λh19=>?_)
 ·refine T5 ?_;exact k19 M
 refine W ?_;refine sxl_call (some 22) kw X X (AD X X call116) (kN _ _ ho.nm (HM hY.utf M.fr)) ?_;rintro _ w18 ⟨rfl,hfw18⟩;refine cq ?_;have M:=M.step hfw18;refine T2 ?_;exact k19 M
end
end
section
section
theorem ZP (l:List El) (id:Kz):∀i,ffN (λ(_:Nat) (b:El) => !(decide (b.id=id))) i l=AF l id:=by
 induction l with
 | nil=>intro i;rfl
 | cons x r ih=>
  intro i;rw [ffN,AF]
  by_cases h:x.id=id
  ·rw [if_neg (by simp [h]),if_pos h]
  rw [if_pos (by simp [h]),if_neg h];exact ih (i+1)
section
variable {α:Type} {p:α→Bool} {f:α→Kz} {l l':List α} {x:α} {acc:List Kz} (h:acc=(l.filter p).map f) (hl:l'=l++[x])
include h hl
theorem VE (hp:p x=true):acc++[f x]=(l'.filter p).map f:=by rw [hl,Cn,Ck,h];simp [hp]
theorem cF (hp:p x=false):acc=(l'.filter p).map f:=by rw [hl,Cn,Ck,h];simp [hp]
end
def D7 (m:Md) (id:Kz):List Kz:=(m.els.filter (λu=>((decide ((u.kind.toNat:Int)=(9:Int)))&&(decide (u.att=id))))).map (λu=>u.id)
def S3 (m:Md) (id:Kz):List Fl→Option Kz
 | []=>none
 | u::r=>if ((((AF m.els u.frm).isSome)&&(decide (u.tg=id)))&&(decide ((((AF m.els u.frm).getD zeroEl).kind.toNat:Int)=(7:Int))))=true then some ((AF m.els u.frm).getD zeroEl).id else S3 m id r
def PX (m:Md) (id:Kz):Kz × Bool:=
 if ((!((AF m.els id).isSome)) || (!decide ((((AF m.els id).getD zeroEl).kind.toNat:Int)=(8:Int))))=true then ([],false)
 else match S3 m id m.fls with
  | some k=>(k,true)
  | none=>([],false)
theorem XY  : prog.built 106 []=some #[str [],str [],.int .u8 0,str [],str [],str [],.int .u8 0,str [],str [],AA 0,AA 0]:=by kernel_rfl
theorem uH (g3:Nat) (id:Kz) (x:El) (w:Kw) (hb:Blk w g3 9 [str id]) :
 Calls prog 227 #[.agg x.cells.toArray,pg g3] w (BS w (.bool (decide (x.id=id)))):=by
 refine BR func227 ntmps227 X λM=>W ?_
 refine CO M X X λg2 w1 hg2 M=>T7 ?_
 refine yl X X (Blk.c (hb.fr0 M.fr) 0 X) (W ?_);exact gr1 X ⟨X,M.fr⟩
theorem zJ (g3:Nat) (id:Kz) (x:Fl) (w:Kw) (hb:Blk w g3 9 [str id]) :
 Calls prog 81 #[.agg x.cells.toArray,pg g3] w (BS w (.bool (decide (x.tg=id)))):=by
 refine BR func81 ntmps81 X λM=>W ?_
 refine CO M X X λg2 w1 hg2 M=>T7 ?_
 refine yl X X (Blk.c (hb.fr0 M.fr) 0 X) (W ?_);exact gr1 X ⟨X,M.fr⟩
theorem sM (g3:Nat) (id:Kz) (x:Fl) (w:Kw) (hb:Blk w g3 9 [str id]) :
 Calls prog 82 #[.agg x.cells.toArray,pg g3] w (BS w (.bool (decide (x.frm=id)))):=by
 refine BR func82 ntmps82 X λM=>W ?_
 refine CO M X X λg2 w1 hg2 M=>T7 ?_
 refine yl X X (Blk.c (hb.fr0 M.fr) 0 X) (W ?_);exact gr1 X ⟨X,M.fr⟩
theorem lW (m:Md) (a:MdA) (id:Kz) (w:Kw) (ho:MdOk m) (hM:MdIn w m a) :
 Calls prog 208 #[.agg (Md.cells m a).toArray,str id] w (BS w (.tuple #[.agg (((AF m.els id).getD zeroEl).cells).toArray,.bool (AF m.els id).isSome])):=by
 have hne:=ho.nels;have hnf:=ho.nfls;refine BR func208 ntmps208 X λM=>W ?_
 refine CO M X X λg2 w1 hg2 M=>DG M kw X X 9 X X ([str id]) X λg3 w2 hg3 M=>CI M X AP λg4 w3 hg4 M=>W ?_
 refine ya X (CY (us:=[]) (vs:=[pg g3]) X X X) (cl 10 X (AD X X call180) (bL El.cells El.len a.E a.ec m.els A0 227 [pg g3] (λ(_:Nat) (b:El) => !(!(decide (b.id=id)))) AR (λ_ _=>True) _ (IW call227 (λx _ w9 hf9=>(uH g3 id x w9 ((M.blk 1 X).fr0 hf9)).mono λ_ _ ⟨h1,h2⟩=>⟨by rw [h1,Ga],h2⟩)) (λ_ hf9=>(hM.els.fr0 M.fr).fr0 hf9) trivial) ?_);rintro _ w4 ⟨rfl,_,hfw4⟩;refine cq ?_;have M:=M.step hfw4;refine W ?_;refine AB X (λh12=>?_) (λh12=>?_)
 ·have h12p:=odt h12;have hff:=QN (p:=(λ(_:Nat) (b:El) => !(decide (b.id=id)))) h12p;rw [ZP] at hff
  refine W ?_;refine ya X (B7 (parts:=[]) X X (XY)) (BY M 0 X X AJ X λw5 M=>W ?_);exact FQ X X (M.rdBlk 0 X X) Bf X AJ X ⟨by rw [hff];rfl,M.fr⟩
 have h12p:=odf h12;obtain ⟨j,x,hj,hx,hff⟩:=QO (p:=(λ(_:Nat) (b:El) => !(decide (b.id=id)))) h12p;have hjl:j<m.els.length:=(Aj.1 hx).1;rw [hj];obtain ⟨b_x,o_x,hA_x⟩:=E3 (k:=11) A0 (M.rd hM.els) hx;rw [ZP] at hff
 refine W ?_;refine ya X (AK j hA_x X X X (sl X) A0) (ya X (AI X X (BM El.len (M.rd hM.els) hA_x hx) Bf X AJ) (BY M 0 X X AJ X λw6 M=>W ?_));exact FQ X X (M.rdBlk 0 X X) Bf X AJ X ⟨by rw [hff];rfl,M.fr⟩
theorem fG (m:Md) (a:MdA) (f:FuncId) (cs:Kx) (p:Fl→Bool) (w:Kw) (ho:MdOk m) (hM:MdIn w m a) (hfn:∀(ar:Array Kv) (w:Kw),(callFunc f ar).run prog w=.ok (.enter f ar) w)
 (hp:∀x∈m.fls,∀W,Fr0 w W→Calls prog f (.agg x.cells.toArray::cs).toArray W λe W'=>e=.returned (.bool (p x))∧Fr0 W W') :
 Calls prog 80 #[.agg (Md.cells m a).toArray,.func (.func f) #[] cs.toArray] w λe w'=>∃A c,e=.returned (.slice A ((m.fls.filter (λu=>p u)).map (λu=>u.id)).length c)∧w'.ownsRow w.heap.size 9 1 (.slice A ((m.fls.filter (λu=>p u)).map (λu=>u.id)).length c) ((m.fls.filter (λu=>p u)).map (λu=>u.id)).length (AE BG ((m.fls.filter (λu=>p u)).map (λu=>u.id)))∧Fr0 w w':=by
 have hne:=ho.nels;have hnf:=ho.nfls;refine BR func80 ntmps80 X λM=>W ?_
 refine CO M X X λg2 w1 hg2 M=>W ?_
 have M:=M.nilOwn 9 1;refine flp [10,9,1] (λze e wr mz=>∃(i:Nat) (acc:List Kz) (A:Ky) (c:Nat),e=(5,.slice A acc.length c)::(11,AA (i:Int))::ze∧Mem w AR [As.own w.heap.size 9 1 (.slice A acc.length c) acc.length (AE BG acc),As.blk g2 48 (Md.cells m a)] wr∧(i≤m.fls.length)∧(acc=((m.fls.take i).filter (λu=>p u)).map (λu=>u.id))∧(acc.length≤i)∧mz=m.fls.length-i) ⟨0,[],none,0,X,M,Ae _,X,Ab _,X⟩ ?_;rintro _ w2 _ ⟨i,acc,A,c,rfl,M,hi,hacc,hal,rfl⟩;refine W ?_;refine AB X (λh12=>?_) (λh12=>?_)
 ·have h12p:=odt h12;refine W ?_;obtain ⟨u,_,_,hu,hA_u⟩:=ex5 (i:=i) (M.rd hM.fls);refine ya X (AK i hA_u X X X (sl X) A0) (ya X (AI X X (BM Fl.len (M.rd hM.fls) hA_u hu) Cf X BU) (CI M X DS λg7 w3 hg7 M=>BY M 0 X X BU X λw4 M=>W ?_));refine CH M 0 X X Cf BU X (PN M 17 X (C5 X X X hfn) (hp u (Ac hu) _ M.fr) λw5 M=>W ?_);refine AB X (λh17=>?_) (λh17=>?_)
  ·refine W ?_;refine CV M kw X X [str u.id] ([str u.id]) X X X X Az CG X X (GT X) X λg21 w6 hg21 M=>CN (len':=(acc++[u.id]).length) (xs':=AE BG (acc++[u.id])) M 2 kw X X X X X X (M.rdBlk 0 X X) Az C0 X AV (BW X) (Ab _) (Ab _) DC (by unfold maxLen;first|omega|(simp;omega)) (by simp) (by first|exact (B3 _ _ _).symm|simp [AE,BG]) λA22 c22 w7 M=>W ?_
   refine fag ⟨i+1,acc++[u.id],A22,c22,X,(M.pk [2,3]),?_,?_,?_,X⟩
   ·omega
   ·first
     | exact VE hacc (AS hu) h17
     | exact cF hacc (AS hu) h17
   first|omega|(simp only [Ah,Af,Aq];omega)
  refine W ?_;refine fag ⟨i+1,acc,A,c,X,(M.pk [1,2]),?_,?_,?_,X⟩
  ·omega
  ·first
    | exact VE hacc (AS hu) h17
    | exact cF hacc (AS hu) h17
  first|omega|(simp only [Ah,Af,Aq];omega)
 have h12p:=odf h12;refine W ?_;have hiE:i=m.fls.length:=by omega
 rw [hiE,Ba] at hacc
 refine W ?_;refine gr1 X ?_;rw [←hacc];exact ⟨_,_,X,M.own 0 X,M.fr⟩
theorem zH (m:Md) (a:MdA) (id:Kz) (w:Kw) (ho:MdOk m) (hM:MdIn w m a) :
 Calls prog 44 #[.agg (Md.cells m a).toArray,str id] w λe w'=>∃A c,e=.returned (.slice A ((E4 m.fls id).map (λu=>u.id)).length c)∧w'.ownsRow w.heap.size 9 1 (.slice A ((E4 m.fls id).map (λu=>u.id)).length c) ((E4 m.fls id).map (λu=>u.id)).length (AE BG ((E4 m.fls id).map (λu=>u.id)))∧Fr0 w w':=by
 refine BR func44 ntmps44 X λM=>W ?_
 refine CO M X X λg2 w1 hg2 M=>DG M kw X X 9 X X ([str id]) X λg3 w2 hg3 M=>W ?_
 refine CH M 1 X X Al AN X (ya X (CY (us:=[]) (vs:=[pg g3]) X X X) (MF M 7 X (AD X X call80) (fG m a 81 [pg g3] (λu=>decide (u.tg=id)) _ ho (hM.fr0 M.fr) call81 (λx _ W hW=>zJ g3 id x W ((M.blk 0 X).fr0 hW))) λA7 c7 w3 M=>W ?_));exact gr1 X ⟨_,_,X,M.own 0 X,M.fr⟩
theorem sK (m:Md) (a:MdA) (id:Kz) (w:Kw) (ho:MdOk m) (hM:MdIn w m a) :
 Calls prog 45 #[.agg (Md.cells m a).toArray,str id] w λe w'=>∃A c,e=.returned (.slice A ((BV m.fls id).map (λu=>u.id)).length c)∧w'.ownsRow w.heap.size 9 1 (.slice A ((BV m.fls id).map (λu=>u.id)).length c) ((BV m.fls id).map (λu=>u.id)).length (AE BG ((BV m.fls id).map (λu=>u.id)))∧Fr0 w w':=by
 refine BR func45 ntmps45 X λM=>W ?_
 refine CO M X X λg2 w1 hg2 M=>DG M kw X X 9 X X ([str id]) X λg3 w2 hg3 M=>W ?_
 refine CH M 1 X X Al AN X (ya X (CY (us:=[]) (vs:=[pg g3]) X X X) (MF M 7 X (AD X X call80) (fG m a 82 [pg g3] (λu=>decide (u.frm=id)) _ ho (hM.fr0 M.fr) call82 (λx _ W hW=>sM g3 id x W ((M.blk 0 X).fr0 hW))) λA7 c7 w3 M=>W ?_));exact gr1 X ⟨_,_,X,M.own 0 X,M.fr⟩
theorem K1 (m:Md) (a:MdA) (id:Kz) (w:Kw) (ho:MdOk m) (hM:MdIn w m a) :
 Calls prog 172 #[.agg (Md.cells m a).toArray,str id] w λe w'=>∃A c,e=.returned (.slice A (AY m.els id).length c)∧w'.ownsRow w.heap.size 9 1 (.slice A (AY m.els id).length c) (AY m.els id).length (AE BG (AY m.els id))∧Fr0 w w':=by
 refine BR func172 ntmps172 X λM=>W ?_
 refine CO M X X λg2 w1 hg2 M=>W ?_
 refine CH M 0 X X Al AN X (cl 6 X (AD X X call68) (X7 m a _ ho.b (hM.fr0 M.fr)) ?_);rintro _ w2 ⟨ix,gx,FX,rfl,hix,hnx,hfw2⟩;refine cq ?_;have M:=M.push hfw2 (As.ixp m a ix gx FX) hix hnx;refine yb X (MF M 8 X (AD X X call144) (ZX m a ix gx id _ ho (IxN.at (M.ok 0 _ X) (hM.fr0 M.fr))) λA8 c8 w3 M=>?_);have hL8:=M.ownLen 0 X;refine W ?_;exact gr1 X ⟨_,_,X,M.own 0 X,M.fr⟩
theorem OS (m:Md) (a:MdA) (id:Kz) (w:Kw) (ho:MdOk m) (hM:MdIn w m a) :
 Calls prog 173 #[.agg (Md.cells m a).toArray,str id] w λe w'=>∃A c,e=.returned (.slice A (D7 m id).length c)∧w'.ownsRow w.heap.size 9 1 (.slice A (D7 m id).length c) (D7 m id).length (AE BG (D7 m id))∧Fr0 w w':=by
 have hne:=ho.nels;have hnf:=ho.nfls;refine BR func173 ntmps173 X λM=>W ?_
 refine CO M X X λg2 w1 hg2 M=>W ?_
 have M:=M.nilOwn 9 1;refine flp [10,9,1] (λze e wr mz=>∃(i:Nat) (acc:List Kz) (A:Ky) (c:Nat),e=(5,.slice A acc.length c)::(11,AA (i:Int))::ze∧Mem w AR [As.own w.heap.size 9 1 (.slice A acc.length c) acc.length (AE BG acc),As.blk g2 48 (Md.cells m a)] wr∧(i≤m.els.length)∧(acc=((m.els.take i).filter (λu=>((decide ((u.kind.toNat:Int)=9))&&(decide (u.att=id))))).map (λu=>u.id))∧(acc.length≤i)∧mz=m.els.length-i) ⟨0,[],none,0,X,M,Ae _,X,Ab _,X⟩ ?_;rintro _ w2 _ ⟨i,acc,A,c,rfl,M,hi,hacc,hal,rfl⟩;refine W ?_;refine AB X (λh12=>?_) (λh12=>?_)
 ·have h12p:=odt h12;refine W ?_;obtain ⟨u,_,_,hu,hA_u⟩:=ex5 (i:=i) (M.rd hM.els);refine ya X (AK i hA_u X X X (sl X) A0) (ya X (AI X X (BM El.len (M.rd hM.els) hA_u hu) Bf X AJ) (CI M X AP λg7 w3 hg7 M=>BY M 0 X X AJ X λw4 M=>W ?_));refine fvm M 5 [7,11,10,9,5,1] [(23,.bool ((decide ((u.kind.toNat:Int)=9))&&(decide (u.att=id))))] ?_ (λk18=>?_)
  ·intro w5 M;refine W ?_;refine AB X (λh23=>?_) (λh23=>?_)
   ·have h23p:=bd h23;refine W ?_;refine CV M kw X X [str u.id] ([str u.id]) X X X X Az CG X X (GT X) X λg27 w6 hg27 M=>CN (len':=(acc++[u.id]).length) (xs':=AE BG (acc++[u.id])) M 2 kw X X X X X X (M.rdBlk 0 X X) Az C0 X AV (BW X) (Ab _) (Ab _) DC (by unfold maxLen;first|omega|(simp;omega)) (by simp) (by first|exact (B3 _ _ _).symm|simp [AE,BG]) λA28 c28 w7 M=>W ?_
    refine fag ⟨i+1,acc++[u.id],A28,c28,X,(M.pk [2,3]),?_,?_,?_,X⟩
    ·omega
    ·first
      | exact VE hacc (AS hu) h23
      | exact cF hacc (AS hu) h23
    first|omega|(simp only [Ah,Af,Aq];omega)
   have h23p:=bd h23;refine W ?_;refine fag ⟨i+1,acc,A,c,X,(M.pk [1,2]),?_,?_,?_,X⟩
   ·omega
   ·first
     | exact VE hacc (AS hu) h23
     | exact cF hacc (AS hu) h23
   first|omega|(simp only [Ah,Af,Aq];omega)
  refine A1 (d:=18) X (λh18=>?_) (λh18=>?_)
  ·refine T5 ?_;exact k18 M
  refine T5 ?_;exact k18 M
 have h12p:=odf h12;refine W ?_;have hiE:i=m.els.length:=by omega
 rw [hiE,Ba] at hacc
 refine W ?_;refine gr1 X ?_;have hbp:D7 m id=acc:=hacc.symm;rw [hbp];exact ⟨_,_,X,M.own 0 X,M.fr⟩
theorem u1 (m:Md) (a:MdA) (id:Kz) (w:Kw) (ho:MdOk m) (hM:MdIn w m a) :
 Calls prog 171 #[.agg (Md.cells m a).toArray,str id] w (BS w (.tuple #[str (PX m id).1,.bool (PX m id).2])):=by
 have hne:=ho.nels;have hnf:=ho.nfls;refine BR func171 ntmps171 X λM=>W ?_
 refine CO M X X λg2 w1 hg2 M=>W ?_
 refine CH M 0 X X Al AN X (yb X (CW M 15 X X call208 (lW m a id _ ho (hM.fr0 M.fr)) λw2 M=>W ?_));refine CI M X AP λg6 w3 hg6 M=>BY M 0 X X AJ X λw4 M=>W ?_
 refine fvm M 4 [2,1] [(24,.bool ((!(AF m.els id).isSome) || (!decide ((((AF m.els id).getD zeroEl).kind.toNat:Int)=8))))] ?_ (λk20=>?_)
 ·intro w5 M;refine W ?_;refine AB X (λh24=>?_) (λh24=>?_)
  ·have h24p:=bd h24;refine W ?_;exact AZ X X X ⟨by rw [PX,if_pos h24]<;>rfl,M.fr⟩
  have h24p:=bd h24;refine W ?_;refine EF M [27,26,2,1] (λze zF e wr mz=>∃(i:Nat),e=(28,AA (i:Int))::ze∧zF wr∧(i≤m.fls.length)∧(S3 m id m.fls=S3 m id (m.fls.drop i))∧mz=m.fls.length-i) ⟨0,X,M,Ae _,X,X⟩ ?_;rintro _ w6 _ ⟨i,rfl,M,hi,hE,rfl⟩;refine W ?_;refine AB X (λh29=>?_) (λh29=>?_)
  ·have h29p:=odt h29;refine W ?_;obtain ⟨u,_,_,hu,hA_u⟩:=ex5 (i:=i) (M.rd hM.fls);refine ya X (AK i hA_u X X X (sl X) A0) (ya X (AI X X (BM Fl.len (M.rd hM.fls) hA_u hu) Cf X BU) (CI M X DS λg9 w7 hg9 M=>BY M 0 X X BU X λw8 M=>W ?_));refine CH M 2 X X Al AN X (W ?_);refine CW M 36 X X call208 (lW m a u.frm _ ho (hM.fr0 M.fr)) λw9 M=>W ?_
   refine CI M X AP λg10 w10 hg10 M=>BY M 0 X X AJ X λw11 M=>W ?_
   refine fvm M 5 [10,28,27,26,2,1] [(45,.bool ((AF m.els u.frm).isSome&&(decide (u.tg=id))))] ?_ (λk40=>?_)
   ·intro w12 M;refine yb X (fvm M 4 [10,28,27,26,2,1] [(50,.bool (((AF m.els u.frm).isSome&&(decide (u.tg=id)))&&(decide ((((AF m.els u.frm).getD zeroEl).kind.toNat:Int)=7))))] ?_ (λk46=>?_))
    ·intro w13 M;refine W ?_;refine AB X (λh50=>?_) (λh50=>?_)
     ·refine W ?_;exact AZ X X X ⟨by rw [PX,AM h24,hE,AG hu,S3,if_pos h50]<;>rfl,M.fr⟩
     have h50p:=bd h50;refine W ?_;refine fag ⟨i+1,X,(M.pk [2,3]),?_,?_,X⟩
     ·omega
     rw [hE,AG hu,S3,AM h50]
    refine A1 (d:=46) X (λh46=>?_) (λh46=>?_)
    ·refine T4 ?_;exact k46 M
    refine T4 ?_;exact k46 M
   refine A1 (d:=40) X (λh40=>?_) (λh40=>?_)
   ·refine T5 ?_;exact k40 M
   refine T5 ?_;exact k40 M
  have h29p:=odf h29;refine W ?_;refine AZ X X X ?_;obtain rfl:i=m.fls.length:=by omega
  exact ⟨by rw [PX,AM h24,hE,Am];rfl,M.fr⟩
 refine A1 (d:=20) X (λh20=>?_) (λh20=>?_)
 ·refine T4 ?_;exact k20 M
 refine T4 ?_;exact k20 M
end
theorem VG {P:Lw} {e:Env} {w:Kw} {o:Oper} {t t' el:Nat} {x:Lz} {A:Ky} {n c:Nat} (ho:o.op=.binOp .eql t x (.const (.slice none 0 0)) t') (hx:ev e x=some (.slice A n c)) (hu:P.underlying t=some (.slice el)):Y P e o w (.bool A.isNone):=λρ h=>by
 have h2:ρ (.const (.slice none 0 0))=.slice none 0 0:=h _ _ X;unfold execOp
 simp [ho,h _ _ hx,h2,eqGuard,Lib.run_eql_slice_nil w t el A n c 0 0 hu]
theorem aS {α:Type} {w:Kw} {A:Ky} {k:Nat} {cells:α→Kx} {l:List α} (h:Rd w A (l.length*k) (AE cells l)) (hk:0<k) (hA:A.isNone=true):l=[]:=by
 rcases Ep l.length with h0|h0
 ·exact List.length_eq_zero_iff.1 h0
 obtain ⟨b,off,e,_⟩:=h.2 (Nat.mul_pos h0 hk);rw [e] at hA;cases hA
theorem PV : (prog.info? 63).map (λi=>(i.zero,i.size,i.bytes))=some (some (.agg #[str [],.int .u8 0,AA 0,.bool false,str []]),5,56):=by kernel_rfl
theorem TC : (prog.info? 106).map (λi=>(i.zero,i.size,i.bytes))=some (some (.agg #[str [],str [],.int .u8 0,str [],str [],str [],.int .u8 0,str [],str [],AA 0,AA 0]),11,144):=by kernel_rfl
theorem a03 (A:Ky) (c:Nat) (l:List Bd) (w:Kw) (hl:l.length≤1048576) (hR:Rd w A (l.length*5) (AE Bd.cells l)) :
 Calls prog 62 #[.slice A l.length c] w λe w'=>∃A' c',e=.returned (.slice A' l.length c')∧w'.ownsRow w.heap.size 63 5 (.slice A' l.length c') l.length (AE Bd.cells l)∧Fr0 w w':=by
 refine BR func62 ntmps62 X λM=>W ?_
 refine ya X (VG X X Eb) (W ?_);refine AB X (λh4=>?_) (λh4=>?_)
 ·refine W ?_;refine gr1 X ?_;obtain rfl:=aS hR AV h4;exact ⟨none,0,X,World.ownsRow_nil _ _ _ _,M.fr⟩
 refine W ?_;refine sxl_does (some 5) kw X X (λρ hρ=>OP 23 63 5 X Eb FJ) ?_;rintro _ w1 ⟨g5,rfl,hg5,_,_,hfw1,ho5⟩;have M:=M.pushOwn hfw1 (Ab _) (ho5 _ (Ab _));refine yb X (CN (len':=l.length) (xs':=AE Bd.cells l) M 0 kw X X X X X X (hR.fr0 M.fr) Eb PV X AV (DB Bd.cells_one) (Ab _) (Ab _) DC (by unfold maxLen;first|omega|(simp only [Ah,Af,Aq];omega)) (by simp) (by simp [AE]) λA7 c7 w2 M=>W ?_);exact gr1 X ⟨_,_,X,M.own 0 X,M.fr⟩
theorem a02 (A:Ky) (c:Nat) (l:List El) (w:Kw) (hl:l.length≤1048576) (hR:Rd w A (l.length*11) (AE El.cells l)) :
 Calls prog 78 #[.slice A l.length c] w λe w'=>∃A' c',e=.returned (.slice A' l.length c')∧w'.ownsRow w.heap.size 106 11 (.slice A' l.length c') l.length (AE El.cells l)∧Fr0 w w':=by
 refine BR func78 ntmps78 X λM=>W ?_
 refine ya X (VG X X Fh) (W ?_);refine AB X (λh4=>?_) (λh4=>?_)
 ·refine W ?_;refine gr1 X ?_;obtain rfl:=aS hR AV h4;exact ⟨none,0,X,World.ownsRow_nil _ _ _ _,M.fr⟩
 refine W ?_;refine sxl_does (some 5) kw X X (λρ hρ=>OP 45 106 11 X Fh AJ) ?_;rintro _ w1 ⟨g5,rfl,hg5,_,_,hfw1,ho5⟩;have M:=M.pushOwn hfw1 (Ab _) (ho5 _ (Ab _));refine yb X (CN (len':=l.length) (xs':=AE El.cells l) M 0 kw X X X X X X (hR.fr0 M.fr) Fh TC X AV (DB El.cells_one) (Ab _) (Ab _) DC (by unfold maxLen;first|omega|(simp only [Ah,Af,Aq];omega)) (by simp) (by simp [AE]) λA7 c7 w2 M=>W ?_);exact gr1 X ⟨_,_,X,M.own 0 X,M.fr⟩
theorem a01 (A:Ky) (c:Nat) (l:List Fl) (w:Kw) (hl:l.length≤1048576) (hR:Rd w A (l.length*4) (AE Fl.cells l)) :
 Calls prog 79 #[.slice A l.length c] w λe w'=>∃A' c',e=.returned (.slice A' l.length c')∧w'.ownsRow w.heap.size 110 4 (.slice A' l.length c') l.length (AE Fl.cells l)∧Fr0 w w':=by
 refine BR func79 ntmps79 X λM=>W ?_
 refine ya X (VG X X Dz) (W ?_);refine AB X (λh4=>?_) (λh4=>?_)
 ·refine W ?_;refine gr1 X ?_;obtain rfl:=aS hR AV h4;exact ⟨none,0,X,World.ownsRow_nil _ _ _ _,M.fr⟩
 refine W ?_;refine sxl_does (some 5) kw X X (λρ hρ=>OP 46 110 4 X Dz BU) ?_;rintro _ w1 ⟨g5,rfl,hg5,_,_,hfw1,ho5⟩;have M:=M.pushOwn hfw1 (Ab _) (ho5 _ (Ab _));refine yb X (CN (len':=l.length) (xs':=AE Fl.cells l) M 0 kw X X X X X X (hR.fr0 M.fr) Dz MG X AV (DB Fl.cells_one) (Ab _) (Ab _) DC (by unfold maxLen;first|omega|(simp only [Ah,Af,Aq];omega)) (by simp) (by simp [AE]) λA7 c7 w2 M=>W ?_);exact gr1 X ⟨_,_,X,M.own 0 X,M.fr⟩
structure MdN (w:Kw) (m:Md) (a:MdA) (F:List Nat):Prop where
 md:MdIn w m a
 V:∀b off p,a.V=some ⟨b,off,p⟩→b∈F
 E:∀b off p,a.E=some ⟨b,off,p⟩→b∈F
 L:∀b off p,a.F=some ⟨b,off,p⟩→b∈F
theorem MdN.keep {w w':Kw} {m:Md} {a:MdA} {F:List Nat} (hk:∀g∈F,g<w.heap.size→w'.heap[g]?=w.heap[g]?) (h:MdN w m a F):MdN w' m a F:=
 ⟨⟨JG h.md.vars hk h.V,JG h.md.els hk h.E,JG h.md.fls hk h.L⟩,h.V,h.E,h.L⟩
def As.mdp (m:Md) (a:MdA) (F:List Nat):As:=⟨F,λw=>MdN w m a F,λh hb=>hb.keep h⟩
theorem q7 {m:Md} {w w':Kw} {A5 A8 A11:Ky} {c5 c8 c11:Nat} {Ls:List As}
 (M:Mem w AR (As.own w.heap.size 63 5 (.slice A5 m.vars.length c5) m.vars.length (AE Bd.cells m.vars)::As.own w.heap.size 106 11 (.slice A8 m.els.length c8) m.els.length (AE El.cells m.els)::As.own w.heap.size 110 4 (.slice A11 m.fls.length c11) m.fls.length (AE Fl.cells m.fls)::Ls) w') :
 ∃a' F,Ending.returned (.agg (List.toArray [str m.id,str m.nm,.slice A5 m.vars.length c5,.slice A8 m.els.length c8,.slice A11 m.fls.length c11]))=.returned (.agg (Md.cells m a').toArray)∧MdN w' m a' F∧(∀g∈F,w.heap.size≤g∧g<w'.heap.size)∧Fr0 w w':=by
 refine ⟨⟨A5,c5,A8,c8,A11,c11⟩,(Value.slice A5 m.vars.length c5).ownBlock.toList++((Value.slice A8 m.els.length c8).ownBlock.toList++(Value.slice A11 m.fls.length c11).ownBlock.toList),X,⟨⟨OH (M.own 0 X),OH (M.own 1 X),OH (M.own 2 X)⟩,?_,?_,?_⟩,?_,M.fr⟩
 ·intro b off p h;simp only at h;subst h;simp [Value.ownBlock]
 ·intro b off p h;simp only at h;subst h;simp [Value.ownBlock]
 ·intro b off p h;simp only at h;subst h;simp [Value.ownBlock]
 intro g hg;rcases Bo.1 hg with hg|hg
 ·exact M.new0 0 X g hg
 rcases Bo.1 hg with hg|hg
 ·exact M.new0 1 X g hg
 exact M.new0 2 X g hg
theorem L5 : (prog.info? 23).map (·.size)=some 1:=by kernel_rfl
theorem R7 : (prog.info? 45).map (·.size)=some 1:=by kernel_rfl
theorem VY : (prog.info? 46).map (·.size)=some 1:=by kernel_rfl
theorem kM (m:Md) (a:MdA) (w:Kw) (ho:MdOk m) (hM:MdIn w m a) :
 Calls prog 43 #[.agg (Md.cells m a).toArray] w λe w'=>∃a' F,e=.returned (.agg (Md.cells m a').toArray)∧MdN w' m a' F∧(∀g∈F,w.heap.size≤g∧g<w'.heap.size)∧Fr0 w w':=by
 refine BR func43 ntmps43 X λM=>W ?_
 refine CO M X X λg1 w1 hg1 M=>CI M X zr_api_Model λg2 w2 hg2 M=>W ?_
 refine J2 M 10 CA λM=>IO 0 gkr (λc a t v w h=>by cases t<;>exact h) gkr gkr gkr X kw X X M (λ_ M=>yp X) (IO 1 gkr (λc a t v w h=>by cases t<;>exact h) gkr gkr gkr X kw X X M (λ_ M=>B2 X X (sc X) (M.cell 1 X X)) (IO 3 gkr (λc a t v w h=>by cases t<;>exact h) gkr gkr gkr X kw X X M (λ_ M=>yp X) (IO 4 gkr (λc a t v w h=>by cases t<;>exact h) gkr gkr gkr X kw X X M (λ_ M=>B2 X X (sc X) (M.cell 1 X X)) (IO 6 gkr (λc a t v w h=>by cases t<;>exact h) gkr gkr gkr X kw X X M (λ_ M=>yp X) (IO 7 gkr (λc a t v w h=>by cases t<;>exact h) gkr gkr gkr X kw X X M (λ_ M=>B2 X X (sc X) (M.cell 1 X X)) (BC 2 (some 5) gkr X kw X X (AD X X call62) (a03 a.V a.vc m.vars _ (by have:=ho.nvars;omega) (hM.vars.fr0 M.fr)) ?_))))))
 rintro _ w3 ⟨A5,c5,rfl,how3,hfw3⟩;refine ⟨_,X,λ_=>M.step hfw3,?_⟩;have M:=M.pushOwn hfw3 (Ab _) how3;have hL5:=M.ownLen 0 X;refine IO 9 gkr (λc a t v w h=>by cases t<;>exact h) gkr gkr gkr X kw X X (M.drop 1) (λ_ M=>yp X) (BC 5 (some 8) gkr X kw X X (AD X X call78) (a02 a.E a.ec m.els _ (by have:=ho.nels;omega) (hM.els.fr0 M.fr)) ?_);rintro _ w4 ⟨A8,c8,rfl,how4,hfw4⟩;refine ⟨_,X,λ_=>(M.drop 1).step hfw4,?_⟩;have M:=M.pushOwn hfw4 (Ab _) how4;have hL8:=M.ownLen 0 X;refine BC 8 (some 11) gkr X kw X X (AD X X call79) (a01 a.F a.fc m.fls _ (by have:=ho.nfls;omega) (hM.fls.fr0 M.fr)) ?_;rintro _ w5 ⟨A11,c11,rfl,how5,hfw5⟩;refine ⟨_,X,λ_=>(M.drop 2).step hfw5,?_⟩;have M:=M.pushOwn hfw5 (Ab _) how5;have hL11:=M.ownLen 0 X;refine B5 10 none gkr X kw X X (λρ hρ=>DW 23 _ _ X g1 2 48 _ (.slice A5 m.vars.length c5) (hρ _ _ X) (hρ _ _ X) X (M.blk 4 X) L5 (CF X) X) ?_;rintro _ w6 ⟨rfl,hbw6,hfw6⟩
 replace M:Mem w AR (List.set _ 4 (As.blk g1 48 [str m.id,str m.nm,.slice A5 m.vars.length c5,.slice a.E m.els.length a.ec,.slice a.F m.fls.length a.fc])) w6:=M.putB 4 rfl hbw6 hfw6
 refine ⟨λh=>absurd h AV,fo1 11 X X (yp X) (B5 12 none gkr X kw X X (λρ hρ=>DW 45 _ _ X g1 3 48 _ (.slice A8 m.els.length c8) (hρ _ _ X) (hρ _ _ X) X (M.blk 4 X) R7 (CF X) X) ?_)⟩;rintro _ w7 ⟨rfl,hbw7,hfw7⟩
 replace M:Mem w AR (List.set _ 4 (As.blk g1 48 [str m.id,str m.nm,.slice A5 m.vars.length c5,.slice A8 m.els.length c8,.slice a.F m.fls.length a.fc])) w7:=M.putB 4 rfl hbw7 hfw7
 refine ⟨λh=>absurd h AV,fo1 13 X X (yp X) (B5 14 none gkr X kw X X (λρ hρ=>DW 46 _ _ X g1 4 48 _ (.slice A11 m.fls.length c11) (hρ _ _ X) (hρ _ _ X) X (M.blk 4 X) VY (CF X) X) ?_)⟩;rintro _ w8 ⟨rfl,hbw8,hfw8⟩
 replace M:Mem w AR (List.set _ 4 (As.blk g1 48 [str m.id,str m.nm,.slice A5 m.vars.length c5,.slice A8 m.els.length c8,.slice A11 m.fls.length c11])) w8:=M.putB 4 rfl hbw8 hfw8
 refine ⟨λh=>absurd h AV,fdn (W ?_)⟩;refine CH M 4 X X Al AN X (BY M 3 X X AN X λw9 M=>W ?_);exact CT X X (M.rdBlk 3 X X) Al X AN (q7 (M.pk [2,1,0]))
end
end Go.Proofs.YtppmdnmjepkfaaaGreatDoor
