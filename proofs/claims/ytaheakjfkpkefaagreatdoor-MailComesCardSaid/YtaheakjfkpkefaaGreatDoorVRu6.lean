/- Lemmas. -/
import Derived.Test.YtaheakjfkpkefaaGreatDoorVRu5
set_option maxHeartbeats 16000000
set_option maxRecDepth 100000
namespace Go.Proofs.YtaheakjfkpkefaaGreatDoor
open Go.RowKit
open Tryz
def G9 (k:List UInt8) (seen:List (List UInt8)):Bool:=CG k && !(decide (k∈seen))
def Fresh (w:World) (g3 g6:Nat) (seen:List (List UInt8)):Prop:=Blk w g3 92 [.map (some g6)]∧¬g3=g6∧∃L,Mp w g6 L∧∀k,(CA L k).getD (.bool false)=.bool (decide (k∈seen))
theorem QE {L:List (List UInt8 × Value)} {seen:List (List UInt8)} {k:List UInt8} (hL:∀k,(CA L k).getD (.bool false)=.bool (decide (k∈seen))):∀k',(CA (D2 L k (.bool true)) k').getD (.bool false)=.bool (decide (k'∈k::seen)):=λk'=>by
 rw [EL]
 by_cases h:k'=k
 ·rw [if_pos h];simp [h]
 ·rw [if_neg h,hL];simp [h]
theorem mK {w:World} {g:Nat} {L:List (List UInt8 × Value)} (h:Mp w g L):g<w.heap.size:=by
 obtain ⟨es,cl,h1,_⟩:=h;exact (Array.getElem?_eq_some_iff.1 h1).1
theorem Mem.cellMp {w:World} {g3 g6 t:Nat} {cs:List Value} {L:List (List UInt8 × Value)} (hc:Blk w g3 t cs) (hm:Mp w g6 L) (hne:¬g3=g6):Mem w (λk=>k=g3∨k=g6) [As.blk g3 t cs,As.mp g6 L] w where
 fr:=Fr.refl
 ok i a hi:=by
  match i with
  | 0=>simp only [List.getElem?_cons_zero,Option.some.injEq] at hi;subst hi;exact hc
  | 1=>simp only [List.getElem?_cons_succ,List.getElem?_cons_zero,Option.some.injEq] at hi;subst hi;exact hm
  | i+2=>simp at hi
 lt i a hi g hg:=by
  match i with
  | 0=>
   simp only [List.getElem?_cons_zero,Option.some.injEq] at hi;subst hi
   simp only [As.blk,List.mem_singleton] at hg;subst hg;exact ⟨hc.lt,.inr (.inl rfl)⟩
  | 1=>
   simp only [List.getElem?_cons_succ,List.getElem?_cons_zero,Option.some.injEq] at hi;subst hi
   simp only [As.mp,List.mem_singleton] at hg;subst hg;exact ⟨mK hm,.inr (.inr rfl)⟩
  | i+2=>simp at hi
 apart i j a b hi hj hij g hg hg':=by
  match i,j with
  | 0,0=>exact hij rfl
  | 1,1=>exact hij rfl
  | 0,1=>
   simp only [List.getElem?_cons_succ,List.getElem?_cons_zero,Option.some.injEq] at hi hj;subst hi;subst hj
   simp only [As.blk,As.mp,List.mem_singleton] at hg hg';exact hne (hg▸hg')
  | 1,0=>
   simp only [List.getElem?_cons_succ,List.getElem?_cons_zero,Option.some.injEq] at hi hj;subst hi;subst hj
   simp only [As.blk,As.mp,List.mem_singleton] at hg hg';exact hne (hg'▸hg)
  | i+2,_=>simp at hi
  | 0,j+2=>simp at hj
  | 1,j+2=>simp at hj
theorem Mem.neMp {w0 w:World} {S:Nat→Prop} {L:List As} (M:Mem w0 S L w) (i j:Nat) {a b t:Nat} {cs:List Value} {K:List (List UInt8 × Value)} (hi:L[i]?=some (As.blk a t cs)) (hj:L[j]?=some (As.mp b K)) (h:i≠j):¬a=b:=λe=>
 M.apart i j _ _ hi hj h a (by simp [As.blk]) (by simp [As.mp,e])
theorem Fresh.keep {w w':World} {g3 g6:Nat} {seen:List (List UInt8)} (hk:∀g∈[g3,g6],g<w.heap.size→w'.heap[g]?=w.heap[g]?) (h:Fresh w g3 g6 seen):Fresh w' g3 g6 seen:=by
 obtain ⟨hc,hne,L,⟨es,cl,h1,h2⟩,hL⟩:=h;exact ⟨(hk g3 (by simp) hc.lt).trans hc,hne,L,⟨es,cl,(hk g6 (by simp) (Array.getElem?_eq_some_iff.1 h1).1).trans h1,h2⟩,hL⟩
def As.fresh (g3 g6:Nat) (seen:List (List UInt8)):As:=⟨[g3,g6],λw=>Fresh w g3 g6 seen,λh hb=>hb.keep h⟩
theorem Mem.oneFresh {w:World} {g3 g6:Nat} {seen:List (List UInt8)} (h:Fresh w g3 g6 seen):Mem w (λk=>k=g3∨k=g6) [As.fresh g3 g6 seen] w where
 fr:=Fr.refl
 ok i a hi:=by
  cases i with
  | zero=>simp only [List.getElem?_cons_zero,Option.some.injEq] at hi;subst hi;exact h
  | succ i=>simp at hi
 lt i a hi g hg:=by
  cases i with
  | zero=>
   simp only [List.getElem?_cons_zero,Option.some.injEq] at hi;subst hi
   obtain ⟨hc,_,L,hm,_⟩:=h;simp only [As.fresh,List.mem_cons,List.not_mem_nil,or_false] at hg
   rcases hg with rfl|rfl
   ·exact ⟨hc.lt,.inr (.inl X)⟩
   ·exact ⟨mK hm,.inr (.inr X)⟩
  | succ i=>simp at hi
 apart i j a b hi hj hij:=by
  cases i with
  | zero=>cases j with
   | zero=>exact absurd rfl hij
   | succ j=>simp at hj
  | succ i=>simp at hi
theorem Mem.updFresh {w0 w w':World} {S:Nat→Prop} {L:List As} (M:Mem w0 S L w) (i:Nat) {g3 g6:Nat} {seen seen':List (List UInt8)} (hi:L[i]?=some (As.fresh g3 g6 seen)) (hF:Fresh w' g3 g6 seen') (hf:Fr (λk=>k=g3∨k=g6) w w'):Mem w0 S (L.set i (As.fresh g3 g6 seen')) w':=
 M.upd i hi (hf.mono λk _ e=>by simpa [As.fresh] using e) (As.fresh g3 g6 seen') hF (λg' hg'=>.inl hg')
def W6 (k:Nat):Prop:=∃p∈utfL,p.1=k
theorem MQ {S:Nat→Prop} {w w':World} (h:Laid w utfL) (hf:Fr S w w') (hS:∀k,S k→¬W6 k):Laid w' utfL:=λp hp=>by
 obtain ⟨el,fz,h1⟩:=h p hp;exact ⟨el,fz,(hf.block _ (Array.getElem?_eq_some_iff.1 h1).1 (λhh=>hS _ hh ⟨p,hp,X⟩)).trans h1⟩
theorem GW : (prog.info? 92).map (·.size)=some 1:=by kernel_rfl
theorem N8 : (prog.info? 4).map (·.zero)=some (some (.bool false)):=by kernel_rfl
theorem GS : (prog.info? 92).map (·.zero)=some (some (.map none)):=by kernel_rfl
theorem QG (g3 g6:Nat) (seen:List (List UInt8)) (k:List UInt8) (w:World) (hk:(k.length:Int)<4611686018427387904) (hF:Fresh w g3 g6 seen) :
 Calls prog 158 #[str k,pg g3] w λe w'=>e=.returned (.bool (G9 k seen))∧Fresh w' g3 g6 (k::seen)∧Fr (λk=>k=g3∨k=g6) w w':=by
 obtain ⟨hc,hne,L,hm,hL⟩:=hF;refine sx_enter (vs:=[_,_]) func158 X ntmps158 X ?_;have M:Mem w (λk=>k=g3∨k=g6) [As.blk g3 92 [.map (some g6)],As.mp g6 L] w:=Mem.cellMp hc hm hne;refine srg (AJ X (AE X (CD M 6 X X call61 (DU _ _ (by first|assumption|omega)) λw1 M=>yb X (fvm M 5 [1,0] [(12,.bool ((CG k)&&(!(decide (k∈seen)))))] ?_ (λk7=>?_)))))
 ·intro w2 M;refine AJ X (srg (AU M 0 X X X (yb X (FH M 1 (wn_none X) X X X X X underlying92 underlying9 X λw3 M=>nq (AE X (yb X (sxl_nil ?_)))))));exact qx_seq (sx_ret (gr1 X ⟨X,⟨M.blk 0 X,hne,_,M.mp 1 X,QE hL⟩,M.fr⟩))
 refine AI (d:=7) X (λh7=>?_) (λh7=>?_)
 ·exact CE M 0 X X X (gyq X (yd X (BK X X X underlying92 underlying9 N8 (M.mp 1 X) (hL _)) (gyq X (yb X (k7 M ⟨X,X,(by rw [h7];rfl),trivial⟩)))))
 ·iterate 4 refine yo X ?_
  exact yb X (k7 M ⟨X,X,(by rw [h7];rfl),trivial⟩)
theorem V7 (A:Option Addr) (c:Nat) (tk:List (List UInt8)) (w:World) (hl:tk.length≤4611686018427387904) (hR:Rd w A (tk.length*1) (AD C0 tk)) :
 Calls prog 106 #[.slice A tk.length c] w λe w'=>∃g3 g6,e=.returned (.func (.func 158) #[] #[pg g3])∧Fresh w' g3 g6 tk.reverse∧(∀k∈[g3,g6],w.heap.size≤k∧k<w'.heap.size)∧Fr0 w w':=by
 refine BH func106 ntmps106 X λM=>srg (AJ X (srg (I5 M (wn_none X) X X X λg6 w1 hg6 M=>EI M (wn_none X) X X 92 X [.map none] GS X λg3 w2 hg3 M=>gp1 M 0 X X X GW λw3 M=>nq ?_)))
 refine sx_seq (AE X (DF X X (AJ X (sx_block (flp [8,7,3] (λze e wr mz=>∃(i:Nat) (L:List (List UInt8 × Value)),e=(9,AC (i:Int))::ze∧Mem w AR [As.blk g3 92 [.map (some g6)],As.mp g6 L] wr∧(i≤tk.length)∧(∀k,(CA L k).getD (.bool false)=.bool (decide (k∈(tk.take i).reverse)))∧mz=tk.length-i) ⟨0,[],X,M,Nat.zero_le _,λ_=>X,X⟩ ?_)))));rintro _ w4 _ ⟨i,L,rfl,M,hi,hL,rfl⟩;refine srg (BB X X (nq (sx_seq (AF X (λh10=>?_) (λh10=>?_)))))
 ·have h10p:=(odt h10);refine sx_skip (qx_seq (sx_seq (sx_block (srg ?_))));obtain ⟨x,hx⟩:=BM (l:=tk) (i:=i) AA;obtain ⟨b_x,o_x,hA_x⟩:=B5 (k:=1) AA (hR.fr0 M.fr) hx;refine ya X (AN i hA_x X X X (sl X) AA) (yl X X (D9 DQ (hR.fr0 M.fr) hA_x hx 0 X) (AJ X (sx_region (AU M 0 X X X (yb X (FH M 1 (wn_none X) X X X X X underlying92 underlying9 X λw5 M=>sxl_nil (qx_block_normal (qx_seq (sx_region (BV X X (yb X ?_)))))))))));refine sxl_nil (fag ⟨i+1,D2 L x (.bool true),X,M,?_,?_,X⟩)
  ·omega
  ·rw [AP hx,List.reverse_append];exact QE hL
 ·have h10p:=(odf h10);refine sx_exit (qx_then_exit (qx_then_exit ?_));have hiE:i=tk.length:=by omega
  rw [hiE,List.take_length] at hL
  refine qx_block_hit (qx_seq (srg (ya X (CP (us:=[]) (vs:=[pg g3]) X X X) (yb X (gnr (gr1 X ?_))))))
  exact ⟨_,_,X,⟨M.blk 0 X,M.neMp 0 1 X X B3,_,M.mp 1 X,hL⟩,(λk hk=>by
   rcases List.mem_cons.1 hk with rfl|hk
   ·exact M.new0 0 X k (by simp [As.blk])
   ·obtain rfl:k=_:=by simpa using hk
    exact M.new0 1 X _ (by simp [As.mp])),M.fr⟩
theorem sB (g3 g6 g5:Nat) (seen:List (List UInt8)) (x:Bd) (w:World) (hx0:((x.name).length:Int)<4611686018427387904) (hx1:((x.v.text).length:Int)<4611686018427387904) (hT:Laid w utfL) (hTn:∀k,(λk=>k=g3∨k=g6) k→¬W6 k) (hF:Fresh w g3 g6 seen) (hn5:¬(g5=g3∨g5=g6)) (hb5:Blk w g5 97 [.func (.func 158) #[] #[pg g3]]) :
 Calls prog 109 #[.agg x.cells.toArray,pg g5] w λe w'=>e=.returned (.bool (G9 x.name seen&&decide (chk x.v=(0:Int))))∧Fresh w' g3 g6 (x.name::seen)∧Fr (λk=>k=g3∨k=g6) w w':=by
 refine sx_enter (vs:=[_,_]) func109 X ntmps109 X ?_;have M:Mem w (λk=>k=g3∨k=g6) [As.fresh g3 g6 seen] w:=Mem.oneFresh hF;refine srg (CC M X X λg2 w1 hg2 M=>AJ X (srg (yl X X (Blk.c (hb5.fr M.fr hn5) 0 X) (yb X (AU M 0 X X X (cl 7 X (BJ X X X call158) (QG g3 g6 seen x.name _ hx0 (M.ok 1 _ X)) ?_))))));rintro _ w2 ⟨rfl,hFw2,hfw2⟩;have M:=M.updFresh 1 X hFw2 hfw2;refine ⟨_,X,yb X (fvm M 5 [3] [(13,.bool ((G9 x.name seen)&&(decide ((chk (⟨x.v.kind,x.v.int,x.v.bool,x.v.text⟩:Vl))=(0:Int)))))] ?_ (λk8=>?_))⟩
 ·intro w3 M;exact yb X (gnr (gr1 X ⟨X,M.ok 1 _ X,M.fr⟩))
 refine AI (d:=8) X (λh8=>?_) (λh8=>?_)
 ·refine gyq X (yd X (AK (xs:=[.int .u8 (x.v.kind.toNat:Int),AC x.v.int,.bool x.v.bool,str x.v.text]) X X (DZ (M.blk 0 X) 1 4 X X) underlying100 X AB) (sxl_call (some 11) (wn_on X X X) X X (AG X X call59) (EJ (⟨x.v.kind,x.v.int,x.v.bool,x.v.text⟩:Vl) _ hx1 (MQ hT M.fr hTn)) ?_));rintro _ w4 ⟨rfl,hfw4⟩;refine ⟨_,X,?_⟩;have M:=M.step hfw4;exact yd X (C9 X X X) (yb X (k8 M ⟨X,(by rw [h8];rfl),trivial⟩))
 ·iterate 4 refine yo X ?_
  exact yb X (k8 M ⟨X,(by rw [h8];rfl),trivial⟩)
theorem sA (g3 g6 g5:Nat) (seen:List (List UInt8)) (x:El) (w:World) (hx0:((x.id).length:Int)<4611686018427387904) (hx1:((x.nm).length:Int)<4611686018427387904) (hT:Laid w utfL) (hTn:∀k,(λk=>k=g3∨k=g6) k→¬W6 k) (hF:Fresh w g3 g6 seen) (hn5:¬(g5=g3∨g5=g6)) (hb5:Blk w g5 97 [.func (.func 158) #[] #[pg g3]]) :
 Calls prog 112 #[.agg x.cells.toArray,pg g5] w λe w'=>e=.returned (.bool (G9 x.id seen&&SG x.nm))∧Fresh w' g3 g6 (x.id::seen)∧Fr (λk=>k=g3∨k=g6) w w':=by
 refine sx_enter (vs:=[_,_]) func112 X ntmps112 X ?_;have M:Mem w (λk=>k=g3∨k=g6) [As.fresh g3 g6 seen] w:=Mem.oneFresh hF;refine srg (CC M X X λg2 w1 hg2 M=>AJ X (srg (yl X X (Blk.c (hb5.fr M.fr hn5) 0 X) (yb X (AU M 0 X X X (cl 7 X (BJ X X X call158) (QG g3 g6 seen x.id _ hx0 (M.ok 1 _ X)) ?_))))));rintro _ w2 ⟨rfl,hFw2,hfw2⟩;have M:=M.updFresh 1 X hFw2 hfw2;refine ⟨_,X,yb X (fvm M 4 [3] [(12,.bool ((G9 x.id seen)&&(SG x.nm)))] ?_ (λk8=>?_))⟩
 ·intro w3 M;exact yb X (gnr (gr1 X ⟨X,M.ok 1 _ X,M.fr⟩))
 refine AI (d:=8) X (λh8=>?_) (λh8=>?_)
 ·refine gyq X (CE M 0 X X X (sxl_call (some 11) (wn_on X X X) X X (AG X X call105) (cS _ _ hx1 (MQ hT M.fr hTn)) ?_));rintro _ w4 ⟨rfl,hfw4⟩;refine ⟨_,X,?_⟩;have M:=M.step hfw4;exact yb X (k8 M ⟨X,(by rw [h8];rfl),trivial⟩)
 ·exact yo X (yo X (yo X (yb X (k8 M ⟨X,(by rw [h8];rfl),trivial⟩))))
theorem s9 (g3 g6 g5:Nat) (seen:List (List UInt8)) (x:Fl) (w:World) (hx0:((x.id).length:Int)<4611686018427387904) (_hT:Laid w utfL) (_hTn:∀k,(λk=>k=g3∨k=g6) k→¬W6 k) (hF:Fresh w g3 g6 seen) (hn5:¬(g5=g3∨g5=g6)) (hb5:Blk w g5 97 [.func (.func 158) #[] #[pg g3]]) :
 Calls prog 115 #[.agg x.cells.toArray,pg g5] w λe w'=>e=.returned (.bool (G9 x.id seen))∧Fresh w' g3 g6 (x.id::seen)∧Fr (λk=>k=g3∨k=g6) w w':=by
 refine sx_enter (vs:=[_,_]) func115 X ntmps115 X ?_;have M:Mem w (λk=>k=g3∨k=g6) [As.fresh g3 g6 seen] w:=Mem.oneFresh hF;refine srg (CC M X X λg2 w1 hg2 M=>AJ X (srg (yl X X (Blk.c (hb5.fr M.fr hn5) 0 X) (yb X (AU M 0 X X X (cl 7 X (BJ X X X call158) (QG g3 g6 seen x.id _ hx0 (M.ok 1 _ X)) ?_))))));rintro _ w2 ⟨rfl,hFw2,hfw2⟩;have M:=M.updFresh 1 X hFw2 hfw2;exact ⟨_,X,yb X (gnr (gr1 X ⟨X,M.ok 1 _ X,M.fr⟩))⟩
end Go.Proofs.YtaheakjfkpkefaaGreatDoor
