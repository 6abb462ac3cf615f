/- Lemmas. -/
import Derived.Test.YtaheakjfkpkefaaGreatDoorVRu1
import Derived.Test.YtaheakjfkpkefaaGreatDoorVb5
set_option maxHeartbeats 16000000
set_option maxRecDepth 100000
namespace Go.Proofs.YtaheakjfkpkefaaGreatDoor
open Go.RowKit
structure MdB (m:Md):Prop where
 id:(m.id.length:Int)<4611686018427387904
 nm:(m.nm.length:Int)<4611686018427387904
 vars:BdOk m.vars
 nels:m.els.length≤1000
 nfls:m.fls.length≤2199023255488
 nvars:m.vars.length≤4611686018427387904
 els:∀x∈m.els,ElOk x
 fls:∀x∈m.fls,FlOk x
theorem MdOk.b {m:Md} (h:MdOk m):MdB m:=⟨h.id,h.nm,h.vars,by have:=h.nels;omega,by have:=h.nfls;omega,by have:=h.nvars;omega,h.els,h.fls⟩
open Tryz
section
theorem TR (l:List El) (x:El) (k:List UInt8):BA (l++[x]) k=match BA l k with
 | some y=>some y
 | none=>if x.id=k then some x else none:=by
 induction l with
 | nil=>rfl
 | cons y r ih=>
  rw [List.cons_append,BA,BA]
  by_cases h:y.id=k
  ·rw [if_pos h,if_pos h]
  ·rw [if_neg h,if_neg h];exact ih
section
variable {L:List (List UInt8 × Value)} {l l':List El} {x:El} (hL:∀k,CA L k=(BA l k).map elV)
include hL
theorem elG (k:List UInt8):(CA L k).getD (.agg zeroEl.cells.toArray)=.agg ((BA l k).getD zeroEl).cells.toArray:=by rw [hL];cases BA l k<;>rfl
theorem elI (k:List UInt8):(CA L k).isSome=(BA l k).isSome:=by rw [hL];cases BA l k<;>rfl
theorem oF (hl:l'=l++[x]) (h:(!(BA l x.id).isSome)=true):∀k,CA (D2 L x.id (.agg (El.cells x).toArray)) k=(BA l' k).map elV:=λk=>by
 have hn:BA l x.id=none:=by
  cases hq:BA l x.id with
  | none=>rfl
  | some y=>rw [hq] at h;cases h
 rw [EL,hl,TR]
 by_cases hk:k=x.id
 ·subst hk;rw [if_pos rfl,hn];simp [elV]
 ·rw [if_neg hk,hL]
  cases BA l k with
  | some y=>rfl
  | none=>rw [if_neg (λe=>hk e.symm)]
theorem uP (hl:l'=l++[x]) (h:(!(BA l x.id).isSome)=false):∀k,CA L k=(BA l' k).map elV:=λk=>by
 rw [hL,hl,TR]
 cases hq:BA l k with
 | some y=>rfl
 | none=>
  have hk:¬x.id=k:=λe=>by rw [e,hq] at h;cases h
  rw [if_neg hk]
end
theorem iI (l:List Fl) (i:Nat) (k:List UInt8):(DR (l.take i) k).length≤l.length:=Nat.le_trans (G8 _ _) (by rw [List.length_take];omega)
theorem aX (l:List Fl) (i:Nat) (k:List UInt8):(C3 (l.take i) k).length≤l.length:=Nat.le_trans (E4 _ _) (by rw [List.length_take];omega)
section
variable {l:List Fl} {j:Nat} {f:Fl} {k:List UInt8} (hf:l[j]?=some f)
include hf
theorem nJ : DR (l.take (j+1)) f.tg=DR (l.take j) f.tg++[f]:=by
 rw [AP hf];unfold DR;rw [List.filter_append];simp
theorem tD (hk:k≠f.tg):DR (l.take (j+1)) k=DR (l.take j) k:=by
 rw [AP hf];unfold DR;rw [List.filter_append];simp [Ne.symm hk]
theorem gP : C3 (l.take (j+1)) f.frm=C3 (l.take j) f.frm++[f]:=by
 rw [AP hf];unfold C3;rw [List.filter_append];simp
theorem m7 (hk:k≠f.frm):C3 (l.take (j+1)) k=C3 (l.take j) k:=by
 rw [AP hf];unfold C3;rw [List.filter_append];simp [Ne.symm hk]
end
section
variable {w0 w w1:World} {S:Nat→Prop} {L:List As}
theorem Mem.toFam {α:Type} (M:Mem w0 S L w) (i:Nat) {g:Nat} (hi:L[i]?=some (As.mp g [])) (e:TypeId) (size:Nat) (cells:α→List Value):Mem w0 S (L.set i (As.fam w0.heap.size e size cells g [] (λ_=>[]) (λ_=>False) [])) w:=
 M.upd i hi Fr.refl _ (Fam.new (M.mp i hi) _ _ _ _) (λ_ hg'=>.inl hg')
theorem Mem.appOwn (M:Mem w0 S L w) (i:Nat) {base el size n n':Nat} {v v':Value} {xs xs':List Value} (hi:L[i]?=some (As.own base el size v n xs)) (ho:w1.ownsRow base el size v' n' xs') (h2:w.grownBy w1 v.ownBlock) (h3:v'.ownBlock=v.ownBlock∨v'.ownBlock=some w.heap.size):Mem w0 S (L.set i (As.own base el size v' n' xs')) w1:=by
 refine M.upd i hi ?_ _ ho ?_
 ·refine ⟨h2.os,h2.tape,h2.output,h2.size,λg hg hn=>h2.block g hg ?_⟩;intro e;exact hn (by simp [As.own,←e])
 ·intro g hg;rcases h3 with h|h
  ·left;simpa [As.own,h] using hg
  ·right
   have hg':g=w.heap.size:=by simpa [As.own,h,eq_comm] using hg
   have:=(OA ho g hg).2
   omega
end
def NN : Value→Option Addr
 | .slice A _ _=>A
 | _=>none
def aO : Value→Nat
 | .slice _ _ c=>c
 | _=>0
theorem Fam.val {α:Type} {w:World} {base size g:Nat} {e:TypeId} {cells:α→List Value} {L:List (List UInt8 × Value)} {rows:List UInt8→List α} {F:List Nat} (h:Fam w base e size cells g L rows (λ_=>False) F) (k:List UInt8) :
 (CA L k).getD (.slice none 0 0)=.slice (NN (EU L k)) (rows k).length (aO (EU L k))∧Rd w (NN (EU L k)) ((rows k).length*size) (AD cells (rows k)):=by
 obtain ⟨ho,_⟩:=h.row k (λhh=>hh);obtain ⟨A,C,hv,_⟩:=DI ho;have hv':(CA L k).getD (.slice none 0 0)=.slice A (rows k).length C:=hv;rw [hv',hv];rw [hv] at ho
 exact ⟨X,L7 ho⟩
structure IxN (w:World) (m:Md) (a:MdA) (x:IxA) (gx:Nat) (F:List Nat):Prop where
 blk:Blk w gx 199 (Ix.cells m a x)
 E:Mp w x.gE x.LE
 I:Mp w x.gI x.LI
 O:Mp w x.gO x.LO
 getE:∀k,(CA x.LE k).getD (.agg zeroEl.cells.toArray)=.agg ((BA m.els k).getD zeroEl).cells.toArray
 isE:∀k,(CA x.LE k).isSome=(BA m.els k).isSome
 getI:∀k,(CA x.LI k).getD (.slice none 0 0)=.slice (x.iA k) (DR m.fls k).length (x.iC k)
 getO:∀k,(CA x.LO k).getD (.slice none 0 0)=.slice (x.oA k) (C3 m.fls k).length (x.oC k)
 rdI:∀k,Rd w (x.iA k) ((DR m.fls k).length*4) (AD Fl.cells (DR m.fls k))
 rdO:∀k,Rd w (x.oA k) ((C3 m.fls k).length*4) (AD Fl.cells (C3 m.fls k))
 inF:gx∈F∧x.gE∈F∧x.gI∈F∧x.gO∈F
 inI:∀k b off p,x.iA k=some ⟨b,off,p⟩→b∈F
 inO:∀k b off p,x.oA k=some ⟨b,off,p⟩→b∈F
theorem HL {w w':World} {A:Option Addr} {n:Nat} {xs:List Value} {F:List Nat} (h:Rd w A n xs) (hk:∀g∈F,g<w.heap.size→w'.heap[g]?=w.heap[g]?) (hA:∀b off p,A=some ⟨b,off,p⟩→b∈F):Rd w' A n xs:=by
 refine ⟨h.1,λhn=>?_⟩;obtain ⟨b,off,e,hc⟩:=h.2 hn;refine ⟨b,off,e,λj u hu=>?_⟩;have h1:=hc j u hu;have hl:=World.block_lt_of_cell? w _ h1;have h2:=hk b (hA b off none e) hl;rw [←h1];unfold World.cell?;simp only [h2]
theorem JS {w w':World} {g:Nat} {L:List (List UInt8 × Value)} {F:List Nat} (h:Mp w g L) (hk:∀g∈F,g<w.heap.size→w'.heap[g]?=w.heap[g]?) (hg:g∈F):Mp w' g L:=by
 obtain ⟨es,cl,h1,h2⟩:=h;exact ⟨es,cl,(hk g hg (Array.getElem?_eq_some_iff.1 h1).1).trans h1,h2⟩
theorem IxN.keep {w w':World} {m:Md} {a:MdA} {x:IxA} {gx:Nat} {F:List Nat} (hk:∀g∈F,g<w.heap.size→w'.heap[g]?=w.heap[g]?) (h:IxN w m a x gx F):IxN w' m a x gx F:=
 ⟨(hk gx h.inF.1 h.blk.lt).trans h.blk,JS h.E hk h.inF.2.1,JS h.I hk h.inF.2.2.1,JS h.O hk h.inF.2.2.2,h.getE,h.isE,h.getI,h.getO,λk=>HL (h.rdI k) hk (h.inI k),λk=>HL (h.rdO k) hk (h.inO k),h.inF,h.inI,h.inO⟩
def As.ixp (m:Md) (a:MdA) (x:IxA) (gx:Nat) (F:List Nat):As:=⟨F,λw=>IxN w m a x gx F,λh hb=>hb.keep h⟩
theorem IxN.at {w:World} {m:Md} {a:MdA} {x:IxA} {gx:Nat} {F:List Nat} (h:IxN w m a x gx F) (hM:MdIn w m a):IxAt w m a x gx:=
 ⟨hM,h.blk,h.E,h.I,h.O,h.getE,h.isE,h.getI,h.getO,h.rdI,h.rdO⟩
theorem Fam.blk {α:Type} {w:World} {base size g:Nat} {e:TypeId} {cells:α→List Value} {L:List (List UInt8 × Value)} {rows:List UInt8→List α} {F:List Nat} (h:Fam w base e size cells g L rows (λ_=>False) F) (k:List UInt8) {b:Nat} (hA:(NN (EU L k)).map (λa=>a.block)=some b):b∈F:=by
 obtain ⟨ho,hF⟩:=h.row k (λhh=>hh);obtain ⟨A,C,hv,_⟩:=DI ho;refine hF b ?_;rw [hv] at hA ⊢
 cases A with
 | none=>cases hA
 | some q=>simpa [NN,Value.ownBlock] using hA
theorem Z1 {m:Md} {a:MdA} {w w':World} {g15 g13 g12 g11:Nat} {L LI LO:List (List UInt8 × Value)} {FI FO:List Nat} {Ls:List As}
 (M:Mem w AR (As.blk g15 199 [str m.id,str m.nm,.slice a.V m.vars.length a.vc,.slice a.E m.els.length a.ec,.slice a.F m.fls.length a.fc,.map (some g11),.map (some g12),.map (some g13)]::As.fam w.heap.size 109 4 Fl.cells g13 LO (C3 m.fls) (λ_=>False) FO::As.fam w.heap.size 109 4 Fl.cells g12 LI (DR m.fls) (λ_=>False) FI::As.mp g11 L::Ls) w')
 (hL:∀k,CA L k=(BA m.els k).map elV) :
 ∃ix gx F,Ending.returned (pg g15)=.returned (pg gx)∧IxN w' m a ix gx F∧(∀g∈F,w.heap.size≤g∧g<w'.heap.size)∧Fr0 w w':=by
 have hO:Fam w' w.heap.size 109 4 Fl.cells g13 LO (C3 m.fls) (λ_=>False) FO:=M.ok 1 _ X;have hI:Fam w' w.heap.size 109 4 Fl.cells g12 LI (DR m.fls) (λ_=>False) FI:=M.ok 2 _ X
 refine ⟨⟨g11,g12,g13,L,LI,LO,λk=>NN (EU LI k),λk=>aO (EU LI k),λk=>NN (EU LO k),λk=>aO (EU LO k)⟩,g15,g15::g11::((g12::FI)++(g13::FO)),X,
  ⟨M.blk 0 rfl,M.mp 3 rfl,hI.map,hO.map,elG hL,elI hL,λk=>(hI.val k).1,λk=>(hO.val k).1,λk=>(hI.val k).2,λk=>(hO.val k).2,⟨by simp,by simp,by simp,by simp⟩,?_,?_⟩,?_,M.fr⟩
 ·intro k b off p hA
  have:=hI.blk k (b:=b) (by simp only at hA;rw [hA];rfl)
  simp [this]
 ·intro k b off p hA
  have:=hO.blk k (b:=b) (by simp only at hA;rw [hA];rfl)
  simp [this]
 ·intro g hg;rcases List.mem_cons.1 hg with rfl|hg
  ·exact M.new0 0 X _ (by simp [As.blk])
  ·rcases List.mem_cons.1 hg with rfl|hg
   ·exact M.new0 3 X _ (by simp [As.mp])
   ·rcases List.mem_append.1 hg with hg|hg
    ·exact M.new0 2 X g hg
    ·exact M.new0 1 X g hg
theorem M4 (c0_0 c0_1 c0_2 c0_3 c0_4:Value) (a1:Option Nat) (a2:Option Nat) (a3:Option Nat):prog.built 199 [(0,.agg #[c0_0,c0_1,c0_2,c0_3,c0_4]),(1,.map a1),(2,.map a2),(3,.map a3)]=some #[c0_0,c0_1,c0_2,c0_3,c0_4,.map a1,.map a2,.map a3]:=by kernel_rfl
theorem K6 : (prog.info? 109).map (λi=>(i.zero,i.size,i.bytes))=some (some (.agg #[str [],str [],str [],str []]),4,64):=by kernel_rfl
theorem L9 : (prog.info? 109).map (λi=>(i.zero,i.size))=some (some (.agg #[str [],str [],str [],str []]),4):=by kernel_rfl
theorem zr_sl_api_Flow : (prog.info? 60).map (·.zero)=some (some (.slice none 0 0)):=by kernel_rfl
theorem TF (m:Md) (a:MdA) (w:World) (ho:MdB m) (hM:MdIn w m a) :
 Calls prog 65 #[.agg (Md.cells m a).toArray] w λe w'=>∃ix gx F,e=.returned (pg gx)∧IxN w' m a ix gx F∧(∀g∈F,w.heap.size≤g∧g<w'.heap.size)∧Fr0 w w':=by
 have hne:=ho.nels;have hnf:=ho.nfls;refine BH func65 ntmps65 X λM=>srg (CC M X X λg1 w1 hg1 M=>AJ X (srg (CB M 0 X X underlying62 BN X (I5 M (wn_none X) X X X λg11 w2 hg11 M=>I5 M (wn_none X) X X X λg12 w3 hg12 M=>I5 M (wn_none X) X X X ?_))))
 intro g13 w4 hg13 M;refine ya X (AY (parts:=[(0,_),(1,_),(2,_),(3,_)]) X X (M4 _ _ _ _ _ _ _ _)) (D6 M (wn_none X) X X 199 X X ([str m.id,str m.nm,.slice a.V m.vars.length a.vc,.slice a.E m.els.length a.ec,.slice a.F m.fls.length a.fc,.map (some g11),.map (some g12),.map (some g13)]) X λg15 w5 hg15 M=>AJ X (sx_seq (AE X (AU M 4 X X X (DF X X (AJ X (sx_block ?_)))))));refine flp [18,17,3,1] (λze e wr mz=>∃(i:Nat) (L:List (List UInt8 × Value)),e=(19,AC (i:Int))::ze∧Mem w AR [As.blk g15 199 [str m.id,str m.nm,.slice a.V m.vars.length a.vc,.slice a.E m.els.length a.ec,.slice a.F m.fls.length a.fc,.map (some g11),.map (some g12),.map (some g13)],As.mp g13 [],As.mp g12 [],As.mp g11 L,As.blk g1 62 (Md.cells m a)] wr∧(i≤m.els.length)∧(∀k,CA L k=(BA (m.els.take i) k).map elV)∧mz=m.els.length-i) ⟨0,[],X,M,Nat.zero_le _,λ_=>X,X⟩ ?_;rintro _ w6 _ ⟨i,L,rfl,M,hi,hL,rfl⟩;refine srg (BB X X (nq (sx_seq (AF X (λh20=>?_) (λh20=>?_)))))
 ·have h20p:=(odt h20);refine sx_skip (qx_seq (sx_seq (sx_block (srg ?_))));obtain ⟨x,hx⟩:=BM (l:=m.els) (i:=i) AA;obtain ⟨b_x,o_x,hA_x⟩:=B5 (k:=11) AA (M.rd hM.els) hx;refine ya X (AN i hA_x X X X (sl X) AA) (ya X (AK X X (B6 El.len (M.rd hM.els) hA_x hx) underlying95 X AQ) (CI M X AT λg5 w7 hg5 M=>BD M 0 X X AQ X λw8 M=>nq (sx_seq (GP M 13 CH λM=>oc 0 13 X X M (oc 1 13 X X M (oc 2 13 X X M (ol 3 13 X X X M (λ_ M=>(M.cell 1 X X)) (oc 4 13 X X M (ol 5 13 X X X M (λ_ M=>(M.cell 0 X X)) ?_)))))))));refine oa 6 13 X X M (λ_ M=>DM X X X underlying85 underlying9 AT (M.mp 4 X) (elG hL _) (elI hL _)) (oc 7 13 X X M (oc 8 13 X X M (oc 9 13 X X M (fon M 10 6 X X AT λg6 w9 hg6 M=>fop M 11 0 X X X AQ X (·.drop 1) λw10 M=>oc 12 13 X X (M.drop 1) (fdn (qx_seq (AE X (AJ X (AF X (λh34=>?_) (λh34=>?_))))))))))
  ·have h34p:=(C5 h34);refine CY 7 CH gkr ?_;have M:=M.drew;refine sb X (sb X (sb X (EB M 2 X X X (sb X (EB M 1 X X X (sa X (AK (xs:=El.cells x) X X (M.rdBlk 1 X X) underlying95 X AQ) (C8 (FH M 5 (wn_none X) X X X X X underlying85 underlying9 X λw11 M=>sxl_nil (qx_block_normal (qx_seq (sx_region (BV X X (yb X ?_)))))))))))));refine sxl_nil (fag ⟨i+1,D2 L x.id (.agg (El.cells x).toArray),X,(M.pk [2,3,4,5,6]),?_,?_,X⟩)
   ·omega
   ·first
     | exact oF hL (AP hx) h34
     | exact uP hL (AP hx) h34
  ·have h34p:=(BL h34);refine sx_skip (qx_block_normal (qx_seq (sx_region (BV X X (yb X (sxl_nil (fag ⟨i+1,L,X,(M.pk [2,3,4,5,6]),?_,?_,X⟩)))))))
   ·omega
   ·first
     | exact oF hL (AP hx) h34
     | exact uP hL (AP hx) h34
 ·have h20p:=(odf h20);refine sx_exit (qx_then_exit (qx_then_exit ?_));have hiE:i=m.els.length:=by omega
  rw [hiE,List.take_length] at hL
  refine qx_block_hit (qx_seq (sx_seq (AE X (AU M 4 X X X (DF X X (AJ X (sx_block ?_)))))));have M:=M.toFam 2 X 109 4 Fl.cells;have M:=M.toFam 1 X 109 4 Fl.cells;refine flp [45,44,3] (λze e wr mz=>∃(j:Nat) (LI:List (List UInt8 × Value)) (FI:List Nat) (LO:List (List UInt8 × Value)) (FO:List Nat),e=(46,AC (j:Int))::ze∧Mem w AR [As.blk g15 199 [str m.id,str m.nm,.slice a.V m.vars.length a.vc,.slice a.E m.els.length a.ec,.slice a.F m.fls.length a.fc,.map (some g11),.map (some g12),.map (some g13)],As.fam w.heap.size 109 4 Fl.cells g13 LO (C3 (m.fls.take j)) (λ_=>False) FO,As.fam w.heap.size 109 4 Fl.cells g12 LI (DR (m.fls.take j)) (λ_=>False) FI,As.mp g11 L,As.blk g1 62 (Md.cells m a)] wr∧(j≤m.fls.length)∧mz=m.fls.length-j) ⟨0,[],[],[],[],X,M,Nat.zero_le _,X⟩ ?_;rintro _ w12 _ ⟨j,LI,FI,LO,FO,rfl,M,hj,rfl⟩;refine srg (BB X X (nq (sx_seq (AF X (λh47=>?_) (λh47=>?_)))))
  ·have h47p:=(odt h47);refine sx_skip (qx_seq (sx_seq (sx_block (srg ?_))));obtain ⟨f,hf⟩:=BM (l:=m.fls) (i:=j) AA;obtain ⟨b_f,o_f,hA_f⟩:=B5 (k:=4) AA (M.rd hM.fls) hf;refine ya X (AN j hA_f X X X (sl X) AA) (ya X (AK X X (B6 Fl.len (M.rd hM.fls) hA_f hf) underlying109 X CM) (CI M X EN λg9 w13 hg9 M=>BD M 0 X X CM X λw14 M=>nq (sx_seq ?_)));obtain ⟨ARI,CRI,F1I,hvI,M⟩:=Mem.famTake (M.pk [3,0,1,2,4,5]) f.tg;have hbI:(DR (m.fls.take j) f.tg).length≤m.fls.length:=iI _ _ _;refine EH 16 (λw'=>Mem w AR [As.fam w.heap.size 109 4 Fl.cells g12 LI (DR (m.fls.take j)) (λk=>k=f.tg) F1I,As.blk g9 109 (Fl.cells f),As.blk g15 199 [str m.id,str m.nm,.slice a.V m.vars.length a.vc,.slice a.E m.els.length a.ec,.slice a.F m.fls.length a.fc,.map (some g11),.map (some g12),.map (some g13)],As.fam w.heap.size 109 4 Fl.cells g13 LO (C3 (m.fls.take j)) (λ_=>False) FO,As.mp g11 L,As.blk g1 62 (Md.cells m a)] w') CH ?_;have M:=M.drew;refine oc 0 16 X X (M.pk [1,2,3,4,5,6]) (oc 1 16 X X (M.pk [1,2,3,4,5,6]) (oc 2 16 X X (M.pk [1,2,3,4,5,6]) (ol 3 16 X X X (M.pk [1,2,3,4,5,6]) (λ_ M=>(M.cell 2 X X)) (oc 4 16 X X (M.pk [1,2,3,4,5,6]) (ol 5 16 X X X (M.pk [1,2,3,4,5,6]) (λ_ M=>(M.cell 1 X X)) (oc 6 16 X X (M.pk [1,2,3,4,5,6]) (oc 7 16 X X (M.pk [1,2,3,4,5,6]) (oc 8 16 X X (M.pk [1,2,3,4,5,6]) (ol 9 16 X X X (M.pk [1,2,3,4,5,6]) (λ_ M=>(M.cell 2 X X)) (oc 10 16 X X (M.pk [1,2,3,4,5,6]) (ol 11 16 X X X (M.pk [1,2,3,4,5,6]) (λ_ M=>(M.cell 1 X X)) (oa 12 16 X X (M.pk [1,2,3,4,5,6]) (λ_ M=>BK X X X underlying197 underlying9 zr_sl_api_Flow (M.famMp 0 X) hvI) (oa 13 16 X X (M.pk [1,2,3,4,5,6]) (λ_ M=>AK (xs:=Fl.cells f) X X (M.rdBlk 1 X X) underlying109 X CM) (B2 14 (some 64) gkr X (wn_none X) X X (λρ hρ=>D3 [.agg (Fl.cells f).toArray] _ hρ X X X X underlying60 L9 B3 B3 (FP X)) ?_))))))))))))));rintro _ w15 ⟨g64,rfl,hg64,hq64,hb64,hfw15⟩
   replace hb64:Blk w15 g64 109 ((Fl.cells f)):=hb64
   refine ⟨λ_=>(M.pk [1,2,3,4,5,6]).step hfw15,?_⟩;have M:=M.push hfw15 _ hb64 (DO hg64 hq64)
   replace M:Mem w AR (As.blk g64 109 ((Fl.cells f))::_) w15:=M
   refine B2 15 (some 65) gkr X (wn_none X) X X (λρ hρ=>CZ _ _ _ X w.heap.size _ _ _ _ underlying60 K6 X B3 _ _ _ (hρ _ _ X) (M.own 1 X) _ _ _ _ (hρ _ _ X) (M.rdBlk 0 X X) ((Fl.cells_one _)) (by unfold maxLen;first|omega|(simp;omega)) C2 M.fr.size) ?_;rintro v65 w16 ⟨ho65,hgr65,hvb65⟩
   replace ho65:World.ownsRow w16 w.heap.size 109 4 v65 (((DR (m.fls.take j) f.tg)++[f]).length) (AD Fl.cells ((DR (m.fls.take j) f.tg)++[f])):=by rw [show (((DR (m.fls.take j) f.tg)++[f]).length)=((DR (m.fls.take j) f.tg).length)+1 from by simp,show (AD Fl.cells ((DR (m.fls.take j) f.tg)++[f]))=(AD Fl.cells (DR (m.fls.take j) f.tg))++(Fl.cells f) from by first|exact B9 _ _ _|simp [AD]];exact ho65
   have M:=M.appOwn 1 X ho65 hgr65 hvb65;obtain ⟨A65,c65,rfl,_⟩:=DI ho65;refine ⟨λ_=>(M.pk [2,3,4,5,6,7]),B2 16 none gkr X (wn_none X) X X (λρ hρ=>FD X (hρ _ _ X) (hρ _ _ X) (hρ _ _ X) underlying197 underlying9 (M.famMp 2 X)) ?_⟩;rintro _ w17 ⟨rfl,hfw17,hbw17⟩;have M:=M.putFam 2 X hfw17 hbw17;refine ⟨λh=>absurd h B3,?_⟩;obtain ⟨F2I,M⟩:=Mem.famPut (M.pk [1,2,0,3,4,5,6,7]) (by rw [J9,if_pos rfl]) X (DR (m.fls.take (j+1))) (nJ hf) (λk hk=>tD hf hk);refine fdn (qx_seq ?_);obtain ⟨ARO,CRO,F1O,hvO,M⟩:=Mem.famTake (M.pk [4,0,1,2,3,5,6]) f.frm;have hbO:(C3 (m.fls.take j) f.frm).length≤m.fls.length:=aX _ _ _;refine EH 16 (λw'=>Mem w AR [As.fam w.heap.size 109 4 Fl.cells g13 LO (C3 (m.fls.take j)) (λk=>k=f.frm) F1O,As.fam w.heap.size 109 4 Fl.cells g12 (D2 LI f.tg (.slice A65 (((DR (m.fls.take j) f.tg)++[f]).length) c65)) (DR (m.fls.take (j+1))) (λ_=>False) F2I,As.blk g64 109 (Fl.cells f),As.blk g9 109 (Fl.cells f),As.blk g15 199 [str m.id,str m.nm,.slice a.V m.vars.length a.vc,.slice a.E m.els.length a.ec,.slice a.F m.fls.length a.fc,.map (some g11),.map (some g12),.map (some g13)],As.mp g11 L,As.blk g1 62 (Md.cells m a)] w') CH ?_;have M:=M.drew;refine oc 0 16 X X (M.pk [1,2,3,4,5,6,7]) (oc 1 16 X X (M.pk [1,2,3,4,5,6,7]) (oc 2 16 X X (M.pk [1,2,3,4,5,6,7]) (ol 3 16 X X X (M.pk [1,2,3,4,5,6,7]) (λ_ M=>(M.cell 4 X X)) (oc 4 16 X X (M.pk [1,2,3,4,5,6,7]) (ol 5 16 X X X (M.pk [1,2,3,4,5,6,7]) (λ_ M=>(M.cell 3 X X)) (oc 6 16 X X (M.pk [1,2,3,4,5,6,7]) (oc 7 16 X X (M.pk [1,2,3,4,5,6,7]) (oc 8 16 X X (M.pk [1,2,3,4,5,6,7]) (ol 9 16 X X X (M.pk [1,2,3,4,5,6,7]) (λ_ M=>(M.cell 4 X X)) (oc 10 16 X X (M.pk [1,2,3,4,5,6,7]) (ol 11 16 X X X (M.pk [1,2,3,4,5,6,7]) (λ_ M=>(M.cell 3 X X)) (oa 12 16 X X (M.pk [1,2,3,4,5,6,7]) (λ_ M=>BK X X X underlying197 underlying9 zr_sl_api_Flow (M.famMp 0 X) hvO) (oa 13 16 X X (M.pk [1,2,3,4,5,6,7]) (λ_ M=>AK (xs:=Fl.cells f) X X (M.rdBlk 3 X X) underlying109 X CM) (B2 14 (some 80) gkr X (wn_none X) X X (λρ hρ=>D3 [.agg (Fl.cells f).toArray] _ hρ X X X X underlying60 L9 B3 B3 (FP X)) ?_))))))))))))));rintro _ w18 ⟨g80,rfl,hg80,hq80,hb80,hfw18⟩
   replace hb80:Blk w18 g80 109 ((Fl.cells f)):=hb80
   refine ⟨λ_=>(M.pk [1,2,3,4,5,6,7]).step hfw18,?_⟩;have M:=M.push hfw18 _ hb80 (DO hg80 hq80)
   replace M:Mem w AR (As.blk g80 109 ((Fl.cells f))::_) w18:=M
   refine B2 15 (some 81) gkr X (wn_none X) X X (λρ hρ=>CZ _ _ _ X w.heap.size _ _ _ _ underlying60 K6 X B3 _ _ _ (hρ _ _ X) (M.own 1 X) _ _ _ _ (hρ _ _ X) (M.rdBlk 0 X X) ((Fl.cells_one _)) (by unfold maxLen;first|omega|(simp;omega)) C2 M.fr.size) ?_;rintro v81 w19 ⟨ho81,hgr81,hvb81⟩
   replace ho81:World.ownsRow w19 w.heap.size 109 4 v81 (((C3 (m.fls.take j) f.frm)++[f]).length) (AD Fl.cells ((C3 (m.fls.take j) f.frm)++[f])):=by rw [show (((C3 (m.fls.take j) f.frm)++[f]).length)=((C3 (m.fls.take j) f.frm).length)+1 from by simp,show (AD Fl.cells ((C3 (m.fls.take j) f.frm)++[f]))=(AD Fl.cells (C3 (m.fls.take j) f.frm))++(Fl.cells f) from by first|exact B9 _ _ _|simp [AD]];exact ho81
   have M:=M.appOwn 1 X ho81 hgr81 hvb81;obtain ⟨A81,c81,rfl,_⟩:=DI ho81;refine ⟨λ_=>(M.pk [2,3,4,5,6,7,8]),B2 16 none gkr X (wn_none X) X X (λρ hρ=>FD X (hρ _ _ X) (hρ _ _ X) (hρ _ _ X) underlying197 underlying9 (M.famMp 2 X)) ?_⟩;rintro _ w20 ⟨rfl,hfw20,hbw20⟩;have M:=M.putFam 2 X hfw20 hbw20;refine ⟨λh=>absurd h B3,?_⟩;obtain ⟨F2O,M⟩:=Mem.famPut (M.pk [1,2,0,3,4,5,6,7,8]) (by rw [J9,if_pos rfl]) X (C3 (m.fls.take (j+1))) (gP hf) (λk hk=>m7 hf hk);refine fdn (qx_block_normal (qx_seq (sx_region (BV X X (yb X (sxl_nil (fag ⟨j+1,(D2 LI f.tg (.slice A65 (((DR (m.fls.take j) f.tg)++[f]).length) c65)),F2I,(D2 LO f.frm (.slice A81 (((C3 (m.fls.take j) f.frm)++[f]).length) c81)),F2O,X,(M.pk [5,0,2,6,7]),?_,X⟩)))))))
   ·omega
  ·have h47p:=(odf h47);refine sx_exit (qx_then_exit (qx_then_exit ?_));have hjE:j=m.fls.length:=by omega
   rw [hjE,List.take_length] at M
   exact qx_block_hit (qx_seq (AE X (yb X (gnr (gr1 X (Z1 M hL))))))
end
end Go.Proofs.YtaheakjfkpkefaaGreatDoor
