/- Lemmas. -/
import Derived.Test.YtaheakjfkpkefaaGreatDoorVRu11
import Derived.Lib.SliceRun
import Derived.Test.YtaheakjfkpkefaaGreatDoorVb6
set_option maxHeartbeats 16000000
set_option maxRecDepth 100000
namespace Go.Proofs.YtaheakjfkpkefaaGreatDoor
open Go.RowKit
open Tryz
theorem MA {P:Program} {e:Env} {w:World} {o:Oper} {t t' el:Nat} {x:Operand} {A:Option Addr} {n c:Nat} (ho:o.op=.binOp .eql t x (.const (.slice none 0 0)) t') (hx:ev e x=some (.slice A n c)) (hu:P.underlying t=some (.slice el)):Y P e o w (.bool A.isNone):=λρ h=>by
 have h2:ρ (.const (.slice none 0 0))=.slice none 0 0:=h _ _ X;unfold execOp
 simp [ho,h _ _ hx,h2,eqGuard,Lib.run_eql_slice_nil w t el A n c 0 0 hu]
theorem PA {α:Type} {w:World} {A:Option Addr} {k:Nat} {cells:α→List Value} {l:List α} (h:Rd w A (l.length*k) (AD cells l)) (hk:0<k) (hA:A.isNone=true):l=[]:=by
 rcases Nat.eq_zero_or_pos l.length with h0|h0
 ·exact List.length_eq_zero_iff.1 h0
 ·obtain ⟨b,off,e,_⟩:=h.2 (Nat.mul_pos h0 hk);rw [e] at hA;cases hA
theorem O1 : (prog.info? 103).map (λi=>(i.zero,i.size,i.bytes))=some (some (.agg #[str [],.int .u8 0,AC 0,.bool false,str []]),5,56):=by kernel_rfl
theorem QD : (prog.info? 95).map (λi=>(i.zero,i.size,i.bytes))=some (some (.agg #[str [],str [],.int .u8 0,str [],str [],str [],.int .u8 0,str [],str [],AC 0,AC 0]),11,144):=by kernel_rfl
theorem eN (A:Option Addr) (c:Nat) (l:List Bd) (w:World) (hl:l.length≤1048576) (hR:Rd w A (l.length*5) (AD Bd.cells l)) :
 Calls prog 56 #[.slice A l.length c] w λe w'=>∃A' c',e=.returned (.slice A' l.length c')∧w'.ownsRow w.heap.size 103 5 (.slice A' l.length c') l.length (AD Bd.cells l)∧Fr0 w w':=by
 refine BH func56 ntmps56 X λM=>srg (AJ X (sx_seq (AE X (ya X (MA X X underlying24) (nq (AF X (λh4=>?_) (λh4=>?_)))))))
 ·refine AE X (gnr (qx_then_ret (gr1 X ?_)));obtain rfl:=PA hR B3 h4;exact ⟨none,0,X,World.ownsRow_nil _ _ _ _,M.fr⟩
 ·refine sx_skip (qx_seq (srg (sxl_does (some 5) (wn_none X) X X (λρ hρ=>ID 24 103 5 X underlying24 EE) ?_)));rintro _ w1 ⟨g5,rfl,hg5,_,_,hfw1,ho5⟩;have M:=M.pushOwn hfw1 (Nat.le_refl _) (ho5 _ (Nat.le_refl _));exact yb X (DE (len':=l.length) (xs':=AD Bd.cells l) M 0 (wn_none X) X X X X X X (hR.fr0 M.fr) underlying24 O1 X B3 (DS Bd.cells_one) (Nat.le_refl _) (Nat.le_refl _) C2 (by unfold maxLen;first|omega|(simp only [List.length_append,List.length_cons,List.length_nil];omega)) (by simp) (by simp [AD]) λA7 c7 w2 M=>yb X (gnr (gr1 X ⟨_,_,X,M.own 0 X,M.fr⟩)))
theorem u6 (A:Option Addr) (c:Nat) (l:List El) (w:World) (hl:l.length≤1048576) (hR:Rd w A (l.length*11) (AD El.cells l)) :
 Calls prog 75 #[.slice A l.length c] w λe w'=>∃A' c',e=.returned (.slice A' l.length c')∧w'.ownsRow w.heap.size 95 11 (.slice A' l.length c') l.length (AD El.cells l)∧Fr0 w w':=by
 refine BH func75 ntmps75 X λM=>srg (AJ X (sx_seq (AE X (ya X (MA X X underlying59) (nq (AF X (λh4=>?_) (λh4=>?_)))))))
 ·refine AE X (gnr (qx_then_ret (gr1 X ?_)));obtain rfl:=PA hR B3 h4;exact ⟨none,0,X,World.ownsRow_nil _ _ _ _,M.fr⟩
 ·refine sx_skip (qx_seq (srg (sxl_does (some 5) (wn_none X) X X (λρ hρ=>ID 59 95 11 X underlying59 AQ) ?_)));rintro _ w1 ⟨g5,rfl,hg5,_,_,hfw1,ho5⟩;have M:=M.pushOwn hfw1 (Nat.le_refl _) (ho5 _ (Nat.le_refl _));exact yb X (DE (len':=l.length) (xs':=AD El.cells l) M 0 (wn_none X) X X X X X X (hR.fr0 M.fr) underlying59 QD X B3 (DS El.cells_one) (Nat.le_refl _) (Nat.le_refl _) C2 (by unfold maxLen;first|omega|(simp only [List.length_append,List.length_cons,List.length_nil];omega)) (by simp) (by simp [AD]) λA7 c7 w2 M=>yb X (gnr (gr1 X ⟨_,_,X,M.own 0 X,M.fr⟩)))
theorem u5 (A:Option Addr) (c:Nat) (l:List Fl) (w:World) (hl:l.length≤1048576) (hR:Rd w A (l.length*4) (AD Fl.cells l)) :
 Calls prog 76 #[.slice A l.length c] w λe w'=>∃A' c',e=.returned (.slice A' l.length c')∧w'.ownsRow w.heap.size 109 4 (.slice A' l.length c') l.length (AD Fl.cells l)∧Fr0 w w':=by
 refine BH func76 ntmps76 X λM=>srg (AJ X (sx_seq (AE X (ya X (MA X X underlying60) (nq (AF X (λh4=>?_) (λh4=>?_)))))))
 ·refine AE X (gnr (qx_then_ret (gr1 X ?_)));obtain rfl:=PA hR B3 h4;exact ⟨none,0,X,World.ownsRow_nil _ _ _ _,M.fr⟩
 ·refine sx_skip (qx_seq (srg (sxl_does (some 5) (wn_none X) X X (λρ hρ=>ID 60 109 4 X underlying60 CM) ?_)));rintro _ w1 ⟨g5,rfl,hg5,_,_,hfw1,ho5⟩;have M:=M.pushOwn hfw1 (Nat.le_refl _) (ho5 _ (Nat.le_refl _));exact yb X (DE (len':=l.length) (xs':=AD Fl.cells l) M 0 (wn_none X) X X X X X X (hR.fr0 M.fr) underlying60 K6 X B3 (DS Fl.cells_one) (Nat.le_refl _) (Nat.le_refl _) C2 (by unfold maxLen;first|omega|(simp only [List.length_append,List.length_cons,List.length_nil];omega)) (by simp) (by simp [AD]) λA7 c7 w2 M=>yb X (gnr (gr1 X ⟨_,_,X,M.own 0 X,M.fr⟩)))
structure MdN (w:World) (m:Md) (a:MdA) (F:List Nat):Prop where
 md:MdIn w m a
 V:∀b off p,a.V=some ⟨b,off,p⟩→b∈F
 E:∀b off p,a.E=some ⟨b,off,p⟩→b∈F
 L:∀b off p,a.F=some ⟨b,off,p⟩→b∈F
theorem MdN.keep {w w':World} {m:Md} {a:MdA} {F:List Nat} (hk:∀g∈F,g<w.heap.size→w'.heap[g]?=w.heap[g]?) (h:MdN w m a F):MdN w' m a F:=
 ⟨⟨HL h.md.vars hk h.V,HL h.md.els hk h.E,HL h.md.fls hk h.L⟩,h.V,h.E,h.L⟩
def As.mdp (m:Md) (a:MdA) (F:List Nat):As:=⟨F,λw=>MdN w m a F,λh hb=>hb.keep h⟩
theorem kE {m:Md} {w w':World} {A5 A8 A11:Option Addr} {c5 c8 c11:Nat} {Ls:List As}
 (M:Mem w AR (As.own w.heap.size 103 5 (.slice A5 m.vars.length c5) m.vars.length (AD Bd.cells m.vars)::As.own w.heap.size 95 11 (.slice A8 m.els.length c8) m.els.length (AD El.cells m.els)::As.own w.heap.size 109 4 (.slice A11 m.fls.length c11) m.fls.length (AD Fl.cells m.fls)::Ls) w') :
 ∃a' F,Ending.returned (.agg (List.toArray [str m.id,str m.nm,.slice A5 m.vars.length c5,.slice A8 m.els.length c8,.slice A11 m.fls.length c11]))=.returned (.agg (Md.cells m a').toArray)∧MdN w' m a' F∧(∀g∈F,w.heap.size≤g∧g<w'.heap.size)∧Fr0 w w':=by
 refine ⟨⟨A5,c5,A8,c8,A11,c11⟩,(Value.slice A5 m.vars.length c5).ownBlock.toList++((Value.slice A8 m.els.length c8).ownBlock.toList++(Value.slice A11 m.fls.length c11).ownBlock.toList),X,⟨⟨L7 (M.own 0 X),L7 (M.own 1 X),L7 (M.own 2 X)⟩,?_,?_,?_⟩,?_,M.fr⟩
 ·intro b off p h;simp only at h;subst h;simp [Value.ownBlock]
 ·intro b off p h;simp only at h;subst h;simp [Value.ownBlock]
 ·intro b off p h;simp only at h;subst h;simp [Value.ownBlock]
 ·intro g hg;rcases List.mem_append.1 hg with hg|hg
  ·exact M.new0 0 X g hg
  ·rcases List.mem_append.1 hg with hg|hg
   ·exact M.new0 1 X g hg
   ·exact M.new0 2 X g hg
theorem HG : (prog.info? 24).map (·.size)=some 1:=by kernel_rfl
theorem P0 : (prog.info? 59).map (·.size)=some 1:=by kernel_rfl
theorem SJ : (prog.info? 60).map (·.size)=some 1:=by kernel_rfl
theorem zr_api_Model : (prog.info? 62).map (·.zero)=some (some (.agg #[str [],str [],.slice none 0 0,.slice none 0 0,.slice none 0 0])):=by kernel_rfl
theorem cR (m:Md) (a:MdA) (w:World) (ho:MdOk m) (hM:MdIn w m a) :
 Calls prog 39 #[.agg (Md.cells m a).toArray] w λe w'=>∃a' F,e=.returned (.agg (Md.cells m a').toArray)∧MdN w' m a' F∧(∀g∈F,w.heap.size≤g∧g<w'.heap.size)∧Fr0 w w':=by
 refine BH func39 ntmps39 X λM=>srg (CC M X X λg1 w1 hg1 M=>CI M X zr_api_Model λg2 w2 hg2 M=>nq (sx_seq (GP M 10 CH λM=>EG 0 gkr (λc a t v w h=>by cases t<;>exact h) gkr gkr gkr X (wn_none X) X X M (λ_ M=>yp X) (EG 1 gkr (λc a t v w h=>by cases t<;>exact h) gkr gkr gkr X (wn_none X) X X M (λ_ M=>BF X X (sc X) (M.cell 1 X X)) (EG 3 gkr (λc a t v w h=>by cases t<;>exact h) gkr gkr gkr X (wn_none X) X X M (λ_ M=>yp X) (EG 4 gkr (λc a t v w h=>by cases t<;>exact h) gkr gkr gkr X (wn_none X) X X M (λ_ M=>BF X X (sc X) (M.cell 1 X X)) (EG 6 gkr (λc a t v w h=>by cases t<;>exact h) gkr gkr gkr X (wn_none X) X X M (λ_ M=>yp X) ?_)))))))
 refine EG 7 gkr (λc a t v w h=>by cases t<;>exact h) gkr gkr gkr X (wn_none X) X X M (λ_ M=>BF X X (sc X) (M.cell 1 X X)) (BQ 2 (some 5) gkr X (wn_none X) X X (AG X X call56) (eN a.V a.vc m.vars _ (by have:=ho.nvars;omega) (hM.vars.fr0 M.fr)) ?_);rintro _ w3 ⟨A5,c5,rfl,how3,hfw3⟩;refine ⟨_,X,λ_=>M.step hfw3,?_⟩;have M:=M.pushOwn hfw3 (Nat.le_refl _) how3;have hL5:=M.ownLen 0 X;refine EG 9 gkr (λc a t v w h=>by cases t<;>exact h) gkr gkr gkr X (wn_none X) X X (M.drop 1) (λ_ M=>yp X) (BQ 5 (some 8) gkr X (wn_none X) X X (AG X X call75) (u6 a.E a.ec m.els _ (by have:=ho.nels;omega) (hM.els.fr0 M.fr)) ?_);rintro _ w4 ⟨A8,c8,rfl,how4,hfw4⟩;refine ⟨_,X,λ_=>(M.drop 1).step hfw4,?_⟩;have M:=M.pushOwn hfw4 (Nat.le_refl _) how4;have hL8:=M.ownLen 0 X;refine BQ 8 (some 11) gkr X (wn_none X) X X (AG X X call76) (u5 a.F a.fc m.fls _ (by have:=ho.nfls;omega) (hM.fls.fr0 M.fr)) ?_;rintro _ w5 ⟨A11,c11,rfl,how5,hfw5⟩;refine ⟨_,X,λ_=>(M.drop 2).step hfw5,?_⟩;have M:=M.pushOwn hfw5 (Nat.le_refl _) how5;have hL11:=M.ownLen 0 X;refine B2 10 none gkr X (wn_none X) X X (λρ hρ=>CU 24 _ _ X g1 2 62 _ (.slice A5 m.vars.length c5) (hρ _ _ X) (hρ _ _ X) X (M.blk 4 X) HG (CO X) X) ?_;rintro _ w6 ⟨rfl,hbw6,hfw6⟩
 replace M:Mem w AR (List.set _ 4 (As.blk g1 62 [str m.id,str m.nm,.slice A5 m.vars.length c5,.slice a.E m.els.length a.ec,.slice a.F m.fls.length a.fc])) w6:=M.putB 4 rfl hbw6 hfw6
 refine ⟨λh=>absurd h B3,fo1 11 X X (yp X) (B2 12 none gkr X (wn_none X) X X (λρ hρ=>CU 59 _ _ X g1 3 62 _ (.slice A8 m.els.length c8) (hρ _ _ X) (hρ _ _ X) X (M.blk 4 X) P0 (CO X) X) ?_)⟩;rintro _ w7 ⟨rfl,hbw7,hfw7⟩
 replace M:Mem w AR (List.set _ 4 (As.blk g1 62 [str m.id,str m.nm,.slice A5 m.vars.length c5,.slice A8 m.els.length c8,.slice a.F m.fls.length a.fc])) w7:=M.putB 4 rfl hbw7 hfw7
 refine ⟨λh=>absurd h B3,fo1 13 X X (yp X) (B2 14 none gkr X (wn_none X) X X (λρ hρ=>CU 60 _ _ X g1 4 62 _ (.slice A11 m.fls.length c11) (hρ _ _ X) (hρ _ _ X) X (M.blk 4 X) SJ (CO X) X) ?_)⟩;rintro _ w8 ⟨rfl,hbw8,hfw8⟩
 replace M:Mem w AR (List.set _ 4 (As.blk g1 62 [str m.id,str m.nm,.slice A5 m.vars.length c5,.slice A8 m.els.length c8,.slice A11 m.fls.length c11])) w8:=M.putB 4 rfl hbw8 hfw8
 exact ⟨λh=>absurd h B3,fdn (qx_seq (srg (CB M 4 X X underlying62 BN X (BD M 3 X X BN X λw9 M=>gnr (E3 X X (M.rdBlk 3 X X) underlying62 X BN (kE (M.pk [2,1,0])))))))⟩
end Go.Proofs.YtaheakjfkpkefaaGreatDoor
