/- Lemmas. -/
import Derived.Test.YtaheakjfkpkefaaGreatDoorVMl0
import Derived.Test.YtaheakjfkpkefaaGreatDoorVSp0
set_option maxHeartbeats 16000000
set_option maxRecDepth 100000
namespace Go.Proofs.YtaheakjfkpkefaaGreatDoor
open Go.RowKit
open Tryz
theorem dT (g n cp:Nat) (fc:FuncId) (fq:St→St→Int) (f:St→Int) (rs:List Value) (a b:Nat) (hfc:∀(ar:Array Value) (w:World),(callFunc fc ar).run prog w=.ok (.enter fc ar) w) (hcmp:∀(a b:St) (w:World),Calls prog fc #[.agg a.cells.toArray,.agg b.cells.toArray] w (BI w (AC (fq a b)))) (hfq:∀a b,fq a b<0↔f a<f b) (hm:n≤1000000000) (l:List St) (w:World) (hb:Blk w g 119 (AD St.cells l++rs)) (hn:l.length=n) (hab:a≤b) (hbn:b≤n) :
 Calls prog 177 #[.slice (some ⟨g,0,none⟩) n cp,AC ((a:Nat):Int),AC ((b:Nat):Int),.func (.func fc) #[] #[]] w λe w'=>e=.returned (.tuple #[])∧∃l':List St,l'.Perm l∧(Isd f l l' a b)∧Blk w' g 119 (AD St.cells l'++rs)∧Fr (λk=>k=g) w w':=by
 have hp_l:l.Perm l:=List.Perm.refl _;have hn_l:l.length=n:=hn;refine sx_enter (vs:=[_,_,_,_]) func177 X ntmps177 X ?_;have M:Mem w (λk=>k=g) [As.blk g 119 (AD St.cells l++rs)] w:=Mem.one hb;refine AE X (BV X X (AJ X (sx_block (flp [3,2,1,0] (λze e wr mz=>∃(i:Nat) (l1:List St),e=(8,AC (i:Int))::ze∧Mem w (λk=>k=g) [As.blk g 119 (AD St.cells l1++rs)] wr∧(a+1≤i∧i≤b+1)∧(InI f l a b i l1)∧(l1.Perm l)∧(l1.length=n)∧mz=b+1-i) ⟨(a+1),l,X,M,⟨Nat.le_refl _,by omega⟩,InI.start l a b,hp_l,hn_l,X⟩ ?_))));rintro _ w1 _ ⟨i,l1,rfl,M,hi,hI,hp_l1,hn_l1,rfl⟩;refine sx_seq (AE X (yb X (BB X X (nq (AF X (λh14=>?_) (λh14=>?_))))))
 ·have h14p:=(odt h14);refine sx_skip (qx_seq (sx_seq (sx_block (AE X (AJ X (sx_block (flp [8,3,2,1,0] (λze e wr mz=>∃(j:Nat) (l2:List St),e=(9,AC (j:Int))::ze∧Mem w (λk=>k=g) [As.blk g 119 (AD St.cells l2++rs)] wr∧(j≤i)∧(InJ f l a b i j l2)∧(l2.Perm l)∧(l2.length=n)∧mz=j+1) ⟨i,l1,X,M,Nat.le_refl _,hI.j,hp_l1,hn_l1,X⟩ ?_)))))));rintro _ w2 _ ⟨j,l2,rfl,M,hj,hJ,hp_l2,hn_l2,rfl⟩;refine sx_seq (sx_seq (CY 14 CH gkr ?_));have M:=M.drew;refine sb X (sb X (sa X (GU X X X) (sb X (DG (d:=21) X (λh21=>?_) (λh21=>?_)))))
  ·have h21p:=(odt h21);refine gsg X (yp X) (gsg X (yp X) (gsg X (yp X) (gsg X (AN j X X X X (sl X) AA) ?_)));obtain ⟨x1,hx1⟩:=BM (l:=l2) (i:=j) AA;refine gsg X (AK (xs:=St.cells x1) X X (B6 St.len (DK St.len (M.blk 0 X)) X hx1) underlying119 X BS) (gsg X (yp X) (gsg X (yp X) (gsg X (CK (a:=j) (b:=1) X X X AA AA) (gsg X (AN (j-1) X X X X (sl X) AA) ?_))));obtain ⟨x2,hx2⟩:=BM (l:=l2) (i:=j-1) AA;refine gsg X (AK (xs:=St.cells x2) X X (B6 St.len (DK St.len (M.blk 0 X)) X hx2) underlying119 X BS) (C8 (sxl_call (some 32) (wn_on X X X) X X (BJ X X X hfc) (hcmp _ _ _) ?_));rintro _ w3 ⟨rfl,hfw3⟩;refine ⟨_,X,?_⟩;have M:=M.step hfw3;refine yd X (E0 X X X) (AJ X (AF X (λh34=>?_) (λh34=>?_)))
   ·have h34p:=(odt h34);refine sx_skip (qx_seq (sx_seq (sx_block (EH 18 (λ_=>True) CH ?_))));have M:=M.drew;refine oa 0 18 X X trivial (λ_ _=>yp X) (oa 1 18 X X trivial (λ_ _=>yp X) (oa 2 18 X X trivial (λ_ _=>yp X) (oa 3 18 X X trivial (λ_ _=>yp X) (oa 4 18 X X trivial (λ_ _=>CK (a:=j) (b:=1) X X X AA AA) (oa 5 18 X X trivial (λ_ _=>yp X) (oa 6 18 X X trivial (λ_ _=>yp X) (oa 7 18 X X trivial (λ_ _=>CK (a:=j) (b:=1) X X X AA AA) (oa 8 18 X X trivial (λ_ _=>AN (j-1) X X X X (sl X) AA) (oa 10 18 X X trivial (λ_ _=>yp X) (oa 11 18 X X trivial (λ_ _=>yp X) (oa 12 18 X X trivial (λ_ _=>AN j X X X X (sl X) AA) (G3 14 (λw'=>Mem w (λk=>k=g) [As.blk g 119 (AD St.cells l2++rs)] w') ?_))))))))))));obtain ⟨x3,hx3⟩:=BM (l:=l2) (i:=j-1) AA;refine EG 9 gkr (λc a t v w h=>by cases t<;>exact h) gkr gkr gkr X (wn_none X) X X M (λ_ M=>AK (xs:=St.cells x3) X X (B6 St.len (DK St.len (M.blk 0 X)) X hx3) underlying119 X BS) ?_;obtain ⟨x4,hx4⟩:=BM (l:=l2) (i:=j) AA;refine EG 13 gkr (λc a t v w h=>by cases t<;>exact h) gkr gkr gkr X (wn_none X) X X M (λ_ M=>AK (xs:=St.cells x4) X X (B6 St.len (DK St.len (M.blk 0 X)) X hx4) underlying119 X BS) (fo1 14 X X (AN j X X X X (sl X) AA) (B2 15 none gkr X (wn_none X) X X (λρ hρ=>BO 119 _ _ X g (0+j*10) 119 (AD St.cells l2++rs) (St.cells x3) (hρ _ _ X) (hρ _ _ X) (M.blk 0 X) BS (EZ St.len C2 X) (St.cells_one _)) ?_));rintro _ w4 ⟨rfl,hbw4,hfw4⟩;rw [E9 St.len C2] at hbw4
    replace M:Mem w (λk=>k=g) (List.set _ 0 (As.blk g 119 (AD St.cells (l2.set j x3)++rs))) w4:=M.putB 0 rfl hbw4 hfw4
    refine ⟨λh=>absurd h B3,fo1 16 X X (AN (j-1) X X X X (sl X) AA) (B2 17 none gkr X (wn_none X) X X (λρ hρ=>BO 119 _ _ X g (0+(j-1)*10) 119 (AD St.cells (l2.set j x3)++rs) (St.cells x4) (hρ _ _ X) (hρ _ _ X) (M.blk 0 X) BS (EZ St.len C2 X) (St.cells_one _)) ?_)⟩;rintro _ w5 ⟨rfl,hbw5,hfw5⟩;rw [E9 St.len C2] at hbw5
    replace M:Mem w (λk=>k=g) (List.set _ 0 (As.blk g 119 (AD St.cells ((l2.set j x3).set (j-1) x4)++rs))) w5:=M.putB 0 rfl hbw5 hfw5
    refine ⟨λh=>absurd h B3,fdn (qx_block_normal (qx_seq (sx_region (yb X (ya X (CK (a:=j) (b:=1) X X X AA AA) (yb X (sxl_nil (fag ⟨j-1,((l2.set j x3).set (j-1) x4),X,M,?_,?_,?_,?_,X⟩))))))))⟩
    ·omega
    ·exact hJ.step2 ((hfq _ _).1 h34p) (by assumption) (by assumption) (by assumption) (by assumption) AA AA AA
    ·first
      | assumption
      | (refine (BX ?_ ?_).trans (by assumption)<;>assumption)
    ·first
      | assumption
      | (simp;assumption)
   ·have h34p:=(odf h34);refine sx_exit (qx_then_exit (qx_then_exit (qx_block_hit (qx_block_normal (qx_seq (sx_region (yb X (BV X X (yb X (sxl_nil (fag ⟨i+1,l2,X,M,?_,?_,?_,?_,X⟩)))))))))))
    ·omega
    ·first
      | exact hJ.done0 AA
      | exact hJ.done1 (by assumption) (by assumption) (λhh=>h34p ((hfq _ _).2 hh))
    ·first
      | assumption
      | (refine (BX ?_ ?_).trans (by assumption)<;>assumption)
    ·first
      | assumption
      | (simp;assumption)
  ·have h21p:=(odf h21);iterate 10 refine DD X X X X X X ?_
   refine C8 (yo X (yo X (AJ X (sx_false X (sx_exit (qx_then_exit (qx_then_exit (qx_block_hit (qx_block_normal (qx_seq (sx_region (yb X (BV X X ?_)))))))))))));refine yb X (sxl_nil (fag ⟨i+1,l2,X,M,?_,?_,?_,?_,X⟩))
   ·omega
   ·first
     | exact hJ.done0 AA
     | exact hJ.done1 (by assumption) (by assumption) (λhh=>h34p ((hfq _ _).2 hh))
   ·first
     | assumption
     | (refine (BX ?_ ?_).trans (by assumption)<;>assumption)
   ·first
     | assumption
     | (simp;assumption)
 ·have h14p:=(odf h14);exact sx_exit (qx_then_exit (qx_then_exit (qx_block_hit (qx_ret0 (Or.inr X) X ⟨X,l1,hp_l1,hI.done AA,M.blk 0 X,M.fr⟩))))
theorem WE (g n cp:Nat) (fc:FuncId) (rs:List Value) (a b d:Nat) (hm:n≤1000000000) (l:List St) (w:World) (hb:Blk w g 119 (AD St.cells l++rs)) (hn:l.length=n) (had:a+d≤b) (hbd:b+d≤n) :
 Calls prog 219 #[.slice (some ⟨g,0,none⟩) n cp,AC ((a:Nat):Int),AC (b:Int),AC (d:Int),.func (.func fc) #[] #[]] w λe w'=>e=.returned (.tuple #[])∧∃l':List St,l'.Perm l∧(Sws l l' a b d)∧Blk w' g 119 (AD St.cells l'++rs)∧Fr (λk=>k=g) w w':=by
 have hp_l:l.Perm l:=List.Perm.refl _;have hn_l:l.length=n:=hn;refine sx_enter (vs:=[_,_,_,_,_]) func219 X ntmps219 X ?_;have M:Mem w (λk=>k=g) [As.blk g 119 (AD St.cells l++rs)] w:=Mem.one hb;refine srg (AJ X (sx_block (flp [3,2,1,0] (λze e wr mz=>∃(i:Nat) (l1:List St),e=(10,AC (i:Int))::ze∧Mem w (λk=>k=g) [As.blk g 119 (AD St.cells l1++rs)] wr∧(i≤d)∧(Sws l l1 a b i)∧(l1.Perm l)∧(l1.length=n)∧mz=d-i) ⟨0,l,X,M,Nat.zero_le _,Sws.start l a b,hp_l,hn_l,X⟩ ?_)));rintro _ w1 _ ⟨i,l1,rfl,M,hi,hS,hp_l1,hn_l1,rfl⟩;refine sx_seq (AE X (yb X (BB X X (nq (AF X (λh13=>?_) (λh13=>?_))))))
 ·have h13p:=(odt h13);refine sx_skip (qx_seq (sx_seq (sx_block (EH 24 (λ_=>True) CH ?_))));have M:=M.drew;refine oa 0 24 X X trivial (λ_ _=>yp X) (oa 1 24 X X trivial (λ_ _=>yp X) (oa 2 24 X X trivial (λ_ _=>yp X) (oa 3 24 X X trivial (λ_ _=>GE X X X AA) (oa 4 24 X X trivial (λ_ _=>yp X) (oa 5 24 X X trivial (λ_ _=>yp X) (oa 6 24 X X trivial (λ_ _=>yp X) (oa 7 24 X X trivial (λ_ _=>GE X X X AA) (oa 8 24 X X trivial (λ_ _=>yp X) (oa 9 24 X X trivial (λ_ _=>yp X) (oa 10 24 X X trivial (λ_ _=>yp X) (oa 11 24 X X trivial (λ_ _=>GE X X X AA) (oa 12 24 X X trivial (λ_ _=>AN (b+i) X X X X (sl X) AA) (oa 14 24 X X trivial (λ_ _=>yp X) (oa 15 24 X X trivial (λ_ _=>yp X) (oa 16 24 X X trivial (λ_ _=>yp X) ?_)))))))))))))));refine oa 17 24 X X trivial (λ_ _=>GE X X X AA) (oa 18 24 X X trivial (λ_ _=>AN (a+i) X X X X (sl X) AA) (G3 20 (λw'=>Mem w (λk=>k=g) [As.blk g 119 (AD St.cells l1++rs)] w') ?_));obtain ⟨x1,hx1⟩:=BM (l:=l1) (i:=b+i) AA;refine EG 13 gkr (λc a t v w h=>by cases t<;>exact h) gkr gkr gkr X (wn_none X) X X M (λ_ M=>AK (xs:=St.cells x1) X X (B6 St.len (DK St.len (M.blk 0 X)) X hx1) underlying119 X BS) ?_;obtain ⟨x2,hx2⟩:=BM (l:=l1) (i:=a+i) AA;refine EG 19 gkr (λc a t v w h=>by cases t<;>exact h) gkr gkr gkr X (wn_none X) X X M (λ_ M=>AK (xs:=St.cells x2) X X (B6 St.len (DK St.len (M.blk 0 X)) X hx2) underlying119 X BS) (fo1 20 X X (AN (a+i) X X X X (sl X) AA) (B2 21 none gkr X (wn_none X) X X (λρ hρ=>BO 119 _ _ X g (0+(a+i)*10) 119 (AD St.cells l1++rs) (St.cells x1) (hρ _ _ X) (hρ _ _ X) (M.blk 0 X) BS (EZ St.len C2 X) (St.cells_one _)) ?_));rintro _ w2 ⟨rfl,hbw2,hfw2⟩;rw [E9 St.len C2] at hbw2
  replace M:Mem w (λk=>k=g) (List.set _ 0 (As.blk g 119 (AD St.cells (l1.set (a+i) x1)++rs))) w2:=M.putB 0 rfl hbw2 hfw2
  refine ⟨λh=>absurd h B3,fo1 22 X X (AN (b+i) X X X X (sl X) AA) (B2 23 none gkr X (wn_none X) X X (λρ hρ=>BO 119 _ _ X g (0+(b+i)*10) 119 (AD St.cells (l1.set (a+i) x1)++rs) (St.cells x2) (hρ _ _ X) (hρ _ _ X) (M.blk 0 X) BS (EZ St.len C2 X) (St.cells_one _)) ?_)⟩;rintro _ w3 ⟨rfl,hbw3,hfw3⟩;rw [E9 St.len C2] at hbw3
  replace M:Mem w (λk=>k=g) (List.set _ 0 (As.blk g 119 (AD St.cells ((l1.set (a+i) x1).set (b+i) x2)++rs))) w3:=M.putB 0 rfl hbw3 hfw3
  refine ⟨λh=>absurd h B3,fdn (qx_block_normal (qx_seq (sx_region (yb X (BV X X (yb X (sxl_nil (fag ⟨i+1,((l1.set (a+i) x1).set (b+i) x2),X,M,?_,?_,?_,?_,X⟩))))))))⟩
  ·omega
  ·exact hS.step (by assumption) (by assumption) AA
  ·first
    | assumption
    | (refine (BX ?_ ?_).trans (by assumption)<;>assumption)
  ·first
    | assumption
    | (simp;assumption)
 ·have h13p:=(odf h13);refine sx_exit (qx_then_exit (qx_then_exit (qx_block_hit (qx_ret0 (Or.inr X) X ?_))));obtain rfl:i=d:=by omega
  exact ⟨X,l1,hp_l1,hS,M.blk 0 X,M.fr⟩
theorem vW (g n cp:Nat) (fc:FuncId) (rs:List Value) (a m b:Nat) (hm:n≤1000000000) (l:List St) (w:World) (hb:Blk w g 119 (AD St.cells l++rs)) (hn:l.length=n) (ham:a<m) (hmb:m<b) (hbn:b≤n) :
 Calls prog 199 #[.slice (some ⟨g,0,none⟩) n cp,AC (a:Int),AC (m:Int),AC (b:Int),.func (.func fc) #[] #[]] w λe w'=>e=.returned (.tuple #[])∧∃l':List St,l'.Perm l∧(Rot l l' a m b)∧Blk w' g 119 (AD St.cells l'++rs)∧Fr (λk=>k=g) w w':=by
 have hp_l:l.Perm l:=List.Perm.refl _;have hn_l:l.length=n:=hn;refine sx_enter (vs:=[_,_,_,_,_]) func199 X ntmps199 X ?_;have M:Mem w (λk=>k=g) [As.blk g 119 (AD St.cells l++rs)] w:=Mem.one hb;refine AE X (yb X (ya X (CK (a:=m) (b:=a) X X X AA AA) (AJ X (AE X (yb X (ya X (CK (a:=b) (b:=m) X X X AA AA) (AJ X ?_)))))));refine sx_seq (sx_block (flp [4,2,0] (λze e wr mz=>∃(i:Nat) (j:Nat) (l1:List St),e=(10,AC (i:Int))::(11,AC (j:Int))::ze∧Mem w (λk=>k=g) [As.blk g 119 (AD St.cells l1++rs)] wr∧(0<i∧0<j∧i≤m-a∧j≤b-m)∧(RoS l l1 a m b i j)∧(l1.Perm l)∧(l1.length=n)∧mz=i+j) ⟨(m-a),(b-m),l,X,M,by omega,RoS.start l ham hmb,hp_l,hn_l,rfl⟩ ?_));rintro _ w1 _ ⟨i,j,l1,rfl,M,hij,hR,hp_l1,hn_l1,rfl⟩;refine sx_seq (AE X (yb X (CT X X (nq (AF X (λh20=>?_) (λh20=>?_))))))
 ·have h20p:=(odf (C5 h20));refine sx_skip (qx_seq (sx_block (AE X (yb X (IM X X (nq (AF X (λh23=>?_) (λh23=>?_))))))))
  ·have h23p:=(odt h23);refine AE X (AV X X (ya X (CK (a:=m) (b:=i) X X X AA AA) (AV X X (yb X (cl 31 X (AG X X call219) (WE g n cp fc rs (m-i) m j hm l1 _ (M.blk 0 X) hn_l1 AA AA) ?_)))));rintro _ w2 ⟨rfl,l1,hqw2,hrw2,hbw2,hfw2⟩;refine ⟨_,X,?_⟩;have M:=M.putB 0 X hbw2 hfw2;have hp_l1:l1.Perm l:=hqw2.trans hp_l1;have hn_l1:l1.length=n:=hqw2.length_eq.trans hn_l1;refine nq (sx_region (AV X X (ya X (CK (a:=i) (b:=j) X X X AA AA) (yb X (sxl_nil (qx_block_normal (fag ⟨i-j,j,l1,X,M,?_,?_,?_,?_,X⟩)))))))
   ·omega
   ·first
     | exact hR.left (by assumption) AA AA
     | exact hR.right (by assumption) AA AA
   ·first
     | assumption
     | (refine (BX ?_ ?_).trans (by assumption)<;>assumption)
   ·first
     | assumption
     | (simp;assumption)
  ·have h23p:=(odf h23);refine AE X (AV X X (ya X (CK (a:=m) (b:=i) X X X AA AA) (AV X X (BV X X (yb X (ya X (CK (a:=m+j) (b:=i) X X X AA AA) (AV X X (cl 46 X (AG X X call219) (WE g n cp fc rs (m-i) ((m+j)-i) i hm l1 _ (M.blk 0 X) hn_l1 AA AA) ?_))))))));rintro _ w3 ⟨rfl,l2,hqw3,hrw3,hbw3,hfw3⟩;refine ⟨_,X,?_⟩;have M:=M.putB 0 X hbw3 hfw3;have hp_l2:l2.Perm l:=hqw3.trans hp_l1;have hn_l2:l2.length=n:=hqw3.length_eq.trans hn_l1;refine nq (sx_region (AV X X (ya X (CK (a:=j) (b:=i) X X X AA AA) (yb X (sxl_nil (qx_block_normal (fag ⟨i,j-i,l2,X,M,?_,?_,?_,?_,X⟩)))))))
   ·omega
   ·first
     | exact hR.left (by assumption) AA AA
     | exact hR.right (by assumption) AA AA
   ·first
     | assumption
     | (refine (BX ?_ ?_).trans (by assumption)<;>assumption)
   ·first
     | assumption
     | (simp;assumption)
 ·have h20p:=(odt (BL h20));refine sx_exit (qx_then_exit (qx_then_exit (qx_block_hit (qx_seq (sx_region (AV X X (yb X (ya X (CK (a:=m) (b:=i) X X X AA AA) (AV X X (yb X (cl 57 X (AG X X call219) (WE g n cp fc rs (m-i) m i hm l1 _ (M.blk 0 X) hn_l1 AA AA) ?_)))))))))));rintro _ w4 ⟨rfl,l3,hqw4,hrw4,hbw4,hfw4⟩;refine ⟨_,X,?_⟩;have M:=M.putB 0 X hbw4 hfw4;have hp_l3:l3.Perm l:=hqw4.trans hp_l1;have hn_l3:l3.length=n:=hqw4.length_eq.trans hn_l1;refine sxl_nil (qx_ret0 (Or.inr X) X ?_);obtain rfl:i=j:=by omega
  exact ⟨X,l3,hp_l3,hR.done hrw4 AA,M.blk 0 X,M.fr⟩
theorem kO (g n cp:Nat) (fc:FuncId) (fq:St→St→Int) (f:St→Int) (rs:List Value) (a m b:Nat) (hfc:∀(ar:Array Value) (w:World),(callFunc fc ar).run prog w=.ok (.enter fc ar) w) (hcmp:∀(a b:St) (w:World),Calls prog fc #[.agg a.cells.toArray,.agg b.cells.toArray] w (BI w (AC (fq a b)))) (hfq:∀a b,fq a b<0↔f a<f b) (hm:n≤1000000000) (l:List St) (w:World) (hb:Blk w g 119 (AD St.cells l++rs)) (hn:l.length=n) (ham:a<m) (hmb:m<b) (hbn:b≤n) (S1:Srt f l a m) (S2:Srt f l m b) (hrec:∀(a' m' b':Nat) (l:List St) (w:World),a'<m'→m'<b'→b'≤n→b'-a'<b-a→Blk w g 119 (AD St.cells l++rs)→l.length=n→Srt f l a' m'→Srt f l m' b'→Calls prog 178 #[.slice (some ⟨g,0,none⟩) n cp,AC (a':Int),AC (m':Int),AC (b':Int),.func (.func fc) #[] #[]] w λe w'=>e=.returned (.tuple #[])∧∃l':List St,l'.Perm l∧(Mgd f l l' a' b')∧Blk w' g 119 (AD St.cells l'++rs)∧Fr (λk=>k=g) w w') :
 Calls prog 178 #[.slice (some ⟨g,0,none⟩) n cp,AC ((a:Nat):Int),AC (m:Int),AC ((b:Nat):Int),.func (.func fc) #[] #[]] w λe w'=>e=.returned (.tuple #[])∧∃l':List St,l'.Perm l∧(Mgd f l l' a b)∧Blk w' g 119 (AD St.cells l'++rs)∧Fr (λk=>k=g) w w':=by
 have hp_l:l.Perm l:=List.Perm.refl _;have hn_l:l.length=n:=hn;refine sx_enter (vs:=[_,_,_,_,_]) func178 X ntmps178 X ?_;have M:Mem w (λk=>k=g) [As.blk g 119 (AD St.cells l++rs)] w:=Mem.one hb;refine sx_seq (AE X (yb X (ya X (CK (a:=m) (b:=a) X X X AA AA) (BZ X X (nq (AF X (λh28=>?_) (λh28=>?_)))))))
 ·have h28p:=(odt h28);refine AE X (AJ X (AE X (AJ X (sx_seq (sx_block (flp [4,1,0] (λze e wr mz=>∃(i:Nat) (j:Nat) (l1:List St),e=(10,AC (i:Int))::(11,AC (j:Int))::ze∧Mem w (λk=>k=g) [As.blk g 119 (AD St.cells l1++rs)] wr∧(m≤i∧i≤j∧j≤b)∧(Srt f l1 a m)∧(Srt f l1 m b)∧(l1=l)∧(∀q,m≤q→q<i→Kf f l1 q<Kf f l1 a)∧(∀q,j≤q→q<b→Kf f l1 a≤Kf f l1 q)∧(l1.Perm l)∧(l1.length=n)∧mz=j-i) ⟨m,b,l,X,M,by omega,S1,S2,rfl,λq h1 h2=>by omega,λq h1 h2=>by omega,hp_l,hn_l,rfl⟩ ?_))))));rintro _ w1 _ ⟨i,j,l1,rfl,M,hij,hS1,hS2,he,hbL,hbR,hp_l1,hn_l1,rfl⟩;refine sx_seq (AE X (yb X (BB X X (nq (AF X (λh33=>?_) (λh33=>?_))))))
  ·have h33p:=(odt h33);refine sx_skip (qx_seq (sx_block (AE X (yb X (BV X X (ya X (JN X X underlying3 underlying44 AA) (ya X (M7 (a:=i+j) X X X) (ya X (JO X X underlying44 underlying3 AA) (AJ X (sx_seq (CY 9 CH gkr ?_)))))))))));have M:=M.drew;refine sb X (sb X (sb X (sa X (AN ((i+j) / 2) X X X X (sl X) AA) ?_)));obtain ⟨x1,hx1⟩:=BM (l:=l1) (i:=(i+j) / 2) AA;refine sa X (AK (xs:=St.cells x1) X X (B6 St.len (DK St.len (M.blk 0 X)) X hx1) underlying119 X BS) (sb X (sb X (sa X (AN a X X X X (sl X) AA) ?_)));obtain ⟨x2,hx2⟩:=BM (l:=l1) (i:=a) AA;refine sa X (AK (xs:=St.cells x2) X X (B6 St.len (DK St.len (M.blk 0 X)) X hx2) underlying119 X BS) (C8 (LZ M 49 X (BJ X X X hfc) (hcmp _ _ _) λw2 M=>BB X X (nq (AF X (λh50=>?_) (λh50=>?_)))))
   ·have h50p:=(odt h50);refine sx_region (yb X (BV X X (yb X (sxl_nil (qx_block_normal (fag ⟨((i+j) / 2)+1,j,l1,X,M,?_,?_,?_,?_,?_,?_,?_,?_,X⟩))))))
    ·omega
    ·assumption
    ·assumption
    ·assumption
    ·first
      | exact hbL
      | exact uT hS2 ((hfq _ _).1 h50p) (by assumption) (by assumption) AA
    ·first
      | exact hbR
      | exact uR hS2 (λhh=>h50p ((hfq _ _).2 hh)) (by assumption) (by assumption) AA
    ·first
      | assumption
      | (refine (BX ?_ ?_).trans (by assumption)<;>assumption)
    ·first
      | assumption
      | (simp;assumption)
   ·have h50p:=(odf h50);refine sx_region (AV X X (sxl_nil (qx_block_normal (fag ⟨i,(i+j) / 2,l1,X,M,?_,?_,?_,?_,?_,?_,?_,?_,X⟩))))
    ·omega
    ·assumption
    ·assumption
    ·assumption
    ·first
      | exact hbL
      | exact uT hS2 ((hfq _ _).1 h50p) (by assumption) (by assumption) AA
    ·first
      | exact hbR
      | exact uR hS2 (λhh=>h50p ((hfq _ _).2 hh)) (by assumption) (by assumption) AA
    ·first
      | assumption
      | (refine (BX ?_ ?_).trans (by assumption)<;>assumption)
    ·first
      | assumption
      | (simp;assumption)
  ·have h33p:=(odf h33);refine sx_exit (qx_then_exit (qx_then_exit (qx_block_hit (qx_seq (sx_seq (AE X (AJ X (sx_block (flp [10,0] (λze e wr mz=>∃(k:Nat) (l2:List St),e=(13,AC ((k:Nat):Int))::ze∧Mem w (λk=>k=g) [As.blk g 119 (AD St.cells l2++rs)] wr∧(a≤k∧k+1≤i)∧(Rot l1 l2 a (a+1) (k+1))∧(l2.Perm l)∧(l2.length=n)∧mz=i-k) ⟨a,l1,X,M,by omega,G4 (.inr rfl),hp_l1,hn_l1,rfl⟩ ?_)))))))));rintro _ w3 _ ⟨k,l2,rfl,M,hk,hT,hp_l2,hn_l2,rfl⟩;refine sx_seq (AE X (yb X (ya X (CK (a:=i) (b:=1) X X X AA AA) (BB X X (nq (AF X (λh58=>?_) (λh58=>?_)))))))
   ·have h58p:=(odt h58);refine sx_skip (qx_seq (sx_seq (sx_block (EH 18 (λ_=>True) CH ?_))));have M:=M.drew;refine oa 0 18 X X trivial (λ_ _=>yp X) (oa 1 18 X X trivial (λ_ _=>yp X) (oa 2 18 X X trivial (λ_ _=>yp X) (oa 3 18 X X trivial (λ_ _=>yp X) (oa 4 18 X X trivial (λ_ _=>GE X X X AA) (oa 5 18 X X trivial (λ_ _=>yp X) (oa 6 18 X X trivial (λ_ _=>yp X) (oa 7 18 X X trivial (λ_ _=>GE X X X AA) (oa 8 18 X X trivial (λ_ _=>AN (k+1) X X X X (sl X) AA) (oa 10 18 X X trivial (λ_ _=>yp X) (oa 11 18 X X trivial (λ_ _=>yp X) (oa 12 18 X X trivial (λ_ _=>AN k X X X X (sl X) AA) (G3 14 (λw'=>Mem w (λk=>k=g) [As.blk g 119 (AD St.cells l2++rs)] w') ?_))))))))))));obtain ⟨x3,hx3⟩:=BM (l:=l2) (i:=k+1) AA;refine EG 9 gkr (λc a t v w h=>by cases t<;>exact h) gkr gkr gkr X (wn_none X) X X M (λ_ M=>AK (xs:=St.cells x3) X X (B6 St.len (DK St.len (M.blk 0 X)) X hx3) underlying119 X BS) ?_;obtain ⟨x4,hx4⟩:=BM (l:=l2) (i:=k) AA;refine EG 13 gkr (λc a t v w h=>by cases t<;>exact h) gkr gkr gkr X (wn_none X) X X M (λ_ M=>AK (xs:=St.cells x4) X X (B6 St.len (DK St.len (M.blk 0 X)) X hx4) underlying119 X BS) (fo1 14 X X (AN k X X X X (sl X) AA) (B2 15 none gkr X (wn_none X) X X (λρ hρ=>BO 119 _ _ X g (0+k*10) 119 (AD St.cells l2++rs) (St.cells x3) (hρ _ _ X) (hρ _ _ X) (M.blk 0 X) BS (EZ St.len C2 X) (St.cells_one _)) ?_));rintro _ w4 ⟨rfl,hbw4,hfw4⟩;rw [E9 St.len C2] at hbw4
    replace M:Mem w (λk=>k=g) (List.set _ 0 (As.blk g 119 (AD St.cells (l2.set k x3)++rs))) w4:=M.putB 0 rfl hbw4 hfw4
    refine ⟨λh=>absurd h B3,fo1 16 X X (AN (k+1) X X X X (sl X) AA) (B2 17 none gkr X (wn_none X) X X (λρ hρ=>BO 119 _ _ X g (0+(k+1)*10) 119 (AD St.cells (l2.set k x3)++rs) (St.cells x4) (hρ _ _ X) (hρ _ _ X) (M.blk 0 X) BS (EZ St.len C2 X) (St.cells_one _)) ?_)⟩;rintro _ w5 ⟨rfl,hbw5,hfw5⟩;rw [E9 St.len C2] at hbw5
    replace M:Mem w (λk=>k=g) (List.set _ 0 (As.blk g 119 (AD St.cells ((l2.set k x3).set (k+1) x4)++rs))) w5:=M.putB 0 rfl hbw5 hfw5
    refine ⟨λh=>absurd h B3,fdn (qx_block_normal (qx_seq (sx_region (yb X (BV X X (yb X (sxl_nil (fag ⟨k+1,((l2.set k x3).set (k+1) x4),X,M,?_,?_,?_,?_,X⟩))))))))⟩
    ·omega
    ·exact fY hT AA (by assumption) (by assumption)
    ·first
      | assumption
      | (refine (BX ?_ ?_).trans (by assumption)<;>assumption)
    ·first
      | assumption
      | (simp;assumption)
   ·have h58p:=(odf h58);exact sx_exit (qx_then_exit (qx_then_exit (qx_block_hit (qx_seq (sx_ret (qx_then_ret (qx_ret0 (Or.inl X) X ⟨X,l2,hp_l2,(by rw [←he];exact sW AA hS2 AA AA AA hbL (λq h1 h2=>hbR q AA h2) (hT.cast rfl AA AA)),M.blk 0 X,M.fr⟩)))))))
 ·have h28p:=(odf h28);refine sx_skip (qx_seq (sx_seq (AE X (yb X (ya X (CK (a:=b) (b:=m) X X X AA AA) (BZ X X (nq (AF X (λh80=>?_) (λh80=>?_)))))))))
  ·have h80p:=(odt h80);refine AE X (AJ X (AE X (AJ X (sx_seq (sx_block (flp [4,2,0] (λze e wr mz=>∃(i:Nat) (j:Nat) (l1:List St),e=(14,AC (i:Int))::(15,AC (j:Int))::ze∧Mem w (λk=>k=g) [As.blk g 119 (AD St.cells l1++rs)] wr∧(a≤i∧i≤j∧j≤m)∧(Srt f l1 a m)∧(Srt f l1 m b)∧(l1=l)∧(∀q,a≤q→q<i→Kf f l1 q≤Kf f l1 m)∧(∀q,j≤q→q<m→Kf f l1 m<Kf f l1 q)∧(l1.Perm l)∧(l1.length=n)∧mz=j-i) ⟨a,m,l,X,M,by omega,S1,S2,rfl,λq h1 h2=>by omega,λq h1 h2=>by omega,hp_l,hn_l,rfl⟩ ?_))))));rintro _ w6 _ ⟨i,j,l1,rfl,M,hij,hS1,hS2,he,hbL,hbR,hp_l1,hn_l1,rfl⟩;refine sx_seq (AE X (yb X (BB X X (nq (AF X (λh85=>?_) (λh85=>?_))))))
   ·have h85p:=(odt h85);refine sx_skip (qx_seq (sx_block (AE X (yb X (BV X X (ya X (JN X X underlying3 underlying44 AA) (ya X (M7 (a:=i+j) X X X) (ya X (JO X X underlying44 underlying3 AA) (AJ X (sx_seq (CY 9 CH gkr ?_)))))))))));have M:=M.drew;refine sb X (sb X (sb X (sa X (AN m X X X X (sl X) AA) ?_)));obtain ⟨x5,hx5⟩:=BM (l:=l1) (i:=m) AA;refine sa X (AK (xs:=St.cells x5) X X (B6 St.len (DK St.len (M.blk 0 X)) X hx5) underlying119 X BS) (sb X (sb X (sa X (AN ((i+j) / 2) X X X X (sl X) AA) ?_)));obtain ⟨x6,hx6⟩:=BM (l:=l1) (i:=(i+j) / 2) AA;refine sa X (AK (xs:=St.cells x6) X X (B6 St.len (DK St.len (M.blk 0 X)) X hx6) underlying119 X BS) (C8 (LZ M 101 X (BJ X X X hfc) (hcmp _ _ _) λw7 M=>BB X X (AJ X (AF X (λh103=>?_) (λh103=>?_)))))
    ·have h103p:=(odf (C5 h103));refine sx_region (yb X (BV X X (yb X (sxl_nil (qx_block_normal (fag ⟨((i+j) / 2)+1,j,l1,X,M,?_,?_,?_,?_,?_,?_,?_,?_,X⟩))))))
     ·omega
     ·assumption
     ·assumption
     ·assumption
     ·first
       | exact hbL
       | exact uS hS1 (λhh=>h103p ((hfq _ _).2 hh)) (by assumption) (by assumption) AA
     ·first
       | exact hbR
       | exact uQ hS1 ((hfq _ _).1 h103p) (by assumption) (by assumption) AA
     ·first
       | assumption
       | (refine (BX ?_ ?_).trans (by assumption)<;>assumption)
     ·first
       | assumption
       | (simp;assumption)
    ·have h103p:=(odt (BL h103));refine sx_region (AV X X (sxl_nil (qx_block_normal (fag ⟨i,(i+j) / 2,l1,X,M,?_,?_,?_,?_,?_,?_,?_,?_,X⟩))))
     ·omega
     ·assumption
     ·assumption
     ·assumption
     ·first
       | exact hbL
       | exact uS hS1 (λhh=>h103p ((hfq _ _).2 hh)) (by assumption) (by assumption) AA
     ·first
       | exact hbR
       | exact uQ hS1 ((hfq _ _).1 h103p) (by assumption) (by assumption) AA
     ·first
       | assumption
       | (refine (BX ?_ ?_).trans (by assumption)<;>assumption)
     ·first
       | assumption
       | (simp;assumption)
   ·have h85p:=(odf h85);refine sx_exit (qx_then_exit (qx_then_exit (qx_block_hit (qx_seq (sx_seq (AE X (AJ X (sx_block (flp [14,0] (λze e wr mz=>∃(k:Nat) (l2:List St),e=(17,AC ((k:Nat):Int))::ze∧Mem w (λk=>k=g) [As.blk g 119 (AD St.cells l2++rs)] wr∧(i≤k∧k≤m)∧(Rot l1 l2 k m (m+1))∧(l2.Perm l)∧(l2.length=n)∧mz=k-i) ⟨m,l1,X,M,by omega,G4 (.inl rfl),hp_l1,hn_l1,rfl⟩ ?_)))))))));rintro _ w8 _ ⟨k,l2,rfl,M,hk,hT,hp_l2,hn_l2,rfl⟩;refine sx_seq (AE X (yb X (IM X X (nq (AF X (λh110=>?_) (λh110=>?_))))))
    ·have h110p:=(odt h110);refine sx_skip (qx_seq (sx_seq (sx_block (EH 18 (λ_=>True) CH ?_))));have M:=M.drew;refine oa 0 18 X X trivial (λ_ _=>yp X) (oa 1 18 X X trivial (λ_ _=>yp X) (oa 2 18 X X trivial (λ_ _=>yp X) (oa 3 18 X X trivial (λ_ _=>yp X) (oa 4 18 X X trivial (λ_ _=>CK (a:=k) (b:=1) X X X AA AA) (oa 5 18 X X trivial (λ_ _=>yp X) (oa 6 18 X X trivial (λ_ _=>yp X) (oa 7 18 X X trivial (λ_ _=>CK (a:=k) (b:=1) X X X AA AA) (oa 8 18 X X trivial (λ_ _=>AN (k-1) X X X X (sl X) AA) (oa 10 18 X X trivial (λ_ _=>yp X) (oa 11 18 X X trivial (λ_ _=>yp X) (oa 12 18 X X trivial (λ_ _=>AN k X X X X (sl X) AA) (G3 14 (λw'=>Mem w (λk=>k=g) [As.blk g 119 (AD St.cells l2++rs)] w') ?_))))))))))));obtain ⟨x7,hx7⟩:=BM (l:=l2) (i:=k-1) AA;refine EG 9 gkr (λc a t v w h=>by cases t<;>exact h) gkr gkr gkr X (wn_none X) X X M (λ_ M=>AK (xs:=St.cells x7) X X (B6 St.len (DK St.len (M.blk 0 X)) X hx7) underlying119 X BS) ?_;obtain ⟨x8,hx8⟩:=BM (l:=l2) (i:=k) AA;refine EG 13 gkr (λc a t v w h=>by cases t<;>exact h) gkr gkr gkr X (wn_none X) X X M (λ_ M=>AK (xs:=St.cells x8) X X (B6 St.len (DK St.len (M.blk 0 X)) X hx8) underlying119 X BS) (fo1 14 X X (AN k X X X X (sl X) AA) (B2 15 none gkr X (wn_none X) X X (λρ hρ=>BO 119 _ _ X g (0+k*10) 119 (AD St.cells l2++rs) (St.cells x7) (hρ _ _ X) (hρ _ _ X) (M.blk 0 X) BS (EZ St.len C2 X) (St.cells_one _)) ?_));rintro _ w9 ⟨rfl,hbw9,hfw9⟩;rw [E9 St.len C2] at hbw9
     replace M:Mem w (λk=>k=g) (List.set _ 0 (As.blk g 119 (AD St.cells (l2.set k x7)++rs))) w9:=M.putB 0 rfl hbw9 hfw9
     refine ⟨λh=>absurd h B3,fo1 16 X X (AN (k-1) X X X X (sl X) AA) (B2 17 none gkr X (wn_none X) X X (λρ hρ=>BO 119 _ _ X g (0+(k-1)*10) 119 (AD St.cells (l2.set k x7)++rs) (St.cells x8) (hρ _ _ X) (hρ _ _ X) (M.blk 0 X) BS (EZ St.len C2 X) (St.cells_one _)) ?_)⟩;rintro _ w10 ⟨rfl,hbw10,hfw10⟩;rw [E9 St.len C2] at hbw10
     replace M:Mem w (λk=>k=g) (List.set _ 0 (As.blk g 119 (AD St.cells ((l2.set k x7).set (k-1) x8)++rs))) w10:=M.putB 0 rfl hbw10 hfw10
     refine ⟨λh=>absurd h B3,fdn (qx_block_normal (qx_seq (sx_region (yb X (ya X (CK (a:=k) (b:=1) X X X AA AA) (yb X (sxl_nil (fag ⟨k-1,((l2.set k x7).set (k-1) x8),X,M,?_,?_,?_,?_,X⟩))))))))⟩
     ·omega
     ·exact fX hT AA AA (by assumption) (by assumption)
     ·first
       | assumption
       | (refine (BX ?_ ?_).trans (by assumption)<;>assumption)
     ·first
       | assumption
       | (simp;assumption)
    ·have h110p:=(odf h110);exact sx_exit (qx_then_exit (qx_then_exit (qx_block_hit (qx_seq (sx_ret (qx_then_ret (qx_ret0 (Or.inl X) X ⟨X,l2,hp_l2,(by rw [←he];exact mR AA hS1 AA AA AA hbL (λq h1 h2=>hbR q AA h2) (hT.cast AA rfl AA)),M.blk 0 X,M.fr⟩)))))))
  ·have h80p:=(odf h80);refine sx_skip (qx_seq (AE X (yb X (BV X X (ya X (JN X X underlying3 underlying44 AA) (ya X (M7 (a:=a+b) X X X) (ya X (JO X X underlying44 underlying3 AA) (AJ X (AE X ?_)))))))));refine yb X (BV X X (AJ X (AE X (AJ X (sx_seq (AE X (yb X ?_)))))));refine IM X X (nq (IR [(0,.slice (some ⟨g,0,none⟩) n cp),(1,AC ((a:Nat):Int)),(2,AC (m:Int)),(3,AC ((b:Nat):Int)),(4,.func (.func fc) #[] #[]),(18,AC (((a+b) / 2:Nat):Int)),(19,AC ((((a+b) / 2)+m:Nat):Int)),(20,AC ((if (decide ((((a+b) / 2:Nat):Int)<(m:Int))) then (((a+b) / 2)+m)-b else a:Nat):Int)),(21,AC ((if (decide ((((a+b) / 2:Nat):Int)<(m:Int))) then (a+b) / 2 else m:Nat):Int))] (λw'=>Mem w (λk=>k=g) [As.blk g 119 (AD St.cells l++rs)] w') ?_ (λk140=>?_)))
   ·intro w11 M;refine qx_seq (AE X (ya X (CK (a:=((a+b) / 2)+m) (b:=1) X X X AA AA) (AJ X (sx_seq (sx_block ?_)))))
    have hst:((a+b) / 2<m∧(if (decide ((((a+b) / 2:Nat):Int)<(m:Int))) then (((a+b) / 2)+m)-b else a)+b=(a+b) / 2+m∧(if (decide ((((a+b) / 2:Nat):Int)<(m:Int))) then (a+b) / 2 else m)=(a+b) / 2)∨(m≤(a+b) / 2∧(if (decide ((((a+b) / 2:Nat):Int)<(m:Int))) then (((a+b) / 2)+m)-b else a)=a∧(if (decide ((((a+b) / 2:Nat):Int)<(m:Int))) then (a+b) / 2 else m)=m):=by
     split
     ·rename_i hq
      have:=odt hq
      left;omega
     ·rename_i hq
      have:=odf (Bool.eq_false_iff.2 hq)
      right;omega
    obtain ⟨s0,hs0⟩:∃s0:Nat,s0=if (decide ((((a+b) / 2:Nat):Int)<(m:Int))) then (((a+b) / 2)+m)-b else a:=⟨_,X⟩
    obtain ⟨r0,hr0⟩:∃r0:Nat,r0=if (decide ((((a+b) / 2:Nat):Int)<(m:Int))) then (a+b) / 2 else m:=⟨_,X⟩
    rw [←hs0,←hr0] at hst
    refine flp [22,19,18,4,3,2,1,0] (λze e wr mz=>∃(s:Nat) (r:Nat) (l1:List St),e=(20,AC (s:Int))::(21,AC (r:Int))::ze∧Mem w (λk=>k=g) [As.blk g 119 (AD St.cells l1++rs)] wr∧(s0≤s∧s≤r∧r≤r0)∧(Srt f l1 a m)∧(Srt f l1 m b)∧(l1=l)∧(Sea f l1 ((a+b) / 2+m-1) s0 r0 s r)∧(l1.Perm l)∧(l1.length=n)∧mz=r-s) ⟨(if (decide ((((a+b) / 2:Nat):Int)<(m:Int))) then (((a+b) / 2)+m)-b else a),(if (decide ((((a+b) / 2:Nat):Int)<(m:Int))) then (a+b) / 2 else m),l,X,M,by rw [←hs0,←hr0];omega,S1,S2,rfl,⟨λc h1 h2=>by omega,λc h1 h2=>by omega⟩,hp_l,hn_l,rfl⟩ ?_;rintro _ w12 _ ⟨s,r,l1,rfl,M,hsr,hS1,hS2,he,hse,hp_l1,hn_l1,rfl⟩;refine sx_seq (AE X (yb X (BB X X (nq (AF X (λh151=>?_) (λh151=>?_))))))
    ·have h151p:=(odt h151);refine sx_skip (qx_seq (sx_block (AE X (yb X (BV X X (ya X (JN X X underlying3 underlying44 AA) (ya X (M7 (a:=s+r) X X X) (ya X (JO X X underlying44 underlying3 AA) (AJ X (sx_seq (CY 11 CH gkr ?_)))))))))));have M:=M.drew;iterate 4 refine sb X ?_
     refine sa X (CK (a:=(((a+b) / 2)+m)-1) (b:=(s+r) / 2) X X X AA AA) (sa X (AN (((((a+b) / 2)+m)-1)-((s+r) / 2)) X X X X (sl X) AA) ?_);obtain ⟨x9,hx9⟩:=BM (l:=l1) (i:=((((a+b) / 2)+m)-1)-((s+r) / 2)) AA;refine sa X (AK (xs:=St.cells x9) X X (B6 St.len (DK St.len (M.blk 0 X)) X hx9) underlying119 X BS) (sb X (sb X (sa X (AN ((s+r) / 2) X X X X (sl X) AA) ?_)));obtain ⟨x10,hx10⟩:=BM (l:=l1) (i:=(s+r) / 2) AA;refine sa X (AK (xs:=St.cells x10) X X (B6 St.len (DK St.len (M.blk 0 X)) X hx10) underlying119 X BS) (C8 (LZ M 169 X (BJ X X X hfc) (hcmp _ _ _) λw13 M=>BB X X (AJ X (AF X (λh171=>?_) (λh171=>?_)))))
     ·have h171p:=(odf (C5 h171));refine sx_region (yb X (BV X X (yb X (sxl_nil (qx_block_normal (fag ⟨((s+r) / 2)+1,r,l1,X,M,?_,?_,?_,?_,?_,?_,?_,X⟩))))))
      ·omega
      ·assumption
      ·assumption
      ·assumption
      ·first
        | exact hse.up hst ham hS1 hS2 AA hsr.2.2 (by assumption) (by assumption) (λhh=>h171p ((hfq _ _).2 hh))
        | exact hse.down hst hS1 hS2 hsr.1 AA AA hsr.2.2 (by assumption) (by assumption) ((hfq _ _).1 h171p)
      ·first
        | assumption
        | (refine (BX ?_ ?_).trans (by assumption)<;>assumption)
      ·first
        | assumption
        | (simp;assumption)
     ·have h171p:=(odt (BL h171));refine sx_region (AV X X (sxl_nil (qx_block_normal (fag ⟨s,(s+r) / 2,l1,X,M,?_,?_,?_,?_,?_,?_,?_,X⟩))))
      ·omega
      ·assumption
      ·assumption
      ·assumption
      ·first
        | exact hse.up hst ham hS1 hS2 AA hsr.2.2 (by assumption) (by assumption) (λhh=>h171p ((hfq _ _).2 hh))
        | exact hse.down hst hS1 hS2 hsr.1 AA AA hsr.2.2 (by assumption) (by assumption) ((hfq _ _).1 h171p)
      ·first
        | assumption
        | (refine (BX ?_ ?_).trans (by assumption)<;>assumption)
      ·first
        | assumption
        | (simp;assumption)
    ·have h151p:=(odf h151);refine sx_exit (qx_then_exit (qx_then_exit ?_));obtain rfl:s=r:=by omega
     have hall:∀l2,Rot l1 l2 s m ((a+b) / 2+m-s)→MgA f l1 l2 a b s ((a+b) / 2) ((a+b) / 2+m-s):=λl2 R=>wR hse hst ham hmb AA hS1 hS2 hsr.1 hsr.2.2 R
     refine qx_block_hit (qx_seq (AE X (yb X (ya X (CK (a:=((a+b) / 2)+m) (b:=s) X X X AA AA) (AJ X (sx_seq (AE X (yb X (BB X X ?_)))))))));refine yb X (fvm M 4 [24,20,18,4,3,2,1,0] [(185,.bool ((decide ((s:Int)<(m:Int)))&&(decide ((m:Int)<(((((a+b) / 2)+m)-s:Nat):Int)))))] ?_ (λk181=>?_))
     ·intro w14 M;refine nq (AF X (λh185=>?_) (λh185=>?_))
      ·have h185p:=(And.intro (odt (BR h185).1) (odt (BR h185).2));refine sx_region ?_;iterate 5 refine yb X ?_
       refine cl 191 X (AG X X call199) (vW g n cp fc rs s m ((((a+b) / 2)+m)-s) hm l1 _ (M.blk 0 X) hn_l1 AA AA AA) ?_;rintro _ w15 ⟨rfl,l11,hqw15,hrw15,hbw15,hfw15⟩;refine ⟨_,X,?_⟩;have M:=M.putB 0 X hbw15 hfw15;have hp_l11:l11.Perm l:=hqw15.trans hp_l1;have hn_l11:l11.length=n:=hqw15.length_eq.trans hn_l1;refine nq (sx_seq (AE X (yb X (BB X X (yb X (fvm M 4 [24,20,18,4,3,1,0] [(199,.bool ((decide (((a:Nat):Int)<(s:Int)))&&(decide ((s:Int)<(((a+b) / 2:Nat):Int)))))] ?_ (λk195=>?_)))))))
       ·intro w16 M;refine nq (AF X (λh199=>?_) (λh199=>?_))
        ·have h199p:=(And.intro (odt (BR h199).1) (odt (BR h199).2));refine sx_region ?_;iterate 5 refine yb X ?_
         refine cl 205 X (AG X X call178) (hrec a s ((a+b) / 2) l11 _ AA AA AA AA (M.blk 0 X) hn_l11 (hall _ hrw15).s1 (hall _ hrw15).s2) ?_;rintro _ w17 ⟨rfl,l12,hqw17,hrw17,hbw17,hfw17⟩;refine ⟨_,X,?_⟩;have M:=M.putB 0 X hbw17 hfw17;have hp_l12:l12.Perm l:=hqw17.trans hp_l11;have hn_l12:l12.length=n:=hqw17.length_eq.trans hn_l11;refine nq (AE X (yb X (BB X X (yb X (fvm M 4 [24,18,4,3,0] [(213,.bool ((decide ((((a+b) / 2:Nat):Int)<(((((a+b) / 2)+m)-s:Nat):Int)))&&(decide ((((((a+b) / 2)+m)-s:Nat):Int)<((b:Nat):Int)))))] ?_ (λk209=>?_))))))
         ·intro w18 M;refine nq (AF X (λh213=>?_) (λh213=>?_))
          ·have h213p:=(And.intro (odt (BR h213).1) (odt (BR h213).2));refine sx_region ?_;iterate 5 refine yb X ?_
           refine cl 219 X (AG X X call178) (hrec ((a+b) / 2) ((((a+b) / 2)+m)-s) b l12 _ AA AA AA AA (M.blk 0 X) hn_l12 ((hall _ hrw15).s3.out hrw17.out (.inr (Nat.le_refl _))) ((hall _ hrw15).s4.out hrw17.out (.inr AA))) ?_;rintro _ w19 ⟨rfl,l13,hqw19,hrw19,hbw19,hfw19⟩;refine ⟨_,X,?_⟩;have M:=M.putB 0 X hbw19 hfw19;have hp_l13:l13.Perm l:=hqw19.trans hp_l12;have hn_l13:l13.length=n:=hqw19.length_eq.trans hn_l12;exact sxl_nil (qx_ret0 (Or.inr X) X ⟨X,l13,hp_l13,(by rw [←he];exact MP (hall _ hrw15) AA AA hrw17 hrw19),M.blk 0 X,M.fr⟩)
          ·have h213p:=((CV h213).imp (λz=>(odf z)) (λz=>(odf z)));exact sx_skip (qx_ret0 (Or.inr X) X ⟨X,l12,hp_l12,(by rw [←he];exact MP (hall _ hrw15) AA AA hrw17 ((hall _ hrw15).right hrw17 AA)),M.blk 0 X,M.fr⟩)
         refine AI (d:=209) X (λh209=>?_) (λh209=>?_)
         ·exact gyq X (gyq X (yd X (E0 X X X) (yb X (k209 M ⟨X,X,X,X,X,(by rw [h209];rfl),trivial⟩))))
         ·exact yo X (yo X (yo X (yb X (k209 M ⟨X,X,X,X,X,(by rw [h209];rfl),trivial⟩))))
        ·have h199p:=((CV h199).imp (λz=>(odf z)) (λz=>(odf z)));refine sx_skip (qx_seq (AE X (yb X (BB X X (yb X (fvm M 4 [24,18,4,3,0] [(213,.bool ((decide ((((a+b) / 2:Nat):Int)<(((((a+b) / 2)+m)-s:Nat):Int)))&&(decide ((((((a+b) / 2)+m)-s:Nat):Int)<((b:Nat):Int)))))] ?_ (λk209=>?_)))))))
         ·intro w20 M;refine nq (AF X (λh213=>?_) (λh213=>?_))
          ·have h213p:=(And.intro (odt (BR h213).1) (odt (BR h213).2));refine sx_region ?_;iterate 5 refine yb X ?_
           refine cl 219 X (AG X X call178) (hrec ((a+b) / 2) ((((a+b) / 2)+m)-s) b l11 _ AA AA AA AA (M.blk 0 X) hn_l11 (hall _ hrw15).s3 (hall _ hrw15).s4) ?_;rintro _ w21 ⟨rfl,l14,hqw21,hrw21,hbw21,hfw21⟩;refine ⟨_,X,?_⟩;have M:=M.putB 0 X hbw21 hfw21;have hp_l14:l14.Perm l:=hqw21.trans hp_l11;have hn_l14:l14.length=n:=hqw21.length_eq.trans hn_l11;exact sxl_nil (qx_ret0 (Or.inr X) X ⟨X,l14,hp_l14,(by rw [←he];exact MP (hall _ hrw15) AA AA ((hall _ hrw15).left AA) hrw21),M.blk 0 X,M.fr⟩)
          ·have h213p:=((CV h213).imp (λz=>(odf z)) (λz=>(odf z)));exact sx_skip (qx_ret0 (Or.inr X) X ⟨X,l11,hp_l11,(by rw [←he];exact MP (hall _ hrw15) AA AA ((hall _ hrw15).left AA) ((hall _ hrw15).right ((hall _ hrw15).left AA) AA)),M.blk 0 X,M.fr⟩)
         refine AI (d:=209) X (λh209=>?_) (λh209=>?_)
         ·exact gyq X (gyq X (yd X (E0 X X X) (yb X (k209 M ⟨X,X,X,X,X,(by rw [h209];rfl),trivial⟩))))
         ·exact yo X (yo X (yo X (yb X (k209 M ⟨X,X,X,X,X,(by rw [h209];rfl),trivial⟩))))
       refine AI (d:=195) X (λh195=>?_) (λh195=>?_)
       ·exact gyq X (gyq X (yd X (E0 X X X) (yb X (k195 M ⟨X,X,X,X,X,X,X,(by rw [h195];rfl),trivial⟩))))
       ·exact yo X (yo X (yo X (yb X (k195 M ⟨X,X,X,X,X,X,X,(by rw [h195];rfl),trivial⟩))))
      ·have h185p:=((CV h185).imp (λz=>(odf z)) (λz=>(odf z)));refine sx_skip (qx_seq (sx_seq (AE X (yb X (BB X X (yb X (fvm M 4 [24,20,18,4,3,1,0] [(199,.bool ((decide (((a:Nat):Int)<(s:Int)))&&(decide ((s:Int)<(((a+b) / 2:Nat):Int)))))] ?_ (λk195=>?_))))))))
       ·intro w22 M;refine nq (AF X (λh199=>?_) (λh199=>?_))
        ·have h199p:=(And.intro (odt (BR h199).1) (odt (BR h199).2));refine sx_region ?_;iterate 5 refine yb X ?_
         refine cl 205 X (AG X X call178) (hrec a s ((a+b) / 2) l1 _ AA AA AA AA (M.blk 0 X) hn_l1 (hall _ (G4 AA)).s1 (hall _ (G4 AA)).s2) ?_;rintro _ w23 ⟨rfl,l15,hqw23,hrw23,hbw23,hfw23⟩;refine ⟨_,X,?_⟩;have M:=M.putB 0 X hbw23 hfw23;have hp_l15:l15.Perm l:=hqw23.trans hp_l1;have hn_l15:l15.length=n:=hqw23.length_eq.trans hn_l1;refine nq (AE X (yb X (BB X X (yb X (fvm M 4 [24,18,4,3,0] [(213,.bool ((decide ((((a+b) / 2:Nat):Int)<(((((a+b) / 2)+m)-s:Nat):Int)))&&(decide ((((((a+b) / 2)+m)-s:Nat):Int)<((b:Nat):Int)))))] ?_ (λk209=>?_))))))
         ·intro w24 M;refine nq (AF X (λh213=>?_) (λh213=>?_))
          ·have h213p:=(And.intro (odt (BR h213).1) (odt (BR h213).2));refine sx_region ?_;iterate 5 refine yb X ?_
           refine cl 219 X (AG X X call178) (hrec ((a+b) / 2) ((((a+b) / 2)+m)-s) b l15 _ AA AA AA AA (M.blk 0 X) hn_l15 ((hall _ (G4 AA)).s3.out hrw23.out (.inr (Nat.le_refl _))) ((hall _ (G4 AA)).s4.out hrw23.out (.inr AA))) ?_;rintro _ w25 ⟨rfl,l16,hqw25,hrw25,hbw25,hfw25⟩;refine ⟨_,X,?_⟩;have M:=M.putB 0 X hbw25 hfw25;have hp_l16:l16.Perm l:=hqw25.trans hp_l15;have hn_l16:l16.length=n:=hqw25.length_eq.trans hn_l15;exact sxl_nil (qx_ret0 (Or.inr X) X ⟨X,l16,hp_l16,(by rw [←he];exact MP (hall _ (G4 AA)) AA AA hrw23 hrw25),M.blk 0 X,M.fr⟩)
          ·have h213p:=((CV h213).imp (λz=>(odf z)) (λz=>(odf z)));exact sx_skip (qx_ret0 (Or.inr X) X ⟨X,l15,hp_l15,(by rw [←he];exact MP (hall _ (G4 AA)) AA AA hrw23 ((hall _ (G4 AA)).right hrw23 AA)),M.blk 0 X,M.fr⟩)
         refine AI (d:=209) X (λh209=>?_) (λh209=>?_)
         ·exact gyq X (gyq X (yd X (E0 X X X) (yb X (k209 M ⟨X,X,X,X,X,(by rw [h209];rfl),trivial⟩))))
         ·exact yo X (yo X (yo X (yb X (k209 M ⟨X,X,X,X,X,(by rw [h209];rfl),trivial⟩))))
        ·have h199p:=((CV h199).imp (λz=>(odf z)) (λz=>(odf z)));refine sx_skip (qx_seq (AE X (yb X (BB X X (yb X (fvm M 4 [24,18,4,3,0] [(213,.bool ((decide ((((a+b) / 2:Nat):Int)<(((((a+b) / 2)+m)-s:Nat):Int)))&&(decide ((((((a+b) / 2)+m)-s:Nat):Int)<((b:Nat):Int)))))] ?_ (λk209=>?_)))))))
         ·intro w26 M;refine nq (AF X (λh213=>?_) (λh213=>?_))
          ·have h213p:=(And.intro (odt (BR h213).1) (odt (BR h213).2));refine sx_region ?_;iterate 5 refine yb X ?_
           refine cl 219 X (AG X X call178) (hrec ((a+b) / 2) ((((a+b) / 2)+m)-s) b l1 _ AA AA AA AA (M.blk 0 X) hn_l1 (hall _ (G4 AA)).s3 (hall _ (G4 AA)).s4) ?_;rintro _ w27 ⟨rfl,l17,hqw27,hrw27,hbw27,hfw27⟩;refine ⟨_,X,?_⟩;have M:=M.putB 0 X hbw27 hfw27;have hp_l17:l17.Perm l:=hqw27.trans hp_l1;have hn_l17:l17.length=n:=hqw27.length_eq.trans hn_l1;exact sxl_nil (qx_ret0 (Or.inr X) X ⟨X,l17,hp_l17,(by rw [←he];exact MP (hall _ (G4 AA)) AA AA ((hall _ (G4 AA)).left AA) hrw27),M.blk 0 X,M.fr⟩)
          ·have h213p:=((CV h213).imp (λz=>(odf z)) (λz=>(odf z)));exact sx_skip (qx_ret0 (Or.inr X) X ⟨X,l1,hp_l1,(by rw [←he];exact MP (hall _ (G4 AA)) AA AA ((hall _ (G4 AA)).left AA) ((hall _ (G4 AA)).right ((hall _ (G4 AA)).left AA) AA)),M.blk 0 X,M.fr⟩)
         refine AI (d:=209) X (λh209=>?_) (λh209=>?_)
         ·exact gyq X (gyq X (yd X (E0 X X X) (yb X (k209 M ⟨X,X,X,X,X,(by rw [h209];rfl),trivial⟩))))
         ·exact yo X (yo X (yo X (yb X (k209 M ⟨X,X,X,X,X,(by rw [h209];rfl),trivial⟩))))
       refine AI (d:=195) X (λh195=>?_) (λh195=>?_)
       ·exact gyq X (gyq X (yd X (E0 X X X) (yb X (k195 M ⟨X,X,X,X,X,X,X,(by rw [h195];rfl),trivial⟩))))
       ·exact yo X (yo X (yo X (yb X (k195 M ⟨X,X,X,X,X,X,X,(by rw [h195];rfl),trivial⟩))))
     refine AI (d:=181) X (λh181=>?_) (λh181=>?_)
     ·exact gyq X (gyq X (yd X (E0 X X X) (yb X (k181 M ⟨X,X,X,X,X,X,X,X,(by rw [h181];rfl),trivial⟩))))
     ·exact yo X (yo X (yo X (yb X (k181 M ⟨X,X,X,X,X,X,X,X,(by rw [h181];rfl),trivial⟩))))
   refine AF X (λh140=>?_) (λh140=>?_)
   ·have h140p:=(odt h140);exact AE X (yb X (ya X (CK (a:=((a+b) / 2)+m) (b:=b) X X X AA AA) (AJ X (sx_region (AV X X (sxl_nil (k140 _ _ M ⟨X,X,X,X,X,X,X,(by rw [h140];rfl),(by rw [h140];rfl),trivial⟩)))))))
   ·exact AE X (AJ X (sx_region (AV X X (sxl_nil (k140 _ _ M ⟨X,X,X,X,X,X,X,(by rw [h140];rfl),(by rw [h140];rfl),trivial⟩)))))
theorem kP (g n cp:Nat) (fc:FuncId) (fq:St→St→Int) (f:St→Int) (rs:List Value) (hfc:∀(ar:Array Value) (w:World),(callFunc fc ar).run prog w=.ok (.enter fc ar) w) (hcmp:∀(a b:St) (w:World),Calls prog fc #[.agg a.cells.toArray,.agg b.cells.toArray] w (BI w (AC (fq a b)))) (hfq:∀a b,fq a b<0↔f a<f b) (hm:n≤1000000000):∀(d a m b:Nat) (l:List St) (w:World),b-a≤d→a<m→m<b→b≤n→Blk w g 119 (AD St.cells l++rs)→l.length=n→Srt f l a m→Srt f l m b→Calls prog 178 #[.slice (some ⟨g,0,none⟩) n cp,AC ((a:Nat):Int),AC ((m:Nat):Int),AC ((b:Nat):Int),.func (.func fc) #[] #[]] w λe w'=>e=.returned (.tuple #[])∧∃l':List St,l'.Perm l∧(Mgd f l l' a b)∧Blk w' g 119 (AD St.cells l'++rs)∧Fr (λk=>k=g) w w':=by
 intro d
 induction d with
 | zero=>intro a m b l w hd h1 h2;omega
 | succ d ih=>exact λa m b l w hd h1 h2 h3 hb hn s1 s2=>kO g n cp fc fq f rs a m b hfc hcmp hfq hm l w hb hn h1 h2 h3 s1 s2 λa' m' b' l w q1 q2 q3 q4 hb hn s1 s2=>ih a' m' b' l w AA q1 q2 q3 hb hn s1 s2
theorem lB (g n cp:Nat) (fc:FuncId) (fq:St→St→Int) (f:St→Int) (rs:List Value) (hfc:∀(ar:Array Value) (w:World),(callFunc fc ar).run prog w=.ok (.enter fc ar) w) (hcmp:∀(a b:St) (w:World),Calls prog fc #[.agg a.cells.toArray,.agg b.cells.toArray] w (BI w (AC (fq a b)))) (hfq:∀a b,fq a b<0↔f a<f b) (hm:n≤1000000000) (l:List St) (w:World) (hb:Blk w g 119 (AD St.cells l++rs)) (hn:l.length=n) :
 Calls prog 147 #[.slice (some ⟨g,0,none⟩) n cp,AC (n:Int),.func (.func fc) #[] #[]] w λe w'=>e=.returned (.tuple #[])∧∃l':List St,l'.Perm l∧(Stf f l l'∧Srt f l' 0 n)∧Blk w' g 119 (AD St.cells l'++rs)∧Fr (λk=>k=g) w w':=by
 have hp_l:l.Perm l:=List.Perm.refl _;have hn_l:l.length=n:=hn;refine sx_enter (vs:=[_,_,_]) func147 X ntmps147 X ?_;have M:Mem w (λk=>k=g) [As.blk g 119 (AD St.cells l++rs)] w:=Mem.one hb;refine srg (AJ X (AE X (yb X (AJ X (sx_seq (sx_block (flp [6,2,1,0] (λze e wr mz=>∃(x:Nat) (l1:List St),e=(7,AC (x:Int))::(8,AC ((x+20:Nat):Int))::ze∧Mem w (λk=>k=g) [As.blk g 119 (AD St.cells l1++rs)] wr∧(x≤n)∧(Bk1 f l l1 x)∧(l1.Perm l)∧(l1.length=n)∧mz=n-x) ⟨0,l,X,M,Nat.zero_le _,Bk1.start l,hp_l,hn_l,X⟩ ?_)))))));rintro _ w1 _ ⟨x,l1,rfl,M,hx,hB1,hp_l1,hn_l1,rfl⟩;refine sx_seq (AE X (yb X (MT X X (nq (AF X (λh13=>?_) (λh13=>?_))))))
 ·have h13p:=(odt h13);refine sx_skip (qx_seq (sx_block (srg ?_)));iterate 4 refine yb X ?_
  refine cl 18 X (AG X X call177) (dT g n cp fc fq f rs x (x+20) hfc hcmp hfq hm l1 _ (M.blk 0 X) hn_l1 AA AA) ?_;rintro _ w2 ⟨rfl,l1,hqw2,hrw2,hbw2,hfw2⟩;refine ⟨_,X,?_⟩;have M:=M.putB 0 X hbw2 hfw2;have hp_l1:l1.Perm l:=hqw2.trans hp_l1;have hn_l1:l1.length=n:=hqw2.length_eq.trans hn_l1;refine nq (AE X (AJ X (sx_region (AV X X (BV X X (yb X (sxl_nil (qx_block_normal (fag ⟨x+20,l1,X,M,?_,?_,?_,?_,X⟩)))))))))
  ·omega
  ·exact hB1.step (by assumption)
  ·first
    | assumption
    | (refine (BX ?_ ?_).trans (by assumption)<;>assumption)
  ·first
    | assumption
    | (simp;assumption)
 ·have h13p:=(odf h13);refine sx_exit (qx_then_exit (qx_then_exit (qx_block_hit (qx_seq (srg ?_)))));iterate 4 refine yb X ?_
  refine cl 27 X (AG X X call177) (dT g n cp fc fq f rs x n hfc hcmp hfq hm l1 _ (M.blk 0 X) hn_l1 AA AA) ?_;rintro _ w3 ⟨rfl,l2,hqw3,hrw3,hbw3,hfw3⟩;refine ⟨_,X,?_⟩;have M:=M.putB 0 X hbw3 hfw3;have hp_l2:l2.Perm l:=hqw3.trans hp_l1;have hn_l2:l2.length=n:=hqw3.length_eq.trans hn_l1;refine nq (sx_block (flp [2,1,0] (λze e wr mz=>∃(z:Nat) (l2:List St),e=(6,AC (z:Int))::ze∧Mem w (λk=>k=g) [As.blk g 119 (AD St.cells l2++rs)] wr∧(20≤z∧z≤2*n+20)∧(Bks f l l2 n z 0)∧(l2.Perm l)∧(l2.length=n)∧mz=n-z) ⟨20,l2,X,M,by omega,hB1.done (by assumption),hp_l2,hn_l2,rfl⟩ ?_));rintro _ w4 _ ⟨z,l2,rfl,M,hz,hB,hp_l2,hn_l2,rfl⟩;refine sx_seq (AE X (yb X (BB X X (nq (AF X (λh30=>?_) (λh30=>?_))))))
  ·have h30p:=(odt h30);refine sx_skip (qx_seq (sx_block (AE X (ya X (M8 (a:=2) (b:=z) X X X AA) (yb X (AJ X (sx_seq (sx_block (flp [6,2,1,0] (λze e wr mz=>∃(y:Nat) (y8:Nat) (l3:List St),e=(7,AC (y:Int))::(8,AC (y8:Int))::ze∧Mem w (λk=>k=g) [As.blk g 119 (AD St.cells l3++rs)] wr∧(y≤n)∧(y8=y+2*z)∧(Bks f l l3 n z y)∧(l3.Perm l)∧(l3.length=n)∧mz=n-y) ⟨0,(2*z),l2,X,M,Nat.zero_le _,by omega,hB,hp_l2,hn_l2,rfl⟩ ?_)))))))));rintro _ w5 _ ⟨y,y8,l3,rfl,M,hy,hy8,hBy,hp_l3,hn_l3,rfl⟩;refine sx_seq (AE X (yb X (MT X X (nq (AF X (λh35=>?_) (λh35=>?_))))))
   ·have h35p:=(odt h35);refine sx_skip (qx_seq (sx_block (srg ?_)));iterate 4 refine yb X ?_
    refine BV X X (AV X X (cl 43 X (AG X X call178) (kP g n cp fc fq f rs hfc hcmp hfq hm n y (y+z) y8 l3 _ AA AA AA AA (M.blk 0 X) hn_l3 (hBy.l1 AA AA) (hBy.l2 AA AA)) ?_));rintro _ w6 ⟨rfl,l3,hqw6,hrw6,hbw6,hfw6⟩;refine ⟨_,X,?_⟩;have M:=M.putB 0 X hbw6 hfw6;have hp_l3:l3.Perm l:=hqw6.trans hp_l3;have hn_l3:l3.length=n:=hqw6.length_eq.trans hn_l3;refine nq (AE X (AJ X (sx_region (AV X X (ya X (M8 (a:=2) (b:=z) X X X AA) (BV X X (yb X (sxl_nil (qx_block_normal ?_)))))))));refine fag ⟨y8,y8+(2*z),l3,X,M,?_,?_,?_,?_,?_,X⟩
    ·omega
    ·omega
    ·subst hy8;exact hBy.step AA (by assumption)
    ·first
      | assumption
      | (refine (BX ?_ ?_).trans (by assumption)<;>assumption)
    ·first
      | assumption
      | (simp;assumption)
   ·have h35p:=(odf h35);refine sx_exit (qx_then_exit (qx_then_exit (qx_block_hit (qx_seq (sx_seq (AE X (yb X (BV X X (AJ X (srg ?_))))))))));refine AV X X (BB X X (nq (AF X (λh54=>?_) (λh54=>?_))))
    ·have h54p:=(odt h54);refine sx_region ?_;iterate 5 refine yb X ?_
     refine cl 60 X (AG X X call178) (kP g n cp fc fq f rs hfc hcmp hfq hm n y (y+z) n l3 _ AA AA AA AA (M.blk 0 X) hn_l3 (hBy.l1 AA AA) (hBy.l2 AA AA)) ?_;rintro _ w7 ⟨rfl,l4,hqw7,hrw7,hbw7,hfw7⟩;refine ⟨_,X,?_⟩;have M:=M.putB 0 X hbw7 hfw7;have hp_l4:l4.Perm l:=hqw7.trans hp_l3;have hn_l4:l4.length=n:=hqw7.length_eq.trans hn_l3;refine nq (sx_region (yb X (ya X (M8 (a:=z) (b:=2) X X X AA) (yb X (sxl_nil (qx_block_normal (fag ⟨z*2,l4,X,M,?_,?_,?_,?_,X⟩)))))))
     ·omega
     ·first
       | exact S3 (hBy.next AA)
       | exact S3 (hBy.next2 (by assumption))
     ·first
       | assumption
       | (refine (BX ?_ ?_).trans (by assumption)<;>assumption)
     ·first
       | assumption
       | (simp;assumption)
    ·have h54p:=(odf h54);refine sx_skip (qx_seq (sx_region (yb X (ya X (M8 (a:=z) (b:=2) X X X AA) (yb X (sxl_nil (qx_block_normal (fag ⟨z*2,l3,X,M,?_,?_,?_,?_,X⟩))))))))
     ·omega
     ·first
       | exact S3 (hBy.next AA)
       | exact S3 (hBy.next2 (by assumption))
     ·first
       | assumption
       | (refine (BX ?_ ?_).trans (by assumption)<;>assumption)
     ·first
       | assumption
       | (simp;assumption)
  ·have h30p:=(odf h30);exact sx_exit (qx_then_exit (qx_then_exit (qx_block_hit (qx_ret0 (Or.inr X) X ⟨X,l2,hp_l2,hB.done AA,M.blk 0 X,M.fr⟩))))
theorem aK (g n cp:Nat) (fc:FuncId) (fq:St→St→Int) (f:St→Int) (rs:List Value) (hfc:∀(ar:Array Value) (w:World),(callFunc fc ar).run prog w=.ok (.enter fc ar) w) (hcmp:∀(a b:St) (w:World),Calls prog fc #[.agg a.cells.toArray,.agg b.cells.toArray] w (BI w (AC (fq a b)))) (hfq:∀a b,fq a b<0↔f a<f b) (hm:n≤1000000000) (l:List St) (w:World) (hb:Blk w g 119 (AD St.cells l++rs)) (hn:l.length=n) :
 Calls prog 88 #[.slice (some ⟨g,0,none⟩) n cp,.func (.func fc) #[] #[]] w λe w'=>e=.returned (.tuple #[])∧∃l':List St,l'.Perm l∧(Stf f l l'∧Srt f l' 0 n)∧Blk w' g 119 (AD St.cells l'++rs)∧Fr (λk=>k=g) w w':=by
 have hp_l:l.Perm l:=List.Perm.refl _;have hn_l:l.length=n:=hn;refine sx_enter (vs:=[_,_]) func88 X ntmps88 X ?_;have M:Mem w (λk=>k=g) [As.blk g 119 (AD St.cells l++rs)] w:=Mem.one hb;refine sx_region (AV X X (DF X X (yb X (cl 8 X (AG X X call147) (lB g n cp fc fq f rs hfc hcmp hfq hm l _ (M.blk 0 X) hn_l) ?_))));rintro _ w1 ⟨rfl,l1,hqw1,hrw1,hbw1,hfw1⟩;refine ⟨_,X,?_⟩;have M:=M.putB 0 X hbw1 hfw1;have hp_l1:l1.Perm l:=hqw1.trans hp_l;have hn_l1:l1.length=n:=hqw1.length_eq.trans hn_l;exact sxl_nil (qx_ret0 (Or.inr X) X ⟨X,l1,hp_l1,hrw1,M.blk 0 X,M.fr⟩)
theorem nD (A:Option Addr) (cp:Nat) (fc:FuncId) (w:World):Calls prog 177 #[.slice A 0 cp,AC 0,AC 0,.func (.func fc) #[] #[]] w (BI w (.tuple #[])):=by
 refine BH func177 ntmps177 X λM=>AE X (BV X X (AJ X (sx_block (sx_loop (λe wr mz=>e=[(0,.slice A 0 cp),(1,AC 0),(2,AC 0),(3,.func (.func fc) #[] #[]),(8,AC 1)]∧Mem w AR [] wr∧mz=0) ⟨X,M,X⟩ ⟨X,X,X,X,X,trivial⟩ ?_))))
 rintro _ w1 _ ⟨rfl,M,rfl⟩;exact sx_seq (AE X (yb X (BB X X (nq (sx_false X (sx_exit (qx_then_exit (qx_then_exit (qx_block_hit (qx_ret0 (Or.inr X) X ⟨X,M.fr⟩))))))))))
theorem fM (A:Option Addr) (cp:Nat) (fc:FuncId) (w:World):Calls prog 147 #[.slice A 0 cp,AC 0,.func (.func fc) #[] #[]] w (BI w (.tuple #[])):=by
 refine BH func147 ntmps147 X λM=>srg (AJ X (AE X (yb X (AJ X (sx_seq (sx_block (sx_loop (λe wr mz=>e=[(0,.slice A 0 cp),(1,AC 0),(2,.func (.func fc) #[] #[]),(6,AC 20),(7,AC 0),(8,AC 20)]∧Mem w AR [] wr∧mz=0) ⟨X,M,X⟩ ⟨X,X,X,X,X,X,trivial⟩ ?_)))))))
 rintro _ w1 _ ⟨rfl,M,rfl⟩;refine sx_seq (AE X (yb X (MT X X (nq (sx_false X (sx_exit (qx_then_exit (qx_then_exit (qx_block_hit (qx_seq (srg ?_)))))))))));iterate 4 refine yb X ?_
 refine CD M 27 X X call177 (nD A cp fc _) λw2 M=>nq (sx_block (sx_loop (λe wr mz=>e=[(0,.slice A 0 cp),(1,AC 0),(2,.func (.func fc) #[] #[]),(6,AC 20)]∧Mem w AR [] wr∧mz=0) ⟨X,M,X⟩ ⟨X,X,X,X,trivial⟩ ?_))
 rintro _ w3 _ ⟨rfl,M,rfl⟩;exact sx_seq (AE X (yb X (BB X X (nq (sx_false X (sx_exit (qx_then_exit (qx_then_exit (qx_block_hit (qx_ret0 (Or.inr X) X ⟨X,M.fr⟩))))))))))
theorem fP (A:Option Addr) (cp:Nat) (fc:FuncId) (w:World):Calls prog 88 #[.slice A 0 cp,.func (.func fc) #[] #[]] w (BI w (.tuple #[])):=by
 exact BH func88 ntmps88 X λM=>sx_region (AV X X (DF X X (yb X (CD M 8 X X call147 (fM A cp fc _) λw1 M=>sxl_nil (qx_ret0 (Or.inr X) X ⟨X,M.fr⟩)))))
theorem lI (base:Nat) (A:Option Addr) (c n:Nat) (fc:FuncId) (fq:St→St→Int) (f:St→Int) (l:List St) (w:World) (hfc:∀(ar:Array Value) (w:World),(callFunc fc ar).run prog w=.ok (.enter fc ar) w) (hcmp:∀(a b:St) (w:World),Calls prog fc #[.agg a.cells.toArray,.agg b.cells.toArray] w (BI w (AC (fq a b)))) (hfq:∀a b,fq a b<0↔f a<f b) (hm:n≤1000000000) (hn:l.length=n) (ho:w.ownsRow base 119 10 (.slice A n c) n (AD St.cells l)) :
 Calls prog 88 #[.slice A n c,.func (.func fc) #[] #[]] w λe w'=>e=.returned (.tuple #[])∧∃l':List St,l'.Perm l∧(Stf f l l'∧Srt f l' 0 n)∧w'.ownsRow base 119 10 (.slice A n c) n (AD St.cells l')∧Fr (λk=>k∈(Value.slice A n c).ownBlock.toList) w w':=by
 rcases ho.2 with ⟨hv,h0⟩|⟨g,cap,cur,hv,hg,hb,hnc,hcm,hcs,ht⟩
 ·subst h0;refine (fP A c fc w).mono ?_;rintro e w' ⟨rfl,hf⟩;exact ⟨X,l,List.Perm.refl _,⟨Stf.refl l,λq h1 h2=>absurd h2 AA⟩,(As.own base 119 10 (.slice A 0 c) 0 (AD St.cells l)).keep (λk _ hk=>hf.block k hk (λhh=>hh)) ho,Fr.of0 hf⟩
 ·injection hv with e1 _ e3
  subst e1;subst e3;have hfl:(AD St.cells l).length=n*10:=by rw [HC St.len,hn]
  have hcl:cur.toList=AD St.cells l++cur.toList.drop (n*10):=by rw [←ht,List.take_append_drop]
  have hb':Blk w g 119 (AD St.cells l++cur.toList.drop (n*10)):=by rw [←hcl,Blk,Array.toArray_toList];exact hb
  refine (aK g n c fc fq f (cur.toList.drop (n*10)) hfc hcmp hfq hm l w hb' hn).mono ?_;rintro e w' ⟨rfl,l',hp,hst,hb2,hf⟩;have hl':(AD St.cells l').length=n*10:=by rw [HC St.len,hp.length_eq,hn]
  refine ⟨X,l',hp,hst,⟨hl',.inr ⟨g,c,_,X,hg,hb2,hnc,hcm,?_,?_⟩⟩,hf.mono λk _ hk=>?_⟩
  ·have:=congrArg List.length hcl
   rw [Array.length_toList,List.length_append,hfl] at this
   rw [List.size_toArray,List.length_append,hl',←hcs];omega
  ·rw [List.take_left' hl']
  ·subst hk;simp [Value.ownBlock]
end Go.Proofs.YtaheakjfkpkefaaGreatDoor
