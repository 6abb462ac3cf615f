/- Lemmas. -/
import Derived.Test.YtaheakjfkpkefaaGreatDoorVMl11
set_option maxHeartbeats 16000000
set_option maxRecDepth 100000
namespace Go.Proofs.YtaheakjfkpkefaaGreatDoor
open Go.RowKit
open Tryz
theorem o4 (hs:List Ht):∃(h:Ht) (b:Bool),o5 hs=.tuple #[.agg h.cells.toArray,.bool b]∧(b=true→h∈hs):=by
 cases hs with
 | nil=>exact ⟨zeroHt,false,rfl,λh=>by cases h⟩
 | cons h r=>exact ⟨h,true,rfl,λ_=>List.mem_cons_self⟩
def VW (L:List Pa) (h:Ht):Prop:=∃(k:Nat) (x:Pa) (y:Tk),h.pl=((k:Nat):Int)∧h.tok=y.id∧L[k]?=some x∧runP x=true∧y∈x.i.toks∧h.via∈DJ x.m x.c y
theorem nN {w:World} {L:List Pa} (hok:∀x∈L,PaOk w x) {ap:Pa→Wt→Bool} {ss:List St} (hs:SsP L ss) {h:Ht} (hh:h∈D5 L ap ss):VW L h:=by
 obtain ⟨s,hms,hb⟩:=List.mem_filterMap.1 hh;obtain ⟨k,x,h1,h2,h3,h4⟩:=O7 (hs.perm.mem_iff.1 hms);rw [h1,Nat.zero_add,Int.toNat_natCast,h2] at hb
 have hb:LD ap x s=some h:=hb;unfold LD at hb
 split at hb
 ·obtain ⟨wt,hw,rfl⟩:=Option.map_eq_some_iff.1 hb;obtain ⟨gc,_,hC,hn,_⟩:=KG (hok x (List.mem_of_getElem? h2)) h3;have hck:=rH h3;obtain ⟨j,hj⟩:=List.getElem?_of_mem (List.mem_of_find?_eq_some hw);exact ⟨k,x,s.tk,by rw [h1,Nat.zero_add],rfl,h2,h3,h4,vD (dB hn) hC.cz (PP hck).1.2.2.2.2.2 ((PP hck).2 _ h4).1 hj⟩
 ·cases hb
theorem nO {L:List Pa} {W hs:List Ht} {h0:Ht} (hW:∀h∈W,VW L h) (hm:h0∈hs) (hk:∀{h:Ht},h∈hs→VW L h):∀h∈W++[h0],VW L h:=λh hh=>by
 rcases List.mem_append.1 hh with h1|h1
 ·exact hW h h1
 ·rw [List.mem_singleton.1 h1];exact hk hm
theorem yH {x:Pa} (hr:runP x=true):x.p.isNone=false:=by
 unfold runP at hr
 simp only [Bool.and_eq_true] at hr
 cases h:x.p with
 | none=>rw [h] at hr;exact absurd hr.1 B3
 | some a=>rfl
theorem XW : (prog.info? 26).map (·.size)=some 4:=by kernel_rfl
theorem TB (A:Option Addr) (cp:Nat) (l:List Pq) (q:Mq) (w:World) (hP:Pqs w A l) (hq:MqOk w q) (hY:Lay0 w) :
 Calls prog 5 #[.slice A l.length cp,.agg q.cells.toArray] w (BI w (.bool true)):=by
 refine BH func5 ntmps5 X λM=>srg (D6 M (wn_none X) X X 26 X X (q.cells) X λg3 w1 hg3 M=>AJ X (sx_seq (srg (CD M 15 X X call6 (VC _ (hY.fr0 M.fr)) λw2 M=>AV X X (gyq X (sxl_call (some 19) (wn_on X X X) X X (AG X X call7) (iD A cp l _ (hP.fr0 M.fr)) ?_))))))
 rintro _ w3 ⟨rfl,hfw3⟩;refine ⟨_,X,?_⟩;have M:=M.step hfw3;refine AJ X (AF X (λh20=>?_) (λh20=>?_))
 ·exact srg (CD M 21 X X call6 (VC _ (hY.fr0 M.fr)) λw4 M=>yb X (gnr (qx_then_ret (gr1 X ⟨X,M.fr⟩))))
 ·obtain ⟨h8,hbig⟩:=iE h20;refine sx_skip (qx_seq (AE X (cl 23 X (AG X X call8) (aV A cp l _ (hP.fr0 M.fr) hbig h8 (hY.fr0 M.fr)) ?_)));rintro _ w5 ⟨L,AL,cL,rfl,hoL,hokL,hmL,hlL,hfw5⟩;refine ⟨_,X,?_⟩;have M:=M.step hfw5;have hPt:Pts w5 AL L:=⟨L7 hoL,hokL,by omega⟩;have hLl:=hPt.len;have hB:Blk _ g3 26 q.cells:=M.blk 0 X;have hfw:=M.fr
  replace hY:=hY.fr0 hfw
  replace hq:=hq.fr0 hfw
  clear M
  rename World=>w
  have M:=sT w;refine AJ X (AE X (ya X (AK (xs:=[str q.nm,str q.key,.slice q.V q.vars.length q.vc,AC q.un]) X X (DZ (hB.fr0 M.fr) 0 4 X X) underlying26 X XW) (cl 27 X (AG X X call9) (Sf.mfind_ok AL cL L q _ (hPt.fr0 M.fr) (hq.fr0 M.fr) (hY.fr0 M.fr)) ?_)));rintro _ w6 ⟨ss,hss,rfl,hfw6⟩;obtain ⟨h0,ok,hfr,hmem⟩:=o4 (D5 L (IE q) ss);rw [hfr];refine ⟨_,X,?_⟩;have M:=M.step hfw6;refine AV X X (yb X (CI M X G2 λg6 w7 hg6 M=>BD M 0 X X D8 X λw8 M=>AJ X (AE X (yb X (yl X X (Blk.c (hB.fr0 M.fr) 0 X) (cl 33 X (AG X X call12) (aD AL cL L q.nm _ (hPt.fr0 M.fr) (hY.fr0 M.fr)) ?_))))));rintro _ w9 ⟨sw,AW,cW,hsw,rfl,how9,hnW,hfw9⟩;refine ⟨_,X,?_⟩;have M:=M.pushOwn hfw9 (Nat.le_refl _) how9;have hall:∀h∈(D5 L (λ_=>PU q.nm) sw),VW L h:=λh hh=>nN hPt.ok hsw hh
  obtain ⟨W,hW⟩:∃W,W=(D5 L (λ_=>PU q.nm) sw):=⟨_,X⟩
  rw [←hW] at M hnW hall ⊢
  refine AJ X (sx_seq (srg (AJ X (Y1 (ι:=List Ht × Option Addr × Nat) (λx w'=>Mem w AR [As.own w.heap.size 38 3 (.slice x.2.1 x.1.length x.2.2) x.1.length (AD Ht.cells x.1)] w'∧x.1.length≤2401∧∀h∈x.1,VW L h) (λx=>[(5,.slice AL L.length cL),(8,.slice x.2.1 x.1.length x.2.2)]) ?_ (λk34=>?_)))))
  ·rintro ⟨W1,A1,c1⟩ w10 ⟨M,hnW,hall⟩
   dsimp only at M hnW hall ⊢
   refine sx_seq (srg (AJ X (sx_block (JJ M [8,5] (λze zF e wr mz=>∃(i:Nat),e=(9,AC (i:Int))::ze∧zF wr∧(i≤W1.length)∧mz=W1.length-i) ⟨0,X,M,Nat.zero_le _,X⟩ ?_))));rintro _ w11 _ ⟨i,rfl,M,hi,rfl⟩;refine sx_seq (AE X (yb X (DF X X (BB X X (nq (AF X (λh42=>?_) (λh42=>?_)))))))
   ·have h42p:=(odt h42);refine sx_skip (qx_seq (sx_seq (sx_block (AE X (yb X ?_)))));obtain ⟨h,hh⟩:=BM (l:=W1) (i:=i) AA;obtain ⟨b_h,o_h,hA_h⟩:=B5 (k:=3) AA (M.rdOwn 0 X) hh;obtain ⟨k,x,y,hk,hid,hx,hr,hy,hv⟩:=hall h (List.mem_of_getElem? hh);have hkl:=(List.getElem?_eq_some_iff.1 hx).1;refine ya X (AN i hA_h X X X (sl X) AA) (ya X (AK X X (B6 Ht.len (M.rdOwn 0 X) hA_h hh) underlying38 X D8) (CI M X G2 λg10 w12 hg10 M=>BD M 0 X X D8 X λw13 M=>nq (sx_seq (AE X (AU M 0 X X X (BB X X (yb X (AI (d:=52) X (λh52=>?_) (λh52=>?_)))))))))
    ·have h52p:=(odt h52);omega
    ·have h52p:=(odf h52);refine gyq X (CE M 0 X X X (gyq X (yd X (FM X X (sl X)) (yd X (GV X X X) (AJ X (AF X (λh58=>?_) (λh58=>?_)))))))
     ·have h58p:=(odt h58);omega
     ·have h58p:=(odf h58);refine sx_skip (qx_seq (AE X (yb X (ya X (BF X X (sc X) (show Cell _ g10 0 (AC (k:Int)) from hk▸M.cell 0 rfl rfl)) ?_))));obtain ⟨b5_x,o5_x,hA5_x⟩:=B5 (k:=6) AA ((hPt.fr0 M.fr).rd) hx;refine ya X (AN k hA5_x X X X (sl X) AA) (ya X (AK X X (B6 Pa.len ((hPt.fr0 M.fr).rd) hA5_x hx) underlying36 X ER) (CI M X K0 λg11 w14 hg11 M=>BD M 0 X X ER X λw15 M=>nq (AE X (AU M 0 X X X (yb X (ya X (AK (xs:=[AC x.i.id,str x.i.mdl,.int .u8 (x.i.st.toNat:Int),.slice x.V x.i.vars.length x.vc,.slice x.T x.i.toks.length x.tc]) X X (DZ (M.blk 0 X) 1 5 X X) underlying33 X CF) (yb X (yl X X (show Cell _ g10 1 (AC y.id) from hid▸M.cell 1 rfl rfl) ?_))))))));refine yb X (AU M 1 X X X (cl 73 X (AG X X call13) (xP ((hPt.fr0 M.fr).ok _ (List.mem_of_getElem? hx)) hr hy hv 2147481648 1099511627776 (hY.fr0 M.fr)) ?_));rintro _ w16 ⟨ro,st,a0,a1,W0,vn,wc,X0,xc,a5,Y0,yn,yc,er,rfl,hno,hyes,hres,hfw16⟩;refine ⟨_,X,?_⟩;have M:=M.push hfw16 (As.res _ _ [] (λw2=>er=0→Rd w2 X0 (ro.length*9) (AD Tk.cells ro))) (λw2 h2=>hres w2 (S5 h2)) (RR);refine AV X X (yb X (CI M X FQ λg12 w17 hg12 M=>BD M 0 X X BU X λw18 M=>AJ X (sx_seq (AE X (CT X X (sxl_nil ?_))))));refine qx_seq (AF X (λh77=>?_) (λh77=>?_))
      ·have h77p:=(odf (C5 h77));refine AE X (BZ X X (yb X (AI (d:=80) X (λh80=>?_) (λh80=>?_))))
       ·refine yo X (yo X (yo X ?_));iterate 6 refine BY X X X X X ?_
        exact yo X (AV X X (gnr (qx_then_ret (qx_block_ret (qx_then_ret (qx_then_ret (qx_block_ret (qx_then_ret (gr1 X ⟨X,hfw.trans M.fr⟩)))))))))
       ·have h80p:=(odf h80);refine gyq X (yd X (C9 X X X) (gyq X (AI (d:=83) X (λh83=>?_) (λh83=>?_))))
        ·refine gyq X (CE M 2 X X X (gyq X (yd X (AK (xs:=[AC x.i.id,str x.i.mdl,.int .u8 (x.i.st.toNat:Int),.slice x.V x.i.vars.length x.vc,.slice x.T x.i.toks.length x.tc]) X X (DZ (M.blk 2 X) 1 5 X X) underlying33 X CF) (sxl_call (some 88) (wn_on X X X) X X (AG X X call14) (eT ((hPt.fr0 M.fr).ok _ (List.mem_of_getElem? hx)) (yH hr) 2147481648 1099511627776 (hY.fr0 M.fr)) ?_))));rintro _ w19 ⟨rfl,hfw19⟩;refine ⟨_,X,?_⟩;have M:=M.step hfw19;exact yd X (DX X X X) (gyq X (AV X X (gnr (qx_then_ret (qx_block_ret (qx_then_ret (qx_then_ret (qx_block_ret (qx_then_ret (gr1 X ⟨by rw [((hno h77p).resolve_left h80p).2];rfl,hfw.trans M.fr⟩))))))))))
        ·have h83p:=(odf h83);rcases hno h77p with h|h
         ·exact absurd h h80p
         ·exact absurd h.1 h83p
      ·have h77p:=(odt (BL h77));have he1:er=0:=by simpa using h77
       refine sx_skip (qx_seq (srg (AJ X (sx_block (JJ M [12,10,9,8,5] (λze zF e wr mz=>∃(j:Nat),e=(14,AC (j:Int))::ze∧zF wr∧(j≤ro.length)∧mz=ro.length-j) ⟨0,X,M,Nat.zero_le _,X⟩ ?_)))));rintro _ w20 _ ⟨j,rfl,M,hj,rfl⟩;refine sx_seq (AE X (AV X X (AU M 0 X X X (DF X X (BB X X (nq (AF X (λh97=>?_) (λh97=>?_))))))))
       ·have h97p:=(odt h97);refine sx_skip (qx_seq (sx_seq (sx_block (sx_seq (E8 CH gkr ?_)))));have M:=M.drew;refine sb X (sb X (EB M 0 X X X (sb X ?_)));obtain ⟨z,hz⟩:=BM (l:=ro) (i:=j) AA;obtain ⟨b_z,o_z,hA_z⟩:=B5 (k:=9) AA (M.resA 1 X _ (λ_ _ _=>X) he1) hz;refine sa X (AN j hA_z X X X (sl X) AA) (sb X (sd X X (D9 Tk.len (M.resA 1 X _ (λ_ _ _=>X) he1) hA_z hz 0 X) (sb X (sd X X (show Cell _ g10 1 (AC y.id) from hid▸M.cell 3 rfl rfl) (sa X (C9 X X X) (EX (qx_seq (AF X (λh109=>?_) (λh109=>?_)))))))))
        ·have h109p:=(odt h109);exact absurd h109p ((hyes he1).1 z (List.mem_of_getElem? hz))
        ·have h109p:=(odf h109);refine sx_skip (qx_block_normal (qx_seq (sx_region (yb X (BV X X (yb X (sxl_nil (fag ⟨j+1,X,M,?_,X⟩))))))))
         ·omega
       ·have h97p:=(odf h97);refine sx_exit (qx_then_exit (qx_then_exit (qx_block_hit (qx_block_normal (qx_seq (sx_region (yb X (BV X X (yb X (sxl_nil (fag ⟨i+1,X,(M.pk [4]),?_,X⟩)))))))))))
        ·omega
   ·exact sx_exit (qx_then_exit (qx_then_exit (qx_block_hit (qx_seq (AE X (gnr (gr1 X ⟨X,hfw.trans M.fr⟩)))))))
  ·refine AF X (λh34=>?_) (λh34=>?_)
   ·replace hall:=nO hall (hmem h34) (nN hPt.ok hss)
    exact sx_region (yb X (CB M 1 X X underlying38 D8 X (CN M (wn_none X) X X [.agg (Ht.cells h0).toArray] (Ht.cells h0) X X X X underlying45 PL X X (FP X) X λg37 w21 hg37 M=>DE (len':=(W++[h0]).length) (xs':=AD Ht.cells (W++[h0])) M 1 (wn_none X) X X X X X X (M.rdBlk 0 X X) underlying45 O0 X B3 (CL X) (Nat.le_refl _) (Nat.le_refl _) C2 (by unfold maxLen;first|omega|(simp;omega)) (by simp) (by first|exact (B9 _ _ _).symm|simp [AD,Ht.cells]) λA38 c38 w22 M=>yb X (sxl_nil (k34 (W++[h0],A38,c38) _ _ ⟨M.pk [1],by simp;omega,hall⟩ ⟨X,X,trivial⟩)))))
   ·exact sx_skip (k34 (W,AW,cW) _ _ ⟨M.pk [0],by show W.length≤2401;omega,hall⟩ ⟨X,X,trivial⟩)
end Go.Proofs.YtaheakjfkpkefaaGreatDoor
