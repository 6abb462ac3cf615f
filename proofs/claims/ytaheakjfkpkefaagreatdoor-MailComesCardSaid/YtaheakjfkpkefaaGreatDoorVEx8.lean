/- Lemmas. -/
import Derived.Test.YtaheakjfkpkefaaGreatDoorVb6
import Derived.Test.YtaheakjfkpkefaaGreatDoorVRu1
set_option maxHeartbeats 16000000
set_option maxRecDepth 100000
namespace Go.Proofs.YtaheakjfkpkefaaGreatDoor
open Go.RowKit
open Tryz
section
variable {P:Program} {ops:Array Oper} {Q:Exit→Act→World→Prop} {S:World→Prop} {t n f:Nat} {listed:Array Bool} {e:Env} {w:World}
end
theorem BW  : prog.built 100 []=some #[.int .u8 0,AC 0,.bool false,str []]:=by kernel_rfl
def NY (op:UInt8):Int:=(if ((decide ((op.toNat:Int)<(1:Int))) || (decide ((17:Int)<(op.toNat:Int))))=true then (-1) else (if (decide ((op.toNat:Int)≤(2:Int)))=true then 0 else (if (decide ((op.toNat:Int)≤(4:Int)))=true then 1 else 2)))
theorem sZ (op:UInt8) (w:World):Calls prog 205 #[.int .u8 (op.toNat:Int)] w (BI w (AC (NY op))):=by
 refine BH func205 ntmps205 X λM=>srg (AJ X (sx_seq (sx_block (AE X (BB X X (yb X (fvm M 3 [0] [(9,.bool ((decide ((op.toNat:Int)<1)) || (decide (17<(op.toNat:Int)))))] ?_ (λk6=>?_))))))))
 ·intro w1 M;refine AJ X (AF X (λh3=>?_) (λh3=>?_))
  ·have h3p:=((E1 h3).imp (λz=>(odt z)) (λz=>(odt z)));exact AE X (gnr (qx_block_ret (qx_then_ret (gr1 X ⟨by rw [NY,if_pos h3],M.fr⟩))))
  ·refine AE X (MT X X (AJ X (AF X (λh10=>?_) (λh10=>?_))))
   ·exact AE X (gnr (qx_block_ret (qx_then_ret (gr1 X ⟨by rw [NY,AM h3,if_pos h10],M.fr⟩))))
   ·refine AE X (MT X X (AJ X (AF X (λh13=>?_) (λh13=>?_))))
    ·exact AE X (gnr (qx_block_ret (qx_then_ret (gr1 X ⟨by rw [NY,AM h3,AM h10,if_pos h13],M.fr⟩))))
    ·exact sx_skip (qx_block_normal (qx_seq (AE X (gnr (gr1 X ⟨by rw [NY,AM h3,AM h10,AM h13],M.fr⟩)))))
 refine AI (d:=6) X (λh6=>?_) (λh6=>?_)
 ·exact yo X (yo X (yb X (k6 M ⟨X,(by rw [h6];rfl),trivial⟩)))
 ·exact gyq X (yd X (GU X X X) (yb X (k6 M ⟨X,(by rw [h6];rfl),trivial⟩)))
def JE (n:Xn) (k:Bool):Bool:=(if (!decide (((n.nk:Nat):Int)=(NY n.op)))=true then false else (if (!decide ((n.op.toNat:Int)=(1:Int)))=true then (if (!(n.vl.same zeroVl))=true then false else (if (!decide ((n.op.toNat:Int)=(2:Int)))=true then (if (!decide (n.nm=[]))=true then false else (if (((decide ((n.op.toNat:Int)=(1:Int)))&&((!decide ((chk n.vl)=(0:Int))) || (decide (n.vl.int<(0:Int))))) || ((decide ((n.op.toNat:Int)=(2:Int)))&&((!(CG n.nm)) || (KN n.nm))))=true then false else (!k))) else (if (((decide ((n.op.toNat:Int)=(1:Int)))&&((!decide ((chk n.vl)=(0:Int))) || (decide (n.vl.int<(0:Int))))) || ((decide ((n.op.toNat:Int)=(2:Int)))&&((!(CG n.nm)) || (KN n.nm))))=true then false else (!k)))) else (if (!decide ((n.op.toNat:Int)=(2:Int)))=true then (if (!decide (n.nm=[]))=true then false else (if (((decide ((n.op.toNat:Int)=(1:Int)))&&((!decide ((chk n.vl)=(0:Int))) || (decide (n.vl.int<(0:Int))))) || ((decide ((n.op.toNat:Int)=(2:Int)))&&((!(CG n.nm)) || (KN n.nm))))=true then false else (!k))) else (if (((decide ((n.op.toNat:Int)=(1:Int)))&&((!decide ((chk n.vl)=(0:Int))) || (decide (n.vl.int<(0:Int))))) || ((decide ((n.op.toNat:Int)=(2:Int)))&&((!(CG n.nm)) || (KN n.nm))))=true then false else (!k)))))
theorem uA (n:Xn) (A:Option Addr) (k:Bool) (w:World) (hs:n.sm 1048576) (hU:Laid w utfL) (hC:∀W,Fr0 w W→Calls prog 206 #[.slice A n.nk n.nk,.func (.func 207) #[] #[]] W λe W'=>e=.returned (.bool k)∧Fr0 W W') :
 Calls prog 190 #[.agg (n.cells A).toArray] w (BI w (.bool (JE n k))):=by
 refine BH func190 ntmps190 X λM=>srg (CC M X X λg1 w1 hg1 M=>AJ X (sx_seq (sx_seq (GP M 28 CH λM=>oc 0 28 X X M (ol 1 28 X X X M (λ_ M=>(M.cell 0 X X)) (oa 2 28 X X M (λ_ M=>FM X X (sl X)) (oc 3 28 X X M (ol 4 28 X X X M (λ_ M=>(M.cell 0 X X)) ?_))))))))
 refine BQ 5 (some 8) gkr X (wn_none X) X X (AG X X call205) (sZ _ _) ?_;rintro _ w2 ⟨rfl,hfw2⟩;refine ⟨_,X,λ_=>M.step hfw2,?_⟩;have M:=M.step hfw2;refine oa 6 28 X X M (λ_ M=>DX X X X) (oc 7 28 X X M (DN (d:=10) X (λh10=>?_) (λh10=>?_)))
 ·refine BG 8 28 X M (BG 9 28 X M (BG 10 28 X M (BG 11 28 X M (EC 12 28 X X M (EC 13 28 X X M (EC 14 28 X X M (EC 15 28 X X M (BG 16 28 X M (oc 17 28 X X M (oc 18 28 X X M (BG 19 28 X M (BG 20 28 X M (BG 21 28 X M (BG 22 28 X M (EC 23 28 X X M ?_)))))))))))))));exact EC 24 28 X X M (EC 25 28 X X M (BG 26 28 X M (oc 27 28 X X M (fdn (qx_seq (sx_true X (AE X (gnr (qx_then_ret (gr1 X ⟨by rw [JE,if_pos h10],M.fr⟩))))))))))
 ·have h10p:=(odt (BL h10));refine ob 8 28 X (wn_on X X X) X X M (λ_ M=>yp X) (ob 9 28 X (wn_on X X X) X X M (λ_ M=>BF X X (sc X) (M.cell 0 X X)) (ob 10 28 X (wn_on X X X) X X M (λ_ M=>DX X X X) (ob 11 28 X (wn_on X X X) X X M (λ_ M=>yp X) (DN (d:=14) X (λh14=>?_) (λh14=>?_)))))
  ·have h14p:=(odf (C5 h14));refine ob 12 28 X (wn_on X X X) X X M (λ_ M=>yp X) (ob 13 28 X (wn_on X X X) X X M (λ_ M=>AK (xs:=[.int .u8 (n.vl.kind.toNat:Int),AC n.vl.int,.bool n.vl.bool,str n.vl.text]) X X (DZ (M.blk 0 X) 1 4 X X) underlying100 X AB) (ob 14 28 X (wn_on X X X) X X M (λ_ M=>AY (parts:=[]) X X (BW)) (ob 15 28 X (wn_on X X X) X X M (λ_ M=>pZ (a:=n.vl) (b:=zeroVl) X X X) (ob 16 28 X (wn_on X X X) X X M (λ_ M=>yp X) (oc 17 28 X X M (oc 18 28 X X M (DN (d:=21) X (λh21=>?_) (λh21=>?_))))))))
   ·refine BG 19 28 X M (BG 20 28 X M (BG 21 28 X M (BG 22 28 X M (EC 23 28 X X M (EC 24 28 X X M (EC 25 28 X X M (BG 26 28 X M (oc 27 28 X X M (fdn (qx_seq (sx_true X (AE X (sxl_nil ?_)))))))))))));exact qx_seq (sx_ret (qx_then_ret (gr1 X ⟨by rw [JE,AM h10,if_pos h14,if_pos h21],M.fr⟩)))
   ·refine ob 19 28 X (wn_on X X X) X X M (λ_ M=>yp X) (ob 20 28 X (wn_on X X X) X X M (λ_ M=>BF X X (sc X) (M.cell 0 X X)) (ob 21 28 X (wn_on X X X) X X M (λ_ M=>DX X X X) (ob 22 28 X (wn_on X X X) X X M (λ_ M=>yp X) (DN (d:=25) X (λh25=>?_) (λh25=>?_)))))
    ·have h25p:=(odf (C5 h25));refine ob 23 28 X (wn_on X X X) X X M (λ_ M=>yp X) (ob 24 28 X (wn_on X X X) X X M (λ_ M=>BF X X (sc X) (M.cell 0 X X)) (ob 25 28 X (wn_on X X X) X X M (λ_ M=>GT X X X) (ob 26 28 X (wn_on X X X) X X M (λ_ M=>yp X) (oc 27 28 X X M (fdn (qx_seq (AF X (λh30=>?_) (λh30=>?_))))))))
     ·exact AE X (gnr (qx_then_ret (gr1 X ⟨by rw [JE,AM h10,if_pos h14,AM h21,if_pos h25,if_pos h30],M.fr⟩)))
     ·have h30p:=(odt (BL h30));refine sx_skip (qx_seq (sx_seq (AE X (AU M 0 X X X (BZ X X (yb X (fvm M 11 [1] [(45,.bool ((decide ((n.op.toNat:Int)=1))&&((!decide ((chk n.vl)=(0:Int))) || (decide (n.vl.int<(0:Int))))))] ?_ (λk34=>?_))))))))
      ·intro w3 M;refine yb X (fvm M 15 [1] [(61,.bool (((decide ((n.op.toNat:Int)=1))&&((!decide ((chk n.vl)=(0:Int))) || (decide (n.vl.int<(0:Int))))) || ((decide ((n.op.toNat:Int)=2))&&((!(CG n.nm)) || (KN n.nm)))))] ?_ (λk46=>?_))
       ·intro w4 M;refine nq (AF X (λh61=>?_) (λh61=>?_))
        ·have h61p:=((E1 h61).imp (λz=>(And.intro (odt (BR z).1) ((E1 (BR z).2).imp (λz=>(odf (C5 z))) (λz=>(odt z))))) (λz=>(And.intro (odt (BR z).1) ((E1 (BR z).2).imp (λz=>(C5 z)) (λz=>z)))));exact AE X (gnr (qx_then_ret (gr1 X ⟨by rw [JE,AM h10,if_pos h14,AM h21,if_pos h25,AM h30,if_pos h61],M.fr⟩)))
        ·have h61p:=(And.intro ((CV (C6 h61).1).imp (λz=>(odf z)) (λz=>(And.intro (odt (BL (C6 z).1)) (odf (C6 z).2)))) ((CV (C6 h61).2).imp (λz=>(odf z)) (λz=>(And.intro (BL (C6 z).1) (C6 z).2))));exact sx_skip (qx_seq (AE X (AU M 0 X X X (CD M 64 X X call206 (hC _ M.fr) λw5 M=>AV X X (gnr (gr1 X ⟨by rw [JE,AM h10,if_pos h14,AM h21,if_pos h25,AM h30,AM h61],M.fr⟩))))))
       refine AI (d:=46) X (λh46=>?_) (λh46=>?_)
       ·iterate 4 refine yo X ?_
        iterate 9 refine BY X X X X X ?_
        exact yo X (yb X (k46 M ⟨X,(by rw [h46];rfl),trivial⟩))
       ·refine gyq X (CE M 0 X X X (yd X (C9 X X X) (gyq X (fvm M 10 [46,1] [(60,.bool ((decide ((n.op.toNat:Int)=2))&&((!(CG n.nm)) || (KN n.nm))))] ?_ (λk50=>?_)))))
        ·intro w6 M;exact yb X (k46 M ⟨X,(by rw [h46];rfl),trivial⟩)
        refine AI (d:=50) X (λh50=>?_) (λh50=>?_)
        ·refine gyq X (CE M 0 X X X (sxl_call (some 53) (wn_on X X X) X X (AG X X call61) (DU n.nm _ (by have:=n.sm_nm hs;omega)) ?_));rintro _ w7 ⟨rfl,hfw7⟩;refine ⟨_,X,?_⟩;have M:=M.step hfw7;refine gyq X (gyq X (fvm M 4 [50,46,1] [(59,.bool ((!(CG n.nm)) || (KN n.nm)))] ?_ (λk55=>?_)))
         ·intro w8 M;exact gyq X (k50 M ⟨X,X,(by rw [h50];rfl),trivial⟩)
         refine AI (d:=55) X (λh55=>?_) (λh55=>?_)
         ·exact yo X (yo X (yo X (gyq X (k55 M ⟨X,X,X,(by rw [h55];rfl),trivial⟩))))
         ·refine gyq X (CE M 0 X X X (sxl_call (some 58) (wn_on X X X) X X (AG X X call174) (PK n.nm _) ?_));rintro _ w9 ⟨rfl,hfw9⟩;refine ⟨_,X,?_⟩;have M:=M.step hfw9;exact gyq X (k55 M ⟨X,X,X,(by rw [h55];rfl),trivial⟩)
        ·iterate 5 refine yo X ?_
         exact BY X X X X X (BY X X X X X (BY X X X X X (yo X (gyq X (k50 M ⟨X,X,(by rw [h50];rfl),trivial⟩)))))
      refine AI (d:=34) X (λh34=>?_) (λh34=>?_)
      ·refine gyq X (yd X (AK (xs:=[.int .u8 (n.vl.kind.toNat:Int),AC n.vl.int,.bool n.vl.bool,str n.vl.text]) X X (DZ (M.blk 0 X) 1 4 X X) underlying100 X AB) (sxl_call (some 37) (wn_on X X X) X X (AG X X call59) (EJ n.vl _ (by have:=n.sm_vl hs;omega) (G7 hU M.fr)) ?_));rintro _ w10 ⟨rfl,hfw10⟩;refine ⟨_,X,?_⟩;have M:=M.step hfw10;refine yd X (DX X X X) (gyq X (fvm M 5 [34,1] [(44,.bool ((!decide ((chk n.vl)=(0:Int))) || (decide (n.vl.int<(0:Int)))))] ?_ (λk39=>?_)))
       ·intro w11 M;exact yb X (k34 M ⟨X,(by rw [h34];rfl),trivial⟩)
       refine AI (d:=39) X (λh39=>?_) (λh39=>?_)
       ·iterate 4 refine yo X ?_
        exact gyq X (k39 M ⟨X,X,(by rw [h39];rfl),trivial⟩)
       ·exact gyq X (gyq X (CE M 0 X X X (yd X (E0 X X X) (gyq X (k39 M ⟨X,X,(by rw [h39];rfl),trivial⟩)))))
      ·iterate 5 refine yo X ?_
       iterate 4 refine BY X X X X X ?_
       exact yo X (yb X (k34 M ⟨X,(by rw [h34];rfl),trivial⟩))
    ·have h25p:=(odt (BL h25));refine BG 23 28 X M (BG 24 28 X M (BG 25 28 X M (ob 26 28 X (wn_on X X X) X X M (λ_ M=>yp X) (oc 27 28 X X M (fdn (qx_seq (sx_false X (sx_skip (qx_seq (sx_seq (AE X (AU M 0 X X X (BZ X X ?_)))))))))))));refine yb X (fvm M 11 [1] [(45,.bool ((decide ((n.op.toNat:Int)=1))&&((!decide ((chk n.vl)=(0:Int))) || (decide (n.vl.int<(0:Int))))))] ?_ (λk34=>?_))
     ·intro w12 M;refine yb X (fvm M 15 [1] [(61,.bool (((decide ((n.op.toNat:Int)=1))&&((!decide ((chk n.vl)=(0:Int))) || (decide (n.vl.int<(0:Int))))) || ((decide ((n.op.toNat:Int)=2))&&((!(CG n.nm)) || (KN n.nm)))))] ?_ (λk46=>?_))
      ·intro w13 M;refine nq (AF X (λh61=>?_) (λh61=>?_))
       ·have h61p:=((E1 h61).imp (λz=>(And.intro (odt (BR z).1) ((E1 (BR z).2).imp (λz=>(odf (C5 z))) (λz=>(odt z))))) (λz=>(And.intro (odt (BR z).1) ((E1 (BR z).2).imp (λz=>(C5 z)) (λz=>z)))));exact AE X (gnr (qx_then_ret (gr1 X ⟨by rw [JE,AM h10,if_pos h14,AM h21,AM h25,if_pos h61],M.fr⟩)))
       ·have h61p:=(And.intro ((CV (C6 h61).1).imp (λz=>(odf z)) (λz=>(And.intro (odt (BL (C6 z).1)) (odf (C6 z).2)))) ((CV (C6 h61).2).imp (λz=>(odf z)) (λz=>(And.intro (BL (C6 z).1) (C6 z).2))));exact sx_skip (qx_seq (AE X (AU M 0 X X X (CD M 64 X X call206 (hC _ M.fr) λw14 M=>AV X X (gnr (gr1 X ⟨by rw [JE,AM h10,if_pos h14,AM h21,AM h25,AM h61],M.fr⟩))))))
      refine AI (d:=46) X (λh46=>?_) (λh46=>?_)
      ·iterate 4 refine yo X ?_
       iterate 9 refine BY X X X X X ?_
       exact yo X (yb X (k46 M ⟨X,(by rw [h46];rfl),trivial⟩))
      ·refine gyq X (CE M 0 X X X (yd X (C9 X X X) (gyq X (fvm M 10 [46,1] [(60,.bool ((decide ((n.op.toNat:Int)=2))&&((!(CG n.nm)) || (KN n.nm))))] ?_ (λk50=>?_)))))
       ·intro w15 M;exact yb X (k46 M ⟨X,(by rw [h46];rfl),trivial⟩)
       refine AI (d:=50) X (λh50=>?_) (λh50=>?_)
       ·refine gyq X (CE M 0 X X X (sxl_call (some 53) (wn_on X X X) X X (AG X X call61) (DU n.nm _ (by have:=n.sm_nm hs;omega)) ?_));rintro _ w16 ⟨rfl,hfw16⟩;refine ⟨_,X,?_⟩;have M:=M.step hfw16;refine gyq X (gyq X (fvm M 4 [50,46,1] [(59,.bool ((!(CG n.nm)) || (KN n.nm)))] ?_ (λk55=>?_)))
        ·intro w17 M;exact gyq X (k50 M ⟨X,X,(by rw [h50];rfl),trivial⟩)
        refine AI (d:=55) X (λh55=>?_) (λh55=>?_)
        ·exact yo X (yo X (yo X (gyq X (k55 M ⟨X,X,X,(by rw [h55];rfl),trivial⟩))))
        ·refine gyq X (CE M 0 X X X (sxl_call (some 58) (wn_on X X X) X X (AG X X call174) (PK n.nm _) ?_));rintro _ w18 ⟨rfl,hfw18⟩;refine ⟨_,X,?_⟩;have M:=M.step hfw18;exact gyq X (k55 M ⟨X,X,X,(by rw [h55];rfl),trivial⟩)
       ·iterate 5 refine yo X ?_
        exact BY X X X X X (BY X X X X X (BY X X X X X (yo X (gyq X (k50 M ⟨X,X,(by rw [h50];rfl),trivial⟩)))))
     refine AI (d:=34) X (λh34=>?_) (λh34=>?_)
     ·refine gyq X (yd X (AK (xs:=[.int .u8 (n.vl.kind.toNat:Int),AC n.vl.int,.bool n.vl.bool,str n.vl.text]) X X (DZ (M.blk 0 X) 1 4 X X) underlying100 X AB) (sxl_call (some 37) (wn_on X X X) X X (AG X X call59) (EJ n.vl _ (by have:=n.sm_vl hs;omega) (G7 hU M.fr)) ?_));rintro _ w19 ⟨rfl,hfw19⟩;refine ⟨_,X,?_⟩;have M:=M.step hfw19;refine yd X (DX X X X) (gyq X (fvm M 5 [34,1] [(44,.bool ((!decide ((chk n.vl)=(0:Int))) || (decide (n.vl.int<(0:Int)))))] ?_ (λk39=>?_)))
      ·intro w20 M;exact yb X (k34 M ⟨X,(by rw [h34];rfl),trivial⟩)
      refine AI (d:=39) X (λh39=>?_) (λh39=>?_)
      ·iterate 4 refine yo X ?_
       exact gyq X (k39 M ⟨X,X,(by rw [h39];rfl),trivial⟩)
      ·exact gyq X (gyq X (CE M 0 X X X (yd X (E0 X X X) (gyq X (k39 M ⟨X,X,(by rw [h39];rfl),trivial⟩)))))
     ·iterate 5 refine yo X ?_
      iterate 4 refine BY X X X X X ?_
      exact yo X (yb X (k34 M ⟨X,(by rw [h34];rfl),trivial⟩))
  ·have h14p:=(odt (BL h14));refine BG 12 28 X M (BG 13 28 X M (BG 14 28 X M (BG 15 28 X M (ob 16 28 X (wn_on X X X) X X M (λ_ M=>yp X) (oc 17 28 X X M (oc 18 28 X X M (ob 19 28 X (wn_on X X X) X X M (λ_ M=>yp X) (ob 20 28 X (wn_on X X X) X X M (λ_ M=>BF X X (sc X) (M.cell 0 X X)) (ob 21 28 X (wn_on X X X) X X M (λ_ M=>DX X X X) (ob 22 28 X (wn_on X X X) X X M (λ_ M=>yp X) (DN (d:=25) X (λh25=>?_) (λh25=>?_))))))))))))
   ·have h25p:=(odf (C5 h25));refine ob 23 28 X (wn_on X X X) X X M (λ_ M=>yp X) (ob 24 28 X (wn_on X X X) X X M (λ_ M=>BF X X (sc X) (M.cell 0 X X)) (ob 25 28 X (wn_on X X X) X X M (λ_ M=>GT X X X) (ob 26 28 X (wn_on X X X) X X M (λ_ M=>yp X) (oc 27 28 X X M (fdn (qx_seq (AF X (λh30=>?_) (λh30=>?_))))))))
    ·exact AE X (gnr (qx_then_ret (gr1 X ⟨by rw [JE,AM h10,AM h14,if_pos h25,if_pos h30],M.fr⟩)))
    ·have h30p:=(odt (BL h30));refine sx_skip (qx_seq (sx_seq (AE X (AU M 0 X X X (BZ X X (yb X (fvm M 11 [1] [(45,.bool ((decide ((n.op.toNat:Int)=1))&&((!decide ((chk n.vl)=(0:Int))) || (decide (n.vl.int<(0:Int))))))] ?_ (λk34=>?_))))))))
     ·intro w21 M;refine yb X (fvm M 15 [1] [(61,.bool (((decide ((n.op.toNat:Int)=1))&&((!decide ((chk n.vl)=(0:Int))) || (decide (n.vl.int<(0:Int))))) || ((decide ((n.op.toNat:Int)=2))&&((!(CG n.nm)) || (KN n.nm)))))] ?_ (λk46=>?_))
      ·intro w22 M;refine nq (AF X (λh61=>?_) (λh61=>?_))
       ·have h61p:=((E1 h61).imp (λz=>(And.intro (odt (BR z).1) ((E1 (BR z).2).imp (λz=>(odf (C5 z))) (λz=>(odt z))))) (λz=>(And.intro (odt (BR z).1) ((E1 (BR z).2).imp (λz=>(C5 z)) (λz=>z)))));exact AE X (gnr (qx_then_ret (gr1 X ⟨by rw [JE,AM h10,AM h14,if_pos h25,AM h30,if_pos h61],M.fr⟩)))
       ·have h61p:=(And.intro ((CV (C6 h61).1).imp (λz=>(odf z)) (λz=>(And.intro (odt (BL (C6 z).1)) (odf (C6 z).2)))) ((CV (C6 h61).2).imp (λz=>(odf z)) (λz=>(And.intro (BL (C6 z).1) (C6 z).2))));exact sx_skip (qx_seq (AE X (AU M 0 X X X (CD M 64 X X call206 (hC _ M.fr) λw23 M=>AV X X (gnr (gr1 X ⟨by rw [JE,AM h10,AM h14,if_pos h25,AM h30,AM h61],M.fr⟩))))))
      refine AI (d:=46) X (λh46=>?_) (λh46=>?_)
      ·iterate 4 refine yo X ?_
       iterate 9 refine BY X X X X X ?_
       exact yo X (yb X (k46 M ⟨X,(by rw [h46];rfl),trivial⟩))
      ·refine gyq X (CE M 0 X X X (yd X (C9 X X X) (gyq X (fvm M 10 [46,1] [(60,.bool ((decide ((n.op.toNat:Int)=2))&&((!(CG n.nm)) || (KN n.nm))))] ?_ (λk50=>?_)))))
       ·intro w24 M;exact yb X (k46 M ⟨X,(by rw [h46];rfl),trivial⟩)
       refine AI (d:=50) X (λh50=>?_) (λh50=>?_)
       ·refine gyq X (CE M 0 X X X (sxl_call (some 53) (wn_on X X X) X X (AG X X call61) (DU n.nm _ (by have:=n.sm_nm hs;omega)) ?_));rintro _ w25 ⟨rfl,hfw25⟩;refine ⟨_,X,?_⟩;have M:=M.step hfw25;refine gyq X (gyq X (fvm M 4 [50,46,1] [(59,.bool ((!(CG n.nm)) || (KN n.nm)))] ?_ (λk55=>?_)))
        ·intro w26 M;exact gyq X (k50 M ⟨X,X,(by rw [h50];rfl),trivial⟩)
        refine AI (d:=55) X (λh55=>?_) (λh55=>?_)
        ·exact yo X (yo X (yo X (gyq X (k55 M ⟨X,X,X,(by rw [h55];rfl),trivial⟩))))
        ·refine gyq X (CE M 0 X X X (sxl_call (some 58) (wn_on X X X) X X (AG X X call174) (PK n.nm _) ?_));rintro _ w27 ⟨rfl,hfw27⟩;refine ⟨_,X,?_⟩;have M:=M.step hfw27;exact gyq X (k55 M ⟨X,X,X,(by rw [h55];rfl),trivial⟩)
       ·iterate 5 refine yo X ?_
        exact BY X X X X X (BY X X X X X (BY X X X X X (yo X (gyq X (k50 M ⟨X,X,(by rw [h50];rfl),trivial⟩)))))
     refine AI (d:=34) X (λh34=>?_) (λh34=>?_)
     ·refine gyq X (yd X (AK (xs:=[.int .u8 (n.vl.kind.toNat:Int),AC n.vl.int,.bool n.vl.bool,str n.vl.text]) X X (DZ (M.blk 0 X) 1 4 X X) underlying100 X AB) (sxl_call (some 37) (wn_on X X X) X X (AG X X call59) (EJ n.vl _ (by have:=n.sm_vl hs;omega) (G7 hU M.fr)) ?_));rintro _ w28 ⟨rfl,hfw28⟩;refine ⟨_,X,?_⟩;have M:=M.step hfw28;refine yd X (DX X X X) (gyq X (fvm M 5 [34,1] [(44,.bool ((!decide ((chk n.vl)=(0:Int))) || (decide (n.vl.int<(0:Int)))))] ?_ (λk39=>?_)))
      ·intro w29 M;exact yb X (k34 M ⟨X,(by rw [h34];rfl),trivial⟩)
      refine AI (d:=39) X (λh39=>?_) (λh39=>?_)
      ·iterate 4 refine yo X ?_
       exact gyq X (k39 M ⟨X,X,(by rw [h39];rfl),trivial⟩)
      ·exact gyq X (gyq X (CE M 0 X X X (yd X (E0 X X X) (gyq X (k39 M ⟨X,X,(by rw [h39];rfl),trivial⟩)))))
     ·iterate 5 refine yo X ?_
      iterate 4 refine BY X X X X X ?_
      exact yo X (yb X (k34 M ⟨X,(by rw [h34];rfl),trivial⟩))
   ·have h25p:=(odt (BL h25));refine BG 23 28 X M (BG 24 28 X M (BG 25 28 X M (ob 26 28 X (wn_on X X X) X X M (λ_ M=>yp X) (oc 27 28 X X M (fdn (qx_seq (sx_false X (sx_skip (qx_seq (sx_seq (AE X (AU M 0 X X X (BZ X X ?_)))))))))))));refine yb X (fvm M 11 [1] [(45,.bool ((decide ((n.op.toNat:Int)=1))&&((!decide ((chk n.vl)=(0:Int))) || (decide (n.vl.int<(0:Int))))))] ?_ (λk34=>?_))
    ·intro w30 M;refine yb X (fvm M 15 [1] [(61,.bool (((decide ((n.op.toNat:Int)=1))&&((!decide ((chk n.vl)=(0:Int))) || (decide (n.vl.int<(0:Int))))) || ((decide ((n.op.toNat:Int)=2))&&((!(CG n.nm)) || (KN n.nm)))))] ?_ (λk46=>?_))
     ·intro w31 M;refine nq (AF X (λh61=>?_) (λh61=>?_))
      ·have h61p:=((E1 h61).imp (λz=>(And.intro (odt (BR z).1) ((E1 (BR z).2).imp (λz=>(odf (C5 z))) (λz=>(odt z))))) (λz=>(And.intro (odt (BR z).1) ((E1 (BR z).2).imp (λz=>(C5 z)) (λz=>z)))));exact AE X (gnr (qx_then_ret (gr1 X ⟨by rw [JE,AM h10,AM h14,AM h25,if_pos h61],M.fr⟩)))
      ·have h61p:=(And.intro ((CV (C6 h61).1).imp (λz=>(odf z)) (λz=>(And.intro (odt (BL (C6 z).1)) (odf (C6 z).2)))) ((CV (C6 h61).2).imp (λz=>(odf z)) (λz=>(And.intro (BL (C6 z).1) (C6 z).2))));exact sx_skip (qx_seq (AE X (AU M 0 X X X (CD M 64 X X call206 (hC _ M.fr) λw32 M=>AV X X (gnr (gr1 X ⟨by rw [JE,AM h10,AM h14,AM h25,AM h61],M.fr⟩))))))
     refine AI (d:=46) X (λh46=>?_) (λh46=>?_)
     ·iterate 4 refine yo X ?_
      iterate 9 refine BY X X X X X ?_
      exact yo X (yb X (k46 M ⟨X,(by rw [h46];rfl),trivial⟩))
     ·refine gyq X (CE M 0 X X X (yd X (C9 X X X) (gyq X (fvm M 10 [46,1] [(60,.bool ((decide ((n.op.toNat:Int)=2))&&((!(CG n.nm)) || (KN n.nm))))] ?_ (λk50=>?_)))))
      ·intro w33 M;exact yb X (k46 M ⟨X,(by rw [h46];rfl),trivial⟩)
      refine AI (d:=50) X (λh50=>?_) (λh50=>?_)
      ·refine gyq X (CE M 0 X X X (sxl_call (some 53) (wn_on X X X) X X (AG X X call61) (DU n.nm _ (by have:=n.sm_nm hs;omega)) ?_));rintro _ w34 ⟨rfl,hfw34⟩;refine ⟨_,X,?_⟩;have M:=M.step hfw34;refine gyq X (gyq X (fvm M 4 [50,46,1] [(59,.bool ((!(CG n.nm)) || (KN n.nm)))] ?_ (λk55=>?_)))
       ·intro w35 M;exact gyq X (k50 M ⟨X,X,(by rw [h50];rfl),trivial⟩)
       refine AI (d:=55) X (λh55=>?_) (λh55=>?_)
       ·exact yo X (yo X (yo X (gyq X (k55 M ⟨X,X,X,(by rw [h55];rfl),trivial⟩))))
       ·refine gyq X (CE M 0 X X X (sxl_call (some 58) (wn_on X X X) X X (AG X X call174) (PK n.nm _) ?_));rintro _ w36 ⟨rfl,hfw36⟩;refine ⟨_,X,?_⟩;have M:=M.step hfw36;exact gyq X (k55 M ⟨X,X,X,(by rw [h55];rfl),trivial⟩)
      ·iterate 5 refine yo X ?_
       exact BY X X X X X (BY X X X X X (BY X X X X X (yo X (gyq X (k50 M ⟨X,X,(by rw [h50];rfl),trivial⟩)))))
    refine AI (d:=34) X (λh34=>?_) (λh34=>?_)
    ·refine gyq X (yd X (AK (xs:=[.int .u8 (n.vl.kind.toNat:Int),AC n.vl.int,.bool n.vl.bool,str n.vl.text]) X X (DZ (M.blk 0 X) 1 4 X X) underlying100 X AB) (sxl_call (some 37) (wn_on X X X) X X (AG X X call59) (EJ n.vl _ (by have:=n.sm_vl hs;omega) (G7 hU M.fr)) ?_));rintro _ w37 ⟨rfl,hfw37⟩;refine ⟨_,X,?_⟩;have M:=M.step hfw37;refine yd X (DX X X X) (gyq X (fvm M 5 [34,1] [(44,.bool ((!decide ((chk n.vl)=(0:Int))) || (decide (n.vl.int<(0:Int)))))] ?_ (λk39=>?_)))
     ·intro w38 M;exact yb X (k34 M ⟨X,(by rw [h34];rfl),trivial⟩)
     refine AI (d:=39) X (λh39=>?_) (λh39=>?_)
     ·iterate 4 refine yo X ?_
      exact gyq X (k39 M ⟨X,X,(by rw [h39];rfl),trivial⟩)
     ·exact gyq X (gyq X (CE M 0 X X X (yd X (E0 X X X) (gyq X (k39 M ⟨X,X,(by rw [h39];rfl),trivial⟩)))))
    ·iterate 5 refine yo X ?_
     iterate 4 refine BY X X X X X ?_
     exact yo X (yb X (k34 M ⟨X,(by rw [h34];rfl),trivial⟩))
theorem pB (q:Xn × Option Addr) (c:Bool) (w:World) (hq:∀W,Fr0 w W→Calls prog 190 #[.agg (q.1.cells q.2).toArray] W λe W'=>e=.returned (.bool c)∧Fr0 W W') :
 Calls prog 207 #[.agg (q.1.cells q.2).toArray] w (BI w (.bool (!c))):=by
 refine BH func207 ntmps207 X λM=>srg (CC M X X λg1 w1 hg1 M=>AJ X (srg (CB M 0 X X underlying112 AO X (CD M 4 X X call190 (hq _ M.fr) λw2 M=>yb X (AJ X ?_)))))
 exact sx_ret (gr1 X ⟨X,M.fr⟩)
def chkX : Xn→Bool
 | .un o a=>JE (.un o a) (!chkX a)
 | .bin o a b=>JE (.bin o a b) (!chkX a || !chkX b)
 | .zero=>JE .zero false
 | .lit v=>JE (.lit v) false
 | .var s=>JE (.var s) false
theorem RZ (n:Xn):chkX n=JE n (n.kids.any (λa => !chkX a)):=by cases n<;>simp [chkX,Xn.kids]
theorem ZQ : ∀(n:Xn) (A:Option Addr) (F:List Nat) (w:World),n.AtL 112 w A F→n.sm 1048576→Laid w utfL→Calls prog 190 #[.agg (n.cells A).toArray] w (BI w (.bool (chkX n))):=by
 refine Xn.ind λn ih A F w hA hs hU=>?_
 rw [RZ];refine uA n A _ w hs hU (λW hW=>?_);obtain ⟨L,hL,hk,hR,hq⟩:=(hA.fr0 hW).kids;rw [←hk];refine (oP ndC sO A L.length L (by have:=n.nk_le;omega) 207 [] (λ_ q => !chkX q.1) AR (λ_ _=>True) W (G5 call207 (λq hq' w1 hf=>?_)) (λ_ hf=>hR.fr0 hf) trivial).mono ?_
 ·obtain ⟨F',hF'⟩:=hq q hq';have hk':q.1∈n.kids:=by rw [←hL];exact List.mem_map_of_mem hq'
  exact pB q (chkX q.1) w1 (λW' hW'=>ih q.1 hk' q.2 F' W' (hF'.fr0 (hf.trans hW')) (Xn.sm_kid hs hk') (G7 hU (hW.trans (hf.trans hW'))))
 ·rintro e w' ⟨rfl,_,hf⟩;refine ⟨?_,hf⟩;rw [JT,←hL,List.any_map];rfl
end Go.Proofs.YtaheakjfkpkefaaGreatDoor
