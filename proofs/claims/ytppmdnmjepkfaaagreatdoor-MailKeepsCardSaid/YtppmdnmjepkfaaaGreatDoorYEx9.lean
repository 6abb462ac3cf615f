/- Lemmas. -/
import Derived.Test.YtppmdnmjepkfaaaGreatDoorYRu1
set_option maxHeartbeats 16000000
set_option maxRecDepth 100000
namespace Go.Proofs.YtppmdnmjepkfaaaGreatDoor
open Go.RowKit
open Tryz
open Decidable renaming decide→O
open Option renaming some→G
open Bool renaming true→zz,false→zy
open True renaming intro→zw
open Go.Proofs.Tryz renaming prog→zv
open Go renaming Calls→zt
open Option renaming some→G,none→zx
open Bool renaming true→zz
section
section
variable {P:Lw} {ops:Array Oper} {Q:Exit→Act→Kw→Prop} {S:Kw→Prop} {t n f:Nat} {listed:Array Bool} {e:Env} {w:Kw}
end
theorem L8  : zv.built 61 []=G #[.int .u8 0,AA 0,.bool zy,str []]:=zr
def IJ (op:UInt8):Int:=(if ((O ((op.toNat:Int)<(1:Int))) || (O ((17:Int)<(op.toNat:Int))))=zz then (-1) else (if (O ((op.toNat:Int)≤(2:Int)))=zz then 0 else (if (O ((op.toNat:Int)≤(4:Int)))=zz then 1 else 2)))
theorem a0h (op:UInt8) (w:Kw):zt zv 228 #[.int .u8 (op.toNat:Int)] w (BR w (AA (IJ op))):=by
 refine BO func228 ntmps228 X λM=>W ?_
 refine fvm M 3 [0] [(9,.bool ((O ((op.toNat:Int)<1)) || (O (17<(op.toNat:Int)))))] ?_ (λk6=>?_)
 ·intro w1 M;refine W ?_;refine AC X (λh3=>?_) (λh3=>?_)
  ·have h3p:=bd h3;refine W ?_;exact gr1 X ⟨by rw [IJ,Ac h3],M.fr⟩
  refine W ?_;refine AC X (λh10=>?_) (λh10=>?_)
  ·refine W ?_;exact gr1 X ⟨by rw [IJ,AN h3,Ac h10],M.fr⟩
  refine W ?_;refine AC X (λh13=>?_) (λh13=>?_)
  ·refine W ?_;exact gr1 X ⟨by rw [IJ,AN h3,AN h10,Ac h13],M.fr⟩
  refine W ?_;exact gr1 X ⟨by rw [IJ,AN h3,AN h10,AN h13],M.fr⟩
 refine A1 (d:=6) X (λh6=>?_) (λh6=>?_)
 ·refine T3 ?_;exact k6 M
 refine T3 ?_;exact k6 M
def I5 (n:Xn) (k:Bool):Bool:=(if (!decide (((n.nk:Nat):Int)=(IJ n.op)))=zz then zy else (if (!decide ((n.op.toNat:Int)=(1:Int)))=zz then (if (!(n.vl.same zeroVl))=zz then zy else (if (!decide ((n.op.toNat:Int)=(2:Int)))=zz then (if (!decide (n.nm=[]))=zz then zy else (if (((O ((n.op.toNat:Int)=(1:Int)))&&((!decide ((chk n.vl)=(0:Int))) || (O (n.vl.int<(0:Int))))) || ((O ((n.op.toNat:Int)=(2:Int)))&&((!(B5 n.nm)) || (IL n.nm))))=zz then zy else (!k))) else (if (((O ((n.op.toNat:Int)=(1:Int)))&&((!decide ((chk n.vl)=(0:Int))) || (O (n.vl.int<(0:Int))))) || ((O ((n.op.toNat:Int)=(2:Int)))&&((!(B5 n.nm)) || (IL n.nm))))=zz then zy else (!k)))) else (if (!decide ((n.op.toNat:Int)=(2:Int)))=zz then (if (!decide (n.nm=[]))=zz then zy else (if (((O ((n.op.toNat:Int)=(1:Int)))&&((!decide ((chk n.vl)=(0:Int))) || (O (n.vl.int<(0:Int))))) || ((O ((n.op.toNat:Int)=(2:Int)))&&((!(B5 n.nm)) || (IL n.nm))))=zz then zy else (!k))) else (if (((O ((n.op.toNat:Int)=(1:Int)))&&((!decide ((chk n.vl)=(0:Int))) || (O (n.vl.int<(0:Int))))) || ((O ((n.op.toNat:Int)=(2:Int)))&&((!(B5 n.nm)) || (IL n.nm))))=zz then zy else (!k)))))
theorem a0P (n:Xn) (A:Ky) (k:Bool) (w:Kw) (hs:n.sm 1048576) (hU:Laid w utfL) (hC:∀W,Fr0 w W→zt zv 229 #[.slice A n.nk n.nk,.func (.func 230) #[] #[]] W λe W'=>e=.returned (.bool k)∧Fr0 W W') :
 zt zv 210 #[.agg (n.cells A).toArray] w (BR w (.bool (I5 n k))):=by
 refine BO func210 ntmps210 X λM=>W ?_
 refine CU M X X λg1 w1 hg1 M=>W ?_
 refine I0 M 28 CA λM=>oc 0 28 X X M (ol 1 28 X X X M (λ_ M=>(M.cell 0 X X)) (oa 2 28 X X M (λ_ M=>I8 X X (sl X)) (oc 3 28 X X M (ol 4 28 X X X M (λ_ M=>(M.cell 0 X X)) (BB 5 (G 8) zr X kw X X (AE X X call228) (a0h _ _) ?_)))))
 rintro _ w2 ⟨rfl,hfw2⟩;refine ⟨_,X,λ_=>M.step hfw2,?_⟩;have M:=M.step hfw2;refine oa 6 28 X X M (λ_ M=>KT X X X) (oc 7 28 X X M (CC (d:=10) X (λh10=>?_) (λh10=>?_)))
 ·refine AQ 8 28 X M (AQ 9 28 X M (AQ 10 28 X M (AQ 11 28 X M (C9 12 28 X X M (C9 13 28 X X M (C9 14 28 X X M (C9 15 28 X X M (AQ 16 28 X M (oc 17 28 X X M (oc 18 28 X X M (AQ 19 28 X M (AQ 20 28 X M (AQ 21 28 X M (AQ 22 28 X M (C9 23 28 X X M ?_)))))))))))))));refine C9 24 28 X X M (C9 25 28 X X M (AQ 26 28 X M (oc 27 28 X X M (fdn (W ?_)))));exact gr1 X ⟨by rw [I5,Ac h10],M.fr⟩
 have h10p:=(odt (BL h10));refine ob 8 28 X kw X X M (λ_ M=>yp X) (ob 9 28 X kw X X M (λ_ M=>B3 X X (sc X) (M.cell 0 X X)) (ob 10 28 X kw X X M (λ_ M=>KT X X X) (ob 11 28 X kw X X M (λ_ M=>yp X) (CC (d:=14) X (λh14=>?_) (λh14=>?_)))))
 ·have h14p:=(odf (CJ h14));refine ob 12 28 X kw X X M (λ_ M=>yp X) (ob 13 28 X kw X X M (λ_ M=>AJ (xs:=[.int .u8 (n.vl.kind.toNat:Int),AA n.vl.int,.bool n.vl.bool,str n.vl.text]) X X (DO (M.blk 0 X) 1 4 X X) By X BM) (ob 14 28 X kw X X M (λ_ M=>B8 (parts:=[]) X X (L8)) (ob 15 28 X kw X X M (λ_ M=>l7 (a:=n.vl) (b:=zeroVl) X X X) (ob 16 28 X kw X X M (λ_ M=>yp X) (oc 17 28 X X M (oc 18 28 X X M (CC (d:=21) X (λh21=>?_) (λh21=>?_))))))))
  ·refine AQ 19 28 X M (AQ 20 28 X M (AQ 21 28 X M (AQ 22 28 X M (C9 23 28 X X M (C9 24 28 X X M (C9 25 28 X X M (AQ 26 28 X M (oc 27 28 X X M (fdn (W ?_))))))))));exact gr1 X ⟨by rw [I5,AN h10,Ac h14,Ac h21],M.fr⟩
  refine ob 19 28 X kw X X M (λ_ M=>yp X) (ob 20 28 X kw X X M (λ_ M=>B3 X X (sc X) (M.cell 0 X X)) (ob 21 28 X kw X X M (λ_ M=>KT X X X) (ob 22 28 X kw X X M (λ_ M=>yp X) (CC (d:=25) X (λh25=>?_) (λh25=>?_)))))
  ·have h25p:=(odf (CJ h25));refine ob 23 28 X kw X X M (λ_ M=>yp X) (ob 24 28 X kw X X M (λ_ M=>B3 X X (sc X) (M.cell 0 X X)) (ob 25 28 X kw X X M (λ_ M=>IU X X X) (ob 26 28 X kw X X M (λ_ M=>yp X) (oc 27 28 X X M (fdn (qx_seq (AC X (λh30=>?_) (λh30=>?_))))))))
   ·refine W ?_;exact gr1 X ⟨by rw [I5,AN h10,Ac h14,AN h21,Ac h25,Ac h30],M.fr⟩
   have h30p:=(odt (BL h30));refine W ?_;refine fvm M 11 [1] [(45,.bool ((O ((n.op.toNat:Int)=1))&&((!decide ((chk n.vl)=(0:Int))) || (O (n.vl.int<(0:Int))))))] ?_ (λk34=>?_)
   ·intro w3 M;refine yb X (fvm M 15 [1] [(61,.bool (((O ((n.op.toNat:Int)=1))&&((!decide ((chk n.vl)=(0:Int))) || (O (n.vl.int<(0:Int))))) || ((O ((n.op.toNat:Int)=2))&&((!(B5 n.nm)) || (IL n.nm)))))] ?_ (λk46=>?_))
    ·intro w4 M;refine W ?_;refine AC X (λh61=>?_) (λh61=>?_)
     ·have h61p:=bd h61;refine W ?_;exact gr1 X ⟨by rw [I5,AN h10,Ac h14,AN h21,Ac h25,AN h30,Ac h61],M.fr⟩
     have h61p:=bd h61;refine W ?_;refine CQ M 64 X X call229 (hC _ M.fr) λw5 M=>W ?_
     exact gr1 X ⟨by rw [I5,AN h10,Ac h14,AN h21,Ac h25,AN h30,AN h61],M.fr⟩
    refine A1 (d:=46) X (λh46=>?_) (λh46=>?_)
    ·refine T15 ?_;exact k46 M
    refine W ?_;refine fvm M 10 [46,1] [(60,.bool ((O ((n.op.toNat:Int)=2))&&((!(B5 n.nm)) || (IL n.nm))))] ?_ (λk50=>?_)
    ·intro w6 M;exact yb X (k46 M)
    refine A1 (d:=50) X (λh50=>?_) (λh50=>?_)
    ·refine W ?_;refine sxl_call (G 53) kw X X (AE X X call37) (E8 n.nm _ (by have:=n.sm_nm hs;omega)) ?_;rintro _ w7 ⟨rfl,hfw7⟩;refine cq ?_;have M:=M.step hfw7;refine W ?_;refine fvm M 4 [50,46,1] [(59,.bool ((!(B5 n.nm)) || (IL n.nm)))] ?_ (λk55=>?_)
     ·intro w8 M;exact gyq X (k50 M)
     refine A1 (d:=55) X (λh55=>?_) (λh55=>?_)
     ·refine T4 ?_;exact k55 M
     refine W ?_;refine sxl_call (G 58) kw X X (AE X X call196) (SC n.nm _) ?_;rintro _ w9 ⟨rfl,hfw9⟩;refine cq ?_;have M:=M.step hfw9;exact gyq X (k55 M)
    refine T10 ?_;exact k50 M
   refine A1 (d:=34) X (λh34=>?_) (λh34=>?_)
   ·refine gyq X (yd X (AJ (xs:=[.int .u8 (n.vl.kind.toNat:Int),AA n.vl.int,.bool n.vl.bool,str n.vl.text]) X X (DO (M.blk 0 X) 1 4 X X) By X BM) (sxl_call (G 37) kw X X (AE X X call38) (J1 n.vl _ (by have:=n.sm_vl hs;omega) (GC hU M.fr)) ?_));rintro _ w10 ⟨rfl,hfw10⟩;refine cq ?_;have M:=M.step hfw10;refine W ?_;refine fvm M 5 [34,1] [(44,.bool ((!decide ((chk n.vl)=(0:Int))) || (O (n.vl.int<(0:Int)))))] ?_ (λk39=>?_)
    ·intro w11 M;exact yb X (k34 M)
    refine A1 (d:=39) X (λh39=>?_) (λh39=>?_)
    ·refine T5 ?_;exact k39 M
    refine T5 ?_;exact k39 M
   refine T11 ?_;exact k34 M
  have h25p:=(odt (BL h25));refine AQ 23 28 X M (AQ 24 28 X M (AQ 25 28 X M (ob 26 28 X kw X X M (λ_ M=>yp X) (oc 27 28 X X M (fdn (W ?_))))));refine fvm M 11 [1] [(45,.bool ((O ((n.op.toNat:Int)=1))&&((!decide ((chk n.vl)=(0:Int))) || (O (n.vl.int<(0:Int))))))] ?_ (λk34=>?_)
  ·intro w12 M;refine yb X (fvm M 15 [1] [(61,.bool (((O ((n.op.toNat:Int)=1))&&((!decide ((chk n.vl)=(0:Int))) || (O (n.vl.int<(0:Int))))) || ((O ((n.op.toNat:Int)=2))&&((!(B5 n.nm)) || (IL n.nm)))))] ?_ (λk46=>?_))
   ·intro w13 M;refine W ?_;refine AC X (λh61=>?_) (λh61=>?_)
    ·have h61p:=bd h61;refine W ?_;exact gr1 X ⟨by rw [I5,AN h10,Ac h14,AN h21,AN h25,Ac h61],M.fr⟩
    have h61p:=bd h61;refine W ?_;refine CQ M 64 X X call229 (hC _ M.fr) λw14 M=>W ?_
    exact gr1 X ⟨by rw [I5,AN h10,Ac h14,AN h21,AN h25,AN h61],M.fr⟩
   refine A1 (d:=46) X (λh46=>?_) (λh46=>?_)
   ·refine T15 ?_;exact k46 M
   refine W ?_;refine fvm M 10 [46,1] [(60,.bool ((O ((n.op.toNat:Int)=2))&&((!(B5 n.nm)) || (IL n.nm))))] ?_ (λk50=>?_)
   ·intro w15 M;exact yb X (k46 M)
   refine A1 (d:=50) X (λh50=>?_) (λh50=>?_)
   ·refine W ?_;refine sxl_call (G 53) kw X X (AE X X call37) (E8 n.nm _ (by have:=n.sm_nm hs;omega)) ?_;rintro _ w16 ⟨rfl,hfw16⟩;refine cq ?_;have M:=M.step hfw16;refine W ?_;refine fvm M 4 [50,46,1] [(59,.bool ((!(B5 n.nm)) || (IL n.nm)))] ?_ (λk55=>?_)
    ·intro w17 M;exact gyq X (k50 M)
    refine A1 (d:=55) X (λh55=>?_) (λh55=>?_)
    ·refine T4 ?_;exact k55 M
    refine W ?_;refine sxl_call (G 58) kw X X (AE X X call196) (SC n.nm _) ?_;rintro _ w18 ⟨rfl,hfw18⟩;refine cq ?_;have M:=M.step hfw18;exact gyq X (k55 M)
   refine T10 ?_;exact k50 M
  refine A1 (d:=34) X (λh34=>?_) (λh34=>?_)
  ·refine gyq X (yd X (AJ (xs:=[.int .u8 (n.vl.kind.toNat:Int),AA n.vl.int,.bool n.vl.bool,str n.vl.text]) X X (DO (M.blk 0 X) 1 4 X X) By X BM) (sxl_call (G 37) kw X X (AE X X call38) (J1 n.vl _ (by have:=n.sm_vl hs;omega) (GC hU M.fr)) ?_));rintro _ w19 ⟨rfl,hfw19⟩;refine cq ?_;have M:=M.step hfw19;refine W ?_;refine fvm M 5 [34,1] [(44,.bool ((!decide ((chk n.vl)=(0:Int))) || (O (n.vl.int<(0:Int)))))] ?_ (λk39=>?_)
   ·intro w20 M;exact yb X (k34 M)
   refine A1 (d:=39) X (λh39=>?_) (λh39=>?_)
   ·refine T5 ?_;exact k39 M
   refine T5 ?_;exact k39 M
  refine T11 ?_;exact k34 M
 have h14p:=(odt (BL h14));refine AQ 12 28 X M (AQ 13 28 X M (AQ 14 28 X M (AQ 15 28 X M (ob 16 28 X kw X X M (λ_ M=>yp X) (oc 17 28 X X M (oc 18 28 X X M (ob 19 28 X kw X X M (λ_ M=>yp X) (ob 20 28 X kw X X M (λ_ M=>B3 X X (sc X) (M.cell 0 X X)) (ob 21 28 X kw X X M (λ_ M=>KT X X X) (ob 22 28 X kw X X M (λ_ M=>yp X) (CC (d:=25) X (λh25=>?_) (λh25=>?_))))))))))))
 ·have h25p:=(odf (CJ h25));refine ob 23 28 X kw X X M (λ_ M=>yp X) (ob 24 28 X kw X X M (λ_ M=>B3 X X (sc X) (M.cell 0 X X)) (ob 25 28 X kw X X M (λ_ M=>IU X X X) (ob 26 28 X kw X X M (λ_ M=>yp X) (oc 27 28 X X M (fdn (qx_seq (AC X (λh30=>?_) (λh30=>?_))))))))
  ·refine W ?_;exact gr1 X ⟨by rw [I5,AN h10,AN h14,Ac h25,Ac h30],M.fr⟩
  have h30p:=(odt (BL h30));refine W ?_;refine fvm M 11 [1] [(45,.bool ((O ((n.op.toNat:Int)=1))&&((!decide ((chk n.vl)=(0:Int))) || (O (n.vl.int<(0:Int))))))] ?_ (λk34=>?_)
  ·intro w21 M;refine yb X (fvm M 15 [1] [(61,.bool (((O ((n.op.toNat:Int)=1))&&((!decide ((chk n.vl)=(0:Int))) || (O (n.vl.int<(0:Int))))) || ((O ((n.op.toNat:Int)=2))&&((!(B5 n.nm)) || (IL n.nm)))))] ?_ (λk46=>?_))
   ·intro w22 M;refine W ?_;refine AC X (λh61=>?_) (λh61=>?_)
    ·have h61p:=bd h61;refine W ?_;exact gr1 X ⟨by rw [I5,AN h10,AN h14,Ac h25,AN h30,Ac h61],M.fr⟩
    have h61p:=bd h61;refine W ?_;refine CQ M 64 X X call229 (hC _ M.fr) λw23 M=>W ?_
    exact gr1 X ⟨by rw [I5,AN h10,AN h14,Ac h25,AN h30,AN h61],M.fr⟩
   refine A1 (d:=46) X (λh46=>?_) (λh46=>?_)
   ·refine T15 ?_;exact k46 M
   refine W ?_;refine fvm M 10 [46,1] [(60,.bool ((O ((n.op.toNat:Int)=2))&&((!(B5 n.nm)) || (IL n.nm))))] ?_ (λk50=>?_)
   ·intro w24 M;exact yb X (k46 M)
   refine A1 (d:=50) X (λh50=>?_) (λh50=>?_)
   ·refine W ?_;refine sxl_call (G 53) kw X X (AE X X call37) (E8 n.nm _ (by have:=n.sm_nm hs;omega)) ?_;rintro _ w25 ⟨rfl,hfw25⟩;refine cq ?_;have M:=M.step hfw25;refine W ?_;refine fvm M 4 [50,46,1] [(59,.bool ((!(B5 n.nm)) || (IL n.nm)))] ?_ (λk55=>?_)
    ·intro w26 M;exact gyq X (k50 M)
    refine A1 (d:=55) X (λh55=>?_) (λh55=>?_)
    ·refine T4 ?_;exact k55 M
    refine W ?_;refine sxl_call (G 58) kw X X (AE X X call196) (SC n.nm _) ?_;rintro _ w27 ⟨rfl,hfw27⟩;refine cq ?_;have M:=M.step hfw27;exact gyq X (k55 M)
   refine T10 ?_;exact k50 M
  refine A1 (d:=34) X (λh34=>?_) (λh34=>?_)
  ·refine gyq X (yd X (AJ (xs:=[.int .u8 (n.vl.kind.toNat:Int),AA n.vl.int,.bool n.vl.bool,str n.vl.text]) X X (DO (M.blk 0 X) 1 4 X X) By X BM) (sxl_call (G 37) kw X X (AE X X call38) (J1 n.vl _ (by have:=n.sm_vl hs;omega) (GC hU M.fr)) ?_));rintro _ w28 ⟨rfl,hfw28⟩;refine cq ?_;have M:=M.step hfw28;refine W ?_;refine fvm M 5 [34,1] [(44,.bool ((!decide ((chk n.vl)=(0:Int))) || (O (n.vl.int<(0:Int)))))] ?_ (λk39=>?_)
   ·intro w29 M;exact yb X (k34 M)
   refine A1 (d:=39) X (λh39=>?_) (λh39=>?_)
   ·refine T5 ?_;exact k39 M
   refine T5 ?_;exact k39 M
  refine T11 ?_;exact k34 M
 have h25p:=(odt (BL h25));refine AQ 23 28 X M (AQ 24 28 X M (AQ 25 28 X M (ob 26 28 X kw X X M (λ_ M=>yp X) (oc 27 28 X X M (fdn (W ?_))))));refine fvm M 11 [1] [(45,.bool ((O ((n.op.toNat:Int)=1))&&((!decide ((chk n.vl)=(0:Int))) || (O (n.vl.int<(0:Int))))))] ?_ (λk34=>?_)
 ·intro w30 M;refine yb X (fvm M 15 [1] [(61,.bool (((O ((n.op.toNat:Int)=1))&&((!decide ((chk n.vl)=(0:Int))) || (O (n.vl.int<(0:Int))))) || ((O ((n.op.toNat:Int)=2))&&((!(B5 n.nm)) || (IL n.nm)))))] ?_ (λk46=>?_))
  ·intro w31 M;refine W ?_;refine AC X (λh61=>?_) (λh61=>?_)
   ·have h61p:=bd h61;refine W ?_;exact gr1 X ⟨by rw [I5,AN h10,AN h14,AN h25,Ac h61],M.fr⟩
   have h61p:=bd h61;refine W ?_;refine CQ M 64 X X call229 (hC _ M.fr) λw32 M=>W ?_
   exact gr1 X ⟨by rw [I5,AN h10,AN h14,AN h25,AN h61],M.fr⟩
  refine A1 (d:=46) X (λh46=>?_) (λh46=>?_)
  ·refine T15 ?_;exact k46 M
  refine W ?_;refine fvm M 10 [46,1] [(60,.bool ((O ((n.op.toNat:Int)=2))&&((!(B5 n.nm)) || (IL n.nm))))] ?_ (λk50=>?_)
  ·intro w33 M;exact yb X (k46 M)
  refine A1 (d:=50) X (λh50=>?_) (λh50=>?_)
  ·refine W ?_;refine sxl_call (G 53) kw X X (AE X X call37) (E8 n.nm _ (by have:=n.sm_nm hs;omega)) ?_;rintro _ w34 ⟨rfl,hfw34⟩;refine cq ?_;have M:=M.step hfw34;refine W ?_;refine fvm M 4 [50,46,1] [(59,.bool ((!(B5 n.nm)) || (IL n.nm)))] ?_ (λk55=>?_)
   ·intro w35 M;exact gyq X (k50 M)
   refine A1 (d:=55) X (λh55=>?_) (λh55=>?_)
   ·refine T4 ?_;exact k55 M
   refine W ?_;refine sxl_call (G 58) kw X X (AE X X call196) (SC n.nm _) ?_;rintro _ w36 ⟨rfl,hfw36⟩;refine cq ?_;have M:=M.step hfw36;exact gyq X (k55 M)
  refine T10 ?_;exact k50 M
 refine A1 (d:=34) X (λh34=>?_) (λh34=>?_)
 ·refine gyq X (yd X (AJ (xs:=[.int .u8 (n.vl.kind.toNat:Int),AA n.vl.int,.bool n.vl.bool,str n.vl.text]) X X (DO (M.blk 0 X) 1 4 X X) By X BM) (sxl_call (G 37) kw X X (AE X X call38) (J1 n.vl _ (by have:=n.sm_vl hs;omega) (GC hU M.fr)) ?_));rintro _ w37 ⟨rfl,hfw37⟩;refine cq ?_;have M:=M.step hfw37;refine W ?_;refine fvm M 5 [34,1] [(44,.bool ((!decide ((chk n.vl)=(0:Int))) || (O (n.vl.int<(0:Int)))))] ?_ (λk39=>?_)
  ·intro w38 M;exact yb X (k34 M)
  refine A1 (d:=39) X (λh39=>?_) (λh39=>?_)
  ·refine T5 ?_;exact k39 M
  refine T5 ?_;exact k39 M
 refine T11 ?_;exact k34 M
theorem xA (q:Xn × Ky) (c:Bool) (w:Kw) (hq:∀W,Fr0 w W→zt zv 210 #[.agg (q.1.cells q.2).toArray] W λe W'=>e=.returned (.bool c)∧Fr0 W W') :
 zt zv 230 #[.agg (q.1.cells q.2).toArray] w (BR w (.bool (!c))):=by
 refine BO func230 ntmps230 X λM=>W ?_
 refine CU M X X λg1 w1 hg1 M=>W ?_
 refine CF M 0 X X Bt AU X (CQ M 4 X X call210 (hq _ M.fr) λw2 M=>W ?_);exact gr1 X ⟨X,M.fr⟩
def chkX : Xn→Bool
 | .un o a=>I5 (.un o a) (!chkX a)
 | .bin o a b=>I5 (.bin o a b) (!chkX a || !chkX b)
 | .zero=>I5 .zero zy
 | .lit v=>I5 (.lit v) zy
 | .var s=>I5 (.var s) zy
theorem SK (n:Xn):chkX n=I5 n (n.kids.any (λa => !chkX a)):=by cases n<;>simp [chkX,Xn.kids]
theorem wY : ∀(n:Xn) (A:Ky) (F:List Nat) (w:Kw),n.AtL 113 w A F→n.sm 1048576→Laid w utfL→zt zv 210 #[.agg (n.cells A).toArray] w (BR w (.bool (chkX n))):=by
 refine Xn.ind λn ih A F w hA hs hU=>?_
 rw [SK];refine a0P n A _ w hs hU (λW hW=>?_);obtain ⟨L,hL,hk,hR,hq⟩:=(hA.fr0 hW).kids;rw [←hk];refine (wO ndC a0b A L.length L (by have:=n.nk_le;omega) 230 [] (λ_ q => !chkX q.1) AR (λ_ _=>True) W (J7 call230 (λq hq' w1 hf=>?_)) (λ_ hf=>hR.fr0 hf) zw).mono ?_
 ·obtain ⟨F',hF'⟩:=hq q hq';have hk':q.1∈n.kids:=by rw [←hL];exact Ei hq'
  exact xA q (chkX q.1) w1 (λW' hW'=>ih q.1 hk' q.2 F' W' (hF'.fr0 (hf.trans hW')) (Xn.sm_kid hs hk') (GC hU (hW.trans (hf.trans hW'))))
 rintro e w' ⟨rfl,_,hf⟩;refine ⟨?_,hf⟩;rw [MN,←hL,Jj];rfl
end
abbrev Xq := Xn × Ky
def Xq.cells (q:Xq):Kx:=q.1.cells q.2
theorem Xq.len (q:Xq):q.cells.length=7:=rfl
def OF (n:Xn) (A:Ky) (k:Nat):Kx:=[.int .u8 (n.op.toNat:Int),.int .u8 (n.vl.kind.toNat:Int),.int .i64 n.vl.int,.bool n.vl.bool,str n.vl.text,str n.nm,.slice A k k]
theorem NE {z:UInt8} {l:Kz} (h:l[0]?=G z):l.headD 0=z:=by cases l<;>simp_all
def LJ (f:Xq→UInt8 × Int):List Xq→Option Int
 | []=>zx
 | q::r=>if (!decide ((f q).2=0))=zz then G (f q).2 else LJ f r
def L3 (op:UInt8) (ts:Kz) (z:UInt8):UInt8 × Int:=
 if (ts.any (λt => !decide ((t.toNat:Int)=(z.toNat:Int))))=zz then (0,90)
 else if ((O ((op.toNat:Int)=(7:Int))) || (O ((op.toNat:Int)=(8:Int))))=zz then (2,0)
 else if ((((O ((op.toNat:Int)=(3:Int))) || (O ((op.toNat:Int)=(5:Int)))) || (O ((op.toNat:Int)=(6:Int))))&&(O ((z.toNat:Int)=(2:Int))))=zz then (z,0)
 else if (((O ((9:Int)≤(op.toNat:Int)))&&(O ((op.toNat:Int)≤(12:Int))))&&(!decide ((z.toNat:Int)=(2:Int))))=zz then (2,0)
 else if ((((O ((op.toNat:Int)=(4:Int))) || (O ((13:Int)≤(op.toNat:Int))))&&(O ((z.toNat:Int)=(1:Int)))) || ((O ((op.toNat:Int)=(13:Int)))&&(O ((z.toNat:Int)=(3:Int)))))=zz then (z,0)
 else (0,90)
def UI (op:UInt8) (ts:Kz):UInt8 × Int:=L3 op ts (ts.headD 0)
def tyW (n:Xn) (vars:List Bd) (f:Xq→UInt8 × Int) (L:List Xq):UInt8 × Int:=
 if (O ((n.op.toNat:Int)=(1:Int)))=zz then (n.vl.kind,0)
 else if (O ((n.op.toNat:Int)=(2:Int)))=zz then (match ffN (λ(_:Nat) (b:Bd) => !(O (b.name=n.nm))) 0 vars with
  | none=>(0,100)
  | some b=>(b.v.kind,0))
 else match LJ f L with
  | some e=>(0,e)
  | none=>UI n.op (L.map (λq=>(f q).1))
theorem jZ : (zv.info? 5).map (λi=>(i.zero,i.size,i.bytes))=G (G (.int .u8 0),1,1):=zr
theorem p6 : (zv.info? 5).map (λi=>(i.zero,i.size))=G (G (.int .u8 0),1):=zr
theorem WA : (zv.info? 5).map (·.size)=G 1:=zr
theorem qG : (zv.info? 5).map (·.zero)=G (G (.int .u8 0)):=zr
theorem a0w (A:Ky) (c:Nat) (l:Kz) (hl:l.length≤4611686018427387904) (f:FuncId) (cs:Kx) (p:Nat→UInt8→Bool) (S:Nat→Prop) (J:Nat→Kw→Prop) (w:Kw) (hP:PredJ zv f cs (λb=>.int .u8 (b.toNat:Int)) l p S J w) (hR:∀w1,Fr S w w1→Rd w1 A (l.length*1) (AF Y5 l)) (hJ:J 0 w) :
 zt zv 245 #[.slice A l.length c,.func (.func f) #[] cs.toArray] w λe w'=>e=.returned (AA (ixJ p 0 l))∧J (ixN p 0 l) w'∧Fr S w w':=by
 refine sx_enter (vs:=[_,_]) func245 X ntmps245 X ?_;have M:Mem w S [] w:=Mem.nil w;refine W ?_;refine EC M [7,1,0] (λze zF e wr mz=>∃(i:Nat),e=(8,AA (i:Int))::ze∧zF wr∧(i≤l.length)∧(J i wr)∧(ixJ p 0 l=ixJ p i (l.drop i))∧(ixN p 0 l=ixN p i (l.drop i))∧mz=l.length-i) ⟨0,X,M,Aj _,hJ,X,X,X⟩ ?_;rintro _ w1 _ ⟨i,rfl,M,hi,hJ,hr,hn,rfl⟩;refine W ?_;refine AC X (λh9=>?_) (λh9=>?_)
 ·have h9p:=odt h9;refine W ?_;obtain ⟨x,_,_,hx,hA_x⟩:=ex5 (l:=l) (k:=1) (i:=i) (hR _ M.fr);refine ya X (AK i hA_x X X X (sl X) A0) (yl X X (BC aH (hR _ M.fr) hA_x hx 0 X) (cl 16 X (C7 X X X hP.fn) (hP.call i x _ hx M.fr hJ) ?_));rintro _ w9 ⟨rfl,hJ,hf9⟩;refine cq ?_;have M:Mem w S [] w9:=Mem.ofFr (M.fr.trans hf9);refine W ?_;refine AC X (λh16=>?_) (λh16=>?_)
  ·refine W ?_;exact gr1 X ⟨by rw [hr,AH hx,ixJ,Ac h16],by rw [hn,AH hx,ixN,Ac h16];exact hJ,M.fr⟩
  refine W ?_;refine fag ⟨i+1,X,M,?_,?_,?_,?_,X⟩
  ·omega
  ·exact hJ
  ·rw [hr,AH hx,ixJ,AN h16]
  rw [hn,AH hx,ixN,AN h16]
 have h9p:=odf h9;refine W ?_;refine gr1 X ?_;obtain rfl:i=l.length:=A0
 exact ⟨by rw [hr,Aq];rfl,by rw [hn,Aq];exact hJ,M.fr⟩
theorem wN (A:Ky) (c:Nat) (l:Kz) (hl:l.length≤4611686018427387904) (f:FuncId) (cs:Kx) (p:Nat→UInt8→Bool) (S:Nat→Prop) (J:Nat→Kw→Prop) (w:Kw) (hP:PredJ zv f cs (λb=>.int .u8 (b.toNat:Int)) l p S J w) (hR:∀w1,Fr S w w1→Rd w1 A (l.length*1) (AF Y5 l)) (hJ:J 0 w) :
 zt zv 232 #[.slice A l.length c,.func (.func f) #[] cs.toArray] w λe w'=>e=.returned (.bool (O (0≤ixJ p 0 l)))∧J (ixN p 0 l) w'∧Fr S w w':=by
 refine sx_enter (vs:=[_,_]) func232 X ntmps232 X ?_;have M:Mem w S [] w:=Mem.nil w;refine W ?_;refine cl 7 X (AE X X call245) (a0w A c l hl f cs p S J _ hP hR hJ) ?_;rintro _ w9 ⟨rfl,hJ,hf9⟩;refine cq ?_;have M:Mem w S [] w9:=Mem.ofFr hf9;refine W ?_;exact gr1 X ⟨X,hJ,M.fr⟩
theorem a0U (A:Ky) (c:Nat) (l:Kz) (hl:l.length≤4611686018427387904) (f:FuncId) (cs:Kx) (p:UInt8→Bool) (w:Kw) (hP:PredJ zv f cs (λb=>.int .u8 (b.toNat:Int)) l (λ_=>p) AR (λ_ _=>True) w) (hR:Rd w A (l.length*1) (AF Y5 l)) :
 zt zv 232 #[.slice A l.length c,.func (.func f) #[] cs.toArray] w (BR w (.bool (l.any p))):=
 (wN A c l hl f cs (λ_=>p) AR (λ_ _=>True) w hP (λ_ hf=>hR.fr0 hf) zw).mono λ_ _ ⟨h1,_,h2⟩=>⟨by rw [h1,MN],h2⟩
theorem a1A (n:Xn) (A:Ky) (k g2:Nat) (b:Bd) (w:Kw) (hb:Blk w g2 113 (OF n A k)) :
 zt zv 231 #[.agg b.cells.toArray,pg g2] w (BR w (.bool (O (b.name=n.nm)))):=by
 refine BO func231 ntmps231 X λM=>W ?_
 refine CU M X X λg2 w1 hg2 M=>T8 ?_
 refine yl X X (Blk.c (hb.fr0 M.fr) 5 X) (W ?_);exact gr1 X ⟨X,M.fr⟩
theorem a1z (g12:Nat) (t z:UInt8) (w:Kw) (hb:Blk w g12 5 [.int .u8 (z.toNat:Int)]) :
 zt zv 233 #[.int .u8 (t.toNat:Int),pg g12] w (BR w (.bool (!decide ((t.toNat:Int)=(z.toNat:Int))))):=by
 refine BO func233 ntmps233 X λM=>T8 ?_
 refine yl X X (Blk.c (hb.fr0 M.fr) 0 X) (W ?_);exact gr1 X ⟨X,M.fr⟩
theorem r4 (n:Xn) (A:Ky) (V:Ky) (cv:Nat) (vars:List Bd) (L:List Xq) (f:Xq→UInt8 × Int) (w:Kw) (hvl:vars.length≤4611686018427387904) (hV:Rd w V (vars.length*5) (AF Bd.cells vars)) (hl:L.length≤2) (hR:Rd w A (L.length*7) (AF Xq.cells L)) (hk:¬(n.op.toNat:Int)=1→¬(n.op.toNat:Int)=2→0<L.length)
 (hT:∀q∈L,∀W,Fr0 w W→zt zv 211 #[.agg (Xq.cells q).toArray,.slice V vars.length cv] W λe W'=>e=.returned (.tuple #[.int .u8 ((f q).1.toNat:Int),AA (f q).2])∧Fr0 W W') :
 zt zv 211 #[.agg (OF n A L.length).toArray,.slice V vars.length cv] w (BR w (.tuple #[.int .u8 ((tyW n vars f L).1.toNat:Int),AA (tyW n vars f L).2])):=by
 refine BO func211 ntmps211 X λM=>W ?_
 refine CZ M kw X X 113 X X (OF n A L.length) X λg2 w1 hg2 M=>W ?_
 refine AC X (λh15=>?_) (λh15=>?_)
 ·refine W ?_;exact B1 X X X ⟨by rw [tyW,Ac h15],M.fr⟩
 have h15p:=odf h15;refine W ?_;refine AC X (λh20=>?_) (λh20=>?_)
 ·have h20p:=odt h20;refine W ?_;refine ya X (D8 (us:=[]) (vs:=[pg g2]) X X X) (cl 24 X (AE X X call178) (VM Bd.cells Bd.len V cv vars A0 231 [pg g2] (λ(_:Nat) (b:Bd) => !(!(O (b.name=n.nm)))) AR (λ_ _=>True) _ (J7 call231 (λb _ w9 hf9=>(a1A n A L.length g2 b w9 ((M.blk 0 X).fr0 hf9)).mono λ_ _ ⟨h1,h2⟩=>⟨by rw [h1,Gk],h2⟩)) (λ_ hf9=>(hV.fr0 M.fr).fr0 hf9) zw) ?_);rintro _ w2 ⟨rfl,_,hfw2⟩;refine cq ?_;have M:=M.step hfw2;refine W ?_;refine AC X (λh26=>?_) (λh26=>?_)
  ·have h26p:=odt h26;have hvn:=R3 (p:=λ(_:Nat) (b:Bd) => !(O (b.name=n.nm))) h26p;refine W ?_;exact B1 X X X ⟨by rw [tyW,AN h15,Ac h20,hvn]<;>rfl,M.fr⟩
  have h26p:=odf h26;obtain ⟨j,b,hj,hb,hff⟩:=R4 (p:=λ(_:Nat) (b:Bd) => !(O (b.name=n.nm))) h26p;have hjl:j<vars.length:=(An.1 hb).1;rw [hj];obtain ⟨b_b,o_b,hA_b⟩:=DR (k:=5) A0 (hV.fr0 M.fr) hb;refine W ?_;refine ya X (AK j hA_b X X X (sl X) A0) (T2 ?_);refine yl X X (BC Bd.len (hV.fr0 M.fr) hA_b hb 1 X) (W ?_);exact B1 X X X ⟨by rw [tyW,AN h15,Ac h20,hff]<;>rfl,M.fr⟩
 have h20p:=odf h20;refine W ?_;have M:=M.nilOwn 5 1;refine flp [35,34,2,1] (λze e wr mz=>∃(i:Nat) (acc:Kz) (A7:Ky) (c7:Nat),e=(7,.slice A7 acc.length c7)::(36,AA (i:Int))::ze∧Mem w AR [As.own w.heap.size 5 1 (.slice A7 acc.length c7) acc.length (AF Y5 acc),As.blk g2 113 (OF n A L.length)] wr∧(i≤L.length)∧(acc=(L.take i).map (λq=>(f q).1)∧acc.length=i)∧(LJ f L=LJ f (L.drop i))∧mz=L.length-i) ⟨0,[],zx,0,X,M,Aj _,⟨X,X⟩,X,X⟩ ?_;rintro _ w3 _ ⟨i,acc,A7,c7,rfl,M,hi,hacc,hE,rfl⟩;refine W ?_;refine AC X (λh37=>?_) (λh37=>?_)
 ·have h37p:=odt h37;refine W ?_;obtain ⟨x,_,_,hx,hA_x⟩:=ex5 (i:=i) (hR.fr0 M.fr);refine ya X (AK i hA_x X X X (sl X) A0) (ya X (AJ X X (BF Xq.len (hR.fr0 M.fr) hA_x hx) Bt X AU) (CE M X DQ λg9 w4 hg9 M=>BX M 0 X X AU X λw5 M=>W ?_));refine CF M 0 X X Bt AU X (yb X (CQ M 43 X X call211 (hT x (Ah hx) _ M.fr) λw6 M=>W ?_));refine AC X (λh47=>?_) (λh47=>?_)
  ·refine W ?_;exact B1 X X X ⟨by rw [tyW,AN h15,AN h20,hE,AH hx,LJ,Ac h47]<;>rfl,M.fr⟩
  have h47p:=(odt (BL h47));refine W ?_;refine CP M kw X X [.int .u8 ((f x).1.toNat:Int)] ([.int .u8 ((f x).1.toNat:Int)]) X X X X Dh p6 X X (FZ X) X λg51 w7 hg51 M=>CD (len':=(acc++[((f x).1)]).length) (xs':=AF Y5 (acc++[((f x).1)])) M 2 kw X X X X X X (M.rdBlk 0 X X) Dh jZ X AV (BN X) (Af _) (Af _) D4 (by unfold maxLen;first|omega|(simp only [Am,Al,Ay];omega)) (by simp) (by simp [AF,Y5]) λA52 c52 w8 M=>W ?_
  refine fag ⟨i+1,acc++[((f x).1)],A52,c52,X,(M.pk [2,3]),?_,?_,?_,X⟩
  ·omega
  ·exact ⟨by rw [hacc.1,AT hx,Bu];rfl,by rw [Am,hacc.2];rfl⟩
  rw [hE,AH hx,LJ,AN h47]
 have h37p:=odf h37;refine W ?_;have hiE:i=L.length:=A0
 have hLe:LJ f L=zx:=by rw [hE,hiE,Aq];rfl
 have hac:acc=L.map (λq=>(f q).1):=by rw [hacc.1,hiE,Bc]
 have hal:acc.length=L.length:=by rw [hacc.2,hiE]
 have hLp:0<L.length:=hk h15p h20p;refine W ?_;obtain ⟨z,_,_,hz,hA_z⟩:=ex5 (l:=acc) (k:=1) (i:=0) (M.rdOwn 0 X);refine ya X (AK 0 hA_z X X X (sl X) A0) (yl X X (BC aH (M.rdOwn 0 X) hA_z hz 0 X) (G9 M kw X X 5 X [.int .u8 0] qG X λg12 w9 hg12 M=>gp1 M 0 X X X WA λw10 M=>W ?_));refine ya X (D8 (us:=[]) (vs:=[pg g12]) X X X) (CQ M 59 X X call232 (a0U A7 c7 acc A0 233 [pg g12] (λt => !decide ((t.toNat:Int)=(z.toNat:Int))) _ (J7 call233 (λt _ w9 hf9=>a1z g12 t z w9 ((M.blk 0 X).fr0 hf9))) (M.rdOwn 1 X)) λw11 M=>W ?_);refine AC X (λh59=>?_) (λh59=>?_)
 ·refine W ?_;exact B1 X X X ⟨by rw [tyW,AN h15,AN h20,hLe];simp only;rw [←hac,UI,NE hz,L3,Ac h59]<;>rfl,M.fr⟩
 refine W ?_;refine fvm M 4 [12,2] [(68,.bool ((O ((n.op.toNat:Int)=7)) || (O ((n.op.toNat:Int)=8))))] ?_ (λk64=>?_)
 ·intro w12 M;refine W ?_;refine AC X (λh60=>?_) (λh60=>?_)
  ·have h60p:=bd h60;refine W ?_;exact B1 X X X ⟨by rw [tyW,AN h15,AN h20,hLe];simp only;rw [←hac,UI,NE hz,L3,AN h59,Ac h60]<;>rfl,M.fr⟩
  refine W ?_;refine fvm M 4 [12,2] [(77,.bool ((O ((n.op.toNat:Int)=3)) || (O ((n.op.toNat:Int)=5))))] ?_ (λk73=>?_)
  ·intro w13 M;refine yb X (fvm M 4 [12,2] [(82,.bool (((O ((n.op.toNat:Int)=3)) || (O ((n.op.toNat:Int)=5))) || (O ((n.op.toNat:Int)=6))))] ?_ (λk78=>?_))
   ·intro w14 M;refine yb X (fvm M 3 [12,2] [(86,.bool ((((O ((n.op.toNat:Int)=3)) || (O ((n.op.toNat:Int)=5))) || (O ((n.op.toNat:Int)=6)))&&(O ((z.toNat:Int)=2))))] ?_ (λk83=>?_))
    ·intro w15 M;refine W ?_;refine AC X (λh69=>?_) (λh69=>?_)
     ·have h69p:=bd h69;refine W ?_;exact B1 X X X ⟨by rw [tyW,AN h15,AN h20,hLe];simp only;rw [←hac,UI,NE hz,L3,AN h59,AN h60,Ac h69]<;>rfl,M.fr⟩
     have h69p:=bd h69;refine W ?_;refine fvm M 4 [12,2] [(96,.bool ((O (9≤(n.op.toNat:Int)))&&(O ((n.op.toNat:Int)≤12))))] ?_ (λk92=>?_)
     ·intro w16 M;refine yb X (fvm M 3 [12,2] [(100,.bool (((O (9≤(n.op.toNat:Int)))&&(O ((n.op.toNat:Int)≤12)))&&(!decide ((z.toNat:Int)=2))))] ?_ (λk97=>?_))
      ·intro w17 M;refine W ?_;refine AC X (λh88=>?_) (λh88=>?_)
       ·refine W ?_;exact B1 X X X ⟨by rw [tyW,AN h15,AN h20,hLe];simp only;rw [←hac,UI,NE hz,L3,AN h59,AN h60,AN h69,Ac h88]<;>rfl,M.fr⟩
       have h88p:=bd h88;refine W ?_;refine fvm M 4 [12,2] [(109,.bool ((O ((n.op.toNat:Int)=4)) || (O (13≤(n.op.toNat:Int)))))] ?_ (λk105=>?_)
       ·intro w18 M;refine yb X (fvm M 3 [12,2] [(113,.bool (((O ((n.op.toNat:Int)=4)) || (O (13≤(n.op.toNat:Int))))&&(O ((z.toNat:Int)=1))))] ?_ (λk110=>?_))
        ·intro w19 M;refine yb X (fvm M 8 [12] [(122,.bool ((((O ((n.op.toNat:Int)=4)) || (O (13≤(n.op.toNat:Int))))&&(O ((z.toNat:Int)=1))) || ((O ((n.op.toNat:Int)=13))&&(O ((z.toNat:Int)=3)))))] ?_ (λk114=>?_))
         ·intro w20 M;refine W ?_;refine AC X (λh101=>?_) (λh101=>?_)
          ·have h101p:=bd h101;refine W ?_;exact B1 X X X ⟨by rw [tyW,AN h15,AN h20,hLe];simp only;rw [←hac,UI,NE hz,L3,AN h59,AN h60,AN h69,AN h88,Ac h101]<;>rfl,M.fr⟩
          have h101p:=bd h101;refine W ?_;exact B1 X X X ⟨by rw [tyW,AN h15,AN h20,hLe];simp only;rw [←hac,UI,NE hz,L3,AN h59,AN h60,AN h69,AN h88,AN h101]<;>rfl,M.fr⟩
         refine A1 (d:=114) X (λh114=>?_) (λh114=>?_)
         ·refine T8 ?_;exact k114 M
         refine W ?_;refine fvm M 3 [114,12] [(121,.bool ((O ((n.op.toNat:Int)=13))&&(O ((z.toNat:Int)=3))))] ?_ (λk118=>?_)
         ·intro w21 M;exact yb X (k114 M)
         refine A1 (d:=118) X (λh118=>?_) (λh118=>?_)
         ·refine T3 ?_;exact k118 M
         refine T3 ?_;exact k118 M
        refine A1 (d:=110) X (λh110=>?_) (λh110=>?_)
        ·refine T3 ?_;exact k110 M
        refine T3 ?_;exact k110 M
       refine A1 (d:=105) X (λh105=>?_) (λh105=>?_)
       ·refine T4 ?_;exact k105 M
       refine T4 ?_;exact k105 M
      refine A1 (d:=97) X (λh97=>?_) (λh97=>?_)
      ·refine T3 ?_;exact k97 M
      refine T3 ?_;exact k97 M
     refine A1 (d:=92) X (λh92=>?_) (λh92=>?_)
     ·refine T4 ?_;exact k92 M
     refine T4 ?_;exact k92 M
    refine A1 (d:=83) X (λh83=>?_) (λh83=>?_)
    ·refine T3 ?_;exact k83 M
    refine T3 ?_;exact k83 M
   refine A1 (d:=78) X (λh78=>?_) (λh78=>?_)
   ·refine T4 ?_;exact k78 M
   refine T4 ?_;exact k78 M
  refine A1 (d:=73) X (λh73=>?_) (λh73=>?_)
  ·refine T4 ?_;exact k73 M
  refine T4 ?_;exact k73 M
 refine A1 (d:=64) X (λh64=>?_) (λh64=>?_)
 ·refine T4 ?_;exact k64 M
 refine T4 ?_;exact k64 M
end Go.Proofs.YtppmdnmjepkfaaaGreatDoor
