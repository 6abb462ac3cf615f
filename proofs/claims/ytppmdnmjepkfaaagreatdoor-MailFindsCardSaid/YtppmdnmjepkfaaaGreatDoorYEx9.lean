/- Lemmas. -/
import Derived.Test.YtppmdnmjepkfaaaGreatDoorYRu1
set_option maxHeartbeats 16000000
set_option maxRecDepth 100000
namespace Go.Proofs.YtppmdnmjepkfaaaGreatDoor
open Go.RowKit
open Tryz
section
section
variable {P:Lw} {ops:Array Oper} {Q:Exit→Act→Kw→Prop} {S:Kw→Prop} {t n f:Nat} {listed:Array Bool} {e:Env} {w:Kw}
end
theorem KX  : prog.built 61 []=some #[.int .u8 0,AA 0,.bool false,str []]:=by kernel_rfl
def IC (op:UInt8):Int:=(if ((decide ((op.toNat:Int)<(1:Int))) || (decide ((17:Int)<(op.toNat:Int))))=true then (-1) else (if (decide ((op.toNat:Int)≤(2:Int)))=true then 0 else (if (decide ((op.toNat:Int)≤(4:Int)))=true then 1 else 2)))
theorem zA (op:UInt8) (w:Kw):Calls prog 228 #[.int .u8 (op.toNat:Int)] w (BS w (AA (IC op))):=by
 refine BR func228 ntmps228 X λM=>W ?_
 refine fvm M 3 [0] [(9,.bool ((decide ((op.toNat:Int)<1)) || (decide (17<(op.toNat:Int)))))] ?_ (λk6=>?_)
 ·intro w1 M;refine W ?_;refine AB X (λh3=>?_) (λh3=>?_)
  ·have h3p:=bd h3;refine W ?_;exact gr1 X ⟨by rw [IC,if_pos h3],M.fr⟩
  refine W ?_;refine AB X (λh10=>?_) (λh10=>?_)
  ·refine W ?_;exact gr1 X ⟨by rw [IC,AM h3,if_pos h10],M.fr⟩
  refine W ?_;refine AB X (λh13=>?_) (λh13=>?_)
  ·refine W ?_;exact gr1 X ⟨by rw [IC,AM h3,AM h10,if_pos h13],M.fr⟩
  refine W ?_;exact gr1 X ⟨by rw [IC,AM h3,AM h10,AM h13],M.fr⟩
 refine A1 (d:=6) X (λh6=>?_) (λh6=>?_)
 ·refine T3 ?_;exact k6 M
 refine T3 ?_;exact k6 M
def HX (n:Xn) (k:Bool):Bool:=(if (!decide (((n.nk:Nat):Int)=(IC n.op)))=true then false else (if (!decide ((n.op.toNat:Int)=(1:Int)))=true then (if (!(n.vl.same zeroVl))=true then false else (if (!decide ((n.op.toNat:Int)=(2:Int)))=true then (if (!decide (n.nm=[]))=true then false else (if (((decide ((n.op.toNat:Int)=(1:Int)))&&((!decide ((chk n.vl)=(0:Int))) || (decide (n.vl.int<(0:Int))))) || ((decide ((n.op.toNat:Int)=(2:Int)))&&((!(B6 n.nm)) || (IE n.nm))))=true then false else (!k))) else (if (((decide ((n.op.toNat:Int)=(1:Int)))&&((!decide ((chk n.vl)=(0:Int))) || (decide (n.vl.int<(0:Int))))) || ((decide ((n.op.toNat:Int)=(2:Int)))&&((!(B6 n.nm)) || (IE n.nm))))=true then false else (!k)))) else (if (!decide ((n.op.toNat:Int)=(2:Int)))=true then (if (!decide (n.nm=[]))=true then false else (if (((decide ((n.op.toNat:Int)=(1:Int)))&&((!decide ((chk n.vl)=(0:Int))) || (decide (n.vl.int<(0:Int))))) || ((decide ((n.op.toNat:Int)=(2:Int)))&&((!(B6 n.nm)) || (IE n.nm))))=true then false else (!k))) else (if (((decide ((n.op.toNat:Int)=(1:Int)))&&((!decide ((chk n.vl)=(0:Int))) || (decide (n.vl.int<(0:Int))))) || ((decide ((n.op.toNat:Int)=(2:Int)))&&((!(B6 n.nm)) || (IE n.nm))))=true then false else (!k)))))
theorem a08 (n:Xn) (A:Ky) (k:Bool) (w:Kw) (hs:n.sm 1048576) (hU:Laid w utfL) (hC:∀W,Fr0 w W→Calls prog 229 #[.slice A n.nk n.nk,.func (.func 230) #[] #[]] W λe W'=>e=.returned (.bool k)∧Fr0 W W') :
 Calls prog 210 #[.agg (n.cells A).toArray] w (BS w (.bool (HX n k))):=by
 refine BR func210 ntmps210 X λM=>W ?_
 refine CO M X X λg1 w1 hg1 M=>W ?_
 refine J2 M 28 CA λM=>oc 0 28 X X M (ol 1 28 X X X M (λ_ M=>(M.cell 0 X X)) (oa 2 28 X X M (λ_ M=>I7 X X (sl X)) (oc 3 28 X X M (ol 4 28 X X X M (λ_ M=>(M.cell 0 X X)) (BC 5 (some 8) gkr X kw X X (AD X X call228) (zA _ _) ?_)))))
 rintro _ w2 ⟨rfl,hfw2⟩;refine ⟨_,X,λ_=>M.step hfw2,?_⟩;have M:=M.step hfw2;refine oa 6 28 X X M (λ_ M=>MC X X X) (oc 7 28 X X M (C8 (d:=10) X (λh10=>?_) (λh10=>?_)))
 ·refine AO 8 28 X M (AO 9 28 X M (AO 10 28 X M (AO 11 28 X M (C7 12 28 X X M (C7 13 28 X X M (C7 14 28 X X M (C7 15 28 X X M (AO 16 28 X M (oc 17 28 X X M (oc 18 28 X X M (AO 19 28 X M (AO 20 28 X M (AO 21 28 X M (AO 22 28 X M (C7 23 28 X X M ?_)))))))))))))));refine C7 24 28 X X M (C7 25 28 X X M (AO 26 28 X M (oc 27 28 X X M (fdn (W ?_)))));exact gr1 X ⟨by rw [HX,if_pos h10],M.fr⟩
 have h10p:=(odt (BO h10));refine ob 8 28 X kw X X M (λ_ M=>yp X) (ob 9 28 X kw X X M (λ_ M=>B2 X X (sc X) (M.cell 0 X X)) (ob 10 28 X kw X X M (λ_ M=>MC X X X) (ob 11 28 X kw X X M (λ_ M=>yp X) (C8 (d:=14) X (λh14=>?_) (λh14=>?_)))))
 ·have h14p:=(odf (CJ h14));refine ob 12 28 X kw X X M (λ_ M=>yp X) (ob 13 28 X kw X X M (λ_ M=>AI (xs:=[.int .u8 (n.vl.kind.toNat:Int),AA n.vl.int,.bool n.vl.bool,str n.vl.text]) X X (DR (M.blk 0 X) 1 4 X X) Br X BQ) (ob 14 28 X kw X X M (λ_ M=>B7 (parts:=[]) X X (KX)) (ob 15 28 X kw X X M (λ_ M=>kB (a:=n.vl) (b:=zeroVl) X X X) (ob 16 28 X kw X X M (λ_ M=>yp X) (oc 17 28 X X M (oc 18 28 X X M (C8 (d:=21) X (λh21=>?_) (λh21=>?_))))))))
  ·refine AO 19 28 X M (AO 20 28 X M (AO 21 28 X M (AO 22 28 X M (C7 23 28 X X M (C7 24 28 X X M (C7 25 28 X X M (AO 26 28 X M (oc 27 28 X X M (fdn (W ?_))))))))));exact gr1 X ⟨by rw [HX,AM h10,if_pos h14,if_pos h21],M.fr⟩
  refine ob 19 28 X kw X X M (λ_ M=>yp X) (ob 20 28 X kw X X M (λ_ M=>B2 X X (sc X) (M.cell 0 X X)) (ob 21 28 X kw X X M (λ_ M=>MC X X X) (ob 22 28 X kw X X M (λ_ M=>yp X) (C8 (d:=25) X (λh25=>?_) (λh25=>?_)))))
  ·have h25p:=(odf (CJ h25));refine ob 23 28 X kw X X M (λ_ M=>yp X) (ob 24 28 X kw X X M (λ_ M=>B2 X X (sc X) (M.cell 0 X X)) (ob 25 28 X kw X X M (λ_ M=>I1 X X X) (ob 26 28 X kw X X M (λ_ M=>yp X) (oc 27 28 X X M (fdn (qx_seq (AB X (λh30=>?_) (λh30=>?_))))))))
   ·refine W ?_;exact gr1 X ⟨by rw [HX,AM h10,if_pos h14,AM h21,if_pos h25,if_pos h30],M.fr⟩
   have h30p:=(odt (BO h30));refine W ?_;refine fvm M 11 [1] [(45,.bool ((decide ((n.op.toNat:Int)=1))&&((!decide ((chk n.vl)=(0:Int))) || (decide (n.vl.int<(0:Int))))))] ?_ (λk34=>?_)
   ·intro w3 M;refine yb X (fvm M 15 [1] [(61,.bool (((decide ((n.op.toNat:Int)=1))&&((!decide ((chk n.vl)=(0:Int))) || (decide (n.vl.int<(0:Int))))) || ((decide ((n.op.toNat:Int)=2))&&((!(B6 n.nm)) || (IE n.nm)))))] ?_ (λk46=>?_))
    ·intro w4 M;refine W ?_;refine AB X (λh61=>?_) (λh61=>?_)
     ·have h61p:=bd h61;refine W ?_;exact gr1 X ⟨by rw [HX,AM h10,if_pos h14,AM h21,if_pos h25,AM h30,if_pos h61],M.fr⟩
     have h61p:=bd h61;refine W ?_;refine CW M 64 X X call229 (hC _ M.fr) λw5 M=>W ?_
     exact gr1 X ⟨by rw [HX,AM h10,if_pos h14,AM h21,if_pos h25,AM h30,AM h61],M.fr⟩
    refine A1 (d:=46) X (λh46=>?_) (λh46=>?_)
    ·refine T15 ?_;exact k46 M
    refine W ?_;refine fvm M 10 [46,1] [(60,.bool ((decide ((n.op.toNat:Int)=2))&&((!(B6 n.nm)) || (IE n.nm))))] ?_ (λk50=>?_)
    ·intro w6 M;exact yb X (k46 M)
    refine A1 (d:=50) X (λh50=>?_) (λh50=>?_)
    ·refine W ?_;refine sxl_call (some 53) kw X X (AD X X call37) (EN n.nm _ (by have:=n.sm_nm hs;omega)) ?_;rintro _ w7 ⟨rfl,hfw7⟩;refine cq ?_;have M:=M.step hfw7;refine W ?_;refine fvm M 4 [50,46,1] [(59,.bool ((!(B6 n.nm)) || (IE n.nm)))] ?_ (λk55=>?_)
     ·intro w8 M;exact gyq X (k50 M)
     refine A1 (d:=55) X (λh55=>?_) (λh55=>?_)
     ·refine T4 ?_;exact k55 M
     refine W ?_;refine sxl_call (some 58) kw X X (AD X X call196) (RW n.nm _) ?_;rintro _ w9 ⟨rfl,hfw9⟩;refine cq ?_;have M:=M.step hfw9;exact gyq X (k55 M)
    refine T10 ?_;exact k50 M
   refine A1 (d:=34) X (λh34=>?_) (λh34=>?_)
   ·refine gyq X (yd X (AI (xs:=[.int .u8 (n.vl.kind.toNat:Int),AA n.vl.int,.bool n.vl.bool,str n.vl.text]) X X (DR (M.blk 0 X) 1 4 X X) Br X BQ) (sxl_call (some 37) kw X X (AD X X call38) (JS n.vl _ (by have:=n.sm_vl hs;omega) (HM hU M.fr)) ?_));rintro _ w10 ⟨rfl,hfw10⟩;refine cq ?_;have M:=M.step hfw10;refine W ?_;refine fvm M 5 [34,1] [(44,.bool ((!decide ((chk n.vl)=(0:Int))) || (decide (n.vl.int<(0:Int)))))] ?_ (λk39=>?_)
    ·intro w11 M;exact yb X (k34 M)
    refine A1 (d:=39) X (λh39=>?_) (λh39=>?_)
    ·refine T5 ?_;exact k39 M
    refine T5 ?_;exact k39 M
   refine T11 ?_;exact k34 M
  have h25p:=(odt (BO h25));refine AO 23 28 X M (AO 24 28 X M (AO 25 28 X M (ob 26 28 X kw X X M (λ_ M=>yp X) (oc 27 28 X X M (fdn (W ?_))))));refine fvm M 11 [1] [(45,.bool ((decide ((n.op.toNat:Int)=1))&&((!decide ((chk n.vl)=(0:Int))) || (decide (n.vl.int<(0:Int))))))] ?_ (λk34=>?_)
  ·intro w12 M;refine yb X (fvm M 15 [1] [(61,.bool (((decide ((n.op.toNat:Int)=1))&&((!decide ((chk n.vl)=(0:Int))) || (decide (n.vl.int<(0:Int))))) || ((decide ((n.op.toNat:Int)=2))&&((!(B6 n.nm)) || (IE n.nm)))))] ?_ (λk46=>?_))
   ·intro w13 M;refine W ?_;refine AB X (λh61=>?_) (λh61=>?_)
    ·have h61p:=bd h61;refine W ?_;exact gr1 X ⟨by rw [HX,AM h10,if_pos h14,AM h21,AM h25,if_pos h61],M.fr⟩
    have h61p:=bd h61;refine W ?_;refine CW M 64 X X call229 (hC _ M.fr) λw14 M=>W ?_
    exact gr1 X ⟨by rw [HX,AM h10,if_pos h14,AM h21,AM h25,AM h61],M.fr⟩
   refine A1 (d:=46) X (λh46=>?_) (λh46=>?_)
   ·refine T15 ?_;exact k46 M
   refine W ?_;refine fvm M 10 [46,1] [(60,.bool ((decide ((n.op.toNat:Int)=2))&&((!(B6 n.nm)) || (IE n.nm))))] ?_ (λk50=>?_)
   ·intro w15 M;exact yb X (k46 M)
   refine A1 (d:=50) X (λh50=>?_) (λh50=>?_)
   ·refine W ?_;refine sxl_call (some 53) kw X X (AD X X call37) (EN n.nm _ (by have:=n.sm_nm hs;omega)) ?_;rintro _ w16 ⟨rfl,hfw16⟩;refine cq ?_;have M:=M.step hfw16;refine W ?_;refine fvm M 4 [50,46,1] [(59,.bool ((!(B6 n.nm)) || (IE n.nm)))] ?_ (λk55=>?_)
    ·intro w17 M;exact gyq X (k50 M)
    refine A1 (d:=55) X (λh55=>?_) (λh55=>?_)
    ·refine T4 ?_;exact k55 M
    refine W ?_;refine sxl_call (some 58) kw X X (AD X X call196) (RW n.nm _) ?_;rintro _ w18 ⟨rfl,hfw18⟩;refine cq ?_;have M:=M.step hfw18;exact gyq X (k55 M)
   refine T10 ?_;exact k50 M
  refine A1 (d:=34) X (λh34=>?_) (λh34=>?_)
  ·refine gyq X (yd X (AI (xs:=[.int .u8 (n.vl.kind.toNat:Int),AA n.vl.int,.bool n.vl.bool,str n.vl.text]) X X (DR (M.blk 0 X) 1 4 X X) Br X BQ) (sxl_call (some 37) kw X X (AD X X call38) (JS n.vl _ (by have:=n.sm_vl hs;omega) (HM hU M.fr)) ?_));rintro _ w19 ⟨rfl,hfw19⟩;refine cq ?_;have M:=M.step hfw19;refine W ?_;refine fvm M 5 [34,1] [(44,.bool ((!decide ((chk n.vl)=(0:Int))) || (decide (n.vl.int<(0:Int)))))] ?_ (λk39=>?_)
   ·intro w20 M;exact yb X (k34 M)
   refine A1 (d:=39) X (λh39=>?_) (λh39=>?_)
   ·refine T5 ?_;exact k39 M
   refine T5 ?_;exact k39 M
  refine T11 ?_;exact k34 M
 have h14p:=(odt (BO h14));refine AO 12 28 X M (AO 13 28 X M (AO 14 28 X M (AO 15 28 X M (ob 16 28 X kw X X M (λ_ M=>yp X) (oc 17 28 X X M (oc 18 28 X X M (ob 19 28 X kw X X M (λ_ M=>yp X) (ob 20 28 X kw X X M (λ_ M=>B2 X X (sc X) (M.cell 0 X X)) (ob 21 28 X kw X X M (λ_ M=>MC X X X) (ob 22 28 X kw X X M (λ_ M=>yp X) (C8 (d:=25) X (λh25=>?_) (λh25=>?_))))))))))))
 ·have h25p:=(odf (CJ h25));refine ob 23 28 X kw X X M (λ_ M=>yp X) (ob 24 28 X kw X X M (λ_ M=>B2 X X (sc X) (M.cell 0 X X)) (ob 25 28 X kw X X M (λ_ M=>I1 X X X) (ob 26 28 X kw X X M (λ_ M=>yp X) (oc 27 28 X X M (fdn (qx_seq (AB X (λh30=>?_) (λh30=>?_))))))))
  ·refine W ?_;exact gr1 X ⟨by rw [HX,AM h10,AM h14,if_pos h25,if_pos h30],M.fr⟩
  have h30p:=(odt (BO h30));refine W ?_;refine fvm M 11 [1] [(45,.bool ((decide ((n.op.toNat:Int)=1))&&((!decide ((chk n.vl)=(0:Int))) || (decide (n.vl.int<(0:Int))))))] ?_ (λk34=>?_)
  ·intro w21 M;refine yb X (fvm M 15 [1] [(61,.bool (((decide ((n.op.toNat:Int)=1))&&((!decide ((chk n.vl)=(0:Int))) || (decide (n.vl.int<(0:Int))))) || ((decide ((n.op.toNat:Int)=2))&&((!(B6 n.nm)) || (IE n.nm)))))] ?_ (λk46=>?_))
   ·intro w22 M;refine W ?_;refine AB X (λh61=>?_) (λh61=>?_)
    ·have h61p:=bd h61;refine W ?_;exact gr1 X ⟨by rw [HX,AM h10,AM h14,if_pos h25,AM h30,if_pos h61],M.fr⟩
    have h61p:=bd h61;refine W ?_;refine CW M 64 X X call229 (hC _ M.fr) λw23 M=>W ?_
    exact gr1 X ⟨by rw [HX,AM h10,AM h14,if_pos h25,AM h30,AM h61],M.fr⟩
   refine A1 (d:=46) X (λh46=>?_) (λh46=>?_)
   ·refine T15 ?_;exact k46 M
   refine W ?_;refine fvm M 10 [46,1] [(60,.bool ((decide ((n.op.toNat:Int)=2))&&((!(B6 n.nm)) || (IE n.nm))))] ?_ (λk50=>?_)
   ·intro w24 M;exact yb X (k46 M)
   refine A1 (d:=50) X (λh50=>?_) (λh50=>?_)
   ·refine W ?_;refine sxl_call (some 53) kw X X (AD X X call37) (EN n.nm _ (by have:=n.sm_nm hs;omega)) ?_;rintro _ w25 ⟨rfl,hfw25⟩;refine cq ?_;have M:=M.step hfw25;refine W ?_;refine fvm M 4 [50,46,1] [(59,.bool ((!(B6 n.nm)) || (IE n.nm)))] ?_ (λk55=>?_)
    ·intro w26 M;exact gyq X (k50 M)
    refine A1 (d:=55) X (λh55=>?_) (λh55=>?_)
    ·refine T4 ?_;exact k55 M
    refine W ?_;refine sxl_call (some 58) kw X X (AD X X call196) (RW n.nm _) ?_;rintro _ w27 ⟨rfl,hfw27⟩;refine cq ?_;have M:=M.step hfw27;exact gyq X (k55 M)
   refine T10 ?_;exact k50 M
  refine A1 (d:=34) X (λh34=>?_) (λh34=>?_)
  ·refine gyq X (yd X (AI (xs:=[.int .u8 (n.vl.kind.toNat:Int),AA n.vl.int,.bool n.vl.bool,str n.vl.text]) X X (DR (M.blk 0 X) 1 4 X X) Br X BQ) (sxl_call (some 37) kw X X (AD X X call38) (JS n.vl _ (by have:=n.sm_vl hs;omega) (HM hU M.fr)) ?_));rintro _ w28 ⟨rfl,hfw28⟩;refine cq ?_;have M:=M.step hfw28;refine W ?_;refine fvm M 5 [34,1] [(44,.bool ((!decide ((chk n.vl)=(0:Int))) || (decide (n.vl.int<(0:Int)))))] ?_ (λk39=>?_)
   ·intro w29 M;exact yb X (k34 M)
   refine A1 (d:=39) X (λh39=>?_) (λh39=>?_)
   ·refine T5 ?_;exact k39 M
   refine T5 ?_;exact k39 M
  refine T11 ?_;exact k34 M
 have h25p:=(odt (BO h25));refine AO 23 28 X M (AO 24 28 X M (AO 25 28 X M (ob 26 28 X kw X X M (λ_ M=>yp X) (oc 27 28 X X M (fdn (W ?_))))));refine fvm M 11 [1] [(45,.bool ((decide ((n.op.toNat:Int)=1))&&((!decide ((chk n.vl)=(0:Int))) || (decide (n.vl.int<(0:Int))))))] ?_ (λk34=>?_)
 ·intro w30 M;refine yb X (fvm M 15 [1] [(61,.bool (((decide ((n.op.toNat:Int)=1))&&((!decide ((chk n.vl)=(0:Int))) || (decide (n.vl.int<(0:Int))))) || ((decide ((n.op.toNat:Int)=2))&&((!(B6 n.nm)) || (IE n.nm)))))] ?_ (λk46=>?_))
  ·intro w31 M;refine W ?_;refine AB X (λh61=>?_) (λh61=>?_)
   ·have h61p:=bd h61;refine W ?_;exact gr1 X ⟨by rw [HX,AM h10,AM h14,AM h25,if_pos h61],M.fr⟩
   have h61p:=bd h61;refine W ?_;refine CW M 64 X X call229 (hC _ M.fr) λw32 M=>W ?_
   exact gr1 X ⟨by rw [HX,AM h10,AM h14,AM h25,AM h61],M.fr⟩
  refine A1 (d:=46) X (λh46=>?_) (λh46=>?_)
  ·refine T15 ?_;exact k46 M
  refine W ?_;refine fvm M 10 [46,1] [(60,.bool ((decide ((n.op.toNat:Int)=2))&&((!(B6 n.nm)) || (IE n.nm))))] ?_ (λk50=>?_)
  ·intro w33 M;exact yb X (k46 M)
  refine A1 (d:=50) X (λh50=>?_) (λh50=>?_)
  ·refine W ?_;refine sxl_call (some 53) kw X X (AD X X call37) (EN n.nm _ (by have:=n.sm_nm hs;omega)) ?_;rintro _ w34 ⟨rfl,hfw34⟩;refine cq ?_;have M:=M.step hfw34;refine W ?_;refine fvm M 4 [50,46,1] [(59,.bool ((!(B6 n.nm)) || (IE n.nm)))] ?_ (λk55=>?_)
   ·intro w35 M;exact gyq X (k50 M)
   refine A1 (d:=55) X (λh55=>?_) (λh55=>?_)
   ·refine T4 ?_;exact k55 M
   refine W ?_;refine sxl_call (some 58) kw X X (AD X X call196) (RW n.nm _) ?_;rintro _ w36 ⟨rfl,hfw36⟩;refine cq ?_;have M:=M.step hfw36;exact gyq X (k55 M)
  refine T10 ?_;exact k50 M
 refine A1 (d:=34) X (λh34=>?_) (λh34=>?_)
 ·refine gyq X (yd X (AI (xs:=[.int .u8 (n.vl.kind.toNat:Int),AA n.vl.int,.bool n.vl.bool,str n.vl.text]) X X (DR (M.blk 0 X) 1 4 X X) Br X BQ) (sxl_call (some 37) kw X X (AD X X call38) (JS n.vl _ (by have:=n.sm_vl hs;omega) (HM hU M.fr)) ?_));rintro _ w37 ⟨rfl,hfw37⟩;refine cq ?_;have M:=M.step hfw37;refine W ?_;refine fvm M 5 [34,1] [(44,.bool ((!decide ((chk n.vl)=(0:Int))) || (decide (n.vl.int<(0:Int)))))] ?_ (λk39=>?_)
  ·intro w38 M;exact yb X (k34 M)
  refine A1 (d:=39) X (λh39=>?_) (λh39=>?_)
  ·refine T5 ?_;exact k39 M
  refine T5 ?_;exact k39 M
 refine T11 ?_;exact k34 M
theorem vD (q:Xn × Ky) (c:Bool) (w:Kw) (hq:∀W,Fr0 w W→Calls prog 210 #[.agg (q.1.cells q.2).toArray] W λe W'=>e=.returned (.bool c)∧Fr0 W W') :
 Calls prog 230 #[.agg (q.1.cells q.2).toArray] w (BS w (.bool (!c))):=by
 refine BR func230 ntmps230 X λM=>W ?_
 refine CO M X X λg1 w1 hg1 M=>W ?_
 refine CH M 0 X X Bk AT X (CW M 4 X X call210 (hq _ M.fr) λw2 M=>W ?_);exact gr1 X ⟨X,M.fr⟩
def chkX : Xn→Bool
 | .un o a=>HX (.un o a) (!chkX a)
 | .bin o a b=>HX (.bin o a b) (!chkX a || !chkX b)
 | .zero=>HX .zero false
 | .lit v=>HX (.lit v) false
 | .var s=>HX (.var s) false
theorem S6 (n:Xn):chkX n=HX n (n.kids.any (λa => !chkX a)):=by cases n<;>simp [chkX,Xn.kids]
theorem vB : ∀(n:Xn) (A:Ky) (F:List Nat) (w:Kw),n.AtL 113 w A F→n.sm 1048576→Laid w utfL→Calls prog 210 #[.agg (n.cells A).toArray] w (BS w (.bool (chkX n))):=by
 refine Xn.ind λn ih A F w hA hs hU=>?_
 rw [S6];refine a08 n A _ w hs hU (λW hW=>?_);obtain ⟨L,hL,hk,hR,hq⟩:=(hA.fr0 hW).kids;rw [←hk];refine (uT ndC yV A L.length L (by have:=n.nk_le;omega) 230 [] (λ_ q => !chkX q.1) AR (λ_ _=>True) W (IW call230 (λq hq' w1 hf=>?_)) (λ_ hf=>hR.fr0 hf) trivial).mono ?_
 ·obtain ⟨F',hF'⟩:=hq q hq';have hk':q.1∈n.kids:=by rw [←hL];exact En hq'
  exact vD q (chkX q.1) w1 (λW' hW'=>ih q.1 hk' q.2 F' W' (hF'.fr0 (hf.trans hW')) (Xn.sm_kid hs hk') (HM hU (hW.trans (hf.trans hW'))))
 rintro e w' ⟨rfl,_,hf⟩;refine ⟨?_,hf⟩;rw [M7,←hL,Jb];rfl
end
abbrev Xq := Xn × Ky
def Xq.cells (q:Xq):Kx:=q.1.cells q.2
theorem Xq.len (q:Xq):q.cells.length=7:=rfl
def O0 (n:Xn) (A:Ky) (k:Nat):Kx:=[.int .u8 (n.op.toNat:Int),.int .u8 (n.vl.kind.toNat:Int),.int .i64 n.vl.int,.bool n.vl.bool,str n.vl.text,str n.nm,.slice A k k]
theorem MX {z:UInt8} {l:Kz} (h:l[0]?=some z):l.headD 0=z:=by cases l<;>simp_all
def L3 (f:Xq→UInt8 × Int):List Xq→Option Int
 | []=>none
 | q::r=>if (!decide ((f q).2=0))=true then some (f q).2 else L3 f r
def KS (op:UInt8) (ts:Kz) (z:UInt8):UInt8 × Int:=
 if (ts.any (λt => !decide ((t.toNat:Int)=(z.toNat:Int))))=true then (0,90)
 else if ((decide ((op.toNat:Int)=(7:Int))) || (decide ((op.toNat:Int)=(8:Int))))=true then (2,0)
 else if ((((decide ((op.toNat:Int)=(3:Int))) || (decide ((op.toNat:Int)=(5:Int)))) || (decide ((op.toNat:Int)=(6:Int))))&&(decide ((z.toNat:Int)=(2:Int))))=true then (z,0)
 else if (((decide ((9:Int)≤(op.toNat:Int)))&&(decide ((op.toNat:Int)≤(12:Int))))&&(!decide ((z.toNat:Int)=(2:Int))))=true then (2,0)
 else if ((((decide ((op.toNat:Int)=(4:Int))) || (decide ((13:Int)≤(op.toNat:Int))))&&(decide ((z.toNat:Int)=(1:Int)))) || ((decide ((op.toNat:Int)=(13:Int)))&&(decide ((z.toNat:Int)=(3:Int)))))=true then (z,0)
 else (0,90)
def U0 (op:UInt8) (ts:Kz):UInt8 × Int:=KS op ts (ts.headD 0)
def tyW (n:Xn) (vars:List Bd) (f:Xq→UInt8 × Int) (L:List Xq):UInt8 × Int:=
 if (decide ((n.op.toNat:Int)=(1:Int)))=true then (n.vl.kind,0)
 else if (decide ((n.op.toNat:Int)=(2:Int)))=true then (match ffN (λ(_:Nat) (b:Bd) => !(decide (b.name=n.nm))) 0 vars with
  | none=>(0,100)
  | some b=>(b.v.kind,0))
 else match L3 f L with
  | some e=>(0,e)
  | none=>U0 n.op (L.map (λq=>(f q).1))
theorem jB : (prog.info? 5).map (λi=>(i.zero,i.size,i.bytes))=some (some (.int .u8 0),1,1):=by kernel_rfl
theorem o6 : (prog.info? 5).map (λi=>(i.zero,i.size))=some (some (.int .u8 0),1):=by kernel_rfl
theorem VW : (prog.info? 5).map (·.size)=some 1:=by kernel_rfl
theorem pA : (prog.info? 5).map (·.zero)=some (some (.int .u8 0)):=by kernel_rfl
theorem zP (A:Ky) (c:Nat) (l:Kz) (hl:l.length≤4611686018427387904) (f:FuncId) (cs:Kx) (p:Nat→UInt8→Bool) (S:Nat→Prop) (J:Nat→Kw→Prop) (w:Kw) (hP:PredJ prog f cs (λb=>.int .u8 (b.toNat:Int)) l p S J w) (hR:∀w1,Fr S w w1→Rd w1 A (l.length*1) (AE XW l)) (hJ:J 0 w) :
 Calls prog 245 #[.slice A l.length c,.func (.func f) #[] cs.toArray] w λe w'=>e=.returned (AA (ixJ p 0 l))∧J (ixN p 0 l) w'∧Fr S w w':=by
 refine sx_enter (vs:=[_,_]) func245 X ntmps245 X ?_;have M:Mem w S [] w:=Mem.nil w;refine W ?_;refine EF M [7,1,0] (λze zF e wr mz=>∃(i:Nat),e=(8,AA (i:Int))::ze∧zF wr∧(i≤l.length)∧(J i wr)∧(ixJ p 0 l=ixJ p i (l.drop i))∧(ixN p 0 l=ixN p i (l.drop i))∧mz=l.length-i) ⟨0,X,M,Ae _,hJ,X,X,X⟩ ?_;rintro _ w1 _ ⟨i,rfl,M,hi,hJ,hr,hn,rfl⟩;refine W ?_;refine AB X (λh9=>?_) (λh9=>?_)
 ·have h9p:=odt h9;refine W ?_;obtain ⟨x,_,_,hx,hA_x⟩:=ex5 (l:=l) (k:=1) (i:=i) (hR _ M.fr);refine ya X (AK i hA_x X X X (sl X) A0) (yl X X (BD ZT (hR _ M.fr) hA_x hx 0 X) (cl 16 X (C5 X X X hP.fn) (hP.call i x _ hx M.fr hJ) ?_));rintro _ w9 ⟨rfl,hJ,hf9⟩;refine cq ?_;have M:Mem w S [] w9:=Mem.ofFr (M.fr.trans hf9);refine W ?_;refine AB X (λh16=>?_) (λh16=>?_)
  ·refine W ?_;exact gr1 X ⟨by rw [hr,AG hx,ixJ,if_pos h16],by rw [hn,AG hx,ixN,if_pos h16];exact hJ,M.fr⟩
  refine W ?_;refine fag ⟨i+1,X,M,?_,?_,?_,?_,X⟩
  ·omega
  ·exact hJ
  ·rw [hr,AG hx,ixJ,AM h16]
  rw [hn,AG hx,ixN,AM h16]
 have h9p:=odf h9;refine W ?_;refine gr1 X ?_;obtain rfl:i=l.length:=by omega
 exact ⟨by rw [hr,Am];rfl,by rw [hn,Am];exact hJ,M.fr⟩
theorem uS (A:Ky) (c:Nat) (l:Kz) (hl:l.length≤4611686018427387904) (f:FuncId) (cs:Kx) (p:Nat→UInt8→Bool) (S:Nat→Prop) (J:Nat→Kw→Prop) (w:Kw) (hP:PredJ prog f cs (λb=>.int .u8 (b.toNat:Int)) l p S J w) (hR:∀w1,Fr S w w1→Rd w1 A (l.length*1) (AE XW l)) (hJ:J 0 w) :
 Calls prog 232 #[.slice A l.length c,.func (.func f) #[] cs.toArray] w λe w'=>e=.returned (.bool (decide (0≤ixJ p 0 l)))∧J (ixN p 0 l) w'∧Fr S w w':=by
 refine sx_enter (vs:=[_,_]) func232 X ntmps232 X ?_;have M:Mem w S [] w:=Mem.nil w;refine W ?_;refine cl 7 X (AD X X call245) (zP A c l hl f cs p S J _ hP hR hJ) ?_;rintro _ w9 ⟨rfl,hJ,hf9⟩;refine cq ?_;have M:Mem w S [] w9:=Mem.ofFr hf9;refine W ?_;exact gr1 X ⟨X,hJ,M.fr⟩
theorem a0c (A:Ky) (c:Nat) (l:Kz) (hl:l.length≤4611686018427387904) (f:FuncId) (cs:Kx) (p:UInt8→Bool) (w:Kw) (hP:PredJ prog f cs (λb=>.int .u8 (b.toNat:Int)) l (λ_=>p) AR (λ_ _=>True) w) (hR:Rd w A (l.length*1) (AE XW l)) :
 Calls prog 232 #[.slice A l.length c,.func (.func f) #[] cs.toArray] w (BS w (.bool (l.any p))):=
 (uS A c l hl f cs (λ_=>p) AR (λ_ _=>True) w hP (λ_ hf=>hR.fr0 hf) trivial).mono λ_ _ ⟨h1,_,h2⟩=>⟨by rw [h1,M7],h2⟩
theorem a0M (n:Xn) (A:Ky) (k g2:Nat) (b:Bd) (w:Kw) (hb:Blk w g2 113 (O0 n A k)) :
 Calls prog 231 #[.agg b.cells.toArray,pg g2] w (BS w (.bool (decide (b.name=n.nm)))):=by
 refine BR func231 ntmps231 X λM=>W ?_
 refine CO M X X λg2 w1 hg2 M=>T8 ?_
 refine yl X X (Blk.c (hb.fr0 M.fr) 5 X) (W ?_);exact gr1 X ⟨X,M.fr⟩
theorem a0L (g12:Nat) (t z:UInt8) (w:Kw) (hb:Blk w g12 5 [.int .u8 (z.toNat:Int)]) :
 Calls prog 233 #[.int .u8 (t.toNat:Int),pg g12] w (BS w (.bool (!decide ((t.toNat:Int)=(z.toNat:Int))))):=by
 refine BR func233 ntmps233 X λM=>T8 ?_
 refine yl X X (Blk.c (hb.fr0 M.fr) 0 X) (W ?_);exact gr1 X ⟨X,M.fr⟩
theorem pY (n:Xn) (A:Ky) (V:Ky) (cv:Nat) (vars:List Bd) (L:List Xq) (f:Xq→UInt8 × Int) (w:Kw) (hvl:vars.length≤4611686018427387904) (hV:Rd w V (vars.length*5) (AE Bd.cells vars)) (hl:L.length≤2) (hR:Rd w A (L.length*7) (AE Xq.cells L)) (hk:¬(n.op.toNat:Int)=1→¬(n.op.toNat:Int)=2→0<L.length)
 (hT:∀q∈L,∀W,Fr0 w W→Calls prog 211 #[.agg (Xq.cells q).toArray,.slice V vars.length cv] W λe W'=>e=.returned (.tuple #[.int .u8 ((f q).1.toNat:Int),AA (f q).2])∧Fr0 W W') :
 Calls prog 211 #[.agg (O0 n A L.length).toArray,.slice V vars.length cv] w (BS w (.tuple #[.int .u8 ((tyW n vars f L).1.toNat:Int),AA (tyW n vars f L).2])):=by
 refine BR func211 ntmps211 X λM=>W ?_
 refine DG M kw X X 113 X X (O0 n A L.length) X λg2 w1 hg2 M=>W ?_
 refine AB X (λh15=>?_) (λh15=>?_)
 ·refine W ?_;exact AZ X X X ⟨by rw [tyW,if_pos h15],M.fr⟩
 have h15p:=odf h15;refine W ?_;refine AB X (λh20=>?_) (λh20=>?_)
 ·have h20p:=odt h20;refine W ?_;refine ya X (CY (us:=[]) (vs:=[pg g2]) X X X) (cl 24 X (AD X X call178) (V6 Bd.cells Bd.len V cv vars A0 231 [pg g2] (λ(_:Nat) (b:Bd) => !(!(decide (b.name=n.nm)))) AR (λ_ _=>True) _ (IW call231 (λb _ w9 hf9=>(a0M n A L.length g2 b w9 ((M.blk 0 X).fr0 hf9)).mono λ_ _ ⟨h1,h2⟩=>⟨by rw [h1,Ga],h2⟩)) (λ_ hf9=>(hV.fr0 M.fr).fr0 hf9) trivial) ?_);rintro _ w2 ⟨rfl,_,hfw2⟩;refine cq ?_;have M:=M.step hfw2;refine W ?_;refine AB X (λh26=>?_) (λh26=>?_)
  ·have h26p:=odt h26;have hvn:=QN (p:=λ(_:Nat) (b:Bd) => !(decide (b.name=n.nm))) h26p;refine W ?_;exact AZ X X X ⟨by rw [tyW,AM h15,if_pos h20,hvn]<;>rfl,M.fr⟩
  have h26p:=odf h26;obtain ⟨j,b,hj,hb,hff⟩:=QO (p:=λ(_:Nat) (b:Bd) => !(decide (b.name=n.nm))) h26p;have hjl:j<vars.length:=(Aj.1 hb).1;rw [hj];obtain ⟨b_b,o_b,hA_b⟩:=E3 (k:=5) A0 (hV.fr0 M.fr) hb;refine W ?_;refine ya X (AK j hA_b X X X (sl X) A0) (T2 ?_);refine yl X X (BD Bd.len (hV.fr0 M.fr) hA_b hb 1 X) (W ?_);exact AZ X X X ⟨by rw [tyW,AM h15,if_pos h20,hff]<;>rfl,M.fr⟩
 have h20p:=odf h20;refine W ?_;have M:=M.nilOwn 5 1;refine flp [35,34,2,1] (λze e wr mz=>∃(i:Nat) (acc:Kz) (A7:Ky) (c7:Nat),e=(7,.slice A7 acc.length c7)::(36,AA (i:Int))::ze∧Mem w AR [As.own w.heap.size 5 1 (.slice A7 acc.length c7) acc.length (AE XW acc),As.blk g2 113 (O0 n A L.length)] wr∧(i≤L.length)∧(acc=(L.take i).map (λq=>(f q).1)∧acc.length=i)∧(L3 f L=L3 f (L.drop i))∧mz=L.length-i) ⟨0,[],none,0,X,M,Ae _,⟨X,X⟩,X,X⟩ ?_;rintro _ w3 _ ⟨i,acc,A7,c7,rfl,M,hi,hacc,hE,rfl⟩;refine W ?_;refine AB X (λh37=>?_) (λh37=>?_)
 ·have h37p:=odt h37;refine W ?_;obtain ⟨x,_,_,hx,hA_x⟩:=ex5 (i:=i) (hR.fr0 M.fr);refine ya X (AK i hA_x X X X (sl X) A0) (ya X (AI X X (BM Xq.len (hR.fr0 M.fr) hA_x hx) Bk X AT) (CI M X DK λg9 w4 hg9 M=>BY M 0 X X AT X λw5 M=>W ?_));refine CH M 0 X X Bk AT X (yb X (CW M 43 X X call211 (hT x (Ac hx) _ M.fr) λw6 M=>W ?_));refine AB X (λh47=>?_) (λh47=>?_)
  ·refine W ?_;exact AZ X X X ⟨by rw [tyW,AM h15,AM h20,hE,AG hx,L3,if_pos h47]<;>rfl,M.fr⟩
  have h47p:=(odt (BO h47));refine W ?_;refine CV M kw X X [.int .u8 ((f x).1.toNat:Int)] ([.int .u8 ((f x).1.toNat:Int)]) X X X X Cv o6 X X (GT X) X λg51 w7 hg51 M=>CN (len':=(acc++[((f x).1)]).length) (xs':=AE XW (acc++[((f x).1)])) M 2 kw X X X X X X (M.rdBlk 0 X X) Cv jB X AV (BW X) (Ab _) (Ab _) DC (by unfold maxLen;first|omega|(simp only [Ah,Af,Aq];omega)) (by simp) (by simp [AE,XW]) λA52 c52 w8 M=>W ?_
  refine fag ⟨i+1,acc++[((f x).1)],A52,c52,X,(M.pk [2,3]),?_,?_,?_,X⟩
  ·omega
  ·exact ⟨by rw [hacc.1,AS hx,Ck];rfl,by rw [Ah,hacc.2];rfl⟩
  rw [hE,AG hx,L3,AM h47]
 have h37p:=odf h37;refine W ?_;have hiE:i=L.length:=by omega
 have hLe:L3 f L=none:=by rw [hE,hiE,Am];rfl
 have hac:acc=L.map (λq=>(f q).1):=by rw [hacc.1,hiE,Ba]
 have hal:acc.length=L.length:=by rw [hacc.2,hiE]
 have hLp:0<L.length:=hk h15p h20p;refine W ?_;obtain ⟨z,_,_,hz,hA_z⟩:=ex5 (l:=acc) (k:=1) (i:=0) (M.rdOwn 0 X);refine ya X (AK 0 hA_z X X X (sl X) A0) (yl X X (BD ZT (M.rdOwn 0 X) hA_z hz 0 X) (FR M kw X X 5 X [.int .u8 0] pA X λg12 w9 hg12 M=>gp1 M 0 X X X VW λw10 M=>W ?_));refine ya X (CY (us:=[]) (vs:=[pg g12]) X X X) (CW M 59 X X call232 (a0c A7 c7 acc A0 233 [pg g12] (λt => !decide ((t.toNat:Int)=(z.toNat:Int))) _ (IW call233 (λt _ w9 hf9=>a0L g12 t z w9 ((M.blk 0 X).fr0 hf9))) (M.rdOwn 1 X)) λw11 M=>W ?_);refine AB X (λh59=>?_) (λh59=>?_)
 ·refine W ?_;exact AZ X X X ⟨by rw [tyW,AM h15,AM h20,hLe];simp only;rw [←hac,U0,MX hz,KS,if_pos h59]<;>rfl,M.fr⟩
 refine W ?_;refine fvm M 4 [12,2] [(68,.bool ((decide ((n.op.toNat:Int)=7)) || (decide ((n.op.toNat:Int)=8))))] ?_ (λk64=>?_)
 ·intro w12 M;refine W ?_;refine AB X (λh60=>?_) (λh60=>?_)
  ·have h60p:=bd h60;refine W ?_;exact AZ X X X ⟨by rw [tyW,AM h15,AM h20,hLe];simp only;rw [←hac,U0,MX hz,KS,AM h59,if_pos h60]<;>rfl,M.fr⟩
  refine W ?_;refine fvm M 4 [12,2] [(77,.bool ((decide ((n.op.toNat:Int)=3)) || (decide ((n.op.toNat:Int)=5))))] ?_ (λk73=>?_)
  ·intro w13 M;refine yb X (fvm M 4 [12,2] [(82,.bool (((decide ((n.op.toNat:Int)=3)) || (decide ((n.op.toNat:Int)=5))) || (decide ((n.op.toNat:Int)=6))))] ?_ (λk78=>?_))
   ·intro w14 M;refine yb X (fvm M 3 [12,2] [(86,.bool ((((decide ((n.op.toNat:Int)=3)) || (decide ((n.op.toNat:Int)=5))) || (decide ((n.op.toNat:Int)=6)))&&(decide ((z.toNat:Int)=2))))] ?_ (λk83=>?_))
    ·intro w15 M;refine W ?_;refine AB X (λh69=>?_) (λh69=>?_)
     ·have h69p:=bd h69;refine W ?_;exact AZ X X X ⟨by rw [tyW,AM h15,AM h20,hLe];simp only;rw [←hac,U0,MX hz,KS,AM h59,AM h60,if_pos h69]<;>rfl,M.fr⟩
     have h69p:=bd h69;refine W ?_;refine fvm M 4 [12,2] [(96,.bool ((decide (9≤(n.op.toNat:Int)))&&(decide ((n.op.toNat:Int)≤12))))] ?_ (λk92=>?_)
     ·intro w16 M;refine yb X (fvm M 3 [12,2] [(100,.bool (((decide (9≤(n.op.toNat:Int)))&&(decide ((n.op.toNat:Int)≤12)))&&(!decide ((z.toNat:Int)=2))))] ?_ (λk97=>?_))
      ·intro w17 M;refine W ?_;refine AB X (λh88=>?_) (λh88=>?_)
       ·refine W ?_;exact AZ X X X ⟨by rw [tyW,AM h15,AM h20,hLe];simp only;rw [←hac,U0,MX hz,KS,AM h59,AM h60,AM h69,if_pos h88]<;>rfl,M.fr⟩
       have h88p:=bd h88;refine W ?_;refine fvm M 4 [12,2] [(109,.bool ((decide ((n.op.toNat:Int)=4)) || (decide (13≤(n.op.toNat:Int)))))] ?_ (λk105=>?_)
       ·intro w18 M;refine yb X (fvm M 3 [12,2] [(113,.bool (((decide ((n.op.toNat:Int)=4)) || (decide (13≤(n.op.toNat:Int))))&&(decide ((z.toNat:Int)=1))))] ?_ (λk110=>?_))
        ·intro w19 M;refine yb X (fvm M 8 [12] [(122,.bool ((((decide ((n.op.toNat:Int)=4)) || (decide (13≤(n.op.toNat:Int))))&&(decide ((z.toNat:Int)=1))) || ((decide ((n.op.toNat:Int)=13))&&(decide ((z.toNat:Int)=3)))))] ?_ (λk114=>?_))
         ·intro w20 M;refine W ?_;refine AB X (λh101=>?_) (λh101=>?_)
          ·have h101p:=bd h101;refine W ?_;exact AZ X X X ⟨by rw [tyW,AM h15,AM h20,hLe];simp only;rw [←hac,U0,MX hz,KS,AM h59,AM h60,AM h69,AM h88,if_pos h101]<;>rfl,M.fr⟩
          have h101p:=bd h101;refine W ?_;exact AZ X X X ⟨by rw [tyW,AM h15,AM h20,hLe];simp only;rw [←hac,U0,MX hz,KS,AM h59,AM h60,AM h69,AM h88,AM h101]<;>rfl,M.fr⟩
         refine A1 (d:=114) X (λh114=>?_) (λh114=>?_)
         ·refine T8 ?_;exact k114 M
         refine W ?_;refine fvm M 3 [114,12] [(121,.bool ((decide ((n.op.toNat:Int)=13))&&(decide ((z.toNat:Int)=3))))] ?_ (λk118=>?_)
         ·intro w21 M;exact yb X (k114 M)
         refine A1 (d:=118) X (λh118=>?_) (λh118=>?_)
         ·refine T3 ?_;exact k118 M
         refine T3 ?_;exact k118 M
        refine A1 (d:=110) X (λh110=>?_) (λh110=>?_)
        ·refine T3 ?_;exact k110 M
        refine T3 ?_;exact k110 M
       refine A1 (d:=105) X (λh105=>?_) (λh105=>?_)
       ·refine T4 ?_;exact k105 M
       refine T4 ?_;exact k105 M
      refine A1 (d:=97) X (λh97=>?_) (λh97=>?_)
      ·refine T3 ?_;exact k97 M
      refine T3 ?_;exact k97 M
     refine A1 (d:=92) X (λh92=>?_) (λh92=>?_)
     ·refine T4 ?_;exact k92 M
     refine T4 ?_;exact k92 M
    refine A1 (d:=83) X (λh83=>?_) (λh83=>?_)
    ·refine T3 ?_;exact k83 M
    refine T3 ?_;exact k83 M
   refine A1 (d:=78) X (λh78=>?_) (λh78=>?_)
   ·refine T4 ?_;exact k78 M
   refine T4 ?_;exact k78 M
  refine A1 (d:=73) X (λh73=>?_) (λh73=>?_)
  ·refine T4 ?_;exact k73 M
  refine T4 ?_;exact k73 M
 refine A1 (d:=64) X (λh64=>?_) (λh64=>?_)
 ·refine T4 ?_;exact k64 M
 refine T4 ?_;exact k64 M
end Go.Proofs.YtppmdnmjepkfaaaGreatDoor
