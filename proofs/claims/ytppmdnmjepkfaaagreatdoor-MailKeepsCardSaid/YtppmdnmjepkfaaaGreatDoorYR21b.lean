/- Lemmas. -/
import Derived.Test.YtppmdnmjepkfaaaGreatDoorYR21a
set_option maxHeartbeats 16000000
set_option maxRecDepth 100000
namespace Go.Proofs.YtppmdnmjepkfaaaGreatDoor
open Go.RowKit
open Tryz
open Decidable renaming decide→O
open Option renaming some→G
open Bool renaming true→zz,false→zy
open True renaming intro→zw
open Go.Proofs.Tryz renaming prog→zv
open Go renaming Calls→zt
theorem ZT : ∀(l:List Fl) (k:Kz),(D7 l k).length≤l.length
 | [],_=>Af _
 | x::r,k=>by
  have:=ZT r k
  unfold D7
  split<;>simp only [Al]<;>omega
def RJ (m:Md) (i:In) (next k:Int) (q:Nat) (y:Tk):Bool:=(if (O (y.id<(1:Int)))=zz then zz else (if (O (next<y.id))=zz then zz else (if (O (y.id=i.id))=zz then zz else (if (O ((0:Int)<((q:Nat):Int)))=zz then (if (O (y.id≤(bM i q)))=zz then zz else (if (!(IY m y))=zz then zz else (if (O (y.born<(0:Int)))=zz then zz else (O (k<y.born))))) else (if (!(IY m y))=zz then zz else (if (O (y.born<(0:Int)))=zz then zz else (O (k<y.born))))))))
def TB (m:Md) (i:In) (next k:Int):Nat→List Tk→Bool
 | _,[]=>zz
 | q,y::r=>if RJ m i next k q y=zz then zy else if (((O (y.worker=[]))&&(!decide (y.until_=(0:Int)))) || ((!decide (y.worker=[]))&&(((!(B5 y.worker)) || (O (y.until_<(0:Int)))) || (O ((k+(1048576:Int))<y.until_)))))=zz then zy else TB m i next k (q+1) r
def elL (m:Md) (i:In):List El→Bool
 | []=>zz
 | x::r=>if (!decide ((x.kind.toNat:Int)=(6:Int)))=zz then elL m i r else if ((D7 m.fls x.id).all (λf=>i.toks.any (λt=>O (t.on=f))))=zz then zy else elL m i r
def KY (m:Md) (i:In) (next k:Int):Bool:=if ((((((((O (next<(0:Int))) || (O ((2147483647:Int)<next))) || (O (k<(0:Int)))) || (O ((1099511627776:Int)<k))) || (!decide (i.mdl=m.id))) || (O (i.id<(1:Int)))) || (O (next<i.id))) || (!(UF i.vars m.vars)))=zz then zy else if (((O ((i.st.toNat:Int)<(1:Int))) || (O ((3:Int)<(i.st.toNat:Int)))) || (!((O ((i.st.toNat:Int)=(1:Int)))==(O ((0:Int)<((i.toks.length:Nat):Int))))))=zz then zy else (TB m i next k 0 i.toks&&elL m i m.els)
theorem eR (m:Md) (a:MdA) (i:In) (V T:Ky) (vc tc:Nat) (next k:Int) (w:Kw) (ho:MdOk m) (hm:MdIn w m a) (hk:0≤k∧k≤1099511627776) (htl:i.toks.length≤1000000) (hbd:BdOk i.vars) (hwk:∀t∈i.toks,(t.worker.length:Int)<4611686018427387904) (hV:Rd w V (i.vars.length*5) (AF Bd.cells i.vars)) (hT:Rd w T (i.toks.length*9) (AF Tk.cells i.toks)) :
 zt zv 22 #[.agg (Md.cells m a).toArray,.agg (In.cells i V T vc tc).toArray,AA next,AA k] w (BR w (.bool (KY m i next k))):=by
 have hoi:=ho.id;have hon:=ho.nm;have hnv:=ho.nvars;have hne:=ho.nels;have hnf:=ho.nfls;refine BO func22 ntmps22 X λM=>W ?_
 refine CU M X X λg4 w1 hg4 M=>CU M X X λg5 w2 hg5 M=>W ?_
 refine fvm M 3 [5,4,3,2] [(22,.bool ((O (next<(0:Int))) || (O ((2147483647:Int)<next))))] ?_ (λk19=>?_)
 ·intro w3 M;refine yb X (fvm M 3 [5,4,3,2] [(26,.bool (((O (next<(0:Int))) || (O ((2147483647:Int)<next))) || (O (k<(0:Int)))))] ?_ (λk23=>?_))
  ·intro w4 M;refine yb X (fvm M 3 [5,4,3,2] [(30,.bool ((((O (next<(0:Int))) || (O ((2147483647:Int)<next))) || (O (k<(0:Int)))) || (O ((1099511627776:Int)<k))))] ?_ (λk27=>?_))
   ·intro w5 M;refine yb X (fvm M 6 [5,4,3,2] [(37,.bool (((((O (next<(0:Int))) || (O ((2147483647:Int)<next))) || (O (k<(0:Int)))) || (O ((1099511627776:Int)<k))) || (!decide (i.mdl=m.id))))] ?_ (λk31=>?_))
    ·intro w6 M;refine yb X (fvm M 4 [5,4,3,2] [(42,.bool ((((((O (next<(0:Int))) || (O ((2147483647:Int)<next))) || (O (k<(0:Int)))) || (O ((1099511627776:Int)<k))) || (!decide (i.mdl=m.id))) || (O (i.id<(1:Int)))))] ?_ (λk38=>?_))
     ·intro w7 M;refine yb X (fvm M 5 [5,4,3,2] [(48,.bool (((((((O (next<(0:Int))) || (O ((2147483647:Int)<next))) || (O (k<(0:Int)))) || (O ((1099511627776:Int)<k))) || (!decide (i.mdl=m.id))) || (O (i.id<(1:Int)))) || (O (next<i.id))))] ?_ (λk43=>?_))
      ·intro w8 M;refine yb X (fvm M 6 [5,4,3,2] [(55,.bool ((((((((O (next<(0:Int))) || (O ((2147483647:Int)<next))) || (O (k<(0:Int)))) || (O ((1099511627776:Int)<k))) || (!decide (i.mdl=m.id))) || (O (i.id<(1:Int)))) || (O (next<i.id))) || (!(UF i.vars m.vars))))] ?_ (λk49=>?_))
       ·intro w9 M;refine W ?_;refine AC X (λh55=>?_) (λh55=>?_)
        ·have h55p:=bd h55;refine W ?_;exact gr1 X ⟨by rw [KY,Ac h55],M.fr⟩
        have h55p:=bd h55;refine W ?_;refine fvm M 4 [5,4,3,2] [(63,.bool ((O ((i.st.toNat:Int)<1)) || (O (3<(i.st.toNat:Int)))))] ?_ (λk59=>?_)
        ·intro w10 M;refine yb X (fvm M 9 [5,4,3,2] [(73,.bool (((O ((i.st.toNat:Int)<1)) || (O (3<(i.st.toNat:Int)))) || (!((O ((i.st.toNat:Int)=1))==(O (0<(i.toks.length:Int)))))))] ?_ (λk64=>?_))
         ·intro w11 M;refine W ?_;refine AC X (λh73=>?_) (λh73=>?_)
          ·have h73p:=bd h73;refine W ?_;exact gr1 X ⟨by rw [KY,AN h55,Ac h73],M.fr⟩
          have h73p:=bd h73;refine W ?_;refine EC M [5,4,3,2] (λze zF e wr mz=>∃(q:Nat),e=(9,AA (q:Int))::ze∧zF wr∧(q≤i.toks.length)∧(TB m i next k 0 i.toks=TB m i next k q (i.toks.drop q))∧mz=i.toks.length-q) ⟨0,X,M,Aj _,X,X⟩ ?_;rintro _ w12 _ ⟨q,rfl,M,hq,hE,rfl⟩;refine W ?_;refine AC X (λh78=>?_) (λh78=>?_)
          ·have h78p:=odt h78;obtain ⟨y,hy⟩:=EJ (l:=i.toks) (i:=q) A0;obtain ⟨b_y,o_y,hA_y⟩:=DR (k:=9) A0 (hT.fr0 M.fr) hy;have oy1:=hwk _ (Ah hy);refine W ?_;refine ya X (AK q hA_y X X X (sl X) A0) (ya X (AJ X X (BF Tk.len (hT.fr0 M.fr) hA_y hy) Bw X BE) (CE M X HX λg10 w13 hg10 M=>BX M 0 X X BE X λw14 M=>W ?_));refine JL ([(2,AA next),(3,AA k),(4,pg g4),(5,pg g5),(9,AA (q:Int)),(10,pg g10),(134,.bool (RJ m i next k q y))]) (λw'=>Mem w AR [As.blk g10 75 (Tk.cells y),As.blk g5 42 (In.cells i V T vc tc),As.blk g4 48 (Md.cells m a)] w') ?_ (λkr9=>?_)
           ·intro  w15 M;refine qx_seq (AC X (λh134=>?_) (λh134=>?_))
            ·refine W ?_;refine gr1 X ?_;rw [AH hy,TB,Ac h134] at hE
             exact ⟨by rw [KY,AN h55,AN h73,hE,Fw],M.fr⟩
            refine W ?_;refine fvm M 4 [10,9,5,4,3,2] [(142,.bool ((O (y.worker=[]))&&(!decide (y.until_=(0:Int)))))] ?_ (λk138=>?_)
            ·intro w16 M;refine yb X (fvm M 22 [9,5,4,3,2] [(165,.bool (((O (y.worker=[]))&&(!decide (y.until_=(0:Int)))) || ((!decide (y.worker=[]))&&(((!(B5 y.worker)) || (O (y.until_<(0:Int)))) || (O ((k+(1048576:Int))<y.until_))))))] ?_ (λk143=>?_))
             ·intro w17 M;refine W ?_;refine AC X (λh165=>?_) (λh165=>?_)
              ·have h165p:=bd h165;refine W ?_;refine gr1 X ?_;rw [AH hy,TB,AN h134,Ac h165] at hE
               exact ⟨by rw [KY,AN h55,AN h73,hE,Fw],M.fr⟩
              have h165p:=bd h165;refine W ?_;refine fag ⟨q+1,X,(M.pk [1,2]),?_,?_,X⟩
              ·omega
              rw [hE,AH hy,TB,AN h134,AN h165]
             refine A1 (d:=143) X (λh143=>?_) (λh143=>?_)
             ·iterate 4 refine yo X ?_
              iterate 16 refine CW X X X X X ?_
              exact yo X (yb X (k143 M))
             refine W ?_;refine fvm M 17 [143,9,5,4,3,2] [(164,.bool ((!decide (y.worker=[]))&&(((!(B5 y.worker)) || (O (y.until_<(0:Int)))) || (O ((k+(1048576:Int))<y.until_)))))] ?_ (λk147=>?_)
             ·intro w18 M;exact yb X (k143 M)
             refine A1 (d:=147) X (λh147=>?_) (λh147=>?_)
             ·refine W ?_;refine JK kw X X (AE X X call34) (FW _ _ A0) (W ?_);refine fvm M 4 [147,143,10,9,5,4,3,2] [(156,.bool ((!(B5 y.worker)) || (O (y.until_<(0:Int)))))] ?_ (λk152=>?_)
              ·intro w19 M;refine gyq X (fvm M 6 [147,143,9,5,4,3,2] [(163,.bool (((!(B5 y.worker)) || (O (y.until_<(0:Int)))) || (O ((k+(1048576:Int))<y.until_))))] ?_ (λk157=>?_))
               ·intro w20 M;exact gyq X (k147 M)
               refine A1 (d:=157) X (λh157=>?_) (λh157=>?_)
               ·refine T6 ?_;exact k157 M
               refine T6 ?_;exact k157 M
              refine A1 (d:=152) X (λh152=>?_) (λh152=>?_)
              ·refine T4 ?_;exact k152 M
              refine T4 ?_;exact k152 M
             iterate 5 refine yo X ?_
             refine CW X X X X X (CW X X X X X (CW X X X X X (yo X (yo X ?_))));iterate 5 refine CW X X X X X ?_
             exact yo X (gyq X (k147 M))
            refine A1 (d:=138) X (λh138=>?_) (λh138=>?_)
            ·refine T4 ?_;exact k138 M
            refine T4 ?_;exact k138 M
           refine I0 M 49 CA λM=>oc 0 49 X X M (ol 1 49 X X X M (λ_ M=>(M.cell 0 X X)) (oa 2 49 X X M (λ_ M=>HL X X X) (oc 3 49 X X M (CC (d:=89) X (λh89=>?_) (λh89=>?_)))))
           ·refine AQ 4 49 X M (AQ 5 49 X M (AQ 6 49 X M (AQ 7 49 X M (oc 8 49 X X M (oc 9 49 X X M (AQ 10 49 X M (AQ 11 49 X M (AQ 12 49 X M (AQ 13 49 X M (AQ 14 49 X M (oc 15 49 X X M (oc 16 49 X X M (AQ 17 49 X M (AQ 18 49 X M (AQ 19 49 X M ?_)))))))))))))));refine C9 20 49 X X M (C9 21 49 X X M (C9 22 49 X X M (C9 23 49 X X M (C9 24 49 X X M (C9 25 49 X X M (C9 26 49 X X M (C9 27 49 X X M (C9 28 49 X X M (C9 29 49 X X M (AQ 30 49 X M (oc 31 49 X X M (oc 32 49 X X M (AQ 33 49 X M (AQ 34 49 X M (AQ 35 49 X M ?_)))))))))))))));exact AQ 36 49 X M (oc 37 49 X X M (oc 38 49 X X M (AQ 39 49 X M (AQ 40 49 X M (AQ 41 49 X M (oc 42 49 X X M (oc 43 49 X X M (AQ 44 49 X M (AQ 45 49 X M (AQ 46 49 X M (AQ 47 49 X M (oc 48 49 X X M (fdn (kr9  _ _ M ⟨X,X,X,X,X,X,(by rw [RJ,Ac h89];rfl),zw⟩))))))))))))))
           have h89p:=odf h89;refine ob 4 49 X kw X X M (λ_ M=>yp X) (ob 5 49 X kw X X M (λ_ M=>B3 X X (sc X) (M.cell 0 X X)) (ob 6 49 X kw X X M (λ_ M=>yp X) (ob 7 49 X kw X X M (λ_ M=>LG X X X) (oc 8 49 X X M (oc 9 49 X X M (CC (d:=95) X (λh95=>?_) (λh95=>?_)))))))
           ·refine AQ 10 49 X M (AQ 11 49 X M (AQ 12 49 X M (AQ 13 49 X M (AQ 14 49 X M (oc 15 49 X X M (oc 16 49 X X M (AQ 17 49 X M (AQ 18 49 X M (AQ 19 49 X M (C9 20 49 X X M (C9 21 49 X X M (C9 22 49 X X M (C9 23 49 X X M (C9 24 49 X X M (C9 25 49 X X M ?_)))))))))))))));refine C9 26 49 X X M (C9 27 49 X X M (C9 28 49 X X M (C9 29 49 X X M (AQ 30 49 X M (oc 31 49 X X M (oc 32 49 X X M (AQ 33 49 X M (AQ 34 49 X M (AQ 35 49 X M (AQ 36 49 X M (oc 37 49 X X M (oc 38 49 X X M (AQ 39 49 X M (AQ 40 49 X M (AQ 41 49 X M ?_)))))))))))))));exact oc 42 49 X X M (oc 43 49 X X M (AQ 44 49 X M (AQ 45 49 X M (AQ 46 49 X M (AQ 47 49 X M (oc 48 49 X X M (fdn (kr9  _ _ M ⟨X,X,X,X,X,X,(by rw [RJ,AN h89,Ac h95];rfl),zw⟩))))))))
           have h95p:=odf h95;refine ob 10 49 X kw X X M (λ_ M=>yp X) (ob 11 49 X kw X X M (λ_ M=>B3 X X (sc X) (M.cell 0 X X)) (ob 12 49 X kw X X M (λ_ M=>yp X) (ob 13 49 X kw X X M (λ_ M=>B3 X X (sc X) (M.cell 1 X X)) (ob 14 49 X kw X X M (λ_ M=>ES X X X) (oc 15 49 X X M (oc 16 49 X X M (CC (d:=102) X (λh102=>?_) (λh102=>?_))))))))
           ·refine AQ 17 49 X M (AQ 18 49 X M (AQ 19 49 X M (C9 20 49 X X M (C9 21 49 X X M (C9 22 49 X X M (C9 23 49 X X M (C9 24 49 X X M (C9 25 49 X X M (C9 26 49 X X M (C9 27 49 X X M (C9 28 49 X X M (C9 29 49 X X M (AQ 30 49 X M (oc 31 49 X X M (oc 32 49 X X M ?_)))))))))))))));refine AQ 33 49 X M (AQ 34 49 X M (AQ 35 49 X M (AQ 36 49 X M (oc 37 49 X X M (oc 38 49 X X M (AQ 39 49 X M (AQ 40 49 X M (AQ 41 49 X M (oc 42 49 X X M (oc 43 49 X X M (AQ 44 49 X M (AQ 45 49 X M (AQ 46 49 X M (AQ 47 49 X M (oc 48 49 X X M ?_)))))))))))))));exact fdn (kr9  _ _ M ⟨X,X,X,X,X,X,(by rw [RJ,AN h89,AN h95,Ac h102];rfl),zw⟩)
           have h102p:=odf h102;refine ob 17 49 X kw X X M (λ_ M=>yp X) (ob 18 49 X kw X X M (λ_ M=>LG X X X) (ob 19 49 X kw X X M (λ_ M=>yp X) (CC (d:=105) X (λh105=>?_) (λh105=>?_))))
           ·have h105p:=odt h105;refine ob 20 49 X kw X X M (λ_ M=>yp X) (ob 21 49 X kw X X M (λ_ M=>B3 X X (sc X) (M.cell 1 X X)) (ob 22 49 X kw X X M (λ_ M=>yp X) (ob 23 49 X kw X X M (λ_ M=>ER (a:=q) (b:=1) X X X A0 A0) ?_)));obtain ⟨y2,_,_,hy2,hA_y2⟩:=ex5 (i:=q-1) (hT.fr0 M.fr);have oy21:=hwk _ (Ah hy2);refine ob 24 49 X kw X X M (λ_ M=>AK (q-1) hA_y2 X X X (sl X) A0) (ob 25 49 X kw X X M (λ_ M=>yp X) ?_);have hpd:bM i q=y2.id:=by unfold bM;rw [hy2];rfl
            refine ob 26 49 X kw X X M (λ_ M=>B3 X X (sc X) (hpd▸BC Tk.len (hT.fr0 M.fr) hA_y2 hy2 0 X)) (ob 27 49 X kw X X M (λ_ M=>yp X) (ob 28 49 X kw X X M (λ_ M=>B3 X X (sc X) (M.cell 0 X X)) (ob 29 49 X kw X X M (λ_ M=>LH X X X) (ob 30 49 X kw X X M (λ_ M=>yp X) (oc 31 49 X X M (oc 32 49 X X M (CC (d:=118) X (λh118=>?_) (λh118=>?_))))))))
            ·refine AQ 33 49 X M (AQ 34 49 X M (AQ 35 49 X M (AQ 36 49 X M (oc 37 49 X X M (oc 38 49 X X M (AQ 39 49 X M (AQ 40 49 X M (AQ 41 49 X M (oc 42 49 X X M (oc 43 49 X X M (AQ 44 49 X M (AQ 45 49 X M (AQ 46 49 X M (AQ 47 49 X M (oc 48 49 X X M ?_)))))))))))))));exact fdn (kr9  _ _ M ⟨X,X,X,X,X,X,(by rw [RJ,AN h89,AN h95,AN h102,Ac h105,Ac h118];rfl),zw⟩)
            refine ob 33 49 X kw X X M (λ_ M=>AJ (xs:=Md.cells m a) X X (M.rdBlk 2 X X) Ap X AO) (ob 34 49 X kw X X M (λ_ M=>AJ (xs:=Tk.cells y) X X (M.rdBlk 0 X X) Bw X BE) (BB 35 (G 121) zr X kw X X (AE X X call49) (TI m a y _ ho (hm.fr0 M.fr)) ?_));rintro _ w21 ⟨rfl,hfw21⟩;refine ⟨_,X,λ_=>M.step hfw21,?_⟩;have M:=M.step hfw21;refine ob 36 49 X kw X X M (λ_ M=>yp X) (oc 37 49 X X M (oc 38 49 X X M (CC (d:=124) X (λh124=>?_) (λh124=>?_))))
            ·exact AQ 39 49 X M (AQ 40 49 X M (AQ 41 49 X M (oc 42 49 X X M (oc 43 49 X X M (AQ 44 49 X M (AQ 45 49 X M (AQ 46 49 X M (AQ 47 49 X M (oc 48 49 X X M (fdn (kr9  _ _ M ⟨X,X,X,X,X,X,(by rw [RJ,AN h89,AN h95,AN h102,Ac h105,AN h118,Ac h124];rfl),zw⟩)))))))))))
            refine ob 39 49 X kw X X M (λ_ M=>yp X) (ob 40 49 X kw X X M (λ_ M=>B3 X X (sc X) (M.cell 0 X X)) (ob 41 49 X kw X X M (λ_ M=>HL X X X) (oc 42 49 X X M (oc 43 49 X X M (CC (d:=129) X (λh129=>?_) (λh129=>?_))))))
            ·exact AQ 44 49 X M (AQ 45 49 X M (AQ 46 49 X M (AQ 47 49 X M (oc 48 49 X X M (fdn (kr9  _ _ M ⟨X,X,X,X,X,X,(by rw [RJ,AN h89,AN h95,AN h102,Ac h105,AN h118,AN h124,Ac h129];rfl),zw⟩))))))
            exact ob 44 49 X kw X X M (λ_ M=>yp X) (ob 45 49 X kw X X M (λ_ M=>B3 X X (sc X) (M.cell 0 X X)) (ob 46 49 X kw X X M (λ_ M=>yp X) (ob 47 49 X kw X X M (λ_ M=>LG X X X) (oc 48 49 X X M (fdn (kr9  _ _ M ⟨X,X,X,X,X,X,(by rw [RJ,AN h89,AN h95,AN h102,Ac h105,AN h118,AN h124,AN h129];rfl),zw⟩))))))
           refine AQ 20 49 X M (AQ 21 49 X M (AQ 22 49 X M (AQ 23 49 X M (AQ 24 49 X M (AQ 25 49 X M (AQ 26 49 X M (AQ 27 49 X M (AQ 28 49 X M (AQ 29 49 X M (ob 30 49 X kw X X M (λ_ M=>yp X) (oc 31 49 X X M (oc 32 49 X X M (ob 33 49 X kw X X M (λ_ M=>AJ (xs:=Md.cells m a) X X (M.rdBlk 2 X X) Ap X AO) (ob 34 49 X kw X X M (λ_ M=>AJ (xs:=Tk.cells y) X X (M.rdBlk 0 X X) Bw X BE) (BB 35 (G 121) zr X kw X X (AE X X call49) (TI m a y _ ho (hm.fr0 M.fr)) ?_)))))))))))))));rintro _ w22 ⟨rfl,hfw22⟩;refine ⟨_,X,λ_=>M.step hfw22,?_⟩;have M:=M.step hfw22;refine ob 36 49 X kw X X M (λ_ M=>yp X) (oc 37 49 X X M (oc 38 49 X X M (CC (d:=124) X (λh124=>?_) (λh124=>?_))))
           ·exact AQ 39 49 X M (AQ 40 49 X M (AQ 41 49 X M (oc 42 49 X X M (oc 43 49 X X M (AQ 44 49 X M (AQ 45 49 X M (AQ 46 49 X M (AQ 47 49 X M (oc 48 49 X X M (fdn (kr9  _ _ M ⟨X,X,X,X,X,X,(by rw [RJ,AN h89,AN h95,AN h102,AN h105,Ac h124];rfl),zw⟩)))))))))))
           refine ob 39 49 X kw X X M (λ_ M=>yp X) (ob 40 49 X kw X X M (λ_ M=>B3 X X (sc X) (M.cell 0 X X)) (ob 41 49 X kw X X M (λ_ M=>HL X X X) (oc 42 49 X X M (oc 43 49 X X M (CC (d:=129) X (λh129=>?_) (λh129=>?_))))))
           ·exact AQ 44 49 X M (AQ 45 49 X M (AQ 46 49 X M (AQ 47 49 X M (oc 48 49 X X M (fdn (kr9  _ _ M ⟨X,X,X,X,X,X,(by rw [RJ,AN h89,AN h95,AN h102,AN h105,AN h124,Ac h129];rfl),zw⟩))))))
           exact ob 44 49 X kw X X M (λ_ M=>yp X) (ob 45 49 X kw X X M (λ_ M=>B3 X X (sc X) (M.cell 0 X X)) (ob 46 49 X kw X X M (λ_ M=>yp X) (ob 47 49 X kw X X M (λ_ M=>LG X X X) (oc 48 49 X X M (fdn (kr9  _ _ M ⟨X,X,X,X,X,X,(by rw [RJ,AN h89,AN h95,AN h102,AN h105,AN h124,AN h129];rfl),zw⟩))))))
          have h78p:=odf h78;refine W ?_;obtain rfl:q=i.toks.length:=A0
          rw [Aq,TB] at hE
          refine W ?_;refine EC M [5,4] (λze zF e wr mz=>∃(p:Nat),e=(11,AA (p:Int))::ze∧zF wr∧(p≤m.els.length)∧(elL m i m.els=elL m i (m.els.drop p))∧mz=m.els.length-p) ⟨0,X,M,Aj _,X,X⟩ ?_;rintro _ w23 _ ⟨p,rfl,M,hp,hF,rfl⟩;refine W ?_;refine AC X (λh170=>?_) (λh170=>?_)
          ·have h170p:=odt h170;obtain ⟨x,_,_,hx,hA_x⟩:=ex5 (i:=p) (M.rd hm.els);have ox:=ho.els _ (Ah hx);have ox1:=ox.id;have ox2:=ox.nm;have ox3:=ox.ref;have ox4:=ox.key;refine W ?_;refine ya X (AK p hA_x X X X (sl X) A0) (yb X (yl X X (BC El.len (M.rd hm.els) hA_x hx 2 X) (W ?_)));refine AC X (λh179=>?_) (λh179=>?_)
           ·have h179p:=(odf (CJ h179));refine W ?_;refine fag ⟨p+1,X,M,?_,?_,X⟩
            ·omega
            rw [hF,AH hx,elL,Ac h179]
           have h179p:=(odt (BL h179));refine W ?_;refine DZ 7 CA zr ?_;have M:=M.drew;refine sa X (AJ (xs:=Md.cells m a) X X (M.rdBlk 1 X X) Ap X AO) (W ?_);refine sa X (AK p hA_x X X X (sl X) A0) (sb X (sd X X (BC El.len (M.rd hm.els) hA_x hx 0 X) (DA (ND M 187 X (AE X X call50) (bH m a _ _ ho (hm.fr0 M.fr)) λA187 c187 w24 M=>?_))));have hL187:=M.ownLen 0 X;refine W ?_;have hil:=ZT m.fls x.id;refine EC M [12,11,5,4] (λze zF e wr mz=>∃(n:Nat) (b:Bool),e=(13,.bool b)::(14,AA (n:Int))::ze∧zF wr∧(n≤(D7 m.fls x.id).length)∧(b=((D7 m.fls x.id).take n).all (λf=>i.toks.any (λt=>O (t.on=f))))∧mz=(D7 m.fls x.id).length-n) ⟨0,zz,X,M,Aj _,X,X⟩ ?_;rintro _ w25 _ ⟨n,b,rfl,M,hn,hb,rfl⟩;refine W ?_;refine AC X (λh191=>?_) (λh191=>?_)
           ·have h191p:=odt h191;obtain ⟨z,_,_,hz,hA_z⟩:=ex5 (l:=D7 m.fls x.id) (k:=1) (i:=n) (M.rdOwn 0 X);refine W ?_;refine EC M [14,13,12,11,5,4] (λze zF e wr mz=>∃(j:Nat) (b2:Bool),e=(15,.bool b2)::(16,AA (j:Int))::ze∧zF wr∧(j≤i.toks.length)∧(b2=(i.toks.take j).any (λt=>O (t.on=z)))∧mz=i.toks.length-j) ⟨0,zy,X,M,Aj _,X,X⟩ ?_;rintro _ w26 _ ⟨j,b2,rfl,M,hj,hb2,rfl⟩;refine W ?_;refine AC X (λh198=>?_) (λh198=>?_)
            ·have h198p:=odt h198;obtain ⟨y,_,_,hy,hA_y⟩:=ex5 (i:=j) (hT.fr0 M.fr);have oy1:=hwk _ (Ah hy);refine W ?_;refine CY CA zr ?_;have M:=M.drew;refine W ?_;refine fvs 12 [16,15,14,13,12,11,5,4] [(214,.bool (b2 || (O (y.on=z))))] ?_ (λk202=>?_)
             ·refine W ?_;refine fag ⟨j+1,(b2 || (O (y.on=z))),X,M,?_,?_,X⟩
              ·omega
              rw [hb2,AT hy,SU]
             refine C3 (d:=202) X (λh202=>?_) (λh202=>?_)
             ·refine T12 ?_;exact k202 _ ⟨X,X,X,X,X,X,X,X,(by rw [h202];rfl),zw⟩
             refine W ?_;refine gsg X (AK j hA_y X X X (sl X) A0) (gsg X (yp X) (gsg X (B3 X X (sc X) (BC Tk.len (hT.fr0 M.fr) hA_y hy 2 X)) (W ?_)));refine gsg X (AK n hA_z X X X (sl X) A0) (gsg X (B3 X X (sc X) (BC DN (M.rdOwn 0 X) hA_z hz 0 X)) (T2 ?_));exact k202 _ ⟨X,X,X,X,X,X,X,X,(by rw [h202];rfl),zw⟩
            have h198p:=odf h198;refine W ?_;have hjE:j=i.toks.length:=A0
            rw [hjE,Bc] at hb2
            subst hb2;refine W ?_;refine fvm M 2 [14,13,12,11,5,4] [(218,.bool (b&&(i.toks.any (λt=>O (t.on=z)))))] ?_ (λk216=>?_)
            ·intro w27 M;refine W ?_;refine fag ⟨n+1,(b&&(i.toks.any (λt=>O (t.on=z)))),X,M,?_,?_,X⟩
             ·omega
             rw [hb,AT hz,IO]
            refine A1 (d:=216) X (λh216=>?_) (λh216=>?_)
            ·refine T2 ?_;exact k216 M
            refine T2 ?_;exact k216 M
           have h191p:=odf h191;refine W ?_;have hnE:n=(D7 m.fls x.id).length:=A0
           rw [hnE,Bc] at hb
           subst hb;refine W ?_;refine AC X (λh219=>?_) (λh219=>?_)
           ·refine W ?_;refine gr1 X ?_;rw [AH hx,elL,AN h179,Ac h219] at hF
            exact ⟨by rw [KY,AN h55,AN h73,hE,hF,En],M.fr⟩
           refine W ?_;refine fag ⟨p+1,X,(M.pk [1,2]),?_,?_,X⟩
           ·omega
           rw [hF,AH hx,elL,AN h179,AN h219]
          have h170p:=odf h170;refine W ?_;obtain rfl:p=m.els.length:=A0
          rw [Aq,elL] at hF
          refine W ?_;exact gr1 X ⟨by rw [KY,AN h55,AN h73,hE,hF];rfl,M.fr⟩
         refine A1 (d:=64) X (λh64=>?_) (λh64=>?_)
         ·refine T9 ?_;exact k64 M
         refine W ?_;exact yd X (SV X X X Eq) (yb X (k64 M))
        refine A1 (d:=59) X (λh59=>?_) (λh59=>?_)
        ·refine T4 ?_;exact k59 M
        refine T4 ?_;exact k59 M
       refine A1 (d:=49) X (λh49=>?_) (λh49=>?_)
       ·refine T6 ?_;exact k49 M
       refine yd X (AJ (xs:=Md.cells m a) X X (M.rdBlk 1 X X) Ap X AO) (W ?_);refine sxl_call (G 53) kw X X (AE X X call48) (t7 m a i.vars _ _ _ ho (hm.fr0 M.fr) hbd (hV.fr0 M.fr)) ?_;rintro _ w28 ⟨rfl,hfw28⟩;refine cq ?_;have M:=M.step hfw28;refine T2 ?_;exact k49 M
      refine A1 (d:=43) X (λh43=>?_) (λh43=>?_)
      ·refine T5 ?_;exact k43 M
      refine T5 ?_;exact k43 M
     refine A1 (d:=38) X (λh38=>?_) (λh38=>?_)
     ·refine T4 ?_;exact k38 M
     refine T4 ?_;exact k38 M
    refine A1 (d:=31) X (λh31=>?_) (λh31=>?_)
    ·refine T6 ?_;exact k31 M
    refine T6 ?_;exact k31 M
   refine A1 (d:=27) X (λh27=>?_) (λh27=>?_)
   ·refine T3 ?_;exact k27 M
   refine T3 ?_;exact k27 M
  refine A1 (d:=23) X (λh23=>?_) (λh23=>?_)
  ·refine T3 ?_;exact k23 M
  refine T3 ?_;exact k23 M
 refine A1 (d:=19) X (λh19=>?_) (λh19=>?_)
 ·refine T3 ?_;exact k19 M
 refine T3 ?_;exact k19 M
def jT (m:Md):Bool:=O ((Q4 m).2.2=(0:Int))
theorem zN (m:Md) (a:MdA) (w:Kw) (ho:MdB m) (hm:MdIn w m a) :
 zt zv 21 #[.agg (Md.cells m a).toArray] w (BR w (.bool (jT m))):=by
 refine BO func21 ntmps21 X λM=>W ?_
 refine CU M X X λg1 w1 hg1 M=>W ?_
 refine CF M 0 X X Ap AO X (CQ M 8 X X call47 (eT m a _ ho.b (hm.fr0 M.fr)) λw2 M=>W ?_);exact gr1 X ⟨X,M.fr⟩
end Go.Proofs.YtppmdnmjepkfaaaGreatDoor
