/- Lemmas. -/
import Derived.Test.YtppmdnmjepkfaaaGreatDoorYR21a
set_option maxHeartbeats 16000000
set_option maxRecDepth 100000
namespace Go.Proofs.YtppmdnmjepkfaaaGreatDoor
open Go.RowKit
open Tryz
theorem ZG : ∀(l:List Fl) (k:Kz),(D2 l k).length≤l.length
 | [],_=>Ab _
 | x::r,k=>by
  have:=ZG r k
  unfold D2
  split<;>simp only [Af]<;>omega
def R6 (m:Md) (i:In) (next k:Int) (q:Nat) (y:Tk):Bool:=(if (decide (y.id<(1:Int)))=true then true else (if (decide (next<y.id))=true then true else (if (decide (y.id=i.id))=true then true else (if (decide ((0:Int)<((q:Nat):Int)))=true then (if (decide (y.id≤(aY i q)))=true then true else (if (!(IP m y))=true then true else (if (decide (y.born<(0:Int)))=true then true else (decide (k<y.born))))) else (if (!(IP m y))=true then true else (if (decide (y.born<(0:Int)))=true then true else (decide (k<y.born))))))))
def SM (m:Md) (i:In) (next k:Int):Nat→List Tk→Bool
 | _,[]=>true
 | q,y::r=>if R6 m i next k q y=true then false else if (((decide (y.worker=[]))&&(!decide (y.until_=(0:Int)))) || ((!decide (y.worker=[]))&&(((!(B6 y.worker)) || (decide (y.until_<(0:Int)))) || (decide ((k+(1048576:Int))<y.until_)))))=true then false else SM m i next k (q+1) r
def elL (m:Md) (i:In):List El→Bool
 | []=>true
 | x::r=>if (!decide ((x.kind.toNat:Int)=(6:Int)))=true then elL m i r else if ((D2 m.fls x.id).all (λf=>i.toks.any (λt=>decide (t.on=f))))=true then false else elL m i r
def KN (m:Md) (i:In) (next k:Int):Bool:=if ((((((((decide (next<(0:Int))) || (decide ((2147483647:Int)<next))) || (decide (k<(0:Int)))) || (decide ((1099511627776:Int)<k))) || (!decide (i.mdl=m.id))) || (decide (i.id<(1:Int)))) || (decide (next<i.id))) || (!(TX i.vars m.vars)))=true then false else if (((decide ((i.st.toNat:Int)<(1:Int))) || (decide ((3:Int)<(i.st.toNat:Int)))) || (!((decide ((i.st.toNat:Int)=(1:Int)))==(decide ((0:Int)<((i.toks.length:Nat):Int))))))=true then false else (SM m i next k 0 i.toks&&elL m i m.els)
theorem dQ (m:Md) (a:MdA) (i:In) (V T:Ky) (vc tc:Nat) (next k:Int) (w:Kw) (ho:MdOk m) (hm:MdIn w m a) (hk:0≤k∧k≤1099511627776) (htl:i.toks.length≤1000000) (hbd:BdOk i.vars) (hwk:∀t∈i.toks,(t.worker.length:Int)<4611686018427387904) (hV:Rd w V (i.vars.length*5) (AE Bd.cells i.vars)) (hT:Rd w T (i.toks.length*9) (AE Tk.cells i.toks)) :
 Calls prog 22 #[.agg (Md.cells m a).toArray,.agg (In.cells i V T vc tc).toArray,AA next,AA k] w (BS w (.bool (KN m i next k))):=by
 have hoi:=ho.id;have hon:=ho.nm;have hnv:=ho.nvars;have hne:=ho.nels;have hnf:=ho.nfls;refine BR func22 ntmps22 X λM=>W ?_
 refine CO M X X λg4 w1 hg4 M=>CO M X X λg5 w2 hg5 M=>W ?_
 refine fvm M 3 [5,4,3,2] [(22,.bool ((decide (next<(0:Int))) || (decide ((2147483647:Int)<next))))] ?_ (λk19=>?_)
 ·intro w3 M;refine yb X (fvm M 3 [5,4,3,2] [(26,.bool (((decide (next<(0:Int))) || (decide ((2147483647:Int)<next))) || (decide (k<(0:Int)))))] ?_ (λk23=>?_))
  ·intro w4 M;refine yb X (fvm M 3 [5,4,3,2] [(30,.bool ((((decide (next<(0:Int))) || (decide ((2147483647:Int)<next))) || (decide (k<(0:Int)))) || (decide ((1099511627776:Int)<k))))] ?_ (λk27=>?_))
   ·intro w5 M;refine yb X (fvm M 6 [5,4,3,2] [(37,.bool (((((decide (next<(0:Int))) || (decide ((2147483647:Int)<next))) || (decide (k<(0:Int)))) || (decide ((1099511627776:Int)<k))) || (!decide (i.mdl=m.id))))] ?_ (λk31=>?_))
    ·intro w6 M;refine yb X (fvm M 4 [5,4,3,2] [(42,.bool ((((((decide (next<(0:Int))) || (decide ((2147483647:Int)<next))) || (decide (k<(0:Int)))) || (decide ((1099511627776:Int)<k))) || (!decide (i.mdl=m.id))) || (decide (i.id<(1:Int)))))] ?_ (λk38=>?_))
     ·intro w7 M;refine yb X (fvm M 5 [5,4,3,2] [(48,.bool (((((((decide (next<(0:Int))) || (decide ((2147483647:Int)<next))) || (decide (k<(0:Int)))) || (decide ((1099511627776:Int)<k))) || (!decide (i.mdl=m.id))) || (decide (i.id<(1:Int)))) || (decide (next<i.id))))] ?_ (λk43=>?_))
      ·intro w8 M;refine yb X (fvm M 6 [5,4,3,2] [(55,.bool ((((((((decide (next<(0:Int))) || (decide ((2147483647:Int)<next))) || (decide (k<(0:Int)))) || (decide ((1099511627776:Int)<k))) || (!decide (i.mdl=m.id))) || (decide (i.id<(1:Int)))) || (decide (next<i.id))) || (!(TX i.vars m.vars))))] ?_ (λk49=>?_))
       ·intro w9 M;refine W ?_;refine AB X (λh55=>?_) (λh55=>?_)
        ·have h55p:=bd h55;refine W ?_;exact gr1 X ⟨by rw [KN,if_pos h55],M.fr⟩
        have h55p:=bd h55;refine W ?_;refine fvm M 4 [5,4,3,2] [(63,.bool ((decide ((i.st.toNat:Int)<1)) || (decide (3<(i.st.toNat:Int)))))] ?_ (λk59=>?_)
        ·intro w10 M;refine yb X (fvm M 9 [5,4,3,2] [(73,.bool (((decide ((i.st.toNat:Int)<1)) || (decide (3<(i.st.toNat:Int)))) || (!((decide ((i.st.toNat:Int)=1))==(decide (0<(i.toks.length:Int)))))))] ?_ (λk64=>?_))
         ·intro w11 M;refine W ?_;refine AB X (λh73=>?_) (λh73=>?_)
          ·have h73p:=bd h73;refine W ?_;exact gr1 X ⟨by rw [KN,AM h55,if_pos h73],M.fr⟩
          have h73p:=bd h73;refine W ?_;refine EF M [5,4,3,2] (λze zF e wr mz=>∃(q:Nat),e=(9,AA (q:Int))::ze∧zF wr∧(q≤i.toks.length)∧(SM m i next k 0 i.toks=SM m i next k q (i.toks.drop q))∧mz=i.toks.length-q) ⟨0,X,M,Ae _,X,X⟩ ?_;rintro _ w12 _ ⟨q,rfl,M,hq,hE,rfl⟩;refine W ?_;refine AB X (λh78=>?_) (λh78=>?_)
          ·have h78p:=odt h78;obtain ⟨y,hy⟩:=EP (l:=i.toks) (i:=q) A0;obtain ⟨b_y,o_y,hA_y⟩:=E3 (k:=9) A0 (hT.fr0 M.fr) hy;have oy1:=hwk _ (Ac hy);refine W ?_;refine ya X (AK q hA_y X X X (sl X) A0) (ya X (AI X X (BM Tk.len (hT.fr0 M.fr) hA_y hy) Bm X BA) (CI M X HR λg10 w13 hg10 M=>BY M 0 X X BA X λw14 M=>W ?_));refine JC ([(2,AA next),(3,AA k),(4,pg g4),(5,pg g5),(9,AA (q:Int)),(10,pg g10),(134,.bool (R6 m i next k q y))]) (λw'=>Mem w AR [As.blk g10 75 (Tk.cells y),As.blk g5 42 (In.cells i V T vc tc),As.blk g4 48 (Md.cells m a)] w') ?_ (λkr9=>?_)
           ·intro  w15 M;refine qx_seq (AB X (λh134=>?_) (λh134=>?_))
            ·refine W ?_;refine gr1 X ?_;rw [AG hy,SM,if_pos h134] at hE
             exact ⟨by rw [KN,AM h55,AM h73,hE,Fk],M.fr⟩
            refine W ?_;refine fvm M 4 [10,9,5,4,3,2] [(142,.bool ((decide (y.worker=[]))&&(!decide (y.until_=(0:Int)))))] ?_ (λk138=>?_)
            ·intro w16 M;refine yb X (fvm M 22 [9,5,4,3,2] [(165,.bool (((decide (y.worker=[]))&&(!decide (y.until_=(0:Int)))) || ((!decide (y.worker=[]))&&(((!(B6 y.worker)) || (decide (y.until_<(0:Int)))) || (decide ((k+(1048576:Int))<y.until_))))))] ?_ (λk143=>?_))
             ·intro w17 M;refine W ?_;refine AB X (λh165=>?_) (λh165=>?_)
              ·have h165p:=bd h165;refine W ?_;refine gr1 X ?_;rw [AG hy,SM,AM h134,if_pos h165] at hE
               exact ⟨by rw [KN,AM h55,AM h73,hE,Fk],M.fr⟩
              have h165p:=bd h165;refine W ?_;refine fag ⟨q+1,X,(M.pk [1,2]),?_,?_,X⟩
              ·omega
              rw [hE,AG hy,SM,AM h134,AM h165]
             refine A1 (d:=143) X (λh143=>?_) (λh143=>?_)
             ·iterate 4 refine yo X ?_
              iterate 16 refine DZ X X X X X ?_
              exact yo X (yb X (k143 M))
             refine W ?_;refine fvm M 17 [143,9,5,4,3,2] [(164,.bool ((!decide (y.worker=[]))&&(((!(B6 y.worker)) || (decide (y.until_<(0:Int)))) || (decide ((k+(1048576:Int))<y.until_)))))] ?_ (λk147=>?_)
             ·intro w18 M;exact yb X (k143 M)
             refine A1 (d:=147) X (λh147=>?_) (λh147=>?_)
             ·refine W ?_;refine JB kw X X (AD X X call34) (G7 _ _ A0) (W ?_);refine fvm M 4 [147,143,10,9,5,4,3,2] [(156,.bool ((!(B6 y.worker)) || (decide (y.until_<(0:Int)))))] ?_ (λk152=>?_)
              ·intro w19 M;refine gyq X (fvm M 6 [147,143,9,5,4,3,2] [(163,.bool (((!(B6 y.worker)) || (decide (y.until_<(0:Int)))) || (decide ((k+(1048576:Int))<y.until_))))] ?_ (λk157=>?_))
               ·intro w20 M;exact gyq X (k147 M)
               refine A1 (d:=157) X (λh157=>?_) (λh157=>?_)
               ·refine T6 ?_;exact k157 M
               refine T6 ?_;exact k157 M
              refine A1 (d:=152) X (λh152=>?_) (λh152=>?_)
              ·refine T4 ?_;exact k152 M
              refine T4 ?_;exact k152 M
             iterate 5 refine yo X ?_
             refine DZ X X X X X (DZ X X X X X (DZ X X X X X (yo X (yo X ?_))));iterate 5 refine DZ X X X X X ?_
             exact yo X (gyq X (k147 M))
            refine A1 (d:=138) X (λh138=>?_) (λh138=>?_)
            ·refine T4 ?_;exact k138 M
            refine T4 ?_;exact k138 M
           refine J2 M 49 CA λM=>oc 0 49 X X M (ol 1 49 X X X M (λ_ M=>(M.cell 0 X X)) (oa 2 49 X X M (λ_ M=>HF X X X) (oc 3 49 X X M (C8 (d:=89) X (λh89=>?_) (λh89=>?_)))))
           ·refine AO 4 49 X M (AO 5 49 X M (AO 6 49 X M (AO 7 49 X M (oc 8 49 X X M (oc 9 49 X X M (AO 10 49 X M (AO 11 49 X M (AO 12 49 X M (AO 13 49 X M (AO 14 49 X M (oc 15 49 X X M (oc 16 49 X X M (AO 17 49 X M (AO 18 49 X M (AO 19 49 X M ?_)))))))))))))));refine C7 20 49 X X M (C7 21 49 X X M (C7 22 49 X X M (C7 23 49 X X M (C7 24 49 X X M (C7 25 49 X X M (C7 26 49 X X M (C7 27 49 X X M (C7 28 49 X X M (C7 29 49 X X M (AO 30 49 X M (oc 31 49 X X M (oc 32 49 X X M (AO 33 49 X M (AO 34 49 X M (AO 35 49 X M ?_)))))))))))))));exact AO 36 49 X M (oc 37 49 X X M (oc 38 49 X X M (AO 39 49 X M (AO 40 49 X M (AO 41 49 X M (oc 42 49 X X M (oc 43 49 X X M (AO 44 49 X M (AO 45 49 X M (AO 46 49 X M (AO 47 49 X M (oc 48 49 X X M (fdn (kr9  _ _ M ⟨X,X,X,X,X,X,(by rw [R6,if_pos h89];rfl),trivial⟩))))))))))))))
           have h89p:=odf h89;refine ob 4 49 X kw X X M (λ_ M=>yp X) (ob 5 49 X kw X X M (λ_ M=>B2 X X (sc X) (M.cell 0 X X)) (ob 6 49 X kw X X M (λ_ M=>yp X) (ob 7 49 X kw X X M (λ_ M=>JR X X X) (oc 8 49 X X M (oc 9 49 X X M (C8 (d:=95) X (λh95=>?_) (λh95=>?_)))))))
           ·refine AO 10 49 X M (AO 11 49 X M (AO 12 49 X M (AO 13 49 X M (AO 14 49 X M (oc 15 49 X X M (oc 16 49 X X M (AO 17 49 X M (AO 18 49 X M (AO 19 49 X M (C7 20 49 X X M (C7 21 49 X X M (C7 22 49 X X M (C7 23 49 X X M (C7 24 49 X X M (C7 25 49 X X M ?_)))))))))))))));refine C7 26 49 X X M (C7 27 49 X X M (C7 28 49 X X M (C7 29 49 X X M (AO 30 49 X M (oc 31 49 X X M (oc 32 49 X X M (AO 33 49 X M (AO 34 49 X M (AO 35 49 X M (AO 36 49 X M (oc 37 49 X X M (oc 38 49 X X M (AO 39 49 X M (AO 40 49 X M (AO 41 49 X M ?_)))))))))))))));exact oc 42 49 X X M (oc 43 49 X X M (AO 44 49 X M (AO 45 49 X M (AO 46 49 X M (AO 47 49 X M (oc 48 49 X X M (fdn (kr9  _ _ M ⟨X,X,X,X,X,X,(by rw [R6,AM h89,if_pos h95];rfl),trivial⟩))))))))
           have h95p:=odf h95;refine ob 10 49 X kw X X M (λ_ M=>yp X) (ob 11 49 X kw X X M (λ_ M=>B2 X X (sc X) (M.cell 0 X X)) (ob 12 49 X kw X X M (λ_ M=>yp X) (ob 13 49 X kw X X M (λ_ M=>B2 X X (sc X) (M.cell 1 X X)) (ob 14 49 X kw X X M (λ_ M=>ES X X X) (oc 15 49 X X M (oc 16 49 X X M (C8 (d:=102) X (λh102=>?_) (λh102=>?_))))))))
           ·refine AO 17 49 X M (AO 18 49 X M (AO 19 49 X M (C7 20 49 X X M (C7 21 49 X X M (C7 22 49 X X M (C7 23 49 X X M (C7 24 49 X X M (C7 25 49 X X M (C7 26 49 X X M (C7 27 49 X X M (C7 28 49 X X M (C7 29 49 X X M (AO 30 49 X M (oc 31 49 X X M (oc 32 49 X X M ?_)))))))))))))));refine AO 33 49 X M (AO 34 49 X M (AO 35 49 X M (AO 36 49 X M (oc 37 49 X X M (oc 38 49 X X M (AO 39 49 X M (AO 40 49 X M (AO 41 49 X M (oc 42 49 X X M (oc 43 49 X X M (AO 44 49 X M (AO 45 49 X M (AO 46 49 X M (AO 47 49 X M (oc 48 49 X X M ?_)))))))))))))));exact fdn (kr9  _ _ M ⟨X,X,X,X,X,X,(by rw [R6,AM h89,AM h95,if_pos h102];rfl),trivial⟩)
           have h102p:=odf h102;refine ob 17 49 X kw X X M (λ_ M=>yp X) (ob 18 49 X kw X X M (λ_ M=>JR X X X) (ob 19 49 X kw X X M (λ_ M=>yp X) (C8 (d:=105) X (λh105=>?_) (λh105=>?_))))
           ·have h105p:=odt h105;refine ob 20 49 X kw X X M (λ_ M=>yp X) (ob 21 49 X kw X X M (λ_ M=>B2 X X (sc X) (M.cell 1 X X)) (ob 22 49 X kw X X M (λ_ M=>yp X) (ob 23 49 X kw X X M (λ_ M=>ER (a:=q) (b:=1) X X X A0 A0) ?_)));obtain ⟨y2,_,_,hy2,hA_y2⟩:=ex5 (i:=q-1) (hT.fr0 M.fr);have oy21:=hwk _ (Ac hy2);refine ob 24 49 X kw X X M (λ_ M=>AK (q-1) hA_y2 X X X (sl X) A0) (ob 25 49 X kw X X M (λ_ M=>yp X) ?_);have hpd:aY i q=y2.id:=by unfold aY;rw [hy2];rfl
            refine ob 26 49 X kw X X M (λ_ M=>B2 X X (sc X) (hpd▸BD Tk.len (hT.fr0 M.fr) hA_y2 hy2 0 X)) (ob 27 49 X kw X X M (λ_ M=>yp X) (ob 28 49 X kw X X M (λ_ M=>B2 X X (sc X) (M.cell 0 X X)) (ob 29 49 X kw X X M (λ_ M=>L2 X X X) (ob 30 49 X kw X X M (λ_ M=>yp X) (oc 31 49 X X M (oc 32 49 X X M (C8 (d:=118) X (λh118=>?_) (λh118=>?_))))))))
            ·refine AO 33 49 X M (AO 34 49 X M (AO 35 49 X M (AO 36 49 X M (oc 37 49 X X M (oc 38 49 X X M (AO 39 49 X M (AO 40 49 X M (AO 41 49 X M (oc 42 49 X X M (oc 43 49 X X M (AO 44 49 X M (AO 45 49 X M (AO 46 49 X M (AO 47 49 X M (oc 48 49 X X M ?_)))))))))))))));exact fdn (kr9  _ _ M ⟨X,X,X,X,X,X,(by rw [R6,AM h89,AM h95,AM h102,if_pos h105,if_pos h118];rfl),trivial⟩)
            refine ob 33 49 X kw X X M (λ_ M=>AI (xs:=Md.cells m a) X X (M.rdBlk 2 X X) Al X AN) (ob 34 49 X kw X X M (λ_ M=>AI (xs:=Tk.cells y) X X (M.rdBlk 0 X X) Bm X BA) (BC 35 (some 121) gkr X kw X X (AD X X call49) (ST m a y _ ho (hm.fr0 M.fr)) ?_));rintro _ w21 ⟨rfl,hfw21⟩;refine ⟨_,X,λ_=>M.step hfw21,?_⟩;have M:=M.step hfw21;refine ob 36 49 X kw X X M (λ_ M=>yp X) (oc 37 49 X X M (oc 38 49 X X M (C8 (d:=124) X (λh124=>?_) (λh124=>?_))))
            ·exact AO 39 49 X M (AO 40 49 X M (AO 41 49 X M (oc 42 49 X X M (oc 43 49 X X M (AO 44 49 X M (AO 45 49 X M (AO 46 49 X M (AO 47 49 X M (oc 48 49 X X M (fdn (kr9  _ _ M ⟨X,X,X,X,X,X,(by rw [R6,AM h89,AM h95,AM h102,if_pos h105,AM h118,if_pos h124];rfl),trivial⟩)))))))))))
            refine ob 39 49 X kw X X M (λ_ M=>yp X) (ob 40 49 X kw X X M (λ_ M=>B2 X X (sc X) (M.cell 0 X X)) (ob 41 49 X kw X X M (λ_ M=>HF X X X) (oc 42 49 X X M (oc 43 49 X X M (C8 (d:=129) X (λh129=>?_) (λh129=>?_))))))
            ·exact AO 44 49 X M (AO 45 49 X M (AO 46 49 X M (AO 47 49 X M (oc 48 49 X X M (fdn (kr9  _ _ M ⟨X,X,X,X,X,X,(by rw [R6,AM h89,AM h95,AM h102,if_pos h105,AM h118,AM h124,if_pos h129];rfl),trivial⟩))))))
            exact ob 44 49 X kw X X M (λ_ M=>yp X) (ob 45 49 X kw X X M (λ_ M=>B2 X X (sc X) (M.cell 0 X X)) (ob 46 49 X kw X X M (λ_ M=>yp X) (ob 47 49 X kw X X M (λ_ M=>JR X X X) (oc 48 49 X X M (fdn (kr9  _ _ M ⟨X,X,X,X,X,X,(by rw [R6,AM h89,AM h95,AM h102,if_pos h105,AM h118,AM h124,AM h129];rfl),trivial⟩))))))
           refine AO 20 49 X M (AO 21 49 X M (AO 22 49 X M (AO 23 49 X M (AO 24 49 X M (AO 25 49 X M (AO 26 49 X M (AO 27 49 X M (AO 28 49 X M (AO 29 49 X M (ob 30 49 X kw X X M (λ_ M=>yp X) (oc 31 49 X X M (oc 32 49 X X M (ob 33 49 X kw X X M (λ_ M=>AI (xs:=Md.cells m a) X X (M.rdBlk 2 X X) Al X AN) (ob 34 49 X kw X X M (λ_ M=>AI (xs:=Tk.cells y) X X (M.rdBlk 0 X X) Bm X BA) (BC 35 (some 121) gkr X kw X X (AD X X call49) (ST m a y _ ho (hm.fr0 M.fr)) ?_)))))))))))))));rintro _ w22 ⟨rfl,hfw22⟩;refine ⟨_,X,λ_=>M.step hfw22,?_⟩;have M:=M.step hfw22;refine ob 36 49 X kw X X M (λ_ M=>yp X) (oc 37 49 X X M (oc 38 49 X X M (C8 (d:=124) X (λh124=>?_) (λh124=>?_))))
           ·exact AO 39 49 X M (AO 40 49 X M (AO 41 49 X M (oc 42 49 X X M (oc 43 49 X X M (AO 44 49 X M (AO 45 49 X M (AO 46 49 X M (AO 47 49 X M (oc 48 49 X X M (fdn (kr9  _ _ M ⟨X,X,X,X,X,X,(by rw [R6,AM h89,AM h95,AM h102,AM h105,if_pos h124];rfl),trivial⟩)))))))))))
           refine ob 39 49 X kw X X M (λ_ M=>yp X) (ob 40 49 X kw X X M (λ_ M=>B2 X X (sc X) (M.cell 0 X X)) (ob 41 49 X kw X X M (λ_ M=>HF X X X) (oc 42 49 X X M (oc 43 49 X X M (C8 (d:=129) X (λh129=>?_) (λh129=>?_))))))
           ·exact AO 44 49 X M (AO 45 49 X M (AO 46 49 X M (AO 47 49 X M (oc 48 49 X X M (fdn (kr9  _ _ M ⟨X,X,X,X,X,X,(by rw [R6,AM h89,AM h95,AM h102,AM h105,AM h124,if_pos h129];rfl),trivial⟩))))))
           exact ob 44 49 X kw X X M (λ_ M=>yp X) (ob 45 49 X kw X X M (λ_ M=>B2 X X (sc X) (M.cell 0 X X)) (ob 46 49 X kw X X M (λ_ M=>yp X) (ob 47 49 X kw X X M (λ_ M=>JR X X X) (oc 48 49 X X M (fdn (kr9  _ _ M ⟨X,X,X,X,X,X,(by rw [R6,AM h89,AM h95,AM h102,AM h105,AM h124,AM h129];rfl),trivial⟩))))))
          have h78p:=odf h78;refine W ?_;obtain rfl:q=i.toks.length:=by omega
          rw [Am,SM] at hE
          refine W ?_;refine EF M [5,4] (λze zF e wr mz=>∃(p:Nat),e=(11,AA (p:Int))::ze∧zF wr∧(p≤m.els.length)∧(elL m i m.els=elL m i (m.els.drop p))∧mz=m.els.length-p) ⟨0,X,M,Ae _,X,X⟩ ?_;rintro _ w23 _ ⟨p,rfl,M,hp,hF,rfl⟩;refine W ?_;refine AB X (λh170=>?_) (λh170=>?_)
          ·have h170p:=odt h170;obtain ⟨x,_,_,hx,hA_x⟩:=ex5 (i:=p) (M.rd hm.els);have ox:=ho.els _ (Ac hx);have ox1:=ox.id;have ox2:=ox.nm;have ox3:=ox.ref;have ox4:=ox.key;refine W ?_;refine ya X (AK p hA_x X X X (sl X) A0) (yb X (yl X X (BD El.len (M.rd hm.els) hA_x hx 2 X) (W ?_)));refine AB X (λh179=>?_) (λh179=>?_)
           ·have h179p:=(odf (CJ h179));refine W ?_;refine fag ⟨p+1,X,M,?_,?_,X⟩
            ·omega
            rw [hF,AG hx,elL,if_pos h179]
           have h179p:=(odt (BO h179));refine W ?_;refine EB 7 CA gkr ?_;have M:=M.drew;refine sa X (AI (xs:=Md.cells m a) X X (M.rdBlk 1 X X) Al X AN) (W ?_);refine sa X (AK p hA_x X X X (sl X) A0) (sb X (sd X X (BD El.len (M.rd hm.els) hA_x hx 0 X) (D6 (MF M 187 X (AD X X call50) (aU m a _ _ ho (hm.fr0 M.fr)) λA187 c187 w24 M=>?_))));have hL187:=M.ownLen 0 X;refine W ?_;have hil:=ZG m.fls x.id;refine EF M [12,11,5,4] (λze zF e wr mz=>∃(n:Nat) (b:Bool),e=(13,.bool b)::(14,AA (n:Int))::ze∧zF wr∧(n≤(D2 m.fls x.id).length)∧(b=((D2 m.fls x.id).take n).all (λf=>i.toks.any (λt=>decide (t.on=f))))∧mz=(D2 m.fls x.id).length-n) ⟨0,true,X,M,Ae _,X,X⟩ ?_;rintro _ w25 _ ⟨n,b,rfl,M,hn,hb,rfl⟩;refine W ?_;refine AB X (λh191=>?_) (λh191=>?_)
           ·have h191p:=odt h191;obtain ⟨z,_,_,hz,hA_z⟩:=ex5 (l:=D2 m.fls x.id) (k:=1) (i:=n) (M.rdOwn 0 X);refine W ?_;refine EF M [14,13,12,11,5,4] (λze zF e wr mz=>∃(j:Nat) (b2:Bool),e=(15,.bool b2)::(16,AA (j:Int))::ze∧zF wr∧(j≤i.toks.length)∧(b2=(i.toks.take j).any (λt=>decide (t.on=z)))∧mz=i.toks.length-j) ⟨0,false,X,M,Ae _,X,X⟩ ?_;rintro _ w26 _ ⟨j,b2,rfl,M,hj,hb2,rfl⟩;refine W ?_;refine AB X (λh198=>?_) (λh198=>?_)
            ·have h198p:=odt h198;obtain ⟨y,_,_,hy,hA_y⟩:=ex5 (i:=j) (hT.fr0 M.fr);have oy1:=hwk _ (Ac hy);refine W ?_;refine CS CA gkr ?_;have M:=M.drew;refine W ?_;refine fvs 12 [16,15,14,13,12,11,5,4] [(214,.bool (b2 || (decide (y.on=z))))] ?_ (λk202=>?_)
             ·refine W ?_;refine fag ⟨j+1,(b2 || (decide (y.on=z))),X,M,?_,?_,X⟩
              ·omega
              rw [hb2,AS hy,SG]
             refine C1 (d:=202) X (λh202=>?_) (λh202=>?_)
             ·refine T12 ?_;exact k202 _ ⟨X,X,X,X,X,X,X,X,(by rw [h202];rfl),trivial⟩
             refine W ?_;refine gsg X (AK j hA_y X X X (sl X) A0) (gsg X (yp X) (gsg X (B2 X X (sc X) (BD Tk.len (hT.fr0 M.fr) hA_y hy 2 X)) (W ?_)));refine gsg X (AK n hA_z X X X (sl X) A0) (gsg X (B2 X X (sc X) (BD DI (M.rdOwn 0 X) hA_z hz 0 X)) (T2 ?_));exact k202 _ ⟨X,X,X,X,X,X,X,X,(by rw [h202];rfl),trivial⟩
            have h198p:=odf h198;refine W ?_;have hjE:j=i.toks.length:=by omega
            rw [hjE,Ba] at hb2
            subst hb2;refine W ?_;refine fvm M 2 [14,13,12,11,5,4] [(218,.bool (b&&(i.toks.any (λt=>decide (t.on=z)))))] ?_ (λk216=>?_)
            ·intro w27 M;refine W ?_;refine fag ⟨n+1,(b&&(i.toks.any (λt=>decide (t.on=z)))),X,M,?_,?_,X⟩
             ·omega
             rw [hb,AS hz,IH]
            refine A1 (d:=216) X (λh216=>?_) (λh216=>?_)
            ·refine T2 ?_;exact k216 M
            refine T2 ?_;exact k216 M
           have h191p:=odf h191;refine W ?_;have hnE:n=(D2 m.fls x.id).length:=by omega
           rw [hnE,Ba] at hb
           subst hb;refine W ?_;refine AB X (λh219=>?_) (λh219=>?_)
           ·refine W ?_;refine gr1 X ?_;rw [AG hx,elL,AM h179,if_pos h219] at hF
            exact ⟨by rw [KN,AM h55,AM h73,hE,hF,Ed],M.fr⟩
           refine W ?_;refine fag ⟨p+1,X,(M.pk [1,2]),?_,?_,X⟩
           ·omega
           rw [hF,AG hx,elL,AM h179,AM h219]
          have h170p:=odf h170;refine W ?_;obtain rfl:p=m.els.length:=by omega
          rw [Am,elL] at hF
          refine W ?_;exact gr1 X ⟨by rw [KN,AM h55,AM h73,hE,hF];rfl,M.fr⟩
         refine A1 (d:=64) X (λh64=>?_) (λh64=>?_)
         ·refine T9 ?_;exact k64 M
         refine W ?_;exact yd X (SH X X X Ei) (yb X (k64 M))
        refine A1 (d:=59) X (λh59=>?_) (λh59=>?_)
        ·refine T4 ?_;exact k59 M
        refine T4 ?_;exact k59 M
       refine A1 (d:=49) X (λh49=>?_) (λh49=>?_)
       ·refine T6 ?_;exact k49 M
       refine yd X (AI (xs:=Md.cells m a) X X (M.rdBlk 1 X X) Al X AN) (W ?_);refine sxl_call (some 53) kw X X (AD X X call48) (rS m a i.vars _ _ _ ho (hm.fr0 M.fr) hbd (hV.fr0 M.fr)) ?_;rintro _ w28 ⟨rfl,hfw28⟩;refine cq ?_;have M:=M.step hfw28;refine T2 ?_;exact k49 M
      refine A1 (d:=43) X (λh43=>?_) (λh43=>?_)
      ·refine T5 ?_;exact k43 M
      refine T5 ?_;exact k43 M
     refine A1 (d:=38) X (λh38=>?_) (λh38=>?_)
     ·refine T4 ?_;exact k38 M
     refine T4 ?_;exact k38 M
    refine A1 (d:=31) X (λh31=>?_) (λh31=>?_)
    ·refine T6 ?_;exact k31 M
    refine T6 ?_;exact k31 M
   refine A1 (d:=27) X (λh27=>?_) (λh27=>?_)
   ·refine T3 ?_;exact k27 M
   refine T3 ?_;exact k27 M
  refine A1 (d:=23) X (λh23=>?_) (λh23=>?_)
  ·refine T3 ?_;exact k23 M
  refine T3 ?_;exact k23 M
 refine A1 (d:=19) X (λh19=>?_) (λh19=>?_)
 ·refine T3 ?_;exact k19 M
 refine T3 ?_;exact k19 M
def j5 (m:Md):Bool:=decide ((PL m).2.2=(0:Int))
theorem xW (m:Md) (a:MdA) (w:Kw) (ho:MdB m) (hm:MdIn w m a) :
 Calls prog 21 #[.agg (Md.cells m a).toArray] w (BS w (.bool (j5 m))):=by
 refine BR func21 ntmps21 X λM=>W ?_
 refine CO M X X λg1 w1 hg1 M=>W ?_
 refine CH M 0 X X Al AN X (CW M 8 X X call47 (dS m a _ ho.b (hm.fr0 M.fr)) λw2 M=>W ?_);exact gr1 X ⟨X,M.fr⟩
end Go.Proofs.YtppmdnmjepkfaaaGreatDoor
