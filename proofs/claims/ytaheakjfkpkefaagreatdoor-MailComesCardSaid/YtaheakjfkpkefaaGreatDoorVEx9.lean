/- Lemmas. -/
import Derived.Test.YtaheakjfkpkefaaGreatDoorVEx8
set_option maxHeartbeats 16000000
set_option maxRecDepth 100000
namespace Go.Proofs.YtaheakjfkpkefaaGreatDoor
open Go.RowKit
open Tryz
abbrev Xq := Xn × Option Addr
def Xq.cells (q:Xq):List Value:=q.1.cells q.2
theorem Xq.len (q:Xq):q.cells.length=7:=rfl
def NX (n:Xn) (A:Option Addr) (k:Nat):List Value:=[.int .u8 (n.op.toNat:Int),.int .u8 (n.vl.kind.toNat:Int),.int .i64 n.vl.int,.bool n.vl.bool,str n.vl.text,str n.nm,.slice A k k]
theorem KO {z:UInt8} {l:List UInt8} (h:l[0]?=some z):l.headD 0=z:=by cases l<;>simp_all
def OX (f:Xq→UInt8 × Int):List Xq→Option Int
 | []=>none
 | q::r=>if (!decide ((f q).2=0))=true then some (f q).2 else OX f r
def aF (op:UInt8) (ts:List UInt8) (z:UInt8):UInt8 × Int:=
 if (ts.any (λt => !decide ((t.toNat:Int)=(z.toNat:Int))))=true then (0,90)
 else if ((decide ((op.toNat:Int)=(7:Int))) || (decide ((op.toNat:Int)=(8:Int))))=true then (2,0)
 else if ((((decide ((op.toNat:Int)=(3:Int))) || (decide ((op.toNat:Int)=(5:Int)))) || (decide ((op.toNat:Int)=(6:Int))))&&(decide ((z.toNat:Int)=(2:Int))))=true then (z,0)
 else if (((decide ((9:Int)≤(op.toNat:Int)))&&(decide ((op.toNat:Int)≤(12:Int))))&&(!decide ((z.toNat:Int)=(2:Int))))=true then (2,0)
 else if ((((decide ((op.toNat:Int)=(4:Int))) || (decide ((13:Int)≤(op.toNat:Int))))&&(decide ((z.toNat:Int)=(1:Int)))) || ((decide ((op.toNat:Int)=(13:Int)))&&(decide ((z.toNat:Int)=(3:Int)))))=true then (z,0)
 else (0,90)
def R1 (op:UInt8) (ts:List UInt8):UInt8 × Int:=aF op ts (ts.headD 0)
def tyW (n:Xn) (vars:List Bd) (f:Xq→UInt8 × Int) (L:List Xq):UInt8 × Int:=
 if (decide ((n.op.toNat:Int)=(1:Int)))=true then (n.vl.kind,0)
 else if (decide ((n.op.toNat:Int)=(2:Int)))=true then (match ffN (λ(_:Nat) (b:Bd) => !(decide (b.name=n.nm))) 0 vars with
  | none=>(0,100)
  | some b=>(b.v.kind,0))
 else match OX f L with
  | some e=>(0,e)
  | none=>R1 n.op (L.map (λq=>(f q).1))
theorem bI : (prog.info? 5).map (λi=>(i.zero,i.size,i.bytes))=some (some (.int .u8 0),1,1):=by kernel_rfl
theorem iJ : (prog.info? 5).map (λi=>(i.zero,i.size))=some (some (.int .u8 0),1):=by kernel_rfl
theorem KE : (prog.info? 5).map (·.size)=some 1:=by kernel_rfl
theorem jL : (prog.info? 5).map (·.zero)=some (some (.int .u8 0)):=by kernel_rfl
theorem tJ (A:Option Addr) (c:Nat) (l:List UInt8) (hl:l.length≤4611686018427387904) (f:FuncId) (cs:List Value) (p:Nat→UInt8→Bool) (S:Nat→Prop) (J:Nat→World→Prop) (w:World) (hP:PredJ prog f cs (λb=>.int .u8 (b.toNat:Int)) l p S J w) (hR:∀w1,Fr S w w1→Rd w1 A (l.length*1) (AD U9 l)) (hJ:J 0 w) :
 Calls prog 235 #[.slice A l.length c,.func (.func f) #[] cs.toArray] w λe w'=>e=.returned (AC (ixJ p 0 l))∧J (ixN p 0 l) w'∧Fr S w w':=by
 refine sx_enter (vs:=[_,_]) func235 X ntmps235 X ?_;have M:Mem w S [] w:=Mem.nil w;refine srg (AJ X (sx_seq (AE X (DF X X (AJ X (sx_block (JJ M [7,1,0] (λze zF e wr mz=>∃(i:Nat),e=(8,AC (i:Int))::ze∧zF wr∧(i≤l.length)∧(J i wr)∧(ixJ p 0 l=ixJ p i (l.drop i))∧(ixN p 0 l=ixN p i (l.drop i))∧mz=l.length-i) ⟨0,X,M,Nat.zero_le _,hJ,X,X,X⟩ ?_)))))));rintro _ w1 _ ⟨i,rfl,M,hi,hJ,hr,hn,rfl⟩;refine srg (BB X X (nq (sx_seq (AF X (λh9=>?_) (λh9=>?_)))))
 ·have h9p:=(odt h9);refine sx_skip (qx_seq (sx_seq (sx_block (AE X (AJ X (AE X (AV X X ?_)))))));obtain ⟨x,hx⟩:=BM (l:=l) (i:=i) AA;obtain ⟨b_x,o_x,hA_x⟩:=B5 (k:=1) AA (hR _ M.fr) hx;refine ya X (AN i hA_x X X X (sl X) AA) (yl X X (D9 VS (hR _ M.fr) hA_x hx 0 X) (cl 16 X (BJ X X X hP.fn) (hP.call i x _ hx M.fr hJ) ?_));rintro _ w9 ⟨rfl,hJ,hf9⟩;refine ⟨_,X,?_⟩;have M:Mem w S [] w9:=Mem.ofFr (M.fr.trans hf9);refine nq (AF X (λh16=>?_) (λh16=>?_))
  ·exact AE X (yb X (gnr (qx_block_ret (qx_then_ret (qx_then_ret (qx_block_ret (qx_then_ret (gr1 X ⟨by rw [hr,AZ hx,ixJ,if_pos h16],by rw [hn,AZ hx,ixN,if_pos h16];exact hJ,M.fr⟩))))))))
  ·refine sx_skip (qx_block_normal (qx_seq (sx_region (BV X X (yb X (sxl_nil (fag ⟨i+1,X,M,?_,?_,?_,?_,X⟩)))))))
   ·omega
   ·exact hJ
   ·rw [hr,AZ hx,ixJ,AM h16]
   ·rw [hn,AZ hx,ixN,AM h16]
 ·have h9p:=(odf h9);refine sx_exit (qx_then_exit (qx_then_exit (qx_block_hit (qx_seq (AE X (gnr (gr1 X ?_)))))));obtain rfl:i=l.length:=by omega
  exact ⟨by rw [hr,List.drop_length];rfl,by rw [hn,List.drop_length];exact hJ,M.fr⟩
theorem oO (A:Option Addr) (c:Nat) (l:List UInt8) (hl:l.length≤4611686018427387904) (f:FuncId) (cs:List Value) (p:Nat→UInt8→Bool) (S:Nat→Prop) (J:Nat→World→Prop) (w:World) (hP:PredJ prog f cs (λb=>.int .u8 (b.toNat:Int)) l p S J w) (hR:∀w1,Fr S w w1→Rd w1 A (l.length*1) (AD U9 l)) (hJ:J 0 w) :
 Calls prog 209 #[.slice A l.length c,.func (.func f) #[] cs.toArray] w λe w'=>e=.returned (.bool (decide (0≤ixJ p 0 l)))∧J (ixN p 0 l) w'∧Fr S w w':=by
 refine sx_enter (vs:=[_,_]) func209 X ntmps209 X ?_;have M:Mem w S [] w:=Mem.nil w;refine srg (AJ X (AE X (yb X (cl 7 X (AG X X call235) (tJ A c l hl f cs p S J _ hP hR hJ) ?_))));rintro _ w9 ⟨rfl,hJ,hf9⟩;refine ⟨_,X,?_⟩;have M:Mem w S [] w9:=Mem.ofFr hf9;exact JU X X (yb X (gnr (gr1 X ⟨X,hJ,M.fr⟩)))
theorem uF (A:Option Addr) (c:Nat) (l:List UInt8) (hl:l.length≤4611686018427387904) (f:FuncId) (cs:List Value) (p:UInt8→Bool) (w:World) (hP:PredJ prog f cs (λb=>.int .u8 (b.toNat:Int)) l (λ_=>p) AR (λ_ _=>True) w) (hR:Rd w A (l.length*1) (AD U9 l)) :
 Calls prog 209 #[.slice A l.length c,.func (.func f) #[] cs.toArray] w (BI w (.bool (l.any p))):=
 (oO A c l hl f cs (λ_=>p) AR (λ_ _=>True) w hP (λ_ hf=>hR.fr0 hf) trivial).mono λ_ _ ⟨h1,_,h2⟩=>⟨by rw [h1,JT],h2⟩
theorem vL (n:Xn) (A:Option Addr) (k g2:Nat) (b:Bd) (w:World) (hb:Blk w g2 112 (NX n A k)) :
 Calls prog 208 #[.agg b.cells.toArray,pg g2] w (BI w (.bool (decide (b.name=n.nm)))):=by
 refine BH func208 ntmps208 X λM=>srg (CC M X X λg2 w1 hg2 M=>AJ X (AE X (AU M 0 X X X (yb X (yl X X (Blk.c (hb.fr0 M.fr) 5 X) (ya X (CX X X X) (yb X ?_)))))))
 exact gnr (gr1 X ⟨X,M.fr⟩)
theorem vK (g12:Nat) (t z:UInt8) (w:World) (hb:Blk w g12 5 [.int .u8 (z.toNat:Int)]) :
 Calls prog 210 #[.int .u8 (t.toNat:Int),pg g12] w (BI w (.bool (!decide ((t.toNat:Int)=(z.toNat:Int))))):=by
 refine BH func210 ntmps210 X λM=>srg (AJ X (AE X (yl X X (Blk.c (hb.fr0 M.fr) 0 X) (CT X X (yb X (gnr (gr1 X ?_)))))))
 exact ⟨X,M.fr⟩
theorem kD (n:Xn) (A:Option Addr) (V:Option Addr) (cv:Nat) (vars:List Bd) (L:List Xq) (f:Xq→UInt8 × Int) (w:World) (hvl:vars.length≤4611686018427387904) (hV:Rd w V (vars.length*5) (AD Bd.cells vars)) (hl:L.length≤2) (hR:Rd w A (L.length*7) (AD Xq.cells L)) (hk:¬(n.op.toNat:Int)=1→¬(n.op.toNat:Int)=2→0<L.length)
 (hT:∀q∈L,∀W,Fr0 w W→Calls prog 191 #[.agg (Xq.cells q).toArray,.slice V vars.length cv] W λe W'=>e=.returned (.tuple #[.int .u8 ((f q).1.toNat:Int),AC (f q).2])∧Fr0 W W') :
 Calls prog 191 #[.agg (NX n A L.length).toArray,.slice V vars.length cv] w (BI w (.tuple #[.int .u8 ((tyW n vars f L).1.toNat:Int),AC (tyW n vars f L).2])):=by
 refine BH func191 ntmps191 X λM=>srg (D6 M (wn_none X) X X 112 X X (NX n A L.length) X λg2 w1 hg2 M=>yb X (AJ X (sx_seq (AE X (AU M 0 X X X (nq ?_))))))
 refine sx_block (srg (BZ X X (AJ X (AF X (λh15=>?_) (λh15=>?_)))))
 ·exact AE X (yb X (AU M 0 X X X (AV X X (gnr (qx_block_ret (qx_then_ret (C4 X X X ⟨by rw [tyW,if_pos h15],M.fr⟩)))))))
 ·have h15p:=(odf h15);refine srg (BZ X X (AJ X (AF X (λh20=>?_) (λh20=>?_))))
  ·have h20p:=(odt h20);refine AE X (ya X (CP (us:=[]) (vs:=[pg g2]) X X X) (cl 24 X (AG X X call159) (RW Bd.cells Bd.len V cv vars AA 208 [pg g2] (λ(_:Nat) (b:Bd) => !(!(decide (b.name=n.nm)))) AR (λ_ _=>True) _ (G5 call208 (λb _ w9 hf9=>(vL n A L.length g2 b w9 ((M.blk 0 X).fr0 hf9)).mono λ_ _ ⟨h1,h2⟩=>⟨by rw [h1,Bool.not_not],h2⟩)) (λ_ hf9=>(hV.fr0 M.fr).fr0 hf9) trivial) ?_));rintro _ w2 ⟨rfl,_,hfw2⟩;refine ⟨_,X,?_⟩;have M:=M.step hfw2;refine AJ X (sx_seq (AE X (BB X X (nq (AF X (λh26=>?_) (λh26=>?_))))))
   ·have h26p:=(odt h26);have hvn:=OI (p:=λ(_:Nat) (b:Bd) => !(decide (b.name=n.nm))) h26p;exact AE X (yb X (gnr (qx_then_ret (qx_block_ret (qx_then_ret (C4 X X X ⟨by rw [tyW,AM h15,if_pos h20,hvn]<;>rfl,M.fr⟩))))))
   ·have h26p:=(odf h26);obtain ⟨j,b,hj,hb,hff⟩:=OJ (p:=λ(_:Nat) (b:Bd) => !(decide (b.name=n.nm))) h26p;have hjl:j<vars.length:=(List.getElem?_eq_some_iff.1 hb).1;rw [hj];obtain ⟨b_b,o_b,hA_b⟩:=B5 (k:=5) AA (hV.fr0 M.fr) hb;refine sx_skip (qx_seq (AE X (yb X (ya X (AN j hA_b X X X (sl X) AA) (AV X X (yl X X (D9 Bd.len (hV.fr0 M.fr) hA_b hb 1 X) (AV X X (gnr (qx_block_ret ?_)))))))));exact qx_then_ret (C4 X X X ⟨by rw [tyW,AM h15,if_pos h20,hff]<;>rfl,M.fr⟩)
  ·have h20p:=(odf h20);refine sx_skip (qx_block_normal (qx_seq (srg (AJ X (sx_seq (AE X (AU M 0 X X X (DF X X (yb X (sxl_nil ?_))))))))));refine qx_seq (sx_block ?_);have M:=M.nilOwn 5 1;refine flp [35,34,2,1] (λze e wr mz=>∃(i:Nat) (acc:List UInt8) (A7:Option Addr) (c7:Nat),e=(7,.slice A7 acc.length c7)::(36,AC (i:Int))::ze∧Mem w AR [As.own w.heap.size 5 1 (.slice A7 acc.length c7) acc.length (AD U9 acc),As.blk g2 112 (NX n A L.length)] wr∧(i≤L.length)∧(acc=(L.take i).map (λq=>(f q).1)∧acc.length=i)∧(OX f L=OX f (L.drop i))∧mz=L.length-i) ⟨0,[],none,0,X,M,Nat.zero_le _,⟨X,X⟩,X,X⟩ ?_;rintro _ w3 _ ⟨i,acc,A7,c7,rfl,M,hi,hacc,hE,rfl⟩;refine srg (BB X X (nq (sx_seq (AF X (λh37=>?_) (λh37=>?_)))))
   ·have h37p:=(odt h37);refine sx_skip (qx_seq (sx_seq (sx_block (srg ?_))));obtain ⟨x,hx⟩:=BM (l:=L) (i:=i) AA;obtain ⟨b_x,o_x,hA_x⟩:=B5 (k:=7) AA (hR.fr0 M.fr) hx;refine ya X (AN i hA_x X X X (sl X) AA) (ya X (AK X X (B6 Xq.len (hR.fr0 M.fr) hA_x hx) underlying112 X AO) (CI M X CW λg9 w4 hg9 M=>BD M 0 X X AO X λw5 M=>EV (CB M 0 X X underlying112 AO X (yb X (CD M 43 X X call191 (hT x (List.mem_of_getElem? hx) _ M.fr) λw6 M=>?_)))));iterate 5 refine yb X ?_
    refine nq (sx_seq (AE X (CT X X (nq (AF X (λh47=>?_) (λh47=>?_))))))
    ·exact AE X (AV X X (gnr (qx_then_ret (qx_block_ret (qx_then_ret (qx_then_ret (qx_block_ret (qx_then_ret (C4 X X X ⟨by rw [tyW,AM h15,AM h20,hE,AZ hx,OX,if_pos h47]<;>rfl,M.fr⟩)))))))))
    ·have h47p:=(odt (BL h47));refine sx_skip (qx_seq (sx_region (AV X X (CN M (wn_none X) X X [.int .u8 ((f x).1.toNat:Int)] ([.int .u8 ((f x).1.toNat:Int)]) X X X X underlying244 iJ X X (FP X) X λg51 w7 hg51 M=>DE (len':=(acc++[((f x).1)]).length) (xs':=AD U9 (acc++[((f x).1)])) M 2 (wn_none X) X X X X X X (M.rdBlk 0 X X) underlying244 bI X B3 (CL X) (Nat.le_refl _) (Nat.le_refl _) C2 (by unfold maxLen;first|omega|(simp only [List.length_append,List.length_cons,List.length_nil];omega)) (by simp) (by simp [AD,U9]) λA52 c52 w8 M=>yb X (sxl_nil (qx_block_normal (qx_seq (sx_region (BV X X (yb X ?_))))))))));refine sxl_nil (fag ⟨i+1,acc++[((f x).1)],A52,c52,X,(M.pk [2,3]),?_,?_,?_,X⟩)
     ·omega
     ·exact ⟨by rw [hacc.1,AP hx,List.map_append];rfl,by rw [List.length_append,hacc.2];rfl⟩
     ·rw [hE,AZ hx,OX,AM h47]
   ·have h37p:=(odf h37);refine sx_exit (qx_then_exit (qx_then_exit ?_));have hiE:i=L.length:=by omega
    have hLe:OX f L=none:=by rw [hE,hiE,List.drop_length];rfl
    have hac:acc=L.map (λq=>(f q).1):=by rw [hacc.1,hiE,List.take_length]
    have hal:acc.length=L.length:=by rw [hacc.2,hiE]
    have hLp:0<L.length:=hk h15p h20p;refine qx_block_hit (qx_seq (AE X ?_));obtain ⟨z,hz⟩:=BM (l:=acc) (i:=0) AA;obtain ⟨b_z,o_z,hA_z⟩:=B5 (k:=1) AA (M.rdOwn 0 X) hz;refine ya X (AN 0 hA_z X X X (sl X) AA) (yl X X (D9 VS (M.rdOwn 0 X) hA_z hz 0 X) (EI M (wn_none X) X X 5 X [.int .u8 0] jL X λg12 w9 hg12 M=>gp1 M 0 X X X KE λw10 M=>nq (sx_seq (AE X (ya X (CP (us:=[]) (vs:=[pg g12]) X X X) (CD M 59 X X call209 (uF A7 c7 acc AA 210 [pg g12] (λt => !decide ((t.toNat:Int)=(z.toNat:Int))) _ (G5 call210 (λt _ w9 hf9=>vK g12 t z w9 ((M.blk 0 X).fr0 hf9))) (M.rdOwn 1 X)) λw11 M=>nq ?_))))));refine AF X (λh59=>?_) (λh59=>?_)
    ·exact AE X (yb X (gnr (qx_then_ret (C4 X X X ⟨by rw [tyW,AM h15,AM h20,hLe];simp only;rw [←hac,R1,KO hz,aF,if_pos h59]<;>rfl,M.fr⟩))))
    ·refine sx_skip (qx_seq (sx_seq (sx_block (AE X (AU M 2 X X X (BZ X X (yb X (fvm M 4 [12,2] [(68,.bool ((decide ((n.op.toNat:Int)=7)) || (decide ((n.op.toNat:Int)=8))))] ?_ (λk64=>?_)))))))))
     ·intro w12 M;refine AJ X (AF X (λh60=>?_) (λh60=>?_))
      ·have h60p:=((E1 h60).imp (λz=>(odt z)) (λz=>(odt z)));exact AE X (yb X (gnr (qx_block_ret (qx_then_ret (C4 X X X ⟨by rw [tyW,AM h15,AM h20,hLe];simp only;rw [←hac,R1,KO hz,aF,AM h59,if_pos h60]<;>rfl,M.fr⟩)))))
      ·refine AE X (AU M 2 X X X (BZ X X (yb X (fvm M 4 [12,2] [(77,.bool ((decide ((n.op.toNat:Int)=3)) || (decide ((n.op.toNat:Int)=5))))] ?_ (λk73=>?_)))))
       ·intro w13 M;refine yb X (fvm M 4 [12,2] [(82,.bool (((decide ((n.op.toNat:Int)=3)) || (decide ((n.op.toNat:Int)=5))) || (decide ((n.op.toNat:Int)=6))))] ?_ (λk78=>?_))
        ·intro w14 M;refine yb X (fvm M 3 [12,2] [(86,.bool ((((decide ((n.op.toNat:Int)=3)) || (decide ((n.op.toNat:Int)=5))) || (decide ((n.op.toNat:Int)=6)))&&(decide ((z.toNat:Int)=2))))] ?_ (λk83=>?_))
         ·intro w15 M;refine AJ X (AF X (λh69=>?_) (λh69=>?_))
          ·have h69p:=(And.intro ((E1 (BR h69).1).imp (λz=>((E1 z).imp (λz=>(odt z)) (λz=>(odt z)))) (λz=>(odt z))) (odt (BR h69).2));exact srg (AU M 0 X X X (AV X X (gnr (qx_block_ret (qx_then_ret (C4 X X X ⟨by rw [tyW,AM h15,AM h20,hLe];simp only;rw [←hac,R1,KO hz,aF,AM h59,AM h60,if_pos h69]<;>rfl,M.fr⟩))))))
          ·have h69p:=((CV h69).imp (λz=>(And.intro (And.intro (odf (C6 (C6 z).1).1) (odf (C6 (C6 z).1).2)) (odf (C6 z).2))) (λz=>(odf z)));refine AE X (AU M 2 X X X (JU X X (yb X (fvm M 4 [12,2] [(96,.bool ((decide (9≤(n.op.toNat:Int)))&&(decide ((n.op.toNat:Int)≤12))))] ?_ (λk92=>?_)))))
           ·intro w16 M;refine yb X (fvm M 3 [12,2] [(100,.bool (((decide (9≤(n.op.toNat:Int)))&&(decide ((n.op.toNat:Int)≤12)))&&(!decide ((z.toNat:Int)=2))))] ?_ (λk97=>?_))
            ·intro w17 M;refine AJ X (AF X (λh88=>?_) (λh88=>?_))
             ·exact AE X (yb X (gnr (qx_block_ret (qx_then_ret (C4 X X X ⟨by rw [tyW,AM h15,AM h20,hLe];simp only;rw [←hac,R1,KO hz,aF,AM h59,AM h60,AM h69,if_pos h88]<;>rfl,M.fr⟩)))))
             ·have h88p:=((CV h88).imp (λz=>((CV z).imp (λz=>(odf z)) (λz=>(odf z)))) (λz=>(odt (BL z))));refine AE X (AU M 2 X X X (BZ X X (yb X (fvm M 4 [12,2] [(109,.bool ((decide ((n.op.toNat:Int)=4)) || (decide (13≤(n.op.toNat:Int)))))] ?_ (λk105=>?_)))))
              ·intro w18 M;refine yb X (fvm M 3 [12,2] [(113,.bool (((decide ((n.op.toNat:Int)=4)) || (decide (13≤(n.op.toNat:Int))))&&(decide ((z.toNat:Int)=1))))] ?_ (λk110=>?_))
               ·intro w19 M;refine yb X (fvm M 8 [12] [(122,.bool ((((decide ((n.op.toNat:Int)=4)) || (decide (13≤(n.op.toNat:Int))))&&(decide ((z.toNat:Int)=1))) || ((decide ((n.op.toNat:Int)=13))&&(decide ((z.toNat:Int)=3)))))] ?_ (λk114=>?_))
                ·intro w20 M;refine AJ X (AF X (λh101=>?_) (λh101=>?_))
                 ·have h101p:=((E1 h101).imp (λz=>(And.intro ((E1 (BR z).1).imp (λz=>(odt z)) (λz=>(odt z))) (odt (BR z).2))) (λz=>(And.intro (odt (BR z).1) (odt (BR z).2))));exact srg (AU M 0 X X X (AV X X (gnr (qx_block_ret (qx_then_ret (C4 X X X ⟨by rw [tyW,AM h15,AM h20,hLe];simp only;rw [←hac,R1,KO hz,aF,AM h59,AM h60,AM h69,AM h88,if_pos h101]<;>rfl,M.fr⟩))))))
                 ·have h101p:=(And.intro ((CV (C6 h101).1).imp (λz=>(And.intro (odf (C6 z).1) (odf (C6 z).2))) (λz=>(odf z))) ((CV (C6 h101).2).imp (λz=>(odf z)) (λz=>(odf z))));exact sx_skip (qx_block_normal (qx_seq (AE X (yb X (gnr (C4 X X X ⟨by rw [tyW,AM h15,AM h20,hLe];simp only;rw [←hac,R1,KO hz,aF,AM h59,AM h60,AM h69,AM h88,AM h101]<;>rfl,M.fr⟩))))))
                refine AI (d:=114) X (λh114=>?_) (λh114=>?_)
                ·iterate 4 refine yo X ?_
                 exact BY X X X X X (BY X X X X X (yo X (yb X (k114 M ⟨X,(by rw [h114];rfl),trivial⟩))))
                ·refine gyq X (CE M 2 X X X (yd X (C9 X X X) (gyq X (fvm M 3 [114,12] [(121,.bool ((decide ((n.op.toNat:Int)=13))&&(decide ((z.toNat:Int)=3))))] ?_ (λk118=>?_)))))
                 ·intro w21 M;exact yb X (k114 M ⟨X,(by rw [h114];rfl),trivial⟩)
                 refine AI (d:=118) X (λh118=>?_) (λh118=>?_)
                 ·exact CE M 0 X X X (yd X (C9 X X X) (gyq X (k118 M ⟨X,X,(by rw [h118];rfl),trivial⟩)))
                 ·exact yo X (yo X (gyq X (k118 M ⟨X,X,(by rw [h118];rfl),trivial⟩)))
               refine AI (d:=110) X (λh110=>?_) (λh110=>?_)
               ·exact CE M 0 X X X (yd X (C9 X X X) (yb X (k110 M ⟨X,X,(by rw [h110];rfl),trivial⟩)))
               ·exact yo X (yo X (yb X (k110 M ⟨X,X,(by rw [h110];rfl),trivial⟩)))
              refine AI (d:=105) X (λh105=>?_) (λh105=>?_)
              ·exact yo X (yo X (yo X (yb X (k105 M ⟨X,X,(by rw [h105];rfl),trivial⟩))))
              ·exact gyq X (CE M 2 X X X (yd X (GV X X X) (yb X (k105 M ⟨X,X,(by rw [h105];rfl),trivial⟩))))
            refine AI (d:=97) X (λh97=>?_) (λh97=>?_)
            ·exact CE M 0 X X X (yd X (DX X X X) (yb X (k97 M ⟨X,X,(by rw [h97];rfl),trivial⟩)))
            ·exact yo X (yo X (yb X (k97 M ⟨X,X,(by rw [h97];rfl),trivial⟩)))
           refine AI (d:=92) X (λh92=>?_) (λh92=>?_)
           ·exact gyq X (CE M 2 X X X (yd X (GH X X X) (yb X (k92 M ⟨X,X,(by rw [h92];rfl),trivial⟩))))
           ·exact yo X (yo X (yo X (yb X (k92 M ⟨X,X,(by rw [h92];rfl),trivial⟩))))
         refine AI (d:=83) X (λh83=>?_) (λh83=>?_)
         ·exact CE M 0 X X X (yd X (C9 X X X) (yb X (k83 M ⟨X,X,(by rw [h83];rfl),trivial⟩)))
         ·exact yo X (yo X (yb X (k83 M ⟨X,X,(by rw [h83];rfl),trivial⟩)))
        refine AI (d:=78) X (λh78=>?_) (λh78=>?_)
        ·exact yo X (yo X (yo X (yb X (k78 M ⟨X,X,(by rw [h78];rfl),trivial⟩))))
        ·exact gyq X (CE M 2 X X X (yd X (C9 X X X) (yb X (k78 M ⟨X,X,(by rw [h78];rfl),trivial⟩))))
       refine AI (d:=73) X (λh73=>?_) (λh73=>?_)
       ·exact yo X (yo X (yo X (yb X (k73 M ⟨X,X,(by rw [h73];rfl),trivial⟩))))
       ·exact gyq X (CE M 2 X X X (yd X (C9 X X X) (yb X (k73 M ⟨X,X,(by rw [h73];rfl),trivial⟩))))
     refine AI (d:=64) X (λh64=>?_) (λh64=>?_)
     ·exact yo X (yo X (yo X (yb X (k64 M ⟨X,X,(by rw [h64];rfl),trivial⟩))))
     ·exact gyq X (CE M 2 X X X (yd X (C9 X X X) (yb X (k64 M ⟨X,X,(by rw [h64];rfl),trivial⟩))))
end Go.Proofs.YtaheakjfkpkefaaGreatDoor
