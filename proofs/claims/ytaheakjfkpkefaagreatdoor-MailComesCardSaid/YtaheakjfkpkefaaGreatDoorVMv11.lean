/- Lemmas. -/
import Derived.Test.YtaheakjfkpkefaaGreatDoorVMv7
set_option maxHeartbeats 16000000
set_option maxRecDepth 100000
namespace Go.Proofs.YtaheakjfkpkefaaGreatDoor
open Go.RowKit
open Tryz
theorem ZA {m:Md} (l:List (List UInt8)):(l.flatMap (DB m)).length≤l.length*m.els.length:=by
 induction l with
 | nil=>simp
 | cons a r ih=>
  have:=FK m a
  rw [List.flatMap_cons,List.length_append,List.length_cons,Nat.succ_mul];omega
theorem PZ {m:Md} {w:World} {gc:Nat} {c:CrA} {F:List Nat} (ho:MdOk m) (hC:CourseN w m gc c F) (t:Tk):(DJ m c t).length≤20000:=by
 have h1:(aU c t).length≤400:=by
  have:=hC.lenO t.loc
  have:=ho.nfls
  unfold aU
  repeat' split
  all_goals first
   | (rw [List.length_map];omega)
   | simp
 have h2:=ZA (m:=m) ([t.loc]++AS m.els t.loc);have h3:=N6 m.els t.loc;have h4:([t.loc]++AS m.els t.loc).length≤65:=by rw [List.length_append,List.length_cons,List.length_nil];omega
 have h5:=Nat.mul_le_mul h4 ho.nels;unfold DJ
 split
 ·simp
 ·rw [List.length_append];omega
def W4 (c:CrA) (t:Tk) (vars:List Bd):List (List UInt8)→Option Int
 | []=>none
 | k::r=>if (!decide ((GF c k t.born vars).2=(0:Int)))=true then some (GF c k t.born vars).2 else W4 c t vars r
def D7 (m:Md) (c:CrA) (t:Tk) (vars:List Bd):List Wt × Int:=
 if (!(ET m c t))=true then ([],1)
 else match W4 c t vars (DJ m c t) with
  | some e=>([],e)
  | none=>((DJ m c t).map (λk=>(GF c k t.born vars).1),0)
theorem UO : (prog.info? 72).map (λi=>(i.zero,i.size,i.bytes))=some (some (.agg #[str [],.int .u8 0,str [],str [],AC 0]),5,64):=by kernel_rfl
theorem WV : (prog.info? 72).map (λi=>(i.zero,i.size))=some (some (.agg #[str [],.int .u8 0,str [],str [],AC 0]),5):=by kernel_rfl
theorem jU (m:Md) (gc:Nat) (c:CrA) (F:List Nat) (t:Tk) (V:Option Addr) (cv:Nat) (vars:List Bd) (w:World) (ho:MdOk m) (hC:CourseN w m gc c F) (hvl:vars.length≤4611686018427387904) (hV:Rd w V (vars.length*5) (AD Bd.cells vars)) :
 Calls prog 45 #[pg gc,.slice V vars.length cv,.agg t.cells.toArray] w λe w'=>∃A c',e=.returned (.tuple #[.slice A (D7 m c t vars).1.length c',AC (D7 m c t vars).2])∧w'.ownsRow w.heap.size 72 5 (.slice A (D7 m c t vars).1.length c') (D7 m c t vars).1.length (AD Wt.cells (D7 m c t vars).1)∧Fr0 w w':=by
 have hvL:=PZ ho hC t;refine BH func45 ntmps45 X λM=>srg (CC M X X λg5 w1 hg5 M=>yb X (AJ X (sx_seq (AE X (ya X (J1 X X X (pt X)) (nq ?_))))))
 refine sx_false X (sx_skip (qx_seq (sx_seq (AE X (CB M 0 X X underlying56 B4 X (CD M 17 X X call31 (SU m gc c F t _ ho (hC.fr0 M.fr)) λw2 M=>AJ X (AF X (λh18=>?_) (λh18=>?_))))))))
 ·refine AE X (yb X (gnr (qx_then_ret (C4 X X X ?_))));have hwp:D7 m c t vars=([],1):=if_pos h18;rw [hwp];exact ⟨none,0,X,World.ownsRow_nil _ _ _ _,M.fr⟩
 ·have h18p:=(BL h18);refine sx_skip (qx_seq (srg (AJ X (sx_seq (AE X (CB M 0 X X underlying56 B4 X (cl 21 X (AG X X call52) (cO m gc c F t _ ho (hC.fr0 M.fr)) ?_)))))));rintro _ w3 ⟨A21,c21,rfl,how3,hfw3⟩;refine ⟨_,X,?_⟩;have M:=M.pushOwn hfw3 (Nat.le_refl _) how3;have hL21:=M.ownLen 0 X;refine DF X X (AJ X (sx_block ?_));have M:=M.nilOwn 72 5;refine flp [22,21,5,1,0] (λze e wr mz=>∃(i:Nat) (acc:List Wt) (A8:Option Addr) (c8:Nat),e=(8,.slice A8 acc.length c8)::(23,AC (i:Int))::ze∧Mem w AR [As.own w.heap.size 72 5 (.slice A8 acc.length c8) acc.length (AD Wt.cells acc),As.own w.heap.size 9 1 (.slice A21 (DJ m c t).length c21) ((DJ m c t).length) (AD C0 (DJ m c t)),As.blk g5 56 (Tk.cells t)] wr∧(i≤(DJ m c t).length)∧(acc=((DJ m c t).take i).map (λk=>(GF c k t.born vars).1)∧acc.length=i)∧(W4 c t vars (DJ m c t)=W4 c t vars ((DJ m c t).drop i))∧mz=(DJ m c t).length-i) ⟨0,[],none,0,X,M,Nat.zero_le _,⟨X,X⟩,X,X⟩ ?_;rintro _ w4 _ ⟨i,acc,A8,c8,rfl,M,hi,hacc,hE,rfl⟩;refine srg (BB X X (nq (sx_seq (AF X (λh24=>?_) (λh24=>?_)))))
  ·have h24p:=(odt h24);refine sx_skip (qx_seq (sx_seq (sx_block (srg ?_))));obtain ⟨k,hk⟩:=BM (l:=(DJ m c t)) (i:=i) AA;obtain ⟨b_k,o_k,hA_k⟩:=B5 (k:=1) AA (M.rdOwn 1 X) hk;refine ya X (AN i hA_k X X X (sl X) AA) (yl X X (D9 DQ (M.rdOwn 1 X) hA_k hk 0 X) (AJ X (AE X (AV X X (AU M 2 X X X (yb X (CD M 33 X X call91 (qH m gc c F k t.born V cv vars _ (hC.fr0 M.fr) hvl (hV.fr0 M.fr)) λw5 M=>AV X X (yb X ?_))))))));refine CI M X M6 λg11 w6 hg11 M=>BD M 0 X X CR X λw7 M=>AJ X (sx_seq (AE X (CT X X (nq (AF X (λh37=>?_) (λh37=>?_))))))
   ·refine AE X (AV X X (gnr (qx_then_ret (qx_block_ret (qx_then_ret (qx_then_ret (qx_block_ret (qx_then_ret (C4 X X X ?_)))))))));have hwp:D7 m c t vars=([],(GF c k t.born vars).2):=by rw [D7,AM h18,hE,AZ hk,W4,if_pos h37]
    rw [hwp];exact ⟨none,0,X,World.ownsRow_nil _ _ _ _,M.fr⟩
   ·have h37p:=(odt (BL h37));refine sx_skip (qx_seq (sx_region (yb X (CB M 0 X X underlying72 CR X (CN M (wn_none X) X X [.agg (Wt.cells ((GF c k t.born vars).1)).toArray] (Wt.cells ((GF c k t.born vars).1)) X X X X underlying120 WV X X (FP X) X λg41 w8 hg41 M=>DE (len':=(acc++[((GF c k t.born vars).1)]).length) (xs':=AD Wt.cells (acc++[((GF c k t.born vars).1)])) M 2 (wn_none X) X X X X X X (M.rdBlk 0 X X) underlying120 UO X B3 (CL X) (Nat.le_refl _) (Nat.le_refl _) C2 (by unfold maxLen;first|omega|(simp only [List.length_append,List.length_cons,List.length_nil];omega)) (by simp) (by first|exact (B9 _ _ _).symm|simp [AD]) λA42 c42 w9 M=>yb X (sxl_nil (qx_block_normal (qx_seq (sx_region (BV X X (yb X ?_)))))))))));refine sxl_nil (fag ⟨i+1,acc++[((GF c k t.born vars).1)],A42,c42,X,(M.pk [2,3,4]),?_,?_,?_,X⟩)
    ·omega
    ·exact ⟨by rw [hacc.1,AP hk,List.map_append];rfl,by rw [List.length_append,hacc.2];rfl⟩
    ·rw [hE,AZ hk,W4,AM h37]
  ·have h24p:=(odf h24);refine sx_exit (qx_then_exit (qx_then_exit ?_));have hiE:i=(DJ m c t).length:=by omega
   have hac:=hacc.1;rw [hiE,List.take_length] at hac
   have hLe:W4 c t vars (DJ m c t)=none:=by rw [hE,hiE,List.drop_length];rfl
   refine qx_block_hit (qx_seq (AE X (AV X X (gnr (C4 X X X ?_)))));have hwp:D7 m c t vars=(acc,0):=by rw [D7,AM h18,hLe,hac]
   rw [hwp];exact ⟨_,_,X,M.own 0 X,M.fr⟩
def O5 (t:Tk) (k:Int):Bool:=(((decide ((0:Int)≤t.born))&&(decide (t.born≤k)))&&(((decide (t.worker=[]))&&(decide (t.until_=(0:Int)))) || (((CG t.worker)&&(decide ((0:Int)≤t.until_)))&&(decide (t.until_≤(k+(1048576:Int)))))))
theorem XT (gc:Nat) (t:Tk) (k:Int) (w:World) (hw:(t.worker.length:Int)<4611686018427387904) (hk:0≤k∧k≤1099511627776) :
 Calls prog 32 #[pg gc,.agg t.cells.toArray,AC k] w (BI w (.bool (O5 t k))):=by
 refine BH func32 ntmps32 X λM=>srg (CC M X X λg4 w1 hg4 M=>AJ X (AE X (AU M 0 X X X (ya X (CX X X X) (yb X (fvm M 4 [4,2] [(15,.bool ((decide (t.worker=[]))&&(decide (t.until_=(0:Int)))))] ?_ (λk11=>?_)))))))
 ·intro w2 M;refine yb X (fvm M 16 [4,2] [(32,.bool (((decide (t.worker=[]))&&(decide (t.until_=(0:Int)))) || (((CG t.worker)&&(decide ((0:Int)≤t.until_)))&&(decide (t.until_≤(k+(1048576:Int)))))))] ?_ (λk16=>?_))
  ·intro w3 M;refine AJ X (AE X (AU M 0 X X X (JU X X (yb X (fvm M 5 [7] [(41,.bool ((decide ((0:Int)≤t.born))&&(decide (t.born≤k))))] ?_ (λk36=>?_))))))
   ·intro w4 M;refine yb X (fvm M 2 [] [(44,.bool (((decide ((0:Int)≤t.born))&&(decide (t.born≤k)))&&(((decide (t.worker=[]))&&(decide (t.until_=(0:Int)))) || (((CG t.worker)&&(decide ((0:Int)≤t.until_)))&&(decide (t.until_≤(k+(1048576:Int))))))))] ?_ (λk42=>?_))
    ·intro w5 M;exact yb X (gnr (gr1 X ⟨by rw [O5],M.fr⟩))
    refine AI (d:=42) X (λh42=>?_) (λh42=>?_)
    ·exact gyq X (yb X (k42 M ⟨(by rw [h42];rfl),trivial⟩))
    ·exact yo X (yb X (k42 M ⟨(by rw [h42];rfl),trivial⟩))
   refine AI (d:=36) X (λh36=>?_) (λh36=>?_)
   ·exact gyq X (CE M 0 X X X (gyq X (yd X (GH X X X) (yb X (k36 M ⟨X,(by rw [h36];rfl),trivial⟩)))))
   ·iterate 4 refine yo X ?_
    exact yb X (k36 M ⟨X,(by rw [h36];rfl),trivial⟩)
  refine AI (d:=16) X (λh16=>?_) (λh16=>?_)
  ·iterate 4 refine yo X ?_
   refine BY X X X X X (BY X X X X X (BY X X X X X (yo X (yo X ?_))));iterate 5 refine BY X X X X X ?_
   exact yo X (yb X (k16 M ⟨X,X,(by rw [h16];rfl),trivial⟩))
  ·refine gyq X (CE M 0 X X X (sxl_call (some 19) (wn_on X X X) X X (AG X X call61) (DU _ _ (by first|assumption|omega)) ?_));rintro _ w6 ⟨rfl,hfw6⟩;refine ⟨_,X,?_⟩;have M:=M.step hfw6;refine gyq X (fvm M 4 [16,4,2] [(24,.bool ((CG t.worker)&&(decide ((0:Int)≤t.until_))))] ?_ (λk20=>?_))
   ·intro w7 M;refine gyq X (fvm M 6 [16,4,2] [(31,.bool (((CG t.worker)&&(decide ((0:Int)≤t.until_)))&&(decide (t.until_≤(k+(1048576:Int))))))] ?_ (λk25=>?_))
    ·intro w8 M;exact yb X (k16 M ⟨X,X,(by rw [h16];rfl),trivial⟩)
    refine AI (d:=25) X (λh25=>?_) (λh25=>?_)
    ·exact gyq X (CE M 0 X X X (gyq X (yd X (GE X X X AA) (yd X (GH X X X) (gyq X (k25 M ⟨X,X,X,(by rw [h25];rfl),trivial⟩))))))
    ·iterate 5 refine yo X ?_
     exact gyq X (k25 M ⟨X,X,X,(by rw [h25];rfl),trivial⟩)
   refine AI (d:=20) X (λh20=>?_) (λh20=>?_)
   ·exact gyq X (CE M 0 X X X (yd X (GV X X X) (gyq X (k20 M ⟨X,X,X,(by rw [h20];rfl),trivial⟩))))
   ·exact yo X (yo X (yo X (gyq X (k20 M ⟨X,X,X,(by rw [h20];rfl),trivial⟩))))
 refine AI (d:=11) X (λh11=>?_) (λh11=>?_)
 ·exact gyq X (CE M 0 X X X (yd X (C9 X X X) (yb X (k11 M ⟨X,X,(by rw [h11];rfl),trivial⟩))))
 ·exact yo X (yo X (yo X (yb X (k11 M ⟨X,X,(by rw [h11];rfl),trivial⟩))))
def W5 (a b:Bd):Bool:=(((decide (a.name=b.name))&&(decide ((a.v.kind.toNat:Int)=(b.v.kind.toNat:Int))))&&(decide ((chk a.v)=(0:Int))))
theorem jZ (a b:Bd) (w:World) (hb:(a.v.text.length:Int)<4611686018427387904) (hY:Lay0 w) :
 Calls prog 58 #[.agg a.cells.toArray,.agg b.cells.toArray] w (BI w (.bool (W5 a b))):=by
 refine BH func58 ntmps58 X λM=>srg (CC M X X λg2 w1 hg2 M=>CC M X X λg3 w2 hg3 M=>AJ X (AE X (AU M 1 X X X (yb X (AU M 0 X X X ?_)))))
 refine ya X (CX X X X) (yb X (fvm M 8 [4,2] [(18,.bool ((decide (a.name=b.name))&&(decide ((a.v.kind.toNat:Int)=(b.v.kind.toNat:Int)))))] ?_ (λk10=>?_)))
 ·intro w3 M;refine yb X (fvm M 5 [4] [(24,.bool (((decide (a.name=b.name))&&(decide ((a.v.kind.toNat:Int)=(b.v.kind.toNat:Int))))&&(decide ((chk a.v)=(0:Int)))))] ?_ (λk19=>?_))
  ·intro w4 M;exact yb X (gnr (gr1 X ⟨by rw [W5],M.fr⟩))
  refine AI (d:=19) X (λh19=>?_) (λh19=>?_)
  ·refine gyq X (yd X (AK (xs:=[.int .u8 (a.v.kind.toNat:Int),AC a.v.int,.bool a.v.bool,str a.v.text]) X X (DZ (M.blk 1 X) 1 4 X X) underlying100 X AB) (sxl_call (some 22) (wn_on X X X) X X (AG X X call59) (EJ a.v _ hb (hY.fr0 M.fr).utf) ?_));rintro _ w5 ⟨rfl,hfw5⟩;refine ⟨_,X,?_⟩;have M:=M.step hfw5;exact yd X (C9 X X X) (yb X (k19 M ⟨X,(by rw [h19];rfl),trivial⟩))
  ·iterate 4 refine yo X ?_
   exact yb X (k19 M ⟨X,(by rw [h19];rfl),trivial⟩)
 refine AI (d:=10) X (λh10=>?_) (λh10=>?_)
 ·exact gyq X (gyq X (CE M 1 X X X (gyq X (gyq X (CE M 0 X X X (yd X (C9 X X X) (yb X (k10 M ⟨X,X,(by rw [h10];rfl),trivial⟩))))))))
 ·iterate 7 refine yo X ?_
  exact yb X (k10 M ⟨X,X,(by rw [h10];rfl),trivial⟩)
def FN : List Bd→List Bd→Bool
 | [],[]=>true
 | a::r,b::s=>W5 a b&&FN r s
 | _,_=>false
theorem Q0 : ∀{l k:List Bd},l.length≠k.length→FN l k=false
 | [],[],h=>absurd rfl h
 | [],_::_,_=>rfl
 | _::_,[],_=>rfl
 | a::r,b::s,h=>by
  rw [FN,Q0 (l:=r) (k:=s) (λhh=>h (by simp [hh])),Bool.and_false]
theorem tR (l1 l2:List Bd) (A B:Option Addr) (c d:Nat) (w:World) (hok:BdOk l1) (hA:Rd w A (l1.length*5) (AD Bd.cells l1)) (hB:Rd w B (l2.length*5) (AD Bd.cells l2)) (hY:Lay0 w) :
 Calls prog 57 #[.slice A l1.length c,.slice B l2.length d,.func (.func 58) #[] #[]] w (BI w (.bool (FN l1 l2))):=by
 have hl:=hok.len;refine BH func57 ntmps57 X λM=>srg (AJ X (sx_seq (AE X (DF X X (yb X (DF X X (CT X X (nq ?_))))))))
 refine AF X (λh14=>?_) (λh14=>?_)
 ·have h14p:=(odf (C5 h14));exact AE X (gnr (qx_then_ret (gr1 X ⟨by rw [Q0 AA],M.fr⟩)))
 ·have h14p:=(odt (BL h14));refine sx_skip (qx_seq (sx_seq (AE X (DF X X (AJ X (sx_block (JJ M [16,15,2,1] (λze zF e wr mz=>∃(i:Nat),e=(17,AC (i:Int))::ze∧zF wr∧(i≤l1.length)∧(FN l1 l2=FN (l1.drop i) (l2.drop i))∧mz=l1.length-i) ⟨0,X,M,Nat.zero_le _,X,X⟩ ?_)))))));rintro _ w1 _ ⟨i,rfl,M,hi,hE,rfl⟩;refine srg (BB X X (nq (sx_seq (AF X (λh18=>?_) (λh18=>?_)))))
  ·have h18p:=(odt h18);refine sx_skip (qx_seq (sx_seq (sx_block (AE X ?_))));obtain ⟨x,hx⟩:=BM (l:=l1) (i:=i) AA;obtain ⟨b_x,o_x,hA_x⟩:=B5 (k:=5) AA (hA.fr0 M.fr) hx;refine ya X (AN i hA_x X X X (sl X) AA) (ya X (AK X X (B6 Bd.len (hA.fr0 M.fr) hA_x hx) underlying103 X EE) (CI M X QW λg8 w2 hg8 M=>yb X (BD M 0 X X EE X λw3 M=>nq (AE X (yb X ?_)))));obtain ⟨y,hy⟩:=BM (l:=l2) (i:=i) AA;obtain ⟨b_y,o_y,hA_y⟩:=B5 (k:=5) AA (hB.fr0 M.fr) hy;refine ya X (AN i hA_y X X X (sl X) AA) (ya X (AK X X (B6 Bd.len (hB.fr0 M.fr) hA_y hy) underlying103 X EE) (CI M X QW λg9 w4 hg9 M=>BD M 0 X X EE X λw5 M=>nq (AE X (CB M 1 X X underlying103 EE X (CB M 0 X X underlying103 EE X (LZ M 29 X (BJ X X X call58) (jZ x y _ (hok.text x (List.mem_of_getElem? hx)) (hY.fr0 M.fr)) λw6 M=>yb X (sxl_nil ?_)))))));refine qx_seq (AF X (λh30=>?_) (λh30=>?_))
   ·exact AE X (gnr (qx_block_ret (qx_then_ret (qx_then_ret (qx_block_ret (qx_then_ret (gr1 X ⟨by rw [hE,AZ hx,AZ hy,FN,C5 h30];rfl,M.fr⟩)))))))
   ·have h30p:=(BL h30);refine sx_skip (qx_block_normal (qx_seq (sx_region (BV X X (yb X (sxl_nil (fag ⟨i+1,X,(M.pick [] B3),?_,?_,X⟩)))))))
    ·omega
    ·rw [hE,AZ hx,AZ hy,FN,BL h30];rfl
  ·have h18p:=(odf h18);refine sx_exit (qx_then_exit (qx_then_exit (qx_block_hit (qx_seq (AE X (gnr (gr1 X ?_)))))));obtain rfl:i=l1.length:=by omega
   exact ⟨by rw [hE,List.drop_length,List.drop_of_length_le AA];rfl,M.fr⟩
end Go.Proofs.YtaheakjfkpkefaaGreatDoor
