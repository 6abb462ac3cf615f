/- Lemmas. -/
import Derived.Test.YtaheakjfkpkefaaGreatDoorVRu3
import Derived.Test.YtaheakjfkpkefaaGreatDoorVRu9
set_option maxHeartbeats 16000000
set_option maxRecDepth 100000
namespace Go.Proofs.YtaheakjfkpkefaaGreatDoor
open Go.RowKit
open Tryz
theorem VN (l:List El) (id:List UInt8):∀i,ffN (λ(_:Nat) (b:El) => !(decide (b.id=id))) i l=BA l id:=by
 induction l with
 | nil=>intro i;rfl
 | cons x r ih=>
  intro i;rw [ffN,BA]
  by_cases h:x.id=id
  ·rw [if_neg (by simp [h]),if_pos h]
  ·rw [if_pos (by simp [h]),if_neg h];exact ih (i+1)
section
variable {α:Type} {p:α→Bool} {f:α→List UInt8} {l l':List α} {x:α} {acc:List (List UInt8)} (h:acc=(l.filter p).map f) (hl:l'=l++[x])
include h hl
theorem S6 (hp:p x=true):acc++[f x]=(l'.filter p).map f:=by rw [hl,List.filter_append,List.map_append,h];simp [hp]
theorem XF (hp:p x=false):acc=(l'.filter p).map f:=by rw [hl,List.filter_append,List.map_append,h];simp [hp]
end
def DB (m:Md) (id:List UInt8):List (List UInt8):=(m.els.filter (λu=>((decide ((u.kind.toNat:Int)=(9:Int)))&&(decide (u.att=id))))).map (λu=>u.id)
def VH (m:Md) (id:List UInt8):List Fl→Option (List UInt8)
 | []=>none
 | u::r=>if ((((BA m.els u.frm).isSome)&&(decide (u.tg=id)))&&(decide ((((BA m.els u.frm).getD zeroEl).kind.toNat:Int)=(7:Int))))=true then some ((BA m.els u.frm).getD zeroEl).id else VH m id r
def TL (m:Md) (id:List UInt8):List UInt8 × Bool:=
 if ((!((BA m.els id).isSome)) || (!decide ((((BA m.els id).getD zeroEl).kind.toNat:Int)=(8:Int))))=true then ([],false)
 else match VH m id m.fls with
  | some k=>(k,true)
  | none=>([],false)
theorem UB  : prog.built 95 []=some #[str [],str [],.int .u8 0,str [],str [],str [],.int .u8 0,str [],str [],AC 0,AC 0]:=by kernel_rfl
theorem o6 (g3:Nat) (id:List UInt8) (x:El) (w:World) (hb:Blk w g3 9 [str id]) :
 Calls prog 157 #[.agg x.cells.toArray,pg g3] w (BI w (.bool (decide (x.id=id)))):=by
 refine BH func157 ntmps157 X λM=>srg (CC M X X λg2 w1 hg2 M=>AJ X (AE X (AU M 0 X X X (yl X X (Blk.c (hb.fr0 M.fr) 0 X) (ya X (CX X X X) (yb X (sxl_nil ?_)))))))
 exact qx_seq (sx_ret (gr1 X ⟨X,M.fr⟩))
theorem tE (g3:Nat) (id:List UInt8) (x:Fl) (w:World) (hb:Blk w g3 9 [str id]) :
 Calls prog 78 #[.agg x.cells.toArray,pg g3] w (BI w (.bool (decide (x.tg=id)))):=by
 refine BH func78 ntmps78 X λM=>srg (CC M X X λg2 w1 hg2 M=>AJ X (AE X (AU M 0 X X X (yl X X (Blk.c (hb.fr0 M.fr) 0 X) (ya X (CX X X X) (yb X (sxl_nil ?_)))))))
 exact qx_seq (sx_ret (gr1 X ⟨X,M.fr⟩))
theorem m8 (g3:Nat) (id:List UInt8) (x:Fl) (w:World) (hb:Blk w g3 9 [str id]) :
 Calls prog 79 #[.agg x.cells.toArray,pg g3] w (BI w (.bool (decide (x.frm=id)))):=by
 refine BH func79 ntmps79 X λM=>srg (CC M X X λg2 w1 hg2 M=>AJ X (AE X (AU M 0 X X X (yl X X (Blk.c (hb.fr0 M.fr) 0 X) (ya X (CX X X X) (yb X (sxl_nil ?_)))))))
 exact qx_seq (sx_ret (gr1 X ⟨X,M.fr⟩))
theorem eD (m:Md) (a:MdA) (id:List UInt8) (w:World) (ho:MdOk m) (hM:MdIn w m a) :
 Calls prog 103 #[.agg (Md.cells m a).toArray,str id] w (BI w (.tuple #[.agg (((BA m.els id).getD zeroEl).cells).toArray,.bool (BA m.els id).isSome])):=by
 have hne:=ho.nels;have hnf:=ho.nfls;refine BH func103 ntmps103 X λM=>srg (CC M X X λg2 w1 hg2 M=>D6 M (wn_none X) X X 9 X X ([str id]) X λg3 w2 hg3 M=>CI M X AT λg4 w3 hg4 M=>AJ X (AE X (AU M 2 X X X ?_)))
 refine ya X (CP (us:=[]) (vs:=[pg g3]) X X X) (cl 10 X (AG X X call63) (RV El.cells El.len a.E a.ec m.els AA 157 [pg g3] (λ(_:Nat) (b:El) => !(!(decide (b.id=id)))) AR (λ_ _=>True) _ (G5 call157 (λx _ w9 hf9=>(o6 g3 id x w9 ((M.blk 1 X).fr0 hf9)).mono λ_ _ ⟨h1,h2⟩=>⟨by rw [h1,Bool.not_not],h2⟩)) (λ_ hf9=>(hM.els.fr0 M.fr).fr0 hf9) trivial) ?_);rintro _ w4 ⟨rfl,_,hfw4⟩;refine ⟨_,X,?_⟩;have M:=M.step hfw4;refine AJ X (sx_seq (AE X (BB X X (nq (AF X (λh12=>?_) (λh12=>?_))))))
 ·have h12p:=(odt h12);have hff:=OI (p:=(λ(_:Nat) (b:El) => !(decide (b.id=id)))) h12p;rw [VN] at hff
  exact srg (ya X (AY (parts:=[]) X X (UB)) (BD M 0 X X AQ X λw5 M=>yb X (gnr (qx_then_ret (B1 X X (M.rdBlk 0 X X) underlying95 X AQ X ⟨by rw [hff];rfl,M.fr⟩)))))
 ·have h12p:=(odf h12);obtain ⟨j,x,hj,hx,hff⟩:=OJ (p:=(λ(_:Nat) (b:El) => !(decide (b.id=id)))) h12p;have hjl:j<m.els.length:=(List.getElem?_eq_some_iff.1 hx).1;rw [hj];obtain ⟨b_x,o_x,hA_x⟩:=B5 (k:=11) AA (M.rd hM.els) hx;rw [VN] at hff
  refine sx_skip (qx_seq (AE X (AU M 2 X X X (yb X (ya X (AN j hA_x X X X (sl X) AA) (ya X (AK X X (B6 El.len (M.rd hM.els) hA_x hx) underlying95 X AQ) (BD M 0 X X AQ X λw6 M=>yb X (gnr (B1 X X (M.rdBlk 0 X X) underlying95 X AQ X ?_)))))))));exact ⟨by rw [hff];rfl,M.fr⟩
theorem Z9 (m:Md) (a:MdA) (f:FuncId) (cs:List Value) (p:Fl→Bool) (w:World) (ho:MdOk m) (hM:MdIn w m a) (hfn:∀(ar:Array Value) (w:World),(callFunc f ar).run prog w=.ok (.enter f ar) w)
 (hp:∀x∈m.fls,∀W,Fr0 w W→Calls prog f (.agg x.cells.toArray::cs).toArray W λe W'=>e=.returned (.bool (p x))∧Fr0 W W') :
 Calls prog 77 #[.agg (Md.cells m a).toArray,.func (.func f) #[] cs.toArray] w λe w'=>∃A c,e=.returned (.slice A ((m.fls.filter (λu=>p u)).map (λu=>u.id)).length c)∧w'.ownsRow w.heap.size 9 1 (.slice A ((m.fls.filter (λu=>p u)).map (λu=>u.id)).length c) ((m.fls.filter (λu=>p u)).map (λu=>u.id)).length (AD C0 ((m.fls.filter (λu=>p u)).map (λu=>u.id)))∧Fr0 w w':=by
 have hne:=ho.nels;have hnf:=ho.nfls;refine BH func77 ntmps77 X λM=>srg (CC M X X λg2 w1 hg2 M=>AJ X (srg (AJ X (sx_seq (srg ?_)))))
 refine yb X (AU M 0 X X X (DF X X (AJ X (sx_block ?_))));have M:=M.nilOwn 9 1;refine flp [10,9,1] (λze e wr mz=>∃(i:Nat) (acc:List (List UInt8)) (A:Option Addr) (c:Nat),e=(5,.slice A acc.length c)::(11,AC (i:Int))::ze∧Mem w AR [As.own w.heap.size 9 1 (.slice A acc.length c) acc.length (AD C0 acc),As.blk g2 62 (Md.cells m a)] wr∧(i≤m.fls.length)∧(acc=((m.fls.take i).filter (λu=>p u)).map (λu=>u.id))∧(acc.length≤i)∧mz=m.fls.length-i) ⟨0,[],none,0,X,M,Nat.zero_le _,X,Nat.le_refl _,X⟩ ?_;rintro _ w2 _ ⟨i,acc,A,c,rfl,M,hi,hacc,hal,rfl⟩;refine srg (BB X X (nq (sx_seq (AF X (λh12=>?_) (λh12=>?_)))))
 ·have h12p:=(odt h12);refine sx_skip (qx_seq (sx_seq (sx_block (srg ?_))));obtain ⟨u,hu⟩:=BM (l:=m.fls) (i:=i) AA;obtain ⟨b_u,o_u,hA_u⟩:=B5 (k:=4) AA (M.rd hM.fls) hu;refine ya X (AN i hA_u X X X (sl X) AA) (ya X (AK X X (B6 Fl.len (M.rd hM.fls) hA_u hu) underlying109 X CM) (CI M X EN λg7 w3 hg7 M=>BD M 0 X X CM X λw4 M=>nq (AE X (CB M 0 X X underlying109 CM X (LZ M 17 X (BJ X X X hfn) (hp u (List.mem_of_getElem? hu) _ M.fr) λw5 M=>nq (AF X (λh17=>?_) (λh17=>?_)))))))
  ·refine sx_region (AV X X (AU M 0 X X X (CN M (wn_none X) X X [str u.id] ([str u.id]) X X X X underlying48 CS X X (FP X) X λg21 w6 hg21 M=>DE (len':=(acc++[u.id]).length) (xs':=AD C0 (acc++[u.id])) M 2 (wn_none X) X X X X X X (M.rdBlk 0 X X) underlying48 D0 X B3 (CL X) (Nat.le_refl _) (Nat.le_refl _) C2 (by unfold maxLen;first|omega|(simp;omega)) (by simp) (by first|exact (B9 _ _ _).symm|simp [AD,C0]) λA22 c22 w7 M=>yb X (sxl_nil (qx_block_normal (qx_seq (sx_region (BV X X (yb X (sxl_nil ?_))))))))));refine fag ⟨i+1,acc++[u.id],A22,c22,X,(M.pk [2,3]),?_,?_,?_,X⟩
   ·omega
   ·first
     | exact S6 hacc (AP hu) h17
     | exact XF hacc (AP hu) h17
   ·first|omega|(simp only [List.length_append,List.length_cons,List.length_nil];omega)
  ·refine sx_skip (qx_block_normal (qx_seq (sx_region (BV X X (yb X (sxl_nil (fag ⟨i+1,acc,A,c,X,(M.pk [1,2]),?_,?_,?_,X⟩)))))))
   ·omega
   ·first
     | exact S6 hacc (AP hu) h17
     | exact XF hacc (AP hu) h17
   ·first|omega|(simp only [List.length_append,List.length_cons,List.length_nil];omega)
 ·have h12p:=(odf h12);refine sx_exit (qx_then_exit (qx_then_exit ?_));have hiE:i=m.fls.length:=by omega
  rw [hiE,List.take_length] at hacc
  refine qx_block_hit (qx_seq (AE X (yb X (gnr (gr1 X ?_)))));rw [←hacc];exact ⟨_,_,X,M.own 0 X,M.fr⟩
theorem tC (m:Md) (a:MdA) (id:List UInt8) (w:World) (ho:MdOk m) (hM:MdIn w m a) :
 Calls prog 40 #[.agg (Md.cells m a).toArray,str id] w λe w'=>∃A c,e=.returned (.slice A ((DR m.fls id).map (λu=>u.id)).length c)∧w'.ownsRow w.heap.size 9 1 (.slice A ((DR m.fls id).map (λu=>u.id)).length c) ((DR m.fls id).map (λu=>u.id)).length (AD C0 ((DR m.fls id).map (λu=>u.id)))∧Fr0 w w':=by
 refine BH func40 ntmps40 X λM=>srg (CC M X X λg2 w1 hg2 M=>D6 M (wn_none X) X X 9 X X ([str id]) X λg3 w2 hg3 M=>AJ X (srg (CB M 1 X X underlying62 BN X (ya X (CP (us:=[]) (vs:=[pg g3]) X X X) (cl 7 X (AG X X call77) (Z9 m a 78 [pg g3] (λu=>decide (u.tg=id)) _ ho (hM.fr0 M.fr) call78 (λx _ W hW=>tE g3 id x W ((M.blk 0 X).fr0 hW))) ?_)))))
 rintro _ w3 ⟨A7,c7,rfl,how3,hfw3⟩;refine ⟨_,X,?_⟩;have M:=M.pushOwn hfw3 (Nat.le_refl _) how3;exact yb X (gnr (gr1 X ⟨_,_,X,M.own 0 X,M.fr⟩))
theorem m6 (m:Md) (a:MdA) (id:List UInt8) (w:World) (ho:MdOk m) (hM:MdIn w m a) :
 Calls prog 41 #[.agg (Md.cells m a).toArray,str id] w λe w'=>∃A c,e=.returned (.slice A ((C3 m.fls id).map (λu=>u.id)).length c)∧w'.ownsRow w.heap.size 9 1 (.slice A ((C3 m.fls id).map (λu=>u.id)).length c) ((C3 m.fls id).map (λu=>u.id)).length (AD C0 ((C3 m.fls id).map (λu=>u.id)))∧Fr0 w w':=by
 refine BH func41 ntmps41 X λM=>srg (CC M X X λg2 w1 hg2 M=>D6 M (wn_none X) X X 9 X X ([str id]) X λg3 w2 hg3 M=>AJ X (srg (CB M 1 X X underlying62 BN X (ya X (CP (us:=[]) (vs:=[pg g3]) X X X) (cl 7 X (AG X X call77) (Z9 m a 79 [pg g3] (λu=>decide (u.frm=id)) _ ho (hM.fr0 M.fr) call79 (λx _ W hW=>m8 g3 id x W ((M.blk 0 X).fr0 hW))) ?_)))))
 rintro _ w3 ⟨A7,c7,rfl,how3,hfw3⟩;refine ⟨_,X,?_⟩;have M:=M.pushOwn hfw3 (Nat.le_refl _) how3;exact yb X (gnr (gr1 X ⟨_,_,X,M.own 0 X,M.fr⟩))
theorem I0 (m:Md) (a:MdA) (id:List UInt8) (w:World) (ho:MdOk m) (hM:MdIn w m a) :
 Calls prog 94 #[.agg (Md.cells m a).toArray,str id] w λe w'=>∃A c,e=.returned (.slice A (AS m.els id).length c)∧w'.ownsRow w.heap.size 9 1 (.slice A (AS m.els id).length c) (AS m.els id).length (AD C0 (AS m.els id))∧Fr0 w w':=by
 refine BH func94 ntmps94 X λM=>srg (CC M X X λg2 w1 hg2 M=>AJ X (srg (CB M 0 X X underlying62 BN X (cl 6 X (AG X X call65) (TF m a _ ho.b (hM.fr0 M.fr)) ?_))))
 rintro _ w2 ⟨ix,gx,FX,rfl,hix,hnx,hfw2⟩;refine ⟨_,X,?_⟩;have M:=M.push hfw2 (As.ixp m a ix gx FX) hix hnx;refine yb X (cl 8 X (AG X X call132) (VT m a ix gx id _ ho (IxN.at (M.ok 0 _ X) (hM.fr0 M.fr))) ?_);rintro _ w3 ⟨A8,c8,rfl,how3,hfw3⟩;refine ⟨_,X,?_⟩;have M:=M.pushOwn hfw3 (Nat.le_refl _) how3;have hL8:=M.ownLen 0 X;exact yb X (gnr (gr1 X ⟨_,_,X,M.own 0 X,M.fr⟩))
theorem N4 (m:Md) (a:MdA) (id:List UInt8) (w:World) (ho:MdOk m) (hM:MdIn w m a) :
 Calls prog 95 #[.agg (Md.cells m a).toArray,str id] w λe w'=>∃A c,e=.returned (.slice A (DB m id).length c)∧w'.ownsRow w.heap.size 9 1 (.slice A (DB m id).length c) (DB m id).length (AD C0 (DB m id))∧Fr0 w w':=by
 have hne:=ho.nels;have hnf:=ho.nfls;refine BH func95 ntmps95 X λM=>srg (CC M X X λg2 w1 hg2 M=>AJ X (srg (AJ X (sx_seq (srg ?_)))))
 refine yb X (AU M 0 X X X (DF X X (AJ X (sx_block ?_))));have M:=M.nilOwn 9 1;refine flp [10,9,1] (λze e wr mz=>∃(i:Nat) (acc:List (List UInt8)) (A:Option Addr) (c:Nat),e=(5,.slice A acc.length c)::(11,AC (i:Int))::ze∧Mem w AR [As.own w.heap.size 9 1 (.slice A acc.length c) acc.length (AD C0 acc),As.blk g2 62 (Md.cells m a)] wr∧(i≤m.els.length)∧(acc=((m.els.take i).filter (λu=>((decide ((u.kind.toNat:Int)=9))&&(decide (u.att=id))))).map (λu=>u.id))∧(acc.length≤i)∧mz=m.els.length-i) ⟨0,[],none,0,X,M,Nat.zero_le _,X,Nat.le_refl _,X⟩ ?_;rintro _ w2 _ ⟨i,acc,A,c,rfl,M,hi,hacc,hal,rfl⟩;refine srg (BB X X (nq (sx_seq (AF X (λh12=>?_) (λh12=>?_)))))
 ·have h12p:=(odt h12);refine sx_skip (qx_seq (sx_seq (sx_block (srg ?_))));obtain ⟨u,hu⟩:=BM (l:=m.els) (i:=i) AA;obtain ⟨b_u,o_u,hA_u⟩:=B5 (k:=11) AA (M.rd hM.els) hu;refine ya X (AN i hA_u X X X (sl X) AA) (ya X (AK X X (B6 El.len (M.rd hM.els) hA_u hu) underlying95 X AQ) (CI M X AT λg7 w3 hg7 M=>BD M 0 X X AQ X λw4 M=>nq (AE X (AU M 0 X X X (BZ X X (yb X (fvm M 5 [7,11,10,9,5,1] [(23,.bool ((decide ((u.kind.toNat:Int)=9))&&(decide (u.att=id))))] ?_ (λk18=>?_))))))))
  ·intro w5 M;refine nq (AF X (λh23=>?_) (λh23=>?_))
   ·have h23p:=(And.intro (odt (BR h23).1) (odt (BR h23).2));refine sx_region (AV X X (AU M 0 X X X (CN M (wn_none X) X X [str u.id] ([str u.id]) X X X X underlying48 CS X X (FP X) X λg27 w6 hg27 M=>DE (len':=(acc++[u.id]).length) (xs':=AD C0 (acc++[u.id])) M 2 (wn_none X) X X X X X X (M.rdBlk 0 X X) underlying48 D0 X B3 (CL X) (Nat.le_refl _) (Nat.le_refl _) C2 (by unfold maxLen;first|omega|(simp;omega)) (by simp) (by first|exact (B9 _ _ _).symm|simp [AD,C0]) λA28 c28 w7 M=>yb X (sxl_nil (qx_block_normal (qx_seq (sx_region (BV X X (yb X (sxl_nil ?_))))))))));refine fag ⟨i+1,acc++[u.id],A28,c28,X,(M.pk [2,3]),?_,?_,?_,X⟩
    ·omega
    ·first
      | exact S6 hacc (AP hu) h23
      | exact XF hacc (AP hu) h23
    ·first|omega|(simp only [List.length_append,List.length_cons,List.length_nil];omega)
   ·have h23p:=((CV h23).imp (λz=>(odf z)) (λz=>(odf z)));refine sx_skip (qx_block_normal (qx_seq (sx_region (BV X X (yb X (sxl_nil (fag ⟨i+1,acc,A,c,X,(M.pk [1,2]),?_,?_,?_,X⟩)))))))
    ·omega
    ·first
      | exact S6 hacc (AP hu) h23
      | exact XF hacc (AP hu) h23
    ·first|omega|(simp only [List.length_append,List.length_cons,List.length_nil];omega)
  refine AI (d:=18) X (λh18=>?_) (λh18=>?_)
  ·exact gyq X (CE M 0 X X X (gyq X (yd X (CX X X X) (yb X (k18 M ⟨X,X,X,X,X,X,(by rw [h18];rfl),trivial⟩)))))
  ·iterate 4 refine yo X ?_
   exact yb X (k18 M ⟨X,X,X,X,X,X,(by rw [h18];rfl),trivial⟩)
 ·have h12p:=(odf h12);refine sx_exit (qx_then_exit (qx_then_exit ?_));have hiE:i=m.els.length:=by omega
  rw [hiE,List.take_length] at hacc
  refine qx_block_hit (qx_seq (AE X (yb X (gnr (gr1 X ?_)))));have hbp:DB m id=acc:=hacc.symm;rw [hbp];exact ⟨_,_,X,M.own 0 X,M.fr⟩
theorem nS (m:Md) (a:MdA) (id:List UInt8) (w:World) (ho:MdOk m) (hM:MdIn w m a) :
 Calls prog 60 #[.agg (Md.cells m a).toArray,str id] w (BI w (.tuple #[str (TL m id).1,.bool (TL m id).2])):=by
 have hne:=ho.nels;have hnf:=ho.nfls;refine BH func60 ntmps60 X λM=>srg (CC M X X λg2 w1 hg2 M=>yb X (AJ X (sx_seq (srg (CB M 0 X X underlying62 BN X (yb X (CD M 15 X X call103 (eD m a id _ ho (hM.fr0 M.fr)) λw2 M=>yb X ?_)))))))
 refine AV X X (CI M X AT λg6 w3 hg6 M=>BD M 0 X X AQ X λw4 M=>AJ X (AE X (AV X X (fvm M 4 [2,1] [(24,.bool ((!(BA m.els id).isSome) || (!decide ((((BA m.els id).getD zeroEl).kind.toNat:Int)=8))))] ?_ (λk20=>?_)))))
 ·intro w5 M;refine nq (AF X (λh24=>?_) (λh24=>?_))
  ·have h24p:=((E1 h24).imp (λz=>(C5 z)) (λz=>(odf (C5 z))));exact AE X (yb X (gnr (qx_then_ret (C4 X X X ⟨by rw [TL,if_pos h24]<;>rfl,M.fr⟩))))
  ·have h24p:=(And.intro (BL (C6 h24).1) (odt (BL (C6 h24).2)));refine sx_skip (qx_seq (sx_seq (AE X (AU M 1 X X X (DF X X (AJ X (sx_block (JJ M [27,26,2,1] (λze zF e wr mz=>∃(i:Nat),e=(28,AC (i:Int))::ze∧zF wr∧(i≤m.fls.length)∧(VH m id m.fls=VH m id (m.fls.drop i))∧mz=m.fls.length-i) ⟨0,X,M,Nat.zero_le _,X,X⟩ ?_))))))));rintro _ w6 _ ⟨i,rfl,M,hi,hE,rfl⟩;refine srg (BB X X (nq (sx_seq (AF X (λh29=>?_) (λh29=>?_)))))
   ·have h29p:=(odt h29);refine sx_skip (qx_seq (sx_seq (sx_block (srg ?_))));obtain ⟨u,hu⟩:=BM (l:=m.fls) (i:=i) AA;obtain ⟨b_u,o_u,hA_u⟩:=B5 (k:=4) AA (M.rd hM.fls) hu;refine ya X (AN i hA_u X X X (sl X) AA) (ya X (AK X X (B6 Fl.len (M.rd hM.fls) hA_u hu) underlying109 X CM) (CI M X EN λg9 w7 hg9 M=>BD M 0 X X CM X λw8 M=>EV (CB M 2 X X underlying62 BN X (yb X (AU M 0 X X X (CD M 36 X X call103 (eD m a u.frm _ ho (hM.fr0 M.fr)) λw9 M=>AV X X ?_))))));refine yb X (CI M X AT λg10 w10 hg10 M=>BD M 0 X X AQ X λw11 M=>AJ X (AE X (yb X (fvm M 5 [10,28,27,26,2,1] [(45,.bool ((BA m.els u.frm).isSome&&(decide (u.tg=id))))] ?_ (λk40=>?_)))))
    ·intro w12 M;refine yb X (fvm M 4 [10,28,27,26,2,1] [(50,.bool (((BA m.els u.frm).isSome&&(decide (u.tg=id)))&&(decide ((((BA m.els u.frm).getD zeroEl).kind.toNat:Int)=7))))] ?_ (λk46=>?_))
     ·intro w13 M;refine nq (AF X (λh50=>?_) (λh50=>?_))
      ·exact AE X (AU M 0 X X X (AV X X (gnr (qx_block_ret (qx_then_ret (qx_then_ret (qx_block_ret (qx_then_ret (C4 X X X ⟨by rw [TL,AM h24,hE,AZ hu,VH,if_pos h50]<;>rfl,M.fr⟩)))))))))
      ·have h50p:=((CV h50).imp (λz=>((CV z).imp (λz=>z) (λz=>(odf z)))) (λz=>(odf z)));refine sx_skip (qx_block_normal (qx_seq (sx_region (BV X X (yb X (sxl_nil (fag ⟨i+1,X,(M.pk [2,3]),?_,?_,X⟩)))))))
       ·omega
       ·rw [hE,AZ hu,VH,AM h50]
     refine AI (d:=46) X (λh46=>?_) (λh46=>?_)
     ·exact gyq X (CE M 0 X X X (yd X (C9 X X X) (yb X (k46 M ⟨X,X,X,X,X,X,(by rw [h46];rfl),trivial⟩))))
     ·exact yo X (yo X (yo X (yb X (k46 M ⟨X,X,X,X,X,X,(by rw [h46];rfl),trivial⟩))))
    refine AI (d:=40) X (λh40=>?_) (λh40=>?_)
    ·exact gyq X (CE M 1 X X X (gyq X (yd X (CX X X X) (yb X (k40 M ⟨X,X,X,X,X,X,(by rw [h40];rfl),trivial⟩)))))
    ·iterate 4 refine yo X ?_
     exact yb X (k40 M ⟨X,X,X,X,X,X,(by rw [h40];rfl),trivial⟩)
   ·have h29p:=(odf h29);refine sx_exit (qx_then_exit (qx_then_exit (qx_block_hit (qx_seq (AE X (yb X (gnr (C4 X X X ?_))))))));obtain rfl:i=m.fls.length:=by omega
    exact ⟨by rw [TL,AM h24,hE,List.drop_length];rfl,M.fr⟩
 refine AI (d:=20) X (λh20=>?_) (λh20=>?_)
 ·exact yo X (yo X (yo X (yb X (k20 M ⟨X,X,(by rw [h20];rfl),trivial⟩))))
 ·exact gyq X (CE M 0 X X X (yd X (DX X X X) (yb X (k20 M ⟨X,X,(by rw [h20];rfl),trivial⟩))))
end Go.Proofs.YtaheakjfkpkefaaGreatDoor
