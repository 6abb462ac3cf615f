/- Lemmas. -/
import Derived.Test.YtaheakjfkpkefaaGreatDoorVSss
set_option maxHeartbeats 16000000
set_option maxRecDepth 100000
namespace Go.Proofs.YtaheakjfkpkefaaGreatDoor
open Go.RowKit
open Tryz
def vU (s:St):Int:=s.tk.id
structure SsP (l:List Pa) (ss:List St):Prop where
 perm:ss.Perm (FW l 0)
 st:Stf vU (FW l 0) ss
 s:Srt vU ss 0 ss.length
theorem p8 (a b:Int):KS a b<0↔a<b:=by
 unfold KS;simp only [decide_true,Bool.not_true,Bool.false_eq_true,if_false,decide_eq_true_eq]
 split
 ·omega
 ·split<;>omega
theorem eT {x:Pa} {w:World} (hx:PaOk w x) (hp:x.p.isNone=false) (next k:Int) (hY:Lay0 w) :
 Calls prog 14 #[.pointer x.p,.agg (In.cells x.i x.V x.T x.vc x.tc).toArray,AC next,AC k] w (BI w (AC (if E2 x.m x.c x.i next k=true then 0 else 1))):=by
 rcases hx.cr with h|⟨gc,h,hC,hn,ho⟩
 ·rw [h] at hp;cases hp
 ·rw [h];exact ZR x.m gc x.c x.F x.i x.V x.T x.vc x.tc next k w ho hC (λq=>(X7 (dB hn) hC.cz q).2) (by have:=hx.tl;omega) hx.bd hx.wk hx.V hx.T hY
theorem QN (a0:Int) (c1_0 c1_1 c1_2 c1_3 c1_4 c1_5 c1_6 c1_7 c1_8:Value):prog.built 119 [(0,AC a0),(1,.agg #[c1_0,c1_1,c1_2,c1_3,c1_4,c1_5,c1_6,c1_7,c1_8])]=some #[AC a0,c1_0,c1_1,c1_2,c1_3,c1_4,c1_5,c1_6,c1_7,c1_8]:=by kernel_rfl
theorem UN : (prog.info? 119).map (λi=>(i.zero,i.size))=some (some (.agg #[AC 0,AC 0,str [],str [],AC 0,AC 0,str [],AC 0,.int .u8 0,AC 0]),10):=by kernel_rfl
theorem aG (a b:St) (w:World):Calls prog 89 #[.agg a.cells.toArray,.agg b.cells.toArray] w (BI w (AC (KS a.tk.id b.tk.id))):=by
 refine BH func89 ntmps89 X λM=>srg (CC M X X λg2 w1 hg2 M=>CC M X X λg3 w2 hg3 M=>AJ X (AE X (yb X (AU M 1 X X X (yb X ?_)))))
 exact yb X (AU M 0 X X X (CD M 11 X X call90 (R8 a.tk.id b.tk.id _) λw3 M=>yb X (gnr (gr1 X ⟨X,M.fr⟩))))
theorem Y3 (x:Pa):((x.p.isNone || (!decide ((x.i.st.toNat:Int)=1))) || (!decide ((if E2 x.m x.c x.i 2147483647 1099511627776=true then 0 else 1)=(0:Int)))) = !runP x:=by
 unfold runP
 cases x.p<;>(by_cases h:(x.i.st.toNat:Int)=1)<;>by_cases hc:E2 x.m x.c x.i 2147483647 1099511627776=true<;>simp [h,hc]
theorem Y7 {x:Pa} (h:((x.p.isNone || (!decide ((x.i.st.toNat:Int)=1))) || (!decide ((if E2 x.m x.c x.i 2147483647 1099511627776=true then 0 else 1)=(0:Int))))=false):runP x=true:=by rw [Y3] at h;simpa using h
theorem Y2 {x:Pa} (h:((x.p.isNone || (!decide ((x.i.st.toNat:Int)=1))) || (!decide ((if E2 x.m x.c x.i 2147483647 1099511627776=true then 0 else 1)=(0:Int))))=true):¬runP x=true:=by rw [Y3] at h;simpa using h
theorem fF (A:Option Addr) (cp:Nat) (l:List Pa) (w:World) (hP:Pts w A l) (hY:Lay0 w) :
 Calls prog 44 #[.slice A l.length cp] w λe w'=>∃ss A' c',e=.returned (.slice A' ss.length c')∧SsP l ss∧w'.ownsRow w.heap.size 119 10 (.slice A' ss.length c') ss.length (AD St.cells ss)∧Fr0 w w':=by
 have hlen:=hP.len;refine BH func44 ntmps44 X λM=>srg (AJ X (srg (AJ X (sx_seq (AE X (DF X X ?_))))))
 refine AJ X (sx_block ?_);have M:=M.nilOwn 119 10;refine flp [9,8] (λze e wr mz=>∃(j:Nat) (acc:List St) (A3:Option Addr) (c3:Nat),e=(3,.slice A3 acc.length c3)::(10,AC (j:Int))::ze∧Mem w AR [As.own w.heap.size 119 10 (.slice A3 acc.length c3) acc.length (AD St.cells acc)] wr∧(j≤l.length)∧(acc=FW (l.take j) 0)∧(acc.length≤j*300)∧mz=l.length-j) ⟨0,[],none,0,X,M,Nat.zero_le _,X,Nat.le_refl _,X⟩ ?_;rintro _ w1 _ ⟨j,acc,A3,c3,rfl,M,hj,hacc,hal,rfl⟩;refine srg (BB X X (nq (sx_seq (AF X (λh11=>?_) (λh11=>?_)))))
 ·have h11p:=(odt h11);refine sx_skip (qx_seq (sx_seq (sx_block (AE X ?_))));obtain ⟨x,hx⟩:=BM (l:=l) (i:=j) AA;obtain ⟨b_x,o_x,hA_x⟩:=B5 (k:=6) AA ((hP.fr0 M.fr).rd) hx;have htl_x:=(hP.ok _ (List.mem_of_getElem? hx)).tl;refine ya X (AN j hA_x X X X (sl X) AA) (ya X (AK X X (B6 Pa.len ((hP.fr0 M.fr).rd) hA_x hx) underlying36 X ER) (CI M X K0 λg5 w2 hg5 M=>yb X (BD M 0 X X ER X λw3 M=>nq (sx_seq (AE X (AU M 0 X X X (ya X (J1 X X X (pt X)) (yb X ?_))))))));refine fvm M 5 [4,5,10,9,8,3] [(23,.bool (x.p.isNone || (!decide ((x.i.st.toNat:Int)=1))))] ?_ (λk18=>?_)
  ·intro w4 M;refine yb X (fvm M 7 [4,5,10,9,8,3] [(31,.bool ((x.p.isNone || (!decide ((x.i.st.toNat:Int)=1))) || (!decide ((if E2 x.m x.c x.i 2147483647 1099511627776=true then 0 else 1)=(0:Int)))))] ?_ (λk24=>?_))
   ·intro w5 M;refine nq (AF X (λh31=>?_) (λh31=>?_))
    ·have h31p:=((E1 h31).imp (λz=>((E1 z).imp (λz=>z) (λz=>(odf (C5 z))))) (λz=>(odf (C5 z))));refine sx_exit (qx_then_exit (qx_block_hit (qx_seq (sx_region (BV X X (yb X (sxl_nil (fag ⟨j+1,acc,A3,c3,X,(M.pk [1]),?_,?_,?_,X⟩))))))))
     ·omega
     ·rw [R2 hx,←hacc]
      first
       | (rw [IH,if_neg (Y2 h31)];simp;done)
       | (rw [hacc2,IH,if_pos (Y7 h31)];done)
       | exact hacc2
     ·first
       | omega
       | (simp;omega)
    ·have h31p:=(And.intro (And.intro (C6 (C6 h31).1).1 (odt (BL (C6 (C6 h31).1).2))) (odt (BL (C6 h31).2)));refine sx_skip (qx_seq (AE X (yb X (AU M 0 X X X (DF X X (AJ X (sx_block (flp [35,34,10,9,8,4] (λze e wr mz=>∃(k:Nat) (acc2:List St) (A4:Option Addr) (c4:Nat),e=(3,.slice A4 acc2.length c4)::(36,AC (k:Int))::ze∧Mem w AR [As.blk g5 36 (Pa.cells x),As.own w.heap.size 119 10 (.slice A4 acc2.length c4) acc2.length (AD St.cells acc2)] wr∧(k≤x.i.toks.length)∧(acc2=acc++(x.i.toks.take k).map (λt=>⟨(j:Int),t⟩))∧(acc2.length≤j*300+k)∧mz=x.i.toks.length-k) ⟨0,acc,A3,c3,X,M,Nat.zero_le _,(List.append_nil _).symm,by omega,rfl⟩ ?_))))))));rintro _ w6 _ ⟨k,acc2,A4,c4,rfl,M,hk,hacc2,hal2,rfl⟩;refine srg (BB X X (nq (sx_seq (AF X (λh37=>?_) (λh37=>?_)))))
     ·have h37p:=(odt h37);refine sx_skip (qx_seq (sx_seq (sx_block (srg ?_))));obtain ⟨y,hy⟩:=BM (l:=x.i.toks) (i:=k) AA;obtain ⟨b_y,o_y,hA_y⟩:=B5 (k:=9) AA (((hP.fr0 M.fr).ok _ (List.mem_of_getElem? hx)).T) hy;refine ya X (AN k hA_y X X X (sl X) AA) (ya X (AK X X (B6 Tk.len (((hP.fr0 M.fr).ok _ (List.mem_of_getElem? hx)).T) hA_y hy) underlying56 X B4) (CI M X EM λg7 w7 hg7 M=>BD M 0 X X B4 X λw8 M=>nq (sx_region (AV X X (CB M 0 X X underlying56 B4 X (ya X (AY (parts:=[(0,_),(1,_)]) X X (QN _ _ _ _ _ _ _ _ _ _)) (CN M (wn_none X) X X [.agg #[AC (j:Int),AC y.id,str y.loc,str y.on,AC y.born,AC y.tries,str y.worker,AC y.until_,.int .u8 (y.inc.toNat:Int),AC y.err]] ([AC (j:Int),AC y.id,str y.loc,str y.on,AC y.born,AC y.tries,str y.worker,AC y.until_,.int .u8 (y.inc.toNat:Int),AC y.err]) X X X X underlying116 UN X X (FP X) X λg44 w9 hg44 M=>DE (len':=(acc2++[(⟨(j:Int),y⟩:St)]).length) (xs':=AD St.cells (acc2++[(⟨(j:Int),y⟩:St)])) M 3 (wn_none X) X X X X X X (M.rdBlk 0 X X) underlying116 TE X B3 (CL X) (Nat.le_refl _) (Nat.le_refl _) C2 (by unfold maxLen;first|omega|(simp;omega)) (by simp) (by first|exact (B9 _ _ _).symm|simp [AD,St.cells,Tk.cells]) ?_)))))));intro A45 c45 w10 M;refine yb X (sxl_nil (qx_block_normal (qx_seq (sx_region (BV X X (yb X (sxl_nil (fag ⟨k+1,acc2++[(⟨(j:Int),y⟩:St)],A45,c45,X,(M.pk [2,3]),?_,?_,?_,X⟩))))))))
      ·omega
      ·rw [AP hy,List.map_append,←List.append_assoc,←hacc2];rfl
      ·first
        | omega
        | (simp;omega)
     ·have h37p:=(odf h37);refine sx_exit (qx_then_exit (qx_then_exit ?_));obtain rfl:k=x.i.toks.length:=by omega
      rw [List.take_length] at hacc2
      refine qx_block_hit (qx_block_normal (qx_seq (sx_region (BV X X (yb X (sxl_nil (fag ⟨j+1,acc2,A4,c4,X,(M.pk [1]),?_,?_,?_,X⟩)))))))
      ·omega
      ·rw [R2 hx,←hacc]
       first
        | (rw [IH,if_neg (Y2 h31)];simp;done)
        | (rw [hacc2,IH,if_pos (Y7 h31)];done)
        | exact hacc2
      ·first
        | omega
        | (simp;omega)
   refine AI (d:=24) X (λh24=>?_) (λh24=>?_)
   ·iterate 6 refine yo X ?_
    exact yb X (k24 M ⟨X,X,X,X,X,X,(by rw [h24];rfl),trivial⟩)
   ·refine gyq X (CE M 0 X X X (gyq X (yd X (AK (xs:=[AC x.i.id,str x.i.mdl,.int .u8 (x.i.st.toNat:Int),.slice x.V x.i.vars.length x.vc,.slice x.T x.i.toks.length x.tc]) X X (DZ (M.blk 0 X) 1 5 X X) underlying33 X CF) (sxl_call (some 29) (wn_on X X X) X X (AG X X call14) (eT ((hP.fr0 M.fr).ok _ (List.mem_of_getElem? hx)) (C6 h24).1 2147483647 1099511627776 (hY.fr0 M.fr)) ?_))));rintro _ w11 ⟨rfl,hfw11⟩;refine ⟨_,X,?_⟩;have M:=M.step hfw11;exact yd X (DX X X X) (yb X (k24 M ⟨X,X,X,X,X,X,(by rw [h24];rfl),trivial⟩))
  refine AI (d:=18) X (λh18=>?_) (λh18=>?_)
  ·iterate 4 refine yo X ?_
   exact yb X (k18 M ⟨X,X,X,X,X,X,(by rw [h18];rfl),trivial⟩)
  ·exact gyq X (gyq X (CE M 0 X X X (yd X (DX X X X) (yb X (k18 M ⟨X,X,X,X,X,X,(by rw [h18];rfl),trivial⟩)))))
 ·have h11p:=(odf h11);refine sx_exit (qx_then_exit (qx_then_exit ?_));obtain rfl:j=l.length:=by omega
  have hacc1:=hacc;rw [List.take_length] at hacc1
  refine qx_block_hit (qx_seq (AE X (cl 49 X (AG X X call88) (lI w.heap.size A3 c3 acc.length 89 (λa b=>KS a.tk.id b.tk.id) vU acc _ call89 (λa b w=>aG a b w) (λa b=>p8 _ _) AA X (M.own 0 X)) ?_)));rintro _ w12 ⟨rfl,ls,hpl,hst,how12,hfw12⟩;refine ⟨_,X,?_⟩;have M:=M.upd 0 X hfw12 (As.own _ 119 10 (.slice A3 acc.length c3) acc.length (AD St.cells ls)) how12 (λg hg=>.inl hg);have hll:ls.length=acc.length:=hpl.length_eq;rw [←hll] at M ⊢
  exact nq (AE X (yb X (gnr (gr1 X ⟨_,_,_,X,⟨hacc1▸hpl,hacc1▸hst.1,hll▸hst.2⟩,M.own 0 X,M.fr⟩))))
end Go.Proofs.YtaheakjfkpkefaaGreatDoor
