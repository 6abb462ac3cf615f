/- Lemmas. -/
import Derived.Test.YtaheakjfkpkefaaGreatDoorVRu2
set_option maxHeartbeats 16000000
set_option maxRecDepth 100000
namespace Go.Proofs.YtaheakjfkpkefaaGreatDoor
open Go.RowKit
open Tryz
def GR (els:List El):Nat→El→List (List UInt8)
 | 0,_=>[]
 | f+1,y=>if y.inn=[] then [] else match BA els y.inn with
  | none=>[]
  | some x=>if x.kind.toNat=10 then x.id::GR els f x else []
def AS (els:List El) (id:List UInt8):List (List UInt8):=GR els 64 ((BA els id).getD zeroEl)
theorem XE (els:List El) {y:El} {n:Nat} (h1:¬y.inn=[]) (hn:n<64) (h2:(BA els y.inn).isSome=true) (h3:(((BA els y.inn).getD zeroEl).kind.toNat:Int)=10):GR els (64-n) y=((BA els y.inn).getD zeroEl).id::GR els (64-(n+1)) ((BA els y.inn).getD zeroEl):=by
 rw [show 64-n=(64-(n+1))+1 by omega,GR,if_neg h1]
 cases hx:BA els y.inn with
 | none=>rw [hx] at h2;cases h2
 | some x=>
  rw [hx] at h3
  have h3':x.kind.toNat=10:=by simp only [Option.getD_some] at h3;omega
  simp only [if_pos h3',Option.getD_some]
theorem XD (els:List El) {y:El} {n:Nat} (h:(BA els y.inn).isSome=false∨¬(((BA els y.inn).getD zeroEl).kind.toNat:Int)=10):GR els n y=[]:=by
 cases n with
 | zero=>rfl
 | succ n=>
  rw [GR]
  split
  ·rfl
  ·cases hx:BA els y.inn with
   | none=>rfl
   | some x=>
    rw [hx] at h
    simp only [Option.isSome_some,Bool.true_eq_false,Option.getD_some,false_or] at h
    simp only
    rw [if_neg AA]
theorem ZZ (els:List El) {y:El} {n:Nat} (h:y.inn=[]∨¬(n:Int)<64):GR els (64-n) y=[]:=by
 rcases h with h|h
 ·cases 64-n with
  | zero=>rfl
  | succ k=>rw [GR,if_pos h]
 ·rw [show 64-n=0 by omega];rfl
theorem RB (els:List El):∀(n:Nat) (y:El),(GR els n y).length≤n
 | 0,_=>Nat.le_refl _
 | n+1,y=>by
  rw [GR]
  split
  ·exact Nat.zero_le _
  ·split
   ·exact Nat.zero_le _
   ·split
    ·have:=RB els n;simp only [List.length_cons];exact Nat.succ_le_succ (this _)
    ·exact Nat.zero_le _
theorem N6 (els:List El) (id:List UInt8):(AS els id).length≤64:=RB els 64 _
theorem VT (m:Md) (a:MdA) (ix:IxA) (gx:Nat) (id:List UInt8) (w:World) (_ho:MdOk m) (hx:IxAt w m a ix gx) :
 Calls prog 132 #[pg gx,str id] w λe w'=>∃A c,e=.returned (.slice A (AS m.els id).length c)∧w'.ownsRow w.heap.size 9 1 (.slice A (AS m.els id).length c) (AS m.els id).length (AD C0 (AS m.els id))∧Fr0 w w':=by
 refine BH func132 ntmps132 X λM=>srg (AJ X (srg (AJ X (sx_seq (AE X (yb X ?_))))))
 refine yb X (yl X X (Blk.c ((hx.fr0 M.fr).blk) 5 X) (yb X (ya X (BK X X X underlying85 underlying9 AT ((hx.fr0 M.fr).E) (hx.getE _)) (CI M X AT λg6 w1 hg6 M=>BD M 0 X X AQ X λw2 M=>nq (sx_block ?_)))));have M:=M.nilOwn 9 1;refine flp [0] (λze e wr mz=>∃(y:El) (acc:List (List UInt8)) (A:Option Addr) (c:Nat) (gv:Nat),e=(5,.slice A acc.length c)::(6,pg gv)::ze∧Mem w AR [As.own w.heap.size 9 1 (.slice A acc.length c) acc.length (AD C0 acc),As.blk gv 95 (El.cells y)] wr∧(acc.length≤64)∧(AS m.els id=acc++GR m.els (64-acc.length) y)∧mz=64-acc.length) ⟨(BA m.els id).getD zeroEl,[],none,0,g6,X,M,Nat.zero_le _,X,X⟩ ?_;rintro _ w3 _ ⟨y,acc,A,c,gv,rfl,M,hl,hr,rfl⟩;refine sx_seq (AE X (AU M 1 X X X (ya X (GT X X X) (yb X (fvm M 4 [6,5,0] [(22,.bool ((!decide (y.inn=[]))&&(decide ((acc.length:Int)<64))))] ?_ (λk18=>?_))))))
 ·intro w4 M;refine nq (AF X (λh22=>?_) (λh22=>?_))
  ·have h22p:=(And.intro (odf (C5 (BR h22).1)) (odt (BR h22).2));refine sx_skip (qx_seq (sx_seq (sx_block (sx_seq (GP M 13 CH λM=>oc 0 13 X X M (oc 1 13 X X M (oc 2 13 X X M (ol 3 13 X X X M (λ_ M=>(Blk.c ((hx.fr0 M.fr).blk) 5 X)) (oc 4 13 X X M (ol 5 13 X X X M (λ_ M=>(M.cell 1 X X)) (oa 6 13 X X M (λ_ M=>DM X X X underlying85 underlying9 AT ((hx.fr0 M.fr).E) (hx.getE _) (hx.isE _)) (oc 7 13 X X M (oc 8 13 X X M (oc 9 13 X X M ?_))))))))))))));refine fon M 10 7 X X AT λg7 w5 hg7 M=>fop M 11 0 X X X AQ X (·.drop 1) λw6 M=>oc 12 13 X X (M.drop 1) (fdn (qx_seq (sx_seq (AE X (AV X X (fvm M 4 [7,6,5,0] [(39,.bool ((!(BA m.els y.inn).isSome) || (!decide ((((BA m.els y.inn).getD zeroEl).kind.toNat:Int)=10))))] ?_ (λk35=>?_)))))))
   ·intro w7 M;refine nq (AF X (λh39=>?_) (λh39=>?_))
    ·have h39p:=((E1 h39).imp (λz=>(C5 z)) (λz=>(odf (C5 z))));refine sx_exit (qx_then_exit (FS X (qx_then_exit (qx_then_exit (qx_block_hit (qx_seq (AE X (yb X (gnr (gr1 X ?_))))))))));rw [XD m.els h39p,List.append_nil] at hr
     subst hr;exact ⟨_,_,X,M.own 1 X,M.fr⟩
    ·have h39p:=(And.intro (BL (C6 h39).1) (odt (BL (C6 h39).2)));refine sx_skip (qx_seq (AE X (yb X (AU M 0 X X X (CN M (wn_none X) X X [str (((BA m.els y.inn).getD zeroEl).id)] ([str (((BA m.els y.inn).getD zeroEl).id)]) X X X X underlying48 CS X X (FP X) X λg43 w8 hg43 M=>DE (len':=(acc++[((BA m.els y.inn).getD zeroEl).id]).length) (xs':=AD C0 (acc++[((BA m.els y.inn).getD zeroEl).id])) M 2 (wn_none X) X X X X X X (M.rdBlk 0 X X) underlying48 D0 X B3 (CL X) (Nat.le_refl _) (Nat.le_refl _) C2 (by unfold maxLen;first|omega|(simp only [List.length_append,List.length_cons,List.length_nil];omega)) (by simp) (by simp [AD,C0]) λA44 c44 w9 M=>AJ X (sx_region (CB M 1 X X underlying95 AQ X ?_)))))));refine BD M 3 X X AQ X λw10 M=>sxl_nil (qx_block_normal (qx_seq (srg (CB M 3 X X underlying95 AQ X (nq (sx_region (CI M X AT λg6 w11 hg6 M=>BD M 0 X X AQ X λw12 M=>sxl_nil ?_)))))))
     have hlen:=h22p.2;refine fag ⟨((BA m.els y.inn).getD zeroEl),acc++[((BA m.els y.inn).getD zeroEl).id],A44,c44,g6,X,(M.pk [3,0]),?_,?_,X⟩
     ·simp only [List.length_append,List.length_cons,List.length_nil];omega
     ·rw [hr,XE m.els h22p.1 AA h39p.1 h39p.2];simp
   refine AI (d:=35) X (λh35=>?_) (λh35=>?_)
   ·exact yo X (yo X (yo X (yb X (k35 M ⟨X,X,X,X,(by rw [h35];rfl),trivial⟩))))
   ·exact gyq X (CE M 0 X X X (yd X (DX X X X) (yb X (k35 M ⟨X,X,X,X,(by rw [h35];rfl),trivial⟩))))
  ·have h22p:=((CV h22).imp (λz=>(odt (BL z))) (λz=>(odf z)));refine sx_exit (qx_then_exit (qx_then_exit (qx_block_hit (qx_seq (AE X (yb X (gnr (gr1 X ?_))))))));rw [ZZ m.els h22p,List.append_nil] at hr
   subst hr;exact ⟨_,_,X,M.own 0 X,M.fr⟩
 refine AI (d:=18) X (λh18=>?_) (λh18=>?_)
 ·exact gyq X (yd X (FM X X (sl X)) (yd X (E0 X X X) (yb X (k18 M ⟨X,X,X,(by rw [h18];rfl),trivial⟩))))
 ·exact yo X (yo X (yo X (yb X (k18 M ⟨X,X,X,(by rw [h18];rfl),trivial⟩))))
def P7 (m:Md) (b y:El):Bool:=(if (decide ((y.kind.toNat:Int)=(6:Int)))=true then ((AS m.els y.id).any (λz=>decide (b.id=z))) else false)
theorem aM (m:Md) (a:MdA) (ix:IxA) (gx gp:Nat) (b:El) (gb:Nat) (y:El) (w:World) (ho:MdOk m) (hx:IxAt w m a ix gx) (hp:Blk w gp 155 [pg gx]) (hb:Blk w gb 95 b.cells) :
 Calls prog 131 #[.agg y.cells.toArray,pg gp,pg gb] w (BI w (.bool (P7 m b y))):=by
 refine BH func131 ntmps131 X λM=>srg (CC M X X λg3 w1 hg3 M=>AJ X (sx_seq (GP M 13 CH λM=>oc 0 13 X X M (ol 1 13 X X X M (λ_ M=>(M.cell 0 X X)) (oa 2 13 X X M (λ_ M=>C9 X X X) (oc 3 13 X X M (DN (d:=8) X (λh8=>?_) (λh8=>?_))))))))
 ·have h8p:=(odt h8);refine ob 4 13 X (wn_on X X X) X X M (λ_ M=>BF X X (sc X) (Blk.c (hp.fr0 M.fr) 0 X)) (ob 5 13 X (wn_on X X X) X X M (λ_ M=>yp X) (ob 6 13 X (wn_on X X X) X X M (λ_ M=>BF X X (sc X) (M.cell 0 X X)) (ob 8 13 X (wn_on X X X) X X M (λ_ M=>yp X) (ob 9 13 X (wn_on X X X) X X M (λ_ M=>BF X X (sc X) (Blk.c (hb.fr0 M.fr) 0 X)) (BQ 7 (some 12) gkr X (wn_on X X X) X X (AG X X call132) (VT m a ix gx _ _ ho (hx.fr0 M.fr)) ?_)))));rintro _ w2 ⟨A12,c12,rfl,how2,hfw2⟩;refine ⟨_,X,λ_=>M.step hfw2,?_⟩;have M:=M.pushOwn hfw2 (Nat.le_refl _) how2;have hL12:=M.ownLen 0 X;refine BQ 10 (some 15) gkr X (wn_on X X X) X X (AG X X call51) (TV _ _ (AS m.els y.id) _ _ (by have hL:=M.ownLen 0 rfl;have:=N6 m.els y.id;omega) (M.rdOwn 0 X)) ?_;rintro _ w3 ⟨rfl,hfw3⟩;refine ⟨_,X,λ_=>(M.drop 1).step hfw3,?_⟩;have M:=M.step hfw3;exact oc 11 13 X X (M.drop 1) (oc 12 13 X X (M.drop 1) (fdn (qx_seq (sx_ret (gr1 X ⟨by rw [P7,if_pos h8],M.fr⟩)))))
 ·exact BG 4 13 X M (BG 5 13 X M (BG 6 13 X M (BG 7 13 X M (BG 8 13 X M (BG 9 13 X M (BG 10 13 X M (oc 11 13 X X M (oc 12 13 X X M (fdn (qx_seq (sx_ret (gr1 X ⟨by rw [P7,AM h8],M.fr⟩))))))))))))
def L6 (m:Md) (y:El):Bool:=(if (!decide ((y.kind.toNat:Int)=(9:Int)))=true then true else (if ((!(BA m.els y.att).isSome) || (!decide (((BA m.els y.att).getD zeroEl).inn=y.inn)))=true then false else (if ((decide ((((BA m.els y.att).getD zeroEl).kind.toNat:Int)=(3:Int))) || (decide ((((BA m.els y.att).getD zeroEl).kind.toNat:Int)=(4:Int))))=true then true else (if ((!decide ((((BA m.els y.att).getD zeroEl).kind.toNat:Int)=(10:Int))) || (decide ((y.ev.toNat:Int)=(1:Int))))=true then false else (!(m.els.any (P7 m ((BA m.els y.att).getD zeroEl))))))))
theorem fU (m:Md) (a:MdA) (ix:IxA) (gx gp:Nat) (y:El) (w:World) (oy:ElOk y) (ho:MdOk m) (hx:IxAt w m a ix gx) (hp:Blk w gp 155 [pg gx]) :
 Calls prog 129 #[.agg y.cells.toArray,pg gp] w (BI w (.bool (L6 m y))):=by
 have oy3:=oy.ref;have oy4:=oy.key;have oy5:=oy.id;have oy6:=oy.nm;have oy7:=oy.inn;have oy8:=oy.att;refine BH func129 ntmps129 X λM=>srg (CC M X X λg2 w1 hg2 M=>AJ X (sx_seq (GP M 13 CH λM=>ol 0 13 X X X M (λ_ M=>(Blk.c (hp.fr0 M.fr) 0 X)) (oc 1 13 X X M (oc 2 13 X X M (ol 3 13 X X X M (λ_ M=>(Blk.c ((hx.fr0 M.fr).blk) 5 X)) (oc 4 13 X X M (ol 5 13 X X X M (λ_ M=>(M.cell 0 X X)) ?_))))))))
 refine oa 6 13 X X M (λ_ M=>DM X X X underlying85 underlying9 AT ((hx.fr0 M.fr).E) (hx.getE _) (hx.isE _)) (oc 7 13 X X M (oc 8 13 X X M (oc 9 13 X X M (fon M 10 4 X X AT λg4 w2 hg4 M=>fop M 11 0 X X X AQ X (·.drop 1) λw3 M=>oc 12 13 X X (M.drop 1) (fdn (qx_seq (sx_seq (sx_block (AE X (AU M 1 X X X (CT X X ?_)))))))))));refine AJ X (AF X (λh16=>?_) (λh16=>?_))
 ·exact AE X (gnr (qx_block_ret (qx_then_ret (gr1 X ⟨by rw [L6,if_pos h16],M.fr⟩))))
 ·have h16p:=(odt (BL h16));refine AE X (AV X X (fvm M 6 [4,2,1] [(29,.bool ((!(BA m.els y.att).isSome) || (!decide (((BA m.els y.att).getD zeroEl).inn=y.inn))))] ?_ (λk23=>?_)))
  ·intro w4 M;refine AJ X (AF X (λh20=>?_) (λh20=>?_))
   ·have h20p:=((E1 h20).imp (λz=>(C5 z)) (λz=>(odf (C5 z))));exact AE X (gnr (qx_block_ret (qx_then_ret (gr1 X ⟨by rw [L6,AM h16,if_pos h20],M.fr⟩))))
   ·have h20p:=(And.intro (BL (C6 h20).1) (odt (BL (C6 h20).2)));refine AE X (AU M 0 X X X (BZ X X (yb X (fvm M 4 [4,2,1] [(38,.bool ((decide ((((BA m.els y.att).getD zeroEl).kind.toNat:Int)=3)) || (decide ((((BA m.els y.att).getD zeroEl).kind.toNat:Int)=4))))] ?_ (λk34=>?_)))))
    ·intro w5 M;refine AJ X (AF X (λh30=>?_) (λh30=>?_))
     ·have h30p:=((E1 h30).imp (λz=>(odt z)) (λz=>(odt z)));exact AE X (gnr (qx_block_ret (qx_then_ret (gr1 X ⟨by rw [L6,AM h16,AM h20,if_pos h30],M.fr⟩))))
     ·have h30p:=(And.intro (odf (C6 h30).1) (odf (C6 h30).2));refine AE X (AU M 0 X X X (CT X X (yb X (fvm M 4 [4,1] [(47,.bool ((!decide ((((BA m.els y.att).getD zeroEl).kind.toNat:Int)=10)) || (decide ((y.ev.toNat:Int)=1))))] ?_ (λk43=>?_)))))
      ·intro w6 M;refine AJ X (AF X (λh39=>?_) (λh39=>?_))
       ·have h39p:=((E1 h39).imp (λz=>(odf (C5 z))) (λz=>(odt z)));exact AE X (gnr (qx_block_ret (qx_then_ret (gr1 X ⟨by rw [L6,AM h16,AM h20,AM h30,if_pos h39],M.fr⟩))))
       ·have h39p:=(And.intro (odt (BL (C6 h39).1)) (odf (C6 h39).2));refine sx_skip (qx_block_normal (qx_seq (srg (yl X X (Blk.c (hp.fr0 M.fr) 0 X) (AV X X (yb X (yl X X (Blk.c ((hx.fr0 M.fr).blk) 3 X) (ya X (CP (us:=[]) (vs:=[pg gp,pg g4]) X X X) (CD M 54 X X call130 (uG _ _ m.els (by have:=G8 m.fls;have:=E4 m.fls;have:=ho.nfls;have:=ho.nels;have:=ho.nvars;first|omega|exact Nat.le_trans (G8 _ _) AA|exact Nat.le_trans (E4 _ _) AA) 131 [pg gp,pg g4] (P7 m ((BA m.els y.att).getD zeroEl)) _ (G5 call131 (λz hz w9 hf9=>aM m a ix gx gp ((BA m.els y.att).getD zeroEl) _ z w9 ho ((hx.fr0 M.fr).fr0 hf9) ((hp.fr0 M.fr).fr0 hf9) ((M.blk 0 X).fr0 hf9))) (M.rd hx.md.els)) λw7 M=>yb X (AJ X ?_))))))))));exact sx_ret (gr1 X ⟨by rw [L6,AM h16,AM h20,AM h30,AM h39],M.fr⟩)
      refine AI (d:=43) X (λh43=>?_) (λh43=>?_)
      ·exact yo X (yo X (yo X (yb X (k43 M ⟨X,X,(by rw [h43];rfl),trivial⟩))))
      ·exact gyq X (CE M 1 X X X (yd X (C9 X X X) (yb X (k43 M ⟨X,X,(by rw [h43];rfl),trivial⟩))))
    refine AI (d:=34) X (λh34=>?_) (λh34=>?_)
    ·exact yo X (yo X (yo X (yb X (k34 M ⟨X,X,X,(by rw [h34];rfl),trivial⟩))))
    ·exact gyq X (CE M 0 X X X (yd X (C9 X X X) (yb X (k34 M ⟨X,X,X,(by rw [h34];rfl),trivial⟩))))
  refine AI (d:=23) X (λh23=>?_) (λh23=>?_)
  ·iterate 5 refine yo X ?_
   exact yb X (k23 M ⟨X,X,X,(by rw [h23];rfl),trivial⟩)
  ·exact gyq X (CE M 0 X X X (gyq X (CE M 1 X X X (yd X (GT X X X) (yb X (k23 M ⟨X,X,X,(by rw [h23];rfl),trivial⟩))))))
def K4 (r:Option (List UInt8)):Value:=.tuple #[str (r.getD []),.bool r.isSome]
def ffE (p:El→Bool) (l:List El):Option (List UInt8):=(ffN (λ_=>p) 0 l).map (·.id)
def ffF (p:Fl→Bool) (l:List Fl):Option (List UInt8):=(ffN (λ_=>p) 0 l).map (·.id)
theorem TP (p:El→Bool) (l:List El):Value.tuple #[str ((ffN (λ_=>p) 0 l).elim [] (λx=>x.id)),.bool (ffN (λ_=>p) 0 l).isSome]=K4 (ffE p l):=by unfold K4 ffE;cases ffN (λ_=>p) 0 l<;>rfl
theorem o8 (p:Fl→Bool) (l:List Fl):Value.tuple #[str ((ffN (λ_=>p) 0 l).elim [] (λx=>x.id)),.bool (ffN (λ_=>p) 0 l).isSome]=K4 (ffF p l):=by unfold K4 ffF;cases ffN (λ_=>p) 0 l<;>rfl
theorem qS (m:Md) (a:MdA) (ix:IxA) (gx:Nat) (w:World) (ho:MdOk m) (hx:IxAt w m a ix gx) :
 Calls prog 67 #[pg gx] w (BI w (K4 (ffE (W9 m) m.els))):=by
 refine BH func67 ntmps67 X λM=>srg (D6 M (wn_none X) X X 155 X X ([pg gx]) X λg1 w1 hg1 M=>yb X (AJ X (srg (AU M 0 X X X (AV X X (yb X (yl X X (Blk.c ((hx.fr0 M.fr).blk) 3 X) ?_)))))))
 refine ya X (CP (us:=[]) (vs:=[pg g1]) X X X) (CD M 10 X X call110 (IZ _ _ m.els (by have:=ho.nfls;have:=ho.nels;have:=ho.nvars;omega) 116 [pg g1] (W9 m) _ (G5 call116 (λz hz w9 hf9=>qT m a ix gx _ z w9 (ho.els z hz) ho ((hx.fr0 M.fr).fr0 hf9) ((M.blk 0 X).fr0 hf9))) (M.rd hx.md.els)) λw2 M=>?_);iterate 4 refine yb X ?_
 exact gnr (C4 X X X ⟨congrArg Ending.returned (TP _ _),M.fr⟩)
theorem fH (m:Md) (a:MdA) (ix:IxA) (gx:Nat) (w:World) (ho:MdOk m) (hx:IxAt w m a ix gx) :
 Calls prog 68 #[pg gx] w (BI w (K4 (ffF (ME m) m.fls))):=by
 refine BH func68 ntmps68 X λM=>srg (D6 M (wn_none X) X X 155 X X ([pg gx]) X λg1 w1 hg1 M=>yb X (AJ X (srg (AU M 0 X X X (AV X X (yb X (yl X X (Blk.c ((hx.fr0 M.fr).blk) 4 X) ?_)))))))
 refine ya X (CP (us:=[]) (vs:=[pg g1]) X X X) (CD M 10 X X call113 (VK _ _ m.fls (by have:=ho.nfls;have:=ho.nels;have:=ho.nvars;omega) 118 [pg g1] (ME m) _ (G5 call118 (λz hz w9 hf9=>fI m a ix gx _ z w9 ho ((hx.fr0 M.fr).fr0 hf9) ((M.blk 0 X).fr0 hf9))) (M.rd hx.md.fls)) λw2 M=>?_);iterate 4 refine yb X ?_
 exact gnr (C4 X X X ⟨congrArg Ending.returned (o8 _ _),M.fr⟩)
theorem nV (m:Md) (a:MdA) (ix:IxA) (gx:Nat) (w:World) (ho:MdOk m) (hx:IxAt w m a ix gx) :
 Calls prog 69 #[pg gx] w (BI w (K4 (ffE (JB m) m.els))):=by
 refine BH func69 ntmps69 X λM=>srg (D6 M (wn_none X) X X 155 X X ([pg gx]) X λg1 w1 hg1 M=>yb X (AJ X (srg (AU M 0 X X X (AV X X (yb X (yl X X (Blk.c ((hx.fr0 M.fr).blk) 3 X) ?_)))))))
 refine ya X (CP (us:=[]) (vs:=[pg g1]) X X X) (CD M 10 X X call110 (IZ _ _ m.els (by have:=ho.nfls;have:=ho.nels;have:=ho.nvars;omega) 119 [pg g1] (JB m) _ (G5 call119 (λz hz w9 hf9=>iQ m a ix gx _ z w9 (ho.els z hz) ho ((hx.fr0 M.fr).fr0 hf9) ((M.blk 0 X).fr0 hf9))) (M.rd hx.md.els)) λw2 M=>?_);iterate 4 refine yb X ?_
 exact gnr (C4 X X X ⟨congrArg Ending.returned (TP _ _),M.fr⟩)
theorem fT (m:Md) (a:MdA) (ix:IxA) (gx:Nat) (w:World) (ho:MdOk m) (hx:IxAt w m a ix gx) :
 Calls prog 72 #[pg gx] w (BI w (K4 (ffE (L6 m) m.els))):=by
 refine BH func72 ntmps72 X λM=>srg (D6 M (wn_none X) X X 155 X X ([pg gx]) X λg1 w1 hg1 M=>yb X (AJ X (srg (AU M 0 X X X (AV X X (yb X (yl X X (Blk.c ((hx.fr0 M.fr).blk) 3 X) ?_)))))))
 refine ya X (CP (us:=[]) (vs:=[pg g1]) X X X) (CD M 10 X X call110 (IZ _ _ m.els (by have:=ho.nfls;have:=ho.nels;have:=ho.nvars;omega) 129 [pg g1] (L6 m) _ (G5 call129 (λz hz w9 hf9=>fU m a ix gx _ z w9 (ho.els z hz) ho ((hx.fr0 M.fr).fr0 hf9) ((M.blk 0 X).fr0 hf9))) (M.rd hx.md.els)) λw2 M=>?_);iterate 4 refine yb X ?_
 exact gnr (C4 X X X ⟨congrArg Ending.returned (TP _ _),M.fr⟩)
theorem iX (m:Md) (a:MdA) (ix:IxA) (gx:Nat) (w:World) (ho:MdOk m) (hx:IxAt w m a ix gx) :
 Calls prog 73 #[pg gx] w (BI w (K4 (ffE (MZ m) m.els))):=by
 refine BH func73 ntmps73 X λM=>srg (D6 M (wn_none X) X X 155 X X ([pg gx]) X λg1 w1 hg1 M=>yb X (AJ X (srg (AU M 0 X X X (AV X X (yb X (yl X X (Blk.c ((hx.fr0 M.fr).blk) 3 X) ?_)))))))
 refine ya X (CP (us:=[]) (vs:=[pg g1]) X X X) (CD M 10 X X call110 (IZ _ _ m.els (by have:=ho.nfls;have:=ho.nels;have:=ho.nvars;omega) 133 [pg g1] (MZ m) _ (G5 call133 (λz hz w9 hf9=>iY m a ix gx _ z w9 (ho.els z hz) ho ((hx.fr0 M.fr).fr0 hf9) ((M.blk 0 X).fr0 hf9))) (M.rd hx.md.els)) λw2 M=>?_);iterate 4 refine yb X ?_
 exact gnr (C4 X X X ⟨congrArg Ending.returned (TP _ _),M.fr⟩)
end Go.Proofs.YtaheakjfkpkefaaGreatDoor
