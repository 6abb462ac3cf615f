/- Lemmas. -/
import Derived.Test.YtaheakjfkpkefaaGreatDoorVMw7
set_option maxHeartbeats 16000000
set_option maxRecDepth 100000
namespace Go.Proofs.YtaheakjfkpkefaaGreatDoor
open Go.RowKit
section
section
variable {w0 w w':World} {S:Nat→Prop} {a b:As} {Ls:List As}
theorem Mem.self2 (M:Mem w0 S (a::b::Ls) w):Mem w (λk=>k∈a.fp++b.fp) [a,b] w:=
 Mem.self [a,b] M λi x hi g hg=>by
  match i,hi with
  | 0,hi=>simp only [List.getElem?_cons_zero,Option.some.injEq] at hi;subst hi;exact List.mem_append_left _ hg
  | 1,hi=>simp only [List.getElem?_cons_succ,List.getElem?_cons_zero,Option.some.injEq] at hi;subst hi;exact List.mem_append_right _ hg
theorem Mem.new2 (M:Mem w0 AR (a::b::Ls) w):∀g∈a.fp++b.fp,w0.heap.size≤g:=λg hg=>by
 rcases List.mem_append.1 hg with h|h
 ·rcases (M.lt 0 a rfl g h).2 with h2|h2
  ·exact h2
  ·exact h2.elim
 ·rcases (M.lt 1 b rfl g h).2 with h2|h2
  ·exact h2
  ·exact h2.elim
theorem Mem.gone2 (M:Mem w0 S (a::b::Ls) w) (hf:Fr (λk=>k∈a.fp++b.fp) w w'):Mem w0 S Ls w':=by
 have up:∀(i:Nat) (x:As),Ls[i]?=some x→(a::b::Ls)[i+2]?=some x:=λi x h=>h
 have no:∀(i:Nat) (x:As),Ls[i]?=some x→∀g∈x.fp,¬g∈a.fp++b.fp:=λi x hi g hg h=>by
  rcases List.mem_append.1 h with h|h
  ·exact M.apart 0 (i+2) a x X (up i x hi) AA g h hg
  ·exact M.apart 1 (i+2) b x X (up i x hi) AA g h hg
 refine ⟨?_,λi x hi=>?_,λi x hi g hg=>?_,λi j x y hi hj hne=>M.apart (i+2) (j+2) x y (up i x hi) (up j y hj) AA⟩
 ·have hin:∀g∈a.fp++b.fp,w0.heap.size≤g∨S g:=λg h=>by
   rcases List.mem_append.1 h with h|h
   ·exact (M.lt 0 a X g h).2
   ·exact (M.lt 1 b X g h).2
  exact ⟨hf.os.trans M.fr.os,hf.tape.trans M.fr.tape,hf.output.trans M.fr.output,Nat.le_trans M.fr.size hf.size,λk hk hn=>(hf.block k (Nat.lt_of_lt_of_le hk M.fr.size) (λh=>by rcases hin k h with h2|h2;omega;exact hn h2)).trans (M.fr.block k hk hn)⟩
 ·exact x.keep (λg hg hl=>hf.block g hl (no i x hi g hg)) (M.ok (i+2) x (up i x hi))
 ·obtain ⟨h1,h2⟩:=M.lt (i+2) x (up i x hi) g hg;exact ⟨Nat.lt_of_lt_of_le h1 hf.size,h2⟩
end
end
open Tryz
def DW (m:Md) (c:CrA) (t:Tk) (via:List UInt8):List UInt8 × List (List UInt8) × Bool:=(if ((decide ((t.inc.toNat:Int)=(1:Int)))&&(decide (via=t.on)))=true then (via,[],true) else (if (((decide (((c.atf t.loc).kind.toNat:Int)=(4:Int)))&&(decide ((t.inc.toNat:Int)=(0:Int))))&&(decide (via=t.loc)))=true then ((((c.outs via)[0]?).getD []),[(via++[33])],true) else (if (!(List.any (DJ m c t) (λz=>decide (via=z))))=true then ([],[],false) else (if (decide (((c.atf via).kind.toNat:Int)=(9:Int)))=true then ((((c.outs via)[0]?).getD []),[((via++[32])++t.loc)],true) else ((((c.outs via)[0]?).getD []),[(via++[33])],true)))))
theorem oT (m:Md) (gc:Nat) (c:CrA) (F:List Nat) (t:Tk) (via:List UInt8) (w:World) (ho:MdOk m) (hC:CourseN w m gc c F) (hvl:via.length≤4611686018427387903) (htl:t.loc.length≤4611686018427387903) (hout:(via∈DJ m c t∨((c.atf t.loc).kind.toNat=4∧via=t.loc))→0<(c.outs via).length) :
 Calls prog 26 #[pg gc,.agg t.cells.toArray,str via] w λe w'=>∃A cf,e=.returned (.tuple #[str (DW m c t via).1,.slice A (DW m c t via).2.1.length cf,.bool (DW m c t via).2.2])∧w'.ownsRow w.heap.size 9 1 (.slice A (DW m c t via).2.1.length cf) (DW m c t via).2.1.length (AD C0 (DW m c t via).2.1)∧Fr0 w w':=by
 have hvL:=PZ ho hC t;refine BH func26 ntmps26 X λM=>srg (CC M X X λg4 w1 hg4 M=>AV X X (AJ X (sx_seq (GP M 9 CH λM=>oc 0 9 X X M (oc 1 9 X X M (oc 2 9 X X M (ol 3 9 X X X M (λ_ M=>(Blk.c ((hC.fr0 M.fr).blk) 5 X)) ?_)))))))
 refine oc 4 9 X X M (ol 5 9 X X X M (λ_ M=>(M.cell 0 X X)) (oa 6 9 X X M (λ_ M=>BK X X X underlying85 underlying9 AT ((hC.fr0 M.fr).A) (hC.getA _)) (fon M 7 9 X X AT λg9 w2 hg9 M=>fop M 8 0 X X X AQ X (·.drop 1) λw3 M=>fdn (qx_seq (sx_seq (sx_block (AE X (AU M 1 X X X (BZ X X (yb X (fvm M 5 [9,4,2,0] [(26,.bool ((decide ((t.inc.toNat:Int)=1))&&(decide (via=t.on))))] ?_ (λk21=>?_))))))))))))
 ·intro w4 M;refine AJ X (AF X (λh17=>?_) (λh17=>?_))
  ·refine srg ?_;iterate 4 refine yb X ?_
   refine gnr (qx_block_ret (qx_then_ret (IT X X X X ?_)));have hE:DW m c t via=(via,[],true):=by rw [DW,if_pos h17]
   rw [hE];exact ⟨none,0,X,World.ownsRow_nil _ _ _ _,M.fr⟩
  ·have h17p:=((CV h17).imp (λz=>(odf z)) (λz=>(odf z)));refine AE X (AU M 0 X X X (BZ X X (yb X (fvm M 4 [4,2,0] [(36,.bool ((decide (((c.atf t.loc).kind.toNat:Int)=4))&&(decide ((t.inc.toNat:Int)=0))))] ?_ (λk32=>?_)))))
   ·intro w5 M;refine yb X (fvm M 5 [4,2,0] [(42,.bool (((decide (((c.atf t.loc).kind.toNat:Int)=4))&&(decide ((t.inc.toNat:Int)=0)))&&(decide (via=t.loc))))] ?_ (λk37=>?_))
    ·intro w6 M;refine AJ X (AF X (λh28=>?_) (λh28=>?_))
     ·have h28p:=(And.intro (And.intro (odt (BR (BR h28).1).1) (odt (BR (BR h28).1).2)) (odt (BR h28).2));have hz0:=hout (.inr ⟨by have:=h28p.1.1;omega,h28p.2⟩);refine AE X (AV X X (yl X X (Blk.c ((hC.fr0 M.fr).blk) 8 X) (yb X (ya X (BK X X X underlying87 underlying9 D4 ((hC.fr0 M.fr).O) (hC.getO _)) ?_))));obtain ⟨z,hz⟩:=BM (l:=(c.outs via)) (i:=0) AA;obtain ⟨b_z,o_z,hA_z⟩:=B5 (k:=1) AA ((hC.fr0 M.fr).rdO _) hz;refine ya X (AN 0 hA_z X X X (sl X) AA) (yl X X (D9 DQ ((hC.fr0 M.fr).rdO _) hA_z hz 0 X) (yb X (ya X (FV X X X C2) (CN M (wn_none X) X X [str (via++[33])] ([str (via++[33])]) X X X X underlying48 CS X X (FP X) X λg53 w7 hg53 M=>AV X X (yb X (gnr (qx_block_ret (qx_then_ret (IT X X X X ?_)))))))));have hE:DW m c t via=(z,[(via++[33])],true):=by rw [DW,AM h17,if_pos h28];rw [hz];rfl
      rw [hE];have M:=M.blkOwn 0 (size:=1) (n:=1) X X (by unfold maxLen;omega);exact ⟨_,_,X,M.own 0 X,M.fr⟩
     ·have h28p:=((CV h28).imp (λz=>((CV z).imp (λz=>(odf z)) (λz=>(odf z)))) (λz=>(odf z)));refine AE X (CB M 1 X X underlying56 B4 X (cl 57 X (AG X X call52) (cO m gc c F t _ ho (hC.fr0 M.fr)) ?_));rintro _ w8 ⟨A57,c57,rfl,how8,hfw8⟩;refine ⟨_,X,?_⟩;have M:=M.pushOwn hfw8 (Nat.le_refl _) how8;have hL57:=M.ownLen 0 X;refine yb X (CD M 59 X X call51 (TV A57 c57 (DJ m c t) via _ AA (M.rdOwn 0 X)) λw9 M=>yb X (AJ X (AF X (λh54=>?_) (λh54=>?_))))
      ·refine AE X (AV X X (gnr (qx_block_ret (qx_then_ret (IT X X X X ?_)))));have hE:DW m c t via=([],[],false):=by rw [DW,AM h17,AM h28,if_pos h54]
       rw [hE];exact ⟨none,0,X,World.ownsRow_nil _ _ _ _,M.fr⟩
      ·have h54p:=(BL h54);have hz0:=hout (.inl (by obtain ⟨z,hz,he⟩:=List.any_eq_true.1 (BL h54);rw [odt he];exact hz));refine AE X (AV X X (yl X X (Blk.c ((hC.fr0 M.fr).blk) 5 X) (yb X (ya X (BK X X X underlying85 underlying9 AT ((hC.fr0 M.fr).A) (hC.getA _)) (ya X (OS (b:=(c.atf via)) X X) (BZ X X (AJ X (AF X (λh61=>?_) (λh61=>?_)))))))))
       ·have h61p:=(odt h61);refine sx_seq (GP M 15 CH λM=>oc 0 15 X X M (oc 1 15 X X M (oc 2 15 X X M (ol 3 15 X X X M (λ_ M=>(Blk.c ((hC.fr0 M.fr).blk) 8 X)) (oc 4 15 X X M (oa 5 15 X X M (λ_ M=>BK X X X underlying87 underlying9 D4 ((hC.fr0 M.fr).O) (hC.getO _)) ?_))))));obtain ⟨z,hz⟩:=BM (l:=(c.outs via)) (i:=0) AA;obtain ⟨b_z,o_z,hA_z⟩:=B5 (k:=1) AA ((hC.fr0 M.fr).rdO _) hz;refine oa 6 15 X X M (λ_ M=>AN 0 hA_z X X X (sl X) AA) (ol 7 15 X X X M (λ_ M=>(D9 DQ ((hC.fr0 M.fr).rdO _) hA_z hz 0 X)) (oc 8 15 X X M (oa 9 15 X X M (λ_ M=>FV X X X C2) (oc 10 15 X X M (ol 11 15 X X X M (λ_ M=>(M.cell 2 X X)) (oa 12 15 X X M (λ_ M=>FV X X X C2) (oc 14 15 X X M (B2 13 (some 83) gkr X (wn_none X) X X (λρ hρ=>D3 [str ((via++[32])++t.loc)] _ hρ X X X X underlying48 CS B3 B3 (FP X)) ?_))))))));rintro _ w10 ⟨g83,rfl,hg83,hq83,hb83,hfw10⟩
        replace hb83:Blk w10 g83 9 ([str ((via++[32])++t.loc)]):=hb83
        refine ⟨λ_=>M.step hfw10,?_⟩;have M:=M.push hfw10 _ hb83 (DO hg83 hq83)
        replace M:Mem w AR (As.blk g83 9 ([str ((via++[32])++t.loc)])::_) w10:=M
        refine fo1 15 X X (yp X) (fo1 16 X X (yp X) (fdn (qx_seq (sx_ret (qx_block_ret (qx_then_ret (IT X X X X ?_)))))));have hE:DW m c t via=(z,[((via++[32])++t.loc)],true):=by rw [DW,AM h17,AM h28,AM h54,if_pos h61];rw [hz];rfl
        rw [hE];have M:=M.blkOwn 0 (size:=1) (n:=1) X X (by unfold maxLen;omega);exact ⟨_,_,X,M.own 0 X,M.fr⟩
       ·have h61p:=(odf h61);refine sx_skip (qx_block_normal (qx_seq (AE X (AV X X (yl X X (Blk.c ((hC.fr0 M.fr).blk) 8 X) (yb X (ya X (BK X X X underlying87 underlying9 D4 ((hC.fr0 M.fr).O) (hC.getO _)) ?_)))))));obtain ⟨z,hz⟩:=BM (l:=(c.outs via)) (i:=0) AA;obtain ⟨b_z,o_z,hA_z⟩:=B5 (k:=1) AA ((hC.fr0 M.fr).rdO _) hz;refine ya X (AN 0 hA_z X X X (sl X) AA) (yl X X (D9 DQ ((hC.fr0 M.fr).rdO _) hA_z hz 0 X) (yb X (ya X (FV X X X C2) (CN M (wn_none X) X X [str (via++[33])] ([str (via++[33])]) X X X X underlying48 CS X X (FP X) X λg94 w11 hg94 M=>AV X X (yb X (gnr (IT X X X X ?_)))))));have hE:DW m c t via=(z,[(via++[33])],true):=by rw [DW,AM h17,AM h28,AM h54,AM h61];rw [hz];rfl
        rw [hE];have M:=M.blkOwn 0 (size:=1) (n:=1) X X (by unfold maxLen;omega);exact ⟨_,_,X,M.own 0 X,M.fr⟩
    refine AI (d:=37) X (λh37=>?_) (λh37=>?_)
    ·exact gyq X (gyq X (CE M 1 X X X (yd X (CX X X X) (yb X (k37 M ⟨X,X,X,(by rw [h37];rfl),trivial⟩)))))
    ·iterate 4 refine yo X ?_
     exact yb X (k37 M ⟨X,X,X,(by rw [h37];rfl),trivial⟩)
   refine AI (d:=32) X (λh32=>?_) (λh32=>?_)
   ·exact gyq X (CE M 1 X X X (yd X (C9 X X X) (yb X (k32 M ⟨X,X,X,(by rw [h32];rfl),trivial⟩))))
   ·exact yo X (yo X (yo X (yb X (k32 M ⟨X,X,X,(by rw [h32];rfl),trivial⟩))))
 refine AI (d:=21) X (λh21=>?_) (λh21=>?_)
 ·exact gyq X (gyq X (CE M 1 X X X (yd X (CX X X X) (yb X (k21 M ⟨X,X,X,X,(by rw [h21];rfl),trivial⟩)))))
 ·iterate 4 refine yo X ?_
  exact yb X (k21 M ⟨X,X,X,X,(by rw [h21];rfl),trivial⟩)
end Go.Proofs.YtaheakjfkpkefaaGreatDoor
