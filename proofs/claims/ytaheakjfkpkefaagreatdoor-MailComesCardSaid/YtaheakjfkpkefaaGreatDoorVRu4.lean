/- Lemmas. -/
import Derived.Test.YtaheakjfkpkefaaGreatDoorVEx9
import Derived.Test.YtaheakjfkpkefaaGreatDoorVRu3
set_option maxHeartbeats 16000000
set_option maxRecDepth 100000
namespace Go.Proofs.YtaheakjfkpkefaaGreatDoor
open Go.RowKit
open Tryz
def W8 : List (UInt8 × Int)→Option Int
 | []=>none
 | q::r=>if (!decide (q.2=0))=true then some q.2 else W8 r
def tyT (n:Xn) (vars:List Bd) (ts:List (UInt8 × Int)):UInt8 × Int:=
 if (decide ((n.op.toNat:Int)=(1:Int)))=true then (n.vl.kind,0)
 else if (decide ((n.op.toNat:Int)=(2:Int)))=true then (match ffN (λ(_:Nat) (b:Bd) => !(decide (b.name=n.nm))) 0 vars with
  | none=>(0,100)
  | some b=>(b.v.kind,0))
 else match W8 ts with
  | some e=>(0,e)
  | none=>R1 n.op (ts.map (·.1))
theorem cQ (f:Xq→UInt8 × Int):∀L:List Xq,OX f L=W8 (L.map f)
 | []=>rfl
 | q::r=>by rw [OX,List.map_cons,W8,cQ f r]
theorem yG (n:Xn) (vars:List Bd) (f:Xq→UInt8 × Int) (L:List Xq):tyW n vars f L=tyT n vars (L.map f):=by
 unfold tyW tyT;rw [cQ,List.map_map]
 rfl
def tyX (vars:List Bd):Xn→UInt8 × Int
 | .un o a=>tyT (.un o a) vars [tyX vars a]
 | .bin o a b=>tyT (.bin o a b) vars [tyX vars a,tyX vars b]
 | .zero=>tyT .zero vars []
 | .lit v=>tyT (.lit v) vars []
 | .var s=>tyT (.var s) vars []
theorem vJ (vars:List Bd) (n:Xn):tyX vars n=tyT n vars (n.kids.map (tyX vars)):=by cases n<;>simp [tyX,Xn.kids]
def OW (n:Xn) (vars:List Bd):UInt8 × Int:=if chkX n=true then tyX vars n else (0,1)
theorem eS {n:Xn} {k:Bool} (h:JE n k=true):(n.nk:Int)=NY n.op:=by
 unfold JE at h
 by_cases h1:(!decide ((n.nk:Int)=(NY n.op)))=true
 ·rw [if_pos h1] at h;cases h
 ·simpa using h1
theorem xT {n:Xn} {k:Bool} (h:JE n k=true):k=false:=by
 cases k with
 | false=>rfl
 | true=>
  exfalso
  unfold JE at h
  revert h
  repeat' split
  all_goals simp
theorem U0 {n a:Xn} (h:chkX n=true) (ha:a∈n.kids):chkX a=true:=by
 rw [RZ] at h
 have h1:=xT h;rw [List.any_eq_false] at h1
 simpa using h1 a ha
theorem eR {n:Xn} (h:chkX n=true) (h1:¬(n.op.toNat:Int)=1) (h2:¬(n.op.toNat:Int)=2):0<n.nk:=by
 rw [RZ] at h
 have h3:=eS h;unfold NY at h3
 split at h3
 ·omega
 ·rename_i h4
  have h5:=odf (C6 (Bool.eq_false_iff.2 h4)).1
  split at h3
  ·rename_i h6
   have:=odt h6
   omega
  ·split at h3<;>omega
theorem fE (vars:List Bd) (hvl:vars.length≤4611686018427387904):∀(n:Xn) (A:Option Addr) (F:List Nat) (V:Option Addr) (cv:Nat) (w:World),n.AtL 112 w A F→chkX n=true→Rd w V (vars.length*5) (AD Bd.cells vars) →
 Calls prog 191 #[.agg (n.cells A).toArray,.slice V vars.length cv] w (BI w (.tuple #[.int .u8 ((tyX vars n).1.toNat:Int),AC (tyX vars n).2])):=by
 refine Xn.ind λn ih A F V cv w hA hc hV=>?_
 obtain ⟨L,hL,hk,hR,hq⟩:=hA.kids;have h1:n.cells A=NX n A L.length:=by rw [hk];rfl
 have h2:tyX vars n=tyW n vars (λq=>tyX vars q.1) L:=by
  rw [yG,vJ,←hL,List.map_map];rfl
 rw [h1,h2];refine kD n A V cv vars L (λq=>tyX vars q.1) w hvl hV (by have:=n.nk_le;omega) hR (λh3 h4=>by rw [hk];exact eR hc h3 h4) (λq hq' W hW=>?_);obtain ⟨F',hF'⟩:=hq q hq';have hk':q.1∈n.kids:=by rw [←hL];exact List.mem_map_of_mem hq'
 exact ih q.1 hk' q.2 F' V cv W (hF'.fr0 hW) (U0 hc hk') (hV.fr0 hW)
theorem Xn.sm_mono {j k:Nat} (h:j≤k) (n:Xn):n.sm j→n.sm k:=by
 induction n with
 | zero=>exact id
 | lit v=>exact λq=>Nat.le_trans q h
 | var s=>exact λq=>Nat.le_trans q h
 | un o a ih=>exact ih
 | bin o a b ih1 ih2=>exact λq=>⟨ih1 q.1,ih2 q.2⟩
theorem SX (s:List UInt8):(CQ s).1.sm 1048576:=by
 by_cases h:256<s.length
 ·rw [show CQ s=(.zero,0,3) from if_pos h];trivial
 ·exact Xn.sm_mono AA _ (gL s)
def nP (vars:List Bd) (s:List UInt8):Bool:=((decide ((CQ s).2.2=(0:Int)))&&(decide ((OW (CQ s).1 vars).2=(0:Int))))&&(decide (((OW (CQ s).1 vars).1.toNat:Int)=(2:Int)))
theorem qR (vars:List Bd) (hvl:vars.length≤4611686018427387904) (n:Xn) (A:Option Addr) (F:List Nat) (V:Option Addr) (cv:Nat) (w:World) (hA:n.AtL 112 w A F) (hs:n.sm 1048576) (hU:Laid w utfL) (hV:Rd w V (vars.length*5) (AD Bd.cells vars)) :
 Calls prog 166 #[.agg (n.cells A).toArray,.slice V vars.length cv] w (BI w (.tuple #[.int .u8 ((OW n vars).1.toNat:Int),AC (OW n vars).2])):=by
 refine BH func166 ntmps166 X λM=>srg (CC M X X λg2 w1 hg2 M=>yb X (AJ X (sx_seq (srg (CB M 0 X X underlying112 AO X (CD M 7 X X call190 (ZQ n A F _ (hA.fr0 M.fr) hs (G7 hU M.fr)) λw2 M=>yb X (sxl_nil ?_)))))))
 refine qx_seq (AF X (λh8=>?_) (λh8=>?_))
 ·replace h8:=C5 h8
  exact AE X (yb X (gnr (qx_then_ret (C4 X X X ⟨by rw [OW,AM h8];rfl,M.fr⟩))))
 ·replace h8:=BL h8
  refine sx_skip (qx_seq (srg (CB M 0 X X underlying112 AO X (yb X (CD M 11 X X call191 (fE vars hvl n A F V cv _ (hA.fr0 M.fr) h8 (hV.fr0 M.fr)) λw3 M=>?_)))));iterate 4 refine yb X ?_
  exact gnr (C4 X X X ⟨by rw [OW,if_pos h8]<;>rfl,M.fr⟩)
theorem fZ (vars:List Bd) (hvl:vars.length≤4611686018427387904) (s:List UInt8) (hs:s.length≤4611686018427387904) (V:Option Addr) (cv:Nat) (w:World) (hY:Lay0 w) (hV:Rd w V (vars.length*5) (AD Bd.cells vars)) :
 Calls prog 128 #[str s,.slice V vars.length cv] w (BI w (.bool (nP vars s))):=by
 refine BH func128 ntmps128 X λM=>srg (AJ X (AE X (cl 12 X (AG X X call42) (YI s _ hs (hY.fr M.fr (λ_ h=>h.elim))) ?_)))
 rintro _ w1 ⟨A,F,rfl,hat,hnw,hfw1⟩;refine ⟨_,X,?_⟩;have M:=M.push hfw1 (As.xn 112 (CQ s).1 A F) hat hnw;iterate 4 refine yb X ?_
 refine CI M X CW λg5 w2 hg5 M=>BD M 0 X X AO X λw3 M=>yb X (AJ X (srg (CB M 0 X X underlying112 AO X (yb X (CD M 19 X X call166 (qR vars hvl (CQ s).1 A F V cv _ (M.ok 1 _ X) (SX s) (G7 hY.utf M.fr) (hV.fr0 M.fr)) λw4 M=>?_)))))
 iterate 5 refine yb X ?_
 refine nq (AE X (BZ X X (yb X (fvm M 3 [8,4] [(27,.bool ((decide ((CQ s).2.2=(0:Int)))&&(decide ((OW (CQ s).1 vars).2=(0:Int)))))] ?_ (λk24=>?_)))))
 ·intro w5 M;refine yb X (fvm M 3 [4] [(31,.bool (((decide ((CQ s).2.2=(0:Int)))&&(decide ((OW (CQ s).1 vars).2=(0:Int))))&&(decide (((OW (CQ s).1 vars).1.toNat:Int)=2))))] ?_ (λk28=>?_))
  ·intro w6 M;exact yb X (gnr (gr1 X ⟨X,M.fr⟩))
  refine AI (d:=28) X (λh28=>?_) (λh28=>?_)
  ·exact gyq X (yd X (C9 X X X) (yb X (k28 M ⟨X,(by rw [h28];rfl),trivial⟩)))
  ·exact yo X (yo X (yb X (k28 M ⟨X,(by rw [h28];rfl),trivial⟩)))
 refine AI (d:=24) X (λh24=>?_) (λh24=>?_)
 ·exact gyq X (yd X (C9 X X X) (yb X (k24 M ⟨X,X,(by rw [h24];rfl),trivial⟩)))
 ·exact yo X (yo X (yb X (k24 M ⟨X,X,(by rw [h24];rfl),trivial⟩)))
theorem Lay0.fr0 {w w':World} (h:Lay0 w) (hf:Fr0 w w'):Lay0 w':=h.fr hf (λ_ hh=>hh.elim)
def NW (m:Md) (y:Fl):Bool:=(if (((decide ((((BA m.els y.frm).getD zeroEl).kind.toNat:Int)=(5:Int)))&&(decide ((1:Int)<(((C3 m.fls y.frm).length:Nat):Int))))&&(!decide (((BA m.els y.frm).getD zeroEl).dflt=y.id)))=true then (if (!decide (y.cond=[]))=true then (nP m.vars y.cond) else false) else (decide (y.cond=[])))
theorem rC (m:Md) (a:MdA) (ix:IxA) (gx gp:Nat) (y:Fl) (w:World) (oy:FlOk y) (ho:MdOk m) (hx:IxAt w m a ix gx) (hp:Blk w gp 155 [pg gx]) (hY:Lay0 w) :
 Calls prog 127 #[.agg y.cells.toArray,pg gp] w (BI w (.bool (NW m y))):=by
 have hOl:=E4 m.fls y.frm;have hnf:=ho.nfls;refine BH func127 ntmps127 X λM=>srg (CC M X X λg2 w1 hg2 M=>AJ X (sx_seq (GP M 9 CH λM=>ol 0 9 X X X M (λ_ M=>(Blk.c (hp.fr0 M.fr) 0 X)) (oc 1 9 X X M (oc 2 9 X X M (ol 3 9 X X X M (λ_ M=>(Blk.c ((hx.fr0 M.fr).blk) 5 X)) (oc 4 9 X X M (ol 5 9 X X X M (λ_ M=>(M.cell 0 X X)) ?_))))))))
 refine oa 6 9 X X M (λ_ M=>BK X X X underlying85 underlying9 AT ((hx.fr0 M.fr).E) (hx.getE _)) (fon M 7 4 X X AT λg4 w2 hg4 M=>fop M 8 0 X X X AQ X (·.drop 1) λw3 M=>fdn (qx_seq (sx_seq (sx_seq (E8 CH gkr ?_)))));have M:=M.drew;refine sb X (EB M 0 X X X (sa X (C9 X X X) (sb X (fvs 10 [4,2,1] [(25,.bool ((decide ((((BA m.els y.frm).getD zeroEl).kind.toNat:Int)=5))&&(decide (1<((C3 m.fls y.frm).length:Int)))))] ?_ (λk15=>?_)))))
 ·refine sb X (fvs 6 [2,1] [(32,.bool (((decide ((((BA m.els y.frm).getD zeroEl).kind.toNat:Int)=5))&&(decide (1<((C3 m.fls y.frm).length:Int))))&&(!decide (((BA m.els y.frm).getD zeroEl).dflt=y.id))))] ?_ (λk26=>?_))
  ·refine EX (qx_seq (AF X (λh32=>?_) (λh32=>?_)))
   ·have h32p:=(And.intro (And.intro (odt (BR (BR h32).1).1) (odt (BR (BR h32).1).2)) (odf (C5 (BR h32).2)));refine sx_seq (CY 11 CH gkr ?_);have M:=M.drew;refine sb X (EB M 1 X X X (sa X (GT X X X) (sb X (DG (d:=36) X (λh36=>?_) (λh36=>?_)))))
    ·have h36p:=(odf (C5 h36));refine gsg X (yp X) (gsg X (BF X X (sc X) (M.cell 1 X X)) (gsg X (BF X X (sc X) (Blk.c (hp.fr0 M.fr) 0 X)) (gsg X (yp X) (gsg X (yp X) (gsg X (yp X) (gsg X (BF X X (sc X) (Blk.c ((hx.fr0 M.fr).blk) 2 X)) (C8 (sxl_call (some 44) (wn_on X X X) X X (AG X X call128) (fZ m.vars (by have:=ho.nvars;omega) y.cond (by have:=oy.cond;omega) _ _ _ (hY.fr0 M.fr) (hx.fr0 M.fr).md.vars) ?_))))))));rintro _ w4 ⟨rfl,hfw4⟩;refine ⟨_,X,?_⟩;have M:=M.step hfw4;exact AV X X (gnr (qx_then_ret (gr1 X ⟨by rw [NW,if_pos h32,if_pos h36],M.fr⟩)))
    ·iterate 7 refine DD X X X X X X ?_
     exact C8 (yo X (AV X X (gnr (qx_then_ret (gr1 X ⟨by rw [NW,if_pos h32,AM h36],M.fr⟩)))))
   ·have h32p:=((CV h32).imp (λz=>((CV z).imp (λz=>(odf z)) (λz=>(odf z)))) (λz=>(odt (BL z))));exact sx_skip (qx_seq (AE X (AU M 1 X X X (ya X (CX X X X) (yb X (gnr (gr1 X ⟨by rw [NW,AM h32],M.fr⟩)))))))
  refine DG (d:=26) X (λh26=>?_) (λh26=>?_)
  ·exact gsg X (yp X) (gsg X (BF X X (sc X) (M.cell 0 X X)) (gsg X (yp X) (gsg X (BF X X (sc X) (M.cell 1 X X)) (gsg X (GT X X X) (sb X (k26 _ ⟨X,X,(by rw [h26];rfl),trivial⟩))))))
  ·iterate 5 refine DD X X X X X X ?_
   exact sb X (k26 _ ⟨X,X,(by rw [h26];rfl),trivial⟩)
 refine DG (d:=15) X (λh15=>?_) (λh15=>?_)
 ·exact gsg X (BF X X (sc X) (Blk.c (hp.fr0 M.fr) 0 X)) (gsg X (yp X) (gsg X (yp X) (gsg X (BF X X (sc X) (Blk.c ((hx.fr0 M.fr).blk) 7 X)) (gsg X (yp X) (gsg X (BF X X (sc X) (M.cell 1 X X)) (gsg X (BK X X X underlying197 underlying9 zr_sl_api_Flow ((hx.fr0 M.fr).O) (hx.getO _)) (gsg X (FM X X (sl X)) (gsg X (GU X X X) (sb X (k15 _ ⟨X,X,X,(by rw [h15];rfl),trivial⟩))))))))))
 ·iterate 9 refine DD X X X X X X ?_
  exact sb X (k15 _ ⟨X,X,X,(by rw [h15];rfl),trivial⟩)
def Y5 (m:Md):Option (List UInt8):=match ffE (J2 m) m.els with
 | some k=>some k
 | none=>ffF (NW m) m.fls
theorem rA {m:Md} (h:(ffN (λ_=>(J2 m)) 0 m.els).isSome=true):Value.tuple #[str ((ffN (λ_=>(J2 m)) 0 m.els).elim [] (λx=>x.id)),.bool true]=K4 (Y5 m):=by
 unfold Y5 ffE K4
 cases hq:ffN (λ_=>(J2 m)) 0 m.els with
 | none=>rw [hq] at h;cases h
 | some x=>rfl
theorem r9 {m:Md} (h:(ffN (λ_=>(J2 m)) 0 m.els).isSome=false):Value.tuple #[str ((ffN (λ_=>(NW m)) 0 m.fls).elim [] (λx=>x.id)),.bool (ffN (λ_=>(NW m)) 0 m.fls).isSome]=K4 (Y5 m):=by
 rw [o8];unfold Y5 ffE
 cases hq:ffN (λ_=>(J2 m)) 0 m.els with
 | none=>rfl
 | some x=>rw [hq] at h;cases h
theorem rB (m:Md) (a:MdA) (ix:IxA) (gx:Nat) (w:World) (ho:MdOk m) (hx:IxAt w m a ix gx) (hY:Lay0 w) :
 Calls prog 71 #[pg gx] w (BI w (K4 (Y5 m))):=by
 refine BH func71 ntmps71 X λM=>srg (D6 M (wn_none X) X X 155 X X ([pg gx]) X λg1 w1 hg1 M=>yb X (AJ X (sx_seq (srg (AU M 0 X X X (AV X X (yb X ?_)))))))
 refine yl X X (Blk.c ((hx.fr0 M.fr).blk) 3 X) (ya X (CP (us:=[]) (vs:=[pg g1]) X X X) (CD M 13 X X call110 (IZ _ _ m.els (by have:=ho.nfls;have:=ho.nels;have:=ho.nvars;omega) 125 [pg g1] (J2 m) _ (G5 call125 (λz hz w9 hf9=>rD m a ix gx _ z w9 (ho.els z hz) ho ((hx.fr0 M.fr).fr0 hf9) ((M.blk 0 X).fr0 hf9))) (M.rd hx.md.els)) λw2 M=>?_));iterate 5 refine yb X ?_
 refine EV (AJ X (AF X (λh16=>?_) (λh16=>?_)))
 ·exact AE X (AV X X (gnr (qx_then_ret (C4 X X X ⟨congrArg Ending.returned (rA h16),M.fr⟩))))
 ·refine sx_skip (qx_seq (srg (AU M 0 X X X (AV X X (yb X (yl X X (Blk.c ((hx.fr0 M.fr).blk) 4 X) (ya X (CP (us:=[]) (vs:=[pg g1]) X X X) (CD M 24 X X call113 (VK _ _ m.fls (by have:=ho.nfls;have:=ho.nels;have:=ho.nvars;omega) 127 [pg g1] (NW m) _ (G5 call127 (λz hz w9 hf9=>rC m a ix gx _ z w9 (ho.fls z hz) ho ((hx.fr0 M.fr).fr0 hf9) ((M.blk 0 X).fr0 hf9) ((hY.fr0 M.fr).fr0 hf9))) (M.rd hx.md.fls)) λw3 M=>?_))))))));iterate 4 refine yb X ?_
  exact gnr (C4 X X X ⟨congrArg Ending.returned (r9 h16),M.fr⟩)
end Go.Proofs.YtaheakjfkpkefaaGreatDoor
