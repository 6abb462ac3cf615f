/- Lemmas. -/
import Derived.Test.YtaheakjfkpkefaaGreatDoorVMw8
set_option maxHeartbeats 16000000
set_option maxRecDepth 100000
namespace Go.Proofs.YtaheakjfkpkefaaGreatDoor
open Go.RowKit
open Tryz
def onP (l:List Tk) (q:List UInt8):Bool:=l.any λt=>decide (t.on=q)
theorem wG {l l':List Tk} {L:List (List UInt8 × Value)} {y:Tk} (h:∀q,(CA L q).getD (.bool false)=.bool (onP l q)) (hl:l'=l++[y]):∀q,(CA (D2 L y.on (.bool true)) q).getD (.bool false)=.bool (onP l' q):=λq=>by
 rw [hl,EL];unfold onP;rw [List.any_append]
 by_cases hq:q=y.on
 ·rw [if_pos hq,hq];simp
 ·have:¬y.on=q:=λe=>hq e.symm
  rw [if_neg hq,h q];unfold onP;simp [this]
def gJ (i:In) (j:Nat):Int:=((i.toks[j-1]?).map (·.id)).getD 0
theorem j9 (l:List Tk) (g10 g79:Nat) (L:List (List UInt8 × Value)) (f:List UInt8) (w:World) (hb:Blk w g10 92 [.map (some g79)]) (hm:Mp w g79 L) (hon:∀q,(CA L q).getD (.bool false)=.bool (onP l q)) :
 Calls prog 34 #[str f,pg g10] w (BI w (.bool (!(onP l f)))):=by
 refine BH func34 ntmps34 X λM=>srg (AJ X (srg (yl X X (Blk.c (hb.fr0 M.fr) 0 X) (yb X (ya X (BK X X X underlying92 underlying9 N8 (Mp.fr hm M.fr (λhh=>hh)) (hon f)) (AV X X (gnr ?_)))))))
 exact gr1 X ⟨X,M.fr⟩
theorem j5 (A:Option Addr) (c:Nat) (l:List (List UInt8)) (hl:l.length≤4611686018427387904) (f:FuncId) (cs:List Value) (p:Nat→(List UInt8)→Bool) (S:Nat→Prop) (J:Nat→World→Prop) (w:World) (hP:PredJ prog f cs str l p S J w) (hR:∀w1,Fr S w w1→Rd w1 A (l.length*1) (AD C0 l)) (hJ:J 0 w) :
 Calls prog 33 #[.slice A l.length c,.func (.func f) #[] cs.toArray] w λe w'=>e=.returned (.bool (decide (0≤ixJ p 0 l)))∧J (ixN p 0 l) w'∧Fr S w w':=by
 refine sx_enter (vs:=[_,_]) func33 X ntmps33 X ?_;have M:Mem w S [] w:=Mem.nil w;refine srg (AJ X (AE X (yb X (cl 7 X (AG X X call62) (Z2 A c l hl f cs p S J _ hP hR hJ) ?_))));rintro _ w9 ⟨rfl,hJ,hf9⟩;refine ⟨_,X,?_⟩;have M:Mem w S [] w9:=Mem.ofFr hf9;exact JU X X (yb X (gnr (gr1 X ⟨X,hJ,M.fr⟩)))
theorem jJ (A:Option Addr) (c:Nat) (l:List (List UInt8)) (w:World) (hl:l.length≤4611686018427387904) (f:FuncId) (cs:List Value) (p:List UInt8→Bool) (hP:PredJ prog f cs str l (λ_=>p) AR (λ_ _=>True) w) (hR:Rd w A (l.length*1) (AD C0 l)) :
 Calls prog 33 #[.slice A l.length c,.func (.func f) #[] cs.toArray] w (BI w (.bool (l.any p))):=
 (j5 A c l hl f cs (λ_=>p) AR (λ_ _=>True) w hP (λ_ hf=>hR.fr0 hf) trivial).mono λ_ _ ⟨h1,_,h2⟩=>⟨by rw [h1,JT],h2⟩
def JX (m:Md) (i:In) (next k:Int):Bool:=(if (((((((decide ((0:Int)≤next))&&(decide (next≤(2147483647:Int))))&&(decide ((0:Int)≤k)))&&(decide (k≤(1099511627776:Int))))&&(decide (i.mdl=m.id)))&&(decide ((1:Int)≤i.id)))&&(decide (i.id≤next)))=true then (FN i.vars m.vars) else false)
def QM (m:Md) (i:In) (next k:Int):Bool:=(if (decide ((i.st.toNat:Int)=(1:Int)))=true then ((JX m i next k)&&(decide ((0:Int)<((i.toks.length:Nat):Int)))) else (if ((decide ((i.st.toNat:Int)=(2:Int))) || (decide ((i.st.toNat:Int)=(3:Int))))=true then ((JX m i next k)&&(decide (((i.toks.length:Nat):Int)=(0:Int)))) else false))
def NQ (m:Md) (c:CrA) (i:In) (next k:Int) (b1:Bool) (j:Nat) (y:Tk):Bool:=(if b1=true then (if (decide ((1:Int)≤y.id))=true then (if (decide (y.id≤next))=true then (if (!decide (y.id=i.id))=true then (if (decide (((j:Nat):Int)=(0:Int)))=true then (if (ET m c y)=true then (O5 y k) else false) else (if (decide ((gJ i j)<y.id))=true then (if (ET m c y)=true then (O5 y k) else false) else false)) else false) else false) else false) else false)
def pA (c:CrA) (i:In) (x:El):Bool:=(if (decide ((x.kind.toNat:Int)=(6:Int)))=true then (!(List.any (c.ins x.id) (λf => !(onP i.toks f)))) else false)
theorem xV {m:Md} {i:In} {next k:Int} (h:QM m i next k=true):0≤k∧k≤1099511627776:=by
 have h0:JX m i next k=true:=by
  cases hc:JX m i next k with
  | true=>rfl
  | false=>unfold QM at h;rw [hc] at h;simp at h
 unfold JX at h0
 repeat' split at h0
 all_goals first
  | (simp_all;done)
  | (simp_all;omega)
def bQ (m:Md) (c:CrA) (i:In) (next k:Int) (b0:Bool):Nat→Bool
 | 0=>b0
 | j+1=>match i.toks[j]? with
  | some y=>NQ m c i next k (bQ m c i next k b0 j) j y
  | none=>bQ m c i next k b0 j
theorem xU {m:Md} {c:CrA} {i:In} {next k:Int} {b1:Bool} {j:Nat} {y:Tk} (h:NQ m c i next k b1 j y=true):b1=true:=by
 cases b1 with
 | true=>rfl
 | false=>unfold NQ at h;simp at h
def E2 (m:Md) (c:CrA) (i:In) (next k:Int):Bool:=bQ m c i next k (QM m i next k) i.toks.length&&m.els.all (λx => !(pA c i x))
theorem ZR (m:Md) (gc:Nat) (c:CrA) (F:List Nat) (i:In) (V T:Option Addr) (vc tc:Nat) (next k:Int) (w:World) (ho:MdOk m) (hC:CourseN w m gc c F) (hil:∀q,(c.ins q).length≤400) (htl:i.toks.length≤1000000) (hok:BdOk i.vars) (hwk:∀t∈i.toks,(t.worker.length:Int)<4611686018427387904) (hV:Rd w V (i.vars.length*5) (AD Bd.cells i.vars)) (hT:Rd w T (i.toks.length*9) (AD Tk.cells i.toks)) (hY:Lay0 w) :
 Calls prog 14 #[pg gc,.agg (In.cells i V T vc tc).toArray,AC next,AC k] w (BI w (AC (if E2 m c i next k=true then 0 else 1))):=by
 have hne:=ho.nels;refine BH func14 ntmps14 X λM=>srg (CC M X X λg5 w1 hg5 M=>AJ X (sx_seq (AE X (ya X (J1 X X X (pt X)) (nq (sx_false X ?_))))))
 refine sx_skip (qx_seq (sx_seq (P4 ([(0,pg gc),(2,AC next),(3,AC k),(5,pg g5),(9,.bool (JX m i next k))]) (λw'=>Mem w AR [As.blk g5 33 (In.cells i V T vc tc)] w') ?_ (λkj3=>?_))))
 ·intro w2 M;refine qx_seq (sx_seq (AE X (AU M 0 X X X (nq (P4 ([(0,pg gc),(2,AC next),(3,AC k),(5,pg g5),(9,.bool (QM m i next k))]) (λw'=>Mem w AR [As.blk g5 33 (In.cells i V T vc tc)] w') ?_ (λkj0=>?_))))))
  ·intro w3 M;refine qx_seq (srg (I5 M (wn_none X) X X X λg79 w4 hg79 M=>EI M (wn_none X) X X 92 X [.map none] GS X λg10 w5 hg10 M=>gp1 M 0 X X X GW λw6 M=>nq (sx_seq (AE X (AU M 2 X X X ?_)))));refine DF X X (AJ X (sx_block (flp [82,81,10,5,3,2,0] (λze e wr mz=>∃(j:Nat) (b1:Bool) (L1:List (List UInt8 × Value)),e=(9,.bool b1)::(83,AC (j:Int))::ze∧Mem w AR [As.blk g10 92 [.map (some g79)],As.mp g79 L1,As.blk g5 33 (In.cells i V T vc tc)] wr∧(j≤i.toks.length)∧(b1=bQ m c i next k (QM m i next k) j)∧(b1=true→0≤k∧k≤1099511627776)∧(∀q,(CA L1 q).getD (.bool false)=.bool (onP (i.toks.take j) q))∧mz=i.toks.length-j) ⟨0,(QM m i next k),[],X,M,Nat.zero_le _,by first|rfl|(unfold QM;rfl),λh=>xV (by first|exact h|(unfold QM;exact h)),λ_=>rfl,rfl⟩ ?_)));rintro _ w7 _ ⟨j,b1,L1,rfl,M,hj,hbE,hbk,hon,rfl⟩;refine srg (BB X X (nq (sx_seq (AF X (λh84=>?_) (λh84=>?_)))))
   ·have h84p:=(odt h84);refine sx_skip (qx_seq (sx_seq (sx_block (AE X ?_))));obtain ⟨y,hy⟩:=BM (l:=i.toks) (i:=j) AA;obtain ⟨b_y,o_y,hA_y⟩:=B5 (k:=9) AA (hT.fr0 M.fr) hy;refine ya X (AN j hA_y X X X (sl X) AA) (ya X (AK X X (B6 Tk.len (hT.fr0 M.fr) hA_y hy) underlying56 X B4) (CI M X EM λg12 w8 hg12 M=>yb X (BD M 0 X X B4 X λw9 M=>nq (sx_seq (P4 ([(0,pg gc),(2,AC next),(3,AC k),(5,pg g5),(9,.bool (NQ m c i next k b1 j y)),(10,pg g10),(12,pg g12),(81,.slice T i.toks.length tc),(82,AC (i.toks.length:Int)),(83,AC (j:Int))]) (λw'=>Mem w AR [As.blk g12 56 (Tk.cells y),As.blk g10 92 [.map (some g79)],As.mp g79 L1,As.blk g5 33 (In.cells i V T vc tc)] w') ?_ (λkr15=>?_))))))
    ·intro  w10 M;refine qx_seq (sx_region (AU M 1 X X X (yb X (AU M 0 X X X (FH M 2 (wn_none X) X X X X X underlying92 underlying9 X λw11 M=>sxl_nil (qx_block_normal (qx_seq (sx_region (BV X X (yb X (sxl_nil (fag ⟨j+1,(NQ m c i next k b1 j y),D2 L1 y.on (.bool true),X,(M.pk [1,2,3]),?_,?_,?_,?_,X⟩))))))))))))
     ·omega
     ·rw [hbE,bQ,hy]
     ·exact λh=>hbk (xU h)
     ·exact wG hon (AP hy)
    refine GP M 47 CH λM=>oc 0 47 X X M (oc 1 47 X X M (DN (d:=89) X (λh89=>?_) (λh89=>?_)))
    ·refine ob 2 47 X (wn_on X X X) X X M (λ_ M=>yp X) (ob 3 47 X (wn_on X X X) X X M (λ_ M=>BF X X (sc X) (M.cell 0 X X)) (ob 4 47 X (wn_on X X X) X X M (λ_ M=>GV X X X) (oc 5 47 X X M (oc 6 47 X X M (DN (d:=94) X (λh94=>?_) (λh94=>?_))))))
     ·have h94p:=(odt h94);refine ob 7 47 X (wn_on X X X) X X M (λ_ M=>yp X) (ob 8 47 X (wn_on X X X) X X M (λ_ M=>BF X X (sc X) (M.cell 0 X X)) (ob 9 47 X (wn_on X X X) X X M (λ_ M=>yp X) (ob 10 47 X (wn_on X X X) X X M (λ_ M=>GH X X X) (oc 11 47 X X M (oc 12 47 X X M (DN (d:=100) X (λh100=>?_) (λh100=>?_)))))))
      ·have h100p:=(odt h100);refine ob 13 47 X (wn_on X X X) X X M (λ_ M=>yp X) (ob 14 47 X (wn_on X X X) X X M (λ_ M=>BF X X (sc X) (M.cell 0 X X)) (ob 15 47 X (wn_on X X X) X X M (λ_ M=>yp X) (ob 16 47 X (wn_on X X X) X X M (λ_ M=>BF X X (sc X) (M.cell 3 X X)) (ob 17 47 X (wn_on X X X) X X M (λ_ M=>DX X X X) (oc 18 47 X X M (oc 19 47 X X M (DN (d:=107) X (λh107=>?_) (λh107=>?_))))))))
       ·have h107p:=(odf (C5 h107));refine ob 20 47 X (wn_on X X X) X X M (λ_ M=>yp X) (ob 21 47 X (wn_on X X X) X X M (λ_ M=>C9 X X X) (ob 22 47 X (wn_on X X X) X X M (λ_ M=>yp X) (DN (d:=110) X (λh110=>?_) (λh110=>?_))))
        ·refine BG 23 47 X M (BG 24 47 X M (BG 25 47 X M (BG 26 47 X M (BG 27 47 X M (BG 28 47 X M (BG 29 47 X M (BG 30 47 X M (BG 31 47 X M (BG 32 47 X M (ob 33 47 X (wn_on X X X) X X M (λ_ M=>yp X) (oc 34 47 X X M (oc 35 47 X X M (ob 36 47 X (wn_on X X X) X X M (λ_ M=>yp X) (ob 37 47 X (wn_on X X X) X X M (λ_ M=>AK (xs:=Tk.cells y) X X (M.rdBlk 0 X X) underlying56 X B4) (BQ 38 (some 126) gkr X (wn_on X X X) X X (AG X X call31) (SU m gc c F y _ ho (hC.fr0 M.fr)) ?_)))))))))))))));rintro _ w12 ⟨rfl,hfw12⟩;refine ⟨_,X,λ_=>M.step hfw12,?_⟩;have M:=M.step hfw12;refine oc 39 47 X X M (oc 40 47 X X M (DN (d:=128) X (λh128=>?_) (λh128=>?_)))
         ·refine ob 41 47 X (wn_on X X X) X X M (λ_ M=>yp X) (ob 42 47 X (wn_on X X X) X X M (λ_ M=>AK (xs:=Tk.cells y) X X (M.rdBlk 0 X X) underlying56 X B4) (ob 43 47 X (wn_on X X X) X X M (λ_ M=>yp X) (BQ 44 (some 132) gkr X (wn_on X X X) X X (AG X X call32) (XT gc y k _ (hwk y (List.mem_of_getElem? hy)) (hbk h89)) ?_)));rintro _ w13 ⟨rfl,hfw13⟩;refine ⟨_,X,λ_=>M.step hfw13,?_⟩;have M:=M.step hfw13;exact oc 45 47 X X M (oc 46 47 X X M (fdn (kr15  _ _ M ⟨X,X,X,X,(by rw [NQ,if_pos h89,if_pos h94,if_pos h100,if_pos h107,if_pos h110,if_pos h128];rfl),X,X,X,X,X,trivial⟩)))
         ·exact BG 41 47 X M (BG 42 47 X M (BG 43 47 X M (BG 44 47 X M (oc 45 47 X X M (oc 46 47 X X M (fdn (kr15  _ _ M ⟨X,X,X,X,(by rw [NQ,if_pos h89,if_pos h94,if_pos h100,if_pos h107,if_pos h110,AM h128];rfl),X,X,X,X,X,trivial⟩)))))))
        ·have h110p:=(odf h110);refine ob 23 47 X (wn_on X X X) X X M (λ_ M=>yp X) (ob 24 47 X (wn_on X X X) X X M (λ_ M=>BF X X (sc X) (M.cell 3 X X)) (ob 25 47 X (wn_on X X X) X X M (λ_ M=>yp X) (ob 26 47 X (wn_on X X X) X X M (λ_ M=>CK (a:=j) (b:=1) X X X AA AA) ?_)));obtain ⟨y2,hy2⟩:=BM (l:=i.toks) (i:=j-1) AA;obtain ⟨b_y2,o_y2,hA_y2⟩:=B5 (k:=9) AA (hT.fr0 M.fr) hy2;refine ob 27 47 X (wn_on X X X) X X M (λ_ M=>AN (j-1) hA_y2 X X X (sl X) AA) (ob 28 47 X (wn_on X X X) X X M (λ_ M=>yp X) ?_);have hpd:gJ i j=y2.id:=by unfold gJ;rw [hy2];rfl
         refine ob 29 47 X (wn_on X X X) X X M (λ_ M=>BF X X (sc X) (hpd▸D9 Tk.len (hT.fr0 M.fr) hA_y2 hy2 0 X)) (ob 30 47 X (wn_on X X X) X X M (λ_ M=>yp X) (ob 31 47 X (wn_on X X X) X X M (λ_ M=>BF X X (sc X) (M.cell 0 X X)) (ob 32 47 X (wn_on X X X) X X M (λ_ M=>E0 X X X) (ob 33 47 X (wn_on X X X) X X M (λ_ M=>yp X) (oc 34 47 X X M (oc 35 47 X X M (DN (d:=123) X (λh123=>?_) (λh123=>?_))))))))
         ·refine ob 36 47 X (wn_on X X X) X X M (λ_ M=>yp X) (ob 37 47 X (wn_on X X X) X X M (λ_ M=>AK (xs:=Tk.cells y) X X (M.rdBlk 0 X X) underlying56 X B4) (BQ 38 (some 126) gkr X (wn_on X X X) X X (AG X X call31) (SU m gc c F y _ ho (hC.fr0 M.fr)) ?_));rintro _ w14 ⟨rfl,hfw14⟩;refine ⟨_,X,λ_=>M.step hfw14,?_⟩;have M:=M.step hfw14;refine oc 39 47 X X M (oc 40 47 X X M (DN (d:=128) X (λh128=>?_) (λh128=>?_)))
          ·refine ob 41 47 X (wn_on X X X) X X M (λ_ M=>yp X) (ob 42 47 X (wn_on X X X) X X M (λ_ M=>AK (xs:=Tk.cells y) X X (M.rdBlk 0 X X) underlying56 X B4) (ob 43 47 X (wn_on X X X) X X M (λ_ M=>yp X) (BQ 44 (some 132) gkr X (wn_on X X X) X X (AG X X call32) (XT gc y k _ (hwk y (List.mem_of_getElem? hy)) (hbk h89)) ?_)));rintro _ w15 ⟨rfl,hfw15⟩;refine ⟨_,X,λ_=>M.step hfw15,?_⟩;have M:=M.step hfw15;exact oc 45 47 X X M (oc 46 47 X X M (fdn (kr15  _ _ M ⟨X,X,X,X,(by rw [NQ,if_pos h89,if_pos h94,if_pos h100,if_pos h107,AM h110,if_pos h123,if_pos h128];rfl),X,X,X,X,X,trivial⟩)))
          ·exact BG 41 47 X M (BG 42 47 X M (BG 43 47 X M (BG 44 47 X M (oc 45 47 X X M (oc 46 47 X X M (fdn (kr15  _ _ M ⟨X,X,X,X,(by rw [NQ,if_pos h89,if_pos h94,if_pos h100,if_pos h107,AM h110,if_pos h123,AM h128];rfl),X,X,X,X,X,trivial⟩)))))))
         ·exact BG 36 47 X M (BG 37 47 X M (BG 38 47 X M (oc 39 47 X X M (oc 40 47 X X M (BG 41 47 X M (BG 42 47 X M (BG 43 47 X M (BG 44 47 X M (oc 45 47 X X M (oc 46 47 X X M (fdn (kr15  _ _ M ⟨X,X,X,X,(by rw [NQ,if_pos h89,if_pos h94,if_pos h100,if_pos h107,AM h110,AM h123];rfl),X,X,X,X,X,trivial⟩))))))))))))
       ·refine BG 20 47 X M (BG 21 47 X M (BG 22 47 X M (EC 23 47 X X M (EC 24 47 X X M (EC 25 47 X X M (EC 26 47 X X M (EC 27 47 X X M (EC 28 47 X X M (EC 29 47 X X M (EC 30 47 X X M (EC 31 47 X X M (EC 32 47 X X M (BG 33 47 X M (oc 34 47 X X M (oc 35 47 X X M ?_)))))))))))))));exact BG 36 47 X M (BG 37 47 X M (BG 38 47 X M (oc 39 47 X X M (oc 40 47 X X M (BG 41 47 X M (BG 42 47 X M (BG 43 47 X M (BG 44 47 X M (oc 45 47 X X M (oc 46 47 X X M (fdn (kr15  _ _ M ⟨X,X,X,X,(by rw [NQ,if_pos h89,if_pos h94,if_pos h100,AM h107];rfl),X,X,X,X,X,trivial⟩))))))))))))
      ·refine BG 13 47 X M (BG 14 47 X M (BG 15 47 X M (BG 16 47 X M (BG 17 47 X M (oc 18 47 X X M (oc 19 47 X X M (BG 20 47 X M (BG 21 47 X M (BG 22 47 X M (EC 23 47 X X M (EC 24 47 X X M (EC 25 47 X X M (EC 26 47 X X M (EC 27 47 X X M (EC 28 47 X X M ?_)))))))))))))));refine EC 29 47 X X M (EC 30 47 X X M (EC 31 47 X X M (EC 32 47 X X M (BG 33 47 X M (oc 34 47 X X M (oc 35 47 X X M (BG 36 47 X M (BG 37 47 X M (BG 38 47 X M (oc 39 47 X X M (oc 40 47 X X M (BG 41 47 X M (BG 42 47 X M (BG 43 47 X M (BG 44 47 X M ?_)))))))))))))));exact oc 45 47 X X M (oc 46 47 X X M (fdn (kr15  _ _ M ⟨X,X,X,X,(by rw [NQ,if_pos h89,if_pos h94,AM h100];rfl),X,X,X,X,X,trivial⟩)))
     ·refine BG 7 47 X M (BG 8 47 X M (BG 9 47 X M (BG 10 47 X M (oc 11 47 X X M (oc 12 47 X X M (BG 13 47 X M (BG 14 47 X M (BG 15 47 X M (BG 16 47 X M (BG 17 47 X M (oc 18 47 X X M (oc 19 47 X X M (BG 20 47 X M (BG 21 47 X M (BG 22 47 X M ?_)))))))))))))));refine EC 23 47 X X M (EC 24 47 X X M (EC 25 47 X X M (EC 26 47 X X M (EC 27 47 X X M (EC 28 47 X X M (EC 29 47 X X M (EC 30 47 X X M (EC 31 47 X X M (EC 32 47 X X M (BG 33 47 X M (oc 34 47 X X M (oc 35 47 X X M (BG 36 47 X M (BG 37 47 X M (BG 38 47 X M ?_)))))))))))))));exact oc 39 47 X X M (oc 40 47 X X M (BG 41 47 X M (BG 42 47 X M (BG 43 47 X M (BG 44 47 X M (oc 45 47 X X M (oc 46 47 X X M (fdn (kr15  _ _ M ⟨X,X,X,X,(by rw [NQ,if_pos h89,AM h94];rfl),X,X,X,X,X,trivial⟩)))))))))
    ·refine BG 2 47 X M (BG 3 47 X M (BG 4 47 X M (oc 5 47 X X M (oc 6 47 X X M (BG 7 47 X M (BG 8 47 X M (BG 9 47 X M (BG 10 47 X M (oc 11 47 X X M (oc 12 47 X X M (BG 13 47 X M (BG 14 47 X M (BG 15 47 X M (BG 16 47 X M (BG 17 47 X M ?_)))))))))))))));refine oc 18 47 X X M (oc 19 47 X X M (BG 20 47 X M (BG 21 47 X M (BG 22 47 X M (EC 23 47 X X M (EC 24 47 X X M (EC 25 47 X X M (EC 26 47 X X M (EC 27 47 X X M (EC 28 47 X X M (EC 29 47 X X M (EC 30 47 X X M (EC 31 47 X X M (EC 32 47 X X M (BG 33 47 X M ?_)))))))))))))));exact oc 34 47 X X M (oc 35 47 X X M (BG 36 47 X M (BG 37 47 X M (BG 38 47 X M (oc 39 47 X X M (oc 40 47 X X M (BG 41 47 X M (BG 42 47 X M (BG 43 47 X M (BG 44 47 X M (oc 45 47 X X M (oc 46 47 X X M (fdn (kr15  _ _ M ⟨X,X,X,X,(by rw [NQ,AM h89];rfl),X,X,X,X,X,trivial⟩))))))))))))))
   ·have h84p:=(odf h84);refine sx_exit (qx_then_exit (qx_then_exit ?_));obtain rfl:j=i.toks.length:=by omega
    rw [List.take_length] at hon
    refine qx_block_hit (qx_seq (sx_seq (srg ?_)));iterate 4 refine yb X ?_
    refine yl X X (Blk.c ((hC.fr0 M.fr).blk) 3 X) (DF X X (AJ X (sx_block (JJ M [143,142,10,0] (λze zF e wr mz=>∃(q:Nat) (b2:Bool),e=(9,.bool b2)::(144,AC ((q:Nat):Int))::ze∧zF wr∧(q≤m.els.length)∧(b2=(b1&&(m.els.take q).all (λx => !(pA c i x))))∧mz=m.els.length-q) ⟨0,b1,X,M,Nat.zero_le _,(Bool.and_true _).symm,X⟩ ?_))));rintro _ w16 _ ⟨q,b2,rfl,M,hq,hb2,rfl⟩;refine srg (BB X X (nq (sx_seq (AF X (λh145=>?_) (λh145=>?_)))))
    ·have h145p:=(odt h145);refine sx_skip (qx_seq (sx_seq (sx_block (srg ?_))));obtain ⟨x,hx⟩:=BM (l:=m.els) (i:=q) AA;obtain ⟨b_x,o_x,hA_x⟩:=B5 (k:=11) AA ((hC.fr0 M.fr).md.md.els) hx;refine ya X (AN q hA_x X X X (sl X) AA) (ya X (AK X X (B6 El.len ((hC.fr0 M.fr).md.md.els) hA_x hx) underlying95 X AQ) (CI M X AT λg14 w17 hg14 M=>BD M 0 X X AQ X λw18 M=>nq (sx_seq (P4 ([(0,pg gc),(9,.bool b2),(10,pg g10),(142,.slice c.a.E m.els.length c.a.ec),(143,AC (m.els.length:Int)),(144,AC ((q:Nat):Int)),(162,.bool (pA c i x))]) (λw'=>Mem w AR [As.blk g14 95 (El.cells x),As.blk g10 92 [.map (some g79)],As.mp g79 L1,As.blk g5 33 (In.cells i V T vc tc)] w') ?_ (λkj21=>?_)))))
     ·intro w19 M;refine qx_seq (AF X (λh162=>?_) (λh162=>?_))
      ·refine sx_region (yb X (sxl_nil (qx_block_normal (qx_seq (sx_region (BV X X (yb X (sxl_nil (fag ⟨q+1,false,X,(M.pk [1,2,3]),?_,?_,X⟩)))))))))
       ·omega
       ·rw [AP hx,List.all_append]
        first
         | (rw [hb2];simp [h162];done)
         | simp [h162]
      ·refine sx_skip (qx_block_normal (qx_seq (sx_region (BV X X (yb X (sxl_nil (fag ⟨q+1,b2,X,(M.pk [1,2,3]),?_,?_,X⟩)))))))
       ·omega
       ·rw [AP hx,List.all_append]
        first
         | (rw [hb2];simp [h162];done)
         | simp [h162]
     refine CY 12 CH gkr ?_;have M:=M.drew;refine sb X (EB M 0 X X X (sa X (C9 X X X) (sb X (DG (d:=151) X (λh151=>?_) (λh151=>?_)))))
     ·have h151p:=(odt h151);refine gsg X (yp X) (gsg X (yp X) (gsg X (yp X) (gsg X (BF X X (sc X) (Blk.c ((hC.fr0 M.fr).blk) 7 X)) (gsg X (yp X) (gsg X (BF X X (sc X) (M.cell 0 X X)) (gsg X (BK X X X underlying87 underlying9 D4 ((hC.fr0 M.fr).I) (hC.getI _)) (gsg X (CP (us:=[]) (vs:=[pg g10]) X X X) (C8 (sxl_call (some 160) (wn_on X X X) X X (AG X X call33) (jJ (NN (EU c.LI x.id)) (aO (EU c.LI x.id)) (c.ins x.id) _ (by have:=hil x.id;omega) 34 [pg g10] (λf => !(onP i.toks f)) (G5 call34 (λf _ w9 hf9=>j9 i.toks g10 g79 L1 f w9 ((M.blk 1 X).fr0 hf9) (Mp.fr (M.mp 2 X) hf9 (λhh=>hh)) hon)) ((hC.fr0 M.fr).rdI _)) ?_)))))))));rintro _ w20 ⟨rfl,hfw20⟩;refine ⟨_,X,?_⟩;have M:=M.step hfw20;exact gyq X (yb X (sxl_nil (kj21 _ _ M ⟨X,X,X,X,X,X,(by rw [pA,if_pos h151];rfl),trivial⟩)))
     ·iterate 8 refine DD X X X X X X ?_
      exact C8 (yo X (yo X (yb X (sxl_nil (kj21 _ _ M ⟨X,X,X,X,X,X,(by rw [pA,AM h151];rfl),trivial⟩)))))
    ·have h145p:=(odf h145);refine sx_exit (qx_then_exit (qx_then_exit ?_));obtain rfl:q=m.els.length:=by omega
     rw [List.take_length] at hb2
     refine qx_block_hit (qx_seq (sx_seq (AE X (AJ X (AF X (λh165=>?_) (λh165=>?_))))))
     ·exact AE X (gnr (qx_then_ret (gr1 X ⟨by rw [E2,←hbE,←hb2,if_neg (by rw [C5 h165];decide)],M.fr⟩)))
     ·exact sx_skip (qx_seq (AE X (gnr (gr1 X ⟨by rw [E2,←hbE,←hb2,if_pos (BL h165)],M.fr⟩))))
  refine sx_block (srg (BZ X X (AJ X (AF X (λh60=>?_) (λh60=>?_)))))
  ·refine sx_region (AV X X (fvm M 5 [9,5,3,2,0] [(68,.bool ((JX m i next k)&&(decide (0<(i.toks.length:Int)))))] ?_ (λk63=>?_)))
   ·intro w21 M;exact yb X (sxl_nil (qx_block_normal (kj0 _ _ M ⟨X,X,X,X,(by rw [QM,if_pos h60];rfl),trivial⟩)))
   refine AI (d:=63) X (λh63=>?_) (λh63=>?_)
   ·exact gyq X (CE M 0 X X X (yd X (FM X X (sl X)) (yd X (GU X X X) (yb X (k63 M ⟨X,X,X,X,X,(by rw [h63];rfl),trivial⟩)))))
   ·iterate 4 refine yo X ?_
    exact yb X (k63 M ⟨X,X,X,X,X,(by rw [h63];rfl),trivial⟩)
  ·refine sx_seq (srg (BZ X X (AJ X (IR [(0,pg gc),(2,AC next),(3,AC k),(5,pg g5),(9,.bool (JX m i next k)),(69,.bool ((decide ((i.st.toNat:Int)=2)) || (decide ((i.st.toNat:Int)=3))))] (λw'=>Mem w AR [As.blk g5 33 (In.cells i V T vc tc)] w') ?_ (λk69=>?_)))))
   ·intro w22 M;refine qx_seq (AF X (λh69=>?_) (λh69=>?_))
    ·have h69p:=((E1 h69).imp (λz=>(odt z)) (λz=>(odt z)));refine sx_region (AV X X (fvm M 5 [9,5,3,2,0] [(78,.bool ((JX m i next k)&&(decide ((i.toks.length:Int)=0))))] ?_ (λk73=>?_)))
     ·intro w23 M;exact yb X (sxl_nil (qx_block_normal (kj0 _ _ M ⟨X,X,X,X,(by rw [QM,AM h60,if_pos h69];rfl),trivial⟩)))
     refine AI (d:=73) X (λh73=>?_) (λh73=>?_)
     ·exact gyq X (CE M 0 X X X (yd X (FM X X (sl X)) (yd X (C9 X X X) (yb X (k73 M ⟨X,X,X,X,X,(by rw [h73];rfl),trivial⟩)))))
     ·iterate 4 refine yo X ?_
      exact yb X (k73 M ⟨X,X,X,X,X,(by rw [h73];rfl),trivial⟩)
    ·exact sx_region (yb X (sxl_nil (qx_block_normal (kj0 _ _ M ⟨X,X,X,X,(by rw [QM,AM h60,AM h69];rfl),trivial⟩))))
   refine AF X (λh69=>?_) (λh69=>?_)
   ·exact sx_skip (k69 _ _ M ⟨X,X,X,X,X,(by rw [h69];rfl),trivial⟩)
   ·exact sx_region (BZ X X (yb X (sxl_nil (k69 _ _ M ⟨X,X,X,X,X,(by rw [h69];rfl),trivial⟩))))
 refine CY 39 CH gkr ?_;have M:=M.drew;refine sb X (sa X (GV X X X) (sb X (fvs 3 [5,3,2,0] [(22,.bool ((decide ((0:Int)≤next))&&(decide (next≤(2147483647:Int)))))] ?_ (λk19=>?_))))
 ·refine sb X (fvs 3 [5,3,2,0] [(26,.bool (((decide ((0:Int)≤next))&&(decide (next≤(2147483647:Int))))&&(decide ((0:Int)≤k))))] ?_ (λk23=>?_))
  ·refine sb X (fvs 3 [5,3,2,0] [(30,.bool ((((decide ((0:Int)≤next))&&(decide (next≤(2147483647:Int))))&&(decide ((0:Int)≤k)))&&(decide (k≤(1099511627776:Int)))))] ?_ (λk27=>?_))
   ·refine sb X (fvs 9 [5,3,2,0] [(40,.bool (((((decide ((0:Int)≤next))&&(decide (next≤(2147483647:Int))))&&(decide ((0:Int)≤k)))&&(decide (k≤(1099511627776:Int))))&&(decide (i.mdl=m.id))))] ?_ (λk31=>?_))
    ·refine sb X (fvs 4 [5,3,2,0] [(45,.bool ((((((decide ((0:Int)≤next))&&(decide (next≤(2147483647:Int))))&&(decide ((0:Int)≤k)))&&(decide (k≤(1099511627776:Int))))&&(decide (i.mdl=m.id)))&&(decide ((1:Int)≤i.id))))] ?_ (λk41=>?_))
     ·refine sb X (fvs 5 [5,3,2,0] [(51,.bool (((((((decide ((0:Int)≤next))&&(decide (next≤(2147483647:Int))))&&(decide ((0:Int)≤k)))&&(decide (k≤(1099511627776:Int))))&&(decide (i.mdl=m.id)))&&(decide ((1:Int)≤i.id)))&&(decide (i.id≤next))))] ?_ (λk46=>?_))
      ·refine sb X (DG (d:=52) X (λh52=>?_) (λh52=>?_))
       ·refine gsg X (yp X) (gsg X (yp X) (gsg X (BF X X (sc X) (M.cell 0 X X)) (C8 (sxl_call (some 56) (wn_on X X X) X X (AG X X call30) (cP m gc c F i.vars V vc _ (hC.fr0 M.fr) hok (hV.fr0 M.fr) (hY.fr0 M.fr)) ?_))));rintro _ w24 ⟨rfl,hfw24⟩;refine ⟨_,X,?_⟩;have M:=M.step hfw24;exact AV X X (sxl_nil (kj3 _ _ M ⟨X,X,X,X,(by rw [JX,if_pos h52];rfl),trivial⟩))
       ·have h52p:=((CV h52).imp (λz=>((CV z).imp (λz=>((CV z).imp (λz=>((CV z).imp (λz=>((CV z).imp (λz=>((CV z).imp (λz=>(odf z)) (λz=>(odf z)))) (λz=>(odf z)))) (λz=>(odf z)))) (λz=>(odf z)))) (λz=>(odf z)))) (λz=>(odf z)));exact DD X X X X X X (DD X X X X X X (DD X X X X X X (C8 (yo X (AV X X (sxl_nil (kj3 _ _ M ⟨X,X,X,X,(by rw [JX,AM h52];rfl),trivial⟩)))))))
      refine DG (d:=46) X (λh46=>?_) (λh46=>?_)
      ·exact gsg X (yp X) (gsg X (BF X X (sc X) (M.cell 0 X X)) (gsg X (yp X) (gsg X (GH X X X) (sb X (k46 _ ⟨X,X,X,X,(by rw [h46];rfl),trivial⟩)))))
      ·iterate 4 refine DD X X X X X X ?_
       exact sb X (k46 _ ⟨X,X,X,X,(by rw [h46];rfl),trivial⟩)
     refine DG (d:=41) X (λh41=>?_) (λh41=>?_)
     ·exact gsg X (yp X) (gsg X (BF X X (sc X) (M.cell 0 X X)) (gsg X (GV X X X) (sb X (k41 _ ⟨X,X,X,X,(by rw [h41];rfl),trivial⟩))))
     ·exact DD X X X X X X (DD X X X X X X (DD X X X X X X (sb X (k41 _ ⟨X,X,X,X,(by rw [h41];rfl),trivial⟩))))
    refine DG (d:=31) X (λh31=>?_) (λh31=>?_)
    ·refine gsg X (yp X) (gsg X (BF X X (sc X) (M.cell 0 X X)) ?_);iterate 4 refine gsg X (yp X) ?_
     exact gsg X (BF X X (sc X) (Blk.c ((hC.fr0 M.fr).blk) 0 X)) (gsg X (CX X X X) (sb X (k31 _ ⟨X,X,X,X,(by rw [h31];rfl),trivial⟩)))
    ·iterate 8 refine DD X X X X X X ?_
     exact sb X (k31 _ ⟨X,X,X,X,(by rw [h31];rfl),trivial⟩)
   refine DG (d:=27) X (λh27=>?_) (λh27=>?_)
   ·exact gsg X (yp X) (gsg X (GH X X X) (sb X (k27 _ ⟨X,X,X,X,(by rw [h27];rfl),trivial⟩)))
   ·exact DD X X X X X X (DD X X X X X X (sb X (k27 _ ⟨X,X,X,X,(by rw [h27];rfl),trivial⟩)))
  refine DG (d:=23) X (λh23=>?_) (λh23=>?_)
  ·exact gsg X (yp X) (gsg X (GV X X X) (sb X (k23 _ ⟨X,X,X,X,(by rw [h23];rfl),trivial⟩)))
  ·exact DD X X X X X X (DD X X X X X X (sb X (k23 _ ⟨X,X,X,X,(by rw [h23];rfl),trivial⟩)))
 refine DG (d:=19) X (λh19=>?_) (λh19=>?_)
 ·exact gsg X (yp X) (gsg X (GH X X X) (sb X (k19 _ ⟨X,X,X,X,(by rw [h19];rfl),trivial⟩)))
 ·exact DD X X X X X X (DD X X X X X X (sb X (k19 _ ⟨X,X,X,X,(by rw [h19];rfl),trivial⟩)))
end Go.Proofs.YtaheakjfkpkefaaGreatDoor
