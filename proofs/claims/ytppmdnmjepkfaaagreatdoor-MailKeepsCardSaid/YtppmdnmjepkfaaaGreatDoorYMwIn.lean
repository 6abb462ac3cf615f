/- Lemmas. -/
import Derived.Test.YtppmdnmjepkfaaaGreatDoorYMw8
import Derived.SizedLaws
import Derived.Lib.SmallJoins
import Derived.ChangeArms
set_option maxHeartbeats 16000000
set_option maxRecDepth 100000
namespace Go.Proofs.YtppmdnmjepkfaaaGreatDoor
open Go.RowKit
open Tryz
open Decidable renaming decide→O
open Option renaming some→G,none→zx
open Bool renaming true→zz,false→zy
open True renaming intro→zw
open Go.Proofs.Tryz renaming prog→zv
open Go renaming Calls→zt
open Go renaming reachBytes→zu
def onP (l:List Tk) (q:Kz):Bool:=l.any λt=>O (t.on=q)
theorem a2h {l l':List Tk} {L:List (Kz × Kv)} {y:Tk} (h:∀q,(CG L q).getD (.bool zy)=.bool (onP l q)) (hl:l'=l++[y]):∀q,(CG (DG L y.on (.bool zz)) q).getD (.bool zy)=.bool (onP l' q):=λq=>by
 rw [hl,G6];unfold onP;rw [List.any_append]
 by_cases hq:q=y.on
 ·rw [Ac hq,hq];simp
 have:¬y.on=q:=λe=>hq e.symm
 rw [Ae hq,h q];unfold onP;simp [this]
def bM (i:In) (j:Nat):Int:=((i.toks[j-1]?).map (·.id)).getD 0
theorem q6 (l:List Tk) (g10 g79:Nat) (L:List (Kz × Kv)) (f:Kz) (w:Kw) (hb:Blk w g10 143 [.map (G g79)]) (hm:Mp w g79 L) (hon:∀q,(CG L q).getD (.bool zy)=.bool (onP l q)) :
 zt zv 168 #[str f,pg g10] w (BR w (.bool (!(onP l f)))):=by
 refine BO func168 ntmps168 X λM=>T7 ?_
 refine yl X X (Blk.c (hb.fr0 M.fr) 0 X) (yb X (ya X (CH X X X Em Ad RC (Mp.fr hm M.fr (λhh=>hh)) (hon f)) (W ?_)));exact gr1 X ⟨X,M.fr⟩
theorem q5 (A:Ky) (c:Nat) (l:List Kz) (hl:l.length≤4611686018427387904) (f:FuncId) (cs:Kx) (p:Nat→Kz→Bool) (S:Nat→Prop) (J:Nat→Kw→Prop) (w:Kw) (hP:PredJ zv f cs str l p S J w) (hR:∀w1,Fr S w w1→Rd w1 A (l.length*1) (AF BH l)) (hJ:J 0 w) :
 zt zv 167 #[.slice A l.length c,.func (.func f) #[] cs.toArray] w λe w'=>e=.returned (.bool (O (0≤ixJ p 0 l)))∧J (ixN p 0 l) w'∧Fr S w w':=by
 refine sx_enter (vs:=[_,_]) func167 X ntmps167 X ?_;have M:Mem w S [] w:=Mem.nil w;refine W ?_;refine cl 7 X (AE X X call185) (fU A c l hl f cs p S J _ hP hR hJ) ?_;rintro _ w9 ⟨rfl,hJ,hf9⟩;refine cq ?_;have M:Mem w S [] w9:=Mem.ofFr hf9;refine W ?_;exact gr1 X ⟨X,hJ,M.fr⟩
theorem qD (A:Ky) (c:Nat) (l:List Kz) (w:Kw) (hl:l.length≤4611686018427387904) (f:FuncId) (cs:Kx) (p:Kz→Bool) (hP:PredJ zv f cs str l (λ_=>p) AR (λ_ _=>True) w) (hR:Rd w A (l.length*1) (AF BH l)) :
 zt zv 167 #[.slice A l.length c,.func (.func f) #[] cs.toArray] w (BR w (.bool (l.any p))):=
 (q5 A c l hl f cs (λ_=>p) AR (λ_ _=>True) w hP (λ_ hf=>hR.fr0 hf) zw).mono λ_ _ ⟨h1,_,h2⟩=>⟨by rw [h1,MN],h2⟩
def M0 (m:Md) (i:In) (next k:Int):Bool:=(if (((((((O ((0:Int)≤next))&&(O (next≤(2147483647:Int))))&&(O ((0:Int)≤k)))&&(O (k≤(1099511627776:Int))))&&(O (i.mdl=m.id)))&&(O ((1:Int)≤i.id)))&&(O (i.id≤next)))=zz then (J0 i.vars m.vars) else zy)
def Q5 (m:Md) (i:In) (next k:Int):Bool:=(if (O ((i.st.toNat:Int)=(1:Int)))=zz then ((M0 m i next k)&&(O ((0:Int)<((i.toks.length:Nat):Int)))) else (if ((O ((i.st.toNat:Int)=(2:Int))) || (O ((i.st.toNat:Int)=(3:Int))))=zz then ((M0 m i next k)&&(O (((i.toks.length:Nat):Int)=(0:Int)))) else zy))
def N1 (m:Md) (c:CrA) (i:In) (next k:Int) (b1:Bool) (j:Nat) (y:Tk):Bool:=(if b1=zz then (if (O ((1:Int)≤y.id))=zz then (if (O (y.id≤next))=zz then (if (!decide (y.id=i.id))=zz then (if (O (((j:Nat):Int)=(0:Int)))=zz then (if (HQ m c y)=zz then (OR y k) else zy) else (if (O ((bM i j)<y.id))=zz then (if (HQ m c y)=zz then (OR y k) else zy) else zy)) else zy) else zy) else zy) else zy)
def kL (c:CrA) (i:In) (x:El):Bool:=(if (O ((x.kind.toNat:Int)=(6:Int)))=zz then (!(List.any (c.ins x.id) (λf => !(onP i.toks f)))) else zy)
theorem a2N {m:Md} {i:In} {next k:Int} (h:Q5 m i next k=zz):0≤k∧k≤1099511627776:=by
 have h0:M0 m i next k=zz:=by
  cases hc:M0 m i next k with
  | true=>rfl
  | false=>unfold Q5 at h;rw [hc] at h;simp at h
 unfold M0 at h0
 repeat' split at h0
 all_goals first
  | (simp_all;done)
  | (simp_all;omega)
def XY (m:Md) (c:CrA) (i:In) (next k:Int) (b0:Bool):Nat→Bool
 | 0=>b0
 | j+1=>match i.toks[j]? with
  | some y=>N1 m c i next k (XY m c i next k b0 j) j y
  | none=>XY m c i next k b0 j
theorem a2M {m:Md} {c:CrA} {i:In} {next k:Int} {b1:Bool} {j:Nat} {y:Tk} (h:N1 m c i next k b1 j y=zz):b1=zz:=by
 cases b1 with
 | true=>rfl
 | false=>unfold N1 at h;simp at h
def IE (m:Md) (c:CrA) (i:In) (next k:Int):Bool:=XY m c i next k (Q5 m i next k) i.toks.length&&m.els.all (λx => !(kL c i x))
theorem wZ (m:Md) (gc:Nat) (c:CrA) (F:List Nat) (i:In) (V T:Ky) (vc tc:Nat) (next k:Int) (w:Kw) (ho:MdOk m) (hC:CourseN w m gc c F) (hil:∀q,(c.ins q).length≤400) (htl:i.toks.length≤1000000) (hok:BdOk i.vars) (hwk:∀t∈i.toks,(t.worker.length:Int)<4611686018427387904) (hV:Rd w V (i.vars.length*5) (AF Bd.cells i.vars)) (hT:Rd w T (i.toks.length*9) (AF Tk.cells i.toks)) (hY:Lay0 w) :
 zt zv 105 #[pg gc,.agg (In.cells i V T vc tc).toArray,AA next,AA k] w (BR w (AA (if IE m c i next k=zz then 0 else 1))):=by
 have hne:=ho.nels;refine BO func105 ntmps105 X λM=>srg (CU M X X λg5 w1 hg5 M=>D1 X (sx_seq (CL X (ya X (N4 X X X (pt X)) (nq (sx_false X ?_))))))
 refine sx_skip (qx_seq (sx_seq (JL ([(0,pg gc),(2,AA next),(3,AA k),(5,pg g5),(9,.bool (M0 m i next k))]) (λw'=>Mem w AR [As.blk g5 42 (In.cells i V T vc tc)] w') ?_ (λkj3=>?_))))
 ·intro w2 M;refine qx_seq (sx_seq (CL X (EZ M 0 X X X (nq (JL ([(0,pg gc),(2,AA next),(3,AA k),(5,pg g5),(9,.bool (Q5 m i next k))]) (λw'=>Mem w AR [As.blk g5 42 (In.cells i V T vc tc)] w') ?_ (λkj0=>?_))))))
  ·intro w3 M;refine qx_seq (srg (K9 M (wn_none X) X X X λg79 w4 hg79 M=>G9 M (wn_none X) X X 143 X [.map zx] IT X λg10 w5 hg10 M=>gp1 M 0 X X X IW λw6 M=>nq (sx_seq (CL X (EZ M 2 X X X ?_)))));refine SF X X (D1 X (sx_block (flp [82,81,10,5,3,2,0] (λze e wr mz=>∃(j:Nat) (b1:Bool) (L1:List (Kz × Kv)),e=(9,.bool b1)::(83,AA (j:Int))::ze∧Mem w AR [As.blk g10 143 [.map (G g79)],As.mp g79 L1,As.blk g5 42 (In.cells i V T vc tc)] wr∧(j≤i.toks.length)∧(b1=XY m c i next k (Q5 m i next k) j)∧(b1=zz→0≤k∧k≤1099511627776)∧(∀q,(CG L1 q).getD (.bool zy)=.bool (onP (i.toks.take j) q))∧mz=i.toks.length-j) ⟨0,(Q5 m i next k),[],X,M,Aj _,by first|rfl|(unfold Q5;rfl),λh=>a2N (by first|exact h|(unfold Q5;exact h)),λ_=>rfl,rfl⟩ ?_)));rintro _ w7 _ ⟨j,b1,L1,rfl,M,hj,hbE,hbk,hon,rfl⟩;refine srg (G1 X X (nq (sx_seq (AC X (λh84=>?_) (λh84=>?_)))))
   ·have h84p:=(odt h84);refine sx_skip (qx_seq (sx_seq (sx_block (CL X ?_))));obtain ⟨y,hy⟩:=EJ (l:=i.toks) (i:=j) A0;obtain ⟨b_y,o_y,hA_y⟩:=DR (k:=9) A0 (hT.fr0 M.fr) hy;refine ya X (AK j hA_y X X X (sl X) A0) (ya X (AJ X X (BF Tk.len (hT.fr0 M.fr) hA_y hy) Bw X BE) (CE M X HX λg12 w8 hg12 M=>yb X (BX M 0 X X BE X λw9 M=>nq (sx_seq (JL ([(0,pg gc),(2,AA next),(3,AA k),(5,pg g5),(9,.bool (N1 m c i next k b1 j y)),(10,pg g10),(12,pg g12),(81,.slice T i.toks.length tc),(82,AA (i.toks.length:Int)),(83,AA (j:Int))]) (λw'=>Mem w AR [As.blk g12 75 (Tk.cells y),As.blk g10 143 [.map (G g79)],As.mp g79 L1,As.blk g5 42 (In.cells i V T vc tc)] w') ?_ (λkr15=>?_))))))
    ·intro  w10 M;refine qx_seq (sx_region (EZ M 1 X X X (yb X (EZ M 0 X X X (GR M 2 (wn_none X) X X X X X Em Ad X λw11 M=>sxl_nil (qx_block_normal (qx_seq (sx_region (D3 X X (yb X (sxl_nil (fag ⟨j+1,(N1 m c i next k b1 j y),DG L1 y.on (.bool zz),X,(M.pk [1,2,3]),?_,?_,?_,?_,X⟩))))))))))))
     ·omega
     ·rw [hbE,XY,hy]
     ·exact λh=>hbk (a2M h)
     exact a2h hon (AT hy)
    refine I0 M 47 CA λM=>oc 0 47 X X M (oc 1 47 X X M (CC (d:=89) X (λh89=>?_) (λh89=>?_)))
    ·refine ob 2 47 X (wn_on X X X) X X M (λ_ M=>yp X) (ob 3 47 X (wn_on X X X) X X M (λ_ M=>B3 X X (sc X) (M.cell 0 X X)) (ob 4 47 X (wn_on X X X) X X M (λ_ M=>LH X X X) (oc 5 47 X X M (oc 6 47 X X M (CC (d:=94) X (λh94=>?_) (λh94=>?_))))))
     ·have h94p:=(odt h94);refine ob 7 47 X (wn_on X X X) X X M (λ_ M=>yp X) (ob 8 47 X (wn_on X X X) X X M (λ_ M=>B3 X X (sc X) (M.cell 0 X X)) (ob 9 47 X (wn_on X X X) X X M (λ_ M=>yp X) (ob 10 47 X (wn_on X X X) X X M (λ_ M=>NO X X X) (oc 11 47 X X M (oc 12 47 X X M (CC (d:=100) X (λh100=>?_) (λh100=>?_)))))))
      ·have h100p:=(odt h100);refine ob 13 47 X (wn_on X X X) X X M (λ_ M=>yp X) (ob 14 47 X (wn_on X X X) X X M (λ_ M=>B3 X X (sc X) (M.cell 0 X X)) (ob 15 47 X (wn_on X X X) X X M (λ_ M=>yp X) (ob 16 47 X (wn_on X X X) X X M (λ_ M=>B3 X X (sc X) (M.cell 3 X X)) (ob 17 47 X (wn_on X X X) X X M (λ_ M=>KT X X X) (oc 18 47 X X M (oc 19 47 X X M (CC (d:=107) X (λh107=>?_) (λh107=>?_))))))))
       ·have h107p:=(odf (CJ h107));refine ob 20 47 X (wn_on X X X) X X M (λ_ M=>yp X) (ob 21 47 X (wn_on X X X) X X M (λ_ M=>ES X X X) (ob 22 47 X (wn_on X X X) X X M (λ_ M=>yp X) (CC (d:=110) X (λh110=>?_) (λh110=>?_))))
        ·refine AQ 23 47 X M (AQ 24 47 X M (AQ 25 47 X M (AQ 26 47 X M (AQ 27 47 X M (AQ 28 47 X M (AQ 29 47 X M (AQ 30 47 X M (AQ 31 47 X M (AQ 32 47 X M (ob 33 47 X (wn_on X X X) X X M (λ_ M=>yp X) (oc 34 47 X X M (oc 35 47 X X M (ob 36 47 X (wn_on X X X) X X M (λ_ M=>yp X) (ob 37 47 X (wn_on X X X) X X M (λ_ M=>AJ (xs:=Tk.cells y) X X (M.rdBlk 0 X X) Bw X BE) (BB 38 (G 126) zr X (wn_on X X X) X X (AE X X call109) (X1 m gc c F y _ ho (hC.fr0 M.fr)) ?_)))))))))))))));rintro _ w12 ⟨rfl,hfw12⟩;refine ⟨_,X,λ_=>M.step hfw12,?_⟩;have M:=M.step hfw12;refine oc 39 47 X X M (oc 40 47 X X M (CC (d:=128) X (λh128=>?_) (λh128=>?_)))
         ·refine ob 41 47 X (wn_on X X X) X X M (λ_ M=>yp X) (ob 42 47 X (wn_on X X X) X X M (λ_ M=>AJ (xs:=Tk.cells y) X X (M.rdBlk 0 X X) Bw X BE) (ob 43 47 X (wn_on X X X) X X M (λ_ M=>yp X) (BB 44 (G 132) zr X (wn_on X X X) X X (AE X X call166) (dN gc y k _ (hwk y (Ah hy)) (hbk h89)) ?_)));rintro _ w13 ⟨rfl,hfw13⟩;refine ⟨_,X,λ_=>M.step hfw13,?_⟩;have M:=M.step hfw13;exact oc 45 47 X X M (oc 46 47 X X M (fdn (kr15  _ _ M ⟨X,X,X,X,(by rw [N1,Ac h89,Ac h94,Ac h100,Ac h107,Ac h110,Ac h128];rfl),X,X,X,X,X,zw⟩)))
         exact AQ 41 47 X M (AQ 42 47 X M (AQ 43 47 X M (AQ 44 47 X M (oc 45 47 X X M (oc 46 47 X X M (fdn (kr15  _ _ M ⟨X,X,X,X,(by rw [N1,Ac h89,Ac h94,Ac h100,Ac h107,Ac h110,AN h128];rfl),X,X,X,X,X,zw⟩)))))))
        have h110p:=(odf h110);refine ob 23 47 X (wn_on X X X) X X M (λ_ M=>yp X) (ob 24 47 X (wn_on X X X) X X M (λ_ M=>B3 X X (sc X) (M.cell 3 X X)) (ob 25 47 X (wn_on X X X) X X M (λ_ M=>yp X) (ob 26 47 X (wn_on X X X) X X M (λ_ M=>ER (a:=j) (b:=1) X X X A0 A0) ?_)));obtain ⟨y2,hy2⟩:=EJ (l:=i.toks) (i:=j-1) A0;obtain ⟨b_y2,o_y2,hA_y2⟩:=DR (k:=9) A0 (hT.fr0 M.fr) hy2;refine ob 27 47 X (wn_on X X X) X X M (λ_ M=>AK (j-1) hA_y2 X X X (sl X) A0) (ob 28 47 X (wn_on X X X) X X M (λ_ M=>yp X) ?_);have hpd:bM i j=y2.id:=by unfold bM;rw [hy2];rfl
        refine ob 29 47 X (wn_on X X X) X X M (λ_ M=>B3 X X (sc X) (hpd▸BC Tk.len (hT.fr0 M.fr) hA_y2 hy2 0 X)) (ob 30 47 X (wn_on X X X) X X M (λ_ M=>yp X) (ob 31 47 X (wn_on X X X) X X M (λ_ M=>B3 X X (sc X) (M.cell 0 X X)) (ob 32 47 X (wn_on X X X) X X M (λ_ M=>HL X X X) (ob 33 47 X (wn_on X X X) X X M (λ_ M=>yp X) (oc 34 47 X X M (oc 35 47 X X M (CC (d:=123) X (λh123=>?_) (λh123=>?_))))))))
        ·refine ob 36 47 X (wn_on X X X) X X M (λ_ M=>yp X) (ob 37 47 X (wn_on X X X) X X M (λ_ M=>AJ (xs:=Tk.cells y) X X (M.rdBlk 0 X X) Bw X BE) (BB 38 (G 126) zr X (wn_on X X X) X X (AE X X call109) (X1 m gc c F y _ ho (hC.fr0 M.fr)) ?_));rintro _ w14 ⟨rfl,hfw14⟩;refine ⟨_,X,λ_=>M.step hfw14,?_⟩;have M:=M.step hfw14;refine oc 39 47 X X M (oc 40 47 X X M (CC (d:=128) X (λh128=>?_) (λh128=>?_)))
         ·refine ob 41 47 X (wn_on X X X) X X M (λ_ M=>yp X) (ob 42 47 X (wn_on X X X) X X M (λ_ M=>AJ (xs:=Tk.cells y) X X (M.rdBlk 0 X X) Bw X BE) (ob 43 47 X (wn_on X X X) X X M (λ_ M=>yp X) (BB 44 (G 132) zr X (wn_on X X X) X X (AE X X call166) (dN gc y k _ (hwk y (Ah hy)) (hbk h89)) ?_)));rintro _ w15 ⟨rfl,hfw15⟩;refine ⟨_,X,λ_=>M.step hfw15,?_⟩;have M:=M.step hfw15;exact oc 45 47 X X M (oc 46 47 X X M (fdn (kr15  _ _ M ⟨X,X,X,X,(by rw [N1,Ac h89,Ac h94,Ac h100,Ac h107,AN h110,Ac h123,Ac h128];rfl),X,X,X,X,X,zw⟩)))
         exact AQ 41 47 X M (AQ 42 47 X M (AQ 43 47 X M (AQ 44 47 X M (oc 45 47 X X M (oc 46 47 X X M (fdn (kr15  _ _ M ⟨X,X,X,X,(by rw [N1,Ac h89,Ac h94,Ac h100,Ac h107,AN h110,Ac h123,AN h128];rfl),X,X,X,X,X,zw⟩)))))))
        exact AQ 36 47 X M (AQ 37 47 X M (AQ 38 47 X M (oc 39 47 X X M (oc 40 47 X X M (AQ 41 47 X M (AQ 42 47 X M (AQ 43 47 X M (AQ 44 47 X M (oc 45 47 X X M (oc 46 47 X X M (fdn (kr15  _ _ M ⟨X,X,X,X,(by rw [N1,Ac h89,Ac h94,Ac h100,Ac h107,AN h110,AN h123];rfl),X,X,X,X,X,zw⟩))))))))))))
       refine AQ 20 47 X M (AQ 21 47 X M (AQ 22 47 X M (C9 23 47 X X M (C9 24 47 X X M (C9 25 47 X X M (C9 26 47 X X M (C9 27 47 X X M (C9 28 47 X X M (C9 29 47 X X M (C9 30 47 X X M (C9 31 47 X X M (C9 32 47 X X M (AQ 33 47 X M (oc 34 47 X X M (oc 35 47 X X M ?_)))))))))))))));exact AQ 36 47 X M (AQ 37 47 X M (AQ 38 47 X M (oc 39 47 X X M (oc 40 47 X X M (AQ 41 47 X M (AQ 42 47 X M (AQ 43 47 X M (AQ 44 47 X M (oc 45 47 X X M (oc 46 47 X X M (fdn (kr15  _ _ M ⟨X,X,X,X,(by rw [N1,Ac h89,Ac h94,Ac h100,AN h107];rfl),X,X,X,X,X,zw⟩))))))))))))
      refine AQ 13 47 X M (AQ 14 47 X M (AQ 15 47 X M (AQ 16 47 X M (AQ 17 47 X M (oc 18 47 X X M (oc 19 47 X X M (AQ 20 47 X M (AQ 21 47 X M (AQ 22 47 X M (C9 23 47 X X M (C9 24 47 X X M (C9 25 47 X X M (C9 26 47 X X M (C9 27 47 X X M (C9 28 47 X X M ?_)))))))))))))));refine C9 29 47 X X M (C9 30 47 X X M (C9 31 47 X X M (C9 32 47 X X M (AQ 33 47 X M (oc 34 47 X X M (oc 35 47 X X M (AQ 36 47 X M (AQ 37 47 X M (AQ 38 47 X M (oc 39 47 X X M (oc 40 47 X X M (AQ 41 47 X M (AQ 42 47 X M (AQ 43 47 X M (AQ 44 47 X M ?_)))))))))))))));exact oc 45 47 X X M (oc 46 47 X X M (fdn (kr15  _ _ M ⟨X,X,X,X,(by rw [N1,Ac h89,Ac h94,AN h100];rfl),X,X,X,X,X,zw⟩)))
     refine AQ 7 47 X M (AQ 8 47 X M (AQ 9 47 X M (AQ 10 47 X M (oc 11 47 X X M (oc 12 47 X X M (AQ 13 47 X M (AQ 14 47 X M (AQ 15 47 X M (AQ 16 47 X M (AQ 17 47 X M (oc 18 47 X X M (oc 19 47 X X M (AQ 20 47 X M (AQ 21 47 X M (AQ 22 47 X M ?_)))))))))))))));refine C9 23 47 X X M (C9 24 47 X X M (C9 25 47 X X M (C9 26 47 X X M (C9 27 47 X X M (C9 28 47 X X M (C9 29 47 X X M (C9 30 47 X X M (C9 31 47 X X M (C9 32 47 X X M (AQ 33 47 X M (oc 34 47 X X M (oc 35 47 X X M (AQ 36 47 X M (AQ 37 47 X M (AQ 38 47 X M ?_)))))))))))))));exact oc 39 47 X X M (oc 40 47 X X M (AQ 41 47 X M (AQ 42 47 X M (AQ 43 47 X M (AQ 44 47 X M (oc 45 47 X X M (oc 46 47 X X M (fdn (kr15  _ _ M ⟨X,X,X,X,(by rw [N1,Ac h89,AN h94];rfl),X,X,X,X,X,zw⟩)))))))))
    refine AQ 2 47 X M (AQ 3 47 X M (AQ 4 47 X M (oc 5 47 X X M (oc 6 47 X X M (AQ 7 47 X M (AQ 8 47 X M (AQ 9 47 X M (AQ 10 47 X M (oc 11 47 X X M (oc 12 47 X X M (AQ 13 47 X M (AQ 14 47 X M (AQ 15 47 X M (AQ 16 47 X M (AQ 17 47 X M ?_)))))))))))))));refine oc 18 47 X X M (oc 19 47 X X M (AQ 20 47 X M (AQ 21 47 X M (AQ 22 47 X M (C9 23 47 X X M (C9 24 47 X X M (C9 25 47 X X M (C9 26 47 X X M (C9 27 47 X X M (C9 28 47 X X M (C9 29 47 X X M (C9 30 47 X X M (C9 31 47 X X M (C9 32 47 X X M (AQ 33 47 X M ?_)))))))))))))));exact oc 34 47 X X M (oc 35 47 X X M (AQ 36 47 X M (AQ 37 47 X M (AQ 38 47 X M (oc 39 47 X X M (oc 40 47 X X M (AQ 41 47 X M (AQ 42 47 X M (AQ 43 47 X M (AQ 44 47 X M (oc 45 47 X X M (oc 46 47 X X M (fdn (kr15  _ _ M ⟨X,X,X,X,(by rw [N1,AN h89];rfl),X,X,X,X,X,zw⟩))))))))))))))
   have h84p:=(odf h84);refine sx_exit (qx_then_exit (qx_then_exit ?_));obtain rfl:j=i.toks.length:=A0
   rw [Bc] at hon
   refine qx_block_hit (qx_seq (sx_seq (srg ?_)));iterate 4 refine yb X ?_
   refine yl X X (Blk.c ((hC.fr0 M.fr).blk) 3 X) (SF X X (D1 X (sx_block (EC M [143,142,10,0] (λze zF e wr mz=>∃(q:Nat) (b2:Bool),e=(9,.bool b2)::(144,AA ((q:Nat):Int))::ze∧zF wr∧(q≤m.els.length)∧(b2=(b1&&(m.els.take q).all (λx => !(kL c i x))))∧mz=m.els.length-q) ⟨0,b1,X,M,Aj _,(Iz _).symm,X⟩ ?_))));rintro _ w16 _ ⟨q,b2,rfl,M,hq,hb2,rfl⟩;refine srg (G1 X X (nq (sx_seq (AC X (λh145=>?_) (λh145=>?_)))))
   ·have h145p:=(odt h145);refine sx_skip (qx_seq (sx_seq (sx_block (srg ?_))));obtain ⟨x,hx⟩:=EJ (l:=m.els) (i:=q) A0;obtain ⟨b_x,o_x,hA_x⟩:=DR (k:=11) A0 ((hC.fr0 M.fr).md.md.els) hx;refine ya X (AK q hA_x X X X (sl X) A0) (ya X (AJ X X (BF El.len ((hC.fr0 M.fr).md.md.els) hA_x hx) Bk X AM) (CE M X AP λg14 w17 hg14 M=>BX M 0 X X AM X λw18 M=>nq (sx_seq (JL ([(0,pg gc),(9,.bool b2),(10,pg g10),(142,.slice c.a.E m.els.length c.a.ec),(143,AA (m.els.length:Int)),(144,AA ((q:Nat):Int)),(162,.bool (kL c i x))]) (λw'=>Mem w AR [As.blk g14 106 (El.cells x),As.blk g10 143 [.map (G g79)],As.mp g79 L1,As.blk g5 42 (In.cells i V T vc tc)] w') ?_ (λkj21=>?_)))))
    ·intro w19 M;refine qx_seq (AC X (λh162=>?_) (λh162=>?_))
     ·refine sx_region (yb X (sxl_nil (qx_block_normal (qx_seq (sx_region (D3 X X (yb X (sxl_nil (fag ⟨q+1,zy,X,(M.pk [1,2,3]),?_,?_,X⟩)))))))))
      ·omega
      rw [AT hx,Gh]
      first
       | (rw [hb2];simp [h162];done)
       | simp [h162]
     refine sx_skip (qx_block_normal (qx_seq (sx_region (D3 X X (yb X (sxl_nil (fag ⟨q+1,b2,X,(M.pk [1,2,3]),?_,?_,X⟩)))))))
     ·omega
     rw [AT hx,Gh]
     first
      | (rw [hb2];simp [h162];done)
      | simp [h162]
    refine DZ 12 CA zr ?_;have M:=M.drew;refine sb X (cD M 0 X X X (sa X (ES X X X) (sb X (C3 (d:=151) X (λh151=>?_) (λh151=>?_)))))
    ·have h151p:=(odt h151);refine gsg X (yp X) (gsg X (yp X) (gsg X (yp X) (gsg X (B3 X X (sc X) (Blk.c ((hC.fr0 M.fr).blk) 7 X)) (gsg X (yp X) (gsg X (B3 X X (sc X) (M.cell 0 X X)) (gsg X (CH X X X Gp Ad JD ((hC.fr0 M.fr).I) (hC.getI _)) (gsg X (D8 (us:=[]) (vs:=[pg g10]) X X X) (DA (sxl_call (G 160) (wn_on X X X) X X (AE X X call167) (qD (Q2 (GH c.LI x.id)) (j3 (GH c.LI x.id)) (c.ins x.id) _ (by have:=hil x.id;omega) 168 [pg g10] (λf => !(onP i.toks f)) (J7 call168 (λf _ w9 hf9=>q6 i.toks g10 g79 L1 f w9 ((M.blk 1 X).fr0 hf9) (Mp.fr (M.mp 2 X) hf9 (λhh=>hh)) hon)) ((hC.fr0 M.fr).rdI _)) ?_)))))))));rintro _ w20 ⟨rfl,hfw20⟩;refine ⟨_,X,?_⟩;have M:=M.step hfw20;exact gyq X (yb X (sxl_nil (kj21 _ _ M ⟨X,X,X,X,X,X,(by rw [kL,Ac h151];rfl),zw⟩)))
    iterate 8 refine EI X X X X X X ?_
    exact DA (yo X (yo X (yb X (sxl_nil (kj21 _ _ M ⟨X,X,X,X,X,X,(by rw [kL,AN h151];rfl),zw⟩)))))
   have h145p:=(odf h145);refine sx_exit (qx_then_exit (qx_then_exit ?_));obtain rfl:q=m.els.length:=A0
   rw [Bc] at hb2
   refine qx_block_hit (qx_seq (sx_seq (CL X (D1 X (AC X (λh165=>?_) (λh165=>?_))))))
   ·exact CL X (gnr (qx_then_ret (gr1 X ⟨by rw [IE,←hbE,←hb2,Ae (by rw [CJ h165];decide)],M.fr⟩)))
   exact sx_skip (qx_seq (CL X (gnr (gr1 X ⟨by rw [IE,←hbE,←hb2,Ac (BL h165)],M.fr⟩))))
  refine sx_block (srg (HU X X (D1 X (AC X (λh60=>?_) (λh60=>?_)))))
  ·refine sx_region (HK X X (fvm M 5 [9,5,3,2,0] [(68,.bool ((M0 m i next k)&&(O (0<(i.toks.length:Int)))))] ?_ (λk63=>?_)))
   ·intro w21 M;exact yb X (sxl_nil (qx_block_normal (kj0 _ _ M ⟨X,X,X,X,(by rw [Q5,Ac h60];rfl),zw⟩)))
   refine A1 (d:=63) X (λh63=>?_) (λh63=>?_)
   ·exact gyq X (KW M 0 X X X (yd X (I8 X X (sl X)) (yd X (LG X X X) (yb X (k63 M ⟨X,X,X,X,X,(by rw [h63];rfl),zw⟩)))))
   iterate 4 refine yo X ?_
   exact yb X (k63 M ⟨X,X,X,X,X,(by rw [h63];rfl),zw⟩)
  refine sx_seq (srg (HU X X (D1 X (KA [(0,pg gc),(2,AA next),(3,AA k),(5,pg g5),(9,.bool (M0 m i next k)),(69,.bool ((O ((i.st.toNat:Int)=2)) || (O ((i.st.toNat:Int)=3))))] (λw'=>Mem w AR [As.blk g5 42 (In.cells i V T vc tc)] w') ?_ (λk69=>?_)))))
  ·intro w22 M;refine qx_seq (AC X (λh69=>?_) (λh69=>?_))
   ·have h69p:=((M8 h69).imp (λz=>(odt z)) (λz=>(odt z)));refine sx_region (HK X X (fvm M 5 [9,5,3,2,0] [(78,.bool ((M0 m i next k)&&(O ((i.toks.length:Int)=0))))] ?_ (λk73=>?_)))
    ·intro w23 M;exact yb X (sxl_nil (qx_block_normal (kj0 _ _ M ⟨X,X,X,X,(by rw [Q5,AN h60,Ac h69];rfl),zw⟩)))
    refine A1 (d:=73) X (λh73=>?_) (λh73=>?_)
    ·exact gyq X (KW M 0 X X X (yd X (I8 X X (sl X)) (yd X (ES X X X) (yb X (k73 M ⟨X,X,X,X,X,(by rw [h73];rfl),zw⟩)))))
    iterate 4 refine yo X ?_
    exact yb X (k73 M ⟨X,X,X,X,X,(by rw [h73];rfl),zw⟩)
   exact sx_region (yb X (sxl_nil (qx_block_normal (kj0 _ _ M ⟨X,X,X,X,(by rw [Q5,AN h60,AN h69];rfl),zw⟩))))
  refine AC X (λh69=>?_) (λh69=>?_)
  ·exact sx_skip (k69 _ _ M ⟨X,X,X,X,X,(by rw [h69];rfl),zw⟩)
  exact sx_region (HU X X (yb X (sxl_nil (k69 _ _ M ⟨X,X,X,X,X,(by rw [h69];rfl),zw⟩))))
 refine DZ 39 CA zr ?_;have M:=M.drew;refine sb X (sa X (LH X X X) (sb X (fvs 3 [5,3,2,0] [(22,.bool ((O ((0:Int)≤next))&&(O (next≤(2147483647:Int)))))] ?_ (λk19=>?_))))
 ·refine sb X (fvs 3 [5,3,2,0] [(26,.bool (((O ((0:Int)≤next))&&(O (next≤(2147483647:Int))))&&(O ((0:Int)≤k))))] ?_ (λk23=>?_))
  ·refine sb X (fvs 3 [5,3,2,0] [(30,.bool ((((O ((0:Int)≤next))&&(O (next≤(2147483647:Int))))&&(O ((0:Int)≤k)))&&(O (k≤(1099511627776:Int)))))] ?_ (λk27=>?_))
   ·refine sb X (fvs 9 [5,3,2,0] [(40,.bool (((((O ((0:Int)≤next))&&(O (next≤(2147483647:Int))))&&(O ((0:Int)≤k)))&&(O (k≤(1099511627776:Int))))&&(O (i.mdl=m.id))))] ?_ (λk31=>?_))
    ·refine sb X (fvs 4 [5,3,2,0] [(45,.bool ((((((O ((0:Int)≤next))&&(O (next≤(2147483647:Int))))&&(O ((0:Int)≤k)))&&(O (k≤(1099511627776:Int))))&&(O (i.mdl=m.id)))&&(O ((1:Int)≤i.id))))] ?_ (λk41=>?_))
     ·refine sb X (fvs 5 [5,3,2,0] [(51,.bool (((((((O ((0:Int)≤next))&&(O (next≤(2147483647:Int))))&&(O ((0:Int)≤k)))&&(O (k≤(1099511627776:Int))))&&(O (i.mdl=m.id)))&&(O ((1:Int)≤i.id)))&&(O (i.id≤next))))] ?_ (λk46=>?_))
      ·refine sb X (C3 (d:=52) X (λh52=>?_) (λh52=>?_))
       ·refine gsg X (yp X) (gsg X (yp X) (gsg X (B3 X X (sc X) (M.cell 0 X X)) (DA (sxl_call (G 56) (wn_on X X X) X X (AE X X call165) (xT m gc c F i.vars V vc _ (hC.fr0 M.fr) hok (hV.fr0 M.fr) (hY.fr0 M.fr)) ?_))));rintro _ w24 ⟨rfl,hfw24⟩;refine ⟨_,X,?_⟩;have M:=M.step hfw24;exact HK X X (sxl_nil (kj3 _ _ M ⟨X,X,X,X,(by rw [M0,Ac h52];rfl),zw⟩))
       have h52p:=((JQ h52).imp (λz=>((JQ z).imp (λz=>((JQ z).imp (λz=>((JQ z).imp (λz=>((JQ z).imp (λz=>((JQ z).imp (λz=>(odf z)) (λz=>(odf z)))) (λz=>(odf z)))) (λz=>(odf z)))) (λz=>(odf z)))) (λz=>(odf z)))) (λz=>(odf z)));exact EI X X X X X X (EI X X X X X X (EI X X X X X X (DA (yo X (HK X X (sxl_nil (kj3 _ _ M ⟨X,X,X,X,(by rw [M0,AN h52];rfl),zw⟩)))))))
      refine C3 (d:=46) X (λh46=>?_) (λh46=>?_)
      ·exact gsg X (yp X) (gsg X (B3 X X (sc X) (M.cell 0 X X)) (gsg X (yp X) (gsg X (NO X X X) (sb X (k46 _ ⟨X,X,X,X,(by rw [h46];rfl),zw⟩)))))
      iterate 4 refine EI X X X X X X ?_
      exact sb X (k46 _ ⟨X,X,X,X,(by rw [h46];rfl),zw⟩)
     refine C3 (d:=41) X (λh41=>?_) (λh41=>?_)
     ·exact gsg X (yp X) (gsg X (B3 X X (sc X) (M.cell 0 X X)) (gsg X (LH X X X) (sb X (k41 _ ⟨X,X,X,X,(by rw [h41];rfl),zw⟩))))
     exact EI X X X X X X (EI X X X X X X (EI X X X X X X (sb X (k41 _ ⟨X,X,X,X,(by rw [h41];rfl),zw⟩))))
    refine C3 (d:=31) X (λh31=>?_) (λh31=>?_)
    ·refine gsg X (yp X) (gsg X (B3 X X (sc X) (M.cell 0 X X)) ?_);iterate 4 refine gsg X (yp X) ?_
     exact gsg X (B3 X X (sc X) (Blk.c ((hC.fr0 M.fr).blk) 0 X)) (gsg X (IV X X X) (sb X (k31 _ ⟨X,X,X,X,(by rw [h31];rfl),zw⟩)))
    iterate 8 refine EI X X X X X X ?_
    exact sb X (k31 _ ⟨X,X,X,X,(by rw [h31];rfl),zw⟩)
   refine C3 (d:=27) X (λh27=>?_) (λh27=>?_)
   ·exact gsg X (yp X) (gsg X (NO X X X) (sb X (k27 _ ⟨X,X,X,X,(by rw [h27];rfl),zw⟩)))
   exact EI X X X X X X (EI X X X X X X (sb X (k27 _ ⟨X,X,X,X,(by rw [h27];rfl),zw⟩)))
  refine C3 (d:=23) X (λh23=>?_) (λh23=>?_)
  ·exact gsg X (yp X) (gsg X (LH X X X) (sb X (k23 _ ⟨X,X,X,X,(by rw [h23];rfl),zw⟩)))
  exact EI X X X X X X (EI X X X X X X (sb X (k23 _ ⟨X,X,X,X,(by rw [h23];rfl),zw⟩)))
 refine C3 (d:=19) X (λh19=>?_) (λh19=>?_)
 ·exact gsg X (yp X) (gsg X (NO X X X) (sb X (k19 _ ⟨X,X,X,X,(by rw [h19];rfl),zw⟩)))
 exact EI X X X X X X (EI X X X X X X (sb X (k19 _ ⟨X,X,X,X,(by rw [h19];rfl),zw⟩)))
section
section
section
variable {m:Md} {c:CrA}
theorem a0N {i:In} {next k:Int} {b1:Bool} {j:Nat} {y:Tk} (h:N1 m c i next k b1 j y=zz):b1=zz∧(HQ m c y=zz∧OR y k=zz∧1≤y.id∧y.id≤next)∧(j=0∨bM i j<y.id):=by
 unfold N1 at h
 split at h
 ·rename_i h1
  split at h
  ·rename_i h2
   split at h
   ·rename_i h3
    split at h
    ·split at h
     ·rename_i h5
      split at h
      ·rename_i h6;exact ⟨h1,⟨h6,h,odt h2,odt h3⟩,.inl (by have:=odt h5;omega)⟩
      cases h
     split at h
     ·rename_i h5
      split at h
      ·rename_i h6;exact ⟨h1,⟨h6,h,odt h2,odt h3⟩,.inr (odt h5)⟩
      cases h
     cases h
    cases h
   cases h
  cases h
 cases h
theorem cT {i:In} {next k:Int} {b0:Bool}:∀{j:Nat},XY m c i next k b0 j=zz→b0=zz∧∀q y,q<j→i.toks[q]?=G y→(HQ m c y=zz∧OR y k=zz∧1≤y.id∧y.id≤next)∧(q=0∨bM i q<y.id)
 | 0,h=>⟨h,λq y hq=>absurd hq (Dv _)⟩
 | j+1,h=>by
  rw [XY] at h
  cases hj:i.toks[j]? with
  | none=>
   rw [hj] at h
   obtain ⟨h1,h2⟩:=cT h;refine ⟨h1,λq y hq hy=>?_⟩
   by_cases hqj:q=j
   ·subst hqj;rw [hj] at hy;cases hy
   exact h2 q y A0 hy
  | some y0=>
   rw [hj] at h
   have h9:=a0N h;obtain ⟨h1,h2⟩:=cT h9.1;refine ⟨h1,λq y hq hy=>?_⟩
   by_cases hqj:q=j
   ·subst hqj;rw [hj] at hy;injection hy with hy;subst hy;exact h9.2
   exact h2 q y A0 hy
theorem a0O {i:In} {next k:Int} (h:Q5 m i next k=zz):0≤next∧next≤2147483647∧0≤k∧k≤1099511627776∧i.mdl=m.id∧J0 i.vars m.vars=zz:=by
 have h0:M0 m i next k=zz:=by
  cases hc:M0 m i next k with
  | true=>rfl
  | false=>unfold Q5 at h;rw [hc] at h;simp at h
 unfold M0 at h0
 split at h0
 ·rename_i hc
  simp only [Bn,decide_eq_true_eq] at hc
  obtain ⟨⟨⟨⟨⟨⟨a1,a2⟩,a3⟩,a4⟩,a5⟩,_⟩,_⟩:=hc;exact ⟨a1,a2,a3,a4,a5,h0⟩
 cases h0
theorem i7 {i:In} {next k:Int} (h:IE m c i next k=zz):(0≤next∧next≤2147483647∧0≤k∧k≤1099511627776∧i.mdl=m.id∧J0 i.vars m.vars=zz)∧∀y∈i.toks,HQ m c y=zz∧OR y k=zz∧1≤y.id∧y.id≤next:=by
 unfold IE at h
 rw [Bn] at h
 obtain ⟨h1,h2⟩:=cT h.1;refine ⟨a0O h1,λy hy=>?_⟩;obtain ⟨q,hq,he⟩:=List.mem_iff_getElem.1 hy;exact (h2 q y hq (by rw [Av hq,he])).1
variable (R:Rl m)
include R
theorem a0E {x:El} (hx:x∈m.els) (h7:x.kind.toNat=7) {f:Fl} (hf:f∈m.fls) (hfx:f.frm=x.id):∃y∈m.els,y.id=f.tg∧y.kind.toNat=8:=by
 obtain ⟨y,hy,hyi,_⟩:=R.ends hf;refine ⟨y,hy,hyi,?_⟩;have h4:=R.four x hx;unfold JA at h4
 rw [Ae (by simp [h7]),Ae (by simp [h7]),Ae (by simp [h7]),Ac (by simp [h7])] at h4
 split at h4
 ·have h5:LY m f=zy:=by
   cases hq:LY m f with
   | false=>rfl
   | true=>
    rw [Et,Id] at h4
    exact absurd hq (h4 f (De.2 ⟨hf,by simp [hfx]⟩))
  unfold LY at h5
  rw [←hyi,wK R.els hy] at h5
  simp only [Bool.or_eq_false_iff,Bool.not_eq_false',decide_eq_true_eq] at h5
  have:=h5.1
  simp only [Df] at this
  omega
 cases h4
variable (Z:Cz m c)
include Z
theorem fG {k:Kz} (h0:(c.atf k).kind.toNat≠0) (h2:(c.atf k).kind.toNat≠2):0<(c.outs k).length∧∃x∈m.els,x.id=k∧c.atf k=x:=by
 rcases iF m k with ⟨x,hx,rfl⟩|h
 ·rw [aE R Z hx] at h2
  exact ⟨cN R Z hx h2,x,hx,X,aE R Z hx⟩
 rw [Z.eA,(YG h).1] at h0;exact absurd rfl h0
theorem W2 {t:Tk} {via:Kz} (hv:via∈EE m c t∨((c.atf t.loc).kind.toNat=4∧via=t.loc)):0<(c.outs via).length∧∃x∈m.els,x.id=via∧c.atf via=x:=by
 rcases hv with hv|⟨h4,rfl⟩
 ·unfold EE at hv
  split at hv
  ·cases hv
  rcases Bp.1 hv with hv|hv
  ·unfold bL at hv
   split at hv
   ·rename_i hk
    simp only [Dw,decide_eq_true_eq] at hk
    rw [Au] at hv
    rw [hv];exact fG R Z A0 A0
   split at hv
   ·rename_i hk
    have hk:=odt hk;obtain ⟨k,hk2,rfl⟩:=Cq.1 hv;obtain ⟨f,hf,rfl,hfr,x,hx,hxi⟩:=pZ R Z hk2;rw [(a3t R Z hf).1];have hk7:x.kind.toNat=7:=by rw [←hxi,aE R Z hx] at hk;omega
    obtain ⟨y,hy,hyi,hy8⟩:=a0E R hx hk7 hf (by rw [hfr,hxi]);rw [←hyi];exact ⟨cN R Z hy A0,y,hy,X,aE R Z hy⟩
   cases hv
  obtain ⟨k,_,hk⟩:=Fy.1 hv;unfold DF at hk
  obtain ⟨x,hx,rfl⟩:=Cq.1 hk;obtain ⟨hx1,hx2⟩:=De.1 hx;simp only [Bn,decide_eq_true_eq] at hx2
  exact ⟨cN R Z hx1 A0,x,hx1,X,aE R Z hx1⟩
 exact fG R Z A0 A0
omit R Z in
theorem mN {nm:Kz}:∀{l k:List Bd} {i:Nat},J0 l k=zz→(k.map (·.name)).Nodup→∀z∈k,z.name=nm→∃v,(ffN (λ(_:Nat) (b:Bd) => !(O (b.name=nm))) i l).map (·.v)=G v∧v.kind.toNat=z.v.kind.toNat
 | [],[],_,_,_,z,hz,_=>by cases hz
 | [],_::_,_,h,_,_,_,_=>by cases h
 | _::_,[],_,h,_,_,_,_=>by cases h
 | a::r,b::s,i,h,hn,z,hz,he=>by
  rw [J0,Bn] at h
  rw [Cc,Gg] at hn
  have h1:=h.1;unfold W3 at h1
  simp only [Bn,decide_eq_true_eq] at h1
  rcases Ao.1 hz with rfl|hz
  ·refine ⟨a.v,?_,A0⟩;rw [ffN,Ae (by simp [h1.1.1,he])];rfl
  have hne:¬a.name=nm:=λe=>hn.1 (by rw [←h1.1.1,e,←he];exact Ei hz)
  rw [ffN,Ac (by simp [hne])];exact mN h.2 hn.2 z hz he
theorem lC {t:Tk} {vars:List Bd} (hv:J0 vars m.vars=zz) {k:Kz} (hk:k∈EE m c t):(HA c k t.born vars).2=0∧(HA c k t.born vars).1.via=k:=by
 obtain ⟨_,x,hx,_,he⟩:=W2 R Z (.inl hk);unfold HA
 split
 ·exact ⟨X,X⟩
 split
 ·rename_i h2
  rw [he] at h2 ⊢
  have h8:=R.eight x hx;unfold MZ at h8
  rw [h2] at h8
  simp only [Gs,Gc,List.any_eq_true] at h8
  obtain ⟨z,hz,h81⟩:=h8;unfold PV at h81
  simp only [Bn,decide_eq_true_eq] at h81
  obtain ⟨v,hv1,hv2⟩:=mN (i:=0) hv R.vars z hz h81.1;have hf:YT vars x.key=G v:=hv1;rw [hf];rw [Ae (by simp),Ae (by simp only [Df,Et,decide_eq_false_iff_not,Decidable.not_not];omega)];exact ⟨X,X⟩
 exact ⟨X,X⟩
theorem lE {t:Tk} {vars:List Bd} (hv:J0 vars m.vars=zz):∀l:List Kz,(∀k∈l,k∈EE m c t)→W1 c t vars l=zx
 | [],_=>rfl
 | k::r,h=>by
  rw [W1,Ae (by rw [(lC R Z hv (h k Bi)).1];decide)];exact lE hv r λq hq=>h q (Ax _ hq)
theorem qT {t:Tk} {vars:List Bd} (hv:J0 vars m.vars=zz) (hp:HQ m c t=zz):DE m c t vars=((EE m c t).map (λk=>(HA c k t.born vars).1),0)∧(DE m c t vars).1.map (·.via)=EE m c t:=by
 have h1:DE m c t vars=((EE m c t).map (λk=>(HA c k t.born vars).1),0):=by
  unfold DE;rw [Ae (by simp [hp]),lE R Z hv _ λk hk=>hk]
 refine ⟨h1,?_⟩;rw [h1,Gy];exact (Fm λk hk=>(lC R Z hv hk).2).trans (List.map_id _)
omit R Z
end
end
def As.res (b0 b1:Nat) (F0:List Nat) (P:Kw→Prop):As:=⟨F0++List.range' b0 (b1-b0),λw=>∀w2,(∀g∈F0++List.range' b0 (b1-b0),g<w.heap.size→w2.heap[g]?=w.heap[g]?)→P w2,λ{w w'} h hb w2 h2=>hb w2 λg hg hlt=>by
 have h3:=h g hg hlt
 have hlt':g<w'.heap.size:=by
  rw [Fk hlt] at h3
  exact (Ar.1 h3).1
 exact (h2 g hg hlt').trans h3⟩
structure MdStr (m:Md):Prop where
 id:(m.id.length:Int)<4611686018427387904
 nm:(m.nm.length:Int)<4611686018427387904
 vars:BdOk m.vars
 els:∀x∈m.els,ElOk x
 fls:∀x∈m.fls,FlOk x
open Go.ChangeShapes Go.WideShapes Go.ChangeAt Go.RowKit Go.Deep Go.Joins
open Tryz
section
def Sized {H:Type} (P:Lw) (t:Ly) (d:DataW H):Prop:=∀n∈d.weights P t,n≤zu
theorem OB {H:Type} {P:Lw} {e:Ly}:∀{ds:List (DataW H)} {d:DataW H},d∈ds→∀n∈d.weights P e,n∈DataW.weightsAll P e ds
 | d0::ds,d,hd,n,hn=>by
  simp only [DataW.weightsAll,Bp];rcases Ao.1 hd with rfl|hd
  ·exact .inl hn
  exact .inr (OB hd n hn)
section
variable {H:Type} {P:Lw} {t e:Ly}
theorem Sized.of {ts:List Ly} {ds:List (DataW H)} (h:(DataW.weightsEach P ts ds).all (·≤zu)=zz) {j:Nat} {t:Ly} {d:DataW H} (ht:ts[j]?=G t) (hd:ds[j]?=G d):Sized P t d:=λn hn=>by
 have:=Cu.1 h _ (DataW.weights_mem_each ht hd n hn)
 simpa using this
theorem Sized.elem {D sp:List (DataW H)} {d:DataW H} (ht:P.underlying t=G (.slice e)) (h:Sized P t (.slice D sp)) (hd:d∈D):Sized P e d:=λn hn=>h n (by
 simp only [DataW.weights,ht,Ao,Bp];exact .inr (.inl (OB hd n hn)))
theorem Sized.len {D sp:List (DataW H)} (ht:P.underlying t=G (.slice e)) (hb:0<P.bytesOf e) (h:Sized P t (.slice D sp)):D.length≤zu:=by
 have:=h ((D.length+sp.length)*P.bytesOf e) (by simp [DataW.weights,ht])
 exact Bh (Bh (Dg _ _) (Gt _ hb)) this
theorem Sized.field {fs:Array Field} {D:List (DataW H)} {j:Nat} {f:Field} {d:DataW H} (ht:P.underlying t=G (.struct fs)) (h:Sized P t (.agg D)) (hf:fs[j]?=G f) (hd:D[j]?=G d):Sized P f.type d:=λn hn=>h n (by
 simp only [DataW.weights,ht];exact DataW.weights_mem_each (j:=j) (by rw [Cb,Array.getElem?_toList,hf];rfl) hd n hn)
theorem Sized.text {l:Kz} (h:Sized (H:=H) P t (.lit (.string l))):l.length≤zu:=h _ (by simp only [DataW.weights];exact Au.2 rfl)
end
theorem WS : zu<4611686018427387904:=by decide
theorem M6 {α β:Type} (f:β→α) (Q:β→Prop):∀(rows:List α),(∀r∈rows,∃p,r=f p∧Q p)→∃l:List β,rows=l.map f∧∀x∈l,Q x
 | [],_=>⟨[],rfl,λ_ h=>by cases h⟩
 | r::rows,h=>by
  obtain ⟨p,hp,hq⟩:=h r (by simp);obtain ⟨l,hl,hl'⟩:=M6 f Q rows (λr hr=>h r (by simp [hr]))
  exact ⟨p::l,by rw [hp,hl];rfl,λx hx=>by
   rcases Ao.1 hx with rfl|hx
   ·exact hq
   exact hl' x hx⟩
theorem O7 : zv.cellsOf 63=5:=zr
theorem UV : zv.cellsOf 61=4:=zr
theorem i8 : zv.cellsOf 48=5:=zr
theorem DS : zv.cellsOf 9=1:=zr
theorem SL : zv.cellsOf 5=1:=zr
theorem kP : zv.cellsOf 4=1:=zr
theorem q7 : zv.cellsOf 2=1:=zr
theorem kQ : 0<zv.bytesOf 63:=by rw [show zv.bytesOf 63=56 by kernel_rfl];decide
theorem P7 : zv.cellsOf 23=1:=zr
section
variable {H:Type} {enc:Ly × Kv→H} {w:Kw}
theorem j6 {r:Kx} {n:Nat} {x:DataW H × List MemPlace} (h:DataW.trod enc zv w 0 (λ_=>zz) zz n 61 r=G x) (hz:Sized zv 61 x.1):∃v:Vl,r=v.cells∧v.text.length≤zu:=by
 obtain ⟨y0,y1,y2,y3,m,rfl,hl,h0,h1,h2,h3⟩:=trod_struct4 By h;rw [UV] at hl
 simp only [SL,kP,q7,DS] at h0 h1 h2 h3
 obtain ⟨a,ha,_,wa⟩:=DataW.trod_int Bo h0;obtain ⟨b,hb,_⟩:=DataW.trod_int Hg h1;obtain ⟨c,hc,_⟩:=DataW.trod_bool Eq h2;obtain ⟨s,hs,hd,_⟩:=DataW.trod_string Ad h3;have hz3:=Sized.field (j:=3) By hz X X;rw [hd] at hz3
 match r,hl with
 | [r0,r1,r2,r3],_=>
  obtain rfl:r0=_:=by simpa using ha
  obtain rfl:r1=_:=by simpa using hb
  obtain rfl:r2=_:=by simpa using hc
  obtain rfl:r3=_:=by simpa using hs
  exact ⟨⟨UInt8.ofNat a.toNat,b,c,s.data.toList⟩,by rw [dL wa];rfl,hz3.text⟩
theorem o2 {r:Kx} {d:DataW H} (h:YH enc zv w 63 r d) (hz:Sized zv 63 d):∃b:Bd,r=b.cells∧b.name.length≤zu∧b.v.text.length≤zu:=by
 obtain ⟨n,p,h⟩:=h;obtain ⟨y0,y1,m,hx,hl,h0,h1⟩:=trod_struct2 Dt h;rw [O7] at hl
 simp only [Az] at hx
 obtain ⟨rfl,_⟩:=hx;simp only [UV,DS] at h0 h1
 obtain ⟨s,hs,hd,_⟩:=DataW.trod_string Ad h0;have hz0:=Sized.field (j:=0) Dt hz X X;have hz1:=Sized.field (j:=1) Dt hz X X;rw [hd] at hz0
 obtain ⟨v,hv,hvt⟩:=j6 h1 hz1
 match r,hl with
 | r0::r',hl=>
  obtain rfl:r0=_:=by simpa using hs
  have hl':r'.length=4:=by simpa using hl
  have e:r'=v.cells:=by
   have e1:(r'.take 4)=v.cells:=hv;rw [Fu A0] at e1
   exact e1
  exact ⟨⟨s.data.toList,v⟩,by rw [e];rfl,hz0.text,hvt⟩
theorem XI {A:Ky} {len cap fuel:Nat} {x:DataW H × List MemPlace} (h:DataW.trod enc zv w 0 (λ_=>zz) zz fuel 23 [.slice A len cap]=G x) (hz:Sized zv 23 x.1) :
 ∃l:List Bd,l.length=len∧BdOk l∧Rd w A (l.length*5) (UR l):=by
 obtain ⟨rows,D,hl,hD,_,hr,_,_,hn,hx,hd⟩:=LS Dk O7 A0 h
 have key:(∀r∈rows,∃b:Bd,r=b.cells∧(b.name.length≤zu∧b.v.text.length≤zu))∧len≤zu:=by
  rcases hd with ⟨_,h0,_⟩|⟨sp,hs,_⟩
  ·have:rows=[]:=Bl A0
   subst this;exact ⟨λr hr=>by (cases hr),A0⟩
  rw [hs] at hz
  refine ⟨λr hr=>?_,by rw [←hD];exact hz.len Dk kQ⟩;obtain ⟨i,hi⟩:=Cf hr;obtain ⟨d,hdi,hrd⟩:=hx i r hi;exact o2 hrd (hz.elem Dk (Ah hdi))
 obtain ⟨l,rfl,hq⟩:=M6 Bd.cells (λb=>b.name.length≤zu∧b.v.text.length≤zu) rows key.1;rw [Br] at hl
 subst hl;have hlt:=WS;have hlen:=key.2;exact ⟨l,X,⟨A0,λx hx=>by have:=(hq x hx).1;omega,λx hx=>by have:=(hq x hx).2;omega⟩,hr⟩
end
end
end
end Go.Proofs.YtppmdnmjepkfaaaGreatDoor
