/- Lemmas. -/
import Derived.Test.YtppmdnmjepkfaaaGreatDoorYFi
set_option maxHeartbeats 16000000
set_option maxRecDepth 100000
namespace Go.Proofs.YtppmdnmjepkfaaaGreatDoor
open Go.RowKit
open Tryz
open Decidable renaming decide→O
open Option renaming some→G,none→zx
open Bool renaming true→zz,false→zy
open True renaming intro→zw
open Go.Proofs.Tryz renaming prog→zv
open Go renaming Calls→zt
def EU : List Fl→Kz→Option Fl
 | [],_=>zx
 | x::r,k=>if x.id=k then G x else EU r k
theorem Y6 : zv.built 110 []=G zeroFl.cells.toArray:=zr
def UG : List Bd→List Bd→Bool
 | [],_=>zz
 | _::_,[]=>zz
 | x::r,y::s=>if ((!decide (x.name=y.name)) || (!decide ((x.v.kind.toNat:Int)=(y.v.kind.toNat:Int))))=zz then zy else if (!decide ((chk x.v)=(0:Int)))=zz then zy else UG r s
def UF (l v:List Bd):Bool:=if (!decide (((l.length:Nat):Int)=((v.length:Nat):Int)))=zz then zy else UG l v
def B6 : List El→Kz→List Kz
 | [],_=>[]
 | x::r,k=>if ((O ((x.kind.toNat:Int)=(9:Int)))&&(O (x.att=k)))=zz then x.id::B6 r k else B6 r k
theorem E6 : ∀(l:List El) (k:Kz),(B6 l k).length≤l.length
 | [],_=>Af _
 | x::r,k=>by
  have:=E6 r k
  unfold B6
  split<;>simp only [Al]<;>omega
theorem QO : ∀(l:List Fl) (k:Kz),(BI l k).length≤l.length
 | [],_=>Af _
 | x::r,k=>by
  have:=QO r k
  unfold BI
  split<;>simp only [Al]<;>omega
def eW (m:Md) (t:Tk):List Kz:=
 if ((O ((((AG m.els t.loc).getD zeroEl).kind.toNat:Int)=(3:Int))) || (O ((((AG m.els t.loc).getD zeroEl).kind.toNat:Int)=(8:Int))))=zz then [t.loc]
 else if (O ((((AG m.els t.loc).getD zeroEl).kind.toNat:Int)=(7:Int)))=zz then (BI m.fls t.loc).map (λk=>((EU m.fls k).getD zeroFl).tg)
 else []
def FR (m:Md) (t:Tk):List Kz:=
 if (O (t.loc=[]))=zz then [] else (eW m t++B6 m.els t.loc)++(C1 m.els t.loc).flatMap (B6 m.els)
theorem pN (els:List El) (l:List Kz):(l.flatMap (B6 els)).length≤l.length*els.length:=by
 induction l with
 | nil=>simp
 | cons a r ih=>
  have:=E6 els a
  rw [Fv,Am,Al,Jg];omega
theorem nA {m:Md} (ho:MdOk m) (t:Tk):(FR m t).length≤20000:=by
 have h1:(eW m t).length≤400:=by
  have:=QO m.fls t.loc
  have:=ho.nfls
  unfold eW
  repeat' split
  all_goals first
   | (rw [Br];omega)
   | simp
 have h2:=pN m.els (C1 m.els t.loc);have h3:=PC m.els t.loc;have h4:=E6 m.els t.loc;have h5:=Nat.mul_le_mul h3 ho.nels;have h6:=ho.nels;unfold FR
 split
 ·simp
 rw [Am,Am];omega
theorem WX (m:Md) (a:MdA) (id:Kz) (w:Kw) (ho:MdOk m) (hm:MdIn w m a) :
 zt zv 100 #[.agg (Md.cells m a).toArray,str id] w (BR w (.tuple #[.agg ((EU m.fls id).getD zeroFl).cells.toArray,.bool (EU m.fls id).isSome])):=by
 have hoi:=ho.id;have hon:=ho.nm;have hnv:=ho.nvars;have hne:=ho.nels;have hnf:=ho.nfls;refine BO func100 ntmps100 X λM=>W ?_
 refine CU M X X λg2 w1 hg2 M=>CE M X DX λg4 w2 hg4 M=>W ?_
 refine EC M [4,2,1] (λze zF e wr mz=>∃(i:Nat),e=(6,AA (i:Int))::ze∧zF wr∧(i≤m.fls.length)∧(EU m.fls id=EU (m.fls.drop i) id)∧mz=m.fls.length-i) ⟨0,X,M,Aj _,X,X⟩ ?_;rintro _ w3 _ ⟨i,rfl,M,hi,hr,rfl⟩;refine W ?_;refine AC X (λh11=>?_) (λh11=>?_)
 ·have h11p:=odt h11;refine W ?_;obtain ⟨x,_,_,hx,hA_x⟩:=ex5 (i:=i) (M.rd hm.fls);refine ya X (AK i hA_x X X X (sl X) A0) (yb X (yl X X (BC Fl.len (M.rd hm.fls) hA_x hx 0 X) (W ?_)));refine AC X (λh21=>?_) (λh21=>?_)
  ·have h21p:=odt h21;refine W ?_;refine ya X (AK i hA_x X X X (sl X) A0) (ya X (AJ X X (BF Fl.len (M.rd hm.fls) hA_x hx) Co X BU) (BX M 0 X X BU X λw4 M=>W ?_));exact FY X X (M.rdBlk 0 X X) Co X BU X ⟨by rw [hr,AH hx,EU,Ac h21p];rfl,M.fr⟩
  have h21p:=odf h21;refine W ?_;refine fag ⟨i+1,X,M,?_,?_,X⟩
  ·omega
  rw [hr,AH hx,EU,Ae h21p]
 have h11p:=odf h11;refine W ?_;refine ya X (B8 (parts:=[]) X X Y6) (BX M 0 X X BU X λw5 M=>W ?_);refine FY X X (M.rdBlk 0 X X) Co X BU X ?_;obtain rfl:i=m.fls.length:=A0
 exact ⟨by rw [hr,Aq];rfl,M.fr⟩
theorem t7 (m:Md) (a:MdA) (l:List Bd) (V:Ky) (vc:Nat) (w:Kw) (ho:MdOk m) (hm:MdIn w m a) (hbd:BdOk l) (hV:Rd w V (l.length*5) (AF Bd.cells l)) :
 zt zv 48 #[.agg (Md.cells m a).toArray,.slice V l.length vc] w (BR w (.bool (UF l m.vars))):=by
 have hoi:=ho.id;have hon:=ho.nm;have hnv:=ho.nvars;have hne:=ho.nels;have hnf:=ho.nfls;have hbl:=hbd.len;refine BO func48 ntmps48 X λM=>W ?_
 refine CU M X X λg2 w1 hg2 M=>W ?_
 refine AC X (λh11=>?_) (λh11=>?_)
 ·refine W ?_;exact gr1 X ⟨by rw [UF,Ac h11],M.fr⟩
 have h11p:=(odt (BL h11));refine W ?_;refine EC M [2,1] (λze zF e wr mz=>∃(i:Nat),e=(5,AA (i:Int))::ze∧zF wr∧(i≤l.length)∧(UF l m.vars=UG (l.drop i) (m.vars.drop i))∧mz=l.length-i) ⟨0,X,M,Aj _,by rw [UF,AN h11];rfl,rfl⟩ ?_;rintro _ w2 _ ⟨i,rfl,M,hi,hr,rfl⟩;refine W ?_;refine AC X (λh15=>?_) (λh15=>?_)
 ·have h15p:=odt h15;obtain ⟨x,_,_,hx,hA_x⟩:=ex5 (i:=i) (hV.fr0 M.fr);have ox1:=hbd.name _ (Ah hx);have ox2:=hbd.text _ (Ah hx);obtain ⟨y,_,_,hy,hA_y⟩:=ex5 (i:=i) (M.rd hm.vars);refine W ?_;refine DZ 34 CA zr ?_;have M:=M.drew;refine W ?_;refine sa X (AK i hA_x X X X (sl X) A0) (sb X (sd X X (BC Bd.len (hV.fr0 M.fr) hA_x hx 0 X) (W ?_)));refine sa X (AK i hA_y X X X (sl X) A0) (sb X (sd X X (BC Bd.len (M.rd hm.vars) hA_y hy 0 X) (W ?_)));refine fvs 15 [5,2,1] [(45,.bool ((!decide (x.name=y.name)) || (!decide ((x.v.kind.toNat:Int)=(y.v.kind.toNat:Int)))))] ?_ (λk30=>?_)
  ·refine sb X (C3 (d:=46) X (λh46=>?_) (λh46=>?_))
   ·have h46p:=bd h46;refine W ?_;refine gr1 X ?_;rw [AH hx,AH hy,UG,Ac h46] at hr
    exact ⟨by rw [hr],M.fr⟩
   have h46p:=bd h46;refine W ?_;refine gsg X (AK i hA_x X X X (sl X) A0) (gsg X (yp X) (gsg X (AJ (xs:=Vl.cells x.v) X X (MI Bd.len (hV.fr0 M.fr) hA_x hx 1 4 X X) By X BM) (DA (sxl_call (G 52) kw X X (AE X X call35) (NA _ _ A0) ?_))));rintro _ w3 ⟨rfl,hfw3⟩;refine cq ?_;have M:=M.step hfw3;refine W ?_;refine AC X (λh54=>?_) (λh54=>?_)
   ·refine W ?_;refine gr1 X ?_;rw [AH hx,AH hy,UG,AN h46,Ac h54] at hr
    exact ⟨by rw [hr],M.fr⟩
   have h54p:=(odt (BL h54));refine W ?_;refine fag ⟨i+1,X,M,?_,?_,X⟩
   ·omega
   rw [hr,AH hx,AH hy,UG,AN h46,AN h54]
  refine C3 (d:=30) X (λh30=>?_) (λh30=>?_)
  ·refine T15 ?_;exact k30 _ ⟨X,X,X,(by rw [h30];rfl),zw⟩
  refine W ?_;refine gsg X (AK i hA_x X X X (sl X) A0) (T2 ?_);refine gsg X (B3 X X (sc X) (BC Bd.len (hV.fr0 M.fr) hA_x hx 1 X)) (W ?_);refine gsg X (AK i hA_y X X X (sl X) A0) (T2 ?_);refine gsg X (B3 X X (sc X) (BC Bd.len (M.rd hm.vars) hA_y hy 1 X)) (T2 ?_);exact k30 _ ⟨X,X,X,(by rw [h30];rfl),zw⟩
 have h15p:=odf h15;refine W ?_;refine gr1 X ?_;obtain rfl:i=l.length:=A0
 rw [Aq,UG] at hr
 exact ⟨by rw [hr],M.fr⟩
theorem J6 (m:Md) (a:MdA) (id:Kz) (w:Kw) (ho:MdOk m) (hm:MdIn w m a) :
 zt zv 103 #[.agg (Md.cells m a).toArray,str id] w λe w'=>∃A c,e=.returned (.slice A (B6 m.els id).length c)∧w'.ownsRow w.heap.size 9 1 (.slice A (B6 m.els id).length c) (B6 m.els id).length (AF BH (B6 m.els id))∧Fr0 w w':=by
 have hoi:=ho.id;have hon:=ho.nm;have hnv:=ho.nvars;have hne:=ho.nels;have hnf:=ho.nfls;refine BO func103 ntmps103 X λM=>V ?_
 refine CU M X X λg2 w1 hg2 M=>V ?_
 have M:=M.nilOwn 9 1;refine flp [2,1] (λze e wr mz=>∃(i:Nat) (acc:List Kz) (A:Ky) (c:Nat),e=(5,.slice A acc.length c)::(6,AA (i:Int))::ze∧Mem w AR [As.own w.heap.size 9 1 (.slice A acc.length c) acc.length (AF BH acc),As.blk g2 48 (Md.cells m a)] wr∧(i≤m.els.length)∧(B6 m.els id=acc++B6 (m.els.drop i) id)∧(acc.length≤i)∧mz=m.els.length-i) ⟨0,[],zx,0,X,M,Aj _,X,Aj _,X⟩ ?_;rintro _ w2 _ ⟨i,acc,A,c,rfl,M,hi,hr,hl,rfl⟩;refine V ?_;refine EZ M 1 X X X (SF X X (G1 X X (V ?_)));refine AC X (λh11=>?_) (λh11=>?_)
 ·have h11p:=odt h11;refine V ?_;refine EZ M 1 X X X (yb X ?_);obtain ⟨x,_,_,hx,hA_x⟩:=ex5 (i:=i) (M.rd hm.els);refine ya X (AK i hA_x X X X (sl X) A0) (yb X (yl X X (BC El.len (M.rd hm.els) hA_x hx 2 X) (HU X X (yb X (fvm M 9 [6,5,2,1] [(30,.bool ((O ((x.kind.toNat:Int)=9))&&(O (x.att=id))))] ?_ (λk21=>?_))))))
  ·intro w3 M;refine V ?_;refine AC X (λh30=>?_) (λh30=>?_)
   ·have h30p:=bd h30;refine V ?_;refine EZ M 1 X X X (yb X (ya X (AK i hA_x X X X (sl X) A0) (yb X (yl X X (BC El.len (M.rd hm.els) hA_x hx 0 X) (CP M kw X X [str x.id] ([str x.id]) X X X X Be CK X X (FZ X) X λg38 w4 hg38 M=>CD (len':=(acc++[x.id]).length) (xs':=AF BH (acc++[x.id])) M 1 kw X X X X X X (M.rdBlk 0 X X) Be C2 X AV (BN X) (Af _) (Af _) D4 (by unfold maxLen;first|omega|(simp;omega)) (by first|(simp;done)|(simp;omega)) (by first|exact (AY _ _ _).symm|rfl|simp [AF,BH]) λA39 c39 w5 M=>V ?_)))));refine D3 X X (V ?_);refine fag ⟨i+1,acc++[x.id],A39,c39,X,(M.pk [1,2]),?_,?_,?_,X⟩
    ·omega
    ·first
      | rw [hr,AH hx,B6,Ac (by assumption)];simp
      | rw [hr,AH hx,B6,Ae (V8 (by assumption))]
    first|omega|(simp;omega)
   have h30p:=bd h30;refine V ?_;refine D3 X X (V ?_);refine fag ⟨i+1,acc,A,c,X,M,?_,?_,?_,X⟩
   ·omega
   ·first
     | rw [hr,AH hx,B6,Ac (by assumption)];simp
     | rw [hr,AH hx,B6,Ae (V8 (by assumption))]
   first|omega|(simp;omega)
  refine A1 (d:=21) X (λh21=>?_) (λh21=>?_)
  ·exact gyq X (KW M 1 X X X (gyq X (yd X (AK i hA_x X X X (sl X) A0) (gyq X (ym X X (BC El.len (M.rd hm.els) hA_x hx 5 X) (gyq X (yd X (IV X X X) (yb X (k21 M)))))))))
  iterate 8 refine yo X ?_
  exact yb X (k21 M)
 have h11p:=odf h11;refine V ?_;refine gr1 X ?_;obtain rfl:i=m.els.length:=A0
 rw [Aq,B6,Cd] at hr
 subst hr;exact ⟨_,_,X,M.own 0 X,M.fr⟩
def IY (m:Md) (t:Tk):Bool:=(if (O (t.loc=[]))=zz then (if (((((!(EU m.fls t.on).isSome) || (!decide (t.born=(0:Int)))) || (!decide (t.tries=(0:Int)))) || (!decide (t.worker=[]))) || (!decide (t.until_=(0:Int))))=zz then zy else (if ((O ((((AG m.els (((EU m.fls t.on).getD zeroFl).tg)).getD zeroEl).kind.toNat:Int)=(5:Int)))&&(O ((1:Int)<(((BI m.fls (((AG m.els (((EU m.fls t.on).getD zeroFl).tg)).getD zeroEl).id)).length:Nat):Int))))=zz then ((O ((t.inc.toNat:Int)=(1:Int)))&&(O (t.err=(91:Int)))) else (((O ((((AG m.els (((EU m.fls t.on).getD zeroFl).tg)).getD zeroEl).kind.toNat:Int)=(6:Int)))&&(O ((t.inc.toNat:Int)=(0:Int))))&&(O (t.err=(0:Int)))))) else (if (((!(AG m.els t.loc).isSome) || (!decide (t.on=[]))) || (!decide (t.err=(0:Int))))=zz then zy else (if (O ((((AG m.els t.loc).getD zeroEl).kind.toNat:Int)=(4:Int)))=zz then (if (O (t.tries=(0:Int)))=zz then (((O ((t.inc.toNat:Int)=(2:Int)))&&(O (t.worker=[])))&&(O (t.until_=(0:Int)))) else (((O ((0:Int)<t.tries))&&(O (t.tries≤(100:Int))))&&(O ((t.inc.toNat:Int)=(0:Int))))) else (if ((((!decide (t.tries=(0:Int))) || (!decide (t.worker=[]))) || (!decide (t.until_=(0:Int)))) || (!decide ((t.inc.toNat:Int)=(0:Int))))=zz then zy else (if (O ((((AG m.els t.loc).getD zeroEl).kind.toNat:Int)=(8:Int)))=zz then (!(UQ m t.loc).isSome) else ((O ((((AG m.els t.loc).getD zeroEl).kind.toNat:Int)=(3:Int))) || (O ((((AG m.els t.loc).getD zeroEl).kind.toNat:Int)=(7:Int)))))))))
theorem TI (m:Md) (a:MdA) (t:Tk) (w:Kw) (ho:MdOk m) (hm:MdIn w m a) :
 zt zv 49 #[.agg (Md.cells m a).toArray,.agg t.cells.toArray] w (BR w (.bool (IY m t))):=by
 have hoi:=ho.id;have hon:=ho.nm;have hnv:=ho.nvars;have hne:=ho.nels;have hnf:=ho.nfls;refine BO func49 ntmps49 X λM=>W ?_
 refine CU M X X λg2 w1 hg2 M=>CU M X X λg3 w2 hg3 M=>W ?_
 refine AC X (λh15=>?_) (λh15=>?_)
 ·refine W ?_;refine CF M 1 X X Ap AO X (W ?_);refine CQ M 20 X X call100 (WX m a _ _ ho (hm.fr0 M.fr)) λw3 M=>W ?_
  refine CE M X DX λg5 w4 hg5 M=>BX M 0 X X BU X λw5 M=>W ?_
  refine CF M 2 X X Ap AO X (W ?_);refine CQ M 27 X X call52 (E9 m a _ _ ho.b (hm.fr0 M.fr)) λw6 M=>W ?_
  refine CE M X AP λg7 w7 hg7 M=>BX M 0 X X AM X λw8 M=>W ?_
  refine fvm M 4 [7,3,2] [(36,.bool ((!(EU m.fls t.on).isSome) || (!decide (t.born=(0:Int)))))] ?_ (λk32=>?_)
  ·intro w9 M;refine yb X (fvm M 4 [7,3,2] [(41,.bool (((!(EU m.fls t.on).isSome) || (!decide (t.born=(0:Int)))) || (!decide (t.tries=(0:Int)))))] ?_ (λk37=>?_))
   ·intro w10 M;refine yb X (fvm M 4 [7,3,2] [(46,.bool ((((!(EU m.fls t.on).isSome) || (!decide (t.born=(0:Int)))) || (!decide (t.tries=(0:Int)))) || (!decide (t.worker=[]))))] ?_ (λk42=>?_))
    ·intro w11 M;refine yb X (fvm M 4 [7,3,2] [(51,.bool (((((!(EU m.fls t.on).isSome) || (!decide (t.born=(0:Int)))) || (!decide (t.tries=(0:Int)))) || (!decide (t.worker=[]))) || (!decide (t.until_=(0:Int)))))] ?_ (λk47=>?_))
     ·intro w12 M;refine W ?_;refine AC X (λh51=>?_) (λh51=>?_)
      ·have h51p:=bd h51;refine W ?_;exact gr1 X ⟨by rw [IY,Ac h15,Ac h51],M.fr⟩
      refine W ?_;refine fvm M 7 [7,3] [(62,.bool ((O ((((AG m.els (((EU m.fls t.on).getD zeroFl).tg)).getD zeroEl).kind.toNat:Int)=5))&&(O (1<((BI m.fls (((AG m.els (((EU m.fls t.on).getD zeroFl).tg)).getD zeroEl).id)).length:Int)))))] ?_ (λk55=>?_)
      ·intro w13 M;refine W ?_;refine AC X (λh62=>?_) (λh62=>?_)
       ·refine W ?_;refine fvm M 4 [] [(70,.bool ((O ((t.inc.toNat:Int)=1))&&(O (t.err=(91:Int)))))] ?_ (λk66=>?_)
        ·intro w14 M;refine W ?_;exact gr1 X ⟨by rw [IY,Ac h15,AN h51,Ac h62],M.fr⟩
        refine A1 (d:=66) X (λh66=>?_) (λh66=>?_)
        ·refine T4 ?_;exact k66 M
        refine T4 ?_;exact k66 M
       have h62p:=bd h62;refine W ?_;refine fvm M 4 [3] [(78,.bool ((O ((((AG m.els (((EU m.fls t.on).getD zeroFl).tg)).getD zeroEl).kind.toNat:Int)=6))&&(O ((t.inc.toNat:Int)=0))))] ?_ (λk74=>?_)
       ·intro w15 M;refine yb X (fvm M 4 [] [(83,.bool (((O ((((AG m.els (((EU m.fls t.on).getD zeroFl).tg)).getD zeroEl).kind.toNat:Int)=6))&&(O ((t.inc.toNat:Int)=0)))&&(O (t.err=(0:Int)))))] ?_ (λk79=>?_))
        ·intro w16 M;refine W ?_;exact gr1 X ⟨by rw [IY,Ac h15,AN h51,AN h62],M.fr⟩
        refine A1 (d:=79) X (λh79=>?_) (λh79=>?_)
        ·refine T4 ?_;exact k79 M
        refine T4 ?_;exact k79 M
       refine A1 (d:=74) X (λh74=>?_) (λh74=>?_)
       ·refine T4 ?_;exact k74 M
       refine T4 ?_;exact k74 M
      refine A1 (d:=55) X (λh55=>?_) (λh55=>?_)
      ·refine yd X (AJ (xs:=Md.cells m a) X X (M.rdBlk 3 X X) Ap X AO) (W ?_);refine sxl_call (G 59) kw X X (AE X X call101) (OW m a _ _ ho (hm.fr0 M.fr)) ?_;rintro _ w17 ⟨A59,c59,rfl,how17,hfw17⟩;refine cq ?_;have M:=M.pushOwn hfw17 (Af _) how17;have hL59:=M.ownLen 0 X;refine T3 ?_;exact k55 (M.drop 1)
      refine T7 ?_;exact k55 M
     refine A1 (d:=47) X (λh47=>?_) (λh47=>?_)
     ·refine T4 ?_;exact k47 M
     refine T4 ?_;exact k47 M
    refine A1 (d:=42) X (λh42=>?_) (λh42=>?_)
    ·refine T4 ?_;exact k42 M
    refine T4 ?_;exact k42 M
   refine A1 (d:=37) X (λh37=>?_) (λh37=>?_)
   ·refine T4 ?_;exact k37 M
   refine T4 ?_;exact k37 M
  refine A1 (d:=32) X (λh32=>?_) (λh32=>?_)
  ·refine T4 ?_;exact k32 M
  refine T4 ?_;exact k32 M
 refine W ?_;refine CF M 1 X X Ap AO X (W ?_);refine CQ M 88 X X call52 (E9 m a _ _ ho.b (hm.fr0 M.fr)) λw18 M=>W ?_
 refine CE M X AP λg9 w19 hg9 M=>BX M 0 X X AM X λw20 M=>W ?_
 refine fvm M 4 [9,3,2] [(97,.bool ((!(AG m.els t.loc).isSome) || (!decide (t.on=[]))))] ?_ (λk93=>?_)
 ·intro w21 M;refine yb X (fvm M 4 [9,3,2] [(102,.bool (((!(AG m.els t.loc).isSome) || (!decide (t.on=[]))) || (!decide (t.err=(0:Int)))))] ?_ (λk98=>?_))
  ·intro w22 M;refine W ?_;refine AC X (λh102=>?_) (λh102=>?_)
   ·have h102p:=bd h102;refine W ?_;exact gr1 X ⟨by rw [IY,AN h15,Ac h102],M.fr⟩
   refine W ?_;refine AC X (λh105=>?_) (λh105=>?_)
   ·refine W ?_;refine AC X (λh108=>?_) (λh108=>?_)
    ·refine W ?_;refine fvm M 4 [3] [(116,.bool ((O ((t.inc.toNat:Int)=2))&&(O (t.worker=[]))))] ?_ (λk112=>?_)
     ·intro w23 M;refine yb X (fvm M 4 [] [(121,.bool (((O ((t.inc.toNat:Int)=2))&&(O (t.worker=[])))&&(O (t.until_=(0:Int)))))] ?_ (λk117=>?_))
      ·intro w24 M;refine W ?_;exact gr1 X ⟨by rw [IY,AN h15,AN h102,Ac h105,Ac h108],M.fr⟩
      refine A1 (d:=117) X (λh117=>?_) (λh117=>?_)
      ·refine T4 ?_;exact k117 M
      refine T4 ?_;exact k117 M
     refine A1 (d:=112) X (λh112=>?_) (λh112=>?_)
     ·refine T4 ?_;exact k112 M
     refine T4 ?_;exact k112 M
    refine W ?_;refine fvm M 4 [3] [(129,.bool ((O ((0:Int)<t.tries))&&(O (t.tries≤(100:Int)))))] ?_ (λk125=>?_)
    ·intro w25 M;refine yb X (fvm M 4 [] [(134,.bool (((O ((0:Int)<t.tries))&&(O (t.tries≤(100:Int))))&&(O ((t.inc.toNat:Int)=0))))] ?_ (λk130=>?_))
     ·intro w26 M;refine W ?_;exact gr1 X ⟨by rw [IY,AN h15,AN h102,Ac h105,AN h108],M.fr⟩
     refine A1 (d:=130) X (λh130=>?_) (λh130=>?_)
     ·refine T4 ?_;exact k130 M
     refine T4 ?_;exact k130 M
    refine A1 (d:=125) X (λh125=>?_) (λh125=>?_)
    ·refine T4 ?_;exact k125 M
    refine T4 ?_;exact k125 M
   refine W ?_;refine fvm M 4 [9,3,2] [(142,.bool ((!decide (t.tries=(0:Int))) || (!decide (t.worker=[]))))] ?_ (λk138=>?_)
   ·intro w27 M;refine yb X (fvm M 4 [9,3,2] [(147,.bool (((!decide (t.tries=(0:Int))) || (!decide (t.worker=[]))) || (!decide (t.until_=(0:Int)))))] ?_ (λk143=>?_))
    ·intro w28 M;refine yb X (fvm M 4 [9,3,2] [(152,.bool ((((!decide (t.tries=(0:Int))) || (!decide (t.worker=[]))) || (!decide (t.until_=(0:Int)))) || (!decide ((t.inc.toNat:Int)=0))))] ?_ (λk148=>?_))
     ·intro w29 M;refine W ?_;refine AC X (λh152=>?_) (λh152=>?_)
      ·have h152p:=bd h152;refine W ?_;exact gr1 X ⟨by rw [IY,AN h15,AN h102,AN h105,Ac h152],M.fr⟩
      refine W ?_;refine AC X (λh155=>?_) (λh155=>?_)
      ·refine W ?_;refine CF M 2 X X Ap AO X (W ?_);refine CQ M 160 X X call102 (tE m a _ _ ho (hm.fr0 M.fr)) λw30 M=>W ?_
       exact gr1 X ⟨by rw [IY,AN h15,AN h102,AN h105,AN h152,Ac h155],M.fr⟩
      refine W ?_;refine fvm M 4 [] [(172,.bool ((O ((((AG m.els t.loc).getD zeroEl).kind.toNat:Int)=3)) || (O ((((AG m.els t.loc).getD zeroEl).kind.toNat:Int)=7))))] ?_ (λk168=>?_)
      ·intro w31 M;refine W ?_;exact gr1 X ⟨by rw [IY,AN h15,AN h102,AN h105,AN h152,AN h155],M.fr⟩
      refine A1 (d:=168) X (λh168=>?_) (λh168=>?_)
      ·refine T4 ?_;exact k168 M
      refine T4 ?_;exact k168 M
     refine A1 (d:=148) X (λh148=>?_) (λh148=>?_)
     ·refine T4 ?_;exact k148 M
     refine T4 ?_;exact k148 M
    refine A1 (d:=143) X (λh143=>?_) (λh143=>?_)
    ·refine T4 ?_;exact k143 M
    refine T4 ?_;exact k143 M
   refine A1 (d:=138) X (λh138=>?_) (λh138=>?_)
   ·refine T4 ?_;exact k138 M
   refine T4 ?_;exact k138 M
  refine A1 (d:=98) X (λh98=>?_) (λh98=>?_)
  ·refine T4 ?_;exact k98 M
  refine T4 ?_;exact k98 M
 refine A1 (d:=93) X (λh93=>?_) (λh93=>?_)
 ·refine T4 ?_;exact k93 M
 refine T4 ?_;exact k93 M
theorem t6 (m:Md) (a:MdA) (t:Tk) (w:Kw) (ho:MdOk m) (hm:MdIn w m a) :
 zt zv 51 #[.agg (Md.cells m a).toArray,.agg t.cells.toArray] w λe w'=>∃A c,e=.returned (.slice A (FR m t).length c)∧w'.ownsRow w.heap.size 9 1 (.slice A (FR m t).length c) (FR m t).length (AF BH (FR m t))∧Fr0 w w':=by
 have hoi:=ho.id;have hon:=ho.nm;have hnv:=ho.nvars;have hne:=ho.nels;have hnf:=ho.nfls;have hol:=QO m.fls t.loc;have har:=PC m.els t.loc;refine BO func51 ntmps51 X λM=>W ?_
 refine CU M X X λg2 w1 hg2 M=>CU M X X λg3 w2 hg3 M=>W ?_
 refine AC X (λh16=>?_) (λh16=>?_)
 ·refine W ?_;refine gr1 X ?_;have hv0:FR m t=[]:=Ac h16;rw [hv0];exact ⟨zx,0,X,World.ownsRow_nil _ _ _ _,M.fr⟩
 have h16p:=odf h16;refine W ?_;refine CF M 1 X X Ap AO X (W ?_);refine CQ M 21 X X call52 (E9 m a _ _ ho.b (hm.fr0 M.fr)) λw3 M=>W ?_
 refine CE M X AP λg6 w4 hg6 M=>BX M 0 X X AM X λw5 M=>W ?_
 refine KA [(2,pg g2),(3,pg g3),(5,.slice zx 0 0),(25,.int .u8 (((AG m.els t.loc).getD zeroEl).kind.toNat:Int)),(26,.bool ((O ((((AG m.els t.loc).getD zeroEl).kind.toNat:Int)=3)) || (O ((((AG m.els t.loc).getD zeroEl).kind.toNat:Int)=8))))] (λw'=>Mem w AR [As.blk g6 106 (El.cells ((AG m.els t.loc).getD zeroEl)),As.blk g3 75 (Tk.cells t),As.blk g2 48 (Md.cells m a)] w') ?_ (λk26=>?_)
 ·intro w6 M;refine qx_seq (AC X (λh26=>?_) (λh26=>?_))
  ·have h26p:=bd h26;refine W ?_;refine CP M kw X X [str t.loc] ([str t.loc]) X X X X Be CK X X (FZ X) X λg32 w7 hg32 M=>?_
   have M:=M.nilOwn 9 1;refine CD (len':=[t.loc].length) (xs':=AF BH [t.loc]) M 0 kw X X X X X X (M.rdBlk 1 X X) Be C2 X AV (BN X) (Af _) (Af _) D4 (by unfold maxLen;first|omega|(simp;omega)) (by first|(simp;done)|(simp;omega)) (by first|exact (AY _ _ _).symm|rfl|simp [AF,BH]) λA33 c33 w8 M=>W ?_
   refine CF M 4 X X Ap AO X (W ?_);refine ND M 64 X (AE X X call103) (J6 m a _ _ ho (hm.fr0 M.fr)) λA64 c64 w9 M=>?_
   have hL64:=M.ownLen 0 X;have hbl:=E6 m.els t.loc;refine CD (len':=([t.loc]++(B6 m.els t.loc)).length) (xs':=AF BH ([t.loc]++(B6 m.els t.loc))) M 1 kw X X X X X X (M.rdOwn 0 X) Be C2 X AV (D5 FV) (Af _) (Af _) D4 (by unfold maxLen;first|omega|(simp;omega)) (by first|(simp;done)|(simp;omega)) (by first|exact (AY _ _ _).symm|rfl|simp [AF,BH]) λA65 c65 w10 M=>W ?_
   refine CF M 5 X X Ap AO X (W ?_);refine ND M 69 X (AE X X call104) (NX m a _ _ ho (hm.fr0 M.fr)) λA69 c69 w11 M=>?_
   have hL69:=M.ownLen 0 X;refine W ?_;refine flp [12,2] (λze e wr mz=>∃(q:Nat) (acc2:List Kz) (A6:Ky) (c6:Nat),e=(5,.slice A6 acc2.length c6)::(13,AA (q:Int))::ze∧Mem w AR [As.own w.heap.size 9 1 (.slice A69 (C1 m.els t.loc).length c69) ((C1 m.els t.loc).length) (AF BH (C1 m.els t.loc)),As.own w.heap.size 9 1 (.slice A64 (B6 m.els t.loc).length c64) ((B6 m.els t.loc).length) (AF BH (B6 m.els t.loc)),As.own w.heap.size 9 1 (.slice A6 acc2.length c6) acc2.length (AF BH acc2),As.blk g32 9 [str t.loc],As.blk g6 106 (El.cells ((AG m.els t.loc).getD zeroEl)),As.blk g3 75 (Tk.cells t),As.blk g2 48 (Md.cells m a)] wr∧(q≤(C1 m.els t.loc).length)∧(acc2=([t.loc]++(B6 m.els t.loc))++((C1 m.els t.loc).take q).flatMap (B6 m.els))∧(acc2.length≤700+q*200)∧mz=(C1 m.els t.loc).length-q) ⟨0,[t.loc]++(B6 m.els t.loc),A65,c65,X,M,Aj _,by rw [Fd,Ev,Cd],by first|omega|(simp;omega),rfl⟩ ?_;rintro _ w12 _ ⟨q,acc2,A6,c6,rfl,M,hq,hv,hl2,rfl⟩;refine W ?_;refine AC X (λh73=>?_) (λh73=>?_)
   ·have h73p:=odt h73;obtain ⟨z,hz⟩:=EJ (l:=C1 m.els t.loc) (i:=q) A0;obtain ⟨b_z,o_z,hA_z⟩:=DR (k:=1) A0 (M.rdOwn 0 X) hz;refine W ?_;refine EO 9 (λw'=>Mem w AR [As.own w.heap.size 9 1 (.slice A69 (C1 m.els t.loc).length c69) ((C1 m.els t.loc).length) (AF BH (C1 m.els t.loc)),As.own w.heap.size 9 1 (.slice A64 (B6 m.els t.loc).length c64) ((B6 m.els t.loc).length) (AF BH (B6 m.els t.loc)),As.blk g32 9 [str t.loc],As.blk g6 106 (El.cells ((AG m.els t.loc).getD zeroEl)),As.blk g3 75 (Tk.cells t),As.blk g2 48 (Md.cells m a)] w') CA ?_;have M:=M.drew;refine oc 0 9 X X (M.pk [0,1,3,4,5,6]) (oa 1 9 X X (M.pk [0,1,3,4,5,6]) (λ_ M=>AJ (xs:=Md.cells m a) X X (M.rdBlk 5 X X) Ap X AO) (oc 2 9 X X (M.pk [0,1,3,4,5,6]) (oc 3 9 X X (M.pk [0,1,3,4,5,6]) (oa 4 9 X X (M.pk [0,1,3,4,5,6]) (λ_ M=>AK q hA_z X X X (sl X) A0) (ol 5 9 X X X (M.pk [0,1,3,4,5,6]) (λ_ M=>(BC DN (M.rdOwn 0 X) hA_z hz 0 X)) (BB 6 (G 82) zr X kw X X (AE X X call103) (J6 m a _ _ ho (hm.fr0 M.fr)) ?_))))));rintro _ w13 ⟨A82,c82,rfl,how13,hfw13⟩;refine ⟨_,X,λ_=>(M.pk [0,1,3,4,5,6]).step hfw13,?_⟩;have M:=M.pushOwn hfw13 (Af _) how13;have hL82:=M.ownLen 0 X;have hbl:=E6 m.els z;refine B7 7 (G 83) zr X kw X X (λρ hρ=>D2 _ _ _ X w.heap.size _ _ _ _ Be C2 X AV _ _ _ (hρ _ _ X) (M.own 3 X) _ _ _ _ (hρ _ _ X) (M.rdOwn 0 X) (D5 FV) (by unfold maxLen;first|omega|(simp;omega)) D4 M.fr.size) ?_;rintro v83 w14 ⟨ho83,hgr83,hvb83⟩
    replace ho83:World.ownsRow w14 w.heap.size 9 1 v83 ((acc2++(B6 m.els z)).length) (AF BH (acc2++(B6 m.els z))):=by rw [show ((acc2++(B6 m.els z)).length)=acc2.length+(B6 m.els z).length from by first|(simp;done)|(simp;omega),show (AF BH (acc2++(B6 m.els z)))=(AF BH acc2)++(AF BH (B6 m.els z)) from by first|exact AY _ _ _|simp [AF,BH]];exact ho83
    have M:=M.appOwn 3 X ho83 hgr83 hvb83;obtain ⟨A83,c83,rfl,_⟩:=DH ho83;refine ⟨λ_=>(M.pk [1,2,4,5,6,7]),oc 8 9 X X (M.pk [1,2,4,5,6,7]) (fdn (W ?_))⟩;refine fag ⟨q+1,acc2++(B6 m.els z),A83,c83,X,(M.pk [1,2,3,4,5,6,7]),?_,?_,?_,X⟩
    ·omega
    ·rw [hv,AT hz,Ej,Cg];simp
    have hbz:=E6 m.els z;rw [Am];omega
   have h73p:=odf h73;refine W ?_;have hqE:q=(C1 m.els t.loc).length:=A0
   rw [hqE,Bc] at hv
   refine W ?_;refine gr1 X ?_;have hvp:FR m t=acc2:=by rw [FR,AN h16,hv,eW,Ac h26]<;>rfl
   rw [hvp];exact ⟨_,_,X,M.own 2 X,M.fr⟩
  have h26p:=bd h26;refine W ?_;refine AC X (λh34=>?_) (λh34=>?_)
  ·have h34p:=odt h34;refine W ?_;refine CF M 2 X X Ap AO X (W ?_);refine ND M 39 X (AE X X call101) (OW m a _ _ ho (hm.fr0 M.fr)) λA39 c39 w15 M=>?_
   have hL39:=M.ownLen 0 X;refine W ?_;have M:=M.nilOwn 9 1;refine flp [8,3,2] (λze e wr mz=>∃(j:Nat) (acc:List Kz) (A5:Ky) (c5:Nat),e=(5,.slice A5 acc.length c5)::(9,AA (j:Int))::ze∧Mem w AR [As.own w.heap.size 9 1 (.slice A5 acc.length c5) acc.length (AF BH acc),As.own w.heap.size 9 1 (.slice A39 (BI m.fls t.loc).length c39) ((BI m.fls t.loc).length) (AF BH (BI m.fls t.loc)),As.blk g6 106 (El.cells ((AG m.els t.loc).getD zeroEl)),As.blk g3 75 (Tk.cells t),As.blk g2 48 (Md.cells m a)] wr∧(j≤(BI m.fls t.loc).length)∧(acc=((BI m.fls t.loc).take j).map (λk=>((EU m.fls k).getD zeroFl).tg)∧acc.length=j)∧mz=(BI m.fls t.loc).length-j) ⟨0,[],zx,0,X,M,Aj _,⟨X,X⟩,X⟩ ?_;rintro _ w16 _ ⟨j,acc,A5,c5,rfl,M,hj,hacc,rfl⟩;refine W ?_;refine AC X (λh43=>?_) (λh43=>?_)
   ·have h43p:=odt h43;obtain ⟨k,_,_,hk,hA_k⟩:=ex5 (l:=BI m.fls t.loc) (k:=1) (i:=j) (M.rdOwn 1 X);refine W ?_;refine N6 (λ(g10:Nat)=>[(2,pg g2),(3,pg g3),(5,.slice A5 acc.length c5),(8,.slice A39 ((BI m.fls t.loc).length) c39),(9,AA (j:Int)),(10,pg g10)]) (λ(g10:Nat)=>λw'=>Mem w AR [As.blk g10 110 (Fl.cells ((EU m.fls k).getD zeroFl)),As.own w.heap.size 9 1 (.slice A5 acc.length c5) acc.length (AF BH acc),As.own w.heap.size 9 1 (.slice A39 (BI m.fls t.loc).length c39) ((BI m.fls t.loc).length) (AF BH (BI m.fls t.loc)),As.blk g6 106 (El.cells ((AG m.els t.loc).getD zeroEl)),As.blk g3 75 (Tk.cells t),As.blk g2 48 (Md.cells m a)] w') ?_ (λkr14=>?_)
    ·intro g10 w17 M;refine W ?_;refine CP M kw X X [str (((EU m.fls k).getD zeroFl).tg)] ([str (((EU m.fls k).getD zeroFl).tg)]) X X X X Be CK X X (FZ X) X λg58 w18 hg58 M=>CD (len':=(acc++[((EU m.fls k).getD zeroFl).tg]).length) (xs':=AF BH (acc++[((EU m.fls k).getD zeroFl).tg])) M 2 kw X X X X X X (M.rdBlk 0 X X) Be C2 X AV (BN X) (Af _) (Af _) D4 (by unfold maxLen;first|omega|(simp;omega)) (by first|(simp;done)|(simp;omega)) (by first|exact (AY _ _ _).symm|rfl|simp [AF,BH]) λA59 c59 w19 M=>W ?_
     refine fag ⟨j+1,acc++[((EU m.fls k).getD zeroFl).tg],A59,c59,X,(M.pk [2,3,4,5,6]),?_,?_,X⟩
     ·omega
     exact ⟨by rw [hacc.1,AT hk,Bu];rfl,by rw [Am,hacc.2];rfl⟩
    refine I0 M 12 CA λM=>oa 0 12 X X M (λ_ M=>AJ (xs:=Md.cells m a) X X (M.rdBlk 4 X X) Ap X AO) (oc 1 12 X X M (oc 2 12 X X M (oa 3 12 X X M (λ_ M=>AK j hA_k X X X (sl X) A0) (ol 4 12 X X X M (λ_ M=>(BC DN (M.rdOwn 1 X) hA_k hk 0 X)) (FM (rs:=[5,9]) zr (by simp) λiz hiz=>?_)))))
    simp only [Ao,Ba,or_false] at hiz
    rcases hiz with rfl|rfl
    ·refine GT (G 52) X kw X X (AE X X call100) (WX m a _ _ ho (hm.fr0 M.fr)) ?_;rintro _ w20 ⟨rfl,hfw20⟩;refine ⟨_,X,λ_=>M.step hfw20,?_⟩;have M:=M.step hfw20;refine oc 6 12 X X M (oc 7 12 X X M (oc 8 12 X X M (B7 9 (G 10) zr X kw X X (λρ hρ=>BP 110 X _ [str [],str [],str [],str []] DX X) ?_)));rintro _ w21 ⟨g10,rfl,hg10,hq10,hb10,hfw21⟩;refine ⟨λ_=>M.step hfw21,?_⟩;have M:=M.push hfw21 _ hb10 (CR hg10 hq10)
     replace M:Mem w AR (As.blk g10 110 [str [],str [],str [],str []]::_) w21:=M
     exact fop M 10 0 X X X BU X (·.drop 1) λw22 M=>oc 11 12 X X (M.drop 1) (fdn (kr14 g10 _ _ M ⟨X,X,X,X,X,X,zw⟩))
    refine DP (G 10) X kw X X (λρ hρ=>BP 110 X _ [str [],str [],str [],str []] DX X) ?_;rintro _ w23 ⟨g10,rfl,hg10,hq10,hb10,hfw23⟩;refine ⟨λ_=>M.step hfw23,?_⟩;have M:=M.push hfw23 _ hb10 (CR hg10 hq10)
    replace M:Mem w AR (As.blk g10 110 [str [],str [],str [],str []]::_) w23:=M
    refine BB 5 (G 52) zr X kw X X (AE X X call100) (WX m a _ _ ho (hm.fr0 M.fr)) ?_;rintro _ w24 ⟨rfl,hfw24⟩;refine ⟨_,X,λ_=>(M.drop 1).step hfw24,?_⟩;have M:=M.step hfw24;exact oc 6 12 X X (M.drop 1) (oc 7 12 X X (M.drop 1) (oc 8 12 X X (M.drop 1) (fop M 10 0 X X X BU X (·.drop 1) λw25 M=>oc 11 12 X X (M.drop 1) (fdn (kr14 g10 _ _ M ⟨X,X,X,X,X,X,zw⟩)))))
   have h43p:=odf h43;refine W ?_;have hjE:j=(BI m.fls t.loc).length:=A0
   have hal:acc.length≤400:=by rw [hacc.2,hjE];omega
   have hac:=hacc.1;rw [hjE,Bc] at hac
   refine W ?_;refine CF M 4 X X Ap AO X (W ?_);refine ND M 64 X (AE X X call103) (J6 m a _ _ ho (hm.fr0 M.fr)) λA64 c64 w26 M=>?_
   have hL64:=M.ownLen 0 X;have hbl:=E6 m.els t.loc;refine CD (len':=(acc++(B6 m.els t.loc)).length) (xs':=AF BH (acc++(B6 m.els t.loc))) M 1 kw X X X X X X (M.rdOwn 0 X) Be C2 X AV (D5 FV) (Af _) (Af _) D4 (by unfold maxLen;first|omega|(simp;omega)) (by first|(simp;done)|(simp;omega)) (by first|exact (AY _ _ _).symm|rfl|simp [AF,BH]) λA65 c65 w27 M=>W ?_
   refine CF M 5 X X Ap AO X (W ?_);refine ND M 69 X (AE X X call104) (NX m a _ _ ho (hm.fr0 M.fr)) λA69 c69 w28 M=>?_
   have hL69:=M.ownLen 0 X;refine W ?_;refine flp [12,2] (λze e wr mz=>∃(q:Nat) (acc2:List Kz) (A6:Ky) (c6:Nat),e=(5,.slice A6 acc2.length c6)::(13,AA (q:Int))::ze∧Mem w AR [As.own w.heap.size 9 1 (.slice A69 (C1 m.els t.loc).length c69) ((C1 m.els t.loc).length) (AF BH (C1 m.els t.loc)),As.own w.heap.size 9 1 (.slice A64 (B6 m.els t.loc).length c64) ((B6 m.els t.loc).length) (AF BH (B6 m.els t.loc)),As.own w.heap.size 9 1 (.slice A6 acc2.length c6) acc2.length (AF BH acc2),As.own w.heap.size 9 1 (.slice A39 (BI m.fls t.loc).length c39) ((BI m.fls t.loc).length) (AF BH (BI m.fls t.loc)),As.blk g6 106 (El.cells ((AG m.els t.loc).getD zeroEl)),As.blk g3 75 (Tk.cells t),As.blk g2 48 (Md.cells m a)] wr∧(q≤(C1 m.els t.loc).length)∧(acc2=(acc++(B6 m.els t.loc))++((C1 m.els t.loc).take q).flatMap (B6 m.els))∧(acc2.length≤700+q*200)∧mz=(C1 m.els t.loc).length-q) ⟨0,acc++(B6 m.els t.loc),A65,c65,X,M,Aj _,by rw [Fd,Ev,Cd],by first|omega|(simp;omega),rfl⟩ ?_;rintro _ w29 _ ⟨q,acc2,A6,c6,rfl,M,hq,hv,hl2,rfl⟩;refine W ?_;refine AC X (λh73=>?_) (λh73=>?_)
   ·have h73p:=odt h73;obtain ⟨z,hz⟩:=EJ (l:=C1 m.els t.loc) (i:=q) A0;obtain ⟨b_z,o_z,hA_z⟩:=DR (k:=1) A0 (M.rdOwn 0 X) hz;refine W ?_;refine EO 9 (λw'=>Mem w AR [As.own w.heap.size 9 1 (.slice A69 (C1 m.els t.loc).length c69) ((C1 m.els t.loc).length) (AF BH (C1 m.els t.loc)),As.own w.heap.size 9 1 (.slice A64 (B6 m.els t.loc).length c64) ((B6 m.els t.loc).length) (AF BH (B6 m.els t.loc)),As.own w.heap.size 9 1 (.slice A39 (BI m.fls t.loc).length c39) ((BI m.fls t.loc).length) (AF BH (BI m.fls t.loc)),As.blk g6 106 (El.cells ((AG m.els t.loc).getD zeroEl)),As.blk g3 75 (Tk.cells t),As.blk g2 48 (Md.cells m a)] w') CA ?_;have M:=M.drew;refine oc 0 9 X X (M.pk [0,1,3,4,5,6]) (oa 1 9 X X (M.pk [0,1,3,4,5,6]) (λ_ M=>AJ (xs:=Md.cells m a) X X (M.rdBlk 5 X X) Ap X AO) (oc 2 9 X X (M.pk [0,1,3,4,5,6]) (oc 3 9 X X (M.pk [0,1,3,4,5,6]) (oa 4 9 X X (M.pk [0,1,3,4,5,6]) (λ_ M=>AK q hA_z X X X (sl X) A0) (ol 5 9 X X X (M.pk [0,1,3,4,5,6]) (λ_ M=>(BC DN (M.rdOwn 0 X) hA_z hz 0 X)) (BB 6 (G 82) zr X kw X X (AE X X call103) (J6 m a _ _ ho (hm.fr0 M.fr)) ?_))))));rintro _ w30 ⟨A82,c82,rfl,how30,hfw30⟩;refine ⟨_,X,λ_=>(M.pk [0,1,3,4,5,6]).step hfw30,?_⟩;have M:=M.pushOwn hfw30 (Af _) how30;have hL82:=M.ownLen 0 X;have hbl:=E6 m.els z;refine B7 7 (G 83) zr X kw X X (λρ hρ=>D2 _ _ _ X w.heap.size _ _ _ _ Be C2 X AV _ _ _ (hρ _ _ X) (M.own 3 X) _ _ _ _ (hρ _ _ X) (M.rdOwn 0 X) (D5 FV) (by unfold maxLen;first|omega|(simp;omega)) D4 M.fr.size) ?_;rintro v83 w31 ⟨ho83,hgr83,hvb83⟩
    replace ho83:World.ownsRow w31 w.heap.size 9 1 v83 ((acc2++(B6 m.els z)).length) (AF BH (acc2++(B6 m.els z))):=by rw [show ((acc2++(B6 m.els z)).length)=acc2.length+(B6 m.els z).length from by first|(simp;done)|(simp;omega),show (AF BH (acc2++(B6 m.els z)))=(AF BH acc2)++(AF BH (B6 m.els z)) from by first|exact AY _ _ _|simp [AF,BH]];exact ho83
    have M:=M.appOwn 3 X ho83 hgr83 hvb83;obtain ⟨A83,c83,rfl,_⟩:=DH ho83;refine ⟨λ_=>(M.pk [1,2,4,5,6,7]),oc 8 9 X X (M.pk [1,2,4,5,6,7]) (fdn (W ?_))⟩;refine fag ⟨q+1,acc2++(B6 m.els z),A83,c83,X,(M.pk [1,2,3,4,5,6,7]),?_,?_,?_,X⟩
    ·omega
    ·rw [hv,AT hz,Ej,Cg];simp
    have hbz:=E6 m.els z;rw [Am];omega
   have h73p:=odf h73;refine W ?_;have hqE:q=(C1 m.els t.loc).length:=A0
   rw [hqE,Bc] at hv
   refine W ?_;refine gr1 X ?_;have hvp:FR m t=acc2:=by rw [FR,AN h16,hv,eW,AN h26,Ac h34,←hac]<;>rfl
   rw [hvp];exact ⟨_,_,X,M.own 2 X,M.fr⟩
  have h34p:=odf h34;refine W ?_;refine CF M 2 X X Ap AO X (W ?_);refine ND M 64 X (AE X X call103) (J6 m a _ _ ho (hm.fr0 M.fr)) λA64 c64 w32 M=>?_
  have hL64:=M.ownLen 0 X;have hbl:=E6 m.els t.loc;have M:=M.nilOwn 9 1;refine CD (len':=(B6 m.els t.loc).length) (xs':=AF BH (B6 m.els t.loc)) M 0 kw X X X X X X (M.rdOwn 1 X) Be C2 X AV (D5 FV) (Af _) (Af _) D4 (by unfold maxLen;first|omega|(simp;omega)) (by first|(simp;done)|(simp;omega)) (by first|exact (AY _ _ _).symm|rfl|simp [AF,BH]) λA65 c65 w33 M=>W ?_
  refine CF M 4 X X Ap AO X (W ?_);refine ND M 69 X (AE X X call104) (NX m a _ _ ho (hm.fr0 M.fr)) λA69 c69 w34 M=>?_
  have hL69:=M.ownLen 0 X;refine W ?_;refine flp [12,2] (λze e wr mz=>∃(q:Nat) (acc2:List Kz) (A6:Ky) (c6:Nat),e=(5,.slice A6 acc2.length c6)::(13,AA (q:Int))::ze∧Mem w AR [As.own w.heap.size 9 1 (.slice A69 (C1 m.els t.loc).length c69) ((C1 m.els t.loc).length) (AF BH (C1 m.els t.loc)),As.own w.heap.size 9 1 (.slice A6 acc2.length c6) acc2.length (AF BH acc2),As.own w.heap.size 9 1 (.slice A64 (B6 m.els t.loc).length c64) ((B6 m.els t.loc).length) (AF BH (B6 m.els t.loc)),As.blk g6 106 (El.cells ((AG m.els t.loc).getD zeroEl)),As.blk g3 75 (Tk.cells t),As.blk g2 48 (Md.cells m a)] wr∧(q≤(C1 m.els t.loc).length)∧(acc2=(B6 m.els t.loc)++((C1 m.els t.loc).take q).flatMap (B6 m.els))∧(acc2.length≤700+q*200)∧mz=(C1 m.els t.loc).length-q) ⟨0,B6 m.els t.loc,A65,c65,X,M,Aj _,by rw [Fd,Ev,Cd],by first|omega|(simp;omega),rfl⟩ ?_;rintro _ w35 _ ⟨q,acc2,A6,c6,rfl,M,hq,hv,hl2,rfl⟩;refine W ?_;refine AC X (λh73=>?_) (λh73=>?_)
  ·have h73p:=odt h73;obtain ⟨z,_,_,hz,hA_z⟩:=ex5 (l:=C1 m.els t.loc) (k:=1) (i:=q) (M.rdOwn 0 X);refine W ?_;refine EO 9 (λw'=>Mem w AR [As.own w.heap.size 9 1 (.slice A69 (C1 m.els t.loc).length c69) ((C1 m.els t.loc).length) (AF BH (C1 m.els t.loc)),As.own w.heap.size 9 1 (.slice A64 (B6 m.els t.loc).length c64) ((B6 m.els t.loc).length) (AF BH (B6 m.els t.loc)),As.blk g6 106 (El.cells ((AG m.els t.loc).getD zeroEl)),As.blk g3 75 (Tk.cells t),As.blk g2 48 (Md.cells m a)] w') CA ?_;have M:=M.drew;refine oc 0 9 X X (M.pk [0,2,3,4,5]) (oa 1 9 X X (M.pk [0,2,3,4,5]) (λ_ M=>AJ (xs:=Md.cells m a) X X (M.rdBlk 4 X X) Ap X AO) (oc 2 9 X X (M.pk [0,2,3,4,5]) (oc 3 9 X X (M.pk [0,2,3,4,5]) (oa 4 9 X X (M.pk [0,2,3,4,5]) (λ_ M=>AK q hA_z X X X (sl X) A0) (ol 5 9 X X X (M.pk [0,2,3,4,5]) (λ_ M=>(BC DN (M.rdOwn 0 X) hA_z hz 0 X)) (BB 6 (G 82) zr X kw X X (AE X X call103) (J6 m a _ _ ho (hm.fr0 M.fr)) ?_))))));rintro _ w36 ⟨A82,c82,rfl,how36,hfw36⟩;refine ⟨_,X,λ_=>(M.pk [0,2,3,4,5]).step hfw36,?_⟩;have M:=M.pushOwn hfw36 (Af _) how36;have hL82:=M.ownLen 0 X;have hbl:=E6 m.els z;refine B7 7 (G 83) zr X kw X X (λρ hρ=>D2 _ _ _ X w.heap.size _ _ _ _ Be C2 X AV _ _ _ (hρ _ _ X) (M.own 2 X) _ _ _ _ (hρ _ _ X) (M.rdOwn 0 X) (D5 FV) (by unfold maxLen;first|omega|(simp;omega)) D4 M.fr.size) ?_;rintro v83 w37 ⟨ho83,hgr83,hvb83⟩
   replace ho83:World.ownsRow w37 w.heap.size 9 1 v83 ((acc2++(B6 m.els z)).length) (AF BH (acc2++(B6 m.els z))):=by rw [show ((acc2++(B6 m.els z)).length)=acc2.length+(B6 m.els z).length from by first|(simp;done)|(simp;omega),show (AF BH (acc2++(B6 m.els z)))=(AF BH acc2)++(AF BH (B6 m.els z)) from by first|exact AY _ _ _|simp [AF,BH]];exact ho83
   have M:=M.appOwn 2 X ho83 hgr83 hvb83;obtain ⟨A83,c83,rfl,_⟩:=DH ho83;refine ⟨λ_=>(M.pk [1,3,4,5,6]),oc 8 9 X X (M.pk [1,3,4,5,6]) (fdn (W ?_))⟩;refine fag ⟨q+1,acc2++(B6 m.els z),A83,c83,X,(M.pk [1,2,3,4,5,6]),?_,?_,?_,X⟩
   ·omega
   ·rw [hv,AT hz,Ej,Cg];simp
   have hbz:=E6 m.els z;rw [Am];omega
  have h73p:=odf h73;refine W ?_;have hqE:q=(C1 m.els t.loc).length:=A0
  rw [hqE,Bc] at hv
  refine W ?_;refine gr1 X ?_;have hvp:FR m t=acc2:=by rw [FR,AN h16,hv,eW,AN h26,AN h34]<;>rfl
  rw [hvp];exact ⟨_,_,X,M.own 1 X,M.fr⟩
 refine AC X (λh26=>?_) (λh26=>?_)
 ·exact sx_skip (k26 _ _ M ⟨X,X,X,X,(by rw [h26];rfl),zw⟩)
 refine T4 ?_;exact k26 _ _ M ⟨X,X,X,X,(by rw [h26];rfl),zw⟩
def kK (born:Int) (x:El):Int:=if (O ((x.ev.toNat:Int)=(1:Int)))=zz then (IntKind.i64).wrap (born+x.ticks) else 0
def HN (vars:List Bd) (born:Int) (x:El):Wt × Int:=
 if (O ((x.ev.toNat:Int)=(2:Int)))=zz then
  (if (!((EK vars x.key).isSome))=zz then (⟨[],0,[],[],0⟩,100)
  else if (!decide ((((EK vars x.key).getD zeroVl).kind.toNat:Int)=(3:Int)))=zz then (⟨[],0,[],[],0⟩,90)
  else (⟨x.id,x.ev,x.ref,((EK vars x.key).getD zeroVl).text,kK born x⟩,0))
 else (⟨x.id,x.ev,x.ref,[],kK born x⟩,0)
def QG (m:Md) (t:Tk) (vars:List Bd):List Kz→Option Int
 | []=>zx
 | k::r=>if (!decide ((HN vars t.born ((AG m.els k).getD zeroEl)).2=(0:Int)))=zz then G (HN vars t.born ((AG m.els k).getD zeroEl)).2 else QG m t vars r
def GK (m:Md) (vars:List Bd) (t:Tk):List Wt × Int:=
 if (!(IY m t))=zz then ([],1)
 else match QG m t vars (FR m t) with
  | some e=>([],e)
  | none=>((FR m t).map (λk=>(HN vars t.born ((AG m.els k).getD zeroEl)).1),0)
theorem o7 (m:Md) (a:MdA) (vars:List Bd) (V:Ky) (cv:Nat) (t:Tk) (w:Kw) (ho:MdOk m) (hm:MdIn w m a) (hvl:(vars.length:Int)<4611686018427387904) (hV:Rd w V (vars.length*5) (AF Bd.cells vars)) :
 zt zv 23 #[.agg (Md.cells m a).toArray,.slice V vars.length cv,.agg t.cells.toArray] w λe w'=>∃A c',e=.returned (.tuple #[.slice A (GK m vars t).1.length c',AA (GK m vars t).2])∧w'.ownsRow w.heap.size 80 5 (.slice A (GK m vars t).1.length c') (GK m vars t).1.length (AF Wt.cells (GK m vars t).1)∧Fr0 w w':=by
 have hoi:=ho.id;have hon:=ho.nm;have hnv:=ho.nvars;have hne:=ho.nels;have hnf:=ho.nfls;have hvL:=nA ho t;refine BO func23 ntmps23 X λM=>W ?_
 refine CU M X X λg3 w1 hg3 M=>CU M X X λg5 w2 hg5 M=>W ?_
 refine CF M 1 X X Ap AO X (CF M 0 X X Bw BE X (CQ M 18 X X call49 (TI m a t _ ho (hm.fr0 M.fr)) λw3 M=>W ?_));refine AC X (λh19=>?_) (λh19=>?_)
 ·refine W ?_;refine B1 X X X ?_;have hwp:GK m vars t=([],1):=Ac h19;rw [hwp];exact ⟨zx,0,X,World.ownsRow_nil _ _ _ _,M.fr⟩
 have h19p:=BL h19;refine W ?_;refine CF M 1 X X Ap AO X (CF M 0 X X Bw BE X (ND M 22 X (AE X X call51) (t6 m a t _ ho (hm.fr0 M.fr)) λA22 c22 w4 M=>?_));have hL22:=M.ownLen 0 X;refine W ?_;have M:=M.nilOwn 80 5;refine flp [8,5,3,1] (λze e wr mz=>∃(i:Nat) (acc:List Wt) (A8:Ky) (c8:Nat),e=(9,.slice A8 acc.length c8)::(10,AA (i:Int))::ze∧Mem w AR [As.own w.heap.size 80 5 (.slice A8 acc.length c8) acc.length (AF Wt.cells acc),As.own w.heap.size 9 1 (.slice A22 (FR m t).length c22) ((FR m t).length) (AF BH (FR m t)),As.blk g5 75 (Tk.cells t),As.blk g3 48 (Md.cells m a)] wr∧(i≤(FR m t).length)∧(acc=((FR m t).take i).map (λk=>(HN vars t.born ((AG m.els k).getD zeroEl)).1)∧acc.length=i)∧(QG m t vars (FR m t)=QG m t vars ((FR m t).drop i))∧mz=(FR m t).length-i) ⟨0,[],zx,0,X,M,Aj _,⟨X,X⟩,X,X⟩ ?_;rintro _ w5 _ ⟨i,acc,A8,c8,rfl,M,hi,hacc,hE,rfl⟩;refine W ?_;refine AC X (λh26=>?_) (λh26=>?_)
 ·have h26p:=odt h26;obtain ⟨k,_,_,hk,hA_k⟩:=ex5 (l:=FR m t) (k:=1) (i:=i) (M.rdOwn 1 X);refine W ?_;refine N6 (λ(g11:Nat)=>[(1,.slice V vars.length cv),(3,pg g3),(5,pg g5),(8,.slice A22 ((FR m t).length) c22),(9,.slice A8 acc.length c8),(10,AA (i:Int)),(11,pg g11)]) (λ(g11:Nat)=>λw'=>Mem w AR [As.blk g11 106 (El.cells ((AG m.els k).getD zeroEl)),As.own w.heap.size 80 5 (.slice A8 acc.length c8) acc.length (AF Wt.cells acc),As.own w.heap.size 9 1 (.slice A22 (FR m t).length c22) ((FR m t).length) (AF BH (FR m t)),As.blk g5 75 (Tk.cells t),As.blk g3 48 (Md.cells m a)] w') ?_ (λkr8=>?_)
  ·intro g11 w6 M;refine W ?_;refine ya X (B8 (parts:=[(0,_),(1,_),(2,_)]) X X (MQ _ _ _)) (CE M X KF λg13 w7 hg13 M=>BX M 0 X X CB X λw8 M=>W ?_);refine AC X (λh47=>?_) (λh47=>?_)
   ·have h47p:=odt h47;refine T5 ?_;refine ya X (aR X X X) (yb X (gp1 M 0 X X X GF λw9 M=>W ?_));refine AC X (λh56=>?_) (λh56=>?_)
    ·have h56p:=odt h56;refine W ?_;refine CQ M 61 X X call53 (RY _ _ vars (((AG m.els k).getD zeroEl).key) _ A0 (hV.fr0 M.fr)) λw10 M=>W ?_
     refine CE M X G7 λg14 w11 hg14 M=>BX M 0 X X BM X λw12 M=>W ?_
     refine AC X (λh65=>?_) (λh65=>?_)
     ·refine W ?_;refine B1 X X X ?_;have hwe:(HN vars t.born ((AG m.els k).getD zeroEl)).2=100:=by rw [HN,Ac h56,Ac h65]
      have hwp:GK m vars t=([],100):=by rw [GK,AN h19,hE,AH hk,QG,Ac (by rw [hwe];decide),hwe]
      rw [hwp];exact ⟨zx,0,X,World.ownsRow_nil _ _ _ _,M.fr⟩
     have h65p:=BL h65;refine W ?_;refine AC X (λh68=>?_) (λh68=>?_)
     ·refine W ?_;refine B1 X X X ?_;have hwe:(HN vars t.born ((AG m.els k).getD zeroEl)).2=90:=by rw [HN,Ac h56,AN h65,Ac h68]
      have hwp:GK m vars t=([],90):=by rw [GK,AN h19,hE,AH hk,QG,Ac (by rw [hwe];decide),hwe]
      rw [hwp];exact ⟨zx,0,X,World.ownsRow_nil _ _ _ _,M.fr⟩
     have h68p:=(odt (BL h68));refine W ?_;refine gp1 M 1 X X X G4 λw13 M=>W ?_
     refine ya X (AJ (xs:=[str (((AG m.els k).getD zeroEl).id),.int .u8 (((AG m.els k).getD zeroEl).ev.toNat:Int),str (((AG m.els k).getD zeroEl).ref),str (((EK vars (((AG m.els k).getD zeroEl).key)).getD zeroVl).text),AA ((IntKind.i64).wrap (t.born+((AG m.els k).getD zeroEl).ticks))]) X X (M.rdBlk 1 X X) Dj X CB) (CP M kw X X [.agg #[str (((AG m.els k).getD zeroEl).id),.int .u8 (((AG m.els k).getD zeroEl).ev.toNat:Int),str (((AG m.els k).getD zeroEl).ref),str (((EK vars (((AG m.els k).getD zeroEl).key)).getD zeroVl).text),AA ((IntKind.i64).wrap (t.born+((AG m.els k).getD zeroEl).ticks))]] ([str (((AG m.els k).getD zeroEl).id),.int .u8 (((AG m.els k).getD zeroEl).ev.toNat:Int),str (((AG m.els k).getD zeroEl).ref),str (((EK vars (((AG m.els k).getD zeroEl).key)).getD zeroVl).text),AA ((IntKind.i64).wrap (t.born+((AG m.els k).getD zeroEl).ticks))]) X X X X Ep JP X X (FZ X) X λg74 w14 hg74 M=>CD (len':=(acc++[(⟨(((AG m.els k).getD zeroEl).id),(((AG m.els k).getD zeroEl).ev),(((AG m.els k).getD zeroEl).ref),(((EK vars (((AG m.els k).getD zeroEl).key)).getD zeroVl).text),((IntKind.i64).wrap (t.born+((AG m.els k).getD zeroEl).ticks))⟩:Wt)]).length) (xs':=AF Wt.cells (acc++[(⟨(((AG m.els k).getD zeroEl).id),(((AG m.els k).getD zeroEl).ev),(((AG m.els k).getD zeroEl).ref),(((EK vars (((AG m.els k).getD zeroEl).key)).getD zeroVl).text),((IntKind.i64).wrap (t.born+((AG m.els k).getD zeroEl).ticks))⟩:Wt)])) M 4 kw X X X X X X (M.rdBlk 0 X X) Ep IM X AV (BN X) (Af _) (Af _) D4 (by unfold maxLen;first|omega|(simp;omega)) (by first|(simp;done)|(simp;omega)) (by first|exact (AY _ _ _).symm|rfl|simp [AF,Wt.cells]) λA75 c75 w15 M=>W ?_);refine fag ⟨i+1,acc++[(⟨(((AG m.els k).getD zeroEl).id),(((AG m.els k).getD zeroEl).ev),(((AG m.els k).getD zeroEl).ref),(((EK vars (((AG m.els k).getD zeroEl).key)).getD zeroVl).text),((IntKind.i64).wrap (t.born+((AG m.els k).getD zeroEl).ticks))⟩:Wt)],A75,c75,X,(M.pk [4,5,6,7]),?_,?_,?_,X⟩
     ·omega
     ·exact ⟨by rw [hacc.1,AT hk,Bu,Dz,HN,kK,Ac h56,AN h65,AN h68,Ac h47],by rw [Am,hacc.2];rfl⟩
     rw [hE,AH hk,QG,Ae];rw [HN,Ac h56,AN h65,AN h68];simp
    have h56p:=odf h56;refine W ?_;refine CF M 0 X X Dj CB X (CP M kw X X [.agg #[str (((AG m.els k).getD zeroEl).id),.int .u8 (((AG m.els k).getD zeroEl).ev.toNat:Int),str (((AG m.els k).getD zeroEl).ref),str [],AA ((IntKind.i64).wrap (t.born+((AG m.els k).getD zeroEl).ticks))]] ([str (((AG m.els k).getD zeroEl).id),.int .u8 (((AG m.els k).getD zeroEl).ev.toNat:Int),str (((AG m.els k).getD zeroEl).ref),str [],AA ((IntKind.i64).wrap (t.born+((AG m.els k).getD zeroEl).ticks))]) X X X X Ep JP X X (FZ X) X λg74 w16 hg74 M=>CD (len':=(acc++[(⟨(((AG m.els k).getD zeroEl).id),(((AG m.els k).getD zeroEl).ev),(((AG m.els k).getD zeroEl).ref),[],((IntKind.i64).wrap (t.born+((AG m.els k).getD zeroEl).ticks))⟩:Wt)]).length) (xs':=AF Wt.cells (acc++[(⟨(((AG m.els k).getD zeroEl).id),(((AG m.els k).getD zeroEl).ev),(((AG m.els k).getD zeroEl).ref),[],((IntKind.i64).wrap (t.born+((AG m.els k).getD zeroEl).ticks))⟩:Wt)])) M 3 kw X X X X X X (M.rdBlk 0 X X) Ep IM X AV (BN X) (Af _) (Af _) D4 (by unfold maxLen;first|omega|(simp;omega)) (by first|(simp;done)|(simp;omega)) (by first|exact (AY _ _ _).symm|rfl|simp [AF,Wt.cells]) λA75 c75 w17 M=>W ?_);refine fag ⟨i+1,acc++[(⟨(((AG m.els k).getD zeroEl).id),(((AG m.els k).getD zeroEl).ev),(((AG m.els k).getD zeroEl).ref),[],((IntKind.i64).wrap (t.born+((AG m.els k).getD zeroEl).ticks))⟩:Wt)],A75,c75,X,(M.pk [3,4,5,6]),?_,?_,?_,X⟩
    ·omega
    ·exact ⟨by rw [hacc.1,AT hk,Bu,Dz,HN,kK,AN h56,Ac h47],by rw [Am,hacc.2];rfl⟩
    rw [hE,AH hk,QG,Ae];rw [HN,AN h56];simp
   have h47p:=odf h47;refine W ?_;refine AC X (λh56=>?_) (λh56=>?_)
   ·have h56p:=odt h56;refine W ?_;refine CQ M 61 X X call53 (RY _ _ vars (((AG m.els k).getD zeroEl).key) _ A0 (hV.fr0 M.fr)) λw18 M=>W ?_
    refine CE M X G7 λg14 w19 hg14 M=>BX M 0 X X BM X λw20 M=>W ?_
    refine AC X (λh65=>?_) (λh65=>?_)
    ·refine W ?_;refine B1 X X X ?_;have hwe:(HN vars t.born ((AG m.els k).getD zeroEl)).2=100:=by rw [HN,Ac h56,Ac h65]
     have hwp:GK m vars t=([],100):=by rw [GK,AN h19,hE,AH hk,QG,Ac (by rw [hwe];decide),hwe]
     rw [hwp];exact ⟨zx,0,X,World.ownsRow_nil _ _ _ _,M.fr⟩
    have h65p:=BL h65;refine W ?_;refine AC X (λh68=>?_) (λh68=>?_)
    ·refine W ?_;refine B1 X X X ?_;have hwe:(HN vars t.born ((AG m.els k).getD zeroEl)).2=90:=by rw [HN,Ac h56,AN h65,Ac h68]
     have hwp:GK m vars t=([],90):=by rw [GK,AN h19,hE,AH hk,QG,Ac (by rw [hwe];decide),hwe]
     rw [hwp];exact ⟨zx,0,X,World.ownsRow_nil _ _ _ _,M.fr⟩
    have h68p:=(odt (BL h68));refine W ?_;refine gp1 M 1 X X X G4 λw21 M=>W ?_
    refine ya X (AJ (xs:=[str (((AG m.els k).getD zeroEl).id),.int .u8 (((AG m.els k).getD zeroEl).ev.toNat:Int),str (((AG m.els k).getD zeroEl).ref),str (((EK vars (((AG m.els k).getD zeroEl).key)).getD zeroVl).text),AA 0]) X X (M.rdBlk 1 X X) Dj X CB) (CP M kw X X [.agg #[str (((AG m.els k).getD zeroEl).id),.int .u8 (((AG m.els k).getD zeroEl).ev.toNat:Int),str (((AG m.els k).getD zeroEl).ref),str (((EK vars (((AG m.els k).getD zeroEl).key)).getD zeroVl).text),AA 0]] ([str (((AG m.els k).getD zeroEl).id),.int .u8 (((AG m.els k).getD zeroEl).ev.toNat:Int),str (((AG m.els k).getD zeroEl).ref),str (((EK vars (((AG m.els k).getD zeroEl).key)).getD zeroVl).text),AA 0]) X X X X Ep JP X X (FZ X) X λg74 w22 hg74 M=>CD (len':=(acc++[(⟨(((AG m.els k).getD zeroEl).id),(((AG m.els k).getD zeroEl).ev),(((AG m.els k).getD zeroEl).ref),(((EK vars (((AG m.els k).getD zeroEl).key)).getD zeroVl).text),0⟩:Wt)]).length) (xs':=AF Wt.cells (acc++[(⟨(((AG m.els k).getD zeroEl).id),(((AG m.els k).getD zeroEl).ev),(((AG m.els k).getD zeroEl).ref),(((EK vars (((AG m.els k).getD zeroEl).key)).getD zeroVl).text),0⟩:Wt)])) M 4 kw X X X X X X (M.rdBlk 0 X X) Ep IM X AV (BN X) (Af _) (Af _) D4 (by unfold maxLen;first|omega|(simp;omega)) (by first|(simp;done)|(simp;omega)) (by first|exact (AY _ _ _).symm|rfl|simp [AF,Wt.cells]) λA75 c75 w23 M=>W ?_);refine fag ⟨i+1,acc++[(⟨(((AG m.els k).getD zeroEl).id),(((AG m.els k).getD zeroEl).ev),(((AG m.els k).getD zeroEl).ref),(((EK vars (((AG m.els k).getD zeroEl).key)).getD zeroVl).text),0⟩:Wt)],A75,c75,X,(M.pk [4,5,6,7]),?_,?_,?_,X⟩
    ·omega
    ·exact ⟨by rw [hacc.1,AT hk,Bu,Dz,HN,kK,Ac h56,AN h65,AN h68,AN h47],by rw [Am,hacc.2];rfl⟩
    rw [hE,AH hk,QG,Ae];rw [HN,Ac h56,AN h65,AN h68];simp
   have h56p:=odf h56;refine W ?_;refine CF M 0 X X Dj CB X (CP M kw X X [.agg #[str (((AG m.els k).getD zeroEl).id),.int .u8 (((AG m.els k).getD zeroEl).ev.toNat:Int),str (((AG m.els k).getD zeroEl).ref),str [],AA 0]] ([str (((AG m.els k).getD zeroEl).id),.int .u8 (((AG m.els k).getD zeroEl).ev.toNat:Int),str (((AG m.els k).getD zeroEl).ref),str [],AA 0]) X X X X Ep JP X X (FZ X) X λg74 w24 hg74 M=>CD (len':=(acc++[(⟨(((AG m.els k).getD zeroEl).id),(((AG m.els k).getD zeroEl).ev),(((AG m.els k).getD zeroEl).ref),[],0⟩:Wt)]).length) (xs':=AF Wt.cells (acc++[(⟨(((AG m.els k).getD zeroEl).id),(((AG m.els k).getD zeroEl).ev),(((AG m.els k).getD zeroEl).ref),[],0⟩:Wt)])) M 3 kw X X X X X X (M.rdBlk 0 X X) Ep IM X AV (BN X) (Af _) (Af _) D4 (by unfold maxLen;first|omega|(simp;omega)) (by first|(simp;done)|(simp;omega)) (by first|exact (AY _ _ _).symm|rfl|simp [AF,Wt.cells]) λA75 c75 w25 M=>W ?_);refine fag ⟨i+1,acc++[(⟨(((AG m.els k).getD zeroEl).id),(((AG m.els k).getD zeroEl).ev),(((AG m.els k).getD zeroEl).ref),[],0⟩:Wt)],A75,c75,X,(M.pk [3,4,5,6]),?_,?_,?_,X⟩
   ·omega
   ·exact ⟨by rw [hacc.1,AT hk,Bu,Dz,HN,kK,AN h56,AN h47],by rw [Am,hacc.2];rfl⟩
   rw [hE,AH hk,QG,Ae];rw [HN,AN h56];simp
  refine I0 M 12 CA λM=>oa 0 12 X X M (λ_ M=>AJ (xs:=Md.cells m a) X X (M.rdBlk 3 X X) Ap X AO) (oc 1 12 X X M (oc 2 12 X X M (oa 3 12 X X M (λ_ M=>AK i hA_k X X X (sl X) A0) (ol 4 12 X X X M (λ_ M=>(BC DN (M.rdOwn 1 X) hA_k hk 0 X)) (FM (rs:=[5,9]) zr (by simp) λiz hiz=>?_)))))
  simp only [Ao,Ba,or_false] at hiz
  rcases hiz with rfl|rfl
  ·refine GT (G 35) X kw X X (AE X X call52) (E9 m a _ _ ho.b (hm.fr0 M.fr)) ?_;rintro _ w26 ⟨rfl,hfw26⟩;refine ⟨_,X,λ_=>M.step hfw26,?_⟩;have M:=M.step hfw26;refine oc 6 12 X X M (oc 7 12 X X M (oc 8 12 X X M (B7 9 (G 11) zr X kw X X (λρ hρ=>BP 106 X _ [str [],str [],.int .u8 0,str [],str [],str [],.int .u8 0,str [],str [],AA 0,AA 0] AP X) ?_)));rintro _ w27 ⟨g11,rfl,hg11,hq11,hb11,hfw27⟩;refine ⟨λ_=>M.step hfw27,?_⟩;have M:=M.push hfw27 _ hb11 (CR hg11 hq11)
   replace M:Mem w AR (As.blk g11 106 [str [],str [],.int .u8 0,str [],str [],str [],.int .u8 0,str [],str [],AA 0,AA 0]::_) w27:=M
   exact fop M 10 0 X X X AM X (·.drop 1) λw28 M=>oc 11 12 X X (M.drop 1) (fdn (kr8 g11 _ _ M ⟨X,X,X,X,X,X,X,zw⟩))
  refine DP (G 11) X kw X X (λρ hρ=>BP 106 X _ [str [],str [],.int .u8 0,str [],str [],str [],.int .u8 0,str [],str [],AA 0,AA 0] AP X) ?_;rintro _ w29 ⟨g11,rfl,hg11,hq11,hb11,hfw29⟩;refine ⟨λ_=>M.step hfw29,?_⟩;have M:=M.push hfw29 _ hb11 (CR hg11 hq11)
  replace M:Mem w AR (As.blk g11 106 [str [],str [],.int .u8 0,str [],str [],str [],.int .u8 0,str [],str [],AA 0,AA 0]::_) w29:=M
  refine BB 5 (G 35) zr X kw X X (AE X X call52) (E9 m a _ _ ho.b (hm.fr0 M.fr)) ?_;rintro _ w30 ⟨rfl,hfw30⟩;refine ⟨_,X,λ_=>(M.drop 1).step hfw30,?_⟩;have M:=M.step hfw30;exact oc 6 12 X X (M.drop 1) (oc 7 12 X X (M.drop 1) (oc 8 12 X X (M.drop 1) (fop M 10 0 X X X AM X (·.drop 1) λw31 M=>oc 11 12 X X (M.drop 1) (fdn (kr8 g11 _ _ M ⟨X,X,X,X,X,X,X,zw⟩)))))
 have h26p:=odf h26;refine W ?_;have hiE:i=(FR m t).length:=A0
 have hac:=hacc.1;rw [hiE,Bc] at hac
 have hLe:QG m t vars (FR m t)=zx:=by rw [hE,hiE,Aq];rfl
 refine W ?_;refine B1 X X X ?_;have hwp:GK m vars t=(acc,0):=by rw [GK,AN h19,hLe,hac]
 rw [hwp];exact ⟨_,_,X,M.own 0 X,M.fr⟩
end Go.Proofs.YtppmdnmjepkfaaaGreatDoor
