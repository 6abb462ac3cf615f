/- Lemmas. -/
import Derived.Test.YtppmdnmjepkfaaaGreatDoorYRu5
import Derived.Lib.SliceRun
set_option maxHeartbeats 16000000
set_option maxRecDepth 100000
namespace Go.Proofs.YtppmdnmjepkfaaaGreatDoor
open Go.RowKit
open Tryz
open Decidable renaming decide→O
open Option renaming some→G,none→zx
open Bool renaming true→zz,false→zy
open True renaming intro→zw
open Go.Proofs.Tryz renaming prog→zv
open Go renaming Calls→zt
section
theorem aD (l:List El) (id:Kz):∀i,ffN (λ(_:Nat) (b:El) => !(O (b.id=id))) i l=AG l id:=by
 induction l with
 | nil=>intro i;rfl
 | cons x r ih=>
  intro i;rw [ffN,AG]
  by_cases h:x.id=id
  ·rw [Ae (by simp [h]),Ac h]
  rw [Ac (by simp [h]),Ae h];exact ih (i+1)
section
variable {α:Type} {p:α→Bool} {f:α→Kz} {l l':List α} {x:α} {acc:List Kz} (h:acc=(l.filter p).map f) (hl:l'=l++[x])
include h hl
theorem VU (hp:p x=zz):acc++[f x]=(l'.filter p).map f:=by rw [hl,Cm,Bu,h];simp [hp]
theorem d6 (hp:p x=zy):acc=(l'.filter p).map f:=by rw [hl,Cm,Bu,h];simp [hp]
end
def DF (m:Md) (id:Kz):List Kz:=(m.els.filter (λu=>((O ((u.kind.toNat:Int)=(9:Int)))&&(O (u.att=id))))).map (λu=>u.id)
def SG (m:Md) (id:Kz):List Fl→Option Kz
 | []=>zx
 | u::r=>if ((((AG m.els u.frm).isSome)&&(O (u.tg=id)))&&(O ((((AG m.els u.frm).getD zeroEl).kind.toNat:Int)=(7:Int))))=zz then G ((AG m.els u.frm).getD zeroEl).id else SG m id r
def QC (m:Md) (id:Kz):Kz × Bool:=
 if ((!((AG m.els id).isSome)) || (!decide ((((AG m.els id).getD zeroEl).kind.toNat:Int)=(8:Int))))=zz then ([],zy)
 else match SG m id m.fls with
  | some k=>(k,zz)
  | none=>([],zy)
theorem Y7  : zv.built 106 []=G #[str [],str [],.int .u8 0,str [],str [],str [],.int .u8 0,str [],str [],AA 0,AA 0]:=zr
theorem wA (g3:Nat) (id:Kz) (x:El) (w:Kw) (hb:Blk w g3 9 [str id]) :
 zt zv 227 #[.agg x.cells.toArray,pg g3] w (BR w (.bool (O (x.id=id)))):=by
 refine BO func227 ntmps227 X λM=>W ?_
 refine CU M X X λg2 w1 hg2 M=>T7 ?_
 refine yl X X (Blk.c (hb.fr0 M.fr) 0 X) (W ?_);exact gr1 X ⟨X,M.fr⟩
theorem a0r (g3:Nat) (id:Kz) (x:Fl) (w:Kw) (hb:Blk w g3 9 [str id]) :
 zt zv 81 #[.agg x.cells.toArray,pg g3] w (BR w (.bool (O (x.tg=id)))):=by
 refine BO func81 ntmps81 X λM=>W ?_
 refine CU M X X λg2 w1 hg2 M=>T7 ?_
 refine yl X X (Blk.c (hb.fr0 M.fr) 0 X) (W ?_);exact gr1 X ⟨X,M.fr⟩
theorem tW (g3:Nat) (id:Kz) (x:Fl) (w:Kw) (hb:Blk w g3 9 [str id]) :
 zt zv 82 #[.agg x.cells.toArray,pg g3] w (BR w (.bool (O (x.frm=id)))):=by
 refine BO func82 ntmps82 X λM=>W ?_
 refine CU M X X λg2 w1 hg2 M=>T7 ?_
 refine yl X X (Blk.c (hb.fr0 M.fr) 0 X) (W ?_);exact gr1 X ⟨X,M.fr⟩
theorem mP (m:Md) (a:MdA) (id:Kz) (w:Kw) (ho:MdOk m) (hM:MdIn w m a) :
 zt zv 208 #[.agg (Md.cells m a).toArray,str id] w (BR w (.tuple #[.agg (((AG m.els id).getD zeroEl).cells).toArray,.bool (AG m.els id).isSome])):=by
 have hne:=ho.nels;have hnf:=ho.nfls;refine BO func208 ntmps208 X λM=>W ?_
 refine CU M X X λg2 w1 hg2 M=>CZ M kw X X 9 X X ([str id]) X λg3 w2 hg3 M=>CE M X AP λg4 w3 hg4 M=>W ?_
 refine ya X (D8 (us:=[]) (vs:=[pg g3]) X X X) (cl 10 X (AE X X call180) (cA El.cells El.len a.E a.ec m.els A0 227 [pg g3] (λ(_:Nat) (b:El) => !(!(O (b.id=id)))) AR (λ_ _=>True) _ (J7 call227 (λx _ w9 hf9=>(wA g3 id x w9 ((M.blk 1 X).fr0 hf9)).mono λ_ _ ⟨h1,h2⟩=>⟨by rw [h1,Gk],h2⟩)) (λ_ hf9=>(hM.els.fr0 M.fr).fr0 hf9) zw) ?_);rintro _ w4 ⟨rfl,_,hfw4⟩;refine cq ?_;have M:=M.step hfw4;refine W ?_;refine AC X (λh12=>?_) (λh12=>?_)
 ·have h12p:=odt h12;have hff:=R3 (p:=(λ(_:Nat) (b:El) => !(O (b.id=id)))) h12p;rw [aD] at hff
  refine W ?_;refine ya X (B8 (parts:=[]) X X (Y7)) (BX M 0 X X AM X λw5 M=>W ?_);exact FY X X (M.rdBlk 0 X X) Bk X AM X ⟨by rw [hff];rfl,M.fr⟩
 have h12p:=odf h12;obtain ⟨j,x,hj,hx,hff⟩:=R4 (p:=(λ(_:Nat) (b:El) => !(O (b.id=id)))) h12p;have hjl:j<m.els.length:=(An.1 hx).1;rw [hj];obtain ⟨b_x,o_x,hA_x⟩:=DR (k:=11) A0 (M.rd hM.els) hx;rw [aD] at hff
 refine W ?_;refine ya X (AK j hA_x X X X (sl X) A0) (ya X (AJ X X (BF El.len (M.rd hM.els) hA_x hx) Bk X AM) (BX M 0 X X AM X λw6 M=>W ?_));exact FY X X (M.rdBlk 0 X X) Bk X AM X ⟨by rw [hff];rfl,M.fr⟩
theorem gG (m:Md) (a:MdA) (f:FuncId) (cs:Kx) (p:Fl→Bool) (w:Kw) (ho:MdOk m) (hM:MdIn w m a) (hfn:∀(ar:Array Kv) (w:Kw),(callFunc f ar).run zv w=.ok (.enter f ar) w)
 (hp:∀x∈m.fls,∀W,Fr0 w W→zt zv f (.agg x.cells.toArray::cs).toArray W λe W'=>e=.returned (.bool (p x))∧Fr0 W W') :
 zt zv 80 #[.agg (Md.cells m a).toArray,.func (.func f) #[] cs.toArray] w λe w'=>∃A c,e=.returned (.slice A ((m.fls.filter (λu=>p u)).map (λu=>u.id)).length c)∧w'.ownsRow w.heap.size 9 1 (.slice A ((m.fls.filter (λu=>p u)).map (λu=>u.id)).length c) ((m.fls.filter (λu=>p u)).map (λu=>u.id)).length (AF BH ((m.fls.filter (λu=>p u)).map (λu=>u.id)))∧Fr0 w w':=by
 have hne:=ho.nels;have hnf:=ho.nfls;refine BO func80 ntmps80 X λM=>W ?_
 refine CU M X X λg2 w1 hg2 M=>W ?_
 have M:=M.nilOwn 9 1;refine flp [10,9,1] (λze e wr mz=>∃(i:Nat) (acc:List Kz) (A:Ky) (c:Nat),e=(5,.slice A acc.length c)::(11,AA (i:Int))::ze∧Mem w AR [As.own w.heap.size 9 1 (.slice A acc.length c) acc.length (AF BH acc),As.blk g2 48 (Md.cells m a)] wr∧(i≤m.fls.length)∧(acc=((m.fls.take i).filter (λu=>p u)).map (λu=>u.id))∧(acc.length≤i)∧mz=m.fls.length-i) ⟨0,[],zx,0,X,M,Aj _,X,Af _,X⟩ ?_;rintro _ w2 _ ⟨i,acc,A,c,rfl,M,hi,hacc,hal,rfl⟩;refine W ?_;refine AC X (λh12=>?_) (λh12=>?_)
 ·have h12p:=odt h12;refine W ?_;obtain ⟨u,_,_,hu,hA_u⟩:=ex5 (i:=i) (M.rd hM.fls);refine ya X (AK i hA_u X X X (sl X) A0) (ya X (AJ X X (BF Fl.len (M.rd hM.fls) hA_u hu) Co X BU) (CE M X DX λg7 w3 hg7 M=>BX M 0 X X BU X λw4 M=>W ?_));refine CF M 0 X X Co BU X (YP M 17 X (C7 X X X hfn) (hp u (Ah hu) _ M.fr) λw5 M=>W ?_);refine AC X (λh17=>?_) (λh17=>?_)
  ·refine W ?_;refine CP M kw X X [str u.id] ([str u.id]) X X X X Be CK X X (FZ X) X λg21 w6 hg21 M=>CD (len':=(acc++[u.id]).length) (xs':=AF BH (acc++[u.id])) M 2 kw X X X X X X (M.rdBlk 0 X X) Be C2 X AV (BN X) (Af _) (Af _) D4 (by unfold maxLen;first|omega|(simp;omega)) (by simp) (by first|exact (AY _ _ _).symm|simp [AF,BH]) λA22 c22 w7 M=>W ?_
   refine fag ⟨i+1,acc++[u.id],A22,c22,X,(M.pk [2,3]),?_,?_,?_,X⟩
   ·omega
   ·first
     | exact VU hacc (AT hu) h17
     | exact d6 hacc (AT hu) h17
   first|omega|(simp only [Am,Al,Ay];omega)
  refine W ?_;refine fag ⟨i+1,acc,A,c,X,(M.pk [1,2]),?_,?_,?_,X⟩
  ·omega
  ·first
    | exact VU hacc (AT hu) h17
    | exact d6 hacc (AT hu) h17
  first|omega|(simp only [Am,Al,Ay];omega)
 have h12p:=odf h12;refine W ?_;have hiE:i=m.fls.length:=A0
 rw [hiE,Bc] at hacc
 refine W ?_;refine gr1 X ?_;rw [←hacc];exact ⟨_,_,X,M.own 0 X,M.fr⟩
theorem a0p (m:Md) (a:MdA) (id:Kz) (w:Kw) (ho:MdOk m) (hM:MdIn w m a) :
 zt zv 44 #[.agg (Md.cells m a).toArray,str id] w λe w'=>∃A c,e=.returned (.slice A ((E5 m.fls id).map (λu=>u.id)).length c)∧w'.ownsRow w.heap.size 9 1 (.slice A ((E5 m.fls id).map (λu=>u.id)).length c) ((E5 m.fls id).map (λu=>u.id)).length (AF BH ((E5 m.fls id).map (λu=>u.id)))∧Fr0 w w':=by
 refine BO func44 ntmps44 X λM=>W ?_
 refine CU M X X λg2 w1 hg2 M=>CZ M kw X X 9 X X ([str id]) X λg3 w2 hg3 M=>W ?_
 refine CF M 1 X X Ap AO X (ya X (D8 (us:=[]) (vs:=[pg g3]) X X X) (ND M 7 X (AE X X call80) (gG m a 81 [pg g3] (λu=>O (u.tg=id)) _ ho (hM.fr0 M.fr) call81 (λx _ W hW=>a0r g3 id x W ((M.blk 0 X).fr0 hW))) λA7 c7 w3 M=>W ?_));exact gr1 X ⟨_,_,X,M.own 0 X,M.fr⟩
theorem tU (m:Md) (a:MdA) (id:Kz) (w:Kw) (ho:MdOk m) (hM:MdIn w m a) :
 zt zv 45 #[.agg (Md.cells m a).toArray,str id] w λe w'=>∃A c,e=.returned (.slice A ((BV m.fls id).map (λu=>u.id)).length c)∧w'.ownsRow w.heap.size 9 1 (.slice A ((BV m.fls id).map (λu=>u.id)).length c) ((BV m.fls id).map (λu=>u.id)).length (AF BH ((BV m.fls id).map (λu=>u.id)))∧Fr0 w w':=by
 refine BO func45 ntmps45 X λM=>W ?_
 refine CU M X X λg2 w1 hg2 M=>CZ M kw X X 9 X X ([str id]) X λg3 w2 hg3 M=>W ?_
 refine CF M 1 X X Ap AO X (ya X (D8 (us:=[]) (vs:=[pg g3]) X X X) (ND M 7 X (AE X X call80) (gG m a 82 [pg g3] (λu=>O (u.frm=id)) _ ho (hM.fr0 M.fr) call82 (λx _ W hW=>tW g3 id x W ((M.blk 0 X).fr0 hW))) λA7 c7 w3 M=>W ?_));exact gr1 X ⟨_,_,X,M.own 0 X,M.fr⟩
theorem K6 (m:Md) (a:MdA) (id:Kz) (w:Kw) (ho:MdOk m) (hM:MdIn w m a) :
 zt zv 172 #[.agg (Md.cells m a).toArray,str id] w λe w'=>∃A c,e=.returned (.slice A (AZ m.els id).length c)∧w'.ownsRow w.heap.size 9 1 (.slice A (AZ m.els id).length c) (AZ m.els id).length (AF BH (AZ m.els id))∧Fr0 w w':=by
 refine BO func172 ntmps172 X λM=>W ?_
 refine CU M X X λg2 w1 hg2 M=>W ?_
 refine CF M 0 X X Ap AO X (cl 6 X (AE X X call68) (XH m a _ ho.b (hM.fr0 M.fr)) ?_);rintro _ w2 ⟨ix,gx,FX,rfl,hix,hnx,hfw2⟩;refine cq ?_;have M:=M.push hfw2 (As.ixp m a ix gx FX) hix hnx;refine yb X (ND M 8 X (AE X X call144) (aL m a ix gx id _ ho (IxN.at (M.ok 0 _ X) (hM.fr0 M.fr))) λA8 c8 w3 M=>?_);have hL8:=M.ownLen 0 X;refine W ?_;exact gr1 X ⟨_,_,X,M.own 0 X,M.fr⟩
theorem P9 (m:Md) (a:MdA) (id:Kz) (w:Kw) (ho:MdOk m) (hM:MdIn w m a) :
 zt zv 173 #[.agg (Md.cells m a).toArray,str id] w λe w'=>∃A c,e=.returned (.slice A (DF m id).length c)∧w'.ownsRow w.heap.size 9 1 (.slice A (DF m id).length c) (DF m id).length (AF BH (DF m id))∧Fr0 w w':=by
 have hne:=ho.nels;have hnf:=ho.nfls;refine BO func173 ntmps173 X λM=>W ?_
 refine CU M X X λg2 w1 hg2 M=>W ?_
 have M:=M.nilOwn 9 1;refine flp [10,9,1] (λze e wr mz=>∃(i:Nat) (acc:List Kz) (A:Ky) (c:Nat),e=(5,.slice A acc.length c)::(11,AA (i:Int))::ze∧Mem w AR [As.own w.heap.size 9 1 (.slice A acc.length c) acc.length (AF BH acc),As.blk g2 48 (Md.cells m a)] wr∧(i≤m.els.length)∧(acc=((m.els.take i).filter (λu=>((O ((u.kind.toNat:Int)=9))&&(O (u.att=id))))).map (λu=>u.id))∧(acc.length≤i)∧mz=m.els.length-i) ⟨0,[],zx,0,X,M,Aj _,X,Af _,X⟩ ?_;rintro _ w2 _ ⟨i,acc,A,c,rfl,M,hi,hacc,hal,rfl⟩;refine W ?_;refine AC X (λh12=>?_) (λh12=>?_)
 ·have h12p:=odt h12;refine W ?_;obtain ⟨u,_,_,hu,hA_u⟩:=ex5 (i:=i) (M.rd hM.els);refine ya X (AK i hA_u X X X (sl X) A0) (ya X (AJ X X (BF El.len (M.rd hM.els) hA_u hu) Bk X AM) (CE M X AP λg7 w3 hg7 M=>BX M 0 X X AM X λw4 M=>W ?_));refine fvm M 5 [7,11,10,9,5,1] [(23,.bool ((O ((u.kind.toNat:Int)=9))&&(O (u.att=id))))] ?_ (λk18=>?_)
  ·intro w5 M;refine W ?_;refine AC X (λh23=>?_) (λh23=>?_)
   ·have h23p:=bd h23;refine W ?_;refine CP M kw X X [str u.id] ([str u.id]) X X X X Be CK X X (FZ X) X λg27 w6 hg27 M=>CD (len':=(acc++[u.id]).length) (xs':=AF BH (acc++[u.id])) M 2 kw X X X X X X (M.rdBlk 0 X X) Be C2 X AV (BN X) (Af _) (Af _) D4 (by unfold maxLen;first|omega|(simp;omega)) (by simp) (by first|exact (AY _ _ _).symm|simp [AF,BH]) λA28 c28 w7 M=>W ?_
    refine fag ⟨i+1,acc++[u.id],A28,c28,X,(M.pk [2,3]),?_,?_,?_,X⟩
    ·omega
    ·first
      | exact VU hacc (AT hu) h23
      | exact d6 hacc (AT hu) h23
    first|omega|(simp only [Am,Al,Ay];omega)
   have h23p:=bd h23;refine W ?_;refine fag ⟨i+1,acc,A,c,X,(M.pk [1,2]),?_,?_,?_,X⟩
   ·omega
   ·first
     | exact VU hacc (AT hu) h23
     | exact d6 hacc (AT hu) h23
   first|omega|(simp only [Am,Al,Ay];omega)
  refine A1 (d:=18) X (λh18=>?_) (λh18=>?_)
  ·refine T5 ?_;exact k18 M
  refine T5 ?_;exact k18 M
 have h12p:=odf h12;refine W ?_;have hiE:i=m.els.length:=A0
 rw [hiE,Bc] at hacc
 refine W ?_;refine gr1 X ?_;have hbp:DF m id=acc:=hacc.symm;rw [hbp];exact ⟨_,_,X,M.own 0 X,M.fr⟩
theorem vO (m:Md) (a:MdA) (id:Kz) (w:Kw) (ho:MdOk m) (hM:MdIn w m a) :
 zt zv 171 #[.agg (Md.cells m a).toArray,str id] w (BR w (.tuple #[str (QC m id).1,.bool (QC m id).2])):=by
 have hne:=ho.nels;have hnf:=ho.nfls;refine BO func171 ntmps171 X λM=>W ?_
 refine CU M X X λg2 w1 hg2 M=>W ?_
 refine CF M 0 X X Ap AO X (yb X (CQ M 15 X X call208 (mP m a id _ ho (hM.fr0 M.fr)) λw2 M=>W ?_));refine CE M X AP λg6 w3 hg6 M=>BX M 0 X X AM X λw4 M=>W ?_
 refine fvm M 4 [2,1] [(24,.bool ((!(AG m.els id).isSome) || (!decide ((((AG m.els id).getD zeroEl).kind.toNat:Int)=8))))] ?_ (λk20=>?_)
 ·intro w5 M;refine W ?_;refine AC X (λh24=>?_) (λh24=>?_)
  ·have h24p:=bd h24;refine W ?_;exact B1 X X X ⟨by rw [QC,Ac h24]<;>rfl,M.fr⟩
  have h24p:=bd h24;refine W ?_;refine EC M [27,26,2,1] (λze zF e wr mz=>∃(i:Nat),e=(28,AA (i:Int))::ze∧zF wr∧(i≤m.fls.length)∧(SG m id m.fls=SG m id (m.fls.drop i))∧mz=m.fls.length-i) ⟨0,X,M,Aj _,X,X⟩ ?_;rintro _ w6 _ ⟨i,rfl,M,hi,hE,rfl⟩;refine W ?_;refine AC X (λh29=>?_) (λh29=>?_)
  ·have h29p:=odt h29;refine W ?_;obtain ⟨u,_,_,hu,hA_u⟩:=ex5 (i:=i) (M.rd hM.fls);refine ya X (AK i hA_u X X X (sl X) A0) (ya X (AJ X X (BF Fl.len (M.rd hM.fls) hA_u hu) Co X BU) (CE M X DX λg9 w7 hg9 M=>BX M 0 X X BU X λw8 M=>W ?_));refine CF M 2 X X Ap AO X (W ?_);refine CQ M 36 X X call208 (mP m a u.frm _ ho (hM.fr0 M.fr)) λw9 M=>W ?_
   refine CE M X AP λg10 w10 hg10 M=>BX M 0 X X AM X λw11 M=>W ?_
   refine fvm M 5 [10,28,27,26,2,1] [(45,.bool ((AG m.els u.frm).isSome&&(O (u.tg=id))))] ?_ (λk40=>?_)
   ·intro w12 M;refine yb X (fvm M 4 [10,28,27,26,2,1] [(50,.bool (((AG m.els u.frm).isSome&&(O (u.tg=id)))&&(O ((((AG m.els u.frm).getD zeroEl).kind.toNat:Int)=7))))] ?_ (λk46=>?_))
    ·intro w13 M;refine W ?_;refine AC X (λh50=>?_) (λh50=>?_)
     ·refine W ?_;exact B1 X X X ⟨by rw [QC,AN h24,hE,AH hu,SG,Ac h50]<;>rfl,M.fr⟩
     have h50p:=bd h50;refine W ?_;refine fag ⟨i+1,X,(M.pk [2,3]),?_,?_,X⟩
     ·omega
     rw [hE,AH hu,SG,AN h50]
    refine A1 (d:=46) X (λh46=>?_) (λh46=>?_)
    ·refine T4 ?_;exact k46 M
    refine T4 ?_;exact k46 M
   refine A1 (d:=40) X (λh40=>?_) (λh40=>?_)
   ·refine T5 ?_;exact k40 M
   refine T5 ?_;exact k40 M
  have h29p:=odf h29;refine W ?_;refine B1 X X X ?_;obtain rfl:i=m.fls.length:=A0
  exact ⟨by rw [QC,AN h24,hE,Aq];rfl,M.fr⟩
 refine A1 (d:=20) X (λh20=>?_) (λh20=>?_)
 ·refine T4 ?_;exact k20 M
 refine T4 ?_;exact k20 M
end
theorem OO {P:Lw} {e:Env} {w:Kw} {o:Oper} {t t' el:Nat} {x:Lz} {A:Ky} {n c:Nat} (ho:o.op=.binOp .eql t x (.const (.slice zx 0 0)) t') (hx:ev e x=G (.slice A n c)) (hu:P.underlying t=G (.slice el)):Y P e o w (.bool A.isNone):=λρ h=>by
 have h2:ρ (.const (.slice zx 0 0))=.slice zx 0 0:=h _ _ X;unfold execOp
 simp [ho,h _ _ hx,h2,eqGuard,Lib.run_eql_slice_nil w t el A n c 0 0 hu]
theorem RZ {α:Type} {w:Kw} {A:Ky} {k:Nat} {cells:α→Kx} {l:List α} (h:Rd w A (l.length*k) (AF cells l)) (hk:0<k) (hA:A.isNone=zz):l=[]:=by
 rcases Ex l.length with h0|h0
 ·exact List.length_eq_zero_iff.1 h0
 obtain ⟨b,off,e,_⟩:=h.2 (Nat.mul_pos h0 hk);rw [e] at hA;cases hA
theorem KB : (zv.info? 63).map (λi=>(i.zero,i.size,i.bytes))=G (G (.agg #[str [],.int .u8 0,AA 0,.bool zy,str []]),5,56):=zr
theorem TT : (zv.info? 106).map (λi=>(i.zero,i.size,i.bytes))=G (G (.agg #[str [],str [],.int .u8 0,str [],str [],str [],.int .u8 0,str [],str [],AA 0,AA 0]),11,144):=zr
theorem a0K (A:Ky) (c:Nat) (l:List Bd) (w:Kw) (hl:l.length≤1048576) (hR:Rd w A (l.length*5) (AF Bd.cells l)) :
 zt zv 62 #[.slice A l.length c] w λe w'=>∃A' c',e=.returned (.slice A' l.length c')∧w'.ownsRow w.heap.size 63 5 (.slice A' l.length c') l.length (AF Bd.cells l)∧Fr0 w w':=by
 refine BO func62 ntmps62 X λM=>W ?_
 refine ya X (OO X X Dk) (W ?_);refine AC X (λh4=>?_) (λh4=>?_)
 ·refine W ?_;refine gr1 X ?_;obtain rfl:=RZ hR AV h4;exact ⟨zx,0,X,World.ownsRow_nil _ _ _ _,M.fr⟩
 refine W ?_;refine sxl_does (G 5) kw X X (λρ hρ=>KS 23 63 5 X Dk EW) ?_;rintro _ w1 ⟨g5,rfl,hg5,_,_,hfw1,ho5⟩;have M:=M.pushOwn hfw1 (Af _) (ho5 _ (Af _));refine yb X (CD (len':=l.length) (xs':=AF Bd.cells l) M 0 kw X X X X X X (hR.fr0 M.fr) Dk KB X AV (D5 Bd.cells_one) (Af _) (Af _) D4 (by unfold maxLen;first|omega|(simp only [Am,Al,Ay];omega)) (by simp) (by simp [AF]) λA7 c7 w2 M=>W ?_);exact gr1 X ⟨_,_,X,M.own 0 X,M.fr⟩
theorem a0J (A:Ky) (c:Nat) (l:List El) (w:Kw) (hl:l.length≤1048576) (hR:Rd w A (l.length*11) (AF El.cells l)) :
 zt zv 78 #[.slice A l.length c] w λe w'=>∃A' c',e=.returned (.slice A' l.length c')∧w'.ownsRow w.heap.size 106 11 (.slice A' l.length c') l.length (AF El.cells l)∧Fr0 w w':=by
 refine BO func78 ntmps78 X λM=>W ?_
 refine ya X (OO X X Fs) (W ?_);refine AC X (λh4=>?_) (λh4=>?_)
 ·refine W ?_;refine gr1 X ?_;obtain rfl:=RZ hR AV h4;exact ⟨zx,0,X,World.ownsRow_nil _ _ _ _,M.fr⟩
 refine W ?_;refine sxl_does (G 5) kw X X (λρ hρ=>KS 45 106 11 X Fs AM) ?_;rintro _ w1 ⟨g5,rfl,hg5,_,_,hfw1,ho5⟩;have M:=M.pushOwn hfw1 (Af _) (ho5 _ (Af _));refine yb X (CD (len':=l.length) (xs':=AF El.cells l) M 0 kw X X X X X X (hR.fr0 M.fr) Fs TT X AV (D5 El.cells_one) (Af _) (Af _) D4 (by unfold maxLen;first|omega|(simp only [Am,Al,Ay];omega)) (by simp) (by simp [AF]) λA7 c7 w2 M=>W ?_);exact gr1 X ⟨_,_,X,M.own 0 X,M.fr⟩
theorem a0I (A:Ky) (c:Nat) (l:List Fl) (w:Kw) (hl:l.length≤1048576) (hR:Rd w A (l.length*4) (AF Fl.cells l)) :
 zt zv 79 #[.slice A l.length c] w λe w'=>∃A' c',e=.returned (.slice A' l.length c')∧w'.ownsRow w.heap.size 110 4 (.slice A' l.length c') l.length (AF Fl.cells l)∧Fr0 w w':=by
 refine BO func79 ntmps79 X λM=>W ?_
 refine ya X (OO X X Ek) (W ?_);refine AC X (λh4=>?_) (λh4=>?_)
 ·refine W ?_;refine gr1 X ?_;obtain rfl:=RZ hR AV h4;exact ⟨zx,0,X,World.ownsRow_nil _ _ _ _,M.fr⟩
 refine W ?_;refine sxl_does (G 5) kw X X (λρ hρ=>KS 46 110 4 X Ek BU) ?_;rintro _ w1 ⟨g5,rfl,hg5,_,_,hfw1,ho5⟩;have M:=M.pushOwn hfw1 (Af _) (ho5 _ (Af _));refine yb X (CD (len':=l.length) (xs':=AF Fl.cells l) M 0 kw X X X X X X (hR.fr0 M.fr) Ek MX X AV (D5 Fl.cells_one) (Af _) (Af _) D4 (by unfold maxLen;first|omega|(simp only [Am,Al,Ay];omega)) (by simp) (by simp [AF]) λA7 c7 w2 M=>W ?_);exact gr1 X ⟨_,_,X,M.own 0 X,M.fr⟩
structure MdN (w:Kw) (m:Md) (a:MdA) (F:List Nat):Prop where
 md:MdIn w m a
 V:∀b off p,a.V=G ⟨b,off,p⟩→b∈F
 E:∀b off p,a.E=G ⟨b,off,p⟩→b∈F
 L:∀b off p,a.F=G ⟨b,off,p⟩→b∈F
theorem MdN.keep {w w':Kw} {m:Md} {a:MdA} {F:List Nat} (hk:∀g∈F,g<w.heap.size→w'.heap[g]?=w.heap[g]?) (h:MdN w m a F):MdN w' m a F:=
 ⟨⟨JO h.md.vars hk h.V,JO h.md.els hk h.E,JO h.md.fls hk h.L⟩,h.V,h.E,h.L⟩
def As.mdp (m:Md) (a:MdA) (F:List Nat):As:=⟨F,λw=>MdN w m a F,λh hb=>hb.keep h⟩
theorem r8 {m:Md} {w w':Kw} {A5 A8 A11:Ky} {c5 c8 c11:Nat} {Ls:List As}
 (M:Mem w AR (As.own w.heap.size 63 5 (.slice A5 m.vars.length c5) m.vars.length (AF Bd.cells m.vars)::As.own w.heap.size 106 11 (.slice A8 m.els.length c8) m.els.length (AF El.cells m.els)::As.own w.heap.size 110 4 (.slice A11 m.fls.length c11) m.fls.length (AF Fl.cells m.fls)::Ls) w') :
 ∃a' F,Ending.returned (.agg (List.toArray [str m.id,str m.nm,.slice A5 m.vars.length c5,.slice A8 m.els.length c8,.slice A11 m.fls.length c11]))=.returned (.agg (Md.cells m a').toArray)∧MdN w' m a' F∧(∀g∈F,w.heap.size≤g∧g<w'.heap.size)∧Fr0 w w':=by
 refine ⟨⟨A5,c5,A8,c8,A11,c11⟩,(Value.slice A5 m.vars.length c5).ownBlock.toList++((Value.slice A8 m.els.length c8).ownBlock.toList++(Value.slice A11 m.fls.length c11).ownBlock.toList),X,⟨⟨MV (M.own 0 X),MV (M.own 1 X),MV (M.own 2 X)⟩,?_,?_,?_⟩,?_,M.fr⟩
 ·intro b off p h;simp only at h;subst h;simp [Value.ownBlock]
 ·intro b off p h;simp only at h;subst h;simp [Value.ownBlock]
 ·intro b off p h;simp only at h;subst h;simp [Value.ownBlock]
 intro g hg;rcases Bp.1 hg with hg|hg
 ·exact M.new0 0 X g hg
 rcases Bp.1 hg with hg|hg
 ·exact M.new0 1 X g hg
 exact M.new0 2 X g hg
theorem GM : (zv.info? 23).map (·.size)=G 1:=zr
theorem RK : (zv.info? 45).map (·.size)=G 1:=zr
theorem WB : (zv.info? 46).map (·.size)=G 1:=zr
theorem NN : (zv.info? 48).map (·.zero)=G (G (.agg #[str [],str [],.slice zx 0 0,.slice zx 0 0,.slice zx 0 0])):=zr
theorem lJ (m:Md) (a:MdA) (w:Kw) (ho:MdOk m) (hM:MdIn w m a) :
 zt zv 43 #[.agg (Md.cells m a).toArray] w λe w'=>∃a' F,e=.returned (.agg (Md.cells m a').toArray)∧MdN w' m a' F∧(∀g∈F,w.heap.size≤g∧g<w'.heap.size)∧Fr0 w w':=by
 refine BO func43 ntmps43 X λM=>W ?_
 refine CU M X X λg1 w1 hg1 M=>CE M X NN λg2 w2 hg2 M=>W ?_
 refine I0 M 10 CA λM=>IX 0 zr (λc a t v w h=>by cases t<;>exact h) zr zr zr X kw X X M (λ_ M=>yp X) (IX 1 zr (λc a t v w h=>by cases t<;>exact h) zr zr zr X kw X X M (λ_ M=>B3 X X (sc X) (M.cell 1 X X)) (IX 3 zr (λc a t v w h=>by cases t<;>exact h) zr zr zr X kw X X M (λ_ M=>yp X) (IX 4 zr (λc a t v w h=>by cases t<;>exact h) zr zr zr X kw X X M (λ_ M=>B3 X X (sc X) (M.cell 1 X X)) (IX 6 zr (λc a t v w h=>by cases t<;>exact h) zr zr zr X kw X X M (λ_ M=>yp X) (IX 7 zr (λc a t v w h=>by cases t<;>exact h) zr zr zr X kw X X M (λ_ M=>B3 X X (sc X) (M.cell 1 X X)) (BB 2 (G 5) zr X kw X X (AE X X call62) (a0K a.V a.vc m.vars _ (by have:=ho.nvars;omega) (hM.vars.fr0 M.fr)) ?_))))))
 rintro _ w3 ⟨A5,c5,rfl,how3,hfw3⟩;refine ⟨_,X,λ_=>M.step hfw3,?_⟩;have M:=M.pushOwn hfw3 (Af _) how3;have hL5:=M.ownLen 0 X;refine IX 9 zr (λc a t v w h=>by cases t<;>exact h) zr zr zr X kw X X (M.drop 1) (λ_ M=>yp X) (BB 5 (G 8) zr X kw X X (AE X X call78) (a0J a.E a.ec m.els _ (by have:=ho.nels;omega) (hM.els.fr0 M.fr)) ?_);rintro _ w4 ⟨A8,c8,rfl,how4,hfw4⟩;refine ⟨_,X,λ_=>(M.drop 1).step hfw4,?_⟩;have M:=M.pushOwn hfw4 (Af _) how4;have hL8:=M.ownLen 0 X;refine BB 8 (G 11) zr X kw X X (AE X X call79) (a0I a.F a.fc m.fls _ (by have:=ho.nfls;omega) (hM.fls.fr0 M.fr)) ?_;rintro _ w5 ⟨A11,c11,rfl,how5,hfw5⟩;refine ⟨_,X,λ_=>(M.drop 2).step hfw5,?_⟩;have M:=M.pushOwn hfw5 (Af _) how5;have hL11:=M.ownLen 0 X;refine B7 10 zx zr X kw X X (λρ hρ=>ED 23 _ _ X g1 2 48 _ (.slice A5 m.vars.length c5) (hρ _ _ X) (hρ _ _ X) X (M.blk 4 X) GM (D6 X) X) ?_;rintro _ w6 ⟨rfl,hbw6,hfw6⟩
 replace M:Mem w AR (List.set _ 4 (As.blk g1 48 [str m.id,str m.nm,.slice A5 m.vars.length c5,.slice a.E m.els.length a.ec,.slice a.F m.fls.length a.fc])) w6:=M.putB 4 rfl hbw6 hfw6
 refine ⟨λh=>absurd h AV,fo1 11 X X (yp X) (B7 12 zx zr X kw X X (λρ hρ=>ED 45 _ _ X g1 3 48 _ (.slice A8 m.els.length c8) (hρ _ _ X) (hρ _ _ X) X (M.blk 4 X) RK (D6 X) X) ?_)⟩;rintro _ w7 ⟨rfl,hbw7,hfw7⟩
 replace M:Mem w AR (List.set _ 4 (As.blk g1 48 [str m.id,str m.nm,.slice A5 m.vars.length c5,.slice A8 m.els.length c8,.slice a.F m.fls.length a.fc])) w7:=M.putB 4 rfl hbw7 hfw7
 refine ⟨λh=>absurd h AV,fo1 13 X X (yp X) (B7 14 zx zr X kw X X (λρ hρ=>ED 46 _ _ X g1 4 48 _ (.slice A11 m.fls.length c11) (hρ _ _ X) (hρ _ _ X) X (M.blk 4 X) WB (D6 X) X) ?_)⟩;rintro _ w8 ⟨rfl,hbw8,hfw8⟩
 replace M:Mem w AR (List.set _ 4 (As.blk g1 48 [str m.id,str m.nm,.slice A5 m.vars.length c5,.slice A8 m.els.length c8,.slice A11 m.fls.length c11])) w8:=M.putB 4 rfl hbw8 hfw8
 refine ⟨λh=>absurd h AV,fdn (W ?_)⟩;refine CF M 4 X X Ap AO X (BX M 3 X X AO X λw9 M=>W ?_);exact CV X X (M.rdBlk 3 X X) Ap X AO (r8 (M.pk [2,1,0]))
end Go.Proofs.YtppmdnmjepkfaaaGreatDoor
