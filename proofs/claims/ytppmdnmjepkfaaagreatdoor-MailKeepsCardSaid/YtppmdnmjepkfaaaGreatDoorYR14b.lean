/- Lemmas. -/
import Derived.Test.YtppmdnmjepkfaaaGreatDoorYR14a
set_option maxHeartbeats 16000000
set_option maxRecDepth 100000
namespace Go.Proofs.YtppmdnmjepkfaaaGreatDoor
open Go.RowKit
open Tryz
open Decidable renaming decide→O
open Option renaming some→G,none→zx
open Bool renaming true→zz,false→zy
open True renaming intro→zw
open Go.Proofs.Tryz renaming prog→zv
open Go renaming Calls→zt
theorem IO {α:Type} (p:α→Bool) (l:List α) (x:α):(l++[x]).all p=(l.all p&&p x):=by simp [List.all_append]
theorem SU {α:Type} (p:α→Bool) (l:List α) (x:α):(l++[x]).any p=(l.any p || p x):=by simp [List.any_append]
def HD (els:List El) (id:Kz):List Fl→Option Kz
 | []=>zx
 | x::r=>if (!decide (x.tg=id))=zz then HD els id r else if ((AG els x.frm).isSome&&O ((((AG els x.frm).getD zeroEl).kind.toNat:Int)=7))=zz then G ((AG els x.frm).getD zeroEl).id else HD els id r
def UQ (m:Md) (id:Kz):Option Kz:=if ((!(AG m.els id).isSome) || !decide ((((AG m.els id).getD zeroEl).kind.toNat:Int)=8))=zz then zx else HD m.els id m.fls
def O3 (m:Md) (x:El) (f:Fl):Bool:=if (O (f.frm=x.id))=zz then ((O ((((AG m.els f.tg).getD zeroEl).kind.toNat:Int)=8))&&O (((D7 m.fls ((AG m.els f.tg).getD zeroEl).id).length:Int)=1)) else zz
def LM (els:List El):Nat→Kz→Bool
 | 0,s=>O (s=[])
 | n+1,s=>if s=[] then zz else ((AG els s).isSome&&O ((((AG els s).getD zeroEl).kind.toNat:Int)=10))&&LM els n ((AG els s).getD zeroEl).inn
theorem nM (els:List El) {d:Nat} {s:Kz} (h:¬s=[]) (hd:d<5):(zz&&LM els (4-d) s)=((((AG els s).isSome&&O ((((AG els s).getD zeroEl).kind.toNat:Int)=10))&&O (((d:Int)+1)≤4))&&LM els (4-(d+1)) ((AG els s).getD zeroEl).inn):=by
 by_cases h4:d=4
 ·subst h4;simp [LM,h]
 rw [show 4-d=(4-(d+1))+1 by omega,LM,Ae h]
 have:O (((d:Int)+1)≤4)=zz:=by simp;omega
 rw [this];simp
theorem rY (els:List El) {d:Nat} {s:Kz} {b:Bool} (h:s=[]∨b=zy):(b&&LM els (4-d) s)=b:=by
 rcases h with h|h
 ·subst h
  have:LM els (4-d) []=zz:=by cases 4-d<;>simp [LM]
  rw [this];simp
 rw [h];rfl
def MK (x:El):Bool:=(((O ((x.kind.toNat:Int)=(5:Int))) || (O ((x.kind.toNat:Int)=(6:Int)))) || (O ((x.kind.toNat:Int)=(10:Int))))
theorem WU (x:El) (w:Kw)  :
 zt zv 164 #[.agg x.cells.toArray] w (BR w (.bool (MK x))):=by
 refine BO func164 ntmps164 X λM=>W ?_
 refine CU M X X λg1 w1 hg1 M=>W ?_
 refine fvm M 4 [2,1] [(10,.bool ((O ((x.kind.toNat:Int)=5)) || (O ((x.kind.toNat:Int)=6))))] ?_ (λk6=>?_)
 ·intro w2 M;refine yb X (fvm M 4 [2] [(15,.bool (((O ((x.kind.toNat:Int)=5)) || (O ((x.kind.toNat:Int)=6))) || (O ((x.kind.toNat:Int)=10))))] ?_ (λk11=>?_))
  ·intro w3 M;refine W ?_;exact gr1 X ⟨by rw [MK],M.fr⟩
  refine A1 (d:=11) X (λh11=>?_) (λh11=>?_)
  ·refine T4 ?_;exact k11 M
  refine T4 ?_;exact k11 M
 refine A1 (d:=6) X (λh6=>?_) (λh6=>?_)
 ·refine T4 ?_;exact k6 M
 refine T4 ?_;exact k6 M
theorem tE (m:Md) (a:MdA) (id:Kz) (w:Kw) (ho:MdOk m) (hm:MdIn w m a) :
 zt zv 102 #[.agg (Md.cells m a).toArray,str id] w (BR w (.tuple #[str ((UQ m id).getD []),.bool (UQ m id).isSome])):=by
 have hoi:=ho.id;have hon:=ho.nm;have hnv:=ho.nvars;have hne:=ho.nels;have hnf:=ho.nfls;refine BO func102 ntmps102 X λM=>W ?_
 refine CU M X X λg2 w1 hg2 M=>W ?_
 refine CF M 0 X X Ap AO X (yb X (CQ M 14 X X call52 (E9 m a _ _ ho.b (hm.fr0 M.fr)) λw2 M=>W ?_));refine CE M X AP λg6 w3 hg6 M=>BX M 0 X X AM X λw4 M=>W ?_
 refine fvm M 4 [2,1] [(23,.bool ((!(AG m.els id).isSome) || (!decide ((((AG m.els id).getD zeroEl).kind.toNat:Int)=8))))] ?_ (λk19=>?_)
 ·intro w5 M;refine W ?_;refine AC X (λh23=>?_) (λh23=>?_)
  ·have h23p:=bd h23;refine W ?_;exact B1 X X X ⟨by rw [UQ,Ac h23];rfl,M.fr⟩
  have h23p:=bd h23;refine W ?_;refine EC M [2,1] (λze zF e wr mz=>∃(i:Nat),e=(8,AA (i:Int))::ze∧zF wr∧(i≤m.fls.length)∧(UQ m id=HD m.els id (m.fls.drop i))∧mz=m.fls.length-i) ⟨0,X,M,Aj _,by rw [UQ,AN h23];rfl,rfl⟩ ?_;rintro _ w6 _ ⟨i,rfl,M,hi,hr,rfl⟩;refine W ?_;refine AC X (λh28=>?_) (λh28=>?_)
  ·have h28p:=odt h28;refine W ?_;obtain ⟨x,_,_,hx,hA_x⟩:=ex5 (i:=i) (M.rd hm.fls);refine ya X (AK i hA_x X X X (sl X) A0) (yb X (yl X X (BC Fl.len (M.rd hm.fls) hA_x hx 2 X) (W ?_)));refine AC X (λh38=>?_) (λh38=>?_)
   ·have h38p:=(odf (CJ h38));refine W ?_;refine fag ⟨i+1,X,M,?_,?_,X⟩
    ·omega
    first|rw [hr,AH hx,HD,Ac h38]|rw [hr,AH hx,HD,AN h38,AN h55]
   have h38p:=(odt (BL h38));refine W ?_;refine N6 (λ(g9:Nat)=>[(1,str id),(2,pg g2),(8,AA (i:Int)),(9,pg g9),(10,.bool ((AG m.els x.frm).isSome))]) (λ(g9:Nat)=>λw'=>Mem w AR [As.blk g9 106 (El.cells ((AG m.els x.frm).getD zeroEl)),As.blk g6 106 (El.cells ((AG m.els id).getD zeroEl)),As.blk g2 48 (Md.cells m a)] w') ?_ (λkr8=>?_)
   ·intro g9 w7 M;refine W ?_;refine fvm M 4 [9,8,2,1] [(55,.bool ((AG m.els x.frm).isSome&&(O ((((AG m.els x.frm).getD zeroEl).kind.toNat:Int)=7))))] ?_ (λk51=>?_)
    ·intro w8 M;refine W ?_;refine AC X (λh55=>?_) (λh55=>?_)
     ·refine W ?_;refine B1 X X X ?_;rw [AH hx,HD,AN h38,Ac h55] at hr
      exact ⟨by rw [hr];rfl,M.fr⟩
     have h55p:=bd h55;refine W ?_;refine fag ⟨i+1,X,(M.pk [1,2]),?_,?_,X⟩
     ·omega
     first|rw [hr,AH hx,HD,Ac h38]|rw [hr,AH hx,HD,AN h38,AN h55]
    refine A1 (d:=51) X (λh51=>?_) (λh51=>?_)
    ·refine T4 ?_;exact k51 M
    refine T4 ?_;exact k51 M
   refine I0 M 14 CA λM=>oa 0 14 X X M (λ_ M=>AJ (xs:=Md.cells m a) X X (M.rdBlk 1 X X) Ap X AO) (oc 1 14 X X M (ol 2 14 X X X M (λ_ M=>(M.cell 1 X X)) (oc 3 14 X X M (oa 4 14 X X M (λ_ M=>AK i hA_x X X X (sl X) A0) (oc 5 14 X X M (ol 6 14 X X X M (λ_ M=>(BC Fl.len (M.rd hm.fls) hA_x hx 1 X)) (FM (rs:=[7,11]) zr (by simp) λiz hiz=>?_)))))))
   simp only [Ao,Ba,or_false] at hiz
   rcases hiz with rfl|rfl
   ·refine GT (G 47) X kw X X (AE X X call52) (E9 m a _ _ ho.b (hm.fr0 M.fr)) ?_;rintro _ w9 ⟨rfl,hfw9⟩;refine ⟨_,X,λ_=>M.step hfw9,?_⟩;have M:=M.step hfw9;refine oc 8 14 X X M (oc 9 14 X X M (oc 10 14 X X M (B7 11 (G 9) zr X kw X X (λρ hρ=>BP 106 X _ [str [],str [],.int .u8 0,str [],str [],str [],.int .u8 0,str [],str [],AA 0,AA 0] AP X) ?_)));rintro _ w10 ⟨g9,rfl,hg9,hq9,hb9,hfw10⟩;refine ⟨λ_=>M.step hfw10,?_⟩;have M:=M.push hfw10 _ hb9 (CR hg9 hq9)
    replace M:Mem w AR (As.blk g9 106 [str [],str [],.int .u8 0,str [],str [],str [],.int .u8 0,str [],str [],AA 0,AA 0]::_) w10:=M
    exact fop M 12 0 X X X AM X (·.drop 1) λw11 M=>oc 13 14 X X (M.drop 1) (fdn (kr8 g9 _ _ M ⟨X,X,X,X,X,zw⟩))
   refine DP (G 9) X kw X X (λρ hρ=>BP 106 X _ [str [],str [],.int .u8 0,str [],str [],str [],.int .u8 0,str [],str [],AA 0,AA 0] AP X) ?_;rintro _ w12 ⟨g9,rfl,hg9,hq9,hb9,hfw12⟩;refine ⟨λ_=>M.step hfw12,?_⟩;have M:=M.push hfw12 _ hb9 (CR hg9 hq9)
   replace M:Mem w AR (As.blk g9 106 [str [],str [],.int .u8 0,str [],str [],str [],.int .u8 0,str [],str [],AA 0,AA 0]::_) w12:=M
   refine BB 7 (G 47) zr X kw X X (AE X X call52) (E9 m a _ _ ho.b (hm.fr0 M.fr)) ?_;rintro _ w13 ⟨rfl,hfw13⟩;refine ⟨_,X,λ_=>(M.drop 1).step hfw13,?_⟩;have M:=M.step hfw13;exact oc 8 14 X X (M.drop 1) (oc 9 14 X X (M.drop 1) (oc 10 14 X X (M.drop 1) (fop M 12 0 X X X AM X (·.drop 1) λw14 M=>oc 13 14 X X (M.drop 1) (fdn (kr8 g9 _ _ M ⟨X,X,X,X,X,zw⟩)))))
  have h28p:=odf h28;refine W ?_;refine B1 X X X ?_;obtain rfl:i=m.fls.length:=A0
  rw [Aq,HD] at hr
  exact ⟨by rw [hr];rfl,M.fr⟩
 refine A1 (d:=19) X (λh19=>?_) (λh19=>?_)
 ·refine T4 ?_;exact k19 M
 refine T4 ?_;exact k19 M
def aJ (m:Md) (x:Fl):Option Kz:=(if (((((!(AG m.els x.frm).isSome) || (!(AG m.els x.tg).isSome)) || (!decide (((AG m.els x.frm).getD zeroEl).inn=((AG m.els x.tg).getD zeroEl).inn))) || (O ((((AG m.els x.tg).getD zeroEl).kind.toNat:Int)=(9:Int)))) || (O (x.frm=x.tg)))=zz then (G x.id) else zx)
def PI (m:Md):Option Kz:=ff (aJ m) m.fls
theorem j7 (m:Md) (a:MdA) (w:Kw) (ho:MdOk m) (hm:MdIn w m a) :
 zt zv 93 #[.agg (Md.cells m a).toArray] w (BR w (.tuple #[str ((PI m).getD []),.bool (PI m).isNone])):=by
 have hoi:=ho.id;have hon:=ho.nm;have hnv:=ho.nvars;have hne:=ho.nels;have hnf:=ho.nfls;refine BO func93 ntmps93 X λM=>W ?_
 refine CU M X X λg1 w1 hg1 M=>W ?_
 refine EC M [1] (λze zF e wr mz=>∃(i:Nat),e=(4,AA (i:Int))::ze∧zF wr∧(i≤m.fls.length)∧(ff (aJ m) m.fls=ff (aJ m) (m.fls.drop i))∧mz=m.fls.length-i) ⟨0,X,M,Aj _,X,X⟩ ?_;rintro _ w2 _ ⟨i,rfl,M,hi,hE2,rfl⟩;refine W ?_;refine AC X (λh14=>?_) (λh14=>?_)
 ·have h14p:=odt h14;obtain ⟨x,_,_,hx,hA_x⟩:=ex5 (i:=i) (M.rd hm.fls);have ox:=ho.fls _ (Ah hx);have ox1:=ox.id;refine W ?_;refine ya X (AK i hA_x X X X (sl X) A0) (ya X (AJ X X (BF Fl.len (M.rd hm.fls) hA_x hx) Co X BU) (CE M X DX λg5 w3 hg5 M=>BX M 0 X X BU X λw4 M=>W ?_));refine CF M 1 X X Ap AO X (W ?_);refine CQ M 26 X X call52 (E9 m a _ _ ho.b (hm.fr0 M.fr)) λw5 M=>W ?_
  refine CE M X AP λg6 w6 hg6 M=>BX M 0 X X AM X λw7 M=>W ?_
  refine CF M 2 X X Ap AO X (W ?_);refine CQ M 33 X X call52 (E9 m a _ _ ho.b (hm.fr0 M.fr)) λw8 M=>W ?_
  refine CE M X AP λg8 w9 hg8 M=>BX M 0 X X AM X λw10 M=>W ?_
  refine fvm M 3 [8,6,5,4,1] [(41,.bool ((!(AG m.els x.frm).isSome) || (!(AG m.els x.tg).isSome)))] ?_ (λk38=>?_)
  ·intro w11 M;refine yb X (fvm M 6 [8,5,4,1] [(48,.bool (((!(AG m.els x.frm).isSome) || (!(AG m.els x.tg).isSome)) || (!decide (((AG m.els x.frm).getD zeroEl).inn=((AG m.els x.tg).getD zeroEl).inn))))] ?_ (λk42=>?_))
   ·intro w12 M;refine yb X (fvm M 4 [5,4,1] [(53,.bool ((((!(AG m.els x.frm).isSome) || (!(AG m.els x.tg).isSome)) || (!decide (((AG m.els x.frm).getD zeroEl).inn=((AG m.els x.tg).getD zeroEl).inn))) || (O ((((AG m.els x.tg).getD zeroEl).kind.toNat:Int)=9))))] ?_ (λk49=>?_))
    ·intro w13 M;refine yb X (fvm M 6 [5,4,1] [(60,.bool (((((!(AG m.els x.frm).isSome) || (!(AG m.els x.tg).isSome)) || (!decide (((AG m.els x.frm).getD zeroEl).inn=((AG m.els x.tg).getD zeroEl).inn))) || (O ((((AG m.els x.tg).getD zeroEl).kind.toNat:Int)=9))) || (O (x.frm=x.tg))))] ?_ (λk54=>?_))
     ·intro w14 M;refine W ?_;refine AC X (λh60=>?_) (λh60=>?_)
      ·have h60p:=bd h60;refine W ?_;refine B1 X X X ?_;rw [AH hx,HI (v:=x.id) (by rw [aJ,Ac h60])] at hE2
       exact ⟨by rw [PI,hE2];rfl,M.fr⟩
      have h60p:=bd h60;refine W ?_;refine fag ⟨i+1,X,(M.pk [3]),?_,?_,X⟩
      ·omega
      rw [hE2,AH hx,FA (by rw [aJ,AN h60])]
     refine A1 (d:=54) X (λh54=>?_) (λh54=>?_)
     ·refine T6 ?_;exact k54 M
     refine T6 ?_;exact k54 M
    refine A1 (d:=49) X (λh49=>?_) (λh49=>?_)
    ·refine T4 ?_;exact k49 M
    refine T4 ?_;exact k49 M
   refine A1 (d:=42) X (λh42=>?_) (λh42=>?_)
   ·refine T6 ?_;exact k42 M
   refine T6 ?_;exact k42 M
  refine A1 (d:=38) X (λh38=>?_) (λh38=>?_)
  ·refine T3 ?_;exact k38 M
  refine T3 ?_;exact k38 M
 have h14p:=odf h14;refine W ?_;have hiE:i=m.fls.length:=A0
 rw [hiE,Aq] at hE2
 have hE2:=hE2.trans (show _=zx from rfl);refine W ?_;exact B1 X X X ⟨by rw [PI,hE2];rfl,M.fr⟩
def MR (m:Md) (x:El):Option Kz:=(if ((O ((x.kind.toNat:Int)=(1:Int))) || (O ((x.kind.toNat:Int)=(9:Int))))=zz then (if (!((O ((((D7 m.fls x.id).length:Nat):Int)=(0:Int)))&&(O ((((BI m.fls x.id).length:Nat):Int)=(1:Int)))))=zz then (G x.id) else zx) else (if (O ((x.kind.toNat:Int)=(2:Int)))=zz then (if (!((O ((((D7 m.fls x.id).length:Nat):Int)=(1:Int)))&&(O ((((BI m.fls x.id).length:Nat):Int)=(0:Int)))))=zz then (G x.id) else zx) else (if ((O ((x.kind.toNat:Int)=(5:Int))) || (O ((x.kind.toNat:Int)=(6:Int))))=zz then (if (!((O ((1:Int)≤(((D7 m.fls x.id).length:Nat):Int)))&&(O ((1:Int)≤(((BI m.fls x.id).length:Nat):Int)))))=zz then (G x.id) else zx) else (if (O ((x.kind.toNat:Int)=(7:Int)))=zz then (if (!(((O ((((D7 m.fls x.id).length:Nat):Int)=(1:Int)))&&(O ((2:Int)≤(((BI m.fls x.id).length:Nat):Int))))&&m.fls.all (O3 m x)))=zz then (G x.id) else zx) else (if (!((O ((((D7 m.fls x.id).length:Nat):Int)=(1:Int)))&&(O ((((BI m.fls x.id).length:Nat):Int)=(1:Int)))))=zz then (G x.id) else zx)))))
def MU (m:Md):Option Kz:=ff (MR m) m.els
theorem o5 (m:Md) (a:MdA) (w:Kw) (ho:MdOk m) (hm:MdIn w m a) :
 zt zv 94 #[.agg (Md.cells m a).toArray] w (BR w (.tuple #[str ((MU m).getD []),.bool (MU m).isNone])):=by
 have hoi:=ho.id;have hon:=ho.nm;have hnv:=ho.nvars;have hne:=ho.nels;have hnf:=ho.nfls;refine BO func94 ntmps94 X λM=>V ?_
 refine CU M X X λg1 w1 hg1 M=>V ?_
 refine EC M [1] (λze zF e wr mz=>∃(i:Nat),e=(4,AA (i:Int))::ze∧zF wr∧(i≤m.els.length)∧(ff (MR m) m.els=ff (MR m) (m.els.drop i))∧mz=m.els.length-i) ⟨0,X,M,Aj _,X,X⟩ ?_;rintro _ w2 _ ⟨i,rfl,M,hi,hE2,rfl⟩;refine V ?_;refine EZ M 0 X X X (SF X X (G1 X X (V ?_)));refine AC X (λh16=>?_) (λh16=>?_)
 ·have h16p:=odt h16;obtain ⟨x,_,_,hx,hA_x⟩:=ex5 (i:=i) (M.rd hm.els);have ox:=ho.els _ (Ah hx);have ox1:=ox.id;have ox2:=ox.nm;have ox3:=ox.ref;have ox4:=ox.key;refine V ?_;refine EZ M 0 X X X (yb X (ya X (AK i hA_x X X X (sl X) A0) (ya X (AJ X X (BF El.len (M.rd hm.els) hA_x hx) Bk X AM) (CE M X AP λg5 w3 hg5 M=>BX M 0 X X AM X λw4 M=>V ?_))));refine I0 M 12 CA λM=>oa 0 12 X X M (λ_ M=>AJ (xs:=Md.cells m a) X X (M.rdBlk 1 X X) Ap X AO) (oc 1 12 X X M (ol 2 12 X X X M (λ_ M=>(M.cell 0 X X)) (oa 5 12 X X M (λ_ M=>AJ (xs:=Md.cells m a) X X (M.rdBlk 1 X X) Ap X AO) (oc 6 12 X X M (ol 7 12 X X X M (λ_ M=>(M.cell 0 X X)) (BB 3 (G 27) zr X kw X X (AE X X call50) (bH m a _ _ ho (hm.fr0 M.fr)) ?_))))))
  rintro _ w5 ⟨A27,c27,rfl,how5,hfw5⟩;refine ⟨_,X,λ_=>M.step hfw5,?_⟩;have M:=M.pushOwn hfw5 (Af _) how5;have hL27:=M.ownLen 0 X;refine oa 4 12 X X (M.drop 1) (λ_ M=>I8 X X (sl X)) (BB 8 (G 32) zr X kw X X (AE X X call101) (OW m a _ _ ho (hm.fr0 M.fr)) ?_);rintro _ w6 ⟨A32,c32,rfl,how6,hfw6⟩;refine ⟨_,X,λ_=>(M.drop 1).step hfw6,?_⟩;have M:=M.pushOwn hfw6 (Af _) how6;have hL32:=M.ownLen 0 X;refine oa 9 12 X X (M.drop 2) (λ_ M=>I8 X X (sl X)) (oc 10 12 X X (M.drop 2) (oc 11 12 X X (M.drop 2) (fdn (V ?_))));refine HU X X (yb X (fvm M 3 [7,6,5,4,1] [(39,.bool ((O (((D7 m.fls x.id).length:Int)=1))&&(O (((BI m.fls x.id).length:Int)=1))))] ?_ (λk36=>?_)))
  ·intro w7 M;refine V ?_;refine EZ M 2 X X X (V ?_);refine HU X X (V ?_);refine KA [(1,pg g1),(4,AA (i:Int)),(5,pg g5),(6,AA ((D7 m.fls x.id).length:Int)),(7,AA ((BI m.fls x.id).length:Int)),(8,.bool ((O (((D7 m.fls x.id).length:Int)=1))&&(O (((BI m.fls x.id).length:Int)=1)))),(41,.int .u8 (x.kind.toNat:Int)),(42,.bool ((O ((x.kind.toNat:Int)=1)) || (O ((x.kind.toNat:Int)=9))))] (λw'=>Mem w AR [As.own w.heap.size 9 1 (.slice A32 (BI m.fls x.id).length c32) ((BI m.fls x.id).length) (AF BH (BI m.fls x.id)),As.own w.heap.size 9 1 (.slice A27 (D7 m.fls x.id).length c27) ((D7 m.fls x.id).length) (AF BH (D7 m.fls x.id)),As.blk g5 106 (El.cells x),As.blk g1 48 (Md.cells m a)] w') ?_ (λk42=>?_)
   ·intro w8 M;refine qx_seq (AC X (λh42=>?_) (λh42=>?_))
    ·have h42p:=bd h42;refine V ?_;refine HU X X (yb X (fvm M 3 [8,5,4,1] [(50,.bool ((O (((D7 m.fls x.id).length:Int)=0))&&(O (((BI m.fls x.id).length:Int)=1))))] ?_ (λk47=>?_)))
     ·intro w9 M;refine V ?_;refine AC X (λh118=>?_) (λh118=>?_)
      ·have h118p:=bd h118;refine V ?_;refine EZ M 2 X X X (V ?_);refine B1 X X X ?_;rw [AH hx,HI (v:=x.id) (by rw [MR,Ac h42,Ac h118])] at hE2
       exact ⟨by rw [MU,hE2];rfl,M.fr⟩
      have h118p:=bd h118;refine V ?_;refine D3 X X (V ?_);refine fag ⟨i+1,X,(M.pk [3]),?_,?_,X⟩
      ·omega
      rw [hE2,AH hx,FA (by rw [MR,Ac h42,AN h118])]
     refine A1 (d:=47) X (λh47=>?_) (λh47=>?_)
     ·exact gyq X (yd X (ES X X X) (yb X (k47 M)))
     exact yo X (yo X (yb X (k47 M)))
    have h42p:=bd h42;refine V ?_;refine HU X X (V ?_);refine AC X (λh51=>?_) (λh51=>?_)
    ·have h51p:=odt h51;refine V ?_;refine HU X X (yb X (fvm M 3 [8,5,4,1] [(58,.bool ((O (((D7 m.fls x.id).length:Int)=1))&&(O (((BI m.fls x.id).length:Int)=0))))] ?_ (λk55=>?_)))
     ·intro w10 M;refine V ?_;refine AC X (λh118=>?_) (λh118=>?_)
      ·have h118p:=bd h118;refine V ?_;refine EZ M 2 X X X (V ?_);refine B1 X X X ?_;rw [AH hx,HI (v:=x.id) (by rw [MR,AN h42,Ac h51,Ac h118])] at hE2
       exact ⟨by rw [MU,hE2];rfl,M.fr⟩
      have h118p:=bd h118;refine V ?_;refine D3 X X (V ?_);refine fag ⟨i+1,X,(M.pk [3]),?_,?_,X⟩
      ·omega
      rw [hE2,AH hx,FA (by rw [MR,AN h42,Ac h51,AN h118])]
     refine A1 (d:=55) X (λh55=>?_) (λh55=>?_)
     ·exact gyq X (yd X (ES X X X) (yb X (k55 M)))
     exact yo X (yo X (yb X (k55 M)))
    have h51p:=odf h51;refine V ?_;refine HU X X (V ?_);refine KA [(1,pg g1),(4,AA (i:Int)),(5,pg g5),(6,AA ((D7 m.fls x.id).length:Int)),(7,AA ((BI m.fls x.id).length:Int)),(8,.bool ((O (((D7 m.fls x.id).length:Int)=1))&&(O (((BI m.fls x.id).length:Int)=1)))),(41,.int .u8 (x.kind.toNat:Int)),(59,.bool ((O ((x.kind.toNat:Int)=5)) || (O ((x.kind.toNat:Int)=6))))] (λw'=>Mem w AR [As.own w.heap.size 9 1 (.slice A32 (BI m.fls x.id).length c32) ((BI m.fls x.id).length) (AF BH (BI m.fls x.id)),As.own w.heap.size 9 1 (.slice A27 (D7 m.fls x.id).length c27) ((D7 m.fls x.id).length) (AF BH (D7 m.fls x.id)),As.blk g5 106 (El.cells x),As.blk g1 48 (Md.cells m a)] w') ?_ (λk59=>?_)
    ·intro w11 M;refine qx_seq (AC X (λh59=>?_) (λh59=>?_))
     ·have h59p:=bd h59;refine V ?_;refine a1d X X (yb X (fvm M 3 [8,5,4,1] [(67,.bool ((O (1≤((D7 m.fls x.id).length:Int)))&&(O (1≤((BI m.fls x.id).length:Int)))))] ?_ (λk64=>?_)))
      ·intro w12 M;refine V ?_;refine AC X (λh118=>?_) (λh118=>?_)
       ·have h118p:=bd h118;refine V ?_;refine EZ M 2 X X X (V ?_);refine B1 X X X ?_;rw [AH hx,HI (v:=x.id) (by rw [MR,AN h42,AN h51,Ac h59,Ac h118])] at hE2
        exact ⟨by rw [MU,hE2];rfl,M.fr⟩
       have h118p:=bd h118;refine V ?_;refine D3 X X (V ?_);refine fag ⟨i+1,X,(M.pk [3]),?_,?_,X⟩
       ·omega
       rw [hE2,AH hx,FA (by rw [MR,AN h42,AN h51,Ac h59,AN h118])]
      refine A1 (d:=64) X (λh64=>?_) (λh64=>?_)
      ·exact gyq X (yd X (LH X X X) (yb X (k64 M)))
      exact yo X (yo X (yb X (k64 M)))
     have h59p:=bd h59;refine V ?_;refine HU X X (V ?_);refine AC X (λh68=>?_) (λh68=>?_)
     ·have h68p:=odt h68;refine V ?_;refine HU X X (yb X (fvm M 3 [8,5,4,1] [(75,.bool ((O (((D7 m.fls x.id).length:Int)=1))&&(O (2≤((BI m.fls x.id).length:Int)))))] ?_ (λk72=>?_)))
      ·intro w13 M;refine V ?_;refine EC M [5,4,1] (λze zF e wr mz=>∃(k:Nat) (b:Bool),e=(8,.bool b)::(9,AA (k:Int))::ze∧zF wr∧(k≤m.fls.length)∧(b=(((O (((D7 m.fls x.id).length:Int)=1))&&(O (2≤((BI m.fls x.id).length:Int))))&&(m.fls.take k).all (O3 m x)))∧mz=m.fls.length-k) ⟨0,((O (((D7 m.fls x.id).length:Int)=1))&&(O (2≤((BI m.fls x.id).length:Int)))),X,M,Aj _,by simp,rfl⟩ ?_;rintro _ w14 _ ⟨k,b,rfl,M,hk,hb,rfl⟩;refine V ?_;refine EZ M 3 X X X (SF X X (G1 X X (V ?_)));refine AC X (λh80=>?_) (λh80=>?_)
       ·have h80p:=odt h80;obtain ⟨f,_,_,hf,hA_f⟩:=ex5 (i:=k) (M.rd hm.fls);have of:=ho.fls _ (Ah hf);have of1:=of.id;refine V ?_;refine CY CA zr ?_;have M:=M.drew;refine sb X (cD M 3 X X X (sb X (sa X (AK k hA_f X X X (sl X) A0) (sb X (sd X X (BC Fl.len (M.rd hm.fls) hA_f hf 1 X) (sb X (cD M 2 X X X (sa X (IV X X X) (V ?_)))))))));refine AC X (λh91=>?_) (λh91=>?_)
        ·have h91p:=odt h91;refine sx_seq (N6 (λ(g10:Nat)=>[(1,pg g1),(4,AA (i:Int)),(5,pg g5),(8,.bool b),(9,AA (k:Int)),(10,pg g10)]) (λ(g10:Nat)=>λw'=>Mem w AR [As.blk g10 106 (El.cells ((AG m.els f.tg).getD zeroEl)),As.own w.heap.size 9 1 (.slice A32 (BI m.fls x.id).length c32) ((BI m.fls x.id).length) (AF BH (BI m.fls x.id)),As.own w.heap.size 9 1 (.slice A27 (D7 m.fls x.id).length c27) ((D7 m.fls x.id).length) (AF BH (D7 m.fls x.id)),As.blk g5 106 (El.cells x),As.blk g1 48 (Md.cells m a)] w') ?_ (λkr22=>?_))
         ·intro g10 w15 M;refine V ?_;refine fvm M 4 [10,9,8,5,4,1] [(108,.bool (b&&(O ((((AG m.els f.tg).getD zeroEl).kind.toNat:Int)=8))))] ?_ (λk104=>?_)
          ·intro w16 M;refine yb X (fvm M 7 [9,8,5,4,1] [(116,.bool ((b&&(O ((((AG m.els f.tg).getD zeroEl).kind.toNat:Int)=8)))&&(O (((D7 m.fls (((AG m.els f.tg).getD zeroEl).id)).length:Int)=1))))] ?_ (λk109=>?_))
           ·intro w17 M;refine V ?_;refine D3 X X (V ?_);refine fag ⟨k+1,((b&&(O ((((AG m.els f.tg).getD zeroEl).kind.toNat:Int)=8)))&&(O (((D7 m.fls (((AG m.els f.tg).getD zeroEl).id)).length:Int)=1))),X,(M.pk [1,2,3,4]),?_,?_,X⟩
            ·omega
            first
             | (rw [hb,AT hf,IO,O3,Ac (by assumption)];simp only [Ef])
             | (rw [hb,AT hf,IO,O3,Ae (V8 (by assumption))];simp)
           refine A1 (d:=109) X (λh109=>?_) (λh109=>?_)
           ·refine yd X (AJ (xs:=Md.cells m a) X X (M.rdBlk 4 X X) Ap X AO) (gyq X (KW M 0 X X X (sxl_call (G 113) kw X X (AE X X call50) (bH m a _ _ ho (hm.fr0 M.fr)) ?_)));rintro _ w18 ⟨A113,c113,rfl,how18,hfw18⟩;refine cq ?_;have M:=M.pushOwn hfw18 (Af _) how18;have hL113:=M.ownLen 0 X;exact yd X (I8 X X (sl X)) (yd X (ES X X X) (yb X (k109 (M.drop 1))))
           iterate 6 refine yo X ?_
           exact yb X (k109 M)
          refine A1 (d:=104) X (λh104=>?_) (λh104=>?_)
          ·exact gyq X (KW M 0 X X X (yd X (ES X X X) (yb X (k104 M))))
          exact yo X (yo X (yo X (yb X (k104 M))))
         refine I0 M 14 CA λM=>oa 0 14 X X M (λ_ M=>AJ (xs:=Md.cells m a) X X (M.rdBlk 3 X X) Ap X AO) (oc 1 14 X X M (ol 2 14 X X X M (λ_ M=>(M.cell 3 X X)) (oc 3 14 X X M (oa 4 14 X X M (λ_ M=>AK k hA_f X X X (sl X) A0) (oc 5 14 X X M (ol 6 14 X X X M (λ_ M=>(BC Fl.len (M.rd hm.fls) hA_f hf 2 X)) (FM (rs:=[7,11]) zr (by simp) λiz hiz=>?_)))))))
         simp only [Ao,Ba,or_false] at hiz
         rcases hiz with rfl|rfl
         ·refine GT (G 100) X kw X X (AE X X call52) (E9 m a _ _ ho.b (hm.fr0 M.fr)) ?_;rintro _ w19 ⟨rfl,hfw19⟩;refine ⟨_,X,λ_=>M.step hfw19,?_⟩;have M:=M.step hfw19;refine oc 8 14 X X M (oc 9 14 X X M (oc 10 14 X X M (B7 11 (G 10) zr X kw X X (λρ hρ=>BP 106 X _ [str [],str [],.int .u8 0,str [],str [],str [],.int .u8 0,str [],str [],AA 0,AA 0] AP X) ?_)));rintro _ w20 ⟨g10,rfl,hg10,hq10,hb10,hfw20⟩;refine ⟨λ_=>M.step hfw20,?_⟩;have M:=M.push hfw20 _ hb10 (CR hg10 hq10)
          replace M:Mem w AR (As.blk g10 106 [str [],str [],.int .u8 0,str [],str [],str [],.int .u8 0,str [],str [],AA 0,AA 0]::_) w20:=M
          exact fop M 12 0 X X X AM X (·.drop 1) λw21 M=>oc 13 14 X X (M.drop 1) (fdn (kr22 g10 _ _ M ⟨X,X,X,X,X,X,zw⟩))
         refine DP (G 10) X kw X X (λρ hρ=>BP 106 X _ [str [],str [],.int .u8 0,str [],str [],str [],.int .u8 0,str [],str [],AA 0,AA 0] AP X) ?_;rintro _ w22 ⟨g10,rfl,hg10,hq10,hb10,hfw22⟩;refine ⟨λ_=>M.step hfw22,?_⟩;have M:=M.push hfw22 _ hb10 (CR hg10 hq10)
         replace M:Mem w AR (As.blk g10 106 [str [],str [],.int .u8 0,str [],str [],str [],.int .u8 0,str [],str [],AA 0,AA 0]::_) w22:=M
         refine BB 7 (G 100) zr X kw X X (AE X X call52) (E9 m a _ _ ho.b (hm.fr0 M.fr)) ?_;rintro _ w23 ⟨rfl,hfw23⟩;refine ⟨_,X,λ_=>(M.drop 1).step hfw23,?_⟩;have M:=M.step hfw23;exact oc 8 14 X X (M.drop 1) (oc 9 14 X X (M.drop 1) (oc 10 14 X X (M.drop 1) (fop M 12 0 X X X AM X (·.drop 1) λw24 M=>oc 13 14 X X (M.drop 1) (fdn (kr22 g10 _ _ M ⟨X,X,X,X,X,X,zw⟩)))))
        have h91p:=odf h91;refine V ?_;refine D3 X X (V ?_);refine fag ⟨k+1,b,X,M,?_,?_,X⟩
        ·omega
        first
         | (rw [hb,AT hf,IO,O3,Ac (by assumption)];simp only [Ef])
         | (rw [hb,AT hf,IO,O3,Ae (V8 (by assumption))];simp)
       have h80p:=odf h80;refine V ?_;have hkE:k=m.fls.length:=A0
       rw [hkE,Bc] at hb
       subst hb;refine V ?_;refine AC X (λh118=>?_) (λh118=>?_)
       ·refine V ?_;refine EZ M 2 X X X (V ?_);refine B1 X X X ?_;rw [AH hx,HI (v:=x.id) (by rw [MR,AN h42,AN h51,AN h59,Ac h68,Ac h118])] at hE2
        exact ⟨by rw [MU,hE2];rfl,M.fr⟩
       have h118p:=BL h118;refine V ?_;refine D3 X X (V ?_);refine fag ⟨i+1,X,(M.pk [3]),?_,?_,X⟩
       ·omega
       rw [hE2,AH hx,FA (by rw [MR,AN h42,AN h51,AN h59,Ac h68,AN h118])]
      refine A1 (d:=72) X (λh72=>?_) (λh72=>?_)
      ·exact gyq X (yd X (LH X X X) (yb X (k72 M)))
      exact yo X (yo X (yb X (k72 M)))
     have h68p:=odf h68;refine V ?_;refine AC X (λh118=>?_) (λh118=>?_)
     ·have h118p:=bd h118;refine V ?_;refine EZ M 2 X X X (V ?_);refine B1 X X X ?_;rw [AH hx,HI (v:=x.id) (by rw [MR,AN h42,AN h51,AN h59,AN h68,Ac h118])] at hE2
      exact ⟨by rw [MU,hE2];rfl,M.fr⟩
     have h118p:=bd h118;refine V ?_;refine D3 X X (V ?_);refine fag ⟨i+1,X,(M.pk [3]),?_,?_,X⟩
     ·omega
     rw [hE2,AH hx,FA (by rw [MR,AN h42,AN h51,AN h59,AN h68,AN h118])]
    refine AC X (λh59=>?_) (λh59=>?_)
    ·exact sx_skip (k59 _ _ M ⟨X,X,X,X,X,X,X,(by rw [h59];rfl),zw⟩)
    exact sx_region (HU X X (yb X (sxl_nil (k59 _ _ M ⟨X,X,X,X,X,X,X,(by rw [h59];rfl),zw⟩))))
   refine AC X (λh42=>?_) (λh42=>?_)
   ·exact sx_skip (k42 _ _ M ⟨X,X,X,X,X,X,X,(by rw [h42];rfl),zw⟩)
   exact sx_region (HU X X (yb X (sxl_nil (k42 _ _ M ⟨X,X,X,X,X,X,X,(by rw [h42];rfl),zw⟩))))
  refine A1 (d:=36) X (λh36=>?_) (λh36=>?_)
  ·exact gyq X (yd X (ES X X X) (yb X (k36 M)))
  exact yo X (yo X (yb X (k36 M)))
 have h16p:=odf h16;refine V ?_;have hiE:i=m.els.length:=A0
 rw [hiE,Aq] at hE2
 have hE2:=hE2.trans (show _=zx from rfl);refine V ?_;exact B1 X X X ⟨by rw [MU,hE2];rfl,M.fr⟩
def SS (m:Md) (x:El):Option Kz:=(if (O ((x.kind.toNat:Int)=(10:Int)))=zz then (if (!(scopeR m.els x.id))=zz then (G x.id) else zx) else zx)
def OV (m:Md):Option Kz:=if (!scopeR m.els [])=zz then G [] else ff (SS m) m.els
theorem o6 (m:Md) (a:MdA) (w:Kw) (ho:MdOk m) (hm:MdIn w m a) :
 zt zv 95 #[.agg (Md.cells m a).toArray] w (BR w (.tuple #[str ((OV m).getD []),.bool (OV m).isNone])):=by
 have hoi:=ho.id;have hon:=ho.nm;have hnv:=ho.nvars;have hne:=ho.nels;have hnf:=ho.nfls;refine BO func95 ntmps95 X λM=>W ?_
 refine CU M X X λg1 w1 hg1 M=>W ?_
 refine CF M 0 X X Ap AO X (CQ M 6 X X call161 (ZH m a _ _ ho (hm.fr0 M.fr)) λw2 M=>W ?_);refine AC X (λh7=>?_) (λh7=>?_)
 ·refine W ?_;exact B1 X X X ⟨by rw [OV,Ac h7];rfl,M.fr⟩
 have h7p:=BL h7;refine W ?_;refine EC M [1] (λze zF e wr mz=>∃(i:Nat),e=(4,AA (i:Int))::ze∧zF wr∧(i≤m.els.length)∧(ff (SS m) m.els=ff (SS m) (m.els.drop i))∧mz=m.els.length-i) ⟨0,X,M,Aj _,X,X⟩ ?_;rintro _ w3 _ ⟨i,rfl,M,hi,hE4,rfl⟩;refine W ?_;refine AC X (λh12=>?_) (λh12=>?_)
 ·have h12p:=odt h12;obtain ⟨x,_,_,hx,hA_x⟩:=ex5 (i:=i) (M.rd hm.els);have ox:=ho.els _ (Ah hx);have ox1:=ox.id;have ox2:=ox.nm;have ox3:=ox.ref;have ox4:=ox.key;refine W ?_;refine DZ 15 CA zr ?_;have M:=M.drew;refine W ?_;refine sa X (AK i hA_x X X X (sl X) A0) (sb X (sd X X (BC El.len (M.rd hm.els) hA_x hx 2 X) (W ?_)));refine C3 (d:=22) X (λh22=>?_) (λh22=>?_)
  ·have h22p:=odt h22;refine gsg X (AJ (xs:=Md.cells m a) X X (M.rdBlk 0 X X) Ap X AO) (W ?_);refine gsg X (AK i hA_x X X X (sl X) A0) (gsg X (yp X) (gsg X (B3 X X (sc X) (BC El.len (M.rd hm.els) hA_x hx 0 X)) (DA (sxl_call (G 30) kw X X (AE X X call161) (ZH m a _ _ ho (hm.fr0 M.fr)) ?_))));rintro _ w4 ⟨rfl,hfw4⟩;refine cq ?_;have M:=M.step hfw4;refine W ?_;refine AC X (λh32=>?_) (λh32=>?_)
   ·have h32p:=CJ h32;refine W ?_;refine ya X (AK i hA_x X X X (sl X) A0) (yb X (yl X X (BC El.len (M.rd hm.els) hA_x hx 0 X) (W ?_)));refine B1 X X X ?_;rw [AH hx,HI (v:=x.id) (by rw [SS,Ac h22,Ac h32])] at hE4
    exact ⟨by rw [OV,AN h7,hE4];rfl,M.fr⟩
   have h32p:=BL h32;refine W ?_;refine fag ⟨i+1,X,M,?_,?_,X⟩
   ·omega
   rw [hE4,AH hx,FA (by rw [SS,Ac h22,AN h32])]
  have h22p:=odf h22;refine W ?_;refine fag ⟨i+1,X,M,?_,?_,X⟩
  ·omega
  rw [hE4,AH hx,FA (by rw [SS,AN h22])]
 have h12p:=odf h12;refine W ?_;have hiE:i=m.els.length:=A0
 rw [hiE,Aq] at hE4
 have hE4:=hE4.trans (show _=zx from rfl);refine W ?_;exact B1 X X X ⟨by rw [OV,AN h7,hE4];rfl,M.fr⟩
def aI (m:Md) (x:El):Option Kz:=(if (!((!decide ((x.ev.toNat:Int)=(2:Int))) || m.vars.any (λy=>O (y.name=x.key)&&O ((y.v.kind.toNat:Int)=3))))=zz then (G x.id) else zx)
def PK (m:Md):Option Kz:=ff (aI m) m.els
theorem j9 (m:Md) (a:MdA) (w:Kw) (ho:MdOk m) (hm:MdIn w m a) :
 zt zv 98 #[.agg (Md.cells m a).toArray] w (BR w (.tuple #[str ((PK m).getD []),.bool (PK m).isNone])):=by
 have hoi:=ho.id;have hon:=ho.nm;have hnv:=ho.nvars;have hne:=ho.nels;have hnf:=ho.nfls;refine BO func98 ntmps98 X λM=>W ?_
 refine CU M X X λg1 w1 hg1 M=>W ?_
 refine EC M [1] (λze zF e wr mz=>∃(i:Nat),e=(4,AA (i:Int))::ze∧zF wr∧(i≤m.els.length)∧(ff (aI m) m.els=ff (aI m) (m.els.drop i))∧mz=m.els.length-i) ⟨0,X,M,Aj _,X,X⟩ ?_;rintro _ w2 _ ⟨i,rfl,M,hi,hE2,rfl⟩;refine W ?_;refine AC X (λh12=>?_) (λh12=>?_)
 ·have h12p:=odt h12;obtain ⟨x,_,_,hx,hA_x⟩:=ex5 (i:=i) (M.rd hm.els);have ox:=ho.els _ (Ah hx);have ox1:=ox.id;have ox2:=ox.nm;have ox3:=ox.ref;have ox4:=ox.key;refine W ?_;refine ya X (AK i hA_x X X X (sl X) A0) (ya X (AJ X X (BF El.len (M.rd hm.els) hA_x hx) Bk X AM) (CE M X AP λg5 w3 hg5 M=>BX M 0 X X AM X λw4 M=>W ?_));refine EC M [5,4,1] (λze zF e wr mz=>∃(k:Nat) (b:Bool),e=(6,.bool b)::(7,AA (k:Int))::ze∧zF wr∧(k≤m.vars.length)∧(b=((!decide ((x.ev.toNat:Int)=2)) || (m.vars.take k).any (λy=>O (y.name=x.key)&&O ((y.v.kind.toNat:Int)=3))))∧mz=m.vars.length-k) ⟨0,(!decide ((x.ev.toNat:Int)=2)),X,M,Aj _,by simp,rfl⟩ ?_;rintro _ w5 _ ⟨k,b,rfl,M,hk,hb,rfl⟩;refine W ?_;refine AC X (λh27=>?_) (λh27=>?_)
  ·have h27p:=odt h27;obtain ⟨y,_,_,hy,hA_y⟩:=ex5 (i:=k) (M.rd hm.vars);have oy1:=ho.vars.name _ (Ah hy);have oy2:=ho.vars.text _ (Ah hy);refine W ?_;refine CY CA zr ?_;have M:=M.drew;refine W ?_;refine fvs 20 [7,6,5,4,1] [(51,.bool (b || ((O (y.name=x.key))&&(O ((y.v.kind.toNat:Int)=3)))))] ?_ (λk31=>?_)
   ·refine W ?_;refine fag ⟨k+1,(b || ((O (y.name=x.key))&&(O ((y.v.kind.toNat:Int)=3)))),X,M,?_,?_,X⟩
    ·omega
    rw [hb,AT hy,SU];simp only [Bool.or_assoc]
   refine C3 (d:=31) X (λh31=>?_) (λh31=>?_)
   ·iterate 10 refine EI X X X X X X ?_
    iterate 8 refine RM X X X X X ?_
    exact EI X X X X X X (sb X (k31 _ ⟨X,X,X,X,X,(by rw [h31];rfl),zw⟩))
   refine W ?_;refine gsg X (AK k hA_y X X X (sl X) A0) (gsg X (yp X) (gsg X (B3 X X (sc X) (BC Bd.len (M.rd hm.vars) hA_y hy 0 X)) (W ?_)));refine fvs 9 [31,7,6,5,4,1] [(50,.bool ((O (y.name=x.key))&&(O ((y.v.kind.toNat:Int)=3))))] ?_ (λk41=>?_)
   ·exact sb X (k31 _ ⟨X,X,X,X,X,(by rw [h31];rfl),zw⟩)
   refine C3 (d:=41) X (λh41=>?_) (λh41=>?_)
   ·refine W ?_;refine gsg X (AK k hA_y X X X (sl X) A0) (T2 ?_);refine gsg X (B3 X X (sc X) (BC Bd.len (M.rd hm.vars) hA_y hy 1 X)) (T2 ?_);exact k41 _ ⟨X,X,X,X,X,X,(by rw [h41];rfl),zw⟩
   refine T9 ?_;exact k41 _ ⟨X,X,X,X,X,X,(by rw [h41];rfl),zw⟩
  have h27p:=odf h27;refine W ?_;have hkE:k=m.vars.length:=A0
  rw [hkE,Bc] at hb
  subst hb;refine W ?_;refine AC X (λh53=>?_) (λh53=>?_)
  ·refine W ?_;refine B1 X X X ?_;rw [AH hx,HI (v:=x.id) (by rw [aI,Ac h53])] at hE2
   exact ⟨by rw [PK,hE2];rfl,M.fr⟩
  have h53p:=BL h53;refine W ?_;refine fag ⟨i+1,X,(M.pk [1]),?_,?_,X⟩
  ·omega
  rw [hE2,AH hx,FA (by rw [aI,AN h53])]
 have h12p:=odf h12;refine W ?_;have hiE:i=m.els.length:=A0
 rw [hiE,Aq] at hE2
 have hE2:=hE2.trans (show _=zx from rfl);refine W ?_;exact B1 X X X ⟨by rw [PK,hE2];rfl,M.fr⟩
def aK (m:Md) (x:El):Option Kz:=(if ((!(LM m.els 4 x.inn)) || (!(TV x)))=zz then (G x.id) else zx)
def ZG (m:Md):Option Kz:=ff (aK m) m.els
theorem sX (m:Md) (a:MdA) (w:Kw) (ho:MdOk m) (hm:MdIn w m a) :
 zt zv 92 #[.agg (Md.cells m a).toArray] w (BR w (.tuple #[str ((ZG m).getD []),.bool (ZG m).isNone])):=by
 have hoi:=ho.id;have hon:=ho.nm;have hnv:=ho.nvars;have hne:=ho.nels;have hnf:=ho.nfls;refine BO func92 ntmps92 X λM=>V ?_
 refine CU M X X λg1 w1 hg1 M=>V ?_
 refine EC M [1] (λze zF e wr mz=>∃(i:Nat),e=(4,AA (i:Int))::ze∧zF wr∧(i≤m.els.length)∧(ff (aK m) m.els=ff (aK m) (m.els.drop i))∧mz=m.els.length-i) ⟨0,X,M,Aj _,X,X⟩ ?_;rintro _ w2 _ ⟨i,rfl,M,hi,hE2,rfl⟩;refine V ?_;refine EZ M 0 X X X (SF X X (G1 X X (V ?_)));refine AC X (λh15=>?_) (λh15=>?_)
 ·have h15p:=odt h15;obtain ⟨x,_,_,hx,hA_x⟩:=ex5 (i:=i) (M.rd hm.els);have ox:=ho.els _ (Ah hx);have ox1:=ox.id;have ox2:=ox.nm;have ox3:=ox.ref;have ox4:=ox.key;refine V ?_;refine EZ M 0 X X X (yb X (ya X (AK i hA_x X X X (sl X) A0) (ya X (AJ X X (BF El.len (M.rd hm.els) hA_x hx) Bk X AM) (CE M X AP λg5 w3 hg5 M=>BX M 0 X X AM X λw4 M=>V ?_))));refine CY CA zr ?_;have M:=M.drew;refine sb X (cD M 0 X X X (V ?_));refine EC M [5,4,1] (λze zF e wr mz=>∃(d:Nat) (q:Kz) (b:Bool),e=(6,AA (d:Int))::(7,str q)::(8,.bool b)::ze∧zF wr∧(d≤5)∧(d=5→b=zy)∧(LM m.els 4 x.inn=(b&&LM m.els (4-d) q))∧mz=5-d) ⟨0,x.inn,zz,X,M,Aj _,A0,rfl,rfl⟩ ?_;rintro _ w5 _ ⟨d,q,b,rfl,M,hd,hd5,hs,rfl⟩;refine V ?_;refine ya X (IU X X X) (yb X (fvm M 2 [8,7,6,5,4,1] [(29,.bool ((!decide (q=[]))&&b))] ?_ (λk27=>?_)))
  ·intro w6 M;refine V ?_;refine AC X (λh29=>?_) (λh29=>?_)
   ·have h29p:=bd h29;refine V ?_;refine CF M 1 X X Ap AO X (yb X (CQ M 33 X X call52 (E9 m a _ _ ho.b (hm.fr0 M.fr)) λw7 M=>V ?_));refine CE M X AP λg9 w8 hg9 M=>BX M 0 X X AM X λw9 M=>V ?_
    refine D3 X X (V ?_);refine fvm M 4 [9,8,7,6,5,4,1] [(43,.bool ((AG m.els q).isSome&&(O ((((AG m.els q).getD zeroEl).kind.toNat:Int)=10))))] ?_ (λk39=>?_)
    ·intro w10 M;refine yb X (fvm M 3 [9,8,7,6,5,4,1] [(47,.bool (((AG m.els q).isSome&&(O ((((AG m.els q).getD zeroEl).kind.toNat:Int)=10)))&&(O (((d+1:Nat):Int)≤4))))] ?_ (λk44=>?_))
     ·intro w11 M;refine V ?_;refine EZ M 0 X X X (V ?_);have hbt:=h29p.2;have hd6:d<5:=Nat.lt_of_le_of_ne hd (λh=>by rw [hd5 h] at hbt;cases hbt);refine fag ⟨d+1,((AG m.els q).getD zeroEl).inn,(((AG m.els q).isSome&&(O ((((AG m.els q).getD zeroEl).kind.toNat:Int)=10)))&&(O (((d+1:Nat):Int)≤4))),X,(M.pk [1,2]),?_,?_,?_,X⟩
      ·omega
      ·intro h;simp [show ¬((d:Int)+1≤4) by omega]
      rw [hs,hbt,nM m.els h29p.1 A0];rfl
     refine A1 (d:=44) X (λh44=>?_) (λh44=>?_)
     ·exact gyq X (yd X (NO X X X) (yb X (k44 M)))
     exact yo X (yo X (yb X (k44 M)))
    refine A1 (d:=39) X (λh39=>?_) (λh39=>?_)
    ·exact gyq X (KW M 0 X X X (yd X (ES X X X) (yb X (k39 M))))
    exact yo X (yo X (yo X (yb X (k39 M))))
   have h29p:=bd h29;refine V ?_;have hbE:b=LM m.els 4 x.inn:=by rw [hs];exact (rY m.els h29p).symm
   subst hbE;refine V ?_;refine fvm M 4 [5,4,1] [(56,.bool ((!(LM m.els 4 x.inn)) || (!(TV x))))] ?_ (λk52=>?_)
   ·intro w12 M;refine V ?_;refine AC X (λh56=>?_) (λh56=>?_)
    ·have h56p:=bd h56;refine V ?_;refine EZ M 0 X X X (V ?_);refine B1 X X X ?_;rw [AH hx,HI (v:=x.id) (by rw [aK,Ac h56])] at hE2
     exact ⟨by rw [ZG,hE2];rfl,M.fr⟩
    have h56p:=bd h56;refine V ?_;refine D3 X X (V ?_);refine fag ⟨i+1,X,(M.pk [1]),?_,?_,X⟩
    ·omega
    rw [hE2,AH hx,FA (by rw [aK,AN h56])]
   refine A1 (d:=52) X (λh52=>?_) (λh52=>?_)
   ·exact yo X (yo X (yo X (yb X (k52 M))))
   refine yd X (AJ (xs:=El.cells x) X X (M.rdBlk 0 X X) Bk X AM) (sxl_call (G 54) kw X X (AE X X call160) (zO _ _ (by assumption)) ?_);rintro _ w13 ⟨rfl,hfw13⟩;refine cq ?_;have M:=M.step hfw13;exact gyq X (yb X (k52 M))
  refine A1 (d:=27) X (λh27=>?_) (λh27=>?_)
  ·exact gyq X (yb X (k27 M))
  exact yo X (yb X (k27 M))
 have h15p:=odf h15;refine V ?_;have hiE:i=m.els.length:=A0
 rw [hiE,Aq] at hE2
 have hE2:=hE2.trans (show _=zx from rfl);refine V ?_;exact B1 X X X ⟨by rw [ZG,hE2];rfl,M.fr⟩
def Y9 (pre:List Bd) (x:Bd):Option Kz:=(if (!(((B5 x.name)&&(O ((chk x.v)=(0:Int))))&&(pre).all (λy => !decide (y.name=x.name))))=zz then (G x.name) else zx)
def YB (m:Md) (pre:List El) (x:El):Option Kz:=(if (!((((B5 x.id)&&(N5 x.nm))&&(!decide (x.id=m.id)))&&(pre).all (λy => !decide (y.id=x.id))))=zz then (G x.id) else zx)
def YA (m:Md) (pre:List Fl) (x:Fl):Option Kz:=(if (!((((B5 x.id)&&(!decide (x.id=m.id)))&&(!(AG m.els x.id).isSome))&&(pre).all (λy => !decide (y.id=x.id))))=zz then (G x.id) else zx)
def OE (m:Md):Option Kz:=if (((((!(B5 m.id)) || (!(N5 m.nm))) || (O ((64:Int)<((m.els.length:Nat):Int)))) || (O ((128:Int)<((m.fls.length:Nat):Int)))) || (O ((16:Int)<((m.vars.length:Nat):Int))))=zz then G [] else match ffp Y9 [] m.vars with
 | some s=>G s
 | none=>match ffp (YB m) [] m.els with
  | some s=>G s
  | none=>ffp (YA m) [] m.fls
theorem sZ (m:Md) (a:MdA) (w:Kw) (ho:MdB m) (hm:MdIn w m a) :
 zt zv 91 #[.agg (Md.cells m a).toArray] w (BR w (.tuple #[str ((OE m).getD []),.bool (OE m).isNone])):=by
 have hoi:=ho.id;have hon:=ho.nm;have hnv:=ho.nvars;have hne:=ho.nels;have hnf:=ho.nfls;refine BO func91 ntmps91 X λM=>W ?_
 refine CU M X X λg1 w1 hg1 M=>W ?_
 refine JK kw X X (AE X X call34) (FW _ _ A0) (W ?_);refine fvm M 5 [1] [(26,.bool ((!(B5 m.id)) || (!(N5 m.nm))))] ?_ (λk21=>?_)
 ·intro w2 M;refine yb X (fvm M 5 [1] [(32,.bool (((!(B5 m.id)) || (!(N5 m.nm))) || (O (64<(m.els.length:Int)))))] ?_ (λk27=>?_))
  ·intro w3 M;refine yb X (fvm M 5 [1] [(38,.bool ((((!(B5 m.id)) || (!(N5 m.nm))) || (O (64<(m.els.length:Int)))) || (O (128<(m.fls.length:Int)))))] ?_ (λk33=>?_))
   ·intro w4 M;refine yb X (fvm M 5 [1] [(44,.bool (((((!(B5 m.id)) || (!(N5 m.nm))) || (O (64<(m.els.length:Int)))) || (O (128<(m.fls.length:Int)))) || (O (16<(m.vars.length:Int)))))] ?_ (λk39=>?_))
    ·intro w5 M;refine W ?_;refine AC X (λh44=>?_) (λh44=>?_)
     ·have h44p:=bd h44;refine W ?_;exact B1 X X X ⟨by rw [OE,Ac h44];rfl,M.fr⟩
     have h44p:=bd h44;refine W ?_;refine EC M [1] (λze zF e wr mz=>∃(i:Nat),e=(4,AA (i:Int))::ze∧zF wr∧(i≤m.vars.length)∧(ffp (Y9 ) [] m.vars=ffp (Y9 ) (m.vars.take i) (m.vars.drop i))∧mz=m.vars.length-i) ⟨0,X,M,Aj _,X,X⟩ ?_;rintro _ w6 _ ⟨i,rfl,M,hi,hE4,rfl⟩;refine W ?_;refine AC X (λh49=>?_) (λh49=>?_)
     ·have h49p:=odt h49;obtain ⟨x,hx⟩:=EJ (l:=m.vars) (i:=i) A0;obtain ⟨b_x,o_x,hA_x⟩:=DR (k:=5) A0 (M.rd hm.vars) hx;have ox1:=ho.vars.name _ (Ah hx);have ox2:=ho.vars.text _ (Ah hx);refine W ?_;refine ya X (AK i hA_x X X X (sl X) A0) (yb X (yl X X (BC Bd.len (M.rd hm.vars) hA_x hx 0 X) (JK kw X X (AE X X call34) (FW _ _ A0) (yb X (fvm M 9 [4,1] [(68,.bool ((B5 x.name)&&(O ((chk x.v)=(0:Int)))))] ?_ (λk59=>?_))))))
      ·intro w7 M;refine W ?_;refine EC M [4,1] (λze zF e wr mz=>∃(k:Nat) (b:Bool),e=(5,.bool b)::(6,AA (k:Int))::ze∧zF wr∧(k≤i)∧(b=(((B5 x.name)&&(O ((chk x.v)=(0:Int))))&&(m.vars.take k).all (λy => !decide (y.name=x.name))))∧mz=i-k) ⟨0,((B5 x.name)&&(O ((chk x.v)=(0:Int)))),X,M,Aj _,by simp,rfl⟩ ?_;rintro _ w8 _ ⟨k,b,rfl,M,hk,hb,rfl⟩;refine W ?_;refine AC X (λh71=>?_) (λh71=>?_)
       ·have h71p:=odt h71;obtain ⟨x2,hx2⟩:=EJ (l:=m.vars) (i:=k) A0;obtain ⟨b_x2,o_x2,hA_x2⟩:=DR (k:=5) A0 (M.rd hm.vars) hx2;have ox21:=ho.vars.name _ (Ah hx2);have ox22:=ho.vars.text _ (Ah hx2);refine W ?_;refine CY CA zr ?_;have M:=M.drew;refine W ?_;refine fvs 14 [6,5,4,1] [(89,.bool (b&&(!decide (x2.name=x.name))))] ?_ (λk75=>?_)
        ·refine W ?_;refine fag ⟨k+1,(b&&(!decide (x2.name=x.name))),X,M,?_,?_,X⟩
         ·omega
         rw [hb,AT hx2,IO];simp only [Ef]
        refine C3 (d:=75) X (λh75=>?_) (λh75=>?_)
        ·refine W ?_;refine gsg X (AK k hA_x2 X X X (sl X) A0) (gsg X (yp X) (gsg X (B3 X X (sc X) (BC Bd.len (M.rd hm.vars) hA_x2 hx2 0 X)) (W ?_)));refine gsg X (AK i hA_x X X X (sl X) A0) (gsg X (yp X) (gsg X (B3 X X (sc X) (BC Bd.len (M.rd hm.vars) hA_x hx 0 X)) (T2 ?_)));exact k75 _ ⟨X,X,X,X,(by rw [h75];rfl),zw⟩
        refine T14 ?_;exact k75 _ ⟨X,X,X,X,(by rw [h75];rfl),zw⟩
       have h71p:=odf h71;refine W ?_;have hkE:k=i:=A0
       rw [hkE] at hb
       subst hb;refine W ?_;refine AC X (λh91=>?_) (λh91=>?_)
       ·have h91p:=CJ h91;refine W ?_;refine ya X (AK i hA_x X X X (sl X) A0) (yb X (yl X X (BC Bd.len (M.rd hm.vars) hA_x hx 0 X) (W ?_)));refine B1 X X X ?_;rw [AH hx,XP (v:=x.name) (by rw [Y9,Ac h91])] at hE4
        exact ⟨by rw [OE,AN h44,hE4];rfl,M.fr⟩
       have h91p:=BL h91;refine W ?_;refine fag ⟨i+1,X,M,?_,?_,X⟩
       ·omega
       rw [hE4,AH hx,AT hx,XQ (by rw [Y9,AN h91])]
      refine A1 (d:=59) X (λh59=>?_) (λh59=>?_)
      ·refine W ?_;refine yd X (AK i hA_x X X X (sl X) A0) (gyq X (yd X (AJ (xs:=Vl.cells x.v) X X (MI Bd.len (M.rd hm.vars) hA_x hx 1 4 X X) By X BM) (sxl_call (G 66) kw X X (AE X X call35) (NA _ _ A0) ?_)));rintro _ w9 ⟨rfl,hfw9⟩;refine cq ?_;have M:=M.step hfw9;refine T2 ?_;exact k59 M
      refine T9 ?_;exact k59 M
     have h49p:=odf h49;refine W ?_;have hiE:i=m.vars.length:=A0
     rw [hiE,Aq] at hE4
     have hE4:=hE4.trans (show _=zx from rfl);refine W ?_;refine EC M [1] (λze zF e wr mz=>∃(i:Nat),e=(7,AA (i:Int))::ze∧zF wr∧(i≤m.els.length)∧(ffp (YB m) [] m.els=ffp (YB m) (m.els.take i) (m.els.drop i))∧mz=m.els.length-i) ⟨0,X,M,Aj _,X,X⟩ ?_;rintro _ w10 _ ⟨i,rfl,M,hi,hE14,rfl⟩;refine W ?_;refine AC X (λh102=>?_) (λh102=>?_)
     ·have h102p:=odt h102;obtain ⟨x,hx⟩:=EJ (l:=m.els) (i:=i) A0;obtain ⟨b_x,o_x,hA_x⟩:=DR (k:=11) A0 (M.rd hm.els) hx;have ox:=ho.els _ (Ah hx);have ox1:=ox.id;have ox2:=ox.nm;have ox3:=ox.ref;have ox4:=ox.key;refine W ?_;refine ya X (AK i hA_x X X X (sl X) A0) (ya X (AJ X X (BF El.len (M.rd hm.els) hA_x hx) Bk X AM) (CE M X AP λg8 w11 hg8 M=>BX M 0 X X AM X λw12 M=>W ?_));refine JK kw X X (AE X X call34) (FW _ _ A0) (yb X (fvm M 4 [8,7,1] [(117,.bool ((B5 x.id)&&(N5 x.nm)))] ?_ (λk113=>?_)))
      ·intro w13 M;refine yb X (fvm M 6 [8,7,1] [(124,.bool (((B5 x.id)&&(N5 x.nm))&&(!decide (x.id=m.id))))] ?_ (λk118=>?_))
       ·intro w14 M;refine W ?_;refine EC M [8,7,1] (λze zF e wr mz=>∃(k:Nat) (b:Bool),e=(9,.bool b)::(10,AA (k:Int))::ze∧zF wr∧(k≤i)∧(b=((((B5 x.id)&&(N5 x.nm))&&(!decide (x.id=m.id)))&&(m.els.take k).all (λy => !decide (y.id=x.id))))∧mz=i-k) ⟨0,(((B5 x.id)&&(N5 x.nm))&&(!decide (x.id=m.id))),X,M,Aj _,by simp,rfl⟩ ?_;rintro _ w15 _ ⟨k,b,rfl,M,hk,hb,rfl⟩;refine W ?_;refine AC X (λh127=>?_) (λh127=>?_)
        ·have h127p:=odt h127;obtain ⟨x2,hx2⟩:=EJ (l:=m.els) (i:=k) A0;obtain ⟨b_x2,o_x2,hA_x2⟩:=DR (k:=11) A0 (M.rd hm.els) hx2;have ox2:=ho.els _ (Ah hx2);have ox21:=ox2.id;have ox22:=ox2.nm;have ox23:=ox2.ref;have ox24:=ox2.key;refine W ?_;refine CY CA zr ?_;have M:=M.drew;refine W ?_;refine fvs 10 [10,9,8,7,1] [(141,.bool (b&&(!decide (x2.id=x.id))))] ?_ (λk131=>?_)
         ·refine W ?_;refine fag ⟨k+1,(b&&(!decide (x2.id=x.id))),X,M,?_,?_,X⟩
          ·omega
          rw [hb,AT hx2,IO];simp only [Ef]
         refine C3 (d:=131) X (λh131=>?_) (λh131=>?_)
         ·refine W ?_;refine gsg X (AK k hA_x2 X X X (sl X) A0) (gsg X (yp X) (gsg X (B3 X X (sc X) (BC El.len (M.rd hm.els) hA_x2 hx2 0 X)) (T4 ?_)));exact k131 _ ⟨X,X,X,X,X,(by rw [h131];rfl),zw⟩
         refine T10 ?_;exact k131 _ ⟨X,X,X,X,X,(by rw [h131];rfl),zw⟩
        have h127p:=odf h127;refine W ?_;have hkE:k=i:=A0
        rw [hkE] at hb
        subst hb;refine W ?_;refine AC X (λh143=>?_) (λh143=>?_)
        ·refine W ?_;refine B1 X X X ?_;rw [AH hx,XP (v:=x.id) (by rw [YB,Ac h143])] at hE14
         exact ⟨by rw [OE,AN h44,hE4,hE14];rfl,M.fr⟩
        have h143p:=BL h143;refine W ?_;refine fag ⟨i+1,X,(M.pk [1]),?_,?_,X⟩
        ·omega
        rw [hE14,AH hx,AT hx,XQ (by rw [YB,AN h143])]
       refine A1 (d:=118) X (λh118=>?_) (λh118=>?_)
       ·refine T6 ?_;exact k118 M
       refine T6 ?_;exact k118 M
      refine A1 (d:=113) X (λh113=>?_) (λh113=>?_)
      ·refine W ?_;refine sxl_call (G 116) kw X X (AE X X call159) (eP _ _ A0) ?_;rintro _ w16 ⟨rfl,hfw16⟩;refine cq ?_;have M:=M.step hfw16;exact yb X (k113 M)
      refine T4 ?_;exact k113 M
     have h102p:=odf h102;refine W ?_;have hiE:i=m.els.length:=A0
     rw [hiE,Aq] at hE14
     have hE14:=hE14.trans (show _=zx from rfl);refine W ?_;refine EC M [1] (λze zF e wr mz=>∃(i:Nat),e=(11,AA (i:Int))::ze∧zF wr∧(i≤m.fls.length)∧(ffp (YA m) [] m.fls=ffp (YA m) (m.fls.take i) (m.fls.drop i))∧mz=m.fls.length-i) ⟨0,X,M,Aj _,X,X⟩ ?_;rintro _ w17 _ ⟨i,rfl,M,hi,hE25,rfl⟩;refine W ?_;refine AC X (λh150=>?_) (λh150=>?_)
     ·have h150p:=odt h150;obtain ⟨x,_,_,hx,hA_x⟩:=ex5 (i:=i) (M.rd hm.fls);have ox:=ho.fls _ (Ah hx);have ox1:=ox.id;refine W ?_;refine ya X (AK i hA_x X X X (sl X) A0) (yb X (yl X X (BC Fl.len (M.rd hm.fls) hA_x hx 0 X) (W ?_)));refine CF M 0 X X Ap AO X (yb X (CQ M 162 X X call52 (E9 m a _ _ ho.b (hm.fr0 M.fr)) λw18 M=>W ?_));refine CE M X AP λg13 w19 hg13 M=>BX M 0 X X AM X λw20 M=>W ?_
      refine JK kw X X (AE X X call34) (FW _ _ A0) (yb X (fvm M 5 [14,12,11,1] [(172,.bool ((B5 x.id)&&(!decide (x.id=m.id))))] ?_ (λk167=>?_)))
      ·intro w21 M;refine yb X (fvm M 3 [12,11,1] [(176,.bool (((B5 x.id)&&(!decide (x.id=m.id)))&&(!(AG m.els x.id).isSome)))] ?_ (λk173=>?_))
       ·intro w22 M;refine W ?_;refine EC M [12,11,1] (λze zF e wr mz=>∃(k:Nat) (b:Bool),e=(15,.bool b)::(16,AA (k:Int))::ze∧zF wr∧(k≤i)∧(b=((((B5 x.id)&&(!decide (x.id=m.id)))&&(!(AG m.els x.id).isSome))&&(m.fls.take k).all (λy => !decide (y.id=x.id))))∧mz=i-k) ⟨0,(((B5 x.id)&&(!decide (x.id=m.id)))&&(!(AG m.els x.id).isSome)),X,M,Aj _,by simp,rfl⟩ ?_;rintro _ w23 _ ⟨k,b,rfl,M,hk,hb,rfl⟩;refine W ?_;refine AC X (λh179=>?_) (λh179=>?_)
        ·have h179p:=odt h179;obtain ⟨x2,_,_,hx2,hA_x2⟩:=ex5 (i:=k) (M.rd hm.fls);have ox2:=ho.fls _ (Ah hx2);have ox21:=ox2.id;refine W ?_;refine fvm M 9 [16,15,12,11,1] [(192,.bool (b&&(!decide (x2.id=x.id))))] ?_ (λk183=>?_)
         ·intro w24 M;refine W ?_;refine fag ⟨k+1,(b&&(!decide (x2.id=x.id))),X,M,?_,?_,X⟩
          ·omega
          rw [hb,AT hx2,IO];simp only [Ef]
         refine A1 (d:=183) X (λh183=>?_) (λh183=>?_)
         ·refine W ?_;refine yd X (AK k hA_x2 X X X (sl X) A0) (gyq X (ym X X (BC Fl.len (M.rd hm.fls) hA_x2 hx2 0 X) (T3 ?_)));exact k183 M
         refine T9 ?_;exact k183 M
        have h179p:=odf h179;refine W ?_;have hkE:k=i:=A0
        rw [hkE] at hb
        subst hb;refine W ?_;refine AC X (λh194=>?_) (λh194=>?_)
        ·refine W ?_;refine B1 X X X ?_;rw [AH hx,XP (v:=x.id) (by rw [YA,Ac h194])] at hE25
         exact ⟨by rw [OE,AN h44,hE4,hE14,hE25];rfl,M.fr⟩
        have h194p:=BL h194;refine W ?_;refine fag ⟨i+1,X,(M.pk [1]),?_,?_,X⟩
        ·omega
        rw [hE25,AH hx,AT hx,XQ (by rw [YA,AN h194])]
       refine A1 (d:=173) X (λh173=>?_) (λh173=>?_)
       ·refine T3 ?_;exact k173 M
       refine T3 ?_;exact k173 M
      refine A1 (d:=167) X (λh167=>?_) (λh167=>?_)
      ·refine T5 ?_;exact k167 M
      refine T5 ?_;exact k167 M
     have h150p:=odf h150;refine W ?_;have hiE:i=m.fls.length:=A0
     rw [hiE,Aq] at hE25
     have hE25:=hE25.trans (show _=zx from rfl);refine W ?_;exact B1 X X X ⟨by rw [OE,AN h44,hE4,hE14,hE25];rfl,M.fr⟩
    refine A1 (d:=39) X (λh39=>?_) (λh39=>?_)
    ·refine T5 ?_;exact k39 M
    refine T5 ?_;exact k39 M
   refine A1 (d:=33) X (λh33=>?_) (λh33=>?_)
   ·refine T5 ?_;exact k33 M
   refine T5 ?_;exact k33 M
  refine A1 (d:=27) X (λh27=>?_) (λh27=>?_)
  ·refine T5 ?_;exact k27 M
  refine T5 ?_;exact k27 M
 refine A1 (d:=21) X (λh21=>?_) (λh21=>?_)
 ·refine T5 ?_;exact k21 M
 refine W ?_;refine sxl_call (G 24) kw X X (AE X X call159) (eP _ _ A0) ?_;rintro _ w25 ⟨rfl,hfw25⟩;refine cq ?_;have M:=M.step hfw25;refine T2 ?_;exact k21 M
end Go.Proofs.YtppmdnmjepkfaaaGreatDoor
