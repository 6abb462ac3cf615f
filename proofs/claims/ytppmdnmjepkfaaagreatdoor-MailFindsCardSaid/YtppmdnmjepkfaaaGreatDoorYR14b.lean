/- Lemmas. -/
import Derived.Test.YtppmdnmjepkfaaaGreatDoorYR14a
set_option maxHeartbeats 16000000
set_option maxRecDepth 100000
namespace Go.Proofs.YtppmdnmjepkfaaaGreatDoor
open Go.RowKit
open Tryz
theorem IH {α:Type} (p:α→Bool) (l:List α) (x:α):(l++[x]).all p=(l.all p&&p x):=by simp [List.all_append]
theorem SG {α:Type} (p:α→Bool) (l:List α) (x:α):(l++[x]).any p=(l.any p || p x):=by simp [List.any_append]
def GV (els:List El) (id:Kz):List Fl→Option Kz
 | []=>none
 | x::r=>if (!decide (x.tg=id))=true then GV els id r else if ((AF els x.frm).isSome&&decide ((((AF els x.frm).getD zeroEl).kind.toNat:Int)=7))=true then some ((AF els x.frm).getD zeroEl).id else GV els id r
def U7 (m:Md) (id:Kz):Option Kz:=if ((!(AF m.els id).isSome) || !decide ((((AF m.els id).getD zeroEl).kind.toNat:Int)=8))=true then none else GV m.els id m.fls
def NP (m:Md) (x:El) (f:Fl):Bool:=if (decide (f.frm=x.id))=true then ((decide ((((AF m.els f.tg).getD zeroEl).kind.toNat:Int)=8))&&decide (((D2 m.fls ((AF m.els f.tg).getD zeroEl).id).length:Int)=1)) else true
def L7 (els:List El):Nat→Kz→Bool
 | 0,s=>decide (s=[])
 | n+1,s=>if s=[] then true else ((AF els s).isSome&&decide ((((AF els s).getD zeroEl).kind.toNat:Int)=10))&&L7 els n ((AF els s).getD zeroEl).inn
theorem mP (els:List El) {d:Nat} {s:Kz} (h:¬s=[]) (hd:d<5):(true&&L7 els (4-d) s)=((((AF els s).isSome&&decide ((((AF els s).getD zeroEl).kind.toNat:Int)=10))&&decide (((d:Int)+1)≤4))&&L7 els (4-(d+1)) ((AF els s).getD zeroEl).inn):=by
 by_cases h4:d=4
 ·subst h4;simp [L7,h]
 rw [show 4-d=(4-(d+1))+1 by omega,L7,if_neg h]
 have:decide (((d:Int)+1)≤4)=true:=by simp;omega
 rw [this];simp
theorem qS (els:List El) {d:Nat} {s:Kz} {b:Bool} (h:s=[]∨b=false):(b&&L7 els (4-d) s)=b:=by
 rcases h with h|h
 ·subst h
  have:L7 els (4-d) []=true:=by cases 4-d<;>simp [L7]
  rw [this];simp
 rw [h];rfl
def M4 (x:El):Bool:=(((decide ((x.kind.toNat:Int)=(5:Int))) || (decide ((x.kind.toNat:Int)=(6:Int)))) || (decide ((x.kind.toNat:Int)=(10:Int))))
theorem WJ (x:El) (w:Kw)  :
 Calls prog 164 #[.agg x.cells.toArray] w (BS w (.bool (M4 x))):=by
 refine BR func164 ntmps164 X λM=>W ?_
 refine CO M X X λg1 w1 hg1 M=>W ?_
 refine fvm M 4 [2,1] [(10,.bool ((decide ((x.kind.toNat:Int)=5)) || (decide ((x.kind.toNat:Int)=6))))] ?_ (λk6=>?_)
 ·intro w2 M;refine yb X (fvm M 4 [2] [(15,.bool (((decide ((x.kind.toNat:Int)=5)) || (decide ((x.kind.toNat:Int)=6))) || (decide ((x.kind.toNat:Int)=10))))] ?_ (λk11=>?_))
  ·intro w3 M;refine W ?_;exact gr1 X ⟨by rw [M4],M.fr⟩
  refine A1 (d:=11) X (λh11=>?_) (λh11=>?_)
  ·refine T4 ?_;exact k11 M
  refine T4 ?_;exact k11 M
 refine A1 (d:=6) X (λh6=>?_) (λh6=>?_)
 ·refine T4 ?_;exact k6 M
 refine T4 ?_;exact k6 M
theorem rY (m:Md) (a:MdA) (id:Kz) (w:Kw) (ho:MdOk m) (hm:MdIn w m a) :
 Calls prog 102 #[.agg (Md.cells m a).toArray,str id] w (BS w (.tuple #[str ((U7 m id).getD []),.bool (U7 m id).isSome])):=by
 have hoi:=ho.id;have hon:=ho.nm;have hnv:=ho.nvars;have hne:=ho.nels;have hnf:=ho.nfls;refine BR func102 ntmps102 X λM=>W ?_
 refine CO M X X λg2 w1 hg2 M=>W ?_
 refine CH M 0 X X Al AN X (yb X (CW M 14 X X call52 (E7 m a _ _ ho.b (hm.fr0 M.fr)) λw2 M=>W ?_));refine CI M X AP λg6 w3 hg6 M=>BY M 0 X X AJ X λw4 M=>W ?_
 refine fvm M 4 [2,1] [(23,.bool ((!(AF m.els id).isSome) || (!decide ((((AF m.els id).getD zeroEl).kind.toNat:Int)=8))))] ?_ (λk19=>?_)
 ·intro w5 M;refine W ?_;refine AB X (λh23=>?_) (λh23=>?_)
  ·have h23p:=bd h23;refine W ?_;exact AZ X X X ⟨by rw [U7,if_pos h23];rfl,M.fr⟩
  have h23p:=bd h23;refine W ?_;refine EF M [2,1] (λze zF e wr mz=>∃(i:Nat),e=(8,AA (i:Int))::ze∧zF wr∧(i≤m.fls.length)∧(U7 m id=GV m.els id (m.fls.drop i))∧mz=m.fls.length-i) ⟨0,X,M,Ae _,by rw [U7,AM h23];rfl,rfl⟩ ?_;rintro _ w6 _ ⟨i,rfl,M,hi,hr,rfl⟩;refine W ?_;refine AB X (λh28=>?_) (λh28=>?_)
  ·have h28p:=odt h28;refine W ?_;obtain ⟨x,_,_,hx,hA_x⟩:=ex5 (i:=i) (M.rd hm.fls);refine ya X (AK i hA_x X X X (sl X) A0) (yb X (yl X X (BD Fl.len (M.rd hm.fls) hA_x hx 2 X) (W ?_)));refine AB X (λh38=>?_) (λh38=>?_)
   ·have h38p:=(odf (CJ h38));refine W ?_;refine fag ⟨i+1,X,M,?_,?_,X⟩
    ·omega
    first|rw [hr,AG hx,GV,if_pos h38]|rw [hr,AG hx,GV,AM h38,AM h55]
   have h38p:=(odt (BO h38));refine W ?_;refine MQ (λ(g9:Nat)=>[(1,str id),(2,pg g2),(8,AA (i:Int)),(9,pg g9),(10,.bool ((AF m.els x.frm).isSome))]) (λ(g9:Nat)=>λw'=>Mem w AR [As.blk g9 106 (El.cells ((AF m.els x.frm).getD zeroEl)),As.blk g6 106 (El.cells ((AF m.els id).getD zeroEl)),As.blk g2 48 (Md.cells m a)] w') ?_ (λkr8=>?_)
   ·intro g9 w7 M;refine W ?_;refine fvm M 4 [9,8,2,1] [(55,.bool ((AF m.els x.frm).isSome&&(decide ((((AF m.els x.frm).getD zeroEl).kind.toNat:Int)=7))))] ?_ (λk51=>?_)
    ·intro w8 M;refine W ?_;refine AB X (λh55=>?_) (λh55=>?_)
     ·refine W ?_;refine AZ X X X ?_;rw [AG hx,GV,AM h38,if_pos h55] at hr
      exact ⟨by rw [hr];rfl,M.fr⟩
     have h55p:=bd h55;refine W ?_;refine fag ⟨i+1,X,(M.pk [1,2]),?_,?_,X⟩
     ·omega
     first|rw [hr,AG hx,GV,if_pos h38]|rw [hr,AG hx,GV,AM h38,AM h55]
    refine A1 (d:=51) X (λh51=>?_) (λh51=>?_)
    ·refine T4 ?_;exact k51 M
    refine T4 ?_;exact k51 M
   refine J2 M 14 CA λM=>oa 0 14 X X M (λ_ M=>AI (xs:=Md.cells m a) X X (M.rdBlk 1 X X) Al X AN) (oc 1 14 X X M (ol 2 14 X X X M (λ_ M=>(M.cell 1 X X)) (oc 3 14 X X M (oa 4 14 X X M (λ_ M=>AK i hA_x X X X (sl X) A0) (oc 5 14 X X M (ol 6 14 X X X M (λ_ M=>(BD Fl.len (M.rd hm.fls) hA_x hx 1 X)) (G3 (rs:=[7,11]) gkr (by simp) λiz hiz=>?_)))))))
   simp only [Ak,Ax,or_false] at hiz
   rcases hiz with rfl|rfl
   ·refine HU (some 47) X kw X X (AD X X call52) (E7 m a _ _ ho.b (hm.fr0 M.fr)) ?_;rintro _ w9 ⟨rfl,hfw9⟩;refine ⟨_,X,λ_=>M.step hfw9,?_⟩;have M:=M.step hfw9;refine oc 8 14 X X M (oc 9 14 X X M (oc 10 14 X X M (B5 11 (some 9) gkr X kw X X (λρ hρ=>BN 106 X _ [str [],str [],.int .u8 0,str [],str [],str [],.int .u8 0,str [],str [],AA 0,AA 0] AP X) ?_)));rintro _ w10 ⟨g9,rfl,hg9,hq9,hb9,hfw10⟩;refine ⟨λ_=>M.step hfw10,?_⟩;have M:=M.push hfw10 _ hb9 (CU hg9 hq9)
    replace M:Mem w AR (As.blk g9 106 [str [],str [],.int .u8 0,str [],str [],str [],.int .u8 0,str [],str [],AA 0,AA 0]::_) w10:=M
    exact fop M 12 0 X X X AJ X (·.drop 1) λw11 M=>oc 13 14 X X (M.drop 1) (fdn (kr8 g9 _ _ M ⟨X,X,X,X,X,trivial⟩))
   refine E0 (some 9) X kw X X (λρ hρ=>BN 106 X _ [str [],str [],.int .u8 0,str [],str [],str [],.int .u8 0,str [],str [],AA 0,AA 0] AP X) ?_;rintro _ w12 ⟨g9,rfl,hg9,hq9,hb9,hfw12⟩;refine ⟨λ_=>M.step hfw12,?_⟩;have M:=M.push hfw12 _ hb9 (CU hg9 hq9)
   replace M:Mem w AR (As.blk g9 106 [str [],str [],.int .u8 0,str [],str [],str [],.int .u8 0,str [],str [],AA 0,AA 0]::_) w12:=M
   refine BC 7 (some 47) gkr X kw X X (AD X X call52) (E7 m a _ _ ho.b (hm.fr0 M.fr)) ?_;rintro _ w13 ⟨rfl,hfw13⟩;refine ⟨_,X,λ_=>(M.drop 1).step hfw13,?_⟩;have M:=M.step hfw13;exact oc 8 14 X X (M.drop 1) (oc 9 14 X X (M.drop 1) (oc 10 14 X X (M.drop 1) (fop M 12 0 X X X AJ X (·.drop 1) λw14 M=>oc 13 14 X X (M.drop 1) (fdn (kr8 g9 _ _ M ⟨X,X,X,X,X,trivial⟩)))))
  have h28p:=odf h28;refine W ?_;refine AZ X X X ?_;obtain rfl:i=m.fls.length:=by omega
  rw [Am,GV] at hr
  exact ⟨by rw [hr];rfl,M.fr⟩
 refine A1 (d:=19) X (λh19=>?_) (λh19=>?_)
 ·refine T4 ?_;exact k19 M
 refine T4 ?_;exact k19 M
def ZV (m:Md) (x:Fl):Option Kz:=(if (((((!(AF m.els x.frm).isSome) || (!(AF m.els x.tg).isSome)) || (!decide (((AF m.els x.frm).getD zeroEl).inn=((AF m.els x.tg).getD zeroEl).inn))) || (decide ((((AF m.els x.tg).getD zeroEl).kind.toNat:Int)=(9:Int)))) || (decide (x.frm=x.tg)))=true then (some x.id) else none)
def P0 (m:Md):Option Kz:=ff (ZV m) m.fls
theorem iJ (m:Md) (a:MdA) (w:Kw) (ho:MdOk m) (hm:MdIn w m a) :
 Calls prog 93 #[.agg (Md.cells m a).toArray] w (BS w (.tuple #[str ((P0 m).getD []),.bool (P0 m).isNone])):=by
 have hoi:=ho.id;have hon:=ho.nm;have hnv:=ho.nvars;have hne:=ho.nels;have hnf:=ho.nfls;refine BR func93 ntmps93 X λM=>W ?_
 refine CO M X X λg1 w1 hg1 M=>W ?_
 refine EF M [1] (λze zF e wr mz=>∃(i:Nat),e=(4,AA (i:Int))::ze∧zF wr∧(i≤m.fls.length)∧(ff (ZV m) m.fls=ff (ZV m) (m.fls.drop i))∧mz=m.fls.length-i) ⟨0,X,M,Ae _,X,X⟩ ?_;rintro _ w2 _ ⟨i,rfl,M,hi,hE2,rfl⟩;refine W ?_;refine AB X (λh14=>?_) (λh14=>?_)
 ·have h14p:=odt h14;obtain ⟨x,_,_,hx,hA_x⟩:=ex5 (i:=i) (M.rd hm.fls);have ox:=ho.fls _ (Ac hx);have ox1:=ox.id;refine W ?_;refine ya X (AK i hA_x X X X (sl X) A0) (ya X (AI X X (BM Fl.len (M.rd hm.fls) hA_x hx) Cf X BU) (CI M X DS λg5 w3 hg5 M=>BY M 0 X X BU X λw4 M=>W ?_));refine CH M 1 X X Al AN X (W ?_);refine CW M 26 X X call52 (E7 m a _ _ ho.b (hm.fr0 M.fr)) λw5 M=>W ?_
  refine CI M X AP λg6 w6 hg6 M=>BY M 0 X X AJ X λw7 M=>W ?_
  refine CH M 2 X X Al AN X (W ?_);refine CW M 33 X X call52 (E7 m a _ _ ho.b (hm.fr0 M.fr)) λw8 M=>W ?_
  refine CI M X AP λg8 w9 hg8 M=>BY M 0 X X AJ X λw10 M=>W ?_
  refine fvm M 3 [8,6,5,4,1] [(41,.bool ((!(AF m.els x.frm).isSome) || (!(AF m.els x.tg).isSome)))] ?_ (λk38=>?_)
  ·intro w11 M;refine yb X (fvm M 6 [8,5,4,1] [(48,.bool (((!(AF m.els x.frm).isSome) || (!(AF m.els x.tg).isSome)) || (!decide (((AF m.els x.frm).getD zeroEl).inn=((AF m.els x.tg).getD zeroEl).inn))))] ?_ (λk42=>?_))
   ·intro w12 M;refine yb X (fvm M 4 [5,4,1] [(53,.bool ((((!(AF m.els x.frm).isSome) || (!(AF m.els x.tg).isSome)) || (!decide (((AF m.els x.frm).getD zeroEl).inn=((AF m.els x.tg).getD zeroEl).inn))) || (decide ((((AF m.els x.tg).getD zeroEl).kind.toNat:Int)=9))))] ?_ (λk49=>?_))
    ·intro w13 M;refine yb X (fvm M 6 [5,4,1] [(60,.bool (((((!(AF m.els x.frm).isSome) || (!(AF m.els x.tg).isSome)) || (!decide (((AF m.els x.frm).getD zeroEl).inn=((AF m.els x.tg).getD zeroEl).inn))) || (decide ((((AF m.els x.tg).getD zeroEl).kind.toNat:Int)=9))) || (decide (x.frm=x.tg))))] ?_ (λk54=>?_))
     ·intro w14 M;refine W ?_;refine AB X (λh60=>?_) (λh60=>?_)
      ·have h60p:=bd h60;refine W ?_;refine AZ X X X ?_;rw [AG hx,HD (v:=x.id) (by rw [ZV,if_pos h60])] at hE2
       exact ⟨by rw [P0,hE2];rfl,M.fr⟩
      have h60p:=bd h60;refine W ?_;refine fag ⟨i+1,X,(M.pk [3]),?_,?_,X⟩
      ·omega
      rw [hE2,AG hx,F9 (by rw [ZV,AM h60])]
     refine A1 (d:=54) X (λh54=>?_) (λh54=>?_)
     ·refine T6 ?_;exact k54 M
     refine T6 ?_;exact k54 M
    refine A1 (d:=49) X (λh49=>?_) (λh49=>?_)
    ·refine T4 ?_;exact k49 M
    refine T4 ?_;exact k49 M
   refine A1 (d:=42) X (λh42=>?_) (λh42=>?_)
   ·refine T6 ?_;exact k42 M
   refine T6 ?_;exact k42 M
  refine A1 (d:=38) X (λh38=>?_) (λh38=>?_)
  ·refine T3 ?_;exact k38 M
  refine T3 ?_;exact k38 M
 have h14p:=odf h14;refine W ?_;have hiE:i=m.fls.length:=by omega
 rw [hiE,Am] at hE2
 have hE2:=hE2.trans (show _=none from rfl);refine W ?_;exact AZ X X X ⟨by rw [P0,hE2];rfl,M.fr⟩
def MB (m:Md) (x:El):Option Kz:=(if ((decide ((x.kind.toNat:Int)=(1:Int))) || (decide ((x.kind.toNat:Int)=(9:Int))))=true then (if (!((decide ((((D2 m.fls x.id).length:Nat):Int)=(0:Int)))&&(decide ((((BJ m.fls x.id).length:Nat):Int)=(1:Int)))))=true then (some x.id) else none) else (if (decide ((x.kind.toNat:Int)=(2:Int)))=true then (if (!((decide ((((D2 m.fls x.id).length:Nat):Int)=(1:Int)))&&(decide ((((BJ m.fls x.id).length:Nat):Int)=(0:Int)))))=true then (some x.id) else none) else (if ((decide ((x.kind.toNat:Int)=(5:Int))) || (decide ((x.kind.toNat:Int)=(6:Int))))=true then (if (!((decide ((1:Int)≤(((D2 m.fls x.id).length:Nat):Int)))&&(decide ((1:Int)≤(((BJ m.fls x.id).length:Nat):Int)))))=true then (some x.id) else none) else (if (decide ((x.kind.toNat:Int)=(7:Int)))=true then (if (!(((decide ((((D2 m.fls x.id).length:Nat):Int)=(1:Int)))&&(decide ((2:Int)≤(((BJ m.fls x.id).length:Nat):Int))))&&m.fls.all (NP m x)))=true then (some x.id) else none) else (if (!((decide ((((D2 m.fls x.id).length:Nat):Int)=(1:Int)))&&(decide ((((BJ m.fls x.id).length:Nat):Int)=(1:Int)))))=true then (some x.id) else none)))))
def ME (m:Md):Option Kz:=ff (MB m) m.els
theorem nC (m:Md) (a:MdA) (w:Kw) (ho:MdOk m) (hm:MdIn w m a) :
 Calls prog 94 #[.agg (Md.cells m a).toArray] w (BS w (.tuple #[str ((ME m).getD []),.bool (ME m).isNone])):=by
 have hoi:=ho.id;have hon:=ho.nm;have hnv:=ho.nvars;have hne:=ho.nels;have hnf:=ho.nfls;refine BR func94 ntmps94 X λM=>V ?_
 refine CO M X X λg1 w1 hg1 M=>V ?_
 refine EF M [1] (λze zF e wr mz=>∃(i:Nat),e=(4,AA (i:Int))::ze∧zF wr∧(i≤m.els.length)∧(ff (MB m) m.els=ff (MB m) (m.els.drop i))∧mz=m.els.length-i) ⟨0,X,M,Ae _,X,X⟩ ?_;rintro _ w2 _ ⟨i,rfl,M,hi,hE2,rfl⟩;refine V ?_;refine FV M 0 X X X (UR X X (GB X X (V ?_)));refine AB X (λh16=>?_) (λh16=>?_)
 ·have h16p:=odt h16;obtain ⟨x,_,_,hx,hA_x⟩:=ex5 (i:=i) (M.rd hm.els);have ox:=ho.els _ (Ac hx);have ox1:=ox.id;have ox2:=ox.nm;have ox3:=ox.ref;have ox4:=ox.key;refine V ?_;refine FV M 0 X X X (yb X (ya X (AK i hA_x X X X (sl X) A0) (ya X (AI X X (BM El.len (M.rd hm.els) hA_x hx) Bf X AJ) (CI M X AP λg5 w3 hg5 M=>BY M 0 X X AJ X λw4 M=>V ?_))));refine J2 M 12 CA λM=>oa 0 12 X X M (λ_ M=>AI (xs:=Md.cells m a) X X (M.rdBlk 1 X X) Al X AN) (oc 1 12 X X M (ol 2 12 X X X M (λ_ M=>(M.cell 0 X X)) (oa 5 12 X X M (λ_ M=>AI (xs:=Md.cells m a) X X (M.rdBlk 1 X X) Al X AN) (oc 6 12 X X M (ol 7 12 X X X M (λ_ M=>(M.cell 0 X X)) (BC 3 (some 27) gkr X kw X X (AD X X call50) (aU m a _ _ ho (hm.fr0 M.fr)) ?_))))))
  rintro _ w5 ⟨A27,c27,rfl,how5,hfw5⟩;refine ⟨_,X,λ_=>M.step hfw5,?_⟩;have M:=M.pushOwn hfw5 (Ab _) how5;have hL27:=M.ownLen 0 X;refine oa 4 12 X X (M.drop 1) (λ_ M=>I7 X X (sl X)) (BC 8 (some 32) gkr X kw X X (AD X X call101) (OG m a _ _ ho (hm.fr0 M.fr)) ?_);rintro _ w6 ⟨A32,c32,rfl,how6,hfw6⟩;refine ⟨_,X,λ_=>(M.drop 1).step hfw6,?_⟩;have M:=M.pushOwn hfw6 (Ab _) how6;have hL32:=M.ownLen 0 X;refine oa 9 12 X X (M.drop 2) (λ_ M=>I7 X X (sl X)) (oc 10 12 X X (M.drop 2) (oc 11 12 X X (M.drop 2) (fdn (V ?_))));refine JJ X X (yb X (fvm M 3 [7,6,5,4,1] [(39,.bool ((decide (((D2 m.fls x.id).length:Int)=1))&&(decide (((BJ m.fls x.id).length:Int)=1))))] ?_ (λk36=>?_)))
  ·intro w7 M;refine V ?_;refine FV M 2 X X X (V ?_);refine JJ X X (V ?_);refine K5 [(1,pg g1),(4,AA (i:Int)),(5,pg g5),(6,AA ((D2 m.fls x.id).length:Int)),(7,AA ((BJ m.fls x.id).length:Int)),(8,.bool ((decide (((D2 m.fls x.id).length:Int)=1))&&(decide (((BJ m.fls x.id).length:Int)=1)))),(41,.int .u8 (x.kind.toNat:Int)),(42,.bool ((decide ((x.kind.toNat:Int)=1)) || (decide ((x.kind.toNat:Int)=9))))] (λw'=>Mem w AR [As.own w.heap.size 9 1 (.slice A32 (BJ m.fls x.id).length c32) ((BJ m.fls x.id).length) (AE BG (BJ m.fls x.id)),As.own w.heap.size 9 1 (.slice A27 (D2 m.fls x.id).length c27) ((D2 m.fls x.id).length) (AE BG (D2 m.fls x.id)),As.blk g5 106 (El.cells x),As.blk g1 48 (Md.cells m a)] w') ?_ (λk42=>?_)
   ·intro w8 M;refine qx_seq (AB X (λh42=>?_) (λh42=>?_))
    ·have h42p:=bd h42;refine V ?_;refine JJ X X (yb X (fvm M 3 [8,5,4,1] [(50,.bool ((decide (((D2 m.fls x.id).length:Int)=0))&&(decide (((BJ m.fls x.id).length:Int)=1))))] ?_ (λk47=>?_)))
     ·intro w9 M;refine V ?_;refine AB X (λh118=>?_) (λh118=>?_)
      ·have h118p:=bd h118;refine V ?_;refine FV M 2 X X X (V ?_);refine AZ X X X ?_;rw [AG hx,HD (v:=x.id) (by rw [MB,if_pos h42,if_pos h118])] at hE2
       exact ⟨by rw [ME,hE2];rfl,M.fr⟩
      have h118p:=bd h118;refine V ?_;refine CZ X X (V ?_);refine fag ⟨i+1,X,(M.pk [3]),?_,?_,X⟩
      ·omega
      rw [hE2,AG hx,F9 (by rw [MB,if_pos h42,AM h118])]
     refine A1 (d:=47) X (λh47=>?_) (λh47=>?_)
     ·exact gyq X (yd X (ES X X X) (yb X (k47 M)))
     exact yo X (yo X (yb X (k47 M)))
    have h42p:=bd h42;refine V ?_;refine JJ X X (V ?_);refine AB X (λh51=>?_) (λh51=>?_)
    ·have h51p:=odt h51;refine V ?_;refine JJ X X (yb X (fvm M 3 [8,5,4,1] [(58,.bool ((decide (((D2 m.fls x.id).length:Int)=1))&&(decide (((BJ m.fls x.id).length:Int)=0))))] ?_ (λk55=>?_)))
     ·intro w10 M;refine V ?_;refine AB X (λh118=>?_) (λh118=>?_)
      ·have h118p:=bd h118;refine V ?_;refine FV M 2 X X X (V ?_);refine AZ X X X ?_;rw [AG hx,HD (v:=x.id) (by rw [MB,AM h42,if_pos h51,if_pos h118])] at hE2
       exact ⟨by rw [ME,hE2];rfl,M.fr⟩
      have h118p:=bd h118;refine V ?_;refine CZ X X (V ?_);refine fag ⟨i+1,X,(M.pk [3]),?_,?_,X⟩
      ·omega
      rw [hE2,AG hx,F9 (by rw [MB,AM h42,if_pos h51,AM h118])]
     refine A1 (d:=55) X (λh55=>?_) (λh55=>?_)
     ·exact gyq X (yd X (ES X X X) (yb X (k55 M)))
     exact yo X (yo X (yb X (k55 M)))
    have h51p:=odf h51;refine V ?_;refine JJ X X (V ?_);refine K5 [(1,pg g1),(4,AA (i:Int)),(5,pg g5),(6,AA ((D2 m.fls x.id).length:Int)),(7,AA ((BJ m.fls x.id).length:Int)),(8,.bool ((decide (((D2 m.fls x.id).length:Int)=1))&&(decide (((BJ m.fls x.id).length:Int)=1)))),(41,.int .u8 (x.kind.toNat:Int)),(59,.bool ((decide ((x.kind.toNat:Int)=5)) || (decide ((x.kind.toNat:Int)=6))))] (λw'=>Mem w AR [As.own w.heap.size 9 1 (.slice A32 (BJ m.fls x.id).length c32) ((BJ m.fls x.id).length) (AE BG (BJ m.fls x.id)),As.own w.heap.size 9 1 (.slice A27 (D2 m.fls x.id).length c27) ((D2 m.fls x.id).length) (AE BG (D2 m.fls x.id)),As.blk g5 106 (El.cells x),As.blk g1 48 (Md.cells m a)] w') ?_ (λk59=>?_)
    ·intro w11 M;refine qx_seq (AB X (λh59=>?_) (λh59=>?_))
     ·have h59p:=bd h59;refine V ?_;refine a0q X X (yb X (fvm M 3 [8,5,4,1] [(67,.bool ((decide (1≤((D2 m.fls x.id).length:Int)))&&(decide (1≤((BJ m.fls x.id).length:Int)))))] ?_ (λk64=>?_)))
      ·intro w12 M;refine V ?_;refine AB X (λh118=>?_) (λh118=>?_)
       ·have h118p:=bd h118;refine V ?_;refine FV M 2 X X X (V ?_);refine AZ X X X ?_;rw [AG hx,HD (v:=x.id) (by rw [MB,AM h42,AM h51,if_pos h59,if_pos h118])] at hE2
        exact ⟨by rw [ME,hE2];rfl,M.fr⟩
       have h118p:=bd h118;refine V ?_;refine CZ X X (V ?_);refine fag ⟨i+1,X,(M.pk [3]),?_,?_,X⟩
       ·omega
       rw [hE2,AG hx,F9 (by rw [MB,AM h42,AM h51,if_pos h59,AM h118])]
      refine A1 (d:=64) X (λh64=>?_) (λh64=>?_)
      ·exact gyq X (yd X (L2 X X X) (yb X (k64 M)))
      exact yo X (yo X (yb X (k64 M)))
     have h59p:=bd h59;refine V ?_;refine JJ X X (V ?_);refine AB X (λh68=>?_) (λh68=>?_)
     ·have h68p:=odt h68;refine V ?_;refine JJ X X (yb X (fvm M 3 [8,5,4,1] [(75,.bool ((decide (((D2 m.fls x.id).length:Int)=1))&&(decide (2≤((BJ m.fls x.id).length:Int)))))] ?_ (λk72=>?_)))
      ·intro w13 M;refine V ?_;refine EF M [5,4,1] (λze zF e wr mz=>∃(k:Nat) (b:Bool),e=(8,.bool b)::(9,AA (k:Int))::ze∧zF wr∧(k≤m.fls.length)∧(b=(((decide (((D2 m.fls x.id).length:Int)=1))&&(decide (2≤((BJ m.fls x.id).length:Int))))&&(m.fls.take k).all (NP m x)))∧mz=m.fls.length-k) ⟨0,((decide (((D2 m.fls x.id).length:Int)=1))&&(decide (2≤((BJ m.fls x.id).length:Int)))),X,M,Ae _,by simp,rfl⟩ ?_;rintro _ w14 _ ⟨k,b,rfl,M,hk,hb,rfl⟩;refine V ?_;refine FV M 3 X X X (UR X X (GB X X (V ?_)));refine AB X (λh80=>?_) (λh80=>?_)
       ·have h80p:=odt h80;obtain ⟨f,_,_,hf,hA_f⟩:=ex5 (i:=k) (M.rd hm.fls);have of:=ho.fls _ (Ac hf);have of1:=of.id;refine V ?_;refine CS CA gkr ?_;have M:=M.drew;refine sb X (bN M 3 X X X (sb X (sa X (AK k hA_f X X X (sl X) A0) (sb X (sd X X (BD Fl.len (M.rd hm.fls) hA_f hf 1 X) (sb X (bN M 2 X X X (sa X (GI X X X) (V ?_)))))))));refine AB X (λh91=>?_) (λh91=>?_)
        ·have h91p:=odt h91;refine sx_seq (MQ (λ(g10:Nat)=>[(1,pg g1),(4,AA (i:Int)),(5,pg g5),(8,.bool b),(9,AA (k:Int)),(10,pg g10)]) (λ(g10:Nat)=>λw'=>Mem w AR [As.blk g10 106 (El.cells ((AF m.els f.tg).getD zeroEl)),As.own w.heap.size 9 1 (.slice A32 (BJ m.fls x.id).length c32) ((BJ m.fls x.id).length) (AE BG (BJ m.fls x.id)),As.own w.heap.size 9 1 (.slice A27 (D2 m.fls x.id).length c27) ((D2 m.fls x.id).length) (AE BG (D2 m.fls x.id)),As.blk g5 106 (El.cells x),As.blk g1 48 (Md.cells m a)] w') ?_ (λkr22=>?_))
         ·intro g10 w15 M;refine V ?_;refine fvm M 4 [10,9,8,5,4,1] [(108,.bool (b&&(decide ((((AF m.els f.tg).getD zeroEl).kind.toNat:Int)=8))))] ?_ (λk104=>?_)
          ·intro w16 M;refine yb X (fvm M 7 [9,8,5,4,1] [(116,.bool ((b&&(decide ((((AF m.els f.tg).getD zeroEl).kind.toNat:Int)=8)))&&(decide (((D2 m.fls (((AF m.els f.tg).getD zeroEl).id)).length:Int)=1))))] ?_ (λk109=>?_))
           ·intro w17 M;refine V ?_;refine CZ X X (V ?_);refine fag ⟨k+1,((b&&(decide ((((AF m.els f.tg).getD zeroEl).kind.toNat:Int)=8)))&&(decide (((D2 m.fls (((AF m.els f.tg).getD zeroEl).id)).length:Int)=1))),X,(M.pk [1,2,3,4]),?_,?_,X⟩
            ·omega
            first
             | (rw [hb,AS hf,IH,NP,if_pos (by assumption)];simp only [Dv])
             | (rw [hb,AS hf,IH,NP,if_neg (UN (by assumption))];simp)
           refine A1 (d:=109) X (λh109=>?_) (λh109=>?_)
           ·refine yd X (AI (xs:=Md.cells m a) X X (M.rdBlk 4 X X) Al X AN) (gyq X (QK M 0 X X X (sxl_call (some 113) kw X X (AD X X call50) (aU m a _ _ ho (hm.fr0 M.fr)) ?_)));rintro _ w18 ⟨A113,c113,rfl,how18,hfw18⟩;refine cq ?_;have M:=M.pushOwn hfw18 (Ab _) how18;have hL113:=M.ownLen 0 X;exact yd X (I7 X X (sl X)) (yd X (ES X X X) (yb X (k109 (M.drop 1))))
           iterate 6 refine yo X ?_
           exact yb X (k109 M)
          refine A1 (d:=104) X (λh104=>?_) (λh104=>?_)
          ·exact gyq X (QK M 0 X X X (yd X (ES X X X) (yb X (k104 M))))
          exact yo X (yo X (yo X (yb X (k104 M))))
         refine J2 M 14 CA λM=>oa 0 14 X X M (λ_ M=>AI (xs:=Md.cells m a) X X (M.rdBlk 3 X X) Al X AN) (oc 1 14 X X M (ol 2 14 X X X M (λ_ M=>(M.cell 3 X X)) (oc 3 14 X X M (oa 4 14 X X M (λ_ M=>AK k hA_f X X X (sl X) A0) (oc 5 14 X X M (ol 6 14 X X X M (λ_ M=>(BD Fl.len (M.rd hm.fls) hA_f hf 2 X)) (G3 (rs:=[7,11]) gkr (by simp) λiz hiz=>?_)))))))
         simp only [Ak,Ax,or_false] at hiz
         rcases hiz with rfl|rfl
         ·refine HU (some 100) X kw X X (AD X X call52) (E7 m a _ _ ho.b (hm.fr0 M.fr)) ?_;rintro _ w19 ⟨rfl,hfw19⟩;refine ⟨_,X,λ_=>M.step hfw19,?_⟩;have M:=M.step hfw19;refine oc 8 14 X X M (oc 9 14 X X M (oc 10 14 X X M (B5 11 (some 10) gkr X kw X X (λρ hρ=>BN 106 X _ [str [],str [],.int .u8 0,str [],str [],str [],.int .u8 0,str [],str [],AA 0,AA 0] AP X) ?_)));rintro _ w20 ⟨g10,rfl,hg10,hq10,hb10,hfw20⟩;refine ⟨λ_=>M.step hfw20,?_⟩;have M:=M.push hfw20 _ hb10 (CU hg10 hq10)
          replace M:Mem w AR (As.blk g10 106 [str [],str [],.int .u8 0,str [],str [],str [],.int .u8 0,str [],str [],AA 0,AA 0]::_) w20:=M
          exact fop M 12 0 X X X AJ X (·.drop 1) λw21 M=>oc 13 14 X X (M.drop 1) (fdn (kr22 g10 _ _ M ⟨X,X,X,X,X,X,trivial⟩))
         refine E0 (some 10) X kw X X (λρ hρ=>BN 106 X _ [str [],str [],.int .u8 0,str [],str [],str [],.int .u8 0,str [],str [],AA 0,AA 0] AP X) ?_;rintro _ w22 ⟨g10,rfl,hg10,hq10,hb10,hfw22⟩;refine ⟨λ_=>M.step hfw22,?_⟩;have M:=M.push hfw22 _ hb10 (CU hg10 hq10)
         replace M:Mem w AR (As.blk g10 106 [str [],str [],.int .u8 0,str [],str [],str [],.int .u8 0,str [],str [],AA 0,AA 0]::_) w22:=M
         refine BC 7 (some 100) gkr X kw X X (AD X X call52) (E7 m a _ _ ho.b (hm.fr0 M.fr)) ?_;rintro _ w23 ⟨rfl,hfw23⟩;refine ⟨_,X,λ_=>(M.drop 1).step hfw23,?_⟩;have M:=M.step hfw23;exact oc 8 14 X X (M.drop 1) (oc 9 14 X X (M.drop 1) (oc 10 14 X X (M.drop 1) (fop M 12 0 X X X AJ X (·.drop 1) λw24 M=>oc 13 14 X X (M.drop 1) (fdn (kr22 g10 _ _ M ⟨X,X,X,X,X,X,trivial⟩)))))
        have h91p:=odf h91;refine V ?_;refine CZ X X (V ?_);refine fag ⟨k+1,b,X,M,?_,?_,X⟩
        ·omega
        first
         | (rw [hb,AS hf,IH,NP,if_pos (by assumption)];simp only [Dv])
         | (rw [hb,AS hf,IH,NP,if_neg (UN (by assumption))];simp)
       have h80p:=odf h80;refine V ?_;have hkE:k=m.fls.length:=by omega
       rw [hkE,Ba] at hb
       subst hb;refine V ?_;refine AB X (λh118=>?_) (λh118=>?_)
       ·refine V ?_;refine FV M 2 X X X (V ?_);refine AZ X X X ?_;rw [AG hx,HD (v:=x.id) (by rw [MB,AM h42,AM h51,AM h59,if_pos h68,if_pos h118])] at hE2
        exact ⟨by rw [ME,hE2];rfl,M.fr⟩
       have h118p:=BO h118;refine V ?_;refine CZ X X (V ?_);refine fag ⟨i+1,X,(M.pk [3]),?_,?_,X⟩
       ·omega
       rw [hE2,AG hx,F9 (by rw [MB,AM h42,AM h51,AM h59,if_pos h68,AM h118])]
      refine A1 (d:=72) X (λh72=>?_) (λh72=>?_)
      ·exact gyq X (yd X (L2 X X X) (yb X (k72 M)))
      exact yo X (yo X (yb X (k72 M)))
     have h68p:=odf h68;refine V ?_;refine AB X (λh118=>?_) (λh118=>?_)
     ·have h118p:=bd h118;refine V ?_;refine FV M 2 X X X (V ?_);refine AZ X X X ?_;rw [AG hx,HD (v:=x.id) (by rw [MB,AM h42,AM h51,AM h59,AM h68,if_pos h118])] at hE2
      exact ⟨by rw [ME,hE2];rfl,M.fr⟩
     have h118p:=bd h118;refine V ?_;refine CZ X X (V ?_);refine fag ⟨i+1,X,(M.pk [3]),?_,?_,X⟩
     ·omega
     rw [hE2,AG hx,F9 (by rw [MB,AM h42,AM h51,AM h59,AM h68,AM h118])]
    refine AB X (λh59=>?_) (λh59=>?_)
    ·exact sx_skip (k59 _ _ M ⟨X,X,X,X,X,X,X,(by rw [h59];rfl),trivial⟩)
    exact sx_region (JJ X X (yb X (sxl_nil (k59 _ _ M ⟨X,X,X,X,X,X,X,(by rw [h59];rfl),trivial⟩))))
   refine AB X (λh42=>?_) (λh42=>?_)
   ·exact sx_skip (k42 _ _ M ⟨X,X,X,X,X,X,X,(by rw [h42];rfl),trivial⟩)
   exact sx_region (JJ X X (yb X (sxl_nil (k42 _ _ M ⟨X,X,X,X,X,X,X,(by rw [h42];rfl),trivial⟩))))
  refine A1 (d:=36) X (λh36=>?_) (λh36=>?_)
  ·exact gyq X (yd X (ES X X X) (yb X (k36 M)))
  exact yo X (yo X (yb X (k36 M)))
 have h16p:=odf h16;refine V ?_;have hiE:i=m.els.length:=by omega
 rw [hiE,Am] at hE2
 have hE2:=hE2.trans (show _=none from rfl);refine V ?_;exact AZ X X X ⟨by rw [ME,hE2];rfl,M.fr⟩
def SE (m:Md) (x:El):Option Kz:=(if (decide ((x.kind.toNat:Int)=(10:Int)))=true then (if (!(scopeR m.els x.id))=true then (some x.id) else none) else none)
def OF (m:Md):Option Kz:=if (!scopeR m.els [])=true then some [] else ff (SE m) m.els
theorem nD (m:Md) (a:MdA) (w:Kw) (ho:MdOk m) (hm:MdIn w m a) :
 Calls prog 95 #[.agg (Md.cells m a).toArray] w (BS w (.tuple #[str ((OF m).getD []),.bool (OF m).isNone])):=by
 have hoi:=ho.id;have hon:=ho.nm;have hnv:=ho.nvars;have hne:=ho.nels;have hnf:=ho.nfls;refine BR func95 ntmps95 X λM=>W ?_
 refine CO M X X λg1 w1 hg1 M=>W ?_
 refine CH M 0 X X Al AN X (CW M 6 X X call161 (Z7 m a _ _ ho (hm.fr0 M.fr)) λw2 M=>W ?_);refine AB X (λh7=>?_) (λh7=>?_)
 ·refine W ?_;exact AZ X X X ⟨by rw [OF,if_pos h7];rfl,M.fr⟩
 have h7p:=BO h7;refine W ?_;refine EF M [1] (λze zF e wr mz=>∃(i:Nat),e=(4,AA (i:Int))::ze∧zF wr∧(i≤m.els.length)∧(ff (SE m) m.els=ff (SE m) (m.els.drop i))∧mz=m.els.length-i) ⟨0,X,M,Ae _,X,X⟩ ?_;rintro _ w3 _ ⟨i,rfl,M,hi,hE4,rfl⟩;refine W ?_;refine AB X (λh12=>?_) (λh12=>?_)
 ·have h12p:=odt h12;obtain ⟨x,_,_,hx,hA_x⟩:=ex5 (i:=i) (M.rd hm.els);have ox:=ho.els _ (Ac hx);have ox1:=ox.id;have ox2:=ox.nm;have ox3:=ox.ref;have ox4:=ox.key;refine W ?_;refine EB 15 CA gkr ?_;have M:=M.drew;refine W ?_;refine sa X (AK i hA_x X X X (sl X) A0) (sb X (sd X X (BD El.len (M.rd hm.els) hA_x hx 2 X) (W ?_)));refine C1 (d:=22) X (λh22=>?_) (λh22=>?_)
  ·have h22p:=odt h22;refine gsg X (AI (xs:=Md.cells m a) X X (M.rdBlk 0 X X) Al X AN) (W ?_);refine gsg X (AK i hA_x X X X (sl X) A0) (gsg X (yp X) (gsg X (B2 X X (sc X) (BD El.len (M.rd hm.els) hA_x hx 0 X)) (D6 (sxl_call (some 30) kw X X (AD X X call161) (Z7 m a _ _ ho (hm.fr0 M.fr)) ?_))));rintro _ w4 ⟨rfl,hfw4⟩;refine cq ?_;have M:=M.step hfw4;refine W ?_;refine AB X (λh32=>?_) (λh32=>?_)
   ·have h32p:=CJ h32;refine W ?_;refine ya X (AK i hA_x X X X (sl X) A0) (yb X (yl X X (BD El.len (M.rd hm.els) hA_x hx 0 X) (W ?_)));refine AZ X X X ?_;rw [AG hx,HD (v:=x.id) (by rw [SE,if_pos h22,if_pos h32])] at hE4
    exact ⟨by rw [OF,AM h7,hE4];rfl,M.fr⟩
   have h32p:=BO h32;refine W ?_;refine fag ⟨i+1,X,M,?_,?_,X⟩
   ·omega
   rw [hE4,AG hx,F9 (by rw [SE,if_pos h22,AM h32])]
  have h22p:=odf h22;refine W ?_;refine fag ⟨i+1,X,M,?_,?_,X⟩
  ·omega
  rw [hE4,AG hx,F9 (by rw [SE,AM h22])]
 have h12p:=odf h12;refine W ?_;have hiE:i=m.els.length:=by omega
 rw [hiE,Am] at hE4
 have hE4:=hE4.trans (show _=none from rfl);refine W ?_;exact AZ X X X ⟨by rw [OF,AM h7,hE4];rfl,M.fr⟩
def ZU (m:Md) (x:El):Option Kz:=(if (!((!decide ((x.ev.toNat:Int)=(2:Int))) || m.vars.any (λy=>decide (y.name=x.key)&&decide ((y.v.kind.toNat:Int)=3))))=true then (some x.id) else none)
def P2 (m:Md):Option Kz:=ff (ZU m) m.els
theorem iL (m:Md) (a:MdA) (w:Kw) (ho:MdOk m) (hm:MdIn w m a) :
 Calls prog 98 #[.agg (Md.cells m a).toArray] w (BS w (.tuple #[str ((P2 m).getD []),.bool (P2 m).isNone])):=by
 have hoi:=ho.id;have hon:=ho.nm;have hnv:=ho.nvars;have hne:=ho.nels;have hnf:=ho.nfls;refine BR func98 ntmps98 X λM=>W ?_
 refine CO M X X λg1 w1 hg1 M=>W ?_
 refine EF M [1] (λze zF e wr mz=>∃(i:Nat),e=(4,AA (i:Int))::ze∧zF wr∧(i≤m.els.length)∧(ff (ZU m) m.els=ff (ZU m) (m.els.drop i))∧mz=m.els.length-i) ⟨0,X,M,Ae _,X,X⟩ ?_;rintro _ w2 _ ⟨i,rfl,M,hi,hE2,rfl⟩;refine W ?_;refine AB X (λh12=>?_) (λh12=>?_)
 ·have h12p:=odt h12;obtain ⟨x,_,_,hx,hA_x⟩:=ex5 (i:=i) (M.rd hm.els);have ox:=ho.els _ (Ac hx);have ox1:=ox.id;have ox2:=ox.nm;have ox3:=ox.ref;have ox4:=ox.key;refine W ?_;refine ya X (AK i hA_x X X X (sl X) A0) (ya X (AI X X (BM El.len (M.rd hm.els) hA_x hx) Bf X AJ) (CI M X AP λg5 w3 hg5 M=>BY M 0 X X AJ X λw4 M=>W ?_));refine EF M [5,4,1] (λze zF e wr mz=>∃(k:Nat) (b:Bool),e=(6,.bool b)::(7,AA (k:Int))::ze∧zF wr∧(k≤m.vars.length)∧(b=((!decide ((x.ev.toNat:Int)=2)) || (m.vars.take k).any (λy=>decide (y.name=x.key)&&decide ((y.v.kind.toNat:Int)=3))))∧mz=m.vars.length-k) ⟨0,(!decide ((x.ev.toNat:Int)=2)),X,M,Ae _,by simp,rfl⟩ ?_;rintro _ w5 _ ⟨k,b,rfl,M,hk,hb,rfl⟩;refine W ?_;refine AB X (λh27=>?_) (λh27=>?_)
  ·have h27p:=odt h27;obtain ⟨y,_,_,hy,hA_y⟩:=ex5 (i:=k) (M.rd hm.vars);have oy1:=ho.vars.name _ (Ac hy);have oy2:=ho.vars.text _ (Ac hy);refine W ?_;refine CS CA gkr ?_;have M:=M.drew;refine W ?_;refine fvs 20 [7,6,5,4,1] [(51,.bool (b || ((decide (y.name=x.key))&&(decide ((y.v.kind.toNat:Int)=3)))))] ?_ (λk31=>?_)
   ·refine W ?_;refine fag ⟨k+1,(b || ((decide (y.name=x.key))&&(decide ((y.v.kind.toNat:Int)=3)))),X,M,?_,?_,X⟩
    ·omega
    rw [hb,AS hy,SG];simp only [Bool.or_assoc]
   refine C1 (d:=31) X (λh31=>?_) (λh31=>?_)
   ·iterate 10 refine EJ X X X X X X ?_
    iterate 8 refine R9 X X X X X ?_
    exact EJ X X X X X X (sb X (k31 _ ⟨X,X,X,X,X,(by rw [h31];rfl),trivial⟩))
   refine W ?_;refine gsg X (AK k hA_y X X X (sl X) A0) (gsg X (yp X) (gsg X (B2 X X (sc X) (BD Bd.len (M.rd hm.vars) hA_y hy 0 X)) (W ?_)));refine fvs 9 [31,7,6,5,4,1] [(50,.bool ((decide (y.name=x.key))&&(decide ((y.v.kind.toNat:Int)=3))))] ?_ (λk41=>?_)
   ·exact sb X (k31 _ ⟨X,X,X,X,X,(by rw [h31];rfl),trivial⟩)
   refine C1 (d:=41) X (λh41=>?_) (λh41=>?_)
   ·refine W ?_;refine gsg X (AK k hA_y X X X (sl X) A0) (T2 ?_);refine gsg X (B2 X X (sc X) (BD Bd.len (M.rd hm.vars) hA_y hy 1 X)) (T2 ?_);exact k41 _ ⟨X,X,X,X,X,X,(by rw [h41];rfl),trivial⟩
   refine T9 ?_;exact k41 _ ⟨X,X,X,X,X,X,(by rw [h41];rfl),trivial⟩
  have h27p:=odf h27;refine W ?_;have hkE:k=m.vars.length:=by omega
  rw [hkE,Ba] at hb
  subst hb;refine W ?_;refine AB X (λh53=>?_) (λh53=>?_)
  ·refine W ?_;refine AZ X X X ?_;rw [AG hx,HD (v:=x.id) (by rw [ZU,if_pos h53])] at hE2
   exact ⟨by rw [P2,hE2];rfl,M.fr⟩
  have h53p:=BO h53;refine W ?_;refine fag ⟨i+1,X,(M.pk [1]),?_,?_,X⟩
  ·omega
  rw [hE2,AG hx,F9 (by rw [ZU,AM h53])]
 have h12p:=odf h12;refine W ?_;have hiE:i=m.els.length:=by omega
 rw [hiE,Am] at hE2
 have hE2:=hE2.trans (show _=none from rfl);refine W ?_;exact AZ X X X ⟨by rw [P2,hE2];rfl,M.fr⟩
def ZW (m:Md) (x:El):Option Kz:=(if ((!(L7 m.els 4 x.inn)) || (!(TD x)))=true then (some x.id) else none)
def Z6 (m:Md):Option Kz:=ff (ZW m) m.els
theorem rN (m:Md) (a:MdA) (w:Kw) (ho:MdOk m) (hm:MdIn w m a) :
 Calls prog 92 #[.agg (Md.cells m a).toArray] w (BS w (.tuple #[str ((Z6 m).getD []),.bool (Z6 m).isNone])):=by
 have hoi:=ho.id;have hon:=ho.nm;have hnv:=ho.nvars;have hne:=ho.nels;have hnf:=ho.nfls;refine BR func92 ntmps92 X λM=>V ?_
 refine CO M X X λg1 w1 hg1 M=>V ?_
 refine EF M [1] (λze zF e wr mz=>∃(i:Nat),e=(4,AA (i:Int))::ze∧zF wr∧(i≤m.els.length)∧(ff (ZW m) m.els=ff (ZW m) (m.els.drop i))∧mz=m.els.length-i) ⟨0,X,M,Ae _,X,X⟩ ?_;rintro _ w2 _ ⟨i,rfl,M,hi,hE2,rfl⟩;refine V ?_;refine FV M 0 X X X (UR X X (GB X X (V ?_)));refine AB X (λh15=>?_) (λh15=>?_)
 ·have h15p:=odt h15;obtain ⟨x,_,_,hx,hA_x⟩:=ex5 (i:=i) (M.rd hm.els);have ox:=ho.els _ (Ac hx);have ox1:=ox.id;have ox2:=ox.nm;have ox3:=ox.ref;have ox4:=ox.key;refine V ?_;refine FV M 0 X X X (yb X (ya X (AK i hA_x X X X (sl X) A0) (ya X (AI X X (BM El.len (M.rd hm.els) hA_x hx) Bf X AJ) (CI M X AP λg5 w3 hg5 M=>BY M 0 X X AJ X λw4 M=>V ?_))));refine CS CA gkr ?_;have M:=M.drew;refine sb X (bN M 0 X X X (V ?_));refine EF M [5,4,1] (λze zF e wr mz=>∃(d:Nat) (q:Kz) (b:Bool),e=(6,AA (d:Int))::(7,str q)::(8,.bool b)::ze∧zF wr∧(d≤5)∧(d=5→b=false)∧(L7 m.els 4 x.inn=(b&&L7 m.els (4-d) q))∧mz=5-d) ⟨0,x.inn,true,X,M,Ae _,by omega,rfl,rfl⟩ ?_;rintro _ w5 _ ⟨d,q,b,rfl,M,hd,hd5,hs,rfl⟩;refine V ?_;refine ya X (I1 X X X) (yb X (fvm M 2 [8,7,6,5,4,1] [(29,.bool ((!decide (q=[]))&&b))] ?_ (λk27=>?_)))
  ·intro w6 M;refine V ?_;refine AB X (λh29=>?_) (λh29=>?_)
   ·have h29p:=bd h29;refine V ?_;refine CH M 1 X X Al AN X (yb X (CW M 33 X X call52 (E7 m a _ _ ho.b (hm.fr0 M.fr)) λw7 M=>V ?_));refine CI M X AP λg9 w8 hg9 M=>BY M 0 X X AJ X λw9 M=>V ?_
    refine CZ X X (V ?_);refine fvm M 4 [9,8,7,6,5,4,1] [(43,.bool ((AF m.els q).isSome&&(decide ((((AF m.els q).getD zeroEl).kind.toNat:Int)=10))))] ?_ (λk39=>?_)
    ·intro w10 M;refine yb X (fvm M 3 [9,8,7,6,5,4,1] [(47,.bool (((AF m.els q).isSome&&(decide ((((AF m.els q).getD zeroEl).kind.toNat:Int)=10)))&&(decide (((d+1:Nat):Int)≤4))))] ?_ (λk44=>?_))
     ·intro w11 M;refine V ?_;refine FV M 0 X X X (V ?_);have hbt:=h29p.2;have hd6:d<5:=Nat.lt_of_le_of_ne hd (λh=>by rw [hd5 h] at hbt;cases hbt);refine fag ⟨d+1,((AF m.els q).getD zeroEl).inn,(((AF m.els q).isSome&&(decide ((((AF m.els q).getD zeroEl).kind.toNat:Int)=10)))&&(decide (((d+1:Nat):Int)≤4))),X,(M.pk [1,2]),?_,?_,?_,X⟩
      ·omega
      ·intro h;simp [show ¬((d:Int)+1≤4) by omega]
      rw [hs,hbt,mP m.els h29p.1 A0];rfl
     refine A1 (d:=44) X (λh44=>?_) (λh44=>?_)
     ·exact gyq X (yd X (N7 X X X) (yb X (k44 M)))
     exact yo X (yo X (yb X (k44 M)))
    refine A1 (d:=39) X (λh39=>?_) (λh39=>?_)
    ·exact gyq X (QK M 0 X X X (yd X (ES X X X) (yb X (k39 M))))
    exact yo X (yo X (yo X (yb X (k39 M))))
   have h29p:=bd h29;refine V ?_;have hbE:b=L7 m.els 4 x.inn:=by rw [hs];exact (qS m.els h29p).symm
   subst hbE;refine V ?_;refine fvm M 4 [5,4,1] [(56,.bool ((!(L7 m.els 4 x.inn)) || (!(TD x))))] ?_ (λk52=>?_)
   ·intro w12 M;refine V ?_;refine AB X (λh56=>?_) (λh56=>?_)
    ·have h56p:=bd h56;refine V ?_;refine FV M 0 X X X (V ?_);refine AZ X X X ?_;rw [AG hx,HD (v:=x.id) (by rw [ZW,if_pos h56])] at hE2
     exact ⟨by rw [Z6,hE2];rfl,M.fr⟩
    have h56p:=bd h56;refine V ?_;refine CZ X X (V ?_);refine fag ⟨i+1,X,(M.pk [1]),?_,?_,X⟩
    ·omega
    rw [hE2,AG hx,F9 (by rw [ZW,AM h56])]
   refine A1 (d:=52) X (λh52=>?_) (λh52=>?_)
   ·exact yo X (yo X (yo X (yb X (k52 M))))
   refine yd X (AI (xs:=El.cells x) X X (M.rdBlk 0 X X) Bf X AJ) (sxl_call (some 54) kw X X (AD X X call160) (xX _ _ (by assumption)) ?_);rintro _ w13 ⟨rfl,hfw13⟩;refine cq ?_;have M:=M.step hfw13;exact gyq X (yb X (k52 M))
  refine A1 (d:=27) X (λh27=>?_) (λh27=>?_)
  ·exact gyq X (yb X (k27 M))
  exact yo X (yb X (k27 M))
 have h15p:=odf h15;refine V ?_;have hiE:i=m.els.length:=by omega
 rw [hiE,Am] at hE2
 have hE2:=hE2.trans (show _=none from rfl);refine V ?_;exact AZ X X X ⟨by rw [Z6,hE2];rfl,M.fr⟩
def Y0 (pre:List Bd) (x:Bd):Option Kz:=(if (!(((B6 x.name)&&(decide ((chk x.v)=(0:Int))))&&(pre).all (λy => !decide (y.name=x.name))))=true then (some x.name) else none)
def Y2 (m:Md) (pre:List El) (x:El):Option Kz:=(if (!((((B6 x.id)&&(MP x.nm))&&(!decide (x.id=m.id)))&&(pre).all (λy => !decide (y.id=x.id))))=true then (some x.id) else none)
def Y1 (m:Md) (pre:List Fl) (x:Fl):Option Kz:=(if (!((((B6 x.id)&&(!decide (x.id=m.id)))&&(!(AF m.els x.id).isSome))&&(pre).all (λy => !decide (y.id=x.id))))=true then (some x.id) else none)
def NZ (m:Md):Option Kz:=if (((((!(B6 m.id)) || (!(MP m.nm))) || (decide ((64:Int)<((m.els.length:Nat):Int)))) || (decide ((128:Int)<((m.fls.length:Nat):Int)))) || (decide ((16:Int)<((m.vars.length:Nat):Int))))=true then some [] else match ffp Y0 [] m.vars with
 | some s=>some s
 | none=>match ffp (Y2 m) [] m.els with
  | some s=>some s
  | none=>ffp (Y1 m) [] m.fls
theorem rQ (m:Md) (a:MdA) (w:Kw) (ho:MdB m) (hm:MdIn w m a) :
 Calls prog 91 #[.agg (Md.cells m a).toArray] w (BS w (.tuple #[str ((NZ m).getD []),.bool (NZ m).isNone])):=by
 have hoi:=ho.id;have hon:=ho.nm;have hnv:=ho.nvars;have hne:=ho.nels;have hnf:=ho.nfls;refine BR func91 ntmps91 X λM=>W ?_
 refine CO M X X λg1 w1 hg1 M=>W ?_
 refine JB kw X X (AD X X call34) (G7 _ _ A0) (W ?_);refine fvm M 5 [1] [(26,.bool ((!(B6 m.id)) || (!(MP m.nm))))] ?_ (λk21=>?_)
 ·intro w2 M;refine yb X (fvm M 5 [1] [(32,.bool (((!(B6 m.id)) || (!(MP m.nm))) || (decide (64<(m.els.length:Int)))))] ?_ (λk27=>?_))
  ·intro w3 M;refine yb X (fvm M 5 [1] [(38,.bool ((((!(B6 m.id)) || (!(MP m.nm))) || (decide (64<(m.els.length:Int)))) || (decide (128<(m.fls.length:Int)))))] ?_ (λk33=>?_))
   ·intro w4 M;refine yb X (fvm M 5 [1] [(44,.bool (((((!(B6 m.id)) || (!(MP m.nm))) || (decide (64<(m.els.length:Int)))) || (decide (128<(m.fls.length:Int)))) || (decide (16<(m.vars.length:Int)))))] ?_ (λk39=>?_))
    ·intro w5 M;refine W ?_;refine AB X (λh44=>?_) (λh44=>?_)
     ·have h44p:=bd h44;refine W ?_;exact AZ X X X ⟨by rw [NZ,if_pos h44];rfl,M.fr⟩
     have h44p:=bd h44;refine W ?_;refine EF M [1] (λze zF e wr mz=>∃(i:Nat),e=(4,AA (i:Int))::ze∧zF wr∧(i≤m.vars.length)∧(ffp (Y0 ) [] m.vars=ffp (Y0 ) (m.vars.take i) (m.vars.drop i))∧mz=m.vars.length-i) ⟨0,X,M,Ae _,X,X⟩ ?_;rintro _ w6 _ ⟨i,rfl,M,hi,hE4,rfl⟩;refine W ?_;refine AB X (λh49=>?_) (λh49=>?_)
     ·have h49p:=odt h49;obtain ⟨x,hx⟩:=EP (l:=m.vars) (i:=i) A0;obtain ⟨b_x,o_x,hA_x⟩:=E3 (k:=5) A0 (M.rd hm.vars) hx;have ox1:=ho.vars.name _ (Ac hx);have ox2:=ho.vars.text _ (Ac hx);refine W ?_;refine ya X (AK i hA_x X X X (sl X) A0) (yb X (yl X X (BD Bd.len (M.rd hm.vars) hA_x hx 0 X) (JB kw X X (AD X X call34) (G7 _ _ A0) (yb X (fvm M 9 [4,1] [(68,.bool ((B6 x.name)&&(decide ((chk x.v)=(0:Int)))))] ?_ (λk59=>?_))))))
      ·intro w7 M;refine W ?_;refine EF M [4,1] (λze zF e wr mz=>∃(k:Nat) (b:Bool),e=(5,.bool b)::(6,AA (k:Int))::ze∧zF wr∧(k≤i)∧(b=(((B6 x.name)&&(decide ((chk x.v)=(0:Int))))&&(m.vars.take k).all (λy => !decide (y.name=x.name))))∧mz=i-k) ⟨0,((B6 x.name)&&(decide ((chk x.v)=(0:Int)))),X,M,Ae _,by simp,rfl⟩ ?_;rintro _ w8 _ ⟨k,b,rfl,M,hk,hb,rfl⟩;refine W ?_;refine AB X (λh71=>?_) (λh71=>?_)
       ·have h71p:=odt h71;obtain ⟨x2,hx2⟩:=EP (l:=m.vars) (i:=k) A0;obtain ⟨b_x2,o_x2,hA_x2⟩:=E3 (k:=5) A0 (M.rd hm.vars) hx2;have ox21:=ho.vars.name _ (Ac hx2);have ox22:=ho.vars.text _ (Ac hx2);refine W ?_;refine CS CA gkr ?_;have M:=M.drew;refine W ?_;refine fvs 14 [6,5,4,1] [(89,.bool (b&&(!decide (x2.name=x.name))))] ?_ (λk75=>?_)
        ·refine W ?_;refine fag ⟨k+1,(b&&(!decide (x2.name=x.name))),X,M,?_,?_,X⟩
         ·omega
         rw [hb,AS hx2,IH];simp only [Dv]
        refine C1 (d:=75) X (λh75=>?_) (λh75=>?_)
        ·refine W ?_;refine gsg X (AK k hA_x2 X X X (sl X) A0) (gsg X (yp X) (gsg X (B2 X X (sc X) (BD Bd.len (M.rd hm.vars) hA_x2 hx2 0 X)) (W ?_)));refine gsg X (AK i hA_x X X X (sl X) A0) (gsg X (yp X) (gsg X (B2 X X (sc X) (BD Bd.len (M.rd hm.vars) hA_x hx 0 X)) (T2 ?_)));exact k75 _ ⟨X,X,X,X,(by rw [h75];rfl),trivial⟩
        refine T14 ?_;exact k75 _ ⟨X,X,X,X,(by rw [h75];rfl),trivial⟩
       have h71p:=odf h71;refine W ?_;have hkE:k=i:=by omega
       rw [hkE] at hb
       subst hb;refine W ?_;refine AB X (λh91=>?_) (λh91=>?_)
       ·have h91p:=CJ h91;refine W ?_;refine ya X (AK i hA_x X X X (sl X) A0) (yb X (yl X X (BD Bd.len (M.rd hm.vars) hA_x hx 0 X) (W ?_)));refine AZ X X X ?_;rw [AG hx,XG (v:=x.name) (by rw [Y0,if_pos h91])] at hE4
        exact ⟨by rw [NZ,AM h44,hE4];rfl,M.fr⟩
       have h91p:=BO h91;refine W ?_;refine fag ⟨i+1,X,M,?_,?_,X⟩
       ·omega
       rw [hE4,AG hx,AS hx,XH (by rw [Y0,AM h91])]
      refine A1 (d:=59) X (λh59=>?_) (λh59=>?_)
      ·refine W ?_;refine yd X (AK i hA_x X X X (sl X) A0) (gyq X (yd X (AI (xs:=Vl.cells x.v) X X (K6 Bd.len (M.rd hm.vars) hA_x hx 1 4 X X) Br X BQ) (sxl_call (some 66) kw X X (AD X X call35) (P3 _ _ A0) ?_)));rintro _ w9 ⟨rfl,hfw9⟩;refine cq ?_;have M:=M.step hfw9;refine T2 ?_;exact k59 M
      refine T9 ?_;exact k59 M
     have h49p:=odf h49;refine W ?_;have hiE:i=m.vars.length:=by omega
     rw [hiE,Am] at hE4
     have hE4:=hE4.trans (show _=none from rfl);refine W ?_;refine EF M [1] (λze zF e wr mz=>∃(i:Nat),e=(7,AA (i:Int))::ze∧zF wr∧(i≤m.els.length)∧(ffp (Y2 m) [] m.els=ffp (Y2 m) (m.els.take i) (m.els.drop i))∧mz=m.els.length-i) ⟨0,X,M,Ae _,X,X⟩ ?_;rintro _ w10 _ ⟨i,rfl,M,hi,hE14,rfl⟩;refine W ?_;refine AB X (λh102=>?_) (λh102=>?_)
     ·have h102p:=odt h102;obtain ⟨x,hx⟩:=EP (l:=m.els) (i:=i) A0;obtain ⟨b_x,o_x,hA_x⟩:=E3 (k:=11) A0 (M.rd hm.els) hx;have ox:=ho.els _ (Ac hx);have ox1:=ox.id;have ox2:=ox.nm;have ox3:=ox.ref;have ox4:=ox.key;refine W ?_;refine ya X (AK i hA_x X X X (sl X) A0) (ya X (AI X X (BM El.len (M.rd hm.els) hA_x hx) Bf X AJ) (CI M X AP λg8 w11 hg8 M=>BY M 0 X X AJ X λw12 M=>W ?_));refine JB kw X X (AD X X call34) (G7 _ _ A0) (yb X (fvm M 4 [8,7,1] [(117,.bool ((B6 x.id)&&(MP x.nm)))] ?_ (λk113=>?_)))
      ·intro w13 M;refine yb X (fvm M 6 [8,7,1] [(124,.bool (((B6 x.id)&&(MP x.nm))&&(!decide (x.id=m.id))))] ?_ (λk118=>?_))
       ·intro w14 M;refine W ?_;refine EF M [8,7,1] (λze zF e wr mz=>∃(k:Nat) (b:Bool),e=(9,.bool b)::(10,AA (k:Int))::ze∧zF wr∧(k≤i)∧(b=((((B6 x.id)&&(MP x.nm))&&(!decide (x.id=m.id)))&&(m.els.take k).all (λy => !decide (y.id=x.id))))∧mz=i-k) ⟨0,(((B6 x.id)&&(MP x.nm))&&(!decide (x.id=m.id))),X,M,Ae _,by simp,rfl⟩ ?_;rintro _ w15 _ ⟨k,b,rfl,M,hk,hb,rfl⟩;refine W ?_;refine AB X (λh127=>?_) (λh127=>?_)
        ·have h127p:=odt h127;obtain ⟨x2,hx2⟩:=EP (l:=m.els) (i:=k) A0;obtain ⟨b_x2,o_x2,hA_x2⟩:=E3 (k:=11) A0 (M.rd hm.els) hx2;have ox2:=ho.els _ (Ac hx2);have ox21:=ox2.id;have ox22:=ox2.nm;have ox23:=ox2.ref;have ox24:=ox2.key;refine W ?_;refine CS CA gkr ?_;have M:=M.drew;refine W ?_;refine fvs 10 [10,9,8,7,1] [(141,.bool (b&&(!decide (x2.id=x.id))))] ?_ (λk131=>?_)
         ·refine W ?_;refine fag ⟨k+1,(b&&(!decide (x2.id=x.id))),X,M,?_,?_,X⟩
          ·omega
          rw [hb,AS hx2,IH];simp only [Dv]
         refine C1 (d:=131) X (λh131=>?_) (λh131=>?_)
         ·refine W ?_;refine gsg X (AK k hA_x2 X X X (sl X) A0) (gsg X (yp X) (gsg X (B2 X X (sc X) (BD El.len (M.rd hm.els) hA_x2 hx2 0 X)) (T4 ?_)));exact k131 _ ⟨X,X,X,X,X,(by rw [h131];rfl),trivial⟩
         refine T10 ?_;exact k131 _ ⟨X,X,X,X,X,(by rw [h131];rfl),trivial⟩
        have h127p:=odf h127;refine W ?_;have hkE:k=i:=by omega
        rw [hkE] at hb
        subst hb;refine W ?_;refine AB X (λh143=>?_) (λh143=>?_)
        ·refine W ?_;refine AZ X X X ?_;rw [AG hx,XG (v:=x.id) (by rw [Y2,if_pos h143])] at hE14
         exact ⟨by rw [NZ,AM h44,hE4,hE14];rfl,M.fr⟩
        have h143p:=BO h143;refine W ?_;refine fag ⟨i+1,X,(M.pk [1]),?_,?_,X⟩
        ·omega
        rw [hE14,AG hx,AS hx,XH (by rw [Y2,AM h143])]
       refine A1 (d:=118) X (λh118=>?_) (λh118=>?_)
       ·refine T6 ?_;exact k118 M
       refine T6 ?_;exact k118 M
      refine A1 (d:=113) X (λh113=>?_) (λh113=>?_)
      ·refine W ?_;refine sxl_call (some 116) kw X X (AD X X call159) (dO _ _ A0) ?_;rintro _ w16 ⟨rfl,hfw16⟩;refine cq ?_;have M:=M.step hfw16;exact yb X (k113 M)
      refine T4 ?_;exact k113 M
     have h102p:=odf h102;refine W ?_;have hiE:i=m.els.length:=by omega
     rw [hiE,Am] at hE14
     have hE14:=hE14.trans (show _=none from rfl);refine W ?_;refine EF M [1] (λze zF e wr mz=>∃(i:Nat),e=(11,AA (i:Int))::ze∧zF wr∧(i≤m.fls.length)∧(ffp (Y1 m) [] m.fls=ffp (Y1 m) (m.fls.take i) (m.fls.drop i))∧mz=m.fls.length-i) ⟨0,X,M,Ae _,X,X⟩ ?_;rintro _ w17 _ ⟨i,rfl,M,hi,hE25,rfl⟩;refine W ?_;refine AB X (λh150=>?_) (λh150=>?_)
     ·have h150p:=odt h150;obtain ⟨x,_,_,hx,hA_x⟩:=ex5 (i:=i) (M.rd hm.fls);have ox:=ho.fls _ (Ac hx);have ox1:=ox.id;refine W ?_;refine ya X (AK i hA_x X X X (sl X) A0) (yb X (yl X X (BD Fl.len (M.rd hm.fls) hA_x hx 0 X) (W ?_)));refine CH M 0 X X Al AN X (yb X (CW M 162 X X call52 (E7 m a _ _ ho.b (hm.fr0 M.fr)) λw18 M=>W ?_));refine CI M X AP λg13 w19 hg13 M=>BY M 0 X X AJ X λw20 M=>W ?_
      refine JB kw X X (AD X X call34) (G7 _ _ A0) (yb X (fvm M 5 [14,12,11,1] [(172,.bool ((B6 x.id)&&(!decide (x.id=m.id))))] ?_ (λk167=>?_)))
      ·intro w21 M;refine yb X (fvm M 3 [12,11,1] [(176,.bool (((B6 x.id)&&(!decide (x.id=m.id)))&&(!(AF m.els x.id).isSome)))] ?_ (λk173=>?_))
       ·intro w22 M;refine W ?_;refine EF M [12,11,1] (λze zF e wr mz=>∃(k:Nat) (b:Bool),e=(15,.bool b)::(16,AA (k:Int))::ze∧zF wr∧(k≤i)∧(b=((((B6 x.id)&&(!decide (x.id=m.id)))&&(!(AF m.els x.id).isSome))&&(m.fls.take k).all (λy => !decide (y.id=x.id))))∧mz=i-k) ⟨0,(((B6 x.id)&&(!decide (x.id=m.id)))&&(!(AF m.els x.id).isSome)),X,M,Ae _,by simp,rfl⟩ ?_;rintro _ w23 _ ⟨k,b,rfl,M,hk,hb,rfl⟩;refine W ?_;refine AB X (λh179=>?_) (λh179=>?_)
        ·have h179p:=odt h179;obtain ⟨x2,_,_,hx2,hA_x2⟩:=ex5 (i:=k) (M.rd hm.fls);have ox2:=ho.fls _ (Ac hx2);have ox21:=ox2.id;refine W ?_;refine fvm M 9 [16,15,12,11,1] [(192,.bool (b&&(!decide (x2.id=x.id))))] ?_ (λk183=>?_)
         ·intro w24 M;refine W ?_;refine fag ⟨k+1,(b&&(!decide (x2.id=x.id))),X,M,?_,?_,X⟩
          ·omega
          rw [hb,AS hx2,IH];simp only [Dv]
         refine A1 (d:=183) X (λh183=>?_) (λh183=>?_)
         ·refine W ?_;refine yd X (AK k hA_x2 X X X (sl X) A0) (gyq X (ym X X (BD Fl.len (M.rd hm.fls) hA_x2 hx2 0 X) (T3 ?_)));exact k183 M
         refine T9 ?_;exact k183 M
        have h179p:=odf h179;refine W ?_;have hkE:k=i:=by omega
        rw [hkE] at hb
        subst hb;refine W ?_;refine AB X (λh194=>?_) (λh194=>?_)
        ·refine W ?_;refine AZ X X X ?_;rw [AG hx,XG (v:=x.id) (by rw [Y1,if_pos h194])] at hE25
         exact ⟨by rw [NZ,AM h44,hE4,hE14,hE25];rfl,M.fr⟩
        have h194p:=BO h194;refine W ?_;refine fag ⟨i+1,X,(M.pk [1]),?_,?_,X⟩
        ·omega
        rw [hE25,AG hx,AS hx,XH (by rw [Y1,AM h194])]
       refine A1 (d:=173) X (λh173=>?_) (λh173=>?_)
       ·refine T3 ?_;exact k173 M
       refine T3 ?_;exact k173 M
      refine A1 (d:=167) X (λh167=>?_) (λh167=>?_)
      ·refine T5 ?_;exact k167 M
      refine T5 ?_;exact k167 M
     have h150p:=odf h150;refine W ?_;have hiE:i=m.fls.length:=by omega
     rw [hiE,Am] at hE25
     have hE25:=hE25.trans (show _=none from rfl);refine W ?_;exact AZ X X X ⟨by rw [NZ,AM h44,hE4,hE14,hE25];rfl,M.fr⟩
    refine A1 (d:=39) X (λh39=>?_) (λh39=>?_)
    ·refine T5 ?_;exact k39 M
    refine T5 ?_;exact k39 M
   refine A1 (d:=33) X (λh33=>?_) (λh33=>?_)
   ·refine T5 ?_;exact k33 M
   refine T5 ?_;exact k33 M
  refine A1 (d:=27) X (λh27=>?_) (λh27=>?_)
  ·refine T5 ?_;exact k27 M
  refine T5 ?_;exact k27 M
 refine A1 (d:=21) X (λh21=>?_) (λh21=>?_)
 ·refine T5 ?_;exact k21 M
 refine W ?_;refine sxl_call (some 24) kw X X (AD X X call159) (dO _ _ A0) ?_;rintro _ w25 ⟨rfl,hfw25⟩;refine cq ?_;have M:=M.step hfw25;refine T2 ?_;exact k21 M
end Go.Proofs.YtppmdnmjepkfaaaGreatDoor
